/- The walks, part 3. By program. -/
import Derived.Test.YtnpmbkaoeihdmaaDoorText
import Derived.Test.YtnpmbkaoeihdmaaDoorShelf
import Derived.Test.YtnpmbkaoeihdmaaDoorEqs
import Derived.Test.YtnpmbkaoeihdmaaDoorFnsF2
set_option linter.unusedVariables false
set_option linter.unusedSimpArgs false
namespace Go.Proofs.YtnpmbkaoeihdmaaDoor
open Go Go.Wk Go.Proofs
set_option maxRecDepth 100000
set_option maxHeartbeats 1000000

/- loop.example/g00869/spec.DrawEditText -/
theorem s_DrawEditText_ok {w : World} {κ : Col} {a0 : Option Addr} {u0 : Nat} {p0 : (List Int)} (g0 : Rd (Rp.int .u8) κ w 0 a0 u0 p0) {r : Edit} (h : s_DrawEditText p0 = some r) : Ret Tryd.prog 10 [.slice a0 p0.length u0] w (fun v w' => ∃ (κ' : Col), v = .agg #[.int .i64 r.Kind, .int .i64 r.V, .int .i64 r.N] ∧ Ent κ w κ' w') := by
 unfold s_DrawEditText at h
 refine Ret.enter Tryd.func10 rfl Tryd.ntmps10 rfl ?_
 dsimp only [envOf]
 have hE := Ent.refl κ w
 refine WC.seq ?_
 refine WC.rs [(0, 1)] rfl ?_
 refine WO.alloc (κ := κ) 2 rfl rfl rfl rfl rfl Tryd.zeroValue25 rfl fun b2 w1 K2 S3 f4 => ⟨trivial, ?_⟩
 refine WO.fin ?_
 refine DN.seq ?_
 refine WC.seq ?_
 refine WC.rs [(0, 2), (1, 1), (2, 2)] rfl ?_
 refine WO.pn 1 rfl ?_
 obtain ⟨x7, hx7, h⟩ := Option.bind_eq_some_iff.mp h
 have f5 := g0.stp S3 rfl rfl
 refine WO.call rfl rfl rfl rfl rfl rfl Tryd.call32 (s_l1New_ok (κ := fun b => mp [] 1 (K2 b)) (Sl.map f5 (mp [] 1) rfl rfl) hx7) ?_
 rintro _ w6 ⟨k7, a7_0, u7_0, b7, rfl, e8, f9, f10⟩
 obtain ⟨K11, S12, m13, z14⟩ := Ent.mixed0 (l := []) (κ := K2) e8 3 rfl
 refine ⟨trivial, ?_⟩
 have f15 := f9.mx z14
 have f16 := f10.mx m13 rfl (rfl : 3 + 3 = 6)
 refine WO.pn 1 rfl ?_
 refine WO.fin ?_
 refine DN.seq ?_
 refine WC.seq ?_
 refine WC.rs [(0, 2), (1, 1), (2, 2), (3, 2), (4, 2), (5, 1), (6, 1), (7, 1), (8, 1)] rfl ?_
 refine WO.pn 1 rfl ?_
 obtain ⟨x10, hx10, h⟩ := Option.bind_eq_some_iff.mp h
 refine WO.call rfl rfl rfl rfl rfl rfl Tryd.call33 (s_l32DrawPair_ok (κ := fun b => mp [(6, 2)] 0 (K11 b)) (p0 := x7) (Sl.map f15 (mp [(6, 2)] 0) rfl rfl) (f16.map (mp [(6, 2)] 0) rfl rfl) hx10) ?_
 rintro _ w17 ⟨k18, a10_0, u10_0, a10_1, u10_1, a10_2, u10_2, rfl, e19, f20, f21, f22, f23⟩
 obtain ⟨K24, S25, m26⟩ := Ent.mixed (l := [(6, 2)]) (κ := K11) e19 7 rfl
 refine ⟨trivial, ?_⟩
 have f28 := f20.mx (no_int _) m26 rfl (rfl : 7 + 3 = 10)
 have f29 := f21.mx (no_own (no_int _) _) m26 rfl (rfl : 7 + 4 = 11)
 have f30 := f22.mx (no_int _) m26 rfl (rfl : 7 + 5 = 12)
 have f31 := f23.mx m26 rfl (rfl : 7 + 2 = 9)
 refine WO.pn 3 rfl ?_
 refine WO.alloc (κ := K24) 13 rfl rfl rfl rfl rfl Tryd.zeroValue66 rfl fun b4 w32 K33 S34 f35 => ⟨trivial, ?_⟩
 refine WO.alloc (κ := K33) 14 rfl rfl rfl rfl rfl Tryd.zeroValue25 rfl fun b5 w36 K37 S38 f39 => ⟨trivial, ?_⟩
 have f40 := f35.stp S38 rfl rfl
 refine WO.stB0 (κ := K37) 13 (vc := [.slice a10_0 x10.1.Arena.Owner.length u10_0, .slice a10_1 x10.1.Arena.Next.length u10_1, .slice a10_2 x10.1.Prio.length u10_2]) rfl rfl rfl rfl rfl rfl rfl Tryd.sizeOf66 rfl rfl f40 rfl fun w41 S42 f43 => ⟨trivial, ?_⟩
 have f44 := f39.stp S42 rfl rfl
 refine WO.stB0 (κ := K37) 14 (vc := [.int .i64 x10.2.1.Kind, .int .i64 x10.2.1.V, .int .i64 x10.2.1.N]) rfl rfl rfl rfl rfl rfl rfl Tryd.sizeOf25 rfl rfl f44 rfl fun w45 S46 f47 => ⟨trivial, ?_⟩
 refine WO.fin ?_
 refine DN.seq ?_
 refine WC.seq ?_
 refine WC.seq ?_
 refine WC.rs [(0, 2), (1, 1)] rfl ?_
 refine WO.pn 1 rfl ?_
 obtain ⟨x14, hx14, h⟩ := Option.bind_eq_some_iff.mp h
 have f48 := f15.stp (S25.tr (S34.tr (S38.tr (S42.tr S46)))) rfl rfl
 have f49 := f31.stp (S34.tr (S38.tr (S42.tr S46))) rfl rfl
 refine WO.call rfl rfl rfl rfl rfl rfl Tryd.call34 (s_l1Once_ok (κ := fun b => mp [(9, 2)] 0 (K37 b)) (p0 := (⟨x7.b, x10.2.2.1, x10.2.2.2⟩ : l1Cur)) (Sl.map f48 (mp [(9, 2)] 0) rfl rfl) (f49.map (mp [(9, 2)] 0) rfl rfl) hx14) ?_
 rintro _ w50 ⟨k51, rfl, e52, f53⟩
 obtain ⟨K54, S55, m56⟩ := Ent.mixed (l := [(9, 2)]) (κ := K37) e52 15 rfl
 refine ⟨trivial, ?_⟩
 have f58 := f53.mx m56 rfl (rfl : 15 + 2 = 17)
 refine WO.fin ?_
 refine DN.seq ?_
 obtain ⟨q1, h, hK59⟩ := Option.bind_eq_some_iff.mp h
 refine WC.meet (fun L w' => ∃ (κ' : Col), L = [(2, .pointer (some ⟨b2, 0, none⟩)), (5, .pointer (some ⟨b5, 0, none⟩))] ∧ Stp [14, 17] K54 w50 κ' w' ∧ Bc κ' w' 14 b5 25 [.int .i64 x10.2.1.Kind, .int .i64 q1, .int .i64 x10.2.1.N]) ?_ ?_
 ·
  revert h
  cases ht64 : x14.1 with
  | true =>
   intro h; replace h := cT h
   refine WC.ct rfl ?_
   refine WC.rs [(0, 1), (1, 2), (2, 1), (3, 2), (4, 1), (5, 2), (6, 1)] rfl ?_
   refine WO.bl (κ := K54) (E := (Ep.int .i64)) 18 [] (parts := [(0, .const (.int .i64 255)), (1, .const (.int .i64 256))]) (cells := [.int .i64 255, .int .i64 256]) (xs := ([255, 256] : List Int)) rfl rfl rfl rfl rfl rfl Tryd.underlying60 Trydinfo2 rfl rfl rfl rfl rfl rfl rfl rfl rfl rfl ⟨[.int .i64 255], [.int .i64 256], Zl K54 w50 [], Zl K54 w50 [], rfl, Zl.sp (l1 := []) (l2 := []) rfl, Zl.sr (l1 := []) (l2 := []), rfl, ⟨[.int .i64 256], [], Zl K54 w50 [], Zl K54 w50 [], rfl, Zl.sp (l1 := []) (l2 := []) rfl, Zl.sr (l1 := []) (l2 := []), rfl, rfl⟩⟩ fun a15 u15 w65 K66 S67 f68 => ⟨trivial, ?_⟩
   refine WO.pn 1 rfl ?_
   obtain ⟨x17, hx17, h⟩ := Option.bind_eq_some_iff.mp h
   have f69 := f48.stp (S55.tr S67) rfl rfl
   have f70 := f58.stp S67 rfl rfl
   refine WO.call rfl rfl rfl rfl rfl rfl Tryd.call35 (s_l1Below_ok (κ := fun b => mp [(17, 2)] 0 (K66 b)) (p0 := (⟨x7.b, x14.2.1, x14.2.2⟩ : l1Cur)) (Sl.map f69 (mp [(17, 2)] 0) rfl rfl) (f70.map (mp [(17, 2)] 0) rfl rfl) hx17) ?_
   rintro _ w71 ⟨k72, rfl, e73, f74⟩
   obtain ⟨K75, S76, m77⟩ := Ent.mixed (l := [(17, 2)]) (κ := K66) e73 19 rfl
   refine ⟨trivial, ?_⟩
   have f79 := f74.mx m77 rfl (rfl : 19 + 2 = 21)
   obtain ⟨x18, hx18, h⟩ := Option.bind_eq_some_iff.mp h
   refine WO.k2 rfl rfl rfl rfl (rn_index f68.rdc hx18 Tryd.runUnderlying60 Tryd.sizeOf2 rfl rfl rfl rfl) ?_
   have f80 := f68.stp S76 rfl rfl
   refine WO.k1 trivial rfl rfl rfl rfl (rn_ld Tryd.isAgg2 rfl rfl (hvE (f80.rdc.gInt hx18))) ?_
   refine WO.k2 rfl rfl rfl rfl (rn_fieldAddr Tryd.runUnderlying25 rfl Tryd.sizeOf2 rfl rfl) ?_
   have f81 := f47.stp (S55.tr (S67.tr S76)) rfl rfl
   refine WO.stB (κ := K75) 14 (off := 1) (vc := [.int .i64 x18]) (cs' := [.int .i64 x10.2.1.Kind, .int .i64 x18, .int .i64 x10.2.1.N]) rfl rfl rfl rfl rfl rfl rfl Tryd.sizeOf2 rfl rfl f81 rfl rfl fun w82 S83 f84 => ⟨trivial, ?_⟩
   refine WO.fin ?_
   obtain rfl := Option.some.inj h
   exact DN.meet _ ⟨K75, rfl, (S67.tr (S76.tr S83)).wk rfl, f84⟩ fun a ha => (ha.more (ha.more ha.nil rfl) rfl)
  | false =>
   intro h; replace h := cF h
   refine WC.cf rfl ?_
   refine WC.skip ?_
   have f85 := f47.stp S55 rfl rfl
   obtain rfl := Option.some.inj h
   exact DN.meet _ ⟨K54, rfl, (Stp.refl _ _).wk rfl, f85⟩ fun a ha => (ha.more (ha.more ha.nil rfl) rfl)
 rintro _ w60 ⟨K61, rfl, S62, f63⟩
 have h := hK59
 refine DN.seq ?_
 refine WC.seq ?_
 refine WC.rs [(0, 1), (1, 1)] rfl ?_
 refine WO.k1 trivial rfl rfl rfl rfl (rn_la (cs := [.int .i64 x10.2.1.Kind, .int .i64 q1, .int .i64 x10.2.1.N]) Tryd.isAgg25 Tryd.sizeOf25 rfl rfl rfl (haE f63.cells)) ?_
 have f86 := f4.stp (S12.tr (S25.tr (S34.tr (S38.tr (S42.tr (S46.tr (S55.tr S62))))))) rfl rfl
 refine WO.stB0 (κ := K61) 2 (vc := [.int .i64 x10.2.1.Kind, .int .i64 q1, .int .i64 x10.2.1.N]) rfl rfl rfl rfl rfl rfl rfl Tryd.sizeOf25 rfl rfl f86 rfl fun w87 S88 f89 => ⟨trivial, ?_⟩
 refine WO.fin ?_
 refine DN.seq ?_
 refine WC.ret ?_
 have f90 := hE.stp (S3.tr (S12.tr (S25.tr (S34.tr (S38.tr (S42.tr (S46.tr (S55.tr (S62.tr S88))))))))) rfl rfl
 refine DN.res (l := [.cell 2 25]) Tryd.results10 (res_cellA rfl f89 Tryd.isAgg25 Tryd.sizeOf25 rfl rfl) rfl ?_
 obtain rfl := Option.some.inj h
 exact ⟨K61, rfl, f90⟩

/- loop.example/g00869/laws.FnEditText -/
theorem l_FnEditText_ok {w : World} {κ : Col} {a0 : Option Addr} {u0 : Nat} {p0 : (List Int)} (g0 : Rd (Rp.int .u8) κ w 0 a0 u0 p0) (gGE0 : Rd Rp.str κ w 0 (some ⟨0, 0, none⟩) 4 namesE0) (gGM : Vm 1 κ w) (gGT : Tb Tryd.prog "internal/strconv.uint64pow10" .u64 Lib.pow10Tab κ w) {r : Bool} (h : l_FnEditText p0 = some r) : Ret Tryd.prog 3 [.slice a0 p0.length u0] w (fun v w' => ∃ (κ' : Col), v = .bool r ∧ Ent κ w κ' w') := by
 unfold l_FnEditText at h
 refine Ret.enter Tryd.func3 rfl Tryd.ntmps3 rfl ?_
 dsimp only [envOf]
 have hE := Ent.refl κ w
 refine WC.seq ?_
 refine WC.rs [(0, 2)] rfl ?_
 refine WO.pn 1 rfl ?_
 refine WO.fin ?_
 refine DN.seq ?_
 refine WC.seq ?_
 refine WC.seq ?_
 refine WC.rs [(0, 2), (1, 1)] rfl ?_
 refine WO.pn 1 rfl ?_
 obtain ⟨x8, hx8, h⟩ := Option.bind_eq_some_iff.mp h
 refine WO.call rfl rfl rfl rfl rfl rfl Tryd.call9 (l_big_ok (κ := fun b => mp [] 0 (κ b)) (Sl.map g0 (mp [] 0) rfl rfl) hx8) ?_
 rintro _ w1 ⟨k2, rfl, e3⟩
 obtain ⟨K4, S5, m6⟩ := Ent.mixed (l := []) (κ := κ) e3 2 rfl
 refine ⟨trivial, ?_⟩
 refine WO.fin ?_
 refine DN.seq ?_
 revert h
 cases ht8 : x8 with
 | true =>
  intro h; replace h := cT h
  refine WC.ct rfl ?_
  refine WC.seq ?_
  refine WC.rs [(0, 2)] rfl ?_
  refine WO.pn 1 rfl ?_
  refine WO.fin ?_
  refine DN.seq ?_
  refine WC.ret ?_
  refine DN.retThen ?_
  have f9 := hE.stp S5 rfl rfl
  refine DN.res (l := [.tmp 2]) Tryd.results3 (res_tmp rfl rfl) rfl ?_
  obtain rfl := Option.some.inj h
  exact ⟨K4, rfl, f9⟩
 | false =>
  intro h; replace h := cF h
  refine WC.cf rfl ?_
  refine WC.skip ?_
  refine DN.seq ?_
  refine WC.seq ?_
  refine WC.rs [(0, 2), (1, 1), (2, 1), (3, 1)] rfl ?_
  refine WO.pn 1 rfl ?_
  obtain ⟨x10, hx10, h⟩ := Option.bind_eq_some_iff.mp h
  have f10 := g0.stp S5 rfl rfl
  refine WO.call rfl rfl rfl rfl rfl rfl Tryd.call10 (s_DrawEditText_ok (κ := fun b => mp [] 0 (K4 b)) (Sl.map f10 (mp [] 0) rfl rfl) hx10) ?_
  rintro _ w11 ⟨k12, rfl, e13⟩
  obtain ⟨K14, S15, m16⟩ := Ent.mixed (l := []) (κ := K4) e13 4 rfl
  refine ⟨trivial, ?_⟩
  refine WO.alloc (κ := K14) 6 rfl rfl rfl rfl rfl Tryd.zeroValue25 rfl fun b3 w18 K19 S20 f21 => ⟨trivial, ?_⟩
  refine WO.stB0 (κ := K19) 6 (vc := [.int .i64 x10.Kind, .int .i64 x10.V, .int .i64 x10.N]) rfl rfl rfl rfl rfl rfl rfl Tryd.sizeOf25 rfl rfl f21 rfl fun w22 S23 f24 => ⟨trivial, ?_⟩
  refine WO.fin ?_
  refine DN.seq ?_
  refine WC.seq ?_
  refine WC.rs [(0, 1), (1, 1), (2, 2)] rfl ?_
  refine WO.k1 trivial rfl rfl rfl rfl (rn_la (cs := [.int .i64 x10.Kind, .int .i64 x10.V, .int .i64 x10.N]) Tryd.isAgg25 Tryd.sizeOf25 rfl rfl rfl (haE f24.cells)) ?_
  obtain ⟨x12, hx12, h⟩ := Option.bind_eq_some_iff.mp h
  have f25 := gGE0.stp (S5.tr (S15.tr (S20.tr S23))) rfl rfl
  have f26 := gGT.stp (S5.tr (S15.tr (S20.tr S23))) rfl rfl
  refine WO.call rfl rfl rfl rfl rfl rfl Tryd.call11 (i_EditText_ok (κ := fun b => mp [] 0 (K19 b)) (p0 := x10) (f25.map (mp [] 0) rfl rfl) (f26.map (mp [] 0) rfl rfl) hx12) ?_
  rintro _ w27 ⟨k28, rfl, e29⟩
  obtain ⟨K30, S31, m32⟩ := Ent.mixed (l := []) (κ := K19) e29 7 rfl
  refine ⟨trivial, ?_⟩
  refine WO.pn 1 rfl ?_
  refine WO.fin ?_
  refine DN.seq ?_
  refine WC.seq ?_
  refine WC.seq ?_
  refine WC.rs [(0, 2), (1, 1), (2, 1), (3, 2)] rfl ?_
  refine WO.pn 1 rfl ?_
  have f34 := f24.stp S31 rfl rfl
  refine WO.k1 trivial rfl rfl rfl rfl (rn_la (cs := [.int .i64 x10.Kind, .int .i64 x10.V, .int .i64 x10.N]) Tryd.isAgg25 Tryd.sizeOf25 rfl rfl rfl (haE f34.cells)) ?_
  obtain ⟨x15, hx15, h⟩ := Option.bind_eq_some_iff.mp h
  refine WO.call rfl rfl rfl rfl rfl rfl Tryd.call12 (s_EditText_ok (κ := fun b => mp [] 0 (K30 b)) (p0 := x10) hx15) ?_
  rintro _ w35 ⟨k36, rfl, e37⟩
  obtain ⟨K38, S39, m40⟩ := Ent.mixed (l := []) (κ := K30) e37 9 rfl
  refine ⟨trivial, ?_⟩
  refine WO.k2 rfl rfl rfl rfl (rn_neqSt rfl rfl rfl) ?_
  refine WO.fin ?_
  refine DN.seq ?_
  revert h
  cases ht42 : (!(eqB x12 x15)) with
  | true =>
   intro h; replace h := cT h
   refine WC.ct rfl ?_
   refine WC.seq ?_
   refine WC.rs [(0, 2)] rfl ?_
   refine WO.pn 1 rfl ?_
   refine WO.fin ?_
   refine DN.seq ?_
   refine WC.ret ?_
   refine DN.retThen ?_
   have f43 := hE.stp (S5.tr (S15.tr (S20.tr (S23.tr (S31.tr S39))))) rfl rfl
   refine DN.res (l := [.tmp 2]) Tryd.results3 (res_tmp rfl rfl) rfl ?_
   obtain rfl := Option.some.inj h
   exact ⟨K38, rfl, f43⟩
  | false =>
   intro h; replace h := cF h
   refine WC.cf rfl ?_
   refine WC.skip ?_
   refine DN.seq ?_
   refine WC.seq ?_
   refine WC.rs [(0, 2), (1, 1), (2, 2), (3, 2), (4, 2), (5, 1), (6, 1), (7, 2)] rfl ?_
   refine WO.pn 1 rfl ?_
   obtain ⟨x19, hx19, h⟩ := Option.bind_eq_some_iff.mp h
   have f44 := f25.stp (S31.tr S39) rfl rfl
   have f45 := gGM.stp (S5.tr (S15.tr (S20.tr (S23.tr (S31.tr S39))))) rfl rfl
   refine WO.call rfl rfl rfl rfl rfl rfl Tryd.call13 (i_TextEdit_ok (κ := fun b => mp [] 0 (K38 b)) (f44.map (mp [] 0) rfl rfl) (f45.map (mp [] 0) rfl rfl) hx19) ?_
   rintro _ w46 ⟨k47, rfl, e48⟩
   obtain ⟨K49, S50, m51⟩ := Ent.mixed (l := []) (κ := K38) e48 11 rfl
   refine ⟨trivial, ?_⟩
   refine WO.pn 3 rfl ?_
   refine WO.alloc (κ := K49) 13 rfl rfl rfl rfl rfl Tryd.zeroValue25 rfl fun b5 w53 K54 S55 f56 => ⟨trivial, ?_⟩
   refine WO.stB0 (κ := K54) 13 (vc := [.int .i64 x19.1.Kind, .int .i64 x19.1.V, .int .i64 x19.1.N]) rfl rfl rfl rfl rfl rfl rfl Tryd.sizeOf25 rfl rfl f56 rfl fun w57 S58 f59 => ⟨trivial, ?_⟩
   refine WO.pn 1 rfl ?_
   refine WO.fin ?_
   refine DN.seq ?_
   refine WC.seq ?_
   refine WC.rs [(0, 2), (1, 2), (2, 2), (3, 2), (4, 2), (5, 2), (6, 2), (7, 2), (8, 1), (9, 1), (10, 2), (11, 2), (12, 2), (13, 2)] rfl ?_
   refine WO.pn 2 rfl ?_
   refine WO.k2 rfl rfl rfl rfl (rn_neqSt rfl rfl rfl) ?_
   refine WO.k2 rfl rfl rfl rfl (rn_eqlB rfl rfl Tryd.runUnderlying4 rfl) ?_
   refine WO.pn 1 rfl ?_
   obtain ⟨p34, h, hK60⟩ := Option.bind_eq_some_iff.mp h
   refine WO.meet [(5, 2), (6, 2), (7, 2), (8, 1), (9, 1), (10, 2), (11, 2), (12, 2)] [(13, 2)] (fun L w' => L = [(2, .bool false), (34, .bool p34)] ∧ ∃ κ', Stp [] K54 w57 κ' w') trivial ?_ ?_
   ·
    revert h
    cases ht61 : (x19.2 == (!(eqB x12 (ByteArray.mk #[])))) with
    | true =>
     intro h; replace h := cT h
     refine WO.pn 3 rfl ?_
     obtain ⟨p33, h, hK62⟩ := Option.bind_eq_some_iff.mp h
     refine WO.meet [(8, 1), (9, 1), (10, 2), (11, 2)] [(12, 2)] (fun L w' => L = [(2, .bool false), (26, .bool true), (33, .bool p33)] ∧ ∃ κ', Stp [] K54 w57 κ' w') trivial ?_ ?_
     ·
      revert h
      cases ht63 : (!x19.2) with
      | true =>
       intro h; replace h := cT h
       refine WO.ls rfl rfl rfl rfl ?_
       refine WO.ls rfl rfl rfl rfl ?_
       refine WO.pn 2 rfl ?_
       obtain rfl := Option.some.inj h
       exact WO.met _ trivial ⟨rfl, _, (Stp.refl _ _).wk rfl⟩ fun a ha => (ha.more (ha.more (ha.more ha.nil rfl) rfl) rfl)
      | false =>
       intro h; replace h := cF h
       refine WO.k1 trivial rfl rfl rfl rfl (rn_la (cs := [.int .i64 x19.1.Kind, .int .i64 x19.1.V, .int .i64 x19.1.N]) Tryd.isAgg25 Tryd.sizeOf25 rfl rfl rfl (haE f59.cells)) ?_
       have f64 := f34.stp (S39.tr (S50.tr (S55.tr S58))) rfl rfl
       refine WO.k1 trivial rfl rfl rfl rfl (rn_la (cs := [.int .i64 x10.Kind, .int .i64 x10.V, .int .i64 x10.N]) Tryd.isAgg25 Tryd.sizeOf25 rfl rfl rfl (haE f64.cells)) ?_
       refine WO.k2 rfl rfl rfl rfl (rn_eqlS3 Tryd.underlying25 (by kernel_rfl) (by kernel_rfl) rfl rfl rfl rfl rfl rfl Tryd.isAgg2 Tryd.isAgg2 Tryd.isAgg2 Tryd.runUnderlying2 Tryd.runUnderlying2 Tryd.runUnderlying2 rfl rfl rfl) ?_
       refine WO.pn 1 rfl ?_
       obtain rfl := Option.some.inj h
       exact WO.met _ trivial ⟨rfl, _, (Stp.refl _ _).wk rfl⟩ fun a ha => (ha.more (ha.more (ha.more ha.nil rfl) rfl) rfl)
     rintro _ w65 _ ⟨rfl, K66, S67⟩
     have h := hK62
     refine WO.pn 1 rfl ?_
     obtain rfl := Option.some.inj h
     exact WO.met _ trivial ⟨rfl, _, S67.wk rfl⟩ fun a ha => (ha.more (ha.more ha.nil rfl) rfl)
    | false =>
     intro h; replace h := cF h
     refine WO.pn 3 rfl ?_
     refine WO.ls rfl rfl rfl rfl ?_
     refine WO.ls rfl rfl rfl rfl ?_
     refine WO.pn 3 rfl ?_
     obtain rfl := Option.some.inj h
     exact WO.met _ trivial ⟨rfl, _, (Stp.refl _ _).wk rfl⟩ fun a ha => (ha.more (ha.more ha.nil rfl) rfl)
   rintro _ w68 _ ⟨rfl, K69, S70⟩
   have h := hK60
   refine WO.pn 1 rfl ?_
   refine WO.fin ?_
   refine DN.seq ?_
   refine WC.ret ?_
   have f71 := hE.stp (S5.tr (S15.tr (S20.tr (S23.tr (S31.tr (S39.tr (S50.tr (S55.tr (S58.tr S70))))))))) rfl rfl
   refine DN.res (l := [.tmp 2]) Tryd.results3 (res_tmp rfl rfl) rfl ?_
   obtain rfl := Option.some.inj h
   exact ⟨K69, rfl, f71⟩

end Go.Proofs.YtnpmbkaoeihdmaaDoor
