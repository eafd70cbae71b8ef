/- The walks, part 5. By program. -/
import Derived.Test.YtndiklipffipcaaSort
import Derived.Test.YtndiklipffipcaaShelf
import Derived.Test.YtndiklipffipcaaFnsT2
import Derived.Test.YtndiklipffipcaaFnsT3
set_option linter.unusedVariables false
set_option linter.unusedSimpArgs false
namespace Go.Proofs.Ytndiklipffipcaa
open Go Go.Wk Go.Proofs
set_option maxRecDepth 100000
set_option maxHeartbeats 1000000

/- loop.example/g00869/laws.szArena -/
theorem l_szArena_ok {w : World} {κ : Col} {a0_0 : Option Addr} {u0_0 : Nat} {a0_1 : Option Addr} {u0_1 : Nat} {p0 : Arena} {p1 : Int} (g0_0 : Rd (Rp.int .i64) κ w 0 a0_0 u0_0 p0.Owner) (g0_1 : Rd (Rp.sl (Rp.int .i64)) κ w 0 a0_1 u0_1 p0.Next) {r : Int} (h : l_szArena p0 p1 = some r) : Ret Try.prog 36 [.agg #[.slice a0_0 p0.Owner.length u0_0, .slice a0_1 p0.Next.length u0_1], .int .i64 p1] w (fun v w' => ∃ (κ' : Col), v = .int .i64 r ∧ Ent κ w κ' w') := by
 unfold l_szArena at h
 refine Ret.enter Try.func36 rfl Try.ntmps36 rfl ?_
 dsimp only [envOf]
 have hE := Ent.refl κ w
 refine WC.seq ?_
 refine WC.rs [(0, 1), (1, 2)] rfl ?_
 refine WO.box (κ := κ) 2 rfl rfl rfl rfl rfl rfl rfl fun b2 w1 K2 S3 f4 => ⟨trivial, ?_⟩
 refine WO.pn 1 rfl ?_
 refine WO.fin ?_
 refine DN.seq ?_
 refine WC.seq ?_
 refine WC.rs [(0, 2), (1, 1), (2, 2), (3, 1), (4, 2)] rfl ?_
 refine WO.k2 rfl rfl rfl rfl (rn_fieldAddr Try.runUnderlying25 rfl Try.sizeOf22 rfl rfl) ?_
 refine WO.k1 trivial rfl rfl rfl rfl (rn_ld Try.isAgg22 rfl rfl (hvE (f4.ld 0 rfl rfl))) ?_
 refine WO.pn 1 rfl ?_
 obtain ⟨x8, hx8, h⟩ := Option.bind_eq_some_iff.mp h
 have f5 := g0_0.stp S3 rfl rfl
 refine WO.call rfl rfl rfl rfl rfl rfl Try.call37 (l_szInt64S_ok (κ := fun b => mp [] 0 (K2 b)) (Sl.map f5 (mp [] 0) rfl rfl) hx8) ?_
 rintro _ w6 ⟨k7, rfl, e8⟩
 obtain ⟨K9, S10, m11⟩ := Ent.mixed (l := []) (κ := K2) e8 3 rfl
 refine ⟨trivial, ?_⟩
 refine WO.pn 1 rfl ?_
 refine WO.fin ?_
 refine DN.seq ?_
 refine WC.seq ?_
 refine WC.seq ?_
 refine WC.rs [(0, 2), (1, 2)] rfl ?_
 refine WO.pn 2 rfl ?_
 refine WO.fin ?_
 refine DN.seq ?_
 revert h
 cases ht13 : decide (x8 < 0) with
 | true =>
  intro h; replace h := cT h
  refine WC.ct rfl ?_
  refine WC.seq ?_
  refine WC.rs [(0, 2)] rfl ?_
  refine WO.pn 1 rfl ?_
  refine WO.fin ?_
  refine DN.seq ?_
  refine WC.ret ?_
  refine DN.retThen ?_
  have f14 := hE.stp (S3.tr S10) rfl rfl
  refine DN.res (l := [.tmp 4]) Try.results36 (res_tmp rfl rfl) rfl ?_
  obtain rfl := Option.some.inj h
  exact ⟨K9, rfl, f14⟩
 | false =>
  intro h; replace h := cF h
  refine WC.cf rfl ?_
  refine WC.skip ?_
  refine DN.seq ?_
  refine WC.seq ?_
  refine WC.rs [(0, 2), (1, 1), (2, 2), (3, 1), (4, 2)] rfl ?_
  refine WO.k2 rfl rfl rfl rfl (rn_fieldAddr Try.runUnderlying25 rfl Try.sizeOf23 rfl rfl) ?_
  have f15 := f4.stp S10 rfl rfl
  refine WO.k1 trivial rfl rfl rfl rfl (rn_ld Try.isAgg23 rfl rfl (hvE (f15.ld 1 rfl rfl))) ?_
  refine WO.pn 1 rfl ?_
  obtain ⟨x14, hx14, h⟩ := Option.bind_eq_some_iff.mp h
  have f16 := g0_1.stp (S3.tr S10) rfl rfl
  refine WO.call rfl rfl rfl rfl rfl rfl Try.call17 (l_szInt64SS_ok (κ := fun b => mp [] 0 (K9 b)) (Sl.map f16 (mp [] 0) rfl rfl) hx14) ?_
  rintro _ w17 ⟨k18, rfl, e19⟩
  obtain ⟨K20, S21, m22⟩ := Ent.mixed (l := []) (κ := K9) e19 5 rfl
  refine ⟨trivial, ?_⟩
  refine WO.pn 1 rfl ?_
  refine WO.fin ?_
  refine DN.seq ?_
  refine WC.seq ?_
  refine WC.seq ?_
  refine WC.rs [(0, 2), (1, 2)] rfl ?_
  refine WO.pn 2 rfl ?_
  refine WO.fin ?_
  refine DN.seq ?_
  revert h
  cases ht24 : decide (x14 < 0) with
  | true =>
   intro h; replace h := cT h
   refine WC.ct rfl ?_
   refine WC.seq ?_
   refine WC.rs [(0, 2)] rfl ?_
   refine WO.pn 1 rfl ?_
   refine WO.fin ?_
   refine DN.seq ?_
   refine WC.ret ?_
   refine DN.retThen ?_
   have f25 := hE.stp (S3.tr (S10.tr S21)) rfl rfl
   refine DN.res (l := [.tmp 4]) Try.results36 (res_tmp rfl rfl) rfl ?_
   obtain rfl := Option.some.inj h
   exact ⟨K20, rfl, f25⟩
  | false =>
   intro h; replace h := cF h
   refine WC.cf rfl ?_
   refine WC.skip ?_
   refine DN.seq ?_
   refine WC.seq ?_
   refine WC.rs [(0, 2), (1, 2)] rfl ?_
   refine WO.pn 2 rfl ?_
   refine WO.fin ?_
   refine DN.seq ?_
   refine WC.ret ?_
   have f26 := hE.stp (S3.tr (S10.tr S21)) rfl rfl
   refine DN.res (l := [.tmp 4]) Try.results36 (res_tmp rfl rfl) rfl ?_
   obtain rfl := Option.some.inj h
   exact ⟨K20, rfl, f26⟩

/- loop.example/g00869/laws.toArena -/
theorem l_toArena_ok {w : World} {κ : Col} {a0_0 : Option Addr} {u0_0 : Nat} {a0_1 : Option Addr} {u0_1 : Nat} {p0 : Arena} (g0_0 : Rd (Rp.int .i64) κ w 0 a0_0 u0_0 p0.Owner) (g0_1 : Rd (Rp.sl (Rp.int .i64)) κ w 0 a0_1 u0_1 p0.Next) {r : Arena} (h : l_toArena p0 = some r) : Ret Try.prog 41 [.agg #[.slice a0_0 p0.Owner.length u0_0, .slice a0_1 p0.Next.length u0_1]] w (fun v w' => ∃ (κ' : Col) (ra0 : Option Addr) (ru0 : Nat) (ra1 : Option Addr) (ru1 : Nat), v = .agg #[.slice ra0 r.Owner.length ru0, .slice ra1 r.Next.length ru1] ∧ Ent κ w κ' w' ∧ Oc (Ep.int .i64) 2 κ' w' 2 ra0 ru0 r.Owner ∧ Oc (Ep.own (Ep.int .i64) 2) 22 κ' w' 3 ra1 ru1 r.Next) := by
 unfold l_toArena at h
 refine Ret.enter Try.func41 rfl Try.ntmps41 rfl ?_
 dsimp only [envOf]
 have hE := Ent.refl κ w
 refine WC.seq ?_
 refine WC.rs [(0, 1), (1, 1)] rfl ?_
 refine WO.box (κ := κ) 2 rfl rfl rfl rfl rfl rfl rfl fun b1 w1 K2 S3 f4 => ⟨trivial, ?_⟩
 refine WO.alloc (κ := K2) 3 rfl rfl rfl rfl rfl Try.zeroValue32 rfl fun b2 w5 K6 S7 f8 => ⟨trivial, ?_⟩
 refine WO.fin ?_
 refine DN.seq ?_
 refine WC.seq ?_
 refine WC.rs [(0, 1)] rfl ?_
 refine WO.alloc (κ := K6) 4 rfl rfl rfl rfl rfl Try.zeroValue32 rfl fun b3 w9 K10 S11 f12 => ⟨trivial, ?_⟩
 refine WO.fin ?_
 refine DN.seq ?_
 refine WC.seq ?_
 refine WC.rs [(0, 2), (1, 1), (2, 1), (3, 2), (4, 1)] rfl ?_
 refine WO.k2 rfl rfl rfl rfl (rn_fieldAddr Try.runUnderlying25 rfl Try.sizeOf22 rfl rfl) ?_
 have f13 := f4.stp (S7.tr S11) rfl rfl
 refine WO.k1 trivial rfl rfl rfl rfl (rn_ld Try.isAgg22 rfl rfl (hvE (f13.ld 0 rfl rfl))) ?_
 obtain ⟨x6, hx6, h⟩ := Option.bind_eq_some_iff.mp h
 have f14 := g0_0.stp (S3.tr (S7.tr S11)) rfl rfl
 refine WO.call rfl rfl rfl rfl rfl rfl Try.call22 (l_toInt64S_ok (κ := fun b => mp [] 0 (K10 b)) (Sl.map f14 (mp [] 0) rfl rfl) hx6) ?_
 rintro _ w15 ⟨k16, a6_0, u6_0, rfl, e17, f18⟩
 obtain ⟨K19, S20, m21⟩ := Ent.mixed (l := []) (κ := K10) e17 5 rfl
 refine ⟨trivial, ?_⟩
 have f23 := f18.mx (no_int _) m21 rfl (rfl : 5 + 2 = 7)
 refine WO.k2 rfl rfl rfl rfl (rn_fieldAddr Try.runUnderlying32 rfl Try.sizeOf22 rfl rfl) ?_
 have f24 := f12.stp S20 rfl rfl
 refine WO.stB (κ := K19) 4 (off := 0) (vc := [.slice a6_0 x6.length u6_0]) (cs' := [.slice a6_0 x6.length u6_0, .slice none 0 0]) rfl rfl rfl rfl rfl rfl rfl Try.sizeOf22 rfl rfl f24 rfl rfl fun w25 S26 f27 => ⟨trivial, ?_⟩
 refine WO.fin ?_
 refine DN.seq ?_
 refine WC.seq ?_
 refine WC.rs [(0, 2), (1, 1), (2, 1), (3, 2), (4, 1)] rfl ?_
 refine WO.k2 rfl rfl rfl rfl (rn_fieldAddr Try.runUnderlying25 rfl Try.sizeOf23 rfl rfl) ?_
 have f28 := f13.stp (S20.tr S26) rfl rfl
 refine WO.k1 trivial rfl rfl rfl rfl (rn_ld Try.isAgg23 rfl rfl (hvE (f28.ld 1 rfl rfl))) ?_
 obtain ⟨x10, hx10, h⟩ := Option.bind_eq_some_iff.mp h
 have f29 := g0_1.stp (S3.tr (S7.tr (S11.tr (S20.tr S26)))) rfl rfl
 refine WO.call rfl rfl rfl rfl rfl rfl Try.call20 (l_toInt64SS_ok (κ := fun b => mp [] 0 (K19 b)) (Sl.map f29 (mp [] 0) rfl rfl) hx10) ?_
 rintro _ w30 ⟨k31, a10_0, u10_0, rfl, e32, f33⟩
 obtain ⟨K34, S35, m36⟩ := Ent.mixed (l := []) (κ := K19) e32 8 rfl
 refine ⟨trivial, ?_⟩
 have f38 := f33.mx (no_own (no_int _) _) m36 rfl (rfl : 8 + 2 = 10)
 refine WO.k2 rfl rfl rfl rfl (rn_fieldAddr Try.runUnderlying32 rfl Try.sizeOf23 rfl rfl) ?_
 have f39 := f27.stp S35 rfl rfl
 refine WO.stB (κ := K34) 4 (off := 1) (vc := [.slice a10_0 x10.length u10_0]) (cs' := [.slice a6_0 x6.length u6_0, .slice a10_0 x10.length u10_0]) rfl rfl rfl rfl rfl rfl rfl Try.sizeOf23 rfl rfl f39 rfl rfl fun w40 S41 f42 => ⟨trivial, ?_⟩
 refine WO.fin ?_
 refine DN.seq ?_
 refine WC.seq ?_
 refine WC.rs [(0, 1), (1, 1)] rfl ?_
 refine WO.k1 trivial rfl rfl rfl rfl (rn_la (cs := [.slice a6_0 x6.length u6_0, .slice a10_0 x10.length u10_0]) Try.isAgg32 Try.sizeOf32 rfl rfl rfl (haE f42.cells)) ?_
 have f43 := f8.stp (S11.tr (S20.tr (S26.tr (S35.tr S41)))) rfl rfl
 refine WO.stB0 (κ := K34) 3 (vc := [.slice a6_0 x6.length u6_0, .slice a10_0 x10.length u10_0]) rfl rfl rfl rfl rfl rfl rfl Try.sizeOf32 rfl rfl f43 rfl fun w44 S45 f46 => ⟨trivial, ?_⟩
 refine WO.fin ?_
 refine DN.seq ?_
 refine WC.ret ?_
 have f47 := hE.stp (S3.tr (S7.tr (S11.tr (S20.tr (S26.tr (S35.tr (S41.tr S45))))))) rfl rfl
 have f48 := f23.stp (S26.tr (S35.tr (S41.tr S45))) rfl rfl
 have f49 := f38.stp (S41.tr S45) rfl rfl
 refine DN.res (l := [.cell 2 32]) Try.results41 (res_cellA rfl f46 Try.isAgg32 Try.sizeOf32 rfl rfl) rfl ?_
 obtain rfl := Option.some.inj h
 exact ⟨(fun b => ren [(7, 2), (10, 3)] (K34 b)), a6_0, u6_0, a10_0, u10_0, rfl, (f47.map (ren [(7, 2), (10, 3)]) rfl rfl), (f48.map (ren [(7, 2), (10, 3)]) rfl rfl), (f49.map (ren [(7, 2), (10, 3)]) rfl rfl)⟩

/- loop.example/g00869/spec.l1Set -/
theorem s_l1Set_ok {w : World} {κ : Col} {a0 : Option Addr} {u0 : Nat} {p0 : (List Int)} {p1 : Int} (g0 : Rd (Rp.int .i64) κ w 0 a0 u0 p0) {r : Bool} (h : s_l1Set p0 p1 = some r) : Ret Try.prog 50 [.slice a0 p0.length u0, .int .i64 p1] w (fun v w' => ∃ (κ' : Col), v = .bool r ∧ Ent κ w κ' w') := by
 unfold s_l1Set at h
 refine Ret.enter Try.func50 rfl Try.ntmps50 rfl ?_
 dsimp only [envOf]
 have hE := Ent.refl κ w
 refine WC.seq ?_
 refine WC.rs [(0, 2)] rfl ?_
 refine WO.pn 1 rfl ?_
 refine WO.fin ?_
 refine DN.seq ?_
 refine WC.seq ?_
 refine WC.rs [(0, 2), (1, 2), (2, 2), (3, 2), (4, 2), (5, 2), (6, 2), (7, 1), (8, 2), (9, 2)] rfl ?_
 refine WO.pn 1 rfl ?_
 refine WO.k2 rfl rfl rfl rfl (rn_len Try.runUnderlying22 rfl rfl) ?_
 refine WO.pn 3 rfl ?_
 obtain ⟨p13, h, hK1⟩ := Option.bind_eq_some_iff.mp h
 refine WO.meet [(5, 2), (6, 2), (7, 1), (8, 2)] [(9, 2)] (fun L w' => L = [(4, .bool false), (13, .bool p13)] ∧ ∃ κ', Stp [] κ w κ' w') trivial ?_ ?_
 ·
  revert h
  cases ht2 : decide ((p0.length : Int) ≤ p1) with
  | true =>
   intro h; replace h := cT h
   refine WO.pn 2 rfl ?_
   obtain ⟨x12, hx12, h⟩ := Option.bind_eq_some_iff.mp h
   refine WO.call rfl rfl rfl rfl rfl rfl Try.call94 (s_l1Rises_ok (κ := fun b => mp [] 0 (κ b)) (Sl.map g0 (mp [] 0) rfl rfl) hx12) ?_
   rintro _ w3 ⟨k4, rfl, e5⟩
   obtain ⟨K6, S7, m8⟩ := Ent.mixed (l := []) (κ := κ) e5 2 rfl
   refine ⟨trivial, ?_⟩
   refine WO.pn 1 rfl ?_
   obtain rfl := Option.some.inj h
   exact WO.met _ trivial ⟨rfl, _, S7.wk rfl⟩ fun a ha => (ha.more (ha.more ha.nil rfl) rfl)
  | false =>
   intro h; replace h := cF h
   refine WO.pn 2 rfl ?_
   refine WO.ls rfl rfl rfl rfl ?_
   refine WO.pn 1 rfl ?_
   obtain rfl := Option.some.inj h
   exact WO.met _ trivial ⟨rfl, _, (Stp.refl _ _).wk rfl⟩ fun a ha => (ha.more (ha.more ha.nil rfl) rfl)
 rintro _ w10 _ ⟨rfl, K11, S12⟩
 have h := hK1
 refine WO.pn 1 rfl ?_
 refine WO.fin ?_
 refine DN.seq ?_
 refine WC.ret ?_
 have f13 := hE.stp S12 rfl rfl
 refine DN.res (l := [.tmp 4]) Try.results50 (res_tmp rfl rfl) rfl ?_
 obtain rfl := Option.some.inj h
 exact ⟨K11, rfl, f13⟩

/- loop.example/g00869/impl.isEdit -/
theorem i_isEdit_ok {w : World} {κ : Col} {a0_0_0 : Option Addr} {u0_0_0 : Nat} {a0_0_1 : Option Addr} {u0_0_1 : Nat} {a0_1 : Option Addr} {u0_1 : Nat} {p0 : Parity} {p1 : Edit} (g0_0_0 : Rd (Rp.int .i64) κ w 0 a0_0_0 u0_0_0 p0.Arena.Owner) (g0_0_1 : Rd (Rp.sl (Rp.int .i64)) κ w 0 a0_0_1 u0_0_1 p0.Arena.Next) (g0_1 : Rd (Rp.int .i64) κ w 0 a0_1 u0_1 p0.Prio) {r : Bool} (h : i_isEdit p0 p1 = some r) : Ret Try.prog 43 [.agg #[.slice a0_0_0 p0.Arena.Owner.length u0_0_0, .slice a0_0_1 p0.Arena.Next.length u0_0_1, .slice a0_1 p0.Prio.length u0_1], .agg #[.int .i64 p1.Kind, .int .i64 p1.V, .int .i64 p1.N]] w (fun v w' => ∃ (κ' : Col), v = .bool r ∧ Ent κ w κ' w') := by
 unfold i_isEdit at h
 refine Ret.enter Try.func43 rfl Try.ntmps43 rfl ?_
 dsimp only [envOf]
 have hE := Ent.refl κ w
 refine WC.seq ?_
 refine WC.rs [(0, 1), (1, 1), (2, 2)] rfl ?_
 refine WO.box (κ := κ) 2 rfl rfl rfl rfl rfl rfl rfl fun b2 w1 K2 S3 f4 => ⟨trivial, ?_⟩
 refine WO.box (κ := K2) 3 rfl rfl rfl rfl rfl rfl rfl fun b3 w5 K6 S7 f8 => ⟨trivial, ?_⟩
 refine WO.pn 1 rfl ?_
 refine WO.fin ?_
 refine DN.seq ?_
 refine WC.seq ?_
 refine WC.seq ?_
 refine WC.rs [(0, 2), (1, 1), (2, 2), (3, 1), (4, 1), (5, 2)] rfl ?_
 refine WO.k2 rfl rfl rfl rfl (rn_fieldAddr Try.runUnderlying34 rfl Try.sizeOf32 rfl rfl) ?_
 have f9 := f4.stp S7 rfl rfl
 refine WO.k1 trivial rfl rfl rfl rfl (rn_la (cs := [.slice a0_0_0 p0.Arena.Owner.length u0_0_0, .slice a0_0_1 p0.Arena.Next.length u0_0_1]) Try.isAgg32 Try.sizeOf32 rfl rfl rfl (haE (f9.lds 0 2 rfl))) ?_
 refine WO.k2 rfl rfl rfl rfl (rn_fieldAddr Try.runUnderlying36 rfl Try.sizeOf2 rfl rfl) ?_
 refine WO.k1 trivial rfl rfl rfl rfl (rn_ld Try.isAgg2 rfl rfl (hvE (f8.ld 1 rfl rfl))) ?_
 obtain ⟨x10, hx10, h⟩ := Option.bind_eq_some_iff.mp h
 have f10 := g0_0_0.stp (S3.tr S7) rfl rfl
 have f11 := g0_0_1.stp (S3.tr S7) rfl rfl
 refine WO.call rfl rfl rfl rfl rfl rfl Try.call84 (i_hasVertex_ok (κ := fun b => mp [] 0 (K6 b)) (p0 := p0.Arena) (Sl.map f10 (mp [] 0) rfl rfl) (Sl.map f11 (mp [] 0) rfl rfl) hx10) ?_
 rintro _ w12 ⟨k13, rfl, e14⟩
 obtain ⟨K15, S16, m17⟩ := Ent.mixed (l := []) (κ := K6) e14 4 rfl
 refine ⟨trivial, ?_⟩
 refine WO.pn 1 rfl ?_
 refine WO.fin ?_
 refine DN.seq ?_
 revert h
 cases ht19 : (!x10) with
 | true =>
  intro h; replace h := cT h
  refine WC.ct rfl ?_
  refine WC.seq ?_
  refine WC.rs [(0, 2)] rfl ?_
  refine WO.pn 1 rfl ?_
  refine WO.fin ?_
  refine DN.seq ?_
  refine WC.ret ?_
  refine DN.retThen ?_
  have f20 := hE.stp (S3.tr (S7.tr S16)) rfl rfl
  refine DN.res (l := [.tmp 4]) Try.results43 (res_tmp rfl rfl) rfl ?_
  obtain rfl := Option.some.inj h
  exact ⟨K15, rfl, f20⟩
 | false =>
  intro h; replace h := cF h
  refine WC.cf rfl ?_
  refine WC.skip ?_
  refine DN.seq ?_
  refine WC.seq ?_
  refine WC.rs [(0, 2), (1, 2), (2, 1), (3, 2), (4, 1), (5, 2), (6, 1), (7, 2)] rfl ?_
  refine WO.k2 rfl rfl rfl rfl (rn_fieldAddr Try.runUnderlying34 rfl Try.sizeOf32 rfl rfl) ?_
  refine WO.k2 rfl rfl rfl rfl (rn_fieldAddr Try.runUnderlying32 rfl Try.sizeOf23 rfl rfl) ?_
  have f21 := f9.stp S16 rfl rfl
  refine WO.k1 trivial rfl rfl rfl rfl (rn_ld Try.isAgg23 rfl rfl (hvE (f21.ld 1 rfl rfl))) ?_
  refine WO.k2 rfl rfl rfl rfl (rn_fieldAddr Try.runUnderlying36 rfl Try.sizeOf2 rfl rfl) ?_
  have f22 := f8.stp S16 rfl rfl
  refine WO.k1 trivial rfl rfl rfl rfl (rn_ld Try.isAgg2 rfl rfl (hvE (f22.ld 1 rfl rfl))) ?_
  obtain ⟨x17, hx17, h⟩ := Option.bind_eq_some_iff.mp h
  refine WO.k2 rfl rfl rfl rfl (rn_index f11 hx17 Try.runUnderlying23 Try.sizeOf22 rfl rfl rfl rfl) ?_
  have f23 := f11.stp S16 rfl rfl
  obtain ⟨ax17, ux17, f24, hl25⟩ := f23.gSl hx17
  refine WO.k1 trivial rfl rfl rfl rfl (rn_ld Try.isAgg22 rfl rfl (hvE hl25)) ?_
  refine WO.pn 1 rfl ?_
  refine WO.fin ?_
  refine DN.seq ?_
  refine WC.seq ?_
  refine WC.seq ?_
  refine WC.rs [(0, 2), (1, 1)] rfl ?_
  refine WO.k2 rfl rfl rfl rfl (rn_fieldAddr Try.runUnderlying36 rfl Try.sizeOf2 rfl rfl) ?_
  refine WO.k1 trivial rfl rfl rfl rfl (rn_ld Try.isAgg2 rfl rfl (hvE (f22.ld 0 rfl rfl))) ?_
  refine WO.fin ?_
  refine DN.seq ?_
  refine WC.block ?_
  refine WC.seq ?_
  refine WC.rs [(0, 2), (1, 2)] rfl ?_
  refine WO.pn 2 rfl ?_
  refine WO.fin ?_
  refine DN.seq ?_
  revert h
  cases ht26 : (p1.Kind == 1) with
  | true =>
   intro h; replace h := cT h
   refine WC.ct rfl ?_
   refine WC.seq ?_
   refine WC.rs [(0, 2), (1, 1), (2, 2), (3, 2), (4, 2), (5, 1), (6, 2), (7, 2), (8, 2)] rfl ?_
   refine WO.k2 rfl rfl rfl rfl (rn_fieldAddr Try.runUnderlying36 rfl Try.sizeOf2 rfl rfl) ?_
   refine WO.k1 trivial rfl rfl rfl rfl (rn_ld Try.isAgg2 rfl rfl (hvE (f22.ld 2 rfl rfl))) ?_
   refine WO.pn 2 rfl ?_
   obtain ⟨p30, h, hK27⟩ := Option.bind_eq_some_iff.mp h
   refine WO.meet [(4, 2), (5, 1), (6, 2), (7, 2)] [(8, 2)] (fun L w' => L = [(4, .bool false), (30, .bool p30)] ∧ ∃ κ', Stp [] K15 w12 κ' w') trivial ?_ ?_
   ·
    revert h
    cases ht28 : decide (0 ≤ p1.N) with
    | true =>
     intro h; replace h := cT h
     refine WO.k2 rfl rfl rfl rfl (rn_fieldAddr Try.runUnderlying36 rfl Try.sizeOf2 rfl rfl) ?_
     refine WO.k1 trivial rfl rfl rfl rfl (rn_ld Try.isAgg2 rfl rfl (hvE (f22.ld 2 rfl rfl))) ?_
     refine WO.pn 2 rfl ?_
     obtain rfl := Option.some.inj h
     exact WO.met _ trivial ⟨rfl, _, (Stp.refl _ _).wk rfl⟩ fun a ha => (ha.more (ha.more ha.nil rfl) rfl)
    | false =>
     intro h; replace h := cF h
     refine WO.pn 1 rfl ?_
     refine WO.ls rfl rfl rfl rfl ?_
     refine WO.pn 2 rfl ?_
     obtain rfl := Option.some.inj h
     exact WO.met _ trivial ⟨rfl, _, (Stp.refl _ _).wk rfl⟩ fun a ha => (ha.more (ha.more ha.nil rfl) rfl)
   rintro _ w29 _ ⟨rfl, K30, S31⟩
   have h := hK27
   refine WO.pn 1 rfl ?_
   refine WO.fin ?_
   refine DN.seq ?_
   refine WC.ret ?_
   refine DN.retBlock ?_
   refine DN.retThen ?_
   have f32 := hE.stp (S3.tr (S7.tr (S16.tr S31))) rfl rfl
   refine DN.res (l := [.tmp 4]) Try.results43 (res_tmp rfl rfl) rfl ?_
   obtain rfl := Option.some.inj h
   exact ⟨K30, rfl, f32⟩
  | false =>
   intro h; replace h := cF h
   refine WC.cf rfl ?_
   refine WC.seq ?_
   refine WC.rs [(0, 2), (1, 2)] rfl ?_
   refine WO.pn 2 rfl ?_
   refine WO.fin ?_
   refine DN.seq ?_
   revert h
   cases ht33 : (p1.Kind == 2) with
   | true =>
    intro h; replace h := cT h
    refine WC.ct rfl ?_
    refine WC.seq ?_
    refine WC.rs [(0, 2), (1, 1), (2, 1), (3, 2)] rfl ?_
    refine WO.k2 rfl rfl rfl rfl (rn_fieldAddr Try.runUnderlying36 rfl Try.sizeOf2 rfl rfl) ?_
    refine WO.k1 trivial rfl rfl rfl rfl (rn_ld Try.isAgg2 rfl rfl (hvE (f22.ld 2 rfl rfl))) ?_
    obtain ⟨x35, hx35, h⟩ := Option.bind_eq_some_iff.mp h
    refine WO.call rfl rfl rfl rfl rfl rfl Try.call85 (i_isPlayer_ok (κ := fun b => mp [] 0 (K15 b)) hx35) ?_
    rintro _ w34 ⟨k35, rfl, e36⟩
    obtain ⟨K37, S38, m39⟩ := Ent.mixed (l := []) (κ := K15) e36 6 rfl
    refine ⟨trivial, ?_⟩
    refine WO.pn 1 rfl ?_
    refine WO.fin ?_
    refine DN.seq ?_
    refine WC.ret ?_
    refine DN.retBlock ?_
    refine DN.retThen ?_
    have f41 := hE.stp (S3.tr (S7.tr (S16.tr S38))) rfl rfl
    refine DN.res (l := [.tmp 4]) Try.results43 (res_tmp rfl rfl) rfl ?_
    obtain rfl := Option.some.inj h
    exact ⟨K37, rfl, f41⟩
   | false =>
    intro h; replace h := cF h
    refine WC.cf rfl ?_
    refine WC.seq ?_
    refine WC.rs [(0, 2), (1, 2)] rfl ?_
    refine WO.pn 2 rfl ?_
    refine WO.fin ?_
    refine DN.seq ?_
    revert h
    cases ht42 : (p1.Kind == 3) with
    | true =>
     intro h; replace h := cT h
     refine WC.ct rfl ?_
     refine WC.seq ?_
     refine WC.rs [(0, 2), (1, 1), (2, 2), (3, 1), (4, 1), (5, 2), (6, 2), (7, 2), (8, 1), (9, 1), (10, 2), (11, 2), (12, 2), (13, 2), (14, 2), (15, 2), (16, 2), (17, 2)] rfl ?_
     refine WO.k2 rfl rfl rfl rfl (rn_fieldAddr Try.runUnderlying34 rfl Try.sizeOf32 rfl rfl) ?_
     refine WO.k1 trivial rfl rfl rfl rfl (rn_la (cs := [.slice a0_0_0 p0.Arena.Owner.length u0_0_0, .slice a0_0_1 p0.Arena.Next.length u0_0_1]) Try.isAgg32 Try.sizeOf32 rfl rfl rfl (haE (f21.lds 0 2 rfl))) ?_
     refine WO.k2 rfl rfl rfl rfl (rn_fieldAddr Try.runUnderlying36 rfl Try.sizeOf2 rfl rfl) ?_
     refine WO.k1 trivial rfl rfl rfl rfl (rn_ld Try.isAgg2 rfl rfl (hvE (f22.ld 2 rfl rfl))) ?_
     obtain ⟨x42, hx42, h⟩ := Option.bind_eq_some_iff.mp h
     have f43 := f10.stp S16 rfl rfl
     refine WO.call rfl rfl rfl rfl rfl rfl Try.call84 (i_hasVertex_ok (κ := fun b => mp [] 0 (K15 b)) (p0 := p0.Arena) (Sl.map f43 (mp [] 0) rfl rfl) (Sl.map f23 (mp [] 0) rfl rfl) hx42) ?_
     rintro _ w44 ⟨k45, rfl, e46⟩
     obtain ⟨K47, S48, m49⟩ := Ent.mixed (l := []) (κ := K15) e46 6 rfl
     refine ⟨trivial, ?_⟩
     refine WO.pn 1 rfl ?_
     obtain ⟨p49, h, hK51⟩ := Option.bind_eq_some_iff.mp h
     refine WO.meet [(6, 2), (7, 2), (8, 1), (9, 1), (10, 2), (11, 2)] [(12, 2), (13, 2), (14, 2), (15, 2), (16, 2), (17, 2)] (fun L w' => L = [(4, .bool false), (5, .slice ax17 x17.length ux17), (49, .bool p49)] ∧ ∃ κ', Stp [] K47 w44 κ' w') trivial ?_ ?_
     ·
      revert h
      cases ht52 : x42 with
      | true =>
       intro h; replace h := cT h
       refine WO.pn 1 rfl ?_
       refine WO.k2 rfl rfl rfl rfl (rn_fieldAddr Try.runUnderlying36 rfl Try.sizeOf2 rfl rfl) ?_
       have f53 := f22.stp S48 rfl rfl
       refine WO.k1 trivial rfl rfl rfl rfl (rn_ld Try.isAgg2 rfl rfl (hvE (f53.ld 2 rfl rfl))) ?_
       obtain ⟨x47, hx47, h⟩ := Option.bind_eq_some_iff.mp h
       have f54 := f24.stp S48 rfl rfl
       refine WO.call rfl rfl rfl rfl rfl rfl Try.call86 (slices_Contains_I_int64_ok (κ := fun b => mp [] 0 (K47 b)) (Sl.map f54 (mp [] 0) rfl rfl) hx47) ?_
       rintro _ w55 ⟨k56, rfl, e57⟩
       obtain ⟨K58, S59, m60⟩ := Ent.mixed (l := []) (κ := K47) e57 8 rfl
       refine ⟨trivial, ?_⟩
       refine WO.pn 2 rfl ?_
       obtain rfl := Option.some.inj h
       exact WO.met _ trivial ⟨rfl, _, S59.wk rfl⟩ fun a ha => (ha.more (ha.more (ha.more ha.nil rfl) rfl) rfl)
      | false =>
       intro h; replace h := cF h
       refine WO.pn 2 rfl ?_
       refine WO.ls rfl rfl rfl rfl ?_
       refine WO.ls rfl rfl rfl rfl ?_
       refine WO.pn 2 rfl ?_
       obtain rfl := Option.some.inj h
       exact WO.met _ trivial ⟨rfl, _, (Stp.refl _ _).wk rfl⟩ fun a ha => (ha.more (ha.more (ha.more ha.nil rfl) rfl) rfl)
     rintro _ w62 _ ⟨rfl, K63, S64⟩
     have h := hK51
     refine WO.pn 1 rfl ?_
     obtain ⟨p54, h, hK65⟩ := Option.bind_eq_some_iff.mp h
     refine WO.meet [(13, 2), (14, 2), (15, 2), (16, 2)] [(17, 2)] (fun L w' => L = [(4, .bool false), (54, .bool p54)] ∧ ∃ κ', Stp [] K63 w62 κ' w') trivial ?_ ?_
     ·
      revert h
      cases ht66 : p49 with
      | true =>
       intro h; replace h := cT h
       refine WO.pn 1 rfl ?_
       refine WO.k2 rfl rfl rfl rfl (rn_len Try.runUnderlying22 rfl rfl) ?_
       refine WO.pn 2 rfl ?_
       obtain rfl := Option.some.inj h
       exact WO.met _ trivial ⟨rfl, _, (Stp.refl _ _).wk rfl⟩ fun a ha => (ha.more (ha.more ha.nil rfl) rfl)
      | false =>
       intro h; replace h := cF h
       refine WO.pn 4 rfl ?_
       obtain rfl := Option.some.inj h
       exact WO.met _ trivial ⟨rfl, _, (Stp.refl _ _).wk rfl⟩ fun a ha => (ha.more (ha.more ha.nil rfl) rfl)
     rintro _ w67 _ ⟨rfl, K68, S69⟩
     have h := hK65
     refine WO.pn 1 rfl ?_
     refine WO.fin ?_
     refine DN.seq ?_
     refine WC.ret ?_
     refine DN.retBlock ?_
     refine DN.retThen ?_
     have f70 := hE.stp (S3.tr (S7.tr (S16.tr (S48.tr (S64.tr S69))))) rfl rfl
     refine DN.res (l := [.tmp 4]) Try.results43 (res_tmp rfl rfl) rfl ?_
     obtain rfl := Option.some.inj h
     exact ⟨K68, rfl, f70⟩
    | false =>
     intro h; replace h := cF h
     refine WC.cf rfl ?_
     refine WC.seq ?_
     refine WC.rs [(0, 2), (1, 2)] rfl ?_
     refine WO.pn 2 rfl ?_
     refine WO.fin ?_
     refine DN.seq ?_
     revert h
     cases ht71 : (p1.Kind == 4) with
     | true =>
      intro h; replace h := cT h
      refine WC.ct rfl ?_
      refine WC.seq ?_
      refine WC.rs [(0, 2), (1, 2), (2, 1), (3, 1), (4, 2), (5, 2), (6, 2), (7, 2), (8, 2), (9, 2)] rfl ?_
      refine WO.pn 1 rfl ?_
      refine WO.k2 rfl rfl rfl rfl (rn_fieldAddr Try.runUnderlying36 rfl Try.sizeOf2 rfl rfl) ?_
      refine WO.k1 trivial rfl rfl rfl rfl (rn_ld Try.isAgg2 rfl rfl (hvE (f22.ld 2 rfl rfl))) ?_
      obtain ⟨x60, hx60, h⟩ := Option.bind_eq_some_iff.mp h
      refine WO.call rfl rfl rfl rfl rfl rfl Try.call86 (slices_Contains_I_int64_ok (κ := fun b => mp [] 0 (K15 b)) (Sl.map f24 (mp [] 0) rfl rfl) hx60) ?_
      rintro _ w72 ⟨k73, rfl, e74⟩
      obtain ⟨K75, S76, m77⟩ := Ent.mixed (l := []) (κ := K15) e74 6 rfl
      refine ⟨trivial, ?_⟩
      refine WO.pn 1 rfl ?_
      obtain ⟨p65, h, hK79⟩ := Option.bind_eq_some_iff.mp h
      refine WO.meet [(5, 2), (6, 2), (7, 2), (8, 2)] [(9, 2)] (fun L w' => L = [(4, .bool false), (65, .bool p65)] ∧ ∃ κ', Stp [] K75 w72 κ' w') trivial ?_ ?_
      ·
       revert h
       cases ht80 : x60 with
       | true =>
        intro h; replace h := cT h
        refine WO.pn 1 rfl ?_
        refine WO.k2 rfl rfl rfl rfl (rn_len Try.runUnderlying22 rfl rfl) ?_
        refine WO.pn 2 rfl ?_
        obtain rfl := Option.some.inj h
        exact WO.met _ trivial ⟨rfl, _, (Stp.refl _ _).wk rfl⟩ fun a ha => (ha.more (ha.more ha.nil rfl) rfl)
       | false =>
        intro h; replace h := cF h
        refine WO.pn 4 rfl ?_
        obtain rfl := Option.some.inj h
        exact WO.met _ trivial ⟨rfl, _, (Stp.refl _ _).wk rfl⟩ fun a ha => (ha.more (ha.more ha.nil rfl) rfl)
      rintro _ w81 _ ⟨rfl, K82, S83⟩
      have h := hK79
      refine WO.pn 1 rfl ?_
      refine WO.fin ?_
      refine DN.seq ?_
      refine WC.ret ?_
      refine DN.retBlock ?_
      refine DN.retThen ?_
      have f84 := hE.stp (S3.tr (S7.tr (S16.tr (S76.tr S83)))) rfl rfl
      refine DN.res (l := [.tmp 4]) Try.results43 (res_tmp rfl rfl) rfl ?_
      obtain rfl := Option.some.inj h
      exact ⟨K82, rfl, f84⟩
     | false =>
      intro h; replace h := cF h
      refine WC.cf rfl ?_
      refine WC.skip ?_
      refine DN.block ?_
      refine DN.seq ?_
      refine WC.seq ?_
      refine WC.rs [(0, 2)] rfl ?_
      refine WO.pn 1 rfl ?_
      refine WO.fin ?_
      refine DN.seq ?_
      refine WC.ret ?_
      have f85 := hE.stp (S3.tr (S7.tr S16)) rfl rfl
      refine DN.res (l := [.tmp 4]) Try.results43 (res_tmp rfl rfl) rfl ?_
      obtain rfl := Option.some.inj h
      exact ⟨K15, rfl, f85⟩

/- (*loop.example/g00869/impl.solver).won -/
theorem i_solver_won_ok (n : Nat) : ∀ {w : World} {κ : Col} {a0_0_0_0 : Option Addr} {u0_0_0_0 : Nat} {a0_0_0_1 : Option Addr} {u0_0_0_1 : Nat} {a0_0_1 : Option Addr} {u0_0_1 : Nat} {a0_1 : Option Addr} {u0_1 : Nat} {p0 : solver} {a1 : Option Addr} {u1 : Nat} {p1 : (List Bool)} {b0 : Nat} (g0_0_0_0 : Rd (Rp.int .i64) κ w 0 a0_0_0_0 u0_0_0_0 p0.game.Arena.Owner) (g0_0_0_1 : Rd (Rp.sl (Rp.int .i64)) κ w 0 a0_0_0_1 u0_0_0_1 p0.game.Arena.Next) (g0_0_1 : Rd (Rp.int .i64) κ w 0 a0_0_1 u0_0_1 p0.game.Prio) (g0_1 : Rd (Rp.sl (Rp.int .i64)) κ w 0 a0_1 u0_1 p0.preds) (g1 : Rd Rp.bool κ w 0 a1 u1 p1) (gb0 : Bc κ w 0 b0 159 [.slice a0_0_0_0 p0.game.Arena.Owner.length u0_0_0_0, .slice a0_0_0_1 p0.game.Arena.Next.length u0_0_0_1, .slice a0_0_1 p0.game.Prio.length u0_0_1, .slice a0_1 p0.preds.length u0_1]) {r : (List Bool) × Int} (h : i_solver_won n p0 p1 = some r), Ret Try.prog 125 [.pointer (some ⟨b0, 0, none⟩), .slice a1 p1.length u1] w (fun v w' => ∃ (κ' : Col) (ra0 : Option Addr) (ru0 : Nat), v = .tuple #[.slice ra0 r.1.length ru0, .int .i64 r.2] ∧ Ent κ w κ' w' ∧ Rd Rp.bool κ' w' 0 ra0 ru0 r.1) := by
 induction n with
 | zero =>
  intro w κ a0_0_0_0 u0_0_0_0 a0_0_0_1 u0_0_0_1 a0_0_1 u0_0_1 a0_1 u0_1 p0 a1 u1 p1 b0 g0_0_0_0 g0_0_0_1 g0_0_1 g0_1 g1 gb0 r h
  cases h
 | succ n ih =>
  intro w κ a0_0_0_0 u0_0_0_0 a0_0_0_1 u0_0_0_1 a0_0_1 u0_0_1 a0_1 u0_1 p0 a1 u1 p1 b0 g0_0_0_0 g0_0_0_1 g0_0_1 g0_1 g1 gb0 r h
  have h : i_solver_won_s (i_solver_won n) p0 p1 = some r := h
  unfold i_solver_won_s at h
  refine Ret.enter Try.func125 rfl Try.ntmps125 rfl ?_
  dsimp only [envOf]
  have hE := Ent.refl κ w
  refine WC.seq ?_
  refine WC.rs [(0, 2), (1, 2)] rfl ?_
  refine WO.pn 2 rfl ?_
  refine WO.fin ?_
  refine DN.seq ?_
  refine WC.seq ?_
  refine WC.rs [(0, 2), (1, 1), (2, 2)] rfl ?_
  refine WO.pn 1 rfl ?_
  obtain ⟨x17, hx17, h⟩ := Option.bind_eq_some_iff.mp h
  refine WO.call rfl rfl rfl rfl rfl rfl Try.call126 (i_listOf_ok (κ := fun b => mp [] 0 (κ b)) (Sl.map g1 (mp [] 0) rfl rfl) hx17) ?_
  rintro _ w1 ⟨k2, a17_0, u17_0, rfl, e3, f4⟩
  obtain ⟨K5, S6, m7⟩ := Ent.mixed (l := []) (κ := κ) e3 2 rfl
  refine ⟨trivial, ?_⟩
  have f9 := f4.mx (no_int _) m7 rfl (rfl : 2 + 2 = 4)
  refine WO.pn 1 rfl ?_
  refine WO.fin ?_
  refine DN.seq ?_
  refine WC.seq ?_
  refine WC.seq ?_
  refine WC.rs [(0, 2), (1, 2), (2, 2)] rfl ?_
  refine WO.pn 1 rfl ?_
  refine WO.k2 rfl rfl rfl rfl (rn_len Try.runUnderlying22 rfl rfl) ?_
  refine WO.pn 1 rfl ?_
  refine WO.fin ?_
  refine DN.seq ?_
  revert h
  cases ht10 : ((x17.length : Int) == 0) with
  | true =>
   intro h; replace h := cT h
   refine WC.ct rfl ?_
   refine WC.seq ?_
   refine WC.rs [(0, 2), (1, 2), (2, 2)] rfl ?_
   refine WO.pn 3 rfl ?_
   refine WO.fin ?_
   refine DN.seq ?_
   refine WC.ret ?_
   refine DN.retThen ?_
   have f11 := hE.stp S6 rfl rfl
   have f12 := g1.stp S6 rfl rfl
   refine DN.res (l := [.tmp 4, .tmp 5]) Try.results125 (res_tmp rfl (res_tmp rfl rfl)) rfl ?_
   obtain rfl := Option.some.inj h
   exact ⟨K5, a1, u1, rfl, f11, f12⟩
  | false =>
   intro h; replace h := cF h
   refine WC.cf rfl ?_
   refine WC.skip ?_
   refine DN.seq ?_
   refine WC.seq ?_
   refine WC.rs [(0, 2), (1, 2), (2, 2), (3, 1), (4, 2), (5, 1), (6, 2)] rfl ?_
   refine WO.pn 1 rfl ?_
   refine WO.k2 rfl rfl rfl rfl (rn_nilCheck rfl rfl) ?_
   refine WO.k2 rfl rfl rfl rfl (rn_fieldAddr Try.runUnderlying159 rfl Try.sizeOf34 rfl rfl) ?_
   have f13 := gb0.stp S6 rfl rfl
   refine WO.k1 trivial rfl rfl rfl rfl (rn_la (cs := [.slice a0_0_0_0 p0.game.Arena.Owner.length u0_0_0_0, .slice a0_0_0_1 p0.game.Arena.Next.length u0_0_0_1, .slice a0_0_1 p0.game.Prio.length u0_0_1]) Try.isAgg34 Try.sizeOf34 rfl rfl rfl (haE (f13.lds 0 3 rfl))) ?_
   refine WO.pn 1 rfl ?_
   obtain ⟨x27, hx27, h⟩ := Option.bind_eq_some_iff.mp h
   have f14 := g0_0_0_0.stp S6 rfl rfl
   have f15 := g0_0_0_1.stp S6 rfl rfl
   have f16 := g0_0_1.stp S6 rfl rfl
   refine WO.call rfl rfl rfl rfl rfl rfl Try.call153 (i_topIn_ok (κ := fun b => mp [] 0 (K5 b)) (p0 := p0.game) (Sl.map f14 (mp [] 0) rfl rfl) (Sl.map f15 (mp [] 0) rfl rfl) (Sl.map f16 (mp [] 0) rfl rfl) (Sl.map f9.rdc (mp [] 0) rfl rfl) hx27) ?_
   rintro _ w17 ⟨k18, rfl, e19⟩
   obtain ⟨K20, S21, m22⟩ := Ent.mixed (l := []) (κ := K5) e19 5 rfl
   refine ⟨trivial, ?_⟩
   refine WO.pn 1 rfl ?_
   refine WO.fin ?_
   refine DN.seq ?_
   refine WC.seq ?_
   refine WC.rs [(0, 2), (1, 2), (2, 2)] rfl ?_
   refine WO.pn 1 rfl ?_
   refine WO.k2 rfl rfl rfl rfl (rn_rem rfl rfl rfl (by decide)) ?_
   refine WO.pn 1 rfl ?_
   refine WO.fin ?_
   refine DN.seq ?_
   refine WC.seq ?_
   refine WC.rs [(0, 1), (1, 2), (2, 1), (3, 2)] rfl ?_
   refine WO.bl0 (κ := K20) (E := Ep.bool) 7 rfl rfl rfl rfl rfl Try.underlying118 Tryinfo4 rfl fun a30 u30 w24 K25 S26 f27 => ⟨trivial, ?_⟩
   refine WO.pn 1 rfl ?_
   obtain ⟨x32, hx32, h⟩ := Option.bind_eq_some_iff.mp h
   have f28 := g1.stp (S6.tr (S21.tr S26)) rfl rfl
   refine WO.app (κ := K25) (E := Ep.bool) 7 [] rfl rfl rfl rfl rfl rfl rfl rfl rfl Try.underlying118 Tryinfo4 rfl rfl rfl rfl f27 (Sl.srcP pu_bool f28) sy_false hx32 rfl fun a32 u32 w29 K30 S31 f32 => ⟨trivial, ?_⟩
   refine WO.pn 1 rfl ?_
   refine WO.fin ?_
   refine DN.seq ?_
   obtain ⟨q2, hq35, hK34⟩ := Option.bind_eq_some_iff.mp h
   clear h
   refine WC.block ?_
   refine WC.loop (fun k L w' => ∃ (κ' : Col) (s1 : (List Bool)) (las1_0 : Option Addr) (lus1_0 : Nat), L = [(0, .pointer (some ⟨b0, 0, none⟩)), (1, .slice a1 p1.length u1), (7, .int .i64 x27), (8, .int .i64 (Int.tmod x27 2)), (9, .slice las1_0 s1.length lus1_0)] ∧ Stp [8, 14, 20, 25] K30 w29 κ' w' ∧ Oc Ep.bool 4 κ' w' 7 las1_0 lus1_0 s1 ∧ whileM (i_solver_won_b0 (i_solver_won n) p0 p1 x27) k s1 = some q2) ⟨_, _, ⟨K30, (x32 : (List Bool)), a32, u32, rfl, (Stp.refl _ _).wk rfl, f32, hq35⟩, fun a ha => (ha.more (ha.more (ha.more (ha.more (ha.more ha.nil rfl) rfl) rfl) rfl) rfl)⟩ ?_
   rintro k _ w36 ⟨K37, s1, las1_0, lus1_0, rfl, S38, f39, h⟩
   rcases k with _ | k
   ·
    cases h
   ·
    obtain ⟨o33, h, hk40⟩ := Option.bind_eq_some_iff.mp h; unfold i_solver_won_b0 at h
    refine WC.block ?_
    refine WC.seq ?_
    refine WC.rs [(0, 2), (1, 2), (2, 1), (3, 2)] rfl ?_
    refine WO.pn 1 rfl ?_
    refine WO.k2 rfl rfl rfl rfl (rn_len Try.runUnderlying118 rfl rfl) ?_
    obtain ⟨x35, hx35, h⟩ := Option.bind_eq_some_iff.mp h
    refine WO.mk (κ := K37) (E := Ep.bool) (z := (false : Bool)) 8 rfl rfl rfl rfl rfl rfl rfl Try.underlying118 Tryinfo4 rfl rfl rfl rfl rfl (fun _ _ _ => rfl) (mkS_C hx35) fun a35 u35 w41 K42 S43 f44 => ⟨trivial, ?_⟩
    refine WO.pn 1 rfl ?_
    refine WO.fin ?_
    refine DN.seq ?_
    refine WC.seq ?_
    refine WC.seq ?_
    refine WC.rs [(0, 2), (1, 2), (2, 2)] rfl ?_
    refine WO.pn 1 rfl ?_
    refine WO.k2 rfl rfl rfl rfl (rn_len Try.runUnderlying118 rfl rfl) ?_
    refine WO.pn 1 rfl ?_
    refine WO.fin ?_
    refine DN.seq ?_
    have hN45 : (x35.length : Int) ≤ 9223372036854775807 := f44.len_le
    obtain ⟨q5, hq47, hK46⟩ := Option.bind_eq_some_iff.mp h
    clear h
    refine WC.meet (fun L w' => ∃ (κ' : Col) (s6 : (List Bool)), L = [(0, .pointer (some ⟨b0, 0, none⟩)), (1, .slice a1 p1.length u1), (7, .int .i64 x27), (8, .int .i64 (Int.tmod x27 2)), (9, .slice las1_0 s1.length lus1_0), (10, .slice a35 x35.length u35)] ∧ Stp [8] K42 w41 κ' w' ∧ Oc Ep.bool 4 κ' w' 8 a35 u35 s6 ∧ x35.length = s6.length ∧ q5 = Sum.inr s6) ?_ ?_
    ·
     refine WC.block ?_
     refine WC.loop (fun k L w' => ∃ (κ' : Col) (v38 : Int) (s4 : (List Bool)), L = [(0, .pointer (some ⟨b0, 0, none⟩)), (1, .slice a1 p1.length u1), (7, .int .i64 x27), (8, .int .i64 (Int.tmod x27 2)), (9, .slice las1_0 s1.length lus1_0), (10, .slice a35 x35.length u35), (37, .int .i64 (x35.length : Int)), (38, .int .i64 v38)] ∧ Stp [8] K42 w41 κ' w' ∧ Oc Ep.bool 4 κ' w' 8 a35 u35 s4 ∧ x35.length = s4.length ∧ 0 ≤ v38 ∧ Int.toNat ((x35.length : Int) - v38) = k ∧ cntM (i_solver_won_b2 p0 x27 s1) k v38 s4 = some q5) ⟨_, _, ⟨K42, 0, (x35 : (List Bool)), rfl, (Stp.refl _ _).wk rfl, f44, rfl, (by decide), (by simp), hq47⟩, fun a ha => (ha.more (ha.more (ha.more (ha.more (ha.more (ha.more (ha.more (ha.more ha.nil rfl) rfl) rfl) rfl) rfl) rfl) rfl) rfl)⟩ ?_
     rintro k _ w53 ⟨K54, v38, s4, rfl, S55, f56, hn57, hj45, hJ45, h⟩
     rcases k with _ | k
     ·
      have hk58 := h; obtain ⟨o45, h⟩ := ex_eq (Sum.inr (Sum.inl s4) : ((List Bool) × Int) ⊕ (((List Bool)) ⊕ ((List Bool))))
      have hc45 : decide (v38 < (x35.length : Int)) = false := decide_eq_false (by omega)
      refine WC.seq ?_
      refine WC.rs [(0, 2)] rfl ?_
      refine WO.pn 1 rfl ?_
      refine WO.fin ?_
      refine DN.seq ?_
      refine WC.seq ?_
      refine WC.cf' rfl hc45 ?_
      refine WC.exit ?_
      refine DN.exitThen ?_
      refine DN.exitThen ?_
      obtain rfl := Option.some.inj h
      have h := hk58
      refine DN.hit ?_
      obtain rfl := Option.some.inj h
      exact DN.meet _ ⟨K54, (s4 : (List Bool)), rfl, S55.wk rfl, f56, hn57, rfl⟩ fun a ha => (ha.more (ha.more (ha.more (ha.more (ha.more (ha.more ha.nil rfl) rfl) rfl) rfl) rfl) rfl)
     ·
      obtain ⟨o45, h, hk58⟩ := Option.bind_eq_some_iff.mp h; unfold i_solver_won_b2 at h
      have hc45 : decide (v38 < (x35.length : Int)) = true := decide_eq_true (by omega)
      refine WC.seq ?_
      refine WC.rs [(0, 2)] rfl ?_
      refine WO.pn 1 rfl ?_
      refine WO.fin ?_
      refine DN.seq ?_
      refine WC.seq ?_
      refine WC.ct' rfl hc45 ?_
      refine WC.skip ?_
      refine DN.seq ?_
      refine WC.seq ?_
      refine WC.block ?_
      refine WC.seq ?_
      refine WC.rs [(0, 2), (1, 2)] rfl ?_
      refine WO.pn 2 rfl ?_
      refine WO.fin ?_
      refine DN.seq ?_
      refine WC.rs [(0, 2), (1, 2), (2, 2), (3, 2), (4, 2), (5, 1), (6, 2), (7, 2), (8, 2), (9, 2), (10, 2), (11, 1), (12, 2), (13, 2), (14, 1), (15, 2), (16, 2), (17, 2), (18, 2), (19, 1)] rfl ?_
      refine WO.pn 4 rfl ?_
      obtain ⟨x45, hx45, h⟩ := Option.bind_eq_some_iff.mp h
      refine WO.k2 rfl rfl rfl rfl (rn_index f39.rdc hx45 Try.runUnderlying118 Try.sizeOf4 rfl rfl rfl rfl) ?_
      have f59 := f39.stp (S43.tr S55) rfl rfl
      refine WO.k1 trivial rfl rfl rfl rfl (rn_ld Try.isAgg4 rfl rfl (hvE (f59.rdc.gBool hx45))) ?_
      refine WO.pn 1 rfl ?_
      obtain ⟨p58, h, hK60⟩ := Option.bind_eq_some_iff.mp h
      refine WO.meet [(7, 2), (8, 2), (9, 2), (10, 2), (11, 1), (12, 2), (13, 2), (14, 1), (15, 2), (16, 2), (17, 2)] [(18, 2), (19, 1)] (fun L w' => L = [(0, .pointer (some ⟨b0, 0, none⟩)), (1, .slice a1 p1.length u1), (7, .int .i64 x27), (8, .int .i64 (Int.tmod x27 2)), (9, .slice las1_0 s1.length lus1_0), (10, .slice a35 x35.length u35), (37, .int .i64 (x35.length : Int)), (38, .int .i64 v38), (41, .slice a35 x35.length u35), (42, .int .i64 v38), (58, .bool p58)] ∧ ∃ κ', Stp [] K54 w53 κ' w') trivial ?_ ?_
      ·
       revert h
       cases ht61 : x45 with
       | true =>
        intro h; replace h := cT h
        refine WO.pn 1 rfl ?_
        refine WO.k2 rfl rfl rfl rfl (rn_nilCheck rfl rfl) ?_
        refine WO.k2 rfl rfl rfl rfl (rn_fieldAddr Try.runUnderlying159 rfl Try.sizeOf34 rfl rfl) ?_
        refine WO.k2 rfl rfl rfl rfl (rn_fieldAddr Try.runUnderlying34 rfl Try.sizeOf22 rfl rfl) ?_
        have f62 := f13.stp (S21.tr (S26.tr (S31.tr (S38.tr (S43.tr S55))))) rfl rfl
        refine WO.k1 trivial rfl rfl rfl rfl (rn_ld Try.isAgg22 rfl rfl (hvE (f62.ld 2 rfl rfl))) ?_
        refine WO.pn 1 rfl ?_
        obtain ⟨x54, hx54, h⟩ := Option.bind_eq_some_iff.mp h
        refine WO.k2 rfl rfl rfl rfl (rn_index f16 hx54 Try.runUnderlying22 Try.sizeOf2 rfl rfl rfl rfl) ?_
        have f63 := f16.stp (S21.tr (S26.tr (S31.tr (S38.tr (S43.tr S55))))) rfl rfl
        refine WO.k1 trivial rfl rfl rfl rfl (rn_ld Try.isAgg2 rfl rfl (hvE (f63.gInt hx54))) ?_
        refine WO.pn 3 rfl ?_
        obtain rfl := Option.some.inj h
        exact WO.met _ trivial ⟨rfl, _, (Stp.refl _ _).wk rfl⟩ fun a ha => (ha.more (ha.more (ha.more (ha.more (ha.more (ha.more (ha.more (ha.more (ha.more (ha.more (ha.more ha.nil rfl) rfl) rfl) rfl) rfl) rfl) rfl) rfl) rfl) rfl) rfl)
       | false =>
        intro h; replace h := cF h
        refine WO.pn 4 rfl ?_
        refine WO.ls rfl rfl rfl rfl ?_
        refine WO.pn 2 rfl ?_
        refine WO.ls rfl rfl rfl rfl ?_
        refine WO.pn 3 rfl ?_
        obtain rfl := Option.some.inj h
        exact WO.met _ trivial ⟨rfl, _, (Stp.refl _ _).wk rfl⟩ fun a ha => (ha.more (ha.more (ha.more (ha.more (ha.more (ha.more (ha.more (ha.more (ha.more (ha.more (ha.more ha.nil rfl) rfl) rfl) rfl) rfl) rfl) rfl) rfl) rfl) rfl) rfl)
      rintro _ w64 _ ⟨rfl, K65, S66⟩
      have h := hK60
      obtain ⟨x59, hx59, h⟩ := Option.bind_eq_some_iff.mp h
      refine WO.k2 rfl rfl rfl rfl (rn_index f56.rdc hx59 Try.runUnderlying118 Try.sizeOf4 rfl rfl hn57 rfl) ?_
      have f67 := f56.stp S66 rfl rfl
      obtain ⟨y54, hy54, h⟩ := Option.bind_eq_some_iff.mp h
      refine WO.stI (κ := K65) (E := Ep.bool) 8 [] rfl rfl rfl rfl rfl rfl rfl rfl Try.sizeOf4 rfl rfl rfl rfl f67 hy54 fun w68 K69 S70 f71 => ⟨trivial, ?_⟩
      have hn72 : x35.length = y54.length := hn57.trans (setI_ok hy54).2.2.2.symm
      refine WO.fin ?_
      refine DN.block ?_
      refine DN.seq ?_
      refine WC.rs [(0, 2), (1, 2)] rfl ?_
      refine WO.pn 2 rfl ?_
      refine WO.fin ?_
      have hw45 : IntKind.wrap .i64 (v38 + 1) = v38 + 1 := wr1 hj45 (of_decide_eq_true hc45) hN45
      rw [hw45]
      have hc45 := of_decide_eq_true hc45
      obtain rfl := Option.some.inj h
      refine DN.round fun a ha => ?_
      exact ⟨k, _, Nat.lt_succ_self _, ⟨K69, v38 + 1, (y54 : (List Bool)), rfl, (S55.tr (S66.tr S70)).wk rfl, f71, hn72, by omega, by omega, hk58⟩, (ha.more (ha.more (ha.more (ha.more (ha.more (ha.more (ha.more (ha.more ha.nil rfl) rfl) rfl) rfl) rfl) rfl) rfl) rfl)⟩
    rintro _ w48 ⟨K49, s6, rfl, S50, f51, hn52, rfl⟩
    have h := hK46
    dsimp only [aft] at h
    refine DN.seq ?_
    refine WC.seq ?_
    refine WC.rs [(0, 2), (1, 2), (2, 2), (3, 2), (4, 2), (5, 1), (6, 1), (7, 2)] rfl ?_
    refine WO.pn 5 rfl ?_
    obtain ⟨x66, hx66, h⟩ := Option.bind_eq_some_iff.mp h
    have f73 := f14.stp (S21.tr (S26.tr (S31.tr (S38.tr (S43.tr S50))))) rfl rfl
    have f74 := f15.stp (S21.tr (S26.tr (S31.tr (S38.tr (S43.tr S50))))) rfl rfl
    have f75 := f16.stp (S21.tr (S26.tr (S31.tr (S38.tr (S43.tr S50))))) rfl rfl
    have f76 := g0_1.stp (S6.tr (S21.tr (S26.tr (S31.tr (S38.tr (S43.tr S50)))))) rfl rfl
    have f77 := f39.stp (S43.tr S50) rfl rfl
    have f78 := f13.stp (S21.tr (S26.tr (S31.tr (S38.tr (S43.tr S50))))) rfl rfl
    refine WO.call rfl rfl rfl rfl rfl rfl Try.call154 (Ret.cast (by simp only [hn52, List.cons_append, List.nil_append]) (i_solver_pull_ok (κ := fun b => mp [] 0 (K49 b)) (p0 := p0) (Sl.map f73 (mp [] 0) rfl rfl) (Sl.map f74 (mp [] 0) rfl rfl) (Sl.map f75 (mp [] 0) rfl rfl) (Sl.map f76 (mp [] 0) rfl rfl) (Sl.map f77.rdc (mp [] 0) rfl rfl) (Sl.map f51.rdc (mp [] 0) rfl rfl) (f78.map (mp [] 0) rfl rfl) hx66)) ?_
    rintro _ w79 ⟨k80, a66_0, u66_0, rfl, e81, f82⟩
    obtain ⟨K83, S84, m85⟩ := Ent.mixed (l := []) (κ := K49) e81 9 rfl
    refine ⟨trivial, ?_⟩
    have f87 := f82.mx no_bool m85 rfl (rfl : 9 + 2 = 11)
    obtain ⟨x67, hx67, h⟩ := Option.bind_eq_some_iff.mp h
    have f88 := f77.stp S84 rfl rfl
    refine WO.call rfl rfl rfl rfl rfl rfl Try.call127 (i_without_ok (κ := fun b => mp [] 0 (K83 b)) (Sl.map f88.rdc (mp [] 0) rfl rfl) (Sl.map f87.rdc (mp [] 0) rfl rfl) hx67) ?_
    rintro _ w89 ⟨k90, a67_0, u67_0, rfl, e91, f92⟩
    obtain ⟨K93, S94, m95⟩ := Ent.mixed (l := []) (κ := K83) e91 12 rfl
    refine ⟨trivial, ?_⟩
    have f97 := f92.mx no_bool m95 rfl (rfl : 12 + 2 = 14)
    refine WO.pn 1 rfl ?_
    refine WO.fin ?_
    refine DN.seq ?_
    refine WC.seq ?_
    refine WC.rs [(0, 2), (1, 2), (2, 1), (3, 2), (4, 2), (5, 2), (6, 2), (7, 2)] rfl ?_
    refine WO.pn 2 rfl ?_
    obtain ⟨K98, S99, z100⟩ := fz_ex K93 w89 14
    have f101 := Sl.st z100 f97.rdc
    obtain ⟨x71, hx71, h⟩ := Option.bind_eq_some_iff.mp h
    have f102 := f73.stp (S84.tr (S94.tr S99)) rfl rfl
    have f103 := f74.stp (S84.tr (S94.tr S99)) rfl rfl
    have f104 := f75.stp (S84.tr (S94.tr S99)) rfl rfl
    have f105 := f76.stp (S84.tr (S94.tr S99)) rfl rfl
    have f106 := f78.stp (S84.tr (S94.tr S99)) rfl rfl
    refine WO.call rfl rfl rfl rfl rfl rfl Try.call125 (ih (κ := fun b => mp [] 1 (K98 b)) (p0 := p0) (Sl.map f102 (mp [] 1) rfl rfl) (Sl.map f103 (mp [] 1) rfl rfl) (Sl.map f104 (mp [] 1) rfl rfl) (Sl.map f105 (mp [] 1) rfl rfl) (Sl.map f101 (mp [] 1) rfl rfl) (f106.map (mp [] 1) rfl rfl) hx71) ?_
    rintro _ w107 ⟨k108, a71_0, u71_0, rfl, e109, f110⟩
    obtain ⟨K111, S112, m113, z114⟩ := Ent.mixed0 (l := []) (κ := K98) e109 15 rfl
    refine ⟨trivial, ?_⟩
    have f115 := f110.mx z114
    refine WO.pn 5 rfl ?_
    refine WO.fin ?_
    refine DN.seq ?_
    refine WC.seq ?_
    refine WC.rs [(0, 2), (1, 2)] rfl ?_
    refine WO.pn 2 rfl ?_
    refine WO.fin ?_
    refine DN.seq ?_
    refine WC.seq ?_
    refine WC.seq ?_
    refine WC.rs [(0, 2), (1, 2), (2, 2)] rfl ?_
    refine WO.pn 3 rfl ?_
    refine WO.fin ?_
    refine DN.seq ?_
    obtain ⟨q7, h, hK116⟩ := Option.bind_eq_some_iff.mp h
    refine WC.meet (fun L w' => ∃ (κ' : Col) (laq7_0 : Option Addr) (luq7_0 : Nat), L = [(0, .pointer (some ⟨b0, 0, none⟩)), (1, .slice a1 p1.length u1), (7, .int .i64 x27), (8, .int .i64 (Int.tmod x27 2)), (9, .slice las1_0 s1.length lus1_0), (15, .slice laq7_0 q7.length luq7_0)] ∧ Stp [20] K111 w107 κ' w' ∧ Rd Rp.bool κ' w' 0 laq7_0 luq7_0 q7) ?_ ?_
    ·
     revert h
     cases ht121 : (x71.2 == (Int.tmod x27 2)) with
     | true =>
      intro h; replace h := cT h
      refine WC.ct rfl ?_
      refine WC.rs [(0, 2), (1, 2), (2, 1), (3, 2)] rfl ?_
      refine WO.pn 2 rfl ?_
      obtain ⟨x80, hx80, h⟩ := Option.bind_eq_some_iff.mp h
      have f122 := f101.stp S112 rfl rfl
      refine WO.call rfl rfl rfl rfl rfl rfl Try.call127 (i_without_ok (κ := fun b => mp [] 0 (K111 b)) (Sl.map f122 (mp [] 0) rfl rfl) (Sl.map f115 (mp [] 0) rfl rfl) hx80) ?_
      rintro _ w123 ⟨k124, a80_0, u80_0, rfl, e125, f126⟩
      obtain ⟨K127, S128, m129⟩ := Ent.mixed (l := []) (κ := K111) e125 18 rfl
      refine ⟨trivial, ?_⟩
      have f131 := f126.mx no_bool m129 rfl (rfl : 18 + 2 = 20)
      refine WO.pn 1 rfl ?_
      refine WO.fin ?_
      obtain ⟨K132, S133, z134⟩ := fz_ex K127 w123 20
      have f135 := Sl.st z134 f131.rdc
      obtain rfl := Option.some.inj h
      exact DN.meet _ ⟨K132, a80_0, u80_0, rfl, (S128.tr S133).wk rfl, f135⟩ fun a ha => (ha.more (ha.more (ha.more (ha.more (ha.more (ha.more ha.nil rfl) rfl) rfl) rfl) rfl) rfl)
     | false =>
      intro h; replace h := cF h
      refine WC.cf rfl ?_
      refine WC.skip ?_
      obtain rfl := Option.some.inj h
      exact DN.meet _ ⟨K111, a71_0, u71_0, rfl, (Stp.refl _ _).wk rfl, f115⟩ fun a ha => (ha.more (ha.more (ha.more (ha.more (ha.more (ha.more ha.nil rfl) rfl) rfl) rfl) rfl) rfl)
    rintro _ w117 ⟨K118, laq7_0, luq7_0, rfl, S119, f120⟩
    have h := hK116
    refine DN.seq ?_
    refine WC.seq ?_
    refine WC.seq ?_
    refine WC.rs [(0, 2), (1, 1), (2, 2)] rfl ?_
    refine WO.pn 1 rfl ?_
    obtain ⟨x82, hx82, h⟩ := Option.bind_eq_some_iff.mp h
    refine WO.call rfl rfl rfl rfl rfl rfl Try.call155 (slices_Contains_bool_bool_ok (κ := fun b => mp [] 0 (K118 b)) (Sl.map f120 (mp [] 0) rfl rfl) hx82) ?_
    rintro _ w136 ⟨k137, rfl, e138⟩
    obtain ⟨K139, S140, m141⟩ := Ent.mixed (l := []) (κ := K118) e138 18 rfl
    refine ⟨trivial, ?_⟩
    refine WO.pn 1 rfl ?_
    refine WO.fin ?_
    refine DN.seq ?_
    revert h
    cases ht143 : (!x82) with
    | true =>
     intro h; replace h := cT h
     refine WC.ct rfl ?_
     refine WC.seq ?_
     refine WC.rs [(0, 2), (1, 2), (2, 2), (3, 2)] rfl ?_
     refine WO.pn 4 rfl ?_
     refine WO.fin ?_
     refine DN.seq ?_
     refine WC.ret ?_
     refine DN.retThen ?_
     refine DN.retBlock ?_
     refine DN.retThen ?_
     obtain rfl := Option.some.inj h
     obtain rfl := Option.some.inj hk40
     have h := hK34
     dsimp only [aft] at h
     refine DN.retBlock ?_
     have f144 := f32.stp (S38.tr (S43.tr (S50.tr (S84.tr (S94.tr (S99.tr (S112.tr (S119.tr S140)))))))) rfl rfl
     have f145 := f88.stp (S94.tr (S99.tr (S112.tr (S119.tr S140)))) rfl rfl
     obtain ⟨K146, S147, z148⟩ := fz_ex K139 w136 7
     have f149 := Sl.st z148 f144.rdc
     have f150 := Sl.st z148 f145.rdc
     have f151 := hE.stp (S6.tr (S21.tr (S26.tr (S31.tr (S38.tr (S43.tr (S50.tr (S84.tr (S94.tr (S99.tr (S112.tr (S119.tr (S140.tr S147))))))))))))) rfl rfl
     refine DN.res (l := [.tmp 4, .tmp 5]) Try.results125 (res_tmp rfl (res_tmp rfl rfl)) rfl ?_
     obtain rfl := Option.some.inj h
     exact ⟨K146, las1_0, lus1_0, rfl, f151, f150⟩
    | false =>
     intro h; replace h := cF h
     refine WC.cf rfl ?_
     refine WC.skip ?_
     refine DN.seq ?_
     refine WC.seq ?_
     refine WC.rs [(0, 2), (1, 2), (2, 2), (3, 2), (4, 2), (5, 2), (6, 1), (7, 1), (8, 2)] rfl ?_
     refine WO.pn 6 rfl ?_
     obtain ⟨x92, hx92, h⟩ := Option.bind_eq_some_iff.mp h
     have f152 := f102.stp (S112.tr (S119.tr S140)) rfl rfl
     have f153 := f103.stp (S112.tr (S119.tr S140)) rfl rfl
     have f154 := f104.stp (S112.tr (S119.tr S140)) rfl rfl
     have f155 := f105.stp (S112.tr (S119.tr S140)) rfl rfl
     have f156 := f88.stp (S94.tr (S99.tr (S112.tr (S119.tr S140)))) rfl rfl
     have f157 := f120.stp S140 rfl rfl
     have f158 := f106.stp (S112.tr (S119.tr S140)) rfl rfl
     refine WO.call rfl rfl rfl rfl rfl rfl Try.call154 (i_solver_pull_ok (κ := fun b => mp [] 0 (K139 b)) (p0 := p0) (Sl.map f152 (mp [] 0) rfl rfl) (Sl.map f153 (mp [] 0) rfl rfl) (Sl.map f154 (mp [] 0) rfl rfl) (Sl.map f155 (mp [] 0) rfl rfl) (Sl.map f156.rdc (mp [] 0) rfl rfl) (Sl.map f157 (mp [] 0) rfl rfl) (f158.map (mp [] 0) rfl rfl) hx92) ?_
     rintro _ w159 ⟨k160, a92_0, u92_0, rfl, e161, f162⟩
     obtain ⟨K163, S164, m165⟩ := Ent.mixed (l := []) (κ := K139) e161 20 rfl
     refine ⟨trivial, ?_⟩
     have f167 := f162.mx no_bool m165 rfl (rfl : 20 + 2 = 22)
     obtain ⟨x93, hx93, h⟩ := Option.bind_eq_some_iff.mp h
     have f168 := f156.stp S164 rfl rfl
     refine WO.call rfl rfl rfl rfl rfl rfl Try.call127 (i_without_ok (κ := fun b => mp [] 0 (K163 b)) (Sl.map f168.rdc (mp [] 0) rfl rfl) (Sl.map f167.rdc (mp [] 0) rfl rfl) hx93) ?_
     rintro _ w169 ⟨k170, a93_0, u93_0, rfl, e171, f172⟩
     obtain ⟨K173, S174, m175⟩ := Ent.mixed (l := []) (κ := K163) e171 23 rfl
     refine ⟨trivial, ?_⟩
     have f177 := f172.mx no_bool m175 rfl (rfl : 23 + 2 = 25)
     refine WO.pn 1 rfl ?_
     refine WO.fin ?_
     refine DN.seq ?_
     refine WC.seq ?_
     refine WC.rs [(0, 2), (1, 1), (2, 2)] rfl ?_
     refine WO.pn 1 rfl ?_
     obtain ⟨x95, hx95, h⟩ := Option.bind_eq_some_iff.mp h
     refine WO.call rfl rfl rfl rfl rfl rfl Try.call155 (slices_Contains_bool_bool_ok (κ := fun b => mp [] 0 (K173 b)) (Sl.map f177.rdc (mp [] 0) rfl rfl) hx95) ?_
     rintro _ w178 ⟨k179, rfl, e180⟩
     obtain ⟨K181, S182, m183⟩ := Ent.mixed (l := []) (κ := K173) e180 26 rfl
     refine ⟨trivial, ?_⟩
     refine WO.pn 1 rfl ?_
     refine WO.fin ?_
     refine DN.seq ?_
     revert h
     cases ht185 : (!x95) with
     | true =>
      intro h; replace h := cT h
      refine WC.ct rfl ?_
      refine WC.seq ?_
      refine WC.rs [(0, 2), (1, 2), (2, 2), (3, 2)] rfl ?_
      refine WO.pn 4 rfl ?_
      refine WO.fin ?_
      refine DN.seq ?_
      refine WC.ret ?_
      refine DN.retBlock ?_
      refine DN.retThen ?_
      obtain rfl := Option.some.inj h
      obtain rfl := Option.some.inj hk40
      have h := hK34
      dsimp only [aft] at h
      refine DN.retBlock ?_
      have f186 := f177.stp S182 rfl rfl
      obtain ⟨K187, S188, z189⟩ := fz_ex K181 w178 25
      have f190 := Sl.st z189 f186.rdc
      have f191 := hE.stp (S6.tr (S21.tr (S26.tr (S31.tr (S38.tr (S43.tr (S50.tr (S84.tr (S94.tr (S99.tr (S112.tr (S119.tr (S140.tr (S164.tr (S174.tr (S182.tr S188)))))))))))))))) rfl rfl
      refine DN.res (l := [.tmp 4, .tmp 5]) Try.results125 (res_tmp rfl (res_tmp rfl rfl)) rfl ?_
      obtain rfl := Option.some.inj h
      exact ⟨K187, a93_0, u93_0, rfl, f191, f190⟩
     | false =>
      intro h; replace h := cF h
      refine WC.cf rfl ?_
      refine WC.skip ?_
      refine DN.block ?_
      have f192 := f177.stp S182 rfl rfl
      obtain rfl := Option.some.inj h
      refine DN.round fun a ha => ?_
      exact ⟨k, _, Nat.lt_succ_self _, ⟨(fun b => ren [(25, 7)] (K181 b)), (x93 : (List Bool)), a93_0, u93_0, rfl, (Stp.ren ((S38.tr (S43.tr (S50.tr (S84.tr (S94.tr (S99.tr (S112.tr (S119.tr (S140.tr (S164.tr (S174.tr S182))))))))))).wk rfl) [(25, 7)] rfl), (f192.map (ren [(25, 7)]) rfl rfl), hk40⟩, (ha.more (ha.more (ha.more (ha.more (ha.more ha.nil rfl) rfl) rfl) rfl) rfl)⟩

/- slices.BinarySearch[[]int64,int64] -/
theorem slices_BinarySearch_I_int64_ok {w : World} {κ : Col} {a0 : Option Addr} {u0 : Nat} {p0 : (List Int)} {p1 : Int} (g0 : Rd (Rp.int .i64) κ w 0 a0 u0 p0) {r : Int × Bool} (h : slices_BinarySearch_I_int64 p0 p1 = some r) : Ret Try.prog 131 [.slice a0 p0.length u0, .int .i64 p1] w (fun v w' => ∃ (κ' : Col), v = .tuple #[.int .i64 r.1, .bool r.2] ∧ Ent κ w κ' w') := by
 unfold slices_BinarySearch_I_int64 at h
 refine Ret.enter Try.func131 rfl Try.ntmps131 rfl ?_
 dsimp only [envOf]
 have hE := Ent.refl κ w
 refine WC.seq ?_
 refine WC.rs [(0, 2), (1, 2)] rfl ?_
 refine WO.pn 2 rfl ?_
 refine WO.fin ?_
 refine DN.seq ?_
 refine WC.seq ?_
 refine WC.rs [(0, 2), (1, 2), (2, 2)] rfl ?_
 refine WO.pn 1 rfl ?_
 refine WO.k2 rfl rfl rfl rfl (rn_len Try.runUnderlying22 rfl rfl) ?_
 refine WO.pn 1 rfl ?_
 refine WO.fin ?_
 refine DN.seq ?_
 refine WC.seq ?_
 refine WC.rs [(0, 2), (1, 2), (2, 2)] rfl ?_
 refine WO.pn 3 rfl ?_
 refine WO.fin ?_
 refine DN.seq ?_
 refine WC.seq ?_
 obtain ⟨q2, hq3, hK2⟩ := Option.bind_eq_some_iff.mp h
 clear h
 refine WC.meet (fun L w' => ∃ (κ' : Col) (s3 : Int × Int), L = [(0, .slice a0 p0.length u0), (1, .int .i64 p1), (6, .int .i64 (p0.length : Int)), (7, .int .i64 s3.1)] ∧ Stp [] κ w κ' w' ∧ q2 = Sum.inr s3) ?_ ?_
 ·
  refine WC.block ?_
  refine WC.loop (fun k L w' => ∃ (κ' : Col) (s1 : Int × Int), L = [(0, .slice a0 p0.length u0), (1, .int .i64 p1), (6, .int .i64 (p0.length : Int)), (7, .int .i64 s1.1), (8, .int .i64 s1.2)] ∧ Stp [] κ w κ' w' ∧ whileM (slices_BinarySearch_I_int64_b0 p0 p1) k s1 = some q2) ⟨_, _, ⟨κ, ((0 : Int), ((p0.length : Int) : Int)), rfl, (Stp.refl _ _).wk rfl, hq3⟩, fun a ha => (ha.more (ha.more (ha.more (ha.more (ha.more ha.nil rfl) rfl) rfl) rfl) rfl)⟩ ?_
  rintro k _ w7 ⟨K8, s1, rfl, S9, h⟩
  rcases k with _ | k
  ·
   cases h
  ·
   obtain ⟨o1, h, hk10⟩ := Option.bind_eq_some_iff.mp h; unfold slices_BinarySearch_I_int64_b0 at h
   refine WC.seq ?_
   refine WC.seq ?_
   refine WC.rs [(0, 2), (1, 2), (2, 2)] rfl ?_
   refine WO.pn 3 rfl ?_
   refine WO.fin ?_
   refine DN.seq ?_
   revert h
   cases ht11 : decide (s1.1 < s1.2) with
   | true =>
    intro h; replace h := cT h
    refine WC.ct rfl ?_
    refine WC.skip ?_
    refine DN.seq ?_
    refine WC.block ?_
    refine WC.seq ?_
    refine WC.rs [(0, 2), (1, 2), (2, 2), (3, 2), (4, 2), (5, 2), (6, 2)] rfl ?_
    refine WO.pn 3 rfl ?_
    refine WO.k2 rfl rfl rfl rfl (rn_conv Try.runUnderlying3 Try.runUnderlying102 rfl rfl) ?_
    refine WO.k2 rfl rfl rfl rfl (rn_shr rfl rfl rfl (by decide)) ?_
    refine WO.k2 rfl rfl rfl rfl (rn_conv Try.runUnderlying102 Try.runUnderlying3 rfl rfl) ?_
    refine WO.pn 1 rfl ?_
    refine WO.fin ?_
    refine DN.seq ?_
    refine WC.seq ?_
    refine WC.rs [(0, 2), (1, 2), (2, 2), (3, 1), (4, 2), (5, 1)] rfl ?_
    refine WO.pn 2 rfl ?_
    obtain ⟨x24, hx24, h⟩ := Option.bind_eq_some_iff.mp h
    refine WO.k2 rfl rfl rfl rfl (rn_index g0 hx24 Try.runUnderlying22 Try.sizeOf2 rfl rfl rfl rfl) ?_
    have f12 := g0.stp S9 rfl rfl
    refine WO.k1 trivial rfl rfl rfl rfl (rn_ld Try.isAgg2 rfl rfl (hvE (f12.gInt hx24))) ?_
    refine WO.pn 1 rfl ?_
    obtain ⟨x27, hx27, h⟩ := Option.bind_eq_some_iff.mp h
    refine WO.call rfl rfl rfl rfl rfl rfl Try.call159 (cmp_Less_int64_ok (κ := fun b => mp [] 0 (K8 b)) hx27) ?_
    rintro _ w13 ⟨k14, rfl, e15⟩
    obtain ⟨K16, S17, m18⟩ := Ent.mixed (l := []) (κ := K8) e15 2 rfl
    refine ⟨trivial, ?_⟩
    refine WO.fin ?_
    refine DN.seq ?_
    obtain ⟨q4, h, hK20⟩ := Option.bind_eq_some_iff.mp h
    refine WC.meet (fun L w' => ∃ (κ' : Col), L = [(0, .slice a0 p0.length u0), (1, .int .i64 p1), (6, .int .i64 (p0.length : Int)), (7, .int .i64 q4.1), (8, .int .i64 q4.2)] ∧ Stp [] K16 w13 κ' w') ?_ ?_
    ·
     revert h
     cases ht24 : x27 with
     | true =>
      intro h; replace h := cT h
      refine WC.ct rfl ?_
      refine WC.rs [(0, 2), (1, 2), (2, 2)] rfl ?_
      refine WO.pn 3 rfl ?_
      refine WO.fin ?_
      obtain rfl := Option.some.inj h
      exact DN.meet _ ⟨K16, rfl, (Stp.refl _ _).wk rfl⟩ fun a ha => (ha.more (ha.more (ha.more (ha.more (ha.more ha.nil rfl) rfl) rfl) rfl) rfl)
     | false =>
      intro h; replace h := cF h
      refine WC.cf rfl ?_
      refine WC.rs [(0, 2), (1, 2)] rfl ?_
      refine WO.pn 2 rfl ?_
      refine WO.fin ?_
      obtain rfl := Option.some.inj h
      exact DN.meet _ ⟨K16, rfl, (Stp.refl _ _).wk rfl⟩ fun a ha => (ha.more (ha.more (ha.more (ha.more (ha.more ha.nil rfl) rfl) rfl) rfl) rfl)
    rintro _ w21 ⟨K22, rfl, S23⟩
    have h := hK20
    refine DN.block ?_
    obtain rfl := Option.some.inj h
    refine DN.round fun a ha => ?_
    exact ⟨k, _, Nat.lt_succ_self _, ⟨K22, ((q4.1 : Int), (q4.2 : Int)), rfl, (S9.tr (S17.tr S23)).wk rfl, hk10⟩, (ha.more (ha.more (ha.more (ha.more (ha.more ha.nil rfl) rfl) rfl) rfl) rfl)⟩
   | false =>
    intro h; replace h := cF h
    refine WC.cf rfl ?_
    refine WC.exit ?_
    refine DN.exitThen ?_
    refine DN.exitThen ?_
    obtain rfl := Option.some.inj h
    have h := hk10
    refine DN.hit ?_
    obtain rfl := Option.some.inj h
    exact DN.meet _ ⟨K8, ((s1.1 : Int), (s1.2 : Int)), rfl, S9.wk rfl, rfl⟩ fun a ha => (ha.more (ha.more (ha.more (ha.more ha.nil rfl) rfl) rfl) rfl)
 rintro _ w4 ⟨K5, s3, rfl, S6, rfl⟩
 have h := hK2
 dsimp only [aft] at h
 refine DN.seq ?_
 refine WC.seq ?_
 refine WC.rs [(0, 2), (1, 2), (2, 2), (3, 2), (4, 2), (5, 2), (6, 2), (7, 2), (8, 1), (9, 2), (10, 2), (11, 2), (12, 2), (13, 2), (14, 2), (15, 1), (16, 1), (17, 2), (18, 2), (19, 1), (20, 2), (21, 2), (22, 2), (23, 2), (24, 2)] rfl ?_
 refine WO.pn 5 rfl ?_
 obtain ⟨p53, h, hK25⟩ := Option.bind_eq_some_iff.mp h
 refine WO.meet [(5, 2), (6, 2), (7, 2), (8, 1), (9, 2), (10, 2), (11, 2), (12, 2), (13, 2), (14, 2), (15, 1), (16, 1), (17, 2), (18, 2), (19, 1), (20, 2), (21, 2), (22, 2)] [(23, 2), (24, 2)] (fun L w' => L = [(31, .int .i64 s3.1), (53, .bool p53)] ∧ ∃ κ', Stp [] K5 w4 κ' w') trivial ?_ ?_
 ·
  revert h
  cases ht26 : decide (s3.1 < (p0.length : Int)) with
  | true =>
   intro h; replace h := cT h
   refine WO.pn 2 rfl ?_
   obtain ⟨x38, hx38, h⟩ := Option.bind_eq_some_iff.mp h
   refine WO.k2 rfl rfl rfl rfl (rn_index g0 hx38 Try.runUnderlying22 Try.sizeOf2 rfl rfl rfl rfl) ?_
   have f27 := g0.stp S6 rfl rfl
   refine WO.k1 trivial rfl rfl rfl rfl (rn_ld Try.isAgg2 rfl rfl (hvE (f27.gInt hx38))) ?_
   refine WO.pn 3 rfl ?_
   obtain ⟨p52, h, hK28⟩ := Option.bind_eq_some_iff.mp h
   refine WO.meet [(12, 2), (13, 2), (14, 2), (15, 1), (16, 1), (17, 2), (18, 2), (19, 1), (20, 2), (21, 2)] [(22, 2)] (fun L w' => L = [(31, .int .i64 s3.1), (35, .bool true), (52, .bool p52)] ∧ ∃ κ', Stp [] K5 w4 κ' w') trivial ?_ ?_
   ·
    revert h
    cases ht29 : (x38 == p1) with
    | true =>
     intro h; replace h := cT h
     refine WO.pn 3 rfl ?_
     refine WO.ls rfl rfl rfl rfl ?_
     refine WO.ls rfl rfl rfl rfl ?_
     refine WO.pn 2 rfl ?_
     refine WO.ls rfl rfl rfl rfl ?_
     refine WO.pn 2 rfl ?_
     obtain rfl := Option.some.inj h
     exact WO.met _ trivial ⟨rfl, _, (Stp.refl _ _).wk rfl⟩ fun a ha => (ha.more (ha.more (ha.more ha.nil rfl) rfl) rfl)
    | false =>
     intro h; replace h := cF h
     refine WO.pn 2 rfl ?_
     obtain ⟨x45, hx45, h⟩ := Option.bind_eq_some_iff.mp h
     refine WO.k2 rfl rfl rfl rfl (rn_index f27 hx45 Try.runUnderlying22 Try.sizeOf2 rfl rfl rfl rfl) ?_
     refine WO.k1 trivial rfl rfl rfl rfl (rn_ld Try.isAgg2 rfl rfl (hvE (f27.gInt hx45))) ?_
     obtain ⟨x47, hx47, h⟩ := Option.bind_eq_some_iff.mp h
     refine WO.call rfl rfl rfl rfl rfl rfl Try.call160 (slices_isNaN_int64_ok (κ := fun b => mp [] 0 (K5 b)) hx47) ?_
     rintro _ w30 ⟨k31, rfl, e32⟩
     obtain ⟨K33, S34, m35⟩ := Ent.mixed (l := []) (κ := K5) e32 2 rfl
     refine ⟨trivial, ?_⟩
     refine WO.pn 1 rfl ?_
     obtain ⟨p51, h, hK37⟩ := Option.bind_eq_some_iff.mp h
     refine WO.meet [(18, 2), (19, 1), (20, 2)] [(21, 2)] (fun L w' => L = [(31, .int .i64 s3.1), (35, .bool true), (42, .bool false), (51, .bool p51)] ∧ ∃ κ', Stp [] K33 w30 κ' w') trivial ?_ ?_
     ·
      revert h
      cases ht38 : x47 with
      | true =>
       intro h; replace h := cT h
       refine WO.pn 1 rfl ?_
       obtain ⟨x50, hx50, h⟩ := Option.bind_eq_some_iff.mp h
       refine WO.call rfl rfl rfl rfl rfl rfl Try.call160 (slices_isNaN_int64_ok (κ := fun b => mp [] 0 (K33 b)) hx50) ?_
       rintro _ w39 ⟨k40, rfl, e41⟩
       obtain ⟨K42, S43, m44⟩ := Ent.mixed (l := []) (κ := K33) e41 4 rfl
       refine ⟨trivial, ?_⟩
       refine WO.pn 1 rfl ?_
       obtain rfl := Option.some.inj h
       exact WO.met _ trivial ⟨rfl, _, S43.wk rfl⟩ fun a ha => (ha.more (ha.more (ha.more (ha.more ha.nil rfl) rfl) rfl) rfl)
      | false =>
       intro h; replace h := cF h
       refine WO.pn 1 rfl ?_
       refine WO.ls rfl rfl rfl rfl ?_
       refine WO.pn 1 rfl ?_
       obtain rfl := Option.some.inj h
       exact WO.met _ trivial ⟨rfl, _, (Stp.refl _ _).wk rfl⟩ fun a ha => (ha.more (ha.more (ha.more (ha.more ha.nil rfl) rfl) rfl) rfl)
     rintro _ w46 _ ⟨rfl, K47, S48⟩
     have h := hK37
     refine WO.pn 1 rfl ?_
     obtain rfl := Option.some.inj h
     exact WO.met _ trivial ⟨rfl, _, (S34.tr S48).wk rfl⟩ fun a ha => (ha.more (ha.more (ha.more ha.nil rfl) rfl) rfl)
   rintro _ w49 _ ⟨rfl, K50, S51⟩
   have h := hK28
   refine WO.pn 1 rfl ?_
   obtain rfl := Option.some.inj h
   exact WO.met _ trivial ⟨rfl, _, S51.wk rfl⟩ fun a ha => (ha.more (ha.more ha.nil rfl) rfl)
  | false =>
   intro h; replace h := cF h
   refine WO.pn 3 rfl ?_
   refine WO.ls rfl rfl rfl rfl ?_
   refine WO.pn 6 rfl ?_
   refine WO.ls rfl rfl rfl rfl ?_
   refine WO.ls rfl rfl rfl rfl ?_
   refine WO.pn 2 rfl ?_
   refine WO.ls rfl rfl rfl rfl ?_
   refine WO.pn 3 rfl ?_
   obtain rfl := Option.some.inj h
   exact WO.met _ trivial ⟨rfl, _, (Stp.refl _ _).wk rfl⟩ fun a ha => (ha.more (ha.more ha.nil rfl) rfl)
 rintro _ w52 _ ⟨rfl, K53, S54⟩
 have h := hK25
 refine WO.pn 2 rfl ?_
 refine WO.fin ?_
 refine DN.seq ?_
 refine WC.ret ?_
 have f55 := hE.stp (S6.tr S54) rfl rfl
 refine DN.res (l := [.tmp 4, .tmp 5]) Try.results131 (res_tmp rfl (res_tmp rfl rfl)) rfl ?_
 obtain rfl := Option.some.inj h
 exact ⟨K53, rfl, f55⟩

/- loop.example/g00869/laws.eqArena -/
theorem l_eqArena_ok {w : World} {κ : Col} {a0_0 : Option Addr} {u0_0 : Nat} {a0_1 : Option Addr} {u0_1 : Nat} {p0 : Arena} {a1_0 : Option Addr} {u1_0 : Nat} {a1_1 : Option Addr} {u1_1 : Nat} {p1 : Arena} (g0_0 : Rd (Rp.int .i64) κ w 0 a0_0 u0_0 p0.Owner) (g0_1 : Rd (Rp.sl (Rp.int .i64)) κ w 0 a0_1 u0_1 p0.Next) (g1_0 : Rd (Rp.int .i64) κ w 0 a1_0 u1_0 p1.Owner) (g1_1 : Rd (Rp.sl (Rp.int .i64)) κ w 0 a1_1 u1_1 p1.Next) {r : Bool} (h : l_eqArena p0 p1 = some r) : Ret Try.prog 46 [.agg #[.slice a0_0 p0.Owner.length u0_0, .slice a0_1 p0.Next.length u0_1], .agg #[.slice a1_0 p1.Owner.length u1_0, .slice a1_1 p1.Next.length u1_1]] w (fun v w' => ∃ (κ' : Col), v = .bool r ∧ Ent κ w κ' w') := by
 unfold l_eqArena at h
 refine Ret.enter Try.func46 rfl Try.ntmps46 rfl ?_
 dsimp only [envOf]
 have hE := Ent.refl κ w
 refine WC.seq ?_
 refine WC.rs [(0, 1), (1, 1), (2, 2)] rfl ?_
 refine WO.box (κ := κ) 2 rfl rfl rfl rfl rfl rfl rfl fun b2 w1 K2 S3 f4 => ⟨trivial, ?_⟩
 refine WO.box (κ := K2) 3 rfl rfl rfl rfl rfl rfl rfl fun b3 w5 K6 S7 f8 => ⟨trivial, ?_⟩
 refine WO.pn 1 rfl ?_
 refine WO.fin ?_
 refine DN.seq ?_
 refine WC.seq ?_
 refine WC.seq ?_
 refine WC.rs [(0, 2), (1, 1), (2, 2), (3, 1), (4, 1), (5, 2)] rfl ?_
 refine WO.k2 rfl rfl rfl rfl (rn_fieldAddr Try.runUnderlying32 rfl Try.sizeOf22 rfl rfl) ?_
 have f9 := f4.stp S7 rfl rfl
 refine WO.k1 trivial rfl rfl rfl rfl (rn_ld Try.isAgg22 rfl rfl (hvE (f9.ld 0 rfl rfl))) ?_
 refine WO.k2 rfl rfl rfl rfl (rn_fieldAddr Try.runUnderlying32 rfl Try.sizeOf22 rfl rfl) ?_
 refine WO.k1 trivial rfl rfl rfl rfl (rn_ld Try.isAgg22 rfl rfl (hvE (f8.ld 0 rfl rfl))) ?_
 obtain ⟨x9, hx9, h⟩ := Option.bind_eq_some_iff.mp h
 have f10 := g0_0.stp (S3.tr S7) rfl rfl
 have f11 := g1_0.stp (S3.tr S7) rfl rfl
 refine WO.call rfl rfl rfl rfl rfl rfl Try.call12 (l_eqInt64S_ok (κ := fun b => mp [] 0 (K6 b)) (Sl.map f10 (mp [] 0) rfl rfl) (Sl.map f11 (mp [] 0) rfl rfl) hx9) ?_
 rintro _ w12 ⟨k13, rfl, e14⟩
 obtain ⟨K15, S16, m17⟩ := Ent.mixed (l := []) (κ := K6) e14 4 rfl
 refine ⟨trivial, ?_⟩
 refine WO.pn 1 rfl ?_
 refine WO.fin ?_
 refine DN.seq ?_
 revert h
 cases ht19 : (!x9) with
 | true =>
  intro h; replace h := cT h
  refine WC.ct rfl ?_
  refine WC.seq ?_
  refine WC.rs [(0, 2)] rfl ?_
  refine WO.pn 1 rfl ?_
  refine WO.fin ?_
  refine DN.seq ?_
  refine WC.ret ?_
  refine DN.retThen ?_
  have f20 := hE.stp (S3.tr (S7.tr S16)) rfl rfl
  refine DN.res (l := [.tmp 4]) Try.results46 (res_tmp rfl rfl) rfl ?_
  obtain rfl := Option.some.inj h
  exact ⟨K15, rfl, f20⟩
 | false =>
  intro h; replace h := cF h
  refine WC.cf rfl ?_
  refine WC.skip ?_
  refine DN.seq ?_
  refine WC.seq ?_
  refine WC.seq ?_
  refine WC.rs [(0, 2), (1, 1), (2, 2), (3, 1), (4, 1), (5, 2)] rfl ?_
  refine WO.k2 rfl rfl rfl rfl (rn_fieldAddr Try.runUnderlying32 rfl Try.sizeOf23 rfl rfl) ?_
  have f21 := f9.stp S16 rfl rfl
  refine WO.k1 trivial rfl rfl rfl rfl (rn_ld Try.isAgg23 rfl rfl (hvE (f21.ld 1 rfl rfl))) ?_
  refine WO.k2 rfl rfl rfl rfl (rn_fieldAddr Try.runUnderlying32 rfl Try.sizeOf23 rfl rfl) ?_
  have f22 := f8.stp S16 rfl rfl
  refine WO.k1 trivial rfl rfl rfl rfl (rn_ld Try.isAgg23 rfl rfl (hvE (f22.ld 1 rfl rfl))) ?_
  obtain ⟨x15, hx15, h⟩ := Option.bind_eq_some_iff.mp h
  have f23 := g0_1.stp (S3.tr (S7.tr S16)) rfl rfl
  have f24 := g1_1.stp (S3.tr (S7.tr S16)) rfl rfl
  refine WO.call rfl rfl rfl rfl rfl rfl Try.call24 (l_eqInt64SS_ok (κ := fun b => mp [] 0 (K15 b)) (Sl.map f23 (mp [] 0) rfl rfl) (Sl.map f24 (mp [] 0) rfl rfl) hx15) ?_
  rintro _ w25 ⟨k26, rfl, e27⟩
  obtain ⟨K28, S29, m30⟩ := Ent.mixed (l := []) (κ := K15) e27 6 rfl
  refine ⟨trivial, ?_⟩
  refine WO.pn 1 rfl ?_
  refine WO.fin ?_
  refine DN.seq ?_
  revert h
  cases ht32 : (!x15) with
  | true =>
   intro h; replace h := cT h
   refine WC.ct rfl ?_
   refine WC.seq ?_
   refine WC.rs [(0, 2)] rfl ?_
   refine WO.pn 1 rfl ?_
   refine WO.fin ?_
   refine DN.seq ?_
   refine WC.ret ?_
   refine DN.retThen ?_
   have f33 := hE.stp (S3.tr (S7.tr (S16.tr S29))) rfl rfl
   refine DN.res (l := [.tmp 4]) Try.results46 (res_tmp rfl rfl) rfl ?_
   obtain rfl := Option.some.inj h
   exact ⟨K28, rfl, f33⟩
  | false =>
   intro h; replace h := cF h
   refine WC.cf rfl ?_
   refine WC.skip ?_
   refine DN.seq ?_
   refine WC.seq ?_
   refine WC.rs [(0, 2)] rfl ?_
   refine WO.pn 1 rfl ?_
   refine WO.fin ?_
   refine DN.seq ?_
   refine WC.ret ?_
   have f34 := hE.stp (S3.tr (S7.tr (S16.tr S29))) rfl rfl
   refine DN.res (l := [.tmp 4]) Try.results46 (res_tmp rfl rfl) rfl ?_
   obtain rfl := Option.some.inj h
   exact ⟨K28, rfl, f34⟩

end Go.Proofs.Ytndiklipffipcaa
