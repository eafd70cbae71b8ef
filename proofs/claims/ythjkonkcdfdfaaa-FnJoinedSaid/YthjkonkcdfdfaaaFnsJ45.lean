/- The walks, part 5. By program. -/
import Derived.Test.YthjkonkcdfdfaaaFnsJ44
set_option linter.unusedVariables false
set_option linter.unusedSimpArgs false
namespace Go.Proofs.Ythjkonkcdfdfaaa
open Go Go.Wk Go.Proofs
set_option maxRecDepth 100000
set_option maxHeartbeats 1000000

/- loop.example/g00869/spec.DrawChosenBy -/
theorem s_DrawChosenBy_ok {w : World} {κ : Col} {a0 : Option Addr} {u0 : Nat} {p0 : (List Int)} (g0 : Rd (Rp.int .u8) κ w 0 a0 u0 p0) {r : Circuit × Int × Int × Int} (h : s_DrawChosenBy p0 = some r) : Ret Try.prog 15 [.slice a0 p0.length u0] w (fun v w' => ∃ (κ' : Col) (ra0 : Option Addr) (ru0 : Nat) (ra1 : Option Addr) (ru1 : Nat) (ra2 : Option Addr) (ru2 : Nat), v = .tuple #[.agg #[.int .i64 r.1.Inputs, .int .i64 r.1.Latches, .slice ra0 r.1.Next.length ru0, .slice ra1 r.1.Gates.length ru1, .slice ra2 r.1.Outs.length ru2], .int .i64 r.2.1, .int .i64 r.2.2.1, .int .i64 r.2.2.2] ∧ Ent κ w κ' w' ∧ Oc (Ep.int .i64) 2 κ' w' 2 ra0 ru0 r.1.Next ∧ Oc Gate.ep33 33 κ' w' 3 ra1 ru1 r.1.Gates ∧ Oc (Ep.int .i64) 2 κ' w' 4 ra2 ru2 r.1.Outs) := by
 unfold s_DrawChosenBy at h
 refine Ret.enter Try.func15 rfl Try.ntmps15 rfl ?_
 dsimp only [envOf]
 have hE := Ent.refl κ w
 refine WC.seq ?_
 refine WC.rs [(0, 1), (1, 2), (2, 2), (3, 2)] rfl ?_
 refine WO.alloc (κ := κ) 2 rfl rfl rfl rfl rfl Try.zeroValue27 rfl fun b2 w1 K2 S3 f4 => ⟨trivial, ?_⟩
 refine WO.pn 3 rfl ?_
 refine WO.fin ?_
 refine DN.seq ?_
 refine WC.seq ?_
 refine WC.rs [(0, 2), (1, 1), (2, 2)] rfl ?_
 refine WO.pn 1 rfl ?_
 obtain ⟨x11, hx11, h⟩ := Option.bind_eq_some_iff.mp h
 have f5 := g0.stp S3 rfl rfl
 refine WO.call rfl rfl rfl rfl rfl rfl Try.call29 (s_l1New_ok (κ := fun b => mp [] 1 (K2 b)) (Sl.map f5 (mp [] 1) rfl rfl) hx11) ?_
 rintro _ w6 ⟨k7, a11_0, u11_0, b11, rfl, e8, f9, f10⟩
 obtain ⟨K11, S12, m13, z14⟩ := Ent.mixed0 (l := []) (κ := K2) e8 3 rfl
 refine ⟨trivial, ?_⟩
 have f15 := f9.mx z14
 have f16 := f10.mx m13 rfl (rfl : 3 + 3 = 6)
 refine WO.pn 1 rfl ?_
 refine WO.fin ?_
 refine DN.seq ?_
 refine WC.seq ?_
 refine WC.rs [(0, 2), (1, 1), (2, 1), (3, 1)] rfl ?_
 refine WO.pn 1 rfl ?_
 obtain ⟨x13, hx13, h⟩ := Option.bind_eq_some_iff.mp h
 refine WO.call rfl rfl rfl rfl rfl rfl Try.call30 (s_l31DrawAny_ok (κ := fun b => mp [(6, 2)] 0 (K11 b)) (p0 := x11) (Sl.map f15 (mp [(6, 2)] 0) rfl rfl) (f16.map (mp [(6, 2)] 0) rfl rfl) hx13) ?_
 rintro _ w17 ⟨k18, a13_0, u13_0, a13_1, u13_1, a13_2, u13_2, rfl, e19, f20, f21, f22, f23⟩
 obtain ⟨K24, S25, m26⟩ := Ent.mixed (l := [(6, 2)]) (κ := K11) e19 7 rfl
 refine ⟨trivial, ?_⟩
 have f28 := f20.mx (no_int _) m26 rfl (rfl : 7 + 3 = 10)
 have f29 := f21.mx Gate.no33 m26 rfl (rfl : 7 + 4 = 11)
 have f30 := f22.mx (no_int _) m26 rfl (rfl : 7 + 5 = 12)
 have f31 := f23.mx m26 rfl (rfl : 7 + 2 = 9)
 refine WO.alloc (κ := K24) 13 rfl rfl rfl rfl rfl Try.zeroValue27 rfl fun b7 w32 K33 S34 f35 => ⟨trivial, ?_⟩
 refine WO.stB0 (κ := K33) 13 (vc := [.int .i64 x13.1.Inputs, .int .i64 x13.1.Latches, .slice a13_0 x13.1.Next.length u13_0, .slice a13_1 x13.1.Gates.length u13_1, .slice a13_2 x13.1.Outs.length u13_2]) rfl rfl rfl rfl rfl rfl rfl Try.sizeOf27 rfl rfl f35 rfl fun w36 S37 f38 => ⟨trivial, ?_⟩
 refine WO.fin ?_
 refine DN.seq ?_
 refine WC.seq ?_
 refine WC.rs [(0, 2), (1, 1), (2, 1), (3, 2)] rfl ?_
 refine WO.pn 1 rfl ?_
 refine WO.k1 trivial rfl rfl rfl rfl (rn_la (cs := [.int .i64 x13.1.Inputs, .int .i64 x13.1.Latches, .slice a13_0 x13.1.Next.length u13_0, .slice a13_1 x13.1.Gates.length u13_1, .slice a13_2 x13.1.Outs.length u13_2]) Try.isAgg27 Try.sizeOf27 rfl rfl rfl (haE f38.cells)) ?_
 obtain ⟨x16, hx16, h⟩ := Option.bind_eq_some_iff.mp h
 have f39 := f15.stp (S25.tr (S34.tr S37)) rfl rfl
 have f40 := f28.stp (S34.tr S37) rfl rfl
 have f41 := f29.stp (S34.tr S37) rfl rfl
 have f42 := f30.stp (S34.tr S37) rfl rfl
 have f43 := f31.stp (S34.tr S37) rfl rfl
 refine WO.call rfl rfl rfl rfl rfl rfl Try.call41 (s_l31DrawLiteral_ok (κ := fun b => mp [(9, 2)] 0 (K33 b)) (p1 := x13.1) (p0 := (⟨x11.b, x13.2.1, x13.2.2⟩ : l1Cur)) (Sl.map f39 (mp [(9, 2)] 0) rfl rfl) (Sl.map f40.rdc (mp [(9, 2)] 0) rfl rfl) (Sl.map f41.rdc (mp [(9, 2)] 0) rfl rfl) (Sl.map f42.rdc (mp [(9, 2)] 0) rfl rfl) (f43.map (mp [(9, 2)] 0) rfl rfl) hx16) ?_
 rintro _ w44 ⟨k45, rfl, e46, f47⟩
 obtain ⟨K48, S49, m50⟩ := Ent.mixed (l := [(9, 2)]) (κ := K33) e46 14 rfl
 refine ⟨trivial, ?_⟩
 have f52 := f47.mx m50 rfl (rfl : 14 + 2 = 16)
 refine WO.pn 1 rfl ?_
 refine WO.fin ?_
 refine DN.seq ?_
 refine WC.seq ?_
 refine WC.rs [(0, 2), (1, 1), (2, 1), (3, 2)] rfl ?_
 refine WO.pn 1 rfl ?_
 have f53 := f38.stp S49 rfl rfl
 refine WO.k1 trivial rfl rfl rfl rfl (rn_la (cs := [.int .i64 x13.1.Inputs, .int .i64 x13.1.Latches, .slice a13_0 x13.1.Next.length u13_0, .slice a13_1 x13.1.Gates.length u13_1, .slice a13_2 x13.1.Outs.length u13_2]) Try.isAgg27 Try.sizeOf27 rfl rfl rfl (haE f53.cells)) ?_
 obtain ⟨x19, hx19, h⟩ := Option.bind_eq_some_iff.mp h
 have f54 := f39.stp S49 rfl rfl
 have f55 := f40.stp S49 rfl rfl
 have f56 := f41.stp S49 rfl rfl
 have f57 := f42.stp S49 rfl rfl
 refine WO.call rfl rfl rfl rfl rfl rfl Try.call41 (s_l31DrawLiteral_ok (κ := fun b => mp [(16, 2)] 0 (K48 b)) (p1 := x13.1) (p0 := (⟨x11.b, x16.2.1, x16.2.2⟩ : l1Cur)) (Sl.map f54 (mp [(16, 2)] 0) rfl rfl) (Sl.map f55.rdc (mp [(16, 2)] 0) rfl rfl) (Sl.map f56.rdc (mp [(16, 2)] 0) rfl rfl) (Sl.map f57.rdc (mp [(16, 2)] 0) rfl rfl) (f52.map (mp [(16, 2)] 0) rfl rfl) hx19) ?_
 rintro _ w58 ⟨k59, rfl, e60, f61⟩
 obtain ⟨K62, S63, m64⟩ := Ent.mixed (l := [(16, 2)]) (κ := K48) e60 17 rfl
 refine ⟨trivial, ?_⟩
 have f66 := f61.mx m64 rfl (rfl : 17 + 2 = 19)
 refine WO.pn 1 rfl ?_
 refine WO.fin ?_
 refine DN.seq ?_
 refine WC.seq ?_
 refine WC.rx (κ := K62) [13] none [(1, 2), (4, 2), (5, 2), (0, 0), (2, 0), (3, 1), (6, 1), (7, 2), (8, 2), (9, 2)] [] (by kernel_rfl) (by kernel_rfl) fun w68 S67 => ?_
 refine WO.pn 3 rfl ?_
 have f69 := f53.stp (S63.tr S67) rfl rfl
 refine WO.k0 rfl rfl rfl rfl (rn_la (cs := [.int .i64 x13.1.Inputs, .int .i64 x13.1.Latches, .slice a13_0 x13.1.Next.length u13_0, .slice a13_1 x13.1.Gates.length u13_1, .slice a13_2 x13.1.Outs.length u13_2]) Try.isAgg27 Try.sizeOf27 rfl rfl rfl (haC f69.cells rfl)) ?_
 refine WO.k0 rfl rfl rfl rfl (rn_la (cs := [.int .i64 x13.1.Inputs, .int .i64 x13.1.Latches, .slice a13_0 x13.1.Next.length u13_0, .slice a13_1 x13.1.Gates.length u13_1, .slice a13_2 x13.1.Outs.length u13_2]) Try.isAgg27 Try.sizeOf27 rfl rfl rfl (haC f69.cells rfl)) ?_
 obtain ⟨x23, hx23, h⟩ := Option.bind_eq_some_iff.mp h
 have f70 := f54.stp (S63.tr S67) rfl rfl
 have f71 := f55.stp (S63.tr S67) rfl rfl
 have f72 := f56.stp (S63.tr S67) rfl rfl
 have f73 := f57.stp (S63.tr S67) rfl rfl
 have f74 := f66.stp S67 rfl rfl
 refine WO.call rfl rfl rfl rfl rfl rfl Try.call41 (s_l31DrawLiteral_ok (κ := fun b => mp [(19, 2)] 0 (K62 b)) (p1 := x13.1) (p0 := (⟨x11.b, x19.2.1, x19.2.2⟩ : l1Cur)) (Sl.map f70 (mp [(19, 2)] 0) rfl rfl) (Sl.map f71.rdc (mp [(19, 2)] 0) rfl rfl) (Sl.map f72.rdc (mp [(19, 2)] 0) rfl rfl) (Sl.map f73.rdc (mp [(19, 2)] 0) rfl rfl) (f74.map (mp [(19, 2)] 0) rfl rfl) hx23) ?_
 rintro _ w75 ⟨k76, rfl, e77, f78⟩
 obtain ⟨K79, S80, m81⟩ := Ent.mixed (l := [(19, 2)]) (κ := K62) e77 20 rfl
 refine ⟨(S80.cl rfl), ?_⟩
 have f83 := f78.mx m81 rfl (rfl : 20 + 2 = 22)
 have f84 := f4.stp (S12.tr (S25.tr (S34.tr (S37.tr (S49.tr (S63.tr (S67.tr S80))))))) rfl rfl
 refine WO.stB0 (κ := K79) 2 (vc := [.int .i64 x13.1.Inputs, .int .i64 x13.1.Latches, .slice a13_0 x13.1.Next.length u13_0, .slice a13_1 x13.1.Gates.length u13_1, .slice a13_2 x13.1.Outs.length u13_2]) rfl rfl rfl rfl rfl rfl rfl Try.sizeOf27 rfl rfl f84 rfl fun w85 S86 f87 => ⟨((S80.tr S86).cl rfl), ?_⟩
 refine WO.pn 3 rfl ?_
 refine WO.nx ?_
 refine WO.fin ?_
 refine DN.seq ?_
 refine WC.ret ?_
 have f88 := hE.stp (S3.tr (S12.tr (S25.tr (S34.tr (S37.tr (S49.tr (S63.tr (S67.tr (S80.tr S86))))))))) rfl rfl
 have f89 := f71.stp (S80.tr S86) rfl rfl
 have f90 := f72.stp (S80.tr S86) rfl rfl
 have f91 := f73.stp (S80.tr S86) rfl rfl
 refine DN.res (l := [.cell 2 27, .tmp 3, .tmp 4, .tmp 5]) Try.results15 (res_cellA rfl f87 Try.isAgg27 Try.sizeOf27 rfl (res_tmp rfl (res_tmp rfl (res_tmp rfl rfl)))) rfl ?_
 obtain rfl := Option.some.inj h
 exact ⟨(fun b => ren [(10, 2), (11, 3), (12, 4)] (K79 b)), a13_0, u13_0, a13_1, u13_1, a13_2, u13_2, rfl, (f88.map (ren [(10, 2), (11, 3), (12, 4)]) rfl rfl), (f89.map (ren [(10, 2), (11, 3), (12, 4)]) rfl rfl), (f90.map (ren [(10, 2), (11, 3), (12, 4)]) rfl rfl), (f91.map (ren [(10, 2), (11, 3), (12, 4)]) rfl rfl)⟩

/- loop.example/g00869/impl.JoinedBy -/
theorem i_JoinedBy_ok {w : World} {κ : Col} {a0_2 : Option Addr} {u0_2 : Nat} {a0_3 : Option Addr} {u0_3 : Nat} {a0_4 : Option Addr} {u0_4 : Nat} {p0 : Circuit} {p1 : Int} {p2 : Int} (g0_2 : Rd (Rp.int .i64) κ w 0 a0_2 u0_2 p0.Next) (g0_3 : Rd Gate.rp κ w 0 a0_3 u0_3 p0.Gates) (g0_4 : Rd (Rp.int .i64) κ w 0 a0_4 u0_4 p0.Outs) {r : Circuit × Int} (h : i_JoinedBy p0 p1 p2 = some r) : Ret Try.prog 16 [.agg #[.int .i64 p0.Inputs, .int .i64 p0.Latches, .slice a0_2 p0.Next.length u0_2, .slice a0_3 p0.Gates.length u0_3, .slice a0_4 p0.Outs.length u0_4], .int .i64 p1, .int .i64 p2] w (fun v w' => ∃ (κ' : Col) (ra0 : Option Addr) (ru0 : Nat) (ra1 : Option Addr) (ru1 : Nat) (ra2 : Option Addr) (ru2 : Nat), v = .tuple #[.agg #[.int .i64 r.1.Inputs, .int .i64 r.1.Latches, .slice ra0 r.1.Next.length ru0, .slice ra1 r.1.Gates.length ru1, .slice ra2 r.1.Outs.length ru2], .int .i64 r.2] ∧ Ent κ w κ' w' ∧ Oc (Ep.int .i64) 2 κ' w' 2 ra0 ru0 r.1.Next ∧ Oc Gate.ep33 33 κ' w' 3 ra1 ru1 r.1.Gates ∧ Oc (Ep.int .i64) 2 κ' w' 4 ra2 ru2 r.1.Outs) := by
 unfold i_JoinedBy at h
 refine Ret.enter Try.func16 rfl Try.ntmps16 rfl ?_
 dsimp only [envOf]
 have hE := Ent.refl κ w
 refine WC.seq ?_
 refine WC.rs [(0, 1), (1, 1), (2, 2)] rfl ?_
 refine WO.box (κ := κ) 2 rfl rfl rfl rfl rfl rfl rfl fun b3 w1 K2 S3 f4 => ⟨trivial, ?_⟩
 refine WO.alloc (κ := K2) 3 rfl rfl rfl rfl rfl Try.zeroValue27 rfl fun b6 w5 K6 S7 f8 => ⟨trivial, ?_⟩
 refine WO.pn 1 rfl ?_
 refine WO.fin ?_
 refine DN.seq ?_
 refine WC.seq ?_
 refine WC.seq ?_
 refine WC.rs [(0, 1), (1, 1), (2, 2), (3, 2), (4, 1), (5, 2), (6, 1), (7, 2), (8, 2), (9, 2), (10, 1), (11, 2), (12, 1), (13, 2), (14, 2)] rfl ?_
 have f9 := f4.stp S7 rfl rfl
 refine WO.k1 trivial rfl rfl rfl rfl (rn_la (cs := [.int .i64 p0.Inputs, .int .i64 p0.Latches, .slice a0_2 p0.Next.length u0_2, .slice a0_3 p0.Gates.length u0_3, .slice a0_4 p0.Outs.length u0_4]) Try.isAgg27 Try.sizeOf27 rfl rfl rfl (haE f9.cells)) ?_
 obtain ⟨x11, hx11, h⟩ := Option.bind_eq_some_iff.mp h
 have f10 := g0_2.stp (S3.tr S7) rfl rfl
 have f11 := g0_3.stp (S3.tr S7) rfl rfl
 have f12 := g0_4.stp (S3.tr S7) rfl rfl
 refine WO.call rfl rfl rfl rfl rfl rfl Try.call31 (i_isCircuit_ok (κ := fun b => mp [] 0 (K6 b)) (p0 := p0) (Sl.map f10 (mp [] 0) rfl rfl) (Sl.map f11 (mp [] 0) rfl rfl) (Sl.map f12 (mp [] 0) rfl rfl) hx11) ?_
 rintro _ w13 ⟨k14, rfl, e15⟩
 obtain ⟨K16, S17, m18⟩ := Ent.mixed (l := []) (κ := K6) e15 4 rfl
 refine ⟨trivial, ?_⟩
 refine WO.pn 2 rfl ?_
 obtain ⟨p18, h, hK20⟩ := Option.bind_eq_some_iff.mp h
 refine WO.meet [(4, 1), (5, 2), (6, 1), (7, 2), (8, 2)] [(9, 2), (10, 1), (11, 2), (12, 1), (13, 2), (14, 2)] (fun L w' => L = [(1, .int .i64 p1), (2, .int .i64 p2), (3, .pointer (some ⟨b3, 0, none⟩)), (6, .pointer (some ⟨b6, 0, none⟩)), (18, .bool p18)] ∧ ∃ κ', Stp [] K16 w13 κ' w') trivial ?_ ?_
 ·
  revert h
  cases ht21 : (!x11) with
  | true =>
   intro h; replace h := cT h
   refine WO.ls rfl rfl rfl rfl ?_
   refine WO.pn 1 rfl ?_
   refine WO.ls rfl rfl rfl rfl ?_
   refine WO.pn 2 rfl ?_
   obtain rfl := Option.some.inj h
   exact WO.met _ trivial ⟨rfl, _, (Stp.refl _ _).wk rfl⟩ fun a ha => (ha.more (ha.more (ha.more (ha.more (ha.more ha.nil rfl) rfl) rfl) rfl) rfl)
  | false =>
   intro h; replace h := cF h
   have f22 := f9.stp S17 rfl rfl
   refine WO.k1 trivial rfl rfl rfl rfl (rn_la (cs := [.int .i64 p0.Inputs, .int .i64 p0.Latches, .slice a0_2 p0.Next.length u0_2, .slice a0_3 p0.Gates.length u0_3, .slice a0_4 p0.Outs.length u0_4]) Try.isAgg27 Try.sizeOf27 rfl rfl rfl (haE f22.cells)) ?_
   refine WO.pn 1 rfl ?_
   obtain ⟨x16, hx16, h⟩ := Option.bind_eq_some_iff.mp h
   have f23 := f10.stp S17 rfl rfl
   have f24 := f11.stp S17 rfl rfl
   have f25 := f12.stp S17 rfl rfl
   refine WO.call rfl rfl rfl rfl rfl rfl Try.call42 (i_isLiteral_ok (κ := fun b => mp [] 0 (K16 b)) (p0 := p0) (Sl.map f23 (mp [] 0) rfl rfl) (Sl.map f24 (mp [] 0) rfl rfl) (Sl.map f25 (mp [] 0) rfl rfl) hx16) ?_
   rintro _ w26 ⟨k27, rfl, e28⟩
   obtain ⟨K29, S30, m31⟩ := Ent.mixed (l := []) (κ := K16) e28 6 rfl
   refine ⟨trivial, ?_⟩
   refine WO.pn 2 rfl ?_
   obtain rfl := Option.some.inj h
   exact WO.met _ trivial ⟨rfl, _, S30.wk rfl⟩ fun a ha => (ha.more (ha.more (ha.more (ha.more (ha.more ha.nil rfl) rfl) rfl) rfl) rfl)
 rintro _ w33 _ ⟨rfl, K34, S35⟩
 have h := hK20
 refine WO.pn 1 rfl ?_
 obtain ⟨p24, h, hK36⟩ := Option.bind_eq_some_iff.mp h
 refine WO.meet [(10, 1), (11, 2), (12, 1), (13, 2), (14, 2)] [] (fun L w' => L = [(1, .int .i64 p1), (2, .int .i64 p2), (3, .pointer (some ⟨b3, 0, none⟩)), (6, .pointer (some ⟨b6, 0, none⟩)), (24, .bool p24)] ∧ ∃ κ', Stp [] K34 w33 κ' w') trivial ?_ ?_
 ·
  revert h
  cases ht37 : p18 with
  | true =>
   intro h; replace h := cT h
   refine WO.ls rfl rfl rfl rfl ?_
   refine WO.pn 1 rfl ?_
   refine WO.ls rfl rfl rfl rfl ?_
   refine WO.pn 2 rfl ?_
   obtain rfl := Option.some.inj h
   exact WO.met _ trivial ⟨rfl, _, (Stp.refl _ _).wk rfl⟩ fun a ha => (ha.more (ha.more (ha.more (ha.more (ha.more ha.nil rfl) rfl) rfl) rfl) rfl)
  | false =>
   intro h; replace h := cF h
   have f38 := f9.stp (S17.tr S35) rfl rfl
   refine WO.k1 trivial rfl rfl rfl rfl (rn_la (cs := [.int .i64 p0.Inputs, .int .i64 p0.Latches, .slice a0_2 p0.Next.length u0_2, .slice a0_3 p0.Gates.length u0_3, .slice a0_4 p0.Outs.length u0_4]) Try.isAgg27 Try.sizeOf27 rfl rfl rfl (haE f38.cells)) ?_
   refine WO.pn 1 rfl ?_
   obtain ⟨x22, hx22, h⟩ := Option.bind_eq_some_iff.mp h
   have f39 := f10.stp (S17.tr S35) rfl rfl
   have f40 := f11.stp (S17.tr S35) rfl rfl
   have f41 := f12.stp (S17.tr S35) rfl rfl
   refine WO.call rfl rfl rfl rfl rfl rfl Try.call42 (i_isLiteral_ok (κ := fun b => mp [] 0 (K34 b)) (p0 := p0) (Sl.map f39 (mp [] 0) rfl rfl) (Sl.map f40 (mp [] 0) rfl rfl) (Sl.map f41 (mp [] 0) rfl rfl) hx22) ?_
   rintro _ w42 ⟨k43, rfl, e44⟩
   obtain ⟨K45, S46, m47⟩ := Ent.mixed (l := []) (κ := K34) e44 6 rfl
   refine ⟨trivial, ?_⟩
   refine WO.pn 2 rfl ?_
   obtain rfl := Option.some.inj h
   exact WO.met _ trivial ⟨rfl, _, S46.wk rfl⟩ fun a ha => (ha.more (ha.more (ha.more (ha.more (ha.more ha.nil rfl) rfl) rfl) rfl) rfl)
 rintro _ w49 _ ⟨rfl, K50, S51⟩
 have h := hK36
 refine WO.fin ?_
 refine DN.seq ?_
 revert h
 cases ht52 : p24 with
 | true =>
  intro h; replace h := cT h
  refine WC.ct rfl ?_
  refine WC.seq ?_
  refine WC.rs [(0, 2), (1, 1), (2, 2)] rfl ?_
  refine WO.k2 rfl rfl rfl rfl (rn_build (parts := []) (cells := [.int .i64 0, .int .i64 0, .slice none 0 0, .slice none 0 0, .slice none 0 0]) rfl rfl (by kernel_rfl)) ?_
  have f53 := f8.stp (S17.tr (S35.tr S51)) rfl rfl
  refine WO.stB0 (κ := K50) 3 (vc := [.int .i64 0, .int .i64 0, .slice none 0 0, .slice none 0 0, .slice none 0 0]) rfl rfl rfl rfl rfl rfl rfl Try.sizeOf27 rfl rfl f53 rfl fun w54 S55 f56 => ⟨trivial, ?_⟩
  refine WO.pn 1 rfl ?_
  refine WO.fin ?_
  refine DN.seq ?_
  refine WC.ret ?_
  refine DN.retThen ?_
  have f57 := hE.stp (S3.tr (S7.tr (S17.tr (S35.tr (S51.tr S55))))) rfl rfl
  refine DN.res (l := [.cell 6 27, .tmp 7]) Try.results16 (res_cellA rfl f56 Try.isAgg27 Try.sizeOf27 rfl (res_tmp rfl rfl)) rfl ?_
  obtain rfl := Option.some.inj h
  exact ⟨K50, none, 0, none, 0, none, 0, rfl, f57, Ow.nil, Ow.nil, Ow.nil⟩
 | false =>
  intro h; replace h := cF h
  refine WC.cf rfl ?_
  refine WC.skip ?_
  refine DN.seq ?_
  refine WC.seq ?_
  refine WC.rs [(0, 1), (1, 1), (2, 2)] rfl ?_
  have f58 := f9.stp (S17.tr (S35.tr S51)) rfl rfl
  refine WO.k1 trivial rfl rfl rfl rfl (rn_la (cs := [.int .i64 p0.Inputs, .int .i64 p0.Latches, .slice a0_2 p0.Next.length u0_2, .slice a0_3 p0.Gates.length u0_3, .slice a0_4 p0.Outs.length u0_4]) Try.isAgg27 Try.sizeOf27 rfl rfl rfl (haE f58.cells)) ?_
  obtain ⟨x27, hx27, h⟩ := Option.bind_eq_some_iff.mp h
  have f59 := f10.stp (S17.tr (S35.tr S51)) rfl rfl
  have f60 := f11.stp (S17.tr (S35.tr S51)) rfl rfl
  have f61 := f12.stp (S17.tr (S35.tr S51)) rfl rfl
  refine WO.call rfl rfl rfl rfl rfl rfl Try.call43 (i_newBuilder_ok (κ := fun b => mp [] 0 (K50 b)) (p0 := p0) (Sl.map f59 (mp [] 0) rfl rfl) (Sl.map f60 (mp [] 0) rfl rfl) (Sl.map f61 (mp [] 0) rfl rfl) hx27) ?_
  rintro _ w62 ⟨k63, a27_0, u27_0, a27_1, u27_1, a27_2, u27_2, mb27_3, b27, rfl, e64, f65, f66, f67, f68, f69⟩
  obtain ⟨K70, S71, m72⟩ := Ent.mixed (l := []) (κ := K50) e64 6 rfl
  refine ⟨trivial, ?_⟩
  have f74 := f65.mx (no_int _) m72 rfl (rfl : 6 + 2 = 8)
  have f75 := f66.mx Gate.no33 m72 rfl (rfl : 6 + 3 = 9)
  have f76 := f67.mx (no_int _) m72 rfl (rfl : 6 + 4 = 10)
  have f77 := f68.mx' m72 rfl (rfl : 6 + 5 = 11)
  have f78 := f69.mx m72 rfl (rfl : 6 + 6 = 12)
  refine WO.pn 1 rfl ?_
  refine WO.fin ?_
  refine DN.seq ?_
  refine WC.seq ?_
  refine WC.rs [(0, 2), (1, 2), (2, 2), (3, 1), (4, 2)] rfl ?_
  refine WO.pn 3 rfl ?_
  obtain ⟨x31, hx31, h⟩ := Option.bind_eq_some_iff.mp h
  refine WO.call rfl rfl rfl rfl rfl rfl Try.call44 (i_builder_join_ok (κ := fun b => mp [(9, 2), (11, 3), (12, 4)] 0 (K70 b)) (p0 := x27) (Sl.map f74.rdc (mp [(9, 2), (11, 3), (12, 4)] 0) rfl rfl) (f75.map (mp [(9, 2), (11, 3), (12, 4)] 0) rfl rfl) (Sl.map f76.rdc (mp [(9, 2), (11, 3), (12, 4)] 0) rfl rfl) (f77.map (mp [(9, 2), (11, 3), (12, 4)] 0) rfl rfl) (f78.map (mp [(9, 2), (11, 3), (12, 4)] 0) rfl rfl) hx31) ?_
  rintro _ w79 ⟨k80, a31_m0, u31_m0, rfl, e81, f82, f83, f84⟩
  obtain ⟨K85, S86, m87⟩ := Ent.mixed (l := [(9, 2), (11, 3), (12, 4)]) (κ := K70) e81 13 rfl
  refine ⟨trivial, ?_⟩
  have f89 := f82.mx Gate.no33 m87 rfl (rfl : 13 + 2 = 15)
  have f90 := f83.mx' m87 rfl (rfl : 13 + 3 = 16)
  have f91 := f84.mx m87 rfl (rfl : 13 + 4 = 17)
  refine WO.pn 1 rfl ?_
  refine WO.fin ?_
  refine DN.seq ?_
  refine WC.seq ?_
  refine WC.seq ?_
  refine WC.rs [(0, 2), (1, 2), (2, 2), (3, 1)] rfl ?_
  refine WO.pn 1 rfl ?_
  refine WO.k2 rfl rfl rfl rfl (rn_nilCheck rfl rfl) ?_
  refine WO.k2 rfl rfl rfl rfl (rn_fieldAddr Try.runUnderlying72 rfl Try.sizeOf4 rfl rfl) ?_
  refine WO.k1 trivial rfl rfl rfl rfl (rn_ld Try.isAgg4 rfl rfl (hvE (f91.ld 5 rfl rfl))) ?_
  refine WO.fin ?_
  refine DN.seq ?_
  revert h
  cases ht92 : x31.2.2.1 with
  | true =>
   intro h; replace h := cT h
   refine WC.ct rfl ?_
   refine WC.seq ?_
   refine WC.rs [(0, 2), (1, 1), (2, 2)] rfl ?_
   refine WO.k2 rfl rfl rfl rfl (rn_build (parts := []) (cells := [.int .i64 0, .int .i64 0, .slice none 0 0, .slice none 0 0, .slice none 0 0]) rfl rfl (by kernel_rfl)) ?_
   have f93 := f8.stp (S17.tr (S35.tr (S51.tr (S71.tr S86)))) rfl rfl
   refine WO.stB0 (κ := K85) 3 (vc := [.int .i64 0, .int .i64 0, .slice none 0 0, .slice none 0 0, .slice none 0 0]) rfl rfl rfl rfl rfl rfl rfl Try.sizeOf27 rfl rfl f93 rfl fun w94 S95 f96 => ⟨trivial, ?_⟩
   refine WO.pn 1 rfl ?_
   refine WO.fin ?_
   refine DN.seq ?_
   refine WC.ret ?_
   refine DN.retThen ?_
   have f97 := hE.stp (S3.tr (S7.tr (S17.tr (S35.tr (S51.tr (S71.tr (S86.tr S95))))))) rfl rfl
   refine DN.res (l := [.cell 6 27, .tmp 7]) Try.results16 (res_cellA rfl f96 Try.isAgg27 Try.sizeOf27 rfl (res_tmp rfl rfl)) rfl ?_
   obtain rfl := Option.some.inj h
   exact ⟨K85, none, 0, none, 0, none, 0, rfl, f97, Ow.nil, Ow.nil, Ow.nil⟩
  | false =>
   intro h; replace h := cF h
   refine WC.cf rfl ?_
   refine WC.skip ?_
   refine DN.seq ?_
   refine WC.seq ?_
   refine WC.rs [(0, 2), (1, 2), (2, 2), (3, 1), (4, 2), (5, 1), (6, 2)] rfl ?_
   refine WO.pn 1 rfl ?_
   refine WO.k2 rfl rfl rfl rfl (rn_nilCheck rfl rfl) ?_
   refine WO.k2 rfl rfl rfl rfl (rn_fieldAddr Try.runUnderlying72 rfl Try.sizeOf27 rfl rfl) ?_
   refine WO.k1 trivial rfl rfl rfl rfl (rn_la (cs := [.int .i64 x27.c.Inputs, .int .i64 x27.c.Latches, .slice a27_0 x27.c.Next.length u27_0, .slice a31_m0 x31.2.1.length u31_m0, .slice a27_2 x27.c.Outs.length u27_2]) Try.isAgg27 Try.sizeOf27 rfl rfl rfl (haE (f91.lds 0 5 rfl))) ?_
   refine WO.pn 1 rfl ?_
   have f98 := f8.stp (S17.tr (S35.tr (S51.tr (S71.tr S86)))) rfl rfl
   refine WO.stB0 (κ := K85) 3 (vc := [.int .i64 x27.c.Inputs, .int .i64 x27.c.Latches, .slice a27_0 x27.c.Next.length u27_0, .slice a31_m0 x31.2.1.length u31_m0, .slice a27_2 x27.c.Outs.length u27_2]) rfl rfl rfl rfl rfl rfl rfl Try.sizeOf27 rfl rfl f98 rfl fun w99 S100 f101 => ⟨trivial, ?_⟩
   refine WO.pn 1 rfl ?_
   refine WO.fin ?_
   refine DN.seq ?_
   refine WC.ret ?_
   have f102 := hE.stp (S3.tr (S7.tr (S17.tr (S35.tr (S51.tr (S71.tr (S86.tr S100))))))) rfl rfl
   have f103 := f74.stp (S86.tr S100) rfl rfl
   have f104 := f89.stp S100 rfl rfl
   have f105 := f76.stp (S86.tr S100) rfl rfl
   refine DN.res (l := [.cell 6 27, .tmp 7]) Try.results16 (res_cellA rfl f101 Try.isAgg27 Try.sizeOf27 rfl (res_tmp rfl rfl)) rfl ?_
   obtain rfl := Option.some.inj h
   exact ⟨(fun b => ren [(8, 2), (15, 3), (10, 4)] (K85 b)), a27_0, u27_0, a31_m0, u31_m0, a27_2, u27_2, rfl, (f102.map (ren [(8, 2), (15, 3), (10, 4)]) rfl rfl), (f103.map (ren [(8, 2), (15, 3), (10, 4)]) rfl rfl), (f104.map (ren [(8, 2), (15, 3), (10, 4)]) rfl rfl), (f105.map (ren [(8, 2), (15, 3), (10, 4)]) rfl rfl)⟩

/- loop.example/g00869/impl.ChosenBy -/
theorem i_ChosenBy_ok {w : World} {κ : Col} {a0_2 : Option Addr} {u0_2 : Nat} {a0_3 : Option Addr} {u0_3 : Nat} {a0_4 : Option Addr} {u0_4 : Nat} {p0 : Circuit} {p1 : Int} {p2 : Int} {p3 : Int} (g0_2 : Rd (Rp.int .i64) κ w 0 a0_2 u0_2 p0.Next) (g0_3 : Rd Gate.rp κ w 0 a0_3 u0_3 p0.Gates) (g0_4 : Rd (Rp.int .i64) κ w 0 a0_4 u0_4 p0.Outs) {r : Circuit × Int} (h : i_ChosenBy p0 p1 p2 p3 = some r) : Ret Try.prog 17 [.agg #[.int .i64 p0.Inputs, .int .i64 p0.Latches, .slice a0_2 p0.Next.length u0_2, .slice a0_3 p0.Gates.length u0_3, .slice a0_4 p0.Outs.length u0_4], .int .i64 p1, .int .i64 p2, .int .i64 p3] w (fun v w' => ∃ (κ' : Col) (ra0 : Option Addr) (ru0 : Nat) (ra1 : Option Addr) (ru1 : Nat) (ra2 : Option Addr) (ru2 : Nat), v = .tuple #[.agg #[.int .i64 r.1.Inputs, .int .i64 r.1.Latches, .slice ra0 r.1.Next.length ru0, .slice ra1 r.1.Gates.length ru1, .slice ra2 r.1.Outs.length ru2], .int .i64 r.2] ∧ Ent κ w κ' w' ∧ Oc (Ep.int .i64) 2 κ' w' 2 ra0 ru0 r.1.Next ∧ Oc Gate.ep33 33 κ' w' 3 ra1 ru1 r.1.Gates ∧ Oc (Ep.int .i64) 2 κ' w' 4 ra2 ru2 r.1.Outs) := by
 unfold i_ChosenBy at h
 refine Ret.enter Try.func17 rfl Try.ntmps17 rfl ?_
 dsimp only [envOf]
 have hE := Ent.refl κ w
 refine WC.seq ?_
 refine WC.rs [(0, 1), (1, 1), (2, 2)] rfl ?_
 refine WO.box (κ := κ) 2 rfl rfl rfl rfl rfl rfl rfl fun b4 w1 K2 S3 f4 => ⟨trivial, ?_⟩
 refine WO.alloc (κ := K2) 3 rfl rfl rfl rfl rfl Try.zeroValue27 rfl fun b8 w5 K6 S7 f8 => ⟨trivial, ?_⟩
 refine WO.pn 1 rfl ?_
 refine WO.fin ?_
 refine DN.seq ?_
 refine WC.seq ?_
 refine WC.seq ?_
 refine WC.rs [(0, 1), (1, 1), (2, 2), (3, 2), (4, 1), (5, 2), (6, 1), (7, 2), (8, 2), (9, 2), (10, 1), (11, 2), (12, 1), (13, 2), (14, 2), (15, 2), (16, 1), (17, 2), (18, 1), (19, 2), (20, 2)] rfl ?_
 have f9 := f4.stp S7 rfl rfl
 refine WO.k1 trivial rfl rfl rfl rfl (rn_la (cs := [.int .i64 p0.Inputs, .int .i64 p0.Latches, .slice a0_2 p0.Next.length u0_2, .slice a0_3 p0.Gates.length u0_3, .slice a0_4 p0.Outs.length u0_4]) Try.isAgg27 Try.sizeOf27 rfl rfl rfl (haE f9.cells)) ?_
 obtain ⟨x13, hx13, h⟩ := Option.bind_eq_some_iff.mp h
 have f10 := g0_2.stp (S3.tr S7) rfl rfl
 have f11 := g0_3.stp (S3.tr S7) rfl rfl
 have f12 := g0_4.stp (S3.tr S7) rfl rfl
 refine WO.call rfl rfl rfl rfl rfl rfl Try.call31 (i_isCircuit_ok (κ := fun b => mp [] 0 (K6 b)) (p0 := p0) (Sl.map f10 (mp [] 0) rfl rfl) (Sl.map f11 (mp [] 0) rfl rfl) (Sl.map f12 (mp [] 0) rfl rfl) hx13) ?_
 rintro _ w13 ⟨k14, rfl, e15⟩
 obtain ⟨K16, S17, m18⟩ := Ent.mixed (l := []) (κ := K6) e15 4 rfl
 refine ⟨trivial, ?_⟩
 refine WO.pn 2 rfl ?_
 obtain ⟨p20, h, hK20⟩ := Option.bind_eq_some_iff.mp h
 refine WO.meet [(4, 1), (5, 2), (6, 1), (7, 2), (8, 2)] [(9, 2), (10, 1), (11, 2), (12, 1), (13, 2), (14, 2), (15, 2), (16, 1), (17, 2), (18, 1), (19, 2), (20, 2)] (fun L w' => L = [(1, .int .i64 p1), (2, .int .i64 p2), (3, .int .i64 p3), (4, .pointer (some ⟨b4, 0, none⟩)), (8, .pointer (some ⟨b8, 0, none⟩)), (20, .bool p20)] ∧ ∃ κ', Stp [] K16 w13 κ' w') trivial ?_ ?_
 ·
  revert h
  cases ht21 : (!x13) with
  | true =>
   intro h; replace h := cT h
   refine WO.ls rfl rfl rfl rfl ?_
   refine WO.pn 1 rfl ?_
   refine WO.ls rfl rfl rfl rfl ?_
   refine WO.pn 2 rfl ?_
   obtain rfl := Option.some.inj h
   exact WO.met _ trivial ⟨rfl, _, (Stp.refl _ _).wk rfl⟩ fun a ha => (ha.more (ha.more (ha.more (ha.more (ha.more (ha.more ha.nil rfl) rfl) rfl) rfl) rfl) rfl)
  | false =>
   intro h; replace h := cF h
   have f22 := f9.stp S17 rfl rfl
   refine WO.k1 trivial rfl rfl rfl rfl (rn_la (cs := [.int .i64 p0.Inputs, .int .i64 p0.Latches, .slice a0_2 p0.Next.length u0_2, .slice a0_3 p0.Gates.length u0_3, .slice a0_4 p0.Outs.length u0_4]) Try.isAgg27 Try.sizeOf27 rfl rfl rfl (haE f22.cells)) ?_
   refine WO.pn 1 rfl ?_
   obtain ⟨x18, hx18, h⟩ := Option.bind_eq_some_iff.mp h
   have f23 := f10.stp S17 rfl rfl
   have f24 := f11.stp S17 rfl rfl
   have f25 := f12.stp S17 rfl rfl
   refine WO.call rfl rfl rfl rfl rfl rfl Try.call42 (i_isLiteral_ok (κ := fun b => mp [] 0 (K16 b)) (p0 := p0) (Sl.map f23 (mp [] 0) rfl rfl) (Sl.map f24 (mp [] 0) rfl rfl) (Sl.map f25 (mp [] 0) rfl rfl) hx18) ?_
   rintro _ w26 ⟨k27, rfl, e28⟩
   obtain ⟨K29, S30, m31⟩ := Ent.mixed (l := []) (κ := K16) e28 6 rfl
   refine ⟨trivial, ?_⟩
   refine WO.pn 2 rfl ?_
   obtain rfl := Option.some.inj h
   exact WO.met _ trivial ⟨rfl, _, S30.wk rfl⟩ fun a ha => (ha.more (ha.more (ha.more (ha.more (ha.more (ha.more ha.nil rfl) rfl) rfl) rfl) rfl) rfl)
 rintro _ w33 _ ⟨rfl, K34, S35⟩
 have h := hK20
 refine WO.pn 1 rfl ?_
 obtain ⟨p26, h, hK36⟩ := Option.bind_eq_some_iff.mp h
 refine WO.meet [(10, 1), (11, 2), (12, 1), (13, 2), (14, 2)] [(15, 2), (16, 1), (17, 2), (18, 1), (19, 2), (20, 2)] (fun L w' => L = [(1, .int .i64 p1), (2, .int .i64 p2), (3, .int .i64 p3), (4, .pointer (some ⟨b4, 0, none⟩)), (8, .pointer (some ⟨b8, 0, none⟩)), (26, .bool p26)] ∧ ∃ κ', Stp [] K34 w33 κ' w') trivial ?_ ?_
 ·
  revert h
  cases ht37 : p20 with
  | true =>
   intro h; replace h := cT h
   refine WO.ls rfl rfl rfl rfl ?_
   refine WO.pn 1 rfl ?_
   refine WO.ls rfl rfl rfl rfl ?_
   refine WO.pn 2 rfl ?_
   obtain rfl := Option.some.inj h
   exact WO.met _ trivial ⟨rfl, _, (Stp.refl _ _).wk rfl⟩ fun a ha => (ha.more (ha.more (ha.more (ha.more (ha.more (ha.more ha.nil rfl) rfl) rfl) rfl) rfl) rfl)
  | false =>
   intro h; replace h := cF h
   have f38 := f9.stp (S17.tr S35) rfl rfl
   refine WO.k1 trivial rfl rfl rfl rfl (rn_la (cs := [.int .i64 p0.Inputs, .int .i64 p0.Latches, .slice a0_2 p0.Next.length u0_2, .slice a0_3 p0.Gates.length u0_3, .slice a0_4 p0.Outs.length u0_4]) Try.isAgg27 Try.sizeOf27 rfl rfl rfl (haE f38.cells)) ?_
   refine WO.pn 1 rfl ?_
   obtain ⟨x24, hx24, h⟩ := Option.bind_eq_some_iff.mp h
   have f39 := f10.stp (S17.tr S35) rfl rfl
   have f40 := f11.stp (S17.tr S35) rfl rfl
   have f41 := f12.stp (S17.tr S35) rfl rfl
   refine WO.call rfl rfl rfl rfl rfl rfl Try.call42 (i_isLiteral_ok (κ := fun b => mp [] 0 (K34 b)) (p0 := p0) (Sl.map f39 (mp [] 0) rfl rfl) (Sl.map f40 (mp [] 0) rfl rfl) (Sl.map f41 (mp [] 0) rfl rfl) hx24) ?_
   rintro _ w42 ⟨k43, rfl, e44⟩
   obtain ⟨K45, S46, m47⟩ := Ent.mixed (l := []) (κ := K34) e44 6 rfl
   refine ⟨trivial, ?_⟩
   refine WO.pn 2 rfl ?_
   obtain rfl := Option.some.inj h
   exact WO.met _ trivial ⟨rfl, _, S46.wk rfl⟩ fun a ha => (ha.more (ha.more (ha.more (ha.more (ha.more (ha.more ha.nil rfl) rfl) rfl) rfl) rfl) rfl)
 rintro _ w49 _ ⟨rfl, K50, S51⟩
 have h := hK36
 refine WO.pn 1 rfl ?_
 obtain ⟨p32, h, hK52⟩ := Option.bind_eq_some_iff.mp h
 refine WO.meet [(16, 1), (17, 2), (18, 1), (19, 2), (20, 2)] [] (fun L w' => L = [(1, .int .i64 p1), (2, .int .i64 p2), (3, .int .i64 p3), (4, .pointer (some ⟨b4, 0, none⟩)), (8, .pointer (some ⟨b8, 0, none⟩)), (32, .bool p32)] ∧ ∃ κ', Stp [] K50 w49 κ' w') trivial ?_ ?_
 ·
  revert h
  cases ht53 : p26 with
  | true =>
   intro h; replace h := cT h
   refine WO.ls rfl rfl rfl rfl ?_
   refine WO.pn 1 rfl ?_
   refine WO.ls rfl rfl rfl rfl ?_
   refine WO.pn 2 rfl ?_
   obtain rfl := Option.some.inj h
   exact WO.met _ trivial ⟨rfl, _, (Stp.refl _ _).wk rfl⟩ fun a ha => (ha.more (ha.more (ha.more (ha.more (ha.more (ha.more ha.nil rfl) rfl) rfl) rfl) rfl) rfl)
  | false =>
   intro h; replace h := cF h
   have f54 := f9.stp (S17.tr (S35.tr S51)) rfl rfl
   refine WO.k1 trivial rfl rfl rfl rfl (rn_la (cs := [.int .i64 p0.Inputs, .int .i64 p0.Latches, .slice a0_2 p0.Next.length u0_2, .slice a0_3 p0.Gates.length u0_3, .slice a0_4 p0.Outs.length u0_4]) Try.isAgg27 Try.sizeOf27 rfl rfl rfl (haE f54.cells)) ?_
   refine WO.pn 1 rfl ?_
   obtain ⟨x30, hx30, h⟩ := Option.bind_eq_some_iff.mp h
   have f55 := f10.stp (S17.tr (S35.tr S51)) rfl rfl
   have f56 := f11.stp (S17.tr (S35.tr S51)) rfl rfl
   have f57 := f12.stp (S17.tr (S35.tr S51)) rfl rfl
   refine WO.call rfl rfl rfl rfl rfl rfl Try.call42 (i_isLiteral_ok (κ := fun b => mp [] 0 (K50 b)) (p0 := p0) (Sl.map f55 (mp [] 0) rfl rfl) (Sl.map f56 (mp [] 0) rfl rfl) (Sl.map f57 (mp [] 0) rfl rfl) hx30) ?_
   rintro _ w58 ⟨k59, rfl, e60⟩
   obtain ⟨K61, S62, m63⟩ := Ent.mixed (l := []) (κ := K50) e60 6 rfl
   refine ⟨trivial, ?_⟩
   refine WO.pn 2 rfl ?_
   obtain rfl := Option.some.inj h
   exact WO.met _ trivial ⟨rfl, _, S62.wk rfl⟩ fun a ha => (ha.more (ha.more (ha.more (ha.more (ha.more (ha.more ha.nil rfl) rfl) rfl) rfl) rfl) rfl)
 rintro _ w65 _ ⟨rfl, K66, S67⟩
 have h := hK52
 refine WO.fin ?_
 refine DN.seq ?_
 revert h
 cases ht68 : p32 with
 | true =>
  intro h; replace h := cT h
  refine WC.ct rfl ?_
  refine WC.seq ?_
  refine WC.rs [(0, 2), (1, 1), (2, 2)] rfl ?_
  refine WO.k2 rfl rfl rfl rfl (rn_build (parts := []) (cells := [.int .i64 0, .int .i64 0, .slice none 0 0, .slice none 0 0, .slice none 0 0]) rfl rfl (by kernel_rfl)) ?_
  have f69 := f8.stp (S17.tr (S35.tr (S51.tr S67))) rfl rfl
  refine WO.stB0 (κ := K66) 3 (vc := [.int .i64 0, .int .i64 0, .slice none 0 0, .slice none 0 0, .slice none 0 0]) rfl rfl rfl rfl rfl rfl rfl Try.sizeOf27 rfl rfl f69 rfl fun w70 S71 f72 => ⟨trivial, ?_⟩
  refine WO.pn 1 rfl ?_
  refine WO.fin ?_
  refine DN.seq ?_
  refine WC.ret ?_
  refine DN.retThen ?_
  have f73 := hE.stp (S3.tr (S7.tr (S17.tr (S35.tr (S51.tr (S67.tr S71)))))) rfl rfl
  refine DN.res (l := [.cell 8 27, .tmp 9]) Try.results17 (res_cellA rfl f72 Try.isAgg27 Try.sizeOf27 rfl (res_tmp rfl rfl)) rfl ?_
  obtain rfl := Option.some.inj h
  exact ⟨K66, none, 0, none, 0, none, 0, rfl, f73, Ow.nil, Ow.nil, Ow.nil⟩
 | false =>
  intro h; replace h := cF h
  refine WC.cf rfl ?_
  refine WC.skip ?_
  refine DN.seq ?_
  refine WC.seq ?_
  refine WC.rs [(0, 1), (1, 1), (2, 2)] rfl ?_
  have f74 := f9.stp (S17.tr (S35.tr (S51.tr S67))) rfl rfl
  refine WO.k1 trivial rfl rfl rfl rfl (rn_la (cs := [.int .i64 p0.Inputs, .int .i64 p0.Latches, .slice a0_2 p0.Next.length u0_2, .slice a0_3 p0.Gates.length u0_3, .slice a0_4 p0.Outs.length u0_4]) Try.isAgg27 Try.sizeOf27 rfl rfl rfl (haE f74.cells)) ?_
  obtain ⟨x35, hx35, h⟩ := Option.bind_eq_some_iff.mp h
  have f75 := f10.stp (S17.tr (S35.tr (S51.tr S67))) rfl rfl
  have f76 := f11.stp (S17.tr (S35.tr (S51.tr S67))) rfl rfl
  have f77 := f12.stp (S17.tr (S35.tr (S51.tr S67))) rfl rfl
  refine WO.call rfl rfl rfl rfl rfl rfl Try.call43 (i_newBuilder_ok (κ := fun b => mp [] 0 (K66 b)) (p0 := p0) (Sl.map f75 (mp [] 0) rfl rfl) (Sl.map f76 (mp [] 0) rfl rfl) (Sl.map f77 (mp [] 0) rfl rfl) hx35) ?_
  rintro _ w78 ⟨k79, a35_0, u35_0, a35_1, u35_1, a35_2, u35_2, mb35_3, b35, rfl, e80, f81, f82, f83, f84, f85⟩
  obtain ⟨K86, S87, m88⟩ := Ent.mixed (l := []) (κ := K66) e80 6 rfl
  refine ⟨trivial, ?_⟩
  have f90 := f81.mx (no_int _) m88 rfl (rfl : 6 + 2 = 8)
  have f91 := f82.mx Gate.no33 m88 rfl (rfl : 6 + 3 = 9)
  have f92 := f83.mx (no_int _) m88 rfl (rfl : 6 + 4 = 10)
  have f93 := f84.mx' m88 rfl (rfl : 6 + 5 = 11)
  have f94 := f85.mx m88 rfl (rfl : 6 + 6 = 12)
  refine WO.pn 1 rfl ?_
  refine WO.fin ?_
  refine DN.seq ?_
  refine WC.seq ?_
  refine WC.rs [(0, 2), (1, 2), (2, 2), (3, 2), (4, 1), (5, 2)] rfl ?_
  refine WO.pn 4 rfl ?_
  obtain ⟨x40, hx40, h⟩ := Option.bind_eq_some_iff.mp h
  refine WO.call rfl rfl rfl rfl rfl rfl Try.call45 (i_builder_choose_ok (κ := fun b => mp [(9, 2), (11, 3), (12, 4)] 0 (K86 b)) (p0 := x35) (Sl.map f90.rdc (mp [(9, 2), (11, 3), (12, 4)] 0) rfl rfl) (f91.map (mp [(9, 2), (11, 3), (12, 4)] 0) rfl rfl) (Sl.map f92.rdc (mp [(9, 2), (11, 3), (12, 4)] 0) rfl rfl) (f93.map (mp [(9, 2), (11, 3), (12, 4)] 0) rfl rfl) (f94.map (mp [(9, 2), (11, 3), (12, 4)] 0) rfl rfl) hx40) ?_
  rintro _ w95 ⟨k96, a40_m0, u40_m0, rfl, e97, f98, f99, f100⟩
  obtain ⟨K101, S102, m103⟩ := Ent.mixed (l := [(9, 2), (11, 3), (12, 4)]) (κ := K86) e97 13 rfl
  refine ⟨trivial, ?_⟩
  have f105 := f98.mx Gate.no33 m103 rfl (rfl : 13 + 2 = 15)
  have f106 := f99.mx' m103 rfl (rfl : 13 + 3 = 16)
  have f107 := f100.mx m103 rfl (rfl : 13 + 4 = 17)
  refine WO.pn 1 rfl ?_
  refine WO.fin ?_
  refine DN.seq ?_
  refine WC.seq ?_
  refine WC.seq ?_
  refine WC.rs [(0, 2), (1, 2), (2, 2), (3, 1)] rfl ?_
  refine WO.pn 1 rfl ?_
  refine WO.k2 rfl rfl rfl rfl (rn_nilCheck rfl rfl) ?_
  refine WO.k2 rfl rfl rfl rfl (rn_fieldAddr Try.runUnderlying72 rfl Try.sizeOf4 rfl rfl) ?_
  refine WO.k1 trivial rfl rfl rfl rfl (rn_ld Try.isAgg4 rfl rfl (hvE (f107.ld 5 rfl rfl))) ?_
  refine WO.fin ?_
  refine DN.seq ?_
  revert h
  cases ht108 : x40.2.2.1 with
  | true =>
   intro h; replace h := cT h
   refine WC.ct rfl ?_
   refine WC.seq ?_
   refine WC.rs [(0, 2), (1, 1), (2, 2)] rfl ?_
   refine WO.k2 rfl rfl rfl rfl (rn_build (parts := []) (cells := [.int .i64 0, .int .i64 0, .slice none 0 0, .slice none 0 0, .slice none 0 0]) rfl rfl (by kernel_rfl)) ?_
   have f109 := f8.stp (S17.tr (S35.tr (S51.tr (S67.tr (S87.tr S102))))) rfl rfl
   refine WO.stB0 (κ := K101) 3 (vc := [.int .i64 0, .int .i64 0, .slice none 0 0, .slice none 0 0, .slice none 0 0]) rfl rfl rfl rfl rfl rfl rfl Try.sizeOf27 rfl rfl f109 rfl fun w110 S111 f112 => ⟨trivial, ?_⟩
   refine WO.pn 1 rfl ?_
   refine WO.fin ?_
   refine DN.seq ?_
   refine WC.ret ?_
   refine DN.retThen ?_
   have f113 := hE.stp (S3.tr (S7.tr (S17.tr (S35.tr (S51.tr (S67.tr (S87.tr (S102.tr S111)))))))) rfl rfl
   refine DN.res (l := [.cell 8 27, .tmp 9]) Try.results17 (res_cellA rfl f112 Try.isAgg27 Try.sizeOf27 rfl (res_tmp rfl rfl)) rfl ?_
   obtain rfl := Option.some.inj h
   exact ⟨K101, none, 0, none, 0, none, 0, rfl, f113, Ow.nil, Ow.nil, Ow.nil⟩
  | false =>
   intro h; replace h := cF h
   refine WC.cf rfl ?_
   refine WC.skip ?_
   refine DN.seq ?_
   refine WC.seq ?_
   refine WC.rs [(0, 2), (1, 2), (2, 2), (3, 1), (4, 2), (5, 1), (6, 2)] rfl ?_
   refine WO.pn 1 rfl ?_
   refine WO.k2 rfl rfl rfl rfl (rn_nilCheck rfl rfl) ?_
   refine WO.k2 rfl rfl rfl rfl (rn_fieldAddr Try.runUnderlying72 rfl Try.sizeOf27 rfl rfl) ?_
   refine WO.k1 trivial rfl rfl rfl rfl (rn_la (cs := [.int .i64 x35.c.Inputs, .int .i64 x35.c.Latches, .slice a35_0 x35.c.Next.length u35_0, .slice a40_m0 x40.2.1.length u40_m0, .slice a35_2 x35.c.Outs.length u35_2]) Try.isAgg27 Try.sizeOf27 rfl rfl rfl (haE (f107.lds 0 5 rfl))) ?_
   refine WO.pn 1 rfl ?_
   have f114 := f8.stp (S17.tr (S35.tr (S51.tr (S67.tr (S87.tr S102))))) rfl rfl
   refine WO.stB0 (κ := K101) 3 (vc := [.int .i64 x35.c.Inputs, .int .i64 x35.c.Latches, .slice a35_0 x35.c.Next.length u35_0, .slice a40_m0 x40.2.1.length u40_m0, .slice a35_2 x35.c.Outs.length u35_2]) rfl rfl rfl rfl rfl rfl rfl Try.sizeOf27 rfl rfl f114 rfl fun w115 S116 f117 => ⟨trivial, ?_⟩
   refine WO.pn 1 rfl ?_
   refine WO.fin ?_
   refine DN.seq ?_
   refine WC.ret ?_
   have f118 := hE.stp (S3.tr (S7.tr (S17.tr (S35.tr (S51.tr (S67.tr (S87.tr (S102.tr S116)))))))) rfl rfl
   have f119 := f90.stp (S102.tr S116) rfl rfl
   have f120 := f105.stp S116 rfl rfl
   have f121 := f92.stp (S102.tr S116) rfl rfl
   refine DN.res (l := [.cell 8 27, .tmp 9]) Try.results17 (res_cellA rfl f117 Try.isAgg27 Try.sizeOf27 rfl (res_tmp rfl rfl)) rfl ?_
   obtain rfl := Option.some.inj h
   exact ⟨(fun b => ren [(8, 2), (15, 3), (10, 4)] (K101 b)), a35_0, u35_0, a40_m0, u40_m0, a35_2, u35_2, rfl, (f118.map (ren [(8, 2), (15, 3), (10, 4)]) rfl rfl), (f119.map (ren [(8, 2), (15, 3), (10, 4)]) rfl rfl), (f120.map (ren [(8, 2), (15, 3), (10, 4)]) rfl rfl), (f121.map (ren [(8, 2), (15, 3), (10, 4)]) rfl rfl)⟩

/- loop.example/g00869/impl.StepOf -/
theorem i_StepOf_ok {w : World} {κ : Col} {a0_2 : Option Addr} {u0_2 : Nat} {a0_3 : Option Addr} {u0_3 : Nat} {a0_4 : Option Addr} {u0_4 : Nat} {p0 : Circuit} {p1 : Int} {p2 : Int} (g0_2 : Rd (Rp.int .i64) κ w 0 a0_2 u0_2 p0.Next) (g0_3 : Rd Gate.rp κ w 0 a0_3 u0_3 p0.Gates) (g0_4 : Rd (Rp.int .i64) κ w 0 a0_4 u0_4 p0.Outs) {r : Int × Int} (h : i_StepOf p0 p1 p2 = some r) : Ret Try.prog 12 [.agg #[.int .i64 p0.Inputs, .int .i64 p0.Latches, .slice a0_2 p0.Next.length u0_2, .slice a0_3 p0.Gates.length u0_3, .slice a0_4 p0.Outs.length u0_4], .int .i64 p1, .int .i64 p2] w (fun v w' => ∃ (κ' : Col), v = .tuple #[.int .i64 r.1, .int .i64 r.2] ∧ Ent κ w κ' w') := by
 unfold i_StepOf at h
 refine Ret.enter Try.func12 rfl Try.ntmps12 rfl ?_
 dsimp only [envOf]
 have hE := Ent.refl κ w
 refine WC.seq ?_
 refine WC.rs [(0, 1), (1, 2), (2, 2)] rfl ?_
 refine WO.box (κ := κ) 2 rfl rfl rfl rfl rfl rfl rfl fun b3 w1 K2 S3 f4 => ⟨trivial, ?_⟩
 refine WO.pn 2 rfl ?_
 refine WO.fin ?_
 refine DN.seq ?_
 refine WC.seq ?_
 refine WC.seq ?_
 refine WC.rs [(0, 1), (1, 1), (2, 2), (3, 2), (4, 2), (5, 2), (6, 2), (7, 2), (8, 2), (9, 2), (10, 1), (11, 2), (12, 2), (13, 2), (14, 2), (15, 2), (16, 2), (17, 2), (18, 2), (19, 2), (20, 2), (21, 1), (22, 2), (23, 2), (24, 2)] rfl ?_
 refine WO.k1 trivial rfl rfl rfl rfl (rn_la (cs := [.int .i64 p0.Inputs, .int .i64 p0.Latches, .slice a0_2 p0.Next.length u0_2, .slice a0_3 p0.Gates.length u0_3, .slice a0_4 p0.Outs.length u0_4]) Try.isAgg27 Try.sizeOf27 rfl rfl rfl (haE f4.cells)) ?_
 obtain ⟨x11, hx11, h⟩ := Option.bind_eq_some_iff.mp h
 have f5 := g0_2.stp S3 rfl rfl
 have f6 := g0_3.stp S3 rfl rfl
 have f7 := g0_4.stp S3 rfl rfl
 refine WO.call rfl rfl rfl rfl rfl rfl Try.call31 (i_isCircuit_ok (κ := fun b => mp [] 0 (K2 b)) (p0 := p0) (Sl.map f5 (mp [] 0) rfl rfl) (Sl.map f6 (mp [] 0) rfl rfl) (Sl.map f7 (mp [] 0) rfl rfl) hx11) ?_
 rintro _ w8 ⟨k9, rfl, e10⟩
 obtain ⟨K11, S12, m13⟩ := Ent.mixed (l := []) (κ := K2) e10 3 rfl
 refine ⟨trivial, ?_⟩
 refine WO.pn 2 rfl ?_
 obtain ⟨p16, h, hK15⟩ := Option.bind_eq_some_iff.mp h
 refine WO.meet [(4, 2), (5, 2), (6, 2)] [(7, 2), (8, 2), (9, 2), (10, 1), (11, 2), (12, 2), (13, 2), (14, 2), (15, 2), (16, 2), (17, 2), (18, 2), (19, 2), (20, 2), (21, 1), (22, 2), (23, 2), (24, 2)] (fun L w' => L = [(1, .int .i64 p1), (2, .int .i64 p2), (3, .pointer (some ⟨b3, 0, none⟩)), (16, .bool p16)] ∧ ∃ κ', Stp [] K11 w8 κ' w') trivial ?_ ?_
 ·
  revert h
  cases ht16 : (!x11) with
  | true =>
   intro h; replace h := cT h
   refine WO.pn 3 rfl ?_
   obtain rfl := Option.some.inj h
   exact WO.met _ trivial ⟨rfl, _, (Stp.refl _ _).wk rfl⟩ fun a ha => (ha.more (ha.more (ha.more (ha.more ha.nil rfl) rfl) rfl) rfl)
  | false =>
   intro h; replace h := cF h
   refine WO.pn 3 rfl ?_
   obtain rfl := Option.some.inj h
   exact WO.met _ trivial ⟨rfl, _, (Stp.refl _ _).wk rfl⟩ fun a ha => (ha.more (ha.more (ha.more (ha.more ha.nil rfl) rfl) rfl) rfl)
 rintro _ w17 _ ⟨rfl, K18, S19⟩
 have h := hK15
 refine WO.pn 1 rfl ?_
 obtain ⟨p23, h, hK20⟩ := Option.bind_eq_some_iff.mp h
 refine WO.meet [(8, 2), (9, 2), (10, 1), (11, 2), (12, 2), (13, 2)] [(14, 2), (15, 2), (16, 2), (17, 2), (18, 2), (19, 2), (20, 2), (21, 1), (22, 2), (23, 2), (24, 2)] (fun L w' => L = [(1, .int .i64 p1), (2, .int .i64 p2), (3, .pointer (some ⟨b3, 0, none⟩)), (23, .bool p23)] ∧ ∃ κ', Stp [] K18 w17 κ' w') trivial ?_ ?_
 ·
  revert h
  cases ht21 : p16 with
  | true =>
   intro h; replace h := cT h
   refine WO.pn 2 rfl ?_
   refine WO.ls rfl rfl rfl rfl ?_
   refine WO.pn 3 rfl ?_
   obtain rfl := Option.some.inj h
   exact WO.met _ trivial ⟨rfl, _, (Stp.refl _ _).wk rfl⟩ fun a ha => (ha.more (ha.more (ha.more (ha.more ha.nil rfl) rfl) rfl) rfl)
  | false =>
   intro h; replace h := cF h
   refine WO.pn 1 rfl ?_
   refine WO.k2 rfl rfl rfl rfl (rn_fieldAddr Try.runUnderlying27 rfl Try.sizeOf2 rfl rfl) ?_
   have f22 := f4.stp (S12.tr S19) rfl rfl
   refine WO.k1 trivial rfl rfl rfl rfl (rn_ld Try.isAgg2 rfl rfl (hvE (f22.ld 1 rfl rfl))) ?_
   obtain ⟨_z21, hz21, h⟩ := Option.bind_eq_some_iff.mp h
   refine WO.k2 rfl rfl rfl rfl (rn_shl rfl rfl rfl (nn_ok hz21)) ?_
   refine WO.pn 2 rfl ?_
   obtain rfl := Option.some.inj h
   exact WO.met _ trivial ⟨rfl, _, (Stp.refl _ _).wk rfl⟩ fun a ha => (ha.more (ha.more (ha.more (ha.more ha.nil rfl) rfl) rfl) rfl)
 rintro _ w23 _ ⟨rfl, K24, S25⟩
 have h := hK20
 refine WO.pn 1 rfl ?_
 obtain ⟨p27, h, hK26⟩ := Option.bind_eq_some_iff.mp h
 refine WO.meet [(15, 2), (16, 2), (17, 2)] [(18, 2), (19, 2), (20, 2), (21, 1), (22, 2), (23, 2), (24, 2)] (fun L w' => L = [(1, .int .i64 p1), (2, .int .i64 p2), (3, .pointer (some ⟨b3, 0, none⟩)), (27, .bool p27)] ∧ ∃ κ', Stp [] K24 w23 κ' w') trivial ?_ ?_
 ·
  revert h
  cases ht27 : p23 with
  | true =>
   intro h; replace h := cT h
   refine WO.pn 3 rfl ?_
   obtain rfl := Option.some.inj h
   exact WO.met _ trivial ⟨rfl, _, (Stp.refl _ _).wk rfl⟩ fun a ha => (ha.more (ha.more (ha.more (ha.more ha.nil rfl) rfl) rfl) rfl)
  | false =>
   intro h; replace h := cF h
   refine WO.pn 3 rfl ?_
   obtain rfl := Option.some.inj h
   exact WO.met _ trivial ⟨rfl, _, (Stp.refl _ _).wk rfl⟩ fun a ha => (ha.more (ha.more (ha.more (ha.more ha.nil rfl) rfl) rfl) rfl)
 rintro _ w28 _ ⟨rfl, K29, S30⟩
 have h := hK26
 refine WO.pn 1 rfl ?_
 obtain ⟨p34, h, hK31⟩ := Option.bind_eq_some_iff.mp h
 refine WO.meet [(19, 2), (20, 2), (21, 1), (22, 2), (23, 2), (24, 2)] [] (fun L w' => L = [(1, .int .i64 p1), (2, .int .i64 p2), (3, .pointer (some ⟨b3, 0, none⟩)), (34, .bool p34)] ∧ ∃ κ', Stp [] K29 w28 κ' w') trivial ?_ ?_
 ·
  revert h
  cases ht32 : p27 with
  | true =>
   intro h; replace h := cT h
   refine WO.pn 2 rfl ?_
   refine WO.ls rfl rfl rfl rfl ?_
   refine WO.pn 3 rfl ?_
   obtain rfl := Option.some.inj h
   exact WO.met _ trivial ⟨rfl, _, (Stp.refl _ _).wk rfl⟩ fun a ha => (ha.more (ha.more (ha.more (ha.more ha.nil rfl) rfl) rfl) rfl)
  | false =>
   intro h; replace h := cF h
   refine WO.pn 1 rfl ?_
   refine WO.k2 rfl rfl rfl rfl (rn_fieldAddr Try.runUnderlying27 rfl Try.sizeOf2 rfl rfl) ?_
   have f33 := f4.stp (S12.tr (S19.tr (S25.tr S30))) rfl rfl
   refine WO.k1 trivial rfl rfl rfl rfl (rn_ld Try.isAgg2 rfl rfl (hvE (f33.ld 0 rfl rfl))) ?_
   obtain ⟨_z32, hz32, h⟩ := Option.bind_eq_some_iff.mp h
   refine WO.k2 rfl rfl rfl rfl (rn_shl rfl rfl rfl (nn_ok hz32)) ?_
   refine WO.pn 2 rfl ?_
   obtain rfl := Option.some.inj h
   exact WO.met _ trivial ⟨rfl, _, (Stp.refl _ _).wk rfl⟩ fun a ha => (ha.more (ha.more (ha.more (ha.more ha.nil rfl) rfl) rfl) rfl)
 rintro _ w34 _ ⟨rfl, K35, S36⟩
 have h := hK31
 refine WO.fin ?_
 refine DN.seq ?_
 revert h
 cases ht37 : p34 with
 | true =>
  intro h; replace h := cT h
  refine WC.ct rfl ?_
  refine WC.seq ?_
  refine WC.rs [(0, 2), (1, 2)] rfl ?_
  refine WO.pn 2 rfl ?_
  refine WO.fin ?_
  refine DN.seq ?_
  refine WC.ret ?_
  refine DN.retThen ?_
  have f38 := hE.stp (S3.tr (S12.tr (S19.tr (S25.tr (S30.tr S36))))) rfl rfl
  refine DN.res (l := [.tmp 6, .tmp 7]) Try.results12 (res_tmp rfl (res_tmp rfl rfl)) rfl ?_
  obtain rfl := Option.some.inj h
  exact ⟨K35, rfl, f38⟩
 | false =>
  intro h; replace h := cF h
  refine WC.cf rfl ?_
  refine WC.skip ?_
  refine DN.seq ?_
  refine WC.seq ?_
  refine WC.rs [(0, 1), (1, 2), (2, 2), (3, 1), (4, 2), (5, 2), (6, 2), (7, 2), (8, 2)] rfl ?_
  have f39 := f4.stp (S12.tr (S19.tr (S25.tr (S30.tr S36)))) rfl rfl
  refine WO.k1 trivial rfl rfl rfl rfl (rn_la (cs := [.int .i64 p0.Inputs, .int .i64 p0.Latches, .slice a0_2 p0.Next.length u0_2, .slice a0_3 p0.Gates.length u0_3, .slice a0_4 p0.Outs.length u0_4]) Try.isAgg27 Try.sizeOf27 rfl rfl rfl (haE f39.cells)) ?_
  refine WO.pn 2 rfl ?_
  obtain ⟨x39, hx39, h⟩ := Option.bind_eq_some_iff.mp h
  have f40 := f5.stp (S12.tr (S19.tr (S25.tr (S30.tr S36)))) rfl rfl
  have f41 := f6.stp (S12.tr (S19.tr (S25.tr (S30.tr S36)))) rfl rfl
  have f42 := f7.stp (S12.tr (S19.tr (S25.tr (S30.tr S36)))) rfl rfl
  refine WO.call rfl rfl rfl rfl rfl rfl Try.call38 (i_stepOf_ok (κ := fun b => mp [] 0 (K35 b)) (p0 := p0) (Sl.map f40 (mp [] 0) rfl rfl) (Sl.map f41 (mp [] 0) rfl rfl) (Sl.map f42 (mp [] 0) rfl rfl) hx39) ?_
  rintro _ w43 ⟨k44, rfl, e45⟩
  obtain ⟨K46, S47, m48⟩ := Ent.mixed (l := []) (κ := K35) e45 5 rfl
  refine ⟨trivial, ?_⟩
  refine WO.pn 5 rfl ?_
  refine WO.fin ?_
  refine DN.seq ?_
  refine WC.seq ?_
  refine WC.rs [(0, 2), (1, 2), (2, 2), (3, 2)] rfl ?_
  refine WO.pn 4 rfl ?_
  refine WO.fin ?_
  refine DN.seq ?_
  refine WC.ret ?_
  have f50 := hE.stp (S3.tr (S12.tr (S19.tr (S25.tr (S30.tr (S36.tr S47)))))) rfl rfl
  refine DN.res (l := [.tmp 6, .tmp 7]) Try.results12 (res_tmp rfl (res_tmp rfl rfl)) rfl ?_
  obtain rfl := Option.some.inj h
  exact ⟨K46, rfl, f50⟩

/- loop.example/g00869/laws.FnJoined -/
theorem l_FnJoined_ok {w : World} {κ : Col} {a0 : Option Addr} {u0 : Nat} {p0 : (List Int)} (g0 : Rd (Rp.int .u8) κ w 0 a0 u0 p0) {r : Bool} (h : l_FnJoined p0 = some r) : Ret Try.prog 4 [.slice a0 p0.length u0] w (fun v w' => ∃ (κ' : Col), v = .bool r ∧ Ent κ w κ' w') := by
 unfold l_FnJoined at h
 refine Ret.enter Try.func4 rfl Try.ntmps4 rfl ?_
 dsimp only [envOf]
 have hE := Ent.refl κ w
 refine WC.seq ?_
 refine WC.rs [(0, 2)] rfl ?_
 refine WO.pn 1 rfl ?_
 refine WO.fin ?_
 refine DN.seq ?_
 refine WC.seq ?_
 refine WC.seq ?_
 refine WC.rs [(0, 2), (1, 1)] rfl ?_
 refine WO.pn 1 rfl ?_
 obtain ⟨x24, hx24, h⟩ := Option.bind_eq_some_iff.mp h
 refine WO.call rfl rfl rfl rfl rfl rfl Try.call6 (l_big_ok (κ := fun b => mp [] 0 (κ b)) (Sl.map g0 (mp [] 0) rfl rfl) hx24) ?_
 rintro _ w1 ⟨k2, rfl, e3⟩
 obtain ⟨K4, S5, m6⟩ := Ent.mixed (l := []) (κ := κ) e3 2 rfl
 refine ⟨trivial, ?_⟩
 refine WO.fin ?_
 refine DN.seq ?_
 revert h
 cases ht8 : x24 with
 | true =>
  intro h; replace h := cT h
  refine WC.ct rfl ?_
  refine WC.seq ?_
  refine WC.rs [(0, 2)] rfl ?_
  refine WO.pn 1 rfl ?_
  refine WO.fin ?_
  refine DN.seq ?_
  refine WC.ret ?_
  refine DN.retThen ?_
  have f9 := hE.stp S5 rfl rfl
  refine DN.res (l := [.tmp 2]) Try.results4 (res_tmp rfl rfl) rfl ?_
  obtain rfl := Option.some.inj h
  exact ⟨K4, rfl, f9⟩
 | false =>
  intro h; replace h := cF h
  refine WC.cf rfl ?_
  refine WC.skip ?_
  refine DN.seq ?_
  refine WC.seq ?_
  refine WC.rs [(0, 2), (1, 1), (2, 2), (3, 2), (4, 2), (5, 2), (6, 2), (7, 1), (8, 1), (9, 2), (10, 2), (11, 2)] rfl ?_
  refine WO.pn 1 rfl ?_
  obtain ⟨x27, hx27, h⟩ := Option.bind_eq_some_iff.mp h
  have f10 := g0.stp S5 rfl rfl
  refine WO.call rfl rfl rfl rfl rfl rfl Try.call15 (s_DrawChosenBy_ok (κ := fun b => mp [] 0 (K4 b)) (Sl.map f10 (mp [] 0) rfl rfl) hx27) ?_
  rintro _ w11 ⟨k12, a27_0, u27_0, a27_1, u27_1, a27_2, u27_2, rfl, e13, f14, f15, f16⟩
  obtain ⟨K17, S18, m19⟩ := Ent.mixed (l := []) (κ := K4) e13 4 rfl
  refine ⟨trivial, ?_⟩
  have f21 := f14.mx (no_int _) m19 rfl (rfl : 4 + 2 = 6)
  have f22 := f15.mx Gate.no33 m19 rfl (rfl : 4 + 3 = 7)
  have f23 := f16.mx (no_int _) m19 rfl (rfl : 4 + 4 = 8)
  refine WO.pn 5 rfl ?_
  refine WO.alloc (κ := K17) 9 rfl rfl rfl rfl rfl Try.zeroValue27 rfl fun b3 w24 K25 S26 f27 => ⟨trivial, ?_⟩
  refine WO.stB0 (κ := K25) 9 (vc := [.int .i64 x27.1.Inputs, .int .i64 x27.1.Latches, .slice a27_0 x27.1.Next.length u27_0, .slice a27_1 x27.1.Gates.length u27_1, .slice a27_2 x27.1.Outs.length u27_2]) rfl rfl rfl rfl rfl rfl rfl Try.sizeOf27 rfl rfl f27 rfl fun w28 S29 f30 => ⟨trivial, ?_⟩
  refine WO.pn 3 rfl ?_
  refine WO.fin ?_
  refine DN.seq ?_
  refine WC.seq ?_
  refine WC.rs [(0, 1), (1, 2), (2, 2), (3, 1), (4, 2), (5, 2), (6, 2), (7, 1), (8, 1), (9, 2)] rfl ?_
  refine WO.k1 trivial rfl rfl rfl rfl (rn_la (cs := [.int .i64 x27.1.Inputs, .int .i64 x27.1.Latches, .slice a27_0 x27.1.Next.length u27_0, .slice a27_1 x27.1.Gates.length u27_1, .slice a27_2 x27.1.Outs.length u27_2]) Try.isAgg27 Try.sizeOf27 rfl rfl rfl (haE f30.cells)) ?_
  refine WO.pn 2 rfl ?_
  obtain ⟨x36, hx36, h⟩ := Option.bind_eq_some_iff.mp h
  have f31 := f21.stp (S26.tr S29) rfl rfl
  have f32 := f22.stp (S26.tr S29) rfl rfl
  have f33 := f23.stp (S26.tr S29) rfl rfl
  refine WO.call rfl rfl rfl rfl rfl rfl Try.call16 (i_JoinedBy_ok (κ := fun b => mp [] 0 (K25 b)) (p0 := x27.1) (Sl.map f31.rdc (mp [] 0) rfl rfl) (Sl.map f32.rdc (mp [] 0) rfl rfl) (Sl.map f33.rdc (mp [] 0) rfl rfl) hx36) ?_
  rintro _ w34 ⟨k35, a36_0, u36_0, a36_1, u36_1, a36_2, u36_2, rfl, e36, f37, f38, f39⟩
  obtain ⟨K40, S41, m42⟩ := Ent.mixed (l := []) (κ := K25) e36 10 rfl
  refine ⟨trivial, ?_⟩
  have f44 := f37.mx (no_int _) m42 rfl (rfl : 10 + 2 = 12)
  have f45 := f38.mx Gate.no33 m42 rfl (rfl : 10 + 3 = 13)
  have f46 := f39.mx (no_int _) m42 rfl (rfl : 10 + 4 = 14)
  refine WO.pn 3 rfl ?_
  refine WO.alloc (κ := K40) 15 rfl rfl rfl rfl rfl Try.zeroValue27 rfl fun b7 w47 K48 S49 f50 => ⟨trivial, ?_⟩
  refine WO.stB0 (κ := K48) 15 (vc := [.int .i64 x36.1.Inputs, .int .i64 x36.1.Latches, .slice a36_0 x36.1.Next.length u36_0, .slice a36_1 x36.1.Gates.length u36_1, .slice a36_2 x36.1.Outs.length u36_2]) rfl rfl rfl rfl rfl rfl rfl Try.sizeOf27 rfl rfl f50 rfl fun w51 S52 f53 => ⟨trivial, ?_⟩
  refine WO.pn 1 rfl ?_
  refine WO.fin ?_
  refine DN.seq ?_
  refine WC.seq ?_
  refine WC.rs [(0, 1), (1, 2), (2, 2), (3, 2), (4, 1), (5, 2), (6, 2), (7, 2), (8, 1), (9, 1), (10, 2)] rfl ?_
  have f54 := f30.stp (S41.tr (S49.tr S52)) rfl rfl
  refine WO.k1 trivial rfl rfl rfl rfl (rn_la (cs := [.int .i64 x27.1.Inputs, .int .i64 x27.1.Latches, .slice a27_0 x27.1.Next.length u27_0, .slice a27_1 x27.1.Gates.length u27_1, .slice a27_2 x27.1.Outs.length u27_2]) Try.isAgg27 Try.sizeOf27 rfl rfl rfl (haE f54.cells)) ?_
  refine WO.pn 3 rfl ?_
  obtain ⟨x44, hx44, h⟩ := Option.bind_eq_some_iff.mp h
  have f55 := f31.stp (S41.tr (S49.tr S52)) rfl rfl
  have f56 := f32.stp (S41.tr (S49.tr S52)) rfl rfl
  have f57 := f33.stp (S41.tr (S49.tr S52)) rfl rfl
  refine WO.call rfl rfl rfl rfl rfl rfl Try.call17 (i_ChosenBy_ok (κ := fun b => mp [] 0 (K48 b)) (p0 := x27.1) (Sl.map f55.rdc (mp [] 0) rfl rfl) (Sl.map f56.rdc (mp [] 0) rfl rfl) (Sl.map f57.rdc (mp [] 0) rfl rfl) hx44) ?_
  rintro _ w58 ⟨k59, a44_0, u44_0, a44_1, u44_1, a44_2, u44_2, rfl, e60, f61, f62, f63⟩
  obtain ⟨K64, S65, m66⟩ := Ent.mixed (l := []) (κ := K48) e60 16 rfl
  refine ⟨trivial, ?_⟩
  have f68 := f61.mx (no_int _) m66 rfl (rfl : 16 + 2 = 18)
  have f69 := f62.mx Gate.no33 m66 rfl (rfl : 16 + 3 = 19)
  have f70 := f63.mx (no_int _) m66 rfl (rfl : 16 + 4 = 20)
  refine WO.pn 3 rfl ?_
  refine WO.alloc (κ := K64) 21 rfl rfl rfl rfl rfl Try.zeroValue27 rfl fun b9 w71 K72 S73 f74 => ⟨trivial, ?_⟩
  refine WO.stB0 (κ := K72) 21 (vc := [.int .i64 x44.1.Inputs, .int .i64 x44.1.Latches, .slice a44_0 x44.1.Next.length u44_0, .slice a44_1 x44.1.Gates.length u44_1, .slice a44_2 x44.1.Outs.length u44_2]) rfl rfl rfl rfl rfl rfl rfl Try.sizeOf27 rfl rfl f74 rfl fun w75 S76 f77 => ⟨trivial, ?_⟩
  refine WO.pn 1 rfl ?_
  refine WO.fin ?_
  refine DN.seq ?_
  refine WC.seq ?_
  refine WC.rs [(0, 1), (1, 2), (2, 2), (3, 1), (4, 2), (5, 2), (6, 2), (7, 1), (8, 1), (9, 2)] rfl ?_
  have f78 := f54.stp (S65.tr (S73.tr S76)) rfl rfl
  refine WO.k1 trivial rfl rfl rfl rfl (rn_la (cs := [.int .i64 x27.1.Inputs, .int .i64 x27.1.Latches, .slice a27_0 x27.1.Next.length u27_0, .slice a27_1 x27.1.Gates.length u27_1, .slice a27_2 x27.1.Outs.length u27_2]) Try.isAgg27 Try.sizeOf27 rfl rfl rfl (haE f78.cells)) ?_
  refine WO.pn 2 rfl ?_
  have f79 := f55.stp (S65.tr (S73.tr S76)) rfl rfl
  obtain ⟨K80, S81, z82⟩ := fz_ex K72 w75 6
  have f83 := Sl.st z82 f79.rdc
  have f84 := f56.stp (S65.tr (S73.tr (S76.tr S81))) rfl rfl
  obtain ⟨K85, S86, z87⟩ := fz_ex K80 w75 7
  have f88 := Sl.st z87 f84.rdc
  have f89 := f57.stp (S65.tr (S73.tr (S76.tr (S81.tr S86)))) rfl rfl
  obtain ⟨K90, S91, z92⟩ := fz_ex K85 w75 8
  have f93 := Sl.st z92 f89.rdc
  obtain ⟨x51, hx51, h⟩ := Option.bind_eq_some_iff.mp h
  have f94 := f83.stp (S86.tr S91) rfl rfl
  have f95 := f88.stp S91 rfl rfl
  refine WO.call rfl rfl rfl rfl rfl rfl Try.call18 (s_JoinedBy_ok (κ := fun b => mp [] 1 (K90 b)) (p0 := x27.1) (Sl.map f94 (mp [] 1) rfl rfl) (Sl.map f95 (mp [] 1) rfl rfl) (Sl.map f93 (mp [] 1) rfl rfl) hx51) ?_
  rintro _ w96 ⟨k97, a51_0, u51_0, a51_1, u51_1, a51_2, u51_2, rfl, e98, f99, f100, f101⟩
  obtain ⟨K102, S103, m104, z105⟩ := Ent.mixed0 (l := []) (κ := K90) e98 22 rfl
  refine ⟨trivial, ?_⟩
  have f106 := f99.mx z105
  have f107 := f100.mx Gate.no33 m104 rfl (rfl : 22 + 3 = 25)
  have f108 := f101.mx z105
  refine WO.pn 3 rfl ?_
  refine WO.alloc (κ := K102) 27 rfl rfl rfl rfl rfl Try.zeroValue27 rfl fun b11 w109 K110 S111 f112 => ⟨trivial, ?_⟩
  refine WO.stB0 (κ := K110) 27 (vc := [.int .i64 x51.1.Inputs, .int .i64 x51.1.Latches, .slice a51_0 x51.1.Next.length u51_0, .slice a51_1 x51.1.Gates.length u51_1, .slice a51_2 x51.1.Outs.length u51_2]) rfl rfl rfl rfl rfl rfl rfl Try.sizeOf27 rfl rfl f112 rfl fun w113 S114 f115 => ⟨trivial, ?_⟩
  refine WO.pn 1 rfl ?_
  refine WO.fin ?_
  refine DN.seq ?_
  refine WC.seq ?_
  refine WC.rs [(0, 1), (1, 2), (2, 2), (3, 2), (4, 1), (5, 2), (6, 2), (7, 2), (8, 1), (9, 1), (10, 2)] rfl ?_
  have f116 := f78.stp (S81.tr (S86.tr (S91.tr (S103.tr (S111.tr S114))))) rfl rfl
  refine WO.k1 trivial rfl rfl rfl rfl (rn_la (cs := [.int .i64 x27.1.Inputs, .int .i64 x27.1.Latches, .slice a27_0 x27.1.Next.length u27_0, .slice a27_1 x27.1.Gates.length u27_1, .slice a27_2 x27.1.Outs.length u27_2]) Try.isAgg27 Try.sizeOf27 rfl rfl rfl (haE f116.cells)) ?_
  refine WO.pn 3 rfl ?_
  obtain ⟨x59, hx59, h⟩ := Option.bind_eq_some_iff.mp h
  have f117 := f94.stp (S103.tr (S111.tr S114)) rfl rfl
  have f118 := f95.stp (S103.tr (S111.tr S114)) rfl rfl
  have f119 := f93.stp (S103.tr (S111.tr S114)) rfl rfl
  refine WO.call rfl rfl rfl rfl rfl rfl Try.call19 (s_ChosenBy_ok (κ := fun b => mp [] 1 (K110 b)) (p0 := x27.1) (Sl.map f117 (mp [] 1) rfl rfl) (Sl.map f118 (mp [] 1) rfl rfl) (Sl.map f119 (mp [] 1) rfl rfl) hx59) ?_
  rintro _ w120 ⟨k121, a59_0, u59_0, a59_1, u59_1, a59_2, u59_2, rfl, e122, f123, f124, f125⟩
  obtain ⟨K126, S127, m128, z129⟩ := Ent.mixed0 (l := []) (κ := K110) e122 28 rfl
  refine ⟨trivial, ?_⟩
  have f130 := f123.mx z129
  have f131 := f124.mx Gate.no33 m128 rfl (rfl : 28 + 3 = 31)
  have f132 := f125.mx z129
  refine WO.pn 3 rfl ?_
  refine WO.alloc (κ := K126) 33 rfl rfl rfl rfl rfl Try.zeroValue27 rfl fun b13 w133 K134 S135 f136 => ⟨trivial, ?_⟩
  refine WO.stB0 (κ := K134) 33 (vc := [.int .i64 x59.1.Inputs, .int .i64 x59.1.Latches, .slice a59_0 x59.1.Next.length u59_0, .slice a59_1 x59.1.Gates.length u59_1, .slice a59_2 x59.1.Outs.length u59_2]) rfl rfl rfl rfl rfl rfl rfl Try.sizeOf27 rfl rfl f136 rfl fun w137 S138 f139 => ⟨trivial, ?_⟩
  refine WO.pn 1 rfl ?_
  refine WO.fin ?_
  refine DN.seq ?_
  refine WC.seq ?_
  refine WC.seq ?_
  refine WC.rs [(0, 2), (1, 2), (2, 2), (3, 2), (4, 2), (5, 2), (6, 2), (7, 2), (8, 2), (9, 2), (10, 2), (11, 2), (12, 2), (13, 2), (14, 2), (15, 2)] rfl ?_
  refine WO.pn 4 rfl ?_
  obtain ⟨p69, h, hK140⟩ := Option.bind_eq_some_iff.mp h
  refine WO.meet [(4, 2), (5, 2), (6, 2), (7, 2)] [(8, 2), (9, 2), (10, 2), (11, 2), (12, 2), (13, 2), (14, 2), (15, 2)] (fun L w' => L = [(3, .pointer (some ⟨b3, 0, none⟩)), (4, .int .i64 x27.2.1), (5, .int .i64 x27.2.2.1), (6, .int .i64 x27.2.2.2), (7, .pointer (some ⟨b7, 0, none⟩)), (8, .int .i64 x36.2), (9, .pointer (some ⟨b9, 0, none⟩)), (10, .int .i64 x44.2), (12, .int .i64 x51.2), (14, .int .i64 x59.2), (69, .bool p69)] ∧ ∃ κ', Stp [] K134 w137 κ' w') trivial ?_ ?_
  ·
   revert h
   cases ht141 : (x36.2 != x51.2) with
   | true =>
    intro h; replace h := cT h
    refine WO.pn 4 rfl ?_
    obtain rfl := Option.some.inj h
    exact WO.met _ trivial ⟨rfl, _, (Stp.refl _ _).wk rfl⟩ fun a ha => (ha.more (ha.more (ha.more (ha.more (ha.more (ha.more (ha.more (ha.more (ha.more (ha.more (ha.more ha.nil rfl) rfl) rfl) rfl) rfl) rfl) rfl) rfl) rfl) rfl) rfl)
   | false =>
    intro h; replace h := cF h
    refine WO.pn 4 rfl ?_
    obtain rfl := Option.some.inj h
    exact WO.met _ trivial ⟨rfl, _, (Stp.refl _ _).wk rfl⟩ fun a ha => (ha.more (ha.more (ha.more (ha.more (ha.more (ha.more (ha.more (ha.more (ha.more (ha.more (ha.more ha.nil rfl) rfl) rfl) rfl) rfl) rfl) rfl) rfl) rfl) rfl) rfl)
  rintro _ w142 _ ⟨rfl, K143, S144⟩
  have h := hK140
  refine WO.pn 1 rfl ?_
  obtain ⟨p73, h, hK145⟩ := Option.bind_eq_some_iff.mp h
  refine WO.meet [(9, 2), (10, 2), (11, 2)] [(12, 2), (13, 2), (14, 2), (15, 2)] (fun L w' => L = [(3, .pointer (some ⟨b3, 0, none⟩)), (4, .int .i64 x27.2.1), (5, .int .i64 x27.2.2.1), (6, .int .i64 x27.2.2.2), (7, .pointer (some ⟨b7, 0, none⟩)), (8, .int .i64 x36.2), (9, .pointer (some ⟨b9, 0, none⟩)), (10, .int .i64 x44.2), (12, .int .i64 x51.2), (14, .int .i64 x59.2), (73, .bool p73)] ∧ ∃ κ', Stp [] K143 w142 κ' w') trivial ?_ ?_
  ·
   revert h
   cases ht146 : p69 with
   | true =>
    intro h; replace h := cT h
    refine WO.pn 3 rfl ?_
    obtain rfl := Option.some.inj h
    exact WO.met _ trivial ⟨rfl, _, (Stp.refl _ _).wk rfl⟩ fun a ha => (ha.more (ha.more (ha.more (ha.more (ha.more (ha.more (ha.more (ha.more (ha.more (ha.more (ha.more ha.nil rfl) rfl) rfl) rfl) rfl) rfl) rfl) rfl) rfl) rfl) rfl)
   | false =>
    intro h; replace h := cF h
    refine WO.pn 3 rfl ?_
    obtain rfl := Option.some.inj h
    exact WO.met _ trivial ⟨rfl, _, (Stp.refl _ _).wk rfl⟩ fun a ha => (ha.more (ha.more (ha.more (ha.more (ha.more (ha.more (ha.more (ha.more (ha.more (ha.more (ha.more ha.nil rfl) rfl) rfl) rfl) rfl) rfl) rfl) rfl) rfl) rfl) rfl)
  rintro _ w147 _ ⟨rfl, K148, S149⟩
  have h := hK145
  refine WO.pn 1 rfl ?_
  obtain ⟨p77, h, hK150⟩ := Option.bind_eq_some_iff.mp h
  refine WO.meet [(13, 2), (14, 2), (15, 2)] [] (fun L w' => L = [(3, .pointer (some ⟨b3, 0, none⟩)), (4, .int .i64 x27.2.1), (5, .int .i64 x27.2.2.1), (6, .int .i64 x27.2.2.2), (7, .pointer (some ⟨b7, 0, none⟩)), (8, .int .i64 x36.2), (9, .pointer (some ⟨b9, 0, none⟩)), (10, .int .i64 x44.2), (12, .int .i64 x51.2), (14, .int .i64 x59.2), (77, .bool p77)] ∧ ∃ κ', Stp [] K148 w147 κ' w') trivial ?_ ?_
  ·
   revert h
   cases ht151 : p73 with
   | true =>
    intro h; replace h := cT h
    refine WO.pn 3 rfl ?_
    obtain rfl := Option.some.inj h
    exact WO.met _ trivial ⟨rfl, _, (Stp.refl _ _).wk rfl⟩ fun a ha => (ha.more (ha.more (ha.more (ha.more (ha.more (ha.more (ha.more (ha.more (ha.more (ha.more (ha.more ha.nil rfl) rfl) rfl) rfl) rfl) rfl) rfl) rfl) rfl) rfl) rfl)
   | false =>
    intro h; replace h := cF h
    refine WO.pn 3 rfl ?_
    obtain rfl := Option.some.inj h
    exact WO.met _ trivial ⟨rfl, _, (Stp.refl _ _).wk rfl⟩ fun a ha => (ha.more (ha.more (ha.more (ha.more (ha.more (ha.more (ha.more (ha.more (ha.more (ha.more (ha.more ha.nil rfl) rfl) rfl) rfl) rfl) rfl) rfl) rfl) rfl) rfl) rfl)
  rintro _ w152 _ ⟨rfl, K153, S154⟩
  have h := hK150
  refine WO.fin ?_
  refine DN.seq ?_
  revert h
  cases ht155 : p77 with
  | true =>
   intro h; replace h := cT h
   refine WC.ct rfl ?_
   refine WC.seq ?_
   refine WC.rs [(0, 2), (1, 2), (2, 2), (3, 2), (4, 2), (5, 2), (6, 2), (7, 2), (8, 2)] rfl ?_
   refine WO.pn 4 rfl ?_
   obtain ⟨p85, h, hK156⟩ := Option.bind_eq_some_iff.mp h
   refine WO.meet [(4, 2), (5, 2), (6, 2), (7, 2)] [(8, 2)] (fun L w' => L = [(85, .bool p85)] ∧ ∃ κ', Stp [] K153 w152 κ' w') trivial ?_ ?_
   ·
    revert h
    cases ht157 : (x36.2 == x51.2) with
    | true =>
     intro h; replace h := cT h
     refine WO.pn 4 rfl ?_
     obtain rfl := Option.some.inj h
     exact WO.met _ trivial ⟨rfl, _, (Stp.refl _ _).wk rfl⟩ fun a ha => (ha.more ha.nil rfl)
    | false =>
     intro h; replace h := cF h
     refine WO.pn 4 rfl ?_
     obtain rfl := Option.some.inj h
     exact WO.met _ trivial ⟨rfl, _, (Stp.refl _ _).wk rfl⟩ fun a ha => (ha.more ha.nil rfl)
   rintro _ w158 _ ⟨rfl, K159, S160⟩
   have h := hK156
   refine WO.pn 1 rfl ?_
   refine WO.fin ?_
   refine DN.seq ?_
   refine WC.ret ?_
   refine DN.retThen ?_
   have f161 := hE.stp (S5.tr (S18.tr (S26.tr (S29.tr (S41.tr (S49.tr (S52.tr (S65.tr (S73.tr (S76.tr (S81.tr (S86.tr (S91.tr (S103.tr (S111.tr (S114.tr (S127.tr (S135.tr (S138.tr (S144.tr (S149.tr (S154.tr S160)))))))))))))))))))))) rfl rfl
   refine DN.res (l := [.tmp 2]) Try.results4 (res_tmp rfl rfl) rfl ?_
   obtain rfl := Option.some.inj h
   exact ⟨K159, rfl, f161⟩
  | false =>
   intro h; replace h := cF h
   refine WC.cf rfl ?_
   refine WC.skip ?_
   refine DN.seq ?_
   refine WC.seq ?_
   refine WC.seq ?_
   refine WC.rs [(0, 1), (1, 1), (2, 2), (3, 2), (4, 1), (5, 1), (6, 2), (7, 2), (8, 2), (9, 2), (10, 1), (11, 2), (12, 2), (13, 1), (14, 2), (15, 2), (16, 2), (17, 2), (18, 2), (19, 2), (20, 1), (21, 2), (22, 2), (23, 1), (24, 2), (25, 2), (26, 2), (27, 2)] rfl ?_
   have f162 := f53.stp (S65.tr (S73.tr (S76.tr (S81.tr (S86.tr (S91.tr (S103.tr (S111.tr (S114.tr (S127.tr (S135.tr (S138.tr (S144.tr (S149.tr S154)))))))))))))) rfl rfl
   refine WO.k1 trivial rfl rfl rfl rfl (rn_la (cs := [.int .i64 x36.1.Inputs, .int .i64 x36.1.Latches, .slice a36_0 x36.1.Next.length u36_0, .slice a36_1 x36.1.Gates.length u36_1, .slice a36_2 x36.1.Outs.length u36_2]) Try.isAgg27 Try.sizeOf27 rfl rfl rfl (haE f162.cells)) ?_
   obtain ⟨x87, hx87, h⟩ := Option.bind_eq_some_iff.mp h
   have f163 := f44.stp (S49.tr (S52.tr (S65.tr (S73.tr (S76.tr (S81.tr (S86.tr (S91.tr (S103.tr (S111.tr (S114.tr (S127.tr (S135.tr (S138.tr (S144.tr (S149.tr S154)))))))))))))))) rfl rfl
   have f164 := f45.stp (S49.tr (S52.tr (S65.tr (S73.tr (S76.tr (S81.tr (S86.tr (S91.tr (S103.tr (S111.tr (S114.tr (S127.tr (S135.tr (S138.tr (S144.tr (S149.tr S154)))))))))))))))) rfl rfl
   have f165 := f46.stp (S49.tr (S52.tr (S65.tr (S73.tr (S76.tr (S81.tr (S86.tr (S91.tr (S103.tr (S111.tr (S114.tr (S127.tr (S135.tr (S138.tr (S144.tr (S149.tr S154)))))))))))))))) rfl rfl
   refine WO.call rfl rfl rfl rfl rfl rfl Try.call9 (s_CircuitOk_ok (κ := fun b => mp [] 0 (K153 b)) (p0 := x36.1) (Sl.map f163.rdc (mp [] 0) rfl rfl) (Sl.map f164.rdc (mp [] 0) rfl rfl) (Sl.map f165.rdc (mp [] 0) rfl rfl) hx87) ?_
   rintro _ w166 ⟨k167, rfl, e168⟩
   obtain ⟨K169, S170, m171⟩ := Ent.mixed (l := []) (κ := K153) e168 34 rfl
   refine ⟨trivial, ?_⟩
   refine WO.pn 2 rfl ?_
   obtain ⟨p93, h, hK173⟩ := Option.bind_eq_some_iff.mp h
   refine WO.meet [(4, 1), (5, 1), (6, 2), (7, 2)] [(8, 2), (9, 2), (10, 1), (11, 2), (12, 2), (13, 1), (14, 2), (15, 2), (16, 2), (17, 2), (18, 2), (19, 2), (20, 1), (21, 2), (22, 2), (23, 1), (24, 2), (25, 2), (26, 2), (27, 2)] (fun L w' => L = [(3, .pointer (some ⟨b3, 0, none⟩)), (4, .int .i64 x27.2.1), (5, .int .i64 x27.2.2.1), (6, .int .i64 x27.2.2.2), (7, .pointer (some ⟨b7, 0, none⟩)), (8, .int .i64 x36.2), (9, .pointer (some ⟨b9, 0, none⟩)), (10, .int .i64 x44.2), (93, .bool p93)] ∧ ∃ κ', Stp [] K169 w166 κ' w') trivial ?_ ?_
   ·
    revert h
    cases ht174 : (!x87) with
    | true =>
     intro h; replace h := cT h
     refine WO.ls rfl rfl rfl rfl ?_
     refine WO.ls rfl rfl rfl rfl ?_
     refine WO.pn 2 rfl ?_
     obtain rfl := Option.some.inj h
     exact WO.met _ trivial ⟨rfl, _, (Stp.refl _ _).wk rfl⟩ fun a ha => (ha.more (ha.more (ha.more (ha.more (ha.more (ha.more (ha.more (ha.more (ha.more ha.nil rfl) rfl) rfl) rfl) rfl) rfl) rfl) rfl) rfl)
    | false =>
     intro h; replace h := cF h
     have f175 := f77.stp (S81.tr (S86.tr (S91.tr (S103.tr (S111.tr (S114.tr (S127.tr (S135.tr (S138.tr (S144.tr (S149.tr (S154.tr S170)))))))))))) rfl rfl
     refine WO.k1 trivial rfl rfl rfl rfl (rn_la (cs := [.int .i64 x44.1.Inputs, .int .i64 x44.1.Latches, .slice a44_0 x44.1.Next.length u44_0, .slice a44_1 x44.1.Gates.length u44_1, .slice a44_2 x44.1.Outs.length u44_2]) Try.isAgg27 Try.sizeOf27 rfl rfl rfl (haE f175.cells)) ?_
     obtain ⟨x91, hx91, h⟩ := Option.bind_eq_some_iff.mp h
     have f176 := f68.stp (S73.tr (S76.tr (S81.tr (S86.tr (S91.tr (S103.tr (S111.tr (S114.tr (S127.tr (S135.tr (S138.tr (S144.tr (S149.tr (S154.tr S170)))))))))))))) rfl rfl
     have f177 := f69.stp (S73.tr (S76.tr (S81.tr (S86.tr (S91.tr (S103.tr (S111.tr (S114.tr (S127.tr (S135.tr (S138.tr (S144.tr (S149.tr (S154.tr S170)))))))))))))) rfl rfl
     have f178 := f70.stp (S73.tr (S76.tr (S81.tr (S86.tr (S91.tr (S103.tr (S111.tr (S114.tr (S127.tr (S135.tr (S138.tr (S144.tr (S149.tr (S154.tr S170)))))))))))))) rfl rfl
     refine WO.call rfl rfl rfl rfl rfl rfl Try.call9 (s_CircuitOk_ok (κ := fun b => mp [] 0 (K169 b)) (p0 := x44.1) (Sl.map f176.rdc (mp [] 0) rfl rfl) (Sl.map f177.rdc (mp [] 0) rfl rfl) (Sl.map f178.rdc (mp [] 0) rfl rfl) hx91) ?_
     rintro _ w179 ⟨k180, rfl, e181⟩
     obtain ⟨K182, S183, m184⟩ := Ent.mixed (l := []) (κ := K169) e181 36 rfl
     refine ⟨trivial, ?_⟩
     refine WO.pn 2 rfl ?_
     obtain rfl := Option.some.inj h
     exact WO.met _ trivial ⟨rfl, _, S183.wk rfl⟩ fun a ha => (ha.more (ha.more (ha.more (ha.more (ha.more (ha.more (ha.more (ha.more (ha.more ha.nil rfl) rfl) rfl) rfl) rfl) rfl) rfl) rfl) rfl)
   rintro _ w186 _ ⟨rfl, K187, S188⟩
   have h := hK173
   refine WO.pn 1 rfl ?_
   obtain ⟨p103, h, hK189⟩ := Option.bind_eq_some_iff.mp h
   refine WO.meet [(9, 2), (10, 1), (11, 2), (12, 2), (13, 1), (14, 2), (15, 2), (16, 2), (17, 2)] [(18, 2), (19, 2), (20, 1), (21, 2), (22, 2), (23, 1), (24, 2), (25, 2), (26, 2), (27, 2)] (fun L w' => L = [(3, .pointer (some ⟨b3, 0, none⟩)), (4, .int .i64 x27.2.1), (5, .int .i64 x27.2.2.1), (6, .int .i64 x27.2.2.2), (7, .pointer (some ⟨b7, 0, none⟩)), (8, .int .i64 x36.2), (9, .pointer (some ⟨b9, 0, none⟩)), (10, .int .i64 x44.2), (103, .bool p103)] ∧ ∃ κ', Stp [] K187 w186 κ' w') trivial ?_ ?_
   ·
    revert h
    cases ht190 : p93 with
    | true =>
     intro h; replace h := cT h
     refine WO.pn 1 rfl ?_
     refine WO.ls rfl rfl rfl rfl ?_
     refine WO.pn 2 rfl ?_
     refine WO.ls rfl rfl rfl rfl ?_
     refine WO.pn 4 rfl ?_
     obtain rfl := Option.some.inj h
     exact WO.met _ trivial ⟨rfl, _, (Stp.refl _ _).wk rfl⟩ fun a ha => (ha.more (ha.more (ha.more (ha.more (ha.more (ha.more (ha.more (ha.more (ha.more ha.nil rfl) rfl) rfl) rfl) rfl) rfl) rfl) rfl) rfl)
    | false =>
     intro h; replace h := cF h
     refine WO.k2 rfl rfl rfl rfl (rn_fieldAddr Try.runUnderlying27 rfl Try.sizeOf25 rfl rfl) ?_
     have f191 := f162.stp (S170.tr S188) rfl rfl
     refine WO.k1 trivial rfl rfl rfl rfl (rn_ld Try.isAgg25 rfl rfl (hvE (f191.ld 3 rfl rfl))) ?_
     refine WO.k2 rfl rfl rfl rfl (rn_len Try.runUnderlying25 rfl rfl) ?_
     refine WO.k2 rfl rfl rfl rfl (rn_fieldAddr Try.runUnderlying27 rfl Try.sizeOf25 rfl rfl) ?_
     have f192 := f116.stp (S127.tr (S135.tr (S138.tr (S144.tr (S149.tr (S154.tr (S170.tr S188))))))) rfl rfl
     refine WO.k1 trivial rfl rfl rfl rfl (rn_ld Try.isAgg25 rfl rfl (hvE (f192.ld 3 rfl rfl))) ?_
     refine WO.k2 rfl rfl rfl rfl (rn_len Try.runUnderlying25 rfl rfl) ?_
     refine WO.pn 3 rfl ?_
     obtain rfl := Option.some.inj h
     exact WO.met _ trivial ⟨rfl, _, (Stp.refl _ _).wk rfl⟩ fun a ha => (ha.more (ha.more (ha.more (ha.more (ha.more (ha.more (ha.more (ha.more (ha.more ha.nil rfl) rfl) rfl) rfl) rfl) rfl) rfl) rfl) rfl)
   rintro _ w193 _ ⟨rfl, K194, S195⟩
   have h := hK189
   refine WO.pn 1 rfl ?_
   obtain ⟨p113, h, hK196⟩ := Option.bind_eq_some_iff.mp h
   refine WO.meet [(19, 2), (20, 1), (21, 2), (22, 2), (23, 1), (24, 2), (25, 2), (26, 2), (27, 2)] [] (fun L w' => L = [(3, .pointer (some ⟨b3, 0, none⟩)), (4, .int .i64 x27.2.1), (5, .int .i64 x27.2.2.1), (6, .int .i64 x27.2.2.2), (7, .pointer (some ⟨b7, 0, none⟩)), (8, .int .i64 x36.2), (9, .pointer (some ⟨b9, 0, none⟩)), (10, .int .i64 x44.2), (113, .bool p113)] ∧ ∃ κ', Stp [] K194 w193 κ' w') trivial ?_ ?_
   ·
    revert h
    cases ht197 : p103 with
    | true =>
     intro h; replace h := cT h
     refine WO.pn 1 rfl ?_
     refine WO.ls rfl rfl rfl rfl ?_
     refine WO.pn 2 rfl ?_
     refine WO.ls rfl rfl rfl rfl ?_
     refine WO.pn 4 rfl ?_
     obtain rfl := Option.some.inj h
     exact WO.met _ trivial ⟨rfl, _, (Stp.refl _ _).wk rfl⟩ fun a ha => (ha.more (ha.more (ha.more (ha.more (ha.more (ha.more (ha.more (ha.more (ha.more ha.nil rfl) rfl) rfl) rfl) rfl) rfl) rfl) rfl) rfl)
    | false =>
     intro h; replace h := cF h
     refine WO.k2 rfl rfl rfl rfl (rn_fieldAddr Try.runUnderlying27 rfl Try.sizeOf25 rfl rfl) ?_
     have f198 := f77.stp (S81.tr (S86.tr (S91.tr (S103.tr (S111.tr (S114.tr (S127.tr (S135.tr (S138.tr (S144.tr (S149.tr (S154.tr (S170.tr (S188.tr S195)))))))))))))) rfl rfl
     refine WO.k1 trivial rfl rfl rfl rfl (rn_ld Try.isAgg25 rfl rfl (hvE (f198.ld 3 rfl rfl))) ?_
     refine WO.k2 rfl rfl rfl rfl (rn_len Try.runUnderlying25 rfl rfl) ?_
     refine WO.k2 rfl rfl rfl rfl (rn_fieldAddr Try.runUnderlying27 rfl Try.sizeOf25 rfl rfl) ?_
     have f199 := f116.stp (S127.tr (S135.tr (S138.tr (S144.tr (S149.tr (S154.tr (S170.tr (S188.tr S195)))))))) rfl rfl
     refine WO.k1 trivial rfl rfl rfl rfl (rn_ld Try.isAgg25 rfl rfl (hvE (f199.ld 3 rfl rfl))) ?_
     refine WO.k2 rfl rfl rfl rfl (rn_len Try.runUnderlying25 rfl rfl) ?_
     refine WO.pn 3 rfl ?_
     obtain rfl := Option.some.inj h
     exact WO.met _ trivial ⟨rfl, _, (Stp.refl _ _).wk rfl⟩ fun a ha => (ha.more (ha.more (ha.more (ha.more (ha.more (ha.more (ha.more (ha.more (ha.more ha.nil rfl) rfl) rfl) rfl) rfl) rfl) rfl) rfl) rfl)
   rintro _ w200 _ ⟨rfl, K201, S202⟩
   have h := hK196
   refine WO.fin ?_
   refine DN.seq ?_
   revert h
   cases ht203 : p113 with
   | true =>
    intro h; replace h := cT h
    refine WC.ct rfl ?_
    refine WC.seq ?_
    refine WC.rs [(0, 2)] rfl ?_
    refine WO.pn 1 rfl ?_
    refine WO.fin ?_
    refine DN.seq ?_
    refine WC.ret ?_
    refine DN.retThen ?_
    have f204 := hE.stp (S5.tr (S18.tr (S26.tr (S29.tr (S41.tr (S49.tr (S52.tr (S65.tr (S73.tr (S76.tr (S81.tr (S86.tr (S91.tr (S103.tr (S111.tr (S114.tr (S127.tr (S135.tr (S138.tr (S144.tr (S149.tr (S154.tr (S170.tr (S188.tr (S195.tr S202))))))))))))))))))))))))) rfl rfl
    refine DN.res (l := [.tmp 2]) Try.results4 (res_tmp rfl rfl) rfl ?_
    obtain rfl := Option.some.inj h
    exact ⟨K201, rfl, f204⟩
   | false =>
    intro h; replace h := cF h
    refine WC.cf rfl ?_
    refine WC.skip ?_
    refine DN.seq ?_
    refine WC.seq ?_
    refine WC.rs [(0, 2), (1, 2), (2, 2), (3, 1), (4, 2), (5, 1)] rfl ?_
    refine WO.pn 3 rfl ?_
    refine WO.bl (κ := K201) (E := (Ep.int .i64)) 36 [] (parts := [(0, .tmp 114), (1, .tmp 115), (2, .tmp 116)]) (cells := [.int .i64 x27.2.2.1, .int .i64 x27.2.2.2, .int .i64 x27.2.1]) (xs := ([x27.2.2.1, x27.2.2.2, x27.2.1] : List Int)) rfl rfl rfl rfl rfl rfl Try.underlying24 Tryinfo2 rfl rfl rfl rfl rfl rfl rfl rfl rfl rfl ⟨[.int .i64 x27.2.2.1], [.int .i64 x27.2.2.2, .int .i64 x27.2.1], Zl K201 w200 [], Zl K201 w200 [], rfl, Zl.sp (l1 := []) (l2 := []) rfl, Zl.sr (l1 := []) (l2 := []), rfl, ⟨[.int .i64 x27.2.2.2], [.int .i64 x27.2.1], Zl K201 w200 [], Zl K201 w200 [], rfl, Zl.sp (l1 := []) (l2 := []) rfl, Zl.sr (l1 := []) (l2 := []), rfl, ⟨[.int .i64 x27.2.1], [], Zl K201 w200 [], Zl K201 w200 [], rfl, Zl.sp (l1 := []) (l2 := []) rfl, Zl.sr (l1 := []) (l2 := []), rfl, rfl⟩⟩⟩ fun a117 u117 w205 K206 S207 f208 => ⟨trivial, ?_⟩
    refine WO.k2 rfl rfl rfl rfl (rn_fieldAddr Try.runUnderlying27 rfl Try.sizeOf24 rfl rfl) ?_
    have f209 := f116.stp (S127.tr (S135.tr (S138.tr (S144.tr (S149.tr (S154.tr (S170.tr (S188.tr (S195.tr (S202.tr S207)))))))))) rfl rfl
    refine WO.stB (κ := K206) 9 (off := 4) (vc := [.slice a117 ([x27.2.2.1, x27.2.2.2, x27.2.1] : List Int).length u117]) (cs' := [.int .i64 x27.1.Inputs, .int .i64 x27.1.Latches, .slice a27_0 x27.1.Next.length u27_0, .slice a27_1 x27.1.Gates.length u27_1, .slice a117 ([x27.2.2.1, x27.2.2.2, x27.2.1] : List Int).length u117]) rfl rfl rfl rfl rfl rfl rfl Try.sizeOf24 rfl rfl f209 rfl rfl fun w210 S211 f212 => ⟨trivial, ?_⟩
    refine WO.fin ?_
    refine DN.seq ?_
    refine WC.seq ?_
    refine WC.rs [(0, 2), (1, 1), (2, 2), (3, 1)] rfl ?_
    refine WO.pn 1 rfl ?_
    refine WO.bl (κ := K206) (E := (Ep.int .i64)) 37 [] (parts := [(0, .tmp 119)]) (cells := [.int .i64 x36.2]) (xs := ([x36.2] : List Int)) rfl rfl rfl rfl rfl rfl Try.underlying24 Tryinfo2 rfl rfl rfl rfl rfl rfl rfl rfl rfl rfl ⟨[.int .i64 x36.2], [], Zl K206 w210 [], Zl K206 w210 [], rfl, Zl.sp (l1 := []) (l2 := []) rfl, Zl.sr (l1 := []) (l2 := []), rfl, rfl⟩ fun a120 u120 w213 K214 S215 f216 => ⟨trivial, ?_⟩
    refine WO.k2 rfl rfl rfl rfl (rn_fieldAddr Try.runUnderlying27 rfl Try.sizeOf24 rfl rfl) ?_
    have f217 := f162.stp (S170.tr (S188.tr (S195.tr (S202.tr (S207.tr (S211.tr S215)))))) rfl rfl
    refine WO.stB (κ := K214) 15 (off := 4) (vc := [.slice a120 ([x36.2] : List Int).length u120]) (cs' := [.int .i64 x36.1.Inputs, .int .i64 x36.1.Latches, .slice a36_0 x36.1.Next.length u36_0, .slice a36_1 x36.1.Gates.length u36_1, .slice a120 ([x36.2] : List Int).length u120]) rfl rfl rfl rfl rfl rfl rfl Try.sizeOf24 rfl rfl f217 rfl rfl fun w218 S219 f220 => ⟨trivial, ?_⟩
    refine WO.fin ?_
    refine DN.seq ?_
    refine WC.seq ?_
    refine WC.rs [(0, 2), (1, 1), (2, 2), (3, 1)] rfl ?_
    refine WO.pn 1 rfl ?_
    refine WO.bl (κ := K214) (E := (Ep.int .i64)) 38 [] (parts := [(0, .tmp 122)]) (cells := [.int .i64 x44.2]) (xs := ([x44.2] : List Int)) rfl rfl rfl rfl rfl rfl Try.underlying24 Tryinfo2 rfl rfl rfl rfl rfl rfl rfl rfl rfl rfl ⟨[.int .i64 x44.2], [], Zl K214 w218 [], Zl K214 w218 [], rfl, Zl.sp (l1 := []) (l2 := []) rfl, Zl.sr (l1 := []) (l2 := []), rfl, rfl⟩ fun a123 u123 w221 K222 S223 f224 => ⟨trivial, ?_⟩
    refine WO.k2 rfl rfl rfl rfl (rn_fieldAddr Try.runUnderlying27 rfl Try.sizeOf24 rfl rfl) ?_
    have f225 := f77.stp (S81.tr (S86.tr (S91.tr (S103.tr (S111.tr (S114.tr (S127.tr (S135.tr (S138.tr (S144.tr (S149.tr (S154.tr (S170.tr (S188.tr (S195.tr (S202.tr (S207.tr (S211.tr (S215.tr (S219.tr S223)))))))))))))))))))) rfl rfl
    refine WO.stB (κ := K222) 21 (off := 4) (vc := [.slice a123 ([x44.2] : List Int).length u123]) (cs' := [.int .i64 x44.1.Inputs, .int .i64 x44.1.Latches, .slice a44_0 x44.1.Next.length u44_0, .slice a44_1 x44.1.Gates.length u44_1, .slice a123 ([x44.2] : List Int).length u123]) rfl rfl rfl rfl rfl rfl rfl Try.sizeOf24 rfl rfl f225 rfl rfl fun w226 S227 f228 => ⟨trivial, ?_⟩
    refine WO.fin ?_
    refine DN.seq ?_
    refine WC.seq ?_
    refine WC.seq ?_
    refine WC.rs [(0, 2)] rfl ?_
    refine WO.pn 1 rfl ?_
    refine WO.fin ?_
    refine DN.seq ?_
    obtain ⟨q2, hq231, hK230⟩ := Option.bind_eq_some_iff.mp h
    clear h
    refine WC.meet (fun L w' => ∃ (κ' : Col), L = [] ∧ Stp [] K222 w226 κ' w' ∧ q2 = Sum.inr ()) ?_ ?_
    ·
     refine WC.block ?_
     refine WC.loop (fun k L w' => ∃ (κ' : Col) (v15 : Int), L = [(3, .pointer (some ⟨b3, 0, none⟩)), (7, .pointer (some ⟨b7, 0, none⟩)), (9, .pointer (some ⟨b9, 0, none⟩)), (15, .int .i64 v15)] ∧ Stp [] K222 w226 κ' w' ∧ 0 ≤ v15 ∧ Int.toNat (4 - v15) = k ∧ cntM (l_FnJoined_b0 x27 x36 x44) k v15 () = some q2) ⟨_, _, ⟨K222, 0, rfl, (Stp.refl _ _).wk rfl, (by decide), (by simp), hq231⟩, fun a ha => (ha.more (ha.more (ha.more (ha.more ha.nil rfl) rfl) rfl) rfl)⟩ ?_
     rintro k _ w235 ⟨K236, v15, rfl, S237, hj229, hJ229, h⟩
     rcases k with _ | k
     ·
      have hk238 := h; obtain ⟨o229, h⟩ := ex_eq (Sum.inr (Sum.inl ()) : Bool ⊕ ((Unit) ⊕ (Unit)))
      have hc229 : decide (v15 < 4) = false := decide_eq_false (by omega)
      refine WC.seq ?_
      refine WC.seq ?_
      refine WC.rs [(0, 2), (1, 2)] rfl ?_
      refine WO.pn 2 rfl ?_
      refine WO.fin ?_
      refine DN.seq ?_
      refine WC.cf' rfl hc229 ?_
      refine WC.exit ?_
      refine DN.exitThen ?_
      refine DN.exitThen ?_
      obtain rfl := Option.some.inj h
      have h := hk238
      refine DN.hit ?_
      obtain rfl := Option.some.inj h
      exact DN.meet _ ⟨K236, rfl, S237.wk rfl, rfl⟩ fun a ha => ha.nil
     ·
      obtain ⟨o229, h, hk238⟩ := Option.bind_eq_some_iff.mp h; unfold l_FnJoined_b0 at h
      have hc229 : decide (v15 < 4) = true := decide_eq_true (by omega)
      refine WC.seq ?_
      refine WC.seq ?_
      refine WC.rs [(0, 2), (1, 2)] rfl ?_
      refine WO.pn 2 rfl ?_
      refine WO.fin ?_
      refine DN.seq ?_
      refine WC.ct' rfl hc229 ?_
      refine WC.skip ?_
      refine DN.seq ?_
      refine WC.seq ?_
      refine WC.block ?_
      refine WC.seq ?_
      refine WC.rs [(0, 1), (1, 2), (2, 1), (3, 2), (4, 2), (5, 2), (6, 2), (7, 2)] rfl ?_
      have f239 := f212.stp (S215.tr (S219.tr (S223.tr (S227.tr S237)))) rfl rfl
      refine WO.k1 trivial rfl rfl rfl rfl (rn_la (cs := [.int .i64 x27.1.Inputs, .int .i64 x27.1.Latches, .slice a27_0 x27.1.Next.length u27_0, .slice a27_1 x27.1.Gates.length u27_1, .slice a117 ([x27.2.2.1, x27.2.2.2, x27.2.1] : List Int).length u117]) Try.isAgg27 Try.sizeOf27 rfl rfl rfl (haE f239.cells)) ?_
      refine WO.pn 1 rfl ?_
      obtain ⟨x132, hx132, h⟩ := Option.bind_eq_some_iff.mp h
      have f240 := f117.stp (S127.tr (S135.tr (S138.tr (S144.tr (S149.tr (S154.tr (S170.tr (S188.tr (S195.tr (S202.tr (S207.tr (S211.tr (S215.tr (S219.tr (S223.tr (S227.tr S237)))))))))))))))) rfl rfl
      have f241 := f118.stp (S127.tr (S135.tr (S138.tr (S144.tr (S149.tr (S154.tr (S170.tr (S188.tr (S195.tr (S202.tr (S207.tr (S211.tr (S215.tr (S219.tr (S223.tr (S227.tr S237)))))))))))))))) rfl rfl
      have f242 := f208.stp (S211.tr (S215.tr (S219.tr (S223.tr (S227.tr S237))))) rfl rfl
      refine WO.call rfl rfl rfl rfl rfl rfl Try.call13 (s_StepOf_ok (κ := fun b => mp [] 0 (K236 b)) (p0 := (⟨x27.1.Inputs, x27.1.Latches, x27.1.Next, x27.1.Gates, ([x27.2.2.1, x27.2.2.2, x27.2.1] : List Int)⟩ : Circuit)) (Sl.map f240 (mp [] 0) rfl rfl) (Sl.map f241 (mp [] 0) rfl rfl) (Sl.map f242.rdc (mp [] 0) rfl rfl) hx132) ?_
      rintro _ w243 ⟨k244, rfl, e245⟩
      obtain ⟨K246, S247, m248⟩ := Ent.mixed (l := []) (κ := K236) e245 39 rfl
      refine ⟨trivial, ?_⟩
      refine WO.pn 5 rfl ?_
      refine WO.fin ?_
      refine DN.seq ?_
      refine WC.seq ?_
      refine WC.rs [(0, 1), (1, 2), (2, 1), (3, 2), (4, 2), (5, 2), (6, 2), (7, 2)] rfl ?_
      have f250 := f220.stp (S223.tr (S227.tr (S237.tr S247))) rfl rfl
      refine WO.k1 trivial rfl rfl rfl rfl (rn_la (cs := [.int .i64 x36.1.Inputs, .int .i64 x36.1.Latches, .slice a36_0 x36.1.Next.length u36_0, .slice a36_1 x36.1.Gates.length u36_1, .slice a120 ([x36.2] : List Int).length u120]) Try.isAgg27 Try.sizeOf27 rfl rfl rfl (haE f250.cells)) ?_
      refine WO.pn 1 rfl ?_
      obtain ⟨x138, hx138, h⟩ := Option.bind_eq_some_iff.mp h
      have f251 := f163.stp (S170.tr (S188.tr (S195.tr (S202.tr (S207.tr (S211.tr (S215.tr (S219.tr (S223.tr (S227.tr (S237.tr S247))))))))))) rfl rfl
      have f252 := f164.stp (S170.tr (S188.tr (S195.tr (S202.tr (S207.tr (S211.tr (S215.tr (S219.tr (S223.tr (S227.tr (S237.tr S247))))))))))) rfl rfl
      have f253 := f216.stp (S219.tr (S223.tr (S227.tr (S237.tr S247)))) rfl rfl
      refine WO.call rfl rfl rfl rfl rfl rfl Try.call12 (i_StepOf_ok (κ := fun b => mp [] 0 (K246 b)) (p0 := (⟨x36.1.Inputs, x36.1.Latches, x36.1.Next, x36.1.Gates, ([x36.2] : List Int)⟩ : Circuit)) (Sl.map f251.rdc (mp [] 0) rfl rfl) (Sl.map f252.rdc (mp [] 0) rfl rfl) (Sl.map f253.rdc (mp [] 0) rfl rfl) hx138) ?_
      rintro _ w254 ⟨k255, rfl, e256⟩
      obtain ⟨K257, S258, m259⟩ := Ent.mixed (l := []) (κ := K246) e256 41 rfl
      refine ⟨trivial, ?_⟩
      refine WO.pn 5 rfl ?_
      refine WO.fin ?_
      refine DN.seq ?_
      refine WC.seq ?_
      refine WC.rs [(0, 1), (1, 2), (2, 1), (3, 2), (4, 2), (5, 2), (6, 2), (7, 2)] rfl ?_
      have f261 := f228.stp (S237.tr (S247.tr S258)) rfl rfl
      refine WO.k1 trivial rfl rfl rfl rfl (rn_la (cs := [.int .i64 x44.1.Inputs, .int .i64 x44.1.Latches, .slice a44_0 x44.1.Next.length u44_0, .slice a44_1 x44.1.Gates.length u44_1, .slice a123 ([x44.2] : List Int).length u123]) Try.isAgg27 Try.sizeOf27 rfl rfl rfl (haE f261.cells)) ?_
      refine WO.pn 1 rfl ?_
      obtain ⟨x144, hx144, h⟩ := Option.bind_eq_some_iff.mp h
      have f262 := f68.stp (S73.tr (S76.tr (S81.tr (S86.tr (S91.tr (S103.tr (S111.tr (S114.tr (S127.tr (S135.tr (S138.tr (S144.tr (S149.tr (S154.tr (S170.tr (S188.tr (S195.tr (S202.tr (S207.tr (S211.tr (S215.tr (S219.tr (S223.tr (S227.tr (S237.tr (S247.tr S258)))))))))))))))))))))))))) rfl rfl
      have f263 := f69.stp (S73.tr (S76.tr (S81.tr (S86.tr (S91.tr (S103.tr (S111.tr (S114.tr (S127.tr (S135.tr (S138.tr (S144.tr (S149.tr (S154.tr (S170.tr (S188.tr (S195.tr (S202.tr (S207.tr (S211.tr (S215.tr (S219.tr (S223.tr (S227.tr (S237.tr (S247.tr S258)))))))))))))))))))))))))) rfl rfl
      have f264 := f224.stp (S227.tr (S237.tr (S247.tr S258))) rfl rfl
      refine WO.call rfl rfl rfl rfl rfl rfl Try.call12 (i_StepOf_ok (κ := fun b => mp [] 0 (K257 b)) (p0 := (⟨x44.1.Inputs, x44.1.Latches, x44.1.Next, x44.1.Gates, ([x44.2] : List Int)⟩ : Circuit)) (Sl.map f262.rdc (mp [] 0) rfl rfl) (Sl.map f263.rdc (mp [] 0) rfl rfl) (Sl.map f264.rdc (mp [] 0) rfl rfl) hx144) ?_
      rintro _ w265 ⟨k266, rfl, e267⟩
      obtain ⟨K268, S269, m270⟩ := Ent.mixed (l := []) (κ := K257) e267 43 rfl
      refine ⟨trivial, ?_⟩
      refine WO.pn 5 rfl ?_
      refine WO.fin ?_
      refine DN.seq ?_
      refine WC.seq ?_
      refine WC.seq ?_
      refine WC.rs [(0, 2), (1, 2)] rfl ?_
      refine WO.pn 2 rfl ?_
      refine WO.fin ?_
      refine DN.seq ?_
      revert h
      cases ht272 : decide (x132.2 < 0) with
      | true =>
       intro h; replace h := cT h
       refine WC.ct rfl ?_
       refine WC.exit ?_
       refine DN.exitThen ?_
       refine DN.hit ?_
       refine DN.seq ?_
       refine WC.rs [(0, 2), (1, 2), (2, 2)] rfl ?_
       refine WO.pn 3 rfl ?_
       refine WO.fin ?_
       have hw229 : IntKind.wrap .i64 (v15 + 1) = v15 + 1 := wr1 hj229 (of_decide_eq_true hc229) (by decide)
       rw [hw229]
       have hc229 := of_decide_eq_true hc229
       obtain rfl := Option.some.inj h
       refine DN.round fun a ha => ?_
       exact ⟨k, _, Nat.lt_succ_self _, ⟨K268, v15 + 1, rfl, (S237.tr (S247.tr (S258.tr S269))).wk rfl, by omega, by omega, hk238⟩, (ha.more (ha.more (ha.more (ha.more ha.nil rfl) rfl) rfl) rfl)⟩
      | false =>
       intro h; replace h := cF h
       refine WC.cf rfl ?_
       refine WC.skip ?_
       refine DN.seq ?_
       refine WC.seq ?_
       refine WC.rs [(0, 2), (1, 2), (2, 2)] rfl ?_
       refine WO.pn 1 rfl ?_
       refine WO.k2 rfl rfl rfl rfl (rn_rem rfl rfl rfl (by decide)) ?_
       refine WO.pn 1 rfl ?_
       refine WO.fin ?_
       refine DN.seq ?_
       refine WC.seq ?_
       refine WC.seq ?_
       refine WC.rs [(0, 2), (1, 2), (2, 2)] rfl ?_
       refine WO.pn 1 rfl ?_
       refine WO.k2 rfl rfl rfl rfl (rn_quo rfl rfl rfl (by decide)) ?_
       refine WO.pn 1 rfl ?_
       refine WO.fin ?_
       refine DN.seq ?_
       obtain ⟨q4, h, hK273⟩ := Option.bind_eq_some_iff.mp h
       refine WC.meet (fun L w' => ∃ (κ' : Col), L = [(3, .pointer (some ⟨b3, 0, none⟩)), (7, .pointer (some ⟨b7, 0, none⟩)), (9, .pointer (some ⟨b9, 0, none⟩)), (15, .int .i64 v15), (17, .int .i64 x132.2), (19, .int .i64 x138.2), (21, .int .i64 x144.2), (22, .int .i64 q4)] ∧ Stp [] K268 w265 κ' w') ?_ ?_
       ·
        revert h
        cases ht277 : ((IntKind.i64.wrap (Int.tdiv x132.2 4)) == 0) with
        | true =>
         intro h; replace h := cT h
         refine WC.ct rfl ?_
         refine WC.rs [(0, 2), (1, 2), (2, 2), (3, 2)] rfl ?_
         refine WO.pn 1 rfl ?_
         refine WO.k2 rfl rfl rfl rfl (rn_quo rfl rfl rfl (by decide)) ?_
         refine WO.k2 rfl rfl rfl rfl (rn_rem rfl rfl rfl (by decide)) ?_
         refine WO.pn 1 rfl ?_
         refine WO.fin ?_
         obtain rfl := Option.some.inj h
         exact DN.meet _ ⟨K268, rfl, (Stp.refl _ _).wk rfl⟩ fun a ha => (ha.more (ha.more (ha.more (ha.more (ha.more (ha.more (ha.more (ha.more ha.nil rfl) rfl) rfl) rfl) rfl) rfl) rfl) rfl)
        | false =>
         intro h; replace h := cF h
         refine WC.cf rfl ?_
         refine WC.skip ?_
         obtain rfl := Option.some.inj h
         exact DN.meet _ ⟨K268, rfl, (Stp.refl _ _).wk rfl⟩ fun a ha => (ha.more (ha.more (ha.more (ha.more (ha.more (ha.more (ha.more (ha.more ha.nil rfl) rfl) rfl) rfl) rfl) rfl) rfl) rfl)
       rintro _ w274 ⟨K275, rfl, S276⟩
       have h := hK273
       refine DN.seq ?_
       refine WC.seq ?_
       refine WC.rs [(0, 2), (1, 2), (2, 2), (3, 2), (4, 2), (5, 2), (6, 2), (7, 2), (8, 2), (9, 2), (10, 2), (11, 2), (12, 2)] rfl ?_
       refine WO.pn 2 rfl ?_
       refine WO.k2 rfl rfl rfl rfl (rn_rem rfl rfl rfl (by decide)) ?_
       refine WO.pn 1 rfl ?_
       refine WO.k2 rfl rfl rfl rfl (rn_quo rfl rfl rfl (by decide)) ?_
       refine WO.k2 rfl rfl rfl rfl (rn_rem rfl rfl rfl (by decide)) ?_
       refine WO.pn 3 rfl ?_
       obtain ⟨p169, h, hK278⟩ := Option.bind_eq_some_iff.mp h
       refine WO.meet [(9, 2), (10, 2), (11, 2), (12, 2)] [] (fun L w' => L = [(3, .pointer (some ⟨b3, 0, none⟩)), (7, .pointer (some ⟨b7, 0, none⟩)), (9, .pointer (some ⟨b9, 0, none⟩)), (15, .int .i64 v15), (169, .bool p169)] ∧ ∃ κ', Stp [] K275 w274 κ' w') trivial ?_ ?_
       ·
        revert h
        cases ht279 : (x138.2 != (IntKind.i64.wrap ((Int.tmod x132.2 2) * (Int.tmod (IntKind.i64.wrap (Int.tdiv x132.2 2)) 2)))) with
        | true =>
         intro h; replace h := cT h
         refine WO.pn 4 rfl ?_
         obtain rfl := Option.some.inj h
         exact WO.met _ trivial ⟨rfl, _, (Stp.refl _ _).wk rfl⟩ fun a ha => (ha.more (ha.more (ha.more (ha.more (ha.more ha.nil rfl) rfl) rfl) rfl) rfl)
        | false =>
         intro h; replace h := cF h
         refine WO.pn 4 rfl ?_
         obtain rfl := Option.some.inj h
         exact WO.met _ trivial ⟨rfl, _, (Stp.refl _ _).wk rfl⟩ fun a ha => (ha.more (ha.more (ha.more (ha.more (ha.more ha.nil rfl) rfl) rfl) rfl) rfl)
       rintro _ w280 _ ⟨rfl, K281, S282⟩
       have h := hK278
       refine WO.fin ?_
       refine DN.seq ?_
       revert h
       cases ht283 : p169 with
       | true =>
        intro h; replace h := cT h
        refine WC.ct rfl ?_
        refine WC.seq ?_
        refine WC.rs [(0, 2)] rfl ?_
        refine WO.pn 1 rfl ?_
        refine WO.fin ?_
        refine DN.seq ?_
        refine WC.ret ?_
        refine DN.retBlock ?_
        refine DN.retThen ?_
        refine DN.retThen ?_
        obtain rfl := Option.some.inj h
        obtain rfl := Option.some.inj hk238
        have h := hK230
        dsimp only [aft] at h
        refine DN.retBlock ?_
        refine DN.retMeet ?_
        refine DN.retThen ?_
        have f284 := hE.stp (S5.tr (S18.tr (S26.tr (S29.tr (S41.tr (S49.tr (S52.tr (S65.tr (S73.tr (S76.tr (S81.tr (S86.tr (S91.tr (S103.tr (S111.tr (S114.tr (S127.tr (S135.tr (S138.tr (S144.tr (S149.tr (S154.tr (S170.tr (S188.tr (S195.tr (S202.tr (S207.tr (S211.tr (S215.tr (S219.tr (S223.tr (S227.tr (S237.tr (S247.tr (S258.tr (S269.tr (S276.tr S282))))))))))))))))))))))))))))))))))))) rfl rfl
        refine DN.res (l := [.tmp 2]) Try.results4 (res_tmp rfl rfl) rfl ?_
        obtain rfl := Option.some.inj h
        exact ⟨K281, rfl, f284⟩
       | false =>
        intro h; replace h := cF h
        refine WC.cf rfl ?_
        refine WC.skip ?_
        refine DN.block ?_
        refine DN.seq ?_
        refine WC.rs [(0, 2), (1, 2), (2, 2)] rfl ?_
        refine WO.pn 3 rfl ?_
        refine WO.fin ?_
        have hw229 : IntKind.wrap .i64 (v15 + 1) = v15 + 1 := wr1 hj229 (of_decide_eq_true hc229) (by decide)
        rw [hw229]
        have hc229 := of_decide_eq_true hc229
        obtain rfl := Option.some.inj h
        refine DN.round fun a ha => ?_
        exact ⟨k, _, Nat.lt_succ_self _, ⟨K281, v15 + 1, rfl, (S237.tr (S247.tr (S258.tr (S269.tr (S276.tr S282))))).wk rfl, by omega, by omega, hk238⟩, (ha.more (ha.more (ha.more (ha.more ha.nil rfl) rfl) rfl) rfl)⟩
    rintro _ w232 ⟨K233, rfl, S234, rfl⟩
    have h := hK230
    dsimp only [aft] at h
    refine DN.seq ?_
    refine WC.seq ?_
    refine WC.rs [(0, 2)] rfl ?_
    refine WO.pn 1 rfl ?_
    refine WO.fin ?_
    refine DN.seq ?_
    refine WC.ret ?_
    have f285 := hE.stp (S5.tr (S18.tr (S26.tr (S29.tr (S41.tr (S49.tr (S52.tr (S65.tr (S73.tr (S76.tr (S81.tr (S86.tr (S91.tr (S103.tr (S111.tr (S114.tr (S127.tr (S135.tr (S138.tr (S144.tr (S149.tr (S154.tr (S170.tr (S188.tr (S195.tr (S202.tr (S207.tr (S211.tr (S215.tr (S219.tr (S223.tr (S227.tr S234)))))))))))))))))))))))))))))))) rfl rfl
    refine DN.res (l := [.tmp 2]) Try.results4 (res_tmp rfl rfl) rfl ?_
    obtain rfl := Option.some.inj h
    exact ⟨K233, rfl, f285⟩

end Go.Proofs.Ythjkonkcdfdfaaa
