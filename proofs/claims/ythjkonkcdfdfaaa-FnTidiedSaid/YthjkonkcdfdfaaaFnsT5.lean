/- The walks, part 5. By program. -/
import Derived.Test.YthjkonkcdfdfaaaFnsT3
import Derived.Test.YthjkonkcdfdfaaaFnsT4
set_option linter.unusedVariables false
set_option linter.unusedSimpArgs false
namespace Go.Proofs.Ythjkonkcdfdfaaa
open Go Go.Wk Go.Proofs
set_option maxRecDepth 100000
set_option maxHeartbeats 1000000

/- loop.example/g00869/spec.l1Num -/
theorem s_l1Num_ok {w : World} {κ : Col} {a0_0 : Option Addr} {u0_0 : Nat} {p0 : l1Cur} {p1 : Int} {b0 : Nat} (g0_0 : Rd (Rp.int .u8) κ w 0 a0_0 u0_0 p0.b) (gb0 : Bc κ w 2 b0 89 [.slice a0_0 p0.b.length u0_0, .int .i64 p0.i, .int .i64 p0.h]) {r : Int × Int × Int} (h : s_l1Num p0 p1 = some r) : Ret Try.prog 66 [.pointer (some ⟨b0, 0, none⟩), .int .i64 p1] w (fun v w' => ∃ (κ' : Col), v = .int .i64 r.1 ∧ Ent κ w κ' w' ∧ Bc κ' w' 2 b0 89 [.slice a0_0 p0.b.length u0_0, .int .i64 r.2.1, .int .i64 r.2.2]) := by
 unfold s_l1Num at h
 refine Ret.enter Try.func66 rfl Try.ntmps66 rfl ?_
 dsimp only [envOf]
 have hE := Ent.refl κ w
 refine WC.seq ?_
 refine WC.rs [(0, 2)] rfl ?_
 refine WO.pn 1 rfl ?_
 refine WO.fin ?_
 refine DN.seq ?_
 refine WC.seq ?_
 refine WC.seq ?_
 refine WC.rs [(0, 2), (1, 1)] rfl ?_
 refine WO.pn 1 rfl ?_
 obtain ⟨x6, hx6, h⟩ := Option.bind_eq_some_iff.mp h
 refine WO.call rfl rfl rfl rfl rfl rfl Try.call64 (s_l1Once_ok (κ := fun b => mp [(2, 2)] 0 (κ b)) (p0 := p0) (Sl.map g0_0 (mp [(2, 2)] 0) rfl rfl) (gb0.map (mp [(2, 2)] 0) rfl rfl) hx6) ?_
 rintro _ w1 ⟨k2, rfl, e3, f4⟩
 obtain ⟨K5, S6, m7⟩ := Ent.mixed (l := [(2, 2)]) (κ := κ) e3 3 rfl
 refine ⟨trivial, ?_⟩
 have f9 := f4.mx m7 rfl (rfl : 3 + 2 = 5)
 refine WO.fin ?_
 refine DN.seq ?_
 revert h
 cases ht10 : x6.1 with
 | true =>
  intro h; replace h := cT h
  refine WC.ct rfl ?_
  refine WC.seq ?_
  refine WC.rs [(0, 2), (1, 2), (2, 2), (3, 2), (4, 1), (5, 1), (6, 2), (7, 1), (8, 2), (9, 1), (10, 2)] rfl ?_
  refine WO.pn 4 rfl ?_
  obtain ⟨x11, hx11, h⟩ := Option.bind_eq_some_iff.mp h
  have f11 := g0_0.stp S6 rfl rfl
  refine WO.call rfl rfl rfl rfl rfl rfl Try.call83 (s_l1Odd_ok (κ := fun b => mp [(5, 2)] 0 (K5 b)) (p0 := (⟨p0.b, x6.2.1, x6.2.2⟩ : l1Cur)) (Sl.map f11 (mp [(5, 2)] 0) rfl rfl) (f9.map (mp [(5, 2)] 0) rfl rfl) hx11) ?_
  rintro _ w12 ⟨k13, rfl, e14, f15⟩
  obtain ⟨K16, S17, m18⟩ := Ent.mixed (l := [(5, 2)]) (κ := K5) e14 6 rfl
  refine ⟨trivial, ?_⟩
  have f20 := f15.mx m18 rfl (rfl : 6 + 2 = 8)
  refine WO.bl (κ := K16) (E := (Ep.int .i64)) 9 [] (parts := [(0, .const (.int .i64 (-1))), (1, .tmp 7), (2, .tmp 9), (3, .tmp 11)]) (cells := [.int .i64 (-1), .int .i64 p1, .int .i64 (IntKind.i64.wrap (p1 + 1)), .int .i64 x11.1]) (xs := ([(-1), p1, (IntKind.i64.wrap (p1 + 1)), x11.1] : List Int)) rfl rfl rfl rfl rfl rfl Try.underlying24 Tryinfo2 rfl rfl rfl rfl rfl rfl rfl rfl rfl rfl ⟨[.int .i64 (-1)], [.int .i64 p1, .int .i64 (IntKind.i64.wrap (p1 + 1)), .int .i64 x11.1], Zl K16 w12 [], Zl K16 w12 [], rfl, Zl.sp (l1 := []) (l2 := []) rfl, Zl.sr (l1 := []) (l2 := []), rfl, ⟨[.int .i64 p1], [.int .i64 (IntKind.i64.wrap (p1 + 1)), .int .i64 x11.1], Zl K16 w12 [], Zl K16 w12 [], rfl, Zl.sp (l1 := []) (l2 := []) rfl, Zl.sr (l1 := []) (l2 := []), rfl, ⟨[.int .i64 (IntKind.i64.wrap (p1 + 1))], [.int .i64 x11.1], Zl K16 w12 [], Zl K16 w12 [], rfl, Zl.sp (l1 := []) (l2 := []) rfl, Zl.sr (l1 := []) (l2 := []), rfl, ⟨[.int .i64 x11.1], [], Zl K16 w12 [], Zl K16 w12 [], rfl, Zl.sp (l1 := []) (l2 := []) rfl, Zl.sr (l1 := []) (l2 := []), rfl, rfl⟩⟩⟩⟩ fun a12 u12 w21 K22 S23 f24 => ⟨trivial, ?_⟩
  refine WO.pn 1 rfl ?_
  obtain ⟨x14, hx14, h⟩ := Option.bind_eq_some_iff.mp h
  have f25 := f11.stp (S17.tr S23) rfl rfl
  have f26 := f20.stp S23 rfl rfl
  refine WO.call rfl rfl rfl rfl rfl rfl Try.call65 (s_l1Below_ok (κ := fun b => mp [(8, 2)] 0 (K22 b)) (p0 := (⟨p0.b, x11.2.1, x11.2.2⟩ : l1Cur)) (Sl.map f25 (mp [(8, 2)] 0) rfl rfl) (f26.map (mp [(8, 2)] 0) rfl rfl) hx14) ?_
  rintro _ w27 ⟨k28, rfl, e29, f30⟩
  obtain ⟨K31, S32, m33⟩ := Ent.mixed (l := [(8, 2)]) (κ := K22) e29 10 rfl
  refine ⟨trivial, ?_⟩
  have f35 := f30.mx m33 rfl (rfl : 10 + 2 = 12)
  obtain ⟨x15, hx15, h⟩ := Option.bind_eq_some_iff.mp h
  refine WO.k2 rfl rfl rfl rfl (rn_index f24.rdc hx15 Try.runUnderlying24 Try.sizeOf2 rfl rfl rfl rfl) ?_
  have f36 := f24.stp S32 rfl rfl
  refine WO.k1 trivial rfl rfl rfl rfl (rn_ld Try.isAgg2 rfl rfl (hvE (f36.rdc.gInt hx15))) ?_
  refine WO.pn 1 rfl ?_
  refine WO.fin ?_
  refine DN.seq ?_
  refine WC.ret ?_
  refine DN.retThen ?_
  have f37 := hE.stp (S6.tr (S17.tr (S23.tr S32))) rfl rfl
  refine DN.res (l := [.tmp 4]) Try.results66 (res_tmp rfl rfl) rfl ?_
  obtain rfl := Option.some.inj h
  exact ⟨(fun b => ren [(12, 2)] (K31 b)), rfl, (f37.map (ren [(12, 2)]) rfl rfl), (f35.map (ren [(12, 2)]) rfl rfl)⟩
 | false =>
  intro h; replace h := cF h
  refine WC.cf rfl ?_
  refine WC.skip ?_
  refine DN.seq ?_
  refine WC.seq ?_
  refine WC.seq ?_
  refine WC.rs [(0, 2), (1, 1)] rfl ?_
  refine WO.pn 1 rfl ?_
  obtain ⟨x18, hx18, h⟩ := Option.bind_eq_some_iff.mp h
  have f38 := g0_0.stp S6 rfl rfl
  refine WO.call rfl rfl rfl rfl rfl rfl Try.call64 (s_l1Once_ok (κ := fun b => mp [(5, 2)] 0 (K5 b)) (p0 := (⟨p0.b, x6.2.1, x6.2.2⟩ : l1Cur)) (Sl.map f38 (mp [(5, 2)] 0) rfl rfl) (f9.map (mp [(5, 2)] 0) rfl rfl) hx18) ?_
  rintro _ w39 ⟨k40, rfl, e41, f42⟩
  obtain ⟨K43, S44, m45⟩ := Ent.mixed (l := [(5, 2)]) (κ := K5) e41 6 rfl
  refine ⟨trivial, ?_⟩
  have f47 := f42.mx m45 rfl (rfl : 6 + 2 = 8)
  refine WO.fin ?_
  refine DN.seq ?_
  revert h
  cases ht48 : x18.1 with
  | true =>
   intro h; replace h := cT h
   refine WC.ct rfl ?_
   refine WC.seq ?_
   refine WC.rs [(0, 2), (1, 2), (2, 1), (3, 2), (4, 1), (5, 2)] rfl ?_
   refine WO.pn 2 rfl ?_
   obtain ⟨x21, hx21, h⟩ := Option.bind_eq_some_iff.mp h
   refine WO.call rfl rfl rfl rfl rfl rfl Try.call74 (s_l1Min_ok (κ := fun b => mp [] 0 (K43 b)) hx21) ?_
   rintro _ w49 ⟨k50, rfl, e51⟩
   obtain ⟨K52, S53, m54⟩ := Ent.mixed (l := []) (κ := K43) e51 9 rfl
   refine ⟨trivial, ?_⟩
   refine WO.pn 1 rfl ?_
   obtain ⟨x23, hx23, h⟩ := Option.bind_eq_some_iff.mp h
   have f56 := f38.stp (S44.tr S53) rfl rfl
   have f57 := f47.stp S53 rfl rfl
   refine WO.call rfl rfl rfl rfl rfl rfl Try.call65 (s_l1Below_ok (κ := fun b => mp [(8, 2)] 0 (K52 b)) (p0 := (⟨p0.b, x18.2.1, x18.2.2⟩ : l1Cur)) (Sl.map f56 (mp [(8, 2)] 0) rfl rfl) (f57.map (mp [(8, 2)] 0) rfl rfl) hx23) ?_
   rintro _ w58 ⟨k59, rfl, e60, f61⟩
   obtain ⟨K62, S63, m64⟩ := Ent.mixed (l := [(8, 2)]) (κ := K52) e60 11 rfl
   refine ⟨trivial, ?_⟩
   have f66 := f61.mx m64 rfl (rfl : 11 + 2 = 13)
   refine WO.pn 1 rfl ?_
   refine WO.fin ?_
   refine DN.seq ?_
   refine WC.ret ?_
   refine DN.retThen ?_
   have f67 := hE.stp (S6.tr (S44.tr (S53.tr S63))) rfl rfl
   refine DN.res (l := [.tmp 4]) Try.results66 (res_tmp rfl rfl) rfl ?_
   obtain rfl := Option.some.inj h
   exact ⟨(fun b => ren [(13, 2)] (K62 b)), rfl, (f67.map (ren [(13, 2)]) rfl rfl), (f66.map (ren [(13, 2)]) rfl rfl)⟩
  | false =>
   intro h; replace h := cF h
   refine WC.cf rfl ?_
   refine WC.skip ?_
   refine DN.seq ?_
   refine WC.seq ?_
   refine WC.rs [(0, 2), (1, 2), (2, 2), (3, 1), (4, 2)] rfl ?_
   refine WO.pn 3 rfl ?_
   obtain ⟨x27, hx27, h⟩ := Option.bind_eq_some_iff.mp h
   have f68 := f38.stp S44 rfl rfl
   refine WO.call rfl rfl rfl rfl rfl rfl Try.call65 (s_l1Below_ok (κ := fun b => mp [(8, 2)] 0 (K43 b)) (p0 := (⟨p0.b, x18.2.1, x18.2.2⟩ : l1Cur)) (Sl.map f68 (mp [(8, 2)] 0) rfl rfl) (f47.map (mp [(8, 2)] 0) rfl rfl) hx27) ?_
   rintro _ w69 ⟨k70, rfl, e71, f72⟩
   obtain ⟨K73, S74, m75⟩ := Ent.mixed (l := [(8, 2)]) (κ := K43) e71 9 rfl
   refine ⟨trivial, ?_⟩
   have f77 := f72.mx m75 rfl (rfl : 9 + 2 = 11)
   refine WO.pn 1 rfl ?_
   refine WO.fin ?_
   refine DN.seq ?_
   refine WC.ret ?_
   have f78 := hE.stp (S6.tr (S44.tr S74)) rfl rfl
   refine DN.res (l := [.tmp 4]) Try.results66 (res_tmp rfl rfl) rfl ?_
   obtain rfl := Option.some.inj h
   exact ⟨(fun b => ren [(11, 2)] (K73 b)), rfl, (f78.map (ren [(11, 2)]) rfl rfl), (f77.map (ren [(11, 2)]) rfl rfl)⟩

/- loop.example/g00869/spec.l31DrawAny -/
theorem s_l31DrawAny_ok {w : World} {κ : Col} {a0_0 : Option Addr} {u0_0 : Nat} {p0 : l1Cur} {b0 : Nat} (g0_0 : Rd (Rp.int .u8) κ w 0 a0_0 u0_0 p0.b) (gb0 : Bc κ w 2 b0 89 [.slice a0_0 p0.b.length u0_0, .int .i64 p0.i, .int .i64 p0.h]) {r : Circuit × Int × Int} (h : s_l31DrawAny p0 = some r) : Ret Try.prog 30 [.pointer (some ⟨b0, 0, none⟩)] w (fun v w' => ∃ (κ' : Col) (ra0 : Option Addr) (ru0 : Nat) (ra1 : Option Addr) (ru1 : Nat) (ra2 : Option Addr) (ru2 : Nat), v = .agg #[.int .i64 r.1.Inputs, .int .i64 r.1.Latches, .slice ra0 r.1.Next.length ru0, .slice ra1 r.1.Gates.length ru1, .slice ra2 r.1.Outs.length ru2] ∧ Ent κ w κ' w' ∧ Oc (Ep.int .i64) 2 κ' w' 3 ra0 ru0 r.1.Next ∧ Oc Gate.ep33 33 κ' w' 4 ra1 ru1 r.1.Gates ∧ Oc (Ep.int .i64) 2 κ' w' 5 ra2 ru2 r.1.Outs ∧ Bc κ' w' 2 b0 89 [.slice a0_0 p0.b.length u0_0, .int .i64 r.2.1, .int .i64 r.2.2]) := by
 unfold s_l31DrawAny at h
 refine Ret.enter Try.func30 rfl Try.ntmps30 rfl ?_
 dsimp only [envOf]
 have hE := Ent.refl κ w
 refine WC.seq ?_
 refine WC.rs [(0, 1)] rfl ?_
 refine WO.alloc (κ := κ) 3 rfl rfl rfl rfl rfl Try.zeroValue27 rfl fun b2 w1 K2 S3 f4 => ⟨trivial, ?_⟩
 refine WO.fin ?_
 refine DN.seq ?_
 refine WC.seq ?_
 refine WC.rs [(0, 2), (1, 1), (2, 1), (3, 1)] rfl ?_
 refine WO.pn 1 rfl ?_
 obtain ⟨x5, hx5, h⟩ := Option.bind_eq_some_iff.mp h
 have f5 := g0_0.stp S3 rfl rfl
 have f6 := gb0.stp S3 rfl rfl
 refine WO.call rfl rfl rfl rfl rfl rfl Try.call63 (s_l31Draw_ok (κ := fun b => mp [(2, 2)] 0 (K2 b)) (p0 := p0) (Sl.map f5 (mp [(2, 2)] 0) rfl rfl) (f6.map (mp [(2, 2)] 0) rfl rfl) hx5) ?_
 rintro _ w7 ⟨k8, a5_0, u5_0, a5_1, u5_1, a5_2, u5_2, rfl, e9, f10, f11, f12, f13⟩
 obtain ⟨K14, S15, m16⟩ := Ent.mixed (l := [(2, 2)]) (κ := K2) e9 4 rfl
 refine ⟨trivial, ?_⟩
 have f18 := f10.mx (no_int _) m16 rfl (rfl : 4 + 3 = 7)
 have f19 := f11.mx Gate.no33 m16 rfl (rfl : 4 + 4 = 8)
 have f20 := f12.mx (no_int _) m16 rfl (rfl : 4 + 5 = 9)
 have f21 := f13.mx m16 rfl (rfl : 4 + 2 = 6)
 refine WO.alloc (κ := K14) 10 rfl rfl rfl rfl rfl Try.zeroValue27 rfl fun b3 w22 K23 S24 f25 => ⟨trivial, ?_⟩
 refine WO.stB0 (κ := K23) 10 (vc := [.int .i64 x5.1.Inputs, .int .i64 x5.1.Latches, .slice a5_0 x5.1.Next.length u5_0, .slice a5_1 x5.1.Gates.length u5_1, .slice a5_2 x5.1.Outs.length u5_2]) rfl rfl rfl rfl rfl rfl rfl Try.sizeOf27 rfl rfl f25 rfl fun w26 S27 f28 => ⟨trivial, ?_⟩
 refine WO.fin ?_
 refine DN.seq ?_
 refine WC.seq ?_
 refine WC.seq ?_
 refine WC.rs [(0, 2), (1, 1)] rfl ?_
 refine WO.pn 1 rfl ?_
 obtain ⟨x7, hx7, h⟩ := Option.bind_eq_some_iff.mp h
 have f29 := f5.stp (S15.tr (S24.tr S27)) rfl rfl
 have f30 := f21.stp (S24.tr S27) rfl rfl
 refine WO.call rfl rfl rfl rfl rfl rfl Try.call64 (s_l1Once_ok (κ := fun b => mp [(6, 2)] 0 (K23 b)) (p0 := (⟨p0.b, x5.2.1, x5.2.2⟩ : l1Cur)) (Sl.map f29 (mp [(6, 2)] 0) rfl rfl) (f30.map (mp [(6, 2)] 0) rfl rfl) hx7) ?_
 rintro _ w31 ⟨k32, rfl, e33, f34⟩
 obtain ⟨K35, S36, m37⟩ := Ent.mixed (l := [(6, 2)]) (κ := K23) e33 11 rfl
 refine ⟨trivial, ?_⟩
 have f39 := f34.mx m37 rfl (rfl : 11 + 2 = 13)
 refine WO.fin ?_
 refine DN.seq ?_
 obtain ⟨q1, h, hK40⟩ := Option.bind_eq_some_iff.mp h
 refine WC.meet (fun L w' => ∃ (κ' : Col) (laq1_0 : Option Addr) (luq1_0 : Nat) (laq1_1 : Option Addr) (luq1_1 : Nat) (laq1_2 : Option Addr) (luq1_2 : Nat), L = [(0, .pointer (some ⟨b0, 0, none⟩)), (2, .pointer (some ⟨b2, 0, none⟩)), (3, .pointer (some ⟨b3, 0, none⟩))] ∧ Stp [7, 8, 9, 10, 13, 16, 19, 20, 21, 22] K35 w31 κ' w' ∧ Oc (Ep.int .i64) 2 κ' w' 7 laq1_0 luq1_0 q1.2.2.2.2.1 ∧ Oc Gate.ep33 33 κ' w' 8 laq1_1 luq1_1 q1.2.2.2.2.2.1 ∧ Oc (Ep.int .i64) 2 κ' w' 9 laq1_2 luq1_2 q1.2.2.2.2.2.2 ∧ Bc κ' w' 13 b0 89 [.slice a0_0 p0.b.length u0_0, .int .i64 q1.1, .int .i64 q1.2.1] ∧ Bc κ' w' 10 b3 27 [.int .i64 q1.2.2.1, .int .i64 q1.2.2.2.1, .slice laq1_0 q1.2.2.2.2.1.length luq1_0, .slice laq1_1 q1.2.2.2.2.2.1.length luq1_1, .slice laq1_2 q1.2.2.2.2.2.2.length luq1_2]) ?_ ?_
 ·
  revert h
  cases ht49 : x7.1 with
  | true =>
   intro h; replace h := cT h
   refine WC.ct rfl ?_
   refine WC.seq ?_
   refine WC.rs [(0, 2), (1, 1)] rfl ?_
   refine WO.pn 1 rfl ?_
   obtain ⟨x9, hx9, h⟩ := Option.bind_eq_some_iff.mp h
   have f50 := f29.stp S36 rfl rfl
   refine WO.call rfl rfl rfl rfl rfl rfl Try.call65 (s_l1Below_ok (κ := fun b => mp [(13, 2)] 0 (K35 b)) (p0 := (⟨p0.b, x7.2.1, x7.2.2⟩ : l1Cur)) (Sl.map f50 (mp [(13, 2)] 0) rfl rfl) (f39.map (mp [(13, 2)] 0) rfl rfl) hx9) ?_
   rintro _ w51 ⟨k52, rfl, e53, f54⟩
   obtain ⟨K55, S56, m57⟩ := Ent.mixed (l := [(13, 2)]) (κ := K35) e53 14 rfl
   refine ⟨trivial, ?_⟩
   have f59 := f54.mx m57 rfl (rfl : 14 + 2 = 16)
   refine WO.fin ?_
   refine DN.seq ?_
   refine WC.block ?_
   refine WC.seq ?_
   refine WC.rs [(0, 2), (1, 2)] rfl ?_
   refine WO.pn 2 rfl ?_
   refine WO.fin ?_
   refine DN.seq ?_
   obtain ⟨q2, h, hK60⟩ := Option.bind_eq_some_iff.mp h
   refine WC.meet (fun L w' => ∃ (κ' : Col) (laq2_0 : Option Addr) (luq2_0 : Nat) (laq2_1 : Option Addr) (luq2_1 : Nat) (laq2_2 : Option Addr) (luq2_2 : Nat), L = [(0, .pointer (some ⟨b0, 0, none⟩)), (2, .pointer (some ⟨b2, 0, none⟩)), (3, .pointer (some ⟨b3, 0, none⟩))] ∧ Stp [7, 8, 9, 10, 16, 19, 20, 21, 22] K55 w51 κ' w' ∧ Oc (Ep.int .i64) 2 κ' w' 7 laq2_0 luq2_0 q2.2.2.2.2.1 ∧ Oc Gate.ep33 33 κ' w' 8 laq2_1 luq2_1 q2.2.2.2.2.2.1 ∧ Oc (Ep.int .i64) 2 κ' w' 9 laq2_2 luq2_2 q2.2.2.2.2.2.2 ∧ Bc κ' w' 16 b0 89 [.slice a0_0 p0.b.length u0_0, .int .i64 q2.1, .int .i64 q2.2.1] ∧ Bc κ' w' 10 b3 27 [.int .i64 q2.2.2.1, .int .i64 q2.2.2.2.1, .slice laq2_0 q2.2.2.2.2.1.length luq2_0, .slice laq2_1 q2.2.2.2.2.2.1.length luq2_1, .slice laq2_2 q2.2.2.2.2.2.2.length luq2_2]) ?_ ?_
   ·
    revert h
    cases ht69 : (x9.1 == 0) with
    | true =>
     intro h; replace h := cT h
     refine WC.ct rfl ?_
     refine WC.rs [(0, 1), (1, 2), (2, 1), (3, 2), (4, 1), (5, 2), (6, 1)] rfl ?_
     refine WO.bl (κ := K55) (E := (Ep.int .i64)) 17 [] (parts := [(0, .const (.int .i64 (-1))), (1, .const (.int .i64 0)), (2, .const (.int .i64 4)), (3, .const (.int .i64 5))]) (cells := [.int .i64 (-1), .int .i64 0, .int .i64 4, .int .i64 5]) (xs := ([(-1), 0, 4, 5] : List Int)) rfl rfl rfl rfl rfl rfl Try.underlying24 Tryinfo2 rfl rfl rfl rfl rfl rfl rfl rfl rfl rfl ⟨[.int .i64 (-1)], [.int .i64 0, .int .i64 4, .int .i64 5], Zl K55 w51 [], Zl K55 w51 [], rfl, Zl.sp (l1 := []) (l2 := []) rfl, Zl.sr (l1 := []) (l2 := []), rfl, ⟨[.int .i64 0], [.int .i64 4, .int .i64 5], Zl K55 w51 [], Zl K55 w51 [], rfl, Zl.sp (l1 := []) (l2 := []) rfl, Zl.sr (l1 := []) (l2 := []), rfl, ⟨[.int .i64 4], [.int .i64 5], Zl K55 w51 [], Zl K55 w51 [], rfl, Zl.sp (l1 := []) (l2 := []) rfl, Zl.sr (l1 := []) (l2 := []), rfl, ⟨[.int .i64 5], [], Zl K55 w51 [], Zl K55 w51 [], rfl, Zl.sp (l1 := []) (l2 := []) rfl, Zl.sr (l1 := []) (l2 := []), rfl, rfl⟩⟩⟩⟩ fun a12 u12 w70 K71 S72 f73 => ⟨trivial, ?_⟩
     refine WO.pn 1 rfl ?_
     obtain ⟨x14, hx14, h⟩ := Option.bind_eq_some_iff.mp h
     have f74 := f50.stp (S56.tr S72) rfl rfl
     have f75 := f59.stp S72 rfl rfl
     refine WO.call rfl rfl rfl rfl rfl rfl Try.call65 (s_l1Below_ok (κ := fun b => mp [(16, 2)] 0 (K71 b)) (p0 := (⟨p0.b, x9.2.1, x9.2.2⟩ : l1Cur)) (Sl.map f74 (mp [(16, 2)] 0) rfl rfl) (f75.map (mp [(16, 2)] 0) rfl rfl) hx14) ?_
     rintro _ w76 ⟨k77, rfl, e78, f79⟩
     obtain ⟨K80, S81, m82⟩ := Ent.mixed (l := [(16, 2)]) (κ := K71) e78 18 rfl
     refine ⟨trivial, ?_⟩
     have f84 := f79.mx m82 rfl (rfl : 18 + 2 = 20)
     obtain ⟨x15, hx15, h⟩ := Option.bind_eq_some_iff.mp h
     refine WO.k2 rfl rfl rfl rfl (rn_index f73.rdc hx15 Try.runUnderlying24 Try.sizeOf2 rfl rfl rfl rfl) ?_
     have f85 := f73.stp S81 rfl rfl
     refine WO.k1 trivial rfl rfl rfl rfl (rn_ld Try.isAgg2 rfl rfl (hvE (f85.rdc.gInt hx15))) ?_
     refine WO.k2 rfl rfl rfl rfl (rn_fieldAddr Try.runUnderlying27 rfl Try.sizeOf2 rfl rfl) ?_
     have f86 := f28.stp (S36.tr (S56.tr (S72.tr S81))) rfl rfl
     refine WO.stB (κ := K80) 10 (off := 0) (vc := [.int .i64 x15]) (cs' := [.int .i64 x15, .int .i64 x5.1.Latches, .slice a5_0 x5.1.Next.length u5_0, .slice a5_1 x5.1.Gates.length u5_1, .slice a5_2 x5.1.Outs.length u5_2]) rfl rfl rfl rfl rfl rfl rfl Try.sizeOf2 rfl rfl f86 rfl rfl fun w87 S88 f89 => ⟨trivial, ?_⟩
     refine WO.fin ?_
     have f90 := f18.stp (S24.tr (S27.tr (S36.tr (S56.tr (S72.tr (S81.tr S88)))))) rfl rfl
     have f91 := f19.stp (S24.tr (S27.tr (S36.tr (S56.tr (S72.tr (S81.tr S88)))))) rfl rfl
     have f92 := f20.stp (S24.tr (S27.tr (S36.tr (S56.tr (S72.tr (S81.tr S88)))))) rfl rfl
     have f93 := f84.stp S88 rfl rfl
     obtain rfl := Option.some.inj h
     exact DN.meet _ ⟨(fun b => ren [(20, 16)] (K80 b)), a5_0, u5_0, a5_1, u5_1, a5_2, u5_2, rfl, (Stp.ren ((S72.tr (S81.tr S88)).wk rfl) [(20, 16)] rfl), (f90.map (ren [(20, 16)]) rfl rfl), (f91.map (ren [(20, 16)]) rfl rfl), (f92.map (ren [(20, 16)]) rfl rfl), (f93.map (ren [(20, 16)]) rfl rfl), (f89.map (ren [(20, 16)]) rfl rfl)⟩ fun a ha => (ha.more (ha.more (ha.more ha.nil rfl) rfl) rfl)
    | false =>
     intro h; replace h := cF h
     refine WC.cf rfl ?_
     refine WC.seq ?_
     refine WC.rs [(0, 2), (1, 2)] rfl ?_
     refine WO.pn 2 rfl ?_
     refine WO.fin ?_
     refine DN.seq ?_
     obtain ⟨q3, h, hK94⟩ := Option.bind_eq_some_iff.mp h
     refine WC.meet (fun L w' => ∃ (κ' : Col) (laq3_0 : Option Addr) (luq3_0 : Nat) (laq3_1 : Option Addr) (luq3_1 : Nat) (laq3_2 : Option Addr) (luq3_2 : Nat), L = [(0, .pointer (some ⟨b0, 0, none⟩)), (2, .pointer (some ⟨b2, 0, none⟩)), (3, .pointer (some ⟨b3, 0, none⟩))] ∧ Stp [7, 8, 9, 10, 16, 19, 21, 22] K55 w51 κ' w' ∧ Oc (Ep.int .i64) 2 κ' w' 7 laq3_0 luq3_0 q3.2.2.2.1 ∧ Oc Gate.ep33 33 κ' w' 8 laq3_1 luq3_1 q3.2.2.2.2.1 ∧ Oc (Ep.int .i64) 2 κ' w' 9 laq3_2 luq3_2 q3.2.2.2.2.2 ∧ Bc κ' w' 16 b0 89 [.slice a0_0 p0.b.length u0_0, .int .i64 q3.1, .int .i64 q3.2.1] ∧ Bc κ' w' 10 b3 27 [.int .i64 x5.1.Inputs, .int .i64 q3.2.2.1, .slice laq3_0 q3.2.2.2.1.length luq3_0, .slice laq3_1 q3.2.2.2.2.1.length luq3_1, .slice laq3_2 q3.2.2.2.2.2.length luq3_2]) ?_ ?_
     ·
      revert h
      cases ht103 : (x9.1 == 1) with
      | true =>
       intro h; replace h := cT h
       refine WC.ct rfl ?_
       refine WC.rs [(0, 2), (1, 1), (2, 2), (3, 1)] rfl ?_
       refine WO.pn 1 rfl ?_
       obtain ⟨x21, hx21, h⟩ := Option.bind_eq_some_iff.mp h
       have f104 := f50.stp S56 rfl rfl
       refine WO.call rfl rfl rfl rfl rfl rfl Try.call66 (s_l1Num_ok (κ := fun b => mp [(16, 2)] 0 (K55 b)) (p0 := (⟨p0.b, x9.2.1, x9.2.2⟩ : l1Cur)) (Sl.map f104 (mp [(16, 2)] 0) rfl rfl) (f59.map (mp [(16, 2)] 0) rfl rfl) hx21) ?_
       rintro _ w105 ⟨k106, rfl, e107, f108⟩
       obtain ⟨K109, S110, m111⟩ := Ent.mixed (l := [(16, 2)]) (κ := K55) e107 17 rfl
       refine ⟨trivial, ?_⟩
       have f113 := f108.mx m111 rfl (rfl : 17 + 2 = 19)
       refine WO.k2 rfl rfl rfl rfl (rn_fieldAddr Try.runUnderlying27 rfl Try.sizeOf2 rfl rfl) ?_
       have f114 := f28.stp (S36.tr (S56.tr S110)) rfl rfl
       refine WO.stB (κ := K109) 10 (off := 1) (vc := [.int .i64 x21.1]) (cs' := [.int .i64 x5.1.Inputs, .int .i64 x21.1, .slice a5_0 x5.1.Next.length u5_0, .slice a5_1 x5.1.Gates.length u5_1, .slice a5_2 x5.1.Outs.length u5_2]) rfl rfl rfl rfl rfl rfl rfl Try.sizeOf2 rfl rfl f114 rfl rfl fun w115 S116 f117 => ⟨trivial, ?_⟩
       refine WO.fin ?_
       have f118 := f18.stp (S24.tr (S27.tr (S36.tr (S56.tr (S110.tr S116))))) rfl rfl
       have f119 := f19.stp (S24.tr (S27.tr (S36.tr (S56.tr (S110.tr S116))))) rfl rfl
       have f120 := f20.stp (S24.tr (S27.tr (S36.tr (S56.tr (S110.tr S116))))) rfl rfl
       have f121 := f113.stp S116 rfl rfl
       obtain rfl := Option.some.inj h
       exact DN.meet _ ⟨(fun b => ren [(19, 16)] (K109 b)), a5_0, u5_0, a5_1, u5_1, a5_2, u5_2, rfl, (Stp.ren ((S110.tr S116).wk rfl) [(19, 16)] rfl), (f118.map (ren [(19, 16)]) rfl rfl), (f119.map (ren [(19, 16)]) rfl rfl), (f120.map (ren [(19, 16)]) rfl rfl), (f121.map (ren [(19, 16)]) rfl rfl), (f117.map (ren [(19, 16)]) rfl rfl)⟩ fun a ha => (ha.more (ha.more (ha.more ha.nil rfl) rfl) rfl)
      | false =>
       intro h; replace h := cF h
       refine WC.cf rfl ?_
       refine WC.seq ?_
       refine WC.rs [(0, 2), (1, 2)] rfl ?_
       refine WO.pn 2 rfl ?_
       refine WO.fin ?_
       refine DN.seq ?_
       obtain ⟨q4, h, hK122⟩ := Option.bind_eq_some_iff.mp h
       refine WC.meet (fun L w' => ∃ (κ' : Col) (laq4_0 : Option Addr) (luq4_0 : Nat) (laq4_1 : Option Addr) (luq4_1 : Nat) (laq4_2 : Option Addr) (luq4_2 : Nat), L = [(0, .pointer (some ⟨b0, 0, none⟩)), (2, .pointer (some ⟨b2, 0, none⟩)), (3, .pointer (some ⟨b3, 0, none⟩))] ∧ Stp [7, 8, 9, 10, 16, 19, 21, 22] K55 w51 κ' w' ∧ Oc (Ep.int .i64) 2 κ' w' 7 laq4_0 luq4_0 q4.2.2.1 ∧ Oc Gate.ep33 33 κ' w' 8 laq4_1 luq4_1 q4.2.2.2.1 ∧ Oc (Ep.int .i64) 2 κ' w' 9 laq4_2 luq4_2 q4.2.2.2.2 ∧ Bc κ' w' 16 b0 89 [.slice a0_0 p0.b.length u0_0, .int .i64 q4.1, .int .i64 q4.2.1] ∧ Bc κ' w' 10 b3 27 [.int .i64 x5.1.Inputs, .int .i64 x5.1.Latches, .slice laq4_0 q4.2.2.1.length luq4_0, .slice laq4_1 q4.2.2.2.1.length luq4_1, .slice laq4_2 q4.2.2.2.2.length luq4_2]) ?_ ?_
       ·
        revert h
        cases ht131 : (x9.1 == 2) with
        | true =>
         intro h; replace h := cT h
         refine WC.ct rfl ?_
         refine WC.rx (κ := K55) [10] (some 10) [(0, 2), (2, 2), (1, 0), (3, 0), (4, 1), (5, 2), (6, 1), (7, 1), (8, 1), (9, 2)] [(10, 1)] (by kernel_rfl) (by kernel_rfl) fun w133 S132 => ?_
         refine WO.k2 rfl rfl rfl rfl (rn_fieldAddr Try.runUnderlying27 rfl Try.sizeOf24 rfl rfl) ?_
         refine WO.pn 1 rfl ?_
         have f134 := f28.stp (S36.tr (S56.tr S132)) rfl rfl
         refine WO.k0 rfl rfl rfl rfl (rn_ld Try.isAgg24 rfl rfl (hvC (f134.ld 4 rfl rfl) rfl)) ?_
         refine WO.k0 rfl rfl rfl rfl (rn_la (cs := [.int .i64 x5.1.Inputs, .int .i64 x5.1.Latches, .slice a5_0 x5.1.Next.length u5_0, .slice a5_1 x5.1.Gates.length u5_1, .slice a5_2 x5.1.Outs.length u5_2]) Try.isAgg27 Try.sizeOf27 rfl rfl rfl (haC f134.cells rfl)) ?_
         obtain ⟨x29, hx29, h⟩ := Option.bind_eq_some_iff.mp h
         have f135 := f18.stp (S24.tr (S27.tr (S36.tr (S56.tr S132)))) rfl rfl
         have f136 := f19.stp (S24.tr (S27.tr (S36.tr (S56.tr S132)))) rfl rfl
         have f137 := f20.stp (S24.tr (S27.tr (S36.tr (S56.tr S132)))) rfl rfl
         refine WO.call rfl rfl rfl rfl rfl rfl Try.call35 (s_l31Signals_ok (κ := fun b => mp [] 0 (K55 b)) (p0 := x5.1) (Sl.map f135.rdc (mp [] 0) rfl rfl) (Sl.map f136.rdc (mp [] 0) rfl rfl) (Sl.map f137.rdc (mp [] 0) rfl rfl) hx29) ?_
         rintro _ w138 ⟨k139, rfl, e140⟩
         obtain ⟨K141, S142, m143⟩ := Ent.mixed (l := []) (κ := K55) e140 17 rfl
         refine ⟨(S142.cl rfl), ?_⟩
         refine WO.pn 1 rfl ?_
         obtain ⟨x31, hx31, h⟩ := Option.bind_eq_some_iff.mp h
         have f145 := f50.stp (S56.tr (S132.tr S142)) rfl rfl
         have f146 := f59.stp (S132.tr S142) rfl rfl
         refine WO.call rfl rfl rfl rfl rfl rfl Try.call66 (s_l1Num_ok (κ := fun b => mp [(16, 2)] 0 (K141 b)) (p0 := (⟨p0.b, x9.2.1, x9.2.2⟩ : l1Cur)) (Sl.map f145 (mp [(16, 2)] 0) rfl rfl) (f146.map (mp [(16, 2)] 0) rfl rfl) hx31) ?_
         rintro _ w147 ⟨k148, rfl, e149, f150⟩
         obtain ⟨K151, S152, m153⟩ := Ent.mixed (l := [(16, 2)]) (κ := K141) e149 19 rfl
         refine ⟨((S142.tr S152).cl rfl), ?_⟩
         have f155 := f150.mx m153 rfl (rfl : 19 + 2 = 21)
         refine WO.bl (κ := K151) (E := (Ep.int .i64)) 22 [] (parts := [(0, .tmp 31)]) (cells := [.int .i64 x31.1]) (xs := ([x31.1] : List Int)) rfl rfl rfl rfl rfl rfl Try.underlying24 Tryinfo2 rfl rfl rfl rfl rfl rfl rfl rfl rfl rfl ⟨[.int .i64 x31.1], [], Zl K151 w147 [], Zl K151 w147 [], rfl, Zl.sp (l1 := []) (l2 := []) rfl, Zl.sr (l1 := []) (l2 := []), rfl, rfl⟩ fun a32 u32 w156 K157 S158 f159 => ⟨((S142.tr (S152.tr S158)).cl rfl), ?_⟩
         obtain ⟨x33, hx33, h⟩ := Option.bind_eq_some_iff.mp h
         have f160 := f137.stp (S142.tr (S152.tr S158)) rfl rfl
         refine WO.app (κ := K157) (E := (Ep.int .i64)) 9 [] rfl rfl rfl rfl rfl rfl rfl rfl rfl Try.underlying24 Tryinfo2 rfl rfl rfl rfl f160 (Sl.srcP (pu_int _) f159.rdc) sy_false hx33 rfl fun a33 u33 w161 K162 S163 f164 => ⟨((S142.tr (S152.tr (S158.tr S163))).cl rfl), ?_⟩
         refine WO.k2 rfl rfl rfl rfl (rn_fieldAddr Try.runUnderlying27 rfl Try.sizeOf24 rfl rfl) ?_
         refine WO.nx ?_
         have f165 := f134.stp (S142.tr (S152.tr (S158.tr S163))) rfl rfl
         refine WO.stB (κ := K162) 10 (off := 4) (vc := [.slice a33 x33.length u33]) (cs' := [.int .i64 x5.1.Inputs, .int .i64 x5.1.Latches, .slice a5_0 x5.1.Next.length u5_0, .slice a5_1 x5.1.Gates.length u5_1, .slice a33 x33.length u33]) rfl rfl rfl rfl rfl rfl rfl Try.sizeOf24 rfl rfl f165 rfl rfl fun w166 S167 f168 => ⟨trivial, ?_⟩
         refine WO.fin ?_
         have f169 := f135.stp (S142.tr (S152.tr (S158.tr (S163.tr S167)))) rfl rfl
         have f170 := f136.stp (S142.tr (S152.tr (S158.tr (S163.tr S167)))) rfl rfl
         have f171 := f164.stp S167 rfl rfl
         have f172 := f155.stp (S158.tr (S163.tr S167)) rfl rfl
         obtain rfl := Option.some.inj h
         exact DN.meet _ ⟨(fun b => ren [(21, 16)] (K162 b)), a5_0, u5_0, a5_1, u5_1, a33, u33, rfl, (Stp.ren ((S132.tr (S142.tr (S152.tr (S158.tr (S163.tr S167))))).wk rfl) [(21, 16)] rfl), (f169.map (ren [(21, 16)]) rfl rfl), (f170.map (ren [(21, 16)]) rfl rfl), (f171.map (ren [(21, 16)]) rfl rfl), (f172.map (ren [(21, 16)]) rfl rfl), (f168.map (ren [(21, 16)]) rfl rfl)⟩ fun a ha => (ha.more (ha.more (ha.more ha.nil rfl) rfl) rfl)
        | false =>
         intro h; replace h := cF h
         refine WC.cf rfl ?_
         refine WC.seq ?_
         refine WC.rs [(0, 2), (1, 2)] rfl ?_
         refine WO.pn 2 rfl ?_
         refine WO.fin ?_
         refine DN.seq ?_
         obtain ⟨q5, h, hK173⟩ := Option.bind_eq_some_iff.mp h
         refine WC.meet (fun L w' => ∃ (κ' : Col) (laq5_0 : Option Addr) (luq5_0 : Nat) (laq5_1 : Option Addr) (luq5_1 : Nat) (laq5_2 : Option Addr) (luq5_2 : Nat), L = [(0, .pointer (some ⟨b0, 0, none⟩)), (2, .pointer (some ⟨b2, 0, none⟩)), (3, .pointer (some ⟨b3, 0, none⟩))] ∧ Stp [7, 8, 9, 10, 16, 19, 22] K55 w51 κ' w' ∧ Oc (Ep.int .i64) 2 κ' w' 7 laq5_0 luq5_0 q5.2.2.1 ∧ Oc Gate.ep33 33 κ' w' 8 laq5_1 luq5_1 q5.2.2.2.1 ∧ Oc (Ep.int .i64) 2 κ' w' 9 laq5_2 luq5_2 q5.2.2.2.2 ∧ Bc κ' w' 16 b0 89 [.slice a0_0 p0.b.length u0_0, .int .i64 q5.1, .int .i64 q5.2.1] ∧ Bc κ' w' 10 b3 27 [.int .i64 x5.1.Inputs, .int .i64 x5.1.Latches, .slice laq5_0 q5.2.2.1.length luq5_0, .slice laq5_1 q5.2.2.2.1.length luq5_1, .slice laq5_2 q5.2.2.2.2.length luq5_2]) ?_ ?_
         ·
          revert h
          cases ht182 : (x9.1 == 3) with
          | true =>
           intro h; replace h := cT h
           refine WC.ct rfl ?_
           refine WC.rx (κ := K55) [10] (some 10) [(0, 2), (2, 2), (4, 2), (1, 0), (3, 1), (5, 1), (6, 2), (7, 1), (8, 1), (9, 2)] [(10, 1)] (by kernel_rfl) (by kernel_rfl) fun w184 S183 => ?_
           refine WO.k2 rfl rfl rfl rfl (rn_fieldAddr Try.runUnderlying27 rfl Try.sizeOf25 rfl rfl) ?_
           refine WO.pn 2 rfl ?_
           have f185 := f28.stp (S36.tr (S56.tr S183)) rfl rfl
           refine WO.k0 rfl rfl rfl rfl (rn_ld Try.isAgg25 rfl rfl (hvC (f185.ld 3 rfl rfl) rfl)) ?_
           obtain ⟨x40, hx40, h⟩ := Option.bind_eq_some_iff.mp h
           have f186 := f50.stp (S56.tr S183) rfl rfl
           have f187 := f59.stp S183 rfl rfl
           refine WO.call rfl rfl rfl rfl rfl rfl Try.call66 (s_l1Num_ok (κ := fun b => mp [(16, 2)] 0 (K55 b)) (p0 := (⟨p0.b, x9.2.1, x9.2.2⟩ : l1Cur)) (Sl.map f186 (mp [(16, 2)] 0) rfl rfl) (f187.map (mp [(16, 2)] 0) rfl rfl) hx40) ?_
           rintro _ w188 ⟨k189, rfl, e190, f191⟩
           obtain ⟨K192, S193, m194⟩ := Ent.mixed (l := [(16, 2)]) (κ := K55) e190 17 rfl
           refine ⟨(S193.cl rfl), ?_⟩
           have f196 := f191.mx m194 rfl (rfl : 17 + 2 = 19)
           obtain ⟨x42, hx42, h⟩ := Option.bind_eq_some_iff.mp h
           have f197 := f186.stp S193 rfl rfl
           refine WO.call rfl rfl rfl rfl rfl rfl Try.call66 (s_l1Num_ok (κ := fun b => mp [(19, 2)] 0 (K192 b)) (p0 := (⟨p0.b, x40.2.1, x40.2.2⟩ : l1Cur)) (Sl.map f197 (mp [(19, 2)] 0) rfl rfl) (f196.map (mp [(19, 2)] 0) rfl rfl) hx42) ?_
           rintro _ w198 ⟨k199, rfl, e200, f201⟩
           obtain ⟨K202, S203, m204⟩ := Ent.mixed (l := [(19, 2)]) (κ := K192) e200 20 rfl
           refine ⟨((S193.tr S203).cl rfl), ?_⟩
           have f206 := f201.mx m204 rfl (rfl : 20 + 2 = 22)
           refine WO.k2 rfl rfl rfl rfl (rn_build (parts := [(0, .tmp 40), (1, .tmp 42)]) (cells := [.int .i64 x40.1, .int .i64 x42.1]) rfl rfl (by kernel_rfl)) ?_
           refine WO.bl (κ := K202) (E := Gate.ep33) 23 [] (parts := [(0, .tmp 43)]) (cells := [.int .i64 x40.1, .int .i64 x42.1]) (xs := ([(⟨x40.1, x42.1⟩ : Gate)] : List Gate)) rfl rfl rfl rfl rfl rfl Try.underlying25 Tryinfo33 rfl rfl rfl rfl rfl rfl rfl rfl rfl rfl ⟨[.int .i64 x40.1, .int .i64 x42.1], [], Zl K202 w198 [], Zl K202 w198 [], rfl, Zl.sp (l1 := []) (l2 := []) rfl, Zl.sr (l1 := []) (l2 := []), ⟨[.int .i64 x40.1], [.int .i64 x42.1], Zl K202 w198 [], Zl K202 w198 [], rfl, Zl.sp (l1 := []) (l2 := []) rfl, Zl.sr (l1 := []) (l2 := []), rfl, rfl⟩, rfl⟩ fun a44 u44 w207 K208 S209 f210 => ⟨((S193.tr (S203.tr S209)).cl rfl), ?_⟩
           obtain ⟨x45, hx45, h⟩ := Option.bind_eq_some_iff.mp h
           have f211 := f19.stp (S24.tr (S27.tr (S36.tr (S56.tr (S183.tr (S193.tr (S203.tr S209))))))) rfl rfl
           refine WO.app (κ := K208) (E := Gate.ep33) 8 [] rfl rfl rfl rfl rfl rfl rfl rfl rfl Try.underlying25 Tryinfo33 rfl rfl rfl rfl f211 (Sl.srcP Gate.pu33 f210.rdc) sy_false hx45 rfl fun a45 u45 w212 K213 S214 f215 => ⟨((S193.tr (S203.tr (S209.tr S214))).cl rfl), ?_⟩
           refine WO.k2 rfl rfl rfl rfl (rn_fieldAddr Try.runUnderlying27 rfl Try.sizeOf25 rfl rfl) ?_
           refine WO.nx ?_
           have f216 := f185.stp (S193.tr (S203.tr (S209.tr S214))) rfl rfl
           refine WO.stB (κ := K213) 10 (off := 3) (vc := [.slice a45 x45.length u45]) (cs' := [.int .i64 x5.1.Inputs, .int .i64 x5.1.Latches, .slice a5_0 x5.1.Next.length u5_0, .slice a45 x45.length u45, .slice a5_2 x5.1.Outs.length u5_2]) rfl rfl rfl rfl rfl rfl rfl Try.sizeOf25 rfl rfl f216 rfl rfl fun w217 S218 f219 => ⟨trivial, ?_⟩
           refine WO.fin ?_
           have f220 := f18.stp (S24.tr (S27.tr (S36.tr (S56.tr (S183.tr (S193.tr (S203.tr (S209.tr (S214.tr S218))))))))) rfl rfl
           have f221 := f215.stp S218 rfl rfl
           have f222 := f20.stp (S24.tr (S27.tr (S36.tr (S56.tr (S183.tr (S193.tr (S203.tr (S209.tr (S214.tr S218))))))))) rfl rfl
           have f223 := f206.stp (S209.tr (S214.tr S218)) rfl rfl
           obtain rfl := Option.some.inj h
           exact DN.meet _ ⟨(fun b => ren [(22, 16)] (K213 b)), a5_0, u5_0, a45, u45, a5_2, u5_2, rfl, (Stp.ren ((S183.tr (S193.tr (S203.tr (S209.tr (S214.tr S218))))).wk rfl) [(22, 16)] rfl), (f220.map (ren [(22, 16)]) rfl rfl), (f221.map (ren [(22, 16)]) rfl rfl), (f222.map (ren [(22, 16)]) rfl rfl), (f223.map (ren [(22, 16)]) rfl rfl), (f219.map (ren [(22, 16)]) rfl rfl)⟩ fun a ha => (ha.more (ha.more (ha.more ha.nil rfl) rfl) rfl)
          | false =>
           intro h; replace h := cF h
           refine WC.cf rfl ?_
           refine WC.seq ?_
           refine WC.rs [(0, 2), (1, 2)] rfl ?_
           refine WO.pn 2 rfl ?_
           refine WO.fin ?_
           refine DN.seq ?_
           obtain ⟨q6, h, hK224⟩ := Option.bind_eq_some_iff.mp h
           refine WC.meet (fun L w' => ∃ (κ' : Col) (laq6_0 : Option Addr) (luq6_0 : Nat) (laq6_1 : Option Addr) (luq6_1 : Nat), L = [(0, .pointer (some ⟨b0, 0, none⟩)), (2, .pointer (some ⟨b2, 0, none⟩)), (3, .pointer (some ⟨b3, 0, none⟩))] ∧ Stp [7, 9, 10, 16, 19] K55 w51 κ' w' ∧ Oc (Ep.int .i64) 2 κ' w' 7 laq6_0 luq6_0 q6.2.2.1 ∧ Oc (Ep.int .i64) 2 κ' w' 9 laq6_1 luq6_1 q6.2.2.2 ∧ Bc κ' w' 16 b0 89 [.slice a0_0 p0.b.length u0_0, .int .i64 q6.1, .int .i64 q6.2.1] ∧ Bc κ' w' 10 b3 27 [.int .i64 x5.1.Inputs, .int .i64 x5.1.Latches, .slice laq6_0 q6.2.2.1.length luq6_0, .slice a5_1 x5.1.Gates.length u5_1, .slice laq6_1 q6.2.2.2.length luq6_1]) ?_ ?_
           ·
            revert h
            cases ht232 : (x9.1 == 4) with
            | true =>
             intro h; replace h := cT h
             refine WC.ct rfl ?_
             obtain ⟨q8, hq235, hK234⟩ := Option.bind_eq_some_iff.mp h
             clear h
             refine WC.meet (fun L w' => ∃ (κ' : Col) (s9 : Int × Int × (List Int)) (las9_0 : Option Addr) (lus9_0 : Nat), L = [(0, .pointer (some ⟨b0, 0, none⟩)), (2, .pointer (some ⟨b2, 0, none⟩)), (3, .pointer (some ⟨b3, 0, none⟩))] ∧ Stp [9, 10, 16, 19] K55 w51 κ' w' ∧ Oc (Ep.int .i64) 2 κ' w' 9 las9_0 lus9_0 s9.2.2 ∧ Bc κ' w' 16 b0 89 [.slice a0_0 p0.b.length u0_0, .int .i64 s9.1, .int .i64 s9.2.1] ∧ Bc κ' w' 10 b3 27 [.int .i64 x5.1.Inputs, .int .i64 x5.1.Latches, .slice a5_0 x5.1.Next.length u5_0, .slice a5_1 x5.1.Gates.length u5_1, .slice las9_0 s9.2.2.length lus9_0] ∧ q8 = Sum.inr s9) ?_ ?_
             ·
              refine WC.block ?_
              have f248 := f20.stp (S24.tr (S27.tr (S36.tr S56))) rfl rfl
              have f249 := f28.stp (S36.tr S56) rfl rfl
              refine WC.loop (fun k L w' => ∃ (κ' : Col) (s7 : Int × Int × (List Int)) (las7_0 : Option Addr) (lus7_0 : Nat), L = [(0, .pointer (some ⟨b0, 0, none⟩)), (2, .pointer (some ⟨b2, 0, none⟩)), (3, .pointer (some ⟨b3, 0, none⟩))] ∧ Stp [9, 10, 16, 19] K55 w51 κ' w' ∧ Oc (Ep.int .i64) 2 κ' w' 9 las7_0 lus7_0 s7.2.2 ∧ Bc κ' w' 16 b0 89 [.slice a0_0 p0.b.length u0_0, .int .i64 s7.1, .int .i64 s7.2.1] ∧ Bc κ' w' 10 b3 27 [.int .i64 x5.1.Inputs, .int .i64 x5.1.Latches, .slice a5_0 x5.1.Next.length u5_0, .slice a5_1 x5.1.Gates.length u5_1, .slice las7_0 s7.2.2.length lus7_0] ∧ whileM (s_l31DrawAny_b1 p0) k s7 = some q8) ⟨_, _, ⟨K55, ((x9.2.1 : Int), (x9.2.2 : Int), (x5.1.Outs : (List Int))), a5_2, u5_2, rfl, (Stp.refl _ _).wk rfl, f248, f59, f249, hq235⟩, fun a ha => (ha.more (ha.more (ha.more ha.nil rfl) rfl) rfl)⟩ ?_
              rintro k _ w242 ⟨K243, s7, las7_0, lus7_0, rfl, S244, f245, f246, f247, h⟩
              rcases k with _ | k
              ·
               cases h
              ·
               obtain ⟨o233, h, hk250⟩ := Option.bind_eq_some_iff.mp h; unfold s_l31DrawAny_b1 at h
               refine WC.seq ?_
               refine WC.seq ?_
               refine WC.rx (κ := K243) [10] none [(0, 2), (3, 2), (1, 0), (2, 2), (4, 1), (5, 2), (6, 2)] [] (by kernel_rfl) (by kernel_rfl) fun w252 S251 => ?_
               refine WO.k2 rfl rfl rfl rfl (rn_fieldAddr Try.runUnderlying27 rfl Try.sizeOf24 rfl rfl) ?_
               refine WO.pn 1 rfl ?_
               have f253 := f247.stp S251 rfl rfl
               refine WO.k0 rfl rfl rfl rfl (rn_ld Try.isAgg24 rfl rfl (hvC (f253.ld 4 rfl rfl) rfl)) ?_
               refine WO.k2 rfl rfl rfl rfl (rn_len Try.runUnderlying24 rfl rfl) ?_
               obtain ⟨x53, hx53, h⟩ := Option.bind_eq_some_iff.mp h
               have f254 := f50.stp (S56.tr (S244.tr S251)) rfl rfl
               have f255 := f246.stp S251 rfl rfl
               refine WO.call rfl rfl rfl rfl rfl rfl Try.call65 (s_l1Below_ok (κ := fun b => mp [(16, 2)] 0 (K243 b)) (p0 := (⟨p0.b, s7.1, s7.2.1⟩ : l1Cur)) (Sl.map f254 (mp [(16, 2)] 0) rfl rfl) (f255.map (mp [(16, 2)] 0) rfl rfl) hx53) ?_
               rintro _ w256 ⟨k257, rfl, e258, f259⟩
               obtain ⟨K260, S261, m262⟩ := Ent.mixed (l := [(16, 2)]) (κ := K243) e258 17 rfl
               refine ⟨(S261.cl rfl), ?_⟩
               have f264 := f259.mx m262 rfl (rfl : 17 + 2 = 19)
               refine WO.pn 2 rfl ?_
               refine WO.nx ?_
               refine WO.fin ?_
               refine DN.seq ?_
               revert h
               cases ht265 : decide ((s7.2.2.length : Int) < (IntKind.i64.wrap (4 + x53.1))) with
               | true =>
                intro h; replace h := cT h
                refine WC.ct rfl ?_
                refine WC.skip ?_
                refine DN.seq ?_
                refine WC.block ?_
                refine WC.rs [(0, 2), (1, 1), (2, 1), (3, 1), (4, 2), (5, 1)] rfl ?_
                refine WO.k2 rfl rfl rfl rfl (rn_fieldAddr Try.runUnderlying27 rfl Try.sizeOf24 rfl rfl) ?_
                have f266 := f253.stp S261 rfl rfl
                refine WO.k1 trivial rfl rfl rfl rfl (rn_ld Try.isAgg24 rfl rfl (hvE (f266.ld 4 rfl rfl))) ?_
                refine WO.bl (κ := K260) (E := (Ep.int .i64)) 20 [] (parts := [(0, .const (.int .i64 1))]) (cells := [.int .i64 1]) (xs := ([1] : List Int)) rfl rfl rfl rfl rfl rfl Try.underlying24 Tryinfo2 rfl rfl rfl rfl rfl rfl rfl rfl rfl rfl ⟨[.int .i64 1], [], Zl K260 w256 [], Zl K260 w256 [], rfl, Zl.sp (l1 := []) (l2 := []) rfl, Zl.sr (l1 := []) (l2 := []), rfl, rfl⟩ fun a58 u58 w267 K268 S269 f270 => ⟨trivial, ?_⟩
                obtain ⟨x59, hx59, h⟩ := Option.bind_eq_some_iff.mp h
                have f271 := f245.stp (S251.tr (S261.tr S269)) rfl rfl
                refine WO.app (κ := K268) (E := (Ep.int .i64)) 9 [] rfl rfl rfl rfl rfl rfl rfl rfl rfl Try.underlying24 Tryinfo2 rfl rfl rfl rfl f271 (Sl.srcP (pu_int _) f270.rdc) sy_false hx59 rfl fun a59 u59 w272 K273 S274 f275 => ⟨trivial, ?_⟩
                refine WO.k2 rfl rfl rfl rfl (rn_fieldAddr Try.runUnderlying27 rfl Try.sizeOf24 rfl rfl) ?_
                have f276 := f266.stp (S269.tr S274) rfl rfl
                refine WO.stB (κ := K273) 10 (off := 4) (vc := [.slice a59 x59.length u59]) (cs' := [.int .i64 x5.1.Inputs, .int .i64 x5.1.Latches, .slice a5_0 x5.1.Next.length u5_0, .slice a5_1 x5.1.Gates.length u5_1, .slice a59 x59.length u59]) rfl rfl rfl rfl rfl rfl rfl Try.sizeOf24 rfl rfl f276 rfl rfl fun w277 S278 f279 => ⟨trivial, ?_⟩
                refine WO.fin ?_
                refine DN.block ?_
                have f280 := f275.stp S278 rfl rfl
                have f281 := f264.stp (S269.tr (S274.tr S278)) rfl rfl
                obtain rfl := Option.some.inj h
                refine DN.round fun a ha => ?_
                exact ⟨k, _, Nat.lt_succ_self _, ⟨(fun b => ren [(19, 16)] (K273 b)), ((x53.2.1 : Int), (x53.2.2 : Int), (x59 : (List Int))), a59, u59, rfl, (Stp.ren ((S244.tr (S251.tr (S261.tr (S269.tr (S274.tr S278))))).wk rfl) [(19, 16)] rfl), (f280.map (ren [(19, 16)]) rfl rfl), (f281.map (ren [(19, 16)]) rfl rfl), (f279.map (ren [(19, 16)]) rfl rfl), hk250⟩, (ha.more (ha.more (ha.more ha.nil rfl) rfl) rfl)⟩
               | false =>
                intro h; replace h := cF h
                refine WC.cf rfl ?_
                refine WC.exit ?_
                refine DN.exitThen ?_
                refine DN.exitThen ?_
                obtain rfl := Option.some.inj h
                have h := hk250
                refine DN.hit ?_
                have f282 := f245.stp (S251.tr S261) rfl rfl
                have f283 := f253.stp S261 rfl rfl
                obtain rfl := Option.some.inj h
                exact DN.meet _ ⟨(fun b => ren [(19, 16)] (K260 b)), ((x53.2.1 : Int), (x53.2.2 : Int), (s7.2.2 : (List Int))), las7_0, lus7_0, rfl, (Stp.ren ((S244.tr (S251.tr S261)).wk rfl) [(19, 16)] rfl), (f282.map (ren [(19, 16)]) rfl rfl), (f264.map (ren [(19, 16)]) rfl rfl), (f283.map (ren [(19, 16)]) rfl rfl), rfl⟩ fun a ha => (ha.more (ha.more (ha.more ha.nil rfl) rfl) rfl)
             rintro _ w236 ⟨K237, s9, las9_0, lus9_0, rfl, S238, f239, f240, f241, rfl⟩
             have h := hK234
             dsimp only [aft] at h
             have f284 := f18.stp (S24.tr (S27.tr (S36.tr (S56.tr S238)))) rfl rfl
             obtain rfl := Option.some.inj h
             exact DN.meet _ ⟨K237, a5_0, u5_0, las9_0, lus9_0, rfl, S238.wk rfl, f284, f239, f240, f241⟩ fun a ha => (ha.more (ha.more (ha.more ha.nil rfl) rfl) rfl)
            | false =>
             intro h; replace h := cF h
             refine WC.cf rfl ?_
             refine WC.seq ?_
             refine WC.rs [(0, 2), (1, 2)] rfl ?_
             refine WO.pn 2 rfl ?_
             refine WO.fin ?_
             refine DN.seq ?_
             obtain ⟨q10, h, hK285⟩ := Option.bind_eq_some_iff.mp h
             refine WC.meet (fun L w' => ∃ (κ' : Col) (laq10_0 : Option Addr) (luq10_0 : Nat), L = [(0, .pointer (some ⟨b0, 0, none⟩)), (2, .pointer (some ⟨b2, 0, none⟩)), (3, .pointer (some ⟨b3, 0, none⟩))] ∧ Stp [7, 10] K55 w51 κ' w' ∧ Oc (Ep.int .i64) 2 κ' w' 7 laq10_0 luq10_0 q10 ∧ Bc κ' w' 10 b3 27 [.int .i64 x5.1.Inputs, .int .i64 x5.1.Latches, .slice laq10_0 q10.length luq10_0, .slice a5_1 x5.1.Gates.length u5_1, .slice a5_2 x5.1.Outs.length u5_2]) ?_ ?_
             ·
              revert h
              cases ht291 : (x9.1 == 5) with
              | true =>
               intro h; replace h := cT h
               refine WC.ct rfl ?_
               refine WC.rs [(0, 2), (1, 1), (2, 1), (3, 1), (4, 2), (5, 1)] rfl ?_
               refine WO.k2 rfl rfl rfl rfl (rn_fieldAddr Try.runUnderlying27 rfl Try.sizeOf24 rfl rfl) ?_
               have f292 := f28.stp (S36.tr S56) rfl rfl
               refine WO.k1 trivial rfl rfl rfl rfl (rn_ld Try.isAgg24 rfl rfl (hvE (f292.ld 2 rfl rfl))) ?_
               refine WO.bl (κ := K55) (E := (Ep.int .i64)) 17 [] (parts := [(0, .const (.int .i64 0))]) (cells := [.int .i64 0]) (xs := ([0] : List Int)) rfl rfl rfl rfl rfl rfl Try.underlying24 Tryinfo2 rfl rfl rfl rfl rfl rfl rfl rfl rfl rfl ⟨[.int .i64 0], [], Zl K55 w51 [], Zl K55 w51 [], rfl, Zl.sp (l1 := []) (l2 := []) rfl, Zl.sr (l1 := []) (l2 := []), rfl, rfl⟩ fun a65 u65 w293 K294 S295 f296 => ⟨trivial, ?_⟩
               obtain ⟨x66, hx66, h⟩ := Option.bind_eq_some_iff.mp h
               have f297 := f18.stp (S24.tr (S27.tr (S36.tr (S56.tr S295)))) rfl rfl
               refine WO.app (κ := K294) (E := (Ep.int .i64)) 7 [] rfl rfl rfl rfl rfl rfl rfl rfl rfl Try.underlying24 Tryinfo2 rfl rfl rfl rfl f297 (Sl.srcP (pu_int _) f296.rdc) sy_false hx66 rfl fun a66 u66 w298 K299 S300 f301 => ⟨trivial, ?_⟩
               refine WO.k2 rfl rfl rfl rfl (rn_fieldAddr Try.runUnderlying27 rfl Try.sizeOf24 rfl rfl) ?_
               have f302 := f292.stp (S295.tr S300) rfl rfl
               refine WO.stB (κ := K299) 10 (off := 2) (vc := [.slice a66 x66.length u66]) (cs' := [.int .i64 x5.1.Inputs, .int .i64 x5.1.Latches, .slice a66 x66.length u66, .slice a5_1 x5.1.Gates.length u5_1, .slice a5_2 x5.1.Outs.length u5_2]) rfl rfl rfl rfl rfl rfl rfl Try.sizeOf24 rfl rfl f302 rfl rfl fun w303 S304 f305 => ⟨trivial, ?_⟩
               refine WO.fin ?_
               have f306 := f301.stp S304 rfl rfl
               obtain rfl := Option.some.inj h
               exact DN.meet _ ⟨K299, a66, u66, rfl, (S295.tr (S300.tr S304)).wk rfl, f306, f305⟩ fun a ha => (ha.more (ha.more (ha.more ha.nil rfl) rfl) rfl)
              | false =>
               intro h; replace h := cF h
               refine WC.cf rfl ?_
               refine WC.skip ?_
               have f307 := f18.stp (S24.tr (S27.tr (S36.tr S56))) rfl rfl
               have f308 := f28.stp (S36.tr S56) rfl rfl
               obtain rfl := Option.some.inj h
               exact DN.meet _ ⟨K55, a5_0, u5_0, rfl, (Stp.refl _ _).wk rfl, f307, f308⟩ fun a ha => (ha.more (ha.more (ha.more ha.nil rfl) rfl) rfl)
             rintro _ w286 ⟨K287, laq10_0, luq10_0, rfl, S288, f289, f290⟩
             have h := hK285
             have f309 := f20.stp (S24.tr (S27.tr (S36.tr (S56.tr S288)))) rfl rfl
             have f310 := f59.stp S288 rfl rfl
             obtain rfl := Option.some.inj h
             exact DN.meet _ ⟨K287, laq10_0, luq10_0, a5_2, u5_2, rfl, S288.wk rfl, f289, f309, f310, f290⟩ fun a ha => (ha.more (ha.more (ha.more ha.nil rfl) rfl) rfl)
           rintro _ w225 ⟨K226, laq6_0, luq6_0, laq6_1, luq6_1, rfl, S227, f228, f229, f230, f231⟩
           have h := hK224
           have f311 := f19.stp (S24.tr (S27.tr (S36.tr (S56.tr S227)))) rfl rfl
           obtain rfl := Option.some.inj h
           exact DN.meet _ ⟨K226, laq6_0, luq6_0, a5_1, u5_1, laq6_1, luq6_1, rfl, S227.wk rfl, f228, f311, f229, f230, f231⟩ fun a ha => (ha.more (ha.more (ha.more ha.nil rfl) rfl) rfl)
         rintro _ w174 ⟨K175, laq5_0, luq5_0, laq5_1, luq5_1, laq5_2, luq5_2, rfl, S176, f177, f178, f179, f180, f181⟩
         have h := hK173
         obtain rfl := Option.some.inj h
         exact DN.meet _ ⟨K175, laq5_0, luq5_0, laq5_1, luq5_1, laq5_2, luq5_2, rfl, S176.wk rfl, f177, f178, f179, f180, f181⟩ fun a ha => (ha.more (ha.more (ha.more ha.nil rfl) rfl) rfl)
       rintro _ w123 ⟨K124, laq4_0, luq4_0, laq4_1, luq4_1, laq4_2, luq4_2, rfl, S125, f126, f127, f128, f129, f130⟩
       have h := hK122
       obtain rfl := Option.some.inj h
       exact DN.meet _ ⟨K124, laq4_0, luq4_0, laq4_1, luq4_1, laq4_2, luq4_2, rfl, S125.wk rfl, f126, f127, f128, f129, f130⟩ fun a ha => (ha.more (ha.more (ha.more ha.nil rfl) rfl) rfl)
     rintro _ w95 ⟨K96, laq3_0, luq3_0, laq3_1, luq3_1, laq3_2, luq3_2, rfl, S97, f98, f99, f100, f101, f102⟩
     have h := hK94
     obtain rfl := Option.some.inj h
     exact DN.meet _ ⟨K96, laq3_0, luq3_0, laq3_1, luq3_1, laq3_2, luq3_2, rfl, S97.wk rfl, f98, f99, f100, f101, f102⟩ fun a ha => (ha.more (ha.more (ha.more ha.nil rfl) rfl) rfl)
   rintro _ w61 ⟨K62, laq2_0, luq2_0, laq2_1, luq2_1, laq2_2, luq2_2, rfl, S63, f64, f65, f66, f67, f68⟩
   have h := hK60
   refine DN.block ?_
   obtain rfl := Option.some.inj h
   exact DN.meet _ ⟨(fun b => ren [(16, 13)] (K62 b)), laq2_0, luq2_0, laq2_1, luq2_1, laq2_2, luq2_2, rfl, (Stp.ren ((S56.tr S63).wk rfl) [(16, 13)] rfl), (f64.map (ren [(16, 13)]) rfl rfl), (f65.map (ren [(16, 13)]) rfl rfl), (f66.map (ren [(16, 13)]) rfl rfl), (f67.map (ren [(16, 13)]) rfl rfl), (f68.map (ren [(16, 13)]) rfl rfl)⟩ fun a ha => (ha.more (ha.more (ha.more ha.nil rfl) rfl) rfl)
  | false =>
   intro h; replace h := cF h
   refine WC.cf rfl ?_
   refine WC.skip ?_
   have f312 := f18.stp (S24.tr (S27.tr S36)) rfl rfl
   have f313 := f19.stp (S24.tr (S27.tr S36)) rfl rfl
   have f314 := f20.stp (S24.tr (S27.tr S36)) rfl rfl
   have f315 := f28.stp S36 rfl rfl
   obtain rfl := Option.some.inj h
   exact DN.meet _ ⟨K35, a5_0, u5_0, a5_1, u5_1, a5_2, u5_2, rfl, (Stp.refl _ _).wk rfl, f312, f313, f314, f39, f315⟩ fun a ha => (ha.more (ha.more (ha.more ha.nil rfl) rfl) rfl)
 rintro _ w41 ⟨K42, laq1_0, luq1_0, laq1_1, luq1_1, laq1_2, luq1_2, rfl, S43, f44, f45, f46, f47, f48⟩
 have h := hK40
 refine DN.seq ?_
 refine WC.seq ?_
 refine WC.rs [(0, 1), (1, 1)] rfl ?_
 refine WO.k1 trivial rfl rfl rfl rfl (rn_la (cs := [.int .i64 q1.2.2.1, .int .i64 q1.2.2.2.1, .slice laq1_0 q1.2.2.2.2.1.length luq1_0, .slice laq1_1 q1.2.2.2.2.2.1.length luq1_1, .slice laq1_2 q1.2.2.2.2.2.2.length luq1_2]) Try.isAgg27 Try.sizeOf27 rfl rfl rfl (haE f48.cells)) ?_
 have f316 := f4.stp (S15.tr (S24.tr (S27.tr (S36.tr S43)))) rfl rfl
 refine WO.stB0 (κ := K42) 3 (vc := [.int .i64 q1.2.2.1, .int .i64 q1.2.2.2.1, .slice laq1_0 q1.2.2.2.2.1.length luq1_0, .slice laq1_1 q1.2.2.2.2.2.1.length luq1_1, .slice laq1_2 q1.2.2.2.2.2.2.length luq1_2]) rfl rfl rfl rfl rfl rfl rfl Try.sizeOf27 rfl rfl f316 rfl fun w317 S318 f319 => ⟨trivial, ?_⟩
 refine WO.fin ?_
 refine DN.seq ?_
 refine WC.ret ?_
 have f320 := hE.stp (S3.tr (S15.tr (S24.tr (S27.tr (S36.tr (S43.tr S318)))))) rfl rfl
 have f321 := f44.stp S318 rfl rfl
 have f322 := f45.stp S318 rfl rfl
 have f323 := f46.stp S318 rfl rfl
 have f324 := f47.stp S318 rfl rfl
 refine DN.res (l := [.cell 2 27]) Try.results30 (res_cellA rfl f319 Try.isAgg27 Try.sizeOf27 rfl rfl) rfl ?_
 obtain rfl := Option.some.inj h
 exact ⟨(fun b => ren [(7, 3), (8, 4), (9, 5), (13, 2)] (K42 b)), laq1_0, luq1_0, laq1_1, luq1_1, laq1_2, luq1_2, rfl, (f320.map (ren [(7, 3), (8, 4), (9, 5), (13, 2)]) rfl rfl), (f321.map (ren [(7, 3), (8, 4), (9, 5), (13, 2)]) rfl rfl), (f322.map (ren [(7, 3), (8, 4), (9, 5), (13, 2)]) rfl rfl), (f323.map (ren [(7, 3), (8, 4), (9, 5), (13, 2)]) rfl rfl), (f324.map (ren [(7, 3), (8, 4), (9, 5), (13, 2)]) rfl rfl)⟩

/- loop.example/g00869/impl.areLetters -/
theorem i_areLetters_ok {w : World} {κ : Col} {a0 : Option Addr} {u0 : Nat} {p0 : (List Int)} {p1 : Int} (g0 : Rd (Rp.int .i64) κ w 0 a0 u0 p0) {r : Bool} (h : i_areLetters p0 p1 = some r) : Ret Try.prog 62 [.slice a0 p0.length u0, .int .i64 p1] w (fun v w' => ∃ (κ' : Col), v = .bool r ∧ Ent κ w κ' w') := by
 unfold i_areLetters at h
 refine Ret.enter Try.func62 rfl Try.ntmps62 rfl ?_
 dsimp only [envOf]
 have hE := Ent.refl κ w
 refine WC.seq ?_
 refine WC.rs [(0, 1), (1, 2)] rfl ?_
 refine WO.box (κ := κ) 2 rfl rfl rfl rfl rfl rfl rfl fun b3 w1 K2 S3 f4 => ⟨trivial, ?_⟩
 refine WO.pn 1 rfl ?_
 refine WO.fin ?_
 refine DN.seq ?_
 refine WC.seq ?_
 refine WC.rs [(0, 2), (1, 2), (2, 1), (3, 2), (4, 2)] rfl ?_
 refine WO.pn 1 rfl ?_
 refine WO.k2 rfl rfl rfl rfl (rn_makeFunc (first := []) (captured := [.tmp 3]) rfl rfl rfl ⟨_, rfl⟩) ?_
 obtain ⟨x7, hx7, h⟩ := Option.bind_eq_some_iff.mp h
 have f5 := g0.stp S3 rfl rfl
 refine WO.call rfl rfl rfl rfl rfl rfl Try.call80 (slices_ContainsFunc_I_int64__i_areLetters_1_ok (κ := fun b => mp [] 0 (K2 b)) (Sl.map f5 (mp [] 0) rfl rfl) (f4.map (mp [] 0) rfl rfl) hx7) ?_
 rintro _ w6 ⟨k7, rfl, e8⟩
 obtain ⟨K9, S10, m11⟩ := Ent.mixed (l := []) (κ := K2) e8 3 rfl
 refine ⟨trivial, ?_⟩
 refine WO.pn 2 rfl ?_
 refine WO.fin ?_
 refine DN.seq ?_
 refine WC.ret ?_
 have f13 := hE.stp (S3.tr S10) rfl rfl
 refine DN.res (l := [.tmp 4]) Try.results62 (res_tmp rfl rfl) rfl ?_
 obtain rfl := Option.some.inj h
 exact ⟨K9, rfl, f13⟩

/- loop.example/g00869/impl.isCircuit -/
theorem i_isCircuit_ok {w : World} {κ : Col} {a0_2 : Option Addr} {u0_2 : Nat} {a0_3 : Option Addr} {u0_3 : Nat} {a0_4 : Option Addr} {u0_4 : Nat} {p0 : Circuit} (g0_2 : Rd (Rp.int .i64) κ w 0 a0_2 u0_2 p0.Next) (g0_3 : Rd Gate.rp κ w 0 a0_3 u0_3 p0.Gates) (g0_4 : Rd (Rp.int .i64) κ w 0 a0_4 u0_4 p0.Outs) {r : Bool} (h : i_isCircuit p0 = some r) : Ret Try.prog 31 [.agg #[.int .i64 p0.Inputs, .int .i64 p0.Latches, .slice a0_2 p0.Next.length u0_2, .slice a0_3 p0.Gates.length u0_3, .slice a0_4 p0.Outs.length u0_4]] w (fun v w' => ∃ (κ' : Col), v = .bool r ∧ Ent κ w κ' w') := by
 unfold i_isCircuit at h
 refine Ret.enter Try.func31 rfl Try.ntmps31 rfl ?_
 dsimp only [envOf]
 have hE := Ent.refl κ w
 refine WC.seq ?_
 refine WC.rs [(0, 1), (1, 2)] rfl ?_
 refine WO.box (κ := κ) 2 rfl rfl rfl rfl rfl rfl rfl fun b1 w1 K2 S3 f4 => ⟨trivial, ?_⟩
 refine WO.pn 1 rfl ?_
 refine WO.fin ?_
 refine DN.seq ?_
 refine WC.seq ?_
 refine WC.seq ?_
 refine WC.rs [(0, 2), (1, 1), (2, 2), (3, 2), (4, 2), (5, 1), (6, 2), (7, 2), (8, 2), (9, 2), (10, 1), (11, 2), (12, 2), (13, 2), (14, 2), (15, 1), (16, 2), (17, 2), (18, 2), (19, 2), (20, 1), (21, 2), (22, 2), (23, 1), (24, 2), (25, 2), (26, 2), (27, 2), (28, 1), (29, 2), (30, 2), (31, 2), (32, 2), (33, 2), (34, 1), (35, 2), (36, 2), (37, 2)] rfl ?_
 refine WO.k2 rfl rfl rfl rfl (rn_fieldAddr Try.runUnderlying27 rfl Try.sizeOf2 rfl rfl) ?_
 refine WO.k1 trivial rfl rfl rfl rfl (rn_ld Try.isAgg2 rfl rfl (hvE (f4.ld 0 rfl rfl))) ?_
 refine WO.pn 2 rfl ?_
 obtain ⟨p13, h, hK5⟩ := Option.bind_eq_some_iff.mp h
 refine WO.meet [(4, 2), (5, 1), (6, 2), (7, 2)] [(8, 2), (9, 2), (10, 1), (11, 2), (12, 2), (13, 2), (14, 2), (15, 1), (16, 2), (17, 2), (18, 2), (19, 2), (20, 1), (21, 2), (22, 2), (23, 1), (24, 2), (25, 2), (26, 2), (27, 2), (28, 1), (29, 2), (30, 2), (31, 2), (32, 2), (33, 2), (34, 1), (35, 2), (36, 2), (37, 2)] (fun L w' => L = [(1, .pointer (some ⟨b1, 0, none⟩)), (13, .bool p13)] ∧ ∃ κ', Stp [] K2 w1 κ' w') trivial ?_ ?_
 ·
  revert h
  cases ht6 : decide (p0.Inputs < 0) with
  | true =>
   intro h; replace h := cT h
   refine WO.pn 1 rfl ?_
   refine WO.ls rfl rfl rfl rfl ?_
   refine WO.pn 2 rfl ?_
   obtain rfl := Option.some.inj h
   exact WO.met _ trivial ⟨rfl, _, (Stp.refl _ _).wk rfl⟩ fun a ha => (ha.more (ha.more ha.nil rfl) rfl)
  | false =>
   intro h; replace h := cF h
   refine WO.k2 rfl rfl rfl rfl (rn_fieldAddr Try.runUnderlying27 rfl Try.sizeOf2 rfl rfl) ?_
   refine WO.k1 trivial rfl rfl rfl rfl (rn_ld Try.isAgg2 rfl rfl (hvE (f4.ld 0 rfl rfl))) ?_
   refine WO.pn 2 rfl ?_
   obtain rfl := Option.some.inj h
   exact WO.met _ trivial ⟨rfl, _, (Stp.refl _ _).wk rfl⟩ fun a ha => (ha.more (ha.more ha.nil rfl) rfl)
 rintro _ w7 _ ⟨rfl, K8, S9⟩
 have h := hK5
 refine WO.pn 1 rfl ?_
 obtain ⟨p18, h, hK10⟩ := Option.bind_eq_some_iff.mp h
 refine WO.meet [(9, 2), (10, 1), (11, 2), (12, 2)] [(13, 2), (14, 2), (15, 1), (16, 2), (17, 2), (18, 2), (19, 2), (20, 1), (21, 2), (22, 2), (23, 1), (24, 2), (25, 2), (26, 2), (27, 2), (28, 1), (29, 2), (30, 2), (31, 2), (32, 2), (33, 2), (34, 1), (35, 2), (36, 2), (37, 2)] (fun L w' => L = [(1, .pointer (some ⟨b1, 0, none⟩)), (18, .bool p18)] ∧ ∃ κ', Stp [] K8 w7 κ' w') trivial ?_ ?_
 ·
  revert h
  cases ht11 : p13 with
  | true =>
   intro h; replace h := cT h
   refine WO.pn 1 rfl ?_
   refine WO.ls rfl rfl rfl rfl ?_
   refine WO.pn 2 rfl ?_
   obtain rfl := Option.some.inj h
   exact WO.met _ trivial ⟨rfl, _, (Stp.refl _ _).wk rfl⟩ fun a ha => (ha.more (ha.more ha.nil rfl) rfl)
  | false =>
   intro h; replace h := cF h
   refine WO.k2 rfl rfl rfl rfl (rn_fieldAddr Try.runUnderlying27 rfl Try.sizeOf2 rfl rfl) ?_
   have f12 := f4.stp S9 rfl rfl
   refine WO.k1 trivial rfl rfl rfl rfl (rn_ld Try.isAgg2 rfl rfl (hvE (f12.ld 1 rfl rfl))) ?_
   refine WO.pn 2 rfl ?_
   obtain rfl := Option.some.inj h
   exact WO.met _ trivial ⟨rfl, _, (Stp.refl _ _).wk rfl⟩ fun a ha => (ha.more (ha.more ha.nil rfl) rfl)
 rintro _ w13 _ ⟨rfl, K14, S15⟩
 have h := hK10
 refine WO.pn 1 rfl ?_
 obtain ⟨p23, h, hK16⟩ := Option.bind_eq_some_iff.mp h
 refine WO.meet [(14, 2), (15, 1), (16, 2), (17, 2)] [(18, 2), (19, 2), (20, 1), (21, 2), (22, 2), (23, 1), (24, 2), (25, 2), (26, 2), (27, 2), (28, 1), (29, 2), (30, 2), (31, 2), (32, 2), (33, 2), (34, 1), (35, 2), (36, 2), (37, 2)] (fun L w' => L = [(1, .pointer (some ⟨b1, 0, none⟩)), (23, .bool p23)] ∧ ∃ κ', Stp [] K14 w13 κ' w') trivial ?_ ?_
 ·
  revert h
  cases ht17 : p18 with
  | true =>
   intro h; replace h := cT h
   refine WO.pn 1 rfl ?_
   refine WO.ls rfl rfl rfl rfl ?_
   refine WO.pn 2 rfl ?_
   obtain rfl := Option.some.inj h
   exact WO.met _ trivial ⟨rfl, _, (Stp.refl _ _).wk rfl⟩ fun a ha => (ha.more (ha.more ha.nil rfl) rfl)
  | false =>
   intro h; replace h := cF h
   refine WO.k2 rfl rfl rfl rfl (rn_fieldAddr Try.runUnderlying27 rfl Try.sizeOf2 rfl rfl) ?_
   have f18 := f4.stp (S9.tr S15) rfl rfl
   refine WO.k1 trivial rfl rfl rfl rfl (rn_ld Try.isAgg2 rfl rfl (hvE (f18.ld 1 rfl rfl))) ?_
   refine WO.pn 2 rfl ?_
   obtain rfl := Option.some.inj h
   exact WO.met _ trivial ⟨rfl, _, (Stp.refl _ _).wk rfl⟩ fun a ha => (ha.more (ha.more ha.nil rfl) rfl)
 rintro _ w19 _ ⟨rfl, K20, S21⟩
 have h := hK16
 refine WO.pn 1 rfl ?_
 obtain ⟨p31, h, hK22⟩ := Option.bind_eq_some_iff.mp h
 refine WO.meet [(19, 2), (20, 1), (21, 2), (22, 2), (23, 1), (24, 2), (25, 2)] [(26, 2), (27, 2), (28, 1), (29, 2), (30, 2), (31, 2), (32, 2), (33, 2), (34, 1), (35, 2), (36, 2), (37, 2)] (fun L w' => L = [(1, .pointer (some ⟨b1, 0, none⟩)), (31, .bool p31)] ∧ ∃ κ', Stp [] K20 w19 κ' w') trivial ?_ ?_
 ·
  revert h
  cases ht23 : p23 with
  | true =>
   intro h; replace h := cT h
   refine WO.pn 1 rfl ?_
   refine WO.ls rfl rfl rfl rfl ?_
   refine WO.pn 2 rfl ?_
   refine WO.ls rfl rfl rfl rfl ?_
   refine WO.pn 2 rfl ?_
   obtain rfl := Option.some.inj h
   exact WO.met _ trivial ⟨rfl, _, (Stp.refl _ _).wk rfl⟩ fun a ha => (ha.more (ha.more ha.nil rfl) rfl)
  | false =>
   intro h; replace h := cF h
   refine WO.k2 rfl rfl rfl rfl (rn_fieldAddr Try.runUnderlying27 rfl Try.sizeOf24 rfl rfl) ?_
   have f24 := f4.stp (S9.tr (S15.tr S21)) rfl rfl
   refine WO.k1 trivial rfl rfl rfl rfl (rn_ld Try.isAgg24 rfl rfl (hvE (f24.ld 2 rfl rfl))) ?_
   refine WO.k2 rfl rfl rfl rfl (rn_len Try.runUnderlying24 rfl rfl) ?_
   refine WO.k2 rfl rfl rfl rfl (rn_fieldAddr Try.runUnderlying27 rfl Try.sizeOf2 rfl rfl) ?_
   refine WO.k1 trivial rfl rfl rfl rfl (rn_ld Try.isAgg2 rfl rfl (hvE (f24.ld 1 rfl rfl))) ?_
   refine WO.pn 2 rfl ?_
   obtain rfl := Option.some.inj h
   exact WO.met _ trivial ⟨rfl, _, (Stp.refl _ _).wk rfl⟩ fun a ha => (ha.more (ha.more ha.nil rfl) rfl)
 rintro _ w25 _ ⟨rfl, K26, S27⟩
 have h := hK22
 refine WO.pn 1 rfl ?_
 obtain ⟨p37, h, hK28⟩ := Option.bind_eq_some_iff.mp h
 refine WO.meet [(27, 2), (28, 1), (29, 2), (30, 2), (31, 2)] [(32, 2), (33, 2), (34, 1), (35, 2), (36, 2), (37, 2)] (fun L w' => L = [(1, .pointer (some ⟨b1, 0, none⟩)), (37, .bool p37)] ∧ ∃ κ', Stp [] K26 w25 κ' w') trivial ?_ ?_
 ·
  revert h
  cases ht29 : p31 with
  | true =>
   intro h; replace h := cT h
   refine WO.pn 1 rfl ?_
   refine WO.ls rfl rfl rfl rfl ?_
   refine WO.pn 3 rfl ?_
   obtain rfl := Option.some.inj h
   exact WO.met _ trivial ⟨rfl, _, (Stp.refl _ _).wk rfl⟩ fun a ha => (ha.more (ha.more ha.nil rfl) rfl)
  | false =>
   intro h; replace h := cF h
   refine WO.k2 rfl rfl rfl rfl (rn_fieldAddr Try.runUnderlying27 rfl Try.sizeOf25 rfl rfl) ?_
   have f30 := f4.stp (S9.tr (S15.tr (S21.tr S27))) rfl rfl
   refine WO.k1 trivial rfl rfl rfl rfl (rn_ld Try.isAgg25 rfl rfl (hvE (f30.ld 3 rfl rfl))) ?_
   refine WO.k2 rfl rfl rfl rfl (rn_len Try.runUnderlying25 rfl rfl) ?_
   refine WO.pn 2 rfl ?_
   obtain rfl := Option.some.inj h
   exact WO.met _ trivial ⟨rfl, _, (Stp.refl _ _).wk rfl⟩ fun a ha => (ha.more (ha.more ha.nil rfl) rfl)
 rintro _ w31 _ ⟨rfl, K32, S33⟩
 have h := hK28
 refine WO.pn 1 rfl ?_
 obtain ⟨p43, h, hK34⟩ := Option.bind_eq_some_iff.mp h
 refine WO.meet [(33, 2), (34, 1), (35, 2), (36, 2), (37, 2)] [] (fun L w' => L = [(1, .pointer (some ⟨b1, 0, none⟩)), (43, .bool p43)] ∧ ∃ κ', Stp [] K32 w31 κ' w') trivial ?_ ?_
 ·
  revert h
  cases ht35 : p37 with
  | true =>
   intro h; replace h := cT h
   refine WO.pn 1 rfl ?_
   refine WO.ls rfl rfl rfl rfl ?_
   refine WO.pn 3 rfl ?_
   obtain rfl := Option.some.inj h
   exact WO.met _ trivial ⟨rfl, _, (Stp.refl _ _).wk rfl⟩ fun a ha => (ha.more (ha.more ha.nil rfl) rfl)
  | false =>
   intro h; replace h := cF h
   refine WO.k2 rfl rfl rfl rfl (rn_fieldAddr Try.runUnderlying27 rfl Try.sizeOf24 rfl rfl) ?_
   have f36 := f4.stp (S9.tr (S15.tr (S21.tr (S27.tr S33)))) rfl rfl
   refine WO.k1 trivial rfl rfl rfl rfl (rn_ld Try.isAgg24 rfl rfl (hvE (f36.ld 4 rfl rfl))) ?_
   refine WO.k2 rfl rfl rfl rfl (rn_len Try.runUnderlying24 rfl rfl) ?_
   refine WO.pn 2 rfl ?_
   obtain rfl := Option.some.inj h
   exact WO.met _ trivial ⟨rfl, _, (Stp.refl _ _).wk rfl⟩ fun a ha => (ha.more (ha.more ha.nil rfl) rfl)
 rintro _ w37 _ ⟨rfl, K38, S39⟩
 have h := hK34
 refine WO.fin ?_
 refine DN.seq ?_
 revert h
 cases ht40 : p43 with
 | true =>
  intro h; replace h := cT h
  refine WC.ct rfl ?_
  refine WC.seq ?_
  refine WC.rs [(0, 2)] rfl ?_
  refine WO.pn 1 rfl ?_
  refine WO.fin ?_
  refine DN.seq ?_
  refine WC.ret ?_
  refine DN.retThen ?_
  have f41 := hE.stp (S3.tr (S9.tr (S15.tr (S21.tr (S27.tr (S33.tr S39)))))) rfl rfl
  refine DN.res (l := [.tmp 2]) Try.results31 (res_tmp rfl rfl) rfl ?_
  obtain rfl := Option.some.inj h
  exact ⟨K38, rfl, f41⟩
 | false =>
  intro h; replace h := cF h
  refine WC.cf rfl ?_
  refine WC.skip ?_
  refine DN.seq ?_
  refine WC.seq ?_
  refine WC.rs [(0, 2), (1, 1), (2, 2), (3, 2), (4, 1), (5, 2), (6, 2)] rfl ?_
  refine WO.k2 rfl rfl rfl rfl (rn_fieldAddr Try.runUnderlying27 rfl Try.sizeOf2 rfl rfl) ?_
  have f42 := f4.stp (S9.tr (S15.tr (S21.tr (S27.tr (S33.tr S39))))) rfl rfl
  refine WO.k1 trivial rfl rfl rfl rfl (rn_ld Try.isAgg2 rfl rfl (hvE (f42.ld 0 rfl rfl))) ?_
  refine WO.pn 1 rfl ?_
  refine WO.k2 rfl rfl rfl rfl (rn_fieldAddr Try.runUnderlying27 rfl Try.sizeOf2 rfl rfl) ?_
  refine WO.k1 trivial rfl rfl rfl rfl (rn_ld Try.isAgg2 rfl rfl (hvE (f42.ld 1 rfl rfl))) ?_
  refine WO.pn 2 rfl ?_
  refine WO.fin ?_
  refine DN.seq ?_
  refine WC.seq ?_
  refine WC.seq ?_
  refine WC.rs [(0, 2), (1, 1), (2, 2), (3, 2)] rfl ?_
  refine WO.k2 rfl rfl rfl rfl (rn_fieldAddr Try.runUnderlying27 rfl Try.sizeOf25 rfl rfl) ?_
  refine WO.k1 trivial rfl rfl rfl rfl (rn_ld Try.isAgg25 rfl rfl (hvE (f42.ld 3 rfl rfl))) ?_
  refine WO.k2 rfl rfl rfl rfl (rn_len Try.runUnderlying25 rfl rfl) ?_
  refine WO.pn 1 rfl ?_
  refine WO.fin ?_
  refine DN.seq ?_
  have hN43 : (p0.Gates.length : Int) ≤ 9223372036854775807 := g0_3.len_le
  obtain ⟨q2, hq45, hK44⟩ := Option.bind_eq_some_iff.mp h
  clear h
  refine WC.meet (fun L w' => ∃ (κ' : Col), L = [(1, .pointer (some ⟨b1, 0, none⟩))] ∧ Stp [3] K38 w37 κ' w' ∧ q2 = Sum.inr ()) ?_ ?_
  ·
   refine WC.block ?_
   refine WC.loop (fun k L w' => ∃ (κ' : Col) (v53 : Int), L = [(1, .pointer (some ⟨b1, 0, none⟩)), (3, .int .i64 (IntKind.i64.wrap ((IntKind.i64.wrap (1 + p0.Inputs)) + p0.Latches))), (51, .slice a0_3 p0.Gates.length u0_3), (52, .int .i64 (p0.Gates.length : Int)), (53, .int .i64 v53)] ∧ Stp [3] K38 w37 κ' w' ∧ 0 ≤ v53 ∧ Int.toNat ((p0.Gates.length : Int) - v53) = k ∧ cntM (i_isCircuit_b0 p0) k v53 () = some q2) ⟨_, _, ⟨K38, 0, rfl, (Stp.refl _ _).wk rfl, (by decide), (by simp), hq45⟩, fun a ha => (ha.more (ha.more (ha.more (ha.more (ha.more ha.nil rfl) rfl) rfl) rfl) rfl)⟩ ?_
   rintro k _ w49 ⟨K50, v53, rfl, S51, hj43, hJ43, h⟩
   rcases k with _ | k
   ·
    have hk52 := h; obtain ⟨o43, h⟩ := ex_eq (Sum.inr (Sum.inl ()) : Bool ⊕ ((Unit) ⊕ (Unit)))
    have hc43 : decide (v53 < (p0.Gates.length : Int)) = false := decide_eq_false (by omega)
    refine WC.seq ?_
    refine WC.rs [(0, 2)] rfl ?_
    refine WO.pn 1 rfl ?_
    refine WO.fin ?_
    refine DN.seq ?_
    refine WC.seq ?_
    refine WC.cf' rfl hc43 ?_
    refine WC.exit ?_
    refine DN.exitThen ?_
    refine DN.exitThen ?_
    obtain rfl := Option.some.inj h
    have h := hk52
    refine DN.hit ?_
    obtain rfl := Option.some.inj h
    exact DN.meet _ ⟨K50, rfl, S51.wk rfl, rfl⟩ fun a ha => (ha.more ha.nil rfl)
   ·
    obtain ⟨o43, h, hk52⟩ := Option.bind_eq_some_iff.mp h; unfold i_isCircuit_b0 at h
    have hc43 : decide (v53 < (p0.Gates.length : Int)) = true := decide_eq_true (by omega)
    refine WC.seq ?_
    refine WC.rs [(0, 2)] rfl ?_
    refine WO.pn 1 rfl ?_
    refine WO.fin ?_
    refine DN.seq ?_
    refine WC.seq ?_
    refine WC.ct' rfl hc43 ?_
    refine WC.skip ?_
    refine DN.seq ?_
    refine WC.seq ?_
    refine WC.block ?_
    refine WC.seq ?_
    refine WC.rs [(0, 2), (1, 2), (2, 1), (3, 1), (4, 2), (5, 1)] rfl ?_
    refine WO.pn 1 rfl ?_
    obtain ⟨x56, hx56, h⟩ := Option.bind_eq_some_iff.mp h
    refine WO.k2 rfl rfl rfl rfl (rn_index g0_3 hx56 Try.runUnderlying25 Try.sizeOf33 rfl rfl rfl rfl) ?_
    have f53 := g0_3.stp (S3.tr (S9.tr (S15.tr (S21.tr (S27.tr (S33.tr (S39.tr S51))))))) rfl rfl
    obtain ⟨cse54, hre54, hle54⟩ := (f53).gSt hx56
    obtain rfl := Gate.un hre54
    refine WO.k1 trivial rfl rfl rfl rfl (rn_la (cs := [.int .i64 x56.A, .int .i64 x56.B]) Try.isAgg33 Try.sizeOf33 rfl rfl rfl (haE hle54)) ?_
    refine WO.alloc (κ := K50) 3 rfl rfl rfl rfl rfl Try.zeroValue33 rfl fun b5 w55 K56 S57 f58 => ⟨trivial, ?_⟩
    refine WO.pn 1 rfl ?_
    refine WO.stB0 (κ := K56) 3 (vc := [.int .i64 x56.A, .int .i64 x56.B]) rfl rfl rfl rfl rfl rfl rfl Try.sizeOf33 rfl rfl f58 rfl fun w59 S60 f61 => ⟨trivial, ?_⟩
    refine WO.fin ?_
    refine DN.seq ?_
    refine WC.seq ?_
    refine WC.rs [(0, 2), (1, 1), (2, 2), (3, 1), (4, 1), (5, 2), (6, 2), (7, 2), (8, 2), (9, 1), (10, 2)] rfl ?_
    refine WO.k2 rfl rfl rfl rfl (rn_fieldAddr Try.runUnderlying33 rfl Try.sizeOf2 rfl rfl) ?_
    refine WO.k1 trivial rfl rfl rfl rfl (rn_ld Try.isAgg2 rfl rfl (hvE (f61.ld 0 rfl rfl))) ?_
    refine WO.k2 rfl rfl rfl rfl (rn_fieldAddr Try.runUnderlying33 rfl Try.sizeOf2 rfl rfl) ?_
    refine WO.k1 trivial rfl rfl rfl rfl (rn_ld Try.isAgg2 rfl rfl (hvE (f61.ld 1 rfl rfl))) ?_
    refine WO.bl (κ := K56) (E := (Ep.int .i64)) 4 [] (parts := [(0, .tmp 59), (1, .tmp 61)]) (cells := [.int .i64 x56.A, .int .i64 x56.B]) (xs := ([x56.A, x56.B] : List Int)) rfl rfl rfl rfl rfl rfl Try.underlying24 Tryinfo2 rfl rfl rfl rfl rfl rfl rfl rfl rfl rfl ⟨[.int .i64 x56.A], [.int .i64 x56.B], Zl K56 w59 [], Zl K56 w59 [], rfl, Zl.sp (l1 := []) (l2 := []) rfl, Zl.sr (l1 := []) (l2 := []), rfl, ⟨[.int .i64 x56.B], [], Zl K56 w59 [], Zl K56 w59 [], rfl, Zl.sp (l1 := []) (l2 := []) rfl, Zl.sr (l1 := []) (l2 := []), rfl, rfl⟩⟩ fun a62 u62 w62 K63 S64 f65 => ⟨trivial, ?_⟩
    refine WO.pn 4 rfl ?_
    obtain ⟨x67, hx67, h⟩ := Option.bind_eq_some_iff.mp h
    refine WO.call rfl rfl rfl rfl rfl rfl Try.call62 (i_areLetters_ok (κ := fun b => mp [] 0 (K63 b)) (Sl.map f65.rdc (mp [] 0) rfl rfl) hx67) ?_
    rintro _ w66 ⟨k67, rfl, e68⟩
    obtain ⟨K69, S70, m71⟩ := Ent.mixed (l := []) (κ := K63) e68 5 rfl
    refine ⟨trivial, ?_⟩
    refine WO.pn 1 rfl ?_
    refine WO.fin ?_
    refine DN.seq ?_
    revert h
    cases ht73 : (!x67) with
    | true =>
     intro h; replace h := cT h
     refine WC.ct rfl ?_
     refine WC.seq ?_
     refine WC.rs [(0, 2)] rfl ?_
     refine WO.pn 1 rfl ?_
     refine WO.fin ?_
     refine DN.seq ?_
     refine WC.ret ?_
     refine DN.retBlock ?_
     refine DN.retThen ?_
     refine DN.retThen ?_
     obtain rfl := Option.some.inj h
     obtain rfl := Option.some.inj hk52
     have h := hK44
     dsimp only [aft] at h
     refine DN.retBlock ?_
     refine DN.retMeet ?_
     refine DN.retThen ?_
     have f74 := hE.stp (S3.tr (S9.tr (S15.tr (S21.tr (S27.tr (S33.tr (S39.tr (S51.tr (S57.tr (S60.tr (S64.tr S70))))))))))) rfl rfl
     refine DN.res (l := [.tmp 2]) Try.results31 (res_tmp rfl rfl) rfl ?_
     obtain rfl := Option.some.inj h
     exact ⟨K69, rfl, f74⟩
    | false =>
     intro h; replace h := cF h
     refine WC.cf rfl ?_
     refine WC.skip ?_
     refine DN.block ?_
     refine DN.seq ?_
     refine WC.rs [(0, 2), (1, 2)] rfl ?_
     refine WO.pn 2 rfl ?_
     refine WO.fin ?_
     have hw43 : IntKind.wrap .i64 (v53 + 1) = v53 + 1 := wr1 hj43 (of_decide_eq_true hc43) hN43
     rw [hw43]
     have hc43 := of_decide_eq_true hc43
     obtain rfl := Option.some.inj h
     refine DN.round fun a ha => ?_
     exact ⟨k, _, Nat.lt_succ_self _, ⟨K69, v53 + 1, rfl, (S51.tr (S57.tr (S60.tr (S64.tr S70)))).wk rfl, by omega, by omega, hk52⟩, (ha.more (ha.more (ha.more (ha.more (ha.more ha.nil rfl) rfl) rfl) rfl) rfl)⟩
  rintro _ w46 ⟨K47, rfl, S48, rfl⟩
  have h := hK44
  dsimp only [aft] at h
  refine DN.seq ?_
  refine WC.seq ?_
  refine WC.rx (κ := K47) [2] none [(0, 2), (1, 0), (2, 0), (3, 1), (4, 2), (5, 1), (6, 2), (7, 2), (8, 0), (9, 0), (10, 1), (11, 2), (12, 1), (13, 2), (14, 2)] [] (by kernel_rfl) (by kernel_rfl) fun w76 S75 => ?_
  refine WO.k2 rfl rfl rfl rfl (rn_fieldAddr Try.runUnderlying27 rfl Try.sizeOf24 rfl rfl) ?_
  have f77 := f42.stp (S48.tr S75) rfl rfl
  refine WO.k0 rfl rfl rfl rfl (rn_ld Try.isAgg24 rfl rfl (hvC (f77.ld 2 rfl rfl) rfl)) ?_
  refine WO.k0 rfl rfl rfl rfl (rn_la (cs := [.int .i64 p0.Inputs, .int .i64 p0.Latches, .slice a0_2 p0.Next.length u0_2, .slice a0_3 p0.Gates.length u0_3, .slice a0_4 p0.Outs.length u0_4]) Try.isAgg27 Try.sizeOf27 rfl rfl rfl (haC f77.cells rfl)) ?_
  obtain ⟨x73, hx73, h⟩ := Option.bind_eq_some_iff.mp h
  have f78 := g0_2.stp (S3.tr (S9.tr (S15.tr (S21.tr (S27.tr (S33.tr (S39.tr (S48.tr S75)))))))) rfl rfl
  have f79 := g0_3.stp (S3.tr (S9.tr (S15.tr (S21.tr (S27.tr (S33.tr (S39.tr (S48.tr S75)))))))) rfl rfl
  have f80 := g0_4.stp (S3.tr (S9.tr (S15.tr (S21.tr (S27.tr (S33.tr (S39.tr (S48.tr S75)))))))) rfl rfl
  refine WO.call rfl rfl rfl rfl rfl rfl Try.call36 (i_signalsOf_ok (κ := fun b => mp [] 0 (K47 b)) (p0 := p0) (Sl.map f78 (mp [] 0) rfl rfl) (Sl.map f79 (mp [] 0) rfl rfl) (Sl.map f80 (mp [] 0) rfl rfl) hx73) ?_
  rintro _ w81 ⟨k82, rfl, e83⟩
  obtain ⟨K84, S85, m86⟩ := Ent.mixed (l := []) (κ := K47) e83 3 rfl
  refine ⟨(S85.cl rfl), ?_⟩
  refine WO.pn 1 rfl ?_
  obtain ⟨x75, hx75, h⟩ := Option.bind_eq_some_iff.mp h
  have f88 := f78.stp S85 rfl rfl
  refine WO.call rfl rfl rfl rfl rfl rfl Try.call62 (i_areLetters_ok (κ := fun b => mp [] 0 (K84 b)) (Sl.map f88 (mp [] 0) rfl rfl) hx75) ?_
  rintro _ w89 ⟨k90, rfl, e91⟩
  obtain ⟨K92, S93, m94⟩ := Ent.mixed (l := []) (κ := K84) e91 5 rfl
  refine ⟨((S85.tr S93).cl rfl), ?_⟩
  refine WO.pn 1 rfl ?_
  obtain ⟨p83, h, hK96⟩ := Option.bind_eq_some_iff.mp h
  refine WO.meet [(7, 2), (8, 0), (9, 0), (10, 1), (11, 2), (12, 1), (13, 2)] [(14, 2)] (fun L w' => L = [(83, .bool p83)] ∧ ∃ κ', Stp [] K92 w89 κ' w') ((S85.tr S93).cl rfl) ?_ ?_
  ·
   revert h
   cases ht97 : x75 with
   | true =>
    intro h; replace h := cT h
    refine WO.k2 rfl rfl rfl rfl (rn_fieldAddr Try.runUnderlying27 rfl Try.sizeOf24 rfl rfl) ?_
    refine WO.k0 rfl rfl rfl rfl (rn_ld Try.isAgg24 rfl rfl (hvC (f77.ld 4 rfl rfl) rfl)) ?_
    refine WO.k0 rfl rfl rfl rfl (rn_la (cs := [.int .i64 p0.Inputs, .int .i64 p0.Latches, .slice a0_2 p0.Next.length u0_2, .slice a0_3 p0.Gates.length u0_3, .slice a0_4 p0.Outs.length u0_4]) Try.isAgg27 Try.sizeOf27 rfl rfl rfl (haC f77.cells rfl)) ?_
    obtain ⟨x80, hx80, h⟩ := Option.bind_eq_some_iff.mp h
    have f98 := f88.stp S93 rfl rfl
    have f99 := f79.stp (S85.tr S93) rfl rfl
    have f100 := f80.stp (S85.tr S93) rfl rfl
    refine WO.call rfl rfl rfl rfl rfl rfl Try.call36 (i_signalsOf_ok (κ := fun b => mp [] 0 (K92 b)) (p0 := p0) (Sl.map f98 (mp [] 0) rfl rfl) (Sl.map f99 (mp [] 0) rfl rfl) (Sl.map f100 (mp [] 0) rfl rfl) hx80) ?_
    rintro _ w101 ⟨k102, rfl, e103⟩
    obtain ⟨K104, S105, m106⟩ := Ent.mixed (l := []) (κ := K92) e103 7 rfl
    refine ⟨((S85.tr (S93.tr S105)).cl rfl), ?_⟩
    refine WO.pn 1 rfl ?_
    obtain ⟨x82, hx82, h⟩ := Option.bind_eq_some_iff.mp h
    have f108 := f100.stp S105 rfl rfl
    refine WO.call rfl rfl rfl rfl rfl rfl Try.call62 (i_areLetters_ok (κ := fun b => mp [] 0 (K104 b)) (Sl.map f108 (mp [] 0) rfl rfl) hx82) ?_
    rintro _ w109 ⟨k110, rfl, e111⟩
    obtain ⟨K112, S113, m114⟩ := Ent.mixed (l := []) (κ := K104) e111 9 rfl
    refine ⟨((S85.tr (S93.tr (S105.tr S113))).cl rfl), ?_⟩
    refine WO.pn 1 rfl ?_
    obtain rfl := Option.some.inj h
    exact WO.met _ ((S85.tr (S93.tr (S105.tr S113))).cl rfl) ⟨rfl, _, (S105.tr S113).wk rfl⟩ fun a ha => (ha.more ha.nil rfl)
   | false =>
    intro h; replace h := cF h
    refine WO.pn 1 rfl ?_
    refine WO.qs rfl rfl rfl rfl ?_
    refine WO.qs rfl rfl rfl rfl ?_
    refine WO.ls rfl rfl rfl rfl ?_
    refine WO.pn 1 rfl ?_
    refine WO.ls rfl rfl rfl rfl ?_
    refine WO.pn 1 rfl ?_
    obtain rfl := Option.some.inj h
    exact WO.met _ ((S85.tr S93).cl rfl) ⟨rfl, _, (Stp.refl _ _).wk rfl⟩ fun a ha => (ha.more ha.nil rfl)
  rintro _ w116 _ ⟨rfl, K117, S118⟩
  have h := hK96
  refine WO.pn 1 rfl ?_
  refine WO.nx ?_
  refine WO.fin ?_
  refine DN.seq ?_
  refine WC.ret ?_
  have f119 := hE.stp (S3.tr (S9.tr (S15.tr (S21.tr (S27.tr (S33.tr (S39.tr (S48.tr (S75.tr (S85.tr (S93.tr S118))))))))))) rfl rfl
  refine DN.res (l := [.tmp 2]) Try.results31 (res_tmp rfl rfl) rfl ?_
  obtain rfl := Option.some.inj h
  exact ⟨K117, rfl, f119⟩

/- loop.example/g00869/spec.DepthOf -/
theorem s_DepthOf_ok {w : World} {κ : Col} {a0_2 : Option Addr} {u0_2 : Nat} {a0_3 : Option Addr} {u0_3 : Nat} {a0_4 : Option Addr} {u0_4 : Nat} {p0 : Circuit} (g0_2 : Rd (Rp.int .i64) κ w 0 a0_2 u0_2 p0.Next) (g0_3 : Rd Gate.rp κ w 0 a0_3 u0_3 p0.Gates) (g0_4 : Rd (Rp.int .i64) κ w 0 a0_4 u0_4 p0.Outs) {r : Int} (h : s_DepthOf p0 = some r) : Ret Try.prog 11 [.agg #[.int .i64 p0.Inputs, .int .i64 p0.Latches, .slice a0_2 p0.Next.length u0_2, .slice a0_3 p0.Gates.length u0_3, .slice a0_4 p0.Outs.length u0_4]] w (fun v w' => ∃ (κ' : Col), v = .int .i64 r ∧ Ent κ w κ' w') := by
 unfold s_DepthOf at h
 refine Ret.enter Try.func11 rfl Try.ntmps11 rfl ?_
 dsimp only [envOf]
 have hE := Ent.refl κ w
 refine WC.seq ?_
 refine WC.rs [(0, 1), (1, 2)] rfl ?_
 refine WO.box (κ := κ) 2 rfl rfl rfl rfl rfl rfl rfl fun b1 w1 K2 S3 f4 => ⟨trivial, ?_⟩
 refine WO.pn 1 rfl ?_
 refine WO.fin ?_
 refine DN.seq ?_
 refine WC.seq ?_
 refine WC.seq ?_
 refine WC.rs [(0, 1), (1, 1), (2, 2)] rfl ?_
 refine WO.k1 trivial rfl rfl rfl rfl (rn_la (cs := [.int .i64 p0.Inputs, .int .i64 p0.Latches, .slice a0_2 p0.Next.length u0_2, .slice a0_3 p0.Gates.length u0_3, .slice a0_4 p0.Outs.length u0_4]) Try.isAgg27 Try.sizeOf27 rfl rfl rfl (haE f4.cells)) ?_
 obtain ⟨x9, hx9, h⟩ := Option.bind_eq_some_iff.mp h
 have f5 := g0_2.stp S3 rfl rfl
 have f6 := g0_3.stp S3 rfl rfl
 have f7 := g0_4.stp S3 rfl rfl
 refine WO.call rfl rfl rfl rfl rfl rfl Try.call9 (s_CircuitOk_ok (κ := fun b => mp [] 0 (K2 b)) (p0 := p0) (Sl.map f5 (mp [] 0) rfl rfl) (Sl.map f6 (mp [] 0) rfl rfl) (Sl.map f7 (mp [] 0) rfl rfl) hx9) ?_
 rintro _ w8 ⟨k9, rfl, e10⟩
 obtain ⟨K11, S12, m13⟩ := Ent.mixed (l := []) (κ := K2) e10 3 rfl
 refine ⟨trivial, ?_⟩
 refine WO.pn 1 rfl ?_
 refine WO.fin ?_
 refine DN.seq ?_
 revert h
 cases ht15 : (!x9) with
 | true =>
  intro h; replace h := cT h
  refine WC.ct rfl ?_
  refine WC.seq ?_
  refine WC.rs [(0, 2)] rfl ?_
  refine WO.pn 1 rfl ?_
  refine WO.fin ?_
  refine DN.seq ?_
  refine WC.ret ?_
  refine DN.retThen ?_
  have f16 := hE.stp (S3.tr S12) rfl rfl
  refine DN.res (l := [.tmp 2]) Try.results11 (res_tmp rfl rfl) rfl ?_
  obtain rfl := Option.some.inj h
  exact ⟨K11, rfl, f16⟩
 | false =>
  intro h; replace h := cF h
  refine WC.cf rfl ?_
  refine WC.skip ?_
  refine DN.seq ?_
  refine WC.seq ?_
  refine WC.rs [(0, 2), (1, 1), (2, 2), (3, 2), (4, 1), (5, 2), (6, 1), (7, 2)] rfl ?_
  refine WO.k2 rfl rfl rfl rfl (rn_fieldAddr Try.runUnderlying27 rfl Try.sizeOf2 rfl rfl) ?_
  have f17 := f4.stp S12 rfl rfl
  refine WO.k1 trivial rfl rfl rfl rfl (rn_ld Try.isAgg2 rfl rfl (hvE (f17.ld 0 rfl rfl))) ?_
  refine WO.pn 1 rfl ?_
  refine WO.k2 rfl rfl rfl rfl (rn_fieldAddr Try.runUnderlying27 rfl Try.sizeOf2 rfl rfl) ?_
  refine WO.k1 trivial rfl rfl rfl rfl (rn_ld Try.isAgg2 rfl rfl (hvE (f17.ld 1 rfl rfl))) ?_
  refine WO.pn 1 rfl ?_
  obtain ⟨x17, hx17, h⟩ := Option.bind_eq_some_iff.mp h
  refine WO.mk (κ := K11) (E := (Ep.int .i64)) (z := (0 : Int)) 5 rfl rfl rfl rfl rfl rfl rfl Try.underlying24 Tryinfo2 rfl rfl rfl rfl rfl (fun _ _ _ => rfl) (mkS_C hx17) fun a17 u17 w18 K19 S20 f21 => ⟨trivial, ?_⟩
  refine WO.pn 1 rfl ?_
  refine WO.fin ?_
  refine DN.seq ?_
  refine WC.seq ?_
  refine WC.seq ?_
  refine WC.rs [(0, 2)] rfl ?_
  refine WO.pn 1 rfl ?_
  refine WO.fin ?_
  refine DN.seq ?_
  have hN22 : (p0.Gates.length : Int) ≤ 9223372036854775807 := f6.len_le
  obtain ⟨q2, hq24, hK23⟩ := Option.bind_eq_some_iff.mp h
  clear h
  refine WC.meet (fun L w' => ∃ (κ' : Col) (s3 : (List Int)) (las3_0 : Option Addr) (lus3_0 : Nat), L = [(1, .pointer (some ⟨b1, 0, none⟩)), (3, .slice las3_0 s3.length lus3_0)] ∧ Stp [5] K19 w18 κ' w' ∧ Oc (Ep.int .i64) 2 κ' w' 5 las3_0 lus3_0 s3 ∧ q2 = Sum.inr s3) ?_ ?_
  ·
   refine WC.block ?_
   refine WC.loop (fun k L w' => ∃ (κ' : Col) (v4 : Int) (s1 : (List Int)) (las1_0 : Option Addr) (lus1_0 : Nat), L = [(1, .pointer (some ⟨b1, 0, none⟩)), (3, .slice las1_0 s1.length lus1_0), (4, .int .i64 v4)] ∧ Stp [5] K19 w18 κ' w' ∧ Oc (Ep.int .i64) 2 κ' w' 5 las1_0 lus1_0 s1 ∧ 0 ≤ v4 ∧ Int.toNat ((p0.Gates.length : Int) - v4) = k ∧ cntM (s_DepthOf_b0 p0) k v4 s1 = some q2) ⟨_, _, ⟨K19, 0, (x17 : (List Int)), a17, u17, rfl, (Stp.refl _ _).wk rfl, f21, (by decide), (by simp), hq24⟩, fun a ha => (ha.more (ha.more (ha.more ha.nil rfl) rfl) rfl)⟩ ?_
   rintro k _ w29 ⟨K30, v4, s1, las1_0, lus1_0, rfl, S31, f32, hj22, hJ22, h⟩
   rcases k with _ | k
   ·
    have hk33 := h; obtain ⟨o22, h⟩ := ex_eq (Sum.inr (Sum.inl s1) : Int ⊕ (((List Int)) ⊕ ((List Int))))
    have hc22 : decide (v4 < (p0.Gates.length : Int)) = false := decide_eq_false (by omega)
    refine WC.seq ?_
    refine WC.seq ?_
    refine WC.rs [(0, 2), (1, 2), (2, 1), (3, 2), (4, 2)] rfl ?_
    refine WO.pn 1 rfl ?_
    refine WO.k2 rfl rfl rfl rfl (rn_fieldAddr Try.runUnderlying27 rfl Try.sizeOf25 rfl rfl) ?_
    have f34 := f17.stp (S20.tr S31) rfl rfl
    refine WO.k1 trivial rfl rfl rfl rfl (rn_ld Try.isAgg25 rfl rfl (hvE (f34.ld 3 rfl rfl))) ?_
    refine WO.k2 rfl rfl rfl rfl (rn_len Try.runUnderlying25 rfl rfl) ?_
    refine WO.pn 1 rfl ?_
    refine WO.fin ?_
    refine DN.seq ?_
    refine WC.cf' rfl hc22 ?_
    refine WC.exit ?_
    refine DN.exitThen ?_
    refine DN.exitThen ?_
    obtain rfl := Option.some.inj h
    have h := hk33
    refine DN.hit ?_
    obtain rfl := Option.some.inj h
    exact DN.meet _ ⟨K30, (s1 : (List Int)), las1_0, lus1_0, rfl, S31.wk rfl, f32, rfl⟩ fun a ha => (ha.more (ha.more ha.nil rfl) rfl)
   ·
    obtain ⟨o22, h, hk33⟩ := Option.bind_eq_some_iff.mp h; unfold s_DepthOf_b0 at h
    have hc22 : decide (v4 < (p0.Gates.length : Int)) = true := decide_eq_true (by omega)
    refine WC.seq ?_
    refine WC.seq ?_
    refine WC.rs [(0, 2), (1, 2), (2, 1), (3, 2), (4, 2)] rfl ?_
    refine WO.pn 1 rfl ?_
    refine WO.k2 rfl rfl rfl rfl (rn_fieldAddr Try.runUnderlying27 rfl Try.sizeOf25 rfl rfl) ?_
    have f35 := f17.stp (S20.tr S31) rfl rfl
    refine WO.k1 trivial rfl rfl rfl rfl (rn_ld Try.isAgg25 rfl rfl (hvE (f35.ld 3 rfl rfl))) ?_
    refine WO.k2 rfl rfl rfl rfl (rn_len Try.runUnderlying25 rfl rfl) ?_
    refine WO.pn 1 rfl ?_
    refine WO.fin ?_
    refine DN.seq ?_
    refine WC.ct' rfl hc22 ?_
    refine WC.skip ?_
    refine DN.seq ?_
    refine WC.seq ?_
    refine WC.block ?_
    refine WC.rx (κ := K30) [0, 2, 5] (some 24) [(0, 2), (1, 2), (2, 2), (4, 2), (11, 2), (12, 2), (14, 2), (3, 0), (5, 2), (6, 2), (7, 0), (8, 2), (9, 2), (10, 0), (13, 0), (15, 2), (16, 2), (17, 0), (18, 2), (19, 2), (20, 0), (21, 1), (22, 2), (23, 1)] [(24, 1), (25, 2)] (by kernel_rfl) (by kernel_rfl) fun w37 S36 => ?_
    refine WO.pn 2 rfl ?_
    refine WO.k2 rfl rfl rfl rfl (rn_fieldAddr Try.runUnderlying27 rfl Try.sizeOf25 rfl rfl) ?_
    refine WO.pn 2 rfl ?_
    refine WO.k2 rfl rfl rfl rfl (rn_fieldAddr Try.runUnderlying27 rfl Try.sizeOf25 rfl rfl) ?_
    refine WO.pn 1 rfl ?_
    have f38 := f35.stp S36 rfl rfl
    refine WO.k0 rfl rfl rfl rfl (rn_ld Try.isAgg25 rfl rfl (hvC (f38.ld 3 rfl rfl) rfl)) ?_
    obtain ⟨x30, hx30, h⟩ := Option.bind_eq_some_iff.mp h
    refine WO.k2 rfl rfl rfl rfl (rn_index f6 hx30 Try.runUnderlying25 Try.sizeOf33 rfl rfl rfl rfl) ?_
    refine WO.k2 rfl rfl rfl rfl (rn_fieldAddr Try.runUnderlying33 rfl Try.sizeOf2 rfl rfl) ?_
    have f39 := f6.stp (S12.tr (S20.tr (S31.tr S36))) rfl rfl
    obtain ⟨cse40, hre40, hle40⟩ := (f39).gSt hx30
    obtain rfl := Gate.un hre40
    refine WO.k0 rfl rfl rfl rfl (rn_ld Try.isAgg2 rfl rfl (hvC (fun w' hw' => hle40 w' hw' 0 _ rfl) rfl)) ?_
    refine WO.k2 rfl rfl rfl rfl (rn_quo rfl rfl rfl (by decide)) ?_
    obtain ⟨x34, hx34, h⟩ := Option.bind_eq_some_iff.mp h
    refine WO.k2 rfl rfl rfl rfl (rn_index f32.rdc hx34 Try.runUnderlying24 Try.sizeOf2 rfl rfl rfl rfl) ?_
    have f41 := f32.stp S36 rfl rfl
    refine WO.k0 rfl rfl rfl rfl (rn_ld Try.isAgg2 rfl rfl (hvC (f41.rdc.gInt hx34) rfl)) ?_
    refine WO.k0 rfl rfl rfl rfl (rn_ld Try.isAgg25 rfl rfl (hvC (f38.ld 3 rfl rfl) rfl)) ?_
    obtain ⟨x40, hx40, h⟩ := Option.bind_eq_some_iff.mp h
    refine WO.k2 rfl rfl rfl rfl (rn_index f39 hx40 Try.runUnderlying25 Try.sizeOf33 rfl rfl rfl rfl) ?_
    refine WO.k2 rfl rfl rfl rfl (rn_fieldAddr Try.runUnderlying33 rfl Try.sizeOf2 rfl rfl) ?_
    obtain ⟨cse42, hre42, hle42⟩ := (f39).gSt hx40
    obtain rfl := Gate.un hre42
    refine WO.k0 rfl rfl rfl rfl (rn_ld Try.isAgg2 rfl rfl (hvC (fun w' hw' => hle42 w' hw' 1 _ rfl) rfl)) ?_
    refine WO.k2 rfl rfl rfl rfl (rn_quo rfl rfl rfl (by decide)) ?_
    obtain ⟨x44, hx44, h⟩ := Option.bind_eq_some_iff.mp h
    refine WO.k2 rfl rfl rfl rfl (rn_index f41.rdc hx44 Try.runUnderlying24 Try.sizeOf2 rfl rfl rfl rfl) ?_
    refine WO.k0 rfl rfl rfl rfl (rn_ld Try.isAgg2 rfl rfl (hvC (f41.rdc.gInt hx44) rfl)) ?_
    obtain ⟨x46, hx46, h⟩ := Option.bind_eq_some_iff.mp h
    refine WO.call rfl rfl rfl rfl rfl rfl Try.call37 (s_l1Max_ok (κ := fun b => mp [] 0 (K30 b)) hx46) ?_
    rintro _ w43 ⟨k44, rfl, e45⟩
    obtain ⟨K46, S47, m48⟩ := Ent.mixed (l := []) (κ := K30) e45 6 rfl
    refine ⟨(S47.cl rfl), ?_⟩
    refine WO.pn 1 rfl ?_
    refine WO.bl (κ := K46) (E := (Ep.int .i64)) 8 [] (parts := [(0, .tmp 47)]) (cells := [.int .i64 (IntKind.i64.wrap (1 + x46))]) (xs := ([(IntKind.i64.wrap (1 + x46))] : List Int)) rfl rfl rfl rfl rfl rfl Try.underlying24 Tryinfo2 rfl rfl rfl rfl rfl rfl rfl rfl rfl rfl ⟨[.int .i64 (IntKind.i64.wrap (1 + x46))], [], Zl K46 w43 [], Zl K46 w43 [], rfl, Zl.sp (l1 := []) (l2 := []) rfl, Zl.sr (l1 := []) (l2 := []), rfl, rfl⟩ fun a48 u48 w50 K51 S52 f53 => ⟨((S47.tr S52).cl rfl), ?_⟩
    refine WO.nx ?_
    obtain ⟨x49, hx49, h⟩ := Option.bind_eq_some_iff.mp h
    have f54 := f41.stp (S47.tr S52) rfl rfl
    refine WO.app (κ := K51) (E := (Ep.int .i64)) 5 [] rfl rfl rfl rfl rfl rfl rfl rfl rfl Try.underlying24 Tryinfo2 rfl rfl rfl rfl f54 (Sl.srcP (pu_int _) f53.rdc) sy_false hx49 rfl fun a49 u49 w55 K56 S57 f58 => ⟨trivial, ?_⟩
    refine WO.pn 1 rfl ?_
    refine WO.fin ?_
    refine DN.block ?_
    refine DN.seq ?_
    refine WC.rs [(0, 2), (1, 2), (2, 2)] rfl ?_
    refine WO.pn 3 rfl ?_
    refine WO.fin ?_
    have hw22 : IntKind.wrap .i64 (v4 + 1) = v4 + 1 := wr1 hj22 (of_decide_eq_true hc22) hN22
    rw [hw22]
    have hc22 := of_decide_eq_true hc22
    obtain rfl := Option.some.inj h
    refine DN.round fun a ha => ?_
    exact ⟨k, _, Nat.lt_succ_self _, ⟨K56, v4 + 1, (x49 : (List Int)), a49, u49, rfl, (S31.tr (S36.tr (S47.tr (S52.tr S57)))).wk rfl, f58, by omega, by omega, hk33⟩, (ha.more (ha.more (ha.more ha.nil rfl) rfl) rfl)⟩
  rintro _ w25 ⟨K26, s3, las3_0, lus3_0, rfl, S27, f28, rfl⟩
  have h := hK23
  dsimp only [aft] at h
  refine DN.seq ?_
  refine WC.seq ?_
  refine WC.rs [(0, 2)] rfl ?_
  refine WO.pn 1 rfl ?_
  refine WO.fin ?_
  refine DN.seq ?_
  refine WC.seq ?_
  refine WC.seq ?_
  refine WC.rs [(0, 2)] rfl ?_
  refine WO.pn 1 rfl ?_
  refine WO.fin ?_
  refine DN.seq ?_
  have hN59 : (p0.Next.length : Int) ≤ 9223372036854775807 := f5.len_le
  obtain ⟨q5, hq61, hK60⟩ := Option.bind_eq_some_iff.mp h
  clear h
  refine WC.meet (fun L w' => ∃ (κ' : Col) (s6 : Int), L = [(1, .pointer (some ⟨b1, 0, none⟩)), (3, .slice las3_0 s3.length lus3_0), (5, .int .i64 s6)] ∧ Stp [] K26 w25 κ' w' ∧ q5 = Sum.inr s6) ?_ ?_
  ·
   refine WC.block ?_
   refine WC.loop (fun k L w' => ∃ (κ' : Col) (v6 : Int) (s4 : Int), L = [(1, .pointer (some ⟨b1, 0, none⟩)), (3, .slice las3_0 s3.length lus3_0), (5, .int .i64 s4), (6, .int .i64 v6)] ∧ Stp [] K26 w25 κ' w' ∧ 0 ≤ v6 ∧ Int.toNat ((p0.Next.length : Int) - v6) = k ∧ cntM (s_DepthOf_b2 p0 s3) k v6 s4 = some q5) ⟨_, _, ⟨K26, 0, (0 : Int), rfl, (Stp.refl _ _).wk rfl, (by decide), (by simp), hq61⟩, fun a ha => (ha.more (ha.more (ha.more (ha.more ha.nil rfl) rfl) rfl) rfl)⟩ ?_
   rintro k _ w65 ⟨K66, v6, s4, rfl, S67, hj59, hJ59, h⟩
   rcases k with _ | k
   ·
    have hk68 := h; obtain ⟨o59, h⟩ := ex_eq (Sum.inr (Sum.inl s4) : Int ⊕ ((Int) ⊕ (Int)))
    have hc59 : decide (v6 < (p0.Next.length : Int)) = false := decide_eq_false (by omega)
    refine WC.seq ?_
    refine WC.seq ?_
    refine WC.rs [(0, 2), (1, 2), (2, 1), (3, 2), (4, 2)] rfl ?_
    refine WO.pn 1 rfl ?_
    refine WO.k2 rfl rfl rfl rfl (rn_fieldAddr Try.runUnderlying27 rfl Try.sizeOf24 rfl rfl) ?_
    have f69 := f17.stp (S20.tr (S27.tr S67)) rfl rfl
    refine WO.k1 trivial rfl rfl rfl rfl (rn_ld Try.isAgg24 rfl rfl (hvE (f69.ld 2 rfl rfl))) ?_
    refine WO.k2 rfl rfl rfl rfl (rn_len Try.runUnderlying24 rfl rfl) ?_
    refine WO.pn 1 rfl ?_
    refine WO.fin ?_
    refine DN.seq ?_
    refine WC.cf' rfl hc59 ?_
    refine WC.exit ?_
    refine DN.exitThen ?_
    refine DN.exitThen ?_
    obtain rfl := Option.some.inj h
    have h := hk68
    refine DN.hit ?_
    obtain rfl := Option.some.inj h
    exact DN.meet _ ⟨K66, (s4 : Int), rfl, S67.wk rfl, rfl⟩ fun a ha => (ha.more (ha.more (ha.more ha.nil rfl) rfl) rfl)
   ·
    obtain ⟨o59, h, hk68⟩ := Option.bind_eq_some_iff.mp h; unfold s_DepthOf_b2 at h
    have hc59 : decide (v6 < (p0.Next.length : Int)) = true := decide_eq_true (by omega)
    refine WC.seq ?_
    refine WC.seq ?_
    refine WC.rs [(0, 2), (1, 2), (2, 1), (3, 2), (4, 2)] rfl ?_
    refine WO.pn 1 rfl ?_
    refine WO.k2 rfl rfl rfl rfl (rn_fieldAddr Try.runUnderlying27 rfl Try.sizeOf24 rfl rfl) ?_
    have f70 := f17.stp (S20.tr (S27.tr S67)) rfl rfl
    refine WO.k1 trivial rfl rfl rfl rfl (rn_ld Try.isAgg24 rfl rfl (hvE (f70.ld 2 rfl rfl))) ?_
    refine WO.k2 rfl rfl rfl rfl (rn_len Try.runUnderlying24 rfl rfl) ?_
    refine WO.pn 1 rfl ?_
    refine WO.fin ?_
    refine DN.seq ?_
    refine WC.ct' rfl hc59 ?_
    refine WC.skip ?_
    refine DN.seq ?_
    refine WC.seq ?_
    refine WC.block ?_
    refine WC.rs [(0, 2), (1, 2), (2, 2), (3, 1), (4, 2), (5, 2), (6, 1), (7, 2), (8, 2), (9, 1), (10, 1), (11, 2)] rfl ?_
    refine WO.pn 2 rfl ?_
    refine WO.k2 rfl rfl rfl rfl (rn_fieldAddr Try.runUnderlying27 rfl Try.sizeOf24 rfl rfl) ?_
    refine WO.k1 trivial rfl rfl rfl rfl (rn_ld Try.isAgg24 rfl rfl (hvE (f70.ld 2 rfl rfl))) ?_
    refine WO.pn 1 rfl ?_
    obtain ⟨x62, hx62, h⟩ := Option.bind_eq_some_iff.mp h
    refine WO.k2 rfl rfl rfl rfl (rn_index f5 hx62 Try.runUnderlying24 Try.sizeOf2 rfl rfl rfl rfl) ?_
    have f71 := f5.stp (S12.tr (S20.tr (S27.tr S67))) rfl rfl
    refine WO.k1 trivial rfl rfl rfl rfl (rn_ld Try.isAgg2 rfl rfl (hvE (f71.gInt hx62))) ?_
    refine WO.k2 rfl rfl rfl rfl (rn_quo rfl rfl rfl (by decide)) ?_
    obtain ⟨x65, hx65, h⟩ := Option.bind_eq_some_iff.mp h
    refine WO.k2 rfl rfl rfl rfl (rn_index f28.rdc hx65 Try.runUnderlying24 Try.sizeOf2 rfl rfl rfl rfl) ?_
    have f72 := f28.stp S67 rfl rfl
    refine WO.k1 trivial rfl rfl rfl rfl (rn_ld Try.isAgg2 rfl rfl (hvE (f72.rdc.gInt hx65))) ?_
    obtain ⟨x67, hx67, h⟩ := Option.bind_eq_some_iff.mp h
    refine WO.call rfl rfl rfl rfl rfl rfl Try.call37 (s_l1Max_ok (κ := fun b => mp [] 0 (K66 b)) hx67) ?_
    rintro _ w73 ⟨k74, rfl, e75⟩
    obtain ⟨K76, S77, m78⟩ := Ent.mixed (l := []) (κ := K66) e75 6 rfl
    refine ⟨trivial, ?_⟩
    refine WO.pn 1 rfl ?_
    refine WO.fin ?_
    refine DN.block ?_
    refine DN.seq ?_
    refine WC.rs [(0, 2), (1, 2), (2, 2)] rfl ?_
    refine WO.pn 3 rfl ?_
    refine WO.fin ?_
    have hw59 : IntKind.wrap .i64 (v6 + 1) = v6 + 1 := wr1 hj59 (of_decide_eq_true hc59) hN59
    rw [hw59]
    have hc59 := of_decide_eq_true hc59
    obtain rfl := Option.some.inj h
    refine DN.round fun a ha => ?_
    exact ⟨k, _, Nat.lt_succ_self _, ⟨K76, v6 + 1, (x67 : Int), rfl, (S67.tr S77).wk rfl, by omega, by omega, hk68⟩, (ha.more (ha.more (ha.more (ha.more ha.nil rfl) rfl) rfl) rfl)⟩
  rintro _ w62 ⟨K63, s6, rfl, S64, rfl⟩
  have h := hK60
  dsimp only [aft] at h
  refine DN.seq ?_
  refine WC.seq ?_
  refine WC.seq ?_
  refine WC.rs [(0, 2)] rfl ?_
  refine WO.pn 1 rfl ?_
  refine WO.fin ?_
  refine DN.seq ?_
  have hN80 : (p0.Outs.length : Int) ≤ 9223372036854775807 := f7.len_le
  obtain ⟨q8, hq82, hK81⟩ := Option.bind_eq_some_iff.mp h
  clear h
  refine WC.meet (fun L w' => ∃ (κ' : Col) (s9 : Int), L = [(5, .int .i64 s9)] ∧ Stp [] K63 w62 κ' w' ∧ q8 = Sum.inr s9) ?_ ?_
  ·
   refine WC.block ?_
   refine WC.loop (fun k L w' => ∃ (κ' : Col) (v7 : Int) (s7 : Int), L = [(1, .pointer (some ⟨b1, 0, none⟩)), (3, .slice las3_0 s3.length lus3_0), (5, .int .i64 s7), (7, .int .i64 v7)] ∧ Stp [] K63 w62 κ' w' ∧ 0 ≤ v7 ∧ Int.toNat ((p0.Outs.length : Int) - v7) = k ∧ cntM (s_DepthOf_b4 p0 s3) k v7 s7 = some q8) ⟨_, _, ⟨K63, 0, (s6 : Int), rfl, (Stp.refl _ _).wk rfl, (by decide), (by simp), hq82⟩, fun a ha => (ha.more (ha.more (ha.more (ha.more ha.nil rfl) rfl) rfl) rfl)⟩ ?_
   rintro k _ w86 ⟨K87, v7, s7, rfl, S88, hj80, hJ80, h⟩
   rcases k with _ | k
   ·
    have hk89 := h; obtain ⟨o80, h⟩ := ex_eq (Sum.inr (Sum.inl s7) : Int ⊕ ((Int) ⊕ (Int)))
    have hc80 : decide (v7 < (p0.Outs.length : Int)) = false := decide_eq_false (by omega)
    refine WC.seq ?_
    refine WC.seq ?_
    refine WC.rs [(0, 2), (1, 2), (2, 1), (3, 2), (4, 2)] rfl ?_
    refine WO.pn 1 rfl ?_
    refine WO.k2 rfl rfl rfl rfl (rn_fieldAddr Try.runUnderlying27 rfl Try.sizeOf24 rfl rfl) ?_
    have f90 := f17.stp (S20.tr (S27.tr (S64.tr S88))) rfl rfl
    refine WO.k1 trivial rfl rfl rfl rfl (rn_ld Try.isAgg24 rfl rfl (hvE (f90.ld 4 rfl rfl))) ?_
    refine WO.k2 rfl rfl rfl rfl (rn_len Try.runUnderlying24 rfl rfl) ?_
    refine WO.pn 1 rfl ?_
    refine WO.fin ?_
    refine DN.seq ?_
    refine WC.cf' rfl hc80 ?_
    refine WC.exit ?_
    refine DN.exitThen ?_
    refine DN.exitThen ?_
    obtain rfl := Option.some.inj h
    have h := hk89
    refine DN.hit ?_
    obtain rfl := Option.some.inj h
    exact DN.meet _ ⟨K87, (s7 : Int), rfl, S88.wk rfl, rfl⟩ fun a ha => (ha.more ha.nil rfl)
   ·
    obtain ⟨o80, h, hk89⟩ := Option.bind_eq_some_iff.mp h; unfold s_DepthOf_b4 at h
    have hc80 : decide (v7 < (p0.Outs.length : Int)) = true := decide_eq_true (by omega)
    refine WC.seq ?_
    refine WC.seq ?_
    refine WC.rs [(0, 2), (1, 2), (2, 1), (3, 2), (4, 2)] rfl ?_
    refine WO.pn 1 rfl ?_
    refine WO.k2 rfl rfl rfl rfl (rn_fieldAddr Try.runUnderlying27 rfl Try.sizeOf24 rfl rfl) ?_
    have f91 := f17.stp (S20.tr (S27.tr (S64.tr S88))) rfl rfl
    refine WO.k1 trivial rfl rfl rfl rfl (rn_ld Try.isAgg24 rfl rfl (hvE (f91.ld 4 rfl rfl))) ?_
    refine WO.k2 rfl rfl rfl rfl (rn_len Try.runUnderlying24 rfl rfl) ?_
    refine WO.pn 1 rfl ?_
    refine WO.fin ?_
    refine DN.seq ?_
    refine WC.ct' rfl hc80 ?_
    refine WC.skip ?_
    refine DN.seq ?_
    refine WC.seq ?_
    refine WC.block ?_
    refine WC.rs [(0, 2), (1, 2), (2, 2), (3, 1), (4, 2), (5, 2), (6, 1), (7, 2), (8, 2), (9, 1), (10, 1), (11, 2)] rfl ?_
    refine WO.pn 2 rfl ?_
    refine WO.k2 rfl rfl rfl rfl (rn_fieldAddr Try.runUnderlying27 rfl Try.sizeOf24 rfl rfl) ?_
    refine WO.k1 trivial rfl rfl rfl rfl (rn_ld Try.isAgg24 rfl rfl (hvE (f91.ld 4 rfl rfl))) ?_
    refine WO.pn 1 rfl ?_
    obtain ⟨x80, hx80, h⟩ := Option.bind_eq_some_iff.mp h
    refine WO.k2 rfl rfl rfl rfl (rn_index f7 hx80 Try.runUnderlying24 Try.sizeOf2 rfl rfl rfl rfl) ?_
    have f92 := f7.stp (S12.tr (S20.tr (S27.tr (S64.tr S88)))) rfl rfl
    refine WO.k1 trivial rfl rfl rfl rfl (rn_ld Try.isAgg2 rfl rfl (hvE (f92.gInt hx80))) ?_
    refine WO.k2 rfl rfl rfl rfl (rn_quo rfl rfl rfl (by decide)) ?_
    obtain ⟨x83, hx83, h⟩ := Option.bind_eq_some_iff.mp h
    refine WO.k2 rfl rfl rfl rfl (rn_index f28.rdc hx83 Try.runUnderlying24 Try.sizeOf2 rfl rfl rfl rfl) ?_
    have f93 := f28.stp (S64.tr S88) rfl rfl
    refine WO.k1 trivial rfl rfl rfl rfl (rn_ld Try.isAgg2 rfl rfl (hvE (f93.rdc.gInt hx83))) ?_
    obtain ⟨x85, hx85, h⟩ := Option.bind_eq_some_iff.mp h
    refine WO.call rfl rfl rfl rfl rfl rfl Try.call37 (s_l1Max_ok (κ := fun b => mp [] 0 (K87 b)) hx85) ?_
    rintro _ w94 ⟨k95, rfl, e96⟩
    obtain ⟨K97, S98, m99⟩ := Ent.mixed (l := []) (κ := K87) e96 6 rfl
    refine ⟨trivial, ?_⟩
    refine WO.pn 1 rfl ?_
    refine WO.fin ?_
    refine DN.block ?_
    refine DN.seq ?_
    refine WC.rs [(0, 2), (1, 2), (2, 2)] rfl ?_
    refine WO.pn 3 rfl ?_
    refine WO.fin ?_
    have hw80 : IntKind.wrap .i64 (v7 + 1) = v7 + 1 := wr1 hj80 (of_decide_eq_true hc80) hN80
    rw [hw80]
    have hc80 := of_decide_eq_true hc80
    obtain rfl := Option.some.inj h
    refine DN.round fun a ha => ?_
    exact ⟨k, _, Nat.lt_succ_self _, ⟨K97, v7 + 1, (x85 : Int), rfl, (S88.tr S98).wk rfl, by omega, by omega, hk89⟩, (ha.more (ha.more (ha.more (ha.more ha.nil rfl) rfl) rfl) rfl)⟩
  rintro _ w83 ⟨K84, s9, rfl, S85, rfl⟩
  have h := hK81
  dsimp only [aft] at h
  refine DN.seq ?_
  refine WC.seq ?_
  refine WC.rs [(0, 2), (1, 2)] rfl ?_
  refine WO.pn 2 rfl ?_
  refine WO.fin ?_
  refine DN.seq ?_
  refine WC.ret ?_
  have f101 := hE.stp (S3.tr (S12.tr (S20.tr (S27.tr (S64.tr S85))))) rfl rfl
  refine DN.res (l := [.tmp 2]) Try.results11 (res_tmp rfl rfl) rfl ?_
  obtain rfl := Option.some.inj h
  exact ⟨K84, rfl, f101⟩

/- loop.example/g00869/spec.StepOf -/
theorem s_StepOf_ok {w : World} {κ : Col} {a0_2 : Option Addr} {u0_2 : Nat} {a0_3 : Option Addr} {u0_3 : Nat} {a0_4 : Option Addr} {u0_4 : Nat} {p0 : Circuit} {p1 : Int} {p2 : Int} (g0_2 : Rd (Rp.int .i64) κ w 0 a0_2 u0_2 p0.Next) (g0_3 : Rd Gate.rp κ w 0 a0_3 u0_3 p0.Gates) (g0_4 : Rd (Rp.int .i64) κ w 0 a0_4 u0_4 p0.Outs) {r : Int × Int} (h : s_StepOf p0 p1 p2 = some r) : Ret Try.prog 13 [.agg #[.int .i64 p0.Inputs, .int .i64 p0.Latches, .slice a0_2 p0.Next.length u0_2, .slice a0_3 p0.Gates.length u0_3, .slice a0_4 p0.Outs.length u0_4], .int .i64 p1, .int .i64 p2] w (fun v w' => ∃ (κ' : Col), v = .tuple #[.int .i64 r.1, .int .i64 r.2] ∧ Ent κ w κ' w') := by
 unfold s_StepOf at h
 refine Ret.enter Try.func13 rfl Try.ntmps13 rfl ?_
 dsimp only [envOf]
 have hE := Ent.refl κ w
 refine WC.seq ?_
 refine WC.rs [(0, 1), (1, 2), (2, 2)] rfl ?_
 refine WO.box (κ := κ) 2 rfl rfl rfl rfl rfl rfl rfl fun b3 w1 K2 S3 f4 => ⟨trivial, ?_⟩
 refine WO.pn 2 rfl ?_
 refine WO.fin ?_
 refine DN.seq ?_
 refine WC.seq ?_
 refine WC.seq ?_
 refine WC.rs [(0, 1), (1, 1), (2, 2), (3, 2), (4, 2), (5, 2), (6, 1), (7, 1), (8, 2), (9, 1), (10, 2), (11, 2), (12, 2), (13, 2), (14, 2), (15, 1), (16, 1), (17, 2), (18, 1), (19, 2), (20, 2)] rfl ?_
 refine WO.k1 trivial rfl rfl rfl rfl (rn_la (cs := [.int .i64 p0.Inputs, .int .i64 p0.Latches, .slice a0_2 p0.Next.length u0_2, .slice a0_3 p0.Gates.length u0_3, .slice a0_4 p0.Outs.length u0_4]) Try.isAgg27 Try.sizeOf27 rfl rfl rfl (haE f4.cells)) ?_
 obtain ⟨x9, hx9, h⟩ := Option.bind_eq_some_iff.mp h
 have f5 := g0_2.stp S3 rfl rfl
 have f6 := g0_3.stp S3 rfl rfl
 have f7 := g0_4.stp S3 rfl rfl
 refine WO.call rfl rfl rfl rfl rfl rfl Try.call9 (s_CircuitOk_ok (κ := fun b => mp [] 0 (K2 b)) (p0 := p0) (Sl.map f5 (mp [] 0) rfl rfl) (Sl.map f6 (mp [] 0) rfl rfl) (Sl.map f7 (mp [] 0) rfl rfl) hx9) ?_
 rintro _ w8 ⟨k9, rfl, e10⟩
 obtain ⟨K11, S12, m13⟩ := Ent.mixed (l := []) (κ := K2) e10 3 rfl
 refine ⟨trivial, ?_⟩
 refine WO.pn 2 rfl ?_
 obtain ⟨p19, h, hK15⟩ := Option.bind_eq_some_iff.mp h
 refine WO.meet [(4, 2), (5, 2), (6, 1), (7, 1), (8, 2), (9, 1), (10, 2), (11, 2)] [(12, 2), (13, 2), (14, 2), (15, 1), (16, 1), (17, 2), (18, 1), (19, 2), (20, 2)] (fun L w' => L = [(1, .int .i64 p1), (2, .int .i64 p2), (3, .pointer (some ⟨b3, 0, none⟩)), (19, .bool p19)] ∧ ∃ κ', Stp [] K11 w8 κ' w') trivial ?_ ?_
 ·
  revert h
  cases ht16 : (!x9) with
  | true =>
   intro h; replace h := cT h
   refine WO.pn 2 rfl ?_
   refine WO.ls rfl rfl rfl rfl ?_
   refine WO.ls rfl rfl rfl rfl ?_
   refine WO.pn 1 rfl ?_
   refine WO.ls rfl rfl rfl rfl ?_
   refine WO.pn 2 rfl ?_
   obtain rfl := Option.some.inj h
   exact WO.met _ trivial ⟨rfl, _, (Stp.refl _ _).wk rfl⟩ fun a ha => (ha.more (ha.more (ha.more (ha.more ha.nil rfl) rfl) rfl) rfl)
  | false =>
   intro h; replace h := cF h
   refine WO.pn 1 rfl ?_
   refine WO.k2 rfl rfl rfl rfl (rn_fieldAddr Try.runUnderlying27 rfl Try.sizeOf2 rfl rfl) ?_
   have f17 := f4.stp S12 rfl rfl
   refine WO.k1 trivial rfl rfl rfl rfl (rn_ld Try.isAgg2 rfl rfl (hvE (f17.ld 1 rfl rfl))) ?_
   obtain ⟨x15, hx15, h⟩ := Option.bind_eq_some_iff.mp h
   refine WO.call rfl rfl rfl rfl rfl rfl Try.call39 (s_l31Pow_ok (κ := fun b => mp [] 0 (K11 b)) hx15) ?_
   rintro _ w18 ⟨k19, rfl, e20⟩
   obtain ⟨K21, S22, m23⟩ := Ent.mixed (l := []) (κ := K11) e20 5 rfl
   refine ⟨trivial, ?_⟩
   refine WO.pn 1 rfl ?_
   obtain ⟨x17, hx17, h⟩ := Option.bind_eq_some_iff.mp h
   refine WO.call rfl rfl rfl rfl rfl rfl Try.call33 (s_l1In_ok (κ := fun b => mp [] 0 (K21 b)) hx17) ?_
   rintro _ w25 ⟨k26, rfl, e27⟩
   obtain ⟨K28, S29, m30⟩ := Ent.mixed (l := []) (κ := K21) e27 7 rfl
   refine ⟨trivial, ?_⟩
   refine WO.pn 2 rfl ?_
   obtain rfl := Option.some.inj h
   exact WO.met _ trivial ⟨rfl, _, (S22.tr S29).wk rfl⟩ fun a ha => (ha.more (ha.more (ha.more (ha.more ha.nil rfl) rfl) rfl) rfl)
 rintro _ w32 _ ⟨rfl, K33, S34⟩
 have h := hK15
 refine WO.pn 1 rfl ?_
 obtain ⟨p28, h, hK35⟩ := Option.bind_eq_some_iff.mp h
 refine WO.meet [(13, 2), (14, 2), (15, 1), (16, 1), (17, 2), (18, 1), (19, 2), (20, 2)] [] (fun L w' => L = [(1, .int .i64 p1), (2, .int .i64 p2), (3, .pointer (some ⟨b3, 0, none⟩)), (28, .bool p28)] ∧ ∃ κ', Stp [] K33 w32 κ' w') trivial ?_ ?_
 ·
  revert h
  cases ht36 : p19 with
  | true =>
   intro h; replace h := cT h
   refine WO.pn 2 rfl ?_
   refine WO.ls rfl rfl rfl rfl ?_
   refine WO.ls rfl rfl rfl rfl ?_
   refine WO.pn 1 rfl ?_
   refine WO.ls rfl rfl rfl rfl ?_
   refine WO.pn 2 rfl ?_
   obtain rfl := Option.some.inj h
   exact WO.met _ trivial ⟨rfl, _, (Stp.refl _ _).wk rfl⟩ fun a ha => (ha.more (ha.more (ha.more (ha.more ha.nil rfl) rfl) rfl) rfl)
  | false =>
   intro h; replace h := cF h
   refine WO.pn 1 rfl ?_
   refine WO.k2 rfl rfl rfl rfl (rn_fieldAddr Try.runUnderlying27 rfl Try.sizeOf2 rfl rfl) ?_
   have f37 := f4.stp (S12.tr S34) rfl rfl
   refine WO.k1 trivial rfl rfl rfl rfl (rn_ld Try.isAgg2 rfl rfl (hvE (f37.ld 0 rfl rfl))) ?_
   obtain ⟨x24, hx24, h⟩ := Option.bind_eq_some_iff.mp h
   refine WO.call rfl rfl rfl rfl rfl rfl Try.call39 (s_l31Pow_ok (κ := fun b => mp [] 0 (K33 b)) hx24) ?_
   rintro _ w38 ⟨k39, rfl, e40⟩
   obtain ⟨K41, S42, m43⟩ := Ent.mixed (l := []) (κ := K33) e40 5 rfl
   refine ⟨trivial, ?_⟩
   refine WO.pn 1 rfl ?_
   obtain ⟨x26, hx26, h⟩ := Option.bind_eq_some_iff.mp h
   refine WO.call rfl rfl rfl rfl rfl rfl Try.call33 (s_l1In_ok (κ := fun b => mp [] 0 (K41 b)) hx26) ?_
   rintro _ w45 ⟨k46, rfl, e47⟩
   obtain ⟨K48, S49, m50⟩ := Ent.mixed (l := []) (κ := K41) e47 7 rfl
   refine ⟨trivial, ?_⟩
   refine WO.pn 2 rfl ?_
   obtain rfl := Option.some.inj h
   exact WO.met _ trivial ⟨rfl, _, (S42.tr S49).wk rfl⟩ fun a ha => (ha.more (ha.more (ha.more (ha.more ha.nil rfl) rfl) rfl) rfl)
 rintro _ w52 _ ⟨rfl, K53, S54⟩
 have h := hK35
 refine WO.fin ?_
 refine DN.seq ?_
 revert h
 cases ht55 : p28 with
 | true =>
  intro h; replace h := cT h
  refine WC.ct rfl ?_
  refine WC.seq ?_
  refine WC.rs [(0, 2), (1, 2)] rfl ?_
  refine WO.pn 2 rfl ?_
  refine WO.fin ?_
  refine DN.seq ?_
  refine WC.ret ?_
  refine DN.retThen ?_
  have f56 := hE.stp (S3.tr (S12.tr (S34.tr S54))) rfl rfl
  refine DN.res (l := [.tmp 6, .tmp 7]) Try.results13 (res_tmp rfl (res_tmp rfl rfl)) rfl ?_
  obtain rfl := Option.some.inj h
  exact ⟨K53, rfl, f56⟩
 | false =>
  intro h; replace h := cF h
  refine WC.cf rfl ?_
  refine WC.skip ?_
  refine DN.seq ?_
  refine WC.seq ?_
  refine WC.rs [(0, 1), (1, 2), (2, 2), (3, 1), (4, 2), (5, 2), (6, 2), (7, 2)] rfl ?_
  have f57 := f4.stp (S12.tr (S34.tr S54)) rfl rfl
  refine WO.k1 trivial rfl rfl rfl rfl (rn_la (cs := [.int .i64 p0.Inputs, .int .i64 p0.Latches, .slice a0_2 p0.Next.length u0_2, .slice a0_3 p0.Gates.length u0_3, .slice a0_4 p0.Outs.length u0_4]) Try.isAgg27 Try.sizeOf27 rfl rfl rfl (haE f57.cells)) ?_
  refine WO.pn 2 rfl ?_
  obtain ⟨x32, hx32, h⟩ := Option.bind_eq_some_iff.mp h
  have f58 := f5.stp (S12.tr (S34.tr S54)) rfl rfl
  have f59 := f6.stp (S12.tr (S34.tr S54)) rfl rfl
  have f60 := f7.stp (S12.tr (S34.tr S54)) rfl rfl
  refine WO.call rfl rfl rfl rfl rfl rfl Try.call40 (s_l31Step_ok (κ := fun b => mp [] 0 (K53 b)) (p0 := p0) (Sl.map f58 (mp [] 0) rfl rfl) (Sl.map f59 (mp [] 0) rfl rfl) (Sl.map f60 (mp [] 0) rfl rfl) hx32) ?_
  rintro _ w61 ⟨k62, rfl, e63⟩
  obtain ⟨K64, S65, m66⟩ := Ent.mixed (l := []) (κ := K53) e63 5 rfl
  refine ⟨trivial, ?_⟩
  refine WO.pn 4 rfl ?_
  refine WO.fin ?_
  refine DN.seq ?_
  refine WC.ret ?_
  have f68 := hE.stp (S3.tr (S12.tr (S34.tr (S54.tr S65)))) rfl rfl
  refine DN.res (l := [.tmp 6, .tmp 7]) Try.results13 (res_tmp rfl (res_tmp rfl rfl)) rfl ?_
  obtain rfl := Option.some.inj h
  exact ⟨K64, rfl, f68⟩

/- loop.example/g00869/spec.l31DrawLiteral -/
theorem s_l31DrawLiteral_ok {w : World} {κ : Col} {a0_0 : Option Addr} {u0_0 : Nat} {p0 : l1Cur} {a1_2 : Option Addr} {u1_2 : Nat} {a1_3 : Option Addr} {u1_3 : Nat} {a1_4 : Option Addr} {u1_4 : Nat} {p1 : Circuit} {b0 : Nat} (g0_0 : Rd (Rp.int .u8) κ w 0 a0_0 u0_0 p0.b) (g1_2 : Rd (Rp.int .i64) κ w 0 a1_2 u1_2 p1.Next) (g1_3 : Rd Gate.rp κ w 0 a1_3 u1_3 p1.Gates) (g1_4 : Rd (Rp.int .i64) κ w 0 a1_4 u1_4 p1.Outs) (gb0 : Bc κ w 2 b0 89 [.slice a0_0 p0.b.length u0_0, .int .i64 p0.i, .int .i64 p0.h]) {r : Int × Int × Int} (h : s_l31DrawLiteral p0 p1 = some r) : Ret Try.prog 41 [.pointer (some ⟨b0, 0, none⟩), .agg #[.int .i64 p1.Inputs, .int .i64 p1.Latches, .slice a1_2 p1.Next.length u1_2, .slice a1_3 p1.Gates.length u1_3, .slice a1_4 p1.Outs.length u1_4]] w (fun v w' => ∃ (κ' : Col), v = .int .i64 r.1 ∧ Ent κ w κ' w' ∧ Bc κ' w' 2 b0 89 [.slice a0_0 p0.b.length u0_0, .int .i64 r.2.1, .int .i64 r.2.2]) := by
 unfold s_l31DrawLiteral at h
 refine Ret.enter Try.func41 rfl Try.ntmps41 rfl ?_
 dsimp only [envOf]
 have hE := Ent.refl κ w
 refine WC.seq ?_
 refine WC.rs [(0, 1), (1, 2)] rfl ?_
 refine WO.box (κ := κ) 3 rfl rfl rfl rfl rfl rfl rfl fun b3 w1 K2 S3 f4 => ⟨trivial, ?_⟩
 refine WO.pn 1 rfl ?_
 refine WO.fin ?_
 refine DN.seq ?_
 refine WC.seq ?_
 refine WC.seq ?_
 refine WC.rs [(0, 2), (1, 1)] rfl ?_
 refine WO.pn 1 rfl ?_
 obtain ⟨x6, hx6, h⟩ := Option.bind_eq_some_iff.mp h
 have f5 := g0_0.stp S3 rfl rfl
 have f6 := gb0.stp S3 rfl rfl
 refine WO.call rfl rfl rfl rfl rfl rfl Try.call64 (s_l1Once_ok (κ := fun b => mp [(2, 2)] 0 (K2 b)) (p0 := p0) (Sl.map f5 (mp [(2, 2)] 0) rfl rfl) (f6.map (mp [(2, 2)] 0) rfl rfl) hx6) ?_
 rintro _ w7 ⟨k8, rfl, e9, f10⟩
 obtain ⟨K11, S12, m13⟩ := Ent.mixed (l := [(2, 2)]) (κ := K2) e9 4 rfl
 refine ⟨trivial, ?_⟩
 have f15 := f10.mx m13 rfl (rfl : 4 + 2 = 6)
 refine WO.fin ?_
 refine DN.seq ?_
 revert h
 cases ht16 : x6.1 with
 | true =>
  intro h; replace h := cT h
  refine WC.ct rfl ?_
  refine WC.seq ?_
  refine WC.rs [(0, 2), (1, 1), (2, 2)] rfl ?_
  refine WO.pn 1 rfl ?_
  obtain ⟨x8, hx8, h⟩ := Option.bind_eq_some_iff.mp h
  have f17 := f5.stp S12 rfl rfl
  refine WO.call rfl rfl rfl rfl rfl rfl Try.call66 (s_l1Num_ok (κ := fun b => mp [(6, 2)] 0 (K11 b)) (p0 := (⟨p0.b, x6.2.1, x6.2.2⟩ : l1Cur)) (Sl.map f17 (mp [(6, 2)] 0) rfl rfl) (f15.map (mp [(6, 2)] 0) rfl rfl) hx8) ?_
  rintro _ w18 ⟨k19, rfl, e20, f21⟩
  obtain ⟨K22, S23, m24⟩ := Ent.mixed (l := [(6, 2)]) (κ := K11) e20 7 rfl
  refine ⟨trivial, ?_⟩
  have f26 := f21.mx m24 rfl (rfl : 7 + 2 = 9)
  refine WO.pn 1 rfl ?_
  refine WO.fin ?_
  refine DN.seq ?_
  refine WC.ret ?_
  refine DN.retThen ?_
  have f27 := hE.stp (S3.tr (S12.tr S23)) rfl rfl
  refine DN.res (l := [.tmp 4]) Try.results41 (res_tmp rfl rfl) rfl ?_
  obtain rfl := Option.some.inj h
  exact ⟨(fun b => ren [(9, 2)] (K22 b)), rfl, (f27.map (ren [(9, 2)]) rfl rfl), (f26.map (ren [(9, 2)]) rfl rfl)⟩
 | false =>
  intro h; replace h := cF h
  refine WC.cf rfl ?_
  refine WC.skip ?_
  refine DN.seq ?_
  refine WC.seq ?_
  refine WC.seq ?_
  refine WC.rs [(0, 1), (1, 1), (2, 2)] rfl ?_
  have f28 := f4.stp S12 rfl rfl
  refine WO.k1 trivial rfl rfl rfl rfl (rn_la (cs := [.int .i64 p1.Inputs, .int .i64 p1.Latches, .slice a1_2 p1.Next.length u1_2, .slice a1_3 p1.Gates.length u1_3, .slice a1_4 p1.Outs.length u1_4]) Try.isAgg27 Try.sizeOf27 rfl rfl rfl (haE f28.cells)) ?_
  obtain ⟨x10, hx10, h⟩ := Option.bind_eq_some_iff.mp h
  have f29 := g1_2.stp (S3.tr S12) rfl rfl
  have f30 := g1_3.stp (S3.tr S12) rfl rfl
  have f31 := g1_4.stp (S3.tr S12) rfl rfl
  refine WO.call rfl rfl rfl rfl rfl rfl Try.call9 (s_CircuitOk_ok (κ := fun b => mp [] 0 (K11 b)) (p0 := p1) (Sl.map f29 (mp [] 0) rfl rfl) (Sl.map f30 (mp [] 0) rfl rfl) (Sl.map f31 (mp [] 0) rfl rfl) hx10) ?_
  rintro _ w32 ⟨k33, rfl, e34⟩
  obtain ⟨K35, S36, m37⟩ := Ent.mixed (l := []) (κ := K11) e34 7 rfl
  refine ⟨trivial, ?_⟩
  refine WO.pn 1 rfl ?_
  refine WO.fin ?_
  refine DN.seq ?_
  revert h
  cases ht39 : (!x10) with
  | true =>
   intro h; replace h := cT h
   refine WC.ct rfl ?_
   refine WC.seq ?_
   refine WC.rs [(0, 2), (1, 1), (2, 2)] rfl ?_
   refine WO.pn 1 rfl ?_
   obtain ⟨x13, hx13, h⟩ := Option.bind_eq_some_iff.mp h
   have f40 := f5.stp (S12.tr S36) rfl rfl
   have f41 := f15.stp S36 rfl rfl
   refine WO.call rfl rfl rfl rfl rfl rfl Try.call65 (s_l1Below_ok (κ := fun b => mp [(6, 2)] 0 (K35 b)) (p0 := (⟨p0.b, x6.2.1, x6.2.2⟩ : l1Cur)) (Sl.map f40 (mp [(6, 2)] 0) rfl rfl) (f41.map (mp [(6, 2)] 0) rfl rfl) hx13) ?_
   rintro _ w42 ⟨k43, rfl, e44, f45⟩
   obtain ⟨K46, S47, m48⟩ := Ent.mixed (l := [(6, 2)]) (κ := K35) e44 9 rfl
   refine ⟨trivial, ?_⟩
   have f50 := f45.mx m48 rfl (rfl : 9 + 2 = 11)
   refine WO.pn 1 rfl ?_
   refine WO.fin ?_
   refine DN.seq ?_
   refine WC.ret ?_
   refine DN.retThen ?_
   have f51 := hE.stp (S3.tr (S12.tr (S36.tr S47))) rfl rfl
   refine DN.res (l := [.tmp 4]) Try.results41 (res_tmp rfl rfl) rfl ?_
   obtain rfl := Option.some.inj h
   exact ⟨(fun b => ren [(11, 2)] (K46 b)), rfl, (f51.map (ren [(11, 2)]) rfl rfl), (f50.map (ren [(11, 2)]) rfl rfl)⟩
  | false =>
   intro h; replace h := cF h
   refine WC.cf rfl ?_
   refine WC.skip ?_
   refine DN.seq ?_
   refine WC.seq ?_
   refine WC.rs [(0, 2), (1, 1), (2, 1), (3, 2), (4, 1), (5, 2)] rfl ?_
   refine WO.pn 1 rfl ?_
   have f52 := f28.stp S36 rfl rfl
   refine WO.k1 trivial rfl rfl rfl rfl (rn_la (cs := [.int .i64 p1.Inputs, .int .i64 p1.Latches, .slice a1_2 p1.Next.length u1_2, .slice a1_3 p1.Gates.length u1_3, .slice a1_4 p1.Outs.length u1_4]) Try.isAgg27 Try.sizeOf27 rfl rfl rfl (haE f52.cells)) ?_
   obtain ⟨x16, hx16, h⟩ := Option.bind_eq_some_iff.mp h
   have f53 := f29.stp S36 rfl rfl
   have f54 := f30.stp S36 rfl rfl
   have f55 := f31.stp S36 rfl rfl
   refine WO.call rfl rfl rfl rfl rfl rfl Try.call35 (s_l31Signals_ok (κ := fun b => mp [] 0 (K35 b)) (p0 := p1) (Sl.map f53 (mp [] 0) rfl rfl) (Sl.map f54 (mp [] 0) rfl rfl) (Sl.map f55 (mp [] 0) rfl rfl) hx16) ?_
   rintro _ w56 ⟨k57, rfl, e58⟩
   obtain ⟨K59, S60, m61⟩ := Ent.mixed (l := []) (κ := K35) e58 9 rfl
   refine ⟨trivial, ?_⟩
   refine WO.pn 1 rfl ?_
   obtain ⟨x18, hx18, h⟩ := Option.bind_eq_some_iff.mp h
   have f63 := f5.stp (S12.tr (S36.tr S60)) rfl rfl
   have f64 := f15.stp (S36.tr S60) rfl rfl
   refine WO.call rfl rfl rfl rfl rfl rfl Try.call65 (s_l1Below_ok (κ := fun b => mp [(6, 2)] 0 (K59 b)) (p0 := (⟨p0.b, x6.2.1, x6.2.2⟩ : l1Cur)) (Sl.map f63 (mp [(6, 2)] 0) rfl rfl) (f64.map (mp [(6, 2)] 0) rfl rfl) hx18) ?_
   rintro _ w65 ⟨k66, rfl, e67, f68⟩
   obtain ⟨K69, S70, m71⟩ := Ent.mixed (l := [(6, 2)]) (κ := K59) e67 11 rfl
   refine ⟨trivial, ?_⟩
   have f73 := f68.mx m71 rfl (rfl : 11 + 2 = 13)
   refine WO.pn 1 rfl ?_
   refine WO.fin ?_
   refine DN.seq ?_
   refine WC.ret ?_
   have f74 := hE.stp (S3.tr (S12.tr (S36.tr (S60.tr S70)))) rfl rfl
   refine DN.res (l := [.tmp 4]) Try.results41 (res_tmp rfl rfl) rfl ?_
   obtain rfl := Option.some.inj h
   exact ⟨(fun b => ren [(13, 2)] (K69 b)), rfl, (f74.map (ren [(13, 2)]) rfl rfl), (f73.map (ren [(13, 2)]) rfl rfl)⟩

end Go.Proofs.Ythjkonkcdfdfaaa
