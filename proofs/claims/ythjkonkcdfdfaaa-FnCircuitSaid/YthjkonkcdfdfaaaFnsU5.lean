/- The walks, part 5. By program. -/
import Derived.Test.YthjkonkcdfdfaaaFnsU3
import Derived.Test.YthjkonkcdfdfaaaFnsU4
set_option linter.unusedVariables false
set_option linter.unusedSimpArgs false
namespace Go.Proofs.Ythjkonkcdfdfaaa
open Go Go.Wk Go.Proofs
set_option maxRecDepth 100000
set_option maxHeartbeats 1000000

/- loop.example/g00869/spec.l1Num -/
theorem s_l1Num_ok {w : World} {κ : Col} {a0_0 : Option Addr} {u0_0 : Nat} {p0 : l1Cur} {p1 : Int} {b0 : Nat} (g0_0 : Rd (Rp.int .u8) κ w 0 a0_0 u0_0 p0.b) (gb0 : Bc κ w 2 b0 89 [.slice a0_0 p0.b.length u0_0, .int .i64 p0.i, .int .i64 p0.h]) {r : Int × Int × Int} (h : s_l1Num p0 p1 = some r) : Ret Try.prog 66 [.pointer (some ⟨b0, 0, none⟩), .int .i64 p1] w (fun v w' => ∃ (κ' : Col), v = .int .i64 r.1 ∧ Ent κ w κ' w' ∧ Bc κ' w' 2 b0 89 [.slice a0_0 p0.b.length u0_0, .int .i64 r.2.1, .int .i64 r.2.2]) := by
 unfold s_l1Num at h
 refine Ret.enter Try.func66 rfl Try.ntmps66 rfl ?_
 dsimp only [envOf]
 have hE := Ent.refl κ w
 refine WC.seq ?_
 refine WC.rs [(0, 2)] rfl ?_
 refine WO.pn 1 rfl ?_
 refine WO.fin ?_
 refine DN.seq ?_
 refine WC.seq ?_
 refine WC.seq ?_
 refine WC.rs [(0, 2), (1, 1)] rfl ?_
 refine WO.pn 1 rfl ?_
 obtain ⟨x6, hx6, h⟩ := Option.bind_eq_some_iff.mp h
 refine WO.call rfl rfl rfl rfl rfl rfl Try.call64 (s_l1Once_ok (κ := fun b => mp [(2, 2)] 0 (κ b)) (p0 := p0) (Sl.map g0_0 (mp [(2, 2)] 0) rfl rfl) (gb0.map (mp [(2, 2)] 0) rfl rfl) hx6) ?_
 rintro _ w1 ⟨k2, rfl, e3, f4⟩
 obtain ⟨K5, S6, m7⟩ := Ent.mixed (l := [(2, 2)]) (κ := κ) e3 3 rfl
 refine ⟨trivial, ?_⟩
 have f9 := f4.mx m7 rfl (rfl : 3 + 2 = 5)
 refine WO.fin ?_
 refine DN.seq ?_
 revert h
 cases ht10 : x6.1 with
 | true =>
  intro h; replace h := cT h
  refine WC.ct rfl ?_
  refine WC.seq ?_
  refine WC.rs [(0, 2), (1, 2), (2, 2), (3, 2), (4, 1), (5, 1), (6, 2), (7, 1), (8, 2), (9, 1), (10, 2)] rfl ?_
  refine WO.pn 4 rfl ?_
  obtain ⟨x11, hx11, h⟩ := Option.bind_eq_some_iff.mp h
  have f11 := g0_0.stp S6 rfl rfl
  refine WO.call rfl rfl rfl rfl rfl rfl Try.call83 (s_l1Odd_ok (κ := fun b => mp [(5, 2)] 0 (K5 b)) (p0 := (⟨p0.b, x6.2.1, x6.2.2⟩ : l1Cur)) (Sl.map f11 (mp [(5, 2)] 0) rfl rfl) (f9.map (mp [(5, 2)] 0) rfl rfl) hx11) ?_
  rintro _ w12 ⟨k13, rfl, e14, f15⟩
  obtain ⟨K16, S17, m18⟩ := Ent.mixed (l := [(5, 2)]) (κ := K5) e14 6 rfl
  refine ⟨trivial, ?_⟩
  have f20 := f15.mx m18 rfl (rfl : 6 + 2 = 8)
  refine WO.bl (κ := K16) (E := (Ep.int .i64)) 9 [] (parts := [(0, .const (.int .i64 (-1))), (1, .tmp 7), (2, .tmp 9), (3, .tmp 11)]) (cells := [.int .i64 (-1), .int .i64 p1, .int .i64 (IntKind.i64.wrap (p1 + 1)), .int .i64 x11.1]) (xs := ([(-1), p1, (IntKind.i64.wrap (p1 + 1)), x11.1] : List Int)) rfl rfl rfl rfl rfl rfl Try.underlying24 Tryinfo2 rfl rfl rfl rfl rfl rfl rfl rfl rfl rfl ⟨[.int .i64 (-1)], [.int .i64 p1, .int .i64 (IntKind.i64.wrap (p1 + 1)), .int .i64 x11.1], Zl K16 w12 [], Zl K16 w12 [], rfl, Zl.sp (l1 := []) (l2 := []) rfl, Zl.sr (l1 := []) (l2 := []), rfl, ⟨[.int .i64 p1], [.int .i64 (IntKind.i64.wrap (p1 + 1)), .int .i64 x11.1], Zl K16 w12 [], Zl K16 w12 [], rfl, Zl.sp (l1 := []) (l2 := []) rfl, Zl.sr (l1 := []) (l2 := []), rfl, ⟨[.int .i64 (IntKind.i64.wrap (p1 + 1))], [.int .i64 x11.1], Zl K16 w12 [], Zl K16 w12 [], rfl, Zl.sp (l1 := []) (l2 := []) rfl, Zl.sr (l1 := []) (l2 := []), rfl, ⟨[.int .i64 x11.1], [], Zl K16 w12 [], Zl K16 w12 [], rfl, Zl.sp (l1 := []) (l2 := []) rfl, Zl.sr (l1 := []) (l2 := []), rfl, rfl⟩⟩⟩⟩ fun a12 u12 w21 K22 S23 f24 => ⟨trivial, ?_⟩
  refine WO.pn 1 rfl ?_
  obtain ⟨x14, hx14, h⟩ := Option.bind_eq_some_iff.mp h
  have f25 := f11.stp (S17.tr S23) rfl rfl
  have f26 := f20.stp S23 rfl rfl
  refine WO.call rfl rfl rfl rfl rfl rfl Try.call65 (s_l1Below_ok (κ := fun b => mp [(8, 2)] 0 (K22 b)) (p0 := (⟨p0.b, x11.2.1, x11.2.2⟩ : l1Cur)) (Sl.map f25 (mp [(8, 2)] 0) rfl rfl) (f26.map (mp [(8, 2)] 0) rfl rfl) hx14) ?_
  rintro _ w27 ⟨k28, rfl, e29, f30⟩
  obtain ⟨K31, S32, m33⟩ := Ent.mixed (l := [(8, 2)]) (κ := K22) e29 10 rfl
  refine ⟨trivial, ?_⟩
  have f35 := f30.mx m33 rfl (rfl : 10 + 2 = 12)
  obtain ⟨x15, hx15, h⟩ := Option.bind_eq_some_iff.mp h
  refine WO.k2 rfl rfl rfl rfl (rn_index f24.rdc hx15 Try.runUnderlying24 Try.sizeOf2 rfl rfl rfl rfl) ?_
  have f36 := f24.stp S32 rfl rfl
  refine WO.k1 trivial rfl rfl rfl rfl (rn_ld Try.isAgg2 rfl rfl (hvE (f36.rdc.gInt hx15))) ?_
  refine WO.pn 1 rfl ?_
  refine WO.fin ?_
  refine DN.seq ?_
  refine WC.ret ?_
  refine DN.retThen ?_
  have f37 := hE.stp (S6.tr (S17.tr (S23.tr S32))) rfl rfl
  refine DN.res (l := [.tmp 4]) Try.results66 (res_tmp rfl rfl) rfl ?_
  obtain rfl := Option.some.inj h
  exact ⟨(fun b => ren [(12, 2)] (K31 b)), rfl, (f37.map (ren [(12, 2)]) rfl rfl), (f35.map (ren [(12, 2)]) rfl rfl)⟩
 | false =>
  intro h; replace h := cF h
  refine WC.cf rfl ?_
  refine WC.skip ?_
  refine DN.seq ?_
  refine WC.seq ?_
  refine WC.seq ?_
  refine WC.rs [(0, 2), (1, 1)] rfl ?_
  refine WO.pn 1 rfl ?_
  obtain ⟨x18, hx18, h⟩ := Option.bind_eq_some_iff.mp h
  have f38 := g0_0.stp S6 rfl rfl
  refine WO.call rfl rfl rfl rfl rfl rfl Try.call64 (s_l1Once_ok (κ := fun b => mp [(5, 2)] 0 (K5 b)) (p0 := (⟨p0.b, x6.2.1, x6.2.2⟩ : l1Cur)) (Sl.map f38 (mp [(5, 2)] 0) rfl rfl) (f9.map (mp [(5, 2)] 0) rfl rfl) hx18) ?_
  rintro _ w39 ⟨k40, rfl, e41, f42⟩
  obtain ⟨K43, S44, m45⟩ := Ent.mixed (l := [(5, 2)]) (κ := K5) e41 6 rfl
  refine ⟨trivial, ?_⟩
  have f47 := f42.mx m45 rfl (rfl : 6 + 2 = 8)
  refine WO.fin ?_
  refine DN.seq ?_
  revert h
  cases ht48 : x18.1 with
  | true =>
   intro h; replace h := cT h
   refine WC.ct rfl ?_
   refine WC.seq ?_
   refine WC.rs [(0, 2), (1, 2), (2, 1), (3, 2), (4, 1), (5, 2)] rfl ?_
   refine WO.pn 2 rfl ?_
   obtain ⟨x21, hx21, h⟩ := Option.bind_eq_some_iff.mp h
   refine WO.call rfl rfl rfl rfl rfl rfl Try.call74 (s_l1Min_ok (κ := fun b => mp [] 0 (K43 b)) hx21) ?_
   rintro _ w49 ⟨k50, rfl, e51⟩
   obtain ⟨K52, S53, m54⟩ := Ent.mixed (l := []) (κ := K43) e51 9 rfl
   refine ⟨trivial, ?_⟩
   refine WO.pn 1 rfl ?_
   obtain ⟨x23, hx23, h⟩ := Option.bind_eq_some_iff.mp h
   have f56 := f38.stp (S44.tr S53) rfl rfl
   have f57 := f47.stp S53 rfl rfl
   refine WO.call rfl rfl rfl rfl rfl rfl Try.call65 (s_l1Below_ok (κ := fun b => mp [(8, 2)] 0 (K52 b)) (p0 := (⟨p0.b, x18.2.1, x18.2.2⟩ : l1Cur)) (Sl.map f56 (mp [(8, 2)] 0) rfl rfl) (f57.map (mp [(8, 2)] 0) rfl rfl) hx23) ?_
   rintro _ w58 ⟨k59, rfl, e60, f61⟩
   obtain ⟨K62, S63, m64⟩ := Ent.mixed (l := [(8, 2)]) (κ := K52) e60 11 rfl
   refine ⟨trivial, ?_⟩
   have f66 := f61.mx m64 rfl (rfl : 11 + 2 = 13)
   refine WO.pn 1 rfl ?_
   refine WO.fin ?_
   refine DN.seq ?_
   refine WC.ret ?_
   refine DN.retThen ?_
   have f67 := hE.stp (S6.tr (S44.tr (S53.tr S63))) rfl rfl
   refine DN.res (l := [.tmp 4]) Try.results66 (res_tmp rfl rfl) rfl ?_
   obtain rfl := Option.some.inj h
   exact ⟨(fun b => ren [(13, 2)] (K62 b)), rfl, (f67.map (ren [(13, 2)]) rfl rfl), (f66.map (ren [(13, 2)]) rfl rfl)⟩
  | false =>
   intro h; replace h := cF h
   refine WC.cf rfl ?_
   refine WC.skip ?_
   refine DN.seq ?_
   refine WC.seq ?_
   refine WC.rs [(0, 2), (1, 2), (2, 2), (3, 1), (4, 2)] rfl ?_
   refine WO.pn 3 rfl ?_
   obtain ⟨x27, hx27, h⟩ := Option.bind_eq_some_iff.mp h
   have f68 := f38.stp S44 rfl rfl
   refine WO.call rfl rfl rfl rfl rfl rfl Try.call65 (s_l1Below_ok (κ := fun b => mp [(8, 2)] 0 (K43 b)) (p0 := (⟨p0.b, x18.2.1, x18.2.2⟩ : l1Cur)) (Sl.map f68 (mp [(8, 2)] 0) rfl rfl) (f47.map (mp [(8, 2)] 0) rfl rfl) hx27) ?_
   rintro _ w69 ⟨k70, rfl, e71, f72⟩
   obtain ⟨K73, S74, m75⟩ := Ent.mixed (l := [(8, 2)]) (κ := K43) e71 9 rfl
   refine ⟨trivial, ?_⟩
   have f77 := f72.mx m75 rfl (rfl : 9 + 2 = 11)
   refine WO.pn 1 rfl ?_
   refine WO.fin ?_
   refine DN.seq ?_
   refine WC.ret ?_
   have f78 := hE.stp (S6.tr (S44.tr S74)) rfl rfl
   refine DN.res (l := [.tmp 4]) Try.results66 (res_tmp rfl rfl) rfl ?_
   obtain rfl := Option.some.inj h
   exact ⟨(fun b => ren [(11, 2)] (K73 b)), rfl, (f78.map (ren [(11, 2)]) rfl rfl), (f77.map (ren [(11, 2)]) rfl rfl)⟩

/- loop.example/g00869/impl.areLetters -/
theorem i_areLetters_ok {w : World} {κ : Col} {a0 : Option Addr} {u0 : Nat} {p0 : (List Int)} {p1 : Int} (g0 : Rd (Rp.int .i64) κ w 0 a0 u0 p0) {r : Bool} (h : i_areLetters p0 p1 = some r) : Ret Try.prog 62 [.slice a0 p0.length u0, .int .i64 p1] w (fun v w' => ∃ (κ' : Col), v = .bool r ∧ Ent κ w κ' w') := by
 unfold i_areLetters at h
 refine Ret.enter Try.func62 rfl Try.ntmps62 rfl ?_
 dsimp only [envOf]
 have hE := Ent.refl κ w
 refine WC.seq ?_
 refine WC.rs [(0, 1), (1, 2)] rfl ?_
 refine WO.box (κ := κ) 2 rfl rfl rfl rfl rfl rfl rfl fun b3 w1 K2 S3 f4 => ⟨trivial, ?_⟩
 refine WO.pn 1 rfl ?_
 refine WO.fin ?_
 refine DN.seq ?_
 refine WC.seq ?_
 refine WC.rs [(0, 2), (1, 2), (2, 1), (3, 2), (4, 2)] rfl ?_
 refine WO.pn 1 rfl ?_
 refine WO.k2 rfl rfl rfl rfl (rn_makeFunc (first := []) (captured := [.tmp 3]) rfl rfl rfl ⟨_, rfl⟩) ?_
 obtain ⟨x7, hx7, h⟩ := Option.bind_eq_some_iff.mp h
 have f5 := g0.stp S3 rfl rfl
 refine WO.call rfl rfl rfl rfl rfl rfl Try.call80 (slices_ContainsFunc_I_int64__i_areLetters_1_ok (κ := fun b => mp [] 0 (K2 b)) (Sl.map f5 (mp [] 0) rfl rfl) (f4.map (mp [] 0) rfl rfl) hx7) ?_
 rintro _ w6 ⟨k7, rfl, e8⟩
 obtain ⟨K9, S10, m11⟩ := Ent.mixed (l := []) (κ := K2) e8 3 rfl
 refine ⟨trivial, ?_⟩
 refine WO.pn 2 rfl ?_
 refine WO.fin ?_
 refine DN.seq ?_
 refine WC.ret ?_
 have f13 := hE.stp (S3.tr S10) rfl rfl
 refine DN.res (l := [.tmp 4]) Try.results62 (res_tmp rfl rfl) rfl ?_
 obtain rfl := Option.some.inj h
 exact ⟨K9, rfl, f13⟩

/- (*loop.example/g00869/impl.builder).literalOf -/
theorem i_builder_literalOf_ok (n : Nat) : ∀ {w : World} {κ : Col} {a0_0_2 : Option Addr} {u0_0_2 : Nat} {a0_0_3 : Option Addr} {u0_0_3 : Nat} {a0_0_4 : Option Addr} {u0_0_4 : Nat} {mb0_2 : Nat} {p0 : builder} {a1 : Option Addr} {u1 : Nat} {p1 : (List Bool)} {b0 : Nat} (g0_0_2 : Rd (Rp.int .i64) κ w 0 a0_0_2 u0_0_2 p0.c.Next) (g0_0_3 : Oc Gate.ep33 33 κ w 2 a0_0_3 u0_0_3 p0.c.Gates) (g0_0_4 : Rd (Rp.int .i64) κ w 0 a0_0_4 u0_0_4 p0.c.Outs) (g0_2 : Mc kwGate kvGate (fun v : Int => .int .i64 v) κ w 3 mb0_2 p0.known) (g1 : Rd Rp.bool κ w 0 a1 u1 p1) (gb0 : Bc κ w 4 b0 72 [.int .i64 p0.c.Inputs, .int .i64 p0.c.Latches, .slice a0_0_2 p0.c.Next.length u0_0_2, .slice a0_0_3 p0.c.Gates.length u0_0_3, .slice a0_0_4 p0.c.Outs.length u0_0_4, .bool p0.full, .map (some mb0_2)]) {r : Int × (List Gate) × Bool × (List (Gate × Int))} (h : i_builder_literalOf n p0 p1 = some r), Ret Try.prog 54 [.pointer (some ⟨b0, 0, none⟩), .slice a1 p1.length u1] w (fun v w' => ∃ (κ' : Col) (ma0 : Option Addr) (mu0 : Nat), v = .int .i64 r.1 ∧ Ent κ w κ' w' ∧ Oc Gate.ep33 33 κ' w' 2 ma0 mu0 r.2.1 ∧ Mc kwGate kvGate (fun v : Int => .int .i64 v) κ' w' 3 mb0_2 r.2.2.2 ∧ Bc κ' w' 4 b0 72 [.int .i64 p0.c.Inputs, .int .i64 p0.c.Latches, .slice a0_0_2 p0.c.Next.length u0_0_2, .slice ma0 r.2.1.length mu0, .slice a0_0_4 p0.c.Outs.length u0_0_4, .bool r.2.2.1, .map (some mb0_2)]) := by
 induction n with
 | zero =>
  intro w κ a0_0_2 u0_0_2 a0_0_3 u0_0_3 a0_0_4 u0_0_4 mb0_2 p0 a1 u1 p1 b0 g0_0_2 g0_0_3 g0_0_4 g0_2 g1 gb0 r h
  cases h
 | succ n ih =>
  intro w κ a0_0_2 u0_0_2 a0_0_3 u0_0_3 a0_0_4 u0_0_4 mb0_2 p0 a1 u1 p1 b0 g0_0_2 g0_0_3 g0_0_4 g0_2 g1 gb0 r h
  have h : i_builder_literalOf_s (i_builder_literalOf n) p0 p1 = some r := h
  unfold i_builder_literalOf_s at h
  refine Ret.enter Try.func54 rfl Try.ntmps54 rfl ?_
  dsimp only [envOf]
  have hE := Ent.refl κ w
  refine WC.seq ?_
  refine WC.rs [(0, 2)] rfl ?_
  refine WO.pn 1 rfl ?_
  refine WO.fin ?_
  refine DN.seq ?_
  refine WC.seq ?_
  refine WC.seq ?_
  refine WC.rs [(0, 2), (1, 1), (2, 2)] rfl ?_
  refine WO.pn 1 rfl ?_
  obtain ⟨x10, hx10, h⟩ := Option.bind_eq_some_iff.mp h
  refine WO.call rfl rfl rfl rfl rfl rfl Try.call78 (slices_Contains_bool_bool_ok (κ := fun b => mp [] 0 (κ b)) (Sl.map g1 (mp [] 0) rfl rfl) hx10) ?_
  rintro _ w1 ⟨k2, rfl, e3⟩
  obtain ⟨K4, S5, m6⟩ := Ent.mixed (l := []) (κ := κ) e3 5 rfl
  refine ⟨trivial, ?_⟩
  refine WO.pn 1 rfl ?_
  refine WO.fin ?_
  refine DN.seq ?_
  revert h
  cases ht8 : (!x10) with
  | true =>
   intro h; replace h := cT h
   refine WC.ct rfl ?_
   refine WC.seq ?_
   refine WC.rs [(0, 2)] rfl ?_
   refine WO.pn 1 rfl ?_
   refine WO.fin ?_
   refine DN.seq ?_
   refine WC.ret ?_
   refine DN.retThen ?_
   have f9 := hE.stp S5 rfl rfl
   have f10 := g0_0_3.stp S5 rfl rfl
   have f11 := g0_2.stp S5 rfl rfl
   have f12 := gb0.stp S5 rfl rfl
   refine DN.res (l := [.tmp 4]) Try.results54 (res_tmp rfl rfl) rfl ?_
   obtain rfl := Option.some.inj h
   exact ⟨K4, a0_0_3, u0_0_3, rfl, f9, f10, f11, f12⟩
  | false =>
   intro h; replace h := cF h
   refine WC.cf rfl ?_
   refine WC.skip ?_
   refine DN.seq ?_
   refine WC.seq ?_
   refine WC.seq ?_
   refine WC.rs [(0, 2), (1, 1), (2, 2)] rfl ?_
   refine WO.pn 1 rfl ?_
   obtain ⟨x13, hx13, h⟩ := Option.bind_eq_some_iff.mp h
   have f13 := g1.stp S5 rfl rfl
   refine WO.call rfl rfl rfl rfl rfl rfl Try.call78 (slices_Contains_bool_bool_ok (κ := fun b => mp [] 0 (K4 b)) (Sl.map f13 (mp [] 0) rfl rfl) hx13) ?_
   rintro _ w14 ⟨k15, rfl, e16⟩
   obtain ⟨K17, S18, m19⟩ := Ent.mixed (l := []) (κ := K4) e16 7 rfl
   refine ⟨trivial, ?_⟩
   refine WO.pn 1 rfl ?_
   refine WO.fin ?_
   refine DN.seq ?_
   revert h
   cases ht21 : (!x13) with
   | true =>
    intro h; replace h := cT h
    refine WC.ct rfl ?_
    refine WC.seq ?_
    refine WC.rs [(0, 2)] rfl ?_
    refine WO.pn 1 rfl ?_
    refine WO.fin ?_
    refine DN.seq ?_
    refine WC.ret ?_
    refine DN.retThen ?_
    have f22 := hE.stp (S5.tr S18) rfl rfl
    have f23 := g0_0_3.stp (S5.tr S18) rfl rfl
    have f24 := g0_2.stp (S5.tr S18) rfl rfl
    have f25 := gb0.stp (S5.tr S18) rfl rfl
    refine DN.res (l := [.tmp 4]) Try.results54 (res_tmp rfl rfl) rfl ?_
    obtain rfl := Option.some.inj h
    exact ⟨K17, a0_0_3, u0_0_3, rfl, f22, f23, f24, f25⟩
   | false =>
    intro h; replace h := cF h
    refine WC.cf rfl ?_
    refine WC.skip ?_
    refine DN.seq ?_
    refine WC.seq ?_
    refine WC.rs [(0, 2)] rfl ?_
    refine WO.pn 1 rfl ?_
    refine WO.fin ?_
    refine DN.seq ?_
    refine WC.seq ?_
    obtain ⟨q2, hq28, hK27⟩ := Option.bind_eq_some_iff.mp h
    clear h
    refine WC.meet (fun L w' => ∃ (κ' : Col) (s3 : Int), L = [(0, .pointer (some ⟨b0, 0, none⟩)), (1, .slice a1 p1.length u1), (5, .int .i64 s3)] ∧ Stp [] K17 w14 κ' w' ∧ q2 = Sum.inr s3) ?_ ?_
    ·
     refine WC.block ?_
     refine WC.loop (fun k L w' => ∃ (κ' : Col) (s1 : Int), L = [(0, .pointer (some ⟨b0, 0, none⟩)), (1, .slice a1 p1.length u1), (5, .int .i64 s1)] ∧ Stp [] K17 w14 κ' w' ∧ whileM (i_builder_literalOf_b0 p1) k s1 = some q2) ⟨_, _, ⟨K17, (0 : Int), rfl, (Stp.refl _ _).wk rfl, hq28⟩, fun a ha => (ha.more (ha.more (ha.more ha.nil rfl) rfl) rfl)⟩ ?_
     rintro k _ w32 ⟨K33, s1, rfl, S34, h⟩
     rcases k with _ | k
     ·
      cases h
     ·
      obtain ⟨o26, h, hk35⟩ := Option.bind_eq_some_iff.mp h; unfold i_builder_literalOf_b0 at h
      refine WC.seq ?_
      refine WC.seq ?_
      refine WC.rs [(0, 2), (1, 2), (2, 2), (3, 2), (4, 2)] rfl ?_
      refine WO.pn 1 rfl ?_
      obtain ⟨_z16, hz16, h⟩ := Option.bind_eq_some_iff.mp h
      refine WO.k2 rfl rfl rfl rfl (rn_shl rfl rfl rfl (nn_ok hz16)) ?_
      refine WO.pn 1 rfl ?_
      refine WO.k2 rfl rfl rfl rfl (rn_len Try.runUnderlying77 rfl rfl) ?_
      refine WO.pn 1 rfl ?_
      refine WO.fin ?_
      refine DN.seq ?_
      revert h
      cases ht36 : decide ((IntKind.i64.wrap (2 * 2 ^ (min (Int.toNat s1) (IntKind.bits IntKind.i64)))) < (p1.length : Int)) with
      | true =>
       intro h; replace h := cT h
       refine WC.ct rfl ?_
       refine WC.skip ?_
       refine DN.seq ?_
       refine WC.block ?_
       refine WC.rs [(0, 2), (1, 2), (2, 2)] rfl ?_
       refine WO.pn 3 rfl ?_
       refine WO.fin ?_
       refine DN.block ?_
       obtain rfl := Option.some.inj h
       refine DN.round fun a ha => ?_
       exact ⟨k, _, Nat.lt_succ_self _, ⟨K33, ((IntKind.i64.wrap (s1 + 1)) : Int), rfl, S34.wk rfl, hk35⟩, (ha.more (ha.more (ha.more ha.nil rfl) rfl) rfl)⟩
      | false =>
       intro h; replace h := cF h
       refine WC.cf rfl ?_
       refine WC.exit ?_
       refine DN.exitThen ?_
       refine DN.exitThen ?_
       obtain rfl := Option.some.inj h
       have h := hk35
       refine DN.hit ?_
       obtain rfl := Option.some.inj h
       exact DN.meet _ ⟨K33, (s1 : Int), rfl, S34.wk rfl, rfl⟩ fun a ha => (ha.more (ha.more (ha.more ha.nil rfl) rfl) rfl)
    rintro _ w29 ⟨K30, s3, rfl, S31, rfl⟩
    have h := hK27
    dsimp only [aft] at h
    refine DN.seq ?_
    refine WC.seq ?_
    refine WC.rs [(0, 2), (1, 2), (2, 2), (3, 2)] rfl ?_
    refine WO.pn 4 rfl ?_
    refine WO.fin ?_
    refine DN.seq ?_
    refine WC.seq ?_
    refine WC.rs [(0, 2), (1, 2), (2, 2), (3, 2), (4, 2), (5, 2), (6, 1), (7, 2)] rfl ?_
    refine WO.pn 3 rfl ?_
    refine WO.k2 rfl rfl rfl rfl (rn_len Try.runUnderlying77 rfl rfl) ?_
    refine WO.k2 rfl rfl rfl rfl (rn_quo rfl rfl rfl (by decide)) ?_
    obtain ⟨x30, hx30, h⟩ := Option.bind_eq_some_iff.mp h
    refine WO.k2 rfl rfl rfl rfl (rn_slice (k1 := .i64) (k2 := .i64) Try.runUnderlying77 Try.sizeOf4 (.inr ⟨_, rfl, rfl⟩) (.inl ⟨rfl, rfl⟩) hx30 f13.1 rfl rfl rfl) ?_
    have f38 := f13.stp (S18.tr S31) rfl rfl
    have f37 := f38.sub hx30
    obtain ⟨x31, hx31, h⟩ := Option.bind_eq_some_iff.mp h
    have f39 := g0_0_2.stp (S5.tr (S18.tr S31)) rfl rfl
    have f40 := g0_0_3.stp (S5.tr (S18.tr S31)) rfl rfl
    have f41 := g0_0_4.stp (S5.tr (S18.tr S31)) rfl rfl
    have f42 := g0_2.stp (S5.tr (S18.tr S31)) rfl rfl
    have f43 := gb0.stp (S5.tr (S18.tr S31)) rfl rfl
    refine WO.call rfl rfl rfl rfl rfl rfl Try.call54 (ih (κ := fun b => mp [(2, 2), (3, 3), (4, 4)] 0 (K30 b)) (p0 := p0) (Sl.map f39 (mp [(2, 2), (3, 3), (4, 4)] 0) rfl rfl) (f40.map (mp [(2, 2), (3, 3), (4, 4)] 0) rfl rfl) (Sl.map f41 (mp [(2, 2), (3, 3), (4, 4)] 0) rfl rfl) (f42.map (mp [(2, 2), (3, 3), (4, 4)] 0) rfl rfl) (Sl.map f37 (mp [(2, 2), (3, 3), (4, 4)] 0) rfl rfl) (f43.map (mp [(2, 2), (3, 3), (4, 4)] 0) rfl rfl) hx31) ?_
    rintro _ w44 ⟨k45, a31_m0, u31_m0, rfl, e46, f47, f48, f49⟩
    obtain ⟨K50, S51, m52⟩ := Ent.mixed (l := [(2, 2), (3, 3), (4, 4)]) (κ := K30) e46 9 rfl
    refine ⟨trivial, ?_⟩
    have f54 := f47.mx Gate.no33 m52 rfl (rfl : 9 + 2 = 11)
    have f55 := f48.mx' m52 rfl (rfl : 9 + 3 = 12)
    have f56 := f49.mx m52 rfl (rfl : 9 + 4 = 13)
    refine WO.pn 1 rfl ?_
    refine WO.fin ?_
    refine DN.seq ?_
    refine WC.seq ?_
    refine WC.rs [(0, 2), (1, 2), (2, 2), (3, 2), (4, 2), (5, 2), (6, 1), (7, 2)] rfl ?_
    refine WO.pn 3 rfl ?_
    refine WO.k2 rfl rfl rfl rfl (rn_len Try.runUnderlying77 rfl rfl) ?_
    refine WO.k2 rfl rfl rfl rfl (rn_quo rfl rfl rfl (by decide)) ?_
    obtain ⟨x37, hx37, h⟩ := Option.bind_eq_some_iff.mp h
    refine WO.k2 rfl rfl rfl rfl (rn_slice (k1 := .i64) (k2 := .i64) Try.runUnderlying77 Try.sizeOf4 (.inl ⟨rfl, rfl⟩) (.inr ⟨_, rfl, rfl⟩) hx37 f38.1 rfl rfl rfl) ?_
    have f58 := f38.stp S51 rfl rfl
    have f57 := f58.sub hx37
    obtain ⟨x38, hx38, h⟩ := Option.bind_eq_some_iff.mp h
    have f59 := f39.stp S51 rfl rfl
    have f60 := f41.stp S51 rfl rfl
    refine WO.call rfl rfl rfl rfl rfl rfl Try.call54 (ih (κ := fun b => mp [(11, 2), (12, 3), (13, 4)] 0 (K50 b)) (p0 := (⟨(⟨p0.c.Inputs, p0.c.Latches, p0.c.Next, x31.2.1, p0.c.Outs⟩ : Circuit), x31.2.2.1, x31.2.2.2⟩ : builder)) (Sl.map f59 (mp [(11, 2), (12, 3), (13, 4)] 0) rfl rfl) (f54.map (mp [(11, 2), (12, 3), (13, 4)] 0) rfl rfl) (Sl.map f60 (mp [(11, 2), (12, 3), (13, 4)] 0) rfl rfl) (f55.map (mp [(11, 2), (12, 3), (13, 4)] 0) rfl rfl) (Sl.map f57 (mp [(11, 2), (12, 3), (13, 4)] 0) rfl rfl) (f56.map (mp [(11, 2), (12, 3), (13, 4)] 0) rfl rfl) hx38) ?_
    rintro _ w61 ⟨k62, a38_m0, u38_m0, rfl, e63, f64, f65, f66⟩
    obtain ⟨K67, S68, m69⟩ := Ent.mixed (l := [(11, 2), (12, 3), (13, 4)]) (κ := K50) e63 14 rfl
    refine ⟨trivial, ?_⟩
    have f71 := f64.mx Gate.no33 m69 rfl (rfl : 14 + 2 = 16)
    have f72 := f65.mx' m69 rfl (rfl : 14 + 3 = 17)
    have f73 := f66.mx m69 rfl (rfl : 14 + 4 = 18)
    refine WO.pn 1 rfl ?_
    refine WO.fin ?_
    refine DN.seq ?_
    refine WC.seq ?_
    refine WC.rs [(0, 2), (1, 2), (2, 2), (3, 2), (4, 1), (5, 2)] rfl ?_
    refine WO.pn 4 rfl ?_
    obtain ⟨x43, hx43, h⟩ := Option.bind_eq_some_iff.mp h
    have f74 := f59.stp S68 rfl rfl
    have f75 := f60.stp S68 rfl rfl
    refine WO.call rfl rfl rfl rfl rfl rfl Try.call45 (i_builder_choose_ok (κ := fun b => mp [(16, 2), (17, 3), (18, 4)] 0 (K67 b)) (p0 := (⟨(⟨p0.c.Inputs, p0.c.Latches, p0.c.Next, x38.2.1, p0.c.Outs⟩ : Circuit), x38.2.2.1, x38.2.2.2⟩ : builder)) (Sl.map f74 (mp [(16, 2), (17, 3), (18, 4)] 0) rfl rfl) (f71.map (mp [(16, 2), (17, 3), (18, 4)] 0) rfl rfl) (Sl.map f75 (mp [(16, 2), (17, 3), (18, 4)] 0) rfl rfl) (f72.map (mp [(16, 2), (17, 3), (18, 4)] 0) rfl rfl) (f73.map (mp [(16, 2), (17, 3), (18, 4)] 0) rfl rfl) hx43) ?_
    rintro _ w76 ⟨k77, a43_m0, u43_m0, rfl, e78, f79, f80, f81⟩
    obtain ⟨K82, S83, m84⟩ := Ent.mixed (l := [(16, 2), (17, 3), (18, 4)]) (κ := K67) e78 19 rfl
    refine ⟨trivial, ?_⟩
    have f86 := f79.mx Gate.no33 m84 rfl (rfl : 19 + 2 = 21)
    have f87 := f80.mx' m84 rfl (rfl : 19 + 3 = 22)
    have f88 := f81.mx m84 rfl (rfl : 19 + 4 = 23)
    refine WO.pn 1 rfl ?_
    refine WO.fin ?_
    refine DN.seq ?_
    refine WC.ret ?_
    have f89 := hE.stp (S5.tr (S18.tr (S31.tr (S51.tr (S68.tr S83))))) rfl rfl
    refine DN.res (l := [.tmp 4]) Try.results54 (res_tmp rfl rfl) rfl ?_
    obtain rfl := Option.some.inj h
    exact ⟨(fun b => ren [(21, 2), (22, 3), (23, 4)] (K82 b)), a43_m0, u43_m0, rfl, (f89.map (ren [(21, 2), (22, 3), (23, 4)]) rfl rfl), (f86.map (ren [(21, 2), (22, 3), (23, 4)]) rfl rfl), (f87.map (ren [(21, 2), (22, 3), (23, 4)]) rfl rfl), (f88.map (ren [(21, 2), (22, 3), (23, 4)]) rfl rfl)⟩

/- loop.example/g00869/spec.l31Fits -/
theorem s_l31Fits_ok {w : World} {κ : Col} {p0 : Sig} {a1_2 : Option Addr} {u1_2 : Nat} {a1_3 : Option Addr} {u1_3 : Nat} {a1_4 : Option Addr} {u1_4 : Nat} {p1 : Circuit} (g1_2 : Rd (Rp.int .i64) κ w 0 a1_2 u1_2 p1.Next) (g1_3 : Rd Gate.rp κ w 0 a1_3 u1_3 p1.Gates) (g1_4 : Rd (Rp.int .i64) κ w 0 a1_4 u1_4 p1.Outs) {r : Bool} (h : s_l31Fits p0 p1 = some r) : Ret Try.prog 59 [.agg #[.int .i64 p0.In, .int .i64 p0.Out], .agg #[.int .i64 p1.Inputs, .int .i64 p1.Latches, .slice a1_2 p1.Next.length u1_2, .slice a1_3 p1.Gates.length u1_3, .slice a1_4 p1.Outs.length u1_4]] w (fun v w' => ∃ (κ' : Col), v = .bool r ∧ Ent κ w κ' w') := by
 unfold s_l31Fits at h
 refine Ret.enter Try.func59 rfl Try.ntmps59 rfl ?_
 dsimp only [envOf]
 have hE := Ent.refl κ w
 refine WC.seq ?_
 refine WC.rs [(0, 1), (1, 1), (2, 2)] rfl ?_
 refine WO.box (κ := κ) 2 rfl rfl rfl rfl rfl rfl rfl fun b2 w1 K2 S3 f4 => ⟨trivial, ?_⟩
 refine WO.box (κ := K2) 3 rfl rfl rfl rfl rfl rfl rfl fun b3 w5 K6 S7 f8 => ⟨trivial, ?_⟩
 refine WO.pn 1 rfl ?_
 refine WO.fin ?_
 refine DN.seq ?_
 refine WC.seq ?_
 refine WC.rs [(0, 1), (1, 1), (2, 2), (3, 2), (4, 1), (5, 2), (6, 1), (7, 2), (8, 2), (9, 2), (10, 2), (11, 1), (12, 2), (13, 2), (14, 1), (15, 2), (16, 2), (17, 2)] rfl ?_
 refine WO.k1 trivial rfl rfl rfl rfl (rn_la (cs := [.int .i64 p1.Inputs, .int .i64 p1.Latches, .slice a1_2 p1.Next.length u1_2, .slice a1_3 p1.Gates.length u1_3, .slice a1_4 p1.Outs.length u1_4]) Try.isAgg27 Try.sizeOf27 rfl rfl rfl (haE f8.cells)) ?_
 obtain ⟨x6, hx6, h⟩ := Option.bind_eq_some_iff.mp h
 have f9 := g1_2.stp (S3.tr S7) rfl rfl
 have f10 := g1_3.stp (S3.tr S7) rfl rfl
 have f11 := g1_4.stp (S3.tr S7) rfl rfl
 refine WO.call rfl rfl rfl rfl rfl rfl Try.call9 (s_CircuitOk_ok (κ := fun b => mp [] 0 (K6 b)) (p0 := p1) (Sl.map f9 (mp [] 0) rfl rfl) (Sl.map f10 (mp [] 0) rfl rfl) (Sl.map f11 (mp [] 0) rfl rfl) hx6) ?_
 rintro _ w12 ⟨k13, rfl, e14⟩
 obtain ⟨K15, S16, m17⟩ := Ent.mixed (l := []) (κ := K6) e14 4 rfl
 refine ⟨trivial, ?_⟩
 refine WO.pn 1 rfl ?_
 obtain ⟨p13, h, hK19⟩ := Option.bind_eq_some_iff.mp h
 refine WO.meet [(3, 2), (4, 1), (5, 2), (6, 1), (7, 2), (8, 2)] [(9, 2), (10, 2), (11, 1), (12, 2), (13, 2), (14, 1), (15, 2), (16, 2), (17, 2)] (fun L w' => L = [(2, .pointer (some ⟨b2, 0, none⟩)), (3, .pointer (some ⟨b3, 0, none⟩)), (4, .bool false), (13, .bool p13)] ∧ ∃ κ', Stp [] K15 w12 κ' w') trivial ?_ ?_
 ·
  revert h
  cases ht20 : x6 with
  | true =>
   intro h; replace h := cT h
   refine WO.k2 rfl rfl rfl rfl (rn_fieldAddr Try.runUnderlying27 rfl Try.sizeOf2 rfl rfl) ?_
   have f21 := f8.stp S16 rfl rfl
   refine WO.k1 trivial rfl rfl rfl rfl (rn_ld Try.isAgg2 rfl rfl (hvE (f21.ld 0 rfl rfl))) ?_
   refine WO.k2 rfl rfl rfl rfl (rn_fieldAddr Try.runUnderlying43 rfl Try.sizeOf2 rfl rfl) ?_
   have f22 := f4.stp (S7.tr S16) rfl rfl
   refine WO.k1 trivial rfl rfl rfl rfl (rn_ld Try.isAgg2 rfl rfl (hvE (f22.ld 0 rfl rfl))) ?_
   refine WO.pn 2 rfl ?_
   obtain rfl := Option.some.inj h
   exact WO.met _ trivial ⟨rfl, _, (Stp.refl _ _).wk rfl⟩ fun a ha => (ha.more (ha.more (ha.more (ha.more ha.nil rfl) rfl) rfl) rfl)
  | false =>
   intro h; replace h := cF h
   refine WO.pn 1 rfl ?_
   refine WO.ls rfl rfl rfl rfl ?_
   refine WO.pn 1 rfl ?_
   refine WO.ls rfl rfl rfl rfl ?_
   refine WO.pn 2 rfl ?_
   obtain rfl := Option.some.inj h
   exact WO.met _ trivial ⟨rfl, _, (Stp.refl _ _).wk rfl⟩ fun a ha => (ha.more (ha.more (ha.more (ha.more ha.nil rfl) rfl) rfl) rfl)
 rintro _ w23 _ ⟨rfl, K24, S25⟩
 have h := hK19
 refine WO.pn 1 rfl ?_
 obtain ⟨p21, h, hK26⟩ := Option.bind_eq_some_iff.mp h
 refine WO.meet [(10, 2), (11, 1), (12, 2), (13, 2), (14, 1), (15, 2), (16, 2)] [(17, 2)] (fun L w' => L = [(4, .bool false), (21, .bool p21)] ∧ ∃ κ', Stp [] K24 w23 κ' w') trivial ?_ ?_
 ·
  revert h
  cases ht27 : p13 with
  | true =>
   intro h; replace h := cT h
   refine WO.k2 rfl rfl rfl rfl (rn_fieldAddr Try.runUnderlying27 rfl Try.sizeOf24 rfl rfl) ?_
   have f28 := f8.stp (S16.tr S25) rfl rfl
   refine WO.k1 trivial rfl rfl rfl rfl (rn_ld Try.isAgg24 rfl rfl (hvE (f28.ld 4 rfl rfl))) ?_
   refine WO.k2 rfl rfl rfl rfl (rn_len Try.runUnderlying24 rfl rfl) ?_
   refine WO.k2 rfl rfl rfl rfl (rn_fieldAddr Try.runUnderlying43 rfl Try.sizeOf2 rfl rfl) ?_
   have f29 := f4.stp (S7.tr (S16.tr S25)) rfl rfl
   refine WO.k1 trivial rfl rfl rfl rfl (rn_ld Try.isAgg2 rfl rfl (hvE (f29.ld 1 rfl rfl))) ?_
   refine WO.pn 2 rfl ?_
   obtain rfl := Option.some.inj h
   exact WO.met _ trivial ⟨rfl, _, (Stp.refl _ _).wk rfl⟩ fun a ha => (ha.more (ha.more ha.nil rfl) rfl)
  | false =>
   intro h; replace h := cF h
   refine WO.pn 1 rfl ?_
   refine WO.ls rfl rfl rfl rfl ?_
   refine WO.pn 2 rfl ?_
   refine WO.ls rfl rfl rfl rfl ?_
   refine WO.pn 2 rfl ?_
   obtain rfl := Option.some.inj h
   exact WO.met _ trivial ⟨rfl, _, (Stp.refl _ _).wk rfl⟩ fun a ha => (ha.more (ha.more ha.nil rfl) rfl)
 rintro _ w30 _ ⟨rfl, K31, S32⟩
 have h := hK26
 refine WO.pn 1 rfl ?_
 refine WO.fin ?_
 refine DN.seq ?_
 refine WC.ret ?_
 have f33 := hE.stp (S3.tr (S7.tr (S16.tr (S25.tr S32)))) rfl rfl
 refine DN.res (l := [.tmp 4]) Try.results59 (res_tmp rfl rfl) rfl ?_
 obtain rfl := Option.some.inj h
 exact ⟨K31, rfl, f33⟩

end Go.Proofs.Ythjkonkcdfdfaaa
