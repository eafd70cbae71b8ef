/- The walks, part 3. By program. -/
import Derived.Test.YthjkonkcdfdfaaaFnsU1
import Derived.Test.YthjkonkcdfdfaaaFnsU2
set_option linter.unusedVariables false
set_option linter.unusedSimpArgs false
namespace Go.Proofs.Ythjkonkcdfdfaaa
open Go Go.Wk Go.Proofs
set_option maxRecDepth 100000
set_option maxHeartbeats 1000000

/- loop.example/g00869/spec.l31DrawSig -/
theorem s_l31DrawSig_ok {w : World} {κ : Col} {a0_0 : Option Addr} {u0_0 : Nat} {p0 : l1Cur} {b0 : Nat} (g0_0 : Rd (Rp.int .u8) κ w 0 a0_0 u0_0 p0.b) (gb0 : Bc κ w 2 b0 89 [.slice a0_0 p0.b.length u0_0, .int .i64 p0.i, .int .i64 p0.h]) {r : Sig × Int × Int} (h : s_l31DrawSig p0 = some r) : Ret Try.prog 75 [.pointer (some ⟨b0, 0, none⟩)] w (fun v w' => ∃ (κ' : Col), v = .agg #[.int .i64 r.1.In, .int .i64 r.1.Out] ∧ Ent κ w κ' w' ∧ Bc κ' w' 2 b0 89 [.slice a0_0 p0.b.length u0_0, .int .i64 r.2.1, .int .i64 r.2.2]) := by
 unfold s_l31DrawSig at h
 refine Ret.enter Try.func75 rfl Try.ntmps75 rfl ?_
 dsimp only [envOf]
 have hE := Ent.refl κ w
 refine WC.seq ?_
 refine WC.rs [(0, 1)] rfl ?_
 refine WO.alloc (κ := κ) 3 rfl rfl rfl rfl rfl Try.zeroValue43 rfl fun b2 w1 K2 S3 f4 => ⟨trivial, ?_⟩
 refine WO.fin ?_
 refine DN.seq ?_
 refine WC.seq ?_
 refine WC.rs [(0, 2), (1, 1), (2, 2), (3, 2), (4, 1), (5, 2), (6, 2), (7, 1)] rfl ?_
 refine WO.pn 1 rfl ?_
 obtain ⟨x4, hx4, h⟩ := Option.bind_eq_some_iff.mp h
 have f5 := g0_0.stp S3 rfl rfl
 have f6 := gb0.stp S3 rfl rfl
 refine WO.call rfl rfl rfl rfl rfl rfl Try.call65 (s_l1Below_ok (κ := fun b => mp [(2, 2)] 0 (K2 b)) (p0 := p0) (Sl.map f5 (mp [(2, 2)] 0) rfl rfl) (f6.map (mp [(2, 2)] 0) rfl rfl) hx4) ?_
 rintro _ w7 ⟨k8, rfl, e9, f10⟩
 obtain ⟨K11, S12, m13⟩ := Ent.mixed (l := [(2, 2)]) (κ := K2) e9 4 rfl
 refine ⟨trivial, ?_⟩
 have f15 := f10.mx m13 rfl (rfl : 4 + 2 = 6)
 refine WO.pn 2 rfl ?_
 obtain ⟨x7, hx7, h⟩ := Option.bind_eq_some_iff.mp h
 have f16 := f5.stp S12 rfl rfl
 refine WO.call rfl rfl rfl rfl rfl rfl Try.call65 (s_l1Below_ok (κ := fun b => mp [(6, 2)] 0 (K11 b)) (p0 := (⟨p0.b, x4.2.1, x4.2.2⟩ : l1Cur)) (Sl.map f16 (mp [(6, 2)] 0) rfl rfl) (f15.map (mp [(6, 2)] 0) rfl rfl) hx7) ?_
 rintro _ w17 ⟨k18, rfl, e19, f20⟩
 obtain ⟨K21, S22, m23⟩ := Ent.mixed (l := [(6, 2)]) (κ := K11) e19 7 rfl
 refine ⟨trivial, ?_⟩
 have f25 := f20.mx m23 rfl (rfl : 7 + 2 = 9)
 refine WO.pn 1 rfl ?_
 refine WO.k2 rfl rfl rfl rfl (rn_build (parts := [(0, .tmp 5), (1, .tmp 8)]) (cells := [.int .i64 (IntKind.i64.wrap (1 + x4.1)), .int .i64 (IntKind.i64.wrap (1 + x7.1))]) rfl rfl (by kernel_rfl)) ?_
 have f26 := f4.stp (S12.tr S22) rfl rfl
 refine WO.stB0 (κ := K21) 3 (vc := [.int .i64 (IntKind.i64.wrap (1 + x4.1)), .int .i64 (IntKind.i64.wrap (1 + x7.1))]) rfl rfl rfl rfl rfl rfl rfl Try.sizeOf43 rfl rfl f26 rfl fun w27 S28 f29 => ⟨trivial, ?_⟩
 refine WO.fin ?_
 refine DN.seq ?_
 refine WC.ret ?_
 have f30 := hE.stp (S3.tr (S12.tr (S22.tr S28))) rfl rfl
 have f31 := f25.stp S28 rfl rfl
 refine DN.res (l := [.cell 2 43]) Try.results75 (res_cellA rfl f29 Try.isAgg43 Try.sizeOf43 rfl rfl) rfl ?_
 obtain rfl := Option.some.inj h
 exact ⟨(fun b => ren [(9, 2)] (K21 b)), rfl, (f30.map (ren [(9, 2)]) rfl rfl), (f31.map (ren [(9, 2)]) rfl rfl)⟩

/- loop.example/g00869/spec.l1Odd -/
theorem s_l1Odd_ok {w : World} {κ : Col} {a0_0 : Option Addr} {u0_0 : Nat} {p0 : l1Cur} {b0 : Nat} (g0_0 : Rd (Rp.int .u8) κ w 0 a0_0 u0_0 p0.b) (gb0 : Bc κ w 2 b0 89 [.slice a0_0 p0.b.length u0_0, .int .i64 p0.i, .int .i64 p0.h]) {r : Int × Int × Int} (h : s_l1Odd p0 = some r) : Ret Try.prog 83 [.pointer (some ⟨b0, 0, none⟩)] w (fun v w' => ∃ (κ' : Col), v = .int .i64 r.1 ∧ Ent κ w κ' w' ∧ Bc κ' w' 2 b0 89 [.slice a0_0 p0.b.length u0_0, .int .i64 r.2.1, .int .i64 r.2.2]) := by
 unfold s_l1Odd at h
 refine Ret.enter Try.func83 rfl Try.ntmps83 rfl ?_
 dsimp only [envOf]
 have hE := Ent.refl κ w
 refine WC.seq ?_
 refine WC.rs [(0, 2)] rfl ?_
 refine WO.pn 1 rfl ?_
 refine WO.fin ?_
 refine DN.seq ?_
 refine WC.seq ?_
 refine WC.rs [(0, 1), (1, 2), (2, 1), (3, 2), (4, 1), (5, 2)] rfl ?_
 refine WO.bl (κ := κ) (E := (Ep.int .i64)) 3 [] (parts := [(0, .const (.int .i64 (-1))), (1, .const (.int .i64 0)), (2, .const (.int .i64 1)), (3, .const (.int .i64 2147483648)), (4, .const (.int .i64 (-2147483648))), (5, .const (.int .i64 1099511627776)), (6, .const (.int .i64 4611686018427387904)), (7, .const (.int .i64 (-4611686018427387904))), (8, .const (.int .i64 9223372036854775807)), (9, .const (.int .i64 (-9223372036854775808)))]) (cells := [.int .i64 (-1), .int .i64 0, .int .i64 1, .int .i64 2147483648, .int .i64 (-2147483648), .int .i64 1099511627776, .int .i64 4611686018427387904, .int .i64 (-4611686018427387904), .int .i64 9223372036854775807, .int .i64 (-9223372036854775808)]) (xs := ([(-1), 0, 1, 2147483648, (-2147483648), 1099511627776, 4611686018427387904, (-4611686018427387904), 9223372036854775807, (-9223372036854775808)] : List Int)) rfl rfl rfl rfl rfl rfl Try.underlying24 Tryinfo2 rfl rfl rfl rfl rfl rfl rfl rfl rfl rfl ⟨[.int .i64 (-1)], [.int .i64 0, .int .i64 1, .int .i64 2147483648, .int .i64 (-2147483648), .int .i64 1099511627776, .int .i64 4611686018427387904, .int .i64 (-4611686018427387904), .int .i64 9223372036854775807, .int .i64 (-9223372036854775808)], Zl κ w [], Zl κ w [], rfl, Zl.sp (l1 := []) (l2 := []) rfl, Zl.sr (l1 := []) (l2 := []), rfl, ⟨[.int .i64 0], [.int .i64 1, .int .i64 2147483648, .int .i64 (-2147483648), .int .i64 1099511627776, .int .i64 4611686018427387904, .int .i64 (-4611686018427387904), .int .i64 9223372036854775807, .int .i64 (-9223372036854775808)], Zl κ w [], Zl κ w [], rfl, Zl.sp (l1 := []) (l2 := []) rfl, Zl.sr (l1 := []) (l2 := []), rfl, ⟨[.int .i64 1], [.int .i64 2147483648, .int .i64 (-2147483648), .int .i64 1099511627776, .int .i64 4611686018427387904, .int .i64 (-4611686018427387904), .int .i64 9223372036854775807, .int .i64 (-9223372036854775808)], Zl κ w [], Zl κ w [], rfl, Zl.sp (l1 := []) (l2 := []) rfl, Zl.sr (l1 := []) (l2 := []), rfl, ⟨[.int .i64 2147483648], [.int .i64 (-2147483648), .int .i64 1099511627776, .int .i64 4611686018427387904, .int .i64 (-4611686018427387904), .int .i64 9223372036854775807, .int .i64 (-9223372036854775808)], Zl κ w [], Zl κ w [], rfl, Zl.sp (l1 := []) (l2 := []) rfl, Zl.sr (l1 := []) (l2 := []), rfl, ⟨[.int .i64 (-2147483648)], [.int .i64 1099511627776, .int .i64 4611686018427387904, .int .i64 (-4611686018427387904), .int .i64 9223372036854775807, .int .i64 (-9223372036854775808)], Zl κ w [], Zl κ w [], rfl, Zl.sp (l1 := []) (l2 := []) rfl, Zl.sr (l1 := []) (l2 := []), rfl, ⟨[.int .i64 1099511627776], [.int .i64 4611686018427387904, .int .i64 (-4611686018427387904), .int .i64 9223372036854775807, .int .i64 (-9223372036854775808)], Zl κ w [], Zl κ w [], rfl, Zl.sp (l1 := []) (l2 := []) rfl, Zl.sr (l1 := []) (l2 := []), rfl, ⟨[.int .i64 4611686018427387904], [.int .i64 (-4611686018427387904), .int .i64 9223372036854775807, .int .i64 (-9223372036854775808)], Zl κ w [], Zl κ w [], rfl, Zl.sp (l1 := []) (l2 := []) rfl, Zl.sr (l1 := []) (l2 := []), rfl, ⟨[.int .i64 (-4611686018427387904)], [.int .i64 9223372036854775807, .int .i64 (-9223372036854775808)], Zl κ w [], Zl κ w [], rfl, Zl.sp (l1 := []) (l2 := []) rfl, Zl.sr (l1 := []) (l2 := []), rfl, ⟨[.int .i64 9223372036854775807], [.int .i64 (-9223372036854775808)], Zl κ w [], Zl κ w [], rfl, Zl.sp (l1 := []) (l2 := []) rfl, Zl.sr (l1 := []) (l2 := []), rfl, ⟨[.int .i64 (-9223372036854775808)], [], Zl κ w [], Zl κ w [], rfl, Zl.sp (l1 := []) (l2 := []) rfl, Zl.sr (l1 := []) (l2 := []), rfl, rfl⟩⟩⟩⟩⟩⟩⟩⟩⟩⟩ fun a3 u3 w1 K2 S3 f4 => ⟨trivial, ?_⟩
 refine WO.pn 1 rfl ?_
 obtain ⟨x5, hx5, h⟩ := Option.bind_eq_some_iff.mp h
 have f5 := g0_0.stp S3 rfl rfl
 have f6 := gb0.stp S3 rfl rfl
 refine WO.call rfl rfl rfl rfl rfl rfl Try.call65 (s_l1Below_ok (κ := fun b => mp [(2, 2)] 0 (K2 b)) (p0 := p0) (Sl.map f5 (mp [(2, 2)] 0) rfl rfl) (f6.map (mp [(2, 2)] 0) rfl rfl) hx5) ?_
 rintro _ w7 ⟨k8, rfl, e9, f10⟩
 obtain ⟨K11, S12, m13⟩ := Ent.mixed (l := [(2, 2)]) (κ := K2) e9 4 rfl
 refine ⟨trivial, ?_⟩
 have f15 := f10.mx m13 rfl (rfl : 4 + 2 = 6)
 obtain ⟨x6, hx6, h⟩ := Option.bind_eq_some_iff.mp h
 refine WO.k2 rfl rfl rfl rfl (rn_index f4.rdc hx6 Try.runUnderlying24 Try.sizeOf2 rfl rfl rfl rfl) ?_
 have f16 := f4.stp S12 rfl rfl
 refine WO.k1 trivial rfl rfl rfl rfl (rn_ld Try.isAgg2 rfl rfl (hvE (f16.rdc.gInt hx6))) ?_
 refine WO.pn 1 rfl ?_
 refine WO.fin ?_
 refine DN.seq ?_
 refine WC.ret ?_
 have f17 := hE.stp (S3.tr S12) rfl rfl
 refine DN.res (l := [.tmp 2]) Try.results83 (res_tmp rfl rfl) rfl ?_
 obtain rfl := Option.some.inj h
 exact ⟨(fun b => ren [(6, 2)] (K11 b)), rfl, (f17.map (ren [(6, 2)]) rfl rfl), (f15.map (ren [(6, 2)]) rfl rfl)⟩

/- loop.example/g00869/spec.l1From -/
theorem s_l1From_ok {w : World} {κ : Col} {a0_0 : Option Addr} {u0_0 : Nat} {p0 : l1Cur} {p1 : Int} {p2 : Int} {b0 : Nat} (g0_0 : Rd (Rp.int .u8) κ w 0 a0_0 u0_0 p0.b) (gb0 : Bc κ w 2 b0 89 [.slice a0_0 p0.b.length u0_0, .int .i64 p0.i, .int .i64 p0.h]) {r : Int × Int × Int} (h : s_l1From p0 p1 p2 = some r) : Ret Try.prog 77 [.pointer (some ⟨b0, 0, none⟩), .int .i64 p1, .int .i64 p2] w (fun v w' => ∃ (κ' : Col), v = .int .i64 r.1 ∧ Ent κ w κ' w' ∧ Bc κ' w' 2 b0 89 [.slice a0_0 p0.b.length u0_0, .int .i64 r.2.1, .int .i64 r.2.2]) := by
 unfold s_l1From at h
 refine Ret.enter Try.func77 rfl Try.ntmps77 rfl ?_
 dsimp only [envOf]
 have hE := Ent.refl κ w
 refine WC.seq ?_
 refine WC.rs [(0, 2)] rfl ?_
 refine WO.pn 1 rfl ?_
 refine WO.fin ?_
 refine DN.seq ?_
 refine WC.seq ?_
 refine WC.rs [(0, 2), (1, 2), (2, 2), (3, 2), (4, 2), (5, 2), (6, 1), (7, 2), (8, 2)] rfl ?_
 refine WO.pn 6 rfl ?_
 obtain ⟨x13, hx13, h⟩ := Option.bind_eq_some_iff.mp h
 refine WO.call rfl rfl rfl rfl rfl rfl Try.call65 (s_l1Below_ok (κ := fun b => mp [(2, 2)] 0 (κ b)) (p0 := p0) (Sl.map g0_0 (mp [(2, 2)] 0) rfl rfl) (gb0.map (mp [(2, 2)] 0) rfl rfl) hx13) ?_
 rintro _ w1 ⟨k2, rfl, e3, f4⟩
 obtain ⟨K5, S6, m7⟩ := Ent.mixed (l := [(2, 2)]) (κ := κ) e3 3 rfl
 refine ⟨trivial, ?_⟩
 have f9 := f4.mx m7 rfl (rfl : 3 + 2 = 5)
 refine WO.pn 2 rfl ?_
 refine WO.fin ?_
 refine DN.seq ?_
 refine WC.ret ?_
 have f10 := hE.stp S6 rfl rfl
 refine DN.res (l := [.tmp 6]) Try.results77 (res_tmp rfl rfl) rfl ?_
 obtain rfl := Option.some.inj h
 exact ⟨(fun b => ren [(5, 2)] (K5 b)), rfl, (f10.map (ren [(5, 2)]) rfl rfl), (f9.map (ren [(5, 2)]) rfl rfl)⟩

/- slices.ContainsFunc[[]int64,int64] -/
theorem slices_ContainsFunc_I_int64__i_areLetters_1_ok {w : World} {κ : Col} {a0 : Option Addr} {u0 : Nat} {p0 : (List Int)} {c1_0 : Int} {b1_0 : Nat} (g0 : Rd (Rp.int .i64) κ w 0 a0 u0 p0) (gb1_0 : Bc κ w 0 b1_0 2 [.int .i64 c1_0]) {r : Bool} (h : slices_ContainsFunc_I_int64__i_areLetters_1 p0 c1_0 = some r) : Ret Try.prog 80 [.slice a0 p0.length u0, .func (.func 81) #[] #[.pointer (some ⟨b1_0, 0, none⟩)]] w (fun v w' => ∃ (κ' : Col), v = .bool r ∧ Ent κ w κ' w') := by
 unfold slices_ContainsFunc_I_int64__i_areLetters_1 at h
 refine Ret.enter Try.func80 rfl Try.ntmps80 rfl ?_
 dsimp only [envOf]
 have hE := Ent.refl κ w
 refine WC.seq ?_
 refine WC.rs [(0, 2)] rfl ?_
 refine WO.pn 1 rfl ?_
 refine WO.fin ?_
 refine DN.seq ?_
 refine WC.seq ?_
 refine WC.rs [(0, 2), (1, 2), (2, 1), (3, 2), (4, 2)] rfl ?_
 refine WO.pn 2 rfl ?_
 obtain ⟨x7, hx7, h⟩ := Option.bind_eq_some_iff.mp h
 refine WO.call rfl rfl rfl rfl rfl rfl Try.call86 (slices_IndexFunc_I_int64__i_areLetters_1_ok (κ := fun b => mp [] 0 (κ b)) (Sl.map g0 (mp [] 0) rfl rfl) (gb1_0.map (mp [] 0) rfl rfl) hx7) ?_
 rintro _ w1 ⟨k2, rfl, e3⟩
 obtain ⟨K4, S5, m6⟩ := Ent.mixed (l := []) (κ := κ) e3 2 rfl
 refine ⟨trivial, ?_⟩
 refine WO.pn 2 rfl ?_
 refine WO.fin ?_
 refine DN.seq ?_
 refine WC.ret ?_
 have f8 := hE.stp S5 rfl rfl
 refine DN.res (l := [.tmp 4]) Try.results80 (res_tmp rfl rfl) rfl ?_
 obtain rfl := Option.some.inj h
 exact ⟨K4, rfl, f8⟩

/- (*loop.example/g00869/impl.builder).choose -/
theorem i_builder_choose_ok {w : World} {κ : Col} {a0_0_2 : Option Addr} {u0_0_2 : Nat} {a0_0_3 : Option Addr} {u0_0_3 : Nat} {a0_0_4 : Option Addr} {u0_0_4 : Nat} {mb0_2 : Nat} {p0 : builder} {p1 : Int} {p2 : Int} {p3 : Int} {b0 : Nat} (g0_0_2 : Rd (Rp.int .i64) κ w 0 a0_0_2 u0_0_2 p0.c.Next) (g0_0_3 : Oc Gate.ep33 33 κ w 2 a0_0_3 u0_0_3 p0.c.Gates) (g0_0_4 : Rd (Rp.int .i64) κ w 0 a0_0_4 u0_0_4 p0.c.Outs) (g0_2 : Mc kwGate kvGate (fun v : Int => .int .i64 v) κ w 3 mb0_2 p0.known) (gb0 : Bc κ w 4 b0 72 [.int .i64 p0.c.Inputs, .int .i64 p0.c.Latches, .slice a0_0_2 p0.c.Next.length u0_0_2, .slice a0_0_3 p0.c.Gates.length u0_0_3, .slice a0_0_4 p0.c.Outs.length u0_0_4, .bool p0.full, .map (some mb0_2)]) {r : Int × (List Gate) × Bool × (List (Gate × Int))} (h : i_builder_choose p0 p1 p2 p3 = some r) : Ret Try.prog 45 [.pointer (some ⟨b0, 0, none⟩), .int .i64 p1, .int .i64 p2, .int .i64 p3] w (fun v w' => ∃ (κ' : Col) (ma0 : Option Addr) (mu0 : Nat), v = .int .i64 r.1 ∧ Ent κ w κ' w' ∧ Oc Gate.ep33 33 κ' w' 2 ma0 mu0 r.2.1 ∧ Mc kwGate kvGate (fun v : Int => .int .i64 v) κ' w' 3 mb0_2 r.2.2.2 ∧ Bc κ' w' 4 b0 72 [.int .i64 p0.c.Inputs, .int .i64 p0.c.Latches, .slice a0_0_2 p0.c.Next.length u0_0_2, .slice ma0 r.2.1.length mu0, .slice a0_0_4 p0.c.Outs.length u0_0_4, .bool r.2.2.1, .map (some mb0_2)]) := by
 unfold i_builder_choose at h
 refine Ret.enter Try.func45 rfl Try.ntmps45 rfl ?_
 dsimp only [envOf]
 have hE := Ent.refl κ w
 refine WC.seq ?_
 refine WC.rs [(0, 2)] rfl ?_
 refine WO.pn 1 rfl ?_
 refine WO.fin ?_
 refine DN.seq ?_
 refine WC.seq ?_
 refine WC.seq ?_
 refine WC.rs [(0, 2), (1, 2), (2, 2)] rfl ?_
 refine WO.pn 3 rfl ?_
 refine WO.fin ?_
 refine DN.seq ?_
 revert h
 cases ht1 : (p2 == p3) with
 | true =>
  intro h; replace h := cT h
  refine WC.ct rfl ?_
  refine WC.seq ?_
  refine WC.rs [(0, 2), (1, 2)] rfl ?_
  refine WO.pn 2 rfl ?_
  refine WO.fin ?_
  refine DN.seq ?_
  refine WC.ret ?_
  refine DN.retThen ?_
  refine DN.res (l := [.tmp 8]) Try.results45 (res_tmp rfl rfl) rfl ?_
  obtain rfl := Option.some.inj h
  exact ⟨κ, a0_0_3, u0_0_3, rfl, hE, g0_0_3, g0_2, gb0⟩
 | false =>
  intro h; replace h := cF h
  refine WC.cf rfl ?_
  refine WC.skip ?_
  refine DN.seq ?_
  refine WC.seq ?_
  refine WC.rs [(0, 2), (1, 2), (2, 2), (3, 1), (4, 2)] rfl ?_
  refine WO.pn 3 rfl ?_
  obtain ⟨x18, hx18, h⟩ := Option.bind_eq_some_iff.mp h
  refine WO.call rfl rfl rfl rfl rfl rfl Try.call44 (i_builder_join_ok (κ := fun b => mp [(2, 2), (3, 3), (4, 4)] 0 (κ b)) (p0 := p0) (Sl.map g0_0_2 (mp [(2, 2), (3, 3), (4, 4)] 0) rfl rfl) (g0_0_3.map (mp [(2, 2), (3, 3), (4, 4)] 0) rfl rfl) (Sl.map g0_0_4 (mp [(2, 2), (3, 3), (4, 4)] 0) rfl rfl) (g0_2.map (mp [(2, 2), (3, 3), (4, 4)] 0) rfl rfl) (gb0.map (mp [(2, 2), (3, 3), (4, 4)] 0) rfl rfl) hx18) ?_
  rintro _ w2 ⟨k3, a18_m0, u18_m0, rfl, e4, f5, f6, f7⟩
  obtain ⟨K8, S9, m10⟩ := Ent.mixed (l := [(2, 2), (3, 3), (4, 4)]) (κ := κ) e4 5 rfl
  refine ⟨trivial, ?_⟩
  have f12 := f5.mx Gate.no33 m10 rfl (rfl : 5 + 2 = 7)
  have f13 := f6.mx' m10 rfl (rfl : 5 + 3 = 8)
  have f14 := f7.mx m10 rfl (rfl : 5 + 4 = 9)
  refine WO.pn 1 rfl ?_
  refine WO.fin ?_
  refine DN.seq ?_
  refine WC.seq ?_
  refine WC.rs [(0, 2), (1, 2), (2, 2), (3, 2), (4, 1), (5, 2)] rfl ?_
  refine WO.pn 4 rfl ?_
  obtain ⟨x23, hx23, h⟩ := Option.bind_eq_some_iff.mp h
  have f15 := g0_0_2.stp S9 rfl rfl
  have f16 := g0_0_4.stp S9 rfl rfl
  refine WO.call rfl rfl rfl rfl rfl rfl Try.call44 (i_builder_join_ok (κ := fun b => mp [(7, 2), (8, 3), (9, 4)] 0 (K8 b)) (p0 := (⟨(⟨p0.c.Inputs, p0.c.Latches, p0.c.Next, x18.2.1, p0.c.Outs⟩ : Circuit), x18.2.2.1, x18.2.2.2⟩ : builder)) (Sl.map f15 (mp [(7, 2), (8, 3), (9, 4)] 0) rfl rfl) (f12.map (mp [(7, 2), (8, 3), (9, 4)] 0) rfl rfl) (Sl.map f16 (mp [(7, 2), (8, 3), (9, 4)] 0) rfl rfl) (f13.map (mp [(7, 2), (8, 3), (9, 4)] 0) rfl rfl) (f14.map (mp [(7, 2), (8, 3), (9, 4)] 0) rfl rfl) hx23) ?_
  rintro _ w17 ⟨k18, a23_m0, u23_m0, rfl, e19, f20, f21, f22⟩
  obtain ⟨K23, S24, m25⟩ := Ent.mixed (l := [(7, 2), (8, 3), (9, 4)]) (κ := K8) e19 10 rfl
  refine ⟨trivial, ?_⟩
  have f27 := f20.mx Gate.no33 m25 rfl (rfl : 10 + 2 = 12)
  have f28 := f21.mx' m25 rfl (rfl : 10 + 3 = 13)
  have f29 := f22.mx m25 rfl (rfl : 10 + 4 = 14)
  refine WO.pn 1 rfl ?_
  refine WO.fin ?_
  refine DN.seq ?_
  refine WC.seq ?_
  refine WC.rs [(0, 2), (1, 2), (2, 2), (3, 2), (4, 2), (5, 1), (6, 2), (7, 2)] rfl ?_
  refine WO.pn 5 rfl ?_
  obtain ⟨x29, hx29, h⟩ := Option.bind_eq_some_iff.mp h
  have f30 := f15.stp S24 rfl rfl
  have f31 := f16.stp S24 rfl rfl
  refine WO.call rfl rfl rfl rfl rfl rfl Try.call44 (i_builder_join_ok (κ := fun b => mp [(12, 2), (13, 3), (14, 4)] 0 (K23 b)) (p0 := (⟨(⟨p0.c.Inputs, p0.c.Latches, p0.c.Next, x23.2.1, p0.c.Outs⟩ : Circuit), x23.2.2.1, x23.2.2.2⟩ : builder)) (Sl.map f30 (mp [(12, 2), (13, 3), (14, 4)] 0) rfl rfl) (f27.map (mp [(12, 2), (13, 3), (14, 4)] 0) rfl rfl) (Sl.map f31 (mp [(12, 2), (13, 3), (14, 4)] 0) rfl rfl) (f28.map (mp [(12, 2), (13, 3), (14, 4)] 0) rfl rfl) (f29.map (mp [(12, 2), (13, 3), (14, 4)] 0) rfl rfl) hx29) ?_
  rintro _ w32 ⟨k33, a29_m0, u29_m0, rfl, e34, f35, f36, f37⟩
  obtain ⟨K38, S39, m40⟩ := Ent.mixed (l := [(12, 2), (13, 3), (14, 4)]) (κ := K23) e34 15 rfl
  refine ⟨trivial, ?_⟩
  have f42 := f35.mx Gate.no33 m40 rfl (rfl : 15 + 2 = 17)
  have f43 := f36.mx' m40 rfl (rfl : 15 + 3 = 18)
  have f44 := f37.mx m40 rfl (rfl : 15 + 4 = 19)
  refine WO.pn 2 rfl ?_
  refine WO.fin ?_
  refine DN.seq ?_
  refine WC.ret ?_
  have f45 := hE.stp (S9.tr (S24.tr S39)) rfl rfl
  refine DN.res (l := [.tmp 8]) Try.results45 (res_tmp rfl rfl) rfl ?_
  obtain rfl := Option.some.inj h
  exact ⟨(fun b => ren [(17, 2), (18, 3), (19, 4)] (K38 b)), a29_m0, u29_m0, rfl, (f45.map (ren [(17, 2), (18, 3), (19, 4)]) rfl rfl), (f42.map (ren [(17, 2), (18, 3), (19, 4)]) rfl rfl), (f43.map (ren [(17, 2), (18, 3), (19, 4)]) rfl rfl), (f44.map (ren [(17, 2), (18, 3), (19, 4)]) rfl rfl)⟩

/- loop.example/g00869/spec.MachineOk -/
theorem s_MachineOk_ok {w : World} {κ : Col} {p0 : Sig} {a1_0 : Option Addr} {u1_0 : Nat} {a1_1 : Option Addr} {u1_1 : Nat} {p1 : Machine} (g1_0 : Rd (Rp.sl (Rp.int .i64)) κ w 0 a1_0 u1_0 p1.Next) (g1_1 : Rd (Rp.sl (Rp.int .i64)) κ w 0 a1_1 u1_1 p1.Out) {r : Bool} (h : s_MachineOk p0 p1 = some r) : Ret Try.prog 22 [.agg #[.int .i64 p0.In, .int .i64 p0.Out], .agg #[.slice a1_0 p1.Next.length u1_0, .slice a1_1 p1.Out.length u1_1]] w (fun v w' => ∃ (κ' : Col), v = .bool r ∧ Ent κ w κ' w') := by
 unfold s_MachineOk at h
 refine Ret.enter Try.func22 rfl Try.ntmps22 rfl ?_
 dsimp only [envOf]
 have hE := Ent.refl κ w
 refine WC.seq ?_
 refine WC.rs [(0, 1), (1, 1), (2, 2)] rfl ?_
 refine WO.box (κ := κ) 2 rfl rfl rfl rfl rfl rfl rfl fun b2 w1 K2 S3 f4 => ⟨trivial, ?_⟩
 refine WO.box (κ := K2) 3 rfl rfl rfl rfl rfl rfl rfl fun b3 w5 K6 S7 f8 => ⟨trivial, ?_⟩
 refine WO.pn 1 rfl ?_
 refine WO.fin ?_
 refine DN.seq ?_
 refine WC.seq ?_
 refine WC.rs [(0, 2), (1, 1), (2, 2), (3, 2)] rfl ?_
 refine WO.k2 rfl rfl rfl rfl (rn_fieldAddr Try.runUnderlying46 rfl Try.sizeOf44 rfl rfl) ?_
 refine WO.k1 trivial rfl rfl rfl rfl (rn_ld Try.isAgg44 rfl rfl (hvE (f8.ld 0 rfl rfl))) ?_
 refine WO.k2 rfl rfl rfl rfl (rn_len Try.runUnderlying44 rfl rfl) ?_
 refine WO.pn 1 rfl ?_
 refine WO.fin ?_
 refine DN.seq ?_
 refine WC.seq ?_
 refine WC.seq ?_
 refine WC.rs [(0, 1), (1, 1), (2, 2), (3, 2), (4, 2), (5, 1), (6, 2), (7, 2), (8, 2), (9, 2), (10, 1), (11, 2), (12, 2), (13, 1), (14, 2), (15, 2), (16, 2)] rfl ?_
 have f9 := f4.stp S7 rfl rfl
 refine WO.k1 trivial rfl rfl rfl rfl (rn_la (cs := [.int .i64 p0.In, .int .i64 p0.Out]) Try.isAgg43 Try.sizeOf43 rfl rfl rfl (haE f9.cells)) ?_
 obtain ⟨x11, hx11, h⟩ := Option.bind_eq_some_iff.mp h
 refine WO.call rfl rfl rfl rfl rfl rfl Try.call55 (s_SigOk_ok (κ := fun b => mp [] 0 (K6 b)) (p0 := p0) hx11) ?_
 rintro _ w10 ⟨k11, rfl, e12⟩
 obtain ⟨K13, S14, m15⟩ := Ent.mixed (l := []) (κ := K6) e12 4 rfl
 refine ⟨trivial, ?_⟩
 refine WO.pn 2 rfl ?_
 obtain ⟨p17, h, hK17⟩ := Option.bind_eq_some_iff.mp h
 refine WO.meet [(4, 2), (5, 1), (6, 2), (7, 2)] [(8, 2), (9, 2), (10, 1), (11, 2), (12, 2), (13, 1), (14, 2), (15, 2), (16, 2)] (fun L w' => L = [(2, .pointer (some ⟨b2, 0, none⟩)), (3, .pointer (some ⟨b3, 0, none⟩)), (5, .int .i64 (p1.Next.length : Int)), (17, .bool p17)] ∧ ∃ κ', Stp [] K13 w10 κ' w') trivial ?_ ?_
 ·
  revert h
  cases ht18 : (!x11) with
  | true =>
   intro h; replace h := cT h
   refine WO.pn 1 rfl ?_
   refine WO.ls rfl rfl rfl rfl ?_
   refine WO.pn 2 rfl ?_
   obtain rfl := Option.some.inj h
   exact WO.met _ trivial ⟨rfl, _, (Stp.refl _ _).wk rfl⟩ fun a ha => (ha.more (ha.more (ha.more (ha.more ha.nil rfl) rfl) rfl) rfl)
  | false =>
   intro h; replace h := cF h
   refine WO.pn 1 rfl ?_
   obtain ⟨x15, hx15, h⟩ := Option.bind_eq_some_iff.mp h
   refine WO.call rfl rfl rfl rfl rfl rfl Try.call33 (s_l1In_ok (κ := fun b => mp [] 0 (K13 b)) hx15) ?_
   rintro _ w19 ⟨k20, rfl, e21⟩
   obtain ⟨K22, S23, m24⟩ := Ent.mixed (l := []) (κ := K13) e21 6 rfl
   refine ⟨trivial, ?_⟩
   refine WO.pn 2 rfl ?_
   obtain rfl := Option.some.inj h
   exact WO.met _ trivial ⟨rfl, _, S23.wk rfl⟩ fun a ha => (ha.more (ha.more (ha.more (ha.more ha.nil rfl) rfl) rfl) rfl)
 rintro _ w26 _ ⟨rfl, K27, S28⟩
 have h := hK17
 refine WO.pn 1 rfl ?_
 obtain ⟨p26, h, hK29⟩ := Option.bind_eq_some_iff.mp h
 refine WO.meet [(9, 2), (10, 1), (11, 2), (12, 2), (13, 1), (14, 2), (15, 2), (16, 2)] [] (fun L w' => L = [(2, .pointer (some ⟨b2, 0, none⟩)), (3, .pointer (some ⟨b3, 0, none⟩)), (5, .int .i64 (p1.Next.length : Int)), (26, .bool p26)] ∧ ∃ κ', Stp [] K27 w26 κ' w') trivial ?_ ?_
 ·
  revert h
  cases ht30 : p17 with
  | true =>
   intro h; replace h := cT h
   refine WO.pn 1 rfl ?_
   refine WO.ls rfl rfl rfl rfl ?_
   refine WO.pn 2 rfl ?_
   refine WO.ls rfl rfl rfl rfl ?_
   refine WO.pn 3 rfl ?_
   obtain rfl := Option.some.inj h
   exact WO.met _ trivial ⟨rfl, _, (Stp.refl _ _).wk rfl⟩ fun a ha => (ha.more (ha.more (ha.more (ha.more ha.nil rfl) rfl) rfl) rfl)
  | false =>
   intro h; replace h := cF h
   refine WO.k2 rfl rfl rfl rfl (rn_fieldAddr Try.runUnderlying46 rfl Try.sizeOf44 rfl rfl) ?_
   have f31 := f8.stp (S14.tr S28) rfl rfl
   refine WO.k1 trivial rfl rfl rfl rfl (rn_ld Try.isAgg44 rfl rfl (hvE (f31.ld 1 rfl rfl))) ?_
   refine WO.k2 rfl rfl rfl rfl (rn_len Try.runUnderlying44 rfl rfl) ?_
   refine WO.k2 rfl rfl rfl rfl (rn_fieldAddr Try.runUnderlying46 rfl Try.sizeOf44 rfl rfl) ?_
   refine WO.k1 trivial rfl rfl rfl rfl (rn_ld Try.isAgg44 rfl rfl (hvE (f31.ld 0 rfl rfl))) ?_
   refine WO.k2 rfl rfl rfl rfl (rn_len Try.runUnderlying44 rfl rfl) ?_
   refine WO.pn 2 rfl ?_
   obtain rfl := Option.some.inj h
   exact WO.met _ trivial ⟨rfl, _, (Stp.refl _ _).wk rfl⟩ fun a ha => (ha.more (ha.more (ha.more (ha.more ha.nil rfl) rfl) rfl) rfl)
 rintro _ w32 _ ⟨rfl, K33, S34⟩
 have h := hK29
 refine WO.fin ?_
 refine DN.seq ?_
 revert h
 cases ht35 : p26 with
 | true =>
  intro h; replace h := cT h
  refine WC.ct rfl ?_
  refine WC.seq ?_
  refine WC.rs [(0, 2)] rfl ?_
  refine WO.pn 1 rfl ?_
  refine WO.fin ?_
  refine DN.seq ?_
  refine WC.ret ?_
  refine DN.retThen ?_
  have f36 := hE.stp (S3.tr (S7.tr (S14.tr (S28.tr S34)))) rfl rfl
  refine DN.res (l := [.tmp 4]) Try.results22 (res_tmp rfl rfl) rfl ?_
  obtain rfl := Option.some.inj h
  exact ⟨K33, rfl, f36⟩
 | false =>
  intro h; replace h := cF h
  refine WC.cf rfl ?_
  refine WC.skip ?_
  refine DN.seq ?_
  refine WC.seq ?_
  refine WC.seq ?_
  refine WC.rs [(0, 2)] rfl ?_
  refine WO.pn 1 rfl ?_
  refine WO.fin ?_
  refine DN.seq ?_
  have hN37 : (p1.Next.length : Int) ≤ 9223372036854775807 := g1_0.len_le
  obtain ⟨q2, hq39, hK38⟩ := Option.bind_eq_some_iff.mp h
  clear h
  refine WC.meet (fun L w' => ∃ (κ' : Col), L = [] ∧ Stp [] K33 w32 κ' w' ∧ q2 = Sum.inr ()) ?_ ?_
  ·
   refine WC.block ?_
   refine WC.loop (fun k L w' => ∃ (κ' : Col) (v6 : Int), L = [(2, .pointer (some ⟨b2, 0, none⟩)), (3, .pointer (some ⟨b3, 0, none⟩)), (5, .int .i64 (p1.Next.length : Int)), (6, .int .i64 v6)] ∧ Stp [] K33 w32 κ' w' ∧ 0 ≤ v6 ∧ Int.toNat ((p1.Next.length : Int) - v6) = k ∧ cntM (s_MachineOk_b0 p0 p1) k v6 () = some q2) ⟨_, _, ⟨K33, 0, rfl, (Stp.refl _ _).wk rfl, (by decide), (by simp), hq39⟩, fun a ha => (ha.more (ha.more (ha.more (ha.more ha.nil rfl) rfl) rfl) rfl)⟩ ?_
   rintro k _ w43 ⟨K44, v6, rfl, S45, hj37, hJ37, h⟩
   rcases k with _ | k
   ·
    have hk46 := h; obtain ⟨o37, h⟩ := ex_eq (Sum.inr (Sum.inl ()) : Bool ⊕ ((Unit) ⊕ (Unit)))
    have hc37 : decide (v6 < (p1.Next.length : Int)) = false := decide_eq_false (by omega)
    refine WC.seq ?_
    refine WC.seq ?_
    refine WC.rs [(0, 2), (1, 2), (2, 1), (3, 2), (4, 2)] rfl ?_
    refine WO.pn 1 rfl ?_
    refine WO.k2 rfl rfl rfl rfl (rn_fieldAddr Try.runUnderlying46 rfl Try.sizeOf44 rfl rfl) ?_
    have f47 := f8.stp (S14.tr (S28.tr (S34.tr S45))) rfl rfl
    refine WO.k1 trivial rfl rfl rfl rfl (rn_ld Try.isAgg44 rfl rfl (hvE (f47.ld 0 rfl rfl))) ?_
    refine WO.k2 rfl rfl rfl rfl (rn_len Try.runUnderlying44 rfl rfl) ?_
    refine WO.pn 1 rfl ?_
    refine WO.fin ?_
    refine DN.seq ?_
    refine WC.cf' rfl hc37 ?_
    refine WC.exit ?_
    refine DN.exitThen ?_
    refine DN.exitThen ?_
    obtain rfl := Option.some.inj h
    have h := hk46
    refine DN.hit ?_
    obtain rfl := Option.some.inj h
    exact DN.meet _ ⟨K44, rfl, S45.wk rfl, rfl⟩ fun a ha => ha.nil
   ·
    obtain ⟨o37, h, hk46⟩ := Option.bind_eq_some_iff.mp h; unfold s_MachineOk_b0 at h
    have hc37 : decide (v6 < (p1.Next.length : Int)) = true := decide_eq_true (by omega)
    refine WC.seq ?_
    refine WC.seq ?_
    refine WC.rs [(0, 2), (1, 2), (2, 1), (3, 2), (4, 2)] rfl ?_
    refine WO.pn 1 rfl ?_
    refine WO.k2 rfl rfl rfl rfl (rn_fieldAddr Try.runUnderlying46 rfl Try.sizeOf44 rfl rfl) ?_
    have f48 := f8.stp (S14.tr (S28.tr (S34.tr S45))) rfl rfl
    refine WO.k1 trivial rfl rfl rfl rfl (rn_ld Try.isAgg44 rfl rfl (hvE (f48.ld 0 rfl rfl))) ?_
    refine WO.k2 rfl rfl rfl rfl (rn_len Try.runUnderlying44 rfl rfl) ?_
    refine WO.pn 1 rfl ?_
    refine WO.fin ?_
    refine DN.seq ?_
    refine WC.ct' rfl hc37 ?_
    refine WC.skip ?_
    refine DN.seq ?_
    refine WC.seq ?_
    refine WC.block ?_
    refine WC.seq ?_
    refine WC.rx (κ := K44) [0, 2, 3] none [(0, 2), (2, 2), (1, 0), (3, 2), (4, 0), (5, 2), (6, 0), (7, 1), (8, 2), (9, 2), (10, 2), (12, 2), (16, 2), (18, 2), (11, 0), (13, 2), (14, 0), (15, 2), (17, 0), (19, 2), (20, 0), (21, 2), (22, 2), (23, 2), (24, 2), (25, 2), (27, 2), (30, 2), (26, 0), (28, 2), (29, 0), (31, 1), (32, 2), (33, 2), (34, 2), (35, 2), (37, 2), (40, 2), (36, 0), (38, 2), (39, 0), (41, 0), (42, 1), (43, 1), (44, 2), (45, 2)] [] (by kernel_rfl) (by kernel_rfl) fun w50 S49 => ?_
    refine WO.k2 rfl rfl rfl rfl (rn_fieldAddr Try.runUnderlying46 rfl Try.sizeOf44 rfl rfl) ?_
    refine WO.pn 1 rfl ?_
    have f51 := f48.stp S49 rfl rfl
    refine WO.k0 rfl rfl rfl rfl (rn_ld Try.isAgg44 rfl rfl (hvC (f51.ld 0 rfl rfl) rfl)) ?_
    obtain ⟨x37, hx37, h⟩ := Option.bind_eq_some_iff.mp h
    refine WO.k2 rfl rfl rfl rfl (rn_index g1_0 hx37 Try.runUnderlying44 Try.sizeOf24 rfl rfl rfl rfl) ?_
    have f52 := g1_0.stp (S3.tr (S7.tr (S14.tr (S28.tr (S34.tr (S45.tr S49)))))) rfl rfl
    obtain ⟨ax37, ux37, f53, hl54⟩ := f52.gSl hx37
    refine WO.k0 rfl rfl rfl rfl (rn_ld Try.isAgg24 rfl rfl (hvC hl54 rfl)) ?_
    refine WO.k2 rfl rfl rfl rfl (rn_len Try.runUnderlying24 rfl rfl) ?_
    have f55 := f9.stp (S14.tr (S28.tr (S34.tr (S45.tr S49)))) rfl rfl
    refine WO.k0 rfl rfl rfl rfl (rn_la (cs := [.int .i64 p0.In, .int .i64 p0.Out]) Try.isAgg43 Try.sizeOf43 rfl rfl rfl (haC f55.cells rfl)) ?_
    obtain ⟨x41, hx41, h⟩ := Option.bind_eq_some_iff.mp h
    refine WO.call rfl rfl rfl rfl rfl rfl Try.call56 (s_l29Ins_ok (κ := fun b => mp [] 0 (K44 b)) (p0 := p0) hx41) ?_
    rintro _ w56 ⟨k57, rfl, e58⟩
    obtain ⟨K59, S60, m61⟩ := Ent.mixed (l := []) (κ := K44) e58 6 rfl
    refine ⟨(S60.cl rfl), ?_⟩
    refine WO.pn 2 rfl ?_
    obtain ⟨p57, h, hK63⟩ := Option.bind_eq_some_iff.mp h
    refine WO.meet [(10, 2), (12, 2), (16, 2), (18, 2), (11, 0), (13, 2), (14, 0), (15, 2), (17, 0), (19, 2), (20, 0), (21, 2), (22, 2), (23, 2)] [(24, 2), (25, 2), (27, 2), (30, 2), (26, 0), (28, 2), (29, 0), (31, 1), (32, 2), (33, 2), (34, 2), (35, 2), (37, 2), (40, 2), (36, 0), (38, 2), (39, 0), (41, 0), (42, 1), (43, 1), (44, 2), (45, 2)] (fun L w' => L = [(2, .pointer (some ⟨b2, 0, none⟩)), (3, .pointer (some ⟨b3, 0, none⟩)), (5, .int .i64 (p1.Next.length : Int)), (6, .int .i64 v6), (57, .bool p57)] ∧ ∃ κ', Stp [] K59 w56 κ' w') (S60.cl rfl) ?_ ?_
    ·
     revert h
     cases ht64 : ((x37.length : Int) != x41) with
     | true =>
      intro h; replace h := cT h
      refine WO.pn 4 rfl ?_
      refine WO.qs rfl rfl rfl rfl ?_
      refine WO.pn 1 rfl ?_
      refine WO.qs rfl rfl rfl rfl ?_
      refine WO.pn 1 rfl ?_
      refine WO.qs rfl rfl rfl rfl ?_
      refine WO.pn 1 rfl ?_
      refine WO.qs rfl rfl rfl rfl ?_
      refine WO.pn 3 rfl ?_
      obtain rfl := Option.some.inj h
      exact WO.met _ (S60.cl rfl) ⟨rfl, _, (Stp.refl _ _).wk rfl⟩ fun a ha => (ha.more (ha.more (ha.more (ha.more (ha.more ha.nil rfl) rfl) rfl) rfl) rfl)
     | false =>
      intro h; replace h := cF h
      refine WO.k2 rfl rfl rfl rfl (rn_fieldAddr Try.runUnderlying46 rfl Try.sizeOf44 rfl rfl) ?_
      refine WO.pn 1 rfl ?_
      refine WO.k2 rfl rfl rfl rfl (rn_fieldAddr Try.runUnderlying46 rfl Try.sizeOf44 rfl rfl) ?_
      refine WO.pn 1 rfl ?_
      refine WO.k0 rfl rfl rfl rfl (rn_ld Try.isAgg44 rfl rfl (hvC (f51.ld 1 rfl rfl) rfl)) ?_
      obtain ⟨x47, hx47, h⟩ := Option.bind_eq_some_iff.mp h
      refine WO.k2 rfl rfl rfl rfl (rn_index g1_1 hx47 Try.runUnderlying44 Try.sizeOf24 rfl rfl rfl rfl) ?_
      have f65 := g1_1.stp (S3.tr (S7.tr (S14.tr (S28.tr (S34.tr (S45.tr S49)))))) rfl rfl
      obtain ⟨ax47, ux47, f66, hl67⟩ := f65.gSl hx47
      refine WO.k0 rfl rfl rfl rfl (rn_ld Try.isAgg24 rfl rfl (hvC hl67 rfl)) ?_
      refine WO.k2 rfl rfl rfl rfl (rn_len Try.runUnderlying24 rfl rfl) ?_
      refine WO.k0 rfl rfl rfl rfl (rn_ld Try.isAgg44 rfl rfl (hvC (f51.ld 0 rfl rfl) rfl)) ?_
      obtain ⟨x53, hx53, h⟩ := Option.bind_eq_some_iff.mp h
      refine WO.k2 rfl rfl rfl rfl (rn_index f52 hx53 Try.runUnderlying44 Try.sizeOf24 rfl rfl rfl rfl) ?_
      obtain ⟨ax53, ux53, f68, hl69⟩ := f52.gSl hx53
      refine WO.k0 rfl rfl rfl rfl (rn_ld Try.isAgg24 rfl rfl (hvC hl69 rfl)) ?_
      refine WO.k2 rfl rfl rfl rfl (rn_len Try.runUnderlying24 rfl rfl) ?_
      refine WO.pn 2 rfl ?_
      obtain rfl := Option.some.inj h
      exact WO.met _ (S60.cl rfl) ⟨rfl, _, (Stp.refl _ _).wk rfl⟩ fun a ha => (ha.more (ha.more (ha.more (ha.more (ha.more ha.nil rfl) rfl) rfl) rfl) rfl)
    rintro _ w70 _ ⟨rfl, K71, S72⟩
    have h := hK63
    refine WO.pn 1 rfl ?_
    obtain ⟨p67, h, hK73⟩ := Option.bind_eq_some_iff.mp h
    refine WO.meet [(25, 2), (27, 2), (30, 2), (26, 0), (28, 2), (29, 0), (31, 1), (32, 2), (33, 2)] [(34, 2), (35, 2), (37, 2), (40, 2), (36, 0), (38, 2), (39, 0), (41, 0), (42, 1), (43, 1), (44, 2), (45, 2)] (fun L w' => L = [(2, .pointer (some ⟨b2, 0, none⟩)), (3, .pointer (some ⟨b3, 0, none⟩)), (5, .int .i64 (p1.Next.length : Int)), (6, .int .i64 v6), (67, .bool p67)] ∧ ∃ κ', Stp [] K71 w70 κ' w') ((S60.tr S72).cl rfl) ?_ ?_
    ·
     revert h
     cases ht74 : p57 with
     | true =>
      intro h; replace h := cT h
      refine WO.pn 3 rfl ?_
      refine WO.qs rfl rfl rfl rfl ?_
      refine WO.pn 1 rfl ?_
      refine WO.qs rfl rfl rfl rfl ?_
      refine WO.ls rfl rfl rfl rfl ?_
      refine WO.pn 2 rfl ?_
      obtain rfl := Option.some.inj h
      exact WO.met _ ((S60.tr S72).cl rfl) ⟨rfl, _, (Stp.refl _ _).wk rfl⟩ fun a ha => (ha.more (ha.more (ha.more (ha.more (ha.more ha.nil rfl) rfl) rfl) rfl) rfl)
     | false =>
      intro h; replace h := cF h
      refine WO.k2 rfl rfl rfl rfl (rn_fieldAddr Try.runUnderlying46 rfl Try.sizeOf44 rfl rfl) ?_
      refine WO.pn 2 rfl ?_
      refine WO.k0 rfl rfl rfl rfl (rn_ld Try.isAgg44 rfl rfl (hvC (f51.ld 0 rfl rfl) rfl)) ?_
      obtain ⟨x62, hx62, h⟩ := Option.bind_eq_some_iff.mp h
      refine WO.k2 rfl rfl rfl rfl (rn_index f52 hx62 Try.runUnderlying44 Try.sizeOf24 rfl rfl rfl rfl) ?_
      obtain ⟨ax62, ux62, f75, hl76⟩ := f52.gSl hx62
      refine WO.k0 rfl rfl rfl rfl (rn_ld Try.isAgg24 rfl rfl (hvC hl76 rfl)) ?_
      obtain ⟨x65, hx65, h⟩ := Option.bind_eq_some_iff.mp h
      have f77 := f75.stp (S60.tr S72) rfl rfl
      refine WO.call rfl rfl rfl rfl rfl rfl Try.call57 (s_l23Below_ok (κ := fun b => mp [] 0 (K71 b)) (Sl.map f77 (mp [] 0) rfl rfl) hx65) ?_
      rintro _ w78 ⟨k79, rfl, e80⟩
      obtain ⟨K81, S82, m83⟩ := Ent.mixed (l := []) (κ := K71) e80 8 rfl
      refine ⟨((S60.tr (S72.tr S82)).cl rfl), ?_⟩
      refine WO.pn 2 rfl ?_
      obtain rfl := Option.some.inj h
      exact WO.met _ ((S60.tr (S72.tr S82)).cl rfl) ⟨rfl, _, S82.wk rfl⟩ fun a ha => (ha.more (ha.more (ha.more (ha.more (ha.more ha.nil rfl) rfl) rfl) rfl) rfl)
    rintro _ w85 _ ⟨rfl, K86, S87⟩
    have h := hK73
    refine WO.pn 1 rfl ?_
    obtain ⟨p79, h, hK88⟩ := Option.bind_eq_some_iff.mp h
    refine WO.meet [(35, 2), (37, 2), (40, 2), (36, 0), (38, 2), (39, 0), (41, 0), (42, 1), (43, 1), (44, 2), (45, 2)] [] (fun L w' => L = [(2, .pointer (some ⟨b2, 0, none⟩)), (3, .pointer (some ⟨b3, 0, none⟩)), (5, .int .i64 (p1.Next.length : Int)), (6, .int .i64 v6), (79, .bool p79)] ∧ ∃ κ', Stp [] K86 w85 κ' w') ((S60.tr (S72.tr S87)).cl rfl) ?_ ?_
    ·
     revert h
     cases ht89 : p67 with
     | true =>
      intro h; replace h := cT h
      refine WO.pn 3 rfl ?_
      refine WO.qs rfl rfl rfl rfl ?_
      refine WO.pn 1 rfl ?_
      refine WO.qs rfl rfl rfl rfl ?_
      refine WO.qs rfl rfl rfl rfl ?_
      refine WO.ls rfl rfl rfl rfl ?_
      refine WO.ls rfl rfl rfl rfl ?_
      refine WO.pn 2 rfl ?_
      obtain rfl := Option.some.inj h
      exact WO.met _ ((S60.tr (S72.tr S87)).cl rfl) ⟨rfl, _, (Stp.refl _ _).wk rfl⟩ fun a ha => (ha.more (ha.more (ha.more (ha.more (ha.more ha.nil rfl) rfl) rfl) rfl) rfl)
     | false =>
      intro h; replace h := cF h
      refine WO.k2 rfl rfl rfl rfl (rn_fieldAddr Try.runUnderlying46 rfl Try.sizeOf44 rfl rfl) ?_
      refine WO.pn 1 rfl ?_
      refine WO.k2 rfl rfl rfl rfl (rn_fieldAddr Try.runUnderlying43 rfl Try.sizeOf2 rfl rfl) ?_
      refine WO.k0 rfl rfl rfl rfl (rn_ld Try.isAgg44 rfl rfl (hvC (f51.ld 1 rfl rfl) rfl)) ?_
      obtain ⟨x72, hx72, h⟩ := Option.bind_eq_some_iff.mp h
      refine WO.k2 rfl rfl rfl rfl (rn_index g1_1 hx72 Try.runUnderlying44 Try.sizeOf24 rfl rfl rfl rfl) ?_
      have f90 := g1_1.stp (S3.tr (S7.tr (S14.tr (S28.tr (S34.tr (S45.tr S49)))))) rfl rfl
      obtain ⟨ax72, ux72, f91, hl92⟩ := f90.gSl hx72
      refine WO.k0 rfl rfl rfl rfl (rn_ld Try.isAgg24 rfl rfl (hvC hl92 rfl)) ?_
      refine WO.k0 rfl rfl rfl rfl (rn_ld Try.isAgg2 rfl rfl (hvC (f55.ld 1 rfl rfl) rfl)) ?_
      obtain ⟨x76, hx76, h⟩ := Option.bind_eq_some_iff.mp h
      refine WO.call rfl rfl rfl rfl rfl rfl Try.call58 (s_l23Power_ok (κ := fun b => mp [] 0 (K86 b)) hx76) ?_
      rintro _ w93 ⟨k94, rfl, e95⟩
      obtain ⟨K96, S97, m98⟩ := Ent.mixed (l := []) (κ := K86) e95 8 rfl
      refine ⟨((S60.tr (S72.tr (S87.tr S97))).cl rfl), ?_⟩
      obtain ⟨x77, hx77, h⟩ := Option.bind_eq_some_iff.mp h
      have f100 := f91.stp (S60.tr (S72.tr (S87.tr S97))) rfl rfl
      refine WO.call rfl rfl rfl rfl rfl rfl Try.call57 (s_l23Below_ok (κ := fun b => mp [] 0 (K96 b)) (Sl.map f100 (mp [] 0) rfl rfl) hx77) ?_
      rintro _ w101 ⟨k102, rfl, e103⟩
      obtain ⟨K104, S105, m106⟩ := Ent.mixed (l := []) (κ := K96) e103 10 rfl
      refine ⟨((S60.tr (S72.tr (S87.tr (S97.tr S105)))).cl rfl), ?_⟩
      refine WO.pn 2 rfl ?_
      obtain rfl := Option.some.inj h
      exact WO.met _ ((S60.tr (S72.tr (S87.tr (S97.tr S105)))).cl rfl) ⟨rfl, _, (S97.tr S105).wk rfl⟩ fun a ha => (ha.more (ha.more (ha.more (ha.more (ha.more ha.nil rfl) rfl) rfl) rfl) rfl)
    rintro _ w108 _ ⟨rfl, K109, S110⟩
    have h := hK88
    refine WO.nx ?_
    refine WO.fin ?_
    refine DN.seq ?_
    revert h
    cases ht111 : p79 with
    | true =>
     intro h; replace h := cT h
     refine WC.ct rfl ?_
     refine WC.seq ?_
     refine WC.rs [(0, 2)] rfl ?_
     refine WO.pn 1 rfl ?_
     refine WO.fin ?_
     refine DN.seq ?_
     refine WC.ret ?_
     refine DN.retBlock ?_
     refine DN.retThen ?_
     refine DN.retThen ?_
     obtain rfl := Option.some.inj h
     obtain rfl := Option.some.inj hk46
     have h := hK38
     dsimp only [aft] at h
     refine DN.retBlock ?_
     refine DN.retMeet ?_
     refine DN.retThen ?_
     have f112 := hE.stp (S3.tr (S7.tr (S14.tr (S28.tr (S34.tr (S45.tr (S49.tr (S60.tr (S72.tr (S87.tr S110)))))))))) rfl rfl
     refine DN.res (l := [.tmp 4]) Try.results22 (res_tmp rfl rfl) rfl ?_
     obtain rfl := Option.some.inj h
     exact ⟨K109, rfl, f112⟩
    | false =>
     intro h; replace h := cF h
     refine WC.cf rfl ?_
     refine WC.skip ?_
     refine DN.block ?_
     refine DN.seq ?_
     refine WC.rs [(0, 2), (1, 2), (2, 2)] rfl ?_
     refine WO.pn 3 rfl ?_
     refine WO.fin ?_
     have hw37 : IntKind.wrap .i64 (v6 + 1) = v6 + 1 := wr1 hj37 (of_decide_eq_true hc37) hN37
     rw [hw37]
     have hc37 := of_decide_eq_true hc37
     obtain rfl := Option.some.inj h
     refine DN.round fun a ha => ?_
     exact ⟨k, _, Nat.lt_succ_self _, ⟨K109, v6 + 1, rfl, (S45.tr (S49.tr (S60.tr (S72.tr (S87.tr S110))))).wk rfl, by omega, by omega, hk46⟩, (ha.more (ha.more (ha.more (ha.more ha.nil rfl) rfl) rfl) rfl)⟩
  rintro _ w40 ⟨K41, rfl, S42, rfl⟩
  have h := hK38
  dsimp only [aft] at h
  refine DN.seq ?_
  refine WC.seq ?_
  refine WC.rs [(0, 2)] rfl ?_
  refine WO.pn 1 rfl ?_
  refine WO.fin ?_
  refine DN.seq ?_
  refine WC.ret ?_
  have f113 := hE.stp (S3.tr (S7.tr (S14.tr (S28.tr (S34.tr S42))))) rfl rfl
  refine DN.res (l := [.tmp 4]) Try.results22 (res_tmp rfl rfl) rfl ?_
  obtain rfl := Option.some.inj h
  exact ⟨K41, rfl, f113⟩

/- loop.example/g00869/spec.l31Step -/
theorem s_l31Step_ok {w : World} {κ : Col} {a0_2 : Option Addr} {u0_2 : Nat} {a0_3 : Option Addr} {u0_3 : Nat} {a0_4 : Option Addr} {u0_4 : Nat} {p0 : Circuit} {p1 : Int} {p2 : Int} (g0_2 : Rd (Rp.int .i64) κ w 0 a0_2 u0_2 p0.Next) (g0_3 : Rd Gate.rp κ w 0 a0_3 u0_3 p0.Gates) (g0_4 : Rd (Rp.int .i64) κ w 0 a0_4 u0_4 p0.Outs) {r : Int × Int} (h : s_l31Step p0 p1 p2 = some r) : Ret Try.prog 40 [.agg #[.int .i64 p0.Inputs, .int .i64 p0.Latches, .slice a0_2 p0.Next.length u0_2, .slice a0_3 p0.Gates.length u0_3, .slice a0_4 p0.Outs.length u0_4], .int .i64 p1, .int .i64 p2] w (fun v w' => ∃ (κ' : Col), v = .tuple #[.int .i64 r.1, .int .i64 r.2] ∧ Ent κ w κ' w') := by
 unfold s_l31Step at h
 refine Ret.enter Try.func40 rfl Try.ntmps40 rfl ?_
 dsimp only [envOf]
 have hE := Ent.refl κ w
 refine WC.seq ?_
 refine WC.rs [(0, 1), (1, 2), (2, 2)] rfl ?_
 refine WO.box (κ := κ) 2 rfl rfl rfl rfl rfl rfl rfl fun b3 w1 K2 S3 f4 => ⟨trivial, ?_⟩
 refine WO.pn 2 rfl ?_
 refine WO.fin ?_
 refine DN.seq ?_
 refine WC.seq ?_
 refine WC.rs [(0, 1), (1, 2)] rfl ?_
 refine WO.bl (κ := K2) (E := Ep.bool) 3 [] (parts := [(0, .const (.bool false))]) (cells := [.bool false]) (xs := ([false] : List Bool)) rfl rfl rfl rfl rfl rfl Try.underlying77 Tryinfo4 rfl rfl rfl rfl rfl rfl rfl rfl rfl rfl ⟨[.bool false], [], Zl K2 w1 [], Zl K2 w1 [], rfl, Zl.sp (l1 := []) (l2 := []) rfl, Zl.sr (l1 := []) (l2 := []), rfl, rfl⟩ fun a12 u12 w5 K6 S7 f8 => ⟨trivial, ?_⟩
 refine WO.pn 1 rfl ?_
 refine WO.fin ?_
 refine DN.seq ?_
 refine WC.seq ?_
 refine WC.seq ?_
 refine WC.rs [(0, 2)] rfl ?_
 refine WO.pn 1 rfl ?_
 refine WO.fin ?_
 refine DN.seq ?_
 obtain ⟨_, hr9, h⟩ := Option.bind_eq_some_iff.mp h
 have hN9 := rng_ok hr9
 obtain ⟨q2, hq11, hK10⟩ := Option.bind_eq_some_iff.mp h
 clear h
 refine WC.meet (fun L w' => ∃ (κ' : Col) (s3 : (List Bool)) (las3_0 : Option Addr) (lus3_0 : Nat), L = [(1, .int .i64 p1), (3, .pointer (some ⟨b3, 0, none⟩)), (8, .slice las3_0 s3.length lus3_0)] ∧ Stp [3] K6 w5 κ' w' ∧ Oc Ep.bool 4 κ' w' 3 las3_0 lus3_0 s3 ∧ q2 = Sum.inr s3) ?_ ?_
 ·
  refine WC.block ?_
  refine WC.loop (fun k L w' => ∃ (κ' : Col) (v9 : Int) (s1 : (List Bool)) (las1_0 : Option Addr) (lus1_0 : Nat), L = [(1, .int .i64 p1), (2, .int .i64 p2), (3, .pointer (some ⟨b3, 0, none⟩)), (8, .slice las1_0 s1.length lus1_0), (9, .int .i64 v9)] ∧ Stp [3] K6 w5 κ' w' ∧ Oc Ep.bool 4 κ' w' 3 las1_0 lus1_0 s1 ∧ 0 ≤ v9 ∧ Int.toNat (p0.Inputs - v9) = k ∧ cntM (s_l31Step_b0 p2) k v9 s1 = some q2) ⟨_, _, ⟨K6, 0, (([false] : List Bool) : (List Bool)), a12, u12, rfl, (Stp.refl _ _).wk rfl, f8, (by decide), (by simp), hq11⟩, fun a ha => (ha.more (ha.more (ha.more (ha.more (ha.more ha.nil rfl) rfl) rfl) rfl) rfl)⟩ ?_
  rintro k _ w16 ⟨K17, v9, s1, las1_0, lus1_0, rfl, S18, f19, hj9, hJ9, h⟩
  rcases k with _ | k
  ·
   have hk20 := h; obtain ⟨o9, h⟩ := ex_eq (Sum.inr (Sum.inl s1) : (Int × Int) ⊕ (((List Bool)) ⊕ ((List Bool))))
   have hc9 : decide (v9 < p0.Inputs) = false := decide_eq_false (by omega)
   refine WC.seq ?_
   refine WC.seq ?_
   refine WC.rs [(0, 2), (1, 2), (2, 1), (3, 2)] rfl ?_
   refine WO.pn 1 rfl ?_
   refine WO.k2 rfl rfl rfl rfl (rn_fieldAddr Try.runUnderlying27 rfl Try.sizeOf2 rfl rfl) ?_
   have f21 := f4.stp (S7.tr S18) rfl rfl
   refine WO.k1 trivial rfl rfl rfl rfl (rn_ld Try.isAgg2 rfl rfl (hvE (f21.ld 0 rfl rfl))) ?_
   refine WO.pn 1 rfl ?_
   refine WO.fin ?_
   refine DN.seq ?_
   refine WC.cf' rfl hc9 ?_
   refine WC.exit ?_
   refine DN.exitThen ?_
   refine DN.exitThen ?_
   obtain rfl := Option.some.inj h
   have h := hk20
   refine DN.hit ?_
   obtain rfl := Option.some.inj h
   exact DN.meet _ ⟨K17, (s1 : (List Bool)), las1_0, lus1_0, rfl, S18.wk rfl, f19, rfl⟩ fun a ha => (ha.more (ha.more (ha.more ha.nil rfl) rfl) rfl)
  ·
   obtain ⟨o9, h, hk20⟩ := Option.bind_eq_some_iff.mp h; unfold s_l31Step_b0 at h
   have hc9 : decide (v9 < p0.Inputs) = true := decide_eq_true (by omega)
   refine WC.seq ?_
   refine WC.seq ?_
   refine WC.rs [(0, 2), (1, 2), (2, 1), (3, 2)] rfl ?_
   refine WO.pn 1 rfl ?_
   refine WO.k2 rfl rfl rfl rfl (rn_fieldAddr Try.runUnderlying27 rfl Try.sizeOf2 rfl rfl) ?_
   have f22 := f4.stp (S7.tr S18) rfl rfl
   refine WO.k1 trivial rfl rfl rfl rfl (rn_ld Try.isAgg2 rfl rfl (hvE (f22.ld 0 rfl rfl))) ?_
   refine WO.pn 1 rfl ?_
   refine WO.fin ?_
   refine DN.seq ?_
   refine WC.ct' rfl hc9 ?_
   refine WC.skip ?_
   refine DN.seq ?_
   refine WC.seq ?_
   refine WC.block ?_
   refine WC.rs [(0, 2), (1, 2), (2, 2), (3, 1), (4, 2), (5, 2), (6, 2), (7, 1), (8, 1), (9, 2)] rfl ?_
   refine WO.pn 3 rfl ?_
   obtain ⟨x22, hx22, h⟩ := Option.bind_eq_some_iff.mp h
   refine WO.call rfl rfl rfl rfl rfl rfl Try.call39 (s_l31Pow_ok (κ := fun b => mp [] 0 (K17 b)) hx22) ?_
   rintro _ w23 ⟨k24, rfl, e25⟩
   obtain ⟨K26, S27, m28⟩ := Ent.mixed (l := []) (κ := K17) e25 4 rfl
   refine ⟨trivial, ?_⟩
   obtain ⟨_z23, hz23, h⟩ := Option.bind_eq_some_iff.mp h
   refine WO.k2 rfl rfl rfl rfl (rn_quo rfl rfl rfl (nz_ok hz23)) ?_
   refine WO.k2 rfl rfl rfl rfl (rn_rem rfl rfl rfl (by decide)) ?_
   refine WO.pn 1 rfl ?_
   refine WO.bl (κ := K26) (E := Ep.bool) 6 [] (parts := [(0, .tmp 25)]) (cells := [.bool ((Int.tmod (IntKind.i64.wrap (Int.tdiv p2 x22)) 2) == 1)]) (xs := ([((Int.tmod (IntKind.i64.wrap (Int.tdiv p2 x22)) 2) == 1)] : List Bool)) rfl rfl rfl rfl rfl rfl Try.underlying77 Tryinfo4 rfl rfl rfl rfl rfl rfl rfl rfl rfl rfl ⟨[.bool ((Int.tmod (IntKind.i64.wrap (Int.tdiv p2 x22)) 2) == 1)], [], Zl K26 w23 [], Zl K26 w23 [], rfl, Zl.sp (l1 := []) (l2 := []) rfl, Zl.sr (l1 := []) (l2 := []), rfl, rfl⟩ fun a26 u26 w30 K31 S32 f33 => ⟨trivial, ?_⟩
   obtain ⟨x27, hx27, h⟩ := Option.bind_eq_some_iff.mp h
   have f34 := f19.stp (S27.tr S32) rfl rfl
   refine WO.app (κ := K31) (E := Ep.bool) 3 [] rfl rfl rfl rfl rfl rfl rfl rfl rfl Try.underlying77 Tryinfo4 rfl rfl rfl rfl f34 (Sl.srcP pu_bool f33.rdc) sy_false hx27 rfl fun a27 u27 w35 K36 S37 f38 => ⟨trivial, ?_⟩
   refine WO.pn 1 rfl ?_
   refine WO.fin ?_
   refine DN.block ?_
   refine DN.seq ?_
   refine WC.rs [(0, 2), (1, 2), (2, 2)] rfl ?_
   refine WO.pn 3 rfl ?_
   refine WO.fin ?_
   have hw9 : IntKind.wrap .i64 (v9 + 1) = v9 + 1 := wr1 hj9 (of_decide_eq_true hc9) hN9
   rw [hw9]
   have hc9 := of_decide_eq_true hc9
   obtain rfl := Option.some.inj h
   refine DN.round fun a ha => ?_
   exact ⟨k, _, Nat.lt_succ_self _, ⟨K36, v9 + 1, (x27 : (List Bool)), a27, u27, rfl, (S18.tr (S27.tr (S32.tr S37))).wk rfl, f38, by omega, by omega, hk20⟩, (ha.more (ha.more (ha.more (ha.more (ha.more ha.nil rfl) rfl) rfl) rfl) rfl)⟩
 rintro _ w12 ⟨K13, s3, las3_0, lus3_0, rfl, S14, f15, rfl⟩
 have h := hK10
 dsimp only [aft] at h
 refine DN.seq ?_
 refine WC.seq ?_
 refine WC.seq ?_
 refine WC.rs [(0, 2)] rfl ?_
 refine WO.pn 1 rfl ?_
 refine WO.fin ?_
 refine DN.seq ?_
 obtain ⟨_, hr39, h⟩ := Option.bind_eq_some_iff.mp h
 have hN39 := rng_ok hr39
 obtain ⟨q5, hq41, hK40⟩ := Option.bind_eq_some_iff.mp h
 clear h
 refine WC.meet (fun L w' => ∃ (κ' : Col) (s6 : (List Bool)) (las6_0 : Option Addr) (lus6_0 : Nat), L = [(3, .pointer (some ⟨b3, 0, none⟩)), (8, .slice las6_0 s6.length lus6_0)] ∧ Stp [3] K13 w12 κ' w' ∧ Oc Ep.bool 4 κ' w' 3 las6_0 lus6_0 s6 ∧ q5 = Sum.inr s6) ?_ ?_
 ·
  refine WC.block ?_
  refine WC.loop (fun k L w' => ∃ (κ' : Col) (v10 : Int) (s4 : (List Bool)) (las4_0 : Option Addr) (lus4_0 : Nat), L = [(1, .int .i64 p1), (3, .pointer (some ⟨b3, 0, none⟩)), (8, .slice las4_0 s4.length lus4_0), (10, .int .i64 v10)] ∧ Stp [3] K13 w12 κ' w' ∧ Oc Ep.bool 4 κ' w' 3 las4_0 lus4_0 s4 ∧ 0 ≤ v10 ∧ Int.toNat (p0.Latches - v10) = k ∧ cntM (s_l31Step_b2 p1) k v10 s4 = some q5) ⟨_, _, ⟨K13, 0, (s3 : (List Bool)), las3_0, lus3_0, rfl, (Stp.refl _ _).wk rfl, f15, (by decide), (by simp), hq41⟩, fun a ha => (ha.more (ha.more (ha.more (ha.more ha.nil rfl) rfl) rfl) rfl)⟩ ?_
  rintro k _ w46 ⟨K47, v10, s4, las4_0, lus4_0, rfl, S48, f49, hj39, hJ39, h⟩
  rcases k with _ | k
  ·
   have hk50 := h; obtain ⟨o39, h⟩ := ex_eq (Sum.inr (Sum.inl s4) : (Int × Int) ⊕ (((List Bool)) ⊕ ((List Bool))))
   have hc39 : decide (v10 < p0.Latches) = false := decide_eq_false (by omega)
   refine WC.seq ?_
   refine WC.seq ?_
   refine WC.rs [(0, 2), (1, 2), (2, 1), (3, 2)] rfl ?_
   refine WO.pn 1 rfl ?_
   refine WO.k2 rfl rfl rfl rfl (rn_fieldAddr Try.runUnderlying27 rfl Try.sizeOf2 rfl rfl) ?_
   have f51 := f4.stp (S7.tr (S14.tr S48)) rfl rfl
   refine WO.k1 trivial rfl rfl rfl rfl (rn_ld Try.isAgg2 rfl rfl (hvE (f51.ld 1 rfl rfl))) ?_
   refine WO.pn 1 rfl ?_
   refine WO.fin ?_
   refine DN.seq ?_
   refine WC.cf' rfl hc39 ?_
   refine WC.exit ?_
   refine DN.exitThen ?_
   refine DN.exitThen ?_
   obtain rfl := Option.some.inj h
   have h := hk50
   refine DN.hit ?_
   obtain rfl := Option.some.inj h
   exact DN.meet _ ⟨K47, (s4 : (List Bool)), las4_0, lus4_0, rfl, S48.wk rfl, f49, rfl⟩ fun a ha => (ha.more (ha.more ha.nil rfl) rfl)
  ·
   obtain ⟨o39, h, hk50⟩ := Option.bind_eq_some_iff.mp h; unfold s_l31Step_b2 at h
   have hc39 : decide (v10 < p0.Latches) = true := decide_eq_true (by omega)
   refine WC.seq ?_
   refine WC.seq ?_
   refine WC.rs [(0, 2), (1, 2), (2, 1), (3, 2)] rfl ?_
   refine WO.pn 1 rfl ?_
   refine WO.k2 rfl rfl rfl rfl (rn_fieldAddr Try.runUnderlying27 rfl Try.sizeOf2 rfl rfl) ?_
   have f52 := f4.stp (S7.tr (S14.tr S48)) rfl rfl
   refine WO.k1 trivial rfl rfl rfl rfl (rn_ld Try.isAgg2 rfl rfl (hvE (f52.ld 1 rfl rfl))) ?_
   refine WO.pn 1 rfl ?_
   refine WO.fin ?_
   refine DN.seq ?_
   refine WC.ct' rfl hc39 ?_
   refine WC.skip ?_
   refine DN.seq ?_
   refine WC.seq ?_
   refine WC.block ?_
   refine WC.rs [(0, 2), (1, 2), (2, 2), (3, 1), (4, 2), (5, 2), (6, 2), (7, 1), (8, 1), (9, 2)] rfl ?_
   refine WO.pn 3 rfl ?_
   obtain ⟨x37, hx37, h⟩ := Option.bind_eq_some_iff.mp h
   refine WO.call rfl rfl rfl rfl rfl rfl Try.call39 (s_l31Pow_ok (κ := fun b => mp [] 0 (K47 b)) hx37) ?_
   rintro _ w53 ⟨k54, rfl, e55⟩
   obtain ⟨K56, S57, m58⟩ := Ent.mixed (l := []) (κ := K47) e55 4 rfl
   refine ⟨trivial, ?_⟩
   obtain ⟨_z38, hz38, h⟩ := Option.bind_eq_some_iff.mp h
   refine WO.k2 rfl rfl rfl rfl (rn_quo rfl rfl rfl (nz_ok hz38)) ?_
   refine WO.k2 rfl rfl rfl rfl (rn_rem rfl rfl rfl (by decide)) ?_
   refine WO.pn 1 rfl ?_
   refine WO.bl (κ := K56) (E := Ep.bool) 6 [] (parts := [(0, .tmp 40)]) (cells := [.bool ((Int.tmod (IntKind.i64.wrap (Int.tdiv p1 x37)) 2) == 1)]) (xs := ([((Int.tmod (IntKind.i64.wrap (Int.tdiv p1 x37)) 2) == 1)] : List Bool)) rfl rfl rfl rfl rfl rfl Try.underlying77 Tryinfo4 rfl rfl rfl rfl rfl rfl rfl rfl rfl rfl ⟨[.bool ((Int.tmod (IntKind.i64.wrap (Int.tdiv p1 x37)) 2) == 1)], [], Zl K56 w53 [], Zl K56 w53 [], rfl, Zl.sp (l1 := []) (l2 := []) rfl, Zl.sr (l1 := []) (l2 := []), rfl, rfl⟩ fun a41 u41 w60 K61 S62 f63 => ⟨trivial, ?_⟩
   obtain ⟨x42, hx42, h⟩ := Option.bind_eq_some_iff.mp h
   have f64 := f49.stp (S57.tr S62) rfl rfl
   refine WO.app (κ := K61) (E := Ep.bool) 3 [] rfl rfl rfl rfl rfl rfl rfl rfl rfl Try.underlying77 Tryinfo4 rfl rfl rfl rfl f64 (Sl.srcP pu_bool f63.rdc) sy_false hx42 rfl fun a42 u42 w65 K66 S67 f68 => ⟨trivial, ?_⟩
   refine WO.pn 1 rfl ?_
   refine WO.fin ?_
   refine DN.block ?_
   refine DN.seq ?_
   refine WC.rs [(0, 2), (1, 2), (2, 2)] rfl ?_
   refine WO.pn 3 rfl ?_
   refine WO.fin ?_
   have hw39 : IntKind.wrap .i64 (v10 + 1) = v10 + 1 := wr1 hj39 (of_decide_eq_true hc39) hN39
   rw [hw39]
   have hc39 := of_decide_eq_true hc39
   obtain rfl := Option.some.inj h
   refine DN.round fun a ha => ?_
   exact ⟨k, _, Nat.lt_succ_self _, ⟨K66, v10 + 1, (x42 : (List Bool)), a42, u42, rfl, (S48.tr (S57.tr (S62.tr S67))).wk rfl, f68, by omega, by omega, hk50⟩, (ha.more (ha.more (ha.more (ha.more ha.nil rfl) rfl) rfl) rfl)⟩
 rintro _ w42 ⟨K43, s6, las6_0, lus6_0, rfl, S44, f45, rfl⟩
 have h := hK40
 dsimp only [aft] at h
 refine DN.seq ?_
 refine WC.seq ?_
 refine WC.seq ?_
 refine WC.rs [(0, 2)] rfl ?_
 refine WO.pn 1 rfl ?_
 refine WO.fin ?_
 refine DN.seq ?_
 have hN69 : (p0.Gates.length : Int) ≤ 9223372036854775807 := g0_3.len_le
 obtain ⟨q8, hq71, hK70⟩ := Option.bind_eq_some_iff.mp h
 clear h
 refine WC.meet (fun L w' => ∃ (κ' : Col) (s9 : (List Bool)) (las9_0 : Option Addr) (lus9_0 : Nat), L = [(3, .pointer (some ⟨b3, 0, none⟩)), (8, .slice las9_0 s9.length lus9_0)] ∧ Stp [3] K43 w42 κ' w' ∧ Oc Ep.bool 4 κ' w' 3 las9_0 lus9_0 s9 ∧ q8 = Sum.inr s9) ?_ ?_
 ·
  refine WC.block ?_
  refine WC.loop (fun k L w' => ∃ (κ' : Col) (v11 : Int) (s7 : (List Bool)) (las7_0 : Option Addr) (lus7_0 : Nat), L = [(3, .pointer (some ⟨b3, 0, none⟩)), (8, .slice las7_0 s7.length lus7_0), (11, .int .i64 v11)] ∧ Stp [3] K43 w42 κ' w' ∧ Oc Ep.bool 4 κ' w' 3 las7_0 lus7_0 s7 ∧ 0 ≤ v11 ∧ Int.toNat ((p0.Gates.length : Int) - v11) = k ∧ cntM (s_l31Step_b4 p0) k v11 s7 = some q8) ⟨_, _, ⟨K43, 0, (s6 : (List Bool)), las6_0, lus6_0, rfl, (Stp.refl _ _).wk rfl, f45, (by decide), (by simp), hq71⟩, fun a ha => (ha.more (ha.more (ha.more ha.nil rfl) rfl) rfl)⟩ ?_
  rintro k _ w76 ⟨K77, v11, s7, las7_0, lus7_0, rfl, S78, f79, hj69, hJ69, h⟩
  rcases k with _ | k
  ·
   have hk80 := h; obtain ⟨o69, h⟩ := ex_eq (Sum.inr (Sum.inl s7) : (Int × Int) ⊕ (((List Bool)) ⊕ ((List Bool))))
   have hc69 : decide (v11 < (p0.Gates.length : Int)) = false := decide_eq_false (by omega)
   refine WC.seq ?_
   refine WC.seq ?_
   refine WC.rs [(0, 2), (1, 2), (2, 1), (3, 2), (4, 2)] rfl ?_
   refine WO.pn 1 rfl ?_
   refine WO.k2 rfl rfl rfl rfl (rn_fieldAddr Try.runUnderlying27 rfl Try.sizeOf25 rfl rfl) ?_
   have f81 := f4.stp (S7.tr (S14.tr (S44.tr S78))) rfl rfl
   refine WO.k1 trivial rfl rfl rfl rfl (rn_ld Try.isAgg25 rfl rfl (hvE (f81.ld 3 rfl rfl))) ?_
   refine WO.k2 rfl rfl rfl rfl (rn_len Try.runUnderlying25 rfl rfl) ?_
   refine WO.pn 1 rfl ?_
   refine WO.fin ?_
   refine DN.seq ?_
   refine WC.cf' rfl hc69 ?_
   refine WC.exit ?_
   refine DN.exitThen ?_
   refine DN.exitThen ?_
   obtain rfl := Option.some.inj h
   have h := hk80
   refine DN.hit ?_
   obtain rfl := Option.some.inj h
   exact DN.meet _ ⟨K77, (s7 : (List Bool)), las7_0, lus7_0, rfl, S78.wk rfl, f79, rfl⟩ fun a ha => (ha.more (ha.more ha.nil rfl) rfl)
  ·
   obtain ⟨o69, h, hk80⟩ := Option.bind_eq_some_iff.mp h; unfold s_l31Step_b4 at h
   have hc69 : decide (v11 < (p0.Gates.length : Int)) = true := decide_eq_true (by omega)
   refine WC.seq ?_
   refine WC.seq ?_
   refine WC.rs [(0, 2), (1, 2), (2, 1), (3, 2), (4, 2)] rfl ?_
   refine WO.pn 1 rfl ?_
   refine WO.k2 rfl rfl rfl rfl (rn_fieldAddr Try.runUnderlying27 rfl Try.sizeOf25 rfl rfl) ?_
   have f82 := f4.stp (S7.tr (S14.tr (S44.tr S78))) rfl rfl
   refine WO.k1 trivial rfl rfl rfl rfl (rn_ld Try.isAgg25 rfl rfl (hvE (f82.ld 3 rfl rfl))) ?_
   refine WO.k2 rfl rfl rfl rfl (rn_len Try.runUnderlying25 rfl rfl) ?_
   refine WO.pn 1 rfl ?_
   refine WO.fin ?_
   refine DN.seq ?_
   refine WC.ct' rfl hc69 ?_
   refine WC.skip ?_
   refine DN.seq ?_
   refine WC.seq ?_
   refine WC.block ?_
   refine WC.rs [(0, 2), (1, 2), (2, 2), (3, 1), (4, 2), (5, 2), (6, 2), (7, 1), (8, 1), (9, 2), (10, 2), (11, 2), (12, 1), (13, 2), (14, 2), (15, 2), (16, 1), (17, 1), (18, 2), (19, 1), (20, 1), (21, 2)] rfl ?_
   refine WO.pn 2 rfl ?_
   refine WO.k2 rfl rfl rfl rfl (rn_fieldAddr Try.runUnderlying27 rfl Try.sizeOf25 rfl rfl) ?_
   refine WO.k1 trivial rfl rfl rfl rfl (rn_ld Try.isAgg25 rfl rfl (hvE (f82.ld 3 rfl rfl))) ?_
   refine WO.pn 1 rfl ?_
   obtain ⟨x55, hx55, h⟩ := Option.bind_eq_some_iff.mp h
   refine WO.k2 rfl rfl rfl rfl (rn_index g0_3 hx55 Try.runUnderlying25 Try.sizeOf33 rfl rfl rfl rfl) ?_
   refine WO.k2 rfl rfl rfl rfl (rn_fieldAddr Try.runUnderlying33 rfl Try.sizeOf2 rfl rfl) ?_
   have f83 := g0_3.stp (S3.tr (S7.tr (S14.tr (S44.tr S78)))) rfl rfl
   obtain ⟨cse84, hre84, hle84⟩ := (f83).gSt hx55
   obtain rfl := Gate.un hre84
   refine WO.k1 trivial rfl rfl rfl rfl (rn_ld Try.isAgg2 rfl rfl (hvE (fun w' hw' => hle84 w' hw' 0 _ rfl))) ?_
   obtain ⟨x58, hx58, h⟩ := Option.bind_eq_some_iff.mp h
   refine WO.call rfl rfl rfl rfl rfl rfl Try.call70 (s_l31True_ok (κ := fun b => mp [] 0 (K77 b)) (Sl.map f79.rdc (mp [] 0) rfl rfl) hx58) ?_
   rintro _ w85 ⟨k86, rfl, e87⟩
   obtain ⟨K88, S89, m90⟩ := Ent.mixed (l := []) (κ := K77) e87 4 rfl
   refine ⟨trivial, ?_⟩
   refine WO.pn 1 rfl ?_
   obtain ⟨p68, h, hK92⟩ := Option.bind_eq_some_iff.mp h
   refine WO.meet [(10, 2), (11, 2), (12, 1), (13, 2), (14, 2), (15, 2), (16, 1), (17, 1), (18, 2)] [(19, 1), (20, 1), (21, 2)] (fun L w' => L = [(3, .pointer (some ⟨b3, 0, none⟩)), (8, .slice las7_0 s7.length lus7_0), (11, .int .i64 v11), (50, .slice las7_0 s7.length lus7_0), (68, .bool p68)] ∧ ∃ κ', Stp [] K88 w85 κ' w') trivial ?_ ?_
   ·
    revert h
    cases ht93 : x58 with
    | true =>
     intro h; replace h := cT h
     refine WO.pn 1 rfl ?_
     refine WO.k2 rfl rfl rfl rfl (rn_fieldAddr Try.runUnderlying27 rfl Try.sizeOf25 rfl rfl) ?_
     have f94 := f82.stp S89 rfl rfl
     refine WO.k1 trivial rfl rfl rfl rfl (rn_ld Try.isAgg25 rfl rfl (hvE (f94.ld 3 rfl rfl))) ?_
     refine WO.pn 1 rfl ?_
     obtain ⟨x64, hx64, h⟩ := Option.bind_eq_some_iff.mp h
     refine WO.k2 rfl rfl rfl rfl (rn_index f83 hx64 Try.runUnderlying25 Try.sizeOf33 rfl rfl rfl rfl) ?_
     refine WO.k2 rfl rfl rfl rfl (rn_fieldAddr Try.runUnderlying33 rfl Try.sizeOf2 rfl rfl) ?_
     have f95 := f83.stp S89 rfl rfl
     obtain ⟨cse96, hre96, hle96⟩ := (f95).gSt hx64
     obtain rfl := Gate.un hre96
     refine WO.k1 trivial rfl rfl rfl rfl (rn_ld Try.isAgg2 rfl rfl (hvE (fun w' hw' => hle96 w' hw' 1 _ rfl))) ?_
     obtain ⟨x67, hx67, h⟩ := Option.bind_eq_some_iff.mp h
     have f97 := f79.stp S89 rfl rfl
     refine WO.call rfl rfl rfl rfl rfl rfl Try.call70 (s_l31True_ok (κ := fun b => mp [] 0 (K88 b)) (Sl.map f97.rdc (mp [] 0) rfl rfl) hx67) ?_
     rintro _ w98 ⟨k99, rfl, e100⟩
     obtain ⟨K101, S102, m103⟩ := Ent.mixed (l := []) (κ := K88) e100 6 rfl
     refine ⟨trivial, ?_⟩
     refine WO.pn 1 rfl ?_
     obtain rfl := Option.some.inj h
     exact WO.met _ trivial ⟨rfl, _, S102.wk rfl⟩ fun a ha => (ha.more (ha.more (ha.more (ha.more (ha.more ha.nil rfl) rfl) rfl) rfl) rfl)
    | false =>
     intro h; replace h := cF h
     refine WO.pn 2 rfl ?_
     refine WO.ls rfl rfl rfl rfl ?_
     refine WO.pn 3 rfl ?_
     refine WO.ls rfl rfl rfl rfl ?_
     refine WO.ls rfl rfl rfl rfl ?_
     refine WO.pn 1 rfl ?_
     obtain rfl := Option.some.inj h
     exact WO.met _ trivial ⟨rfl, _, (Stp.refl _ _).wk rfl⟩ fun a ha => (ha.more (ha.more (ha.more (ha.more (ha.more ha.nil rfl) rfl) rfl) rfl) rfl)
   rintro _ w105 _ ⟨rfl, K106, S107⟩
   have h := hK92
   refine WO.bl (κ := K106) (E := Ep.bool) 6 [] (parts := [(0, .tmp 68)]) (cells := [.bool p68]) (xs := ([p68] : List Bool)) rfl rfl rfl rfl rfl rfl Try.underlying77 Tryinfo4 rfl rfl rfl rfl rfl rfl rfl rfl rfl rfl ⟨[.bool p68], [], Zl K106 w105 [], Zl K106 w105 [], rfl, Zl.sp (l1 := []) (l2 := []) rfl, Zl.sr (l1 := []) (l2 := []), rfl, rfl⟩ fun a69 u69 w108 K109 S110 f111 => ⟨trivial, ?_⟩
   obtain ⟨x70, hx70, h⟩ := Option.bind_eq_some_iff.mp h
   have f112 := f79.stp (S89.tr (S107.tr S110)) rfl rfl
   refine WO.app (κ := K109) (E := Ep.bool) 3 [] rfl rfl rfl rfl rfl rfl rfl rfl rfl Try.underlying77 Tryinfo4 rfl rfl rfl rfl f112 (Sl.srcP pu_bool f111.rdc) sy_false hx70 rfl fun a70 u70 w113 K114 S115 f116 => ⟨trivial, ?_⟩
   refine WO.pn 1 rfl ?_
   refine WO.fin ?_
   refine DN.block ?_
   refine DN.seq ?_
   refine WC.rs [(0, 2), (1, 2), (2, 2)] rfl ?_
   refine WO.pn 3 rfl ?_
   refine WO.fin ?_
   have hw69 : IntKind.wrap .i64 (v11 + 1) = v11 + 1 := wr1 hj69 (of_decide_eq_true hc69) hN69
   rw [hw69]
   have hc69 := of_decide_eq_true hc69
   obtain rfl := Option.some.inj h
   refine DN.round fun a ha => ?_
   exact ⟨k, _, Nat.lt_succ_self _, ⟨K114, v11 + 1, (x70 : (List Bool)), a70, u70, rfl, (S78.tr (S89.tr (S107.tr (S110.tr S115)))).wk rfl, f116, by omega, by omega, hk80⟩, (ha.more (ha.more (ha.more ha.nil rfl) rfl) rfl)⟩
 rintro _ w72 ⟨K73, s9, las9_0, lus9_0, rfl, S74, f75, rfl⟩
 have h := hK70
 dsimp only [aft] at h
 refine DN.seq ?_
 refine WC.seq ?_
 refine WC.rx (κ := K73) [2] none [(0, 2), (1, 2), (4, 2), (5, 2), (2, 0), (6, 0), (3, 1), (7, 1), (8, 2), (9, 2)] [] (by kernel_rfl) (by kernel_rfl) fun w118 S117 => ?_
 refine WO.pn 1 rfl ?_
 refine WO.k2 rfl rfl rfl rfl (rn_fieldAddr Try.runUnderlying27 rfl Try.sizeOf24 rfl rfl) ?_
 refine WO.pn 1 rfl ?_
 refine WO.k2 rfl rfl rfl rfl (rn_fieldAddr Try.runUnderlying27 rfl Try.sizeOf24 rfl rfl) ?_
 have f119 := f4.stp (S7.tr (S14.tr (S44.tr (S74.tr S117)))) rfl rfl
 refine WO.k0 rfl rfl rfl rfl (rn_ld Try.isAgg24 rfl rfl (hvC (f119.ld 2 rfl rfl) rfl)) ?_
 refine WO.k0 rfl rfl rfl rfl (rn_ld Try.isAgg24 rfl rfl (hvC (f119.ld 4 rfl rfl) rfl)) ?_
 obtain ⟨x74, hx74, h⟩ := Option.bind_eq_some_iff.mp h
 have f120 := f75.stp S117 rfl rfl
 have f121 := g0_2.stp (S3.tr (S7.tr (S14.tr (S44.tr (S74.tr S117))))) rfl rfl
 refine WO.call rfl rfl rfl rfl rfl rfl Try.call71 (s_l31Number_ok (κ := fun b => mp [] 0 (K73 b)) (Sl.map f120.rdc (mp [] 0) rfl rfl) (Sl.map f121 (mp [] 0) rfl rfl) hx74) ?_
 rintro _ w122 ⟨k123, rfl, e124⟩
 obtain ⟨K125, S126, m127⟩ := Ent.mixed (l := []) (κ := K73) e124 4 rfl
 refine ⟨(S126.cl rfl), ?_⟩
 obtain ⟨x78, hx78, h⟩ := Option.bind_eq_some_iff.mp h
 have f129 := f120.stp S126 rfl rfl
 have f130 := g0_4.stp (S3.tr (S7.tr (S14.tr (S44.tr (S74.tr (S117.tr S126)))))) rfl rfl
 refine WO.call rfl rfl rfl rfl rfl rfl Try.call71 (s_l31Number_ok (κ := fun b => mp [] 0 (K125 b)) (Sl.map f129.rdc (mp [] 0) rfl rfl) (Sl.map f130 (mp [] 0) rfl rfl) hx78) ?_
 rintro _ w131 ⟨k132, rfl, e133⟩
 obtain ⟨K134, S135, m136⟩ := Ent.mixed (l := []) (κ := K125) e133 6 rfl
 refine ⟨((S126.tr S135).cl rfl), ?_⟩
 refine WO.pn 2 rfl ?_
 refine WO.nx ?_
 refine WO.fin ?_
 refine DN.seq ?_
 refine WC.ret ?_
 have f138 := hE.stp (S3.tr (S7.tr (S14.tr (S44.tr (S74.tr (S117.tr (S126.tr S135))))))) rfl rfl
 refine DN.res (l := [.tmp 6, .tmp 7]) Try.results40 (res_tmp rfl (res_tmp rfl rfl)) rfl ?_
 obtain rfl := Option.some.inj h
 exact ⟨K134, rfl, f138⟩

end Go.Proofs.Ythjkonkcdfdfaaa
