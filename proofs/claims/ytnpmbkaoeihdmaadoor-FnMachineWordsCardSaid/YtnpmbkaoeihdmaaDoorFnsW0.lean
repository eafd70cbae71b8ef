/- The walks, part 0. By program. -/
import Derived.Test.YtnpmbkaoeihdmaaDoorText
import Derived.Test.YtnpmbkaoeihdmaaDoorShelf
import Derived.Test.YtnpmbkaoeihdmaaDoorFnsWM
set_option linter.unusedVariables false
set_option linter.unusedSimpArgs false
namespace Go.Proofs.YtnpmbkaoeihdmaaDoor
open Go Go.Wk Go.Proofs
set_option maxRecDepth 100000
set_option maxHeartbeats 1000000

/- loop.example/g00869/laws.big -/
theorem l_big_ok {w : World} {κ : Col} {a0 : Option Addr} {u0 : Nat} {p0 : (List Int)} (g0 : Rd (Rp.int .u8) κ w 0 a0 u0 p0) {r : Bool} (h : l_big p0 = some r) : Ret Tryd.prog 9 [.slice a0 p0.length u0] w (fun v w' => ∃ (κ' : Col), v = .bool r ∧ Ent κ w κ' w') := by
 unfold l_big at h
 refine Ret.enter Tryd.func9 rfl Tryd.ntmps9 rfl ?_
 dsimp only [envOf]
 have hE := Ent.refl κ w
 refine WC.seq ?_
 refine WC.rs [(0, 2)] rfl ?_
 refine WO.pn 1 rfl ?_
 refine WO.fin ?_
 refine DN.seq ?_
 refine WC.seq ?_
 refine WC.rs [(0, 2), (1, 2), (2, 2), (3, 2)] rfl ?_
 refine WO.pn 1 rfl ?_
 refine WO.k2 rfl rfl rfl rfl (rn_len Tryd.runUnderlying22 rfl rfl) ?_
 refine WO.pn 2 rfl ?_
 refine WO.fin ?_
 refine DN.seq ?_
 refine WC.ret ?_
 refine DN.res (l := [.tmp 2]) Tryd.results9 (res_tmp rfl rfl) rfl ?_
 obtain rfl := Option.some.inj h
 exact ⟨κ, rfl, hE⟩

/- loop.example/g00869/laws.roll -/
theorem l_roll_ok {w : World} {κ : Col} {a0 : Option Addr} {u0 : Nat} {p0 : (List Int)} {p1 : Int} (g0 : Rd (Rp.int .u8) κ w 0 a0 u0 p0) {r : dice} (h : l_roll p0 p1 = some r) : Ret Tryd.prog 27 [.slice a0 p0.length u0, .int .u64 p1] w (fun v w' => ∃ (κ' : Col) (ra0 : Option Addr) (ru0 : Nat) (rb1 : Nat), v = .pointer (some ⟨rb1, 0, none⟩) ∧ Ent κ w κ' w' ∧ Rd (Rp.int .u8) κ' w' 0 ra0 ru0 r.b ∧ (Bc κ' w' 3 rb1 93 [.slice ra0 r.b.length ru0, .int .i64 r.i, .int .u64 r.h])) := by
 unfold l_roll at h
 refine Ret.enter Tryd.func27 rfl Tryd.ntmps27 rfl ?_
 dsimp only [envOf]
 have hE := Ent.refl κ w
 refine WC.seq ?_
 refine WC.rs [(0, 2)] rfl ?_
 refine WO.pn 1 rfl ?_
 refine WO.fin ?_
 refine DN.seq ?_
 refine WC.seq ?_
 refine WC.rs [(0, 2), (1, 2), (2, 2), (3, 2), (4, 2), (5, 2), (6, 2), (7, 2), (8, 1), (9, 2)] rfl ?_
 refine WO.pn 4 rfl ?_
 refine WO.k2 rfl rfl rfl rfl (rn_len Tryd.runUnderlying22 rfl rfl) ?_
 refine WO.k2 rfl rfl rfl rfl (rn_conv Tryd.runUnderlying3 Tryd.runUnderlying54 rfl rfl) ?_
 refine WO.pn 1 rfl ?_
 refine WO.k2 rfl rfl rfl rfl (rn_build (parts := [(0, .tmp 7), (2, .tmp 13)]) (cells := [.slice a0 p0.length u0, .int .i64 0, .int .u64 (IntKind.u64.wrap ((IntKind.u64.wrap (p1 * 7919)) + (IntKind.u64.wrap (p0.length : Int))))]) rfl rfl (by kernel_rfl)) ?_
 refine WO.box (κ := κ) 2 rfl rfl rfl rfl rfl rfl rfl fun b15 w1 K2 S3 f4 => ⟨trivial, ?_⟩
 refine WO.pn 1 rfl ?_
 refine WO.fin ?_
 refine DN.seq ?_
 refine WC.seq ?_
 refine WC.seq ?_
 refine WC.rs [(0, 2)] rfl ?_
 refine WO.pn 1 rfl ?_
 refine WO.fin ?_
 refine DN.seq ?_
 have hN5 : (p0.length : Int) ≤ 9223372036854775807 := g0.len_le
 obtain ⟨q2, hq7, hK6⟩ := Option.bind_eq_some_iff.mp h
 clear h
 refine WC.meet (fun L w' => ∃ (κ' : Col) (s3 : Int), L = [(5, .pointer (some ⟨b15, 0, none⟩))] ∧ Stp [2] K2 w1 κ' w' ∧ Bc κ' w' 2 b15 93 [.slice a0 p0.length u0, .int .i64 0, .int .u64 s3] ∧ q2 = Sum.inr s3) ?_ ?_
 ·
  refine WC.block ?_
  refine WC.loop (fun k L w' => ∃ (κ' : Col) (v6 : Int) (s1 : Int), L = [(0, .slice a0 p0.length u0), (5, .pointer (some ⟨b15, 0, none⟩)), (6, .int .i64 v6)] ∧ Stp [2] K2 w1 κ' w' ∧ Bc κ' w' 2 b15 93 [.slice a0 p0.length u0, .int .i64 0, .int .u64 s1] ∧ 0 ≤ v6 ∧ Int.toNat ((p0.length : Int) - v6) = k ∧ cntM (l_roll_b0 p0) k v6 s1 = some q2) ⟨_, _, ⟨K2, 0, ((IntKind.u64.wrap ((IntKind.u64.wrap (p1 * 7919)) + (IntKind.u64.wrap (p0.length : Int)))) : Int), rfl, (Stp.refl _ _).wk rfl, f4, (by decide), (by simp), hq7⟩, fun a ha => (ha.more (ha.more (ha.more ha.nil rfl) rfl) rfl)⟩ ?_
  rintro k _ w12 ⟨K13, v6, s1, rfl, S14, f15, hj5, hJ5, h⟩
  rcases k with _ | k
  ·
   have hk16 := h; obtain ⟨o5, h⟩ := ex_eq (Sum.inr (Sum.inl s1) : dice ⊕ ((Int) ⊕ (Int)))
   have hc5 : decide (v6 < (p0.length : Int)) = false := decide_eq_false (by omega)
   refine WC.seq ?_
   refine WC.seq ?_
   refine WC.rs [(0, 2), (1, 2), (2, 2), (3, 2)] rfl ?_
   refine WO.pn 2 rfl ?_
   refine WO.k2 rfl rfl rfl rfl (rn_len Tryd.runUnderlying22 rfl rfl) ?_
   refine WO.pn 1 rfl ?_
   refine WO.fin ?_
   refine DN.seq ?_
   refine WC.cf' rfl hc5 ?_
   refine WC.exit ?_
   refine DN.exitThen ?_
   refine DN.exitThen ?_
   obtain rfl := Option.some.inj h
   have h := hk16
   refine DN.hit ?_
   obtain rfl := Option.some.inj h
   exact DN.meet _ ⟨K13, (s1 : Int), rfl, S14.wk rfl, f15, rfl⟩ fun a ha => (ha.more ha.nil rfl)
  ·
   obtain ⟨o5, h, hk16⟩ := Option.bind_eq_some_iff.mp h; unfold l_roll_b0 at h
   have hc5 : decide (v6 < (p0.length : Int)) = true := decide_eq_true (by omega)
   refine WC.seq ?_
   refine WC.seq ?_
   refine WC.rs [(0, 2), (1, 2), (2, 2), (3, 2)] rfl ?_
   refine WO.pn 2 rfl ?_
   refine WO.k2 rfl rfl rfl rfl (rn_len Tryd.runUnderlying22 rfl rfl) ?_
   refine WO.pn 1 rfl ?_
   refine WO.fin ?_
   refine DN.seq ?_
   refine WC.ct' rfl hc5 ?_
   refine WC.skip ?_
   refine DN.seq ?_
   refine WC.seq ?_
   refine WC.block ?_
   refine WC.rx (κ := K13) [0, 2] (some 15) [(0, 2), (1, 2), (2, 2), (3, 2), (6, 2), (7, 2), (8, 2), (4, 0), (5, 2), (9, 0), (10, 2), (11, 2), (12, 2), (13, 2), (14, 2)] [(15, 1)] (by kernel_rfl) (by kernel_rfl) fun w18 S17 => ?_
   refine WO.pn 2 rfl ?_
   refine WO.k2 rfl rfl rfl rfl (rn_nilCheck rfl rfl) ?_
   refine WO.k2 rfl rfl rfl rfl (rn_fieldAddr Tryd.runUnderlying93 rfl Tryd.sizeOf54 rfl rfl) ?_
   refine WO.pn 2 rfl ?_
   obtain ⟨x30, hx30, h⟩ := Option.bind_eq_some_iff.mp h
   refine WO.k2 rfl rfl rfl rfl (rn_index g0 hx30 Tryd.runUnderlying22 Tryd.sizeOf5 rfl rfl rfl rfl) ?_
   have f19 := f15.stp S17 rfl rfl
   refine WO.k0 rfl rfl rfl rfl (rn_ld Tryd.isAgg54 rfl rfl (hvC (f19.ld 2 rfl rfl) rfl)) ?_
   refine WO.pn 1 rfl ?_
   have f20 := g0.stp (S3.tr (S14.tr S17)) rfl rfl
   refine WO.k0 rfl rfl rfl rfl (rn_ld Tryd.isAgg5 rfl rfl (hvC (f20.gInt hx30) rfl)) ?_
   refine WO.k2 rfl rfl rfl rfl (rn_conv Tryd.runUnderlying5 Tryd.runUnderlying54 rfl rfl) ?_
   refine WO.pn 2 rfl ?_
   refine WO.k2 rfl rfl rfl rfl (rn_nilCheck rfl rfl) ?_
   refine WO.k2 rfl rfl rfl rfl (rn_fieldAddr Tryd.runUnderlying93 rfl Tryd.sizeOf54 rfl rfl) ?_
   refine WO.nx ?_
   refine WO.stB (κ := K13) 2 (off := 2) (vc := [.int .u64 (IntKind.u64.wrap ((IntKind.u64.wrap ((IntKind.u64.wrap (s1 * 1099511628211)) + (IntKind.u64.wrap x30))) + 3))]) (cs' := [.slice a0 p0.length u0, .int .i64 0, .int .u64 (IntKind.u64.wrap ((IntKind.u64.wrap ((IntKind.u64.wrap (s1 * 1099511628211)) + (IntKind.u64.wrap x30))) + 3))]) rfl rfl rfl rfl rfl rfl rfl Tryd.sizeOf54 rfl rfl f19 rfl rfl fun w21 S22 f23 => ⟨trivial, ?_⟩
   refine WO.fin ?_
   refine DN.block ?_
   refine DN.seq ?_
   refine WC.rs [(0, 2), (1, 2), (2, 2)] rfl ?_
   refine WO.pn 3 rfl ?_
   refine WO.fin ?_
   have hw5 : IntKind.wrap .i64 (v6 + 1) = v6 + 1 := wr1 hj5 (of_decide_eq_true hc5) hN5
   rw [hw5]
   have hc5 := of_decide_eq_true hc5
   obtain rfl := Option.some.inj h
   refine DN.round fun a ha => ?_
   exact ⟨k, _, Nat.lt_succ_self _, ⟨K13, v6 + 1, ((IntKind.u64.wrap ((IntKind.u64.wrap ((IntKind.u64.wrap (s1 * 1099511628211)) + (IntKind.u64.wrap x30))) + 3)) : Int), rfl, (S14.tr (S17.tr S22)).wk rfl, f23, by omega, by omega, hk16⟩, (ha.more (ha.more (ha.more ha.nil rfl) rfl) rfl)⟩
 rintro _ w8 ⟨K9, s3, rfl, S10, f11, rfl⟩
 have h := hK6
 dsimp only [aft] at h
 refine DN.seq ?_
 refine WC.seq ?_
 refine WC.rs [(0, 2), (1, 2)] rfl ?_
 refine WO.pn 2 rfl ?_
 refine WO.fin ?_
 refine DN.seq ?_
 refine WC.ret ?_
 have f24 := hE.stp (S3.tr S10) rfl rfl
 have f25 := g0.stp (S3.tr S10) rfl rfl
 refine DN.res (l := [.tmp 4]) Tryd.results27 (res_tmp rfl rfl) rfl ?_
 obtain rfl := Option.some.inj h
 exact ⟨(fun b => ren [(2, 3)] (K9 b)), a0, u0, b15, rfl, (f24.map (ren [(2, 3)]) rfl rfl), (f25.map (ren [(2, 3)]) rfl rfl), (f11.map (ren [(2, 3)]) rfl rfl)⟩

/- (*loop.example/g00869/laws.dice).below -/
theorem l_dice_below_ok {w : World} {κ : Col} {a0_0 : Option Addr} {u0_0 : Nat} {p0 : dice} {p1 : Int} {b0 : Nat} (g0_0 : Rd (Rp.int .u8) κ w 0 a0_0 u0_0 p0.b) (gb0 : Bc κ w 2 b0 93 [.slice a0_0 p0.b.length u0_0, .int .i64 p0.i, .int .u64 p0.h]) {r : Int × Int × Int} (h : l_dice_below p0 p1 = some r) : Ret Tryd.prog 28 [.pointer (some ⟨b0, 0, none⟩), .int .i64 p1] w (fun v w' => ∃ (κ' : Col), v = .int .i64 r.1 ∧ Ent κ w κ' w' ∧ Bc κ' w' 2 b0 93 [.slice a0_0 p0.b.length u0_0, .int .i64 r.2.1, .int .u64 r.2.2]) := by
 unfold l_dice_below at h
 refine Ret.enter Tryd.func28 rfl Tryd.ntmps28 rfl ?_
 dsimp only [envOf]
 have hE := Ent.refl κ w
 refine WC.seq ?_
 refine WC.rs [(0, 2)] rfl ?_
 refine WO.pn 1 rfl ?_
 refine WO.fin ?_
 refine DN.seq ?_
 refine WC.seq ?_
 refine WC.rs [(0, 2), (1, 2), (2, 2), (3, 2), (4, 1), (5, 2), (6, 2), (7, 2), (8, 2), (9, 1)] rfl ?_
 refine WO.pn 2 rfl ?_
 refine WO.k2 rfl rfl rfl rfl (rn_nilCheck rfl rfl) ?_
 refine WO.k2 rfl rfl rfl rfl (rn_fieldAddr Tryd.runUnderlying93 rfl Tryd.sizeOf54 rfl rfl) ?_
 refine WO.k1 trivial rfl rfl rfl rfl (rn_ld Tryd.isAgg54 rfl rfl (hvE (gb0.ld 2 rfl rfl))) ?_
 refine WO.pn 2 rfl ?_
 refine WO.k2 rfl rfl rfl rfl (rn_nilCheck rfl rfl) ?_
 refine WO.k2 rfl rfl rfl rfl (rn_fieldAddr Tryd.runUnderlying93 rfl Tryd.sizeOf54 rfl rfl) ?_
 refine WO.stB (κ := κ) 2 (off := 2) (vc := [.int .u64 (IntKind.u64.wrap ((IntKind.u64.wrap (p0.h * 6364136223846793005)) + 1442695040888963407))]) (cs' := [.slice a0_0 p0.b.length u0_0, .int .i64 p0.i, .int .u64 (IntKind.u64.wrap ((IntKind.u64.wrap (p0.h * 6364136223846793005)) + 1442695040888963407))]) rfl rfl rfl rfl rfl rfl rfl Tryd.sizeOf54 rfl rfl gb0 rfl rfl fun w1 S2 f3 => ⟨trivial, ?_⟩
 refine WO.fin ?_
 refine DN.seq ?_
 refine WC.seq ?_
 refine WC.rs [(0, 2), (1, 2), (2, 2), (3, 1), (4, 2), (5, 2), (6, 2), (7, 2)] rfl ?_
 refine WO.pn 1 rfl ?_
 refine WO.k2 rfl rfl rfl rfl (rn_nilCheck rfl rfl) ?_
 refine WO.k2 rfl rfl rfl rfl (rn_fieldAddr Tryd.runUnderlying93 rfl Tryd.sizeOf54 rfl rfl) ?_
 refine WO.k1 trivial rfl rfl rfl rfl (rn_ld Tryd.isAgg54 rfl rfl (hvE (f3.ld 2 rfl rfl))) ?_
 refine WO.k2 rfl rfl rfl rfl (rn_shr rfl rfl rfl (by decide)) ?_
 refine WO.pn 1 rfl ?_
 refine WO.k2 rfl rfl rfl rfl (rn_conv Tryd.runUnderlying54 Tryd.runUnderlying2 rfl rfl) ?_
 refine WO.pn 1 rfl ?_
 refine WO.fin ?_
 refine DN.seq ?_
 refine WC.seq ?_
 refine WC.seq ?_
 refine WC.rx (κ := κ) [2] none [(0, 2), (1, 2), (2, 2), (4, 2), (5, 2), (6, 2), (3, 0), (7, 0), (8, 2), (9, 2)] [] (by kernel_rfl) (by kernel_rfl) fun w5 S4 => ?_
 refine WO.pn 1 rfl ?_
 refine WO.k2 rfl rfl rfl rfl (rn_nilCheck rfl rfl) ?_
 refine WO.k2 rfl rfl rfl rfl (rn_fieldAddr Tryd.runUnderlying93 rfl Tryd.sizeOf3 rfl rfl) ?_
 refine WO.pn 1 rfl ?_
 refine WO.k2 rfl rfl rfl rfl (rn_nilCheck rfl rfl) ?_
 refine WO.k2 rfl rfl rfl rfl (rn_fieldAddr Tryd.runUnderlying93 rfl Tryd.sizeOf22 rfl rfl) ?_
 have f6 := f3.stp S4 rfl rfl
 refine WO.k0 rfl rfl rfl rfl (rn_ld Tryd.isAgg3 rfl rfl (hvC (f6.ld 1 rfl rfl) rfl)) ?_
 refine WO.k0 rfl rfl rfl rfl (rn_ld Tryd.isAgg22 rfl rfl (hvC (f6.ld 0 rfl rfl) rfl)) ?_
 refine WO.k2 rfl rfl rfl rfl (rn_len Tryd.runUnderlying22 rfl rfl) ?_
 refine WO.pn 1 rfl ?_
 refine WO.nx ?_
 refine WO.fin ?_
 refine DN.seq ?_
 obtain ⟨q1, h, hK7⟩ := Option.bind_eq_some_iff.mp h
 refine WC.meet (fun L w' => ∃ (κ' : Col), L = [(0, .pointer (some ⟨b0, 0, none⟩)), (1, .int .i64 p1), (5, .int .i64 q1.1)] ∧ Stp [2] κ w5 κ' w' ∧ Bc κ' w' 2 b0 93 [.slice a0_0 p0.b.length u0_0, .int .i64 q1.2, .int .u64 (IntKind.u64.wrap ((IntKind.u64.wrap (p0.h * 6364136223846793005)) + 1442695040888963407))]) ?_ ?_
 ·
  revert h
  cases ht12 : decide (p0.i < (p0.b.length : Int)) with
  | true =>
   intro h; replace h := cT h
   refine WC.ct rfl ?_
   refine WC.seq ?_
   refine WC.rx (κ := κ) [0, 2] none [(0, 2), (1, 2), (2, 2), (3, 2), (5, 2), (6, 2), (7, 2), (4, 0), (8, 0), (9, 2), (10, 0), (11, 2), (12, 2), (13, 2)] [] (by kernel_rfl) (by kernel_rfl) fun w14 S13 => ?_
   refine WO.pn 2 rfl ?_
   refine WO.k2 rfl rfl rfl rfl (rn_nilCheck rfl rfl) ?_
   refine WO.k2 rfl rfl rfl rfl (rn_fieldAddr Tryd.runUnderlying93 rfl Tryd.sizeOf22 rfl rfl) ?_
   refine WO.pn 1 rfl ?_
   refine WO.k2 rfl rfl rfl rfl (rn_nilCheck rfl rfl) ?_
   refine WO.k2 rfl rfl rfl rfl (rn_fieldAddr Tryd.runUnderlying93 rfl Tryd.sizeOf3 rfl rfl) ?_
   have f15 := f6.stp S13 rfl rfl
   refine WO.k0 rfl rfl rfl rfl (rn_ld Tryd.isAgg22 rfl rfl (hvC (f15.ld 0 rfl rfl) rfl)) ?_
   refine WO.k0 rfl rfl rfl rfl (rn_ld Tryd.isAgg3 rfl rfl (hvC (f15.ld 1 rfl rfl) rfl)) ?_
   obtain ⟨x41, hx41, h⟩ := Option.bind_eq_some_iff.mp h
   refine WO.k2 rfl rfl rfl rfl (rn_index g0_0 hx41 Tryd.runUnderlying22 Tryd.sizeOf5 rfl rfl rfl rfl) ?_
   have f16 := g0_0.stp (S2.tr (S4.tr S13)) rfl rfl
   refine WO.k0 rfl rfl rfl rfl (rn_ld Tryd.isAgg5 rfl rfl (hvC (f16.gInt hx41) rfl)) ?_
   refine WO.k2 rfl rfl rfl rfl (rn_conv Tryd.runUnderlying5 Tryd.runUnderlying2 rfl rfl) ?_
   refine WO.pn 2 rfl ?_
   refine WO.nx ?_
   refine WO.fin ?_
   refine DN.seq ?_
   refine WC.rs [(0, 2), (1, 2), (2, 2), (3, 2), (4, 1), (5, 2), (6, 2), (7, 2), (8, 1)] rfl ?_
   refine WO.pn 2 rfl ?_
   refine WO.k2 rfl rfl rfl rfl (rn_nilCheck rfl rfl) ?_
   refine WO.k2 rfl rfl rfl rfl (rn_fieldAddr Tryd.runUnderlying93 rfl Tryd.sizeOf3 rfl rfl) ?_
   refine WO.k1 trivial rfl rfl rfl rfl (rn_ld Tryd.isAgg3 rfl rfl (hvE (f15.ld 1 rfl rfl))) ?_
   refine WO.pn 1 rfl ?_
   refine WO.k2 rfl rfl rfl rfl (rn_nilCheck rfl rfl) ?_
   refine WO.k2 rfl rfl rfl rfl (rn_fieldAddr Tryd.runUnderlying93 rfl Tryd.sizeOf3 rfl rfl) ?_
   refine WO.stB (κ := κ) 2 (off := 1) (vc := [.int .i64 (IntKind.i64.wrap (p0.i + 1))]) (cs' := [.slice a0_0 p0.b.length u0_0, .int .i64 (IntKind.i64.wrap (p0.i + 1)), .int .u64 (IntKind.u64.wrap ((IntKind.u64.wrap (p0.h * 6364136223846793005)) + 1442695040888963407))]) rfl rfl rfl rfl rfl rfl rfl Tryd.sizeOf3 rfl rfl f15 rfl rfl fun w17 S18 f19 => ⟨trivial, ?_⟩
   refine WO.fin ?_
   obtain rfl := Option.some.inj h
   exact DN.meet _ ⟨κ, rfl, (S13.tr S18).wk rfl, f19⟩ fun a ha => (ha.more (ha.more (ha.more ha.nil rfl) rfl) rfl)
  | false =>
   intro h; replace h := cF h
   refine WC.cf rfl ?_
   refine WC.skip ?_
   obtain rfl := Option.some.inj h
   exact DN.meet _ ⟨κ, rfl, (Stp.refl _ _).wk rfl, f6⟩ fun a ha => (ha.more (ha.more (ha.more ha.nil rfl) rfl) rfl)
 rintro _ w8 ⟨K9, rfl, S10, f11⟩
 have h := hK7
 refine DN.seq ?_
 refine WC.seq ?_
 refine WC.rs [(0, 2), (1, 2), (2, 2), (3, 2)] rfl ?_
 refine WO.pn 2 rfl ?_
 obtain ⟨_z55, hz55, h⟩ := Option.bind_eq_some_iff.mp h
 refine WO.k2 rfl rfl rfl rfl (rn_rem rfl rfl rfl (nz_ok hz55)) ?_
 refine WO.pn 1 rfl ?_
 refine WO.fin ?_
 refine DN.seq ?_
 refine WC.ret ?_
 have f20 := hE.stp (S2.tr (S4.tr S10)) rfl rfl
 refine DN.res (l := [.tmp 4]) Tryd.results28 (res_tmp rfl rfl) rfl ?_
 obtain rfl := Option.some.inj h
 exact ⟨K9, rfl, f20, f11⟩

/- loop.example/g00869/impl.isSig -/
theorem i_isSig_ok {w : World} {κ : Col} {p0 : Sig}  {r : Bool} (h : i_isSig p0 = some r) : Ret Tryd.prog 47 [.agg #[.int .i64 p0.In, .int .i64 p0.Out]] w (fun v w' => ∃ (κ' : Col), v = .bool r ∧ Ent κ w κ' w') := by
 unfold i_isSig at h
 refine Ret.enter Tryd.func47 rfl Tryd.ntmps47 rfl ?_
 dsimp only [envOf]
 have hE := Ent.refl κ w
 refine WC.seq ?_
 refine WC.rs [(0, 1), (1, 2)] rfl ?_
 refine WO.box (κ := κ) 2 rfl rfl rfl rfl rfl rfl rfl fun b1 w1 K2 S3 f4 => ⟨trivial, ?_⟩
 refine WO.pn 1 rfl ?_
 refine WO.fin ?_
 refine DN.seq ?_
 refine WC.seq ?_
 refine WC.rs [(0, 2), (1, 1), (2, 2), (3, 2), (4, 2), (5, 1), (6, 2), (7, 2), (8, 2), (9, 2), (10, 1), (11, 2), (12, 2), (13, 2), (14, 2), (15, 1), (16, 2), (17, 2), (18, 2)] rfl ?_
 refine WO.k2 rfl rfl rfl rfl (rn_fieldAddr Tryd.runUnderlying40 rfl Tryd.sizeOf2 rfl rfl) ?_
 refine WO.k1 trivial rfl rfl rfl rfl (rn_ld Tryd.isAgg2 rfl rfl (hvE (f4.ld 0 rfl rfl))) ?_
 refine WO.pn 2 rfl ?_
 obtain ⟨p10, h, hK5⟩ := Option.bind_eq_some_iff.mp h
 refine WO.meet [(4, 2), (5, 1), (6, 2), (7, 2)] [(8, 2), (9, 2), (10, 1), (11, 2), (12, 2), (13, 2), (14, 2), (15, 1), (16, 2), (17, 2), (18, 2)] (fun L w' => L = [(1, .pointer (some ⟨b1, 0, none⟩)), (2, .bool false), (10, .bool p10)] ∧ ∃ κ', Stp [] K2 w1 κ' w') trivial ?_ ?_
 ·
  revert h
  cases ht6 : decide (1 ≤ p0.In) with
  | true =>
   intro h; replace h := cT h
   refine WO.k2 rfl rfl rfl rfl (rn_fieldAddr Tryd.runUnderlying40 rfl Tryd.sizeOf2 rfl rfl) ?_
   refine WO.k1 trivial rfl rfl rfl rfl (rn_ld Tryd.isAgg2 rfl rfl (hvE (f4.ld 0 rfl rfl))) ?_
   refine WO.pn 2 rfl ?_
   obtain rfl := Option.some.inj h
   exact WO.met _ trivial ⟨rfl, _, (Stp.refl _ _).wk rfl⟩ fun a ha => (ha.more (ha.more (ha.more ha.nil rfl) rfl) rfl)
  | false =>
   intro h; replace h := cF h
   refine WO.pn 1 rfl ?_
   refine WO.ls rfl rfl rfl rfl ?_
   refine WO.pn 2 rfl ?_
   obtain rfl := Option.some.inj h
   exact WO.met _ trivial ⟨rfl, _, (Stp.refl _ _).wk rfl⟩ fun a ha => (ha.more (ha.more (ha.more ha.nil rfl) rfl) rfl)
 rintro _ w7 _ ⟨rfl, K8, S9⟩
 have h := hK5
 refine WO.pn 1 rfl ?_
 obtain ⟨p15, h, hK10⟩ := Option.bind_eq_some_iff.mp h
 refine WO.meet [(9, 2), (10, 1), (11, 2), (12, 2)] [(13, 2), (14, 2), (15, 1), (16, 2), (17, 2), (18, 2)] (fun L w' => L = [(1, .pointer (some ⟨b1, 0, none⟩)), (2, .bool false), (15, .bool p15)] ∧ ∃ κ', Stp [] K8 w7 κ' w') trivial ?_ ?_
 ·
  revert h
  cases ht11 : p10 with
  | true =>
   intro h; replace h := cT h
   refine WO.k2 rfl rfl rfl rfl (rn_fieldAddr Tryd.runUnderlying40 rfl Tryd.sizeOf2 rfl rfl) ?_
   have f12 := f4.stp S9 rfl rfl
   refine WO.k1 trivial rfl rfl rfl rfl (rn_ld Tryd.isAgg2 rfl rfl (hvE (f12.ld 1 rfl rfl))) ?_
   refine WO.pn 2 rfl ?_
   obtain rfl := Option.some.inj h
   exact WO.met _ trivial ⟨rfl, _, (Stp.refl _ _).wk rfl⟩ fun a ha => (ha.more (ha.more (ha.more ha.nil rfl) rfl) rfl)
  | false =>
   intro h; replace h := cF h
   refine WO.pn 1 rfl ?_
   refine WO.ls rfl rfl rfl rfl ?_
   refine WO.pn 2 rfl ?_
   obtain rfl := Option.some.inj h
   exact WO.met _ trivial ⟨rfl, _, (Stp.refl _ _).wk rfl⟩ fun a ha => (ha.more (ha.more (ha.more ha.nil rfl) rfl) rfl)
 rintro _ w13 _ ⟨rfl, K14, S15⟩
 have h := hK10
 refine WO.pn 1 rfl ?_
 obtain ⟨p20, h, hK16⟩ := Option.bind_eq_some_iff.mp h
 refine WO.meet [(14, 2), (15, 1), (16, 2), (17, 2)] [(18, 2)] (fun L w' => L = [(2, .bool false), (20, .bool p20)] ∧ ∃ κ', Stp [] K14 w13 κ' w') trivial ?_ ?_
 ·
  revert h
  cases ht17 : p15 with
  | true =>
   intro h; replace h := cT h
   refine WO.k2 rfl rfl rfl rfl (rn_fieldAddr Tryd.runUnderlying40 rfl Tryd.sizeOf2 rfl rfl) ?_
   have f18 := f4.stp (S9.tr S15) rfl rfl
   refine WO.k1 trivial rfl rfl rfl rfl (rn_ld Tryd.isAgg2 rfl rfl (hvE (f18.ld 1 rfl rfl))) ?_
   refine WO.pn 2 rfl ?_
   obtain rfl := Option.some.inj h
   exact WO.met _ trivial ⟨rfl, _, (Stp.refl _ _).wk rfl⟩ fun a ha => (ha.more (ha.more ha.nil rfl) rfl)
  | false =>
   intro h; replace h := cF h
   refine WO.pn 1 rfl ?_
   refine WO.ls rfl rfl rfl rfl ?_
   refine WO.pn 2 rfl ?_
   obtain rfl := Option.some.inj h
   exact WO.met _ trivial ⟨rfl, _, (Stp.refl _ _).wk rfl⟩ fun a ha => (ha.more (ha.more ha.nil rfl) rfl)
 rintro _ w19 _ ⟨rfl, K20, S21⟩
 have h := hK16
 refine WO.pn 1 rfl ?_
 refine WO.fin ?_
 refine DN.seq ?_
 refine WC.ret ?_
 have f22 := hE.stp (S3.tr (S9.tr (S15.tr S21))) rfl rfl
 refine DN.res (l := [.tmp 2]) Tryd.results47 (res_tmp rfl rfl) rfl ?_
 obtain rfl := Option.some.inj h
 exact ⟨K20, rfl, f22⟩

/- loop.example/g00869/impl.inputsOf -/
theorem i_inputsOf_ok {w : World} {κ : Col} {p0 : Sig}  {r : Int} (h : i_inputsOf p0 = some r) : Ret Tryd.prog 70 [.agg #[.int .i64 p0.In, .int .i64 p0.Out]] w (fun v w' => ∃ (κ' : Col), v = .int .i64 r ∧ Ent κ w κ' w') := by
 unfold i_inputsOf at h
 refine Ret.enter Tryd.func70 rfl Tryd.ntmps70 rfl ?_
 dsimp only [envOf]
 have hE := Ent.refl κ w
 refine WC.seq ?_
 refine WC.rs [(0, 1), (1, 2)] rfl ?_
 refine WO.box (κ := κ) 2 rfl rfl rfl rfl rfl rfl rfl fun b1 w1 K2 S3 f4 => ⟨trivial, ?_⟩
 refine WO.pn 1 rfl ?_
 refine WO.fin ?_
 refine DN.seq ?_
 refine WC.seq ?_
 refine WC.rs [(0, 2), (1, 1), (2, 2), (3, 2)] rfl ?_
 refine WO.k2 rfl rfl rfl rfl (rn_fieldAddr Tryd.runUnderlying40 rfl Tryd.sizeOf2 rfl rfl) ?_
 refine WO.k1 trivial rfl rfl rfl rfl (rn_ld Tryd.isAgg2 rfl rfl (hvE (f4.ld 0 rfl rfl))) ?_
 obtain ⟨_z5, hz5, h⟩ := Option.bind_eq_some_iff.mp h
 refine WO.k2 rfl rfl rfl rfl (rn_shl rfl rfl rfl (nn_ok hz5)) ?_
 refine WO.pn 1 rfl ?_
 refine WO.fin ?_
 refine DN.seq ?_
 refine WC.ret ?_
 have f5 := hE.stp S3 rfl rfl
 refine DN.res (l := [.tmp 2]) Tryd.results70 (res_tmp rfl rfl) rfl ?_
 obtain rfl := Option.some.inj h
 exact ⟨K2, rfl, f5⟩

/- loop.example/g00869/impl.areLetters$1 -/
theorem i_areLetters_1_ok {w : World} {κ : Col} {p0 : Int} {c0 : Int} {b1 : Nat} (gb1 : Bc κ w 0 b1 2 [.int .i64 c0]) {r : Bool} (h : i_areLetters_1 p0 c0 = some r) : Ret Tryd.prog 88 [.int .i64 p0, .pointer (some ⟨b1, 0, none⟩)] w (fun v w' => ∃ (κ' : Col), v = .bool r ∧ Ent κ w κ' w') := by
 unfold i_areLetters_1 at h
 refine Ret.enter Tryd.func88 rfl Tryd.ntmps88 rfl ?_
 dsimp only [envOf]
 have hE := Ent.refl κ w
 refine WC.seq ?_
 refine WC.rs [(0, 2)] rfl ?_
 refine WO.pn 1 rfl ?_
 refine WO.fin ?_
 refine DN.seq ?_
 refine WC.seq ?_
 refine WC.rs [(0, 2), (1, 2), (2, 2), (3, 2), (4, 1), (5, 2), (6, 2), (7, 2)] rfl ?_
 refine WO.pn 3 rfl ?_
 obtain ⟨p10, h, hK1⟩ := Option.bind_eq_some_iff.mp h
 refine WO.meet [(3, 2), (4, 1), (5, 2), (6, 2)] [(7, 2)] (fun L w' => L = [(1, .pointer (some ⟨b1, 0, none⟩)), (3, .bool false), (10, .bool p10)] ∧ ∃ κ', Stp [] κ w κ' w') trivial ?_ ?_
 ·
  revert h
  cases ht2 : decide (p0 < 0) with
  | true =>
   intro h; replace h := cT h
   refine WO.pn 1 rfl ?_
   refine WO.ls rfl rfl rfl rfl ?_
   refine WO.pn 2 rfl ?_
   obtain rfl := Option.some.inj h
   exact WO.met _ trivial ⟨rfl, _, (Stp.refl _ _).wk rfl⟩ fun a ha => (ha.more (ha.more (ha.more ha.nil rfl) rfl) rfl)
  | false =>
   intro h; replace h := cF h
   refine WO.pn 1 rfl ?_
   refine WO.k1 trivial rfl rfl rfl rfl (rn_ld Tryd.isAgg2 rfl rfl (hvE (gb1.ld 0 rfl rfl))) ?_
   refine WO.pn 2 rfl ?_
   obtain rfl := Option.some.inj h
   exact WO.met _ trivial ⟨rfl, _, (Stp.refl _ _).wk rfl⟩ fun a ha => (ha.more (ha.more (ha.more ha.nil rfl) rfl) rfl)
 rintro _ w3 _ ⟨rfl, K4, S5⟩
 have h := hK1
 refine WO.pn 1 rfl ?_
 refine WO.fin ?_
 refine DN.seq ?_
 refine WC.ret ?_
 have f6 := hE.stp S5 rfl rfl
 refine DN.res (l := [.tmp 3]) Tryd.results88 (res_tmp rfl rfl) rfl ?_
 obtain rfl := Option.some.inj h
 exact ⟨K4, rfl, f6⟩

/- strconv.FormatInt -/
theorem strconv_FormatInt_ok {w : World} {κ : Col} {p0 p1 : Int} (gGT : Tb Tryd.prog "internal/strconv.uint64pow10" .u64 Lib.pow10Tab κ w) {r : ByteArray} (h : strconv_FormatInt p0 p1 = some r) : Ret Tryd.prog 62 [.int .i64 p0, .int .i64 p1] w (fun v w' => ∃ (κ' : Col), v = .string r ∧ Ent κ w κ' w') := fmt_ok Tryd.strconv_FormatInt_10 gGT h


/- strings.Join -/
theorem strings_Join_ok {w : World} {κ : Col} {p0 : (List ByteArray)} {p1 : ByteArray} {a0 : Option Addr} {u0 : Nat} (g0 : Rd Rp.str κ w 0 a0 u0 p0) {r : ByteArray} (h : strings_Join p0 p1 = some r) : Ret Tryd.prog 49 [.slice a0 p0.length u0, .string p1] w (fun v w' => ∃ (κ' : Col), v = .string r ∧ Ent κ w κ' w') := join_ok Tryd.strings_Join_none Tryd.strings_Join g0 h


/- strings.Split -/
theorem strings_Split_ok {w : World} {κ : Col} {p0 p1 : ByteArray} (gGM : Vm 1 κ w) {r : (List ByteArray)} (h : strings_Split p0 p1 = some r) : Ret Tryd.prog 40 [.string p0, .string p1] w (fun v w' => ∃ (κ' : Col) (ra0 : Option Addr) (ru0 : Nat), v = .slice ra0 r.length ru0 ∧ Ent κ w κ' w' ∧ Oc Ep.str 9 κ' w' 2 ra0 ru0 r) := split_ok Tryd.strings_Split gGM h


/- strings.Cut -/
theorem strings_Cut_ok {w : World} {κ : Col} {p0 p1 : ByteArray} (gGM : Vm 1 κ w) {r : ByteArray × ByteArray × Bool} (h : strings_Cut p0 p1 = some r) : Ret Tryd.prog 56 [.string p0, .string p1] w (fun v w' => ∃ (κ' : Col), v = .tuple #[.string r.1, .string r.2.1, .bool r.2.2] ∧ Ent κ w κ' w') := cut_ok Tryd.strings_Cut gGM h


/- loop.example/g00869/impl.readNumber -/
theorem i_readNumber_ok {w : World} {κ : Col} {p0 : ByteArray} {p1 : Int}  {r : Int × Bool} (h : i_readNumber p0 p1 = some r) : Ret Tryd.prog 42 [.string p0, .int .i64 p1] w (fun v w' => ∃ (κ' : Col), v = .tuple #[.int .i64 r.1, .bool r.2] ∧ Ent κ w κ' w') := by
 unfold i_readNumber at h
 refine Ret.enter Tryd.func42 rfl Tryd.ntmps42 rfl ?_
 dsimp only [envOf]
 have hE := Ent.refl κ w
 refine WC.seq ?_
 refine WC.rs [(0, 2), (1, 2)] rfl ?_
 refine WO.pn 2 rfl ?_
 refine WO.fin ?_
 refine DN.seq ?_
 refine WC.seq ?_
 refine WC.seq ?_
 refine WC.rs [(0, 2), (1, 2), (2, 2), (3, 2), (4, 2), (5, 2), (6, 2), (7, 2), (8, 2), (9, 2), (10, 2), (11, 2), (12, 2), (13, 2), (14, 2), (15, 2), (16, 2)] rfl ?_
 refine WO.pn 1 rfl ?_
 refine WO.k2 rfl rfl rfl rfl (rn_eqlSt rfl rfl rfl) ?_
 refine WO.pn 1 rfl ?_
 obtain ⟨p14, h, hK1⟩ := Option.bind_eq_some_iff.mp h
 refine WO.meet [(3, 2), (4, 2), (5, 2), (6, 2)] [(7, 2), (8, 2), (9, 2), (10, 2), (11, 2), (12, 2), (13, 2), (14, 2), (15, 2), (16, 2)] (fun L w' => L = [(0, .string p0), (1, .int .i64 p1), (14, .bool p14)] ∧ ∃ κ', Stp [] κ w κ' w') trivial ?_ ?_
 ·
  revert h
  cases ht2 : (eqB p0 (ByteArray.mk #[])) with
  | true =>
   intro h; replace h := cT h
   refine WO.pn 4 rfl ?_
   obtain rfl := Option.some.inj h
   exact WO.met _ trivial ⟨rfl, _, (Stp.refl _ _).wk rfl⟩ fun a ha => (ha.more (ha.more (ha.more ha.nil rfl) rfl) rfl)
  | false =>
   intro h; replace h := cF h
   refine WO.pn 1 rfl ?_
   refine WO.k2 rfl rfl rfl rfl (rn_lenS Tryd.runUnderlying9 rfl rfl) ?_
   refine WO.pn 2 rfl ?_
   obtain rfl := Option.some.inj h
   exact WO.met _ trivial ⟨rfl, _, (Stp.refl _ _).wk rfl⟩ fun a ha => (ha.more (ha.more (ha.more ha.nil rfl) rfl) rfl)
 rintro _ w3 _ ⟨rfl, K4, S5⟩
 have h := hK1
 refine WO.pn 1 rfl ?_
 obtain ⟨p24, h, hK6⟩ := Option.bind_eq_some_iff.mp h
 refine WO.meet [(8, 2), (9, 2), (10, 2), (11, 2), (12, 2), (13, 2), (14, 2), (15, 2), (16, 2)] [] (fun L w' => L = [(0, .string p0), (1, .int .i64 p1), (24, .bool p24)] ∧ ∃ κ', Stp [] K4 w3 κ' w') trivial ?_ ?_
 ·
  revert h
  cases ht7 : p14 with
  | true =>
   intro h; replace h := cT h
   refine WO.pn 9 rfl ?_
   obtain rfl := Option.some.inj h
   exact WO.met _ trivial ⟨rfl, _, (Stp.refl _ _).wk rfl⟩ fun a ha => (ha.more (ha.more (ha.more ha.nil rfl) rfl) rfl)
  | false =>
   intro h; replace h := cF h
   refine WO.pn 1 rfl ?_
   obtain ⟨x17, hx17, h⟩ := Option.bind_eq_some_iff.mp h
   refine WO.k2 rfl rfl rfl rfl (rn_indexSt Tryd.runUnderlying9 hx17 rfl rfl rfl) ?_
   refine WO.pn 2 rfl ?_
   obtain ⟨p23, h, hK8⟩ := Option.bind_eq_some_iff.mp h
   refine WO.meet [(12, 2), (13, 2), (14, 2), (15, 2)] [(16, 2)] (fun L w' => L = [(0, .string p0), (1, .int .i64 p1), (15, .bool false), (23, .bool p23)] ∧ ∃ κ', Stp [] K4 w3 κ' w') trivial ?_ ?_
   ·
    revert h
    cases ht9 : (x17 == 48) with
    | true =>
     intro h; replace h := cT h
     refine WO.pn 1 rfl ?_
     refine WO.k2 rfl rfl rfl rfl (rn_lenS Tryd.runUnderlying9 rfl rfl) ?_
     refine WO.pn 2 rfl ?_
     obtain rfl := Option.some.inj h
     exact WO.met _ trivial ⟨rfl, _, (Stp.refl _ _).wk rfl⟩ fun a ha => (ha.more (ha.more (ha.more (ha.more ha.nil rfl) rfl) rfl) rfl)
    | false =>
     intro h; replace h := cF h
     refine WO.pn 4 rfl ?_
     obtain rfl := Option.some.inj h
     exact WO.met _ trivial ⟨rfl, _, (Stp.refl _ _).wk rfl⟩ fun a ha => (ha.more (ha.more (ha.more (ha.more ha.nil rfl) rfl) rfl) rfl)
   rintro _ w10 _ ⟨rfl, K11, S12⟩
   have h := hK8
   refine WO.pn 1 rfl ?_
   obtain rfl := Option.some.inj h
   exact WO.met _ trivial ⟨rfl, _, S12.wk rfl⟩ fun a ha => (ha.more (ha.more (ha.more ha.nil rfl) rfl) rfl)
 rintro _ w13 _ ⟨rfl, K14, S15⟩
 have h := hK6
 refine WO.fin ?_
 refine DN.seq ?_
 revert h
 cases ht16 : p24 with
 | true =>
  intro h; replace h := cT h
  refine WC.ct rfl ?_
  refine WC.seq ?_
  refine WC.rs [(0, 2), (1, 2)] rfl ?_
  refine WO.pn 2 rfl ?_
  refine WO.fin ?_
  refine DN.seq ?_
  refine WC.ret ?_
  refine DN.retThen ?_
  have f17 := hE.stp (S5.tr S15) rfl rfl
  refine DN.res (l := [.tmp 4, .tmp 5]) Tryd.results42 (res_tmp rfl (res_tmp rfl rfl)) rfl ?_
  obtain rfl := Option.some.inj h
  exact ⟨K14, rfl, f17⟩
 | false =>
  intro h; replace h := cF h
  refine WC.cf rfl ?_
  refine WC.skip ?_
  refine DN.seq ?_
  refine WC.seq ?_
  refine WC.rs [(0, 2)] rfl ?_
  refine WO.pn 1 rfl ?_
  refine WO.fin ?_
  refine DN.seq ?_
  refine WC.seq ?_
  refine WC.seq ?_
  refine WC.rs [(0, 2)] rfl ?_
  refine WO.pn 1 rfl ?_
  refine WO.fin ?_
  refine DN.seq ?_
  obtain ⟨_, hr18, h⟩ := Option.bind_eq_some_iff.mp h
  have hN18 := rng_ok hr18
  obtain ⟨q2, hq20, hK19⟩ := Option.bind_eq_some_iff.mp h
  clear h
  refine WC.meet (fun L w' => ∃ (κ' : Col) (s3 : Int), L = [(1, .int .i64 p1), (6, .int .i64 s3)] ∧ Stp [] K14 w13 κ' w' ∧ q2 = Sum.inr s3) ?_ ?_
  ·
   refine WC.block ?_
   refine WC.loop (fun k L w' => ∃ (κ' : Col) (v7 : Int) (s1 : Int), L = [(0, .string p0), (1, .int .i64 p1), (6, .int .i64 s1), (7, .int .i64 v7)] ∧ Stp [] K14 w13 κ' w' ∧ 0 ≤ v7 ∧ Int.toNat ((p0.size : Int) - v7) = k ∧ cntM (i_readNumber_b0 p0) k v7 s1 = some q2) ⟨_, _, ⟨K14, 0, (0 : Int), rfl, (Stp.refl _ _).wk rfl, (by decide), (by simp), hq20⟩, fun a ha => (ha.more (ha.more (ha.more (ha.more ha.nil rfl) rfl) rfl) rfl)⟩ ?_
   rintro k _ w24 ⟨K25, v7, s1, rfl, S26, hj18, hJ18, h⟩
   rcases k with _ | k
   ·
    have hk27 := h; obtain ⟨o18, h⟩ := ex_eq (Sum.inr (Sum.inl s1) : (Int × Bool) ⊕ ((Int) ⊕ (Int)))
    have hc18 : decide (v7 < (p0.size : Int)) = false := decide_eq_false (by omega)
    refine WC.seq ?_
    refine WC.seq ?_
    refine WC.rs [(0, 2), (1, 2), (2, 2), (3, 2)] rfl ?_
    refine WO.pn 2 rfl ?_
    refine WO.k2 rfl rfl rfl rfl (rn_lenS Tryd.runUnderlying9 rfl rfl) ?_
    refine WO.pn 1 rfl ?_
    refine WO.fin ?_
    refine DN.seq ?_
    refine WC.cf' rfl hc18 ?_
    refine WC.exit ?_
    refine DN.exitThen ?_
    refine DN.exitThen ?_
    obtain rfl := Option.some.inj h
    have h := hk27
    refine DN.hit ?_
    obtain rfl := Option.some.inj h
    exact DN.meet _ ⟨K25, (s1 : Int), rfl, S26.wk rfl, rfl⟩ fun a ha => (ha.more (ha.more ha.nil rfl) rfl)
   ·
    obtain ⟨o18, h, hk27⟩ := Option.bind_eq_some_iff.mp h; unfold i_readNumber_b0 at h
    have hc18 : decide (v7 < (p0.size : Int)) = true := decide_eq_true (by omega)
    refine WC.seq ?_
    refine WC.seq ?_
    refine WC.rs [(0, 2), (1, 2), (2, 2), (3, 2)] rfl ?_
    refine WO.pn 2 rfl ?_
    refine WO.k2 rfl rfl rfl rfl (rn_lenS Tryd.runUnderlying9 rfl rfl) ?_
    refine WO.pn 1 rfl ?_
    refine WO.fin ?_
    refine DN.seq ?_
    refine WC.ct' rfl hc18 ?_
    refine WC.skip ?_
    refine DN.seq ?_
    refine WC.seq ?_
    refine WC.block ?_
    refine WC.seq ?_
    refine WC.seq ?_
    refine WC.rs [(0, 2), (1, 2), (2, 2), (3, 2), (4, 2), (5, 2), (6, 2), (7, 2), (8, 2), (9, 2)] rfl ?_
    refine WO.pn 2 rfl ?_
    obtain ⟨x33, hx33, h⟩ := Option.bind_eq_some_iff.mp h
    refine WO.k2 rfl rfl rfl rfl (rn_indexSt Tryd.runUnderlying9 hx33 rfl rfl rfl) ?_
    refine WO.pn 2 rfl ?_
    obtain ⟨p40, h, hK28⟩ := Option.bind_eq_some_iff.mp h
    refine WO.meet [(5, 2), (6, 2), (7, 2), (8, 2), (9, 2)] [] (fun L w' => L = [(0, .string p0), (1, .int .i64 p1), (6, .int .i64 s1), (7, .int .i64 v7), (40, .bool p40)] ∧ ∃ κ', Stp [] K25 w24 κ' w') trivial ?_ ?_
    ·
     revert h
     cases ht29 : decide (x33 < 48) with
     | true =>
      intro h; replace h := cT h
      refine WO.pn 5 rfl ?_
      obtain rfl := Option.some.inj h
      exact WO.met _ trivial ⟨rfl, _, (Stp.refl _ _).wk rfl⟩ fun a ha => (ha.more (ha.more (ha.more (ha.more (ha.more ha.nil rfl) rfl) rfl) rfl) rfl)
     | false =>
      intro h; replace h := cF h
      refine WO.pn 2 rfl ?_
      obtain ⟨x38, hx38, h⟩ := Option.bind_eq_some_iff.mp h
      refine WO.k2 rfl rfl rfl rfl (rn_indexSt Tryd.runUnderlying9 hx38 rfl rfl rfl) ?_
      refine WO.pn 2 rfl ?_
      obtain rfl := Option.some.inj h
      exact WO.met _ trivial ⟨rfl, _, (Stp.refl _ _).wk rfl⟩ fun a ha => (ha.more (ha.more (ha.more (ha.more (ha.more ha.nil rfl) rfl) rfl) rfl) rfl)
    rintro _ w30 _ ⟨rfl, K31, S32⟩
    have h := hK28
    refine WO.fin ?_
    refine DN.seq ?_
    revert h
    cases ht33 : p40 with
    | true =>
     intro h; replace h := cT h
     refine WC.ct rfl ?_
     refine WC.seq ?_
     refine WC.rs [(0, 2), (1, 2)] rfl ?_
     refine WO.pn 2 rfl ?_
     refine WO.fin ?_
     refine DN.seq ?_
     refine WC.ret ?_
     refine DN.retThen ?_
     refine DN.retBlock ?_
     refine DN.retThen ?_
     refine DN.retThen ?_
     obtain rfl := Option.some.inj h
     obtain rfl := Option.some.inj hk27
     have h := hK19
     dsimp only [aft] at h
     refine DN.retBlock ?_
     refine DN.retMeet ?_
     refine DN.retThen ?_
     have f34 := hE.stp (S5.tr (S15.tr (S26.tr S32))) rfl rfl
     refine DN.res (l := [.tmp 4, .tmp 5]) Tryd.results42 (res_tmp rfl (res_tmp rfl rfl)) rfl ?_
     obtain rfl := Option.some.inj h
     exact ⟨K31, rfl, f34⟩
    | false =>
     intro h; replace h := cF h
     refine WC.cf rfl ?_
     refine WC.skip ?_
     refine DN.seq ?_
     refine WC.rs [(0, 2), (1, 2), (2, 2), (3, 2), (4, 2), (5, 2), (6, 2), (7, 2), (8, 2)] rfl ?_
     refine WO.pn 4 rfl ?_
     obtain ⟨x45, hx45, h⟩ := Option.bind_eq_some_iff.mp h
     refine WO.k2 rfl rfl rfl rfl (rn_indexSt Tryd.runUnderlying9 hx45 rfl rfl rfl) ?_
     refine WO.pn 1 rfl ?_
     refine WO.k2 rfl rfl rfl rfl (rn_conv Tryd.runUnderlying5 Tryd.runUnderlying2 rfl rfl) ?_
     refine WO.pn 2 rfl ?_
     refine WO.fin ?_
     refine DN.block ?_
     refine DN.seq ?_
     refine WC.rs [(0, 2), (1, 2), (2, 2)] rfl ?_
     refine WO.pn 3 rfl ?_
     refine WO.fin ?_
     have hw18 : IntKind.wrap .i64 (v7 + 1) = v7 + 1 := wr1 hj18 (of_decide_eq_true hc18) hN18
     rw [hw18]
     have hc18 := of_decide_eq_true hc18
     obtain rfl := Option.some.inj h
     refine DN.round fun a ha => ?_
     exact ⟨k, _, Nat.lt_succ_self _, ⟨K31, v7 + 1, ((IntKind.i64.wrap ((IntKind.i64.wrap (10 * s1)) + (IntKind.i64.wrap (IntKind.u8.wrap (x45 - 48))))) : Int), rfl, (S26.tr S32).wk rfl, by omega, by omega, hk27⟩, (ha.more (ha.more (ha.more (ha.more ha.nil rfl) rfl) rfl) rfl)⟩
  rintro _ w21 ⟨K22, s3, rfl, S23, rfl⟩
  have h := hK19
  dsimp only [aft] at h
  refine DN.seq ?_
  refine WC.seq ?_
  refine WC.rs [(0, 2), (1, 2), (2, 2), (3, 2), (4, 2), (5, 2)] rfl ?_
  refine WO.pn 6 rfl ?_
  refine WO.fin ?_
  refine DN.seq ?_
  refine WC.ret ?_
  have f35 := hE.stp (S5.tr (S15.tr S23)) rfl rfl
  refine DN.res (l := [.tmp 4, .tmp 5]) Tryd.results42 (res_tmp rfl (res_tmp rfl rfl)) rfl ?_
  obtain rfl := Option.some.inj h
  exact ⟨K22, rfl, f35⟩

/- loop.example/g00869/laws.lines -/
theorem l_lines_ok {w : World} {κ : Col} {p0 : ByteArray}  {r : (List ByteArray)} (h : l_lines p0 = some r) : Ret Tryd.prog 30 [.string p0] w (fun v w' => ∃ (κ' : Col) (ra0 : Option Addr) (ru0 : Nat), v = .slice ra0 r.length ru0 ∧ Ent κ w κ' w' ∧ Oc Ep.str 9 κ' w' 2 ra0 ru0 r) := by
 unfold l_lines at h
 refine Ret.enter Tryd.func30 rfl Tryd.ntmps30 rfl ?_
 dsimp only [envOf]
 have hE := Ent.refl κ w
 refine WC.seq ?_
 refine WC.rs [(0, 2)] rfl ?_
 refine WO.pn 1 rfl ?_
 refine WO.fin ?_
 refine DN.seq ?_
 refine WC.seq ?_
 refine WC.rs [(0, 1), (1, 2)] rfl ?_
 refine WO.bl0 (κ := κ) (E := Ep.str) 2 rfl rfl rfl rfl rfl Tryd.underlying57 Trydinfo9 rfl fun a6 u6 w1 K2 S3 f4 => ⟨trivial, ?_⟩
 refine WO.pn 1 rfl ?_
 refine WO.fin ?_
 refine DN.seq ?_
 refine WC.seq ?_
 refine WC.rs [(0, 2)] rfl ?_
 refine WO.pn 1 rfl ?_
 refine WO.fin ?_
 refine DN.seq ?_
 refine WC.seq ?_
 refine WC.seq ?_
 refine WC.rs [(0, 2)] rfl ?_
 refine WO.pn 1 rfl ?_
 refine WO.fin ?_
 refine DN.seq ?_
 obtain ⟨_, hr5, h⟩ := Option.bind_eq_some_iff.mp h
 have hN5 := rng_ok hr5
 obtain ⟨q2, hq7, hK6⟩ := Option.bind_eq_some_iff.mp h
 clear h
 refine WC.meet (fun L w' => ∃ (κ' : Col) (s3 : (List ByteArray) × Int) (las3_0 : Option Addr) (lus3_0 : Nat), L = [(3, .slice las3_0 s3.1.length lus3_0)] ∧ Stp [2] K2 w1 κ' w' ∧ Oc Ep.str 9 κ' w' 2 las3_0 lus3_0 s3.1 ∧ q2 = Sum.inr s3) ?_ ?_
 ·
  refine WC.block ?_
  refine WC.loop (fun k L w' => ∃ (κ' : Col) (v5 : Int) (s1 : (List ByteArray) × Int) (las1_0 : Option Addr) (lus1_0 : Nat), L = [(0, .string p0), (3, .slice las1_0 s1.1.length lus1_0), (4, .int .i64 s1.2), (5, .int .i64 v5)] ∧ Stp [2] K2 w1 κ' w' ∧ Oc Ep.str 9 κ' w' 2 las1_0 lus1_0 s1.1 ∧ 0 ≤ v5 ∧ Int.toNat ((p0.size : Int) - v5) = k ∧ cntM (l_lines_b0 p0) k v5 s1 = some q2) ⟨_, _, ⟨K2, 0, ((([] : List ByteArray) : (List ByteArray)), (0 : Int)), a6, u6, rfl, (Stp.refl _ _).wk rfl, f4, (by decide), (by simp), hq7⟩, fun a ha => (ha.more (ha.more (ha.more (ha.more ha.nil rfl) rfl) rfl) rfl)⟩ ?_
  rintro k _ w12 ⟨K13, v5, s1, las1_0, lus1_0, rfl, S14, f15, hj5, hJ5, h⟩
  rcases k with _ | k
  ·
   have hk16 := h; obtain ⟨o5, h⟩ := ex_eq (Sum.inr (Sum.inl s1) : (List ByteArray) ⊕ (((List ByteArray) × Int) ⊕ ((List ByteArray) × Int)))
   have hc5 : decide (v5 < (p0.size : Int)) = false := decide_eq_false (by omega)
   refine WC.seq ?_
   refine WC.seq ?_
   refine WC.rs [(0, 2), (1, 2), (2, 2), (3, 2)] rfl ?_
   refine WO.pn 2 rfl ?_
   refine WO.k2 rfl rfl rfl rfl (rn_lenS Tryd.runUnderlying9 rfl rfl) ?_
   refine WO.pn 1 rfl ?_
   refine WO.fin ?_
   refine DN.seq ?_
   refine WC.cf' rfl hc5 ?_
   refine WC.exit ?_
   refine DN.exitThen ?_
   refine DN.exitThen ?_
   obtain rfl := Option.some.inj h
   have h := hk16
   refine DN.hit ?_
   obtain rfl := Option.some.inj h
   exact DN.meet _ ⟨K13, ((s1.1 : (List ByteArray)), (s1.2 : Int)), las1_0, lus1_0, rfl, S14.wk rfl, f15, rfl⟩ fun a ha => (ha.more ha.nil rfl)
  ·
   obtain ⟨o5, h, hk16⟩ := Option.bind_eq_some_iff.mp h; unfold l_lines_b0 at h
   have hc5 : decide (v5 < (p0.size : Int)) = true := decide_eq_true (by omega)
   refine WC.seq ?_
   refine WC.seq ?_
   refine WC.rs [(0, 2), (1, 2), (2, 2), (3, 2)] rfl ?_
   refine WO.pn 2 rfl ?_
   refine WO.k2 rfl rfl rfl rfl (rn_lenS Tryd.runUnderlying9 rfl rfl) ?_
   refine WO.pn 1 rfl ?_
   refine WO.fin ?_
   refine DN.seq ?_
   refine WC.ct' rfl hc5 ?_
   refine WC.skip ?_
   refine DN.seq ?_
   refine WC.seq ?_
   refine WC.block ?_
   refine WC.seq ?_
   refine WC.rs [(0, 2), (1, 2), (2, 2), (3, 2)] rfl ?_
   refine WO.pn 2 rfl ?_
   obtain ⟨x15, hx15, h⟩ := Option.bind_eq_some_iff.mp h
   refine WO.k2 rfl rfl rfl rfl (rn_indexSt Tryd.runUnderlying9 hx15 rfl rfl rfl) ?_
   refine WO.pn 1 rfl ?_
   refine WO.fin ?_
   refine DN.seq ?_
   obtain ⟨q4, h, hK17⟩ := Option.bind_eq_some_iff.mp h
   refine WC.meet (fun L w' => ∃ (κ' : Col) (laq4_0 : Option Addr) (luq4_0 : Nat), L = [(0, .string p0), (3, .slice laq4_0 q4.1.length luq4_0), (4, .int .i64 q4.2), (5, .int .i64 v5)] ∧ Stp [2] K13 w12 κ' w' ∧ Oc Ep.str 9 κ' w' 2 laq4_0 luq4_0 q4.1) ?_ ?_
   ·
    revert h
    cases ht22 : (x15 == 10) with
    | true =>
     intro h; replace h := cT h
     refine WC.ct rfl ?_
     refine WC.seq ?_
     refine WC.rs [(0, 2), (1, 2), (2, 2), (3, 2), (4, 2), (5, 1), (6, 1), (7, 2)] rfl ?_
     refine WO.pn 4 rfl ?_
     obtain ⟨x21, hx21, h⟩ := Option.bind_eq_some_iff.mp h
     refine WO.k2 rfl rfl rfl rfl (rn_sliceSt (k1 := .i64) (k2 := .i64) Tryd.runUnderlying9 (.inr ⟨_, rfl, rfl⟩) (.inr ⟨_, rfl, rfl⟩) hx21 rfl rfl) ?_
     refine WO.bl (κ := K13) (E := Ep.str) 3 [] (parts := [(0, .tmp 21)]) (cells := [.string x21]) (xs := ([x21] : List ByteArray)) rfl rfl rfl rfl rfl rfl Tryd.underlying57 Trydinfo9 rfl rfl rfl rfl rfl rfl rfl rfl rfl rfl ⟨[.string x21], [], Zl K13 w12 [], Zl K13 w12 [], rfl, Zl.sp (l1 := []) (l2 := []) rfl, Zl.sr (l1 := []) (l2 := []), rfl, rfl⟩ fun a22 u22 w23 K24 S25 f26 => ⟨trivial, ?_⟩
     obtain ⟨x23, hx23, h⟩ := Option.bind_eq_some_iff.mp h
     have f27 := f15.stp S25 rfl rfl
     refine WO.app (κ := K24) (E := Ep.str) 2 [] rfl rfl rfl rfl rfl rfl rfl rfl rfl Tryd.underlying57 Trydinfo9 rfl rfl rfl rfl f27 (Sl.srcP pu_str f26.rdc) sy_false hx23 rfl fun a23 u23 w28 K29 S30 f31 => ⟨trivial, ?_⟩
     refine WO.pn 1 rfl ?_
     refine WO.fin ?_
     refine DN.seq ?_
     refine WC.rs [(0, 2), (1, 2), (2, 2)] rfl ?_
     refine WO.pn 3 rfl ?_
     refine WO.fin ?_
     obtain rfl := Option.some.inj h
     exact DN.meet _ ⟨K29, a23, u23, rfl, (S25.tr S30).wk rfl, f31⟩ fun a ha => (ha.more (ha.more (ha.more (ha.more ha.nil rfl) rfl) rfl) rfl)
    | false =>
     intro h; replace h := cF h
     refine WC.cf rfl ?_
     refine WC.skip ?_
     obtain rfl := Option.some.inj h
     exact DN.meet _ ⟨K13, las1_0, lus1_0, rfl, (Stp.refl _ _).wk rfl, f15⟩ fun a ha => (ha.more (ha.more (ha.more (ha.more ha.nil rfl) rfl) rfl) rfl)
   rintro _ w18 ⟨K19, laq4_0, luq4_0, rfl, S20, f21⟩
   have h := hK17
   refine DN.block ?_
   refine DN.seq ?_
   refine WC.rs [(0, 2), (1, 2), (2, 2)] rfl ?_
   refine WO.pn 3 rfl ?_
   refine WO.fin ?_
   have hw5 : IntKind.wrap .i64 (v5 + 1) = v5 + 1 := wr1 hj5 (of_decide_eq_true hc5) hN5
   rw [hw5]
   have hc5 := of_decide_eq_true hc5
   obtain rfl := Option.some.inj h
   refine DN.round fun a ha => ?_
   exact ⟨k, _, Nat.lt_succ_self _, ⟨K19, v5 + 1, ((q4.1 : (List ByteArray)), (q4.2 : Int)), laq4_0, luq4_0, rfl, (S14.tr S20).wk rfl, f21, by omega, by omega, hk16⟩, (ha.more (ha.more (ha.more (ha.more ha.nil rfl) rfl) rfl) rfl)⟩
 rintro _ w8 ⟨K9, s3, las3_0, lus3_0, rfl, S10, f11, rfl⟩
 have h := hK6
 dsimp only [aft] at h
 refine DN.seq ?_
 refine WC.seq ?_
 refine WC.rs [(0, 2), (1, 2)] rfl ?_
 refine WO.pn 2 rfl ?_
 refine WO.fin ?_
 refine DN.seq ?_
 refine WC.ret ?_
 have f32 := hE.stp (S3.tr S10) rfl rfl
 refine DN.res (l := [.tmp 2]) Tryd.results30 (res_tmp rfl rfl) rfl ?_
 obtain rfl := Option.some.inj h
 exact ⟨K9, las3_0, lus3_0, rfl, f32, f11⟩

/- loop.example/g00869/laws.likeInts -/
theorem l_likeInts_ok {w : World} {κ : Col} {a0 : Option Addr} {u0 : Nat} {p0 : (List Int)} {a1 : Option Addr} {u1 : Nat} {p1 : (List Int)} (g0 : Rd (Rp.int .i64) κ w 0 a0 u0 p0) (g1 : Rd (Rp.int .i64) κ w 0 a1 u1 p1) {r : Bool} (h : l_likeInts p0 p1 = some r) : Ret Tryd.prog 31 [.slice a0 p0.length u0, .slice a1 p1.length u1] w (fun v w' => ∃ (κ' : Col), v = .bool r ∧ Ent κ w κ' w') := by
 unfold l_likeInts at h
 refine Ret.enter Tryd.func31 rfl Tryd.ntmps31 rfl ?_
 dsimp only [envOf]
 have hE := Ent.refl κ w
 refine WC.seq ?_
 refine WC.rs [(0, 2)] rfl ?_
 refine WO.pn 1 rfl ?_
 refine WO.fin ?_
 refine DN.seq ?_
 refine WC.seq ?_
 refine WC.seq ?_
 refine WC.rs [(0, 2), (1, 2), (2, 2), (3, 2), (4, 2)] rfl ?_
 refine WO.pn 1 rfl ?_
 refine WO.k2 rfl rfl rfl rfl (rn_len Tryd.runUnderlying60 rfl rfl) ?_
 refine WO.pn 1 rfl ?_
 refine WO.k2 rfl rfl rfl rfl (rn_len Tryd.runUnderlying60 rfl rfl) ?_
 refine WO.pn 1 rfl ?_
 refine WO.fin ?_
 refine DN.seq ?_
 revert h
 cases ht1 : ((p0.length : Int) != (p1.length : Int)) with
 | true =>
  intro h; replace h := cT h
  refine WC.ct rfl ?_
  refine WC.seq ?_
  refine WC.rs [(0, 2)] rfl ?_
  refine WO.pn 1 rfl ?_
  refine WO.fin ?_
  refine DN.seq ?_
  refine WC.ret ?_
  refine DN.retThen ?_
  refine DN.res (l := [.tmp 4]) Tryd.results31 (res_tmp rfl rfl) rfl ?_
  obtain rfl := Option.some.inj h
  exact ⟨κ, rfl, hE⟩
 | false =>
  intro h; replace h := cF h
  refine WC.cf rfl ?_
  refine WC.skip ?_
  refine DN.seq ?_
  refine WC.seq ?_
  refine WC.seq ?_
  refine WC.rs [(0, 2)] rfl ?_
  refine WO.pn 1 rfl ?_
  refine WO.fin ?_
  refine DN.seq ?_
  have hN2 : (p0.length : Int) ≤ 9223372036854775807 := g0.len_le
  obtain ⟨q2, hq4, hK3⟩ := Option.bind_eq_some_iff.mp h
  clear h
  refine WC.meet (fun L w' => ∃ (κ' : Col), L = [] ∧ Stp [] κ w κ' w' ∧ q2 = Sum.inr ()) ?_ ?_
  ·
   refine WC.block ?_
   refine WC.loop (fun k L w' => ∃ (κ' : Col) (v5 : Int), L = [(0, .slice a0 p0.length u0), (1, .slice a1 p1.length u1), (5, .int .i64 v5)] ∧ Stp [] κ w κ' w' ∧ 0 ≤ v5 ∧ Int.toNat ((p0.length : Int) - v5) = k ∧ cntM (l_likeInts_b0 p0 p1) k v5 () = some q2) ⟨_, _, ⟨κ, 0, rfl, (Stp.refl _ _).wk rfl, (by decide), (by simp), hq4⟩, fun a ha => (ha.more (ha.more (ha.more ha.nil rfl) rfl) rfl)⟩ ?_
   rintro k _ w8 ⟨K9, v5, rfl, S10, hj2, hJ2, h⟩
   rcases k with _ | k
   ·
    have hk11 := h; obtain ⟨o2, h⟩ := ex_eq (Sum.inr (Sum.inl ()) : Bool ⊕ ((Unit) ⊕ (Unit)))
    have hc2 : decide (v5 < (p0.length : Int)) = false := decide_eq_false (by omega)
    refine WC.seq ?_
    refine WC.seq ?_
    refine WC.rs [(0, 2), (1, 2), (2, 2), (3, 2)] rfl ?_
    refine WO.pn 2 rfl ?_
    refine WO.k2 rfl rfl rfl rfl (rn_len Tryd.runUnderlying60 rfl rfl) ?_
    refine WO.pn 1 rfl ?_
    refine WO.fin ?_
    refine DN.seq ?_
    refine WC.cf' rfl hc2 ?_
    refine WC.exit ?_
    refine DN.exitThen ?_
    refine DN.exitThen ?_
    obtain rfl := Option.some.inj h
    have h := hk11
    refine DN.hit ?_
    obtain rfl := Option.some.inj h
    exact DN.meet _ ⟨K9, rfl, S10.wk rfl, rfl⟩ fun a ha => ha.nil
   ·
    obtain ⟨o2, h, hk11⟩ := Option.bind_eq_some_iff.mp h; unfold l_likeInts_b0 at h
    have hc2 : decide (v5 < (p0.length : Int)) = true := decide_eq_true (by omega)
    refine WC.seq ?_
    refine WC.seq ?_
    refine WC.rs [(0, 2), (1, 2), (2, 2), (3, 2)] rfl ?_
    refine WO.pn 2 rfl ?_
    refine WO.k2 rfl rfl rfl rfl (rn_len Tryd.runUnderlying60 rfl rfl) ?_
    refine WO.pn 1 rfl ?_
    refine WO.fin ?_
    refine DN.seq ?_
    refine WC.ct' rfl hc2 ?_
    refine WC.skip ?_
    refine DN.seq ?_
    refine WC.seq ?_
    refine WC.block ?_
    refine WC.seq ?_
    refine WC.rx (κ := K9) [0] none [(0, 2), (1, 2), (2, 2), (4, 2), (5, 2), (6, 2), (3, 0), (7, 0), (8, 2)] [] (by kernel_rfl) (by kernel_rfl) fun w13 S12 => ?_
    refine WO.pn 2 rfl ?_
    obtain ⟨x19, hx19, h⟩ := Option.bind_eq_some_iff.mp h
    refine WO.k2 rfl rfl rfl rfl (rn_index g0 hx19 Tryd.runUnderlying60 Tryd.sizeOf2 rfl rfl rfl rfl) ?_
    refine WO.pn 2 rfl ?_
    obtain ⟨x23, hx23, h⟩ := Option.bind_eq_some_iff.mp h
    refine WO.k2 rfl rfl rfl rfl (rn_index g1 hx23 Tryd.runUnderlying60 Tryd.sizeOf2 rfl rfl rfl rfl) ?_
    have f14 := g0.stp (S10.tr S12) rfl rfl
    refine WO.k0 rfl rfl rfl rfl (rn_ld Tryd.isAgg2 rfl rfl (hvC (f14.gInt hx19) rfl)) ?_
    have f15 := g1.stp (S10.tr S12) rfl rfl
    refine WO.k0 rfl rfl rfl rfl (rn_ld Tryd.isAgg2 rfl rfl (hvC (f15.gInt hx23) rfl)) ?_
    refine WO.pn 1 rfl ?_
    refine WO.nx ?_
    refine WO.fin ?_
    refine DN.seq ?_
    revert h
    cases ht16 : (x19 != x23) with
    | true =>
     intro h; replace h := cT h
     refine WC.ct rfl ?_
     refine WC.seq ?_
     refine WC.rs [(0, 2)] rfl ?_
     refine WO.pn 1 rfl ?_
     refine WO.fin ?_
     refine DN.seq ?_
     refine WC.ret ?_
     refine DN.retBlock ?_
     refine DN.retThen ?_
     refine DN.retThen ?_
     obtain rfl := Option.some.inj h
     obtain rfl := Option.some.inj hk11
     have h := hK3
     dsimp only [aft] at h
     refine DN.retBlock ?_
     refine DN.retMeet ?_
     refine DN.retThen ?_
     have f17 := hE.stp (S10.tr S12) rfl rfl
     refine DN.res (l := [.tmp 4]) Tryd.results31 (res_tmp rfl rfl) rfl ?_
     obtain rfl := Option.some.inj h
     exact ⟨K9, rfl, f17⟩
    | false =>
     intro h; replace h := cF h
     refine WC.cf rfl ?_
     refine WC.skip ?_
     refine DN.block ?_
     refine DN.seq ?_
     refine WC.rs [(0, 2), (1, 2), (2, 2)] rfl ?_
     refine WO.pn 3 rfl ?_
     refine WO.fin ?_
     have hw2 : IntKind.wrap .i64 (v5 + 1) = v5 + 1 := wr1 hj2 (of_decide_eq_true hc2) hN2
     rw [hw2]
     have hc2 := of_decide_eq_true hc2
     obtain rfl := Option.some.inj h
     refine DN.round fun a ha => ?_
     exact ⟨k, _, Nat.lt_succ_self _, ⟨K9, v5 + 1, rfl, (S10.tr S12).wk rfl, by omega, by omega, hk11⟩, (ha.more (ha.more (ha.more ha.nil rfl) rfl) rfl)⟩
  rintro _ w5 ⟨K6, rfl, S7, rfl⟩
  have h := hK3
  dsimp only [aft] at h
  refine DN.seq ?_
  refine WC.seq ?_
  refine WC.rs [(0, 2)] rfl ?_
  refine WO.pn 1 rfl ?_
  refine WO.fin ?_
  refine DN.seq ?_
  refine WC.ret ?_
  have f18 := hE.stp S7 rfl rfl
  refine DN.res (l := [.tmp 4]) Tryd.results31 (res_tmp rfl rfl) rfl ?_
  obtain rfl := Option.some.inj h
  exact ⟨K6, rfl, f18⟩

/- loop.example/g00869/spec.l1In -/
theorem s_l1In_ok {w : World} {κ : Col} {p0 : Int} {p1 : Int} {p2 : Int}  {r : Bool} (h : s_l1In p0 p1 p2 = some r) : Ret Tryd.prog 37 [.int .i64 p0, .int .i64 p1, .int .i64 p2] w (fun v w' => ∃ (κ' : Col), v = .bool r ∧ Ent κ w κ' w') := by
 unfold s_l1In at h
 refine Ret.enter Tryd.func37 rfl Tryd.ntmps37 rfl ?_
 dsimp only [envOf]
 have hE := Ent.refl κ w
 refine WC.seq ?_
 refine WC.rs [(0, 2)] rfl ?_
 refine WO.pn 1 rfl ?_
 refine WO.fin ?_
 refine DN.seq ?_
 refine WC.seq ?_
 refine WC.rs [(0, 2), (1, 2), (2, 2), (3, 2), (4, 2), (5, 2), (6, 2), (7, 2), (8, 2)] rfl ?_
 refine WO.pn 4 rfl ?_
 obtain ⟨p14, h, hK1⟩ := Option.bind_eq_some_iff.mp h
 refine WO.meet [(4, 2), (5, 2), (6, 2), (7, 2)] [(8, 2)] (fun L w' => L = [(6, .bool false), (14, .bool p14)] ∧ ∃ κ', Stp [] κ w κ' w') trivial ?_ ?_
 ·
  revert h
  cases ht2 : decide (p1 ≤ p0) with
  | true =>
   intro h; replace h := cT h
   refine WO.pn 4 rfl ?_
   obtain rfl := Option.some.inj h
   exact WO.met _ trivial ⟨rfl, _, (Stp.refl _ _).wk rfl⟩ fun a ha => (ha.more (ha.more ha.nil rfl) rfl)
  | false =>
   intro h; replace h := cF h
   refine WO.pn 4 rfl ?_
   obtain rfl := Option.some.inj h
   exact WO.met _ trivial ⟨rfl, _, (Stp.refl _ _).wk rfl⟩ fun a ha => (ha.more (ha.more ha.nil rfl) rfl)
 rintro _ w3 _ ⟨rfl, K4, S5⟩
 have h := hK1
 refine WO.pn 1 rfl ?_
 refine WO.fin ?_
 refine DN.seq ?_
 refine WC.ret ?_
 have f6 := hE.stp S5 rfl rfl
 refine DN.res (l := [.tmp 6]) Tryd.results37 (res_tmp rfl rfl) rfl ?_
 obtain rfl := Option.some.inj h
 exact ⟨K4, rfl, f6⟩

/- loop.example/g00869/spec.l23Power -/
theorem s_l23Power_ok {w : World} {κ : Col} {p0 : Int}  {r : Int} (h : s_l23Power p0 = some r) : Ret Tryd.prog 68 [.int .i64 p0] w (fun v w' => ∃ (κ' : Col), v = .int .i64 r ∧ Ent κ w κ' w') := by
 unfold s_l23Power at h
 refine Ret.enter Tryd.func68 rfl Tryd.ntmps68 rfl ?_
 dsimp only [envOf]
 have hE := Ent.refl κ w
 refine WC.seq ?_
 refine WC.rs [(0, 2)] rfl ?_
 refine WO.pn 1 rfl ?_
 refine WO.fin ?_
 refine DN.seq ?_
 refine WC.seq ?_
 refine WC.rs [(0, 2)] rfl ?_
 refine WO.pn 1 rfl ?_
 refine WO.fin ?_
 refine DN.seq ?_
 refine WC.seq ?_
 obtain ⟨q2, hq3, hK2⟩ := Option.bind_eq_some_iff.mp h
 clear h
 refine WC.meet (fun L w' => ∃ (κ' : Col) (s3 : Int × Int), L = [(3, .int .i64 s3.2)] ∧ Stp [] κ w κ' w' ∧ q2 = Sum.inr s3) ?_ ?_
 ·
  refine WC.block ?_
  refine WC.loop (fun k L w' => ∃ (κ' : Col) (s1 : Int × Int), L = [(0, .int .i64 s1.1), (3, .int .i64 s1.2)] ∧ Stp [] κ w κ' w' ∧ whileM s_l23Power_b0 k s1 = some q2) ⟨_, _, ⟨κ, ((p0 : Int), (1 : Int)), rfl, (Stp.refl _ _).wk rfl, hq3⟩, fun a ha => (ha.more (ha.more ha.nil rfl) rfl)⟩ ?_
  rintro k _ w7 ⟨K8, s1, rfl, S9, h⟩
  rcases k with _ | k
  ·
   cases h
  ·
   obtain ⟨o1, h, hk10⟩ := Option.bind_eq_some_iff.mp h; unfold s_l23Power_b0 at h
   refine WC.seq ?_
   refine WC.seq ?_
   refine WC.rs [(0, 2), (1, 2)] rfl ?_
   refine WO.pn 2 rfl ?_
   refine WO.fin ?_
   refine DN.seq ?_
   revert h
   cases ht11 : decide (0 < s1.1) with
   | true =>
    intro h; replace h := cT h
    refine WC.ct rfl ?_
    refine WC.skip ?_
    refine DN.seq ?_
    refine WC.seq ?_
    refine WC.block ?_
    refine WC.rs [(0, 2), (1, 2), (2, 2)] rfl ?_
    refine WO.pn 3 rfl ?_
    refine WO.fin ?_
    refine DN.block ?_
    refine DN.seq ?_
    refine WC.rs [(0, 2), (1, 2), (2, 2)] rfl ?_
    refine WO.pn 3 rfl ?_
    refine WO.fin ?_
    obtain rfl := Option.some.inj h
    refine DN.round fun a ha => ?_
    exact ⟨k, _, Nat.lt_succ_self _, ⟨K8, (((IntKind.i64.wrap (s1.1 - 1)) : Int), ((IntKind.i64.wrap (s1.2 * 2)) : Int)), rfl, S9.wk rfl, hk10⟩, (ha.more (ha.more ha.nil rfl) rfl)⟩
   | false =>
    intro h; replace h := cF h
    refine WC.cf rfl ?_
    refine WC.exit ?_
    refine DN.exitThen ?_
    refine DN.exitThen ?_
    obtain rfl := Option.some.inj h
    have h := hk10
    refine DN.hit ?_
    obtain rfl := Option.some.inj h
    exact DN.meet _ ⟨K8, ((s1.1 : Int), (s1.2 : Int)), rfl, S9.wk rfl, rfl⟩ fun a ha => (ha.more ha.nil rfl)
 rintro _ w4 ⟨K5, s3, rfl, S6, rfl⟩
 have h := hK2
 dsimp only [aft] at h
 refine DN.seq ?_
 refine WC.seq ?_
 refine WC.rs [(0, 2), (1, 2)] rfl ?_
 refine WO.pn 2 rfl ?_
 refine WO.fin ?_
 refine DN.seq ?_
 refine WC.ret ?_
 have f12 := hE.stp S6 rfl rfl
 refine DN.res (l := [.tmp 2]) Tryd.results68 (res_tmp rfl rfl) rfl ?_
 obtain rfl := Option.some.inj h
 exact ⟨K5, rfl, f12⟩

/- loop.example/g00869/spec.l1Int -/
theorem s_l1Int_ok {w : World} {κ : Col} {p0 : Int}  {r : ByteArray} (h : s_l1Int p0 = some r) : Ret Tryd.prog 39 [.int .i64 p0] w (fun v w' => ∃ (κ' : Col), v = .string r ∧ Ent κ w κ' w') := by
 unfold s_l1Int at h
 refine Ret.enter Tryd.func39 rfl Tryd.ntmps39 rfl ?_
 dsimp only [envOf]
 have hE := Ent.refl κ w
 refine WC.seq ?_
 refine WC.rs [(0, 2)] rfl ?_
 refine WO.pn 1 rfl ?_
 refine WO.fin ?_
 refine DN.seq ?_
 refine WC.seq ?_
 refine WC.rs [(0, 2)] rfl ?_
 refine WO.pn 1 rfl ?_
 refine WO.fin ?_
 refine DN.seq ?_
 refine WC.seq ?_
 refine WC.rs [(0, 2), (1, 2), (2, 2)] rfl ?_
 refine WO.pn 3 rfl ?_
 refine WO.fin ?_
 refine DN.seq ?_
 refine WC.seq ?_
 obtain ⟨q2, hq3, hK2⟩ := Option.bind_eq_some_iff.mp h
 clear h
 refine WC.meet (fun L w' => ∃ (κ' : Col) (s3 : Int × ByteArray), L = [(3, .string s3.2), (4, .bool (decide (p0 < 0)))] ∧ Stp [] κ w κ' w' ∧ q2 = Sum.inr s3) ?_ ?_
 ·
  refine WC.block ?_
  refine WC.loop (fun k L w' => ∃ (κ' : Col) (s1 : Int × ByteArray), L = [(0, .int .i64 s1.1), (3, .string s1.2), (4, .bool (decide (p0 < 0)))] ∧ Stp [] κ w κ' w' ∧ whileM s_l1Int_b0 k s1 = some q2) ⟨_, _, ⟨κ, ((p0 : Int), ((ByteArray.mk #[]) : ByteArray)), rfl, (Stp.refl _ _).wk rfl, hq3⟩, fun a ha => (ha.more (ha.more (ha.more ha.nil rfl) rfl) rfl)⟩ ?_
  rintro k _ w7 ⟨K8, s1, rfl, S9, h⟩
  rcases k with _ | k
  ·
   cases h
  ·
   obtain ⟨o1, h, hk10⟩ := Option.bind_eq_some_iff.mp h; unfold s_l1Int_b0 at h
   refine WC.seq ?_
   refine WC.seq ?_
   refine WC.rs [(0, 2), (1, 2), (2, 2), (3, 2), (4, 2), (5, 2)] rfl ?_
   refine WO.pn 1 rfl ?_
   refine WO.k2 rfl rfl rfl rfl (rn_eqlSt rfl rfl rfl) ?_
   refine WO.pn 1 rfl ?_
   obtain ⟨p13, h, hK11⟩ := Option.bind_eq_some_iff.mp h
   refine WO.meet [(3, 2), (4, 2), (5, 2)] [] (fun L w' => L = [(0, .int .i64 s1.1), (3, .string s1.2), (4, .bool (decide (p0 < 0))), (13, .bool p13)] ∧ ∃ κ', Stp [] K8 w7 κ' w') trivial ?_ ?_
   ·
    revert h
    cases ht12 : (eqB s1.2 (ByteArray.mk #[])) with
    | true =>
     intro h; replace h := cT h
     refine WO.pn 3 rfl ?_
     obtain rfl := Option.some.inj h
     exact WO.met _ trivial ⟨rfl, _, (Stp.refl _ _).wk rfl⟩ fun a ha => (ha.more (ha.more (ha.more (ha.more ha.nil rfl) rfl) rfl) rfl)
    | false =>
     intro h; replace h := cF h
     refine WO.pn 3 rfl ?_
     obtain rfl := Option.some.inj h
     exact WO.met _ trivial ⟨rfl, _, (Stp.refl _ _).wk rfl⟩ fun a ha => (ha.more (ha.more (ha.more (ha.more ha.nil rfl) rfl) rfl) rfl)
   rintro _ w13 _ ⟨rfl, K14, S15⟩
   have h := hK11
   refine WO.fin ?_
   refine DN.seq ?_
   revert h
   cases ht16 : p13 with
   | true =>
    intro h; replace h := cT h
    refine WC.ct rfl ?_
    refine WC.skip ?_
    refine DN.seq ?_
    refine WC.block ?_
    refine WC.seq ?_
    refine WC.rs [(0, 2), (1, 2), (2, 2)] rfl ?_
    refine WO.pn 1 rfl ?_
    refine WO.k2 rfl rfl rfl rfl (rn_rem rfl rfl rfl (by decide)) ?_
    refine WO.pn 1 rfl ?_
    refine WO.fin ?_
    refine DN.seq ?_
    refine WC.seq ?_
    refine WC.seq ?_
    refine WC.rs [(0, 2), (1, 2)] rfl ?_
    refine WO.pn 2 rfl ?_
    refine WO.fin ?_
    refine DN.seq ?_
    obtain ⟨q4, h, hK17⟩ := Option.bind_eq_some_iff.mp h
    refine WC.meet (fun L w' => ∃ (κ' : Col), L = [(0, .int .i64 s1.1), (3, .string s1.2), (4, .bool (decide (p0 < 0))), (5, .int .i64 q4)] ∧ Stp [] K14 w13 κ' w') ?_ ?_
    ·
     revert h
     cases ht21 : decide ((Int.tmod s1.1 10) < 0) with
     | true =>
      intro h; replace h := cT h
      refine WC.ct rfl ?_
      refine WC.rs [(0, 2), (1, 2), (2, 2)] rfl ?_
      refine WO.pn 1 rfl ?_
      refine WO.k2 rfl rfl rfl rfl (rn_neg rfl rfl) ?_
      refine WO.pn 1 rfl ?_
      refine WO.fin ?_
      obtain rfl := Option.some.inj h
      exact DN.meet _ ⟨K14, rfl, (Stp.refl _ _).wk rfl⟩ fun a ha => (ha.more (ha.more (ha.more (ha.more ha.nil rfl) rfl) rfl) rfl)
     | false =>
      intro h; replace h := cF h
      refine WC.cf rfl ?_
      refine WC.skip ?_
      obtain rfl := Option.some.inj h
      exact DN.meet _ ⟨K14, rfl, (Stp.refl _ _).wk rfl⟩ fun a ha => (ha.more (ha.more (ha.more (ha.more ha.nil rfl) rfl) rfl) rfl)
    rintro _ w18 ⟨K19, rfl, S20⟩
    have h := hK17
    refine DN.seq ?_
    refine WC.seq ?_
    refine WC.rs [(0, 2), (1, 2), (2, 2), (3, 1), (4, 1), (5, 2), (6, 2), (7, 2)] rfl ?_
    refine WO.pn 2 rfl ?_
    refine WO.k2 rfl rfl rfl rfl (rn_conv Tryd.runUnderlying2 Tryd.runUnderlying5 rfl rfl) ?_
    refine WO.bl (κ := K19) (E := (Ep.int .u8)) 2 [] (parts := [(0, .tmp 22)]) (cells := [.int .u8 (IntKind.u8.wrap (IntKind.i64.wrap (48 + q4)))]) (xs := ([(IntKind.u8.wrap (IntKind.i64.wrap (48 + q4)))] : List Int)) rfl rfl rfl rfl rfl rfl Tryd.underlying22 Trydinfo5 rfl rfl rfl rfl rfl rfl rfl rfl rfl rfl ⟨[.int .u8 (IntKind.u8.wrap (IntKind.i64.wrap (48 + q4)))], [], Zl K19 w18 [], Zl K19 w18 [], rfl, Zl.sp (l1 := []) (l2 := []) rfl, Zl.sr (l1 := []) (l2 := []), rfl, rfl⟩ fun a23 u23 w22 K23 S24 f25 => ⟨trivial, ?_⟩
    refine WO.k1 trivial rfl rfl rfl rfl (rn_b2s Tryd.underlying22 Tryd.underlying5 Tryd.underlying9 rfl (svE f25.rdc) rfl rfl) ?_
    refine WO.pn 1 rfl ?_
    obtain ⟨x26, hx26, h⟩ := Option.bind_eq_some_iff.mp h
    refine WO.k2 rfl rfl rfl rfl (rn_addS rfl rfl rfl hx26) ?_
    refine WO.pn 1 rfl ?_
    refine WO.fin ?_
    refine DN.seq ?_
    refine WC.rs [(0, 2), (1, 2), (2, 2)] rfl ?_
    refine WO.pn 1 rfl ?_
    refine WO.k2 rfl rfl rfl rfl (rn_quo rfl rfl rfl (by decide)) ?_
    refine WO.pn 1 rfl ?_
    refine WO.fin ?_
    refine DN.block ?_
    obtain rfl := Option.some.inj h
    refine DN.round fun a ha => ?_
    exact ⟨k, _, Nat.lt_succ_self _, ⟨K23, (((IntKind.i64.wrap (Int.tdiv s1.1 10)) : Int), (x26 : ByteArray)), rfl, (S9.tr (S15.tr (S20.tr S24))).wk rfl, hk10⟩, (ha.more (ha.more (ha.more ha.nil rfl) rfl) rfl)⟩
   | false =>
    intro h; replace h := cF h
    refine WC.cf rfl ?_
    refine WC.exit ?_
    refine DN.exitThen ?_
    refine DN.exitThen ?_
    obtain rfl := Option.some.inj h
    have h := hk10
    refine DN.hit ?_
    obtain rfl := Option.some.inj h
    exact DN.meet _ ⟨K14, ((s1.1 : Int), (s1.2 : ByteArray)), rfl, (S9.tr S15).wk rfl, rfl⟩ fun a ha => (ha.more (ha.more ha.nil rfl) rfl)
 rintro _ w4 ⟨K5, s3, rfl, S6, rfl⟩
 have h := hK2
 dsimp only [aft] at h
 refine DN.seq ?_
 refine WC.seq ?_
 refine WC.seq ?_
 refine WC.rs [(0, 2)] rfl ?_
 refine WO.pn 1 rfl ?_
 refine WO.fin ?_
 refine DN.seq ?_
 obtain ⟨q5, h, hK26⟩ := Option.bind_eq_some_iff.mp h
 refine WC.meet (fun L w' => ∃ (κ' : Col), L = [(3, .string q5)] ∧ Stp [] K5 w4 κ' w') ?_ ?_
 ·
  revert h
  cases ht30 : decide (p0 < 0) with
  | true =>
   intro h; replace h := cT h
   refine WC.ct rfl ?_
   refine WC.rs [(0, 2), (1, 2), (2, 2)] rfl ?_
   refine WO.pn 1 rfl ?_
   obtain ⟨x31, hx31, h⟩ := Option.bind_eq_some_iff.mp h
   refine WO.k2 rfl rfl rfl rfl (rn_addS rfl rfl rfl hx31) ?_
   refine WO.pn 1 rfl ?_
   refine WO.fin ?_
   obtain rfl := Option.some.inj h
   exact DN.meet _ ⟨K5, rfl, (Stp.refl _ _).wk rfl⟩ fun a ha => (ha.more ha.nil rfl)
  | false =>
   intro h; replace h := cF h
   refine WC.cf rfl ?_
   refine WC.skip ?_
   obtain rfl := Option.some.inj h
   exact DN.meet _ ⟨K5, rfl, (Stp.refl _ _).wk rfl⟩ fun a ha => (ha.more ha.nil rfl)
 rintro _ w27 ⟨K28, rfl, S29⟩
 have h := hK26
 refine DN.seq ?_
 refine WC.seq ?_
 refine WC.rs [(0, 2), (1, 2)] rfl ?_
 refine WO.pn 2 rfl ?_
 refine WO.fin ?_
 refine DN.seq ?_
 refine WC.ret ?_
 have f31 := hE.stp (S6.tr S29) rfl rfl
 refine DN.res (l := [.tmp 2]) Tryd.results39 (res_tmp rfl rfl) rfl ?_
 obtain rfl := Option.some.inj h
 exact ⟨K28, rfl, f31⟩

/- loop.example/g00869/spec.l1Words -/
theorem s_l1Words_ok {w : World} {κ : Col} {a0 : Option Addr} {u0 : Nat} {p0 : (List ByteArray)} {p1 : ByteArray} (g0 : Rd Rp.str κ w 0 a0 u0 p0) {r : ByteArray} (h : s_l1Words p0 p1 = some r) : Ret Tryd.prog 45 [.slice a0 p0.length u0, .string p1] w (fun v w' => ∃ (κ' : Col), v = .string r ∧ Ent κ w κ' w') := by
 unfold s_l1Words at h
 refine Ret.enter Tryd.func45 rfl Tryd.ntmps45 rfl ?_
 dsimp only [envOf]
 have hE := Ent.refl κ w
 refine WC.seq ?_
 refine WC.rs [(0, 2)] rfl ?_
 refine WO.pn 1 rfl ?_
 refine WO.fin ?_
 refine DN.seq ?_
 refine WC.seq ?_
 refine WC.rs [(0, 2)] rfl ?_
 refine WO.pn 1 rfl ?_
 refine WO.fin ?_
 refine DN.seq ?_
 refine WC.seq ?_
 refine WC.seq ?_
 refine WC.rs [(0, 2)] rfl ?_
 refine WO.pn 1 rfl ?_
 refine WO.fin ?_
 refine DN.seq ?_
 have hN1 : (p0.length : Int) ≤ 9223372036854775807 := g0.len_le
 obtain ⟨q2, hq3, hK2⟩ := Option.bind_eq_some_iff.mp h
 clear h
 refine WC.meet (fun L w' => ∃ (κ' : Col) (s3 : ByteArray), L = [(5, .string s3)] ∧ Stp [] κ w κ' w' ∧ q2 = Sum.inr s3) ?_ ?_
 ·
  refine WC.block ?_
  refine WC.loop (fun k L w' => ∃ (κ' : Col) (v6 : Int) (s1 : ByteArray), L = [(0, .slice a0 p0.length u0), (1, .string p1), (5, .string s1), (6, .int .i64 v6)] ∧ Stp [] κ w κ' w' ∧ 0 ≤ v6 ∧ Int.toNat ((p0.length : Int) - v6) = k ∧ cntM (s_l1Words_b0 p0 p1) k v6 s1 = some q2) ⟨_, _, ⟨κ, 0, ((ByteArray.mk #[]) : ByteArray), rfl, (Stp.refl _ _).wk rfl, (by decide), (by simp), hq3⟩, fun a ha => (ha.more (ha.more (ha.more (ha.more ha.nil rfl) rfl) rfl) rfl)⟩ ?_
  rintro k _ w7 ⟨K8, v6, s1, rfl, S9, hj1, hJ1, h⟩
  rcases k with _ | k
  ·
   have hk10 := h; obtain ⟨o1, h⟩ := ex_eq (Sum.inr (Sum.inl s1) : ByteArray ⊕ ((ByteArray) ⊕ (ByteArray)))
   have hc1 : decide (v6 < (p0.length : Int)) = false := decide_eq_false (by omega)
   refine WC.seq ?_
   refine WC.seq ?_
   refine WC.rs [(0, 2), (1, 2), (2, 2), (3, 2)] rfl ?_
   refine WO.pn 2 rfl ?_
   refine WO.k2 rfl rfl rfl rfl (rn_len Tryd.runUnderlying57 rfl rfl) ?_
   refine WO.pn 1 rfl ?_
   refine WO.fin ?_
   refine DN.seq ?_
   refine WC.cf' rfl hc1 ?_
   refine WC.exit ?_
   refine DN.exitThen ?_
   refine DN.exitThen ?_
   obtain rfl := Option.some.inj h
   have h := hk10
   refine DN.hit ?_
   obtain rfl := Option.some.inj h
   exact DN.meet _ ⟨K8, (s1 : ByteArray), rfl, S9.wk rfl, rfl⟩ fun a ha => (ha.more ha.nil rfl)
  ·
   obtain ⟨o1, h, hk10⟩ := Option.bind_eq_some_iff.mp h; unfold s_l1Words_b0 at h
   have hc1 : decide (v6 < (p0.length : Int)) = true := decide_eq_true (by omega)
   refine WC.seq ?_
   refine WC.seq ?_
   refine WC.rs [(0, 2), (1, 2), (2, 2), (3, 2)] rfl ?_
   refine WO.pn 2 rfl ?_
   refine WO.k2 rfl rfl rfl rfl (rn_len Tryd.runUnderlying57 rfl rfl) ?_
   refine WO.pn 1 rfl ?_
   refine WO.fin ?_
   refine DN.seq ?_
   refine WC.ct' rfl hc1 ?_
   refine WC.skip ?_
   refine DN.seq ?_
   refine WC.seq ?_
   refine WC.block ?_
   refine WC.seq ?_
   refine WC.seq ?_
   refine WC.rs [(0, 2), (1, 2)] rfl ?_
   refine WO.pn 2 rfl ?_
   refine WO.fin ?_
   refine DN.seq ?_
   obtain ⟨q4, h, hK11⟩ := Option.bind_eq_some_iff.mp h
   refine WC.meet (fun L w' => ∃ (κ' : Col), L = [(0, .slice a0 p0.length u0), (1, .string p1), (5, .string q4), (6, .int .i64 v6)] ∧ Stp [] K8 w7 κ' w') ?_ ?_
   ·
    revert h
    cases ht15 : decide (0 < v6) with
    | true =>
     intro h; replace h := cT h
     refine WC.ct rfl ?_
     refine WC.rs [(0, 2), (1, 2), (2, 2), (3, 2)] rfl ?_
     refine WO.pn 2 rfl ?_
     obtain ⟨x17, hx17, h⟩ := Option.bind_eq_some_iff.mp h
     refine WO.k2 rfl rfl rfl rfl (rn_addS rfl rfl rfl hx17) ?_
     refine WO.pn 1 rfl ?_
     refine WO.fin ?_
     obtain rfl := Option.some.inj h
     exact DN.meet _ ⟨K8, rfl, (Stp.refl _ _).wk rfl⟩ fun a ha => (ha.more (ha.more (ha.more (ha.more ha.nil rfl) rfl) rfl) rfl)
    | false =>
     intro h; replace h := cF h
     refine WC.cf rfl ?_
     refine WC.skip ?_
     obtain rfl := Option.some.inj h
     exact DN.meet _ ⟨K8, rfl, (Stp.refl _ _).wk rfl⟩ fun a ha => (ha.more (ha.more (ha.more (ha.more ha.nil rfl) rfl) rfl) rfl)
   rintro _ w12 ⟨K13, rfl, S14⟩
   have h := hK11
   refine DN.seq ?_
   refine WC.rs [(0, 2), (1, 2), (2, 2), (3, 2), (4, 1), (5, 2), (6, 2)] rfl ?_
   refine WO.pn 3 rfl ?_
   obtain ⟨x21, hx21, h⟩ := Option.bind_eq_some_iff.mp h
   refine WO.k2 rfl rfl rfl rfl (rn_index g0 hx21 Tryd.runUnderlying57 Tryd.sizeOf9 rfl rfl rfl rfl) ?_
   have f16 := g0.stp (S9.tr S14) rfl rfl
   refine WO.k1 trivial rfl rfl rfl rfl (rn_ld Tryd.isAgg9 rfl rfl (hvE (f16.gStr hx21))) ?_
   obtain ⟨x23, hx23, h⟩ := Option.bind_eq_some_iff.mp h
   refine WO.k2 rfl rfl rfl rfl (rn_addS rfl rfl rfl hx23) ?_
   refine WO.pn 1 rfl ?_
   refine WO.fin ?_
   refine DN.block ?_
   refine DN.seq ?_
   refine WC.rs [(0, 2), (1, 2), (2, 2)] rfl ?_
   refine WO.pn 3 rfl ?_
   refine WO.fin ?_
   have hw1 : IntKind.wrap .i64 (v6 + 1) = v6 + 1 := wr1 hj1 (of_decide_eq_true hc1) hN1
   rw [hw1]
   have hc1 := of_decide_eq_true hc1
   obtain rfl := Option.some.inj h
   refine DN.round fun a ha => ?_
   exact ⟨k, _, Nat.lt_succ_self _, ⟨K13, v6 + 1, (x23 : ByteArray), rfl, (S9.tr S14).wk rfl, by omega, by omega, hk10⟩, (ha.more (ha.more (ha.more (ha.more ha.nil rfl) rfl) rfl) rfl)⟩
 rintro _ w4 ⟨K5, s3, rfl, S6, rfl⟩
 have h := hK2
 dsimp only [aft] at h
 refine DN.seq ?_
 refine WC.seq ?_
 refine WC.rs [(0, 2), (1, 2)] rfl ?_
 refine WO.pn 2 rfl ?_
 refine WO.fin ?_
 refine DN.seq ?_
 refine WC.ret ?_
 have f17 := hE.stp S6 rfl rfl
 refine DN.res (l := [.tmp 4]) Tryd.results45 (res_tmp rfl rfl) rfl ?_
 obtain rfl := Option.some.inj h
 exact ⟨K5, rfl, f17⟩

/- loop.example/g00869/spec.l1Split -/
theorem s_l1Split_ok {w : World} {κ : Col} {p0 : ByteArray} {p1 : Int}  {r : (List ByteArray)} (h : s_l1Split p0 p1 = some r) : Ret Tryd.prog 51 [.string p0, .int .u8 p1] w (fun v w' => ∃ (κ' : Col) (ra0 : Option Addr) (ru0 : Nat), v = .slice ra0 r.length ru0 ∧ Ent κ w κ' w' ∧ Oc Ep.str 9 κ' w' 2 ra0 ru0 r) := by
 unfold s_l1Split at h
 refine Ret.enter Tryd.func51 rfl Tryd.ntmps51 rfl ?_
 dsimp only [envOf]
 have hE := Ent.refl κ w
 refine WC.seq ?_
 refine WC.rs [(0, 2)] rfl ?_
 refine WO.pn 1 rfl ?_
 refine WO.fin ?_
 refine DN.seq ?_
 refine WC.seq ?_
 refine WC.rs [(0, 1), (1, 2)] rfl ?_
 refine WO.bl0 (κ := κ) (E := Ep.str) 2 rfl rfl rfl rfl rfl Tryd.underlying57 Trydinfo9 rfl fun a8 u8 w1 K2 S3 f4 => ⟨trivial, ?_⟩
 refine WO.pn 1 rfl ?_
 refine WO.fin ?_
 refine DN.seq ?_
 refine WC.seq ?_
 refine WC.rs [(0, 2)] rfl ?_
 refine WO.pn 1 rfl ?_
 refine WO.fin ?_
 refine DN.seq ?_
 refine WC.seq ?_
 refine WC.seq ?_
 refine WC.rs [(0, 2)] rfl ?_
 refine WO.pn 1 rfl ?_
 refine WO.fin ?_
 refine DN.seq ?_
 obtain ⟨q2, hq7, hK6⟩ := Option.bind_eq_some_iff.mp h
 clear h
 refine WC.meet (fun L w' => ∃ (κ' : Col) (s3 : (List ByteArray) × Int × Int) (las3_0 : Option Addr) (lus3_0 : Nat), L = [(5, .slice las3_0 s3.1.length lus3_0)] ∧ Stp [2] K2 w1 κ' w' ∧ Oc Ep.str 9 κ' w' 2 las3_0 lus3_0 s3.1 ∧ q2 = Sum.inr s3) ?_ ?_
 ·
  refine WC.block ?_
  refine WC.loop (fun k L w' => ∃ (κ' : Col) (s1 : (List ByteArray) × Int × Int) (las1_0 : Option Addr) (lus1_0 : Nat), L = [(0, .string p0), (1, .int .u8 p1), (5, .slice las1_0 s1.1.length lus1_0), (6, .int .i64 s1.2.1), (7, .int .i64 s1.2.2)] ∧ Stp [2] K2 w1 κ' w' ∧ Oc Ep.str 9 κ' w' 2 las1_0 lus1_0 s1.1 ∧ whileM (s_l1Split_b0 p0 p1) k s1 = some q2) ⟨_, _, ⟨K2, ((([] : List ByteArray) : (List ByteArray)), (0 : Int), (0 : Int)), a8, u8, rfl, (Stp.refl _ _).wk rfl, f4, hq7⟩, fun a ha => (ha.more (ha.more (ha.more (ha.more (ha.more ha.nil rfl) rfl) rfl) rfl) rfl)⟩ ?_
  rintro k _ w12 ⟨K13, s1, las1_0, lus1_0, rfl, S14, f15, h⟩
  rcases k with _ | k
  ·
   cases h
  ·
   obtain ⟨o5, h, hk16⟩ := Option.bind_eq_some_iff.mp h; unfold s_l1Split_b0 at h
   refine WC.seq ?_
   refine WC.seq ?_
   refine WC.rs [(0, 2), (1, 2), (2, 2), (3, 2)] rfl ?_
   refine WO.pn 2 rfl ?_
   refine WO.k2 rfl rfl rfl rfl (rn_lenS Tryd.runUnderlying9 rfl rfl) ?_
   refine WO.pn 1 rfl ?_
   refine WO.fin ?_
   refine DN.seq ?_
   revert h
   cases ht17 : decide (s1.2.2 ≤ (p0.size : Int)) with
   | true =>
    intro h; replace h := cT h
    refine WC.ct rfl ?_
    refine WC.skip ?_
    refine DN.seq ?_
    refine WC.seq ?_
    refine WC.block ?_
    refine WC.seq ?_
    refine WC.rs [(0, 2), (1, 2), (2, 2), (3, 2), (4, 2), (5, 2), (6, 2), (7, 2), (8, 2), (9, 2), (10, 2)] rfl ?_
    refine WO.pn 2 rfl ?_
    refine WO.k2 rfl rfl rfl rfl (rn_lenS Tryd.runUnderlying9 rfl rfl) ?_
    refine WO.pn 2 rfl ?_
    obtain ⟨p25, h, hK18⟩ := Option.bind_eq_some_iff.mp h
    refine WO.meet [(5, 2), (6, 2), (7, 2), (8, 2), (9, 2), (10, 2)] [] (fun L w' => L = [(0, .string p0), (1, .int .u8 p1), (5, .slice las1_0 s1.1.length lus1_0), (6, .int .i64 s1.2.1), (7, .int .i64 s1.2.2), (25, .bool p25)] ∧ ∃ κ', Stp [] K13 w12 κ' w') trivial ?_ ?_
    ·
     revert h
     cases ht19 : (s1.2.2 == (p0.size : Int)) with
     | true =>
      intro h; replace h := cT h
      refine WO.pn 6 rfl ?_
      obtain rfl := Option.some.inj h
      exact WO.met _ trivial ⟨rfl, _, (Stp.refl _ _).wk rfl⟩ fun a ha => (ha.more (ha.more (ha.more (ha.more (ha.more (ha.more ha.nil rfl) rfl) rfl) rfl) rfl) rfl)
     | false =>
      intro h; replace h := cF h
      refine WO.pn 2 rfl ?_
      obtain ⟨x22, hx22, h⟩ := Option.bind_eq_some_iff.mp h
      refine WO.k2 rfl rfl rfl rfl (rn_indexSt Tryd.runUnderlying9 hx22 rfl rfl rfl) ?_
      refine WO.pn 3 rfl ?_
      obtain rfl := Option.some.inj h
      exact WO.met _ trivial ⟨rfl, _, (Stp.refl _ _).wk rfl⟩ fun a ha => (ha.more (ha.more (ha.more (ha.more (ha.more (ha.more ha.nil rfl) rfl) rfl) rfl) rfl) rfl)
    rintro _ w20 _ ⟨rfl, K21, S22⟩
    have h := hK18
    refine WO.fin ?_
    refine DN.seq ?_
    obtain ⟨q4, h, hK23⟩ := Option.bind_eq_some_iff.mp h
    refine WC.meet (fun L w' => ∃ (κ' : Col) (laq4_0 : Option Addr) (luq4_0 : Nat), L = [(0, .string p0), (1, .int .u8 p1), (5, .slice laq4_0 q4.1.length luq4_0), (6, .int .i64 q4.2), (7, .int .i64 s1.2.2)] ∧ Stp [2] K21 w20 κ' w' ∧ Oc Ep.str 9 κ' w' 2 laq4_0 luq4_0 q4.1) ?_ ?_
    ·
     revert h
     cases ht28 : p25 with
     | true =>
      intro h; replace h := cT h
      refine WC.ct rfl ?_
      refine WC.seq ?_
      refine WC.rs [(0, 2), (1, 2), (2, 2), (3, 2), (4, 2), (5, 1), (6, 1), (7, 2)] rfl ?_
      refine WO.pn 4 rfl ?_
      obtain ⟨x30, hx30, h⟩ := Option.bind_eq_some_iff.mp h
      refine WO.k2 rfl rfl rfl rfl (rn_sliceSt (k1 := .i64) (k2 := .i64) Tryd.runUnderlying9 (.inr ⟨_, rfl, rfl⟩) (.inr ⟨_, rfl, rfl⟩) hx30 rfl rfl) ?_
      refine WO.bl (κ := K21) (E := Ep.str) 3 [] (parts := [(0, .tmp 30)]) (cells := [.string x30]) (xs := ([x30] : List ByteArray)) rfl rfl rfl rfl rfl rfl Tryd.underlying57 Trydinfo9 rfl rfl rfl rfl rfl rfl rfl rfl rfl rfl ⟨[.string x30], [], Zl K21 w20 [], Zl K21 w20 [], rfl, Zl.sp (l1 := []) (l2 := []) rfl, Zl.sr (l1 := []) (l2 := []), rfl, rfl⟩ fun a31 u31 w29 K30 S31 f32 => ⟨trivial, ?_⟩
      obtain ⟨x32, hx32, h⟩ := Option.bind_eq_some_iff.mp h
      have f33 := f15.stp (S22.tr S31) rfl rfl
      refine WO.app (κ := K30) (E := Ep.str) 2 [] rfl rfl rfl rfl rfl rfl rfl rfl rfl Tryd.underlying57 Trydinfo9 rfl rfl rfl rfl f33 (Sl.srcP pu_str f32.rdc) sy_false hx32 rfl fun a32 u32 w34 K35 S36 f37 => ⟨trivial, ?_⟩
      refine WO.pn 1 rfl ?_
      refine WO.fin ?_
      refine DN.seq ?_
      refine WC.rs [(0, 2), (1, 2), (2, 2)] rfl ?_
      refine WO.pn 3 rfl ?_
      refine WO.fin ?_
      obtain rfl := Option.some.inj h
      exact DN.meet _ ⟨K35, a32, u32, rfl, (S31.tr S36).wk rfl, f37⟩ fun a ha => (ha.more (ha.more (ha.more (ha.more (ha.more ha.nil rfl) rfl) rfl) rfl) rfl)
     | false =>
      intro h; replace h := cF h
      refine WC.cf rfl ?_
      refine WC.skip ?_
      have f38 := f15.stp S22 rfl rfl
      obtain rfl := Option.some.inj h
      exact DN.meet _ ⟨K21, las1_0, lus1_0, rfl, (Stp.refl _ _).wk rfl, f38⟩ fun a ha => (ha.more (ha.more (ha.more (ha.more (ha.more ha.nil rfl) rfl) rfl) rfl) rfl)
    rintro _ w24 ⟨K25, laq4_0, luq4_0, rfl, S26, f27⟩
    have h := hK23
    refine DN.block ?_
    refine DN.seq ?_
    refine WC.rs [(0, 2), (1, 2), (2, 2)] rfl ?_
    refine WO.pn 3 rfl ?_
    refine WO.fin ?_
    obtain rfl := Option.some.inj h
    refine DN.round fun a ha => ?_
    exact ⟨k, _, Nat.lt_succ_self _, ⟨K25, ((q4.1 : (List ByteArray)), (q4.2 : Int), ((IntKind.i64.wrap (s1.2.2 + 1)) : Int)), laq4_0, luq4_0, rfl, (S14.tr (S22.tr S26)).wk rfl, f27, hk16⟩, (ha.more (ha.more (ha.more (ha.more (ha.more ha.nil rfl) rfl) rfl) rfl) rfl)⟩
   | false =>
    intro h; replace h := cF h
    refine WC.cf rfl ?_
    refine WC.exit ?_
    refine DN.exitThen ?_
    refine DN.exitThen ?_
    obtain rfl := Option.some.inj h
    have h := hk16
    refine DN.hit ?_
    obtain rfl := Option.some.inj h
    exact DN.meet _ ⟨K13, ((s1.1 : (List ByteArray)), (s1.2.1 : Int), (s1.2.2 : Int)), las1_0, lus1_0, rfl, S14.wk rfl, f15, rfl⟩ fun a ha => (ha.more ha.nil rfl)
 rintro _ w8 ⟨K9, s3, las3_0, lus3_0, rfl, S10, f11, rfl⟩
 have h := hK6
 dsimp only [aft] at h
 refine DN.seq ?_
 refine WC.seq ?_
 refine WC.rs [(0, 2), (1, 2)] rfl ?_
 refine WO.pn 2 rfl ?_
 refine WO.fin ?_
 refine DN.seq ?_
 refine WC.ret ?_
 have f39 := hE.stp (S3.tr S10) rfl rfl
 refine DN.res (l := [.tmp 4]) Tryd.results51 (res_tmp rfl rfl) rfl ?_
 obtain rfl := Option.some.inj h
 exact ⟨K9, las3_0, lus3_0, rfl, f39, f11⟩

/- loop.example/g00869/spec.l1Read -/
theorem s_l1Read_ok {w : World} {κ : Col} {p0 : ByteArray}  {r : Int × Bool} (h : s_l1Read p0 = some r) : Ret Tryd.prog 52 [.string p0] w (fun v w' => ∃ (κ' : Col), v = .tuple #[.int .i64 r.1, .bool r.2] ∧ Ent κ w κ' w') := by
 unfold s_l1Read at h
 refine Ret.enter Tryd.func52 rfl Tryd.ntmps52 rfl ?_
 dsimp only [envOf]
 have hE := Ent.refl κ w
 refine WC.seq ?_
 refine WC.rs [(0, 2), (1, 2)] rfl ?_
 refine WO.pn 2 rfl ?_
 refine WO.fin ?_
 refine DN.seq ?_
 refine WC.seq ?_
 refine WC.rs [(0, 2)] rfl ?_
 refine WO.pn 1 rfl ?_
 refine WO.fin ?_
 refine DN.seq ?_
 refine WC.seq ?_
 refine WC.seq ?_
 refine WC.rs [(0, 2), (1, 2), (2, 2), (3, 2), (4, 2), (5, 2), (6, 2), (7, 2), (8, 2), (9, 2), (10, 2), (11, 2), (12, 2), (13, 2), (14, 2), (15, 2), (16, 2), (17, 2)] rfl ?_
 refine WO.pn 1 rfl ?_
 refine WO.k2 rfl rfl rfl rfl (rn_lenS Tryd.runUnderlying9 rfl rfl) ?_
 refine WO.pn 2 rfl ?_
 obtain ⟨p13, h, hK1⟩ := Option.bind_eq_some_iff.mp h
 refine WO.meet [(4, 2), (5, 2), (6, 2), (7, 2)] [(8, 2), (9, 2), (10, 2), (11, 2), (12, 2), (13, 2), (14, 2), (15, 2), (16, 2), (17, 2)] (fun L w' => L = [(0, .string p0), (4, .int .i64 0), (13, .bool p13)] ∧ ∃ κ', Stp [] κ w κ' w') trivial ?_ ?_
 ·
  revert h
  cases ht2 : decide ((p0.size : Int) < 1) with
  | true =>
   intro h; replace h := cT h
   refine WO.pn 4 rfl ?_
   obtain rfl := Option.some.inj h
   exact WO.met _ trivial ⟨rfl, _, (Stp.refl _ _).wk rfl⟩ fun a ha => (ha.more (ha.more (ha.more ha.nil rfl) rfl) rfl)
  | false =>
   intro h; replace h := cF h
   refine WO.pn 1 rfl ?_
   refine WO.k2 rfl rfl rfl rfl (rn_lenS Tryd.runUnderlying9 rfl rfl) ?_
   refine WO.pn 2 rfl ?_
   obtain rfl := Option.some.inj h
   exact WO.met _ trivial ⟨rfl, _, (Stp.refl _ _).wk rfl⟩ fun a ha => (ha.more (ha.more (ha.more ha.nil rfl) rfl) rfl)
 rintro _ w3 _ ⟨rfl, K4, S5⟩
 have h := hK1
 refine WO.pn 1 rfl ?_
 obtain ⟨p23, h, hK6⟩ := Option.bind_eq_some_iff.mp h
 refine WO.meet [(9, 2), (10, 2), (11, 2), (12, 2), (13, 2), (14, 2), (15, 2), (16, 2), (17, 2)] [] (fun L w' => L = [(0, .string p0), (4, .int .i64 0), (23, .bool p23)] ∧ ∃ κ', Stp [] K4 w3 κ' w') trivial ?_ ?_
 ·
  revert h
  cases ht7 : p13 with
  | true =>
   intro h; replace h := cT h
   refine WO.pn 9 rfl ?_
   obtain rfl := Option.some.inj h
   exact WO.met _ trivial ⟨rfl, _, (Stp.refl _ _).wk rfl⟩ fun a ha => (ha.more (ha.more (ha.more ha.nil rfl) rfl) rfl)
  | false =>
   intro h; replace h := cF h
   refine WO.pn 1 rfl ?_
   obtain ⟨x16, hx16, h⟩ := Option.bind_eq_some_iff.mp h
   refine WO.k2 rfl rfl rfl rfl (rn_indexSt Tryd.runUnderlying9 hx16 rfl rfl rfl) ?_
   refine WO.pn 2 rfl ?_
   obtain ⟨p22, h, hK8⟩ := Option.bind_eq_some_iff.mp h
   refine WO.meet [(13, 2), (14, 2), (15, 2), (16, 2)] [(17, 2)] (fun L w' => L = [(0, .string p0), (4, .int .i64 0), (14, .bool false), (22, .bool p22)] ∧ ∃ κ', Stp [] K4 w3 κ' w') trivial ?_ ?_
   ·
    revert h
    cases ht9 : (x16 == 48) with
    | true =>
     intro h; replace h := cT h
     refine WO.pn 1 rfl ?_
     refine WO.k2 rfl rfl rfl rfl (rn_lenS Tryd.runUnderlying9 rfl rfl) ?_
     refine WO.pn 2 rfl ?_
     obtain rfl := Option.some.inj h
     exact WO.met _ trivial ⟨rfl, _, (Stp.refl _ _).wk rfl⟩ fun a ha => (ha.more (ha.more (ha.more (ha.more ha.nil rfl) rfl) rfl) rfl)
    | false =>
     intro h; replace h := cF h
     refine WO.pn 4 rfl ?_
     obtain rfl := Option.some.inj h
     exact WO.met _ trivial ⟨rfl, _, (Stp.refl _ _).wk rfl⟩ fun a ha => (ha.more (ha.more (ha.more (ha.more ha.nil rfl) rfl) rfl) rfl)
   rintro _ w10 _ ⟨rfl, K11, S12⟩
   have h := hK8
   refine WO.pn 1 rfl ?_
   obtain rfl := Option.some.inj h
   exact WO.met _ trivial ⟨rfl, _, S12.wk rfl⟩ fun a ha => (ha.more (ha.more (ha.more ha.nil rfl) rfl) rfl)
 rintro _ w13 _ ⟨rfl, K14, S15⟩
 have h := hK6
 refine WO.fin ?_
 refine DN.seq ?_
 revert h
 cases ht16 : p23 with
 | true =>
  intro h; replace h := cT h
  refine WC.ct rfl ?_
  refine WC.seq ?_
  refine WC.rs [(0, 2), (1, 2)] rfl ?_
  refine WO.pn 2 rfl ?_
  refine WO.fin ?_
  refine DN.seq ?_
  refine WC.ret ?_
  refine DN.retThen ?_
  have f17 := hE.stp (S5.tr S15) rfl rfl
  refine DN.res (l := [.tmp 2, .tmp 3]) Tryd.results52 (res_tmp rfl (res_tmp rfl rfl)) rfl ?_
  obtain rfl := Option.some.inj h
  exact ⟨K14, rfl, f17⟩
 | false =>
  intro h; replace h := cF h
  refine WC.cf rfl ?_
  refine WC.skip ?_
  refine DN.seq ?_
  refine WC.seq ?_
  refine WC.seq ?_
  refine WC.rs [(0, 2)] rfl ?_
  refine WO.pn 1 rfl ?_
  refine WO.fin ?_
  refine DN.seq ?_
  obtain ⟨_, hr18, h⟩ := Option.bind_eq_some_iff.mp h
  have hN18 := rng_ok hr18
  obtain ⟨q2, hq20, hK19⟩ := Option.bind_eq_some_iff.mp h
  clear h
  refine WC.meet (fun L w' => ∃ (κ' : Col) (s3 : Int), L = [(4, .int .i64 s3)] ∧ Stp [] K14 w13 κ' w' ∧ q2 = Sum.inr s3) ?_ ?_
  ·
   refine WC.block ?_
   refine WC.loop (fun k L w' => ∃ (κ' : Col) (v5 : Int) (s1 : Int), L = [(0, .string p0), (4, .int .i64 s1), (5, .int .i64 v5)] ∧ Stp [] K14 w13 κ' w' ∧ 0 ≤ v5 ∧ Int.toNat ((p0.size : Int) - v5) = k ∧ cntM (s_l1Read_b0 p0) k v5 s1 = some q2) ⟨_, _, ⟨K14, 0, (0 : Int), rfl, (Stp.refl _ _).wk rfl, (by decide), (by simp), hq20⟩, fun a ha => (ha.more (ha.more (ha.more ha.nil rfl) rfl) rfl)⟩ ?_
   rintro k _ w24 ⟨K25, v5, s1, rfl, S26, hj18, hJ18, h⟩
   rcases k with _ | k
   ·
    have hk27 := h; obtain ⟨o18, h⟩ := ex_eq (Sum.inr (Sum.inl s1) : (Int × Bool) ⊕ ((Int) ⊕ (Int)))
    have hc18 : decide (v5 < (p0.size : Int)) = false := decide_eq_false (by omega)
    refine WC.seq ?_
    refine WC.seq ?_
    refine WC.rs [(0, 2), (1, 2), (2, 2), (3, 2)] rfl ?_
    refine WO.pn 2 rfl ?_
    refine WO.k2 rfl rfl rfl rfl (rn_lenS Tryd.runUnderlying9 rfl rfl) ?_
    refine WO.pn 1 rfl ?_
    refine WO.fin ?_
    refine DN.seq ?_
    refine WC.cf' rfl hc18 ?_
    refine WC.exit ?_
    refine DN.exitThen ?_
    refine DN.exitThen ?_
    obtain rfl := Option.some.inj h
    have h := hk27
    refine DN.hit ?_
    obtain rfl := Option.some.inj h
    exact DN.meet _ ⟨K25, (s1 : Int), rfl, S26.wk rfl, rfl⟩ fun a ha => (ha.more ha.nil rfl)
   ·
    obtain ⟨o18, h, hk27⟩ := Option.bind_eq_some_iff.mp h; unfold s_l1Read_b0 at h
    have hc18 : decide (v5 < (p0.size : Int)) = true := decide_eq_true (by omega)
    refine WC.seq ?_
    refine WC.seq ?_
    refine WC.rs [(0, 2), (1, 2), (2, 2), (3, 2)] rfl ?_
    refine WO.pn 2 rfl ?_
    refine WO.k2 rfl rfl rfl rfl (rn_lenS Tryd.runUnderlying9 rfl rfl) ?_
    refine WO.pn 1 rfl ?_
    refine WO.fin ?_
    refine DN.seq ?_
    refine WC.ct' rfl hc18 ?_
    refine WC.skip ?_
    refine DN.seq ?_
    refine WC.seq ?_
    refine WC.block ?_
    refine WC.seq ?_
    refine WC.seq ?_
    refine WC.rs [(0, 2), (1, 2), (2, 2), (3, 2), (4, 2), (5, 2), (6, 2), (7, 2), (8, 2), (9, 2)] rfl ?_
    refine WO.pn 2 rfl ?_
    obtain ⟨x32, hx32, h⟩ := Option.bind_eq_some_iff.mp h
    refine WO.k2 rfl rfl rfl rfl (rn_indexSt Tryd.runUnderlying9 hx32 rfl rfl rfl) ?_
    refine WO.pn 2 rfl ?_
    obtain ⟨p39, h, hK28⟩ := Option.bind_eq_some_iff.mp h
    refine WO.meet [(5, 2), (6, 2), (7, 2), (8, 2), (9, 2)] [] (fun L w' => L = [(0, .string p0), (4, .int .i64 s1), (5, .int .i64 v5), (39, .bool p39)] ∧ ∃ κ', Stp [] K25 w24 κ' w') trivial ?_ ?_
    ·
     revert h
     cases ht29 : decide (x32 < 48) with
     | true =>
      intro h; replace h := cT h
      refine WO.pn 5 rfl ?_
      obtain rfl := Option.some.inj h
      exact WO.met _ trivial ⟨rfl, _, (Stp.refl _ _).wk rfl⟩ fun a ha => (ha.more (ha.more (ha.more (ha.more ha.nil rfl) rfl) rfl) rfl)
     | false =>
      intro h; replace h := cF h
      refine WO.pn 2 rfl ?_
      obtain ⟨x37, hx37, h⟩ := Option.bind_eq_some_iff.mp h
      refine WO.k2 rfl rfl rfl rfl (rn_indexSt Tryd.runUnderlying9 hx37 rfl rfl rfl) ?_
      refine WO.pn 2 rfl ?_
      obtain rfl := Option.some.inj h
      exact WO.met _ trivial ⟨rfl, _, (Stp.refl _ _).wk rfl⟩ fun a ha => (ha.more (ha.more (ha.more (ha.more ha.nil rfl) rfl) rfl) rfl)
    rintro _ w30 _ ⟨rfl, K31, S32⟩
    have h := hK28
    refine WO.fin ?_
    refine DN.seq ?_
    revert h
    cases ht33 : p39 with
    | true =>
     intro h; replace h := cT h
     refine WC.ct rfl ?_
     refine WC.seq ?_
     refine WC.rs [(0, 2), (1, 2)] rfl ?_
     refine WO.pn 2 rfl ?_
     refine WO.fin ?_
     refine DN.seq ?_
     refine WC.ret ?_
     refine DN.retThen ?_
     refine DN.retBlock ?_
     refine DN.retThen ?_
     refine DN.retThen ?_
     obtain rfl := Option.some.inj h
     obtain rfl := Option.some.inj hk27
     have h := hK19
     dsimp only [aft] at h
     refine DN.retBlock ?_
     refine DN.retMeet ?_
     refine DN.retThen ?_
     have f34 := hE.stp (S5.tr (S15.tr (S26.tr S32))) rfl rfl
     refine DN.res (l := [.tmp 2, .tmp 3]) Tryd.results52 (res_tmp rfl (res_tmp rfl rfl)) rfl ?_
     obtain rfl := Option.some.inj h
     exact ⟨K31, rfl, f34⟩
    | false =>
     intro h; replace h := cF h
     refine WC.cf rfl ?_
     refine WC.skip ?_
     refine DN.seq ?_
     refine WC.rs [(0, 2), (1, 2), (2, 2), (3, 2), (4, 2), (5, 2), (6, 2), (7, 2), (8, 2)] rfl ?_
     refine WO.pn 4 rfl ?_
     obtain ⟨x44, hx44, h⟩ := Option.bind_eq_some_iff.mp h
     refine WO.k2 rfl rfl rfl rfl (rn_indexSt Tryd.runUnderlying9 hx44 rfl rfl rfl) ?_
     refine WO.pn 1 rfl ?_
     refine WO.k2 rfl rfl rfl rfl (rn_conv Tryd.runUnderlying5 Tryd.runUnderlying2 rfl rfl) ?_
     refine WO.pn 2 rfl ?_
     refine WO.fin ?_
     refine DN.block ?_
     refine DN.seq ?_
     refine WC.rs [(0, 2), (1, 2), (2, 2)] rfl ?_
     refine WO.pn 3 rfl ?_
     refine WO.fin ?_
     have hw18 : IntKind.wrap .i64 (v5 + 1) = v5 + 1 := wr1 hj18 (of_decide_eq_true hc18) hN18
     rw [hw18]
     have hc18 := of_decide_eq_true hc18
     obtain rfl := Option.some.inj h
     refine DN.round fun a ha => ?_
     exact ⟨k, _, Nat.lt_succ_self _, ⟨K31, v5 + 1, ((IntKind.i64.wrap ((IntKind.i64.wrap (s1 * 10)) + (IntKind.i64.wrap (IntKind.u8.wrap (x44 - 48))))) : Int), rfl, (S26.tr S32).wk rfl, by omega, by omega, hk27⟩, (ha.more (ha.more (ha.more ha.nil rfl) rfl) rfl)⟩
  rintro _ w21 ⟨K22, s3, rfl, S23, rfl⟩
  have h := hK19
  dsimp only [aft] at h
  refine DN.seq ?_
  refine WC.seq ?_
  refine WC.rs [(0, 2), (1, 2), (2, 2)] rfl ?_
  refine WO.pn 3 rfl ?_
  refine WO.fin ?_
  refine DN.seq ?_
  refine WC.ret ?_
  have f35 := hE.stp (S5.tr (S15.tr S23)) rfl rfl
  refine DN.res (l := [.tmp 2, .tmp 3]) Tryd.results52 (res_tmp rfl (res_tmp rfl rfl)) rfl ?_
  obtain rfl := Option.some.inj h
  exact ⟨K22, rfl, f35⟩

end Go.Proofs.YtnpmbkaoeihdmaaDoor
