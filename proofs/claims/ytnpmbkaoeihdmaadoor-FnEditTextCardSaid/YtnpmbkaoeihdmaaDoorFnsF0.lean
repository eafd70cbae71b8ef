/- The walks, part 0. By program. -/
import Derived.Test.YtnpmbkaoeihdmaaDoorText
import Derived.Test.YtnpmbkaoeihdmaaDoorShelf
import Derived.Test.YtnpmbkaoeihdmaaDoorEqs
import Derived.Test.YtnpmbkaoeihdmaaDoorFnsFM
set_option linter.unusedVariables false
set_option linter.unusedSimpArgs false
namespace Go.Proofs.YtnpmbkaoeihdmaaDoor
open Go Go.Wk Go.Proofs
set_option maxRecDepth 100000
set_option maxHeartbeats 1000000

/- loop.example/g00869/laws.big -/
theorem l_big_ok {w : World} {κ : Col} {a0 : Option Addr} {u0 : Nat} {p0 : (List Int)} (g0 : Rd (Rp.int .u8) κ w 0 a0 u0 p0) {r : Bool} (h : l_big p0 = some r) : Ret Tryd.prog 9 [.slice a0 p0.length u0] w (fun v w' => ∃ (κ' : Col), v = .bool r ∧ Ent κ w κ' w') := by
 unfold l_big at h
 refine Ret.enter Tryd.func9 rfl Tryd.ntmps9 rfl ?_
 dsimp only [envOf]
 have hE := Ent.refl κ w
 refine WC.seq ?_
 refine WC.rs [(0, 2)] rfl ?_
 refine WO.pn 1 rfl ?_
 refine WO.fin ?_
 refine DN.seq ?_
 refine WC.seq ?_
 refine WC.rs [(0, 2), (1, 2), (2, 2), (3, 2)] rfl ?_
 refine WO.pn 1 rfl ?_
 refine WO.k2 rfl rfl rfl rfl (rn_len Tryd.runUnderlying22 rfl rfl) ?_
 refine WO.pn 2 rfl ?_
 refine WO.fin ?_
 refine DN.seq ?_
 refine WC.ret ?_
 refine DN.res (l := [.tmp 2]) Tryd.results9 (res_tmp rfl rfl) rfl ?_
 obtain rfl := Option.some.inj h
 exact ⟨κ, rfl, hE⟩

/- loop.example/g00869/spec.l1New -/
theorem s_l1New_ok {w : World} {κ : Col} {a0 : Option Addr} {u0 : Nat} {p0 : (List Int)} (g0 : Rd (Rp.int .u8) κ w 0 a0 u0 p0) {r : l1Cur} (h : s_l1New p0 = some r) : Ret Tryd.prog 32 [.slice a0 p0.length u0] w (fun v w' => ∃ (κ' : Col) (ra0 : Option Addr) (ru0 : Nat) (rb1 : Nat), v = .pointer (some ⟨rb1, 0, none⟩) ∧ Ent κ w κ' w' ∧ Rd (Rp.int .u8) κ' w' 0 ra0 ru0 r.b ∧ (Bc κ' w' 3 rb1 96 [.slice ra0 r.b.length ru0, .int .i64 r.i, .int .i64 r.h])) := by
 unfold s_l1New at h
 refine Ret.enter Tryd.func32 rfl Tryd.ntmps32 rfl ?_
 dsimp only [envOf]
 have hE := Ent.refl κ w
 refine WC.seq ?_
 refine WC.rs [(0, 2)] rfl ?_
 refine WO.pn 1 rfl ?_
 refine WO.fin ?_
 refine DN.seq ?_
 refine WC.seq ?_
 refine WC.rs [(0, 2), (1, 2), (2, 2), (3, 2)] rfl ?_
 refine WO.pn 1 rfl ?_
 refine WO.k2 rfl rfl rfl rfl (rn_len Tryd.runUnderlying22 rfl rfl) ?_
 refine WO.pn 2 rfl ?_
 refine WO.fin ?_
 refine DN.seq ?_
 refine WC.seq ?_
 refine WC.seq ?_
 refine WC.rs [(0, 2)] rfl ?_
 refine WO.pn 1 rfl ?_
 refine WO.fin ?_
 refine DN.seq ?_
 have hN1 : (p0.length : Int) ≤ 9223372036854775807 := g0.len_le
 obtain ⟨q2, hq3, hK2⟩ := Option.bind_eq_some_iff.mp h
 clear h
 refine WC.meet (fun L w' => ∃ (κ' : Col) (s3 : Int), L = [(0, .slice a0 p0.length u0), (3, .int .i64 s3)] ∧ Stp [] κ w κ' w' ∧ q2 = Sum.inr s3) ?_ ?_
 ·
  refine WC.block ?_
  refine WC.loop (fun k L w' => ∃ (κ' : Col) (v4 : Int) (s1 : Int), L = [(0, .slice a0 p0.length u0), (3, .int .i64 s1), (4, .int .i64 v4)] ∧ Stp [] κ w κ' w' ∧ 0 ≤ v4 ∧ Int.toNat ((p0.length : Int) - v4) = k ∧ cntM (s_l1New_b0 p0) k v4 s1 = some q2) ⟨_, _, ⟨κ, 0, ((IntKind.i64.wrap (560017 + (p0.length : Int))) : Int), rfl, (Stp.refl _ _).wk rfl, (by decide), (by simp), hq3⟩, fun a ha => (ha.more (ha.more (ha.more ha.nil rfl) rfl) rfl)⟩ ?_
  rintro k _ w7 ⟨K8, v4, s1, rfl, S9, hj1, hJ1, h⟩
  rcases k with _ | k
  ·
   have hk10 := h; obtain ⟨o1, h⟩ := ex_eq (Sum.inr (Sum.inl s1) : l1Cur ⊕ ((Int) ⊕ (Int)))
   have hc1 : decide (v4 < (p0.length : Int)) = false := decide_eq_false (by omega)
   refine WC.seq ?_
   refine WC.seq ?_
   refine WC.rs [(0, 2), (1, 2), (2, 2), (3, 2)] rfl ?_
   refine WO.pn 2 rfl ?_
   refine WO.k2 rfl rfl rfl rfl (rn_len Tryd.runUnderlying22 rfl rfl) ?_
   refine WO.pn 1 rfl ?_
   refine WO.fin ?_
   refine DN.seq ?_
   refine WC.cf' rfl hc1 ?_
   refine WC.exit ?_
   refine DN.exitThen ?_
   refine DN.exitThen ?_
   obtain rfl := Option.some.inj h
   have h := hk10
   refine DN.hit ?_
   obtain rfl := Option.some.inj h
   exact DN.meet _ ⟨K8, (s1 : Int), rfl, S9.wk rfl, rfl⟩ fun a ha => (ha.more (ha.more ha.nil rfl) rfl)
  ·
   obtain ⟨o1, h, hk10⟩ := Option.bind_eq_some_iff.mp h; unfold s_l1New_b0 at h
   have hc1 : decide (v4 < (p0.length : Int)) = true := decide_eq_true (by omega)
   refine WC.seq ?_
   refine WC.seq ?_
   refine WC.rs [(0, 2), (1, 2), (2, 2), (3, 2)] rfl ?_
   refine WO.pn 2 rfl ?_
   refine WO.k2 rfl rfl rfl rfl (rn_len Tryd.runUnderlying22 rfl rfl) ?_
   refine WO.pn 1 rfl ?_
   refine WO.fin ?_
   refine DN.seq ?_
   refine WC.ct' rfl hc1 ?_
   refine WC.skip ?_
   refine DN.seq ?_
   refine WC.seq ?_
   refine WC.block ?_
   refine WC.rs [(0, 2), (1, 2), (2, 2), (3, 2), (4, 2), (5, 1), (6, 2), (7, 2), (8, 2), (9, 2), (10, 2)] rfl ?_
   refine WO.pn 4 rfl ?_
   obtain ⟨x18, hx18, h⟩ := Option.bind_eq_some_iff.mp h
   refine WO.k2 rfl rfl rfl rfl (rn_index g0 hx18 Tryd.runUnderlying22 Tryd.sizeOf5 rfl rfl rfl rfl) ?_
   have f11 := g0.stp S9 rfl rfl
   refine WO.k1 trivial rfl rfl rfl rfl (rn_ld Tryd.isAgg5 rfl rfl (hvE (f11.gInt hx18))) ?_
   refine WO.k2 rfl rfl rfl rfl (rn_conv Tryd.runUnderlying5 Tryd.runUnderlying2 rfl rfl) ?_
   refine WO.pn 4 rfl ?_
   refine WO.fin ?_
   refine DN.block ?_
   refine DN.seq ?_
   refine WC.rs [(0, 2), (1, 2), (2, 2)] rfl ?_
   refine WO.pn 3 rfl ?_
   refine WO.fin ?_
   have hw1 : IntKind.wrap .i64 (v4 + 1) = v4 + 1 := wr1 hj1 (of_decide_eq_true hc1) hN1
   rw [hw1]
   have hc1 := of_decide_eq_true hc1
   obtain rfl := Option.some.inj h
   refine DN.round fun a ha => ?_
   exact ⟨k, _, Nat.lt_succ_self _, ⟨K8, v4 + 1, ((IntKind.i64.wrap (BitVec.toNat (BitVec.ofInt (IntKind.bits IntKind.i64) (IntKind.i64.wrap ((IntKind.i64.wrap ((IntKind.i64.wrap (s1 * 313)) + (IntKind.i64.wrap x18))) + 11)) &&& BitVec.ofInt (IntKind.bits IntKind.i64) 1073741823))) : Int), rfl, S9.wk rfl, by omega, by omega, hk10⟩, (ha.more (ha.more (ha.more ha.nil rfl) rfl) rfl)⟩
 rintro _ w4 ⟨K5, s3, rfl, S6, rfl⟩
 have h := hK2
 dsimp only [aft] at h
 refine DN.seq ?_
 refine WC.seq ?_
 refine WC.rs [(0, 2), (1, 2), (2, 2), (3, 1), (4, 2)] rfl ?_
 refine WO.pn 2 rfl ?_
 refine WO.k2 rfl rfl rfl rfl (rn_build (parts := [(0, .tmp 24), (2, .tmp 25)]) (cells := [.slice a0 p0.length u0, .int .i64 0, .int .i64 s3]) rfl rfl (by kernel_rfl)) ?_
 refine WO.box (κ := K5) 2 rfl rfl rfl rfl rfl rfl rfl fun b27 w12 K13 S14 f15 => ⟨trivial, ?_⟩
 refine WO.pn 1 rfl ?_
 refine WO.fin ?_
 refine DN.seq ?_
 refine WC.ret ?_
 have f16 := hE.stp (S6.tr S14) rfl rfl
 have f17 := g0.stp (S6.tr S14) rfl rfl
 refine DN.res (l := [.tmp 2]) Tryd.results32 (res_tmp rfl rfl) rfl ?_
 obtain rfl := Option.some.inj h
 exact ⟨(fun b => ren [(2, 3)] (K13 b)), a0, u0, b27, rfl, (f16.map (ren [(2, 3)]) rfl rfl), (f17.map (ren [(2, 3)]) rfl rfl), (f15.map (ren [(2, 3)]) rfl rfl)⟩

/- loop.example/g00869/spec.l1Byte -/
theorem s_l1Byte_ok {w : World} {κ : Col} {a0_0 : Option Addr} {u0_0 : Nat} {p0 : l1Cur} {b0 : Nat} (g0_0 : Rd (Rp.int .u8) κ w 0 a0_0 u0_0 p0.b) (gb0 : Bc κ w 2 b0 96 [.slice a0_0 p0.b.length u0_0, .int .i64 p0.i, .int .i64 p0.h]) {r : Int × Int × Int} (h : s_l1Byte p0 = some r) : Ret Tryd.prog 61 [.pointer (some ⟨b0, 0, none⟩)] w (fun v w' => ∃ (κ' : Col), v = .int .i64 r.1 ∧ Ent κ w κ' w' ∧ Bc κ' w' 2 b0 96 [.slice a0_0 p0.b.length u0_0, .int .i64 r.2.1, .int .i64 r.2.2]) := by
 unfold s_l1Byte at h
 refine Ret.enter Tryd.func61 rfl Tryd.ntmps61 rfl ?_
 dsimp only [envOf]
 have hE := Ent.refl κ w
 refine WC.seq ?_
 refine WC.rs [(0, 2)] rfl ?_
 refine WO.pn 1 rfl ?_
 refine WO.fin ?_
 refine DN.seq ?_
 refine WC.seq ?_
 refine WC.rs [(0, 2), (1, 2), (2, 2), (3, 2), (4, 1), (5, 2), (6, 2), (7, 2), (8, 2), (9, 1)] rfl ?_
 refine WO.pn 2 rfl ?_
 refine WO.k2 rfl rfl rfl rfl (rn_nilCheck rfl rfl) ?_
 refine WO.k2 rfl rfl rfl rfl (rn_fieldAddr Tryd.runUnderlying96 rfl Tryd.sizeOf2 rfl rfl) ?_
 refine WO.k1 trivial rfl rfl rfl rfl (rn_ld Tryd.isAgg2 rfl rfl (hvE (gb0.ld 2 rfl rfl))) ?_
 refine WO.pn 2 rfl ?_
 refine WO.k2 rfl rfl rfl rfl (rn_nilCheck rfl rfl) ?_
 refine WO.k2 rfl rfl rfl rfl (rn_fieldAddr Tryd.runUnderlying96 rfl Tryd.sizeOf2 rfl rfl) ?_
 refine WO.stB (κ := κ) 2 (off := 2) (vc := [.int .i64 (IntKind.i64.wrap ((IntKind.i64.wrap (p0.h * 6364136223846793005)) + 1442695040888963407))]) (cs' := [.slice a0_0 p0.b.length u0_0, .int .i64 p0.i, .int .i64 (IntKind.i64.wrap ((IntKind.i64.wrap (p0.h * 6364136223846793005)) + 1442695040888963407))]) rfl rfl rfl rfl rfl rfl rfl Tryd.sizeOf2 rfl rfl gb0 rfl rfl fun w1 S2 f3 => ⟨trivial, ?_⟩
 refine WO.fin ?_
 refine DN.seq ?_
 refine WC.seq ?_
 refine WC.rx (κ := κ) [2] none [(0, 2), (1, 2), (2, 2), (5, 2), (6, 2), (7, 2), (3, 0), (4, 2), (8, 0), (9, 2), (10, 2), (11, 2), (12, 2)] [] (by kernel_rfl) (by kernel_rfl) fun w5 S4 => ?_
 refine WO.pn 1 rfl ?_
 refine WO.k2 rfl rfl rfl rfl (rn_nilCheck rfl rfl) ?_
 refine WO.k2 rfl rfl rfl rfl (rn_fieldAddr Tryd.runUnderlying96 rfl Tryd.sizeOf2 rfl rfl) ?_
 refine WO.pn 1 rfl ?_
 refine WO.k2 rfl rfl rfl rfl (rn_nilCheck rfl rfl) ?_
 refine WO.k2 rfl rfl rfl rfl (rn_fieldAddr Tryd.runUnderlying96 rfl Tryd.sizeOf2 rfl rfl) ?_
 have f6 := f3.stp S4 rfl rfl
 refine WO.k0 rfl rfl rfl rfl (rn_ld Tryd.isAgg2 rfl rfl (hvC (f6.ld 2 rfl rfl) rfl)) ?_
 refine WO.k2 rfl rfl rfl rfl (rn_shr rfl rfl rfl (by decide)) ?_
 refine WO.k0 rfl rfl rfl rfl (rn_ld Tryd.isAgg2 rfl rfl (hvC (f6.ld 2 rfl rfl) rfl)) ?_
 refine WO.k2 rfl rfl rfl rfl (rn_shr rfl rfl rfl (by decide)) ?_
 refine WO.pn 3 rfl ?_
 refine WO.nx ?_
 refine WO.fin ?_
 refine DN.seq ?_
 refine WC.seq ?_
 refine WC.seq ?_
 refine WC.rx (κ := κ) [2] none [(0, 2), (1, 2), (2, 2), (4, 2), (5, 2), (6, 2), (3, 0), (7, 0), (8, 2), (9, 2)] [] (by kernel_rfl) (by kernel_rfl) fun w8 S7 => ?_
 refine WO.pn 1 rfl ?_
 refine WO.k2 rfl rfl rfl rfl (rn_nilCheck rfl rfl) ?_
 refine WO.k2 rfl rfl rfl rfl (rn_fieldAddr Tryd.runUnderlying96 rfl Tryd.sizeOf3 rfl rfl) ?_
 refine WO.pn 1 rfl ?_
 refine WO.k2 rfl rfl rfl rfl (rn_nilCheck rfl rfl) ?_
 refine WO.k2 rfl rfl rfl rfl (rn_fieldAddr Tryd.runUnderlying96 rfl Tryd.sizeOf22 rfl rfl) ?_
 have f9 := f6.stp S7 rfl rfl
 refine WO.k0 rfl rfl rfl rfl (rn_ld Tryd.isAgg3 rfl rfl (hvC (f9.ld 1 rfl rfl) rfl)) ?_
 refine WO.k0 rfl rfl rfl rfl (rn_ld Tryd.isAgg22 rfl rfl (hvC (f9.ld 0 rfl rfl) rfl)) ?_
 refine WO.k2 rfl rfl rfl rfl (rn_len Tryd.runUnderlying22 rfl rfl) ?_
 refine WO.pn 1 rfl ?_
 refine WO.nx ?_
 refine WO.fin ?_
 refine DN.seq ?_
 obtain ⟨q1, h, hK10⟩ := Option.bind_eq_some_iff.mp h
 refine WC.meet (fun L w' => ∃ (κ' : Col), L = [(0, .pointer (some ⟨b0, 0, none⟩)), (3, .int .i64 q1.1)] ∧ Stp [2] κ w8 κ' w' ∧ Bc κ' w' 2 b0 96 [.slice a0_0 p0.b.length u0_0, .int .i64 q1.2, .int .i64 (IntKind.i64.wrap ((IntKind.i64.wrap (p0.h * 6364136223846793005)) + 1442695040888963407))]) ?_ ?_
 ·
  revert h
  cases ht15 : decide (p0.i < (p0.b.length : Int)) with
  | true =>
   intro h; replace h := cT h
   refine WC.ct rfl ?_
   refine WC.seq ?_
   refine WC.rx (κ := κ) [0, 2] none [(0, 2), (1, 2), (2, 2), (3, 2), (5, 2), (6, 2), (7, 2), (4, 0), (8, 0), (9, 2), (10, 0), (11, 2), (12, 2), (13, 2), (14, 2)] [] (by kernel_rfl) (by kernel_rfl) fun w17 S16 => ?_
   refine WO.pn 2 rfl ?_
   refine WO.k2 rfl rfl rfl rfl (rn_nilCheck rfl rfl) ?_
   refine WO.k2 rfl rfl rfl rfl (rn_fieldAddr Tryd.runUnderlying96 rfl Tryd.sizeOf22 rfl rfl) ?_
   refine WO.pn 1 rfl ?_
   refine WO.k2 rfl rfl rfl rfl (rn_nilCheck rfl rfl) ?_
   refine WO.k2 rfl rfl rfl rfl (rn_fieldAddr Tryd.runUnderlying96 rfl Tryd.sizeOf3 rfl rfl) ?_
   have f18 := f9.stp S16 rfl rfl
   refine WO.k0 rfl rfl rfl rfl (rn_ld Tryd.isAgg22 rfl rfl (hvC (f18.ld 0 rfl rfl) rfl)) ?_
   refine WO.k0 rfl rfl rfl rfl (rn_ld Tryd.isAgg3 rfl rfl (hvC (f18.ld 1 rfl rfl) rfl)) ?_
   obtain ⟨x44, hx44, h⟩ := Option.bind_eq_some_iff.mp h
   refine WO.k2 rfl rfl rfl rfl (rn_index g0_0 hx44 Tryd.runUnderlying22 Tryd.sizeOf5 rfl rfl rfl rfl) ?_
   have f19 := g0_0.stp (S2.tr (S4.tr (S7.tr S16))) rfl rfl
   refine WO.k0 rfl rfl rfl rfl (rn_ld Tryd.isAgg5 rfl rfl (hvC (f19.gInt hx44) rfl)) ?_
   refine WO.k2 rfl rfl rfl rfl (rn_conv Tryd.runUnderlying5 Tryd.runUnderlying2 rfl rfl) ?_
   refine WO.pn 3 rfl ?_
   refine WO.nx ?_
   refine WO.fin ?_
   refine DN.seq ?_
   refine WC.rs [(0, 2), (1, 2), (2, 2), (3, 2), (4, 1), (5, 2), (6, 2), (7, 2), (8, 1)] rfl ?_
   refine WO.pn 2 rfl ?_
   refine WO.k2 rfl rfl rfl rfl (rn_nilCheck rfl rfl) ?_
   refine WO.k2 rfl rfl rfl rfl (rn_fieldAddr Tryd.runUnderlying96 rfl Tryd.sizeOf3 rfl rfl) ?_
   refine WO.k1 trivial rfl rfl rfl rfl (rn_ld Tryd.isAgg3 rfl rfl (hvE (f18.ld 1 rfl rfl))) ?_
   refine WO.pn 1 rfl ?_
   refine WO.k2 rfl rfl rfl rfl (rn_nilCheck rfl rfl) ?_
   refine WO.k2 rfl rfl rfl rfl (rn_fieldAddr Tryd.runUnderlying96 rfl Tryd.sizeOf3 rfl rfl) ?_
   refine WO.stB (κ := κ) 2 (off := 1) (vc := [.int .i64 (IntKind.i64.wrap (p0.i + 1))]) (cs' := [.slice a0_0 p0.b.length u0_0, .int .i64 (IntKind.i64.wrap (p0.i + 1)), .int .i64 (IntKind.i64.wrap ((IntKind.i64.wrap (p0.h * 6364136223846793005)) + 1442695040888963407))]) rfl rfl rfl rfl rfl rfl rfl Tryd.sizeOf3 rfl rfl f18 rfl rfl fun w20 S21 f22 => ⟨trivial, ?_⟩
   refine WO.fin ?_
   obtain rfl := Option.some.inj h
   exact DN.meet _ ⟨κ, rfl, (S16.tr S21).wk rfl, f22⟩ fun a ha => (ha.more (ha.more ha.nil rfl) rfl)
  | false =>
   intro h; replace h := cF h
   refine WC.cf rfl ?_
   refine WC.skip ?_
   obtain rfl := Option.some.inj h
   exact DN.meet _ ⟨κ, rfl, (Stp.refl _ _).wk rfl, f9⟩ fun a ha => (ha.more (ha.more ha.nil rfl) rfl)
 rintro _ w11 ⟨K12, rfl, S13, f14⟩
 have h := hK10
 refine DN.seq ?_
 refine WC.seq ?_
 refine WC.rs [(0, 2), (1, 2)] rfl ?_
 refine WO.pn 2 rfl ?_
 refine WO.fin ?_
 refine DN.seq ?_
 refine WC.ret ?_
 have f23 := hE.stp (S2.tr (S4.tr (S7.tr S13))) rfl rfl
 refine DN.res (l := [.tmp 2]) Tryd.results61 (res_tmp rfl rfl) rfl ?_
 obtain rfl := Option.some.inj h
 exact ⟨K12, rfl, f23, f14⟩

/- loop.example/g00869/spec.l1Below -/
theorem s_l1Below_ok {w : World} {κ : Col} {a0_0 : Option Addr} {u0_0 : Nat} {p0 : l1Cur} {p1 : Int} {b0 : Nat} (g0_0 : Rd (Rp.int .u8) κ w 0 a0_0 u0_0 p0.b) (gb0 : Bc κ w 2 b0 96 [.slice a0_0 p0.b.length u0_0, .int .i64 p0.i, .int .i64 p0.h]) {r : Int × Int × Int} (h : s_l1Below p0 p1 = some r) : Ret Tryd.prog 35 [.pointer (some ⟨b0, 0, none⟩), .int .i64 p1] w (fun v w' => ∃ (κ' : Col), v = .int .i64 r.1 ∧ Ent κ w κ' w' ∧ Bc κ' w' 2 b0 96 [.slice a0_0 p0.b.length u0_0, .int .i64 r.2.1, .int .i64 r.2.2]) := by
 unfold s_l1Below at h
 refine Ret.enter Tryd.func35 rfl Tryd.ntmps35 rfl ?_
 dsimp only [envOf]
 have hE := Ent.refl κ w
 refine WC.seq ?_
 refine WC.rs [(0, 2)] rfl ?_
 refine WO.pn 1 rfl ?_
 refine WO.fin ?_
 refine DN.seq ?_
 refine WC.seq ?_
 refine WC.seq ?_
 refine WC.rs [(0, 2), (1, 2)] rfl ?_
 refine WO.pn 2 rfl ?_
 refine WO.fin ?_
 refine DN.seq ?_
 revert h
 cases ht1 : decide (p1 ≤ 0) with
 | true =>
  intro h; replace h := cT h
  refine WC.ct rfl ?_
  refine WC.seq ?_
  refine WC.rs [(0, 2)] rfl ?_
  refine WO.pn 1 rfl ?_
  refine WO.fin ?_
  refine DN.seq ?_
  refine WC.ret ?_
  refine DN.retThen ?_
  refine DN.res (l := [.tmp 4]) Tryd.results35 (res_tmp rfl rfl) rfl ?_
  obtain rfl := Option.some.inj h
  exact ⟨κ, rfl, hE, gb0⟩
 | false =>
  intro h; replace h := cF h
  refine WC.cf rfl ?_
  refine WC.skip ?_
  refine DN.seq ?_
  refine WC.seq ?_
  refine WC.seq ?_
  refine WC.rs [(0, 2), (1, 2)] rfl ?_
  refine WO.pn 2 rfl ?_
  refine WO.fin ?_
  refine DN.seq ?_
  revert h
  cases ht2 : decide (p1 ≤ 256) with
  | true =>
   intro h; replace h := cT h
   refine WC.ct rfl ?_
   refine WC.seq ?_
   refine WC.rs [(0, 2), (1, 1), (2, 2), (3, 2), (4, 2)] rfl ?_
   refine WO.pn 1 rfl ?_
   obtain ⟨x14, hx14, h⟩ := Option.bind_eq_some_iff.mp h
   refine WO.call rfl rfl rfl rfl rfl rfl Tryd.call61 (s_l1Byte_ok (κ := fun b => mp [(2, 2)] 0 (κ b)) (p0 := p0) (Sl.map g0_0 (mp [(2, 2)] 0) rfl rfl) (gb0.map (mp [(2, 2)] 0) rfl rfl) hx14) ?_
   rintro _ w3 ⟨k4, rfl, e5, f6⟩
   obtain ⟨K7, S8, m9⟩ := Ent.mixed (l := [(2, 2)]) (κ := κ) e5 3 rfl
   refine ⟨trivial, ?_⟩
   have f11 := f6.mx m9 rfl (rfl : 3 + 2 = 5)
   refine WO.pn 1 rfl ?_
   obtain ⟨_z16, hz16, h⟩ := Option.bind_eq_some_iff.mp h
   refine WO.k2 rfl rfl rfl rfl (rn_rem rfl rfl rfl (nz_ok hz16)) ?_
   refine WO.pn 1 rfl ?_
   refine WO.fin ?_
   refine DN.seq ?_
   refine WC.ret ?_
   refine DN.retThen ?_
   have f12 := hE.stp S8 rfl rfl
   refine DN.res (l := [.tmp 4]) Tryd.results35 (res_tmp rfl rfl) rfl ?_
   obtain rfl := Option.some.inj h
   exact ⟨(fun b => ren [(5, 2)] (K7 b)), rfl, (f12.map (ren [(5, 2)]) rfl rfl), (f11.map (ren [(5, 2)]) rfl rfl)⟩
  | false =>
   intro h; replace h := cF h
   refine WC.cf rfl ?_
   refine WC.skip ?_
   refine DN.seq ?_
   refine WC.seq ?_
   refine WC.rs [(0, 2), (1, 1), (2, 2)] rfl ?_
   refine WO.pn 1 rfl ?_
   obtain ⟨x18, hx18, h⟩ := Option.bind_eq_some_iff.mp h
   refine WO.call rfl rfl rfl rfl rfl rfl Tryd.call61 (s_l1Byte_ok (κ := fun b => mp [(2, 2)] 0 (κ b)) (p0 := p0) (Sl.map g0_0 (mp [(2, 2)] 0) rfl rfl) (gb0.map (mp [(2, 2)] 0) rfl rfl) hx18) ?_
   rintro _ w13 ⟨k14, rfl, e15, f16⟩
   obtain ⟨K17, S18, m19⟩ := Ent.mixed (l := [(2, 2)]) (κ := κ) e15 3 rfl
   refine ⟨trivial, ?_⟩
   have f21 := f16.mx m19 rfl (rfl : 3 + 2 = 5)
   refine WO.pn 1 rfl ?_
   refine WO.fin ?_
   refine DN.seq ?_
   refine WC.seq ?_
   refine WC.rs [(0, 2), (1, 1), (2, 2)] rfl ?_
   refine WO.pn 1 rfl ?_
   obtain ⟨x20, hx20, h⟩ := Option.bind_eq_some_iff.mp h
   have f22 := g0_0.stp S18 rfl rfl
   refine WO.call rfl rfl rfl rfl rfl rfl Tryd.call61 (s_l1Byte_ok (κ := fun b => mp [(5, 2)] 0 (K17 b)) (p0 := (⟨p0.b, x18.2.1, x18.2.2⟩ : l1Cur)) (Sl.map f22 (mp [(5, 2)] 0) rfl rfl) (f21.map (mp [(5, 2)] 0) rfl rfl) hx20) ?_
   rintro _ w23 ⟨k24, rfl, e25, f26⟩
   obtain ⟨K27, S28, m29⟩ := Ent.mixed (l := [(5, 2)]) (κ := K17) e25 6 rfl
   refine ⟨trivial, ?_⟩
   have f31 := f26.mx m29 rfl (rfl : 6 + 2 = 8)
   refine WO.pn 1 rfl ?_
   refine WO.fin ?_
   refine DN.seq ?_
   refine WC.seq ?_
   refine WC.rs [(0, 2), (1, 1), (2, 2)] rfl ?_
   refine WO.pn 1 rfl ?_
   obtain ⟨x22, hx22, h⟩ := Option.bind_eq_some_iff.mp h
   have f32 := f22.stp S28 rfl rfl
   refine WO.call rfl rfl rfl rfl rfl rfl Tryd.call61 (s_l1Byte_ok (κ := fun b => mp [(8, 2)] 0 (K27 b)) (p0 := (⟨p0.b, x20.2.1, x20.2.2⟩ : l1Cur)) (Sl.map f32 (mp [(8, 2)] 0) rfl rfl) (f31.map (mp [(8, 2)] 0) rfl rfl) hx22) ?_
   rintro _ w33 ⟨k34, rfl, e35, f36⟩
   obtain ⟨K37, S38, m39⟩ := Ent.mixed (l := [(8, 2)]) (κ := K27) e35 9 rfl
   refine ⟨trivial, ?_⟩
   have f41 := f36.mx m39 rfl (rfl : 9 + 2 = 11)
   refine WO.pn 1 rfl ?_
   refine WO.fin ?_
   refine DN.seq ?_
   refine WC.seq ?_
   refine WC.rs [(0, 2), (1, 1), (2, 2)] rfl ?_
   refine WO.pn 1 rfl ?_
   obtain ⟨x24, hx24, h⟩ := Option.bind_eq_some_iff.mp h
   have f42 := f32.stp S38 rfl rfl
   refine WO.call rfl rfl rfl rfl rfl rfl Tryd.call61 (s_l1Byte_ok (κ := fun b => mp [(11, 2)] 0 (K37 b)) (p0 := (⟨p0.b, x22.2.1, x22.2.2⟩ : l1Cur)) (Sl.map f42 (mp [(11, 2)] 0) rfl rfl) (f41.map (mp [(11, 2)] 0) rfl rfl) hx24) ?_
   rintro _ w43 ⟨k44, rfl, e45, f46⟩
   obtain ⟨K47, S48, m49⟩ := Ent.mixed (l := [(11, 2)]) (κ := K37) e45 12 rfl
   refine ⟨trivial, ?_⟩
   have f51 := f46.mx m49 rfl (rfl : 12 + 2 = 14)
   refine WO.pn 1 rfl ?_
   refine WO.fin ?_
   refine DN.seq ?_
   refine WC.seq ?_
   refine WC.rs [(0, 2), (1, 2), (2, 2), (3, 2), (4, 2), (5, 2), (6, 2), (7, 2), (8, 2), (9, 2), (10, 2), (11, 2), (12, 2)] rfl ?_
   refine WO.pn 11 rfl ?_
   obtain ⟨_z36, hz36, h⟩ := Option.bind_eq_some_iff.mp h
   refine WO.k2 rfl rfl rfl rfl (rn_rem rfl rfl rfl (nz_ok hz36)) ?_
   refine WO.pn 1 rfl ?_
   refine WO.fin ?_
   refine DN.seq ?_
   refine WC.ret ?_
   have f52 := hE.stp (S18.tr (S28.tr (S38.tr S48))) rfl rfl
   refine DN.res (l := [.tmp 4]) Tryd.results35 (res_tmp rfl rfl) rfl ?_
   obtain rfl := Option.some.inj h
   exact ⟨(fun b => ren [(14, 2)] (K47 b)), rfl, (f52.map (ren [(14, 2)]) rfl rfl), (f51.map (ren [(14, 2)]) rfl rfl)⟩

/- loop.example/g00869/spec.l1Copy -/
theorem s_l1Copy_ok {w : World} {κ : Col} {a0 : Option Addr} {u0 : Nat} {p0 : (List Int)} (g0 : Rd (Rp.int .i64) κ w 0 a0 u0 p0) {r : (List Int)} (h : s_l1Copy p0 = some r) : Ret Tryd.prog 118 [.slice a0 p0.length u0] w (fun v w' => ∃ (κ' : Col) (ra0 : Option Addr) (ru0 : Nat), v = .slice ra0 r.length ru0 ∧ Ent κ w κ' w' ∧ Oc (Ep.int .i64) 2 κ' w' 2 ra0 ru0 r) := by
 unfold s_l1Copy at h
 refine Ret.enter Tryd.func118 rfl Tryd.ntmps118 rfl ?_
 dsimp only [envOf]
 have hE := Ent.refl κ w
 refine WC.seq ?_
 refine WC.rs [(0, 2)] rfl ?_
 refine WO.pn 1 rfl ?_
 refine WO.fin ?_
 refine DN.seq ?_
 refine WC.seq ?_
 refine WC.rs [(0, 1), (1, 2), (2, 1), (3, 2)] rfl ?_
 refine WO.bl0 (κ := κ) (E := (Ep.int .i64)) 2 rfl rfl rfl rfl rfl Tryd.underlying60 Trydinfo2 rfl fun a3 u3 w1 K2 S3 f4 => ⟨trivial, ?_⟩
 refine WO.pn 1 rfl ?_
 obtain ⟨x5, hx5, h⟩ := Option.bind_eq_some_iff.mp h
 have f5 := g0.stp S3 rfl rfl
 refine WO.app (κ := K2) (E := (Ep.int .i64)) 2 [] rfl rfl rfl rfl rfl rfl rfl rfl rfl Tryd.underlying60 Trydinfo2 rfl rfl rfl rfl f4 (Sl.srcP (pu_int _) f5) sy_false hx5 rfl fun a5 u5 w6 K7 S8 f9 => ⟨trivial, ?_⟩
 refine WO.pn 1 rfl ?_
 refine WO.fin ?_
 refine DN.seq ?_
 refine WC.ret ?_
 have f10 := hE.stp (S3.tr S8) rfl rfl
 refine DN.res (l := [.tmp 2]) Tryd.results118 (res_tmp rfl rfl) rfl ?_
 obtain rfl := Option.some.inj h
 exact ⟨K7, a5, u5, rfl, f10, f9⟩

/- loop.example/g00869/spec.l1Min -/
theorem s_l1Min_ok {w : World} {κ : Col} {p0 : Int} {p1 : Int}  {r : Int} (h : s_l1Min p0 p1 = some r) : Ret Tryd.prog 94 [.int .i64 p0, .int .i64 p1] w (fun v w' => ∃ (κ' : Col), v = .int .i64 r ∧ Ent κ w κ' w') := by
 unfold s_l1Min at h
 refine Ret.enter Tryd.func94 rfl Tryd.ntmps94 rfl ?_
 dsimp only [envOf]
 have hE := Ent.refl κ w
 refine WC.seq ?_
 refine WC.rs [(0, 2)] rfl ?_
 refine WO.pn 1 rfl ?_
 refine WO.fin ?_
 refine DN.seq ?_
 refine WC.seq ?_
 refine WC.seq ?_
 refine WC.rs [(0, 2), (1, 2), (2, 2)] rfl ?_
 refine WO.pn 3 rfl ?_
 refine WO.fin ?_
 refine DN.seq ?_
 revert h
 cases ht1 : decide (p0 < p1) with
 | true =>
  intro h; replace h := cT h
  refine WC.ct rfl ?_
  refine WC.seq ?_
  refine WC.rs [(0, 2), (1, 2)] rfl ?_
  refine WO.pn 2 rfl ?_
  refine WO.fin ?_
  refine DN.seq ?_
  refine WC.ret ?_
  refine DN.retThen ?_
  refine DN.res (l := [.tmp 4]) Tryd.results94 (res_tmp rfl rfl) rfl ?_
  obtain rfl := Option.some.inj h
  exact ⟨κ, rfl, hE⟩
 | false =>
  intro h; replace h := cF h
  refine WC.cf rfl ?_
  refine WC.skip ?_
  refine DN.seq ?_
  refine WC.seq ?_
  refine WC.rs [(0, 2), (1, 2)] rfl ?_
  refine WO.pn 2 rfl ?_
  refine WO.fin ?_
  refine DN.seq ?_
  refine WC.ret ?_
  refine DN.res (l := [.tmp 4]) Tryd.results94 (res_tmp rfl rfl) rfl ?_
  obtain rfl := Option.some.inj h
  exact ⟨κ, rfl, hE⟩

/- loop.example/g00869/spec.l1Into -/
theorem s_l1Into_ok {w : World} {κ : Col} {a0 : Option Addr} {u0 : Nat} {p0 : (List Int)} {p1 : Int} (g0 : Oc (Ep.int .i64) 2 κ w 2 a0 u0 p0) {r : (List Int)} (h : s_l1Into p0 p1 = some r) : Ret Tryd.prog 109 [.slice a0 p0.length u0, .int .i64 p1] w (fun v w' => ∃ (κ' : Col) (ra0 : Option Addr) (ru0 : Nat), v = .slice ra0 r.length ru0 ∧ Ent κ w κ' w' ∧ Oc (Ep.int .i64) 2 κ' w' 3 ra0 ru0 r) := by
 unfold s_l1Into at h
 refine Ret.enter Tryd.func109 rfl Tryd.ntmps109 rfl ?_
 dsimp only [envOf]
 have hE := Ent.refl κ w
 refine WC.seq ?_
 refine WC.rs [(0, 2)] rfl ?_
 refine WO.pn 1 rfl ?_
 refine WO.fin ?_
 refine DN.seq ?_
 refine WC.seq ?_
 refine WC.rs [(0, 2)] rfl ?_
 refine WO.pn 1 rfl ?_
 refine WO.fin ?_
 refine DN.seq ?_
 refine WC.seq ?_
 obtain ⟨q2, hq3, hK2⟩ := Option.bind_eq_some_iff.mp h
 clear h
 refine WC.meet (fun L w' => ∃ (κ' : Col) (s3 : Int), L = [(0, .slice a0 p0.length u0), (1, .int .i64 p1), (5, .int .i64 s3)] ∧ Stp [] κ w κ' w' ∧ q2 = Sum.inr s3) ?_ ?_
 ·
  refine WC.block ?_
  refine WC.loop (fun k L w' => ∃ (κ' : Col) (s1 : Int), L = [(0, .slice a0 p0.length u0), (1, .int .i64 p1), (5, .int .i64 s1)] ∧ Stp [] κ w κ' w' ∧ whileM (s_l1Into_b0 p0 p1) k s1 = some q2) ⟨_, _, ⟨κ, (0 : Int), rfl, (Stp.refl _ _).wk rfl, hq3⟩, fun a ha => (ha.more (ha.more (ha.more ha.nil rfl) rfl) rfl)⟩ ?_
  rintro k _ w7 ⟨K8, s1, rfl, S9, h⟩
  rcases k with _ | k
  ·
   cases h
  ·
   obtain ⟨o1, h, hk10⟩ := Option.bind_eq_some_iff.mp h; unfold s_l1Into_b0 at h
   refine WC.seq ?_
   refine WC.seq ?_
   refine WC.rs [(0, 2), (1, 2), (2, 2), (3, 2), (4, 2), (5, 2), (6, 2), (7, 2), (8, 1), (9, 2), (10, 2), (11, 2)] rfl ?_
   refine WO.pn 2 rfl ?_
   refine WO.k2 rfl rfl rfl rfl (rn_len Tryd.runUnderlying60 rfl rfl) ?_
   refine WO.pn 2 rfl ?_
   obtain ⟨p18, h, hK11⟩ := Option.bind_eq_some_iff.mp h
   refine WO.meet [(5, 2), (6, 2), (7, 2), (8, 1), (9, 2), (10, 2), (11, 2)] [] (fun L w' => L = [(0, .slice a0 p0.length u0), (1, .int .i64 p1), (5, .int .i64 s1), (18, .bool p18)] ∧ ∃ κ', Stp [] K8 w7 κ' w') trivial ?_ ?_
   ·
    revert h
    cases ht12 : decide (s1 < (p0.length : Int)) with
    | true =>
     intro h; replace h := cT h
     refine WO.pn 2 rfl ?_
     obtain ⟨x14, hx14, h⟩ := Option.bind_eq_some_iff.mp h
     refine WO.k2 rfl rfl rfl rfl (rn_index g0.rdc hx14 Tryd.runUnderlying60 Tryd.sizeOf2 rfl rfl rfl rfl) ?_
     have f13 := g0.stp S9 rfl rfl
     refine WO.k1 trivial rfl rfl rfl rfl (rn_ld Tryd.isAgg2 rfl rfl (hvE (f13.rdc.gInt hx14))) ?_
     refine WO.pn 3 rfl ?_
     obtain rfl := Option.some.inj h
     exact WO.met _ trivial ⟨rfl, _, (Stp.refl _ _).wk rfl⟩ fun a ha => (ha.more (ha.more (ha.more (ha.more ha.nil rfl) rfl) rfl) rfl)
    | false =>
     intro h; replace h := cF h
     refine WO.pn 3 rfl ?_
     refine WO.ls rfl rfl rfl rfl ?_
     refine WO.pn 3 rfl ?_
     obtain rfl := Option.some.inj h
     exact WO.met _ trivial ⟨rfl, _, (Stp.refl _ _).wk rfl⟩ fun a ha => (ha.more (ha.more (ha.more (ha.more ha.nil rfl) rfl) rfl) rfl)
   rintro _ w14 _ ⟨rfl, K15, S16⟩
   have h := hK11
   refine WO.fin ?_
   refine DN.seq ?_
   revert h
   cases ht17 : p18 with
   | true =>
    intro h; replace h := cT h
    refine WC.ct rfl ?_
    refine WC.skip ?_
    refine DN.seq ?_
    refine WC.block ?_
    refine WC.rs [(0, 2), (1, 2), (2, 2)] rfl ?_
    refine WO.pn 3 rfl ?_
    refine WO.fin ?_
    refine DN.block ?_
    obtain rfl := Option.some.inj h
    refine DN.round fun a ha => ?_
    exact ⟨k, _, Nat.lt_succ_self _, ⟨K15, ((IntKind.i64.wrap (s1 + 1)) : Int), rfl, (S9.tr S16).wk rfl, hk10⟩, (ha.more (ha.more (ha.more ha.nil rfl) rfl) rfl)⟩
   | false =>
    intro h; replace h := cF h
    refine WC.cf rfl ?_
    refine WC.exit ?_
    refine DN.exitThen ?_
    refine DN.exitThen ?_
    obtain rfl := Option.some.inj h
    have h := hk10
    refine DN.hit ?_
    obtain rfl := Option.some.inj h
    exact DN.meet _ ⟨K15, (s1 : Int), rfl, (S9.tr S16).wk rfl, rfl⟩ fun a ha => (ha.more (ha.more (ha.more ha.nil rfl) rfl) rfl)
 rintro _ w4 ⟨K5, s3, rfl, S6, rfl⟩
 have h := hK2
 dsimp only [aft] at h
 refine DN.seq ?_
 refine WC.seq ?_
 refine WC.seq ?_
 refine WC.rs [(0, 2), (1, 2), (2, 2), (3, 2), (4, 2), (5, 2), (6, 2), (7, 2), (8, 1), (9, 2), (10, 2), (11, 2)] rfl ?_
 refine WO.pn 2 rfl ?_
 refine WO.k2 rfl rfl rfl rfl (rn_len Tryd.runUnderlying60 rfl rfl) ?_
 refine WO.pn 2 rfl ?_
 obtain ⟨p32, h, hK18⟩ := Option.bind_eq_some_iff.mp h
 refine WO.meet [(5, 2), (6, 2), (7, 2), (8, 1), (9, 2), (10, 2), (11, 2)] [] (fun L w' => L = [(0, .slice a0 p0.length u0), (1, .int .i64 p1), (5, .int .i64 s3), (32, .bool p32)] ∧ ∃ κ', Stp [] K5 w4 κ' w') trivial ?_ ?_
 ·
  revert h
  cases ht19 : decide (s3 < (p0.length : Int)) with
  | true =>
   intro h; replace h := cT h
   refine WO.pn 2 rfl ?_
   obtain ⟨x28, hx28, h⟩ := Option.bind_eq_some_iff.mp h
   refine WO.k2 rfl rfl rfl rfl (rn_index g0.rdc hx28 Tryd.runUnderlying60 Tryd.sizeOf2 rfl rfl rfl rfl) ?_
   have f20 := g0.stp S6 rfl rfl
   refine WO.k1 trivial rfl rfl rfl rfl (rn_ld Tryd.isAgg2 rfl rfl (hvE (f20.rdc.gInt hx28))) ?_
   refine WO.pn 3 rfl ?_
   obtain rfl := Option.some.inj h
   exact WO.met _ trivial ⟨rfl, _, (Stp.refl _ _).wk rfl⟩ fun a ha => (ha.more (ha.more (ha.more (ha.more ha.nil rfl) rfl) rfl) rfl)
  | false =>
   intro h; replace h := cF h
   refine WO.pn 3 rfl ?_
   refine WO.ls rfl rfl rfl rfl ?_
   refine WO.pn 3 rfl ?_
   obtain rfl := Option.some.inj h
   exact WO.met _ trivial ⟨rfl, _, (Stp.refl _ _).wk rfl⟩ fun a ha => (ha.more (ha.more (ha.more (ha.more ha.nil rfl) rfl) rfl) rfl)
 rintro _ w21 _ ⟨rfl, K22, S23⟩
 have h := hK18
 refine WO.fin ?_
 refine DN.seq ?_
 revert h
 cases ht24 : p32 with
 | true =>
  intro h; replace h := cT h
  refine WC.ct rfl ?_
  refine WC.seq ?_
  refine WC.rs [(0, 2), (1, 2)] rfl ?_
  refine WO.pn 2 rfl ?_
  refine WO.fin ?_
  refine DN.seq ?_
  refine WC.ret ?_
  refine DN.retThen ?_
  have f25 := hE.stp (S6.tr S23) rfl rfl
  have f26 := g0.stp (S6.tr S23) rfl rfl
  refine DN.res (l := [.tmp 4]) Tryd.results109 (res_tmp rfl rfl) rfl ?_
  obtain rfl := Option.some.inj h
  exact ⟨(fun b => ren [(2, 3)] (K22 b)), a0, u0, rfl, (f25.map (ren [(2, 3)]) rfl rfl), (f26.map (ren [(2, 3)]) rfl rfl)⟩
 | false =>
  intro h; replace h := cF h
  refine WC.cf rfl ?_
  refine WC.skip ?_
  refine DN.seq ?_
  refine WC.seq ?_
  refine WC.rs [(0, 2), (1, 2), (2, 2), (3, 1), (4, 2), (5, 1), (6, 1), (7, 2)] rfl ?_
  refine WO.pn 2 rfl ?_
  obtain ⟨x36, hx36, h⟩ := Option.bind_eq_some_iff.mp h
  refine WO.k2 rfl rfl rfl rfl (rn_slice (k1 := .i64) (k2 := .i64) Tryd.runUnderlying60 Tryd.sizeOf2 (.inl ⟨rfl, rfl⟩) (.inr ⟨_, rfl, rfl⟩) hx36 g0.rdc.1 rfl rfl rfl) ?_
  have f28 := g0.stp (S6.tr S23) rfl rfl
  have f27 := f28.rdc.sub hx36
  obtain ⟨x37, hx37, h⟩ := Option.bind_eq_some_iff.mp h
  refine WO.call rfl rfl rfl rfl rfl rfl Tryd.call118 (s_l1Copy_ok (κ := fun b => mp [] 0 (K22 b)) (Sl.map f27 (mp [] 0) rfl rfl) hx37) ?_
  rintro _ w29 ⟨k30, a37_0, u37_0, rfl, e31, f32⟩
  obtain ⟨K33, S34, m35⟩ := Ent.mixed (l := []) (κ := K22) e31 3 rfl
  refine ⟨trivial, ?_⟩
  have f37 := f32.mx (no_int _) m35 rfl (rfl : 3 + 2 = 5)
  refine WO.pn 1 rfl ?_
  refine WO.bl (κ := K33) (E := (Ep.int .i64)) 6 [] (parts := [(0, .tmp 38)]) (cells := [.int .i64 p1]) (xs := ([p1] : List Int)) rfl rfl rfl rfl rfl rfl Tryd.underlying60 Trydinfo2 rfl rfl rfl rfl rfl rfl rfl rfl rfl rfl ⟨[.int .i64 p1], [], Zl K33 w29 [], Zl K33 w29 [], rfl, Zl.sp (l1 := []) (l2 := []) rfl, Zl.sr (l1 := []) (l2 := []), rfl, rfl⟩ fun a39 u39 w38 K39 S40 f41 => ⟨trivial, ?_⟩
  obtain ⟨x40, hx40, h⟩ := Option.bind_eq_some_iff.mp h
  have f42 := f37.stp S40 rfl rfl
  refine WO.app (κ := K39) (E := (Ep.int .i64)) 5 [] rfl rfl rfl rfl rfl rfl rfl rfl rfl Tryd.underlying60 Trydinfo2 rfl rfl rfl rfl f42 (Sl.srcP (pu_int _) f41.rdc) sy_false hx40 rfl fun a40 u40 w43 K44 S45 f46 => ⟨trivial, ?_⟩
  refine WO.pn 1 rfl ?_
  refine WO.fin ?_
  refine DN.seq ?_
  refine WC.seq ?_
  refine WC.rs [(0, 2), (1, 2), (2, 2), (3, 2), (4, 1), (5, 2)] rfl ?_
  refine WO.pn 3 rfl ?_
  obtain ⟨x44, hx44, h⟩ := Option.bind_eq_some_iff.mp h
  refine WO.k2 rfl rfl rfl rfl (rn_slice (k1 := .i64) (k2 := .i64) Tryd.runUnderlying60 Tryd.sizeOf2 (.inr ⟨_, rfl, rfl⟩) (.inl ⟨rfl, rfl⟩) hx44 f28.rdc.1 rfl rfl rfl) ?_
  have f48 := f28.stp (S34.tr (S40.tr S45)) rfl rfl
  have f47 := f48.rdc.sub hx44
  obtain ⟨x45, hx45, h⟩ := Option.bind_eq_some_iff.mp h
  refine WO.app (κ := K44) (E := (Ep.int .i64)) 5 [] rfl rfl rfl rfl rfl rfl rfl rfl rfl Tryd.underlying60 Trydinfo2 rfl rfl rfl rfl f46 (Sl.srcP (pu_int _) f47) sy_false hx45 rfl fun a45 u45 w49 K50 S51 f52 => ⟨trivial, ?_⟩
  refine WO.pn 1 rfl ?_
  refine WO.fin ?_
  refine DN.seq ?_
  refine WC.ret ?_
  have f53 := hE.stp (S6.tr (S23.tr (S34.tr (S40.tr (S45.tr S51))))) rfl rfl
  refine DN.res (l := [.tmp 4]) Tryd.results109 (res_tmp rfl rfl) rfl ?_
  obtain rfl := Option.some.inj h
  exact ⟨(fun b => ren [(5, 3)] (K50 b)), a45, u45, rfl, (f53.map (ren [(5, 3)]) rfl rfl), (f52.map (ren [(5, 3)]) rfl rfl)⟩

/- strconv.FormatInt -/
theorem strconv_FormatInt_ok {w : World} {κ : Col} {p0 p1 : Int} (gGT : Tb Tryd.prog "internal/strconv.uint64pow10" .u64 Lib.pow10Tab κ w) {r : ByteArray} (h : strconv_FormatInt p0 p1 = some r) : Ret Tryd.prog 62 [.int .i64 p0, .int .i64 p1] w (fun v w' => ∃ (κ' : Col), v = .string r ∧ Ent κ w κ' w') := fmt_ok Tryd.strconv_FormatInt_10 gGT h


/- loop.example/g00869/impl.decimal -/
theorem i_decimal_ok {w : World} {κ : Col} {p0 : Int} (gGT : Tb Tryd.prog "internal/strconv.uint64pow10" .u64 Lib.pow10Tab κ w) {r : ByteArray} (h : i_decimal p0 = some r) : Ret Tryd.prog 36 [.int .i64 p0] w (fun v w' => ∃ (κ' : Col), v = .string r ∧ Ent κ w κ' w') := by
 unfold i_decimal at h
 refine Ret.enter Tryd.func36 rfl Tryd.ntmps36 rfl ?_
 dsimp only [envOf]
 have hE := Ent.refl κ w
 refine WC.seq ?_
 refine WC.rs [(0, 2)] rfl ?_
 refine WO.pn 1 rfl ?_
 refine WO.fin ?_
 refine DN.seq ?_
 refine WC.seq ?_
 refine WC.rs [(0, 2), (1, 1), (2, 2)] rfl ?_
 refine WO.pn 1 rfl ?_
 obtain ⟨x4, hx4, h⟩ := Option.bind_eq_some_iff.mp h
 refine WO.call rfl rfl rfl rfl rfl rfl Tryd.call62 (strconv_FormatInt_ok (κ := fun b => mp [] 0 (κ b)) (gGT.map (mp [] 0) rfl rfl) hx4) ?_
 rintro _ w1 ⟨k2, rfl, e3⟩
 obtain ⟨K4, S5, m6⟩ := Ent.mixed (l := []) (κ := κ) e3 2 rfl
 refine ⟨trivial, ?_⟩
 refine WO.pn 1 rfl ?_
 refine WO.fin ?_
 refine DN.seq ?_
 refine WC.ret ?_
 have f8 := hE.stp S5 rfl rfl
 refine DN.res (l := [.tmp 2]) Tryd.results36 (res_tmp rfl rfl) rfl ?_
 obtain rfl := Option.some.inj h
 exact ⟨K4, rfl, f8⟩

/- loop.example/g00869/spec.l1In -/
theorem s_l1In_ok {w : World} {κ : Col} {p0 : Int} {p1 : Int} {p2 : Int}  {r : Bool} (h : s_l1In p0 p1 p2 = some r) : Ret Tryd.prog 37 [.int .i64 p0, .int .i64 p1, .int .i64 p2] w (fun v w' => ∃ (κ' : Col), v = .bool r ∧ Ent κ w κ' w') := by
 unfold s_l1In at h
 refine Ret.enter Tryd.func37 rfl Tryd.ntmps37 rfl ?_
 dsimp only [envOf]
 have hE := Ent.refl κ w
 refine WC.seq ?_
 refine WC.rs [(0, 2)] rfl ?_
 refine WO.pn 1 rfl ?_
 refine WO.fin ?_
 refine DN.seq ?_
 refine WC.seq ?_
 refine WC.rs [(0, 2), (1, 2), (2, 2), (3, 2), (4, 2), (5, 2), (6, 2), (7, 2), (8, 2)] rfl ?_
 refine WO.pn 4 rfl ?_
 obtain ⟨p14, h, hK1⟩ := Option.bind_eq_some_iff.mp h
 refine WO.meet [(4, 2), (5, 2), (6, 2), (7, 2)] [(8, 2)] (fun L w' => L = [(6, .bool false), (14, .bool p14)] ∧ ∃ κ', Stp [] κ w κ' w') trivial ?_ ?_
 ·
  revert h
  cases ht2 : decide (p1 ≤ p0) with
  | true =>
   intro h; replace h := cT h
   refine WO.pn 4 rfl ?_
   obtain rfl := Option.some.inj h
   exact WO.met _ trivial ⟨rfl, _, (Stp.refl _ _).wk rfl⟩ fun a ha => (ha.more (ha.more ha.nil rfl) rfl)
  | false =>
   intro h; replace h := cF h
   refine WO.pn 4 rfl ?_
   obtain rfl := Option.some.inj h
   exact WO.met _ trivial ⟨rfl, _, (Stp.refl _ _).wk rfl⟩ fun a ha => (ha.more (ha.more ha.nil rfl) rfl)
 rintro _ w3 _ ⟨rfl, K4, S5⟩
 have h := hK1
 refine WO.pn 1 rfl ?_
 refine WO.fin ?_
 refine DN.seq ?_
 refine WC.ret ?_
 have f6 := hE.stp S5 rfl rfl
 refine DN.res (l := [.tmp 6]) Tryd.results37 (res_tmp rfl rfl) rfl ?_
 obtain rfl := Option.some.inj h
 exact ⟨K4, rfl, f6⟩

/- loop.example/g00869/spec.l32Words -/
theorem s_l32Words_ok {w : World} {κ : Col}  {r : (List ByteArray)} (h : s_l32Words  = some r) : Ret Tryd.prog 38 [] w (fun v w' => ∃ (κ' : Col) (ra0 : Option Addr) (ru0 : Nat), v = .slice ra0 r.length ru0 ∧ Ent κ w κ' w' ∧ Oc Ep.str 9 κ' w' 2 ra0 ru0 r) := by
 unfold s_l32Words at h
 refine Ret.enter Tryd.func38 rfl Tryd.ntmps38 rfl ?_
 dsimp only [envOf]
 have hE := Ent.refl κ w
 refine WC.seq ?_
 refine WC.rs [(0, 2)] rfl ?_
 refine WO.pn 1 rfl ?_
 refine WO.fin ?_
 refine DN.seq ?_
 refine WC.seq ?_
 refine WC.rs [(0, 1), (1, 2)] rfl ?_
 refine WO.bl (κ := κ) (E := Ep.str) 2 [] (parts := [(0, .const (.string (ByteArray.mk #[]))), (1, .const (.string (ByteArray.mk #[112, 114, 105, 111]))), (2, .const (.string (ByteArray.mk #[111, 119, 110, 101, 114]))), (3, .const (.string (ByteArray.mk #[97, 100, 100]))), (4, .const (.string (ByteArray.mk #[99, 117, 116])))]) (cells := [.string (ByteArray.mk #[]), .string (ByteArray.mk #[112, 114, 105, 111]), .string (ByteArray.mk #[111, 119, 110, 101, 114]), .string (ByteArray.mk #[97, 100, 100]), .string (ByteArray.mk #[99, 117, 116])]) (xs := ([(ByteArray.mk #[]), (ByteArray.mk #[112, 114, 105, 111]), (ByteArray.mk #[111, 119, 110, 101, 114]), (ByteArray.mk #[97, 100, 100]), (ByteArray.mk #[99, 117, 116])] : List ByteArray)) rfl rfl rfl rfl rfl rfl Tryd.underlying57 Trydinfo9 rfl rfl rfl rfl rfl rfl rfl rfl rfl rfl ⟨[.string (ByteArray.mk #[])], [.string (ByteArray.mk #[112, 114, 105, 111]), .string (ByteArray.mk #[111, 119, 110, 101, 114]), .string (ByteArray.mk #[97, 100, 100]), .string (ByteArray.mk #[99, 117, 116])], Zl κ w [], Zl κ w [], rfl, Zl.sp (l1 := []) (l2 := []) rfl, Zl.sr (l1 := []) (l2 := []), rfl, ⟨[.string (ByteArray.mk #[112, 114, 105, 111])], [.string (ByteArray.mk #[111, 119, 110, 101, 114]), .string (ByteArray.mk #[97, 100, 100]), .string (ByteArray.mk #[99, 117, 116])], Zl κ w [], Zl κ w [], rfl, Zl.sp (l1 := []) (l2 := []) rfl, Zl.sr (l1 := []) (l2 := []), rfl, ⟨[.string (ByteArray.mk #[111, 119, 110, 101, 114])], [.string (ByteArray.mk #[97, 100, 100]), .string (ByteArray.mk #[99, 117, 116])], Zl κ w [], Zl κ w [], rfl, Zl.sp (l1 := []) (l2 := []) rfl, Zl.sr (l1 := []) (l2 := []), rfl, ⟨[.string (ByteArray.mk #[97, 100, 100])], [.string (ByteArray.mk #[99, 117, 116])], Zl κ w [], Zl κ w [], rfl, Zl.sp (l1 := []) (l2 := []) rfl, Zl.sr (l1 := []) (l2 := []), rfl, ⟨[.string (ByteArray.mk #[99, 117, 116])], [], Zl κ w [], Zl κ w [], rfl, Zl.sp (l1 := []) (l2 := []) rfl, Zl.sr (l1 := []) (l2 := []), rfl, rfl⟩⟩⟩⟩⟩ fun a1 u1 w1 K2 S3 f4 => ⟨trivial, ?_⟩
 refine WO.pn 1 rfl ?_
 refine WO.fin ?_
 refine DN.seq ?_
 refine WC.ret ?_
 have f5 := hE.stp S3 rfl rfl
 refine DN.res (l := [.tmp 0]) Tryd.results38 (res_tmp rfl rfl) rfl ?_
 obtain rfl := Option.some.inj h
 exact ⟨K2, a1, u1, rfl, f5, f4⟩

/- loop.example/g00869/spec.l1Int -/
theorem s_l1Int_ok {w : World} {κ : Col} {p0 : Int}  {r : ByteArray} (h : s_l1Int p0 = some r) : Ret Tryd.prog 39 [.int .i64 p0] w (fun v w' => ∃ (κ' : Col), v = .string r ∧ Ent κ w κ' w') := by
 unfold s_l1Int at h
 refine Ret.enter Tryd.func39 rfl Tryd.ntmps39 rfl ?_
 dsimp only [envOf]
 have hE := Ent.refl κ w
 refine WC.seq ?_
 refine WC.rs [(0, 2)] rfl ?_
 refine WO.pn 1 rfl ?_
 refine WO.fin ?_
 refine DN.seq ?_
 refine WC.seq ?_
 refine WC.rs [(0, 2)] rfl ?_
 refine WO.pn 1 rfl ?_
 refine WO.fin ?_
 refine DN.seq ?_
 refine WC.seq ?_
 refine WC.rs [(0, 2), (1, 2), (2, 2)] rfl ?_
 refine WO.pn 3 rfl ?_
 refine WO.fin ?_
 refine DN.seq ?_
 refine WC.seq ?_
 obtain ⟨q2, hq3, hK2⟩ := Option.bind_eq_some_iff.mp h
 clear h
 refine WC.meet (fun L w' => ∃ (κ' : Col) (s3 : Int × ByteArray), L = [(3, .string s3.2), (4, .bool (decide (p0 < 0)))] ∧ Stp [] κ w κ' w' ∧ q2 = Sum.inr s3) ?_ ?_
 ·
  refine WC.block ?_
  refine WC.loop (fun k L w' => ∃ (κ' : Col) (s1 : Int × ByteArray), L = [(0, .int .i64 s1.1), (3, .string s1.2), (4, .bool (decide (p0 < 0)))] ∧ Stp [] κ w κ' w' ∧ whileM s_l1Int_b0 k s1 = some q2) ⟨_, _, ⟨κ, ((p0 : Int), ((ByteArray.mk #[]) : ByteArray)), rfl, (Stp.refl _ _).wk rfl, hq3⟩, fun a ha => (ha.more (ha.more (ha.more ha.nil rfl) rfl) rfl)⟩ ?_
  rintro k _ w7 ⟨K8, s1, rfl, S9, h⟩
  rcases k with _ | k
  ·
   cases h
  ·
   obtain ⟨o1, h, hk10⟩ := Option.bind_eq_some_iff.mp h; unfold s_l1Int_b0 at h
   refine WC.seq ?_
   refine WC.seq ?_
   refine WC.rs [(0, 2), (1, 2), (2, 2), (3, 2), (4, 2), (5, 2)] rfl ?_
   refine WO.pn 1 rfl ?_
   refine WO.k2 rfl rfl rfl rfl (rn_eqlSt rfl rfl rfl) ?_
   refine WO.pn 1 rfl ?_
   obtain ⟨p13, h, hK11⟩ := Option.bind_eq_some_iff.mp h
   refine WO.meet [(3, 2), (4, 2), (5, 2)] [] (fun L w' => L = [(0, .int .i64 s1.1), (3, .string s1.2), (4, .bool (decide (p0 < 0))), (13, .bool p13)] ∧ ∃ κ', Stp [] K8 w7 κ' w') trivial ?_ ?_
   ·
    revert h
    cases ht12 : (eqB s1.2 (ByteArray.mk #[])) with
    | true =>
     intro h; replace h := cT h
     refine WO.pn 3 rfl ?_
     obtain rfl := Option.some.inj h
     exact WO.met _ trivial ⟨rfl, _, (Stp.refl _ _).wk rfl⟩ fun a ha => (ha.more (ha.more (ha.more (ha.more ha.nil rfl) rfl) rfl) rfl)
    | false =>
     intro h; replace h := cF h
     refine WO.pn 3 rfl ?_
     obtain rfl := Option.some.inj h
     exact WO.met _ trivial ⟨rfl, _, (Stp.refl _ _).wk rfl⟩ fun a ha => (ha.more (ha.more (ha.more (ha.more ha.nil rfl) rfl) rfl) rfl)
   rintro _ w13 _ ⟨rfl, K14, S15⟩
   have h := hK11
   refine WO.fin ?_
   refine DN.seq ?_
   revert h
   cases ht16 : p13 with
   | true =>
    intro h; replace h := cT h
    refine WC.ct rfl ?_
    refine WC.skip ?_
    refine DN.seq ?_
    refine WC.block ?_
    refine WC.seq ?_
    refine WC.rs [(0, 2), (1, 2), (2, 2)] rfl ?_
    refine WO.pn 1 rfl ?_
    refine WO.k2 rfl rfl rfl rfl (rn_rem rfl rfl rfl (by decide)) ?_
    refine WO.pn 1 rfl ?_
    refine WO.fin ?_
    refine DN.seq ?_
    refine WC.seq ?_
    refine WC.seq ?_
    refine WC.rs [(0, 2), (1, 2)] rfl ?_
    refine WO.pn 2 rfl ?_
    refine WO.fin ?_
    refine DN.seq ?_
    obtain ⟨q4, h, hK17⟩ := Option.bind_eq_some_iff.mp h
    refine WC.meet (fun L w' => ∃ (κ' : Col), L = [(0, .int .i64 s1.1), (3, .string s1.2), (4, .bool (decide (p0 < 0))), (5, .int .i64 q4)] ∧ Stp [] K14 w13 κ' w') ?_ ?_
    ·
     revert h
     cases ht21 : decide ((Int.tmod s1.1 10) < 0) with
     | true =>
      intro h; replace h := cT h
      refine WC.ct rfl ?_
      refine WC.rs [(0, 2), (1, 2), (2, 2)] rfl ?_
      refine WO.pn 1 rfl ?_
      refine WO.k2 rfl rfl rfl rfl (rn_neg rfl rfl) ?_
      refine WO.pn 1 rfl ?_
      refine WO.fin ?_
      obtain rfl := Option.some.inj h
      exact DN.meet _ ⟨K14, rfl, (Stp.refl _ _).wk rfl⟩ fun a ha => (ha.more (ha.more (ha.more (ha.more ha.nil rfl) rfl) rfl) rfl)
     | false =>
      intro h; replace h := cF h
      refine WC.cf rfl ?_
      refine WC.skip ?_
      obtain rfl := Option.some.inj h
      exact DN.meet _ ⟨K14, rfl, (Stp.refl _ _).wk rfl⟩ fun a ha => (ha.more (ha.more (ha.more (ha.more ha.nil rfl) rfl) rfl) rfl)
    rintro _ w18 ⟨K19, rfl, S20⟩
    have h := hK17
    refine DN.seq ?_
    refine WC.seq ?_
    refine WC.rs [(0, 2), (1, 2), (2, 2), (3, 1), (4, 1), (5, 2), (6, 2), (7, 2)] rfl ?_
    refine WO.pn 2 rfl ?_
    refine WO.k2 rfl rfl rfl rfl (rn_conv Tryd.runUnderlying2 Tryd.runUnderlying5 rfl rfl) ?_
    refine WO.bl (κ := K19) (E := (Ep.int .u8)) 2 [] (parts := [(0, .tmp 22)]) (cells := [.int .u8 (IntKind.u8.wrap (IntKind.i64.wrap (48 + q4)))]) (xs := ([(IntKind.u8.wrap (IntKind.i64.wrap (48 + q4)))] : List Int)) rfl rfl rfl rfl rfl rfl Tryd.underlying22 Trydinfo5 rfl rfl rfl rfl rfl rfl rfl rfl rfl rfl ⟨[.int .u8 (IntKind.u8.wrap (IntKind.i64.wrap (48 + q4)))], [], Zl K19 w18 [], Zl K19 w18 [], rfl, Zl.sp (l1 := []) (l2 := []) rfl, Zl.sr (l1 := []) (l2 := []), rfl, rfl⟩ fun a23 u23 w22 K23 S24 f25 => ⟨trivial, ?_⟩
    refine WO.k1 trivial rfl rfl rfl rfl (rn_b2s Tryd.underlying22 Tryd.underlying5 Tryd.underlying9 rfl (svE f25.rdc) rfl rfl) ?_
    refine WO.pn 1 rfl ?_
    obtain ⟨x26, hx26, h⟩ := Option.bind_eq_some_iff.mp h
    refine WO.k2 rfl rfl rfl rfl (rn_addS rfl rfl rfl hx26) ?_
    refine WO.pn 1 rfl ?_
    refine WO.fin ?_
    refine DN.seq ?_
    refine WC.rs [(0, 2), (1, 2), (2, 2)] rfl ?_
    refine WO.pn 1 rfl ?_
    refine WO.k2 rfl rfl rfl rfl (rn_quo rfl rfl rfl (by decide)) ?_
    refine WO.pn 1 rfl ?_
    refine WO.fin ?_
    refine DN.block ?_
    obtain rfl := Option.some.inj h
    refine DN.round fun a ha => ?_
    exact ⟨k, _, Nat.lt_succ_self _, ⟨K23, (((IntKind.i64.wrap (Int.tdiv s1.1 10)) : Int), (x26 : ByteArray)), rfl, (S9.tr (S15.tr (S20.tr S24))).wk rfl, hk10⟩, (ha.more (ha.more (ha.more ha.nil rfl) rfl) rfl)⟩
   | false =>
    intro h; replace h := cF h
    refine WC.cf rfl ?_
    refine WC.exit ?_
    refine DN.exitThen ?_
    refine DN.exitThen ?_
    obtain rfl := Option.some.inj h
    have h := hk10
    refine DN.hit ?_
    obtain rfl := Option.some.inj h
    exact DN.meet _ ⟨K14, ((s1.1 : Int), (s1.2 : ByteArray)), rfl, (S9.tr S15).wk rfl, rfl⟩ fun a ha => (ha.more (ha.more ha.nil rfl) rfl)
 rintro _ w4 ⟨K5, s3, rfl, S6, rfl⟩
 have h := hK2
 dsimp only [aft] at h
 refine DN.seq ?_
 refine WC.seq ?_
 refine WC.seq ?_
 refine WC.rs [(0, 2)] rfl ?_
 refine WO.pn 1 rfl ?_
 refine WO.fin ?_
 refine DN.seq ?_
 obtain ⟨q5, h, hK26⟩ := Option.bind_eq_some_iff.mp h
 refine WC.meet (fun L w' => ∃ (κ' : Col), L = [(3, .string q5)] ∧ Stp [] K5 w4 κ' w') ?_ ?_
 ·
  revert h
  cases ht30 : decide (p0 < 0) with
  | true =>
   intro h; replace h := cT h
   refine WC.ct rfl ?_
   refine WC.rs [(0, 2), (1, 2), (2, 2)] rfl ?_
   refine WO.pn 1 rfl ?_
   obtain ⟨x31, hx31, h⟩ := Option.bind_eq_some_iff.mp h
   refine WO.k2 rfl rfl rfl rfl (rn_addS rfl rfl rfl hx31) ?_
   refine WO.pn 1 rfl ?_
   refine WO.fin ?_
   obtain rfl := Option.some.inj h
   exact DN.meet _ ⟨K5, rfl, (Stp.refl _ _).wk rfl⟩ fun a ha => (ha.more ha.nil rfl)
  | false =>
   intro h; replace h := cF h
   refine WC.cf rfl ?_
   refine WC.skip ?_
   obtain rfl := Option.some.inj h
   exact DN.meet _ ⟨K5, rfl, (Stp.refl _ _).wk rfl⟩ fun a ha => (ha.more ha.nil rfl)
 rintro _ w27 ⟨K28, rfl, S29⟩
 have h := hK26
 refine DN.seq ?_
 refine WC.seq ?_
 refine WC.rs [(0, 2), (1, 2)] rfl ?_
 refine WO.pn 2 rfl ?_
 refine WO.fin ?_
 refine DN.seq ?_
 refine WC.ret ?_
 have f31 := hE.stp (S6.tr S29) rfl rfl
 refine DN.res (l := [.tmp 2]) Tryd.results39 (res_tmp rfl rfl) rfl ?_
 obtain rfl := Option.some.inj h
 exact ⟨K28, rfl, f31⟩

/- loop.example/g00869/spec.EditText -/
theorem s_EditText_ok {w : World} {κ : Col} {p0 : Edit}  {r : ByteArray} (h : s_EditText p0 = some r) : Ret Tryd.prog 12 [.agg #[.int .i64 p0.Kind, .int .i64 p0.V, .int .i64 p0.N]] w (fun v w' => ∃ (κ' : Col), v = .string r ∧ Ent κ w κ' w') := by
 unfold s_EditText at h
 refine Ret.enter Tryd.func12 rfl Tryd.ntmps12 rfl ?_
 dsimp only [envOf]
 have hE := Ent.refl κ w
 refine WC.seq ?_
 refine WC.rs [(0, 1), (1, 2)] rfl ?_
 refine WO.box (κ := κ) 2 rfl rfl rfl rfl rfl rfl rfl fun b1 w1 K2 S3 f4 => ⟨trivial, ?_⟩
 refine WO.pn 1 rfl ?_
 refine WO.fin ?_
 refine DN.seq ?_
 refine WC.seq ?_
 refine WC.seq ?_
 refine WC.rs [(0, 2), (1, 1), (2, 1), (3, 2), (4, 2), (5, 2), (6, 1), (7, 1), (8, 2), (9, 2), (10, 2), (11, 2), (12, 1), (13, 1), (14, 2), (15, 2)] rfl ?_
 refine WO.k2 rfl rfl rfl rfl (rn_fieldAddr Tryd.runUnderlying25 rfl Tryd.sizeOf2 rfl rfl) ?_
 refine WO.k1 trivial rfl rfl rfl rfl (rn_ld Tryd.isAgg2 rfl rfl (hvE (f4.ld 0 rfl rfl))) ?_
 obtain ⟨x5, hx5, h⟩ := Option.bind_eq_some_iff.mp h
 refine WO.call rfl rfl rfl rfl rfl rfl Tryd.call37 (s_l1In_ok (κ := fun b => mp [] 0 (K2 b)) hx5) ?_
 rintro _ w5 ⟨k6, rfl, e7⟩
 obtain ⟨K8, S9, m10⟩ := Ent.mixed (l := []) (κ := K2) e7 3 rfl
 refine ⟨trivial, ?_⟩
 refine WO.pn 2 rfl ?_
 obtain ⟨p12, h, hK12⟩ := Option.bind_eq_some_iff.mp h
 refine WO.meet [(5, 2), (6, 1), (7, 1), (8, 2), (9, 2)] [(10, 2), (11, 2), (12, 1), (13, 1), (14, 2), (15, 2)] (fun L w' => L = [(1, .pointer (some ⟨b1, 0, none⟩)), (12, .bool p12)] ∧ ∃ κ', Stp [] K8 w5 κ' w') trivial ?_ ?_
 ·
  revert h
  cases ht13 : (!x5) with
  | true =>
   intro h; replace h := cT h
   refine WO.pn 1 rfl ?_
   refine WO.ls rfl rfl rfl rfl ?_
   refine WO.ls rfl rfl rfl rfl ?_
   refine WO.pn 2 rfl ?_
   obtain rfl := Option.some.inj h
   exact WO.met _ trivial ⟨rfl, _, (Stp.refl _ _).wk rfl⟩ fun a ha => (ha.more (ha.more ha.nil rfl) rfl)
  | false =>
   intro h; replace h := cF h
   refine WO.k2 rfl rfl rfl rfl (rn_fieldAddr Tryd.runUnderlying25 rfl Tryd.sizeOf2 rfl rfl) ?_
   have f14 := f4.stp S9 rfl rfl
   refine WO.k1 trivial rfl rfl rfl rfl (rn_ld Tryd.isAgg2 rfl rfl (hvE (f14.ld 1 rfl rfl))) ?_
   obtain ⟨x10, hx10, h⟩ := Option.bind_eq_some_iff.mp h
   refine WO.call rfl rfl rfl rfl rfl rfl Tryd.call37 (s_l1In_ok (κ := fun b => mp [] 0 (K8 b)) hx10) ?_
   rintro _ w15 ⟨k16, rfl, e17⟩
   obtain ⟨K18, S19, m20⟩ := Ent.mixed (l := []) (κ := K8) e17 5 rfl
   refine ⟨trivial, ?_⟩
   refine WO.pn 2 rfl ?_
   obtain rfl := Option.some.inj h
   exact WO.met _ trivial ⟨rfl, _, S19.wk rfl⟩ fun a ha => (ha.more (ha.more ha.nil rfl) rfl)
 rintro _ w22 _ ⟨rfl, K23, S24⟩
 have h := hK12
 refine WO.pn 1 rfl ?_
 obtain ⟨p18, h, hK25⟩ := Option.bind_eq_some_iff.mp h
 refine WO.meet [(11, 2), (12, 1), (13, 1), (14, 2), (15, 2)] [] (fun L w' => L = [(1, .pointer (some ⟨b1, 0, none⟩)), (18, .bool p18)] ∧ ∃ κ', Stp [] K23 w22 κ' w') trivial ?_ ?_
 ·
  revert h
  cases ht26 : p12 with
  | true =>
   intro h; replace h := cT h
   refine WO.pn 1 rfl ?_
   refine WO.ls rfl rfl rfl rfl ?_
   refine WO.ls rfl rfl rfl rfl ?_
   refine WO.pn 2 rfl ?_
   obtain rfl := Option.some.inj h
   exact WO.met _ trivial ⟨rfl, _, (Stp.refl _ _).wk rfl⟩ fun a ha => (ha.more (ha.more ha.nil rfl) rfl)
  | false =>
   intro h; replace h := cF h
   refine WO.k2 rfl rfl rfl rfl (rn_fieldAddr Tryd.runUnderlying25 rfl Tryd.sizeOf2 rfl rfl) ?_
   have f27 := f4.stp (S9.tr S24) rfl rfl
   refine WO.k1 trivial rfl rfl rfl rfl (rn_ld Tryd.isAgg2 rfl rfl (hvE (f27.ld 2 rfl rfl))) ?_
   obtain ⟨x16, hx16, h⟩ := Option.bind_eq_some_iff.mp h
   refine WO.call rfl rfl rfl rfl rfl rfl Tryd.call37 (s_l1In_ok (κ := fun b => mp [] 0 (K23 b)) hx16) ?_
   rintro _ w28 ⟨k29, rfl, e30⟩
   obtain ⟨K31, S32, m33⟩ := Ent.mixed (l := []) (κ := K23) e30 5 rfl
   refine ⟨trivial, ?_⟩
   refine WO.pn 2 rfl ?_
   obtain rfl := Option.some.inj h
   exact WO.met _ trivial ⟨rfl, _, S32.wk rfl⟩ fun a ha => (ha.more (ha.more ha.nil rfl) rfl)
 rintro _ w35 _ ⟨rfl, K36, S37⟩
 have h := hK25
 refine WO.fin ?_
 refine DN.seq ?_
 revert h
 cases ht38 : p18 with
 | true =>
  intro h; replace h := cT h
  refine WC.ct rfl ?_
  refine WC.seq ?_
  refine WC.rs [(0, 2)] rfl ?_
  refine WO.pn 1 rfl ?_
  refine WO.fin ?_
  refine DN.seq ?_
  refine WC.ret ?_
  refine DN.retThen ?_
  have f39 := hE.stp (S3.tr (S9.tr (S24.tr S37))) rfl rfl
  refine DN.res (l := [.tmp 2]) Tryd.results12 (res_tmp rfl rfl) rfl ?_
  obtain rfl := Option.some.inj h
  exact ⟨K36, rfl, f39⟩
 | false =>
  intro h; replace h := cF h
  refine WC.cf rfl ?_
  refine WC.skip ?_
  refine DN.seq ?_
  refine WC.seq ?_
  obtain ⟨x19, hx19, h⟩ := Option.bind_eq_some_iff.mp h
  obtain ⟨x22, hx22, h⟩ := Option.bind_eq_some_iff.mp h
  obtain ⟨x24, hx24, h⟩ := Option.bind_eq_some_iff.mp h
  obtain ⟨x27, hx27, h⟩ := Option.bind_eq_some_iff.mp h
  obtain ⟨x28, hx28, h⟩ := Option.bind_eq_some_iff.mp h
  obtain ⟨x29, hx29, h⟩ := Option.bind_eq_some_iff.mp h
  obtain ⟨x32, hx32, h⟩ := Option.bind_eq_some_iff.mp h
  obtain ⟨x33, hx33, h⟩ := Option.bind_eq_some_iff.mp h
  refine WC.meet (fun L w' => ∃ (κ' : Col), L = [(2, .string x33)] ∧ Stp [] K36 w35 κ' w') ?_ ?_
  ·
   refine WC.rxt (κ := K36) [2] none (by kernel_rfl) fun w44 S45 => ?_
   refine WA.seg (fuel := 8) [(1, 2), (6, 2), (11, 2), (2, 0), (7, 0), (12, 0), (0, 1), (3, 2)] (by kernel_rfl) (by kernel_rfl) rfl ?_
   refine WO.k2 rfl rfl rfl rfl (rn_fieldAddr Tryd.runUnderlying25 rfl Tryd.sizeOf2 rfl rfl) ?_
   refine WO.k2 rfl rfl rfl rfl (rn_fieldAddr Tryd.runUnderlying25 rfl Tryd.sizeOf2 rfl rfl) ?_
   refine WO.k2 rfl rfl rfl rfl (rn_fieldAddr Tryd.runUnderlying25 rfl Tryd.sizeOf2 rfl rfl) ?_
   have f46 := f4.stp (S9.tr (S24.tr (S37.tr S45))) rfl rfl
   refine WO.k0 rfl rfl rfl rfl (rn_ld Tryd.isAgg2 rfl rfl (hvC (f46.ld 0 rfl rfl) rfl)) ?_
   refine WO.k0 rfl rfl rfl rfl (rn_ld Tryd.isAgg2 rfl rfl (hvC (f46.ld 1 rfl rfl) rfl)) ?_
   refine WO.k0 rfl rfl rfl rfl (rn_ld Tryd.isAgg2 rfl rfl (hvC (f46.ld 2 rfl rfl) rfl)) ?_
   refine WO.call rfl rfl rfl rfl rfl rfl Tryd.call38 (s_l32Words_ok (κ := fun b => mp [] 0 (K36 b)) hx19) ?_
   rintro _ w47 ⟨k48, a19_0, u19_0, rfl, e49, f50⟩
   obtain ⟨K51, S52, m53⟩ := Ent.mixed (l := []) (κ := K36) e49 5 rfl
   refine ⟨(S52.cl rfl), ?_⟩
   have f55 := f50.mx no_str m53 rfl (rfl : 5 + 2 = 7)
   refine WO.k2 rfl rfl rfl rfl (rn_index f55.rdc hx22 Tryd.runUnderlying57 Tryd.sizeOf9 rfl rfl rfl rfl) ?_
   refine WO.wa ?_
   refine WA.fork2 (fuel := 7) 4 8 (by kernel_rfl) rfl ?_ ?_
   ·
    refine WO.k1 (S52.cl rfl) rfl rfl rfl rfl (rn_ld Tryd.isAgg9 rfl rfl (hvE (f55.rdc.gStr hx22))) ?_
    refine WO.wa ?_
    refine WA.seg (fuel := 0) [(5, 2), (8, 1), (9, 2), (10, 2), (13, 1), (14, 2), (15, 2)] (by kernel_rfl) (by kernel_rfl) rfl ?_
    refine WO.k2 rfl rfl rfl rfl (rn_addS rfl rfl rfl hx24) ?_
    refine WO.call rfl rfl rfl rfl rfl rfl Tryd.call39 (s_l1Int_ok (κ := fun b => mp [] 0 (K51 b)) hx27) ?_
    rintro _ w56 ⟨k57, rfl, e58⟩
    obtain ⟨K59, S60, m61⟩ := Ent.mixed (l := []) (κ := K51) e58 8 rfl
    refine ⟨((S52.tr S60).cl rfl), ?_⟩
    refine WO.k2 rfl rfl rfl rfl (rn_addS rfl rfl rfl hx28) ?_
    refine WO.k2 rfl rfl rfl rfl (rn_addS rfl rfl rfl hx29) ?_
    refine WO.call rfl rfl rfl rfl rfl rfl Tryd.call39 (s_l1Int_ok (κ := fun b => mp [] 0 (K59 b)) hx32) ?_
    rintro _ w63 ⟨k64, rfl, e65⟩
    obtain ⟨K66, S67, m68⟩ := Ent.mixed (l := []) (κ := K59) e65 10 rfl
    refine ⟨((S52.tr (S60.tr S67)).cl rfl), ?_⟩
    refine WO.k2 rfl rfl rfl rfl (rn_addS rfl rfl rfl hx33) ?_
    refine WO.pn 1 rfl ?_
    refine WO.wa ?_
    refine WA.last [] (by kernel_rfl) (by kernel_rfl) rfl ?_
    refine WO.fin ?_
    exact DN.meet _ ⟨K66, rfl, (S45.tr (S52.tr (S60.tr S67))).wk rfl⟩ fun a ha => (ha.more ha.nil rfl)
   ·
    refine WO.call rfl rfl rfl rfl rfl rfl Tryd.call39 (s_l1Int_ok (κ := fun b => mp [] 0 (K51 b)) hx27) ?_
    rintro _ w70 ⟨k71, rfl, e72⟩
    obtain ⟨K73, S74, m75⟩ := Ent.mixed (l := []) (κ := K51) e72 8 rfl
    refine ⟨((S52.tr S74).cl rfl), ?_⟩
    refine WO.wa ?_
    refine WA.fork2 (fuel := 6) 4 13 (by kernel_rfl) rfl ?_ ?_
    ·
     have f77 := f55.stp S74 rfl rfl
     refine WO.k1 ((S52.tr S74).cl rfl) rfl rfl rfl rfl (rn_ld Tryd.isAgg9 rfl rfl (hvE (f77.rdc.gStr hx22))) ?_
     refine WO.wa ?_
     refine WA.seg (fuel := 0) [(5, 2), (9, 2), (10, 2), (13, 1), (14, 2), (15, 2)] (by kernel_rfl) (by kernel_rfl) rfl ?_
     refine WO.k2 rfl rfl rfl rfl (rn_addS rfl rfl rfl hx24) ?_
     refine WO.k2 rfl rfl rfl rfl (rn_addS rfl rfl rfl hx28) ?_
     refine WO.k2 rfl rfl rfl rfl (rn_addS rfl rfl rfl hx29) ?_
     refine WO.call rfl rfl rfl rfl rfl rfl Tryd.call39 (s_l1Int_ok (κ := fun b => mp [] 0 (K73 b)) hx32) ?_
     rintro _ w78 ⟨k79, rfl, e80⟩
     obtain ⟨K81, S82, m83⟩ := Ent.mixed (l := []) (κ := K73) e80 10 rfl
     refine ⟨((S52.tr (S74.tr S82)).cl rfl), ?_⟩
     refine WO.k2 rfl rfl rfl rfl (rn_addS rfl rfl rfl hx33) ?_
     refine WO.pn 1 rfl ?_
     refine WO.wa ?_
     refine WA.last [] (by kernel_rfl) (by kernel_rfl) rfl ?_
     refine WO.fin ?_
     exact DN.meet _ ⟨K81, rfl, (S45.tr (S52.tr (S74.tr S82))).wk rfl⟩ fun a ha => (ha.more ha.nil rfl)
    ·
     refine WO.call rfl rfl rfl rfl rfl rfl Tryd.call39 (s_l1Int_ok (κ := fun b => mp [] 0 (K73 b)) hx32) ?_
     rintro _ w85 ⟨k86, rfl, e87⟩
     obtain ⟨K88, S89, m90⟩ := Ent.mixed (l := []) (κ := K73) e87 10 rfl
     refine ⟨((S52.tr (S74.tr S89)).cl rfl), ?_⟩
     refine WO.wa ?_
     refine WA.seg (fuel := 0) [(4, 1), (5, 2), (9, 2), (10, 2), (14, 2), (15, 2)] (by kernel_rfl) (by kernel_rfl) rfl ?_
     have f92 := f55.stp (S74.tr S89) rfl rfl
     refine WO.k1 ((S52.tr (S74.tr S89)).cl rfl) rfl rfl rfl rfl (rn_ld Tryd.isAgg9 rfl rfl (hvE (f92.rdc.gStr hx22))) ?_
     refine WO.k2 rfl rfl rfl rfl (rn_addS rfl rfl rfl hx24) ?_
     refine WO.k2 rfl rfl rfl rfl (rn_addS rfl rfl rfl hx28) ?_
     refine WO.k2 rfl rfl rfl rfl (rn_addS rfl rfl rfl hx29) ?_
     refine WO.k2 rfl rfl rfl rfl (rn_addS rfl rfl rfl hx33) ?_
     refine WO.pn 1 rfl ?_
     refine WO.wa ?_
     refine WA.last [] (by kernel_rfl) (by kernel_rfl) rfl ?_
     refine WO.fin ?_
     exact DN.meet _ ⟨K88, rfl, (S45.tr (S52.tr (S74.tr S89))).wk rfl⟩ fun a ha => (ha.more ha.nil rfl)
  rintro _ w40 ⟨K41, rfl, S42⟩
  refine DN.seq ?_
  refine WC.ret ?_
  have f93 := hE.stp (S3.tr (S9.tr (S24.tr (S37.tr S42)))) rfl rfl
  refine DN.res (l := [.tmp 2]) Tryd.results12 (res_tmp rfl rfl) rfl ?_
  obtain rfl := Option.some.inj h
  exact ⟨K41, rfl, f93⟩

/- strings.Split -/
theorem strings_Split_ok {w : World} {κ : Col} {p0 p1 : ByteArray} (gGM : Vm 1 κ w) {r : (List ByteArray)} (h : strings_Split p0 p1 = some r) : Ret Tryd.prog 40 [.string p0, .string p1] w (fun v w' => ∃ (κ' : Col) (ra0 : Option Addr) (ru0 : Nat), v = .slice ra0 r.length ru0 ∧ Ent κ w κ' w' ∧ Oc Ep.str 9 κ' w' 2 ra0 ru0 r) := split_ok Tryd.strings_Split gGM h


/- slices.Index[[]string,string] -/
theorem slices_Index_string_string_ok {w : World} {κ : Col} {a0 : Option Addr} {u0 : Nat} {p0 : (List ByteArray)} {p1 : ByteArray} (g0 : Rd Rp.str κ w 0 a0 u0 p0) {r : Int} (h : slices_Index_string_string p0 p1 = some r) : Ret Tryd.prog 41 [.slice a0 p0.length u0, .string p1] w (fun v w' => ∃ (κ' : Col), v = .int .i64 r ∧ Ent κ w κ' w') := by
 unfold slices_Index_string_string at h
 refine Ret.enter Tryd.func41 rfl Tryd.ntmps41 rfl ?_
 dsimp only [envOf]
 have hE := Ent.refl κ w
 refine WC.seq ?_
 refine WC.rs [(0, 2)] rfl ?_
 refine WO.pn 1 rfl ?_
 refine WO.fin ?_
 refine DN.seq ?_
 refine WC.seq ?_
 refine WC.seq ?_
 refine WC.rs [(0, 2), (1, 2), (2, 2)] rfl ?_
 refine WO.pn 1 rfl ?_
 refine WO.k2 rfl rfl rfl rfl (rn_len Tryd.runUnderlying57 rfl rfl) ?_
 refine WO.pn 1 rfl ?_
 refine WO.fin ?_
 refine DN.seq ?_
 have hN1 : (p0.length : Int) ≤ 9223372036854775807 := g0.len_le
 obtain ⟨q2, hq3, hK2⟩ := Option.bind_eq_some_iff.mp h
 clear h
 refine WC.meet (fun L w' => ∃ (κ' : Col), L = [] ∧ Stp [] κ w κ' w' ∧ q2 = Sum.inr ()) ?_ ?_
 ·
  refine WC.block ?_
  refine WC.loop (fun k L w' => ∃ (κ' : Col) (v8 : Int), L = [(0, .slice a0 p0.length u0), (1, .string p1), (7, .int .i64 (p0.length : Int)), (8, .int .i64 v8)] ∧ Stp [] κ w κ' w' ∧ 0 ≤ v8 ∧ Int.toNat ((p0.length : Int) - v8) = k ∧ cntM (slices_Index_string_string_b0 p0 p1) k v8 () = some q2) ⟨_, _, ⟨κ, 0, rfl, (Stp.refl _ _).wk rfl, (by decide), (by simp), hq3⟩, fun a ha => (ha.more (ha.more (ha.more (ha.more ha.nil rfl) rfl) rfl) rfl)⟩ ?_
  rintro k _ w7 ⟨K8, v8, rfl, S9, hj1, hJ1, h⟩
  rcases k with _ | k
  ·
   have hk10 := h; obtain ⟨o1, h⟩ := ex_eq (Sum.inr (Sum.inl ()) : Int ⊕ ((Unit) ⊕ (Unit)))
   have hc1 : decide (v8 < (p0.length : Int)) = false := decide_eq_false (by omega)
   refine WC.seq ?_
   refine WC.rs [(0, 2)] rfl ?_
   refine WO.pn 1 rfl ?_
   refine WO.fin ?_
   refine DN.seq ?_
   refine WC.seq ?_
   refine WC.cf' rfl hc1 ?_
   refine WC.exit ?_
   refine DN.exitThen ?_
   refine DN.exitThen ?_
   obtain rfl := Option.some.inj h
   have h := hk10
   refine DN.hit ?_
   obtain rfl := Option.some.inj h
   exact DN.meet _ ⟨K8, rfl, S9.wk rfl, rfl⟩ fun a ha => ha.nil
  ·
   obtain ⟨o1, h, hk10⟩ := Option.bind_eq_some_iff.mp h; unfold slices_Index_string_string_b0 at h
   have hc1 : decide (v8 < (p0.length : Int)) = true := decide_eq_true (by omega)
   refine WC.seq ?_
   refine WC.rs [(0, 2)] rfl ?_
   refine WO.pn 1 rfl ?_
   refine WO.fin ?_
   refine DN.seq ?_
   refine WC.seq ?_
   refine WC.ct' rfl hc1 ?_
   refine WC.skip ?_
   refine DN.seq ?_
   refine WC.seq ?_
   refine WC.block ?_
   refine WC.seq ?_
   refine WC.rs [(0, 2), (1, 2)] rfl ?_
   refine WO.pn 2 rfl ?_
   refine WO.fin ?_
   refine DN.seq ?_
   refine WC.seq ?_
   refine WC.rs [(0, 2), (1, 2), (2, 2), (3, 2), (4, 1), (5, 2)] rfl ?_
   refine WO.pn 3 rfl ?_
   obtain ⟨x14, hx14, h⟩ := Option.bind_eq_some_iff.mp h
   refine WO.k2 rfl rfl rfl rfl (rn_index g0 hx14 Tryd.runUnderlying57 Tryd.sizeOf9 rfl rfl rfl rfl) ?_
   have f11 := g0.stp S9 rfl rfl
   refine WO.k1 trivial rfl rfl rfl rfl (rn_ld Tryd.isAgg9 rfl rfl (hvE (f11.gStr hx14))) ?_
   refine WO.k2 rfl rfl rfl rfl (rn_eqlSt rfl rfl rfl) ?_
   refine WO.fin ?_
   refine DN.seq ?_
   revert h
   cases ht12 : (eqB p1 x14) with
   | true =>
    intro h; replace h := cT h
    refine WC.ct rfl ?_
    refine WC.seq ?_
    refine WC.rs [(0, 2), (1, 2)] rfl ?_
    refine WO.pn 2 rfl ?_
    refine WO.fin ?_
    refine DN.seq ?_
    refine WC.ret ?_
    refine DN.retBlock ?_
    refine DN.retThen ?_
    refine DN.retThen ?_
    obtain rfl := Option.some.inj h
    obtain rfl := Option.some.inj hk10
    have h := hK2
    dsimp only [aft] at h
    refine DN.retBlock ?_
    refine DN.retMeet ?_
    refine DN.retThen ?_
    have f13 := hE.stp S9 rfl rfl
    refine DN.res (l := [.tmp 4]) Tryd.results41 (res_tmp rfl rfl) rfl ?_
    obtain rfl := Option.some.inj h
    exact ⟨K8, rfl, f13⟩
   | false =>
    intro h; replace h := cF h
    refine WC.cf rfl ?_
    refine WC.skip ?_
    refine DN.block ?_
    refine DN.seq ?_
    refine WC.rs [(0, 2), (1, 2)] rfl ?_
    refine WO.pn 2 rfl ?_
    refine WO.fin ?_
    have hw1 : IntKind.wrap .i64 (v8 + 1) = v8 + 1 := wr1 hj1 (of_decide_eq_true hc1) hN1
    rw [hw1]
    have hc1 := of_decide_eq_true hc1
    obtain rfl := Option.some.inj h
    refine DN.round fun a ha => ?_
    exact ⟨k, _, Nat.lt_succ_self _, ⟨K8, v8 + 1, rfl, S9.wk rfl, by omega, by omega, hk10⟩, (ha.more (ha.more (ha.more (ha.more ha.nil rfl) rfl) rfl) rfl)⟩
 rintro _ w4 ⟨K5, rfl, S6, rfl⟩
 have h := hK2
 dsimp only [aft] at h
 refine DN.seq ?_
 refine WC.seq ?_
 refine WC.rs [(0, 2)] rfl ?_
 refine WO.pn 1 rfl ?_
 refine WO.fin ?_
 refine DN.seq ?_
 refine WC.ret ?_
 have f14 := hE.stp S6 rfl rfl
 refine DN.res (l := [.tmp 4]) Tryd.results41 (res_tmp rfl rfl) rfl ?_
 obtain rfl := Option.some.inj h
 exact ⟨K5, rfl, f14⟩

/- loop.example/g00869/impl.readNumber -/
theorem i_readNumber_ok {w : World} {κ : Col} {p0 : ByteArray} {p1 : Int}  {r : Int × Bool} (h : i_readNumber p0 p1 = some r) : Ret Tryd.prog 42 [.string p0, .int .i64 p1] w (fun v w' => ∃ (κ' : Col), v = .tuple #[.int .i64 r.1, .bool r.2] ∧ Ent κ w κ' w') := by
 unfold i_readNumber at h
 refine Ret.enter Tryd.func42 rfl Tryd.ntmps42 rfl ?_
 dsimp only [envOf]
 have hE := Ent.refl κ w
 refine WC.seq ?_
 refine WC.rs [(0, 2), (1, 2)] rfl ?_
 refine WO.pn 2 rfl ?_
 refine WO.fin ?_
 refine DN.seq ?_
 refine WC.seq ?_
 refine WC.seq ?_
 refine WC.rs [(0, 2), (1, 2), (2, 2), (3, 2), (4, 2), (5, 2), (6, 2), (7, 2), (8, 2), (9, 2), (10, 2), (11, 2), (12, 2), (13, 2), (14, 2), (15, 2), (16, 2)] rfl ?_
 refine WO.pn 1 rfl ?_
 refine WO.k2 rfl rfl rfl rfl (rn_eqlSt rfl rfl rfl) ?_
 refine WO.pn 1 rfl ?_
 obtain ⟨p14, h, hK1⟩ := Option.bind_eq_some_iff.mp h
 refine WO.meet [(3, 2), (4, 2), (5, 2), (6, 2)] [(7, 2), (8, 2), (9, 2), (10, 2), (11, 2), (12, 2), (13, 2), (14, 2), (15, 2), (16, 2)] (fun L w' => L = [(0, .string p0), (1, .int .i64 p1), (14, .bool p14)] ∧ ∃ κ', Stp [] κ w κ' w') trivial ?_ ?_
 ·
  revert h
  cases ht2 : (eqB p0 (ByteArray.mk #[])) with
  | true =>
   intro h; replace h := cT h
   refine WO.pn 4 rfl ?_
   obtain rfl := Option.some.inj h
   exact WO.met _ trivial ⟨rfl, _, (Stp.refl _ _).wk rfl⟩ fun a ha => (ha.more (ha.more (ha.more ha.nil rfl) rfl) rfl)
  | false =>
   intro h; replace h := cF h
   refine WO.pn 1 rfl ?_
   refine WO.k2 rfl rfl rfl rfl (rn_lenS Tryd.runUnderlying9 rfl rfl) ?_
   refine WO.pn 2 rfl ?_
   obtain rfl := Option.some.inj h
   exact WO.met _ trivial ⟨rfl, _, (Stp.refl _ _).wk rfl⟩ fun a ha => (ha.more (ha.more (ha.more ha.nil rfl) rfl) rfl)
 rintro _ w3 _ ⟨rfl, K4, S5⟩
 have h := hK1
 refine WO.pn 1 rfl ?_
 obtain ⟨p24, h, hK6⟩ := Option.bind_eq_some_iff.mp h
 refine WO.meet [(8, 2), (9, 2), (10, 2), (11, 2), (12, 2), (13, 2), (14, 2), (15, 2), (16, 2)] [] (fun L w' => L = [(0, .string p0), (1, .int .i64 p1), (24, .bool p24)] ∧ ∃ κ', Stp [] K4 w3 κ' w') trivial ?_ ?_
 ·
  revert h
  cases ht7 : p14 with
  | true =>
   intro h; replace h := cT h
   refine WO.pn 9 rfl ?_
   obtain rfl := Option.some.inj h
   exact WO.met _ trivial ⟨rfl, _, (Stp.refl _ _).wk rfl⟩ fun a ha => (ha.more (ha.more (ha.more ha.nil rfl) rfl) rfl)
  | false =>
   intro h; replace h := cF h
   refine WO.pn 1 rfl ?_
   obtain ⟨x17, hx17, h⟩ := Option.bind_eq_some_iff.mp h
   refine WO.k2 rfl rfl rfl rfl (rn_indexSt Tryd.runUnderlying9 hx17 rfl rfl rfl) ?_
   refine WO.pn 2 rfl ?_
   obtain ⟨p23, h, hK8⟩ := Option.bind_eq_some_iff.mp h
   refine WO.meet [(12, 2), (13, 2), (14, 2), (15, 2)] [(16, 2)] (fun L w' => L = [(0, .string p0), (1, .int .i64 p1), (15, .bool false), (23, .bool p23)] ∧ ∃ κ', Stp [] K4 w3 κ' w') trivial ?_ ?_
   ·
    revert h
    cases ht9 : (x17 == 48) with
    | true =>
     intro h; replace h := cT h
     refine WO.pn 1 rfl ?_
     refine WO.k2 rfl rfl rfl rfl (rn_lenS Tryd.runUnderlying9 rfl rfl) ?_
     refine WO.pn 2 rfl ?_
     obtain rfl := Option.some.inj h
     exact WO.met _ trivial ⟨rfl, _, (Stp.refl _ _).wk rfl⟩ fun a ha => (ha.more (ha.more (ha.more (ha.more ha.nil rfl) rfl) rfl) rfl)
    | false =>
     intro h; replace h := cF h
     refine WO.pn 4 rfl ?_
     obtain rfl := Option.some.inj h
     exact WO.met _ trivial ⟨rfl, _, (Stp.refl _ _).wk rfl⟩ fun a ha => (ha.more (ha.more (ha.more (ha.more ha.nil rfl) rfl) rfl) rfl)
   rintro _ w10 _ ⟨rfl, K11, S12⟩
   have h := hK8
   refine WO.pn 1 rfl ?_
   obtain rfl := Option.some.inj h
   exact WO.met _ trivial ⟨rfl, _, S12.wk rfl⟩ fun a ha => (ha.more (ha.more (ha.more ha.nil rfl) rfl) rfl)
 rintro _ w13 _ ⟨rfl, K14, S15⟩
 have h := hK6
 refine WO.fin ?_
 refine DN.seq ?_
 revert h
 cases ht16 : p24 with
 | true =>
  intro h; replace h := cT h
  refine WC.ct rfl ?_
  refine WC.seq ?_
  refine WC.rs [(0, 2), (1, 2)] rfl ?_
  refine WO.pn 2 rfl ?_
  refine WO.fin ?_
  refine DN.seq ?_
  refine WC.ret ?_
  refine DN.retThen ?_
  have f17 := hE.stp (S5.tr S15) rfl rfl
  refine DN.res (l := [.tmp 4, .tmp 5]) Tryd.results42 (res_tmp rfl (res_tmp rfl rfl)) rfl ?_
  obtain rfl := Option.some.inj h
  exact ⟨K14, rfl, f17⟩
 | false =>
  intro h; replace h := cF h
  refine WC.cf rfl ?_
  refine WC.skip ?_
  refine DN.seq ?_
  refine WC.seq ?_
  refine WC.rs [(0, 2)] rfl ?_
  refine WO.pn 1 rfl ?_
  refine WO.fin ?_
  refine DN.seq ?_
  refine WC.seq ?_
  refine WC.seq ?_
  refine WC.rs [(0, 2)] rfl ?_
  refine WO.pn 1 rfl ?_
  refine WO.fin ?_
  refine DN.seq ?_
  obtain ⟨_, hr18, h⟩ := Option.bind_eq_some_iff.mp h
  have hN18 := rng_ok hr18
  obtain ⟨q2, hq20, hK19⟩ := Option.bind_eq_some_iff.mp h
  clear h
  refine WC.meet (fun L w' => ∃ (κ' : Col) (s3 : Int), L = [(1, .int .i64 p1), (6, .int .i64 s3)] ∧ Stp [] K14 w13 κ' w' ∧ q2 = Sum.inr s3) ?_ ?_
  ·
   refine WC.block ?_
   refine WC.loop (fun k L w' => ∃ (κ' : Col) (v7 : Int) (s1 : Int), L = [(0, .string p0), (1, .int .i64 p1), (6, .int .i64 s1), (7, .int .i64 v7)] ∧ Stp [] K14 w13 κ' w' ∧ 0 ≤ v7 ∧ Int.toNat ((p0.size : Int) - v7) = k ∧ cntM (i_readNumber_b0 p0) k v7 s1 = some q2) ⟨_, _, ⟨K14, 0, (0 : Int), rfl, (Stp.refl _ _).wk rfl, (by decide), (by simp), hq20⟩, fun a ha => (ha.more (ha.more (ha.more (ha.more ha.nil rfl) rfl) rfl) rfl)⟩ ?_
   rintro k _ w24 ⟨K25, v7, s1, rfl, S26, hj18, hJ18, h⟩
   rcases k with _ | k
   ·
    have hk27 := h; obtain ⟨o18, h⟩ := ex_eq (Sum.inr (Sum.inl s1) : (Int × Bool) ⊕ ((Int) ⊕ (Int)))
    have hc18 : decide (v7 < (p0.size : Int)) = false := decide_eq_false (by omega)
    refine WC.seq ?_
    refine WC.seq ?_
    refine WC.rs [(0, 2), (1, 2), (2, 2), (3, 2)] rfl ?_
    refine WO.pn 2 rfl ?_
    refine WO.k2 rfl rfl rfl rfl (rn_lenS Tryd.runUnderlying9 rfl rfl) ?_
    refine WO.pn 1 rfl ?_
    refine WO.fin ?_
    refine DN.seq ?_
    refine WC.cf' rfl hc18 ?_
    refine WC.exit ?_
    refine DN.exitThen ?_
    refine DN.exitThen ?_
    obtain rfl := Option.some.inj h
    have h := hk27
    refine DN.hit ?_
    obtain rfl := Option.some.inj h
    exact DN.meet _ ⟨K25, (s1 : Int), rfl, S26.wk rfl, rfl⟩ fun a ha => (ha.more (ha.more ha.nil rfl) rfl)
   ·
    obtain ⟨o18, h, hk27⟩ := Option.bind_eq_some_iff.mp h; unfold i_readNumber_b0 at h
    have hc18 : decide (v7 < (p0.size : Int)) = true := decide_eq_true (by omega)
    refine WC.seq ?_
    refine WC.seq ?_
    refine WC.rs [(0, 2), (1, 2), (2, 2), (3, 2)] rfl ?_
    refine WO.pn 2 rfl ?_
    refine WO.k2 rfl rfl rfl rfl (rn_lenS Tryd.runUnderlying9 rfl rfl) ?_
    refine WO.pn 1 rfl ?_
    refine WO.fin ?_
    refine DN.seq ?_
    refine WC.ct' rfl hc18 ?_
    refine WC.skip ?_
    refine DN.seq ?_
    refine WC.seq ?_
    refine WC.block ?_
    refine WC.seq ?_
    refine WC.seq ?_
    refine WC.rs [(0, 2), (1, 2), (2, 2), (3, 2), (4, 2), (5, 2), (6, 2), (7, 2), (8, 2), (9, 2)] rfl ?_
    refine WO.pn 2 rfl ?_
    obtain ⟨x33, hx33, h⟩ := Option.bind_eq_some_iff.mp h
    refine WO.k2 rfl rfl rfl rfl (rn_indexSt Tryd.runUnderlying9 hx33 rfl rfl rfl) ?_
    refine WO.pn 2 rfl ?_
    obtain ⟨p40, h, hK28⟩ := Option.bind_eq_some_iff.mp h
    refine WO.meet [(5, 2), (6, 2), (7, 2), (8, 2), (9, 2)] [] (fun L w' => L = [(0, .string p0), (1, .int .i64 p1), (6, .int .i64 s1), (7, .int .i64 v7), (40, .bool p40)] ∧ ∃ κ', Stp [] K25 w24 κ' w') trivial ?_ ?_
    ·
     revert h
     cases ht29 : decide (x33 < 48) with
     | true =>
      intro h; replace h := cT h
      refine WO.pn 5 rfl ?_
      obtain rfl := Option.some.inj h
      exact WO.met _ trivial ⟨rfl, _, (Stp.refl _ _).wk rfl⟩ fun a ha => (ha.more (ha.more (ha.more (ha.more (ha.more ha.nil rfl) rfl) rfl) rfl) rfl)
     | false =>
      intro h; replace h := cF h
      refine WO.pn 2 rfl ?_
      obtain ⟨x38, hx38, h⟩ := Option.bind_eq_some_iff.mp h
      refine WO.k2 rfl rfl rfl rfl (rn_indexSt Tryd.runUnderlying9 hx38 rfl rfl rfl) ?_
      refine WO.pn 2 rfl ?_
      obtain rfl := Option.some.inj h
      exact WO.met _ trivial ⟨rfl, _, (Stp.refl _ _).wk rfl⟩ fun a ha => (ha.more (ha.more (ha.more (ha.more (ha.more ha.nil rfl) rfl) rfl) rfl) rfl)
    rintro _ w30 _ ⟨rfl, K31, S32⟩
    have h := hK28
    refine WO.fin ?_
    refine DN.seq ?_
    revert h
    cases ht33 : p40 with
    | true =>
     intro h; replace h := cT h
     refine WC.ct rfl ?_
     refine WC.seq ?_
     refine WC.rs [(0, 2), (1, 2)] rfl ?_
     refine WO.pn 2 rfl ?_
     refine WO.fin ?_
     refine DN.seq ?_
     refine WC.ret ?_
     refine DN.retThen ?_
     refine DN.retBlock ?_
     refine DN.retThen ?_
     refine DN.retThen ?_
     obtain rfl := Option.some.inj h
     obtain rfl := Option.some.inj hk27
     have h := hK19
     dsimp only [aft] at h
     refine DN.retBlock ?_
     refine DN.retMeet ?_
     refine DN.retThen ?_
     have f34 := hE.stp (S5.tr (S15.tr (S26.tr S32))) rfl rfl
     refine DN.res (l := [.tmp 4, .tmp 5]) Tryd.results42 (res_tmp rfl (res_tmp rfl rfl)) rfl ?_
     obtain rfl := Option.some.inj h
     exact ⟨K31, rfl, f34⟩
    | false =>
     intro h; replace h := cF h
     refine WC.cf rfl ?_
     refine WC.skip ?_
     refine DN.seq ?_
     refine WC.rs [(0, 2), (1, 2), (2, 2), (3, 2), (4, 2), (5, 2), (6, 2), (7, 2), (8, 2)] rfl ?_
     refine WO.pn 4 rfl ?_
     obtain ⟨x45, hx45, h⟩ := Option.bind_eq_some_iff.mp h
     refine WO.k2 rfl rfl rfl rfl (rn_indexSt Tryd.runUnderlying9 hx45 rfl rfl rfl) ?_
     refine WO.pn 1 rfl ?_
     refine WO.k2 rfl rfl rfl rfl (rn_conv Tryd.runUnderlying5 Tryd.runUnderlying2 rfl rfl) ?_
     refine WO.pn 2 rfl ?_
     refine WO.fin ?_
     refine DN.block ?_
     refine DN.seq ?_
     refine WC.rs [(0, 2), (1, 2), (2, 2)] rfl ?_
     refine WO.pn 3 rfl ?_
     refine WO.fin ?_
     have hw18 : IntKind.wrap .i64 (v7 + 1) = v7 + 1 := wr1 hj18 (of_decide_eq_true hc18) hN18
     rw [hw18]
     have hc18 := of_decide_eq_true hc18
     obtain rfl := Option.some.inj h
     refine DN.round fun a ha => ?_
     exact ⟨k, _, Nat.lt_succ_self _, ⟨K31, v7 + 1, ((IntKind.i64.wrap ((IntKind.i64.wrap (10 * s1)) + (IntKind.i64.wrap (IntKind.u8.wrap (x45 - 48))))) : Int), rfl, (S26.tr S32).wk rfl, by omega, by omega, hk27⟩, (ha.more (ha.more (ha.more (ha.more ha.nil rfl) rfl) rfl) rfl)⟩
  rintro _ w21 ⟨K22, s3, rfl, S23, rfl⟩
  have h := hK19
  dsimp only [aft] at h
  refine DN.seq ?_
  refine WC.seq ?_
  refine WC.rs [(0, 2), (1, 2), (2, 2), (3, 2), (4, 2), (5, 2)] rfl ?_
  refine WO.pn 6 rfl ?_
  refine WO.fin ?_
  refine DN.seq ?_
  refine WC.ret ?_
  have f35 := hE.stp (S5.tr (S15.tr S23)) rfl rfl
  refine DN.res (l := [.tmp 4, .tmp 5]) Tryd.results42 (res_tmp rfl (res_tmp rfl rfl)) rfl ?_
  obtain rfl := Option.some.inj h
  exact ⟨K22, rfl, f35⟩

/- loop.example/g00869/impl.TextEdit -/
theorem i_TextEdit_ok {w : World} {κ : Col} {p0 : ByteArray} (gGE0 : Rd Rp.str κ w 0 (some ⟨0, 0, none⟩) 4 namesE0) (gGM : Vm 1 κ w) {r : Edit × Bool} (h : i_TextEdit p0 = some r) : Ret Tryd.prog 13 [.string p0] w (fun v w' => ∃ (κ' : Col), v = .tuple #[.agg #[.int .i64 r.1.Kind, .int .i64 r.1.V, .int .i64 r.1.N], .bool r.2] ∧ Ent κ w κ' w') := by
 unfold i_TextEdit at h
 refine Ret.enter Tryd.func13 rfl Tryd.ntmps13 rfl ?_
 dsimp only [envOf]
 have hE := Ent.refl κ w
 refine WC.seq ?_
 refine WC.rs [(0, 1), (1, 2)] rfl ?_
 refine WO.alloc (κ := κ) 2 rfl rfl rfl rfl rfl Tryd.zeroValue25 rfl fun b2 w1 K2 S3 f4 => ⟨trivial, ?_⟩
 refine WO.pn 1 rfl ?_
 refine WO.fin ?_
 refine DN.seq ?_
 refine WC.seq ?_
 refine WC.rs [(0, 2), (1, 1), (2, 2)] rfl ?_
 refine WO.pn 1 rfl ?_
 obtain ⟨x11, hx11, h⟩ := Option.bind_eq_some_iff.mp h
 have f5 := gGM.stp S3 rfl rfl
 refine WO.call rfl rfl rfl rfl rfl rfl Tryd.call40 (strings_Split_ok (κ := fun b => mp [] 0 (K2 b)) (f5.map (mp [] 0) rfl rfl) hx11) ?_
 rintro _ w6 ⟨k7, a11_0, u11_0, rfl, e8, f9⟩
 obtain ⟨K10, S11, m12⟩ := Ent.mixed (l := []) (κ := K2) e8 3 rfl
 refine ⟨trivial, ?_⟩
 have f14 := f9.mx no_str m12 rfl (rfl : 3 + 2 = 5)
 refine WO.pn 1 rfl ?_
 refine WO.fin ?_
 refine DN.seq ?_
 refine WC.seq ?_
 refine WC.rx (κ := K10) [0, 5] none [(0, 2), (1, 2), (2, 2), (3, 0), (4, 1), (5, 2)] [] (by kernel_rfl) (by kernel_rfl) fun w16 S15 => ?_
 refine WO.k2 rfl rfl rfl rfl (rn_sliceG Tryd.runUnderlying71 Tryd.sizeOf9 rfl rfl) ?_
 refine WO.pn 1 rfl ?_
 obtain ⟨x14, hx14, h⟩ := Option.bind_eq_some_iff.mp h
 refine WO.k2 rfl rfl rfl rfl (rn_index f14.rdc hx14 Tryd.runUnderlying57 Tryd.sizeOf9 rfl rfl rfl rfl) ?_
 have f17 := f14.stp S15 rfl rfl
 refine WO.k0 rfl rfl rfl rfl (rn_ld Tryd.isAgg9 rfl rfl (hvC (f17.rdc.gStr hx14) rfl)) ?_
 obtain ⟨x16, hx16, h⟩ := Option.bind_eq_some_iff.mp h
 have f18 := gGE0.stp (S3.tr (S11.tr S15)) rfl rfl
 refine WO.call rfl rfl rfl rfl rfl rfl Tryd.call41 (slices_Index_string_string_ok (κ := fun b => mp [] 0 (K10 b)) (Sl.map f18 (mp [] 0) rfl rfl) hx16) ?_
 rintro _ w19 ⟨k20, rfl, e21⟩
 obtain ⟨K22, S23, m24⟩ := Ent.mixed (l := []) (κ := K10) e21 6 rfl
 refine ⟨(S23.cl rfl), ?_⟩
 refine WO.pn 1 rfl ?_
 refine WO.nx ?_
 refine WO.fin ?_
 refine DN.seq ?_
 refine WC.seq ?_
 refine WC.seq ?_
 refine WC.rs [(0, 2), (1, 2), (2, 2), (3, 2), (4, 2), (5, 2), (6, 2)] rfl ?_
 refine WO.pn 3 rfl ?_
 obtain ⟨p23, h, hK26⟩ := Option.bind_eq_some_iff.mp h
 refine WO.meet [(3, 2), (4, 2), (5, 2), (6, 2)] [] (fun L w' => L = [(2, .pointer (some ⟨b2, 0, none⟩)), (4, .slice a11_0 x11.length u11_0), (5, .int .i64 x16), (23, .bool p23)] ∧ ∃ κ', Stp [] K22 w19 κ' w') trivial ?_ ?_
 ·
  revert h
  cases ht27 : decide (x16 < 0) with
  | true =>
   intro h; replace h := cT h
   refine WO.pn 4 rfl ?_
   obtain rfl := Option.some.inj h
   exact WO.met _ trivial ⟨rfl, _, (Stp.refl _ _).wk rfl⟩ fun a ha => (ha.more (ha.more (ha.more (ha.more ha.nil rfl) rfl) rfl) rfl)
  | false =>
   intro h; replace h := cF h
   refine WO.pn 1 rfl ?_
   refine WO.k2 rfl rfl rfl rfl (rn_len Tryd.runUnderlying57 rfl rfl) ?_
   refine WO.pn 2 rfl ?_
   obtain rfl := Option.some.inj h
   exact WO.met _ trivial ⟨rfl, _, (Stp.refl _ _).wk rfl⟩ fun a ha => (ha.more (ha.more (ha.more (ha.more ha.nil rfl) rfl) rfl) rfl)
 rintro _ w28 _ ⟨rfl, K29, S30⟩
 have h := hK26
 refine WO.fin ?_
 refine DN.seq ?_
 revert h
 cases ht31 : p23 with
 | true =>
  intro h; replace h := cT h
  refine WC.ct rfl ?_
  refine WC.seq ?_
  refine WC.rs [(0, 2), (1, 1), (2, 2)] rfl ?_
  refine WO.k2 rfl rfl rfl rfl (rn_build (parts := []) (cells := [.int .i64 0, .int .i64 0, .int .i64 0]) rfl rfl (by kernel_rfl)) ?_
  have f32 := f4.stp (S11.tr (S15.tr (S23.tr S30))) rfl rfl
  refine WO.stB0 (κ := K29) 2 (vc := [.int .i64 0, .int .i64 0, .int .i64 0]) rfl rfl rfl rfl rfl rfl rfl Tryd.sizeOf25 rfl rfl f32 rfl fun w33 S34 f35 => ⟨trivial, ?_⟩
  refine WO.pn 1 rfl ?_
  refine WO.fin ?_
  refine DN.seq ?_
  refine WC.ret ?_
  refine DN.retThen ?_
  have f36 := hE.stp (S3.tr (S11.tr (S15.tr (S23.tr (S30.tr S34))))) rfl rfl
  refine DN.res (l := [.cell 2 25, .tmp 3]) Tryd.results13 (res_cellA rfl f35 Tryd.isAgg25 Tryd.sizeOf25 rfl (res_tmp rfl rfl)) rfl ?_
  obtain rfl := Option.some.inj h
  exact ⟨K29, rfl, f36⟩
 | false =>
  intro h; replace h := cF h
  refine WC.cf rfl ?_
  refine WC.skip ?_
  refine DN.seq ?_
  refine WC.seq ?_
  refine WC.rs [(0, 2), (1, 2), (2, 1), (3, 1), (4, 2), (5, 2), (6, 2), (7, 2), (8, 2)] rfl ?_
  refine WO.pn 1 rfl ?_
  obtain ⟨x27, hx27, h⟩ := Option.bind_eq_some_iff.mp h
  refine WO.k2 rfl rfl rfl rfl (rn_index f17.rdc hx27 Tryd.runUnderlying57 Tryd.sizeOf9 rfl rfl rfl rfl) ?_
  have f37 := f17.stp (S23.tr S30) rfl rfl
  refine WO.k1 trivial rfl rfl rfl rfl (rn_ld Tryd.isAgg9 rfl rfl (hvE (f37.rdc.gStr hx27))) ?_
  obtain ⟨x29, hx29, h⟩ := Option.bind_eq_some_iff.mp h
  refine WO.call rfl rfl rfl rfl rfl rfl Tryd.call42 (i_readNumber_ok (κ := fun b => mp [] 0 (K29 b)) hx29) ?_
  rintro _ w38 ⟨k39, rfl, e40⟩
  obtain ⟨K41, S42, m43⟩ := Ent.mixed (l := []) (κ := K29) e40 8 rfl
  refine ⟨trivial, ?_⟩
  refine WO.pn 5 rfl ?_
  refine WO.fin ?_
  refine DN.seq ?_
  refine WC.seq ?_
  refine WC.rs [(0, 2), (1, 2), (2, 1), (3, 1), (4, 2), (5, 2), (6, 2), (7, 2), (8, 2)] rfl ?_
  refine WO.pn 1 rfl ?_
  obtain ⟨x34, hx34, h⟩ := Option.bind_eq_some_iff.mp h
  refine WO.k2 rfl rfl rfl rfl (rn_index f37.rdc hx34 Tryd.runUnderlying57 Tryd.sizeOf9 rfl rfl rfl rfl) ?_
  have f45 := f37.stp S42 rfl rfl
  refine WO.k1 trivial rfl rfl rfl rfl (rn_ld Tryd.isAgg9 rfl rfl (hvE (f45.rdc.gStr hx34))) ?_
  obtain ⟨x36, hx36, h⟩ := Option.bind_eq_some_iff.mp h
  refine WO.call rfl rfl rfl rfl rfl rfl Tryd.call42 (i_readNumber_ok (κ := fun b => mp [] 0 (K41 b)) hx36) ?_
  rintro _ w46 ⟨k47, rfl, e48⟩
  obtain ⟨K49, S50, m51⟩ := Ent.mixed (l := []) (κ := K41) e48 10 rfl
  refine ⟨trivial, ?_⟩
  refine WO.pn 5 rfl ?_
  refine WO.fin ?_
  refine DN.seq ?_
  refine WC.seq ?_
  refine WC.seq ?_
  refine WC.rs [(0, 2), (1, 2), (2, 2), (3, 2), (4, 2), (5, 2)] rfl ?_
  refine WO.pn 3 rfl ?_
  obtain ⟨p44, h, hK53⟩ := Option.bind_eq_some_iff.mp h
  refine WO.meet [(3, 2), (4, 2), (5, 2)] [] (fun L w' => L = [(2, .pointer (some ⟨b2, 0, none⟩)), (5, .int .i64 x16), (6, .int .i64 x29.1), (8, .int .i64 x36.1), (44, .bool p44)] ∧ ∃ κ', Stp [] K49 w46 κ' w') trivial ?_ ?_
  ·
   revert h
   cases ht54 : (!x29.2) with
   | true =>
    intro h; replace h := cT h
    refine WO.pn 3 rfl ?_
    obtain rfl := Option.some.inj h
    exact WO.met _ trivial ⟨rfl, _, (Stp.refl _ _).wk rfl⟩ fun a ha => (ha.more (ha.more (ha.more (ha.more (ha.more ha.nil rfl) rfl) rfl) rfl) rfl)
   | false =>
    intro h; replace h := cF h
    refine WO.pn 3 rfl ?_
    obtain rfl := Option.some.inj h
    exact WO.met _ trivial ⟨rfl, _, (Stp.refl _ _).wk rfl⟩ fun a ha => (ha.more (ha.more (ha.more (ha.more (ha.more ha.nil rfl) rfl) rfl) rfl) rfl)
  rintro _ w55 _ ⟨rfl, K56, S57⟩
  have h := hK53
  refine WO.fin ?_
  refine DN.seq ?_
  revert h
  cases ht58 : p44 with
  | true =>
   intro h; replace h := cT h
   refine WC.ct rfl ?_
   refine WC.seq ?_
   refine WC.rs [(0, 2), (1, 1), (2, 2)] rfl ?_
   refine WO.k2 rfl rfl rfl rfl (rn_build (parts := []) (cells := [.int .i64 0, .int .i64 0, .int .i64 0]) rfl rfl (by kernel_rfl)) ?_
   have f59 := f4.stp (S11.tr (S15.tr (S23.tr (S30.tr (S42.tr (S50.tr S57)))))) rfl rfl
   refine WO.stB0 (κ := K56) 2 (vc := [.int .i64 0, .int .i64 0, .int .i64 0]) rfl rfl rfl rfl rfl rfl rfl Tryd.sizeOf25 rfl rfl f59 rfl fun w60 S61 f62 => ⟨trivial, ?_⟩
   refine WO.pn 1 rfl ?_
   refine WO.fin ?_
   refine DN.seq ?_
   refine WC.ret ?_
   refine DN.retThen ?_
   have f63 := hE.stp (S3.tr (S11.tr (S15.tr (S23.tr (S30.tr (S42.tr (S50.tr (S57.tr S61)))))))) rfl rfl
   refine DN.res (l := [.cell 2 25, .tmp 3]) Tryd.results13 (res_cellA rfl f62 Tryd.isAgg25 Tryd.sizeOf25 rfl (res_tmp rfl rfl)) rfl ?_
   obtain rfl := Option.some.inj h
   exact ⟨K56, rfl, f63⟩
  | false =>
   intro h; replace h := cF h
   refine WC.cf rfl ?_
   refine WC.skip ?_
   refine DN.seq ?_
   refine WC.seq ?_
   refine WC.rs [(0, 2), (1, 2), (2, 2), (3, 2), (4, 2), (5, 1), (6, 2)] rfl ?_
   refine WO.pn 4 rfl ?_
   refine WO.k2 rfl rfl rfl rfl (rn_build (parts := [(0, .tmp 47), (1, .tmp 48), (2, .tmp 49)]) (cells := [.int .i64 (IntKind.i64.wrap (x16 + 1)), .int .i64 x29.1, .int .i64 x36.1]) rfl rfl (by kernel_rfl)) ?_
   have f64 := f4.stp (S11.tr (S15.tr (S23.tr (S30.tr (S42.tr (S50.tr S57)))))) rfl rfl
   refine WO.stB0 (κ := K56) 2 (vc := [.int .i64 (IntKind.i64.wrap (x16 + 1)), .int .i64 x29.1, .int .i64 x36.1]) rfl rfl rfl rfl rfl rfl rfl Tryd.sizeOf25 rfl rfl f64 rfl fun w65 S66 f67 => ⟨trivial, ?_⟩
   refine WO.pn 1 rfl ?_
   refine WO.fin ?_
   refine DN.seq ?_
   refine WC.ret ?_
   have f68 := hE.stp (S3.tr (S11.tr (S15.tr (S23.tr (S30.tr (S42.tr (S50.tr (S57.tr S66)))))))) rfl rfl
   refine DN.res (l := [.cell 2 25, .tmp 3]) Tryd.results13 (res_cellA rfl f67 Tryd.isAgg25 Tryd.sizeOf25 rfl (res_tmp rfl rfl)) rfl ?_
   obtain rfl := Option.some.inj h
   exact ⟨K56, rfl, f68⟩

/- loop.example/g00869/spec.l1Split -/
theorem s_l1Split_ok {w : World} {κ : Col} {p0 : ByteArray} {p1 : Int}  {r : (List ByteArray)} (h : s_l1Split p0 p1 = some r) : Ret Tryd.prog 51 [.string p0, .int .u8 p1] w (fun v w' => ∃ (κ' : Col) (ra0 : Option Addr) (ru0 : Nat), v = .slice ra0 r.length ru0 ∧ Ent κ w κ' w' ∧ Oc Ep.str 9 κ' w' 2 ra0 ru0 r) := by
 unfold s_l1Split at h
 refine Ret.enter Tryd.func51 rfl Tryd.ntmps51 rfl ?_
 dsimp only [envOf]
 have hE := Ent.refl κ w
 refine WC.seq ?_
 refine WC.rs [(0, 2)] rfl ?_
 refine WO.pn 1 rfl ?_
 refine WO.fin ?_
 refine DN.seq ?_
 refine WC.seq ?_
 refine WC.rs [(0, 1), (1, 2)] rfl ?_
 refine WO.bl0 (κ := κ) (E := Ep.str) 2 rfl rfl rfl rfl rfl Tryd.underlying57 Trydinfo9 rfl fun a8 u8 w1 K2 S3 f4 => ⟨trivial, ?_⟩
 refine WO.pn 1 rfl ?_
 refine WO.fin ?_
 refine DN.seq ?_
 refine WC.seq ?_
 refine WC.rs [(0, 2)] rfl ?_
 refine WO.pn 1 rfl ?_
 refine WO.fin ?_
 refine DN.seq ?_
 refine WC.seq ?_
 refine WC.seq ?_
 refine WC.rs [(0, 2)] rfl ?_
 refine WO.pn 1 rfl ?_
 refine WO.fin ?_
 refine DN.seq ?_
 obtain ⟨q2, hq7, hK6⟩ := Option.bind_eq_some_iff.mp h
 clear h
 refine WC.meet (fun L w' => ∃ (κ' : Col) (s3 : (List ByteArray) × Int × Int) (las3_0 : Option Addr) (lus3_0 : Nat), L = [(5, .slice las3_0 s3.1.length lus3_0)] ∧ Stp [2] K2 w1 κ' w' ∧ Oc Ep.str 9 κ' w' 2 las3_0 lus3_0 s3.1 ∧ q2 = Sum.inr s3) ?_ ?_
 ·
  refine WC.block ?_
  refine WC.loop (fun k L w' => ∃ (κ' : Col) (s1 : (List ByteArray) × Int × Int) (las1_0 : Option Addr) (lus1_0 : Nat), L = [(0, .string p0), (1, .int .u8 p1), (5, .slice las1_0 s1.1.length lus1_0), (6, .int .i64 s1.2.1), (7, .int .i64 s1.2.2)] ∧ Stp [2] K2 w1 κ' w' ∧ Oc Ep.str 9 κ' w' 2 las1_0 lus1_0 s1.1 ∧ whileM (s_l1Split_b0 p0 p1) k s1 = some q2) ⟨_, _, ⟨K2, ((([] : List ByteArray) : (List ByteArray)), (0 : Int), (0 : Int)), a8, u8, rfl, (Stp.refl _ _).wk rfl, f4, hq7⟩, fun a ha => (ha.more (ha.more (ha.more (ha.more (ha.more ha.nil rfl) rfl) rfl) rfl) rfl)⟩ ?_
  rintro k _ w12 ⟨K13, s1, las1_0, lus1_0, rfl, S14, f15, h⟩
  rcases k with _ | k
  ·
   cases h
  ·
   obtain ⟨o5, h, hk16⟩ := Option.bind_eq_some_iff.mp h; unfold s_l1Split_b0 at h
   refine WC.seq ?_
   refine WC.seq ?_
   refine WC.rs [(0, 2), (1, 2), (2, 2), (3, 2)] rfl ?_
   refine WO.pn 2 rfl ?_
   refine WO.k2 rfl rfl rfl rfl (rn_lenS Tryd.runUnderlying9 rfl rfl) ?_
   refine WO.pn 1 rfl ?_
   refine WO.fin ?_
   refine DN.seq ?_
   revert h
   cases ht17 : decide (s1.2.2 ≤ (p0.size : Int)) with
   | true =>
    intro h; replace h := cT h
    refine WC.ct rfl ?_
    refine WC.skip ?_
    refine DN.seq ?_
    refine WC.seq ?_
    refine WC.block ?_
    refine WC.seq ?_
    refine WC.rs [(0, 2), (1, 2), (2, 2), (3, 2), (4, 2), (5, 2), (6, 2), (7, 2), (8, 2), (9, 2), (10, 2)] rfl ?_
    refine WO.pn 2 rfl ?_
    refine WO.k2 rfl rfl rfl rfl (rn_lenS Tryd.runUnderlying9 rfl rfl) ?_
    refine WO.pn 2 rfl ?_
    obtain ⟨p25, h, hK18⟩ := Option.bind_eq_some_iff.mp h
    refine WO.meet [(5, 2), (6, 2), (7, 2), (8, 2), (9, 2), (10, 2)] [] (fun L w' => L = [(0, .string p0), (1, .int .u8 p1), (5, .slice las1_0 s1.1.length lus1_0), (6, .int .i64 s1.2.1), (7, .int .i64 s1.2.2), (25, .bool p25)] ∧ ∃ κ', Stp [] K13 w12 κ' w') trivial ?_ ?_
    ·
     revert h
     cases ht19 : (s1.2.2 == (p0.size : Int)) with
     | true =>
      intro h; replace h := cT h
      refine WO.pn 6 rfl ?_
      obtain rfl := Option.some.inj h
      exact WO.met _ trivial ⟨rfl, _, (Stp.refl _ _).wk rfl⟩ fun a ha => (ha.more (ha.more (ha.more (ha.more (ha.more (ha.more ha.nil rfl) rfl) rfl) rfl) rfl) rfl)
     | false =>
      intro h; replace h := cF h
      refine WO.pn 2 rfl ?_
      obtain ⟨x22, hx22, h⟩ := Option.bind_eq_some_iff.mp h
      refine WO.k2 rfl rfl rfl rfl (rn_indexSt Tryd.runUnderlying9 hx22 rfl rfl rfl) ?_
      refine WO.pn 3 rfl ?_
      obtain rfl := Option.some.inj h
      exact WO.met _ trivial ⟨rfl, _, (Stp.refl _ _).wk rfl⟩ fun a ha => (ha.more (ha.more (ha.more (ha.more (ha.more (ha.more ha.nil rfl) rfl) rfl) rfl) rfl) rfl)
    rintro _ w20 _ ⟨rfl, K21, S22⟩
    have h := hK18
    refine WO.fin ?_
    refine DN.seq ?_
    obtain ⟨q4, h, hK23⟩ := Option.bind_eq_some_iff.mp h
    refine WC.meet (fun L w' => ∃ (κ' : Col) (laq4_0 : Option Addr) (luq4_0 : Nat), L = [(0, .string p0), (1, .int .u8 p1), (5, .slice laq4_0 q4.1.length luq4_0), (6, .int .i64 q4.2), (7, .int .i64 s1.2.2)] ∧ Stp [2] K21 w20 κ' w' ∧ Oc Ep.str 9 κ' w' 2 laq4_0 luq4_0 q4.1) ?_ ?_
    ·
     revert h
     cases ht28 : p25 with
     | true =>
      intro h; replace h := cT h
      refine WC.ct rfl ?_
      refine WC.seq ?_
      refine WC.rs [(0, 2), (1, 2), (2, 2), (3, 2), (4, 2), (5, 1), (6, 1), (7, 2)] rfl ?_
      refine WO.pn 4 rfl ?_
      obtain ⟨x30, hx30, h⟩ := Option.bind_eq_some_iff.mp h
      refine WO.k2 rfl rfl rfl rfl (rn_sliceSt (k1 := .i64) (k2 := .i64) Tryd.runUnderlying9 (.inr ⟨_, rfl, rfl⟩) (.inr ⟨_, rfl, rfl⟩) hx30 rfl rfl) ?_
      refine WO.bl (κ := K21) (E := Ep.str) 3 [] (parts := [(0, .tmp 30)]) (cells := [.string x30]) (xs := ([x30] : List ByteArray)) rfl rfl rfl rfl rfl rfl Tryd.underlying57 Trydinfo9 rfl rfl rfl rfl rfl rfl rfl rfl rfl rfl ⟨[.string x30], [], Zl K21 w20 [], Zl K21 w20 [], rfl, Zl.sp (l1 := []) (l2 := []) rfl, Zl.sr (l1 := []) (l2 := []), rfl, rfl⟩ fun a31 u31 w29 K30 S31 f32 => ⟨trivial, ?_⟩
      obtain ⟨x32, hx32, h⟩ := Option.bind_eq_some_iff.mp h
      have f33 := f15.stp (S22.tr S31) rfl rfl
      refine WO.app (κ := K30) (E := Ep.str) 2 [] rfl rfl rfl rfl rfl rfl rfl rfl rfl Tryd.underlying57 Trydinfo9 rfl rfl rfl rfl f33 (Sl.srcP pu_str f32.rdc) sy_false hx32 rfl fun a32 u32 w34 K35 S36 f37 => ⟨trivial, ?_⟩
      refine WO.pn 1 rfl ?_
      refine WO.fin ?_
      refine DN.seq ?_
      refine WC.rs [(0, 2), (1, 2), (2, 2)] rfl ?_
      refine WO.pn 3 rfl ?_
      refine WO.fin ?_
      obtain rfl := Option.some.inj h
      exact DN.meet _ ⟨K35, a32, u32, rfl, (S31.tr S36).wk rfl, f37⟩ fun a ha => (ha.more (ha.more (ha.more (ha.more (ha.more ha.nil rfl) rfl) rfl) rfl) rfl)
     | false =>
      intro h; replace h := cF h
      refine WC.cf rfl ?_
      refine WC.skip ?_
      have f38 := f15.stp S22 rfl rfl
      obtain rfl := Option.some.inj h
      exact DN.meet _ ⟨K21, las1_0, lus1_0, rfl, (Stp.refl _ _).wk rfl, f38⟩ fun a ha => (ha.more (ha.more (ha.more (ha.more (ha.more ha.nil rfl) rfl) rfl) rfl) rfl)
    rintro _ w24 ⟨K25, laq4_0, luq4_0, rfl, S26, f27⟩
    have h := hK23
    refine DN.block ?_
    refine DN.seq ?_
    refine WC.rs [(0, 2), (1, 2), (2, 2)] rfl ?_
    refine WO.pn 3 rfl ?_
    refine WO.fin ?_
    obtain rfl := Option.some.inj h
    refine DN.round fun a ha => ?_
    exact ⟨k, _, Nat.lt_succ_self _, ⟨K25, ((q4.1 : (List ByteArray)), (q4.2 : Int), ((IntKind.i64.wrap (s1.2.2 + 1)) : Int)), laq4_0, luq4_0, rfl, (S14.tr (S22.tr S26)).wk rfl, f27, hk16⟩, (ha.more (ha.more (ha.more (ha.more (ha.more ha.nil rfl) rfl) rfl) rfl) rfl)⟩
   | false =>
    intro h; replace h := cF h
    refine WC.cf rfl ?_
    refine WC.exit ?_
    refine DN.exitThen ?_
    refine DN.exitThen ?_
    obtain rfl := Option.some.inj h
    have h := hk16
    refine DN.hit ?_
    obtain rfl := Option.some.inj h
    exact DN.meet _ ⟨K13, ((s1.1 : (List ByteArray)), (s1.2.1 : Int), (s1.2.2 : Int)), las1_0, lus1_0, rfl, S14.wk rfl, f15, rfl⟩ fun a ha => (ha.more ha.nil rfl)
 rintro _ w8 ⟨K9, s3, las3_0, lus3_0, rfl, S10, f11, rfl⟩
 have h := hK6
 dsimp only [aft] at h
 refine DN.seq ?_
 refine WC.seq ?_
 refine WC.rs [(0, 2), (1, 2)] rfl ?_
 refine WO.pn 2 rfl ?_
 refine WO.fin ?_
 refine DN.seq ?_
 refine WC.ret ?_
 have f39 := hE.stp (S3.tr S10) rfl rfl
 refine DN.res (l := [.tmp 4]) Tryd.results51 (res_tmp rfl rfl) rfl ?_
 obtain rfl := Option.some.inj h
 exact ⟨K9, las3_0, lus3_0, rfl, f39, f11⟩

/- loop.example/g00869/spec.l1Read -/
theorem s_l1Read_ok {w : World} {κ : Col} {p0 : ByteArray}  {r : Int × Bool} (h : s_l1Read p0 = some r) : Ret Tryd.prog 52 [.string p0] w (fun v w' => ∃ (κ' : Col), v = .tuple #[.int .i64 r.1, .bool r.2] ∧ Ent κ w κ' w') := by
 unfold s_l1Read at h
 refine Ret.enter Tryd.func52 rfl Tryd.ntmps52 rfl ?_
 dsimp only [envOf]
 have hE := Ent.refl κ w
 refine WC.seq ?_
 refine WC.rs [(0, 2), (1, 2)] rfl ?_
 refine WO.pn 2 rfl ?_
 refine WO.fin ?_
 refine DN.seq ?_
 refine WC.seq ?_
 refine WC.rs [(0, 2)] rfl ?_
 refine WO.pn 1 rfl ?_
 refine WO.fin ?_
 refine DN.seq ?_
 refine WC.seq ?_
 refine WC.seq ?_
 refine WC.rs [(0, 2), (1, 2), (2, 2), (3, 2), (4, 2), (5, 2), (6, 2), (7, 2), (8, 2), (9, 2), (10, 2), (11, 2), (12, 2), (13, 2), (14, 2), (15, 2), (16, 2), (17, 2)] rfl ?_
 refine WO.pn 1 rfl ?_
 refine WO.k2 rfl rfl rfl rfl (rn_lenS Tryd.runUnderlying9 rfl rfl) ?_
 refine WO.pn 2 rfl ?_
 obtain ⟨p13, h, hK1⟩ := Option.bind_eq_some_iff.mp h
 refine WO.meet [(4, 2), (5, 2), (6, 2), (7, 2)] [(8, 2), (9, 2), (10, 2), (11, 2), (12, 2), (13, 2), (14, 2), (15, 2), (16, 2), (17, 2)] (fun L w' => L = [(0, .string p0), (4, .int .i64 0), (13, .bool p13)] ∧ ∃ κ', Stp [] κ w κ' w') trivial ?_ ?_
 ·
  revert h
  cases ht2 : decide ((p0.size : Int) < 1) with
  | true =>
   intro h; replace h := cT h
   refine WO.pn 4 rfl ?_
   obtain rfl := Option.some.inj h
   exact WO.met _ trivial ⟨rfl, _, (Stp.refl _ _).wk rfl⟩ fun a ha => (ha.more (ha.more (ha.more ha.nil rfl) rfl) rfl)
  | false =>
   intro h; replace h := cF h
   refine WO.pn 1 rfl ?_
   refine WO.k2 rfl rfl rfl rfl (rn_lenS Tryd.runUnderlying9 rfl rfl) ?_
   refine WO.pn 2 rfl ?_
   obtain rfl := Option.some.inj h
   exact WO.met _ trivial ⟨rfl, _, (Stp.refl _ _).wk rfl⟩ fun a ha => (ha.more (ha.more (ha.more ha.nil rfl) rfl) rfl)
 rintro _ w3 _ ⟨rfl, K4, S5⟩
 have h := hK1
 refine WO.pn 1 rfl ?_
 obtain ⟨p23, h, hK6⟩ := Option.bind_eq_some_iff.mp h
 refine WO.meet [(9, 2), (10, 2), (11, 2), (12, 2), (13, 2), (14, 2), (15, 2), (16, 2), (17, 2)] [] (fun L w' => L = [(0, .string p0), (4, .int .i64 0), (23, .bool p23)] ∧ ∃ κ', Stp [] K4 w3 κ' w') trivial ?_ ?_
 ·
  revert h
  cases ht7 : p13 with
  | true =>
   intro h; replace h := cT h
   refine WO.pn 9 rfl ?_
   obtain rfl := Option.some.inj h
   exact WO.met _ trivial ⟨rfl, _, (Stp.refl _ _).wk rfl⟩ fun a ha => (ha.more (ha.more (ha.more ha.nil rfl) rfl) rfl)
  | false =>
   intro h; replace h := cF h
   refine WO.pn 1 rfl ?_
   obtain ⟨x16, hx16, h⟩ := Option.bind_eq_some_iff.mp h
   refine WO.k2 rfl rfl rfl rfl (rn_indexSt Tryd.runUnderlying9 hx16 rfl rfl rfl) ?_
   refine WO.pn 2 rfl ?_
   obtain ⟨p22, h, hK8⟩ := Option.bind_eq_some_iff.mp h
   refine WO.meet [(13, 2), (14, 2), (15, 2), (16, 2)] [(17, 2)] (fun L w' => L = [(0, .string p0), (4, .int .i64 0), (14, .bool false), (22, .bool p22)] ∧ ∃ κ', Stp [] K4 w3 κ' w') trivial ?_ ?_
   ·
    revert h
    cases ht9 : (x16 == 48) with
    | true =>
     intro h; replace h := cT h
     refine WO.pn 1 rfl ?_
     refine WO.k2 rfl rfl rfl rfl (rn_lenS Tryd.runUnderlying9 rfl rfl) ?_
     refine WO.pn 2 rfl ?_
     obtain rfl := Option.some.inj h
     exact WO.met _ trivial ⟨rfl, _, (Stp.refl _ _).wk rfl⟩ fun a ha => (ha.more (ha.more (ha.more (ha.more ha.nil rfl) rfl) rfl) rfl)
    | false =>
     intro h; replace h := cF h
     refine WO.pn 4 rfl ?_
     obtain rfl := Option.some.inj h
     exact WO.met _ trivial ⟨rfl, _, (Stp.refl _ _).wk rfl⟩ fun a ha => (ha.more (ha.more (ha.more (ha.more ha.nil rfl) rfl) rfl) rfl)
   rintro _ w10 _ ⟨rfl, K11, S12⟩
   have h := hK8
   refine WO.pn 1 rfl ?_
   obtain rfl := Option.some.inj h
   exact WO.met _ trivial ⟨rfl, _, S12.wk rfl⟩ fun a ha => (ha.more (ha.more (ha.more ha.nil rfl) rfl) rfl)
 rintro _ w13 _ ⟨rfl, K14, S15⟩
 have h := hK6
 refine WO.fin ?_
 refine DN.seq ?_
 revert h
 cases ht16 : p23 with
 | true =>
  intro h; replace h := cT h
  refine WC.ct rfl ?_
  refine WC.seq ?_
  refine WC.rs [(0, 2), (1, 2)] rfl ?_
  refine WO.pn 2 rfl ?_
  refine WO.fin ?_
  refine DN.seq ?_
  refine WC.ret ?_
  refine DN.retThen ?_
  have f17 := hE.stp (S5.tr S15) rfl rfl
  refine DN.res (l := [.tmp 2, .tmp 3]) Tryd.results52 (res_tmp rfl (res_tmp rfl rfl)) rfl ?_
  obtain rfl := Option.some.inj h
  exact ⟨K14, rfl, f17⟩
 | false =>
  intro h; replace h := cF h
  refine WC.cf rfl ?_
  refine WC.skip ?_
  refine DN.seq ?_
  refine WC.seq ?_
  refine WC.seq ?_
  refine WC.rs [(0, 2)] rfl ?_
  refine WO.pn 1 rfl ?_
  refine WO.fin ?_
  refine DN.seq ?_
  obtain ⟨_, hr18, h⟩ := Option.bind_eq_some_iff.mp h
  have hN18 := rng_ok hr18
  obtain ⟨q2, hq20, hK19⟩ := Option.bind_eq_some_iff.mp h
  clear h
  refine WC.meet (fun L w' => ∃ (κ' : Col) (s3 : Int), L = [(4, .int .i64 s3)] ∧ Stp [] K14 w13 κ' w' ∧ q2 = Sum.inr s3) ?_ ?_
  ·
   refine WC.block ?_
   refine WC.loop (fun k L w' => ∃ (κ' : Col) (v5 : Int) (s1 : Int), L = [(0, .string p0), (4, .int .i64 s1), (5, .int .i64 v5)] ∧ Stp [] K14 w13 κ' w' ∧ 0 ≤ v5 ∧ Int.toNat ((p0.size : Int) - v5) = k ∧ cntM (s_l1Read_b0 p0) k v5 s1 = some q2) ⟨_, _, ⟨K14, 0, (0 : Int), rfl, (Stp.refl _ _).wk rfl, (by decide), (by simp), hq20⟩, fun a ha => (ha.more (ha.more (ha.more ha.nil rfl) rfl) rfl)⟩ ?_
   rintro k _ w24 ⟨K25, v5, s1, rfl, S26, hj18, hJ18, h⟩
   rcases k with _ | k
   ·
    have hk27 := h; obtain ⟨o18, h⟩ := ex_eq (Sum.inr (Sum.inl s1) : (Int × Bool) ⊕ ((Int) ⊕ (Int)))
    have hc18 : decide (v5 < (p0.size : Int)) = false := decide_eq_false (by omega)
    refine WC.seq ?_
    refine WC.seq ?_
    refine WC.rs [(0, 2), (1, 2), (2, 2), (3, 2)] rfl ?_
    refine WO.pn 2 rfl ?_
    refine WO.k2 rfl rfl rfl rfl (rn_lenS Tryd.runUnderlying9 rfl rfl) ?_
    refine WO.pn 1 rfl ?_
    refine WO.fin ?_
    refine DN.seq ?_
    refine WC.cf' rfl hc18 ?_
    refine WC.exit ?_
    refine DN.exitThen ?_
    refine DN.exitThen ?_
    obtain rfl := Option.some.inj h
    have h := hk27
    refine DN.hit ?_
    obtain rfl := Option.some.inj h
    exact DN.meet _ ⟨K25, (s1 : Int), rfl, S26.wk rfl, rfl⟩ fun a ha => (ha.more ha.nil rfl)
   ·
    obtain ⟨o18, h, hk27⟩ := Option.bind_eq_some_iff.mp h; unfold s_l1Read_b0 at h
    have hc18 : decide (v5 < (p0.size : Int)) = true := decide_eq_true (by omega)
    refine WC.seq ?_
    refine WC.seq ?_
    refine WC.rs [(0, 2), (1, 2), (2, 2), (3, 2)] rfl ?_
    refine WO.pn 2 rfl ?_
    refine WO.k2 rfl rfl rfl rfl (rn_lenS Tryd.runUnderlying9 rfl rfl) ?_
    refine WO.pn 1 rfl ?_
    refine WO.fin ?_
    refine DN.seq ?_
    refine WC.ct' rfl hc18 ?_
    refine WC.skip ?_
    refine DN.seq ?_
    refine WC.seq ?_
    refine WC.block ?_
    refine WC.seq ?_
    refine WC.seq ?_
    refine WC.rs [(0, 2), (1, 2), (2, 2), (3, 2), (4, 2), (5, 2), (6, 2), (7, 2), (8, 2), (9, 2)] rfl ?_
    refine WO.pn 2 rfl ?_
    obtain ⟨x32, hx32, h⟩ := Option.bind_eq_some_iff.mp h
    refine WO.k2 rfl rfl rfl rfl (rn_indexSt Tryd.runUnderlying9 hx32 rfl rfl rfl) ?_
    refine WO.pn 2 rfl ?_
    obtain ⟨p39, h, hK28⟩ := Option.bind_eq_some_iff.mp h
    refine WO.meet [(5, 2), (6, 2), (7, 2), (8, 2), (9, 2)] [] (fun L w' => L = [(0, .string p0), (4, .int .i64 s1), (5, .int .i64 v5), (39, .bool p39)] ∧ ∃ κ', Stp [] K25 w24 κ' w') trivial ?_ ?_
    ·
     revert h
     cases ht29 : decide (x32 < 48) with
     | true =>
      intro h; replace h := cT h
      refine WO.pn 5 rfl ?_
      obtain rfl := Option.some.inj h
      exact WO.met _ trivial ⟨rfl, _, (Stp.refl _ _).wk rfl⟩ fun a ha => (ha.more (ha.more (ha.more (ha.more ha.nil rfl) rfl) rfl) rfl)
     | false =>
      intro h; replace h := cF h
      refine WO.pn 2 rfl ?_
      obtain ⟨x37, hx37, h⟩ := Option.bind_eq_some_iff.mp h
      refine WO.k2 rfl rfl rfl rfl (rn_indexSt Tryd.runUnderlying9 hx37 rfl rfl rfl) ?_
      refine WO.pn 2 rfl ?_
      obtain rfl := Option.some.inj h
      exact WO.met _ trivial ⟨rfl, _, (Stp.refl _ _).wk rfl⟩ fun a ha => (ha.more (ha.more (ha.more (ha.more ha.nil rfl) rfl) rfl) rfl)
    rintro _ w30 _ ⟨rfl, K31, S32⟩
    have h := hK28
    refine WO.fin ?_
    refine DN.seq ?_
    revert h
    cases ht33 : p39 with
    | true =>
     intro h; replace h := cT h
     refine WC.ct rfl ?_
     refine WC.seq ?_
     refine WC.rs [(0, 2), (1, 2)] rfl ?_
     refine WO.pn 2 rfl ?_
     refine WO.fin ?_
     refine DN.seq ?_
     refine WC.ret ?_
     refine DN.retThen ?_
     refine DN.retBlock ?_
     refine DN.retThen ?_
     refine DN.retThen ?_
     obtain rfl := Option.some.inj h
     obtain rfl := Option.some.inj hk27
     have h := hK19
     dsimp only [aft] at h
     refine DN.retBlock ?_
     refine DN.retMeet ?_
     refine DN.retThen ?_
     have f34 := hE.stp (S5.tr (S15.tr (S26.tr S32))) rfl rfl
     refine DN.res (l := [.tmp 2, .tmp 3]) Tryd.results52 (res_tmp rfl (res_tmp rfl rfl)) rfl ?_
     obtain rfl := Option.some.inj h
     exact ⟨K31, rfl, f34⟩
    | false =>
     intro h; replace h := cF h
     refine WC.cf rfl ?_
     refine WC.skip ?_
     refine DN.seq ?_
     refine WC.rs [(0, 2), (1, 2), (2, 2), (3, 2), (4, 2), (5, 2), (6, 2), (7, 2), (8, 2)] rfl ?_
     refine WO.pn 4 rfl ?_
     obtain ⟨x44, hx44, h⟩ := Option.bind_eq_some_iff.mp h
     refine WO.k2 rfl rfl rfl rfl (rn_indexSt Tryd.runUnderlying9 hx44 rfl rfl rfl) ?_
     refine WO.pn 1 rfl ?_
     refine WO.k2 rfl rfl rfl rfl (rn_conv Tryd.runUnderlying5 Tryd.runUnderlying2 rfl rfl) ?_
     refine WO.pn 2 rfl ?_
     refine WO.fin ?_
     refine DN.block ?_
     refine DN.seq ?_
     refine WC.rs [(0, 2), (1, 2), (2, 2)] rfl ?_
     refine WO.pn 3 rfl ?_
     refine WO.fin ?_
     have hw18 : IntKind.wrap .i64 (v5 + 1) = v5 + 1 := wr1 hj18 (of_decide_eq_true hc18) hN18
     rw [hw18]
     have hc18 := of_decide_eq_true hc18
     obtain rfl := Option.some.inj h
     refine DN.round fun a ha => ?_
     exact ⟨k, _, Nat.lt_succ_self _, ⟨K31, v5 + 1, ((IntKind.i64.wrap ((IntKind.i64.wrap (s1 * 10)) + (IntKind.i64.wrap (IntKind.u8.wrap (x44 - 48))))) : Int), rfl, (S26.tr S32).wk rfl, by omega, by omega, hk27⟩, (ha.more (ha.more (ha.more ha.nil rfl) rfl) rfl)⟩
  rintro _ w21 ⟨K22, s3, rfl, S23, rfl⟩
  have h := hK19
  dsimp only [aft] at h
  refine DN.seq ?_
  refine WC.seq ?_
  refine WC.rs [(0, 2), (1, 2), (2, 2)] rfl ?_
  refine WO.pn 3 rfl ?_
  refine WO.fin ?_
  refine DN.seq ?_
  refine WC.ret ?_
  have f35 := hE.stp (S5.tr (S15.tr S23)) rfl rfl
  refine DN.res (l := [.tmp 2, .tmp 3]) Tryd.results52 (res_tmp rfl (res_tmp rfl rfl)) rfl ?_
  obtain rfl := Option.some.inj h
  exact ⟨K22, rfl, f35⟩

end Go.Proofs.YtnpmbkaoeihdmaaDoor
