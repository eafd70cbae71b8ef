/- The walks, part 0. By program. -/
import Derived.Test.YthjkonkcdfdfaaaFnsUM
set_option linter.unusedVariables false
set_option linter.unusedSimpArgs false
namespace Go.Proofs.Ythjkonkcdfdfaaa
open Go Go.Wk Go.Proofs
set_option maxRecDepth 100000
set_option maxHeartbeats 1000000

/- loop.example/g00869/laws.big -/
theorem l_big_ok {w : World} {κ : Col} {a0 : Option Addr} {u0 : Nat} {p0 : (List Int)} (g0 : Rd (Rp.int .u8) κ w 0 a0 u0 p0) {r : Bool} (h : l_big p0 = some r) : Ret Try.prog 6 [.slice a0 p0.length u0] w (fun v w' => ∃ (κ' : Col), v = .bool r ∧ Ent κ w κ' w') := by
 unfold l_big at h
 refine Ret.enter Try.func6 rfl Try.ntmps6 rfl ?_
 dsimp only [envOf]
 have hE := Ent.refl κ w
 refine WC.seq ?_
 refine WC.rs [(0, 2)] rfl ?_
 refine WO.pn 1 rfl ?_
 refine WO.fin ?_
 refine DN.seq ?_
 refine WC.seq ?_
 refine WC.rs [(0, 2), (1, 2), (2, 2), (3, 2)] rfl ?_
 refine WO.pn 1 rfl ?_
 refine WO.k2 rfl rfl rfl rfl (rn_len Try.runUnderlying22 rfl rfl) ?_
 refine WO.pn 2 rfl ?_
 refine WO.fin ?_
 refine DN.seq ?_
 refine WC.ret ?_
 refine DN.res (l := [.tmp 2]) Try.results6 (res_tmp rfl rfl) rfl ?_
 obtain rfl := Option.some.inj h
 exact ⟨κ, rfl, hE⟩

/- loop.example/g00869/spec.l1New -/
theorem s_l1New_ok {w : World} {κ : Col} {a0 : Option Addr} {u0 : Nat} {p0 : (List Int)} (g0 : Rd (Rp.int .u8) κ w 0 a0 u0 p0) {r : l1Cur} (h : s_l1New p0 = some r) : Ret Try.prog 29 [.slice a0 p0.length u0] w (fun v w' => ∃ (κ' : Col) (ra0 : Option Addr) (ru0 : Nat) (rb1 : Nat), v = .pointer (some ⟨rb1, 0, none⟩) ∧ Ent κ w κ' w' ∧ Rd (Rp.int .u8) κ' w' 0 ra0 ru0 r.b ∧ Bc κ' w' 3 rb1 89 [.slice ra0 r.b.length ru0, .int .i64 r.i, .int .i64 r.h]) := by
 unfold s_l1New at h
 refine Ret.enter Try.func29 rfl Try.ntmps29 rfl ?_
 dsimp only [envOf]
 have hE := Ent.refl κ w
 refine WC.seq ?_
 refine WC.rs [(0, 2)] rfl ?_
 refine WO.pn 1 rfl ?_
 refine WO.fin ?_
 refine DN.seq ?_
 refine WC.seq ?_
 refine WC.rs [(0, 2), (1, 2), (2, 2), (3, 2)] rfl ?_
 refine WO.pn 1 rfl ?_
 refine WO.k2 rfl rfl rfl rfl (rn_len Try.runUnderlying22 rfl rfl) ?_
 refine WO.pn 2 rfl ?_
 refine WO.fin ?_
 refine DN.seq ?_
 refine WC.seq ?_
 refine WC.seq ?_
 refine WC.rs [(0, 2)] rfl ?_
 refine WO.pn 1 rfl ?_
 refine WO.fin ?_
 refine DN.seq ?_
 have hN1 : (p0.length : Int) ≤ 9223372036854775807 := g0.len_le
 obtain ⟨q2, hq3, hK2⟩ := Option.bind_eq_some_iff.mp h
 clear h
 refine WC.meet (fun L w' => ∃ (κ' : Col) (s3 : Int), L = [(0, .slice a0 p0.length u0), (3, .int .i64 s3)] ∧ Stp [] κ w κ' w' ∧ q2 = Sum.inr s3) ?_ ?_
 ·
  refine WC.block ?_
  refine WC.loop (fun k L w' => ∃ (κ' : Col) (v4 : Int) (s1 : Int), L = [(0, .slice a0 p0.length u0), (3, .int .i64 s1), (4, .int .i64 v4)] ∧ Stp [] κ w κ' w' ∧ 0 ≤ v4 ∧ Int.toNat ((p0.length : Int) - v4) = k ∧ cntM (s_l1New_b0 p0) k v4 s1 = some q2) ⟨_, _, ⟨κ, 0, ((IntKind.i64.wrap (560017 + (p0.length : Int))) : Int), rfl, (Stp.refl _ _).wk rfl, (by decide), (by simp), hq3⟩, fun a ha => (ha.more (ha.more (ha.more ha.nil rfl) rfl) rfl)⟩ ?_
  rintro k _ w7 ⟨K8, v4, s1, rfl, S9, hj1, hJ1, h⟩
  rcases k with _ | k
  ·
   have hk10 := h; obtain ⟨o1, h⟩ := ex_eq (Sum.inr (Sum.inl s1) : l1Cur ⊕ ((Int) ⊕ (Int)))
   have hc1 : decide (v4 < (p0.length : Int)) = false := decide_eq_false (by omega)
   refine WC.seq ?_
   refine WC.seq ?_
   refine WC.rs [(0, 2), (1, 2), (2, 2), (3, 2)] rfl ?_
   refine WO.pn 2 rfl ?_
   refine WO.k2 rfl rfl rfl rfl (rn_len Try.runUnderlying22 rfl rfl) ?_
   refine WO.pn 1 rfl ?_
   refine WO.fin ?_
   refine DN.seq ?_
   refine WC.cf' rfl hc1 ?_
   refine WC.exit ?_
   refine DN.exitThen ?_
   refine DN.exitThen ?_
   obtain rfl := Option.some.inj h
   have h := hk10
   refine DN.hit ?_
   obtain rfl := Option.some.inj h
   exact DN.meet _ ⟨K8, (s1 : Int), rfl, S9.wk rfl, rfl⟩ fun a ha => (ha.more (ha.more ha.nil rfl) rfl)
  ·
   obtain ⟨o1, h, hk10⟩ := Option.bind_eq_some_iff.mp h; unfold s_l1New_b0 at h
   have hc1 : decide (v4 < (p0.length : Int)) = true := decide_eq_true (by omega)
   refine WC.seq ?_
   refine WC.seq ?_
   refine WC.rs [(0, 2), (1, 2), (2, 2), (3, 2)] rfl ?_
   refine WO.pn 2 rfl ?_
   refine WO.k2 rfl rfl rfl rfl (rn_len Try.runUnderlying22 rfl rfl) ?_
   refine WO.pn 1 rfl ?_
   refine WO.fin ?_
   refine DN.seq ?_
   refine WC.ct' rfl hc1 ?_
   refine WC.skip ?_
   refine DN.seq ?_
   refine WC.seq ?_
   refine WC.block ?_
   refine WC.rs [(0, 2), (1, 2), (2, 2), (3, 2), (4, 2), (5, 1), (6, 2), (7, 2), (8, 2), (9, 2), (10, 2)] rfl ?_
   refine WO.pn 4 rfl ?_
   obtain ⟨x18, hx18, h⟩ := Option.bind_eq_some_iff.mp h
   refine WO.k2 rfl rfl rfl rfl (rn_index g0 hx18 Try.runUnderlying22 Try.sizeOf5 rfl rfl rfl rfl) ?_
   have f11 := g0.stp S9 rfl rfl
   refine WO.k1 trivial rfl rfl rfl rfl (rn_ld Try.isAgg5 rfl rfl (hvE (f11.gInt hx18))) ?_
   refine WO.k2 rfl rfl rfl rfl (rn_conv Try.runUnderlying5 Try.runUnderlying2 rfl rfl) ?_
   refine WO.pn 4 rfl ?_
   refine WO.fin ?_
   refine DN.block ?_
   refine DN.seq ?_
   refine WC.rs [(0, 2), (1, 2), (2, 2)] rfl ?_
   refine WO.pn 3 rfl ?_
   refine WO.fin ?_
   have hw1 : IntKind.wrap .i64 (v4 + 1) = v4 + 1 := wr1 hj1 (of_decide_eq_true hc1) hN1
   rw [hw1]
   have hc1 := of_decide_eq_true hc1
   obtain rfl := Option.some.inj h
   refine DN.round fun a ha => ?_
   exact ⟨k, _, Nat.lt_succ_self _, ⟨K8, v4 + 1, ((IntKind.i64.wrap (BitVec.toNat (BitVec.ofInt (IntKind.bits IntKind.i64) (IntKind.i64.wrap ((IntKind.i64.wrap ((IntKind.i64.wrap (s1 * 313)) + (IntKind.i64.wrap x18))) + 11)) &&& BitVec.ofInt (IntKind.bits IntKind.i64) 1073741823))) : Int), rfl, S9.wk rfl, by omega, by omega, hk10⟩, (ha.more (ha.more (ha.more ha.nil rfl) rfl) rfl)⟩
 rintro _ w4 ⟨K5, s3, rfl, S6, rfl⟩
 have h := hK2
 dsimp only [aft] at h
 refine DN.seq ?_
 refine WC.seq ?_
 refine WC.rs [(0, 2), (1, 2), (2, 2), (3, 1), (4, 2)] rfl ?_
 refine WO.pn 2 rfl ?_
 refine WO.k2 rfl rfl rfl rfl (rn_build (parts := [(0, .tmp 24), (2, .tmp 25)]) (cells := [.slice a0 p0.length u0, .int .i64 0, .int .i64 s3]) rfl rfl (by kernel_rfl)) ?_
 refine WO.box (κ := K5) 2 rfl rfl rfl rfl rfl rfl rfl fun b27 w12 K13 S14 f15 => ⟨trivial, ?_⟩
 refine WO.pn 1 rfl ?_
 refine WO.fin ?_
 refine DN.seq ?_
 refine WC.ret ?_
 have f16 := hE.stp (S6.tr S14) rfl rfl
 have f17 := g0.stp (S6.tr S14) rfl rfl
 refine DN.res (l := [.tmp 2]) Try.results29 (res_tmp rfl rfl) rfl ?_
 obtain rfl := Option.some.inj h
 exact ⟨(fun b => ren [(2, 3)] (K13 b)), a0, u0, b27, rfl, (f16.map (ren [(2, 3)]) rfl rfl), (f17.map (ren [(2, 3)]) rfl rfl), (f15.map (ren [(2, 3)]) rfl rfl)⟩

/- loop.example/g00869/spec.l1Byte -/
theorem s_l1Byte_ok {w : World} {κ : Col} {a0_0 : Option Addr} {u0_0 : Nat} {p0 : l1Cur} {b0 : Nat} (g0_0 : Rd (Rp.int .u8) κ w 0 a0_0 u0_0 p0.b) (gb0 : Bc κ w 2 b0 89 [.slice a0_0 p0.b.length u0_0, .int .i64 p0.i, .int .i64 p0.h]) {r : Int × Int × Int} (h : s_l1Byte p0 = some r) : Ret Try.prog 82 [.pointer (some ⟨b0, 0, none⟩)] w (fun v w' => ∃ (κ' : Col), v = .int .i64 r.1 ∧ Ent κ w κ' w' ∧ Bc κ' w' 2 b0 89 [.slice a0_0 p0.b.length u0_0, .int .i64 r.2.1, .int .i64 r.2.2]) := by
 unfold s_l1Byte at h
 refine Ret.enter Try.func82 rfl Try.ntmps82 rfl ?_
 dsimp only [envOf]
 have hE := Ent.refl κ w
 refine WC.seq ?_
 refine WC.rs [(0, 2)] rfl ?_
 refine WO.pn 1 rfl ?_
 refine WO.fin ?_
 refine DN.seq ?_
 refine WC.seq ?_
 refine WC.rs [(0, 2), (1, 2), (2, 2), (3, 2), (4, 1), (5, 2), (6, 2), (7, 2), (8, 2), (9, 1)] rfl ?_
 refine WO.pn 2 rfl ?_
 refine WO.k2 rfl rfl rfl rfl (rn_nilCheck rfl rfl) ?_
 refine WO.k2 rfl rfl rfl rfl (rn_fieldAddr Try.runUnderlying89 rfl Try.sizeOf2 rfl rfl) ?_
 refine WO.k1 trivial rfl rfl rfl rfl (rn_ld Try.isAgg2 rfl rfl (hvE (gb0.ld 2 rfl rfl))) ?_
 refine WO.pn 2 rfl ?_
 refine WO.k2 rfl rfl rfl rfl (rn_nilCheck rfl rfl) ?_
 refine WO.k2 rfl rfl rfl rfl (rn_fieldAddr Try.runUnderlying89 rfl Try.sizeOf2 rfl rfl) ?_
 refine WO.stB (κ := κ) 2 (off := 2) (vc := [.int .i64 (IntKind.i64.wrap ((IntKind.i64.wrap (p0.h * 6364136223846793005)) + 1442695040888963407))]) (cs' := [.slice a0_0 p0.b.length u0_0, .int .i64 p0.i, .int .i64 (IntKind.i64.wrap ((IntKind.i64.wrap (p0.h * 6364136223846793005)) + 1442695040888963407))]) rfl rfl rfl rfl rfl rfl rfl Try.sizeOf2 rfl rfl gb0 rfl rfl fun w1 S2 f3 => ⟨trivial, ?_⟩
 refine WO.fin ?_
 refine DN.seq ?_
 refine WC.seq ?_
 refine WC.rx (κ := κ) [2] none [(0, 2), (1, 2), (2, 2), (5, 2), (6, 2), (7, 2), (3, 0), (4, 2), (8, 0), (9, 2), (10, 2), (11, 2), (12, 2)] [] (by kernel_rfl) (by kernel_rfl) fun w5 S4 => ?_
 refine WO.pn 1 rfl ?_
 refine WO.k2 rfl rfl rfl rfl (rn_nilCheck rfl rfl) ?_
 refine WO.k2 rfl rfl rfl rfl (rn_fieldAddr Try.runUnderlying89 rfl Try.sizeOf2 rfl rfl) ?_
 refine WO.pn 1 rfl ?_
 refine WO.k2 rfl rfl rfl rfl (rn_nilCheck rfl rfl) ?_
 refine WO.k2 rfl rfl rfl rfl (rn_fieldAddr Try.runUnderlying89 rfl Try.sizeOf2 rfl rfl) ?_
 have f6 := f3.stp S4 rfl rfl
 refine WO.k0 rfl rfl rfl rfl (rn_ld Try.isAgg2 rfl rfl (hvC (f6.ld 2 rfl rfl) rfl)) ?_
 refine WO.k2 rfl rfl rfl rfl (rn_shr rfl rfl rfl (by decide)) ?_
 refine WO.k0 rfl rfl rfl rfl (rn_ld Try.isAgg2 rfl rfl (hvC (f6.ld 2 rfl rfl) rfl)) ?_
 refine WO.k2 rfl rfl rfl rfl (rn_shr rfl rfl rfl (by decide)) ?_
 refine WO.pn 3 rfl ?_
 refine WO.nx ?_
 refine WO.fin ?_
 refine DN.seq ?_
 refine WC.seq ?_
 refine WC.seq ?_
 refine WC.rx (κ := κ) [2] none [(0, 2), (1, 2), (2, 2), (4, 2), (5, 2), (6, 2), (3, 0), (7, 0), (8, 2), (9, 2)] [] (by kernel_rfl) (by kernel_rfl) fun w8 S7 => ?_
 refine WO.pn 1 rfl ?_
 refine WO.k2 rfl rfl rfl rfl (rn_nilCheck rfl rfl) ?_
 refine WO.k2 rfl rfl rfl rfl (rn_fieldAddr Try.runUnderlying89 rfl Try.sizeOf3 rfl rfl) ?_
 refine WO.pn 1 rfl ?_
 refine WO.k2 rfl rfl rfl rfl (rn_nilCheck rfl rfl) ?_
 refine WO.k2 rfl rfl rfl rfl (rn_fieldAddr Try.runUnderlying89 rfl Try.sizeOf22 rfl rfl) ?_
 have f9 := f6.stp S7 rfl rfl
 refine WO.k0 rfl rfl rfl rfl (rn_ld Try.isAgg3 rfl rfl (hvC (f9.ld 1 rfl rfl) rfl)) ?_
 refine WO.k0 rfl rfl rfl rfl (rn_ld Try.isAgg22 rfl rfl (hvC (f9.ld 0 rfl rfl) rfl)) ?_
 refine WO.k2 rfl rfl rfl rfl (rn_len Try.runUnderlying22 rfl rfl) ?_
 refine WO.pn 1 rfl ?_
 refine WO.nx ?_
 refine WO.fin ?_
 refine DN.seq ?_
 obtain ⟨q1, h, hK10⟩ := Option.bind_eq_some_iff.mp h
 refine WC.meet (fun L w' => ∃ (κ' : Col), L = [(0, .pointer (some ⟨b0, 0, none⟩)), (3, .int .i64 q1.1)] ∧ Stp [2] κ w8 κ' w' ∧ Bc κ' w' 2 b0 89 [.slice a0_0 p0.b.length u0_0, .int .i64 q1.2, .int .i64 (IntKind.i64.wrap ((IntKind.i64.wrap (p0.h * 6364136223846793005)) + 1442695040888963407))]) ?_ ?_
 ·
  revert h
  cases ht15 : decide (p0.i < (p0.b.length : Int)) with
  | true =>
   intro h; replace h := cT h
   refine WC.ct rfl ?_
   refine WC.seq ?_
   refine WC.rx (κ := κ) [0, 2] none [(0, 2), (1, 2), (2, 2), (3, 2), (5, 2), (6, 2), (7, 2), (4, 0), (8, 0), (9, 2), (10, 0), (11, 2), (12, 2), (13, 2), (14, 2)] [] (by kernel_rfl) (by kernel_rfl) fun w17 S16 => ?_
   refine WO.pn 2 rfl ?_
   refine WO.k2 rfl rfl rfl rfl (rn_nilCheck rfl rfl) ?_
   refine WO.k2 rfl rfl rfl rfl (rn_fieldAddr Try.runUnderlying89 rfl Try.sizeOf22 rfl rfl) ?_
   refine WO.pn 1 rfl ?_
   refine WO.k2 rfl rfl rfl rfl (rn_nilCheck rfl rfl) ?_
   refine WO.k2 rfl rfl rfl rfl (rn_fieldAddr Try.runUnderlying89 rfl Try.sizeOf3 rfl rfl) ?_
   have f18 := f9.stp S16 rfl rfl
   refine WO.k0 rfl rfl rfl rfl (rn_ld Try.isAgg22 rfl rfl (hvC (f18.ld 0 rfl rfl) rfl)) ?_
   refine WO.k0 rfl rfl rfl rfl (rn_ld Try.isAgg3 rfl rfl (hvC (f18.ld 1 rfl rfl) rfl)) ?_
   obtain ⟨x44, hx44, h⟩ := Option.bind_eq_some_iff.mp h
   refine WO.k2 rfl rfl rfl rfl (rn_index g0_0 hx44 Try.runUnderlying22 Try.sizeOf5 rfl rfl rfl rfl) ?_
   have f19 := g0_0.stp (S2.tr (S4.tr (S7.tr S16))) rfl rfl
   refine WO.k0 rfl rfl rfl rfl (rn_ld Try.isAgg5 rfl rfl (hvC (f19.gInt hx44) rfl)) ?_
   refine WO.k2 rfl rfl rfl rfl (rn_conv Try.runUnderlying5 Try.runUnderlying2 rfl rfl) ?_
   refine WO.pn 3 rfl ?_
   refine WO.nx ?_
   refine WO.fin ?_
   refine DN.seq ?_
   refine WC.rs [(0, 2), (1, 2), (2, 2), (3, 2), (4, 1), (5, 2), (6, 2), (7, 2), (8, 1)] rfl ?_
   refine WO.pn 2 rfl ?_
   refine WO.k2 rfl rfl rfl rfl (rn_nilCheck rfl rfl) ?_
   refine WO.k2 rfl rfl rfl rfl (rn_fieldAddr Try.runUnderlying89 rfl Try.sizeOf3 rfl rfl) ?_
   refine WO.k1 trivial rfl rfl rfl rfl (rn_ld Try.isAgg3 rfl rfl (hvE (f18.ld 1 rfl rfl))) ?_
   refine WO.pn 1 rfl ?_
   refine WO.k2 rfl rfl rfl rfl (rn_nilCheck rfl rfl) ?_
   refine WO.k2 rfl rfl rfl rfl (rn_fieldAddr Try.runUnderlying89 rfl Try.sizeOf3 rfl rfl) ?_
   refine WO.stB (κ := κ) 2 (off := 1) (vc := [.int .i64 (IntKind.i64.wrap (p0.i + 1))]) (cs' := [.slice a0_0 p0.b.length u0_0, .int .i64 (IntKind.i64.wrap (p0.i + 1)), .int .i64 (IntKind.i64.wrap ((IntKind.i64.wrap (p0.h * 6364136223846793005)) + 1442695040888963407))]) rfl rfl rfl rfl rfl rfl rfl Try.sizeOf3 rfl rfl f18 rfl rfl fun w20 S21 f22 => ⟨trivial, ?_⟩
   refine WO.fin ?_
   obtain rfl := Option.some.inj h
   exact DN.meet _ ⟨κ, rfl, (S16.tr S21).wk rfl, f22⟩ fun a ha => (ha.more (ha.more ha.nil rfl) rfl)
  | false =>
   intro h; replace h := cF h
   refine WC.cf rfl ?_
   refine WC.skip ?_
   obtain rfl := Option.some.inj h
   exact DN.meet _ ⟨κ, rfl, (Stp.refl _ _).wk rfl, f9⟩ fun a ha => (ha.more (ha.more ha.nil rfl) rfl)
 rintro _ w11 ⟨K12, rfl, S13, f14⟩
 have h := hK10
 refine DN.seq ?_
 refine WC.seq ?_
 refine WC.rs [(0, 2), (1, 2)] rfl ?_
 refine WO.pn 2 rfl ?_
 refine WO.fin ?_
 refine DN.seq ?_
 refine WC.ret ?_
 have f23 := hE.stp (S2.tr (S4.tr (S7.tr S13))) rfl rfl
 refine DN.res (l := [.tmp 2]) Try.results82 (res_tmp rfl rfl) rfl ?_
 obtain rfl := Option.some.inj h
 exact ⟨K12, rfl, f23, f14⟩

/- loop.example/g00869/spec.l31Pow -/
theorem s_l31Pow_ok {w : World} {κ : Col} {p0 : Int}  {r : Int} (h : s_l31Pow p0 = some r) : Ret Try.prog 39 [.int .i64 p0] w (fun v w' => ∃ (κ' : Col), v = .int .i64 r ∧ Ent κ w κ' w') := by
 unfold s_l31Pow at h
 refine Ret.enter Try.func39 rfl Try.ntmps39 rfl ?_
 dsimp only [envOf]
 have hE := Ent.refl κ w
 refine WC.seq ?_
 refine WC.rs [(0, 2)] rfl ?_
 refine WO.pn 1 rfl ?_
 refine WO.fin ?_
 refine DN.seq ?_
 refine WC.seq ?_
 refine WC.rs [(0, 2), (1, 2), (2, 2), (3, 2)] rfl ?_
 refine WO.pn 1 rfl ?_
 refine WO.k2 rfl rfl rfl rfl (rn_conv Try.runUnderlying2 Try.runUnderlying87 rfl rfl) ?_
 obtain ⟨_z5, hz5, h⟩ := Option.bind_eq_some_iff.mp h
 refine WO.k2 rfl rfl rfl rfl (rn_shl rfl rfl rfl (nn_ok hz5)) ?_
 refine WO.pn 1 rfl ?_
 refine WO.fin ?_
 refine DN.seq ?_
 refine WC.ret ?_
 refine DN.res (l := [.tmp 2]) Try.results39 (res_tmp rfl rfl) rfl ?_
 obtain rfl := Option.some.inj h
 exact ⟨κ, rfl, hE⟩

/- loop.example/g00869/spec.l1Min -/
theorem s_l1Min_ok {w : World} {κ : Col} {p0 : Int} {p1 : Int}  {r : Int} (h : s_l1Min p0 p1 = some r) : Ret Try.prog 74 [.int .i64 p0, .int .i64 p1] w (fun v w' => ∃ (κ' : Col), v = .int .i64 r ∧ Ent κ w κ' w') := by
 unfold s_l1Min at h
 refine Ret.enter Try.func74 rfl Try.ntmps74 rfl ?_
 dsimp only [envOf]
 have hE := Ent.refl κ w
 refine WC.seq ?_
 refine WC.rs [(0, 2)] rfl ?_
 refine WO.pn 1 rfl ?_
 refine WO.fin ?_
 refine DN.seq ?_
 refine WC.seq ?_
 refine WC.seq ?_
 refine WC.rs [(0, 2), (1, 2), (2, 2)] rfl ?_
 refine WO.pn 3 rfl ?_
 refine WO.fin ?_
 refine DN.seq ?_
 revert h
 cases ht1 : decide (p0 < p1) with
 | true =>
  intro h; replace h := cT h
  refine WC.ct rfl ?_
  refine WC.seq ?_
  refine WC.rs [(0, 2), (1, 2)] rfl ?_
  refine WO.pn 2 rfl ?_
  refine WO.fin ?_
  refine DN.seq ?_
  refine WC.ret ?_
  refine DN.retThen ?_
  refine DN.res (l := [.tmp 4]) Try.results74 (res_tmp rfl rfl) rfl ?_
  obtain rfl := Option.some.inj h
  exact ⟨κ, rfl, hE⟩
 | false =>
  intro h; replace h := cF h
  refine WC.cf rfl ?_
  refine WC.skip ?_
  refine DN.seq ?_
  refine WC.seq ?_
  refine WC.rs [(0, 2), (1, 2)] rfl ?_
  refine WO.pn 2 rfl ?_
  refine WO.fin ?_
  refine DN.seq ?_
  refine WC.ret ?_
  refine DN.res (l := [.tmp 4]) Try.results74 (res_tmp rfl rfl) rfl ?_
  obtain rfl := Option.some.inj h
  exact ⟨κ, rfl, hE⟩

/- loop.example/g00869/impl.isSig -/
theorem i_isSig_ok {w : World} {κ : Col} {p0 : Sig}  {r : Bool} (h : i_isSig p0 = some r) : Ret Try.prog 50 [.agg #[.int .i64 p0.In, .int .i64 p0.Out]] w (fun v w' => ∃ (κ' : Col), v = .bool r ∧ Ent κ w κ' w') := by
 unfold i_isSig at h
 refine Ret.enter Try.func50 rfl Try.ntmps50 rfl ?_
 dsimp only [envOf]
 have hE := Ent.refl κ w
 refine WC.seq ?_
 refine WC.rs [(0, 1), (1, 2)] rfl ?_
 refine WO.box (κ := κ) 2 rfl rfl rfl rfl rfl rfl rfl fun b1 w1 K2 S3 f4 => ⟨trivial, ?_⟩
 refine WO.pn 1 rfl ?_
 refine WO.fin ?_
 refine DN.seq ?_
 refine WC.seq ?_
 refine WC.rs [(0, 2), (1, 1), (2, 2), (3, 2), (4, 2), (5, 1), (6, 2), (7, 2), (8, 2), (9, 2), (10, 1), (11, 2), (12, 2), (13, 2), (14, 2), (15, 1), (16, 2), (17, 2), (18, 2)] rfl ?_
 refine WO.k2 rfl rfl rfl rfl (rn_fieldAddr Try.runUnderlying43 rfl Try.sizeOf2 rfl rfl) ?_
 refine WO.k1 trivial rfl rfl rfl rfl (rn_ld Try.isAgg2 rfl rfl (hvE (f4.ld 0 rfl rfl))) ?_
 refine WO.pn 2 rfl ?_
 obtain ⟨p10, h, hK5⟩ := Option.bind_eq_some_iff.mp h
 refine WO.meet [(4, 2), (5, 1), (6, 2), (7, 2)] [(8, 2), (9, 2), (10, 1), (11, 2), (12, 2), (13, 2), (14, 2), (15, 1), (16, 2), (17, 2), (18, 2)] (fun L w' => L = [(1, .pointer (some ⟨b1, 0, none⟩)), (2, .bool false), (10, .bool p10)] ∧ ∃ κ', Stp [] K2 w1 κ' w') trivial ?_ ?_
 ·
  revert h
  cases ht6 : decide (1 ≤ p0.In) with
  | true =>
   intro h; replace h := cT h
   refine WO.k2 rfl rfl rfl rfl (rn_fieldAddr Try.runUnderlying43 rfl Try.sizeOf2 rfl rfl) ?_
   refine WO.k1 trivial rfl rfl rfl rfl (rn_ld Try.isAgg2 rfl rfl (hvE (f4.ld 0 rfl rfl))) ?_
   refine WO.pn 2 rfl ?_
   obtain rfl := Option.some.inj h
   exact WO.met _ trivial ⟨rfl, _, (Stp.refl _ _).wk rfl⟩ fun a ha => (ha.more (ha.more (ha.more ha.nil rfl) rfl) rfl)
  | false =>
   intro h; replace h := cF h
   refine WO.pn 1 rfl ?_
   refine WO.ls rfl rfl rfl rfl ?_
   refine WO.pn 2 rfl ?_
   obtain rfl := Option.some.inj h
   exact WO.met _ trivial ⟨rfl, _, (Stp.refl _ _).wk rfl⟩ fun a ha => (ha.more (ha.more (ha.more ha.nil rfl) rfl) rfl)
 rintro _ w7 _ ⟨rfl, K8, S9⟩
 have h := hK5
 refine WO.pn 1 rfl ?_
 obtain ⟨p15, h, hK10⟩ := Option.bind_eq_some_iff.mp h
 refine WO.meet [(9, 2), (10, 1), (11, 2), (12, 2)] [(13, 2), (14, 2), (15, 1), (16, 2), (17, 2), (18, 2)] (fun L w' => L = [(1, .pointer (some ⟨b1, 0, none⟩)), (2, .bool false), (15, .bool p15)] ∧ ∃ κ', Stp [] K8 w7 κ' w') trivial ?_ ?_
 ·
  revert h
  cases ht11 : p10 with
  | true =>
   intro h; replace h := cT h
   refine WO.k2 rfl rfl rfl rfl (rn_fieldAddr Try.runUnderlying43 rfl Try.sizeOf2 rfl rfl) ?_
   have f12 := f4.stp S9 rfl rfl
   refine WO.k1 trivial rfl rfl rfl rfl (rn_ld Try.isAgg2 rfl rfl (hvE (f12.ld 1 rfl rfl))) ?_
   refine WO.pn 2 rfl ?_
   obtain rfl := Option.some.inj h
   exact WO.met _ trivial ⟨rfl, _, (Stp.refl _ _).wk rfl⟩ fun a ha => (ha.more (ha.more (ha.more ha.nil rfl) rfl) rfl)
  | false =>
   intro h; replace h := cF h
   refine WO.pn 1 rfl ?_
   refine WO.ls rfl rfl rfl rfl ?_
   refine WO.pn 2 rfl ?_
   obtain rfl := Option.some.inj h
   exact WO.met _ trivial ⟨rfl, _, (Stp.refl _ _).wk rfl⟩ fun a ha => (ha.more (ha.more (ha.more ha.nil rfl) rfl) rfl)
 rintro _ w13 _ ⟨rfl, K14, S15⟩
 have h := hK10
 refine WO.pn 1 rfl ?_
 obtain ⟨p20, h, hK16⟩ := Option.bind_eq_some_iff.mp h
 refine WO.meet [(14, 2), (15, 1), (16, 2), (17, 2)] [(18, 2)] (fun L w' => L = [(2, .bool false), (20, .bool p20)] ∧ ∃ κ', Stp [] K14 w13 κ' w') trivial ?_ ?_
 ·
  revert h
  cases ht17 : p15 with
  | true =>
   intro h; replace h := cT h
   refine WO.k2 rfl rfl rfl rfl (rn_fieldAddr Try.runUnderlying43 rfl Try.sizeOf2 rfl rfl) ?_
   have f18 := f4.stp (S9.tr S15) rfl rfl
   refine WO.k1 trivial rfl rfl rfl rfl (rn_ld Try.isAgg2 rfl rfl (hvE (f18.ld 1 rfl rfl))) ?_
   refine WO.pn 2 rfl ?_
   obtain rfl := Option.some.inj h
   exact WO.met _ trivial ⟨rfl, _, (Stp.refl _ _).wk rfl⟩ fun a ha => (ha.more (ha.more ha.nil rfl) rfl)
  | false =>
   intro h; replace h := cF h
   refine WO.pn 1 rfl ?_
   refine WO.ls rfl rfl rfl rfl ?_
   refine WO.pn 2 rfl ?_
   obtain rfl := Option.some.inj h
   exact WO.met _ trivial ⟨rfl, _, (Stp.refl _ _).wk rfl⟩ fun a ha => (ha.more (ha.more ha.nil rfl) rfl)
 rintro _ w19 _ ⟨rfl, K20, S21⟩
 have h := hK16
 refine WO.pn 1 rfl ?_
 refine WO.fin ?_
 refine DN.seq ?_
 refine WC.ret ?_
 have f22 := hE.stp (S3.tr (S9.tr (S15.tr S21))) rfl rfl
 refine DN.res (l := [.tmp 2]) Try.results50 (res_tmp rfl rfl) rfl ?_
 obtain rfl := Option.some.inj h
 exact ⟨K20, rfl, f22⟩

/- loop.example/g00869/impl.inputsOf -/
theorem i_inputsOf_ok {w : World} {κ : Col} {p0 : Sig}  {r : Int} (h : i_inputsOf p0 = some r) : Ret Try.prog 52 [.agg #[.int .i64 p0.In, .int .i64 p0.Out]] w (fun v w' => ∃ (κ' : Col), v = .int .i64 r ∧ Ent κ w κ' w') := by
 unfold i_inputsOf at h
 refine Ret.enter Try.func52 rfl Try.ntmps52 rfl ?_
 dsimp only [envOf]
 have hE := Ent.refl κ w
 refine WC.seq ?_
 refine WC.rs [(0, 1), (1, 2)] rfl ?_
 refine WO.box (κ := κ) 2 rfl rfl rfl rfl rfl rfl rfl fun b1 w1 K2 S3 f4 => ⟨trivial, ?_⟩
 refine WO.pn 1 rfl ?_
 refine WO.fin ?_
 refine DN.seq ?_
 refine WC.seq ?_
 refine WC.rs [(0, 2), (1, 1), (2, 2), (3, 2)] rfl ?_
 refine WO.k2 rfl rfl rfl rfl (rn_fieldAddr Try.runUnderlying43 rfl Try.sizeOf2 rfl rfl) ?_
 refine WO.k1 trivial rfl rfl rfl rfl (rn_ld Try.isAgg2 rfl rfl (hvE (f4.ld 0 rfl rfl))) ?_
 obtain ⟨_z5, hz5, h⟩ := Option.bind_eq_some_iff.mp h
 refine WO.k2 rfl rfl rfl rfl (rn_shl rfl rfl rfl (nn_ok hz5)) ?_
 refine WO.pn 1 rfl ?_
 refine WO.fin ?_
 refine DN.seq ?_
 refine WC.ret ?_
 have f5 := hE.stp S3 rfl rfl
 refine DN.res (l := [.tmp 2]) Try.results52 (res_tmp rfl rfl) rfl ?_
 obtain rfl := Option.some.inj h
 exact ⟨K2, rfl, f5⟩

/- loop.example/g00869/impl.areLetters$1 -/
theorem i_areLetters_1_ok {w : World} {κ : Col} {p0 : Int} {c0 : Int} {b1 : Nat} (gb1 : Bc κ w 0 b1 2 [.int .i64 c0]) {r : Bool} (h : i_areLetters_1 p0 c0 = some r) : Ret Try.prog 81 [.int .i64 p0, .pointer (some ⟨b1, 0, none⟩)] w (fun v w' => ∃ (κ' : Col), v = .bool r ∧ Ent κ w κ' w') := by
 unfold i_areLetters_1 at h
 refine Ret.enter Try.func81 rfl Try.ntmps81 rfl ?_
 dsimp only [envOf]
 have hE := Ent.refl κ w
 refine WC.seq ?_
 refine WC.rs [(0, 2)] rfl ?_
 refine WO.pn 1 rfl ?_
 refine WO.fin ?_
 refine DN.seq ?_
 refine WC.seq ?_
 refine WC.rs [(0, 2), (1, 2), (2, 2), (3, 2), (4, 1), (5, 2), (6, 2), (7, 2)] rfl ?_
 refine WO.pn 3 rfl ?_
 obtain ⟨p10, h, hK1⟩ := Option.bind_eq_some_iff.mp h
 refine WO.meet [(3, 2), (4, 1), (5, 2), (6, 2)] [(7, 2)] (fun L w' => L = [(1, .pointer (some ⟨b1, 0, none⟩)), (3, .bool false), (10, .bool p10)] ∧ ∃ κ', Stp [] κ w κ' w') trivial ?_ ?_
 ·
  revert h
  cases ht2 : decide (p0 < 0) with
  | true =>
   intro h; replace h := cT h
   refine WO.pn 1 rfl ?_
   refine WO.ls rfl rfl rfl rfl ?_
   refine WO.pn 2 rfl ?_
   obtain rfl := Option.some.inj h
   exact WO.met _ trivial ⟨rfl, _, (Stp.refl _ _).wk rfl⟩ fun a ha => (ha.more (ha.more (ha.more ha.nil rfl) rfl) rfl)
  | false =>
   intro h; replace h := cF h
   refine WO.pn 1 rfl ?_
   refine WO.k1 trivial rfl rfl rfl rfl (rn_ld Try.isAgg2 rfl rfl (hvE (gb1.ld 0 rfl rfl))) ?_
   refine WO.pn 2 rfl ?_
   obtain rfl := Option.some.inj h
   exact WO.met _ trivial ⟨rfl, _, (Stp.refl _ _).wk rfl⟩ fun a ha => (ha.more (ha.more (ha.more ha.nil rfl) rfl) rfl)
 rintro _ w3 _ ⟨rfl, K4, S5⟩
 have h := hK1
 refine WO.pn 1 rfl ?_
 refine WO.fin ?_
 refine DN.seq ?_
 refine WC.ret ?_
 have f6 := hE.stp S5 rfl rfl
 refine DN.res (l := [.tmp 3]) Try.results81 (res_tmp rfl rfl) rfl ?_
 obtain rfl := Option.some.inj h
 exact ⟨K4, rfl, f6⟩

/- (*loop.example/g00869/impl.builder).learn -/
theorem i_builder_learn_ok {w : World} {κ : Col} {a0_0_2 : Option Addr} {u0_0_2 : Nat} {a0_0_3 : Option Addr} {u0_0_3 : Nat} {a0_0_4 : Option Addr} {u0_0_4 : Nat} {mb0_2 : Nat} {p0 : builder} {p1 : Gate} {p2 : Int} {b0 : Nat} (g0_0_2 : Rd (Rp.int .i64) κ w 0 a0_0_2 u0_0_2 p0.c.Next) (g0_0_3 : Rd Gate.rp κ w 0 a0_0_3 u0_0_3 p0.c.Gates) (g0_0_4 : Rd (Rp.int .i64) κ w 0 a0_0_4 u0_0_4 p0.c.Outs) (g0_2 : Mc kwGate kvGate (fun v : Int => .int .i64 v) κ w 2 mb0_2 p0.known) (gb0 : Bc κ w 0 b0 72 [.int .i64 p0.c.Inputs, .int .i64 p0.c.Latches, .slice a0_0_2 p0.c.Next.length u0_0_2, .slice a0_0_3 p0.c.Gates.length u0_0_3, .slice a0_0_4 p0.c.Outs.length u0_0_4, .bool p0.full, .map (some mb0_2)]) {r : (List (Gate × Int))} (h : i_builder_learn p0 p1 p2 = some r) : Ret Try.prog 72 [.pointer (some ⟨b0, 0, none⟩), .agg #[.int .i64 p1.A, .int .i64 p1.B], .int .i64 p2] w (fun v w' => ∃ (κ' : Col), v = .tuple #[] ∧ Ent κ w κ' w' ∧ Mc kwGate kvGate (fun v : Int => .int .i64 v) κ' w' 2 mb0_2 r) := by
 unfold i_builder_learn at h
 refine Ret.enter Try.func72 rfl Try.ntmps72 rfl ?_
 dsimp only [envOf]
 have hE := Ent.refl κ w
 refine WC.seq ?_
 refine WC.rs [(0, 1)] rfl ?_
 refine WO.box (κ := κ) 3 rfl rfl rfl rfl rfl rfl rfl fun b4 w1 K2 S3 f4 => ⟨trivial, ?_⟩
 refine WO.fin ?_
 refine DN.seq ?_
 refine WC.seq ?_
 refine WC.rs [(0, 2), (1, 1), (2, 2), (3, 1), (4, 2), (5, 2), (6, 1), (7, 2), (8, 1), (9, 2), (10, 2), (11, 1)] rfl ?_
 refine WO.k2 rfl rfl rfl rfl (rn_fieldAddr Try.runUnderlying33 rfl Try.sizeOf2 rfl rfl) ?_
 refine WO.k1 trivial rfl rfl rfl rfl (rn_ld Try.isAgg2 rfl rfl (hvE (f4.ld 0 rfl rfl))) ?_
 refine WO.k2 rfl rfl rfl rfl (rn_fieldAddr Try.runUnderlying33 rfl Try.sizeOf2 rfl rfl) ?_
 refine WO.k1 trivial rfl rfl rfl rfl (rn_ld Try.isAgg2 rfl rfl (hvE (f4.ld 1 rfl rfl))) ?_
 refine WO.k2 rfl rfl rfl rfl (rn_min rfl rfl rfl) ?_
 refine WO.k2 rfl rfl rfl rfl (rn_fieldAddr Try.runUnderlying33 rfl Try.sizeOf2 rfl rfl) ?_
 refine WO.k1 trivial rfl rfl rfl rfl (rn_ld Try.isAgg2 rfl rfl (hvE (f4.ld 0 rfl rfl))) ?_
 refine WO.k2 rfl rfl rfl rfl (rn_fieldAddr Try.runUnderlying33 rfl Try.sizeOf2 rfl rfl) ?_
 refine WO.k1 trivial rfl rfl rfl rfl (rn_ld Try.isAgg2 rfl rfl (hvE (f4.ld 1 rfl rfl))) ?_
 refine WO.k2 rfl rfl rfl rfl (rn_max rfl rfl rfl) ?_
 refine WO.k2 rfl rfl rfl rfl (rn_build (parts := [(0, .tmp 12), (1, .tmp 17)]) (cells := [.int .i64 (if p1.B < p1.A then p1.B else p1.A), .int .i64 (if p1.A < p1.B then p1.B else p1.A)]) rfl rfl (by kernel_rfl)) ?_
 refine WO.stB0 (κ := K2) 3 (vc := [.int .i64 (if p1.B < p1.A then p1.B else p1.A), .int .i64 (if p1.A < p1.B then p1.B else p1.A)]) rfl rfl rfl rfl rfl rfl rfl Try.sizeOf33 rfl rfl f4 rfl fun w5 S6 f7 => ⟨trivial, ?_⟩
 refine WO.fin ?_
 refine DN.seq ?_
 refine WC.seq ?_
 refine WC.rx (κ := K2) [0, 2, 3] none [(0, 2), (1, 2), (2, 2), (3, 0), (4, 0), (5, 0), (6, 2), (7, 2), (8, 2), (9, 2), (10, 2)] [] (by kernel_rfl) (by kernel_rfl) fun w9 S8 => ?_
 refine WO.pn 1 rfl ?_
 refine WO.k2 rfl rfl rfl rfl (rn_nilCheck rfl rfl) ?_
 refine WO.k2 rfl rfl rfl rfl (rn_fieldAddr Try.runUnderlying72 rfl Try.sizeOf70 rfl rfl) ?_
 have f10 := gb0.stp (S3.tr (S6.tr S8)) rfl rfl
 refine WO.k0 rfl rfl rfl rfl (rn_ld Try.isAgg70 rfl rfl (hvC (f10.ld 6 rfl rfl) rfl)) ?_
 have f11 := f7.stp S8 rfl rfl
 refine WO.k0 rfl rfl rfl rfl (rn_la (cs := [.int .i64 (if p1.B < p1.A then p1.B else p1.A), .int .i64 (if p1.A < p1.B then p1.B else p1.A)]) Try.isAgg33 Try.sizeOf33 rfl rfl rfl (haC f11.cells rfl)) ?_
 have f12 := g0_2.stp (S3.tr (S6.tr S8)) rfl rfl
 obtain ⟨x25, hx25, h⟩ := Option.bind_eq_some_iff.mp h
 refine WO.k0 rfl rfl rfl rfl (rn_lookup (kf := kvGate) (vf := (fun v : Int => .int .i64 v)) keyEGate Try.runUnderlying70 Try.zeroValue2 rfl rfl rfl (mvC f12 rfl) hx25) ?_
 refine WO.pn 5 rfl ?_
 refine WO.nx ?_
 refine WO.fin ?_
 refine DN.seq ?_
 refine WC.seq ?_
 refine WC.rs [(0, 2), (1, 2)] rfl ?_
 refine WO.pn 2 rfl ?_
 refine WO.fin ?_
 refine DN.seq ?_
 obtain ⟨q1, h, hK13⟩ := Option.bind_eq_some_iff.mp h
 refine WC.meet (fun L w' => ∃ (κ' : Col), L = [(0, .pointer (some ⟨b0, 0, none⟩))] ∧ Stp [2] K2 w9 κ' w' ∧ Mc kwGate kvGate (fun v : Int => .int .i64 v) κ' w' 2 mb0_2 q1) ?_ ?_
 ·
  revert h
  cases ht19 : (!x25.2) with
  | true =>
   intro h; replace h := cT h
   refine WC.ct rfl ?_
   refine WC.rx (κ := K2) [0, 3] none [(0, 2), (1, 2), (2, 2), (5, 2), (3, 0), (4, 0), (6, 1)] [] (by kernel_rfl) (by kernel_rfl) fun w21 S20 => ?_
   refine WO.pn 1 rfl ?_
   refine WO.k2 rfl rfl rfl rfl (rn_nilCheck rfl rfl) ?_
   refine WO.k2 rfl rfl rfl rfl (rn_fieldAddr Try.runUnderlying72 rfl Try.sizeOf70 rfl rfl) ?_
   refine WO.pn 1 rfl ?_
   have f22 := f10.stp S20 rfl rfl
   refine WO.k0 rfl rfl rfl rfl (rn_ld Try.isAgg70 rfl rfl (hvC (f22.ld 6 rfl rfl) rfl)) ?_
   have f23 := f11.stp S20 rfl rfl
   refine WO.k0 rfl rfl rfl rfl (rn_la (cs := [.int .i64 (if p1.B < p1.A then p1.B else p1.A), .int .i64 (if p1.A < p1.B then p1.B else p1.A)]) Try.isAgg33 Try.sizeOf33 rfl rfl rfl (haC f23.cells rfl)) ?_
   have f24 := f12.stp S20 rfl rfl
   obtain ⟨y14, hy14, h⟩ := Option.bind_eq_some_iff.mp h
   refine WO.mapup (κ := K2) (kf := kvGate) (vf := (fun v : Int => .int .i64 v)) (v := p2) 2 rfl rfl rfl rfl rfl rfl rfl keyEGate Try.runUnderlying70 f24 hy14 fun w25 S26 f27 => ⟨(S26.cl rfl), ?_⟩
   refine WO.nx ?_
   refine WO.fin ?_
   obtain rfl := Option.some.inj h
   exact DN.meet _ ⟨K2, rfl, (S20.tr S26).wk rfl, f27⟩ fun a ha => (ha.more ha.nil rfl)
  | false =>
   intro h; replace h := cF h
   refine WC.cf rfl ?_
   refine WC.skip ?_
   obtain rfl := Option.some.inj h
   exact DN.meet _ ⟨K2, rfl, (Stp.refl _ _).wk rfl, f12⟩ fun a ha => (ha.more ha.nil rfl)
 rintro _ w14 ⟨K15, rfl, S16, f17⟩
 have h := hK13
 have f28 := hE.stp (S3.tr (S6.tr (S8.tr S16))) rfl rfl
 refine DN.end0 Try.results72 ?_
 obtain rfl := Option.some.inj h
 exact ⟨K15, rfl, f28, f17⟩

/- loop.example/g00869/impl.CircuitOf$1 -/
theorem i_CircuitOf_1_ok {w : World} {κ : Col} {a0 : Option Addr} {u0 : Nat} {p0 : (List (List Int))} {p1 : Int} {c0 : Int} {c1 : Int} {c2 : Int} {b2 : Nat} {b3 : Nat} {b4 : Nat} (g0 : Rd (Rp.sl (Rp.int .i64)) κ w 0 a0 u0 p0) (gb2 : Bc κ w 0 b2 2 [.int .i64 c0]) (gb3 : Bc κ w 0 b3 2 [.int .i64 c1]) (gb4 : Bc κ w 0 b4 2 [.int .i64 c2]) {r : (List Bool)} (h : i_CircuitOf_1 p0 p1 c0 c1 c2 = some r) : Ret Try.prog 53 [.slice a0 p0.length u0, .int .i64 p1, .pointer (some ⟨b2, 0, none⟩), .pointer (some ⟨b3, 0, none⟩), .pointer (some ⟨b4, 0, none⟩)] w (fun v w' => ∃ (κ' : Col) (ra0 : Option Addr) (ru0 : Nat), v = .slice ra0 r.length ru0 ∧ Ent κ w κ' w' ∧ Oc Ep.bool 4 κ' w' 2 ra0 ru0 r) := by
 unfold i_CircuitOf_1 at h
 refine Ret.enter Try.func53 rfl Try.ntmps53 rfl ?_
 dsimp only [envOf]
 have hE := Ent.refl κ w
 refine WC.seq ?_
 refine WC.rs [(0, 2)] rfl ?_
 refine WO.pn 1 rfl ?_
 refine WO.fin ?_
 refine DN.seq ?_
 refine WC.seq ?_
 refine WC.rs [(0, 1), (1, 2)] rfl ?_
 refine WO.bl0 (κ := κ) (E := Ep.bool) 2 rfl rfl rfl rfl rfl Try.underlying77 Tryinfo4 rfl fun a11 u11 w1 K2 S3 f4 => ⟨trivial, ?_⟩
 refine WO.pn 1 rfl ?_
 refine WO.fin ?_
 refine DN.seq ?_
 refine WC.seq ?_
 refine WC.seq ?_
 refine WC.rs [(0, 1), (1, 1), (2, 2), (3, 2)] rfl ?_
 have f5 := gb2.stp S3 rfl rfl
 refine WO.k1 trivial rfl rfl rfl rfl (rn_ld Try.isAgg2 rfl rfl (hvE (f5.ld 0 rfl rfl))) ?_
 have f6 := gb3.stp S3 rfl rfl
 refine WO.k1 trivial rfl rfl rfl rfl (rn_ld Try.isAgg2 rfl rfl (hvE (f6.ld 0 rfl rfl))) ?_
 obtain ⟨_z14, hz14, h⟩ := Option.bind_eq_some_iff.mp h
 refine WO.k2 rfl rfl rfl rfl (rn_shl rfl rfl rfl (nn_ok hz14)) ?_
 refine WO.pn 1 rfl ?_
 refine WO.fin ?_
 refine DN.seq ?_
 obtain ⟨_, hr7, h⟩ := Option.bind_eq_some_iff.mp h
 have hN7 := rng_ok hr7
 obtain ⟨q2, hq9, hK8⟩ := Option.bind_eq_some_iff.mp h
 clear h
 refine WC.meet (fun L w' => ∃ (κ' : Col) (s3 : (List Bool)) (las3_0 : Option Addr) (lus3_0 : Nat), L = [(2, .pointer (some ⟨b2, 0, none⟩)), (3, .pointer (some ⟨b3, 0, none⟩)), (4, .pointer (some ⟨b4, 0, none⟩)), (8, .slice las3_0 s3.length lus3_0)] ∧ Stp [2] K2 w1 κ' w' ∧ Oc Ep.bool 4 κ' w' 2 las3_0 lus3_0 s3 ∧ q2 = Sum.inr s3) ?_ ?_
 ·
  refine WC.block ?_
  refine WC.loop (fun k L w' => ∃ (κ' : Col) (v15 : Int) (s1 : (List Bool)) (las1_0 : Option Addr) (lus1_0 : Nat), L = [(0, .slice a0 p0.length u0), (1, .int .i64 p1), (2, .pointer (some ⟨b2, 0, none⟩)), (3, .pointer (some ⟨b3, 0, none⟩)), (4, .pointer (some ⟨b4, 0, none⟩)), (8, .slice las1_0 s1.length lus1_0), (14, .int .i64 (IntKind.i64.wrap (c0 * 2 ^ (min (Int.toNat c1) (IntKind.bits IntKind.i64))))), (15, .int .i64 v15)] ∧ Stp [2] K2 w1 κ' w' ∧ Oc Ep.bool 4 κ' w' 2 las1_0 lus1_0 s1 ∧ 0 ≤ v15 ∧ Int.toNat ((IntKind.i64.wrap (c0 * 2 ^ (min (Int.toNat c1) (IntKind.bits IntKind.i64)))) - v15) = k ∧ cntM (i_CircuitOf_1_b0 p0 p1 c0 c2) k v15 s1 = some q2) ⟨_, _, ⟨K2, 0, (([] : List Bool) : (List Bool)), a11, u11, rfl, (Stp.refl _ _).wk rfl, f4, (by decide), (by simp), hq9⟩, fun a ha => (ha.more (ha.more (ha.more (ha.more (ha.more (ha.more (ha.more (ha.more ha.nil rfl) rfl) rfl) rfl) rfl) rfl) rfl) rfl)⟩ ?_
  rintro k _ w14 ⟨K15, v15, s1, las1_0, lus1_0, rfl, S16, f17, hj7, hJ7, h⟩
  rcases k with _ | k
  ·
   have hk18 := h; obtain ⟨o7, h⟩ := ex_eq (Sum.inr (Sum.inl s1) : (List Bool) ⊕ (((List Bool)) ⊕ ((List Bool))))
   have hc7 : decide (v15 < (IntKind.i64.wrap (c0 * 2 ^ (min (Int.toNat c1) (IntKind.bits IntKind.i64))))) = false := decide_eq_false (by omega)
   refine WC.seq ?_
   refine WC.rs [(0, 2)] rfl ?_
   refine WO.pn 1 rfl ?_
   refine WO.fin ?_
   refine DN.seq ?_
   refine WC.seq ?_
   refine WC.cf' rfl hc7 ?_
   refine WC.exit ?_
   refine DN.exitThen ?_
   refine DN.exitThen ?_
   obtain rfl := Option.some.inj h
   have h := hk18
   refine DN.hit ?_
   obtain rfl := Option.some.inj h
   exact DN.meet _ ⟨K15, (s1 : (List Bool)), las1_0, lus1_0, rfl, S16.wk rfl, f17, rfl⟩ fun a ha => (ha.more (ha.more (ha.more (ha.more ha.nil rfl) rfl) rfl) rfl)
  ·
   obtain ⟨o7, h, hk18⟩ := Option.bind_eq_some_iff.mp h; unfold i_CircuitOf_1_b0 at h
   have hc7 : decide (v15 < (IntKind.i64.wrap (c0 * 2 ^ (min (Int.toNat c1) (IntKind.bits IntKind.i64))))) = true := decide_eq_true (by omega)
   refine WC.seq ?_
   refine WC.rs [(0, 2)] rfl ?_
   refine WO.pn 1 rfl ?_
   refine WO.fin ?_
   refine DN.seq ?_
   refine WC.seq ?_
   refine WC.ct' rfl hc7 ?_
   refine WC.skip ?_
   refine DN.seq ?_
   refine WC.seq ?_
   refine WC.block ?_
   refine WC.seq ?_
   refine WC.rs [(0, 2), (1, 2)] rfl ?_
   refine WO.pn 2 rfl ?_
   refine WO.fin ?_
   refine DN.seq ?_
   refine WC.seq ?_
   refine WC.rs [(0, 2), (1, 1), (2, 2), (3, 2)] rfl ?_
   refine WO.pn 1 rfl ?_
   have f19 := f5.stp S16 rfl rfl
   refine WO.k1 trivial rfl rfl rfl rfl (rn_ld Try.isAgg2 rfl rfl (hvE (f19.ld 0 rfl rfl))) ?_
   obtain ⟨_z20, hz20, h⟩ := Option.bind_eq_some_iff.mp h
   refine WO.k2 rfl rfl rfl rfl (rn_quo rfl rfl rfl (nz_ok hz20)) ?_
   refine WO.pn 1 rfl ?_
   refine WO.fin ?_
   refine DN.seq ?_
   refine WC.seq ?_
   refine WC.seq ?_
   refine WC.rs [(0, 2), (1, 1), (2, 2)] rfl ?_
   refine WO.pn 1 rfl ?_
   have f20 := gb4.stp (S3.tr S16) rfl rfl
   refine WO.k1 trivial rfl rfl rfl rfl (rn_ld Try.isAgg2 rfl rfl (hvE (f20.ld 0 rfl rfl))) ?_
   refine WO.pn 1 rfl ?_
   refine WO.fin ?_
   refine DN.seq ?_
   obtain ⟨q4, h, hK21⟩ := Option.bind_eq_some_iff.mp h
   refine WC.meet (fun L w' => ∃ (κ' : Col), L = [(0, .slice a0 p0.length u0), (1, .int .i64 p1), (2, .pointer (some ⟨b2, 0, none⟩)), (3, .pointer (some ⟨b3, 0, none⟩)), (4, .pointer (some ⟨b4, 0, none⟩)), (8, .slice las1_0 s1.length lus1_0), (9, .int .i64 v15), (10, .int .i64 q4), (14, .int .i64 (IntKind.i64.wrap (c0 * 2 ^ (min (Int.toNat c1) (IntKind.bits IntKind.i64))))), (15, .int .i64 v15)] ∧ Stp [] K15 w14 κ' w') ?_ ?_
   ·
    revert h
    cases ht25 : decide (c2 ≤ (IntKind.i64.wrap (Int.tdiv v15 c0))) with
    | true =>
     intro h; replace h := cT h
     refine WC.ct rfl ?_
     refine WC.rs [(0, 2)] rfl ?_
     refine WO.pn 1 rfl ?_
     refine WO.fin ?_
     obtain rfl := Option.some.inj h
     exact DN.meet _ ⟨K15, rfl, (Stp.refl _ _).wk rfl⟩ fun a ha => (ha.more (ha.more (ha.more (ha.more (ha.more (ha.more (ha.more (ha.more (ha.more (ha.more ha.nil rfl) rfl) rfl) rfl) rfl) rfl) rfl) rfl) rfl) rfl)
    | false =>
     intro h; replace h := cF h
     refine WC.cf rfl ?_
     refine WC.skip ?_
     obtain rfl := Option.some.inj h
     exact DN.meet _ ⟨K15, rfl, (Stp.refl _ _).wk rfl⟩ fun a ha => (ha.more (ha.more (ha.more (ha.more (ha.more (ha.more (ha.more (ha.more (ha.more (ha.more ha.nil rfl) rfl) rfl) rfl) rfl) rfl) rfl) rfl) rfl) rfl)
   rintro _ w22 ⟨K23, rfl, S24⟩
   have h := hK21
   refine DN.seq ?_
   refine WC.rx (κ := K23) [0] none [(0, 2), (1, 2), (2, 2), (3, 2), (5, 2), (10, 2), (4, 0), (6, 0), (7, 2), (8, 2), (9, 0), (11, 2), (12, 2), (13, 2), (14, 1), (15, 1), (16, 2)] [] (by kernel_rfl) (by kernel_rfl) fun w27 S26 => ?_
   refine WO.pn 3 rfl ?_
   obtain ⟨x27, hx27, h⟩ := Option.bind_eq_some_iff.mp h
   refine WO.k2 rfl rfl rfl rfl (rn_index g0 hx27 Try.runUnderlying44 Try.sizeOf24 rfl rfl rfl rfl) ?_
   refine WO.pn 2 rfl ?_
   have f28 := g0.stp (S3.tr (S16.tr (S24.tr S26))) rfl rfl
   obtain ⟨ax27, ux27, f29, hl30⟩ := f28.gSl hx27
   refine WO.k0 rfl rfl rfl rfl (rn_ld Try.isAgg24 rfl rfl (hvC hl30 rfl)) ?_
   have f31 := f19.stp (S24.tr S26) rfl rfl
   refine WO.k0 rfl rfl rfl rfl (rn_ld Try.isAgg2 rfl rfl (hvC (f31.ld 0 rfl rfl) rfl)) ?_
   obtain ⟨_z31, hz31, h⟩ := Option.bind_eq_some_iff.mp h
   refine WO.k2 rfl rfl rfl rfl (rn_rem rfl rfl rfl (nz_ok hz31)) ?_
   obtain ⟨x32, hx32, h⟩ := Option.bind_eq_some_iff.mp h
   refine WO.k2 rfl rfl rfl rfl (rn_index f29 hx32 Try.runUnderlying24 Try.sizeOf2 rfl rfl rfl rfl) ?_
   refine WO.k0 rfl rfl rfl rfl (rn_ld Try.isAgg2 rfl rfl (hvC (f29.gInt hx32) rfl)) ?_
   obtain ⟨_z35, hz35, h⟩ := Option.bind_eq_some_iff.mp h
   refine WO.k2 rfl rfl rfl rfl (rn_shr rfl rfl rfl (nn_ok hz35)) ?_
   refine WO.pn 2 rfl ?_
   refine WO.bl (κ := K23) (E := Ep.bool) 3 [] (parts := [(0, .tmp 37)]) (cells := [.bool ((IntKind.i64.wrap (BitVec.toNat (BitVec.ofInt (IntKind.bits IntKind.i64) (Int.fdiv x32 (2 ^ (min (Int.toNat p1) (IntKind.bits IntKind.i64)))) &&& BitVec.ofInt (IntKind.bits IntKind.i64) 1))) == 1)]) (xs := ([((IntKind.i64.wrap (BitVec.toNat (BitVec.ofInt (IntKind.bits IntKind.i64) (Int.fdiv x32 (2 ^ (min (Int.toNat p1) (IntKind.bits IntKind.i64)))) &&& BitVec.ofInt (IntKind.bits IntKind.i64) 1))) == 1)] : List Bool)) rfl rfl rfl rfl rfl rfl Try.underlying77 Tryinfo4 rfl rfl rfl rfl rfl rfl rfl rfl rfl rfl ⟨[.bool ((IntKind.i64.wrap (BitVec.toNat (BitVec.ofInt (IntKind.bits IntKind.i64) (Int.fdiv x32 (2 ^ (min (Int.toNat p1) (IntKind.bits IntKind.i64)))) &&& BitVec.ofInt (IntKind.bits IntKind.i64) 1))) == 1)], [], Zl K23 w27 [], Zl K23 w27 [], rfl, Zl.sp (l1 := []) (l2 := []) rfl, Zl.sr (l1 := []) (l2 := []), rfl, rfl⟩ fun a38 u38 w32 K33 S34 f35 => ⟨(S34.cl rfl), ?_⟩
   obtain ⟨x39, hx39, h⟩ := Option.bind_eq_some_iff.mp h
   have f36 := f17.stp (S24.tr (S26.tr S34)) rfl rfl
   refine WO.app (κ := K33) (E := Ep.bool) 2 [] rfl rfl rfl rfl rfl rfl rfl rfl rfl Try.underlying77 Tryinfo4 rfl rfl rfl rfl f36 (Sl.srcP pu_bool f35.rdc) sy_false hx39 rfl fun a39 u39 w37 K38 S39 f40 => ⟨((S34.tr S39).cl rfl), ?_⟩
   refine WO.pn 1 rfl ?_
   refine WO.nx ?_
   refine WO.fin ?_
   refine DN.block ?_
   refine DN.seq ?_
   refine WC.rs [(0, 2), (1, 2)] rfl ?_
   refine WO.pn 2 rfl ?_
   refine WO.fin ?_
   have hw7 : IntKind.wrap .i64 (v15 + 1) = v15 + 1 := wr1 hj7 (of_decide_eq_true hc7) hN7
   rw [hw7]
   have hc7 := of_decide_eq_true hc7
   obtain rfl := Option.some.inj h
   refine DN.round fun a ha => ?_
   exact ⟨k, _, Nat.lt_succ_self _, ⟨K38, v15 + 1, (x39 : (List Bool)), a39, u39, rfl, (S16.tr (S24.tr (S26.tr (S34.tr S39)))).wk rfl, f40, by omega, by omega, hk18⟩, (ha.more (ha.more (ha.more (ha.more (ha.more (ha.more (ha.more (ha.more ha.nil rfl) rfl) rfl) rfl) rfl) rfl) rfl) rfl)⟩
 rintro _ w10 ⟨K11, s3, las3_0, lus3_0, rfl, S12, f13, rfl⟩
 have h := hK8
 dsimp only [aft] at h
 refine DN.seq ?_
 refine WC.seq ?_
 refine WC.rs [(0, 2), (1, 2)] rfl ?_
 refine WO.pn 2 rfl ?_
 refine WO.fin ?_
 refine DN.seq ?_
 refine WC.ret ?_
 have f41 := hE.stp (S3.tr S12) rfl rfl
 refine DN.res (l := [.tmp 7]) Try.results53 (res_tmp rfl rfl) rfl ?_
 obtain rfl := Option.some.inj h
 exact ⟨K11, las3_0, lus3_0, rfl, f41, f13⟩

/- slices.Index[[]bool,bool] -/
theorem slices_Index_bool_bool_ok {w : World} {κ : Col} {a0 : Option Addr} {u0 : Nat} {p0 : (List Bool)} {p1 : Bool} (g0 : Rd Rp.bool κ w 0 a0 u0 p0) {r : Int} (h : slices_Index_bool_bool p0 p1 = some r) : Ret Try.prog 85 [.slice a0 p0.length u0, .bool p1] w (fun v w' => ∃ (κ' : Col), v = .int .i64 r ∧ Ent κ w κ' w') := by
 unfold slices_Index_bool_bool at h
 refine Ret.enter Try.func85 rfl Try.ntmps85 rfl ?_
 dsimp only [envOf]
 have hE := Ent.refl κ w
 refine WC.seq ?_
 refine WC.rs [(0, 2)] rfl ?_
 refine WO.pn 1 rfl ?_
 refine WO.fin ?_
 refine DN.seq ?_
 refine WC.seq ?_
 refine WC.seq ?_
 refine WC.rs [(0, 2), (1, 2), (2, 2)] rfl ?_
 refine WO.pn 1 rfl ?_
 refine WO.k2 rfl rfl rfl rfl (rn_len Try.runUnderlying77 rfl rfl) ?_
 refine WO.pn 1 rfl ?_
 refine WO.fin ?_
 refine DN.seq ?_
 have hN1 : (p0.length : Int) ≤ 9223372036854775807 := g0.len_le
 obtain ⟨q2, hq3, hK2⟩ := Option.bind_eq_some_iff.mp h
 clear h
 refine WC.meet (fun L w' => ∃ (κ' : Col), L = [] ∧ Stp [] κ w κ' w' ∧ q2 = Sum.inr ()) ?_ ?_
 ·
  refine WC.block ?_
  refine WC.loop (fun k L w' => ∃ (κ' : Col) (v8 : Int), L = [(0, .slice a0 p0.length u0), (1, .bool p1), (7, .int .i64 (p0.length : Int)), (8, .int .i64 v8)] ∧ Stp [] κ w κ' w' ∧ 0 ≤ v8 ∧ Int.toNat ((p0.length : Int) - v8) = k ∧ cntM (slices_Index_bool_bool_b0 p0 p1) k v8 () = some q2) ⟨_, _, ⟨κ, 0, rfl, (Stp.refl _ _).wk rfl, (by decide), (by simp), hq3⟩, fun a ha => (ha.more (ha.more (ha.more (ha.more ha.nil rfl) rfl) rfl) rfl)⟩ ?_
  rintro k _ w7 ⟨K8, v8, rfl, S9, hj1, hJ1, h⟩
  rcases k with _ | k
  ·
   have hk10 := h; obtain ⟨o1, h⟩ := ex_eq (Sum.inr (Sum.inl ()) : Int ⊕ ((Unit) ⊕ (Unit)))
   have hc1 : decide (v8 < (p0.length : Int)) = false := decide_eq_false (by omega)
   refine WC.seq ?_
   refine WC.rs [(0, 2)] rfl ?_
   refine WO.pn 1 rfl ?_
   refine WO.fin ?_
   refine DN.seq ?_
   refine WC.seq ?_
   refine WC.cf' rfl hc1 ?_
   refine WC.exit ?_
   refine DN.exitThen ?_
   refine DN.exitThen ?_
   obtain rfl := Option.some.inj h
   have h := hk10
   refine DN.hit ?_
   obtain rfl := Option.some.inj h
   exact DN.meet _ ⟨K8, rfl, S9.wk rfl, rfl⟩ fun a ha => ha.nil
  ·
   obtain ⟨o1, h, hk10⟩ := Option.bind_eq_some_iff.mp h; unfold slices_Index_bool_bool_b0 at h
   have hc1 : decide (v8 < (p0.length : Int)) = true := decide_eq_true (by omega)
   refine WC.seq ?_
   refine WC.rs [(0, 2)] rfl ?_
   refine WO.pn 1 rfl ?_
   refine WO.fin ?_
   refine DN.seq ?_
   refine WC.seq ?_
   refine WC.ct' rfl hc1 ?_
   refine WC.skip ?_
   refine DN.seq ?_
   refine WC.seq ?_
   refine WC.block ?_
   refine WC.seq ?_
   refine WC.rs [(0, 2), (1, 2)] rfl ?_
   refine WO.pn 2 rfl ?_
   refine WO.fin ?_
   refine DN.seq ?_
   refine WC.seq ?_
   refine WC.rs [(0, 2), (1, 2), (2, 2), (3, 2), (4, 1), (5, 2)] rfl ?_
   refine WO.pn 3 rfl ?_
   obtain ⟨x14, hx14, h⟩ := Option.bind_eq_some_iff.mp h
   refine WO.k2 rfl rfl rfl rfl (rn_index g0 hx14 Try.runUnderlying77 Try.sizeOf4 rfl rfl rfl rfl) ?_
   have f11 := g0.stp S9 rfl rfl
   refine WO.k1 trivial rfl rfl rfl rfl (rn_ld Try.isAgg4 rfl rfl (hvE (f11.gBool hx14))) ?_
   refine WO.k2 rfl rfl rfl rfl (rn_eqlB rfl rfl Try.runUnderlying4 rfl) ?_
   refine WO.fin ?_
   refine DN.seq ?_
   revert h
   cases ht12 : (p1 == x14) with
   | true =>
    intro h; replace h := cT h
    refine WC.ct rfl ?_
    refine WC.seq ?_
    refine WC.rs [(0, 2), (1, 2)] rfl ?_
    refine WO.pn 2 rfl ?_
    refine WO.fin ?_
    refine DN.seq ?_
    refine WC.ret ?_
    refine DN.retBlock ?_
    refine DN.retThen ?_
    refine DN.retThen ?_
    obtain rfl := Option.some.inj h
    obtain rfl := Option.some.inj hk10
    have h := hK2
    dsimp only [aft] at h
    refine DN.retBlock ?_
    refine DN.retMeet ?_
    refine DN.retThen ?_
    have f13 := hE.stp S9 rfl rfl
    refine DN.res (l := [.tmp 4]) Try.results85 (res_tmp rfl rfl) rfl ?_
    obtain rfl := Option.some.inj h
    exact ⟨K8, rfl, f13⟩
   | false =>
    intro h; replace h := cF h
    refine WC.cf rfl ?_
    refine WC.skip ?_
    refine DN.block ?_
    refine DN.seq ?_
    refine WC.rs [(0, 2), (1, 2)] rfl ?_
    refine WO.pn 2 rfl ?_
    refine WO.fin ?_
    have hw1 : IntKind.wrap .i64 (v8 + 1) = v8 + 1 := wr1 hj1 (of_decide_eq_true hc1) hN1
    rw [hw1]
    have hc1 := of_decide_eq_true hc1
    obtain rfl := Option.some.inj h
    refine DN.round fun a ha => ?_
    exact ⟨k, _, Nat.lt_succ_self _, ⟨K8, v8 + 1, rfl, S9.wk rfl, by omega, by omega, hk10⟩, (ha.more (ha.more (ha.more (ha.more ha.nil rfl) rfl) rfl) rfl)⟩
 rintro _ w4 ⟨K5, rfl, S6, rfl⟩
 have h := hK2
 dsimp only [aft] at h
 refine DN.seq ?_
 refine WC.seq ?_
 refine WC.rs [(0, 2)] rfl ?_
 refine WO.pn 1 rfl ?_
 refine WO.fin ?_
 refine DN.seq ?_
 refine WC.ret ?_
 have f14 := hE.stp S6 rfl rfl
 refine DN.res (l := [.tmp 4]) Try.results85 (res_tmp rfl rfl) rfl ?_
 obtain rfl := Option.some.inj h
 exact ⟨K5, rfl, f14⟩

/- loop.example/g00869/impl.signalsOf -/
theorem i_signalsOf_ok {w : World} {κ : Col} {a0_2 : Option Addr} {u0_2 : Nat} {a0_3 : Option Addr} {u0_3 : Nat} {a0_4 : Option Addr} {u0_4 : Nat} {p0 : Circuit} (g0_2 : Rd (Rp.int .i64) κ w 0 a0_2 u0_2 p0.Next) (g0_3 : Rd Gate.rp κ w 0 a0_3 u0_3 p0.Gates) (g0_4 : Rd (Rp.int .i64) κ w 0 a0_4 u0_4 p0.Outs) {r : Int} (h : i_signalsOf p0 = some r) : Ret Try.prog 36 [.agg #[.int .i64 p0.Inputs, .int .i64 p0.Latches, .slice a0_2 p0.Next.length u0_2, .slice a0_3 p0.Gates.length u0_3, .slice a0_4 p0.Outs.length u0_4]] w (fun v w' => ∃ (κ' : Col), v = .int .i64 r ∧ Ent κ w κ' w') := by
 unfold i_signalsOf at h
 refine Ret.enter Try.func36 rfl Try.ntmps36 rfl ?_
 dsimp only [envOf]
 have hE := Ent.refl κ w
 refine WC.seq ?_
 refine WC.rs [(0, 1), (1, 2)] rfl ?_
 refine WO.box (κ := κ) 2 rfl rfl rfl rfl rfl rfl rfl fun b1 w1 K2 S3 f4 => ⟨trivial, ?_⟩
 refine WO.pn 1 rfl ?_
 refine WO.fin ?_
 refine DN.seq ?_
 refine WC.seq ?_
 refine WC.rs [(0, 2), (1, 1), (2, 2), (3, 2), (4, 1), (5, 2), (6, 2), (7, 1), (8, 2), (9, 2), (10, 2)] rfl ?_
 refine WO.k2 rfl rfl rfl rfl (rn_fieldAddr Try.runUnderlying27 rfl Try.sizeOf2 rfl rfl) ?_
 refine WO.k1 trivial rfl rfl rfl rfl (rn_ld Try.isAgg2 rfl rfl (hvE (f4.ld 0 rfl rfl))) ?_
 refine WO.pn 1 rfl ?_
 refine WO.k2 rfl rfl rfl rfl (rn_fieldAddr Try.runUnderlying27 rfl Try.sizeOf2 rfl rfl) ?_
 refine WO.k1 trivial rfl rfl rfl rfl (rn_ld Try.isAgg2 rfl rfl (hvE (f4.ld 1 rfl rfl))) ?_
 refine WO.pn 1 rfl ?_
 refine WO.k2 rfl rfl rfl rfl (rn_fieldAddr Try.runUnderlying27 rfl Try.sizeOf25 rfl rfl) ?_
 refine WO.k1 trivial rfl rfl rfl rfl (rn_ld Try.isAgg25 rfl rfl (hvE (f4.ld 3 rfl rfl))) ?_
 refine WO.k2 rfl rfl rfl rfl (rn_len Try.runUnderlying25 rfl rfl) ?_
 refine WO.pn 2 rfl ?_
 refine WO.fin ?_
 refine DN.seq ?_
 refine WC.ret ?_
 have f5 := hE.stp S3 rfl rfl
 refine DN.res (l := [.tmp 2]) Try.results36 (res_tmp rfl rfl) rfl ?_
 obtain rfl := Option.some.inj h
 exact ⟨K2, rfl, f5⟩

/- loop.example/g00869/spec.l1In -/
theorem s_l1In_ok {w : World} {κ : Col} {p0 : Int} {p1 : Int} {p2 : Int}  {r : Bool} (h : s_l1In p0 p1 p2 = some r) : Ret Try.prog 33 [.int .i64 p0, .int .i64 p1, .int .i64 p2] w (fun v w' => ∃ (κ' : Col), v = .bool r ∧ Ent κ w κ' w') := by
 unfold s_l1In at h
 refine Ret.enter Try.func33 rfl Try.ntmps33 rfl ?_
 dsimp only [envOf]
 have hE := Ent.refl κ w
 refine WC.seq ?_
 refine WC.rs [(0, 2)] rfl ?_
 refine WO.pn 1 rfl ?_
 refine WO.fin ?_
 refine DN.seq ?_
 refine WC.seq ?_
 refine WC.rs [(0, 2), (1, 2), (2, 2), (3, 2), (4, 2), (5, 2), (6, 2), (7, 2), (8, 2)] rfl ?_
 refine WO.pn 4 rfl ?_
 obtain ⟨p14, h, hK1⟩ := Option.bind_eq_some_iff.mp h
 refine WO.meet [(4, 2), (5, 2), (6, 2), (7, 2)] [(8, 2)] (fun L w' => L = [(6, .bool false), (14, .bool p14)] ∧ ∃ κ', Stp [] κ w κ' w') trivial ?_ ?_
 ·
  revert h
  cases ht2 : decide (p1 ≤ p0) with
  | true =>
   intro h; replace h := cT h
   refine WO.pn 4 rfl ?_
   obtain rfl := Option.some.inj h
   exact WO.met _ trivial ⟨rfl, _, (Stp.refl _ _).wk rfl⟩ fun a ha => (ha.more (ha.more ha.nil rfl) rfl)
  | false =>
   intro h; replace h := cF h
   refine WO.pn 4 rfl ?_
   obtain rfl := Option.some.inj h
   exact WO.met _ trivial ⟨rfl, _, (Stp.refl _ _).wk rfl⟩ fun a ha => (ha.more (ha.more ha.nil rfl) rfl)
 rintro _ w3 _ ⟨rfl, K4, S5⟩
 have h := hK1
 refine WO.pn 1 rfl ?_
 refine WO.fin ?_
 refine DN.seq ?_
 refine WC.ret ?_
 have f6 := hE.stp S5 rfl rfl
 refine DN.res (l := [.tmp 6]) Try.results33 (res_tmp rfl rfl) rfl ?_
 obtain rfl := Option.some.inj h
 exact ⟨K4, rfl, f6⟩

/- loop.example/g00869/spec.l23Power -/
theorem s_l23Power_ok {w : World} {κ : Col} {p0 : Int}  {r : Int} (h : s_l23Power p0 = some r) : Ret Try.prog 58 [.int .i64 p0] w (fun v w' => ∃ (κ' : Col), v = .int .i64 r ∧ Ent κ w κ' w') := by
 unfold s_l23Power at h
 refine Ret.enter Try.func58 rfl Try.ntmps58 rfl ?_
 dsimp only [envOf]
 have hE := Ent.refl κ w
 refine WC.seq ?_
 refine WC.rs [(0, 2)] rfl ?_
 refine WO.pn 1 rfl ?_
 refine WO.fin ?_
 refine DN.seq ?_
 refine WC.seq ?_
 refine WC.rs [(0, 2)] rfl ?_
 refine WO.pn 1 rfl ?_
 refine WO.fin ?_
 refine DN.seq ?_
 refine WC.seq ?_
 obtain ⟨q2, hq3, hK2⟩ := Option.bind_eq_some_iff.mp h
 clear h
 refine WC.meet (fun L w' => ∃ (κ' : Col) (s3 : Int × Int), L = [(3, .int .i64 s3.2)] ∧ Stp [] κ w κ' w' ∧ q2 = Sum.inr s3) ?_ ?_
 ·
  refine WC.block ?_
  refine WC.loop (fun k L w' => ∃ (κ' : Col) (s1 : Int × Int), L = [(0, .int .i64 s1.1), (3, .int .i64 s1.2)] ∧ Stp [] κ w κ' w' ∧ whileM s_l23Power_b0 k s1 = some q2) ⟨_, _, ⟨κ, ((p0 : Int), (1 : Int)), rfl, (Stp.refl _ _).wk rfl, hq3⟩, fun a ha => (ha.more (ha.more ha.nil rfl) rfl)⟩ ?_
  rintro k _ w7 ⟨K8, s1, rfl, S9, h⟩
  rcases k with _ | k
  ·
   cases h
  ·
   obtain ⟨o1, h, hk10⟩ := Option.bind_eq_some_iff.mp h; unfold s_l23Power_b0 at h
   refine WC.seq ?_
   refine WC.seq ?_
   refine WC.rs [(0, 2), (1, 2)] rfl ?_
   refine WO.pn 2 rfl ?_
   refine WO.fin ?_
   refine DN.seq ?_
   revert h
   cases ht11 : decide (0 < s1.1) with
   | true =>
    intro h; replace h := cT h
    refine WC.ct rfl ?_
    refine WC.skip ?_
    refine DN.seq ?_
    refine WC.seq ?_
    refine WC.block ?_
    refine WC.rs [(0, 2), (1, 2), (2, 2)] rfl ?_
    refine WO.pn 3 rfl ?_
    refine WO.fin ?_
    refine DN.block ?_
    refine DN.seq ?_
    refine WC.rs [(0, 2), (1, 2), (2, 2)] rfl ?_
    refine WO.pn 3 rfl ?_
    refine WO.fin ?_
    obtain rfl := Option.some.inj h
    refine DN.round fun a ha => ?_
    exact ⟨k, _, Nat.lt_succ_self _, ⟨K8, (((IntKind.i64.wrap (s1.1 - 1)) : Int), ((IntKind.i64.wrap (s1.2 * 2)) : Int)), rfl, S9.wk rfl, hk10⟩, (ha.more (ha.more ha.nil rfl) rfl)⟩
   | false =>
    intro h; replace h := cF h
    refine WC.cf rfl ?_
    refine WC.exit ?_
    refine DN.exitThen ?_
    refine DN.exitThen ?_
    obtain rfl := Option.some.inj h
    have h := hk10
    refine DN.hit ?_
    obtain rfl := Option.some.inj h
    exact DN.meet _ ⟨K8, ((s1.1 : Int), (s1.2 : Int)), rfl, S9.wk rfl, rfl⟩ fun a ha => (ha.more ha.nil rfl)
 rintro _ w4 ⟨K5, s3, rfl, S6, rfl⟩
 have h := hK2
 dsimp only [aft] at h
 refine DN.seq ?_
 refine WC.seq ?_
 refine WC.rs [(0, 2), (1, 2)] rfl ?_
 refine WO.pn 2 rfl ?_
 refine WO.fin ?_
 refine DN.seq ?_
 refine WC.ret ?_
 have f12 := hE.stp S6 rfl rfl
 refine DN.res (l := [.tmp 2]) Try.results58 (res_tmp rfl rfl) rfl ?_
 obtain rfl := Option.some.inj h
 exact ⟨K5, rfl, f12⟩

/- loop.example/g00869/spec.l31Signals -/
theorem s_l31Signals_ok {w : World} {κ : Col} {a0_2 : Option Addr} {u0_2 : Nat} {a0_3 : Option Addr} {u0_3 : Nat} {a0_4 : Option Addr} {u0_4 : Nat} {p0 : Circuit} (g0_2 : Rd (Rp.int .i64) κ w 0 a0_2 u0_2 p0.Next) (g0_3 : Rd Gate.rp κ w 0 a0_3 u0_3 p0.Gates) (g0_4 : Rd (Rp.int .i64) κ w 0 a0_4 u0_4 p0.Outs) {r : Int} (h : s_l31Signals p0 = some r) : Ret Try.prog 35 [.agg #[.int .i64 p0.Inputs, .int .i64 p0.Latches, .slice a0_2 p0.Next.length u0_2, .slice a0_3 p0.Gates.length u0_3, .slice a0_4 p0.Outs.length u0_4]] w (fun v w' => ∃ (κ' : Col), v = .int .i64 r ∧ Ent κ w κ' w') := by
 unfold s_l31Signals at h
 refine Ret.enter Try.func35 rfl Try.ntmps35 rfl ?_
 dsimp only [envOf]
 have hE := Ent.refl κ w
 refine WC.seq ?_
 refine WC.rs [(0, 1), (1, 2)] rfl ?_
 refine WO.box (κ := κ) 2 rfl rfl rfl rfl rfl rfl rfl fun b1 w1 K2 S3 f4 => ⟨trivial, ?_⟩
 refine WO.pn 1 rfl ?_
 refine WO.fin ?_
 refine DN.seq ?_
 refine WC.seq ?_
 refine WC.rs [(0, 2), (1, 1), (2, 2), (3, 2), (4, 1), (5, 2), (6, 2), (7, 1), (8, 2), (9, 2), (10, 2)] rfl ?_
 refine WO.k2 rfl rfl rfl rfl (rn_fieldAddr Try.runUnderlying27 rfl Try.sizeOf2 rfl rfl) ?_
 refine WO.k1 trivial rfl rfl rfl rfl (rn_ld Try.isAgg2 rfl rfl (hvE (f4.ld 0 rfl rfl))) ?_
 refine WO.pn 1 rfl ?_
 refine WO.k2 rfl rfl rfl rfl (rn_fieldAddr Try.runUnderlying27 rfl Try.sizeOf2 rfl rfl) ?_
 refine WO.k1 trivial rfl rfl rfl rfl (rn_ld Try.isAgg2 rfl rfl (hvE (f4.ld 1 rfl rfl))) ?_
 refine WO.pn 1 rfl ?_
 refine WO.k2 rfl rfl rfl rfl (rn_fieldAddr Try.runUnderlying27 rfl Try.sizeOf25 rfl rfl) ?_
 refine WO.k1 trivial rfl rfl rfl rfl (rn_ld Try.isAgg25 rfl rfl (hvE (f4.ld 3 rfl rfl))) ?_
 refine WO.k2 rfl rfl rfl rfl (rn_len Try.runUnderlying25 rfl rfl) ?_
 refine WO.pn 2 rfl ?_
 refine WO.fin ?_
 refine DN.seq ?_
 refine WC.ret ?_
 have f5 := hE.stp S3 rfl rfl
 refine DN.res (l := [.tmp 2]) Try.results35 (res_tmp rfl rfl) rfl ?_
 obtain rfl := Option.some.inj h
 exact ⟨K2, rfl, f5⟩

/- loop.example/g00869/spec.l31True -/
theorem s_l31True_ok {w : World} {κ : Col} {a0 : Option Addr} {u0 : Nat} {p0 : (List Bool)} {p1 : Int} (g0 : Rd Rp.bool κ w 0 a0 u0 p0) {r : Bool} (h : s_l31True p0 p1 = some r) : Ret Try.prog 70 [.slice a0 p0.length u0, .int .i64 p1] w (fun v w' => ∃ (κ' : Col), v = .bool r ∧ Ent κ w κ' w') := by
 unfold s_l31True at h
 refine Ret.enter Try.func70 rfl Try.ntmps70 rfl ?_
 dsimp only [envOf]
 have hE := Ent.refl κ w
 refine WC.seq ?_
 refine WC.rs [(0, 2)] rfl ?_
 refine WO.pn 1 rfl ?_
 refine WO.fin ?_
 refine DN.seq ?_
 refine WC.seq ?_
 refine WC.rs [(0, 2), (1, 2), (2, 2), (3, 2), (4, 1), (5, 2), (6, 2), (7, 2), (8, 2), (9, 2)] rfl ?_
 refine WO.pn 2 rfl ?_
 refine WO.k2 rfl rfl rfl rfl (rn_quo rfl rfl rfl (by decide)) ?_
 obtain ⟨x8, hx8, h⟩ := Option.bind_eq_some_iff.mp h
 refine WO.k2 rfl rfl rfl rfl (rn_index g0 hx8 Try.runUnderlying77 Try.sizeOf4 rfl rfl rfl rfl) ?_
 refine WO.k1 trivial rfl rfl rfl rfl (rn_ld Try.isAgg4 rfl rfl (hvE (g0.gBool hx8))) ?_
 refine WO.pn 1 rfl ?_
 refine WO.k2 rfl rfl rfl rfl (rn_rem rfl rfl rfl (by decide)) ?_
 refine WO.pn 1 rfl ?_
 refine WO.k2 rfl rfl rfl rfl (rn_neqB rfl rfl Try.runUnderlying4 rfl) ?_
 refine WO.pn 1 rfl ?_
 refine WO.fin ?_
 refine DN.seq ?_
 refine WC.ret ?_
 refine DN.res (l := [.tmp 4]) Try.results70 (res_tmp rfl rfl) rfl ?_
 obtain rfl := Option.some.inj h
 exact ⟨κ, rfl, hE⟩

/- loop.example/g00869/impl.stepOf$1 -/
theorem i_stepOf_1_ok {w : World} {κ : Col} {p0 : Int} {a1 : Option Addr} {u1 : Nat} {c0 : (List Int)} {b1 : Nat} (g1 : Rd (Rp.int .i64) κ w 0 a1 u1 c0) (gb1 : Bc κ w 0 b1 24 [.slice a1 c0.length u1]) {r : Int} (h : i_stepOf_1 p0 c0 = some r) : Ret Try.prog 69 [.int .i64 p0, .pointer (some ⟨b1, 0, none⟩)] w (fun v w' => ∃ (κ' : Col), v = .int .i64 r ∧ Ent κ w κ' w') := by
 unfold i_stepOf_1 at h
 refine Ret.enter Try.func69 rfl Try.ntmps69 rfl ?_
 dsimp only [envOf]
 have hE := Ent.refl κ w
 refine WC.seq ?_
 refine WC.rs [(0, 2)] rfl ?_
 refine WO.pn 1 rfl ?_
 refine WO.fin ?_
 refine DN.seq ?_
 refine WC.seq ?_
 refine WC.rs [(0, 1), (1, 2), (2, 2), (3, 2), (4, 1), (5, 2), (6, 2), (7, 2), (8, 2)] rfl ?_
 refine WO.k1 trivial rfl rfl rfl rfl (rn_ld Try.isAgg24 rfl rfl (hvE (gb1.ld 0 rfl rfl))) ?_
 refine WO.pn 1 rfl ?_
 refine WO.k2 rfl rfl rfl rfl (rn_quo rfl rfl rfl (by decide)) ?_
 obtain ⟨x7, hx7, h⟩ := Option.bind_eq_some_iff.mp h
 refine WO.k2 rfl rfl rfl rfl (rn_index g1 hx7 Try.runUnderlying24 Try.sizeOf2 rfl rfl rfl rfl) ?_
 refine WO.k1 trivial rfl rfl rfl rfl (rn_ld Try.isAgg2 rfl rfl (hvE (g1.gInt hx7))) ?_
 refine WO.pn 4 rfl ?_
 refine WO.fin ?_
 refine DN.seq ?_
 refine WC.ret ?_
 refine DN.res (l := [.tmp 3]) Try.results69 (res_tmp rfl rfl) rfl ?_
 obtain rfl := Option.some.inj h
 exact ⟨κ, rfl, hE⟩

/- slices.Index[[][2]int64,[2]int64] -/
theorem slices_Index_2_int64_2_int64_ok {w : World} {κ : Col} {a0 : Option Addr} {u0 : Nat} {p0 : (List (Int × Int))} {p1 : (Int × Int)} (g0 : Rd (Rp.pair (Rp.int .i64) (Rp.int .i64)) κ w 0 a0 u0 p0) {r : Int} (h : slices_Index_2_int64_2_int64 p0 p1 = some r) : Ret Try.prog 79 [.slice a0 p0.length u0, .agg #[.int .i64 p1.1, .int .i64 p1.2]] w (fun v w' => ∃ (κ' : Col), v = .int .i64 r ∧ Ent κ w κ' w') := by
 unfold slices_Index_2_int64_2_int64 at h
 refine Ret.enter Try.func79 rfl Try.ntmps79 rfl ?_
 dsimp only [envOf]
 have hE := Ent.refl κ w
 refine WC.seq ?_
 refine WC.rs [(0, 1), (1, 2)] rfl ?_
 refine WO.box (κ := κ) 2 rfl rfl rfl rfl rfl rfl rfl fun b3 w1 K2 S3 f4 => ⟨trivial, ?_⟩
 refine WO.pn 1 rfl ?_
 refine WO.fin ?_
 refine DN.seq ?_
 refine WC.seq ?_
 refine WC.seq ?_
 refine WC.rs [(0, 2), (1, 2), (2, 2)] rfl ?_
 refine WO.pn 1 rfl ?_
 refine WO.k2 rfl rfl rfl rfl (rn_len Try.runUnderlying82 rfl rfl) ?_
 refine WO.pn 1 rfl ?_
 refine WO.fin ?_
 refine DN.seq ?_
 have hN5 : (p0.length : Int) ≤ 9223372036854775807 := g0.len_le
 obtain ⟨q2, hq7, hK6⟩ := Option.bind_eq_some_iff.mp h
 clear h
 refine WC.meet (fun L w' => ∃ (κ' : Col), L = [] ∧ Stp [] K2 w1 κ' w' ∧ q2 = Sum.inr ()) ?_ ?_
 ·
  refine WC.block ?_
  refine WC.loop (fun k L w' => ∃ (κ' : Col) (v8 : Int), L = [(0, .slice a0 p0.length u0), (3, .pointer (some ⟨b3, 0, none⟩)), (7, .int .i64 (p0.length : Int)), (8, .int .i64 v8)] ∧ Stp [] K2 w1 κ' w' ∧ 0 ≤ v8 ∧ Int.toNat ((p0.length : Int) - v8) = k ∧ cntM (slices_Index_2_int64_2_int64_b0 p0 p1) k v8 () = some q2) ⟨_, _, ⟨K2, 0, rfl, (Stp.refl _ _).wk rfl, (by decide), (by simp), hq7⟩, fun a ha => (ha.more (ha.more (ha.more (ha.more ha.nil rfl) rfl) rfl) rfl)⟩ ?_
  rintro k _ w11 ⟨K12, v8, rfl, S13, hj5, hJ5, h⟩
  rcases k with _ | k
  ·
   have hk14 := h; obtain ⟨o5, h⟩ := ex_eq (Sum.inr (Sum.inl ()) : Int ⊕ ((Unit) ⊕ (Unit)))
   have hc5 : decide (v8 < (p0.length : Int)) = false := decide_eq_false (by omega)
   refine WC.seq ?_
   refine WC.rs [(0, 2)] rfl ?_
   refine WO.pn 1 rfl ?_
   refine WO.fin ?_
   refine DN.seq ?_
   refine WC.seq ?_
   refine WC.cf' rfl hc5 ?_
   refine WC.exit ?_
   refine DN.exitThen ?_
   refine DN.exitThen ?_
   obtain rfl := Option.some.inj h
   have h := hk14
   refine DN.hit ?_
   obtain rfl := Option.some.inj h
   exact DN.meet _ ⟨K12, rfl, S13.wk rfl, rfl⟩ fun a ha => ha.nil
  ·
   obtain ⟨o5, h, hk14⟩ := Option.bind_eq_some_iff.mp h; unfold slices_Index_2_int64_2_int64_b0 at h
   have hc5 : decide (v8 < (p0.length : Int)) = true := decide_eq_true (by omega)
   refine WC.seq ?_
   refine WC.rs [(0, 2)] rfl ?_
   refine WO.pn 1 rfl ?_
   refine WO.fin ?_
   refine DN.seq ?_
   refine WC.seq ?_
   refine WC.ct' rfl hc5 ?_
   refine WC.skip ?_
   refine DN.seq ?_
   refine WC.seq ?_
   refine WC.block ?_
   refine WC.seq ?_
   refine WC.rs [(0, 2), (1, 2)] rfl ?_
   refine WO.pn 2 rfl ?_
   refine WO.fin ?_
   refine DN.seq ?_
   refine WC.seq ?_
   refine WC.rx (κ := K12) [0, 2] none [(1, 2), (2, 2), (3, 2), (0, 0), (4, 0), (5, 2)] [] (by kernel_rfl) (by kernel_rfl) fun w16 S15 => ?_
   refine WO.pn 2 rfl ?_
   obtain ⟨x14, hx14, h⟩ := Option.bind_eq_some_iff.mp h
   refine WO.k2 rfl rfl rfl rfl (rn_index g0 hx14 Try.runUnderlying82 Try.sizeOf81 rfl rfl rfl rfl) ?_
   have f17 := f4.stp (S13.tr S15) rfl rfl
   refine WO.k0 rfl rfl rfl rfl (rn_la (cs := [.int .i64 p1.1, .int .i64 p1.2]) Try.isAgg81 Try.sizeOf81 rfl rfl rfl (haC f17.cells rfl)) ?_
   have f18 := g0.stp (S3.tr (S13.tr S15)) rfl rfl
   obtain ⟨cse19, hre19, hle19⟩ := (f18).gSt hx14
   obtain ⟨_, _, rfl, rfl, rfl⟩ := hre19
   refine WO.k0 rfl rfl rfl rfl (rn_la (cs := [.int .i64 x14.1, .int .i64 x14.2]) Try.isAgg81 Try.sizeOf81 rfl rfl rfl (haC hle19 rfl)) ?_
   refine WO.k2 rfl rfl rfl rfl (rn_eqlA2 Try.runUnderlying81 (by kernel_rfl) Try.isAgg2 Try.runUnderlying2 Try.sizeOf2 rfl rfl rfl) ?_
   refine WO.nx ?_
   refine WO.fin ?_
   refine DN.seq ?_
   revert h
   cases ht20 : ((p1.1 == x14.1) && (p1.2 == x14.2)) with
   | true =>
    intro h; replace h := cT h
    refine WC.ct rfl ?_
    refine WC.seq ?_
    refine WC.rs [(0, 2), (1, 2)] rfl ?_
    refine WO.pn 2 rfl ?_
    refine WO.fin ?_
    refine DN.seq ?_
    refine WC.ret ?_
    refine DN.retBlock ?_
    refine DN.retThen ?_
    refine DN.retThen ?_
    obtain rfl := Option.some.inj h
    obtain rfl := Option.some.inj hk14
    have h := hK6
    dsimp only [aft] at h
    refine DN.retBlock ?_
    refine DN.retMeet ?_
    refine DN.retThen ?_
    have f21 := hE.stp (S3.tr (S13.tr S15)) rfl rfl
    refine DN.res (l := [.tmp 4]) Try.results79 (res_tmp rfl rfl) rfl ?_
    obtain rfl := Option.some.inj h
    exact ⟨K12, rfl, f21⟩
   | false =>
    intro h; replace h := cF h
    refine WC.cf rfl ?_
    refine WC.skip ?_
    refine DN.block ?_
    refine DN.seq ?_
    refine WC.rs [(0, 2), (1, 2)] rfl ?_
    refine WO.pn 2 rfl ?_
    refine WO.fin ?_
    have hw5 : IntKind.wrap .i64 (v8 + 1) = v8 + 1 := wr1 hj5 (of_decide_eq_true hc5) hN5
    rw [hw5]
    have hc5 := of_decide_eq_true hc5
    obtain rfl := Option.some.inj h
    refine DN.round fun a ha => ?_
    exact ⟨k, _, Nat.lt_succ_self _, ⟨K12, v8 + 1, rfl, (S13.tr S15).wk rfl, by omega, by omega, hk14⟩, (ha.more (ha.more (ha.more (ha.more ha.nil rfl) rfl) rfl) rfl)⟩
 rintro _ w8 ⟨K9, rfl, S10, rfl⟩
 have h := hK6
 dsimp only [aft] at h
 refine DN.seq ?_
 refine WC.seq ?_
 refine WC.rs [(0, 2)] rfl ?_
 refine WO.pn 1 rfl ?_
 refine WO.fin ?_
 refine DN.seq ?_
 refine WC.ret ?_
 have f22 := hE.stp (S3.tr S10) rfl rfl
 refine DN.res (l := [.tmp 4]) Try.results79 (res_tmp rfl rfl) rfl ?_
 obtain rfl := Option.some.inj h
 exact ⟨K9, rfl, f22⟩

/- slices.Index[[]int64,int64] -/
theorem slices_Index_I_int64_ok {w : World} {κ : Col} {a0 : Option Addr} {u0 : Nat} {p0 : (List Int)} {p1 : Int} (g0 : Rd (Rp.int .i64) κ w 0 a0 u0 p0) {r : Int} (h : slices_Index_I_int64 p0 p1 = some r) : Ret Try.prog 61 [.slice a0 p0.length u0, .int .i64 p1] w (fun v w' => ∃ (κ' : Col), v = .int .i64 r ∧ Ent κ w κ' w') := by
 unfold slices_Index_I_int64 at h
 refine Ret.enter Try.func61 rfl Try.ntmps61 rfl ?_
 dsimp only [envOf]
 have hE := Ent.refl κ w
 refine WC.seq ?_
 refine WC.rs [(0, 2)] rfl ?_
 refine WO.pn 1 rfl ?_
 refine WO.fin ?_
 refine DN.seq ?_
 refine WC.seq ?_
 refine WC.seq ?_
 refine WC.rs [(0, 2), (1, 2), (2, 2)] rfl ?_
 refine WO.pn 1 rfl ?_
 refine WO.k2 rfl rfl rfl rfl (rn_len Try.runUnderlying24 rfl rfl) ?_
 refine WO.pn 1 rfl ?_
 refine WO.fin ?_
 refine DN.seq ?_
 have hN1 : (p0.length : Int) ≤ 9223372036854775807 := g0.len_le
 obtain ⟨q2, hq3, hK2⟩ := Option.bind_eq_some_iff.mp h
 clear h
 refine WC.meet (fun L w' => ∃ (κ' : Col), L = [] ∧ Stp [] κ w κ' w' ∧ q2 = Sum.inr ()) ?_ ?_
 ·
  refine WC.block ?_
  refine WC.loop (fun k L w' => ∃ (κ' : Col) (v8 : Int), L = [(0, .slice a0 p0.length u0), (1, .int .i64 p1), (7, .int .i64 (p0.length : Int)), (8, .int .i64 v8)] ∧ Stp [] κ w κ' w' ∧ 0 ≤ v8 ∧ Int.toNat ((p0.length : Int) - v8) = k ∧ cntM (slices_Index_I_int64_b0 p0 p1) k v8 () = some q2) ⟨_, _, ⟨κ, 0, rfl, (Stp.refl _ _).wk rfl, (by decide), (by simp), hq3⟩, fun a ha => (ha.more (ha.more (ha.more (ha.more ha.nil rfl) rfl) rfl) rfl)⟩ ?_
  rintro k _ w7 ⟨K8, v8, rfl, S9, hj1, hJ1, h⟩
  rcases k with _ | k
  ·
   have hk10 := h; obtain ⟨o1, h⟩ := ex_eq (Sum.inr (Sum.inl ()) : Int ⊕ ((Unit) ⊕ (Unit)))
   have hc1 : decide (v8 < (p0.length : Int)) = false := decide_eq_false (by omega)
   refine WC.seq ?_
   refine WC.rs [(0, 2)] rfl ?_
   refine WO.pn 1 rfl ?_
   refine WO.fin ?_
   refine DN.seq ?_
   refine WC.seq ?_
   refine WC.cf' rfl hc1 ?_
   refine WC.exit ?_
   refine DN.exitThen ?_
   refine DN.exitThen ?_
   obtain rfl := Option.some.inj h
   have h := hk10
   refine DN.hit ?_
   obtain rfl := Option.some.inj h
   exact DN.meet _ ⟨K8, rfl, S9.wk rfl, rfl⟩ fun a ha => ha.nil
  ·
   obtain ⟨o1, h, hk10⟩ := Option.bind_eq_some_iff.mp h; unfold slices_Index_I_int64_b0 at h
   have hc1 : decide (v8 < (p0.length : Int)) = true := decide_eq_true (by omega)
   refine WC.seq ?_
   refine WC.rs [(0, 2)] rfl ?_
   refine WO.pn 1 rfl ?_
   refine WO.fin ?_
   refine DN.seq ?_
   refine WC.seq ?_
   refine WC.ct' rfl hc1 ?_
   refine WC.skip ?_
   refine DN.seq ?_
   refine WC.seq ?_
   refine WC.block ?_
   refine WC.seq ?_
   refine WC.rs [(0, 2), (1, 2)] rfl ?_
   refine WO.pn 2 rfl ?_
   refine WO.fin ?_
   refine DN.seq ?_
   refine WC.seq ?_
   refine WC.rs [(0, 2), (1, 2), (2, 2), (3, 2), (4, 1), (5, 2)] rfl ?_
   refine WO.pn 3 rfl ?_
   obtain ⟨x14, hx14, h⟩ := Option.bind_eq_some_iff.mp h
   refine WO.k2 rfl rfl rfl rfl (rn_index g0 hx14 Try.runUnderlying24 Try.sizeOf2 rfl rfl rfl rfl) ?_
   have f11 := g0.stp S9 rfl rfl
   refine WO.k1 trivial rfl rfl rfl rfl (rn_ld Try.isAgg2 rfl rfl (hvE (f11.gInt hx14))) ?_
   refine WO.pn 1 rfl ?_
   refine WO.fin ?_
   refine DN.seq ?_
   revert h
   cases ht12 : (p1 == x14) with
   | true =>
    intro h; replace h := cT h
    refine WC.ct rfl ?_
    refine WC.seq ?_
    refine WC.rs [(0, 2), (1, 2)] rfl ?_
    refine WO.pn 2 rfl ?_
    refine WO.fin ?_
    refine DN.seq ?_
    refine WC.ret ?_
    refine DN.retBlock ?_
    refine DN.retThen ?_
    refine DN.retThen ?_
    obtain rfl := Option.some.inj h
    obtain rfl := Option.some.inj hk10
    have h := hK2
    dsimp only [aft] at h
    refine DN.retBlock ?_
    refine DN.retMeet ?_
    refine DN.retThen ?_
    have f13 := hE.stp S9 rfl rfl
    refine DN.res (l := [.tmp 4]) Try.results61 (res_tmp rfl rfl) rfl ?_
    obtain rfl := Option.some.inj h
    exact ⟨K8, rfl, f13⟩
   | false =>
    intro h; replace h := cF h
    refine WC.cf rfl ?_
    refine WC.skip ?_
    refine DN.block ?_
    refine DN.seq ?_
    refine WC.rs [(0, 2), (1, 2)] rfl ?_
    refine WO.pn 2 rfl ?_
    refine WO.fin ?_
    have hw1 : IntKind.wrap .i64 (v8 + 1) = v8 + 1 := wr1 hj1 (of_decide_eq_true hc1) hN1
    rw [hw1]
    have hc1 := of_decide_eq_true hc1
    obtain rfl := Option.some.inj h
    refine DN.round fun a ha => ?_
    exact ⟨k, _, Nat.lt_succ_self _, ⟨K8, v8 + 1, rfl, S9.wk rfl, by omega, by omega, hk10⟩, (ha.more (ha.more (ha.more (ha.more ha.nil rfl) rfl) rfl) rfl)⟩
 rintro _ w4 ⟨K5, rfl, S6, rfl⟩
 have h := hK2
 dsimp only [aft] at h
 refine DN.seq ?_
 refine WC.seq ?_
 refine WC.rs [(0, 2)] rfl ?_
 refine WO.pn 1 rfl ?_
 refine WO.fin ?_
 refine DN.seq ?_
 refine WC.ret ?_
 have f14 := hE.stp S6 rfl rfl
 refine DN.res (l := [.tmp 4]) Try.results61 (res_tmp rfl rfl) rfl ?_
 obtain rfl := Option.some.inj h
 exact ⟨K5, rfl, f14⟩

/- loop.example/g00869/laws.roll -/
theorem l_roll_ok {w : World} {κ : Col} {a0 : Option Addr} {u0 : Nat} {p0 : (List Int)} {p1 : Int} (g0 : Rd (Rp.int .u8) κ w 0 a0 u0 p0) {r : dice} (h : l_roll p0 p1 = some r) : Ret Try.prog 26 [.slice a0 p0.length u0, .int .u64 p1] w (fun v w' => ∃ (κ' : Col) (ra0 : Option Addr) (ru0 : Nat) (rb1 : Nat), v = .pointer (some ⟨rb1, 0, none⟩) ∧ Ent κ w κ' w' ∧ Rd (Rp.int .u8) κ' w' 0 ra0 ru0 r.b ∧ Bc κ' w' 3 rb1 86 [.slice ra0 r.b.length ru0, .int .i64 r.i, .int .u64 r.h]) := by
 unfold l_roll at h
 refine Ret.enter Try.func26 rfl Try.ntmps26 rfl ?_
 dsimp only [envOf]
 have hE := Ent.refl κ w
 refine WC.seq ?_
 refine WC.rs [(0, 2)] rfl ?_
 refine WO.pn 1 rfl ?_
 refine WO.fin ?_
 refine DN.seq ?_
 refine WC.seq ?_
 refine WC.rs [(0, 2), (1, 2), (2, 2), (3, 2), (4, 2), (5, 2), (6, 2), (7, 2), (8, 1), (9, 2)] rfl ?_
 refine WO.pn 4 rfl ?_
 refine WO.k2 rfl rfl rfl rfl (rn_len Try.runUnderlying22 rfl rfl) ?_
 refine WO.k2 rfl rfl rfl rfl (rn_conv Try.runUnderlying3 Try.runUnderlying57 rfl rfl) ?_
 refine WO.pn 1 rfl ?_
 refine WO.k2 rfl rfl rfl rfl (rn_build (parts := [(0, .tmp 7), (2, .tmp 13)]) (cells := [.slice a0 p0.length u0, .int .i64 0, .int .u64 (IntKind.u64.wrap ((IntKind.u64.wrap (p1 * 7919)) + (IntKind.u64.wrap (p0.length : Int))))]) rfl rfl (by kernel_rfl)) ?_
 refine WO.box (κ := κ) 2 rfl rfl rfl rfl rfl rfl rfl fun b15 w1 K2 S3 f4 => ⟨trivial, ?_⟩
 refine WO.pn 1 rfl ?_
 refine WO.fin ?_
 refine DN.seq ?_
 refine WC.seq ?_
 refine WC.seq ?_
 refine WC.rs [(0, 2)] rfl ?_
 refine WO.pn 1 rfl ?_
 refine WO.fin ?_
 refine DN.seq ?_
 have hN5 : (p0.length : Int) ≤ 9223372036854775807 := g0.len_le
 obtain ⟨q2, hq7, hK6⟩ := Option.bind_eq_some_iff.mp h
 clear h
 refine WC.meet (fun L w' => ∃ (κ' : Col) (s3 : Int), L = [(5, .pointer (some ⟨b15, 0, none⟩))] ∧ Stp [2] K2 w1 κ' w' ∧ Bc κ' w' 2 b15 86 [.slice a0 p0.length u0, .int .i64 0, .int .u64 s3] ∧ q2 = Sum.inr s3) ?_ ?_
 ·
  refine WC.block ?_
  refine WC.loop (fun k L w' => ∃ (κ' : Col) (v6 : Int) (s1 : Int), L = [(0, .slice a0 p0.length u0), (5, .pointer (some ⟨b15, 0, none⟩)), (6, .int .i64 v6)] ∧ Stp [2] K2 w1 κ' w' ∧ Bc κ' w' 2 b15 86 [.slice a0 p0.length u0, .int .i64 0, .int .u64 s1] ∧ 0 ≤ v6 ∧ Int.toNat ((p0.length : Int) - v6) = k ∧ cntM (l_roll_b0 p0) k v6 s1 = some q2) ⟨_, _, ⟨K2, 0, ((IntKind.u64.wrap ((IntKind.u64.wrap (p1 * 7919)) + (IntKind.u64.wrap (p0.length : Int)))) : Int), rfl, (Stp.refl _ _).wk rfl, f4, (by decide), (by simp), hq7⟩, fun a ha => (ha.more (ha.more (ha.more ha.nil rfl) rfl) rfl)⟩ ?_
  rintro k _ w12 ⟨K13, v6, s1, rfl, S14, f15, hj5, hJ5, h⟩
  rcases k with _ | k
  ·
   have hk16 := h; obtain ⟨o5, h⟩ := ex_eq (Sum.inr (Sum.inl s1) : dice ⊕ ((Int) ⊕ (Int)))
   have hc5 : decide (v6 < (p0.length : Int)) = false := decide_eq_false (by omega)
   refine WC.seq ?_
   refine WC.seq ?_
   refine WC.rs [(0, 2), (1, 2), (2, 2), (3, 2)] rfl ?_
   refine WO.pn 2 rfl ?_
   refine WO.k2 rfl rfl rfl rfl (rn_len Try.runUnderlying22 rfl rfl) ?_
   refine WO.pn 1 rfl ?_
   refine WO.fin ?_
   refine DN.seq ?_
   refine WC.cf' rfl hc5 ?_
   refine WC.exit ?_
   refine DN.exitThen ?_
   refine DN.exitThen ?_
   obtain rfl := Option.some.inj h
   have h := hk16
   refine DN.hit ?_
   obtain rfl := Option.some.inj h
   exact DN.meet _ ⟨K13, (s1 : Int), rfl, S14.wk rfl, f15, rfl⟩ fun a ha => (ha.more ha.nil rfl)
  ·
   obtain ⟨o5, h, hk16⟩ := Option.bind_eq_some_iff.mp h; unfold l_roll_b0 at h
   have hc5 : decide (v6 < (p0.length : Int)) = true := decide_eq_true (by omega)
   refine WC.seq ?_
   refine WC.seq ?_
   refine WC.rs [(0, 2), (1, 2), (2, 2), (3, 2)] rfl ?_
   refine WO.pn 2 rfl ?_
   refine WO.k2 rfl rfl rfl rfl (rn_len Try.runUnderlying22 rfl rfl) ?_
   refine WO.pn 1 rfl ?_
   refine WO.fin ?_
   refine DN.seq ?_
   refine WC.ct' rfl hc5 ?_
   refine WC.skip ?_
   refine DN.seq ?_
   refine WC.seq ?_
   refine WC.block ?_
   refine WC.rx (κ := K13) [0, 2] (some 15) [(0, 2), (1, 2), (2, 2), (3, 2), (6, 2), (7, 2), (8, 2), (4, 0), (5, 2), (9, 0), (10, 2), (11, 2), (12, 2), (13, 2), (14, 2)] [(15, 1)] (by kernel_rfl) (by kernel_rfl) fun w18 S17 => ?_
   refine WO.pn 2 rfl ?_
   refine WO.k2 rfl rfl rfl rfl (rn_nilCheck rfl rfl) ?_
   refine WO.k2 rfl rfl rfl rfl (rn_fieldAddr Try.runUnderlying86 rfl Try.sizeOf57 rfl rfl) ?_
   refine WO.pn 2 rfl ?_
   obtain ⟨x30, hx30, h⟩ := Option.bind_eq_some_iff.mp h
   refine WO.k2 rfl rfl rfl rfl (rn_index g0 hx30 Try.runUnderlying22 Try.sizeOf5 rfl rfl rfl rfl) ?_
   have f19 := f15.stp S17 rfl rfl
   refine WO.k0 rfl rfl rfl rfl (rn_ld Try.isAgg57 rfl rfl (hvC (f19.ld 2 rfl rfl) rfl)) ?_
   refine WO.pn 1 rfl ?_
   have f20 := g0.stp (S3.tr (S14.tr S17)) rfl rfl
   refine WO.k0 rfl rfl rfl rfl (rn_ld Try.isAgg5 rfl rfl (hvC (f20.gInt hx30) rfl)) ?_
   refine WO.k2 rfl rfl rfl rfl (rn_conv Try.runUnderlying5 Try.runUnderlying57 rfl rfl) ?_
   refine WO.pn 2 rfl ?_
   refine WO.k2 rfl rfl rfl rfl (rn_nilCheck rfl rfl) ?_
   refine WO.k2 rfl rfl rfl rfl (rn_fieldAddr Try.runUnderlying86 rfl Try.sizeOf57 rfl rfl) ?_
   refine WO.nx ?_
   refine WO.stB (κ := K13) 2 (off := 2) (vc := [.int .u64 (IntKind.u64.wrap ((IntKind.u64.wrap ((IntKind.u64.wrap (s1 * 1099511628211)) + (IntKind.u64.wrap x30))) + 3))]) (cs' := [.slice a0 p0.length u0, .int .i64 0, .int .u64 (IntKind.u64.wrap ((IntKind.u64.wrap ((IntKind.u64.wrap (s1 * 1099511628211)) + (IntKind.u64.wrap x30))) + 3))]) rfl rfl rfl rfl rfl rfl rfl Try.sizeOf57 rfl rfl f19 rfl rfl fun w21 S22 f23 => ⟨trivial, ?_⟩
   refine WO.fin ?_
   refine DN.block ?_
   refine DN.seq ?_
   refine WC.rs [(0, 2), (1, 2), (2, 2)] rfl ?_
   refine WO.pn 3 rfl ?_
   refine WO.fin ?_
   have hw5 : IntKind.wrap .i64 (v6 + 1) = v6 + 1 := wr1 hj5 (of_decide_eq_true hc5) hN5
   rw [hw5]
   have hc5 := of_decide_eq_true hc5
   obtain rfl := Option.some.inj h
   refine DN.round fun a ha => ?_
   exact ⟨k, _, Nat.lt_succ_self _, ⟨K13, v6 + 1, ((IntKind.u64.wrap ((IntKind.u64.wrap ((IntKind.u64.wrap (s1 * 1099511628211)) + (IntKind.u64.wrap x30))) + 3)) : Int), rfl, (S14.tr (S17.tr S22)).wk rfl, f23, by omega, by omega, hk16⟩, (ha.more (ha.more (ha.more ha.nil rfl) rfl) rfl)⟩
 rintro _ w8 ⟨K9, s3, rfl, S10, f11, rfl⟩
 have h := hK6
 dsimp only [aft] at h
 refine DN.seq ?_
 refine WC.seq ?_
 refine WC.rs [(0, 2), (1, 2)] rfl ?_
 refine WO.pn 2 rfl ?_
 refine WO.fin ?_
 refine DN.seq ?_
 refine WC.ret ?_
 have f24 := hE.stp (S3.tr S10) rfl rfl
 have f25 := g0.stp (S3.tr S10) rfl rfl
 refine DN.res (l := [.tmp 4]) Try.results26 (res_tmp rfl rfl) rfl ?_
 obtain rfl := Option.some.inj h
 exact ⟨(fun b => ren [(2, 3)] (K9 b)), a0, u0, b15, rfl, (f24.map (ren [(2, 3)]) rfl rfl), (f25.map (ren [(2, 3)]) rfl rfl), (f11.map (ren [(2, 3)]) rfl rfl)⟩

/- (*loop.example/g00869/laws.dice).below -/
theorem l_dice_below_ok {w : World} {κ : Col} {a0_0 : Option Addr} {u0_0 : Nat} {p0 : dice} {p1 : Int} {b0 : Nat} (g0_0 : Rd (Rp.int .u8) κ w 0 a0_0 u0_0 p0.b) (gb0 : Bc κ w 2 b0 86 [.slice a0_0 p0.b.length u0_0, .int .i64 p0.i, .int .u64 p0.h]) {r : Int × Int × Int} (h : l_dice_below p0 p1 = some r) : Ret Try.prog 27 [.pointer (some ⟨b0, 0, none⟩), .int .i64 p1] w (fun v w' => ∃ (κ' : Col), v = .int .i64 r.1 ∧ Ent κ w κ' w' ∧ Bc κ' w' 2 b0 86 [.slice a0_0 p0.b.length u0_0, .int .i64 r.2.1, .int .u64 r.2.2]) := by
 unfold l_dice_below at h
 refine Ret.enter Try.func27 rfl Try.ntmps27 rfl ?_
 dsimp only [envOf]
 have hE := Ent.refl κ w
 refine WC.seq ?_
 refine WC.rs [(0, 2)] rfl ?_
 refine WO.pn 1 rfl ?_
 refine WO.fin ?_
 refine DN.seq ?_
 refine WC.seq ?_
 refine WC.rs [(0, 2), (1, 2), (2, 2), (3, 2), (4, 1), (5, 2), (6, 2), (7, 2), (8, 2), (9, 1)] rfl ?_
 refine WO.pn 2 rfl ?_
 refine WO.k2 rfl rfl rfl rfl (rn_nilCheck rfl rfl) ?_
 refine WO.k2 rfl rfl rfl rfl (rn_fieldAddr Try.runUnderlying86 rfl Try.sizeOf57 rfl rfl) ?_
 refine WO.k1 trivial rfl rfl rfl rfl (rn_ld Try.isAgg57 rfl rfl (hvE (gb0.ld 2 rfl rfl))) ?_
 refine WO.pn 2 rfl ?_
 refine WO.k2 rfl rfl rfl rfl (rn_nilCheck rfl rfl) ?_
 refine WO.k2 rfl rfl rfl rfl (rn_fieldAddr Try.runUnderlying86 rfl Try.sizeOf57 rfl rfl) ?_
 refine WO.stB (κ := κ) 2 (off := 2) (vc := [.int .u64 (IntKind.u64.wrap ((IntKind.u64.wrap (p0.h * 6364136223846793005)) + 1442695040888963407))]) (cs' := [.slice a0_0 p0.b.length u0_0, .int .i64 p0.i, .int .u64 (IntKind.u64.wrap ((IntKind.u64.wrap (p0.h * 6364136223846793005)) + 1442695040888963407))]) rfl rfl rfl rfl rfl rfl rfl Try.sizeOf57 rfl rfl gb0 rfl rfl fun w1 S2 f3 => ⟨trivial, ?_⟩
 refine WO.fin ?_
 refine DN.seq ?_
 refine WC.seq ?_
 refine WC.rs [(0, 2), (1, 2), (2, 2), (3, 1), (4, 2), (5, 2), (6, 2), (7, 2)] rfl ?_
 refine WO.pn 1 rfl ?_
 refine WO.k2 rfl rfl rfl rfl (rn_nilCheck rfl rfl) ?_
 refine WO.k2 rfl rfl rfl rfl (rn_fieldAddr Try.runUnderlying86 rfl Try.sizeOf57 rfl rfl) ?_
 refine WO.k1 trivial rfl rfl rfl rfl (rn_ld Try.isAgg57 rfl rfl (hvE (f3.ld 2 rfl rfl))) ?_
 refine WO.k2 rfl rfl rfl rfl (rn_shr rfl rfl rfl (by decide)) ?_
 refine WO.pn 1 rfl ?_
 refine WO.k2 rfl rfl rfl rfl (rn_conv Try.runUnderlying57 Try.runUnderlying2 rfl rfl) ?_
 refine WO.pn 1 rfl ?_
 refine WO.fin ?_
 refine DN.seq ?_
 refine WC.seq ?_
 refine WC.seq ?_
 refine WC.rx (κ := κ) [2] none [(0, 2), (1, 2), (2, 2), (4, 2), (5, 2), (6, 2), (3, 0), (7, 0), (8, 2), (9, 2)] [] (by kernel_rfl) (by kernel_rfl) fun w5 S4 => ?_
 refine WO.pn 1 rfl ?_
 refine WO.k2 rfl rfl rfl rfl (rn_nilCheck rfl rfl) ?_
 refine WO.k2 rfl rfl rfl rfl (rn_fieldAddr Try.runUnderlying86 rfl Try.sizeOf3 rfl rfl) ?_
 refine WO.pn 1 rfl ?_
 refine WO.k2 rfl rfl rfl rfl (rn_nilCheck rfl rfl) ?_
 refine WO.k2 rfl rfl rfl rfl (rn_fieldAddr Try.runUnderlying86 rfl Try.sizeOf22 rfl rfl) ?_
 have f6 := f3.stp S4 rfl rfl
 refine WO.k0 rfl rfl rfl rfl (rn_ld Try.isAgg3 rfl rfl (hvC (f6.ld 1 rfl rfl) rfl)) ?_
 refine WO.k0 rfl rfl rfl rfl (rn_ld Try.isAgg22 rfl rfl (hvC (f6.ld 0 rfl rfl) rfl)) ?_
 refine WO.k2 rfl rfl rfl rfl (rn_len Try.runUnderlying22 rfl rfl) ?_
 refine WO.pn 1 rfl ?_
 refine WO.nx ?_
 refine WO.fin ?_
 refine DN.seq ?_
 obtain ⟨q1, h, hK7⟩ := Option.bind_eq_some_iff.mp h
 refine WC.meet (fun L w' => ∃ (κ' : Col), L = [(0, .pointer (some ⟨b0, 0, none⟩)), (1, .int .i64 p1), (5, .int .i64 q1.1)] ∧ Stp [2] κ w5 κ' w' ∧ Bc κ' w' 2 b0 86 [.slice a0_0 p0.b.length u0_0, .int .i64 q1.2, .int .u64 (IntKind.u64.wrap ((IntKind.u64.wrap (p0.h * 6364136223846793005)) + 1442695040888963407))]) ?_ ?_
 ·
  revert h
  cases ht12 : decide (p0.i < (p0.b.length : Int)) with
  | true =>
   intro h; replace h := cT h
   refine WC.ct rfl ?_
   refine WC.seq ?_
   refine WC.rx (κ := κ) [0, 2] none [(0, 2), (1, 2), (2, 2), (3, 2), (5, 2), (6, 2), (7, 2), (4, 0), (8, 0), (9, 2), (10, 0), (11, 2), (12, 2), (13, 2)] [] (by kernel_rfl) (by kernel_rfl) fun w14 S13 => ?_
   refine WO.pn 2 rfl ?_
   refine WO.k2 rfl rfl rfl rfl (rn_nilCheck rfl rfl) ?_
   refine WO.k2 rfl rfl rfl rfl (rn_fieldAddr Try.runUnderlying86 rfl Try.sizeOf22 rfl rfl) ?_
   refine WO.pn 1 rfl ?_
   refine WO.k2 rfl rfl rfl rfl (rn_nilCheck rfl rfl) ?_
   refine WO.k2 rfl rfl rfl rfl (rn_fieldAddr Try.runUnderlying86 rfl Try.sizeOf3 rfl rfl) ?_
   have f15 := f6.stp S13 rfl rfl
   refine WO.k0 rfl rfl rfl rfl (rn_ld Try.isAgg22 rfl rfl (hvC (f15.ld 0 rfl rfl) rfl)) ?_
   refine WO.k0 rfl rfl rfl rfl (rn_ld Try.isAgg3 rfl rfl (hvC (f15.ld 1 rfl rfl) rfl)) ?_
   obtain ⟨x41, hx41, h⟩ := Option.bind_eq_some_iff.mp h
   refine WO.k2 rfl rfl rfl rfl (rn_index g0_0 hx41 Try.runUnderlying22 Try.sizeOf5 rfl rfl rfl rfl) ?_
   have f16 := g0_0.stp (S2.tr (S4.tr S13)) rfl rfl
   refine WO.k0 rfl rfl rfl rfl (rn_ld Try.isAgg5 rfl rfl (hvC (f16.gInt hx41) rfl)) ?_
   refine WO.k2 rfl rfl rfl rfl (rn_conv Try.runUnderlying5 Try.runUnderlying2 rfl rfl) ?_
   refine WO.pn 2 rfl ?_
   refine WO.nx ?_
   refine WO.fin ?_
   refine DN.seq ?_
   refine WC.rs [(0, 2), (1, 2), (2, 2), (3, 2), (4, 1), (5, 2), (6, 2), (7, 2), (8, 1)] rfl ?_
   refine WO.pn 2 rfl ?_
   refine WO.k2 rfl rfl rfl rfl (rn_nilCheck rfl rfl) ?_
   refine WO.k2 rfl rfl rfl rfl (rn_fieldAddr Try.runUnderlying86 rfl Try.sizeOf3 rfl rfl) ?_
   refine WO.k1 trivial rfl rfl rfl rfl (rn_ld Try.isAgg3 rfl rfl (hvE (f15.ld 1 rfl rfl))) ?_
   refine WO.pn 1 rfl ?_
   refine WO.k2 rfl rfl rfl rfl (rn_nilCheck rfl rfl) ?_
   refine WO.k2 rfl rfl rfl rfl (rn_fieldAddr Try.runUnderlying86 rfl Try.sizeOf3 rfl rfl) ?_
   refine WO.stB (κ := κ) 2 (off := 1) (vc := [.int .i64 (IntKind.i64.wrap (p0.i + 1))]) (cs' := [.slice a0_0 p0.b.length u0_0, .int .i64 (IntKind.i64.wrap (p0.i + 1)), .int .u64 (IntKind.u64.wrap ((IntKind.u64.wrap (p0.h * 6364136223846793005)) + 1442695040888963407))]) rfl rfl rfl rfl rfl rfl rfl Try.sizeOf3 rfl rfl f15 rfl rfl fun w17 S18 f19 => ⟨trivial, ?_⟩
   refine WO.fin ?_
   obtain rfl := Option.some.inj h
   exact DN.meet _ ⟨κ, rfl, (S13.tr S18).wk rfl, f19⟩ fun a ha => (ha.more (ha.more (ha.more ha.nil rfl) rfl) rfl)
  | false =>
   intro h; replace h := cF h
   refine WC.cf rfl ?_
   refine WC.skip ?_
   obtain rfl := Option.some.inj h
   exact DN.meet _ ⟨κ, rfl, (Stp.refl _ _).wk rfl, f6⟩ fun a ha => (ha.more (ha.more (ha.more ha.nil rfl) rfl) rfl)
 rintro _ w8 ⟨K9, rfl, S10, f11⟩
 have h := hK7
 refine DN.seq ?_
 refine WC.seq ?_
 refine WC.rs [(0, 2), (1, 2), (2, 2), (3, 2)] rfl ?_
 refine WO.pn 2 rfl ?_
 obtain ⟨_z55, hz55, h⟩ := Option.bind_eq_some_iff.mp h
 refine WO.k2 rfl rfl rfl rfl (rn_rem rfl rfl rfl (nz_ok hz55)) ?_
 refine WO.pn 1 rfl ?_
 refine WO.fin ?_
 refine DN.seq ?_
 refine WC.ret ?_
 have f20 := hE.stp (S2.tr (S4.tr S10)) rfl rfl
 refine DN.res (l := [.tmp 4]) Try.results27 (res_tmp rfl rfl) rfl ?_
 obtain rfl := Option.some.inj h
 exact ⟨K9, rfl, f20, f11⟩

/- loop.example/g00869/spec.l1Max -/
theorem s_l1Max_ok {w : World} {κ : Col} {p0 : Int} {p1 : Int}  {r : Int} (h : s_l1Max p0 p1 = some r) : Ret Try.prog 37 [.int .i64 p0, .int .i64 p1] w (fun v w' => ∃ (κ' : Col), v = .int .i64 r ∧ Ent κ w κ' w') := by
 unfold s_l1Max at h
 refine Ret.enter Try.func37 rfl Try.ntmps37 rfl ?_
 dsimp only [envOf]
 have hE := Ent.refl κ w
 refine WC.seq ?_
 refine WC.rs [(0, 2)] rfl ?_
 refine WO.pn 1 rfl ?_
 refine WO.fin ?_
 refine DN.seq ?_
 refine WC.seq ?_
 refine WC.seq ?_
 refine WC.rs [(0, 2), (1, 2), (2, 2)] rfl ?_
 refine WO.pn 3 rfl ?_
 refine WO.fin ?_
 refine DN.seq ?_
 revert h
 cases ht1 : decide (p1 < p0) with
 | true =>
  intro h; replace h := cT h
  refine WC.ct rfl ?_
  refine WC.seq ?_
  refine WC.rs [(0, 2), (1, 2)] rfl ?_
  refine WO.pn 2 rfl ?_
  refine WO.fin ?_
  refine DN.seq ?_
  refine WC.ret ?_
  refine DN.retThen ?_
  refine DN.res (l := [.tmp 4]) Try.results37 (res_tmp rfl rfl) rfl ?_
  obtain rfl := Option.some.inj h
  exact ⟨κ, rfl, hE⟩
 | false =>
  intro h; replace h := cF h
  refine WC.cf rfl ?_
  refine WC.skip ?_
  refine DN.seq ?_
  refine WC.seq ?_
  refine WC.rs [(0, 2), (1, 2)] rfl ?_
  refine WO.pn 2 rfl ?_
  refine WO.fin ?_
  refine DN.seq ?_
  refine WC.ret ?_
  refine DN.res (l := [.tmp 4]) Try.results37 (res_tmp rfl rfl) rfl ?_
  obtain rfl := Option.some.inj h
  exact ⟨κ, rfl, hE⟩

/- loop.example/g00869/spec.l31Turn -/
theorem s_l31Turn_ok {w : World} {κ : Col} {p0 : Int}  {r : Int} (h : s_l31Turn p0 = some r) : Ret Try.prog 73 [.int .i64 p0] w (fun v w' => ∃ (κ' : Col), v = .int .i64 r ∧ Ent κ w κ' w') := by
 unfold s_l31Turn at h
 refine Ret.enter Try.func73 rfl Try.ntmps73 rfl ?_
 dsimp only [envOf]
 have hE := Ent.refl κ w
 refine WC.seq ?_
 refine WC.rs [(0, 2)] rfl ?_
 refine WO.pn 1 rfl ?_
 refine WO.fin ?_
 refine DN.seq ?_
 refine WC.seq ?_
 refine WC.seq ?_
 refine WC.rs [(0, 2), (1, 2), (2, 2)] rfl ?_
 refine WO.pn 1 rfl ?_
 refine WO.k2 rfl rfl rfl rfl (rn_rem rfl rfl rfl (by decide)) ?_
 refine WO.pn 1 rfl ?_
 refine WO.fin ?_
 refine DN.seq ?_
 revert h
 cases ht1 : ((Int.tmod p0 2) == 1) with
 | true =>
  intro h; replace h := cT h
  refine WC.ct rfl ?_
  refine WC.seq ?_
  refine WC.rs [(0, 2), (1, 2), (2, 2)] rfl ?_
  refine WO.pn 3 rfl ?_
  refine WO.fin ?_
  refine DN.seq ?_
  refine WC.ret ?_
  refine DN.retThen ?_
  refine DN.res (l := [.tmp 2]) Try.results73 (res_tmp rfl rfl) rfl ?_
  obtain rfl := Option.some.inj h
  exact ⟨κ, rfl, hE⟩
 | false =>
  intro h; replace h := cF h
  refine WC.cf rfl ?_
  refine WC.skip ?_
  refine DN.seq ?_
  refine WC.seq ?_
  refine WC.rs [(0, 2), (1, 2), (2, 2)] rfl ?_
  refine WO.pn 3 rfl ?_
  refine WO.fin ?_
  refine DN.seq ?_
  refine WC.ret ?_
  refine DN.res (l := [.tmp 2]) Try.results73 (res_tmp rfl rfl) rfl ?_
  obtain rfl := Option.some.inj h
  exact ⟨κ, rfl, hE⟩

end Go.Proofs.Ythjkonkcdfdfaaa
