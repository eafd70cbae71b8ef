/- Drawn numbers: a draw comes to an end. -/
import Derived.Test.YtnpmbkaoeihdmaaDoorSimF
import Derived.Test.YtnpmbkaoeihdmaaDoorLwF
set_option linter.unusedVariables false
set_option linter.unusedSimpArgs false
namespace Go.Proofs.YtnpmbkaoeihdmaaDoor
open Go Go.Wk Go.Proofs

/-- where a draw may stand -/
def Cur (i : Int) : Prop := 0 ≤ i ∧ i ≤ 4096
theorem and255 (A : BitVec (IntKind.bits IntKind.i64)) : 0 ≤ IntKind.i64.wrap ((A &&& BitVec.ofInt (IntKind.bits IntKind.i64) 255).toNat : Int) ∧ IntKind.i64.wrap ((A &&& BitVec.ofInt (IntKind.bits IntKind.i64) 255).toNat : Int) ≤ 255 := by
  have h : (A &&& BitVec.ofInt (IntKind.bits IntKind.i64) 255).toNat ≤ 255 := by
    rw [BitVec.toNat_and, toNat_ofInt64 (by omega) (by omega)]
    exact Nat.and_le_right
  rw [wr' (by omega) (by omega)]
  omega
section
variable {b : List Int} (hl : b.length ≤ 4096)
include hl
theorem byte_d {i h : Int} (hi : Cur i) : ∃ x i' h', s_l1Byte ⟨b, i, h⟩ = some (x, i', h') ∧ 0 ≤ x ∧ x ≤ 255 ∧ Cur i' := by
  obtain ⟨i0, i1⟩ := hi
  unfold s_l1Byte
  dsimp only
  by_cases hlt : i < (b.length : Int)
  · obtain ⟨y, hy, _⟩ := get_el (xs := b) i0 hlt
    simp only [hlt, decide_true, cond_true, hy, Option.bind_some]
    refine ⟨_, _, _, rfl, (and255 _).1, (and255 _).2, ?_⟩
    show Cur (IntKind.i64.wrap (i + 1))
    rw [wr' (by omega) (by omega)]; unfold Cur; omega
  · simp only [hlt, decide_false, cond_false, Option.bind_some]
    exact ⟨_, _, _, rfl, (and255 _).1, (and255 _).2, i0, i1⟩
theorem below_d {i h : Int} (hi : Cur i) (k : Int) : ∃ x i' h', s_l1Below ⟨b, i, h⟩ k = some (x, i', h') ∧ 0 ≤ x ∧ (1 ≤ k → x < k) ∧ Cur i' := by
  unfold s_l1Below
  by_cases hk : k ≤ 0
  · simp only [hk, decide_true, cond_true]
    exact ⟨_, _, _, rfl, Int.le_refl _, fun h => by omega, hi⟩
  · simp only [hk, decide_false, cond_false]
    have hnz : nz k = some () := by unfold nz; rw [if_neg (by omega)]
    obtain ⟨x1, i1, h1, e1, a0, a1, c1⟩ := byte_d hl (h := h) hi
    by_cases hk2 : k ≤ 256
    · simp only [hk2, decide_true, cond_true, e1, Option.bind_some, hnz]
      rw [Int.tmod_eq_emod_of_nonneg a0]
      exact ⟨_, _, _, rfl, Int.emod_nonneg _ (by omega), fun _ => Int.emod_lt_of_pos _ (by omega), c1⟩
    · simp only [hk2, decide_false, cond_false, e1, Option.bind_some, hnz]
      obtain ⟨x2, i2, h2, e2, b0, b1, c2⟩ := byte_d hl (h := h1) c1
      obtain ⟨x3, i3, h3, e3, d0, d1, c3⟩ := byte_d hl (h := h2) c2
      obtain ⟨x4, i4, h4, e4, f0, f1, c4⟩ := byte_d hl (h := h3) c3
      simp only [e2, e3, e4, Option.bind_some]
      rw [wr' (z := x1 * 16777216) (by omega) (by omega), wr' (z := x2 * 65536) (by omega) (by omega), wr' (z := x3 * 256) (by omega) (by omega), wr' (z := x1 * 16777216 + x2 * 65536) (by omega) (by omega), wr' (z := x1 * 16777216 + x2 * 65536 + x3 * 256) (by omega) (by omega), wr' (by omega) (by omega), Int.tmod_eq_emod_of_nonneg (by omega)]
      exact ⟨_, _, _, rfl, Int.emod_nonneg _ (by omega), fun _ => Int.emod_lt_of_pos _ (by omega), c4⟩
theorem once_d {i h : Int} (hi : Cur i) (k : Int) : ∃ x i' h', s_l1Once ⟨b, i, h⟩ k = some (x, i', h') ∧ Cur i' := by
  obtain ⟨x, i', h', e, _, _, c⟩ := below_d hl (h := h) hi k
  unfold s_l1Once
  rw [e]
  exact ⟨_, _, _, rfl, c⟩
theorem odd_d {i h : Int} (hi : Cur i) : ∃ x i' h', s_l1Odd ⟨b, i, h⟩ = some (x, i', h') ∧ Cur i' := by
  obtain ⟨x, i', h', e, x0, x1, c⟩ := below_d hl (h := h) hi 10
  unfold s_l1Odd
  rw [e, Option.bind_some]
  have x1 := x1 (by omega)
  obtain ⟨y, hy, _⟩ := get_el (xs := ([(-1), 0, 1, 2147483648, (-2147483648), 1099511627776, 4611686018427387904, (-4611686018427387904), 9223372036854775807, (-9223372036854775808)] : List Int)) x0 (by simp; omega)
  dsimp only
  rw [hy]
  exact ⟨_, _, _, rfl, c⟩
theorem num_d {i h : Int} (hi : Cur i) (k : Int) : ∃ x i' h', s_l1Num ⟨b, i, h⟩ k = some (x, i', h') ∧ Cur i' := by
  obtain ⟨x1, i1, h1, e1, c1⟩ := once_d hl (h := h) hi 10
  unfold s_l1Num
  rw [e1, Option.bind_some]
  dsimp only
  cases x1 with
  | true =>
    obtain ⟨x2, i2, h2, e2, c2⟩ := odd_d hl (h := h1) c1
    obtain ⟨x3, i3, h3, e3, a0, a1, c3⟩ := below_d hl (h := h2) c2 4
    have a1 := a1 (by omega)
    obtain ⟨y, hy, _⟩ := get_el (xs := ([(-1), k, (IntKind.i64.wrap (k + 1)), x2] : List Int)) a0 (by simp; omega)
    simp only [cond_true, e2, e3, hy, Option.bind_some]
    exact ⟨_, _, _, rfl, c3⟩
  | false =>
    obtain ⟨x2, i2, h2, e2, c2⟩ := once_d hl (h := h1) c1 2
    simp only [cond_false, e2, Option.bind_some]
    cases x2 with
    | true =>
      have hm : ∃ z, s_l1Min k 4 = some z := by
        unfold s_l1Min
        by_cases h : k < 4 <;> simp [h]
      obtain ⟨z, hz⟩ := hm
      obtain ⟨x3, i3, h3, e3, _, _, c3⟩ := below_d hl (h := h2) c2 (IntKind.i64.wrap (z + 1))
      simp only [cond_true, hz, e3, Option.bind_some]
      exact ⟨_, _, _, rfl, c3⟩
    | false =>
      obtain ⟨x3, i3, h3, e3, _, _, c3⟩ := below_d hl (h := h2) c2 (IntKind.i64.wrap (k + 1))
      simp only [cond_false, e3, Option.bind_some]
      exact ⟨_, _, _, rfl, c3⟩
end
end Go.Proofs.YtnpmbkaoeihdmaaDoor
