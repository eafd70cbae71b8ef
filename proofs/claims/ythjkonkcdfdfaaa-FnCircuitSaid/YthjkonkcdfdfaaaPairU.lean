/- Pairs as one number. -/
import Derived.Test.YthjkonkcdfdfaaaLassoU
set_option linter.unusedVariables false
set_option linter.unusedSimpArgs false
namespace Go.Proofs.Ythjkonkcdfdfaaa
open Go Go.Wk Go.Proofs

/-- a pair of states as one number -/
def dq (n z : Int) : Int := z / n
def ds (n z : Int) : Int := z % n
theorem d_in {n m z : Int} (hn : 1 ≤ n) (z0 : 0 ≤ z) (z1 : z < m * n) : 0 ≤ dq n z ∧ dq n z < m ∧ 0 ≤ ds n z ∧ ds n z < n :=
  ⟨Int.ediv_nonneg z0 (by omega), Int.ediv_lt_of_lt_mul (by omega) z1, Int.emod_nonneg _ (by omega), Int.emod_lt_of_pos _ (by omega)⟩
theorem d_inj {n x y : Int} (h1 : dq n x = dq n y) (h2 : ds n x = ds n y) : x = y := by
  have e1 := Int.mul_ediv_add_emod x n
  have e2 := Int.mul_ediv_add_emod y n
  unfold dq at h1
  unfold ds at h2
  rw [← e1, ← e2, h1, h2]
theorem d_code {n q s : Int} (hn : 1 ≤ n) (s0 : 0 ≤ s) (s1 : s < n) : dq n (q * n + s) = q ∧ ds n (q * n + s) = s := by
  unfold dq ds
  constructor
  · rw [Int.add_comm, Int.add_mul_ediv_right _ _ (by omega), Int.ediv_eq_zero_of_lt s0 s1]; omega
  · rw [Int.add_comm, Int.add_mul_emod_self_right, Int.emod_eq_of_lt s0 s1]
theorem d_eq {n x z : Int} : ((dq n x == dq n z) && (ds n x == ds n z)) = (z == x) := by
  rw [Bool.eq_iff_iff]
  simp only [Bool.and_eq_true, beq_iff_eq]
  exact ⟨fun h => (d_inj h.1 h.2).symm, fun h => by rw [h]; exact ⟨rfl, rfl⟩⟩
end Go.Proofs.Ythjkonkcdfdfaaa
