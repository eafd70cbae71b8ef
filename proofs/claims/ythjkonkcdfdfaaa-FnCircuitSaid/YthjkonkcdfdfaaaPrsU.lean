/- Rows of pairs as numbers. -/
import Derived.Test.YthjkonkcdfdfaaaPairU
set_option linter.unusedVariables false
set_option linter.unusedSimpArgs false
namespace Go.Proofs.Ythjkonkcdfdfaaa
open Go Go.Wk Go.Proofs

def prs (n : Int) (T : List Int) : List (Int × Int) := T.map fun x => (dq n x, ds n x)
theorem contains_prs (n : Int) (T : List Int) (y : Int) : slices_Contains_2_int64_2_int64 (prs n T) (dq n y, ds n y) = some (decide (y ∈ T)) := by
  unfold slices_Contains_2_int64_2_int64 slices_Index_2_int64_2_int64
  rw [show (prs n T).length = T.length from by simp [prs], cnt_find0 (f := slices_Index_2_int64_2_int64_b0 (prs n T) (dq n y, ds n y)) (fun x => y == x) (fun i => (i : Int)) (xs := T) (fun i x hx => by
    unfold slices_Index_2_int64_2_int64_b0 prs
    rw [idx_nat, List.getElem?_map, hx]
    simp only [Option.map_some, Option.bind_some, d_eq]
    rw [show (x == y) = (y == x) from Bool.eq_iff_iff.2 (by simp only [beq_iff_eq]; exact ⟨Eq.symm, Eq.symm⟩)]
    cases y == x <;> rfl), Option.bind_some]
  rw [← any_mem, ← findIdx_any]
  cases T.findIdx? (fun x => y == x) <;> rfl
end Go.Proofs.Ythjkonkcdfdfaaa
