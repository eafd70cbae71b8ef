/- The place of a number, by the reference. -/
import Derived.Test.YtnmjfjppgpkieaaLassoK
set_option linter.unusedVariables false
set_option linter.unusedSimpArgs false
namespace Go.Proofs.Ytnmjfjppgpkieaa
open Go Go.Wk Go.Proofs
theorem s_l1Place_eq (xs : List Int) (v : Int) : s_l1Place xs v = some (placeOf xs v) := by
  unfold s_l1Place placeOf
  rw [cnt_find0 (f := s_l1Place_b0 xs v) (fun x => v == x) (fun i => (i : Int)) (xs := xs) (fun i x hx => by
    unfold s_l1Place_b0
    rw [idx_nat, hx, Option.bind_some, show (x == v) = (v == x) from BEq.comm]
    cases v == x <;> rfl), Option.bind_some]
  cases xs.findIdx? (fun x => v == x) <;> rfl
end Go.Proofs.Ytnmjfjppgpkieaa
