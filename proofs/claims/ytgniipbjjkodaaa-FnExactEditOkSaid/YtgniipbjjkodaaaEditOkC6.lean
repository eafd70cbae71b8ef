/- EditOk: the law. -/
import Derived.Test.YtgniipbjjkodaaaEditC6
set_option linter.unusedVariables false
set_option linter.unusedSimpArgs false
namespace Go.Proofs.Ytgniipbjjkodaaa
open Go Go.Wk Go.Proofs
theorem i_EditOk_eq (g : Parity) (e : Edit) : i_EditOk g e = some (parityOk g && editOk g e) := by
  unfold i_EditOk
  rw [i_ParityOk_eq, Option.bind_some]
  cases hp : parityOk g with
  | false => rfl
  | true => rw [i_isEdit_eq hp]; rfl
theorem FnExactEditOk_law {p0 : Parity} (ok0 : Parity.ok p0) {p1 : Edit} (ok1 : Edit.ok p1) : l_FnExactEditOk p0 p1 = some true :=
  FnExactEditOk_of ok0 ok1 fun _ => ⟨_, s_EditOk_eq p0 p1, i_EditOk_eq p0 p1⟩
end Go.Proofs.Ytgniipbjjkodaaa
