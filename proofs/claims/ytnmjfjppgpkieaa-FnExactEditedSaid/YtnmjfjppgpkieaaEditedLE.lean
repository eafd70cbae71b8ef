/- Edited: the law. -/
import Derived.Test.YtnmjfjppgpkieaaEditedE
set_option linter.unusedVariables false
set_option linter.unusedSimpArgs false
namespace Go.Proofs.Ytnmjfjppgpkieaa
open Go Go.Wk Go.Proofs
theorem FnExactEdited_law {p0 : Parity} (ok0 : Parity.ok p0) {p1 : Edit} (ok1 : Edit.ok p1) : l_FnExactEdited p0 p1 = some true :=
  FnExactEdited_of ok0 ok1 fun _ => by
    obtain ⟨r, b, h1, h2, h3⟩ := Edited_same p0 p1
    refine ⟨r, b, h1, h2, ?_⟩
    rcases h3 with rfl | h3
    · exact ⟨by decide, by decide, by decide⟩
    · exact parity_ct h3
end Go.Proofs.Ytnmjfjppgpkieaa
