/- EditText: the law. -/
import Derived.Test.YtnpmbkaoeihdmaaDoorETextE
set_option linter.unusedVariables false
set_option linter.unusedSimpArgs false
namespace Go.Proofs.YtnpmbkaoeihdmaaDoor
open Go Go.Wk Go.Proofs

theorem FnExactEditText_law {p0 : Edit} (ok0 : Edit.ok p0) : l_FnExactEditText p0 = some true :=
  FnExactEditText_of ok0 ⟨_, s_EditText_eq p0, i_EditText_eq p0⟩
end Go.Proofs.YtnpmbkaoeihdmaaDoor
