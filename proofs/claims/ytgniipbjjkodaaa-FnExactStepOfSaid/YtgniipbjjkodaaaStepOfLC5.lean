/- StepOf: the law. -/
import Derived.Test.YtgniipbjjkodaaaStepOfC5
set_option linter.unusedVariables false
set_option linter.unusedSimpArgs false
namespace Go.Proofs.Ytgniipbjjkodaaa
open Go Go.Wk Go.Proofs
theorem FnExactStepOf_law {p0 : Circuit} (ok0 : Circuit.ok p0) {p1 : Int} (ok1 : I64 p1) {p2 : Int} (ok2 : I64 p2) : l_FnExactStepOf p0 p1 p2 = some true :=
  FnExactStepOf_of ok0 ok1 ok2 fun _ => StepOf_same p0 p1 p2
end Go.Proofs.Ytgniipbjjkodaaa
