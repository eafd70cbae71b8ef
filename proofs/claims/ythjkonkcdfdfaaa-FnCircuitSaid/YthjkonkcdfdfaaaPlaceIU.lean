/- The place of a number, by the library. -/
import Derived.Test.YthjkonkcdfdfaaaLassoU
set_option linter.unusedVariables false
set_option linter.unusedSimpArgs false
namespace Go.Proofs.Ythjkonkcdfdfaaa
open Go Go.Wk Go.Proofs
theorem index_place (xs : List Int) (v : Int) : slices_Index_I_int64 xs v = some (placeOf xs v) := slices_Index_I_int64_eq xs v
end Go.Proofs.Ythjkonkcdfdfaaa
