/- The place of a number, by the library. -/
import Derived.Test.YtnmjfjppgpkieaaLassoK
set_option linter.unusedVariables false
set_option linter.unusedSimpArgs false
namespace Go.Proofs.Ytnmjfjppgpkieaa
open Go Go.Wk Go.Proofs
theorem index_place (xs : List Int) (v : Int) : slices_Index_I_int64 xs v = some (placeOf xs v) := slices_Index_I_int64_eq xs v
end Go.Proofs.Ytnmjfjppgpkieaa
