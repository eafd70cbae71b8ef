/- Leaving out equal neighbours of an own slice of numbers: the kit's contract in this frame. -/
import Derived.Test.YtleekpaohfpooaaGreatSortFW
import Derived.Lib.SlicesCompact
import Derived.Lib.RowBridge
set_option linter.unusedVariables false
set_option linter.unusedSimpArgs false
namespace Go.Wk
open Go
variable {κ:Col}{w:World}
end Go.Wk
