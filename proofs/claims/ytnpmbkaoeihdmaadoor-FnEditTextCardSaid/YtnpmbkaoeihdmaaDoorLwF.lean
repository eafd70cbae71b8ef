/- The structs opened; the sizes, the copies, the comparisons: plain laws. By program. -/
import Derived.Test.YtnpmbkaoeihdmaaDoorFnsFM
import Derived.Test.YtnpmbkaoeihdmaaDoorLaw
set_option linter.unusedVariables false
set_option linter.unusedSimpArgs false
namespace Go.Proofs.YtnpmbkaoeihdmaaDoor
open Go Go.Wk Go.Proofs
set_option maxRecDepth 100000





end Go.Proofs.YtnpmbkaoeihdmaaDoor
