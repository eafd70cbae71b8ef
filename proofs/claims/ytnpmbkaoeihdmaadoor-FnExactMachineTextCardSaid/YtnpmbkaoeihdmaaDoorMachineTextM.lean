/- MachineText: the law. -/
import Derived.Test.YtnpmbkaoeihdmaaDoorMTextM
set_option linter.unusedVariables false
set_option linter.unusedSimpArgs false
namespace Go.Proofs.YtnpmbkaoeihdmaaDoor
open Go Go.Wk Go.Proofs

theorem FnExactMachineText_law {p0 : Sig} (ok0 : Sig.ok p0) {p1 : Machine} (ok1 : Machine.ok p1) : l_FnExactMachineText p0 p1 = some true :=
  FnExactMachineText_of ok0 ok1 fun _ => by
    obtain ⟨r, h1, h2, _⟩ := MachineText_eq p0 p1
    exact ⟨r, h1, h2⟩
end Go.Proofs.YtnpmbkaoeihdmaaDoor
