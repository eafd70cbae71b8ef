/- Closed facts of the program and its row. By program. -/
import Derived.Test.YtldlmopdhmaceaaGreatDoorRows
import Derived.WalkKit
import Derived.ProofKit
import Derived.JoinedOf
import Derived.SevenTiedAt
set_option linter.unusedVariables false
set_option linter.unusedSimpArgs false
namespace Go.Proofs.YtldlmopdhmaceaaGreatDoor.FnBenchEitherCardSaidDone
open Go Go.Proofs
set_option maxRecDepth 100000 in
theorem jf1 : (laidOutB Tryz.pinned.checked.prog) = true := by kernel_rfl
set_option maxRecDepth 100000 in
theorem jf2 : (mapsRowed Tryz.pinned.checked.prog) = true := by kernel_rfl
set_option maxRecDepth 100000 in
theorem jf3 : (Rows.fnBenchEitherRow.inPlace == Tryz.pinned.checked.prog.inPlace 3) = true := by kernel_rfl
set_option maxRecDepth 100000 in
theorem jf4 : (Rows.fnBenchEitherRow.unfollowed == Tryz.pinned.checked.prog.unfollowed 3) = true := by kernel_rfl
set_option maxRecDepth 100000 in
theorem jf5 : (Rows.fnBenchEitherRow.recurses == Tryz.pinned.checked.prog.recurses 3) = true := by kernel_rfl
set_option maxRecDepth 100000 in
theorem jf6 : (Rows.fnBenchEitherRow.named == Tryz.pinned.checked.prog.varsNamed 3) = true := by kernel_rfl
set_option maxRecDepth 100000 in
theorem jf7 : (Rows.fnBenchEitherRow.plainKeys == Tryz.pinned.checked.prog.plainKeys) = true := by kernel_rfl
set_option maxRecDepth 100000 in
theorem jf8 : (Rows.fnBenchEitherRow.lifted == Tryz.pinned.checked.prog.liftsFinal) = true := by kernel_rfl
set_option maxRecDepth 100000 in
theorem joined : joinedFacts Tryz.pinned.checked.prog 3 Tryz.f3 Rows.fnBenchEitherSpec Rows.fnBenchEitherRow = true := by
  unfold joinedFacts
  rw [jf1, jf2, jf3, jf4, jf5, jf6, jf7, jf8]
  kernel_rfl
set_option maxRecDepth 100000 in
theorem pv1 : Rows.fnBenchEitherRow.wfByText (OpenSpec.ofChange Rows.fnBenchEitherSpec) = true := by kernel_rfl
set_option maxRecDepth 100000 in
theorem pv2 : Tryz.pinned.checked.prog.mainIs = some (true, "cf59a354470f7daa9e28453179d9200b5e06e1b84b99f170feda96c51cfe4ae2".toList) := by kernel_rfl
set_option maxRecDepth 100000 in
theorem pv3 : false = Tryz.pinned.checked.prog.looks [] := by kernel_rfl
set_option maxRecDepth 100000 in
theorem pv4 : false = Rows.fnBenchEitherRow.goesBy Tryz.pinned.checked.prog := by kernel_rfl
end Go.Proofs.YtldlmopdhmaceaaGreatDoor.FnBenchEitherCardSaidDone
