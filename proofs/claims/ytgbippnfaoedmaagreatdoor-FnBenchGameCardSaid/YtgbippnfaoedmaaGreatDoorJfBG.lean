/- Closed facts of the program and its row. By program. -/
import Derived.Test.YtgbippnfaoedmaaGreatDoorRows
import Derived.WalkKit
import Derived.ProofKit
import Derived.JoinedOf
import Derived.SevenTiedAt
set_option linter.unusedVariables false
set_option linter.unusedSimpArgs false
namespace Go.Proofs.YtgbippnfaoedmaaGreatDoor.FnBenchGameCardSaidDone
open Go Go.Proofs
set_option maxRecDepth 100000 in
theorem jf1 : (laidOutB Tryz.pinned.checked.prog) = true := by kernel_rfl
set_option maxRecDepth 100000 in
theorem jf2 : (mapsRowed Tryz.pinned.checked.prog) = true := by kernel_rfl
set_option maxRecDepth 100000 in
theorem jf3 : (Rows.fnBenchGameRow.inPlace == Tryz.pinned.checked.prog.inPlace 3) = true := by kernel_rfl
set_option maxRecDepth 100000 in
theorem jf4 : (Rows.fnBenchGameRow.unfollowed == Tryz.pinned.checked.prog.unfollowed 3) = true := by kernel_rfl
set_option maxRecDepth 100000 in
theorem jf5 : (Rows.fnBenchGameRow.recurses == Tryz.pinned.checked.prog.recurses 3) = true := by kernel_rfl
set_option maxRecDepth 100000 in
theorem jf6 : (Rows.fnBenchGameRow.named == Tryz.pinned.checked.prog.varsNamed 3) = true := by kernel_rfl
set_option maxRecDepth 100000 in
theorem jf7 : (Rows.fnBenchGameRow.plainKeys == Tryz.pinned.checked.prog.plainKeys) = true := by kernel_rfl
set_option maxRecDepth 100000 in
theorem jf8 : (Rows.fnBenchGameRow.lifted == Tryz.pinned.checked.prog.liftsFinal) = true := by kernel_rfl
set_option maxRecDepth 100000 in
theorem joined : joinedFacts Tryz.pinned.checked.prog 3 Tryz.f3 Rows.fnBenchGameSpec Rows.fnBenchGameRow = true := by
  unfold joinedFacts
  rw [jf1, jf2, jf3, jf4, jf5, jf6, jf7, jf8]
  kernel_rfl
set_option maxRecDepth 100000 in
theorem pv1 : Rows.fnBenchGameRow.wfByText (OpenSpec.ofChange Rows.fnBenchGameSpec) = true := by kernel_rfl
set_option maxRecDepth 100000 in
theorem pv2 : Tryz.pinned.checked.prog.mainIs = some (true, "a3d6d7b6e61a4dfc85a0ec73d8fc2238ade160f969cbc086ce209a350ead6d67".toList) := by kernel_rfl
set_option maxRecDepth 100000 in
theorem pv3 : false = Tryz.pinned.checked.prog.looks [] := by kernel_rfl
set_option maxRecDepth 100000 in
theorem pv4 : false = Rows.fnBenchGameRow.goesBy Tryz.pinned.checked.prog := by kernel_rfl
end Go.Proofs.YtgbippnfaoedmaaGreatDoor.FnBenchGameCardSaidDone
