/-
  DERIVED. GIVEN WITH THE SEED: THE CARDS: each row of YtgbippnfaoedmaaGreatDoorRows.lean that lists a variable, with what it lists TIED to the program's text (the seventh form; the later family's looks); each row that meets fmt, with fmt's text TOLD by the authors' own Lean function (tested against real Go, not proved from fmt's source: count such statements apart). THE CARD IS WHAT COUNTS. Prove the row's statement (the work); the ties are given (YtgbippnfaoedmaaGreatDoorTie.lean); close each card by the builder's one call (the guide's Derived/Test/ToyasCard.lean, 'card_holds'). Laid BY PROGRAM, IN A SANDBOX (cutbox-door.mjs). By AI agents, Wed Nov 11 2026. No macro, syntax, notation, axiom, sorry.
-/
import Derived.Test.YtgbippnfaoedmaaGreatDoorRows
import GoSem.ClaimSeven
namespace Go.Proofs.YtgbippnfaoedmaaGreatDoor
namespace Rows

/-- THE TIED CARD OF 'laws.FnBenchGame'. -/
def fnBenchGameCard : Claim7 := { stood := { row := fnBenchGameRow, standIns := [], harness := (true, "a3d6d7b6e61a4dfc85a0ec73d8fc2238ade160f969cbc086ce209a350ead6d67"), looks := false }, kinds := [], alts := [], laidByText := true, laidKinds := [.data, .data, .data, .data, .data, .data, .pinned], laidTests := true, laidLooks := .later }
def FnBenchGameCardSaid : Prop := Claim7.holds Tryz.pinned (.plain (OpenSpec.ofChange fnBenchGameSpec)) fnBenchGameCard

/-- THE SECOND FORM's CARD OF 'laws.FnBenchGame'. -/
def fnBenchGameUptoCard : Claim7 := { stood := { row := fnBenchGameUptoRow, standIns := [], harness := (true, "a3d6d7b6e61a4dfc85a0ec73d8fc2238ade160f969cbc086ce209a350ead6d67"), looks := false }, kinds := [], alts := [], laidByText := true, laidKinds := [.data, .data, .data, .data, .data, .data, .pinned], laidTests := true, laidLooks := .later }
def FnBenchGameUptoCardSaid : Prop := Claim7.holds Tryz.pinned (.plain (OpenSpec.upto fnBenchGameSpec)) fnBenchGameUptoCard
end Rows
end Go.Proofs.YtgbippnfaoedmaaGreatDoor
