/-
  DERIVED. GIVEN WITH THE SEED: THE CARDS: each row of YtldlmopdhmaceaaGreatDoorRows.lean that lists a variable, with what it lists TIED to the program's text (the seventh form; the later family's looks); each row that meets fmt, with fmt's text TOLD by the authors' own Lean function (tested against real Go, not proved from fmt's source: count such statements apart). THE CARD IS WHAT COUNTS. Prove the row's statement (the work); the ties are given (YtldlmopdhmaceaaGreatDoorTie.lean); close each card by the builder's one call (the guide's Derived/Test/ToyasCard.lean, 'card_holds'). Laid BY PROGRAM, IN A SANDBOX (cutbox-door.mjs). By AI agents, Wed Nov 11 2026. No macro, syntax, notation, axiom, sorry.
-/
import Derived.Test.YtldlmopdhmaceaaGreatDoorRows
import GoSem.ClaimSeven
namespace Go.Proofs.YtldlmopdhmaceaaGreatDoor
namespace Rows

/-- THE TIED CARD OF 'laws.FnBenchEither'. -/
def fnBenchEitherCard : Claim7 := { stood := { row := fnBenchEitherRow, standIns := [], harness := (true, "cf59a354470f7daa9e28453179d9200b5e06e1b84b99f170feda96c51cfe4ae2"), looks := false }, kinds := [], alts := [], laidByText := true, laidKinds := [.data, .data, .data, .data, .data, .data, .pinned], laidTests := true, laidLooks := .later }
def FnBenchEitherCardSaid : Prop := Claim7.holds Tryz.pinned (.plain (OpenSpec.ofChange fnBenchEitherSpec)) fnBenchEitherCard

/-- THE SECOND FORM's CARD OF 'laws.FnBenchEither'. -/
def fnBenchEitherUptoCard : Claim7 := { stood := { row := fnBenchEitherUptoRow, standIns := [], harness := (true, "cf59a354470f7daa9e28453179d9200b5e06e1b84b99f170feda96c51cfe4ae2"), looks := false }, kinds := [], alts := [], laidByText := true, laidKinds := [.data, .data, .data, .data, .data, .data, .pinned], laidTests := true, laidLooks := .later }
def FnBenchEitherUptoCardSaid : Prop := Claim7.holds Tryz.pinned (.plain (OpenSpec.upto fnBenchEitherSpec)) fnBenchEitherUptoCard
end Rows
end Go.Proofs.YtldlmopdhmaceaaGreatDoor
