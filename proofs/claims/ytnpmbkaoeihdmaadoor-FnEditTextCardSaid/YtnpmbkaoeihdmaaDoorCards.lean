/-
  DERIVED. GIVEN WITH THE SEED: THE CARDS: each row of YtnpmbkaoeihdmaaDoorRows.lean that lists a variable, with what it lists TIED to the program's text (the seventh form; the later family's looks); each row that meets fmt, with fmt's text TOLD by the authors' own Lean function (tested against real Go, not proved from fmt's source: count such statements apart). THE CARD IS WHAT COUNTS. Prove the row's statement (the work); the ties are given (YtnpmbkaoeihdmaaDoorTie.lean); close each card by the builder's one call (the guide's Derived/Test/ToyasCard.lean, 'card_holds'). Laid BY PROGRAM, IN A SANDBOX (cutbox-door.mjs). By AI agents, Wed Nov 11 2026. No macro, syntax, notation, axiom, sorry.
-/
import Derived.Test.YtnpmbkaoeihdmaaDoorRows
import GoSem.ClaimSeven
namespace Go.Proofs.YtnpmbkaoeihdmaaDoor
namespace Rows

/-- THE TIED CARD OF 'laws.FnEditText'. -/
def fnEditTextCard : Claim7 := { stood := { row := fnEditTextRow, standIns := [], harness := (true, "154359c168a87a513ec66f8c0d4e531579a8360c6231bf4e9a03e2cd4fc74b0c"), looks := false }, kinds := [], alts := [], laidByText := true, laidKinds := [.data, .data, .data, .data, .widerDeep, .pinned], laidTests := true, laidLooks := .later }
def FnEditTextCardSaid : Prop := Claim7.holds Tryd.pinned (.plain (OpenSpec.ofChange fnEditTextSpec)) fnEditTextCard

/-- THE TIED CARD OF 'laws.FnExactEditText'. -/
def fnExactEditTextCard : Claim7 := { stood := { row := fnExactEditTextRow, standIns := [], harness := (true, "154359c168a87a513ec66f8c0d4e531579a8360c6231bf4e9a03e2cd4fc74b0c"), looks := false }, kinds := [], alts := [], laidByText := true, laidKinds := [.data, .data, .data, .widerDeep], laidTests := true, laidLooks := .later }
def FnExactEditTextCardSaid : Prop := Claim7.holds Tryd.pinned (.plain (OpenSpec.ofChange fnExactEditTextSpec)) fnExactEditTextCard

/-- THE TIED CARD OF 'laws.FnExactMachineText'. -/
def fnExactMachineTextCard : Claim7 := { stood := { row := fnExactMachineTextRow, standIns := [], harness := (true, "154359c168a87a513ec66f8c0d4e531579a8360c6231bf4e9a03e2cd4fc74b0c"), looks := false }, kinds := [], alts := [], laidByText := true, laidKinds := [.data, .data, .data], laidTests := true, laidLooks := .later }
def FnExactMachineTextCardSaid : Prop := Claim7.holds Tryd.pinned (.plain (OpenSpec.ofChange fnExactMachineTextSpec)) fnExactMachineTextCard

/-- THE TIED CARD OF 'laws.FnExactTextEdit'. -/
def fnExactTextEditCard : Claim7 := { stood := { row := fnExactTextEditRow, standIns := [], harness := (true, "154359c168a87a513ec66f8c0d4e531579a8360c6231bf4e9a03e2cd4fc74b0c"), looks := false }, kinds := [], alts := [], laidByText := true, laidKinds := [.data, .widerDeep, .pinned], laidTests := true, laidLooks := .later }
def FnExactTextEditCardSaid : Prop := Claim7.holds Tryd.pinned (.plain (OpenSpec.ofChange fnExactTextEditSpec)) fnExactTextEditCard

/-- THE TIED CARD OF 'laws.FnExactTextMachine'. -/
def fnExactTextMachineCard : Claim7 := { stood := { row := fnExactTextMachineRow, standIns := [], harness := (true, "154359c168a87a513ec66f8c0d4e531579a8360c6231bf4e9a03e2cd4fc74b0c"), looks := false }, kinds := [], alts := [], laidByText := true, laidKinds := [.data, .pinned], laidTests := true, laidLooks := .later }
def FnExactTextMachineCardSaid : Prop := Claim7.holds Tryd.pinned (.plain (OpenSpec.ofChange fnExactTextMachineSpec)) fnExactTextMachineCard

/-- THE TIED CARD OF 'laws.FnMachineWords'. -/
def fnMachineWordsCard : Claim7 := { stood := { row := fnMachineWordsRow, standIns := [], harness := (true, "154359c168a87a513ec66f8c0d4e531579a8360c6231bf4e9a03e2cd4fc74b0c"), looks := false }, kinds := [], alts := [], laidByText := true, laidKinds := [.data, .data, .data, .data, .pinned], laidTests := true, laidLooks := .later }
def FnMachineWordsCardSaid : Prop := Claim7.holds Tryd.pinned (.plain (OpenSpec.ofChange fnMachineWordsSpec)) fnMachineWordsCard

/-- THE SECOND FORM's CARD OF 'laws.FnEditText'. -/
def fnEditTextUptoCard : Claim7 := { stood := { row := fnEditTextUptoRow, standIns := [], harness := (true, "154359c168a87a513ec66f8c0d4e531579a8360c6231bf4e9a03e2cd4fc74b0c"), looks := false }, kinds := [], alts := [], laidByText := true, laidKinds := [.data, .data, .data, .data, .widerDeep, .pinned], laidTests := true, laidLooks := .later }
def FnEditTextUptoCardSaid : Prop := Claim7.holds Tryd.pinned (.plain (OpenSpec.upto fnEditTextSpec)) fnEditTextUptoCard

/-- THE SECOND FORM's CARD OF 'laws.FnExactEditText'. -/
def fnExactEditTextUptoCard : Claim7 := { stood := { row := fnExactEditTextUptoRow, standIns := [], harness := (true, "154359c168a87a513ec66f8c0d4e531579a8360c6231bf4e9a03e2cd4fc74b0c"), looks := false }, kinds := [], alts := [], laidByText := true, laidKinds := [.data, .data, .data, .widerDeep], laidTests := true, laidLooks := .later }
def FnExactEditTextUptoCardSaid : Prop := Claim7.holds Tryd.pinned (.plain (OpenSpec.upto fnExactEditTextSpec)) fnExactEditTextUptoCard

/-- THE SECOND FORM's CARD OF 'laws.FnExactMachineText'. -/
def fnExactMachineTextUptoCard : Claim7 := { stood := { row := fnExactMachineTextUptoRow, standIns := [], harness := (true, "154359c168a87a513ec66f8c0d4e531579a8360c6231bf4e9a03e2cd4fc74b0c"), looks := false }, kinds := [], alts := [], laidByText := true, laidKinds := [.data, .data, .data], laidTests := true, laidLooks := .later }
def FnExactMachineTextUptoCardSaid : Prop := Claim7.holds Tryd.pinned (.plain (OpenSpec.upto fnExactMachineTextSpec)) fnExactMachineTextUptoCard

/-- THE SECOND FORM's CARD OF 'laws.FnExactTextEdit'. -/
def fnExactTextEditUptoCard : Claim7 := { stood := { row := fnExactTextEditUptoRow, standIns := [], harness := (true, "154359c168a87a513ec66f8c0d4e531579a8360c6231bf4e9a03e2cd4fc74b0c"), looks := false }, kinds := [], alts := [], laidByText := true, laidKinds := [.data, .widerDeep, .pinned], laidTests := true, laidLooks := .later }
def FnExactTextEditUptoCardSaid : Prop := Claim7.holds Tryd.pinned (.plain (OpenSpec.upto fnExactTextEditSpec)) fnExactTextEditUptoCard

/-- THE SECOND FORM's CARD OF 'laws.FnExactTextMachine'. -/
def fnExactTextMachineUptoCard : Claim7 := { stood := { row := fnExactTextMachineUptoRow, standIns := [], harness := (true, "154359c168a87a513ec66f8c0d4e531579a8360c6231bf4e9a03e2cd4fc74b0c"), looks := false }, kinds := [], alts := [], laidByText := true, laidKinds := [.data, .pinned], laidTests := true, laidLooks := .later }
def FnExactTextMachineUptoCardSaid : Prop := Claim7.holds Tryd.pinned (.plain (OpenSpec.upto fnExactTextMachineSpec)) fnExactTextMachineUptoCard

/-- THE SECOND FORM's CARD OF 'laws.FnMachineWords'. -/
def fnMachineWordsUptoCard : Claim7 := { stood := { row := fnMachineWordsUptoRow, standIns := [], harness := (true, "154359c168a87a513ec66f8c0d4e531579a8360c6231bf4e9a03e2cd4fc74b0c"), looks := false }, kinds := [], alts := [], laidByText := true, laidKinds := [.data, .data, .data, .data, .pinned], laidTests := true, laidLooks := .later }
def FnMachineWordsUptoCardSaid : Prop := Claim7.holds Tryd.pinned (.plain (OpenSpec.upto fnMachineWordsSpec)) fnMachineWordsUptoCard
end Rows
end Go.Proofs.YtnpmbkaoeihdmaaDoor
