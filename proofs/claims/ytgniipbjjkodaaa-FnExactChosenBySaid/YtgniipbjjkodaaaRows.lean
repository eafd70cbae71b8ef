/-
  No cell of these rows narrows 'for every input' (looked for: loops, veiled, ifaces, maps, wideKeys, modest, calm, conditions, laid).
  DERIVED. THE GIVEN ROWS OF THIS SEAT. 12 by the template 'for every input the law returns true; each argument reads behind the call as it read before'; 0 by the template 'total and deterministic' (their statements: YtgniipbjjkodaaaTotals.lean).
  GIVEN WITH THE SEED: the statements are not yours to turn. If you find one false, say at which input.
  Laid BY PROGRAM, IN A SANDBOX (cutbox-rows.mjs): the forced cells as the released guide's own fill.sh prints them over the translation f2cf43566046969a… (all of the seat's roots in one cut). By AI agents, Wed Nov 11 2026. No macro, syntax, notation, axiom, sorry.
-/
import Derived.Test.YtgniipbjjkodaaaChecked
import GoSem.Claim
import GoSem.ClaimJoined
import GoSem.ClaimMapViews
import Derived.JoinedTies
import Derived.KernelRfl
namespace Go.Proofs.Ytgniipbjjkodaaa
/- THE CELL 'sum', in the pinned program and in every row, IS THE sha256 OF THE DUMP (.gsa) THAT YtgniipbjjkodaaaProg.lean LOADS. Nothing in Lean hashes anything: it is a label: what it is worth is what the hold of that sum in a sandbox is worth. -/
noncomputable def Try.pinned : Pinned := { name := "ytgniipbjjkodaaa", sum := "f2cf43566046969ae1563c9309c9cd54d49b86d2f45ad541c4b04f4607363021", checked := Try.checked }
namespace Rows
def none {H : Type} : Left H := { results := [], args := [] }

/-- 'laws.FnExactSameRival': WHATEVER THE INPUT: true; the input reads as it did. -/
def fnExactSameRivalSpec : ChangeSpec := { name := "fnExactSameRival", fn := fun _ => fun
  | [d1, d2, d3] => { results := [.lit (.bool true)], args := [d1, d2, d3] }
  | _ => none }
def fnExactSameRivalRow : OpenClaim := { program := "ytgniipbjjkodaaa", sum := "f2cf43566046969ae1563c9309c9cd54d49b86d2f45ad541c4b04f4607363021", func := "loop.example/g00869/laws.FnExactSameRival", spec := "fnExactSameRival", unfollowed := true, recurses := true, plainKeys := false, apart := false }
def FnExactSameRivalSaid : Prop := fnExactSameRivalRow.holds Try.pinned (OpenSpec.ofChange fnExactSameRivalSpec)

/-- ITS FALSE NEIGHBOUR: 'it returns false'. Refute it at one input. -/
def fnExactSameRivalWrong : ChangeSpec := { name := "fnExactSameRival", fn := fun _ => fun
  | [d1, d2, d3] => { results := [.lit (.bool false)], args := [d1, d2, d3] }
  | _ => none }
def FnExactSameRivalWrongFalsely : Prop := fnExactSameRivalRow.holds Try.pinned (OpenSpec.ofChange fnExactSameRivalWrong)

/-- 'laws.FnExactInputsFor': WHATEVER THE INPUT: true; the input reads as it did. -/
def fnExactInputsForSpec : ChangeSpec := { name := "fnExactInputsFor", fn := fun _ => fun
  | [d1, d2, d3] => { results := [.lit (.bool true)], args := [d1, d2, d3] }
  | _ => none }
def fnExactInputsForRow : OpenClaim := { program := "ytgniipbjjkodaaa", sum := "f2cf43566046969ae1563c9309c9cd54d49b86d2f45ad541c4b04f4607363021", func := "loop.example/g00869/laws.FnExactInputsFor", spec := "fnExactInputsFor", unfollowed := true, recurses := true, plainKeys := false, apart := false }
def FnExactInputsForSaid : Prop := fnExactInputsForRow.holds Try.pinned (OpenSpec.ofChange fnExactInputsForSpec)

/-- ITS FALSE NEIGHBOUR: 'it returns false'. Refute it at one input. -/
def fnExactInputsForWrong : ChangeSpec := { name := "fnExactInputsFor", fn := fun _ => fun
  | [d1, d2, d3] => { results := [.lit (.bool false)], args := [d1, d2, d3] }
  | _ => none }
def FnExactInputsForWrongFalsely : Prop := fnExactInputsForRow.holds Try.pinned (OpenSpec.ofChange fnExactInputsForWrong)

/-- 'laws.FnExactStepOf': WHATEVER THE INPUT: true; the input reads as it did. -/
def fnExactStepOfSpec : ChangeSpec := { name := "fnExactStepOf", fn := fun _ => fun
  | [d1, d2, d3] => { results := [.lit (.bool true)], args := [d1, d2, d3] }
  | _ => none }
def fnExactStepOfRow : OpenClaim := { program := "ytgniipbjjkodaaa", sum := "f2cf43566046969ae1563c9309c9cd54d49b86d2f45ad541c4b04f4607363021", func := "loop.example/g00869/laws.FnExactStepOf", spec := "fnExactStepOf", unfollowed := true, recurses := true, plainKeys := false, apart := false }
def FnExactStepOfSaid : Prop := fnExactStepOfRow.holds Try.pinned (OpenSpec.ofChange fnExactStepOfSpec)

/-- ITS FALSE NEIGHBOUR: 'it returns false'. Refute it at one input. -/
def fnExactStepOfWrong : ChangeSpec := { name := "fnExactStepOf", fn := fun _ => fun
  | [d1, d2, d3] => { results := [.lit (.bool false)], args := [d1, d2, d3] }
  | _ => none }
def FnExactStepOfWrongFalsely : Prop := fnExactStepOfRow.holds Try.pinned (OpenSpec.ofChange fnExactStepOfWrong)

/-- 'laws.FnExactEditOk': WHATEVER THE INPUT: true; the input reads as it did. -/
def fnExactEditOkSpec : ChangeSpec := { name := "fnExactEditOk", fn := fun _ => fun
  | [d1, d2] => { results := [.lit (.bool true)], args := [d1, d2] }
  | _ => none }
def fnExactEditOkRow : OpenClaim := { program := "ytgniipbjjkodaaa", sum := "f2cf43566046969ae1563c9309c9cd54d49b86d2f45ad541c4b04f4607363021", func := "loop.example/g00869/laws.FnExactEditOk", spec := "fnExactEditOk", plainKeys := false, apart := false }
def FnExactEditOkSaid : Prop := fnExactEditOkRow.holds Try.pinned (OpenSpec.ofChange fnExactEditOkSpec)

/-- ITS FALSE NEIGHBOUR: 'it returns false'. Refute it at one input. -/
def fnExactEditOkWrong : ChangeSpec := { name := "fnExactEditOk", fn := fun _ => fun
  | [d1, d2] => { results := [.lit (.bool false)], args := [d1, d2] }
  | _ => none }
def FnExactEditOkWrongFalsely : Prop := fnExactEditOkRow.holds Try.pinned (OpenSpec.ofChange fnExactEditOkWrong)

/-- 'laws.FnExactOutsOver': WHATEVER THE INPUT: true; the input reads as it did. -/
def fnExactOutsOverSpec : ChangeSpec := { name := "fnExactOutsOver", fn := fun _ => fun
  | [d1, d2] => { results := [.lit (.bool true)], args := [d1, d2] }
  | _ => none }
def fnExactOutsOverRow : OpenClaim := { program := "ytgniipbjjkodaaa", sum := "f2cf43566046969ae1563c9309c9cd54d49b86d2f45ad541c4b04f4607363021", func := "loop.example/g00869/laws.FnExactOutsOver", spec := "fnExactOutsOver", unfollowed := true, recurses := true, plainKeys := false, apart := false }
def FnExactOutsOverSaid : Prop := fnExactOutsOverRow.holds Try.pinned (OpenSpec.ofChange fnExactOutsOverSpec)

/-- ITS FALSE NEIGHBOUR: 'it returns false'. Refute it at one input. -/
def fnExactOutsOverWrong : ChangeSpec := { name := "fnExactOutsOver", fn := fun _ => fun
  | [d1, d2] => { results := [.lit (.bool false)], args := [d1, d2] }
  | _ => none }
def FnExactOutsOverWrongFalsely : Prop := fnExactOutsOverRow.holds Try.pinned (OpenSpec.ofChange fnExactOutsOverWrong)

/-- 'laws.FnExactUndoneBy': WHATEVER THE INPUT: true; the input reads as it did. -/
def fnExactUndoneBySpec : ChangeSpec := { name := "fnExactUndoneBy", fn := fun _ => fun
  | [d1, d2] => { results := [.lit (.bool true)], args := [d1, d2] }
  | _ => none }
def fnExactUndoneByRow : OpenClaim := { program := "ytgniipbjjkodaaa", sum := "f2cf43566046969ae1563c9309c9cd54d49b86d2f45ad541c4b04f4607363021", func := "loop.example/g00869/laws.FnExactUndoneBy", spec := "fnExactUndoneBy", plainKeys := false, apart := false }
def FnExactUndoneBySaid : Prop := fnExactUndoneByRow.holds Try.pinned (OpenSpec.ofChange fnExactUndoneBySpec)

/-- ITS FALSE NEIGHBOUR: 'it returns false'. Refute it at one input. -/
def fnExactUndoneByWrong : ChangeSpec := { name := "fnExactUndoneBy", fn := fun _ => fun
  | [d1, d2] => { results := [.lit (.bool false)], args := [d1, d2] }
  | _ => none }
def FnExactUndoneByWrongFalsely : Prop := fnExactUndoneByRow.holds Try.pinned (OpenSpec.ofChange fnExactUndoneByWrong)

/-- 'laws.FnExactRunWord': WHATEVER THE INPUT: true; the input reads as it did. -/
def fnExactRunWordSpec : ChangeSpec := { name := "fnExactRunWord", fn := fun _ => fun
  | [d1, d2, d3] => { results := [.lit (.bool true)], args := [d1, d2, d3] }
  | _ => none }
def fnExactRunWordRow : OpenClaim := { program := "ytgniipbjjkodaaa", sum := "f2cf43566046969ae1563c9309c9cd54d49b86d2f45ad541c4b04f4607363021", func := "loop.example/g00869/laws.FnExactRunWord", spec := "fnExactRunWord", unfollowed := true, recurses := true, plainKeys := false, apart := false }
def FnExactRunWordSaid : Prop := fnExactRunWordRow.holds Try.pinned (OpenSpec.ofChange fnExactRunWordSpec)

/-- ITS FALSE NEIGHBOUR: 'it returns false'. Refute it at one input. -/
def fnExactRunWordWrong : ChangeSpec := { name := "fnExactRunWord", fn := fun _ => fun
  | [d1, d2, d3] => { results := [.lit (.bool false)], args := [d1, d2, d3] }
  | _ => none }
def FnExactRunWordWrongFalsely : Prop := fnExactRunWordRow.holds Try.pinned (OpenSpec.ofChange fnExactRunWordWrong)

/-- 'laws.FnExactRivalWord': WHATEVER THE INPUT: true; the input reads as it did. -/
def fnExactRivalWordSpec : ChangeSpec := { name := "fnExactRivalWord", fn := fun _ => fun
  | [d1, d2, d3] => { results := [.lit (.bool true)], args := [d1, d2, d3] }
  | _ => none }
def fnExactRivalWordRow : OpenClaim := { program := "ytgniipbjjkodaaa", sum := "f2cf43566046969ae1563c9309c9cd54d49b86d2f45ad541c4b04f4607363021", func := "loop.example/g00869/laws.FnExactRivalWord", spec := "fnExactRivalWord", unfollowed := true, recurses := true, plainKeys := false, apart := false }
def FnExactRivalWordSaid : Prop := fnExactRivalWordRow.holds Try.pinned (OpenSpec.ofChange fnExactRivalWordSpec)

/-- ITS FALSE NEIGHBOUR: 'it returns false'. Refute it at one input. -/
def fnExactRivalWordWrong : ChangeSpec := { name := "fnExactRivalWord", fn := fun _ => fun
  | [d1, d2, d3] => { results := [.lit (.bool false)], args := [d1, d2, d3] }
  | _ => none }
def FnExactRivalWordWrongFalsely : Prop := fnExactRivalWordRow.holds Try.pinned (OpenSpec.ofChange fnExactRivalWordWrong)

/-- 'laws.FnExactJoinedBy': WHATEVER THE INPUT: true; the input reads as it did. -/
def fnExactJoinedBySpec : ChangeSpec := { name := "fnExactJoinedBy", fn := fun _ => fun
  | [d1, d2, d3] => { results := [.lit (.bool true)], args := [d1, d2, d3] }
  | _ => none }
def fnExactJoinedByRow : OpenClaim := { program := "ytgniipbjjkodaaa", sum := "f2cf43566046969ae1563c9309c9cd54d49b86d2f45ad541c4b04f4607363021", func := "loop.example/g00869/laws.FnExactJoinedBy", spec := "fnExactJoinedBy", unfollowed := true, recurses := true, plainKeys := false, apart := false }
def FnExactJoinedBySaid : Prop := fnExactJoinedByRow.holds Try.pinned (OpenSpec.ofChange fnExactJoinedBySpec)

/-- ITS FALSE NEIGHBOUR: 'it returns false'. Refute it at one input. -/
def fnExactJoinedByWrong : ChangeSpec := { name := "fnExactJoinedBy", fn := fun _ => fun
  | [d1, d2, d3] => { results := [.lit (.bool false)], args := [d1, d2, d3] }
  | _ => none }
def FnExactJoinedByWrongFalsely : Prop := fnExactJoinedByRow.holds Try.pinned (OpenSpec.ofChange fnExactJoinedByWrong)

/-- 'laws.FnExactDuelOf': WHATEVER THE INPUT: true; the input reads as it did. -/
def fnExactDuelOfSpec : ChangeSpec := { name := "fnExactDuelOf", fn := fun _ => fun
  | [d1, d2, d3] => { results := [.lit (.bool true)], args := [d1, d2, d3] }
  | _ => none }
def fnExactDuelOfRow : OpenClaim := { program := "ytgniipbjjkodaaa", sum := "f2cf43566046969ae1563c9309c9cd54d49b86d2f45ad541c4b04f4607363021", func := "loop.example/g00869/laws.FnExactDuelOf", spec := "fnExactDuelOf", unfollowed := true, recurses := true, plainKeys := false, apart := false }
def FnExactDuelOfSaid : Prop := fnExactDuelOfRow.holds Try.pinned (OpenSpec.ofChange fnExactDuelOfSpec)

/-- ITS FALSE NEIGHBOUR: 'it returns false'. Refute it at one input. -/
def fnExactDuelOfWrong : ChangeSpec := { name := "fnExactDuelOf", fn := fun _ => fun
  | [d1, d2, d3] => { results := [.lit (.bool false)], args := [d1, d2, d3] }
  | _ => none }
def FnExactDuelOfWrongFalsely : Prop := fnExactDuelOfRow.holds Try.pinned (OpenSpec.ofChange fnExactDuelOfWrong)

/-- 'laws.FnExactLeastOf': WHATEVER THE INPUT: true; the input reads as it did. -/
def fnExactLeastOfSpec : ChangeSpec := { name := "fnExactLeastOf", fn := fun _ => fun
  | [d1, d2] => { results := [.lit (.bool true)], args := [d1, d2] }
  | _ => none }
def fnExactLeastOfRow : OpenClaim := { program := "ytgniipbjjkodaaa", sum := "f2cf43566046969ae1563c9309c9cd54d49b86d2f45ad541c4b04f4607363021", func := "loop.example/g00869/laws.FnExactLeastOf", spec := "fnExactLeastOf", unfollowed := true, recurses := true, plainKeys := false, apart := false }
def FnExactLeastOfSaid : Prop := fnExactLeastOfRow.holds Try.pinned (OpenSpec.ofChange fnExactLeastOfSpec)

/-- ITS FALSE NEIGHBOUR: 'it returns false'. Refute it at one input. -/
def fnExactLeastOfWrong : ChangeSpec := { name := "fnExactLeastOf", fn := fun _ => fun
  | [d1, d2] => { results := [.lit (.bool false)], args := [d1, d2] }
  | _ => none }
def FnExactLeastOfWrongFalsely : Prop := fnExactLeastOfRow.holds Try.pinned (OpenSpec.ofChange fnExactLeastOfWrong)

/-- 'laws.FnExactChosenBy': WHATEVER THE INPUT: true; the input reads as it did. -/
def fnExactChosenBySpec : ChangeSpec := { name := "fnExactChosenBy", fn := fun _ => fun
  | [d1, d2, d3, d4] => { results := [.lit (.bool true)], args := [d1, d2, d3, d4] }
  | _ => none }
def fnExactChosenByRow : OpenClaim := { program := "ytgniipbjjkodaaa", sum := "f2cf43566046969ae1563c9309c9cd54d49b86d2f45ad541c4b04f4607363021", func := "loop.example/g00869/laws.FnExactChosenBy", spec := "fnExactChosenBy", unfollowed := true, recurses := true, plainKeys := false, apart := false }
def FnExactChosenBySaid : Prop := fnExactChosenByRow.holds Try.pinned (OpenSpec.ofChange fnExactChosenBySpec)

/-- ITS FALSE NEIGHBOUR: 'it returns false'. Refute it at one input. -/
def fnExactChosenByWrong : ChangeSpec := { name := "fnExactChosenBy", fn := fun _ => fun
  | [d1, d2, d3, d4] => { results := [.lit (.bool false)], args := [d1, d2, d3, d4] }
  | _ => none }
def FnExactChosenByWrongFalsely : Prop := fnExactChosenByRow.holds Try.pinned (OpenSpec.ofChange fnExactChosenByWrong)

/- THE SECOND FORM. 'bulk': how many values and letters a reading holds, each counted each time it is reached (what is shared counts as often as it is met; a slice's spare places count too). A statement '..UptoSaid' is the law's where the arguments, and the package variables that the reading takes, are together of bulk at most 1048576: NARROWER than '..Said'. Prove '..Said' where nothing that the law and all that it calls make is longer than what came in: it says more and counts as full. Else prove '..UptoSaid'. A law counts once. -/
mutual
def uptoBulk {H : Type} : DataW H → Nat
  | .lit (.string bytes) => bytes.length + 1
  | .lit _ => 1
  | .nil => 1
  | .ptr d => uptoBulk d + 1
  | .slice elems spare => uptoBulkAll elems + uptoBulkAll spare + 1
  | .agg parts => uptoBulkAll parts + 1
  | .iface _ d => uptoBulk d + 1
  | .map entries => uptoBulkEntries entries + 1
  | .held _ => 1
def uptoBulkAll {H : Type} : List (DataW H) → Nat
  | [] => 0
  | d :: r => uptoBulk d + uptoBulkAll r
def uptoBulkEntries {H : Type} : List (Lit × DataW H) → Nat
  | [] => 0
  | x :: r => uptoBulkEntry x + uptoBulkEntries r
def uptoBulkEntry {H : Type} : Lit × DataW H → Nat
  | (.string bytes, d) => bytes.length + uptoBulk d + 1
  | (_, d) => uptoBulk d + 1
 end
def uptoSmall : (H : Type) → List (DataW H) → Bool := fun _ ds => decide (uptoBulkAll ds ≤ 1048576)
def OpenSpec.upto (s : _root_.Go.ChangeSpec) : _root_.Go.OpenSpec := { _root_.Go.OpenSpec.ofChange s with cond := some uptoSmall }

/-- 'laws.FnExactSameRival', WHERE WHAT IT READS IS OF BULK AT MOST 1048576: true; the input reads as it did. -/
def fnExactSameRivalUptoRow : OpenClaim := { program := "ytgniipbjjkodaaa", sum := "f2cf43566046969ae1563c9309c9cd54d49b86d2f45ad541c4b04f4607363021", func := "loop.example/g00869/laws.FnExactSameRival", spec := "fnExactSameRival", unfollowed := true, recurses := true, plainKeys := false, apart := false, narrowed := true }
def FnExactSameRivalUptoSaid : Prop := fnExactSameRivalUptoRow.holds Try.pinned (OpenSpec.upto fnExactSameRivalSpec)

/-- 'laws.FnExactInputsFor', WHERE WHAT IT READS IS OF BULK AT MOST 1048576: true; the input reads as it did. -/
def fnExactInputsForUptoRow : OpenClaim := { program := "ytgniipbjjkodaaa", sum := "f2cf43566046969ae1563c9309c9cd54d49b86d2f45ad541c4b04f4607363021", func := "loop.example/g00869/laws.FnExactInputsFor", spec := "fnExactInputsFor", unfollowed := true, recurses := true, plainKeys := false, apart := false, narrowed := true }
def FnExactInputsForUptoSaid : Prop := fnExactInputsForUptoRow.holds Try.pinned (OpenSpec.upto fnExactInputsForSpec)

/-- 'laws.FnExactStepOf', WHERE WHAT IT READS IS OF BULK AT MOST 1048576: true; the input reads as it did. -/
def fnExactStepOfUptoRow : OpenClaim := { program := "ytgniipbjjkodaaa", sum := "f2cf43566046969ae1563c9309c9cd54d49b86d2f45ad541c4b04f4607363021", func := "loop.example/g00869/laws.FnExactStepOf", spec := "fnExactStepOf", unfollowed := true, recurses := true, plainKeys := false, apart := false, narrowed := true }
def FnExactStepOfUptoSaid : Prop := fnExactStepOfUptoRow.holds Try.pinned (OpenSpec.upto fnExactStepOfSpec)

/-- 'laws.FnExactEditOk', WHERE WHAT IT READS IS OF BULK AT MOST 1048576: true; the input reads as it did. -/
def fnExactEditOkUptoRow : OpenClaim := { program := "ytgniipbjjkodaaa", sum := "f2cf43566046969ae1563c9309c9cd54d49b86d2f45ad541c4b04f4607363021", func := "loop.example/g00869/laws.FnExactEditOk", spec := "fnExactEditOk", plainKeys := false, apart := false, narrowed := true }
def FnExactEditOkUptoSaid : Prop := fnExactEditOkUptoRow.holds Try.pinned (OpenSpec.upto fnExactEditOkSpec)

/-- 'laws.FnExactOutsOver', WHERE WHAT IT READS IS OF BULK AT MOST 1048576: true; the input reads as it did. -/
def fnExactOutsOverUptoRow : OpenClaim := { program := "ytgniipbjjkodaaa", sum := "f2cf43566046969ae1563c9309c9cd54d49b86d2f45ad541c4b04f4607363021", func := "loop.example/g00869/laws.FnExactOutsOver", spec := "fnExactOutsOver", unfollowed := true, recurses := true, plainKeys := false, apart := false, narrowed := true }
def FnExactOutsOverUptoSaid : Prop := fnExactOutsOverUptoRow.holds Try.pinned (OpenSpec.upto fnExactOutsOverSpec)

/-- 'laws.FnExactUndoneBy', WHERE WHAT IT READS IS OF BULK AT MOST 1048576: true; the input reads as it did. -/
def fnExactUndoneByUptoRow : OpenClaim := { program := "ytgniipbjjkodaaa", sum := "f2cf43566046969ae1563c9309c9cd54d49b86d2f45ad541c4b04f4607363021", func := "loop.example/g00869/laws.FnExactUndoneBy", spec := "fnExactUndoneBy", plainKeys := false, apart := false, narrowed := true }
def FnExactUndoneByUptoSaid : Prop := fnExactUndoneByUptoRow.holds Try.pinned (OpenSpec.upto fnExactUndoneBySpec)

/-- 'laws.FnExactRunWord', WHERE WHAT IT READS IS OF BULK AT MOST 1048576: true; the input reads as it did. -/
def fnExactRunWordUptoRow : OpenClaim := { program := "ytgniipbjjkodaaa", sum := "f2cf43566046969ae1563c9309c9cd54d49b86d2f45ad541c4b04f4607363021", func := "loop.example/g00869/laws.FnExactRunWord", spec := "fnExactRunWord", unfollowed := true, recurses := true, plainKeys := false, apart := false, narrowed := true }
def FnExactRunWordUptoSaid : Prop := fnExactRunWordUptoRow.holds Try.pinned (OpenSpec.upto fnExactRunWordSpec)

/-- 'laws.FnExactRivalWord', WHERE WHAT IT READS IS OF BULK AT MOST 1048576: true; the input reads as it did. -/
def fnExactRivalWordUptoRow : OpenClaim := { program := "ytgniipbjjkodaaa", sum := "f2cf43566046969ae1563c9309c9cd54d49b86d2f45ad541c4b04f4607363021", func := "loop.example/g00869/laws.FnExactRivalWord", spec := "fnExactRivalWord", unfollowed := true, recurses := true, plainKeys := false, apart := false, narrowed := true }
def FnExactRivalWordUptoSaid : Prop := fnExactRivalWordUptoRow.holds Try.pinned (OpenSpec.upto fnExactRivalWordSpec)

/-- 'laws.FnExactJoinedBy', WHERE WHAT IT READS IS OF BULK AT MOST 1048576: true; the input reads as it did. -/
def fnExactJoinedByUptoRow : OpenClaim := { program := "ytgniipbjjkodaaa", sum := "f2cf43566046969ae1563c9309c9cd54d49b86d2f45ad541c4b04f4607363021", func := "loop.example/g00869/laws.FnExactJoinedBy", spec := "fnExactJoinedBy", unfollowed := true, recurses := true, plainKeys := false, apart := false, narrowed := true }
def FnExactJoinedByUptoSaid : Prop := fnExactJoinedByUptoRow.holds Try.pinned (OpenSpec.upto fnExactJoinedBySpec)

/-- 'laws.FnExactDuelOf', WHERE WHAT IT READS IS OF BULK AT MOST 1048576: true; the input reads as it did. -/
def fnExactDuelOfUptoRow : OpenClaim := { program := "ytgniipbjjkodaaa", sum := "f2cf43566046969ae1563c9309c9cd54d49b86d2f45ad541c4b04f4607363021", func := "loop.example/g00869/laws.FnExactDuelOf", spec := "fnExactDuelOf", unfollowed := true, recurses := true, plainKeys := false, apart := false, narrowed := true }
def FnExactDuelOfUptoSaid : Prop := fnExactDuelOfUptoRow.holds Try.pinned (OpenSpec.upto fnExactDuelOfSpec)

/-- 'laws.FnExactLeastOf', WHERE WHAT IT READS IS OF BULK AT MOST 1048576: true; the input reads as it did. -/
def fnExactLeastOfUptoRow : OpenClaim := { program := "ytgniipbjjkodaaa", sum := "f2cf43566046969ae1563c9309c9cd54d49b86d2f45ad541c4b04f4607363021", func := "loop.example/g00869/laws.FnExactLeastOf", spec := "fnExactLeastOf", unfollowed := true, recurses := true, plainKeys := false, apart := false, narrowed := true }
def FnExactLeastOfUptoSaid : Prop := fnExactLeastOfUptoRow.holds Try.pinned (OpenSpec.upto fnExactLeastOfSpec)

/-- 'laws.FnExactChosenBy', WHERE WHAT IT READS IS OF BULK AT MOST 1048576: true; the input reads as it did. -/
def fnExactChosenByUptoRow : OpenClaim := { program := "ytgniipbjjkodaaa", sum := "f2cf43566046969ae1563c9309c9cd54d49b86d2f45ad541c4b04f4607363021", func := "loop.example/g00869/laws.FnExactChosenBy", spec := "fnExactChosenBy", unfollowed := true, recurses := true, plainKeys := false, apart := false, narrowed := true }
def FnExactChosenByUptoSaid : Prop := fnExactChosenByUptoRow.holds Try.pinned (OpenSpec.upto fnExactChosenBySpec)

end Rows
end Go.Proofs.Ytgniipbjjkodaaa
