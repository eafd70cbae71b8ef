/-
  No cell of these rows narrows 'for every input' (looked for: loops, veiled, ifaces, maps, wideKeys, modest, calm, conditions, laid).
  DERIVED. THE GIVEN ROWS OF THIS SEAT. 10 by the template 'for every input the law returns true; each argument reads behind the call as it read before'; 0 by the template 'total and deterministic' (their statements: YtfmkhnlnomkcfaaTotals.lean).
  GIVEN WITH THE SEED: the statements are not yours to turn. If you find one false, say at which input.
  Laid BY PROGRAM, IN A SANDBOX (cutbox-rows.mjs): the forced cells as the released guide's own fill.sh prints them over the translation cf19749c6508eefe… (all of the seat's roots in one cut). By AI agents, Wed Nov 11 2026. No macro, syntax, notation, axiom, sorry.
-/
import Derived.Test.YtfmkhnlnomkcfaaChecked
import GoSem.Claim
import GoSem.ClaimJoined
import GoSem.ClaimMapViews
import Derived.JoinedTies
import Derived.KernelRfl
namespace Go.Proofs.Ytfmkhnlnomkcfaa
/- THE CELL 'sum', in the pinned program and in every row, IS THE sha256 OF THE DUMP (.gsa) THAT YtfmkhnlnomkcfaaProg.lean LOADS. Nothing in Lean hashes anything: it is a label: what it is worth is what the hold of that sum in a sandbox is worth. -/
noncomputable def Try.pinned : Pinned := { name := "ytfmkhnlnomkcfaa", sum := "cf19749c6508eefe1a9196d8688416a41867a3d6973c3b57d524c038fa9cd538", checked := Try.checked }
namespace Rows
def none {H : Type} : Left H := { results := [], args := [] }

/-- 'laws.FnExactTouchedBy': WHATEVER THE INPUT: true; the input reads as it did. -/
def fnExactTouchedBySpec : ChangeSpec := { name := "fnExactTouchedBy", fn := fun _ => fun
  | [d1, d2] => { results := [.lit (.bool true)], args := [d1, d2] }
  | _ => none }
def fnExactTouchedByRow : OpenClaim := { program := "ytfmkhnlnomkcfaa", sum := "cf19749c6508eefe1a9196d8688416a41867a3d6973c3b57d524c038fa9cd538", func := "loop.example/g00869/laws.FnExactTouchedBy", spec := "fnExactTouchedBy", plainKeys := false, apart := false }
def FnExactTouchedBySaid : Prop := fnExactTouchedByRow.holds Try.pinned (OpenSpec.ofChange fnExactTouchedBySpec)

/-- ITS FALSE NEIGHBOUR: 'it returns false'. Refute it at one input. -/
def fnExactTouchedByWrong : ChangeSpec := { name := "fnExactTouchedBy", fn := fun _ => fun
  | [d1, d2] => { results := [.lit (.bool false)], args := [d1, d2] }
  | _ => none }
def FnExactTouchedByWrongFalsely : Prop := fnExactTouchedByRow.holds Try.pinned (OpenSpec.ofChange fnExactTouchedByWrong)

/-- 'laws.FnExactCircuitMachine': WHATEVER THE INPUT: true; the input reads as it did. -/
def fnExactCircuitMachineSpec : ChangeSpec := { name := "fnExactCircuitMachine", fn := fun _ => fun
  | [d1, d2] => { results := [.lit (.bool true)], args := [d1, d2] }
  | _ => none }
def fnExactCircuitMachineRow : OpenClaim := { program := "ytfmkhnlnomkcfaa", sum := "cf19749c6508eefe1a9196d8688416a41867a3d6973c3b57d524c038fa9cd538", func := "loop.example/g00869/laws.FnExactCircuitMachine", spec := "fnExactCircuitMachine", unfollowed := true, recurses := true, plainKeys := false, apart := false }
def FnExactCircuitMachineSaid : Prop := fnExactCircuitMachineRow.holds Try.pinned (OpenSpec.ofChange fnExactCircuitMachineSpec)

/-- ITS FALSE NEIGHBOUR: 'it returns false'. Refute it at one input. -/
def fnExactCircuitMachineWrong : ChangeSpec := { name := "fnExactCircuitMachine", fn := fun _ => fun
  | [d1, d2] => { results := [.lit (.bool false)], args := [d1, d2] }
  | _ => none }
def FnExactCircuitMachineWrongFalsely : Prop := fnExactCircuitMachineRow.holds Try.pinned (OpenSpec.ofChange fnExactCircuitMachineWrong)

/-- 'laws.FnExactCircuitMeets': WHATEVER THE INPUT: true; the input reads as it did. -/
def fnExactCircuitMeetsSpec : ChangeSpec := { name := "fnExactCircuitMeets", fn := fun _ => fun
  | [d1, d2, d3] => { results := [.lit (.bool true)], args := [d1, d2, d3] }
  | _ => none }
def fnExactCircuitMeetsRow : OpenClaim := { program := "ytfmkhnlnomkcfaa", sum := "cf19749c6508eefe1a9196d8688416a41867a3d6973c3b57d524c038fa9cd538", func := "loop.example/g00869/laws.FnExactCircuitMeets", spec := "fnExactCircuitMeets", unfollowed := true, recurses := true, plainKeys := false, apart := false }
def FnExactCircuitMeetsSaid : Prop := fnExactCircuitMeetsRow.holds Try.pinned (OpenSpec.ofChange fnExactCircuitMeetsSpec)

/-- ITS FALSE NEIGHBOUR: 'it returns false'. Refute it at one input. -/
def fnExactCircuitMeetsWrong : ChangeSpec := { name := "fnExactCircuitMeets", fn := fun _ => fun
  | [d1, d2, d3] => { results := [.lit (.bool false)], args := [d1, d2, d3] }
  | _ => none }
def FnExactCircuitMeetsWrongFalsely : Prop := fnExactCircuitMeetsRow.holds Try.pinned (OpenSpec.ofChange fnExactCircuitMeetsWrong)

/-- 'laws.FnExactTidiedCircuit': WHATEVER THE INPUT: true; the input reads as it did. -/
def fnExactTidiedCircuitSpec : ChangeSpec := { name := "fnExactTidiedCircuit", fn := fun _ => fun
  | [d] => { results := [.lit (.bool true)], args := [d] }
  | _ => none }
def fnExactTidiedCircuitRow : OpenClaim := { program := "ytfmkhnlnomkcfaa", sum := "cf19749c6508eefe1a9196d8688416a41867a3d6973c3b57d524c038fa9cd538", func := "loop.example/g00869/laws.FnExactTidiedCircuit", spec := "fnExactTidiedCircuit", unfollowed := true, recurses := true, plainKeys := false, apart := false }
def FnExactTidiedCircuitSaid : Prop := fnExactTidiedCircuitRow.holds Try.pinned (OpenSpec.ofChange fnExactTidiedCircuitSpec)

/-- ITS FALSE NEIGHBOUR: 'it returns false'. Refute it at one input. -/
def fnExactTidiedCircuitWrong : ChangeSpec := { name := "fnExactTidiedCircuit", fn := fun _ => fun
  | [d] => { results := [.lit (.bool false)], args := [d] }
  | _ => none }
def FnExactTidiedCircuitWrongFalsely : Prop := fnExactTidiedCircuitRow.holds Try.pinned (OpenSpec.ofChange fnExactTidiedCircuitWrong)

/-- 'laws.FnExactWatchOf': WHATEVER THE INPUT: true; the input reads as it did. -/
def fnExactWatchOfSpec : ChangeSpec := { name := "fnExactWatchOf", fn := fun _ => fun
  | [d1, d2, d3] => { results := [.lit (.bool true)], args := [d1, d2, d3] }
  | _ => none }
def fnExactWatchOfRow : OpenClaim := { program := "ytfmkhnlnomkcfaa", sum := "cf19749c6508eefe1a9196d8688416a41867a3d6973c3b57d524c038fa9cd538", func := "loop.example/g00869/laws.FnExactWatchOf", spec := "fnExactWatchOf", unfollowed := true, recurses := true, plainKeys := false, apart := false }
def FnExactWatchOfSaid : Prop := fnExactWatchOfRow.holds Try.pinned (OpenSpec.ofChange fnExactWatchOfSpec)

/-- ITS FALSE NEIGHBOUR: 'it returns false'. Refute it at one input. -/
def fnExactWatchOfWrong : ChangeSpec := { name := "fnExactWatchOf", fn := fun _ => fun
  | [d1, d2, d3] => { results := [.lit (.bool false)], args := [d1, d2, d3] }
  | _ => none }
def FnExactWatchOfWrongFalsely : Prop := fnExactWatchOfRow.holds Try.pinned (OpenSpec.ofChange fnExactWatchOfWrong)

/-- 'laws.FnExactCircuitOf': WHATEVER THE INPUT: true; the input reads as it did. -/
def fnExactCircuitOfSpec : ChangeSpec := { name := "fnExactCircuitOf", fn := fun _ => fun
  | [d1, d2] => { results := [.lit (.bool true)], args := [d1, d2] }
  | _ => none }
def fnExactCircuitOfRow : OpenClaim := { program := "ytfmkhnlnomkcfaa", sum := "cf19749c6508eefe1a9196d8688416a41867a3d6973c3b57d524c038fa9cd538", func := "loop.example/g00869/laws.FnExactCircuitOf", spec := "fnExactCircuitOf", unfollowed := true, recurses := true, plainKeys := false, apart := false }
def FnExactCircuitOfSaid : Prop := fnExactCircuitOfRow.holds Try.pinned (OpenSpec.ofChange fnExactCircuitOfSpec)

/-- ITS FALSE NEIGHBOUR: 'it returns false'. Refute it at one input. -/
def fnExactCircuitOfWrong : ChangeSpec := { name := "fnExactCircuitOf", fn := fun _ => fun
  | [d1, d2] => { results := [.lit (.bool false)], args := [d1, d2] }
  | _ => none }
def FnExactCircuitOfWrongFalsely : Prop := fnExactCircuitOfRow.holds Try.pinned (OpenSpec.ofChange fnExactCircuitOfWrong)

/-- 'laws.FnExactKeepsOn': WHATEVER THE INPUT: true; the input reads as it did. -/
def fnExactKeepsOnSpec : ChangeSpec := { name := "fnExactKeepsOn", fn := fun _ => fun
  | [d1, d2, d3, d4] => { results := [.lit (.bool true)], args := [d1, d2, d3, d4] }
  | _ => none }
def fnExactKeepsOnRow : OpenClaim := { program := "ytfmkhnlnomkcfaa", sum := "cf19749c6508eefe1a9196d8688416a41867a3d6973c3b57d524c038fa9cd538", func := "loop.example/g00869/laws.FnExactKeepsOn", spec := "fnExactKeepsOn", unfollowed := true, recurses := true, plainKeys := false, apart := false }
def FnExactKeepsOnSaid : Prop := fnExactKeepsOnRow.holds Try.pinned (OpenSpec.ofChange fnExactKeepsOnSpec)

/-- ITS FALSE NEIGHBOUR: 'it returns false'. Refute it at one input. -/
def fnExactKeepsOnWrong : ChangeSpec := { name := "fnExactKeepsOn", fn := fun _ => fun
  | [d1, d2, d3, d4] => { results := [.lit (.bool false)], args := [d1, d2, d3, d4] }
  | _ => none }
def FnExactKeepsOnWrongFalsely : Prop := fnExactKeepsOnRow.holds Try.pinned (OpenSpec.ofChange fnExactKeepsOnWrong)

/-- 'laws.FnExactEdited': WHATEVER THE INPUT: true; the input reads as it did. -/
def fnExactEditedSpec : ChangeSpec := { name := "fnExactEdited", fn := fun _ => fun
  | [d1, d2] => { results := [.lit (.bool true)], args := [d1, d2] }
  | _ => none }
def fnExactEditedRow : OpenClaim := { program := "ytfmkhnlnomkcfaa", sum := "cf19749c6508eefe1a9196d8688416a41867a3d6973c3b57d524c038fa9cd538", func := "loop.example/g00869/laws.FnExactEdited", spec := "fnExactEdited", recurses := true, plainKeys := false, apart := false }
def FnExactEditedSaid : Prop := fnExactEditedRow.holds Try.pinned (OpenSpec.ofChange fnExactEditedSpec)

/-- ITS FALSE NEIGHBOUR: 'it returns false'. Refute it at one input. -/
def fnExactEditedWrong : ChangeSpec := { name := "fnExactEdited", fn := fun _ => fun
  | [d1, d2] => { results := [.lit (.bool false)], args := [d1, d2] }
  | _ => none }
def FnExactEditedWrongFalsely : Prop := fnExactEditedRow.holds Try.pinned (OpenSpec.ofChange fnExactEditedWrong)

/-- 'laws.FnExactEditedAll': WHATEVER THE INPUT: true; the input reads as it did. -/
def fnExactEditedAllSpec : ChangeSpec := { name := "fnExactEditedAll", fn := fun _ => fun
  | [d1, d2] => { results := [.lit (.bool true)], args := [d1, d2] }
  | _ => none }
def fnExactEditedAllRow : OpenClaim := { program := "ytfmkhnlnomkcfaa", sum := "cf19749c6508eefe1a9196d8688416a41867a3d6973c3b57d524c038fa9cd538", func := "loop.example/g00869/laws.FnExactEditedAll", spec := "fnExactEditedAll", recurses := true, plainKeys := false, apart := false }
def FnExactEditedAllSaid : Prop := fnExactEditedAllRow.holds Try.pinned (OpenSpec.ofChange fnExactEditedAllSpec)

/-- ITS FALSE NEIGHBOUR: 'it returns false'. Refute it at one input. -/
def fnExactEditedAllWrong : ChangeSpec := { name := "fnExactEditedAll", fn := fun _ => fun
  | [d1, d2] => { results := [.lit (.bool false)], args := [d1, d2] }
  | _ => none }
def FnExactEditedAllWrongFalsely : Prop := fnExactEditedAllRow.holds Try.pinned (OpenSpec.ofChange fnExactEditedAllWrong)

/-- 'laws.FnLeastSame': WHATEVER THE INPUT: true; the input reads as it did. -/
def fnLeastSameSpec : ChangeSpec := { name := "fnLeastSame", fn := fun _ => fun
  | [d] => { results := [.lit (.bool true)], args := [d] }
  | _ => none }
def fnLeastSameRow : OpenClaim := { program := "ytfmkhnlnomkcfaa", sum := "cf19749c6508eefe1a9196d8688416a41867a3d6973c3b57d524c038fa9cd538", func := "loop.example/g00869/laws.FnLeastSame", spec := "fnLeastSame", unfollowed := true, recurses := true, plainKeys := false, apart := false }
def FnLeastSameSaid : Prop := fnLeastSameRow.holds Try.pinned (OpenSpec.ofChange fnLeastSameSpec)

/-- ITS FALSE NEIGHBOUR: 'it returns false'. Refute it at one input. -/
def fnLeastSameWrong : ChangeSpec := { name := "fnLeastSame", fn := fun _ => fun
  | [d] => { results := [.lit (.bool false)], args := [d] }
  | _ => none }
def FnLeastSameWrongFalsely : Prop := fnLeastSameRow.holds Try.pinned (OpenSpec.ofChange fnLeastSameWrong)

/- THE SECOND FORM. 'bulk': how many values and letters a reading holds, each counted each time it is reached (what is shared counts as often as it is met; a slice's spare places count too). A statement '..UptoSaid' is the law's where the arguments, and the package variables that the reading takes, are together of bulk at most 1048576: NARROWER than '..Said'. Prove '..Said' where nothing that the law and all that it calls make is longer than what came in: it says more and counts as full. Else prove '..UptoSaid'. A law counts once. -/
mutual
def uptoBulk {H : Type} : DataW H → Nat
  | .lit (.string bytes) => bytes.length + 1
  | .lit _ => 1
  | .nil => 1
  | .ptr d => uptoBulk d + 1
  | .slice elems spare => uptoBulkAll elems + uptoBulkAll spare + 1
  | .agg parts => uptoBulkAll parts + 1
  | .iface _ d => uptoBulk d + 1
  | .map entries => uptoBulkEntries entries + 1
  | .held _ => 1
def uptoBulkAll {H : Type} : List (DataW H) → Nat
  | [] => 0
  | d :: r => uptoBulk d + uptoBulkAll r
def uptoBulkEntries {H : Type} : List (Lit × DataW H) → Nat
  | [] => 0
  | x :: r => uptoBulkEntry x + uptoBulkEntries r
def uptoBulkEntry {H : Type} : Lit × DataW H → Nat
  | (.string bytes, d) => bytes.length + uptoBulk d + 1
  | (_, d) => uptoBulk d + 1
 end
def uptoSmall : (H : Type) → List (DataW H) → Bool := fun _ ds => decide (uptoBulkAll ds ≤ 1048576)
def OpenSpec.upto (s : _root_.Go.ChangeSpec) : _root_.Go.OpenSpec := { _root_.Go.OpenSpec.ofChange s with cond := some uptoSmall }

/-- 'laws.FnExactTouchedBy', WHERE WHAT IT READS IS OF BULK AT MOST 1048576: true; the input reads as it did. -/
def fnExactTouchedByUptoRow : OpenClaim := { program := "ytfmkhnlnomkcfaa", sum := "cf19749c6508eefe1a9196d8688416a41867a3d6973c3b57d524c038fa9cd538", func := "loop.example/g00869/laws.FnExactTouchedBy", spec := "fnExactTouchedBy", plainKeys := false, apart := false, narrowed := true }
def FnExactTouchedByUptoSaid : Prop := fnExactTouchedByUptoRow.holds Try.pinned (OpenSpec.upto fnExactTouchedBySpec)

/-- 'laws.FnExactCircuitMachine', WHERE WHAT IT READS IS OF BULK AT MOST 1048576: true; the input reads as it did. -/
def fnExactCircuitMachineUptoRow : OpenClaim := { program := "ytfmkhnlnomkcfaa", sum := "cf19749c6508eefe1a9196d8688416a41867a3d6973c3b57d524c038fa9cd538", func := "loop.example/g00869/laws.FnExactCircuitMachine", spec := "fnExactCircuitMachine", unfollowed := true, recurses := true, plainKeys := false, apart := false, narrowed := true }
def FnExactCircuitMachineUptoSaid : Prop := fnExactCircuitMachineUptoRow.holds Try.pinned (OpenSpec.upto fnExactCircuitMachineSpec)

/-- 'laws.FnExactCircuitMeets', WHERE WHAT IT READS IS OF BULK AT MOST 1048576: true; the input reads as it did. -/
def fnExactCircuitMeetsUptoRow : OpenClaim := { program := "ytfmkhnlnomkcfaa", sum := "cf19749c6508eefe1a9196d8688416a41867a3d6973c3b57d524c038fa9cd538", func := "loop.example/g00869/laws.FnExactCircuitMeets", spec := "fnExactCircuitMeets", unfollowed := true, recurses := true, plainKeys := false, apart := false, narrowed := true }
def FnExactCircuitMeetsUptoSaid : Prop := fnExactCircuitMeetsUptoRow.holds Try.pinned (OpenSpec.upto fnExactCircuitMeetsSpec)

/-- 'laws.FnExactTidiedCircuit', WHERE WHAT IT READS IS OF BULK AT MOST 1048576: true; the input reads as it did. -/
def fnExactTidiedCircuitUptoRow : OpenClaim := { program := "ytfmkhnlnomkcfaa", sum := "cf19749c6508eefe1a9196d8688416a41867a3d6973c3b57d524c038fa9cd538", func := "loop.example/g00869/laws.FnExactTidiedCircuit", spec := "fnExactTidiedCircuit", unfollowed := true, recurses := true, plainKeys := false, apart := false, narrowed := true }
def FnExactTidiedCircuitUptoSaid : Prop := fnExactTidiedCircuitUptoRow.holds Try.pinned (OpenSpec.upto fnExactTidiedCircuitSpec)

/-- 'laws.FnExactWatchOf', WHERE WHAT IT READS IS OF BULK AT MOST 1048576: true; the input reads as it did. -/
def fnExactWatchOfUptoRow : OpenClaim := { program := "ytfmkhnlnomkcfaa", sum := "cf19749c6508eefe1a9196d8688416a41867a3d6973c3b57d524c038fa9cd538", func := "loop.example/g00869/laws.FnExactWatchOf", spec := "fnExactWatchOf", unfollowed := true, recurses := true, plainKeys := false, apart := false, narrowed := true }
def FnExactWatchOfUptoSaid : Prop := fnExactWatchOfUptoRow.holds Try.pinned (OpenSpec.upto fnExactWatchOfSpec)

/-- 'laws.FnExactCircuitOf', WHERE WHAT IT READS IS OF BULK AT MOST 1048576: true; the input reads as it did. -/
def fnExactCircuitOfUptoRow : OpenClaim := { program := "ytfmkhnlnomkcfaa", sum := "cf19749c6508eefe1a9196d8688416a41867a3d6973c3b57d524c038fa9cd538", func := "loop.example/g00869/laws.FnExactCircuitOf", spec := "fnExactCircuitOf", unfollowed := true, recurses := true, plainKeys := false, apart := false, narrowed := true }
def FnExactCircuitOfUptoSaid : Prop := fnExactCircuitOfUptoRow.holds Try.pinned (OpenSpec.upto fnExactCircuitOfSpec)

/-- 'laws.FnExactKeepsOn', WHERE WHAT IT READS IS OF BULK AT MOST 1048576: true; the input reads as it did. -/
def fnExactKeepsOnUptoRow : OpenClaim := { program := "ytfmkhnlnomkcfaa", sum := "cf19749c6508eefe1a9196d8688416a41867a3d6973c3b57d524c038fa9cd538", func := "loop.example/g00869/laws.FnExactKeepsOn", spec := "fnExactKeepsOn", unfollowed := true, recurses := true, plainKeys := false, apart := false, narrowed := true }
def FnExactKeepsOnUptoSaid : Prop := fnExactKeepsOnUptoRow.holds Try.pinned (OpenSpec.upto fnExactKeepsOnSpec)

/-- 'laws.FnExactEdited', WHERE WHAT IT READS IS OF BULK AT MOST 1048576: true; the input reads as it did. -/
def fnExactEditedUptoRow : OpenClaim := { program := "ytfmkhnlnomkcfaa", sum := "cf19749c6508eefe1a9196d8688416a41867a3d6973c3b57d524c038fa9cd538", func := "loop.example/g00869/laws.FnExactEdited", spec := "fnExactEdited", recurses := true, plainKeys := false, apart := false, narrowed := true }
def FnExactEditedUptoSaid : Prop := fnExactEditedUptoRow.holds Try.pinned (OpenSpec.upto fnExactEditedSpec)

/-- 'laws.FnExactEditedAll', WHERE WHAT IT READS IS OF BULK AT MOST 1048576: true; the input reads as it did. -/
def fnExactEditedAllUptoRow : OpenClaim := { program := "ytfmkhnlnomkcfaa", sum := "cf19749c6508eefe1a9196d8688416a41867a3d6973c3b57d524c038fa9cd538", func := "loop.example/g00869/laws.FnExactEditedAll", spec := "fnExactEditedAll", recurses := true, plainKeys := false, apart := false, narrowed := true }
def FnExactEditedAllUptoSaid : Prop := fnExactEditedAllUptoRow.holds Try.pinned (OpenSpec.upto fnExactEditedAllSpec)

/-- 'laws.FnLeastSame', WHERE WHAT IT READS IS OF BULK AT MOST 1048576: true; the input reads as it did. -/
def fnLeastSameUptoRow : OpenClaim := { program := "ytfmkhnlnomkcfaa", sum := "cf19749c6508eefe1a9196d8688416a41867a3d6973c3b57d524c038fa9cd538", func := "loop.example/g00869/laws.FnLeastSame", spec := "fnLeastSame", unfollowed := true, recurses := true, plainKeys := false, apart := false, narrowed := true }
def FnLeastSameUptoSaid : Prop := fnLeastSameUptoRow.holds Try.pinned (OpenSpec.upto fnLeastSameSpec)

end Rows
end Go.Proofs.Ytfmkhnlnomkcfaa
