/-
  No cell of these rows narrows 'for every input' (looked for: loops, veiled, ifaces, maps, wideKeys, modest, calm, conditions, laid).
  DERIVED. THE GIVEN ROWS OF THIS SEAT. 3 by the template 'for every input the law returns true; each argument reads behind the call as it read before'; 0 by the template 'total and deterministic' (their statements: YthjkonkcdfdfaaaTotals.lean).
  GIVEN WITH THE SEED: the statements are not yours to turn. If you find one false, say at which input.
  Laid BY PROGRAM, IN A SANDBOX (cutbox-rows.mjs): the forced cells as the released guide's own fill.sh prints them over the translation 6debf6378dbee36c… (all of the seat's roots in one cut). By AI agents, Wed Nov 11 2026. No macro, syntax, notation, axiom, sorry.
-/
import Derived.Test.YthjkonkcdfdfaaaChecked
import GoSem.Claim
import GoSem.ClaimJoined
import GoSem.ClaimMapViews
import Derived.JoinedTies
import Derived.KernelRfl
namespace Go.Proofs.Ythjkonkcdfdfaaa
/- THE CELL 'sum', in the pinned program and in every row, IS THE sha256 OF THE DUMP (.gsa) THAT YthjkonkcdfdfaaaProg.lean LOADS. Nothing in Lean hashes anything: it is a label: what it is worth is what the hold of that sum in a sandbox is worth. -/
noncomputable def Try.pinned : Pinned := { name := "ythjkonkcdfdfaaa", sum := "6debf6378dbee36c0c966cc648d2b015c90e0e0df1007f44629145ff2d6140cc", checked := Try.checked }
namespace Rows
def none {H : Type} : Left H := { results := [], args := [] }

/-- 'laws.FnTidied': WHATEVER THE INPUT: true; the input reads as it did. -/
def fnTidiedSpec : ChangeSpec := { name := "fnTidied", fn := fun _ => fun
  | [d] => { results := [.lit (.bool true)], args := [d] }
  | _ => none }
def fnTidiedRow : OpenClaim := { program := "ythjkonkcdfdfaaa", sum := "6debf6378dbee36c0c966cc648d2b015c90e0e0df1007f44629145ff2d6140cc", func := "loop.example/g00869/laws.FnTidied", spec := "fnTidied", unfollowed := true, recurses := true, plainKeys := false, apart := false }
def FnTidiedSaid : Prop := fnTidiedRow.holds Try.pinned (OpenSpec.ofChange fnTidiedSpec)

/-- ITS FALSE NEIGHBOUR: 'it returns false'. Refute it at one input. -/
def fnTidiedWrong : ChangeSpec := { name := "fnTidied", fn := fun _ => fun
  | [d] => { results := [.lit (.bool false)], args := [d] }
  | _ => none }
def FnTidiedWrongFalsely : Prop := fnTidiedRow.holds Try.pinned (OpenSpec.ofChange fnTidiedWrong)

/-- 'laws.FnJoined': WHATEVER THE INPUT: true; the input reads as it did. -/
def fnJoinedSpec : ChangeSpec := { name := "fnJoined", fn := fun _ => fun
  | [d] => { results := [.lit (.bool true)], args := [d] }
  | _ => none }
def fnJoinedRow : OpenClaim := { program := "ythjkonkcdfdfaaa", sum := "6debf6378dbee36c0c966cc648d2b015c90e0e0df1007f44629145ff2d6140cc", func := "loop.example/g00869/laws.FnJoined", spec := "fnJoined", unfollowed := true, recurses := true, plainKeys := false, apart := false }
def FnJoinedSaid : Prop := fnJoinedRow.holds Try.pinned (OpenSpec.ofChange fnJoinedSpec)

/-- ITS FALSE NEIGHBOUR: 'it returns false'. Refute it at one input. -/
def fnJoinedWrong : ChangeSpec := { name := "fnJoined", fn := fun _ => fun
  | [d] => { results := [.lit (.bool false)], args := [d] }
  | _ => none }
def FnJoinedWrongFalsely : Prop := fnJoinedRow.holds Try.pinned (OpenSpec.ofChange fnJoinedWrong)

/-- 'laws.FnCircuit': WHATEVER THE INPUT: true; the input reads as it did. -/
def fnCircuitSpec : ChangeSpec := { name := "fnCircuit", fn := fun _ => fun
  | [d] => { results := [.lit (.bool true)], args := [d] }
  | _ => none }
def fnCircuitRow : OpenClaim := { program := "ythjkonkcdfdfaaa", sum := "6debf6378dbee36c0c966cc648d2b015c90e0e0df1007f44629145ff2d6140cc", func := "loop.example/g00869/laws.FnCircuit", spec := "fnCircuit", unfollowed := true, recurses := true, plainKeys := false, apart := false }
def FnCircuitSaid : Prop := fnCircuitRow.holds Try.pinned (OpenSpec.ofChange fnCircuitSpec)

/-- ITS FALSE NEIGHBOUR: 'it returns false'. Refute it at one input. -/
def fnCircuitWrong : ChangeSpec := { name := "fnCircuit", fn := fun _ => fun
  | [d] => { results := [.lit (.bool false)], args := [d] }
  | _ => none }
def FnCircuitWrongFalsely : Prop := fnCircuitRow.holds Try.pinned (OpenSpec.ofChange fnCircuitWrong)

/- THE SECOND FORM. 'bulk': how many values and letters a reading holds, each counted each time it is reached (what is shared counts as often as it is met; a slice's spare places count too). A statement '..UptoSaid' is the law's where the arguments, and the package variables that the reading takes, are together of bulk at most 1048576: NARROWER than '..Said'. Prove '..Said' where nothing that the law and all that it calls make is longer than what came in: it says more and counts as full. Else prove '..UptoSaid'. A law counts once. -/
mutual
def uptoBulk {H : Type} : DataW H → Nat
  | .lit (.string bytes) => bytes.length + 1
  | .lit _ => 1
  | .nil => 1
  | .ptr d => uptoBulk d + 1
  | .slice elems spare => uptoBulkAll elems + uptoBulkAll spare + 1
  | .agg parts => uptoBulkAll parts + 1
  | .iface _ d => uptoBulk d + 1
  | .map entries => uptoBulkEntries entries + 1
  | .held _ => 1
def uptoBulkAll {H : Type} : List (DataW H) → Nat
  | [] => 0
  | d :: r => uptoBulk d + uptoBulkAll r
def uptoBulkEntries {H : Type} : List (Lit × DataW H) → Nat
  | [] => 0
  | x :: r => uptoBulkEntry x + uptoBulkEntries r
def uptoBulkEntry {H : Type} : Lit × DataW H → Nat
  | (.string bytes, d) => bytes.length + uptoBulk d + 1
  | (_, d) => uptoBulk d + 1
 end
def uptoSmall : (H : Type) → List (DataW H) → Bool := fun _ ds => decide (uptoBulkAll ds ≤ 1048576)
def OpenSpec.upto (s : _root_.Go.ChangeSpec) : _root_.Go.OpenSpec := { _root_.Go.OpenSpec.ofChange s with cond := some uptoSmall }

/-- 'laws.FnTidied', WHERE WHAT IT READS IS OF BULK AT MOST 1048576: true; the input reads as it did. -/
def fnTidiedUptoRow : OpenClaim := { program := "ythjkonkcdfdfaaa", sum := "6debf6378dbee36c0c966cc648d2b015c90e0e0df1007f44629145ff2d6140cc", func := "loop.example/g00869/laws.FnTidied", spec := "fnTidied", unfollowed := true, recurses := true, plainKeys := false, apart := false, narrowed := true }
def FnTidiedUptoSaid : Prop := fnTidiedUptoRow.holds Try.pinned (OpenSpec.upto fnTidiedSpec)

/-- 'laws.FnJoined', WHERE WHAT IT READS IS OF BULK AT MOST 1048576: true; the input reads as it did. -/
def fnJoinedUptoRow : OpenClaim := { program := "ythjkonkcdfdfaaa", sum := "6debf6378dbee36c0c966cc648d2b015c90e0e0df1007f44629145ff2d6140cc", func := "loop.example/g00869/laws.FnJoined", spec := "fnJoined", unfollowed := true, recurses := true, plainKeys := false, apart := false, narrowed := true }
def FnJoinedUptoSaid : Prop := fnJoinedUptoRow.holds Try.pinned (OpenSpec.upto fnJoinedSpec)

/-- 'laws.FnCircuit', WHERE WHAT IT READS IS OF BULK AT MOST 1048576: true; the input reads as it did. -/
def fnCircuitUptoRow : OpenClaim := { program := "ythjkonkcdfdfaaa", sum := "6debf6378dbee36c0c966cc648d2b015c90e0e0df1007f44629145ff2d6140cc", func := "loop.example/g00869/laws.FnCircuit", spec := "fnCircuit", unfollowed := true, recurses := true, plainKeys := false, apart := false, narrowed := true }
def FnCircuitUptoSaid : Prop := fnCircuitUptoRow.holds Try.pinned (OpenSpec.upto fnCircuitSpec)

end Rows
end Go.Proofs.Ythjkonkcdfdfaaa
