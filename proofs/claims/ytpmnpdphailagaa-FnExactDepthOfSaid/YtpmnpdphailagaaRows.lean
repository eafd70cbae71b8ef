/-
  No cell of these rows narrows 'for every input' (looked for: loops, veiled, ifaces, maps, wideKeys, modest, calm, conditions, laid).
  DERIVED. THE GIVEN ROWS OF THIS SEAT. 6 by the template 'for every input the law returns true; each argument reads behind the call as it read before'; 0 by the template 'total and deterministic' (their statements: YtpmnpdphailagaaTotals.lean).
  GIVEN WITH THE SEED: the statements are not yours to turn. If you find one false, say at which input.
  Laid BY PROGRAM, IN A SANDBOX (cutbox-rows.mjs): the forced cells as the released guide's own fill.sh prints them over the translation e054f47e8a6323a1… (all of the seat's roots in one cut). By AI agents, Wed Nov 11 2026. No macro, syntax, notation, axiom, sorry.
-/
import Derived.Test.YtpmnpdphailagaaChecked
import GoSem.Claim
import GoSem.ClaimJoined
import GoSem.ClaimMapViews
import Derived.JoinedTies
import Derived.KernelRfl
namespace Go.Proofs.Ytpmnpdphailagaa
/- THE CELL 'sum', in the pinned program and in every row, IS THE sha256 OF THE DUMP (.gsa) THAT YtpmnpdphailagaaProg.lean LOADS. Nothing in Lean hashes anything: it is a label: what it is worth is what the hold of that sum in a sandbox is worth. -/
noncomputable def Try.pinned : Pinned := { name := "ytpmnpdphailagaa", sum := "e054f47e8a6323a17d22eeda254c8f5f5563bc0483602508072b09731b42d73a", checked := Try.checked }
namespace Rows
def none {H : Type} : Left H := { results := [], args := [] }

/-- 'laws.FnExactRivalOk': WHATEVER THE INPUT: true; the input reads as it did. -/
def fnExactRivalOkSpec : ChangeSpec := { name := "fnExactRivalOk", fn := fun _ => fun
  | [d1, d2] => { results := [.lit (.bool true)], args := [d1, d2] }
  | _ => none }
def fnExactRivalOkRow : OpenClaim := { program := "ytpmnpdphailagaa", sum := "e054f47e8a6323a17d22eeda254c8f5f5563bc0483602508072b09731b42d73a", func := "loop.example/g00869/laws.FnExactRivalOk", spec := "fnExactRivalOk", unfollowed := true, recurses := true, apart := false }
def FnExactRivalOkSaid : Prop := fnExactRivalOkRow.holds Try.pinned (OpenSpec.ofChange fnExactRivalOkSpec)

/-- ITS FALSE NEIGHBOUR: 'it returns false'. Refute it at one input. -/
def fnExactRivalOkWrong : ChangeSpec := { name := "fnExactRivalOk", fn := fun _ => fun
  | [d1, d2] => { results := [.lit (.bool false)], args := [d1, d2] }
  | _ => none }
def FnExactRivalOkWrongFalsely : Prop := fnExactRivalOkRow.holds Try.pinned (OpenSpec.ofChange fnExactRivalOkWrong)

/-- 'laws.FnExactCircuitOk': WHATEVER THE INPUT: true; the input reads as it did. -/
def fnExactCircuitOkSpec : ChangeSpec := { name := "fnExactCircuitOk", fn := fun _ => fun
  | [d] => { results := [.lit (.bool true)], args := [d] }
  | _ => none }
def fnExactCircuitOkRow : OpenClaim := { program := "ytpmnpdphailagaa", sum := "e054f47e8a6323a17d22eeda254c8f5f5563bc0483602508072b09731b42d73a", func := "loop.example/g00869/laws.FnExactCircuitOk", spec := "fnExactCircuitOk", unfollowed := true, recurses := true, apart := false }
def FnExactCircuitOkSaid : Prop := fnExactCircuitOkRow.holds Try.pinned (OpenSpec.ofChange fnExactCircuitOkSpec)

/-- ITS FALSE NEIGHBOUR: 'it returns false'. Refute it at one input. -/
def fnExactCircuitOkWrong : ChangeSpec := { name := "fnExactCircuitOk", fn := fun _ => fun
  | [d] => { results := [.lit (.bool false)], args := [d] }
  | _ => none }
def FnExactCircuitOkWrongFalsely : Prop := fnExactCircuitOkRow.holds Try.pinned (OpenSpec.ofChange fnExactCircuitOkWrong)

/-- 'laws.FnExactDepthOf': WHATEVER THE INPUT: true; the input reads as it did. -/
def fnExactDepthOfSpec : ChangeSpec := { name := "fnExactDepthOf", fn := fun _ => fun
  | [d] => { results := [.lit (.bool true)], args := [d] }
  | _ => none }
def fnExactDepthOfRow : OpenClaim := { program := "ytpmnpdphailagaa", sum := "e054f47e8a6323a17d22eeda254c8f5f5563bc0483602508072b09731b42d73a", func := "loop.example/g00869/laws.FnExactDepthOf", spec := "fnExactDepthOf", unfollowed := true, recurses := true, apart := false }
def FnExactDepthOfSaid : Prop := fnExactDepthOfRow.holds Try.pinned (OpenSpec.ofChange fnExactDepthOfSpec)

/-- ITS FALSE NEIGHBOUR: 'it returns false'. Refute it at one input. -/
def fnExactDepthOfWrong : ChangeSpec := { name := "fnExactDepthOf", fn := fun _ => fun
  | [d] => { results := [.lit (.bool false)], args := [d] }
  | _ => none }
def FnExactDepthOfWrongFalsely : Prop := fnExactDepthOfRow.holds Try.pinned (OpenSpec.ofChange fnExactDepthOfWrong)

/-- 'laws.FnExactSameRival': WHATEVER THE INPUT: true; the input reads as it did. -/
def fnExactSameRivalSpec : ChangeSpec := { name := "fnExactSameRival", fn := fun _ => fun
  | [d1, d2, d3] => { results := [.lit (.bool true)], args := [d1, d2, d3] }
  | _ => none }
def fnExactSameRivalRow : OpenClaim := { program := "ytpmnpdphailagaa", sum := "e054f47e8a6323a17d22eeda254c8f5f5563bc0483602508072b09731b42d73a", func := "loop.example/g00869/laws.FnExactSameRival", spec := "fnExactSameRival", unfollowed := true, recurses := true, apart := false }
def FnExactSameRivalSaid : Prop := fnExactSameRivalRow.holds Try.pinned (OpenSpec.ofChange fnExactSameRivalSpec)

/-- ITS FALSE NEIGHBOUR: 'it returns false'. Refute it at one input. -/
def fnExactSameRivalWrong : ChangeSpec := { name := "fnExactSameRival", fn := fun _ => fun
  | [d1, d2, d3] => { results := [.lit (.bool false)], args := [d1, d2, d3] }
  | _ => none }
def FnExactSameRivalWrongFalsely : Prop := fnExactSameRivalRow.holds Try.pinned (OpenSpec.ofChange fnExactSameRivalWrong)

/-- 'laws.FnExactInputsFor': WHATEVER THE INPUT: true; the input reads as it did. -/
def fnExactInputsForSpec : ChangeSpec := { name := "fnExactInputsFor", fn := fun _ => fun
  | [d1, d2, d3] => { results := [.lit (.bool true)], args := [d1, d2, d3] }
  | _ => none }
def fnExactInputsForRow : OpenClaim := { program := "ytpmnpdphailagaa", sum := "e054f47e8a6323a17d22eeda254c8f5f5563bc0483602508072b09731b42d73a", func := "loop.example/g00869/laws.FnExactInputsFor", spec := "fnExactInputsFor", unfollowed := true, recurses := true, apart := false }
def FnExactInputsForSaid : Prop := fnExactInputsForRow.holds Try.pinned (OpenSpec.ofChange fnExactInputsForSpec)

/-- ITS FALSE NEIGHBOUR: 'it returns false'. Refute it at one input. -/
def fnExactInputsForWrong : ChangeSpec := { name := "fnExactInputsFor", fn := fun _ => fun
  | [d1, d2, d3] => { results := [.lit (.bool false)], args := [d1, d2, d3] }
  | _ => none }
def FnExactInputsForWrongFalsely : Prop := fnExactInputsForRow.holds Try.pinned (OpenSpec.ofChange fnExactInputsForWrong)

/-- 'laws.FnExactStepOf': WHATEVER THE INPUT: true; the input reads as it did. -/
def fnExactStepOfSpec : ChangeSpec := { name := "fnExactStepOf", fn := fun _ => fun
  | [d1, d2, d3] => { results := [.lit (.bool true)], args := [d1, d2, d3] }
  | _ => none }
def fnExactStepOfRow : OpenClaim := { program := "ytpmnpdphailagaa", sum := "e054f47e8a6323a17d22eeda254c8f5f5563bc0483602508072b09731b42d73a", func := "loop.example/g00869/laws.FnExactStepOf", spec := "fnExactStepOf", unfollowed := true, recurses := true, apart := false }
def FnExactStepOfSaid : Prop := fnExactStepOfRow.holds Try.pinned (OpenSpec.ofChange fnExactStepOfSpec)

/-- ITS FALSE NEIGHBOUR: 'it returns false'. Refute it at one input. -/
def fnExactStepOfWrong : ChangeSpec := { name := "fnExactStepOf", fn := fun _ => fun
  | [d1, d2, d3] => { results := [.lit (.bool false)], args := [d1, d2, d3] }
  | _ => none }
def FnExactStepOfWrongFalsely : Prop := fnExactStepOfRow.holds Try.pinned (OpenSpec.ofChange fnExactStepOfWrong)

/- THE SECOND FORM. 'bulk': how many values and letters a reading holds, each counted each time it is reached (what is shared counts as often as it is met; a slice's spare places count too). A statement '..UptoSaid' is the law's where the arguments, and the package variables that the reading takes, are together of bulk at most 1048576: NARROWER than '..Said'. Prove '..Said' where nothing that the law and all that it calls make is longer than what came in: it says more and counts as full. Else prove '..UptoSaid'. A law counts once. -/
mutual
def uptoBulk {H : Type} : DataW H → Nat
  | .lit (.string bytes) => bytes.length + 1
  | .lit _ => 1
  | .nil => 1
  | .ptr d => uptoBulk d + 1
  | .slice elems spare => uptoBulkAll elems + uptoBulkAll spare + 1
  | .agg parts => uptoBulkAll parts + 1
  | .iface _ d => uptoBulk d + 1
  | .map entries => uptoBulkEntries entries + 1
  | .held _ => 1
def uptoBulkAll {H : Type} : List (DataW H) → Nat
  | [] => 0
  | d :: r => uptoBulk d + uptoBulkAll r
def uptoBulkEntries {H : Type} : List (Lit × DataW H) → Nat
  | [] => 0
  | x :: r => uptoBulkEntry x + uptoBulkEntries r
def uptoBulkEntry {H : Type} : Lit × DataW H → Nat
  | (.string bytes, d) => bytes.length + uptoBulk d + 1
  | (_, d) => uptoBulk d + 1
 end
def uptoSmall : (H : Type) → List (DataW H) → Bool := fun _ ds => decide (uptoBulkAll ds ≤ 1048576)
def OpenSpec.upto (s : _root_.Go.ChangeSpec) : _root_.Go.OpenSpec := { _root_.Go.OpenSpec.ofChange s with cond := some uptoSmall }

/-- 'laws.FnExactRivalOk', WHERE WHAT IT READS IS OF BULK AT MOST 1048576: true; the input reads as it did. -/
def fnExactRivalOkUptoRow : OpenClaim := { program := "ytpmnpdphailagaa", sum := "e054f47e8a6323a17d22eeda254c8f5f5563bc0483602508072b09731b42d73a", func := "loop.example/g00869/laws.FnExactRivalOk", spec := "fnExactRivalOk", unfollowed := true, recurses := true, apart := false, narrowed := true }
def FnExactRivalOkUptoSaid : Prop := fnExactRivalOkUptoRow.holds Try.pinned (OpenSpec.upto fnExactRivalOkSpec)

/-- 'laws.FnExactCircuitOk', WHERE WHAT IT READS IS OF BULK AT MOST 1048576: true; the input reads as it did. -/
def fnExactCircuitOkUptoRow : OpenClaim := { program := "ytpmnpdphailagaa", sum := "e054f47e8a6323a17d22eeda254c8f5f5563bc0483602508072b09731b42d73a", func := "loop.example/g00869/laws.FnExactCircuitOk", spec := "fnExactCircuitOk", unfollowed := true, recurses := true, apart := false, narrowed := true }
def FnExactCircuitOkUptoSaid : Prop := fnExactCircuitOkUptoRow.holds Try.pinned (OpenSpec.upto fnExactCircuitOkSpec)

/-- 'laws.FnExactDepthOf', WHERE WHAT IT READS IS OF BULK AT MOST 1048576: true; the input reads as it did. -/
def fnExactDepthOfUptoRow : OpenClaim := { program := "ytpmnpdphailagaa", sum := "e054f47e8a6323a17d22eeda254c8f5f5563bc0483602508072b09731b42d73a", func := "loop.example/g00869/laws.FnExactDepthOf", spec := "fnExactDepthOf", unfollowed := true, recurses := true, apart := false, narrowed := true }
def FnExactDepthOfUptoSaid : Prop := fnExactDepthOfUptoRow.holds Try.pinned (OpenSpec.upto fnExactDepthOfSpec)

/-- 'laws.FnExactSameRival', WHERE WHAT IT READS IS OF BULK AT MOST 1048576: true; the input reads as it did. -/
def fnExactSameRivalUptoRow : OpenClaim := { program := "ytpmnpdphailagaa", sum := "e054f47e8a6323a17d22eeda254c8f5f5563bc0483602508072b09731b42d73a", func := "loop.example/g00869/laws.FnExactSameRival", spec := "fnExactSameRival", unfollowed := true, recurses := true, apart := false, narrowed := true }
def FnExactSameRivalUptoSaid : Prop := fnExactSameRivalUptoRow.holds Try.pinned (OpenSpec.upto fnExactSameRivalSpec)

/-- 'laws.FnExactInputsFor', WHERE WHAT IT READS IS OF BULK AT MOST 1048576: true; the input reads as it did. -/
def fnExactInputsForUptoRow : OpenClaim := { program := "ytpmnpdphailagaa", sum := "e054f47e8a6323a17d22eeda254c8f5f5563bc0483602508072b09731b42d73a", func := "loop.example/g00869/laws.FnExactInputsFor", spec := "fnExactInputsFor", unfollowed := true, recurses := true, apart := false, narrowed := true }
def FnExactInputsForUptoSaid : Prop := fnExactInputsForUptoRow.holds Try.pinned (OpenSpec.upto fnExactInputsForSpec)

/-- 'laws.FnExactStepOf', WHERE WHAT IT READS IS OF BULK AT MOST 1048576: true; the input reads as it did. -/
def fnExactStepOfUptoRow : OpenClaim := { program := "ytpmnpdphailagaa", sum := "e054f47e8a6323a17d22eeda254c8f5f5563bc0483602508072b09731b42d73a", func := "loop.example/g00869/laws.FnExactStepOf", spec := "fnExactStepOf", unfollowed := true, recurses := true, apart := false, narrowed := true }
def FnExactStepOfUptoSaid : Prop := fnExactStepOfUptoRow.holds Try.pinned (OpenSpec.upto fnExactStepOfSpec)

end Rows
end Go.Proofs.Ytpmnpdphailagaa
