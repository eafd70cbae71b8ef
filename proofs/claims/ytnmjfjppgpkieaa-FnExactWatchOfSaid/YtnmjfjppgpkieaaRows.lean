/-
  No cell of these rows narrows 'for every input' (looked for: loops, veiled, ifaces, maps, wideKeys, modest, calm, conditions, laid).
  DERIVED. THE GIVEN ROWS OF THIS SEAT. 4 by the template 'for every input the law returns true; each argument reads behind the call as it read before'; 0 by the template 'total and deterministic' (their statements: YtnmjfjppgpkieaaTotals.lean).
  GIVEN WITH THE SEED: the statements are not yours to turn. If you find one false, say at which input.
  Laid BY PROGRAM, IN A SANDBOX (cutbox-rows.mjs): the forced cells as the released guide's own fill.sh prints them over the translation f8cce3d104e88622… (all of the seat's roots in one cut). By AI agents, Wed Nov 11 2026. No macro, syntax, notation, axiom, sorry.
-/
import Derived.Test.YtnmjfjppgpkieaaChecked
import GoSem.Claim
import GoSem.ClaimJoined
import GoSem.ClaimMapViews
import Derived.JoinedTies
import Derived.KernelRfl
namespace Go.Proofs.Ytnmjfjppgpkieaa
/- THE CELL 'sum', in the pinned program and in every row, IS THE sha256 OF THE DUMP (.gsa) THAT YtnmjfjppgpkieaaProg.lean LOADS. Nothing in Lean hashes anything: it is a label: what it is worth is what the hold of that sum in a sandbox is worth. -/
noncomputable def Try.pinned : Pinned := { name := "ytnmjfjppgpkieaa", sum := "f8cce3d104e886226d54a88699082dadd7f1578fa13960e66d5cde2270837d8b", checked := Try.checked }
namespace Rows
def none {H : Type} : Left H := { results := [], args := [] }

/-- 'laws.FnExactKeepsOn': WHATEVER THE INPUT: true; the input reads as it did. -/
def fnExactKeepsOnSpec : ChangeSpec := { name := "fnExactKeepsOn", fn := fun _ => fun
  | [d1, d2, d3, d4] => { results := [.lit (.bool true)], args := [d1, d2, d3, d4] }
  | _ => none }
def fnExactKeepsOnRow : OpenClaim := { program := "ytnmjfjppgpkieaa", sum := "f8cce3d104e886226d54a88699082dadd7f1578fa13960e66d5cde2270837d8b", func := "loop.example/g00869/laws.FnExactKeepsOn", spec := "fnExactKeepsOn", unfollowed := true, recurses := true, plainKeys := false, apart := false }
def FnExactKeepsOnSaid : Prop := fnExactKeepsOnRow.holds Try.pinned (OpenSpec.ofChange fnExactKeepsOnSpec)

/-- ITS FALSE NEIGHBOUR: 'it returns false'. Refute it at one input. -/
def fnExactKeepsOnWrong : ChangeSpec := { name := "fnExactKeepsOn", fn := fun _ => fun
  | [d1, d2, d3, d4] => { results := [.lit (.bool false)], args := [d1, d2, d3, d4] }
  | _ => none }
def FnExactKeepsOnWrongFalsely : Prop := fnExactKeepsOnRow.holds Try.pinned (OpenSpec.ofChange fnExactKeepsOnWrong)

/-- 'laws.FnExactWatchOf': WHATEVER THE INPUT: true; the input reads as it did. -/
def fnExactWatchOfSpec : ChangeSpec := { name := "fnExactWatchOf", fn := fun _ => fun
  | [d1, d2, d3] => { results := [.lit (.bool true)], args := [d1, d2, d3] }
  | _ => none }
def fnExactWatchOfRow : OpenClaim := { program := "ytnmjfjppgpkieaa", sum := "f8cce3d104e886226d54a88699082dadd7f1578fa13960e66d5cde2270837d8b", func := "loop.example/g00869/laws.FnExactWatchOf", spec := "fnExactWatchOf", unfollowed := true, recurses := true, plainKeys := false, apart := false }
def FnExactWatchOfSaid : Prop := fnExactWatchOfRow.holds Try.pinned (OpenSpec.ofChange fnExactWatchOfSpec)

/-- ITS FALSE NEIGHBOUR: 'it returns false'. Refute it at one input. -/
def fnExactWatchOfWrong : ChangeSpec := { name := "fnExactWatchOf", fn := fun _ => fun
  | [d1, d2, d3] => { results := [.lit (.bool false)], args := [d1, d2, d3] }
  | _ => none }
def FnExactWatchOfWrongFalsely : Prop := fnExactWatchOfRow.holds Try.pinned (OpenSpec.ofChange fnExactWatchOfWrong)

/-- 'laws.FnExactEdited': WHATEVER THE INPUT: true; the input reads as it did. -/
def fnExactEditedSpec : ChangeSpec := { name := "fnExactEdited", fn := fun _ => fun
  | [d1, d2] => { results := [.lit (.bool true)], args := [d1, d2] }
  | _ => none }
def fnExactEditedRow : OpenClaim := { program := "ytnmjfjppgpkieaa", sum := "f8cce3d104e886226d54a88699082dadd7f1578fa13960e66d5cde2270837d8b", func := "loop.example/g00869/laws.FnExactEdited", spec := "fnExactEdited", recurses := true, plainKeys := false, apart := false }
def FnExactEditedSaid : Prop := fnExactEditedRow.holds Try.pinned (OpenSpec.ofChange fnExactEditedSpec)

/-- ITS FALSE NEIGHBOUR: 'it returns false'. Refute it at one input. -/
def fnExactEditedWrong : ChangeSpec := { name := "fnExactEdited", fn := fun _ => fun
  | [d1, d2] => { results := [.lit (.bool false)], args := [d1, d2] }
  | _ => none }
def FnExactEditedWrongFalsely : Prop := fnExactEditedRow.holds Try.pinned (OpenSpec.ofChange fnExactEditedWrong)

/-- 'laws.FnExactEditedAll': WHATEVER THE INPUT: true; the input reads as it did. -/
def fnExactEditedAllSpec : ChangeSpec := { name := "fnExactEditedAll", fn := fun _ => fun
  | [d1, d2] => { results := [.lit (.bool true)], args := [d1, d2] }
  | _ => none }
def fnExactEditedAllRow : OpenClaim := { program := "ytnmjfjppgpkieaa", sum := "f8cce3d104e886226d54a88699082dadd7f1578fa13960e66d5cde2270837d8b", func := "loop.example/g00869/laws.FnExactEditedAll", spec := "fnExactEditedAll", recurses := true, plainKeys := false, apart := false }
def FnExactEditedAllSaid : Prop := fnExactEditedAllRow.holds Try.pinned (OpenSpec.ofChange fnExactEditedAllSpec)

/-- ITS FALSE NEIGHBOUR: 'it returns false'. Refute it at one input. -/
def fnExactEditedAllWrong : ChangeSpec := { name := "fnExactEditedAll", fn := fun _ => fun
  | [d1, d2] => { results := [.lit (.bool false)], args := [d1, d2] }
  | _ => none }
def FnExactEditedAllWrongFalsely : Prop := fnExactEditedAllRow.holds Try.pinned (OpenSpec.ofChange fnExactEditedAllWrong)

/- THE SECOND FORM. 'bulk': how many values and letters a reading holds, each counted each time it is reached (what is shared counts as often as it is met; a slice's spare places count too). A statement '..UptoSaid' is the law's where the arguments, and the package variables that the reading takes, are together of bulk at most 1048576: NARROWER than '..Said'. Prove '..Said' where nothing that the law and all that it calls make is longer than what came in: it says more and counts as full. Else prove '..UptoSaid'. A law counts once. -/
mutual
def uptoBulk {H : Type} : DataW H → Nat
  | .lit (.string bytes) => bytes.length + 1
  | .lit _ => 1
  | .nil => 1
  | .ptr d => uptoBulk d + 1
  | .slice elems spare => uptoBulkAll elems + uptoBulkAll spare + 1
  | .agg parts => uptoBulkAll parts + 1
  | .iface _ d => uptoBulk d + 1
  | .map entries => uptoBulkEntries entries + 1
  | .held _ => 1
def uptoBulkAll {H : Type} : List (DataW H) → Nat
  | [] => 0
  | d :: r => uptoBulk d + uptoBulkAll r
def uptoBulkEntries {H : Type} : List (Lit × DataW H) → Nat
  | [] => 0
  | x :: r => uptoBulkEntry x + uptoBulkEntries r
def uptoBulkEntry {H : Type} : Lit × DataW H → Nat
  | (.string bytes, d) => bytes.length + uptoBulk d + 1
  | (_, d) => uptoBulk d + 1
 end
def uptoSmall : (H : Type) → List (DataW H) → Bool := fun _ ds => decide (uptoBulkAll ds ≤ 1048576)
def OpenSpec.upto (s : _root_.Go.ChangeSpec) : _root_.Go.OpenSpec := { _root_.Go.OpenSpec.ofChange s with cond := some uptoSmall }

/-- 'laws.FnExactKeepsOn', WHERE WHAT IT READS IS OF BULK AT MOST 1048576: true; the input reads as it did. -/
def fnExactKeepsOnUptoRow : OpenClaim := { program := "ytnmjfjppgpkieaa", sum := "f8cce3d104e886226d54a88699082dadd7f1578fa13960e66d5cde2270837d8b", func := "loop.example/g00869/laws.FnExactKeepsOn", spec := "fnExactKeepsOn", unfollowed := true, recurses := true, plainKeys := false, apart := false, narrowed := true }
def FnExactKeepsOnUptoSaid : Prop := fnExactKeepsOnUptoRow.holds Try.pinned (OpenSpec.upto fnExactKeepsOnSpec)

/-- 'laws.FnExactWatchOf', WHERE WHAT IT READS IS OF BULK AT MOST 1048576: true; the input reads as it did. -/
def fnExactWatchOfUptoRow : OpenClaim := { program := "ytnmjfjppgpkieaa", sum := "f8cce3d104e886226d54a88699082dadd7f1578fa13960e66d5cde2270837d8b", func := "loop.example/g00869/laws.FnExactWatchOf", spec := "fnExactWatchOf", unfollowed := true, recurses := true, plainKeys := false, apart := false, narrowed := true }
def FnExactWatchOfUptoSaid : Prop := fnExactWatchOfUptoRow.holds Try.pinned (OpenSpec.upto fnExactWatchOfSpec)

/-- 'laws.FnExactEdited', WHERE WHAT IT READS IS OF BULK AT MOST 1048576: true; the input reads as it did. -/
def fnExactEditedUptoRow : OpenClaim := { program := "ytnmjfjppgpkieaa", sum := "f8cce3d104e886226d54a88699082dadd7f1578fa13960e66d5cde2270837d8b", func := "loop.example/g00869/laws.FnExactEdited", spec := "fnExactEdited", recurses := true, plainKeys := false, apart := false, narrowed := true }
def FnExactEditedUptoSaid : Prop := fnExactEditedUptoRow.holds Try.pinned (OpenSpec.upto fnExactEditedSpec)

/-- 'laws.FnExactEditedAll', WHERE WHAT IT READS IS OF BULK AT MOST 1048576: true; the input reads as it did. -/
def fnExactEditedAllUptoRow : OpenClaim := { program := "ytnmjfjppgpkieaa", sum := "f8cce3d104e886226d54a88699082dadd7f1578fa13960e66d5cde2270837d8b", func := "loop.example/g00869/laws.FnExactEditedAll", spec := "fnExactEditedAll", recurses := true, plainKeys := false, apart := false, narrowed := true }
def FnExactEditedAllUptoSaid : Prop := fnExactEditedAllUptoRow.holds Try.pinned (OpenSpec.upto fnExactEditedAllSpec)

end Rows
end Go.Proofs.Ytnmjfjppgpkieaa
