/-
  No cell of these rows narrows 'for every input' (looked for: loops, veiled, ifaces, maps, wideKeys, modest, calm, conditions, laid).
  DERIVED. THE GIVEN ROWS OF THIS SEAT. 3 by the template 'for every input the law returns true; each argument reads behind the call as it read before'; 0 by the template 'total and deterministic' (their statements: YtmiilifclnanlaaGreatTotals.lean).
  GIVEN WITH THE SEED: the statements are not yours to turn. If you find one false, say at which input.
  Laid BY PROGRAM, IN A SANDBOX (cutbox-rows.mjs): the forced cells as the released guide's own fill.sh prints them over the translation 00cf2fba497ee808… (all of the seat's roots in one cut). By AI agents, Wed Nov 11 2026. No macro, syntax, notation, axiom, sorry.
-/
import Derived.Test.YtmiilifclnanlaaGreatChecked
import GoSem.Claim
import GoSem.ClaimJoined
import GoSem.ClaimMapViews
import Derived.JoinedTies
import Derived.KernelRfl
namespace Go.Proofs.YtmiilifclnanlaaGreat
/- THE CELL 'sum', in the pinned program and in every row, IS THE sha256 OF THE DUMP (.gsa) THAT YtmiilifclnanlaaGreatProg.lean LOADS. Nothing in Lean hashes anything: it is a label: what it is worth is what the hold of that sum in a sandbox is worth. -/
noncomputable def Tryz.pinned : Pinned := { name := "ytmiilifclnanlaagreat", sum := "00cf2fba497ee808d914591c3da950aea1fcecdc673d7c294ef241653ed6e2fe", checked := Tryz.checked }
namespace Rows
def none {H : Type} : Left H := { results := [], args := [] }

/-- 'laws.FnExactResolvedBy': WHATEVER THE INPUT: true; the input reads as it did. -/
def fnExactResolvedBySpec : ChangeSpec := { name := "fnExactResolvedBy", fn := fun _ => fun
  | [d1, d2, d3] => { results := [.lit (.bool true)], args := [d1, d2, d3] }
  | _ => none }
def fnExactResolvedByRow : OpenClaim := { program := "ytmiilifclnanlaagreat", sum := "00cf2fba497ee808d914591c3da950aea1fcecdc673d7c294ef241653ed6e2fe", func := "loop.example/g00869/laws.FnExactResolvedBy", spec := "fnExactResolvedBy", recurses := true, apart := false }
def FnExactResolvedBySaid : Prop := fnExactResolvedByRow.holds Tryz.pinned (OpenSpec.ofChange fnExactResolvedBySpec)

/-- ITS FALSE NEIGHBOUR: 'it returns false'. Refute it at one input. -/
def fnExactResolvedByWrong : ChangeSpec := { name := "fnExactResolvedBy", fn := fun _ => fun
  | [d1, d2, d3] => { results := [.lit (.bool false)], args := [d1, d2, d3] }
  | _ => none }
def FnExactResolvedByWrongFalsely : Prop := fnExactResolvedByRow.holds Tryz.pinned (OpenSpec.ofChange fnExactResolvedByWrong)

/-- 'laws.FnEdit': WHATEVER THE INPUT: true; the input reads as it did. -/
def fnEditSpec : ChangeSpec := { name := "fnEdit", fn := fun _ => fun
  | [d] => { results := [.lit (.bool true)], args := [d] }
  | _ => none }
def fnEditRow : OpenClaim := { program := "ytmiilifclnanlaagreat", sum := "00cf2fba497ee808d914591c3da950aea1fcecdc673d7c294ef241653ed6e2fe", func := "loop.example/g00869/laws.FnEdit", spec := "fnEdit", recurses := true, apart := false }
def FnEditSaid : Prop := fnEditRow.holds Tryz.pinned (OpenSpec.ofChange fnEditSpec)

/-- ITS FALSE NEIGHBOUR: 'it returns false'. Refute it at one input. -/
def fnEditWrong : ChangeSpec := { name := "fnEdit", fn := fun _ => fun
  | [d] => { results := [.lit (.bool false)], args := [d] }
  | _ => none }
def FnEditWrongFalsely : Prop := fnEditRow.holds Tryz.pinned (OpenSpec.ofChange fnEditWrong)

/-- 'laws.FnEdits': WHATEVER THE INPUT: true; the input reads as it did. -/
def fnEditsSpec : ChangeSpec := { name := "fnEdits", fn := fun _ => fun
  | [d] => { results := [.lit (.bool true)], args := [d] }
  | _ => none }
def fnEditsRow : OpenClaim := { program := "ytmiilifclnanlaagreat", sum := "00cf2fba497ee808d914591c3da950aea1fcecdc673d7c294ef241653ed6e2fe", func := "loop.example/g00869/laws.FnEdits", spec := "fnEdits", recurses := true, apart := false }
def FnEditsSaid : Prop := fnEditsRow.holds Tryz.pinned (OpenSpec.ofChange fnEditsSpec)

/-- ITS FALSE NEIGHBOUR: 'it returns false'. Refute it at one input. -/
def fnEditsWrong : ChangeSpec := { name := "fnEdits", fn := fun _ => fun
  | [d] => { results := [.lit (.bool false)], args := [d] }
  | _ => none }
def FnEditsWrongFalsely : Prop := fnEditsRow.holds Tryz.pinned (OpenSpec.ofChange fnEditsWrong)

/- THE SECOND FORM. 'bulk': how many values and letters a reading holds, each counted each time it is reached (what is shared counts as often as it is met; a slice's spare places count too). A statement '..UptoSaid' is the law's where the arguments, and the package variables that the reading takes, are together of bulk at most 1048576: NARROWER than '..Said'. Prove '..Said' where nothing that the law and all that it calls make is longer than what came in: it says more and counts as full. Else prove '..UptoSaid'. A law counts once. -/
mutual
def uptoBulk {H : Type} : DataW H → Nat
  | .lit (.string bytes) => bytes.length + 1
  | .lit _ => 1
  | .nil => 1
  | .ptr d => uptoBulk d + 1
  | .slice elems spare => uptoBulkAll elems + uptoBulkAll spare + 1
  | .agg parts => uptoBulkAll parts + 1
  | .iface _ d => uptoBulk d + 1
  | .map entries => uptoBulkEntries entries + 1
  | .held _ => 1
def uptoBulkAll {H : Type} : List (DataW H) → Nat
  | [] => 0
  | d :: r => uptoBulk d + uptoBulkAll r
def uptoBulkEntries {H : Type} : List (Lit × DataW H) → Nat
  | [] => 0
  | x :: r => uptoBulkEntry x + uptoBulkEntries r
def uptoBulkEntry {H : Type} : Lit × DataW H → Nat
  | (.string bytes, d) => bytes.length + uptoBulk d + 1
  | (_, d) => uptoBulk d + 1
 end
def uptoSmall : (H : Type) → List (DataW H) → Bool := fun _ ds => decide (uptoBulkAll ds ≤ 1048576)
def OpenSpec.upto (s : _root_.Go.ChangeSpec) : _root_.Go.OpenSpec := { _root_.Go.OpenSpec.ofChange s with cond := some uptoSmall }

/-- 'laws.FnExactResolvedBy', WHERE WHAT IT READS IS OF BULK AT MOST 1048576: true; the input reads as it did. -/
def fnExactResolvedByUptoRow : OpenClaim := { program := "ytmiilifclnanlaagreat", sum := "00cf2fba497ee808d914591c3da950aea1fcecdc673d7c294ef241653ed6e2fe", func := "loop.example/g00869/laws.FnExactResolvedBy", spec := "fnExactResolvedBy", recurses := true, apart := false, narrowed := true }
def FnExactResolvedByUptoSaid : Prop := fnExactResolvedByUptoRow.holds Tryz.pinned (OpenSpec.upto fnExactResolvedBySpec)

/-- 'laws.FnEdit', WHERE WHAT IT READS IS OF BULK AT MOST 1048576: true; the input reads as it did. -/
def fnEditUptoRow : OpenClaim := { program := "ytmiilifclnanlaagreat", sum := "00cf2fba497ee808d914591c3da950aea1fcecdc673d7c294ef241653ed6e2fe", func := "loop.example/g00869/laws.FnEdit", spec := "fnEdit", recurses := true, apart := false, narrowed := true }
def FnEditUptoSaid : Prop := fnEditUptoRow.holds Tryz.pinned (OpenSpec.upto fnEditSpec)

/-- 'laws.FnEdits', WHERE WHAT IT READS IS OF BULK AT MOST 1048576: true; the input reads as it did. -/
def fnEditsUptoRow : OpenClaim := { program := "ytmiilifclnanlaagreat", sum := "00cf2fba497ee808d914591c3da950aea1fcecdc673d7c294ef241653ed6e2fe", func := "loop.example/g00869/laws.FnEdits", spec := "fnEdits", recurses := true, apart := false, narrowed := true }
def FnEditsUptoSaid : Prop := fnEditsUptoRow.holds Tryz.pinned (OpenSpec.upto fnEditsSpec)

end Rows
end Go.Proofs.YtmiilifclnanlaaGreat
