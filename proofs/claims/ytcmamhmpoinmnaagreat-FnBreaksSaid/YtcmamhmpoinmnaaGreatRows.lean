/-
  No cell of these rows narrows 'for every input' (looked for: loops, veiled, ifaces, maps, wideKeys, modest, calm, conditions, laid).
  DERIVED. THE GIVEN ROWS OF THIS SEAT. 6 by the template 'for every input the law returns true; each argument reads behind the call as it read before'; 0 by the template 'total and deterministic' (their statements: YtcmamhmpoinmnaaGreatTotals.lean).
  GIVEN WITH THE SEED: the statements are not yours to turn. If you find one false, say at which input.
  Laid BY PROGRAM, IN A SANDBOX (cutbox-rows.mjs): the forced cells as the released guide's own fill.sh prints them over the translation 86fc4c73d0bba591… (all of the seat's roots in one cut). By AI agents, Wed Nov 11 2026. No macro, syntax, notation, axiom, sorry.
-/
import Derived.Test.YtcmamhmpoinmnaaGreatChecked
import GoSem.Claim
import GoSem.ClaimJoined
import GoSem.ClaimMapViews
import Derived.JoinedTies
import Derived.KernelRfl
namespace Go.Proofs.YtcmamhmpoinmnaaGreat
/- THE CELL 'sum', in the pinned program and in every row, IS THE sha256 OF THE DUMP (.gsa) THAT YtcmamhmpoinmnaaGreatProg.lean LOADS. Nothing in Lean hashes anything: it is a label: what it is worth is what the hold of that sum in a sandbox is worth. -/
noncomputable def Tryz.pinned : Pinned := { name := "ytcmamhmpoinmnaagreat", sum := "86fc4c73d0bba591dc3d0af7508eb6c8b79610c80d96e511e1fda19c3a6a64f6", checked := Tryz.checked }
namespace Rows
def none {H : Type} : Left H := { results := [], args := [] }

/-- 'laws.FnExactKeepsAll': WHATEVER THE INPUT: true; the input reads as it did. -/
def fnExactKeepsAllSpec : ChangeSpec := { name := "fnExactKeepsAll", fn := fun _ => fun
  | [d1, d2, d3] => { results := [.lit (.bool true)], args := [d1, d2, d3] }
  | _ => none }
def fnExactKeepsAllRow : OpenClaim := { program := "ytcmamhmpoinmnaagreat", sum := "86fc4c73d0bba591dc3d0af7508eb6c8b79610c80d96e511e1fda19c3a6a64f6", func := "loop.example/g00869/laws.FnExactKeepsAll", spec := "fnExactKeepsAll", unfollowed := true, recurses := true, plainKeys := false, apart := false }
def FnExactKeepsAllSaid : Prop := fnExactKeepsAllRow.holds Tryz.pinned (OpenSpec.ofChange fnExactKeepsAllSpec)

/-- ITS FALSE NEIGHBOUR: 'it returns false'. Refute it at one input. -/
def fnExactKeepsAllWrong : ChangeSpec := { name := "fnExactKeepsAll", fn := fun _ => fun
  | [d1, d2, d3] => { results := [.lit (.bool false)], args := [d1, d2, d3] }
  | _ => none }
def FnExactKeepsAllWrongFalsely : Prop := fnExactKeepsAllRow.holds Tryz.pinned (OpenSpec.ofChange fnExactKeepsAllWrong)

/-- 'laws.FnExactBreaksIn': WHATEVER THE INPUT: true; the input reads as it did. -/
def fnExactBreaksInSpec : ChangeSpec := { name := "fnExactBreaksIn", fn := fun _ => fun
  | [d1, d2, d3] => { results := [.lit (.bool true)], args := [d1, d2, d3] }
  | _ => none }
def fnExactBreaksInRow : OpenClaim := { program := "ytcmamhmpoinmnaagreat", sum := "86fc4c73d0bba591dc3d0af7508eb6c8b79610c80d96e511e1fda19c3a6a64f6", func := "loop.example/g00869/laws.FnExactBreaksIn", spec := "fnExactBreaksIn", unfollowed := true, recurses := true, plainKeys := false, apart := false }
def FnExactBreaksInSaid : Prop := fnExactBreaksInRow.holds Tryz.pinned (OpenSpec.ofChange fnExactBreaksInSpec)

/-- ITS FALSE NEIGHBOUR: 'it returns false'. Refute it at one input. -/
def fnExactBreaksInWrong : ChangeSpec := { name := "fnExactBreaksIn", fn := fun _ => fun
  | [d1, d2, d3] => { results := [.lit (.bool false)], args := [d1, d2, d3] }
  | _ => none }
def FnExactBreaksInWrongFalsely : Prop := fnExactBreaksInRow.holds Tryz.pinned (OpenSpec.ofChange fnExactBreaksInWrong)

/-- 'laws.FnExactBeatsAll': WHATEVER THE INPUT: true; the input reads as it did. -/
def fnExactBeatsAllSpec : ChangeSpec := { name := "fnExactBeatsAll", fn := fun _ => fun
  | [d1, d2, d3] => { results := [.lit (.bool true)], args := [d1, d2, d3] }
  | _ => none }
def fnExactBeatsAllRow : OpenClaim := { program := "ytcmamhmpoinmnaagreat", sum := "86fc4c73d0bba591dc3d0af7508eb6c8b79610c80d96e511e1fda19c3a6a64f6", func := "loop.example/g00869/laws.FnExactBeatsAll", spec := "fnExactBeatsAll", unfollowed := true, recurses := true, plainKeys := false, apart := false }
def FnExactBeatsAllSaid : Prop := fnExactBeatsAllRow.holds Tryz.pinned (OpenSpec.ofChange fnExactBeatsAllSpec)

/-- ITS FALSE NEIGHBOUR: 'it returns false'. Refute it at one input. -/
def fnExactBeatsAllWrong : ChangeSpec := { name := "fnExactBeatsAll", fn := fun _ => fun
  | [d1, d2, d3] => { results := [.lit (.bool false)], args := [d1, d2, d3] }
  | _ => none }
def FnExactBeatsAllWrongFalsely : Prop := fnExactBeatsAllRow.holds Tryz.pinned (OpenSpec.ofChange fnExactBeatsAllWrong)

/-- 'laws.FnExactKeepingOf': WHATEVER THE INPUT: true; the input reads as it did. -/
def fnExactKeepingOfSpec : ChangeSpec := { name := "fnExactKeepingOf", fn := fun _ => fun
  | [d1, d2] => { results := [.lit (.bool true)], args := [d1, d2] }
  | _ => none }
def fnExactKeepingOfRow : OpenClaim := { program := "ytcmamhmpoinmnaagreat", sum := "86fc4c73d0bba591dc3d0af7508eb6c8b79610c80d96e511e1fda19c3a6a64f6", func := "loop.example/g00869/laws.FnExactKeepingOf", spec := "fnExactKeepingOf", unfollowed := true, recurses := true, plainKeys := false, apart := false }
def FnExactKeepingOfSaid : Prop := fnExactKeepingOfRow.holds Tryz.pinned (OpenSpec.ofChange fnExactKeepingOfSpec)

/-- ITS FALSE NEIGHBOUR: 'it returns false'. Refute it at one input. -/
def fnExactKeepingOfWrong : ChangeSpec := { name := "fnExactKeepingOf", fn := fun _ => fun
  | [d1, d2] => { results := [.lit (.bool false)], args := [d1, d2] }
  | _ => none }
def FnExactKeepingOfWrongFalsely : Prop := fnExactKeepingOfRow.holds Tryz.pinned (OpenSpec.ofChange fnExactKeepingOfWrong)

/-- 'laws.FnBreaks': WHATEVER THE INPUT: true; the input reads as it did. -/
def fnBreaksSpec : ChangeSpec := { name := "fnBreaks", fn := fun _ => fun
  | [d] => { results := [.lit (.bool true)], args := [d] }
  | _ => none }
def fnBreaksRow : OpenClaim := { program := "ytcmamhmpoinmnaagreat", sum := "86fc4c73d0bba591dc3d0af7508eb6c8b79610c80d96e511e1fda19c3a6a64f6", func := "loop.example/g00869/laws.FnBreaks", spec := "fnBreaks", unfollowed := true, recurses := true, plainKeys := false, apart := false }
def FnBreaksSaid : Prop := fnBreaksRow.holds Tryz.pinned (OpenSpec.ofChange fnBreaksSpec)

/-- ITS FALSE NEIGHBOUR: 'it returns false'. Refute it at one input. -/
def fnBreaksWrong : ChangeSpec := { name := "fnBreaks", fn := fun _ => fun
  | [d] => { results := [.lit (.bool false)], args := [d] }
  | _ => none }
def FnBreaksWrongFalsely : Prop := fnBreaksRow.holds Tryz.pinned (OpenSpec.ofChange fnBreaksWrong)

/-- 'laws.FnExactBreakOf': WHATEVER THE INPUT: true; the input reads as it did. -/
def fnExactBreakOfSpec : ChangeSpec := { name := "fnExactBreakOf", fn := fun _ => fun
  | [d1, d2, d3] => { results := [.lit (.bool true)], args := [d1, d2, d3] }
  | _ => none }
def fnExactBreakOfRow : OpenClaim := { program := "ytcmamhmpoinmnaagreat", sum := "86fc4c73d0bba591dc3d0af7508eb6c8b79610c80d96e511e1fda19c3a6a64f6", func := "loop.example/g00869/laws.FnExactBreakOf", spec := "fnExactBreakOf", unfollowed := true, recurses := true, plainKeys := false, apart := false }
def FnExactBreakOfSaid : Prop := fnExactBreakOfRow.holds Tryz.pinned (OpenSpec.ofChange fnExactBreakOfSpec)

/-- ITS FALSE NEIGHBOUR: 'it returns false'. Refute it at one input. -/
def fnExactBreakOfWrong : ChangeSpec := { name := "fnExactBreakOf", fn := fun _ => fun
  | [d1, d2, d3] => { results := [.lit (.bool false)], args := [d1, d2, d3] }
  | _ => none }
def FnExactBreakOfWrongFalsely : Prop := fnExactBreakOfRow.holds Tryz.pinned (OpenSpec.ofChange fnExactBreakOfWrong)

/- THE SECOND FORM. 'bulk': how many values and letters a reading holds, each counted each time it is reached (what is shared counts as often as it is met; a slice's spare places count too). A statement '..UptoSaid' is the law's where the arguments, and the package variables that the reading takes, are together of bulk at most 1048576: NARROWER than '..Said'. Prove '..Said' where nothing that the law and all that it calls make is longer than what came in: it says more and counts as full. Else prove '..UptoSaid'. A law counts once. -/
mutual
def uptoBulk {H : Type} : DataW H → Nat
  | .lit (.string bytes) => bytes.length + 1
  | .lit _ => 1
  | .nil => 1
  | .ptr d => uptoBulk d + 1
  | .slice elems spare => uptoBulkAll elems + uptoBulkAll spare + 1
  | .agg parts => uptoBulkAll parts + 1
  | .iface _ d => uptoBulk d + 1
  | .map entries => uptoBulkEntries entries + 1
  | .held _ => 1
def uptoBulkAll {H : Type} : List (DataW H) → Nat
  | [] => 0
  | d :: r => uptoBulk d + uptoBulkAll r
def uptoBulkEntries {H : Type} : List (Lit × DataW H) → Nat
  | [] => 0
  | x :: r => uptoBulkEntry x + uptoBulkEntries r
def uptoBulkEntry {H : Type} : Lit × DataW H → Nat
  | (.string bytes, d) => bytes.length + uptoBulk d + 1
  | (_, d) => uptoBulk d + 1
 end
def uptoSmall : (H : Type) → List (DataW H) → Bool := fun _ ds => decide (uptoBulkAll ds ≤ 1048576)
def OpenSpec.upto (s : _root_.Go.ChangeSpec) : _root_.Go.OpenSpec := { _root_.Go.OpenSpec.ofChange s with cond := some uptoSmall }

/-- 'laws.FnExactKeepsAll', WHERE WHAT IT READS IS OF BULK AT MOST 1048576: true; the input reads as it did. -/
def fnExactKeepsAllUptoRow : OpenClaim := { program := "ytcmamhmpoinmnaagreat", sum := "86fc4c73d0bba591dc3d0af7508eb6c8b79610c80d96e511e1fda19c3a6a64f6", func := "loop.example/g00869/laws.FnExactKeepsAll", spec := "fnExactKeepsAll", unfollowed := true, recurses := true, plainKeys := false, apart := false, narrowed := true }
def FnExactKeepsAllUptoSaid : Prop := fnExactKeepsAllUptoRow.holds Tryz.pinned (OpenSpec.upto fnExactKeepsAllSpec)

/-- 'laws.FnExactBreaksIn', WHERE WHAT IT READS IS OF BULK AT MOST 1048576: true; the input reads as it did. -/
def fnExactBreaksInUptoRow : OpenClaim := { program := "ytcmamhmpoinmnaagreat", sum := "86fc4c73d0bba591dc3d0af7508eb6c8b79610c80d96e511e1fda19c3a6a64f6", func := "loop.example/g00869/laws.FnExactBreaksIn", spec := "fnExactBreaksIn", unfollowed := true, recurses := true, plainKeys := false, apart := false, narrowed := true }
def FnExactBreaksInUptoSaid : Prop := fnExactBreaksInUptoRow.holds Tryz.pinned (OpenSpec.upto fnExactBreaksInSpec)

/-- 'laws.FnExactBeatsAll', WHERE WHAT IT READS IS OF BULK AT MOST 1048576: true; the input reads as it did. -/
def fnExactBeatsAllUptoRow : OpenClaim := { program := "ytcmamhmpoinmnaagreat", sum := "86fc4c73d0bba591dc3d0af7508eb6c8b79610c80d96e511e1fda19c3a6a64f6", func := "loop.example/g00869/laws.FnExactBeatsAll", spec := "fnExactBeatsAll", unfollowed := true, recurses := true, plainKeys := false, apart := false, narrowed := true }
def FnExactBeatsAllUptoSaid : Prop := fnExactBeatsAllUptoRow.holds Tryz.pinned (OpenSpec.upto fnExactBeatsAllSpec)

/-- 'laws.FnExactKeepingOf', WHERE WHAT IT READS IS OF BULK AT MOST 1048576: true; the input reads as it did. -/
def fnExactKeepingOfUptoRow : OpenClaim := { program := "ytcmamhmpoinmnaagreat", sum := "86fc4c73d0bba591dc3d0af7508eb6c8b79610c80d96e511e1fda19c3a6a64f6", func := "loop.example/g00869/laws.FnExactKeepingOf", spec := "fnExactKeepingOf", unfollowed := true, recurses := true, plainKeys := false, apart := false, narrowed := true }
def FnExactKeepingOfUptoSaid : Prop := fnExactKeepingOfUptoRow.holds Tryz.pinned (OpenSpec.upto fnExactKeepingOfSpec)

/-- 'laws.FnBreaks', WHERE WHAT IT READS IS OF BULK AT MOST 1048576: true; the input reads as it did. -/
def fnBreaksUptoRow : OpenClaim := { program := "ytcmamhmpoinmnaagreat", sum := "86fc4c73d0bba591dc3d0af7508eb6c8b79610c80d96e511e1fda19c3a6a64f6", func := "loop.example/g00869/laws.FnBreaks", spec := "fnBreaks", unfollowed := true, recurses := true, plainKeys := false, apart := false, narrowed := true }
def FnBreaksUptoSaid : Prop := fnBreaksUptoRow.holds Tryz.pinned (OpenSpec.upto fnBreaksSpec)

/-- 'laws.FnExactBreakOf', WHERE WHAT IT READS IS OF BULK AT MOST 1048576: true; the input reads as it did. -/
def fnExactBreakOfUptoRow : OpenClaim := { program := "ytcmamhmpoinmnaagreat", sum := "86fc4c73d0bba591dc3d0af7508eb6c8b79610c80d96e511e1fda19c3a6a64f6", func := "loop.example/g00869/laws.FnExactBreakOf", spec := "fnExactBreakOf", unfollowed := true, recurses := true, plainKeys := false, apart := false, narrowed := true }
def FnExactBreakOfUptoSaid : Prop := fnExactBreakOfUptoRow.holds Tryz.pinned (OpenSpec.upto fnExactBreakOfSpec)

end Rows
end Go.Proofs.YtcmamhmpoinmnaaGreat
