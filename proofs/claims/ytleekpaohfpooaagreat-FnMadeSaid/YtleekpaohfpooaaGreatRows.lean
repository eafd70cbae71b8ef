/-
  No cell of these rows narrows 'for every input' (looked for: loops, veiled, ifaces, maps, wideKeys, modest, calm, conditions, laid).
  DERIVED. THE GIVEN ROWS OF THIS SEAT. 5 by the template 'for every input the law returns true; each argument reads behind the call as it read before'; 0 by the template 'total and deterministic' (their statements: YtleekpaohfpooaaGreatTotals.lean).
  GIVEN WITH THE SEED: the statements are not yours to turn. If you find one false, say at which input.
  Laid BY PROGRAM, IN A SANDBOX (cutbox-rows.mjs): the forced cells as the released guide's own fill.sh prints them over the translation 765e32a1acecb7e6… (all of the seat's roots in one cut). By AI agents, Wed Nov 11 2026. No macro, syntax, notation, axiom, sorry.
-/
import Derived.Test.YtleekpaohfpooaaGreatChecked
import GoSem.Claim
import GoSem.ClaimJoined
import GoSem.ClaimMapViews
import Derived.JoinedTies
import Derived.KernelRfl
namespace Go.Proofs.YtleekpaohfpooaaGreat
/- THE CELL 'sum', in the pinned program and in every row, IS THE sha256 OF THE DUMP (.gsa) THAT YtleekpaohfpooaaGreatProg.lean LOADS. Nothing in Lean hashes anything: it is a label: what it is worth is what the hold of that sum in a sandbox is worth. -/
noncomputable def Tryz.pinned : Pinned := { name := "ytleekpaohfpooaagreat", sum := "765e32a1acecb7e695c9cf578f339b151e8aa67e346c4822fa30101b5751824b", checked := Tryz.checked }
namespace Rows
def none {H : Type} : Left H := { results := [], args := [] }

/-- 'laws.FnKept': WHATEVER THE INPUT: true; the input reads as it did. -/
def fnKeptSpec : ChangeSpec := { name := "fnKept", fn := fun _ => fun
  | [d] => { results := [.lit (.bool true)], args := [d] }
  | _ => none }
def fnKeptRow : OpenClaim := { program := "ytleekpaohfpooaagreat", sum := "765e32a1acecb7e695c9cf578f339b151e8aa67e346c4822fa30101b5751824b", func := "loop.example/g00869/laws.FnKept", spec := "fnKept", unfollowed := true, recurses := true, plainKeys := false, apart := false }
def FnKeptSaid : Prop := fnKeptRow.holds Tryz.pinned (OpenSpec.ofChange fnKeptSpec)

/-- ITS FALSE NEIGHBOUR: 'it returns false'. Refute it at one input. -/
def fnKeptWrong : ChangeSpec := { name := "fnKept", fn := fun _ => fun
  | [d] => { results := [.lit (.bool false)], args := [d] }
  | _ => none }
def FnKeptWrongFalsely : Prop := fnKeptRow.holds Tryz.pinned (OpenSpec.ofChange fnKeptWrong)

/-- 'laws.FnFewest': WHATEVER THE INPUT: true; the input reads as it did. -/
def fnFewestSpec : ChangeSpec := { name := "fnFewest", fn := fun _ => fun
  | [d] => { results := [.lit (.bool true)], args := [d] }
  | _ => none }
def fnFewestRow : OpenClaim := { program := "ytleekpaohfpooaagreat", sum := "765e32a1acecb7e695c9cf578f339b151e8aa67e346c4822fa30101b5751824b", func := "loop.example/g00869/laws.FnFewest", spec := "fnFewest", unfollowed := true, recurses := true, plainKeys := false, apart := false }
def FnFewestSaid : Prop := fnFewestRow.holds Tryz.pinned (OpenSpec.ofChange fnFewestSpec)

/-- ITS FALSE NEIGHBOUR: 'it returns false'. Refute it at one input. -/
def fnFewestWrong : ChangeSpec := { name := "fnFewest", fn := fun _ => fun
  | [d] => { results := [.lit (.bool false)], args := [d] }
  | _ => none }
def FnFewestWrongFalsely : Prop := fnFewestRow.holds Tryz.pinned (OpenSpec.ofChange fnFewestWrong)

/-- 'laws.FnVerify': WHATEVER THE INPUT: true; the input reads as it did. -/
def fnVerifySpec : ChangeSpec := { name := "fnVerify", fn := fun _ => fun
  | [d] => { results := [.lit (.bool true)], args := [d] }
  | _ => none }
def fnVerifyRow : OpenClaim := { program := "ytleekpaohfpooaagreat", sum := "765e32a1acecb7e695c9cf578f339b151e8aa67e346c4822fa30101b5751824b", func := "loop.example/g00869/laws.FnVerify", spec := "fnVerify", unfollowed := true, recurses := true, plainKeys := false, apart := false }
def FnVerifySaid : Prop := fnVerifyRow.holds Tryz.pinned (OpenSpec.ofChange fnVerifySpec)

/-- ITS FALSE NEIGHBOUR: 'it returns false'. Refute it at one input. -/
def fnVerifyWrong : ChangeSpec := { name := "fnVerify", fn := fun _ => fun
  | [d] => { results := [.lit (.bool false)], args := [d] }
  | _ => none }
def FnVerifyWrongFalsely : Prop := fnVerifyRow.holds Tryz.pinned (OpenSpec.ofChange fnVerifyWrong)

/-- 'laws.FnMade': WHATEVER THE INPUT: true; the input reads as it did. -/
def fnMadeSpec : ChangeSpec := { name := "fnMade", fn := fun _ => fun
  | [d] => { results := [.lit (.bool true)], args := [d] }
  | _ => none }
def fnMadeRow : OpenClaim := { program := "ytleekpaohfpooaagreat", sum := "765e32a1acecb7e695c9cf578f339b151e8aa67e346c4822fa30101b5751824b", func := "loop.example/g00869/laws.FnMade", spec := "fnMade", unfollowed := true, recurses := true, plainKeys := false, apart := false }
def FnMadeSaid : Prop := fnMadeRow.holds Tryz.pinned (OpenSpec.ofChange fnMadeSpec)

/-- ITS FALSE NEIGHBOUR: 'it returns false'. Refute it at one input. -/
def fnMadeWrong : ChangeSpec := { name := "fnMade", fn := fun _ => fun
  | [d] => { results := [.lit (.bool false)], args := [d] }
  | _ => none }
def FnMadeWrongFalsely : Prop := fnMadeRow.holds Tryz.pinned (OpenSpec.ofChange fnMadeWrong)

/-- 'laws.FnEither': WHATEVER THE INPUT: true; the input reads as it did. -/
def fnEitherSpec : ChangeSpec := { name := "fnEither", fn := fun _ => fun
  | [d] => { results := [.lit (.bool true)], args := [d] }
  | _ => none }
def fnEitherRow : OpenClaim := { program := "ytleekpaohfpooaagreat", sum := "765e32a1acecb7e695c9cf578f339b151e8aa67e346c4822fa30101b5751824b", func := "loop.example/g00869/laws.FnEither", spec := "fnEither", unfollowed := true, recurses := true, plainKeys := false, apart := false }
def FnEitherSaid : Prop := fnEitherRow.holds Tryz.pinned (OpenSpec.ofChange fnEitherSpec)

/-- ITS FALSE NEIGHBOUR: 'it returns false'. Refute it at one input. -/
def fnEitherWrong : ChangeSpec := { name := "fnEither", fn := fun _ => fun
  | [d] => { results := [.lit (.bool false)], args := [d] }
  | _ => none }
def FnEitherWrongFalsely : Prop := fnEitherRow.holds Tryz.pinned (OpenSpec.ofChange fnEitherWrong)

/- THE SECOND FORM. 'bulk': how many values and letters a reading holds, each counted each time it is reached (what is shared counts as often as it is met; a slice's spare places count too). A statement '..UptoSaid' is the law's where the arguments, and the package variables that the reading takes, are together of bulk at most 1048576: NARROWER than '..Said'. Prove '..Said' where nothing that the law and all that it calls make is longer than what came in: it says more and counts as full. Else prove '..UptoSaid'. A law counts once. -/
mutual
def uptoBulk {H : Type} : DataW H → Nat
  | .lit (.string bytes) => bytes.length + 1
  | .lit _ => 1
  | .nil => 1
  | .ptr d => uptoBulk d + 1
  | .slice elems spare => uptoBulkAll elems + uptoBulkAll spare + 1
  | .agg parts => uptoBulkAll parts + 1
  | .iface _ d => uptoBulk d + 1
  | .map entries => uptoBulkEntries entries + 1
  | .held _ => 1
def uptoBulkAll {H : Type} : List (DataW H) → Nat
  | [] => 0
  | d :: r => uptoBulk d + uptoBulkAll r
def uptoBulkEntries {H : Type} : List (Lit × DataW H) → Nat
  | [] => 0
  | x :: r => uptoBulkEntry x + uptoBulkEntries r
def uptoBulkEntry {H : Type} : Lit × DataW H → Nat
  | (.string bytes, d) => bytes.length + uptoBulk d + 1
  | (_, d) => uptoBulk d + 1
 end
def uptoSmall : (H : Type) → List (DataW H) → Bool := fun _ ds => decide (uptoBulkAll ds ≤ 1048576)
def OpenSpec.upto (s : _root_.Go.ChangeSpec) : _root_.Go.OpenSpec := { _root_.Go.OpenSpec.ofChange s with cond := some uptoSmall }

/-- 'laws.FnKept', WHERE WHAT IT READS IS OF BULK AT MOST 1048576: true; the input reads as it did. -/
def fnKeptUptoRow : OpenClaim := { program := "ytleekpaohfpooaagreat", sum := "765e32a1acecb7e695c9cf578f339b151e8aa67e346c4822fa30101b5751824b", func := "loop.example/g00869/laws.FnKept", spec := "fnKept", unfollowed := true, recurses := true, plainKeys := false, apart := false, narrowed := true }
def FnKeptUptoSaid : Prop := fnKeptUptoRow.holds Tryz.pinned (OpenSpec.upto fnKeptSpec)

/-- 'laws.FnFewest', WHERE WHAT IT READS IS OF BULK AT MOST 1048576: true; the input reads as it did. -/
def fnFewestUptoRow : OpenClaim := { program := "ytleekpaohfpooaagreat", sum := "765e32a1acecb7e695c9cf578f339b151e8aa67e346c4822fa30101b5751824b", func := "loop.example/g00869/laws.FnFewest", spec := "fnFewest", unfollowed := true, recurses := true, plainKeys := false, apart := false, narrowed := true }
def FnFewestUptoSaid : Prop := fnFewestUptoRow.holds Tryz.pinned (OpenSpec.upto fnFewestSpec)

/-- 'laws.FnVerify', WHERE WHAT IT READS IS OF BULK AT MOST 1048576: true; the input reads as it did. -/
def fnVerifyUptoRow : OpenClaim := { program := "ytleekpaohfpooaagreat", sum := "765e32a1acecb7e695c9cf578f339b151e8aa67e346c4822fa30101b5751824b", func := "loop.example/g00869/laws.FnVerify", spec := "fnVerify", unfollowed := true, recurses := true, plainKeys := false, apart := false, narrowed := true }
def FnVerifyUptoSaid : Prop := fnVerifyUptoRow.holds Tryz.pinned (OpenSpec.upto fnVerifySpec)

/-- 'laws.FnMade', WHERE WHAT IT READS IS OF BULK AT MOST 1048576: true; the input reads as it did. -/
def fnMadeUptoRow : OpenClaim := { program := "ytleekpaohfpooaagreat", sum := "765e32a1acecb7e695c9cf578f339b151e8aa67e346c4822fa30101b5751824b", func := "loop.example/g00869/laws.FnMade", spec := "fnMade", unfollowed := true, recurses := true, plainKeys := false, apart := false, narrowed := true }
def FnMadeUptoSaid : Prop := fnMadeUptoRow.holds Tryz.pinned (OpenSpec.upto fnMadeSpec)

/-- 'laws.FnEither', WHERE WHAT IT READS IS OF BULK AT MOST 1048576: true; the input reads as it did. -/
def fnEitherUptoRow : OpenClaim := { program := "ytleekpaohfpooaagreat", sum := "765e32a1acecb7e695c9cf578f339b151e8aa67e346c4822fa30101b5751824b", func := "loop.example/g00869/laws.FnEither", spec := "fnEither", unfollowed := true, recurses := true, plainKeys := false, apart := false, narrowed := true }
def FnEitherUptoSaid : Prop := fnEitherUptoRow.holds Tryz.pinned (OpenSpec.upto fnEitherSpec)

end Rows
end Go.Proofs.YtleekpaohfpooaaGreat
