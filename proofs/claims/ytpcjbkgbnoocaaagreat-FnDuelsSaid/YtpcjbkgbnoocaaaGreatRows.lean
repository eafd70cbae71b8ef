/-
  No cell of these rows narrows 'for every input' (looked for: loops, veiled, ifaces, maps, wideKeys, modest, calm, conditions, laid).
  DERIVED. THE GIVEN ROWS OF THIS SEAT. 5 by the template 'for every input the law returns true; each argument reads behind the call as it read before'; 0 by the template 'total and deterministic' (their statements: YtpcjbkgbnoocaaaGreatTotals.lean).
  GIVEN WITH THE SEED: the statements are not yours to turn. If you find one false, say at which input.
  Laid BY PROGRAM, IN A SANDBOX (cutbox-rows.mjs): the forced cells as the released guide's own fill.sh prints them over the translation c9d65e3ecb850d20… (all of the seat's roots in one cut). By AI agents, Wed Nov 11 2026. No macro, syntax, notation, axiom, sorry.
-/
import Derived.Test.YtpcjbkgbnoocaaaGreatChecked
import GoSem.Claim
import GoSem.ClaimJoined
import GoSem.ClaimMapViews
import Derived.JoinedTies
import Derived.KernelRfl
namespace Go.Proofs.YtpcjbkgbnoocaaaGreat
/- THE CELL 'sum', in the pinned program and in every row, IS THE sha256 OF THE DUMP (.gsa) THAT YtpcjbkgbnoocaaaGreatProg.lean LOADS. Nothing in Lean hashes anything: it is a label: what it is worth is what the hold of that sum in a sandbox is worth. -/
noncomputable def Tryz.pinned : Pinned := { name := "ytpcjbkgbnoocaaagreat", sum := "c9d65e3ecb850d2074b22de93c347a42bd50638d85650e891e8cdc2c14634164", checked := Tryz.checked }
namespace Rows
def none {H : Type} : Left H := { results := [], args := [] }

/-- 'laws.FnDuels': WHATEVER THE INPUT: true; the input reads as it did. -/
def fnDuelsSpec : ChangeSpec := { name := "fnDuels", fn := fun _ => fun
  | [d] => { results := [.lit (.bool true)], args := [d] }
  | _ => none }
def fnDuelsRow : OpenClaim := { program := "ytpcjbkgbnoocaaagreat", sum := "c9d65e3ecb850d2074b22de93c347a42bd50638d85650e891e8cdc2c14634164", func := "loop.example/g00869/laws.FnDuels", spec := "fnDuels", unfollowed := true, recurses := true, plainKeys := false, apart := false }
def FnDuelsSaid : Prop := fnDuelsRow.holds Tryz.pinned (OpenSpec.ofChange fnDuelsSpec)

/-- ITS FALSE NEIGHBOUR: 'it returns false'. Refute it at one input. -/
def fnDuelsWrong : ChangeSpec := { name := "fnDuels", fn := fun _ => fun
  | [d] => { results := [.lit (.bool false)], args := [d] }
  | _ => none }
def FnDuelsWrongFalsely : Prop := fnDuelsRow.holds Tryz.pinned (OpenSpec.ofChange fnDuelsWrong)

/-- 'laws.FnExactCounterOf': WHATEVER THE INPUT: true; the input reads as it did. -/
def fnExactCounterOfSpec : ChangeSpec := { name := "fnExactCounterOf", fn := fun _ => fun
  | [d1, d2] => { results := [.lit (.bool true)], args := [d1, d2] }
  | _ => none }
def fnExactCounterOfRow : OpenClaim := { program := "ytpcjbkgbnoocaaagreat", sum := "c9d65e3ecb850d2074b22de93c347a42bd50638d85650e891e8cdc2c14634164", func := "loop.example/g00869/laws.FnExactCounterOf", spec := "fnExactCounterOf", unfollowed := true, recurses := true, plainKeys := false, apart := false }
def FnExactCounterOfSaid : Prop := fnExactCounterOfRow.holds Tryz.pinned (OpenSpec.ofChange fnExactCounterOfSpec)

/-- ITS FALSE NEIGHBOUR: 'it returns false'. Refute it at one input. -/
def fnExactCounterOfWrong : ChangeSpec := { name := "fnExactCounterOf", fn := fun _ => fun
  | [d1, d2] => { results := [.lit (.bool false)], args := [d1, d2] }
  | _ => none }
def FnExactCounterOfWrongFalsely : Prop := fnExactCounterOfRow.holds Tryz.pinned (OpenSpec.ofChange fnExactCounterOfWrong)

/-- 'laws.FnExactEitherOf': WHATEVER THE INPUT: true; the input reads as it did. -/
def fnExactEitherOfSpec : ChangeSpec := { name := "fnExactEitherOf", fn := fun _ => fun
  | [d1, d2] => { results := [.lit (.bool true)], args := [d1, d2] }
  | _ => none }
def fnExactEitherOfRow : OpenClaim := { program := "ytpcjbkgbnoocaaagreat", sum := "c9d65e3ecb850d2074b22de93c347a42bd50638d85650e891e8cdc2c14634164", func := "loop.example/g00869/laws.FnExactEitherOf", spec := "fnExactEitherOf", unfollowed := true, recurses := true, plainKeys := false, apart := false }
def FnExactEitherOfSaid : Prop := fnExactEitherOfRow.holds Tryz.pinned (OpenSpec.ofChange fnExactEitherOfSpec)

/-- ITS FALSE NEIGHBOUR: 'it returns false'. Refute it at one input. -/
def fnExactEitherOfWrong : ChangeSpec := { name := "fnExactEitherOf", fn := fun _ => fun
  | [d1, d2] => { results := [.lit (.bool false)], args := [d1, d2] }
  | _ => none }
def FnExactEitherOfWrongFalsely : Prop := fnExactEitherOfRow.holds Tryz.pinned (OpenSpec.ofChange fnExactEitherOfWrong)

/-- 'laws.FnExactMachineOf': WHATEVER THE INPUT: true; the input reads as it did. -/
def fnExactMachineOfSpec : ChangeSpec := { name := "fnExactMachineOf", fn := fun _ => fun
  | [d1, d2] => { results := [.lit (.bool true)], args := [d1, d2] }
  | _ => none }
def fnExactMachineOfRow : OpenClaim := { program := "ytpcjbkgbnoocaaagreat", sum := "c9d65e3ecb850d2074b22de93c347a42bd50638d85650e891e8cdc2c14634164", func := "loop.example/g00869/laws.FnExactMachineOf", spec := "fnExactMachineOf", unfollowed := true, recurses := true, plainKeys := false, apart := false }
def FnExactMachineOfSaid : Prop := fnExactMachineOfRow.holds Tryz.pinned (OpenSpec.ofChange fnExactMachineOfSpec)

/-- ITS FALSE NEIGHBOUR: 'it returns false'. Refute it at one input. -/
def fnExactMachineOfWrong : ChangeSpec := { name := "fnExactMachineOf", fn := fun _ => fun
  | [d1, d2] => { results := [.lit (.bool false)], args := [d1, d2] }
  | _ => none }
def FnExactMachineOfWrongFalsely : Prop := fnExactMachineOfRow.holds Tryz.pinned (OpenSpec.ofChange fnExactMachineOfWrong)

/-- 'laws.FnKept': WHATEVER THE INPUT: true; the input reads as it did. -/
def fnKeptSpec : ChangeSpec := { name := "fnKept", fn := fun _ => fun
  | [d] => { results := [.lit (.bool true)], args := [d] }
  | _ => none }
def fnKeptRow : OpenClaim := { program := "ytpcjbkgbnoocaaagreat", sum := "c9d65e3ecb850d2074b22de93c347a42bd50638d85650e891e8cdc2c14634164", func := "loop.example/g00869/laws.FnKept", spec := "fnKept", unfollowed := true, recurses := true, plainKeys := false, apart := false }
def FnKeptSaid : Prop := fnKeptRow.holds Tryz.pinned (OpenSpec.ofChange fnKeptSpec)

/-- ITS FALSE NEIGHBOUR: 'it returns false'. Refute it at one input. -/
def fnKeptWrong : ChangeSpec := { name := "fnKept", fn := fun _ => fun
  | [d] => { results := [.lit (.bool false)], args := [d] }
  | _ => none }
def FnKeptWrongFalsely : Prop := fnKeptRow.holds Tryz.pinned (OpenSpec.ofChange fnKeptWrong)

/- THE SECOND FORM. 'bulk': how many values and letters a reading holds, each counted each time it is reached (what is shared counts as often as it is met; a slice's spare places count too). A statement '..UptoSaid' is the law's where the arguments, and the package variables that the reading takes, are together of bulk at most 1048576: NARROWER than '..Said'. Prove '..Said' where nothing that the law and all that it calls make is longer than what came in: it says more and counts as full. Else prove '..UptoSaid'. A law counts once. -/
mutual
def uptoBulk {H : Type} : DataW H → Nat
  | .lit (.string bytes) => bytes.length + 1
  | .lit _ => 1
  | .nil => 1
  | .ptr d => uptoBulk d + 1
  | .slice elems spare => uptoBulkAll elems + uptoBulkAll spare + 1
  | .agg parts => uptoBulkAll parts + 1
  | .iface _ d => uptoBulk d + 1
  | .map entries => uptoBulkEntries entries + 1
  | .held _ => 1
def uptoBulkAll {H : Type} : List (DataW H) → Nat
  | [] => 0
  | d :: r => uptoBulk d + uptoBulkAll r
def uptoBulkEntries {H : Type} : List (Lit × DataW H) → Nat
  | [] => 0
  | x :: r => uptoBulkEntry x + uptoBulkEntries r
def uptoBulkEntry {H : Type} : Lit × DataW H → Nat
  | (.string bytes, d) => bytes.length + uptoBulk d + 1
  | (_, d) => uptoBulk d + 1
 end
def uptoSmall : (H : Type) → List (DataW H) → Bool := fun _ ds => decide (uptoBulkAll ds ≤ 1048576)
def OpenSpec.upto (s : _root_.Go.ChangeSpec) : _root_.Go.OpenSpec := { _root_.Go.OpenSpec.ofChange s with cond := some uptoSmall }

/-- 'laws.FnDuels', WHERE WHAT IT READS IS OF BULK AT MOST 1048576: true; the input reads as it did. -/
def fnDuelsUptoRow : OpenClaim := { program := "ytpcjbkgbnoocaaagreat", sum := "c9d65e3ecb850d2074b22de93c347a42bd50638d85650e891e8cdc2c14634164", func := "loop.example/g00869/laws.FnDuels", spec := "fnDuels", unfollowed := true, recurses := true, plainKeys := false, apart := false, narrowed := true }
def FnDuelsUptoSaid : Prop := fnDuelsUptoRow.holds Tryz.pinned (OpenSpec.upto fnDuelsSpec)

/-- 'laws.FnExactCounterOf', WHERE WHAT IT READS IS OF BULK AT MOST 1048576: true; the input reads as it did. -/
def fnExactCounterOfUptoRow : OpenClaim := { program := "ytpcjbkgbnoocaaagreat", sum := "c9d65e3ecb850d2074b22de93c347a42bd50638d85650e891e8cdc2c14634164", func := "loop.example/g00869/laws.FnExactCounterOf", spec := "fnExactCounterOf", unfollowed := true, recurses := true, plainKeys := false, apart := false, narrowed := true }
def FnExactCounterOfUptoSaid : Prop := fnExactCounterOfUptoRow.holds Tryz.pinned (OpenSpec.upto fnExactCounterOfSpec)

/-- 'laws.FnExactEitherOf', WHERE WHAT IT READS IS OF BULK AT MOST 1048576: true; the input reads as it did. -/
def fnExactEitherOfUptoRow : OpenClaim := { program := "ytpcjbkgbnoocaaagreat", sum := "c9d65e3ecb850d2074b22de93c347a42bd50638d85650e891e8cdc2c14634164", func := "loop.example/g00869/laws.FnExactEitherOf", spec := "fnExactEitherOf", unfollowed := true, recurses := true, plainKeys := false, apart := false, narrowed := true }
def FnExactEitherOfUptoSaid : Prop := fnExactEitherOfUptoRow.holds Tryz.pinned (OpenSpec.upto fnExactEitherOfSpec)

/-- 'laws.FnExactMachineOf', WHERE WHAT IT READS IS OF BULK AT MOST 1048576: true; the input reads as it did. -/
def fnExactMachineOfUptoRow : OpenClaim := { program := "ytpcjbkgbnoocaaagreat", sum := "c9d65e3ecb850d2074b22de93c347a42bd50638d85650e891e8cdc2c14634164", func := "loop.example/g00869/laws.FnExactMachineOf", spec := "fnExactMachineOf", unfollowed := true, recurses := true, plainKeys := false, apart := false, narrowed := true }
def FnExactMachineOfUptoSaid : Prop := fnExactMachineOfUptoRow.holds Tryz.pinned (OpenSpec.upto fnExactMachineOfSpec)

/-- 'laws.FnKept', WHERE WHAT IT READS IS OF BULK AT MOST 1048576: true; the input reads as it did. -/
def fnKeptUptoRow : OpenClaim := { program := "ytpcjbkgbnoocaaagreat", sum := "c9d65e3ecb850d2074b22de93c347a42bd50638d85650e891e8cdc2c14634164", func := "loop.example/g00869/laws.FnKept", spec := "fnKept", unfollowed := true, recurses := true, plainKeys := false, apart := false, narrowed := true }
def FnKeptUptoSaid : Prop := fnKeptUptoRow.holds Tryz.pinned (OpenSpec.upto fnKeptSpec)

end Rows
end Go.Proofs.YtpcjbkgbnoocaaaGreat
