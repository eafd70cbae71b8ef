/- The structs of the program as data. -/
import Derived.Test.YtpmnpdphailagaaStep
import Derived.Test.YtpmnpdphailagaaProg
set_option linter.unusedVariables false
set_option linter.unusedSimpArgs false
namespace Go.Proofs.Ytpmnpdphailagaa
open Go Go.Wk Go.Proofs

structure Sig where
  In : Int
  Out : Int
def Sig.rp : Rp Sig := Rp.iso (Rp.pair (Rp.int .i64) (Rp.int .i64)) (fun x => (x.In, x.Out))
theorem Sig.un {S : Nat → Prop} {w : World} {cs : List Value} {x : Sig} (h : Sig.rp.rel S w cs x) : cs = [.int .i64 x.In, .int .i64 x.Out] := by
  obtain ⟨_, _, rfl, rfl, rfl⟩ := h
  exact rfl
theorem Sig.mk_rel {S : Nat → Prop} {w : World} {x : Sig} : Sig.rp.rel S w [.int .i64 x.In, .int .i64 x.Out] x :=
  ⟨_, _, rfl, rfl, rfl⟩

structure Rival where
  In : (List Int)
  Next : (List (List Int))
def Rival.rp : Rp Rival := Rp.iso (Rp.pair (Rp.sl (Rp.int .i64)) (Rp.sl (Rp.sl (Rp.int .i64)))) (fun x => (x.In, x.Next))
theorem Rival.un {S : Nat → Prop} {w : World} {cs : List Value} {x : Rival} (h : Rival.rp.rel S w cs x) : ∃ a0 c0, ∃ a1 c1, cs = [.slice a0 x.In.length c0, .slice a1 x.Next.length c1] ∧ Sl (Rp.int .i64) S w a0 c0 x.In ∧ Sl (Rp.sl (Rp.int .i64)) S w a1 c1 x.Next := by
  obtain ⟨_, _, rfl, ⟨a0, c0, rfl, hs0⟩, ⟨a1, c1, rfl, hs1⟩⟩ := h
  exact ⟨a0, c0, a1, c1, rfl, hs0, hs1⟩
theorem Rival.mk_rel {S : Nat → Prop} {w : World} {x : Rival} {a0 : Option Addr} {c0 : Nat} {a1 : Option Addr} {c1 : Nat} (hs0 : Sl (Rp.int .i64) S w a0 c0 x.In) (hs1 : Sl (Rp.sl (Rp.int .i64)) S w a1 c1 x.Next) : Rival.rp.rel S w [.slice a0 x.In.length c0, .slice a1 x.Next.length c1] x :=
  ⟨_, _, rfl, ⟨a0, c0, rfl, hs0⟩, ⟨a1, c1, rfl, hs1⟩⟩

structure Gate where
  A : Int
  B : Int
def Gate.rp : Rp Gate := Rp.iso (Rp.pair (Rp.int .i64) (Rp.int .i64)) (fun x => (x.A, x.B))
theorem Gate.un {S : Nat → Prop} {w : World} {cs : List Value} {x : Gate} (h : Gate.rp.rel S w cs x) : cs = [.int .i64 x.A, .int .i64 x.B] := by
  obtain ⟨_, _, rfl, rfl, rfl⟩ := h
  exact rfl
theorem Gate.mk_rel {S : Nat → Prop} {w : World} {x : Gate} : Gate.rp.rel S w [.int .i64 x.A, .int .i64 x.B] x :=
  ⟨_, _, rfl, rfl, rfl⟩

structure Circuit where
  Inputs : Int
  Latches : Int
  Next : (List Int)
  Gates : (List Gate)
  Outs : (List Int)
def Circuit.rp : Rp Circuit := Rp.iso (Rp.pair (Rp.int .i64) (Rp.pair (Rp.int .i64) (Rp.pair (Rp.sl (Rp.int .i64)) (Rp.pair (Rp.sl Gate.rp) (Rp.sl (Rp.int .i64)))))) (fun x => (x.Inputs, x.Latches, x.Next, x.Gates, x.Outs))
theorem Circuit.un {S : Nat → Prop} {w : World} {cs : List Value} {x : Circuit} (h : Circuit.rp.rel S w cs x) : ∃ a2 c2, ∃ a3 c3, ∃ a4 c4, cs = [.int .i64 x.Inputs, .int .i64 x.Latches, .slice a2 x.Next.length c2, .slice a3 x.Gates.length c3, .slice a4 x.Outs.length c4] ∧ Sl (Rp.int .i64) S w a2 c2 x.Next ∧ Sl Gate.rp S w a3 c3 x.Gates ∧ Sl (Rp.int .i64) S w a4 c4 x.Outs := by
  obtain ⟨_, _, rfl, rfl, ⟨_, _, rfl, rfl, ⟨_, _, rfl, ⟨a2, c2, rfl, hs2⟩, ⟨_, _, rfl, ⟨a3, c3, rfl, hs3⟩, ⟨a4, c4, rfl, hs4⟩⟩⟩⟩⟩ := h
  exact ⟨a2, c2, a3, c3, a4, c4, rfl, hs2, hs3, hs4⟩
theorem Circuit.mk_rel {S : Nat → Prop} {w : World} {x : Circuit} {a2 : Option Addr} {c2 : Nat} {a3 : Option Addr} {c3 : Nat} {a4 : Option Addr} {c4 : Nat} (hs2 : Sl (Rp.int .i64) S w a2 c2 x.Next) (hs3 : Sl Gate.rp S w a3 c3 x.Gates) (hs4 : Sl (Rp.int .i64) S w a4 c4 x.Outs) : Circuit.rp.rel S w [.int .i64 x.Inputs, .int .i64 x.Latches, .slice a2 x.Next.length c2, .slice a3 x.Gates.length c3, .slice a4 x.Outs.length c4] x :=
  ⟨_, _, rfl, rfl, ⟨_, _, rfl, rfl, ⟨_, _, rfl, ⟨a2, c2, rfl, hs2⟩, ⟨_, _, rfl, ⟨a3, c3, rfl, hs3⟩, ⟨a4, c4, rfl, hs4⟩⟩⟩⟩⟩

theorem Tryinfo2 : Try.prog.info? 2 = some Try.t2 := by kernel_rfl
theorem Tryinfo4 : Try.prog.info? 4 = some Try.t4 := by kernel_rfl
theorem Tryinfo24 : Try.prog.info? 24 = some Try.t24 := by kernel_rfl
theorem Tryinfo68 : Try.prog.info? 68 = some Try.t68 := by kernel_rfl
theorem Tryinfo75 : Try.prog.info? 75 = some Try.t75 := by kernel_rfl
end Go.Proofs.Ytpmnpdphailagaa
