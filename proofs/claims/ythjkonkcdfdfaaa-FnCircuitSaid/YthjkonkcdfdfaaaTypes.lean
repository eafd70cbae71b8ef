/- The structs of the program as data. -/
import Derived.Test.YthjkonkcdfdfaaaMap
import Derived.Test.YthjkonkcdfdfaaaProg
set_option linter.unusedVariables false
set_option linter.unusedSimpArgs false
namespace Go.Proofs.Ythjkonkcdfdfaaa
open Go Go.Wk Go.Proofs

structure Gate where
  A : Int
  B : Int

def Gate.rp : Rp Gate := Rp.iso (Rp.pair (Rp.int .i64) (Rp.int .i64)) (fun x => (x.A, x.B))
theorem Gate.un {S : Nat → Prop} {w : World} {cs : List Value} {x : Gate} (h : Gate.rp.rel S w cs x) : cs = [.int .i64 x.A, .int .i64 x.B] := by
  obtain ⟨_, _, rfl, rfl, rfl⟩ := h
  exact rfl
theorem Gate.mk_rel {S : Nat → Prop} {w : World} {x : Gate} : Gate.rp.rel S w [.int .i64 x.A, .int .i64 x.B] x :=
  ⟨_, _, rfl, rfl, rfl⟩

def Gate.ep33 : Ep Gate := Ep.iso (Ep.pair (Ep.int .i64) (Ep.int .i64)) (fun x => (x.A, x.B))
theorem Gate.pu33 : Gate.ep33.Pu := pu_iso _ (pu_pair (pu_int _) (pu_int _))
theorem Gate.no33 : Gate.ep33.No := no_iso _ (no_pair (no_int _) (no_int _))

structure Circuit where
  Inputs : Int
  Latches : Int
  Next : (List Int)
  Gates : (List Gate)
  Outs : (List Int)

def Circuit.rp : Rp Circuit := Rp.iso (Rp.pair (Rp.int .i64) (Rp.pair (Rp.int .i64) (Rp.pair (Rp.sl (Rp.int .i64)) (Rp.pair (Rp.sl Gate.rp) (Rp.sl (Rp.int .i64)))))) (fun x => (x.Inputs, x.Latches, x.Next, x.Gates, x.Outs))
theorem Circuit.un {S : Nat → Prop} {w : World} {cs : List Value} {x : Circuit} (h : Circuit.rp.rel S w cs x) : ∃ a2 c2, ∃ a3 c3, ∃ a4 c4, cs = [.int .i64 x.Inputs, .int .i64 x.Latches, .slice a2 x.Next.length c2, .slice a3 x.Gates.length c3, .slice a4 x.Outs.length c4] ∧ Sl (Rp.int .i64) S w a2 c2 x.Next ∧ Sl Gate.rp S w a3 c3 x.Gates ∧ Sl (Rp.int .i64) S w a4 c4 x.Outs := by
  obtain ⟨_, _, rfl, rfl, ⟨_, _, rfl, rfl, ⟨_, _, rfl, ⟨a2, c2, rfl, hs2⟩, ⟨_, _, rfl, ⟨a3, c3, rfl, hs3⟩, ⟨a4, c4, rfl, hs4⟩⟩⟩⟩⟩ := h
  exact ⟨a2, c2, a3, c3, a4, c4, rfl, hs2, hs3, hs4⟩
theorem Circuit.mk_rel {S : Nat → Prop} {w : World} {x : Circuit} {a2 : Option Addr} {c2 : Nat} {a3 : Option Addr} {c3 : Nat} {a4 : Option Addr} {c4 : Nat} (hs2 : Sl (Rp.int .i64) S w a2 c2 x.Next) (hs3 : Sl Gate.rp S w a3 c3 x.Gates) (hs4 : Sl (Rp.int .i64) S w a4 c4 x.Outs) : Circuit.rp.rel S w [.int .i64 x.Inputs, .int .i64 x.Latches, .slice a2 x.Next.length c2, .slice a3 x.Gates.length c3, .slice a4 x.Outs.length c4] x :=
  ⟨_, _, rfl, rfl, ⟨_, _, rfl, rfl, ⟨_, _, rfl, ⟨a2, c2, rfl, hs2⟩, ⟨_, _, rfl, ⟨a3, c3, rfl, hs3⟩, ⟨a4, c4, rfl, hs4⟩⟩⟩⟩⟩

def Circuit.ep27 : Ep Circuit := Ep.iso (Ep.pair (Ep.int .i64) (Ep.pair (Ep.int .i64) (Ep.pair (Ep.own (Ep.int .i64) 2) (Ep.pair (Ep.own Gate.ep33 33) (Ep.own (Ep.int .i64) 2))))) (fun x => (x.Inputs, x.Latches, x.Next, x.Gates, x.Outs))
theorem Circuit.no27 : Circuit.ep27.No := no_iso _ (no_pair (no_int _) (no_pair (no_int _) (no_pair (no_own (no_int _) _) (no_pair (no_own Gate.no33 _) (no_own (no_int _) _)))))

structure Sig where
  In : Int
  Out : Int

def Sig.rp : Rp Sig := Rp.iso (Rp.pair (Rp.int .i64) (Rp.int .i64)) (fun x => (x.In, x.Out))
theorem Sig.un {S : Nat → Prop} {w : World} {cs : List Value} {x : Sig} (h : Sig.rp.rel S w cs x) : cs = [.int .i64 x.In, .int .i64 x.Out] := by
  obtain ⟨_, _, rfl, rfl, rfl⟩ := h
  exact rfl
theorem Sig.mk_rel {S : Nat → Prop} {w : World} {x : Sig} : Sig.rp.rel S w [.int .i64 x.In, .int .i64 x.Out] x :=
  ⟨_, _, rfl, rfl, rfl⟩

def Sig.ep43 : Ep Sig := Ep.iso (Ep.pair (Ep.int .i64) (Ep.int .i64)) (fun x => (x.In, x.Out))
theorem Sig.pu43 : Sig.ep43.Pu := pu_iso _ (pu_pair (pu_int _) (pu_int _))
theorem Sig.no43 : Sig.ep43.No := no_iso _ (no_pair (no_int _) (no_int _))

structure Machine where
  Next : (List (List Int))
  Out : (List (List Int))

def Machine.rp : Rp Machine := Rp.iso (Rp.pair (Rp.sl (Rp.sl (Rp.int .i64))) (Rp.sl (Rp.sl (Rp.int .i64)))) (fun x => (x.Next, x.Out))
theorem Machine.un {S : Nat → Prop} {w : World} {cs : List Value} {x : Machine} (h : Machine.rp.rel S w cs x) : ∃ a0 c0, ∃ a1 c1, cs = [.slice a0 x.Next.length c0, .slice a1 x.Out.length c1] ∧ Sl (Rp.sl (Rp.int .i64)) S w a0 c0 x.Next ∧ Sl (Rp.sl (Rp.int .i64)) S w a1 c1 x.Out := by
  obtain ⟨_, _, rfl, ⟨a0, c0, rfl, hs0⟩, ⟨a1, c1, rfl, hs1⟩⟩ := h
  exact ⟨a0, c0, a1, c1, rfl, hs0, hs1⟩
theorem Machine.mk_rel {S : Nat → Prop} {w : World} {x : Machine} {a0 : Option Addr} {c0 : Nat} {a1 : Option Addr} {c1 : Nat} (hs0 : Sl (Rp.sl (Rp.int .i64)) S w a0 c0 x.Next) (hs1 : Sl (Rp.sl (Rp.int .i64)) S w a1 c1 x.Out) : Machine.rp.rel S w [.slice a0 x.Next.length c0, .slice a1 x.Out.length c1] x :=
  ⟨_, _, rfl, ⟨a0, c0, rfl, hs0⟩, ⟨a1, c1, rfl, hs1⟩⟩

def Machine.ep46 : Ep Machine := Ep.iso (Ep.pair (Ep.own (Ep.own (Ep.int .i64) 2) 24) (Ep.own (Ep.own (Ep.int .i64) 2) 24)) (fun x => (x.Next, x.Out))
theorem Machine.no46 : Machine.ep46.No := no_iso _ (no_pair (no_own (no_own (no_int _) _) _) (no_own (no_own (no_int _) _) _))

structure boundsError where
  x : Int
  y : Int
  signed : Bool
  code : Int

def boundsError.rp : Rp boundsError := Rp.iso (Rp.pair (Rp.int .i64) (Rp.pair (Rp.int .i64) (Rp.pair Rp.bool (Rp.int .u8)))) (fun x => (x.x, x.y, x.signed, x.code))
theorem boundsError.un {S : Nat → Prop} {w : World} {cs : List Value} {x : boundsError} (h : boundsError.rp.rel S w cs x) : cs = [.int .i64 x.x, .int .i64 x.y, .bool x.signed, .int .u8 x.code] := by
  obtain ⟨_, _, rfl, rfl, ⟨_, _, rfl, rfl, ⟨_, _, rfl, rfl, rfl⟩⟩⟩ := h
  exact rfl
theorem boundsError.mk_rel {S : Nat → Prop} {w : World} {x : boundsError} : boundsError.rp.rel S w [.int .i64 x.x, .int .i64 x.y, .bool x.signed, .int .u8 x.code] x :=
  ⟨_, _, rfl, rfl, ⟨_, _, rfl, rfl, ⟨_, _, rfl, rfl, rfl⟩⟩⟩

def boundsError.ep8 : Ep boundsError := Ep.iso (Ep.pair (Ep.int .i64) (Ep.pair (Ep.int .i64) (Ep.pair Ep.bool (Ep.int .u8)))) (fun x => (x.x, x.y, x.signed, x.code))
theorem boundsError.pu8 : boundsError.ep8.Pu := pu_iso _ (pu_pair (pu_int _) (pu_pair (pu_int _) (pu_pair pu_bool (pu_int _))))
theorem boundsError.no8 : boundsError.ep8.No := no_iso _ (no_pair (no_int _) (no_pair (no_int _) (no_pair no_bool (no_int _))))

structure errorAddressString where
  msg : ByteArray
  addr : Int

def errorAddressString.rp : Rp errorAddressString := Rp.iso (Rp.pair Rp.str (Rp.int .u64)) (fun x => (x.msg, x.addr))
theorem errorAddressString.un {S : Nat → Prop} {w : World} {cs : List Value} {x : errorAddressString} (h : errorAddressString.rp.rel S w cs x) : cs = [.string x.msg, .int .u64 x.addr] := by
  obtain ⟨_, _, rfl, rfl, rfl⟩ := h
  exact rfl
theorem errorAddressString.mk_rel {S : Nat → Prop} {w : World} {x : errorAddressString} : errorAddressString.rp.rel S w [.string x.msg, .int .u64 x.addr] x :=
  ⟨_, _, rfl, rfl, rfl⟩

def errorAddressString.ep14 : Ep errorAddressString := Ep.iso (Ep.pair Ep.str (Ep.int .u64)) (fun x => (x.msg, x.addr))
theorem errorAddressString.pu14 : errorAddressString.ep14.Pu := pu_iso _ (pu_pair pu_str (pu_int _))
theorem errorAddressString.no14 : errorAddressString.ep14.No := no_iso _ (no_pair no_str (no_int _))

structure builder where
  c : Circuit
  full : Bool
  known : (List (Gate × Int))

structure dice where
  b : (List Int)
  i : Int
  h : Int

def dice.rp : Rp dice := Rp.iso (Rp.pair (Rp.sl (Rp.int .u8)) (Rp.pair (Rp.int .i64) (Rp.int .u64))) (fun x => (x.b, x.i, x.h))
theorem dice.un {S : Nat → Prop} {w : World} {cs : List Value} {x : dice} (h : dice.rp.rel S w cs x) : ∃ a0 c0, cs = [.slice a0 x.b.length c0, .int .i64 x.i, .int .u64 x.h] ∧ Sl (Rp.int .u8) S w a0 c0 x.b := by
  obtain ⟨_, _, rfl, ⟨a0, c0, rfl, hs0⟩, ⟨_, _, rfl, rfl, rfl⟩⟩ := h
  exact ⟨a0, c0, rfl, hs0⟩
theorem dice.mk_rel {S : Nat → Prop} {w : World} {x : dice} {a0 : Option Addr} {c0 : Nat} (hs0 : Sl (Rp.int .u8) S w a0 c0 x.b) : dice.rp.rel S w [.slice a0 x.b.length c0, .int .i64 x.i, .int .u64 x.h] x :=
  ⟨_, _, rfl, ⟨a0, c0, rfl, hs0⟩, ⟨_, _, rfl, rfl, rfl⟩⟩

def dice.ep86 : Ep dice := Ep.iso (Ep.pair (Ep.own (Ep.int .u8) 5) (Ep.pair (Ep.int .i64) (Ep.int .u64))) (fun x => (x.b, x.i, x.h))
theorem dice.no86 : dice.ep86.No := no_iso _ (no_pair (no_own (no_int _) _) (no_pair (no_int _) (no_int _)))

structure l1Cur where
  b : (List Int)
  i : Int
  h : Int

def l1Cur.rp : Rp l1Cur := Rp.iso (Rp.pair (Rp.sl (Rp.int .u8)) (Rp.pair (Rp.int .i64) (Rp.int .i64))) (fun x => (x.b, x.i, x.h))
theorem l1Cur.un {S : Nat → Prop} {w : World} {cs : List Value} {x : l1Cur} (h : l1Cur.rp.rel S w cs x) : ∃ a0 c0, cs = [.slice a0 x.b.length c0, .int .i64 x.i, .int .i64 x.h] ∧ Sl (Rp.int .u8) S w a0 c0 x.b := by
  obtain ⟨_, _, rfl, ⟨a0, c0, rfl, hs0⟩, ⟨_, _, rfl, rfl, rfl⟩⟩ := h
  exact ⟨a0, c0, rfl, hs0⟩
theorem l1Cur.mk_rel {S : Nat → Prop} {w : World} {x : l1Cur} {a0 : Option Addr} {c0 : Nat} (hs0 : Sl (Rp.int .u8) S w a0 c0 x.b) : l1Cur.rp.rel S w [.slice a0 x.b.length c0, .int .i64 x.i, .int .i64 x.h] x :=
  ⟨_, _, rfl, ⟨a0, c0, rfl, hs0⟩, ⟨_, _, rfl, rfl, rfl⟩⟩

def l1Cur.ep89 : Ep l1Cur := Ep.iso (Ep.pair (Ep.own (Ep.int .u8) 5) (Ep.pair (Ep.int .i64) (Ep.int .i64))) (fun x => (x.b, x.i, x.h))
theorem l1Cur.no89 : l1Cur.ep89.No := no_iso _ (no_pair (no_own (no_int _) _) (no_pair (no_int _) (no_int _)))

instance : DecidableEq Gate := fun a b => match a, b with
  | ⟨a0, a1⟩, ⟨b0, b1⟩ => decidable_of_iff (a0 = b0 ∧ a1 = b1) (by simp)
def kvGate : Gate → Value := fun k => .agg #[.int .i64 k.A, .int .i64 k.B]
def kwGate : Gate → Bool := fun k => wf2 k.A k.B
theorem keyEGate : KeyE Try.prog 33 kvGate kwGate := ⟨deep_law (m := 2) (by omega) (by kernel_rfl) (by kernel_rfl) (by kernel_rfl), fun k h => keyS2 Try.underlying33 (by kernel_rfl) (m := 123) (by kernel_rfl) (by kernel_rfl) rfl rfl (by kernel_rfl) (by kernel_rfl) Try.underlying2 Try.underlying2 rfl rfl h, fun k k' h => by
  cases k; cases k'
  simp only [kvGate, Value.agg.injEq, Array.mk.injEq, List.cons.injEq, Value.int.injEq, true_and, and_true] at h
  obtain ⟨h1, h2⟩ := h
  subst h1 h2
  rfl⟩
theorem Tryinfo2 : Try.prog.info? 2 = some Try.t2 := by kernel_rfl
theorem Tryinfo4 : Try.prog.info? 4 = some Try.t4 := by kernel_rfl
theorem Tryinfo5 : Try.prog.info? 5 = some Try.t5 := by kernel_rfl
theorem Tryinfo24 : Try.prog.info? 24 = some Try.t24 := by kernel_rfl
theorem Tryinfo33 : Try.prog.info? 33 = some Try.t33 := by kernel_rfl
theorem Tryinfo81 : Try.prog.info? 81 = some Try.t81 := by kernel_rfl
end Go.Proofs.Ythjkonkcdfdfaaa
