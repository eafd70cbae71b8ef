/- The structs of the program as data. -/
import Derived.Test.YtcmamhmpoinmnaaFbMC
import Derived.Test.YtcmamhmpoinmnaaProg
set_option linter.unusedVariables false
set_option linter.unusedSimpArgs false
namespace Go.Proofs.Ytcmamhmpoinmnaa
open Go Go.Wk Go.Proofs
structure Pair where
 Ask : (List Int)
 Give : (List Int)
def Pair.rp : Rp Pair := Rp.iso (Rp.pair (Rp.sl (Rp.int .i64)) (Rp.sl (Rp.int .i64))) (fun x => (x.Ask, x.Give))
theorem Pair.un {S : Nat → Prop} {w : World} {cs : List Value} {x : Pair} (h : Pair.rp.rel S w cs x) : ∃ a0 c0, ∃ a1 c1, cs = [.slice a0 x.Ask.length c0, .slice a1 x.Give.length c1] ∧ Sl (Rp.int .i64) S w a0 c0 x.Ask ∧ Sl (Rp.int .i64) S w a1 c1 x.Give := by
 obtain ⟨_, _, rfl, ⟨a0, c0, rfl, hs0⟩, ⟨a1, c1, rfl, hs1⟩⟩ := h
 exact ⟨a0, c0, a1, c1, rfl, hs0, hs1⟩
theorem Pair.mk_rel {S : Nat → Prop} {w : World} {x : Pair} {a0 : Option Addr} {c0 : Nat} {a1 : Option Addr} {c1 : Nat} (hs0 : Sl (Rp.int .i64) S w a0 c0 x.Ask) (hs1 : Sl (Rp.int .i64) S w a1 c1 x.Give) : Pair.rp.rel S w [.slice a0 x.Ask.length c0, .slice a1 x.Give.length c1] x :=
 ⟨_, _, rfl, ⟨a0, c0, rfl, hs0⟩, ⟨a1, c1, rfl, hs1⟩⟩
def Pair.ep42 : Ep Pair := Ep.iso (Ep.pair (Ep.own (Ep.int .i64) 2) (Ep.own (Ep.int .i64) 2)) (fun x => (x.Ask, x.Give))
theorem Pair.no42 : Pair.ep42.No := no_iso _ (no_pair (no_own (no_int _) _) (no_own (no_int _) _))
structure Sig where
 In : Int
 Out : Int
def Sig.rp : Rp Sig := Rp.iso (Rp.pair (Rp.int .i64) (Rp.int .i64)) (fun x => (x.In, x.Out))
theorem Sig.un {S : Nat → Prop} {w : World} {cs : List Value} {x : Sig} (h : Sig.rp.rel S w cs x) : cs = [.int .i64 x.In, .int .i64 x.Out] := by
 obtain ⟨_, _, rfl, rfl, rfl⟩ := h
 exact rfl
theorem Sig.mk_rel {S : Nat → Prop} {w : World} {x : Sig} : Sig.rp.rel S w [.int .i64 x.In, .int .i64 x.Out] x :=
 ⟨_, _, rfl, rfl, rfl⟩
structure Machine where
 Next : (List (List Int))
 Out : (List (List Int))
def Machine.rp : Rp Machine := Rp.iso (Rp.pair (Rp.sl (Rp.sl (Rp.int .i64))) (Rp.sl (Rp.sl (Rp.int .i64)))) (fun x => (x.Next, x.Out))
theorem Machine.un {S : Nat → Prop} {w : World} {cs : List Value} {x : Machine} (h : Machine.rp.rel S w cs x) : ∃ a0 c0, ∃ a1 c1, cs = [.slice a0 x.Next.length c0, .slice a1 x.Out.length c1] ∧ Sl (Rp.sl (Rp.int .i64)) S w a0 c0 x.Next ∧ Sl (Rp.sl (Rp.int .i64)) S w a1 c1 x.Out := by
 obtain ⟨_, _, rfl, ⟨a0, c0, rfl, hs0⟩, ⟨a1, c1, rfl, hs1⟩⟩ := h
 exact ⟨a0, c0, a1, c1, rfl, hs0, hs1⟩
theorem Machine.mk_rel {S : Nat → Prop} {w : World} {x : Machine} {a0 : Option Addr} {c0 : Nat} {a1 : Option Addr} {c1 : Nat} (hs0 : Sl (Rp.sl (Rp.int .i64)) S w a0 c0 x.Next) (hs1 : Sl (Rp.sl (Rp.int .i64)) S w a1 c1 x.Out) : Machine.rp.rel S w [.slice a0 x.Next.length c0, .slice a1 x.Out.length c1] x :=
 ⟨_, _, rfl, ⟨a0, c0, rfl, hs0⟩, ⟨a1, c1, rfl, hs1⟩⟩
structure Clause where
 Kind : Int
 A : (List Int)
 B : (List Int)
def Clause.rp : Rp Clause := Rp.iso (Rp.pair (Rp.int .i64) (Rp.pair (Rp.sl (Rp.int .i64)) (Rp.sl (Rp.int .i64)))) (fun x => (x.Kind, x.A, x.B))
theorem Clause.un {S : Nat → Prop} {w : World} {cs : List Value} {x : Clause} (h : Clause.rp.rel S w cs x) : ∃ a1 c1, ∃ a2 c2, cs = [.int .i64 x.Kind, .slice a1 x.A.length c1, .slice a2 x.B.length c2] ∧ Sl (Rp.int .i64) S w a1 c1 x.A ∧ Sl (Rp.int .i64) S w a2 c2 x.B := by
 obtain ⟨_, _, rfl, rfl, ⟨_, _, rfl, ⟨a1, c1, rfl, hs1⟩, ⟨a2, c2, rfl, hs2⟩⟩⟩ := h
 exact ⟨a1, c1, a2, c2, rfl, hs1, hs2⟩
theorem Clause.mk_rel {S : Nat → Prop} {w : World} {x : Clause} {a1 : Option Addr} {c1 : Nat} {a2 : Option Addr} {c2 : Nat} (hs1 : Sl (Rp.int .i64) S w a1 c1 x.A) (hs2 : Sl (Rp.int .i64) S w a2 c2 x.B) : Clause.rp.rel S w [.int .i64 x.Kind, .slice a1 x.A.length c1, .slice a2 x.B.length c2] x :=
 ⟨_, _, rfl, rfl, ⟨_, _, rfl, ⟨a1, c1, rfl, hs1⟩, ⟨a2, c2, rfl, hs2⟩⟩⟩
def Clause.ep61 : Ep Clause := Ep.iso (Ep.pair (Ep.int .i64) (Ep.pair (Ep.own (Ep.int .i64) 2) (Ep.own (Ep.int .i64) 2))) (fun x => (x.Kind, x.A, x.B))
theorem Clause.no61 : Clause.ep61.No := no_iso _ (no_pair (no_int _) (no_pair (no_own (no_int _) _) (no_own (no_int _) _)))
structure Det where
 Next : (List (List Int))
 Pairs : (List Pair)
def Det.rp : Rp Det := Rp.iso (Rp.pair (Rp.sl (Rp.sl (Rp.int .i64))) (Rp.sl Pair.rp)) (fun x => (x.Next, x.Pairs))
theorem Det.un {S : Nat → Prop} {w : World} {cs : List Value} {x : Det} (h : Det.rp.rel S w cs x) : ∃ a0 c0, ∃ a1 c1, cs = [.slice a0 x.Next.length c0, .slice a1 x.Pairs.length c1] ∧ Sl (Rp.sl (Rp.int .i64)) S w a0 c0 x.Next ∧ Sl Pair.rp S w a1 c1 x.Pairs := by
 obtain ⟨_, _, rfl, ⟨a0, c0, rfl, hs0⟩, ⟨a1, c1, rfl, hs1⟩⟩ := h
 exact ⟨a0, c0, a1, c1, rfl, hs0, hs1⟩
theorem Det.mk_rel {S : Nat → Prop} {w : World} {x : Det} {a0 : Option Addr} {c0 : Nat} {a1 : Option Addr} {c1 : Nat} (hs0 : Sl (Rp.sl (Rp.int .i64)) S w a0 c0 x.Next) (hs1 : Sl Pair.rp S w a1 c1 x.Pairs) : Det.rp.rel S w [.slice a0 x.Next.length c0, .slice a1 x.Pairs.length c1] x :=
 ⟨_, _, rfl, ⟨a0, c0, rfl, hs0⟩, ⟨a1, c1, rfl, hs1⟩⟩
structure Arena where
 Owner : (List Int)
 Next : (List (List Int))
def Arena.rp : Rp Arena := Rp.iso (Rp.pair (Rp.sl (Rp.int .i64)) (Rp.sl (Rp.sl (Rp.int .i64)))) (fun x => (x.Owner, x.Next))
theorem Arena.un {S : Nat → Prop} {w : World} {cs : List Value} {x : Arena} (h : Arena.rp.rel S w cs x) : ∃ a0 c0, ∃ a1 c1, cs = [.slice a0 x.Owner.length c0, .slice a1 x.Next.length c1] ∧ Sl (Rp.int .i64) S w a0 c0 x.Owner ∧ Sl (Rp.sl (Rp.int .i64)) S w a1 c1 x.Next := by
 obtain ⟨_, _, rfl, ⟨a0, c0, rfl, hs0⟩, ⟨a1, c1, rfl, hs1⟩⟩ := h
 exact ⟨a0, c0, a1, c1, rfl, hs0, hs1⟩
theorem Arena.mk_rel {S : Nat → Prop} {w : World} {x : Arena} {a0 : Option Addr} {c0 : Nat} {a1 : Option Addr} {c1 : Nat} (hs0 : Sl (Rp.int .i64) S w a0 c0 x.Owner) (hs1 : Sl (Rp.sl (Rp.int .i64)) S w a1 c1 x.Next) : Arena.rp.rel S w [.slice a0 x.Owner.length c0, .slice a1 x.Next.length c1] x :=
 ⟨_, _, rfl, ⟨a0, c0, rfl, hs0⟩, ⟨a1, c1, rfl, hs1⟩⟩
structure boundsError where
 x : Int
 y : Int
 signed : Bool
 code : Int
def boundsError.rp : Rp boundsError := Rp.iso (Rp.pair (Rp.int .i64) (Rp.pair (Rp.int .i64) (Rp.pair Rp.bool (Rp.int .u8)))) (fun x => (x.x, x.y, x.signed, x.code))
theorem boundsError.un {S : Nat → Prop} {w : World} {cs : List Value} {x : boundsError} (h : boundsError.rp.rel S w cs x) : cs = [.int .i64 x.x, .int .i64 x.y, .bool x.signed, .int .u8 x.code] := by
 obtain ⟨_, _, rfl, rfl, ⟨_, _, rfl, rfl, ⟨_, _, rfl, rfl, rfl⟩⟩⟩ := h
 exact rfl
theorem boundsError.mk_rel {S : Nat → Prop} {w : World} {x : boundsError} : boundsError.rp.rel S w [.int .i64 x.x, .int .i64 x.y, .bool x.signed, .int .u8 x.code] x :=
 ⟨_, _, rfl, rfl, ⟨_, _, rfl, rfl, ⟨_, _, rfl, rfl, rfl⟩⟩⟩
structure errorAddressString where
 msg : ByteArray
 addr : Int
def errorAddressString.rp : Rp errorAddressString := Rp.iso (Rp.pair Rp.str (Rp.int .u64)) (fun x => (x.msg, x.addr))
theorem errorAddressString.un {S : Nat → Prop} {w : World} {cs : List Value} {x : errorAddressString} (h : errorAddressString.rp.rel S w cs x) : cs = [.string x.msg, .int .u64 x.addr] := by
 obtain ⟨_, _, rfl, rfl, rfl⟩ := h
 exact rfl
theorem errorAddressString.mk_rel {S : Nat → Prop} {w : World} {x : errorAddressString} : errorAddressString.rp.rel S w [.string x.msg, .int .u64 x.addr] x :=
 ⟨_, _, rfl, rfl, rfl⟩
structure dice where
 b : (List Int)
 i : Int
 h : Int
def dice.rp : Rp dice := Rp.iso (Rp.pair (Rp.sl (Rp.int .u8)) (Rp.pair (Rp.int .i64) (Rp.int .u64))) (fun x => (x.b, x.i, x.h))
theorem dice.un {S : Nat → Prop} {w : World} {cs : List Value} {x : dice} (h : dice.rp.rel S w cs x) : ∃ a0 c0, cs = [.slice a0 x.b.length c0, .int .i64 x.i, .int .u64 x.h] ∧ Sl (Rp.int .u8) S w a0 c0 x.b := by
 obtain ⟨_, _, rfl, ⟨a0, c0, rfl, hs0⟩, ⟨_, _, rfl, rfl, rfl⟩⟩ := h
 exact ⟨a0, c0, rfl, hs0⟩
theorem dice.mk_rel {S : Nat → Prop} {w : World} {x : dice} {a0 : Option Addr} {c0 : Nat} (hs0 : Sl (Rp.int .u8) S w a0 c0 x.b) : dice.rp.rel S w [.slice a0 x.b.length c0, .int .i64 x.i, .int .u64 x.h] x :=
 ⟨_, _, rfl, ⟨a0, c0, rfl, hs0⟩, ⟨_, _, rfl, rfl, rfl⟩⟩
structure watch where
 next : (List (List Int))
 letters : (List (List Int))
 pairs : (List Pair)
def watch.rp : Rp watch := Rp.iso (Rp.pair (Rp.sl (Rp.sl (Rp.int .i64))) (Rp.pair (Rp.sl (Rp.sl (Rp.int .i64))) (Rp.sl Pair.rp))) (fun x => (x.next, x.letters, x.pairs))
theorem watch.un {S : Nat → Prop} {w : World} {cs : List Value} {x : watch} (h : watch.rp.rel S w cs x) : ∃ a0 c0, ∃ a1 c1, ∃ a2 c2, cs = [.slice a0 x.next.length c0, .slice a1 x.letters.length c1, .slice a2 x.pairs.length c2] ∧ Sl (Rp.sl (Rp.int .i64)) S w a0 c0 x.next ∧ Sl (Rp.sl (Rp.int .i64)) S w a1 c1 x.letters ∧ Sl Pair.rp S w a2 c2 x.pairs := by
 obtain ⟨_, _, rfl, ⟨a0, c0, rfl, hs0⟩, ⟨_, _, rfl, ⟨a1, c1, rfl, hs1⟩, ⟨a2, c2, rfl, hs2⟩⟩⟩ := h
 exact ⟨a0, c0, a1, c1, a2, c2, rfl, hs0, hs1, hs2⟩
theorem watch.mk_rel {S : Nat → Prop} {w : World} {x : watch} {a0 : Option Addr} {c0 : Nat} {a1 : Option Addr} {c1 : Nat} {a2 : Option Addr} {c2 : Nat} (hs0 : Sl (Rp.sl (Rp.int .i64)) S w a0 c0 x.next) (hs1 : Sl (Rp.sl (Rp.int .i64)) S w a1 c1 x.letters) (hs2 : Sl Pair.rp S w a2 c2 x.pairs) : watch.rp.rel S w [.slice a0 x.next.length c0, .slice a1 x.letters.length c1, .slice a2 x.pairs.length c2] x :=
 ⟨_, _, rfl, ⟨a0, c0, rfl, hs0⟩, ⟨_, _, rfl, ⟨a1, c1, rfl, hs1⟩, ⟨a2, c2, rfl, hs2⟩⟩⟩
structure l1Cur where
 b : (List Int)
 i : Int
 h : Int
def l1Cur.rp : Rp l1Cur := Rp.iso (Rp.pair (Rp.sl (Rp.int .u8)) (Rp.pair (Rp.int .i64) (Rp.int .i64))) (fun x => (x.b, x.i, x.h))
theorem l1Cur.un {S : Nat → Prop} {w : World} {cs : List Value} {x : l1Cur} (h : l1Cur.rp.rel S w cs x) : ∃ a0 c0, cs = [.slice a0 x.b.length c0, .int .i64 x.i, .int .i64 x.h] ∧ Sl (Rp.int .u8) S w a0 c0 x.b := by
 obtain ⟨_, _, rfl, ⟨a0, c0, rfl, hs0⟩, ⟨_, _, rfl, rfl, rfl⟩⟩ := h
 exact ⟨a0, c0, rfl, hs0⟩
theorem l1Cur.mk_rel {S : Nat → Prop} {w : World} {x : l1Cur} {a0 : Option Addr} {c0 : Nat} (hs0 : Sl (Rp.int .u8) S w a0 c0 x.b) : l1Cur.rp.rel S w [.slice a0 x.b.length c0, .int .i64 x.i, .int .i64 x.h] x :=
 ⟨_, _, rfl, ⟨a0, c0, rfl, hs0⟩, ⟨_, _, rfl, rfl, rfl⟩⟩
def kvI2 : (Int × Int) → Value := fun k => .agg #[.int .i64 k.1, .int .i64 k.2]
def kwI2 : (Int × Int) → Bool := fun k => wf2 k.1 k.2
theorem keyEI2 : KeyE Try.prog 108 kvI2 kwI2 := ⟨deep_law (m := 2) (by omega) (by kernel_rfl) (by kernel_rfl) (by kernel_rfl), fun k h => keyA2 Try.underlying108 (by kernel_rfl) (m := 185) (by kernel_rfl) (by kernel_rfl) (by kernel_rfl) Try.underlying2 h, fun k k' h => by
 cases k; cases k'
 simp only [kvI2, Value.agg.injEq, Array.mk.injEq, List.cons.injEq, Value.int.injEq, true_and, and_true] at h
 obtain ⟨h1, h2⟩ := h
 subst h1 h2
 rfl⟩
theorem Tryinfo2 : Try.prog.info? 2 = some Try.t2 := by kernel_rfl
theorem Tryinfo4 : Try.prog.info? 4 = some Try.t4 := by kernel_rfl
theorem Tryinfo24 : Try.prog.info? 24 = some Try.t24 := by kernel_rfl
theorem Tryinfo42 : Try.prog.info? 42 = some Try.t42 := by kernel_rfl
theorem Tryinfo58 : Try.prog.info? 58 = some Try.t58 := by kernel_rfl
theorem Tryinfo61 : Try.prog.info? 61 = some Try.t61 := by kernel_rfl
theorem Tryinfo108 : Try.prog.info? 108 = some Try.t108 := by kernel_rfl
end Go.Proofs.Ytcmamhmpoinmnaa
