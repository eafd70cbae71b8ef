/- The structs of the program as data. -/
import Derived.Test.YtcmamhmpoinmnaaGreatFbBR
import Derived.Test.YtcmamhmpoinmnaaGreatProg
set_option linter.unusedVariables false
set_option linter.unusedSimpArgs false
namespace Go.Proofs.YtcmamhmpoinmnaaGreat
open Go Go.Wk Go.Proofs
structure Sig where
 In : Int
 Out : Int
def Sig.rp : Rp Sig := Rp.iso (Rp.pair (Rp.int .i64) (Rp.int .i64)) (fun x => (x.In, x.Out))
theorem Sig.un {S : Nat → Prop} {w : World} {cs : List Value} {x : Sig} (h : Sig.rp.rel S w cs x) : cs = [.int .i64 x.In, .int .i64 x.Out] := by
 obtain ⟨_, _, rfl, rfl, rfl⟩ := h
 exact rfl
theorem Sig.mk_rel {S : Nat → Prop} {w : World} {x : Sig} : Sig.rp.rel S w [.int .i64 x.In, .int .i64 x.Out] x :=
 ⟨_, _, rfl, rfl, rfl⟩
structure Machine where
 Next : (List (List Int))
 Out : (List (List Int))
def Machine.rp : Rp Machine := Rp.iso (Rp.pair (Rp.sl (Rp.sl (Rp.int .i64))) (Rp.sl (Rp.sl (Rp.int .i64)))) (fun x => (x.Next, x.Out))
theorem Machine.un {S : Nat → Prop} {w : World} {cs : List Value} {x : Machine} (h : Machine.rp.rel S w cs x) : ∃ a0 c0, ∃ a1 c1, cs = [.slice a0 x.Next.length c0, .slice a1 x.Out.length c1] ∧ Sl (Rp.sl (Rp.int .i64)) S w a0 c0 x.Next ∧ Sl (Rp.sl (Rp.int .i64)) S w a1 c1 x.Out := by
 obtain ⟨_, _, rfl, ⟨a0, c0, rfl, hs0⟩, ⟨a1, c1, rfl, hs1⟩⟩ := h
 exact ⟨a0, c0, a1, c1, rfl, hs0, hs1⟩
theorem Machine.mk_rel {S : Nat → Prop} {w : World} {x : Machine} {a0 : Option Addr} {c0 : Nat} {a1 : Option Addr} {c1 : Nat} (hs0 : Sl (Rp.sl (Rp.int .i64)) S w a0 c0 x.Next) (hs1 : Sl (Rp.sl (Rp.int .i64)) S w a1 c1 x.Out) : Machine.rp.rel S w [.slice a0 x.Next.length c0, .slice a1 x.Out.length c1] x :=
 ⟨_, _, rfl, ⟨a0, c0, rfl, hs0⟩, ⟨a1, c1, rfl, hs1⟩⟩
structure Clause where
 Kind : Int
 A : (List Int)
 B : (List Int)
def Clause.rp : Rp Clause := Rp.iso (Rp.pair (Rp.int .i64) (Rp.pair (Rp.sl (Rp.int .i64)) (Rp.sl (Rp.int .i64)))) (fun x => (x.Kind, x.A, x.B))
theorem Clause.un {S : Nat → Prop} {w : World} {cs : List Value} {x : Clause} (h : Clause.rp.rel S w cs x) : ∃ a1 c1, ∃ a2 c2, cs = [.int .i64 x.Kind, .slice a1 x.A.length c1, .slice a2 x.B.length c2] ∧ Sl (Rp.int .i64) S w a1 c1 x.A ∧ Sl (Rp.int .i64) S w a2 c2 x.B := by
 obtain ⟨_, _, rfl, rfl, ⟨_, _, rfl, ⟨a1, c1, rfl, hs1⟩, ⟨a2, c2, rfl, hs2⟩⟩⟩ := h
 exact ⟨a1, c1, a2, c2, rfl, hs1, hs2⟩
theorem Clause.mk_rel {S : Nat → Prop} {w : World} {x : Clause} {a1 : Option Addr} {c1 : Nat} {a2 : Option Addr} {c2 : Nat} (hs1 : Sl (Rp.int .i64) S w a1 c1 x.A) (hs2 : Sl (Rp.int .i64) S w a2 c2 x.B) : Clause.rp.rel S w [.int .i64 x.Kind, .slice a1 x.A.length c1, .slice a2 x.B.length c2] x :=
 ⟨_, _, rfl, rfl, ⟨_, _, rfl, ⟨a1, c1, rfl, hs1⟩, ⟨a2, c2, rfl, hs2⟩⟩⟩
structure Rival where
 In : (List Int)
 Next : (List (List Int))
def Rival.rp : Rp Rival := Rp.iso (Rp.pair (Rp.sl (Rp.int .i64)) (Rp.sl (Rp.sl (Rp.int .i64)))) (fun x => (x.In, x.Next))
theorem Rival.un {S : Nat → Prop} {w : World} {cs : List Value} {x : Rival} (h : Rival.rp.rel S w cs x) : ∃ a0 c0, ∃ a1 c1, cs = [.slice a0 x.In.length c0, .slice a1 x.Next.length c1] ∧ Sl (Rp.int .i64) S w a0 c0 x.In ∧ Sl (Rp.sl (Rp.int .i64)) S w a1 c1 x.Next := by
 obtain ⟨_, _, rfl, ⟨a0, c0, rfl, hs0⟩, ⟨a1, c1, rfl, hs1⟩⟩ := h
 exact ⟨a0, c0, a1, c1, rfl, hs0, hs1⟩
theorem Rival.mk_rel {S : Nat → Prop} {w : World} {x : Rival} {a0 : Option Addr} {c0 : Nat} {a1 : Option Addr} {c1 : Nat} (hs0 : Sl (Rp.int .i64) S w a0 c0 x.In) (hs1 : Sl (Rp.sl (Rp.int .i64)) S w a1 c1 x.Next) : Rival.rp.rel S w [.slice a0 x.In.length c0, .slice a1 x.Next.length c1] x :=
 ⟨_, _, rfl, ⟨a0, c0, rfl, hs0⟩, ⟨a1, c1, rfl, hs1⟩⟩
def Clause.ep71 : Ep Clause := Ep.iso (Ep.pair (Ep.int .i64) (Ep.pair (Ep.own (Ep.int .i64) 2) (Ep.own (Ep.int .i64) 2))) (fun x => (x.Kind, x.A, x.B))
theorem Clause.no71 : Clause.ep71.No := no_iso _ (no_pair (no_int _) (no_pair (no_own (no_int _) _) (no_own (no_int _) _)))
structure Word where
 Stem : (List Int)
 Loop : (List Int)
def Word.rp : Rp Word := Rp.iso (Rp.pair (Rp.sl (Rp.int .i64)) (Rp.sl (Rp.int .i64))) (fun x => (x.Stem, x.Loop))
theorem Word.un {S : Nat → Prop} {w : World} {cs : List Value} {x : Word} (h : Word.rp.rel S w cs x) : ∃ a0 c0, ∃ a1 c1, cs = [.slice a0 x.Stem.length c0, .slice a1 x.Loop.length c1] ∧ Sl (Rp.int .i64) S w a0 c0 x.Stem ∧ Sl (Rp.int .i64) S w a1 c1 x.Loop := by
 obtain ⟨_, _, rfl, ⟨a0, c0, rfl, hs0⟩, ⟨a1, c1, rfl, hs1⟩⟩ := h
 exact ⟨a0, c0, a1, c1, rfl, hs0, hs1⟩
theorem Word.mk_rel {S : Nat → Prop} {w : World} {x : Word} {a0 : Option Addr} {c0 : Nat} {a1 : Option Addr} {c1 : Nat} (hs0 : Sl (Rp.int .i64) S w a0 c0 x.Stem) (hs1 : Sl (Rp.int .i64) S w a1 c1 x.Loop) : Word.rp.rel S w [.slice a0 x.Stem.length c0, .slice a1 x.Loop.length c1] x :=
 ⟨_, _, rfl, ⟨a0, c0, rfl, hs0⟩, ⟨a1, c1, rfl, hs1⟩⟩
structure Pair where
 Ask : (List Int)
 Give : (List Int)
def Pair.rp : Rp Pair := Rp.iso (Rp.pair (Rp.sl (Rp.int .i64)) (Rp.sl (Rp.int .i64))) (fun x => (x.Ask, x.Give))
theorem Pair.un {S : Nat → Prop} {w : World} {cs : List Value} {x : Pair} (h : Pair.rp.rel S w cs x) : ∃ a0 c0, ∃ a1 c1, cs = [.slice a0 x.Ask.length c0, .slice a1 x.Give.length c1] ∧ Sl (Rp.int .i64) S w a0 c0 x.Ask ∧ Sl (Rp.int .i64) S w a1 c1 x.Give := by
 obtain ⟨_, _, rfl, ⟨a0, c0, rfl, hs0⟩, ⟨a1, c1, rfl, hs1⟩⟩ := h
 exact ⟨a0, c0, a1, c1, rfl, hs0, hs1⟩
theorem Pair.mk_rel {S : Nat → Prop} {w : World} {x : Pair} {a0 : Option Addr} {c0 : Nat} {a1 : Option Addr} {c1 : Nat} (hs0 : Sl (Rp.int .i64) S w a0 c0 x.Ask) (hs1 : Sl (Rp.int .i64) S w a1 c1 x.Give) : Pair.rp.rel S w [.slice a0 x.Ask.length c0, .slice a1 x.Give.length c1] x :=
 ⟨_, _, rfl, ⟨a0, c0, rfl, hs0⟩, ⟨a1, c1, rfl, hs1⟩⟩
def Pair.ep92 : Ep Pair := Ep.iso (Ep.pair (Ep.own (Ep.int .i64) 2) (Ep.own (Ep.int .i64) 2)) (fun x => (x.Ask, x.Give))
theorem Pair.no92 : Pair.ep92.No := no_iso _ (no_pair (no_own (no_int _) _) (no_own (no_int _) _))
structure Det where
 Next : (List (List Int))
 Pairs : (List Pair)
def Det.rp : Rp Det := Rp.iso (Rp.pair (Rp.sl (Rp.sl (Rp.int .i64))) (Rp.sl Pair.rp)) (fun x => (x.Next, x.Pairs))
theorem Det.un {S : Nat → Prop} {w : World} {cs : List Value} {x : Det} (h : Det.rp.rel S w cs x) : ∃ a0 c0, ∃ a1 c1, cs = [.slice a0 x.Next.length c0, .slice a1 x.Pairs.length c1] ∧ Sl (Rp.sl (Rp.int .i64)) S w a0 c0 x.Next ∧ Sl Pair.rp S w a1 c1 x.Pairs := by
 obtain ⟨_, _, rfl, ⟨a0, c0, rfl, hs0⟩, ⟨a1, c1, rfl, hs1⟩⟩ := h
 exact ⟨a0, c0, a1, c1, rfl, hs0, hs1⟩
theorem Det.mk_rel {S : Nat → Prop} {w : World} {x : Det} {a0 : Option Addr} {c0 : Nat} {a1 : Option Addr} {c1 : Nat} (hs0 : Sl (Rp.sl (Rp.int .i64)) S w a0 c0 x.Next) (hs1 : Sl Pair.rp S w a1 c1 x.Pairs) : Det.rp.rel S w [.slice a0 x.Next.length c0, .slice a1 x.Pairs.length c1] x :=
 ⟨_, _, rfl, ⟨a0, c0, rfl, hs0⟩, ⟨a1, c1, rfl, hs1⟩⟩
structure l30Graph where
 of : (List Int)
 by0 : (List Int)
 next : (List (List Int))
 letters : (List (List Int))
def l30Graph.rp : Rp l30Graph := Rp.iso (Rp.pair (Rp.sl (Rp.int .i64)) (Rp.pair (Rp.sl (Rp.int .i64)) (Rp.pair (Rp.sl (Rp.sl (Rp.int .i64))) (Rp.sl (Rp.sl (Rp.int .i64)))))) (fun x => (x.of, x.by0, x.next, x.letters))
theorem l30Graph.un {S : Nat → Prop} {w : World} {cs : List Value} {x : l30Graph} (h : l30Graph.rp.rel S w cs x) : ∃ a0 c0, ∃ a1 c1, ∃ a2 c2, ∃ a3 c3, cs = [.slice a0 x.of.length c0, .slice a1 x.by0.length c1, .slice a2 x.next.length c2, .slice a3 x.letters.length c3] ∧ Sl (Rp.int .i64) S w a0 c0 x.of ∧ Sl (Rp.int .i64) S w a1 c1 x.by0 ∧ Sl (Rp.sl (Rp.int .i64)) S w a2 c2 x.next ∧ Sl (Rp.sl (Rp.int .i64)) S w a3 c3 x.letters := by
 obtain ⟨_, _, rfl, ⟨a0, c0, rfl, hs0⟩, ⟨_, _, rfl, ⟨a1, c1, rfl, hs1⟩, ⟨_, _, rfl, ⟨a2, c2, rfl, hs2⟩, ⟨a3, c3, rfl, hs3⟩⟩⟩⟩ := h
 exact ⟨a0, c0, a1, c1, a2, c2, a3, c3, rfl, hs0, hs1, hs2, hs3⟩
theorem l30Graph.mk_rel {S : Nat → Prop} {w : World} {x : l30Graph} {a0 : Option Addr} {c0 : Nat} {a1 : Option Addr} {c1 : Nat} {a2 : Option Addr} {c2 : Nat} {a3 : Option Addr} {c3 : Nat} (hs0 : Sl (Rp.int .i64) S w a0 c0 x.of) (hs1 : Sl (Rp.int .i64) S w a1 c1 x.by0) (hs2 : Sl (Rp.sl (Rp.int .i64)) S w a2 c2 x.next) (hs3 : Sl (Rp.sl (Rp.int .i64)) S w a3 c3 x.letters) : l30Graph.rp.rel S w [.slice a0 x.of.length c0, .slice a1 x.by0.length c1, .slice a2 x.next.length c2, .slice a3 x.letters.length c3] x :=
 ⟨_, _, rfl, ⟨a0, c0, rfl, hs0⟩, ⟨_, _, rfl, ⟨a1, c1, rfl, hs1⟩, ⟨_, _, rfl, ⟨a2, c2, rfl, hs2⟩, ⟨a3, c3, rfl, hs3⟩⟩⟩⟩
structure boundsError where
 x : Int
 y : Int
 signed : Bool
 code : Int
def boundsError.rp : Rp boundsError := Rp.iso (Rp.pair (Rp.int .i64) (Rp.pair (Rp.int .i64) (Rp.pair Rp.bool (Rp.int .u8)))) (fun x => (x.x, x.y, x.signed, x.code))
theorem boundsError.un {S : Nat → Prop} {w : World} {cs : List Value} {x : boundsError} (h : boundsError.rp.rel S w cs x) : cs = [.int .i64 x.x, .int .i64 x.y, .bool x.signed, .int .u8 x.code] := by
 obtain ⟨_, _, rfl, rfl, ⟨_, _, rfl, rfl, ⟨_, _, rfl, rfl, rfl⟩⟩⟩ := h
 exact rfl
theorem boundsError.mk_rel {S : Nat → Prop} {w : World} {x : boundsError} : boundsError.rp.rel S w [.int .i64 x.x, .int .i64 x.y, .bool x.signed, .int .u8 x.code] x :=
 ⟨_, _, rfl, rfl, ⟨_, _, rfl, rfl, ⟨_, _, rfl, rfl, rfl⟩⟩⟩
structure errorAddressString where
 msg : ByteArray
 addr : Int
def errorAddressString.rp : Rp errorAddressString := Rp.iso (Rp.pair Rp.str (Rp.int .u64)) (fun x => (x.msg, x.addr))
theorem errorAddressString.un {S : Nat → Prop} {w : World} {cs : List Value} {x : errorAddressString} (h : errorAddressString.rp.rel S w cs x) : cs = [.string x.msg, .int .u64 x.addr] := by
 obtain ⟨_, _, rfl, rfl, rfl⟩ := h
 exact rfl
theorem errorAddressString.mk_rel {S : Nat → Prop} {w : World} {x : errorAddressString} : errorAddressString.rp.rel S w [.string x.msg, .int .u64 x.addr] x :=
 ⟨_, _, rfl, rfl, rfl⟩
structure dice where
 b : (List Int)
 i : Int
 h : Int
def dice.rp : Rp dice := Rp.iso (Rp.pair (Rp.sl (Rp.int .u8)) (Rp.pair (Rp.int .i64) (Rp.int .u64))) (fun x => (x.b, x.i, x.h))
theorem dice.un {S : Nat → Prop} {w : World} {cs : List Value} {x : dice} (h : dice.rp.rel S w cs x) : ∃ a0 c0, cs = [.slice a0 x.b.length c0, .int .i64 x.i, .int .u64 x.h] ∧ Sl (Rp.int .u8) S w a0 c0 x.b := by
 obtain ⟨_, _, rfl, ⟨a0, c0, rfl, hs0⟩, ⟨_, _, rfl, rfl, rfl⟩⟩ := h
 exact ⟨a0, c0, rfl, hs0⟩
theorem dice.mk_rel {S : Nat → Prop} {w : World} {x : dice} {a0 : Option Addr} {c0 : Nat} (hs0 : Sl (Rp.int .u8) S w a0 c0 x.b) : dice.rp.rel S w [.slice a0 x.b.length c0, .int .i64 x.i, .int .u64 x.h] x :=
 ⟨_, _, rfl, ⟨a0, c0, rfl, hs0⟩, ⟨_, _, rfl, rfl, rfl⟩⟩
structure watch where
 next : (List (List Int))
 letters : (List (List Int))
 pairs : (List Pair)
def watch.rp : Rp watch := Rp.iso (Rp.pair (Rp.sl (Rp.sl (Rp.int .i64))) (Rp.pair (Rp.sl (Rp.sl (Rp.int .i64))) (Rp.sl Pair.rp))) (fun x => (x.next, x.letters, x.pairs))
theorem watch.un {S : Nat → Prop} {w : World} {cs : List Value} {x : watch} (h : watch.rp.rel S w cs x) : ∃ a0 c0, ∃ a1 c1, ∃ a2 c2, cs = [.slice a0 x.next.length c0, .slice a1 x.letters.length c1, .slice a2 x.pairs.length c2] ∧ Sl (Rp.sl (Rp.int .i64)) S w a0 c0 x.next ∧ Sl (Rp.sl (Rp.int .i64)) S w a1 c1 x.letters ∧ Sl Pair.rp S w a2 c2 x.pairs := by
 obtain ⟨_, _, rfl, ⟨a0, c0, rfl, hs0⟩, ⟨_, _, rfl, ⟨a1, c1, rfl, hs1⟩, ⟨a2, c2, rfl, hs2⟩⟩⟩ := h
 exact ⟨a0, c0, a1, c1, a2, c2, rfl, hs0, hs1, hs2⟩
theorem watch.mk_rel {S : Nat → Prop} {w : World} {x : watch} {a0 : Option Addr} {c0 : Nat} {a1 : Option Addr} {c1 : Nat} {a2 : Option Addr} {c2 : Nat} (hs0 : Sl (Rp.sl (Rp.int .i64)) S w a0 c0 x.next) (hs1 : Sl (Rp.sl (Rp.int .i64)) S w a1 c1 x.letters) (hs2 : Sl Pair.rp S w a2 c2 x.pairs) : watch.rp.rel S w [.slice a0 x.next.length c0, .slice a1 x.letters.length c1, .slice a2 x.pairs.length c2] x :=
 ⟨_, _, rfl, ⟨a0, c0, rfl, hs0⟩, ⟨_, _, rfl, ⟨a1, c1, rfl, hs1⟩, ⟨a2, c2, rfl, hs2⟩⟩⟩
def kvI2 : (Int × Int) → Value := fun k => .agg #[.int .i64 k.1, .int .i64 k.2]
def kwI2 : (Int × Int) → Bool := fun k => wf2 k.1 k.2
theorem keyEI2 : KeyE Tryz.prog 107 kvI2 kwI2 := ⟨deep_law (m := 2) (by omega) (by kernel_rfl) (by kernel_rfl) (by kernel_rfl), fun k h => keyA2 Tryz.underlying107 (by kernel_rfl) (m := 232) (by kernel_rfl) (by kernel_rfl) (by kernel_rfl) Tryz.underlying2 h, fun k k' h => by
 cases k; cases k'
 simp only [kvI2, Value.agg.injEq, Array.mk.injEq, List.cons.injEq, Value.int.injEq, true_and, and_true] at h
 obtain ⟨h1, h2⟩ := h
 subst h1 h2
 rfl⟩
theorem Tryzinfo2 : Tryz.prog.info? 2 = some Tryz.t2 := by kernel_rfl
theorem Tryzinfo4 : Tryz.prog.info? 4 = some Tryz.t4 := by kernel_rfl
theorem Tryzinfo40 : Tryz.prog.info? 40 = some Tryz.t40 := by kernel_rfl
theorem Tryzinfo71 : Tryz.prog.info? 71 = some Tryz.t71 := by kernel_rfl
theorem Tryzinfo92 : Tryz.prog.info? 92 = some Tryz.t92 := by kernel_rfl
theorem Tryzinfo94 : Tryz.prog.info? 94 = some Tryz.t94 := by kernel_rfl
theorem Tryzinfo107 : Tryz.prog.info? 107 = some Tryz.t107 := by kernel_rfl
end Go.Proofs.YtcmamhmpoinmnaaGreat
