/- The structs of the program as data. -/
import Derived.Test.YtnmjfjppgpkieaaMap
import Derived.Test.YtnmjfjppgpkieaaTwo
import Derived.Test.YtnmjfjppgpkieaaProg
set_option linter.unusedVariables false
set_option linter.unusedSimpArgs false
namespace Go.Proofs.Ytnmjfjppgpkieaa
open Go Go.Wk Go.Proofs

structure Sig where
  In : Int
  Out : Int

def Sig.rp : Rp Sig := Rp.iso (Rp.pair (Rp.int .i64) (Rp.int .i64)) (fun x => (x.In, x.Out))
theorem Sig.un {S : Nat → Prop} {w : World} {cs : List Value} {x : Sig} (h : Sig.rp.rel S w cs x) : cs = [.int .i64 x.In, .int .i64 x.Out] := by
  obtain ⟨_, _, rfl, rfl, rfl⟩ := h
  exact rfl
theorem Sig.mk_rel {S : Nat → Prop} {w : World} {x : Sig} : Sig.rp.rel S w [.int .i64 x.In, .int .i64 x.Out] x :=
  ⟨_, _, rfl, rfl, rfl⟩

def Sig.ep23 : Ep Sig := Ep.iso (Ep.pair (Ep.int .i64) (Ep.int .i64)) (fun x => (x.In, x.Out))
theorem Sig.pu23 : Sig.ep23.Pu := pu_iso _ (pu_pair (pu_int _) (pu_int _))
theorem Sig.no23 : Sig.ep23.No := no_iso _ (no_pair (no_int _) (no_int _))

structure Machine where
  Next : (List (List Int))
  Out : (List (List Int))

def Machine.rp : Rp Machine := Rp.iso (Rp.pair (Rp.sl (Rp.sl (Rp.int .i64))) (Rp.sl (Rp.sl (Rp.int .i64)))) (fun x => (x.Next, x.Out))
theorem Machine.un {S : Nat → Prop} {w : World} {cs : List Value} {x : Machine} (h : Machine.rp.rel S w cs x) : ∃ a0 c0, ∃ a1 c1, cs = [.slice a0 x.Next.length c0, .slice a1 x.Out.length c1] ∧ Sl (Rp.sl (Rp.int .i64)) S w a0 c0 x.Next ∧ Sl (Rp.sl (Rp.int .i64)) S w a1 c1 x.Out := by
  obtain ⟨_, _, rfl, ⟨a0, c0, rfl, hs0⟩, ⟨a1, c1, rfl, hs1⟩⟩ := h
  exact ⟨a0, c0, a1, c1, rfl, hs0, hs1⟩
theorem Machine.mk_rel {S : Nat → Prop} {w : World} {x : Machine} {a0 : Option Addr} {c0 : Nat} {a1 : Option Addr} {c1 : Nat} (hs0 : Sl (Rp.sl (Rp.int .i64)) S w a0 c0 x.Next) (hs1 : Sl (Rp.sl (Rp.int .i64)) S w a1 c1 x.Out) : Machine.rp.rel S w [.slice a0 x.Next.length c0, .slice a1 x.Out.length c1] x :=
  ⟨_, _, rfl, ⟨a0, c0, rfl, hs0⟩, ⟨a1, c1, rfl, hs1⟩⟩

def Machine.ep26 : Ep Machine := Ep.iso (Ep.pair (Ep.own (Ep.own (Ep.int .i64) 2) 28) (Ep.own (Ep.own (Ep.int .i64) 2) 28)) (fun x => (x.Next, x.Out))
theorem Machine.no26 : Machine.ep26.No := no_iso _ (no_pair (no_own (no_own (no_int _) _) _) (no_own (no_own (no_int _) _) _))

structure Clause where
  Kind : Int
  A : (List Int)
  B : (List Int)

def Clause.rp : Rp Clause := Rp.iso (Rp.pair (Rp.int .i64) (Rp.pair (Rp.sl (Rp.int .i64)) (Rp.sl (Rp.int .i64)))) (fun x => (x.Kind, x.A, x.B))
theorem Clause.un {S : Nat → Prop} {w : World} {cs : List Value} {x : Clause} (h : Clause.rp.rel S w cs x) : ∃ a1 c1, ∃ a2 c2, cs = [.int .i64 x.Kind, .slice a1 x.A.length c1, .slice a2 x.B.length c2] ∧ Sl (Rp.int .i64) S w a1 c1 x.A ∧ Sl (Rp.int .i64) S w a2 c2 x.B := by
  obtain ⟨_, _, rfl, rfl, ⟨_, _, rfl, ⟨a1, c1, rfl, hs1⟩, ⟨a2, c2, rfl, hs2⟩⟩⟩ := h
  exact ⟨a1, c1, a2, c2, rfl, hs1, hs2⟩
theorem Clause.mk_rel {S : Nat → Prop} {w : World} {x : Clause} {a1 : Option Addr} {c1 : Nat} {a2 : Option Addr} {c2 : Nat} (hs1 : Sl (Rp.int .i64) S w a1 c1 x.A) (hs2 : Sl (Rp.int .i64) S w a2 c2 x.B) : Clause.rp.rel S w [.int .i64 x.Kind, .slice a1 x.A.length c1, .slice a2 x.B.length c2] x :=
  ⟨_, _, rfl, rfl, ⟨_, _, rfl, ⟨a1, c1, rfl, hs1⟩, ⟨a2, c2, rfl, hs2⟩⟩⟩

def Clause.ep94 : Ep Clause := Ep.iso (Ep.pair (Ep.int .i64) (Ep.pair (Ep.own (Ep.int .i64) 2) (Ep.own (Ep.int .i64) 2))) (fun x => (x.Kind, x.A, x.B))
theorem Clause.no94 : Clause.ep94.No := no_iso _ (no_pair (no_int _) (no_pair (no_own (no_int _) _) (no_own (no_int _) _)))

structure Word where
  Stem : (List Int)
  Loop : (List Int)

def Word.rp : Rp Word := Rp.iso (Rp.pair (Rp.sl (Rp.int .i64)) (Rp.sl (Rp.int .i64))) (fun x => (x.Stem, x.Loop))
theorem Word.un {S : Nat → Prop} {w : World} {cs : List Value} {x : Word} (h : Word.rp.rel S w cs x) : ∃ a0 c0, ∃ a1 c1, cs = [.slice a0 x.Stem.length c0, .slice a1 x.Loop.length c1] ∧ Sl (Rp.int .i64) S w a0 c0 x.Stem ∧ Sl (Rp.int .i64) S w a1 c1 x.Loop := by
  obtain ⟨_, _, rfl, ⟨a0, c0, rfl, hs0⟩, ⟨a1, c1, rfl, hs1⟩⟩ := h
  exact ⟨a0, c0, a1, c1, rfl, hs0, hs1⟩
theorem Word.mk_rel {S : Nat → Prop} {w : World} {x : Word} {a0 : Option Addr} {c0 : Nat} {a1 : Option Addr} {c1 : Nat} (hs0 : Sl (Rp.int .i64) S w a0 c0 x.Stem) (hs1 : Sl (Rp.int .i64) S w a1 c1 x.Loop) : Word.rp.rel S w [.slice a0 x.Stem.length c0, .slice a1 x.Loop.length c1] x :=
  ⟨_, _, rfl, ⟨a0, c0, rfl, hs0⟩, ⟨a1, c1, rfl, hs1⟩⟩

def Word.ep30 : Ep Word := Ep.iso (Ep.pair (Ep.own (Ep.int .i64) 2) (Ep.own (Ep.int .i64) 2)) (fun x => (x.Stem, x.Loop))
theorem Word.no30 : Word.ep30.No := no_iso _ (no_pair (no_own (no_int _) _) (no_own (no_int _) _))

structure Pair where
  Ask : (List Int)
  Give : (List Int)

def Pair.rp : Rp Pair := Rp.iso (Rp.pair (Rp.sl (Rp.int .i64)) (Rp.sl (Rp.int .i64))) (fun x => (x.Ask, x.Give))
theorem Pair.un {S : Nat → Prop} {w : World} {cs : List Value} {x : Pair} (h : Pair.rp.rel S w cs x) : ∃ a0 c0, ∃ a1 c1, cs = [.slice a0 x.Ask.length c0, .slice a1 x.Give.length c1] ∧ Sl (Rp.int .i64) S w a0 c0 x.Ask ∧ Sl (Rp.int .i64) S w a1 c1 x.Give := by
  obtain ⟨_, _, rfl, ⟨a0, c0, rfl, hs0⟩, ⟨a1, c1, rfl, hs1⟩⟩ := h
  exact ⟨a0, c0, a1, c1, rfl, hs0, hs1⟩
theorem Pair.mk_rel {S : Nat → Prop} {w : World} {x : Pair} {a0 : Option Addr} {c0 : Nat} {a1 : Option Addr} {c1 : Nat} (hs0 : Sl (Rp.int .i64) S w a0 c0 x.Ask) (hs1 : Sl (Rp.int .i64) S w a1 c1 x.Give) : Pair.rp.rel S w [.slice a0 x.Ask.length c0, .slice a1 x.Give.length c1] x :=
  ⟨_, _, rfl, ⟨a0, c0, rfl, hs0⟩, ⟨a1, c1, rfl, hs1⟩⟩

def Pair.ep141 : Ep Pair := Ep.iso (Ep.pair (Ep.own (Ep.int .i64) 2) (Ep.own (Ep.int .i64) 2)) (fun x => (x.Ask, x.Give))
theorem Pair.no141 : Pair.ep141.No := no_iso _ (no_pair (no_own (no_int _) _) (no_own (no_int _) _))

structure Det where
  Next : (List (List Int))
  Pairs : (List Pair)

def Det.rp : Rp Det := Rp.iso (Rp.pair (Rp.sl (Rp.sl (Rp.int .i64))) (Rp.sl Pair.rp)) (fun x => (x.Next, x.Pairs))
theorem Det.un {S : Nat → Prop} {w : World} {cs : List Value} {x : Det} (h : Det.rp.rel S w cs x) : ∃ a0 c0, ∃ a1 c1, cs = [.slice a0 x.Next.length c0, .slice a1 x.Pairs.length c1] ∧ Sl (Rp.sl (Rp.int .i64)) S w a0 c0 x.Next ∧ Sl Pair.rp S w a1 c1 x.Pairs := by
  obtain ⟨_, _, rfl, ⟨a0, c0, rfl, hs0⟩, ⟨a1, c1, rfl, hs1⟩⟩ := h
  exact ⟨a0, c0, a1, c1, rfl, hs0, hs1⟩
theorem Det.mk_rel {S : Nat → Prop} {w : World} {x : Det} {a0 : Option Addr} {c0 : Nat} {a1 : Option Addr} {c1 : Nat} (hs0 : Sl (Rp.sl (Rp.int .i64)) S w a0 c0 x.Next) (hs1 : Sl Pair.rp S w a1 c1 x.Pairs) : Det.rp.rel S w [.slice a0 x.Next.length c0, .slice a1 x.Pairs.length c1] x :=
  ⟨_, _, rfl, ⟨a0, c0, rfl, hs0⟩, ⟨a1, c1, rfl, hs1⟩⟩

def Det.ep49 : Ep Det := Ep.iso (Ep.pair (Ep.own (Ep.own (Ep.int .i64) 2) 28) (Ep.own Pair.ep141 141)) (fun x => (x.Next, x.Pairs))
theorem Det.no49 : Det.ep49.No := no_iso _ (no_pair (no_own (no_own (no_int _) _) _) (no_own Pair.no141 _))

structure Arena where
  Owner : (List Int)
  Next : (List (List Int))

def Arena.rp : Rp Arena := Rp.iso (Rp.pair (Rp.sl (Rp.int .i64)) (Rp.sl (Rp.sl (Rp.int .i64)))) (fun x => (x.Owner, x.Next))
theorem Arena.un {S : Nat → Prop} {w : World} {cs : List Value} {x : Arena} (h : Arena.rp.rel S w cs x) : ∃ a0 c0, ∃ a1 c1, cs = [.slice a0 x.Owner.length c0, .slice a1 x.Next.length c1] ∧ Sl (Rp.int .i64) S w a0 c0 x.Owner ∧ Sl (Rp.sl (Rp.int .i64)) S w a1 c1 x.Next := by
  obtain ⟨_, _, rfl, ⟨a0, c0, rfl, hs0⟩, ⟨a1, c1, rfl, hs1⟩⟩ := h
  exact ⟨a0, c0, a1, c1, rfl, hs0, hs1⟩
theorem Arena.mk_rel {S : Nat → Prop} {w : World} {x : Arena} {a0 : Option Addr} {c0 : Nat} {a1 : Option Addr} {c1 : Nat} (hs0 : Sl (Rp.int .i64) S w a0 c0 x.Owner) (hs1 : Sl (Rp.sl (Rp.int .i64)) S w a1 c1 x.Next) : Arena.rp.rel S w [.slice a0 x.Owner.length c0, .slice a1 x.Next.length c1] x :=
  ⟨_, _, rfl, ⟨a0, c0, rfl, hs0⟩, ⟨a1, c1, rfl, hs1⟩⟩

def Arena.ep66 : Ep Arena := Ep.iso (Ep.pair (Ep.own (Ep.int .i64) 2) (Ep.own (Ep.own (Ep.int .i64) 2) 28)) (fun x => (x.Owner, x.Next))
theorem Arena.no66 : Arena.ep66.No := no_iso _ (no_pair (no_own (no_int _) _) (no_own (no_own (no_int _) _) _))

structure Parity where
  Arena : Arena
  Prio : (List Int)

def Parity.rp : Rp Parity := Rp.iso (Rp.pair Arena.rp (Rp.sl (Rp.int .i64))) (fun x => (x.Arena, x.Prio))
theorem Parity.un {S : Nat → Prop} {w : World} {cs : List Value} {x : Parity} (h : Parity.rp.rel S w cs x) : ∃ a0 c0, ∃ a1 c1, ∃ a2 c2, cs = [.slice a0 x.Arena.Owner.length c0, .slice a1 x.Arena.Next.length c1, .slice a2 x.Prio.length c2] ∧ Sl (Rp.int .i64) S w a0 c0 x.Arena.Owner ∧ Sl (Rp.sl (Rp.int .i64)) S w a1 c1 x.Arena.Next ∧ Sl (Rp.int .i64) S w a2 c2 x.Prio := by
  obtain ⟨_, _, rfl, ⟨_, _, rfl, ⟨a0, c0, rfl, hs0⟩, ⟨a1, c1, rfl, hs1⟩⟩, ⟨a2, c2, rfl, hs2⟩⟩ := h
  exact ⟨a0, c0, a1, c1, a2, c2, rfl, hs0, hs1, hs2⟩
theorem Parity.mk_rel {S : Nat → Prop} {w : World} {x : Parity} {a0 : Option Addr} {c0 : Nat} {a1 : Option Addr} {c1 : Nat} {a2 : Option Addr} {c2 : Nat} (hs0 : Sl (Rp.int .i64) S w a0 c0 x.Arena.Owner) (hs1 : Sl (Rp.sl (Rp.int .i64)) S w a1 c1 x.Arena.Next) (hs2 : Sl (Rp.int .i64) S w a2 c2 x.Prio) : Parity.rp.rel S w [.slice a0 x.Arena.Owner.length c0, .slice a1 x.Arena.Next.length c1, .slice a2 x.Prio.length c2] x :=
  ⟨_, _, rfl, ⟨_, _, rfl, ⟨a0, c0, rfl, hs0⟩, ⟨a1, c1, rfl, hs1⟩⟩, ⟨a2, c2, rfl, hs2⟩⟩

def Parity.ep68 : Ep Parity := Ep.iso (Ep.pair Arena.ep66 (Ep.own (Ep.int .i64) 2)) (fun x => (x.Arena, x.Prio))
theorem Parity.no68 : Parity.ep68.No := no_iso _ (no_pair Arena.no66 (no_own (no_int _) _))

structure Edit where
  Kind : Int
  V : Int
  N : Int

def Edit.rp : Rp Edit := Rp.iso (Rp.pair (Rp.int .i64) (Rp.pair (Rp.int .i64) (Rp.int .i64))) (fun x => (x.Kind, x.V, x.N))
theorem Edit.un {S : Nat → Prop} {w : World} {cs : List Value} {x : Edit} (h : Edit.rp.rel S w cs x) : cs = [.int .i64 x.Kind, .int .i64 x.V, .int .i64 x.N] := by
  obtain ⟨_, _, rfl, rfl, ⟨_, _, rfl, rfl, rfl⟩⟩ := h
  exact rfl
theorem Edit.mk_rel {S : Nat → Prop} {w : World} {x : Edit} : Edit.rp.rel S w [.int .i64 x.Kind, .int .i64 x.V, .int .i64 x.N] x :=
  ⟨_, _, rfl, rfl, ⟨_, _, rfl, rfl, rfl⟩⟩

def Edit.ep70 : Ep Edit := Ep.iso (Ep.pair (Ep.int .i64) (Ep.pair (Ep.int .i64) (Ep.int .i64))) (fun x => (x.Kind, x.V, x.N))
theorem Edit.pu70 : Edit.ep70.Pu := pu_iso _ (pu_pair (pu_int _) (pu_pair (pu_int _) (pu_int _)))
theorem Edit.no70 : Edit.ep70.No := no_iso _ (no_pair (no_int _) (no_pair (no_int _) (no_int _)))

def Sig.ep35 : Ep Sig := Ep.iso (Ep.pair (Ep.int .i64) (Ep.int .i64)) (fun x => (x.In, x.Out))
theorem Sig.pu35 : Sig.ep35.Pu := pu_iso _ (pu_pair (pu_int _) (pu_int _))
theorem Sig.no35 : Sig.ep35.No := no_iso _ (no_pair (no_int _) (no_int _))

def Machine.ep37 : Ep Machine := Ep.iso (Ep.pair (Ep.own (Ep.own (Ep.int .i64) 2) 28) (Ep.own (Ep.own (Ep.int .i64) 2) 28)) (fun x => (x.Next, x.Out))
theorem Machine.no37 : Machine.ep37.No := no_iso _ (no_pair (no_own (no_own (no_int _) _) _) (no_own (no_own (no_int _) _) _))

def Clause.ep99 : Ep Clause := Ep.iso (Ep.pair (Ep.int .i64) (Ep.pair (Ep.own (Ep.int .i64) 2) (Ep.own (Ep.int .i64) 2))) (fun x => (x.Kind, x.A, x.B))
theorem Clause.no99 : Clause.ep99.No := no_iso _ (no_pair (no_int _) (no_pair (no_own (no_int _) _) (no_own (no_int _) _)))

def Word.ep41 : Ep Word := Ep.iso (Ep.pair (Ep.own (Ep.int .i64) 2) (Ep.own (Ep.int .i64) 2)) (fun x => (x.Stem, x.Loop))
theorem Word.no41 : Word.ep41.No := no_iso _ (no_pair (no_own (no_int _) _) (no_own (no_int _) _))

def Pair.ep113 : Ep Pair := Ep.iso (Ep.pair (Ep.own (Ep.int .i64) 2) (Ep.own (Ep.int .i64) 2)) (fun x => (x.Ask, x.Give))
theorem Pair.no113 : Pair.ep113.No := no_iso _ (no_pair (no_own (no_int _) _) (no_own (no_int _) _))

def Det.ep55 : Ep Det := Ep.iso (Ep.pair (Ep.own (Ep.own (Ep.int .i64) 2) 28) (Ep.own Pair.ep113 113)) (fun x => (x.Next, x.Pairs))
theorem Det.no55 : Det.ep55.No := no_iso _ (no_pair (no_own (no_own (no_int _) _) _) (no_own Pair.no113 _))

def Arena.ep72 : Ep Arena := Ep.iso (Ep.pair (Ep.own (Ep.int .i64) 2) (Ep.own (Ep.own (Ep.int .i64) 2) 28)) (fun x => (x.Owner, x.Next))
theorem Arena.no72 : Arena.ep72.No := no_iso _ (no_pair (no_own (no_int _) _) (no_own (no_own (no_int _) _) _))

def Parity.ep74 : Ep Parity := Ep.iso (Ep.pair Arena.ep72 (Ep.own (Ep.int .i64) 2)) (fun x => (x.Arena, x.Prio))
theorem Parity.no74 : Parity.ep74.No := no_iso _ (no_pair Arena.no72 (no_own (no_int _) _))

def Edit.ep78 : Ep Edit := Ep.iso (Ep.pair (Ep.int .i64) (Ep.pair (Ep.int .i64) (Ep.int .i64))) (fun x => (x.Kind, x.V, x.N))
theorem Edit.pu78 : Edit.ep78.Pu := pu_iso _ (pu_pair (pu_int _) (pu_pair (pu_int _) (pu_int _)))
theorem Edit.no78 : Edit.ep78.No := no_iso _ (no_pair (no_int _) (no_pair (no_int _) (no_int _)))

structure l30Graph where
  of : (List Int)
  by0 : (List Int)
  next : (List (List Int))
  letters : (List (List Int))

def l30Graph.rp : Rp l30Graph := Rp.iso (Rp.pair (Rp.sl (Rp.int .i64)) (Rp.pair (Rp.sl (Rp.int .i64)) (Rp.pair (Rp.sl (Rp.sl (Rp.int .i64))) (Rp.sl (Rp.sl (Rp.int .i64)))))) (fun x => (x.of, x.by0, x.next, x.letters))
theorem l30Graph.un {S : Nat → Prop} {w : World} {cs : List Value} {x : l30Graph} (h : l30Graph.rp.rel S w cs x) : ∃ a0 c0, ∃ a1 c1, ∃ a2 c2, ∃ a3 c3, cs = [.slice a0 x.of.length c0, .slice a1 x.by0.length c1, .slice a2 x.next.length c2, .slice a3 x.letters.length c3] ∧ Sl (Rp.int .i64) S w a0 c0 x.of ∧ Sl (Rp.int .i64) S w a1 c1 x.by0 ∧ Sl (Rp.sl (Rp.int .i64)) S w a2 c2 x.next ∧ Sl (Rp.sl (Rp.int .i64)) S w a3 c3 x.letters := by
  obtain ⟨_, _, rfl, ⟨a0, c0, rfl, hs0⟩, ⟨_, _, rfl, ⟨a1, c1, rfl, hs1⟩, ⟨_, _, rfl, ⟨a2, c2, rfl, hs2⟩, ⟨a3, c3, rfl, hs3⟩⟩⟩⟩ := h
  exact ⟨a0, c0, a1, c1, a2, c2, a3, c3, rfl, hs0, hs1, hs2, hs3⟩
theorem l30Graph.mk_rel {S : Nat → Prop} {w : World} {x : l30Graph} {a0 : Option Addr} {c0 : Nat} {a1 : Option Addr} {c1 : Nat} {a2 : Option Addr} {c2 : Nat} {a3 : Option Addr} {c3 : Nat} (hs0 : Sl (Rp.int .i64) S w a0 c0 x.of) (hs1 : Sl (Rp.int .i64) S w a1 c1 x.by0) (hs2 : Sl (Rp.sl (Rp.int .i64)) S w a2 c2 x.next) (hs3 : Sl (Rp.sl (Rp.int .i64)) S w a3 c3 x.letters) : l30Graph.rp.rel S w [.slice a0 x.of.length c0, .slice a1 x.by0.length c1, .slice a2 x.next.length c2, .slice a3 x.letters.length c3] x :=
  ⟨_, _, rfl, ⟨a0, c0, rfl, hs0⟩, ⟨_, _, rfl, ⟨a1, c1, rfl, hs1⟩, ⟨_, _, rfl, ⟨a2, c2, rfl, hs2⟩, ⟨a3, c3, rfl, hs3⟩⟩⟩⟩

def l30Graph.ep108 : Ep l30Graph := Ep.iso (Ep.pair (Ep.own (Ep.int .i64) 2) (Ep.pair (Ep.own (Ep.int .i64) 2) (Ep.pair (Ep.own (Ep.own (Ep.int .i64) 2) 28) (Ep.own (Ep.own (Ep.int .i64) 2) 28)))) (fun x => (x.of, x.by0, x.next, x.letters))
theorem l30Graph.no108 : l30Graph.ep108.No := no_iso _ (no_pair (no_own (no_int _) _) (no_pair (no_own (no_int _) _) (no_pair (no_own (no_own (no_int _) _) _) (no_own (no_own (no_int _) _) _))))

structure boundsError where
  x : Int
  y : Int
  signed : Bool
  code : Int

def boundsError.rp : Rp boundsError := Rp.iso (Rp.pair (Rp.int .i64) (Rp.pair (Rp.int .i64) (Rp.pair Rp.bool (Rp.int .u8)))) (fun x => (x.x, x.y, x.signed, x.code))
theorem boundsError.un {S : Nat → Prop} {w : World} {cs : List Value} {x : boundsError} (h : boundsError.rp.rel S w cs x) : cs = [.int .i64 x.x, .int .i64 x.y, .bool x.signed, .int .u8 x.code] := by
  obtain ⟨_, _, rfl, rfl, ⟨_, _, rfl, rfl, ⟨_, _, rfl, rfl, rfl⟩⟩⟩ := h
  exact rfl
theorem boundsError.mk_rel {S : Nat → Prop} {w : World} {x : boundsError} : boundsError.rp.rel S w [.int .i64 x.x, .int .i64 x.y, .bool x.signed, .int .u8 x.code] x :=
  ⟨_, _, rfl, rfl, ⟨_, _, rfl, rfl, ⟨_, _, rfl, rfl, rfl⟩⟩⟩

def boundsError.ep8 : Ep boundsError := Ep.iso (Ep.pair (Ep.int .i64) (Ep.pair (Ep.int .i64) (Ep.pair Ep.bool (Ep.int .u8)))) (fun x => (x.x, x.y, x.signed, x.code))
theorem boundsError.pu8 : boundsError.ep8.Pu := pu_iso _ (pu_pair (pu_int _) (pu_pair (pu_int _) (pu_pair pu_bool (pu_int _))))
theorem boundsError.no8 : boundsError.ep8.No := no_iso _ (no_pair (no_int _) (no_pair (no_int _) (no_pair no_bool (no_int _))))

structure errorAddressString where
  msg : ByteArray
  addr : Int

def errorAddressString.rp : Rp errorAddressString := Rp.iso (Rp.pair Rp.str (Rp.int .u64)) (fun x => (x.msg, x.addr))
theorem errorAddressString.un {S : Nat → Prop} {w : World} {cs : List Value} {x : errorAddressString} (h : errorAddressString.rp.rel S w cs x) : cs = [.string x.msg, .int .u64 x.addr] := by
  obtain ⟨_, _, rfl, rfl, rfl⟩ := h
  exact rfl
theorem errorAddressString.mk_rel {S : Nat → Prop} {w : World} {x : errorAddressString} : errorAddressString.rp.rel S w [.string x.msg, .int .u64 x.addr] x :=
  ⟨_, _, rfl, rfl, rfl⟩

def errorAddressString.ep14 : Ep errorAddressString := Ep.iso (Ep.pair Ep.str (Ep.int .u64)) (fun x => (x.msg, x.addr))
theorem errorAddressString.pu14 : errorAddressString.ep14.Pu := pu_iso _ (pu_pair pu_str (pu_int _))
theorem errorAddressString.no14 : errorAddressString.ep14.No := no_iso _ (no_pair no_str (no_int _))

structure watch where
  next : (List (List Int))
  letters : (List (List Int))
  pairs : (List Pair)

def watch.rp : Rp watch := Rp.iso (Rp.pair (Rp.sl (Rp.sl (Rp.int .i64))) (Rp.pair (Rp.sl (Rp.sl (Rp.int .i64))) (Rp.sl Pair.rp))) (fun x => (x.next, x.letters, x.pairs))
theorem watch.un {S : Nat → Prop} {w : World} {cs : List Value} {x : watch} (h : watch.rp.rel S w cs x) : ∃ a0 c0, ∃ a1 c1, ∃ a2 c2, cs = [.slice a0 x.next.length c0, .slice a1 x.letters.length c1, .slice a2 x.pairs.length c2] ∧ Sl (Rp.sl (Rp.int .i64)) S w a0 c0 x.next ∧ Sl (Rp.sl (Rp.int .i64)) S w a1 c1 x.letters ∧ Sl Pair.rp S w a2 c2 x.pairs := by
  obtain ⟨_, _, rfl, ⟨a0, c0, rfl, hs0⟩, ⟨_, _, rfl, ⟨a1, c1, rfl, hs1⟩, ⟨a2, c2, rfl, hs2⟩⟩⟩ := h
  exact ⟨a0, c0, a1, c1, a2, c2, rfl, hs0, hs1, hs2⟩
theorem watch.mk_rel {S : Nat → Prop} {w : World} {x : watch} {a0 : Option Addr} {c0 : Nat} {a1 : Option Addr} {c1 : Nat} {a2 : Option Addr} {c2 : Nat} (hs0 : Sl (Rp.sl (Rp.int .i64)) S w a0 c0 x.next) (hs1 : Sl (Rp.sl (Rp.int .i64)) S w a1 c1 x.letters) (hs2 : Sl Pair.rp S w a2 c2 x.pairs) : watch.rp.rel S w [.slice a0 x.next.length c0, .slice a1 x.letters.length c1, .slice a2 x.pairs.length c2] x :=
  ⟨_, _, rfl, ⟨a0, c0, rfl, hs0⟩, ⟨_, _, rfl, ⟨a1, c1, rfl, hs1⟩, ⟨a2, c2, rfl, hs2⟩⟩⟩

def watch.ep120 : Ep watch := Ep.iso (Ep.pair (Ep.own (Ep.own (Ep.int .i64) 2) 28) (Ep.pair (Ep.own (Ep.own (Ep.int .i64) 2) 28) (Ep.own Pair.ep113 113))) (fun x => (x.next, x.letters, x.pairs))
theorem watch.no120 : watch.ep120.No := no_iso _ (no_pair (no_own (no_own (no_int _) _) _) (no_pair (no_own (no_own (no_int _) _) _) (no_own Pair.no113 _)))

def kvI2 : (Int × Int) → Value := fun k => .agg #[.int .i64 k.1, .int .i64 k.2]
def kwI2 : (Int × Int) → Bool := fun k => wf2 k.1 k.2
theorem keyEI2 : KeyE Try.prog 149 kvI2 kwI2 := ⟨deep_law (m := 2) (by omega) (by kernel_rfl) (by kernel_rfl) (by kernel_rfl), fun k h => keyA2 Try.underlying149 (by kernel_rfl) (m := 216) (by kernel_rfl) (by kernel_rfl) (by kernel_rfl) Try.underlying2 h, fun k k' h => by
  cases k; cases k'
  simp only [kvI2, Value.agg.injEq, Array.mk.injEq, List.cons.injEq, Value.int.injEq, true_and, and_true] at h
  obtain ⟨h1, h2⟩ := h
  subst h1 h2
  rfl⟩
theorem Tryinfo2 : Try.prog.info? 2 = some Try.t2 := by kernel_rfl
theorem Tryinfo28 : Try.prog.info? 28 = some Try.t28 := by kernel_rfl
theorem Tryinfo70 : Try.prog.info? 70 = some Try.t70 := by kernel_rfl
theorem Tryinfo78 : Try.prog.info? 78 = some Try.t78 := by kernel_rfl
theorem Tryinfo94 : Try.prog.info? 94 = some Try.t94 := by kernel_rfl
theorem Tryinfo99 : Try.prog.info? 99 = some Try.t99 := by kernel_rfl
theorem Tryinfo113 : Try.prog.info? 113 = some Try.t113 := by kernel_rfl
theorem Tryinfo141 : Try.prog.info? 141 = some Try.t141 := by kernel_rfl
theorem Tryinfo149 : Try.prog.info? 149 = some Try.t149 := by kernel_rfl
end Go.Proofs.Ytnmjfjppgpkieaa
