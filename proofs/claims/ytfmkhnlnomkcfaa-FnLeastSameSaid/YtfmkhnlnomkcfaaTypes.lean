/- The structs of the program as data. -/
import Derived.Test.YtfmkhnlnomkcfaaMap
import Derived.Test.YtfmkhnlnomkcfaaProg
set_option linter.unusedVariables false
set_option linter.unusedSimpArgs false
namespace Go.Proofs.Ytfmkhnlnomkcfaa
open Go Go.Wk Go.Proofs

structure Arena where
  Owner : (List Int)
  Next : (List (List Int))

def Arena.rp : Rp Arena := Rp.iso (Rp.pair (Rp.sl (Rp.int .i64)) (Rp.sl (Rp.sl (Rp.int .i64)))) (fun x => (x.Owner, x.Next))
theorem Arena.un {S : Nat → Prop} {w : World} {cs : List Value} {x : Arena} (h : Arena.rp.rel S w cs x) : ∃ a0 c0, ∃ a1 c1, cs = [.slice a0 x.Owner.length c0, .slice a1 x.Next.length c1] ∧ Sl (Rp.int .i64) S w a0 c0 x.Owner ∧ Sl (Rp.sl (Rp.int .i64)) S w a1 c1 x.Next := by
  obtain ⟨_, _, rfl, ⟨a0, c0, rfl, hs0⟩, ⟨a1, c1, rfl, hs1⟩⟩ := h
  exact ⟨a0, c0, a1, c1, rfl, hs0, hs1⟩
theorem Arena.mk_rel {S : Nat → Prop} {w : World} {x : Arena} {a0 : Option Addr} {c0 : Nat} {a1 : Option Addr} {c1 : Nat} (hs0 : Sl (Rp.int .i64) S w a0 c0 x.Owner) (hs1 : Sl (Rp.sl (Rp.int .i64)) S w a1 c1 x.Next) : Arena.rp.rel S w [.slice a0 x.Owner.length c0, .slice a1 x.Next.length c1] x :=
  ⟨_, _, rfl, ⟨a0, c0, rfl, hs0⟩, ⟨a1, c1, rfl, hs1⟩⟩

def Arena.ep25 : Ep Arena := Ep.iso (Ep.pair (Ep.own (Ep.int .i64) 2) (Ep.own (Ep.own (Ep.int .i64) 2) 22)) (fun x => (x.Owner, x.Next))
theorem Arena.no25 : Arena.ep25.No := no_iso _ (no_pair (no_own (no_int _) _) (no_own (no_own (no_int _) _) _))

structure Parity where
  Arena : Arena
  Prio : (List Int)

def Parity.rp : Rp Parity := Rp.iso (Rp.pair Arena.rp (Rp.sl (Rp.int .i64))) (fun x => (x.Arena, x.Prio))
theorem Parity.un {S : Nat → Prop} {w : World} {cs : List Value} {x : Parity} (h : Parity.rp.rel S w cs x) : ∃ a0 c0, ∃ a1 c1, ∃ a2 c2, cs = [.slice a0 x.Arena.Owner.length c0, .slice a1 x.Arena.Next.length c1, .slice a2 x.Prio.length c2] ∧ Sl (Rp.int .i64) S w a0 c0 x.Arena.Owner ∧ Sl (Rp.sl (Rp.int .i64)) S w a1 c1 x.Arena.Next ∧ Sl (Rp.int .i64) S w a2 c2 x.Prio := by
  obtain ⟨_, _, rfl, ⟨_, _, rfl, ⟨a0, c0, rfl, hs0⟩, ⟨a1, c1, rfl, hs1⟩⟩, ⟨a2, c2, rfl, hs2⟩⟩ := h
  exact ⟨a0, c0, a1, c1, a2, c2, rfl, hs0, hs1, hs2⟩
theorem Parity.mk_rel {S : Nat → Prop} {w : World} {x : Parity} {a0 : Option Addr} {c0 : Nat} {a1 : Option Addr} {c1 : Nat} {a2 : Option Addr} {c2 : Nat} (hs0 : Sl (Rp.int .i64) S w a0 c0 x.Arena.Owner) (hs1 : Sl (Rp.sl (Rp.int .i64)) S w a1 c1 x.Arena.Next) (hs2 : Sl (Rp.int .i64) S w a2 c2 x.Prio) : Parity.rp.rel S w [.slice a0 x.Arena.Owner.length c0, .slice a1 x.Arena.Next.length c1, .slice a2 x.Prio.length c2] x :=
  ⟨_, _, rfl, ⟨_, _, rfl, ⟨a0, c0, rfl, hs0⟩, ⟨a1, c1, rfl, hs1⟩⟩, ⟨a2, c2, rfl, hs2⟩⟩

def Parity.ep27 : Ep Parity := Ep.iso (Ep.pair Arena.ep25 (Ep.own (Ep.int .i64) 2)) (fun x => (x.Arena, x.Prio))
theorem Parity.no27 : Parity.ep27.No := no_iso _ (no_pair Arena.no25 (no_own (no_int _) _))

structure Edit where
  Kind : Int
  V : Int
  N : Int

def Edit.rp : Rp Edit := Rp.iso (Rp.pair (Rp.int .i64) (Rp.pair (Rp.int .i64) (Rp.int .i64))) (fun x => (x.Kind, x.V, x.N))
theorem Edit.un {S : Nat → Prop} {w : World} {cs : List Value} {x : Edit} (h : Edit.rp.rel S w cs x) : cs = [.int .i64 x.Kind, .int .i64 x.V, .int .i64 x.N] := by
  obtain ⟨_, _, rfl, rfl, ⟨_, _, rfl, rfl, rfl⟩⟩ := h
  exact rfl
theorem Edit.mk_rel {S : Nat → Prop} {w : World} {x : Edit} : Edit.rp.rel S w [.int .i64 x.Kind, .int .i64 x.V, .int .i64 x.N] x :=
  ⟨_, _, rfl, rfl, ⟨_, _, rfl, rfl, rfl⟩⟩

def Edit.ep29 : Ep Edit := Ep.iso (Ep.pair (Ep.int .i64) (Ep.pair (Ep.int .i64) (Ep.int .i64))) (fun x => (x.Kind, x.V, x.N))
theorem Edit.pu29 : Edit.ep29.Pu := pu_iso _ (pu_pair (pu_int _) (pu_pair (pu_int _) (pu_int _)))
theorem Edit.no29 : Edit.ep29.No := no_iso _ (no_pair (no_int _) (no_pair (no_int _) (no_int _)))

structure Sig where
  In : Int
  Out : Int

def Sig.rp : Rp Sig := Rp.iso (Rp.pair (Rp.int .i64) (Rp.int .i64)) (fun x => (x.In, x.Out))
theorem Sig.un {S : Nat → Prop} {w : World} {cs : List Value} {x : Sig} (h : Sig.rp.rel S w cs x) : cs = [.int .i64 x.In, .int .i64 x.Out] := by
  obtain ⟨_, _, rfl, rfl, rfl⟩ := h
  exact rfl
theorem Sig.mk_rel {S : Nat → Prop} {w : World} {x : Sig} : Sig.rp.rel S w [.int .i64 x.In, .int .i64 x.Out] x :=
  ⟨_, _, rfl, rfl, rfl⟩

def Sig.ep44 : Ep Sig := Ep.iso (Ep.pair (Ep.int .i64) (Ep.int .i64)) (fun x => (x.In, x.Out))
theorem Sig.pu44 : Sig.ep44.Pu := pu_iso _ (pu_pair (pu_int _) (pu_int _))
theorem Sig.no44 : Sig.ep44.No := no_iso _ (no_pair (no_int _) (no_int _))

structure Gate where
  A : Int
  B : Int

def Gate.rp : Rp Gate := Rp.iso (Rp.pair (Rp.int .i64) (Rp.int .i64)) (fun x => (x.A, x.B))
theorem Gate.un {S : Nat → Prop} {w : World} {cs : List Value} {x : Gate} (h : Gate.rp.rel S w cs x) : cs = [.int .i64 x.A, .int .i64 x.B] := by
  obtain ⟨_, _, rfl, rfl, rfl⟩ := h
  exact rfl
theorem Gate.mk_rel {S : Nat → Prop} {w : World} {x : Gate} : Gate.rp.rel S w [.int .i64 x.A, .int .i64 x.B] x :=
  ⟨_, _, rfl, rfl, rfl⟩

def Gate.ep214 : Ep Gate := Ep.iso (Ep.pair (Ep.int .i64) (Ep.int .i64)) (fun x => (x.A, x.B))
theorem Gate.pu214 : Gate.ep214.Pu := pu_iso _ (pu_pair (pu_int _) (pu_int _))
theorem Gate.no214 : Gate.ep214.No := no_iso _ (no_pair (no_int _) (no_int _))

structure Circuit where
  Inputs : Int
  Latches : Int
  Next : (List Int)
  Gates : (List Gate)
  Outs : (List Int)

def Circuit.rp : Rp Circuit := Rp.iso (Rp.pair (Rp.int .i64) (Rp.pair (Rp.int .i64) (Rp.pair (Rp.sl (Rp.int .i64)) (Rp.pair (Rp.sl Gate.rp) (Rp.sl (Rp.int .i64)))))) (fun x => (x.Inputs, x.Latches, x.Next, x.Gates, x.Outs))
theorem Circuit.un {S : Nat → Prop} {w : World} {cs : List Value} {x : Circuit} (h : Circuit.rp.rel S w cs x) : ∃ a2 c2, ∃ a3 c3, ∃ a4 c4, cs = [.int .i64 x.Inputs, .int .i64 x.Latches, .slice a2 x.Next.length c2, .slice a3 x.Gates.length c3, .slice a4 x.Outs.length c4] ∧ Sl (Rp.int .i64) S w a2 c2 x.Next ∧ Sl Gate.rp S w a3 c3 x.Gates ∧ Sl (Rp.int .i64) S w a4 c4 x.Outs := by
  obtain ⟨_, _, rfl, rfl, ⟨_, _, rfl, rfl, ⟨_, _, rfl, ⟨a2, c2, rfl, hs2⟩, ⟨_, _, rfl, ⟨a3, c3, rfl, hs3⟩, ⟨a4, c4, rfl, hs4⟩⟩⟩⟩⟩ := h
  exact ⟨a2, c2, a3, c3, a4, c4, rfl, hs2, hs3, hs4⟩
theorem Circuit.mk_rel {S : Nat → Prop} {w : World} {x : Circuit} {a2 : Option Addr} {c2 : Nat} {a3 : Option Addr} {c3 : Nat} {a4 : Option Addr} {c4 : Nat} (hs2 : Sl (Rp.int .i64) S w a2 c2 x.Next) (hs3 : Sl Gate.rp S w a3 c3 x.Gates) (hs4 : Sl (Rp.int .i64) S w a4 c4 x.Outs) : Circuit.rp.rel S w [.int .i64 x.Inputs, .int .i64 x.Latches, .slice a2 x.Next.length c2, .slice a3 x.Gates.length c3, .slice a4 x.Outs.length c4] x :=
  ⟨_, _, rfl, rfl, ⟨_, _, rfl, rfl, ⟨_, _, rfl, ⟨a2, c2, rfl, hs2⟩, ⟨_, _, rfl, ⟨a3, c3, rfl, hs3⟩, ⟨a4, c4, rfl, hs4⟩⟩⟩⟩⟩

def Circuit.ep47 : Ep Circuit := Ep.iso (Ep.pair (Ep.int .i64) (Ep.pair (Ep.int .i64) (Ep.pair (Ep.own (Ep.int .i64) 2) (Ep.pair (Ep.own Gate.ep214 214) (Ep.own (Ep.int .i64) 2))))) (fun x => (x.Inputs, x.Latches, x.Next, x.Gates, x.Outs))
theorem Circuit.no47 : Circuit.ep47.No := no_iso _ (no_pair (no_int _) (no_pair (no_int _) (no_pair (no_own (no_int _) _) (no_pair (no_own Gate.no214 _) (no_own (no_int _) _)))))

structure Machine where
  Next : (List (List Int))
  Out : (List (List Int))

def Machine.rp : Rp Machine := Rp.iso (Rp.pair (Rp.sl (Rp.sl (Rp.int .i64))) (Rp.sl (Rp.sl (Rp.int .i64)))) (fun x => (x.Next, x.Out))
theorem Machine.un {S : Nat → Prop} {w : World} {cs : List Value} {x : Machine} (h : Machine.rp.rel S w cs x) : ∃ a0 c0, ∃ a1 c1, cs = [.slice a0 x.Next.length c0, .slice a1 x.Out.length c1] ∧ Sl (Rp.sl (Rp.int .i64)) S w a0 c0 x.Next ∧ Sl (Rp.sl (Rp.int .i64)) S w a1 c1 x.Out := by
  obtain ⟨_, _, rfl, ⟨a0, c0, rfl, hs0⟩, ⟨a1, c1, rfl, hs1⟩⟩ := h
  exact ⟨a0, c0, a1, c1, rfl, hs0, hs1⟩
theorem Machine.mk_rel {S : Nat → Prop} {w : World} {x : Machine} {a0 : Option Addr} {c0 : Nat} {a1 : Option Addr} {c1 : Nat} (hs0 : Sl (Rp.sl (Rp.int .i64)) S w a0 c0 x.Next) (hs1 : Sl (Rp.sl (Rp.int .i64)) S w a1 c1 x.Out) : Machine.rp.rel S w [.slice a0 x.Next.length c0, .slice a1 x.Out.length c1] x :=
  ⟨_, _, rfl, ⟨a0, c0, rfl, hs0⟩, ⟨a1, c1, rfl, hs1⟩⟩

def Machine.ep64 : Ep Machine := Ep.iso (Ep.pair (Ep.own (Ep.own (Ep.int .i64) 2) 22) (Ep.own (Ep.own (Ep.int .i64) 2) 22)) (fun x => (x.Next, x.Out))
theorem Machine.no64 : Machine.ep64.No := no_iso _ (no_pair (no_own (no_own (no_int _) _) _) (no_own (no_own (no_int _) _) _))

structure Pair where
  Ask : (List Int)
  Give : (List Int)

def Pair.rp : Rp Pair := Rp.iso (Rp.pair (Rp.sl (Rp.int .i64)) (Rp.sl (Rp.int .i64))) (fun x => (x.Ask, x.Give))
theorem Pair.un {S : Nat → Prop} {w : World} {cs : List Value} {x : Pair} (h : Pair.rp.rel S w cs x) : ∃ a0 c0, ∃ a1 c1, cs = [.slice a0 x.Ask.length c0, .slice a1 x.Give.length c1] ∧ Sl (Rp.int .i64) S w a0 c0 x.Ask ∧ Sl (Rp.int .i64) S w a1 c1 x.Give := by
  obtain ⟨_, _, rfl, ⟨a0, c0, rfl, hs0⟩, ⟨a1, c1, rfl, hs1⟩⟩ := h
  exact ⟨a0, c0, a1, c1, rfl, hs0, hs1⟩
theorem Pair.mk_rel {S : Nat → Prop} {w : World} {x : Pair} {a0 : Option Addr} {c0 : Nat} {a1 : Option Addr} {c1 : Nat} (hs0 : Sl (Rp.int .i64) S w a0 c0 x.Ask) (hs1 : Sl (Rp.int .i64) S w a1 c1 x.Give) : Pair.rp.rel S w [.slice a0 x.Ask.length c0, .slice a1 x.Give.length c1] x :=
  ⟨_, _, rfl, ⟨a0, c0, rfl, hs0⟩, ⟨a1, c1, rfl, hs1⟩⟩

def Pair.ep220 : Ep Pair := Ep.iso (Ep.pair (Ep.own (Ep.int .i64) 2) (Ep.own (Ep.int .i64) 2)) (fun x => (x.Ask, x.Give))
theorem Pair.no220 : Pair.ep220.No := no_iso _ (no_pair (no_own (no_int _) _) (no_own (no_int _) _))

structure Det where
  Next : (List (List Int))
  Pairs : (List Pair)

def Det.rp : Rp Det := Rp.iso (Rp.pair (Rp.sl (Rp.sl (Rp.int .i64))) (Rp.sl Pair.rp)) (fun x => (x.Next, x.Pairs))
theorem Det.un {S : Nat → Prop} {w : World} {cs : List Value} {x : Det} (h : Det.rp.rel S w cs x) : ∃ a0 c0, ∃ a1 c1, cs = [.slice a0 x.Next.length c0, .slice a1 x.Pairs.length c1] ∧ Sl (Rp.sl (Rp.int .i64)) S w a0 c0 x.Next ∧ Sl Pair.rp S w a1 c1 x.Pairs := by
  obtain ⟨_, _, rfl, ⟨a0, c0, rfl, hs0⟩, ⟨a1, c1, rfl, hs1⟩⟩ := h
  exact ⟨a0, c0, a1, c1, rfl, hs0, hs1⟩
theorem Det.mk_rel {S : Nat → Prop} {w : World} {x : Det} {a0 : Option Addr} {c0 : Nat} {a1 : Option Addr} {c1 : Nat} (hs0 : Sl (Rp.sl (Rp.int .i64)) S w a0 c0 x.Next) (hs1 : Sl Pair.rp S w a1 c1 x.Pairs) : Det.rp.rel S w [.slice a0 x.Next.length c0, .slice a1 x.Pairs.length c1] x :=
  ⟨_, _, rfl, ⟨a0, c0, rfl, hs0⟩, ⟨a1, c1, rfl, hs1⟩⟩

def Det.ep73 : Ep Det := Ep.iso (Ep.pair (Ep.own (Ep.own (Ep.int .i64) 2) 22) (Ep.own Pair.ep220 220)) (fun x => (x.Next, x.Pairs))
theorem Det.no73 : Det.ep73.No := no_iso _ (no_pair (no_own (no_own (no_int _) _) _) (no_own Pair.no220 _))

structure Clause where
  Kind : Int
  A : (List Int)
  B : (List Int)

def Clause.rp : Rp Clause := Rp.iso (Rp.pair (Rp.int .i64) (Rp.pair (Rp.sl (Rp.int .i64)) (Rp.sl (Rp.int .i64)))) (fun x => (x.Kind, x.A, x.B))
theorem Clause.un {S : Nat → Prop} {w : World} {cs : List Value} {x : Clause} (h : Clause.rp.rel S w cs x) : ∃ a1 c1, ∃ a2 c2, cs = [.int .i64 x.Kind, .slice a1 x.A.length c1, .slice a2 x.B.length c2] ∧ Sl (Rp.int .i64) S w a1 c1 x.A ∧ Sl (Rp.int .i64) S w a2 c2 x.B := by
  obtain ⟨_, _, rfl, rfl, ⟨_, _, rfl, ⟨a1, c1, rfl, hs1⟩, ⟨a2, c2, rfl, hs2⟩⟩⟩ := h
  exact ⟨a1, c1, a2, c2, rfl, hs1, hs2⟩
theorem Clause.mk_rel {S : Nat → Prop} {w : World} {x : Clause} {a1 : Option Addr} {c1 : Nat} {a2 : Option Addr} {c2 : Nat} (hs1 : Sl (Rp.int .i64) S w a1 c1 x.A) (hs2 : Sl (Rp.int .i64) S w a2 c2 x.B) : Clause.rp.rel S w [.int .i64 x.Kind, .slice a1 x.A.length c1, .slice a2 x.B.length c2] x :=
  ⟨_, _, rfl, rfl, ⟨_, _, rfl, ⟨a1, c1, rfl, hs1⟩, ⟨a2, c2, rfl, hs2⟩⟩⟩

def Clause.ep189 : Ep Clause := Ep.iso (Ep.pair (Ep.int .i64) (Ep.pair (Ep.own (Ep.int .i64) 2) (Ep.own (Ep.int .i64) 2))) (fun x => (x.Kind, x.A, x.B))
theorem Clause.no189 : Clause.ep189.No := no_iso _ (no_pair (no_int _) (no_pair (no_own (no_int _) _) (no_own (no_int _) _)))

structure Word where
  Stem : (List Int)
  Loop : (List Int)

def Word.rp : Rp Word := Rp.iso (Rp.pair (Rp.sl (Rp.int .i64)) (Rp.sl (Rp.int .i64))) (fun x => (x.Stem, x.Loop))
theorem Word.un {S : Nat → Prop} {w : World} {cs : List Value} {x : Word} (h : Word.rp.rel S w cs x) : ∃ a0 c0, ∃ a1 c1, cs = [.slice a0 x.Stem.length c0, .slice a1 x.Loop.length c1] ∧ Sl (Rp.int .i64) S w a0 c0 x.Stem ∧ Sl (Rp.int .i64) S w a1 c1 x.Loop := by
  obtain ⟨_, _, rfl, ⟨a0, c0, rfl, hs0⟩, ⟨a1, c1, rfl, hs1⟩⟩ := h
  exact ⟨a0, c0, a1, c1, rfl, hs0, hs1⟩
theorem Word.mk_rel {S : Nat → Prop} {w : World} {x : Word} {a0 : Option Addr} {c0 : Nat} {a1 : Option Addr} {c1 : Nat} (hs0 : Sl (Rp.int .i64) S w a0 c0 x.Stem) (hs1 : Sl (Rp.int .i64) S w a1 c1 x.Loop) : Word.rp.rel S w [.slice a0 x.Stem.length c0, .slice a1 x.Loop.length c1] x :=
  ⟨_, _, rfl, ⟨a0, c0, rfl, hs0⟩, ⟨a1, c1, rfl, hs1⟩⟩

def Word.ep93 : Ep Word := Ep.iso (Ep.pair (Ep.own (Ep.int .i64) 2) (Ep.own (Ep.int .i64) 2)) (fun x => (x.Stem, x.Loop))
theorem Word.no93 : Word.ep93.No := no_iso _ (no_pair (no_own (no_int _) _) (no_own (no_int _) _))

def Arena.ep32 : Ep Arena := Ep.iso (Ep.pair (Ep.own (Ep.int .i64) 2) (Ep.own (Ep.own (Ep.int .i64) 2) 22)) (fun x => (x.Owner, x.Next))
theorem Arena.no32 : Arena.ep32.No := no_iso _ (no_pair (no_own (no_int _) _) (no_own (no_own (no_int _) _) _))

def Parity.ep34 : Ep Parity := Ep.iso (Ep.pair Arena.ep32 (Ep.own (Ep.int .i64) 2)) (fun x => (x.Arena, x.Prio))
theorem Parity.no34 : Parity.ep34.No := no_iso _ (no_pair Arena.no32 (no_own (no_int _) _))

def Edit.ep36 : Ep Edit := Ep.iso (Ep.pair (Ep.int .i64) (Ep.pair (Ep.int .i64) (Ep.int .i64))) (fun x => (x.Kind, x.V, x.N))
theorem Edit.pu36 : Edit.ep36.Pu := pu_iso _ (pu_pair (pu_int _) (pu_pair (pu_int _) (pu_int _)))
theorem Edit.no36 : Edit.ep36.No := no_iso _ (no_pair (no_int _) (no_pair (no_int _) (no_int _)))

def Sig.ep53 : Ep Sig := Ep.iso (Ep.pair (Ep.int .i64) (Ep.int .i64)) (fun x => (x.In, x.Out))
theorem Sig.pu53 : Sig.ep53.Pu := pu_iso _ (pu_pair (pu_int _) (pu_int _))
theorem Sig.no53 : Sig.ep53.No := no_iso _ (no_pair (no_int _) (no_int _))

def Gate.ep159 : Ep Gate := Ep.iso (Ep.pair (Ep.int .i64) (Ep.int .i64)) (fun x => (x.A, x.B))
theorem Gate.pu159 : Gate.ep159.Pu := pu_iso _ (pu_pair (pu_int _) (pu_int _))
theorem Gate.no159 : Gate.ep159.No := no_iso _ (no_pair (no_int _) (no_int _))

def Circuit.ep57 : Ep Circuit := Ep.iso (Ep.pair (Ep.int .i64) (Ep.pair (Ep.int .i64) (Ep.pair (Ep.own (Ep.int .i64) 2) (Ep.pair (Ep.own Gate.ep159 159) (Ep.own (Ep.int .i64) 2))))) (fun x => (x.Inputs, x.Latches, x.Next, x.Gates, x.Outs))
theorem Circuit.no57 : Circuit.ep57.No := no_iso _ (no_pair (no_int _) (no_pair (no_int _) (no_pair (no_own (no_int _) _) (no_pair (no_own Gate.no159 _) (no_own (no_int _) _)))))

def Machine.ep50 : Ep Machine := Ep.iso (Ep.pair (Ep.own (Ep.own (Ep.int .i64) 2) 22) (Ep.own (Ep.own (Ep.int .i64) 2) 22)) (fun x => (x.Next, x.Out))
theorem Machine.no50 : Machine.ep50.No := no_iso _ (no_pair (no_own (no_own (no_int _) _) _) (no_own (no_own (no_int _) _) _))

def Pair.ep171 : Ep Pair := Ep.iso (Ep.pair (Ep.own (Ep.int .i64) 2) (Ep.own (Ep.int .i64) 2)) (fun x => (x.Ask, x.Give))
theorem Pair.no171 : Pair.ep171.No := no_iso _ (no_pair (no_own (no_int _) _) (no_own (no_int _) _))

def Det.ep79 : Ep Det := Ep.iso (Ep.pair (Ep.own (Ep.own (Ep.int .i64) 2) 22) (Ep.own Pair.ep171 171)) (fun x => (x.Next, x.Pairs))
theorem Det.no79 : Det.ep79.No := no_iso _ (no_pair (no_own (no_own (no_int _) _) _) (no_own Pair.no171 _))

def Clause.ep192 : Ep Clause := Ep.iso (Ep.pair (Ep.int .i64) (Ep.pair (Ep.own (Ep.int .i64) 2) (Ep.own (Ep.int .i64) 2))) (fun x => (x.Kind, x.A, x.B))
theorem Clause.no192 : Clause.ep192.No := no_iso _ (no_pair (no_int _) (no_pair (no_own (no_int _) _) (no_own (no_int _) _)))

def Word.ep99 : Ep Word := Ep.iso (Ep.pair (Ep.own (Ep.int .i64) 2) (Ep.own (Ep.int .i64) 2)) (fun x => (x.Stem, x.Loop))
theorem Word.no99 : Word.ep99.No := no_iso _ (no_pair (no_own (no_int _) _) (no_own (no_int _) _))

structure l30Graph where
  of : (List Int)
  by0 : (List Int)
  next : (List (List Int))
  letters : (List (List Int))

def l30Graph.rp : Rp l30Graph := Rp.iso (Rp.pair (Rp.sl (Rp.int .i64)) (Rp.pair (Rp.sl (Rp.int .i64)) (Rp.pair (Rp.sl (Rp.sl (Rp.int .i64))) (Rp.sl (Rp.sl (Rp.int .i64)))))) (fun x => (x.of, x.by0, x.next, x.letters))
theorem l30Graph.un {S : Nat → Prop} {w : World} {cs : List Value} {x : l30Graph} (h : l30Graph.rp.rel S w cs x) : ∃ a0 c0, ∃ a1 c1, ∃ a2 c2, ∃ a3 c3, cs = [.slice a0 x.of.length c0, .slice a1 x.by0.length c1, .slice a2 x.next.length c2, .slice a3 x.letters.length c3] ∧ Sl (Rp.int .i64) S w a0 c0 x.of ∧ Sl (Rp.int .i64) S w a1 c1 x.by0 ∧ Sl (Rp.sl (Rp.int .i64)) S w a2 c2 x.next ∧ Sl (Rp.sl (Rp.int .i64)) S w a3 c3 x.letters := by
  obtain ⟨_, _, rfl, ⟨a0, c0, rfl, hs0⟩, ⟨_, _, rfl, ⟨a1, c1, rfl, hs1⟩, ⟨_, _, rfl, ⟨a2, c2, rfl, hs2⟩, ⟨a3, c3, rfl, hs3⟩⟩⟩⟩ := h
  exact ⟨a0, c0, a1, c1, a2, c2, a3, c3, rfl, hs0, hs1, hs2, hs3⟩
theorem l30Graph.mk_rel {S : Nat → Prop} {w : World} {x : l30Graph} {a0 : Option Addr} {c0 : Nat} {a1 : Option Addr} {c1 : Nat} {a2 : Option Addr} {c2 : Nat} {a3 : Option Addr} {c3 : Nat} (hs0 : Sl (Rp.int .i64) S w a0 c0 x.of) (hs1 : Sl (Rp.int .i64) S w a1 c1 x.by0) (hs2 : Sl (Rp.sl (Rp.int .i64)) S w a2 c2 x.next) (hs3 : Sl (Rp.sl (Rp.int .i64)) S w a3 c3 x.letters) : l30Graph.rp.rel S w [.slice a0 x.of.length c0, .slice a1 x.by0.length c1, .slice a2 x.next.length c2, .slice a3 x.letters.length c3] x :=
  ⟨_, _, rfl, ⟨a0, c0, rfl, hs0⟩, ⟨_, _, rfl, ⟨a1, c1, rfl, hs1⟩, ⟨_, _, rfl, ⟨a2, c2, rfl, hs2⟩, ⟨a3, c3, rfl, hs3⟩⟩⟩⟩

def l30Graph.ep166 : Ep l30Graph := Ep.iso (Ep.pair (Ep.own (Ep.int .i64) 2) (Ep.pair (Ep.own (Ep.int .i64) 2) (Ep.pair (Ep.own (Ep.own (Ep.int .i64) 2) 22) (Ep.own (Ep.own (Ep.int .i64) 2) 22)))) (fun x => (x.of, x.by0, x.next, x.letters))
theorem l30Graph.no166 : l30Graph.ep166.No := no_iso _ (no_pair (no_own (no_int _) _) (no_pair (no_own (no_int _) _) (no_pair (no_own (no_own (no_int _) _) _) (no_own (no_own (no_int _) _) _))))

structure boundsError where
  x : Int
  y : Int
  signed : Bool
  code : Int

def boundsError.rp : Rp boundsError := Rp.iso (Rp.pair (Rp.int .i64) (Rp.pair (Rp.int .i64) (Rp.pair Rp.bool (Rp.int .u8)))) (fun x => (x.x, x.y, x.signed, x.code))
theorem boundsError.un {S : Nat → Prop} {w : World} {cs : List Value} {x : boundsError} (h : boundsError.rp.rel S w cs x) : cs = [.int .i64 x.x, .int .i64 x.y, .bool x.signed, .int .u8 x.code] := by
  obtain ⟨_, _, rfl, rfl, ⟨_, _, rfl, rfl, ⟨_, _, rfl, rfl, rfl⟩⟩⟩ := h
  exact rfl
theorem boundsError.mk_rel {S : Nat → Prop} {w : World} {x : boundsError} : boundsError.rp.rel S w [.int .i64 x.x, .int .i64 x.y, .bool x.signed, .int .u8 x.code] x :=
  ⟨_, _, rfl, rfl, ⟨_, _, rfl, rfl, ⟨_, _, rfl, rfl, rfl⟩⟩⟩

def boundsError.ep8 : Ep boundsError := Ep.iso (Ep.pair (Ep.int .i64) (Ep.pair (Ep.int .i64) (Ep.pair Ep.bool (Ep.int .u8)))) (fun x => (x.x, x.y, x.signed, x.code))
theorem boundsError.pu8 : boundsError.ep8.Pu := pu_iso _ (pu_pair (pu_int _) (pu_pair (pu_int _) (pu_pair pu_bool (pu_int _))))
theorem boundsError.no8 : boundsError.ep8.No := no_iso _ (no_pair (no_int _) (no_pair (no_int _) (no_pair no_bool (no_int _))))

structure errorAddressString where
  msg : ByteArray
  addr : Int

def errorAddressString.rp : Rp errorAddressString := Rp.iso (Rp.pair Rp.str (Rp.int .u64)) (fun x => (x.msg, x.addr))
theorem errorAddressString.un {S : Nat → Prop} {w : World} {cs : List Value} {x : errorAddressString} (h : errorAddressString.rp.rel S w cs x) : cs = [.string x.msg, .int .u64 x.addr] := by
  obtain ⟨_, _, rfl, rfl, rfl⟩ := h
  exact rfl
theorem errorAddressString.mk_rel {S : Nat → Prop} {w : World} {x : errorAddressString} : errorAddressString.rp.rel S w [.string x.msg, .int .u64 x.addr] x :=
  ⟨_, _, rfl, rfl, rfl⟩

def errorAddressString.ep14 : Ep errorAddressString := Ep.iso (Ep.pair Ep.str (Ep.int .u64)) (fun x => (x.msg, x.addr))
theorem errorAddressString.pu14 : errorAddressString.ep14.Pu := pu_iso _ (pu_pair pu_str (pu_int _))
theorem errorAddressString.no14 : errorAddressString.ep14.No := no_iso _ (no_pair no_str (no_int _))

structure watch where
  next : (List (List Int))
  letters : (List (List Int))
  pairs : (List Pair)

def watch.rp : Rp watch := Rp.iso (Rp.pair (Rp.sl (Rp.sl (Rp.int .i64))) (Rp.pair (Rp.sl (Rp.sl (Rp.int .i64))) (Rp.sl Pair.rp))) (fun x => (x.next, x.letters, x.pairs))
theorem watch.un {S : Nat → Prop} {w : World} {cs : List Value} {x : watch} (h : watch.rp.rel S w cs x) : ∃ a0 c0, ∃ a1 c1, ∃ a2 c2, cs = [.slice a0 x.next.length c0, .slice a1 x.letters.length c1, .slice a2 x.pairs.length c2] ∧ Sl (Rp.sl (Rp.int .i64)) S w a0 c0 x.next ∧ Sl (Rp.sl (Rp.int .i64)) S w a1 c1 x.letters ∧ Sl Pair.rp S w a2 c2 x.pairs := by
  obtain ⟨_, _, rfl, ⟨a0, c0, rfl, hs0⟩, ⟨_, _, rfl, ⟨a1, c1, rfl, hs1⟩, ⟨a2, c2, rfl, hs2⟩⟩⟩ := h
  exact ⟨a0, c0, a1, c1, a2, c2, rfl, hs0, hs1, hs2⟩
theorem watch.mk_rel {S : Nat → Prop} {w : World} {x : watch} {a0 : Option Addr} {c0 : Nat} {a1 : Option Addr} {c1 : Nat} {a2 : Option Addr} {c2 : Nat} (hs0 : Sl (Rp.sl (Rp.int .i64)) S w a0 c0 x.next) (hs1 : Sl (Rp.sl (Rp.int .i64)) S w a1 c1 x.letters) (hs2 : Sl Pair.rp S w a2 c2 x.pairs) : watch.rp.rel S w [.slice a0 x.next.length c0, .slice a1 x.letters.length c1, .slice a2 x.pairs.length c2] x :=
  ⟨_, _, rfl, ⟨a0, c0, rfl, hs0⟩, ⟨_, _, rfl, ⟨a1, c1, rfl, hs1⟩, ⟨a2, c2, rfl, hs2⟩⟩⟩

def watch.ep177 : Ep watch := Ep.iso (Ep.pair (Ep.own (Ep.own (Ep.int .i64) 2) 22) (Ep.pair (Ep.own (Ep.own (Ep.int .i64) 2) 22) (Ep.own Pair.ep171 171))) (fun x => (x.next, x.letters, x.pairs))
theorem watch.no177 : watch.ep177.No := no_iso _ (no_pair (no_own (no_own (no_int _) _) _) (no_pair (no_own (no_own (no_int _) _) _) (no_own Pair.no171 _)))

structure builder where
  c : Circuit
  full : Bool
  known : (List (Gate × Int))

structure dice where
  b : (List Int)
  i : Int
  h : Int

def dice.rp : Rp dice := Rp.iso (Rp.pair (Rp.sl (Rp.int .u8)) (Rp.pair (Rp.int .i64) (Rp.int .u64))) (fun x => (x.b, x.i, x.h))
theorem dice.un {S : Nat → Prop} {w : World} {cs : List Value} {x : dice} (h : dice.rp.rel S w cs x) : ∃ a0 c0, cs = [.slice a0 x.b.length c0, .int .i64 x.i, .int .u64 x.h] ∧ Sl (Rp.int .u8) S w a0 c0 x.b := by
  obtain ⟨_, _, rfl, ⟨a0, c0, rfl, hs0⟩, ⟨_, _, rfl, rfl, rfl⟩⟩ := h
  exact ⟨a0, c0, rfl, hs0⟩
theorem dice.mk_rel {S : Nat → Prop} {w : World} {x : dice} {a0 : Option Addr} {c0 : Nat} (hs0 : Sl (Rp.int .u8) S w a0 c0 x.b) : dice.rp.rel S w [.slice a0 x.b.length c0, .int .i64 x.i, .int .u64 x.h] x :=
  ⟨_, _, rfl, ⟨a0, c0, rfl, hs0⟩, ⟨_, _, rfl, rfl, rfl⟩⟩

def dice.ep199 : Ep dice := Ep.iso (Ep.pair (Ep.own (Ep.int .u8) 5) (Ep.pair (Ep.int .i64) (Ep.int .u64))) (fun x => (x.b, x.i, x.h))
theorem dice.no199 : dice.ep199.No := no_iso _ (no_pair (no_own (no_int _) _) (no_pair (no_int _) (no_int _)))

instance : DecidableEq Gate := fun a b => match a, b with
  | ⟨a0, a1⟩, ⟨b0, b1⟩ => decidable_of_iff (a0 = b0 ∧ a1 = b1) (by simp)
def kvGate : Gate → Value := fun k => .agg #[.int .i64 k.A, .int .i64 k.B]
def kwGate : Gate → Bool := fun k => wf2 k.A k.B
theorem keyEGate : KeyE Try.prog 159 kvGate kwGate := ⟨deep_law (m := 2) (by omega) (by kernel_rfl) (by kernel_rfl) (by kernel_rfl), fun k h => keyS2 Try.underlying159 (by kernel_rfl) (m := 296) (by kernel_rfl) (by kernel_rfl) rfl rfl (by kernel_rfl) (by kernel_rfl) Try.underlying2 Try.underlying2 rfl rfl h, fun k k' h => by
  cases k; cases k'
  simp only [kvGate, Value.agg.injEq, Array.mk.injEq, List.cons.injEq, Value.int.injEq, true_and, and_true] at h
  obtain ⟨h1, h2⟩ := h
  subst h1 h2
  rfl⟩
def kvI2 : (Int × Int) → Value := fun k => .agg #[.int .i64 k.1, .int .i64 k.2]
def kwI2 : (Int × Int) → Bool := fun k => wf2 k.1 k.2
theorem keyEI2 : KeyE Try.prog 152 kvI2 kwI2 := ⟨deep_law (m := 2) (by omega) (by kernel_rfl) (by kernel_rfl) (by kernel_rfl), fun k h => keyA2 Try.underlying152 (by kernel_rfl) (m := 296) (by kernel_rfl) (by kernel_rfl) (by kernel_rfl) Try.underlying2 h, fun k k' h => by
  cases k; cases k'
  simp only [kvI2, Value.agg.injEq, Array.mk.injEq, List.cons.injEq, Value.int.injEq, true_and, and_true] at h
  obtain ⟨h1, h2⟩ := h
  subst h1 h2
  rfl⟩
theorem Tryinfo2 : Try.prog.info? 2 = some Try.t2 := by kernel_rfl
theorem Tryinfo4 : Try.prog.info? 4 = some Try.t4 := by kernel_rfl
theorem Tryinfo5 : Try.prog.info? 5 = some Try.t5 := by kernel_rfl
theorem Tryinfo22 : Try.prog.info? 22 = some Try.t22 := by kernel_rfl
theorem Tryinfo29 : Try.prog.info? 29 = some Try.t29 := by kernel_rfl
theorem Tryinfo36 : Try.prog.info? 36 = some Try.t36 := by kernel_rfl
theorem Tryinfo152 : Try.prog.info? 152 = some Try.t152 := by kernel_rfl
theorem Tryinfo159 : Try.prog.info? 159 = some Try.t159 := by kernel_rfl
theorem Tryinfo171 : Try.prog.info? 171 = some Try.t171 := by kernel_rfl
theorem Tryinfo189 : Try.prog.info? 189 = some Try.t189 := by kernel_rfl
theorem Tryinfo192 : Try.prog.info? 192 = some Try.t192 := by kernel_rfl
theorem Tryinfo214 : Try.prog.info? 214 = some Try.t214 := by kernel_rfl
theorem Tryinfo220 : Try.prog.info? 220 = some Try.t220 := by kernel_rfl
end Go.Proofs.Ytfmkhnlnomkcfaa
