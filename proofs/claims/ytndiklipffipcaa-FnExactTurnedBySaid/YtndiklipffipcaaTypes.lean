/- The structs of the program as data. -/
import Derived.Test.YtndiklipffipcaaMap
import Derived.Test.YtndiklipffipcaaTwo
import Derived.Test.YtndiklipffipcaaProg
set_option linter.unusedVariables false
set_option linter.unusedSimpArgs false
namespace Go.Proofs.Ytndiklipffipcaa
open Go Go.Wk Go.Proofs


structure Arena where
  Owner : (List Int)
  Next : (List (List Int))

def Arena.rp : Rp Arena := Rp.iso (Rp.pair (Rp.sl (Rp.int .i64)) (Rp.sl (Rp.sl (Rp.int .i64)))) (fun x => (x.Owner, x.Next))
theorem Arena.un {S : Nat → Prop} {w : World} {cs : List Value} {x : Arena} (h : Arena.rp.rel S w cs x) : ∃ a0 c0, ∃ a1 c1, cs = [.slice a0 x.Owner.length c0, .slice a1 x.Next.length c1] ∧ Sl (Rp.int .i64) S w a0 c0 x.Owner ∧ Sl (Rp.sl (Rp.int .i64)) S w a1 c1 x.Next := by
  obtain ⟨_, _, rfl, ⟨a0, c0, rfl, hs0⟩, ⟨a1, c1, rfl, hs1⟩⟩ := h
  exact ⟨a0, c0, a1, c1, rfl, hs0, hs1⟩
theorem Arena.mk_rel {S : Nat → Prop} {w : World} {x : Arena} {a0 : Option Addr} {c0 : Nat} {a1 : Option Addr} {c1 : Nat} (hs0 : Sl (Rp.int .i64) S w a0 c0 x.Owner) (hs1 : Sl (Rp.sl (Rp.int .i64)) S w a1 c1 x.Next) : Arena.rp.rel S w [.slice a0 x.Owner.length c0, .slice a1 x.Next.length c1] x :=
  ⟨_, _, rfl, ⟨a0, c0, rfl, hs0⟩, ⟨a1, c1, rfl, hs1⟩⟩

def Arena.ep25 : Ep Arena := Ep.iso (Ep.pair (Ep.own (Ep.int .i64) 2) (Ep.own (Ep.own (Ep.int .i64) 2) 22)) (fun x => (x.Owner, x.Next))
theorem Arena.no25 : Arena.ep25.No := no_iso _ (no_pair (no_own (no_int _) _) (no_own (no_own (no_int _) _) _))

structure Parity where
  Arena : Arena
  Prio : (List Int)

def Parity.rp : Rp Parity := Rp.iso (Rp.pair Arena.rp (Rp.sl (Rp.int .i64))) (fun x => (x.Arena, x.Prio))
theorem Parity.un {S : Nat → Prop} {w : World} {cs : List Value} {x : Parity} (h : Parity.rp.rel S w cs x) : ∃ a0 c0, ∃ a1 c1, ∃ a2 c2, cs = [.slice a0 x.Arena.Owner.length c0, .slice a1 x.Arena.Next.length c1, .slice a2 x.Prio.length c2] ∧ Sl (Rp.int .i64) S w a0 c0 x.Arena.Owner ∧ Sl (Rp.sl (Rp.int .i64)) S w a1 c1 x.Arena.Next ∧ Sl (Rp.int .i64) S w a2 c2 x.Prio := by
  obtain ⟨_, _, rfl, ⟨_, _, rfl, ⟨a0, c0, rfl, hs0⟩, ⟨a1, c1, rfl, hs1⟩⟩, ⟨a2, c2, rfl, hs2⟩⟩ := h
  exact ⟨a0, c0, a1, c1, a2, c2, rfl, hs0, hs1, hs2⟩
theorem Parity.mk_rel {S : Nat → Prop} {w : World} {x : Parity} {a0 : Option Addr} {c0 : Nat} {a1 : Option Addr} {c1 : Nat} {a2 : Option Addr} {c2 : Nat} (hs0 : Sl (Rp.int .i64) S w a0 c0 x.Arena.Owner) (hs1 : Sl (Rp.sl (Rp.int .i64)) S w a1 c1 x.Arena.Next) (hs2 : Sl (Rp.int .i64) S w a2 c2 x.Prio) : Parity.rp.rel S w [.slice a0 x.Arena.Owner.length c0, .slice a1 x.Arena.Next.length c1, .slice a2 x.Prio.length c2] x :=
  ⟨_, _, rfl, ⟨_, _, rfl, ⟨a0, c0, rfl, hs0⟩, ⟨a1, c1, rfl, hs1⟩⟩, ⟨a2, c2, rfl, hs2⟩⟩

def Parity.ep27 : Ep Parity := Ep.iso (Ep.pair Arena.ep25 (Ep.own (Ep.int .i64) 2)) (fun x => (x.Arena, x.Prio))
theorem Parity.no27 : Parity.ep27.No := no_iso _ (no_pair Arena.no25 (no_own (no_int _) _))

structure Edit where
  Kind : Int
  V : Int
  N : Int

def Edit.rp : Rp Edit := Rp.iso (Rp.pair (Rp.int .i64) (Rp.pair (Rp.int .i64) (Rp.int .i64))) (fun x => (x.Kind, x.V, x.N))
theorem Edit.un {S : Nat → Prop} {w : World} {cs : List Value} {x : Edit} (h : Edit.rp.rel S w cs x) : cs = [.int .i64 x.Kind, .int .i64 x.V, .int .i64 x.N] := by
  obtain ⟨_, _, rfl, rfl, ⟨_, _, rfl, rfl, rfl⟩⟩ := h
  exact rfl
theorem Edit.mk_rel {S : Nat → Prop} {w : World} {x : Edit} : Edit.rp.rel S w [.int .i64 x.Kind, .int .i64 x.V, .int .i64 x.N] x :=
  ⟨_, _, rfl, rfl, ⟨_, _, rfl, rfl, rfl⟩⟩

def Edit.ep29 : Ep Edit := Ep.iso (Ep.pair (Ep.int .i64) (Ep.pair (Ep.int .i64) (Ep.int .i64))) (fun x => (x.Kind, x.V, x.N))
theorem Edit.pu29 : Edit.ep29.Pu := pu_iso _ (pu_pair (pu_int _) (pu_pair (pu_int _) (pu_int _)))
theorem Edit.no29 : Edit.ep29.No := no_iso _ (no_pair (no_int _) (no_pair (no_int _) (no_int _)))

structure Pair where
  Ask : (List Int)
  Give : (List Int)

def Pair.rp : Rp Pair := Rp.iso (Rp.pair (Rp.sl (Rp.int .i64)) (Rp.sl (Rp.int .i64))) (fun x => (x.Ask, x.Give))
theorem Pair.un {S : Nat → Prop} {w : World} {cs : List Value} {x : Pair} (h : Pair.rp.rel S w cs x) : ∃ a0 c0, ∃ a1 c1, cs = [.slice a0 x.Ask.length c0, .slice a1 x.Give.length c1] ∧ Sl (Rp.int .i64) S w a0 c0 x.Ask ∧ Sl (Rp.int .i64) S w a1 c1 x.Give := by
  obtain ⟨_, _, rfl, ⟨a0, c0, rfl, hs0⟩, ⟨a1, c1, rfl, hs1⟩⟩ := h
  exact ⟨a0, c0, a1, c1, rfl, hs0, hs1⟩
theorem Pair.mk_rel {S : Nat → Prop} {w : World} {x : Pair} {a0 : Option Addr} {c0 : Nat} {a1 : Option Addr} {c1 : Nat} (hs0 : Sl (Rp.int .i64) S w a0 c0 x.Ask) (hs1 : Sl (Rp.int .i64) S w a1 c1 x.Give) : Pair.rp.rel S w [.slice a0 x.Ask.length c0, .slice a1 x.Give.length c1] x :=
  ⟨_, _, rfl, ⟨a0, c0, rfl, hs0⟩, ⟨a1, c1, rfl, hs1⟩⟩

def Pair.ep89 : Ep Pair := Ep.iso (Ep.pair (Ep.own (Ep.int .i64) 2) (Ep.own (Ep.int .i64) 2)) (fun x => (x.Ask, x.Give))
theorem Pair.no89 : Pair.ep89.No := no_iso _ (no_pair (no_own (no_int _) _) (no_own (no_int _) _))

def Arena.ep32 : Ep Arena := Ep.iso (Ep.pair (Ep.own (Ep.int .i64) 2) (Ep.own (Ep.own (Ep.int .i64) 2) 22)) (fun x => (x.Owner, x.Next))
theorem Arena.no32 : Arena.ep32.No := no_iso _ (no_pair (no_own (no_int _) _) (no_own (no_own (no_int _) _) _))

def Parity.ep34 : Ep Parity := Ep.iso (Ep.pair Arena.ep32 (Ep.own (Ep.int .i64) 2)) (fun x => (x.Arena, x.Prio))
theorem Parity.no34 : Parity.ep34.No := no_iso _ (no_pair Arena.no32 (no_own (no_int _) _))

def Edit.ep36 : Ep Edit := Ep.iso (Ep.pair (Ep.int .i64) (Ep.pair (Ep.int .i64) (Ep.int .i64))) (fun x => (x.Kind, x.V, x.N))
theorem Edit.pu36 : Edit.ep36.Pu := pu_iso _ (pu_pair (pu_int _) (pu_pair (pu_int _) (pu_int _)))
theorem Edit.no36 : Edit.ep36.No := no_iso _ (no_pair (no_int _) (no_pair (no_int _) (no_int _)))

def Pair.ep60 : Ep Pair := Ep.iso (Ep.pair (Ep.own (Ep.int .i64) 2) (Ep.own (Ep.int .i64) 2)) (fun x => (x.Ask, x.Give))
theorem Pair.no60 : Pair.ep60.No := no_iso _ (no_pair (no_own (no_int _) _) (no_own (no_int _) _))

structure Sig where
  In : Int
  Out : Int

def Sig.rp : Rp Sig := Rp.iso (Rp.pair (Rp.int .i64) (Rp.int .i64)) (fun x => (x.In, x.Out))
theorem Sig.un {S : Nat → Prop} {w : World} {cs : List Value} {x : Sig} (h : Sig.rp.rel S w cs x) : cs = [.int .i64 x.In, .int .i64 x.Out] := by
  obtain ⟨_, _, rfl, rfl, rfl⟩ := h
  exact rfl
theorem Sig.mk_rel {S : Nat → Prop} {w : World} {x : Sig} : Sig.rp.rel S w [.int .i64 x.In, .int .i64 x.Out] x :=
  ⟨_, _, rfl, rfl, rfl⟩

def Sig.ep65 : Ep Sig := Ep.iso (Ep.pair (Ep.int .i64) (Ep.int .i64)) (fun x => (x.In, x.Out))
theorem Sig.pu65 : Sig.ep65.Pu := pu_iso _ (pu_pair (pu_int _) (pu_int _))
theorem Sig.no65 : Sig.ep65.No := no_iso _ (no_pair (no_int _) (no_int _))

structure Machine where
  Next : (List (List Int))
  Out : (List (List Int))

def Machine.rp : Rp Machine := Rp.iso (Rp.pair (Rp.sl (Rp.sl (Rp.int .i64))) (Rp.sl (Rp.sl (Rp.int .i64)))) (fun x => (x.Next, x.Out))
theorem Machine.un {S : Nat → Prop} {w : World} {cs : List Value} {x : Machine} (h : Machine.rp.rel S w cs x) : ∃ a0 c0, ∃ a1 c1, cs = [.slice a0 x.Next.length c0, .slice a1 x.Out.length c1] ∧ Sl (Rp.sl (Rp.int .i64)) S w a0 c0 x.Next ∧ Sl (Rp.sl (Rp.int .i64)) S w a1 c1 x.Out := by
  obtain ⟨_, _, rfl, ⟨a0, c0, rfl, hs0⟩, ⟨a1, c1, rfl, hs1⟩⟩ := h
  exact ⟨a0, c0, a1, c1, rfl, hs0, hs1⟩
theorem Machine.mk_rel {S : Nat → Prop} {w : World} {x : Machine} {a0 : Option Addr} {c0 : Nat} {a1 : Option Addr} {c1 : Nat} (hs0 : Sl (Rp.sl (Rp.int .i64)) S w a0 c0 x.Next) (hs1 : Sl (Rp.sl (Rp.int .i64)) S w a1 c1 x.Out) : Machine.rp.rel S w [.slice a0 x.Next.length c0, .slice a1 x.Out.length c1] x :=
  ⟨_, _, rfl, ⟨a0, c0, rfl, hs0⟩, ⟨a1, c1, rfl, hs1⟩⟩

def Machine.ep67 : Ep Machine := Ep.iso (Ep.pair (Ep.own (Ep.own (Ep.int .i64) 2) 22) (Ep.own (Ep.own (Ep.int .i64) 2) 22)) (fun x => (x.Next, x.Out))
theorem Machine.no67 : Machine.ep67.No := no_iso _ (no_pair (no_own (no_own (no_int _) _) _) (no_own (no_own (no_int _) _) _))

structure Clause where
  Kind : Int
  A : (List Int)
  B : (List Int)

def Clause.rp : Rp Clause := Rp.iso (Rp.pair (Rp.int .i64) (Rp.pair (Rp.sl (Rp.int .i64)) (Rp.sl (Rp.int .i64)))) (fun x => (x.Kind, x.A, x.B))
theorem Clause.un {S : Nat → Prop} {w : World} {cs : List Value} {x : Clause} (h : Clause.rp.rel S w cs x) : ∃ a1 c1, ∃ a2 c2, cs = [.int .i64 x.Kind, .slice a1 x.A.length c1, .slice a2 x.B.length c2] ∧ Sl (Rp.int .i64) S w a1 c1 x.A ∧ Sl (Rp.int .i64) S w a2 c2 x.B := by
  obtain ⟨_, _, rfl, rfl, ⟨_, _, rfl, ⟨a1, c1, rfl, hs1⟩, ⟨a2, c2, rfl, hs2⟩⟩⟩ := h
  exact ⟨a1, c1, a2, c2, rfl, hs1, hs2⟩
theorem Clause.mk_rel {S : Nat → Prop} {w : World} {x : Clause} {a1 : Option Addr} {c1 : Nat} {a2 : Option Addr} {c2 : Nat} (hs1 : Sl (Rp.int .i64) S w a1 c1 x.A) (hs2 : Sl (Rp.int .i64) S w a2 c2 x.B) : Clause.rp.rel S w [.int .i64 x.Kind, .slice a1 x.A.length c1, .slice a2 x.B.length c2] x :=
  ⟨_, _, rfl, rfl, ⟨_, _, rfl, ⟨a1, c1, rfl, hs1⟩, ⟨a2, c2, rfl, hs2⟩⟩⟩

def Clause.ep79 : Ep Clause := Ep.iso (Ep.pair (Ep.int .i64) (Ep.pair (Ep.own (Ep.int .i64) 2) (Ep.own (Ep.int .i64) 2))) (fun x => (x.Kind, x.A, x.B))
theorem Clause.no79 : Clause.ep79.No := no_iso _ (no_pair (no_int _) (no_pair (no_own (no_int _) _) (no_own (no_int _) _)))

structure Det where
  Next : (List (List Int))
  Pairs : (List Pair)

def Det.rp : Rp Det := Rp.iso (Rp.pair (Rp.sl (Rp.sl (Rp.int .i64))) (Rp.sl Pair.rp)) (fun x => (x.Next, x.Pairs))
theorem Det.un {S : Nat → Prop} {w : World} {cs : List Value} {x : Det} (h : Det.rp.rel S w cs x) : ∃ a0 c0, ∃ a1 c1, cs = [.slice a0 x.Next.length c0, .slice a1 x.Pairs.length c1] ∧ Sl (Rp.sl (Rp.int .i64)) S w a0 c0 x.Next ∧ Sl Pair.rp S w a1 c1 x.Pairs := by
  obtain ⟨_, _, rfl, ⟨a0, c0, rfl, hs0⟩, ⟨a1, c1, rfl, hs1⟩⟩ := h
  exact ⟨a0, c0, a1, c1, rfl, hs0, hs1⟩
theorem Det.mk_rel {S : Nat → Prop} {w : World} {x : Det} {a0 : Option Addr} {c0 : Nat} {a1 : Option Addr} {c1 : Nat} (hs0 : Sl (Rp.sl (Rp.int .i64)) S w a0 c0 x.Next) (hs1 : Sl Pair.rp S w a1 c1 x.Pairs) : Det.rp.rel S w [.slice a0 x.Next.length c0, .slice a1 x.Pairs.length c1] x :=
  ⟨_, _, rfl, ⟨a0, c0, rfl, hs0⟩, ⟨a1, c1, rfl, hs1⟩⟩

def Det.ep76 : Ep Det := Ep.iso (Ep.pair (Ep.own (Ep.own (Ep.int .i64) 2) 22) (Ep.own Pair.ep60 60)) (fun x => (x.Next, x.Pairs))
theorem Det.no76 : Det.ep76.No := no_iso _ (no_pair (no_own (no_own (no_int _) _) _) (no_own Pair.no60 _))

structure l7Game where
  owner : (List Int)
  prio : (List Int)
  next : (List (List Int))
  prev : (List (List Int))
  pick : (List Int)

def l7Game.rp : Rp l7Game := Rp.iso (Rp.pair (Rp.sl (Rp.int .i64)) (Rp.pair (Rp.sl (Rp.int .i64)) (Rp.pair (Rp.sl (Rp.sl (Rp.int .i64))) (Rp.pair (Rp.sl (Rp.sl (Rp.int .i64))) (Rp.sl (Rp.int .i64)))))) (fun x => (x.owner, x.prio, x.next, x.prev, x.pick))
theorem l7Game.un {S : Nat → Prop} {w : World} {cs : List Value} {x : l7Game} (h : l7Game.rp.rel S w cs x) : ∃ a0 c0, ∃ a1 c1, ∃ a2 c2, ∃ a3 c3, ∃ a4 c4, cs = [.slice a0 x.owner.length c0, .slice a1 x.prio.length c1, .slice a2 x.next.length c2, .slice a3 x.prev.length c3, .slice a4 x.pick.length c4] ∧ Sl (Rp.int .i64) S w a0 c0 x.owner ∧ Sl (Rp.int .i64) S w a1 c1 x.prio ∧ Sl (Rp.sl (Rp.int .i64)) S w a2 c2 x.next ∧ Sl (Rp.sl (Rp.int .i64)) S w a3 c3 x.prev ∧ Sl (Rp.int .i64) S w a4 c4 x.pick := by
  obtain ⟨_, _, rfl, ⟨a0, c0, rfl, hs0⟩, ⟨_, _, rfl, ⟨a1, c1, rfl, hs1⟩, ⟨_, _, rfl, ⟨a2, c2, rfl, hs2⟩, ⟨_, _, rfl, ⟨a3, c3, rfl, hs3⟩, ⟨a4, c4, rfl, hs4⟩⟩⟩⟩⟩ := h
  exact ⟨a0, c0, a1, c1, a2, c2, a3, c3, a4, c4, rfl, hs0, hs1, hs2, hs3, hs4⟩
theorem l7Game.mk_rel {S : Nat → Prop} {w : World} {x : l7Game} {a0 : Option Addr} {c0 : Nat} {a1 : Option Addr} {c1 : Nat} {a2 : Option Addr} {c2 : Nat} {a3 : Option Addr} {c3 : Nat} {a4 : Option Addr} {c4 : Nat} (hs0 : Sl (Rp.int .i64) S w a0 c0 x.owner) (hs1 : Sl (Rp.int .i64) S w a1 c1 x.prio) (hs2 : Sl (Rp.sl (Rp.int .i64)) S w a2 c2 x.next) (hs3 : Sl (Rp.sl (Rp.int .i64)) S w a3 c3 x.prev) (hs4 : Sl (Rp.int .i64) S w a4 c4 x.pick) : l7Game.rp.rel S w [.slice a0 x.owner.length c0, .slice a1 x.prio.length c1, .slice a2 x.next.length c2, .slice a3 x.prev.length c3, .slice a4 x.pick.length c4] x :=
  ⟨_, _, rfl, ⟨a0, c0, rfl, hs0⟩, ⟨_, _, rfl, ⟨a1, c1, rfl, hs1⟩, ⟨_, _, rfl, ⟨a2, c2, rfl, hs2⟩, ⟨_, _, rfl, ⟨a3, c3, rfl, hs3⟩, ⟨a4, c4, rfl, hs4⟩⟩⟩⟩⟩

def l7Game.ep121 : Ep l7Game := Ep.iso (Ep.pair (Ep.own (Ep.int .i64) 2) (Ep.pair (Ep.own (Ep.int .i64) 2) (Ep.pair (Ep.own (Ep.own (Ep.int .i64) 2) 22) (Ep.pair (Ep.own (Ep.own (Ep.int .i64) 2) 22) (Ep.own (Ep.int .i64) 2))))) (fun x => (x.owner, x.prio, x.next, x.prev, x.pick))
theorem l7Game.no121 : l7Game.ep121.No := no_iso _ (no_pair (no_own (no_int _) _) (no_pair (no_own (no_int _) _) (no_pair (no_own (no_own (no_int _) _) _) (no_pair (no_own (no_own (no_int _) _) _) (no_own (no_int _) _)))))

structure boundsError where
  x : Int
  y : Int
  signed : Bool
  code : Int

def boundsError.rp : Rp boundsError := Rp.iso (Rp.pair (Rp.int .i64) (Rp.pair (Rp.int .i64) (Rp.pair Rp.bool (Rp.int .u8)))) (fun x => (x.x, x.y, x.signed, x.code))
theorem boundsError.un {S : Nat → Prop} {w : World} {cs : List Value} {x : boundsError} (h : boundsError.rp.rel S w cs x) : cs = [.int .i64 x.x, .int .i64 x.y, .bool x.signed, .int .u8 x.code] := by
  obtain ⟨_, _, rfl, rfl, ⟨_, _, rfl, rfl, ⟨_, _, rfl, rfl, rfl⟩⟩⟩ := h
  exact rfl
theorem boundsError.mk_rel {S : Nat → Prop} {w : World} {x : boundsError} : boundsError.rp.rel S w [.int .i64 x.x, .int .i64 x.y, .bool x.signed, .int .u8 x.code] x :=
  ⟨_, _, rfl, rfl, ⟨_, _, rfl, rfl, ⟨_, _, rfl, rfl, rfl⟩⟩⟩

def boundsError.ep8 : Ep boundsError := Ep.iso (Ep.pair (Ep.int .i64) (Ep.pair (Ep.int .i64) (Ep.pair Ep.bool (Ep.int .u8)))) (fun x => (x.x, x.y, x.signed, x.code))
theorem boundsError.pu8 : boundsError.ep8.Pu := pu_iso _ (pu_pair (pu_int _) (pu_pair (pu_int _) (pu_pair pu_bool (pu_int _))))
theorem boundsError.no8 : boundsError.ep8.No := no_iso _ (no_pair (no_int _) (no_pair (no_int _) (no_pair no_bool (no_int _))))

structure errorAddressString where
  msg : ByteArray
  addr : Int

def errorAddressString.rp : Rp errorAddressString := Rp.iso (Rp.pair Rp.str (Rp.int .u64)) (fun x => (x.msg, x.addr))
theorem errorAddressString.un {S : Nat → Prop} {w : World} {cs : List Value} {x : errorAddressString} (h : errorAddressString.rp.rel S w cs x) : cs = [.string x.msg, .int .u64 x.addr] := by
  obtain ⟨_, _, rfl, rfl, rfl⟩ := h
  exact rfl
theorem errorAddressString.mk_rel {S : Nat → Prop} {w : World} {x : errorAddressString} : errorAddressString.rp.rel S w [.string x.msg, .int .u64 x.addr] x :=
  ⟨_, _, rfl, rfl, rfl⟩

def errorAddressString.ep14 : Ep errorAddressString := Ep.iso (Ep.pair Ep.str (Ep.int .u64)) (fun x => (x.msg, x.addr))
theorem errorAddressString.pu14 : errorAddressString.ep14.Pu := pu_iso _ (pu_pair pu_str (pu_int _))
theorem errorAddressString.no14 : errorAddressString.ep14.No := no_iso _ (no_pair no_str (no_int _))

structure dice where
  b : (List Int)
  i : Int
  h : Int

def dice.rp : Rp dice := Rp.iso (Rp.pair (Rp.sl (Rp.int .u8)) (Rp.pair (Rp.int .i64) (Rp.int .u64))) (fun x => (x.b, x.i, x.h))
theorem dice.un {S : Nat → Prop} {w : World} {cs : List Value} {x : dice} (h : dice.rp.rel S w cs x) : ∃ a0 c0, cs = [.slice a0 x.b.length c0, .int .i64 x.i, .int .u64 x.h] ∧ Sl (Rp.int .u8) S w a0 c0 x.b := by
  obtain ⟨_, _, rfl, ⟨a0, c0, rfl, hs0⟩, ⟨_, _, rfl, rfl, rfl⟩⟩ := h
  exact ⟨a0, c0, rfl, hs0⟩
theorem dice.mk_rel {S : Nat → Prop} {w : World} {x : dice} {a0 : Option Addr} {c0 : Nat} (hs0 : Sl (Rp.int .u8) S w a0 c0 x.b) : dice.rp.rel S w [.slice a0 x.b.length c0, .int .i64 x.i, .int .u64 x.h] x :=
  ⟨_, _, rfl, ⟨a0, c0, rfl, hs0⟩, ⟨_, _, rfl, rfl, rfl⟩⟩

def dice.ep101 : Ep dice := Ep.iso (Ep.pair (Ep.own (Ep.int .u8) 5) (Ep.pair (Ep.int .i64) (Ep.int .u64))) (fun x => (x.b, x.i, x.h))
theorem dice.no101 : dice.ep101.No := no_iso _ (no_pair (no_own (no_int _) _) (no_pair (no_int _) (no_int _)))

structure watch where
  next : (List (List Int))
  letters : (List (List Int))
  pairs : (List Pair)

def watch.rp : Rp watch := Rp.iso (Rp.pair (Rp.sl (Rp.sl (Rp.int .i64))) (Rp.pair (Rp.sl (Rp.sl (Rp.int .i64))) (Rp.sl Pair.rp))) (fun x => (x.next, x.letters, x.pairs))
theorem watch.un {S : Nat → Prop} {w : World} {cs : List Value} {x : watch} (h : watch.rp.rel S w cs x) : ∃ a0 c0, ∃ a1 c1, ∃ a2 c2, cs = [.slice a0 x.next.length c0, .slice a1 x.letters.length c1, .slice a2 x.pairs.length c2] ∧ Sl (Rp.sl (Rp.int .i64)) S w a0 c0 x.next ∧ Sl (Rp.sl (Rp.int .i64)) S w a1 c1 x.letters ∧ Sl Pair.rp S w a2 c2 x.pairs := by
  obtain ⟨_, _, rfl, ⟨a0, c0, rfl, hs0⟩, ⟨_, _, rfl, ⟨a1, c1, rfl, hs1⟩, ⟨a2, c2, rfl, hs2⟩⟩⟩ := h
  exact ⟨a0, c0, a1, c1, a2, c2, rfl, hs0, hs1, hs2⟩
theorem watch.mk_rel {S : Nat → Prop} {w : World} {x : watch} {a0 : Option Addr} {c0 : Nat} {a1 : Option Addr} {c1 : Nat} {a2 : Option Addr} {c2 : Nat} (hs0 : Sl (Rp.sl (Rp.int .i64)) S w a0 c0 x.next) (hs1 : Sl (Rp.sl (Rp.int .i64)) S w a1 c1 x.letters) (hs2 : Sl Pair.rp S w a2 c2 x.pairs) : watch.rp.rel S w [.slice a0 x.next.length c0, .slice a1 x.letters.length c1, .slice a2 x.pairs.length c2] x :=
  ⟨_, _, rfl, ⟨a0, c0, rfl, hs0⟩, ⟨_, _, rfl, ⟨a1, c1, rfl, hs1⟩, ⟨a2, c2, rfl, hs2⟩⟩⟩

def watch.ep112 : Ep watch := Ep.iso (Ep.pair (Ep.own (Ep.own (Ep.int .i64) 2) 22) (Ep.pair (Ep.own (Ep.own (Ep.int .i64) 2) 22) (Ep.own Pair.ep60 60))) (fun x => (x.next, x.letters, x.pairs))
theorem watch.no112 : watch.ep112.No := no_iso _ (no_pair (no_own (no_own (no_int _) _) _) (no_pair (no_own (no_own (no_int _) _) _) (no_own Pair.no60 _)))

structure l1Cur where
  b : (List Int)
  i : Int
  h : Int

def l1Cur.rp : Rp l1Cur := Rp.iso (Rp.pair (Rp.sl (Rp.int .u8)) (Rp.pair (Rp.int .i64) (Rp.int .i64))) (fun x => (x.b, x.i, x.h))
theorem l1Cur.un {S : Nat → Prop} {w : World} {cs : List Value} {x : l1Cur} (h : l1Cur.rp.rel S w cs x) : ∃ a0 c0, cs = [.slice a0 x.b.length c0, .int .i64 x.i, .int .i64 x.h] ∧ Sl (Rp.int .u8) S w a0 c0 x.b := by
  obtain ⟨_, _, rfl, ⟨a0, c0, rfl, hs0⟩, ⟨_, _, rfl, rfl, rfl⟩⟩ := h
  exact ⟨a0, c0, rfl, hs0⟩
theorem l1Cur.mk_rel {S : Nat → Prop} {w : World} {x : l1Cur} {a0 : Option Addr} {c0 : Nat} (hs0 : Sl (Rp.int .u8) S w a0 c0 x.b) : l1Cur.rp.rel S w [.slice a0 x.b.length c0, .int .i64 x.i, .int .i64 x.h] x :=
  ⟨_, _, rfl, ⟨a0, c0, rfl, hs0⟩, ⟨_, _, rfl, rfl, rfl⟩⟩

def l1Cur.ep139 : Ep l1Cur := Ep.iso (Ep.pair (Ep.own (Ep.int .u8) 5) (Ep.pair (Ep.int .i64) (Ep.int .i64))) (fun x => (x.b, x.i, x.h))
theorem l1Cur.no139 : l1Cur.ep139.No := no_iso _ (no_pair (no_own (no_int _) _) (no_pair (no_int _) (no_int _)))

structure solver where
  game : Parity
  preds : (List (List Int))

def solver.rp : Rp solver := Rp.iso (Rp.pair Parity.rp (Rp.sl (Rp.sl (Rp.int .i64)))) (fun x => (x.game, x.preds))
theorem solver.un {S : Nat → Prop} {w : World} {cs : List Value} {x : solver} (h : solver.rp.rel S w cs x) : ∃ a0 c0, ∃ a1 c1, ∃ a2 c2, ∃ a3 c3, cs = [.slice a0 x.game.Arena.Owner.length c0, .slice a1 x.game.Arena.Next.length c1, .slice a2 x.game.Prio.length c2, .slice a3 x.preds.length c3] ∧ Sl (Rp.int .i64) S w a0 c0 x.game.Arena.Owner ∧ Sl (Rp.sl (Rp.int .i64)) S w a1 c1 x.game.Arena.Next ∧ Sl (Rp.int .i64) S w a2 c2 x.game.Prio ∧ Sl (Rp.sl (Rp.int .i64)) S w a3 c3 x.preds := by
  obtain ⟨_, _, rfl, ⟨_, _, rfl, ⟨_, _, rfl, ⟨a0, c0, rfl, hs0⟩, ⟨a1, c1, rfl, hs1⟩⟩, ⟨a2, c2, rfl, hs2⟩⟩, ⟨a3, c3, rfl, hs3⟩⟩ := h
  exact ⟨a0, c0, a1, c1, a2, c2, a3, c3, rfl, hs0, hs1, hs2, hs3⟩
theorem solver.mk_rel {S : Nat → Prop} {w : World} {x : solver} {a0 : Option Addr} {c0 : Nat} {a1 : Option Addr} {c1 : Nat} {a2 : Option Addr} {c2 : Nat} {a3 : Option Addr} {c3 : Nat} (hs0 : Sl (Rp.int .i64) S w a0 c0 x.game.Arena.Owner) (hs1 : Sl (Rp.sl (Rp.int .i64)) S w a1 c1 x.game.Arena.Next) (hs2 : Sl (Rp.int .i64) S w a2 c2 x.game.Prio) (hs3 : Sl (Rp.sl (Rp.int .i64)) S w a3 c3 x.preds) : solver.rp.rel S w [.slice a0 x.game.Arena.Owner.length c0, .slice a1 x.game.Arena.Next.length c1, .slice a2 x.game.Prio.length c2, .slice a3 x.preds.length c3] x :=
  ⟨_, _, rfl, ⟨_, _, rfl, ⟨_, _, rfl, ⟨a0, c0, rfl, hs0⟩, ⟨a1, c1, rfl, hs1⟩⟩, ⟨a2, c2, rfl, hs2⟩⟩, ⟨a3, c3, rfl, hs3⟩⟩

def solver.ep159 : Ep solver := Ep.iso (Ep.pair Parity.ep34 (Ep.own (Ep.own (Ep.int .i64) 2) 22)) (fun x => (x.game, x.preds))
theorem solver.no159 : solver.ep159.No := no_iso _ (no_pair Parity.no34 (no_own (no_own (no_int _) _) _))

def kvI2 : (Int × Int) → Value := fun k => .agg #[.int .i64 k.1, .int .i64 k.2]
def kwI2 : (Int × Int) → Bool := fun k => wf2 k.1 k.2
theorem keyEI2 : KeyE Try.prog 145 kvI2 kwI2 := ⟨deep_law (m := 2) (by omega) (by kernel_rfl) (by kernel_rfl) (by kernel_rfl), fun k h => keyA2 Try.underlying145 (by kernel_rfl) (m := 239) (by kernel_rfl) (by kernel_rfl) (by kernel_rfl) Try.underlying2 h, fun k k' h => by
  cases k; cases k'
  simp only [kvI2, Value.agg.injEq, Array.mk.injEq, List.cons.injEq, Value.int.injEq, true_and, and_true] at h
  obtain ⟨h1, h2⟩ := h
  subst h1 h2
  rfl⟩
theorem Tryinfo2 : Try.prog.info? 2 = some Try.t2 := by kernel_rfl
theorem Tryinfo3 : Try.prog.info? 3 = some Try.t3 := by kernel_rfl
theorem Tryinfo4 : Try.prog.info? 4 = some Try.t4 := by kernel_rfl
theorem Tryinfo5 : Try.prog.info? 5 = some Try.t5 := by kernel_rfl
theorem Tryinfo22 : Try.prog.info? 22 = some Try.t22 := by kernel_rfl
theorem Tryinfo60 : Try.prog.info? 60 = some Try.t60 := by kernel_rfl
theorem Tryinfo76 : Try.prog.info? 76 = some Try.t76 := by kernel_rfl
theorem Tryinfo79 : Try.prog.info? 79 = some Try.t79 := by kernel_rfl
theorem Tryinfo89 : Try.prog.info? 89 = some Try.t89 := by kernel_rfl
theorem Tryinfo118 : Try.prog.info? 118 = some Try.t118 := by kernel_rfl
theorem Tryinfo145 : Try.prog.info? 145 = some Try.t145 := by kernel_rfl
end Go.Proofs.Ytndiklipffipcaa
