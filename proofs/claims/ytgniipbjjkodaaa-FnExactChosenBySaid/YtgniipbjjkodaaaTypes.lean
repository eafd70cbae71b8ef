/- The structs of the program as data. -/
import Derived.Test.YtgniipbjjkodaaaMap
import Derived.Test.YtgniipbjjkodaaaProg
set_option linter.unusedVariables false
set_option linter.unusedSimpArgs false
namespace Go.Proofs.Ytgniipbjjkodaaa
open Go Go.Wk Go.Proofs

structure Sig where
  In : Int
  Out : Int

def Sig.rp : Rp Sig := Rp.iso (Rp.pair (Rp.int .i64) (Rp.int .i64)) (fun x => (x.In, x.Out))
theorem Sig.un {S : Nat → Prop} {w : World} {cs : List Value} {x : Sig} (h : Sig.rp.rel S w cs x) : cs = [.int .i64 x.In, .int .i64 x.Out] := by
  obtain ⟨_, _, rfl, rfl, rfl⟩ := h
  exact rfl
theorem Sig.mk_rel {S : Nat → Prop} {w : World} {x : Sig} : Sig.rp.rel S w [.int .i64 x.In, .int .i64 x.Out] x :=
  ⟨_, _, rfl, rfl, rfl⟩

def Sig.ep23 : Ep Sig := Ep.iso (Ep.pair (Ep.int .i64) (Ep.int .i64)) (fun x => (x.In, x.Out))
theorem Sig.pu23 : Sig.ep23.Pu := pu_iso _ (pu_pair (pu_int _) (pu_int _))
theorem Sig.no23 : Sig.ep23.No := no_iso _ (no_pair (no_int _) (no_int _))

structure Rival where
  In : (List Int)
  Next : (List (List Int))

def Rival.rp : Rp Rival := Rp.iso (Rp.pair (Rp.sl (Rp.int .i64)) (Rp.sl (Rp.sl (Rp.int .i64)))) (fun x => (x.In, x.Next))
theorem Rival.un {S : Nat → Prop} {w : World} {cs : List Value} {x : Rival} (h : Rival.rp.rel S w cs x) : ∃ a0 c0, ∃ a1 c1, cs = [.slice a0 x.In.length c0, .slice a1 x.Next.length c1] ∧ Sl (Rp.int .i64) S w a0 c0 x.In ∧ Sl (Rp.sl (Rp.int .i64)) S w a1 c1 x.Next := by
  obtain ⟨_, _, rfl, ⟨a0, c0, rfl, hs0⟩, ⟨a1, c1, rfl, hs1⟩⟩ := h
  exact ⟨a0, c0, a1, c1, rfl, hs0, hs1⟩
theorem Rival.mk_rel {S : Nat → Prop} {w : World} {x : Rival} {a0 : Option Addr} {c0 : Nat} {a1 : Option Addr} {c1 : Nat} (hs0 : Sl (Rp.int .i64) S w a0 c0 x.In) (hs1 : Sl (Rp.sl (Rp.int .i64)) S w a1 c1 x.Next) : Rival.rp.rel S w [.slice a0 x.In.length c0, .slice a1 x.Next.length c1] x :=
  ⟨_, _, rfl, ⟨a0, c0, rfl, hs0⟩, ⟨a1, c1, rfl, hs1⟩⟩

def Rival.ep27 : Ep Rival := Ep.iso (Ep.pair (Ep.own (Ep.int .i64) 2) (Ep.own (Ep.own (Ep.int .i64) 2) 24)) (fun x => (x.In, x.Next))
theorem Rival.no27 : Rival.ep27.No := no_iso _ (no_pair (no_own (no_int _) _) (no_own (no_own (no_int _) _) _))

structure Gate where
  A : Int
  B : Int

def Gate.rp : Rp Gate := Rp.iso (Rp.pair (Rp.int .i64) (Rp.int .i64)) (fun x => (x.A, x.B))
theorem Gate.un {S : Nat → Prop} {w : World} {cs : List Value} {x : Gate} (h : Gate.rp.rel S w cs x) : cs = [.int .i64 x.A, .int .i64 x.B] := by
  obtain ⟨_, _, rfl, rfl, rfl⟩ := h
  exact rfl
theorem Gate.mk_rel {S : Nat → Prop} {w : World} {x : Gate} : Gate.rp.rel S w [.int .i64 x.A, .int .i64 x.B] x :=
  ⟨_, _, rfl, rfl, rfl⟩

def Gate.ep161 : Ep Gate := Ep.iso (Ep.pair (Ep.int .i64) (Ep.int .i64)) (fun x => (x.A, x.B))
theorem Gate.pu161 : Gate.ep161.Pu := pu_iso _ (pu_pair (pu_int _) (pu_int _))
theorem Gate.no161 : Gate.ep161.No := no_iso _ (no_pair (no_int _) (no_int _))

structure Circuit where
  Inputs : Int
  Latches : Int
  Next : (List Int)
  Gates : (List Gate)
  Outs : (List Int)

def Circuit.rp : Rp Circuit := Rp.iso (Rp.pair (Rp.int .i64) (Rp.pair (Rp.int .i64) (Rp.pair (Rp.sl (Rp.int .i64)) (Rp.pair (Rp.sl Gate.rp) (Rp.sl (Rp.int .i64)))))) (fun x => (x.Inputs, x.Latches, x.Next, x.Gates, x.Outs))
theorem Circuit.un {S : Nat → Prop} {w : World} {cs : List Value} {x : Circuit} (h : Circuit.rp.rel S w cs x) : ∃ a2 c2, ∃ a3 c3, ∃ a4 c4, cs = [.int .i64 x.Inputs, .int .i64 x.Latches, .slice a2 x.Next.length c2, .slice a3 x.Gates.length c3, .slice a4 x.Outs.length c4] ∧ Sl (Rp.int .i64) S w a2 c2 x.Next ∧ Sl Gate.rp S w a3 c3 x.Gates ∧ Sl (Rp.int .i64) S w a4 c4 x.Outs := by
  obtain ⟨_, _, rfl, rfl, ⟨_, _, rfl, rfl, ⟨_, _, rfl, ⟨a2, c2, rfl, hs2⟩, ⟨_, _, rfl, ⟨a3, c3, rfl, hs3⟩, ⟨a4, c4, rfl, hs4⟩⟩⟩⟩⟩ := h
  exact ⟨a2, c2, a3, c3, a4, c4, rfl, hs2, hs3, hs4⟩
theorem Circuit.mk_rel {S : Nat → Prop} {w : World} {x : Circuit} {a2 : Option Addr} {c2 : Nat} {a3 : Option Addr} {c3 : Nat} {a4 : Option Addr} {c4 : Nat} (hs2 : Sl (Rp.int .i64) S w a2 c2 x.Next) (hs3 : Sl Gate.rp S w a3 c3 x.Gates) (hs4 : Sl (Rp.int .i64) S w a4 c4 x.Outs) : Circuit.rp.rel S w [.int .i64 x.Inputs, .int .i64 x.Latches, .slice a2 x.Next.length c2, .slice a3 x.Gates.length c3, .slice a4 x.Outs.length c4] x :=
  ⟨_, _, rfl, rfl, ⟨_, _, rfl, rfl, ⟨_, _, rfl, ⟨a2, c2, rfl, hs2⟩, ⟨_, _, rfl, ⟨a3, c3, rfl, hs3⟩, ⟨a4, c4, rfl, hs4⟩⟩⟩⟩⟩

def Circuit.ep44 : Ep Circuit := Ep.iso (Ep.pair (Ep.int .i64) (Ep.pair (Ep.int .i64) (Ep.pair (Ep.own (Ep.int .i64) 2) (Ep.pair (Ep.own Gate.ep161 161) (Ep.own (Ep.int .i64) 2))))) (fun x => (x.Inputs, x.Latches, x.Next, x.Gates, x.Outs))
theorem Circuit.no44 : Circuit.ep44.No := no_iso _ (no_pair (no_int _) (no_pair (no_int _) (no_pair (no_own (no_int _) _) (no_pair (no_own Gate.no161 _) (no_own (no_int _) _)))))

structure Arena where
  Owner : (List Int)
  Next : (List (List Int))

def Arena.rp : Rp Arena := Rp.iso (Rp.pair (Rp.sl (Rp.int .i64)) (Rp.sl (Rp.sl (Rp.int .i64)))) (fun x => (x.Owner, x.Next))
theorem Arena.un {S : Nat → Prop} {w : World} {cs : List Value} {x : Arena} (h : Arena.rp.rel S w cs x) : ∃ a0 c0, ∃ a1 c1, cs = [.slice a0 x.Owner.length c0, .slice a1 x.Next.length c1] ∧ Sl (Rp.int .i64) S w a0 c0 x.Owner ∧ Sl (Rp.sl (Rp.int .i64)) S w a1 c1 x.Next := by
  obtain ⟨_, _, rfl, ⟨a0, c0, rfl, hs0⟩, ⟨a1, c1, rfl, hs1⟩⟩ := h
  exact ⟨a0, c0, a1, c1, rfl, hs0, hs1⟩
theorem Arena.mk_rel {S : Nat → Prop} {w : World} {x : Arena} {a0 : Option Addr} {c0 : Nat} {a1 : Option Addr} {c1 : Nat} (hs0 : Sl (Rp.int .i64) S w a0 c0 x.Owner) (hs1 : Sl (Rp.sl (Rp.int .i64)) S w a1 c1 x.Next) : Arena.rp.rel S w [.slice a0 x.Owner.length c0, .slice a1 x.Next.length c1] x :=
  ⟨_, _, rfl, ⟨a0, c0, rfl, hs0⟩, ⟨a1, c1, rfl, hs1⟩⟩

def Arena.ep55 : Ep Arena := Ep.iso (Ep.pair (Ep.own (Ep.int .i64) 2) (Ep.own (Ep.own (Ep.int .i64) 2) 24)) (fun x => (x.Owner, x.Next))
theorem Arena.no55 : Arena.ep55.No := no_iso _ (no_pair (no_own (no_int _) _) (no_own (no_own (no_int _) _) _))

structure Parity where
  Arena : Arena
  Prio : (List Int)

def Parity.rp : Rp Parity := Rp.iso (Rp.pair Arena.rp (Rp.sl (Rp.int .i64))) (fun x => (x.Arena, x.Prio))
theorem Parity.un {S : Nat → Prop} {w : World} {cs : List Value} {x : Parity} (h : Parity.rp.rel S w cs x) : ∃ a0 c0, ∃ a1 c1, ∃ a2 c2, cs = [.slice a0 x.Arena.Owner.length c0, .slice a1 x.Arena.Next.length c1, .slice a2 x.Prio.length c2] ∧ Sl (Rp.int .i64) S w a0 c0 x.Arena.Owner ∧ Sl (Rp.sl (Rp.int .i64)) S w a1 c1 x.Arena.Next ∧ Sl (Rp.int .i64) S w a2 c2 x.Prio := by
  obtain ⟨_, _, rfl, ⟨_, _, rfl, ⟨a0, c0, rfl, hs0⟩, ⟨a1, c1, rfl, hs1⟩⟩, ⟨a2, c2, rfl, hs2⟩⟩ := h
  exact ⟨a0, c0, a1, c1, a2, c2, rfl, hs0, hs1, hs2⟩
theorem Parity.mk_rel {S : Nat → Prop} {w : World} {x : Parity} {a0 : Option Addr} {c0 : Nat} {a1 : Option Addr} {c1 : Nat} {a2 : Option Addr} {c2 : Nat} (hs0 : Sl (Rp.int .i64) S w a0 c0 x.Arena.Owner) (hs1 : Sl (Rp.sl (Rp.int .i64)) S w a1 c1 x.Arena.Next) (hs2 : Sl (Rp.int .i64) S w a2 c2 x.Prio) : Parity.rp.rel S w [.slice a0 x.Arena.Owner.length c0, .slice a1 x.Arena.Next.length c1, .slice a2 x.Prio.length c2] x :=
  ⟨_, _, rfl, ⟨_, _, rfl, ⟨a0, c0, rfl, hs0⟩, ⟨a1, c1, rfl, hs1⟩⟩, ⟨a2, c2, rfl, hs2⟩⟩

def Parity.ep57 : Ep Parity := Ep.iso (Ep.pair Arena.ep55 (Ep.own (Ep.int .i64) 2)) (fun x => (x.Arena, x.Prio))
theorem Parity.no57 : Parity.ep57.No := no_iso _ (no_pair Arena.no55 (no_own (no_int _) _))

structure Edit where
  Kind : Int
  V : Int
  N : Int

def Edit.rp : Rp Edit := Rp.iso (Rp.pair (Rp.int .i64) (Rp.pair (Rp.int .i64) (Rp.int .i64))) (fun x => (x.Kind, x.V, x.N))
theorem Edit.un {S : Nat → Prop} {w : World} {cs : List Value} {x : Edit} (h : Edit.rp.rel S w cs x) : cs = [.int .i64 x.Kind, .int .i64 x.V, .int .i64 x.N] := by
  obtain ⟨_, _, rfl, rfl, ⟨_, _, rfl, rfl, rfl⟩⟩ := h
  exact rfl
theorem Edit.mk_rel {S : Nat → Prop} {w : World} {x : Edit} : Edit.rp.rel S w [.int .i64 x.Kind, .int .i64 x.V, .int .i64 x.N] x :=
  ⟨_, _, rfl, rfl, ⟨_, _, rfl, rfl, rfl⟩⟩

def Edit.ep59 : Ep Edit := Ep.iso (Ep.pair (Ep.int .i64) (Ep.pair (Ep.int .i64) (Ep.int .i64))) (fun x => (x.Kind, x.V, x.N))
theorem Edit.pu59 : Edit.ep59.Pu := pu_iso _ (pu_pair (pu_int _) (pu_pair (pu_int _) (pu_int _)))
theorem Edit.no59 : Edit.ep59.No := no_iso _ (no_pair (no_int _) (no_pair (no_int _) (no_int _)))

structure Machine where
  Next : (List (List Int))
  Out : (List (List Int))

def Machine.rp : Rp Machine := Rp.iso (Rp.pair (Rp.sl (Rp.sl (Rp.int .i64))) (Rp.sl (Rp.sl (Rp.int .i64)))) (fun x => (x.Next, x.Out))
theorem Machine.un {S : Nat → Prop} {w : World} {cs : List Value} {x : Machine} (h : Machine.rp.rel S w cs x) : ∃ a0 c0, ∃ a1 c1, cs = [.slice a0 x.Next.length c0, .slice a1 x.Out.length c1] ∧ Sl (Rp.sl (Rp.int .i64)) S w a0 c0 x.Next ∧ Sl (Rp.sl (Rp.int .i64)) S w a1 c1 x.Out := by
  obtain ⟨_, _, rfl, ⟨a0, c0, rfl, hs0⟩, ⟨a1, c1, rfl, hs1⟩⟩ := h
  exact ⟨a0, c0, a1, c1, rfl, hs0, hs1⟩
theorem Machine.mk_rel {S : Nat → Prop} {w : World} {x : Machine} {a0 : Option Addr} {c0 : Nat} {a1 : Option Addr} {c1 : Nat} (hs0 : Sl (Rp.sl (Rp.int .i64)) S w a0 c0 x.Next) (hs1 : Sl (Rp.sl (Rp.int .i64)) S w a1 c1 x.Out) : Machine.rp.rel S w [.slice a0 x.Next.length c0, .slice a1 x.Out.length c1] x :=
  ⟨_, _, rfl, ⟨a0, c0, rfl, hs0⟩, ⟨a1, c1, rfl, hs1⟩⟩

def Machine.ep77 : Ep Machine := Ep.iso (Ep.pair (Ep.own (Ep.own (Ep.int .i64) 2) 24) (Ep.own (Ep.own (Ep.int .i64) 2) 24)) (fun x => (x.Next, x.Out))
theorem Machine.no77 : Machine.ep77.No := no_iso _ (no_pair (no_own (no_own (no_int _) _) _) (no_own (no_own (no_int _) _) _))

structure Word where
  Stem : (List Int)
  Loop : (List Int)

def Word.rp : Rp Word := Rp.iso (Rp.pair (Rp.sl (Rp.int .i64)) (Rp.sl (Rp.int .i64))) (fun x => (x.Stem, x.Loop))
theorem Word.un {S : Nat → Prop} {w : World} {cs : List Value} {x : Word} (h : Word.rp.rel S w cs x) : ∃ a0 c0, ∃ a1 c1, cs = [.slice a0 x.Stem.length c0, .slice a1 x.Loop.length c1] ∧ Sl (Rp.int .i64) S w a0 c0 x.Stem ∧ Sl (Rp.int .i64) S w a1 c1 x.Loop := by
  obtain ⟨_, _, rfl, ⟨a0, c0, rfl, hs0⟩, ⟨a1, c1, rfl, hs1⟩⟩ := h
  exact ⟨a0, c0, a1, c1, rfl, hs0, hs1⟩
theorem Word.mk_rel {S : Nat → Prop} {w : World} {x : Word} {a0 : Option Addr} {c0 : Nat} {a1 : Option Addr} {c1 : Nat} (hs0 : Sl (Rp.int .i64) S w a0 c0 x.Stem) (hs1 : Sl (Rp.int .i64) S w a1 c1 x.Loop) : Word.rp.rel S w [.slice a0 x.Stem.length c0, .slice a1 x.Loop.length c1] x :=
  ⟨_, _, rfl, ⟨a0, c0, rfl, hs0⟩, ⟨a1, c1, rfl, hs1⟩⟩

def Word.ep79 : Ep Word := Ep.iso (Ep.pair (Ep.own (Ep.int .i64) 2) (Ep.own (Ep.int .i64) 2)) (fun x => (x.Stem, x.Loop))
theorem Word.no79 : Word.ep79.No := no_iso _ (no_pair (no_own (no_int _) _) (no_own (no_int _) _))

def Sig.ep30 : Ep Sig := Ep.iso (Ep.pair (Ep.int .i64) (Ep.int .i64)) (fun x => (x.In, x.Out))
theorem Sig.pu30 : Sig.ep30.Pu := pu_iso _ (pu_pair (pu_int _) (pu_int _))
theorem Sig.no30 : Sig.ep30.No := no_iso _ (no_pair (no_int _) (no_int _))

def Rival.ep32 : Ep Rival := Ep.iso (Ep.pair (Ep.own (Ep.int .i64) 2) (Ep.own (Ep.own (Ep.int .i64) 2) 24)) (fun x => (x.In, x.Next))
theorem Rival.no32 : Rival.ep32.No := no_iso _ (no_pair (no_own (no_int _) _) (no_own (no_own (no_int _) _) _))

def Gate.ep155 : Ep Gate := Ep.iso (Ep.pair (Ep.int .i64) (Ep.int .i64)) (fun x => (x.A, x.B))
theorem Gate.pu155 : Gate.ep155.Pu := pu_iso _ (pu_pair (pu_int _) (pu_int _))
theorem Gate.no155 : Gate.ep155.No := no_iso _ (no_pair (no_int _) (no_int _))

def Circuit.ep50 : Ep Circuit := Ep.iso (Ep.pair (Ep.int .i64) (Ep.pair (Ep.int .i64) (Ep.pair (Ep.own (Ep.int .i64) 2) (Ep.pair (Ep.own Gate.ep155 155) (Ep.own (Ep.int .i64) 2))))) (fun x => (x.Inputs, x.Latches, x.Next, x.Gates, x.Outs))
theorem Circuit.no50 : Circuit.ep50.No := no_iso _ (no_pair (no_int _) (no_pair (no_int _) (no_pair (no_own (no_int _) _) (no_pair (no_own Gate.no155 _) (no_own (no_int _) _)))))

def Arena.ep62 : Ep Arena := Ep.iso (Ep.pair (Ep.own (Ep.int .i64) 2) (Ep.own (Ep.own (Ep.int .i64) 2) 24)) (fun x => (x.Owner, x.Next))
theorem Arena.no62 : Arena.ep62.No := no_iso _ (no_pair (no_own (no_int _) _) (no_own (no_own (no_int _) _) _))

def Parity.ep64 : Ep Parity := Ep.iso (Ep.pair Arena.ep62 (Ep.own (Ep.int .i64) 2)) (fun x => (x.Arena, x.Prio))
theorem Parity.no64 : Parity.ep64.No := no_iso _ (no_pair Arena.no62 (no_own (no_int _) _))

def Edit.ep66 : Ep Edit := Ep.iso (Ep.pair (Ep.int .i64) (Ep.pair (Ep.int .i64) (Ep.int .i64))) (fun x => (x.Kind, x.V, x.N))
theorem Edit.pu66 : Edit.ep66.Pu := pu_iso _ (pu_pair (pu_int _) (pu_pair (pu_int _) (pu_int _)))
theorem Edit.no66 : Edit.ep66.No := no_iso _ (no_pair (no_int _) (no_pair (no_int _) (no_int _)))

def Machine.ep84 : Ep Machine := Ep.iso (Ep.pair (Ep.own (Ep.own (Ep.int .i64) 2) 24) (Ep.own (Ep.own (Ep.int .i64) 2) 24)) (fun x => (x.Next, x.Out))
theorem Machine.no84 : Machine.ep84.No := no_iso _ (no_pair (no_own (no_own (no_int _) _) _) (no_own (no_own (no_int _) _) _))

def Word.ep82 : Ep Word := Ep.iso (Ep.pair (Ep.own (Ep.int .i64) 2) (Ep.own (Ep.int .i64) 2)) (fun x => (x.Stem, x.Loop))
theorem Word.no82 : Word.ep82.No := no_iso _ (no_pair (no_own (no_int _) _) (no_own (no_int _) _))

structure boundsError where
  x : Int
  y : Int
  signed : Bool
  code : Int

def boundsError.rp : Rp boundsError := Rp.iso (Rp.pair (Rp.int .i64) (Rp.pair (Rp.int .i64) (Rp.pair Rp.bool (Rp.int .u8)))) (fun x => (x.x, x.y, x.signed, x.code))
theorem boundsError.un {S : Nat → Prop} {w : World} {cs : List Value} {x : boundsError} (h : boundsError.rp.rel S w cs x) : cs = [.int .i64 x.x, .int .i64 x.y, .bool x.signed, .int .u8 x.code] := by
  obtain ⟨_, _, rfl, rfl, ⟨_, _, rfl, rfl, ⟨_, _, rfl, rfl, rfl⟩⟩⟩ := h
  exact rfl
theorem boundsError.mk_rel {S : Nat → Prop} {w : World} {x : boundsError} : boundsError.rp.rel S w [.int .i64 x.x, .int .i64 x.y, .bool x.signed, .int .u8 x.code] x :=
  ⟨_, _, rfl, rfl, ⟨_, _, rfl, rfl, ⟨_, _, rfl, rfl, rfl⟩⟩⟩

def boundsError.ep8 : Ep boundsError := Ep.iso (Ep.pair (Ep.int .i64) (Ep.pair (Ep.int .i64) (Ep.pair Ep.bool (Ep.int .u8)))) (fun x => (x.x, x.y, x.signed, x.code))
theorem boundsError.pu8 : boundsError.ep8.Pu := pu_iso _ (pu_pair (pu_int _) (pu_pair (pu_int _) (pu_pair pu_bool (pu_int _))))
theorem boundsError.no8 : boundsError.ep8.No := no_iso _ (no_pair (no_int _) (no_pair (no_int _) (no_pair no_bool (no_int _))))

structure errorAddressString where
  msg : ByteArray
  addr : Int

def errorAddressString.rp : Rp errorAddressString := Rp.iso (Rp.pair Rp.str (Rp.int .u64)) (fun x => (x.msg, x.addr))
theorem errorAddressString.un {S : Nat → Prop} {w : World} {cs : List Value} {x : errorAddressString} (h : errorAddressString.rp.rel S w cs x) : cs = [.string x.msg, .int .u64 x.addr] := by
  obtain ⟨_, _, rfl, rfl, rfl⟩ := h
  exact rfl
theorem errorAddressString.mk_rel {S : Nat → Prop} {w : World} {x : errorAddressString} : errorAddressString.rp.rel S w [.string x.msg, .int .u64 x.addr] x :=
  ⟨_, _, rfl, rfl, rfl⟩

def errorAddressString.ep14 : Ep errorAddressString := Ep.iso (Ep.pair Ep.str (Ep.int .u64)) (fun x => (x.msg, x.addr))
theorem errorAddressString.pu14 : errorAddressString.ep14.Pu := pu_iso _ (pu_pair pu_str (pu_int _))
theorem errorAddressString.no14 : errorAddressString.ep14.No := no_iso _ (no_pair no_str (no_int _))

structure builder where
  c : Circuit
  full : Bool
  known : (List (Gate × Int))

instance : DecidableEq Gate := fun a b => match a, b with
  | ⟨a0, a1⟩, ⟨b0, b1⟩ => decidable_of_iff (a0 = b0 ∧ a1 = b1) (by simp)
def kvGate : Gate → Value := fun k => .agg #[.int .i64 k.A, .int .i64 k.B]
def kwGate : Gate → Bool := fun k => wf2 k.A k.B
theorem keyEGate : KeyE Try.prog 155 kvGate kwGate := ⟨deep_law (m := 2) (by omega) (by kernel_rfl) (by kernel_rfl) (by kernel_rfl), fun k h => keyS2 Try.underlying155 (by kernel_rfl) (m := 186) (by kernel_rfl) (by kernel_rfl) rfl rfl (by kernel_rfl) (by kernel_rfl) Try.underlying2 Try.underlying2 rfl rfl h, fun k k' h => by
  cases k; cases k'
  simp only [kvGate, Value.agg.injEq, Array.mk.injEq, List.cons.injEq, Value.int.injEq, true_and, and_true] at h
  obtain ⟨h1, h2⟩ := h
  subst h1 h2
  rfl⟩
def kvI2 : (Int × Int) → Value := fun k => .agg #[.int .i64 k.1, .int .i64 k.2]
def kwI2 : (Int × Int) → Bool := fun k => wf2 k.1 k.2
theorem keyEI2 : KeyE Try.prog 147 kvI2 kwI2 := ⟨deep_law (m := 2) (by omega) (by kernel_rfl) (by kernel_rfl) (by kernel_rfl), fun k h => keyA2 Try.underlying147 (by kernel_rfl) (m := 186) (by kernel_rfl) (by kernel_rfl) (by kernel_rfl) Try.underlying2 h, fun k k' h => by
  cases k; cases k'
  simp only [kvI2, Value.agg.injEq, Array.mk.injEq, List.cons.injEq, Value.int.injEq, true_and, and_true] at h
  obtain ⟨h1, h2⟩ := h
  subst h1 h2
  rfl⟩
theorem Tryinfo2 : Try.prog.info? 2 = some Try.t2 := by kernel_rfl
theorem Tryinfo3 : Try.prog.info? 3 = some Try.t3 := by kernel_rfl
theorem Tryinfo4 : Try.prog.info? 4 = some Try.t4 := by kernel_rfl
theorem Tryinfo24 : Try.prog.info? 24 = some Try.t24 := by kernel_rfl
theorem Tryinfo155 : Try.prog.info? 155 = some Try.t155 := by kernel_rfl
theorem Tryinfo161 : Try.prog.info? 161 = some Try.t161 := by kernel_rfl
end Go.Proofs.Ytgniipbjjkodaaa
