/- The structs of the program as data. -/
import Derived.Test.YtnpmbkaoeihdmaaDoorMap
import Derived.Test.YtnpmbkaoeihdmaaDoorTwo
import Derived.Test.YtnpmbkaoeihdmaaDoorText
import Derived.Test.YtnpmbkaoeihdmaaDoorProg
set_option linter.unusedVariables false
set_option linter.unusedSimpArgs false
namespace Go.Proofs.YtnpmbkaoeihdmaaDoor
open Go Go.Wk Go.Proofs

def namesE0 : List ByteArray := [ByteArray.mk #[112, 114, 105, 111], ByteArray.mk #[111, 119, 110, 101, 114], ByteArray.mk #[97, 100, 100], ByteArray.mk #[99, 117, 116]]
structure Edit where
  Kind : Int
  V : Int
  N : Int

def Edit.rp : Rp Edit := Rp.iso (Rp.pair (Rp.int .i64) (Rp.pair (Rp.int .i64) (Rp.int .i64))) (fun x => (x.Kind, x.V, x.N))
theorem Edit.un {S : Nat → Prop} {w : World} {cs : List Value} {x : Edit} (h : Edit.rp.rel S w cs x) : cs = [.int .i64 x.Kind, .int .i64 x.V, .int .i64 x.N] := by
  obtain ⟨_, _, rfl, rfl, ⟨_, _, rfl, rfl, rfl⟩⟩ := h
  exact rfl
theorem Edit.mk_rel {S : Nat → Prop} {w : World} {x : Edit} : Edit.rp.rel S w [.int .i64 x.Kind, .int .i64 x.V, .int .i64 x.N] x :=
  ⟨_, _, rfl, rfl, ⟨_, _, rfl, rfl, rfl⟩⟩

def Edit.ep30 : Ep Edit := Ep.iso (Ep.pair (Ep.int .i64) (Ep.pair (Ep.int .i64) (Ep.int .i64))) (fun x => (x.Kind, x.V, x.N))
theorem Edit.pu30 : Edit.ep30.Pu := pu_iso _ (pu_pair (pu_int _) (pu_pair (pu_int _) (pu_int _)))
theorem Edit.no30 : Edit.ep30.No := no_iso _ (no_pair (no_int _) (no_pair (no_int _) (no_int _)))

structure Sig where
  In : Int
  Out : Int

def Sig.rp : Rp Sig := Rp.iso (Rp.pair (Rp.int .i64) (Rp.int .i64)) (fun x => (x.In, x.Out))
theorem Sig.un {S : Nat → Prop} {w : World} {cs : List Value} {x : Sig} (h : Sig.rp.rel S w cs x) : cs = [.int .i64 x.In, .int .i64 x.Out] := by
  obtain ⟨_, _, rfl, rfl, rfl⟩ := h
  exact rfl
theorem Sig.mk_rel {S : Nat → Prop} {w : World} {x : Sig} : Sig.rp.rel S w [.int .i64 x.In, .int .i64 x.Out] x :=
  ⟨_, _, rfl, rfl, rfl⟩

def Sig.ep34 : Ep Sig := Ep.iso (Ep.pair (Ep.int .i64) (Ep.int .i64)) (fun x => (x.In, x.Out))
theorem Sig.pu34 : Sig.ep34.Pu := pu_iso _ (pu_pair (pu_int _) (pu_int _))
theorem Sig.no34 : Sig.ep34.No := no_iso _ (no_pair (no_int _) (no_int _))

structure Machine where
  Next : (List (List Int))
  Out : (List (List Int))

def Machine.rp : Rp Machine := Rp.iso (Rp.pair (Rp.sl (Rp.sl (Rp.int .i64))) (Rp.sl (Rp.sl (Rp.int .i64)))) (fun x => (x.Next, x.Out))
theorem Machine.un {S : Nat → Prop} {w : World} {cs : List Value} {x : Machine} (h : Machine.rp.rel S w cs x) : ∃ a0 c0, ∃ a1 c1, cs = [.slice a0 x.Next.length c0, .slice a1 x.Out.length c1] ∧ Sl (Rp.sl (Rp.int .i64)) S w a0 c0 x.Next ∧ Sl (Rp.sl (Rp.int .i64)) S w a1 c1 x.Out := by
  obtain ⟨_, _, rfl, ⟨a0, c0, rfl, hs0⟩, ⟨a1, c1, rfl, hs1⟩⟩ := h
  exact ⟨a0, c0, a1, c1, rfl, hs0, hs1⟩
theorem Machine.mk_rel {S : Nat → Prop} {w : World} {x : Machine} {a0 : Option Addr} {c0 : Nat} {a1 : Option Addr} {c1 : Nat} (hs0 : Sl (Rp.sl (Rp.int .i64)) S w a0 c0 x.Next) (hs1 : Sl (Rp.sl (Rp.int .i64)) S w a1 c1 x.Out) : Machine.rp.rel S w [.slice a0 x.Next.length c0, .slice a1 x.Out.length c1] x :=
  ⟨_, _, rfl, ⟨a0, c0, rfl, hs0⟩, ⟨a1, c1, rfl, hs1⟩⟩

def Machine.ep37 : Ep Machine := Ep.iso (Ep.pair (Ep.own (Ep.own (Ep.int .i64) 2) 60) (Ep.own (Ep.own (Ep.int .i64) 2) 60)) (fun x => (x.Next, x.Out))
theorem Machine.no37 : Machine.ep37.No := no_iso _ (no_pair (no_own (no_own (no_int _) _) _) (no_own (no_own (no_int _) _) _))

def Edit.ep25 : Ep Edit := Ep.iso (Ep.pair (Ep.int .i64) (Ep.pair (Ep.int .i64) (Ep.int .i64))) (fun x => (x.Kind, x.V, x.N))
theorem Edit.pu25 : Edit.ep25.Pu := pu_iso _ (pu_pair (pu_int _) (pu_pair (pu_int _) (pu_int _)))
theorem Edit.no25 : Edit.ep25.No := no_iso _ (no_pair (no_int _) (no_pair (no_int _) (no_int _)))

def Sig.ep40 : Ep Sig := Ep.iso (Ep.pair (Ep.int .i64) (Ep.int .i64)) (fun x => (x.In, x.Out))
theorem Sig.pu40 : Sig.ep40.Pu := pu_iso _ (pu_pair (pu_int _) (pu_int _))
theorem Sig.no40 : Sig.ep40.No := no_iso _ (no_pair (no_int _) (no_int _))

def Machine.ep42 : Ep Machine := Ep.iso (Ep.pair (Ep.own (Ep.own (Ep.int .i64) 2) 60) (Ep.own (Ep.own (Ep.int .i64) 2) 60)) (fun x => (x.Next, x.Out))
theorem Machine.no42 : Machine.ep42.No := no_iso _ (no_pair (no_own (no_own (no_int _) _) _) (no_own (no_own (no_int _) _) _))

structure Arena where
  Owner : (List Int)
  Next : (List (List Int))

def Arena.rp : Rp Arena := Rp.iso (Rp.pair (Rp.sl (Rp.int .i64)) (Rp.sl (Rp.sl (Rp.int .i64)))) (fun x => (x.Owner, x.Next))
theorem Arena.un {S : Nat → Prop} {w : World} {cs : List Value} {x : Arena} (h : Arena.rp.rel S w cs x) : ∃ a0 c0, ∃ a1 c1, cs = [.slice a0 x.Owner.length c0, .slice a1 x.Next.length c1] ∧ Sl (Rp.int .i64) S w a0 c0 x.Owner ∧ Sl (Rp.sl (Rp.int .i64)) S w a1 c1 x.Next := by
  obtain ⟨_, _, rfl, ⟨a0, c0, rfl, hs0⟩, ⟨a1, c1, rfl, hs1⟩⟩ := h
  exact ⟨a0, c0, a1, c1, rfl, hs0, hs1⟩
theorem Arena.mk_rel {S : Nat → Prop} {w : World} {x : Arena} {a0 : Option Addr} {c0 : Nat} {a1 : Option Addr} {c1 : Nat} (hs0 : Sl (Rp.int .i64) S w a0 c0 x.Owner) (hs1 : Sl (Rp.sl (Rp.int .i64)) S w a1 c1 x.Next) : Arena.rp.rel S w [.slice a0 x.Owner.length c0, .slice a1 x.Next.length c1] x :=
  ⟨_, _, rfl, ⟨a0, c0, rfl, hs0⟩, ⟨a1, c1, rfl, hs1⟩⟩

def Arena.ep64 : Ep Arena := Ep.iso (Ep.pair (Ep.own (Ep.int .i64) 2) (Ep.own (Ep.own (Ep.int .i64) 2) 60)) (fun x => (x.Owner, x.Next))
theorem Arena.no64 : Arena.ep64.No := no_iso _ (no_pair (no_own (no_int _) _) (no_own (no_own (no_int _) _) _))

structure Parity where
  Arena : Arena
  Prio : (List Int)

def Parity.rp : Rp Parity := Rp.iso (Rp.pair Arena.rp (Rp.sl (Rp.int .i64))) (fun x => (x.Arena, x.Prio))
theorem Parity.un {S : Nat → Prop} {w : World} {cs : List Value} {x : Parity} (h : Parity.rp.rel S w cs x) : ∃ a0 c0, ∃ a1 c1, ∃ a2 c2, cs = [.slice a0 x.Arena.Owner.length c0, .slice a1 x.Arena.Next.length c1, .slice a2 x.Prio.length c2] ∧ Sl (Rp.int .i64) S w a0 c0 x.Arena.Owner ∧ Sl (Rp.sl (Rp.int .i64)) S w a1 c1 x.Arena.Next ∧ Sl (Rp.int .i64) S w a2 c2 x.Prio := by
  obtain ⟨_, _, rfl, ⟨_, _, rfl, ⟨a0, c0, rfl, hs0⟩, ⟨a1, c1, rfl, hs1⟩⟩, ⟨a2, c2, rfl, hs2⟩⟩ := h
  exact ⟨a0, c0, a1, c1, a2, c2, rfl, hs0, hs1, hs2⟩
theorem Parity.mk_rel {S : Nat → Prop} {w : World} {x : Parity} {a0 : Option Addr} {c0 : Nat} {a1 : Option Addr} {c1 : Nat} {a2 : Option Addr} {c2 : Nat} (hs0 : Sl (Rp.int .i64) S w a0 c0 x.Arena.Owner) (hs1 : Sl (Rp.sl (Rp.int .i64)) S w a1 c1 x.Arena.Next) (hs2 : Sl (Rp.int .i64) S w a2 c2 x.Prio) : Parity.rp.rel S w [.slice a0 x.Arena.Owner.length c0, .slice a1 x.Arena.Next.length c1, .slice a2 x.Prio.length c2] x :=
  ⟨_, _, rfl, ⟨_, _, rfl, ⟨a0, c0, rfl, hs0⟩, ⟨a1, c1, rfl, hs1⟩⟩, ⟨a2, c2, rfl, hs2⟩⟩

def Parity.ep66 : Ep Parity := Ep.iso (Ep.pair Arena.ep64 (Ep.own (Ep.int .i64) 2)) (fun x => (x.Arena, x.Prio))
theorem Parity.no66 : Parity.ep66.No := no_iso _ (no_pair Arena.no64 (no_own (no_int _) _))

structure boundsError where
  x : Int
  y : Int
  signed : Bool
  code : Int

def boundsError.rp : Rp boundsError := Rp.iso (Rp.pair (Rp.int .i64) (Rp.pair (Rp.int .i64) (Rp.pair Rp.bool (Rp.int .u8)))) (fun x => (x.x, x.y, x.signed, x.code))
theorem boundsError.un {S : Nat → Prop} {w : World} {cs : List Value} {x : boundsError} (h : boundsError.rp.rel S w cs x) : cs = [.int .i64 x.x, .int .i64 x.y, .bool x.signed, .int .u8 x.code] := by
  obtain ⟨_, _, rfl, rfl, ⟨_, _, rfl, rfl, ⟨_, _, rfl, rfl, rfl⟩⟩⟩ := h
  exact rfl
theorem boundsError.mk_rel {S : Nat → Prop} {w : World} {x : boundsError} : boundsError.rp.rel S w [.int .i64 x.x, .int .i64 x.y, .bool x.signed, .int .u8 x.code] x :=
  ⟨_, _, rfl, rfl, ⟨_, _, rfl, rfl, ⟨_, _, rfl, rfl, rfl⟩⟩⟩

def boundsError.ep8 : Ep boundsError := Ep.iso (Ep.pair (Ep.int .i64) (Ep.pair (Ep.int .i64) (Ep.pair Ep.bool (Ep.int .u8)))) (fun x => (x.x, x.y, x.signed, x.code))
theorem boundsError.pu8 : boundsError.ep8.Pu := pu_iso _ (pu_pair (pu_int _) (pu_pair (pu_int _) (pu_pair pu_bool (pu_int _))))
theorem boundsError.no8 : boundsError.ep8.No := no_iso _ (no_pair (no_int _) (no_pair (no_int _) (no_pair no_bool (no_int _))))

structure errorAddressString where
  msg : ByteArray
  addr : Int

def errorAddressString.rp : Rp errorAddressString := Rp.iso (Rp.pair Rp.str (Rp.int .u64)) (fun x => (x.msg, x.addr))
theorem errorAddressString.un {S : Nat → Prop} {w : World} {cs : List Value} {x : errorAddressString} (h : errorAddressString.rp.rel S w cs x) : cs = [.string x.msg, .int .u64 x.addr] := by
  obtain ⟨_, _, rfl, rfl, rfl⟩ := h
  exact rfl
theorem errorAddressString.mk_rel {S : Nat → Prop} {w : World} {x : errorAddressString} : errorAddressString.rp.rel S w [.string x.msg, .int .u64 x.addr] x :=
  ⟨_, _, rfl, rfl, rfl⟩

def errorAddressString.ep14 : Ep errorAddressString := Ep.iso (Ep.pair Ep.str (Ep.int .u64)) (fun x => (x.msg, x.addr))
theorem errorAddressString.pu14 : errorAddressString.ep14.Pu := pu_iso _ (pu_pair pu_str (pu_int _))
theorem errorAddressString.no14 : errorAddressString.ep14.No := no_iso _ (no_pair no_str (no_int _))

structure dice where
  b : (List Int)
  i : Int
  h : Int

def dice.rp : Rp dice := Rp.iso (Rp.pair (Rp.sl (Rp.int .u8)) (Rp.pair (Rp.int .i64) (Rp.int .u64))) (fun x => (x.b, x.i, x.h))
theorem dice.un {S : Nat → Prop} {w : World} {cs : List Value} {x : dice} (h : dice.rp.rel S w cs x) : ∃ a0 c0, cs = [.slice a0 x.b.length c0, .int .i64 x.i, .int .u64 x.h] ∧ Sl (Rp.int .u8) S w a0 c0 x.b := by
  obtain ⟨_, _, rfl, ⟨a0, c0, rfl, hs0⟩, ⟨_, _, rfl, rfl, rfl⟩⟩ := h
  exact ⟨a0, c0, rfl, hs0⟩
theorem dice.mk_rel {S : Nat → Prop} {w : World} {x : dice} {a0 : Option Addr} {c0 : Nat} (hs0 : Sl (Rp.int .u8) S w a0 c0 x.b) : dice.rp.rel S w [.slice a0 x.b.length c0, .int .i64 x.i, .int .u64 x.h] x :=
  ⟨_, _, rfl, ⟨a0, c0, rfl, hs0⟩, ⟨_, _, rfl, rfl, rfl⟩⟩

def dice.ep93 : Ep dice := Ep.iso (Ep.pair (Ep.own (Ep.int .u8) 5) (Ep.pair (Ep.int .i64) (Ep.int .u64))) (fun x => (x.b, x.i, x.h))
theorem dice.no93 : dice.ep93.No := no_iso _ (no_pair (no_own (no_int _) _) (no_pair (no_int _) (no_int _)))

structure l1Cur where
  b : (List Int)
  i : Int
  h : Int

def l1Cur.rp : Rp l1Cur := Rp.iso (Rp.pair (Rp.sl (Rp.int .u8)) (Rp.pair (Rp.int .i64) (Rp.int .i64))) (fun x => (x.b, x.i, x.h))
theorem l1Cur.un {S : Nat → Prop} {w : World} {cs : List Value} {x : l1Cur} (h : l1Cur.rp.rel S w cs x) : ∃ a0 c0, cs = [.slice a0 x.b.length c0, .int .i64 x.i, .int .i64 x.h] ∧ Sl (Rp.int .u8) S w a0 c0 x.b := by
  obtain ⟨_, _, rfl, ⟨a0, c0, rfl, hs0⟩, ⟨_, _, rfl, rfl, rfl⟩⟩ := h
  exact ⟨a0, c0, rfl, hs0⟩
theorem l1Cur.mk_rel {S : Nat → Prop} {w : World} {x : l1Cur} {a0 : Option Addr} {c0 : Nat} (hs0 : Sl (Rp.int .u8) S w a0 c0 x.b) : l1Cur.rp.rel S w [.slice a0 x.b.length c0, .int .i64 x.i, .int .i64 x.h] x :=
  ⟨_, _, rfl, ⟨a0, c0, rfl, hs0⟩, ⟨_, _, rfl, rfl, rfl⟩⟩

def l1Cur.ep96 : Ep l1Cur := Ep.iso (Ep.pair (Ep.own (Ep.int .u8) 5) (Ep.pair (Ep.int .i64) (Ep.int .i64))) (fun x => (x.b, x.i, x.h))
theorem l1Cur.no96 : l1Cur.ep96.No := no_iso _ (no_pair (no_own (no_int _) _) (no_pair (no_int _) (no_int _)))


theorem Trydinfo2 : Tryd.prog.info? 2 = some Tryd.t2 := by kernel_rfl
theorem Trydinfo5 : Tryd.prog.info? 5 = some Tryd.t5 := by kernel_rfl
theorem Trydinfo9 : Tryd.prog.info? 9 = some Tryd.t9 := by kernel_rfl
theorem Trydinfo60 : Tryd.prog.info? 60 = some Tryd.t60 := by kernel_rfl
end Go.Proofs.YtnpmbkaoeihdmaaDoor
