/- The structs of the program as data. -/
import Derived.Test.YtpcjbkgbnoocaaaGreatFbDU
import Derived.Test.YtpcjbkgbnoocaaaGreatProg
set_option linter.unusedVariables false
set_option linter.unusedSimpArgs false
namespace Go.Proofs.YtpcjbkgbnoocaaaGreat
open Go Go.Wk Go.Proofs
structure Sig where
 In:Int
 Out:Int
def Sig.rp:Rp Sig:=Rp.iso (Rp.pair (Rp.int .i64) (Rp.int .i64)) (λx=>(x.In,x.Out))
theorem Sig.un {S:Nat->Prop}{w:World}{cs:List Value}{x:Sig}(h:Sig.rp.rel S w cs x):cs=[.int .i64 x.In,.int .i64 x.Out]:=by
 obtain⟨_,_,rfl,rfl,rfl⟩:=h
 exact rfl
theorem Sig.mk_rel {S:Nat->Prop}{w:World}{x:Sig}:Sig.rp.rel S w [.int .i64 x.In,.int .i64 x.Out] x:=
 ⟨_,_,rfl,rfl,rfl⟩
structure Clause where
 Kind:Int
 A:(List Int)
 B:(List Int)
def Clause.rp:Rp Clause:=Rp.iso (Rp.pair (Rp.int .i64) (Rp.pair (Rp.sl (Rp.int .i64)) (Rp.sl (Rp.int .i64)))) (λx=>(x.Kind,x.A,x.B))
theorem Clause.un {S:Nat->Prop}{w:World}{cs:List Value}{x:Clause}(h:Clause.rp.rel S w cs x):∃a1 c1,∃a2 c2,cs=[.int .i64 x.Kind,.slice a1 x.A.length c1,.slice a2 x.B.length c2]/\Sl (Rp.int .i64) S w a1 c1 x.A/\Sl (Rp.int .i64) S w a2 c2 x.B:=by
 obtain⟨_,_,rfl,rfl,⟨_,_,rfl,⟨a1,c1,rfl,hs1⟩,⟨a2,c2,rfl,hs2⟩⟩⟩:=h
 exact⟨a1,c1,a2,c2,rfl,hs1,hs2⟩
theorem Clause.mk_rel {S:Nat->Prop}{w:World}{x:Clause}{a1:Option Addr}{c1:Nat}{a2:Option Addr}{c2:Nat}(hs1:Sl (Rp.int .i64) S w a1 c1 x.A) (hs2:Sl (Rp.int .i64) S w a2 c2 x.B):Clause.rp.rel S w [.int .i64 x.Kind,.slice a1 x.A.length c1,.slice a2 x.B.length c2] x:=
 ⟨_,_,rfl,rfl,⟨_,_,rfl,⟨a1,c1,rfl,hs1⟩,⟨a2,c2,rfl,hs2⟩⟩⟩
structure Machine where
 Next:(List (List Int))
 Out:(List (List Int))
def Machine.rp:Rp Machine:=Rp.iso (Rp.pair (Rp.sl (Rp.sl (Rp.int .i64))) (Rp.sl (Rp.sl (Rp.int .i64)))) (λx=>(x.Next,x.Out))
theorem Machine.un {S:Nat->Prop}{w:World}{cs:List Value}{x:Machine}(h:Machine.rp.rel S w cs x):∃a0 c0,∃a1 c1,cs=[.slice a0 x.Next.length c0,.slice a1 x.Out.length c1]/\Sl (Rp.sl (Rp.int .i64)) S w a0 c0 x.Next/\Sl (Rp.sl (Rp.int .i64)) S w a1 c1 x.Out:=by
 obtain⟨_,_,rfl,⟨a0,c0,rfl,hs0⟩,⟨a1,c1,rfl,hs1⟩⟩:=h
 exact⟨a0,c0,a1,c1,rfl,hs0,hs1⟩
theorem Machine.mk_rel {S:Nat->Prop}{w:World}{x:Machine}{a0:Option Addr}{c0:Nat}{a1:Option Addr}{c1:Nat}(hs0:Sl (Rp.sl (Rp.int .i64)) S w a0 c0 x.Next) (hs1:Sl (Rp.sl (Rp.int .i64)) S w a1 c1 x.Out):Machine.rp.rel S w [.slice a0 x.Next.length c0,.slice a1 x.Out.length c1] x:=
 ⟨_,_,rfl,⟨a0,c0,rfl,hs0⟩,⟨a1,c1,rfl,hs1⟩⟩
structure Rival where
 In:(List Int)
 Next:(List (List Int))
def Rival.rp:Rp Rival:=Rp.iso (Rp.pair (Rp.sl (Rp.int .i64)) (Rp.sl (Rp.sl (Rp.int .i64)))) (λx=>(x.In,x.Next))
theorem Rival.un {S:Nat->Prop}{w:World}{cs:List Value}{x:Rival}(h:Rival.rp.rel S w cs x):∃a0 c0,∃a1 c1,cs=[.slice a0 x.In.length c0,.slice a1 x.Next.length c1]/\Sl (Rp.int .i64) S w a0 c0 x.In/\Sl (Rp.sl (Rp.int .i64)) S w a1 c1 x.Next:=by
 obtain⟨_,_,rfl,⟨a0,c0,rfl,hs0⟩,⟨a1,c1,rfl,hs1⟩⟩:=h
 exact⟨a0,c0,a1,c1,rfl,hs0,hs1⟩
theorem Rival.mk_rel {S:Nat->Prop}{w:World}{x:Rival}{a0:Option Addr}{c0:Nat}{a1:Option Addr}{c1:Nat}(hs0:Sl (Rp.int .i64) S w a0 c0 x.In) (hs1:Sl (Rp.sl (Rp.int .i64)) S w a1 c1 x.Next):Rival.rp.rel S w [.slice a0 x.In.length c0,.slice a1 x.Next.length c1] x:=
 ⟨_,_,rfl,⟨a0,c0,rfl,hs0⟩,⟨a1,c1,rfl,hs1⟩⟩
structure Word where
 Stem:(List Int)
 Loop:(List Int)
def Word.rp:Rp Word:=Rp.iso (Rp.pair (Rp.sl (Rp.int .i64)) (Rp.sl (Rp.int .i64))) (λx=>(x.Stem,x.Loop))
theorem Word.un {S:Nat->Prop}{w:World}{cs:List Value}{x:Word}(h:Word.rp.rel S w cs x):∃a0 c0,∃a1 c1,cs=[.slice a0 x.Stem.length c0,.slice a1 x.Loop.length c1]/\Sl (Rp.int .i64) S w a0 c0 x.Stem/\Sl (Rp.int .i64) S w a1 c1 x.Loop:=by
 obtain⟨_,_,rfl,⟨a0,c0,rfl,hs0⟩,⟨a1,c1,rfl,hs1⟩⟩:=h
 exact⟨a0,c0,a1,c1,rfl,hs0,hs1⟩
theorem Word.mk_rel {S:Nat->Prop}{w:World}{x:Word}{a0:Option Addr}{c0:Nat}{a1:Option Addr}{c1:Nat}(hs0:Sl (Rp.int .i64) S w a0 c0 x.Stem) (hs1:Sl (Rp.int .i64) S w a1 c1 x.Loop):Word.rp.rel S w [.slice a0 x.Stem.length c0,.slice a1 x.Loop.length c1] x:=
 ⟨_,_,rfl,⟨a0,c0,rfl,hs0⟩,⟨a1,c1,rfl,hs1⟩⟩
def Clause.ep119:Ep Clause:=Ep.iso (Ep.pair (Ep.int .i64) (Ep.pair (Ep.own (Ep.int .i64) 2) (Ep.own (Ep.int .i64) 2))) (λx=>(x.Kind,x.A,x.B))
theorem Clause.no119:Clause.ep119.No:=vY _ (rS (bD _) (rS (cD (bD _) _) (cD (bD _) _)))
structure Pair where
 Ask:(List Int)
 Give:(List Int)
def Pair.rp:Rp Pair:=Rp.iso (Rp.pair (Rp.sl (Rp.int .i64)) (Rp.sl (Rp.int .i64))) (λx=>(x.Ask,x.Give))
theorem Pair.un {S:Nat->Prop}{w:World}{cs:List Value}{x:Pair}(h:Pair.rp.rel S w cs x):∃a0 c0,∃a1 c1,cs=[.slice a0 x.Ask.length c0,.slice a1 x.Give.length c1]/\Sl (Rp.int .i64) S w a0 c0 x.Ask/\Sl (Rp.int .i64) S w a1 c1 x.Give:=by
 obtain⟨_,_,rfl,⟨a0,c0,rfl,hs0⟩,⟨a1,c1,rfl,hs1⟩⟩:=h
 exact⟨a0,c0,a1,c1,rfl,hs0,hs1⟩
theorem Pair.mk_rel {S:Nat->Prop}{w:World}{x:Pair}{a0:Option Addr}{c0:Nat}{a1:Option Addr}{c1:Nat}(hs0:Sl (Rp.int .i64) S w a0 c0 x.Ask) (hs1:Sl (Rp.int .i64) S w a1 c1 x.Give):Pair.rp.rel S w [.slice a0 x.Ask.length c0,.slice a1 x.Give.length c1] x:=
 ⟨_,_,rfl,⟨a0,c0,rfl,hs0⟩,⟨a1,c1,rfl,hs1⟩⟩
def Pair.ep154:Ep Pair:=Ep.iso (Ep.pair (Ep.own (Ep.int .i64) 2) (Ep.own (Ep.int .i64) 2)) (λx=>(x.Ask,x.Give))
theorem Pair.no154:Pair.ep154.No:=vY _ (rS (cD (bD _) _) (cD (bD _) _))
structure Det where
 Next:(List (List Int))
 Pairs:(List Pair)
def Det.rp:Rp Det:=Rp.iso (Rp.pair (Rp.sl (Rp.sl (Rp.int .i64))) (Rp.sl Pair.rp)) (λx=>(x.Next,x.Pairs))
theorem Det.un {S:Nat->Prop}{w:World}{cs:List Value}{x:Det}(h:Det.rp.rel S w cs x):∃a0 c0,∃a1 c1,cs=[.slice a0 x.Next.length c0,.slice a1 x.Pairs.length c1]/\Sl (Rp.sl (Rp.int .i64)) S w a0 c0 x.Next/\Sl Pair.rp S w a1 c1 x.Pairs:=by
 obtain⟨_,_,rfl,⟨a0,c0,rfl,hs0⟩,⟨a1,c1,rfl,hs1⟩⟩:=h
 exact⟨a0,c0,a1,c1,rfl,hs0,hs1⟩
theorem Det.mk_rel {S:Nat->Prop}{w:World}{x:Det}{a0:Option Addr}{c0:Nat}{a1:Option Addr}{c1:Nat}(hs0:Sl (Rp.sl (Rp.int .i64)) S w a0 c0 x.Next) (hs1:Sl Pair.rp S w a1 c1 x.Pairs):Det.rp.rel S w [.slice a0 x.Next.length c0,.slice a1 x.Pairs.length c1] x:=
 ⟨_,_,rfl,⟨a0,c0,rfl,hs0⟩,⟨a1,c1,rfl,hs1⟩⟩
structure Arena where
 Owner:(List Int)
 Next:(List (List Int))
def Arena.rp:Rp Arena:=Rp.iso (Rp.pair (Rp.sl (Rp.int .i64)) (Rp.sl (Rp.sl (Rp.int .i64)))) (λx=>(x.Owner,x.Next))
theorem Arena.un {S:Nat->Prop}{w:World}{cs:List Value}{x:Arena}(h:Arena.rp.rel S w cs x):∃a0 c0,∃a1 c1,cs=[.slice a0 x.Owner.length c0,.slice a1 x.Next.length c1]/\Sl (Rp.int .i64) S w a0 c0 x.Owner/\Sl (Rp.sl (Rp.int .i64)) S w a1 c1 x.Next:=by
 obtain⟨_,_,rfl,⟨a0,c0,rfl,hs0⟩,⟨a1,c1,rfl,hs1⟩⟩:=h
 exact⟨a0,c0,a1,c1,rfl,hs0,hs1⟩
theorem Arena.mk_rel {S:Nat->Prop}{w:World}{x:Arena}{a0:Option Addr}{c0:Nat}{a1:Option Addr}{c1:Nat}(hs0:Sl (Rp.int .i64) S w a0 c0 x.Owner) (hs1:Sl (Rp.sl (Rp.int .i64)) S w a1 c1 x.Next):Arena.rp.rel S w [.slice a0 x.Owner.length c0,.slice a1 x.Next.length c1] x:=
 ⟨_,_,rfl,⟨a0,c0,rfl,hs0⟩,⟨a1,c1,rfl,hs1⟩⟩
structure Parity where
 Arena:Arena
 Prio:(List Int)
def Parity.rp:Rp Parity:=Rp.iso (Rp.pair Arena.rp (Rp.sl (Rp.int .i64))) (λx=>(x.Arena,x.Prio))
theorem Parity.un {S:Nat->Prop}{w:World}{cs:List Value}{x:Parity}(h:Parity.rp.rel S w cs x):∃a0 c0,∃a1 c1,∃a2 c2,cs=[.slice a0 x.Arena.Owner.length c0,.slice a1 x.Arena.Next.length c1,.slice a2 x.Prio.length c2]/\Sl (Rp.int .i64) S w a0 c0 x.Arena.Owner/\Sl (Rp.sl (Rp.int .i64)) S w a1 c1 x.Arena.Next/\Sl (Rp.int .i64) S w a2 c2 x.Prio:=by
 obtain⟨_,_,rfl,⟨_,_,rfl,⟨a0,c0,rfl,hs0⟩,⟨a1,c1,rfl,hs1⟩⟩,⟨a2,c2,rfl,hs2⟩⟩:=h
 exact⟨a0,c0,a1,c1,a2,c2,rfl,hs0,hs1,hs2⟩
theorem Parity.mk_rel {S:Nat->Prop}{w:World}{x:Parity}{a0:Option Addr}{c0:Nat}{a1:Option Addr}{c1:Nat}{a2:Option Addr}{c2:Nat}(hs0:Sl (Rp.int .i64) S w a0 c0 x.Arena.Owner) (hs1:Sl (Rp.sl (Rp.int .i64)) S w a1 c1 x.Arena.Next) (hs2:Sl (Rp.int .i64) S w a2 c2 x.Prio):Parity.rp.rel S w [.slice a0 x.Arena.Owner.length c0,.slice a1 x.Arena.Next.length c1,.slice a2 x.Prio.length c2] x:=
 ⟨_,_,rfl,⟨_,_,rfl,⟨a0,c0,rfl,hs0⟩,⟨a1,c1,rfl,hs1⟩⟩,⟨a2,c2,rfl,hs2⟩⟩
structure Place where
 At:Int
 Record:(List Int)
def Place.rp:Rp Place:=Rp.iso (Rp.pair (Rp.int .i64) (Rp.sl (Rp.int .i64))) (λx=>(x.At,x.Record))
theorem Place.un {S:Nat->Prop}{w:World}{cs:List Value}{x:Place}(h:Place.rp.rel S w cs x):∃a1 c1,cs=[.int .i64 x.At,.slice a1 x.Record.length c1]/\Sl (Rp.int .i64) S w a1 c1 x.Record:=by
 obtain⟨_,_,rfl,rfl,⟨a1,c1,rfl,hs1⟩⟩:=h
 exact⟨a1,c1,rfl,hs1⟩
theorem Place.mk_rel {S:Nat->Prop}{w:World}{x:Place}{a1:Option Addr}{c1:Nat}(hs1:Sl (Rp.int .i64) S w a1 c1 x.Record):Place.rp.rel S w [.int .i64 x.At,.slice a1 x.Record.length c1] x:=
 ⟨_,_,rfl,rfl,⟨a1,c1,rfl,hs1⟩⟩
structure Answer where
 Won:(List Int)
 Plan:(List Int)
def Answer.rp:Rp Answer:=Rp.iso (Rp.pair (Rp.sl (Rp.int .i64)) (Rp.sl (Rp.int .i64))) (λx=>(x.Won,x.Plan))
theorem Answer.un {S:Nat->Prop}{w:World}{cs:List Value}{x:Answer}(h:Answer.rp.rel S w cs x):∃a0 c0,∃a1 c1,cs=[.slice a0 x.Won.length c0,.slice a1 x.Plan.length c1]/\Sl (Rp.int .i64) S w a0 c0 x.Won/\Sl (Rp.int .i64) S w a1 c1 x.Plan:=by
 obtain⟨_,_,rfl,⟨a0,c0,rfl,hs0⟩,⟨a1,c1,rfl,hs1⟩⟩:=h
 exact⟨a0,c0,a1,c1,rfl,hs0,hs1⟩
theorem Answer.mk_rel {S:Nat->Prop}{w:World}{x:Answer}{a0:Option Addr}{c0:Nat}{a1:Option Addr}{c1:Nat}(hs0:Sl (Rp.int .i64) S w a0 c0 x.Won) (hs1:Sl (Rp.int .i64) S w a1 c1 x.Plan):Answer.rp.rel S w [.slice a0 x.Won.length c0,.slice a1 x.Plan.length c1] x:=
 ⟨_,_,rfl,⟨a0,c0,rfl,hs0⟩,⟨a1,c1,rfl,hs1⟩⟩
structure l7Game where
 owner:(List Int)
 prio:(List Int)
 next:(List (List Int))
 prev:(List (List Int))
 pick:(List Int)
def l7Game.rp:Rp l7Game:=Rp.iso (Rp.pair (Rp.sl (Rp.int .i64)) (Rp.pair (Rp.sl (Rp.int .i64)) (Rp.pair (Rp.sl (Rp.sl (Rp.int .i64))) (Rp.pair (Rp.sl (Rp.sl (Rp.int .i64))) (Rp.sl (Rp.int .i64)))))) (λx=>(x.owner,x.prio,x.next,x.prev,x.pick))
theorem l7Game.un {S:Nat->Prop}{w:World}{cs:List Value}{x:l7Game}(h:l7Game.rp.rel S w cs x):∃a0 c0,∃a1 c1,∃a2 c2,∃a3 c3,∃a4 c4,cs=[.slice a0 x.owner.length c0,.slice a1 x.prio.length c1,.slice a2 x.next.length c2,.slice a3 x.prev.length c3,.slice a4 x.pick.length c4]/\Sl (Rp.int .i64) S w a0 c0 x.owner/\Sl (Rp.int .i64) S w a1 c1 x.prio/\Sl (Rp.sl (Rp.int .i64)) S w a2 c2 x.next/\Sl (Rp.sl (Rp.int .i64)) S w a3 c3 x.prev/\Sl (Rp.int .i64) S w a4 c4 x.pick:=by
 obtain⟨_,_,rfl,⟨a0,c0,rfl,hs0⟩,⟨_,_,rfl,⟨a1,c1,rfl,hs1⟩,⟨_,_,rfl,⟨a2,c2,rfl,hs2⟩,⟨_,_,rfl,⟨a3,c3,rfl,hs3⟩,⟨a4,c4,rfl,hs4⟩⟩⟩⟩⟩:=h
 exact⟨a0,c0,a1,c1,a2,c2,a3,c3,a4,c4,rfl,hs0,hs1,hs2,hs3,hs4⟩
theorem l7Game.mk_rel {S:Nat->Prop}{w:World}{x:l7Game}{a0:Option Addr}{c0:Nat}{a1:Option Addr}{c1:Nat}{a2:Option Addr}{c2:Nat}{a3:Option Addr}{c3:Nat}{a4:Option Addr}{c4:Nat}(hs0:Sl (Rp.int .i64) S w a0 c0 x.owner) (hs1:Sl (Rp.int .i64) S w a1 c1 x.prio) (hs2:Sl (Rp.sl (Rp.int .i64)) S w a2 c2 x.next) (hs3:Sl (Rp.sl (Rp.int .i64)) S w a3 c3 x.prev) (hs4:Sl (Rp.int .i64) S w a4 c4 x.pick):l7Game.rp.rel S w [.slice a0 x.owner.length c0,.slice a1 x.prio.length c1,.slice a2 x.next.length c2,.slice a3 x.prev.length c3,.slice a4 x.pick.length c4] x:=
 ⟨_,_,rfl,⟨a0,c0,rfl,hs0⟩,⟨_,_,rfl,⟨a1,c1,rfl,hs1⟩,⟨_,_,rfl,⟨a2,c2,rfl,hs2⟩,⟨_,_,rfl,⟨a3,c3,rfl,hs3⟩,⟨a4,c4,rfl,hs4⟩⟩⟩⟩⟩
structure boundsError where
 x:Int
 y:Int
 signed:Bool
 code:Int
def boundsError.rp:Rp boundsError:=Rp.iso (Rp.pair (Rp.int .i64) (Rp.pair (Rp.int .i64) (Rp.pair Rp.bool (Rp.int .u8)))) (λx=>(x.x,x.y,x.signed,x.code))
theorem boundsError.un {S:Nat->Prop}{w:World}{cs:List Value}{x:boundsError}(h:boundsError.rp.rel S w cs x):cs=[.int .i64 x.x,.int .i64 x.y,.bool x.signed,.int .u8 x.code]:=by
 obtain⟨_,_,rfl,rfl,⟨_,_,rfl,rfl,⟨_,_,rfl,rfl,rfl⟩⟩⟩:=h
 exact rfl
theorem boundsError.mk_rel {S:Nat->Prop}{w:World}{x:boundsError}:boundsError.rp.rel S w [.int .i64 x.x,.int .i64 x.y,.bool x.signed,.int .u8 x.code] x:=
 ⟨_,_,rfl,rfl,⟨_,_,rfl,rfl,⟨_,_,rfl,rfl,rfl⟩⟩⟩
structure errorAddressString where
 msg:ByteArray
 addr:Int
def errorAddressString.rp:Rp errorAddressString:=Rp.iso (Rp.pair Rp.str (Rp.int .u64)) (λx=>(x.msg,x.addr))
theorem errorAddressString.un {S:Nat->Prop}{w:World}{cs:List Value}{x:errorAddressString}(h:errorAddressString.rp.rel S w cs x):cs=[.string x.msg,.int .u64 x.addr]:=by
 obtain⟨_,_,rfl,rfl,rfl⟩:=h
 exact rfl
theorem errorAddressString.mk_rel {S:Nat->Prop}{w:World}{x:errorAddressString}:errorAddressString.rp.rel S w [.string x.msg,.int .u64 x.addr] x:=
 ⟨_,_,rfl,rfl,rfl⟩
structure dice where
 b:(List Int)
 i:Int
 h:Int
def dice.rp:Rp dice:=Rp.iso (Rp.pair (Rp.sl (Rp.int .u8)) (Rp.pair (Rp.int .i64) (Rp.int .u64))) (λx=>(x.b,x.i,x.h))
theorem dice.un {S:Nat->Prop}{w:World}{cs:List Value}{x:dice}(h:dice.rp.rel S w cs x):∃a0 c0,cs=[.slice a0 x.b.length c0,.int .i64 x.i,.int .u64 x.h]/\Sl (Rp.int .u8) S w a0 c0 x.b:=by
 obtain⟨_,_,rfl,⟨a0,c0,rfl,hs0⟩,⟨_,_,rfl,rfl,rfl⟩⟩:=h
 exact⟨a0,c0,rfl,hs0⟩
theorem dice.mk_rel {S:Nat->Prop}{w:World}{x:dice}{a0:Option Addr}{c0:Nat}(hs0:Sl (Rp.int .u8) S w a0 c0 x.b):dice.rp.rel S w [.slice a0 x.b.length c0,.int .i64 x.i,.int .u64 x.h] x:=
 ⟨_,_,rfl,⟨a0,c0,rfl,hs0⟩,⟨_,_,rfl,rfl,rfl⟩⟩
structure l1Cur where
 b:(List Int)
 i:Int
 h:Int
def l1Cur.rp:Rp l1Cur:=Rp.iso (Rp.pair (Rp.sl (Rp.int .u8)) (Rp.pair (Rp.int .i64) (Rp.int .i64))) (λx=>(x.b,x.i,x.h))
theorem l1Cur.un {S:Nat->Prop}{w:World}{cs:List Value}{x:l1Cur}(h:l1Cur.rp.rel S w cs x):∃a0 c0,cs=[.slice a0 x.b.length c0,.int .i64 x.i,.int .i64 x.h]/\Sl (Rp.int .u8) S w a0 c0 x.b:=by
 obtain⟨_,_,rfl,⟨a0,c0,rfl,hs0⟩,⟨_,_,rfl,rfl,rfl⟩⟩:=h
 exact⟨a0,c0,rfl,hs0⟩
theorem l1Cur.mk_rel {S:Nat->Prop}{w:World}{x:l1Cur}{a0:Option Addr}{c0:Nat}(hs0:Sl (Rp.int .u8) S w a0 c0 x.b):l1Cur.rp.rel S w [.slice a0 x.b.length c0,.int .i64 x.i,.int .i64 x.h] x:=
 ⟨_,_,rfl,⟨a0,c0,rfl,hs0⟩,⟨_,_,rfl,rfl,rfl⟩⟩
structure solver where
 game:Parity
 preds:(List (List Int))
def solver.rp:Rp solver:=Rp.iso (Rp.pair Parity.rp (Rp.sl (Rp.sl (Rp.int .i64)))) (λx=>(x.game,x.preds))
theorem solver.un {S:Nat->Prop}{w:World}{cs:List Value}{x:solver}(h:solver.rp.rel S w cs x):∃a0 c0,∃a1 c1,∃a2 c2,∃a3 c3,cs=[.slice a0 x.game.Arena.Owner.length c0,.slice a1 x.game.Arena.Next.length c1,.slice a2 x.game.Prio.length c2,.slice a3 x.preds.length c3]/\Sl (Rp.int .i64) S w a0 c0 x.game.Arena.Owner/\Sl (Rp.sl (Rp.int .i64)) S w a1 c1 x.game.Arena.Next/\Sl (Rp.int .i64) S w a2 c2 x.game.Prio/\Sl (Rp.sl (Rp.int .i64)) S w a3 c3 x.preds:=by
 obtain⟨_,_,rfl,⟨_,_,rfl,⟨_,_,rfl,⟨a0,c0,rfl,hs0⟩,⟨a1,c1,rfl,hs1⟩⟩,⟨a2,c2,rfl,hs2⟩⟩,⟨a3,c3,rfl,hs3⟩⟩:=h
 exact⟨a0,c0,a1,c1,a2,c2,a3,c3,rfl,hs0,hs1,hs2,hs3⟩
theorem solver.mk_rel {S:Nat->Prop}{w:World}{x:solver}{a0:Option Addr}{c0:Nat}{a1:Option Addr}{c1:Nat}{a2:Option Addr}{c2:Nat}{a3:Option Addr}{c3:Nat}(hs0:Sl (Rp.int .i64) S w a0 c0 x.game.Arena.Owner) (hs1:Sl (Rp.sl (Rp.int .i64)) S w a1 c1 x.game.Arena.Next) (hs2:Sl (Rp.int .i64) S w a2 c2 x.game.Prio) (hs3:Sl (Rp.sl (Rp.int .i64)) S w a3 c3 x.preds):solver.rp.rel S w [.slice a0 x.game.Arena.Owner.length c0,.slice a1 x.game.Arena.Next.length c1,.slice a2 x.game.Prio.length c2,.slice a3 x.preds.length c3] x:=
 ⟨_,_,rfl,⟨_,_,rfl,⟨_,_,rfl,⟨a0,c0,rfl,hs0⟩,⟨a1,c1,rfl,hs1⟩⟩,⟨a2,c2,rfl,hs2⟩⟩,⟨a3,c3,rfl,hs3⟩⟩
def kvI2:(Int×Int)->Value:=λk=> .agg #[.int .i64 k.1,.int .i64 k.2]
def kwI2:(Int×Int)->Bool:=λk=>wf2 k.1 k.2
theorem uW:KeyE Tryz.prog 81 kvI2 kwI2:=⟨deep_law (m:=2) (by omega) (by kernel_rfl) (by kernel_rfl) (by kernel_rfl),λk h=>yb Tryz.underlying81 (by kernel_rfl) (m:=278) (by kernel_rfl) (by kernel_rfl) (by kernel_rfl) Tryz.underlying2 h,λk k' h=>by
 cases k;cases k'
 simp only[kvI2,Value.agg.injEq,Array.mk.injEq,List.cons.injEq,Value.int.injEq,true_and,and_true]at h
 obtain⟨h1,h2⟩:=h
 subst h1 h2
 rfl⟩
theorem a8:Tryz.prog.info? 2=some Tryz.t2:=by kernel_rfl
theorem iG:Tryz.prog.info? 4=some Tryz.t4:=by kernel_rfl
theorem bK:Tryz.prog.info? 29=some Tryz.t29:=by kernel_rfl
theorem jf:Tryz.prog.info? 116=some Tryz.t116:=by kernel_rfl
theorem iV:Tryz.prog.info? 119=some Tryz.t119:=by kernel_rfl
theorem dG:Tryz.prog.info? 154=some Tryz.t154:=by kernel_rfl
end Go.Proofs.YtpcjbkgbnoocaaaGreat
