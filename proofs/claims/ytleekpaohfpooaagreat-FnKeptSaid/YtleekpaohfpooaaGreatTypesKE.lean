/- The structs of the program as data. -/
import Derived.Test.YtleekpaohfpooaaGreatFbKE
import Derived.Test.YtleekpaohfpooaaGreatProg
set_option linter.unusedVariables false
set_option linter.unusedSimpArgs false
namespace Go.Proofs.YtleekpaohfpooaaGreat
open Go Go.Wk Go.Proofs
structure Clause where
 Kind:Int
 A:(List Int)
 B:(List Int)
def Clause.rp:Rp Clause:=Rp.iso (Rp.pair (Rp.int .i64) (Rp.pair (Rp.sl (Rp.int .i64)) (Rp.sl (Rp.int .i64)))) (λx=>(x.Kind,x.A,x.B))
theorem Clause.un {S:Nat->Prop}{w:World}{cs:List Value}{x:Clause}(h:Clause.rp.rel S w cs x):∃a1 c1,∃a2 c2,cs=[.int .i64 x.Kind,.slice a1 x.A.length c1,.slice a2 x.B.length c2]/\Sl (Rp.int .i64) S w a1 c1 x.A/\Sl (Rp.int .i64) S w a2 c2 x.B:=by
 obtain⟨_,_,rfl,rfl,⟨_,_,rfl,⟨a1,c1,rfl,hs1⟩,⟨a2,c2,rfl,hs2⟩⟩⟩:=h
 exact⟨a1,c1,a2,c2,rfl,hs1,hs2⟩
theorem Clause.mk_rel {S:Nat->Prop}{w:World}{x:Clause}{a1:Option Addr}{c1:Nat}{a2:Option Addr}{c2:Nat}(hs1:Sl (Rp.int .i64) S w a1 c1 x.A) (hs2:Sl (Rp.int .i64) S w a2 c2 x.B):Clause.rp.rel S w [.int .i64 x.Kind,.slice a1 x.A.length c1,.slice a2 x.B.length c2] x:=
 ⟨_,_,rfl,rfl,⟨_,_,rfl,⟨a1,c1,rfl,hs1⟩,⟨a2,c2,rfl,hs2⟩⟩⟩
def Clause.ep67:Ep Clause:=Ep.iso (Ep.pair (Ep.int .i64) (Ep.pair (Ep.own (Ep.int .i64) 2) (Ep.own (Ep.int .i64) 2))) (λx=>(x.Kind,x.A,x.B))
theorem Clause.no67:Clause.ep67.No:=vR _ (r6 (bL _) (r6 (cR (bL _) _) (cR (bL _) _)))
structure Sig where
 In:Int
 Out:Int
def Sig.rp:Rp Sig:=Rp.iso (Rp.pair (Rp.int .i64) (Rp.int .i64)) (λx=>(x.In,x.Out))
theorem Sig.un {S:Nat->Prop}{w:World}{cs:List Value}{x:Sig}(h:Sig.rp.rel S w cs x):cs=[.int .i64 x.In,.int .i64 x.Out]:=by
 obtain⟨_,_,rfl,rfl,rfl⟩:=h
 exact rfl
theorem Sig.mk_rel {S:Nat->Prop}{w:World}{x:Sig}:Sig.rp.rel S w [.int .i64 x.In,.int .i64 x.Out] x:=
 ⟨_,_,rfl,rfl,rfl⟩
structure Machine where
 Next:(List (List Int))
 Out:(List (List Int))
def Machine.rp:Rp Machine:=Rp.iso (Rp.pair (Rp.sl (Rp.sl (Rp.int .i64))) (Rp.sl (Rp.sl (Rp.int .i64)))) (λx=>(x.Next,x.Out))
theorem Machine.un {S:Nat->Prop}{w:World}{cs:List Value}{x:Machine}(h:Machine.rp.rel S w cs x):∃a0 c0,∃a1 c1,cs=[.slice a0 x.Next.length c0,.slice a1 x.Out.length c1]/\Sl (Rp.sl (Rp.int .i64)) S w a0 c0 x.Next/\Sl (Rp.sl (Rp.int .i64)) S w a1 c1 x.Out:=by
 obtain⟨_,_,rfl,⟨a0,c0,rfl,hs0⟩,⟨a1,c1,rfl,hs1⟩⟩:=h
 exact⟨a0,c0,a1,c1,rfl,hs0,hs1⟩
theorem Machine.mk_rel {S:Nat->Prop}{w:World}{x:Machine}{a0:Option Addr}{c0:Nat}{a1:Option Addr}{c1:Nat}(hs0:Sl (Rp.sl (Rp.int .i64)) S w a0 c0 x.Next) (hs1:Sl (Rp.sl (Rp.int .i64)) S w a1 c1 x.Out):Machine.rp.rel S w [.slice a0 x.Next.length c0,.slice a1 x.Out.length c1] x:=
 ⟨_,_,rfl,⟨a0,c0,rfl,hs0⟩,⟨a1,c1,rfl,hs1⟩⟩
structure Word where
 Stem:(List Int)
 Loop:(List Int)
def Word.rp:Rp Word:=Rp.iso (Rp.pair (Rp.sl (Rp.int .i64)) (Rp.sl (Rp.int .i64))) (λx=>(x.Stem,x.Loop))
theorem Word.un {S:Nat->Prop}{w:World}{cs:List Value}{x:Word}(h:Word.rp.rel S w cs x):∃a0 c0,∃a1 c1,cs=[.slice a0 x.Stem.length c0,.slice a1 x.Loop.length c1]/\Sl (Rp.int .i64) S w a0 c0 x.Stem/\Sl (Rp.int .i64) S w a1 c1 x.Loop:=by
 obtain⟨_,_,rfl,⟨a0,c0,rfl,hs0⟩,⟨a1,c1,rfl,hs1⟩⟩:=h
 exact⟨a0,c0,a1,c1,rfl,hs0,hs1⟩
theorem Word.mk_rel {S:Nat->Prop}{w:World}{x:Word}{a0:Option Addr}{c0:Nat}{a1:Option Addr}{c1:Nat}(hs0:Sl (Rp.int .i64) S w a0 c0 x.Stem) (hs1:Sl (Rp.int .i64) S w a1 c1 x.Loop):Word.rp.rel S w [.slice a0 x.Stem.length c0,.slice a1 x.Loop.length c1] x:=
 ⟨_,_,rfl,⟨a0,c0,rfl,hs0⟩,⟨a1,c1,rfl,hs1⟩⟩
structure Rival where
 In:(List Int)
 Next:(List (List Int))
def Rival.rp:Rp Rival:=Rp.iso (Rp.pair (Rp.sl (Rp.int .i64)) (Rp.sl (Rp.sl (Rp.int .i64)))) (λx=>(x.In,x.Next))
theorem Rival.un {S:Nat->Prop}{w:World}{cs:List Value}{x:Rival}(h:Rival.rp.rel S w cs x):∃a0 c0,∃a1 c1,cs=[.slice a0 x.In.length c0,.slice a1 x.Next.length c1]/\Sl (Rp.int .i64) S w a0 c0 x.In/\Sl (Rp.sl (Rp.int .i64)) S w a1 c1 x.Next:=by
 obtain⟨_,_,rfl,⟨a0,c0,rfl,hs0⟩,⟨a1,c1,rfl,hs1⟩⟩:=h
 exact⟨a0,c0,a1,c1,rfl,hs0,hs1⟩
theorem Rival.mk_rel {S:Nat->Prop}{w:World}{x:Rival}{a0:Option Addr}{c0:Nat}{a1:Option Addr}{c1:Nat}(hs0:Sl (Rp.int .i64) S w a0 c0 x.In) (hs1:Sl (Rp.sl (Rp.int .i64)) S w a1 c1 x.Next):Rival.rp.rel S w [.slice a0 x.In.length c0,.slice a1 x.Next.length c1] x:=
 ⟨_,_,rfl,⟨a0,c0,rfl,hs0⟩,⟨a1,c1,rfl,hs1⟩⟩
structure Pair where
 Ask:(List Int)
 Give:(List Int)
def Pair.rp:Rp Pair:=Rp.iso (Rp.pair (Rp.sl (Rp.int .i64)) (Rp.sl (Rp.int .i64))) (λx=>(x.Ask,x.Give))
theorem Pair.un {S:Nat->Prop}{w:World}{cs:List Value}{x:Pair}(h:Pair.rp.rel S w cs x):∃a0 c0,∃a1 c1,cs=[.slice a0 x.Ask.length c0,.slice a1 x.Give.length c1]/\Sl (Rp.int .i64) S w a0 c0 x.Ask/\Sl (Rp.int .i64) S w a1 c1 x.Give:=by
 obtain⟨_,_,rfl,⟨a0,c0,rfl,hs0⟩,⟨a1,c1,rfl,hs1⟩⟩:=h
 exact⟨a0,c0,a1,c1,rfl,hs0,hs1⟩
theorem Pair.mk_rel {S:Nat->Prop}{w:World}{x:Pair}{a0:Option Addr}{c0:Nat}{a1:Option Addr}{c1:Nat}(hs0:Sl (Rp.int .i64) S w a0 c0 x.Ask) (hs1:Sl (Rp.int .i64) S w a1 c1 x.Give):Pair.rp.rel S w [.slice a0 x.Ask.length c0,.slice a1 x.Give.length c1] x:=
 ⟨_,_,rfl,⟨a0,c0,rfl,hs0⟩,⟨a1,c1,rfl,hs1⟩⟩
def Pair.ep127:Ep Pair:=Ep.iso (Ep.pair (Ep.own (Ep.int .i64) 2) (Ep.own (Ep.int .i64) 2)) (λx=>(x.Ask,x.Give))
theorem Pair.no127:Pair.ep127.No:=vR _ (r6 (cR (bL _) _) (cR (bL _) _))
structure Det where
 Next:(List (List Int))
 Pairs:(List Pair)
def Det.rp:Rp Det:=Rp.iso (Rp.pair (Rp.sl (Rp.sl (Rp.int .i64))) (Rp.sl Pair.rp)) (λx=>(x.Next,x.Pairs))
theorem Det.un {S:Nat->Prop}{w:World}{cs:List Value}{x:Det}(h:Det.rp.rel S w cs x):∃a0 c0,∃a1 c1,cs=[.slice a0 x.Next.length c0,.slice a1 x.Pairs.length c1]/\Sl (Rp.sl (Rp.int .i64)) S w a0 c0 x.Next/\Sl Pair.rp S w a1 c1 x.Pairs:=by
 obtain⟨_,_,rfl,⟨a0,c0,rfl,hs0⟩,⟨a1,c1,rfl,hs1⟩⟩:=h
 exact⟨a0,c0,a1,c1,rfl,hs0,hs1⟩
theorem Det.mk_rel {S:Nat->Prop}{w:World}{x:Det}{a0:Option Addr}{c0:Nat}{a1:Option Addr}{c1:Nat}(hs0:Sl (Rp.sl (Rp.int .i64)) S w a0 c0 x.Next) (hs1:Sl Pair.rp S w a1 c1 x.Pairs):Det.rp.rel S w [.slice a0 x.Next.length c0,.slice a1 x.Pairs.length c1] x:=
 ⟨_,_,rfl,⟨a0,c0,rfl,hs0⟩,⟨a1,c1,rfl,hs1⟩⟩
structure Arena where
 Owner:(List Int)
 Next:(List (List Int))
def Arena.rp:Rp Arena:=Rp.iso (Rp.pair (Rp.sl (Rp.int .i64)) (Rp.sl (Rp.sl (Rp.int .i64)))) (λx=>(x.Owner,x.Next))
theorem Arena.un {S:Nat->Prop}{w:World}{cs:List Value}{x:Arena}(h:Arena.rp.rel S w cs x):∃a0 c0,∃a1 c1,cs=[.slice a0 x.Owner.length c0,.slice a1 x.Next.length c1]/\Sl (Rp.int .i64) S w a0 c0 x.Owner/\Sl (Rp.sl (Rp.int .i64)) S w a1 c1 x.Next:=by
 obtain⟨_,_,rfl,⟨a0,c0,rfl,hs0⟩,⟨a1,c1,rfl,hs1⟩⟩:=h
 exact⟨a0,c0,a1,c1,rfl,hs0,hs1⟩
theorem Arena.mk_rel {S:Nat->Prop}{w:World}{x:Arena}{a0:Option Addr}{c0:Nat}{a1:Option Addr}{c1:Nat}(hs0:Sl (Rp.int .i64) S w a0 c0 x.Owner) (hs1:Sl (Rp.sl (Rp.int .i64)) S w a1 c1 x.Next):Arena.rp.rel S w [.slice a0 x.Owner.length c0,.slice a1 x.Next.length c1] x:=
 ⟨_,_,rfl,⟨a0,c0,rfl,hs0⟩,⟨a1,c1,rfl,hs1⟩⟩
structure Parity where
 Arena:Arena
 Prio:(List Int)
def Parity.rp:Rp Parity:=Rp.iso (Rp.pair Arena.rp (Rp.sl (Rp.int .i64))) (λx=>(x.Arena,x.Prio))
theorem Parity.un {S:Nat->Prop}{w:World}{cs:List Value}{x:Parity}(h:Parity.rp.rel S w cs x):∃a0 c0,∃a1 c1,∃a2 c2,cs=[.slice a0 x.Arena.Owner.length c0,.slice a1 x.Arena.Next.length c1,.slice a2 x.Prio.length c2]/\Sl (Rp.int .i64) S w a0 c0 x.Arena.Owner/\Sl (Rp.sl (Rp.int .i64)) S w a1 c1 x.Arena.Next/\Sl (Rp.int .i64) S w a2 c2 x.Prio:=by
 obtain⟨_,_,rfl,⟨_,_,rfl,⟨a0,c0,rfl,hs0⟩,⟨a1,c1,rfl,hs1⟩⟩,⟨a2,c2,rfl,hs2⟩⟩:=h
 exact⟨a0,c0,a1,c1,a2,c2,rfl,hs0,hs1,hs2⟩
theorem Parity.mk_rel {S:Nat->Prop}{w:World}{x:Parity}{a0:Option Addr}{c0:Nat}{a1:Option Addr}{c1:Nat}{a2:Option Addr}{c2:Nat}(hs0:Sl (Rp.int .i64) S w a0 c0 x.Arena.Owner) (hs1:Sl (Rp.sl (Rp.int .i64)) S w a1 c1 x.Arena.Next) (hs2:Sl (Rp.int .i64) S w a2 c2 x.Prio):Parity.rp.rel S w [.slice a0 x.Arena.Owner.length c0,.slice a1 x.Arena.Next.length c1,.slice a2 x.Prio.length c2] x:=
 ⟨_,_,rfl,⟨_,_,rfl,⟨a0,c0,rfl,hs0⟩,⟨a1,c1,rfl,hs1⟩⟩,⟨a2,c2,rfl,hs2⟩⟩
structure Place where
 At:Int
 Record:(List Int)
def Place.rp:Rp Place:=Rp.iso (Rp.pair (Rp.int .i64) (Rp.sl (Rp.int .i64))) (λx=>(x.At,x.Record))
theorem Place.un {S:Nat->Prop}{w:World}{cs:List Value}{x:Place}(h:Place.rp.rel S w cs x):∃a1 c1,cs=[.int .i64 x.At,.slice a1 x.Record.length c1]/\Sl (Rp.int .i64) S w a1 c1 x.Record:=by
 obtain⟨_,_,rfl,rfl,⟨a1,c1,rfl,hs1⟩⟩:=h
 exact⟨a1,c1,rfl,hs1⟩
theorem Place.mk_rel {S:Nat->Prop}{w:World}{x:Place}{a1:Option Addr}{c1:Nat}(hs1:Sl (Rp.int .i64) S w a1 c1 x.Record):Place.rp.rel S w [.int .i64 x.At,.slice a1 x.Record.length c1] x:=
 ⟨_,_,rfl,rfl,⟨a1,c1,rfl,hs1⟩⟩
structure Answer where
 Won:(List Int)
 Plan:(List Int)
def Answer.rp:Rp Answer:=Rp.iso (Rp.pair (Rp.sl (Rp.int .i64)) (Rp.sl (Rp.int .i64))) (λx=>(x.Won,x.Plan))
theorem Answer.un {S:Nat->Prop}{w:World}{cs:List Value}{x:Answer}(h:Answer.rp.rel S w cs x):∃a0 c0,∃a1 c1,cs=[.slice a0 x.Won.length c0,.slice a1 x.Plan.length c1]/\Sl (Rp.int .i64) S w a0 c0 x.Won/\Sl (Rp.int .i64) S w a1 c1 x.Plan:=by
 obtain⟨_,_,rfl,⟨a0,c0,rfl,hs0⟩,⟨a1,c1,rfl,hs1⟩⟩:=h
 exact⟨a0,c0,a1,c1,rfl,hs0,hs1⟩
theorem Answer.mk_rel {S:Nat->Prop}{w:World}{x:Answer}{a0:Option Addr}{c0:Nat}{a1:Option Addr}{c1:Nat}(hs0:Sl (Rp.int .i64) S w a0 c0 x.Won) (hs1:Sl (Rp.int .i64) S w a1 c1 x.Plan):Answer.rp.rel S w [.slice a0 x.Won.length c0,.slice a1 x.Plan.length c1] x:=
 ⟨_,_,rfl,⟨a0,c0,rfl,hs0⟩,⟨a1,c1,rfl,hs1⟩⟩
structure l7Game where
 owner:(List Int)
 prio:(List Int)
 next:(List (List Int))
 prev:(List (List Int))
 pick:(List Int)
def l7Game.rp:Rp l7Game:=Rp.iso (Rp.pair (Rp.sl (Rp.int .i64)) (Rp.pair (Rp.sl (Rp.int .i64)) (Rp.pair (Rp.sl (Rp.sl (Rp.int .i64))) (Rp.pair (Rp.sl (Rp.sl (Rp.int .i64))) (Rp.sl (Rp.int .i64)))))) (λx=>(x.owner,x.prio,x.next,x.prev,x.pick))
theorem l7Game.un {S:Nat->Prop}{w:World}{cs:List Value}{x:l7Game}(h:l7Game.rp.rel S w cs x):∃a0 c0,∃a1 c1,∃a2 c2,∃a3 c3,∃a4 c4,cs=[.slice a0 x.owner.length c0,.slice a1 x.prio.length c1,.slice a2 x.next.length c2,.slice a3 x.prev.length c3,.slice a4 x.pick.length c4]/\Sl (Rp.int .i64) S w a0 c0 x.owner/\Sl (Rp.int .i64) S w a1 c1 x.prio/\Sl (Rp.sl (Rp.int .i64)) S w a2 c2 x.next/\Sl (Rp.sl (Rp.int .i64)) S w a3 c3 x.prev/\Sl (Rp.int .i64) S w a4 c4 x.pick:=by
 obtain⟨_,_,rfl,⟨a0,c0,rfl,hs0⟩,⟨_,_,rfl,⟨a1,c1,rfl,hs1⟩,⟨_,_,rfl,⟨a2,c2,rfl,hs2⟩,⟨_,_,rfl,⟨a3,c3,rfl,hs3⟩,⟨a4,c4,rfl,hs4⟩⟩⟩⟩⟩:=h
 exact⟨a0,c0,a1,c1,a2,c2,a3,c3,a4,c4,rfl,hs0,hs1,hs2,hs3,hs4⟩
theorem l7Game.mk_rel {S:Nat->Prop}{w:World}{x:l7Game}{a0:Option Addr}{c0:Nat}{a1:Option Addr}{c1:Nat}{a2:Option Addr}{c2:Nat}{a3:Option Addr}{c3:Nat}{a4:Option Addr}{c4:Nat}(hs0:Sl (Rp.int .i64) S w a0 c0 x.owner) (hs1:Sl (Rp.int .i64) S w a1 c1 x.prio) (hs2:Sl (Rp.sl (Rp.int .i64)) S w a2 c2 x.next) (hs3:Sl (Rp.sl (Rp.int .i64)) S w a3 c3 x.prev) (hs4:Sl (Rp.int .i64) S w a4 c4 x.pick):l7Game.rp.rel S w [.slice a0 x.owner.length c0,.slice a1 x.prio.length c1,.slice a2 x.next.length c2,.slice a3 x.prev.length c3,.slice a4 x.pick.length c4] x:=
 ⟨_,_,rfl,⟨a0,c0,rfl,hs0⟩,⟨_,_,rfl,⟨a1,c1,rfl,hs1⟩,⟨_,_,rfl,⟨a2,c2,rfl,hs2⟩,⟨_,_,rfl,⟨a3,c3,rfl,hs3⟩,⟨a4,c4,rfl,hs4⟩⟩⟩⟩⟩
structure l30Graph where
 of:(List Int)
 by0:(List Int)
 next:(List (List Int))
 letters:(List (List Int))
def l30Graph.rp:Rp l30Graph:=Rp.iso (Rp.pair (Rp.sl (Rp.int .i64)) (Rp.pair (Rp.sl (Rp.int .i64)) (Rp.pair (Rp.sl (Rp.sl (Rp.int .i64))) (Rp.sl (Rp.sl (Rp.int .i64)))))) (λx=>(x.of,x.by0,x.next,x.letters))
theorem l30Graph.un {S:Nat->Prop}{w:World}{cs:List Value}{x:l30Graph}(h:l30Graph.rp.rel S w cs x):∃a0 c0,∃a1 c1,∃a2 c2,∃a3 c3,cs=[.slice a0 x.of.length c0,.slice a1 x.by0.length c1,.slice a2 x.next.length c2,.slice a3 x.letters.length c3]/\Sl (Rp.int .i64) S w a0 c0 x.of/\Sl (Rp.int .i64) S w a1 c1 x.by0/\Sl (Rp.sl (Rp.int .i64)) S w a2 c2 x.next/\Sl (Rp.sl (Rp.int .i64)) S w a3 c3 x.letters:=by
 obtain⟨_,_,rfl,⟨a0,c0,rfl,hs0⟩,⟨_,_,rfl,⟨a1,c1,rfl,hs1⟩,⟨_,_,rfl,⟨a2,c2,rfl,hs2⟩,⟨a3,c3,rfl,hs3⟩⟩⟩⟩:=h
 exact⟨a0,c0,a1,c1,a2,c2,a3,c3,rfl,hs0,hs1,hs2,hs3⟩
theorem l30Graph.mk_rel {S:Nat->Prop}{w:World}{x:l30Graph}{a0:Option Addr}{c0:Nat}{a1:Option Addr}{c1:Nat}{a2:Option Addr}{c2:Nat}{a3:Option Addr}{c3:Nat}(hs0:Sl (Rp.int .i64) S w a0 c0 x.of) (hs1:Sl (Rp.int .i64) S w a1 c1 x.by0) (hs2:Sl (Rp.sl (Rp.int .i64)) S w a2 c2 x.next) (hs3:Sl (Rp.sl (Rp.int .i64)) S w a3 c3 x.letters):l30Graph.rp.rel S w [.slice a0 x.of.length c0,.slice a1 x.by0.length c1,.slice a2 x.next.length c2,.slice a3 x.letters.length c3] x:=
 ⟨_,_,rfl,⟨a0,c0,rfl,hs0⟩,⟨_,_,rfl,⟨a1,c1,rfl,hs1⟩,⟨_,_,rfl,⟨a2,c2,rfl,hs2⟩,⟨a3,c3,rfl,hs3⟩⟩⟩⟩
structure boundsError where
 x:Int
 y:Int
 signed:Bool
 code:Int
def boundsError.rp:Rp boundsError:=Rp.iso (Rp.pair (Rp.int .i64) (Rp.pair (Rp.int .i64) (Rp.pair Rp.bool (Rp.int .u8)))) (λx=>(x.x,x.y,x.signed,x.code))
theorem boundsError.un {S:Nat->Prop}{w:World}{cs:List Value}{x:boundsError}(h:boundsError.rp.rel S w cs x):cs=[.int .i64 x.x,.int .i64 x.y,.bool x.signed,.int .u8 x.code]:=by
 obtain⟨_,_,rfl,rfl,⟨_,_,rfl,rfl,⟨_,_,rfl,rfl,rfl⟩⟩⟩:=h
 exact rfl
theorem boundsError.mk_rel {S:Nat->Prop}{w:World}{x:boundsError}:boundsError.rp.rel S w [.int .i64 x.x,.int .i64 x.y,.bool x.signed,.int .u8 x.code] x:=
 ⟨_,_,rfl,rfl,⟨_,_,rfl,rfl,⟨_,_,rfl,rfl,rfl⟩⟩⟩
structure errorAddressString where
 msg:ByteArray
 addr:Int
def errorAddressString.rp:Rp errorAddressString:=Rp.iso (Rp.pair Rp.str (Rp.int .u64)) (λx=>(x.msg,x.addr))
theorem errorAddressString.un {S:Nat->Prop}{w:World}{cs:List Value}{x:errorAddressString}(h:errorAddressString.rp.rel S w cs x):cs=[.string x.msg,.int .u64 x.addr]:=by
 obtain⟨_,_,rfl,rfl,rfl⟩:=h
 exact rfl
theorem errorAddressString.mk_rel {S:Nat->Prop}{w:World}{x:errorAddressString}:errorAddressString.rp.rel S w [.string x.msg,.int .u64 x.addr] x:=
 ⟨_,_,rfl,rfl,rfl⟩
structure dice where
 b:(List Int)
 i:Int
 h:Int
def dice.rp:Rp dice:=Rp.iso (Rp.pair (Rp.sl (Rp.int .u8)) (Rp.pair (Rp.int .i64) (Rp.int .u64))) (λx=>(x.b,x.i,x.h))
theorem dice.un {S:Nat->Prop}{w:World}{cs:List Value}{x:dice}(h:dice.rp.rel S w cs x):∃a0 c0,cs=[.slice a0 x.b.length c0,.int .i64 x.i,.int .u64 x.h]/\Sl (Rp.int .u8) S w a0 c0 x.b:=by
 obtain⟨_,_,rfl,⟨a0,c0,rfl,hs0⟩,⟨_,_,rfl,rfl,rfl⟩⟩:=h
 exact⟨a0,c0,rfl,hs0⟩
theorem dice.mk_rel {S:Nat->Prop}{w:World}{x:dice}{a0:Option Addr}{c0:Nat}(hs0:Sl (Rp.int .u8) S w a0 c0 x.b):dice.rp.rel S w [.slice a0 x.b.length c0,.int .i64 x.i,.int .u64 x.h] x:=
 ⟨_,_,rfl,⟨a0,c0,rfl,hs0⟩,⟨_,_,rfl,rfl,rfl⟩⟩
structure watch where
 next:(List (List Int))
 letters:(List (List Int))
 pairs:(List Pair)
def watch.rp:Rp watch:=Rp.iso (Rp.pair (Rp.sl (Rp.sl (Rp.int .i64))) (Rp.pair (Rp.sl (Rp.sl (Rp.int .i64))) (Rp.sl Pair.rp))) (λx=>(x.next,x.letters,x.pairs))
theorem watch.un {S:Nat->Prop}{w:World}{cs:List Value}{x:watch}(h:watch.rp.rel S w cs x):∃a0 c0,∃a1 c1,∃a2 c2,cs=[.slice a0 x.next.length c0,.slice a1 x.letters.length c1,.slice a2 x.pairs.length c2]/\Sl (Rp.sl (Rp.int .i64)) S w a0 c0 x.next/\Sl (Rp.sl (Rp.int .i64)) S w a1 c1 x.letters/\Sl Pair.rp S w a2 c2 x.pairs:=by
 obtain⟨_,_,rfl,⟨a0,c0,rfl,hs0⟩,⟨_,_,rfl,⟨a1,c1,rfl,hs1⟩,⟨a2,c2,rfl,hs2⟩⟩⟩:=h
 exact⟨a0,c0,a1,c1,a2,c2,rfl,hs0,hs1,hs2⟩
theorem watch.mk_rel {S:Nat->Prop}{w:World}{x:watch}{a0:Option Addr}{c0:Nat}{a1:Option Addr}{c1:Nat}{a2:Option Addr}{c2:Nat}(hs0:Sl (Rp.sl (Rp.int .i64)) S w a0 c0 x.next) (hs1:Sl (Rp.sl (Rp.int .i64)) S w a1 c1 x.letters) (hs2:Sl Pair.rp S w a2 c2 x.pairs):watch.rp.rel S w [.slice a0 x.next.length c0,.slice a1 x.letters.length c1,.slice a2 x.pairs.length c2] x:=
 ⟨_,_,rfl,⟨a0,c0,rfl,hs0⟩,⟨_,_,rfl,⟨a1,c1,rfl,hs1⟩,⟨a2,c2,rfl,hs2⟩⟩⟩
structure solver where
 game:Parity
 preds:(List (List Int))
def solver.rp:Rp solver:=Rp.iso (Rp.pair Parity.rp (Rp.sl (Rp.sl (Rp.int .i64)))) (λx=>(x.game,x.preds))
theorem solver.un {S:Nat->Prop}{w:World}{cs:List Value}{x:solver}(h:solver.rp.rel S w cs x):∃a0 c0,∃a1 c1,∃a2 c2,∃a3 c3,cs=[.slice a0 x.game.Arena.Owner.length c0,.slice a1 x.game.Arena.Next.length c1,.slice a2 x.game.Prio.length c2,.slice a3 x.preds.length c3]/\Sl (Rp.int .i64) S w a0 c0 x.game.Arena.Owner/\Sl (Rp.sl (Rp.int .i64)) S w a1 c1 x.game.Arena.Next/\Sl (Rp.int .i64) S w a2 c2 x.game.Prio/\Sl (Rp.sl (Rp.int .i64)) S w a3 c3 x.preds:=by
 obtain⟨_,_,rfl,⟨_,_,rfl,⟨_,_,rfl,⟨a0,c0,rfl,hs0⟩,⟨a1,c1,rfl,hs1⟩⟩,⟨a2,c2,rfl,hs2⟩⟩,⟨a3,c3,rfl,hs3⟩⟩:=h
 exact⟨a0,c0,a1,c1,a2,c2,a3,c3,rfl,hs0,hs1,hs2,hs3⟩
theorem solver.mk_rel {S:Nat->Prop}{w:World}{x:solver}{a0:Option Addr}{c0:Nat}{a1:Option Addr}{c1:Nat}{a2:Option Addr}{c2:Nat}{a3:Option Addr}{c3:Nat}(hs0:Sl (Rp.int .i64) S w a0 c0 x.game.Arena.Owner) (hs1:Sl (Rp.sl (Rp.int .i64)) S w a1 c1 x.game.Arena.Next) (hs2:Sl (Rp.int .i64) S w a2 c2 x.game.Prio) (hs3:Sl (Rp.sl (Rp.int .i64)) S w a3 c3 x.preds):solver.rp.rel S w [.slice a0 x.game.Arena.Owner.length c0,.slice a1 x.game.Arena.Next.length c1,.slice a2 x.game.Prio.length c2,.slice a3 x.preds.length c3] x:=
 ⟨_,_,rfl,⟨_,_,rfl,⟨_,_,rfl,⟨a0,c0,rfl,hs0⟩,⟨a1,c1,rfl,hs1⟩⟩,⟨a2,c2,rfl,hs2⟩⟩,⟨a3,c3,rfl,hs3⟩⟩
theorem bG:Tryz.prog.info? 2=some Tryz.t2:=by kernel_rfl
theorem uX:Tryz.prog.info? 3=some Tryz.t3:=by kernel_rfl
theorem du:Tryz.prog.info? 4=some Tryz.t4:=by kernel_rfl
theorem bQ:Tryz.prog.info? 37=some Tryz.t37:=by kernel_rfl
theorem nk:Tryz.prog.info? 67=some Tryz.t67:=by kernel_rfl
theorem tB:Tryz.prog.info? 71=some Tryz.t71:=by kernel_rfl
theorem fk:Tryz.prog.info? 88=some Tryz.t88:=by kernel_rfl
theorem l9:Tryz.prog.info? 120=some Tryz.t120:=by kernel_rfl
theorem cw:Tryz.prog.info? 127=some Tryz.t127:=by kernel_rfl
end Go.Proofs.YtleekpaohfpooaaGreat
