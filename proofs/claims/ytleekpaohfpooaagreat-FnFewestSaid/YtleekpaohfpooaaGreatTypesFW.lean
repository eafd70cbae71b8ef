/- The structs of the program as data. -/
import Derived.Test.YtleekpaohfpooaaGreatFbFW
import Derived.Test.YtleekpaohfpooaaGreatProg
set_option linter.unusedVariables false
set_option linter.unusedSimpArgs false
namespace Go.Proofs.YtleekpaohfpooaaGreat
open Go Go.Wk Go.Proofs
structure Clause where
 Kind:Int
 A:(List Int)
 B:(List Int)
def Clause.rp:Rp Clause:=Rp.iso (Rp.pair (Rp.int .i64) (Rp.pair (Rp.sl (Rp.int .i64)) (Rp.sl (Rp.int .i64)))) (λx=>(x.Kind,x.A,x.B))
theorem Clause.un {S:Nat->Prop}{w:World}{cs:List Value}{x:Clause}(h:Clause.rp.rel S w cs x):∃a1 c1,∃a2 c2,cs=[.int .i64 x.Kind,.slice a1 x.A.length c1,.slice a2 x.B.length c2]/\Sl (Rp.int .i64) S w a1 c1 x.A/\Sl (Rp.int .i64) S w a2 c2 x.B:=by
 obtain⟨_,_,rfl,rfl,⟨_,_,rfl,⟨a1,c1,rfl,a⟩,⟨a2,c2,rfl,b⟩⟩⟩:=h
 exact⟨a1,c1,a2,c2,rfl,a,b⟩
theorem Clause.mk_rel {S:Nat->Prop}{w:World}{x:Clause}{a1:Option Addr}{c1:Nat}{a2:Option Addr}{c2:Nat}(a:Sl (Rp.int .i64) S w a1 c1 x.A) (b:Sl (Rp.int .i64) S w a2 c2 x.B):Clause.rp.rel S w [.int .i64 x.Kind,.slice a1 x.A.length c1,.slice a2 x.B.length c2] x:=
 ⟨_,_,rfl,rfl,⟨_,_,rfl,⟨a1,c1,rfl,a⟩,⟨a2,c2,rfl,b⟩⟩⟩
def Clause.ep67:Ep Clause:=Ep.iso (Ep.pair (Ep.int .i64) (Ep.pair (Ep.own (Ep.int .i64) 2) (Ep.own (Ep.int .i64) 2))) (λx=>(x.Kind,x.A,x.B))
theorem Clause.no67:Clause.ep67.No:=wS _ (rM (bX _) (rM (cD (bX _) _) (cD (bX _) _)))
structure Sig where
 In:Int
 Out:Int
def Sig.rp:Rp Sig:=Rp.iso (Rp.pair (Rp.int .i64) (Rp.int .i64)) (λx=>(x.In,x.Out))
theorem Sig.un {S:Nat->Prop}{w:World}{cs:List Value}{x:Sig}(h:Sig.rp.rel S w cs x):cs=[.int .i64 x.In,.int .i64 x.Out]:=by
 obtain⟨_,_,rfl,rfl,rfl⟩:=h
 exact rfl
theorem Sig.mk_rel {S:Nat->Prop}{w:World}{x:Sig}:Sig.rp.rel S w [.int .i64 x.In,.int .i64 x.Out] x:=
 ⟨_,_,rfl,rfl,rfl⟩
structure Machine where
 Next:(List (List Int))
 Out:(List (List Int))
def Machine.rp:Rp Machine:=Rp.iso (Rp.pair (Rp.sl (Rp.sl (Rp.int .i64))) (Rp.sl (Rp.sl (Rp.int .i64)))) (λx=>(x.Next,x.Out))
theorem Machine.un {S:Nat->Prop}{w:World}{cs:List Value}{x:Machine}(h:Machine.rp.rel S w cs x):∃a b,∃a1 c1,cs=[.slice a x.Next.length b,.slice a1 x.Out.length c1]/\Sl (Rp.sl (Rp.int .i64)) S w a b x.Next/\Sl (Rp.sl (Rp.int .i64)) S w a1 c1 x.Out:=by
 obtain⟨_,_,rfl,⟨a,b,rfl,c⟩,⟨a1,c1,rfl,d⟩⟩:=h
 exact⟨a,b,a1,c1,rfl,c,d⟩
theorem Machine.mk_rel {S:Nat->Prop}{w:World}{x:Machine}{a:Option Addr}{c0:Nat}{a1:Option Addr}{c1:Nat}(b:Sl (Rp.sl (Rp.int .i64)) S w a c0 x.Next) (c:Sl (Rp.sl (Rp.int .i64)) S w a1 c1 x.Out):Machine.rp.rel S w [.slice a x.Next.length c0,.slice a1 x.Out.length c1] x:=
 ⟨_,_,rfl,⟨a,c0,rfl,b⟩,⟨a1,c1,rfl,c⟩⟩
structure Word where
 Stem:(List Int)
 Loop:(List Int)
def Word.rp:Rp Word:=Rp.iso (Rp.pair (Rp.sl (Rp.int .i64)) (Rp.sl (Rp.int .i64))) (λx=>(x.Stem,x.Loop))
theorem Word.un {S:Nat->Prop}{w:World}{cs:List Value}{x:Word}(h:Word.rp.rel S w cs x):∃a b,∃a1 c1,cs=[.slice a x.Stem.length b,.slice a1 x.Loop.length c1]/\Sl (Rp.int .i64) S w a b x.Stem/\Sl (Rp.int .i64) S w a1 c1 x.Loop:=by
 obtain⟨_,_,rfl,⟨a,b,rfl,c⟩,⟨a1,c1,rfl,d⟩⟩:=h
 exact⟨a,b,a1,c1,rfl,c,d⟩
theorem Word.mk_rel {S:Nat->Prop}{w:World}{x:Word}{a:Option Addr}{c0:Nat}{a1:Option Addr}{c1:Nat}(b:Sl (Rp.int .i64) S w a c0 x.Stem) (c:Sl (Rp.int .i64) S w a1 c1 x.Loop):Word.rp.rel S w [.slice a x.Stem.length c0,.slice a1 x.Loop.length c1] x:=
 ⟨_,_,rfl,⟨a,c0,rfl,b⟩,⟨a1,c1,rfl,c⟩⟩
structure Rival where
 In:(List Int)
 Next:(List (List Int))
def Rival.rp:Rp Rival:=Rp.iso (Rp.pair (Rp.sl (Rp.int .i64)) (Rp.sl (Rp.sl (Rp.int .i64)))) (λx=>(x.In,x.Next))
theorem Rival.un {S:Nat->Prop}{w:World}{cs:List Value}{x:Rival}(h:Rival.rp.rel S w cs x):∃a b,∃a1 c1,cs=[.slice a x.In.length b,.slice a1 x.Next.length c1]/\Sl (Rp.int .i64) S w a b x.In/\Sl (Rp.sl (Rp.int .i64)) S w a1 c1 x.Next:=by
 obtain⟨_,_,rfl,⟨a,b,rfl,c⟩,⟨a1,c1,rfl,d⟩⟩:=h
 exact⟨a,b,a1,c1,rfl,c,d⟩
theorem Rival.mk_rel {S:Nat->Prop}{w:World}{x:Rival}{a:Option Addr}{c0:Nat}{a1:Option Addr}{c1:Nat}(b:Sl (Rp.int .i64) S w a c0 x.In) (c:Sl (Rp.sl (Rp.int .i64)) S w a1 c1 x.Next):Rival.rp.rel S w [.slice a x.In.length c0,.slice a1 x.Next.length c1] x:=
 ⟨_,_,rfl,⟨a,c0,rfl,b⟩,⟨a1,c1,rfl,c⟩⟩
structure Pair where
 Ask:(List Int)
 Give:(List Int)
def Pair.rp:Rp Pair:=Rp.iso (Rp.pair (Rp.sl (Rp.int .i64)) (Rp.sl (Rp.int .i64))) (λx=>(x.Ask,x.Give))
theorem Pair.un {S:Nat->Prop}{w:World}{cs:List Value}{x:Pair}(h:Pair.rp.rel S w cs x):∃a b,∃a1 c1,cs=[.slice a x.Ask.length b,.slice a1 x.Give.length c1]/\Sl (Rp.int .i64) S w a b x.Ask/\Sl (Rp.int .i64) S w a1 c1 x.Give:=by
 obtain⟨_,_,rfl,⟨a,b,rfl,c⟩,⟨a1,c1,rfl,d⟩⟩:=h
 exact⟨a,b,a1,c1,rfl,c,d⟩
theorem Pair.mk_rel {S:Nat->Prop}{w:World}{x:Pair}{a:Option Addr}{c0:Nat}{a1:Option Addr}{c1:Nat}(b:Sl (Rp.int .i64) S w a c0 x.Ask) (c:Sl (Rp.int .i64) S w a1 c1 x.Give):Pair.rp.rel S w [.slice a x.Ask.length c0,.slice a1 x.Give.length c1] x:=
 ⟨_,_,rfl,⟨a,c0,rfl,b⟩,⟨a1,c1,rfl,c⟩⟩
def Pair.ep127:Ep Pair:=Ep.iso (Ep.pair (Ep.own (Ep.int .i64) 2) (Ep.own (Ep.int .i64) 2)) (λx=>(x.Ask,x.Give))
theorem Pair.no127:Pair.ep127.No:=wS _ (rM (cD (bX _) _) (cD (bX _) _))
structure Det where
 Next:(List (List Int))
 Pairs:(List Pair)
def Det.rp:Rp Det:=Rp.iso (Rp.pair (Rp.sl (Rp.sl (Rp.int .i64))) (Rp.sl Pair.rp)) (λx=>(x.Next,x.Pairs))
theorem Det.un {S:Nat->Prop}{w:World}{cs:List Value}{x:Det}(h:Det.rp.rel S w cs x):∃a b,∃a1 c1,cs=[.slice a x.Next.length b,.slice a1 x.Pairs.length c1]/\Sl (Rp.sl (Rp.int .i64)) S w a b x.Next/\Sl Pair.rp S w a1 c1 x.Pairs:=by
 obtain⟨_,_,rfl,⟨a,b,rfl,c⟩,⟨a1,c1,rfl,d⟩⟩:=h
 exact⟨a,b,a1,c1,rfl,c,d⟩
theorem Det.mk_rel {S:Nat->Prop}{w:World}{x:Det}{a:Option Addr}{c0:Nat}{a1:Option Addr}{c1:Nat}(b:Sl (Rp.sl (Rp.int .i64)) S w a c0 x.Next) (c:Sl Pair.rp S w a1 c1 x.Pairs):Det.rp.rel S w [.slice a x.Next.length c0,.slice a1 x.Pairs.length c1] x:=
 ⟨_,_,rfl,⟨a,c0,rfl,b⟩,⟨a1,c1,rfl,c⟩⟩
structure Arena where
 Owner:(List Int)
 Next:(List (List Int))
def Arena.rp:Rp Arena:=Rp.iso (Rp.pair (Rp.sl (Rp.int .i64)) (Rp.sl (Rp.sl (Rp.int .i64)))) (λx=>(x.Owner,x.Next))
theorem Arena.un {S:Nat->Prop}{w:World}{cs:List Value}{x:Arena}(h:Arena.rp.rel S w cs x):∃a b,∃a1 c1,cs=[.slice a x.Owner.length b,.slice a1 x.Next.length c1]/\Sl (Rp.int .i64) S w a b x.Owner/\Sl (Rp.sl (Rp.int .i64)) S w a1 c1 x.Next:=by
 obtain⟨_,_,rfl,⟨a,b,rfl,c⟩,⟨a1,c1,rfl,d⟩⟩:=h
 exact⟨a,b,a1,c1,rfl,c,d⟩
theorem Arena.mk_rel {S:Nat->Prop}{w:World}{x:Arena}{a:Option Addr}{c0:Nat}{a1:Option Addr}{c1:Nat}(b:Sl (Rp.int .i64) S w a c0 x.Owner) (c:Sl (Rp.sl (Rp.int .i64)) S w a1 c1 x.Next):Arena.rp.rel S w [.slice a x.Owner.length c0,.slice a1 x.Next.length c1] x:=
 ⟨_,_,rfl,⟨a,c0,rfl,b⟩,⟨a1,c1,rfl,c⟩⟩
structure Parity where
 Arena:Arena
 Prio:(List Int)
def Parity.rp:Rp Parity:=Rp.iso (Rp.pair Arena.rp (Rp.sl (Rp.int .i64))) (λx=>(x.Arena,x.Prio))
theorem Parity.un {S:Nat->Prop}{w:World}{cs:List Value}{x:Parity}(h:Parity.rp.rel S w cs x):∃a b,∃a1 c1,∃a2 c2,cs=[.slice a x.Arena.Owner.length b,.slice a1 x.Arena.Next.length c1,.slice a2 x.Prio.length c2]/\Sl (Rp.int .i64) S w a b x.Arena.Owner/\Sl (Rp.sl (Rp.int .i64)) S w a1 c1 x.Arena.Next/\Sl (Rp.int .i64) S w a2 c2 x.Prio:=by
 obtain⟨_,_,rfl,⟨_,_,rfl,⟨a,b,rfl,c⟩,⟨a1,c1,rfl,d⟩⟩,⟨a2,c2,rfl,e⟩⟩:=h
 exact⟨a,b,a1,c1,a2,c2,rfl,c,d,e⟩
theorem Parity.mk_rel {S:Nat->Prop}{w:World}{x:Parity}{a:Option Addr}{c0:Nat}{a1:Option Addr}{c1:Nat}{a2:Option Addr}{c2:Nat}(b:Sl (Rp.int .i64) S w a c0 x.Arena.Owner) (c:Sl (Rp.sl (Rp.int .i64)) S w a1 c1 x.Arena.Next) (d:Sl (Rp.int .i64) S w a2 c2 x.Prio):Parity.rp.rel S w [.slice a x.Arena.Owner.length c0,.slice a1 x.Arena.Next.length c1,.slice a2 x.Prio.length c2] x:=
 ⟨_,_,rfl,⟨_,_,rfl,⟨a,c0,rfl,b⟩,⟨a1,c1,rfl,c⟩⟩,⟨a2,c2,rfl,d⟩⟩
structure Place where
 At:Int
 Record:(List Int)
def Place.rp:Rp Place:=Rp.iso (Rp.pair (Rp.int .i64) (Rp.sl (Rp.int .i64))) (λx=>(x.At,x.Record))
theorem Place.un {S:Nat->Prop}{w:World}{cs:List Value}{x:Place}(h:Place.rp.rel S w cs x):∃a1 c1,cs=[.int .i64 x.At,.slice a1 x.Record.length c1]/\Sl (Rp.int .i64) S w a1 c1 x.Record:=by
 obtain⟨_,_,rfl,rfl,⟨a1,c1,rfl,a⟩⟩:=h
 exact⟨a1,c1,rfl,a⟩
theorem Place.mk_rel {S:Nat->Prop}{w:World}{x:Place}{a1:Option Addr}{c1:Nat}(a:Sl (Rp.int .i64) S w a1 c1 x.Record):Place.rp.rel S w [.int .i64 x.At,.slice a1 x.Record.length c1] x:=
 ⟨_,_,rfl,rfl,⟨a1,c1,rfl,a⟩⟩
structure Answer where
 Won:(List Int)
 Plan:(List Int)
def Answer.rp:Rp Answer:=Rp.iso (Rp.pair (Rp.sl (Rp.int .i64)) (Rp.sl (Rp.int .i64))) (λx=>(x.Won,x.Plan))
theorem Answer.un {S:Nat->Prop}{w:World}{cs:List Value}{x:Answer}(h:Answer.rp.rel S w cs x):∃a b,∃a1 c1,cs=[.slice a x.Won.length b,.slice a1 x.Plan.length c1]/\Sl (Rp.int .i64) S w a b x.Won/\Sl (Rp.int .i64) S w a1 c1 x.Plan:=by
 obtain⟨_,_,rfl,⟨a,b,rfl,c⟩,⟨a1,c1,rfl,d⟩⟩:=h
 exact⟨a,b,a1,c1,rfl,c,d⟩
theorem Answer.mk_rel {S:Nat->Prop}{w:World}{x:Answer}{a:Option Addr}{c0:Nat}{a1:Option Addr}{c1:Nat}(b:Sl (Rp.int .i64) S w a c0 x.Won) (c:Sl (Rp.int .i64) S w a1 c1 x.Plan):Answer.rp.rel S w [.slice a x.Won.length c0,.slice a1 x.Plan.length c1] x:=
 ⟨_,_,rfl,⟨a,c0,rfl,b⟩,⟨a1,c1,rfl,c⟩⟩
structure l7Game where
 owner:(List Int)
 prio:(List Int)
 next:(List (List Int))
 prev:(List (List Int))
 pick:(List Int)
def l7Game.rp:Rp l7Game:=Rp.iso (Rp.pair (Rp.sl (Rp.int .i64)) (Rp.pair (Rp.sl (Rp.int .i64)) (Rp.pair (Rp.sl (Rp.sl (Rp.int .i64))) (Rp.pair (Rp.sl (Rp.sl (Rp.int .i64))) (Rp.sl (Rp.int .i64)))))) (λx=>(x.owner,x.prio,x.next,x.prev,x.pick))
theorem l7Game.un {S:Nat->Prop}{w:World}{cs:List Value}{x:l7Game}(h:l7Game.rp.rel S w cs x):∃a d,∃a1 c1,∃a2 c2,∃b e,∃c f,cs=[.slice a x.owner.length d,.slice a1 x.prio.length c1,.slice a2 x.next.length c2,.slice b x.prev.length e,.slice c x.pick.length f]/\Sl (Rp.int .i64) S w a d x.owner/\Sl (Rp.int .i64) S w a1 c1 x.prio/\Sl (Rp.sl (Rp.int .i64)) S w a2 c2 x.next/\Sl (Rp.sl (Rp.int .i64)) S w b e x.prev/\Sl (Rp.int .i64) S w c f x.pick:=by
 obtain⟨_,_,rfl,⟨a,d,rfl,g⟩,⟨_,_,rfl,⟨a1,c1,rfl,i⟩,⟨_,_,rfl,⟨a2,c2,rfl,j⟩,⟨_,_,rfl,⟨b,e,rfl,k⟩,⟨c,f,rfl,l⟩⟩⟩⟩⟩:=h
 exact⟨a,d,a1,c1,a2,c2,b,e,c,f,rfl,g,i,j,k,l⟩
theorem l7Game.mk_rel {S:Nat->Prop}{w:World}{x:l7Game}{a:Option Addr}{c0:Nat}{a1:Option Addr}{c1:Nat}{a2:Option Addr}{c2:Nat}{b:Option Addr}{d:Nat}{c:Option Addr}{e:Nat}(f:Sl (Rp.int .i64) S w a c0 x.owner) (g:Sl (Rp.int .i64) S w a1 c1 x.prio) (i:Sl (Rp.sl (Rp.int .i64)) S w a2 c2 x.next) (j:Sl (Rp.sl (Rp.int .i64)) S w b d x.prev) (k:Sl (Rp.int .i64) S w c e x.pick):l7Game.rp.rel S w [.slice a x.owner.length c0,.slice a1 x.prio.length c1,.slice a2 x.next.length c2,.slice b x.prev.length d,.slice c x.pick.length e] x:=
 ⟨_,_,rfl,⟨a,c0,rfl,f⟩,⟨_,_,rfl,⟨a1,c1,rfl,g⟩,⟨_,_,rfl,⟨a2,c2,rfl,i⟩,⟨_,_,rfl,⟨b,d,rfl,j⟩,⟨c,e,rfl,k⟩⟩⟩⟩⟩
structure l30Graph where
 of:(List Int)
 by0:(List Int)
 next:(List (List Int))
 letters:(List (List Int))
def l30Graph.rp:Rp l30Graph:=Rp.iso (Rp.pair (Rp.sl (Rp.int .i64)) (Rp.pair (Rp.sl (Rp.int .i64)) (Rp.pair (Rp.sl (Rp.sl (Rp.int .i64))) (Rp.sl (Rp.sl (Rp.int .i64)))))) (λx=>(x.of,x.by0,x.next,x.letters))
theorem l30Graph.un {S:Nat->Prop}{w:World}{cs:List Value}{x:l30Graph}(h:l30Graph.rp.rel S w cs x):∃a c,∃a1 c1,∃a2 c2,∃b d,cs=[.slice a x.of.length c,.slice a1 x.by0.length c1,.slice a2 x.next.length c2,.slice b x.letters.length d]/\Sl (Rp.int .i64) S w a c x.of/\Sl (Rp.int .i64) S w a1 c1 x.by0/\Sl (Rp.sl (Rp.int .i64)) S w a2 c2 x.next/\Sl (Rp.sl (Rp.int .i64)) S w b d x.letters:=by
 obtain⟨_,_,rfl,⟨a,c,rfl,e⟩,⟨_,_,rfl,⟨a1,c1,rfl,f⟩,⟨_,_,rfl,⟨a2,c2,rfl,g⟩,⟨b,d,rfl,i⟩⟩⟩⟩:=h
 exact⟨a,c,a1,c1,a2,c2,b,d,rfl,e,f,g,i⟩
theorem l30Graph.mk_rel {S:Nat->Prop}{w:World}{x:l30Graph}{a:Option Addr}{c0:Nat}{a1:Option Addr}{c1:Nat}{a2:Option Addr}{c2:Nat}{b:Option Addr}{c:Nat}(d:Sl (Rp.int .i64) S w a c0 x.of) (e:Sl (Rp.int .i64) S w a1 c1 x.by0) (f:Sl (Rp.sl (Rp.int .i64)) S w a2 c2 x.next) (g:Sl (Rp.sl (Rp.int .i64)) S w b c x.letters):l30Graph.rp.rel S w [.slice a x.of.length c0,.slice a1 x.by0.length c1,.slice a2 x.next.length c2,.slice b x.letters.length c] x:=
 ⟨_,_,rfl,⟨a,c0,rfl,d⟩,⟨_,_,rfl,⟨a1,c1,rfl,e⟩,⟨_,_,rfl,⟨a2,c2,rfl,f⟩,⟨b,c,rfl,g⟩⟩⟩⟩
structure boundsError where
 x:Int
 y:Int
 signed:Bool
 code:Int
def boundsError.rp:Rp boundsError:=Rp.iso (Rp.pair (Rp.int .i64) (Rp.pair (Rp.int .i64) (Rp.pair Rp.bool (Rp.int .u8)))) (λx=>(x.x,x.y,x.signed,x.code))
theorem boundsError.un {S:Nat->Prop}{w:World}{cs:List Value}{x:boundsError}(h:boundsError.rp.rel S w cs x):cs=[.int .i64 x.x,.int .i64 x.y,.bool x.signed,.int .u8 x.code]:=by
 obtain⟨_,_,rfl,rfl,⟨_,_,rfl,rfl,⟨_,_,rfl,rfl,rfl⟩⟩⟩:=h
 exact rfl
theorem boundsError.mk_rel {S:Nat->Prop}{w:World}{x:boundsError}:boundsError.rp.rel S w [.int .i64 x.x,.int .i64 x.y,.bool x.signed,.int .u8 x.code] x:=
 ⟨_,_,rfl,rfl,⟨_,_,rfl,rfl,⟨_,_,rfl,rfl,rfl⟩⟩⟩
structure errorAddressString where
 msg:ByteArray
 addr:Int
def errorAddressString.rp:Rp errorAddressString:=Rp.iso (Rp.pair Rp.str (Rp.int .u64)) (λx=>(x.msg,x.addr))
theorem errorAddressString.un {S:Nat->Prop}{w:World}{cs:List Value}{x:errorAddressString}(h:errorAddressString.rp.rel S w cs x):cs=[.string x.msg,.int .u64 x.addr]:=by
 obtain⟨_,_,rfl,rfl,rfl⟩:=h
 exact rfl
theorem errorAddressString.mk_rel {S:Nat->Prop}{w:World}{x:errorAddressString}:errorAddressString.rp.rel S w [.string x.msg,.int .u64 x.addr] x:=
 ⟨_,_,rfl,rfl,rfl⟩
structure dice where
 b:(List Int)
 i:Int
 h:Int
def dice.rp:Rp dice:=Rp.iso (Rp.pair (Rp.sl (Rp.int .u8)) (Rp.pair (Rp.int .i64) (Rp.int .u64))) (λx=>(x.b,x.i,x.h))
theorem dice.un {S:Nat->Prop}{w:World}{cs:List Value}{x:dice}(h:dice.rp.rel S w cs x):∃a b,cs=[.slice a x.b.length b,.int .i64 x.i,.int .u64 x.h]/\Sl (Rp.int .u8) S w a b x.b:=by
 obtain⟨_,_,rfl,⟨a,b,rfl,c⟩,⟨_,_,rfl,rfl,rfl⟩⟩:=h
 exact⟨a,b,rfl,c⟩
theorem dice.mk_rel {S:Nat->Prop}{w:World}{x:dice}{a:Option Addr}{c0:Nat}(b:Sl (Rp.int .u8) S w a c0 x.b):dice.rp.rel S w [.slice a x.b.length c0,.int .i64 x.i,.int .u64 x.h] x:=
 ⟨_,_,rfl,⟨a,c0,rfl,b⟩,⟨_,_,rfl,rfl,rfl⟩⟩
structure watch where
 next:(List (List Int))
 letters:(List (List Int))
 pairs:(List Pair)
def watch.rp:Rp watch:=Rp.iso (Rp.pair (Rp.sl (Rp.sl (Rp.int .i64))) (Rp.pair (Rp.sl (Rp.sl (Rp.int .i64))) (Rp.sl Pair.rp))) (λx=>(x.next,x.letters,x.pairs))
theorem watch.un {S:Nat->Prop}{w:World}{cs:List Value}{x:watch}(h:watch.rp.rel S w cs x):∃a b,∃a1 c1,∃a2 c2,cs=[.slice a x.next.length b,.slice a1 x.letters.length c1,.slice a2 x.pairs.length c2]/\Sl (Rp.sl (Rp.int .i64)) S w a b x.next/\Sl (Rp.sl (Rp.int .i64)) S w a1 c1 x.letters/\Sl Pair.rp S w a2 c2 x.pairs:=by
 obtain⟨_,_,rfl,⟨a,b,rfl,c⟩,⟨_,_,rfl,⟨a1,c1,rfl,d⟩,⟨a2,c2,rfl,e⟩⟩⟩:=h
 exact⟨a,b,a1,c1,a2,c2,rfl,c,d,e⟩
theorem watch.mk_rel {S:Nat->Prop}{w:World}{x:watch}{a:Option Addr}{c0:Nat}{a1:Option Addr}{c1:Nat}{a2:Option Addr}{c2:Nat}(b:Sl (Rp.sl (Rp.int .i64)) S w a c0 x.next) (c:Sl (Rp.sl (Rp.int .i64)) S w a1 c1 x.letters) (d:Sl Pair.rp S w a2 c2 x.pairs):watch.rp.rel S w [.slice a x.next.length c0,.slice a1 x.letters.length c1,.slice a2 x.pairs.length c2] x:=
 ⟨_,_,rfl,⟨a,c0,rfl,b⟩,⟨_,_,rfl,⟨a1,c1,rfl,c⟩,⟨a2,c2,rfl,d⟩⟩⟩
structure solver where
 game:Parity
 preds:(List (List Int))
def solver.rp:Rp solver:=Rp.iso (Rp.pair Parity.rp (Rp.sl (Rp.sl (Rp.int .i64)))) (λx=>(x.game,x.preds))
theorem solver.un {S:Nat->Prop}{w:World}{cs:List Value}{x:solver}(h:solver.rp.rel S w cs x):∃a c,∃a1 c1,∃a2 c2,∃b d,cs=[.slice a x.game.Arena.Owner.length c,.slice a1 x.game.Arena.Next.length c1,.slice a2 x.game.Prio.length c2,.slice b x.preds.length d]/\Sl (Rp.int .i64) S w a c x.game.Arena.Owner/\Sl (Rp.sl (Rp.int .i64)) S w a1 c1 x.game.Arena.Next/\Sl (Rp.int .i64) S w a2 c2 x.game.Prio/\Sl (Rp.sl (Rp.int .i64)) S w b d x.preds:=by
 obtain⟨_,_,rfl,⟨_,_,rfl,⟨_,_,rfl,⟨a,c,rfl,e⟩,⟨a1,c1,rfl,f⟩⟩,⟨a2,c2,rfl,g⟩⟩,⟨b,d,rfl,i⟩⟩:=h
 exact⟨a,c,a1,c1,a2,c2,b,d,rfl,e,f,g,i⟩
theorem solver.mk_rel {S:Nat->Prop}{w:World}{x:solver}{a:Option Addr}{c0:Nat}{a1:Option Addr}{c1:Nat}{a2:Option Addr}{c2:Nat}{b:Option Addr}{c:Nat}(d:Sl (Rp.int .i64) S w a c0 x.game.Arena.Owner) (e:Sl (Rp.sl (Rp.int .i64)) S w a1 c1 x.game.Arena.Next) (f:Sl (Rp.int .i64) S w a2 c2 x.game.Prio) (g:Sl (Rp.sl (Rp.int .i64)) S w b c x.preds):solver.rp.rel S w [.slice a x.game.Arena.Owner.length c0,.slice a1 x.game.Arena.Next.length c1,.slice a2 x.game.Prio.length c2,.slice b x.preds.length c] x:=
 ⟨_,_,rfl,⟨_,_,rfl,⟨_,_,rfl,⟨a,c0,rfl,d⟩,⟨a1,c1,rfl,e⟩⟩,⟨a2,c2,rfl,f⟩⟩,⟨b,c,rfl,g⟩⟩
def kvI2:(Int×Int)->Value:=λk=> .agg #[.int .i64 k.1,.int .i64 k.2]
def kwI2:(Int×Int)->Bool:=λk=>wf2 k.1 k.2
theorem ub:KeyE Tryz.prog 120 kvI2 kwI2:=⟨deep_law (m:=2) (by omega) (by kernel_rfl) (by kernel_rfl) (by kernel_rfl),λk h=>zM Tryz.underlying120 (by kernel_rfl) (m:=299) (by kernel_rfl) (by kernel_rfl) (by kernel_rfl) Tryz.underlying2 h,λk k' h=>by
 cases k;cases k'
 simp only[kvI2,Value.agg.injEq,Array.mk.injEq,List.cons.injEq,Value.int.injEq,true_and,and_true]at h
 obtain⟨h1,h2⟩:=h
 subst h1 h2
 rfl⟩
theorem a8:Tryz.prog.info? 2=some Tryz.t2:=by kernel_rfl
theorem dI:Tryz.prog.info? 4=some Tryz.t4:=by kernel_rfl
theorem bT:Tryz.prog.info? 37=some Tryz.t37:=by kernel_rfl
theorem ni:Tryz.prog.info? 67=some Tryz.t67:=by kernel_rfl
theorem tP:Tryz.prog.info? 71=some Tryz.t71:=by kernel_rfl
theorem jV:Tryz.prog.info? 88=some Tryz.t88:=by kernel_rfl
theorem gR:Tryz.prog.info? 120=some Tryz.t120:=by kernel_rfl
theorem cA:Tryz.prog.info? 127=some Tryz.t127:=by kernel_rfl
end Go.Proofs.YtleekpaohfpooaaGreat
