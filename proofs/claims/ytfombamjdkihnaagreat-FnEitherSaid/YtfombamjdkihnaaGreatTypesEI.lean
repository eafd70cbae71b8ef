/- The structs of the program as data. -/
import Derived.Test.YtfombamjdkihnaaGreatFbEI
import Derived.Test.YtfombamjdkihnaaGreatProg
set_option linter.unusedVariables false
set_option linter.unusedSimpArgs false
open Go.Wk.Rp renaming iso → Gn, pair → Gq
namespace Go.Proofs.YtfombamjdkihnaaGreat
open Go Go.Wk Go.Proofs
abbrev VI:=List Int
abbrev VB:=List Bool
abbrev VV:=List VI
abbrev Ri:=Rp.int .i64
abbrev Rs:=Rp.sl Ri
abbrev LO (b a:Type):=Option (b⊕(a⊕a))
structure Clause where
 Kind:Int
 A:VI
 B:VI
abbrev VC:=List Clause
def Clause.rp:Rp Clause:=Gn (Gq Ri (Gq Rs Rs)) (λa=>(a.Kind,a.A,a.B))
theorem Clause.un {S:Nat->Prop}{w:World}{e:List Value}{x:Clause}(h:Clause.rp.rel S w e x):∃a c,∃b d,e=[.int .i64 x.Kind,.slice a x.A.length c,.slice b x.B.length d]/\Sl Ri S w a c x.A/\Sl Ri S w b d x.B:=by
 obtain⟨_,_,rfl,rfl,⟨_,_,rfl,⟨a,c,rfl,f⟩,⟨b,d,rfl,g⟩⟩⟩:=h
 exact⟨a,c,b,d,rfl,f,g⟩
theorem Clause.mk_rel {S:Nat->Prop}{w:World}{x:Clause}{a:Option Addr}{c1:Nat}{b:Option Addr}{c2:Nat}(c:Sl Ri S w a c1 x.A) (d:Sl Ri S w b c2 x.B):Clause.rp.rel S w [.int .i64 x.Kind,.slice a x.A.length c1,.slice b x.B.length c2] x:=
 ⟨_,_,rfl,rfl,⟨_,_,rfl,⟨a,c1,rfl,c⟩,⟨b,c2,rfl,d⟩⟩⟩
def Clause.ep54:Ep Clause:=Ep.iso (Ep.pair (Ep.int .i64) (Ep.pair (Ep.own (Ep.int .i64) 2) (Ep.own (Ep.int .i64) 2))) (λa=>(a.Kind,a.A,a.B))
theorem Clause.no54:Clause.ep54.No:=A1 _ (vQ (bI _) (vQ (cK (bI _) _) (cK (bI _) _)))
structure Sig where
 In:Int
 Out:Int
def Sig.rp:Rp Sig:=Gn (Gq Ri Ri) (λa=>(a.In,a.Out))
theorem Sig.un {S:Nat->Prop}{w:World}{a:List Value}{x:Sig}(h:Sig.rp.rel S w a x):a=[.int .i64 x.In,.int .i64 x.Out]:=by
 obtain⟨_,_,rfl,rfl,rfl⟩:=h
 exact rfl
theorem Sig.mk_rel {S:Nat->Prop}{w:World}{x:Sig}:Sig.rp.rel S w [.int .i64 x.In,.int .i64 x.Out] x:=
 ⟨_,_,rfl,rfl,rfl⟩
structure Rival where
 In:VI
 Next:VV
def Rival.rp:Rp Rival:=Gn (Gq Rs (Rp.sl Rs)) (λa=>(a.In,a.Next))
theorem Rival.un {S:Nat->Prop}{w:World}{e:List Value}{x:Rival}(h:Rival.rp.rel S w e x):∃a c,∃b d,e=[.slice a x.In.length c,.slice b x.Next.length d]/\Sl Ri S w a c x.In/\Sl Rs S w b d x.Next:=by
 obtain⟨_,_,rfl,⟨a,c,rfl,f⟩,⟨b,d,rfl,g⟩⟩:=h
 exact⟨a,c,b,d,rfl,f,g⟩
theorem Rival.mk_rel {S:Nat->Prop}{w:World}{x:Rival}{a:Option Addr}{c0:Nat}{b:Option Addr}{c1:Nat}(c:Sl Ri S w a c0 x.In) (d:Sl Rs S w b c1 x.Next):Rival.rp.rel S w [.slice a x.In.length c0,.slice b x.Next.length c1] x:=
 ⟨_,_,rfl,⟨a,c0,rfl,c⟩,⟨b,c1,rfl,d⟩⟩
structure Machine where
 Next:VV
 Out:VV
def Machine.rp:Rp Machine:=Gn (Gq (Rp.sl Rs) (Rp.sl Rs)) (λa=>(a.Next,a.Out))
theorem Machine.un {S:Nat->Prop}{w:World}{e:List Value}{x:Machine}(h:Machine.rp.rel S w e x):∃a c,∃b d,e=[.slice a x.Next.length c,.slice b x.Out.length d]/\Sl Rs S w a c x.Next/\Sl Rs S w b d x.Out:=by
 obtain⟨_,_,rfl,⟨a,c,rfl,f⟩,⟨b,d,rfl,g⟩⟩:=h
 exact⟨a,c,b,d,rfl,f,g⟩
theorem Machine.mk_rel {S:Nat->Prop}{w:World}{x:Machine}{a:Option Addr}{c0:Nat}{b:Option Addr}{c1:Nat}(c:Sl Rs S w a c0 x.Next) (d:Sl Rs S w b c1 x.Out):Machine.rp.rel S w [.slice a x.Next.length c0,.slice b x.Out.length c1] x:=
 ⟨_,_,rfl,⟨a,c0,rfl,c⟩,⟨b,c1,rfl,d⟩⟩
structure Word where
 Stem:VI
 Loop:VI
def Word.rp:Rp Word:=Gn (Gq Rs Rs) (λa=>(a.Stem,a.Loop))
theorem Word.un {S:Nat->Prop}{w:World}{e:List Value}{x:Word}(h:Word.rp.rel S w e x):∃a c,∃b d,e=[.slice a x.Stem.length c,.slice b x.Loop.length d]/\Sl Ri S w a c x.Stem/\Sl Ri S w b d x.Loop:=by
 obtain⟨_,_,rfl,⟨a,c,rfl,f⟩,⟨b,d,rfl,g⟩⟩:=h
 exact⟨a,c,b,d,rfl,f,g⟩
theorem Word.mk_rel {S:Nat->Prop}{w:World}{x:Word}{a:Option Addr}{c0:Nat}{b:Option Addr}{c1:Nat}(c:Sl Ri S w a c0 x.Stem) (d:Sl Ri S w b c1 x.Loop):Word.rp.rel S w [.slice a x.Stem.length c0,.slice b x.Loop.length c1] x:=
 ⟨_,_,rfl,⟨a,c0,rfl,c⟩,⟨b,c1,rfl,d⟩⟩
structure Pair where
 Ask:VI
 Give:VI
abbrev VP:=List Pair
def Pair.rp:Rp Pair:=Gn (Gq Rs Rs) (λa=>(a.Ask,a.Give))
theorem Pair.un {S:Nat->Prop}{w:World}{e:List Value}{x:Pair}(h:Pair.rp.rel S w e x):∃a c,∃b d,e=[.slice a x.Ask.length c,.slice b x.Give.length d]/\Sl Ri S w a c x.Ask/\Sl Ri S w b d x.Give:=by
 obtain⟨_,_,rfl,⟨a,c,rfl,f⟩,⟨b,d,rfl,g⟩⟩:=h
 exact⟨a,c,b,d,rfl,f,g⟩
theorem Pair.mk_rel {S:Nat->Prop}{w:World}{x:Pair}{a:Option Addr}{c0:Nat}{b:Option Addr}{c1:Nat}(c:Sl Ri S w a c0 x.Ask) (d:Sl Ri S w b c1 x.Give):Pair.rp.rel S w [.slice a x.Ask.length c0,.slice b x.Give.length c1] x:=
 ⟨_,_,rfl,⟨a,c0,rfl,c⟩,⟨b,c1,rfl,d⟩⟩
def Pair.ep96:Ep Pair:=Ep.iso (Ep.pair (Ep.own (Ep.int .i64) 2) (Ep.own (Ep.int .i64) 2)) (λa=>(a.Ask,a.Give))
theorem Pair.no96:Pair.ep96.No:=A1 _ (vQ (cK (bI _) _) (cK (bI _) _))
structure Det where
 Next:VV
 Pairs:VP
def Det.rp:Rp Det:=Gn (Gq (Rp.sl Rs) (Rp.sl Pair.rp)) (λa=>(a.Next,a.Pairs))
theorem Det.un {S:Nat->Prop}{w:World}{e:List Value}{x:Det}(h:Det.rp.rel S w e x):∃a c,∃b d,e=[.slice a x.Next.length c,.slice b x.Pairs.length d]/\Sl Rs S w a c x.Next/\Sl Pair.rp S w b d x.Pairs:=by
 obtain⟨_,_,rfl,⟨a,c,rfl,f⟩,⟨b,d,rfl,g⟩⟩:=h
 exact⟨a,c,b,d,rfl,f,g⟩
theorem Det.mk_rel {S:Nat->Prop}{w:World}{x:Det}{a:Option Addr}{c0:Nat}{b:Option Addr}{c1:Nat}(c:Sl Rs S w a c0 x.Next) (d:Sl Pair.rp S w b c1 x.Pairs):Det.rp.rel S w [.slice a x.Next.length c0,.slice b x.Pairs.length c1] x:=
 ⟨_,_,rfl,⟨a,c0,rfl,c⟩,⟨b,c1,rfl,d⟩⟩
structure Arena where
 Owner:VI
 Next:VV
def Arena.rp:Rp Arena:=Gn (Gq Rs (Rp.sl Rs)) (λa=>(a.Owner,a.Next))
theorem Arena.un {S:Nat->Prop}{w:World}{e:List Value}{x:Arena}(h:Arena.rp.rel S w e x):∃a c,∃b d,e=[.slice a x.Owner.length c,.slice b x.Next.length d]/\Sl Ri S w a c x.Owner/\Sl Rs S w b d x.Next:=by
 obtain⟨_,_,rfl,⟨a,c,rfl,f⟩,⟨b,d,rfl,g⟩⟩:=h
 exact⟨a,c,b,d,rfl,f,g⟩
theorem Arena.mk_rel {S:Nat->Prop}{w:World}{x:Arena}{a:Option Addr}{c0:Nat}{b:Option Addr}{c1:Nat}(c:Sl Ri S w a c0 x.Owner) (d:Sl Rs S w b c1 x.Next):Arena.rp.rel S w [.slice a x.Owner.length c0,.slice b x.Next.length c1] x:=
 ⟨_,_,rfl,⟨a,c0,rfl,c⟩,⟨b,c1,rfl,d⟩⟩
structure Parity where
 Arena:Arena
 Prio:VI
def Parity.rp:Rp Parity:=Gn (Gq Arena.rp Rs) (λa=>(a.Arena,a.Prio))
theorem Parity.un {S:Nat->Prop}{w:World}{g:List Value}{x:Parity}(h:Parity.rp.rel S w g x):∃a d,∃b e,∃c f,g=[.slice a x.Arena.Owner.length d,.slice b x.Arena.Next.length e,.slice c x.Prio.length f]/\Sl Ri S w a d x.Arena.Owner/\Sl Rs S w b e x.Arena.Next/\Sl Ri S w c f x.Prio:=by
 obtain⟨_,_,rfl,⟨_,_,rfl,⟨a,d,rfl,i⟩,⟨b,e,rfl,j⟩⟩,⟨c,f,rfl,k⟩⟩:=h
 exact⟨a,d,b,e,c,f,rfl,i,j,k⟩
theorem Parity.mk_rel {S:Nat->Prop}{w:World}{x:Parity}{a:Option Addr}{c0:Nat}{b:Option Addr}{c1:Nat}{c:Option Addr}{c2:Nat}(d:Sl Ri S w a c0 x.Arena.Owner) (e:Sl Rs S w b c1 x.Arena.Next) (f:Sl Ri S w c c2 x.Prio):Parity.rp.rel S w [.slice a x.Arena.Owner.length c0,.slice b x.Arena.Next.length c1,.slice c x.Prio.length c2] x:=
 ⟨_,_,rfl,⟨_,_,rfl,⟨a,c0,rfl,d⟩,⟨b,c1,rfl,e⟩⟩,⟨c,c2,rfl,f⟩⟩
structure Place where
 At:Int
 Record:VI
abbrev VL:=List Place
def Place.rp:Rp Place:=Gn (Gq Ri Rs) (λa=>(a.At,a.Record))
theorem Place.un {S:Nat->Prop}{w:World}{c:List Value}{x:Place}(h:Place.rp.rel S w c x):∃a b,c=[.int .i64 x.At,.slice a x.Record.length b]/\Sl Ri S w a b x.Record:=by
 obtain⟨_,_,rfl,rfl,⟨a,b,rfl,d⟩⟩:=h
 exact⟨a,b,rfl,d⟩
theorem Place.mk_rel {S:Nat->Prop}{w:World}{x:Place}{a:Option Addr}{c1:Nat}(b:Sl Ri S w a c1 x.Record):Place.rp.rel S w [.int .i64 x.At,.slice a x.Record.length c1] x:=
 ⟨_,_,rfl,rfl,⟨a,c1,rfl,b⟩⟩
structure Answer where
 Won:VI
 Plan:VI
def Answer.rp:Rp Answer:=Gn (Gq Rs Rs) (λa=>(a.Won,a.Plan))
theorem Answer.un {S:Nat->Prop}{w:World}{e:List Value}{x:Answer}(h:Answer.rp.rel S w e x):∃a c,∃b d,e=[.slice a x.Won.length c,.slice b x.Plan.length d]/\Sl Ri S w a c x.Won/\Sl Ri S w b d x.Plan:=by
 obtain⟨_,_,rfl,⟨a,c,rfl,f⟩,⟨b,d,rfl,g⟩⟩:=h
 exact⟨a,c,b,d,rfl,f,g⟩
theorem Answer.mk_rel {S:Nat->Prop}{w:World}{x:Answer}{a:Option Addr}{c0:Nat}{b:Option Addr}{c1:Nat}(c:Sl Ri S w a c0 x.Won) (d:Sl Ri S w b c1 x.Plan):Answer.rp.rel S w [.slice a x.Won.length c0,.slice b x.Plan.length c1] x:=
 ⟨_,_,rfl,⟨a,c0,rfl,c⟩,⟨b,c1,rfl,d⟩⟩
structure l7Game where
 owner:VI
 prio:VI
 next:VV
 prev:VV
 pick:VI
def l7Game.rp:Rp l7Game:=Gn (Gq Rs (Gq Rs (Gq (Rp.sl Rs) (Gq (Rp.sl Rs) Rs)))) (λa=>(a.owner,a.prio,a.next,a.prev,a.pick))
theorem l7Game.un {S:Nat->Prop}{w:World}{l:List Value}{x:l7Game}(h:l7Game.rp.rel S w l x):∃a f,∃b g,∃c i,∃d j,∃e k,l=[.slice a x.owner.length f,.slice b x.prio.length g,.slice c x.next.length i,.slice d x.prev.length j,.slice e x.pick.length k]/\Sl Ri S w a f x.owner/\Sl Ri S w b g x.prio/\Sl Rs S w c i x.next/\Sl Rs S w d j x.prev/\Sl Ri S w e k x.pick:=by
 obtain⟨_,_,rfl,⟨a,f,rfl,m⟩,⟨_,_,rfl,⟨b,g,rfl,n⟩,⟨_,_,rfl,⟨c,i,rfl,o⟩,⟨_,_,rfl,⟨d,j,rfl,p⟩,⟨e,k,rfl,q⟩⟩⟩⟩⟩:=h
 exact⟨a,f,b,g,c,i,d,j,e,k,rfl,m,n,o,p,q⟩
theorem l7Game.mk_rel {S:Nat->Prop}{w:World}{x:l7Game}{a:Option Addr}{c0:Nat}{b:Option Addr}{c1:Nat}{c:Option Addr}{c2:Nat}{d:Option Addr}{c3:Nat}{e:Option Addr}{f:Nat}(g:Sl Ri S w a c0 x.owner) (i:Sl Ri S w b c1 x.prio) (j:Sl Rs S w c c2 x.next) (k:Sl Rs S w d c3 x.prev) (l:Sl Ri S w e f x.pick):l7Game.rp.rel S w [.slice a x.owner.length c0,.slice b x.prio.length c1,.slice c x.next.length c2,.slice d x.prev.length c3,.slice e x.pick.length f] x:=
 ⟨_,_,rfl,⟨a,c0,rfl,g⟩,⟨_,_,rfl,⟨b,c1,rfl,i⟩,⟨_,_,rfl,⟨c,c2,rfl,j⟩,⟨_,_,rfl,⟨d,c3,rfl,k⟩,⟨e,f,rfl,l⟩⟩⟩⟩⟩
structure boundsError where
 x:Int
 y:Int
 signed:Bool
 code:Int
def boundsError.rp:Rp boundsError:=Gn (Gq Ri (Gq Ri (Gq Rp.bool (Rp.int .u8)))) (λa=>(a.x,a.y,a.signed,a.code))
theorem boundsError.un {S:Nat->Prop}{w:World}{a:List Value}{x:boundsError}(h:boundsError.rp.rel S w a x):a=[.int .i64 x.x,.int .i64 x.y,.bool x.signed,.int .u8 x.code]:=by
 obtain⟨_,_,rfl,rfl,⟨_,_,rfl,rfl,⟨_,_,rfl,rfl,rfl⟩⟩⟩:=h
 exact rfl
theorem boundsError.mk_rel {S:Nat->Prop}{w:World}{x:boundsError}:boundsError.rp.rel S w [.int .i64 x.x,.int .i64 x.y,.bool x.signed,.int .u8 x.code] x:=
 ⟨_,_,rfl,rfl,⟨_,_,rfl,rfl,⟨_,_,rfl,rfl,rfl⟩⟩⟩
structure errorAddressString where
 msg:ByteArray
 addr:Int
def errorAddressString.rp:Rp errorAddressString:=Gn (Gq Rp.str (Rp.int .u64)) (λa=>(a.msg,a.addr))
theorem errorAddressString.un {S:Nat->Prop}{w:World}{a:List Value}{x:errorAddressString}(h:errorAddressString.rp.rel S w a x):a=[.string x.msg,.int .u64 x.addr]:=by
 obtain⟨_,_,rfl,rfl,rfl⟩:=h
 exact rfl
theorem errorAddressString.mk_rel {S:Nat->Prop}{w:World}{x:errorAddressString}:errorAddressString.rp.rel S w [.string x.msg,.int .u64 x.addr] x:=
 ⟨_,_,rfl,rfl,rfl⟩
structure dice where
 b:VI
 i:Int
 h:Int
def dice.rp:Rp dice:=Gn (Gq (Rp.sl (Rp.int .u8)) (Gq Ri (Rp.int .u64))) (λa=>(a.b,a.i,a.h))
theorem dice.un {S:Nat->Prop}{w:World}{c:List Value}{x:dice}(h:dice.rp.rel S w c x):∃a b,c=[.slice a x.b.length b,.int .i64 x.i,.int .u64 x.h]/\Sl (Rp.int .u8) S w a b x.b:=by
 obtain⟨_,_,rfl,⟨a,b,rfl,d⟩,⟨_,_,rfl,rfl,rfl⟩⟩:=h
 exact⟨a,b,rfl,d⟩
theorem dice.mk_rel {S:Nat->Prop}{w:World}{x:dice}{a:Option Addr}{c0:Nat}(b:Sl (Rp.int .u8) S w a c0 x.b):dice.rp.rel S w [.slice a x.b.length c0,.int .i64 x.i,.int .u64 x.h] x:=
 ⟨_,_,rfl,⟨a,c0,rfl,b⟩,⟨_,_,rfl,rfl,rfl⟩⟩
structure solver where
 game:Parity
 preds:VV
def solver.rp:Rp solver:=Gn (Gq Parity.rp (Rp.sl Rs)) (λa=>(a.game,a.preds))
theorem solver.un {S:Nat->Prop}{w:World}{j:List Value}{x:solver}(h:solver.rp.rel S w j x):∃a e,∃b f,∃c g,∃d i,j=[.slice a x.game.Arena.Owner.length e,.slice b x.game.Arena.Next.length f,.slice c x.game.Prio.length g,.slice d x.preds.length i]/\Sl Ri S w a e x.game.Arena.Owner/\Sl Rs S w b f x.game.Arena.Next/\Sl Ri S w c g x.game.Prio/\Sl Rs S w d i x.preds:=by
 obtain⟨_,_,rfl,⟨_,_,rfl,⟨_,_,rfl,⟨a,e,rfl,k⟩,⟨b,f,rfl,l⟩⟩,⟨c,g,rfl,m⟩⟩,⟨d,i,rfl,n⟩⟩:=h
 exact⟨a,e,b,f,c,g,d,i,rfl,k,l,m,n⟩
theorem solver.mk_rel {S:Nat->Prop}{w:World}{x:solver}{a:Option Addr}{c0:Nat}{b:Option Addr}{c1:Nat}{c:Option Addr}{c2:Nat}{d:Option Addr}{c3:Nat}(e:Sl Ri S w a c0 x.game.Arena.Owner) (f:Sl Rs S w b c1 x.game.Arena.Next) (g:Sl Ri S w c c2 x.game.Prio) (i:Sl Rs S w d c3 x.preds):solver.rp.rel S w [.slice a x.game.Arena.Owner.length c0,.slice b x.game.Arena.Next.length c1,.slice c x.game.Prio.length c2,.slice d x.preds.length c3] x:=
 ⟨_,_,rfl,⟨_,_,rfl,⟨_,_,rfl,⟨a,c0,rfl,e⟩,⟨b,c1,rfl,f⟩⟩,⟨c,c2,rfl,g⟩⟩,⟨d,c3,rfl,i⟩⟩
def kvI2:(Int×Int)->Value:=λa=> .agg #[.int .i64 a.1,.int .i64 a.2]
def kwI2:(Int×Int)->Bool:=λa=>wf2 a.1 a.2
theorem tK:KeyE Tryz.prog 88 kvI2 kwI2:=⟨deep_law (m:=2) (by omega) (by kernel_rfl) (by kernel_rfl) (by kernel_rfl),λa h=>DI Tryz.underlying88 (by kernel_rfl) (m:=255) (by kernel_rfl) (by kernel_rfl) (by kernel_rfl) Tryz.underlying2 h,λa d h=>by
 cases a;cases d
 simp only[kvI2,Value.agg.injEq,Array.mk.injEq,List.cons.injEq,Value.int.injEq,true_and,and_true]at h
 obtain⟨b,c⟩:=h
 subst b c
 rfl⟩
theorem bG:Tryz.prog.info? 2=some Tryz.t2:=by kernel_rfl
theorem zQ:Tryz.prog.info? 3=some Tryz.t3:=by kernel_rfl
theorem cI:Tryz.prog.info? 4=some Tryz.t4:=by kernel_rfl
theorem bL:Tryz.prog.info? 31=some Tryz.t31:=by kernel_rfl
theorem qa:Tryz.prog.info? 54=some Tryz.t54:=by kernel_rfl
theorem yp:Tryz.prog.info? 58=some Tryz.t58:=by kernel_rfl
theorem fH:Tryz.prog.info? 76=some Tryz.t76:=by kernel_rfl
theorem jf:Tryz.prog.info? 88=some Tryz.t88:=by kernel_rfl
theorem cN:Tryz.prog.info? 96=some Tryz.t96:=by kernel_rfl
theorem j0:Tryz.prog.info? 129=some Tryz.t129:=by kernel_rfl
end Go.Proofs.YtfombamjdkihnaaGreat
