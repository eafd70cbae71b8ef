/- The structs of the program as data. -/
import Derived.Test.YtldlmopdhmaceaaGreatDoorFbBE
import Derived.Test.YtldlmopdhmaceaaGreatDoorTextBE
import Derived.Test.YtldlmopdhmaceaaGreatDoorProg
set_option linter.unusedVariables false
set_option linter.unusedSimpArgs false
open Go.Wk.Rp renaming iso → Hp, pair → Hq, sl → Hr
namespace Go.Proofs.YtldlmopdhmaceaaGreatDoor
open Go Go.Wk Go.Proofs
abbrev VI:=List Int
abbrev VB:=List Bool
abbrev VV:=List VI
abbrev Ri:=Rp.int .i64
abbrev Rs:=Hr Ri
abbrev LO (b a:Type):=Option (b⊕(a⊕a))
def lV:List ByteArray:=[ByteArray.mk #[97,108,119,97,121,115],ByteArray.mk #[110,101,120,116],ByteArray.mk #[97,110,115,119,101,114],ByteArray.mk #[111,102,116,101,110],ByteArray.mk #[115,116,97,121,115],ByteArray.mk #[111,110,99,101],ByteArray.mk #[102,97,105,114]]
structure Clause where
 Kind:Int
 A:VI
 B:VI
abbrev VC:=List Clause
def Clause.rp:Rp Clause:=Hp (Hq Ri (Hq Rs Rs)) (λa=>(a.Kind,a.A,a.B))
theorem Clause.un {S:Nat->Prop}{w:World}{e:List Value}{x:Clause}(h:Clause.rp.rel S w e x):∃a c,∃b d,e=[.int .i64 x.Kind,.slice a x.A.length c,.slice b x.B.length d]/\Sl Ri S w a c x.A/\Sl Ri S w b d x.B:=by
 obtain⟨_,_,rfl,rfl,⟨_,_,rfl,⟨a,c,rfl,f⟩,⟨b,d,rfl,g⟩⟩⟩:=h
 exact⟨a,c,b,d,rfl,f,g⟩
theorem Clause.mk_rel {S:Nat->Prop}{w:World}{x:Clause}{a:Option Addr}{c:Nat}{b:Option Addr}{d:Nat}(e:Sl Ri S w a c x.A) (f:Sl Ri S w b d x.B):Clause.rp.rel S w [.int .i64 x.Kind,.slice a x.A.length c,.slice b x.B.length d] x:=
 ⟨_,_,rfl,rfl,⟨_,_,rfl,⟨a,c,rfl,e⟩,⟨b,d,rfl,f⟩⟩⟩
def Clause.ep32:Ep Clause:=Ep.iso (Ep.pair (Ep.int .i64) (Ep.pair (Ep.own (Ep.int .i64) 2) (Ep.own (Ep.int .i64) 2))) (λa=>(a.Kind,a.A,a.B))
theorem Clause.no32:Clause.ep32.No:=BM _ (wE (bW _) (wE (cF (bW _) _) (cF (bW _) _)))
structure Sig where
 In:Int
 Out:Int
def Sig.rp:Rp Sig:=Hp (Hq Ri Ri) (λa=>(a.In,a.Out))
theorem Sig.un {S:Nat->Prop}{w:World}{a:List Value}{x:Sig}(h:Sig.rp.rel S w a x):a=[.int .i64 x.In,.int .i64 x.Out]:=by
 obtain⟨_,_,rfl,rfl,rfl⟩:=h
 exact rfl
theorem Sig.mk_rel {S:Nat->Prop}{w:World}{x:Sig}:Sig.rp.rel S w [.int .i64 x.In,.int .i64 x.Out] x:=
 ⟨_,_,rfl,rfl,rfl⟩
structure Pair where
 Ask:VI
 Give:VI
abbrev VP:=List Pair
def Pair.rp:Rp Pair:=Hp (Hq Rs Rs) (λa=>(a.Ask,a.Give))
theorem Pair.un {S:Nat->Prop}{w:World}{e:List Value}{x:Pair}(h:Pair.rp.rel S w e x):∃a c,∃b d,e=[.slice a x.Ask.length c,.slice b x.Give.length d]/\Sl Ri S w a c x.Ask/\Sl Ri S w b d x.Give:=by
 obtain⟨_,_,rfl,⟨a,c,rfl,f⟩,⟨b,d,rfl,g⟩⟩:=h
 exact⟨a,c,b,d,rfl,f,g⟩
theorem Pair.mk_rel {S:Nat->Prop}{w:World}{x:Pair}{a:Option Addr}{c0:Nat}{b:Option Addr}{c:Nat}(d:Sl Ri S w a c0 x.Ask) (e:Sl Ri S w b c x.Give):Pair.rp.rel S w [.slice a x.Ask.length c0,.slice b x.Give.length c] x:=
 ⟨_,_,rfl,⟨a,c0,rfl,d⟩,⟨b,c,rfl,e⟩⟩
def Pair.ep120:Ep Pair:=Ep.iso (Ep.pair (Ep.own (Ep.int .i64) 2) (Ep.own (Ep.int .i64) 2)) (λa=>(a.Ask,a.Give))
theorem Pair.no120:Pair.ep120.No:=BM _ (wE (cF (bW _) _) (cF (bW _) _))
structure Det where
 Next:VV
 Pairs:VP
def Det.rp:Rp Det:=Hp (Hq (Hr Rs) (Hr Pair.rp)) (λa=>(a.Next,a.Pairs))
theorem Det.un {S:Nat->Prop}{w:World}{e:List Value}{x:Det}(h:Det.rp.rel S w e x):∃a c,∃b d,e=[.slice a x.Next.length c,.slice b x.Pairs.length d]/\Sl Rs S w a c x.Next/\Sl Pair.rp S w b d x.Pairs:=by
 obtain⟨_,_,rfl,⟨a,c,rfl,f⟩,⟨b,d,rfl,g⟩⟩:=h
 exact⟨a,c,b,d,rfl,f,g⟩
theorem Det.mk_rel {S:Nat->Prop}{w:World}{x:Det}{a:Option Addr}{c0:Nat}{b:Option Addr}{c:Nat}(d:Sl Rs S w a c0 x.Next) (e:Sl Pair.rp S w b c x.Pairs):Det.rp.rel S w [.slice a x.Next.length c0,.slice b x.Pairs.length c] x:=
 ⟨_,_,rfl,⟨a,c0,rfl,d⟩,⟨b,c,rfl,e⟩⟩
structure Arena where
 Owner:VI
 Next:VV
def Arena.rp:Rp Arena:=Hp (Hq Rs (Hr Rs)) (λa=>(a.Owner,a.Next))
theorem Arena.un {S:Nat->Prop}{w:World}{e:List Value}{x:Arena}(h:Arena.rp.rel S w e x):∃a c,∃b d,e=[.slice a x.Owner.length c,.slice b x.Next.length d]/\Sl Ri S w a c x.Owner/\Sl Rs S w b d x.Next:=by
 obtain⟨_,_,rfl,⟨a,c,rfl,f⟩,⟨b,d,rfl,g⟩⟩:=h
 exact⟨a,c,b,d,rfl,f,g⟩
theorem Arena.mk_rel {S:Nat->Prop}{w:World}{x:Arena}{a:Option Addr}{c0:Nat}{b:Option Addr}{c:Nat}(d:Sl Ri S w a c0 x.Owner) (e:Sl Rs S w b c x.Next):Arena.rp.rel S w [.slice a x.Owner.length c0,.slice b x.Next.length c] x:=
 ⟨_,_,rfl,⟨a,c0,rfl,d⟩,⟨b,c,rfl,e⟩⟩
structure Parity where
 Arena:Arena
 Prio:VI
def Parity.rp:Rp Parity:=Hp (Hq Arena.rp Rs) (λa=>(a.Arena,a.Prio))
theorem Parity.un {S:Nat->Prop}{w:World}{g:List Value}{x:Parity}(h:Parity.rp.rel S w g x):∃a d,∃b e,∃c f,g=[.slice a x.Arena.Owner.length d,.slice b x.Arena.Next.length e,.slice c x.Prio.length f]/\Sl Ri S w a d x.Arena.Owner/\Sl Rs S w b e x.Arena.Next/\Sl Ri S w c f x.Prio:=by
 obtain⟨_,_,rfl,⟨_,_,rfl,⟨a,d,rfl,i⟩,⟨b,e,rfl,j⟩⟩,⟨c,f,rfl,k⟩⟩:=h
 exact⟨a,d,b,e,c,f,rfl,i,j,k⟩
theorem Parity.mk_rel {S:Nat->Prop}{w:World}{x:Parity}{a:Option Addr}{c0:Nat}{b:Option Addr}{d:Nat}{c:Option Addr}{e:Nat}(f:Sl Ri S w a c0 x.Arena.Owner) (g:Sl Rs S w b d x.Arena.Next) (i:Sl Ri S w c e x.Prio):Parity.rp.rel S w [.slice a x.Arena.Owner.length c0,.slice b x.Arena.Next.length d,.slice c x.Prio.length e] x:=
 ⟨_,_,rfl,⟨_,_,rfl,⟨a,c0,rfl,f⟩,⟨b,d,rfl,g⟩⟩,⟨c,e,rfl,i⟩⟩
structure Machine where
 Next:VV
 Out:VV
def Machine.rp:Rp Machine:=Hp (Hq (Hr Rs) (Hr Rs)) (λa=>(a.Next,a.Out))
theorem Machine.un {S:Nat->Prop}{w:World}{e:List Value}{x:Machine}(h:Machine.rp.rel S w e x):∃a c,∃b d,e=[.slice a x.Next.length c,.slice b x.Out.length d]/\Sl Rs S w a c x.Next/\Sl Rs S w b d x.Out:=by
 obtain⟨_,_,rfl,⟨a,c,rfl,f⟩,⟨b,d,rfl,g⟩⟩:=h
 exact⟨a,c,b,d,rfl,f,g⟩
theorem Machine.mk_rel {S:Nat->Prop}{w:World}{x:Machine}{a:Option Addr}{c0:Nat}{b:Option Addr}{c:Nat}(d:Sl Rs S w a c0 x.Next) (e:Sl Rs S w b c x.Out):Machine.rp.rel S w [.slice a x.Next.length c0,.slice b x.Out.length c] x:=
 ⟨_,_,rfl,⟨a,c0,rfl,d⟩,⟨b,c,rfl,e⟩⟩
structure Rival where
 In:VI
 Next:VV
def Rival.rp:Rp Rival:=Hp (Hq Rs (Hr Rs)) (λa=>(a.In,a.Next))
theorem Rival.un {S:Nat->Prop}{w:World}{e:List Value}{x:Rival}(h:Rival.rp.rel S w e x):∃a c,∃b d,e=[.slice a x.In.length c,.slice b x.Next.length d]/\Sl Ri S w a c x.In/\Sl Rs S w b d x.Next:=by
 obtain⟨_,_,rfl,⟨a,c,rfl,f⟩,⟨b,d,rfl,g⟩⟩:=h
 exact⟨a,c,b,d,rfl,f,g⟩
theorem Rival.mk_rel {S:Nat->Prop}{w:World}{x:Rival}{a:Option Addr}{c0:Nat}{b:Option Addr}{c:Nat}(d:Sl Ri S w a c0 x.In) (e:Sl Rs S w b c x.Next):Rival.rp.rel S w [.slice a x.In.length c0,.slice b x.Next.length c] x:=
 ⟨_,_,rfl,⟨a,c0,rfl,d⟩,⟨b,c,rfl,e⟩⟩
structure Word where
 Stem:VI
 Loop:VI
def Word.rp:Rp Word:=Hp (Hq Rs Rs) (λa=>(a.Stem,a.Loop))
theorem Word.un {S:Nat->Prop}{w:World}{e:List Value}{x:Word}(h:Word.rp.rel S w e x):∃a c,∃b d,e=[.slice a x.Stem.length c,.slice b x.Loop.length d]/\Sl Ri S w a c x.Stem/\Sl Ri S w b d x.Loop:=by
 obtain⟨_,_,rfl,⟨a,c,rfl,f⟩,⟨b,d,rfl,g⟩⟩:=h
 exact⟨a,c,b,d,rfl,f,g⟩
theorem Word.mk_rel {S:Nat->Prop}{w:World}{x:Word}{a:Option Addr}{c0:Nat}{b:Option Addr}{c:Nat}(d:Sl Ri S w a c0 x.Stem) (e:Sl Ri S w b c x.Loop):Word.rp.rel S w [.slice a x.Stem.length c0,.slice b x.Loop.length c] x:=
 ⟨_,_,rfl,⟨a,c0,rfl,d⟩,⟨b,c,rfl,e⟩⟩
structure Edit where
 Kind:Int
 V:Int
 N:Int
def Edit.rp:Rp Edit:=Hp (Hq Ri (Hq Ri Ri)) (λa=>(a.Kind,a.V,a.N))
theorem Edit.un {S:Nat->Prop}{w:World}{a:List Value}{x:Edit}(h:Edit.rp.rel S w a x):a=[.int .i64 x.Kind,.int .i64 x.V,.int .i64 x.N]:=by
 obtain⟨_,_,rfl,rfl,⟨_,_,rfl,rfl,rfl⟩⟩:=h
 exact rfl
theorem Edit.mk_rel {S:Nat->Prop}{w:World}{x:Edit}:Edit.rp.rel S w [.int .i64 x.Kind,.int .i64 x.V,.int .i64 x.N] x:=
 ⟨_,_,rfl,rfl,⟨_,_,rfl,rfl,rfl⟩⟩
structure Place where
 At:Int
 Record:VI
abbrev VL:=List Place
def Place.rp:Rp Place:=Hp (Hq Ri Rs) (λa=>(a.At,a.Record))
theorem Place.un {S:Nat->Prop}{w:World}{c:List Value}{x:Place}(h:Place.rp.rel S w c x):∃a b,c=[.int .i64 x.At,.slice a x.Record.length b]/\Sl Ri S w a b x.Record:=by
 obtain⟨_,_,rfl,rfl,⟨a,b,rfl,d⟩⟩:=h
 exact⟨a,b,rfl,d⟩
theorem Place.mk_rel {S:Nat->Prop}{w:World}{x:Place}{a:Option Addr}{b:Nat}(c:Sl Ri S w a b x.Record):Place.rp.rel S w [.int .i64 x.At,.slice a x.Record.length b] x:=
 ⟨_,_,rfl,rfl,⟨a,b,rfl,c⟩⟩
structure Answer where
 Won:VI
 Plan:VI
def Answer.rp:Rp Answer:=Hp (Hq Rs Rs) (λa=>(a.Won,a.Plan))
theorem Answer.un {S:Nat->Prop}{w:World}{e:List Value}{x:Answer}(h:Answer.rp.rel S w e x):∃a c,∃b d,e=[.slice a x.Won.length c,.slice b x.Plan.length d]/\Sl Ri S w a c x.Won/\Sl Ri S w b d x.Plan:=by
 obtain⟨_,_,rfl,⟨a,c,rfl,f⟩,⟨b,d,rfl,g⟩⟩:=h
 exact⟨a,c,b,d,rfl,f,g⟩
theorem Answer.mk_rel {S:Nat->Prop}{w:World}{x:Answer}{a:Option Addr}{c0:Nat}{b:Option Addr}{c:Nat}(d:Sl Ri S w a c0 x.Won) (e:Sl Ri S w b c x.Plan):Answer.rp.rel S w [.slice a x.Won.length c0,.slice b x.Plan.length c] x:=
 ⟨_,_,rfl,⟨a,c0,rfl,d⟩,⟨b,c,rfl,e⟩⟩
structure l7Game where
 owner:VI
 prio:VI
 next:VV
 prev:VV
 pick:VI
def l7Game.rp:Rp l7Game:=Hp (Hq Rs (Hq Rs (Hq (Hr Rs) (Hq (Hr Rs) Rs)))) (λa=>(a.owner,a.prio,a.next,a.prev,a.pick))
theorem l7Game.un {S:Nat->Prop}{w:World}{l:List Value}{x:l7Game}(h:l7Game.rp.rel S w l x):∃a f,∃b g,∃c i,∃d j,∃e k,l=[.slice a x.owner.length f,.slice b x.prio.length g,.slice c x.next.length i,.slice d x.prev.length j,.slice e x.pick.length k]/\Sl Ri S w a f x.owner/\Sl Ri S w b g x.prio/\Sl Rs S w c i x.next/\Sl Rs S w d j x.prev/\Sl Ri S w e k x.pick:=by
 obtain⟨_,_,rfl,⟨a,f,rfl,m⟩,⟨_,_,rfl,⟨b,g,rfl,n⟩,⟨_,_,rfl,⟨c,i,rfl,o⟩,⟨_,_,rfl,⟨d,j,rfl,p⟩,⟨e,k,rfl,q⟩⟩⟩⟩⟩:=h
 exact⟨a,f,b,g,c,i,d,j,e,k,rfl,m,n,o,p,q⟩
theorem l7Game.mk_rel {S:Nat->Prop}{w:World}{x:l7Game}{a:Option Addr}{c0:Nat}{b:Option Addr}{f:Nat}{c:Option Addr}{g:Nat}{d:Option Addr}{c3:Nat}{e:Option Addr}{i:Nat}(j:Sl Ri S w a c0 x.owner) (k:Sl Ri S w b f x.prio) (l:Sl Rs S w c g x.next) (m:Sl Rs S w d c3 x.prev) (n:Sl Ri S w e i x.pick):l7Game.rp.rel S w [.slice a x.owner.length c0,.slice b x.prio.length f,.slice c x.next.length g,.slice d x.prev.length c3,.slice e x.pick.length i] x:=
 ⟨_,_,rfl,⟨a,c0,rfl,j⟩,⟨_,_,rfl,⟨b,f,rfl,k⟩,⟨_,_,rfl,⟨c,g,rfl,l⟩,⟨_,_,rfl,⟨d,c3,rfl,m⟩,⟨e,i,rfl,n⟩⟩⟩⟩⟩
structure Worth where
 Head:Int
 Over:VI
 Way:Int
def Worth.rp:Rp Worth:=Hp (Hq Ri (Hq Rs Ri)) (λa=>(a.Head,a.Over,a.Way))
theorem Worth.un {S:Nat->Prop}{w:World}{c:List Value}{x:Worth}(h:Worth.rp.rel S w c x):∃a b,c=[.int .i64 x.Head,.slice a x.Over.length b,.int .i64 x.Way]/\Sl Ri S w a b x.Over:=by
 obtain⟨_,_,rfl,rfl,⟨_,_,rfl,⟨a,b,rfl,d⟩,rfl⟩⟩:=h
 exact⟨a,b,rfl,d⟩
theorem Worth.mk_rel {S:Nat->Prop}{w:World}{x:Worth}{a:Option Addr}{b:Nat}(c:Sl Ri S w a b x.Over):Worth.rp.rel S w [.int .i64 x.Head,.slice a x.Over.length b,.int .i64 x.Way] x:=
 ⟨_,_,rfl,rfl,⟨_,_,rfl,⟨a,b,rfl,c⟩,rfl⟩⟩
structure Stage where
 Won:VI
 Region:VI
 At:Int
def Stage.rp:Rp Stage:=Hp (Hq Rs (Hq Rs Ri)) (λa=>(a.Won,a.Region,a.At))
theorem Stage.un {S:Nat->Prop}{w:World}{e:List Value}{x:Stage}(h:Stage.rp.rel S w e x):∃a c,∃b d,e=[.slice a x.Won.length c,.slice b x.Region.length d,.int .i64 x.At]/\Sl Ri S w a c x.Won/\Sl Ri S w b d x.Region:=by
 obtain⟨_,_,rfl,⟨a,c,rfl,f⟩,⟨_,_,rfl,⟨b,d,rfl,g⟩,rfl⟩⟩:=h
 exact⟨a,c,b,d,rfl,f,g⟩
theorem Stage.mk_rel {S:Nat->Prop}{w:World}{x:Stage}{a:Option Addr}{c0:Nat}{b:Option Addr}{c:Nat}(d:Sl Ri S w a c0 x.Won) (e:Sl Ri S w b c x.Region):Stage.rp.rel S w [.slice a x.Won.length c0,.slice b x.Region.length c,.int .i64 x.At] x:=
 ⟨_,_,rfl,⟨a,c0,rfl,d⟩,⟨_,_,rfl,⟨b,c,rfl,e⟩,rfl⟩⟩
structure Lasso where
 Stem:VI
 Loop:VI
def Lasso.rp:Rp Lasso:=Hp (Hq Rs Rs) (λa=>(a.Stem,a.Loop))
theorem Lasso.un {S:Nat->Prop}{w:World}{e:List Value}{x:Lasso}(h:Lasso.rp.rel S w e x):∃a c,∃b d,e=[.slice a x.Stem.length c,.slice b x.Loop.length d]/\Sl Ri S w a c x.Stem/\Sl Ri S w b d x.Loop:=by
 obtain⟨_,_,rfl,⟨a,c,rfl,f⟩,⟨b,d,rfl,g⟩⟩:=h
 exact⟨a,c,b,d,rfl,f,g⟩
theorem Lasso.mk_rel {S:Nat->Prop}{w:World}{x:Lasso}{a:Option Addr}{c0:Nat}{b:Option Addr}{c:Nat}(d:Sl Ri S w a c0 x.Stem) (e:Sl Ri S w b c x.Loop):Lasso.rp.rel S w [.slice a x.Stem.length c0,.slice b x.Loop.length c] x:=
 ⟨_,_,rfl,⟨a,c0,rfl,d⟩,⟨b,c,rfl,e⟩⟩
structure boundsError where
 x:Int
 y:Int
 signed:Bool
 code:Int
def boundsError.rp:Rp boundsError:=Hp (Hq Ri (Hq Ri (Hq Rp.bool (Rp.int .u8)))) (λa=>(a.x,a.y,a.signed,a.code))
theorem boundsError.un {S:Nat->Prop}{w:World}{a:List Value}{x:boundsError}(h:boundsError.rp.rel S w a x):a=[.int .i64 x.x,.int .i64 x.y,.bool x.signed,.int .u8 x.code]:=by
 obtain⟨_,_,rfl,rfl,⟨_,_,rfl,rfl,⟨_,_,rfl,rfl,rfl⟩⟩⟩:=h
 exact rfl
theorem boundsError.mk_rel {S:Nat->Prop}{w:World}{x:boundsError}:boundsError.rp.rel S w [.int .i64 x.x,.int .i64 x.y,.bool x.signed,.int .u8 x.code] x:=
 ⟨_,_,rfl,rfl,⟨_,_,rfl,rfl,⟨_,_,rfl,rfl,rfl⟩⟩⟩
structure errorAddressString where
 msg:ByteArray
 addr:Int
def errorAddressString.rp:Rp errorAddressString:=Hp (Hq Rp.str (Rp.int .u64)) (λa=>(a.msg,a.addr))
theorem errorAddressString.un {S:Nat->Prop}{w:World}{a:List Value}{x:errorAddressString}(h:errorAddressString.rp.rel S w a x):a=[.string x.msg,.int .u64 x.addr]:=by
 obtain⟨_,_,rfl,rfl,rfl⟩:=h
 exact rfl
theorem errorAddressString.mk_rel {S:Nat->Prop}{w:World}{x:errorAddressString}:errorAddressString.rp.rel S w [.string x.msg,.int .u64 x.addr] x:=
 ⟨_,_,rfl,rfl,rfl⟩
structure dice where
 b:VI
 i:Int
 h:Int
def dice.rp:Rp dice:=Hp (Hq (Hr (Rp.int .u8)) (Hq Ri (Rp.int .u64))) (λa=>(a.b,a.i,a.h))
theorem dice.un {S:Nat->Prop}{w:World}{c:List Value}{x:dice}(h:dice.rp.rel S w c x):∃a b,c=[.slice a x.b.length b,.int .i64 x.i,.int .u64 x.h]/\Sl (Rp.int .u8) S w a b x.b:=by
 obtain⟨_,_,rfl,⟨a,b,rfl,d⟩,⟨_,_,rfl,rfl,rfl⟩⟩:=h
 exact⟨a,b,rfl,d⟩
theorem dice.mk_rel {S:Nat->Prop}{w:World}{x:dice}{a:Option Addr}{c0:Nat}(b:Sl (Rp.int .u8) S w a c0 x.b):dice.rp.rel S w [.slice a x.b.length c0,.int .i64 x.i,.int .u64 x.h] x:=
 ⟨_,_,rfl,⟨a,c0,rfl,b⟩,⟨_,_,rfl,rfl,rfl⟩⟩
structure bench where
 sig:Sig
 clauses:VC
 game:Parity
def bench.rp:Rp bench:=Hp (Hq Sig.rp (Hq (Hr Clause.rp) Parity.rp)) (λa=>(a.sig,a.clauses,a.game))
theorem bench.un {S:Nat->Prop}{w:World}{j:List Value}{x:bench}(h:bench.rp.rel S w j x):∃a e,∃b f,∃c g,∃d i,j=[.int .i64 x.sig.In,.int .i64 x.sig.Out,.slice a x.clauses.length e,.slice b x.game.Arena.Owner.length f,.slice c x.game.Arena.Next.length g,.slice d x.game.Prio.length i]/\Sl Clause.rp S w a e x.clauses/\Sl Ri S w b f x.game.Arena.Owner/\Sl Rs S w c g x.game.Arena.Next/\Sl Ri S w d i x.game.Prio:=by
 obtain⟨_,_,rfl,⟨_,_,rfl,rfl,rfl⟩,⟨_,_,rfl,⟨a,e,rfl,k⟩,⟨_,_,rfl,⟨_,_,rfl,⟨b,f,rfl,l⟩,⟨c,g,rfl,m⟩⟩,⟨d,i,rfl,n⟩⟩⟩⟩:=h
 exact⟨a,e,b,f,c,g,d,i,rfl,k,l,m,n⟩
theorem bench.mk_rel {S:Nat->Prop}{w:World}{x:bench}{a:Option Addr}{e:Nat}{b:Option Addr}{c3:Nat}{c:Option Addr}{f:Nat}{d:Option Addr}{g:Nat}(i:Sl Clause.rp S w a e x.clauses) (j:Sl Ri S w b c3 x.game.Arena.Owner) (k:Sl Rs S w c f x.game.Arena.Next) (l:Sl Ri S w d g x.game.Prio):bench.rp.rel S w [.int .i64 x.sig.In,.int .i64 x.sig.Out,.slice a x.clauses.length e,.slice b x.game.Arena.Owner.length c3,.slice c x.game.Arena.Next.length f,.slice d x.game.Prio.length g] x:=
 ⟨_,_,rfl,⟨_,_,rfl,rfl,rfl⟩,⟨_,_,rfl,⟨a,e,rfl,i⟩,⟨_,_,rfl,⟨_,_,rfl,⟨b,c3,rfl,j⟩,⟨c,f,rfl,k⟩⟩,⟨d,g,rfl,l⟩⟩⟩⟩
structure watch where
 next:VV
 letters:VV
 pairs:VP
def watch.rp:Rp watch:=Hp (Hq (Hr Rs) (Hq (Hr Rs) (Hr Pair.rp))) (λa=>(a.next,a.letters,a.pairs))
theorem watch.un {S:Nat->Prop}{w:World}{g:List Value}{x:watch}(h:watch.rp.rel S w g x):∃a d,∃b e,∃c f,g=[.slice a x.next.length d,.slice b x.letters.length e,.slice c x.pairs.length f]/\Sl Rs S w a d x.next/\Sl Rs S w b e x.letters/\Sl Pair.rp S w c f x.pairs:=by
 obtain⟨_,_,rfl,⟨a,d,rfl,i⟩,⟨_,_,rfl,⟨b,e,rfl,j⟩,⟨c,f,rfl,k⟩⟩⟩:=h
 exact⟨a,d,b,e,c,f,rfl,i,j,k⟩
theorem watch.mk_rel {S:Nat->Prop}{w:World}{x:watch}{a:Option Addr}{c0:Nat}{b:Option Addr}{d:Nat}{c:Option Addr}{e:Nat}(f:Sl Rs S w a c0 x.next) (g:Sl Rs S w b d x.letters) (i:Sl Pair.rp S w c e x.pairs):watch.rp.rel S w [.slice a x.next.length c0,.slice b x.letters.length d,.slice c x.pairs.length e] x:=
 ⟨_,_,rfl,⟨a,c0,rfl,f⟩,⟨_,_,rfl,⟨b,d,rfl,g⟩,⟨c,e,rfl,i⟩⟩⟩
structure solver where
 game:Parity
 preds:VV
def solver.rp:Rp solver:=Hp (Hq Parity.rp (Hr Rs)) (λa=>(a.game,a.preds))
theorem solver.un {S:Nat->Prop}{w:World}{j:List Value}{x:solver}(h:solver.rp.rel S w j x):∃a e,∃b f,∃c g,∃d i,j=[.slice a x.game.Arena.Owner.length e,.slice b x.game.Arena.Next.length f,.slice c x.game.Prio.length g,.slice d x.preds.length i]/\Sl Ri S w a e x.game.Arena.Owner/\Sl Rs S w b f x.game.Arena.Next/\Sl Ri S w c g x.game.Prio/\Sl Rs S w d i x.preds:=by
 obtain⟨_,_,rfl,⟨_,_,rfl,⟨_,_,rfl,⟨a,e,rfl,k⟩,⟨b,f,rfl,l⟩⟩,⟨c,g,rfl,m⟩⟩,⟨d,i,rfl,n⟩⟩:=h
 exact⟨a,e,b,f,c,g,d,i,rfl,k,l,m,n⟩
theorem solver.mk_rel {S:Nat->Prop}{w:World}{x:solver}{a:Option Addr}{c0:Nat}{b:Option Addr}{e:Nat}{c:Option Addr}{f:Nat}{d:Option Addr}{c3:Nat}(g:Sl Ri S w a c0 x.game.Arena.Owner) (i:Sl Rs S w b e x.game.Arena.Next) (j:Sl Ri S w c f x.game.Prio) (k:Sl Rs S w d c3 x.preds):solver.rp.rel S w [.slice a x.game.Arena.Owner.length c0,.slice b x.game.Arena.Next.length e,.slice c x.game.Prio.length f,.slice d x.preds.length c3] x:=
 ⟨_,_,rfl,⟨_,_,rfl,⟨_,_,rfl,⟨a,c0,rfl,g⟩,⟨b,e,rfl,i⟩⟩,⟨c,f,rfl,j⟩⟩,⟨d,c3,rfl,k⟩⟩
structure query where
 in0:Int
 who:Int
 d:Int
 mine:Int
 yours:Int
def query.rp:Rp query:=Hp (Hq Ri (Hq Ri (Hq Ri (Hq Ri Ri)))) (λa=>(a.in0,a.who,a.d,a.mine,a.yours))
theorem query.un {S:Nat->Prop}{w:World}{a:List Value}{x:query}(h:query.rp.rel S w a x):a=[.int .i64 x.in0,.int .i64 x.who,.int .i64 x.d,.int .i64 x.mine,.int .i64 x.yours]:=by
 obtain⟨_,_,rfl,rfl,⟨_,_,rfl,rfl,⟨_,_,rfl,rfl,⟨_,_,rfl,rfl,rfl⟩⟩⟩⟩:=h
 exact rfl
theorem query.mk_rel {S:Nat->Prop}{w:World}{x:query}:query.rp.rel S w [.int .i64 x.in0,.int .i64 x.who,.int .i64 x.d,.int .i64 x.mine,.int .i64 x.yours] x:=
 ⟨_,_,rfl,rfl,⟨_,_,rfl,rfl,⟨_,_,rfl,rfl,⟨_,_,rfl,rfl,rfl⟩⟩⟩⟩
def kvI2:(Int×Int)->Value:=λa=> .agg #[.int .i64 a.1,.int .i64 a.2]
def kwI2:(Int×Int)->Bool:=λa=>wf2 a.1 a.2
theorem y6:KeyE Tryz.prog 187 kvI2 kwI2:=⟨deep_law (m:=2) (by omega) (by kernel_rfl) (by kernel_rfl) (by kernel_rfl),λa h=>ES Tryz.underlying187 (by kernel_rfl) (m:=355) (by kernel_rfl) (by kernel_rfl) (by kernel_rfl) Tryz.underlying2 h,λa d h=>by
 cases a;cases d
 simp only[kvI2,Value.agg.injEq,Array.mk.injEq,List.cons.injEq,Value.int.injEq,true_and,and_true]at h
 obtain⟨b,c⟩:=h
 subst b c
 rfl⟩
theorem bS:Tryz.prog.info? 2=some Tryz.t2:=by kernel_rfl
theorem Aw:Tryz.prog.info? 3=some Tryz.t3:=by kernel_rfl
theorem dw:Tryz.prog.info? 4=some Tryz.t4:=by kernel_rfl
theorem vg:Tryz.prog.info? 5=some Tryz.t5:=by kernel_rfl
theorem dx:Tryz.prog.info? 9=some Tryz.t9:=by kernel_rfl
theorem bY:Tryz.prog.info? 30=some Tryz.t30:=by kernel_rfl
theorem kQ:Tryz.prog.info? 32=some Tryz.t32:=by kernel_rfl
theorem yK:Tryz.prog.info? 60=some Tryz.t60:=by kernel_rfl
theorem cQ:Tryz.prog.info? 120=some Tryz.t120:=by kernel_rfl
theorem eW:Tryz.prog.info? 149=some Tryz.t149:=by kernel_rfl
theorem iy:Tryz.prog.info? 187=some Tryz.t187:=by kernel_rfl
end Go.Proofs.YtldlmopdhmaceaaGreatDoor
