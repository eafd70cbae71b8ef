/- The walks, part 1. By program. -/
import Derived.Test.YtgbippnfaoedmaaGreatDoorFnsMBG
import Derived.Test.YtgbippnfaoedmaaGreatDoorAlBG
set_option linter.unusedVariables false
set_option linter.unusedSimpArgs false
open Go.Wk.Ep renaming bool → zo, own → zp
open Int renaming toNat → zq
open Go.IntKind renaming wrap → zr
open Option.some renaming inj → zt
open Go.Wk.Sl renaming srcP → zu
open Sum renaming inr → zw
namespace Go.Proofs.YtgbippnfaoedmaaGreatDoor
open Tryz
open Go Go.Wk Go.Proofs
set_option maxRecDepth 100000
set_option maxHeartbeats 1000000
section
variable {w:World}{J:Col}
theorem iA {p0:Int}{p1:Int}{p2:Int}  {r:Bool}(h:jn p0 p1 p2=some r):Ret prog 15 [vi p0,vi p1,vi p2] w (Pvb J w r):=by
 unfold jn at h
 refine Jp3 J func15 R ntmps15 R λc=>Jf3 R<|Jl3 4 R<|Ob h λe h d=>Jk4 [6] 14 e J w 4 tv ?_ ?_
 revert h
 cases f:decide (p1<=p0)
 refine JF λh=>Jn 4 R ?_
 cases h
 exact Jl4 tv R
 refine JT λh=>Jn 4 R ?_
 cases h
 exact Jl4 tv R
 rintro _ g _ ⟨rfl,a,b⟩
 have h:=d
 refine Jb 1 R<|Ju<|Jb2 (l:=[.tmp 6]) results15 (Jq2 R R) R ?_
 cases h
 exact⟨a,R,(c.stp b)⟩
theorem nk {p0:Int}  {r:VI}(h:kD p0=some r):Ret prog 18 [vi p0] w (Pvs E6 2 J w r):=by
 unfold kD at h
 refine Jp3 J func18 R ntmps18 R λP=>Jf3 R<|Jj3<|Jc4 J E6 2 R Y27 aR R λH X z o G O=>Tv<|Jb 1 R<|Jq<|Jf3 R<|Ob h λ_ U h=>?_
 have S:=ku U
 refine Ob h λy T Q=>?_
 clear h
 refine Jx1 (λp d=>∃e,∃n:VI,∃g f,p=[(3,.slice g n.length f)]/\Stp [2] o z e d/\Oc E6 2 e d 2 g f n/\y=zw n) ?_ ?_
 refine Jv<|Ju3 [0] (λb A p d=>∃e a,∃c:VI,∃j i,p=(3,.slice j c.length i)::(4,vi a)::A/\Stp [2] o z e d/\Oc E6 2 e d 2 j i c/\0<=a/\zq (p0-a)=b/\cntM g8 b a c=some y) ⟨_,_,⟨o,0,([]:VI),H,X,R,Jo3,O,(by decide),(by simp),T⟩,(KM R)⟩ ?_
 rintro b _ ab ⟨s,a,c,j,i,rfl,t,v,x,k,h⟩
 rcases b with _|b
 have m:=h;obtain⟨W,h⟩:=exq m
 have q:=dcf k
 refine Jq<|Jf3 R<|Jx2 R q<|Jc1<|Jt<|Jt ?_
 cases h
 have h:=m
 refine Jb1 ?_
 cases h
 exact Jw1 _ ⟨s,c,j,i,R,t.wk R,v,R⟩<|KM R
 obtain⟨W,h,m⟩:=BI h;unfold g8 at h
 have q:=dct k
 refine Jq<|Jf3 R<|Jw2 R q<|Js<|Jp<|Jq<|Jv<|Jm3 1 R<|Ji4 s 3 [(-1)] R Y27 aR R λaa Z ac B u M=>Tv<|Ob h λY V h=>Jd4 B E6 2 [] R Y27 aR R (v.stp u) (zu (bo _) M.rdc) aV V R λK I ad C F N=>Tv<|Jc 1 R<|Jz<|Jp<|Jg3 R<|wr2 x k S ▸ ?_
 cases h
 exact Ja2 ⟨C,a+1,Y,K,I,R,(T3 t u F).wk R,N,nxz x,nxm k,m⟩ R
 rintro _ ae ⟨D,n,g,f,rfl,E,L,rfl⟩
 have h:=yI Q
 refine Jp<|Jf3 R<|Ju<|Jb2 (l:=[.tmp 2]) results18 (Jq2 R R) R ?_
 cases h
 exact⟨D,g,f,R,(P.stp<|G.tr E),L⟩
theorem qG {n u}{p0:VI}{p1:Int}(i:Rd Ri J w 0 n u p0){r:Bool}(h:mV p0 p1=some r):Ret prog 144 [.slice n p0.length u,vi p1] w (Pvb J w r):=by
 unfold mV at h
 refine Jp3 J func144 R ntmps144 R λo=>Jf3 R<|Jq<|Jf3 R<|Ob h λt z p=>?_
 clear h
 refine Jx1 (λg k=>∃m,g=[]/\Stp [] J w m k/\t=zw ()) ?_ ?_
 refine Jv<|Ju3 [0,1] (λc v g k=>∃m a,g=(5,vi a)::v/\Stp [] J w m k/\0<=a/\zq ((p0.length:Int)-a)=c/\cntM (j0 p0 p1) c a ()=some t) ⟨_,_,⟨J,0,R,Jo3,(by decide),(by simp),z⟩,(KM R)⟩ ?_
 rintro c _ E ⟨f,a,rfl,d,q,e,h⟩
 rcases c with _|c
 have b:=h;obtain⟨A,h⟩:=exq b
 have j:=dcf e
 refine Jq<|Jl3 2 R<|Js3 R U27 R R<|Jb 1 R<|Jx2 R j<|Jc1<|Jt<|Jt ?_
 cases h
 have h:=b
 refine Jb1 ?_
 cases h
 exact Jw1 _ ⟨f,R,d.wk R,R⟩ KN
 obtain⟨A,h,b⟩:=BI h;unfold j0 at h
 have j:=dct e
 refine Jq<|Jl3 2 R<|Js3 R U27 R R<|Jb 1 R<|Jw2 R j<|Js<|Jp<|Jq<|Jv<|Jl3 2 R<|Ob h λB s h=>Jd3 R i s U27 Z2<|Jc3 R I2 ((i.stp d).gInt s)<|Jb 2 R ?_
 revert h
 cases C:(B==p1)
 refine JF λh=>Jy R<|Js<|Jz<|Jp<|Jg3 R<|wr2 q e i.len_le ▸ ?_
 cases h
 exact Ja2 ⟨f,a+1,R,d.wk R,nxz q,nxm e,b⟩ R
 refine JT λh=>Jx R<|Jf3 R<|Ju<|Ja1<|Jw<|Jw ?_
 cases h
 obtain rfl:=zt b
 have h:=yL p
 refine Ja1<|Jr2<|Jw<|Jb2 (l:=[.tmp 4]) results144 (Jq2 R R) R ?_
 cases h
 exact⟨f,R,(o.stp d)⟩
 rintro _ D ⟨x,rfl,y,rfl⟩
 have h:=yI p
 refine Jp<|Jf3 R<|Ju<|Jb2 (l:=[.tmp 4]) results144 (Jq2 R R) R ?_
 cases h
 exact⟨x,R,(o.stp y)⟩
theorem ni {k m e f j g d c n i}{p0:l7Game}{p1:Int}{p2:Int}(D:Rd Ri J w 0 k m p0.owner) (E:Rd Ri J w 0 e f p0.prio) (F:Rd Rs J w 0 j g p0.next) (G:Rd Rs J w 0 d c p0.prev) (p:Rd Ri J w 0 n i p0.pick){r:Bool}(h:jH p0 p1 p2=some r):Ret prog 147 [.agg #[.slice k p0.owner.length m,.slice e p0.prio.length f,.slice j p0.next.length g,.slice d p0.prev.length c,.slice n p0.pick.length i],vi p1,vi p2] w (Pvb J w r):=by
 unfold jH at h
 refine Jp3 J func147 R ntmps147 R λx=>Jj3<|Jx3 J 2 R λC A t b o=>Tv<|Jb 1 R<|Jj3<|Je3 R U69 R Z27<|Jc3 R I27 (o.ld 4 R R)<|Jn 1 R<|Ob h λB q h=>Jd3 R p q U27 Z2 ?_
 have a:=p.stp b
 refine Jc3 R I2 (a.gInt q)<|Jn 2 R<|Ob h λz h y=>Jk4 [6] 21 z t A 8 tv ?_ ?_
 revert h
 cases H:decide (B<0)
 refine JF λh=>Je3 R U69 R Z27<|Jc3 R I27 (o.ld 4 R R)<|Jn 1 R<|Ob h λK s h=>Jd3 R a s U27 Z2<|Jc3 R I2 (a.gInt s)<|Jn 3 R ?_
 cases h
 exact Jl4 tv R
 refine JT λh=>Jn 1 R<|Je4 R<|Jn 2 R<|Je4 R<|Jn 3 R ?_
 cases h
 exact Jl4 tv R
 rintro _ I _ ⟨rfl,u,v⟩
 have h:=y
 refine Jb 1 R<|Ju<|Jb2 (l:=[.tmp 6]) results147 (Jq2 R R) R ?_
 cases h
 exact⟨u,R,(x.stp<|b.tr v)⟩
theorem rS {p0:Bool}  {r:Int}(h:kz p0=some r):Ret prog 53 [.bool p0] w (Pvi J w r):=by
 unfold kz at h
 refine Jp3 J func53 R ntmps53 R λa=>Jf3 R<|Jq<|Jf3 R ?_
 revert h
 cases b:p0
 refine JF λh=>Jy R<|Js<|Jp<|Jf3 R<|Ju<|Jb2 (l:=[.tmp 2]) results53 (Jq2 R R) R ?_
 cases h
 exact⟨J,R,a⟩
 refine JT λh=>Jx R<|Jf3 R<|Ju<|Jw<|Jb2 (l:=[.tmp 2]) results53 (Jq2 R R) R ?_
 cases h
 exact⟨J,R,a⟩
theorem r7 {p z}{p0:VI}{q A}{p1:VI}(j:Rd Ri J w 0 p z p0) (s:Rd Ri J w 0 q A p1){r:Bool}(h:kF p0 p1=some r):Ret prog 50 [.slice p p0.length z,.slice q p1.length A] w (Pvb J w r):=by
 unfold kF at h
 refine Jp3 J func50 R ntmps50 R λk=>Jf3 R<|Jq<|Jl3 1 R<|Js3 R U27 R R<|Jn 1 R<|Js3 R U27 R R<|Jb 1 R ?_
 revert h
 cases I:((p0.length:Int) !=(p1.length:Int))
 refine JF λh=>Jy R<|Js<|Jp<|Jq<|Jf3 R<|Ob h λy E t=>?_
 clear h
 refine Jx1 (λi n=>∃o,i=[]/\Stp [] J w o n/\y=zw ()) ?_ ?_
 refine Jv<|Ju3 [0,1] (λd B i n=>∃o a,i=(5,vi a)::B/\Stp [] J w o n/\0<=a/\zq ((p0.length:Int)-a)=d/\cntM (hU p0 p1) d a ()=some y) ⟨_,_,⟨J,0,R,Jo3,(by decide),(by simp),E⟩,(KM R)⟩ ?_
 rintro d _ N ⟨e,a,rfl,b,u,g,h⟩
 rcases d with _|d
 have c:=h;obtain⟨F,h⟩:=exq c
 have m:=dcf g
 refine Jq<|Jl3 2 R<|Js3 R U27 R R<|Jb 1 R<|Jx2 R m<|Jc1<|Jt<|Jt ?_
 cases h
 have h:=c
 refine Jb1 ?_
 cases h
 exact Jw1 _ ⟨e,R,b.wk R,R⟩ KN
 obtain⟨F,h,c⟩:=BI h;unfold hU at h
 have m:=dct g
 refine Jq<|Jl3 2 R<|Js3 R U27 R R<|Jb 1 R<|Jw2 R m<|Js<|Jp<|Jq<|Jv<|Jq<|Js1 (J:=e) [0] none [(0,2),(1,2),(2,2),(4,2),(5,2),(6,2),(3,0),(7,0),(8,2)] [] (by kernel_rfl) (by kernel_rfl) λL f=>Jn 2 R<|Ob h λG v h=>Jd3 R j v U27 Z2<|Jn 2 R<|Ob h λH x h=>Jd3 R s x U27 Z2<|Jg R (Jd2 I2 R R<|hvC ((j.stp<|b.tr f).gInt v) R)<|Jg R (Jd2 I2 R R<|hvC ((s.stp<|b.tr f).gInt x) R)<|Jn 1 R<|Jt1<|Jd ?_
 revert h
 cases K:(G !=H)
 refine JF λh=>Jy R<|Js<|Jz<|Jp<|Jg3 R<|wr2 u g j.len_le ▸ ?_
 cases h
 exact Ja2 ⟨e,a+1,R,(b.tr f).wk R,nxz u,nxm g,c⟩ R
 refine JT λh=>Jx R<|Jf3 R<|Ju<|Ja1<|Jw<|Jw ?_
 cases h
 obtain rfl:=zt c
 have h:=yL t
 refine Ja1<|Jr2<|Jw<|Jb2 (l:=[.tmp 4]) results50 (Jq2 R R) R ?_
 cases h
 exact⟨e,R,(k.stp<|b.tr f)⟩
 rintro _ M ⟨C,rfl,D,rfl⟩
 have h:=yI t
 refine Jp<|Jf3 R<|Ju<|Jb2 (l:=[.tmp 4]) results50 (Jq2 R R) R ?_
 cases h
 exact⟨C,R,(k.stp D)⟩
 refine JT λh=>Jx R<|Jf3 R<|Ju<|Jw<|Jb2 (l:=[.tmp 4]) results50 (Jq2 R R) R ?_
 cases h
 exact⟨J,R,k⟩
theorem lm {A F}{p0:VI}{p1:Int}(s:Rd Ri J w 0 A F p0){r:VB}(h:dT p0 p1=some r):Ret prog 33 [.slice A p0.length F,vi p1] w (Pvs zo 4 J w r):=by
 unfold dT at h
 refine Jp3 J func33 R ntmps33 R λQ=>Jf3 R<|Jl3 1 R<|Js3 R U27 R R<|Ob h λk X h=>Jl1 (J:=J) (E:=zo) (z:=(false:Bool)) 2 R R R R R R R Y71 bZ R R R R R (λ_ _ _=>R) (Jv2 X) λp v G m y P=>Tv<|Jb 1 R<|Jq<|Jf3 R<|Ob h λE V S=>?_
 clear h
 refine Jt3 [5] (λb n e=>∃f,∃j:VB,n=b/\Stp [2] m G f e/\Oc zo 4 f e 2 p v j/\k.length=j.length/\E=zw j) ?_ ?_
 refine Jv<|Ju3 [0,1,5] (λc b n e=>∃f a,∃d:VB,n=(6,vi a)::b/\Stp [2] m G f e/\Oc zo 4 f e 2 p v d/\k.length=d.length/\0<=a/\zq ((p0.length:Int)-a)=c/\cntM (eH p0 p1) c a d=some E) ⟨_,_,⟨m,0,k,R,Jo3,P,R,(by decide),(by simp),V⟩,(KM R)⟩ ?_
 rintro c _ Z ⟨x,a,d,rfl,o,q,u,B,g,h⟩
 rcases c with _|c
 have i:=h;obtain⟨Y,h⟩:=exq i
 have t:=dcf g
 refine Jq<|Jl3 2 R<|Js3 R U27 R R<|Jb 1 R<|Jx2 R t<|Jc1<|Jt<|Jt ?_
 cases h
 have h:=i
 refine Jb1 ?_
 cases h
 exact Jw1 _ ⟨x,d,R,o.wk R,q,u,R⟩<|KM R
 obtain⟨Y,h,i⟩:=BI h;unfold eH at h
 have t:=dct g
 refine Jq<|Jl3 2 R<|Js3 R U27 R R<|Jb 1 R<|Jw2 R t<|Js<|Jp<|Jq<|Jv<|Jm3 4 R<|Ob h λac C h=>Jd3 R s C U27 Z2<|Jc3 R I2 ((s.stp<|y.tr o).gInt C)<|Jn 2 R<|Ob h λad W h=>Jf R (Jg2 q.rdc W U71 Z4 R R u R)<|Ob h λH D h=>Jk1 (J:=x) (E:=zo) 2 [] R R R R R R R R Z4 R R R R q D λaa I M O=>Tv<|?_
 have U:k.length=H.length:=u.trans (Ju2 D).2.2.2.symm
 refine Jo<|Jz<|Jp<|Jg3 R<|wr2 B g s.len_le ▸ ?_
 cases h
 exact Ja2 ⟨I,a+1,H,R,(o.tr M).wk R,O,U,nxz B,nxm g,i⟩ R
 rintro _ ab ⟨K,j,rfl,L,N,T,rfl⟩
 have h:=yI S
 refine Jp<|Jf3 R<|Ju<|Jb2 (l:=[.tmp 4]) results33 (Jq2 R R) R ?_
 cases h
 exact⟨K,p,v,(by simp only[T]),(Q.stp<|y.tr L),N⟩
theorem rA {p0:Int}  {r:ByteArray}(h:jB p0=some r):Ret prog 9 [vi p0] w (λN b=>∃(c:Col),N= .string r/\Ent J w c b):=by
 unfold jB at h
 refine Jp3 J func9 R ntmps9 R λD=>Jf3 R<|Jf3 R<|Jf3 R<|Jq<|Jf3 R<|Ob h λg h E=>Jt3 [3] (λe d b=>∃c,d=(0,vi g.1)::(4,.bool g.2)::e/\Stp [] J w c b) ?_ ?_
 revert h
 cases X:decide (p0<0)
 refine JF λh=>Jy R<|Js ?_
 cases h
 exact Jw1 _ ⟨J,R,Jo3⟩<|KM R
 refine JT λh=>Jx R<|Ji3 [2,2,2] 1 R<|Jf R (uZ R R)<|Jc 1 R ?_
 cases h
 exact Jw1 _ ⟨J,R,Jo3⟩<|KM R
 rintro _ t ⟨j,rfl,B⟩
 have h:=E
 refine Jp<|Jq<|Ob h λs I H=>?_
 clear h
 refine Jt3 [4] (λe d b=>∃c,∃k:Int×ByteArray,d=(3,.string k.2)::e/\Stp [] j t c b/\s=zw k) ?_ ?_
 refine Jv<|Ju3 [4] (λf e d b=>∃c,∃a:Int×ByteArray,d=(0,vi a.1)::(3,.string a.2)::e/\Stp [] j t c b/\bn kp f a=some s) ⟨_,_,⟨j,(g.1,((ByteArray.mk #[]):ByteArray)),R,Jo3,I⟩,(KM R)⟩ ?_
 rintro f _ O ⟨u,a,rfl,n,h⟩
 rcases f with _|f
 cases h
 obtain⟨Y,h,p⟩:=BI h;unfold kp at h
 refine Jq<|Jh3 [2,2,2,2,2,2] 1 R<|Jf R (bJ R R R)<|Jn 1 R<|Ob h λq h F=>Jk4 [0,3,4] 15 q u O 3 tv ?_ ?_
 revert h
 cases U:(eqB a.2 (ByteArray.mk #[]))
 refine JF λh=>Jn 3 R ?_
 cases h
 exact Jl4 tv R
 refine JT λh=>Jn 3 R ?_
 cases h
 exact Jl4 tv R
 rintro _ Z _ ⟨rfl,m,o⟩
 have h:=F
 refine Jd ?_
 revert h
 cases V:q
 refine JF λh=>Jy R<|Jc1<|Jt<|Jt ?_
 cases h
 have h:=p
 refine Jb1 ?_
 cases h
 exact Jw1 _ ⟨m,(a.1,a.2),R,(n.tr o).wk R,R⟩<|KM R
 refine JT λh=>Jx R<|Js<|Jp<|Jv<|Jh3 [2,2,2,2,1,1,2,2,2] 1 R<|Jf R (c7 R R R<|show ¬(10:Int)=0 by decide) (Jn 1 R<|Jf R (Ji2 U2 U5 R R)<|Jb4 m (Ep.int .u8) 2 [] (parts:=[(0,.tmp 19)]) (cells:=[.int .u8 (zr .u8<|zr .i64 (48+(Int.tmod a.1 10)))]) (xs:=([(zr .u8<|zr .i64 (48+(Int.tmod a.1 10)))]:VI)) R Y22 pv R (Jj4 R) λT S aa v z C=>Tv<|Jg4 tv R (uX Y22 underlying5 underlying9 R (svE C.rdc) R R)<|Jn 1 R<|Ob h λQ K h=>Jf R (cc R R R K)<|Jb 1 R<|Ji3 [2,2,2] 1 R<|Jf R (oD R R R<|show ¬(10:Int)=0 by decide) (Jc 1 R<|Jz ?_))
 cases h
 exact Ja2 ⟨v,(((zr .i64<|Int.tdiv a.1 10):Int),Q),R,(T3 n o z).wk R,p⟩ R
 rintro _ P ⟨i,k,rfl,y,rfl⟩
 have h:=yI H
 refine Jp<|Jq<|Jf3 R<|Ob h λM h G=>Jx1 (λd b=>∃c,d=[(3,.string M)]/\Stp [] i P c b) ?_ ?_
 revert h
 cases W:g.2
 refine JF λh=>Jy R<|Js ?_
 cases h
 exact Jw1 _ ⟨i,R,Jo3⟩<|KM R
 refine JT λh=>Jx R<|Ji3 [2,2,2] 1 R<|Ob h λac L h=>Jf R (cc R R R L)<|Jc 1 R ?_
 cases h
 exact Jw1 _ ⟨i,R,Jo3⟩<|KM R
 rintro _ ab ⟨x,rfl,A⟩
 have h:=G
 refine Jp<|Jf3 R<|Ju<|Jb2 (l:=[.tmp 2]) results9 (Jq2 R R) R ?_
 cases h
 exact⟨x,R,(D.stp<|T3 B y A)⟩
theorem j9 {p0 p1:ByteArray}  {r:ByteArray}(h:strings_TrimSuffix p0 p1=some r):Ret prog 20 [.string p0,.string p1] w (λa b=>∃(c:Col),a= .string r/\Ent J w c b):=wJ Tryz.strings_TrimSuffix h
theorem j7 {p0:ByteArray}{p1:Int}  {r:Int×Bool}(h:io p0 p1=some r):Ret prog 43 [.string p0,vi p1] w (λY e=>∃(f:Col),Y= .tuple #[vi r.1,.bool r.2]/\Ent J w f e):=by
 unfold io at h
 refine Jp3 J func43 R ntmps43 R λp=>Jf3 R<|Jq<|Jl3 1 R<|Jf R (bJ R R R)<|Jn 1 R<|Ob h λA h K=>Jk4 [0,1] 14 A J w 4 tv ?_ ?_
 revert h
 cases af:(eqB p0 (ByteArray.mk #[]))
 refine JF λh=>Jn 1 R<|Jf R (jX U9 R R)<|Jn 2 R ?_
 cases h
 exact Jl4 tv R
 refine JT λh=>Jn 4 R ?_
 cases h
 exact Jl4 tv R
 rintro _ F _ ⟨rfl,v,o⟩
 have h:=K
 refine Jn 1 R<|Ob h λB h M=>Jk4 [0,1] 24 B v F 9 tv ?_ ?_
 revert h
 cases ai:A
 refine JF λh=>Jn 1 R<|Ob h λaa S h=>Jf R (iL U9 S R R R)<|Jn 2 R<|Ob h λX h N=>Jk4 [0,1,15] 23 X v F 4 tv ?_ ?_
 revert h
 cases aj:(aa==48)
 refine JF λh=>Jn 4 R ?_
 cases h
 exact Jl4 tv R
 refine JT λh=>Jn 1 R<|Jf R (jX U9 R R)<|Jn 2 R ?_
 cases h
 exact Jl4 tv R
 rintro _ ak _ ⟨rfl,ad,H⟩
 have h:=N
 refine Jn 1 R ?_
 cases h
 exact Jv1 _ tv ⟨R,_,H.wk R⟩<|KM R
 refine JT λh=>Jn 9 R ?_
 cases h
 exact Jl4 tv R
 rintro _ E _ ⟨rfl,g,m⟩
 have h:=M
 refine Jd ?_
 revert h
 cases ae:B
 refine JF λh=>Jy R<|Js<|Jp<|Jf3 R<|Jq<|Jf3 R<|Ob h λ_ Q h=>?_
 have O:=ku Q
 refine Ob h λD P y=>?_
 clear h
 refine Jt3 [1] (λj k e=>∃f s,k=(6,vi s)::j/\Stp [] g E f e/\D=zw s) ?_ ?_
 refine Jv<|Ju3 [0,1] (λc j k e=>∃f a d,k=(6,vi d)::(7,vi a)::j/\Stp [] g E f e/\0<=a/\zq ((p0.size:Int)-a)=c/\cntM (ic p0) c a d=some D) ⟨_,_,⟨g,0,(0:Int),R,Jo3,(by decide),(by simp),P⟩,(KM R)⟩ ?_
 rintro c _ Z ⟨t,a,d,rfl,n,z,i,h⟩
 rcases c with _|c
 have b:=h;obtain⟨W,h⟩:=exq b
 have q:=dcf i
 refine Jq<|Jl3 2 R<|Jf R (jX U9 R R)<|Jb 1 R<|Jx2 R q<|Jc1<|Jt<|Jt ?_
 cases h
 have h:=b
 refine Jb1 ?_
 cases h
 exact Jw1 _ ⟨t,d,R,n.wk R,R⟩<|KM R
 obtain⟨W,h,b⟩:=BI h;unfold ic at h
 have q:=dct i
 refine Jq<|Jl3 2 R<|Jf R (jX U9 R R)<|Jb 1 R<|Jw2 R q<|Js<|Jp<|Jq<|Jv<|Jq<|Jl3 2 R<|Ob h λab T h=>Jf R (iL U9 T R R R)<|Jn 2 R<|Ob h λC h L=>Jk4 [0,1,6,7] 40 C t Z 5 tv ?_ ?_
 revert h
 cases ag:decide (ab<48)
 refine JF λh=>Jn 2 R<|Ob h λan U h=>Jf R (iL U9 U R R R)<|Jn 2 R ?_
 cases h
 exact Jl4 tv R
 refine JT λh=>Jn 5 R ?_
 cases h
 exact Jl4 tv R
 rintro _ am _ ⟨rfl,u,x⟩
 have h:=L
 refine Jd ?_
 revert h
 cases ah:C
 refine JF λh=>Jy R<|Js<|Jp<|Jm3 4 R<|Ob h λac V h=>Jf R (iL U9 V R R R)<|Jn 1 R<|Jf R (Ji2 U5 U2 R R)<|Jc 2 R<|Jz<|Jp<|Jg3 R<|wr2 z i O ▸ ?_
 cases h
 exact Ja2 ⟨u,a+1,((zr .i64 ((zr .i64 (10 * d))+(zr .i64<|zr .u8<|ac-48))):Int),R,(n.tr x).wk R,nxz z,nxm i,b⟩ R
 refine JT λh=>Jx R<|Jf3 R<|Ju<|Jw<|Ja1<|Jw<|Jw ?_
 cases h
 obtain rfl:=zt b
 have h:=yL y
 refine Ja1<|Jr2<|Jw<|Jb2 (l:=[.tmp 4,.tmp 5]) results43 (Jq2 R<|Jq2 R R) R ?_
 cases h
 exact⟨u,R,(p.stp<|T4 o m n x)⟩
 rintro _ al ⟨G,s,rfl,I,rfl⟩
 have h:=yI y
 refine Jp<|Jf3 R<|Ju<|Jb2 (l:=[.tmp 4,.tmp 5]) results43 (Jq2 R<|Jq2 R R) R ?_
 cases h
 exact⟨G,R,(p.stp<|T3 o m I)⟩
 refine JT λh=>Jx R<|Jf3 R<|Ju<|Jw<|Jb2 (l:=[.tmp 4,.tmp 5]) results43 (Jq2 R<|Jq2 R R) R ?_
 cases h
 exact⟨g,R,(p.stp<|o.tr m)⟩
theorem nC {M L D F s u}{p0:Parity}{p1:Int}{p2:Int}{B G}{p:VI}(ao:Oc E6 2 J w 2 M L p0.Arena.Owner) (ap:Oc (Ep.fz Rs) 27 J w 3 D F p0.Arena.Next) (aq:Oc E6 2 J w 4 s u p0.Prio) (ar:Rd Ri J w 0 B G p){r:Parity}(h:iq p0 p1 p2 p=some r):Ret prog 64 [.agg #[.slice M p0.Arena.Owner.length L,.slice D p0.Arena.Next.length F,.slice s p0.Prio.length u],vi p1,vi p2,.slice B p.length G] w (λay x=>∃(z:Col) (Q:Option Addr) (U:Nat) (S:Option Addr) (V:Nat) (T:Option Addr) (W:Nat),ay= .agg #[.slice Q r.Arena.Owner.length U,.slice S r.Arena.Next.length V,.slice T r.Prio.length W]/\Ent J w z x/\Oc E6 2 z x 5 Q U r.Arena.Owner/\Oc (Ep.fz Rs) 27 z x 6 S V r.Arena.Next/\Oc E6 2 z x 7 T W r.Prio):=by
 unfold iq at h
 refine Jp3 J func64 R ntmps64 R λau=>Jj3<|Jx3 J 5 R λaF aG Z g ai=>Tv<|Jy3 Z 6 R X32 R λb8 aQ ac f an=>Tv<|Jd<|Jj3<|Je3 R U32 R Z30<|Je3 R U30 R Z27 ?_
 have P:=ai.stp f
 refine Jc3 R I27 (P.ld 0 R R)<|Jn 1 R<|Ji4 ac 7 [p1] R Y27 aR R λaE aD aH Y a ae=>Tv<|Ob h λy av h=>Jd4 Y E6 2 [] R Y27 aR R (ao.stp<|T3 g f a) (zu (bo _) ae.rdc) aV av R λn o aI I b af=>Tv<|Je3 R U32 R Z30<|Je3 R U30 R Z27<|Jz3 I 5 (off:=0) (vc:=[.slice n y.length o]) (cs':=[.slice n y.length o,.slice D p0.Arena.Next.length F,.slice s p0.Prio.length u]) R Z27 R (P.stp<|a.tr b) R λaJ c N=>Tv<|Jd<|Jj3<|Je3 R U32 R Z30<|Je3 R U30 R Z28<|Jc3 R I28 (N.ld 1 R R)<|Jn 1 R<|Jb4 I (Ep.fz<|Rs) 8 [] (parts:=[(0,.tmp 20)]) (cells:=[.slice B p.length G]) (xs:=([p]:VV)) R Y28 br R (Jj4 ⟨_,_,R,(Sl.z1<|ar.stp<|T5 g f a b c)⟩) λaA az aK aa d ag=>Tv<|Ob h λH aw h=>Jd4 aa (Ep.fz<|Rs) 3 [8] R Y28 br R (ap.stp<|T6 g f a b c d) ag.src (lJ R) aw R λv t aL K i ah=>Tv<|Je3 R U32 R Z30<|Je3 R U30 R Z28<|Jz3 K 5 (off:=1) (vc:=[.slice v H.length t]) (cs':=[.slice n y.length o,.slice v H.length t,.slice s p0.Prio.length u]) R Z28 R (N.stp<|d.tr i) R λaM j O=>Tv<|Jd<|Jj3<|Je3 R U32 R Z27<|Jc3 R I27 (O.ld 2 R R)<|Jn 1 R<|Ji4 K 9 [p2] R Y27 aR R λaC aB aN ab e aj=>Tv<|Ob h λX ax h=>Jd4 ab E6 4 [] R Y27 aR R (aq.stp<|T9 g f a b c d i j e) (zu (bo _) aj.rdc) aV ax R λC E aO A k ak=>Tv<|Je3 R U32 R Z27 ?_
 refine Jz3 A 5 (off:=2) (vc:=[.slice C X.length E]) (cs':=[.slice n y.length o,.slice v H.length t,.slice C X.length E]) R Z27 R (O.stp<|e.tr k) R λaP m al=>Tv<|Jd<|Jj3<|Jg4 tv R (Jh4 (haE al.cells) I32 Z32 R)<|Jm4 A 6 R Z32 R (an.stp<|T9 a b c d i j e k m) R λaS q am=>Tv<|Jd<|Ju<|Jb2 (l:=[.cell 8 32]) results64 (bv R am I32 Z32 R R) R ?_
 cases h
 exact⟨(λad=>ren [(2,5),(3,6),(4,7)]<|A ad),n,o,v,t,C,E,R,((au.stp<|T12 g f a b c d i j e k m q).map (ren [(2,5),(3,6),(4,7)]) R R),((af.stp<|T8 c d i j e k m q).map (ren [(2,5),(3,6),(4,7)]) R R),((ah.stp<|T5 j e k m q).map (ren [(2,5),(3,6),(4,7)]) R R),((ak.stp<|m.tr q).map (ren [(2,5),(3,6),(4,7)]) R R)⟩
theorem pY {S T P Q}{p0:Arena}(a3:Rd Ri J w 0 S T p0.Owner) (G:Rd Rs J w 0 P Q p0.Next){r:VV}(h:jw p0=some r):Ret prog 188 [.agg #[.slice S p0.Owner.length T,.slice P p0.Next.length Q]] w (Pvs (zp E6 2) 27 J w r):=by
 unfold jw at h
 refine Jp3 J func188 R ntmps188 R λaE=>Jj3<|Jx3 J 2 R λa1 a6 al M V=>Tv<|Jb 1 R<|Jj3<|Je3 R U30 R Z27<|Jc3 R I27 (V.ld 0 R R)<|Js3 R U27 R R<|Ob h λj aN h=>Jl1 (J:=al) (E:=(zp E6 2)) (z:=([]:VI)) 3 R R R R R R R Y28 br R R R R R (λ_ _ _=>⟨none,0,R,Ow.nil⟩) (Jv2 aN) λk m ah A E aD=>Tv<|Jb 1 R<|Jq<|Jj3<|Je3 R U30 R Z28<|Jc3 R I28 ((V.stp E).ld 1 R R)<|Js3 R U28 R R<|Jb 1 R<|Ob h λae aL aF=>?_
 clear h
 refine Jt3 [3] (λd f b=>∃c,∃y:VV,f=d/\Stp [3,5] A ah c b/\Oc (zp E6 2) 27 c b 3 k m y/\j.length=y.length/\ae=zw y) ?_ ?_
 refine Jv<|Ju3 [3,13,14] (λa d f b=>∃c e,∃g:VV,f=(15,vi e)::d/\Stp [3,5] A ah c b/\Oc (zp E6 2) 27 c b 3 k m g/\j.length=g.length/\0<=e/\zq ((p0.Next.length:Int)-e)=a/\cntM (fF p0) a e g=some ae) ⟨_,_,⟨A,0,j,R,Jo3,aD,R,(by decide),(by simp),aL⟩,(KM R)⟩ ?_
 rintro a _ ag ⟨p,e,g,rfl,B,U,aa,X,s,h⟩
 rcases a with _|a
 have u:=h;obtain⟨aQ,h⟩:=exq u
 have H:=dcf s
 refine Jf3 R<|Jq<|Jx2 R H<|Jc1<|Jt<|Jt ?_
 cases h
 have h:=u
 refine Jb1 ?_
 cases h
 exact Jw1 _ ⟨p,g,R,B.wk R,U,aa,R⟩<|KM R
 obtain⟨aQ,h,u⟩:=BI h;unfold fF at h
 have H:=dct s
 refine Jf3 R<|Jq<|Jw2 R H<|Js<|Jp<|Jq<|Jv<|Jl3 1 R<|Ob h λai ab h=>Jd3 R G ab U28 Z27 ?_
 obtain⟨aZ,a4,F,aH⟩:=(G.stp (T3 M E B)).gSl ab
 refine Jc3 R I27 aH<|Jb 2 R<|Jl3 1 R<|Js3 R U27 R R<|Jb 1 R<|Ob h λaf aM aG=>?_
 clear h
 refine Jt3 [3,13,14,15] (λd f b=>∃c,∃o:VV,f=d/\Stp [3,5] p ag c b/\Oc (zp E6 2) 27 c b 3 k m o/\j.length=o.length/\af=zw o) ?_ ?_
 refine Jv<|Ju3 [3,4,13,14,15,20,21] (λa d f b=>∃c i,∃n:VV,f=(22,vi i)::d/\Stp [3,5] p ag c b/\Oc (zp E6 2) 27 c b 3 k m n/\j.length=n.length/\0<=i/\zq ((ai.length:Int)-i)=a/\cntM (fG e ai) a i n=some af) ⟨_,_,⟨p,0,g,R,Jo3,U,aa,(by decide),(by simp),aM⟩,(KM R)⟩ ?_
 rintro a _ a9 ⟨L,i,n,rfl,C,q,x,Y,t,h⟩
 rcases a with _|a
 have v:=h;obtain⟨aS,h⟩:=exq v
 have I:=dcf t
 refine Jf3 R<|Jq<|Jx2 R I<|Jc1<|Jt<|Jt ?_
 cases h
 have h:=v
 refine Jb1 ?_
 cases h
 exact Jw1 _ ⟨L,n,R,C.wk R,q,x,R⟩<|KM R
 obtain⟨aS,h,v⟩:=BI h;unfold fG at h
 have I:=dct t
 refine Jf3 R<|Jq<|Jw2 R I<|Js<|Jp<|Jq<|Jv<|Jj3<|Ob h λbd ac h=>Jd3 R F ac U27 Z2<|Jc3 R I2 ((F.stp C).gInt ac)<|Jb 1 R<|Jm3 4 R<|Ob h λbe K h=>Jf R (Jg2 q.rdc K U28 Z27 R R x R) ?_
 obtain⟨a0,a5,a2,Z⟩:=q.rdc.gSl K
 refine Jc3 R I27 Z<|Jn 1 R<|Ji4 L 4 [e] R Y27 aR R λaW aY ba aT D ay=>Tv<|?_
 have W:=q.stp D
 obtain⟨an,N,az,aA⟩:=W.borrow K (Z _ (Stp.ag D R)) 5 R R
 refine Ob h λbf aO h=>Jd4 an E6 5 [] R Y27 aR R az (zu (bo _) (ay.stp N).rdc) aV aO R λaU aX bb ao O aB=>Tv<|Ob h λbg aP h=>Jf R (Jg2 W.rdc aP U28 Z27 R R x R)<|Ob h λaj ad h=>WO.stH (J:=ao) (E:=(zp E6 2)) 3 [5] R R R R R R R R Z27 R ⟨_,_,R,aB⟩ R R (aA.stp O) ad λbc ap au aC=>Tv<|?_
 have aK:j.length=aj.length:=x.trans (Ju2 ad).2.2.2.symm
 refine Jo<|Jz<|Jp<|Jg3 R<|wr2 Y t F.len_le ▸ ?_
 cases h
 exact Ja2 ⟨ap,i+1,aj,R,(T5 C D N O au).wk R,aC,aK,nxz Y,nxm t,v⟩ R
 rintro _ a8 ⟨am,o,rfl,ar,ax,aJ,rfl⟩
 have h:=yI aG
 refine Jz<|Jp<|Jg3 R<|wr2 X s G.len_le ▸ ?_
 cases h
 exact Ja2 ⟨am,e+1,o,R,(B.tr ar).wk R,ax,aJ,nxz X,nxm s,u⟩ R
 rintro _ a7 ⟨ak,y,rfl,aq,aw,aI,rfl⟩
 have h:=yI aF
 refine Jp<|Jf3 R<|Ju<|Jb2 (l:=[.tmp 2]) results188 (Jq2 R R) R ?_
 cases h
 exact⟨(λav=>ren [(3,2)]<|ak av),k,m,(by simp only[aI]),((aE.stp<|T3 M E aq).map (ren [(3,2)]) R R),(aw.map (ren [(3,2)]) R R)⟩
theorem gN {E F C D}{p0:Arena}{B L}{p1:VI}(ai:Rd Ri J w 0 E F p0.Owner) (aj:Rd Rs J w 0 C D p0.Next) (t:Rd Ri J w 0 B L p1){r:VB}(h:fB p0 p1=some r):Ret prog 189 [.agg #[.slice E p0.Owner.length F,.slice C p0.Next.length D],.slice B p1.length L] w (Pvs zo 4 J w r):=by
 unfold fB at h
 refine Jp3 J func189 R ntmps189 R λZ=>Jj3<|Jx3 J 2 R λah ak P y X=>Tv<|Jb 1 R<|Jj3<|Je3 R U30 R Z27<|Jc3 R I27 (X.ld 0 R R)<|Js3 R U27 R R<|Ob h λk ae h=>Jl1 (J:=P) (E:=zo) (z:=(false:Bool)) 3 R R R R R R R Y71 bZ R R R R R (λ_ _ _=>R) (Jv2 ae) λp q M m A Y=>Tv<|Jb 1 R<|Jq<|Jl3 1 R<|Js3 R U27 R R<|Jb 1 R<|Ob h λK ad aa=>?_
 clear h
 refine Jt3 [5] (λb n e=>∃f,∃j:VB,n=b/\Stp [3] m M f e/\Oc zo 4 f e 3 p q j/\k.length=j.length/\K=zw j) ?_ ?_
 refine Jv<|Ju3 [5,12,13] (λc b n e=>∃f a,∃d:VB,n=(14,vi a)::b/\Stp [3] m M f e/\Oc zo 4 f e 3 p q d/\k.length=d.length/\0<=a/\zq ((p1.length:Int)-a)=c/\cntM (gM p1) c a d=some K) ⟨_,_,⟨m,0,k,R,Jo3,Y,R,(by decide),(by simp),ad⟩,(KM R)⟩ ?_
 rintro c _ am ⟨x,a,d,rfl,o,s,v,G,g,h⟩
 rcases c with _|c
 have i:=h;obtain⟨ag,h⟩:=exq i
 have u:=dcf g
 refine Jf3 R<|Jq<|Jx2 R u<|Jc1<|Jt<|Jt ?_
 cases h
 have h:=i
 refine Jb1 ?_
 cases h
 exact Jw1 _ ⟨x,d,R,o.wk R,s,v,R⟩<|KM R
 obtain⟨ag,h,i⟩:=BI h;unfold gM at h
 have u:=dct g
 refine Jf3 R<|Jq<|Jw2 R u<|Js<|Jp<|Jq<|Jv<|Jj3<|Ob h λao H h=>Jd3 R t H U27 Z2<|Jc3 R I2 ((t.stp<|T3 y A o).gInt H)<|Jb 1 R<|Jm3 2 R<|Ob h λap af h=>Jf R (Jg2 s.rdc af U71 Z4 R R v R)<|Ob h λN I h=>Jk1 (J:=x) (E:=zo) 3 [] R R R R R R R R Z4 R R R R s I λan Q T W=>Tv<|?_
 have ac:k.length=N.length:=v.trans (Ju2 I).2.2.2.symm
 refine Jo<|Jz<|Jp<|Jg3 R<|wr2 G g t.len_le ▸ ?_
 cases h
 exact Ja2 ⟨Q,a+1,N,R,(o.tr T).wk R,W,ac,nxz G,nxm g,i⟩ R
 rintro _ al ⟨O,j,rfl,S,V,ab,rfl⟩
 have h:=yI aa
 refine Jp<|Jf3 R<|Ju<|Jb2 (l:=[.tmp 4]) results189 (Jq2 R R) R ?_
 cases h
 exact⟨(λU=>ren [(3,2)]<|O U),p,q,(by simp only[ab]),((Z.stp<|T3 y A S).map (ren [(3,2)]) R R),(V.map (ren [(3,2)]) R R)⟩
theorem eS {D H}{p0:VB}(y:Rd Rp.bool J w 0 D H p0){r:VI}(h:em p0=some r):Ret prog 191 [.slice D p0.length H] w (Pvs E6 2 J w r):=by
 unfold em at h
 refine Jp3 J func191 R ntmps191 R λaa=>Jf3 R<|Jj3<|Jc4 J E6 2 R Y27 aR R λS ag I u C Z=>Tv<|Jb 1 R<|Jq<|Jl3 1 R<|Js3 R U71 R R<|Jb 1 R<|Ob h λG ad ac=>?_
 clear h
 refine Jx1 (λd a=>∃b,∃s:VI,∃o m,d=[(3,.slice o s.length m)]/\Stp [2] u I b a/\Oc E6 2 b a 2 o m s/\G=zw s) ?_ ?_
 refine Jv<|Ju3 [7,8] (λg t d a=>∃b c,∃i:VI,∃f e,d=(3,.slice f i.length e)::(9,vi c)::t/\Stp [2] u I b a/\Oc E6 2 b a 2 f e i/\0<=c/\zq ((p0.length:Int)-c)=g/\cntM (gK p0) g c i=some G) ⟨_,_,⟨u,0,([]:VI),S,ag,R,Jo3,Z,(by decide),(by simp),ad⟩,(KM R)⟩ ?_
 rintro g _ ah ⟨j,c,i,f,e,rfl,v,x,E,p,h⟩
 rcases g with _|g
 have q:=h;obtain⟨af,h⟩:=exq q
 have z:=dcf p
 refine Jf3 R<|Jq<|Jx2 R z<|Jc1<|Jt<|Jt ?_
 cases h
 have h:=q
 refine Jb1 ?_
 cases h
 exact Jw1 _ ⟨j,i,f,e,R,v.wk R,x,R⟩<|KM R
 obtain⟨af,h,q⟩:=BI h;unfold gK at h
 have z:=dct p
 refine Jf3 R<|Jq<|Jw2 R z<|Js<|Jp<|Jq<|Jv<|Jl3 1 R<|Ob h λai F h=>Jd3 R y F U71 Z4<|Jc3 R I4 ((y.stp<|C.tr v).gBool F)<|Jb 2 R<|Jf3 R<|Ob h λA h ab=>Jt3 [7,8,9] (λt d a=>∃b k n,d=(3,.slice k A.length n)::t/\Stp [2] j ah b a/\Oc E6 2 b a 2 k n A) ?_ ?_
 revert h
 cases al:ai
 refine JF λh=>Jy R<|Js ?_
 cases h
 exact Jw1 _ ⟨j,f,e,R,Jo3,x⟩<|KM R
 refine JT λh=>Jx R<|Jm3 2 R<|Ji4 j 3 [c] R Y27 aR R λaj ak an L B X=>Tv<|Ob h λaq ae h=>Jd4 L E6 2 [] R Y27 aR R (x.stp B) (zu (bo _) X.rdc) aV ae R λU T ao M Q Y=>Tv<|Jc 1 R ?_
 cases h
 exact Jw1 _ ⟨M,U,T,R,(B.tr Q).wk R,Y⟩<|KM R
 rintro _ am ⟨K,k,n,rfl,P,W⟩
 have h:=ab
 refine Jz<|Jp<|Jg3 R<|wr2 E p y.len_le ▸ ?_
 cases h
 exact Ja2 ⟨K,c+1,A,k,n,R,(v.tr P).wk R,W,nxz E,nxm p,q⟩ R
 rintro _ ap ⟨N,s,o,m,rfl,O,V,rfl⟩
 have h:=yI ac
 refine Jp<|Jf3 R<|Ju<|Jb2 (l:=[.tmp 2]) results191 (Jq2 R R) R ?_
 cases h
 exact⟨N,o,m,R,(aa.stp<|C.tr O),V⟩
theorem jT {z t v y u x}{p0:Parity}{s F}{p1:VI}(T:Rd Ri J w 0 z t p0.Arena.Owner) (U:Rd Rs J w 0 v y p0.Arena.Next) (A:Rd Ri J w 0 u x p0.Prio) (k:Rd Ri J w 0 s F p1){r:Int}(h:ip p0 p1=some r):Ret prog 214 [.agg #[.slice z p0.Arena.Owner.length t,.slice v p0.Arena.Next.length y,.slice u p0.Prio.length x],.slice s p1.length F] w (Pvi J w r):=by
 unfold ip at h
 refine Jp3 J func214 R ntmps214 R λN=>Jj3<|Jx3 J 2 R λS G g j M=>Tv<|Jb 1 R<|Jf3 R<|Jq<|Jl3 1 R<|Js3 R U27 R R<|Jb 1 R<|Ob h λE P O=>?_
 clear h
 refine Jx1 (λi o=>∃p n,i=[(5,vi n)]/\Stp [] g G p o/\E=zw n) ?_ ?_
 refine Jv<|Ju3 [2,8,9] (λd I i o=>∃p b a,i=(5,vi a)::(10,vi b)::I/\Stp [] g G p o/\0<=b/\zq ((p1.length:Int)-b)=d/\cntM (eJ p0 p1) d b a=some E) ⟨_,_,⟨g,0,((-1):Int),R,Jo3,(by decide),(by simp),P⟩,(KM R)⟩ ?_
 rintro d _ V ⟨q,b,a,rfl,c,B,e,h⟩
 rcases d with _|d
 have f:=h;obtain⟨Q,h⟩:=exq f
 have m:=dcf e
 refine Jf3 R<|Jq<|Jx2 R m<|Jc1<|Jt<|Jt ?_
 cases h
 have h:=f
 refine Jb1 ?_
 cases h
 exact Jw1 _ ⟨q,a,R,c.wk R,R⟩<|KM R
 obtain⟨Q,h,f⟩:=BI h;unfold eJ at h
 have m:=dct e
 refine Jf3 R<|Jq<|Jw2 R m<|Js<|Jp<|Jq<|Jv<|Jj3<|Ob h λX C h=>Jd3 R k C U27 Z2<|Jc3 R I2 ((k.stp<|j.tr c).gInt C)<|Jb 1 R<|Jm3 1 R<|Je3 R U32 R Z27<|Jc3 R I27 ((M.stp c).ld 2 R R)<|Jn 1 R<|Ob h λH D h=>Jd3 R A D U27 Z2<|Jc3 R I2 ((A.stp<|j.tr c).gInt D)<|Jf R (qv R R R)<|Jc 1 R<|Jz<|Jp<|Jg3 R<|wr2 B e k.len_le ▸ ?_
 cases h
 exact Ja2 ⟨q,b+1,((if a<H then H else a):Int),R,c.wk R,nxz B,nxm e,f⟩ R
 rintro _ W ⟨K,n,rfl,L,rfl⟩
 have h:=yI O
 refine Jp<|Jf3 R<|Ju<|Jb2 (l:=[.tmp 4]) results214 (Jq2 R R) R ?_
 cases h
 exact⟨K,R,(N.stp<|j.tr L)⟩
theorem fM {B K}{p0:VB}{C L}{p1:VB}(t:Rd Rp.bool J w 0 B K p0) (D:Rd Rp.bool J w 0 C L p1){r:VB}(h:dz p0 p1=some r):Ret prog 192 [.slice B p0.length K,.slice C p1.length L] w (Pvs zo 4 J w r):=by
 unfold dz at h
 refine Jp3 J func192 R ntmps192 R λX=>Jf3 R<|Jl3 1 R<|Js3 R U71 R R<|Ob h λm ae h=>Jl1 (J:=J) (E:=zo) (z:=(false:Bool)) 2 R R R R R R R Y71 bZ R R R R R (λ_ _ _=>R) (Jv2 ae) λq x M n p W=>Tv<|Jb 1 R<|Jq<|Jl3 1 R<|Js3 R U71 R R<|Jb 1 R<|Ob h λI ac Z=>?_
 clear h
 refine Jt3 [5] (λb o e=>∃f,∃k:VB,o=b/\Stp [2] n M f e/\Oc zo 4 f e 2 q x k/\m.length=k.length/\I=zw k) ?_ ?_
 refine Jv<|Ju3 [0,1,5,11] (λc b o e=>∃f a,∃d:VB,o=(12,vi a)::b/\Stp [2] n M f e/\Oc zo 4 f e 2 q x d/\m.length=d.length/\0<=a/\zq ((p0.length:Int)-a)=c/\cntM (fL p0 p1) c a d=some I) ⟨_,_,⟨n,0,m,R,Jo3,W,R,(by decide),(by simp),ac⟩,(KM R)⟩ ?_
 rintro c _ ah ⟨y,a,d,rfl,g,s,v,E,i,h⟩
 rcases c with _|c
 have j:=h;obtain⟨af,h⟩:=exq j
 have u:=dcf i
 refine Jf3 R<|Jq<|Jx2 R u<|Jc1<|Jt<|Jt ?_
 cases h
 have h:=j
 refine Jb1 ?_
 cases h
 exact Jw1 _ ⟨y,d,R,g.wk R,s,v,R⟩<|KM R
 obtain⟨af,h,j⟩:=BI h;unfold fL at h
 have u:=dct i
 refine Jf3 R<|Jq<|Jw2 R u<|Js<|Jp<|Jq<|Jv<|Jf3 R<|Jm3 4 R<|Ob h λai F h=>Jd3 R t F U71 Z4<|Jc3 R I4 ((t.stp<|p.tr g).gBool F)<|Jn 1 R<|Ob h λag h Y=>Jk4 [0,1,5,11,12,15,16] 27 ag y ah 6 tv ?_ ?_
 revert h
 cases aj:ai
 refine JF λh=>Jn 3 R<|Je4 R<|Jn 2 R ?_
 cases h
 exact Jl4 tv R
 refine JT λh=>Jn 2 R<|Ob h λan G h=>Jd3 R D G U71 Z4<|Jc3 R I4 ((D.stp<|p.tr g).gBool G)<|Jn 2 R ?_
 cases h
 exact Jl4 tv R
 rintro _ ak _ ⟨rfl,O,A⟩
 have h:=Y
 refine Ob h λao ad h=>Jf R (Jg2 s.rdc ad U71 Z4 R R v R)<|Ob h λN H h=>Jk1 (J:=O) (E:=zo) 2 [] R R R R R R R R Z4 R R R R (s.stp A) H λal P T V=>Tv<|?_
 have ab:m.length=N.length:=v.trans (Ju2 H).2.2.2.symm
 refine Jo<|Jz<|Jp<|Jg3 R<|wr2 E i t.len_le ▸ ?_
 cases h
 exact Ja2 ⟨P,a+1,N,R,(T3 g A T).wk R,V,ab,nxz E,nxm i,j⟩ R
 rintro _ am ⟨Q,k,rfl,S,U,aa,rfl⟩
 have h:=yI Z
 refine Jp<|Jf3 R<|Ju<|Jb2 (l:=[.tmp 4]) results192 (Jq2 R R) R ?_
 cases h
 exact⟨Q,q,x,(by simp only[aa]),(X.stp<|p.tr S),U⟩
theorem iZ {n u}{p0:VB}{p1:Bool}(i:Rd Rp.bool J w 0 n u p0){r:Int}(h:ck p0 p1=some r):Ret prog 160 [.slice n p0.length u,.bool p1] w (Pvi J w r):=by
 unfold ck at h
 refine Jp3 J func160 R ntmps160 R λo=>Jf3 R<|Jq<|Jl3 1 R<|Js3 R U71 R R<|Jb 1 R<|Ob h λt z p=>?_
 clear h
 refine Jx1 (λg k=>∃m,g=[]/\Stp [] J w m k/\t=zw ()) ?_ ?_
 refine Jv<|Ju3 [0,1,7] (λc v g k=>∃m a,g=(8,vi a)::v/\Stp [] J w m k/\0<=a/\zq ((p0.length:Int)-a)=c/\cntM (bG p0 p1) c a ()=some t) ⟨_,_,⟨J,0,R,Jo3,(by decide),(by simp),z⟩,(KM R)⟩ ?_
 rintro c _ E ⟨f,a,rfl,d,q,e,h⟩
 rcases c with _|c
 have b:=h;obtain⟨A,h⟩:=exq b
 have j:=dcf e
 refine Jf3 R<|Jq<|Jx2 R j<|Jc1<|Jt<|Jt ?_
 cases h
 have h:=b
 refine Jb1 ?_
 cases h
 exact Jw1 _ ⟨f,R,d.wk R,R⟩ KN
 obtain⟨A,h,b⟩:=BI h;unfold bG at h
 have j:=dct e
 refine Jf3 R<|Jq<|Jw2 R j<|Js<|Jp<|Jq<|Jv<|Jf3 R<|Jl3 3 R<|Ob h λB s h=>Jd3 R i s U71 Z4<|Jc3 R I4 ((i.stp d).gBool s)<|Jf R (tI R R U4 R)<|Jd ?_
 revert h
 cases C:(p1==B)
 refine JF λh=>Jy R<|Js<|Jz<|Jp<|Jg3 R<|wr2 q e i.len_le ▸ ?_
 cases h
 exact Ja2 ⟨f,a+1,R,d.wk R,nxz q,nxm e,b⟩ R
 refine JT λh=>Jx R<|Jf3 R<|Ju<|Ja1<|Jw<|Jw ?_
 cases h
 obtain rfl:=zt b
 have h:=yL p
 refine Ja1<|Jr2<|Jw<|Jb2 (l:=[.tmp 4]) results160 (Jq2 R R) R ?_
 cases h
 exact⟨f,R,(o.stp d)⟩
 rintro _ D ⟨x,rfl,y,rfl⟩
 have h:=yI p
 refine Jp<|Jf3 R<|Ju<|Jb2 (l:=[.tmp 4]) results160 (Jq2 R R) R ?_
 cases h
 exact⟨x,R,(o.stp y)⟩
theorem nF {p0:(List ByteArray)}{p1:ByteArray}{a b}(c:Rd Rp.str J w 0 a b p0){r:ByteArray}(h:strings_Join p0 p1=some r):Ret prog 120 [.slice a p0.length b,.string p1] w (λd e=>∃(f:Col),d= .string r/\Ent J w f e):=vZ Tryz.strings_Join_none Tryz.strings_Join c h
theorem iJ {A u x z v y}{p0:Parity}(C:Rd Ri J w 0 A u p0.Arena.Owner) (q:Rd Rs J w 0 x z p0.Arena.Next) (ab:Rd Ri J w 0 v y p0.Prio){r:Int}(h:dO p0=some r):Ret prog 177 [.agg #[.slice A p0.Arena.Owner.length u,.slice x p0.Arena.Next.length z,.slice v p0.Prio.length y]] w (Pvi J w r):=by
 unfold dO at h
 refine Jp3 J func177 R ntmps177 R λD=>Jj3<|Jx3 J 2 R λZ L p k B=>Tv<|Jb 1 R<|Jf3 R<|Jq<|Jj3<|Je3 R U32 R Z30<|Je3 R U30 R Z28<|Jc3 R I28 (B.ld 1 R R)<|Js3 R U28 R R<|Jb 1 R<|Ob h λK T F=>?_
 clear h
 refine Jx1 (λe i=>∃j t,e=[(3,vi t)]/\Stp [] p L j i/\K=zw t) ?_ ?_
 refine Jv<|Ju3 [1,8,9] (λg o e i=>∃j c a,e=(3,vi a)::(10,vi c)::o/\Stp [] p L j i/\0<=c/\zq ((p0.Arena.Next.length:Int)-c)=g/\cntM (dP p0) g c a=some K) ⟨_,_,⟨p,0,(1:Int),R,Jo3,(by decide),(by simp),T⟩,(KM R)⟩ ?_
 rintro g _ W ⟨d,c,a,rfl,b,G,m,h⟩
 rcases g with _|g
 have f:=h;obtain⟨U,h⟩:=exq f
 have s:=dcf m
 refine Jf3 R<|Jq<|Jx2 R s<|Jc1<|Jt<|Jt ?_
 cases h
 have h:=f
 refine Jb1 ?_
 cases h
 exact Jw1 _ ⟨d,a,R,b.wk R,R⟩<|KM R
 obtain⟨U,h,f⟩:=BI h;unfold dP at h
 have s:=dct m
 refine Jf3 R<|Jq<|Jw2 R s<|Js<|Jp<|Jq<|Jv<|Jl3 1 R<|Ob h λM H h=>Jd3 R q H U28 Z27 ?_
 obtain⟨Y,ae,aa,S⟩:=(q.stp (k.tr b)).gSl H
 refine Jc3 R I27 S<|Jb 2 R<|Jj3<|Je3 R U32 R Z30<|Je3 R U30 R Z27<|Jc3 R I27 ((B.stp b).ld 0 R R)<|Jn 1 R<|Ob h λX I h=>Jd3 R C I U27 Z2<|Jc3 R I2 ((C.stp<|k.tr b).gInt I)<|Jb 1 R<|Ob h λV h E=>Jt3 [1,8,9,10] (λo e i=>∃j n,e=(3,vi n)::o/\Stp [] d W j i/\V=zw n) ?_ ?_
 revert h
 cases ac:(X==1)
 refine JF λh=>Jy R<|Js ?_
 cases h
 exact Jw1 _ ⟨d,a,R,Jo3,R⟩<|KM R
 refine JT λh=>Jx R<|Jl3 2 R<|Js3 R U27 R R<|Jb 2 R<|Jf3 R ?_
 revert h
 cases ad:decide (4096<(zr .i64 (a * (M.length:Int))))
 refine JF λh=>Jy R<|Js ?_
 cases h
 exact Jw1 _ ⟨d,((zr .i64<|a * (M.length:Int)):Int),R,Jo3,R⟩<|KM R
 refine JT λh=>Jx R<|Jf3 R<|Ju<|Jr2 ?_
 cases h
 have h:=E
 dsimp only[aft]at h
 refine Ja1<|Jw<|Jw ?_
 cases h
 obtain rfl:=zt f
 have h:=yL F
 refine Ja1<|Jr2<|Jw<|Jb2 (l:=[.tmp 2]) results177 (Jq2 R R) R ?_
 cases h
 exact⟨d,R,(D.stp<|k.tr b)⟩
 rintro _ af ⟨N,n,rfl,Q,rfl⟩
 have h:=yI E
 refine Jz<|Jp<|Jg3 R<|wr2 G m q.len_le ▸ ?_
 cases h
 exact Ja2 ⟨N,c+1,n,R,(b.tr Q).wk R,nxz G,nxm m,f⟩ R
 rintro _ ag ⟨O,t,rfl,P,rfl⟩
 have h:=yI F
 refine Jp<|Jf3 R<|Ju<|Jb2 (l:=[.tmp 2]) results177 (Jq2 R R) R ?_
 cases h
 exact⟨O,R,(D.stp<|k.tr P)⟩
theorem fZ {b c}{p0:VI}(d:Oc E6 2 J w 2 b c p0){r:VI}(h:bH p0=some r):Ret prog 161 [.slice b p0.length c] w (λn e=>∃(f:Col),n= .tuple #[]/\Ent J w f e/\Oc E6 2 f e 2 b c r/\p0.length=r.length):=by
  unfold bH at h
  split at h
  .rename_i a
   cases h
   exact wH (λg m i o w j k l=>Tryz.slices_Sort_int g m i o w j k l) d a.1 a.2
  .split at h
   .rename_i a
    cases h
    exact vt Tryz.slices_Sort_int_none d a
   .cases h
theorem i7 {d f}{p0:VI}(K:Oc E6 2 J w 2 d f p0){r:VI}(h:c9 p0=some r):Ret prog 272 [.slice d p0.length f] w (λT b=>∃(c:Col),T= .tuple #[]/\Ent J w c b/\Oc E6 2 c b 2 d f r/\p0.length=r.length):=by
 unfold c9 at h
 refine Jp3 J func272 R ntmps272 R λL=>Jl3 1 R<|Js3 R U27 R R<|Jb 3 R<|Ob h λz P M=>?_
 clear h
 refine Jx1 (λn b=>∃c,∃k:Int×Int×VI,n=[]/\Stp [2] J w c b/\Oc E6 2 c b 2 d f k.2.2/\p0.length=k.2.2.length/\z=zw k) ?_ ?_
 refine Jv<|Ju3 [0] (λj l n b=>∃c,∃a:Int×Int×VI,n=(2,vi a.1)::(3,vi a.2.1)::l/\Stp [2] J w c b/\Oc E6 2 c b 2 d f a.2.2/\p0.length=a.2.2.length/\bn cz j a=some z) ⟨_,_,⟨J,((0:Int),((zr .i64 ((p0.length:Int)-1)):Int),p0),R,Jo3,K,R,P⟩,(KM R)⟩ ?_
 rintro j _ ab ⟨m,a,rfl,o,g,e,h⟩
 rcases j with _|j
 cases h
 obtain⟨W,h,s⟩:=BI h;unfold cz at h
 refine Jq<|Jf3 R ?_
 revert h
 cases V:decide (a.1<a.2.1)
 refine JF λh=>Jy R<|Jc1<|Jt<|Jt ?_
 cases h
 have h:=s
 refine Jb1 ?_
 cases h
 exact Jw1 _ ⟨m,(a.1,a.2.1,a.2.2),R,o.wk R,g,e,R⟩ KN
 refine JT λh=>Jx R<|Js<|Jp<|Jq<|Jv<|Js1 (J:=m) [0,2] (some 13) [(0,2),(1,2),(2,2),(3,2),(4,2),(5,2),(6,2),(8,2),(9,2),(10,2),(7,0),(11,0),(12,2)] [(13,1),(14,2),(15,1)] (by kernel_rfl) (by kernel_rfl) λX p=>Jn 6 R<|Ob h λac u h=>Jf R (Jg2 g.rdc u U27 Z2 R R e R)<|Jn 2 R<|Ob h λad v h=>Jf R (Jg2 g.rdc v U27 Z2 R R e R) ?_
 have i:=g.stp p
 refine Jg R (Jd2 I2 R R<|hvC (i.rdc.gInt u) R)<|Jg R (Jd2 I2 R R<|hvC (i.rdc.gInt v) R)<|Ob h λae Q h=>Jf R (Jg2 i.rdc Q U27 Z2 R R e R)<|Jt1<|Ob h λU x h=>Jk1 (J:=m) (E:=E6) 2 [] R R R R R R R R Z2 R R R R i x λY B E q=>Tv<|?_
 have t:p0.length=U.length:=e.trans (Ju2 x).2.2.2.symm
 refine Ob h λaf S h=>Jf R (Jg2 q.rdc S U27 Z2 R R t R)<|Ob h λA y h=>Jk1 (J:=B) (E:=E6) 2 [] R R R R R R R R Z2 R R R R q y λZ C F H=>Tv<|?_
 have N:p0.length=A.length:=t.trans (Ju2 y).2.2.2.symm
 refine Jo<|Jz<|Jp<|Jg3 R ?_
 cases h
 exact Ja2 ⟨C,(((zr .i64<|a.1+1):Int),((zr .i64<|a.2.1-1):Int),A),R,(T4 o p E F).wk R,H,N,s⟩ R
 rintro _ aa ⟨D,k,rfl,G,I,O,rfl⟩
 have h:=yI M
 refine DN.end0 results272 ?_
 cases h
 exact⟨D,R,(L.stp G),I,O⟩
theorem m9 {a d}{p0:VI}(b:Rd Ri J w 0 a d p0){r:Bool}(h:gF p0=some r):Ret prog 213 [.slice a p0.length d] w (Pvb J w r):=by
 unfold gF at h
 refine Jp3 J func213 R ntmps213 R λe=>Jf3 R<|Jl3 1 R<|Ob h λf c h=>Jd3 R b c U27 Z2<|Jc3 R I2 (b.gInt c)<|Jb 2 R<|Ju<|Jb2 (l:=[.tmp 2]) results213 (Jq2 R R) R ?_
 cases h
 exact⟨J,R,e⟩
theorem lh {G F I L H K}{p0:Parity}{E S}{p1:VI}{p2:Int}(aB:Rd Ri J w 0 G F p0.Arena.Owner) (aC:Rd Rs J w 0 I L p0.Arena.Next) (M:Rd Ri J w 0 H K p0.Prio) (A:Rd Ri J w 0 E S p1){r:VI}(h:gi p0 p1 p2=some r):Ret prog 277 [.agg #[.slice G p0.Arena.Owner.length F,.slice I p0.Arena.Next.length L,.slice H p0.Prio.length K],.slice E p1.length S,vi p2] w (Pvs E6 2 J w r):=by
 unfold gi at h
 refine Jp3 J func277 R ntmps277 R λan=>Jj3<|Jx3 J 2 R λaA aE V y al=>Tv<|Jb 1 R<|Jj3<|Jc4 V E6 3 R Y27 aR R λac af T x m am=>Tv<|Jb 1 R<|Jq<|Jl3 1 R<|Js3 R U27 R R<|Jb 1 R<|Ob h λQ aq ao=>?_
 clear h
 refine Jx1 (λd a=>∃b,∃u:VI,∃q n,d=[(7,.slice q u.length n)]/\Stp [3] x T b a/\Oc E6 2 b a 3 q n u/\Q=zw u) ?_ ?_
 refine Jv<|Ju3 [2,3,11,12] (λi v d a=>∃b c,∃j:VI,∃g f,d=(7,.slice g j.length f)::(13,vi c)::v/\Stp [3] x T b a/\Oc E6 2 b a 3 g f j/\0<=c/\zq ((p1.length:Int)-c)=i/\cntM (ez p0 p1 p2) i c j=some Q) ⟨_,_,⟨x,0,([]:VI),ac,af,R,Jo3,am,(by decide),(by simp),aq⟩,(KM R)⟩ ?_
 rintro i _ av ⟨k,c,j,g,f,rfl,e,z,N,s,h⟩
 rcases i with _|i
 have t:=h;obtain⟨au,h⟩:=exq t
 have B:=dcf s
 refine Jf3 R<|Jq<|Jx2 R B<|Jc1<|Jt<|Jt ?_
 cases h
 have h:=t
 refine Jb1 ?_
 cases h
 exact Jw1 _ ⟨k,j,g,f,R,e.wk R,z,R⟩<|KM R
 obtain⟨au,h,t⟩:=BI h;unfold ez at h
 have B:=dct s
 refine Jf3 R<|Jq<|Jw2 R B<|Js<|Jp<|Jq<|Jv<|Jj3<|Ob h λaw O h=>Jd3 R A O U27 Z2<|Jc3 R I2 ((A.stp<|T3 y m e).gInt O)<|Jb 1 R<|Jj3<|Je3 R U32 R Z27<|Jc3 R I27 ((al.stp<|m.tr e).ld 2 R R)<|Jn 1 R<|Ob h λax P h=>Jd3 R M P U27 Z2<|Jc3 R I2 ((M.stp<|T3 y m e).gInt P)<|Jb 2 R<|Ob h λC h ap=>Jt3 [2,3,11,12,13] (λv d a=>∃b p o,d=(7,.slice p C.length o)::v/\Stp [3] k av b a/\Oc E6 2 b a 3 p o C) ?_ ?_
 revert h
 cases aD:(ax==p2)
 refine JF λh=>Jy R<|Js ?_
 cases h
 exact Jw1 _ ⟨k,g,f,R,Jo3,z⟩<|KM R
 refine JT λh=>Jx R<|Jm3 2 R<|Ji4 k 4 [aw] R Y27 aR R λaz ay aH X D aj=>Tv<|Ob h λaJ ar h=>Jd4 X E6 3 [] R Y27 aR R (z.stp D) (zu (bo _) aj.rdc) aV ar R λae ad aI Y ab ak=>Tv<|Jc 1 R ?_
 cases h
 exact Jw1 _ ⟨Y,ae,ad,R,(D.tr ab).wk R,ak⟩<|KM R
 rintro _ aG ⟨W,p,o,rfl,aa,ai⟩
 have h:=ap
 refine Jz<|Jp<|Jg3 R<|wr2 N s A.len_le ▸ ?_
 cases h
 exact Ja2 ⟨W,c+1,C,p,o,R,(e.tr aa).wk R,ai,nxz N,nxm s,t⟩ R
 rintro _ aF ⟨U,u,q,n,rfl,Z,ah,rfl⟩
 have h:=yI ao
 refine Jp<|Jf3 R<|Ju<|Jb2 (l:=[.tmp 6]) results277 (Jq2 R R) R ?_
 cases h
 exact⟨(λag=>ren [(3,2)]<|U ag),q,n,R,((an.stp<|T3 y m Z).map (ren [(3,2)]) R R),(ah.map (ren [(3,2)]) R R)⟩
theorem pg {E F C D}{p0:Arena}{p1:Int}{A Y}{p2:VB}{B Z}{q:VI}{V:Int}(H:Rd Ri J w 0 E F p0.Owner) (I:Rd Rs J w 0 C D p0.Next) (K:Rd Rp.bool J w 0 A Y p2) (o:Rd Ri J w 0 B Z q){r:Bool}(h:iG p0 p1 p2 q V=some r):Ret prog 298 [.agg #[.slice E p0.Owner.length F,.slice C p0.Next.length D],vi p1,.slice A p2.length Y,.slice B q.length Z,vi V] w (Pvb J w r):=by
 unfold iG at h
 refine Jp3 J func298 R ntmps298 R λL=>Jj3<|Jx3 J 2 R λax aa u c G=>Tv<|Jb 1 R<|Jf3 R<|Jf3 R<|Jq<|Jj3<|Je3 R U30 R Z28<|Jc3 R I28 (G.ld 1 R R)<|Jn 1 R<|Ob h λab N h=>Jd3 R I N U28 Z27 ?_
 obtain⟨aw,aD,v,al⟩:=(I.stp c).gSl N
 refine Jc3 R I27 al<|Js3 R U27 R R<|Jb 1 R ?_
 have M:=v.len_le
 refine Ob h λX am ak=>?_
 clear h
 refine Jt3 [1,4,5] (λs g k=>∃m,∃f:Bool×Bool×Bool,g=(11,.bool f.1)::(12,.bool f.2.1)::(13,.bool f.2.2)::s/\Stp [] u aa m k/\X=zw f) ?_ ?_
 refine Jv<|Ju3 [1,2,3,4,5,20,21] (λj s g k=>∃m d,∃a:Bool×Bool×Bool,g=(11,.bool a.1)::(12,.bool a.2.1)::(13,.bool a.2.2)::(22,vi d)::s/\Stp [] u aa m k/\0<=d/\zq ((ab.length:Int)-d)=j/\cntM (ek p2 q ab) j d a=some X) ⟨_,_,⟨u,0,(false,true,false),R,Jo3,(by decide),(by simp),am⟩,(KM R)⟩ ?_
 rintro j _ aq ⟨t,d,a,rfl,b,p,e,h⟩
 rcases j with _|j
 have i:=h;obtain⟨an,h⟩:=exq i
 have x:=dcf e
 refine Jf3 R<|Jq<|Jx2 R x<|Jc1<|Jt<|Jt ?_
 cases h
 have h:=i
 refine Jb1 ?_
 cases h
 exact Jw1 _ ⟨t,(a.1,a.2.1,a.2.2),R,b.wk R,R⟩<|KM R
 obtain⟨an,h,i⟩:=BI h;unfold ek at h
 have x:=dct e
 refine Jf3 R<|Jq<|Jw2 R x<|Js<|Jp<|Jq<|Jv<|Jj3<|Ob h λaG O h=>Jd3 R v O U27 Z2<|Jc3 R I2 ((v.stp b).gInt O)<|Jb 1 R<|Jq<|Jl3 2 R<|Ob h λau P h=>Jd3 R K P U71 Z4<|Jc3 R I4 ((K.stp<|c.tr b).gBool P)<|Jb 1 R ?_
 revert h
 cases ay:(!au)
 refine JF λh=>Jy R<|Js<|Jp<|Jf3 R<|Jl3 2 R<|Ob h λU h ah=>Jk4 [1,2,3,4,5,11,12,13,15,20,21,22] 38 U t aq 6 tv ?_ ?_
 revert h
 cases az:a.1
 refine JF λh=>Jn 2 R<|Ob h λaH Q h=>Jd3 R o Q U27 Z2<|Jc3 R I2 ((o.stp<|c.tr b).gInt Q)<|Jn 2 R ?_
 cases h
 exact Jl4 tv R
 refine JT λh=>Jn 3 R<|Je4 R<|Jn 2 R ?_
 cases h
 exact Jl4 tv R
 rintro _ ar _ ⟨rfl,ac,z⟩
 have h:=ah
 refine Jb 1 R<|Jm3 2 R<|Ob h λW h ai=>Jk4 [1,2,3,4,5,11,12,13,20,21,22] 46 W ac ar 6 tv ?_ ?_
 revert h
 cases aA:a.2.1
 refine JF λh=>Jn 3 R<|Je4 R<|Jn 2 R ?_
 cases h
 exact Jl4 tv R
 refine JT λh=>Jn 2 R<|Ob h λaI S h=>Jd3 R o S U27 Z2<|Jc3 R I2 ((o.stp<|T3 c b z).gInt S)<|Jn 2 R ?_
 cases h
 exact Jl4 tv R
 rintro _ aE _ ⟨rfl,ad,af⟩
 have h:=ai
 refine Jc 1 R<|Jz<|Jp<|Jg3 R<|wr2 p e M ▸ ?_
 cases h
 exact Ja2 ⟨ad,d+1,(U,W,true),R,(T3 b z af).wk R,nxz p,nxm e,i⟩ R
 refine JT λh=>Jx R<|Jc1<|Jt<|Jb1<|Jp<|Jg3 R<|wr2 p e M ▸ ?_
 cases h
 exact Ja2 ⟨t,d+1,(a.1,a.2.1,a.2.2),R,b.wk R,nxz p,nxm e,i⟩ R
 rintro _ ap ⟨y,f,rfl,n,rfl⟩
 have h:=yI ak
 refine Jp<|Jq<|Jj3<|Je3 R U30 R Z27<|Jc3 R I27 ((G.stp n).ld 0 R R)<|Jn 1 R<|Ob h λav T h=>Jd3 R H T U27 Z2<|Jc3 R I2 ((H.stp<|c.tr n).gInt T)<|Jb 2 R ?_
 revert h
 cases aB:(av==p1)
 refine JF λh=>Jy R<|Js<|Jp<|Jl3 2 R<|Ob h λao h aj=>Ju1 [(2,2),(3,2)] [(4,2)] (λg k=>g=[(59,.bool ao)]/\∃m,Stp [] y ap m k) tv ?_ ?_
 revert h
 cases aC:f.2.2
 refine JF λh=>Jn 2 R ?_
 cases h
 exact Jl4 tv R
 refine JT λh=>Jn 2 R ?_
 cases h
 exact Jl4 tv R
 rintro _ aF _ ⟨rfl,ae,ag⟩
 have h:=aj
 refine Jb 1 R<|Ju<|Jb2 (l:=[.tmp 10]) results298 (Jq2 R R) R ?_
 cases h
 exact⟨ae,R,(L.stp<|T3 c n ag)⟩
 refine JT λh=>Jx R<|Jf3 R<|Ju<|Jw<|Jb2 (l:=[.tmp 10]) results298 (Jq2 R R) R ?_
 cases h
 exact⟨y,R,(L.stp<|c.tr n)⟩
theorem gc {p0:Int}  {r:Bool}(h:cw p0=some r):Ret prog 222 [vi p0] w (Pvb J w r):=by
 unfold cw at h
 refine Jp3 J func222 R ntmps222 R λa=>Jf3 R<|Jf3 R<|Ju<|Jb2 (l:=[.tmp 2]) results222 (Jq2 R R) R ?_
 cases h
 exact⟨J,R,a⟩
theorem pe {p0:Int}  {r:Bool}(h:jR p0=some r):Ret prog 185 [vi p0] w (Pvb J w r):=by
 unfold jR at h
 refine Jp3 J func185 R ntmps185 R λc=>Jf3 R<|Jl3 3 R<|Ob h λe h d=>Jk4 [2] 8 e J w 3 tv ?_ ?_
 revert h
 cases f:(p0==0)
 refine JF λh=>Jn 3 R ?_
 cases h
 exact Jl4 tv R
 refine JT λh=>Jn 3 R ?_
 cases h
 exact Jl4 tv R
 rintro _ g _ ⟨rfl,a,b⟩
 have h:=d
 refine Jb 1 R<|Ju<|Jb2 (l:=[.tmp 2]) results185 (Jq2 R R) R ?_
 cases h
 exact⟨a,R,(c.stp b)⟩
theorem fu {n g j m i k}{p0:Parity}{p1:Int}{p2:Int}(L:Rd Ri J w 0 n g p0.Arena.Owner) (M:Rd Rs J w 0 j m p0.Arena.Next) (o:Rd Ri J w 0 i k p0.Prio){r:Bool}(h:dZ p0 p1 p2=some r):Ret prog 278 [.agg #[.slice n p0.Arena.Owner.length g,.slice j p0.Arena.Next.length m,.slice i p0.Prio.length k],vi p1,vi p2] w (Pvb J w r):=by
 unfold dZ at h
 refine Jp3 J func278 R ntmps278 R λz=>Jj3<|Jx3 J 2 R λK P c f y=>Tv<|Jb 1 R<|Jq<|Js1 (J:=c) [0,2] none [(0,2),(2,2),(5,2),(7,2),(1,0),(3,2),(4,0),(6,0),(8,2),(9,0),(10,2),(11,2),(12,2),(14,2),(17,2),(19,2),(13,0),(15,2),(16,0),(18,0),(20,2),(21,0),(22,2),(23,2),(24,2),(25,2),(26,2),(27,2),(28,2),(29,2)] [] (by kernel_rfl) (by kernel_rfl) λu d=>Je3 R U32 R Z27<|Jn 1 R<|Je3 R U32 R Z27<|Jn 1 R ?_
 have b:=y.stp d
 refine Jg R (Jd2 I27 R R<|hvC (b.ld 2 R R) R)<|Ob h λE p h=>Jd3 R o p U27 Z2 ?_
 have a:=o.stp (f.tr d)
 refine Jg R (Jd2 I2 R R<|hvC (a.gInt p) R)<|Jg R (Jd2 I27 R R<|hvC (b.ld 2 R R) R)<|Ob h λF q h=>Jd3 R a q U27 Z2<|Jg R (Jd2 I2 R R<|hvC (a.gInt q) R)<|Jn 2 R<|Ob h λD h B=>Jk4 [6] 35 D c u 17 (Cl.refl _ _ _) ?_ ?_
 revert h
 cases N:decide (F<E)
 refine JF λh=>Je3 R U32 R Z27<|Jn 1 R<|Je3 R U32 R Z27<|Jn 1 R<|Jg R (Jd2 I27 R R<|hvC (b.ld 2 R R) R)<|Ob h λG s h=>Jd3 R a s U27 Z2<|Jg R (Jd2 I2 R R<|hvC (a.gInt s) R)<|Jg R (Jd2 I27 R R<|hvC (b.ld 2 R R) R)<|Ob h λH t h=>Jd3 R a t U27 Z2<|Jg R (Jd2 I2 R R<|hvC (a.gInt t) R)<|Jn 2 R<|Ob h λC h A=>Jk4 [6,18] 34 C c u 4 (Cl.refl _ _ _) ?_ ?_
 revert h
 cases O:(G==H)
 refine JF λh=>Jn 4 R ?_
 cases h
 exact Jv1 _ (Cl.refl _ _ _) ⟨R,_,Jo3⟩<|KM R
 refine JT λh=>Jn 4 R ?_
 cases h
 exact Jv1 _ (Cl.refl _ _ _) ⟨R,_,Jo3⟩<|KM R
 rintro _ Q _ ⟨rfl,I,e⟩
 have h:=A
 refine Jn 1 R ?_
 cases h
 exact Jv1 _ (e.cl R) ⟨R,_,e.wk R⟩<|KM R
 refine JT λh=>Jn 4 R<|Jf4 R<|Jn 1 R<|Jf4 R<|Jf4 R<|Jn 1 R<|Jf4 R<|Jn 7 R ?_
 cases h
 exact Jv1 _ (Cl.refl _ _ _) ⟨R,_,Jo3⟩<|KM R
 rintro _ S _ ⟨rfl,v,x⟩
 have h:=B
 refine Jn 1 R<|Jt1<|Jd<|Ju<|Jb2 (l:=[.tmp 6]) results278 (Jq2 R R) R ?_
 cases h
 exact⟨v,R,(z.stp<|T3 f d x)⟩
theorem oc {aa ab Y Z}{p0:Stage}(M:Rd Ri J w 0 aa ab p0.Won) (N:Rd Ri J w 0 Y Z p0.Region){r:Stage}(h:jb p0=some r):Ret prog 279 [.agg #[.slice aa p0.Won.length ab,.slice Y p0.Region.length Z,vi p0.At]] w (λaS k=>∃(m:Col) (ad:Option Addr) (af:Nat) (ae:Option Addr) (ag:Nat),aS= .agg #[.slice ad r.Won.length af,.slice ae r.Region.length ag,vi r.At]/\Ent J w m k/\Oc E6 2 m k 2 ad af r.Won/\Oc E6 2 m k 3 ae ag r.Region):=by
 unfold jb at h
 refine Jp3 J func279 R ntmps279 R λaP=>Jj3<|Jx3 J 2 R λaU aW ak t aE=>Tv<|Jy3 ak 3 R X261 R λax aT A s L=>Tv<|Jd<|Jq<|Ob h λz P h=>Ob h λy O h=>Jt3 [2] (λai au k=>∃m G F H E,au=ai/\Stp [3,4,5] A aT m k/\Oc E6 2 m k 4 G F z/\Oc E6 2 m k 5 H E y/\Bc m k 3 ax 261 [.slice G z.length F,.slice H y.length E,vi p0.At]) ?_ ?_
 refine WC.rxt (J:=A) [2] none (by kernel_rfl) λaX b=>Jq1 (fuel:=6) [(1,2),(5,2),(8,2),(2,0),(6,0),(9,0)] (by kernel_rfl) (by kernel_rfl) R<|Je3 R U261 R Z27<|Je3 R U261 R Z27<|Je3 R U261 R Z2 ?_
 have K:=aE.stp (s.tr b)
 refine Jg R (Jd2 I27 R R<|hvC (K.ld 0 R R) R)<|Jg R (Jd2 I27 R R<|hvC (K.ld 1 R R) R)<|Jg R (Jd2 I2 R R<|hvC (K.ld 2 R R) R)<|Jp1<|WA.fork2 (fuel:=5) 0 4 (by kernel_rfl) R ?_ ?_
 refine Jc4 A E6 4 R Y27 aR R λaw aQ aY Q a ac=>⟨(a.cl R),Jp1<|WA.fork2 (fuel:=4) 3 4 (by kernel_rfl) R ?_ ?_⟩
 have V:=(T4 t s b a)
 exact Jd4 Q E6 4 [] R Y27 aR R ac (zu (bo _)<|M.stp V) aV P R λf j aZ al n aB=>⟨((a.tr n).cl R),Jp1<|Jq1 (fuel:=0) [(4,1),(7,1),(10,2),(11,1)] (by kernel_rfl) (by kernel_rfl) R<|Jc4 al E6 5 R Y27 aR R λX ah a0 am o aC=>⟨((T3 a n o).cl R),Jd4 am E6 5 [] R Y27 aR R aC (zu (bo _)<|N.stp<|T3 V n o) aV O R λg i a1 S u aD=>⟨((T4 a n o u).cl R),Jf R (Jn4 [.slice f z.length j,.slice g y.length i,vi p0.At] R)<|Jm4 S 3 R Z261 R (L.stp<|T5 b a n o u) R λa2 B aF=>⟨((T5 a n o u B).cl R),Jp1<|Jr1 [] (by kernel_rfl) (by kernel_rfl) R<|Jo<|Jw1 _ ⟨S,f,j,g,i,R,(T6 b a n o u B).wk R,(aB.stp<|T3 o u B),(aD.stp B),aF⟩<|KM R⟩⟩⟩⟩
 have W:=(T4 t s b a)
 exact Jc4 Q E6 5 R Y27 aR R λX ah a3 an c aG=>⟨((a.tr c).cl R),Jp1<|Jq1 (fuel:=0) [(3,1),(7,1),(10,2),(11,1)] (by kernel_rfl) (by kernel_rfl) R<|Jd4 an E6 4 [] R Y27 aR R (ac.stp c) (zu (bo _)<|M.stp<|W.tr c) aV P R λf j a4 ao p aH=>⟨((T3 a c p).cl R),Jd4 ao E6 5 [] R Y27 aR R (aG.stp p) (zu (bo _)<|N.stp<|T3 W c p) aV O R λg i a5 T v aI=>⟨((T4 a c p v).cl R),Jf R (Jn4 [.slice f z.length j,.slice g y.length i,vi p0.At] R)<|Jm4 T 3 R Z261 R (L.stp<|T5 b a c p v) R λa6 C aJ=>⟨((T5 a c p v C).cl R),Jp1<|Jr1 [] (by kernel_rfl) (by kernel_rfl) R<|Jo<|Jw1 _ ⟨T,f,j,g,i,R,(T6 b a c p v C).wk R,(aH.stp<|v.tr C),(aI.stp C),aJ⟩<|KM R⟩⟩⟩⟩
 exact Jc4 A E6 4 R Y27 aR R λX ah a7 ap d aK=>⟨(d.cl R),Jp1<|Jq1 (fuel:=0) [(0,1),(3,1),(7,1),(10,2),(11,1)] (by kernel_rfl) (by kernel_rfl) R<|Jc4 ap E6 5 R Y27 aR R λaw aQ a8 aq e aL=>⟨((d.tr e).cl R),Jd4 aq E6 5 [] R Y27 aR R aL (zu (bo _)<|M.stp<|T5 t s b d e) aV P R λf j a9 ar q aM=>⟨((T3 d e q).cl R),Jd4 ar E6 4 [] R Y27 aR R (aK.stp<|e.tr q) (zu (bo _)<|N.stp<|T6 t s b d e q) aV O R λg i ba U x aN=>⟨((T4 d e q x).cl R),Jf R (Jn4 [.slice f z.length j,.slice g y.length i,vi p0.At] R)<|Jm4 U 3 R Z261 R (L.stp<|T5 b d e q x) R λbb D aO=>⟨((T5 d e q x D).cl R),Jp1<|Jr1 [] (by kernel_rfl) (by kernel_rfl) R<|Jo<|Jw1 _ ⟨(λI=>ren [(5,4),(4,5)]<|U I),f,j,g,i,R,(Jz2 ((T6 b d e q x D).wk R) [(5,4),(4,5)] R),((aM.stp<|x.tr D).map (ren [(5,4),(4,5)]) R R),((aN.stp D).map (ren [(5,4),(4,5)]) R R),(aO.map (ren [(5,4),(4,5)]) R R)⟩<|KM R⟩⟩⟩⟩⟩
 rintro _ bc ⟨aj,G,F,H,E,rfl,av,ay,az,aA⟩
 refine Jp<|Ju<|Jb2 (l:=[.cell 2 261]) results279 (bv R aA I261 Z261 R R) R ?_
 cases h
 exact⟨(λI=>ren [(4,2),(5,3)]<|aj I),G,F,H,E,R,((aP.stp<|T3 t s av).map (ren [(4,2),(5,3)]) R R),(ay.map (ren [(4,2),(5,3)]) R R),(az.map (ren [(4,2),(5,3)]) R R)⟩
theorem fo {I K G H}{p0:Stage}{p1:Int}(az:Rd Ri J w 0 I K p0.Won) (A:Rd Ri J w 0 G H p0.Region){r:VI}(h:dX p0 p1=some r):Ret prog 282 [.agg #[.slice I p0.Won.length K,.slice G p0.Region.length H,vi p0.At],vi p1] w (Pvs E6 2 J w r):=by
 unfold dX at h
 refine Jp3 J func282 R ntmps282 R λaj=>Jj3<|Jx3 J 2 R λay aC S E ag=>Tv<|Jb 1 R<|Jj3<|Jc4 S E6 3 R Y27 aR R λZ aq P u y ai=>Tv<|Jb 1 R<|Jq<|Jj3<|Je3 R U261 R Z27<|Jc3 R I27 ((ag.stp y).ld 1 R R)<|Js3 R U27 R R<|Jb 1 R<|Ob h λO an ak=>?_
 clear h
 refine Jx1 (λd a=>∃b,∃q:VI,∃n k,d=[(5,.slice n q.length k)]/\Stp [3] u P b a/\Oc E6 2 b a 3 n k q/\O=zw q) ?_ ?_
 refine Jv<|Ju3 [1,10,11] (λg s d a=>∃b c,∃i:VI,∃e f,d=(5,.slice e i.length f)::(12,vi c)::s/\Stp [3] u P b a/\Oc E6 2 b a 3 e f i/\0<=c/\zq ((p0.Region.length:Int)-c)=g/\cntM (fl p0 p1) g c i=some O) ⟨_,_,⟨u,0,([]:VI),Z,aq,R,Jo3,ai,(by decide),(by simp),an⟩,(KM R)⟩ ?_
 rintro g _ ar ⟨D,c,i,e,f,rfl,v,z,L,o,h⟩
 rcases g with _|g
 have p:=h;obtain⟨ap,h⟩:=exq p
 have B:=dcf o
 refine Jf3 R<|Jq<|Jx2 R B<|Jc1<|Jt<|Jt ?_
 cases h
 have h:=p
 refine Jb1 ?_
 cases h
 exact Jw1 _ ⟨D,i,e,f,R,v.wk R,z,R⟩<|KM R
 obtain⟨ap,h,p⟩:=BI h;unfold fl at h
 have B:=dct o
 refine Jf3 R<|Jq<|Jw2 R B<|Js<|Jp<|Jq<|Jv<|Jl3 1 R<|Ob h λav M h=>Jd3 R A M U27 Z2<|Jc3 R I2 ((A.stp<|T3 E y v).gInt M)<|Jb 2 R<|Jl3 3 R<|Ob h λN h al=>Jk4 [1,5,6,10,11,12] 23 N D ar 4 tv ?_ ?_
 revert h
 cases aA:decide (0<=av)
 refine JF λh=>Jn 4 R ?_
 cases h
 exact Jl4 tv R
 refine JT λh=>Jn 4 R ?_
 cases h
 exact Jl4 tv R
 rintro _ au _ ⟨rfl,t,x⟩
 have h:=al
 refine Jd<|Ob h λC h am=>Jt3 [1,10,11,12] (λs d a=>∃b j m,d=(5,.slice j C.length m)::s/\Stp [3] t au b a/\Oc E6 2 b a 3 j m C) ?_ ?_
 revert h
 cases aB:N
 refine JF λh=>Jy R<|Js ?_
 cases h
 exact Jw1 _ ⟨t,e,f,R,Jo3,(z.stp x)⟩<|KM R
 refine JT λh=>Jx R<|Jm3 2 R<|Ji4 t 4 [c] R Y27 aR R λax aw aF U F af=>Tv<|Ob h λaH ao h=>Jd4 U E6 3 [] R Y27 aR R (z.stp<|x.tr F) (zu (bo _) af.rdc) aV ao R λaa ab aG V Y ah=>Tv<|Jc 1 R ?_
 cases h
 exact Jw1 _ ⟨V,aa,ab,R,(F.tr Y).wk R,ah⟩<|KM R
 rintro _ aE ⟨T,j,m,rfl,X,ae⟩
 have h:=am
 refine Jz<|Jp<|Jg3 R<|wr2 L o A.len_le ▸ ?_
 cases h
 exact Ja2 ⟨T,c+1,C,j,m,R,(T3 v x X).wk R,ae,nxz L,nxm o,p⟩ R
 rintro _ aD ⟨Q,q,n,k,rfl,W,ad,rfl⟩
 have h:=yI ak
 refine Jp<|Jf3 R<|Ju<|Jb2 (l:=[.tmp 4]) results282 (Jq2 R R) R ?_
 cases h
 exact⟨(λac=>ren [(3,2)]<|Q ac),n,k,R,((aj.stp<|T3 E y W).map (ren [(3,2)]) R R),(ad.map (ren [(3,2)]) R R)⟩
theorem sx {p0:Bool}  {r:ByteArray}(h:p7 p0=some r):Ret prog 72 [.bool p0] w (λb c=>∃(d:Col),b= .string r/\Ent J w d c):=by
 unfold p7 at h
 refine Jp3 J func72 R ntmps72 R λa=>Jf3 R<|Jq<|Jf3 R ?_
 revert h
 cases e:p0
 refine JF λh=>Jy R<|Js<|Jp<|Jf3 R<|Ju<|Jb2 (l:=[.tmp 2]) results72 (Jq2 R R) R ?_
 cases h
 exact⟨J,R,a⟩
 refine JT λh=>Jx R<|Jf3 R<|Ju<|Jw<|Jb2 (l:=[.tmp 2]) results72 (Jq2 R R) R ?_
 cases h
 exact⟨J,R,a⟩
end
end Go.Proofs.YtgbippnfaoedmaaGreatDoor
