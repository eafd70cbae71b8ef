/- The walks, part 5. By program. -/
import Derived.Test.YtgbippnfaoedmaaGreatDoorFns4BG
set_option linter.unusedVariables false
set_option linter.unusedSimpArgs false
open Int renaming toNat → zq
open Go.IntKind renaming wrap → zr
open Option.some renaming inj → zt
open Sum renaming inr → zw
namespace Go.Proofs.YtgbippnfaoedmaaGreatDoor
open Tryz
open Go Go.Wk Go.Proofs
set_option maxRecDepth 100000
set_option maxHeartbeats 1000000
section
variable {w:World}{J:Col}
theorem rX {c e}{p0:VI}{d f}{p1:VI}(n:Rd Ri J w 0 c e p0) (o:Rd Ri J w 0 d f p1){r:Bool}(h:kB p0 p1=some r):Ret prog 22 [.slice c p0.length e,.slice d p1.length f] w (Pvb J w r):=by
 unfold kB at h
 refine Jp3 J func22 R ntmps22 R λp=>Jf3 R<|Jl3 1 R<|Ob h λx s h=>Jw3 R call47 (oF (J:=Mk J) (Jn3 n) s) ?_
 rintro _ v ⟨B,rfl,m⟩
 obtain⟨a,b,D⟩:=Ji m 2 R
 refine Tv<|Jn 1 R<|Ob h λu h q=>Jk4 [4] 10 u a v 3 tv ?_ ?_
 revert h
 cases z:x
 refine JF λh=>Jn 1 R<|Je4 R<|Jn 1 R ?_
 cases h
 exact Jl4 tv R
 refine JT λh=>Jn 1 R<|Ob h λG t h=>Jw3 R call47 (oF (J:=Mk a) (Jn3<|o.stp b) t) ?_
 rintro _ E ⟨A,rfl,k⟩
 obtain⟨y,i,C⟩:=Ji k 4 R
 refine Tv<|Jn 1 R ?_
 cases h
 exact Jv1 _ tv ⟨R,_,i.wk R⟩<|KM R
 rintro _ F _ ⟨rfl,g,j⟩
 have h:=q
 refine Jb 1 R<|Ju<|Jb2 (l:=[.tmp 4]) results22 (Jq2 R R) R ?_
 cases h
 exact⟨g,R,(p.stp<|b.tr j)⟩
theorem jl {C x z B y A}{p0:Parity}(U:Rd Ri J w 0 C x p0.Arena.Owner) (V:Rd Rs J w 0 z B p0.Arena.Next) (n:Rd Ri J w 0 y A p0.Prio){r:Bool}(h:eP p0=some r):Ret prog 14 [.agg #[.slice C p0.Arena.Owner.length x,.slice z p0.Arena.Next.length B,.slice y p0.Prio.length A]] w (Pvb J w r):=by
 unfold eP at h
 refine Jp3 J func14 R ntmps14 R λo=>Jj3<|Jx3 J 2 R λae am O c j=>Tv<|Jb 1 R<|Jq<|Jj3<|Je3 R U32 R Z30<|Jg4 tv R (Jh4 (haE<|j.lds 0 2 R) I30 Z30 R)<|Ob h λad Z h=>Jw3 R call25 (qB (J:=Mk O) (p0:=p0.Arena) (Jn3<|U.stp c) (Jn3<|V.stp c) Z) ?_
 rintro _ ab ⟨aj,rfl,T⟩
 obtain⟨N,a,ak⟩:=Ji T 3 R
 refine Tv<|Jn 2 R<|Ob h λI h W=>Jk4 [1] 17 I N ab 9 tv ?_ ?_
 revert h
 cases af:(!ad)
 refine JF λh=>Je3 R U32 R Z27 ?_
 have D:=j.stp a
 refine Jc3 R I27 (D.ld 2 R R)<|Js3 R U27 R R<|Je3 R U32 R Z30<|Je3 R U30 R Z27<|Jc3 R I27 (D.ld 0 R R)<|Js3 R U27 R R<|Jn 2 R ?_
 cases h
 exact Jl4 tv R
 refine JT λh=>Jn 1 R<|Je4 R<|Jn 3 R<|Je4 R<|Jn 3 R ?_
 cases h
 exact Jl4 tv R
 rintro _ L _ ⟨rfl,i,b⟩
 have h:=W
 refine Jd ?_
 revert h
 cases ag:I
 refine JF λh=>Jy R<|Js<|Jp<|Jq<|Jf3 R<|Ob h λK X F=>?_
 clear h
 refine Jx1 (λm q=>∃s,m=[]/\Stp [] i L s q/\K=zw ()) ?_ ?_
 refine Jv<|Ju3 [1] (λg M m q=>∃s e,m=(3,vi e)::M/\Stp [] i L s q/\0<=e/\zq ((p0.Prio.length:Int)-e)=g/\cntM (eC p0) g e ()=some K) ⟨_,_,⟨i,0,R,Jo3,(by decide),(by simp),X⟩,(KM R)⟩ ?_
 rintro g _ ao ⟨t,e,rfl,d,G,k,h⟩
 rcases g with _|g
 have f:=h;obtain⟨aa,h⟩:=exq f
 have p:=dcf k
 refine Jq<|Jl3 1 R<|Je3 R U32 R Z27<|Jc3 R I27 ((j.stp<|T3 a b d).ld 2 R R)<|Js3 R U27 R R<|Jb 1 R<|Jx2 R p<|Jc1<|Jt<|Jt ?_
 cases h
 have h:=f
 refine Jb1 ?_
 cases h
 exact Jw1 _ ⟨t,R,d.wk R,R⟩ KN
 obtain⟨aa,h,f⟩:=BI h;unfold eC at h
 have p:=dct k
 refine Jq<|Jl3 1 R<|Je3 R U32 R Z27 ?_
 have E:=j.stp (T3 a b d)
 refine Jc3 R I27 (E.ld 2 R R)<|Js3 R U27 R R<|Jb 1 R<|Jw2 R p<|Js<|Jp<|Jq<|Jv<|Jj3<|Je3 R U32 R Z27<|Jc3 R I27 (E.ld 2 R R)<|Jn 1 R<|Ob h λaq H h=>Jd3 R n H U27 Z2<|Jc3 R I2 ((n.stp<|T4 c a b d).gInt H)<|Ob h λac Y h=>Jw3 R call15 (iA (J:=Mk t) Y) ?_
 rintro _ ap ⟨ai,rfl,S⟩
 obtain⟨u,v,al⟩:=Ji S 5 R
 refine Tv<|Jb 1 R ?_
 revert h
 cases ah:(!ac)
 refine JF λh=>Jy R<|Js<|Jz<|Jp<|Jg3 R<|wr2 G k n.len_le ▸ ?_
 cases h
 exact Ja2 ⟨u,e+1,R,(d.tr v).wk R,nxz G,nxm k,f⟩ R
 refine JT λh=>Jx R<|Jf3 R<|Ju<|Ja1<|Jw<|Jw ?_
 cases h
 obtain rfl:=zt f
 have h:=yL F
 refine Ja1<|Jr2<|Jw<|Jb2 (l:=[.tmp 2]) results14 (Jq2 R R) R ?_
 cases h
 exact⟨u,R,(o.stp<|T5 c a b d v)⟩
 rintro _ an ⟨P,rfl,Q,rfl⟩
 have h:=yI F
 refine Jp<|Jf3 R<|Ju<|Jb2 (l:=[.tmp 2]) results14 (Jq2 R R) R ?_
 cases h
 exact⟨P,R,(o.stp<|T4 c a b Q)⟩
 refine JT λh=>Jx R<|Jf3 R<|Ju<|Jw<|Jb2 (l:=[.tmp 2]) results14 (Jq2 R R) R ?_
 cases h
 exact⟨i,R,(o.stp<|T3 c a b)⟩
theorem lH {I H L N K M}{p0:Parity}(aD:Rd Ri J w 0 I H p0.Arena.Owner) (aE:Rd Rs J w 0 L N p0.Arena.Next) (aF:Rd Ri J w 0 K M p0.Prio){r:VI}(h:gA p0=some r):Ret prog 31 [.agg #[.slice I p0.Arena.Owner.length H,.slice L p0.Arena.Next.length N,.slice K p0.Prio.length M]] w (Pvs E6 2 J w r):=by
 unfold gA at h
 refine Jp3 J func31 R ntmps31 R λaG=>Jj3<|Jx3 J 2 R λbd bj B j ax=>Tv<|Jb 1 R<|Jq<|Js1 (J:=B) [2] none [(2,2),(0,0),(3,0),(4,2),(1,1),(5,1),(6,1),(7,2)] [] (by kernel_rfl) (by kernel_rfl) λbp c=>Je3 R U32 R Z27 ?_
 have P:=ax.stp c
 refine Jg R (Jh4 (haC P.cells R) I32 Z32 R)<|Jg R (Jd2 I27 R R<|hvC (P.ld 2 R R) R)<|Js3 R U27 R R<|Ob h λaW aN h=>Jw3 R call32 (pO (J:=λx=>mp [] 1<|B x) (p0:=p0) (Jm2 (aD.stp<|j.tr c) (mp [] 1) R R) (Jm2 (aE.stp<|j.tr c) (mp [] 1) R R) (Jm2 (aF.stp<|j.tr c) (mp [] 1) R R) aN) ?_
 rintro _ bk ⟨be,a5,bb,a8,a4,aY,aZ,a9,a6,a3,a0,rfl,al,ap,aq,ar,au,av⟩
 obtain⟨Y,i,T,A⟩:=Jj al 3 R
 refine⟨(i.cl R),Ob h λbu aJ h=>Jw3 R call52 (sY (J:=Mk Y) aJ) ?_⟩
 rintro _ bl ⟨bf,a2,aX,rfl,am,aw⟩
 obtain⟨Z,a,aO⟩:=Ji am 10 R
 refine⟨((i.tr a).cl R),Ob h λW aK h=>Jw3 R call51 (oL _ (J:=Mk Z) (p0:=aW) (Jn3 ((ap.mx A).stp a)) (Jn3 ((aq.mx A).stp a)) (Jn3 ((ar.mx A).stp a)) (Jn3 ((au.mx (ie (aT _) _) T R (R:3+5=8)).stp a).rdc) (Jn3 ((av.mx (aT _) T R (R:3+6=9)).stp a).rdc) (Jn3 (aw.mx bU aO R (R:10+2=12)).rdc) aK) ?_⟩
 rintro _ bm ⟨bg,ba,a7,rfl,an,ay⟩
 obtain⟨aa,D,aP⟩:=Ji an 13 R
 refine⟨((T3 i a D).cl R),?_⟩
 have y:=ay.mx bU aP R (R:13+2=15)
 refine Jn 1 R<|Jt1<|Jd<|Jj3<|Jc4 aa E6 16 R Y27 aR R λak aj V t E az=>Tv<|Jb 1 R<|Jq<|Jf3 R<|Ob h λU aI aH=>?_
 clear h
 refine Jx1 (λu f=>∃g,∃s:VI,∃n k,u=[(4,.slice n s.length k)]/\Stp [16] t V g f/\Oc E6 2 g f 16 n k s/\U=zw s) ?_ ?_
 refine Jv<|Ju3 [3] (λd X u f=>∃g b,∃e:VI,∃o m,u=(4,.slice o e.length m)::(5,vi b)::X/\Stp [16] t V g f/\Oc E6 2 g f 16 o m e/\0<=b/\zq ((W.length:Int)-b)=d/\cntM (iU W) d b e=some U) ⟨_,_,⟨t,0,([]:VI),ak,aj,R,Jo3,az,(by decide),(by simp),aI⟩,(KM R)⟩ ?_
 rintro d _ bq ⟨C,b,e,o,m,rfl,v,O,Q,p,h⟩
 rcases d with _|d
 have q:=h;obtain⟨aQ,h⟩:=exq q
 have z:=dcf p
 refine Jq<|Jl3 2 R<|Js3 R U71 R R<|Jb 1 R<|Jx2 R z<|Jc1<|Jt<|Jt ?_
 cases h
 have h:=q
 refine Jb1 ?_
 cases h
 exact Jw1 _ ⟨C,e,o,m,R,v.wk R,O,R⟩<|KM R
 obtain⟨aQ,h,q⟩:=BI h;unfold iU at h
 have z:=dct p
 refine Jq<|Jl3 2 R<|Js3 R U71 R R<|Jb 1 R<|Jw2 R z<|Js<|Jp<|Jq<|Jv<|Jm3 3 R<|Ob h λbv S h=>Jd3 R y.rdc S U71 Z4<|Jc3 R I4 ((y.stp<|E.tr v).rdc.gBool S)<|Ob h λaS aL h=>Jw3 R call53 (rS (J:=Mk C) aL) ?_
 rintro _ br ⟨bh,rfl,ao⟩
 obtain⟨ac,F,bi⟩:=Ji ao 17 R
 refine Tv<|Jn 1 R<|Ji4 ac 19 [(zr .i64 (1-aS))] R Y27 aR R λa1 bc bs ad G aB=>Tv<|Ob h λaU aM h=>Jd4 ad E6 16 [] R Y27 aR R (O.stp<|F.tr G) (Sl.srcP (bo _) aB.rdc) aV aM R λai ah bt ae ag aC=>Tv<|Jc 1 R<|Jz<|Jp<|Jg3 R<|wr2 Q p y.len_le ▸ ?_
 cases h
 exact Ja2 ⟨ae,b+1,aU,ai,ah,R,(T4 v F G ag).wk R,aC,nxz Q,nxm p,q⟩ R
 rintro _ bn ⟨ab,s,n,k,rfl,af,aA,rfl⟩
 have h:=yI aH
 refine Jp<|Jf3 R<|Ju<|Jb2 (l:=[.tmp 2]) results31 (Jq2 R R) R ?_
 cases h
 exact⟨(λx=>ren [(16,2)]<|ab x),n,k,R,((aG.stp<|T7 j c i a D E af).map (ren [(16,2)]) R R),(aA.map (ren [(16,2)]) R R)⟩
theorem qH {C D x y B z v u E A}{p0:l7Game}{t O}{p1:VB}{p2:Int}(Y:Rd Ri J w 0 C D p0.owner) (Z:Rd Ri J w 0 x y p0.prio) (aa:Rd Rs J w 0 B z p0.next) (ab:Rd Rs J w 0 v u p0.prev) (ac:Rd Ri J w 0 E A p0.pick) (ad:Rd Rp.bool J w 0 t O p1){r:Bool}(h:jI p0 p1 p2=some r):Ret prog 54 [.agg #[.slice C p0.owner.length D,.slice x p0.prio.length y,.slice B p0.next.length z,.slice v p0.prev.length u,.slice E p0.pick.length A],.slice t p1.length O,vi p2] w (Pvb J w r):=by
 unfold jI at h
 refine Jp3 J func54 R ntmps54 R λG=>Jj3<|Jx3 J 2 R λao au S a X=>Tv<|Jb 1 R<|Jj3<|Jg4 tv R (Jh4 (haE X.cells) I69 Z69 R)<|Jn 1 R<|Ob h λak ag h=>?_
 have f:=ad.stp a
 refine Jw3 R call51 (oL _ (J:=Mk S) (p0:=p0) (Jn3<|Y.stp a) (Jn3<|Z.stp a) (Jn3<|aa.stp a) (Jn3<|ab.stp a) (Jn3<|ac.stp a) (Jn3 f) ag) ?_
 rintro _ P ⟨ar,am,an,rfl,V,W⟩
 obtain⟨i,k,ah⟩:=Ji V 3 R
 refine Tv<|?_
 have F:=W.mx bU ah R (R:3+2=5)
 refine Jb 1 R<|Jq<|Jf3 R<|Ob h λN af H=>?_
 clear h
 refine Jx1 (λj n=>∃o,j=[]/\Stp [] i P o n/\N=zw ()) ?_ ?_
 refine Jv<|Ju3 [1,2,7] (λe Q j n=>∃o b,j=(8,vi b)::Q/\Stp [] i P o n/\0<=b/\zq ((p1.length:Int)-b)=e/\cntM (fX p1 p2 ak) e b ()=some N) ⟨_,_,⟨i,0,R,Jo3,(by decide),(by simp),af⟩,(KM R)⟩ ?_
 rintro e _ aj ⟨p,b,rfl,c,I,g,h⟩
 rcases e with _|e
 have d:=h;obtain⟨ai,h⟩:=exq d
 have m:=dcf g
 refine Jq<|Jl3 2 R<|Js3 R U71 R R<|Jb 1 R<|Jx2 R m<|Jc1<|Jt<|Jt ?_
 cases h
 have h:=d
 refine Jb1 ?_
 cases h
 exact Jw1 _ ⟨p,R,c.wk R,R⟩ KN
 obtain⟨ai,h,d⟩:=BI h;unfold fX at h
 have m:=dct g
 refine Jq<|Jl3 2 R<|Js3 R U71 R R<|Jb 1 R<|Jw2 R m<|Js<|Jp<|Jq<|Jv<|Jl3 2 R<|Ob h λal K h=>Jd3 R f K U71 Z4<|Jc3 R I4 ((f.stp<|k.tr c).gBool K)<|Jn 1 R<|Ob h λM h ae=>Jk4 [1,2,7,8] 30 M p aj 8 tv ?_ ?_
 revert h
 cases ap:al
 refine JF λh=>Jn 3 R<|Je4 R<|Jn 4 R ?_
 cases h
 exact Jl4 tv R
 refine JT λh=>Jn 2 R<|Ob h λax L h=>Jd3 R F.rdc L U71 Z4<|Jc3 R I4 ((F.stp c).rdc.gBool L)<|Jn 2 R<|Jf R (nQ R R U4 R)<|Jn 1 R ?_
 cases h
 exact Jl4 tv R
 rintro _ aw _ ⟨rfl,q,s⟩
 have h:=ae
 refine Jd ?_
 revert h
 cases aq:M
 refine JF λh=>Jy R<|Js<|Jz<|Jp<|Jg3 R<|wr2 I g f.len_le ▸ ?_
 cases h
 exact Ja2 ⟨q,b+1,R,(c.tr s).wk R,nxz I,nxm g,d⟩ R
 refine JT λh=>Jx R<|Jf3 R<|Ju<|Ja1<|Jw<|Jw ?_
 cases h
 obtain rfl:=zt d
 have h:=yL H
 refine Ja1<|Jr2<|Jw<|Jb2 (l:=[.tmp 6]) results54 (Jq2 R R) R ?_
 cases h
 exact⟨q,R,(G.stp<|T4 a k c s)⟩
 rintro _ av ⟨T,rfl,U,rfl⟩
 have h:=yI H
 refine Jp<|Jf3 R<|Ju<|Jb2 (l:=[.tmp 6]) results54 (Jq2 R R) R ?_
 cases h
 exact⟨T,R,(G.stp<|T3 a k U)⟩
theorem mf {L F H K G I}{p0:Parity}(am:Rd Ri J w 0 L F p0.Arena.Owner) (an:Rd Rs J w 0 H K p0.Arena.Next) (ao:Rd Ri J w 0 G I p0.Prio){r:VI}(h:gh p0=some r):Ret prog 90 [.agg #[.slice L p0.Arena.Owner.length F,.slice H p0.Arena.Next.length K,.slice G p0.Prio.length I]] w (Pvs E6 2 J w r):=by
 unfold gh at h
 refine Jp3 J func90 R ntmps90 R λap=>Jj3<|Jx3 J 2 R λaJ aN Z k P=>Tv<|Jb 1 R<|Jj3<|Je3 R U32 R Z27<|Jc3 R I27 (P.ld 2 R R)<|Js3 R U27 R R<|Ob h λp aw h=>Jl1 (J:=Z) (E:=E6) (z:=(0:Int)) 3 R R R R R R R Y27 aR R R R R R (λ_ _ _=>R) (Jv2 aw) λv x aU E e al=>Tv<|Jb 1 R<|Jq<|Js1 (J:=E) [2] none [(1,2),(0,0),(2,0),(3,1),(4,1),(5,2),(6,2),(7,2),(8,2),(9,2)] [] (by kernel_rfl) (by kernel_rfl) λaO b=>Je3 R U32 R Z30 ?_
 have M:=P.stp (e.tr b)
 refine Jg R (Jh4 (haC M.cells R) I32 Z32 R)<|Jg R (Jh4 (haC (M.lds 0 2 R) R) I30 Z30 R)<|Ob h λaW ax h=>?_
 have N:=am.stp (T3 k e b)
 have O:=an.stp (T3 k e b)
 refine Jw3 R call143 (gg (J:=Mk E) (p0:=p0.Arena) (Jn3 N) (Jn3 O) ax) ?_
 rintro _ aP ⟨aL,aI,aH,rfl,af,ah⟩
 obtain⟨Y,a,aA⟩:=Ji af 4 R
 refine⟨(a.cl R),Ob h λW ay h=>Jw3 R call142 (oo (J:=Mk Y) (p0:=p0) (Jn3<|N.stp a) (Jn3<|O.stp a) (Jn3<|ao.stp<|T4 k e b a) (Jn3 (ah.mx (aT _) aA R (R:4+2=6)).rdc) ay) ?_⟩
 rintro _ V ⟨aM,aF,aD,aE,aG,rfl,ag,aK,ai⟩
 obtain⟨q,t,aB⟩:=Ji ag 7 R
 refine⟨((a.tr t).cl R),?_⟩
 have y:=ai.mx (aT _) aB R (R:7+3=10)
 refine Jn 5 R<|Jt1<|Jd<|Jq<|Jl3 1 R<|Js3 R U27 R R<|Jb 1 R<|Ob h λU av aq=>?_
 clear h
 refine Jt3 [3] (λd s i=>∃j,∃o:VI,s=d/\Stp [3] q V j i/\Oc E6 2 j i 3 v x o/\p.length=o.length/\U=zw o) ?_ ?_
 refine Jv<|Ju3 [3,20,21] (λf d s i=>∃j c,∃g:VI,s=(22,vi c)::d/\Stp [3] q V j i/\Oc E6 2 j i 3 v x g/\p.length=g.length/\0<=c/\zq ((W.2.length:Int)-c)=f/\cntM (fK W) f c g=some U) ⟨_,_,⟨q,0,p,R,Jo3,(al.stp<|T3 b a t),R,(by decide),(by simp),av⟩,(KM R)⟩ ?_
 rintro f _ aS ⟨D,c,g,rfl,u,A,C,Q,m,h⟩
 rcases f with _|f
 have n:=h;obtain⟨aC,h⟩:=exq n
 have B:=dcf m
 refine Jf3 R<|Jq<|Jx2 R B<|Jc1<|Jt<|Jt ?_
 cases h
 have h:=n
 refine Jb1 ?_
 cases h
 exact Jw1 _ ⟨D,g,R,u.wk R,A,C,R⟩<|KM R
 obtain⟨aC,h,n⟩:=BI h;unfold fK at h
 have B:=dct m
 refine Jf3 R<|Jq<|Jw2 R B<|Js<|Jp<|Jq<|Jv<|Jj3<|Ob h λaX S h=>Jd3 R y.rdc S U27 Z2<|Jc3 R I2 ((y.stp u).rdc.gInt S)<|Jb 1 R<|Jm3 2 R<|Ob h λaY az h=>Jf R (Jg2 A.rdc az U27 Z2 R R C R)<|Ob h λX T h=>Jk1 (J:=D) (E:=E6) 3 [] R R R R R R R R Z2 R R R R A T λaV ab ad ak=>Tv<|?_
 have au:p.length=X.length:=C.trans (Ju2 T).2.2.2.symm
 refine Jo<|Jz<|Jp<|Jg3 R<|wr2 Q m y.len_le ▸ ?_
 cases h
 exact Ja2 ⟨ab,c+1,X,R,(u.tr ad).wk R,ak,au,nxz Q,nxm m,n⟩ R
 rintro _ aQ ⟨aa,o,rfl,ac,aj,ar,rfl⟩
 have h:=yI aq
 refine Jp<|Jf3 R<|Ju<|Jb2 (l:=[.tmp 2]) results90 (Jq2 R R) R ?_
 cases h
 exact⟨(λae=>ren [(3,2)]<|aa ae),v,x,(by simp only[ar]),((ap.stp<|T6 k e b a t ac).map (ren [(3,2)]) R R),(aj.map (ren [(3,2)]) R R)⟩
theorem pi {ax av aA aC ay aB}{p0:Parity}{au ba}{p1:VI}{af an}{p2:VI}(aI:Rd Ri J w 0 ax av p0.Arena.Owner) (aJ:Rd Rs J w 0 aA aC p0.Arena.Next) (bO:Rd Ri J w 0 ay aB p0.Prio) (bP:Rd Ri J w 0 au ba p1) (aj:Rd Ri J w 0 af an p2){r:Answer}(h:iI p0 p1 p2=some r):Ret prog 169 [.agg #[.slice ax p0.Arena.Owner.length av,.slice aA p0.Arena.Next.length aC,.slice ay p0.Prio.length aB],.slice au p1.length ba,.slice af p2.length an] w (λcg a=>∃(b:Col) (a6:Option Addr) (a8:Nat) (a7:Option Addr) (a9:Nat),cg= .agg #[.slice a6 r.Won.length a8,.slice a7 r.Plan.length a9]/\Ent J w b a/\Oc E6 2 b a 2 a6 a8 r.Won/\Oc E6 2 b a 3 a7 a9 r.Plan):=by
 unfold iI at h
 refine Jp3 J func169 R ntmps169 R λbQ=>Jj3<|Jx3 J 2 R λcK c0 bl u bH=>Tv<|Jy3 bl 3 R X36 R λcL da bn q bK=>Tv<|Jd<|Jj3<|Jc4 bn E6 4 R Y27 aR R λcz cF df bh j bB=>Tv<|Jn 1 R<|Ob h λn b7 h=>Jd4 bh E6 4 [] R Y27 aR R bB (Sl.srcP (bo _)<|bP.stp<|T3 u q j) aV b7 R λz A bc Z o aD=>Tv<|Jb 1 R<|Jq<|Jl3 1 R<|Js3 R U27 R R<|Jb 1 R ?_
 have aK:=aD.len_le
 refine Ob h λa4 b1 bU=>?_
 clear h
 refine Jt3 [2,6,7] (λi t a=>∃b,∃Y:VI,t=i/\Stp [4] Z bc b a/\Oc E6 2 b a 4 z A Y/\n.length=Y.length/\a4=zw Y) ?_ ?_
 refine Jv<|Ju3 [2,3,6,7,18] (λe i t a=>∃b g,∃x:VI,t=(19,vi g)::i/\Stp [4] Z bc b a/\Oc E6 2 b a 4 z A x/\n.length=x.length/\0<=g/\zq ((n.length:Int)-g)=e/\cntM (en p0 p2) e g x=some a4) ⟨_,_,⟨Z,0,n,R,Jo3,aD,R,(by decide),(by simp),b1⟩,(KM R)⟩ ?_
 rintro e _ c8 ⟨aa,g,x,rfl,p,H,V,ak,T,h⟩
 rcases e with _|e
 have K:=h;obtain⟨cd,h⟩:=exq K
 have B:=dcf T
 refine Jf3 R<|Jq<|Jx2 R B<|Jc1<|Jt<|Jt ?_
 cases h
 have h:=K
 refine Jb1 ?_
 cases h
 exact Jw1 _ ⟨aa,x,R,p.wk R,H,V,R⟩<|KM R
 obtain⟨cd,h,K⟩:=BI h;unfold en at h
 have B:=dct T
 refine Jf3 R<|Jq<|Jw2 R B<|Js<|Jp<|Jq<|Jv<|Jf3 R<|Jq<|Jq<|Js1 (J:=aa) [0,2,4] none [(0,2),(1,2),(3,2),(6,2),(7,2),(8,2),(2,0),(4,2),(5,0),(9,0),(10,2),(11,2),(12,2),(13,2),(14,2),(15,0),(16,2),(17,2)] [] (by kernel_rfl) (by kernel_rfl) λci f=>Je3 R U32 R Z30<|Je3 R U30 R Z27<|Jn 3 R<|Ob h λcl aN h=>Jd3 R aj aN U27 Z2 ?_
 have aE:=bH.stp (T5 q j o p f)
 refine Jg R (Jd2 I27 R R<|hvC (aE.ld 0 R R) R)<|Ob h λck aM h=>Jd3 R aI aM U27 Z2 ?_
 have aF:=aI.stp (T6 u q j o p f)
 refine Jg R (Jd2 I2 R R<|hvC (aF.gInt aM) R) ?_
 have ah:=aj.stp (T6 u q j o p f)
 refine Jg R (Jd2 I2 R R<|hvC (ah.gInt aN) R)<|Jn 2 R<|Ob h λa2 h bV=>Jk4 [2,3,6,7,8,18,19] 39 a2 aa ci 6 (Cl.refl _ _ _) ?_ ?_
 revert h
 cases cS:(ck !=cl)
 refine JF λh=>Jn 2 R<|Ob h λdi aO h=>Jf R (Jg2 H.rdc aO U27 Z2 R R V R)<|Jg R (Jd2 I2 R R<|hvC ((H.stp f).rdc.gInt aO) R)<|Jn 2 R ?_
 cases h
 exact Jv1 _ (Cl.refl _ _ _) ⟨R,_,Jo3⟩<|KM R
 refine JT λh=>Jn 3 R<|Jf4 R<|Jn 2 R ?_
 cases h
 exact Jv1 _ (Cl.refl _ _ _) ⟨R,_,Jo3⟩<|KM R
 rintro _ c9 _ ⟨rfl,ar,k⟩
 have h:=bV
 refine Jt1<|Jd ?_
 revert h
 cases cT:a2
 refine JF λh=>Jy R<|Js<|Jp<|Jl3 1 R<|Jf R (Jn4 [.slice af p2.length an,.slice none 0 0] R)<|Jn 2 R<|Ob h λdj aP h=>Jd3 R ah aP U27 Z2 ?_
 have I:=ah.stp k
 refine Jc3 R I2 (I.gInt aP)<|Ob h λcm b8 h=>Jw3 R call206 (pa (J:=Mk ar) (p0:=(⟨p2,([]:VI)⟩:Answer)) (Jn3 I) Sl.nil b8) ?_
 rintro _ bd ⟨cW,cw,cu,rfl,bz,bI⟩
 obtain⟨ab,v,cc⟩:=Ji bz 5 R
 refine Tv<|Jb 1 R<|Jj3<|Je3 R U32 R Z30<|Je3 R U30 R Z28 ?_
 have aG:=aE.stp (k.tr v)
 refine Jc3 R I28 (aG.ld 1 R R)<|Jn 1 R<|Ob h λbe aQ h=>Jd3 R aJ aQ U28 Z27 ?_
 have aH:=aJ.stp (T8 u q j o p f k v)
 obtain⟨cH,cZ,ai,bX⟩:=aH.gSl aQ
 refine Jc3 R I27 bX<|Js3 R U27 R R<|Jb 1 R ?_
 have aL:=ai.len_le
 refine Ob h λa5 b2 bW=>?_
 clear h
 refine Jt3 [2,3,6,7,18,19] (λi t a=>∃b,∃L:VI,t=i/\Stp [4] ab bd b a/\Oc E6 2 b a 4 z A L/\n.length=L.length/\a5=zw L) ?_ ?_
 refine Jv<|Ju3 [2,3,6,7,8,9,18,19,52,53] (λe i t a=>∃b m,∃E:VI,t=(54,vi m)::i/\Stp [4] ab bd b a/\Oc E6 2 b a 4 z A E/\n.length=E.length/\0<=m/\zq ((be.length:Int)-m)=e/\cntM (du p0 p2 g cm be) e m E=some a5) ⟨_,_,⟨ab,0,x,R,Jo3,(H.stp<|T3 f k v),V,(by decide),(by simp),b2⟩,(KM R)⟩ ?_
 rintro e _ dc ⟨M,m,E,rfl,c,P,W,al,U,h⟩
 rcases e with _|e
 have D:=h;obtain⟨ce,h⟩:=exq D
 have C:=dcf U
 refine Jf3 R<|Jq<|Jx2 R C<|Jc1<|Jt<|Jt ?_
 cases h
 have h:=D
 refine Jb1 ?_
 cases h
 exact Jw1 _ ⟨M,E,R,c.wk R,P,W,R⟩<|KM R
 obtain⟨ce,h,D⟩:=BI h;unfold du at h
 have C:=dct U
 refine Jf3 R<|Jq<|Jw2 R C<|Js<|Jp<|Jq<|Jv<|Jj3<|Ob h λdk aS h=>Jd3 R ai aS U27 Z2<|Jc3 R I2 ((ai.stp c).gInt aS)<|Jb 1 R<|Jq<|Jq<|Js1 (J:=M) [0] none [(0,2),(1,2),(2,2),(4,2),(5,2),(6,2),(3,0),(7,0),(8,2)] [] (by kernel_rfl) (by kernel_rfl) λdd d=>Jn 2 R<|Ob h λcn aU h=>Jd3 R I aU U27 Z2<|Jn 2 R<|Ob h λco aW h=>Jd3 R I aW U27 Z2 ?_
 have Q:=I.stp (T3 v c d)
 refine Jg R (Jd2 I2 R R<|hvC (Q.gInt aU) R)<|Jg R (Jd2 I2 R R<|hvC (Q.gInt aW) R)<|Jn 1 R<|Jt1<|Jd ?_
 revert h
 cases cU:(cn !=co)
 refine JF λh=>Jy R<|Js<|Jp<|Jl3 3 R<|Ob h λdl b9 h=>Jf R (Jg2 P.rdc b9 U27 Z2 R R W R)<|Ob h λbf aZ h=>Jk1 (J:=M) (E:=E6) 4 [] R R R R R R R R Z2 R R R R (P.stp d) aZ λde bq s S=>Tv<|?_
 have X:n.length=bf.length:=W.trans (Ju2 aZ).2.2.2.symm
 refine Jd<|Jj3<|Jg4 tv R (Jh4 (haE (aG.stp<|T3 c d s).cells) I32 Z32 R)<|Jn 1 R<|Ob h λcp ca h=>Jw3 R call207 (Ret.cast (by simp only[X,List.cons_append,List.nil_append])<|rq (J:=Mk bq) (p0:=p0) (Jn3<|aF.stp<|T5 k v c d s) (Jn3<|aH.stp<|T3 c d s) (Jn3<|bO.stp<|T11 u q j o p f k v c d s) (Jn3 S.rdc) ca) ?_
 rintro _ dg ⟨cX,cI,cB,cv,cx,cG,cA,rfl,bA,bL,bM,bN⟩
 obtain⟨br,y,am⟩:=Ji bA 8 R
 refine Tv<|Jn 1 R<|Ob h λdm cb h=>Jw3 R call142 (oo (J:=Mk br) (p0:=cp) (Jn3 (bL.mx (aT _) am R (R:8+2=10)).rdc) (Jn3 (bM.mx (ie (aT _) _) am R (R:8+3=11)).rdc) (Jn3 (bN.mx (aT _) am R (R:8+4=12)).rdc) (Jn3 ((bI.mx (aT _) cc R (R:5+2=7)).stp (T4 c d s y)).rdc) cb) ?_
 rintro _ ch ⟨cV,cD,ct,cC,cJ,rfl,bx,cM,cN⟩
 obtain⟨bi,F,cY⟩:=Ji bx 13 R
 refine Tv<|Jb 5 R<|Jq<|Jl3 2 R<|Ob h λcq aX h=>Jd3 R Q aX U27 Z2 ?_
 have ag:=Q.stp (T3 s y F)
 refine Jc3 R I2 (ag.gInt aX)<|Jn 2 R<|Ob h λa3 h bR=>Jk4 [2,3,6,7,8,9,12,18,19,52,53,54] 88 a3 bi ch 4 tv ?_ ?_
 revert h
 cases cO:(cq==0)
 refine JF λh=>Jn 4 R ?_
 cases h
 exact Jl4 tv R
 refine JT λh=>Jn 1 R<|Js3 R U27 R R<|Jn 2 R ?_
 cases h
 exact Jl4 tv R
 rintro _ bb _ ⟨rfl,ao,G⟩
 have h:=bR
 refine Jn 1 R<|Ob h λa1 h bS=>Jk4 [2,3,6,7,8,9,18,19,52,53,54] 100 a1 ao bb 11 tv ?_ ?_
 revert h
 cases cP:a3
 refine JF λh=>Jn 2 R<|Ob h λcr aY h=>Jd3 R ag aY U27 Z2<|Jc3 R I2 ((ag.stp G).gInt aY)<|Jn 2 R<|Ob h λcf h bT=>Jk4 [2,3,6,7,8,9,18,19,52,53,54,89,90,91,92,93,94,95] 99 cf ao bb 4 tv ?_ ?_
 revert h
 cases cQ:(cr==1)
 refine JF λh=>Jn 4 R ?_
 cases h
 exact Jl4 tv R
 refine JT λh=>Jn 1 R<|Js3 R U27 R R<|Jn 2 R ?_
 cases h
 exact Jl4 tv R
 rintro _ c1 _ ⟨rfl,cs,bs⟩
 have h:=bT
 refine Jn 1 R ?_
 cases h
 exact Jv1 _ tv ⟨R,_,bs.wk R⟩<|KM R
 refine JT λh=>Jn 3 R<|Je4 R<|Jn 7 R ?_
 cases h
 exact Jl4 tv R
 rintro _ c2 _ ⟨rfl,ap,N⟩
 have h:=bS
 refine Jd ?_
 revert h
 cases cR:a1
 refine JF λh=>Jy R<|Js<|Jp<|Jm3 2 R<|Ob h λdh b5 h=>Jf R (Jg2 S.rdc b5 U27 Z2 R R X R)<|Ob h λbg a0 h=>Jk1 (J:=ap) (E:=E6) 4 [] R R R R R R R R Z2 R R R R (S.stp<|T4 y F G N) a0 λc3 bj bt bC=>Tv<|?_
 have bY:n.length=bg.length:=X.trans (Ju2 a0).2.2.2.symm
 refine Jo<|Jz<|Jp<|Jg3 R<|wr2 al U aL ▸ ?_
 cases h
 exact Ja2 ⟨bj,m+1,bg,R,(T8 c d s y F G N bt).wk R,bC,bY,nxz al,nxm U,D⟩ R
 refine JT λh=>Jx R<|Jc1<|Jt<|Ja3 R<|Jt<|Jt ?_
 cases h
 have h:=D
 refine Jb1 ?_
 cases h
 exact Jw1 _ ⟨ap,bf,R,(T7 c d s y F G N).wk R,(S.stp<|T4 y F G N),X,R⟩<|KM R
 refine JT λh=>Jx R<|Jc1<|Jt<|Jb1<|Jp<|Jg3 R ?_
 have b4:zr .i64 (m+1)=m+1:=wr1 al (Jn2 C) aL
 rw[b4]
 have C:=Jn2 C
 cases h
 exact Ja2 ⟨M,m+1,E,R,(c.tr d).wk R,(P.stp d),W,by omega,by omega,D⟩ R
 rintro _ db ⟨bp,L,rfl,bu,bJ,b0,rfl⟩
 have h:=yI bW
 refine Jz<|Jp<|Jg3 R<|wr2 ak T aK ▸ ?_
 cases h
 exact Ja2 ⟨bp,g+1,L,R,(T5 p f k v bu).wk R,bJ,b0,nxz ak,nxm T,K⟩ R
 refine JT λh=>Jx R<|Jc1<|Jt<|Jb1<|Jp<|Jg3 R ?_
 have b3:zr .i64 (g+1)=g+1:=wr1 ak (Jn2 B) aK
 rw[b3]
 have B:=Jn2 B
 cases h
 exact Ja2 ⟨ar,g+1,x,R,(T3 p f k).wk R,(H.stp<|f.tr k),V,by omega,by omega,K⟩ R
 rintro _ c7 ⟨bm,Y,rfl,ae,bG,bZ,rfl⟩
 have h:=yI bU
 refine Jp<|Jj3<|Jc4 bm E6 5 R Y27 aR R λcy cE c4 bk O bD=>Tv<|Jn 1 R<|Ob h λcj b6 h=>Jd4 bk E6 5 [] R Y27 aR R bD (Sl.srcP (bo _)<|aj.stp<|T6 u q j o ae O) aV b6 R λaw az c5 aq ac bE=>Tv<|Jn 1 R<|Jf R (Jn4 [.slice aw cj.length az,.slice z n.length A] R)<|Jm4 aq 3 R Z36 R (bK.stp<|T5 j o ae O ac) R λc6 ad bF=>Tv<|Jd<|Ju<|Jb2 (l:=[.cell 6 36]) results169 (bv R bF I36 Z36 R R) R ?_
 cases h
 exact⟨(λbw=>ren [(5,2),(4,3)]<|aq bw),aw,az,z,A,(by simp only[bZ]),((bQ.stp<|T8 u q j o ae O ac ad).map (ren [(5,2),(4,3)]) R R),((bE.stp ad).map (ren [(5,2),(4,3)]) R R),((bG.stp<|T3 O ac ad).map (ren [(5,2),(4,3)]) R R)⟩
theorem lZ {af aa ac ae ab ad}{p0:Parity}{p1:Int}{Z aF}{p2:VI}(bj:Rd Ri J w 0 af aa p0.Arena.Owner) (bk:Rd Rs J w 0 ac ae p0.Arena.Next) (ao:Rd Ri J w 0 ab ad p0.Prio) (bl:Rd Ri J w 0 Z aF p2){r:VI}(h:dm p0 p1 p2=some r):Ret prog 273 [.agg #[.slice af p0.Arena.Owner.length aa,.slice ac p0.Arena.Next.length ae,.slice ab p0.Prio.length ad],vi p1,.slice Z p2.length aF] w (Pvs E6 2 J w r):=by
 unfold dm at h
 refine Jp3 J func273 R ntmps273 R λH=>Jj3<|Jx3 J 2 R λbT b6 aO k bf=>Tv<|Jb 1 R<|Jq<|Jl3 1 R<|Ob h λbH bv h=>?_
 have S:=bl.stp k
 refine Jw3 R call213 (m9 (J:=Mk aO) (Jn3 S) bv) ?_
 rintro _ ce ⟨b2,rfl,a8⟩
 obtain⟨Y,f,b4⟩:=Ji a8 3 R
 refine Tv<|Jd ?_
 revert h
 cases bX:bH
 refine JF λh=>Jy R<|Js<|Jp<|Jj3<|Je3 R U32 R Z27 ?_
 have ag:=bf.stp f
 refine Jc3 R I27 (ag.ld 2 R R)<|Jn 1 R<|Ob h λW au h=>Jd3 R ao au U27 Z2 ?_
 have ah:=ao.stp (k.tr f)
 refine Jc3 R I2 (ah.gInt au)<|Jb 1 R<|Jl3 1 R<|Js3 R U27 R R<|Ob h λi bw h=>Jl1 (J:=Y) (E:=E6) (z:=(0:Int)) 5 R R R R R R R Y27 aR R R R R R (λ_ _ _=>R) (Jv2 bw) λn m cb aP j bd=>Tv<|Jb 1 R<|Jf3 R<|Jq<|Jj3 ?_
 have ai:=ag.stp j
 refine Jg4 tv R (Jh4 (haE ai.cells) I32 Z32 R)<|Ob h λaI bx h=>?_
 have aj:=bj.stp (T3 k f j)
 have ak:=bk.stp (T3 k f j)
 have al:=ah.stp j
 refine Jw3 R call249 (kl (J:=Mk aP) (p0:=p0) (Jn3 aj) (Jn3 ak) (Jn3 al) bx) ?_
 rintro _ aG ⟨b1,bR,bP,rfl,a6,be⟩
 obtain⟨N,u,bD⟩:=Ji a6 6 R
 refine Tv<|?_
 have Q:=be.mx (aT _) bD R (R:6+2=8)
 refine Js3 R U27 R R<|Jb 1 R<|Ob h λaD bt bm=>?_
 clear h
 refine Jt3 [3,7,8] (λc e a=>∃b,∃t:Int×VI,e=(9,vi t.1)::c/\Stp [5] N aG b a/\Oc E6 2 b a 5 n m t.2/\i.length=t.2.length/\aD=zw t) ?_ ?_
 refine Jv<|Ju3 [2,3,7,8,26,27] (λd c e a=>∃b v,∃s:Int×VI,e=(9,vi s.1)::(28,vi v)::c/\Stp [5] N aG b a/\Oc E6 2 b a 5 n m s.2/\i.length=s.2.length/\0<=v/\zq ((aI.length:Int)-v)=d/\cntM (ik p2 W aI) d v s=some aD) ⟨_,_,⟨N,0,((0:Int),i),R,Jo3,(bd.stp u),R,(by decide),(by simp),bt⟩,(KM R)⟩ ?_
 rintro d _ bG ⟨y,v,s,rfl,D,G,L,aq,I,h⟩
 rcases d with _|d
 have K:=h;obtain⟨bF,h⟩:=exq K
 have U:=dcf I
 refine Jf3 R<|Jq<|Jx2 R U<|Jc1<|Jt<|Jt ?_
 cases h
 have h:=K
 refine Jb1 ?_
 cases h
 exact Jw1 _ ⟨y,(s.1,s.2),R,D.wk R,G,L,R⟩<|KM R
 obtain⟨bF,h,K⟩:=BI h;unfold ik at h
 have U:=dct I
 refine Jf3 R<|Jq<|Jw2 R U<|Js<|Jp<|Jq<|Jv<|Jl3 1 R<|Ob h λbI av h=>Jd3 R Q.rdc av U27 Z2<|Jc3 R I2 ((Q.stp D).rdc.gInt av)<|Jb 2 R<|Jf3 R<|Ob h λx h bo=>Jt3 [2,3,7,8,26,27,28] (λc e a=>∃b,e=(9,vi x.1)::c/\Stp [5] y bG b a/\Oc E6 2 b a 5 n m x.2/\i.length=x.2.length) ?_ ?_
 revert h
 cases bY:decide (W<=bI)
 refine JF λh=>Jy R<|Js ?_
 cases h
 exact Jw1 _ ⟨y,R,Jo3,G,L⟩<|KM R
 refine JT λh=>Jx R<|Jl3 6 R<|Ob h λcj aw h=>Jd3 R S aw U27 Z2<|Jc3 R I2 ((S.stp<|T4 f j u D).gInt aw)<|Ob h λck bz h=>Jf R (Jg2 G.rdc bz U27 Z2 R R L R)<|Ob h λbN aA h=>Jk1 (J:=y) (E:=E6) 5 [] R R R R R R R R Z2 R R R R G aA λcf aS a0 bh=>Tv<|?_
 have bs:i.length=bN.length:=L.trans (Ju2 aA).2.2.2.symm
 refine Jd<|Jg3 R ?_
 cases h
 exact Jw1 _ ⟨aS,R,a0.wk R,bh,bs⟩<|KM R
 rintro _ cd ⟨aQ,rfl,aZ,bg,br⟩
 have h:=bo
 refine Jz<|Jp<|Jg3 R<|wr2 aq I Q.len_le ▸ ?_
 cases h
 exact Ja2 ⟨aQ,v+1,(x.1,x.2),R,(D.tr aZ).wk R,bg,br,nxz aq,nxm I,K⟩ R
 rintro _ cc ⟨X,t,rfl,C,am,ar,rfl⟩
 have h:=yI bm
 refine Jp<|Jq<|Jl3 1 R<|Jf R (c7 R R R<|show ¬(2:Int)=0 by decide) (Jb 1 R ?_)
 revert h
 cases bZ:((Int.tmod W 2)==0)
 have B:=(u.tr C)
 refine JF λh=>Jy R<|Js<|Jp<|Jj3<|Jg4 tv R (Jh4 (haE (ai.stp B).cells) I32 Z32 R)<|Ob h λbJ bA h=>Jw3 R call293 (ro (J:=Mk X) (p0:=p0) (Jn3<|aj.stp B) (Jn3<|ak.stp B) (Jn3<|al.stp B) bA) ?_
 rintro _ aH ⟨b3,bS,bQ,rfl,a7,bi⟩
 obtain⟨O,P,bE⟩:=Ji a7 9 R
 refine Tv<|?_
 have an:=bi.mx (aT _) bE R (R:9+2=11)
 refine Jb 1 R<|Jq<|Jf3 R<|Ob h λaE bu ap=>?_
 clear h
 refine Jx1 (λe a=>∃b,∃M:Int×VI,e=[]/\Stp [5] O aH b a/\Oc E6 2 b a 5 n m M.2/\i.length=M.2.length/\aE=zw M) ?_ ?_
 refine Jv<|Ju3 [8,12] (λd c e a=>∃b,∃g:Int×VI,e=(13,vi g.1)::c/\Stp [5] O aH b a/\Oc E6 2 b a 5 n m g.2/\i.length=g.2.length/\bn (bK bJ) d g=some aE) ⟨_,_,⟨O,(t.1,t.2),R,Jo3,(am.stp P),ar,bu⟩,(KM R)⟩ ?_
 rintro d _ ch ⟨A,g,rfl,E,T,q,h⟩
 rcases d with _|d
 cases h
 obtain⟨b5,h,V⟩:=BI h;unfold bK at h
 refine Jq<|Jf3 R ?_
 revert h
 cases b0:decide (1<=g.1)
 refine JF λh=>Jy R<|Jc1<|Jt<|Jt ?_
 cases h
 have h:=V
 refine Jb1 ?_
 cases h
 exact Jw1 _ ⟨A,(g.1,g.2),R,E.wk R,T,q,R⟩ KN
 refine JT λh=>Jx R<|Js<|Jp<|Jq<|Jv<|Jq<|Jq<|Js1 (J:=A) [0,5,11] none [(0,2),(1,2),(2,2),(4,2),(5,2),(6,2),(7,2),(3,0),(8,0),(9,2)] [] (by kernel_rfl) (by kernel_rfl) λci F=>Jn 2 R<|Ob h λbL ax h=>Jf R (Jg2 T.rdc ax U27 Z2 R R q R)<|Jn 3 R<|Ob h λbM ay h=>Jd3 R an.rdc ay U27 Z2 ?_
 have p:=T.stp F
 refine Jg R (Jd2 I2 R R<|hvC (p.rdc.gInt ax) R)<|Jg R (Jd2 I2 R R<|hvC ((an.stp<|E.tr F).rdc.gInt ay) R)<|Jn 1 R<|Jt1<|Jd ?_
 revert h
 cases bW:decide (bL<bM)
 refine JF λh=>Jy R<|Js<|Jp<|Jm3 2 R<|Ob h λcn bC h=>Jf R (Jg2 p.rdc bC U27 Z2 R R q R)<|Ob h λaJ aC h=>Jk1 (J:=A) (E:=E6) 5 [] R R R R R R R R Z2 R R R R p aC λb8 aL aW ba=>Tv<|?_
 have bq:i.length=aJ.length:=q.trans (Ju2 aC).2.2.2.symm
 refine Jo<|Jz<|Jp<|Jg3 R ?_
 cases h
 exact Ja2 ⟨aL,(((zr .i64<|g.1-1):Int),aJ),R,(T3 E F aW).wk R,ba,bq,V⟩ R
 refine JT λh=>Jx R<|Jl3 2 R<|Ob h λcl az h=>Jf R (Jg2 p.rdc az U27 Z2 R R q R)<|Jc3 R I2 (p.rdc.gInt az)<|Jn 1 R<|Ob h λcm bB h=>Jf R (Jg2 p.rdc bB U27 Z2 R R q R)<|Ob h λbO aB h=>Jk1 (J:=A) (E:=E6) 5 [] R R R R R R R R Z2 R R R R p aB λb7 aK aV a9=>Tv<|?_
 have bp:i.length=bO.length:=q.trans (Ju2 aB).2.2.2.symm
 refine Jd<|Jf3 R<|Ju<|Jw<|Ja1<|Jw<|Jw ?_
 cases h
 obtain rfl:=zt V
 have h:=yL ap
 refine Ja1<|Jr2<|Jw<|Jb2 (l:=[.tmp 6]) results273 (Jq2 R R) R ?_
 cases h
 exact⟨(λo=>ren [(5,2)]<|aK o),n,m,(by simp only[bp]),((H.stp<|T9 k f j u C P E F aV).map (ren [(5,2)]) R R),(a9.map (ren [(5,2)]) R R)⟩
 rintro _ cg ⟨aU,M,rfl,a1,bU,bV,rfl⟩
 have h:=yI ap
 refine Jp<|Jj3<|Ji4 aU 12 [1] R Y27 aR R λa4 a3 b9 aM aX bb=>Tv<|Jb 1 R<|Ju<|Jb2 (l:=[.tmp 6]) results273 (Jq2 R R) R ?_
 cases h
 exact⟨(λo=>ren [(12,2)]<|aM o),a4,a3,R,((H.stp<|T8 k f j u C P a1 aX).map (ren [(12,2)]) R R),(bb.map (ren [(12,2)]) R R)⟩
 refine JT λh=>Jx R<|Jf3 R<|Ju<|Jw<|Jb2 (l:=[.tmp 6]) results273 (Jq2 R R) R ?_
 cases h
 exact⟨(λo=>ren [(5,2)]<|X o),n,m,(by simp only[ar]),((H.stp<|T5 k f j u C).map (ren [(5,2)]) R R),(am.map (ren [(5,2)]) R R)⟩
 refine JT λh=>Jx R<|Jj3<|Ji4 Y 5 [1] R Y27 aR R λa2 a5 ca aN aY bc=>Tv<|Jb 1 R<|Ju<|Jw<|Jb2 (l:=[.tmp 6]) results273 (Jq2 R R) R ?_
 cases h
 exact⟨(λo=>ren [(5,2)]<|aN o),a2,a5,R,((H.stp<|T3 k f aY).map (ren [(5,2)]) R R),(bc.map (ren [(5,2)]) R R)⟩
theorem jt {ah:asker->VI->Int->Int->Int->Int->Option (VI×(List (query×VI)))}(aZ:∀{w:World}{J:Col}{p t q s u v i}{p0:asker}{o C}{p1:VI}{p2:Int}{m:Int}{y:Int}{z:Int}{x}(ad:Rd Ri J w 0 p t p0.game.Arena.Owner) (ae:Rd Rs J w 0 q s p0.game.Arena.Next) (af:Rd Ri J w 0 u v p0.game.Prio) (H:Mz kwquery kvquery J w 2 i p0.known) (I:Rd Ri J w 0 o C p1) (K:Bc J w 0 x 292 [.slice p p0.game.Arena.Owner.length t,.slice q p0.game.Arena.Next.length s,.slice u p0.game.Prio.length v,.map (some i)]){r:VI×(List (query×VI))}(h:ah p0 p1 p2 m y z=some r),Ret prog 216 [.pointer (some ⟨x,0,none⟩),.slice o p1.length C,vi p2,vi m,vi y,vi z] w (λL j=>∃(k:Col) (A:Option Addr) (B:Nat),L= .slice A r.1.length B/\Ent J w k j/\Rd Ri k j 0 A B r.1/\Mz kwquery kvquery k j 2 i r.2)){w:World}{J:Col}{p t q s u v i}{p0:asker}{o C}{p1:VI}{p2:Int}{m:Int}{y:Int}{z:Int}{x}(ad:Rd Ri J w 0 p t p0.game.Arena.Owner) (ae:Rd Rs J w 0 q s p0.game.Arena.Next) (af:Rd Ri J w 0 u v p0.game.Prio) (H:Mz kwquery kvquery J w 2 i p0.known) (I:Rd Ri J w 0 o C p1) (K:Bc J w 0 x 292 [.slice p p0.game.Arena.Owner.length t,.slice q p0.game.Arena.Next.length s,.slice u p0.game.Prio.length v,.map (some i)]){r:VI×(List (query×VI))}(h:dp ah p0 p1 p2 m y z=some r):Ret prog 253 [.pointer (some ⟨x,0,none⟩),.slice o p1.length C,vi p2,vi m,vi y,vi z] w (λL j=>∃(k:Col) (A:Option Addr) (B:Nat),L= .slice A r.1.length B/\Ent J w k j/\Oc E6 2 k j 3 A B r.1/\Mz kwquery kvquery k j 2 i r.2):=by
 unfold dp at h
 refine Jp3 J func253 R ntmps253 R λag=>Jf3 R<|Jq<|Jf3 R ?_
 revert h
 cases bm:(m==0)
 refine JF λh=>Jy R<|Js<|Jp<|Jl3 1 R<|Jf R (bh R R)<|Je3 R U292 R Z32<|Je3 R U32 R Z30<|Jg4 tv R (Jh4 (haE<|K.lds 0 2 R) I30 Z30 R)<|Jy3 J 3 R X30 R λbl bu D e aF=>Tv<|Jm4 D 3 R Z30 R aF R λbv f aG=>Tv<|Jd<|Jq<|Js1 (J:=D) [0,3] none [(0,2),(2,2),(3,2),(4,2),(5,2),(6,2),(8,2),(9,2),(1,0),(7,0),(10,1),(11,1),(12,1),(13,2)] [] (by kernel_rfl) (by kernel_rfl) λbx c=>Jn 4 R<|Jf R (bh R R)<|Je3 R U292 R Z32<|Jn 2 R ?_
 have P:=aG.stp c
 refine Jg R (Jh4 (haC P.cells R) I30 Z30 R) ?_
 have Q:=K.stp (T3 e f c)
 refine Jg R (Jh4 (haC (Q.lds 0 3 R) R) I32 Z32 R)<|Ob h λbG aQ h=>?_
 have S:=ad.stp (T3 e f c)
 have T:=ae.stp (T3 e f c)
 have U:=af.stp (T3 e f c)
 have V:=I.stp (T3 e f c)
 refine Jw3 R call277 (lh (J:=Mk D) (p0:=p0.game) (Jn3 S) (Jn3 T) (Jn3 U) (Jn3 V) aQ) ?_
 rintro _ bz ⟨bn,ba,bk,rfl,ay,aH⟩
 obtain⟨ak,a,a0⟩:=Ji ay 4 R
 refine⟨(a.cl R),Ob h λbH aS h=>?_⟩
 have W:=S.stp a
 have X:=T.stp a
 have Y:=V.stp a
 refine Jw3 R call276 (il (J:=Mk ak) (p0:=p0.game.Arena) (Jn3 W) (Jn3 X) (Jn3 Y) (Jn3 (aH.mx (aT _) a0 R (R:4+2=6)).rdc) aS) ?_
 rintro _ bA ⟨bp,a9,bd,rfl,az,aI⟩
 obtain⟨al,b,a1⟩:=Ji az 7 R
 refine⟨((a.tr b).cl R),Ob h λbI aU h=>?_⟩
 have Z:=Y.stp b
 refine Jw3 R call141 (jc (J:=Mk al) (Jn3 Z) (Jn3 (aI.mx (aT _) a1 R (R:7+2=9)).rdc) aU) ?_
 rintro _ a6 ⟨bq,be,bc,rfl,aA,aK⟩
 obtain⟨am,d,a2⟩:=Ji aA 10 R
 refine⟨((T3 a b d).cl R),Jn 1 R<|Jt1<|Jd<|Jl3 8 R ?_⟩
 obtain⟨an,g,a7⟩:=b9 am a6 12
 refine Ob h λbJ aW h=>?_
 have aa:=W.stp (T3 b d g)
 have ab:=X.stp (T3 b d g)
 have M:=(T4 a b d g)
 refine Jw3 R call216 (aZ (J:=λG=>mp [(2,2)] 1<|an G) (p0:=p0) (Jm2 aa (mp [(2,2)] 1) R R) (Jm2 ab (mp [(2,2)] 1) R R) (Jm2 (U.stp M) (mp [(2,2)] 1) R R) ((H.stp<|T7 e f c a b d g).map (mp [(2,2)] 1) R R) (Jm2 (Sl.st a7 (aK.mx (aT _) a2 R (R:10+2=12)).rdc) (mp [(2,2)] 1) R R) ((Q.stp M).map (mp [(2,2)] 1) R R) aW) ?_
 rintro _ bB ⟨br,a8,bb,rfl,aB,aL,aM⟩
 obtain⟨ao,n,a3,ai⟩:=Jj aB 13 R
 refine Tv<|Jb 1 R<|Jl3 1 R<|Jg4 tv R (Jh4 (haE (P.stp<|T5 a b d g n).cells) I30 Z30 R)<|Jn 4 R<|Ob h λbK aX h=>?_
 have ac:=Z.stp (T3 d g n)
 refine Jw3 R call276 (il (J:=Mk ao) (p0:=p0.game.Arena) (Jn3<|aa.stp n) (Jn3<|ab.stp n) (Jn3 ac) (Jn3<|aL.mx ai) aX) ?_
 rintro _ bD ⟨bs,bg,bf,rfl,aC,aN⟩
 obtain⟨aq,F,a4⟩:=Ji aC 17 R
 refine Tv<|Ob h λbL aY h=>Jw3 R call141 (jc (J:=Mk aq) (Jn3<|ac.stp F) (Jn3 (aN.mx (aT _) a4 R (R:17+2=19)).rdc) aY) ?_
 rintro _ bE ⟨bt,ax,aw,rfl,aD,aO⟩
 obtain⟨ar,O,a5⟩:=Ji aD 20 R
 refine Tv<|Jb 1 R<|Ju<|Jb2 (l:=[.tmp 12]) results253 (Jq2 R R) R ?_
 cases h
 exact⟨(λG=>ren [(22,3),(15,2)]<|ar G),ax,aw,R,((ag.stp<|T10 e f c a b d g n F O).map (ren [(22,3),(15,2)]) R R),((aO.mx (aT _) a5 R (R:20+2=22)).map (ren [(22,3),(15,2)]) R R),(((aM.mxz ai a3 R (R:13+2=15)).stp (F.tr O)).map (ren [(22,3),(15,2)]) R R)⟩
 refine JT λh=>Jx R<|Jj3<|Jc4 J E6 3 R Y27 aR R λbj bi bw aj E aJ=>Tv<|Jn 1 R<|Ob h λbF aP h=>Jd4 aj E6 3 [] R Y27 aR R aJ (Sl.srcP (bo _)<|I.stp E) aV aP R λav au bC ap N aE=>Tv<|Jb 1 R<|Ju<|Jw<|Jb2 (l:=[.tmp 12]) results253 (Jq2 R R) R ?_
 cases h
 exact⟨ap,av,au,R,(ag.stp<|E.tr N),aE,(H.stp<|E.tr N)⟩
theorem nu {ao aj al an ak am}{p0:Parity}{ai aO}{p1:VI}(bj:Rd Ri J w 0 ao aj p0.Arena.Owner) (bk:Rd Rs J w 0 al an p0.Arena.Next) (bl:Rd Ri J w 0 ak am p0.Prio) (bm:Rd Ri J w 0 ai aO p1){r:VI}(h:fp p0 p1=some r):Ret prog 258 [.agg #[.slice ao p0.Arena.Owner.length aj,.slice al p0.Arena.Next.length an,.slice ak p0.Prio.length am],.slice ai p1.length aO] w (Pvs E6 2 J w r):=by
 unfold fp at h
 refine Jp3 J func258 R ntmps258 R λbn=>Jj3<|Jx3 J 2 R λca ct aX x ar=>Tv<|Jb 1 R<|Jj3<|Jg4 tv R (Jh4 (haE ar.cells) I32 Z32 R)<|Jn 1 R<|Ob h λaR bH h=>?_
 have au:=bj.stp x
 have av:=bk.stp x
 have W:=bl.stp x
 have X:=bm.stp x
 refine Jw3 R call217 (lj (J:=Mk aX) (p0:=p0) (Jn3 au) (Jn3 av) (Jn3 W) (Jn3 X) bH) ?_
 rintro _ cC ⟨ci,b7,b8,rfl,a7,bc⟩
 obtain⟨aW,m,bN⟩:=Ji a7 3 R
 refine Tv<|?_
 have y:=bc.mx Worth.no257 bN R (R:3+2=5)
 refine Jb 1 R<|Jj3<|Je3 R U32 R Z30 ?_
 have ap:=ar.stp m
 refine Jg4 tv R (Jh4 (haE<|ap.lds 0 2 R) I30 Z30 R)<|Ob h λu bI h=>?_
 have S:=au.stp m
 have E:=av.stp m
 refine Jw3 R call170 (eT (J:=Mk aW) (p0:=p0.Arena) (Jn3 S) (Jn3 E) bI) ?_
 rintro _ aP ⟨ck,D,C,rfl,a8,bd⟩
 obtain⟨O,g,bO⟩:=Ji a8 6 R
 refine Tv<|Jb 1 R<|Jq<|Jj3<|Je3 R U32 R Z30<|Je3 R U30 R Z28 ?_
 have aq:=ap.stp g
 refine Jc3 R I28 (aq.ld 1 R R)<|Js3 R U28 R R<|Jb 1 R ?_
 have ax:=E.len_le
 refine Ob h λaL bB bp=>?_
 clear h
 refine Jt3 [6] (λc d a=>∃b,∃L:VI,d=c/\Stp [8] O aP b a/\Oc E6 2 b a 8 D C L/\u.length=L.length/\aL=zw L) ?_ ?_
 refine Jv<|Ju3 [1,2,5,6,20,21] (λf c d a=>∃b o,∃s:VI,d=(22,vi o)::c/\Stp [8] O aP b a/\Oc E6 2 b a 8 D C s/\u.length=s.length/\0<=o/\zq ((p0.Arena.Next.length:Int)-o)=f/\cntM (dc p0 p1 aR) f o s=some aL) ⟨_,_,⟨O,0,u,R,Jo3,(bd.mx (aT _) bO R (R:6+2=8)),R,(by decide),(by simp),bB⟩,(KM R)⟩ ?_
 rintro f _ aQ ⟨v,o,s,rfl,e,F,K,H,q,h⟩
 rcases f with _|f
 have A:=h;obtain⟨bP,h⟩:=exq A
 have ab:=dcf q
 refine Jf3 R<|Jq<|Jx2 R ab<|Jc1<|Jt<|Jt ?_
 cases h
 have h:=A
 refine Jb1 ?_
 cases h
 exact Jw1 _ ⟨v,s,R,e.wk R,F,K,R⟩<|KM R
 obtain⟨bP,h,A⟩:=BI h;unfold dc at h
 have ab:=dct q
 refine Jf3 R<|Jq<|Jw2 R ab<|Js<|Jp<|Jq<|Jv<|Jl3 1 R<|Ob h λaS az h=>Jd3 R E az U28 Z27 ?_
 have T:=E.stp (g.tr e)
 obtain⟨b9,cs,z,bs⟩:=T.gSl az
 refine Jc3 R I27 bs<|Jb 2 R<|Jq<|Jj3<|Je3 R U32 R Z30<|Je3 R U30 R Z27 ?_
 have U:=aq.stp e
 refine Jc3 R I27 (U.ld 0 R R)<|Jn 1 R<|Ob h λbT aA h=>Jd3 R S aA U27 Z2 ?_
 have V:=S.stp (g.tr e)
 refine Jc3 R I2 (V.gInt aA)<|Jb 1 R ?_
 revert h
 cases cg:(bT !=0)
 refine JF λh=>Jy R<|Js<|Jp<|Jl3 1 R<|Ob h λbU aB h=>Jd3 R z aB U27 Z2<|Jc3 R I2 (z.gInt aB)<|Jb 1 R<|Jq<|Jl3 1 R<|Js3 R U27 R R<|Jb 1 R<|Ob h λaM bC bq=>?_
 clear h
 refine Jt3 [1,2,5,6,7,20,21,22] (λc d a=>∃b af,d=(9,vi af)::c/\Stp [] v aQ b a/\aM=zw af) ?_ ?_
 refine Jv<|Ju3 [1,2,5,6,7,20,21,22,37,38] (λf c d a=>∃b t M,d=(9,vi M)::(39,vi t)::c/\Stp [] v aQ b a/\0<=t/\zq ((aS.length:Int)-t)=f/\cntM (de p0 aR aS) f t M=some aM) ⟨_,_,⟨v,0,bU,R,Jo3,(by decide),(by simp),bC⟩,(KM R)⟩ ?_
 rintro f _ cy ⟨P,t,M,rfl,k,ay,G,h⟩
 rcases f with _|f
 have I:=h;obtain⟨bQ,h⟩:=exq I
 have ac:=dcf G
 refine Jf3 R<|Jq<|Jx2 R ac<|Jc1<|Jt<|Jt ?_
 cases h
 have h:=I
 refine Jb1 ?_
 cases h
 exact Jw1 _ ⟨P,M,R,k.wk R,R⟩<|KM R
 obtain⟨bQ,h,I⟩:=BI h;unfold de at h
 have ac:=dct G
 refine Jf3 R<|Jq<|Jw2 R ac<|Js<|Jp<|Jq<|Jv<|Jj3<|Ob h λcE aC h=>Jd3 R z aC U27 Z2<|Jc3 R I2 ((z.stp k).gInt aC)<|Jb 1 R<|Jq<|Js1 (J:=P) [0,2,5] none [(1,2),(2,2),(3,2),(5,2),(6,2),(7,2),(0,0),(4,0),(8,0),(9,1)] [] (by kernel_rfl) (by kernel_rfl) λcz p=>Jn 2 R<|Ob h λbV aD h=>Jd3 R y.rdc aD U254 Z257<|Jn 2 R<|Ob h λbW aE h=>Jd3 R y.rdc aE U254 Z257<|Jg R (Jh4 (haC (U.stp<|k.tr p).cells R) I32 Z32 R) ?_
 have aw:=y.stp (T4 g e k p)
 obtain⟨cb,bD,bt⟩:=(aw.rdc).gSt aD
 obtain⟨b3,co,rfl,bf⟩:=Worth.un bD
 refine Jg R (Jh4 (haC bt R) I257 Z257 R) ?_
 obtain⟨cc,bE,bu⟩:=(aw.rdc).gSt aE
 obtain⟨b4,cp,rfl,bg⟩:=Worth.un bE
 refine Jg R (Jh4 (haC bu R) I257 Z257 R)<|Ob h λbX bJ h=>Jw3 R call256 (kj (J:=Mk P) (p0:=p0) (p1:=bV) (p2:=bW) (Jn3<|V.stp<|k.tr p) (Jn3<|T.stp<|k.tr p) (Jn3<|W.stp<|T5 m g e k p) (Jn3 bf) (Jn3 bg) bJ) ?_
 rintro _ bS ⟨cl,rfl,a9⟩
 obtain⟨Q,ah,cn⟩:=Ji a9 9 R
 refine⟨(ah.cl R),Jt1<|Jd<|Ob h λaN h br=>Jt3 [1,2,5,6,7,20,21,22,37,38,39] (λc d a=>∃b,d=(9,vi aN)::c/\Stp [] Q bS b a) ?_ ?_⟩
 revert h
 cases ch:bX
 refine JF λh=>Jy R<|Js ?_
 cases h
 exact Jw1 _ ⟨Q,R,Jo3⟩<|KM R
 refine JT λh=>Jx R<|Jg3 R ?_
 cases h
 exact Jw1 _ ⟨Q,R,Jo3⟩<|KM R
 rintro _ cA ⟨a0,rfl,a4⟩
 have h:=br
 refine Jz<|Jp<|Jg3 R<|wr2 ay G z.len_le ▸ ?_
 cases h
 exact Ja2 ⟨a0,t+1,aN,R,(T4 k p ah a4).wk R,nxz ay,nxm G,I⟩ R
 rintro _ cx ⟨aZ,af,rfl,j,rfl⟩
 have h:=yI bq
 refine Jp<|Jl3 4 R<|Ob h λcF aF h=>Jd3 R X aF U27 Z2 ?_
 have Y:=X.stp (T4 m g e j)
 refine Jc3 R I2 (Y.gInt aF)<|Ob h λcG bK h=>Jf R (Jg2 F.rdc bK U27 Z2 R R K R)<|Ob h λb1 aJ h=>Jk1 (J:=aZ) (E:=E6) 8 [] R R R R R R R R Z2 R R R R (F.stp j) aJ λcB ag n Z=>Tv<|?_
 have ad:u.length=b1.length:=K.trans (Ju2 aJ).2.2.2.symm
 refine Jd<|Jq<|Js1 (J:=ag) [0,2,5] none [(1,2),(2,2),(3,2),(5,2),(6,2),(7,2),(8,2),(0,0),(4,0),(9,0),(10,2),(11,0),(12,1)] [] (by kernel_rfl) (by kernel_rfl) λcD i=>Jn 2 R<|Ob h λbY aG h=>Jd3 R y.rdc aG U254 Z257<|Jn 3 R<|Ob h λcH aH h=>Jd3 R Y aH U27 Z2<|Jg R (Jh4 (haC (U.stp<|T3 j n i).cells R) I32 Z32 R) ?_
 have aa:=y.stp (T5 g e j n i)
 obtain⟨cd,bF,bv⟩:=(aa.rdc).gSt aG
 obtain⟨b5,cq,rfl,bh⟩:=Worth.un bF
 refine Jg R (Jh4 (haC bv R) I257 Z257 R)<|Jg R (Jd2 I2 R R<|hvC ((Y.stp<|n.tr i).gInt aH) R)<|Ob h λbZ aI h=>Jd3 R aa.rdc aI U254 Z257 ?_
 obtain⟨ce,bG,bw⟩:=(aa.rdc).gSt aI
 obtain⟨b6,cr,rfl,bi⟩:=Worth.un bG
 refine Jg R (Jh4 (haC bw R) I257 Z257 R)<|Ob h λb0 bL h=>Jw3 R call256 (kj (J:=Mk ag) (p0:=p0) (p1:=bY) (p2:=bZ) (Jn3<|V.stp<|T3 j n i) (Jn3<|T.stp<|T3 j n i) (Jn3<|W.stp<|T6 m g e j n i) (Jn3 bh) (Jn3 bi) bL) ?_
 rintro _ bR ⟨cj,rfl,a6⟩
 obtain⟨N,B,cm⟩:=Ji a6 9 R
 refine⟨(B.cl R),Jt1<|Jd<|Ob h λae h bo=>Jt3 [1,2,5,6,20,21,22] (λc d a=>∃b,d=c/\Stp [8] N bR b a/\Oc E6 2 b a 8 D C ae/\u.length=ae.length) ?_ ?_⟩
 revert h
 cases cf:b0
 refine JF λh=>Jy R<|Js ?_
 cases h
 exact Jw1 _ ⟨N,R,Jo3,(Z.stp<|i.tr B),ad⟩<|KM R
 refine JT λh=>Jx R<|Jm3 3 R<|Ob h λcI bM h=>Jf R (Jg2 Z.rdc bM U27 Z2 R R ad R)<|Ob h λb2 aK h=>Jk1 (J:=N) (E:=E6) 8 [] R R R R R R R R Z2 R R R R (Z.stp<|i.tr B) aK λcv aV a2 bb=>Tv<|?_
 have bz:u.length=b2.length:=ad.trans (Ju2 aK).2.2.2.symm
 refine Jo ?_
 cases h
 exact Jw1 _ ⟨aV,R,a2.wk R,bb,bz⟩<|KM R
 rintro _ cu ⟨aU,rfl,a1,ba,bx⟩
 have h:=bo
 refine Jz<|Jp<|Jg3 R<|wr2 H q ax ▸ ?_
 cases h
 exact Ja2 ⟨aU,o+1,ae,R,(T6 e j n i B a1).wk R,ba,bx,nxz H,nxm q,A⟩ R
 refine JT λh=>Jx R<|Jc1<|Jt<|Jb1<|Jp<|Jg3 R<|wr2 H q ax ▸ ?_
 cases h
 exact Ja2 ⟨v,o+1,s,R,e.wk R,F,K,nxz H,nxm q,A⟩ R
 rintro _ cw ⟨aY,L,rfl,a3,be,bA,rfl⟩
 have h:=yI bp
 refine Jp<|Jf3 R<|Ju<|Jb2 (l:=[.tmp 4]) results258 (Jq2 R R) R ?_
 cases h
 exact⟨(λa5=>ren [(8,2)]<|aY a5),D,C,(by simp only[bA]),((bn.stp<|T4 x m g a3).map (ren [(8,2)]) R R),(be.map (ren [(8,2)]) R R)⟩
theorem jj {v n p u o q}{p0:Parity}{s x y t}{p1:Stage}(V:Rd Ri J w 0 v n p0.Arena.Owner) (W:Rd Rs J w 0 p u p0.Arena.Next) (aq:Rd Ri J w 0 o q p0.Prio) (X:Rd Ri J w 0 s x p1.Won) (Y:Rd Ri J w 0 y t p1.Region){r:VI}(h:cZ p0 p1=some r):Ret prog 280 [.agg #[.slice v p0.Arena.Owner.length n,.slice p p0.Arena.Next.length u,.slice o p0.Prio.length q],.agg #[.slice s p1.Won.length x,.slice y p1.Region.length t,vi p1.At]] w (Pvs E6 2 J w r):=by
 unfold cZ at h
 refine Jp3 J func280 R ntmps280 R λZ=>Jj3<|Jx3 J 2 R λao ax C f T=>Tv<|Jx3 C 3 R λap aD G e i=>Tv<|Jb 1 R<|Jj3<|Jg4 tv R (Jh4 (haE i.cells) I261 Z261 R)<|Je3 R U261 R Z2<|Jc3 R I2 (i.ld 2 R R)<|Ob h λaH ad h=>?_
 have B:=X.stp (f.tr e)
 have z:=Y.stp (f.tr e)
 refine Jw3 R call282 (fo (J:=Mk G) (p0:=p1) (Jn3 B) (Jn3 z) ad) ?_
 rintro _ ay ⟨ar,ak,ai,rfl,L,P⟩
 obtain⟨j,b,ae⟩:=Ji L 4 R
 refine Tv<|Jb 1 R<|Jq<|Js1 (J:=j) [2,3] none [(0,2),(2,2),(5,2),(6,2),(8,2),(1,0),(3,0),(4,2),(7,0),(9,0),(10,2),(11,1),(12,1),(13,1),(14,2)] [] (by kernel_rfl) (by kernel_rfl) λaz a=>Je3 R U32 R Z30<|Je3 R U261 R Z2<|Jn 2 R<|Je3 R U261 R Z2<|Jg R (Jh4 (haC ((T.stp<|T3 e b a).lds 0 2 R) R) I30 Z30 R) ?_
 have g:=i.stp (b.tr a)
 refine Jg R (Jd2 I2 R R<|hvC (g.ld 2 R R) R)<|Jf R (c7 R R R<|show ¬(2:Int)=0 by decide) (Jg R (Jh4 (haC g.cells R) I261 Z261 R)<|Jg R (Jd2 I2 R R<|hvC (g.ld 2 R R) R)<|Jn 1 R<|Ob h λaE aa h=>Jw3 R call282 (fo (J:=Mk j) (p0:=p1) (Jn3<|B.stp<|b.tr a) (Jn3<|z.stp<|b.tr a) aa) ?_)
 rintro _ aA ⟨au,am,an,rfl,M,Q⟩
 obtain⟨D,c,af⟩:=Ji M 7 R
 refine⟨(c.cl R),Ob h λaF ab h=>?_⟩
 have A:=(P.mx (aT _) ae R (R:4+2=6)).stp (a.tr c)
 refine Jw3 R call141 (jc (J:=Mk D) (Jn3 A.rdc) (Jn3 (Q.mx (aT _) af R (R:7+2=9)).rdc) ab) ?_
 rintro _ aB ⟨av,aj,al,rfl,N,S⟩
 obtain⟨E,d,ag⟩:=Ji N 10 R
 have k:=(T6 f e b a c d)
 refine⟨((c.tr d).cl R),Ob h λaG ac h=>Jw3 R call276 (il (J:=Mk E) (p0:=p0.Arena) (Jn3<|V.stp k) (Jn3<|W.stp k) (Jn3 (A.stp d).rdc) (Jn3 (S.mx (aT _) ag R (R:10+2=12)).rdc) ac) ?_⟩
 rintro _ aC ⟨aw,I,H,rfl,O,U⟩
 obtain⟨F,m,ah⟩:=Ji O 13 R
 refine⟨((T3 c d m).cl R),Jn 1 R<|Jt1<|Jd<|Ju<|Jb2 (l:=[.tmp 4]) results280 (Jq2 R R) R ?_⟩
 cases h
 exact⟨(λK=>ren [(15,2)]<|F K),I,H,R,((Z.stp<|T7 f e b a c d m).map (ren [(15,2)]) R R),((U.mx (aT _) ah R (R:13+2=15)).map (ren [(15,2)]) R R)⟩
end
end Go.Proofs.YtgbippnfaoedmaaGreatDoor
