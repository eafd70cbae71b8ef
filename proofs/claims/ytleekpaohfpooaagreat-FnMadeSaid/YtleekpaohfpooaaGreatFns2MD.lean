/- The walks, part 2. By program. -/
import Derived.Test.YtleekpaohfpooaaGreatFns0MD
import Derived.Test.YtleekpaohfpooaaGreatFns1MD
set_option linter.unusedVariables false
set_option linter.unusedSimpArgs false
open Go.Wk.Ep renaming bool → Do, own → Dp
open Int renaming toNat → Dq
open Go.IntKind renaming wrap → Dr
open Go.Wk.Sl renaming srcP → Du
open Sum renaming inr → Dv
namespace Go.Proofs.YtleekpaohfpooaaGreat
open Tryz
open Go Go.Wk Go.Proofs
set_option maxRecDepth 100000
set_option maxHeartbeats 1000000
section
variable {w:World}{J:Col}
theorem td {p0:Sig}{t u v x}{p1:Clause}(T:Rd Ri J w 0 t u p1.A) (U:Rd Ri J w 0 v x p1.B){r:Bool}(h:lA p0 p1=some r):Ret prog 128 [.agg #[vi p0.In,vi p0.Out],.agg #[vi p1.Kind,.slice t p1.A.length u,.slice v p1.B.length x]] w (Pvb J w r):=by
 unfold lA at h
 refine Jl3 J func128 R ntmps128 R λA=>Je [1,1,2] R<|Jt3 J 2 R λao aH E i y=>Tv<|Jt3 E 3 R λap aM q d S=>Tv<|Jb 1 R<|Jq<|Jq<|Js1 (J:=q) [2,3] none [(0,2),(1,0),(2,2),(3,2),(4,2),(5,0),(6,2),(7,2),(8,2),(9,2),(10,0),(11,0),(12,1),(13,1),(14,2),(15,2),(16,2),(17,2),(18,0),(19,0),(20,1),(21,1),(22,2),(23,2)] [] (by kernel_rfl) (by kernel_rfl) λag c=>Je3 R U67 R Z2 ?_
 have g:=S.stp c
 refine Jg R (Jd2 I2 R R<|hvC (g.ld 0 R R) R)<|Jn 2 R<|Ob h λB h V=>Jg4 [2,3] 12 B q ag [(4,2),(5,0),(6,2),(7,2)] [(8,2),(9,2),(10,0),(11,0),(12,1),(13,1),(14,2),(15,2),(16,2),(17,2),(18,0),(19,0),(20,1),(21,1),(22,2),(23,2)] (Cl.refl _ _ _) ?_ ?_
 revert h
 cases aq:decide (p1.Kind<1)
 refine JF λh=>Je3 R U67 R Z2<|Jg R (Jd2 I2 R R<|hvC (g.ld 0 R R) R)<|Jn 2 R ?_
 cases h
 exact Jv1 _ (Cl.refl _ _ _) ⟨R,_,Jk3⟩<|KM R
 refine JT λh=>Jn 1 R<|Jb4 R<|Jn 2 R ?_
 cases h
 exact Jv1 _ (Cl.refl _ _ _) ⟨R,_,Jk3⟩<|KM R
 rintro _ ah _ ⟨rfl,n,a⟩
 have h:=V
 refine Jn 1 R<|Ob h λC h W=>Jg4 [2,3] 20 C n ah [(9,2),(10,0),(11,0),(12,1),(13,1),(14,2),(15,2)] [(16,2),(17,2),(18,0),(19,0),(20,1),(21,1),(22,2),(23,2)] (a.cl R) ?_ ?_
 revert h
 cases ar:B
 refine JF λh=>Je3 R U67 R Z37<|Jg R (Jd2 I37 R R<|hvC (g.ld 1 R R) R)<|Jg R (Jd4 (haC (y.stp<|d.tr c).cells R) I28 Z28 R)<|Ob h λaP Z h=>Js3 R call103 (gR (J:=Mk n) (p0:=p0) Z) ?_
 rintro _ aI ⟨ax,rfl,M⟩
 obtain⟨F,e,aC⟩:=Ji M 4 R
 refine⟨((a.tr e).cl R),Ob h λaQ aa h=>Js3 R call195 (lF (J:=Mk F) (Jj3<|T.stp<|T5 i d c a e) aa) ?_⟩
 rintro _ aJ ⟨ay,rfl,N⟩
 obtain⟨am,j,aD⟩:=Ji N 6 R
 refine⟨((T3 a e j).cl R),Jn 2 R ?_⟩
 cases h
 exact Jv1 _ ((T3 a e j).cl R) ⟨R,_,(e.tr j).wk R⟩<|KM R
 refine JT λh=>Jn 1 R<|Jb4 R<|Jb4 R<|Ja4 R<|Ja4 R<|Jn 2 R ?_
 cases h
 exact Jv1 _ (a.cl R) ⟨R,_,Jk3⟩<|KM R
 rintro _ ai _ ⟨rfl,o,b⟩
 have h:=W
 refine Jn 1 R<|Ob h λD h X=>Jg4 [3] 28 D o ai [(17,2),(18,0),(19,0),(20,1),(21,1),(22,2),(23,2)] [] ((a.tr b).cl R) ?_ ?_
 revert h
 cases au:C
 refine JF λh=>Je3 R U67 R Z37<|Jg R (Jd2 I37 R R<|hvC (g.ld 2 R R) R)<|Jg R (Jd4 (haC (y.stp<|d.tr c).cells R) I28 Z28 R)<|Ob h λaR ab h=>Js3 R call103 (gR (J:=Mk o) (p0:=p0) ab) ?_
 rintro _ aK ⟨az,rfl,O⟩
 obtain⟨G,f,aE⟩:=Ji O 4 R
 refine⟨((T3 a b f).cl R),Ob h λaS ac h=>Js3 R call195 (lF (J:=Mk G) (Jj3<|U.stp<|T6 i d c a b f) ac) ?_⟩
 rintro _ aL ⟨aA,rfl,P⟩
 obtain⟨an,k,aF⟩:=Ji P 6 R
 refine⟨((T4 a b f k).cl R),Jn 2 R ?_⟩
 cases h
 exact Jv1 _ ((T4 a b f k).cl R) ⟨R,_,(f.tr k).wk R⟩<|KM R
 refine JT λh=>Jn 1 R<|Jb4 R<|Jb4 R<|Ja4 R<|Ja4 R<|Jn 2 R ?_
 cases h
 exact Jv1 _ ((a.tr b).cl R) ⟨R,_,Jk3⟩<|KM R
 rintro _ aN _ ⟨rfl,p,m⟩
 have h:=X
 refine Jt1<|Jd ?_
 revert h
 cases av:D
 refine JF λh=>Jy R<|Js<|Jp<|Je [2,1,1,2,2,1,2,2,2,2] R<|Je3 R U67 R Z2 ?_
 have z:=g.stp (T3 a b m)
 refine Jc3 R I2 (z.ld 0 R R)<|Ob h λak ad h=>Js3 R call196 (rU (J:=Mk p) ad) ?_
 rintro _ aj ⟨aB,rfl,Q⟩
 obtain⟨H,s,aG⟩:=Ji Q 4 R
 refine Tv<|Jn 1 R<|Ob h λae h Y=>Ju1 [(4,2),(5,1),(6,2),(7,2),(8,2)] [(9,2)] (λK af=>K=[(37,.bool ae)]/\∃al,Stp [] H aj al af) tv ?_ ?_
 revert h
 cases aw:ak
 refine JF λh=>Je3 R U67 R Z37<|Jc3 R I37 ((z.stp s).ld 2 R R)<|Jo3 R U37 R R<|Jn 2 R ?_
 cases h
 exact Jh4 tv R
 refine JT λh=>Jn 1 R<|Ja4 R<|Jn 3 R ?_
 cases h
 exact Jh4 tv R
 rintro _ aO _ ⟨rfl,I,L⟩
 have h:=Y
 refine Jb 1 R<|Ju<|Jb2 (l:=[.tmp 4]) results128 (Jq2 R R) R ?_
 cases h
 exact⟨I,R,(A.stp<|T8 i d c a b m s L)⟩
 refine JT λh=>Jx R<|Jf3 R<|Ju<|Jw<|Jb2 (l:=[.tmp 4]) results128 (Jq2 R R) R ?_
 cases h
 exact⟨p,R,(A.stp<|T6 i d c a b m)⟩
theorem rQ {p0:Sig}{b5 cb b6 b9}{p1:Det}(a1:Rd Rs J w 0 b5 cb p1.Next) (bC:Rd Pair.rp J w 0 b6 b9 p1.Pairs){r:Arena×VP}(h:fK p0 p1=some r):Ret prog 42 [.agg #[vi p0.In,vi p0.Out],.agg #[.slice b5 p1.Next.length cb,.slice b6 p1.Pairs.length b9]] w (λfl a=>∃(b:Col) (cN:Option Addr) (cQ:Nat) (cO:Option Addr) (cR:Nat) (cP:Option Addr) (cS:Nat),fl= .tuple #[.agg #[.slice cN r.1.Owner.length cQ,.slice cO r.1.Next.length cR],.slice cP r.2.length cS]/\Ent J w b a/\Oc E6 2 b a 2 cN cQ r.1.Owner/\Oc (Dp E6 2) 37 b a 3 cO cR r.1.Next/\Oc Pair.ep127 127 b a 4 cP cS r.2):=by
 unfold fK at h
 refine Jl3 J func42 R ntmps42 R λet=>Je [1,1,1,2] R<|Jt3 J 2 R λfv fW db br eh=>Tv<|Jt3 db 3 R λfw go dg ar en=>Tv<|Ju3 dg 4 R X75 R λfx gx c1 K dM=>Tv<|Jb 1 R<|Je [2,1,1] R<|Jf R (Jj4 [.slice none 0 0,.slice none 0 0] R)<|Ju3 c1 5 R X75 R λC f0 bh y dT=>Tv<|Ji4 bh 5 R Z75 R dT R λf6 z d0=>Tv<|Jd<|Jq<|Js1 (J:=bh) [2,3] none [(0,2),(1,0),(2,2),(3,0),(4,1),(5,2),(6,2)] [] (by kernel_rfl) (by kernel_rfl) λge u=>Je3 R U71 R Z31 ?_
 have bB:=en.stp (T4 K y z u)
 refine Jg R (Jd2 I31 R R<|hvC (bB.ld 0 R R) R)<|Jo3 R U31 R R ?_
 have co:=eh.stp (T5 ar K y z u)
 refine Jg R (Jd4 (haC co.cells R) I28 Z28 R)<|Ob h λq eZ h=>Js3 R call46 (eK (J:=Mk bh) (p0:=p0) eZ) ?_
 rintro _ cW ⟨fR,rfl,dH⟩
 obtain⟨bl,i,fS⟩:=Ji dH 6 R
 refine⟨(i.cl R),Jn 2 R<|Jt1<|Jd<|Jq<|Jf3 R<|Ob h λcK eO ey=>?_⟩
 clear h
 refine Jp3 [2,3,4,6,7,8] (λd e a=>∃b,∃o:VI×VV,∃aG ay aP aV,e=d/\Stp [5,8,9,10,12] bl cW b a/\Oc E6 2 b a 8 aG ay o.1/\Oc (Dp E6 2) 37 b a 9 aP aV o.2/\Bc b a 5 C 75 [.slice aG o.1.length ay,.slice aP o.2.length aV]/\cK=Dv o) ?_ ?_
 refine Jv<|Jq3 [2,3,4,6,7,8,25] (λc d e a=>∃b g,∃j:VI×VV,∃aA aF Y X,e=(26,vi g)::d/\Stp [5,8,9,10,12] bl cW b a/\Oc E6 2 b a 8 aA aF j.1/\Oc (Dp E6 2) 37 b a 9 Y X j.2/\Bc b a 5 C 75 [.slice aA j.1.length aF,.slice Y j.2.length X]/\0<=g/\Dq ((p1.Next.length:Int)-g)=c/\cntM (fb p1 q) c g j=some cK) ⟨_,_,⟨bl,0,(([]:VI),([]:VV)),none,0,none,0,R,Jk3,Ow.nil,Ow.nil,(d0.stp<|u.tr i),(by decide),(by simp),eO⟩,(KM R)⟩ ?_
 rintro c _ gn ⟨bP,g,j,aA,aF,Y,X,rfl,b1,cq,cr,cs,eF,cx,h⟩
 rcases c with _|c
 have ba:=h;obtain⟨fj,h⟩:=exq ba
 have E:=dcf cx
 refine Jf3 R<|Jq<|Jx2 R E<|Jc1<|Jt<|Jt ?_
 cases h
 have h:=ba
 refine Jb1 ?_
 cases h
 exact Jw1 _ ⟨bP,(j.1,j.2),aA,aF,Y,X,R,b1.wk R,cq,cr,cs,R⟩<|KM R
 obtain⟨fj,h,ba⟩:=BI h;unfold fb at h
 have E:=dct cx
 refine Jf3 R<|Jq<|Jw2 R E<|Js<|Jp<|Jq<|Jv<|Jf3 R<|Je [1,2] R<|Jy3 bP E6 10 R Y37 bS R λdx dv cZ bn ap ei=>Tv<|Jb 1 R<|Jq<|Jf3 R<|Ob h λ_ eS h=>?_
 have eD:=jG eS
 refine Ob h λcL eP ez=>?_
 clear h
 refine Jp3 [2,3,4,6,7,8,25,26] (λd e a=>∃b,∃F:VI,∃aX aE,e=(10,.slice aX F.length aE)::d/\Stp [10] bn cZ b a/\Oc E6 2 b a 10 aX aE F/\cL=Dv F) ?_ ?_
 refine Jv<|Jq3 [2,3,4,6,7,8,9,25,26,30] (λc d e a=>∃b x,∃ac:VI,∃a0 aB,e=(10,.slice a0 ac.length aB)::(31,vi x)::d/\Stp [10] bn cZ b a/\Oc E6 2 b a 10 a0 aB ac/\0<=x/\Dq (q-x)=c/\cntM (fc p1 q g) c x ac=some cL) ⟨_,_,⟨bn,0,([]:VI),dx,dv,R,Jk3,ei,(by decide),(by simp),eP⟩,(KM R)⟩ ?_
 rintro c _ gq ⟨bQ,x,ac,a0,aB,rfl,b2,ct,cB,a5,h⟩
 rcases c with _|c
 have bb:=h;obtain⟨fk,h⟩:=exq bb
 have bG:=dcf a5
 refine Jf3 R<|Jq<|Jx2 R bG<|Jc1<|Jt<|Jt ?_
 cases h
 have h:=bb
 refine Jb1 ?_
 cases h
 exact Jw1 _ ⟨bQ,ac,a0,aB,R,b2.wk R,ct,R⟩<|KM R
 obtain⟨fk,h,bb⟩:=BI h;unfold fc at h
 have bG:=dct a5
 refine Jf3 R<|Jq<|Jw2 R bG<|Js<|Jp<|Jq<|Jv<|Jf3 R<|Ji3 [2,2,2,2,2,2,2,2,1,1,2] 8 R<|Je4 bQ 11 [(Dr .i64 ((Dr .i64 ((p1.Next.length:Int)+(Dr .i64<|g * q)))+x))] R Y37 bS R λfE fC gr dh b3 ek=>Tv<|Ob h λfo e0 h=>Jz3 dh E6 10 [] R Y37 bS R (ct.stp b3) (Du (cc _) ek.rdc) bV e0 R λdz dq gs di dp el=>Tv<|Jc 1 R<|Jz<|Jp<|Jg3 R<|wr2 cB a5 eD ▸ ?_
 cases h
 exact Ja2 ⟨di,x+1,fo,dz,dq,R,(T3 b2 b3 dp).wk R,el,nxz cB,nxm a5,bb⟩ R
 rintro _ gp ⟨df,F,aX,aE,rfl,aq,ej,rfl⟩
 have h:=yI ez
 refine Jp<|Je [2,1,1,1,2,1] R<|Je3 R U75 R Z37 ?_
 have cu:=cs.stp (ap.tr aq)
 refine Jc3 R I37 (cu.ld 0 R R)<|Je4 df 11 [1] R Y37 bS R λfJ fF gt dj P em=>Tv<|Ob h λbe e1 h=>Jz3 dj E6 8 [] R Y37 bS R (cq.stp<|T3 ap aq P) (Du (cc _) em.rdc) bV e1 R λaz aO gu bR au eo=>Tv<|Je3 R U75 R Z37<|Jv3 bR 5 (off:=0) (vc:=[.slice az be.length aO]) (cs':=[.slice az be.length aO,.slice Y j.2.length X]) R Z37 R (cu.stp<|P.tr au) R λgv av cv=>Tv<|Jd<|Ja [2,1,2,1,1,2,1] R<|Je3 R U75 R Z31<|Jc3 R I31 (cv.ld 1 R R)<|Jn 1 R<|Jx3 bR (Dp E6 2) 12 [10] (parts:=[(0,.tmp 52)]) (cells:=[.slice aX F.length aE]) (xs:=([F]:VV)) R Y31 bW R (Jf4 ⟨_,_,R,(ej.stp<|T3 P au av)⟩) λfI fL gw dk aw ep=>Tv<|Ob h λbI e2 h=>Jz3 dk (Dp E6 2) 9 [12] R Y31 bW R (cr.stp<|T6 ap aq P au av aw) ep.src (c9 R) e2 R λbv bA gy bT bs eq=>Tv<|Je3 R U75 R Z31<|Jv3 bT 5 (off:=1) (vc:=[.slice bv bI.length bA]) (cs':=[.slice az be.length aO,.slice bv bI.length bA]) R Z31 R (cv.stp<|aw.tr bs) R λgz bt dI=>Tv<|Jo<|Jz<|Jp<|Jg3 R ?_
 have eV:Dr .i64 (g+1)=g+1:=wr1 eF (Jn2 E) a1.len_le
 rw[eV]
 have E:=Jn2 E
 cases h
 exact Ja2 ⟨bT,g+1,(be,bI),az,aO,bv,bA,R,(T9 b1 ap aq P au av aw bs bt).wk R,(eo.stp<|T4 av aw bs bt),(eq.stp bt),dI,by omega,by omega,ba⟩ R
 rintro _ cY ⟨bm,o,aG,ay,aP,aV,rfl,v,ee,ef,eg,rfl⟩
 have h:=yI ey
 refine Jp<|Jq<|Jf3 R<|Ob h λcM eJ eu=>?_
 clear h
 refine Jp3 [3,4,6] (λd e a=>∃b,∃G:VI×VV,∃aS aC aR aH,e=d/\Stp [5,8,9,10,13,17,18] bm cY b a/\Oc E6 2 b a 8 aS aC G.1/\Oc (Dp E6 2) 37 b a 9 aR aH G.2/\Bc b a 5 C 75 [.slice aS G.1.length aC,.slice aR G.2.length aH]/\cM=Dv G) ?_ ?_
 refine Jv<|Jq3 [2,3,4,6,8,57] (λc d e a=>∃b p,∃f:VI×VV,∃U T V W,e=(58,vi p)::d/\Stp [5,8,9,10,13,17,18] bm cY b a/\Oc E6 2 b a 8 U T f.1/\Oc (Dp E6 2) 37 b a 9 V W f.2/\Bc b a 5 C 75 [.slice U f.1.length T,.slice V f.2.length W]/\0<=p/\Dq ((p1.Next.length:Int)-p)=c/\cntM (fd p0 p1 q) c p f=some cM) ⟨_,_,⟨bm,0,(o.1,o.2),aG,ay,aP,aV,R,Jk3,ee,ef,eg,(by decide),(by simp),eJ⟩,(KM R)⟩ ?_
 rintro c _ cT ⟨ae,p,f,U,T,V,W,rfl,L,cd,ce,cf,cy,a2,h⟩
 rcases c with _|c
 have a6:=h;obtain⟨fa,h⟩:=exq a6
 have bD:=dcf a2
 refine Jf3 R<|Jq<|Jx2 R bD<|Jc1<|Jt<|Jt ?_
 cases h
 have h:=a6
 refine Jb1 ?_
 cases h
 exact Jw1 _ ⟨ae,(f.1,f.2),U,T,V,W,R,L.wk R,cd,ce,cf,R⟩<|KM R
 obtain⟨fa,h,a6⟩:=BI h;unfold fd at h
 have bD:=dct a2
 refine Jf3 R<|Jq<|Jw2 R bD<|Js<|Jp<|Jq<|Jv<|Jf3 R<|Jf3 R<|Ob h λ_ eQ h=>?_
 have eA:=jG eQ
 refine Ob h λcH eL ev=>?_
 clear h
 refine Jp3 [2,3,4,6,8,57,58] (λd e a=>∃b,∃n:VI×VV,∃aQ aK aM ax,e=d/\Stp [5,8,9,10,13,17,18] ae cT b a/\Oc E6 2 b a 8 aQ aK n.1/\Oc (Dp E6 2) 37 b a 9 aM ax n.2/\Bc b a 5 C 75 [.slice aQ n.1.length aK,.slice aM n.2.length ax]/\cH=Dv n) ?_ ?_
 refine Jv<|Jq3 [2,3,4,6,8,12,57,58,61] (λc d e a=>∃b m,∃k:VI×VV,∃aJ aZ Q S,e=(62,vi m)::d/\Stp [5,8,9,10,13,17,18] ae cT b a/\Oc E6 2 b a 8 aJ aZ k.1/\Oc (Dp E6 2) 37 b a 9 Q S k.2/\Bc b a 5 C 75 [.slice aJ k.1.length aZ,.slice Q k.2.length S]/\0<=m/\Dq (q-m)=c/\cntM (ff p0 p1 q p) c m k=some cH) ⟨_,_,⟨ae,0,(f.1,f.2),U,T,V,W,R,Jk3,cd,ce,cf,(by decide),(by simp),eL⟩,(KM R)⟩ ?_
 rintro c _ fZ ⟨bJ,m,k,aJ,aZ,Q,S,rfl,M,ch,ci,cj,eE,cw,h⟩
 rcases c with _|c
 have a7:=h;obtain⟨fe,h⟩:=exq a7
 have D:=dcf cw
 refine Jf3 R<|Jq<|Jx2 R D<|Jc1<|Jt<|Jt ?_
 cases h
 have h:=a7
 refine Jb1 ?_
 cases h
 exact Jw1 _ ⟨bJ,(k.1,k.2),aJ,aZ,Q,S,R,M.wk R,ch,ci,cj,R⟩<|KM R
 obtain⟨fe,h,a7⟩:=BI h;unfold ff at h
 have D:=dct cw
 refine Jf3 R<|Jq<|Jw2 R D<|Js<|Jp<|Jq<|Jv<|Jf3 R<|Je [1,2] R<|Jy3 bJ E6 10 R Y37 bS R λdt dy cU bg s dQ=>Tv<|Jb 1 R<|Jq<|Je [2,1,2,2] R<|Je3 R U28 R Z2<|Jc3 R I2 ((co.stp<|T5 i v L M s).ld 1 R R)<|Ob h λ_z68 e7 h=>Jf R (sw R R R<|vX e7)<|Jb 1 R<|Ob h λ_ eR h=>?_
 have eB:=jG eR
 refine Ob h λcI eM ew=>?_
 clear h
 refine Jp3 [2,3,4,6,8,12,57,58,61,62] (λd e a=>∃b,∃bc:VI,∃bu bx,e=(14,.slice bu bc.length bx)::d/\Stp [10] bg cU b a/\Oc E6 2 b a 10 bu bx bc/\cI=Dv bc) ?_ ?_
 refine Jv<|Jq3 [2,3,4,6,8,12,13,57,58,61,62,68] (λc d e a=>∃b I,∃aa:VI,∃aN aL,e=(14,.slice aN aa.length aL)::(69,vi I)::d/\Stp [10] bg cU b a/\Oc E6 2 b a 10 aN aL aa/\0<=I/\Dq ((Dr .i64 (1 * 2 ^ (min (Dq p0.Out)<|IntKind.bits IntKind.i64)))-I)=c/\cntM (fg p1 q p m) c I aa=some cI) ⟨_,_,⟨bg,0,([]:VI),dt,dy,R,Jk3,dQ,(by decide),(by simp),eM⟩,(KM R)⟩ ?_
 rintro c _ f2 ⟨bK,I,aa,aN,aL,rfl,ah,ck,cz,a3,h⟩
 rcases c with _|c
 have a8:=h;obtain⟨fh,h⟩:=exq a8
 have bE:=dcf a3
 refine Jf3 R<|Jq<|Jx2 R bE<|Jc1<|Jt<|Jt ?_
 cases h
 have h:=a8
 refine Jb1 ?_
 cases h
 exact Jw1 _ ⟨bK,aa,aN,aL,R,ah.wk R,ck,R⟩<|KM R
 obtain⟨fh,h,a8⟩:=BI h;unfold fg at h
 have bE:=dct a3
 refine Jf3 R<|Jq<|Jw2 R bE<|Js<|Jp<|Jq<|Jv<|Jf3 R<|Ji3 [2,2,1,2,2,1,2,2,2,2,2,2,1,1,1,2] 1 R<|Je3 R U71 R Z31<|Jc3 R I31 ((bB.stp<|T6 i v L M s ah).ld 0 R R)<|Jn 1 R<|Ob h λgA cD h=>Jd3 R a1 cD U31 Z37 ?_
 obtain⟨ft,fV,cl,eG⟩:=(a1.stp (T12 br ar K y z u i v L M s ah)).gSl cD
 refine Jc3 R I37 eG<|Jn 5 R<|Ob h λfp cE h=>Jd3 R cl cE U37 Z2<|Jc3 R I2 (cl.gInt cE)<|Je4 bK 11 [fp] R Y37 bS R λfG fB f3 c5 bX dS=>Tv<|Ob h λfq e3 h=>Jz3 c5 E6 10 [] R Y37 bS R (ck.stp bX) (Du (cc _) dS.rdc) bV e3 R λdw dD f4 c6 dm dU=>Tv<|Jc 1 R<|Jz<|Jp<|Jg3 R<|wr2 cz a3 eB ▸ ?_
 cases h
 exact Ja2 ⟨c6,I+1,fq,dw,dD,R,(T3 ah bX dm).wk R,dU,nxz cz,nxm a3,a8⟩ R
 rintro _ f1 ⟨c4,bc,bu,bx,rfl,ag,dR,rfl⟩
 have h:=yI ew
 refine Jp<|Jh3 [2,1] 1 R<|Ob h λgB e4 h=>Js3 R call106 (dY (J:=λZ=>mp [(10,2)] 0<|c4 Z) (dR.map (mp [(10,2)] 0) R R) e4) ?_
 rintro _ f5 ⟨fO,rfl,dE,dV,eI⟩
 obtain⟨c7,ai,e8⟩:=Ji dE 11 R
 refine Tv<|Jd<|Je [2,1,1,1,2,1] R<|Je3 R U75 R Z37 ?_
 have cm:=cj.stp (T3 s ag ai)
 refine Jc3 R I37 (cm.ld 0 R R)<|Je4 c7 14 [0] R Y37 bS R λfA fH f7 c8 N dW=>Tv<|Ob h λbf e5 h=>Jz3 c8 E6 8 [] R Y37 bS R (ch.stp<|T4 s ag ai N) (Du (cc _) dW.rdc) bV e5 R λaW aD f8 bi aj dX=>Tv<|Je3 R U75 R Z37<|Jv3 bi 5 (off:=0) (vc:=[.slice aW bf.length aD]) (cs':=[.slice aW bf.length aD,.slice Q k.2.length S]) R Z37 R (cm.stp<|N.tr aj) R λf9 ak dZ=>Tv<|Jd<|Js1 (J:=bi) [5] (some 7) [(0,2),(2,2),(1,0),(3,1),(4,1),(5,1),(6,2)] [(7,1)] (by kernel_rfl) (by kernel_rfl) λga O=>Je3 R U75 R Z31<|Jn 1 R ?_
 have cn:=dZ.stp O
 refine Jg R (Jd2 I31 R R<|hvC (cn.ld 1 R R) R)<|Ob h λc0 e6 h=>Js3 R call107 (Ret.cast (by simp only[(eI),List.cons_append,List.nil_append])<|mj (J:=λZ=>mp [(13,2)] 0<|bi Z) (((dV.mx (bZ _) e8 R (R:11+2=13)).stp (T4 N aj ak O)).map (mp [(13,2)] 0) R R) e6) ?_
 rintro _ gb ⟨fP,ds,dC,rfl,dF,d1⟩
 obtain⟨da,t,e9⟩:=Ji dF 15 R
 refine⟨(t.cl R),Jx3 da (Dp E6 2) 18 [17] (parts:=[(0,.tmp 98)]) (cells:=[.slice ds c0.length dC]) (xs:=([c0]:VV)) R Y31 bW R (Jf4 ⟨_,_,R,(d1.mx (bZ _) e9 R (R:15+2=17))⟩) λfy fz gc dc A d2=>⟨((t.tr A).cl R),Ob h λbH eW h=>Jz3 dc (Dp E6 2) 9 [18] R Y31 bW R (ci.stp<|T9 s ag ai N aj ak O t A) d2.src (c9 R) eW R λbw bz gd bL al d3=>⟨((T3 t A al).cl R),Je3 R U75 R Z31<|Jt1<|Jv3 bL 5 (off:=1) (vc:=[.slice bw bH.length bz]) (cs':=[.slice aW bf.length aD,.slice bw bH.length bz]) R Z31 R (cn.stp<|T3 t A al) R λgf bo d4=>Tv<|Jo<|Jz<|Jp<|Jg3 R ?_⟩⟩⟩
 have eU:Dr .i64 (m+1)=m+1:=wr1 eE (Jn2 D) eA
 rw[eU]
 have D:=Jn2 D
 cases h
 exact Ja2 ⟨bL,m+1,(bf,bH),aW,aD,bw,bz,R,(T12 M s ag ai N aj ak O t A al bo).wk R,(dX.stp<|T6 ak O t A al bo),(d3.stp bo),d4,by omega,by omega,a7⟩ R
 rintro _ fY ⟨c3,n,aQ,aK,aM,ax,rfl,dl,dN,dO,dP,rfl⟩
 have h:=yI ev
 refine Jz<|Jp<|Jg3 R<|wr2 cy a2 a1.len_le ▸ ?_
 cases h
 exact Ja2 ⟨c3,p+1,(n.1,n.2),aQ,aK,aM,ax,R,(L.tr dl).wk R,dN,dO,dP,nxz cy,nxm a2,a6⟩ R
 rintro _ fX ⟨c2,G,aS,aC,aR,aH,rfl,af,dJ,dK,dL,rfl⟩
 have h:=yI eu
 refine Jp<|Je [1,2] R<|Jy3 c2 Pair.ep127 10 R Y69 cG R λdr dB cV bj B d5=>Tv<|Jb 1 R<|Jq<|Je [2,1,2,2] R<|Je3 R U71 R Z69<|Jc3 R I69 ((bB.stp<|T4 i v af B).ld 1 R R)<|Jo3 R U69 R R<|Jb 1 R<|Ob h λcJ eN ex=>?_
 clear h
 refine Jp3 [4,6] (λd e a=>∃b,∃bd:VP,∃aY aI,e=(16,.slice aY bd.length aI)::d/\Stp [10,11,14,15,16] bj cV b a/\Oc Pair.ep127 127 b a 10 aY aI bd/\cJ=Dv bd) ?_ ?_
 refine Jv<|Jq3 [4,6,106,107] (λc d e a=>∃b H,∃ab:VP,∃aU aT,e=(16,.slice aU ab.length aT)::(108,vi H)::d/\Stp [10,11,14,15,16] bj cV b a/\Oc Pair.ep127 127 b a 10 aU aT ab/\0<=H/\Dq ((p1.Pairs.length:Int)-H)=c/\cntM (eC p1) c H ab=some cJ) ⟨_,_,⟨bj,0,([]:VP),dr,dB,R,Jk3,d5,(by decide),(by simp),eN⟩,(KM R)⟩ ?_
 rintro c _ gh ⟨bN,H,ab,aU,aT,rfl,bp,cp,cA,a4,h⟩
 rcases c with _|c
 have a9:=h;obtain⟨fi,h⟩:=exq a9
 have bF:=dcf a4
 refine Jf3 R<|Jq<|Jx2 R bF<|Jc1<|Jt<|Jt ?_
 cases h
 have h:=a9
 refine Jb1 ?_
 cases h
 exact Jw1 _ ⟨bN,ab,aU,aT,R,bp.wk R,cp,R⟩<|KM R
 obtain⟨fi,h,a9⟩:=BI h;unfold eC at h
 have bF:=dct a4
 refine Jf3 R<|Jq<|Jw2 R bF<|Js<|Jp<|Jq<|Jv<|Je [2,1,1,1] R<|Ob h λfm cC h=>Jd3 R bC cC U69 Z127 ?_
 obtain⟨fN,eT,eH⟩:=((bC.stp (T11 br ar K y z u i v af B bp))).gSt cC
 obtain⟨fr,fT,fs,fU,rfl,er,es⟩:=Pair.un eT
 refine Jc4 tv R (Jd4 (haE eH) I127 Z127 R)<|Ju3 bN 11 R X127 R λfu gi bO an d7=>Tv<|Ji4 bO 11 R Z127 R d7 R λgj ao d8=>Tv<|Jd<|Ji3 [2,1,1,1,1,2] 1 R<|Jc4 tv R (Jd4 (haE d8.cells) I127 Z127 R)<|Ob h λad eX h=>Js3 R call108 (tb (J:=Mk bO) (p0:=fm) (Jj3<|er.stp<|an.tr ao) (Jj3<|es.stp<|an.tr ao) eX) ?_
 rintro _ cX ⟨fQ,b4,b8,b7,ca,rfl,dG,d9,ea⟩
 obtain⟨bk,bY,cF⟩:=Ji dG 12 R
 refine Tv<|Jx3 bk Pair.ep127 16 [14,15] (parts:=[(0,.tmp 114)]) (cells:=[.slice b4 ad.Ask.length b8,.slice b7 ad.Give.length ca]) (xs:=([ad]:VP)) R Y69 cG R (Jf4 ⟨[.slice b4 ad.Ask.length b8],[.slice b7 ad.Give.length ca],Zl bk cX [14],Zl bk cX [15],R,Zl.sp (l1:=[14]) (l2:=[15]) R,Zl.sr (l1:=[14]) (l2:=[15]),⟨_,_,R,(d9.mx (bZ _) cF R (R:12+2=14))⟩,⟨_,_,R,(ea.mx (bZ _) cF R (R:12+3=15))⟩⟩) λfM fD gk dd b0 eb=>Tv<|Ob h λfn eY h=>Jz3 dd Pair.ep127 10 [16] R Y69 cG R (cp.stp<|T4 an ao bY b0) eb.src (c9 R) eY R λdA du gl de dn ec=>Tv<|Jc 1 R<|Jz<|Jp<|Jg3 R<|wr2 cA a4 bC.len_le ▸ ?_
 cases h
 exact Ja2 ⟨de,H+1,fn,dA,du,R,(T6 bp an ao bY b0 dn).wk R,ec,nxz cA,nxm a4,a9⟩ R
 rintro _ gg ⟨bM,bd,aY,aI,rfl,am,d6,rfl⟩
 have h:=yI ex
 refine Jp<|Je [1,2,1,2] R<|Jc4 tv R (Jd4 (haE (dL.stp<|B.tr am).cells) I75 Z75 R)<|Jn 1 R<|Ji4 bM 4 R Z75 R (dM.stp<|T8 y z u i v af B am) R λgm bq ed=>Tv<|Jb 1 R<|Ju<|Jb2 (l:=[.cell 4 75,.tmp 5]) results42 (cg R ed I75 Z75 R<|Jq2 R R) R ?_
 cases h
 have bU:=(T3 B am bq)
 exact⟨(λZ=>ren [(8,2),(9,3),(10,4)]<|bM Z),aS,aC,aR,aH,aY,aI,R,((et.stp<|T12 br ar K y z u i v af B am bq).map (ren [(8,2),(9,3),(10,4)]) R R),((dJ.stp bU).map (ren [(8,2),(9,3),(10,4)]) R R),((dK.stp bU).map (ren [(8,2),(9,3),(10,4)]) R R),((d6.stp bq).map (ren [(8,2),(9,3),(10,4)]) R R)⟩
theorem wY {d e b c}{p0:Arena}(u:Rd Ri J w 0 d e p0.Owner) (v:Rd Rs J w 0 b c p0.Next){r:VI}(h:pP p0=some r):Ret prog 115 [.agg #[.slice d p0.Owner.length e,.slice b p0.Next.length c]] w (Pvs E6 2 J w r):=by
 unfold pP at h
 refine Jl3 J func115 R ntmps115 R λx=>Je [1,2] R<|Jt3 J 2 R λB F i a t=>Tv<|Jb 1 R<|Je [1,1,1,2] R<|Jc4 tv R (Jd4 (haE t.cells) I75 Z75 R)<|Ob h λI y h=>Js3 R call181 (yw (J:=Mk i) (p0:=p0) (Jj3<|u.stp a) (Jj3<|v.stp a) y) ?_
 rintro _ H ⟨D,rfl,q⟩
 obtain⟨f,j,E⟩:=Ji q 3 R
 refine Tv<|Ob h λK z h=>Js3 R call91 (wX (J:=Mk f) z) ?_
 rintro _ G ⟨C,m,n,rfl,p,s⟩
 obtain⟨g,k,A⟩:=Ji p 5 R
 refine Tv<|Jb 1 R<|Ju<|Jb2 (l:=[.tmp 2]) results115 (Jq2 R R) R ?_
 cases h
 exact⟨(λo=>ren [(7,2)]<|g o),m,n,R,((x.stp<|T3 a j k).map (ren [(7,2)]) R R),((s.mx (bZ _) A R (R:5+2=7)).map (ren [(7,2)]) R R)⟩
theorem gh {a b}{p0:VB}{p1:Bool}(f:Rd Rp.bool J w 0 a b p0){r:Bool}(h:cT p0 p1=some r):Ret prog 245 [.slice a p0.length b,.bool p1] w (Pvb J w r):=by
 unfold cT at h
 refine Jl3 J func245 R ntmps245 R λg=>Jf3 R<|Jh3 [2,2,1,2,2] 2 R<|Ob h λn i h=>Js3 R call267 (ml (J:=Mk J) (Jj3 f) i) ?_
 rintro _ m ⟨j,rfl,e⟩
 obtain⟨c,d,k⟩:=Ji e 2 R
 refine Tv<|Jb 2 R<|Ju<|Jb2 (l:=[.tmp 4]) results245 (Jq2 R R) R ?_
 cases h
 exact⟨c,R,(g.stp d)⟩
theorem qp {p0:Int}{c p}{c0:VL}{j:Int}{k:Int}{c3:Sig}{m:Int}{d e f g i}(n:Rd Place.rp J w 0 c p c0) (t:Bc J w 0 d 80 [.slice c c0.length p]) (u:Bc J w 0 e 2 [vi j]) (v:Bc J w 0 f 2 [vi k]) (x:Bc J w 0 g 28 [vi c3.In,vi c3.Out]) (y:Bc J w 0 i 2 [vi m]){r:Bool}(h:iD p0 c0 j k c3 m=some r):Ret prog 48 [vi p0,.pointer (some ⟨d,0,none⟩),.pointer (some ⟨e,0,none⟩),.pointer (some ⟨f,0,none⟩),.pointer (some ⟨g,0,none⟩),.pointer (some ⟨i,0,none⟩)] w (Pvb J w r):=by
 unfold iD at h
 refine Jl3 J func48 R ntmps48 R λz=>Jf3 R<|Jq<|Js1 (J:=J) [0] none [(1,2),(0,0),(2,2),(3,2),(4,0),(5,0),(6,0),(7,0),(11,0),(8,1),(9,2),(10,2),(12,2),(13,2),(14,2)] [] (by kernel_rfl) (by kernel_rfl) λN a=>Jn 1 R<|Jg R (Jd2 isAgg80 R R<|hvC ((t.stp a).ld 0 R R) R)<|Ob h λO o h=>Jd3 R n o U80 Z88<|Je3 R U88 R Z2 ?_
 obtain⟨G,B,A⟩:=((n.stp a)).gSt o
 obtain⟨F,L,rfl,H⟩:=Place.un B
 refine Jg R (Jd2 I2 R R<|hvC (λE C=>A E C 0 _ R) R)<|Jg R (Jd2 I2 R R<|hvC ((u.stp a).ld 0 R R) R)<|Jg R (Jd2 I2 R R<|hvC ((v.stp a).ld 0 R R) R)<|Jg R (Jd4 (haC (x.stp a).cells R) I28 Z28 R)<|Jg R (Jd2 I2 R R<|hvC ((y.stp a).ld 0 R R) R)<|Ob h λP D h=>Js3 R call46 (eK (J:=Mk J) (p0:=c3) D) ?_
 rintro _ M ⟨I,rfl,s⟩
 obtain⟨q,b,K⟩:=Ji s 2 R
 refine⟨(b.cl R),Jn 5 R<|Jt1<|Jd<|Ju<|Jb2 (l:=[.tmp 7]) results48 (Jq2 R R) R ?_⟩
 cases h
 exact⟨q,R,(z.stp<|a.tr b)⟩
theorem ta {x F}{p0:VP}{p1:Int}(m:Rd Pair.rp J w 0 x F p0){r:Bool}(h:jU p0 p1=some r):Ret prog 185 [.slice x p0.length F,vi p1] w (Pvb J w r):=by
 unfold jU at h
 refine Jl3 J func185 R ntmps185 R λz=>Jf3 R<|Jq<|Jh3 [2,2,2] 1 R<|Jo3 R U69 R R<|Jb 1 R<|Ob h λE S A=>?_
 clear h
 refine Jp3 [0] (λj k o=>∃p,k=j/\Stp [2] J w p o/\E=Dv ()) ?_ ?_
 refine Jv<|Jq3 [0,1,7,8] (λc j k o=>∃p a,k=(9,vi a)::j/\Stp [2] J w p o/\0<=a/\Dq ((p0.length:Int)-a)=c/\cntM (iH p0 p1) c a ()=some E) ⟨_,_,⟨J,0,R,Jk3,(by decide),(by simp),S⟩,(KM R)⟩ ?_
 rintro c _ ar ⟨u,a,rfl,g,B,i,h⟩
 rcases c with _|c
 have b:=h;obtain⟨W,h⟩:=exq b
 have n:=dcf i
 refine Jf3 R<|Jq<|Jx2 R n<|Jc1<|Jt<|Jt ?_
 cases h
 have h:=b
 refine Jb1 ?_
 cases h
 exact Jw1 _ ⟨u,R,g.wk R,R⟩<|KM R
 obtain⟨W,h,b⟩:=BI h;unfold iH at h
 have n:=dct i
 refine Jf3 R<|Jq<|Jw2 R n<|Js<|Jp<|Jq<|Jv<|Je [2,1,1,1] R<|Ob h λau C h=>Jd3 R m C U69 Z127 ?_
 obtain⟨ad,T,Q⟩:=((m.stp g)).gSt C
 obtain⟨aa,ak,ab,al,rfl,N,O⟩:=Pair.un T
 refine Jc4 tv R (Jd4 (haE Q) I127 Z127 R)<|Ju3 u 2 R X127 R λac am q d M=>Tv<|Ji4 q 2 R Z127 R M R λan e y=>Tv<|Jd<|Je [2,1,2,1,2,2,2,1,2,1,2,2] R<|Je3 R U127 R Z37<|Jc3 R I37 (y.ld 0 R R)<|Jn 1 R<|Ob h λY U h=>Js3 R call195 (lF (J:=Mk q) (Jj3<|N.stp<|d.tr e) U) ?_
 rintro _ X ⟨ag,rfl,K⟩
 obtain⟨s,f,ai⟩:=Ji K 3 R
 refine Tv<|Jn 2 R<|Ob h λD h P=>Jg4 [0,1,7,8,9] 24 D s X [(6,2),(7,1),(8,2),(9,1),(10,2),(11,2)] [] tv ?_ ?_
 revert h
 cases ae:(!Y)
 refine JF λh=>Je3 R U127 R Z37<|Jc3 R I37 ((y.stp f).ld 1 R R)<|Jn 1 R<|Ob h λav V h=>Js3 R call195 (lF (J:=Mk s) (Jj3<|O.stp<|T3 d e f) V) ?_
 rintro _ ao ⟨ah,rfl,L⟩
 obtain⟨Z,H,aj⟩:=Ji L 5 R
 refine Tv<|Jn 2 R ?_
 cases h
 exact Jv1 _ tv ⟨R,_,H.wk R⟩<|KM R
 refine JT λh=>Jn 1 R<|Ja4 R<|Jn 1 R<|Ja4 R<|Jn 2 R ?_
 cases h
 exact Jh4 tv R
 rintro _ ap _ ⟨rfl,t,v⟩
 have h:=P
 refine Jd ?_
 revert h
 cases af:D
 refine JF λh=>Jy R<|Js<|Jz<|Jp<|Jg3 R<|wr2 B i m.len_le ▸ ?_
 cases h
 exact Ja2 ⟨t,a+1,R,(T5 g d e f v).wk R,nxz B,nxm i,b⟩ R
 refine JT λh=>Jx R<|Jf3 R<|Ju<|Ja1<|Jw<|Jw ?_
 cases h
 obtain rfl:=Option.some.inj b
 have h:=yL A
 refine Ja1<|Jr2<|Jw<|Jb2 (l:=[.tmp 4]) results185 (Jq2 R R) R ?_
 cases h
 exact⟨t,R,(z.stp<|T5 g d e f v)⟩
 rintro _ aq ⟨G,rfl,I,rfl⟩
 have h:=yI A
 refine Jp<|Jh3 [2,2,2,2] 1 R<|Jo3 R U69 R R<|Jb 2 R<|Ju<|Jb2 (l:=[.tmp 4]) results185 (Jq2 R R) R ?_
 cases h
 exact⟨G,R,(z.stp I)⟩
theorem sL {p0:Sig}  {r:Int}(h:kE p0=some r):Ret prog 129 [.agg #[vi p0.In,vi p0.Out]] w (Pvi J w r):=by
 unfold kE at h
 refine Jl3 J func129 R ntmps129 R λg=>Je [1,2] R<|Jt3 J 2 R λj n a c f=>Tv<|Jb 1 R<|Je [2,1,1,2] R<|Je3 R U28 R Z2<|Jc3 R I2 (f.ld 0 R R)<|Ob h λp i h=>Js3 R call62 (d9 (J:=Mk a) i) ?_
 rintro _ o ⟨k,rfl,e⟩
 obtain⟨b,d,m⟩:=Ji e 3 R
 refine Tv<|Jb 1 R<|Ju<|Jb2 (l:=[.tmp 2]) results129 (Jq2 R R) R ?_
 cases h
 exact⟨b,R,(g.stp<|c.tr d)⟩
theorem uR {T ac}{p0:VP}{U ad}{p1:VI}{p2:Int}(V:Rd Pair.rp J w 0 T ac p0) (N:Rd Ri J w 0 U ad p1){r:VI}(h:jZ p0 p1 p2=some r):Ret prog 134 [.slice T p0.length ac,.slice U p1.length ad,vi p2] w (Pvs E6 2 J w r):=by
 unfold jZ at h
 refine Jl3 J func134 R ntmps134 R λaP=>Jf3 R<|Je [1,2] R<|Jy3 J E6 2 R Y37 bS R λaq aB bi ag D aH=>Tv<|Jb 1 R<|Je [1,2] R<|Jy3 ag E6 3 R Y37 bS R λav au ae C s aN=>Tv<|Jb 1 R<|Jq<|Jf3 R<|Ob h λab aT aQ=>?_
 clear h
 refine Jx1 (λi a=>∃b,∃f:VI×VI,∃G K H I,i=[(7,.slice G f.1.length K),(8,.slice H f.2.length I)]/\Stp [2,3] C ae b a/\Oc E6 2 b a 2 G K f.1/\Oc E6 2 b a 3 H I f.2/\ab=Dv f) ?_ ?_
 refine Jv<|Jq3 [0,1,2] (λp A i a=>∃b g,∃c:VI×VI,∃j k n m,i=(7,.slice j c.1.length k)::(8,.slice n c.2.length m)::(9,vi g)::A/\Stp [2,3] C ae b a/\Oc E6 2 b a 2 j k c.1/\Oc E6 2 b a 3 n m c.2/\0<=g/\Dq ((p1.length:Int)-g)=p/\cntM (fQ p0 p1 p2) p g c=some ab) ⟨_,_,⟨C,0,(([]:VI),([]:VI)),aq,aB,av,au,R,Jk3,(aH.stp s),aN,(by decide),(by simp),aT⟩,(KM R)⟩ ?_
 rintro p _ bk ⟨P,g,c,j,k,n,m,rfl,q,L,M,W,y,h⟩
 rcases p with _|p
 have z:=h;obtain⟨a0,h⟩:=exq z
 have O:=dcf y
 refine Jq<|Jh3 [2,2,2,2] 2 R<|Jo3 R U37 R R<|Jb 1 R<|Jx2 R O<|Jc1<|Jt<|Jt ?_
 cases h
 have h:=z
 refine Jb1 ?_
 cases h
 exact Jw1 _ ⟨P,(c.1,c.2),j,k,n,m,R,q.wk R,L,M,R⟩<|KM R
 obtain⟨a0,h,z⟩:=BI h;unfold fQ at h
 have O:=dct y
 refine Jq<|Jh3 [2,2,2,2] 2 R<|Jo3 R U37 R R<|Jb 1 R<|Jw2 R O<|Js<|Jp<|Jq<|Jv<|Jh3 [2,2,2,2,1,2,2,1,2,1] 3 R<|Ob h λbr X h=>Jd3 R N X U37 Z2 ?_
 have o:=N.stp (T3 D s q)
 refine Jc3 R I2 (o.gInt X)<|Ob h λbs Y h=>Jd3 R V Y U69 Z127<|Je3 R U127 R Z37 ?_
 obtain⟨bb,aU,aS⟩:=((V.stp (T3 D s q))).gSt Y
 obtain⟨a8,bg,a9,bh,rfl,bc,aO⟩:=Pair.un aU
 refine Jc3 R I37 (λa aV=>aS a aV 1 _ R)<|Jn 1 R<|Ob h λa2 aW h=>Js3 R call197 (oh (J:=Mk P) (Jj3 aO) aW) ?_
 rintro _ a1 ⟨be,rfl,aC⟩
 obtain⟨B,d,bf⟩:=Ji aC 4 R
 refine Tv<|Jd<|Ob h λe h aR=>Jp3 [0,1,2,9] (λA i a=>∃b x u t v,i=(7,.slice x e.1.length u)::(8,.slice t e.2.length v)::A/\Stp [2,3] B a1 b a/\Oc E6 2 b a 2 x u e.1/\Oc E6 2 b a 3 t v e.2) ?_ ?_
 revert h
 cases bd:a2
 refine JF λh=>Jy R<|Ji3 [2,2,2,2,1,1,1,2] 3 R<|Ob h λa4 aa h=>Jd3 R o aa U37 Z2<|Jc3 R I2 ((o.stp d).gInt aa)<|Je4 B 6 [a4] R Y37 bS R λba a7 bo ak F aK=>Tv<|Ob h λbu aY h=>Jz3 ak E6 3 [] R Y37 bS R (M.stp<|d.tr F) (Du (cc _) aK.rdc) bV aY R λaw ar bp al S aL=>Tv<|Jc 1 R ?_
 cases h
 exact Jw1 _ ⟨al,j,k,aw,ar,R,(F.tr S).wk R,(L.stp<|T3 d F S),aL⟩<|KM R
 refine JT λh=>Jx R<|Ji3 [2,2,2,2,1,1,1,2] 3 R<|Ob h λa3 Z h=>Jd3 R o Z U37 Z2<|Jc3 R I2 ((o.stp d).gInt Z)<|Je4 B 6 [a3] R Y37 bS R λa6 a5 bm ai E aI=>Tv<|Ob h λbt aX h=>Jz3 ai E6 2 [] R Y37 bS R (L.stp<|d.tr E) (Du (cc _) aI.rdc) bV aX R λaA ay bn aj Q aJ=>Tv<|Jc 1 R ?_
 cases h
 exact Jw1 _ ⟨aj,aA,ay,n,m,R,(E.tr Q).wk R,aJ,(M.stp<|T3 d E Q)⟩<|KM R
 rintro _ bl ⟨ah,x,u,t,v,rfl,ao,aF,aG⟩
 have h:=aR
 refine Jz<|Jp<|Jg3 R<|wr2 W y N.len_le ▸ ?_
 cases h
 exact Ja2 ⟨ah,g+1,(e.1,e.2),x,u,t,v,R,(T3 q d ao).wk R,aF,aG,nxz W,nxm y,z⟩ R
 rintro _ bj ⟨af,f,G,K,H,I,rfl,an,aD,aE,rfl⟩
 have h:=yI aQ
 refine Jp<|Jh3 [2,2,1,2] 2 R<|Ob h λbv aZ h=>Jz3 af E6 2 [] R Y37 bS R aD (Du (cc _) aE.rdc) bV aZ R λax az bq am ap aM=>Tv<|Jb 1 R<|Ju<|Jb2 (l:=[.tmp 6]) results134 (Jq2 R R) R ?_
 cases h
 exact⟨am,ax,az,R,(aP.stp<|T4 D s an ap),aM⟩
theorem pg {C D y z v u x t B A}{p0:l7Game}{s Q}{p1:VB}{p2:Int}(ab:Rd Ri J w 0 C D p0.owner) (ac:Rd Ri J w 0 y z p0.prio) (F:Rd Rs J w 0 v u p0.next) (ad:Rd Rs J w 0 x t p0.prev) (ae:Rd Ri J w 0 B A p0.pick) (G:Rd Rp.bool J w 0 s Q p1){r:Int}(h:jb p0 p1 p2=some r):Ret prog 249 [.agg #[.slice C p0.owner.length D,.slice y p0.prio.length z,.slice v p0.next.length u,.slice x p0.prev.length t,.slice B p0.pick.length A],.slice s p1.length Q,vi p2] w (Pvi J w r):=by
 unfold jb at h
 refine Jl3 J func249 R ntmps249 R λaf=>Je [1,2] R<|Jt3 J 2 R λaw S n g aa=>Tv<|Jb 1 R<|Jf3 R<|Jq<|Jf3 R<|Ob h λO al ai=>?_
 clear h
 refine Jx1 (λc d=>∃e,∃q:Int×Int,c=[(7,vi q.1)]/\Stp [] n S e d/\O=Dv q) ?_ ?_
 refine Jv<|Jq3 [1,2,3] (λj k c d=>∃e,∃a:Int×Int,c=(7,vi a.1)::(8,vi a.2)::k/\Stp [] n S e d/\cd (iU p0 p1 p2) j a=some O) ⟨_,_,⟨n,((0:Int),(0:Int)),R,Jk3,al⟩,(KM R)⟩ ?_
 rintro j _ an ⟨m,a,rfl,b,h⟩
 rcases j with _|j
 cases h
 obtain⟨aD,h,H⟩:=BI h;unfold iU at h
 refine Jq<|Jh3 [2,2,1,2,2,1,2,2] 1 R<|Je3 R U210 R Z31 ?_
 have p:=aa.stp b
 refine Jc3 R I31 (p.ld 2 R R)<|Jn 1 R<|Ob h λap I h=>Jd3 R F I U31 Z37 ?_
 have i:=F.stp (g.tr b)
 obtain⟨au,aE,ax,aj⟩:=i.gSl I
 refine Jc3 R I37 aj<|Jo3 R U37 R R<|Jb 1 R ?_
 revert h
 cases ay:decide (a.2<(ap.length:Int))
 refine JF λh=>Jy R<|Jc1<|Jt<|Jt ?_
 cases h
 have h:=H
 refine Jb1 ?_
 cases h
 exact Jw1 _ ⟨m,(a.1,a.2),R,b.wk R,R⟩<|KM R
 refine JT λh=>Jx R<|Js<|Jp<|Jq<|Jv<|Je [2,1,2,2,1,2,2,1,2] R<|Je3 R U210 R Z31<|Jc3 R I31 (p.ld 2 R R)<|Jn 1 R<|Ob h λaJ K h=>Jd3 R i K U31 Z37 ?_
 obtain⟨av,aF,E,ak⟩:=i.gSl K
 refine Jc3 R I37 ak<|Jn 1 R<|Ob h λaK L h=>Jd3 R E L U37 Z2<|Jc3 R I2 (E.gInt L)<|Jb 1 R<|Jh3 [2,2,2,1,2,1,2,2,1,2] 2 R<|Ob h λaq M h=>Jd3 R G M U178 Z4<|Jc3 R I4 ((G.stp<|g.tr b).gBool M)<|Jn 1 R<|Ob h λN h ag=>Jg4 [1,2,3,7,8] 37 N m an [(5,1),(6,2),(7,2),(8,1),(9,2)] [] tv ?_ ?_
 revert h
 cases az:aq
 refine JF λh=>Ja4 R<|Jn 2 R<|Ja4 R<|Jn 1 R ?_
 cases h
 exact Jh4 tv R
 have f:=(g.tr b)
 refine JT λh=>Jc4 tv R (Jd4 (haE p.cells) I210 Z210 R)<|Jn 2 R<|Ob h λaL am h=>Js3 R call269 (qO (J:=Mk m) (p0:=p0) (Jj3<|ab.stp f) (Jj3<|ac.stp f) (Jj3 i) (Jj3<|ad.stp f) (Jj3<|ae.stp f) am) ?_
 rintro _ aG ⟨aB,rfl,Z⟩
 obtain⟨ar,W,aC⟩:=Ji Z 3 R
 refine Tv<|Jn 1 R ?_
 cases h
 exact Jv1 _ tv ⟨R,_,W.wk R⟩<|KM R
 rintro _ ao _ ⟨rfl,o,X⟩
 have h:=ag
 refine Jd<|Ob h λP h ah=>Jp3 [1,2,3,8] (λk c d=>∃e,c=(7,vi P)::k/\Stp [] o ao e d) ?_ ?_
 revert h
 cases aA:N
 refine JF λh=>Jy R<|Js ?_
 cases h
 exact Jw1 _ ⟨o,R,Jk3⟩<|KM R
 refine JT λh=>Jx R<|Jg3 R ?_
 cases h
 exact Jw1 _ ⟨o,R,Jk3⟩<|KM R
 rintro _ aH ⟨T,rfl,Y⟩
 have h:=ah
 refine Jz<|Jp<|Jg3 R ?_
 cases h
 exact Ja2 ⟨T,(P,((Dr .i64<|a.2+1):Int)),R,(T3 b X Y).wk R,H⟩ R
 rintro _ aI ⟨U,q,rfl,V,rfl⟩
 have h:=yI ai
 refine Jp<|Jf3 R<|Ju<|Jb2 (l:=[.tmp 6]) results249 (Jq2 R R) R ?_
 cases h
 exact⟨U,R,(af.stp<|g.tr V)⟩
theorem xx {D E z A x v y u C B}{p0:l7Game}{t M}{p1:VB}(ag:Rd Ri J w 0 D E p0.owner) (F:Rd Ri J w 0 z A p0.prio) (ah:Rd Rs J w 0 x v p0.next) (ai:Rd Rs J w 0 y u p0.prev) (aj:Rd Ri J w 0 C B p0.pick) (p:Rd Rp.bool J w 0 t M p1){r:Int}(h:qi p0 p1=some r):Ret prog 270 [.agg #[.slice D p0.owner.length E,.slice z p0.prio.length A,.slice x p0.next.length v,.slice y p0.prev.length u,.slice C p0.pick.length B],.slice t p1.length M] w (Pvi J w r):=by
 unfold qi at h
 refine Jl3 J func270 R ntmps270 R λX=>Je [1,2] R<|Jt3 J 2 R λaf N n o W=>Tv<|Jb 1 R<|Jf3 R<|Jq<|Jf3 R<|Ob h λK aa Z=>?_
 clear h
 refine Jx1 (λb e=>∃f s,b=[(5,vi s)]/\Stp [] n N f e/\K=Dv s) ?_ ?_
 refine Jv<|Jq3 [1,2] (λd m b e=>∃f a k,b=(5,vi k)::(6,vi a)::m/\Stp [] n N f e/\0<=a/\Dq ((p1.length:Int)-a)=d/\cntM (mc p0 p1) d a k=some K) ⟨_,_,⟨n,0,((-1):Int),R,Jk3,(by decide),(by simp),aa⟩,(KM R)⟩ ?_
 rintro d _ ad ⟨g,a,k,rfl,c,G,i,h⟩
 rcases d with _|d
 have j:=h;obtain⟨ac,h⟩:=exq j
 have q:=dcf i
 refine Jq<|Jh3 [2,2,2,2] 2 R<|Jo3 R U178 R R<|Jb 1 R<|Jx2 R q<|Jc1<|Jt<|Jt ?_
 cases h
 have h:=j
 refine Jb1 ?_
 cases h
 exact Jw1 _ ⟨g,k,R,c.wk R,R⟩<|KM R
 obtain⟨ac,h,j⟩:=BI h;unfold mc at h
 have q:=dct i
 refine Jq<|Jh3 [2,2,2,2] 2 R<|Jo3 R U178 R R<|Jb 1 R<|Jw2 R q<|Js<|Jp<|Jq<|Jv<|Jh3 [2,2,2,1] 2 R<|Ob h λae H h=>Jd3 R p H U178 Z4<|Jc3 R I4 ((p.stp<|o.tr c).gBool H)<|Jd<|Ob h λL h Y=>Jp3 [1,2,6] (λm b e=>∃f,b=(5,vi L)::m/\Stp [] g ad f e) ?_ ?_
 revert h
 cases ak:ae
 refine JF λh=>Jy R<|Js ?_
 cases h
 exact Jw1 _ ⟨g,R,Jk3⟩<|KM R
 refine JT λh=>Jx R<|Ji3 [2,2,1,2,2,1,1,2] 1 R<|Je3 R U210 R Z37<|Jc3 R I37 ((W.stp c).ld 1 R R)<|Jn 1 R<|Ob h λaq I h=>Jd3 R F I U37 Z2<|Jc3 R I2 ((F.stp<|o.tr c).gInt I)<|Ob h λar ab h=>Js3 R call247 (nv (J:=Mk g) ab) ?_
 rintro _ ao ⟨al,rfl,V⟩
 obtain⟨P,U,am⟩:=Ji V 3 R
 refine Tv<|Jc 1 R ?_
 cases h
 exact Jw1 _ ⟨P,R,U.wk R⟩<|KM R
 rintro _ an ⟨O,rfl,T⟩
 have h:=Y
 refine Jz<|Jp<|Jg3 R<|wr2 G i p.len_le ▸ ?_
 cases h
 exact Ja2 ⟨O,a+1,L,R,(c.tr T).wk R,nxz G,nxm i,j⟩ R
 rintro _ ap ⟨Q,s,rfl,S,rfl⟩
 have h:=yI Z
 refine Jp<|Jf3 R<|Ju<|Jb2 (l:=[.tmp 4]) results270 (Jq2 R R) R ?_
 cases h
 exact⟨Q,R,(X.stp<|o.tr S)⟩
theorem gB (n:Nat):∀{w:World}{J:Col}{p0:Int}{G Q}{p1:VV}{x y}{m:VI}{f j}{c0:VB}{H S}{l:VB}{g z A B}(L:Rd Rs J w 0 G Q p1) (aa:Oc E6 2 J w 2 x y m) (M:Oc Do 4 J w 3 f j c0) (N:Rd Rp.bool J w 0 H S l) (ab:Bc J w 4 g 37 [.slice x m.length y]) (D:Bc J w 0 z 178 [.slice f c0.length j]) (ac:Bc J w 0 A 178 [.slice H l.length S]) (ad:Bc J w 0 B 226 [.func (.func 218) #[] #[.pointer (some ⟨z,0,none⟩),.pointer (some ⟨A,0,none⟩),.pointer (some ⟨B,0,none⟩)]]){r:VI×VB}(h:ca n p0 p1 m c0 l=some r),Ret prog 218 [vi p0,.slice G p1.length Q,.func (.func 219) #[] #[.pointer (some ⟨g,0,none⟩)],.pointer (some ⟨z,0,none⟩),.pointer (some ⟨A,0,none⟩),.pointer (some ⟨B,0,none⟩)] w (λbg a=>∃(b:Col) (av:Option Addr) (aw:Nat),bg= .tuple #[]/\Ent J w b a/\Oc E6 2 b a 2 av aw r.1/\Oc Do 4 b a 3 f j r.2/\c0.length=r.2.length/\Bc b a 4 g 37 [.slice av r.1.length aw]):=by
 induction n with
 |zero=>
  intro w J p0 G Q p1 x y m f j c0 H S l g z A B L aa M N ab D ac ad r h
  cases h
 |succ n be=>
  intro w J p0 G Q p1 x y m f j c0 H S l g z A B L aa M N ab D ac ad r h
  have h:cv (ca n) p0 p1 m c0 l=some r:=h
  unfold cv at h
  refine Jl3 J func218 R ntmps218 R λa1=>Je [1,2,2,1] R<|Jc3 R I178 (D.ld 0 R R)<|Jn 1 R<|Ob h λbu bb h=>Jd3 R M.rdc bb U178 Z4<|Ob h λaB ar h=>Jk1 (J:=J) (E:=Do) 3 [] R R R R R R R R Z4 R R R R M ar λaz T e aS=>Tv<|?_
  have a8:c0.length=aB.length:=(Ju2 ar).2.2.2.symm
  refine Jd<|Jq<|Jh3 [2,2,2,1,2,2] 2 R<|Ob h λaA an h=>Jd3 R L an U31 Z37 ?_
  have al:=L.stp e
  obtain⟨bk,bp,Z,a5⟩:=al.gSl an
  refine Jc3 R I37 a5<|Jo3 R U37 R R<|Jb 1 R<|Ob h λay ba a2=>?_
  clear h
  refine Jp3 [0,2,3,4,5] (λo t a=>∃b,∃q:VI×VB,∃V W,t=o/\Stp [2,3,4,7,8,9] T az b a/\Oc E6 2 b a 2 V W q.1/\Oc Do 4 b a 3 f j q.2/\c0.length=q.2.length/\Bc b a 4 g 37 [.slice V q.1.length W]/\ay=Dv q) ?_ ?_
  refine Jv<|Jq3 [0,1,2,3,4,5,17,18] (λF o t a=>∃b s,∃i:VI×VB,∃v u,t=(19,vi s)::o/\Stp [2,3,4,7,8,9] T az b a/\Oc E6 2 b a 2 v u i.1/\Oc Do 4 b a 3 f j i.2/\c0.length=i.2.length/\Bc b a 4 g 37 [.slice v i.1.length u]/\0<=s/\Dq ((aA.length:Int)-s)=F/\cntM (cu (ca n) p1 l aA) F s i=some ay) ⟨_,_,⟨T,0,(m,aB),x,y,R,Jk3,(aa.stp e),aS,a8,(ab.stp e),(by decide),(by simp),ba⟩,(KM R)⟩ ?_
  rintro F _ bh ⟨ag,s,i,v,u,rfl,d,X,C,E,Y,am,O,h⟩
  rcases F with _|F
  have P:=h;obtain⟨bf,h⟩:=exq P
  have ae:=dcf O
  refine Jf3 R<|Jq<|Jx2 R ae<|Jc1<|Jt<|Jt ?_
  cases h
  have h:=P
  refine Jb1 ?_
  cases h
  exact Jw1 _ ⟨ag,(i.1,i.2),v,u,R,d.wk R,X,C,E,Y,R⟩<|KM R
  obtain⟨bf,h,P⟩:=BI h;unfold cu at h
  have ae:=dct O
  refine Jf3 R<|Jq<|Jw2 R ae<|Js<|Jp<|Jq<|Jv<|Je [2,1,2] R<|Ob h λbv ao h=>Jd3 R Z ao U37 Z2<|Jc3 R I2 ((Z.stp d).gInt ao)<|Jb 1 R<|Je [1,2,2,1,2,1,2,2,1,2,2] R ?_
  have ai:=ac.stp (e.tr d)
  refine Jc3 R I178 (ai.ld 0 R R)<|Jn 1 R<|Ob h λbj ap h=>Jd3 R N ap U178 Z4 ?_
  have aj:=N.stp (e.tr d)
  refine Jc3 R I4 (aj.gBool ap)<|Jn 1 R<|Ob h λax h a3=>Jg4 [0,1,2,3,4,5,10,17,18,19] 33 ax ag bh [(5,1),(6,2),(7,2),(8,1),(9,2),(10,2)] [] tv ?_ ?_
  revert h
  cases bl:bj
  refine JF λh=>Ja4 R<|Jn 2 R<|Ja4 R<|Jn 2 R ?_
  cases h
  exact Jh4 tv R
  refine JT λh=>Jc3 R I178 ((D.stp<|e.tr d).ld 0 R R)<|Jn 1 R<|Ob h λbw aq h=>Jf R (Jg2 C.rdc aq U178 Z4 R R E R)<|Jc3 R I4 (C.rdc.gBool aq)<|Jn 2 R ?_
  cases h
  exact Jh4 tv R
  rintro _ bi _ ⟨rfl,U,c⟩
  have h:=a3
  refine Jd<|Ob h λp h a4=>Jp3 [0,1,2,3,4,5,17,18,19] (λo t a=>∃b I K,t=o/\Stp [2,3,4,7,8,9] U bi b a/\Oc E6 2 b a 2 I K p.1/\Oc Do 4 b a 3 f j p.2/\c0.length=p.2.length/\Bc b a 4 g 37 [.slice I p.1.length K]) ?_ ?_
  revert h
  cases bm:ax
  refine JF λh=>Jy R<|Js ?_
  cases h
  exact Jw1 _ ⟨U,v,u,R,Jk3,(X.stp c),(C.stp c),E,(Y.stp c)⟩<|KM R
  refine JT λh=>Jx R<|Ja [1,2,2,2,1] R ?_
  have ak:=ad.stp (T3 e d c)
  refine Jc3 R isAgg226 (ak.ld 0 R R)<|Jn 3 R<|Ob h λbx bc h=>WO.callV R R R R R R R R call218 (be (J:=λk=>mp [(2,2),(3,3),(4,4)] 0<|U k) (Jm2 (al.stp<|d.tr c) (mp [(2,2),(3,3),(4,4)] 0) R R) ((X.stp c).map (mp [(2,2),(3,3),(4,4)] 0) R R) ((C.stp c).map (mp [(2,2),(3,3),(4,4)] 0) R R) (Jm2 (aj.stp c) (mp [(2,2),(3,3),(4,4)] 0) R R) ((Y.stp c).map (mp [(2,2),(3,3),(4,4)] 0) R R) (Bc.cast ((D.stp<|T3 e d c).map (mp [(2,2),(3,3),(4,4)] 0) R R) (by simp only[E])) ((ai.stp c).map (mp [(2,2),(3,3),(4,4)] 0) R R) (ak.map (mp [(2,2),(3,3),(4,4)] 0) R R) bc) ?_
  rintro _ bs ⟨bn,aM,aJ,rfl,aN,aW,aX,a9,aY⟩
  obtain⟨aE,aI,af⟩:=Ji aN 5 R
  refine Tv<|Jo ?_
  cases h
  exact Jw1 _ ⟨(λk=>ren [(7,2),(8,3),(9,4)]<|aE k),aM,aJ,R,(Jz2 (aI.wk R) [(7,2),(8,3),(9,4)] R),((aW.mx (bZ _) af R (R:5+2=7)).map (ren [(7,2),(8,3),(9,4)]) R R),((aX.mx dA af R (R:5+3=8)).map (ren [(7,2),(8,3),(9,4)]) R R),(E.trans a9),((aY.mx af R (R:5+4=9)).map (ren [(7,2),(8,3),(9,4)]) R R)⟩<|KM R
  rintro _ br ⟨aD,I,K,rfl,aH,aT,aU,a7,aV⟩
  have h:=a4
  refine Jz<|Jp<|Jg3 R<|wr2 am O Z.len_le ▸ ?_
  cases h
  exact Ja2 ⟨aD,s+1,(p.1,p.2),I,K,R,(T3 d c aH).wk R,aT,aU,a7,aV,nxz am,nxm O,P⟩ R
  rintro _ bq ⟨aC,q,V,W,rfl,aG,aP,aQ,a6,aR,rfl⟩
  have h:=yI a2
  refine Jp<|Ji3 [2,2,1] 2 R<|Ob h λbz bd h=>WO.callV R R R R R R R R call219 (rV (J:=λk=>mp [(2,2),(4,3)] 0<|aC k) (aP.map (mp [(2,2),(4,3)] 0) R R) (aR.map (mp [(2,2),(4,3)] 0) R R) bd) ?_
  rintro _ bt ⟨bo,aL,aK,rfl,aO,aZ,a0⟩
  obtain⟨aF,ah,au⟩:=Ji aO 5 R
  refine Tv<|Jo<|DN.end0 results218 ?_
  cases h
  exact⟨(λk=>ren [(7,2),(8,4)]<|aF k),aL,aK,R,((a1.stp<|T3 e aG ah).map (ren [(7,2),(8,4)]) R R),((aZ.mx (bZ _) au R (R:5+2=7)).map (ren [(7,2),(8,4)]) R R),((aQ.stp ah).map (ren [(7,2),(8,4)]) R R),a6,((a0.mx au R (R:5+3=8)).map (ren [(7,2),(8,4)]) R R)⟩
end
end Go.Proofs.YtleekpaohfpooaaGreat
