/- The walks, part 7. By program. -/
import Derived.Test.YtfombamjdkihnaaGreatFns6EI
set_option linter.unusedVariables false
set_option linter.unusedSimpArgs false
open Go.Wk.Ep renaming fz → EZ
open Int renaming toNat → ES
open Go.IntKind renaming wrap → ET
open Option.some renaming inj → EU
open Go.Wk.Ow renaming nil → EY
open Go.Wk.Sl renaming srcP → EV
open Sum renaming inr → EW
namespace Go.Proofs.YtfombamjdkihnaaGreat
open Tryz
open Go Go.Wk Go.Proofs
set_option maxRecDepth 100000
set_option maxHeartbeats 1000000
section
variable {w:World}{J:Col}
theorem dK {a c}{p0:VC}{c1_0:Sig}{b}(f:Rd Clause.rp J w 0 a c p0) (g:Bc J w 0 b 28 [vi c1_0.In,vi c1_0.Out]){r:Bool}(h:bY p0 c1_0=some r):Ret prog 100 [.slice a p0.length c,.func (.func 101) #[] #[.pointer (some ⟨b,0,none⟩)]] w (Pvb J w r):=by
 exact Jp3 J func100 R ntmps100 R λi=>Jf3 R<|Jl3 2 R<|Ob h λ_ e h=>Jw3 R call156 (dR (J:=Mk J) (c1_0:=c1_0) Gct Fct e)<|Ki λ_ d _=>Tv<|Jb 2 R<|Ju<|Jb2 (l:=[.tmp 4]) results100 (Jq2 R R) R<|Oh h<|⟨d,R,Fct⟩
theorem eS {aS aR aO aN}{p0:Arena}{aw av}{p1:Place}{aM aT}{ae:VP}{ax}(a4:Rd Ri J w 0 aS aR p0.Owner) (a5:Rd Rs J w 0 aO aN p0.Next) (df:Rd Ri J w 0 aw av p1.Record) (dh:Rd Pair.rp J w 0 aM aT ae) (di:Bc J w 0 ax 56 [.slice aM ae.length aT]){r:Parity×VL×Bool}(h:cA p0 p1 ae=some r):Ret prog 60 [.agg #[.slice aS p0.Owner.length aR,.slice aO p0.Next.length aN],.agg #[vi p1.At,.slice aw p1.Record.length av],.func (.func 61) #[] #[.pointer (some ⟨ax,0,none⟩)],.func (.func 63) #[] #[.pointer (some ⟨ax,0,none⟩)]] w (λcV a=>∃b be bi bf bj bg bk bh bl,cV= .tuple #[.agg #[.slice be r.1.Arena.Owner.length bi,.slice bf r.1.Arena.Next.length bj,.slice bg r.1.Prio.length bk],.slice bh r.2.1.length bl,.bool r.2.2]/\Ent J w b a/\Oc E6 2 b a 2 be bi r.1.Arena.Owner/\Oc (EZ Rs) 31 b a 3 bf bj r.1.Arena.Next/\Oc E6 2 b a 4 bg bk r.1.Prio/\Oc (EZ Place.rp) 76 b a 5 bh bl r.2.1):=by
 unfold cA at h
 refine Jp3 J func60 R ntmps60 R λdj=>Jj3<|Jx3 J 2 R λ_ _ bD aK cp=>Tv<|Jx3 bD 3 R λ_ _ bE aq ct=>Tv<|Jy3 bE 4 R X66 R λ_ _ bq F _=>Tv<|Jb 2 R<|Jj3<|Jg4 tv R (Jh4 (haE (ct.stp F).cells) I76 Z76 R)<|Jb4 bq (EZ Place.rp) 5 [] (parts:=[(0,.tmp 20)]) (cells:=[vi p1.At,.slice aw p1.Record.length av]) (xs:=([p1]:VL)) R Y67 fH R (Jj4<|Place.mk_rel<|Sl.z1 Fct) λb3 bZ _ bA am _=>Tv<|Jb 1 R<|Jj3<|Jf R (Jn4 [.slice none 0 0,.slice none 0 0,.slice none 0 0] R)<|Jy3 bA 6 R X66 R λaU _ E ao cm=>Tv<|Jm4 E 6 R Z66 R cm R λbm ap cn=>Tv<|Jd<|Jq<|Jf3 R<|Ob h λbc cD a7=>?_
 clear h
 refine Jt3 [2,3,8,12] (λf g a=>∃b,∃e:VL×Int×VI×VV×VI,∃I T Q N aa ab U M,g=(11,.slice I e.1.length T)::f/\Stp [5,6,7,8,9,10,14,17,18,25,26,27] E bm b a/\Oc (EZ Place.rp) 76 b a 5 I T e.1/\Oc E6 2 b a 7 Q N e.2.2.1/\Oc (EZ<|Rs) 31 b a 8 aa ab e.2.2.2.1/\Oc E6 2 b a 9 U M e.2.2.2.2/\Bc b a 6 aU 66 [.slice Q e.2.2.1.length N,.slice aa e.2.2.2.1.length ab,.slice U e.2.2.2.2.length M]/\bc=EW e) (Jv<|Ju3 [2,3,4,8,12] (λd f g a=>∃b,∃c:VL×Int×VI×VV×VI,∃A z O L X ac P ad,g=(11,.slice A c.1.length z)::(13,vi c.2.1)::f/\Stp [5,6,7,8,9,10,14,17,18,25,26,27] E bm b a/\Oc (EZ Place.rp) 76 b a 5 A z c.1/\Oc E6 2 b a 7 O L c.2.2.1/\Oc (EZ<|Rs) 31 b a 8 X ac c.2.2.2.1/\Oc E6 2 b a 9 P ad c.2.2.2.2/\Bc b a 6 aU 66 [.slice O c.2.2.1.length L,.slice X c.2.2.2.1.length ac,.slice P c.2.2.2.2.length ad]/\bQ (bS p0 ae) d c=some bc) ⟨_,_,⟨E,((([p1]:VL):VL),(0:Int),([]:VI),([]:VV),([]:VI)),b3,bZ,none,0,none,0,none,0,R,Jo3,Fct,EY,EY,EY,cn,cD⟩,(KM R)⟩ ?_) ?_
 rintro d _ _ ⟨aG,c,A,z,O,L,X,ac,P,ad,rfl,H,ay,aW,aX,aY,aZ,h⟩
 rcases d with _|d
 cases h
 obtain⟨_,h,aA⟩:=BI h;unfold bS at h
 refine Jq<|Jl3 2 R<|Js3 R U67 R R<|Jb 1 R ?_
 refine Bk h (λcI h=>Jy R<|Jc1<|Jt<|Jt ?_) (λcI h=>Jx R<|Js<|Jp<|Jq<|Jv<|Jl3 2 R<|Ob h λbo a8 h=>Jd3 R ay.rdc a8 U67 Z76 ?_)
 cases h
 have h:=aA
 exact Jb1<|Oh h<|Jw1 _ ⟨aG,(c.1,c.2.1,c.2.2.1,c.2.2.2.1,c.2.2.2.2),A,z,O,L,X,ac,P,ad,R,Fct,ay,aW,aX,aY,aZ,R⟩<|KM R
 obtain⟨_,cF,cB⟩:=Ow.gZS ay a8
 obtain⟨c4,dk,rfl,de⟩:=Place.un cF
 refine Jg4 tv R (Jh4 (haE cB) I76 Z76 R)<|Jy3 aG 10 R zeroValue76 R λ_ _ aH s cq=>Tv<|Jm4 aH 10 R Z76 R cq R λ_ t a0=>Tv<|Jd<|Jl3 1 R<|Jg4 tv R (Jh4 (haE a0.cells) I76 Z76 R)<|Ob h λcZ cK h=>WO.callV R R R R R R R R call61 (sv (J:=Mk aH) (p0:=bo) Gct Gct Fct cK) ?_
 rintro _ _ ⟨_,db,c6,rfl,b8,cr⟩
 refine Im b8 11 R (λbF n cT=>Tv<|Jb 1 R<|Jj3<|Jc4 bF E6 14 R Y31 bG R λbW b1 bn ai i cs=>Tv<|Jb 1 R<|Jq<|Jj3<|Je3 R U62 R Z32 ?_)
 have a1:=cp.stp (T10 aq F am ao ap H s t n i)
 refine Jc3 R I32 (a1.ld 1 R R)<|Je3 R U76 R Z2 ?_
 have a2:=a0.stp (n.tr i)
 refine Jc3 R I2 (a2.ld 0 R R)<|Ob h λbp a9 h=>Jd3 R a5 a9 U32 Z31 ?_
 obtain⟨_,_,az,cz⟩:=(a5.stp (T11 aK aq F am ao ap H s t n i)).gSl a9
 refine Jc3 R I31 cz<|Js3 R U31 R R<|Jb 1 R<|Ob h λbd cE cx=>?_
 clear h
 refine Jt3 [2,3,4,8,12,13,14] (λf g a=>∃b,∃p:VL×VI,∃Y V ar au,g=(11,.slice Y p.1.length V)::(16,.slice ar p.2.length au)::f/\Stp [5,14,17,18] ai bn b a/\Oc (EZ Place.rp) 76 b a 5 Y V p.1/\Oc E6 2 b a 14 ar au p.2/\bd=EW p) (Jv<|Ju3 [2,3,4,8,12,13,14,15,42,43] (λd f g a=>∃b k,∃j:VL×VI,∃C B K Z,g=(11,.slice C j.1.length B)::(16,.slice K j.2.length Z)::(44,vi k)::f/\Stp [5,14,17,18] ai bn b a/\Oc (EZ Place.rp) 76 b a 5 C B j.1/\Oc E6 2 b a 14 K Z j.2/\0<=k/\ES ((bp.length:Int)-k)=d/\cntM (bU cZ bp) d k j=some bd) ⟨_,_,⟨ai,0,(c.1,([]:VI)),A,z,bW,b1,R,Jo3,Fct,cs,(by decide),(by simp),cE⟩,(KM R)⟩ ?_) ?_
 rintro d _ _ ⟨aI,k,j,C,B,K,Z,rfl,aL,a3,cu,cy,a6,h⟩
 rcases d with _|d
 have af:=h;obtain⟨cU,h⟩:=exq af
 have v:=dcf a6
 refine Jf3 R<|Jq<|Jx2 R v<|Jc1<|Jt<|Jt ?_
 cases h
 have h:=af
 exact Jb1<|Oh h<|Jw1 _ ⟨aI,(j.1,j.2),C,B,K,Z,R,Fct,a3,cu,R⟩<|KM R
 obtain⟨cU,h,af⟩:=BI h;unfold bU at h
 have v:=dct a6
 refine Jf3 R<|Jq<|Jw2 R v<|Js<|Jp<|Jq<|Jv<|Jj3<|Ob h λag ba h=>Jd3 R az ba U31 Z2<|Jc3 R I2 ((az.stp aL).gInt ba)<|Jb 1 R<|Jl3 3 R<|Ob h λdl cL h=>?_
 have cv:=(cr.mx (bI _) cT R (R:11+2=13)).stp (i.tr aL)
 refine Jw3 R call107 (vG (J:=Mk aI) (Jn3 a3.rdc) Gct cL)<|Ki λcY ak bL=>Tv<|Jb 1 R<|Jq<|Jf3 R<|Ob h λD h cw=>Jt3 [2,3,4,8,12,13,14,15,16,42,43,44] (λf g a=>∃b S W,g=(11,.slice S D.1.length W)::(19,vi D.2)::f/\Stp [5,17,18] ak cY b a/\Oc (EZ Place.rp) 76 b a 5 S W D.1) ?_ ?_
 refine Bk h (λcG h=>Jy R<|Js<|Oh h<|Jw1 _ ⟨ak,C,B,R,Jo3,Fct⟩<|KM R) (λcG h=>Jx R<|Jl3 1 R<|Js3 R U67 R R<|Jb 1 R<|Jm3 2 R<|Jc4 ak E6 17 R Y31 bG R λc5 dd _ bs bK b9=>Tv<|Jn 1 R<|Ob h λah cM h=>Jd4 bs E6 17 [] R Y31 bG R b9 (EV (bO _) (cv.stp<|bL.tr bK).rdc) bJ cM R λaQ aP cW bt _ ca=>Tv<|Jf R (Jn4 [vi ag,.slice aQ ah.length aP] R) ?_)
 obtain⟨bu,_,c1⟩:=dg bt cW 17
 exact Jb4 bu (EZ Place.rp) 18 [] (parts:=[(0,.tmp 61)]) (cells:=[vi ag,.slice aQ ah.length aP]) (xs:=([(⟨ag,ah⟩:Place)]:VL)) R Y67 fH R (Jj4<|Place.mk_rel (x:=(⟨ag,ah⟩:Place))<|Sl.z1<|Sl.st c1 ca.rdc) λda c9 _ bv _ cb=>Tv<|Ob h λ_ cN h=>Jd4 bv (EZ Place.rp) 5 [18] R Y67 fH R Fct cb.src (c7 R) cN R λb0 b4 _ bw _ cc=>Tv<|Jc 1 R<|Oh h<|Jw1 _ ⟨bw,b0,b4,R,Fct,cc⟩<|KM R
 rintro _ _ ⟨br,S,W,rfl,_,_⟩
 have h:=cw
 refine Jp<|Jm3 2 R<|Ji4 br 17 [D.2] R Y31 bG R λc8 dc _ bx _ cd=>Tv<|Ob h λc0 cO h=>Jd4 bx E6 14 [] R Y31 bG R Fct (EV (bO _) cd.rdc) bJ cO R λbX bV _ bz _ ce=>Tv<|Jc 1 R<|Jz<|Jp<|Jg3 R ?_
 have cJ:ET .i64 (k+1)=k+1:=wr1 cy (Jn2 v) az.len_le
 rw[cJ]
 have v:=Jn2 v
 cases h
 exact Ja2 ⟨bz,k+1,(D.1,c0),S,W,bX,bV,R,Fct,Fct,ce,by omega,by omega,af⟩ R
 rintro _ _ ⟨aj,p,Y,V,ar,au,rfl,u,_,_,rfl⟩
 have h:=yI cx
 refine Jp<|Jq<|Jl3 1 R<|Js3 R U67 R R<|Jb 1 R ?_
 refine Bk h (λcH h=>Jy R<|Js<|Jp<|Jl3 1 R<|Ob h λ_ cP h=>Jw3 R call57 (fi (J:=λo=>mp [(14,2)] 0<|aj o) Fct cP) ?_) (λcH h=>Jx R<|Jj3<|Jf R (Jn4 [.slice none 0 0,.slice none 0 0,.slice none 0 0] R)<|Jm4 aj 4 R Z66 R Fct R λ_ _ cf=>Tv<|Jb 2 R<|Ju<|Jw<|Ja1<|Jw<|Jw ?_)
 rintro _ _ ⟨_,rfl,b5,cg,cC⟩
 refine Im b5 15 R (λaD q cS=>Tv<|Jd<|Xr aD [0,2,6,10] (some 12) [5,11,23,32,0,6,12,17,18,24,28,34] [37] λ_ m=>Je3 R U62 R Z31<|Je3 R U76 R Z2<|Jn 2 R ?_)
 have ch:=aZ.stp (T7 s t n i u q m)
 refine Jg R (Jh4 (haC ch.cells R) I66 Z66 R)<|Jg R (Jd2 I31 R R<|hvC ((a1.stp<|T3 u q m).ld 0 R R) R) ?_
 have aV:=a2.stp (T3 u q m)
 refine Jg R (Jd2 I2 R R<|hvC (aV.ld 0 R R) R)<|Ob h λ_ bb h=>Jd3 R a4 bb U31 Z2<|Jg R (Jd2 I2 R R<|hvC ((a4.stp<|T14 aK aq F am ao ap H s t n i u q m).gInt bb) R)<|Jg R (Jh4 (haC aV.cells R) I76 Z76 R)<|Ob h λ_ cQ h=>WO.callV R R R R R R R R call63 (sx (J:=Mk aD) (p0:=bo) Gct Gct Fct cQ) ?_
 rintro _ cX ⟨_,rfl,b6⟩
 refine Im b6 18 R (λbB y _=>⟨(y.cl R),?_⟩)
 obtain⟨bC,an,c2⟩:=dg bB cX 17
 have al:=(T9 s t n i u q m y an)
 refine Ob h λaC cR h=>Jw3 R call108 (Ret.cast (by simp only[(cC),List.cons_append,List.nil_append])<|sA (J:=λo=>mp [(7,2),(8,3),(9,4)] 1<|bC o) (p0:=(⟨(⟨c.2.2.1,c.2.2.2.1⟩:Arena),c.2.2.2.2⟩:Parity)) ((aW.stp al).map (mp [(7,2),(8,3),(9,4)] 1) R R) ((aX.stp al).map (mp [(7,2),(8,3),(9,4)] 1) R R) ((aY.stp al).map (mp [(7,2),(8,3),(9,4)] 1) R R) (Jm2 (Sl.st c2 ((cg.mx (bI _) cS R (R:15+2=17)).stp (m.tr y)).rdc) (mp [(7,2),(8,3),(9,4)] 1) R R) cR) ?_
 rintro _ _ ⟨_,bR,b2,bY,bN,bP,bT,rfl,b7,ci,cj,ck⟩
 obtain⟨aE,aJ,aB,c3⟩:=Jj b7 20 R
 have bH:=(T3 y an aJ)
 refine⟨(bH.cl R),Jt1<|Jm4 aE 6 R Z66 R Fct R λ_ G _=>Tv<|Jo<|Jz<|Jp<|Jg3 R ?_⟩
 cases h
 exact Ja2 ⟨(λo=>ren [(25,7),(26,8),(27,9)]<|aE o),(p.1,((ET .i64<|c.2.1+1):Int),aC.Arena.Owner,aC.Arena.Next,aC.Prio),Y,V,bR,b2,bY,bN,bP,bT,R,(Jz2 ((T12 H s t n i u q m y an aJ G).wk R) [(25,7),(26,8),(27,9)] R),Fct,(((ci.mx (bI _) aB R (R:20+5=25)).stp G).map (ren [(25,7),(26,8),(27,9)]) R R),(((cj.mxz c3 aB R (R:20+6=26)).stp G).map (ren [(25,7),(26,8),(27,9)]) R R),(((ck.mx (bI _) aB R (R:20+7=27)).stp G).map (ren [(25,7),(26,8),(27,9)]) R R),Fct,aA⟩ R
 cases h
 obtain rfl:=EU aA
 have h:=yL a7
 exact Ja1<|Jr2<|Jw<|Jb2 (l:=[.cell 8 66,.tmp 9,.tmp 10]) results60 (bM R cf I66 Z66 R<|Jq2 R<|Jq2 R R) R<|Oh h<|⟨aj,none,0,none,0,none,0,none,0,R,Fct,EY,EY,EY,EY⟩
 rintro _ _ ⟨aF,e,I,T,Q,N,aa,ab,U,M,rfl,_,_,_,_,_,co,rfl⟩
 have h:=yI a7
 exact Jp<|Jj3<|Jg4 tv R (Jh4 (haE co.cells) I66 Z66 R)<|Jn 1 R<|Jm4 aF 4 R Z66 R Fct R λ_ _ cl=>Tv<|Jb 2 R<|Ju<|Jb2 (l:=[.cell 8 66,.tmp 9,.tmp 10]) results60 (bM R cl I66 Z66 R<|Jq2 R<|Jq2 R R) R<|Oh h<|⟨(λo=>ren [(7,2),(8,3),(9,4)]<|aF o),Q,N,aa,ab,U,M,I,T,R,Fct,Fct,Fct,Fct,Fct⟩
theorem ku {x B D y C A}{p0:Parity}(au:Rd Ri J w 0 x B p0.Arena.Owner) (av:Rd Rs J w 0 D y p0.Arena.Next) (aw:Rd Ri J w 0 C A p0.Prio){r:VI}(h:eJ p0=some r):Ret prog 22 [.agg #[.slice x p0.Arena.Owner.length B,.slice D p0.Arena.Next.length y,.slice C p0.Prio.length A]] w (Pvs E6 2 J w r):=by
 refine Jp3 J func22 R ntmps22 R λax=>Jj3<|Jx3 J 2 R λ_ _ P _ F=>Tv<|Jb 1 R<|Jj3<|Je3 R U66 R Z31<|Jc3 R I31 (F.ld 2 R R)<|Js3 R U31 R R<|Ob h λj ah h=>Jl1 (J:=P) (E:=E6) (z:=(0:Int)) 3 R R R R R R R Y31 bG R R R R R (λ_ _ _=>R) (Jv2 ah) λn o _ u V _=>Tv<|Jb 1 R<|Jq<|Js1 (J:=u) [2] none [(1,2),(0,0),(2,0),(3,1),(4,1),(5,2),(6,2),(7,2),(8,2),(9,2)] [] (by kernel_rfl) (by kernel_rfl) λ_ W=>Je3 R U66 R Z62 (have E:=F.stp (V.tr W);Jg R (Jh4 (haC E.cells R) I66 Z66 R) (Jg R (Jh4 (haC (E.lds 0 2 R) R) I62 Z62 R)<|Ob h λ_ ai h=>Jw3 R call66 (yA (J:=Mk u) (p0:=p0.Arena) Gct Gct ai)<|Ks 6 (bI _) λan ar _ O v Z=>⟨(v.cl R),Ob h λM aj h=>Jw3 R call65 (tG (J:=Mk O) (p0:=p0) Gct Gct Gct (Jn3 Z.rdc) aj) ?_⟩))
 rintro _ L ⟨_,aq,ap,am,ao,rfl,Y,_,aa⟩
 refine Im Y 7 R (λk T al=>⟨((v.tr T).cl R),have p:=aa.mx (bI _) al R (R:7+3=10);Jn 5 R (Jt1<|Jd<|Jq<|Jl3 1 R<|Js3 R U31 R R<|Jb 1 R<|Ob h λK ag ac=>Jt3 [3] (λb m e=>∃f,∃i:VI,m=b/\Stp [3] k L f e/\Oc E6 2 f e 3 n o i/\j.length=i.length/\K=EW i) (Jv<|Ju3 [3,20,21] (λc b m e=>∃f a,∃d:VI,m=(22,vi a)::b/\Stp [3] k L f e/\Oc E6 2 f e 3 n o d/\j.length=d.length/\0<=a/\ES ((M.2.length:Int)-a)=c/\cntM (kr M) c a d=some K) ⟨_,_,⟨k,0,j,R,Jo3,Fct,R,(by decide),(by simp),ag⟩,(KM R)⟩ ?_) ?_)⟩)
 rintro c _ _ ⟨t,a,d,rfl,U,q,s,G,g,h⟩
 rcases c with _|c
 exact Jf3 R<|Jq<|Jx2 R (dcf g)<|Jc1<|Jt<|Jt<|Jb1<|Oh h<|Jw1 _ ⟨t,d,R,Fct,q,s,R⟩<|KM R
 refine Ob h λay h ad=>Jf3 R<|Jq<|Jw2 R (dct g)<|Js<|Jp<|Jq<|Jv<|Jj3<|Ob h λ_ H h=>Jd3 R p.rdc H U31 Z2<|Jc3 R I2 ((p.stp U).rdc.gInt H)<|Jb 1 R<|Jm3 2 R<|Ob h λ_ ak h=>Jf R (Jg2 q.rdc ak U31 Z2 R R s R) (Ob h λN I h=>Jk1 (J:=t) (E:=E6) 3 [] R R R R R R R R Z2 R R R R q I λ_ S _ ab=>Tv<|have af:j.length=N.length:=s.trans (Ju2 I).2.2.2.symm;Jo (Jz<|Jp<|Jg3 R<|wr2 G g p.len_le ▸ ?_))
 cases h
 exact Ja2 ⟨S,a+1,N,R,Fct,ab,af,nxz G,nxm g,ad⟩ R
 rintro _ _ ⟨Q,i,rfl,_,_,ae,rfl⟩
 exact have h:=yI ac;Jp (Jf3 R<|Ju<|Jb2 (l:=[.tmp 2]) results22 (Jq2 R R) R<|Oh h<|⟨(λX=>ren [(3,2)]<|Q X),n,o,(by simp only[ae]),Fct,Fct⟩)
theorem uC {ao ap an aj al ak}{p0:Parity}{ah aX}{p1:VI}{S ab}{p2:VI}(az:Rd Ri J w 0 ao ap p0.Arena.Owner) (aA:Rd Rs J w 0 an aj p0.Arena.Next) (bt:Rd Ri J w 0 al ak p0.Prio) (cs:Rd Ri J w 0 ah aX p1) (aB:Rd Ri J w 0 S ab p2){r:Answer}(h:ny p0 p1 p2=some r):Ret prog 69 [.agg #[.slice ao p0.Arena.Owner.length ap,.slice an p0.Arena.Next.length aj,.slice al p0.Prio.length ak],.slice ah p1.length aX,.slice S p2.length ab] w (λb6 a=>∃b aT aV aU aW,b6= .agg #[.slice aT r.Won.length aV,.slice aU r.Plan.length aW]/\Ent J w b a/\Oc E6 2 b a 2 aT aV r.Won/\Oc E6 2 b a 3 aU aW r.Plan):=by
 refine Jp3 J func69 R ntmps69 R λct=>Jj3<|Jx3 J 2 R λ_ _ a8 C bn=>Tv<|Jy3 a8 3 R X73 R λ_ _ ba z _=>Tv<|Jd<|Jj3<|Jc4 ba E6 4 R Y31 bG R λcm cr _ a4 t bj=>Tv<|Jn 1 R<|Ob h λg bX h=>Jd4 a4 E6 4 [] R Y31 bG R bj (EV (bO _) Fct) bJ bX R λq p aZ O u aq=>Tv<|Jb 1 R<|Jq<|Jl3 1 R<|Js3 R U31 R R<|Jb 1 R (have aC:=aq.len_le;Ob h λaR bF bx=>Jt3 [2,6,7] (λe i a=>∃b,∃N:VI,i=e/\Stp [4] O aZ b a/\Oc E6 2 b a 4 q p N/\g.length=N.length/\aR=EW N) (Jv<|Ju3 [2,3,6,7,18] (λc e i a=>∃b d,∃k:VI,i=(19,vi d)::e/\Stp [4] O aZ b a/\Oc E6 2 b a 4 q p k/\g.length=k.length/\0<=d/\ES ((g.length:Int)-d)=c/\cntM (jH p0 p2) c d k=some aR) ⟨_,_,⟨O,0,g,R,Jo3,aq,R,(by decide),(by simp),bF⟩,(KM R)⟩ ?_) ?_)
 rintro c _ _ ⟨P,d,k,rfl,v,U,K,X,F,h⟩
 rcases c with _|c
 exact Jf3 R<|Jq<|Jx2 R (dcf F)<|Jc1<|Jt<|Jt<|Jb1<|Oh h<|Jw1 _ ⟨P,k,R,Fct,U,K,R⟩<|KM R
 refine Ob h λcu h aE=>have H:=dct F;Jf3 R (Jq<|Jw2 R H<|Js<|Jp<|Jq<|Jv<|Jf3 R<|Jq<|Jq<|Xn P [0,2,4] [2,5,11,20,23,26,6,14,15,27,32,35,38,41,44,45,50,53] λb8 m=>Je3 R U66 R Z62<|Je3 R U62 R Z31<|Jn 3 R<|Ob h λcx aG h=>Jd3 R aB aG U31 Z2 (have ar:=bn.stp (T5 z t u v m);Jg R (Jd2 I31 R R<|hvC (ar.ld 0 R R) R) (Ob h λcw aF h=>Jd3 R az aF U31 Z2 (have au:=az.stp (T6 C z t u v m);Jg R (Jd2 I2 R R<|hvC (au.gInt aF) R) (have V:=aB.stp (T6 C z t u v m);Jg R (Jd2 I2 R R<|hvC (V.gInt aG) R) (Jn 2 R<|Ob h λb3 h bz=>Jk4 [2,3,6,7,8,18,19] 39 b3 P b8 6 (Cl.refl _ _ _) ?_ ?_))))))
 exact Bk h (λbQ h=>Jn 2 R<|Ob h λ_ aH h=>Jf R (Jg2 U.rdc aH U31 Z2 R R K R)<|Jg R (Jd2 I2 R R<|hvC ((U.stp m).rdc.gInt aH) R)<|Jn 2 R<|Oh h<|Jv1 _ (Cl.refl _ _ _) ⟨R,_,Jo3⟩<|KM R) (λbQ h=>Jn 3 R<|Jf4 R<|Jn 2 R<|Oh h<|Jv1 _ (Cl.refl _ _ _) ⟨R,_,Jo3⟩<|KM R)
 rintro _ _ _ ⟨rfl,af,x⟩
 refine have h:=bz;Jt1 (Jd ?_)
 refine Bk h (λbR h=>Jy R<|Js<|Jp<|Jl3 1 R<|Jf R (Jn4 [.slice S p2.length ab,.slice none 0 0] R)<|Jn 2 R<|Ob h λ_ aI h=>Jd3 R V aI U31 Z2 (have D:=V.stp x;Jc3 R I2 (D.gInt aI) (Ob h λca bY h=>Jw3 R call116 (uw (J:=Mk af) (p0:=(⟨p2,([]:VI)⟩:Answer)) Gct Sl.nil bY)<|Ks 7 (bI _) λcd ce a0 Q y bo=>Tv<|Jb 1 R<|Jj3<|Je3 R U66 R Z62<|Je3 R U62 R Z32 (have av:=ar.stp (x.tr y);Jc3 R I32 (av.ld 1 R R) (Jn 1 R<|Ob h λa1 aJ h=>Jd3 R aA aJ U32 Z31 ?_))))) (λbR h=>Jx R<|Jc1<|Jt<|Jb1<|Jp<|Jg3 R ?_)
 have aw:=aA.stp (T8 C z t u v m x y)
 obtain⟨_,_,W,bB⟩:=aw.gSl aJ
 refine Jc3 R I31 bB<|Js3 R U31 R R<|Jb 1 R (have aD:=W.len_le;Ob h λaS bH bA=>Jt3 [2,3,6,7,18,19] (λe i a=>∃b,∃A:VI,i=e/\Stp [4] Q a0 b a/\Oc E6 2 b a 4 q p A/\g.length=A.length/\aS=EW A) (Jv<|Ju3 [2,3,6,7,8,9,18,19,52,53] (λc e i a=>∃b f,∃s:VI,i=(54,vi f)::e/\Stp [4] Q a0 b a/\Oc E6 2 b a 4 q p s/\g.length=s.length/\0<=f/\ES ((a1.length:Int)-f)=c/\cntM (gO p0 p2 d ca a1) c f s=some aS) ⟨_,_,⟨Q,0,k,R,Jo3,Fct,K,(by decide),(by simp),bH⟩,(KM R)⟩ ?_) ?_)
 rintro c _ _ ⟨B,f,s,rfl,j,ax,L,Y,G,h⟩
 rcases c with _|c
 exact Jf3 R<|Jq<|Jx2 R (dcf G)<|Jc1<|Jt<|Jt<|Jb1<|Oh h<|Jw1 _ ⟨B,s,R,Fct,ax,L,R⟩<|KM R
 refine Ob h λcv h Z=>have I:=dct G;Jf3 R (Jq<|Jw2 R I<|Js<|Jp<|Jq<|Jv<|Jj3<|Ob h λ_ aK h=>Jd3 R W aK U31 Z2<|Jc3 R I2 ((W.stp j).gInt aK)<|Jb 1 R<|Jq<|Jq<|Xn B [0] [2,5,8,14,17,20,9,21,26] λ_ n=>Jn 2 R<|Ob h λcy aL h=>Jd3 R D aL U31 Z2<|Jn 2 R<|Ob h λcz aM h=>Jd3 R D aM U31 Z2 (have E:=D.stp (T3 y j n);Jg R (Jd2 I2 R R<|hvC (E.gInt aL) R) (Jg R (Jd2 I2 R R<|hvC (E.gInt aM) R)<|Jn 1 R<|Jt1<|Jd ?_)))
 refine Bk h (λbS h=>Jy R<|Js<|Jp<|Jl3 3 R<|Ob h λ_ bZ h=>Jf R (Jg2 ax.rdc bZ U31 Z2 R R L R) (Ob h λa2 aP h=>Jk1 (J:=B) (E:=E6) 4 [] R R R R R R R R Z2 R R R R Fct aP λ_ bc o ay=>Tv<|have M:g.length=a2.length:=L.trans (Ju2 aP).2.2.2.symm;Jd (Jj3<|Jg4 tv R (Jh4 (haE (av.stp<|T3 j n o).cells) I66 Z66 R)<|Jn 1 R<|Ob h λcb b0 h=>Jw3 R call117 (Ret.cast (by simp only[M,List.cons_append,List.nil_append])<|xm (J:=Mk bc) (p0:=p0) (Jn3<|au.stp<|T5 x y j n o) (Jn3<|aw.stp<|T3 j n o) (Jn3<|bt.stp<|T11 C z t u v m x y j n o) (Jn3 ay.rdc) b0) ?_))) (λbS h=>Jx R<|Jc1<|Jt<|Jb1<|Jp<|Jg3 R ?_)
 rintro _ _ ⟨_,ck,cn,cc,cl,cg,co,rfl,bi,bq,br,bs⟩
 refine Im bi 8 R (λbd ag aa=>Tv<|Jn 1 R<|Ob h λ_ b1 h=>Jw3 R call65 (tG (J:=Mk bd) (p0:=cb) (Jn3 (bq.mx (bI _) aa R (R:8+2=10)).rdc) (Jn3 (br.mx (cK (bI _) _) aa R (R:8+3=11)).rdc) (Jn3 (bs.mx (bI _) aa R (R:8+4=12)).rdc) (Jn3 (bo.stp<|T4 j n o ag).rdc) b1) ?_)
 rintro _ b7 ⟨_,cf,ch,cj,cp,rfl,bh,_,_⟩
 refine Im bh 13 R (λa5 be _=>Tv<|Jb 5 R<|Jq<|Jl3 2 R<|Ob h λcA aN h=>Jd3 R E aN U31 Z2 (have T:=E.stp (T3 o ag be);Jc3 R I2 (T.gInt aN) (Jn 2 R<|Ob h λb4 h bu=>Jk4 [2,3,6,7,8,9,12,18,19,52,53,54] 88 b4 a5 b7 4 tv ?_ ?_)))
 exact Bk h (λbK h=>Jn 4 R<|Oh h<|Jl4 tv R) (λbK h=>Jn 1 R<|Js3 R U31 R R<|Jn 2 R<|Oh h<|Jl4 tv R)
 rintro _ aY _ ⟨rfl,ac,bf⟩
 refine Jn 1 R<|Ob bu λb2 h bv=>Jk4 [2,3,6,7,8,9,18,19,52,53,54] 100 b2 ac aY 11 tv ?_ ?_
 refine Bk h (λbL h=>Jn 2 R<|Ob h λcB aO h=>Jd3 R T aO U31 Z2<|Jc3 R I2 ((T.stp bf).gInt aO)<|Jn 2 R<|Ob h λb5 h bw=>Jk4 [2,3,6,7,8,9,18,19,52,53,54,89,90,91,92,93,94,95] 99 b5 ac aY 4 tv ?_ ?_) (λbL h=>Jn 3 R<|Je4 R<|Jn 7 R<|Oh h<|Jl4 tv R)
 exact Bk h (λbN h=>Jn 4 R<|Oh h<|Jl4 tv R) (λbN h=>Jn 1 R<|Js3 R U31 R R<|Jn 2 R<|Oh h<|Jl4 tv R)
 rintro _ _ _ ⟨rfl,_,_⟩
 exact have h:=bw;Jn 1 R (Oh h<|Jv1 _ tv ⟨R,_,Fct⟩<|KM R)
 rintro _ _ _ ⟨rfl,ad,_⟩
 refine have h:=bv;Jd ?_
 refine Bk h (λbP h=>Jy R<|Js<|Jp<|Jm3 2 R<|Ob h λ_ bV h=>Jf R (Jg2 ay.rdc bV U31 Z2 R R M R) (Ob h λa3 aQ h=>Jk1 (J:=ad) (E:=E6) 4 [] R R R R R R R R Z2 R R R R Fct aQ λ_ a6 _ bk=>Tv<|have bC:g.length=a3.length:=M.trans (Ju2 aQ).2.2.2.symm;Jo (Jz<|Jp<|Jg3 R<|wr2 Y G aD ▸ ?_))) (λbP h=>Jx R<|Jc1<|Jt<|Ja3 R<|Jt<|Jt ?_)
 cases h
 exact Ja2 ⟨a6,f+1,a3,R,Fct,bk,bC,nxz Y,nxm G,Z⟩ R
 cases h
 exact have h:=Z;Jb1 (Oh h<|Jw1 _ ⟨ad,a2,R,Fct,Fct,M,R⟩<|KM R)
 have bU:ET .i64 (f+1)=f+1:=wr1 Y (Jn2 I) aD
 rw[bU]
 have I:=Jn2 I
 cases h
 exact Ja2 ⟨B,f+1,s,R,Fct,Fct,L,by omega,by omega,Z⟩ R
 rintro _ _ ⟨bb,A,rfl,_,bp,bE,rfl⟩
 refine have h:=yI bA;Jz (Jp<|Jg3 R<|wr2 X F aC ▸ ?_)
 cases h
 exact Ja2 ⟨bb,d+1,A,R,Fct,bp,bE,nxz X,nxm F,aE⟩ R
 have bT:ET .i64 (d+1)=d+1:=wr1 X (Jn2 H) aC
 rw[bT]
 have H:=Jn2 H
 cases h
 exact Ja2 ⟨af,d+1,k,R,Fct,Fct,K,by omega,by omega,aE⟩ R
 rintro _ _ ⟨a9,N,rfl,_,_,bD,rfl⟩
 exact have h:=yI bx;Jp (Jj3<|Jc4 a9 E6 5 R Y31 bG R λcq ci _ a7 _ bl=>Tv<|Jn 1 R<|Ob h λb9 bW h=>Jd4 a7 E6 5 [] R Y31 bG R bl (EV (bO _) Fct) bJ bW R λai am _ ae _ _=>Tv<|Jn 1 R<|Jf R (Jn4 [.slice ai b9.length am,.slice q g.length p] R)<|Jm4 ae 3 R Z73 R Fct R λ_ _ bm=>Tv<|Jd<|Ju<|Jb2 (l:=[.cell 6 73]) results69 (bM R bm I73 Z73 R R) R<|Oh h<|⟨(λbg=>ren [(5,2),(4,3)]<|ae bg),ai,am,q,p,(by simp only[bD]),Fct,Fct,Fct⟩)
theorem tx {p0:Sig}{x u y v}{p1:Det}(j:Rd Rs J w 0 x u p1.Next) (ag:Rd Pair.rp J w 0 y v p1.Pairs){r:Bool}(h:qD p0 p1=some r):Ret prog 71 [.agg #[vi p0.In,vi p0.Out],.agg #[.slice x p1.Next.length u,.slice y p1.Pairs.length v]] w (Pvb J w r):=by
 refine Jp3 J func71 R ntmps71 R λah=>Jj3<|Jx3 J 2 R λ_ _ G K L=>Tv<|Jx3 G 3 R λ_ af I t i=>Tv<|Jb 1 R<|Jj3<|Je3 R U58 R Z32<|Jc3 R I32 (i.ld 0 R R)<|Js3 R U32 R R<|Jb 1 R<|Jq<|Jl3 3 R<|Ob h λaa h O=>Jk4 [2,3,5] 16 aa I af 3 tv ?_ ?_
 exact Bk h (λS h=>Jn 3 R<|Oh h<|Jl4 tv R) (λS h=>Jn 3 R<|Oh h<|Jl4 tv R)
 rintro _ ad _ ⟨rfl,n,d⟩
 refine Jn 1 R<|Ob O λab h M=>Jk4 [2,3,5] 23 ab n ad 6 tv ?_ ?_
 exact Bk h (λT h=>Je3 R U58 R Z56<|Jc3 R I56 ((i.stp d).ld 1 R R)<|Jn 1 R<|Ob h λ_ X h=>Jw3 R call118 (pY (J:=Mk n) Gct X)<|Kb λ_ _ _=>Tv<|Jn 2 R<|Oh h<|Jv1 _ tv ⟨R,_,Fct⟩<|KM R) (λT h=>Jn 1 R<|Je4 R<|Jn 1 R<|Je4 R<|Jn 2 R<|Oh h<|Jl4 tv R)
 rintro _ E _ ⟨rfl,c,g⟩
 refine have h:=M;Jd ?_
 refine Bk h (λU h=>Jy R<|Js<|Jp<|Jq<|Jj3<|Je3 R U58 R Z32<|Jc3 R I32 ((i.stp<|d.tr g).ld 0 R R)<|Js3 R U32 R R<|Jb 1 R<|Ob h λD Q z=>Jx1 (λf k=>∃m,f=[]/\Stp [] c E m k/\D=EW ()) (Jv<|Ju3 [2,5,25,26] (λb F f k=>∃m a,f=(27,vi a)::F/\Stp [] c E m k/\0<=a/\ES ((p1.Next.length:Int)-a)=b/\cntM (ns p0 p1) b a ()=some D) ⟨_,_,⟨c,0,R,Jo3,(by decide),(by simp),Q⟩,(KM R)⟩ ?_) ?_) (λU h=>Jx R<|Jf3 R<|Ju<|Jw<|Jb2 (l:=[.tmp 4]) results71 (Jq2 R R) R<|Oh h<|⟨c,R,Fct⟩)
 rintro b _ _ ⟨o,a,rfl,s,A,e,h⟩
 rcases b with _|b
 exact Jf3 R<|Jq<|Jx2 R (dcf e)<|Jc1<|Jt<|Jt<|Jb1<|Oh h<|Jw1 _ ⟨o,R,Fct,R⟩ KN
 refine Ob h λai h B=>Jf3 R<|Jq<|Jw2 R (dct e)<|Js<|Jp<|Jq<|Jv<|Jj3<|Ob h λaj C h=>Jd3 R j C U32 Z31 ?_
 obtain⟨_,_,_,P⟩:=(j.stp (T5 K t d g s)).gSl C
 refine Jc3 R I31 P<|Jb 1 R<|Jl3 1 R<|Js3 R U31 R R<|Jg4 tv R (Jh4 (haE (L.stp<|T4 t d g s).cells) I28 Z28 R)<|Ob h λak Y h=>Jw3 R call54 (fX (J:=Mk o) (p0:=p0) Y)<|Ki λae p _=>Tv<|Jn 2 R<|Ob h λac h N=>Jk4 [2,5,25,26,27] 41 ac p ae 5 tv ?_ ?_
 exact Bk h (λV h=>Jn 2 R<|Ob h λ_ Z h=>Jw3 R call80 (dO (J:=Mk p) Gct Z)<|Kb λ_ _ _=>Tv<|Jn 2 R<|Oh h<|Jv1 _ tv ⟨R,_,Fct⟩<|KM R) (λV h=>Jn 2 R<|Je4 R<|Jn 2 R<|Oh h<|Jl4 tv R)
 rintro _ _ _ ⟨rfl,q,_⟩
 refine have h:=N;Jd ?_
 refine Bk h (λW h=>Jy R<|Js<|Jz<|Jp<|Jg3 R<|wr2 A e j.len_le ▸ ?_) (λW h=>Jx R<|Jf3 R<|Ju<|Ja1<|Jw<|Jw ?_)
 cases h
 exact Ja2 ⟨q,a+1,R,Fct,nxz A,nxm e,B⟩ R
 cases h
 obtain rfl:=EU B
 exact have h:=yL z;Ja1 (Jr2<|Jw<|Jb2 (l:=[.tmp 4]) results71 (Jq2 R R) R<|Oh h<|⟨q,R,Fct⟩)
 rintro _ _ ⟨H,rfl,_,rfl⟩
 exact have h:=yI z;Jp (Jf3 R<|Ju<|Jb2 (l:=[.tmp 4]) results71 (Jq2 R R) R<|Oh h<|⟨H,R,Fct⟩)
theorem oS {p0:Sig}{q z}{p1:VC}(g:Rd Clause.rp J w 0 q z p1){r:Bool}(h:ga p0 p1=some r):Ret prog 81 [.agg #[vi p0.In,vi p0.Out],.slice q p1.length z] w (Pvb J w r):=by
 refine Jp3 J func81 R ntmps81 R λZ=>Jj3<|Jx3 J 2 R λ_ _ C F s=>Tv<|Jb 1 R<|Jq<|Jj3<|Jg4 tv R (Jh4 (haE s.cells) I28 Z28 R)<|Ob h λae Q h=>Jw3 R call91 (ic (J:=Mk C) (p0:=p0) Q)<|Kb λT E p=>Tv<|Jn 2 R<|Ob h λS h H=>Jk4 [1,2] 13 S E T 4 tv ?_ ?_
 exact Bk h (λM h=>Jn 1 R<|Js3 R U29 R R<|Jn 2 R<|Oh h<|Jl4 tv R) (λM h=>Jn 4 R<|Oh h<|Jl4 tv R)
 rintro _ A _ ⟨rfl,c,m⟩
 refine have h:=H;Jd ?_
 refine Bk h (λN h=>Jy R<|Js<|Jp<|Jq<|Jf3 R<|Ob h λy K t=>Jx1 (λf i=>∃j,f=[]/\Stp [] c A j i/\y=EW ()) (Jv<|Ju3 [1,2] (λb B f i=>∃j a,f=(5,vi a)::B/\Stp [] c A j i/\0<=a/\ES ((p1.length:Int)-a)=b/\cntM (iT p0 p1) b a ()=some y) ⟨_,_,⟨c,0,R,Jo3,(by decide),(by simp),K⟩,(KM R)⟩ ?_) ?_) (λN h=>Jx R<|Jf3 R<|Ju<|Jw<|Jb2 (l:=[.tmp 4]) results81 (Jq2 R R) R<|Oh h<|⟨c,R,Fct⟩)
 rintro b _ _ ⟨e,a,rfl,n,u,d,h⟩
 rcases b with _|b
 exact Jq<|Jl3 2 R<|Js3 R U29 R R<|Jb 1 R<|Jx2 R (dcf d)<|Jc1<|Jt<|Jt<|Jb1<|Oh h<|Jw1 _ ⟨e,R,Fct,R⟩ KN
 refine Ob h λaa h v=>Jq<|Jl3 2 R<|Js3 R U29 R R<|Jb 1 R<|Jw2 R (dct d)<|Js<|Jp<|Jq<|Jv<|Jq<|Xn e [0,2] [5,8,11,0,12,16,20] λ_ o=>Jn 2 R<|Ob h λU x h=>Jd3 R g x U29 Z54<|Jg R (Jh4 (haC (s.stp<|T4 p m n o).cells R) I28 Z28 R) ?_
 obtain⟨_,L,I⟩:=((g.stp (T5 F p m n o))).gSt x
 obtain⟨V,ab,W,ac,rfl,X,Y⟩:=Clause.un L
 refine Jg R (Jh4 (haC I R) I54 Z54 R)<|Ob h λad P h=>Jw3 R call134 (mG (J:=Mk e) (p0:=p0) (p1:=U) Gct Gct P)<|Kb λ_ k G=>⟨(G.cl R),Jn 1 R<|Jt1<|Jd ?_⟩
 refine Bk h (λO h=>Jy R<|Js<|Jz<|Jp<|Jg3 R<|wr2 u d g.len_le ▸ ?_) (λO h=>Jx R<|Jf3 R<|Ju<|Ja1<|Jw<|Jw ?_)
 cases h
 exact Ja2 ⟨k,a+1,R,Fct,nxz u,nxm d,v⟩ R
 cases h
 obtain rfl:=EU v
 exact have h:=yL t;Ja1 (Jr2<|Jw<|Jb2 (l:=[.tmp 4]) results81 (Jq2 R R) R<|Oh h<|⟨k,R,Fct⟩)
 rintro _ _ ⟨D,rfl,_,rfl⟩
 exact have h:=yI t;Jp (Jf3 R<|Ju<|Jb2 (l:=[.tmp 4]) results81 (Jq2 R R) R<|Oh h<|⟨D,R,Fct⟩)
theorem oV {p0:Sig}{ac aa V X}{p1:Clause}(br:Rd Ri J w 0 ac aa p1.A) (bs:Rd Ri J w 0 V X p1.B){r:Det}(h:mg p0 p1=some r):Ret prog 90 [.agg #[vi p0.In,vi p0.Out],.agg #[vi p1.Kind,.slice ac p1.A.length aa,.slice V p1.B.length X]] w (λbk a=>∃b an ap ao aq,bk= .agg #[.slice an r.Next.length ap,.slice ao r.Pairs.length aq]/\Ent J w b a/\Oc (Ep.own E6 2) 31 b a 2 an ap r.Next/\Oc Pair.ep96 96 b a 3 ao aq r.Pairs):=by
 refine Jp3 J func90 R ntmps90 R λbt=>Jj3<|Jx3 J 2 R λ_ _ aB _ aY=>Tv<|Jx3 aB 3 R λ_ _ aD aH a4=>Tv<|Jy3 aD 4 R X58 R λ_ _ aw M _=>Tv<|Jd<|Jq<|Jj3 (have ae:=aY.stp (aH.tr M);Jg4 tv R (Jh4 (haE ae.cells) I28 Z28 R) (have af:=a4.stp M;Jg4 tv R (Jh4 (haE af.cells) I54 Z54 R) (Ob h λbu bd h=>Jw3 R call134 (mG (J:=Mk aw) (p0:=p0) (p1:=p1) Gct Gct bd)<|Kb λ_ z N=>Tv<|Jb 1 R ?_)))
 refine Bk h (λbb h=>Jy R<|Js<|Jp<|Jj3<|Je3 R U54 R Z2 (have ag:=af.stp N;Jc3 R I2 (ag.ld 0 R R) (Ob h λe be h=>Jw3 R call148 (wC (J:=Mk z) be) ?_))) (λbb h=>Jx R<|Jj3<|Jf R (Jn4 [.slice none 0 0,.slice none 0 0] R)<|Jm4 z 4 R Z58 R Fct R λ_ _ aV=>Tv<|Jd<|Ju<|Jw<|Jb2 (l:=[.cell 4 58]) results90 (bM R aV I58 Z58 R R) R<|Oh h<|⟨z,none,0,none,0,R,Fct,EY,EY⟩)
 rintro _ ar ⟨_,ab,Z,W,Y,rfl,aP,aW,aX⟩
 refine Im aP 7 R (λA O ak=>Tv<|Jb4 A Pair.ep96 11 [9,10] (parts:=[(0,.tmp 16)]) (cells:=[.slice ab e.Ask.length Z,.slice W e.Give.length Y]) (xs:=([e]:VP)) R Y56 cN R (Jj4 ⟨[.slice ab e.Ask.length Z],[.slice W e.Give.length Y],Zl A ar [9],Zl A ar [10],R,Zl.sp (l1:=[9]) (l2:=[10]) R,Zl.sr (l1:=[9]) (l2:=[10]),⟨_,_,R,(aW.mx (bI _) ak R (R:7+2=9))⟩,⟨_,_,R,(aX.mx (bI _) ak R (R:7+3=10))⟩⟩) λk m _ aC P _=>Tv<|Jf R (Jn4 [.slice none 0 0,.slice k ([e]:VP).length m] R)<|Jy3 aC 12 R X58 R λad _ n Q aZ=>Tv<|Jm4 n 12 R Z58 R aZ R λau S a0=>Tv<|Jd<|Jq<|Jf3 R<|Ob h λal a8 a6=>Jt3 [4,5] (λg i a=>∃b,∃y:Int×VV,∃v p,i=g/\Stp [12,13,16,17] n au b a/\Oc (Ep.own E6 2) 31 b a 13 v p y.2/\Bc b a 12 ad 58 [.slice v y.2.length p,.slice k ([e]:VP).length m]/\al=EW y) (Jv<|Ju3 [2,3,4,5] (λc g i a=>∃b,∃d:Int×VV,∃s o,i=(6,vi d.1)::g/\Stp [12,13,16,17] n au b a/\Oc (Ep.own E6 2) 31 b a 13 s o d.2/\Bc b a 12 ad 58 [.slice s d.2.length o,.slice k ([e]:VP).length m]/\bQ (iU p0 p1) c d=some al) ⟨_,_,⟨n,((0:Int),([]:VV)),none,0,R,Jo3,EY,a0,a8⟩,(KM R)⟩ ?_) ?_)
 rintro c _ _ ⟨aE,d,s,o,rfl,T,_,a2,h⟩
 rcases c with _|c
 cases h
 refine Ob h λ_ h ai=>Jq<|Jl3 1 R<|Je3 R U54 R Z2 (have ah:=ag.stp (T5 O P Q S T);Jc3 R I2 (ah.ld 0 R R) (Ob h λbv bf h=>Jw3 R call149 (ul (J:=Mk aE) bf)<|Ki λ_ K C=>Tv<|Jb 1 R ?_))
 refine Bk h (λbc h=>Jy R<|Jc1<|Jt<|Jt ?_) (λbc h=>Jx R<|Js<|Jp<|Jq<|Jv<|Jj3<|Jc4 K E6 16 R Y31 bG R λaN aM av B D a3=>Tv<|Jb 1 R<|Jq<|Jf3 R<|Ob h λam a9 a7=>Jt3 [2,3,4,5,6] (λg i a=>∃b,∃j:VI×Int,∃t q,i=(7,.slice t j.1.length q)::g/\Stp [16] B av b a/\Oc E6 2 b a 16 t q j.1/\am=EW j) (Jv<|Ju3 [2,3,4,5,6] (λc g i a=>∃b,∃f:VI×Int,∃x u,i=(7,.slice x f.1.length u)::(8,vi f.2)::g/\Stp [16] B av b a/\Oc E6 2 b a 16 x u f.1/\bQ (iV p0 p1 d) c f=some am) ⟨_,_,⟨B,(([]:VI),(0:Int)),aN,aM,R,Jo3,a3,a9⟩,(KM R)⟩ ?_) ?_)
 cases h
 exact have h:=ai;Jb1 (Oh h<|Jw1 _ ⟨K,(d.1,d.2),s,o,R,Fct,Fct,Fct,R⟩<|KM R)
 rintro c _ _ ⟨aG,f,x,u,rfl,U,_,h⟩
 rcases c with _|c
 cases h
 refine Ob h λ_ h aj=>Jq<|Jl3 1 R<|Jg4 tv R (Jh4 (haE (ae.stp<|T9 N O P Q S T C D U).cells) I28 Z28 R)<|Ob h λbw bg h=>Jw3 R call88 (eQ (J:=Mk aG) (p0:=p0) bg)<|Ki λ_ L aJ=>Tv<|Jb 1 R ?_
 refine Bk h (λba h=>Jy R<|Jc1<|Jt<|Jt ?_) (λba h=>Jx R<|Js<|Jp<|Jq<|Jv<|Jm3 1 R<|Jg4 tv R (Jh4 (haE (ah.stp<|T4 C D U aJ).cells) I54 Z54 R)<|Jn 2 R<|Ob h λbl bh h=>Jw3 R call150 (wA (J:=Mk L) (p0:=p1) Gct Gct bh)<|Ki λ_ ax _=>Tv<|Ji4 ax 21 [bl] R Y31 bG R λbo bq _ ay _ aQ=>Tv<|Ob h λbm bi h=>Jd4 ay E6 16 [] R Y31 bG R Fct (EV (bO _) aQ.rdc) bJ bi R λaL aK _ az _ aR=>Tv<|Jc 1 R<|Jz<|Jp<|Jg3 R ?_)
 cases h
 exact have h:=aj;Jb1 (Oh h<|Jw1 _ ⟨L,(f.1,f.2),x,u,R,Fct,Fct,R⟩<|KM R)
 cases h
 exact Ja2 ⟨az,(bm,((ET .i64<|f.2+1):Int)),aL,aK,R,Fct,aR,aj⟩ R
 rintro _ _ ⟨aF,j,t,q,rfl,aI,a5,rfl⟩
 refine have h:=yI a7;Jp (Jk3<|Je3 R U58 R Z32<|Jc3 R I32 ((a2.stp<|T3 C D aI).ld 0 R R)<|Jn 1 R<|Jb4 aF (Ep.own E6 2) 17 [16] (parts:=[(0,.tmp 42)]) (cells:=[.slice t j.1.length q]) (xs:=([j.1]:VV)) R Y32 bL R (Jj4 ⟨_,_,R,a5⟩) λbp bn _ aA _ aS=>Tv<|Ob h λG bj h=>Jd4 aA (Ep.own E6 2) 13 [17] R Y32 bL R Fct aS.src (c7 R) bj R λE F _ H _ _=>Tv<|Je3 R U58 R Z32<|Jz3 H 12 (off:=0) (vc:=[.slice E G.length F]) (cs':=[.slice E G.length F,.slice k ([e]:VP).length m]) R Z32 R Fct R λ_ _ aT=>Tv<|Jo<|Jz<|Jp<|Jg3 R ?_)
 cases h
 exact Ja2 ⟨H,(((ET .i64<|d.1+1):Int),G),E,F,R,Fct,Fct,aT,ai⟩ R
 rintro _ _ ⟨I,y,v,p,rfl,_,_,a1,rfl⟩
 exact have h:=yI a6;Jp (Jj3<|Jg4 tv R (Jh4 (haE a1.cells) I58 Z58 R)<|Jm4 I 4 R Z58 R Fct R λ_ _ aU=>Tv<|Jd<|Ju<|Jb2 (l:=[.cell 4 58]) results90 (bM R aU I58 Z58 R R) R<|Oh h<|⟨(λaO=>ren [(13,2),(11,3)]<|I aO),v,p,k,m,R,Fct,Fct,Fct⟩)
theorem rb {p y}{p0:VP}{p1:Int}(i:Rd Pair.rp J w 0 p y p0){r:Bool}(h:m5 p0 p1=some r):Ret prog 124 [.slice p p0.length y,vi p1] w (Pvb J w r):=by
 refine Jp3 J func124 R ntmps124 R λaj=>Jf3 R<|Jq<|Jl3 1 R<|Ob h λaq W h=>Jw3 R C92 (dB (J:=Mk J) W)<|Kb λZ C G=>Tv<|Jn 2 R<|Ob h λX h I=>Jk4 [0,1] 13 X C Z 4 tv ?_ ?_
 exact Bk h (λT h=>Jn 1 R<|Js3 R U56 R R<|Jn 2 R<|Oh h<|Jl4 tv R) (λT h=>Jn 4 R<|Oh h<|Jl4 tv R)
 rintro _ z _ ⟨rfl,d,D⟩
 refine have h:=I;Jd ?_
 refine Bk h (λP h=>Jy R<|Js<|Jp<|Jq<|Jf3 R<|Ob h λx M q=>Jx1 (λf a=>∃k,f=[]/\Stp [] d z k a/\x=EW ()) (Jv<|Ju3 [0,1] (λc A f a=>∃k b,f=(5,vi b)::A/\Stp [] d z k a/\0<=b/\ES ((p0.length:Int)-b)=c/\cntM (kz p0 p1) c b ()=some x) ⟨_,_,⟨d,0,R,Jo3,(by decide),(by simp),M⟩,(KM R)⟩ ?_) ?_) (λP h=>Jx R<|Jf3 R<|Ju<|Jw<|Jb2 (l:=[.tmp 4]) results124 (Jq2 R R) R<|Oh h<|⟨d,R,Fct⟩)
 rintro c _ _ ⟨m,b,rfl,E,s,e,h⟩
 rcases c with _|c
 exact Jq<|Jl3 2 R<|Js3 R U56 R R<|Jb 1 R<|Jx2 R (dcf e)<|Jc1<|Jt<|Jt<|Jb1<|Oh h<|Jw1 _ ⟨m,R,Fct,R⟩ KN
 refine Ob h λak h t=>Jq<|Jl3 2 R<|Js3 R U56 R R<|Jb 1 R<|Jw2 R (dct e)<|Js<|Jp<|Jq<|Jv<|Jl3 2 R<|Ob h λ_ u h=>Jd3 R i u U56 Z96<|Je3 R U96 R Z31 ?_
 have g:=i.stp (T3 G D E)
 obtain⟨_,N,K⟩:=(g).gSt u
 obtain⟨ab,al,ac,am,rfl,af,ag⟩:=Pair.un N
 refine Jc3 R I31 (λa j=>K a j 0 _ R)<|Jn 1 R<|Ob h λap U h=>Jw3 R call182 (lr (J:=Mk m) Gct U)<|Kb λaa n F=>Tv<|Jn 2 R<|Ob h λY h H=>Jk4 [0,1,5] 37 Y n aa 9 tv ?_ ?_
 refine Bk h (λQ h=>Jn 2 R<|Ob h λ_ v h=>Jd3 R g v U56 Z96<|Je3 R U96 R Z31 ?_) (λQ h=>Jn 4 R<|Je4 R<|Jn 1 R<|Je4 R<|Jn 2 R<|Oh h<|Jl4 tv R)
 obtain⟨_,O,L⟩:=((g.stp F)).gSt v
 obtain⟨ad,an,ae,ao,rfl,ah,ai⟩:=Pair.un O
 exact Jc3 R I31 (λa j=>L a j 1 _ R)<|Jn 1 R<|Ob h λ_ V h=>Jw3 R call182 (lr (J:=Mk n) Gct V)<|Kb λ_ _ _=>Tv<|Jn 2 R<|Oh h<|Jv1 _ tv ⟨R,_,Fct⟩<|KM R
 rintro _ _ _ ⟨rfl,o,_⟩
 refine have h:=H;Jd ?_
 refine Bk h (λS h=>Jy R<|Js<|Jz<|Jp<|Jg3 R<|wr2 s e i.len_le ▸ ?_) (λS h=>Jx R<|Jf3 R<|Ju<|Ja1<|Jw<|Jw ?_)
 cases h
 exact Ja2 ⟨o,b+1,R,Fct,nxz s,nxm e,t⟩ R
 cases h
 obtain rfl:=EU t
 exact have h:=yL q;Ja1 (Jr2<|Jw<|Jb2 (l:=[.tmp 4]) results124 (Jq2 R R) R<|Oh h<|⟨o,R,Fct⟩)
 rintro _ _ ⟨B,rfl,_,rfl⟩
 exact have h:=yI q;Jp (Jf3 R<|Ju<|Jb2 (l:=[.tmp 4]) results124 (Jq2 R R) R<|Oh h<|⟨B,R,Fct⟩)
theorem mJ {q u x s v t}{p0:Parity}(X:Rd Ri J w 0 q u p0.Arena.Owner) (Y:Rd Rs J w 0 x s p0.Arena.Next) (k:Rd Ri J w 0 v t p0.Prio){r:Bool}(h:jp p0=some r):Ret prog 129 [.agg #[.slice q p0.Arena.Owner.length u,.slice x p0.Arena.Next.length s,.slice v p0.Prio.length t]] w (Pvb J w r):=by
 refine Jp3 J func129 R ntmps129 R λZ=>Jj3<|Jx3 J 2 R λ_ _ I L e=>Tv<|Jb 1 R<|Jq<|Jj3<|Je3 R U66 R Z62<|Jg4 tv R (Jh4 (haE<|e.lds 0 2 R) I62 Z62 R)<|Ob h λac U h=>Jw3 R call123 (qW (J:=Mk I) (p0:=p0.Arena) Gct Gct U)<|Kb λW H d=>Tv<|Jn 2 R<|Ob h λV h M=>Jk4 [1] 17 V H W 9 tv ?_ ?_
 exact Bk h (λP h=>Je3 R U66 R Z31 (have y:=e.stp d;Jc3 R I31 (y.ld 2 R R) (Js3 R U31 R R<|Je3 R U66 R Z62<|Je3 R U62 R Z31<|Jc3 R I31 (y.ld 0 R R)<|Js3 R U31 R R<|Jn 2 R<|Oh h<|Jl4 tv R))) (λP h=>Jn 1 R<|Je4 R<|Jn 3 R<|Je4 R<|Jn 3 R<|Oh h<|Jl4 tv R)
 rintro _ F _ ⟨rfl,c,i⟩
 refine have h:=M;Jd ?_
 refine Bk h (λQ h=>Jy R<|Js<|Jp<|Jq<|Jf3 R<|Ob h λE O A=>Jx1 (λg m=>∃n,g=[]/\Stp [] c F n m/\E=EW ()) (Jv<|Ju3 [1] (λb G g m=>∃n a,g=(3,vi a)::G/\Stp [] c F n m/\0<=a/\ES ((p0.Prio.length:Int)-a)=b/\cntM (jL p0) b a ()=some E) ⟨_,_,⟨c,0,R,Jo3,(by decide),(by simp),O⟩,(KM R)⟩ ?_) ?_) (λQ h=>Jx R<|Jf3 R<|Ju<|Jw<|Jb2 (l:=[.tmp 2]) results129 (Jq2 R R) R<|Oh h<|⟨c,R,Fct⟩)
 rintro b _ _ ⟨o,a,rfl,j,B,f,h⟩
 rcases b with _|b
 exact Jq<|Jl3 1 R<|Je3 R U66 R Z31<|Jc3 R I31 ((e.stp<|T3 d i j).ld 2 R R)<|Js3 R U31 R R<|Jb 1 R<|Jx2 R (dcf f)<|Jc1<|Jt<|Jt<|Jb1<|Oh h<|Jw1 _ ⟨o,R,Fct,R⟩ KN
 refine Ob h λaa h C=>have N:=dct f;Jq (Jl3 1 R<|Je3 R U66 R Z31 (have z:=e.stp (T3 d i j);Jc3 R I31 (z.ld 2 R R) (Js3 R U31 R R<|Jb 1 R<|Jw2 R N<|Js<|Jp<|Jq<|Jv<|Jj3<|Je3 R U66 R Z31<|Jc3 R I31 (z.ld 2 R R)<|Jn 1 R<|Ob h λ_ D h=>Jd3 R k D U31 Z2<|Jc3 R I2 ((k.stp<|T4 L d i j).gInt D)<|Ob h λab T h=>Jw3 R C92 (dB (J:=Mk o) T)<|Kb λ_ p _=>Tv<|Jb 1 R ?_)))
 refine Bk h (λS h=>Jy R<|Js<|Jz<|Jp<|Jg3 R<|wr2 B f k.len_le ▸ ?_) (λS h=>Jx R<|Jf3 R<|Ju<|Ja1<|Jw<|Jw ?_)
 cases h
 exact Ja2 ⟨p,a+1,R,Fct,nxz B,nxm f,C⟩ R
 cases h
 obtain rfl:=EU C
 exact have h:=yL A;Ja1 (Jr2<|Jw<|Jb2 (l:=[.tmp 2]) results129 (Jq2 R R) R<|Oh h<|⟨p,R,Fct⟩)
 rintro _ _ ⟨K,rfl,_,rfl⟩
 exact have h:=yI A;Jp (Jf3 R<|Ju<|Jb2 (l:=[.tmp 2]) results129 (Jq2 R R) R<|Oh h<|⟨K,R,Fct⟩)
theorem qj {C D B y A z}{p0:Parity}(aT:Rd Ri J w 0 C D p0.Arena.Owner) (aU:Rd Rs J w 0 B y p0.Arena.Next) (aV:Rd Ri J w 0 A z p0.Prio){r:VI}(h:g8 p0=some r):Ret prog 186 [.agg #[.slice C p0.Arena.Owner.length D,.slice B p0.Arena.Next.length y,.slice A p0.Prio.length z]] w (Pvs E6 2 J w r):=by
 refine Jp3 J func186 R ntmps186 R λaW=>Jj3<|Jx3 J 2 R λ_ _ v _ ak=>Tv<|Jb 1 R<|Jq<|Js1 (J:=v) [2] none [(2,2),(0,0),(3,0),(4,2),(1,1),(5,1),(6,1),(7,2)] [] (by kernel_rfl) (by kernel_rfl) λ_ W=>Je3 R U66 R Z31 (have E:=ak.stp W;Jg R (Jh4 (haC E.cells R) I66 Z66 R) (Jg R (Jd2 I31 R R<|hvC (E.ld 2 R R) R)<|Js3 R U31 R R<|Ob h λaC az h=>Jw3 R call187 (rU (J:=λs=>mp [] 1<|v s) (p0:=p0) (Jm2 Fct (mp [] 1) R R) (Jm2 Fct (mp [] 1) R R) (Jm2 Fct (mp [] 1) R R) az) ?_))
 rintro _ _ ⟨_,aP,aR,aH,aK,aG,aM,aE,aS,aO,aQ,rfl,ad,ae,af,ag,ah,ai⟩
 refine Im0 ad 3 R (λN q H u=>⟨(q.cl R),Ob h λ_ av h=>Jw3 R call209 (yY (J:=Mk N) av)<|Ks 12 cQ λaL aI _ O a aj=>⟨((q.tr a).cl R),Ob h λL aw h=>Jw3 R call205 (qi _ (J:=Mk O) (p0:=aC) (Jn3 ((ae.mx u).stp a)) (Jn3 ((af.mx u).stp a)) (Jn3 ((ag.mx u).stp a)) (Jn3 ((ah.mx (cK (bI _) _) H R (R:3+5=8)).stp a).rdc) (Jn3 ((ai.mx (bI _) H R (R:3+6=9)).stp a).rdc) (Jn3 aj.rdc) aw)<|Ks 15 cQ λaF aD _ P V al=>⟨((T3 q a V).cl R),have t:=al;Jn 1 R (Jt1<|Jd<|Jj3<|Jc4 P E6 16 R Y31 bG R λac ab K o X am=>Tv<|Jb 1 R<|Jq<|Jf3 R<|Ob h λI au aq=>Jx1 (λp e=>∃f,∃n:VI,∃k i,p=[(4,.slice k n.length i)]/\Stp [16] o K f e/\Oc E6 2 f e 16 k i n/\I=EW n) (Jv<|Ju3 [3] (λc M p e=>∃f b,∃d:VI,∃j g,p=(4,.slice j d.length g)::(5,vi b)::M/\Stp [16] o K f e/\Oc E6 2 f e 16 j g d/\0<=b/\ES ((L.length:Int)-b)=c/\cntM (jw L) c b d=some I) ⟨_,_,⟨o,0,([]:VI),ac,ab,R,Jo3,am,(by decide),(by simp),au⟩,(KM R)⟩ ?_) ?_)⟩⟩⟩)
 rintro c _ _ ⟨x,b,d,j,g,rfl,Y,an,F,m,h⟩
 rcases c with _|c
 exact Jq<|Jl3 2 R<|Js3 R U129 R R<|Jb 1 R<|Jx2 R (dcf m)<|Jc1<|Jt<|Jt<|Jb1<|Oh h<|Jw1 _ ⟨x,d,j,g,R,Fct,an,R⟩<|KM R
 refine Ob h λaX h ar=>Jq<|Jl3 2 R<|Js3 R U129 R R<|Jb 1 R<|Jw2 R (dct m)<|Js<|Jp<|Jq<|Jv<|Jm3 3 R<|Ob h λ_ G h=>Jd3 R t.rdc G U129 Z4<|Jc3 R I4 ((t.stp<|X.tr Y).rdc.gBool G)<|Ob h λaA ax h=>Jw3 R call180 (mn (J:=Mk x) ax)<|Ki λ_ S _=>Tv<|Jn 1 R<|Ji4 S 19 [(ET .i64 (1-aA))] R Y31 bG R λaN aJ _ T _ ao=>Tv<|Ob h λaB ay h=>Jd4 T E6 16 [] R Y31 bG R Fct (EV (bO _) ao.rdc) bJ ay R λZ aa _ U _ ap=>Tv<|Jc 1 R<|Jz<|Jp<|Jg3 R<|wr2 F m t.len_le ▸ ?_
 cases h
 exact Ja2 ⟨U,b+1,aB,Z,aa,R,Fct,ap,nxz F,nxm m,ar⟩ R
 rintro _ _ ⟨Q,n,k,i,rfl,_,_,rfl⟩
 exact have h:=yI aq;Jp (Jf3 R<|Ju<|Jb2 (l:=[.tmp 2]) results186 (Jq2 R R) R<|Oh h<|⟨(λs=>ren [(16,2)]<|Q s),k,i,R,Fct,Fct⟩)
theorem wG {q o u s x v t p z y}{p0:l7Game}{n H}{p1:VB}{p2:Int}(ad:Rd Ri J w 0 q o p0.owner) (ae:Rd Ri J w 0 u s p0.prio) (af:Rd Rs J w 0 x v p0.next) (ag:Rd Rs J w 0 t p p0.prev) (ah:Rd Ri J w 0 z y p0.pick) (S:Rd Rp.bool J w 0 n H p1){r:Bool}(h:pQ p0 p1 p2=some r):Ret prog 210 [.agg #[.slice q p0.owner.length o,.slice u p0.prio.length s,.slice x p0.next.length v,.slice t p0.prev.length p,.slice z p0.pick.length y],.slice n p1.length H,vi p2] w (Pvb J w r):=by
 refine Jp3 J func210 R ntmps210 R λai=>Jj3<|Jx3 J 2 R λ_ _ L O Q=>Tv<|Jb 1 R<|Jj3<|Jg4 tv R (Jh4 (haE Q.cells) I204 Z204 R)<|Jn 1 R (Ob h λaa X h=>have f:=S.stp O;Jw3 R call205 (qi _ (J:=Mk L) (p0:=p0) Gct Gct Gct Gct Gct Gct X) (Ks 5 cQ λab ac I d N P=>Tv<|have A:=P;Jb 1 R (Jq<|Jf3 R<|Ob h λG U B=>Jx1 (λe g=>∃i,e=[]/\Stp [] d I i g/\G=EW ()) (Jv<|Ju3 [1,2,7] (λb K e g=>∃i a,e=(8,vi a)::K/\Stp [] d I i g/\0<=a/\ES ((p1.length:Int)-a)=b/\cntM (kM p1 p2 aa) b a ()=some G) ⟨_,_,⟨d,0,R,Jo3,(by decide),(by simp),U⟩,(KM R)⟩ ?_) ?_)))
 rintro b _ Z ⟨j,a,rfl,m,C,c,h⟩
 rcases b with _|b
 exact Jq<|Jl3 2 R<|Js3 R U129 R R<|Jb 1 R<|Jx2 R (dcf c)<|Jc1<|Jt<|Jt<|Jb1<|Oh h<|Jw1 _ ⟨j,R,Fct,R⟩ KN
 refine Ob h λaj h D=>Jq<|Jl3 2 R<|Js3 R U129 R R<|Jb 1 R<|Jw2 R (dct c)<|Js<|Jp<|Jq<|Jv<|Jl3 2 R<|Ob h λak E h=>Jd3 R f E U129 Z4<|Jc3 R I4 ((f.stp<|N.tr m).gBool E)<|Jn 1 R<|Ob h λY h T=>Jk4 [1,2,7,8] 30 Y j Z 8 tv ?_ ?_
 exact Bk h (λV h=>Jn 3 R<|Je4 R<|Jn 4 R<|Oh h<|Jl4 tv R) (λV h=>Jn 2 R<|Ob h λ_ F h=>Jd3 R A.rdc F U129 Z4<|Jc3 R I4 ((A.stp m).rdc.gBool F)<|Jn 2 R<|Jf R (zI R R U4 R)<|Jn 1 R<|Oh h<|Jl4 tv R)
 rintro _ _ _ ⟨rfl,k,_⟩
 refine have h:=T;Jd ?_
 refine Bk h (λW h=>Jy R<|Js<|Jz<|Jp<|Jg3 R<|wr2 C c f.len_le ▸ ?_) (λW h=>Jx R<|Jf3 R<|Ju<|Ja1<|Jw<|Jw ?_)
 cases h
 exact Ja2 ⟨k,a+1,R,Fct,nxz C,nxm c,D⟩ R
 cases h
 obtain rfl:=EU D
 exact have h:=yL B;Ja1 (Jr2<|Jw<|Jb2 (l:=[.tmp 6]) results210 (Jq2 R R) R<|Oh h<|⟨k,R,Fct⟩)
 rintro _ _ ⟨M,rfl,_,rfl⟩
 exact have h:=yI B;Jp (Jf3 R<|Ju<|Jb2 (l:=[.tmp 6]) results210 (Jq2 R R) R<|Oh h<|⟨M,R,Fct⟩)
theorem tA {p0:Sig}{G E H F}{p1:Machine}(v:Rd Rs J w 0 G E p1.Next) (n:Rd Rs J w 0 H F p1.Out){r:Bool}(h:lP p0 p1=some r):Ret prog 34 [.agg #[vi p0.In,vi p0.Out],.agg #[.slice G p1.Next.length E,.slice H p1.Out.length F]] w (Pvb J w r):=by
 refine Jp3 J func34 R ntmps34 R λaH=>Jj3<|Jx3 J 2 R λ_ _ W s aa=>Tv<|Jx3 W 3 R λ_ aE Z m u=>Tv<|Jb 1 R<|Jj3<|Je3 R U38 R Z32<|Jc3 R I32 (u.ld 0 R R)<|Js3 R U32 R R<|Jb 1 R<|Jq<|Jl3 3 R<|Ob h λax h af=>Jk4 [2,3,5] 16 ax Z aE 3 tv ?_ ?_
 exact Bk h (λak h=>Jn 3 R<|Oh h<|Jl4 tv R) (λak h=>Jn 3 R<|Oh h<|Jl4 tv R)
 rintro _ aC _ ⟨rfl,V,c⟩
 refine Jn 1 R<|Ob af λay h ab=>Jk4 [2,3,5] 25 ay V aC 8 tv ?_ ?_
 exact Bk h (λal h=>Je3 R U38 R Z32 (have I:=u.stp c;Jc3 R I32 (I.ld 1 R R) (Js3 R U32 R R<|Je3 R U38 R Z32<|Jc3 R I32 (I.ld 0 R R)<|Js3 R U32 R R<|Jn 2 R<|Oh h<|Jl4 tv R))) (λal h=>Jn 1 R<|Je4 R<|Jn 2 R<|Je4 R<|Jn 3 R<|Oh h<|Jl4 tv R)
 rintro _ T _ ⟨rfl,j,f⟩
 refine have h:=ab;Jd ?_
 refine Bk h (λam h=>Jy R<|Js<|Jp<|Jq<|Jj3<|Je3 R U38 R Z32 (have t:=u.stp (c.tr f);Jc3 R I32 (t.ld 0 R R) (Js3 R U32 R R<|Jb 1 R<|Ob h λS aj L=>Jx1 (λq x=>∃y,q=[]/\Stp [] j T y x/\S=EW ()) (Jv<|Ju3 [2,3,5,27,28] (λi U q x=>∃y e,q=(29,vi e)::U/\Stp [] j T y x/\0<=e/\ES ((p1.Next.length:Int)-e)=i/\cntM (iF p0 p1) i e ()=some S) ⟨_,_,⟨j,0,R,Jo3,(by decide),(by simp),aj⟩,(KM R)⟩ ?_) ?_))) (λam h=>Jx R<|Jf3 R<|Ju<|Jw<|Jb2 (l:=[.tmp 4]) results34 (Jq2 R R) R<|Oh h<|⟨j,R,Fct⟩)
 rintro i _ _ ⟨p,e,rfl,d,M,o,h⟩
 rcases i with _|i
 exact Jf3 R<|Jq<|Jx2 R (dcf o)<|Jc1<|Jt<|Jt<|Jb1<|Oh h<|Jw1 _ ⟨p,R,Fct,R⟩ KN
 refine Ob h λaI h N=>Jf3 R<|Jq<|Jw2 R (dct o)<|Js<|Jp<|Jq<|Jv<|Jl3 1 R<|Ob h λaJ O h=>Jd3 R v O U32 Z31 ?_
 obtain⟨_,_,_,ag⟩:=(v.stp (T5 s m c f d)).gSl O
 refine Jc3 R I31 ag<|Jb 2 R<|Jq<|Xn p [0,2,3] [2,5,6,10,14,17,20,26,38,41,21,29,30,35,44,47,50,53,56,58,62,65,68,71,77,86,72,80,81,87,92,94,98,101] λ_ g=>Jn 1 R<|Js3 R U31 R R (have K:=aa.stp (T5 m c f d g);Jg R (Jh4 (haC K.cells R) I28 Z28 R) (Ob h λaK ar h=>Jw3 R C25 (cF (J:=Mk p) (p0:=p0) ar)<|Ki λaD Y a=>⟨(a.cl R),Jn 2 R<|Ob h λaz h ac=>Jk4 [2,3,5,6,7,27,28,29] 49 az Y aD 10 (a.cl R) ?_ ?_⟩))
 refine Bk h (λan h=>Je3 R U38 R Z32<|Jn 2 R<|Js3 R U31 R R<|Jg R (Jd2 I32 R R<|hvC ((t.stp<|d.tr g).ld 1 R R) R)<|Ob h λ_ P h=>Jd3 R n P U32 Z31 ?_) (λan h=>Jn 4 R<|Jf4 R<|Jn 1 R<|Jf4 R<|Jn 3 R<|Oh h<|Jv1 _ (a.cl R) ⟨R,_,Jo3⟩<|KM R)
 obtain⟨_,_,_,ah⟩:=(n.stp (T6 s m c f d g)).gSl P
 exact Jg R (Jd2 I31 R R<|hvC ah R)<|Js3 R U31 R R<|Jn 2 R<|Oh h<|Jv1 _ (a.cl R) ⟨R,_,Jo3⟩<|KM R
 rintro _ aF _ ⟨rfl,z,b⟩
 refine Jn 1 R<|Ob ac λaA h ad=>Jk4 [2,3,5,6,27,28,29] 55 aA z aF 5 ((a.tr b).cl R) ?_ ?_
 exact Bk h (λao h=>Jn 2 R<|Ob h λ_ au h=>Jw3 R call80 (dO (J:=Mk z) Gct au)<|Kb λ_ _ C=>⟨((T3 a b C).cl R),Jn 2 R<|Oh h<|Jv1 _ ((T3 a b C).cl R) ⟨R,_,Fct⟩<|KM R⟩) (λao h=>Jn 2 R<|Je4 R<|Jn 2 R<|Oh h<|Jv1 _ ((a.tr b).cl R) ⟨R,_,Jo3⟩<|KM R)
 rintro _ aG _ ⟨rfl,A,k⟩
 refine Jn 1 R<|Ob ad λaB h ae=>Jk4 [2,3,5,27,28,29] 67 aB A aG 11 ((T3 a b k).cl R) ?_ ?_
 refine Bk h (λap h=>Je3 R U38 R Z32<|Jn 1 R<|Je3 R U28 R Z2<|Jg R (Jd2 I32 R R<|hvC ((t.stp<|d.tr g).ld 1 R R) R)<|Ob h λ_ Q h=>Jd3 R n Q U32 Z31 ?_) (λap h=>Jn 3 R<|Jf4 R<|Jn 1 R<|Jf4 R<|Jf4 R<|Jn 1 R<|Je4 R<|Jn 2 R<|Oh h<|Jv1 _ ((T3 a b k).cl R) ⟨R,_,Jo3⟩<|KM R)
 obtain⟨_,_,_,ai⟩:=(n.stp (T6 s m c f d g)).gSl Q
 exact Jg R (Jd2 I31 R R<|hvC ai R)<|Jg R (Jd2 I2 R R<|hvC (K.ld 1 R R) R)<|Ob h λ_z64 aw h=>Jf R (oP R R R<|r8 aw)<|Ob h λ_ av h=>Jw3 R call80 (dO (J:=Mk A) Gct av)<|Kb λ_ _ D=>⟨((T4 a b k D).cl R),Jn 2 R<|Oh h<|Jv1 _ ((T4 a b k D).cl R) ⟨R,_,Fct⟩<|KM R⟩
 rintro _ _ _ ⟨rfl,B,_⟩
 refine have h:=ae;Jt1 (Jd ?_)
 refine Bk h (λaq h=>Jy R<|Js<|Jz<|Jp<|Jg3 R<|wr2 M o v.len_le ▸ ?_) (λaq h=>Jx R<|Jf3 R<|Ju<|Ja1<|Jw<|Jw ?_)
 cases h
 exact Ja2 ⟨B,e+1,R,Fct,nxz M,nxm o,N⟩ R
 cases h
 obtain rfl:=EU N
 exact have h:=yL L;Ja1 (Jr2<|Jw<|Jb2 (l:=[.tmp 4]) results34 (Jq2 R R) R<|Oh h<|⟨B,R,Fct⟩)
 rintro _ _ ⟨X,rfl,_,rfl⟩
 exact have h:=yI L;Jp (Jf3 R<|Ju<|Jb2 (l:=[.tmp 4]) results34 (Jq2 R R) R<|Oh h<|⟨X,R,Fct⟩)
theorem nu {p0:Sig}{B z C A}{p1:Rival}(ar:Rd Ri J w 0 B z p1.In) (p:Rd Rs J w 0 C A p1.Next){r:Bool}(h:kQ p0 p1=some r):Ret prog 35 [.agg #[vi p0.In,vi p0.Out],.agg #[.slice B p1.In.length z,.slice C p1.Next.length A]] w (Pvb J w r):=by
 refine Jp3 J func35 R ntmps35 R λau=>Jj3<|Jx3 J 2 R λ_ _ O S E=>Tv<|Jx3 O 3 R λ_ _ u o g=>Tv<|Jb 1 R<|Jj3<|Je3 R U34 R Z31<|Jc3 R I31 (g.ld 0 R R)<|Js3 R U31 R R<|Jb 1 R<|Jq<|Jq<|Xn u [2,3] [2,5,8,11,14,17,20,23,32,24,29,33,38,41,44,47,50,51,54,58,61,65,68] λan c=>Jn 3 R<|Ob h λaj h T=>Jk4 [2,3,5] 16 aj u an 3 (Cl.refl _ _ _) ?_ ?_
 exact Bk h (λZ h=>Jn 3 R<|Oh h<|Jv1 _ (Cl.refl _ _ _) ⟨R,_,Jo3⟩<|KM R) (λZ h=>Jn 3 R<|Oh h<|Jv1 _ (Cl.refl _ _ _) ⟨R,_,Jo3⟩<|KM R)
 rintro _ ao _ ⟨rfl,N,a⟩
 refine Jn 1 R<|Ob T λak h U=>Jk4 [2,3,5] 25 ak N ao 8 (a.cl R) ?_ ?_
 exact Bk h (λaa h=>Je3 R U34 R Z32<|Je3 R U34 R Z31 (have D:=g.stp c;Jg R (Jd2 I32 R R<|hvC (D.ld 1 R R) R) (Js3 R U32 R R<|Jg R (Jd2 I31 R R<|hvC (D.ld 0 R R) R)<|Js3 R U31 R R<|Jn 2 R<|Oh h<|Jv1 _ (a.cl R) ⟨R,_,Jo3⟩<|KM R))) (λaa h=>Jn 2 R<|Jf4 R<|Jn 1 R<|Jf4 R<|Jn 3 R<|Oh h<|Jv1 _ (a.cl R) ⟨R,_,Jo3⟩<|KM R)
 rintro _ ap _ ⟨rfl,t,b⟩
 refine Jn 1 R<|Ob U λal h V=>Jk4 [2,3,5] 33 al t ap 7 ((a.tr b).cl R) ?_ ?_
 exact Bk h (λab h=>Je3 R U34 R Z31<|Jg R (Jd2 I31 R R<|hvC ((g.stp c).ld 0 R R) R)<|Jg R (Jh4 (haC (E.stp<|o.tr c).cells R) I28 Z28 R)<|Ob h λ_ af h=>Jw3 R C25 (cF (J:=Mk t) (p0:=p0) af)<|Ki λ_ P m=>⟨((T3 a b m).cl R),Ob h λ_ ag h=>Jw3 R call80 (dO (J:=Mk P) Gct ag)<|Kb λ_ _ x=>⟨((T4 a b m x).cl R),Jn 2 R<|Oh h<|Jv1 _ ((T4 a b m x).cl R) ⟨R,_,Fct⟩<|KM R⟩⟩) (λab h=>Jn 1 R<|Jf4 R<|Jf4 R<|Je4 R<|Je4 R<|Jn 2 R<|Oh h<|Jv1 _ ((a.tr b).cl R) ⟨R,_,Jo3⟩<|KM R)
 rintro _ L _ ⟨rfl,f,n⟩
 refine have h:=V;Jt1 (Jd ?_)
 refine Bk h (λac h=>Jy R<|Js<|Jp<|Jq<|Jj3<|Je3 R U34 R Z32<|Jc3 R I32 ((g.stp<|T4 c a b n).ld 1 R R)<|Js3 R U32 R R<|Jb 1 R<|Ob h λK Y F=>Jx1 (λk q=>∃s,k=[]/\Stp [] f L s q/\K=EW ()) (Jv<|Ju3 [2,5,35,36] (λe M k q=>∃s d,k=(37,vi d)::M/\Stp [] f L s q/\0<=d/\ES ((p1.Next.length:Int)-d)=e/\cntM (kg p0 p1) e d ()=some K) ⟨_,_,⟨f,0,R,Jo3,(by decide),(by simp),Y⟩,(KM R)⟩ ?_) ?_) (λac h=>Jx R<|Jf3 R<|Ju<|Jw<|Jb2 (l:=[.tmp 4]) results35 (Jq2 R R) R<|Oh h<|⟨f,R,Fct⟩)
 rintro e _ aq ⟨j,d,rfl,y,G,i,h⟩
 rcases e with _|e
 exact Jf3 R<|Jq<|Jx2 R (dcf i)<|Jc1<|Jt<|Jt<|Jb1<|Oh h<|Jw1 _ ⟨j,R,Fct,R⟩ KN
 refine Ob h λav h H=>Jf3 R<|Jq<|Jw2 R (dct i)<|Js<|Jp<|Jq<|Jv<|Jj3<|Ob h λaw I h=>Jd3 R p I U32 Z31 ?_
 obtain⟨_,_,_,X⟩:=(p.stp (T7 S o c a b n y)).gSl I
 refine Jc3 R I31 X<|Jb 1 R<|Jl3 1 R<|Js3 R U31 R R<|Je3 R U28 R Z2<|Jc3 R I2 ((E.stp<|T6 o c a b n y).ld 1 R R)<|Ob h λ_z45 ai h=>Jf R (oP R R R<|r8 ai)<|Jn 2 R<|Ob h λam h W=>Jk4 [2,5,35,36,37] 52 am j aq 5 tv ?_ ?_
 exact Bk h (λad h=>Jn 2 R<|Ob h λ_ ah h=>Jw3 R call80 (dO (J:=Mk j) Gct ah)<|Kb λ_ _ _=>Tv<|Jn 2 R<|Oh h<|Jv1 _ tv ⟨R,_,Fct⟩<|KM R) (λad h=>Jn 2 R<|Je4 R<|Jn 2 R<|Oh h<|Jl4 tv R)
 rintro _ _ _ ⟨rfl,v,_⟩
 refine have h:=W;Jd ?_
 refine Bk h (λae h=>Jy R<|Js<|Jz<|Jp<|Jg3 R<|wr2 G i p.len_le ▸ ?_) (λae h=>Jx R<|Jf3 R<|Ju<|Ja1<|Jw<|Jw ?_)
 cases h
 exact Ja2 ⟨v,d+1,R,Fct,nxz G,nxm i,H⟩ R
 cases h
 obtain rfl:=EU H
 exact have h:=yL F;Ja1 (Jr2<|Jw<|Jb2 (l:=[.tmp 4]) results35 (Jq2 R R) R<|Oh h<|⟨v,R,Fct⟩)
 rintro _ _ ⟨Q,rfl,_,rfl⟩
 exact have h:=yI F;Jp (Jf3 R<|Ju<|Jb2 (l:=[.tmp 4]) results35 (Jq2 R R) R<|Oh h<|⟨Q,R,Fct⟩)
theorem wb {p0:Sig}{z s q x}{p1:Clause}{u y v t}{p2:Word}(aG:Rd Ri J w 0 z s p1.A) (aH:Rd Ri J w 0 q x p1.B) (aI:Rd Ri J w 0 u y p2.Stem) (W:Rd Ri J w 0 v t p2.Loop){r:Bool}(h:pD p0 p1 p2=some r):Ret prog 83 [.agg #[vi p0.In,vi p0.Out],.agg #[vi p1.Kind,.slice z p1.A.length s,.slice q p1.B.length x],.agg #[.slice u p2.Stem.length y,.slice v p2.Loop.length t]] w (Pvb J w r):=by
 refine Jp3 J func83 R ntmps83 R λaJ=>Jj3<|Jx3 J 2 R λ_ _ K S T=>Tv<|Jx3 K 3 R λ_ _ M p V=>Tv<|Jx3 M 4 R λ_ _ E i A=>Tv<|Jb 1 R<|Jq<|Jj3 (have B:=T.stp (p.tr i);Jg4 tv R (Jh4 (haE B.cells) I28 Z28 R) (have D:=V.stp i;Jg4 tv R (Jh4 (haE D.cells) I54 Z54 R) (Ob h λaK ai h=>Jw3 R call134 (mG (J:=Mk E) (p0:=p0) (p1:=p1) Gct Gct ai)<|Kb λaA n f=>Tv<|Jn 2 R<|Ob h λaw h Y=>Jk4 [4,5] 17 aw n aA 5 tv ?_ ?_)))
 exact Bk h (λac h=>Jg4 tv R (Jh4 (haE (B.stp f).cells) I28 Z28 R)<|Jg4 tv R (Jh4 (haE (A.stp f).cells) I44 Z44 R)<|Ob h λ_ aj h=>Jw3 R call82 (sd (J:=Mk n) (p0:=p0) (p1:=p2) Gct Gct aj)<|Kb λ_ _ _=>Tv<|Jn 2 R<|Oh h<|Jv1 _ tv ⟨R,_,Fct⟩<|KM R) (λac h=>Je4 R<|Je4 R<|Je4 R<|Jn 2 R<|Oh h<|Jl4 tv R)
 rintro _ _ _ ⟨rfl,g,j⟩
 refine have h:=Y;Jd ?_
 refine Bk h (λad h=>Jy R<|Js<|Jp<|Jq<|Js1 (J:=g) [4] none [(0,2),(3,2),(1,0),(4,0),(2,1),(5,1),(6,2)] [] (by kernel_rfl) (by kernel_rfl) λ_ k=>Je3 R U44 R Z31<|Je3 R U44 R Z31 (have e:=A.stp (T3 f j k);Jg R (Jd2 I31 R R<|hvC (e.ld 0 R R) R) (Jg R (Jd2 I31 R R<|hvC (e.ld 1 R R) R)<|Ob h λ_ ak h=>Jw3 R C95 (dv (J:=Mk g) Gct ak)<|Ks 9 (bI _) λaC aD _ L a U=>⟨(a.cl R),Ob h λ_ al h=>Jd4 L E6 9 [] R Y31 bG R U (EV (bO _)<|W.stp<|T7 S p i f j k a) bJ al R λaF aE _ c d _=>⟨((a.tr d).cl R),Jn 1 R<|Jt1<|Jd<|Jq<|Jj3<|Je3 R U54 R Z2 (have b:=D.stp (T5 f j k a d);Jc3 R I2 (b.ld 0 R R) (Jd<|Jv<|Jf3 R ?_))⟩⟩))) (λad h=>Jx R<|Jf3 R<|Ju<|Jw<|Jb2 (l:=[.tmp 6]) V83 (Jq2 R R) R<|Oh h<|⟨g,R,Fct⟩)
 refine Bk h (λae h=>Jy R<|Jf3 R ?_) (λae h=>Jx R<|Jl3 1 R<|Je3 R U54 R Z31<|Jc3 R I31 (b.ld 1 R R)<|Ob h λ_ am h=>Jw3 R call136 (rf (J:=Mk c) Gct Gct am)<|Kb λ_ N _=>Tv<|Jb 1 R<|Ju<|Ja1<|Jw<|Jb2 (l:=[.tmp 6]) V83 (Jq2 R R) R<|Oh h<|⟨N,R,Fct⟩)
 refine Bk h (λaf h=>Jy R<|Jf3 R ?_) (λaf h=>Jx R<|Jj3<|Jg4 tv R (Jh4 (haE b.cells) I54 Z54 R)<|Jn 1 R<|Je3 R U44 R Z31<|Jc3 R I31 ((e.stp<|a.tr d).ld 0 R R)<|Js3 R U31 R R<|Ob h λ_ an h=>Jw3 R call137 (wz (J:=Mk c) (p0:=p1) Gct Gct Gct an)<|Kb λ_ O _=>Tv<|Jb 1 R<|Ju<|Ja1<|Jw<|Jb2 (l:=[.tmp 6]) V83 (Jq2 R R) R<|Oh h<|⟨O,R,Fct⟩)
 refine Bk h (λag h=>Jy R<|Jf3 R ?_) (λag h=>Jx R<|Jj3<|Jg4 tv R (Jh4 (haE b.cells) I54 Z54 R)<|Jg4 tv R (Jh4 (haE (e.stp<|a.tr d).cells) I44 Z44 R)<|Jn 1 R<|Ob h λ_ ao h=>Jw3 R call138 (uk (J:=Mk c) (p0:=p1) (p1:=p2) Gct Gct Gct Gct Gct ao)<|Kb λ_ P _=>Tv<|Jb 1 R<|Ju<|Ja1<|Jw<|Jb2 (l:=[.tmp 6]) V83 (Jq2 R R) R<|Oh h<|⟨P,R,Fct⟩)
 refine Bk h (λah h=>Jy R<|Jf3 R ?_) (λah h=>Jx R<|Jj3<|Je3 R U44 R Z31<|Jc3 R I31 ((e.stp<|a.tr d).ld 1 R R)<|Je3 R U54 R Z31<|Jc3 R I31 (b.ld 1 R R)<|Ob h λ_ ap h=>Jw3 R call139 (gG (J:=Mk c) Gct Gct ap)<|Kb λ_ F _=>Tv<|Jb 1 R<|Ju<|Ja1<|Jw<|Jb2 (l:=[.tmp 6]) V83 (Jq2 R R) R<|Oh h<|⟨F,R,Fct⟩)
 refine Bk h (λZ h=>Jy R<|Jf3 R ?_) (λZ h=>Jx R<|Jj3<|Je3 R U44 R Z31<|Jc3 R I31 ((e.stp<|a.tr d).ld 1 R R)<|Je3 R U54 R Z31<|Jc3 R I31 (b.ld 1 R R)<|Ob h λ_ aq h=>Jw3 R call136 (rf (J:=Mk c) Gct Gct aq)<|Kb λ_ G _=>Tv<|Jb 1 R<|Ju<|Ja1<|Jw<|Jb2 (l:=[.tmp 6]) V83 (Jq2 R R) R<|Oh h<|⟨G,R,Fct⟩)
 refine Bk h (λaa h=>Jy R<|Js<|Jz<|Jp<|Jj3<|Je3 R U44 R Z31 (have C:=e.stp (a.tr d);Jc3 R I31 (C.ld 1 R R) (Je3 R U54 R Z31<|Jc3 R I31 (b.ld 1 R R)<|Ob h λaL au h=>Jw3 R call139 (gG (J:=Mk c) Gct Gct au)<|Kb λaz m o=>Tv<|Jn 2 R<|Ob h λax h X=>Ju1 [(7,2),(8,1),(9,2),(10,1),(11,1),(12,2)] [(13,2)] (λQ ay=>Q=[(78,.bool ax)]/\∃aB,Stp [] m az aB ay) tv ?_ ?_))) (λaa h=>Jx R<|Jl3 1 R<|Je3 R U54 R Z31<|Jc3 R I31 (b.ld 1 R R)<|Ob h λ_ ar h=>Jw3 R call139 (gG (J:=Mk c) Gct Gct ar)<|Kb λ_ H _=>Tv<|Jb 1 R<|Ju<|Ja1<|Jw<|Jb2 (l:=[.tmp 6]) V83 (Jq2 R R) R<|Oh h<|⟨H,R,Fct⟩)
 exact Bk h (λab h=>Je3 R U44 R Z31<|Jc3 R I31 ((C.stp o).ld 1 R R)<|Je3 R U54 R Z31<|Jc3 R I31 ((b.stp o).ld 2 R R)<|Ob h λ_ av h=>Jw3 R call139 (gG (J:=Mk m) Gct Gct av)<|Kb λ_ _ _=>Tv<|Jn 1 R<|Oh h<|Jv1 _ tv ⟨R,_,Fct⟩<|KM R) (λab h=>Jn 1 R<|Je4 R<|Jn 1 R<|Je4 R<|Je4 R<|Jn 1 R<|Oh h<|Jl4 tv R)
 rintro _ _ _ ⟨rfl,I,_⟩
 exact have h:=X;Jb 1 R (Ju<|Jb2 (l:=[.tmp 6]) V83 (Jq2 R R) R<|Oh h<|⟨I,R,Fct⟩)
theorem tE {a c}{p0:VI}{b d}{p1:VI}(k:Rd Ri J w 0 a c p0) (m:Rd Ri J w 0 b d p1){r:Bool}(h:pp p0 p1=some r):Ret prog 145 [.slice a p0.length c,.slice b p1.length d] w (Pvb J w r):=by
 refine Jp3 J func145 R ntmps145 R λn=>Jf3 R<|Jl3 2 R<|Ob h λ_ g h=>Jw3 R call87 (rZ (J:=Mk J) Gct Gct g) ?_
 rintro _ _ ⟨_,i,j,rfl,f,_⟩
 exact Im f 2 R (λe _ _=>Tv<|Js3 R U31 R R<|Jn 1 R<|Js3 R U31 R R<|Jb 2 R<|Ju<|Jb2 (l:=[.tmp 4]) results145 (Jq2 R R) R<|Oh h<|⟨e,R,Fct⟩)
theorem o8 {b d}{p0:VI}{c e}{p1:VI}(o:Rd Ri J w 0 b d p0) (p:Rd Ri J w 0 c e p1){r:Bool}(h:na p0 p1=some r):Ret prog 155 [.slice b p0.length d,.slice c p1.length e] w (Pvb J w r):=by
 refine Jp3 J func155 R ntmps155 R λq=>Jf3 R<|Jl3 1 R<|Ob h λs j h=>Jw3 R call182 (lr (J:=Mk J) Gct j)<|Kb λn a _=>Tv<|Jn 1 R<|Ob h λm h g=>Jk4 [4] 10 m a n 3 tv ?_ ?_
 exact Bk h (λi h=>Jn 1 R<|Je4 R<|Jn 1 R<|Oh h<|Jl4 tv R) (λi h=>Jn 1 R<|Ob h λ_ k h=>Jw3 R call182 (lr (J:=Mk a) Gct k)<|Kb λ_ _ _=>Tv<|Jn 1 R<|Oh h<|Jv1 _ tv ⟨R,_,Fct⟩<|KM R)
 rintro _ _ _ ⟨rfl,f,_⟩
 exact have h:=g;Jb 1 R (Ju<|Jb2 (l:=[.tmp 4]) results155 (Jq2 R R) R<|Oh h<|⟨f,R,Fct⟩)
theorem xi {i f g j}{p0:Word}{p1:Int}(K:Rd Ri J w 0 i f p0.Stem) (L:Rd Ri J w 0 g j p0.Loop){r:Bool}(h:qE p0 p1=some r):Ret prog 50 [.agg #[.slice i p0.Stem.length f,.slice g p0.Loop.length j],vi p1] w (Pvb J w r):=by
 refine Jp3 J func50 R ntmps50 R λM=>Jj3<|Jx3 J 2 R λ_ F k _ a=>Tv<|Jb 1 R<|Jj3<|Je3 R U44 R Z31<|Jc3 R I31 (a.ld 0 R R)<|Js3 R U31 R R<|Jn 2 R<|Ob h λB h t=>Jk4 [1,2,4] 14 B k F 5 tv ?_ ?_
 exact Bk h (λy h=>Jn 1 R<|Je4 R<|Jn 3 R<|Oh h<|Jl4 tv R) (λy h=>Je3 R U44 R Z31<|Jc3 R I31 (a.ld 1 R R)<|Js3 R U31 R R<|Jn 2 R<|Oh h<|Jl4 tv R)
 rintro _ I _ ⟨rfl,n,b⟩
 refine Jn 1 R<|Ob t λC h p=>Jk4 [1,2,4] 20 C n I 5 tv ?_ ?_
 exact Bk h (λu h=>Jn 1 R<|Je4 R<|Jn 3 R<|Oh h<|Jl4 tv R) (λu h=>Je3 R U44 R Z31<|Jc3 R I31 ((a.stp b).ld 1 R R)<|Js3 R U31 R R<|Jn 2 R<|Oh h<|Jl4 tv R)
 rintro _ G _ ⟨rfl,c,e⟩
 refine Jn 1 R<|Ob p λD h q=>Jk4 [1,2,4] 26 D c G 5 tv ?_ ?_
 exact Bk h (λv h=>Jn 1 R<|Je4 R<|Jn 1 R<|Je4 R<|Jn 1 R<|Oh h<|Jl4 tv R) (λv h=>Je3 R U44 R Z31<|Jc3 R I31 ((a.stp<|b.tr e).ld 0 R R)<|Jn 1 R<|Ob h λ_ z h=>Jw3 R call80 (dO (J:=Mk c) Gct z)<|Kb λ_ _ _=>Tv<|Jn 1 R<|Oh h<|Jv1 _ tv ⟨R,_,Fct⟩<|KM R)
 rintro _ H _ ⟨rfl,d,o⟩
 refine Jn 1 R<|Ob q λE h s=>Jk4 [4] 32 E d H 5 tv ?_ ?_
 exact Bk h (λx h=>Jn 1 R<|Je4 R<|Jn 1 R<|Je4 R<|Jn 1 R<|Oh h<|Jl4 tv R) (λx h=>Je3 R U44 R Z31<|Jc3 R I31 ((a.stp<|T3 b e o).ld 1 R R)<|Jn 1 R<|Ob h λ_ A h=>Jw3 R call80 (dO (J:=Mk d) Gct A)<|Kb λ_ _ _=>Tv<|Jn 1 R<|Oh h<|Jv1 _ tv ⟨R,_,Fct⟩<|KM R)
 rintro _ _ _ ⟨rfl,m,_⟩
 exact have h:=s;Jb 1 R (Ju<|Jb2 (l:=[.tmp 4]) results50 (Jq2 R R) R<|Oh h<|⟨m,R,Fct⟩)
end
end Go.Proofs.YtfombamjdkihnaaGreat
