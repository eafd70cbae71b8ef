/- The walks, part 8. By program. -/
import Derived.Test.YtldlmopdhmaceaaGreatDoorFns7BE
set_option linter.unusedVariables false
set_option linter.unusedSimpArgs false
open Int renaming toNat → FV
open Go.IntKind renaming wrap → FW
open Go.Wk.Ow renaming nil → FZ
open Go.Wk.Sl renaming srcP → FY
open Sum renaming inr → FX
namespace Go.Proofs.YtldlmopdhmaceaaGreatDoor
open Tryz
open Go Go.Wk Go.Proofs
set_option maxRecDepth 100000
set_option maxHeartbeats 1000000
section
variable {w:World}{J:Col}
theorem sO {o s p q}{p0:Clause}(ag:Rd Ri J w 0 o s p0.A) (ah:Rd Ri J w 0 p q p0.B){r:ByteArray}(h:gV p0=some r):Ret prog 7 [.agg #[vi p0.Kind,.slice o p0.A.length s,.slice p p0.B.length q]] w (λaa b=>∃c,aa= .string r/\Ent J w c b):=by
 refine Jp3 J func7 R ntmps7 R λai=>Jj3<|Jx3 J 2 R λ_ _ B _ j=>Tv<|Jb 1 R<|Jq<|Jj3<|Jf R (Jn4 [vi 2,vi 2] R)<|Jg4 tv R (Jh4 (haE j.cells) I32 Z32 R)<|Ob h λak X h=>Jw3 R call14 (mv (J:=Mk B) (p0:=(⟨2,2⟩:Sig)) (p1:=p0) Gct Gct X)<|Kb λac d n=>Tv<|Jb 1 R ?_
 refine Bk h (λQ h=>Jy R<|Js<|Jp<|Jq<|Ob h λ_ Y h=>Ob h λ_ k h=>Ob h λ_ v h=>Ob h λ_ x h=>Ob h λad y h=>Jt3 [1] (λz f b=>∃c,f=(3,.string ad)::z/\Stp [] d ac c b) (WC.rxt (J:=d) [2] none (by kernel_rfl) λ_ H=>Jq1 (fuel:=5) [(1,2),(7,2),(2,0),(3,2),(8,0),(0,1),(4,2)] (by kernel_rfl) (by kernel_rfl) R<|Je3 R U32 R Z2<|Je3 R U32 R Z30 (have t:=j.stp (n.tr H);Jg R (Jd2 I2 R R<|hvC (t.ld 0 R R) R) (Jn 1 R<|Jg R (Jd2 I30 R R<|hvC (t.ld 1 R R) R)<|Jw3 R call15 (uZ (J:=Mk d) Y)<|Ks 7 rM λae af _ m a O=>⟨(a.cl R),have i:=O;Jd3 R i.rdc k U33 Z9 (Jp1<|WA.fork2 (fuel:=4) 5 9 (by kernel_rfl) R (Jg4 (a.cl R) R (Jd2 I9 R R<|hvE<|i.rdc.gStr k)<|Xs 0 [20,28,32,35]<|Jf R (dg R R R v)<|Jw3 R call16 (kj (J:=Mk m) Gct x) ?_)<|Jw3 R call16 (kj (J:=Mk m) Gct x) ?_)⟩))) ?_) (λQ h=>Jx R<|Jf3 R<|Ju<|Jw<|Jb2 (l:=[.tmp 2]) results7 (Jq2 R R) R<|Oh h<|⟨d,R,Fct⟩)
 rintro _ _ ⟨_,rfl,L⟩
 exact Im L 8 R (λC I _=>⟨((a.tr I).cl R),Jf R (dg R R R y)<|Jn 1 R<|Xe<|Jo<|Jw1 _ ⟨C,R,Fct⟩<|KM R⟩)
 rintro _ _ ⟨_,rfl,M⟩
 exact Im M 8 R (λD g _=>⟨((a.tr g).cl R),Xs 0 [16,20,32,35]<|Jg4 ((a.tr g).cl R) R (Jd2 I9 R R<|hvE ((i.stp g).rdc.gStr k))<|Jf R (dg R R R v)<|Jf R (dg R R R y)<|Jn 1 R<|Xe<|Jo<|Jw1 _ ⟨D,R,Fct⟩<|KM R⟩)
 rintro _ _ ⟨A,rfl,G⟩
 refine Jp<|Jq<|Jj3<|Je3 R U32 R Z2 (have u:=j.stp (n.tr G);Jc3 R I2 (u.ld 0 R R) (Ob h λaj T h=>Jw3 R call17 (qW (J:=Mk A) T)<|Kb λab e K=>Tv<|Jd<|Ob h λZ h P=>Jx1 (λf b=>∃c,f=[(3,.string Z)]/\Stp [] e ab c b) ?_ ?_))
 refine Bk h (λS h=>Jy R<|Js<|Oh h<|Jw1 _ ⟨e,R,Jo3⟩<|KM R) (λS h=>Jx R<|Jm3 1 R<|Ob h λ_ U h=>Jf R (dg R R R U)<|Je3 R U32 R Z30<|Jc3 R I30 ((u.stp K).ld 2 R R)<|Ob h λ_ V h=>Jw3 R call16 (kj (J:=Mk e) Gct V) ?_)
 rintro _ _ ⟨_,rfl,N⟩
 exact Im N 7 R (λF _ _=>Tv<|Ob h λ_ W h=>Jf R (dg R R R W)<|Jc 1 R<|Oh h<|Jw1 _ ⟨F,R,Fct⟩<|KM R)
 rintro _ _ ⟨E,rfl,_⟩
 exact have h:=P;Jp (Jf3 R<|Ju<|Jb2 (l:=[.tmp 2]) results7 (Jq2 R R) R<|Oh h<|⟨E,R,Fct⟩)
theorem dH {a c}{p0:VC}{c1_0:Sig}{b}(f:Rd Clause.rp J w 0 a c p0) (g:Bc J w 0 b 39 [vi c1_0.In,vi c1_0.Out]){r:Bool}(h:co p0 c1_0=some r):Ret prog 170 [.slice a p0.length c,.func (.func 171) #[] #[.pointer (some ⟨b,0,none⟩)]] w (Pvb J w r):=by
 exact Jp3 J func170 R ntmps170 R λi=>Jf3 R<|Jl3 2 R<|Ob h λ_ e h=>Jw3 R call225 (dQ (J:=Mk J) (c1_0:=c1_0) Gct Fct e)<|Ki λ_ d _=>Tv<|Jb 2 R<|Ju<|Jb2 (l:=[.tmp 4]) results170 (Jq2 R R) R<|Oh h<|⟨d,R,Fct⟩
theorem tK {p0:Sig}{z v y x}{p1:Det}(k:Rd Rs J w 0 z v p1.Next) (ag:Rd Pair.rp J w 0 y x p1.Pairs){r:Bool}(h:qx p0 p1=some r):Ret prog 110 [.agg #[vi p0.In,vi p0.Out],.agg #[.slice z p1.Next.length v,.slice y p1.Pairs.length x]] w (Pvb J w r):=by
 refine Jp3 J func110 R ntmps110 R λah=>Jj3<|Jx3 J 2 R λ_ _ G K L=>Tv<|Jx3 G 3 R λ_ af I u j=>Tv<|Jb 1 R<|Jj3<|Je3 R U60 R Z51<|Jc3 R I51 (j.ld 0 R R)<|Js3 R U51 R R<|Jb 1 R<|Jq<|Jl3 3 R<|Ob h λaa h O=>Jk4 [2,3,5] 16 aa I af 3 tv ?_ ?_
 exact Bk h (λS h=>Jn 3 R<|Oh h<|Jl4 tv R) (λS h=>Jn 3 R<|Oh h<|Jl4 tv R)
 rintro _ ad _ ⟨rfl,o,e⟩
 refine Jn 1 R<|Ob O λab h M=>Jk4 [2,3,5] 23 ab o ad 6 tv ?_ ?_
 exact Bk h (λT h=>Je3 R U60 R Z58<|Jc3 R I58 ((j.stp e).ld 1 R R)<|Jn 1 R<|Ob h λ_ X h=>Jw3 R call174 (pK (J:=Mk o) Gct X)<|Kb λ_ _ _=>Tv<|Jn 2 R<|Oh h<|Jv1 _ tv ⟨R,_,Fct⟩<|KM R) (λT h=>Jn 1 R<|Je4 R<|Jn 1 R<|Je4 R<|Jn 2 R<|Oh h<|Jl4 tv R)
 rintro _ E _ ⟨rfl,d,i⟩
 refine have h:=M;Jd ?_
 refine Bk h (λU h=>Jy R<|Js<|Jp<|Jq<|Jj3<|Je3 R U60 R Z51<|Jc3 R I51 ((j.stp<|e.tr i).ld 0 R R)<|Js3 R U51 R R<|Jb 1 R<|Ob h λD Q A=>Jx1 (λg m=>∃n,g=[]/\Stp [] d E n m/\D=FX ()) (Jv<|Ju3 [2,5,25,26] (λc F g m=>∃n b,g=(27,vi b)::F/\Stp [] d E n m/\0<=b/\FV ((p1.Next.length:Int)-b)=c/\cntM (m9 p0 p1) c b ()=some D) ⟨_,_,⟨d,0,R,Jo3,(by decide),(by simp),Q⟩,(KM R)⟩ ?_) ?_) (λU h=>Jx R<|Jf3 R<|Ju<|Jw<|Jb2 (l:=[.tmp 4]) results110 (Jq2 R R) R<|Oh h<|⟨d,R,Fct⟩)
 rintro c _ _ ⟨p,b,rfl,t,B,f,h⟩
 rcases c with _|c
 exact Jf3 R<|Jq<|Jx2 R (dcf f)<|Jc1<|Jt<|Jt<|Jb1<|Oh h<|Jw1 _ ⟨p,R,Fct,R⟩ KN
 refine Ob h λai h a=>Jf3 R<|Jq<|Jw2 R (dct f)<|Js<|Jp<|Jq<|Jv<|Jj3<|Ob h λaj C h=>Jd3 R k C U51 Z30 ?_
 obtain⟨_,_,_,P⟩:=(k.stp (T5 K u e i t)).gSl C
 refine Jc3 R I30 P<|Jb 1 R<|Jl3 1 R<|Js3 R U30 R R<|Jg4 tv R (Jh4 (haE (L.stp<|T4 u e i t).cells) I39 Z39 R)<|Ob h λak Y h=>Jw3 R call80 (gf (J:=Mk p) (p0:=p0) Y)<|Ki λae q _=>Tv<|Jn 2 R<|Ob h λac h N=>Jk4 [2,5,25,26,27] 41 ac q ae 5 tv ?_ ?_
 exact Bk h (λV h=>Jn 2 R<|Ob h λ_ Z h=>Jw3 R call133 (kb (J:=Mk q) Gct Z)<|Kb λ_ _ _=>Tv<|Jn 2 R<|Oh h<|Jv1 _ tv ⟨R,_,Fct⟩<|KM R) (λV h=>Jn 2 R<|Je4 R<|Jn 2 R<|Oh h<|Jl4 tv R)
 rintro _ _ _ ⟨rfl,s,_⟩
 refine have h:=N;Jd ?_
 exact Bk h (λW h=>Jy R<|Js<|Jz<|Jp<|Jg3 R<|wr2 B f k.len_le ▸ (Ou h a (λa=>Ja2 ⟨s,b+1,R,Fct,nxz B,nxm f,a⟩ R))) (λW h=>Jx R<|Jf3 R<|Ju<|Ja1<|Jw<|Jw<|Ou h a (λa=>Ov a A (λh=>Ja1<|Jr2<|Jw<|Jb2 (l:=[.tmp 4]) results110 (Jq2 R R) R<|Oh h<|⟨s,R,Fct⟩)))
 rintro _ _ ⟨H,rfl,_,rfl⟩
 exact have h:=yI A;Jp (Jf3 R<|Ju<|Jb2 (l:=[.tmp 4]) results110 (Jq2 R R) R<|Oh h<|⟨H,R,Fct⟩)
theorem eT {aR aQ aN aO}{p0:Arena}{ar au}{p1:Place}{aT aP}{ae:VP}{aw}(a4:Rd Ri J w 0 aR aQ p0.Owner) (a5:Rd Rs J w 0 aN aO p0.Next) (de:Rd Ri J w 0 ar au p1.Record) (df:Rd Pair.rp J w 0 aT aP ae) (dg:Bc J w 0 aw 58 [.slice aT ae.length aP]){r:Parity×VL×Bool}(h:cW p0 p1 ae=some r):Ret prog 179 [.agg #[.slice aR p0.Owner.length aQ,.slice aN p0.Next.length aO],.agg #[vi p1.At,.slice ar p1.Record.length au],.func (.func 180) #[] #[.pointer (some ⟨aw,0,none⟩)],.func (.func 182) #[] #[.pointer (some ⟨aw,0,none⟩)]] w (λcT a=>∃b be bi bf bj bg bk bh bl,cT= .tuple #[.agg #[.slice be r.1.Arena.Owner.length bi,.slice bf r.1.Arena.Next.length bj,.slice bg r.1.Prio.length bk],.slice bh r.2.1.length bl,.bool r.2.2]/\Ent J w b a/\Oc E6 2 b a 2 be bi r.1.Arena.Owner/\Oc (Ep.fz Rs) 30 b a 3 bf bj r.1.Arena.Next/\Oc E6 2 b a 4 bg bk r.1.Prio/\Oc (Ep.fz Place.rp) 149 b a 5 bh bl r.2.1):=by
 refine Jp3 J func179 R ntmps179 R λdh=>Jj3<|Jx3 J 2 R λ_ _ bD aK co=>Tv<|Jx3 bD 3 R λ_ _ bE ap cs=>Tv<|Jy3 bE 4 R X55 R λ_ _ bq F _=>Tv<|Jb 2 R<|Jj3<|Jg4 tv R (Jh4 (haE (cs.stp F).cells) I149 Z149 R)<|Jb4 bq (Ep.fz Place.rp) 5 [] (parts:=[(0,.tmp 20)]) (cells:=[vi p1.At,.slice ar p1.Record.length au]) (xs:=([p1]:VL)) R Y126 eW R (Jj4<|Place.mk_rel<|Sl.z1 Fct) λbT bJ _ bA al _=>Tv<|Jb 1 R<|Jj3<|Jf R (Jn4 [.slice none 0 0,.slice none 0 0,.slice none 0 0] R)<|Jy3 bA 6 R X55 R λaU _ E an cl=>Tv<|Jm4 E 6 R Z55 R cl R λbm ao cm=>Tv<|Jd<|Jq<|Jf3 R<|Ob h λbc cC a7=>Jt3 [2,3,8,12] (λf g a=>∃b,∃e:VL×Int×VI×VV×VI,∃aa K U N L V Q T,g=(11,.slice aa e.1.length K)::f/\Stp [5,6,7,8,9,10,14,17,18,25,26,27] E bm b a/\Oc (Ep.fz Place.rp) 149 b a 5 aa K e.1/\Oc E6 2 b a 7 U N e.2.2.1/\Oc (Ep.fz<|Rs) 30 b a 8 L V e.2.2.2.1/\Oc E6 2 b a 9 Q T e.2.2.2.2/\Bc b a 6 aU 55 [.slice U e.2.2.1.length N,.slice L e.2.2.2.1.length V,.slice Q e.2.2.2.2.length T]/\bc=FX e) (Jv<|Ju3 [2,3,4,8,12] (λd f g a=>∃b,∃c:VL×Int×VI×VV×VI,∃z A X ac Z W I ab,g=(11,.slice z c.1.length A)::(13,vi c.2.1)::f/\Stp [5,6,7,8,9,10,14,17,18,25,26,27] E bm b a/\Oc (Ep.fz Place.rp) 149 b a 5 z A c.1/\Oc E6 2 b a 7 X ac c.2.2.1/\Oc (Ep.fz<|Rs) 30 b a 8 Z W c.2.2.2.1/\Oc E6 2 b a 9 I ab c.2.2.2.2/\Bc b a 6 aU 55 [.slice X c.2.2.1.length ac,.slice Z c.2.2.2.1.length W,.slice I c.2.2.2.2.length ab]/\ci (cj p0 ae) d c=some bc) ⟨_,_,⟨E,((([p1]:VL):VL),(0:Int),([]:VI),([]:VV),([]:VI)),bT,bJ,none,0,none,0,none,0,R,Jo3,Fct,FZ,FZ,FZ,cm,cC⟩,(KM R)⟩ ?_) ?_
 rintro d _ _ ⟨aG,c,z,A,X,ac,Z,W,I,ab,rfl,H,ax,aW,aX,aY,aZ,h⟩
 rcases d with _|d
 cases h
 refine Ob h λ_ h az=>Jq<|Jl3 2 R<|Js3 R U126 R R<|Jb 1 R ?_
 refine Bk h (λcH h=>Jy R<|Jc1<|Jt<|Jt ?_) (λcH h=>Jx R<|Js<|Jp<|Jq<|Jv<|Jl3 2 R<|Ob h λbo a8 h=>Jd3 R ax.rdc a8 U126 Z149 ?_)
 cases h
 exact have h:=az;Jb1 (Oh h<|Jw1 _ ⟨aG,(c.1,c.2.1,c.2.2.1,c.2.2.2.1,c.2.2.2.2),z,A,X,ac,Z,W,I,ab,R,Fct,ax,aW,aX,aY,aZ,R⟩<|KM R)
 obtain⟨_,cE,cA⟩:=Ow.gZS ax a8
 obtain⟨c3,dj,rfl,dd⟩:=Place.un cE
 refine Jg4 tv R (Jh4 (haE cA) I149 Z149 R)<|Jy3 aG 10 R zeroValue149 R λ_ _ aH s cp=>Tv<|Jm4 aH 10 R Z149 R cp R λ_ t a0=>Tv<|Jd<|Jl3 1 R<|Jg4 tv R (Jh4 (haE a0.cells) I149 Z149 R)<|Ob h λcY cJ h=>WO.callV R R R R R R R R call180 (sK (J:=Mk aH) (p0:=bo) Gct Gct Fct cJ) ?_
 rintro _ _ ⟨_,db,c8,rfl,b3,cq⟩
 refine Im b3 11 R (λbF n cS=>Tv<|Jb 1 R<|Jj3<|Jc4 bF E6 14 R Y30 bS R λbR bL bn ah i cr=>Tv<|Jb 1 R<|Jq<|Jj3<|Je3 R U53 R Z51 (have a1:=co.stp (T10 ap F al an ao H s t n i);Jc3 R I51 (a1.ld 1 R R) (Je3 R U149 R Z2 (have a2:=a0.stp (n.tr i);Jc3 R I2 (a2.ld 0 R R) (Ob h λbp a9 h=>Jd3 R a5 a9 U51 Z30 ?_)))))
 obtain⟨_,_,ay,cz⟩:=(a5.stp (T11 aK ap F al an ao H s t n i)).gSl a9
 refine Jc3 R I30 cz<|Js3 R U30 R R<|Jb 1 R<|Ob h λbd cD cx=>Jt3 [2,3,4,8,12,13,14] (λf g a=>∃b,∃p:VL×VI,∃P S av aq,g=(11,.slice P p.1.length S)::(16,.slice av p.2.length aq)::f/\Stp [5,14,17,18] ah bn b a/\Oc (Ep.fz Place.rp) 149 b a 5 P S p.1/\Oc E6 2 b a 14 av aq p.2/\bd=FX p) (Jv<|Ju3 [2,3,4,8,12,13,14,15,42,43] (λd f g a=>∃b k,∃j:VL×VI,∃C B Y ad,g=(11,.slice C j.1.length B)::(16,.slice Y j.2.length ad)::(44,vi k)::f/\Stp [5,14,17,18] ah bn b a/\Oc (Ep.fz Place.rp) 149 b a 5 C B j.1/\Oc E6 2 b a 14 Y ad j.2/\0<=k/\FV ((bp.length:Int)-k)=d/\cntM (cu cY bp) d k j=some bd) ⟨_,_,⟨ah,0,(c.1,([]:VI)),z,A,bR,bL,R,Jo3,Fct,cr,(by decide),(by simp),cD⟩,(KM R)⟩ ?_) ?_
 rintro d _ _ ⟨aI,k,j,C,B,Y,ad,rfl,aL,a3,ct,cy,a6,h⟩
 rcases d with _|d
 exact have v:=dcf a6;Jf3 R (Jq<|Jx2 R v<|Jc1<|Jt<|Jt<|Jb1<|Oh h<|Jw1 _ ⟨aI,(j.1,j.2),C,B,Y,ad,R,Fct,a3,ct,R⟩<|KM R)
 refine Ob h λdi h aA=>have v:=dct a6;Jf3 R (Jq<|Jw2 R v<|Js<|Jp<|Jq<|Jv<|Jj3<|Ob h λaf ba h=>Jd3 R ay ba U30 Z2<|Jc3 R I2 ((ay.stp aL).gInt ba)<|Jb 1 R<|Jl3 3 R (Ob h λdk cK h=>have cv:=(cq.mx (bW _) cS R (R:11+2=13)).stp (i.tr aL);Jw3 R call228 (wh (J:=Mk aI) (Jn3 a3.rdc) Gct cK) (Ki λcX aj bI=>Tv<|Jb 1 R<|Jq<|Jf3 R<|Ob h λD h cw=>Jt3 [2,3,4,8,12,13,14,15,16,42,43,44] (λf g a=>∃b M O,g=(11,.slice M D.1.length O)::(19,vi D.2)::f/\Stp [5,17,18] aj cX b a/\Oc (Ep.fz Place.rp) 149 b a 5 M O D.1) ?_ ?_)))
 refine Bk h (λcF h=>Jy R<|Js<|Oh h<|Jw1 _ ⟨aj,C,B,R,Jo3,Fct⟩<|KM R) (λcF h=>Jx R<|Jl3 1 R<|Js3 R U126 R R<|Jb 1 R<|Jm3 2 R<|Jc4 aj E6 17 R Y30 bS R λc4 c6 _ bs bH b4=>Tv<|Jn 1 R<|Ob h λag cL h=>Jd4 bs E6 17 [] R Y30 bS R b4 (FY (cd _) (cv.stp<|bI.tr bH).rdc) bU cL R λaS aM cU bt _ b5=>Tv<|Jf R (Jn4 [vi af,.slice aS ag.length aM] R) ?_)
 obtain⟨bu,_,c0⟩:=eD bt cU 17
 exact Jb4 bu (Ep.fz Place.rp) 18 [] (parts:=[(0,.tmp 61)]) (cells:=[vi af,.slice aS ag.length aM]) (xs:=([(⟨af,ag⟩:Place)]:VL)) R Y126 eW R (Jj4<|Place.mk_rel (x:=(⟨af,ag⟩:Place))<|Sl.z1<|Sl.st c0 b5.rdc) λda c7 _ bv _ b6=>Tv<|Ob h λ_ cM h=>Jd4 bv (Ep.fz Place.rp) 5 [18] R Y126 eW R Fct b6.src (c9 R) cM R λbQ bP _ bw _ b7=>Tv<|Jc 1 R<|Oh h<|Jw1 _ ⟨bw,bQ,bP,R,Fct,b7⟩<|KM R
 rintro _ _ ⟨br,M,O,rfl,_,_⟩
 refine have h:=cw;Jp (Jm3 2 R<|Ji4 br 17 [D.2] R Y30 bS R λdc c5 _ bx _ b8=>Tv<|Ob h λcZ cN h=>Jd4 bx E6 14 [] R Y30 bS R Fct (FY (cd _) b8.rdc) bU cN R λbX bY _ bz _ b9=>Tv<|Jc 1 R<|Jz<|Jp<|Jg3 R ?_)
 have cI:FW .i64 (k+1)=k+1:=wr1 cy (Jn2 v) ay.len_le
 rw[cI]
 exact have v:=Jn2 v;Ou h aA (λaA=>Ja2 ⟨bz,k+1,(D.1,cZ),M,O,bX,bY,R,Fct,Fct,b9,by omega,by omega,aA⟩ R)
 rintro _ _ ⟨ai,p,P,S,av,aq,rfl,u,_,_,rfl⟩
 refine have h:=yI cx;Jp (Jq<|Jl3 1 R<|Js3 R U126 R R<|Jb 1 R ?_)
 refine Bk h (λcG h=>Jy R<|Js<|Jp<|Jl3 1 R<|Ob h λ_ cO h=>Jw3 R call176 (dW (J:=λo=>mp [(14,2)] 0<|ai o) Fct cO) ?_) (λcG h=>Jx R<|Jj3<|Jf R (Jn4 [.slice none 0 0,.slice none 0 0,.slice none 0 0] R)<|Jm4 ai 4 R Z55 R Fct R λ_ _ ca=>Tv<|Jb 2 R<|Ju<|Jw<|Ja1<|Jw<|Jw ?_)
 rintro _ _ ⟨_,rfl,b0,cb,cB⟩
 refine Im b0 15 R (λaD q cR=>Tv<|Jd<|Xr aD [0,2,6,10] (some 12) [5,11,23,32,0,6,12,17,18,24,28,34] [37] λ_ m=>Je3 R U53 R Z30<|Je3 R U149 R Z2<|Jn 2 R (have ce:=aZ.stp (T7 s t n i u q m);Jg R (Jh4 (haC ce.cells R) I55 Z55 R) (Jg R (Jd2 I30 R R<|hvC ((a1.stp<|T3 u q m).ld 0 R R) R) (have aV:=a2.stp (T3 u q m);Jg R (Jd2 I2 R R<|hvC (aV.ld 0 R R) R) (Ob h λ_ bb h=>Jd3 R a4 bb U30 Z2<|Jg R (Jd2 I2 R R<|hvC ((a4.stp<|T14 aK ap F al an ao H s t n i u q m).gInt bb) R)<|Jg R (Jh4 (haC aV.cells R) I149 Z149 R)<|Ob h λ_ cP h=>WO.callV R R R R R R R R call182 (sL (J:=Mk aD) (p0:=bo) Gct Gct Fct cP) ?_)))))
 rintro _ cV ⟨_,rfl,b1⟩
 refine Im b1 18 R (λbB y _=>⟨(y.cl R),?_⟩)
 obtain⟨bC,am,c1⟩:=eD bB cV 17
 refine have ak:=(T9 s t n i u q m y am);Ob h λaC cQ h=>Jw3 R call58 (Ret.cast (by simp only[(cB),List.cons_append,List.nil_append])<|sN (J:=λo=>mp [(7,2),(8,3),(9,4)] 1<|bC o) (p0:=(⟨(⟨c.2.2.1,c.2.2.2.1⟩:Arena),c.2.2.2.2⟩:Parity)) ((aW.stp ak).map (mp [(7,2),(8,3),(9,4)] 1) R R) ((aX.stp ak).map (mp [(7,2),(8,3),(9,4)] 1) R R) ((aY.stp ak).map (mp [(7,2),(8,3),(9,4)] 1) R R) (Jm2 (Sl.st c1 ((cb.mx (bW _) cR R (R:15+2=17)).stp (m.tr y)).rdc) (mp [(7,2),(8,3),(9,4)] 1) R R) cQ) ?_
 rintro _ _ ⟨_,bM,bZ,bN,bO,bV,bK,rfl,b2,cf,cg,ch⟩
 refine Im0 b2 20 R (λaE aJ aB c2=>have bG:=(T3 y am aJ);⟨(bG.cl R),Jt1<|Jm4 aE 6 R Z55 R Fct R λ_ G _=>Tv<|Jo<|Jz<|Jp<|Jg3 R ?_⟩)
 cases h
 exact Ja2 ⟨(λo=>ren [(25,7),(26,8),(27,9)]<|aE o),(p.1,((FW .i64<|c.2.1+1):Int),aC.Arena.Owner,aC.Arena.Next,aC.Prio),P,S,bM,bZ,bN,bO,bV,bK,R,(Jz2 ((T12 H s t n i u q m y am aJ G).wk R) [(25,7),(26,8),(27,9)] R),Fct,(((cf.mx (bW _) aB R (R:20+5=25)).stp G).map (ren [(25,7),(26,8),(27,9)]) R R),(((cg.mxz c2 aB R (R:20+6=26)).stp G).map (ren [(25,7),(26,8),(27,9)]) R R),(((ch.mx (bW _) aB R (R:20+7=27)).stp G).map (ren [(25,7),(26,8),(27,9)]) R R),Fct,az⟩ R
 cases h
 exact Ov az a7 (λh=>Ja1<|Jr2<|Jw<|Jb2 (l:=[.cell 8 55,.tmp 9,.tmp 10]) results179 (cc R ca I55 Z55 R<|Jq2 R<|Jq2 R R) R<|Oh h<|⟨ai,none,0,none,0,none,0,none,0,R,Fct,FZ,FZ,FZ,FZ⟩)
 rintro _ _ ⟨aF,e,aa,K,U,N,L,V,Q,T,rfl,_,_,_,_,_,cn,rfl⟩
 exact have h:=yI a7;Jp (Jj3<|Jg4 tv R (Jh4 (haE cn.cells) I55 Z55 R)<|Jn 1 R<|Jm4 aF 4 R Z55 R Fct R λ_ _ ck=>Tv<|Jb 2 R<|Ju<|Jb2 (l:=[.cell 8 55,.tmp 9,.tmp 10]) results179 (cc R ck I55 Z55 R<|Jq2 R<|Jq2 R R) R<|Oh h<|⟨(λo=>ren [(7,2),(8,3),(9,4)]<|aF o),U,N,L,V,Q,T,aa,K,R,Fct,Fct,Fct,Fct,Fct⟩)
theorem kD {A E D B y C}{p0:Parity}(au:Rd Ri J w 0 A E p0.Arena.Owner) (av:Rd Rs J w 0 D B p0.Arena.Next) (aw:Rd Ri J w 0 y C p0.Prio){r:VI}(h:eK p0=some r):Ret prog 84 [.agg #[.slice A p0.Arena.Owner.length E,.slice D p0.Arena.Next.length B,.slice y p0.Prio.length C]] w (Pvs E6 2 J w r):=by
 refine Jp3 J func84 R ntmps84 R λax=>Jj3<|Jx3 J 2 R λ_ _ Q _ G=>Tv<|Jb 1 R<|Jj3<|Je3 R U55 R Z30<|Jc3 R I30 (G.ld 2 R R)<|Js3 R U30 R R<|Ob h λj ah h=>Jl1 (J:=Q) (E:=E6) (z:=(0:Int)) 3 R R R R R R R Y30 bS R R R R R (λ_ _ _=>R) (Jv2 ah) λo n _ v W _=>Tv<|Jb 1 R<|Jq<|Xn v [2] [5,0,6,10,13,17,20,23,26,29] λ_ X=>Je3 R U55 R Z53 (have F:=G.stp (W.tr X);Jg R (Jh4 (haC F.cells R) I55 Z55 R) (Jg R (Jh4 (haC (F.lds 0 2 R) R) I53 Z53 R)<|Ob h λ_ ai h=>Jw3 R call144 (yW (J:=Mk v) (p0:=p0.Arena) Gct Gct ai)<|Ks 6 (bW _) λam ar _ P x aa=>⟨(x.cl R),Ob h λN aj h=>Jw3 R call143 (tP (J:=Mk P) (p0:=p0) Gct Gct Gct (Jn3 aa.rdc) aj) ?_⟩))
 rintro _ M ⟨_,ap,aq,ao,an,rfl,Z,_,ab⟩
 refine Im Z 7 R (λk U al=>⟨((x.tr U).cl R),have p:=ab.mx (bW _) al R (R:7+3=10);Jn 5 R (Jt1<|Jd<|Jq<|Jl3 1 R<|Js3 R U30 R R<|Jb 1 R<|Ob h λL ag ad=>Jt3 [3] (λb m e=>∃f,∃i:VI,m=b/\Stp [3] k M f e/\Oc E6 2 f e 3 o n i/\j.length=i.length/\L=FX i) (Jv<|Ju3 [3,20,21] (λc b m e=>∃f a,∃d:VI,m=(22,vi a)::b/\Stp [3] k M f e/\Oc E6 2 f e 3 o n d/\j.length=d.length/\0<=a/\FV ((N.2.length:Int)-a)=c/\cntM (kC N) c a d=some L) ⟨_,_,⟨k,0,j,R,Jo3,Fct,R,(by decide),(by simp),ag⟩,(KM R)⟩ ?_) ?_)⟩)
 rintro c _ _ ⟨u,a,d,rfl,V,q,t,H,g,h⟩
 rcases c with _|c
 exact Jf3 R<|Jq<|Jx2 R (dcf g)<|Jc1<|Jt<|Jt<|Jb1<|Oh h<|Jw1 _ ⟨u,d,R,Fct,q,t,R⟩<|KM R
 exact Ob h λay h s=>Jf3 R<|Jq<|Jw2 R (dct g)<|Js<|Jp<|Jq<|Jv<|Jj3<|Ob h λ_ I h=>Jd3 R p.rdc I U30 Z2<|Jc3 R I2 ((p.stp V).rdc.gInt I)<|Jb 1 R<|Jm3 2 R<|Ob h λ_ ak h=>Jf R (Jg2 q.rdc ak U30 Z2 R R t R) (Ob h λO K h=>Jk1 (J:=u) (E:=E6) 3 [] R R R R R R R R Z2 R R R R q K λ_ T _ ac=>Tv<|have af:j.length=O.length:=t.trans (Ju2 K).2.2.2.symm;Jo (Jz<|Jp<|Jg3 R<|wr2 H g p.len_le ▸ (Ou h s (λs=>Ja2 ⟨T,a+1,O,R,Fct,ac,af,nxz H,nxm g,s⟩ R))))
 rintro _ _ ⟨S,i,rfl,_,_,ae,rfl⟩
 exact have h:=yI ad;Jp (Jf3 R<|Ju<|Jb2 (l:=[.tmp 2]) results84 (Jq2 R R) R<|Oh h<|⟨(λY=>ren [(3,2)]<|S Y),o,n,(by simp only[ae]),Fct,Fct⟩)
theorem uP {ao aq ap am ak an}{p0:Parity}{ai aX}{p1:VI}{U ac}{p2:VI}(aA:Rd Ri J w 0 ao aq p0.Arena.Owner) (aB:Rd Rs J w 0 ap am p0.Arena.Next) (bt:Rd Ri J w 0 ak an p0.Prio) (cs:Rd Ri J w 0 ai aX p1) (aC:Rd Ri J w 0 U ac p2){r:Answer}(h:nc p0 p1 p2=some r):Ret prog 184 [.agg #[.slice ao p0.Arena.Owner.length aq,.slice ap p0.Arena.Next.length am,.slice ak p0.Prio.length an],.slice ai p1.length aX,.slice U p2.length ac] w (λb4 a=>∃b aT aV aU aW,b4= .agg #[.slice aT r.Won.length aV,.slice aU r.Plan.length aW]/\Ent J w b a/\Oc E6 2 b a 2 aT aV r.Won/\Oc E6 2 b a 3 aU aW r.Plan):=by
 refine Jp3 J func184 R ntmps184 R λct=>Jj3<|Jx3 J 2 R λ_ _ a8 E bn=>Tv<|Jy3 a8 3 R zeroValue146 R λ_ _ ba B _=>Tv<|Jd<|Jj3<|Jc4 ba E6 4 R Y30 bS R λco ce _ a4 v bj=>Tv<|Jn 1 R<|Ob h λi bT h=>Jd4 a4 E6 4 [] R Y30 bS R bj (FY (cd _) Fct) bU bT R λs q aZ Q x ar=>Tv<|Jb 1 R<|Jq<|Jl3 1 R<|Js3 R U30 R R<|Jb 1 R (have aD:=ar.len_le;Ob h λaR bF bx=>Jt3 [2,6,7] (λe j a=>∃b,∃P:VI,j=e/\Stp [4] Q aZ b a/\Oc E6 2 b a 4 s q P/\i.length=P.length/\aR=FX P) (Jv<|Ju3 [2,3,6,7,18] (λc e j a=>∃b d,∃m:VI,j=(19,vi d)::e/\Stp [4] Q aZ b a/\Oc E6 2 b a 4 s q m/\i.length=m.length/\0<=d/\FV ((i.length:Int)-d)=c/\cntM (jQ p0 p2) c d m=some aR) ⟨_,_,⟨Q,0,i,R,Jo3,ar,R,(by decide),(by simp),bF⟩,(KM R)⟩ ?_) ?_)
 rintro c _ _ ⟨S,d,m,rfl,y,W,M,Z,H,h⟩
 rcases c with _|c
 exact Jf3 R<|Jq<|Jx2 R (dcf H)<|Jc1<|Jt<|Jt<|Jb1<|Oh h<|Jw1 _ ⟨S,m,R,Fct,W,M,R⟩<|KM R
 refine Ob h λcu h t=>have K:=dct H;Jf3 R (Jq<|Jw2 R K<|Js<|Jp<|Jq<|Jv<|Jf3 R<|Jq<|Jq<|Xn S [0,2,4] [2,5,11,20,23,26,6,14,15,27,32,35,38,41,44,45,50,53] λb6 n=>Je3 R U55 R Z53<|Je3 R U53 R Z30<|Jn 3 R<|Ob h λcx aG h=>Jd3 R aC aG U30 Z2 (have au:=bn.stp (T5 B v x y n);Jg R (Jd2 I30 R R<|hvC (au.ld 0 R R) R) (Ob h λcw aF h=>Jd3 R aA aF U30 Z2 (have av:=aA.stp (T6 E B v x y n);Jg R (Jd2 I2 R R<|hvC (av.gInt aF) R) (have X:=aC.stp (T6 E B v x y n);Jg R (Jd2 I2 R R<|hvC (X.gInt aG) R) (Jn 2 R<|Ob h λb1 h bz=>Jk4 [2,3,6,7,8,18,19] 39 b1 S b6 6 (Cl.refl _ _ _) ?_ ?_))))))
 exact Bk h (λbL h=>Jn 2 R<|Ob h λ_ aH h=>Jf R (Jg2 W.rdc aH U30 Z2 R R M R)<|Jg R (Jd2 I2 R R<|hvC ((W.stp n).rdc.gInt aH) R)<|Jn 2 R<|Oh h<|Jv1 _ (Cl.refl _ _ _) ⟨R,_,Jo3⟩<|KM R) (λbL h=>Jn 3 R<|Jf4 R<|Jn 2 R<|Oh h<|Jv1 _ (Cl.refl _ _ _) ⟨R,_,Jo3⟩<|KM R)
 rintro _ _ _ ⟨rfl,ag,z⟩
 refine have h:=bz;Jt1 (Jd ?_)
 refine Bk h (λbM h=>Jy R<|Js<|Jp<|Jl3 1 R<|Jf R (Jn4 [.slice U p2.length ac,.slice none 0 0] R)<|Jn 2 R<|Ob h λ_ aI h=>Jd3 R X aI U30 Z2 (have F:=X.stp z;Jc3 R I2 (F.gInt aI) (Ob h λb8 bV h=>Jw3 R call229 (uN (J:=Mk ag) (p0:=(⟨p2,([]:VI)⟩:Answer)) Gct Sl.nil bV)<|Ks 7 (bW _) λcr cb a0 T A bo=>Tv<|Jb 1 R<|Jj3<|Je3 R U55 R Z53<|Je3 R U53 R Z51 (have aw:=au.stp (z.tr A);Jc3 R I51 (aw.ld 1 R R) (Jn 1 R<|Ob h λa1 aJ h=>Jd3 R aB aJ U51 Z30 ?_))))) (λbM h=>Jx R<|Jc1<|Jt<|Jb1<|Jp<|Jg3 R ?_)
 have ax:=aB.stp (T8 E B v x y n z A)
 obtain⟨_,_,Y,bB⟩:=ax.gSl aJ
 refine Jc3 R I30 bB<|Js3 R U30 R R<|Jb 1 R (have aE:=Y.len_le;Ob h λaS bG bA=>Jt3 [2,3,6,7,18,19] (λe j a=>∃b,∃C:VI,j=e/\Stp [4] T a0 b a/\Oc E6 2 b a 4 s q C/\i.length=C.length/\aS=FX C) (Jv<|Ju3 [2,3,6,7,8,9,18,19,52,53] (λc e j a=>∃b g,∃u:VI,j=(54,vi g)::e/\Stp [4] T a0 b a/\Oc E6 2 b a 4 s q u/\i.length=u.length/\0<=g/\FV ((a1.length:Int)-g)=c/\cntM (ib p0 p2 d b8 a1) c g u=some aS) ⟨_,_,⟨T,0,m,R,Jo3,Fct,M,(by decide),(by simp),bG⟩,(KM R)⟩ ?_) ?_)
 rintro c _ _ ⟨D,g,u,rfl,k,ay,N,aa,I,h⟩
 rcases c with _|c
 exact Jf3 R<|Jq<|Jx2 R (dcf I)<|Jc1<|Jt<|Jt<|Jb1<|Oh h<|Jw1 _ ⟨D,u,R,Fct,ay,N,R⟩<|KM R
 refine Ob h λcv h f=>have L:=dct I;Jf3 R (Jq<|Jw2 R L<|Js<|Jp<|Jq<|Jv<|Jj3<|Ob h λ_ aK h=>Jd3 R Y aK U30 Z2<|Jc3 R I2 ((Y.stp k).gInt aK)<|Jb 1 R<|Jq<|Jq<|Xn D [0] [2,5,8,14,17,20,9,21,26] λ_ o=>Jn 2 R<|Ob h λcy aL h=>Jd3 R F aL U30 Z2<|Jn 2 R<|Ob h λcz aM h=>Jd3 R F aM U30 Z2 (have G:=F.stp (T3 A k o);Jg R (Jd2 I2 R R<|hvC (G.gInt aL) R) (Jg R (Jd2 I2 R R<|hvC (G.gInt aM) R)<|Jn 1 R<|Jt1<|Jd ?_)))
 refine Bk h (λbN h=>Jy R<|Js<|Jp<|Jl3 3 R<|Ob h λ_ bX h=>Jf R (Jg2 ay.rdc bX U30 Z2 R R N R) (Ob h λa2 aP h=>Jk1 (J:=D) (E:=E6) 4 [] R R R R R R R R Z2 R R R R Fct aP λ_ bc p az=>Tv<|have O:i.length=a2.length:=N.trans (Ju2 aP).2.2.2.symm;Jd (Jj3<|Jg4 tv R (Jh4 (haE (aw.stp<|T3 k o p).cells) I55 Z55 R)<|Jn 1 R<|Ob h λb9 bY h=>Jw3 R call230 (Ret.cast (by simp only[O,List.cons_append,List.nil_append])<|xK (J:=Mk bc) (p0:=p0) (Jn3<|av.stp<|T5 z A k o p) (Jn3<|ax.stp<|T3 k o p) (Jn3<|bt.stp<|T11 E B v x y n z A k o p) (Jn3 az.rdc) bY) ?_))) (λbN h=>Jx R<|Jc1<|Jt<|Jb1<|Jp<|Jg3 R ?_)
 rintro _ _ ⟨_,cf,ch,ck,ci,cn,ca,rfl,bi,bq,br,bs⟩
 refine Im bi 8 R (λbd ah ab=>Tv<|Jn 1 R<|Ob h λ_ bZ h=>Jw3 R call143 (tP (J:=Mk bd) (p0:=b9) (Jn3 (bq.mx (bW _) ab R (R:8+2=10)).rdc) (Jn3 (br.mx (cF (bW _) _) ab R (R:8+3=11)).rdc) (Jn3 (bs.mx (bW _) ab R (R:8+4=12)).rdc) (Jn3 (bo.stp<|T4 k o p ah).rdc) bZ) ?_)
 rintro _ b5 ⟨_,cg,cp,cq,cm,rfl,bh,_,_⟩
 refine Im bh 13 R (λa5 be _=>Tv<|Jb 5 R<|Jq<|Jl3 2 R<|Ob h λcA aN h=>Jd3 R G aN U30 Z2 (have V:=G.stp (T3 p ah be);Jc3 R I2 (V.gInt aN) (Jn 2 R<|Ob h λb2 h bu=>Jk4 [2,3,6,7,8,9,12,18,19,52,53,54] 88 b2 a5 b5 4 tv ?_ ?_)))
 exact Bk h (λbH h=>Jn 4 R<|Oh h<|Jl4 tv R) (λbH h=>Jn 1 R<|Js3 R U30 R R<|Jn 2 R<|Oh h<|Jl4 tv R)
 rintro _ aY _ ⟨rfl,ad,bf⟩
 refine Jn 1 R<|Ob bu λb0 h bv=>Jk4 [2,3,6,7,8,9,18,19,52,53,54] 100 b0 ad aY 11 tv ?_ ?_
 refine Bk h (λbI h=>Jn 2 R<|Ob h λcB aO h=>Jd3 R V aO U30 Z2<|Jc3 R I2 ((V.stp bf).gInt aO)<|Jn 2 R<|Ob h λb3 h bw=>Jk4 [2,3,6,7,8,9,18,19,52,53,54,89,90,91,92,93,94,95] 99 b3 ad aY 4 tv ?_ ?_) (λbI h=>Jn 3 R<|Je4 R<|Jn 7 R<|Oh h<|Jl4 tv R)
 exact Bk h (λbJ h=>Jn 4 R<|Oh h<|Jl4 tv R) (λbJ h=>Jn 1 R<|Js3 R U30 R R<|Jn 2 R<|Oh h<|Jl4 tv R)
 rintro _ _ _ ⟨rfl,_,_⟩
 exact have h:=bw;Jn 1 R (Oh h<|Jv1 _ tv ⟨R,_,Fct⟩<|KM R)
 rintro _ _ _ ⟨rfl,ae,_⟩
 refine have h:=bv;Jd ?_
 exact Bk h (λbK h=>Jy R<|Js<|Jp<|Jm3 2 R<|Ob h λ_ bQ h=>Jf R (Jg2 az.rdc bQ U30 Z2 R R O R) (Ob h λa3 aQ h=>Jk1 (J:=ae) (E:=E6) 4 [] R R R R R R R R Z2 R R R R Fct aQ λ_ a6 _ bk=>Tv<|have bC:i.length=a3.length:=O.trans (Ju2 aQ).2.2.2.symm;Jo (Jz<|Jp<|Jg3 R<|wr2 aa I aE ▸ (Ou h f (λf=>Ja2 ⟨a6,g+1,a3,R,Fct,bk,bC,nxz aa,nxm I,f⟩ R))))) (λbK h=>Jx R<|Jc1<|Jt<|Ja3 R<|Jt<|Jt<|Ou h f (λf=>have h:=f;Jb1 (Oh h<|Jw1 _ ⟨ae,a2,R,Fct,Fct,O,R⟩<|KM R)))
 have bP:FW .i64 (g+1)=g+1:=wr1 aa (Jn2 L) aE
 rw[bP]
 exact have L:=Jn2 L;Ou h f (λf=>Ja2 ⟨D,g+1,u,R,Fct,Fct,N,by omega,by omega,f⟩ R)
 rintro _ _ ⟨bb,C,rfl,_,bp,bE,rfl⟩
 exact have h:=yI bA;Jz (Jp<|Jg3 R<|wr2 Z H aD ▸ (Ou h t (λt=>Ja2 ⟨bb,d+1,C,R,Fct,bp,bE,nxz Z,nxm H,t⟩ R)))
 have bO:FW .i64 (d+1)=d+1:=wr1 Z (Jn2 K) aD
 rw[bO]
 exact have K:=Jn2 K;Ou h t (λt=>Ja2 ⟨ag,d+1,m,R,Fct,Fct,M,by omega,by omega,t⟩ R)
 rintro _ _ ⟨a9,P,rfl,_,_,bD,rfl⟩
 exact have h:=yI bx;Jp (Jj3<|Jc4 a9 E6 5 R Y30 bS R λcl cj _ a7 _ bl=>Tv<|Jn 1 R<|Ob h λb7 bR h=>Jd4 a7 E6 5 [] R Y30 bS R bl (FY (cd _) Fct) bU bR R λal aj _ af _ _=>Tv<|Jn 1 R<|Jf R (Jn4 [.slice al b7.length aj,.slice s i.length q] R)<|Jm4 af 3 R Z146 R Fct R λ_ _ bm=>Tv<|Jd<|Ju<|Jb2 (l:=[.cell 6 146]) results184 (cc R bm isAgg146 Z146 R R) R<|Oh h<|⟨(λbg=>ren [(5,2),(4,3)]<|af bg),al,aj,s,q,(by simp only[bD]),Fct,Fct,Fct⟩)
theorem kX {p0:Sig}{I F H G}{p1:Machine}(x:Rd Rs J w 0 I F p1.Next) (o:Rd Rs J w 0 H G p1.Out){r:Bool}(h:iA p0 p1=some r):Ret prog 120 [.agg #[vi p0.In,vi p0.Out],.agg #[.slice I p1.Next.length F,.slice H p1.Out.length G]] w (Pvb J w r):=by
 refine Jp3 J func120 R ntmps120 R λaH=>Jj3<|Jx3 J 2 R λ_ _ W t aa=>Tv<|Jx3 W 3 R λ_ aE Z n v=>Tv<|Jb 1 R<|Jj3<|Je3 R U89 R Z51<|Jc3 R I51 (v.ld 0 R R)<|Js3 R U51 R R<|Jb 1 R<|Jq<|Jl3 3 R<|Ob h λax h af=>Jk4 [2,3,5] 16 ax Z aE 3 tv ?_ ?_
 exact Bk h (λak h=>Jn 3 R<|Oh h<|Jl4 tv R) (λak h=>Jn 3 R<|Oh h<|Jl4 tv R)
 rintro _ aC _ ⟨rfl,V,c⟩
 refine Jn 1 R<|Ob af λay h ab=>Jk4 [2,3,5] 25 ay V aC 8 tv ?_ ?_
 exact Bk h (λal h=>Je3 R U89 R Z51 (have K:=v.stp c;Jc3 R I51 (K.ld 1 R R) (Js3 R U51 R R<|Je3 R U89 R Z51<|Jc3 R I51 (K.ld 0 R R)<|Js3 R U51 R R<|Jn 2 R<|Oh h<|Jl4 tv R))) (λal h=>Jn 1 R<|Je4 R<|Jn 2 R<|Je4 R<|Jn 3 R<|Oh h<|Jl4 tv R)
 rintro _ T _ ⟨rfl,k,g⟩
 refine have h:=ab;Jd ?_
 refine Bk h (λam h=>Jy R<|Js<|Jp<|Jq<|Jj3<|Je3 R U89 R Z51 (have u:=v.stp (c.tr g);Jc3 R I51 (u.ld 0 R R) (Js3 R U51 R R<|Jb 1 R<|Ob h λS aj M=>Jx1 (λs y=>∃z,s=[]/\Stp [] k T z y/\S=FX ()) (Jv<|Ju3 [2,3,5,27,28] (λj U s y=>∃z f,s=(29,vi f)::U/\Stp [] k T z y/\0<=f/\FV ((p1.Next.length:Int)-f)=j/\cntM (iQ p0 p1) j f ()=some S) ⟨_,_,⟨k,0,R,Jo3,(by decide),(by simp),aj⟩,(KM R)⟩ ?_) ?_))) (λam h=>Jx R<|Jf3 R<|Ju<|Jw<|Jb2 (l:=[.tmp 4]) results120 (Jq2 R R) R<|Oh h<|⟨k,R,Fct⟩)
 rintro j _ _ ⟨q,f,rfl,d,N,p,h⟩
 rcases j with _|j
 exact Jf3 R<|Jq<|Jx2 R (dcf p)<|Jc1<|Jt<|Jt<|Jb1<|Oh h<|Jw1 _ ⟨q,R,Fct,R⟩ KN
 refine Ob h λaI h e=>Jf3 R<|Jq<|Jw2 R (dct p)<|Js<|Jp<|Jq<|Jv<|Jl3 1 R<|Ob h λaJ O h=>Jd3 R x O U51 Z30 ?_
 obtain⟨_,_,_,ag⟩:=(x.stp (T5 t n c g d)).gSl O
 refine Jc3 R I30 ag<|Jb 2 R<|Jq<|Xn q [0,2,3] [2,5,6,10,14,17,20,26,38,41,21,29,30,35,44,47,50,53,56,58,62,65,68,71,77,86,72,80,81,87,92,94,98,101] λ_ i=>Jn 1 R<|Js3 R U30 R R (have L:=aa.stp (T5 n c g d i);Jg R (Jh4 (haC L.cells R) I39 Z39 R) (Ob h λaK ar h=>Jw3 R C73 (dr (J:=Mk q) (p0:=p0) ar)<|Ki λaD Y a=>⟨(a.cl R),Jn 2 R<|Ob h λaz h ac=>Jk4 [2,3,5,6,7,27,28,29] 49 az Y aD 10 (a.cl R) ?_ ?_⟩))
 refine Bk h (λan h=>Je3 R U89 R Z51<|Jn 2 R<|Js3 R U30 R R<|Jg R (Jd2 I51 R R<|hvC ((u.stp<|d.tr i).ld 1 R R) R)<|Ob h λ_ P h=>Jd3 R o P U51 Z30 ?_) (λan h=>Jn 4 R<|Jf4 R<|Jn 1 R<|Jf4 R<|Jn 3 R<|Oh h<|Jv1 _ (a.cl R) ⟨R,_,Jo3⟩<|KM R)
 obtain⟨_,_,_,ah⟩:=(o.stp (T6 t n c g d i)).gSl P
 exact Jg R (Jd2 I30 R R<|hvC ah R)<|Js3 R U30 R R<|Jn 2 R<|Oh h<|Jv1 _ (a.cl R) ⟨R,_,Jo3⟩<|KM R
 rintro _ aF _ ⟨rfl,A,b⟩
 refine Jn 1 R<|Ob ac λaA h ad=>Jk4 [2,3,5,6,27,28,29] 55 aA A aF 5 ((a.tr b).cl R) ?_ ?_
 exact Bk h (λao h=>Jn 2 R<|Ob h λ_ au h=>Jw3 R call133 (kb (J:=Mk A) Gct au)<|Kb λ_ _ D=>⟨((T3 a b D).cl R),Jn 2 R<|Oh h<|Jv1 _ ((T3 a b D).cl R) ⟨R,_,Fct⟩<|KM R⟩) (λao h=>Jn 2 R<|Je4 R<|Jn 2 R<|Oh h<|Jv1 _ ((a.tr b).cl R) ⟨R,_,Jo3⟩<|KM R)
 rintro _ aG _ ⟨rfl,B,m⟩
 refine Jn 1 R<|Ob ad λaB h ae=>Jk4 [2,3,5,27,28,29] 67 aB B aG 11 ((T3 a b m).cl R) ?_ ?_
 refine Bk h (λap h=>Je3 R U89 R Z51<|Jn 1 R<|Je3 R U39 R Z2<|Jg R (Jd2 I51 R R<|hvC ((u.stp<|d.tr i).ld 1 R R) R)<|Ob h λ_ Q h=>Jd3 R o Q U51 Z30 ?_) (λap h=>Jn 3 R<|Jf4 R<|Jn 1 R<|Jf4 R<|Jf4 R<|Jn 1 R<|Je4 R<|Jn 2 R<|Oh h<|Jv1 _ ((T3 a b m).cl R) ⟨R,_,Jo3⟩<|KM R)
 obtain⟨_,_,_,ai⟩:=(o.stp (T6 t n c g d i)).gSl Q
 exact Jg R (Jd2 I30 R R<|hvC ai R)<|Jg R (Jd2 I2 R R<|hvC (L.ld 1 R R) R)<|Ob h λ_z64 aw h=>Jf R (rU R R R<|vy aw)<|Ob h λ_ av h=>Jw3 R call133 (kb (J:=Mk B) Gct av)<|Kb λ_ _ E=>⟨((T4 a b m E).cl R),Jn 2 R<|Oh h<|Jv1 _ ((T4 a b m E).cl R) ⟨R,_,Fct⟩<|KM R⟩
 rintro _ _ _ ⟨rfl,C,_⟩
 refine have h:=ae;Jt1 (Jd ?_)
 exact Bk h (λaq h=>Jy R<|Js<|Jz<|Jp<|Jg3 R<|wr2 N p x.len_le ▸ (Ou h e (λe=>Ja2 ⟨C,f+1,R,Fct,nxz N,nxm p,e⟩ R))) (λaq h=>Jx R<|Jf3 R<|Ju<|Ja1<|Jw<|Jw<|Ou h e (λe=>Ov e M (λh=>Ja1<|Jr2<|Jw<|Jb2 (l:=[.tmp 4]) results120 (Jq2 R R) R<|Oh h<|⟨C,R,Fct⟩)))
 rintro _ _ ⟨X,rfl,_,rfl⟩
 exact have h:=yI M;Jp (Jf3 R<|Ju<|Jb2 (l:=[.tmp 4]) results120 (Jq2 R R) R<|Oh h<|⟨X,R,Fct⟩)
theorem qB {G F B D E C}{p0:watch}{H}(aB:Rd Rs J w 0 G F p0.next) (aC:Rd Rs J w 0 B D p0.letters) (u:Rd Pair.rp J w 0 E C p0.pairs) (af:Bc J w 0 H 210 [.slice G p0.next.length F,.slice B p0.letters.length D,.slice E p0.pairs.length C]){r:VI}(h:i8 p0=some r):Ret prog 125 [.pointer (some ⟨H,0,none⟩)] w (Pvs E6 2 J w r):=by
 refine Jp3 J func125 R ntmps125 R λaD=>Jf3 R<|Jj3<|Jc4 J E6 2 R Y30 bS R λT ao M s A ab=>Tv<|Jb 1 R<|Jq<|Jl3 1 R<|Jf R (bX R R)<|Je3 R U210 R Z58<|Jc3 R I58 ((af.stp A).ld 2 R R)<|Js3 R U58 R R<|Jb 1 R<|Ob h λL aj ah=>Jt3 [0] (λd e a=>∃b,∃q:VI,∃n k,e=(3,.slice n q.length k)::d/\Stp [2,3] s M b a/\Oc E6 2 b a 2 n k q/\L=FX q) (Jv<|Ju3 [0,10,11] (λi d e a=>∃b c,∃j:VI,∃f g,e=(3,.slice f j.length g)::(12,vi c)::d/\Stp [2,3] s M b a/\Oc E6 2 b a 2 f g j/\0<=c/\FV ((p0.pairs.length:Int)-c)=i/\cntM (fL p0) i c j=some L) ⟨_,_,⟨s,0,([]:VI),T,ao,R,Jo3,ab,(by decide),(by simp),aj⟩,(KM R)⟩ ?_) ?_
 rintro i _ _ ⟨y,c,j,f,g,rfl,S,Y,I,p,h⟩
 rcases i with _|i
 exact Jf3 R<|Jq<|Jx2 R (dcf p)<|Jc1<|Jt<|Jt<|Jb1<|Oh h<|Jw1 _ ⟨y,j,f,g,R,Fct,Y,R⟩<|KM R
 refine Ob h λo6 h v=>Jf3 R<|Jq<|Jw2 R (dct p)<|Js<|Jp<|Jq<|Jv<|Jl3 1 R<|Ob h λaq K h=>Jd3 R u K U58 Z120 ?_
 obtain⟨_,ak,ai⟩:=((u.stp (A.tr S))).gSt K
 obtain⟨ar,aE,au,aF,rfl,az,aA⟩:=Pair.un ak
 refine Jg4 tv R (Jh4 (haE ai) I120 Z120 R)<|Jy3 y 3 R X120 R λ_ _ z _ Z=>Tv<|Jn 1 R<|Jm4 z 3 R Z120 R Z R λ_ _ aa=>Tv<|Jd<|Jl3 1 R<|Jg4 tv R (Jh4 (haE aa.cells) I120 Z120 R)<|Ob h λaG am h=>Jw3 R call190 (pX (J:=Mk z) (p1:=aq) (p0:=p0) Gct Gct Gct Gct Gct Fct am) ?_
 rintro _ ap ⟨_,aw,ax,rfl,W,_⟩
 refine Im W 4 R (λt _ _=>Tv<|Js3 R U30 R R<|Jb 1 R<|Ob h λx h ag=>Jt3 [0,10,11,12] (λd e a=>∃b o m,e=(3,.slice o x.length m)::d/\Stp [2] t ap b a/\Oc E6 2 b a 2 o m x) ?_ ?_)
 exact Bk h (λal h=>Jy R<|Js<|Oh h<|Jw1 _ ⟨t,f,g,R,Jo3,Fct⟩<|KM R) (λal h=>Jx R<|Jm3 2 R<|Ji4 t 7 [c] R Y30 bS R λay av _ P _ ad=>Tv<|Ob h λ_ an h=>Jd4 P E6 2 [] R Y30 bS R Fct (FY (cd _) ad.rdc) bU an R λV U _ Q _ ae=>Tv<|Jc 1 R<|Oh h<|Jw1 _ ⟨Q,V,U,R,Fct,ae⟩<|KM R)
 rintro _ _ ⟨O,o,m,rfl,_,ac⟩
 exact have h:=ag;Jz (Jp<|Jg3 R<|wr2 I p u.len_le ▸ (Ou h v (λv=>Ja2 ⟨O,c+1,x,o,m,R,Fct,ac,nxz I,nxm p,v⟩ R)))
 rintro _ _ ⟨N,q,n,k,rfl,_,X,rfl⟩
 exact have h:=yI ah;Jp (Jf3 R<|Ju<|Jb2 (l:=[.tmp 2]) results125 (Jq2 R R) R<|Oh h<|⟨N,n,k,R,Fct,X⟩)
theorem uk {p0:Sig}{s z}{p1:VC}(i:Rd Clause.rp J w 0 s z p1){r:Bool}(h:iF p0 p1=some r):Ret prog 42 [.agg #[vi p0.In,vi p0.Out],.slice s p1.length z] w (Pvb J w r):=by
 refine Jp3 J func42 R ntmps42 R λZ=>Jj3<|Jx3 J 2 R λ_ _ C F t=>Tv<|Jb 1 R<|Jq<|Jj3<|Jg4 tv R (Jh4 (haE t.cells) I39 Z39 R)<|Ob h λae Q h=>Jw3 R call24 (lr (J:=Mk C) (p0:=p0) Q)<|Kb λT E q=>Tv<|Jn 2 R<|Ob h λS h H=>Jk4 [1,2] 13 S E T 4 tv ?_ ?_
 exact Bk h (λM h=>Jn 1 R<|Js3 R U27 R R<|Jn 2 R<|Oh h<|Jl4 tv R) (λM h=>Jn 4 R<|Oh h<|Jl4 tv R)
 rintro _ A _ ⟨rfl,d,n⟩
 refine have h:=H;Jd ?_
 refine Bk h (λN h=>Jy R<|Js<|Jp<|Jq<|Jf3 R<|Ob h λy K u=>Jx1 (λg j=>∃k,g=[]/\Stp [] d A k j/\y=FX ()) (Jv<|Ju3 [1,2] (λc B g j=>∃k b,g=(5,vi b)::B/\Stp [] d A k j/\0<=b/\FV ((p1.length:Int)-b)=c/\cntM (je p0 p1) c b ()=some y) ⟨_,_,⟨d,0,R,Jo3,(by decide),(by simp),K⟩,(KM R)⟩ ?_) ?_) (λN h=>Jx R<|Jf3 R<|Ju<|Jw<|Jb2 (l:=[.tmp 4]) results42 (Jq2 R R) R<|Oh h<|⟨d,R,Fct⟩)
 rintro c _ _ ⟨f,b,rfl,o,v,e,h⟩
 rcases c with _|c
 exact Jq<|Jl3 2 R<|Js3 R U27 R R<|Jb 1 R<|Jx2 R (dcf e)<|Jc1<|Jt<|Jt<|Jb1<|Oh h<|Jw1 _ ⟨f,R,Fct,R⟩ KN
 refine Ob h λaa h a=>Jq<|Jl3 2 R<|Js3 R U27 R R<|Jb 1 R<|Jw2 R (dct e)<|Js<|Jp<|Jq<|Jv<|Jq<|Xn f [0,2] [5,8,11,0,12,16,20] λ_ p=>Jn 2 R<|Ob h λU x h=>Jd3 R i x U27 Z32<|Jg R (Jh4 (haC (t.stp<|T4 q n o p).cells R) I39 Z39 R) ?_
 obtain⟨_,L,I⟩:=((i.stp (T5 F q n o p))).gSt x
 obtain⟨V,ab,W,ac,rfl,X,Y⟩:=Clause.un L
 refine Jg R (Jh4 (haC I R) I32 Z32 R)<|Ob h λad P h=>Jw3 R call14 (mv (J:=Mk f) (p0:=p0) (p1:=U) Gct Gct P)<|Kb λ_ m G=>⟨(G.cl R),Jn 1 R<|Jt1<|Jd ?_⟩
 exact Bk h (λO h=>Jy R<|Js<|Jz<|Jp<|Jg3 R<|wr2 v e i.len_le ▸ (Ou h a (λa=>Ja2 ⟨m,b+1,R,Fct,nxz v,nxm e,a⟩ R))) (λO h=>Jx R<|Jf3 R<|Ju<|Ja1<|Jw<|Jw<|Ou h a (λa=>Ov a u (λh=>Ja1<|Jr2<|Jw<|Jb2 (l:=[.tmp 4]) results42 (Jq2 R R) R<|Oh h<|⟨m,R,Fct⟩)))
 rintro _ _ ⟨D,rfl,_,rfl⟩
 exact have h:=yI u;Jp (Jf3 R<|Ju<|Jb2 (l:=[.tmp 4]) results42 (Jq2 R R) R<|Oh h<|⟨D,R,Fct⟩)
theorem oF {p0:Sig}{X ar Y aa}{p1:Clause}(br:Rd Ri J w 0 X ar p1.A) (bs:Rd Ri J w 0 Y aa p1.B){r:Det}(h:lZ p0 p1=some r):Ret prog 44 [.agg #[vi p0.In,vi p0.Out],.agg #[vi p1.Kind,.slice X p1.A.length ar,.slice Y p1.B.length aa]] w (λbk a=>∃b am ao an ap,bk= .agg #[.slice am r.Next.length ao,.slice an r.Pairs.length ap]/\Ent J w b a/\Oc (Ep.own E6 2) 30 b a 2 am ao r.Next/\Oc Pair.ep120 120 b a 3 an ap r.Pairs):=by
 refine Jp3 J func44 R ntmps44 R λbt=>Jj3<|Jx3 J 2 R λ_ _ aB _ aY=>Tv<|Jx3 aB 3 R λ_ _ aD aH a4=>Tv<|Jy3 aD 4 R X60 R λ_ _ aw M _=>Tv<|Jd<|Jq<|Jj3 (have ad:=aY.stp (aH.tr M);Jg4 tv R (Jh4 (haE ad.cells) I39 Z39 R) (have ae:=a4.stp M;Jg4 tv R (Jh4 (haE ae.cells) I32 Z32 R) (Ob h λbu bd h=>Jw3 R call14 (mv (J:=Mk aw) (p0:=p0) (p1:=p1) Gct Gct bd)<|Kb λ_ z N=>Tv<|Jb 1 R ?_)))
 refine Bk h (λbb h=>Jy R<|Js<|Jp<|Jj3<|Je3 R U32 R Z2 (have af:=ae.stp N;Jc3 R I2 (af.ld 0 R R) (Ob h λe be h=>Jw3 R call86 (wV (J:=Mk z) be) ?_))) (λbb h=>Jx R<|Jj3<|Jf R (Jn4 [.slice none 0 0,.slice none 0 0] R)<|Jm4 z 4 R Z60 R Fct R λ_ _ aV=>Tv<|Jd<|Ju<|Jw<|Jb2 (l:=[.cell 4 60]) results44 (cc R aV I60 Z60 R R) R<|Oh h<|⟨z,none,0,none,0,R,Fct,FZ,FZ⟩)
 rintro _ aq ⟨_,V,Z,ab,W,rfl,aP,aW,aX⟩
 refine Im aP 7 R (λA O aj=>Tv<|Jb4 A Pair.ep120 11 [9,10] (parts:=[(0,.tmp 16)]) (cells:=[.slice V e.Ask.length Z,.slice ab e.Give.length W]) (xs:=([e]:VP)) R Y58 cQ R (Jj4 ⟨[.slice V e.Ask.length Z],[.slice ab e.Give.length W],Zl A aq [9],Zl A aq [10],R,Zl.sp (l1:=[9]) (l2:=[10]) R,Zl.sr (l1:=[9]) (l2:=[10]),⟨_,_,R,(aW.mx (bW _) aj R (R:7+2=9))⟩,⟨_,_,R,(aX.mx (bW _) aj R (R:7+3=10))⟩⟩) λk m _ aC P _=>Tv<|Jf R (Jn4 [.slice none 0 0,.slice k ([e]:VP).length m] R)<|Jy3 aC 12 R X60 R λac _ n Q aZ=>Tv<|Jm4 n 12 R Z60 R aZ R λau S a0=>Tv<|Jd<|Jq<|Jf3 R<|Ob h λak a8 a6=>Jt3 [4,5] (λg i a=>∃b,∃y:Int×VV,∃x o,i=g/\Stp [12,13,16,17] n au b a/\Oc (Ep.own E6 2) 30 b a 13 x o y.2/\Bc b a 12 ac 60 [.slice x y.2.length o,.slice k ([e]:VP).length m]/\ak=FX y) (Jv<|Ju3 [2,3,4,5] (λc g i a=>∃b,∃d:Int×VV,∃p q,i=(6,vi d.1)::g/\Stp [12,13,16,17] n au b a/\Oc (Ep.own E6 2) 30 b a 13 p q d.2/\Bc b a 12 ac 60 [.slice p d.2.length q,.slice k ([e]:VP).length m]/\ci (jg p0 p1) c d=some ak) ⟨_,_,⟨n,((0:Int),([]:VV)),none,0,R,Jo3,FZ,a0,a8⟩,(KM R)⟩ ?_) ?_)
 rintro c _ _ ⟨aE,d,p,q,rfl,T,_,a2,h⟩
 rcases c with _|c
 cases h
 refine Ob h λ_ h ah=>Jq<|Jl3 1 R<|Je3 R U32 R Z2 (have ag:=af.stp (T5 O P Q S T);Jc3 R I2 (ag.ld 0 R R) (Ob h λbv bf h=>Jw3 R call87 (uw (J:=Mk aE) bf)<|Ki λ_ K C=>Tv<|Jb 1 R ?_))
 refine Bk h (λbc h=>Jy R<|Jc1<|Jt<|Jt ?_) (λbc h=>Jx R<|Js<|Jp<|Jq<|Jv<|Jj3<|Jc4 K E6 16 R Y30 bS R λaK aM av B D a3=>Tv<|Jb 1 R<|Jq<|Jf3 R<|Ob h λal a9 a7=>Jt3 [2,3,4,5,6] (λg i a=>∃b,∃j:VI×Int,∃s t,i=(7,.slice s j.1.length t)::g/\Stp [16] B av b a/\Oc E6 2 b a 16 s t j.1/\al=FX j) (Jv<|Ju3 [2,3,4,5,6] (λc g i a=>∃b,∃f:VI×Int,∃v u,i=(7,.slice v f.1.length u)::(8,vi f.2)::g/\Stp [16] B av b a/\Oc E6 2 b a 16 v u f.1/\ci (jh p0 p1 d) c f=some al) ⟨_,_,⟨B,(([]:VI),(0:Int)),aK,aM,R,Jo3,a3,a9⟩,(KM R)⟩ ?_) ?_)
 cases h
 exact have h:=ah;Jb1 (Oh h<|Jw1 _ ⟨K,(d.1,d.2),p,q,R,Fct,Fct,Fct,R⟩<|KM R)
 rintro c _ _ ⟨aG,f,v,u,rfl,U,_,h⟩
 rcases c with _|c
 cases h
 refine Ob h λ_ h ai=>Jq<|Jl3 1 R<|Jg4 tv R (Jh4 (haE (ad.stp<|T9 N O P Q S T C D U).cells) I39 Z39 R)<|Ob h λbw bg h=>Jw3 R call26 (gv (J:=Mk aG) (p0:=p0) bg)<|Ki λ_ L aJ=>Tv<|Jb 1 R ?_
 refine Bk h (λba h=>Jy R<|Jc1<|Jt<|Jt ?_) (λba h=>Jx R<|Js<|Jp<|Jq<|Jv<|Jm3 1 R<|Jg4 tv R (Jh4 (haE (ag.stp<|T4 C D U aJ).cells) I32 Z32 R)<|Jn 2 R<|Ob h λbl bh h=>Jw3 R call88 (wU (J:=Mk L) (p0:=p1) Gct Gct bh)<|Ki λ_ ax _=>Tv<|Ji4 ax 21 [bl] R Y30 bS R λbp bo _ ay _ aQ=>Tv<|Ob h λbm bi h=>Jd4 ay E6 16 [] R Y30 bS R Fct (FY (cd _) aQ.rdc) bU bi R λaN aL _ az _ aR=>Tv<|Jc 1 R<|Jz<|Jp<|Jg3 R ?_)
 cases h
 exact have h:=ai;Jb1 (Oh h<|Jw1 _ ⟨L,(f.1,f.2),v,u,R,Fct,Fct,R⟩<|KM R)
 cases h
 exact Ja2 ⟨az,(bm,((FW .i64<|f.2+1):Int)),aN,aL,R,Fct,aR,ai⟩ R
 rintro _ _ ⟨aF,j,s,t,rfl,aI,a5,rfl⟩
 refine have h:=yI a7;Jp (Jk3<|Je3 R U60 R Z51<|Jc3 R I51 ((a2.stp<|T3 C D aI).ld 0 R R)<|Jn 1 R<|Jb4 aF (Ep.own E6 2) 17 [16] (parts:=[(0,.tmp 42)]) (cells:=[.slice s j.1.length t]) (xs:=([j.1]:VV)) R Y51 bY R (Jj4 ⟨_,_,R,a5⟩) λbn bq _ aA _ aS=>Tv<|Ob h λG bj h=>Jd4 aA (Ep.own E6 2) 13 [17] R Y51 bY R Fct aS.src (c9 R) bj R λF E _ H _ _=>Tv<|Je3 R U60 R Z51<|Jz3 H 12 (off:=0) (vc:=[.slice F G.length E]) (cs':=[.slice F G.length E,.slice k ([e]:VP).length m]) R Z51 R Fct R λ_ _ aT=>Tv<|Jo<|Jz<|Jp<|Jg3 R ?_)
 cases h
 exact Ja2 ⟨H,(((FW .i64<|d.1+1):Int),G),F,E,R,Fct,Fct,aT,ah⟩ R
 rintro _ _ ⟨I,y,x,o,rfl,_,_,a1,rfl⟩
 exact have h:=yI a6;Jp (Jj3<|Jg4 tv R (Jh4 (haE a1.cells) I60 Z60 R)<|Jm4 I 4 R Z60 R Fct R λ_ _ aU=>Tv<|Jd<|Ju<|Jb2 (l:=[.cell 4 60]) results44 (cc R aU I60 Z60 R R) R<|Oh h<|⟨(λaO=>ren [(13,2),(11,3)]<|I aO),x,o,k,m,R,Fct,Fct,Fct⟩)
theorem qU {q y}{p0:VP}{p1:Int}(j:Rd Pair.rp J w 0 q y p0){r:Bool}(h:mQ p0 p1=some r):Ret prog 90 [.slice q p0.length y,vi p1] w (Pvb J w r):=by
 refine Jp3 J func90 R ntmps90 R λaj=>Jf3 R<|Jq<|Jl3 1 R<|Ob h λaq W h=>Jw3 R C25 (dJ (J:=Mk J) W)<|Kb λZ C G=>Tv<|Jn 2 R<|Ob h λX h I=>Jk4 [0,1] 13 X C Z 4 tv ?_ ?_
 exact Bk h (λT h=>Jn 1 R<|Js3 R U58 R R<|Jn 2 R<|Oh h<|Jl4 tv R) (λT h=>Jn 4 R<|Oh h<|Jl4 tv R)
 rintro _ z _ ⟨rfl,e,D⟩
 refine have h:=I;Jd ?_
 refine Bk h (λP h=>Jy R<|Js<|Jp<|Jq<|Jf3 R<|Ob h λx M s=>Jx1 (λg a=>∃m,g=[]/\Stp [] e z m a/\x=FX ()) (Jv<|Ju3 [0,1] (λd A g a=>∃m c,g=(5,vi c)::A/\Stp [] e z m a/\0<=c/\FV ((p0.length:Int)-c)=d/\cntM (kH p0 p1) d c ()=some x) ⟨_,_,⟨e,0,R,Jo3,(by decide),(by simp),M⟩,(KM R)⟩ ?_) ?_) (λP h=>Jx R<|Jf3 R<|Ju<|Jw<|Jb2 (l:=[.tmp 4]) results90 (Jq2 R R) R<|Oh h<|⟨e,R,Fct⟩)
 rintro d _ _ ⟨n,c,rfl,E,t,f,h⟩
 rcases d with _|d
 exact Jq<|Jl3 2 R<|Js3 R U58 R R<|Jb 1 R<|Jx2 R (dcf f)<|Jc1<|Jt<|Jt<|Jb1<|Oh h<|Jw1 _ ⟨n,R,Fct,R⟩ KN
 refine Ob h λak h b=>Jq<|Jl3 2 R<|Js3 R U58 R R<|Jb 1 R<|Jw2 R (dct f)<|Js<|Jp<|Jq<|Jv<|Jl3 2 R<|Ob h λ_ u h=>Jd3 R j u U58 Z120<|Je3 R U120 R Z30 ?_
 have i:=j.stp (T3 G D E)
 obtain⟨_,N,K⟩:=(i).gSt u
 obtain⟨ab,al,ac,am,rfl,af,ag⟩:=Pair.un N
 refine Jc3 R I30 (λa k=>K a k 0 _ R)<|Jn 1 R<|Ob h λap U h=>Jw3 R call148 (qb (J:=Mk n) Gct U)<|Kb λaa o F=>Tv<|Jn 2 R<|Ob h λY h H=>Jk4 [0,1,5] 37 Y o aa 9 tv ?_ ?_
 refine Bk h (λQ h=>Jn 2 R<|Ob h λ_ v h=>Jd3 R i v U58 Z120<|Je3 R U120 R Z30 ?_) (λQ h=>Jn 4 R<|Je4 R<|Jn 1 R<|Je4 R<|Jn 2 R<|Oh h<|Jl4 tv R)
 obtain⟨_,O,L⟩:=((i.stp F)).gSt v
 obtain⟨ad,an,ae,ao,rfl,ah,ai⟩:=Pair.un O
 exact Jc3 R I30 (λa k=>L a k 1 _ R)<|Jn 1 R<|Ob h λ_ V h=>Jw3 R call148 (qb (J:=Mk o) Gct V)<|Kb λ_ _ _=>Tv<|Jn 2 R<|Oh h<|Jv1 _ tv ⟨R,_,Fct⟩<|KM R
 rintro _ _ _ ⟨rfl,p,_⟩
 refine have h:=H;Jd ?_
 exact Bk h (λS h=>Jy R<|Js<|Jz<|Jp<|Jg3 R<|wr2 t f j.len_le ▸ (Ou h b (λb=>Ja2 ⟨p,c+1,R,Fct,nxz t,nxm f,b⟩ R))) (λS h=>Jx R<|Jf3 R<|Ju<|Ja1<|Jw<|Jw<|Ou h b (λb=>Ov b s (λh=>Ja1<|Jr2<|Jw<|Jb2 (l:=[.tmp 4]) results90 (Jq2 R R) R<|Oh h<|⟨p,R,Fct⟩)))
 rintro _ _ ⟨B,rfl,_,rfl⟩
 exact have h:=yI s;Jp (Jf3 R<|Ju<|Jb2 (l:=[.tmp 4]) results90 (Jq2 R R) R<|Oh h<|⟨B,R,Fct⟩)
theorem uV {t y x u s v}{p0:Parity}(X:Rd Ri J w 0 t y p0.Arena.Owner) (Y:Rd Rs J w 0 x u p0.Arena.Next) (m:Rd Ri J w 0 s v p0.Prio){r:Bool}(h:jz p0=some r):Ret prog 157 [.agg #[.slice t p0.Arena.Owner.length y,.slice x p0.Arena.Next.length u,.slice s p0.Prio.length v]] w (Pvb J w r):=by
 refine Jp3 J func157 R ntmps157 R λZ=>Jj3<|Jx3 J 2 R λ_ _ I L f=>Tv<|Jb 1 R<|Jq<|Jj3<|Je3 R U55 R Z53<|Jg4 tv R (Jh4 (haE<|f.lds 0 2 R) I53 Z53 R)<|Ob h λac U h=>Jw3 R call152 (qT (J:=Mk I) (p0:=p0.Arena) Gct Gct U)<|Kb λW H e=>Tv<|Jn 2 R<|Ob h λV h M=>Jk4 [1] 17 V H W 9 tv ?_ ?_
 exact Bk h (λP h=>Je3 R U55 R Z30 (have z:=f.stp e;Jc3 R I30 (z.ld 2 R R) (Js3 R U30 R R<|Je3 R U55 R Z53<|Je3 R U53 R Z30<|Jc3 R I30 (z.ld 0 R R)<|Js3 R U30 R R<|Jn 2 R<|Oh h<|Jl4 tv R))) (λP h=>Jn 1 R<|Je4 R<|Jn 3 R<|Je4 R<|Jn 3 R<|Oh h<|Jl4 tv R)
 rintro _ F _ ⟨rfl,d,j⟩
 refine have h:=M;Jd ?_
 refine Bk h (λQ h=>Jy R<|Js<|Jp<|Jq<|Jf3 R<|Ob h λE O B=>Jx1 (λi n=>∃o,i=[]/\Stp [] d F o n/\E=FX ()) (Jv<|Ju3 [1] (λc G i n=>∃o b,i=(3,vi b)::G/\Stp [] d F o n/\0<=b/\FV ((p0.Prio.length:Int)-b)=c/\cntM (jR p0) c b ()=some E) ⟨_,_,⟨d,0,R,Jo3,(by decide),(by simp),O⟩,(KM R)⟩ ?_) ?_) (λQ h=>Jx R<|Jf3 R<|Ju<|Jw<|Jb2 (l:=[.tmp 2]) results157 (Jq2 R R) R<|Oh h<|⟨d,R,Fct⟩)
 rintro c _ _ ⟨p,b,rfl,k,C,g,h⟩
 rcases c with _|c
 exact Jq<|Jl3 1 R<|Je3 R U55 R Z30<|Jc3 R I30 ((f.stp<|T3 e j k).ld 2 R R)<|Js3 R U30 R R<|Jb 1 R<|Jx2 R (dcf g)<|Jc1<|Jt<|Jt<|Jb1<|Oh h<|Jw1 _ ⟨p,R,Fct,R⟩ KN
 refine Ob h λaa h a=>have N:=dct g;Jq (Jl3 1 R<|Je3 R U55 R Z30 (have A:=f.stp (T3 e j k);Jc3 R I30 (A.ld 2 R R) (Js3 R U30 R R<|Jb 1 R<|Jw2 R N<|Js<|Jp<|Jq<|Jv<|Jj3<|Je3 R U55 R Z30<|Jc3 R I30 (A.ld 2 R R)<|Jn 1 R<|Ob h λ_ D h=>Jd3 R m D U30 Z2<|Jc3 R I2 ((m.stp<|T4 L e j k).gInt D)<|Ob h λab T h=>Jw3 R C25 (dJ (J:=Mk p) T)<|Kb λ_ q _=>Tv<|Jb 1 R ?_)))
 exact Bk h (λS h=>Jy R<|Js<|Jz<|Jp<|Jg3 R<|wr2 C g m.len_le ▸ (Ou h a (λa=>Ja2 ⟨q,b+1,R,Fct,nxz C,nxm g,a⟩ R))) (λS h=>Jx R<|Jf3 R<|Ju<|Ja1<|Jw<|Jw<|Ou h a (λa=>Ov a B (λh=>Ja1<|Jr2<|Jw<|Jb2 (l:=[.tmp 2]) results157 (Jq2 R R) R<|Oh h<|⟨q,R,Fct⟩)))
 rintro _ _ ⟨K,rfl,_,rfl⟩
 exact have h:=yI B;Jp (Jf3 R<|Ju<|Jb2 (l:=[.tmp 2]) results157 (Jq2 R R) R<|Oh h<|⟨K,R,Fct⟩)
end
end Go.Proofs.YtldlmopdhmaceaaGreatDoor
