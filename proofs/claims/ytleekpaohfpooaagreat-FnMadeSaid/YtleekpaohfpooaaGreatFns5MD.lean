/- The walks, part 5. By program. -/
import Derived.Test.YtleekpaohfpooaaGreatFns2MD
import Derived.Test.YtleekpaohfpooaaGreatFns3MD
import Derived.Test.YtleekpaohfpooaaGreatFns4MD
set_option linter.unusedVariables false
set_option linter.unusedSimpArgs false
open Go.Wk.Ep renaming own → Dp, pair → Dx
open Int renaming toNat → Dq
open Go.IntKind renaming wrap → Dr
open Option.some renaming inj → Ds
open Go.Wk.Ow renaming nil → Dt
open Go.Wk.Sl renaming srcP → Du
open Sum renaming inr → Dv
namespace Go.Proofs.YtleekpaohfpooaaGreat
open Tryz
open Go Go.Wk Go.Proofs
set_option maxRecDepth 100000
set_option maxHeartbeats 1000000
section
variable {w:World}{J:Col}
theorem pQ {b c e d}{p0:Clause}{c0:Sig}{f}(n:Rd Ri J w 0 b c p0.A) (o:Rd Ri J w 0 e d p0.B) (p:Bc J w 0 f 28 [vi c0.In,vi c0.Out]){r:Bool}(h:eZ p0 c0=some r):Ret prog 127 [.agg #[vi p0.Kind,.slice b p0.A.length c,.slice e p0.B.length d],.pointer (some ⟨f,0,none⟩)] w (Pvb J w r):=by
 unfold eZ at h
 refine Jl3 J func127 R ntmps127 R λq=>Je [1,2] R<|Jt3 J 2 R λt x i a m=>Tv<|Jb 1 R<|Je [1,1,1,2,2] R<|Jc4 tv R (Jd4 (haE (p.stp a).cells) I28 Z28 R)<|Jc4 tv R (Jd4 (haE m.cells) I67 Z67 R)<|Ob h λz s h=>Js3 R call128 (td (J:=Mk i) (p0:=c0) (p1:=p0) (Jj3<|n.stp a) (Jj3<|o.stp a) s) ?_
 rintro _ y ⟨u,rfl,k⟩
 obtain⟨g,j,v⟩:=Ji k 3 R
 refine Tv<|Jb 2 R<|Ju<|Jb2 (l:=[.tmp 3]) results127 (Jq2 R R) R ?_
 cases h
 exact⟨g,R,(q.stp<|a.tr j)⟩
theorem nY {p0:Sig}{bv bp br bt}{p1:Clause}(dn:Rd Ri J w 0 bv bp p1.A) (dp:Rd Ri J w 0 br bt p1.B){r:Det}(h:kp p0 p1=some r):Ret prog 105 [.agg #[vi p0.In,vi p0.Out],.agg #[vi p1.Kind,.slice bv p1.A.length bp,.slice br p1.B.length bt]] w (λdP a=>∃(b:Col) (bR:Option Addr) (bU:Nat) (bT:Option Addr) (bX:Nat),dP= .agg #[.slice bR r.Next.length bU,.slice bT r.Pairs.length bX]/\Ent J w b a/\Oc (Dp E6 2) 37 b a 2 bR bU r.Next/\Oc Pair.ep127 127 b a 3 bT bX r.Pairs):=by
 unfold kp at h
 refine Jl3 J func105 R ntmps105 R λdq=>Je [1,1,1] R<|Jt3 J 2 R λdU ef b8 aP c3=>Tv<|Jt3 b8 3 R λdV eH ch Y dh=>Tv<|Ju3 ch 4 R X71 R λdW eP b1 B cH=>Tv<|Jd<|Jf3 R<|Je [2,1,1] R<|Jf R (Jj4 [.slice none 0 0,.slice none 0 0] R)<|Ju3 b1 5 R X127 R λL el U q cQ=>Tv<|Ji4 U 5 R Z127 R cQ R λdQ t x=>Tv<|Jd<|Jq<|Je [2,1] R<|Je3 R U67 R Z2 ?_
 have bK:=dh.stp (T3 B q t)
 refine Jc3 R I2 (bK.ld 0 R R)<|Jd<|Jv<|Jq<|Jf3 R<|Ob h λbO h du=>Jp3 [2,3,4,5,6,13] (λd e a=>∃b,e=(17,.bool bO)::d/\Stp [] U dQ b a) ?_ ?_
 revert h
 cases d2:(p1.Kind==1)
 refine JF λh=>Jy R<|Jg3 R ?_
 cases h
 exact Jw1 _ ⟨U,R,Jk3⟩<|KM R
 refine JT λh=>Jx R<|Js ?_
 cases h
 exact Jw1 _ ⟨U,R,Jk3⟩<|KM R
 rintro _ T ⟨g,rfl,f⟩
 have h:=du
 refine Jp<|Ob h λc h dv=>Jp3 [2,3,4,6] (λd e a=>∃b I H F K,e=(5,vi c.1)::d/\Stp [5] g T b a/\Oc E6 2 b a 6 I H c.2.1/\Oc E6 2 b a 7 F K c.2.2/\Bc b a 5 L 127 [.slice I c.2.1.length H,.slice F c.2.2.length K]) ?_ ?_
 revert h
 cases d3:bO
 refine JF λh=>Jy R<|Jf3 R<|Ob h λM h dw=>Jp3 [2,3,4,6] (λd e a=>∃b au ah aq an,e=(5,vi M.1)::d/\Stp [5] g T b a/\Oc E6 2 b a 6 au ah M.2.1/\Oc E6 2 b a 7 aq an M.2.2/\Bc b a 5 L 127 [.slice au M.2.1.length ah,.slice aq M.2.2.length an]) ?_ ?_
 revert h
 cases d4:(p1.Kind==2)
 refine JF λh=>Jy R<|Jf3 R<|Ob h λN h dx=>Jp3 [2,3,4,6] (λd e a=>∃b ab ax aj Z,e=(5,vi N.1)::d/\Stp [5] g T b a/\Oc E6 2 b a 6 ab ax N.2.1/\Oc E6 2 b a 7 aj Z N.2.2/\Bc b a 5 L 127 [.slice ab N.2.1.length ax,.slice aj N.2.2.length Z]) ?_ ?_
 revert h
 cases d5:(p1.Kind==3)
 refine JF λh=>Jy R<|Jf3 R<|Ob h λO h dy=>Jp3 [2,3,4,6] (λd e a=>∃b ai ao ap ay,e=(5,vi O.1)::d/\Stp [5] g T b a/\Oc E6 2 b a 6 ai ao O.2.1/\Oc E6 2 b a 7 ap ay O.2.2/\Bc b a 5 L 127 [.slice ai O.2.1.length ao,.slice ap O.2.2.length ay]) ?_ ?_
 revert h
 cases d6:(p1.Kind==4)
 refine JF λh=>Jy R<|Jf3 R<|Ob h λP h dr=>Jp3 [2,3,4,6] (λd e a=>∃b ar al aa af,e=(5,vi P.1)::d/\Stp [5] g T b a/\Oc E6 2 b a 6 ar al P.2.1/\Oc E6 2 b a 7 aa af P.2.2/\Bc b a 5 L 127 [.slice ar P.2.1.length al,.slice aa P.2.2.length af]) ?_ ?_
 revert h
 cases d1:(p1.Kind==6)
 refine JF λh=>Jy R<|Jf3 R<|Ja [1,1,2,1] R<|Je4 g 6 [2,3] R Y37 bS R λbx bD ej b3 bf cI=>Tv<|Je4 b3 7 [1,3] R Y37 bS R λbA bG ek a5 aI cJ=>Tv<|Jf R (Jj4 [.slice bx ([2,3]:VI).length bD,.slice bA ([1,3]:VI).length bG] R)<|Ji4 a5 5 R Z127 R (x.stp<|T3 f bf aI) R λem aJ cK=>Tv<|Jo ?_
 cases h
 exact Jw1 _ ⟨a5,bx,bD,bA,bG,R,(T3 bf aI aJ).wk R,(cI.stp<|aI.tr aJ),(cJ.stp aJ),cK⟩<|KM R
 refine JT λh=>Jx R<|Ja [1,2,1] R<|Je4 g 6 [0] R Y37 bS R λaY aX eh a4 bd cE=>Tv<|Je3 R U127 R Z37<|Jv3 a4 5 (off:=0) (vc:=[.slice aY ([0]:VI).length aX]) (cs':=[.slice aY ([0]:VI).length aX,.slice none 0 0]) R Z37 R (x.stp<|f.tr bd) R λei be cF=>Tv<|Jo ?_
 cases h
 exact Jw1 _ ⟨a4,aY,aX,none,0,R,(bd.tr be).wk R,(cE.stp be),Dt,cF⟩<|KM R
 rintro _ eg ⟨b2,ar,al,aa,af,rfl,cn,cB,cC,cD⟩
 have h:=dr
 cases h
 exact Jw1 _ ⟨b2,ar,al,aa,af,R,cn.wk R,cB,cC,cD⟩<|KM R
 refine JT λh=>Jx R<|Ja [1,1,2,1] R<|Je4 g 6 [0,1] R Y37 bS R λbE bz eQ cm bo dl=>Tv<|Je4 cm 7 [1] R Y37 bS R λbC bu eR bc aS dm=>Tv<|Jf R (Jj4 [.slice bE ([0,1]:VI).length bz,.slice bC ([1]:VI).length bu] R)<|Ji4 bc 5 R Z127 R (x.stp<|T3 f bo aS) R λeS aH cA=>Tv<|Jo ?_
 cases h
 exact Jw1 _ ⟨bc,bE,bz,bC,bu,R,(T3 bo aS aH).wk R,(dl.stp<|aS.tr aH),(dm.stp aH),cA⟩<|KM R
 rintro _ eO ⟨cl,ai,ao,ap,ay,rfl,cq,di,dj,dk⟩
 have h:=dy
 cases h
 exact Jw1 _ ⟨cl,ai,ao,ap,ay,R,cq.wk R,di,dj,dk⟩<|KM R
 refine JT λh=>Jx R<|Ja [1,1,2,1] R<|Je4 g 6 [1] R Y37 bS R λbF bw eL ck bn de=>Tv<|Je4 ck 7 [0] R Y37 bS R λbs bq eM bb aQ df=>Tv<|Jf R (Jj4 [.slice bF ([1]:VI).length bw,.slice bs ([0]:VI).length bq] R)<|Ji4 bb 5 R Z127 R (x.stp<|T3 f bn aQ) R λeN aR dg=>Tv<|Jo ?_
 cases h
 exact Jw1 _ ⟨bb,bF,bw,bs,bq,R,(T3 bn aQ aR).wk R,(de.stp<|aQ.tr aR),(df.stp aR),dg⟩<|KM R
 rintro _ eK ⟨ci,ab,ax,aj,Z,rfl,cp,db,dc,dd⟩
 have h:=dx
 cases h
 exact Jw1 _ ⟨ci,ab,ax,aj,Z,R,cp.wk R,db,dc,dd⟩<|KM R
 refine JT λh=>Jx R<|Jf3 R<|Ja [1,2,1] R<|Je4 g 6 [2] R Y37 bS R λaZ aU eI ba bl c8=>Tv<|Je3 R U127 R Z37<|Jv3 ba 5 (off:=0) (vc:=[.slice aZ ([2]:VI).length aU]) (cs':=[.slice aZ ([2]:VI).length aU,.slice none 0 0]) R Z37 R (x.stp<|f.tr bl) R λeJ bm da=>Tv<|Jo ?_
 cases h
 exact Jw1 _ ⟨ba,aZ,aU,none,0,R,(bl.tr bm).wk R,(c8.stp bm),Dt,da⟩<|KM R
 rintro _ eG ⟨cf,au,ah,aq,an,rfl,co,c5,c6,c7⟩
 have h:=dw
 cases h
 exact Jw1 _ ⟨cf,au,ah,aq,an,R,co.wk R,c5,c6,c7⟩<|KM R
 refine JT λh=>Jx R<|Ja [1,2,1] R<|Je4 g 6 [1] R Y37 bS R λaT aW eE a9 bj c2=>Tv<|Je3 R U127 R Z37<|Jv3 a9 5 (off:=0) (vc:=[.slice aT ([1]:VI).length aW]) (cs':=[.slice aT ([1]:VI).length aW,.slice none 0 0]) R Z37 R (x.stp<|f.tr bj) R λeF bk c4=>Tv<|Jo ?_
 cases h
 exact Jw1 _ ⟨a9,aT,aW,none,0,R,(bj.tr bk).wk R,(c2.stp bk),Dt,c4⟩<|KM R
 rintro _ b0 ⟨aF,I,H,F,K,rfl,v,cZ,c0,c1⟩
 have h:=dv
 refine Jz<|Jp<|Je [1,1,2,1,1] R<|Jc4 tv R (Jd4 (haE c1.cells) I127 Z127 R)<|Jx3 aF Pair.ep127 8 [6,7] (parts:=[(0,.tmp 40)]) (cells:=[.slice I c.2.1.length H,.slice F c.2.2.length K]) (xs:=([(⟨c.2.1,c.2.2⟩:Pair)]:VP)) R Y69 cG R (Jf4 ⟨[.slice I c.2.1.length H],[.slice F c.2.2.length K],Zl aF b0 [6],Zl aF b0 [7],R,Zl.sp (l1:=[6]) (l2:=[7]) R,Zl.sr (l1:=[6]) (l2:=[7]),⟨_,_,R,cZ⟩,⟨_,_,R,c0⟩⟩) λG E en b4 p cL=>Tv<|Jf R (Jj4 [.slice none 0 0,.slice G ([(⟨c.2.1,c.2.2⟩:Pair)]:VP).length E] R)<|Ju3 b4 9 R X71 R λbB eo V k cM=>Tv<|Ji4 V 9 R Z71 R cM R λbY m cN=>Tv<|Jd<|Jq<|Jf3 R<|Ob h λ_ dE h=>?_
 have dz:=jG dE
 refine Ob h λbQ dC ds=>?_
 clear h
 refine Jp3 [4,7] (λd e a=>∃b,∃aC:VV,∃am ak,e=d/\Stp [9,10,11,14] V bY b a/\Oc (Dp E6 2) 37 b a 10 am ak aC/\Bc b a 9 bB 71 [.slice am aC.length ak,.slice G ([(⟨c.2.1,c.2.2⟩:Pair)]:VP).length E]/\bQ=Dv aC) ?_ ?_
 refine Jv<|Jq3 [2,3,4,7,43] (λi d e a=>∃b j,∃S:VV,∃ae ac,e=(44,vi j)::d/\Stp [9,10,11,14] V bY b a/\Oc (Dp E6 2) 37 b a 10 ae ac S/\Bc b a 9 bB 71 [.slice ae S.length ac,.slice G ([(⟨c.2.1,c.2.2⟩:Pair)]:VP).length E]/\0<=j/\Dq (c.1-j)=i/\cntM (fi p0 p1) i j S=some bQ) ⟨_,_,⟨V,0,([]:VV),none,0,R,Jk3,Dt,cN,(by decide),(by simp),dC⟩,(KM R)⟩ ?_
 rintro i _ eq ⟨a7,j,S,ae,ac,rfl,s,bH,bI,dB,bM,h⟩
 rcases i with _|i
 have aA:=h;obtain⟨dN,h⟩:=exq aA
 have y:=dcf bM
 refine Jf3 R<|Jq<|Jx2 R y<|Jc1<|Jt<|Jt ?_
 cases h
 have h:=aA
 refine Jb1 ?_
 cases h
 exact Jw1 _ ⟨a7,S,ae,ac,R,s.wk R,bH,bI,R⟩<|KM R
 obtain⟨dN,h,aA⟩:=BI h;unfold fi at h
 have y:=dct bM
 refine Jf3 R<|Jq<|Jw2 R y<|Js<|Jp<|Jq<|Jv<|Jf3 R<|Je [1,2] R<|Jy3 a7 E6 11 R Y37 bS R λct cv er b5 n cR=>Tv<|Jb 1 R<|Jq<|Je [1,1,2] R<|Jc4 tv R (Jd4 (haE (c3.stp<|T11 Y B q t f v p k m s n).cells) I28 Z28 R)<|Ob h λdR dH h=>Js3 R call103 (gR (J:=Mk b5) (p0:=p0) dH) ?_
 rintro _ bZ ⟨d7,rfl,cw⟩
 obtain⟨aD,o,eb⟩:=Ji cw 12 R
 refine Tv<|Jb 1 R<|Ob h λ_ dF h=>?_
 have dA:=jG dF
 refine Ob h λbP dD dt=>?_
 clear h
 refine Jp3 [2,3,4,7,43,44] (λd e a=>∃b,∃z:VI,∃av ad,e=(9,.slice av z.length ad)::d/\Stp [11] aD bZ b a/\Oc E6 2 b a 11 av ad z/\bP=Dv z) ?_ ?_
 refine Jv<|Jq3 [2,3,4,7,8,43,44,49] (λi d e a=>∃b A,∃Q:VI,∃aw ag,e=(9,.slice aw Q.length ag)::(50,vi A)::d/\Stp [11] aD bZ b a/\Oc E6 2 b a 11 aw ag Q/\0<=A/\Dq (dR-A)=i/\cntM (fj p1 j) i A Q=some bP) ⟨_,_,⟨aD,0,([]:VI),ct,cv,R,Jk3,(cR.stp o),(by decide),(by simp),dD⟩,(KM R)⟩ ?_
 rintro i _ et ⟨aE,A,Q,aw,ag,rfl,C,bJ,bN,az,h⟩
 rcases i with _|i
 have aB:=h;obtain⟨dO,h⟩:=exq aB
 have a2:=dcf az
 refine Jf3 R<|Jq<|Jx2 R a2<|Jc1<|Jt<|Jt ?_
 cases h
 have h:=aB
 refine Jb1 ?_
 cases h
 exact Jw1 _ ⟨aE,Q,aw,ag,R,C.wk R,bJ,R⟩<|KM R
 obtain⟨dO,h,aB⟩:=BI h;unfold fj at h
 have a2:=dct az
 refine Jf3 R<|Jq<|Jw2 R a2<|Js<|Jp<|Jq<|Jv<|Jf3 R<|Js1 (J:=aE) [3] none [(0,2),(1,2),(3,2),(4,2),(6,2),(8,2),(10,2),(2,0),(5,0),(9,0),(7,1),(11,1),(12,1),(13,1),(14,1),(15,2)] [] (by kernel_rfl) (by kernel_rfl) λeu D=>Jn 1 R<|Je3 R U67 R Z2<|Jn 1 R<|Je3 R U67 R Z37<|Jn 1 R<|Je3 R U67 R Z37<|Jn 1 R ?_
 have a1:=bK.stp (T10 f v p k m s n o C D)
 refine Jg R (Jd2 I2 R R<|hvC (a1.ld 0 R R) R)<|Jg R (Jd2 I37 R R<|hvC (a1.ld 1 R R) R)<|Jg R (Jd2 I37 R R<|hvC (a1.ld 2 R R) R)<|Ob h λeT dI h=>Js3 R C89 (cj (J:=Mk aE) (Jj3<|dn.stp<|T15 aP Y B q t f v p k m s n o C D) dI) ?_
 rintro _ ev ⟨d8,rfl,cx⟩
 obtain⟨b7,u,ec⟩:=Ji cx 14 R
 refine⟨(u.cl R),Ob h λeU dJ h=>Js3 R C89 (cj (J:=Mk b7) (Jj3<|dp.stp<|T16 aP Y B q t f v p k m s n o C D u) dJ) ?_⟩
 rintro _ ew ⟨d9,rfl,cy⟩
 obtain⟨b9,W,ed⟩:=Ji cy 16 R
 refine⟨((u.tr W).cl R),Ob h λdS dK h=>Js3 R call171 (qr (J:=Mk b9) dK) ?_⟩
 rintro _ ex ⟨ea,rfl,cz⟩
 obtain⟨ca,aM,ee⟩:=Ji cz 18 R
 have aG:=(T3 u W aM)
 refine⟨(aG.cl R),Je4 ca 20 [dS] R Y37 bS R λdZ dY ey cb X cT=>⟨((aG.tr X).cl R),Ob h λdT dL h=>Jz3 cb E6 11 [] R Y37 bS R (bJ.stp<|T5 D u W aM X) (Du (cc _) cT.rdc) bV dL R λcs cu ez cd bg cU=>⟨((T3 aG X bg).cl R),Jn 1 R<|Jt1<|Jo<|Jz<|Jp<|Jg3 R<|wr2 bN az dA ▸ ?_⟩⟩⟩
 cases h
 exact Ja2 ⟨cd,A+1,dT,cs,cu,R,(T7 C D u W aM X bg).wk R,cU,nxz bN,nxm az,aB⟩ R
 rintro _ es ⟨b6,z,av,ad,rfl,aL,cS,rfl⟩
 have h:=yI dt
 refine Jp<|Ja [2,1,2,1,1,2,1] R<|Je3 R U71 R Z31 ?_
 have bL:=bI.stp (T3 n o aL)
 refine Jc3 R I31 (bL.ld 0 R R)<|Jn 1 R<|Jx3 b6 (Dp E6 2) 14 [11] (parts:=[(0,.tmp 71)]) (cells:=[.slice av z.length ad]) (xs:=([z]:VV)) R Y31 bW R (Jf4 ⟨_,_,R,cS⟩) λd0 dX eA ce aN cV=>Tv<|Ob h λa3 dM h=>Jz3 ce (Dp E6 2) 10 [14] R Y31 bW R (bH.stp<|T4 n o aL aN) cV.src (c9 R) dM R λa0 aV eB a8 bh cW=>Tv<|Je3 R U71 R Z31<|Jv3 a8 9 (off:=0) (vc:=[.slice a0 a3.length aV]) (cs':=[.slice a0 a3.length aV,.slice G ([(⟨c.2.1,c.2.2⟩:Pair)]:VP).length E]) R Z31 R (bL.stp<|aN.tr bh) R λeC bi cX=>Tv<|Jo<|Jz<|Jp<|Jg3 R ?_
 have dG:Dr .i64 (j+1)=j+1:=wr1 dB (Jn2 y) dz
 rw[dG]
 have y:=Jn2 y
 cases h
 exact Ja2 ⟨a8,j+1,a3,a0,aV,R,(T7 s n o aL aN bh bi).wk R,(cW.stp bi),cX,by omega,by omega,aA⟩ R
 rintro _ ep ⟨a6,aC,am,ak,rfl,aK,cO,cP,rfl⟩
 have h:=yI ds
 refine Jp<|Je [1,1] R<|Jc4 tv R (Jd4 (haE cP.cells) I71 Z71 R)<|Ji4 a6 4 R Z71 R (cH.stp<|T8 q t f v p k m aK) R λeD aO cY=>Tv<|Jd<|Ju<|Jb2 (l:=[.cell 4 71]) results105 (cg R cY I71 Z71 R R) R ?_
 cases h
 exact⟨(λcr=>ren [(10,2),(8,3)]<|a6 cr),am,ak,G,E,R,((dq.stp<|T12 aP Y B q t f v p k m aK aO).map (ren [(10,2),(8,3)]) R R),((cO.stp aO).map (ren [(10,2),(8,3)]) R R),((cL.stp<|T4 k m aK aO).map (ren [(10,2),(8,3)]) R R)⟩
theorem fV {u I}{p0:VI}{x v}{c1_0:VL}{i:Int}{j:Int}{c1_3:Sig}{k:Int}{y z A B C}(m:Rd Ri J w 0 u I p0) (N:Rd Place.rp J w 0 x v c1_0) (O:Bc J w 0 y 80 [.slice x c1_0.length v]) (P:Bc J w 0 z 2 [vi i]) (Q:Bc J w 0 A 2 [vi j]) (S:Bc J w 0 B 28 [vi c1_3.In,vi c1_3.Out]) (T:Bc J w 0 C 2 [vi k]){r:Int}(h:cw p0 c1_0 i j c1_3 k=some r):Ret prog 47 [.slice u p0.length I,.func (.func 48) #[] #[.pointer (some ⟨y,0,none⟩),.pointer (some ⟨z,0,none⟩),.pointer (some ⟨A,0,none⟩),.pointer (some ⟨B,0,none⟩),.pointer (some ⟨C,0,none⟩)]] w (Pvi J w r):=by
 unfold cw at h
 refine Jl3 J func47 R ntmps47 R λD=>Jf3 R<|Jq<|Jh3 [2,2,2] 1 R<|Jo3 R U37 R R<|Jb 1 R<|Ob h λH U E=>?_
 clear h
 refine Jp3 [1] (λf g o=>∃p,g=f/\Stp [] J w p o/\H=Dv ()) ?_ ?_
 refine Jv<|Jq3 [0,1,7] (λd f g o=>∃p b,g=(8,vi b)::f/\Stp [] J w p o/\0<=b/\Dq ((p0.length:Int)-b)=d/\cntM (cD p0 c1_0 i j c1_3 k) d b ()=some H) ⟨_,_,⟨J,0,R,Jk3,(by decide),(by simp),U⟩,(KM R)⟩ ?_
 rintro d _ ad ⟨s,b,rfl,a,F,e,h⟩
 rcases d with _|d
 have c:=h;obtain⟨W,h⟩:=exq c
 have n:=dcf e
 refine Jf3 R<|Jq<|Jx2 R n<|Jc1<|Jt<|Jt ?_
 cases h
 have h:=c
 refine Jb1 ?_
 cases h
 exact Jw1 _ ⟨s,R,a.wk R,R⟩<|KM R
 obtain⟨W,h,c⟩:=BI h;unfold cD at h
 have n:=dct e
 refine Jf3 R<|Jq<|Jw2 R n<|Js<|Jp<|Jq<|Jv<|Jf3 R<|Jh3 [2,2,2,2,1,1] 3 R<|Ob h λae G h=>Jd3 R m G U37 Z2<|Jc3 R I2 ((m.stp a).gInt G)<|Ob h λX V h=>WO.callV R R R R R R R R call48 (qp (J:=Mk s) (c3:=c1_3) (Jj3<|N.stp a) ((O.stp a).map (mp [] 0) R R) ((P.stp a).map (mp [] 0) R R) ((Q.stp a).map (mp [] 0) R R) ((S.stp a).map (mp [] 0) R R) ((T.stp a).map (mp [] 0) R R) V) ?_
 rintro _ ab ⟨Z,rfl,M⟩
 obtain⟨q,t,aa⟩:=Ji M 2 R
 refine Tv<|Jd ?_
 revert h
 cases Y:X
 refine JF λh=>Jy R<|Js<|Jz<|Jp<|Jg3 R<|wr2 F e m.len_le ▸ ?_
 cases h
 exact Ja2 ⟨q,b+1,R,(a.tr t).wk R,nxz F,nxm e,c⟩ R
 refine JT λh=>Jx R<|Jf3 R<|Ju<|Ja1<|Jw<|Jw ?_
 cases h
 obtain rfl:=Ds c
 have h:=yL E
 refine Ja1<|Jr2<|Jw<|Jb2 (l:=[.tmp 4]) results47 (Jq2 R R) R ?_
 cases h
 exact⟨q,R,(D.stp<|a.tr t)⟩
 rintro _ ac ⟨K,rfl,L,rfl⟩
 have h:=yI E
 refine Jp<|Jf3 R<|Ju<|Jb2 (l:=[.tmp 4]) results47 (Jq2 R R) R ?_
 cases h
 exact⟨K,R,(D.stp L)⟩
theorem g7 {p0:Sig}  {r:Int}(h:dJ p0=some r):Ret prog 120 [.agg #[vi p0.In,vi p0.Out]] w (Pvi J w r):=by
 unfold dJ at h
 refine Jl3 J func120 R ntmps120 R λf=>Je [1,2] R<|Jt3 J 2 R λq y i c e=>Tv<|Jb 1 R<|Jq<|Je [1,1,2] R<|Jc4 tv R (Jd4 (haE e.cells) I28 Z28 R)<|Ob h λp o h=>Js3 R call58 (jY (J:=Mk i) (p0:=p0) o) ?_
 rintro _ A ⟨u,rfl,m⟩
 obtain⟨b,a,v⟩:=Ji m 3 R
 refine Tv<|Jb 1 R ?_
 revert h
 cases s:(!p)
 refine JF λh=>Jy R<|Js<|Jp<|Je [2,1,2,1,2,1,2] R<|Je3 R U28 R Z2 ?_
 have d:=e.stp a
 refine Jc3 R I2 (d.ld 0 R R)<|Je3 R U28 R Z2<|Jc3 R I2 (d.ld 1 R R)<|Jn 1 R<|Ob h λB n h=>Js3 R call62 (d9 (J:=Mk b) n) ?_
 rintro _ z ⟨t,rfl,k⟩
 obtain⟨g,j,x⟩:=Ji k 5 R
 refine Tv<|Jb 1 R<|Ju<|Jb2 (l:=[.tmp 2]) results120 (Jq2 R R) R ?_
 cases h
 exact⟨g,R,(f.stp<|T3 c a j)⟩
 refine JT λh=>Jx R<|Jf3 R<|Ju<|Jw<|Jb2 (l:=[.tmp 2]) results120 (Jq2 R R) R ?_
 cases h
 exact⟨b,R,(f.stp<|c.tr a)⟩
theorem ny {a b}{p0:VI}{p1:Int}(g:Rd Ri J w 0 a b p0){r:Bool}(h:mv p0 p1=some r):Ret prog 158 [.slice a p0.length b,vi p1] w (Pvb J w r):=by
 unfold mv at h
 refine Jl3 J func158 R ntmps158 R λi=>Jf3 R<|Jh3 [2,2,2,2,2,2,2,1,2,2] 1 R<|Jo3 R U37 R R<|Jn 3 R<|Ob h λm h j=>Jg4 [4] 13 m J w [(5,2),(6,2),(7,1),(8,2)] [(9,2)] tv ?_ ?_
 revert h
 cases o:decide ((p0.length:Int)<=p1)
 refine JF λh=>Jn 2 R<|Ja4 R<|Jn 1 R ?_
 cases h
 exact Jh4 tv R
 refine JT λh=>Jn 2 R<|Ob h λu k h=>Js3 R call215 (uU (J:=Mk J) (Jj3 g) k) ?_
 rintro _ t ⟨p,rfl,f⟩
 obtain⟨n,e,q⟩:=Ji f 2 R
 refine Tv<|Jn 1 R ?_
 cases h
 exact Jv1 _ tv ⟨R,_,e.wk R⟩<|KM R
 rintro _ s _ ⟨rfl,c,d⟩
 have h:=j
 refine Jb 1 R<|Ju<|Jb2 (l:=[.tmp 4]) results158 (Jq2 R R) R ?_
 cases h
 exact⟨c,R,(i.stp d)⟩
theorem sF {p0:Sig}{S Q O P}{p1:Machine}(C:Rd Rs J w 0 S Q p1.Next) (v:Rd Rs J w 0 O P p1.Out){r:Bool}(h:kx p0 p1=some r):Ret prog 17 [.agg #[vi p0.In,vi p0.Out],.agg #[.slice S p1.Next.length Q,.slice O p1.Out.length P]] w (Pvb J w r):=by
 unfold kx at h
 refine Jl3 J func17 R ntmps17 R λD=>Je [1,1,2] R<|Jt3 J 2 R λbd bH am k aC=>Tv<|Jt3 am 3 R λbe bN aq i u=>Tv<|Jb 1 R<|Je [2,1,2,2] R<|Je3 R U33 R Z31<|Jc3 R I31 (u.ld 0 R R)<|Jo3 R U31 R R<|Jb 1 R<|Jq<|Je [1,1,2,2,2,1,2,2,2,2,1,2,2,1,2,2,2] R ?_
 have W:=aC.stp i
 refine Jc4 tv R (Jd4 (haE W.cells) I28 Z28 R)<|Ob h λa2 aQ h=>Js3 R call58 (jY (J:=Mk aq) (p0:=p0) aQ) ?_
 rintro _ aX ⟨bq,rfl,ax⟩
 obtain⟨I,c,bw⟩:=Ji ax 4 R
 refine Tv<|Jn 2 R<|Ob h λae h aF=>Jg4 [2,3,5] 17 ae I aX [(4,2),(5,1),(6,2),(7,2)] [(8,2),(9,2),(10,1),(11,2),(12,2),(13,1),(14,2),(15,2),(16,2)] tv ?_ ?_
 revert h
 cases bj:(!a2)
 refine JF λh=>Jn 1 R<|Ob h λbR aR h=>Js3 R C59 (dD (J:=Mk I) aR) ?_
 rintro _ bK ⟨br,rfl,ay⟩
 obtain⟨a6,au,bx⟩:=Ji ay 6 R
 refine Tv<|Jn 2 R ?_
 cases h
 exact Jv1 _ tv ⟨R,_,au.wk R⟩<|KM R
 refine JT λh=>Jn 1 R<|Ja4 R<|Jn 2 R ?_
 cases h
 exact Jh4 tv R
 rintro _ aY _ ⟨rfl,an,d⟩
 have h:=aF
 refine Jn 1 R<|Ob h λaf h aG=>Jg4 [2,3,5] 26 af an aY [(9,2),(10,1),(11,2),(12,2),(13,1),(14,2),(15,2),(16,2)] [] tv ?_ ?_
 revert h
 cases bk:ae
 refine JF λh=>Je3 R U33 R Z31 ?_
 have T:=u.stp (c.tr d)
 refine Jc3 R I31 (T.ld 1 R R)<|Jo3 R U31 R R<|Je3 R U33 R Z31<|Jc3 R I31 (T.ld 0 R R)<|Jo3 R U31 R R<|Jn 2 R ?_
 cases h
 exact Jh4 tv R
 refine JT λh=>Jn 1 R<|Ja4 R<|Jn 2 R<|Ja4 R<|Jn 3 R ?_
 cases h
 exact Jh4 tv R
 rintro _ ak _ ⟨rfl,s,e⟩
 have h:=aG
 refine Jd ?_
 revert h
 cases bl:af
 refine JF λh=>Jy R<|Js<|Jp<|Jq<|Jf3 R<|Ob h λaj aP X=>?_
 clear h
 refine Jx1 (λz F=>∃G,z=[]/\Stp [] s ak G F/\aj=Dv ()) ?_ ?_
 refine Jv<|Jq3 [2,3,5] (λq al z F=>∃G m,z=(6,vi m)::al/\Stp [] s ak G F/\0<=m/\Dq ((p1.Next.length:Int)-m)=q/\cntM (g8 p0 p1) q m ()=some aj) ⟨_,_,⟨s,0,R,Jk3,(by decide),(by simp),aP⟩,(KM R)⟩ ?_
 rintro q _ bM ⟨y,m,rfl,f,Y,x,h⟩
 rcases q with _|q
 have p:=h;obtain⟨aW,h⟩:=exq p
 have E:=dcf x
 refine Jq<|Jh3 [2,2,1,2,2] 1 R<|Je3 R U33 R Z31<|Jc3 R I31 ((u.stp<|T4 c d e f).ld 0 R R)<|Jo3 R U31 R R<|Jb 1 R<|Jx2 R E<|Jc1<|Jt<|Jt ?_
 cases h
 have h:=p
 refine Jb1 ?_
 cases h
 exact Jw1 _ ⟨y,R,f.wk R,R⟩ KN
 obtain⟨aW,h,p⟩:=BI h;unfold g8 at h
 have E:=dct x
 refine Jq<|Jh3 [2,2,1,2,2] 1 R<|Je3 R U33 R Z31 ?_
 have U:=u.stp (T4 c d e f)
 refine Jc3 R I31 (U.ld 0 R R)<|Jo3 R U31 R R<|Jb 1 R<|Jw2 R E<|Js<|Jp<|Jq<|Jv<|Jq<|Js1 (J:=y) [0,2,3] none [(0,2),(2,2),(1,0),(3,2),(4,0),(5,2),(6,0),(7,1),(8,2),(9,2),(10,2),(12,2),(16,2),(18,2),(11,0),(13,2),(14,0),(15,2),(17,0),(19,2),(20,0),(21,2),(22,2),(23,2),(24,2),(25,2),(27,2),(30,2),(26,0),(28,2),(29,0),(31,1),(32,2),(33,2),(34,2),(35,2),(37,2),(40,2),(36,0),(38,2),(39,0),(41,0),(42,1),(43,1),(44,2),(45,2)] [] (by kernel_rfl) (by kernel_rfl) λbO g=>Je3 R U33 R Z31<|Jn 1 R ?_
 have n:=U.stp g
 refine Jg R (Jd2 I31 R R<|hvC (n.ld 0 R R) R)<|Ob h λa3 Z h=>Jd3 R C Z U31 Z37 ?_
 have o:=C.stp (T7 k i c d e f g)
 obtain⟨a8,bC,bf,aK⟩:=o.gSl Z
 refine Jg R (Jd2 I37 R R<|hvC aK R)<|Jo3 R U37 R R ?_
 have V:=W.stp (T5 c d e f g)
 refine Jg R (Jd4 (haC V.cells R) I28 Z28 R)<|Ob h λa4 aS h=>Js3 R call60 (ot (J:=Mk y) (p0:=p0) aS) ?_
 rintro _ aZ ⟨bs,rfl,az⟩
 obtain⟨ap,a,bz⟩:=Ji az 6 R
 refine⟨(a.cl R),Jn 2 R<|Ob h λag h aH=>Jg4 [2,3,5,6] 57 ag ap aZ [(10,2),(12,2),(16,2),(18,2),(11,0),(13,2),(14,0),(15,2),(17,0),(19,2),(20,0),(21,2),(22,2),(23,2)] [(24,2),(25,2),(27,2),(30,2),(26,0),(28,2),(29,0),(31,1),(32,2),(33,2),(34,2),(35,2),(37,2),(40,2),(36,0),(38,2),(39,0),(41,0),(42,1),(43,1),(44,2),(45,2)] (a.cl R) ?_ ?_⟩
 revert h
 cases bm:((a3.length:Int) !=a4)
 refine JF λh=>Je3 R U33 R Z31<|Jn 1 R<|Je3 R U33 R Z31<|Jn 1 R<|Jg R (Jd2 I31 R R<|hvC (n.ld 1 R R) R)<|Ob h λbS aa h=>Jd3 R v aa U31 Z37 ?_
 obtain⟨a9,bD,bg,aL⟩:=(v.stp (T7 k i c d e f g)).gSl aa
 refine Jg R (Jd2 I37 R R<|hvC aL R)<|Jo3 R U37 R R<|Jg R (Jd2 I31 R R<|hvC (n.ld 0 R R) R)<|Ob h λbT ab h=>Jd3 R o ab U31 Z37 ?_
 obtain⟨ba,bE,bh,aM⟩:=o.gSl ab
 refine Jg R (Jd2 I37 R R<|hvC aM R)<|Jo3 R U37 R R<|Jn 2 R ?_
 cases h
 exact Jv1 _ (a.cl R) ⟨R,_,Jk3⟩<|KM R
 refine JT λh=>Jn 4 R<|Jb4 R<|Jn 1 R<|Jb4 R<|Jn 1 R<|Jb4 R<|Jn 1 R<|Jb4 R<|Jn 3 R ?_
 cases h
 exact Jv1 _ (a.cl R) ⟨R,_,Jk3⟩<|KM R
 rintro _ a0 _ ⟨rfl,K,b⟩
 have h:=aH
 refine Jn 1 R<|Ob h λah h aI=>Jg4 [2,3,5,6] 67 ah K a0 [(25,2),(27,2),(30,2),(26,0),(28,2),(29,0),(31,1),(32,2),(33,2)] [(34,2),(35,2),(37,2),(40,2),(36,0),(38,2),(39,0),(41,0),(42,1),(43,1),(44,2),(45,2)] ((a.tr b).cl R) ?_ ?_
 revert h
 cases bn:ag
 refine JF λh=>Je3 R U33 R Z31<|Jn 2 R<|Jg R (Jd2 I31 R R<|hvC (n.ld 0 R R) R)<|Ob h λbU ac h=>Jd3 R o ac U31 Z37 ?_
 obtain⟨bb,bF,aD,aN⟩:=o.gSl ac
 refine Jg R (Jd2 I37 R R<|hvC aN R)<|Ob h λbV aT h=>Js3 R call61 (mG (J:=Mk K) (Jj3<|aD.stp<|a.tr b) aT) ?_
 rintro _ bP ⟨bt,rfl,aA⟩
 obtain⟨a7,B,bA⟩:=Ji aA 8 R
 refine⟨((T3 a b B).cl R),Jn 2 R ?_⟩
 cases h
 exact Jv1 _ ((T3 a b B).cl R) ⟨R,_,B.wk R⟩<|KM R
 refine JT λh=>Jn 3 R<|Jb4 R<|Jn 1 R<|Jb4 R<|Ja4 R<|Jn 2 R ?_
 cases h
 exact Jv1 _ ((a.tr b).cl R) ⟨R,_,Jk3⟩<|KM R
 rintro _ a1 _ ⟨rfl,L,j⟩
 have h:=aI
 refine Jn 1 R<|Ob h λai h aJ=>Jg4 [2,3,5,6] 79 ai L a1 [(35,2),(37,2),(40,2),(36,0),(38,2),(39,0),(41,0),(42,1),(43,1),(44,2),(45,2)] [] ((T3 a b j).cl R) ?_ ?_
 revert h
 cases bo:ah
 refine JF λh=>Je3 R U33 R Z31<|Jn 1 R<|Je3 R U28 R Z2<|Jg R (Jd2 I31 R R<|hvC (n.ld 1 R R) R)<|Ob h λbW ad h=>Jd3 R v ad U31 Z37 ?_
 obtain⟨bc,bG,aE,aO⟩:=(v.stp (T7 k i c d e f g)).gSl ad
 refine Jg R (Jd2 I37 R R<|hvC aO R)<|Jg R (Jd2 I2 R R<|hvC (V.ld 1 R R) R)<|Ob h λbX aU h=>Js3 R call62 (d9 (J:=Mk L) aU) ?_
 rintro _ bQ ⟨bu,rfl,aB⟩
 obtain⟨ar,t,bB⟩:=Ji aB 8 R
 have M:=(T4 a b j t)
 refine⟨(M.cl R),Ob h λbY aV h=>Js3 R call61 (mG (J:=Mk ar) (Jj3<|aE.stp M) aV) ?_⟩
 rintro _ bI ⟨bp,rfl,aw⟩
 obtain⟨a5,A,bv⟩:=Ji aw 10 R
 refine⟨((T5 a b j t A).cl R),Jn 2 R ?_⟩
 cases h
 exact Jv1 _ ((T5 a b j t A).cl R) ⟨R,_,(t.tr A).wk R⟩<|KM R
 refine JT λh=>Jn 3 R<|Jb4 R<|Jn 1 R<|Jb4 R<|Jb4 R<|Ja4 R<|Ja4 R<|Jn 2 R ?_
 cases h
 exact Jv1 _ ((T3 a b j).cl R) ⟨R,_,Jk3⟩<|KM R
 rintro _ bJ _ ⟨rfl,H,N⟩
 have h:=aJ
 refine Jt1<|Jd ?_
 revert h
 cases bi:ai
 refine JF λh=>Jy R<|Js<|Jz<|Jp<|Jg3 R<|wr2 Y x C.len_le ▸ ?_
 cases h
 exact Ja2 ⟨H,m+1,R,(T6 f g a b j N).wk R,nxz Y,nxm x,p⟩ R
 refine JT λh=>Jx R<|Jf3 R<|Ju<|Ja1<|Jw<|Jw ?_
 cases h
 obtain rfl:=Ds p
 have h:=yL X
 refine Ja1<|Jr2<|Jw<|Jb2 (l:=[.tmp 4]) results17 (Jq2 R R) R ?_
 cases h
 exact⟨H,R,(D.stp<|T11 k i c d e f g a b j N)⟩
 rintro _ bL ⟨ao,rfl,av,rfl⟩
 have h:=yI X
 refine Jp<|Jf3 R<|Ju<|Jb2 (l:=[.tmp 4]) results17 (Jq2 R R) R ?_
 cases h
 exact⟨ao,R,(D.stp<|T6 k i c d e av)⟩
 refine JT λh=>Jx R<|Jf3 R<|Ju<|Jw<|Jb2 (l:=[.tmp 4]) results17 (Jq2 R R) R ?_
 cases h
 exact⟨s,R,(D.stp<|T5 k i c d e)⟩
theorem sN {v N}{p0:VV}{A z y x}{p1:Pair}(ab:Rd Rs J w 0 v N p0) (n:Rd Ri J w 0 A z p1.Ask) (ac:Rd Ri J w 0 y x p1.Give){r:Int}(h:jm p0 p1=some r):Ret prog 147 [.slice v p0.length N,.agg #[.slice A p1.Ask.length z,.slice y p1.Give.length x]] w (Pvi J w r):=by
 unfold jm at h
 refine Jl3 J func147 R ntmps147 R λF=>Je [1,2] R<|Jt3 J 2 R λav aC S d m=>Tv<|Jb 1 R<|Jh3 [2,2,2,1,1,2] 1 R<|Jo3 R U31 R R<|Je3 R U127 R Z37<|Jc3 R I37 (m.ld 1 R R)<|Ob h λam af h=>Js3 R call207 (ww (J:=Mk S) (Jj3<|ac.stp d) af) ?_
 rintro _ O ⟨aA,ap,aq,rfl,Y,aa⟩
 obtain⟨i,b,ai⟩:=Ji Y 3 R
 refine Tv<|?_
 have B:=aa.mx dA ai R (R:3+2=5)
 refine Jb 1 R<|Jq<|Jf3 R<|Ob h λM ae G=>?_
 clear h
 refine Jx1 (λk p=>∃q,k=[]/\Stp [] i O q p/\M=Dv ()) ?_ ?_
 refine Jv<|Jq3 [0,3,5] (λf P k p=>∃q c,k=(6,vi c)::P/\Stp [] i O q p/\0<=c/\Dq ((p1.Ask.length:Int)-c)=f/\cntM (dK p0 p1 am) f c ()=some M) ⟨_,_,⟨i,0,R,Jk3,(by decide),(by simp),ae⟩,(KM R)⟩ ?_
 rintro f _ al ⟨j,c,rfl,a,H,g,h⟩
 rcases f with _|f
 have e:=h;obtain⟨ak,h⟩:=exq e
 have o:=dcf g
 refine Jq<|Jh3 [2,2,1,2,2] 1 R<|Je3 R U127 R Z37<|Jc3 R I37 ((m.stp<|b.tr a).ld 0 R R)<|Jo3 R U37 R R<|Jb 1 R<|Jx2 R o<|Jc1<|Jt<|Jt ?_
 cases h
 have h:=e
 refine Jb1 ?_
 cases h
 exact Jw1 _ ⟨j,R,a.wk R,R⟩ KN
 obtain⟨ak,h,e⟩:=BI h;unfold dK at h
 have o:=dct g
 refine Jq<|Jh3 [2,2,1,2,2] 1 R<|Je3 R U127 R Z37 ?_
 have C:=m.stp (b.tr a)
 refine Jc3 R I37 (C.ld 0 R R)<|Jo3 R U37 R R<|Jb 1 R<|Jw2 R o<|Js<|Jp<|Jq<|Jv<|Je [2,1,2,2,1,2] R<|Je3 R U127 R Z37<|Jc3 R I37 (C.ld 0 R R)<|Jn 1 R<|Ob h λaH I h=>Jd3 R n I U37 Z2<|Jc3 R I2 ((n.stp<|T3 d b a).gInt I)<|Jb 1 R<|Jh3 [2,2,2,1,2,2,2,2,2,1,2,1,2] 2 R<|Ob h λan K h=>Jd3 R B.rdc K U178 Z4 ?_
 have D:=B.stp a
 refine Jc3 R I4 (D.rdc.gBool K)<|Jn 1 R<|Ob h λL h ad=>Jg4 [0,3,5,6,7] 37 L j al [(5,2),(6,2),(7,2),(8,2),(9,1),(10,2),(11,1),(12,2)] [] tv ?_ ?_
 revert h
 cases aw:an
 refine JF λh=>Jn 4 R<|Ja4 R<|Jn 1 R<|Ja4 R<|Jn 1 R ?_
 cases h
 exact Jh4 tv R
 refine JT λh=>Jn 4 R<|Ob h λaI ag h=>?_
 have E:=ab.stp (T3 d b a)
 refine Js3 R call209 (wv (J:=Mk j) (Jj3 E) (Jj3 D.rdc) ag) ?_
 rintro _ aE ⟨ay,au,ar,rfl,W,Z⟩
 obtain⟨T,t,aj⟩:=Ji W 6 R
 refine Tv<|Jn 1 R<|Ob h λaJ ah h=>Js3 R call208 (re (J:=Mk T) (Jj3<|E.stp t) (Jj3 (Z.mx (bZ _) aj R (R:6+2=8)).rdc) ah) ?_
 rintro _ aF ⟨az,rfl,X⟩
 obtain⟨ao,V,aB⟩:=Ji X 9 R
 refine Tv<|Jn 1 R ?_
 cases h
 exact Jv1 _ tv ⟨R,_,(t.tr V).wk R⟩<|KM R
 rintro _ aG _ ⟨rfl,s,u⟩
 have h:=ad
 refine Jd ?_
 revert h
 cases ax:L
 refine JF λh=>Jy R<|Js<|Jz<|Jp<|Jg3 R<|wr2 H g n.len_le ▸ ?_
 cases h
 exact Ja2 ⟨s,c+1,R,(a.tr u).wk R,nxz H,nxm g,e⟩ R
 refine JT λh=>Jx R<|Jf3 R<|Ju<|Ja1<|Jw<|Jw ?_
 cases h
 obtain rfl:=Ds e
 have h:=yL G
 refine Ja1<|Jr2<|Jw<|Jb2 (l:=[.tmp 4]) results147 (Jq2 R R) R ?_
 cases h
 exact⟨s,R,(F.stp<|T4 d b a u)⟩
 rintro _ aD ⟨Q,rfl,U,rfl⟩
 have h:=yI G
 refine Jp<|Jf3 R<|Ju<|Jb2 (l:=[.tmp 4]) results147 (Jq2 R R) R ?_
 cases h
 exact⟨Q,R,(F.stp<|T3 d b U)⟩
theorem ur {p0:Sig}{c5 de c6 c8}{p1:Machine}{c7 dc db dd}{p2:Det}(dz:Rd Rs J w 0 c5 de p1.Next) (dA:Rd Rs J w 0 c6 c8 p1.Out) (dB:Rd Rs J w 0 c7 dc p2.Next) (cz:Rd Pair.rp J w 0 db dd p2.Pairs){r:(Option watch)×Bool}(h:lb p0 p1 p2=some r):Ret prog 148 [.agg #[vi p0.In,vi p0.Out],.agg #[.slice c5 p1.Next.length de,.slice c6 p1.Out.length c8],.agg #[.slice c7 p2.Next.length dc,.slice db p2.Pairs.length dd]] w (λi a=>∃(b:Col) (dV:Option Addr) (dZ:Nat) (dW:Option Addr) (d0:Nat) (dX:Option Addr) (d1:Nat) (dY:Nat),i= .tuple #[.pointer (bif r.1.isSome then some ⟨dY,0,none⟩ else none),.bool r.2]/\Ent J w b a/\Oc (Dp E6 2) 37 b a 2 dV dZ ((r.1.getD (⟨([]:VV),([]:VV),([]:VP)⟩:watch)).next)/\Oc (Dp E6 2) 37 b a 3 dW d0 ((r.1.getD (⟨([]:VV),([]:VV),([]:VP)⟩:watch)).letters)/\Oc Pair.ep127 127 b a 4 dX d1 ((r.1.getD (⟨([]:VV),([]:VV),([]:VP)⟩:watch)).pairs)/\(r.1.isSome=true->Bc b a 5 dY 172 [.slice dV ((r.1.getD (⟨([]:VV),([]:VV),([]:VP)⟩:watch)).next).length dZ,.slice dW ((r.1.getD (⟨([]:VV),([]:VV),([]:VP)⟩:watch)).letters).length d0,.slice dX ((r.1.getD (⟨([]:VV),([]:VV),([]:VP)⟩:watch)).pairs).length d1])):=by
 unfold lb at h
 refine Jl3 J func148 R ntmps148 R λdC=>Je [1,1,1,2,2] R<|Jt3 J 2 R λg1 hx eo ap fO=>Tv<|Jt3 eo 3 R λg2 ir eB aa fV=>Tv<|Jt3 eB 4 R λg3 d8 bC Q dg=>Tv<|Jb 2 R<|Je [2,1,2] R<|Jf R (Jj4 [vi 0,vi 0] R)<|Jx3 bC (Dx E6 E6) 5 [] (parts:=[(0,.tmp 27)]) (cells:=[vi 0,vi 0]) (xs:=([(0,0)]:List (Int×Int))) R Y123 jd R (Jf4 ⟨[vi 0],[vi 0],Zl bC d8 [],Zl bC d8 [],R,Zl.sp (l1:=[]) (l2:=[]) R,Zl.sr (l1:=[]) (l2:=[]),R,R⟩) λeP eL hB eg C e3=>Tv<|Jb 1 R<|Je [1,2,1,2,2] R<|WO.mkmap (J:=eg) 6 R R R R R kwI2 kvI2 (λi:Int=>vi i) λaW hJ cI y fc=>Tv<|Jf R (Jj4 [vi 0,vi 0] R)<|Ob h λgS gz h=>WO.mapin (J:=cI) (kf:=kvI2) (vf:=(λi:Int=>vi i)) (v:=0) 6 R R R R R R R xf U124 fc gz λhS z fj=>Tv<|Jb 2 R<|Je [2,1,2] R<|Jf R (Jj4 [.slice none 0 0,.slice none 0 0,.slice none 0 0] R)<|Jt3 cI 7 R λaB d3 bL u fq=>Tv<|Jb 1 R<|Jq<|Jf3 R<|Ob h λdS gg dG=>?_
 clear h
 refine Jp3 [5,10] (λc d a=>∃(b:Col) (j:(List<|Int×Int)×Int×VV×VV×(List ((Int×Int)×Int))) (co:Option Addr) (cl:Nat) (ab:Option Addr) (ad:Nat) (ai:Option Addr) (ac:Nat),d=(8,.slice co j.1.length cl)::c/\Stp [5,6,7,8,9,10,11,12,13,14] bL d3 b a/\Oc (Dx E6 E6) 120 b a 5 co cl j.1/\Oc (Dp E6 2) 37 b a 8 ab ad j.2.2.1/\Oc (Dp E6 2) 37 b a 9 ai ac j.2.2.2.1/\Mc kwI2 kvI2 (λi:Int=>vi i) b a 6 aW j.2.2.2.2/\Bc b a 7 aB 172 [.slice ab j.2.2.1.length ad,.slice ai j.2.2.2.1.length ac,.slice none 0 0]/\dS=Dv j) ?_ ?_
 refine Jv<|Jq3 [3,4,5,9,10] (λf c d a=>∃(b:Col) (e:(List<|Int×Int)×Int×VV×VV×(List ((Int×Int)×Int))) (aU:Option Addr) (aK:Nat) (bi:Option Addr) (bq:Nat) (ag:Option Addr) (ah:Nat),d=(8,.slice aU e.1.length aK)::(11,vi e.2.1)::c/\Stp [5,6,7,8,9,10,11,12,13,14] bL d3 b a/\Oc (Dx E6 E6) 120 b a 5 aU aK e.1/\Oc (Dp E6 2) 37 b a 8 bi bq e.2.2.1/\Oc (Dp E6 2) 37 b a 9 ag ah e.2.2.2.1/\Mc kwI2 kvI2 (λi:Int=>vi i) b a 6 aW e.2.2.2.2/\Bc b a 7 aB 172 [.slice bi e.2.2.1.length bq,.slice ag e.2.2.2.1.length ah,.slice none 0 0]/\cd (iv p0 p1 p2) f e=some dS) ⟨_,_,⟨bL,((([(0,0)]:List (Int×Int)):(List<|Int×Int)),(0:Int),([]:VV),([]:VV),gS),eP,eL,none,0,none,0,R,Jk3,(e3.stp<|T3 y z u),Dt,Dt,(fj.stp u),fq,gg⟩,(KM R)⟩ ?_
 rintro f _ ip ⟨bP,e,aU,aK,bi,bq,ag,ah,rfl,L,bs,bt,bu,dr,ds,h⟩
 rcases f with _|f
 cases h
 obtain⟨hr,h,cA⟩:=BI h;unfold iv at h
 refine Jq<|Jh3 [2,2,2,2] 2 R<|Jo3 R U123 R R<|Jb 1 R ?_
 revert h
 cases hk:decide (e.2.1<(e.1.length:Int))
 refine JF λh=>Jy R<|Jc1<|Jt<|Jt ?_
 cases h
 have h:=cA
 refine Jb1 ?_
 cases h
 exact Jw1 _ ⟨bP,(e.1,e.2.1,e.2.2.1,e.2.2.2.1,e.2.2.2.2),aU,aK,bi,bq,ag,ah,R,L.wk R,bs,bt,bu,dr,ds,R⟩<|KM R
 refine JT λh=>Jx R<|Js<|Jp<|Jq<|Jv<|Jq<|Js1 (J:=bP) [0,5] none [(0,2),(1,2),(2,2),(3,2),(5,2),(6,2),(7,2),(8,2),(4,0),(10,2),(9,0),(11,2)] [] (by kernel_rfl) (by kernel_rfl) λit n=>Jn 2 R<|Ob h λgN dJ h=>Jd3 R bs.rdc dJ U123 Z120<|Jf R (jW U120 Z2 R R R R)<|Jn 2 R<|Ob h λgO dK h=>Jd3 R bs.rdc dK U123 Z120<|Jf R (jW U120 Z2 R R R R) ?_
 have cv:=bs.stp n
 obtain⟨hd,gk,gc⟩:=(cv.rdc).gSt dJ
 obtain⟨_,_,rfl,rfl,rfl⟩:=gk
 refine Jg R (Jd2 I2 R R<|hvC (λa cB=>gc a cB 0 _ R) R)<|Jn 1 R ?_
 obtain⟨he,gl,gd⟩:=(cv.rdc).gSt dK
 obtain⟨_,_,rfl,rfl,rfl⟩:=gl
 refine Jg R (Jd2 I2 R R<|hvC (λa cB=>gd a cB 1 _ R) R)<|Jn 1 R<|Jt1<|Jd<|Je [1,1,2,2] R<|Jy3 bP E6 10 R Y37 bS R λeE eH iu eA o fR=>Tv<|Jy3 eA E6 11 R Y37 bS R λeG eI d7 bQ m fS=>Tv<|Jb 2 R<|Jq<|Je [2,1,2,2,1,2,2] R<|Je3 R U33 R Z31 ?_
 have dt:=fV.stp (T9 Q C y z u L n o m)
 refine Jc3 R I31 (dt.ld 0 R R)<|Jn 1 R<|Ob h λeb dL h=>Jd3 R dz dL U31 Z37 ?_
 obtain⟨gV,hu,cw,f8⟩:=(dz.stp (T11 ap aa Q C y z u L n o m)).gSl dL
 refine Jc3 R I37 f8<|Jo3 R U37 R R<|Jb 1 R<|Ob h λdT gh f3=>?_
 clear h
 refine Jp3 [3,4,5,9,10,11] (λc d a=>∃(b:Col) (g:(List<|Int×Int)×VI×VI×(List ((Int×Int)×Int))) (bf:Option Addr) (bn:Nat) (aS:Option Addr) (aL:Nat) (ay:Option Addr) (az:Nat),d=(8,.slice bf g.1.length bn)::(14,.slice aS g.2.1.length aL)::(15,.slice ay g.2.2.1.length az)::c/\Stp [5,6,10,11,14] bQ d7 b a/\Oc (Dx E6 E6) 120 b a 5 bf bn g.1/\Oc E6 2 b a 10 aS aL g.2.1/\Oc E6 2 b a 11 ay az g.2.2.1/\Mc kwI2 kvI2 (λi:Int=>vi i) b a 6 aW g.2.2.2/\dT=Dv g) ?_ ?_
 refine Jv<|Jq3 [3,4,5,9,10,11,12,13,56,57] (λf c d a=>∃(b:Col) (N:Int) (s:(List<|Int×Int)×VI×VI×(List ((Int×Int)×Int))) (aQ:Option Addr) (aN:Nat) (be:Option Addr) (a8:Nat) (bm:Option Addr) (a9:Nat),d=(8,.slice aQ s.1.length aN)::(14,.slice be s.2.1.length a8)::(15,.slice bm s.2.2.1.length a9)::(58,vi N)::c/\Stp [5,6,10,11,14] bQ d7 b a/\Oc (Dx E6 E6) 120 b a 5 aQ aN s.1/\Oc E6 2 b a 10 be a8 s.2.1/\Oc E6 2 b a 11 bm a9 s.2.2.1/\Mc kwI2 kvI2 (λi:Int=>vi i) b a 6 aW s.2.2.2/\0<=N/\Dq ((eb.length:Int)-N)=f/\cntM (iw p0 p1 p2 gN gO eb) f N s=some dT) ⟨_,_,⟨bQ,0,(e.1,([]:VI),([]:VI),e.2.2.2.2),aU,aK,eE,eH,eG,eI,R,Jk3,(cv.stp<|o.tr m),(fR.stp m),fS,(dr.stp<|T3 n o m),(by decide),(by simp),gh⟩,(KM R)⟩ ?_
 rintro f _ ix ⟨bT,N,s,aQ,aN,be,a8,bm,a9,rfl,U,cy,dv,dw,dx,f6,dF,h⟩
 rcases f with _|f
 have bx:=h;obtain⟨gD,h⟩:=exq bx
 have aE:=dcf dF
 refine Jf3 R<|Jq<|Jx2 R aE<|Jc1<|Jt<|Jt ?_
 cases h
 have h:=bx
 refine Jb1 ?_
 cases h
 exact Jw1 _ ⟨bT,(s.1,s.2.1,s.2.2.1,s.2.2.2),aQ,aN,be,a8,bm,a9,R,U.wk R,cy,dv,dw,dx,R⟩<|KM R
 obtain⟨gD,h,bx⟩:=BI h;unfold iw at h
 have aE:=dct dF
 refine Jf3 R<|Jq<|Jw2 R aE<|Js<|Jp<|Jq<|Jv<|Jh3 [2,2,1,2,2] 1 R<|Ob h λbA dM h=>Jd3 R cw dM U37 Z2<|Jc3 R I2 ((cw.stp U).gInt dM)<|Jb 2 R<|Jq<|Js1 (J:=bT) [0,2,3] none [(0,2),(2,2),(5,2),(11,2),(1,0),(3,2),(4,0),(6,2),(7,0),(8,0),(9,1),(10,2),(12,2),(13,2)] [] (by kernel_rfl) (by kernel_rfl) λiA D=>Je3 R U33 R Z31<|Jn 3 R<|Jg R (Jd2 I31 R R<|hvC ((dt.stp<|U.tr D).ld 1 R R) R)<|Ob h λiD dN h=>Jd3 R dA dN U31 Z37 ?_
 obtain⟨gW,hv,dy,f9⟩:=(dA.stp (T13 ap aa Q C y z u L n o m U D)).gSl dN
 refine Jg R (Jd2 I37 R R<|hvC f9 R)<|Ob h λgP dO h=>Jd3 R dy dO U37 Z2<|Jg R (Jd2 I2 R R<|hvC (dy.gInt dO) R)<|Jg R (Jd4 (haC (fO.stp<|T12 aa Q C y z u L n o m U D).cells R) I28 Z28 R)<|Ob h λgQ gx h=>Js3 R call46 (eK (J:=Mk bT) (p0:=p0) gx) ?_
 rintro _ hy ⟨hl,rfl,eR⟩
 obtain⟨ec,P,ho⟩:=Ji eR 12 R
 refine⟨(P.cl R),Jn 3 R<|Jt1<|Jd<|Jh3 [2,2,1,2,2,1,2,2,1,2,1,1] 1 R<|Je3 R U71 R Z31<|Jc3 R I31 ((dg.stp<|T11 C y z u L n o m U D P).ld 0 R R)<|Jn 1 R<|Ob h λiE dP h=>Jd3 R dB dP U31 Z37 ?_⟩
 obtain⟨gX,hw,df,f7⟩:=(dB.stp (T14 ap aa Q C y z u L n o m U D P)).gSl dP
 refine Jc3 R I37 f7<|Jn 1 R<|Ob h λbB dQ h=>Jd3 R df dQ U37 Z2<|Jc3 R I2 (df.gInt dQ)<|Jf R (Jj4 [vi bA,vi bB] R)<|Ju3 ec 14 R X120 R λgY hz W aG eU=>Tv<|Ji4 W 14 R Z120 R eU R λgE aH cp=>Tv<|Jd<|Jh3 [2,1,1,2,2,2,2,2] 1 R<|Jc4 tv R (Jd4 (haE cp.cells) I120 Z120 R) ?_
 have cq:=dx.stp (T4 D P aG aH)
 refine Ob h λgR gy h=>Jc4 tv R (yM (kf:=kvI2) (vf:=(λi:Int=>vi i)) xf U124 X2 R R R (mvE cq) gy)<|Jb 5 R<|Jq<|Jf3 R<|Ob h λaj h fY=>Jp3 [3,4,5,9,10,11,12,13,14,15,18,56,57,58] (λc d a=>∃b bj bc,d=(8,.slice bj aj.1.length bc)::(20,vi aj.2.1)::c/\Stp [5,6] W gE b a/\Oc (Dx E6 E6) 120 b a 5 bj bc aj.1/\Mc kwI2 kvI2 (λi:Int=>vi i) b a 6 aW aj.2.2) ?_ ?_
 revert h
 cases hg:(!gR.2)
 refine JF λh=>Jy R<|Js ?_
 cases h
 exact Jw1 _ ⟨W,aQ,aN,R,Jk3,(cy.stp<|T4 D P aG aH),cq⟩<|KM R
 refine JT λh=>Jx R<|Jh3 [2,2,2] 1 R<|Jo3 R U123 R R<|Jb 1 R<|Jh3 [2,1,2,1] 1 R<|Jc4 tv R (Jd4 (haE cp.cells) I120 Z120 R)<|Jn 1 R<|Ob h λiF gA h=>WO.mapup (J:=W) (kf:=kvI2) (vf:=(λi:Int=>vi i)) (v:=(s.1.length:Int)) 6 R R R R R R R xf U124 cq gA λd2 bU eX=>Tv<|Jd<|Ji3 [2,1,1,1,2] 1 R<|Jc4 tv R (Jd4 (haE (cp.stp bU).cells) I120 Z120 R)<|Jx3 W (Dx E6 E6) 15 [] (parts:=[(0,.tmp 100)]) (cells:=[vi bA,vi bB]) (xs:=([(bA,bB)]:List (Int×Int))) R Y123 jd R (Jf4 ⟨[vi bA],[vi bB],Zl W d2 [],Zl W d2 [],R,Zl.sp (l1:=[]) (l2:=[]) R,Zl.sr (l1:=[]) (l2:=[]),R,R⟩) λbJ g8 hC ee bY eY=>Tv<|Ob h λiB gp h=>Jz3 ee (Dx E6 E6) 5 [] R Y123 jd R (cy.stp<|T6 D P aG aH bU bY) (Du (ya (cc _)<|cc _) eY.rdc) bV gp R λeC eF hD ef cX eZ=>Tv<|Jc 1 R ?_
 cases h
 exact Jw1 _ ⟨ef,eC,eF,R,(T3 bU bY cX).wk R,eZ,(eX.stp<|bY.tr cX)⟩<|KM R
 rintro _ hA ⟨ed,bj,bc,rfl,cW,eV,eW⟩
 have h:=fY
 have cQ:=(T5 D P aG aH cW)
 refine Jp<|Ji3 [2,2,1,1,2,2,1,1,2,2] 2 R<|Je4 ed 15 [aj.2.1] R Y37 bS R λbG g7 hE eh a1 e0=>Tv<|Ob h λgI gq h=>Jz3 eh E6 10 [] R Y37 bS R (dv.stp<|cQ.tr a1) (Du (cc _) e0.rdc) bV gq R λeM eN hF ei bZ e1=>Tv<|Jn 2 R<|Je4 ei 16 [(Dr .i64 ((Dr .i64<|gP * gQ)+N))] R Y37 bS R λbR g4 hG ej a2 e2=>Tv<|Ob h λgJ gr h=>Jz3 ej E6 11 [] R Y37 bS R (dw.stp<|T4 cQ a1 bZ a2) (Du (cc _) e2.rdc) bV gr R λeQ eJ hH ek b0 e4=>Tv<|Jc 2 R<|Jz<|Jp<|Jg3 R ?_
 have go:Dr .i64 (N+1)=N+1:=wr1 f6 (Jn2 aE) cw.len_le
 rw[go]
 have aE:=Jn2 aE
 cases h
 have cR:=(T4 a1 bZ a2 b0)
 exact Ja2 ⟨ek,N+1,(aj.1,gI,gJ,aj.2.2),bj,bc,eM,eN,eQ,eJ,R,(T10 U D P aG aH cW a1 bZ a2 b0).wk R,(eV.stp cR),(e1.stp<|a2.tr b0),e4,(eW.stp cR),by omega,by omega,bx⟩ R
 rintro _ gH ⟨aF,g,bf,bn,aS,aL,ay,az,rfl,aw,fT,du,cx,fU,rfl⟩
 have h:=yI f3
 refine Jp<|Jq<|Jh3 [2,2,2] 1 R<|Jo3 R U123 R R<|Jb 1 R ?_
 revert h
 cases hh:decide (256<(g.1.length:Int))
 refine JF λh=>Jy R<|Js<|Jp<|Ob h λx cC h=>Ob h λO cD h=>Jp3 [3,4,5,8,9,10,11] (λc d a=>∃b bl bp bh bk,d=c/\Stp [7,8,9,10,11,12,13] aF gH b a/\Oc (Dp E6 2) 37 b a 12 bl bp x/\Oc (Dp E6 2) 37 b a 13 bh bk O/\Bc b a 7 aB 172 [.slice bl x.length bp,.slice bh O.length bk,.slice none 0 0]) ?_ ?_
 refine WC.rxt (J:=aF) [7] (some 18) (by kernel_rfl) λhK t=>Jq1 (fuel:=10) [(0,2),(1,2),(2,2),(3,2),(4,2),(6,2),(9,2),(10,2),(11,2),(13,2),(5,0),(12,0)] (by kernel_rfl) (by kernel_rfl) R<|Jn 3 R<|Jf R (bX R R)<|Je3 R U172 R Z31<|Jn 2 R<|Jf R (bX R R)<|Je3 R U172 R Z31<|Jn 1 R ?_
 have aV:=ds.stp (T5 n o m aw t)
 refine Jg R (Jd2 I31 R R<|hvC (aV.ld 0 R R) R)<|Jg R (Jd2 I31 R R<|hvC (aV.ld 1 R R) R)<|Jp1<|WA.fork2 (fuel:=9) 7 14 (by kernel_rfl) R ?_ ?_
 refine Jx3 aF (Dp E6 2) 12 [10] (parts:=[(0,.tmp 121)]) (cells:=[.slice aS g.2.1.length aL]) (xs:=([g.2.1]:VV)) R Y31 bW R (Jf4 ⟨_,_,R,(du.stp t)⟩) λeO eD hL cH k dh=>⟨(k.cl R),Jp1<|WA.fork2 (fuel:=8) 8 14 (by kernel_rfl) R ?_ ?_⟩
 have cS:=(T6 n o m aw t k)
 exact Jz3 cH (Dp E6 2) 8 [12] R Y31 bW R (bt.stp cS) dh.src (c9 R) cC R λp q hM em X e8=>⟨((k.tr X).cl R),Jp1<|Jq1 (fuel:=4) [(14,1),(15,1),(16,2),(17,2)] (by kernel_rfl) (by kernel_rfl) R<|Jx3 em (Dp E6 2) 13 [11] (parts:=[(0,.tmp 128)]) (cells:=[.slice ay g.2.2.1.length az]) (xs:=([g.2.2.1]:VV)) R Y31 bW R (Jf4 ⟨_,_,R,(cx.stp<|T3 t k X)⟩) λda c4 hN en ak e9=>⟨((T3 k X ak).cl R),Jz3 en (Dp E6 2) 9 [13] R Y31 bW R (bu.stp<|T3 cS X ak) e9.src (c9 R) cD R λA B hO bD a3 fa=>⟨((T4 k X ak a3).cl R),Jf R (bX R R)<|Je3 R U172 R Z31<|Jp1<|WA.brk (fuel:=3) 18 (by kernel_rfl) R (by kernel_rfl)<|Jv3 bD 7 (off:=0) (vc:=[.slice p x.length q]) (cs':=[.slice p x.length q,.slice ag e.2.2.2.1.length ah,.slice none 0 0]) R Z31 R (aV.stp<|T4 k X ak a3) R λhP b2 fb=>Tv<|Jp1<|Jq1 (fuel:=0) [(19,2),(20,2),(21,1)] (by kernel_rfl) (by kernel_rfl) R<|Jf R (bX R R)<|Je3 R U172 R Z31<|Jv3 bD 7 (off:=1) (vc:=[.slice A O.length B]) (cs':=[.slice p x.length q,.slice A O.length B,.slice none 0 0]) R Z31 R fb R λhQ b3 fd=>Tv<|Jp1<|Jr1 [] (by kernel_rfl) (by kernel_rfl) R<|Jo<|Jw1 _ ⟨(λM=>ren [(8,12),(9,13)]<|bD M),p,q,A,B,R,(Jz2 ((T7 t k X ak a3 b2 b3).wk R) [(8,12),(9,13)] R),((e8.stp<|T4 ak a3 b2 b3).map (ren [(8,12),(9,13)]) R R),((fa.stp<|b2.tr b3).map (ren [(8,12),(9,13)]) R R),(fd.map (ren [(8,12),(9,13)]) R R)⟩<|KM R⟩⟩⟩
 have cT:=(T6 n o m aw t k)
 exact Jx3 cH (Dp E6 2) 13 [11] (parts:=[(0,.tmp 128)]) (cells:=[.slice ay g.2.2.1.length az]) (xs:=([g.2.2.1]:VV)) R Y31 bW R (Jf4 ⟨_,_,R,(cx.stp<|t.tr k)⟩) λda c4 hR ep S fe=>⟨((k.tr S).cl R),Jp1<|Jq1 (fuel:=4) [(8,1),(15,1),(16,2),(17,2)] (by kernel_rfl) (by kernel_rfl) R<|Jm1 (J:=ep) (E:=(Dp E6 2)) 8 [12] R R R R R R R R R Y31 bW R R R R (bt.stp<|cT.tr S) (dh.stp S).src (c9 R) cC R λp q hT eq al ff=>⟨((T3 k S al).cl R),Jm1 (J:=eq) (E:=(Dp E6 2)) 9 [13] R R R R R R R R R Y31 bW R R R R (bu.stp<|T3 cT S al) (fe.stp al).src (c9 R) cD R λA B hU bE a4 fg=>⟨((T4 k S al a4).cl R),Jf R (bX R R)<|Je3 R U172 R Z31<|Jp1<|WA.brk (fuel:=3) 18 (by kernel_rfl) R (by kernel_rfl)<|Jv3 bE 7 (off:=0) (vc:=[.slice p x.length q]) (cs':=[.slice p x.length q,.slice ag e.2.2.2.1.length ah,.slice none 0 0]) R Z31 R (aV.stp<|T4 k S al a4) R λhV b4 fh=>Tv<|Jp1<|Jq1 (fuel:=0) [(19,2),(20,2),(21,1)] (by kernel_rfl) (by kernel_rfl) R<|Jf R (bX R R)<|Je3 R U172 R Z31<|Jv3 bE 7 (off:=1) (vc:=[.slice A O.length B]) (cs':=[.slice p x.length q,.slice A O.length B,.slice none 0 0]) R Z31 R fh R λhW b5 fi=>Tv<|Jp1<|Jr1 [] (by kernel_rfl) (by kernel_rfl) R<|Jo<|Jw1 _ ⟨(λM=>ren [(8,12),(9,13)]<|bE M),p,q,A,B,R,(Jz2 ((T7 t k S al a4 b4 b5).wk R) [(8,12),(9,13)] R),((ff.stp<|T3 a4 b4 b5).map (ren [(8,12),(9,13)]) R R),((fg.stp<|b4.tr b5).map (ren [(8,12),(9,13)]) R R),(fi.map (ren [(8,12),(9,13)]) R R)⟩<|KM R⟩⟩⟩
 have cU:=(T5 n o m aw t)
 exact Jx3 aF (Dp E6 2) 12 [11] (parts:=[(0,.tmp 128)]) (cells:=[.slice ay g.2.2.1.length az]) (xs:=([g.2.2.1]:VV)) R Y31 bW R (Jf4 ⟨_,_,R,(cx.stp t)⟩) λda c4 hX er G fk=>⟨(G.cl R),Jp1<|Jq1 (fuel:=4) [(7,1),(8,1),(15,1),(16,2),(17,2)] (by kernel_rfl) (by kernel_rfl) R<|Jx3 er (Dp E6 2) 13 [10] (parts:=[(0,.tmp 121)]) (cells:=[.slice aS g.2.1.length aL]) (xs:=([g.2.1]:VV)) R Y31 bW R (Jf4 ⟨_,_,R,(du.stp<|t.tr G)⟩) λeO eD hY es T fl=>⟨((G.tr T).cl R),Jz3 es (Dp E6 2) 8 [13] R Y31 bW R (bt.stp<|T3 cU G T) fl.src (c9 R) cC R λp q hZ et am fm=>⟨((T3 G T am).cl R),Jm1 (J:=et) (E:=(Dp E6 2)) 9 [12] R R R R R R R R R Y31 bW R R R R (bu.stp<|T4 cU G T am) (fk.stp<|T.tr am).src (c9 R) cD R λA B h0 bF a5 fn=>⟨((T4 G T am a5).cl R),Jf R (bX R R)<|Je3 R U172 R Z31<|Jp1<|WA.brk (fuel:=3) 18 (by kernel_rfl) R (by kernel_rfl)<|Jv3 bF 7 (off:=0) (vc:=[.slice p x.length q]) (cs':=[.slice p x.length q,.slice ag e.2.2.2.1.length ah,.slice none 0 0]) R Z31 R (aV.stp<|T4 G T am a5) R λh1 b6 fo=>Tv<|Jp1<|Jq1 (fuel:=0) [(19,2),(20,2),(21,1)] (by kernel_rfl) (by kernel_rfl) R<|Jf R (bX R R)<|Je3 R U172 R Z31<|Jv3 bF 7 (off:=1) (vc:=[.slice A O.length B]) (cs':=[.slice p x.length q,.slice A O.length B,.slice none 0 0]) R Z31 R fo R λh2 b7 fp=>Tv<|Jp1<|Jr1 [] (by kernel_rfl) (by kernel_rfl) R<|Jo<|Jw1 _ ⟨(λM=>ren [(8,12),(9,13)]<|bF M),p,q,A,B,R,(Jz2 ((T7 t G T am a5 b6 b7).wk R) [(8,12),(9,13)] R),((fm.stp<|T3 a5 b6 b7).map (ren [(8,12),(9,13)]) R R),((fn.stp<|b6.tr b7).map (ren [(8,12),(9,13)]) R R),(fp.map (ren [(8,12),(9,13)]) R R)⟩<|KM R⟩⟩⟩⟩
 rintro _ hI ⟨el,bl,bp,bh,bk,rfl,b1,e5,e6,e7⟩
 refine Jz<|Jp<|Jg3 R ?_
 cases h
 exact Ja2 ⟨(λM=>ren [(12,8),(13,9)]<|el M),(g.1,((Dr .i64<|e.2.1+1):Int),x,O,g.2.2.2),bf,bn,bl,bp,bh,bk,R,(Jz2 ((T6 L n o m aw b1).wk R) [(12,8),(13,9)] R),((fT.stp b1).map (ren [(12,8),(13,9)]) R R),(e5.map (ren [(12,8),(13,9)]) R R),(e6.map (ren [(12,8),(13,9)]) R R),((fU.stp b1).map (ren [(12,8),(13,9)]) R R),(e7.map (ren [(12,8),(13,9)]) R R),cA⟩ R
 refine JT λh=>Jx R<|Jf3 R<|Ju<|Jw<|Ja1<|Jw<|Jw ?_
 cases h
 obtain rfl:=Ds cA
 have h:=yL dG
 refine Ja1<|Jr2<|Jw<|Jb2 (l:=[.tmp 6,.tmp 7]) results148 (Jq2 R<|Jq2 R R) R ?_
 cases h
 exact⟨aF,none,0,none,0,none,0,0,R,(dC.stp<|T12 ap aa Q C y z u L n o m aw),Dt,Dt,Dt,(λh=>absurd h Bool.false_ne_true)⟩
 rintro _ d5 ⟨bM,j,co,cl,ab,ad,ai,ac,rfl,ca,cu,fF,fG,hf,fM,rfl⟩
 have h:=yI dG
 refine Jp<|Jq<|Je [2,1,2,2] R<|Je3 R U71 R Z69<|Jc3 R I69 ((dg.stp<|T5 C y z u ca).ld 1 R R)<|Jo3 R U69 R R<|Jb 1 R<|Ob h λdU ge fZ=>?_
 clear h
 refine Jp3 [10] (λc d a=>∃b,∃bz:VP,∃bo bg,d=c/\Stp [7,10,11,12,13,14,15] bM d5 b a/\Oc Pair.ep127 127 b a 10 bo bg bz/\Bc b a 7 aB 172 [.slice ab j.2.2.1.length ad,.slice ai j.2.2.2.1.length ac,.slice bo bz.length bg]/\dU=Dv bz) ?_ ?_
 refine Jv<|Jq3 [8,10,136,137] (λf c d a=>∃b V,∃aY:VP,∃bd a7,d=(138,vi V)::c/\Stp [7,10,11,12,13,14,15] bM d5 b a/\Oc Pair.ep127 127 b a 10 bd a7 aY/\Bc b a 7 aB 172 [.slice ab j.2.2.1.length ad,.slice ai j.2.2.2.1.length ac,.slice bd aY.length a7]/\0<=V/\Dq ((p2.Pairs.length:Int)-V)=f/\cntM (iy p2 j) f V aY=some dU) ⟨_,_,⟨bM,0,([]:VP),none,0,R,Jk3,Dt,fM,(by decide),(by simp),ge⟩,(KM R)⟩ ?_
 rintro f _ h4 ⟨cJ,V,aY,bd,a7,rfl,a6,di,dj,f4,dD,h⟩
 rcases f with _|f
 have bv:=h;obtain⟨gB,h⟩:=exq bv
 have aC:=dcf dD
 refine Jf3 R<|Jq<|Jx2 R aC<|Jc1<|Jt<|Jt ?_
 cases h
 have h:=bv
 refine Jb1 ?_
 cases h
 exact Jw1 _ ⟨cJ,aY,bd,a7,R,a6.wk R,di,dj,R⟩<|KM R
 obtain⟨gB,h,bv⟩:=BI h;unfold iy at h
 have aC:=dct dD
 refine Jf3 R<|Jq<|Jw2 R aC<|Js<|Jp<|Jq<|Jv<|Je [2,1,1,1] R<|Ob h λgK dH h=>Jd3 R cz dH U69 Z127 ?_
 obtain⟨hb,gi,ga⟩:=((cz.stp (T9 ap aa Q C y z u ca a6))).gSt dH
 obtain⟨gT,hs,gU,ht,rfl,fW,fX⟩:=Pair.un gi
 refine Jc4 tv R (Jd4 (haE ga) I127 Z127 R)<|Ju3 cJ 11 R X127 R λgZ h5 cK an ft=>Tv<|Ji4 cK 11 R Z127 R ft R λh6 ao fu=>Tv<|Jd<|Je [2,1,1] R<|Jf R (Jj4 [.slice none 0 0,.slice none 0 0] R)<|Ju3 cK 12 R X127 R λbr h7 aZ Y fv=>Tv<|Ji4 aZ 12 R Z127 R fv R λd4 Z fw=>Tv<|Jd<|Jq<|Jh3 [2,2,2] 1 R<|Jo3 R U123 R R<|Jb 1 R<|Ob h λdR gf f0=>?_
 clear h
 refine Jp3 [8,10,24,136,137,138] (λc d a=>∃b,∃v:VI×VI,∃aP aM aT aO,d=c/\Stp [12,13,14,15] aZ d4 b a/\Oc E6 2 b a 13 aP aM v.1/\Oc E6 2 b a 14 aT aO v.2/\Bc b a 12 br 127 [.slice aP v.1.length aM,.slice aT v.2.length aO]/\dR=Dv v) ?_ ?_
 refine Jv<|Jq3 [8,10,23,24,136,137,138,143,144] (λf c d a=>∃b F,∃E:VI×VI,∃aJ aR ae af,d=(145,vi F)::c/\Stp [12,13,14,15] aZ d4 b a/\Oc E6 2 b a 13 aJ aR E.1/\Oc E6 2 b a 14 ae af E.2/\Bc b a 12 br 127 [.slice aJ E.1.length aR,.slice ae E.2.length af]/\0<=F/\Dq ((j.1.length:Int)-F)=f/\cntM (iz j gK) f F E=some dR) ⟨_,_,⟨aZ,0,(([]:VI),([]:VI)),none,0,none,0,R,Jk3,Dt,Dt,fw,(by decide),(by simp),gf⟩,(KM R)⟩ ?_
 rintro f _ h9 ⟨cL,F,E,aJ,aR,ae,af,rfl,aq,cr,cs,ct,f5,dE,h⟩
 rcases f with _|f
 have bw:=h;obtain⟨gC,h⟩:=exq bw
 have aD:=dcf dE
 refine Jf3 R<|Jq<|Jx2 R aD<|Jc1<|Jt<|Jt ?_
 cases h
 have h:=bw
 refine Jb1 ?_
 cases h
 exact Jw1 _ ⟨cL,(E.1,E.2),aJ,aR,ae,af,R,aq.wk R,cr,cs,ct,R⟩<|KM R
 obtain⟨gC,h,bw⟩:=BI h;unfold iz at h
 have aD:=dct dE
 refine Jf3 R<|Jq<|Jw2 R aD<|Js<|Jp<|Jq<|Jv<|Jh3 [2,2,1,1,2,1] 1 R<|Ob h λiC dI h=>Jd3 R cu.rdc dI U123 Z120 ?_
 obtain⟨hc,gj,gb⟩:=((cu.stp (T6 a6 an ao Y Z aq)).rdc).gSt dI
 obtain⟨_,_,rfl,rfl,rfl⟩:=gj
 refine Jc4 tv R (Jd4 (haE gb) I120 Z120 R)<|Ju3 cL 15 R X120 R λg0 ia cM H fA=>Tv<|Jn 1 R<|Ji4 cM 15 R Z120 R fA R λib I dk=>Tv<|Jd<|Jq<|Je [2,1,2,1,1] R<|Je3 R U127 R Z37 ?_
 have dl:=fu.stp (T5 Y Z aq H I)
 refine Jc3 R I37 (dl.ld 0 R R)<|Jf R (jW U120 Z2 R R R R)<|Jc3 R I2 (dk.ld 1 R R)<|Ob h λgL gs h=>Js3 R C89 (cj (J:=Mk cM) (Jj3<|fW.stp<|T7 an ao Y Z aq H I) gs) ?_
 rintro _ gF ⟨hm,rfl,eS⟩
 obtain⟨bN,K,hp⟩:=Ji eS 16 R
 refine Tv<|Jd<|Ob h λaX h f1=>Jp3 [8,10,23,24,25,26,136,137,138,143,144,145] (λc d a=>∃b ax aA,d=c/\Stp [12,13] bN gF b a/\Oc E6 2 b a 13 ax aA aX/\Bc b a 12 br 127 [.slice ax aX.length aA,.slice ae E.2.length af]) ?_ ?_
 revert h
 cases hi:gL
 refine JF λh=>Jy R<|Js ?_
 cases h
 have cV:=(T3 H I K)
 exact Jw1 _ ⟨bN,aJ,aR,R,Jk3,(cr.stp cV),(ct.stp cV)⟩<|KM R
 refine JT λh=>Jx R<|Ja [2,1,2,1,1,2,1] R<|Je3 R U127 R Z37 ?_
 have dn:=ct.stp (T3 H I K)
 refine Jc3 R I37 (dn.ld 0 R R)<|Jn 1 R<|Je4 bN 18 [F] R Y37 bS R λbH g9 ie ew cb fC=>Tv<|Ob h λd9 gt h=>Jz3 ew E6 13 [] R Y37 bS R (cr.stp<|T4 H I K cb) (Du (cc _) fC.rdc) bV gt R λck cm ig cN cY fD=>Tv<|Je3 R U127 R Z37<|Jv3 cN 12 (off:=0) (vc:=[.slice ck d9.length cm]) (cs':=[.slice ck d9.length cm,.slice ae E.2.length af]) R Z37 R (dn.stp<|cb.tr cY) R λih cZ fE=>Tv<|Jo ?_
 cases h
 exact Jw1 _ ⟨cN,ck,cm,R,(T3 cb cY cZ).wk R,(fD.stp cZ),fE⟩<|KM R
 rintro _ ic ⟨ev,ax,aA,rfl,ar,fB,dm⟩
 have h:=f1
 refine Jp<|Je [2,1,2,1,1] R<|Je3 R U127 R Z37<|Jc3 R I37 ((dl.stp<|K.tr ar).ld 1 R R)<|Jf R (jW U120 Z2 R R R R)<|Jc3 R I2 ((dk.stp<|K.tr ar).ld 1 R R)<|Ob h λgM gu h=>Js3 R C89 (cj (J:=Mk ev) (Jj3<|fX.stp<|T9 an ao Y Z aq H I K ar) gu) ?_
 rintro _ gG ⟨hn,rfl,eT⟩
 obtain⟨bO,au,hq⟩:=Ji eT 18 R
 refine Tv<|Jd<|Ob h λcE h f2=>Jp3 [8,10,23,24,136,137,138,143,144,145] (λc d a=>∃b bb ba,d=c/\Stp [12,14] bO gG b a/\Oc E6 2 b a 14 bb ba cE/\Bc b a 12 br 127 [.slice ax aX.length aA,.slice bb cE.length ba]) ?_ ?_
 revert h
 cases hj:gM
 refine JF λh=>Jy R<|Js ?_
 cases h
 exact Jw1 _ ⟨bO,ae,af,R,Jk3,(cs.stp<|T5 H I K ar au),(dm.stp au)⟩<|KM R
 refine JT λh=>Jx R<|Ja [2,1,2,1,1,2,1] R<|Je3 R U127 R Z37 ?_
 have dp:=dm.stp au
 refine Jc3 R I37 (dp.ld 1 R R)<|Jn 1 R<|Je4 bO 20 [F] R Y37 bS R λbK g5 ij ey ce fJ=>Tv<|Ob h λea gv h=>Jz3 ey E6 14 [] R Y37 bS R (cs.stp<|T6 H I K ar au ce) (Du (cc _) fJ.rdc) bV gv R λcn ci ik cO c1 fK=>Tv<|Je3 R U127 R Z37<|Jv3 cO 12 (off:=1) (vc:=[.slice cn ea.length ci]) (cs':=[.slice ax aX.length aA,.slice cn ea.length ci]) R Z37 R (dp.stp<|ce.tr c1) R λil c2 fL=>Tv<|Jo ?_
 cases h
 exact Jw1 _ ⟨cO,cn,ci,R,(T3 ce c1 c2).wk R,(fK.stp c2),fL⟩<|KM R
 rintro _ ii ⟨ex,bb,ba,rfl,c0,fH,fI⟩
 have h:=f2
 refine Jz<|Jp<|Jg3 R ?_
 have gn:Dr .i64 (F+1)=F+1:=wr1 f5 (Jn2 aD) cu.len_le
 rw[gn]
 have aD:=Jn2 aD
 cases h
 exact Ja2 ⟨ex,F+1,(aX,cE),ax,aA,bb,ba,R,(T7 aq H I K ar au c0).wk R,(fB.stp<|au.tr c0),fH,fI,by omega,by omega,bw⟩ R
 rintro _ h8 ⟨a0,v,aP,aM,aT,aO,rfl,b9,fx,fy,fz,rfl⟩
 have h:=yI f0
 refine Jp<|Js1 (J:=a0) [7,12] (some 10) [(0,2),(1,2),(2,2),(3,2),(4,0),(5,0),(6,1),(7,1),(8,2),(9,2)] [(10,1)] (by kernel_rfl) (by kernel_rfl) λd6 av=>Jn 2 R<|Jf R (bX R R)<|Je3 R U172 R Z69 ?_
 have dq:=dj.stp (T6 an ao Y Z b9 av)
 refine Jg R (Jd2 I69 R R<|hvC (dq.ld 2 R R) R)<|Jg R (Jd4 (haC (fz.stp av).cells R) I127 Z127 R)<|Jx3 a0 Pair.ep127 15 [13,14] (parts:=[(0,.tmp 178)]) (cells:=[.slice aP v.1.length aM,.slice aT v.2.length aO]) (xs:=([(⟨v.1,v.2⟩:Pair)]:VP)) R Y69 cG R (Jf4 ⟨[.slice aP v.1.length aM],[.slice aT v.2.length aO],Zl a0 d6 [13],Zl a0 d6 [14],R,Zl.sp (l1:=[13]) (l2:=[14]) R,Zl.sr (l1:=[13]) (l2:=[14]),⟨_,_,R,(fx.stp av)⟩,⟨_,_,R,(fy.stp av)⟩⟩) λbI g6 im ez aI fN=>⟨(aI.cl R),Ob h λcF gw h=>Jz3 ez Pair.ep127 10 [15] R Y69 cG R (di.stp<|T7 an ao Y Z b9 av aI) fN.src (c9 R) gw R λcg ch io cP cf fP=>⟨((aI.tr cf).cl R),Jf R (bX R R)<|Je3 R U172 R Z69<|Jt1<|Jv3 cP 7 (off:=2) (vc:=[.slice cg cF.length ch]) (cs':=[.slice ab j.2.2.1.length ad,.slice ai j.2.2.2.1.length ac,.slice cg cF.length ch]) R Z69 R (dq.stp<|aI.tr cf) R λiq c3 fQ=>Tv<|Jo<|Jz<|Jp<|Jg3 R ?_⟩⟩
 have gm:Dr .i64 (V+1)=V+1:=wr1 f4 (Jn2 aC) cz.len_le
 rw[gm]
 have aC:=Jn2 aC
 cases h
 exact Ja2 ⟨cP,V+1,cF,cg,ch,R,(T10 a6 an ao Y Z b9 av aI cf c3).wk R,(fP.stp c3),fQ,by omega,by omega,bv⟩ R
 rintro _ h3 ⟨eu,bz,bo,bg,rfl,b8,fr,fs,rfl⟩
 have h:=yI fZ
 refine Jp<|Jf3 R<|Ju<|Jb2 (l:=[.tmp 6,.tmp 7]) results148 (Jq2 R<|Jq2 R R) R ?_
 cases h
 exact⟨(λM=>ren [(8,2),(9,3),(10,4),(7,5)]<|eu M),ab,ad,ai,ac,bo,bg,aB,R,((dC.stp<|T9 ap aa Q C y z u ca b8).map (ren [(8,2),(9,3),(10,4),(7,5)]) R R),((fF.stp b8).map (ren [(8,2),(9,3),(10,4),(7,5)]) R R),((fG.stp b8).map (ren [(8,2),(9,3),(10,4),(7,5)]) R R),(fr.map (ren [(8,2),(9,3),(10,4),(7,5)]) R R),(λ_=>(fs.map (ren [(8,2),(9,3),(10,4),(7,5)]) R R))⟩
end
end Go.Proofs.YtleekpaohfpooaaGreat
