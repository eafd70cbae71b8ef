/- The walks, part 4. By program. -/
import Derived.Test.YtleekpaohfpooaaGreatFns2VF
import Derived.Test.YtleekpaohfpooaaGreatFns3VF
set_option linter.unusedVariables false
set_option linter.unusedSimpArgs false
open Go.IntKind renaming wrap → bM
open Sum renaming inr → cb, inl → eg
open Int renaming toNat → hV
namespace Go.Proofs.YtleekpaohfpooaaGreat
open Go Go.Wk Go.Proofs
set_option maxRecDepth 100000
set_option maxHeartbeats 1000000
variable {w:World}{κ:Col}
theorem mw {a b}{p0:(List Int)}{p1:Int}(g:Rd (Rp.int .i64) κ w 0 a b p0){r:Bool}(h:lD p0 p1=some r):Ret Tryz.prog 158 [.slice a p0.length b,vi p1] w (Pvb κ w r):=by
 unfold lD at h
 refine Jk3 κ F158 R N158 R λi=>Je3 R<|Jg3 [2,2,2,2,2,2,2,1,2,2] 1 R<|Jn3 R U37 R R<|Jn 3 R<|Ob h λm h j=>Jf4 [4] 13 m κ w [(5,2),(6,2),(7,1),(8,2)] [(9,2)] tv ?_ ?_
 revert h
 cases o:decide ((p0.length:Int)<=p1)
 refine JF λh=>Jn 2 R<|Jz3 R<|Jn 1 R ?_
 cases h
 exact Jg4 tv R
 refine JT λh=>Jn 2 R<|Ob h λu k h=>Jr3 R C215 (sB (κ:=Mk κ) (Ji3 g) k) ?_
 rintro _ t ⟨p,rfl,f⟩
 obtain⟨n,e,q⟩:=Ji f 2 R
 refine Tv<|Jn 1 R ?_
 cases h
 exact Jv1 _ tv ⟨R,_,e.wk R⟩<|KM R
 rintro _ s _ ⟨rfl,c,d⟩
 have h:=j
 refine Jb 1 R<|Ju<|Ja2 (l:=[.tmp 4]) V158 (Jp2 R R) R ?_
 cases h
 exact⟨c,R,(i.stp d)⟩
theorem mU {p0:Sig}{bu bG bH bs}{p1:Clause}(dn:Rd (Rp.int .i64) κ w 0 bu bG p1.A) (dp:Rd (Rp.int .i64) κ w 0 bH bs p1.B){r:Det}(h:jY p0 p1=some r):Ret Tryz.prog 105 [.agg #[vi p0.In,vi p0.Out],.agg #[vi p1.Kind,.slice bu p1.A.length bG,.slice bH p1.B.length bs]] w (λv w'=>∃(κ':Col) (bR:Option Addr) (bV:Nat) (bT:Option Addr) (bW:Nat),v= .agg #[.slice bR r.Next.length bV,.slice bT r.Pairs.length bW]/\Ent κ w κ' w'/\Oc (Ep.own E6 2) 37 κ' w' 2 bR bV r.Next/\Oc Pair.ep127 127 κ' w' 3 bT bW r.Pairs):=by
 unfold jY at h
 refine Jk3 κ F105 R N105 R λdq=>Je [1,1,1] R<|Js3 (κ:=κ) 2 R λdV w1 b9 aN c3=>Tv<|Js3 (κ:=b9) 3 R λdW eJ cj Z dh=>Tv<|Jt3 (κ:=cj) 4 R X71 R λdX eR b2 D cH=>Tv<|Jd<|Je3 R<|Je [2,1,1] R<|Jf R (Ji4 [.slice none 0 0,.slice none 0 0] R)<|Jt3 (κ:=b2) 5 R X127 R λO en V p cQ=>Tv<|Jh4 (κ:=V) 5 R Z127 R cQ R λdS s x=>Tv<|Jd<|Jq<|Je [2,1] R<|Jd3 R U67 R Z2 ?_
 have bL:=dh.stp (T3 D p s)
 refine Jb3 R I2 (bL.ld 0 R R)<|Jd<|Jv<|Jq<|Je3 R<|Ob h λbO h du=>Jo3 [2,3,4,5,6,13] (λE L w'=>∃κ',L=(17,.bool bO)::E/\Stp [] V dS κ' w') ?_ ?_
 revert h
 cases d4:(p1.Kind==1)
 refine JF λh=>Jy R<|Jf3 R ?_
 cases h
 exact Jw1 _ ⟨V,R,Jj3⟩<|KM R
 refine JT λh=>Jx R<|Js ?_
 cases h
 exact Jw1 _ ⟨V,R,Jj3⟩<|KM R
 rintro _ U ⟨e,rfl,d⟩
 have h:=du
 refine Jp<|Ob h λc h dv=>Jo3 [2,3,4,6] (λE L w'=>∃κ' K I J M,L=(5,vi c.1)::E/\Stp [5] e U κ' w'/\Oc E6 2 κ' w' 6 K I c.2.1/\Oc E6 2 κ' w' 7 J M c.2.2/\Bc κ' w' 5 O 127 [.slice K c.2.1.length I,.slice J c.2.2.length M]) ?_ ?_
 revert h
 cases d5:bO
 refine JF λh=>Jy R<|Je3 R<|Ob h λP h dw=>Jo3 [2,3,4,6] (λE L w'=>∃κ' an ai ag ak,L=(5,vi P.1)::E/\Stp [5] e U κ' w'/\Oc E6 2 κ' w' 6 an ai P.2.1/\Oc E6 2 κ' w' 7 ag ak P.2.2/\Bc κ' w' 5 O 127 [.slice an P.2.1.length ai,.slice ag P.2.2.length ak]) ?_ ?_
 revert h
 cases d6:(p1.Kind==2)
 refine JF λh=>Jy R<|Je3 R<|Ob h λQ h dx=>Jo3 [2,3,4,6] (λE L w'=>∃κ' ad ay au az,L=(5,vi Q.1)::E/\Stp [5] e U κ' w'/\Oc E6 2 κ' w' 6 ad ay Q.2.1/\Oc E6 2 κ' w' 7 au az Q.2.2/\Bc κ' w' 5 O 127 [.slice ad Q.2.1.length ay,.slice au Q.2.2.length az]) ?_ ?_
 revert h
 cases d7:(p1.Kind==3)
 refine JF λh=>Jy R<|Je3 R<|Ob h λS h dy=>Jo3 [2,3,4,6] (λE L w'=>∃κ' af ae aq ah,L=(5,vi S.1)::E/\Stp [5] e U κ' w'/\Oc E6 2 κ' w' 6 af ae S.2.1/\Oc E6 2 κ' w' 7 aq ah S.2.2/\Bc κ' w' 5 O 127 [.slice af S.2.1.length ae,.slice aq S.2.2.length ah]) ?_ ?_
 revert h
 cases d8:(p1.Kind==4)
 refine JF λh=>Jy R<|Je3 R<|Ob h λT h dr=>Jo3 [2,3,4,6] (λE L w'=>∃κ' ao aw aa al,L=(5,vi T.1)::E/\Stp [5] e U κ' w'/\Oc E6 2 κ' w' 6 ao aw T.2.1/\Oc E6 2 κ' w' 7 aa al T.2.2/\Bc κ' w' 5 O 127 [.slice ao T.2.1.length aw,.slice aa T.2.2.length al]) ?_ ?_
 revert h
 cases d3:(p1.Kind==6)
 refine JF λh=>Jy R<|Je3 R<|Ja [1,1,2,1] R<|Jd4 (κ:=e) 6 [2,3] R Y37 bS R λbz bD el b4 bf cI=>Tv<|Jd4 (κ:=b4) 7 [1,3] R Y37 bS R λbv bE em a5 aG cJ=>Tv<|Jf R (Ji4 [.slice bz ([2,3]:List Int).length bD,.slice bv ([1,3]:List Int).length bE] R)<|Jh4 (κ:=a5) 5 R Z127 R (x.stp<|T3 d bf aG) R λeo aH cK=>Tv<|Jo ?_
 cases h
 exact Jw1 _ ⟨a5,bz,bD,bv,bE,R,(T3 bf aG aH).wk R,(cI.stp<|aG.tr aH),(cJ.stp aH),cK⟩<|KM R
 refine JT λh=>Jx R<|Ja [1,2,1] R<|Jd4 (κ:=e) 6 [0] R Y37 bS R λaX aT ej a4 bd cF=>Tv<|Jd3 R U127 R Z37<|Ju3 (κ:=a4) 5 (off:=0) (vc:=[.slice aX ([0]:List Int).length aT]) (cs':=[.slice aX ([0]:List Int).length aT,.slice none 0 0]) R Z37 R (x.stp<|d.tr bd) R λek be cG=>Tv<|Jo ?_
 cases h
 exact Jw1 _ ⟨a4,aX,aT,none,0,R,(bd.tr be).wk R,(cF.stp be),Ow.nil,cG⟩<|KM R
 rintro _ ei ⟨b3,ao,aw,aa,al,rfl,co,cC,cD,cE⟩
 have h:=dr
 cases h
 exact Jw1 _ ⟨b3,ao,aw,aa,al,R,co.wk R,cC,cD,cE⟩<|KM R
 refine JT λh=>Jx R<|Ja [1,1,2,1] R<|Jd4 (κ:=e) 6 [0,1] R Y37 bS R λbt bA eS cn bp dl=>Tv<|Jd4 (κ:=cn) 7 [1] R Y37 bS R λbr bw eT bc aQ dm=>Tv<|Jf R (Ji4 [.slice bt ([0,1]:List Int).length bA,.slice br ([1]:List Int).length bw] R)<|Jh4 (κ:=bc) 5 R Z127 R (x.stp<|T3 d bp aQ) R λeU aF cB=>Tv<|Jo ?_
 cases h
 exact Jw1 _ ⟨bc,bt,bA,br,bw,R,(T3 bp aQ aF).wk R,(dl.stp<|aQ.tr aF),(dm.stp aF),cB⟩<|KM R
 rintro _ eQ ⟨cm,af,ae,aq,ah,rfl,cr,di,dj,dk⟩
 have h:=dy
 cases h
 exact Jw1 _ ⟨cm,af,ae,aq,ah,R,cr.wk R,di,dj,dk⟩<|KM R
 refine JT λh=>Jx R<|Ja [1,1,2,1] R<|Jd4 (κ:=e) 6 [1] R Y37 bS R λbq bx eN cl bo dd=>Tv<|Jd4 (κ:=cl) 7 [0] R Y37 bS R λbB bF eO bb aO de=>Tv<|Jf R (Ji4 [.slice bq ([1]:List Int).length bx,.slice bB ([0]:List Int).length bF] R)<|Jh4 (κ:=bb) 5 R Z127 R (x.stp<|T3 d bo aO) R λeP aP df=>Tv<|Jo ?_
 cases h
 exact Jw1 _ ⟨bb,bq,bx,bB,bF,R,(T3 bo aO aP).wk R,(dd.stp<|aO.tr aP),(de.stp aP),df⟩<|KM R
 rintro _ eM ⟨ck,ad,ay,au,az,rfl,cq,da,db,dc⟩
 have h:=dx
 cases h
 exact Jw1 _ ⟨ck,ad,ay,au,az,R,cq.wk R,da,db,dc⟩<|KM R
 refine JT λh=>Jx R<|Je3 R<|Ja [1,2,1] R<|Jd4 (κ:=e) 6 [2] R Y37 bS R λaU aS eK ba bm c8=>Tv<|Jd3 R U127 R Z37<|Ju3 (κ:=ba) 5 (off:=0) (vc:=[.slice aU ([2]:List Int).length aS]) (cs':=[.slice aU ([2]:List Int).length aS,.slice none 0 0]) R Z37 R (x.stp<|d.tr bm) R λeL bn c9=>Tv<|Jo ?_
 cases h
 exact Jw1 _ ⟨ba,aU,aS,none,0,R,(bm.tr bn).wk R,(c8.stp bn),Ow.nil,c9⟩<|KM R
 rintro _ eI ⟨ci,an,ai,ag,ak,rfl,cp,c5,c6,c7⟩
 have h:=dw
 cases h
 exact Jw1 _ ⟨ci,an,ai,ag,ak,R,cp.wk R,c5,c6,c7⟩<|KM R
 refine JT λh=>Jx R<|Ja [1,2,1] R<|Jd4 (κ:=e) 6 [1] R Y37 bS R λaW aR eG a9 bj c2=>Tv<|Jd3 R U127 R Z37<|Ju3 (κ:=a9) 5 (off:=0) (vc:=[.slice aW ([1]:List Int).length aR]) (cs':=[.slice aW ([1]:List Int).length aR,.slice none 0 0]) R Z37 R (x.stp<|d.tr bj) R λeH bl c4=>Tv<|Jo ?_
 cases h
 exact Jw1 _ ⟨a9,aW,aR,none,0,R,(bj.tr bl).wk R,(c2.stp bl),Ow.nil,c4⟩<|KM R
 rintro _ b1 ⟨aD,K,I,J,M,rfl,u,cZ,c0,c1⟩
 have h:=dv
 refine Jz<|Jp<|Je [1,1,2,1,1] R<|Jb4 tv R (Jc4 (haE c1.cells) I127 Z127 R)<|Jw3 (κ:=aD) (E:=Pair.ep127) 8 [6,7] (parts:=[(0,.tmp 40)]) (cells:=[.slice K c.2.1.length I,.slice J c.2.2.length M]) (xs:=([(⟨c.2.1,c.2.2⟩:Pair)]:List Pair)) R Y69 dg R (Je4 ⟨[.slice K c.2.1.length I],[.slice J c.2.2.length M],Zl aD b1 [6],Zl aD b1 [7],R,Zl.sp (l1:=[6]) (l2:=[7]) R,Zl.sr (l1:=[6]) (l2:=[7]),⟨_,_,R,cZ⟩,⟨_,_,R,c0⟩⟩) λH N ep b5 o cL=>Tv<|Jf R (Ji4 [.slice none 0 0,.slice H ([(⟨c.2.1,c.2.2⟩:Pair)]:List Pair).length N] R)<|Jt3 (κ:=b5) 9 R X71 R λbC eq W i cM=>Tv<|Jh4 (κ:=W) 9 R Z71 R cM R λbX j cN=>Tv<|Jd<|Jq<|Je3 R<|Ob h λ_ dF h=>?_
 have dz:=ms dF
 refine Ob h λbQ dD ds=>?_
 clear h
 refine Jo3 [4,7] (λE L w'=>∃κ',∃aA:(List<|List Int),∃ar ap,L=E/\Stp [9,10,11,14] W bX κ' w'/\Oc (Ep.own E6 2) 37 κ' w' 10 ar ap aA/\Bc κ' w' 9 bC 71 [.slice ar aA.length ap,.slice H ([(⟨c.2.1,c.2.2⟩:Pair)]:List Pair).length N]/\bQ=cb aA) ?_ ?_
 refine Jv<|Jp3 [2,3,4,7,43] (λk E L w'=>∃κ' f,∃C:(List<|List Int),∃am aj,L=(44,vi f)::E/\Stp [9,10,11,14] W bX κ' w'/\Oc (Ep.own E6 2) 37 κ' w' 10 am aj C/\Bc κ' w' 9 bC 71 [.slice am C.length aj,.slice H ([(⟨c.2.1,c.2.2⟩:Pair)]:List Pair).length N]/\0<=f/\hV (c.1-f)=k/\cntM (eY p0 p1) k f C=some bQ) ⟨_,_,⟨W,0,(([]:List (List Int)):(List<|List Int)),none,0,R,Jj3,Ow.nil,cN,(by decide),(by simp),dD⟩,(KM R)⟩ ?_
 rintro k _ es ⟨a7,f,C,am,aj,rfl,q,bI,bJ,dB,d1,h⟩
 rcases k with _ | k
 have a0:=h;obtain⟨dQ,h⟩:=cw (cb (eg C):Det⊕(((List (List Int)))⊕((List (List Int)))))
 have y:decide (f<c.1)=false:=Jo2 (by omega)
 refine Je3 R<|Jq<|Jw2 R y<|Jc1<|Jt<|Jt ?_
 cases h
 have h:=a0
 refine Jb1 ?_
 cases h
 exact Jw1 _ ⟨a7,C,am,aj,R,q.wk R,bI,bJ,R⟩<|KM R
 obtain⟨dQ,h,a0⟩:=BI h;unfold eY at h
 have y:decide (f<c.1)=true:=Jn2 (by omega)
 refine Je3 R<|Jq<|Jv2 R y<|Js<|Jp<|Jq<|Jv<|Je3 R<|Je [1,2] R<|Jx3 (κ:=a7) (E:=E6) 11 R Y37 bS R λcu ct et b6 m cR=>Tv<|Jb 1 R<|Jq<|Je [1,1,2] R<|Jb4 tv R (Jc4 (haE (c3.stp<|T11 Z D p s d u o i j q m).cells) I28 Z28 R)<|Ob h λa2 dK h=>Jr3 R C103 (gq (κ:=Mk b6) (p0:=p0) dK) ?_
 rintro _ b0 ⟨d9,rfl,cx⟩
 obtain⟨aB,n,ed⟩:=Ji cx 12 R
 refine Tv<|Jb 1 R<|Ob h λ_ dH h=>?_
 have dA:=ms dH
 refine Ob h λbP dE dt=>?_
 clear h
 refine Jo3 [2,3,4,7,43,44] (λE L w'=>∃κ',∃B:(List Int),∃ab ac,L=(9,.slice ab B.length ac)::E/\Stp [11] aB b0 κ' w'/\Oc E6 2 κ' w' 11 ab ac B/\bP=cb B) ?_ ?_
 refine Jv<|Jp3 [2,3,4,7,8,43,44,49] (λk E L w'=>∃κ' g,∃A:(List Int),∃av ax,L=(9,.slice av A.length ax)::(50,vi g)::E/\Stp [11] aB b0 κ' w'/\Oc E6 2 κ' w' 11 av ax A/\0<=g/\hV (a2-g)=k/\cntM (eZ p1 f) k g A=some bP) ⟨_,_,⟨aB,0,(([]:List Int):(List Int)),cu,ct,R,Jj3,(cR.stp n),(by decide),(by simp),dE⟩,(KM R)⟩ ?_
 rintro k _ ev ⟨aC,g,A,av,ax,rfl,F,bK,dC,d2,h⟩
 rcases k with _ | k
 have a1:=h;obtain⟨dR,h⟩:=cw (cb (eg A):Det⊕(((List Int))⊕((List Int))))
 have z:decide (g<a2)=false:=Jo2 (by omega)
 refine Je3 R<|Jq<|Jw2 R z<|Jc1<|Jt<|Jt ?_
 cases h
 have h:=a1
 refine Jb1 ?_
 cases h
 exact Jw1 _ ⟨aC,A,av,ax,R,F.wk R,bK,R⟩<|KM R
 obtain⟨dR,h,a1⟩:=BI h;unfold eZ at h
 have z:decide (g<a2)=true:=Jn2 (by omega)
 refine Je3 R<|Jq<|Jv2 R z<|Js<|Jp<|Jq<|Jv<|Je3 R<|Js1 (κ:=aC) [3] none [(0,2),(1,2),(3,2),(4,2),(6,2),(8,2),(10,2),(2,0),(5,0),(9,0),(7,1),(11,1),(12,1),(13,1),(14,1),(15,2)] [] (by kernel_rfl) (by kernel_rfl) λew G=>Jn 1 R<|Jd3 R U67 R Z2<|Jn 1 R<|Jd3 R U67 R Z37<|Jn 1 R<|Jd3 R U67 R Z37<|Jn 1 R ?_
 have aZ:=bL.stp (T10 d u o i j q m n F G)
 refine Jg R (Jc2 I2 R R<|hvC (aZ.ld 0 R R) R)<|Jg R (Jc2 I37 R R<|hvC (aZ.ld 1 R R) R)<|Jg R (Jc2 I37 R R<|hvC (aZ.ld 2 R R) R)<|Ob h λeV dL h=>Jr3 R C89 (ch (κ:=Mk aC) (Ji3<|dn.stp<|T15 aN Z D p s d u o i j q m n F G) dL) ?_
 rintro _ ex ⟨ea,rfl,cy⟩
 obtain⟨b8,t,ee⟩:=Ji cy 14 R
 refine⟨(t.cl R),Ob h λeW dM h=>Jr3 R C89 (ch (κ:=Mk b8) (Ji3<|dp.stp<|T16 aN Z D p s d u o i j q m n F G t) dM) ?_⟩
 rintro _ ey ⟨eb,rfl,cz⟩
 obtain⟨ca,X,ef⟩:=Ji cz 16 R
 refine⟨((t.tr X).cl R),Ob h λdT dN h=>Jr3 R C171 (oV (κ:=Mk ca) dN) ?_⟩
 rintro _ ez ⟨ec,rfl,cA⟩
 obtain⟨cc,aK,eh⟩:=Ji cA 18 R
 have aE:=(T3 t X aK)
 refine⟨(aE.cl R),Jd4 (κ:=cc) 20 [dT] R Y37 bS R λdY d0 eA ce Y cT=>⟨((aE.tr Y).cl R),Ob h λdU dO h=>Jy3 (κ:=ce) (E:=E6) 11 [] R Y37 bS R (bK.stp<|T5 G t X aK Y) (Sl.srcP (bY _) cT.rdc) bU dO R λcv cs eB cf bg cU=>⟨((T3 aE Y bg).cl R),Jn 1 R<|Jt1<|Jo<|Jz<|Jp<|Jf3 R ?_⟩⟩⟩
 have dJ:bM .i64 (g+1)=g+1:=wr1 dC (Jm2 z) dA
 rw[dJ]
 have z:=Jm2 z
 cases h
 exact Jz1 λa ha=>⟨k,_,Ja3 _,⟨cf,g+1,dU,cv,cs,R,(T7 F G t X aK Y bg).wk R,cU,by omega,by omega,a1⟩,(ha.mm R)⟩
 rintro _ eu ⟨b7,B,ab,ac,rfl,aJ,cS,rfl⟩
 have h:=yI dt
 refine Jp<|Ja [2,1,2,1,1,2,1] R<|Jd3 R U71 R Z31 ?_
 have bN:=bJ.stp (T3 m n aJ)
 refine Jb3 R I31 (bN.ld 0 R R)<|Jn 1 R<|Jw3 (κ:=b7) (E:=(Ep.own E6 2)) 14 [11] (parts:=[(0,.tmp 71)]) (cells:=[.slice ab B.length ac]) (xs:=([B]:List (List Int))) R Y31 bZ R (Je4 ⟨_,_,R,cS⟩) λdZ bk eC cg aL cV=>Tv<|Ob h λa3 dP h=>Jy3 (κ:=cg) (E:=(Ep.own E6 2)) 10 [14] R Y31 bZ R (bI.stp<|T4 m n aJ aL) cV.src (dG R) dP R λaV aY eD a8 bh cW=>Tv<|Jd3 R U71 R Z31<|Ju3 (κ:=a8) 9 (off:=0) (vc:=[.slice aV a3.length aY]) (cs':=[.slice aV a3.length aY,.slice H ([(⟨c.2.1,c.2.2⟩:Pair)]:List Pair).length N]) R Z31 R (bN.stp<|aL.tr bh) R λeE bi cX=>Tv<|Jo<|Jz<|Jp<|Jf3 R ?_
 have dI:bM .i64 (f+1)=f+1:=wr1 dB (Jm2 y) dz
 rw[dI]
 have y:=Jm2 y
 cases h
 exact Jz1 λa ha=>⟨k,_,Ja3 _,⟨a8,f+1,a3,aV,aY,R,(T7 q m n aJ aL bh bi).wk R,(cW.stp bi),cX,by omega,by omega,a0⟩,(ha.mm R)⟩
 rintro _ er ⟨a6,aA,ar,ap,rfl,aI,cO,cP,rfl⟩
 have h:=yI ds
 refine Jp<|Je [1,1] R<|Jb4 tv R (Jc4 (haE cP.cells) I71 Z71 R)<|Jh4 (κ:=a6) 4 R Z71 R (cH.stp<|T8 p s d u o i j aI) R λeF aM cY=>Tv<|Jd<|Ju<|Ja2 (l:=[.cell 4 71]) V105 (cd R cY I71 Z71 R R) R ?_
 cases h
 exact⟨(λb=>ren [(10,2),(8,3)]<|a6 b),ar,ap,H,N,R,((dq.stp<|T12 aN Z D p s d u o i j aI aM).map (ren [(10,2),(8,3)]) R R),((cO.stp aM).map (ren [(10,2),(8,3)]) R R),((cL.stp<|T4 i j aI aM).map (ren [(10,2),(8,3)]) R R)⟩
theorem rZ {p0:Sig}{bk c6 dd da}{p1:Machine}{c9 c8 db c7}{p2:Det}(dA:Rd (Rp.sl (Rp.int .i64)) κ w 0 bk c6 p1.Next) (dB:Rd (Rp.sl (Rp.int .i64)) κ w 0 dd da p1.Out) (dC:Rd (Rp.sl (Rp.int .i64)) κ w 0 c9 c8 p2.Next) (cy:Rd Pair.rp κ w 0 db c7 p2.Pairs){r:(Option watch)×Bool}(h:kx p0 p1 p2=some r):Ret Tryz.prog 148 [.agg #[vi p0.In,vi p0.Out],.agg #[.slice bk p1.Next.length c6,.slice dd p1.Out.length da],.agg #[.slice c9 p2.Next.length c8,.slice db p2.Pairs.length c7]] w (λv w'=>∃(κ':Col) (dU:Option Addr) (dY:Nat) (dV:Option Addr) (dZ:Nat) (dW:Option Addr) (d0:Nat) (dX:Nat),v= .tuple #[.pointer (bif r.1.isSome then some ⟨dX,0,none⟩ else none),.bool r.2]/\Ent κ w κ' w'/\Oc (Ep.own E6 2) 37 κ' w' 2 dU dY ((r.1.getD (⟨([]:List (List Int)),([]:List (List Int)),([]:List Pair)⟩:watch)).next)/\Oc (Ep.own E6 2) 37 κ' w' 3 dV dZ ((r.1.getD (⟨([]:List (List Int)),([]:List (List Int)),([]:List Pair)⟩:watch)).letters)/\Oc Pair.ep127 127 κ' w' 4 dW d0 ((r.1.getD (⟨([]:List (List Int)),([]:List (List Int)),([]:List Pair)⟩:watch)).pairs)/\(r.1.isSome=true->Bc κ' w' 5 dX 172 [.slice dU ((r.1.getD (⟨([]:List (List Int)),([]:List (List Int)),([]:List Pair)⟩:watch)).next).length dY,.slice dV ((r.1.getD (⟨([]:List (List Int)),([]:List (List Int)),([]:List Pair)⟩:watch)).letters).length dZ,.slice dW ((r.1.getD (⟨([]:List (List Int)),([]:List (List Int)),([]:List Pair)⟩:watch)).pairs).length d0])):=by
 unfold kx at h
 refine Jk3 κ F148 R N148 R λdD=>Je [1,1,1,2,2] R<|Js3 (κ:=κ) 2 R λg5 w1 en an fL=>Tv<|Js3 (κ:=en) 3 R λg6 iz eA Y fS=>Tv<|Js3 (κ:=eA) 4 R λg7 d7 bz P dh=>Tv<|Jb 2 R<|Je [2,1,2] R<|Jf R (Ji4 [vi 0,vi 0] R)<|Jw3 (κ:=bz) (E:=(Ep.pair E6 E6)) 5 [] (parts:=[(0,.tmp 27)]) (cells:=[vi 0,vi 0]) (xs:=([(0,0)]:List (Int×Int))) R Y123 iM R (Je4 ⟨[vi 0],[vi 0],Zl bz d7 [],Zl bz d7 [],R,Zl.sp (l1:=[]) (l2:=[]) R,Zl.sr (l1:=[]) (l2:=[]),R,R⟩) λeL eF hH ee D e0=>Tv<|Jb 1 R<|Je [1,2,1,2,2] R<|WO.mkmap (κ:=ee) 6 R R R R R kwI2 kvI2 (λv:Int=>vi v) λaV hP cK x e9=>Tv<|Jf R (Ji4 [vi 0,vi 0] R)<|Ob h λgS gz h=>WO.mapin (κ:=cK) (kf:=kvI2) (vf:=(λv:Int=>vi v)) (v:=0) 6 R R R R R R R uo U124 e9 gz λhZ y fg=>Tv<|Jb 2 R<|Je [2,1,2] R<|Jf R (Ji4 [.slice none 0 0,.slice none 0 0,.slice none 0 0] R)<|Js3 (κ:=cK) 7 R λaA d2 bE q fn=>Tv<|Jb 1 R<|Jq<|Je3 R<|Ob h λdR gg dE=>?_
 clear h
 refine Jo3 [5,10] (λE L w'=>∃(κ':Col) (e:(List<|Int×Int)×Int×(List<|List Int)×(List<|List Int)×(List ((Int×Int)×Int))) (ck:Option Addr) (cl:Nat) (aa:Option Addr) (ab:Nat) (ae:Option Addr) (ag:Nat),L=(8,.slice ck e.1.length cl)::E/\Stp [5,6,7,8,9,10,11,12,13,14] bE d2 κ' w'/\Oc (Ep.pair E6 E6) 120 κ' w' 5 ck cl e.1/\Oc (Ep.own E6 2) 37 κ' w' 8 aa ab e.2.2.1/\Oc (Ep.own E6 2) 37 κ' w' 9 ae ag e.2.2.2.1/\Mc kwI2 kvI2 (λv:Int=>vi v) κ' w' 6 aV e.2.2.2.2/\Bc κ' w' 7 aA 172 [.slice aa e.2.2.1.length ab,.slice ae e.2.2.2.1.length ag,.slice none 0 0]/\dR=cb e) ?_ ?_
 refine Jv<|Jp3 [3,4,5,9,10] (λk E L w'=>∃(κ':Col) (c:(List<|Int×Int)×Int×(List<|List Int)×(List<|List Int)×(List ((Int×Int)×Int))) (aL:Option Addr) (ar:Nat) (bn:Option Addr) (bp:Nat) (ad:Option Addr) (af:Nat),L=(8,.slice aL c.1.length ar)::(11,vi c.2.1)::E/\Stp [5,6,7,8,9,10,11,12,13,14] bE d2 κ' w'/\Oc (Ep.pair E6 E6) 120 κ' w' 5 aL ar c.1/\Oc (Ep.own E6 2) 37 κ' w' 8 bn bp c.2.2.1/\Oc (Ep.own E6 2) 37 κ' w' 9 ad af c.2.2.2.1/\Mc kwI2 kvI2 (λv:Int=>vi v) κ' w' 6 aV c.2.2.2.2/\Bc κ' w' 7 aA 172 [.slice bn c.2.2.1.length bp,.slice ad c.2.2.2.1.length af,.slice none 0 0]/\cu (gV p0 p1 p2) k c=some dR) ⟨_,_,⟨bE,((([(0,0)]:List (Int×Int)):(List<|Int×Int)),(0:Int),(([]:List (List Int)):(List<|List Int)),(([]:List (List Int)):(List<|List Int)),gS),eL,eF,none,0,none,0,R,Jj3,(e0.stp<|T3 x y q),Ow.nil,Ow.nil,(fg.stp q),fn,gg⟩,(KM R)⟩ ?_
 rintro k _ ix ⟨bO,c,aL,ar,bn,bp,ad,af,rfl,M,bs,bt,bu,ds,dt,h⟩
 rcases k with _ | k
 cases h
 obtain⟨hy,h,cB⟩:=BI h;unfold gV at h
 refine Jq<|Jg3 [2,2,2,2] 2 R<|Jn3 R U123 R R<|Jb 1 R ?_
 revert h
 cases hr:decide (c.2.1<(c.1.length:Int))
 refine JF λh=>Jy R<|Jc1<|Jt<|Jt ?_
 cases h
 have h:=cB
 refine Jb1 ?_
 cases h
 exact Jw1 _ ⟨bO,(c.1,c.2.1,c.2.2.1,c.2.2.2.1,c.2.2.2.2),aL,ar,bn,bp,ad,af,R,M.wk R,bs,bt,bu,ds,dt,R⟩<|KM R
 refine JT λh=>Jx R<|Js<|Jp<|Jq<|Jv<|Jq<|Js1 (κ:=bO) [0,5] none [(0,2),(1,2),(2,2),(3,2),(5,2),(6,2),(7,2),(8,2),(4,0),(10,2),(9,0),(11,2)] [] (by kernel_rfl) (by kernel_rfl) λiA j=>Jn 2 R<|Ob h λgN dI h=>Jc3 R bs.rdc dI U123 Z120<|Jf R (jJ U120 Z2 R R R R)<|Jn 2 R<|Ob h λgO dJ h=>Jc3 R bs.rdc dJ U123 Z120<|Jf R (jJ U120 Z2 R R R R) ?_
 have cs:=bs.stp j
 obtain⟨hh,gk,gc⟩:=(cs.rdc).gSt dI
 obtain⟨_,_,rfl,rfl,rfl⟩:=gk
 refine Jg R (Jc2 I2 R R<|hvC (λw' cD=>gc w' cD 0 _ R) R)<|Jn 1 R ?_
 obtain⟨hi,gl,gd⟩:=(cs.rdc).gSt dJ
 obtain⟨_,_,rfl,rfl,rfl⟩:=gl
 refine Jg R (Jc2 I2 R R<|hvC (λw' cD=>gd w' cD 1 _ R) R)<|Jn 1 R<|Jt1<|Jd<|Je [1,1,2,2] R<|Jx3 (κ:=bO) (E:=E6) 10 R Y37 bS R λeG eK iB ez m fO=>Tv<|Jx3 (κ:=ez) (E:=E6) 11 R Y37 bS R λeM eE d6 bP g fP=>Tv<|Jb 2 R<|Jq<|Je [2,1,2,2,1,2,2] R<|Jd3 R U33 R Z31 ?_
 have du:=fS.stp (T9 P D x y q M j m g)
 refine Jb3 R I31 (du.ld 0 R R)<|Jn 1 R<|Ob h λaX dK h=>Jc3 R dA dK U31 Z37 ?_
 obtain⟨gZ,hB,ct,f8⟩:=(dA.stp (T11 an Y P D x y q M j m g)).gSl dK
 refine Jb3 R I37 f8<|Jn3 R U37 R R<|Jb 1 R ?_
 have f3:(aX.length:Int)<=9223372036854775807:=ct.len_le
 refine Ob h λdS gh f0=>?_
 clear h
 refine Jo3 [3,4,5,9,10,11] (λE L w'=>∃(κ':Col) (d:(List<|Int×Int)×(List Int)×(List Int)×(List ((Int×Int)×Int))) (bl:Option Addr) (bi:Nat) (aO:Option Addr) (aS:Nat) (az:Option Addr) (aw:Nat),L=(8,.slice bl d.1.length bi)::(14,.slice aO d.2.1.length aS)::(15,.slice az d.2.2.1.length aw)::E/\Stp [5,6,10,11,14] bP d6 κ' w'/\Oc (Ep.pair E6 E6) 120 κ' w' 5 bl bi d.1/\Oc E6 2 κ' w' 10 aO aS d.2.1/\Oc E6 2 κ' w' 11 az aw d.2.2.1/\Mc kwI2 kvI2 (λv:Int=>vi v) κ' w' 6 aV d.2.2.2/\dS=cb d) ?_ ?_
 refine Jv<|Jp3 [3,4,5,9,10,11,12,13,56,57] (λk E L w'=>∃(κ':Col) (C:Int) (i:(List<|Int×Int)×(List Int)×(List Int)×(List ((Int×Int)×Int))) (aQ:Option Addr) (aP:Nat) (bj:Option Addr) (a7:Nat) (bh:Option Addr) (a6:Nat),L=(8,.slice aQ i.1.length aP)::(14,.slice bj i.2.1.length a7)::(15,.slice bh i.2.2.1.length a6)::(58,vi C)::E/\Stp [5,6,10,11,14] bP d6 κ' w'/\Oc (Ep.pair E6 E6) 120 κ' w' 5 aQ aP i.1/\Oc E6 2 κ' w' 10 bj a7 i.2.1/\Oc E6 2 κ' w' 11 bh a6 i.2.2.1/\Mc kwI2 kvI2 (λv:Int=>vi v) κ' w' 6 aV i.2.2.2/\0<=C/\hV ((aX.length:Int)-C)=k/\cntM (gW p0 p1 p2 gN gO aX) k C i=some dS) ⟨_,_,⟨bP,0,(c.1,(([]:List Int):(List Int)),(([]:List Int):(List Int)),c.2.2.2.2),aL,ar,eG,eK,eM,eE,R,Jj3,(cs.stp<|m.tr g),(fO.stp g),fP,(ds.stp<|T3 j m g),(by decide),(by simp),gh⟩,(KM R)⟩ ?_
 rintro k _ iC ⟨bQ,C,i,aQ,aP,bj,a7,bh,a6,rfl,T,cx,dw,dx,dy,f6,hm,h⟩
 rcases k with _ | k
 have cC:=h;obtain⟨gD,h⟩:=cw (cb (eg i):((Option watch)×Bool)⊕(((List (Int×Int))×(List Int)×(List Int)×(List ((Int×Int)×Int)))⊕((List (Int×Int))×(List Int)×(List Int)×(List ((Int×Int)×Int)))))
 have aD:decide (C<(aX.length:Int))=false:=Jo2 (by omega)
 refine Je3 R<|Jq<|Jw2 R aD<|Jc1<|Jt<|Jt ?_
 cases h
 have h:=cC
 refine Jb1 ?_
 cases h
 exact Jw1 _ ⟨bQ,(i.1,i.2.1,i.2.2.1,i.2.2.2),aQ,aP,bj,a7,bh,a6,R,T.wk R,cx,dw,dx,dy,R⟩<|KM R
 obtain⟨gD,h,cC⟩:=BI h;unfold gW at h
 have aD:decide (C<(aX.length:Int))=true:=Jn2 (by omega)
 refine Je3 R<|Jq<|Jv2 R aD<|Js<|Jp<|Jq<|Jv<|Jg3 [2,2,1,2,2] 1 R<|Ob h λbw dL h=>Jc3 R ct dL U37 Z2<|Jb3 R I2 ((ct.stp T).gInt dL)<|Jb 2 R<|Jq<|Js1 (κ:=bQ) [0,2,3] none [(0,2),(2,2),(5,2),(11,2),(1,0),(3,2),(4,0),(6,2),(7,0),(8,0),(9,1),(10,2),(12,2),(13,2)] [] (by kernel_rfl) (by kernel_rfl) λiD F=>Jd3 R U33 R Z31<|Jn 3 R<|Jg R (Jc2 I31 R R<|hvC ((du.stp<|T.tr F).ld 1 R R) R)<|Ob h λiG dM h=>Jc3 R dB dM U31 Z37 ?_
 obtain⟨g0,hC,dz,f9⟩:=(dB.stp (T13 an Y P D x y q M j m g T F)).gSl dM
 refine Jg R (Jc2 I37 R R<|hvC f9 R)<|Ob h λgP dN h=>Jc3 R dz dN U37 Z2<|Jg R (Jc2 I2 R R<|hvC (dz.gInt dN) R)<|Jg R (Jc4 (haC (fL.stp<|T12 Y P D x y q M j m g T F).cells R) I28 Z28 R)<|Ob h λgQ gx h=>Jr3 R C46 (jS (κ:=Mk bQ) (p0:=p0) gx) ?_
 rintro _ hE ⟨hs,rfl,eO⟩
 obtain⟨ea,O,hv⟩:=Ji eO 12 R
 refine⟨(O.cl R),Jn 3 R<|Jt1<|Jd<|Jg3 [2,2,1,2,2,1,2,2,1,2,1,1] 1 R<|Jd3 R U71 R Z31<|Jb3 R I31 ((dh.stp<|T11 D x y q M j m g T F O).ld 0 R R)<|Jn 1 R<|Ob h λiH dO h=>Jc3 R dC dO U31 Z37 ?_⟩
 obtain⟨g1,hD,df,f7⟩:=(dC.stp (T14 an Y P D x y q M j m g T F O)).gSl dO
 refine Jb3 R I37 f7<|Jn 1 R<|Ob h λbx dP h=>Jc3 R df dP U37 Z2<|Jb3 R I2 (df.gInt dP)<|Jf R (Ji4 [vi bw,vi bx] R)<|Jt3 (κ:=ea) 14 R X120 R λg2 hF U aG eR=>Tv<|Jh4 (κ:=U) 14 R Z120 R eR R λgE aH cm=>Tv<|Jd<|Jg3 [2,1,1,2,2,2,2,2] 1 R<|Jb4 tv R (Jc4 (haE cm.cells) I120 Z120 R) ?_
 have cn:=dy.stp (T4 F O aG aH)
 refine Ob h λgR gy h=>Jb4 tv R (wb (kf:=kvI2) (vf:=(λv:Int=>vi v)) uo U124 X2 R R R (mvE cn) gy)<|Jb 5 R<|Jq<|Je3 R<|Ob h λah h fV=>Jo3 [3,4,5,9,10,11,12,13,14,15,18,56,57,58] (λE L w'=>∃κ' bg be,L=(8,.slice bg ah.1.length be)::(20,vi ah.2.1)::E/\Stp [5,6] U gE κ' w'/\Oc (Ep.pair E6 E6) 120 κ' w' 5 bg be ah.1/\Mc kwI2 kvI2 (λv:Int=>vi v) κ' w' 6 aV ah.2.2) ?_ ?_
 revert h
 cases hn:(!gR.2)
 refine JF λh=>Jy R<|Js ?_
 cases h
 exact Jw1 _ ⟨U,aQ,aP,R,Jj3,(cx.stp<|T4 F O aG aH),cn⟩<|KM R
 refine JT λh=>Jx R<|Jg3 [2,2,2] 1 R<|Jn3 R U123 R R<|Jb 1 R<|Jg3 [2,1,2,1] 1 R<|Jb4 tv R (Jc4 (haE cm.cells) I120 Z120 R)<|Jn 1 R<|Ob h λiI gA h=>WO.mapup (κ:=U) (kf:=kvI2) (vf:=(λv:Int=>vi v)) (v:=(i.1.length:Int)) 6 R R R R R R R uo U124 cn gA λd1 bR eU=>Tv<|Jd<|Jh3 [2,1,1,1,2] 1 R<|Jb4 tv R (Jc4 (haE (cm.stp bR).cells) I120 Z120 R)<|Jw3 (κ:=U) (E:=(Ep.pair E6 E6)) 15 [] (parts:=[(0,.tmp 100)]) (cells:=[vi bw,vi bx]) (xs:=([(bw,bx)]:List (Int×Int))) R Y123 iM R (Je4 ⟨[vi bw],[vi bx],Zl U d1 [],Zl U d1 [],R,Zl.sp (l1:=[]) (l2:=[]) R,Zl.sr (l1:=[]) (l2:=[]),R,R⟩) λbI hd hI ec bT eV=>Tv<|Ob h λiE gp h=>Jy3 (κ:=ec) (E:=(Ep.pair E6 E6)) 5 [] R Y123 iM R (cx.stp<|T6 F O aG aH bR bT) (Sl.srcP (vw (bY _)<|bY _) eV.rdc) bU gp R λeH eB hJ ed cZ eW=>Tv<|Jc 1 R ?_
 cases h
 exact Jw1 _ ⟨ed,eH,eB,R,(T3 bR bT cZ).wk R,eW,(eU.stp<|bT.tr cZ)⟩<|KM R
 rintro _ hG ⟨eb,bg,be,rfl,cY,eS,eT⟩
 have h:=fV
 have cS:=(T5 F O aG aH cY)
 refine Jp<|Jh3 [2,2,1,1,2,2,1,1,2,2] 2 R<|Jd4 (κ:=eb) 15 [ah.2.1] R Y37 bS R λbJ g9 hK ef a0 eX=>Tv<|Ob h λgI gq h=>Jy3 (κ:=ef) (E:=E6) 10 [] R Y37 bS R (dw.stp<|cS.tr a0) (Sl.srcP (bY _) eX.rdc) bU gq R λeJ eI hL eh bV eY=>Tv<|Jn 2 R<|Jd4 (κ:=eh) 16 [(IntKind.i64.wrap ((IntKind.i64.wrap<|gP * gQ)+C))] R Y37 bS R λbK g8 hM ei a1 eZ=>Tv<|Ob h λgJ gr h=>Jy3 (κ:=ei) (E:=E6) 11 [] R Y37 bS R (dx.stp<|T4 cS a0 bV a1) (Sl.srcP (bY _) eZ.rdc) bU gr R λeN eC hN ej bW e1=>Tv<|Jc 2 R<|Jz<|Jp<|Jf3 R ?_
 have go:bM .i64 (C+1)=C+1:=wr1 f6 (Jm2 aD) f3
 rw[go]
 have aD:=Jm2 aD
 cases h
 have cT:=(T4 a0 bV a1 bW)
 exact Jz1 λa ha=>⟨k,_,Ja3 _,⟨ej,C+1,(ah.1,gI,gJ,ah.2.2),bg,be,eJ,eI,eN,eC,R,(T10 T F O aG aH cY a0 bV a1 bW).wk R,(eS.stp cT),(eY.stp<|a1.tr bW),e1,(eT.stp cT),by omega,by omega,cC⟩,(ha.mm R)⟩
 rintro _ gH ⟨aF,d,bl,bi,aO,aS,az,aw,rfl,av,fQ,dv,cv,fR,rfl⟩
 have h:=yI f0
 refine Jp<|Jq<|Jg3 [2,2,2] 1 R<|Jn3 R U123 R R<|Jb 1 R ?_
 revert h
 cases ho:decide (256<(d.1.length:Int))
 refine JF λh=>Jy R<|Js<|Jp<|Ob h λu cE h=>Ob h λN cF h=>Jo3 [3,4,5,8,9,10,11] (λE L w'=>∃κ' bb bc bq a9,L=E/\Stp [7,8,9,10,11,12,13] aF gH κ' w'/\Oc (Ep.own E6 2) 37 κ' w' 12 bb bc u/\Oc (Ep.own E6 2) 37 κ' w' 13 bq a9 N/\Bc κ' w' 7 aA 172 [.slice bb u.length bc,.slice bq N.length a9,.slice none 0 0]) ?_ ?_
 refine WC.rxt (κ:=aF) [7] (some 18) (by kernel_rfl) λhQ p=>Jq1 (fuel:=10) [(0,2),(1,2),(2,2),(3,2),(4,2),(6,2),(9,2),(10,2),(11,2),(13,2),(5,0),(12,0)] (by kernel_rfl) (by kernel_rfl) R<|Jn 3 R<|Jf R (cI R R)<|Jd3 R U172 R Z31<|Jn 2 R<|Jf R (cI R R)<|Jd3 R U172 R Z31<|Jn 1 R ?_
 have aU:=dt.stp (T5 j m g av p)
 refine Jg R (Jc2 I31 R R<|hvC (aU.ld 0 R R) R)<|Jg R (Jc2 I31 R R<|hvC (aU.ld 1 R R) R)<|Jp1<|WA.fork2 (fuel:=9) 7 14 (by kernel_rfl) R ?_ ?_
 refine Jw3 (κ:=aF) (E:=(Ep.own E6 2)) 12 [10] (parts:=[(0,.tmp 121)]) (cells:=[.slice aO d.2.1.length aS]) (xs:=([d.2.1]:List (List Int))) R Y31 bZ R (Je4 ⟨_,_,R,(dv.stp p)⟩) λbD eD hR cJ f di=>⟨(f.cl R),Jp1<|WA.fork2 (fuel:=8) 8 14 (by kernel_rfl) R ?_ ?_⟩
 have cU:=(T6 j m g av p f)
 exact Jy3 (κ:=cJ) (E:=(Ep.own E6 2)) 8 [12] R Y31 bZ R (bt.stp cU) di.src (dG R) cE R λn o hS el V e5=>⟨((f.tr V).cl R),Jp1<|Jq1 (fuel:=4) [(14,1),(15,1),(16,2),(17,2)] (by kernel_rfl) (by kernel_rfl) R<|Jw3 (κ:=el) (E:=(Ep.own E6 2)) 13 [11] (parts:=[(0,.tmp 128)]) (cells:=[.slice az d.2.2.1.length aw]) (xs:=([d.2.2.1]:List (List Int))) R Y31 bZ R (Je4 ⟨_,_,R,(cv.stp<|T3 p f V)⟩) λdc de hT em ai e6=>⟨((T3 f V ai).cl R),Jy3 (κ:=em) (E:=(Ep.own E6 2)) 9 [13] R Y31 bZ R (bu.stp<|T3 cU V ai) e6.src (dG R) cF R λA z hU bA a2 e7=>⟨((T4 f V ai a2).cl R),Jf R (cI R R)<|Jd3 R U172 R Z31<|Jp1<|WA.brk (fuel:=3) 18 (by kernel_rfl) R (by kernel_rfl)<|Ju3 (κ:=bA) 7 (off:=0) (vc:=[.slice n u.length o]) (cs':=[.slice n u.length o,.slice ad c.2.2.2.1.length af,.slice none 0 0]) R Z31 R (aU.stp<|T4 f V ai a2) R λhW b0 e8=>Tv<|Jp1<|Jq1 (fuel:=0) [(19,2),(20,2),(21,1)] (by kernel_rfl) (by kernel_rfl) R<|Jf R (cI R R)<|Jd3 R U172 R Z31<|Ju3 (κ:=bA) 7 (off:=1) (vc:=[.slice A N.length z]) (cs':=[.slice n u.length o,.slice A N.length z,.slice none 0 0]) R Z31 R e8 R λhX b1 fa=>Tv<|Jp1<|Jr1 [] (by kernel_rfl) (by kernel_rfl) R<|Jo<|Jw1 _ ⟨(λb=>ren [(8,12),(9,13)]<|bA b),n,o,A,z,R,(Jy2 ((T7 p f V ai a2 b0 b1).wk R) [(8,12),(9,13)] R),((e5.stp<|T4 ai a2 b0 b1).map (ren [(8,12),(9,13)]) R R),((e7.stp<|b0.tr b1).map (ren [(8,12),(9,13)]) R R),(fa.map (ren [(8,12),(9,13)]) R R)⟩<|KM R⟩⟩⟩
 have cV:=(T6 j m g av p f)
 exact Jw3 (κ:=cJ) (E:=(Ep.own E6 2)) 13 [11] (parts:=[(0,.tmp 128)]) (cells:=[.slice az d.2.2.1.length aw]) (xs:=([d.2.2.1]:List (List Int))) R Y31 bZ R (Je4 ⟨_,_,R,(cv.stp<|p.tr f)⟩) λdc de hY eo Q fb=>⟨((f.tr Q).cl R),Jp1<|Jq1 (fuel:=4) [(8,1),(15,1),(16,2),(17,2)] (by kernel_rfl) (by kernel_rfl) R<|Jm1 (κ:=eo) (E:=(Ep.own E6 2)) 8 [12] R R R R R R R R R Y31 bZ R R R R (bt.stp<|cV.tr Q) (di.stp Q).src (dG R) cE R λn o h0 ep aj fc=>⟨((T3 f Q aj).cl R),Jm1 (κ:=ep) (E:=(Ep.own E6 2)) 9 [13] R R R R R R R R R Y31 bZ R R R R (bu.stp<|T3 cV Q aj) (fb.stp aj).src (dG R) cF R λA z h1 bB a3 fd=>⟨((T4 f Q aj a3).cl R),Jf R (cI R R)<|Jd3 R U172 R Z31<|Jp1<|WA.brk (fuel:=3) 18 (by kernel_rfl) R (by kernel_rfl)<|Ju3 (κ:=bB) 7 (off:=0) (vc:=[.slice n u.length o]) (cs':=[.slice n u.length o,.slice ad c.2.2.2.1.length af,.slice none 0 0]) R Z31 R (aU.stp<|T4 f Q aj a3) R λh2 b2 fe=>Tv<|Jp1<|Jq1 (fuel:=0) [(19,2),(20,2),(21,1)] (by kernel_rfl) (by kernel_rfl) R<|Jf R (cI R R)<|Jd3 R U172 R Z31<|Ju3 (κ:=bB) 7 (off:=1) (vc:=[.slice A N.length z]) (cs':=[.slice n u.length o,.slice A N.length z,.slice none 0 0]) R Z31 R fe R λh3 b3 ff=>Tv<|Jp1<|Jr1 [] (by kernel_rfl) (by kernel_rfl) R<|Jo<|Jw1 _ ⟨(λb=>ren [(8,12),(9,13)]<|bB b),n,o,A,z,R,(Jy2 ((T7 p f Q aj a3 b2 b3).wk R) [(8,12),(9,13)] R),((fc.stp<|T3 a3 b2 b3).map (ren [(8,12),(9,13)]) R R),((fd.stp<|b2.tr b3).map (ren [(8,12),(9,13)]) R R),(ff.map (ren [(8,12),(9,13)]) R R)⟩<|KM R⟩⟩⟩
 have cW:=(T5 j m g av p)
 exact Jw3 (κ:=aF) (E:=(Ep.own E6 2)) 12 [11] (parts:=[(0,.tmp 128)]) (cells:=[.slice az d.2.2.1.length aw]) (xs:=([d.2.2.1]:List (List Int))) R Y31 bZ R (Je4 ⟨_,_,R,(cv.stp p)⟩) λdc de h4 eq H fh=>⟨(H.cl R),Jp1<|Jq1 (fuel:=4) [(7,1),(8,1),(15,1),(16,2),(17,2)] (by kernel_rfl) (by kernel_rfl) R<|Jw3 (κ:=eq) (E:=(Ep.own E6 2)) 13 [10] (parts:=[(0,.tmp 121)]) (cells:=[.slice aO d.2.1.length aS]) (xs:=([d.2.1]:List (List Int))) R Y31 bZ R (Je4 ⟨_,_,R,(dv.stp<|p.tr H)⟩) λbD eD h5 er S fi=>⟨((H.tr S).cl R),Jy3 (κ:=er) (E:=(Ep.own E6 2)) 8 [13] R Y31 bZ R (bt.stp<|T3 cW H S) fi.src (dG R) cE R λn o h6 es ak fj=>⟨((T3 H S ak).cl R),Jm1 (κ:=es) (E:=(Ep.own E6 2)) 9 [12] R R R R R R R R R Y31 bZ R R R R (bu.stp<|T4 cW H S ak) (fh.stp<|S.tr ak).src (dG R) cF R λA z h7 bC a4 fk=>⟨((T4 H S ak a4).cl R),Jf R (cI R R)<|Jd3 R U172 R Z31<|Jp1<|WA.brk (fuel:=3) 18 (by kernel_rfl) R (by kernel_rfl)<|Ju3 (κ:=bC) 7 (off:=0) (vc:=[.slice n u.length o]) (cs':=[.slice n u.length o,.slice ad c.2.2.2.1.length af,.slice none 0 0]) R Z31 R (aU.stp<|T4 H S ak a4) R λh8 b4 fl=>Tv<|Jp1<|Jq1 (fuel:=0) [(19,2),(20,2),(21,1)] (by kernel_rfl) (by kernel_rfl) R<|Jf R (cI R R)<|Jd3 R U172 R Z31<|Ju3 (κ:=bC) 7 (off:=1) (vc:=[.slice A N.length z]) (cs':=[.slice n u.length o,.slice A N.length z,.slice none 0 0]) R Z31 R fl R λh9 b5 fm=>Tv<|Jp1<|Jr1 [] (by kernel_rfl) (by kernel_rfl) R<|Jo<|Jw1 _ ⟨(λb=>ren [(8,12),(9,13)]<|bC b),n,o,A,z,R,(Jy2 ((T7 p H S ak a4 b4 b5).wk R) [(8,12),(9,13)] R),((fj.stp<|T3 a4 b4 b5).map (ren [(8,12),(9,13)]) R R),((fk.stp<|b4.tr b5).map (ren [(8,12),(9,13)]) R R),(fm.map (ren [(8,12),(9,13)]) R R)⟩<|KM R⟩⟩⟩⟩
 rintro _ hO ⟨ek,bb,bc,bq,a9,rfl,bX,e2,e3,e4⟩
 refine Jz<|Jp<|Jf3 R ?_
 cases h
 exact Jz1 λa ha=>⟨k,_,Ja3 _,⟨(λb=>ren [(12,8),(13,9)]<|ek b),(d.1,((IntKind.i64.wrap<|c.2.1+1):Int),u,N,d.2.2.2),bl,bi,bb,bc,bq,a9,R,(Jy2 ((T6 M j m g av bX).wk R) [(12,8),(13,9)] R),((fQ.stp bX).map (ren [(12,8),(13,9)]) R R),(e2.map (ren [(12,8),(13,9)]) R R),(e3.map (ren [(12,8),(13,9)]) R R),((fR.stp bX).map (ren [(12,8),(13,9)]) R R),(e4.map (ren [(12,8),(13,9)]) R R),cB⟩,(ha.mm R)⟩
 refine JT λh=>Jx R<|Je3 R<|Ju<|Jw<|Ja1<|Jw<|Jw ?_
 cases h
 obtain rfl:=Option.some.inj cB
 have h:=yL dE
 refine Ja1<|Jq2<|Jw<|Ja2 (l:=[.tmp 6,.tmp 7]) V148 (Jp2 R<|Jp2 R R) R ?_
 cases h
 exact⟨aF,none,0,none,0,none,0,0,R,(dD.stp<|T12 an Y P D x y q M j m g av),Ow.nil,Ow.nil,Ow.nil,(λh=>absurd h Bool.false_ne_true)⟩
 rintro _ d4 ⟨bF,e,ck,cl,aa,ab,ae,ag,rfl,b8,cr,fC,fD,hj,fJ,rfl⟩
 have h:=yI dE
 refine Jp<|Jq<|Je [2,1,2,2] R<|Jd3 R U71 R Z69<|Jb3 R I69 ((dh.stp<|T5 D x y q b8).ld 1 R R)<|Jn3 R U69 R R<|Jb 1 R ?_
 have f1:(p2.Pairs.length:Int)<=9223372036854775807:=cy.len_le
 refine Ob h λdT ge fW=>?_
 clear h
 refine Jo3 [10] (λE L w'=>∃κ',∃bv:(List Pair),∃bo bm,L=E/\Stp [7,10,11,12,13,14,15] bF d4 κ' w'/\Oc Pair.ep127 127 κ' w' 10 bo bm bv/\Bc κ' w' 7 aA 172 [.slice aa e.2.2.1.length ab,.slice ae e.2.2.2.1.length ag,.slice bo bv.length bm]/\dT=cb bv) ?_ ?_
 refine Jv<|Jp3 [8,10,136,137] (λk E L w'=>∃κ' G,∃aE:(List Pair),∃bf bd,L=(138,vi G)::E/\Stp [7,10,11,12,13,14,15] bF d4 κ' w'/\Oc Pair.ep127 127 κ' w' 10 bf bd aE/\Bc κ' w' 7 aA 172 [.slice aa e.2.2.1.length ab,.slice ae e.2.2.2.1.length ag,.slice bf aE.length bd]/\0<=G/\hV ((p2.Pairs.length:Int)-G)=k/\cntM (gX p2 e) k G aE=some dT) ⟨_,_,⟨bF,0,(([]:List Pair):(List Pair)),none,0,R,Jj3,Ow.nil,fJ,(by decide),(by simp),ge⟩,(KM R)⟩ ?_
 rintro k _ ib ⟨cL,G,aE,bf,bd,rfl,a5,dj,dk,f4,hk,h⟩
 rcases k with _ | k
 have cz:=h;obtain⟨gB,h⟩:=cw (cb (eg aE):((Option watch)×Bool)⊕(((List Pair))⊕((List Pair))))
 have aB:decide (G<(p2.Pairs.length:Int))=false:=Jo2 (by omega)
 refine Je3 R<|Jq<|Jw2 R aB<|Jc1<|Jt<|Jt ?_
 cases h
 have h:=cz
 refine Jb1 ?_
 cases h
 exact Jw1 _ ⟨cL,aE,bf,bd,R,a5.wk R,dj,dk,R⟩<|KM R
 obtain⟨gB,h,cz⟩:=BI h;unfold gX at h
 have aB:decide (G<(p2.Pairs.length:Int))=true:=Jn2 (by omega)
 refine Je3 R<|Jq<|Jv2 R aB<|Js<|Jp<|Jq<|Jv<|Je [2,1,1,1] R<|Ob h λgK dF h=>Jc3 R cy dF U69 Z127 ?_
 obtain⟨hf,gi,ga⟩:=((cy.stp (T9 an Y P D x y q b8 a5))).gSt dF
 obtain⟨gT,hz,gU,hA,rfl,fT,fU⟩:=Pair.un gi
 refine Jb4 tv R (Jc4 (haE ga) I127 Z127 R)<|Jt3 (κ:=cL) 11 R X127 R λg3 ic cM al fq=>Tv<|Jh4 (κ:=cM) 11 R Z127 R fq R λie am fr=>Tv<|Jd<|Je [2,1,1] R<|Jf R (Ji4 [.slice none 0 0,.slice none 0 0] R)<|Jt3 (κ:=cM) 12 R X127 R λbr ig aY W fs=>Tv<|Jh4 (κ:=aY) 12 R Z127 R fs R λd3 X ft=>Tv<|Jd<|Jq<|Jg3 [2,2,2] 1 R<|Jn3 R U123 R R<|Jb 1 R ?_
 have f2:(e.1.length:Int)<=9223372036854775807:=cr.len_le
 refine Ob h λdQ gf fX=>?_
 clear h
 refine Jo3 [8,10,24,136,137,138] (λE L w'=>∃κ',∃s:(List Int)×(List Int),∃aR aM aK aJ,L=E/\Stp [12,13,14,15] aY d3 κ' w'/\Oc E6 2 κ' w' 13 aR aM s.1/\Oc E6 2 κ' w' 14 aK aJ s.2/\Bc κ' w' 12 br 127 [.slice aR s.1.length aM,.slice aK s.2.length aJ]/\dQ=cb s) ?_ ?_
 refine Jv<|Jp3 [8,10,23,24,136,137,138,143,144] (λk E L w'=>∃κ' t,∃B:(List Int)×(List Int),∃aT aN Z ac,L=(145,vi t)::E/\Stp [12,13,14,15] aY d3 κ' w'/\Oc E6 2 κ' w' 13 aT aN B.1/\Oc E6 2 κ' w' 14 Z ac B.2/\Bc κ' w' 12 br 127 [.slice aT B.1.length aN,.slice Z B.2.length ac]/\0<=t/\hV ((e.1.length:Int)-t)=k/\cntM (gY e gK) k t B=some dQ) ⟨_,_,⟨aY,0,((([]:List Int):(List Int)),(([]:List Int):(List Int))),none,0,none,0,R,Jj3,Ow.nil,Ow.nil,ft,(by decide),(by simp),gf⟩,(KM R)⟩ ?_
 rintro k _ ii ⟨cN,t,B,aT,aN,Z,ac,rfl,ao,co,cp,cq,f5,hl,h⟩
 rcases k with _ | k
 have cA:=h;obtain⟨gC,h⟩:=cw (cb (eg B):((Option watch)×Bool)⊕(((List Int)×(List Int))⊕((List Int)×(List Int))))
 have aC:decide (t<(e.1.length:Int))=false:=Jo2 (by omega)
 refine Je3 R<|Jq<|Jw2 R aC<|Jc1<|Jt<|Jt ?_
 cases h
 have h:=cA
 refine Jb1 ?_
 cases h
 exact Jw1 _ ⟨cN,(B.1,B.2),aT,aN,Z,ac,R,ao.wk R,co,cp,cq,R⟩<|KM R
 obtain⟨gC,h,cA⟩:=BI h;unfold gY at h
 have aC:decide (t<(e.1.length:Int))=true:=Jn2 (by omega)
 refine Je3 R<|Jq<|Jv2 R aC<|Js<|Jp<|Jq<|Jv<|Jg3 [2,2,1,1,2,1] 1 R<|Ob h λiF dH h=>Jc3 R cr.rdc dH U123 Z120 ?_
 obtain⟨hg,gj,gb⟩:=((cr.stp (T6 a5 al am W X ao)).rdc).gSt dH
 obtain⟨_,_,rfl,rfl,rfl⟩:=gj
 refine Jb4 tv R (Jc4 (haE gb) I120 Z120 R)<|Jt3 (κ:=cN) 15 R X120 R λg4 ij cO I fx=>Tv<|Jn 1 R<|Jh4 (κ:=cO) 15 R Z120 R fx R λik J dl=>Tv<|Jd<|Jq<|Je [2,1,2,1,1] R<|Jd3 R U127 R Z37 ?_
 have dm:=fr.stp (T5 W X ao I J)
 refine Jb3 R I37 (dm.ld 0 R R)<|Jf R (jJ U120 Z2 R R R R)<|Jb3 R I2 (dl.ld 1 R R)<|Ob h λgL gs h=>Jr3 R C89 (ch (κ:=Mk cO) (Ji3<|fT.stp<|T7 al am W X ao I J) gs) ?_
 rintro _ gF ⟨ht,rfl,eP⟩
 obtain⟨bH,K,hw⟩:=Ji eP 16 R
 refine Tv<|Jd<|Ob h λaW h fY=>Jo3 [8,10,23,24,25,26,136,137,138,143,144,145] (λE L w'=>∃κ' ay ax,L=E/\Stp [12,13] bH gF κ' w'/\Oc E6 2 κ' w' 13 ay ax aW/\Bc κ' w' 12 br 127 [.slice ay aW.length ax,.slice Z B.2.length ac]) ?_ ?_
 revert h
 cases hp:gL
 refine JF λh=>Jy R<|Js ?_
 cases h
 have cX:=(T3 I J K)
 exact Jw1 _ ⟨bH,aT,aN,R,Jj3,(co.stp cX),(cq.stp cX)⟩<|KM R
 refine JT λh=>Jx R<|Ja [2,1,2,1,1,2,1] R<|Jd3 R U127 R Z37 ?_
 have dp:=cq.stp (T3 I J K)
 refine Jb3 R I37 (dp.ld 0 R R)<|Jn 1 R<|Jd4 (κ:=bH) 18 [t] R Y37 bS R λbM hc im ev b9 fz=>Tv<|Ob h λd8 gt h=>Jy3 (κ:=ev) (E:=E6) 13 [] R Y37 bS R (co.stp<|T4 I J K b9) (Sl.srcP (bY _) fz.rdc) bU gt R λcg ci io cP c0 fA=>Tv<|Jd3 R U127 R Z37<|Ju3 (κ:=cP) 12 (off:=0) (vc:=[.slice cg d8.length ci]) (cs':=[.slice cg d8.length ci,.slice Z B.2.length ac]) R Z37 R (dp.stp<|b9.tr c0) R λip c1 fB=>Tv<|Jo ?_
 cases h
 exact Jw1 _ ⟨cP,cg,ci,R,(T3 b9 c0 c1).wk R,(fA.stp c1),fB⟩<|KM R
 rintro _ il ⟨eu,ay,ax,rfl,ap,fy,dn⟩
 have h:=fY
 refine Jp<|Je [2,1,2,1,1] R<|Jd3 R U127 R Z37<|Jb3 R I37 ((dm.stp<|K.tr ap).ld 1 R R)<|Jf R (jJ U120 Z2 R R R R)<|Jb3 R I2 ((dl.stp<|K.tr ap).ld 1 R R)<|Ob h λgM gu h=>Jr3 R C89 (ch (κ:=Mk eu) (Ji3<|fU.stp<|T9 al am W X ao I J K ap) gu) ?_
 rintro _ gG ⟨hu,rfl,eQ⟩
 obtain⟨bN,aq,hx⟩:=Ji eQ 18 R
 refine Tv<|Jd<|Ob h λcG h fZ=>Jo3 [8,10,23,24,136,137,138,143,144,145] (λE L w'=>∃κ' ba a8,L=E/\Stp [12,14] bN gG κ' w'/\Oc E6 2 κ' w' 14 ba a8 cG/\Bc κ' w' 12 br 127 [.slice ay aW.length ax,.slice ba cG.length a8]) ?_ ?_
 revert h
 cases hq:gM
 refine JF λh=>Jy R<|Js ?_
 cases h
 exact Jw1 _ ⟨bN,Z,ac,R,Jj3,(cp.stp<|T5 I J K ap aq),(dn.stp aq)⟩<|KM R
 refine JT λh=>Jx R<|Ja [2,1,2,1,1,2,1] R<|Jd3 R U127 R Z37 ?_
 have dq:=dn.stp aq
 refine Jb3 R I37 (dq.ld 1 R R)<|Jn 1 R<|Jd4 (κ:=bN) 20 [t] R Y37 bS R λbL he ir ex ca fG=>Tv<|Ob h λd9 gv h=>Jy3 (κ:=ex) (E:=E6) 14 [] R Y37 bS R (cp.stp<|T6 I J K ap aq ca) (Sl.srcP (bY _) fG.rdc) bU gv R λcf cj it cQ c3 fH=>Tv<|Jd3 R U127 R Z37<|Ju3 (κ:=cQ) 12 (off:=1) (vc:=[.slice cf d9.length cj]) (cs':=[.slice ay aW.length ax,.slice cf d9.length cj]) R Z37 R (dq.stp<|ca.tr c3) R λiu c4 fI=>Tv<|Jo ?_
 cases h
 exact Jw1 _ ⟨cQ,cf,cj,R,(T3 ca c3 c4).wk R,(fH.stp c4),fI⟩<|KM R
 rintro _ iq ⟨ew,ba,a8,rfl,c2,fE,fF⟩
 have h:=fZ
 refine Jz<|Jp<|Jf3 R ?_
 have gn:bM .i64 (t+1)=t+1:=wr1 f5 (Jm2 aC) f2
 rw[gn]
 have aC:=Jm2 aC
 cases h
 exact Jz1 λa ha=>⟨k,_,Ja3 _,⟨ew,t+1,(aW,cG),ay,ax,ba,a8,R,(T7 ao I J K ap aq c2).wk R,(fy.stp<|aq.tr c2),fE,fF,by omega,by omega,cA⟩,(ha.mm R)⟩
 rintro _ ih ⟨aZ,s,aR,aM,aK,aJ,rfl,b7,fu,fv,fw,rfl⟩
 have h:=yI fX
 refine Jp<|Js1 (κ:=aZ) [7,12] (some 10) [(0,2),(1,2),(2,2),(3,2),(4,0),(5,0),(6,1),(7,1),(8,2),(9,2)] [(10,1)] (by kernel_rfl) (by kernel_rfl) λd5 au=>Jn 2 R<|Jf R (cI R R)<|Jd3 R U172 R Z69 ?_
 have dr:=dk.stp (T6 al am W X b7 au)
 refine Jg R (Jc2 I69 R R<|hvC (dr.ld 2 R R) R)<|Jg R (Jc4 (haC (fw.stp au).cells R) I127 Z127 R)<|Jw3 (κ:=aZ) (E:=Pair.ep127) 15 [13,14] (parts:=[(0,.tmp 178)]) (cells:=[.slice aR s.1.length aM,.slice aK s.2.length aJ]) (xs:=([(⟨s.1,s.2⟩:Pair)]:List Pair)) R Y69 dg R (Je4 ⟨[.slice aR s.1.length aM],[.slice aK s.2.length aJ],Zl aZ d5 [13],Zl aZ d5 [14],R,Zl.sp (l1:=[13]) (l2:=[14]) R,Zl.sr (l1:=[13]) (l2:=[14]),⟨_,_,R,(fu.stp au)⟩,⟨_,_,R,(fv.stp au)⟩⟩) λbG hb iv ey aI fK=>⟨(aI.cl R),Ob h λcH gw h=>Jy3 (κ:=ey) (E:=Pair.ep127) 10 [15] R Y69 dg R (dj.stp<|T7 al am W X b7 au aI) fK.src (dG R) gw R λce cd iw cR cc fM=>⟨((aI.tr cc).cl R),Jf R (cI R R)<|Jd3 R U172 R Z69<|Jt1<|Ju3 (κ:=cR) 7 (off:=2) (vc:=[.slice ce cH.length cd]) (cs':=[.slice aa e.2.2.1.length ab,.slice ae e.2.2.2.1.length ag,.slice ce cH.length cd]) R Z69 R (dr.stp<|aI.tr cc) R λiy c5 fN=>Tv<|Jo<|Jz<|Jp<|Jf3 R ?_⟩⟩
 have gm:bM .i64 (G+1)=G+1:=wr1 f4 (Jm2 aB) f1
 rw[gm]
 have aB:=Jm2 aB
 cases h
 exact Jz1 λa ha=>⟨k,_,Ja3 _,⟨cR,G+1,cH,ce,cd,R,(T10 a5 al am W X b7 au aI cc c5).wk R,(fM.stp c5),fN,by omega,by omega,cz⟩,(ha.mm R)⟩
 rintro _ ia ⟨et,bv,bo,bm,rfl,b6,fo,fp,rfl⟩
 have h:=yI fW
 refine Jp<|Je3 R<|Ju<|Ja2 (l:=[.tmp 6,.tmp 7]) V148 (Jp2 R<|Jp2 R R) R ?_
 cases h
 exact⟨(λb=>ren [(8,2),(9,3),(10,4),(7,5)]<|et b),aa,ab,ae,ag,bo,bm,aA,R,((dD.stp<|T9 an Y P D x y q b8 b6).map (ren [(8,2),(9,3),(10,4),(7,5)]) R R),((fC.stp b6).map (ren [(8,2),(9,3),(10,4),(7,5)]) R R),((fD.stp b6).map (ren [(8,2),(9,3),(10,4),(7,5)]) R R),(fo.map (ren [(8,2),(9,3),(10,4),(7,5)]) R R),(λ_=>(fp.map (ren [(8,2),(9,3),(10,4),(7,5)]) R R))⟩
theorem nZ {A y x B v u}{p0:watch}{a1 H}{p1:(List Int)}{C}(ah:Rd (Rp.sl (Rp.int .i64)) κ w 0 A y p0.next) (ai:Rd (Rp.sl (Rp.int .i64)) κ w 0 x B p0.letters) (aj:Rd Pair.rp κ w 0 v u p0.pairs) (T:Rd (Rp.int .i64) κ w 0 a1 H p1) (U:Bc κ w 0 C 172 [.slice A p0.next.length y,.slice x p0.letters.length B,.slice v p0.pairs.length u]){r:(List Bool)}(h:fK p0 p1=some r):Ret Tryz.prog 210 [.pointer (some ⟨C,0,none⟩),.slice a1 p1.length H] w (Pvs Ep.bool 4 κ w r):=by
 unfold fK at h
 refine Jk3 κ F210 R N210 R λV=>Je3 R<|Jg3 [2,2,2,1,2,1,2] 1 R<|Jf R (cI R R)<|Jd3 R U172 R Z31<|Jb3 R I31 (U.ld 0 R R)<|Jn3 R U31 R R<|Ob h λc ad h=>Jl1 (κ:=κ) (E:=Ep.bool) (z:=(false:Bool)) 2 R R R R R R R Y178 fQ R R R R R (λ_ _ _=>R) (Ju2 ad) λj m w1 g t D=>Tv<|Jb 1 R<|Jq<|Jg3 [2,2,2] 1 R<|Jn3 R U178 R R<|Jb 1 R ?_
 have X:(c.length:Int)<=9223372036854775807:=D.len_le
 refine Ob h λG ab W=>?_
 clear h
 refine Jo3 [0,5] (λE L w'=>∃κ',∃f:(List Bool),L=E/\Stp [2] g w1 κ' w'/\Oc Ep.bool 4 κ' w' 2 j m f/\c.length=f.length/\G=cb f) ?_ ?_
 refine Jv<|Jp3 [0,1,5,14] (λk E L w'=>∃κ' b,∃e:(List Bool),L=(15,vi b)::E/\Stp [2] g w1 κ' w'/\Oc Ep.bool 4 κ' w' 2 j m e/\c.length=e.length/\0<=b/\hV ((c.length:Int)-b)=k/\cntM (eh p1) k b e=some G) ⟨_,_,⟨g,0,c,R,Jj3,D,R,(by decide),(by simp),ab⟩,(KM R)⟩ ?_
 rintro k _ an ⟨q,b,e,rfl,i,n,p,Y,ak,h⟩
 rcases k with _ | k
 have o:=h;obtain⟨ag,h⟩:=cw (cb (eg e):(List Bool)⊕(((List Bool))⊕((List Bool))))
 have d:decide (b<(c.length:Int))=false:=Jo2 (by omega)
 refine Je3 R<|Jq<|Jw2 R d<|Jc1<|Jt<|Jt ?_
 cases h
 have h:=o
 refine Jb1 ?_
 cases h
 exact Jw1 _ ⟨q,e,R,i.wk R,n,p,R⟩<|KM R
 obtain⟨ag,h,o⟩:=BI h;unfold eh at h
 have d:decide (b<(c.length:Int))=true:=Jn2 (by omega)
 refine Je3 R<|Jq<|Jv2 R d<|Js<|Jp<|Jq<|Jv<|Je3 R<|Jh3 [2,2,2,2,1,2,2,1] 4 R<|Ob h λar ae h=>Jr3 R C89 (ch (κ:=Mk q) (Ji3<|T.stp<|t.tr i) ae) ?_
 rintro _ ao ⟨al,rfl,P⟩
 obtain⟨J,s,am⟩:=Ji P 3 R
 refine Tv<|Jn 1 R<|Ob h λau af h=>Jf R (Jf2 n.rdc af U178 Z4 R R p R)<|Ob h λI F h=>Jk1 (κ:=J) (E:=Ep.bool) 2 [] R R R R R R R R Z4 R R R R (n.stp s) F λap K O S=>Tv<|?_
 have aa:c.length=I.length:=p.trans (Jt2 F).2.2.2.symm
 refine Jo<|Jz<|Jp<|Jf3 R ?_
 have ac:bM .i64 (b+1)=b+1:=wr1 Y (Jm2 d) X
 rw[ac]
 have d:=Jm2 d
 cases h
 exact Jz1 λa ha=>⟨k,_,Ja3 _,⟨K,b+1,I,R,(T3 i s O).wk R,S,aa,by omega,by omega,o⟩,(ha.mm R)⟩
 rintro _ aq ⟨M,f,rfl,N,Q,Z,rfl⟩
 have h:=yI W
 refine Jp<|Je3 R<|Ju<|Ja2 (l:=[.tmp 4]) V210 (Jp2 R R) R ?_
 cases h
 exact⟨M,j,m,(by simp only[Z]),(V.stp<|t.tr N),Q⟩
theorem qr {p0:Sig}{M P N O}{p1:Machine}(C:Rd (Rp.sl (Rp.int .i64)) κ w 0 M P p1.Next) (x:Rd (Rp.sl (Rp.int .i64)) κ w 0 N O p1.Out){r:Bool}(h:iX p0 p1=some r):Ret Tryz.prog 17 [.agg #[vi p0.In,vi p0.Out],.agg #[.slice M p1.Next.length P,.slice N p1.Out.length O]] w (Pvb κ w r):=by
 unfold iX at h
 refine Jk3 κ F17 R N17 R λD=>Je [1,1,2] R<|Js3 (κ:=κ) 2 R λbc w1 ai o ay=>Tv<|Js3 (κ:=ai) 3 R λbd bN am m v=>Tv<|Jb 1 R<|Je [2,1,2,2] R<|Jd3 R U33 R Z31<|Jb3 R I31 (v.ld 0 R R)<|Jn3 R U31 R R<|Jb 1 R<|Jq<|Je [1,1,2,2,2,1,2,2,2,2,1,2,2,1,2,2,2] R ?_
 have U:=ay.stp m
 refine Jb4 tv R (Jc4 (haE U.cells) I28 Z28 R)<|Ob h λa1 aP h=>Jr3 R C58 (iK (κ:=Mk am) (p0:=p0) aP) ?_
 rintro _ aW ⟨bq,rfl,ar⟩
 obtain⟨G,d,bw⟩:=Ji ar 4 R
 refine Tv<|Jn 2 R<|Ob h λab h aB=>Jf4 [2,3,5] 17 ab G aW [(4,2),(5,1),(6,2),(7,2)] [(8,2),(9,2),(10,1),(11,2),(12,2),(13,1),(14,2),(15,2),(16,2)] tv ?_ ?_
 revert h
 cases bj:(!a1)
 refine JF λh=>Jn 1 R<|Ob h λbR aQ h=>Jr3 R C59 (de (κ:=Mk G) aQ) ?_
 rintro _ bJ ⟨br,rfl,au⟩
 obtain⟨a5,ao,bx⟩:=Ji au 6 R
 refine Tv<|Jn 2 R ?_
 cases h
 exact Jv1 _ tv ⟨R,_,ao.wk R⟩<|KM R
 refine JT λh=>Jn 1 R<|Jz3 R<|Jn 2 R ?_
 cases h
 exact Jg4 tv R
 rintro _ aX _ ⟨rfl,aj,e⟩
 have h:=aB
 refine Jn 1 R<|Ob h λac h aC=>Jf4 [2,3,5] 26 ac aj aX [(9,2),(10,1),(11,2),(12,2),(13,1),(14,2),(15,2),(16,2)] [] tv ?_ ?_
 revert h
 cases bk:ab
 refine JF λh=>Jd3 R U33 R Z31 ?_
 have Q:=v.stp (d.tr e)
 refine Jb3 R I31 (Q.ld 1 R R)<|Jn3 R U31 R R<|Jd3 R U33 R Z31<|Jb3 R I31 (Q.ld 0 R R)<|Jn3 R U31 R R<|Jn 2 R ?_
 cases h
 exact Jg4 tv R
 refine JT λh=>Jn 1 R<|Jz3 R<|Jn 2 R<|Jz3 R<|Jn 3 R ?_
 cases h
 exact Jg4 tv R
 rintro _ ah _ ⟨rfl,t,g⟩
 have h:=aC
 refine Jd ?_
 revert h
 cases bl:ac
 refine JF λh=>Jy R<|Js<|Jp<|Jq<|Je3 R ?_
 have aG:(p1.Next.length:Int)<=9223372036854775807:=C.len_le
 refine Ob h λag aN V=>?_
 clear h
 refine Jx1 (λL w'=>∃κ',L=[]/\Stp [] t ah κ' w'/\ag=cb ()) ?_ ?_
 refine Jv<|Jp3 [2,3,5] (λk E L w'=>∃κ' f,L=(6,vi f)::E/\Stp [] t ah κ' w'/\0<=f/\hV ((p1.Next.length:Int)-f)=k/\cntM (gE p0 p1) k f ()=some ag) ⟨_,_,⟨t,0,R,Jj3,(by decide),(by simp),aN⟩,(KM R)⟩ ?_
 rintro k _ bL ⟨z,f,rfl,i,aH,bh,h⟩
 rcases k with _ | k
 have y:=h;obtain⟨aV,h⟩:=cw (cb (eg ()):Bool⊕((Unit)⊕(Unit)))
 have p:decide (f<(p1.Next.length:Int))=false:=Jo2 (by omega)
 refine Jq<|Jg3 [2,2,1,2,2] 1 R<|Jd3 R U33 R Z31<|Jb3 R I31 ((v.stp<|T4 d e g i).ld 0 R R)<|Jn3 R U31 R R<|Jb 1 R<|Jw2 R p<|Jc1<|Jt<|Jt ?_
 cases h
 have h:=y
 refine Jb1 ?_
 cases h
 exact Jw1 _ ⟨z,R,i.wk R,R⟩ KN
 obtain⟨aV,h,y⟩:=BI h;unfold gE at h
 have p:decide (f<(p1.Next.length:Int))=true:=Jn2 (by omega)
 refine Jq<|Jg3 [2,2,1,2,2] 1 R<|Jd3 R U33 R Z31 ?_
 have S:=v.stp (T4 d e g i)
 refine Jb3 R I31 (S.ld 0 R R)<|Jn3 R U31 R R<|Jb 1 R<|Jv2 R p<|Js<|Jp<|Jq<|Jv<|Jq<|Js1 (κ:=z) [0,2,3] none [(0,2),(2,2),(1,0),(3,2),(4,0),(5,2),(6,0),(7,1),(8,2),(9,2),(10,2),(12,2),(16,2),(18,2),(11,0),(13,2),(14,0),(15,2),(17,0),(19,2),(20,0),(21,2),(22,2),(23,2),(24,2),(25,2),(27,2),(30,2),(26,0),(28,2),(29,0),(31,1),(32,2),(33,2),(34,2),(35,2),(37,2),(40,2),(36,0),(38,2),(39,0),(41,0),(42,1),(43,1),(44,2),(45,2)] [] (by kernel_rfl) (by kernel_rfl) λbO j=>Jd3 R U33 R Z31<|Jn 1 R ?_
 have q:=S.stp j
 refine Jg R (Jc2 I31 R R<|hvC (q.ld 0 R R) R)<|Ob h λa2 W h=>Jc3 R C W U31 Z37 ?_
 have s:=C.stp (T7 o m d e g i j)
 obtain⟨a7,bC,be,aI⟩:=s.gSl W
 refine Jg R (Jc2 I37 R R<|hvC aI R)<|Jn3 R U37 R R ?_
 have T:=U.stp (T5 d e g i j)
 refine Jg R (Jc4 (haC T.cells R) I28 Z28 R)<|Ob h λa3 aR h=>Jr3 R C60 (lE (κ:=Mk z) (p0:=p0) aR) ?_
 rintro _ aY ⟨bs,rfl,av⟩
 obtain⟨al,b,bz⟩:=Ji av 6 R
 refine⟨(b.cl R),Jn 2 R<|Ob h λad h aD=>Jf4 [2,3,5,6] 57 ad al aY [(10,2),(12,2),(16,2),(18,2),(11,0),(13,2),(14,0),(15,2),(17,0),(19,2),(20,0),(21,2),(22,2),(23,2)] [(24,2),(25,2),(27,2),(30,2),(26,0),(28,2),(29,0),(31,1),(32,2),(33,2),(34,2),(35,2),(37,2),(40,2),(36,0),(38,2),(39,0),(41,0),(42,1),(43,1),(44,2),(45,2)] (b.cl R) ?_ ?_⟩
 revert h
 cases bm:((a2.length:Int) !=a3)
 refine JF λh=>Jd3 R U33 R Z31<|Jn 1 R<|Jd3 R U33 R Z31<|Jn 1 R<|Jg R (Jc2 I31 R R<|hvC (q.ld 1 R R) R)<|Ob h λbS X h=>Jc3 R x X U31 Z37 ?_
 obtain⟨a8,bD,bf,aJ⟩:=(x.stp (T7 o m d e g i j)).gSl X
 refine Jg R (Jc2 I37 R R<|hvC aJ R)<|Jn3 R U37 R R<|Jg R (Jc2 I31 R R<|hvC (q.ld 0 R R) R)<|Ob h λbT Y h=>Jc3 R s Y U31 Z37 ?_
 obtain⟨a9,bE,bg,aK⟩:=s.gSl Y
 refine Jg R (Jc2 I37 R R<|hvC aK R)<|Jn3 R U37 R R<|Jn 2 R ?_
 cases h
 exact Jv1 _ (b.cl R) ⟨R,_,Jj3⟩<|KM R
 refine JT λh=>Jn 4 R<|Ja4 R<|Jn 1 R<|Ja4 R<|Jn 1 R<|Ja4 R<|Jn 1 R<|Ja4 R<|Jn 3 R ?_
 cases h
 exact Jv1 _ (b.cl R) ⟨R,_,Jj3⟩<|KM R
 rintro _ aZ _ ⟨rfl,H,c⟩
 have h:=aD
 refine Jn 1 R<|Ob h λae h aE=>Jf4 [2,3,5,6] 67 ae H aZ [(25,2),(27,2),(30,2),(26,0),(28,2),(29,0),(31,1),(32,2),(33,2)] [(34,2),(35,2),(37,2),(40,2),(36,0),(38,2),(39,0),(41,0),(42,1),(43,1),(44,2),(45,2)] ((b.tr c).cl R) ?_ ?_
 revert h
 cases bn:ad
 refine JF λh=>Jd3 R U33 R Z31<|Jn 2 R<|Jg R (Jc2 I31 R R<|hvC (q.ld 0 R R) R)<|Ob h λbU Z h=>Jc3 R s Z U31 Z37 ?_
 obtain⟨ba,bF,az,aL⟩:=s.gSl Z
 refine Jg R (Jc2 I37 R R<|hvC aL R)<|Ob h λbV aS h=>Jr3 R C61 (fW (κ:=Mk H) (Ji3<|az.stp<|b.tr c) aS) ?_
 rintro _ bP ⟨bt,rfl,aw⟩
 obtain⟨a6,B,bA⟩:=Ji aw 8 R
 refine⟨((T3 b c B).cl R),Jn 2 R ?_⟩
 cases h
 exact Jv1 _ ((T3 b c B).cl R) ⟨R,_,B.wk R⟩<|KM R
 refine JT λh=>Jn 3 R<|Ja4 R<|Jn 1 R<|Ja4 R<|Jz3 R<|Jn 2 R ?_
 cases h
 exact Jv1 _ ((b.tr c).cl R) ⟨R,_,Jj3⟩<|KM R
 rintro _ a0 _ ⟨rfl,I,n⟩
 have h:=aE
 refine Jn 1 R<|Ob h λaf h aF=>Jf4 [2,3,5,6] 79 af I a0 [(35,2),(37,2),(40,2),(36,0),(38,2),(39,0),(41,0),(42,1),(43,1),(44,2),(45,2)] [] ((T3 b c n).cl R) ?_ ?_
 revert h
 cases bo:ae
 refine JF λh=>Jd3 R U33 R Z31<|Jn 1 R<|Jd3 R U28 R Z2<|Jg R (Jc2 I31 R R<|hvC (q.ld 1 R R) R)<|Ob h λbW aa h=>Jc3 R x aa U31 Z37 ?_
 obtain⟨bb,bG,aA,aM⟩:=(x.stp (T7 o m d e g i j)).gSl aa
 refine Jg R (Jc2 I37 R R<|hvC aM R)<|Jg R (Jc2 I2 R R<|hvC (T.ld 1 R R) R)<|Ob h λbX aT h=>Jr3 R C62 (dI (κ:=Mk I) aT) ?_
 rintro _ bQ ⟨bu,rfl,ax⟩
 obtain⟨an,u,bB⟩:=Ji ax 8 R
 have J:=(T4 b c n u)
 refine⟨(J.cl R),Ob h λbY aU h=>Jr3 R C61 (fW (κ:=Mk an) (Ji3<|aA.stp J) aU) ?_⟩
 rintro _ bH ⟨bp,rfl,aq⟩
 obtain⟨a4,A,bv⟩:=Ji aq 10 R
 refine⟨((T5 b c n u A).cl R),Jn 2 R ?_⟩
 cases h
 exact Jv1 _ ((T5 b c n u A).cl R) ⟨R,_,(u.tr A).wk R⟩<|KM R
 refine JT λh=>Jn 3 R<|Ja4 R<|Jn 1 R<|Ja4 R<|Ja4 R<|Jz3 R<|Jz3 R<|Jn 2 R ?_
 cases h
 exact Jv1 _ ((T3 b c n).cl R) ⟨R,_,Jj3⟩<|KM R
 rintro _ bI _ ⟨rfl,F,K⟩
 have h:=aF
 refine Jt1<|Jd ?_
 revert h
 cases bi:af
 refine JF λh=>Jy R<|Js<|Jz<|Jp<|Jf3 R ?_
 have aO:bM .i64 (f+1)=f+1:=wr1 aH (Jm2 p) aG
 rw[aO]
 have p:=Jm2 p
 cases h
 exact Jz1 λa ha=>⟨k,_,Ja3 _,⟨F,f+1,R,(T6 i j b c n K).wk R,by omega,by omega,y⟩,(ha.mm R)⟩
 refine JT λh=>Jx R<|Je3 R<|Ju<|Ja1<|Jw<|Jw ?_
 cases h
 obtain rfl:=Option.some.inj y
 have h:=yL V
 refine Ja1<|Jq2<|Jw<|Ja2 (l:=[.tmp 4]) V17 (Jp2 R R) R ?_
 cases h
 exact⟨F,R,(D.stp<|T11 o m d e g i j b c n K)⟩
 rintro _ bK ⟨ak,rfl,ap,rfl⟩
 have h:=yI V
 refine Jp<|Je3 R<|Ju<|Ja2 (l:=[.tmp 4]) V17 (Jp2 R R) R ?_
 cases h
 exact⟨ak,R,(D.stp<|T6 o m d e g ap)⟩
 refine JT λh=>Jx R<|Je3 R<|Ju<|Jw<|Ja2 (l:=[.tmp 4]) V17 (Jp2 R R) R ?_
 cases h
 exact⟨t,R,(D.stp<|T5 o m d e g)⟩
theorem ni {p0:Sig}{a1 d}{p1:(List Int)}(n:Rd (Rp.int .i64) κ w 0 a1 d p1){r:Bool}(h:fw p0 p1=some r):Ret Tryz.prog 54 [.agg #[vi p0.In,vi p0.Out],.slice a1 p1.length d] w (Pvb κ w r):=by
 unfold fw at h
 refine Jk3 κ F54 R N54 R λo=>Je [1,2] R<|Js3 (κ:=κ) 2 R λv w1 a c m=>Tv<|Jb 1 R<|Jg3 [2,2,2,2,2,1,1,1,2,2] 1 R<|Jn3 R U37 R R<|Jn 2 R<|Ob h λt h p=>Jf4 [4] 13 t a w1 [(4,2),(5,1),(6,1),(7,1),(8,2)] [(9,2)] tv ?_ ?_
 revert h
 cases x:decide ((p1.length:Int)<=600)
 refine JF λh=>Jn 1 R<|Jz3 R<|Jz3 R<|Jz3 R<|Jn 1 R ?_
 cases h
 exact Jg4 tv R
 refine JT λh=>Jn 1 R<|Jb4 tv R (Jc4 (haE m.cells) I28 Z28 R)<|Ob h λF q h=>Jr3 R C60 (lE (κ:=Mk a) (p0:=p0) q) ?_
 rintro _ E ⟨z,rfl,k⟩
 obtain⟨e,b,A⟩:=Ji k 3 R
 refine Tv<|Ob h λG s h=>Jr3 R C61 (fW (κ:=Mk e) (Ji3<|n.stp<|c.tr b) s) ?_
 rintro _ C ⟨y,rfl,j⟩
 obtain⟨u,g,B⟩:=Ji j 5 R
 refine Tv<|Jn 1 R ?_
 cases h
 exact Jv1 _ tv ⟨R,_,(b.tr g).wk R⟩<|KM R
 rintro _ D _ ⟨rfl,f,i⟩
 have h:=p
 refine Jb 1 R<|Ju<|Ja2 (l:=[.tmp 4]) V54 (Jp2 R R) R ?_
 cases h
 exact⟨f,R,(o.stp<|c.tr i)⟩
end Go.Proofs.YtleekpaohfpooaaGreat
