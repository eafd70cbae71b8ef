/- The walks, part 4. By program. -/
import Derived.Test.YtleekpaohfpooaaGreatFns2FW
import Derived.Test.YtleekpaohfpooaaGreatFns3FW
set_option linter.unusedVariables false
set_option linter.unusedSimpArgs false
open Go.IntKind renaming wrap → cb
open Sum renaming inr → eg
open Int renaming toNat → n6
namespace Go.Proofs.YtleekpaohfpooaaGreat
open Go Go.Wk Go.Proofs
set_option maxRecDepth 100000
set_option maxHeartbeats 1000000
variable {w:World}{κ:Col}
theorem nJ {b c e d}{p0:Clause}{c0:Sig}{f}(n:Rd (Rp.int .i64) κ w 0 b c p0.A) (o:Rd (Rp.int .i64) κ w 0 e d p0.B) (p:Bc κ w 0 f 28 [vi c0.In,vi c0.Out]){r:Bool}(h:ec p0 c0=some r):Ret Tryz.prog 127 [.agg #[vi p0.Kind,.slice b p0.A.length c,.slice e p0.B.length d],.pointer (some ⟨f,0,none⟩)] w (Pvb κ w r):=by
 unfold ec at h
 refine Jk3 κ F127 R N127 R λhE=>Je [1,2] R<|Js3 (κ:=κ) 2 R λs w1 i a m=>Tv<|Jb 1 R<|Je [1,1,1,2,2] R<|Jb4 tv R (Jc4 (haE (p.stp a).cells) I28 Z28 R)<|Jb4 tv R (Jc4 (haE m.cells) I67 Z67 R)<|Ob h λx q h=>Jr3 R C128 (qj (κ:=Mk i) (p0:=c0) (p1:=p0) (Ji3<|n.stp a) (Ji3<|o.stp a) q) ?_
 rintro _ v ⟨t,rfl,k⟩
 obtain⟨g,j,u⟩:=Ji k 3 R
 refine Tv<|Jb 2 R<|Ju<|Ja2 (l:=[.tmp 3]) V127 (Jp2 R R) R ?_
 cases h
 exact⟨g,R,(hE.stp<|a.tr j)⟩
theorem mi {p0:Sig}{bG bz bv bF}{p1:Clause}(dn:Rd (Rp.int .i64) κ w 0 bG bz p1.A) (dp:Rd (Rp.int .i64) κ w 0 bv bF p1.B){r:Det}(h:jp p0 p1=some r):Ret Tryz.prog 105 [.agg #[vi p0.In,vi p0.Out],.agg #[vi p1.Kind,.slice bG p1.A.length bz,.slice bv p1.B.length bF]] w (λv w'=>∃(κ':Col) (bR:Option Addr) (bU:Nat) (bS:Option Addr) (bV:Nat),v= .agg #[.slice bR r.Next.length bU,.slice bS r.Pairs.length bV]/\Ent κ w κ' w'/\Oc (Ep.own E6 2) 37 κ' w' 2 bR bU r.Next/\Oc Pair.ep127 127 κ' w' 3 bS bV r.Pairs):=by
 unfold jp at h
 refine Jk3 κ F105 R N105 R λhE=>Je [1,1,1] R<|Js3 (κ:=κ) 2 R λdT w1 b7 aN c4=>Tv<|Js3 (κ:=b7) 3 R λdU eJ cg Z dh=>Tv<|Jt3 (κ:=cg) 4 R X71 R λdV eR b0 D cH=>Tv<|Jd<|Je3 R<|Je [2,1,1] R<|Jf R (Ji4 [.slice none 0 0,.slice none 0 0] R)<|Jt3 (κ:=b0) 5 R X127 R λO en V p cQ=>Tv<|Jh4 (κ:=V) 5 R Z127 R cQ R λdQ s x=>Tv<|Jd<|Jq<|Je [2,1] R<|Jd3 R U67 R Z2 ?_
 have bM:=dh.stp (T3 D p s)
 refine Jb3 R I2 (bM.ld 0 R R)<|Jd<|Jv<|Jq<|Je3 R<|Ob h λbO h dt=>Jo3 [2,3,4,5,6,13] (λE L w'=>∃κ',L=(17,.bool bO)::E/\Stp [] V dQ κ' w') ?_ ?_
 revert h
 cases d2:(p1.Kind==1)
 refine JF λh=>Jy R<|Jf3 R ?_
 cases h
 exact Jw1 _ ⟨V,R,Jj3⟩<|KM R
 refine JT λh=>Jx R<|Js ?_
 cases h
 exact Jw1 _ ⟨V,R,Jj3⟩<|KM R
 rintro _ U ⟨e,rfl,d⟩
 have h:=dt
 refine Jp<|Ob h λc h du=>Jo3 [2,3,4,6] (λE L w'=>∃κ' K H I J,L=(5,vi c.1)::E/\Stp [5] e U κ' w'/\Oc E6 2 κ' w' 6 K H c.2.1/\Oc E6 2 κ' w' 7 I J c.2.2/\Bc κ' w' 5 O 127 [.slice K c.2.1.length H,.slice I c.2.2.length J]) ?_ ?_
 revert h
 cases d3:bO
 refine JF λh=>Jy R<|Je3 R<|Ob h λP h dv=>Jo3 [2,3,4,6] (λE L w'=>∃κ' ac av ak aq,L=(5,vi P.1)::E/\Stp [5] e U κ' w'/\Oc E6 2 κ' w' 6 ac av P.2.1/\Oc E6 2 κ' w' 7 ak aq P.2.2/\Bc κ' w' 5 O 127 [.slice ac P.2.1.length av,.slice ak P.2.2.length aq]) ?_ ?_
 revert h
 cases d4:(p1.Kind==2)
 refine JF λh=>Jy R<|Je3 R<|Ob h λQ h dw=>Jo3 [2,3,4,6] (λE L w'=>∃κ' al au ag ab,L=(5,vi Q.1)::E/\Stp [5] e U κ' w'/\Oc E6 2 κ' w' 6 al au Q.2.1/\Oc E6 2 κ' w' 7 ag ab Q.2.2/\Bc κ' w' 5 O 127 [.slice al Q.2.1.length au,.slice ag Q.2.2.length ab]) ?_ ?_
 revert h
 cases d5:(p1.Kind==3)
 refine JF λh=>Jy R<|Je3 R<|Ob h λS h dx=>Jo3 [2,3,4,6] (λE L w'=>∃κ' am ae ad ao,L=(5,vi S.1)::E/\Stp [5] e U κ' w'/\Oc E6 2 κ' w' 6 am ae S.2.1/\Oc E6 2 κ' w' 7 ad ao S.2.2/\Bc κ' w' 5 O 127 [.slice am S.2.1.length ae,.slice ad S.2.2.length ao]) ?_ ?_
 revert h
 cases d6:(p1.Kind==4)
 refine JF λh=>Jy R<|Je3 R<|Ob h λT h dq=>Jo3 [2,3,4,6] (λE L w'=>∃κ' af aw ax ap,L=(5,vi T.1)::E/\Stp [5] e U κ' w'/\Oc E6 2 κ' w' 6 af aw T.2.1/\Oc E6 2 κ' w' 7 ax ap T.2.2/\Bc κ' w' 5 O 127 [.slice af T.2.1.length aw,.slice ax T.2.2.length ap]) ?_ ?_
 revert h
 cases d1:(p1.Kind==6)
 refine JF λh=>Jy R<|Je3 R<|Ja [1,1,2,1] R<|Jd4 (κ:=e) 6 [2,3] R Y37 a8 R λbE bw el b2 bg cI=>Tv<|Jd4 (κ:=b2) 7 [1,3] R Y37 a8 R λbH bx em a5 aG cJ=>Tv<|Jf R (Ji4 [.slice bE ([2,3]:List Int).length bw,.slice bH ([1,3]:List Int).length bx] R)<|Jh4 (κ:=a5) 5 R Z127 R (x.stp<|T3 d bg aG) R λeo aH cK=>Tv<|Jo ?_
 cases h
 exact Jw1 _ ⟨a5,bE,bw,bH,bx,R,(T3 bg aG aH).wk R,(cI.stp<|aG.tr aH),(cJ.stp aH),cK⟩<|KM R
 refine JT λh=>Jx R<|Ja [1,2,1] R<|Jd4 (κ:=e) 6 [0] R Y37 a8 R λaS aW ej a4 be cF=>Tv<|Jd3 R U127 R Z37<|Ju3 (κ:=a4) 5 (off:=0) (vc:=[.slice aS ([0]:List Int).length aW]) (cs':=[.slice aS ([0]:List Int).length aW,.slice none 0 0]) R Z37 R (x.stp<|d.tr be) R λek bf cG=>Tv<|Jo ?_
 cases h
 exact Jw1 _ ⟨a4,aS,aW,none,0,R,(be.tr bf).wk R,(cF.stp bf),Ow.nil,cG⟩<|KM R
 rintro _ ei ⟨b1,af,aw,ax,ap,rfl,cl,cC,cD,cE⟩
 have h:=dq
 cases h
 exact Jw1 _ ⟨b1,af,aw,ax,ap,R,cl.wk R,cC,cD,cE⟩<|KM R
 refine JT λh=>Jx R<|Ja [1,1,2,1] R<|Jd4 (κ:=e) 6 [0,1] R Y37 a8 R λbI bB eS ck bq dl=>Tv<|Jd4 (κ:=ck) 7 [1] R Y37 a8 R λbs bC eT bd aQ dm=>Tv<|Jf R (Ji4 [.slice bI ([0,1]:List Int).length bB,.slice bs ([1]:List Int).length bC] R)<|Jh4 (κ:=bd) 5 R Z127 R (x.stp<|T3 d bq aQ) R λeU aF cB=>Tv<|Jo ?_
 cases h
 exact Jw1 _ ⟨bd,bI,bB,bs,bC,R,(T3 bq aQ aF).wk R,(dl.stp<|aQ.tr aF),(dm.stp aF),cB⟩<|KM R
 rintro _ eQ ⟨cj,am,ae,ad,ao,rfl,cq,di,dj,dk⟩
 have h:=dx
 cases h
 exact Jw1 _ ⟨cj,am,ae,ad,ao,R,cq.wk R,di,dj,dk⟩<|KM R
 refine JT λh=>Jx R<|Ja [1,1,2,1] R<|Jd4 (κ:=e) 6 [1] R Y37 a8 R λbt br eN ci bp de=>Tv<|Jd4 (κ:=ci) 7 [0] R Y37 a8 R λbu bA eO bc aO df=>Tv<|Jf R (Ji4 [.slice bt ([1]:List Int).length br,.slice bu ([0]:List Int).length bA] R)<|Jh4 (κ:=bc) 5 R Z127 R (x.stp<|T3 d bp aO) R λeP aP dg=>Tv<|Jo ?_
 cases h
 exact Jw1 _ ⟨bc,bt,br,bu,bA,R,(T3 bp aO aP).wk R,(de.stp<|aO.tr aP),(df.stp aP),dg⟩<|KM R
 rintro _ eM ⟨ch,al,au,ag,ab,rfl,cp,db,dc,dd⟩
 have h:=dw
 cases h
 exact Jw1 _ ⟨ch,al,au,ag,ab,R,cp.wk R,db,dc,dd⟩<|KM R
 refine JT λh=>Jx R<|Je3 R<|Ja [1,2,1] R<|Jd4 (κ:=e) 6 [2] R Y37 a8 R λaU aT eK bb bn c9=>Tv<|Jd3 R U127 R Z37<|Ju3 (κ:=bb) 5 (off:=0) (vc:=[.slice aU ([2]:List Int).length aT]) (cs':=[.slice aU ([2]:List Int).length aT,.slice none 0 0]) R Z37 R (x.stp<|d.tr bn) R λeL bo da=>Tv<|Jo ?_
 cases h
 exact Jw1 _ ⟨bb,aU,aT,none,0,R,(bn.tr bo).wk R,(c9.stp bo),Ow.nil,da⟩<|KM R
 rintro _ eI ⟨cf,ac,av,ak,aq,rfl,cm,c6,c7,c8⟩
 have h:=dv
 cases h
 exact Jw1 _ ⟨cf,ac,av,ak,aq,R,cm.wk R,c6,c7,c8⟩<|KM R
 refine JT λh=>Jx R<|Ja [1,2,1] R<|Jd4 (κ:=e) 6 [1] R Y37 a8 R λaR aX eG ba bl c3=>Tv<|Jd3 R U127 R Z37<|Ju3 (κ:=ba) 5 (off:=0) (vc:=[.slice aR ([1]:List Int).length aX]) (cs':=[.slice aR ([1]:List Int).length aX,.slice none 0 0]) R Z37 R (x.stp<|d.tr bl) R λeH bm c5=>Tv<|Jo ?_
 cases h
 exact Jw1 _ ⟨ba,aR,aX,none,0,R,(bl.tr bm).wk R,(c3.stp bm),Ow.nil,c5⟩<|KM R
 rintro _ bY ⟨aD,K,H,I,J,rfl,u,c0,c1,c2⟩
 have h:=du
 refine Jz<|Jp<|Je [1,1,2,1,1] R<|Jb4 tv R (Jc4 (haE c2.cells) I127 Z127 R)<|Jw3 (κ:=aD) (E:=Pair.ep127) 8 [6,7] (parts:=[(0,.tmp 40)]) (cells:=[.slice K c.2.1.length H,.slice I c.2.2.length J]) (xs:=([(⟨c.2.1,c.2.2⟩:Pair)]:List Pair)) R Y69 cA R (Je4 ⟨[.slice K c.2.1.length H],[.slice I c.2.2.length J],Zl aD bY [6],Zl aD bY [7],R,Zl.sp (l1:=[6]) (l2:=[7]) R,Zl.sr (l1:=[6]) (l2:=[7]),⟨_,_,R,c0⟩,⟨_,_,R,c1⟩⟩) λM N ep b3 o cL=>Tv<|Jf R (Ji4 [.slice none 0 0,.slice M ([(⟨c.2.1,c.2.2⟩:Pair)]:List Pair).length N] R)<|Jt3 (κ:=b3) 9 R X71 R λbD eq W i cM=>Tv<|Jh4 (κ:=W) 9 R Z71 R cM R λbW j cN=>Tv<|Jd<|Jq<|Je3 R<|Ob h λ_ dE h=>?_
 have dy:=kN dE
 refine Ob h λbQ dC dr=>?_
 clear h
 refine Jo3 [4,7] (λE L w'=>∃κ',∃aA:(List<|List Int),∃az ar,L=E/\Stp [9,10,11,14] W bW κ' w'/\Oc (Ep.own E6 2) 37 κ' w' 10 az ar aA/\Bc κ' w' 9 bD 71 [.slice az aA.length ar,.slice M ([(⟨c.2.1,c.2.2⟩:Pair)]:List Pair).length N]/\bQ=eg aA) ?_ ?_
 refine Jv<|Jp3 [2,3,4,7,43] (λk E L w'=>∃κ' f,∃C:(List<|List Int),∃an ai,L=(44,vi f)::E/\Stp [9,10,11,14] W bW κ' w'/\Oc (Ep.own E6 2) 37 κ' w' 10 an ai C/\Bc κ' w' 9 bD 71 [.slice an C.length ai,.slice M ([(⟨c.2.1,c.2.2⟩:Pair)]:List Pair).length N]/\0<=f/\n6 (c.1-f)=k/\cntM (ef p0 p1) k f C=some bQ) ⟨_,_,⟨W,0,(([]:List (List Int)):(List<|List Int)),none,0,R,Jj3,Ow.nil,cN,(by decide),(by simp),dC⟩,(KM R)⟩ ?_
 rintro k _ es ⟨a7,f,C,an,ai,rfl,q,bJ,bK,dA,dZ,h⟩
 rcases k with _ | k
 have a0:=h;obtain⟨dO,h⟩:=cn (eg (Sum.inl C):Det⊕(((List (List Int)))⊕((List (List Int)))))
 have y:decide (f<c.1)=false:=Jo2 (by omega)
 refine Je3 R<|Jq<|Jw2 R y<|Jc1<|Jt<|Jt ?_
 cases h
 have h:=a0
 refine Jb1 ?_
 cases h
 exact Jw1 _ ⟨a7,C,an,ai,R,q.wk R,bJ,bK,R⟩<|KM R
 obtain⟨dO,h,a0⟩:=BI h;unfold ef at h
 have y:decide (f<c.1)=true:=Jn2 (by omega)
 refine Je3 R<|Jq<|Jv2 R y<|Js<|Jp<|Jq<|Jv<|Je3 R<|Je [1,2] R<|Jx3 (κ:=a7) (E:=E6) 11 R Y37 a8 R λcv ct et b4 m cR=>Tv<|Jb 1 R<|Jq<|Je [1,1,2] R<|Jb4 tv R (Jc4 (haE (c4.stp<|T11 Z D p s d u o i j q m).cells) I28 Z28 R)<|Ob h λa2 dI h=>Jr3 R C103 (ip (κ:=Mk b4) (p0:=p0) dI) ?_
 rintro _ bX ⟨d7,rfl,cw⟩
 obtain⟨aB,n,eb⟩:=Ji cw 12 R
 refine Tv<|Jb 1 R<|Ob h λ_ dF h=>?_
 have dz:=kN dF
 refine Ob h λbP dD ds=>?_
 clear h
 refine Jo3 [2,3,4,7,43,44] (λE L w'=>∃κ',∃B:(List Int),∃aj ah,L=(9,.slice aj B.length ah)::E/\Stp [11] aB bX κ' w'/\Oc E6 2 κ' w' 11 aj ah B/\bP=eg B) ?_ ?_
 refine Jv<|Jp3 [2,3,4,7,8,43,44,49] (λk E L w'=>∃κ' g,∃A:(List Int),∃ay aa,L=(9,.slice ay A.length aa)::(50,vi g)::E/\Stp [11] aB bX κ' w'/\Oc E6 2 κ' w' 11 ay aa A/\0<=g/\n6 (a2-g)=k/\cntM (eh p1 f) k g A=some bP) ⟨_,_,⟨aB,0,(([]:List Int):(List Int)),cv,ct,R,Jj3,(cR.stp n),(by decide),(by simp),dD⟩,(KM R)⟩ ?_
 rintro k _ ev ⟨aC,g,A,ay,aa,rfl,F,bL,dB,d0,h⟩
 rcases k with _ | k
 have a1:=h;obtain⟨dP,h⟩:=cn (eg (Sum.inl A):Det⊕(((List Int))⊕((List Int))))
 have z:decide (g<a2)=false:=Jo2 (by omega)
 refine Je3 R<|Jq<|Jw2 R z<|Jc1<|Jt<|Jt ?_
 cases h
 have h:=a1
 refine Jb1 ?_
 cases h
 exact Jw1 _ ⟨aC,A,ay,aa,R,F.wk R,bL,R⟩<|KM R
 obtain⟨dP,h,a1⟩:=BI h;unfold eh at h
 have z:decide (g<a2)=true:=Jn2 (by omega)
 refine Je3 R<|Jq<|Jv2 R z<|Js<|Jp<|Jq<|Jv<|Je3 R<|Js1 (κ:=aC) [3] none [(0,2),(1,2),(3,2),(4,2),(6,2),(8,2),(10,2),(2,0),(5,0),(9,0),(7,1),(11,1),(12,1),(13,1),(14,1),(15,2)] [] (by kernel_rfl) (by kernel_rfl) λew G=>Jn 1 R<|Jd3 R U67 R Z2<|Jn 1 R<|Jd3 R U67 R Z37<|Jn 1 R<|Jd3 R U67 R Z37<|Jn 1 R ?_
 have aZ:=bM.stp (T10 d u o i j q m n F G)
 refine Jg R (Jc2 I2 R R<|hvC (aZ.ld 0 R R) R)<|Jg R (Jc2 I37 R R<|hvC (aZ.ld 1 R R) R)<|Jg R (Jc2 I37 R R<|hvC (aZ.ld 2 R R) R)<|Ob h λeV dJ h=>Jr3 R C89 (cu (κ:=Mk aC) (Ji3<|dn.stp<|T15 aN Z D p s d u o i j q m n F G) dJ) ?_
 rintro _ ex ⟨d8,rfl,cx⟩
 obtain⟨b6,t,ec⟩:=Ji cx 14 R
 refine⟨(t.cl R),Ob h λeW dK h=>Jr3 R C89 (cu (κ:=Mk b6) (Ji3<|dp.stp<|T16 aN Z D p s d u o i j q m n F G t) dK) ?_⟩
 rintro _ ey ⟨d9,rfl,cy⟩
 obtain⟨b8,X,ed⟩:=Ji cy 16 R
 refine⟨((t.tr X).cl R),Ob h λdR dL h=>Jr3 R C171 (oh (κ:=Mk b8) dL) ?_⟩
 rintro _ ez ⟨ea,rfl,cz⟩
 obtain⟨b9,aK,ee⟩:=Ji cz 18 R
 have aE:=(T3 t X aK)
 refine⟨(aE.cl R),Jd4 (κ:=b9) 20 [dR] R Y37 a8 R λdY dW eA cc Y cT=>⟨((aE.tr Y).cl R),Ob h λdS dM h=>Jy3 (κ:=cc) (E:=E6) 11 [] R Y37 a8 R (bL.stp<|T5 G t X aK Y) (Sl.srcP (co _) cT.rdc) bZ dM R λcs cr eB cd bh cU=>⟨((T3 aE Y bh).cl R),Jn 1 R<|Jt1<|Jo<|Jz<|Jp<|Jf3 R ?_⟩⟩⟩
 have dH:cb .i64 (g+1)=g+1:=wr1 dB (Jm2 z) dz
 rw[dH]
 have z:=Jm2 z
 cases h
 exact Jz1 λa ha=>⟨k,_,Ja3 _,⟨cd,g+1,dS,cs,cr,R,(T7 F G t X aK Y bh).wk R,cU,by omega,by omega,a1⟩,(ha.mm R)⟩
 rintro _ eu ⟨b5,B,aj,ah,rfl,aJ,cS,rfl⟩
 have h:=yI ds
 refine Jp<|Ja [2,1,2,1,1,2,1] R<|Jd3 R U71 R Z31 ?_
 have bN:=bK.stp (T3 m n aJ)
 refine Jb3 R I31 (bN.ld 0 R R)<|Jn 1 R<|Jw3 (κ:=b5) (E:=(Ep.own E6 2)) 14 [11] (parts:=[(0,.tmp 71)]) (cells:=[.slice aj B.length ah]) (xs:=([B]:List (List Int))) R Y31 bT R (Je4 ⟨_,_,R,cS⟩) λdX bk eC ce aL cV=>Tv<|Ob h λa3 dN h=>Jy3 (κ:=ce) (E:=(Ep.own E6 2)) 10 [14] R Y31 bT R (bJ.stp<|T4 m n aJ aL) cV.src (cZ R) dN R λaV aY eD a9 bi cW=>Tv<|Jd3 R U71 R Z31<|Ju3 (κ:=a9) 9 (off:=0) (vc:=[.slice aV a3.length aY]) (cs':=[.slice aV a3.length aY,.slice M ([(⟨c.2.1,c.2.2⟩:Pair)]:List Pair).length N]) R Z31 R (bN.stp<|aL.tr bi) R λeE bj cX=>Tv<|Jo<|Jz<|Jp<|Jf3 R ?_
 have dG:cb .i64 (f+1)=f+1:=wr1 dA (Jm2 y) dy
 rw[dG]
 have y:=Jm2 y
 cases h
 exact Jz1 λa ha=>⟨k,_,Ja3 _,⟨a9,f+1,a3,aV,aY,R,(T7 q m n aJ aL bi bj).wk R,(cW.stp bj),cX,by omega,by omega,a0⟩,(ha.mm R)⟩
 rintro _ er ⟨a6,aA,az,ar,rfl,aI,cO,cP,rfl⟩
 have h:=yI dr
 refine Jp<|Je [1,1] R<|Jb4 tv R (Jc4 (haE cP.cells) I71 Z71 R)<|Jh4 (κ:=a6) 4 R Z71 R (cH.stp<|T8 p s d u o i j aI) R λeF aM cY=>Tv<|Jd<|Ju<|Ja2 (l:=[.cell 4 71]) V105 (ca R cY I71 Z71 R R) R ?_
 cases h
 exact⟨(λb=>ren [(10,2),(8,3)]<|a6 b),az,ar,M,N,R,((hE.stp<|T12 aN Z D p s d u o i j aI aM).map (ren [(10,2),(8,3)]) R R),((cO.stp aM).map (ren [(10,2),(8,3)]) R R),((cL.stp<|T4 i j aI aM).map (ren [(10,2),(8,3)]) R R)⟩
theorem rD {p0:Sig}{de dg c9 db}{p1:Machine}{dd c8 bk da}{p2:Det}(dB:Rd (Rp.sl (Rp.int .i64)) κ w 0 de dg p1.Next) (dC:Rd (Rp.sl (Rp.int .i64)) κ w 0 c9 db p1.Out) (dD:Rd (Rp.sl (Rp.int .i64)) κ w 0 dd c8 p2.Next) (cz:Rd Pair.rp κ w 0 bk da p2.Pairs){r:(Option watch)×Bool}(h:jQ p0 p1 p2=some r):Ret Tryz.prog 148 [.agg #[vi p0.In,vi p0.Out],.agg #[.slice de p1.Next.length dg,.slice c9 p1.Out.length db],.agg #[.slice dd p2.Next.length c8,.slice bk p2.Pairs.length da]] w (λv w'=>∃(κ':Col) (dT:Option Addr) (dX:Nat) (dU:Option Addr) (dY:Nat) (dV:Option Addr) (dZ:Nat) (dW:Nat),v= .tuple #[.pointer (bif r.1.isSome then some ⟨dW,0,none⟩ else none),.bool r.2]/\Ent κ w κ' w'/\Oc (Ep.own E6 2) 37 κ' w' 2 dT dX ((r.1.getD (⟨([]:List (List Int)),([]:List (List Int)),([]:List Pair)⟩:watch)).next)/\Oc (Ep.own E6 2) 37 κ' w' 3 dU dY ((r.1.getD (⟨([]:List (List Int)),([]:List (List Int)),([]:List Pair)⟩:watch)).letters)/\Oc Pair.ep127 127 κ' w' 4 dV dZ ((r.1.getD (⟨([]:List (List Int)),([]:List (List Int)),([]:List Pair)⟩:watch)).pairs)/\(r.1.isSome=true->Bc κ' w' 5 dW 172 [.slice dT ((r.1.getD (⟨([]:List (List Int)),([]:List (List Int)),([]:List Pair)⟩:watch)).next).length dX,.slice dU ((r.1.getD (⟨([]:List (List Int)),([]:List (List Int)),([]:List Pair)⟩:watch)).letters).length dY,.slice dV ((r.1.getD (⟨([]:List (List Int)),([]:List (List Int)),([]:List Pair)⟩:watch)).pairs).length dZ])):=by
 unfold jQ at h
 refine Jk3 κ F148 R N148 R λhE=>Je [1,1,1,2,2] R<|Js3 (κ:=κ) 2 R λg5 w1 em an fK=>Tv<|Js3 (κ:=em) 3 R λg6 iz ez Y fR=>Tv<|Js3 (κ:=ez) 4 R λg7 d6 bB P di=>Tv<|Jb 2 R<|Je [2,1,2] R<|Jf R (Ji4 [vi 0,vi 0] R)<|Jw3 (κ:=bB) (E:=(Ep.pair E6 E6)) 5 [] (parts:=[(0,.tmp 27)]) (cells:=[vi 0,vi 0]) (xs:=([(0,0)]:List (Int×Int))) R Y123 gR R (Je4 ⟨[vi 0],[vi 0],Zl bB d6 [],Zl bB d6 [],R,Zl.sp (l1:=[]) (l2:=[]) R,Zl.sr (l1:=[]) (l2:=[]),R,R⟩) λeG eK hI ed D eZ=>Tv<|Jb 1 R<|Je [1,2,1,2,2] R<|WO.mkmap (κ:=ed) 6 R R R R R kwI2 kvI2 (λv:Int=>vi v) λaV hQ cL x e8=>Tv<|Jf R (Ji4 [vi 0,vi 0] R)<|Ob h λgW gC h=>WO.mapin (κ:=cL) (kf:=kvI2) (vf:=(λv:Int=>vi v)) (v:=0) 6 R R R R R R R ub U124 e8 gC λhZ y ff=>Tv<|Jb 2 R<|Je [2,1,2] R<|Jf R (Ji4 [.slice none 0 0,.slice none 0 0,.slice none 0 0] R)<|Js3 (κ:=cL) 7 R λaA d1 bF q fm=>Tv<|Jb 1 R<|Jq<|Je3 R<|Ob h λdQ gj dE=>?_
 clear h
 refine Jo3 [5,10] (λE L w'=>∃(κ':Col) (e:(List<|Int×Int)×Int×(List<|List Int)×(List<|List Int)×(List ((Int×Int)×Int))) (ci:Option Addr) (cl:Nat) (ac:Option Addr) (ag:Nat) (Z:Option Addr) (aa:Nat),L=(8,.slice ci e.1.length cl)::E/\Stp [5,6,7,8,9,10,11,12,13,14] bF d1 κ' w'/\Oc (Ep.pair E6 E6) 120 κ' w' 5 ci cl e.1/\Oc (Ep.own E6 2) 37 κ' w' 8 ac ag e.2.2.1/\Oc (Ep.own E6 2) 37 κ' w' 9 Z aa e.2.2.2.1/\Mc kwI2 kvI2 (λv:Int=>vi v) κ' w' 6 aV e.2.2.2.2/\Bc κ' w' 7 aA 172 [.slice ac e.2.2.1.length ag,.slice Z e.2.2.2.1.length aa,.slice none 0 0]/\dQ=eg e) ?_ ?_
 refine Jv<|Jp3 [3,4,5,9,10] (λk E L w'=>∃(κ':Col) (c:(List<|Int×Int)×Int×(List<|List Int)×(List<|List Int)×(List ((Int×Int)×Int))) (aJ:Option Addr) (aN:Nat) (bc:Option Addr) (bm:Nat) (af:Option Addr) (ad:Nat),L=(8,.slice aJ c.1.length aN)::(11,vi c.2.1)::E/\Stp [5,6,7,8,9,10,11,12,13,14] bF d1 κ' w'/\Oc (Ep.pair E6 E6) 120 κ' w' 5 aJ aN c.1/\Oc (Ep.own E6 2) 37 κ' w' 8 bc bm c.2.2.1/\Oc (Ep.own E6 2) 37 κ' w' 9 af ad c.2.2.2.1/\Mc kwI2 kvI2 (λv:Int=>vi v) κ' w' 6 aV c.2.2.2.2/\Bc κ' w' 7 aA 172 [.slice bc c.2.2.1.length bm,.slice af c.2.2.2.1.length ad,.slice none 0 0]/\bU (fZ p0 p1 p2) k c=some dQ) ⟨_,_,⟨bF,((([(0,0)]:List (Int×Int)):(List<|Int×Int)),(0:Int),(([]:List (List Int)):(List<|List Int)),(([]:List (List Int)):(List<|List Int)),gW),eG,eK,none,0,none,0,R,Jj3,(eZ.stp<|T3 x y q),Ow.nil,Ow.nil,(ff.stp q),fm,gj⟩,(KM R)⟩ ?_
 rintro k _ ix ⟨bN,c,aJ,aN,bc,bm,af,ad,rfl,M,bu,bv,bw,dt,du,h⟩
 rcases k with _ | k
 cases h
 obtain⟨hy,h,cD⟩:=BI h;unfold fZ at h
 refine Jq<|Jg3 [2,2,2,2] 2 R<|Jn3 R U123 R R<|Jb 1 R ?_
 revert h
 cases hr:decide (c.2.1<(c.1.length:Int))
 refine JF λh=>Jy R<|Jc1<|Jt<|Jt ?_
 cases h
 have h:=cD
 refine Jb1 ?_
 cases h
 exact Jw1 _ ⟨bN,(c.1,c.2.1,c.2.2.1,c.2.2.2.1,c.2.2.2.2),aJ,aN,bc,bm,af,ad,R,M.wk R,bu,bv,bw,dt,du,R⟩<|KM R
 refine JT λh=>Jx R<|Js<|Jp<|Jq<|Jv<|Jq<|Js1 (κ:=bN) [0,5] none [(0,2),(1,2),(2,2),(3,2),(5,2),(6,2),(7,2),(8,2),(4,0),(10,2),(9,0),(11,2)] [] (by kernel_rfl) (by kernel_rfl) λiA j=>Jn 2 R<|Ob h λgQ dH h=>Jc3 R bu.rdc dH U123 Z120<|Jf R (iZ U120 Z2 R R R R)<|Jn 2 R<|Ob h λgS dI h=>Jc3 R bu.rdc dI U123 Z120<|Jf R (iZ U120 Z2 R R R R) ?_
 have cv:=bu.stp j
 obtain⟨hh,gn,ge⟩:=(cv.rdc).gSt dH
 obtain⟨_,_,rfl,rfl,rfl⟩:=gn
 refine Jg R (Jc2 I2 R R<|hvC (λw' cF=>ge w' cF 0 _ R) R)<|Jn 1 R ?_
 obtain⟨hi,go,gg⟩:=(cv.rdc).gSt dI
 obtain⟨_,_,rfl,rfl,rfl⟩:=go
 refine Jg R (Jc2 I2 R R<|hvC (λw' cF=>gg w' cF 1 _ R) R)<|Jn 1 R<|Jt1<|Jd<|Je [1,1,2,2] R<|Jx3 (κ:=bN) (E:=E6) 10 R Y37 a8 R λeM bt iB ey m fN=>Tv<|Jx3 (κ:=ey) (E:=E6) 11 R Y37 a8 R λeD eL d5 bP g fO=>Tv<|Jb 2 R<|Jq<|Je [2,1,2,2,1,2,2] R<|Jd3 R U33 R Z31 ?_
 have dv:=fR.stp (T9 P D x y q M j m g)
 refine Jb3 R I31 (dv.ld 0 R R)<|Jn 1 R<|Ob h λaX dJ h=>Jc3 R dB dJ U31 Z37 ?_
 obtain⟨gZ,hB,cw,f8⟩:=(dB.stp (T11 an Y P D x y q M j m g)).gSl dJ
 refine Jb3 R I37 f8<|Jn3 R U37 R R<|Jb 1 R ?_
 have f3:(aX.length:Int)<=9223372036854775807:=cw.len_le
 refine Ob h λdR gk f0=>?_
 clear h
 refine Jo3 [3,4,5,9,10,11] (λE L w'=>∃(κ':Col) (d:(List<|Int×Int)×(List Int)×(List Int)×(List ((Int×Int)×Int))) (bn:Option Addr) (bd:Nat) (aO:Option Addr) (aM:Nat) (az:Option Addr) (ay:Nat),L=(8,.slice bn d.1.length bd)::(14,.slice aO d.2.1.length aM)::(15,.slice az d.2.2.1.length ay)::E/\Stp [5,6,10,11,14] bP d5 κ' w'/\Oc (Ep.pair E6 E6) 120 κ' w' 5 bn bd d.1/\Oc E6 2 κ' w' 10 aO aM d.2.1/\Oc E6 2 κ' w' 11 az ay d.2.2.1/\Mc kwI2 kvI2 (λv:Int=>vi v) κ' w' 6 aV d.2.2.2/\dR=eg d) ?_ ?_
 refine Jv<|Jp3 [3,4,5,9,10,11,12,13,56,57] (λk E L w'=>∃(κ':Col) (C:Int) (i:(List<|Int×Int)×(List Int)×(List Int)×(List ((Int×Int)×Int))) (aQ:Option Addr) (aK:Nat) (bg:Option Addr) (bb:Nat) (bl:Option Addr) (bq:Nat),L=(8,.slice aQ i.1.length aK)::(14,.slice bg i.2.1.length bb)::(15,.slice bl i.2.2.1.length bq)::(58,vi C)::E/\Stp [5,6,10,11,14] bP d5 κ' w'/\Oc (Ep.pair E6 E6) 120 κ' w' 5 aQ aK i.1/\Oc E6 2 κ' w' 10 bg bb i.2.1/\Oc E6 2 κ' w' 11 bl bq i.2.2.1/\Mc kwI2 kvI2 (λv:Int=>vi v) κ' w' 6 aV i.2.2.2/\0<=C/\n6 ((aX.length:Int)-C)=k/\cntM (ga p0 p1 p2 gQ gS aX) k C i=some dR) ⟨_,_,⟨bP,0,(c.1,(([]:List Int):(List Int)),(([]:List Int):(List Int)),c.2.2.2.2),aJ,aN,eM,bt,eD,eL,R,Jj3,(cv.stp<|m.tr g),(fN.stp g),fO,(dt.stp<|T3 j m g),(by decide),(by simp),gk⟩,(KM R)⟩ ?_
 rintro k _ iC ⟨bR,C,i,aQ,aK,bg,bb,bl,bq,rfl,T,cy,dx,dy,dz,f6,hm,h⟩
 rcases k with _ | k
 have cE:=h;obtain⟨gG,h⟩:=cn (eg (Sum.inl i):((Option watch)×Bool)⊕(((List (Int×Int))×(List Int)×(List Int)×(List ((Int×Int)×Int)))⊕((List (Int×Int))×(List Int)×(List Int)×(List ((Int×Int)×Int)))))
 have aD:decide (C<(aX.length:Int))=false:=Jo2 (by omega)
 refine Je3 R<|Jq<|Jw2 R aD<|Jc1<|Jt<|Jt ?_
 cases h
 have h:=cE
 refine Jb1 ?_
 cases h
 exact Jw1 _ ⟨bR,(i.1,i.2.1,i.2.2.1,i.2.2.2),aQ,aK,bg,bb,bl,bq,R,T.wk R,cy,dx,dy,dz,R⟩<|KM R
 obtain⟨gG,h,cE⟩:=BI h;unfold ga at h
 have aD:decide (C<(aX.length:Int))=true:=Jn2 (by omega)
 refine Je3 R<|Jq<|Jv2 R aD<|Js<|Jp<|Jq<|Jv<|Jg3 [2,2,1,2,2] 1 R<|Ob h λbz dK h=>Jc3 R cw dK U37 Z2<|Jb3 R I2 ((cw.stp T).gInt dK)<|Jb 2 R<|Jq<|Js1 (κ:=bR) [0,2,3] none [(0,2),(2,2),(5,2),(11,2),(1,0),(3,2),(4,0),(6,2),(7,0),(8,0),(9,1),(10,2),(12,2),(13,2)] [] (by kernel_rfl) (by kernel_rfl) λiD F=>Jd3 R U33 R Z31<|Jn 3 R<|Jg R (Jc2 I31 R R<|hvC ((dv.stp<|T.tr F).ld 1 R R) R)<|Ob h λiG dL h=>Jc3 R dC dL U31 Z37 ?_
 obtain⟨g0,hC,dA,f9⟩:=(dC.stp (T13 an Y P D x y q M j m g T F)).gSl dL
 refine Jg R (Jc2 I37 R R<|hvC f9 R)<|Ob h λgT dM h=>Jc3 R dA dM U37 Z2<|Jg R (Jc2 I2 R R<|hvC (dA.gInt dM) R)<|Jg R (Jc4 (haC (fK.stp<|T12 Y P D x y q M j m g T F).cells R) I28 Z28 R)<|Ob h λgU gA h=>Jr3 R C46 (mZ (κ:=Mk bR) (p0:=p0) gA) ?_
 rintro _ hF ⟨hs,rfl,eN⟩
 obtain⟨d9,O,hv⟩:=Ji eN 12 R
 refine⟨(O.cl R),Jn 3 R<|Jt1<|Jd<|Jg3 [2,2,1,2,2,1,2,2,1,2,1,1] 1 R<|Jd3 R U71 R Z31<|Jb3 R I31 ((di.stp<|T11 D x y q M j m g T F O).ld 0 R R)<|Jn 1 R<|Ob h λiH dN h=>Jc3 R dD dN U31 Z37 ?_⟩
 obtain⟨g1,hD,dh,f7⟩:=(dD.stp (T14 an Y P D x y q M j m g T F O)).gSl dN
 refine Jb3 R I37 f7<|Jn 1 R<|Ob h λbA dO h=>Jc3 R dh dO U37 Z2<|Jb3 R I2 (dh.gInt dO)<|Jf R (Ji4 [vi bz,vi bA] R)<|Jt3 (κ:=d9) 14 R X120 R λg2 hG U aG eQ=>Tv<|Jh4 (κ:=U) 14 R Z120 R eQ R λgH aH cm=>Tv<|Jd<|Jg3 [2,1,1,2,2,2,2,2] 1 R<|Jb4 tv R (Jc4 (haE cm.cells) I120 Z120 R) ?_
 have cp:=dz.stp (T4 F O aG aH)
 refine Ob h λgV gB h=>Jb4 tv R (vT (kf:=kvI2) (vf:=(λv:Int=>vi v)) ub U124 X2 R R R (mvE cp) gB)<|Jb 5 R<|Jq<|Je3 R<|Ob h λah h fU=>Jo3 [3,4,5,9,10,11,12,13,14,15,18,56,57,58] (λE L w'=>∃κ' bf bj,L=(8,.slice bf ah.1.length bj)::(20,vi ah.2.1)::E/\Stp [5,6] U gH κ' w'/\Oc (Ep.pair E6 E6) 120 κ' w' 5 bf bj ah.1/\Mc kwI2 kvI2 (λv:Int=>vi v) κ' w' 6 aV ah.2.2) ?_ ?_
 revert h
 cases hn:(!gV.2)
 refine JF λh=>Jy R<|Js ?_
 cases h
 exact Jw1 _ ⟨U,aQ,aK,R,Jj3,(cy.stp<|T4 F O aG aH),cp⟩<|KM R
 refine JT λh=>Jx R<|Jg3 [2,2,2] 1 R<|Jn3 R U123 R R<|Jb 1 R<|Jg3 [2,1,2,1] 1 R<|Jb4 tv R (Jc4 (haE cm.cells) I120 Z120 R)<|Jn 1 R<|Ob h λiI gD h=>WO.mapup (κ:=U) (kf:=kvI2) (vf:=(λv:Int=>vi v)) (v:=(i.1.length:Int)) 6 R R R R R R R ub U124 cp gD λd0 bS eT=>Tv<|Jd<|Jh3 [2,1,1,1,2] 1 R<|Jb4 tv R (Jc4 (haE (cm.stp bS).cells) I120 Z120 R)<|Jw3 (κ:=U) (E:=(Ep.pair E6 E6)) 15 [] (parts:=[(0,.tmp 100)]) (cells:=[vi bz,vi bA]) (xs:=([(bz,bA)]:List (Int×Int))) R Y123 gR R (Je4 ⟨[vi bz],[vi bA],Zl U d0 [],Zl U d0 [],R,Zl.sp (l1:=[]) (l2:=[]) R,Zl.sr (l1:=[]) (l2:=[]),R,R⟩) λbJ g9 hJ eb bV eU=>Tv<|Ob h λiE gs h=>Jy3 (κ:=eb) (E:=(Ep.pair E6 E6)) 5 [] R Y123 gR R (cy.stp<|T6 F O aG aH bS bV) (Sl.srcP (vk (co _)<|co _) eU.rdc) bZ gs R λeI eE hK ec c1 eV=>Tv<|Jc 1 R ?_
 cases h
 exact Jw1 _ ⟨ec,eI,eE,R,(T3 bS bV c1).wk R,eV,(eT.stp<|bV.tr c1)⟩<|KM R
 rintro _ hH ⟨ea,bf,bj,rfl,c0,eR,eS⟩
 have h:=fU
 have cT:=(T5 F O aG aH c0)
 refine Jp<|Jh3 [2,2,1,1,2,2,1,1,2,2] 2 R<|Jd4 (κ:=ea) 15 [ah.2.1] R Y37 a8 R λbH hc hL ee a0 eW=>Tv<|Ob h λgL gt h=>Jy3 (κ:=ee) (E:=E6) 10 [] R Y37 a8 R (dx.stp<|cT.tr a0) (Sl.srcP (co _) eW.rdc) bZ gt R λeF eC hM ef bW eX=>Tv<|Jn 2 R<|Jd4 (κ:=ef) 16 [(IntKind.i64.wrap ((IntKind.i64.wrap<|gT * gU)+C))] R Y37 a8 R λbQ g8 hN eh a1 eY=>Tv<|Ob h λgM gu h=>Jy3 (κ:=eh) (E:=E6) 11 [] R Y37 a8 R (dy.stp<|T4 cT a0 bW a1) (Sl.srcP (co _) eY.rdc) bZ gu R λeA eB hO ei bX e0=>Tv<|Jc 2 R<|Jz<|Jp<|Jf3 R ?_
 have gr:cb .i64 (C+1)=C+1:=wr1 f6 (Jm2 aD) f3
 rw[gr]
 have aD:=Jm2 aD
 cases h
 have cU:=(T4 a0 bW a1 bX)
 exact Jz1 λa ha=>⟨k,_,Ja3 _,⟨ei,C+1,(ah.1,gL,gM,ah.2.2),bf,bj,eF,eC,eA,eB,R,(T10 T F O aG aH c0 a0 bW a1 bX).wk R,(eR.stp cU),(eX.stp<|a1.tr bX),e0,(eS.stp cU),by omega,by omega,cE⟩,(ha.mm R)⟩
 rintro _ gK ⟨aF,d,bn,bd,aO,aM,az,ay,rfl,av,fP,dw,cx,fQ,rfl⟩
 have h:=yI f0
 refine Jp<|Jq<|Jg3 [2,2,2] 1 R<|Jn3 R U123 R R<|Jb 1 R ?_
 revert h
 cases ho:decide (256<(d.1.length:Int))
 refine JF λh=>Jy R<|Js<|Jp<|Ob h λu cG h=>Ob h λN cH h=>Jo3 [3,4,5,8,9,10,11] (λE L w'=>∃κ' bh a7 bi be,L=E/\Stp [7,8,9,10,11,12,13] aF gK κ' w'/\Oc (Ep.own E6 2) 37 κ' w' 12 bh a7 u/\Oc (Ep.own E6 2) 37 κ' w' 13 bi be N/\Bc κ' w' 7 aA 172 [.slice bh u.length a7,.slice bi N.length be,.slice none 0 0]) ?_ ?_
 refine WC.rxt (κ:=aF) [7] (some 18) (by kernel_rfl) λhR p=>Jq1 (fuel:=10) [(0,2),(1,2),(2,2),(3,2),(4,2),(6,2),(9,2),(10,2),(11,2),(13,2),(5,0),(12,0)] (by kernel_rfl) (by kernel_rfl) R<|Jn 3 R<|Jf R (bY R R)<|Jd3 R U172 R Z31<|Jn 2 R<|Jf R (bY R R)<|Jd3 R U172 R Z31<|Jn 1 R ?_
 have aU:=du.stp (T5 j m g av p)
 refine Jg R (Jc2 I31 R R<|hvC (aU.ld 0 R R) R)<|Jg R (Jc2 I31 R R<|hvC (aU.ld 1 R R) R)<|Jp1<|WA.fork2 (fuel:=9) 7 14 (by kernel_rfl) R ?_ ?_
 refine Jw3 (κ:=aF) (E:=(Ep.own E6 2)) 12 [10] (parts:=[(0,.tmp 121)]) (cells:=[.slice aO d.2.1.length aM]) (xs:=([d.2.1]:List (List Int))) R Y31 bT R (Je4 ⟨_,_,R,(dw.stp p)⟩) λeJ eH hS cK f dj=>⟨(f.cl R),Jp1<|WA.fork2 (fuel:=8) 8 14 (by kernel_rfl) R ?_ ?_⟩
 have cV:=(T6 j m g av p f)
 exact Jy3 (κ:=cK) (E:=(Ep.own E6 2)) 8 [12] R Y31 bT R (bv.stp cV) dj.src (cZ R) cG R λo n hT ek V e4=>⟨((f.tr V).cl R),Jp1<|Jq1 (fuel:=4) [(14,1),(15,1),(16,2),(17,2)] (by kernel_rfl) (by kernel_rfl) R<|Jw3 (κ:=ek) (E:=(Ep.own E6 2)) 13 [11] (parts:=[(0,.tmp 128)]) (cells:=[.slice az d.2.2.1.length ay]) (xs:=([d.2.2.1]:List (List Int))) R Y31 bT R (Je4 ⟨_,_,R,(cx.stp<|T3 p f V)⟩) λdf dc hU el ai e5=>⟨((T3 f V ai).cl R),Jy3 (κ:=el) (E:=(Ep.own E6 2)) 9 [13] R Y31 bT R (bw.stp<|T3 cV V ai) e5.src (cZ R) cH R λA z hV bC a2 e6=>⟨((T4 f V ai a2).cl R),Jf R (bY R R)<|Jd3 R U172 R Z31<|Jp1<|WA.brk (fuel:=3) 18 (by kernel_rfl) R (by kernel_rfl)<|Ju3 (κ:=bC) 7 (off:=0) (vc:=[.slice o u.length n]) (cs':=[.slice o u.length n,.slice af c.2.2.2.1.length ad,.slice none 0 0]) R Z31 R (aU.stp<|T4 f V ai a2) R λhW b1 e7=>Tv<|Jp1<|Jq1 (fuel:=0) [(19,2),(20,2),(21,1)] (by kernel_rfl) (by kernel_rfl) R<|Jf R (bY R R)<|Jd3 R U172 R Z31<|Ju3 (κ:=bC) 7 (off:=1) (vc:=[.slice A N.length z]) (cs':=[.slice o u.length n,.slice A N.length z,.slice none 0 0]) R Z31 R e7 R λhX b2 e9=>Tv<|Jp1<|Jr1 [] (by kernel_rfl) (by kernel_rfl) R<|Jo<|Jw1 _ ⟨(λb=>ren [(8,12),(9,13)]<|bC b),o,n,A,z,R,(Jy2 ((T7 p f V ai a2 b1 b2).wk R) [(8,12),(9,13)] R),((e4.stp<|T4 ai a2 b1 b2).map (ren [(8,12),(9,13)]) R R),((e6.stp<|b1.tr b2).map (ren [(8,12),(9,13)]) R R),(e9.map (ren [(8,12),(9,13)]) R R)⟩<|KM R⟩⟩⟩
 have cW:=(T6 j m g av p f)
 exact Jw3 (κ:=cK) (E:=(Ep.own E6 2)) 13 [11] (parts:=[(0,.tmp 128)]) (cells:=[.slice az d.2.2.1.length ay]) (xs:=([d.2.2.1]:List (List Int))) R Y31 bT R (Je4 ⟨_,_,R,(cx.stp<|p.tr f)⟩) λdf dc hY en Q fa=>⟨((f.tr Q).cl R),Jp1<|Jq1 (fuel:=4) [(8,1),(15,1),(16,2),(17,2)] (by kernel_rfl) (by kernel_rfl) R<|Jm1 (κ:=en) (E:=(Ep.own E6 2)) 8 [12] R R R R R R R R R Y31 bT R R R R (bv.stp<|cW.tr Q) (dj.stp Q).src (cZ R) cG R λo n h0 eo aj fb=>⟨((T3 f Q aj).cl R),Jm1 (κ:=eo) (E:=(Ep.own E6 2)) 9 [13] R R R R R R R R R Y31 bT R R R R (bw.stp<|T3 cW Q aj) (fa.stp aj).src (cZ R) cH R λA z h1 bD a3 fc=>⟨((T4 f Q aj a3).cl R),Jf R (bY R R)<|Jd3 R U172 R Z31<|Jp1<|WA.brk (fuel:=3) 18 (by kernel_rfl) R (by kernel_rfl)<|Ju3 (κ:=bD) 7 (off:=0) (vc:=[.slice o u.length n]) (cs':=[.slice o u.length n,.slice af c.2.2.2.1.length ad,.slice none 0 0]) R Z31 R (aU.stp<|T4 f Q aj a3) R λh2 b3 fd=>Tv<|Jp1<|Jq1 (fuel:=0) [(19,2),(20,2),(21,1)] (by kernel_rfl) (by kernel_rfl) R<|Jf R (bY R R)<|Jd3 R U172 R Z31<|Ju3 (κ:=bD) 7 (off:=1) (vc:=[.slice A N.length z]) (cs':=[.slice o u.length n,.slice A N.length z,.slice none 0 0]) R Z31 R fd R λh3 b4 fe=>Tv<|Jp1<|Jr1 [] (by kernel_rfl) (by kernel_rfl) R<|Jo<|Jw1 _ ⟨(λb=>ren [(8,12),(9,13)]<|bD b),o,n,A,z,R,(Jy2 ((T7 p f Q aj a3 b3 b4).wk R) [(8,12),(9,13)] R),((fb.stp<|T3 a3 b3 b4).map (ren [(8,12),(9,13)]) R R),((fc.stp<|b3.tr b4).map (ren [(8,12),(9,13)]) R R),(fe.map (ren [(8,12),(9,13)]) R R)⟩<|KM R⟩⟩⟩
 have cX:=(T5 j m g av p)
 exact Jw3 (κ:=aF) (E:=(Ep.own E6 2)) 12 [11] (parts:=[(0,.tmp 128)]) (cells:=[.slice az d.2.2.1.length ay]) (xs:=([d.2.2.1]:List (List Int))) R Y31 bT R (Je4 ⟨_,_,R,(cx.stp p)⟩) λdf dc h4 ep H fg=>⟨(H.cl R),Jp1<|Jq1 (fuel:=4) [(7,1),(8,1),(15,1),(16,2),(17,2)] (by kernel_rfl) (by kernel_rfl) R<|Jw3 (κ:=ep) (E:=(Ep.own E6 2)) 13 [10] (parts:=[(0,.tmp 121)]) (cells:=[.slice aO d.2.1.length aM]) (xs:=([d.2.1]:List (List Int))) R Y31 bT R (Je4 ⟨_,_,R,(dw.stp<|p.tr H)⟩) λeJ eH h5 eq S fh=>⟨((H.tr S).cl R),Jy3 (κ:=eq) (E:=(Ep.own E6 2)) 8 [13] R Y31 bT R (bv.stp<|T3 cX H S) fh.src (cZ R) cG R λo n h6 er ak fi=>⟨((T3 H S ak).cl R),Jm1 (κ:=er) (E:=(Ep.own E6 2)) 9 [12] R R R R R R R R R Y31 bT R R R R (bw.stp<|T4 cX H S ak) (fg.stp<|S.tr ak).src (cZ R) cH R λA z h7 bE a4 fj=>⟨((T4 H S ak a4).cl R),Jf R (bY R R)<|Jd3 R U172 R Z31<|Jp1<|WA.brk (fuel:=3) 18 (by kernel_rfl) R (by kernel_rfl)<|Ju3 (κ:=bE) 7 (off:=0) (vc:=[.slice o u.length n]) (cs':=[.slice o u.length n,.slice af c.2.2.2.1.length ad,.slice none 0 0]) R Z31 R (aU.stp<|T4 H S ak a4) R λh8 b5 fk=>Tv<|Jp1<|Jq1 (fuel:=0) [(19,2),(20,2),(21,1)] (by kernel_rfl) (by kernel_rfl) R<|Jf R (bY R R)<|Jd3 R U172 R Z31<|Ju3 (κ:=bE) 7 (off:=1) (vc:=[.slice A N.length z]) (cs':=[.slice o u.length n,.slice A N.length z,.slice none 0 0]) R Z31 R fk R λh9 b6 fl=>Tv<|Jp1<|Jr1 [] (by kernel_rfl) (by kernel_rfl) R<|Jo<|Jw1 _ ⟨(λb=>ren [(8,12),(9,13)]<|bE b),o,n,A,z,R,(Jy2 ((T7 p H S ak a4 b5 b6).wk R) [(8,12),(9,13)] R),((fi.stp<|T3 a4 b5 b6).map (ren [(8,12),(9,13)]) R R),((fj.stp<|b5.tr b6).map (ren [(8,12),(9,13)]) R R),(fl.map (ren [(8,12),(9,13)]) R R)⟩<|KM R⟩⟩⟩⟩
 rintro _ hP ⟨ej,bh,a7,bi,be,rfl,b0,e1,e2,e3⟩
 refine Jz<|Jp<|Jf3 R ?_
 cases h
 exact Jz1 λa ha=>⟨k,_,Ja3 _,⟨(λb=>ren [(12,8),(13,9)]<|ej b),(d.1,((IntKind.i64.wrap<|c.2.1+1):Int),u,N,d.2.2.2),bn,bd,bh,a7,bi,be,R,(Jy2 ((T6 M j m g av b0).wk R) [(12,8),(13,9)] R),((fP.stp b0).map (ren [(12,8),(13,9)]) R R),(e1.map (ren [(12,8),(13,9)]) R R),(e2.map (ren [(12,8),(13,9)]) R R),((fQ.stp b0).map (ren [(12,8),(13,9)]) R R),(e3.map (ren [(12,8),(13,9)]) R R),cD⟩,(ha.mm R)⟩
 refine JT λh=>Jx R<|Je3 R<|Ju<|Jw<|Ja1<|Jw<|Jw ?_
 cases h
 obtain rfl:=Option.some.inj cD
 have h:=yL dE
 refine Ja1<|Jq2<|Jw<|Ja2 (l:=[.tmp 6,.tmp 7]) V148 (Jp2 R<|Jp2 R R) R ?_
 cases h
 exact⟨aF,none,0,none,0,none,0,0,R,(hE.stp<|T12 an Y P D x y q M j m g av),Ow.nil,Ow.nil,Ow.nil,(λh=>absurd h Bool.false_ne_true)⟩
 rintro _ d3 ⟨bG,e,ci,cl,ac,ag,Z,aa,rfl,b9,ct,fB,fC,hj,fI,rfl⟩
 have h:=yI dE
 refine Jp<|Jq<|Je [2,1,2,2] R<|Jd3 R U71 R Z69<|Jb3 R I69 ((di.stp<|T5 D x y q b9).ld 1 R R)<|Jn3 R U69 R R<|Jb 1 R ?_
 have f1:(p2.Pairs.length:Int)<=9223372036854775807:=cz.len_le
 refine Ob h λdS gh fV=>?_
 clear h
 refine Jo3 [10] (λE L w'=>∃κ',∃bx:(List Pair),∃a9 ba,L=E/\Stp [7,10,11,12,13,14,15] bG d3 κ' w'/\Oc Pair.ep127 127 κ' w' 10 a9 ba bx/\Bc κ' w' 7 aA 172 [.slice ac e.2.2.1.length ag,.slice Z e.2.2.2.1.length aa,.slice a9 bx.length ba]/\dS=eg bx) ?_ ?_
 refine Jv<|Jp3 [8,10,136,137] (λk E L w'=>∃κ' G,∃aE:(List Pair),∃bo br,L=(138,vi G)::E/\Stp [7,10,11,12,13,14,15] bG d3 κ' w'/\Oc Pair.ep127 127 κ' w' 10 bo br aE/\Bc κ' w' 7 aA 172 [.slice ac e.2.2.1.length ag,.slice Z e.2.2.2.1.length aa,.slice bo aE.length br]/\0<=G/\n6 ((p2.Pairs.length:Int)-G)=k/\cntM (gc p2 e) k G aE=some dS) ⟨_,_,⟨bG,0,(([]:List Pair):(List Pair)),none,0,R,Jj3,Ow.nil,fI,(by decide),(by simp),gh⟩,(KM R)⟩ ?_
 rintro k _ ib ⟨cM,G,aE,bo,br,rfl,a5,dk,dl,f4,hk,h⟩
 rcases k with _ | k
 have cB:=h;obtain⟨gE,h⟩:=cn (eg (Sum.inl aE):((Option watch)×Bool)⊕(((List Pair))⊕((List Pair))))
 have aB:decide (G<(p2.Pairs.length:Int))=false:=Jo2 (by omega)
 refine Je3 R<|Jq<|Jw2 R aB<|Jc1<|Jt<|Jt ?_
 cases h
 have h:=cB
 refine Jb1 ?_
 cases h
 exact Jw1 _ ⟨cM,aE,bo,br,R,a5.wk R,dk,dl,R⟩<|KM R
 obtain⟨gE,h,cB⟩:=BI h;unfold gc at h
 have aB:decide (G<(p2.Pairs.length:Int))=true:=Jn2 (by omega)
 refine Je3 R<|Jq<|Jv2 R aB<|Js<|Jp<|Jq<|Jv<|Je [2,1,1,1] R<|Ob h λgN dF h=>Jc3 R cz dF U69 Z127 ?_
 obtain⟨hf,gl,gb⟩:=((cz.stp (T9 an Y P D x y q b9 a5))).gSt dF
 obtain⟨gX,hz,gY,hA,rfl,fS,fT⟩:=Pair.un gl
 refine Jb4 tv R (Jc4 (haE gb) I127 Z127 R)<|Jt3 (κ:=cM) 11 R X127 R λg3 ic cN al fp=>Tv<|Jh4 (κ:=cN) 11 R Z127 R fp R λie am fq=>Tv<|Jd<|Je [2,1,1] R<|Jf R (Ji4 [.slice none 0 0,.slice none 0 0] R)<|Jt3 (κ:=cN) 12 R X127 R λbs ig aY W fr=>Tv<|Jh4 (κ:=aY) 12 R Z127 R fr R λd2 X fs=>Tv<|Jd<|Jq<|Jg3 [2,2,2] 1 R<|Jn3 R U123 R R<|Jb 1 R ?_
 have f2:(e.1.length:Int)<=9223372036854775807:=ct.len_le
 refine Ob h λdP gi fW=>?_
 clear h
 refine Jo3 [8,10,24,136,137,138] (λE L w'=>∃κ',∃s:(List Int)×(List Int),∃aP ar aR aS,L=E/\Stp [12,13,14,15] aY d2 κ' w'/\Oc E6 2 κ' w' 13 aP ar s.1/\Oc E6 2 κ' w' 14 aR aS s.2/\Bc κ' w' 12 bs 127 [.slice aP s.1.length ar,.slice aR s.2.length aS]/\dP=eg s) ?_ ?_
 refine Jv<|Jp3 [8,10,23,24,136,137,138,143,144] (λk E L w'=>∃κ' t,∃B:(List Int)×(List Int),∃aT aL ab ae,L=(145,vi t)::E/\Stp [12,13,14,15] aY d2 κ' w'/\Oc E6 2 κ' w' 13 aT aL B.1/\Oc E6 2 κ' w' 14 ab ae B.2/\Bc κ' w' 12 bs 127 [.slice aT B.1.length aL,.slice ab B.2.length ae]/\0<=t/\n6 ((e.1.length:Int)-t)=k/\cntM (gf e gN) k t B=some dP) ⟨_,_,⟨aY,0,((([]:List Int):(List Int)),(([]:List Int):(List Int))),none,0,none,0,R,Jj3,Ow.nil,Ow.nil,fs,(by decide),(by simp),gi⟩,(KM R)⟩ ?_
 rintro k _ ii ⟨cO,t,B,aT,aL,ab,ae,rfl,ao,cq,cr,cs,f5,hl,h⟩
 rcases k with _ | k
 have cC:=h;obtain⟨gF,h⟩:=cn (eg (Sum.inl B):((Option watch)×Bool)⊕(((List Int)×(List Int))⊕((List Int)×(List Int))))
 have aC:decide (t<(e.1.length:Int))=false:=Jo2 (by omega)
 refine Je3 R<|Jq<|Jw2 R aC<|Jc1<|Jt<|Jt ?_
 cases h
 have h:=cC
 refine Jb1 ?_
 cases h
 exact Jw1 _ ⟨cO,(B.1,B.2),aT,aL,ab,ae,R,ao.wk R,cq,cr,cs,R⟩<|KM R
 obtain⟨gF,h,cC⟩:=BI h;unfold gf at h
 have aC:decide (t<(e.1.length:Int))=true:=Jn2 (by omega)
 refine Je3 R<|Jq<|Jv2 R aC<|Js<|Jp<|Jq<|Jv<|Jg3 [2,2,1,1,2,1] 1 R<|Ob h λiF dG h=>Jc3 R ct.rdc dG U123 Z120 ?_
 obtain⟨hg,gm,gd⟩:=((ct.stp (T6 a5 al am W X ao)).rdc).gSt dG
 obtain⟨_,_,rfl,rfl,rfl⟩:=gm
 refine Jb4 tv R (Jc4 (haE gd) I120 Z120 R)<|Jt3 (κ:=cO) 15 R X120 R λg4 ij cP I fw=>Tv<|Jn 1 R<|Jh4 (κ:=cP) 15 R Z120 R fw R λik J dm=>Tv<|Jd<|Jq<|Je [2,1,2,1,1] R<|Jd3 R U127 R Z37 ?_
 have dn:=fq.stp (T5 W X ao I J)
 refine Jb3 R I37 (dn.ld 0 R R)<|Jf R (iZ U120 Z2 R R R R)<|Jb3 R I2 (dm.ld 1 R R)<|Ob h λgO gv h=>Jr3 R C89 (cu (κ:=Mk cP) (Ji3<|fS.stp<|T7 al am W X ao I J) gv) ?_
 rintro _ gI ⟨ht,rfl,eO⟩
 obtain⟨bL,K,hw⟩:=Ji eO 16 R
 refine Tv<|Jd<|Ob h λaW h fX=>Jo3 [8,10,23,24,25,26,136,137,138,143,144,145] (λE L w'=>∃κ' aw ax,L=E/\Stp [12,13] bL gI κ' w'/\Oc E6 2 κ' w' 13 aw ax aW/\Bc κ' w' 12 bs 127 [.slice aw aW.length ax,.slice ab B.2.length ae]) ?_ ?_
 revert h
 cases hp:gO
 refine JF λh=>Jy R<|Js ?_
 cases h
 have cY:=(T3 I J K)
 exact Jw1 _ ⟨bL,aT,aL,R,Jj3,(cq.stp cY),(cs.stp cY)⟩<|KM R
 refine JT λh=>Jx R<|Ja [2,1,2,1,1,2,1] R<|Jd3 R U127 R Z37 ?_
 have dq:=cs.stp (T3 I J K)
 refine Jb3 R I37 (dq.ld 0 R R)<|Jn 1 R<|Jd4 (κ:=bL) 18 [t] R Y37 a8 R λbI hd im eu ca fy=>Tv<|Ob h λd7 gw h=>Jy3 (κ:=eu) (E:=E6) 13 [] R Y37 a8 R (cq.stp<|T4 I J K ca) (Sl.srcP (co _) fy.rdc) bZ gw R λcg ce io cQ c2 fz=>Tv<|Jd3 R U127 R Z37<|Ju3 (κ:=cQ) 12 (off:=0) (vc:=[.slice cg d7.length ce]) (cs':=[.slice cg d7.length ce,.slice ab B.2.length ae]) R Z37 R (dq.stp<|ca.tr c2) R λip c3 fA=>Tv<|Jo ?_
 cases h
 exact Jw1 _ ⟨cQ,cg,ce,R,(T3 ca c2 c3).wk R,(fz.stp c3),fA⟩<|KM R
 rintro _ il ⟨et,aw,ax,rfl,ap,fx,dp⟩
 have h:=fX
 refine Jp<|Je [2,1,2,1,1] R<|Jd3 R U127 R Z37<|Jb3 R I37 ((dn.stp<|K.tr ap).ld 1 R R)<|Jf R (iZ U120 Z2 R R R R)<|Jb3 R I2 ((dm.stp<|K.tr ap).ld 1 R R)<|Ob h λgP gx h=>Jr3 R C89 (cu (κ:=Mk et) (Ji3<|fT.stp<|T9 al am W X ao I J K ap) gx) ?_
 rintro _ gJ ⟨hu,rfl,eP⟩
 obtain⟨bM,aq,hx⟩:=Ji eP 18 R
 refine Tv<|Jd<|Ob h λcI h fY=>Jo3 [8,10,23,24,136,137,138,143,144,145] (λE L w'=>∃κ' a6 bp,L=E/\Stp [12,14] bM gJ κ' w'/\Oc E6 2 κ' w' 14 a6 bp cI/\Bc κ' w' 12 bs 127 [.slice aw aW.length ax,.slice a6 cI.length bp]) ?_ ?_
 revert h
 cases hq:gP
 refine JF λh=>Jy R<|Js ?_
 cases h
 exact Jw1 _ ⟨bM,ab,ae,R,Jj3,(cr.stp<|T5 I J K ap aq),(dp.stp aq)⟩<|KM R
 refine JT λh=>Jx R<|Ja [2,1,2,1,1,2,1] R<|Jd3 R U127 R Z37 ?_
 have dr:=dp.stp aq
 refine Jb3 R I37 (dr.ld 1 R R)<|Jn 1 R<|Jd4 (κ:=bM) 20 [t] R Y37 a8 R λbK hb ir ew cc fF=>Tv<|Ob h λd8 gy h=>Jy3 (κ:=ew) (E:=E6) 14 [] R Y37 a8 R (cr.stp<|T6 I J K ap aq cc) (Sl.srcP (co _) fF.rdc) bZ gy R λck cf it cR c5 fG=>Tv<|Jd3 R U127 R Z37<|Ju3 (κ:=cR) 12 (off:=1) (vc:=[.slice ck d8.length cf]) (cs':=[.slice aw aW.length ax,.slice ck d8.length cf]) R Z37 R (dr.stp<|cc.tr c5) R λiu c6 fH=>Tv<|Jo ?_
 cases h
 exact Jw1 _ ⟨cR,ck,cf,R,(T3 cc c5 c6).wk R,(fG.stp c6),fH⟩<|KM R
 rintro _ iq ⟨ev,a6,bp,rfl,c4,fD,fE⟩
 have h:=fY
 refine Jz<|Jp<|Jf3 R ?_
 have gq:cb .i64 (t+1)=t+1:=wr1 f5 (Jm2 aC) f2
 rw[gq]
 have aC:=Jm2 aC
 cases h
 exact Jz1 λa ha=>⟨k,_,Ja3 _,⟨ev,t+1,(aW,cI),aw,ax,a6,bp,R,(T7 ao I J K ap aq c4).wk R,(fx.stp<|aq.tr c4),fD,fE,by omega,by omega,cC⟩,(ha.mm R)⟩
 rintro _ ih ⟨aZ,s,aP,ar,aR,aS,rfl,b8,ft,fu,fv,rfl⟩
 have h:=yI fW
 refine Jp<|Js1 (κ:=aZ) [7,12] (some 10) [(0,2),(1,2),(2,2),(3,2),(4,0),(5,0),(6,1),(7,1),(8,2),(9,2)] [(10,1)] (by kernel_rfl) (by kernel_rfl) λd4 au=>Jn 2 R<|Jf R (bY R R)<|Jd3 R U172 R Z69 ?_
 have ds:=dl.stp (T6 al am W X b8 au)
 refine Jg R (Jc2 I69 R R<|hvC (ds.ld 2 R R) R)<|Jg R (Jc4 (haC (fv.stp au).cells R) I127 Z127 R)<|Jw3 (κ:=aZ) (E:=Pair.ep127) 15 [13,14] (parts:=[(0,.tmp 178)]) (cells:=[.slice aP s.1.length ar,.slice aR s.2.length aS]) (xs:=([(⟨s.1,s.2⟩:Pair)]:List Pair)) R Y69 cA R (Je4 ⟨[.slice aP s.1.length ar],[.slice aR s.2.length aS],Zl aZ d4 [13],Zl aZ d4 [14],R,Zl.sp (l1:=[13]) (l2:=[14]) R,Zl.sr (l1:=[13]) (l2:=[14]),⟨_,_,R,(ft.stp au)⟩,⟨_,_,R,(fu.stp au)⟩⟩) λbO he iv ex aI fJ=>⟨(aI.cl R),Ob h λcJ gz h=>Jy3 (κ:=ex) (E:=Pair.ep127) 10 [15] R Y69 cA R (dk.stp<|T7 al am W X b8 au aI) fJ.src (cZ R) gz R λch cj iw cS cd fL=>⟨((aI.tr cd).cl R),Jf R (bY R R)<|Jd3 R U172 R Z69<|Jt1<|Ju3 (κ:=cS) 7 (off:=2) (vc:=[.slice ch cJ.length cj]) (cs':=[.slice ac e.2.2.1.length ag,.slice Z e.2.2.2.1.length aa,.slice ch cJ.length cj]) R Z69 R (ds.stp<|aI.tr cd) R λiy c7 fM=>Tv<|Jo<|Jz<|Jp<|Jf3 R ?_⟩⟩
 have gp:cb .i64 (G+1)=G+1:=wr1 f4 (Jm2 aB) f1
 rw[gp]
 have aB:=Jm2 aB
 cases h
 exact Jz1 λa ha=>⟨k,_,Ja3 _,⟨cS,G+1,cJ,ch,cj,R,(T10 a5 al am W X b8 au aI cd c7).wk R,(fL.stp c7),fM,by omega,by omega,cB⟩,(ha.mm R)⟩
 rintro _ ia ⟨es,bx,a9,ba,rfl,b7,fn,fo,rfl⟩
 have h:=yI fV
 refine Jp<|Je3 R<|Ju<|Ja2 (l:=[.tmp 6,.tmp 7]) V148 (Jp2 R<|Jp2 R R) R ?_
 cases h
 exact⟨(λb=>ren [(8,2),(9,3),(10,4),(7,5)]<|es b),ac,ag,Z,aa,a9,ba,aA,R,((hE.stp<|T9 an Y P D x y q b9 b7).map (ren [(8,2),(9,3),(10,4),(7,5)]) R R),((fB.stp b7).map (ren [(8,2),(9,3),(10,4),(7,5)]) R R),((fC.stp b7).map (ren [(8,2),(9,3),(10,4),(7,5)]) R R),(fn.map (ren [(8,2),(9,3),(10,4),(7,5)]) R R),(λ_=>(fo.map (ren [(8,2),(9,3),(10,4),(7,5)]) R R))⟩
theorem fC {p0:Sig}  {r:Int}(h:dt p0=some r):Ret Tryz.prog 120 [.agg #[vi p0.In,vi p0.Out]] w (Pvi κ w r):=by
 unfold dt at h
 refine Jk3 κ F120 R N120 R λhE=>Je [1,2] R<|Js3 (κ:=κ) 2 R λp w1 g c e=>Tv<|Jb 1 R<|Jq<|Je [1,1,2] R<|Jb4 tv R (Jc4 (haE e.cells) I28 Z28 R)<|Ob h λo n h=>Jr3 R C58 (jb (κ:=Mk g) (p0:=p0) n) ?_
 rintro _ y ⟨t,rfl,k⟩
 obtain⟨b,a,u⟩:=Ji k 3 R
 refine Tv<|Jb 1 R ?_
 revert h
 cases q:(!o)
 refine JF λh=>Jy R<|Js<|Jp<|Je [2,1,2,1,2,1,2] R<|Jd3 R U28 R Z2 ?_
 have d:=e.stp a
 refine Jb3 R I2 (d.ld 0 R R)<|Jd3 R U28 R Z2<|Jb3 R I2 (d.ld 1 R R)<|Jn 1 R<|Ob h λz m h=>Jr3 R C62 (dh (κ:=Mk b) m) ?_
 rintro _ x ⟨s,rfl,j⟩
 obtain⟨f,i,v⟩:=Ji j 5 R
 refine Tv<|Jb 1 R<|Ju<|Ja2 (l:=[.tmp 2]) V120 (Jp2 R R) R ?_
 cases h
 exact⟨f,R,(hE.stp<|T3 c a i)⟩
 refine JT λh=>Jx R<|Je3 R<|Ju<|Jw<|Ja2 (l:=[.tmp 2]) V120 (Jp2 R R) R ?_
 cases h
 exact⟨b,R,(hE.stp<|c.tr a)⟩
theorem iA {p0:Sig}{N K O M}{p1:Machine}(C:Rd (Rp.sl (Rp.int .i64)) κ w 0 N K p1.Next) (x:Rd (Rp.sl (Rp.int .i64)) κ w 0 O M p1.Out){r:Bool}(h:eF p0 p1=some r):Ret Tryz.prog 17 [.agg #[vi p0.In,vi p0.Out],.agg #[.slice N p1.Next.length K,.slice O p1.Out.length M]] w (Pvb κ w r):=by
 unfold eF at h
 refine Jk3 κ F17 R N17 R λhE=>Je [1,1,2] R<|Js3 (κ:=κ) 2 R λbb w1 ah o ax=>Tv<|Js3 (κ:=ah) 3 R λbc bL al m v=>Tv<|Jb 1 R<|Je [2,1,2,2] R<|Jd3 R U33 R Z31<|Jb3 R I31 (v.ld 0 R R)<|Jn3 R U31 R R<|Jb 1 R<|Jq<|Je [1,1,2,2,2,1,2,2,2,2,1,2,2,1,2,2,2] R ?_
 have T:=ax.stp m
 refine Jb4 tv R (Jc4 (haE T.cells) I28 Z28 R)<|Ob h λa0 aO h=>Jr3 R C58 (jb (κ:=Mk al) (p0:=p0) aO) ?_
 rintro _ aV ⟨bp,rfl,aq⟩
 obtain⟨F,d,bv⟩:=Ji aq 4 R
 refine Tv<|Jn 2 R<|Ob h λaa h aA=>Jf4 [2,3,5] 17 aa F aV [(4,2),(5,1),(6,2),(7,2)] [(8,2),(9,2),(10,1),(11,2),(12,2),(13,1),(14,2),(15,2),(16,2)] tv ?_ ?_
 revert h
 cases bi:(!a0)
 refine JF λh=>Jn 1 R<|Ob h λbP aP h=>Jr3 R C59 (cP (κ:=Mk F) aP) ?_
 rintro _ bI ⟨bq,rfl,ar⟩
 obtain⟨a4,an,bw⟩:=Ji ar 6 R
 refine Tv<|Jn 2 R ?_
 cases h
 exact Jv1 _ tv ⟨R,_,an.wk R⟩<|KM R
 refine JT λh=>Jn 1 R<|Jz3 R<|Jn 2 R ?_
 cases h
 exact Jg4 tv R
 rintro _ aW _ ⟨rfl,ai,e⟩
 have h:=aA
 refine Jn 1 R<|Ob h λab h aB=>Jf4 [2,3,5] 26 ab ai aW [(9,2),(10,1),(11,2),(12,2),(13,1),(14,2),(15,2),(16,2)] [] tv ?_ ?_
 revert h
 cases bj:aa
 refine JF λh=>Jd3 R U33 R Z31 ?_
 have P:=v.stp (d.tr e)
 refine Jb3 R I31 (P.ld 1 R R)<|Jn3 R U31 R R<|Jd3 R U33 R Z31<|Jb3 R I31 (P.ld 0 R R)<|Jn3 R U31 R R<|Jn 2 R ?_
 cases h
 exact Jg4 tv R
 refine JT λh=>Jn 1 R<|Jz3 R<|Jn 2 R<|Jz3 R<|Jn 3 R ?_
 cases h
 exact Jg4 tv R
 rintro _ ag _ ⟨rfl,t,g⟩
 have h:=aB
 refine Jd ?_
 revert h
 cases bk:ab
 refine JF λh=>Jy R<|Js<|Jp<|Jq<|Je3 R ?_
 have aF:(p1.Next.length:Int)<=9223372036854775807:=C.len_le
 refine Ob h λaf aM U=>?_
 clear h
 refine Jx1 (λL w'=>∃κ',L=[]/\Stp [] t ag κ' w'/\af=eg ()) ?_ ?_
 refine Jv<|Jp3 [2,3,5] (λk E L w'=>∃κ' f,L=(6,vi f)::E/\Stp [] t ag κ' w'/\0<=f/\n6 ((p1.Next.length:Int)-f)=k/\cntM (fF p0 p1) k f ()=some af) ⟨_,_,⟨t,0,R,Jj3,(by decide),(by simp),aM⟩,(KM R)⟩ ?_
 rintro k _ bK ⟨z,f,rfl,i,aG,bg,h⟩
 rcases k with _ | k
 have y:=h;obtain⟨aU,h⟩:=cn (eg (Sum.inl ()):Bool⊕((Unit)⊕(Unit)))
 have p:decide (f<(p1.Next.length:Int))=false:=Jo2 (by omega)
 refine Jq<|Jg3 [2,2,1,2,2] 1 R<|Jd3 R U33 R Z31<|Jb3 R I31 ((v.stp<|T4 d e g i).ld 0 R R)<|Jn3 R U31 R R<|Jb 1 R<|Jw2 R p<|Jc1<|Jt<|Jt ?_
 cases h
 have h:=y
 refine Jb1 ?_
 cases h
 exact Jw1 _ ⟨z,R,i.wk R,R⟩ KN
 obtain⟨aU,h,y⟩:=BI h;unfold fF at h
 have p:decide (f<(p1.Next.length:Int))=true:=Jn2 (by omega)
 refine Jq<|Jg3 [2,2,1,2,2] 1 R<|Jd3 R U33 R Z31 ?_
 have Q:=v.stp (T4 d e g i)
 refine Jb3 R I31 (Q.ld 0 R R)<|Jn3 R U31 R R<|Jb 1 R<|Jv2 R p<|Js<|Jp<|Jq<|Jv<|Jq<|Js1 (κ:=z) [0,2,3] none [(0,2),(2,2),(1,0),(3,2),(4,0),(5,2),(6,0),(7,1),(8,2),(9,2),(10,2),(12,2),(16,2),(18,2),(11,0),(13,2),(14,0),(15,2),(17,0),(19,2),(20,0),(21,2),(22,2),(23,2),(24,2),(25,2),(27,2),(30,2),(26,0),(28,2),(29,0),(31,1),(32,2),(33,2),(34,2),(35,2),(37,2),(40,2),(36,0),(38,2),(39,0),(41,0),(42,1),(43,1),(44,2),(45,2)] [] (by kernel_rfl) (by kernel_rfl) λbM j=>Jd3 R U33 R Z31<|Jn 1 R ?_
 have q:=Q.stp j
 refine Jg R (Jc2 I31 R R<|hvC (q.ld 0 R R) R)<|Ob h λa1 V h=>Jc3 R C V U31 Z37 ?_
 have s:=C.stp (T7 o m d e g i j)
 obtain⟨a6,bB,bd,aH⟩:=s.gSl V
 refine Jg R (Jc2 I37 R R<|hvC aH R)<|Jn3 R U37 R R ?_
 have S:=T.stp (T5 d e g i j)
 refine Jg R (Jc4 (haC S.cells R) I28 Z28 R)<|Ob h λa2 aQ h=>Jr3 R C60 (kH (κ:=Mk z) (p0:=p0) aQ) ?_
 rintro _ aX ⟨br,rfl,au⟩
 obtain⟨ak,b,bx⟩:=Ji au 6 R
 refine⟨(b.cl R),Jn 2 R<|Ob h λac h aC=>Jf4 [2,3,5,6] 57 ac ak aX [(10,2),(12,2),(16,2),(18,2),(11,0),(13,2),(14,0),(15,2),(17,0),(19,2),(20,0),(21,2),(22,2),(23,2)] [(24,2),(25,2),(27,2),(30,2),(26,0),(28,2),(29,0),(31,1),(32,2),(33,2),(34,2),(35,2),(37,2),(40,2),(36,0),(38,2),(39,0),(41,0),(42,1),(43,1),(44,2),(45,2)] (b.cl R) ?_ ?_⟩
 revert h
 cases bl:((a1.length:Int) !=a2)
 refine JF λh=>Jd3 R U33 R Z31<|Jn 1 R<|Jd3 R U33 R Z31<|Jn 1 R<|Jg R (Jc2 I31 R R<|hvC (q.ld 1 R R) R)<|Ob h λbQ W h=>Jc3 R x W U31 Z37 ?_
 obtain⟨a7,bC,be,aI⟩:=(x.stp (T7 o m d e g i j)).gSl W
 refine Jg R (Jc2 I37 R R<|hvC aI R)<|Jn3 R U37 R R<|Jg R (Jc2 I31 R R<|hvC (q.ld 0 R R) R)<|Ob h λbR X h=>Jc3 R s X U31 Z37 ?_
 obtain⟨a8,bD,bf,aJ⟩:=s.gSl X
 refine Jg R (Jc2 I37 R R<|hvC aJ R)<|Jn3 R U37 R R<|Jn 2 R ?_
 cases h
 exact Jv1 _ (b.cl R) ⟨R,_,Jj3⟩<|KM R
 refine JT λh=>Jn 4 R<|Ja4 R<|Jn 1 R<|Ja4 R<|Jn 1 R<|Ja4 R<|Jn 1 R<|Ja4 R<|Jn 3 R ?_
 cases h
 exact Jv1 _ (b.cl R) ⟨R,_,Jj3⟩<|KM R
 rintro _ aY _ ⟨rfl,G,c⟩
 have h:=aC
 refine Jn 1 R<|Ob h λad h aD=>Jf4 [2,3,5,6] 67 ad G aY [(25,2),(27,2),(30,2),(26,0),(28,2),(29,0),(31,1),(32,2),(33,2)] [(34,2),(35,2),(37,2),(40,2),(36,0),(38,2),(39,0),(41,0),(42,1),(43,1),(44,2),(45,2)] ((b.tr c).cl R) ?_ ?_
 revert h
 cases bm:ac
 refine JF λh=>Jd3 R U33 R Z31<|Jn 2 R<|Jg R (Jc2 I31 R R<|hvC (q.ld 0 R R) R)<|Ob h λbS Y h=>Jc3 R s Y U31 Z37 ?_
 obtain⟨a9,bE,ay,aK⟩:=s.gSl Y
 refine Jg R (Jc2 I37 R R<|hvC aK R)<|Ob h λbT aR h=>Jr3 R C61 (kQ (κ:=Mk G) (Ji3<|ay.stp<|b.tr c) aR) ?_
 rintro _ bN ⟨bs,rfl,av⟩
 obtain⟨a5,B,bz⟩:=Ji av 8 R
 refine⟨((T3 b c B).cl R),Jn 2 R ?_⟩
 cases h
 exact Jv1 _ ((T3 b c B).cl R) ⟨R,_,B.wk R⟩<|KM R
 refine JT λh=>Jn 3 R<|Ja4 R<|Jn 1 R<|Ja4 R<|Jz3 R<|Jn 2 R ?_
 cases h
 exact Jv1 _ ((b.tr c).cl R) ⟨R,_,Jj3⟩<|KM R
 rintro _ aZ _ ⟨rfl,H,n⟩
 have h:=aD
 refine Jn 1 R<|Ob h λae h aE=>Jf4 [2,3,5,6] 79 ae H aZ [(35,2),(37,2),(40,2),(36,0),(38,2),(39,0),(41,0),(42,1),(43,1),(44,2),(45,2)] [] ((T3 b c n).cl R) ?_ ?_
 revert h
 cases bn:ad
 refine JF λh=>Jd3 R U33 R Z31<|Jn 1 R<|Jd3 R U28 R Z2<|Jg R (Jc2 I31 R R<|hvC (q.ld 1 R R) R)<|Ob h λbU Z h=>Jc3 R x Z U31 Z37 ?_
 obtain⟨ba,bF,az,aL⟩:=(x.stp (T7 o m d e g i j)).gSl Z
 refine Jg R (Jc2 I37 R R<|hvC aL R)<|Jg R (Jc2 I2 R R<|hvC (S.ld 1 R R) R)<|Ob h λbV aS h=>Jr3 R C62 (dh (κ:=Mk H) aS) ?_
 rintro _ bO ⟨bt,rfl,aw⟩
 obtain⟨am,u,bA⟩:=Ji aw 8 R
 have I:=(T4 b c n u)
 refine⟨(I.cl R),Ob h λbW aT h=>Jr3 R C61 (kQ (κ:=Mk am) (Ji3<|az.stp I) aT) ?_⟩
 rintro _ bG ⟨bo,rfl,ap⟩
 obtain⟨a3,A,bu⟩:=Ji ap 10 R
 refine⟨((T5 b c n u A).cl R),Jn 2 R ?_⟩
 cases h
 exact Jv1 _ ((T5 b c n u A).cl R) ⟨R,_,(u.tr A).wk R⟩<|KM R
 refine JT λh=>Jn 3 R<|Ja4 R<|Jn 1 R<|Ja4 R<|Ja4 R<|Jz3 R<|Jz3 R<|Jn 2 R ?_
 cases h
 exact Jv1 _ ((T3 b c n).cl R) ⟨R,_,Jj3⟩<|KM R
 rintro _ bH _ ⟨rfl,D,J⟩
 have h:=aE
 refine Jt1<|Jd ?_
 revert h
 cases bh:ae
 refine JF λh=>Jy R<|Js<|Jz<|Jp<|Jf3 R ?_
 have aN:cb .i64 (f+1)=f+1:=wr1 aG (Jm2 p) aF
 rw[aN]
 have p:=Jm2 p
 cases h
 exact Jz1 λa ha=>⟨k,_,Ja3 _,⟨D,f+1,R,(T6 i j b c n J).wk R,by omega,by omega,y⟩,(ha.mm R)⟩
 refine JT λh=>Jx R<|Je3 R<|Ju<|Ja1<|Jw<|Jw ?_
 cases h
 obtain rfl:=Option.some.inj y
 have h:=yL U
 refine Ja1<|Jq2<|Jw<|Ja2 (l:=[.tmp 4]) V17 (Jp2 R R) R ?_
 cases h
 exact⟨D,R,(hE.stp<|T11 o m d e g i j b c n J)⟩
 rintro _ bJ ⟨aj,rfl,ao,rfl⟩
 have h:=yI U
 refine Jp<|Je3 R<|Ju<|Ja2 (l:=[.tmp 4]) V17 (Jp2 R R) R ?_
 cases h
 exact⟨aj,R,(hE.stp<|T6 o m d e g ao)⟩
 refine JT λh=>Jx R<|Je3 R<|Ju<|Jw<|Ja2 (l:=[.tmp 4]) V17 (Jp2 R R) R ?_
 cases h
 exact⟨t,R,(hE.stp<|T5 o m d e g)⟩
end Go.Proofs.YtleekpaohfpooaaGreat
