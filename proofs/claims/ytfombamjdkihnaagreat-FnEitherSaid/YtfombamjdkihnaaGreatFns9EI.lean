/- The walks, part 9. By program. -/
import Derived.Test.YtfombamjdkihnaaGreatFns8EI
set_option linter.unusedVariables false
set_option linter.unusedSimpArgs false
open Go.Wk.Ep renaming fz → EZ, own → ER
open Int renaming toNat → ES
open Go.IntKind renaming wrap → ET
open Option.some renaming inj → EU
open Go.Wk.Ow renaming nil → EY
open Go.Wk.Sl renaming srcP → EV
open Sum renaming inr → EW
namespace Go.Proofs.YtfombamjdkihnaaGreat
open Tryz
open Go Go.Wk Go.Proofs
set_option maxRecDepth 100000
set_option maxHeartbeats 1000000
section
variable {w:World}{J:Col}
theorem iB {p0:Sig}{aC aY}{p1:VC}(af:Rd Clause.rp J w 0 aC aY p1){r:Det×Bool}(h:c8 p0 p1=some r):Ret prog 19 [.agg #[vi p0.In,vi p0.Out],.slice aC p1.length aY] w (λb6 a=>∃b aU aW aV aX,b6= .tuple #[.agg #[.slice aU r.1.Next.length aW,.slice aV r.1.Pairs.length aX],.bool r.2]/\Ent J w b a/\Oc (ER E6 2) 31 b a 2 aU aW r.1.Next/\Oc Pair.ep96 96 b a 3 aV aX r.1.Pairs):=by
 refine Jp3 J func19 R ntmps19 R λce=>Jj3<|Jx3 J 2 R λ_ _ a5 bb bF=>Tv<|Jy3 a5 3 R X58 R λ_ _ a9 aB _=>Tv<|Jb 1 R<|Jq<|Jj3 (have ae:=bF.stp aB;Jg4 tv R (Jh4 (haE ae.cells) I28 Z28 R) (Ob h λci b1 h=>Jw3 R call33 (jl (J:=Mk a9) (p0:=p0) b1)<|Kb λb7 ak aa=>Tv<|Jn 2 R<|Ob h λb5 h bS=>Jk4 [1,2,4] 19 b5 ak b7 5 tv ?_ ?_))
 exact Bk h (λbX h=>Jg4 tv R (Jh4 (haE (ae.stp aa).cells) I28 Z28 R)<|Jn 1 R<|Ob h λ_ b2 h=>Jw3 R call53 (sn (J:=Mk ak) (p0:=p0) Gct b2)<|Kb λ_ _ _=>Tv<|Jn 2 R<|Oh h<|Jv1 _ tv ⟨R,_,Fct⟩<|KM R) (λbX h=>Je4 R<|Jn 1 R<|Je4 R<|Jn 2 R<|Oh h<|Jl4 tv R)
 rintro _ _ _ ⟨rfl,X,av⟩
 refine have h:=bS;Jd ?_
 refine Bk h (λbZ h=>Jy R<|Js<|Jp<|Jj3 (have aH:=ae.stp (aa.tr av);Jg4 tv R (Jh4 (haE aH.cells) I28 Z28 R) (Ob h λ_ b3 h=>Jw3 R call54 (fX (J:=Mk X) (p0:=p0) b3)<|Ki λ_ a6 aw=>Tv<|Ob h λW b4 h=>Jl1 (J:=a6) (E:=E6) (z:=(0:Int)) 8 R R R R R R R Y31 bG R R R R R (λ_ _ _=>R) (Jv2 b4) λbd bi _ a7 ax bH=>Tv<|Jb4 a7 (ER E6 2) 9 [8] (parts:=[(0,.tmp 23)]) (cells:=[.slice bd W.length bi]) (xs:=([W]:VV)) R Y32 bL R (Jj4 ⟨_,_,R,bH⟩) λaD aE _ a8 ay _=>Tv<|Jf R (Jn4 [.slice aD ([W]:VV).length aE,.slice none 0 0] R)<|Jy3 a8 10 R X58 R λaF _ C az bJ=>Tv<|Jm4 C 10 R Z58 R bJ R λaZ aA bK=>Tv<|Jd<|Jq<|Jl3 1 R<|Js3 R U29 R R<|Jb 1 R<|Ob h λaT bV aK=>Jt3 [4,6] (λk q a=>∃b,∃o:VV×VP,∃T O N K,q=k/\Stp [10,12,13,14,17,19,20,21] C aZ b a/\Oc (ER E6 2) 31 b a 9 T O o.1/\Oc Pair.ep96 96 b a 11 N K o.2/\Bc b a 10 aF 58 [.slice T o.1.length O,.slice N o.2.length K]/\aT=EW o) (Jv<|Ju3 [2,4,6,26,27] (λB k q a=>∃b i,∃c:VV×VP,∃Q G L I,q=(28,vi i)::k/\Stp [10,12,13,14,17,19,20,21] C aZ b a/\Oc (ER E6 2) 31 b a 9 Q G c.1/\Oc Pair.ep96 96 b a 11 L I c.2/\Bc b a 10 aF 58 [.slice Q c.1.length G,.slice L c.2.length I]/\0<=i/\ES ((p1.length:Int)-i)=B/\cntM (fK p0 p1) B i c=some aT) ⟨_,_,⟨C,0,((([W]:VV):VV),([]:VP)),aD,aE,none,0,R,Jo3,Fct,EY,bK,(by decide),(by simp),bV⟩,(KM R)⟩ ?_) ?_))) (λbZ h=>Jx R<|Jj3<|Jf R (Jn4 [.slice none 0 0,.slice none 0 0] R)<|Jm4 X 3 R Z58 R Fct R λ_ _ bE=>Tv<|Jb 1 R<|Ju<|Jw<|Jb2 (l:=[.cell 4 58,.tmp 5]) results19 (bM R bE I58 Z58 R<|Jq2 R R) R<|Oh h<|⟨X,none,0,none,0,R,Fct,EY,EY⟩)
 rintro B _ _ ⟨ao,i,c,Q,G,L,I,rfl,ad,bO,U,aI,bT,aJ,h⟩
 rcases B with _|B
 exact Jf3 R<|Jq<|Jx2 R (dcf aJ)<|Jc1<|Jt<|Jt<|Jb1<|Oh h<|Jw1 _ ⟨ao,(c.1,c.2),Q,G,L,I,R,Fct,bO,U,aI,R⟩<|KM R
 refine Ob h λcf h aL=>have V:=dct aJ;Jf3 R (Jq<|Jw2 R V<|Js<|Jp<|Jq<|Jv<|Jj3<|Ob h λa0 aM h=>Jd3 R af aM U29 Z54 ?_)
 obtain⟨_,bW,bU⟩:=((af.stp (T10 bb aB aa av aw ax ay az aA ad))).gSt aM
 obtain⟨b9,cg,ca,ch,rfl,cc,cd⟩:=Clause.un bW
 refine Jg4 tv R (Jh4 (haE bU) I54 Z54 R)<|Jy3 ao 12 R zeroValue54 R λ_ _ p m bP=>Tv<|Jm4 p 12 R Z54 R bP R λb8 n bQ=>Tv<|Jd<|Jq<|Ob h λah aN h=>Ob h λj ag h=>Jt3 [2,4,6,26,27,28] (λk q a=>∃b f S P H M,q=(9,.pointer (some ⟨f,0,none⟩))::(10,.bool j.2)::k/\Stp [13,17,19,20,21] p b8 b a/\Oc (ER E6 2) 31 b a 13 S P j.1.Next/\Oc Pair.ep96 96 b a 14 H M j.1.Pairs/\Bc b a 15 f 58 [.slice S j.1.Next.length P,.slice H j.1.Pairs.length M]) (WC.rxt (J:=p) [2,10,12] none (by kernel_rfl) λ_ d=>Jq1 (fuel:=8) [(0,0),(1,0),(2,0)] (by kernel_rfl) (by kernel_rfl) R<|Jg R (Jh4 (haC (aI.stp<|T3 m n d).cells R) I58 Z58 R)<|Jg R (Jh4 (haC (aH.stp<|T9 aw ax ay az aA ad m n d).cells R) I28 Z28 R)<|Jg R (Jh4 (haC (bQ.stp d).cells R) I54 Z54 R)<|Jp1<|WA.fork2 (fuel:=7) 3 8 (by kernel_rfl) R (Jw3 R call56 (oE (J:=Mk p) (p0:=p0) (p1:=a0) Gct Gct aN) ?_)<|Jy3 p 13 R X58 R λf _ a3 t bw=>⟨(t.cl R),Xs 0 [10,13,17,20,23,28,32]<|Jw3 R call56 (oE (J:=Mk a3) (p0:=p0) (p1:=a0) Gct Gct aN) ?_⟩) ?_
 rintro _ _ ⟨_,bh,bf,be,bg,rfl,bj,bo,bp⟩
 refine Im bj 13 R (λai g aO=>⟨(g.cl R),have cb:=bo.mx (cK (bI _) _) aO R (R:13+2=15);have aG:=bp.mx Pair.no96 aO R (R:13+3=16);Jp1 (WA.fork2 (fuel:=6) 4 8 (by kernel_rfl) R (Jw3 R call55 (lc (J:=Mk ai) (p0:=(⟨c.1,c.2⟩:Det)) (p1:=ah) Gct (Jn3 (U.stp ((T4 m n d g))).rdc) Gct (Jn3 aG.rdc) ag) ?_)<|Jy3 ai 17 R X58 R λf _ a2 s bt=>⟨((g.tr s).cl R),Xs 0 [13,17,20,23,28,32]<|Jw3 R call55 (lc (J:=Mk a2) (p0:=(⟨c.1,c.2⟩:Det)) (p1:=ah) Gct (Jn3 (U.stp (((T4 m n d g)).tr s)).rdc) Gct (Jn3 (aG.stp s).rdc) ag) ?_⟩)⟩)
 rintro _ _ ⟨_,y,v,A,x,rfl,bk,bq,br⟩
 exact Im bk 17 R (λa1 ar aP=>have Y:=(g.tr ar);⟨(Y.cl R),Xs 0 [17,20,23,25,28,32]<|Jn 3 R<|Jy3 a1 21 R X58 R λf _ aj Z bs=>⟨((Y.tr Z).cl R),Jm4 aj 21 R Z58 R bs R λ_ au _=>⟨((T3 Y Z au).cl R),Jn 1 R<|Xe<|Jo<|Jw1 _ ⟨(λe=>ren [(19,13),(20,14),(21,15)]<|aj e),f,y,v,A,x,R,(Jz2 ((T5 d g ar Z au).wk R) [(19,13),(20,14),(21,15)] R),(((bq.mx (cK (bI _) _) aP R (R:17+2=19)).stp Fct).map (ren [(19,13),(20,14),(21,15)]) R R),(((br.mx Pair.no96 aP R (R:17+3=20)).stp Fct).map (ren [(19,13),(20,14),(21,15)]) R R),Fct⟩<|KM R⟩⟩⟩)
 rintro _ _ ⟨_,y,v,A,x,rfl,bl,bu,bv⟩
 exact Im bl 18 R (λal ab aQ=>have ap:=(T3 g s ab);⟨(ap.cl R),Jn 3 R<|Jm4 al 17 R Z58 R (bt.stp ab) R λ_ E _=>⟨((ap.tr E).cl R),Jn 1 R<|Xe<|Jo<|Jw1 _ ⟨(λe=>ren [(20,13),(21,14),(17,15)]<|al e),f,y,v,A,x,R,(Jz2 ((T5 d g s ab E).wk R) [(20,13),(21,14),(17,15)] R),(((bu.mx (cK (bI _) _) aQ R (R:18+2=20)).stp E).map (ren [(20,13),(21,14),(17,15)]) R R),(((bv.mx Pair.no96 aQ R (R:18+3=21)).stp E).map (ren [(20,13),(21,14),(17,15)]) R R),Fct⟩<|KM R⟩⟩)
 rintro _ _ ⟨_,bh,bf,be,bg,rfl,bm,bx,bz⟩
 refine Im bm 14 R (λa4 u aR=>⟨((t.tr u).cl R),Jw3 R call55 (lc (J:=Mk a4) (p0:=(⟨c.1,c.2⟩:Det)) (p1:=ah) Gct (Jn3 (U.stp ((T5 m n d t u))).rdc) (Jn3 (bx.mx (cK (bI _) _) aR R (R:14+2=16)).rdc) (Jn3 (bz.mx Pair.no96 aR R (R:14+3=17)).rdc) ag) ?_⟩)
 rintro _ _ ⟨_,y,v,A,x,rfl,bn,bA,bB⟩
 exact Im bn 18 R (λam ac aS=>have aq:=(T3 t u ac);⟨(aq.cl R),Jn 3 R<|Jm4 am 13 R Z58 R (bw.stp<|u.tr ac) R λ_ F _=>⟨((aq.tr F).cl R),Jn 1 R<|Xe<|Jo<|Jw1 _ ⟨(λe=>ren [(20,13),(21,14),(13,15)]<|am e),f,y,v,A,x,R,(Jz2 ((T5 d t u ac F).wk R) [(20,13),(21,14),(13,15)] R),(((bA.mx (cK (bI _) _) aS R (R:18+2=20)).stp F).map (ren [(20,13),(21,14),(13,15)]) R R),(((bB.mx Pair.no96 aS R (R:18+3=21)).stp F).map (ren [(20,13),(21,14),(13,15)]) R R),Fct⟩<|KM R⟩⟩)
 rintro _ _ ⟨D,f,S,P,H,M,rfl,bc,_,_,bR⟩
 refine Jp<|Jq<|Jf3 R ?_
 refine Bk h (λbY h=>Jy R<|Js<|Jp<|Jk3<|Jg4 tv R (Jh4 (haE bR.cells) I58 Z58 R)<|Jm4 D 10 R Z58 R Fct R λ_ ba _=>Tv<|Jo<|Jz<|Jp<|Jg3 R ?_) (λbY h=>Jx R<|Jj3<|Jf R (Jn4 [.slice none 0 0,.slice none 0 0] R)<|Jm4 D 3 R Z58 R Fct R λ_ _ bC=>Tv<|Jb 1 R<|Ju<|Jw<|Ja1<|Jw<|Jw ?_)
 have b0:ET .i64 (i+1)=i+1:=wr1 bT (Jn2 V) af.len_le
 rw[b0]
 have V:=Jn2 V
 cases h
 exact Ja2 ⟨(λe=>ren [(13,9),(14,11)]<|D e),i+1,(j.1.Next,j.1.Pairs),S,P,H,M,R,(Jz2 ((T5 ad m n bc ba).wk R) [(13,9),(14,11)] R),Fct,Fct,Fct,by omega,by omega,aL⟩ R
 cases h
 obtain rfl:=EU aL
 exact have h:=yL aK;Ja1 (Jr2<|Jw<|Jb2 (l:=[.cell 4 58,.tmp 5]) results19 (bM R bC I58 Z58 R<|Jq2 R R) R<|Oh h<|⟨D,none,0,none,0,R,Fct,EY,EY⟩)
 rintro _ _ ⟨an,o,T,O,N,K,rfl,_,_,_,bN,rfl⟩
 exact have h:=yI aK;Jp (Jj3<|Jg4 tv R (Jh4 (haE bN.cells) I58 Z58 R)<|Jm4 an 3 R Z58 R Fct R λ_ _ bD=>Tv<|Jb 1 R<|Ju<|Jb2 (l:=[.cell 4 58,.tmp 5]) results19 (bM R bD I58 Z58 R<|Jq2 R R) R<|Oh h<|⟨(λe=>ren [(9,2),(11,3)]<|an e),T,O,N,K,R,Fct,Fct,Fct⟩)
theorem tt {p0:Sig}{aW aN aY aQ}{p1:Det}{aO aR aV aU aT aS}{p2:Parity}{aM bu}{K:VL}(ba:Rd Rs J w 0 aW aN p1.Next) (dw:Rd Pair.rp J w 0 aY aQ p1.Pairs) (dx:Rd Ri J w 0 aO aR p2.Arena.Owner) (cA:Rd Rs J w 0 aV aU p2.Arena.Next) (dy:Rd Ri J w 0 aT aS p2.Prio) (bb:Rd Place.rp J w 0 aM bu K){r:Rival}(h:lN p0 p1 p2 K=some r):Ret prog 23 [.agg #[vi p0.In,vi p0.Out],.agg #[.slice aW p1.Next.length aN,.slice aY p1.Pairs.length aQ],.agg #[.slice aO p2.Arena.Owner.length aR,.slice aV p2.Arena.Next.length aU,.slice aT p2.Prio.length aS],.slice aM K.length bu] w (λc6 a=>∃b bq bs br bt,c6= .agg #[.slice bq r.In.length bs,.slice br r.Next.length bt]/\Ent J w b a/\Oc E6 2 b a 2 bq bs r.In/\Oc (ER E6 2) 31 b a 3 br bt r.Next):=by
 refine Jp3 J func23 R ntmps23 R λdz=>Jj3<|Jx3 J 2 R λ_ _ bT aq cs=>Tv<|Jx3 bT 3 R λ_ _ bY Q cy=>Tv<|Jx3 bY 4 R λ_ _ bA C ce=>Tv<|Jx3 bA 5 R λ_ _ bE y ch=>Tv<|Jy3 bE 6 R X34 R λ_ _ bK s _=>Tv<|Jd<|Jj3 (have a2:=ce.stp (y.tr s);Jg4 tv R (Jh4 (haE a2.cells) I66 Z66 R) (Ob h λdb c0 h=>have a3:=cA.stp (T5 aq Q C y s);Jw3 R call24 (rX (J:=Mk bK) (p0:=p2) Gct Gct Gct c0) ?_))
 rintro _ _ ⟨_,df,dn,dp,di,rfl,cb,_,cr⟩
 refine Im cb 7 R (λbW t c5=>Tv<|have a4:=cr.mx (bI _) c5 R (R:7+3=10);Jf R (vk U73 R I31 R R R) (Jb 1 R<|Jj3<|Je3 R U58 R Z32 (have a5:=cy.stp (T4 C y s t);Jc3 R I32 (a5.ld 0 R R) (Js3 R U32 R R<|Jb 1 R<|Jj3<|Ji4 bW 11 [0] R Y31 bG R λb3 b7 _ bX j _=>Tv<|Jb 1 R<|Jj3<|Jf R (Jn4 [.slice none 0 0,.slice none 0 0] R)<|Jy3 bX 12 R X34 R λaZ _ M k ct=>Tv<|Jm4 M 12 R Z34 R ct R λbv m cu=>Tv<|Jd<|Jq<|Jf3 R<|Ob h λbo cN cC=>Jt3 [8,12] (λd e a=>∃b,∃x:VI×Int×VI×VV,∃aX aP W U af ag,e=d/\Stp [11,12,13,14,17,18,19,20] M bv b a/\Oc E6 2 b a 11 aX aP x.1/\Oc E6 2 b a 13 W U x.2.2.1/\Oc (ER E6 2) 31 b a 14 af ag x.2.2.2/\Bc b a 12 aZ 34 [.slice W x.2.2.1.length U,.slice af x.2.2.2.length ag]/\bo=EW x) (Jv<|Ju3 [4,5,6,7,8,9,10,12] (λg d e a=>∃b,∃c:VI×Int×VI×VV,∃F D V T E G,e=(11,.slice F c.1.length D)::(13,vi c.2.1)::d/\Stp [11,12,13,14,17,18,19,20] M bv b a/\Oc E6 2 b a 11 F D c.1/\Oc E6 2 b a 13 V T c.2.2.1/\Oc (ER E6 2) 31 b a 14 E G c.2.2.2/\Bc b a 12 aZ 34 [.slice V c.2.2.1.length T,.slice E c.2.2.2.length G]/\bQ (fU p0 p1 p2 K db) g c=some bo) ⟨_,_,⟨M,((([0]:VI):VI),(0:Int),([]:VI),([]:VV)),b3,b7,none,0,none,0,R,Jo3,Fct,EY,EY,cu,cN⟩,(KM R)⟩ ?_) ?_))))
 rintro g _ _ ⟨N,c,F,D,V,T,E,G,rfl,n,ax,cw,cx,a6,h⟩
 rcases g with _|g
 cases h
 refine Ob h λ_ h bd=>Jq<|Jl3 2 R<|Js3 R U31 R R<|Jb 1 R ?_
 refine Bk h (λcT h=>Jy R<|Jc1<|Jt<|Jt ?_) (λcT h=>Jx R<|Js<|Jp<|Jq<|Jv<|Jq<|Xn N [0,5,11] [5,8,11,0,12,17,20,21,26] λ_ f=>Jn 2 R<|Ob h λ_ be h=>Jd3 R ax.rdc be U31 Z2 (have a7:=ch.stp (T7 s t j k m n f);Jg R (Jd2 isAgg67 R R<|hvC (a7.ld 0 R R) R) (have ay:=ax.stp f;Jg R (Jd2 I2 R R<|hvC (ay.rdc.gInt be) R) (Ob h λdc bf h=>Jd3 R bb bf U67 Z76<|Je3 R U76 R Z2 ?_))))
 cases h
 exact have h:=bd;Jb1 (Oh h<|Jw1 _ ⟨N,(c.1,c.2.1,c.2.2.1,c.2.2.2),F,D,V,T,E,G,R,Fct,ax,cw,cx,a6,R⟩<|KM R)
 have az:=bb.stp (T11 aq Q C y s t j k m n f)
 obtain⟨_,cQ,cL⟩:=(az).gSt bf
 obtain⟨dk,dB,rfl,du⟩:=Place.un cQ
 refine Jg R (Jd2 I2 R R<|hvC (λa aA=>cL a aA 0 _ R) R)<|Jn 1 R<|Jt1<|Jd<|Jl3 3 R<|Ob h λ_ bg h=>Jd3 R ay.rdc bg U31 Z2<|Jc3 R I2 (ay.rdc.gInt bg)<|Ob h λdd bh h=>Jd3 R a4.rdc bh U31 Z2<|Jc3 R I2 ((a4.stp<|T5 j k m n f).rdc.gInt bh)<|Jb 1 R<|Jq<|Xn N [0,2,5] [5,17,0,8,11,12,20,21,25,29,32] λ_ o=>Jn 2 R<|Jg R (Jd2 isAgg67 R R<|hvC ((a7.stp o).ld 0 R R) R)<|Ob h λbx bi h=>Jd3 R az bi U67 Z76<|Je3 R U76 R Z2 ?_
 obtain⟨_,cR,cM⟩:=((az.stp o)).gSt bi
 obtain⟨dl,dC,rfl,dv⟩:=Place.un cR
 refine Jg R (Jd2 I2 R R<|hvC (λa aA=>cM a aA 0 _ R) R)<|Jn 1 R (have a8:=cs.stp (T11 Q C y s t j k m n f o);Jg R (Jh4 (haC a8.cells R) I28 Z28 R) (Ob h λbz c1 h=>Jw3 R C25 (cF (J:=Mk N) (p0:=p0) c1)<|Ki λ_ bZ u=>⟨(u.cl R),Ob h λ_z61 c3 h=>Jf R (uf R R R<|A3 c3)<|Jn 1 R<|Jt1<|Jd<|Jj3<|Jc4 bZ E6 17 R Y31 bG R λb8 b6 bw an z cz=>Tv<|Jb 1 R<|Jq<|Jj3<|Je3 R U28 R Z2 (have a9:=a8.stp (u.tr z);Jc3 R I2 (a9.ld 1 R R) (Ob h λ_z65 c4 h=>Jf R (oP R R R<|r8 c4)<|Jb 1 R (Ob h λ_ cP h=>have cE:=hU cP;Ob h λbp cO cD=>Jt3 [4,5,6,7,8,9,10,12,13,16] (λd e a=>∃b,∃i:VI×VI,∃ad aa Y Z,e=(11,.slice ad i.1.length aa)::(17,.slice Y i.2.length Z)::d/\Stp [11,17,18,20] an bw b a/\Oc E6 2 b a 11 ad aa i.1/\Oc E6 2 b a 17 Y Z i.2/\bp=EW i) (Jv<|Ju3 [4,5,6,7,8,9,10,12,13,14,15,16,65] (λg d e a=>∃b q,∃p:VI×VI,∃I H S ae,e=(11,.slice I p.1.length H)::(17,.slice S p.2.length ae)::(66,vi q)::d/\Stp [11,17,18,20] an bw b a/\Oc E6 2 b a 11 I H p.1/\Oc E6 2 b a 17 S ae p.2/\0<=q/\ES ((ET .i64 (1 * 2 ^ (min (ES p0.Out)<|IntKind.bits IntKind.i64)))-q)=g/\cntM (fV p0 p1 p2 K dc dd bx bz) g q p=some bp) ⟨_,_,⟨an,0,(c.1,([]:VI)),F,D,b8,b6,R,Jo3,Fct,cz,(by decide),(by simp),cO⟩,(KM R)⟩ ?_) ?_)))⟩))
 rintro g _ c8 ⟨A,q,p,I,H,S,ae,rfl,B,cc,cd,cG,bc,h⟩
 rcases g with _|g
 exact Jf3 R<|Jq<|Jx2 R (dcf bc)<|Jc1<|Jt<|Jt<|Jb1<|Oh h<|Jw1 _ ⟨A,(p.1,p.2),I,H,S,ae,R,Fct,cc,cd,R⟩<|KM R
 refine Ob h λdA h cH=>have aj:=dct bc;Jf3 R (Jq<|Jw2 R aj<|Js<|Jp<|Jq<|Jv<|Jf3 R<|Jq<|Ob h λ_ bj h=>Ob h λ_ bk h=>Ob h λaC ak h=>Jt3 [4,5,6,7,8,9,10,11,12,13,14,15,16,17,65,66] (λd e a=>∃b v,e=(19,.pointer (some ⟨v,0,none⟩))::d/\Stp [18,20] A c8 b a/\Bc b a 18 v 2 [vi aC]) (WC.rxt (J:=A) [0,2,3] none (by kernel_rfl) λ_ O=>Jq1 (fuel:=7) [(0,2),(2,2),(5,2),(9,2),(1,0),(3,2),(4,0),(6,0)] (by kernel_rfl) (by kernel_rfl) R<|Je3 R U58 R Z32<|Jn 3 R<|Jg R (Jd2 I32 R R<|hvC ((a5.stp<|T10 j k m n f o u z B O).ld 0 R R) R)<|Jd3 R ba bj U32 Z31 ?_) ?_)
 obtain⟨_,_,ai,cI⟩:=(ba.stp (T16 aq Q C y s t j k m n f o u z B O)).gSl bj
 exact Jg R (Jd2 I31 R R<|hvC cI R)<|Jg R (Jh4 (haC (a9.stp<|B.tr O).cells R) I28 Z28 R)<|Jp1<|WA.fork2 (fuel:=6) 7 13 (by kernel_rfl) R (Jw3 R C25 (cF (J:=Mk A) (p0:=p0) bk)<|Ki λ_ bC P=>⟨(P.cl R),Xs 0 [26,32,35,36,40,43]<|Jn 2 R<|Jd3 R ai ak U31 Z2<|Jg R (Jd2 I2 R R<|hvC (ai.gInt ak) R)<|Jy3 bC 20 R X2 R λv _ aD ao cf=>⟨((P.tr ao).cl R),Ja4 aD 20 (vc:=[vi aC]) R Z2 R cf R λ_ aJ _=>⟨((T3 P ao aJ).cl R),Xe<|Jo<|Jw1 _ ⟨(λav=>ren [(20,18)]<|aD av),v,R,(Jz2 ((T4 O P ao aJ).wk R) [(20,18)] R),Fct⟩<|KM R⟩⟩⟩)<|Jy3 A 18 R X2 R λv _ bD ap _=>⟨(ap.cl R),Xs 0 [22,26,32,35,36,43]<|Jw3 R C25 (cF (J:=Mk bD) (p0:=p0) bk)<|Ki λ_ aE aK=>⟨((ap.tr aK).cl R),Jn 2 R<|Jd3 R ai ak U31 Z2<|Jg R (Jd2 I2 R R<|hvC (ai.gInt ak) R)<|Ja4 aE 18 (vc:=[vi aC]) R Z2 R Fct R λ_ b1 cg=>⟨((T3 ap aK b1).cl R),Xe<|Jo<|Jw1 _ ⟨aE,v,R,Fct,cg⟩<|KM R⟩⟩⟩
 rintro _ _ ⟨bB,v,rfl,aI,_⟩
 refine Jp<|Jj3<|Je3 R U66 R Z62<|Je3 R U62 R Z32 (have a0:=a2.stp (T11 t j k m n f o u z B aI);Jc3 R I32 (a0.ld 1 R R) (Jn 1 R<|Ob h λ_ bl h=>Jd3 R a3 bl U32 Z31 ?_))
 have aw:=a3.stp (T11 t j k m n f o u z B aI)
 obtain⟨_,_,_,cJ⟩:=aw.gSl bl
 refine Jc3 R I31 cJ<|Jf R (dH (first:=[]) (captured:=[.tmp 7,.tmp 19]) R R R ⟨_,R⟩)<|Ob h λ_ c2 h=>Jw3 R call26 (fg (J:=Mk bB) Gct Gct Fct Fct c2)<|Ki λ_ bF aL=>Tv<|Jb 1 R<|Jj3<|Je3 R U66 R Z62<|Je3 R U62 R Z32<|Jc3 R I32 ((a0.stp aL).ld 1 R R)<|Jn 1 R<|Ob h λ_ bm h=>Jd3 R aw bm U32 Z31 ?_
 obtain⟨_,_,a1,cK⟩:=(aw.stp aL).gSl bm
 refine Jc3 R I31 cK<|Jn 1 R<|Ob h λde bn h=>Jd3 R a1 bn U31 Z2<|Jc3 R I2 (a1.gInt bn)<|Jb 1 R<|Jl3 2 R<|Ob h λdD cV h=>Jw3 R call28 (dN (J:=Mk bF) Gct cV)<|Ki λc9 am _=>Tv<|Jb 1 R<|Jq<|Jf3 R<|Ob h λL h cB=>Jt3 [4,5,6,7,8,9,10,12,13,14,15,16,17,65,66] (λd e a=>∃b X ab,e=(11,.slice X L.1.length ab)::(22,vi L.2)::d/\Stp [11] am c9 b a/\Oc E6 2 b a 11 X ab L.1) ?_ ?_
 exact Bk h (λcS h=>Jy R<|Js<|Oh h<|Jw1 _ ⟨am,I,H,R,Jo3,Fct⟩<|KM R) (λcS h=>Jx R<|Jl3 1 R<|Js3 R U31 R R<|Jb 1 R<|Jm3 2 R<|Ji4 am 23 [de] R Y31 bG R λdh dq _ bN _ ci=>Tv<|Ob h λ_ cW h=>Jd4 bN E6 11 [] R Y31 bG R Fct (EV (bO _) ci.rdc) bJ cW R λca b4 _ bP _ cj=>Tv<|Jc 1 R<|Oh h<|Jw1 _ ⟨bP,ca,b4,R,Fct,cj⟩<|KM R)
 rintro _ _ ⟨bH,X,ab,rfl,_,_⟩
 refine have h:=cB;Jp (Jm3 2 R<|Ji4 bH 23 [L.2] R Y31 bG R λdt dj _ bR _ ck=>Tv<|Ob h λda cX h=>Jd4 bR E6 17 [] R Y31 bG R Fct (EV (bO _) ck.rdc) bJ cX R λb5 b9 _ bS _ cl=>Tv<|Jc 1 R<|Jz<|Jp<|Jg3 R ?_)
 have cU:ET .i64 (q+1)=q+1:=wr1 cG (Jn2 aj) cE
 rw[cU]
 have aj:=Jn2 aj
 cases h
 exact Ja2 ⟨bS,q+1,(L.1,da),X,ab,b5,b9,R,Fct,Fct,cl,by omega,by omega,cH⟩ R
 rintro _ _ ⟨b0,i,ad,aa,Y,Z,rfl,b2,_,_,rfl⟩
 refine have h:=yI cD;Jp (Jj3<|Je3 R U34 R Z31<|Jc3 R I31 ((a6.stp<|T5 f o u z b2).ld 0 R R)<|Jn 1 R<|Ji4 b0 18 [(Int.tmod (ET .i64<|bx.At-(p1.Next.length:Int)) bz)] R Y31 bG R λdr dm _ bU _ cm=>Tv<|Ob h λal cY h=>Jd4 bU E6 13 [] R Y31 bG R Fct (EV (bO _) cm.rdc) bJ cY R λah ac _ aF _ _=>Tv<|Je3 R U34 R Z31<|Jz3 aF 12 (off:=0) (vc:=[.slice ah al.length ac]) (cs':=[.slice ah al.length ac,.slice E c.2.2.2.length G]) R Z31 R Fct R λ_ _ cn=>Tv<|Jd<|Jk3<|Je3 R U34 R Z32<|Jc3 R I32 (cn.ld 1 R R)<|Jn 1 R<|Jb4 aF (ER E6 2) 19 [17] (parts:=[(0,.tmp 123)]) (cells:=[.slice Y i.2.length Z]) (xs:=([i.2]:VV)) R Y32 bL R (Jj4 ⟨_,_,R,Fct⟩) λds dg _ bV _ co=>Tv<|Ob h λaB cZ h=>Jd4 bV (ER E6 2) 14 [19] R Y32 bL R Fct co.src (c7 R) cZ R λau ar _ aG _ _=>Tv<|Je3 R U34 R Z32<|Jz3 aG 12 (off:=1) (vc:=[.slice au aB.length ar]) (cs':=[.slice ah al.length ac,.slice au aB.length ar]) R Z32 R Fct R λ_ _ cp=>Tv<|Jo<|Jz<|Jp<|Jg3 R ?_)
 cases h
 exact Ja2 ⟨aG,(i.1,((ET .i64<|c.2.1+1):Int),al,aB),ad,aa,ah,ac,au,ar,R,Fct,Fct,Fct,Fct,cp,bd⟩ R
 rintro _ _ ⟨aH,x,aX,aP,W,U,af,ag,rfl,_,_,_,_,cv,rfl⟩
 exact have h:=yI cC;Jp (Jj3<|Jg4 tv R (Jh4 (haE cv.cells) I34 Z34 R)<|Jm4 aH 6 R Z34 R Fct R λ_ _ cq=>Tv<|Jd<|Ju<|Jb2 (l:=[.cell 8 34]) results23 (bM R cq I34 Z34 R R) R<|Oh h<|⟨(λav=>ren [(13,2),(14,3)]<|aH av),W,U,af,ag,R,Fct,Fct,Fct⟩)
theorem rD {o n q p}{p0:Arena}{m u}{p1:VP}{p2:Int}(an:Rd Ri J w 0 o n p0.Owner) (ao:Rd Rs J w 0 q p p0.Next) (ap:Rd Pair.rp J w 0 m u p1){r:Int}(h:mB p0 p1 p2=some r):Ret prog 119 [.agg #[.slice o p0.Owner.length n,.slice q p0.Next.length p],.slice m p1.length u,vi p2] w (Pvi J w r):=by
 refine Jp3 J func119 R ntmps119 R λaq=>Jj3<|Jx3 J 2 R λ_ _ v _ a=>Tv<|Jb 1 R<|Jq<|Jj3<|Jg4 tv R (Jh4 (haE a.cells) I62 Z62 R)<|Ob h λar Q h=>Jw3 R call115 (qx (J:=Mk v) (p0:=p0) Gct Gct Q)<|Kb λaa g c=>Tv<|Jn 2 R<|Ob h λX h K=>Jk4 [1,2,3] 19 X g aa 6 tv ?_ ?_
 exact Bk h (λM h=>Jn 1 R<|Jg4 tv R (Jh4 (haE (a.stp c).cells) I62 Z62 R)<|Ob h λ_ S h=>Jw3 R call114 (rH (J:=Mk g) (p0:=p0) Gct Gct S)<|Ki λ_ x _=>Tv<|Ob h λ_ T h=>Jw3 R call118 (pY (J:=Mk x) Gct T)<|Kb λ_ _ _=>Tv<|Jn 2 R<|Oh h<|Jv1 _ tv ⟨R,_,Fct⟩<|KM R) (λM h=>Jn 1 R<|Je4 R<|Je4 R<|Je4 R<|Jn 2 R<|Oh h<|Jl4 tv R)
 rintro _ Z _ ⟨rfl,i,k⟩
 refine Jn 1 R<|Ob K λY h L=>Jk4 [1,2,3] 25 Y i Z 5 tv ?_ ?_
 exact Bk h (λN h=>Jg4 tv R (Jh4 (haE (a.stp<|c.tr k).cells) I62 Z62 R)<|Jn 1 R<|Ob h λ_ U h=>Jw3 R call177 (tw (J:=Mk i) (p0:=p0) Gct Gct U)<|Kb λ_ _ _=>Tv<|Jn 2 R<|Oh h<|Jv1 _ tv ⟨R,_,Fct⟩<|KM R) (λN h=>Je4 R<|Jn 1 R<|Je4 R<|Jn 2 R<|Oh h<|Jl4 tv R)
 rintro _ _ _ ⟨rfl,j,A⟩
 refine have h:=L;Jd ?_
 refine Bk h (λO h=>Jy R<|Js<|Jp<|Jj3<|Jg4 tv R (Jh4 (haE (a.stp ((T3 c k A))).cells) I62 Z62 R)<|Jn 2 R<|Ob h λab V h=>Jw3 R call21 (mD (J:=λB=>mp [] 1<|j B) (p0:=p0) (Jm2 Fct (mp [] 1) R R) (Jm2 Fct (mp [] 1) R R) (Jm2 Fct (mp [] 1) R R) V) ?_) (λO h=>Jx R<|Jf3 R<|Ju<|Jw<|Jb2 (l:=[.tmp 6]) results119 (Jq2 R R) R<|Oh h<|⟨j,R,Fct⟩)
 rintro _ _ ⟨_,al,af,ad,ae,ak,am,ag,ah,rfl,C,D,E,F,_⟩
 refine Im0 C 5 R (λy _ f ac=>Tv<|Jn 4 R<|Jy3 y 11 R X66 R λ_ _ b d G=>Tv<|Jm4 b 11 R Z66 R G R λ_ e H=>Tv<|Jb 2 R<|Jq<|Jf3 R ?_)
 exact Bk h (λP h=>Jy R<|Js<|Jp<|Jj3<|Jg4 tv R (Jh4 (haE H.cells) I66 Z66 R)<|Ob h λ_ W h=>Jw3 R call22 (ku (J:=Mk b) (p0:=ab.1) (Jn3 ((D.mx (bI _) f R (R:5+2=7)).stp (d.tr e)).rdc) (Jn3 ((E.mxz ac f R (R:5+3=8)).stp (d.tr e)).rdc) (Jn3 ((F.mx (bI _) f R (R:5+4=9)).stp (d.tr e)).rdc) W) (Ks 14 (bI _) λaj ai _ z _ I=>Tv<|have s:=I;Ob h λ_ t h=>Jd3 R s.rdc t U31 Z2<|Jc3 R I2 (s.rdc.gInt t)<|Jb 1 R<|Ju<|Jb2 (l:=[.tmp 6]) results119 (Jq2 R R) R<|Oh h<|⟨z,R,Fct⟩)) (λP h=>Jx R<|Jf3 R<|Ju<|Jw<|Jb2 (l:=[.tmp 6]) results119 (Jq2 R R) R<|Oh h<|⟨b,R,Fct⟩)
theorem lj {p0:Sig}{B z C u}{p1:Det}{x A y v}{p2:Det}(ar:Rd Rs J w 0 B z p1.Next) (au:Rd Pair.rp J w 0 C u p1.Pairs) (av:Rd Rs J w 0 x A p2.Next) (aw:Rd Pair.rp J w 0 y v p2.Pairs){r:Det×Bool}(h:mc p0 p1 p2=some r):Ret prog 89 [.agg #[vi p0.In,vi p0.Out],.agg #[.slice B p1.Next.length z,.slice C p1.Pairs.length u],.agg #[.slice x p2.Next.length A,.slice y p2.Pairs.length v]] w (λao n=>∃o E G F H,ao= .tuple #[.agg #[.slice E r.1.Next.length G,.slice F r.1.Pairs.length H],.bool r.2]/\Ent J w o n/\Oc (ER E6 2) 31 o n 2 E G r.1.Next/\Oc Pair.ep96 96 o n 3 F H r.1.Pairs):=by
 refine Jp3 J func89 R ntmps89 R λax=>Jj3<|Jx3 J 2 R λ_ _ L _ X=>Tv<|Jx3 L 3 R λ_ _ N P ab=>Tv<|Jx3 N 4 R λ_ _ I s j=>Tv<|Jy3 I 5 R X58 R λ_ _ K b _=>Tv<|Jb 1 R<|Jq<|Jj3 (have k:=X.stp (T3 P s b);Jg4 tv R (Jh4 (haE k.cells) I28 Z28 R) (have m:=ab.stp (s.tr b);Jg4 tv R (Jh4 (haE m.cells) I58 Z58 R) (Ob h λay ai h=>Jw3 R call120 (nQ (J:=Mk K) (p0:=p0) (p1:=p1) Gct Gct ai)<|Kb λap p a=>Tv<|Jn 2 R<|Ob h λam h ad=>Jk4 [3,4,5,6] 17 am p ap 5 tv ?_ ?_)))
 exact Bk h (λaf h=>Jg4 tv R (Jh4 (haE (k.stp a).cells) I28 Z28 R)<|Jg4 tv R (Jh4 (haE (j.stp<|b.tr a).cells) I58 Z58 R)<|Ob h λ_ aj h=>Jw3 R call120 (nQ (J:=Mk p) (p0:=p0) (p1:=p2) Gct Gct aj)<|Kb λ_ _ _=>Tv<|Jn 2 R<|Oh h<|Jv1 _ tv ⟨R,_,Fct⟩<|KM R) (λaf h=>Je4 R<|Je4 R<|Je4 R<|Jn 2 R<|Oh h<|Jl4 tv R)
 rintro _ aq _ ⟨rfl,M,c⟩
 refine Jn 1 R<|Ob ad λan h ae=>Jk4 [3,4,5,6] 27 an M aq 9 tv ?_ ?_
 exact Bk h (λag h=>Je3 R U58 R Z56<|Jc3 R I56 ((m.stp<|a.tr c).ld 1 R R)<|Js3 R U56 R R<|Je3 R U58 R Z56<|Jc3 R I56 ((j.stp<|T3 b a c).ld 1 R R)<|Js3 R U56 R R<|Jn 3 R<|Oh h<|Jl4 tv R) (λag h=>Jn 1 R<|Je4 R<|Jn 2 R<|Je4 R<|Jn 4 R<|Oh h<|Jl4 tv R)
 rintro _ _ _ ⟨rfl,d,e⟩
 refine have h:=ae;Jd ?_
 refine Bk h (λah h=>Jy R<|Js<|Jp<|Jq<|Xn d [2,3,4] [0,3,6,10,13,17,20,22,26] λ_ f=>Jg R (Jh4 (haC (m.stp<|T4 a c e f).cells R) I58 Z58 R)<|Jg R (Jh4 (haC (j.stp<|T5 b a c e f).cells R) I58 Z58 R)<|Jg R (Jh4 (haC (k.stp<|T4 a c e f).cells R) I28 Z28 R)<|Ob h λ_ ak h=>Jw3 R call88 (eQ (J:=Mk d) (p0:=p0) ak)<|Ki λ_ O g=>⟨(g.cl R),Ob h λ_ al h=>Jw3 R call147 (um (J:=Mk O) (p0:=p1) (p1:=p2) Gct Gct Gct Gct al) ?_⟩) (λah h=>Jx R<|Jj3<|Jf R (Jn4 [.slice none 0 0,.slice none 0 0] R)<|Jm4 d 5 R Z58 R Fct R λ_ _ Y=>Tv<|Jb 1 R<|Ju<|Jw<|Jb2 (l:=[.cell 6 58,.tmp 7]) results89 (bM R Y I58 Z58 R<|Jq2 R R) R<|Oh h<|⟨d,none,0,none,0,R,Fct,EY,EY⟩)
 rintro _ _ ⟨_,Q,U,T,S,rfl,W,Z,aa⟩
 exact Im W 10 R (λq t D=>⟨((g.tr t).cl R),Jn 2 R<|Jm4 q 5 R Z58 R Fct R λ_ i ac=>⟨((T3 g t i).cl R),Jn 1 R<|Jt1<|Jd<|Ju<|Jb2 (l:=[.cell 6 58,.tmp 7]) results89 (bM R ac I58 Z58 R<|Jq2 R R) R<|Oh h<|⟨(λV=>ren [(12,2),(13,3)]<|q V),Q,U,T,S,R,Fct,(((Z.mx (cK (bI _) _) D R (R:10+2=12)).stp i).map (ren [(12,2),(13,3)]) R R),(((aa.mx Pair.no96 D R (R:10+3=13)).stp i).map (ren [(12,2),(13,3)]) R R)⟩⟩⟩)
theorem oT {p0:Sig}{bv bt bw bu}{p1:Det}(dz:Rd Rs J w 0 bv bt p1.Next) (dA:Rd Pair.rp J w 0 bw bu p1.Pairs){r:Arena×VP×Bool}(h:gc p0 p1=some r):Ret prog 74 [.agg #[vi p0.In,vi p0.Out],.agg #[.slice bv p1.Next.length bt,.slice bw p1.Pairs.length bu]] w (λef a=>∃b b2 b5 b3 b6 b4 b7,ef= .tuple #[.agg #[.slice b2 r.1.Owner.length b5,.slice b3 r.1.Next.length b6],.slice b4 r.2.1.length b7,.bool r.2.2]/\Ent J w b a/\Oc E6 2 b a 2 b2 b5 r.1.Owner/\Oc (EZ Rs) 31 b a 3 b3 b6 r.1.Next/\Oc Pair.ep96 96 b a 4 b4 b7 r.2.1):=by
 refine Jp3 J func74 R ntmps74 R λeF=>Jj3<|Jx3 J 2 R λ_ _ cn bs di=>Tv<|Jx3 cn 3 R λ_ _ cs aY dt=>Tv<|Jy3 cs 4 R X62 R λ_ _ cf O _=>Tv<|Jb 2 R<|Jq<|Jj3 (have bx:=di.stp (aY.tr O);Jg4 tv R (Jh4 (haE bx.cells) I28 Z28 R) (have bB:=dt.stp O;Jg4 tv R (Jh4 (haE bB.cells) I58 Z58 R) (Ob h λeP d7 h=>have bD:=dz.stp (T3 bs aY O);have a7:=dA.stp (T3 bs aY O);Jw3 R call120 (nQ (J:=Mk cf) (p0:=p0) (p1:=p1) Gct Gct d7) (Kb λ_ bf aW=>Tv<|Jb 1 R ?_))))
 refine Bk h (λd1 h=>Jy R<|Js<|Jp<|Jj3<|Je3 R U58 R Z32 (have aA:=bB.stp aW;Jc3 R I32 (aA.ld 0 R R) (Js3 R U32 R R<|Jb 1 R<|Jj3 (have bN:=bx.stp aW;Jg4 tv R (Jh4 (haE bN.cells) I28 Z28 R) (Ob h λx d8 h=>Jw3 R call77 (lB (J:=Mk bf) (p0:=p0) d8)<|Ki λ_ cr S=>Tv<|Jb 1 R<|Jj3<|Jf R (Jn4 [.slice none 0 0,.slice none 0 0] R)<|Jy3 cr 9 R X62 R λs _ N T dj=>Tv<|Jm4 N 9 R Z62 R dj R λcb U dk=>Tv<|Jd<|Jq<|Jf3 R<|Ob h λbZ dV dE=>Jt3 [2,3,4,7,8,9] (λd e a=>∃b,∃m:VI×VV,∃ah au aq ak,e=d/\Stp [9,10,11,12,14] N cb b a/\Oc E6 2 b a 10 ah au m.1/\Oc (EZ<|Rs) 31 b a 11 aq ak m.2/\Bc b a 9 s 62 [.slice ah m.1.length au,.slice aq m.2.length ak]/\bZ=EW m) (Jv<|Ju3 [2,3,4,7,8,9] (λc d e a=>∃b g,∃i:VI×VV,∃Y aj C B,e=(10,vi g)::d/\Stp [9,10,11,12,14] N cb b a/\Oc E6 2 b a 10 Y aj i.1/\Oc (EZ<|Rs) 31 b a 11 C B i.2/\Bc b a 9 s 62 [.slice Y i.1.length aj,.slice C i.2.length B]/\0<=g/\ES ((p1.Next.length:Int)-g)=c/\cntM (gf p1 x) c g i=some bZ) ⟨_,_,⟨N,0,(([]:VI),([]:VV)),none,0,none,0,R,Jo3,EY,EY,dk,(by decide),(by simp),dV⟩,(KM R)⟩ ?_) ?_))))) (λd1 h=>Jx R<|Jj3<|Jf R (Jn4 [.slice none 0 0,.slice none 0 0] R)<|Jc4 bf Pair.ep96 7 R Y56 cN R λcK cG _ bh _ _=>Tv<|Jm4 bh 4 R Z62 R Fct R λ_ _ dh=>Tv<|Jb 2 R<|Ju<|Jw<|Jb2 (l:=[.cell 4 62,.tmp 5,.tmp 6]) results74 (bM R dh I62 Z62 R<|Jq2 R<|Jq2 R R) R<|Oh h<|⟨(λI=>ren [(7,4)]<|bh I),none,0,none,0,cK,cG,R,Fct,EY,EY,Fct⟩)
 rintro c _ _ ⟨bi,g,i,Y,aj,C,B,rfl,_,dp,dq,bP,dK,bR,h⟩
 rcases c with _|c
 exact Jq<|Jf3 R<|Jx2 R (dcf bR)<|Jc1<|Jt<|Jt<|Jb1<|Oh h<|Jw1 _ ⟨bi,(i.1,i.2),Y,aj,C,B,R,Fct,dp,dq,bP,R⟩<|KM R
 refine Ob h λeJ h dO=>have aF:=dct bR;Jq (Jf3 R<|Jw2 R aF<|Js<|Jp<|Jq<|Jv<|Jj3<|Jc4 bi E6 12 R Y31 bG R λcH cI cd aQ cC dr=>Tv<|Jb 1 R<|Jq<|Jf3 R (Ob h λ_ dY h=>have dH:=hU dY;Ob h λb0 dW dF=>Jt3 [2,3,4,7,8,9,10] (λd e a=>∃b,∃t:VI,∃ac aw,e=(11,.slice ac t.length aw)::d/\Stp [12] aQ cd b a/\Oc E6 2 b a 12 ac aw t/\b0=EW t) (Jv<|Ju3 [2,3,4,7,8,9,10] (λc d e a=>∃b o,∃L:VI,∃ai ae,e=(11,.slice ai L.length ae)::(12,vi o)::d/\Stp [12] aQ cd b a/\Oc E6 2 b a 12 ai ae L/\0<=o/\ES (x-o)=c/\cntM (gg p1 x g) c o L=some b0) ⟨_,_,⟨aQ,0,([]:VI),cH,cI,R,Jo3,dr,(by decide),(by simp),dW⟩,(KM R)⟩ ?_) ?_))
 rintro c _ _ ⟨bj,o,L,ai,ae,rfl,_,du,bU,aD,h⟩
 rcases c with _|c
 exact Jq<|Jf3 R<|Jx2 R (dcf aD)<|Jc1<|Jt<|Jt<|Jb1<|Oh h<|Jw1 _ ⟨bj,L,ai,ae,R,Fct,du,R⟩<|KM R
 refine Ob h λeK h dP=>Jq<|Jf3 R<|Jw2 R (dct aD)<|Js<|Jp<|Jq<|Jv<|Jm3 8 R<|Ji4 bj 13 [(ET .i64 ((ET .i64 ((p1.Next.length:Int)+(ET .i64<|g * x)))+o))] R Y31 bG R λet er _ cu _ dw=>Tv<|Ob h λei d9 h=>Jd4 cu E6 12 [] R Y31 bG R Fct (EV (bO _) dw.rdc) bJ d9 R λcF cM _ cv _ dx=>Tv<|Jc 1 R<|Jz<|Jp<|Jg3 R<|wr2 bU aD dH ▸ ?_
 cases h
 exact Ja2 ⟨cv,o+1,ei,cF,cM,R,Fct,dx,nxz bU,nxm aD,dP⟩ R
 rintro _ _ ⟨ct,t,ac,aw,rfl,cD,ds,rfl⟩
 refine have h:=yI dF;Jp (Jj3<|Je3 R U62 R Z31<|Jc3 R I31 ((bP.stp<|cC.tr cD).ld 0 R R)<|Ji4 ct 13 [1] R Y31 bG R λes ew _ cw cE dy=>Tv<|Ob h λaJ ea h=>Jd4 cw E6 10 [] R Y31 bG R Fct (EV (bO _) dy.rdc) bJ ea R λaf ag _ bk cx _=>Tv<|Je3 R U62 R Z31<|Jz3 bk 9 (off:=0) (vc:=[.slice af aJ.length ag]) (cs':=[.slice af aJ.length ag,.slice C i.2.length B]) R Z31 R Fct R λeg cy cT=>Tv<|Jd<|Jk3<|Je3 R U62 R Z32<|Jc3 R I32 (cT.ld 1 R R)<|Jn 1 R ?_)
 obtain⟨cg,_,ej⟩:=dg bk eg 12
 refine Jb4 cg (EZ<|Rs) 14 [] (parts:=[(0,.tmp 57)]) (cells:=[.slice ac t.length aw]) (xs:=([t]:VV)) R Y32 bL R (Jj4 ⟨_,_,R,(Sl.z1<|Sl.st ej (ds.stp<|T3 cE cx cy).rdc)⟩) λep eu _ ch _ cU=>Tv<|Ob h λba eb h=>Jd4 ch (EZ<|Rs) 11 [14] R Y32 bL R Fct cU.src (c7 R) eb R λaZ a0 _ bc _ _=>Tv<|Je3 R U62 R Z32<|Jz3 bc 9 (off:=1) (vc:=[.slice aZ ba.length a0]) (cs':=[.slice af aJ.length ag,.slice aZ ba.length a0]) R Z32 R Fct R λ_ _ cV=>Tv<|Jo<|Jz<|Jp<|Jg3 R ?_
 have d3:ET .i64 (g+1)=g+1:=wr1 dK (Jn2 aF) bD.len_le
 rw[d3]
 have aF:=Jn2 aF
 cases h
 exact Ja2 ⟨bc,g+1,(aJ,ba),af,ag,aZ,a0,R,Fct,Fct,Fct,cV,by omega,by omega,dO⟩ R
 rintro _ cc ⟨aP,m,ah,au,aq,ak,rfl,V,dl,dm,dn,rfl⟩
 refine have h:=yI dE;Jp (Jq<|Jf3 R<|Ob h λb1 dS dB=>Jt3 [3,4,9] (λd e a=>∃b,∃u:VI×VV,∃X ad ap an,e=d/\Stp [9,10,11,16] aP cc b a/\Oc E6 2 b a 10 X ad u.1/\Oc (EZ<|Rs) 31 b a 11 ap an u.2/\Bc b a 9 s 62 [.slice X u.1.length ad,.slice ap u.2.length an]/\b1=EW u) (Jv<|Ju3 [2,3,4,7,8,9] (λc d e a=>∃b p,∃f:VI×VV,∃G D F H,e=(13,vi p)::d/\Stp [9,10,11,16] aP cc b a/\Oc E6 2 b a 10 G D f.1/\Oc (EZ<|Rs) 31 b a 11 F H f.2/\Bc b a 9 s 62 [.slice G f.1.length D,.slice F f.2.length H]/\0<=p/\ES ((p1.Next.length:Int)-p)=c/\cntM (gh p0 p1 x) c p f=some b1) ⟨_,_,⟨aP,0,(m.1,m.2),ah,au,aq,ak,R,Jo3,dl,dm,dn,(by decide),(by simp),dS⟩,(KM R)⟩ ?_) ?_)
 rintro c _ b8 ⟨M,p,f,G,D,F,H,rfl,cz,bz,bA,bC,bS,aB,h⟩
 rcases c with _|c
 exact Jq<|Jf3 R<|Jx2 R (dcf aB)<|Jc1<|Jt<|Jt<|Jb1<|Oh h<|Jw1 _ ⟨M,(f.1,f.2),G,D,F,H,R,Fct,bz,bA,bC,R⟩<|KM R
 refine Ob h λeG h dL=>Jq<|Jf3 R<|Jw2 R (dct aB)<|Js<|Jp<|Jq<|Jv<|Jf3 R (Ob h λ_ dX h=>have dG:=hU dX;Ob h λbX dT dC=>Jt3 [2,3,4,7,8,9,13] (λd e a=>∃b,∃k:VI×VV,∃al W ar av,e=d/\Stp [9,10,11,16] M b8 b a/\Oc E6 2 b a 10 al W k.1/\Oc (EZ<|Rs) 31 b a 11 ar av k.2/\Bc b a 9 s 62 [.slice al k.1.length W,.slice ar k.2.length av]/\bX=EW k) (Jv<|Ju3 [2,3,4,7,8,9,13] (λc d e a=>∃b n,∃j:VI×VV,∃ax am E A,e=(14,vi n)::d/\Stp [9,10,11,16] M b8 b a/\Oc E6 2 b a 10 ax am j.1/\Oc (EZ<|Rs) 31 b a 11 E A j.2/\Bc b a 9 s 62 [.slice ax j.1.length am,.slice E j.2.length A]/\0<=n/\ES (x-n)=c/\cntM (gi p0 p1 p) c n j=some bX) ⟨_,_,⟨M,0,(f.1,f.2),G,D,F,H,R,Jo3,bz,bA,bC,(by decide),(by simp),dT⟩,(KM R)⟩ ?_) ?_)
 rintro c _ _ ⟨bd,n,j,ax,am,E,A,rfl,bm,c0,bE,bF,dJ,bQ,h⟩
 rcases c with _|c
 exact Jq<|Jf3 R<|Jx2 R (dcf bQ)<|Jc1<|Jt<|Jt<|Jb1<|Oh h<|Jw1 _ ⟨bd,(j.1,j.2),ax,am,E,A,R,Fct,c0,bE,bF,R⟩<|KM R
 refine Ob h λeH h dM=>have aE:=dct bQ;Jq (Jf3 R<|Jw2 R aE<|Js<|Jp<|Jq<|Jv<|Jj3<|Je3 R U62 R Z31<|Jc3 R I31 (bF.ld 0 R R)<|Ji4 bd 12 [0] R Y31 bG R λeq ev _ ck aT c1=>Tv<|Ob h λaK ec h=>Jd4 ck E6 10 [] R Y31 bG R Fct (EV (bO _) c1.rdc) bJ ec R λZ ay _ aL aU c2=>Tv<|Je3 R U62 R Z31<|Jz3 aL 9 (off:=0) (vc:=[.slice Z aK.length ay]) (cs':=[.slice Z aK.length ay,.slice E j.2.length A]) R Z31 R Fct R λ_ P c3=>Tv<|Jd<|Xr aL [2,3,9] (some 10) [2,14,17,3,6,9,19,22,25,29] [31] λ_ y=>Je3 R U62 R Z32<|Jn 2 R (have c4:=c3.stp y;have bl:=(T10 S T U V cz bm aT aU P y);Jg R (Jd2 I32 R R<|hvC (c4.ld 1 R R) R) (Jg R (Jh4 (haC (bN.stp bl).cells R) I28 Z28 R)<|Jg R (Jh4 (haC (aA.stp bl).cells R) I58 Z58 R)<|Ob h λce ed h=>Jw3 R call122 (uM (J:=λI=>mp [] 1<|aL I) (p0:=p0) (p1:=p1) (Jm2 Fct (mp [] 1) R R) (Jm2 Fct (mp [] 1) R R) ed) ?_)))
 rintro _ _ ⟨_,cR,cJ,rfl,cS,c5⟩
 refine Im0 cS 13 R (λcl q _ ek=>⟨(q.cl R),Jb4 cl (EZ<|Rs) 16 [] (parts:=[(0,.tmp 82)]) (cells:=[.slice cR ce.length cJ]) (xs:=([ce]:VV)) R Y32 bL R (Jj4 ⟨_,_,R,(Sl.z1<|c5.mx ek)⟩) λex eA _ cm z c6=>⟨((q.tr z).cl R),Ob h λbb ee h=>Jd4 cm (EZ<|Rs) 11 [16] R Y32 bL R (bE.stp<|T6 aT aU P y q z) c6.src (c7 R) ee R λa2 a3 _ be aV _=>⟨((T3 q z aV).cl R),Je3 R U62 R Z32<|Jt1<|Jz3 be 9 (off:=1) (vc:=[.slice a2 bb.length a3]) (cs':=[.slice Z aK.length ay,.slice a2 bb.length a3]) R Z32 R Fct R λ_ bn c8=>Tv<|Jo<|Jz<|Jp<|Jg3 R ?_⟩⟩⟩)
 have d2:ET .i64 (n+1)=n+1:=wr1 dJ (Jn2 aE) dG
 rw[d2]
 have aE:=Jn2 aE
 cases h
 exact Ja2 ⟨be,n+1,(aK,bb),Z,ay,a2,a3,R,(T9 bm aT aU P y q z aV bn).wk R,(c2.stp<|T6 P y q z aV bn),Fct,c8,by omega,by omega,dM⟩ R
 rintro _ _ ⟨cj,k,al,W,ar,av,rfl,_,cX,cY,cZ,rfl⟩
 refine have h:=yI dC;Jz (Jp<|Jg3 R<|wr2 bS aB bD.len_le ▸ ?_)
 cases h
 exact Ja2 ⟨cj,p+1,(k.1,k.2),al,W,ar,av,R,Fct,cX,cY,cZ,nxz bS,nxm aB,dL⟩ R
 rintro _ _ ⟨ci,u,X,ad,ap,an,rfl,aS,_,_,cW,rfl⟩
 refine have h:=yI dB;Jp (Jj3<|Jc4 ci Pair.ep96 12 R Y56 cN R λcQ cL b9 aM Q c9=>Tv<|Jb 1 R<|Jq<|Jf3 R<|Ob h λbY dU dD=>Jt3 [4,9] (λd e a=>∃b,∃aG:VP,∃aa az,e=(15,.slice aa aG.length az)::d/\Stp [12,15,18,19] aM b9 b a/\Oc Pair.ep96 96 b a 12 aa az aG/\bY=EW aG) (Jv<|Ju3 [3,4,9] (λc d e a=>∃b v,∃K:VP,∃ab ao,e=(15,.slice ab K.length ao)::(16,vi v)::d/\Stp [12,15,18,19] aM b9 b a/\Oc Pair.ep96 96 b a 12 ab ao K/\0<=v/\ES ((p1.Pairs.length:Int)-v)=c/\cntM (gj p1) c v K=some bY) ⟨_,_,⟨aM,0,([]:VP),cQ,cL,R,Jo3,c9,(by decide),(by simp),dU⟩,(KM R)⟩ ?_) ?_)
 rintro c _ _ ⟨aN,v,K,ab,ao,rfl,aX,da,bT,aC,h⟩
 rcases c with _|c
 exact Jq<|Jl3 1 R<|Je3 R U58 R Z56<|Jc3 R I56 ((aA.stp<|T7 S T U V aS Q aX).ld 1 R R)<|Js3 R U56 R R<|Jb 1 R<|Jx2 R (dcf aC)<|Jc1<|Jt<|Jt<|Jb1<|Oh h<|Jw1 _ ⟨aN,K,ab,ao,R,Fct,da,R⟩<|KM R
 refine Ob h λeI h dN=>have dI:=dct aC;Jq (Jl3 1 R<|Je3 R U58 R Z56 (have bH:=aA.stp (T7 S T U V aS Q aX);Jc3 R I56 (bH.ld 1 R R) (Js3 R U56 R R<|Jb 1 R<|Jw2 R dI<|Js<|Jp<|Jq<|Jv<|Xn aN [0,3] [2,5,11,26,32,6,14,17,18,27,35,38,39,22,43,47,49,52,56] λ_ bo=>Jn 1 R<|Je3 R U58 R Z56<|Jn 1 R<|Je3 R U58 R Z56<|Jn 1 R (have bK:=bH.stp bo;Jg R (Jd2 I56 R R<|hvC (bK.ld 1 R R) R) (Ob h λ_ bW h=>Jd3 R a7 bW U56 Z96<|Je3 R U96 R Z31 ?_)))))
 have a8:=a7.stp (T9 aW S T U V aS Q aX bo)
 obtain⟨_,dZ,dQ⟩:=(a8).gSt bW
 obtain⟨el,eL,em,eM,rfl,eB,eC⟩:=Pair.un dZ
 refine Jg R (Jd2 I31 R R<|hvC (λa a9=>dQ a a9 0 _ R) R)<|Jg R (Jd2 I56 R R<|hvC (bK.ld 1 R R) R)<|Ob h λ_ bV h=>Jd3 R a8 bV U56 Z96<|Je3 R U96 R Z31 ?_
 obtain⟨_,d0,dR⟩:=(a8).gSt bV
 obtain⟨en,eN,eo,eO,rfl,eD,eE⟩:=Pair.un d0
 refine Jg R (Jd2 I31 R R<|hvC (λa a9=>dR a a9 1 _ R) R)<|Ob h λaH d4 h=>Jw3 R C95 (dv (J:=Mk aN) Gct d4)<|Ks 15 (bI _) λa6 a4 _ co bp db=>⟨(bp.cl R),Ob h λaI d5 h=>Jw3 R C95 (dv (J:=Mk co) Gct d5) (Ks 18 (bI _) λa5 a1 ca aO bq dc=>have aR:=(bp.tr bq);⟨(aR.cl R),Jf R (Jn4 [.slice a6 aH.length a4,.slice a5 aI.length a1] R)<|Jb4 aO Pair.ep96 19 [15,18] (parts:=[(0,.tmp 109)]) (cells:=[.slice a6 aH.length a4,.slice a5 aI.length a1]) (xs:=([(⟨aH,aI⟩:Pair)]:VP)) R Y56 cN R (Jj4 ⟨[.slice a6 aH.length a4],[.slice a5 aI.length a1],Zl aO ca [15],Zl aO ca [18],R,Zl.sp (l1:=[15]) (l2:=[18]) R,Zl.sr (l1:=[15]) (l2:=[18]),⟨_,_,R,(db.stp bq)⟩,⟨_,_,R,dc⟩⟩) λez ey _ cp br dd=>⟨((aR.tr br).cl R),Ob h λeh d6 h=>Jd4 cp Pair.ep96 12 [19] R Y56 cN R Fct dd.src (c7 R) d6 R λcO cP _ cq cB de=>⟨((T3 aR br cB).cl R),Jn 1 R<|Jt1<|Jo<|Jz<|Jp<|Jg3 R<|wr2 bT aC a7.len_le ▸ ?_⟩⟩⟩)⟩
 cases h
 exact Ja2 ⟨cq,v+1,eh,cO,cP,R,Fct,de,nxz bT,nxm aC,dN⟩ R
 rintro _ _ ⟨bg,aG,aa,az,rfl,cA,_,rfl⟩
 exact have h:=yI dD;Jp (Jj3<|Jg4 tv R (Jh4 (haE (cW.stp<|Q.tr cA).cells) I62 Z62 R)<|Jn 1 R<|Jm4 bg 4 R Z62 R Fct R λ_ _ df=>Tv<|Jb 2 R<|Ju<|Jb2 (l:=[.cell 4 62,.tmp 5,.tmp 6]) results74 (bM R df I62 Z62 R<|Jq2 R<|Jq2 R R) R<|Oh h<|⟨(λI=>ren [(10,2),(11,3),(12,4)]<|bg I),X,ad,ap,an,aa,az,R,Fct,Fct,Fct,Fct⟩)
theorem uJ {m p s n q o}{p0:Parity}{k u}{p1:VI}(ae:Rd Ri J w 0 m p p0.Arena.Owner) (af:Rd Rs J w 0 s n p0.Arena.Next) (ag:Rd Ri J w 0 q o p0.Prio) (ah:Rd Ri J w 0 k u p1){r:Bool}(h:nR p0 p1=some r):Ret prog 185 [.agg #[.slice m p0.Arena.Owner.length p,.slice s p0.Arena.Next.length n,.slice q p0.Prio.length o],.slice k p1.length u] w (Pvb J w r):=by
 refine Jp3 J func185 R ntmps185 R λai=>Jj3<|Jx3 J 2 R λ_ _ y _ t=>Tv<|Jb 1 R<|Jj3<|Jg4 tv R (Jh4 (haE t.cells) I66 Z66 R)<|Jn 1 R<|Ob h λv N h=>Jw3 R call207 (xR (J:=Mk y) (p0:=p0) Gct Gct Gct Gct N) ?_
 rintro _ _ ⟨_,V,W,Y,Z,ad,aa,rfl,D,E,F,G⟩
 refine Im D 3 R (λx C f=>Tv<|Jn 3 R<|Jy3 x 8 R X66 R λ_ _ a g H=>Tv<|Jm4 a 8 R Z66 R H R λ_ i I=>Tv<|Jb 1 R<|Jq<|Js1 (J:=a) [2,8] none [(0,2),(1,2),(2,0),(4,0),(3,1),(5,1),(6,1),(7,2),(8,2)] [] (by kernel_rfl) (by kernel_rfl) λT e=>Jn 2 R<|Ob h λS h M=>Jk4 [4] 20 S a T 6 (Cl.refl _ _ _) ?_ ?_)
 revert h
 cases aj:v.2
 exact JF λh=>Jf4 R<|Jf4 R<|Je4 R<|Je4 R<|Je4 R<|Jn 1 R<|Oh h<|Jv1 _ (Cl.refl _ _ _) ⟨R,_,Jo3⟩<|KM R
 exact have d:=(T3 g i e);JT λh=>Jg R (Jh4 (haC (I.stp e).cells R) I66 Z66 R)<|Jg R (Jh4 (haC (t.stp<|T4 C g i e).cells R) I66 Z66 R)<|Ob h λ_ O h=>Jw3 R call186 (qj (J:=Mk a) (p0:=v.1) (Jn3 ((E.mx (bI _) f R (R:3+2=5)).stp d).rdc) (Jn3 ((F.mx (cK (bI _) _) f R (R:3+3=6)).stp d).rdc) (Jn3 ((G.mx (bI _) f R (R:3+4=7)).stp d).rdc) O)<|Ks 11 (bI _) λab U _ z b K=>⟨(b.cl R),Ob h λ_ P h=>Jw3 R call186 (qj (J:=Mk z) (p0:=p0) Gct Gct Gct P)<|Ks 14 (bI _) λX ac _ A c L=>⟨((b.tr c).cl R),Ob h λ_ Q h=>Jw3 R call208 (xZ (J:=Mk A) (Jn3 (K.stp c).rdc) (Jn3 L.rdc) Q)<|Kb λ_ _ j=>⟨((T3 b c j).cl R),Jn 1 R<|Oh h<|Jv1 _ ((T3 b c j).cl R) ⟨R,_,Fct⟩<|KM R⟩⟩⟩
 rintro _ _ _ ⟨rfl,B,_⟩
 exact have h:=M;Jn 1 R (Jt1<|Jd<|Ju<|Jb2 (l:=[.tmp 4]) results185 (Jq2 R R) R<|Oh h<|⟨B,R,Fct⟩)
theorem qU {p0:Sig}{a f}{p1:VC}{c e d b}{p2:Word}(p:Rd Clause.rp J w 0 a f p1) (q:Rd Ri J w 0 c e p2.Stem) (s:Rd Ri J w 0 d b p2.Loop){r:Bool}(h:mY p0 p1 p2=some r):Ret prog 13 [.agg #[vi p0.In,vi p0.Out],.slice a p1.length f,.agg #[.slice c p2.Stem.length e,.slice d p2.Loop.length b]] w (Pvb J w r):=by
 exact Jp3 J func13 R ntmps13 R λt=>Jj3<|Jx3 J 2 R λ_ _ i _ m=>Tv<|Jx3 i 3 R λ_ _ j k n=>Tv<|Jb 1 R<|Jj3<|Jg4 tv R (Jh4 (haE (m.stp k).cells) I28 Z28 R)<|Jn 1 R<|Jg4 tv R (Jh4 (haE n.cells) I44 Z44 R)<|Ob h λ_ o h=>Jw3 R call37 (rO (J:=Mk j) (p0:=p0) (p2:=p2) Gct Gct Gct o)<|Ki λ_ g _=>Tv<|Jb 2 R<|Ju<|Jb2 (l:=[.tmp 6]) results13 (Jq2 R R) R<|Oh h<|⟨g,R,Fct⟩
theorem xg (n:Nat):∀{w:World}{J:Col}{o x}{p0:VV}{p y}{p1:VP}{q A}{p2:VI}(I:Rd Rs J w 0 o x p0) (K:Rd Pair.rp J w 0 p y p1) (X:Rd Ri J w 0 q A p2){r:Bool}(h:dZ n p0 p1 p2=some r),Ret prog 39 [.slice o p0.length x,.slice p p1.length y,.slice q p2.length A] w (Pvb J w r):=by
 induction n with
 |zero=>
  intro w J o x p0 p y p1 q A p2 I K X r h
  cases h
 |succ n a1=>
  intro w J o x p0 p y p1 q A p2 I K X r h
  have h:kZ (dZ n) p0 p1 p2=some r:=h
  unfold kZ at h
  refine Jp3 J func39 R ntmps39 R λbq=>Jf3 R<|Jl3 1 R<|Js3 R U32 R R<|Ob h λ_ aV h=>Jl1 (J:=J) (E:=Ep.bool) (z:=(false:Bool)) 2 R R R R R R R Y129 cI R R R R R (λ_ _ _=>R) (Jv2 aV) λbj bl _ ao T _=>Tv<|Jb 1 R<|Jl3 2 R<|Ob h λ_ aW h=>Jw3 R call84 (vF (J:=λF=>mp [(2,2)] 0<|ao F) Fct (Jm2 Fct (mp [(2,2)] 0) R R) aW) ?_
  rintro _ ba ⟨_,rfl,aC,aJ,aP⟩
  obtain⟨am,Q,a2⟩:=Ji aC 3 R
  refine Tv<|Jd<|Jq<|Jl3 2 R ?_
  obtain⟨an,S,bd⟩:=dg am ba 5
  refine Ob h λaj aX h=>?_
  have aE:=I.stp (T3 T Q S)
  refine Jw3 R call85 (Ret.cast (by simp only[(aP),List.cons_append,List.nil_append])<|vE (J:=λF=>mp [] 1<|an F) (Jm2 aE (mp [] 1) R R) (Jm2 (Sl.st bd (aJ.mx cQ a2 R (R:3+2=5)).rdc) (mp [] 1) R R) aX) ?_
  rintro _ ah ⟨_,bi,bk,rfl,az,aF⟩
  obtain⟨B,au,a3,be⟩:=Jj az 6 R
  refine Tv<|?_
  have G:=aF.mxz be a3 R (R:6+2=8)
  refine Js3 R U32 R R<|Jb 1 R<|Ob h λaf aQ Z=>?_
  clear h
  refine Jx1 (λe b=>∃c,e=[]/\Stp [14] B ah c b/\af=EW ()) ?_ ?_
  refine Jv<|Ju3 [0,1,21,22] (λa f e b=>∃c i,e=(23,vi i)::f/\Stp [14] B ah c b/\0<=i/\ES ((aj.length:Int)-i)=a/\cntM (dV (dZ n) p0 p1 aj) a i ()=some af) ⟨_,_,⟨B,0,R,Jo3,(by decide),(by simp),aQ⟩,(KM R)⟩ ?_
  rintro a _ _ ⟨M,i,rfl,U,aa,u,h⟩
  rcases a with _|a
  have j:=h;obtain⟨a6,h⟩:=exq j
  have L:=dcf u
  refine Jf3 R<|Jq<|Jx2 R L<|Jc1<|Jt<|Jt ?_
  cases h
  have h:=j
  refine Jb1 ?_
  cases h
  exact Jw1 _ ⟨M,R,Fct,R⟩ KN
  obtain⟨a6,h,j⟩:=BI h;unfold dV at h
  have L:=dct u
  refine Jf3 R<|Jq<|Jw2 R L<|Js<|Jp<|Jq<|Jv<|Jj3<|Ob h λak ab h=>Jd3 R G.rdc ab U32 Z31 ?_
  obtain⟨ay,a8,_,aN⟩:=(G.stp U).gZ ab
  refine Jc3 R I31 aN<|Jb 1 R<|Jf3 R<|Jq<|Jl3 2 R<|Ob h λal aY h=>?_
  have W:=K.stp (T5 T Q S au U)
  refine Jw3 R call86 (uy (J:=Mk M) Gct Gct aY) ?_
  rintro _ ai ⟨_,bn,bm,rfl,aA,aG⟩
  obtain⟨C,av,a4⟩:=Ji aA 9 R
  refine Tv<|?_
  have H:=aG.mx (bI _) a4 R (R:9+2=11)
  refine Js3 R U31 R R<|Jb 1 R<|Ob h λag aR aK=>?_
  clear h
  refine Jt3 [0,1,9,21,22,23] (λf e b=>∃c,∃m:VI,∃D E,e=(10,.slice D m.length E)::f/\Stp [14] C ai c b/\Rd Ri c b 0 D E m/\ag=EW m) ?_ ?_
  refine Jv<|Ju3 [0,1,9,21,22,23,30,31] (λa f e b=>∃c d,∃k:VI,∃t s,e=(10,.slice t k.length s)::(32,vi d)::f/\Stp [14] C ai c b/\Rd Ri c b 0 t s k/\0<=d/\ES ((al.length:Int)-d)=a/\cntM (ip p1 al) a d k=some ag) ⟨_,_,⟨C,0,ak,ay,a8,R,Jo3,Fct,(by decide),(by simp),aR⟩,(KM R)⟩ ?_
  rintro a _ _ ⟨O,d,k,t,s,rfl,V,aH,aM,Y,h⟩
  rcases a with _|a
  have v:=h;obtain⟨a7,h⟩:=exq v
  have g:=dcf Y
  refine Jf3 R<|Jq<|Jx2 R g<|Jc1<|Jt<|Jt ?_
  cases h
  have h:=v
  refine Jb1 ?_
  cases h
  exact Jw1 _ ⟨O,k,t,s,R,Fct,aH,R⟩<|KM R
  obtain⟨a7,h,v⟩:=BI h;unfold ip at h
  have g:=dct Y
  refine Jf3 R<|Jq<|Jw2 R g<|Js<|Jp<|Jq<|Jv<|Jj3<|Ob h λ_ ac h=>Jd3 R H.rdc ac U31 Z2<|Jc3 R I2 ((H.stp V).rdc.gInt ac)<|Jb 1 R<|Jm3 3 R<|Ob h λ_ ad h=>Jd3 R W ad U56 Z96<|Je3 R U96 R Z31 ?_
  obtain⟨_,aS,aO⟩:=((W.stp (av.tr V))).gSt ad
  obtain⟨bg,bt,bh,bu,rfl,bo,bp⟩:=Pair.un aS
  refine Jc3 R I31 (λb aT=>aO b aT 0 _ R)<|Ob h λbc aZ h=>Jw3 R call87 (rZ (J:=Mk O) Gct Gct aZ) ?_
  rintro _ bb ⟨_,ax,aw,rfl,aB,aI⟩
  obtain⟨aq,_,a5⟩:=Ji aB 12 R
  refine Tv<|Jc 1 R<|Jz<|Jp<|Jg3 R ?_
  have aU:ET .i64 (d+1)=d+1:=wr1 aM (Jn2 g) H.len_le
  rw[aU]
  have g:=Jn2 g
  obtain⟨ar,_,bf⟩:=dg aq bb 14
  cases h
  exact Ja2 ⟨ar,d+1,bc,ax,aw,R,Fct,(Sl.st bf (aI.mx (bI _) a5 R (R:12+2=14)).rdc),by omega,by omega,v⟩ R
  rintro _ a9 ⟨N,m,D,E,rfl,_,_,rfl⟩
  have h:=yI aK
  refine Jp<|Jl3 1 R<|Js3 R U31 R R<|Jn 1 R<|Js3 R U31 R R<|Jn 2 R<|Ob h λae h aL=>Jk4 [0,1,21,22,23] 54 ae N a9 5 tv ?_ ?_
  revert h
  cases br:((m.length:Int)==(ak.length:Int))
  refine JF λh=>Jn 3 R<|Ob h λ_ a0 h=>Jw3 R call39 (a1 (J:=Mk N) Gct Gct Gct a0) ?_
  rintro _ _ ⟨_,rfl,aD⟩
  obtain⟨_,_,_⟩:=Ji aD 12 R
  refine Tv<|Jn 1 R ?_
  cases h
  exact Jv1 _ tv ⟨R,_,Fct⟩<|KM R
  refine JT λh=>Jn 3 R<|Je4 R<|Jn 1 R ?_
  cases h
  exact Jl4 tv R
  rintro _ _ _ ⟨rfl,P,_⟩
  have h:=aL
  refine Jd ?_
  revert h
  cases bs:ae
  refine JF λh=>Jy R<|Js<|Jz<|Jp<|Jg3 R<|wr2 aa u G.len_le ▸ ?_
  cases h
  exact Ja2 ⟨P,i+1,R,Fct,nxz aa,nxm u,j⟩ R
  refine JT λh=>Jx R<|Jf3 R<|Ju<|Ja1<|Jw<|Jw ?_
  cases h
  obtain rfl:=EU j
  have h:=yL Z
  refine Ja1<|Jr2<|Jw<|Jb2 (l:=[.tmp 6]) results39 (Jq2 R R) R ?_
  cases h
  exact⟨P,R,Fct⟩
  rintro _ _ ⟨ap,rfl,_,rfl⟩
  have h:=yI Z
  refine Jp<|Jf3 R<|Ju<|Jb2 (l:=[.tmp 6]) results39 (Jq2 R R) R ?_
  cases h
  exact⟨ap,R,Fct⟩
theorem wE {C L}{p0:VP}{D M}{p1:VI}(v:Rd Pair.rp J w 0 C L p0) (aU:Rd Ri J w 0 D M p1){r:VI}(h:pP p0 p1=some r):Ret prog 97 [.slice C p0.length L,.slice D p1.length M] w (λaD a=>∃b I K,aD= .slice I r.length K/\Ent J w b a/\Rd Ri b a 0 I K r):=by
 refine Jp3 J func97 R ntmps97 R λaV=>Jf3 R<|Jj3<|Jc4 J E6 2 R Y31 bG R λZ aC z P W ai=>Tv<|Jb 1 R<|Jq<|Jf3 R<|Ob h λH ar an=>?_
 obtain⟨t,Y,aF⟩:=dg P z 2
 refine Jx1 (λd a=>∃b,∃p:VI,∃m j,d=[(5,.slice m p.length j)]/\Stp [5] t z b a/\Rd Ri b a 0 m j p/\H=EW p) (Jv<|Ju3 [0,1] (λg q d a=>∃b c,∃i:VI,∃f e,d=(5,.slice f i.length e)::(6,vi c)::q/\Stp [5] t z b a/\Rd Ri b a 0 f e i/\0<=c/\ES ((p0.length:Int)-c)=g/\cntM (kL p0 p1) g c i=some H) ⟨_,_,⟨t,0,([]:VI),Z,aC,R,Jo3,(Sl.st aF ai.rdc),(by decide),(by simp),ar⟩,(KM R)⟩ ?_) ?_
 rintro g _ _ ⟨A,c,i,f,e,rfl,U,ag,E,o,h⟩
 rcases g with _|g
 exact Jq<|Jl3 2 R<|Js3 R U56 R R<|Jb 1 R<|Jx2 R (dcf o)<|Jc1<|Jt<|Jt<|Jb1<|Oh h<|Jw1 _ ⟨A,i,f,e,R,Fct,ag,R⟩<|KM R
 refine Ob h λo5 h ao=>Jq<|Jl3 2 R<|Js3 R U56 R R<|Jb 1 R<|Jw2 R (dct o)<|Js<|Jp<|Jq<|Jv<|Jl3 3 R<|Ob h λ_ F h=>Jd3 R v F U56 Z96<|Je3 R U96 R Z31 ?_
 have u:=v.stp (T3 W Y U)
 obtain⟨_,au,ap⟩:=(u).gSt F
 obtain⟨aI,aW,aJ,aX,rfl,aQ,aR⟩:=Pair.un au
 refine Jc3 R I31 (λa x=>ap a x 0 _ R)<|Ob h λa0 ay h=>Jw3 R call153 (sb (J:=Mk A) Gct Gct ay)<|Ks 5 (bI _) λaM aN aE B V ah=>Tv<|Jb 1 R<|Jl3 1 R<|Js3 R U31 R R<|Jn 2 R<|Ob h λaB h al=>Jk4 [0,1,5,6,7] 35 aB B aE 10 tv ?_ ?_
 refine Bk h (λaw h=>Jn 5 R<|Je4 R<|Je4 R<|Jn 3 R<|Oh h<|Jl4 tv R) (λaw h=>Jn 3 R<|Ob h λ_ G h=>Jd3 R u G U56 Z96<|Je3 R U96 R Z31 ?_)
 obtain⟨_,av,aq⟩:=((u.stp V)).gSt G
 obtain⟨aK,aY,aL,aZ,rfl,aS,aT⟩:=Pair.un av
 refine Jc3 R I31 (λa x=>aq a x 1 _ R)<|Ob h λ_ az h=>Jw3 R call153 (sb (J:=Mk B) Gct Gct az) ?_
 rintro _ _ ⟨_,aP,aO,rfl,ad,_⟩
 exact Im ad 6 R (λ_ _ _=>Tv<|Js3 R U31 R R<|Jn 2 R<|Oh h<|Jv1 _ tv ⟨R,_,Fct⟩<|KM R)
 rintro _ N _ ⟨rfl,s,X⟩
 refine Jd<|Ob al λy h am=>Jt3 [0,1,6] (λq d a=>∃b k n,d=(5,.slice k y.length n)::q/\Stp [5] s N b a/\Rd Ri b a 0 k n y) ?_ ?_
 refine Bk h (λax h=>Jy R<|Js<|Oh h<|Jw1 _ ⟨s,f,e,R,Jo3,Fct⟩<|KM R) (λax h=>Jx R<|Jm3 2 R ?_)
 obtain⟨S,_,aG⟩:=dg s N 5
 refine Ob h λ_ aA h=>Jw3 R call154 (xO (J:=λac=>mp [] 1<|S ac) (Jm2 Fct (mp [] 1) R R) (Jm2 (Sl.st aG (ah.stp X).rdc) (mp [] 1) R R) aA) ?_
 rintro _ _ ⟨_,ab,aa,rfl,ae,ak⟩
 exact Im0 ae 6 R (λT _ _ aH=>Tv<|Jc 1 R<|Oh h<|Jw1 _ ⟨T,ab,aa,R,Fct,(ak.mx aH)⟩<|KM R)
 rintro _ _ ⟨Q,k,n,rfl,_,aj⟩
 refine have h:=am;Jz (Jp<|Jg3 R<|wr2 E o v.len_le ▸ ?_)
 cases h
 exact Ja2 ⟨Q,c+1,y,k,n,R,Fct,aj,nxz E,nxm o,ao⟩ R
 rintro _ _ ⟨O,p,m,j,rfl,_,af,rfl⟩
 exact have h:=yI an;Jp (Jf3 R<|Ju<|Jb2 (l:=[.tmp 4]) results97 (Jq2 R R) R<|Oh h<|⟨O,m,j,R,Fct,af⟩)
end
end Go.Proofs.YtfombamjdkihnaaGreat
