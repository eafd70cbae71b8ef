/- The walks, part 10. By program. -/
import Derived.Test.YtfombamjdkihnaaGreatFns9EI
set_option linter.unusedVariables false
set_option linter.unusedSimpArgs false
open Go.Wk.Ep renaming own → ER, pair → EX
open Int renaming toNat → ES
open Go.IntKind renaming wrap → ET
open Option.some renaming inj → EU
open Go.Wk.Ow renaming nil → EY
open Go.Wk.Sl renaming srcP → EV
open Sum renaming inr → EW
namespace Go.Proofs.YtfombamjdkihnaaGreat
open Tryz
open Go Go.Wk Go.Proofs
set_option maxRecDepth 100000
set_option maxHeartbeats 1000000
section
variable {w:World}{J:Col}
theorem ox {p0:Sig}{y P}{p1:VC}(bp:Rd Clause.rp J w 0 y P p1){r:Rival×Bool}(h:eV p0 p1=some r):Ret prog 7 [.agg #[vi p0.In,vi p0.Out],.slice y p1.length P] w (λaY p=>∃s L N M O,aY= .tuple #[.agg #[.slice L r.1.In.length N,.slice M r.1.Next.length O],.bool r.2]/\Ent J w s p/\Oc E6 2 s p 2 L N r.1.In/\Oc (ER E6 2) 31 s p 3 M O r.1.Next):=by
 refine Jp3 J func7 R ntmps7 R λbq=>Jj3<|Jx3 J 2 R λ_ _ V _ aD=>Tv<|Jy3 V 3 R X34 R λ_ _ Y ai _=>Tv<|Jb 1 R<|Jj3 (have E:=aD.stp ai;Jg4 tv R (Jh4 (haE E.cells) I28 Z28 R) (Jn 1 R<|Ob h λQ aT h=>Jw3 R call19 (iB (J:=Mk Y) (p0:=p0) Gct aT) ?_))
 rintro _ _ ⟨_,bj,a4,bd,bl,rfl,ao,ay,aA⟩
 refine Im ao 4 R (λU ac I=>Tv<|Jn 3 R<|Jy3 U 8 R X58 R λ_ _ a i aB=>Tv<|Jm4 a 8 R Z58 R aB R λ_ j A=>Tv<|Jb 1 R<|Jq<|Jf3 R ?_)
 refine Bk h (λaR h=>Jy R<|Js<|Jp<|Jj3 (have B:=E.stp (T3 ac i j);Jg4 tv R (Jh4 (haE B.cells) I28 Z28 R) (Jg4 tv R (Jh4 (haE A.cells) I58 Z58 R) (Ob h λa0 aU h=>have bo:=(ay.mx (cK (bI _) _) I R (R:4+2=6)).stp (i.tr j);have C:=(aA.mx Pair.no96 I R (R:4+3=7)).stp (i.tr j);Jw3 R call20 (kY (J:=Mk a) (p0:=p0) (p1:=Q.1) Gct (Jn3 C.rdc) aU) ?_)))) (λaR h=>Jx R<|Jj3<|Jf R (Jn4 [.slice none 0 0,.slice none 0 0] R)<|Jm4 a 3 R Z34 R Fct R λ_ _ aC=>Tv<|Jb 1 R<|Ju<|Jw<|Jb2 (l:=[.cell 4 34,.tmp 5]) results7 (bM R aC I34 Z34 R<|Jq2 R R) R<|Oh h<|⟨a,none,0,none,0,R,Fct,EY,EY⟩)
 rintro _ _ ⟨_,a5,ba,bc,a6,bb,be,rfl,aq,aE,aF,aG⟩
 refine Im aq 9 R (λW ad o=>Tv<|Jn 3 R<|Jy3 W 14 R X62 R λ_ _ u ae aH=>Tv<|Jm4 u 14 R Z62 R aH R λq af aI=>Tv<|Jb 1 R<|Jj3<|Jg4 tv R (Jh4 (haE aI.cells) I62 Z62 R)<|Jn 1 R ?_)
 obtain⟨X,ag,a1⟩:=dg u q 11
 obtain⟨Z,ah,a2⟩:=dg X q 12
 obtain⟨aa,x,a3⟩:=dg Z q 13
 refine Ob h λS aV h=>Jw3 R call21 (mD (J:=λn=>mp [] 1<|aa n) (p0:=a0.1) (Jm2 ((Sl.st a1 ((aE.mx (bI _) o R (R:9+2=11)).stp Fct).rdc).stp Fct) (mp [] 1) R R) (Jm2 ((Sl.st a2 ((aF.mx (cK (bI _) _) o R (R:9+3=12)).stp Fct).rdc).stp x) (mp [] 1) R R) (Jm2 (Sl.st a3 ((aG.mx Pair.no96 o R (R:9+4=13)).stp Fct).rdc) (mp [] 1) R R) aV) ?_
 rintro _ _ ⟨_,bh,bm,bf,bk,bg,bi,a8,bn,rfl,ar,aJ,aK,aL,aM⟩
 refine Im0 ar 15 R (λab aj c T=>Tv<|have aN:=aJ.mx (bI _) c R (R:15+2=17);have D:=aK.mxz T c R (R:15+3=18);have aO:=aL.mx (bI _) c R (R:15+4=19);Jn 4 R (Jy3 ab 21 R X66 R λ_ _ e k aP=>Tv<|Jm4 e 21 R Z66 R aP R λaZ m F=>Tv<|Jb 2 R<|Jq<|Jl3 3 R<|Ob h λK h aQ=>Jk4 [2,4,6,10,11] 42 K e aZ 6 tv ?_ ?_))
 exact Bk h (λaS h=>Jg4 tv R (Jh4 (haE F.cells) I66 Z66 R)<|Ob h λ_ aW h=>Jw3 R call22 (ku (J:=Mk e) (p0:=S.1) Gct (Jn3 (D.stp<|k.tr m).rdc) Gct aW) (Ks 24 (bI _) λa9 a7 _ _ _ au=>Tv<|have z:=au;Ob h λ_ G h=>Jd3 R z.rdc G U31 Z2<|Jc3 R I2 (z.rdc.gInt G)<|Jn 2 R<|Oh h<|Jv1 _ tv ⟨R,_,Fct⟩<|KM R)) (λaS h=>Je4 R<|Je4 R<|Jn 1 R<|Je4 R<|Jn 2 R<|Oh h<|Jl4 tv R)
 rintro _ _ _ ⟨rfl,d,g⟩
 refine have h:=aQ;Jd ?_
 revert h
 cases br:K
 refine have f:=(T10 ad ae af ag ah x aj k m g);have b:=(T3 k m g);JF λh=>Jy R<|Js<|Jp<|Jj3<|Jg4 tv R (Jh4 (haE (B.stp f).cells) I28 Z28 R)<|Jg4 tv R (Jh4 (haE (A.stp f).cells) I58 Z58 R)<|Jg4 tv R (Jh4 (haE (F.stp g).cells) I66 Z66 R)<|Jn 1 R<|Ob h λ_ aX h=>Jw3 R call23 (tt (J:=Mk d) (p0:=p0) (p1:=Q.1) (p2:=S.1) Gct (Jn3 (C.stp f).rdc) (Jn3 (aN.stp b).rdc) (Jn3 (D.stp b).rdc) (Jn3 (aO.stp b).rdc) (Jn3 ((aM.mxz T c R (R:15+5=20)).stp b).rdc) aX) ?_
 rintro _ _ ⟨_,ak,al,an,am,rfl,ap,aw,ax⟩
 exact Im ap 22 R (λt _ H=>Tv<|Jm4 t 3 R Z34 R Fct R λ_ v az=>Tv<|Jb 1 R<|Ju<|Jb2 (l:=[.cell 4 34,.tmp 5]) results7 (bM R az I34 Z34 R<|Jq2 R R) R<|Oh h<|⟨(λn=>ren [(24,2),(25,3)]<|t n),ak,al,an,am,R,Fct,(((aw.mx (bI _) H R (R:22+2=24)).stp v).map (ren [(24,2),(25,3)]) R R),(((ax.mx (cK (bI _) _) H R (R:22+3=25)).stp v).map (ren [(24,2),(25,3)]) R R)⟩)
 exact JT λh=>Jx R<|Jj3<|Jf R (Jn4 [.slice none 0 0,.slice none 0 0] R)<|Jm4 d 3 R Z34 R Fct R λ_ _ av=>Tv<|Jb 1 R<|Ju<|Jw<|Jb2 (l:=[.cell 4 34,.tmp 5]) results7 (bM R av I34 Z34 R<|Jq2 R R) R<|Oh h<|⟨d,none,0,none,0,R,Fct,EY,EY⟩
theorem tl {p0:Sig}{bk b7}{p1:VC}(fj:Rd Clause.rp J w 0 bk b7 p1){r:Machine×Bool}(h:io p0 p1=some r):Ret prog 8 [.agg #[vi p0.In,vi p0.Out],.slice bk p1.length b7] w (λer a=>∃b b3 b5 b4 b6,er= .tuple #[.agg #[.slice b3 r.1.Next.length b5,.slice b4 r.1.Out.length b6],.bool r.2]/\Ent J w b a/\Oc (ER E6 2) 31 b a 2 b3 b5 r.1.Next/\Oc (ER E6 2) 31 b a 3 b4 b6 r.1.Out):=by
 refine Jp3 J func8 R ntmps8 R λfk=>Jj3<|Jx3 J 2 R λ_ _ ch _ dC=>Tv<|Jy3 ch 3 R X38 R λ_ _ cv cC _=>Tv<|Jb 1 R<|Jj3 (have bF:=dC.stp cC;Jg4 tv R (Jh4 (haE bF.cells) I28 Z28 R) (Jn 1 R<|Ob h λac ei h=>Jw3 R call19 (iB (J:=Mk cv) (p0:=p0) Gct ei) ?_))
 rintro _ _ ⟨_,eG,eT,eS,fc,rfl,cT,c1,c3⟩
 refine Im cT 4 R (λcf cA b0=>Tv<|Jn 3 R<|Jy3 cf 8 R X58 R λ_ _ ag aP dj=>Tv<|Jm4 ag 8 R Z58 R dj R λ_ aQ bz=>Tv<|Jb 1 R<|Jq<|Jf3 R ?_)
 refine Bk h (λd8 h=>Jy R<|Js<|Jp<|Jj3 (have bB:=bF.stp (T3 cA aP aQ);Jg4 tv R (Jh4 (haE bB.cells) I28 Z28 R) (Jg4 tv R (Jh4 (haE bz.cells) I58 Z58 R) (Ob h λey ej h=>have fe:=(c1.mx (cK (bI _) _) b0 R (R:4+2=6)).stp (aP.tr aQ);have bC:=(c3.mx Pair.no96 b0 R (R:4+3=7)).stp (aP.tr aQ);Jw3 R call20 (kY (J:=Mk ag) (p0:=p0) (p1:=ac.1) Gct (Jn3 bC.rdc) ej) ?_)))) (λd8 h=>Jx R<|Jj3<|Jf R (Jn4 [.slice none 0 0,.slice none 0 0] R)<|Jm4 ag 3 R Z38 R Fct R λ_ _ dv=>Tv<|Jb 1 R<|Ju<|Jw<|Jb2 (l:=[.cell 4 38,.tmp 5]) results8 (bM R dv I38 Z38 R<|Jq2 R R) R<|Oh h<|⟨ag,none,0,none,0,R,Fct,EY,EY⟩)
 rintro _ _ ⟨_,eN,eX,e7,eL,eU,fa,rfl,cV,dD,dE,dF⟩
 refine Im cV 9 R (λct aR a9=>Tv<|Jn 3 R<|Jy3 ct 14 R X62 R λ_ _ bj aS dG=>Tv<|Jm4 bj 14 R Z62 R dG R λba aT dI=>Tv<|Jb 1 R<|Jj3<|Jg4 tv R (Jh4 (haE dI.cells) I62 Z62 R)<|Jn 1 R ?_)
 obtain⟨cu,aU,eA⟩:=dg bj ba 11
 obtain⟨cw,aV,eB⟩:=dg cu ba 12
 obtain⟨cx,ak,eC⟩:=dg cw ba 13
 refine Ob h λad ek h=>Jw3 R call21 (mD (J:=λa1=>mp [] 1<|cx a1) (p0:=ey.1) (Jm2 ((Sl.st eA ((dD.mx (bI _) a9 R (R:9+2=11)).stp Fct).rdc).stp Fct) (mp [] 1) R R) (Jm2 ((Sl.st eB ((dE.mx (cK (bI _) _) a9 R (R:9+3=12)).stp Fct).rdc).stp ak) (mp [] 1) R R) (Jm2 (Sl.st eC ((dF.mx Pair.no96 a9 R (R:9+4=13)).stp Fct).rdc) (mp [] 1) R R) ek) ?_
 rintro _ _ ⟨_,fb,eR,eP,eE,eM,eD,cQ,cO,rfl,cW,dJ,dK,dL,dM⟩
 refine Im0 cW 15 R (λcy aW aI cc=>Tv<|have ff:=dJ.mx (bI _) aI R (R:15+2=17);have bD:=dK.mxz cc aI R (R:15+3=18);have fg:=dL.mx (bI _) aI R (R:15+4=19);have bE:=dM.mxz cc aI R (R:15+5=20);Jn 4 R (Jy3 cy 21 R X66 R λ_ _ cz T _=>Tv<|Jy3 cz 22 R zeroValue67 R λ_ _ ah U _=>Tv<|Jm4 ah 21 R Z66 R Fct R λ_ O bm=>Tv<|Ja4 ah 22 (vc:=[.slice cQ ad.2.1.length cO]) R sizeOf67 R Fct R λes C cX=>Tv<|Jb 1 R<|Jq<|Jl3 3 R<|Ob h λeq h dO=>Jk4 [2,4,6,10,11] 54 eq ah es 6 tv ?_ ?_))
 exact Bk h (λd4 h=>Jg4 tv R (Jh4 (haE (bm.stp C).cells) I66 Z66 R)<|Ob h λ_ el h=>Jw3 R call22 (ku (J:=Mk ah) (p0:=ad.1) Gct (Jn3 (bD.stp ((T4 T U O C))).rdc) Gct el) (Ks 25 (bI _) λe4 eH _ _ _ cY=>Tv<|have bn:=cY;Ob h λ_ bV h=>Jd3 R bn.rdc bV U31 Z2<|Jc3 R I2 (bn.rdc.gInt bV)<|Jn 2 R<|Oh h<|Jv1 _ tv ⟨R,_,Fct⟩<|KM R)) (λd4 h=>Je4 R<|Je4 R<|Jn 1 R<|Je4 R<|Jn 2 R<|Oh h<|Jl4 tv R)
 rintro _ _ _ ⟨rfl,aK,M⟩
 refine have h:=dO;Jd ?_
 refine Bk h (λd5 h=>Jy R<|Js<|Jp<|Jj3 (have bo:=bm.stp (C.tr M);Jg4 tv R (Jh4 (haE bo.cells) I66 Z66 R) (Ob h λca em h=>have a2:=bD.stp (T5 T U O C M);Jw3 R call24 (rX (J:=Mk aK) (p0:=ad.1) Gct (Jn3 a2.rdc) Gct em) ?_))) (λd5 h=>Jx R<|Jj3<|Jf R (Jn4 [.slice none 0 0,.slice none 0 0] R)<|Jm4 aK 3 R Z38 R Fct R λ_ _ cZ=>Tv<|Jb 1 R<|Ju<|Jw<|Jb2 (l:=[.cell 4 38,.tmp 5]) results8 (bM R cZ I38 Z38 R<|Jq2 R R) R<|Oh h<|⟨aK,none,0,none,0,R,Fct,EY,EY⟩)
 rintro _ _ ⟨_,eZ,e2,eF,e3,rfl,cU,_,c0⟩
 refine Im cU 23 R (λcd N ep=>Tv<|have bp:=c0.mx (bI _) ep R (R:23+3=26);Jf R (vk U73 R I31 R R R) (Jb 1 R<|Jj3<|Je3 R U58 R Z32 (have bq:=bz.stp (T13 aR aS aT aU aV ak aW T U O C M N);Jc3 R I32 (bq.ld 0 R R) (Js3 R U32 R R<|Jy3 cd 27 R X2 R λ_ _ bc D c2=>Tv<|Ja4 bc 27 (vc:=[vi (ac.1.Next.length:Int)]) R Z2 R c2 R λ_ E _=>Tv<|Jd<|Jj3<|Ji4 bc 28 [0] R Y31 bG R λcE cP _ ce F _=>Tv<|Jb 1 R<|Jj3<|Jf R (Jn4 [.slice none 0 0,.slice none 0 0] R)<|Jy3 ce 29 R X38 R λbl _ ae G c4=>Tv<|Jm4 ae 29 R Z38 R c4 R λb8 H c5=>Tv<|Jd<|Jq<|Jf3 R<|Ob h λb1 dZ dP=>Jt3 [4,15] (λz A a=>∃b,∃L:VI×Int×VV×VV,∃a0 aX ap aD aA aB,A=(14,.slice a0 L.1.length aX)::z/\Stp [28,29,30,31,32,33,34,37,38] ae b8 b a/\Oc E6 2 b a 28 a0 aX L.1/\Oc (ER E6 2) 31 b a 30 ap aD L.2.2.1/\Oc (ER E6 2) 31 b a 31 aA aB L.2.2.2/\Bc b a 29 bl 38 [.slice ap L.2.2.1.length aD,.slice aA L.2.2.2.length aB]/\b1=EW L) (Jv<|Ju3 [2,4,6,10,11,12,13,15] (λy z A a=>∃b,∃c:VI×Int×VV×VV,∃Y Z ax aw aa W,A=(14,.slice Y c.1.length Z)::(16,vi c.2.1)::z/\Stp [28,29,30,31,32,33,34,37,38] ae b8 b a/\Oc E6 2 b a 28 Y Z c.1/\Oc (ER E6 2) 31 b a 30 ax aw c.2.2.1/\Oc (ER E6 2) 31 b a 31 aa W c.2.2.2/\Bc b a 29 bl 38 [.slice ax c.2.2.1.length aw,.slice aa c.2.2.2.length W]/\bQ (iz p0 ac ad ca) y c=some b1) ⟨_,_,⟨ae,((([0]:VI):VI),(0:Int),([]:VV),([]:VV)),cE,cP,none,0,none,0,R,Jo3,Fct,EY,EY,c5,dZ⟩,(KM R)⟩ ?_) ?_))))
 rintro y _ _ ⟨aL,c,Y,Z,ax,aw,aa,W,rfl,I,a3,c8,c9,br,h⟩
 rcases y with _|y
 cases h
 refine Ob h λ_ h bK=>Jq<|Jl3 2 R<|Js3 R U31 R R<|Jb 1 R ?_
 refine Bk h (λd6 h=>Jy R<|Jc1<|Jt<|Jt ?_) (λd6 h=>Jx R<|Js<|Jp<|Jq<|Jv<|Jq<|Xn aL [0,20,22,28] [5,8,11,0,12,17,20,21,25,28] λ_ n=>Jn 2 R<|Ob h λ_ bW h=>Jd3 R a3.rdc bW U31 Z2 (have bs:=cX.stp (T9 M N D E F G H I n);Jg R (Jd2 isAgg67 R R<|hvC (bs.ld 0 R R) R) (Jg R (Jd2 I2 R R<|hvC ((a3.stp n).rdc.gInt bW) R)<|Ob h λcb bX h=>Jd3 R bE.rdc bX U67 Z76<|Je3 R U76 R Z2 ?_)))
 cases h
 exact have h:=bK;Jb1 (Oh h<|Jw1 _ ⟨aL,(c.1,c.2.1,c.2.2.1,c.2.2.2),Y,Z,ax,aw,aa,W,R,Fct,a3,c8,c9,br,R⟩<|KM R)
 have bt:=bE.stp (T13 T U O C M N D E F G H I n)
 obtain⟨_,d2,dX⟩:=Ow.gZS bt bX
 obtain⟨eI,fm,rfl,fh⟩:=Place.un d2
 refine Jg R (Jd2 I2 R R<|hvC (λa a8=>dX a a8 0 _ R) R)<|Jy3 aL 32 R X2 R λ_ _ bd i da=>⟨(i.cl R),Ja4 bd 32 (vc:=[vi cb.At]) R Z2 R da R λ_ o db=>⟨((i.tr o).cl R),Jt1<|Jd<|Jj3<|Jc4 bd E6 33 R Y31 bG R λcL cI _ cg p _=>Tv<|Jc4 cg E6 34 R Y31 bG R λcH cR _ ci q _=>Tv<|Jb 2 R<|Jq<|Jj3 (have bu:=bB.stp (aR.tr<|aS.tr<|aT.tr<|aU.tr<|aV.tr<|ak.tr<|aW.tr<|T.tr<|U.tr<|O.tr<|C.tr<|M.tr<|N.tr<|D.tr<|E.tr<|F.tr<|G.tr<|H.tr<|I.tr<|n.tr<|i.tr<|o.tr<|p.tr q);Jg4 tv R (Jh4 (haE bu.cells) I28 Z28 R) (Ob h λez en h=>Jw3 R C25 (cF (J:=Mk ci) (p0:=p0) en)<|Ki λb9 aM s=>Tv<|Jb 1 R (Ob h λ_ d1 h=>have dS:=hU d1;Ob h λb2 d0 dQ=>Jt3 [2,4,6,10,11,12,13,15,16] (λz A a=>∃b,∃e:VI×VI×VI,∃au az aF aG aq ay,A=(14,.slice au e.1.length az)::(18,.slice aF e.2.1.length aG)::(19,.slice aq e.2.2.length ay)::z/\Stp [28,33,34,37] aM b9 b a/\Oc E6 2 b a 28 au az e.1/\Oc E6 2 b a 33 aF aG e.2.1/\Oc E6 2 b a 34 aq ay e.2.2/\b2=EW e) (Jv<|Ju3 [2,4,6,10,11,12,13,15,16,17,81] (λy z A a=>∃b B,∃m:VI×VI×VI,∃V X al av aE ao,A=(14,.slice V m.1.length X)::(18,.slice al m.2.1.length av)::(19,.slice aE m.2.2.length ao)::(82,vi B)::z/\Stp [28,33,34,37] aM b9 b a/\Oc E6 2 b a 28 V X m.1/\Oc E6 2 b a 33 al av m.2.1/\Oc E6 2 b a 34 aE ao m.2.2/\0<=B/\ES (ez-B)=y/\cntM (fJ p0 ac ad ca c cb) y B m=some b2) ⟨_,_,⟨aM,0,(c.1,([]:VI),([]:VI)),Y,Z,cL,cI,cH,cR,R,Jo3,Fct,Fct,Fct,(by decide),(by simp),d0⟩,(KM R)⟩ ?_) ?_)))⟩⟩
 rintro y _ _ ⟨be,B,m,V,X,al,av,aE,ao,rfl,t,a4,dd,bv,dT,bH,h⟩
 rcases y with _|y
 exact Jf3 R<|Jq<|Jx2 R (dcf bH)<|Jc1<|Jt<|Jt<|Jb1<|Oh h<|Jw1 _ ⟨be,(m.1,m.2.1,m.2.2),V,X,al,av,aE,ao,R,Fct,a4,dd,bv,R⟩<|KM R
 refine Ob h λfl h dU=>have aH:=dct bH;Jf3 R (Jq<|Jw2 R aH<|Js<|Jp<|Jq<|Jv<|Jl3 1 R<|Jy3 be 37 R X2 R λ_ _ aN f de=>Tv<|Ja4 aN 37 (vc:=[vi B]) R Z2 R de R λ_ g df=>Tv<|Jd<|Jq<|Xn aN [0,18,21,28] [2,5,11,14,17,29,6,18,23,24,31,35] λ_ d=>Je3 R U66 R Z62<|Je3 R U62 R Z32<|Jn 2 R<|Ob h λ_ bY h=>Jd3 R a4.rdc bY U31 Z2<|Jf R (dH (first:=[]) (captured:=[.tmp 11,.tmp 13,.tmp 17,.tmp 2,.tmp 20]) R R R ⟨_,R⟩) (have bw:=bo.stp (N.tr<|D.tr<|E.tr<|F.tr<|G.tr<|H.tr<|I.tr<|n.tr<|i.tr<|o.tr<|p.tr<|q.tr<|s.tr<|t.tr<|f.tr<|g.tr d);Jg R (Jd2 I32 R R<|hvC (bw.ld 1 R R) R) (have a5:=a4.stp (T3 f g d);Jg R (Jd2 I2 R R<|hvC (a5.rdc.gInt bY) R) (Ob h λ_ bZ h=>Jd3 R a2.rdc bZ U32 Z31 ?_))))
 have a6:=a2.stp (N.tr (D.tr (E.tr (F.tr (G.tr (H.tr (I.tr (n.tr (i.tr (o.tr (p.tr (q.tr (s.tr (t.tr (f.tr (g.tr d))))))))))))))))
 obtain⟨_,_,_,dV⟩:=a6.gZ bZ
 refine Jg R (Jd2 I31 R R<|hvC dV R) (Ob h λ_ eo h=>have a7:=bt.stp (T9 i o p q s t f g d);have dh:=bs.stp (T9 i o p q s t f g d);have di:=db.stp (T7 p q s t f g d);have dk:=bu.stp (T5 s t f g d);have dl:=df.stp d;Jw3 R call26 (fd (J:=Mk aN) (c1_3:=p0) Gct (Jn3 a7.rdc) Fct Fct Fct Fct Fct eo) (Ki λ_ bf j=>⟨(j.cl R),Jn 1 R<|Jt1<|Jd<|Jq<|Xn bf [0,18,21,26,28] [2,5,8,14,17,20,32,9,21,26,27,35,36,41,42,47] λ_ u=>Jn 1 R<|Je3 R U66 R Z62<|Je3 R U62 R Z32<|Jn 2 R<|Ob h λ_ bN h=>Jd3 R a5.rdc bN U31 Z2<|Jn 1 R<|Jg R (Jd2 I32 R R<|hvC ((bw.stp<|j.tr u).ld 1 R R) R)<|Jg R (Jd2 I2 R R<|hvC ((a5.stp<|j.tr u).rdc.gInt bN) R)<|Ob h λ_ bP h=>Jd3 R a6.rdc bP U32 Z31 ?_⟩))
 obtain⟨_,_,bx,dW⟩:=(a6.stp (j.tr u)).gZ bP
 refine Jg R (Jd2 I31 R R<|hvC dW R)<|Ob h λ_ bR h=>Jd3 R bx bR U31 Z2<|Jg R (Jd2 I2 R R<|hvC (bx.gInt bR) R)<|Ob h λeu bS h=>Jd3 R bp.rdc bS U31 Z2<|Jg R (Jd2 I2 R R<|hvC ((bp.stp<|D.tr<|E.tr<|F.tr<|G.tr<|H.tr<|I.tr<|n.tr<|i.tr<|o.tr<|p.tr<|q.tr<|s.tr<|t.tr<|f.tr<|g.tr<|d.tr<|j.tr u).rdc.gInt bS) R)<|Jn 1 R<|Jt1<|Jd<|Jl3 2 R<|Ob h λfo eb h=>Jw3 R call28 (dN (J:=Mk bf) Gct eb)<|Ki λet aO P=>Tv<|Jb 1 R<|Jq<|Jf3 R<|Ob h λab h dR=>Jt3 [2,4,6,10,11,12,13,15,16,17,18,19,20,22,81,82] (λz A a=>∃b ar an,A=(14,.slice ar ab.1.length an)::(23,vi ab.2)::z/\Stp [28] aO et b a/\Oc E6 2 b a 28 ar an ab.1) ?_ ?_
 exact Bk h (λd7 h=>Jy R<|Js<|Oh h<|Jw1 _ ⟨aO,V,X,R,Jo3,Fct⟩<|KM R) (λd7 h=>Jx R<|Jl3 1 R<|Js3 R U31 R R<|Jb 1 R<|Jm3 2 R<|Ji4 aO 42 [eu] R Y31 bG R λeQ eY _ cl _ dn=>Tv<|Ob h λ_ ec h=>Jd4 cl E6 28 [] R Y31 bG R Fct (EV (bO _) dn.rdc) bJ ec R λcJ cG _ cm _ dp=>Tv<|Jc 1 R<|Oh h<|Jw1 _ ⟨cm,cJ,cG,R,Fct,dp⟩<|KM R)
 rintro _ _ ⟨ck,ar,an,rfl,Q,dm⟩
 refine have h:=dR;have ai:=(T4 j u P Q);Jp (Jl3 2 R<|Ji4 ck 42 [ab.2] R Y31 bG R λe8 e5 _ cn v dq=>Tv<|Ob h λev ed h=>Jd4 cn E6 33 [] R Y31 bG R Fct (EV (bO _) dq.rdc) bJ ed R λcM cS _ bg x dr=>Tv<|Jb 1 R<|Xn bg [0,2,8,20,22,32,37] [2,20,3,6,9,12,15,23,26,27,31,35,37,40,43,47] λ_ k=>Jn 2 R<|Jg R (Jh4 (haC (dk.stp<|T4 ai v x k).cells R) I28 Z28 R)<|Jg R (Jh4 (haC (bq.stp<|D.tr<|E.tr<|F.tr<|G.tr<|H.tr<|I.tr<|n.tr<|i.tr<|o.tr<|p.tr<|q.tr<|s.tr<|t.tr<|f.tr<|g.tr<|d.tr<|j.tr<|u.tr<|P.tr<|Q.tr<|v.tr<|x.tr k).cells R) I58 Z58 R)<|Jg R (Jd2 I2 R R<|hvC ((di.stp<|T4 ai v x k).ld 0 R R) R)<|Jg R (Jd2 I2 R R<|hvC ((dl.stp<|T4 ai v x k).ld 0 R R) R)<|Jg R (Jd2 isAgg67 R R<|hvC ((dh.stp<|T4 ai v x k).ld 0 R R) R)<|Ob h λ_ bT h=>Jd3 R a7.rdc bT U67 Z76<|Je3 R U76 R Z2 ?_)
 obtain⟨_,d3,dY⟩:=Ow.gZS (a7.stp (T7 j u P Q v x k)) bT
 obtain⟨eJ,fn,rfl,fi⟩:=Place.un d3
 refine Jg R (Jd2 I2 R R<|hvC (λa a8=>dY a a8 0 _ R) R)<|Ob h λ_ ee h=>Jw3 R call29 (tm (J:=Mk bg) (p0:=p0) (p1:=ac.1) Gct (Jn3 (bC.stp ((aR.tr<|aS.tr<|aT.tr<|aU.tr<|aV.tr<|ak.tr<|aW.tr<|T.tr<|U.tr<|O.tr<|C.tr<|M.tr<|N.tr<|D.tr<|E.tr<|F.tr<|G.tr<|H.tr<|I.tr<|n.tr<|i.tr<|o.tr<|p.tr<|q.tr<|s.tr<|t.tr<|f.tr<|g.tr<|d.tr<|j.tr<|u.tr<|P.tr<|Q.tr<|v.tr<|x.tr k))).rdc) ee)<|Ks 45 (bI _) λe0 eK _ co K ds=>⟨(K.cl R),have bA:=ds;Ob h λew bU h=>Jd3 R bA.rdc bU U31 Z2<|Jg4 (K.cl R) R (Jd2 I2 R R<|hvE<|bA.rdc.gInt bU)<|Ji4 co 46 [ew] R Y31 bG R λeV e9 _ cp S dt=>⟨((K.tr S).cl R),Ob h λex ef h=>Jd4 cp E6 34 [] R Y31 bG R (bv.stp<|T12 f g d j u P Q v x k K S) (EV (bO _) dt.rdc) bJ ef R λcD cN _ cq aj du=>⟨((T3 K S aj).cl R),Jn 1 R<|Jt1<|Jo<|Jz<|Jp<|Jg3 R ?_⟩⟩⟩
 have ea:ET .i64 (B+1)=B+1:=wr1 dT (Jn2 aH) dS
 rw[ea]
 have aH:=Jn2 aH
 cases h
 exact Ja2 ⟨cq,B+1,(ab.1,ev,ex),ar,an,cM,cS,cD,cN,R,(T14 t f g d j u P Q v x k K S aj).wk R,(dm.stp<|T6 v x k K S aj),(dr.stp<|T4 k K S aj),du,by omega,by omega,dU⟩ R
 rintro _ _ ⟨cj,e,au,az,aF,aG,aq,ay,rfl,cB,_,dc,_,rfl⟩
 refine have h:=yI dQ;Jp (Jj3<|Je3 R U38 R Z32<|Jc3 R I32 ((br.stp<|T7 n i o p q s cB).ld 0 R R)<|Jn 1 R<|Jb4 cj (ER E6 2) 37 [33] (parts:=[(0,.tmp 144)]) (cells:=[.slice aF e.2.1.length aG]) (xs:=([e.2.1]:VV)) R Y32 bL R (Jj4 ⟨_,_,R,dc⟩) λe1 e6 _ cr _ dw=>Tv<|Ob h λaJ eg h=>Jd4 cr (ER E6 2) 30 [37] R Y32 bL R Fct dw.src (c7 R) eg R λaC am _ bh _ _=>Tv<|Je3 R U38 R Z32<|Jz3 bh 29 (off:=0) (vc:=[.slice aC aJ.length am]) (cs':=[.slice aC aJ.length am,.slice aa c.2.2.2.length W]) R Z32 R Fct R λ_ _ dx=>Tv<|Jd<|Jk3<|Je3 R U38 R Z32<|Jc3 R I32 (dx.ld 1 R R)<|Jn 1 R<|Jb4 bh (ER E6 2) 38 [34] (parts:=[(0,.tmp 150)]) (cells:=[.slice aq e.2.2.length ay]) (xs:=([e.2.2]:VV)) R Y32 bL R (Jj4 ⟨_,_,R,Fct⟩) λeW eO _ cs _ dy=>Tv<|Ob h λbb eh h=>Jd4 cs (ER E6 2) 31 [38] R Y32 bL R Fct dy.src (c7 R) eh R λaZ aY _ bi _ _=>Tv<|Je3 R U38 R Z32<|Jz3 bi 29 (off:=1) (vc:=[.slice aZ bb.length aY]) (cs':=[.slice aC aJ.length am,.slice aZ bb.length aY]) R Z32 R Fct R λ_ _ dz=>Tv<|Jo<|Jz<|Jp<|Jg3 R ?_)
 cases h
 exact Ja2 ⟨bi,(e.1,((ET .i64<|c.2.1+1):Int),aJ,bb),au,az,aC,am,aZ,aY,R,Fct,Fct,Fct,Fct,dz,bK⟩ R
 rintro _ _ ⟨af,L,a0,aX,ap,aD,aA,aB,rfl,_,_,_,_,c6,rfl⟩
 refine have h:=yI dP;Jp (Jq<|Jl3 1 R<|Js3 R U31 R R<|Jb 1 R ?_)
 exact Bk h (λd9 h=>Jy R<|Js<|Jp<|Jj3<|Jg4 tv R (Jh4 (haE c6.cells) I38 Z38 R)<|Jm4 af 3 R Z38 R Fct R λ_ _ dB=>Tv<|Jb 1 R<|Ju<|Jb2 (l:=[.cell 4 38,.tmp 5]) results8 (bM R dB I38 Z38 R<|Jq2 R R) R<|Oh h<|⟨(λa1=>ren [(30,2),(31,3)]<|af a1),ap,aD,aA,aB,R,Fct,Fct,Fct⟩) (λd9 h=>Jx R<|Jj3<|Jf R (Jn4 [.slice none 0 0,.slice none 0 0] R)<|Jm4 af 3 R Z38 R Fct R λ_ _ dA=>Tv<|Jb 1 R<|Ju<|Jw<|Jb2 (l:=[.cell 4 38,.tmp 5]) results8 (bM R dA I38 Z38 R<|Jq2 R R) R<|Oh h<|⟨af,none,0,none,0,R,Fct,EY,EY⟩)
theorem sj {p0:Sig}{n m o k}{p1:Det}(W:Rd Rs J w 0 n m p1.Next) (X:Rd Pair.rp J w 0 o k p1.Pairs){r:Int}(h:nk p0 p1=some r):Ret prog 72 [.agg #[vi p0.In,vi p0.Out],.agg #[.slice n p1.Next.length m,.slice o p1.Pairs.length k]] w (Pvi J w r):=by
 refine Jp3 J func72 R ntmps72 R λY=>Jj3<|Jx3 J 2 R λ_ _ q _ y=>Tv<|Jx3 q 3 R λ_ _ t v p=>Tv<|Jb 1 R<|Jq<|Jj3 (have d:=y.stp v;Jg4 tv R (Jh4 (haE d.cells) I28 Z28 R) (Ob h λZ L h=>Jw3 R call33 (jl (J:=Mk t) (p0:=p0) L)<|Kb λN f a=>Tv<|Jn 2 R<|Ob h λM h E=>Jk4 [2,3] 15 M f N 5 tv ?_ ?_))
 exact Bk h (λF h=>Jg4 tv R (Jh4 (haE (d.stp a).cells) I28 Z28 R)<|Jg4 tv R (Jh4 (haE (p.stp a).cells) I58 Z58 R)<|Ob h λ_ H h=>Jw3 R call71 (tx (J:=Mk f) (p0:=p0) (p1:=p1) Gct Gct H)<|Kb λ_ _ _=>Tv<|Jn 2 R<|Oh h<|Jv1 _ tv ⟨R,_,Fct⟩<|KM R) (λF h=>Je4 R<|Je4 R<|Je4 R<|Jn 2 R<|Oh h<|Jl4 tv R)
 rintro _ _ _ ⟨rfl,g,j⟩
 refine have h:=E;Jd ?_
 refine Bk h (λG h=>Jy R<|Js<|Jp<|Jj3<|Jg4 tv R (Jh4 (haE (d.stp<|a.tr j).cells) I28 Z28 R)<|Jg4 tv R (Jh4 (haE (p.stp<|a.tr j).cells) I58 Z58 R)<|Ob h λO I h=>Jw3 R call20 (kY (J:=Mk g) (p0:=p0) (p1:=p1) Gct Gct I) ?_) (λG h=>Jx R<|Jf3 R<|Ju<|Jw<|Jb2 (l:=[.tmp 4]) results72 (Jq2 R R) R<|Oh h<|⟨g,R,Fct⟩)
 rintro _ _ ⟨_,Q,S,V,U,T,P,rfl,x,z,A,B⟩
 exact Im x 6 R (λs _ e=>Tv<|Jn 3 R<|Jy3 s 11 R X62 R λ_ _ i b C=>Tv<|Jm4 i 11 R Z62 R C R λ_ c D=>Tv<|Jb 1 R<|Jj3<|Jg4 tv R (Jh4 (haE D.cells) I62 Z62 R)<|Jn 1 R<|Ob h λ_ K h=>Jw3 R call119 (rD (J:=Mk i) (p0:=O.1) (Jn3 ((z.mx (bI _) e R (R:6+2=8)).stp (b.tr c)).rdc) (Jn3 ((A.mx (cK (bI _) _) e R (R:6+3=9)).stp (b.tr c)).rdc) (Jn3 ((B.mx Pair.no96 e R (R:6+4=10)).stp (b.tr c)).rdc) K)<|Ki λ_ u _=>Tv<|Jb 1 R<|Ju<|Jb2 (l:=[.tmp 4]) results72 (Jq2 R R) R<|Oh h<|⟨u,R,Fct⟩)
theorem rC {p0:Sig}{d g}{p1:VC}(F:Rd Clause.rp J w 0 d g p1){r:Bool}(h:gM p0 p1=some r):Ret prog 30 [.agg #[vi p0.In,vi p0.Out],.slice d p1.length g] w (Pvb J w r):=by
 refine Jp3 J func30 R ntmps30 R λG=>Jj3<|Jx3 J 2 R λ_ _ j _ e=>Tv<|Jb 1 R<|Jj3<|Jg4 tv R (Jh4 (haE e.cells) I28 Z28 R)<|Jn 1 R<|Ob h λA v h=>Jw3 R call19 (iB (J:=Mk j) (p0:=p0) Gct v) ?_
 rintro _ _ ⟨_,C,B,D,E,rfl,n,s,o⟩
 refine Im n 3 R (λi m f=>Tv<|Jn 3 R<|Jy3 i 7 R X58 R λ_ _ a b p=>Tv<|Jm4 a 7 R Z58 R p R λz c q=>Tv<|Jb 1 R<|Jl3 2 R<|Ob h λy h t=>Jk4 [4] 19 y a z 5 tv ?_ ?_)
 exact Bk h (λu h=>Je4 R<|Je4 R<|Je4 R<|Jn 2 R<|Oh h<|Jl4 tv R) (λu h=>Jg4 tv R (Jh4 (haE (e.stp<|T3 m b c).cells) I28 Z28 R)<|Jg4 tv R (Jh4 (haE q.cells) I58 Z58 R)<|Ob h λ_ x h=>Jw3 R call72 (sj (J:=Mk a) (p0:=p0) (p1:=A.1) (Jn3 ((s.mx (cK (bI _) _) f R (R:3+2=5)).stp (b.tr c)).rdc) (Jn3 ((o.mx Pair.no96 f R (R:3+3=6)).stp (b.tr c)).rdc) x)<|Ki λ_ _ _=>Tv<|Jn 2 R<|Oh h<|Jv1 _ tv ⟨R,_,Fct⟩<|KM R)
 rintro _ _ _ ⟨rfl,k,_⟩
 exact have h:=t;Jb 1 R (Ju<|Jb2 (l:=[.tmp 4]) results30 (Jq2 R R) R<|Oh h<|⟨k,R,Fct⟩)
theorem ll {p0:Sig}{au aS}{p1:VC}(bF:Rd Clause.rp J w 0 au aS p1){r:Det×Bool}(h:di p0 p1=some r):Ret prog 41 [.agg #[vi p0.In,vi p0.Out],.slice au p1.length aS] w (λbU a=>∃b aO aQ aP aR,bU= .tuple #[.agg #[.slice aO r.1.Next.length aQ,.slice aP r.1.Pairs.length aR],.bool r.2]/\Ent J w b a/\Oc (ER E6 2) 31 b a 2 aO aQ r.1.Next/\Oc Pair.ep96 96 b a 3 aP aR r.1.Pairs):=by
 refine Jp3 J func41 R ntmps41 R λb1=>Jj3<|Jx3 J 2 R λ_ _ aY a5 bu=>Tv<|Jy3 aY 3 R X58 R λ_ _ a2 ar _=>Tv<|Jb 1 R<|Jq<|Jj3 (have aC:=bu.stp ar;Jg4 tv R (Jh4 (haE aC.cells) I28 Z28 R) (Jn 1 R (Ob h λb5 bR h=>have ab:=bF.stp (a5.tr ar);Jw3 R call81 (oS (J:=Mk a2) (p0:=p0) Gct bR) (Kb λ_ W al=>Tv<|Jb 1 R ?_))))
 refine Bk h (λbP h=>Jy R<|Js<|Jp<|Jj3 (have ay:=aC.stp al;Jg4 tv R (Jh4 (haE ay.cells) I28 Z28 R) (Ob h λ_ bS h=>Jw3 R call88 (eQ (J:=Mk W) (p0:=p0) bS)<|Ki λ_ aZ am=>Tv<|Ob h λV bT h=>Jl1 (J:=aZ) (E:=E6) (z:=(0:Int)) 8 R R R R R R R Y31 bG R R R R R (λ_ _ _=>R) (Jv2 bT) λa8 bb _ a0 an bt=>Tv<|Jb4 a0 (ER E6 2) 9 [8] (parts:=[(0,.tmp 17)]) (cells:=[.slice a8 V.length bb]) (xs:=([V]:VV)) R Y32 bL R (Jj4 ⟨_,_,R,bt⟩) λav aw _ a1 ao _=>Tv<|Jf R (Jn4 [.slice av ([V]:VV).length aw,.slice none 0 0] R)<|Jy3 a1 10 R X58 R λax _ A ap bv=>Tv<|Jm4 A 10 R Z58 R bv R λaT aq bw=>Tv<|Jd<|Jq<|Jf3 R<|Ob h λaN bK aE=>Jt3 [4,6] (λk p a=>∃b,∃n:VV×VP,∃S M L H,p=k/\Stp [10,12,13,16,18,19,20] A aT b a/\Oc (ER E6 2) 31 b a 9 S M n.1/\Oc Pair.ep96 96 b a 11 L H n.2/\Bc b a 10 ax 58 [.slice S n.1.length M,.slice L n.2.length H]/\aN=EW n) (Jv<|Ju3 [1,2,4,6] (λy k p a=>∃b i,∃c:VV×VP,∃P F I G,p=(7,vi i)::k/\Stp [10,12,13,16,18,19,20] A aT b a/\Oc (ER E6 2) 31 b a 9 P F c.1/\Oc Pair.ep96 96 b a 11 I G c.2/\Bc b a 10 ax 58 [.slice P c.1.length F,.slice I c.2.length G]/\0<=i/\ES ((p1.length:Int)-i)=y/\cntM (gn p0 p1) y i c=some aN) ⟨_,_,⟨A,0,((([V]:VV):VV),([]:VP)),av,aw,none,0,R,Jo3,Fct,EY,bw,(by decide),(by simp),bK⟩,(KM R)⟩ ?_) ?_))) (λbP h=>Jx R<|Jj3<|Jf R (Jn4 [.slice none 0 0,.slice none 0 0] R)<|Jm4 W 3 R Z58 R Fct R λ_ _ bs=>Tv<|Jb 1 R<|Ju<|Jw<|Jb2 (l:=[.cell 4 58,.tmp 5]) results41 (bM R bs I58 Z58 R<|Jq2 R R) R<|Oh h<|⟨W,none,0,none,0,R,Fct,EY,EY⟩)
 rintro y _ bV ⟨o,i,c,P,F,I,G,rfl,aa,bz,T,az,bH,aD,h⟩
 rcases y with _|y
 exact Jq<|Jl3 2 R<|Js3 R U29 R R<|Jb 1 R<|Jx2 R (dcf aD)<|Jc1<|Jt<|Jt<|Jb1<|Oh h<|Jw1 _ ⟨o,(c.1,c.2),P,F,I,G,R,Fct,bz,T,az,R⟩<|KM R
 refine Ob h λb2 h aF=>have U:=dct aD;Jq (Jl3 2 R<|Js3 R U29 R R<|Jb 1 R<|Jw2 R U<|Js<|Jp<|Jq<|Jv<|Jq<|Ob h λaU aG h=>Ob h λad aH h=>Ob h λj ac h=>Jt3 [1,2,4,6,7] (λk p a=>∃b g K O N Q,p=(8,.pointer (some ⟨g,0,none⟩))::(9,.bool j.2)::k/\Stp [12,16,18,19,20] o bV b a/\Oc (ER E6 2) 31 b a 12 K O j.1.Next/\Oc Pair.ep96 96 b a 13 N Q j.1.Pairs/\Bc b a 14 g 58 [.slice K j.1.Next.length O,.slice N j.1.Pairs.length Q]) (WC.rxt (J:=o) [0,2,10] none (by kernel_rfl) λ_ e=>Jq1 (fuel:=8) [(3,2),(4,2),(5,2),(0,0),(1,0),(2,0),(6,0)] (by kernel_rfl) (by kernel_rfl) R<|Jn 2 R<|Jd3 R ab aG U29 Z54 (have aA:=ay.stp (T7 am an ao ap aq aa e);Jg R (Jh4 (haC aA.cells R) I28 Z28 R) (Jg R (Jh4 (haC (az.stp e).cells R) I58 Z58 R)<|Jg R (Jh4 (haC aA.cells R) I28 Z28 R) ?_))) ?_)
 obtain⟨_,bN,bJ⟩:=((ab.stp (T8 al am an ao ap aq aa e))).gSt aG
 obtain⟨bW,b3,bX,b4,rfl,bZ,b0⟩:=Clause.un bN
 refine Jg R (Jh4 (haC bJ R) I54 Z54 R)<|Jp1<|WA.fork2 (fuel:=7) 7 12 (by kernel_rfl) R (Jw3 R call90 (oV (J:=Mk o) (p0:=p0) (p1:=aU) Gct Gct aH) ?_)<|Jy3 o 12 R X58 R λg _ aW q bl=>⟨(q.cl R),Xs 0 [22,25,29,32,35,40,44]<|Jw3 R call90 (oV (J:=Mk aW) (p0:=p0) (p1:=aU) Gct Gct aH) ?_⟩
 rintro _ _ ⟨_,a7,bc,a9,ba,rfl,bg,bB,bC⟩
 refine Im bg 12 R (λai d aL=>⟨(d.cl R),have bY:=bB.mx (cK (bI _) _) aL R (R:12+2=14);have aB:=bC.mx Pair.no96 aL R (R:12+3=15);Jp1 (WA.fork2 (fuel:=6) 8 12 (by kernel_rfl) R (Jw3 R call89 (lj (J:=Mk ai) (p0:=p0) (p1:=(⟨c.1,c.2⟩:Det)) (p2:=ad) Gct (Jn3 (T.stp<|e.tr d).rdc) Gct (Jn3 aB.rdc) ac) ?_)<|Jy3 ai 16 R X58 R λg _ aV m _=>⟨((d.tr m).cl R),Xs 0 [25,29,32,35,40,44]<|Jw3 R call89 (lj (J:=Mk aV) (p0:=p0) (p1:=(⟨c.1,c.2⟩:Det)) (p2:=ad) Gct (Jn3 (T.stp<|T3 e d m).rdc) Gct (Jn3 (aB.stp m).rdc) ac) ?_⟩)⟩)
 rintro _ _ ⟨_,v,t,x,u,rfl,bh,bD,bE⟩
 exact Im bh 16 R (λa3 E aM=>⟨((d.tr E).cl R),Xs 0 [29,32,35,37,40,44]<|Jn 3 R<|Jy3 a3 20 R X58 R λg _ ae X bi=>⟨((T3 d E X).cl R),Jm4 ae 20 R Z58 R bi R λ_ ak _=>⟨((T4 d E X ak).cl R),Jn 1 R<|Xe<|Jo<|Jw1 _ ⟨(λf=>ren [(18,12),(19,13),(20,14)]<|ae f),g,v,t,x,u,R,(Jz2 ((T5 e d E X ak).wk R) [(18,12),(19,13),(20,14)] R),(((bD.mx (cK (bI _) _) aM R (R:16+2=18)).stp Fct).map (ren [(18,12),(19,13),(20,14)]) R R),(((bE.mx Pair.no96 aM R (R:16+3=19)).stp Fct).map (ren [(18,12),(19,13),(20,14)]) R R),Fct⟩<|KM R⟩⟩⟩)
 rintro _ _ ⟨_,v,t,x,u,rfl,bd,bj,bk⟩
 exact Im bd 17 R (λaf Y aI=>⟨((T3 d m Y).cl R),Jn 3 R<|Jm4 af 16 R Z58 R Fct R λ_ C _=>⟨((T4 d m Y C).cl R),Jn 1 R<|Xe<|Jo<|Jw1 _ ⟨(λf=>ren [(19,12),(20,13),(16,14)]<|af f),g,v,t,x,u,R,(Jz2 ((T5 e d m Y C).wk R) [(19,12),(20,13),(16,14)] R),(((bj.mx (cK (bI _) _) aI R (R:17+2=19)).stp C).map (ren [(19,12),(20,13),(16,14)]) R R),(((bk.mx Pair.no96 aI R (R:17+3=20)).stp C).map (ren [(19,12),(20,13),(16,14)]) R R),Fct⟩<|KM R⟩⟩)
 rintro _ _ ⟨_,a7,bc,a9,ba,rfl,be,bm,bn⟩
 refine Im be 13 R (λaX s aJ=>⟨((q.tr s).cl R),Jw3 R call89 (lj (J:=Mk aX) (p0:=p0) (p1:=(⟨c.1,c.2⟩:Det)) (p2:=ad) Gct (Jn3 (T.stp<|T3 e q s).rdc) (Jn3 (bm.mx (cK (bI _) _) aJ R (R:13+2=15)).rdc) (Jn3 (bn.mx Pair.no96 aJ R (R:13+3=16)).rdc) ac) ?_⟩)
 rintro _ _ ⟨_,v,t,x,u,rfl,bf,bo,bp⟩
 exact Im bf 17 R (λag Z aK=>have aj:=(T3 q s Z);⟨(aj.cl R),Jn 3 R<|Jm4 ag 12 R Z58 R (bl.stp<|s.tr Z) R λ_ D _=>⟨((aj.tr D).cl R),Jn 1 R<|Xe<|Jo<|Jw1 _ ⟨(λf=>ren [(19,12),(20,13),(12,14)]<|ag f),g,v,t,x,u,R,(Jz2 ((T5 e q s Z D).wk R) [(19,12),(20,13),(12,14)] R),(((bo.mx (cK (bI _) _) aK R (R:17+2=19)).stp D).map (ren [(19,12),(20,13),(12,14)]) R R),(((bp.mx Pair.no96 aK R (R:17+3=20)).stp D).map (ren [(19,12),(20,13),(12,14)]) R R),Fct⟩<|KM R⟩⟩)
 rintro _ _ ⟨B,g,K,O,N,Q,rfl,a6,_,_,bA⟩
 refine Jp<|Jq<|Jf3 R ?_
 refine Bk h (λbO h=>Jy R<|Js<|Jp<|Jk3<|Jg4 tv R (Jh4 (haE bA.cells) I58 Z58 R)<|Jm4 B 10 R Z58 R Fct R λ_ a4 _=>Tv<|Jo<|Jz<|Jp<|Jg3 R ?_) (λbO h=>Jx R<|Jj3<|Jf R (Jn4 [.slice none 0 0,.slice none 0 0] R)<|Jm4 B 3 R Z58 R Fct R λ_ _ bq=>Tv<|Jb 1 R<|Ju<|Jw<|Ja1<|Jw<|Jw ?_)
 have bQ:ET .i64 (i+1)=i+1:=wr1 bH (Jn2 U) ab.len_le
 rw[bQ]
 have U:=Jn2 U
 cases h
 exact Ja2 ⟨(λf=>ren [(12,9),(13,11)]<|B f),i+1,(j.1.Next,j.1.Pairs),K,O,N,Q,R,(Jz2 ((T3 aa a6 a4).wk R) [(12,9),(13,11)] R),Fct,Fct,Fct,by omega,by omega,aF⟩ R
 cases h
 obtain rfl:=EU aF
 exact have h:=yL aE;Ja1 (Jr2<|Jw<|Jb2 (l:=[.cell 4 58,.tmp 5]) results41 (bM R bq I58 Z58 R<|Jq2 R R) R<|Oh h<|⟨B,none,0,none,0,R,Fct,EY,EY⟩)
 rintro _ _ ⟨ah,n,S,M,L,H,rfl,_,_,_,bx,rfl⟩
 exact have h:=yI aE;Jp (Jj3<|Jg4 tv R (Jh4 (haE bx.cells) I58 Z58 R)<|Jm4 ah 3 R Z58 R Fct R λ_ _ br=>Tv<|Jb 1 R<|Ju<|Jb2 (l:=[.cell 4 58,.tmp 5]) results41 (bM R br I58 Z58 R<|Jq2 R R) R<|Oh h<|⟨(λf=>ren [(9,2),(11,3)]<|ah f),S,M,L,H,R,Fct,Fct,Fct⟩)
theorem xV {p0:Sig}{o m p n}{p1:Det}{p2:Int}(aN:Rd Rs J w 0 o m p1.Next) (aO:Rd Pair.rp J w 0 p n p1.Pairs){r:Int}(h:oZ p0 p1 p2=some r):Ret prog 121 [.agg #[vi p0.In,vi p0.Out],.agg #[.slice o p1.Next.length m,.slice p p1.Pairs.length n],vi p2] w (Pvi J w r):=by
 refine Jp3 J func121 R ntmps121 R λaP=>Jj3<|Jx3 J 2 R λ_ _ x _ S=>Tv<|Jx3 x 3 R λ_ _ C G Y=>Tv<|Jb 1 R<|Jj3<|Jg4 tv R (Jh4 (haE (S.stp G).cells) I28 Z28 R)<|Jg4 tv R (Jh4 (haE Y.cells) I58 Z58 R)<|Ob h λaj ac h=>Jw3 R call74 (oT (J:=λe=>mp [] 1<|C e) (p0:=p0) (p1:=p1) (Jm2 Fct (mp [] 1) R R) (Jm2 Fct (mp [] 1) R R) ac) ?_
 rintro _ _ ⟨_,ao,av,aH,aA,aw,aD,rfl,I,M,N,O⟩
 refine Im0 I 4 R (λv _ f ak=>Tv<|Jn 4 R<|Jy3 v 9 R X62 R λ_ _ j _ P=>Tv<|Jm4 j 9 R Z62 R P R λi _ Q=>Tv<|Jb 2 R<|Jj3<|Jg4 tv R (Jh4 (haE Q.cells) I62 Z62 R)<|Jn 2 R ?_)
 obtain⟨y,_,al⟩:=dg j i 6
 obtain⟨z,_,am⟩:=dg y i 7
 obtain⟨A,F,an⟩:=dg z i 8
 refine Ob h λs ad h=>Jw3 R call75 (p5 (J:=λe=>mp [] 1<|A e) (p0:=aj.1) (Jm2 ((Sl.st al ((M.mx (bI _) f R (R:4+2=6)).stp Fct).rdc).stp Fct) (mp [] 1) R R) (Jm2 ((Sl.st am ((N.mxz ak f R (R:4+3=7)).stp Fct).rdc).stp F) (mp [] 1) R R) (Jm2 (Sl.st an ((O.mx Pair.no96 f R (R:4+4=8)).stp Fct).rdc) (mp [] 1) R R) ad) ?_
 rintro _ _ ⟨_,aJ,ap,ay,aE,ax,au,ar,aC,rfl,K,T,U,V,_⟩
 refine Im0 K 10 R (λB _ g _=>Tv<|Jn 4 R<|Jy3 B 16 R X66 R λ_ _ a c W=>Tv<|Jm4 a 16 R Z66 R W R λ_ d X=>Tv<|Jb 2 R<|Jq<|Jf3 R ?_)
 refine Bk h (λab h=>Jy R<|Js<|Jp<|Jq (Xn a [16] [0,3,7,10,14,17,20,23,26] λ_ b=>have q:=X.stp b;Jg R (Jh4 (haC q.cells R) I66 Z66 R) (Jg R (Jh4 (haC q.cells R) I66 Z66 R) (Ob h λ_ ae h=>have aK:=(T.mx (bI _) g R (R:10+2=12)).stp (T3 c d b);have aL:=(U.mx (cK (bI _) _) g R (R:10+3=13)).stp (T3 c d b);have aM:=(V.mx (bI _) g R (R:10+4=14)).stp (T3 c d b);Jw3 R call179 (yX (J:=Mk a) (p0:=s.1) Gct Gct Gct ae) (Ks 19 (bI _) λaz aq _ D k Z=>⟨(k.cl R),Ob h λ_ af h=>Jw3 R call178 (yU (J:=Mk D) (p0:=s.1) Gct Gct Gct (Jn3 Z.rdc) af) ?_⟩))))) (λab h=>Jx R<|Jf3 R<|Ju<|Jw<|Jb2 (l:=[.tmp 6]) results121 (Jq2 R R) R<|Oh h<|⟨a,R,Fct⟩)
 rintro _ _ ⟨_,aI,aF,aB,aG,rfl,L,aa,_⟩
 exact Im L 20 R (λE H ai=>⟨((k.tr H).cl R),Jn 5 R<|Jt1<|Jd<|Jl3 1 R<|Ob h λ_ ag h=>Jw3 R C99 (dP (J:=Mk E) (Jn3 (aa.mx (bI _) ai R (R:20+2=22)).rdc) ag)<|Kb λ_ t _=>Tv<|Ob h λ_ ah h=>Jw3 R call180 (mn (J:=Mk t) ah)<|Ki λ_ u _=>Tv<|Jb 2 R<|Ju<|Jb2 (l:=[.tmp 6]) results121 (Jq2 R R) R<|Oh h<|⟨u,R,Fct⟩⟩)
theorem sB {p0:Sig}{e c f d}{p1:Det}(t:Rd Rs J w 0 e c p1.Next) (u:Rd Pair.rp J w 0 f d p1.Pairs){r:Int}(h:nN p0 p1=some r):Ret prog 73 [.agg #[vi p0.In,vi p0.Out],.agg #[.slice e p1.Next.length c,.slice f p1.Pairs.length d]] w (Pvi J w r):=by
 refine Jp3 J func73 R ntmps73 R λv=>Jj3<|Jx3 J 2 R λ_ _ j _ o=>Tv<|Jx3 j 3 R λ_ _ m n g=>Tv<|Jb 1 R<|Jq<|Jj3 (have i:=o.stp n;Jg4 tv R (Jh4 (haE i.cells) I28 Z28 R) (Jg4 tv R (Jh4 (haE g.cells) I58 Z58 R)<|Ob h λx s h=>Jw3 R call120 (nQ (J:=Mk m) (p0:=p0) (p1:=p1) Gct Gct s)<|Kb λ_ a b=>Tv<|Jb 1 R ?_))
 exact Bk h (λp h=>Jy R<|Js<|Jp<|Jj3<|Jg4 tv R (Jh4 (haE (i.stp b).cells) I28 Z28 R)<|Jg4 tv R (Jh4 (haE (g.stp b).cells) I58 Z58 R)<|Ob h λ_ q h=>Jw3 R call121 (xV (J:=Mk a) (p0:=p0) (p1:=p1) Gct Gct q)<|Ki λ_ k _=>Tv<|Jb 1 R<|Ju<|Jb2 (l:=[.tmp 4]) results73 (Jq2 R R) R<|Oh h<|⟨k,R,Fct⟩) (λp h=>Jx R<|Jf3 R<|Ju<|Jw<|Jb2 (l:=[.tmp 4]) results73 (Jq2 R R) R<|Oh h<|⟨a,R,Fct⟩)
theorem mK {aG aH aF aA aD aC}{p0:Parity}{az bd}{p1:VI}(bW:Rd Ri J w 0 aG aH p0.Arena.Owner) (cG:Rd Rs J w 0 aF aA p0.Arena.Next) (cH:Rd Ri J w 0 aD aC p0.Prio) (bX:Rd Ri J w 0 az bd p1){r:Answer×Bool}(h:nT p0 p1=some r):Ret prog 130 [.agg #[.slice aG p0.Arena.Owner.length aH,.slice aF p0.Arena.Next.length aA,.slice aD p0.Prio.length aC],.slice az p1.length bd] w (λco a=>∃b a9 bb ba bc,co= .tuple #[.agg #[.slice a9 r.1.Won.length bb,.slice ba r.1.Plan.length bc],.bool r.2]/\Ent J w b a/\Oc E6 2 b a 2 a9 bb r.1.Won/\Oc E6 2 b a 3 ba bc r.1.Plan):=by
 refine Jp3 J func130 R ntmps130 R λcI=>Jj3<|Jx3 J 2 R λ_ _ bm ax bO=>Tv<|Jy3 bm 3 R X73 R λ_ _ bq ac _=>Tv<|Jb 1 R<|Jq<|Jj3 (have aO:=bO.stp ac;Jg4 tv R (Jh4 (haE aO.cells) I66 Z66 R) (Jn 1 R (Ob h λcO cd h=>have bB:=bW.stp (ax.tr ac);have ah:=bX.stp (ax.tr ac);Jw3 R call185 (uJ (J:=Mk bq) (p0:=p0) Gct Gct Gct Gct cd) (Kb λ_ W Z=>Tv<|Jb 1 R ?_))))
 refine Bk h (λca h=>Jy R<|Js<|Jp<|Jj3 (have aM:=aO.stp Z;Jg4 tv R (Jh4 (haE aM.cells) I66 Z66 R) (Ob h λT ce h=>have bL:=bB.stp Z;Jw3 R call186 (qj (J:=Mk W) (p0:=p0) Gct Gct Gct ce) (Ks 8 (bI _) λaE aB _ bo ab bN=>Tv<|have aj:=bN;Jb 1 R (Jj3 (have ak:=aM.stp ab;Jg4 tv R (Jh4 (haE ak.cells) I66 Z66 R) (Ob h λc cf h=>have D:=bL.stp ab;Jw3 R call187 (rU (J:=λm=>mp [] 1<|bo m) (p0:=p0) (Jm2 D (mp [] 1) R R) (Jm2 Fct (mp [] 1) R R) (Jm2 Fct (mp [] 1) R R) cf) ?_))))))) (λca h=>Jx R<|Jj3<|Jf R (Jn4 [.slice none 0 0,.slice none 0 0] R)<|Jm4 W 3 R Z73 R Fct R λ_ _ bK=>Tv<|Jb 1 R<|Ju<|Jw<|Jb2 (l:=[.cell 4 73,.tmp 5]) results130 (bM R bK I73 Z73 R<|Jq2 R R) R<|Oh h<|⟨W,none,0,none,0,R,Fct,EY,EY⟩)
 rintro _ _ ⟨_,cz,cD,cA,cy,cC,cF,cE,cB,q,s,rfl,bA,bP,bQ,bR,bS,bT⟩
 refine Im0 bA 9 R (λbp M a5 ap=>Tv<|Jy3 bp 16 R X204 R λ_ _ H z bU=>Tv<|Jm4 H 16 R Z204 R bU R λbe A al=>Tv<|Jd<|Jq<|Jf3 R<|Ob h λa6 b7 aP=>Jt3 [2,4,6,7] (λd f a=>∃b,∃F:VI,f=d/\Stp [15] H be b a/\Oc E6 2 b a 15 q s F/\c.pick.length=F.length/\a6=EW F) (Jv<|Ju3 [1,2,4,6,7] (λe d f a=>∃b u,∃E:VI,f=(8,vi u)::d/\Stp [15] H be b a/\Oc E6 2 b a 15 q s E/\c.pick.length=E.length/\0<=u/\ES ((p1.length:Int)-u)=e/\cntM (jM p0 p1 T) e u E=some a6) ⟨_,_,⟨H,0,c.pick,R,Jo3,((bT.mx (bI _) a5 R (R:9+6=15)).stp Fct),R,(by decide),(by simp),b7⟩,(KM R)⟩ ?_) ?_)
 rintro e _ _ ⟨X,u,E,rfl,ad,aN,ao,aR,O,h⟩
 rcases e with _|e
 exact Jq<|Jl3 2 R<|Js3 R U31 R R<|Jb 1 R<|Jx2 R (dcf O)<|Jc1<|Jt<|Jt<|Jb1<|Oh h<|Jw1 _ ⟨X,E,R,Fct,aN,ao,R⟩<|KM R
 refine Ob h λcN h aT=>Jq<|Jl3 2 R<|Js3 R U31 R R<|Jb 1 R<|Jw2 R (dct O)<|Js<|Jp<|Jq<|Jv<|Jq<|Jq<|Xn X [0,2,8] [2,5,8,9,14,17,20,23,26,32,35,41,27,36,44,45,50,53] λcr ae=>Jn 2 R<|Ob h λcs aV h=>Jd3 R ah aV U31 Z2 (have am:=ah.stp (T7 Z ab M z A ad ae);Jg R (Jd2 I2 R R<|hvC (am.gInt aV) R) (Jn 2 R<|Ob h λcm h b1=>Jk4 [1,2,4,6,7,8] 45 cm X cr 12 (Cl.refl _ _ _) ?_ ?_))
 revert h
 cases cL:(cs !=(-1))
 exact JF λh=>Jn 6 R<|Jf4 R<|Jf4 R<|Jn 1 R<|Jf4 R<|Jn 2 R<|Oh h<|Jv1 _ (Cl.refl _ _ _) ⟨R,_,Jo3⟩<|KM R
 exact have Y:=(T5 M z A ad ae);JT λh=>Jn 2 R<|Ob h λ_ aW h=>Jd3 R aj.rdc aW U31 Z2<|Je3 R U66 R Z62<|Je3 R U62 R Z31<|Jn 1 R<|Jg R (Jd2 I2 R R<|hvC ((aj.stp Y).rdc.gInt aW) R)<|Jg R (Jd2 I31 R R<|hvC ((ak.stp Y).ld 0 R R) R)<|Ob h λ_ aX h=>Jd3 R D aX U31 Z2<|Jg R (Jd2 I2 R R<|hvC ((D.stp Y).gInt aX) R)<|Jn 2 R<|Oh h<|Jv1 _ (Cl.refl _ _ _) ⟨R,_,Jo3⟩<|KM R
 rintro _ _ _ ⟨rfl,I,ay⟩
 refine have h:=b1;Jt1 (Jd ?_)
 refine Bk h (λcb h=>Jy R<|Js<|Jp<|Xn I [0,16] [2,8,11,14,17,3,18,23,25] λ_ av=>Je3 R U204 R Z31<|Jn 3 R<|Ob h λ_ aY h=>Jd3 R am aY U31 Z2<|Jg R (Jd2 I31 R R<|hvC ((al.stp<|T4 ad ae ay av).ld 4 R R) R)<|Jg R (Jd2 I2 R R<|hvC ((am.stp<|ay.tr av).gInt aY) R)<|Ob h λ_ cg h=>Jf R (Jg2 aN.rdc cg U31 Z2 R R ao R)<|Ob h λbf a3 h=>Jk1 (J:=I) (E:=E6) 15 [] R R R R R R R R Z2 R R R R Fct a3 λ_ bh bs bC=>⟨(bs.cl R),have b2:c.pick.length=bf.length:=ao.trans (Ju2 a3).2.2.2.symm;Jt1 (Jo<|Jz<|Jp<|Jg3 R<|wr2 aR O ah.len_le ▸ ?_)⟩) (λcb h=>Jx R<|Jj3<|Jf R (Jn4 [.slice none 0 0,.slice none 0 0] R)<|Jm4 I 3 R Z73 R Fct R λ_ _ bV=>Tv<|Jb 1 R<|Ju<|Jw<|Ja1<|Jw<|Jw ?_)
 cases h
 exact Ja2 ⟨bh,u+1,bf,R,Fct,bC,b2,nxz aR,nxm O,aT⟩ R
 cases h
 obtain rfl:=EU aT
 exact have h:=yL aP;Ja1 (Jr2<|Jw<|Jb2 (l:=[.cell 4 73,.tmp 5]) results130 (bM R bV I73 Z73 R<|Jq2 R R) R<|Oh h<|⟨I,none,0,none,0,R,Fct,EY,EY⟩)
 rintro _ _ ⟨br,F,rfl,B,_,b5,rfl⟩
 refine have h:=yI aP;Jp (Jl3 1 R (Ob h λct ch h=>have bD:=aj.stp (T4 M z A B);Jw3 R call188 (p9 (J:=Mk br) Gct ch) (Ks 19 cQ λbw bu _ bi v bE=>Tv<|Jb 1 R<|Jl3 1 R (Ob h λcu ci h=>have C:=bD.stp v;Jw3 R call188 (p9 (J:=Mk bi) Gct ci) (Ks 22 cQ λbx bv S bj i bF=>Tv<|Jb 1 R<|Jq<|Jf3 R ?_)))))
 obtain⟨bk,j,cw⟩:=dg bj S 19
 obtain⟨U,o,cx⟩:=dg bk S 22
 refine have aQ:=C.len_le;Ob h λa7 b6 bY=>Jt3 [4,6,7] (λd f a=>∃b,∃Q:VI,f=d/\Stp [15,25] U S b a/\Oc E6 2 b a 15 q s Q/\c.pick.length=Q.length/\a7=EW Q) (Jv<|Ju3 [2,4,6,7,9,10] (λe d f a=>∃b g,∃n:VI,f=(11,vi g)::d/\Stp [15,25] U S b a/\Oc E6 2 b a 15 q s n/\c.pick.length=n.length/\0<=g/\ES ((T.length:Int)-g)=e/\cntM (jN p0 T c ct cu) e g n=some a7) ⟨_,_,⟨U,0,F,R,Jo3,Fct,b5,(by decide),(by simp),b6⟩,(KM R)⟩ ?_) ?_
 rintro e _ _ ⟨V,g,n,rfl,p,ai,t,an,N,h⟩
 rcases e with _|e
 exact Jq<|Jl3 2 R<|Js3 R U31 R R<|Jb 1 R<|Jx2 R (dcf N)<|Jc1<|Jt<|Jt<|Jb1<|Oh h<|Jw1 _ ⟨V,n,R,Fct,ai,t,R⟩<|KM R
 refine Ob h λcM h aS=>have P:=dct N;Jq (Jl3 2 R<|Js3 R U31 R R<|Jb 1 R<|Jw2 R P<|Js<|Jp<|Jq<|Jv<|Jq<|Jq<|Xn V [0,2,8,15,16] [2,8,3,11,12,17,20,23,26,29,35,38,44,30,39,47,48,53,56] λcp k=>Je3 R U204 R Z31<|Jn 1 R (have aI:=al.stp (T7 B v i j o p k);Jg R (Jd2 I31 R R<|hvC (aI.ld 4 R R) R) (Ob h λcv aZ h=>Jf R (Jg2 ai.rdc aZ U31 Z2 R R t R) (have aJ:=ai.stp k;Jg R (Jd2 I2 R R<|hvC (aJ.rdc.gInt aZ) R) (Jn 2 R<|Ob h λcn h bZ=>Jk4 [2,4,6,7,9,10,11] 83 cn V cp 12 (Cl.refl _ _ _) ?_ ?_)))))
 revert h
 cases cJ:decide (0<=cv)
 exact have au:=(T10 M z A B v i j o p k);JF λh=>Jn 2 R<|Ob h λ_ a0 h=>Jd3 R C.rdc a0 U31 Z2<|Je3 R U66 R Z62<|Je3 R U62 R Z31<|Jn 1 R<|Jg R (Jd2 I2 R R<|hvC ((C.stp<|T5 i j o p k).rdc.gInt a0) R)<|Jg R (Jd2 I31 R R<|hvC ((ak.stp au).ld 0 R R) R)<|Ob h λ_ a1 h=>Jd3 R D a1 U31 Z2<|Jg R (Jd2 I2 R R<|hvC ((D.stp au).gInt a1) R)<|Jn 2 R<|Oh h<|Jv1 _ (Cl.refl _ _ _) ⟨R,_,Jo3⟩<|KM R
 exact JT λh=>Jn 6 R<|Jf4 R<|Jf4 R<|Jn 1 R<|Jf4 R<|Jn 2 R<|Oh h<|Jv1 _ (Cl.refl _ _ _) ⟨R,_,Jo3⟩<|KM R
 rintro _ cq _ ⟨rfl,G,x⟩
 refine have h:=bZ;Jt1 (Jd ?_)
 refine Bk h (λb8 h=>Jy R<|Js<|Jp<|Jf3 R<|Jq<|Jl3 2 R<|Ob h λcP a2 h=>Jd3 R C.rdc a2 U31 Z2<|Jc3 R I2 ((C.stp<|T6 i j o p k x).rdc.gInt a2)<|Jb 1 R<|Ob h λa8 h b0=>Jt3 [2,4,6,7,9,10,11] (λd f a=>∃b af ag,f=(12,.slice af a8.length ag)::d/\Stp [] G cq b a/\Rd Rp.bool b a 0 af ag a8) ?_ ?_) (λb8 h=>Jx R<|Jc1<|Jt<|Jb1<|Jp<|Jg3 R ?_)
 exact Bk h (λb9 h=>Jy R<|Js<|Oh h<|Jw1 _ ⟨G,bw,bu,R,Jo3,((Sl.st cw (bE.stp i).rdc).stp Fct)⟩<|KM R) (λb9 h=>Jx R<|Jg3 R<|Oh h<|Jw1 _ ⟨G,bx,bv,R,Jo3,((Sl.st cx (bF.stp j).rdc).stp Fct)⟩<|KM R)
 rintro _ _ ⟨ar,af,ag,rfl,L,bG⟩
 refine have h:=b0;Jp (Xn ar [16] [2,8,14,17,3,9,19,23,25] λ_ y=>Je3 R U204 R Z31<|Jn 3 R (have aK:=aI.stp (T3 x L y);have K:=(T12 z A B v i j o p k x L y);Jg R (Jd2 I31 R R<|hvC (aK.ld 4 R R) R) (Jg R (Jh4 (haC aK.cells R) I204 Z204 R)<|Ob h λ_ cj h=>Jw3 R call189 (Ret.cast (by simp only[t,List.cons_append,List.nil_append])<|xY (J:=λm=>mp [(15,2)] 0<|ar m) (p0:=(⟨c.owner,c.prio,c.next,c.prev,n⟩:l7Game)) (Jm2 ((bP.mx ap).stp K) (mp [(15,2)] 0) R R) (Jm2 ((bQ.mx ap).stp K) (mp [(15,2)] 0) R R) (Jm2 ((bR.mx ap).stp K) (mp [(15,2)] 0) R R) (Jm2 ((bS.mx (cK (bI _) _) a5 R (R:9+5=14)).stp K).rdc (mp [(15,2)] 0) R R) ((aJ.stp<|T3 x L y).map (mp [(15,2)] 0) R R) (Jm2 (bG.stp y) (mp [(15,2)] 0) R R) cj) ?_)))
 rintro _ _ ⟨_,rfl,bz,bH,aU⟩
 refine Im bz 23 R (λbl aa cl=>⟨(aa.cl R),have aL:=bH.mx (bI _) cl R (R:23+2=25);Ob h λ_ ck h=>Jf R (Jg2 aL.rdc ck U31 Z2 R R (t.trans aU) R)<|Ob h λbg a4 h=>Jk1 (J:=bl) (E:=E6) 25 [] R R R R R R R R Z2 R R R R aL a4 λ_ bn aw _=>⟨((aa.tr aw).cl R),have b4:c.pick.length=bg.length:=(t.trans aU).trans (Ju2 a4).2.2.2.symm;Jt1 (Jo<|Jz<|Jp<|Jg3 R<|wr2 an N aQ ▸ ?_)⟩⟩)
 cases h
 exact Ja2 ⟨(λm=>ren [(25,15)]<|bn m),g+1,bg,R,(Jz2 ((T7 p k x L y aa aw).wk R) [(25,15)] R),Fct,b4,nxz an,nxm N,aS⟩ R
 have cc:ET .i64 (g+1)=g+1:=wr1 an (Jn2 P) aQ
 rw[cc]
 have P:=Jn2 P
 cases h
 exact Ja2 ⟨G,g+1,n,R,Fct,Fct,t,by omega,by omega,aS⟩ R
 rintro _ _ ⟨aq,Q,rfl,bt,_,b3,rfl⟩
 exact have h:=yI bY;Jp (Jl3 1 R<|Je3 R U204 R Z31<|Jc3 R I31 ((al.stp<|T6 B v i j o bt).ld 4 R R)<|Jf R (Jn4 [.slice aE T.length aB,.slice q c.pick.length s] R)<|Jm4 aq 3 R Z73 R Fct R λ_ _ bJ=>Tv<|Jb 1 R<|Ju<|Jb2 (l:=[.cell 4 73,.tmp 5]) results130 (bM R bJ I73 Z73 R<|Jq2 R R) R<|Oh h<|⟨(λm=>ren [(8,2),(15,3)]<|aq m),aE,aB,q,s,(by simp only[b3]),Fct,Fct,Fct⟩)
theorem xS {L O Q M P N}{p0:Parity}(aL:Rd Ri J w 0 L O p0.Arena.Owner) (aM:Rd Rs J w 0 Q M p0.Arena.Next) (aN:Rd Ri J w 0 P N p0.Prio){r:Answer}(h:oW p0=some r):Ret prog 76 [.agg #[.slice L p0.Arena.Owner.length O,.slice Q p0.Arena.Next.length M,.slice P p0.Prio.length N]] w (λaI c=>∃d Y aa Z ab,aI= .agg #[.slice Y r.Won.length aa,.slice Z r.Plan.length ab]/\Ent J w d c/\Oc E6 2 d c 2 Y aa r.Won/\Oc E6 2 d c 3 Z ab r.Plan):=by
 refine Jp3 J func76 R ntmps76 R λaO=>Jj3<|Jx3 J 2 R λ_ _ ae _ aA=>Tv<|Jy3 ae 3 R X73 R λ_ _ ag al _=>Tv<|Jd<|Jq<|Jj3 (have T:=aA.stp al;Jg4 tv R (Jh4 (haE T.cells) I66 Z66 R) (Ob h λaP aH h=>Jw3 R call129 (mJ (J:=Mk ag) (p0:=p0) Gct Gct Gct aH)<|Kb λaJ f ak=>Tv<|Jb 1 R ?_))
 refine Bk h (λaG h=>Jy R<|Js<|Jp<|Jq<|Ob h λ_ U h=>Ob h λz D h=>Jt3 [2] (λac aj c=>∃d b u x y v,aj=(3,.pointer (some ⟨b,0,none⟩))::ac/\Stp [6,9,11,12,13] f aJ d c/\Oc E6 2 d c 6 u x z.1.Won/\Oc E6 2 d c 7 y v z.1.Plan/\Bc d c 8 b 73 [.slice u z.1.Won.length x,.slice y z.1.Plan.length v]) (WC.rxt (J:=f) [2] none (by kernel_rfl) λ_ p=>Jq1 (fuel:=8) [(1,2),(0,0),(2,0),(3,2)] (by kernel_rfl) (by kernel_rfl) R<|Je3 R U66 R Z31 (have S:=T.stp (ak.tr p);Jg R (Jh4 (haC S.cells R) I66 Z66 R) (Jg R (Jd2 I31 R R<|hvC (S.ld 2 R R) R)<|Js3 R U31 R R<|Jp1<|WA.fork2 (fuel:=7) 4 9 (by kernel_rfl) R (Jw3 R call131 (sg (J:=Mk f) U)<|Ks 8 (bI _) λan am _ G a az=>⟨(a.cl R),have aK:=az;Jp1 (WA.fork2 (fuel:=6) 5 9 (by kernel_rfl) R (Jw3 R call130 (mK (J:=Mk G) (p0:=p0) Gct Gct Gct Gct D) ?_)<|Jy3 G 9 R X73 R λb _ ah s _=>⟨((a.tr s).cl R),Jp1<|Jq1 (fuel:=0) [(5,1),(6,2),(7,2),(8,2),(10,1),(11,2)] (by kernel_rfl) (by kernel_rfl) R<|Jw3 R call130 (mK (J:=Mk ah) (p0:=p0) Gct Gct Gct Gct D) ?_⟩)⟩)<|Jy3 f 6 R X73 R λb _ ai g _=>⟨(g.cl R),Jp1<|Jq1 (fuel:=0) [(4,1),(5,1),(6,2),(7,2),(8,2),(10,1),(11,2)] (by kernel_rfl) (by kernel_rfl) R<|Jw3 R call131 (sg (J:=Mk ai) U)<|Ks 9 (bI _) λan am _ ad n ar=>⟨((g.tr n).cl R),Jw3 R call130 (mK (J:=Mk ad) (p0:=p0) Gct Gct Gct (Jn3 ar.rdc) D) ?_⟩⟩))) ?_) (λaG h=>Jx R<|Jj3<|Jf R (Jn4 [.slice none 0 0,.slice none 0 0] R)<|Jm4 f 3 R Z73 R Fct R λ_ _ ax=>Tv<|Jd<|Ju<|Jw<|Jb2 (l:=[.cell 2 73]) results76 (bM R ax I73 Z73 R R) R<|Oh h<|⟨f,none,0,none,0,R,Fct,EY,EY⟩)
 rintro _ _ ⟨_,i,m,j,k,rfl,ap,aB,aC⟩
 exact Im ap 9 R (λaf q W=>⟨((a.tr q).cl R),Jp1<|Jq1 (fuel:=0) [(6,2),(7,2),(8,2),(9,1),(10,1),(11,2)] (by kernel_rfl) (by kernel_rfl) R<|Jn 3 R<|Jy3 af 13 R X73 R λb _ H B aD=>⟨((T3 a q B).cl R),Jm4 H 13 R Z73 R aD R λ_ K _=>⟨((T4 a q B K).cl R),Jn 1 R<|Jp1<|Jr1 [] (by kernel_rfl) (by kernel_rfl) R<|Jo<|Jw1 _ ⟨(λe=>ren [(11,6),(12,7),(13,8)]<|H e),b,i,m,j,k,R,(Jz2 ((T5 p a q B K).wk R) [(11,6),(12,7),(13,8)] R),(((aB.mx (bI _) W R (R:9+2=11)).stp Fct).map (ren [(11,6),(12,7),(13,8)]) R R),(((aC.mx (bI _) W R (R:9+3=12)).stp Fct).map (ren [(11,6),(12,7),(13,8)]) R R),Fct⟩<|KM R⟩⟩⟩)
 rintro _ _ ⟨_,i,m,j,k,rfl,aq,aE,aF⟩
 exact Im aq 10 R (λI C X=>⟨((T3 a s C).cl R),Jn 3 R<|Jm4 I 9 R Z73 R Fct R λ_ t _=>⟨((T4 a s C t).cl R),Jn 1 R<|Jp1<|Jr1 [] (by kernel_rfl) (by kernel_rfl) R<|Jo<|Jw1 _ ⟨(λe=>ren [(12,6),(13,7),(9,8)]<|I e),b,i,m,j,k,R,(Jz2 ((T5 p a s C t).wk R) [(12,6),(13,7),(9,8)] R),(((aE.mx (bI _) X R (R:10+2=12)).stp t).map (ren [(12,6),(13,7),(9,8)]) R R),(((aF.mx (bI _) X R (R:10+3=13)).stp t).map (ren [(12,6),(13,7),(9,8)]) R R),Fct⟩<|KM R⟩⟩)
 rintro _ _ ⟨_,i,m,j,k,rfl,ao,au,av⟩
 exact Im ao 10 R (λE A V=>⟨((T3 g n A).cl R),Jn 3 R<|Jm4 E 6 R Z73 R Fct R λ_ o _=>⟨((T4 g n A o).cl R),Jn 1 R<|Jp1<|Jr1 [] (by kernel_rfl) (by kernel_rfl) R<|Jo<|Jw1 _ ⟨(λe=>ren [(12,6),(13,7),(6,8)]<|E e),b,i,m,j,k,R,(Jz2 ((T5 p g n A o).wk R) [(12,6),(13,7),(6,8)] R),(((au.mx (bI _) V R (R:10+2=12)).stp o).map (ren [(12,6),(13,7),(6,8)]) R R),(((av.mx (bI _) V R (R:10+3=13)).stp o).map (ren [(12,6),(13,7),(6,8)]) R R),Fct⟩<|KM R⟩⟩)
 rintro _ _ ⟨F,b,u,x,y,v,rfl,_,_,_,ay⟩
 exact Jp<|Jj3<|Jg4 tv R (Jh4 (haE ay.cells) I73 Z73 R)<|Jm4 F 3 R Z73 R Fct R λ_ _ aw=>Tv<|Jd<|Ju<|Jb2 (l:=[.cell 2 73]) results76 (bM R aw I73 Z73 R R) R<|Oh h<|⟨(λe=>ren [(6,2),(7,3)]<|F e),u,x,y,v,R,Fct,Fct,Fct⟩
theorem ut {p0:Sig}{bD bC bF bE}{p1:Rival}{bB ch}{p2:VC}(bX:Rd Ri J w 0 bD bC p1.In) (bY:Rd Rs J w 0 bF bE p1.Next) (fq:Rd Clause.rp J w 0 bB ch p2){r:Bool}(h:nj p0 p1 p2=some r):Ret prog 14 [.agg #[vi p0.In,vi p0.Out],.agg #[.slice bD p1.In.length bC,.slice bF p1.Next.length bE],.slice bB p2.length ch] w (Pvb J w r):=by
 refine Jp3 J func14 R ntmps14 R λfr=>Jj3<|Jx3 J 2 R λ_ _ cy bz dS=>Tv<|Jx3 cy 3 R λ_ _ cQ aT bV=>Tv<|Jb 1 R<|Jq<|Jj3 (have a9:=dS.stp aT;Jg4 tv R (Jh4 (haE a9.cells) I28 Z28 R) (Ob h λfA eL h=>Jw3 R call33 (jl (J:=Mk cQ) (p0:=p0) eL)<|Kb λeS be H=>Tv<|Jn 2 R<|Ob h λeR h d1=>Jk4 [2,3,4] 35 eR be eS 5 tv ?_ ?_))
 exact Bk h (λer h=>Jg4 tv R (Jh4 (haE (a9.stp H).cells) I28 Z28 R)<|Jg4 tv R (Jh4 (haE (bV.stp H).cells) I34 Z34 R)<|Ob h λ_ eM h=>Jw3 R call35 (nu (J:=Mk be) (p0:=p0) (p1:=p1) Gct Gct eM)<|Kb λ_ _ _=>Tv<|Jn 2 R<|Oh h<|Jv1 _ tv ⟨R,_,Fct⟩<|KM R) (λer h=>Je4 R<|Je4 R<|Je4 R<|Jn 2 R<|Oh h<|Jl4 tv R)
 rintro _ _ _ ⟨rfl,bm,ah⟩
 refine have h:=d1;Jd ?_
 refine Bk h (λev h=>Jy R<|Js<|Jp<|Jj3 (have bR:=a9.stp (H.tr ah);Jg4 tv R (Jh4 (haE bR.cells) I28 Z28 R) (Jn 1 R<|Ob h λaH eO h=>Jw3 R call19 (iB (J:=Mk bm) (p0:=p0) Gct eO) ?_))) (λev h=>Jx R<|Jf3 R<|Ju<|Jw<|Jb2 (l:=[.tmp 6]) results14 (Jq2 R R) R<|Oh h<|⟨bm,R,Fct⟩)
 rintro _ _ ⟨_,ff,fe,fd,fk,rfl,dh,dT,dU⟩
 refine Im dh 6 R (λcO ai cc=>Tv<|have bS:=dT.mx (cK (bI _) _) cc R (R:6+2=8);have a7:=dU.mx Pair.no96 cc R (R:6+3=9);Jn 3 R (Jy3 cO 10 R X58 R λ_ _ Q I dV=>Tv<|Jm4 Q 10 R Z58 R dV R λcm K bU=>Tv<|Jb 1 R<|Jq<|Jf3 R ?_))
 refine Bk h (λew h=>Jy R<|Js<|Jp<|Jj3<|Jf R (Jn4 [vi 0,vi 0] R)<|Jb4 Q (EX E6 E6) 11 [] (parts:=[(0,.tmp 44)]) (cells:=[vi 0,vi 0]) (xs:=([(0,0)]:List (Int×Int))) R Y92 jf R (Jj4 ⟨[vi 0],[vi 0],Zl Q cm [],Zl Q cm [],R,Zl.sp (l1:=[]) (l2:=[]) R,Zl.sr (l1:=[]) (l2:=[]),R,R⟩) λc0 dc _ cP s _=>Tv<|Jb 1 R<|Jj3<|WO.mkmap (J:=cP) 12 R R R R R kwI2 kvI2 (λf:Int=>vi f) λac _ bo t dW=>Tv<|Jf R (Jn4 [vi 0,vi 0] R)<|Ob h λe3 eP h=>WO.mapin (J:=bo) (kf:=kvI2) (vf:=(λf:Int=>vi f)) (v:=0) 12 R R R R R R R tK U93 dW eP λ_ u _=>Tv<|Jb 2 R<|Jj3<|Jc4 bo (ER E6 2) 13 R Y32 bL R λc3 c2 cn aM v dX=>Tv<|Jb 1 R<|Jq<|Jf3 R<|Ob h λce el b1=>Jt3 [7] (λc d a=>∃(b:Col) (n:(List<|Int×Int)×VV×Int×(List ((Int×Int)×Int))) (a1:Option Addr) (aX:Nat) (aU:Option Addr) (a2:Nat),d=(9,.slice a1 n.1.length aX)::(11,.slice aU n.2.1.length a2)::c/\Stp [11,12,13,14,15,17] aM cn b a/\Oc (EX E6 E6) 88 b a 11 a1 aX n.1/\Oc (ER E6 2) 31 b a 13 aU a2 n.2.1/\Mc kwI2 kvI2 (λf:Int=>vi f) b a 12 ac n.2.2.2/\ce=EW n) (Jv<|Ju3 [3,4,7,10] (λe c d a=>∃(b:Col) (g:(List<|Int×Int)×VV×Int×(List ((Int×Int)×Int))) (Y:Option Addr) (Z:Nat) (au:Option Addr) (ar:Nat),d=(9,.slice Y g.1.length Z)::(11,.slice au g.2.1.length ar)::(12,vi g.2.2.1)::c/\Stp [11,12,13,14,15,17] aM cn b a/\Oc (EX E6 E6) 88 b a 11 Y Z g.1/\Oc (ER E6 2) 31 b a 13 au ar g.2.1/\Mc kwI2 kvI2 (λf:Int=>vi f) b a 12 ac g.2.2.2/\bQ (gJ p0 p1 aH) e g=some ce) ⟨_,_,⟨aM,((([(0,0)]:List (Int×Int)):(List<|Int×Int)),([]:VV),(0:Int),e3),c0,dc,c3,c2,R,Jo3,Fct,dX,Fct,el⟩,(KM R)⟩ ?_) ?_) (λew h=>Jx R<|Jf3 R<|Ju<|Jw<|Jb2 (l:=[.tmp 6]) results14 (Jq2 R R) R<|Oh h<|⟨Q,R,Fct⟩)
 rintro e _ _ ⟨aN,g,Y,Z,au,ar,rfl,L,aB,dY,dZ,h⟩
 rcases e with _|e
 cases h
 refine Ob h λ_ h ba=>Jq<|Jl3 2 R<|Js3 R U92 R R<|Jb 1 R ?_
 refine Bk h (λex h=>Jy R<|Jc1<|Jt<|Jt ?_) (λex h=>Jx R<|Js<|Jp<|Jq<|Jv<|Jq<|Xn aN [0,11] [2,5,8,11,17,20,23,26,12,32,27,35] λ_ y=>Jn 2 R<|Ob h λe1 b5 h=>Jd3 R aB.rdc b5 U92 Z88<|Jf R (eN U88 Z2 R R R R)<|Jn 2 R<|Ob h λe2 b6 h=>Jd3 R aB.rdc b6 U92 Z88<|Jf R (eN U88 Z2 R R R R) ?_)
 cases h
 exact have h:=ba;Jb1 (Oh h<|Jw1 _ ⟨aN,(g.1,g.2.1,g.2.2.1,g.2.2.2),Y,Z,au,ar,R,Fct,aB,dY,dZ,R⟩<|KM R)
 have bW:=aB.stp y
 obtain⟨_,eo,eg⟩:=(bW.rdc).gSt b5
 obtain⟨_,_,rfl,rfl,rfl⟩:=eo
 refine Jg R (Jd2 I2 R R<|hvC (λa bb=>eg a bb 0 _ R) R)<|Jn 1 R ?_
 obtain⟨_,ep,eh⟩:=(bW.rdc).gSt b6
 obtain⟨_,_,rfl,rfl,rfl⟩:=ep
 refine Jg R (Jd2 I2 R R<|hvC (λa bb=>eh a bb 1 _ R) R)<|Jn 1 R<|Jt1<|Jd<|Jj3<|Jc4 aN E6 14 R Y31 bG R λc9 c1 co aO E di=>Tv<|Jb 1 R<|Jq<|Jj3<|Je3 R U34 R Z32 (have bH:=bV.stp (T12 H ah ai I K s t u v L y E);Jc3 R I32 (bH.ld 1 R R) (Jn 1 R<|Ob h λcr b7 h=>Jd3 R bY b7 U32 Z31 ?_))
 obtain⟨_,_,a4,ec⟩:=(bY.stp (T14 bz aT H ah ai I K s t u v L y E)).gSl b7
 refine Jc3 R I31 ec<|Js3 R U31 R R<|Jb 1 R<|Ob h λcf ei d0=>Jt3 [3,4,7,10,11,12] (λc d a=>∃(b:Col) (k:(List<|Int×Int)×VI×(List ((Int×Int)×Int))) (ap:Option Addr) (aw:Nat) (aj:Option Addr) (ak:Nat),d=(9,.slice ap k.1.length aw)::(15,.slice aj k.2.1.length ak)::c/\Stp [11,12,14,15,17] aO co b a/\Oc (EX E6 E6) 88 b a 11 ap aw k.1/\Oc E6 2 b a 14 aj ak k.2.1/\Mc kwI2 kvI2 (λf:Int=>vi f) b a 12 ac k.2.2/\cf=EW k) (Jv<|Ju3 [3,4,7,10,11,12,13,14,71,72] (λe c d a=>∃(b:Col) (x:Int) (j:(List<|Int×Int)×VI×(List ((Int×Int)×Int))) (T:Option Addr) (V:Nat) (am:Option Addr) (aq:Nat),d=(9,.slice T j.1.length V)::(15,.slice am j.2.1.length aq)::(73,vi x)::c/\Stp [11,12,14,15,17] aO co b a/\Oc (EX E6 E6) 88 b a 11 T V j.1/\Oc E6 2 b a 14 am aq j.2.1/\Mc kwI2 kvI2 (λf:Int=>vi f) b a 12 ac j.2.2/\0<=x/\ES ((cr.length:Int)-x)=e/\cntM (gK p0 p1 aH e1 e2 cr) e x j=some cf) ⟨_,_,⟨aO,0,(g.1,([]:VI),g.2.2.2),Y,Z,c9,c1,R,Jo3,Fct,di,Fct,(by decide),(by simp),ei⟩,(KM R)⟩ ?_) ?_
 rintro e _ eT ⟨P,x,j,T,V,am,aq,rfl,F,dk,dl,bK,d7,bZ,h⟩
 rcases e with _|e
 exact Jf3 R<|Jq<|Jx2 R (dcf bZ)<|Jc1<|Jt<|Jt<|Jb1<|Oh h<|Jw1 _ ⟨P,(j.1,j.2.1,j.2.2),T,V,am,aq,R,Fct,dk,dl,bK,R⟩<|KM R
 refine Ob h λfs h d9=>have aD:=dct bZ;Jf3 R (Jq<|Jw2 R aD<|Js<|Jp<|Jq<|Jv<|Jl3 1 R<|Ob h λp b8 h=>Jd3 R a4 b8 U31 Z2<|Jc3 R I2 ((a4.stp F).gInt b8)<|Jb 2 R<|Jq<|Ob h λ_ b9 h=>Ob h λ_ cb h=>Ob h λ_ ca h=>Ob h λq aF h=>Jt3 [3,4,7,9,10,11,12,13,14,15,71,72,73] (λc d a=>∃b B,d=(18,.pointer (some ⟨B,0,none⟩))::c/\Stp [15,17] P eT b a/\Bc b a 15 B 88 [vi ((p,q).1),vi ((p,q).2)]) (WC.rxt (J:=P) [0,2,3,8,10] none (by kernel_rfl) λ_ G=>Jq1 (fuel:=8) [(0,2),(1,2),(3,2),(6,2),(10,2),(12,2),(2,0),(4,2),(5,0),(7,0),(11,0),(13,2),(14,0)] (by kernel_rfl) (by kernel_rfl) R<|Jn 1 R<|Je3 R U58 R Z32<|Jn 2 R<|Je3 R U34 R Z31<|Jn 1 R<|Jg R (Jd2 I32 R R<|hvC ((bU.stp<|T9 s t u v L y E F G).ld 0 R R) R)<|Jd3 R bS.rdc b9 U32 Z31 ?_) ?_)
 obtain⟨_,_,aA,ed⟩:=(bS.stp (T11 I K s t u v L y E F G)).rdc.gSl b9
 exact Jg R (Jd2 I31 R R<|hvC ed R)<|Jg R (Jh4 (haC (bR.stp<|T12 ai I K s t u v L y E F G).cells R) I28 Z28 R)<|Jg R (Jd2 I31 R R<|hvC ((bH.stp<|F.tr G).ld 0 R R) R)<|Jd3 R bX cb U31 Z2<|Jg R (Jd2 I2 R R<|hvC ((bX.stp<|T16 bz aT H ah ai I K s t u v L y E F G).gInt cb) R)<|Jp1<|WA.fork2 (fuel:=7) 8 19 (by kernel_rfl) R (Jw3 R C25 (cF (J:=Mk P) (p0:=p0) ca)<|Ki λ_ cs ag=>⟨(ag.cl R),Xs 0 [29,47,50,51,56,58,61]<|Jn 2 R<|Jd3 R aA aF U31 Z2<|Jg R (Jd2 I2 R R<|hvC (aA.gInt aF) R)<|Jf R (Jn4 [vi p,vi q] R)<|Jy3 cs 17 R X88 R λB _ bf aP dm=>⟨((ag.tr aP).cl R),Jm4 bf 17 R Z88 R dm R λ_ bp _=>⟨((T3 ag aP bp).cl R),Xe<|Jo<|Jw1 _ ⟨(λc6=>ren [(17,15)]<|bf c6),B,R,(Jz2 ((T4 G ag aP bp).wk R) [(17,15)] R),Fct⟩<|KM R⟩⟩⟩)<|Jy3 P 15 R X88 R λB _ ct aQ _=>⟨(aQ.cl R),Xs 0 [25,29,47,50,51,56,61]<|Jw3 R C25 (cF (J:=Mk ct) (p0:=p0) ca)<|Ki λ_ bg bq=>⟨((aQ.tr bq).cl R),Jn 2 R<|Jd3 R aA aF U31 Z2<|Jg R (Jd2 I2 R R<|hvC (aA.gInt aF) R)<|Jf R (Jn4 [vi p,vi q] R)<|Jm4 bg 15 R Z88 R Fct R λ_ cT dn=>⟨((T3 aQ bq cT).cl R),Xe<|Jo<|Jw1 _ ⟨bg,B,R,Fct,dn⟩<|KM R⟩⟩⟩
 rintro _ eU ⟨D,B,rfl,cS,a5⟩
 refine Jp<|Jl3 1 R<|Jg4 tv R (Jh4 (haE a5.cells) I88 Z88 R) (have a6:=bK.stp cS;Ob h λfx eA h=>Jg4 tv R (vm (kf:=kvI2) (vf:=(λf:Int=>vi f)) tK U93 X2 R R R (mvE a6) eA)<|Jb 5 R<|Jq<|Jf3 R<|Ob h λC h d2=>Jt3 [3,4,7,10,11,12,13,14,15,71,72,73] (λc d a=>∃b ao an,d=(9,.slice ao C.1.length an)::(19,vi C.2.1)::c/\Stp [11,12] D eU b a/\Oc (EX E6 E6) 88 b a 11 ao an C.1/\Mc kwI2 kvI2 (λf:Int=>vi f) b a 12 ac C.2.2) ?_ ?_)
 exact Bk h (λeq h=>Jy R<|Js<|Oh h<|Jw1 _ ⟨D,T,V,R,Jo3,Fct,a6⟩<|KM R) (λeq h=>Jx R<|Jl3 1 R<|Js3 R U92 R R<|Jb 1 R<|Jl3 1 R<|Jg4 tv R (Jh4 (haE a5.cells) I88 Z88 R)<|Jn 1 R<|Ob h λ_ eQ h=>WO.mapup (J:=D) (kf:=kvI2) (vf:=(λf:Int=>vi f)) (v:=(j.1.length:Int)) 12 R R R R R R R tK U93 a6 eQ λci cU _=>Tv<|Jd<|Jm3 1 R<|Jg4 tv R (Jh4 (haE (a5.stp cU).cells) I88 Z88 R)<|Jb4 D (EX E6 E6) 16 [] (parts:=[(0,.tmp 111)]) (cells:=[vi ((p,q).1),vi ((p,q).2)]) (xs:=([(p,q)]:List (Int×Int))) R Y92 jf R (Jj4 ⟨[vi ((p,q).1)],[vi ((p,q).2)],Zl D ci [],Zl D ci [],R,Zl.sp (l1:=[]) (l2:=[]) R,Zl.sr (l1:=[]) (l2:=[]),R,R⟩) λe7 fg _ cv _ dp=>Tv<|Ob h λ_ eB h=>Jd4 cv (EX E6 E6) 11 [] R Y92 jf R Fct (EV (zE (bO _)<|bO _) dp.rdc) bJ eB R λda cZ _ cw _ dq=>Tv<|Jc 1 R<|Oh h<|Jw1 _ ⟨cw,da,cZ,R,Fct,dq,Fct⟩<|KM R)
 rintro _ _ ⟨cu,ao,an,rfl,_,_,_⟩
 refine have h:=d2;Jp (Jm3 2 R<|Ji4 cu 16 [C.2.1] R Y31 bG R λfh fb _ cx _ dr=>Tv<|Ob h λeX eC h=>Jd4 cx E6 14 [] R Y31 bG R Fct (EV (bO _) dr.rdc) bJ eC R λdf db _ cz _ ds=>Tv<|Jc 1 R<|Jz<|Jp<|Jg3 R ?_)
 have ey:ET .i64 (x+1)=x+1:=wr1 d7 (Jn2 aD) a4.len_le
 rw[ey]
 have aD:=Jn2 aD
 cases h
 exact Ja2 ⟨cz,x+1,(C.1,eX,C.2.2),ao,an,df,db,R,Fct,Fct,ds,Fct,by omega,by omega,d9⟩ R
 rintro _ _ ⟨bd,k,ap,aw,aj,ak,rfl,_,_,dj,_,rfl⟩
 refine have h:=yI d0;Jp (Jq<|Jl3 1 R<|Js3 R U92 R R<|Jb 1 R ?_)
 refine Bk h (λes h=>Jy R<|Js<|Jp<|Jm3 2 R<|Jb4 bd (ER E6 2) 15 [14] (parts:=[(0,.tmp 123)]) (cells:=[.slice aj k.2.1.length ak]) (xs:=([k.2.1]:VV)) R Y32 bL R (Jj4 ⟨_,_,R,dj⟩) λfl fj _ cA _ dt=>Tv<|Ob h λeY eD h=>Jd4 cA (ER E6 2) 13 [15] R Y32 bL R Fct dt.src (c7 R) eD R λc4 de _ cB _ du=>Tv<|Jc 1 R<|Jz<|Jp<|Jg3 R ?_) (λes h=>Jx R<|Jf3 R<|Ju<|Jw<|Ja1<|Jw<|Jw ?_)
 cases h
 exact Ja2 ⟨cB,(k.1,eY,((ET .i64<|g.2.2.1+1):Int),k.2.2),ap,aw,c4,de,R,Fct,Fct,du,Fct,ba⟩ R
 cases h
 obtain rfl:=EU ba
 exact have h:=yL b1;Ja1 (Jr2<|Jw<|Jb2 (l:=[.tmp 6]) results14 (Jq2 R R) R<|Oh h<|⟨bd,R,Fct⟩)
 rintro _ _ ⟨cR,n,a1,aX,aU,a2,rfl,bA,a8,_,_,rfl⟩
 refine have h:=yI b1;Jp (Jj3<|Jc4 cR Pair.ep96 14 R Y56 cN R λc5 dd cj aI aR dv=>Tv<|Jb 1 R<|Jq<|Jj3<|Je3 R U58 R Z56<|Jc3 R I56 ((bU.stp<|T6 s t u v bA aR).ld 1 R R)<|Js3 R U56 R R<|Jb 1 R<|Ob h λcg ej d3=>Jt3 [11] (λc d a=>∃b,∃aG:VP,∃aY a3,d=(21,.slice aY aG.length a3)::c/\Stp [14,15,16,17,18,19] aI cj b a/\Oc Pair.ep96 96 b a 14 aY a3 aG/\cg=EW aG) (Jv<|Ju3 [9,11,128,129] (λe c d a=>∃b O,∃ae:VP,∃al ay,d=(21,.slice al ae.length ay)::(130,vi O)::c/\Stp [14,15,16,17,18,19] aI cj b a/\Oc Pair.ep96 96 b a 14 al ay ae/\0<=O/\ES ((aH.1.Pairs.length:Int)-O)=e/\cntM (gL aH n) e O ae=some cg) ⟨_,_,⟨aI,0,([]:VP),c5,dd,R,Jo3,dv,(by decide),(by simp),ej⟩,(KM R)⟩ ?_) ?_)
 rintro e _ _ ⟨bh,O,ae,al,ay,rfl,br,dx,b2,aC,h⟩
 rcases e with _|e
 exact Jf3 R<|Jq<|Jx2 R (dcf aC)<|Jc1<|Jt<|Jt<|Jb1<|Oh h<|Jw1 _ ⟨bh,ae,al,ay,R,Fct,dx,R⟩<|KM R
 refine Ob h λft h ea=>Jf3 R<|Jq<|Jw2 R (dct aC)<|Js<|Jp<|Jq<|Jv<|Jj3<|Ob h λeZ b3 h=>Jd3 R a7.rdc b3 U56 Z96 ?_
 obtain⟨_,em,ee⟩:=((a7.stp (T9 I K s t u v bA aR br)).rdc).gSt b3
 obtain⟨e4,fv,e5,fw,rfl,fo,fp⟩:=Pair.un em
 refine Jg4 tv R (Jh4 (haE ee) I96 Z96 R)<|Jy3 bh 15 R X96 R λ_ _ bi cV dy=>Tv<|Jm4 bi 15 R Z96 R dy R λ_ cW dz=>Tv<|Jd<|Jj3<|Jf R (Jn4 [.slice none 0 0,.slice none 0 0] R)<|Jy3 bi 16 R X96 R λaz _ af bs dA=>Tv<|Jm4 af 16 R Z96 R dA R λck bt dB=>Tv<|Jd<|Jq<|Jl3 1 R<|Js3 R U92 R R<|Jb 1 R<|Ob h λcd ek d4=>Jt3 [9,11,21,24,128,129,130] (λc d a=>∃b,∃i:VI×VI,∃ab aa S X,d=c/\Stp [16,17,18,19] af ck b a/\Oc E6 2 b a 17 ab aa i.1/\Oc E6 2 b a 18 S X i.2/\Bc b a 16 az 96 [.slice ab i.1.length aa,.slice S i.2.length X]/\cd=EW i) (Jv<|Ju3 [9,11,21,23,24,128,129,130,135,136] (λe c d a=>∃b o,∃m:VI×VI,∃W U A z,d=(137,vi o)::c/\Stp [16,17,18,19] af ck b a/\Oc E6 2 b a 17 W U m.1/\Oc E6 2 b a 18 A z m.2/\Bc b a 16 az 96 [.slice W m.1.length U,.slice A m.2.length z]/\0<=o/\ES ((n.1.length:Int)-o)=e/\cntM (jy n eZ) e o m=some cd) ⟨_,_,⟨af,0,(([]:VI),([]:VI)),none,0,none,0,R,Jo3,EY,EY,dB,(by decide),(by simp),ek⟩,(KM R)⟩ ?_) ?_
 rintro e _ _ ⟨bj,o,m,W,U,A,z,rfl,bu,dF,dG,bM,d8,b0,h⟩
 rcases e with _|e
 exact Jf3 R<|Jq<|Jx2 R (dcf b0)<|Jc1<|Jt<|Jt<|Jb1<|Oh h<|Jw1 _ ⟨bj,(m.1,m.2),W,U,A,z,R,Fct,dF,dG,bM,R⟩<|KM R
 refine Ob h λfu h eb=>have aE:=dct b0;Jf3 R (Jq<|Jw2 R aE<|Js<|Jp<|Jq<|Jv<|Jl3 1 R<|Ob h λ_ b4 h=>Jd3 R a8.rdc b4 U92 Z88 ?_)
 obtain⟨_,en,ef⟩:=((a8.stp (T7 aR br cV cW bs bt bu)).rdc).gSt b4
 obtain⟨_,_,rfl,rfl,rfl⟩:=en
 refine Jg4 tv R (Jh4 (haE ef) I88 Z88 R)<|Jy3 bj 19 R X88 R λ_ _ bk bv dH=>Tv<|Jn 1 R<|Jm4 bk 19 R Z88 R dH R λ_ bw bN=>Tv<|Jd<|Jq<|Jj3<|Je3 R U96 R Z31 (have bP:=dz.stp (T5 bs bt bu bv bw);Jc3 R I31 (bP.ld 0 R R) (Jf R (eN U88 Z2 R R R R)<|Jc3 R I2 (bN.ld 1 R R)<|Ob h λfy eE h=>Jw3 R C38 (bT (J:=Mk bk) Gct eE)<|Kb λeV aK aS=>Tv<|Jd<|Ob h λad h d5=>Jt3 [9,11,21,23,24,25,26,128,129,130,135,136,137] (λc d a=>∃b N M,d=c/\Stp [16,17] aK eV b a/\Oc E6 2 b a 17 N M ad/\Bc b a 16 az 96 [.slice N ad.length M,.slice A m.2.length z]) ?_ ?_))
 exact Bk h (λet h=>Jy R<|Js<|Oh h<|Jw1 _ ⟨aK,W,U,R,Jo3,Fct,Fct⟩<|KM R) (λet h=>Jx R<|Jk3<|Je3 R U96 R Z31<|Jc3 R I31 ((bM.stp<|T3 bv bw aS).ld 0 R R)<|Jn 1 R<|Ji4 aK 22 [o] R Y31 bG R λe6 fa _ cE _ dJ=>Tv<|Ob h λcp eF h=>Jd4 cE E6 17 [] R Y31 bG R Fct (EV (bO _) dJ.rdc) bJ eF R λaZ aW _ bl _ _=>Tv<|Je3 R U96 R Z31<|Jz3 bl 16 (off:=0) (vc:=[.slice aZ cp.length aW]) (cs':=[.slice aZ cp.length aW,.slice A m.2.length z]) R Z31 R Fct R λ_ _ dK=>Tv<|Jo<|Oh h<|Jw1 _ ⟨bl,aZ,aW,R,Fct,Fct,dK⟩<|KM R)
 rintro _ _ ⟨cD,N,M,rfl,bx,_,dI⟩
 refine Jp<|Jj3<|Je3 R U96 R Z31<|Jc3 R I31 ((bP.stp<|aS.tr bx).ld 1 R R)<|Jf R (eN U88 Z2 R R R R)<|Jc3 R I2 ((bN.stp<|aS.tr bx).ld 1 R R)<|Ob d5 λfz eG h=>Jw3 R C38 (bT (J:=Mk cD) Gct eG)<|Kb λeW aL cX=>Tv<|Jd<|Ob h λbc h d6=>Jt3 [9,11,21,23,24,128,129,130,135,136,137] (λc d a=>∃b ax av,d=c/\Stp [16,18] aL eW b a/\Oc E6 2 b a 18 ax av bc/\Bc b a 16 az 96 [.slice N ad.length M,.slice ax bc.length av]) ?_ ?_
 exact Bk h (λeu h=>Jy R<|Js<|Oh h<|Jw1 _ ⟨aL,A,z,R,Jo3,Fct,Fct⟩<|KM R) (λeu h=>Jx R<|Jk3<|Je3 R U96 R Z31<|Jc3 R I31 ((dI.stp cX).ld 1 R R)<|Jn 1 R<|Ji4 aL 24 [o] R Y31 bG R λfn fm _ cH _ dN=>Tv<|Ob h λcq eH h=>Jd4 cH E6 18 [] R Y31 bG R Fct (EV (bO _) dN.rdc) bJ eH R λaV a0 _ bn _ _=>Tv<|Je3 R U96 R Z31<|Jz3 bn 16 (off:=1) (vc:=[.slice aV cq.length a0]) (cs':=[.slice N ad.length M,.slice aV cq.length a0]) R Z31 R Fct R λ_ _ dO=>Tv<|Jo<|Oh h<|Jw1 _ ⟨bn,aV,a0,R,Fct,Fct,dO⟩<|KM R)
 rintro _ _ ⟨cG,ax,av,rfl,_,dL,dM⟩
 refine have h:=d6;Jz (Jp<|Jg3 R ?_)
 have ez:ET .i64 (o+1)=o+1:=wr1 d8 (Jn2 aE) a8.len_le
 rw[ez]
 have aE:=Jn2 aE
 cases h
 exact Ja2 ⟨cG,o+1,(ad,bc),N,M,ax,av,R,Fct,Fct,dL,dM,by omega,by omega,eb⟩ R
 rintro _ cl ⟨aJ,i,ab,aa,S,X,rfl,_,dC,dD,dE,rfl⟩
 refine have h:=yI d4;Jp (Jm3 1 R<|Jg4 tv R (Jh4 (haE dE.cells) I96 Z96 R)<|Jb4 aJ Pair.ep96 19 [17,18] (parts:=[(0,.tmp 166)]) (cells:=[.slice ab i.1.length aa,.slice S i.2.length X]) (xs:=([(⟨i.1,i.2⟩:Pair)]:VP)) R Y56 cN R (Jj4 ⟨[.slice ab i.1.length aa],[.slice S i.2.length X],Zl aJ cl [17],Zl aJ cl [18],R,Zl.sp (l1:=[17]) (l2:=[18]) R,Zl.sr (l1:=[17]) (l2:=[18]),⟨_,_,R,dC⟩,⟨_,_,R,dD⟩⟩) λe8 e9 _ cI _ dP=>Tv<|Ob h λe0 eI h=>Jd4 cI Pair.ep96 14 [19] R Y56 cN R Fct dP.src (c7 R) eI R λc8 dg _ cJ _ dQ=>Tv<|Jc 1 R<|Jz<|Jp<|Jg3 R<|wr2 b2 aC a7.len_le ▸ ?_)
 cases h
 exact Ja2 ⟨cJ,O+1,e0,c8,dg,R,Fct,dQ,nxz b2,nxm aC,ea⟩ R
 rintro _ _ ⟨cC,aG,aY,a3,rfl,_,dw,rfl⟩
 exact have h:=yI d3;Jp (Jl3 3 R<|Js3 R U32 R R<|Ob h λ_ eJ h=>Jw3 R call40 (tk (J:=Mk cC) eJ)<|Ks 17 (bI _) λfi fc _ cL cY dR=>Tv<|Ob h λ_ eK h=>Jw3 R call39 (xg _ (J:=Mk cL) Gct (Jn3 (dw.stp cY).rdc) (Jn3 dR.rdc) eK)<|Kb λ_ cM _=>Tv<|Jb 2 R<|Ju<|Jb2 (l:=[.tmp 6]) results14 (Jq2 R R) R<|Oh h<|⟨cM,R,Fct⟩)
theorem wD (n:Nat):∀{w:World}{J:Col}{d i}{p0:VV}{e j}{p1:VP}{f k}{p2:VI}(t:Rd Rs J w 0 d i p0) (u:Rd Pair.rp J w 0 e j p1) (v:Rd Ri J w 0 f k p2){r:Bool}(h:dC n p0 p1 p2=some r),Ret prog 47 [.slice d p0.length i,.slice e p1.length j,.slice f p2.length k] w (Pvb J w r):=by
 induction n with
 |zero=>
  intro w J d i p0 e j p1 f k p2 t u v r h
  cases h
 |succ n ak=>
  intro w J d i p0 e j p1 f k p2 t u v r h
  have h:j7 (dC n) p0 p1 p2=some r:=h
  unfold j7 at h
  refine Jp3 J func47 R ntmps47 R λaA=>Jf3 R<|Jl3 2 R<|Ob h λM ag h=>Jw3 R call96 (wl (J:=λp=>mp [] 1 (J p)) (Jm2 t (mp [] 1) R R) (Jm2 v (mp [] 1) R R) ag) ?_
  rintro _ L ⟨_,av,au,rfl,U,aa⟩
  obtain⟨m,S,am,ar⟩:=Jj U 2 R
  refine Tv<|?_
  have s:=aa.mxz ar am R (R:2+2=4)
  refine Jb 1 R<|Jq<|Jf3 R<|Ob h λK af E=>?_
  clear h
  refine Jx1 (λo y=>∃z,o=[]/\Stp [] m L z y/\K=EW ()) ?_ ?_
  refine Jv<|Ju3 [0,1,7] (λc N o y=>∃z a,o=(8,vi a)::N/\Stp [] m L z y/\0<=a/\ES ((M.length:Int)-a)=c/\cntM (dF (dC n) p0 p1 M) c a ()=some K) ⟨_,_,⟨m,0,R,Jo3,(by decide),(by simp),af⟩,(KM R)⟩ ?_
  rintro c _ _ ⟨A,a,rfl,D,F,g,h⟩
  rcases c with _|c
  have b:=h;obtain⟨an,h⟩:=exq b
  have x:=dcf g
  refine Jq<|Jl3 2 R<|Js3 R U32 R R<|Jb 1 R<|Jx2 R x<|Jc1<|Jt<|Jt ?_
  cases h
  have h:=b
  refine Jb1 ?_
  cases h
  exact Jw1 _ ⟨A,R,Fct,R⟩ KN
  obtain⟨an,h,b⟩:=BI h;unfold dF at h
  have x:=dct g
  refine Jq<|Jl3 2 R<|Js3 R U32 R R<|Jb 1 R<|Jw2 R x<|Js<|Jp<|Jq<|Jv<|Jl3 3 R<|Ob h λ_ G h=>Jd3 R s.rdc G U32 Z31 ?_
  have q:=s.stp D
  obtain⟨_,_,X,ad⟩:=q.gZ G
  refine Jc3 R I31 ad<|Ob h λap ah h=>?_
  have Y:=u.stp (S.tr D)
  refine Jw3 R call97 (wE (J:=λp=>mp [] 1<|A p) (Jm2 Y (mp [] 1) R R) (Jm2 X (mp [] 1) R R) ah) ?_
  rintro _ ao ⟨_,aw,ax,rfl,T,Z⟩
  obtain⟨B,Q,_,aq⟩:=Jj T 5 R
  refine Tv<|Jb 1 R<|Jl3 1 R<|Js3 R U31 R R<|Jn 2 R<|Ob h λI h ac=>Jk4 [0,1,7,8] 38 I B ao 10 tv ?_ ?_
  revert h
  cases aB:((ap.length:Int)==0)
  refine JF λh=>Jn 4 R<|Ob h λ_ H h=>Jd3 R q.rdc H U32 Z31 ?_
  obtain⟨_,_,_,ae⟩:=(q.stp Q).gZ H
  refine Jc3 R I31 ae<|Jn 1 R<|Ob h λ_ ai h=>Jw3 R call98 (xQ (J:=Mk B) Gct (Jn3<|Z.mx aq) ai) ?_
  rintro _ _ ⟨_,az,ay,rfl,V,ab⟩
  obtain⟨P,_,al⟩:=Ji V 8 R
  refine Tv<|Ob h λ_ aj h=>Jw3 R call47 (ak (J:=Mk P) Gct Gct (Jn3 (ab.mx (bI _) al R (R:8+2=10)).rdc) aj) ?_
  rintro _ _ ⟨_,rfl,W⟩
  obtain⟨_,_,_⟩:=Ji W 11 R
  refine Tv<|Jn 1 R ?_
  cases h
  exact Jv1 _ tv ⟨R,_,Fct⟩<|KM R
  refine JT λh=>Jn 5 R<|Je4 R<|Jn 1 R<|Je4 R<|Je4 R<|Jn 1 R ?_
  cases h
  exact Jl4 tv R
  rintro _ _ _ ⟨rfl,C,_⟩
  have h:=ac
  refine Jd ?_
  revert h
  cases aC:I
  refine JF λh=>Jy R<|Js<|Jz<|Jp<|Jg3 R<|wr2 F g s.len_le ▸ ?_
  cases h
  exact Ja2 ⟨C,a+1,R,Fct,nxz F,nxm g,b⟩ R
  refine JT λh=>Jx R<|Jf3 R<|Ju<|Ja1<|Jw<|Jw ?_
  cases h
  obtain rfl:=EU b
  have h:=yL E
  refine Ja1<|Jr2<|Jw<|Jb2 (l:=[.tmp 6]) results47 (Jq2 R R) R ?_
  cases h
  exact⟨C,R,Fct⟩
  rintro _ _ ⟨O,rfl,_,rfl⟩
  have h:=yI E
  refine Jp<|Jf3 R<|Ju<|Jb2 (l:=[.tmp 6]) results47 (Jq2 R R) R ?_
  cases h
  exact⟨O,R,Fct⟩
theorem uH {p0:Sig}{aw au ay av}{p1:Rival}{ar a0}{p2:VC}(aI:Rd Ri J w 0 aw au p1.In) (aJ:Rd Rs J w 0 ay av p1.Next) (cO:Rd Clause.rp J w 0 ar a0 p2){r:Bool}(h:nM p0 p1 p2=some r):Ret prog 15 [.agg #[vi p0.In,vi p0.Out],.agg #[.slice aw p1.In.length au,.slice ay p1.Next.length av],.slice ar p2.length a0] w (Pvb J w r):=by
 refine Jp3 J func15 R ntmps15 R λcP=>Jj3<|Jx3 J 2 R λ_ _ bc ap bV=>Tv<|Jx3 bc 3 R λ_ _ bh Z aG=>Tv<|Jb 1 R<|Jj3 (have ae:=bV.stp Z;Jg4 tv R (Jh4 (haE ae.cells) I28 Z28 R) (Jn 1 R<|Ob h λa2 co h=>Jw3 R call41 (ll (J:=Mk bh) (p0:=p0) Gct co) ?_))
 rintro _ _ ⟨_,cB,cI,cL,cG,rfl,bE,bH,bJ⟩
 refine Im bE 4 R (λa6 t aX=>Tv<|have aE:=bH.mx (cK (bI _) _) aX R (R:4+2=6);Jn 3 R (Jy3 a6 8 R X58 R λ_ _ V j bU=>Tv<|Jm4 V 8 R Z58 R bU R λcw k aF=>Tv<|Jb 1 R<|Jq<|Jl3 3 R<|Ob h λcu h b4=>Jk4 [3,4,7] 30 cu V cw 5 tv ?_ ?_))
 exact Bk h (λcg h=>Jg4 tv R (Jh4 (haE (ae.stp<|T3 t j k).cells) I28 Z28 R)<|Jg4 tv R (Jh4 (haE (aG.stp<|T3 t j k).cells) I34 Z34 R)<|Ob h λ_ cp h=>Jw3 R call42 (wd (J:=Mk V) (p0:=p0) (p1:=p1) Gct Gct cp)<|Kb λ_ _ _=>Tv<|Jn 2 R<|Oh h<|Jv1 _ tv ⟨R,_,Fct⟩<|KM R) (λcg h=>Je4 R<|Je4 R<|Je4 R<|Jn 2 R<|Oh h<|Jl4 tv R)
 rintro _ _ _ ⟨rfl,al,m⟩
 refine have h:=b4;Jd ?_
 refine Bk h (λch h=>Jy R<|Js<|Jp<|Jj3<|Ji4 al 9 [0,0] R Y31 bG R λbA bB _ bf n bW=>Tv<|Jb4 bf (ER E6 2) 10 [9] (parts:=[(0,.tmp 31)]) (cells:=[.slice bA ([0,0]:VI).length bB]) (xs:=([([0,0]:VI)]:VV)) R Y32 bL R (Jj4 ⟨_,_,R,bW⟩) λbo bm _ bg o _=>Tv<|Jb 1 R<|Jj3<|Jc4 bg (Ep.fz<|Rs) 11 R Y32 bL R λbn br a1 W p bX=>Tv<|Jb 1 R<|Jq<|Jf3 R<|Ob h λaY cb aK=>Jt3 [7] (λe f a=>∃b,∃z:VV×VV×Int,∃ad ac ab aa,f=(9,.slice ad z.1.length ac)::(10,.slice ab z.2.1.length aa)::e/\Stp [10,11,12,13,19,20] W a1 b a/\Oc (ER E6 2) 31 b a 10 ad ac z.1/\Oc (Ep.fz<|Rs) 31 b a 11 ab aa z.2.1/\aY=EW z) (Jv<|Ju3 [3,4,7] (λg e f a=>∃b,∃c:VV×VV×Int,∃B A H G,f=(9,.slice B c.1.length A)::(10,.slice H c.2.1.length G)::(11,vi c.2.2)::e/\Stp [10,11,12,13,19,20] W a1 b a/\Oc (ER E6 2) 31 b a 10 B A c.1/\Oc (Ep.fz<|Rs) 31 b a 11 H G c.2.1/\bQ (gQ p0 p1 a2) g c=some aY) ⟨_,_,⟨W,((([([0,0]:VI)]:VV):VV),([]:VV),(0:Int)),bo,bm,bn,br,R,Jo3,Fct,bX,cb⟩,(KM R)⟩ ?_) ?_) (λch h=>Jx R<|Jf3 R<|Ju<|Jw<|Jb2 (l:=[.tmp 6]) results15 (Jq2 R R) R<|Oh h<|⟨al,R,Fct⟩)
 rintro g _ _ ⟨am,c,B,A,H,G,rfl,u,bZ,b0,h⟩
 rcases g with _|g
 cases h
 refine Ob h λ_ h ag=>Jq<|Jl3 2 R<|Js3 R U32 R R<|Jb 1 R ?_
 refine Bk h (λci h=>Jy R<|Jc1<|Jt<|Jt ?_) (λci h=>Jx R<|Js<|Jp<|Jq<|Jv<|Jj3<|Jc4 am E6 12 R Y31 bG R λbp bw ah bj v b1=>Tv<|Jb 1 R<|Jq<|Jf3 R<|Ob h λaZ cc b5=>?_)
 cases h
 exact have h:=ag;Jb1 (Oh h<|Jw1 _ ⟨am,(c.1,c.2.1,c.2.2),B,A,H,G,R,Fct,bZ,b0,R⟩<|KM R)
 obtain⟨X,x,cA⟩:=dg bj ah 12
 refine Jt3 [3,4,7,10,11] (λe f a=>∃b,∃i:VV×VI×Int,∃O M K L,f=(9,.slice O i.1.length M)::(12,.slice K i.2.1.length L)::e/\Stp [10,19,20] X ah b a/\Oc (ER E6 2) 31 b a 10 O M i.1/\Rd Ri b a 0 K L i.2.1/\aZ=EW i) (Jv<|Ju3 [3,4,7,10,11] (λg e f a=>∃b,∃d:VV×VI×Int,∃D C F P,f=(9,.slice D d.1.length C)::(12,.slice F d.2.1.length P)::(13,vi d.2.2)::e/\Stp [10,19,20] X ah b a/\Oc (ER E6 2) 31 b a 10 D C d.1/\Rd Ri b a 0 F P d.2.1/\bQ (gR p0 p1 a2 c) g d=some aZ) ⟨_,_,⟨X,(c.1,([]:VI),(0:Int)),B,A,bp,bw,R,Jo3,Fct,(Sl.st cA b1.rdc),cc⟩,(KM R)⟩ ?_) ?_
 rintro g _ _ ⟨bk,d,D,C,F,P,rfl,y,af,_,h⟩
 rcases g with _|g
 cases h
 refine Ob h λ_ h aL=>Jq<|Jl3 1 R (have aH:=ae.stp (T11 t j k m n o p u v x y);Jg4 tv R (Jh4 (haE aH.cells) I28 Z28 R) (Ob h λcQ cq h=>Jw3 R call43 (ka (J:=Mk bk) (p0:=p0) cq)<|Ki λ_ T q=>Tv<|Jb 1 R ?_))
 refine Bk h (λcd h=>Jy R<|Jc1<|Jt<|Jt ?_) (λcd h=>Jx R<|Js<|Jp<|Jq<|Jv<|Jq<|Xn T [0,2,3,6,8,10] [2,8,11,14,35,41,44,47,65,3,15,20,21,26,27,30,36,48,53,54,59,60,67,71,72,77] λ_ s=>Je3 R U58 R Z32<|Jn 2 R<|Ob h λ_ aM h=>Jd3 R af.rdc aM U32 Z31<|Je3 R U34 R Z31<|Jn 2 R<|Ob h λ_ aP h=>Jd3 R af.rdc aP U32 Z31<|Jn 1 R<|Jg R (Jd2 I32 R R<|hvC ((aF.stp<|T10 m n o p u v x y q s).ld 0 R R) R) ?_)
 cases h
 exact have h:=aL;Jb1 (Oh h<|Jw1 _ ⟨T,(d.1,d.2.1,d.2.2),D,C,F,P,R,Fct,Fct,Fct,R⟩<|KM R)
 have Q:=af.stp (q.tr s)
 obtain⟨_,_,ax,b6⟩:=Q.rdc.gSl aM
 refine Jg R (Jd2 I31 R R<|hvC b6 R)<|Ob h λ_ aN h=>Jd3 R ax aN U31 Z2<|Jg R (Jd2 I2 R R<|hvC (ax.gInt aN) R)<|Ob h λ_ aO h=>Jd3 R aE.rdc aO U32 Z31 ?_
 obtain⟨_,_,az,b7⟩:=(aE.stp (T12 j k m n o p u v x y q s)).rdc.gSl aO
 refine Jg R (Jd2 I31 R R<|hvC b7 R)<|Jg R (Jh4 (haC (aH.stp<|q.tr s).cells R) I28 Z28 R) (have aA:=aG.stp (T13 t j k m n o p u v x y q s);Jg R (Jd2 I31 R R<|hvC (aA.ld 0 R R) R) ?_)
 obtain⟨_,_,aB,b8⟩:=Q.rdc.gSl aP
 refine Jg R (Jd2 I31 R R<|hvC b8 R)<|Ob h λ_ aQ h=>Jd3 R aB aQ U31 Z2<|Jg R (Jd2 I2 R R<|hvC (aB.gInt aQ) R)<|Ob h λ_ aR h=>Jd3 R aI aR U31 Z2<|Jg R (Jd2 I2 R R<|hvC ((aI.stp<|T15 ap Z t j k m n o p u v x y q s).gInt aR) R)<|Ob h λ_ cr h=>Jw3 R call44 (mH (J:=Mk T) (p0:=p0) cr)<|Ki λ_ ak E=>⟨(E.cl R),Ob h λai aS h=>Jd3 R az aS U31 Z2<|Jg R (Jd2 I2 R R<|hvC (az.gInt aS) R)<|Jn 1 R<|Jt1<|Jd<|Jq<|Xn ak [0,3,10] [2,8,11,14,32,3,15,20,21,26,27,35,36,41] λ_ Y=>Je3 R U34 R Z32<|Jn 2 R<|Ob h λ_ aT h=>Jd3 R Q.rdc aT U32 Z31<|Jn 1 R<|Jg R (Jd2 I32 R R<|hvC ((aA.stp<|E.tr Y).ld 1 R R) R) ?_⟩
 obtain⟨_,_,aC,b9⟩:=(Q.stp (E.tr Y)).rdc.gSl aT
 refine Jg R (Jd2 I31 R R<|hvC b9 R)<|Ob h λ_ aU h=>Jd3 R aC aU U31 Z2<|Jg R (Jd2 I2 R R<|hvC (aC.gInt aU) R)<|Ob h λ_ aV h=>Jd3 R aJ aV U32 Z31 ?_
 obtain⟨_,_,aD,ca⟩:=(aJ.stp (ap.tr (Z.tr (t.tr (j.tr (k.tr (m.tr (n.tr (o.tr (p.tr (u.tr (v.tr (x.tr (y.tr (q.tr (s.tr (E.tr Y))))))))))))))))).gSl aV
 refine Jg R (Jd2 I31 R R<|hvC ca R)<|Ob h λaj aW h=>Jd3 R aD aW U31 Z2<|Jg R (Jd2 I2 R R<|hvC (aD.gInt aW) R)<|Jn 1 R<|Jt1<|Jd<|Jl3 3 R<|Ob h λcR cs h=>Jw3 R call45 (p6 (J:=Mk ak) Gct cs)<|Ki λcv U _=>Tv<|Jb 1 R<|Jq<|Jf3 R<|Ob h λS h b3=>Jt3 [3,4,7,10,11,12,13] (λe f a=>∃b I N,f=(9,.slice I S.1.length N)::(16,vi S.2)::e/\Stp [10,19,20] U cv b a/\Oc (ER E6 2) 31 b a 10 I N S.1) ?_ ?_
 exact Bk h (λce h=>Jy R<|Js<|Oh h<|Jw1 _ ⟨U,D,C,R,Jo3,Fct⟩<|KM R) (λce h=>Jx R<|Jl3 1 R<|Js3 R U32 R R<|Jb 1 R<|Jm3 3 R<|Ji4 U 19 [ai,aj] R Y31 bG R λbt bv _ a4 _ bK=>Tv<|Jb4 a4 (ER E6 2) 20 [19] (parts:=[(0,.tmp 96)]) (cells:=[.slice bt ([ai,aj]:VI).length bv]) (xs:=([([ai,aj]:VI)]:VV)) R Y32 bL R (Jj4 ⟨_,_,R,bK⟩) λcE cD _ a5 _ bM=>Tv<|Ob h λ_ ct h=>Jd4 a5 (ER E6 2) 10 [20] R Y32 bL R Fct bM.src (c7 R) ct R λbq bx _ a7 _ bN=>Tv<|Jc 1 R<|Oh h<|Jw1 _ ⟨a7,bq,bx,R,Fct,bN⟩<|KM R)
 rintro _ _ ⟨a3,I,N,rfl,_,_⟩
 refine Jp<|Jm3 2 R<|Ob b3 λcx cj h=>Jw3 R call46 (oY (J:=λbD=>mp [] 1<|a3 bD) (Jm2 Fct (mp [] 1) R R) cj) ?_
 rintro _ _ ⟨_,bz,bu,rfl,bF,bO⟩
 refine Im0 bF 19 R (λa8 _ _ cz=>Tv<|Jc 1 R<|Jz<|Jp<|Jg3 R ?_)
 cases h
 exact Ja2 ⟨a8,(S.1,cx,((ET .i64<|d.2.2+1):Int)),I,N,bz,bu,R,Fct,Fct,(bO.mx cz),aL⟩ R
 rintro _ _ ⟨an,i,O,M,K,L,rfl,_,_,b2,rfl⟩
 refine have h:=yI b5;Jp (Jq<|Jl3 1 R<|Js3 R U32 R R<|Jb 1 R ?_)
 refine Bk h (λcf h=>Jy R<|Js<|Jp<|Jm3 2 R<|Jb4 an (Ep.fz<|Rs) 13 [] (parts:=[(0,.tmp 106)]) (cells:=[.slice K i.2.1.length L]) (xs:=([i.2.1]:VV)) R Y32 bL R (Jj4 ⟨_,_,R,(Sl.z1 b2)⟩) λcN cJ _ a9 _ bP=>Tv<|Ob h λcy ck h=>Jd4 a9 (Ep.fz<|Rs) 11 [13] R Y32 bL R Fct bP.src (c7 R) ck R λbC bs _ ba _ bR=>Tv<|Jc 1 R<|Jz<|Jp<|Jg3 R ?_) (λcf h=>Jx R<|Jf3 R<|Ju<|Jw<|Ja1<|Jw<|Jw ?_)
 cases h
 exact Ja2 ⟨ba,(i.1,cy,((ET .i64<|c.2.2+1):Int)),O,M,bC,bs,R,Fct,Fct,bR,ag⟩ R
 cases h
 obtain rfl:=EU ag
 exact have h:=yL aK;Ja1 (Jr2<|Jw<|Jb2 (l:=[.tmp 6]) results15 (Jq2 R R) R<|Oh h<|⟨an,R,Fct⟩)
 rintro _ _ ⟨bi,z,ad,ac,ab,aa,rfl,aq,_,bY,rfl⟩
 exact have h:=yI aK;Jp (Jl3 1 R<|Je3 R U58 R Z56<|Jc3 R I56 ((aF.stp<|T5 m n o p aq).ld 1 R R)<|Jn 1 R<|Ob h λ_ cl h=>Jw3 R call48 (mL (J:=Mk bi) (Jn3 ((bJ.mx Pair.no96 aX R (R:4+3=7)).stp (T7 j k m n o p aq)).rdc) Gct cl)<|Ks 14 Pair.no96 λcH cM _ bb bl bS=>Tv<|Jn 1 R<|Js3 R U32 R R<|Ob h λ_ cm h=>Jw3 R call49 (uh (J:=Mk bb) cm)<|Ks 17 (bI _) λcF cC _ bd ao bT=>Tv<|Ob h λ_ cn h=>Jw3 R call47 (wD _ (J:=Mk bd) (Jn3 (bY.stp<|bl.tr ao).rdc) (Jn3 (bS.stp ao).rdc) (Jn3 bT.rdc) cn)<|Kb λ_ be _=>Tv<|Jb 2 R<|Ju<|Jb2 (l:=[.tmp 6]) results15 (Jq2 R R) R<|Oh h<|⟨be,R,Fct⟩)
end
end Go.Proofs.YtfombamjdkihnaaGreat
