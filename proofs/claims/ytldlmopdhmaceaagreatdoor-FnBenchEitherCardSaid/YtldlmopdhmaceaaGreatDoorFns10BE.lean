/- The walks, part 10. By program. -/
import Derived.Test.YtldlmopdhmaceaaGreatDoorFns9BE
set_option linter.unusedVariables false
set_option linter.unusedSimpArgs false
open Go.Wk.Ep renaming own → FU
open Int renaming toNat → FV
open Go.IntKind renaming wrap → FW
open Go.Wk.Ow renaming nil → FZ
open Sum renaming inr → FX
namespace Go.Proofs.YtldlmopdhmaceaaGreatDoor
open Tryz
open Go Go.Wk Go.Proofs
set_option maxRecDepth 100000
set_option maxHeartbeats 1000000
section
variable {w:World}{J:Col}
theorem sA {p0:Sig}{o k m n}{p1:Det}(W:Rd Rs J w 0 o k p1.Next) (X:Rd Pair.rp J w 0 m n p1.Pairs){r:Int}(h:mX p0 p1=some r):Ret prog 169 [.agg #[vi p0.In,vi p0.Out],.agg #[.slice o p1.Next.length k,.slice m p1.Pairs.length n]] w (Pvi J w r):=by
 refine Jp3 J func169 R ntmps169 R λY=>Jj3<|Jx3 J 2 R λ_ _ q _ y=>Tv<|Jx3 q 3 R λ_ _ t v p=>Tv<|Jb 1 R<|Jq<|Jj3 (have d:=y.stp v;Jg4 tv R (Jh4 (haE d.cells) I39 Z39 R) (Ob h λZ L h=>Jw3 R call39 (ir (J:=Mk t) (p0:=p0) L)<|Kb λN f a=>Tv<|Jn 2 R<|Ob h λM h E=>Jk4 [2,3] 15 M f N 5 tv ?_ ?_))
 exact Bk h (λF h=>Jg4 tv R (Jh4 (haE (d.stp a).cells) I39 Z39 R)<|Jg4 tv R (Jh4 (haE (p.stp a).cells) I60 Z60 R)<|Ob h λ_ H h=>Jw3 R call110 (tK (J:=Mk f) (p0:=p0) (p1:=p1) Gct Gct H)<|Kb λ_ _ _=>Tv<|Jn 2 R<|Oh h<|Jv1 _ tv ⟨R,_,Fct⟩<|KM R) (λF h=>Je4 R<|Je4 R<|Je4 R<|Jn 2 R<|Oh h<|Jl4 tv R)
 rintro _ _ _ ⟨rfl,g,j⟩
 refine have h:=E;Jd ?_
 refine Bk h (λG h=>Jy R<|Js<|Jp<|Jj3<|Jg4 tv R (Jh4 (haE (d.stp<|a.tr j).cells) I39 Z39 R)<|Jg4 tv R (Jh4 (haE (p.stp<|a.tr j).cells) I60 Z60 R)<|Ob h λO I h=>Jw3 R call114 (kV (J:=Mk g) (p0:=p0) (p1:=p1) Gct Gct I) ?_) (λG h=>Jx R<|Jf3 R<|Ju<|Jw<|Jb2 (l:=[.tmp 4]) results169 (Jq2 R R) R<|Oh h<|⟨g,R,Fct⟩)
 rintro _ _ ⟨_,V,S,P,Q,T,U,rfl,x,z,A,B⟩
 exact Im x 6 R (λs _ e=>Tv<|Jn 3 R<|Jy3 s 11 R X53 R λ_ _ i b C=>Tv<|Jm4 i 11 R Z53 R C R λ_ c D=>Tv<|Jb 1 R<|Jj3<|Jg4 tv R (Jh4 (haE D.cells) I53 Z53 R)<|Jn 1 R<|Ob h λ_ K h=>Jw3 R call224 (rz (J:=Mk i) (p0:=O.1) (Jn3 ((z.mx (bW _) e R (R:6+2=8)).stp (b.tr c)).rdc) (Jn3 ((A.mx (cF (bW _) _) e R (R:6+3=9)).stp (b.tr c)).rdc) (Jn3 ((B.mx Pair.no120 e R (R:6+4=10)).stp (b.tr c)).rdc) K)<|Ki λ_ u _=>Tv<|Jb 1 R<|Ju<|Jb2 (l:=[.tmp 4]) results169 (Jq2 R R) R<|Oh h<|⟨u,R,Fct⟩)
theorem rv {p0:Sig}{d g}{p1:VC}(F:Rd Clause.rp J w 0 d g p1){r:Bool}(h:hU p0 p1=some r):Ret prog 106 [.agg #[vi p0.In,vi p0.Out],.slice d p1.length g] w (Pvb J w r):=by
 refine Jp3 J func106 R ntmps106 R λG=>Jj3<|Jx3 J 2 R λ_ _ j _ e=>Tv<|Jb 1 R<|Jj3<|Jg4 tv R (Jh4 (haE e.cells) I39 Z39 R)<|Jn 1 R<|Ob h λA v h=>Jw3 R call60 (eF (J:=Mk j) (p0:=p0) Gct v) ?_
 rintro _ _ ⟨_,B,C,E,D,rfl,n,s,o⟩
 refine Im n 3 R (λi m f=>Tv<|Jn 3 R<|Jy3 i 7 R X60 R λ_ _ a b p=>Tv<|Jm4 a 7 R Z60 R p R λz c q=>Tv<|Jb 1 R<|Jl3 2 R<|Ob h λy h t=>Jk4 [4] 19 y a z 5 tv ?_ ?_)
 exact Bk h (λu h=>Je4 R<|Je4 R<|Je4 R<|Jn 2 R<|Oh h<|Jl4 tv R) (λu h=>Jg4 tv R (Jh4 (haE (e.stp<|T3 m b c).cells) I39 Z39 R)<|Jg4 tv R (Jh4 (haE q.cells) I60 Z60 R)<|Ob h λ_ x h=>Jw3 R call169 (sA (J:=Mk a) (p0:=p0) (p1:=A.1) (Jn3 ((s.mx (cF (bW _) _) f R (R:3+2=5)).stp (b.tr c)).rdc) (Jn3 ((o.mx Pair.no120 f R (R:3+3=6)).stp (b.tr c)).rdc) x)<|Ki λ_ _ _=>Tv<|Jn 2 R<|Oh h<|Jv1 _ tv ⟨R,_,Fct⟩<|KM R)
 rintro _ _ _ ⟨rfl,k,_⟩
 exact have h:=t;Jb 1 R (Ju<|Jb2 (l:=[.tmp 4]) results106 (Jq2 R R) R<|Oh h<|⟨k,R,Fct⟩)
theorem kR {p0:Sig}{y P}{p1:VC}(bp:Rd Clause.rp J w 0 y P p1){r:Rival×Bool}(h:dF p0 p1=some r):Ret prog 76 [.agg #[vi p0.In,vi p0.Out],.slice y p1.length P] w (λaY p=>∃s L N M O,aY= .tuple #[.agg #[.slice L r.1.In.length N,.slice M r.1.Next.length O],.bool r.2]/\Ent J w s p/\Oc E6 2 s p 2 L N r.1.In/\Oc (FU E6 2) 30 s p 3 M O r.1.Next):=by
 refine Jp3 J func76 R ntmps76 R λbq=>Jj3<|Jx3 J 2 R λ_ _ V _ aD=>Tv<|Jy3 V 3 R X103 R λ_ _ Y ai _=>Tv<|Jb 1 R<|Jj3 (have E:=aD.stp ai;Jg4 tv R (Jh4 (haE E.cells) I39 Z39 R) (Jn 1 R<|Ob h λQ aT h=>Jw3 R call60 (eF (J:=Mk Y) (p0:=p0) Gct aT) ?_))
 rintro _ _ ⟨_,a6,bn,bc,bm,rfl,ao,ay,aA⟩
 refine Im ao 4 R (λU ac I=>Tv<|Jn 3 R<|Jy3 U 8 R X60 R λ_ _ a i aB=>Tv<|Jm4 a 8 R Z60 R aB R λ_ j A=>Tv<|Jb 1 R<|Jq<|Jf3 R ?_)
 refine Bk h (λaR h=>Jy R<|Js<|Jp<|Jj3 (have B:=E.stp (T3 ac i j);Jg4 tv R (Jh4 (haE B.cells) I39 Z39 R) (Jg4 tv R (Jh4 (haE A.cells) I60 Z60 R) (Ob h λa0 aU h=>have bo:=(ay.mx (cF (bW _) _) I R (R:4+2=6)).stp (i.tr j);have C:=(aA.mx Pair.no120 I R (R:4+3=7)).stp (i.tr j);Jw3 R call114 (kV (J:=Mk a) (p0:=p0) (p1:=Q.1) Gct (Jn3 C.rdc) aU) ?_)))) (λaR h=>Jx R<|Jj3<|Jf R (Jn4 [.slice none 0 0,.slice none 0 0] R)<|Jm4 a 3 R Z103 R Fct R λ_ _ aC=>Tv<|Jb 1 R<|Ju<|Jw<|Jb2 (l:=[.cell 4 103,.tmp 5]) results76 (cc R aC isAgg103 Z103 R<|Jq2 R R) R<|Oh h<|⟨a,none,0,none,0,R,Fct,FZ,FZ⟩)
 rintro _ _ ⟨_,a5,ba,a7,bk,a8,be,rfl,aq,aE,aF,aG⟩
 refine Im aq 9 R (λW ad o=>Tv<|Jn 3 R<|Jy3 W 14 R X53 R λ_ _ u ae aH=>Tv<|Jm4 u 14 R Z53 R aH R λq af aI=>Tv<|Jb 1 R<|Jj3<|Jg4 tv R (Jh4 (haE aI.cells) I53 Z53 R)<|Jn 1 R ?_)
 obtain⟨X,ag,a1⟩:=eD u q 11
 obtain⟨Z,ah,a2⟩:=eD X q 12
 obtain⟨aa,x,a3⟩:=eD Z q 13
 refine Ob h λS aV h=>Jw3 R call115 (mu (J:=λn=>mp [] 1<|aa n) (p0:=a0.1) (Jm2 ((Sl.st a1 ((aE.mx (bW _) o R (R:9+2=11)).stp Fct).rdc).stp Fct) (mp [] 1) R R) (Jm2 ((Sl.st a2 ((aF.mx (cF (bW _) _) o R (R:9+3=12)).stp Fct).rdc).stp x) (mp [] 1) R R) (Jm2 (Sl.st a3 ((aG.mx Pair.no120 o R (R:9+4=13)).stp Fct).rdc) (mp [] 1) R R) aV) ?_
 rintro _ _ ⟨_,bd,a9,bj,bh,bi,bf,bl,a4,rfl,ar,aJ,aK,aL,aM⟩
 refine Im0 ar 15 R (λab aj c T=>Tv<|have aN:=aJ.mx (bW _) c R (R:15+2=17);have D:=aK.mxz T c R (R:15+3=18);have aO:=aL.mx (bW _) c R (R:15+4=19);Jn 4 R (Jy3 ab 21 R X55 R λ_ _ e k aP=>Tv<|Jm4 e 21 R Z55 R aP R λaZ m F=>Tv<|Jb 2 R<|Jq<|Jl3 3 R<|Ob h λK h aQ=>Jk4 [2,4,6,10,11] 42 K e aZ 6 tv ?_ ?_))
 exact Bk h (λaS h=>Jg4 tv R (Jh4 (haE F.cells) I55 Z55 R)<|Ob h λ_ aW h=>Jw3 R call84 (kD (J:=Mk e) (p0:=S.1) Gct (Jn3 (D.stp<|k.tr m).rdc) Gct aW) (Ks 24 (bW _) λbg bb _ _ _ au=>Tv<|have z:=au;Ob h λ_ G h=>Jd3 R z.rdc G U30 Z2<|Jc3 R I2 (z.rdc.gInt G)<|Jn 2 R<|Oh h<|Jv1 _ tv ⟨R,_,Fct⟩<|KM R)) (λaS h=>Je4 R<|Je4 R<|Jn 1 R<|Je4 R<|Jn 2 R<|Oh h<|Jl4 tv R)
 rintro _ _ _ ⟨rfl,d,g⟩
 refine have h:=aQ;Jd ?_
 revert h
 cases br:K
 refine have f:=(T10 ad ae af ag ah x aj k m g);have b:=(T3 k m g);JF λh=>Jy R<|Js<|Jp<|Jj3<|Jg4 tv R (Jh4 (haE (B.stp f).cells) I39 Z39 R)<|Jg4 tv R (Jh4 (haE (A.stp f).cells) I60 Z60 R)<|Jg4 tv R (Jh4 (haE (F.stp g).cells) I55 Z55 R)<|Jn 1 R<|Ob h λ_ aX h=>Jw3 R call131 (tH (J:=Mk d) (p0:=p0) (p1:=Q.1) (p2:=S.1) Gct (Jn3 (C.stp f).rdc) (Jn3 (aN.stp b).rdc) (Jn3 (D.stp b).rdc) (Jn3 (aO.stp b).rdc) (Jn3 ((aM.mxz T c R (R:15+5=20)).stp b).rdc) aX) ?_
 rintro _ _ ⟨_,al,ak,am,an,rfl,ap,aw,ax⟩
 exact Im ap 22 R (λt _ H=>Tv<|Jm4 t 3 R Z103 R Fct R λ_ v az=>Tv<|Jb 1 R<|Ju<|Jb2 (l:=[.cell 4 103,.tmp 5]) results76 (cc R az isAgg103 Z103 R<|Jq2 R R) R<|Oh h<|⟨(λn=>ren [(24,2),(25,3)]<|t n),al,ak,am,an,R,Fct,(((aw.mx (bW _) H R (R:22+2=24)).stp v).map (ren [(24,2),(25,3)]) R R),(((ax.mx (cF (bW _) _) H R (R:22+3=25)).stp v).map (ren [(24,2),(25,3)]) R R)⟩)
 exact JT λh=>Jx R<|Jj3<|Jf R (Jn4 [.slice none 0 0,.slice none 0 0] R)<|Jm4 d 3 R Z103 R Fct R λ_ _ av=>Tv<|Jb 1 R<|Ju<|Jw<|Jb2 (l:=[.cell 4 103,.tmp 5]) results76 (cc R av isAgg103 Z103 R<|Jq2 R R) R<|Oh h<|⟨d,none,0,none,0,R,Fct,FZ,FZ⟩
theorem uK {p0:Sig}{c e}{p1:VC}(v:Rd Clause.rp J w 0 c e p1){r:Int}(h:fO p0 p1=some r):Ret prog 59 [.agg #[vi p0.In,vi p0.Out],.slice c p1.length e] w (Pvi J w r):=by
 refine Jp3 J func59 R ntmps59 R λx=>Jj3<|Jx3 J 2 R λ_ _ f _ d=>Tv<|Jb 1 R<|Jq<|Jj3<|Jg4 tv R (Jh4 (haE d.cells) I39 Z39 R)<|Jn 1 R<|Ob h λz p h=>Jw3 R call106 (rv (J:=Mk f) (p0:=p0) Gct p)<|Kb λ_ b i=>Tv<|Jd ?_
 refine Bk h (λm h=>Jy R<|Js<|Jp<|Jq<|Jj3<|Jg4 tv R (Jh4 (haE (d.stp i).cells) I39 Z39 R)<|Jn 1 R<|Ob h λy o h=>Jw3 R call76 (kR (J:=Mk b) (p0:=p0) Gct o) ?_) (λm h=>Jx R<|Jf3 R<|Ju<|Jw<|Jb2 (l:=[.tmp 4]) results59 (Jq2 R R) R<|Oh h<|⟨b,R,Fct⟩)
 rintro _ _ ⟨_,q,t,u,s,rfl,j,_,_⟩
 refine Im j 5 R (λg _ _=>Tv<|Jn 3 R<|Jy3 g 9 R X103 R λ_ _ a _ k=>Tv<|Jm4 a 9 R Z103 R k R λ_ _ _=>Tv<|Jb 1 R<|Jf3 R ?_)
 exact Bk h (λn h=>Jy R<|Js<|Jp<|Jf3 R<|Ju<|Jb2 (l:=[.tmp 4]) results59 (Jq2 R R) R<|Oh h<|⟨a,R,Fct⟩) (λn h=>Jx R<|Jf3 R<|Ju<|Jw<|Jb2 (l:=[.tmp 4]) results59 (Jq2 R R) R<|Oh h<|⟨a,R,Fct⟩)
theorem iL {p0:Sig}{bl b6}{p1:VC}(fl:Rd Clause.rp J w 0 bl b6 p1){r:Machine×Bool}(h:eo p0 p1=some r):Ret prog 62 [.agg #[vi p0.In,vi p0.Out],.slice bl p1.length b6] w (λes a=>∃b b2 b4 b3 b5,es= .tuple #[.agg #[.slice b2 r.1.Next.length b4,.slice b3 r.1.Out.length b5],.bool r.2]/\Ent J w b a/\Oc (FU E6 2) 30 b a 2 b2 b4 r.1.Next/\Oc (FU E6 2) 30 b a 3 b3 b5 r.1.Out):=by
 refine Jp3 J func62 R ntmps62 R λfm=>Jj3<|Jx3 J 2 R λ_ _ cj _ dD=>Tv<|Jy3 cj 3 R X89 R λ_ _ cx cE _=>Tv<|Jb 1 R<|Jj3 (have bH:=dD.stp cE;Jg4 tv R (Jh4 (haE bH.cells) I39 Z39 R) (Jn 1 R<|Ob h λac ei h=>Jw3 R call60 (eF (J:=Mk cx) (p0:=p0) Gct ei) ?_))
 rintro _ _ ⟨_,eJ,e7,e4,eH,rfl,cU,c2,c4⟩
 refine Im cU 4 R (λcg cC bZ=>Tv<|Jn 3 R<|Jy3 cg 8 R X60 R λ_ _ ag aP dj=>Tv<|Jm4 ag 8 R Z60 R dj R λ_ aQ bB=>Tv<|Jb 1 R<|Jq<|Jf3 R ?_)
 refine Bk h (λd8 h=>Jy R<|Js<|Jp<|Jj3 (have bD:=bH.stp (T3 cC aP aQ);Jg4 tv R (Jh4 (haE bD.cells) I39 Z39 R) (Jg4 tv R (Jh4 (haE bB.cells) I60 Z60 R) (Ob h λez ej h=>have ff:=(c2.mx (cF (bW _) _) bZ R (R:4+2=6)).stp (aP.tr aQ);have bE:=(c4.mx Pair.no120 bZ R (R:4+3=7)).stp (aP.tr aQ);Jw3 R call114 (kV (J:=Mk ag) (p0:=p0) (p1:=ac.1) Gct (Jn3 bE.rdc) ej) ?_)))) (λd8 h=>Jx R<|Jj3<|Jf R (Jn4 [.slice none 0 0,.slice none 0 0] R)<|Jm4 ag 3 R Z89 R Fct R λ_ _ dw=>Tv<|Jb 1 R<|Ju<|Jw<|Jb2 (l:=[.cell 4 89,.tmp 5]) results62 (cc R dw I89 Z89 R<|Jq2 R R) R<|Oh h<|⟨ag,none,0,none,0,R,Fct,FZ,FZ⟩)
 rintro _ _ ⟨_,fc,eW,eO,eV,eI,bn,rfl,cW,dE,dF,dG⟩
 refine Im cW 9 R (λcv aR ba=>Tv<|Jn 3 R<|Jy3 cv 14 R X53 R λ_ _ bk aS dH=>Tv<|Jm4 bk 14 R Z53 R dH R λbb aT dI=>Tv<|Jb 1 R<|Jj3<|Jg4 tv R (Jh4 (haE dI.cells) I53 Z53 R)<|Jn 1 R ?_)
 obtain⟨cw,aU,eB⟩:=eD bk bb 11
 obtain⟨cy,aV,eC⟩:=eD cw bb 12
 obtain⟨cz,ak,eE⟩:=eD cy bb 13
 refine Ob h λad ek h=>Jw3 R call115 (mu (J:=λa1=>mp [] 1<|cz a1) (p0:=ez.1) (Jm2 ((Sl.st eB ((dE.mx (bW _) ba R (R:9+2=11)).stp Fct).rdc).stp Fct) (mp [] 1) R R) (Jm2 ((Sl.st eC ((dF.mx (cF (bW _) _) ba R (R:9+3=12)).stp Fct).rdc).stp ak) (mp [] 1) R R) (Jm2 (Sl.st eE ((dG.mx Pair.no120 ba R (R:9+4=13)).stp Fct).rdc) (mp [] 1) R R) ek) ?_
 rintro _ _ ⟨_,e5,fb,eG,eQ,e6,eY,cH,cK,rfl,cX,dJ,dK,dL,dN⟩
 refine Im0 cX 15 R (λcA aW aI cb=>Tv<|have fg:=dJ.mx (bW _) aI R (R:15+2=17);have bF:=dK.mxz cb aI R (R:15+3=18);have fi:=dL.mx (bW _) aI R (R:15+4=19);have bG:=dN.mxz cb aI R (R:15+5=20);Jn 4 R (Jy3 cA 21 R X55 R λ_ _ cB T _=>Tv<|Jy3 cB 22 R zeroValue126 R λ_ _ ah U _=>Tv<|Jm4 ah 21 R Z55 R Fct R λ_ O bo=>Tv<|Ja4 ah 22 (vc:=[.slice cH ad.2.1.length cK]) R sizeOf126 R Fct R λet C cY=>Tv<|Jb 1 R<|Jq<|Jl3 3 R<|Ob h λer h dO=>Jk4 [2,4,6,10,11] 54 er ah et 6 tv ?_ ?_))
 exact Bk h (λd3 h=>Jg4 tv R (Jh4 (haE (bo.stp C).cells) I55 Z55 R)<|Ob h λ_ el h=>Jw3 R call84 (kD (J:=Mk ah) (p0:=ad.1) Gct (Jn3 (bF.stp ((T4 T U O C))).rdc) Gct el) (Ks 25 (bW _) λeZ fa _ _ _ cZ=>Tv<|have bp:=cZ;Ob h λ_ bQ h=>Jd3 R bp.rdc bQ U30 Z2<|Jc3 R I2 (bp.rdc.gInt bQ)<|Jn 2 R<|Oh h<|Jv1 _ tv ⟨R,_,Fct⟩<|KM R)) (λd3 h=>Je4 R<|Je4 R<|Jn 1 R<|Je4 R<|Jn 2 R<|Oh h<|Jl4 tv R)
 rintro _ _ _ ⟨rfl,aK,M⟩
 refine have h:=dO;Jd ?_
 refine Bk h (λd4 h=>Jy R<|Js<|Jp<|Jj3 (have bq:=bo.stp (C.tr M);Jg4 tv R (Jh4 (haE bq.cells) I55 Z55 R) (Ob h λb9 em h=>have a2:=bF.stp (T5 T U O C M);Jw3 R call116 (sf (J:=Mk aK) (p0:=ad.1) Gct (Jn3 a2.rdc) Gct em) ?_))) (λd4 h=>Jx R<|Jj3<|Jf R (Jn4 [.slice none 0 0,.slice none 0 0] R)<|Jm4 aK 3 R Z89 R Fct R λ_ _ c0=>Tv<|Jb 1 R<|Ju<|Jw<|Jb2 (l:=[.cell 4 89,.tmp 5]) results62 (cc R c0 I89 Z89 R<|Jq2 R R) R<|Oh h<|⟨aK,none,0,none,0,R,Fct,FZ,FZ⟩)
 rintro _ _ ⟨_,e1,eU,eN,e9,rfl,cV,_,c1⟩
 refine Im cV 23 R (λce N eq=>Tv<|have br:=c1.mx (bW _) eq R (R:23+3=26);Jf R (rS U146 R I30 R R R) (Jb 1 R<|Jj3<|Je3 R U60 R Z51 (have bs:=bB.stp (T13 aR aS aT aU aV ak aW T U O C M N);Jc3 R I51 (bs.ld 0 R R) (Js3 R U51 R R<|Jy3 ce 27 R X2 R λ_ _ bd D c3=>Tv<|Ja4 bd 27 (vc:=[vi (ac.1.Next.length:Int)]) R Z2 R c3 R λ_ E _=>Tv<|Jd<|Jj3<|Ji4 bd 28 [0] R Y30 bS R λcM cQ _ cf F _=>Tv<|Jb 1 R<|Jj3<|Jf R (Jn4 [.slice none 0 0,.slice none 0 0] R)<|Jy3 cf 29 R X89 R λbm _ ae G c5=>Tv<|Jm4 ae 29 R Z89 R c5 R λb7 H c6=>Tv<|Jd<|Jq<|Jf3 R<|Ob h λb0 dY dP=>Jt3 [4,15] (λz A a=>∃b,∃L:VI×Int×VV×VV,∃aZ a0 aw aE aC aq,A=(14,.slice aZ L.1.length a0)::z/\Stp [28,29,30,31,32,33,34,37,38] ae b7 b a/\Oc E6 2 b a 28 aZ a0 L.1/\Oc (FU E6 2) 30 b a 30 aw aE L.2.2.1/\Oc (FU E6 2) 30 b a 31 aC aq L.2.2.2/\Bc b a 29 bm 89 [.slice aw L.2.2.1.length aE,.slice aC L.2.2.2.length aq]/\b0=FX L) (Jv<|Ju3 [2,4,6,10,11,12,13,15] (λy z A a=>∃b,∃c:VI×Int×VV×VV,∃Y V ax az X Z,A=(14,.slice Y c.1.length V)::(16,vi c.2.1)::z/\Stp [28,29,30,31,32,33,34,37,38] ae b7 b a/\Oc E6 2 b a 28 Y V c.1/\Oc (FU E6 2) 30 b a 30 ax az c.2.2.1/\Oc (FU E6 2) 30 b a 31 X Z c.2.2.2/\Bc b a 29 bm 89 [.slice ax c.2.2.1.length az,.slice X c.2.2.2.length Z]/\ci (iK p0 ac ad b9) y c=some b0) ⟨_,_,⟨ae,((([0]:VI):VI),(0:Int),([]:VV),([]:VV)),cM,cQ,none,0,none,0,R,Jo3,Fct,FZ,FZ,c6,dY⟩,(KM R)⟩ ?_) ?_))))
 rintro y _ _ ⟨aL,c,Y,V,ax,az,X,Z,rfl,I,a3,c8,da,bt,h⟩
 rcases y with _|y
 cases h
 refine Ob h λ_ h bJ=>Jq<|Jl3 2 R<|Js3 R U30 R R<|Jb 1 R ?_
 refine Bk h (λd6 h=>Jy R<|Jc1<|Jt<|Jt ?_) (λd6 h=>Jx R<|Js<|Jp<|Jq<|Jv<|Jq<|Xn aL [0,20,22,28] [5,8,11,0,12,17,20,21,25,28] λ_ n=>Jn 2 R<|Ob h λ_ bR h=>Jd3 R a3.rdc bR U30 Z2 (have bu:=cY.stp (T9 M N D E F G H I n);Jg R (Jd2 isAgg126 R R<|hvC (bu.ld 0 R R) R) (Jg R (Jd2 I2 R R<|hvC ((a3.stp n).rdc.gInt bR) R)<|Ob h λca bT h=>Jd3 R bG.rdc bT U126 Z149<|Je3 R U149 R Z2 ?_)))
 cases h
 exact have h:=bJ;Jb1 (Oh h<|Jw1 _ ⟨aL,(c.1,c.2.1,c.2.2.1,c.2.2.2),Y,V,ax,az,X,Z,R,Fct,a3,c8,da,bt,R⟩<|KM R)
 have bv:=bG.stp (T13 T U O C M N D E F G H I n)
 obtain⟨_,d1,dW⟩:=Ow.gZS bv bT
 obtain⟨eL,fo,rfl,fj⟩:=Place.un d1
 refine Jg R (Jd2 I2 R R<|hvC (λa a9=>dW a a9 0 _ R) R)<|Jy3 aL 32 R X2 R λ_ _ be i db=>⟨(i.cl R),Ja4 be 32 (vc:=[vi ca.At]) R Z2 R db R λ_ o dc=>⟨((i.tr o).cl R),Jt1<|Jd<|Jj3<|Jc4 be E6 33 R Y30 bS R λcJ cN _ ch p _=>Tv<|Jc4 ch E6 34 R Y30 bS R λcG cS _ ck q _=>Tv<|Jb 2 R<|Jq<|Jj3 (have bw:=bD.stp (aR.tr<|aS.tr<|aT.tr<|aU.tr<|aV.tr<|ak.tr<|aW.tr<|T.tr<|U.tr<|O.tr<|C.tr<|M.tr<|N.tr<|D.tr<|E.tr<|F.tr<|G.tr<|H.tr<|I.tr<|n.tr<|i.tr<|o.tr<|p.tr q);Jg4 tv R (Jh4 (haE bw.cells) I39 Z39 R) (Ob h λeA en h=>Jw3 R C73 (dr (J:=Mk ck) (p0:=p0) en)<|Ki λb8 aM s=>Tv<|Jb 1 R (Ob h λ_ d0 h=>have dS:=gk d0;Ob h λb1 dZ dQ=>Jt3 [2,4,6,10,11,12,13,15,16] (λz A a=>∃b,∃e:VI×VI×VI,∃av ap aG aA ay ao,A=(14,.slice av e.1.length ap)::(18,.slice aG e.2.1.length aA)::(19,.slice ay e.2.2.length ao)::z/\Stp [28,33,34,37] aM b8 b a/\Oc E6 2 b a 28 av ap e.1/\Oc E6 2 b a 33 aG aA e.2.1/\Oc E6 2 b a 34 ay ao e.2.2/\b1=FX e) (Jv<|Ju3 [2,4,6,10,11,12,13,15,16,17,81] (λy z A a=>∃b B,∃m:VI×VI×VI,∃aa W ar aF an au,A=(14,.slice aa m.1.length W)::(18,.slice ar m.2.1.length aF)::(19,.slice an m.2.2.length au)::(82,vi B)::z/\Stp [28,33,34,37] aM b8 b a/\Oc E6 2 b a 28 aa W m.1/\Oc E6 2 b a 33 ar aF m.2.1/\Oc E6 2 b a 34 an au m.2.2/\0<=B/\FV (eA-B)=y/\cntM (fP p0 ac ad b9 c ca) y B m=some b1) ⟨_,_,⟨aM,0,(c.1,([]:VI),([]:VI)),Y,V,cJ,cN,cG,cS,R,Jo3,Fct,Fct,Fct,(by decide),(by simp),dZ⟩,(KM R)⟩ ?_) ?_)))⟩⟩
 rintro y _ _ ⟨bf,B,m,aa,W,ar,aF,an,au,rfl,t,a4,de,bx,dT,bI,h⟩
 rcases y with _|y
 exact Jf3 R<|Jq<|Jx2 R (dcf bI)<|Jc1<|Jt<|Jt<|Jb1<|Oh h<|Jw1 _ ⟨bf,(m.1,m.2.1,m.2.2),aa,W,ar,aF,an,au,R,Fct,a4,de,bx,R⟩<|KM R
 refine Ob h λfn h a8=>have aH:=dct bI;Jf3 R (Jq<|Jw2 R aH<|Js<|Jp<|Jq<|Jv<|Jl3 1 R<|Jy3 bf 37 R X2 R λ_ _ aN f df=>Tv<|Ja4 aN 37 (vc:=[vi B]) R Z2 R df R λ_ g dg=>Tv<|Jd<|Jq<|Xn aN [0,18,21,28] [2,5,11,14,17,29,6,18,23,24,31,35] λ_ d=>Je3 R U55 R Z53<|Je3 R U53 R Z51<|Jn 2 R<|Ob h λ_ bV h=>Jd3 R a4.rdc bV U30 Z2<|Jf R (d5 (first:=[]) (captured:=[.tmp 11,.tmp 13,.tmp 17,.tmp 2,.tmp 20]) R R R ⟨_,R⟩) (have bz:=bq.stp (N.tr<|D.tr<|E.tr<|F.tr<|G.tr<|H.tr<|I.tr<|n.tr<|i.tr<|o.tr<|p.tr<|q.tr<|s.tr<|t.tr<|f.tr<|g.tr d);Jg R (Jd2 I51 R R<|hvC (bz.ld 1 R R) R) (have a5:=a4.stp (T3 f g d);Jg R (Jd2 I2 R R<|hvC (a5.rdc.gInt bV) R) (Ob h λ_ bX h=>Jd3 R a2.rdc bX U51 Z30 ?_))))
 have a6:=a2.stp (N.tr (D.tr (E.tr (F.tr (G.tr (H.tr (I.tr (n.tr (i.tr (o.tr (p.tr (q.tr (s.tr (t.tr (f.tr (g.tr d))))))))))))))))
 obtain⟨_,_,_,dU⟩:=a6.gZ bX
 refine Jg R (Jd2 I30 R R<|hvC dU R) (Ob h λ_ ep h=>have a7:=bv.stp (T9 i o p q s t f g d);have dh:=bu.stp (T9 i o p q s t f g d);have di:=dc.stp (T7 p q s t f g d);have dk:=bw.stp (T5 s t f g d);have dl:=dg.stp d;Jw3 R call117 (fh (J:=Mk aN) (c1_3:=p0) Gct (Jn3 a7.rdc) Fct Fct Fct Fct Fct ep) (Ki λ_ bg j=>⟨(j.cl R),Jn 1 R<|Jt1<|Jd<|Jq<|Xn bg [0,18,21,26,28] [2,5,8,14,17,20,32,9,21,26,27,35,36,41,42,47] λ_ u=>Jn 1 R<|Je3 R U55 R Z53<|Je3 R U53 R Z51<|Jn 2 R<|Ob h λ_ bK h=>Jd3 R a5.rdc bK U30 Z2<|Jn 1 R<|Jg R (Jd2 I51 R R<|hvC ((bz.stp<|j.tr u).ld 1 R R) R)<|Jg R (Jd2 I2 R R<|hvC ((a5.stp<|j.tr u).rdc.gInt bK) R)<|Ob h λ_ bL h=>Jd3 R a6.rdc bL U51 Z30 ?_⟩))
 obtain⟨_,_,bA,dV⟩:=(a6.stp (j.tr u)).gZ bL
 refine Jg R (Jd2 I30 R R<|hvC dV R)<|Ob h λ_ bM h=>Jd3 R bA bM U30 Z2<|Jg R (Jd2 I2 R R<|hvC (bA.gInt bM) R)<|Ob h λev bN h=>Jd3 R br.rdc bN U30 Z2<|Jg R (Jd2 I2 R R<|hvC ((br.stp<|D.tr<|E.tr<|F.tr<|G.tr<|H.tr<|I.tr<|n.tr<|i.tr<|o.tr<|p.tr<|q.tr<|s.tr<|t.tr<|f.tr<|g.tr<|d.tr<|j.tr u).rdc.gInt bN) R)<|Jn 1 R<|Jt1<|Jd<|Jl3 2 R<|Ob h λfq eb h=>Jw3 R call112 (dM (J:=Mk bg) Gct eb)<|Ki λeu aO P=>Tv<|Jb 1 R<|Jq<|Jf3 R<|Ob h λab h dR=>Jt3 [2,4,6,10,11,12,13,15,16,17,18,19,20,22,81,82] (λz A a=>∃b aD al,A=(14,.slice aD ab.1.length al)::(23,vi ab.2)::z/\Stp [28] aO eu b a/\Oc E6 2 b a 28 aD al ab.1) ?_ ?_
 exact Bk h (λd7 h=>Jy R<|Js<|Oh h<|Jw1 _ ⟨aO,aa,W,R,Jo3,Fct⟩<|KM R) (λd7 h=>Jx R<|Jl3 1 R<|Js3 R U30 R R<|Jb 1 R<|Jm3 2 R<|Ji4 aO 42 [ev] R Y30 bS R λfd eT _ cn _ dn=>Tv<|Ob h λ_ ec h=>Jd4 cn E6 28 [] R Y30 bS R Fct (Sl.srcP (cd _) dn.rdc) bU ec R λcP cI _ co _ dp=>Tv<|Jc 1 R<|Oh h<|Jw1 _ ⟨co,cP,cI,R,Fct,dp⟩<|KM R)
 rintro _ _ ⟨cm,aD,al,rfl,Q,dm⟩
 refine have h:=dR;have ai:=(T4 j u P Q);Jp (Jl3 2 R<|Ji4 cm 42 [ab.2] R Y30 bS R λeS e2 _ cp v dq=>Tv<|Ob h λew ed h=>Jd4 cp E6 33 [] R Y30 bS R Fct (Sl.srcP (cd _) dq.rdc) bU ed R λcL cR _ bh x ds=>Tv<|Jb 1 R<|Xn bh [0,2,8,20,22,32,37] [2,20,3,6,9,12,15,23,26,27,31,35,37,40,43,47] λ_ k=>Jn 2 R<|Jg R (Jh4 (haC (dk.stp<|T4 ai v x k).cells R) I39 Z39 R)<|Jg R (Jh4 (haC (bs.stp<|D.tr<|E.tr<|F.tr<|G.tr<|H.tr<|I.tr<|n.tr<|i.tr<|o.tr<|p.tr<|q.tr<|s.tr<|t.tr<|f.tr<|g.tr<|d.tr<|j.tr<|u.tr<|P.tr<|Q.tr<|v.tr<|x.tr k).cells R) I60 Z60 R)<|Jg R (Jd2 I2 R R<|hvC ((di.stp<|T4 ai v x k).ld 0 R R) R)<|Jg R (Jd2 I2 R R<|hvC ((dl.stp<|T4 ai v x k).ld 0 R R) R)<|Jg R (Jd2 isAgg126 R R<|hvC ((dh.stp<|T4 ai v x k).ld 0 R R) R)<|Ob h λ_ bO h=>Jd3 R a7.rdc bO U126 Z149<|Je3 R U149 R Z2 ?_)
 obtain⟨_,d2,dX⟩:=Ow.gZS (a7.stp (T7 j u P Q v x k)) bO
 obtain⟨eM,fp,rfl,fk⟩:=Place.un d2
 refine Jg R (Jd2 I2 R R<|hvC (λa a9=>dX a a9 0 _ R) R)<|Ob h λ_ ee h=>Jw3 R call119 (tC (J:=Mk bh) (p0:=p0) (p1:=ac.1) Gct (Jn3 (bE.stp ((aR.tr<|aS.tr<|aT.tr<|aU.tr<|aV.tr<|ak.tr<|aW.tr<|T.tr<|U.tr<|O.tr<|C.tr<|M.tr<|N.tr<|D.tr<|E.tr<|F.tr<|G.tr<|H.tr<|I.tr<|n.tr<|i.tr<|o.tr<|p.tr<|q.tr<|s.tr<|t.tr<|f.tr<|g.tr<|d.tr<|j.tr<|u.tr<|P.tr<|Q.tr<|v.tr<|x.tr k))).rdc) ee)<|Ks 45 (bW _) λeP e3 _ cq K dt=>⟨(K.cl R),have bC:=dt;Ob h λex bP h=>Jd3 R bC.rdc bP U30 Z2<|Jg4 (K.cl R) R (Jd2 I2 R R<|hvE<|bC.rdc.gInt bP)<|Ji4 cq 46 [ex] R Y30 bS R λeR eX _ cr S du=>⟨((K.tr S).cl R),Ob h λey ef h=>Jd4 cr E6 34 [] R Y30 bS R (bx.stp<|T12 f g d j u P Q v x k K S) (Sl.srcP (cd _) du.rdc) bU ef R λcT cO _ cs aj dv=>⟨((T3 K S aj).cl R),Jn 1 R<|Jt1<|Jo<|Jz<|Jp<|Jg3 R ?_⟩⟩⟩
 have ea:FW .i64 (B+1)=B+1:=wr1 dT (Jn2 aH) dS
 rw[ea]
 exact have aH:=Jn2 aH;Ou h a8 (λa8=>Ja2 ⟨cs,B+1,(ab.1,ew,ey),aD,al,cL,cR,cT,cO,R,(T14 t f g d j u P Q v x k K S aj).wk R,(dm.stp<|T6 v x k K S aj),(ds.stp<|T4 k K S aj),dv,by omega,by omega,a8⟩ R)
 rintro _ _ ⟨cl,e,av,ap,aG,aA,ay,ao,rfl,cD,_,dd,_,rfl⟩
 refine have h:=yI dQ;Jp (Jj3<|Je3 R U89 R Z51<|Jc3 R I51 ((bt.stp<|T7 n i o p q s cD).ld 0 R R)<|Jn 1 R<|Jb4 cl (FU E6 2) 37 [33] (parts:=[(0,.tmp 144)]) (cells:=[.slice aG e.2.1.length aA]) (xs:=([e.2.1]:VV)) R Y51 bY R (Jj4 ⟨_,_,R,dd⟩) λfe eK _ ct _ dx=>Tv<|Ob h λaJ eg h=>Jd4 ct (FU E6 2) 30 [37] R Y51 bY R Fct dx.src (c9 R) eg R λam aB _ bi _ _=>Tv<|Je3 R U89 R Z51<|Jz3 bi 29 (off:=0) (vc:=[.slice am aJ.length aB]) (cs':=[.slice am aJ.length aB,.slice X c.2.2.2.length Z]) R Z51 R Fct R λ_ _ dy=>Tv<|Jd<|Jk3<|Je3 R U89 R Z51<|Jc3 R I51 (dy.ld 1 R R)<|Jn 1 R<|Jb4 bi (FU E6 2) 38 [34] (parts:=[(0,.tmp 150)]) (cells:=[.slice ay e.2.2.length ao]) (xs:=([e.2.2]:VV)) R Y51 bY R (Jj4 ⟨_,_,R,Fct⟩) λe8 e0 _ cu _ dz=>Tv<|Ob h λbc eh h=>Jd4 cu (FU E6 2) 31 [38] R Y51 bY R Fct dz.src (c9 R) eh R λaY aX _ bj _ _=>Tv<|Je3 R U89 R Z51<|Jz3 bj 29 (off:=1) (vc:=[.slice aY bc.length aX]) (cs':=[.slice am aJ.length aB,.slice aY bc.length aX]) R Z51 R Fct R λ_ _ dA=>Tv<|Jo<|Jz<|Jp<|Jg3 R ?_)
 cases h
 exact Ja2 ⟨bj,(e.1,((FW .i64<|c.2.1+1):Int),aJ,bc),av,ap,am,aB,aY,aX,R,Fct,Fct,Fct,Fct,dA,bJ⟩ R
 rintro _ _ ⟨af,L,aZ,a0,aw,aE,aC,aq,rfl,_,_,_,_,c7,rfl⟩
 refine have h:=yI dP;Jp (Jq<|Jl3 1 R<|Js3 R U30 R R<|Jb 1 R ?_)
 exact Bk h (λd9 h=>Jy R<|Js<|Jp<|Jj3<|Jg4 tv R (Jh4 (haE c7.cells) I89 Z89 R)<|Jm4 af 3 R Z89 R Fct R λ_ _ dC=>Tv<|Jb 1 R<|Ju<|Jb2 (l:=[.cell 4 89,.tmp 5]) results62 (cc R dC I89 Z89 R<|Jq2 R R) R<|Oh h<|⟨(λa1=>ren [(30,2),(31,3)]<|af a1),aw,aE,aC,aq,R,Fct,Fct,Fct⟩) (λd9 h=>Jx R<|Jj3<|Jf R (Jn4 [.slice none 0 0,.slice none 0 0] R)<|Jm4 af 3 R Z89 R Fct R λ_ _ dB=>Tv<|Jb 1 R<|Ju<|Jw<|Jb2 (l:=[.cell 4 89,.tmp 5]) results62 (cc R dB I89 Z89 R<|Jq2 R R) R<|Oh h<|⟨af,none,0,none,0,R,Fct,FZ,FZ⟩)
theorem uQ {p0:Sig}{u q s t}{p1:Machine}{p G}{p2:VC}(az:Rd Rs J w 0 u q p1.Next) (aA:Rd Rs J w 0 s t p1.Out) (aB:Rd Clause.rp J w 0 p G p2){r:(Option watch)×Bool}(h:nh p0 p1 p2=some r):Ret prog 124 [.agg #[vi p0.In,vi p0.Out],.agg #[.slice u p1.Next.length q,.slice s p1.Out.length t],.slice p p2.length G] w (λaq a=>∃b z D A E B F C,aq= .tuple #[.pointer (bif r.1.isSome then some ⟨C,0,none⟩ else none),.bool r.2]/\Ent J w b a/\Oc (FU E6 2) 30 b a 2 z D ((r.1.getD (⟨([]:VV),([]:VV),([]:VP)⟩:watch)).next)/\Oc (FU E6 2) 30 b a 3 A E ((r.1.getD (⟨([]:VV),([]:VV),([]:VP)⟩:watch)).letters)/\Oc Pair.ep120 120 b a 4 B F ((r.1.getD (⟨([]:VV),([]:VV),([]:VP)⟩:watch)).pairs)/\(r.1.isSome=true->Bc b a 5 C 210 [.slice z ((r.1.getD (⟨([]:VV),([]:VV),([]:VP)⟩:watch)).next).length D,.slice A ((r.1.getD (⟨([]:VV),([]:VV),([]:VP)⟩:watch)).letters).length E,.slice B ((r.1.getD (⟨([]:VV),([]:VV),([]:VP)⟩:watch)).pairs).length F])):=by
 refine Jp3 J func124 R ntmps124 R λaC=>Jj3<|Jx3 J 2 R λ_ _ H _ Y=>Tv<|Jx3 H 3 R λ_ _ K M x=>Tv<|Jb 2 R<|Jq<|Jj3 (have i:=Y.stp M;Jg4 tv R (Jh4 (haE i.cells) I39 Z39 R) (Ob h λaD al h=>Jw3 R call39 (ir (J:=Mk K) (p0:=p0) al)<|Kb λar k c=>Tv<|Jn 2 R<|Ob h λap h ah=>Jk4 [2,3,4] 18 ap k ar 5 tv ?_ ?_))
 exact Bk h (λai h=>Jg4 tv R (Jh4 (haE (i.stp c).cells) I39 Z39 R)<|Jg4 tv R (Jh4 (haE (x.stp c).cells) I89 Z89 R)<|Ob h λ_ am h=>Jw3 R call120 (kX (J:=Mk k) (p0:=p0) (p1:=p1) Gct Gct am)<|Kb λ_ _ _=>Tv<|Jn 2 R<|Oh h<|Jv1 _ tv ⟨R,_,Fct⟩<|KM R) (λai h=>Je4 R<|Je4 R<|Je4 R<|Jn 2 R<|Oh h<|Jl4 tv R)
 rintro _ _ _ ⟨rfl,m,n⟩
 refine have h:=ah;Jd ?_
 refine Bk h (λaj h=>Jy R<|Js<|Jp<|Jj3 (have v:=i.stp (c.tr n);Jg4 tv R (Jh4 (haE v.cells) I39 Z39 R) (Jn 1 R<|Ob h λau an h=>Jw3 R call60 (eF (J:=Mk m) (p0:=p0) Gct an) ?_))) (λaj h=>Jx R<|Jf3 R<|Ju<|Jw<|Jb2 (l:=[.tmp 6,.tmp 7]) results124 (Jq2 R<|Jq2 R R) R<|Oh h<|⟨m,none,0,none,0,none,0,0,R,Fct,FZ,FZ,FZ,(λh=>absurd h Bool.false_ne_true)⟩)
 rintro _ _ ⟨_,ay,ax,av,aw,rfl,W,Z,aa⟩
 refine Im W 6 R (λI o y=>Tv<|Jn 3 R<|Jy3 I 10 R X60 R λ_ _ g d ab=>Tv<|Jm4 g 10 R Z60 R ab R λ_ e ac=>Tv<|Jb 1 R<|Jq<|Jf3 R ?_)
 refine Bk h (λak h=>Jy R<|Js<|Jp<|Jj3<|Jg4 tv R (Jh4 (haE (v.stp<|T3 o d e).cells) I39 Z39 R)<|Jg4 tv R (Jh4 (haE (x.stp<|T5 c n o d e).cells) I89 Z89 R)<|Jg4 tv R (Jh4 (haE ac.cells) I60 Z60 R)<|Ob h λ_ ao h=>Jw3 R call189 (wj (J:=Mk g) (p0:=p0) (p1:=p1) (p2:=au.1) Gct Gct (Jn3 ((Z.mx (cF (bW _) _) y R (R:6+2=8)).stp (d.tr e)).rdc) (Jn3 ((aa.mx Pair.no120 y R (R:6+3=9)).stp (d.tr e)).rdc) ao) ?_) (λak h=>Jx R<|Jf3 R<|Ju<|Jw<|Jb2 (l:=[.tmp 6,.tmp 7]) results124 (Jq2 R<|Jq2 R R) R<|Oh h<|⟨g,none,0,none,0,none,0,0,R,Fct,FZ,FZ,FZ,(λh=>absurd h Bool.false_ne_true)⟩)
 rintro _ _ ⟨_,Q,N,O,T,P,S,V,rfl,X,ad,ae,af,ag⟩
 exact Im X 11 R (λL _ f=>Tv<|Jb 4 R<|Ju<|Jb2 (l:=[.tmp 6,.tmp 7]) results124 (Jq2 R<|Jq2 R R) R<|Oh h<|⟨(λU=>ren [(13,2),(14,3),(15,4),(16,5)]<|L U),Q,N,O,T,P,S,V,R,Fct,((ad.mx (cF (bW _) _) f R (R:11+2=13)).map (ren [(13,2),(14,3),(15,4),(16,5)]) R R),((ae.mx (cF (bW _) _) f R (R:11+3=14)).map (ren [(13,2),(14,3),(15,4),(16,5)]) R R),((af.mx Pair.no120 f R (R:11+4=15)).map (ren [(13,2),(14,3),(15,4),(16,5)]) R R),(λj=>(((λj=>(ag j).mx f R (R:11+5=16)) j).map (ren [(13,2),(14,3),(15,4),(16,5)]) R R))⟩)
theorem uL {p0:Sig}{g d e f}{p1:Machine}{c j}{p2:VC}(Q:Rd Rs J w 0 g d p1.Next) (S:Rd Rs J w 0 e f p1.Out) (T:Rd Clause.rp J w 0 c j p2){r:Bool}(h:jt p0 p1 p2=some r):Ret prog 67 [.agg #[vi p0.In,vi p0.Out],.agg #[.slice g p1.Next.length d,.slice e p1.Out.length f],.slice c p2.length j] w (Pvb J w r):=by
 unfold jt at h
 refine Jp3 J func67 R ntmps67 R λU=>Jj3<|Jx3 J 2 R λ_ _ m _ y=>Tv<|Jx3 m 3 R λ_ _ o p z=>Tv<|Jb 1 R<|Jj3<|Jg4 tv R (Jh4 (haE (y.stp p).cells) I39 Z39 R)<|Jg4 tv R (Jh4 (haE z.cells) I89 Z89 R)<|Jn 1 R<|Ob h λk D h=>Jw3 R call124 (uQ (J:=Mk o) (p0:=p0) (p1:=p1) Gct Gct Gct D) ?_
 rintro _ G ⟨_,I,L,N,K,M,O,_,rfl,q,t,u,v,x⟩
 obtain⟨b,_,a⟩:=Ji q 4 R
 refine Tv<|Jb 5 R<|Jl3 2 R<|Ob h λF h A=>Jk4 [6] 22 F b G 5 tv ?_ ?_
 revert h
 cases V:k.2
 refine JF λh=>Jn 1 R<|Je4 R<|Jn 3 R ?_
 cases h
 exact Jl4 tv R
 refine JT λh=>Jn 1 R<|Ob h λ_g346 B h=>?_
 have i:=AB B
 simp only[i,cond_true]
 refine Ob h λ_ E h=>Jw3 R call125 (qB (J:=Mk b) (p0:=(k.1.getD (⟨([]:VV),([]:VV),([]:VP)⟩:watch))) (Jn3 (t.mx (cF (bW _) _) a R (R:4+2=6)).rdc) (Jn3 (u.mx (cF (bW _) _) a R (R:4+3=7)).rdc) (Jn3 (v.mx Pair.no120 a R (R:4+4=8)).rdc) (((λC=>(x C).mx a R (R:4+5=9)) i).map (mp [] 0) R R) E) ?_
 rintro _ _ ⟨_,P,H,rfl,s,_⟩
 obtain⟨_,_,_⟩:=Ji s 10 R
 refine Tv<|Js3 R U30 R R<|Jn 2 R ?_
 cases h
 exact Jv1 _ tv ⟨R,_,Fct⟩<|KM R
 rintro _ _ _ ⟨rfl,n,_⟩
 have h:=A
 refine Jb 1 R<|Ju<|Jb2 (l:=[.tmp 6]) results67 (Jq2 R R) R ?_
 cases h
 exact⟨n,R,Fct⟩
theorem pU {ap ar an ao aq av au aw} {p0 : bench} {b0} (g0_1 : Rd Clause.rp J w 0 ap ar p0.clauses) (g0_2_0_0 : Rd Ri J w 0 an ao p0.game.Arena.Owner) (g0_2_0_1 : Rd Rs J w 0 aq av p0.game.Arena.Next) (g0_2_1 : Rd Ri J w 0 au aw p0.game.Prio) (gb0 : Bc J w 0 b0 57 [vi p0.sig.In, vi p0.sig.Out, .slice ap p0.clauses.length ar, .slice an p0.game.Arena.Owner.length ao, .slice aq p0.game.Arena.Next.length av, .slice au p0.game.Prio.length aw]) (gGT : Tb prog "internal/strconv.uint64pow10" .u64 Lib.pow10Tab J w) {r : ByteArray} (h : en p0 = some r) : Ret prog 68 [.pointer (some ⟨b0, 0, none⟩)] w (fun v w' => ∃ κ', v = .string r ∧ Ent J w κ' w') := by
 refine Jp3 J func68 R ntmps68 R λhE=>Jf3 R<|Jq<|Ob h λx17 hx17 h=>Jt3 [0] (λE L w'=>∃κ' b3 af ai al ak,L=(3,.pointer (some ⟨b3,0,none⟩))::(4,.bool x17.2)::E/\Stp [2,4,5,6] J w κ' w'/\Oc E6 2 κ' w' 2 af ai x17.1.In/\Oc (FU E6 2) 30 κ' w' 3 al ak x17.1.Next/\Bc κ' w' 4 b3 103 [.slice af x17.1.In.length ai,.slice al x17.1.Next.length ak]) (WC.rxt (J:=J) [0] none (by kernel_rfl) λ_ S9=>Jq1 (fuel:=7) [(0,2),(1,2),(2,2),(4,2),(5,2),(6,2),(3,0),(7,0)] (by kernel_rfl) (by kernel_rfl) R<|Jn 1 R<|Jf R (bX R R)<|Je3 R U57 R Z39<|Jn 1 R<|Jf R (bX R R)<|Je3 R U57 R Z27 (have f10:=gb0.stp S9;Jg R (Jh4 (haC (f10.lds 0 2 R) R) I39 Z39 R) (Jg R (Jd2 I27 R R<|hvC (f10.ld 2 R R) R)<|Jp1<|WA.fork2 (fuel:=6) 8 12 (by kernel_rfl) R (Jw3 R call76 (kR (J:=Mk J) (p0:=p0.sig) Gct hx17) ?_)<|Jy3 J 2 R X103 R λb3 _ K33 S34 _=>⟨(S34.cl R),Xs 0 [25,29,32,35,40,44]<|Jw3 R call76 (kR (J:=Mk K33) (p0:=p0.sig) Gct hx17) ?_⟩))) ?_
 rintro _ _ ⟨_,ae,am,ah,ad,rfl,e14,f15,f16⟩
 exact Im e14 2 R (λK17 S18 m19=>⟨(S18.cl R),Xs 0 [29,32,35,37,40,44]<|Jn 3 R<|Jy3 K17 6 R X103 R λb3 _ K24 S25 f26=>⟨((S18.tr S25).cl R),Jm4 K24 6 R Z103 R f26 R λ_ S28 _=>⟨((T3 S18 S25 S28).cl R),Jn 1 R<|Xe<|Jo<|Jw1 _ ⟨(λb=>ren [(4,2),(5,3),(6,4)]<|K24 b),b3,ae,am,ah,ad,R,(Jz2 ((T4 S9 S18 S25 S28).wk R) [(4,2),(5,3),(6,4)] R),(((f15.mx (bW _) m19 R (R:2+2=4)).stp Fct).map (ren [(4,2),(5,3),(6,4)]) R R),(((f16.mx (cF (bW _) _) m19 R (R:2+3=5)).stp Fct).map (ren [(4,2),(5,3),(6,4)]) R R),Fct⟩<|KM R⟩⟩⟩)
 rintro _ _ ⟨_,ae,am,ah,ad,rfl,e39,f40,f41⟩
 exact Im e39 3 R (λK42 S43 m44=>⟨((S34.tr S43).cl R),Jn 3 R<|Jm4 K42 2 R Z103 R Fct R λ_ S50 _=>⟨((T3 S34 S43 S50).cl R),Jn 1 R<|Xe<|Jo<|Jw1 _ ⟨(λb=>ren [(5,2),(6,3),(2,4)]<|K42 b),b3,ae,am,ah,ad,R,(Jz2 ((T4 S9 S34 S43 S50).wk R) [(5,2),(6,3),(2,4)] R),(((f40.mx (bW _) m44 R (R:3+2=5)).stp S50).map (ren [(5,2),(6,3),(2,4)]) R R),(((f41.mx (cF (bW _) _) m44 R (R:3+3=6)).stp S50).map (ren [(5,2),(6,3),(2,4)]) R R),Fct⟩<|KM R⟩⟩)
 rintro _ _ ⟨K2,b3,af,ai,al,ak,rfl,S3,f5,f6,f7⟩
 refine Jp<|Jq<|Jf3 R ?_
 refine Bk h (λht54 h=>Jy R<|Js<|Jp<|Jj3<|Jc4 K2 Ep.str 5 R Y33 dx R λax ay w56 K57 S58 f59=>Tv<|Jb 1 R<|Jq<|Jj3<|Je3 R U103 R Z30 (have f60:=f7.stp S58;Jc3 R I30 (f60.ld 0 R R) (Js3 R U30 R R<|Jb 1 R<|Ob h λq2 hq63 hK62=>Jt3 [0] (λE L w'=>∃κ',∃s3:(List ByteArray),∃aj ac,L=(5,.slice aj s3.length ac)::E/\Stp [5,6] K57 w56 κ' w'/\Oc Ep.str 9 κ' w' 5 aj ac s3/\q2=FX s3) (Jv<|Ju3 [0,3,24,25] (λk E L w'=>∃κ' v26,∃s1:(List ByteArray),∃aa ab,L=(5,.slice aa s1.length ab)::(26,vi v26)::E/\Stp [5,6] K57 w56 κ' w'/\Oc Ep.str 9 κ' w' 5 aa ab s1/\0<=v26/\FV ((x17.1.In.length:Int)-v26)=k/\cntM (e6 x17) k v26 s1=some q2) ⟨_,_,⟨K57,0,(([]:List ByteArray):(List ByteArray)),ax,ay,R,Jo3,f59,(by decide),(by simp),hq63⟩,(KM R)⟩ ?_) ?_))) (λht54 h=>Jx R<|Jf3 R<|Ju<|Jw<|Jb2 (l:=[.tmp 2]) results68 (Jq2 R R) R<|Oh h<|⟨K2,R,Fct⟩)
 rintro k _ _ ⟨K69,v26,s1,aa,ab,rfl,S70,f71,hj61,hJ61,h⟩
 rcases k with _|k
 exact Jf3 R<|Jq<|Jx2 R (dcf hJ61)<|Jc1<|Jt<|Jt<|Jb1<|Oh h<|Jw1 _ ⟨K69,s1,aa,ab,R,Fct,f71,R⟩<|KM R
 refine Ob h λo61 h hk72=>Jf3 R<|Jq<|Jw2 R (dct hJ61)<|Js<|Jp<|Jq<|Jv<|Jl3 1 R<|Ob h λx29 hx29 h=>Jd3 R f5.rdc hx29 U30 Z2<|Jc3 R I2 ((f5.stp<|S58.tr S70).rdc.gInt hx29)<|Jb 2 R<|Jm3 2 R<|Ji4 K69 6 [x29] R Y30 bS R λaF aD _ K75 S76 f77=>Tv<|Je3 R U103 R Z51<|Jc3 R I51 ((f60.stp<|S70.tr S76).ld 1 R R)<|Jn 1 R<|Ob h λ_ hx37 h=>Jd3 R f6.rdc hx37 U51 Z30 ?_
 obtain⟨_,_,f80,hl81⟩:=(f6.stp (T3 S58 S70 S76)).rdc.gSl hx37
 refine Jc3 R I30 hl81<|Ob h λ_ hx39 h=>Jd4 K75 E6 6 [] R Y30 bS R f77 (Sl.srcP (cd _) f80) bU hx39 R λaE aB _ K83 S84 _=>Tv<|Ob h λx40 hx40 h=>Jw3 R call74 (rG (J:=Mk K83) Gct ((gGT.stp<|T5 S3 S58 S70 S76 S84).map (mp [] 0) R R) hx40) ?_
 rintro _ _ ⟨_,rfl,e89⟩
 exact Im e89 7 R (λK90 _ _=>Tv<|Jb4 K90 Ep.str 9 [] (parts:=[(0,.tmp 40)]) (cells:=[.string x40]) (xs:=([x40]:List ByteArray)) R Y33 dx R (Jj4 R) λaC aG _ K95 _ f97=>Tv<|Ob h λx42 hx42 h=>Jd4 K95 Ep.str 5 [] R Y33 dx R Fct (Sl.srcP ug f97.rdc) bU hx42 R λaA az _ K100 _ f102=>Tv<|Jc 1 R<|Jz<|Jp<|Jg3 R<|wr2 hj61 hJ61 f5.len_le ▸ (Ou h hk72 (λhk72=>Ja2 ⟨K100,v26+1,x42,aA,az,R,Fct,f102,nxz hj61,nxm hJ61,hk72⟩ R)))
 rintro _ _ ⟨K65,s3,aj,ac,rfl,_,f67,rfl⟩
 refine have h:=yI hK62;Jp (Jl3 1 R<|Ob h λ_ hx45 h=>Jw3 R call121 (kl (J:=Mk K65) (Jn3 f67.rdc) hx45) ?_)
 rintro _ _ ⟨_,rfl,e105⟩
 exact Im e105 6 R (λK106 _ _=>Tv<|Jb 1 R<|Ju<|Jb2 (l:=[.tmp 2]) results68 (Jq2 R R) R<|Oh h<|⟨K106,R,Fct⟩)
theorem rB {aD aG aB aC aE aI aH aF} {p0 : bench} {p1 : ByteArray} {b0} (g0_1 : Rd Clause.rp J w 0 aD aG p0.clauses) (g0_2_0_0 : Rd Ri J w 0 aB aC p0.game.Arena.Owner) (g0_2_0_1 : Rd Rs J w 0 aE aI p0.game.Arena.Next) (g0_2_1 : Rd Ri J w 0 aH aF p0.game.Prio) (gb0 : Bc J w 0 b0 57 [vi p0.sig.In, vi p0.sig.Out, .slice aD p0.clauses.length aG, .slice aB p0.game.Arena.Owner.length aC, .slice aE p0.game.Arena.Next.length aI, .slice aH p0.game.Prio.length aF]) (gGM : Vm 2 J w) (gGT : Tb prog "internal/strconv.uint64pow10" .u64 Lib.pow10Tab J w) {r : ByteArray} (h : cv p0 p1 = some r) : Ret prog 35 [.pointer (some ⟨b0, 0, none⟩), .string p1] w (fun v w' => ∃ κ', v = .string r ∧ Ent J w κ' w') := by
 refine Jp3 J func35 R ntmps35 R λhE=>Jf3 R<|Jq<|Jf3 R<|Jv<|Jj3<|Jf R (cR R R R)<|Jb 1 R ?_
 refine Bk h (λht1 h=>Jy R<|Jj3<|Jf R (cR R R R)<|Jb 1 R ?_) (λht1 h=>Jx R<|Jq<|Jq<|Xn J [0] [2,5,8,14,17,20,9,21,25] λ_ S2=>Jn 1 R<|Jf R (bX R R)<|Je3 R U57 R Z39<|Jn 1 R<|Jf R (bX R R)<|Je3 R U57 R Z27 (have f4:=gb0.stp S2;Jg R (Jh4 (haC (f4.lds 0 2 R) R) I39 Z39 R) (Jg R (Jd2 I27 R R<|hvC (f4.ld 2 R R) R)<|Ob h λx23 hx23 h=>Jw3 R call59 (uK (J:=Mk J) (p0:=p0.sig) Gct hx23)<|Ki λ_ K9 S10=>⟨(S10.cl R),Jt1<|Jd<|Jv<|Jf3 R ?_⟩)))
 refine Bk h (λht18 h=>Jy R<|Jj3<|Jf R (cR R R R)<|Jb 1 R ?_) (λht18 h=>Jx R<|Jq<|Ob h λx39 hx39 h=>Jt3 [0] (λE L w'=>∃κ' b5 ao ah al ae,L=(5,.pointer (some ⟨b5,0,none⟩))::(6,.bool x39.2)::E/\Stp [2,4,5,6] J w κ' w'/\Oc (FU E6 2) 30 κ' w' 2 ao ah x39.1.Next/\Oc Pair.ep120 120 κ' w' 3 al ae x39.1.Pairs/\Bc κ' w' 4 b5 60 [.slice ao x39.1.Next.length ah,.slice al x39.1.Pairs.length ae]) (WC.rxt (J:=J) [0] none (by kernel_rfl) λ_ S27=>Jq1 (fuel:=7) [(0,2),(1,2),(2,2),(4,2),(5,2),(6,2),(3,0),(7,0)] (by kernel_rfl) (by kernel_rfl) R<|Jn 1 R<|Jf R (bX R R)<|Je3 R U57 R Z39<|Jn 1 R<|Jf R (bX R R)<|Je3 R U57 R Z27 (have f28:=gb0.stp S27;Jg R (Jh4 (haC (f28.lds 0 2 R) R) I39 Z39 R) (Jg R (Jd2 I27 R R<|hvC (f28.ld 2 R R) R)<|Jp1<|WA.fork2 (fuel:=6) 8 12 (by kernel_rfl) R (Jw3 R call60 (eF (J:=Mk J) (p0:=p0.sig) Gct hx39) ?_)<|Jy3 J 2 R X60 R λb5 _ K51 S52 _=>⟨(S52.cl R),Xs 0 [25,29,32,35,40,44]<|Jw3 R call60 (eF (J:=Mk K51) (p0:=p0.sig) Gct hx39) ?_⟩))) ?_)
 refine Bk h (λht108 h=>Jy R<|Jj3<|Jf R (cR R R R)<|Jb 1 R ?_) (λht108 h=>Jx R<|Jq<|Ob h λx70 hx70 h=>Jt3 [0] (λE L w'=>∃κ' b7 ar am ap an,L=(7,.pointer (some ⟨b7,0,none⟩))::(8,.bool x70.2)::E/\Stp [2,4,5,6] J w κ' w'/\Oc (FU E6 2) 30 κ' w' 2 ar am x70.1.Next/\Oc (FU E6 2) 30 κ' w' 3 ap an x70.1.Out/\Bc κ' w' 4 b7 89 [.slice ar x70.1.Next.length am,.slice ap x70.1.Out.length an]) (WC.rxt (J:=J) [0] none (by kernel_rfl) λ_ S117=>Jq1 (fuel:=7) [(0,2),(1,2),(2,2),(4,2),(5,2),(6,2),(3,0),(7,0)] (by kernel_rfl) (by kernel_rfl) R<|Jn 1 R<|Jf R (bX R R)<|Je3 R U57 R Z39<|Jn 1 R<|Jf R (bX R R)<|Je3 R U57 R Z27 (have f118:=gb0.stp S117;Jg R (Jh4 (haC (f118.lds 0 2 R) R) I39 Z39 R) (Jg R (Jd2 I27 R R<|hvC (f118.ld 2 R R) R)<|Jp1<|WA.fork2 (fuel:=6) 8 12 (by kernel_rfl) R (Jw3 R call62 (iL (J:=Mk J) (p0:=p0.sig) Gct hx70) ?_)<|Jy3 J 2 R X89 R λb7 _ K141 S142 _=>⟨(S142.cl R),Xs 0 [25,29,32,35,40,44]<|Jw3 R call62 (iL (J:=Mk K141) (p0:=p0.sig) Gct hx70) ?_⟩))) ?_)
 refine Bk h (λht205 h=>Jy R<|Jj3<|Jf R (cR R R R)<|Jb 1 R ?_) (λht205 h=>Jx R<|Jq<|Ob h λx100 hx100 h=>Jt3 [0] (λE L w'=>∃κ' b10 aq aa af az,L=(10,.pointer (some ⟨b10,0,none⟩))::(11,.bool x100.2)::E/\Stp [2,4,5,6] J w κ' w'/\Oc (FU E6 2) 30 κ' w' 2 aq aa x100.1.Next/\Oc (FU E6 2) 30 κ' w' 3 af az x100.1.Out/\Bc κ' w' 4 b10 89 [.slice aq x100.1.Next.length aa,.slice af x100.1.Out.length az]) (WC.rxt (J:=J) [0] none (by kernel_rfl) λ_ S214=>Jq1 (fuel:=7) [(0,2),(1,2),(2,2),(4,2),(5,2),(6,2),(3,0),(7,0)] (by kernel_rfl) (by kernel_rfl) R<|Jn 1 R<|Jf R (bX R R)<|Je3 R U57 R Z39<|Jn 1 R<|Jf R (bX R R)<|Je3 R U57 R Z27 (have f215:=gb0.stp S214;Jg R (Jh4 (haC (f215.lds 0 2 R) R) I39 Z39 R) (Jg R (Jd2 I27 R R<|hvC (f215.ld 2 R R) R)<|Jp1<|WA.fork2 (fuel:=6) 8 12 (by kernel_rfl) R (Jw3 R call62 (iL (J:=Mk J) (p0:=p0.sig) Gct hx100) ?_)<|Jy3 J 2 R X89 R λb10 _ K238 S239 _=>⟨(S239.cl R),Xs 0 [25,29,32,35,40,44]<|Jw3 R call62 (iL (J:=Mk K238) (p0:=p0.sig) Gct hx100) ?_⟩))) ?_)
 refine Bk h (λht283 h=>Jy R<|Jj3<|Jf R (cR R R R)<|Jb 1 R ?_) (λht283 h=>Jx R<|Jl3 1 R<|Ob h λ_ hx119 h=>Jw3 R call68 (pU (J:=Mk J) (p0:=p0) Gct Gct Gct Gct Fct (gGT.map (mp [] 0) R R) hx119) ?_)
 refine Bk h (λht292 h=>Jy R<|Jj3<|Jf R (cR R R R)<|Jb 1 R ?_) (λht292 h=>Jx R<|Jl3 1 R<|Ob h λ_ hx123 h=>Jw3 R call69 (rC (J:=Mk J) (p0:=p0) Gct Gct Gct Gct Fct hx123) ?_)
 refine Bk h (λht301 h=>Jy R<|Jj3<|Jf R (cR R R R)<|Jb 1 R ?_) (λht301 h=>Jx R<|Jq<|Jl3 1 R<|Jf R (bX R R)<|Je3 R U57 R Z55<|Jg4 tv R (Jh4 (haE<|gb0.lds 3 3 R) I55 Z55 R)<|Ob h λx130 hx130 h=>Jw3 R call70 (pJ (J:=Mk J) (p0:=p0.game) Gct Gct Gct hx130)<|Kb λ_ K305 S306=>Tv<|Jb 1 R ?_)
 exact Bk h (λht330 h=>Jy R<|Js<|Jz<|Jp<|Jf3 R<|Ju<|Jb2 (l:=[.tmp 4]) V35 (Jq2 R R) R<|Oh h<|⟨J,R,hE⟩) (λht330 h=>Jx R<|Jq<|nomatch h)
 refine Bk h (λht309 h=>Jy R<|Js<|Jp<|Jl3 1 R<|Jf R (bX R R)<|Je3 R U57 R Z55<|Jg4 tv R (Jh4 (haE ((gb0.stp S306).lds 3 3 R)) I55 Z55 R)<|Ob h λ_ hx136 h=>Jw3 R call71 (vZ (J:=Mk K305) (p0:=p0.game) Gct Gct Gct hx136)<|Kb λ_ K318 _=>Tv<|Ob h λ_ hx137 h=>Jw3 R call66 (tQ (J:=Mk K318) hx137) ?_) (λht309 h=>Jx R<|Jf3 R<|Ju<|Jw<|Ja1<|Jw<|Jb2 (l:=[.tmp 4]) V35 (Jq2 R R) R<|Oh h<|⟨K305,R,Fct⟩)
 rintro _ _ ⟨_,rfl,e324⟩
 exact Im e324 6 R (λK325 _ _=>Tv<|Jb 1 R<|Ju<|Ja1<|Jw<|Jb2 (l:=[.tmp 4]) V35 (Jq2 R R) R<|Oh h<|⟨K325,R,Fct⟩)
 rintro _ _ ⟨_,rfl,e295⟩
 exact Im e295 2 R (λK296 _ _=>Tv<|Jb 1 R<|Ju<|Ja1<|Jw<|Jb2 (l:=[.tmp 4]) V35 (Jq2 R R) R<|Oh h<|⟨K296,R,Fct⟩)
 rintro _ _ ⟨_,rfl,e286⟩
 exact Im e286 2 R (λK287 _ _=>Tv<|Jb 1 R<|Ju<|Ja1<|Jw<|Jb2 (l:=[.tmp 4]) V35 (Jq2 R R) R<|Oh h<|⟨K287,R,Fct⟩)
 rintro _ _ ⟨_,au,ak,ab,aA,rfl,e219,f220,f221⟩
 exact Im e219 2 R (λK222 S223 m224=>⟨(S223.cl R),Xs 0 [29,32,35,37,40,44]<|Jn 3 R<|Jy3 K222 6 R X89 R λb10 _ K229 S230 f231=>⟨((S223.tr S230).cl R),Jm4 K229 6 R Z89 R f231 R λ_ S233 _=>⟨((T3 S223 S230 S233).cl R),Jn 1 R<|Xe<|Jo<|Jw1 _ ⟨(λb=>ren [(4,2),(5,3),(6,4)]<|K229 b),b10,au,ak,ab,aA,R,(Jz2 ((T4 S214 S223 S230 S233).wk R) [(4,2),(5,3),(6,4)] R),(((f220.mx (cF (bW _) _) m224 R (R:2+2=4)).stp Fct).map (ren [(4,2),(5,3),(6,4)]) R R),(((f221.mx (cF (bW _) _) m224 R (R:2+3=5)).stp Fct).map (ren [(4,2),(5,3),(6,4)]) R R),Fct⟩<|KM R⟩⟩⟩)
 rintro _ _ ⟨_,au,ak,ab,aA,rfl,e244,f245,f246⟩
 exact Im e244 3 R (λK247 S248 m249=>⟨((S239.tr S248).cl R),Jn 3 R<|Jm4 K247 2 R Z89 R Fct R λ_ S255 _=>⟨((T3 S239 S248 S255).cl R),Jn 1 R<|Xe<|Jo<|Jw1 _ ⟨(λb=>ren [(5,2),(6,3),(2,4)]<|K247 b),b10,au,ak,ab,aA,R,(Jz2 ((T4 S214 S239 S248 S255).wk R) [(5,2),(6,3),(2,4)] R),(((f245.mx (cF (bW _) _) m249 R (R:3+2=5)).stp S255).map (ren [(5,2),(6,3),(2,4)]) R R),(((f246.mx (cF (bW _) _) m249 R (R:3+3=6)).stp S255).map (ren [(5,2),(6,3),(2,4)]) R R),Fct⟩<|KM R⟩⟩)
 rintro _ _ ⟨K207,b10,aq,aa,af,az,rfl,S208,_,_,f212⟩
 refine Jp<|Jq<|Jf3 R ?_
 refine Bk h (λht259 h=>Jy R<|Js<|Jp<|Jq<|Xn K207 [0,4] [2,5,8,17,20,23,9,12,24,28,31,35] λ_ S261=>Jn 1 R<|Jf R (bX R R)<|Je3 R U57 R Z39<|Jn 1 R<|Jf R (bX R R)<|Je3 R U57 R Z27 (have f263:=gb0.stp (S208.tr S261);Jg R (Jh4 (haC (f263.lds 0 2 R) R) I39 Z39 R) (Jg R (Jh4 (haC (f212.stp S261).cells R) I89 Z89 R)<|Jg R (Jd2 I27 R R<|hvC (f263.ld 2 R R) R)<|Ob h λ_ hx114 h=>Jw3 R call67 (uL (J:=Mk K207) (p0:=p0.sig) (p1:=x100.1) Gct Gct Gct hx114)<|Kb λ_ K271 S272=>⟨(S272.cl R),Ob h λ_ hx115 h=>Jw3 R call66 (tQ (J:=Mk K271) hx115) ?_⟩))) (λht259 h=>Jx R<|Jf3 R<|Ju<|Jw<|Ja1<|Jw<|Jb2 (l:=[.tmp 4]) V35 (Jq2 R R) R<|Oh h<|⟨K207,R,Fct⟩)
 rintro _ _ ⟨_,rfl,e277⟩
 exact Im e277 7 R (λK278 S279 _=>⟨((S272.tr S279).cl R),Jn 1 R<|Jt1<|Jd<|Ju<|Ja1<|Jw<|Jb2 (l:=[.tmp 4]) V35 (Jq2 R R) R<|Oh h<|⟨K278,R,Fct⟩⟩)
 rintro _ _ ⟨_,ax,aw,ac,av,rfl,e122,f123,f124⟩
 exact Im e122 2 R (λK125 S126 m127=>⟨(S126.cl R),Xs 0 [29,32,35,37,40,44]<|Jn 3 R<|Jy3 K125 6 R X89 R λb7 _ K132 S133 f134=>⟨((S126.tr S133).cl R),Jm4 K132 6 R Z89 R f134 R λ_ S136 _=>⟨((T3 S126 S133 S136).cl R),Jn 1 R<|Xe<|Jo<|Jw1 _ ⟨(λb=>ren [(4,2),(5,3),(6,4)]<|K132 b),b7,ax,aw,ac,av,R,(Jz2 ((T4 S117 S126 S133 S136).wk R) [(4,2),(5,3),(6,4)] R),(((f123.mx (cF (bW _) _) m127 R (R:2+2=4)).stp Fct).map (ren [(4,2),(5,3),(6,4)]) R R),(((f124.mx (cF (bW _) _) m127 R (R:2+3=5)).stp Fct).map (ren [(4,2),(5,3),(6,4)]) R R),Fct⟩<|KM R⟩⟩⟩)
 rintro _ _ ⟨_,ax,aw,ac,av,rfl,e147,f148,f149⟩
 exact Im e147 3 R (λK150 S151 m152=>⟨((S142.tr S151).cl R),Jn 3 R<|Jm4 K150 2 R Z89 R Fct R λ_ S158 _=>⟨((T3 S142 S151 S158).cl R),Jn 1 R<|Xe<|Jo<|Jw1 _ ⟨(λb=>ren [(5,2),(6,3),(2,4)]<|K150 b),b7,ax,aw,ac,av,R,(Jz2 ((T4 S117 S142 S151 S158).wk R) [(5,2),(6,3),(2,4)] R),(((f148.mx (cF (bW _) _) m152 R (R:3+2=5)).stp S158).map (ren [(5,2),(6,3),(2,4)]) R R),(((f149.mx (cF (bW _) _) m152 R (R:3+3=6)).stp S158).map (ren [(5,2),(6,3),(2,4)]) R R),Fct⟩<|KM R⟩⟩)
 rintro _ _ ⟨K110,b7,ar,am,ap,an,rfl,S111,_,_,f115⟩
 refine Jp<|Jq<|Jf3 R ?_
 refine Bk h (λht162 h=>Jy R<|Js<|Jp<|Jq<|Xn K110 [0,4] [2,5,8,14,17,20,9,21,24,28,31,34,38] λ_ S164=>Jn 1 R<|Jf R (bX R R)<|Je3 R U57 R Z39<|Jn 1 R<|Jf R (bX R R)<|Je3 R U57 R Z39 (have f166:=gb0.stp (S111.tr S164);Jg R (Jh4 (haC (f166.lds 0 2 R) R) I39 Z39 R) (Jg R (Jh4 (haC (f166.lds 0 2 R) R) I39 Z39 R)<|Jg R (Jh4 (haC (f115.stp S164).cells R) I89 Z89 R)<|Ob h λx84 hx84 h=>Jw3 R call64 (wc (J:=Mk K110) (p0:=p0.sig) (p1:=x70.1) Gct Gct hx84) ?_))) (λht162 h=>Jx R<|Jf3 R<|Ju<|Jw<|Ja1<|Jw<|Jb2 (l:=[.tmp 4]) V35 (Jq2 R R) R<|Oh h<|⟨K110,R,Fct⟩)
 rintro _ _ ⟨_,aP,aJ,aO,aM,rfl,e172,f173,f174⟩
 refine Im e172 5 R (λK175 S176 m177=>⟨(S176.cl R),Ob h λ_ hx85 h=>Jw3 R call63 (ru (J:=Mk K175) (p0:=p0.sig) (p1:=x84) (Jn3 (f173.mx (cF (bW _) _) m177 R (R:5+2=7)).rdc) (Jn3 (f174.mx (cF (bW _) _) m177 R (R:5+3=8)).rdc) ((gGT.stp<|T3 S111 S164 S176).map (mp [] 0) R R) hx85) ?_⟩)
 rintro _ _ ⟨_,rfl,e184⟩
 refine Im e184 9 R (λK185 S186 _=>⟨((S176.tr S186).cl R),Ob h λ_ hx86 h=>Jw3 R call19 (jr (J:=Mk K185) hx86) ?_⟩)
 rintro _ _ ⟨_,rfl,e191⟩
 refine Im e191 11 R (λK192 S193 _=>⟨((T3 S176 S186 S193).cl R),Jn 1 R<|Jt1<|Jd<|Jl3 1 R<|Ob h λ_ hx88 h=>Jw3 R call65 (n8 (J:=Mk K192) ((gGM.stp<|T5 S111 S164 S176 S186 S193).map (mp [] 0) R R) hx88) ?_⟩)
 rintro _ _ ⟨_,rfl,e199⟩
 exact Im e199 13 R (λK200 _ _=>Tv<|Jb 1 R<|Ju<|Ja1<|Jw<|Jb2 (l:=[.tmp 4]) V35 (Jq2 R R) R<|Oh h<|⟨K200,R,Fct⟩)
 rintro _ _ ⟨_,ad,ay,aj,ai,rfl,e32,f33,f34⟩
 exact Im e32 2 R (λK35 S36 m37=>⟨(S36.cl R),Xs 0 [29,32,35,37,40,44]<|Jn 3 R<|Jy3 K35 6 R X60 R λb5 _ K42 S43 f44=>⟨((S36.tr S43).cl R),Jm4 K42 6 R Z60 R f44 R λ_ S46 _=>⟨((T3 S36 S43 S46).cl R),Jn 1 R<|Xe<|Jo<|Jw1 _ ⟨(λb=>ren [(4,2),(5,3),(6,4)]<|K42 b),b5,ad,ay,aj,ai,R,(Jz2 ((T4 S27 S36 S43 S46).wk R) [(4,2),(5,3),(6,4)] R),(((f33.mx (cF (bW _) _) m37 R (R:2+2=4)).stp Fct).map (ren [(4,2),(5,3),(6,4)]) R R),(((f34.mx Pair.no120 m37 R (R:2+3=5)).stp Fct).map (ren [(4,2),(5,3),(6,4)]) R R),Fct⟩<|KM R⟩⟩⟩)
 rintro _ _ ⟨_,ad,ay,aj,ai,rfl,e57,f58,f59⟩
 exact Im e57 3 R (λK60 S61 m62=>⟨((S52.tr S61).cl R),Jn 3 R<|Jm4 K60 2 R Z60 R Fct R λ_ S68 _=>⟨((T3 S52 S61 S68).cl R),Jn 1 R<|Xe<|Jo<|Jw1 _ ⟨(λb=>ren [(5,2),(6,3),(2,4)]<|K60 b),b5,ad,ay,aj,ai,R,(Jz2 ((T4 S27 S52 S61 S68).wk R) [(5,2),(6,3),(2,4)] R),(((f58.mx (cF (bW _) _) m62 R (R:3+2=5)).stp S68).map (ren [(5,2),(6,3),(2,4)]) R R),(((f59.mx Pair.no120 m62 R (R:3+3=6)).stp S68).map (ren [(5,2),(6,3),(2,4)]) R R),Fct⟩<|KM R⟩⟩)
 rintro _ _ ⟨K20,b5,ao,ah,al,ae,rfl,S21,_,f24,f25⟩
 refine Jp<|Jq<|Jf3 R ?_
 refine Bk h (λht72 h=>Jy R<|Js<|Jp<|Jq<|Xn K20 [0,4] [2,17,20,23,3,8,24,27,10,14,31,35,38,40,44,47] λ_ S74=>Je3 R U60 R Z51<|Jn 1 R<|Jf R (bX R R)<|Je3 R U57 R Z39 (have f76:=f25.stp S74;Jg R (Jd2 I51 R R<|hvC (f76.ld 0 R R) R) (Js3 R U51 R R<|Jg R (Jh4 (haC ((gb0.stp<|S21.tr S74).lds 0 2 R) R) I39 Z39 R)<|Jg R (Jh4 (haC f76.cells R) I60 Z60 R) (Ob h λ_ hx47 h=>have f78:=gGT.stp (S21.tr S74);Jw3 R call56 (gL (J:=Mk K20) (f78.map (mp [] 0) R R) hx47) ?_)))) (λht72 h=>Jx R<|Jf3 R<|Ju<|Jw<|Ja1<|Jw<|Jb2 (l:=[.tmp 4]) V35 (Jq2 R R) R<|Oh h<|⟨K20,R,Fct⟩)
 rintro _ _ ⟨_,rfl,e81⟩
 refine Im e81 5 R (λK82 S83 _=>⟨(S83.cl R),Ob h λ_ hx48 h=>Jf R (dg R R R hx48)<|Ob h λ_ hx54 h=>Jw3 R call61 (sB (J:=Mk K82) (p0:=p0.sig) (p1:=x39.1) Gct (Jn3 (f24.stp<|S74.tr S83).rdc) hx54) ?_⟩)
 rintro _ _ ⟨_,aL,aQ,aK,aN,rfl,e90,_,_⟩
 refine Im e90 7 R (λK93 S94 _=>⟨((S83.tr S94).cl R),Jf R (rS U60 R I51 R R R)<|Js3 R U51 R R<|Ob h λ_ hx57 h=>Jw3 R call56 (gL (J:=Mk K93) ((f78.stp<|S83.tr S94).map (mp [] 0) R R) hx57) ?_⟩)
 rintro _ _ ⟨_,rfl,e102⟩
 exact Im e102 11 R (λK103 S104 _=>⟨((T3 S83 S94 S104).cl R),Ob h λ_ hx58 h=>Jf R (dg R R R hx58)<|Jn 1 R<|Jt1<|Jd<|Ju<|Ja1<|Jw<|Jb2 (l:=[.tmp 4]) V35 (Jq2 R R) R<|Oh h<|⟨K103,R,Fct⟩⟩)
 refine Bk h (λht13 h=>Jy R<|Jf3 R ?_) (λht13 h=>Jx R<|Jf3 R<|Ju<|Ja1<|Jw<|Ja1<|Jw<|Jb2 (l:=[.tmp 4]) V35 (Jq2 R R) R<|Oh h<|⟨K9,R,Fct⟩)
 exact Bk h (λht15 h=>Jy R<|Js<|Jz<|Jp<|Jf3 R<|Ju<|Ja1<|Jw<|Jb2 (l:=[.tmp 4]) V35 (Jq2 R R) R<|Oh h<|⟨K9,R,Fct⟩) (λht15 h=>Jx R<|Jf3 R<|Ju<|Ja1<|Jw<|Ja1<|Jw<|Jb2 (l:=[.tmp 4]) V35 (Jq2 R R) R<|Oh h<|⟨K9,R,Fct⟩)
theorem tD {aa ab ad ah ac af ae ai} {p0 : bench} {p1 : ByteArray} {b0} (g0_1 : Oc Clause.ep32 32 J w 2 aa ab p0.clauses) (g0_2_0_0 : Rd Ri J w 0 ad ah p0.game.Arena.Owner) (g0_2_0_1 : Rd Rs J w 0 ac af p0.game.Arena.Next) (g0_2_1 : Rd Ri J w 0 ae ai p0.game.Prio) (gb0 : Bc J w 3 b0 57 [vi p0.sig.In, vi p0.sig.Out, .slice aa p0.clauses.length ab, .slice ad p0.game.Arena.Owner.length ah, .slice ac p0.game.Arena.Next.length af, .slice ae p0.game.Prio.length ai]) (gGE1 : Rd Rp.str J w 0 (some ⟨1, 0, none⟩) 7 lV) (gGM : Vm 2 J w) (gGT : Tb prog "internal/strconv.uint64pow10" .u64 Lib.pow10Tab J w) {r : ByteArray × Int × Int × VC} (h : eY p0 p1 = some r) : Ret prog 20 [.pointer (some ⟨b0, 0, none⟩), .string p1] w (fun v w' => ∃ κ' ma0 mu0, v = .string r.1 ∧ Ent J w κ' w' ∧ Oc Clause.ep32 32 κ' w' 2 ma0 mu0 r.2.2.2 ∧ Bc κ' w' 3 b0 57 [vi r.2.1, vi r.2.2.1, .slice ma0 r.2.2.2.length mu0, .slice ad p0.game.Arena.Owner.length ah, .slice ac p0.game.Arena.Next.length af, .slice ae p0.game.Prio.length ai]) := by
 refine Jp3 J func20 R ntmps20 R λhE=>Jf3 R<|Jl3 1 R<|Ob h λx13 hx13 h=>Jw3 R call18 (g7 (J:=Mk J) (gGM.map (mp [] 0) R R) hx13) ?_
 rintro _ _ ⟨_,al,am,rfl,e3,f4⟩
 refine Im e3 4 R (λK5 S6 m7=>Tv<|have f9:=f4.mx rM m7 R (R:4+2=6);Jb 1 R (Jl3 2 R<|Ob h λ_ hx16 h=>Jd3 R f9.rdc hx16 U33 Z9<|Jc3 R I9 (f9.rdc.gStr hx16)<|Ob h λ_ hx18 h=>Jf R (dg R R R hx18)<|Ob h λ_ hx19 h=>Jw3 R call32 (n9 (J:=Mk K5) hx19) ?_))
 rintro _ w10 ⟨_,rfl,e12⟩
 refine Im e12 7 R (λK13 S14 _=>Tv<|Jb 1 R<|Jq<|Jv<|Jl3 1 R<|Ob h λx22 hx22 h=>Jd3 R f9.rdc hx22 U33 Z9 (have f17:=f9.stp S14;Jc3 R I9 (f17.rdc.gStr hx22) (Jf R (cR R R R)<|Jn 1 R<|Ob h λp29 h hK18=>Jk4 [0,1,5,6] 29 p29 K13 w10 4 tv ?_ ?_)))
 exact Bk h (λht19 h=>Jn 4 R<|Oh h<|Jl4 tv R) (λht19 h=>Jn 1 R<|Js3 R U33 R R<|Jn 2 R<|Oh h<|Jl4 tv R)
 rintro _ w20 _ ⟨rfl,K21,S22⟩
 refine have h:=hK18;Jb 1 R ?_
 revert h
 cases ht23:p29
 refine JF λh=>Jy R<|Jl3 1 R<|Ob h λx35 hx35 h=>Jd3 R f17.rdc hx35 U33 Z9 (have f44:=f17.stp S22;Jc3 R I9 (f44.rdc.gStr hx35) (Jf R (cR R R R)<|Jn 1 R<|Ob h λp42 h hK45=>Jk4 [0,1,5,6] 42 p42 K21 w20 4 tv ?_ ?_))
 exact Bk h (λht46 h=>Jn 4 R<|Oh h<|Jl4 tv R) (λht46 h=>Jn 1 R<|Js3 R U33 R R<|Jn 2 R<|Oh h<|Jl4 tv R)
 rintro _ w47 _ ⟨rfl,K48,S49⟩
 refine have h:=hK45;Jb 1 R ?_
 refine Bk h (λht50 h=>Jy R<|Jl3 1 R<|Js3 R U33 R R<|Jb 2 R ?_) (λht50 h=>Jx R<|Jl3 2 R<|Ob h λ_ hx45 h=>Jw3 R call34 (qv (J:=Mk K48) (p0:=p0) (Jn3 (g0_1.stp<|T4 S6 S14 S22 S49).rdc) Gct Gct Gct Fct hx45) ?_)
 refine Bk h (λht66 h=>Jy R<|Jl3 1 R<|Js3 R U33 R R<|Jn 2 R<|Ob h λp62 h hK84=>Jk4 [0,5] 62 p62 K48 w47 5 tv ?_ ?_) (λht66 h=>Jx R<|Jl3 2 R (Ob h λ_ hx52 h=>have f67:=g0_1.stp (T4 S6 S14 S22 S49);have S007:=(T4 S6 S14 S22 S49);Jw3 R call35 (rB (J:=Mk K48) (p0:=p0) (Jn3 f67.rdc) Gct Gct Gct Fct ((gGM.stp S007).map (mp [] 0) R R) ((gGT.stp S007).map (mp [] 0) R R) hx52) ?_))
 exact Bk h (λht85 h=>Jn 2 R<|Je4 R<|Jn 2 R<|Oh h<|Jl4 tv R) (λht85 h=>Jn 1 R<|Ob h λ_ hx59 h=>Jd3 R f44.rdc hx59 U33 Z9<|Jc3 R I9 ((f44.stp S49).rdc.gStr hx59)<|Jf R (cR R R R)<|Jn 1 R<|Oh h<|Jl4 tv R)
 rintro _ w87 _ ⟨rfl,K88,S89⟩
 refine have h:=hK84;Jb 1 R ?_
 refine Bk h (λht90 h=>Jy R<|Jl3 1 R<|Js3 R U33 R R<|Jn 2 R<|Ob h λp77 h hK107=>Jk4 [0,5] 77 p77 K88 w87 5 tv ?_ ?_) (λht90 h=>Jx R<|Jl3 2 R<|Ob h λ_ hx65 h=>Jd3 R f44.rdc hx65 U33 Z9<|Jc3 R I9 ((f44.stp<|S49.tr S89).rdc.gStr hx65)<|Ob h λ_ hx67 h=>Jw3 R call36 (om (J:=Mk K88) (p0:=p0) (Jn3 (g0_1.stp<|T5 S6 S14 S22 S49 S89).rdc) Gct Gct Gct Fct hx67) ?_)
 exact Bk h (λht108 h=>Jn 2 R<|Je4 R<|Jn 2 R<|Oh h<|Jl4 tv R) (λht108 h=>Jn 1 R<|Ob h λ_ hx74 h=>Jd3 R f44.rdc hx74 U33 Z9<|Jc3 R I9 ((f44.stp<|S49.tr S89).rdc.gStr hx74)<|Jf R (cR R R R)<|Jn 1 R<|Oh h<|Jl4 tv R)
 rintro _ w110 _ ⟨rfl,K111,S112⟩
 refine have h:=hK107;Jb 1 R ?_
 refine Bk h (λht113 h=>Jy R<|Jl3 1 R<|Js3 R U33 R R<|Jn 2 R<|Ob h λp92 h hK130=>Jk4 [0,5] 92 p92 K111 w110 5 tv ?_ ?_) (λht113 h=>Jx R<|Jl3 2 R<|Ob h λ_ hx80 h=>Jd3 R f44.rdc hx80 U33 Z9<|Jc3 R I9 ((f44.stp<|T3 S49 S89 S112).rdc.gStr hx80)<|Ob h λ_ hx82 h=>Jw3 R call37 (pT (J:=Mk K111) (p0:=p0) (Jn3 (g0_1.stp<|T6 S6 S14 S22 S49 S89 S112).rdc) Gct Gct Gct Fct hx82) ?_)
 exact Bk h (λht131 h=>Jn 2 R<|Je4 R<|Jn 2 R<|Oh h<|Jl4 tv R) (λht131 h=>Jn 1 R<|Ob h λ_ hx89 h=>Jd3 R f44.rdc hx89 U33 Z9<|Jc3 R I9 ((f44.stp<|T3 S49 S89 S112).rdc.gStr hx89)<|Jf R (cR R R R)<|Jn 1 R<|Oh h<|Jl4 tv R)
 rintro _ w133 _ ⟨rfl,K134,S135⟩
 refine have h:=hK130;Jb 1 R ?_
 refine Bk h (λht136 h=>Jy R<|Jl3 1 R<|Js3 R U33 R R<|Jn 2 R<|Ob h λp137 h hK191=>Jk4 [0,5] 137 p137 K134 w133 5 tv ?_ ?_) (λht136 h=>Jx R<|Jl3 1 R<|Ob h λ_ hx95 h=>Jd3 R f44.rdc hx95 U33 Z9 (have f137:=f44.stp (T4 S49 S89 S112 S135);Jc3 R I9 (f137.rdc.gStr hx95) (Ob h λx97 hx97 h=>Jw3 R call38 (ke (J:=Mk K134) hx97) ?_)))
 exact Bk h (λht192 h=>Jn 2 R<|Je4 R<|Jn 2 R<|Oh h<|Jl4 tv R) (λht192 h=>Jn 1 R<|Ob h λ_ hx134 h=>Jd3 R f44.rdc hx134 U33 Z9<|Jc3 R I9 ((f44.stp<|T4 S49 S89 S112 S135).rdc.gStr hx134)<|Jf R (cR R R R)<|Jn 1 R<|Oh h<|Jl4 tv R)
 rintro _ w194 _ ⟨rfl,K195,S196⟩
 refine have h:=hK191;Jb 1 R ?_
 refine Bk h (λht197 h=>Jy R<|Jl3 1 R<|Js3 R U33 R R<|Jn 2 R<|Ob h λp155 h hK216=>Jk4 [0,5] 155 p155 K195 w194 5 tv ?_ ?_) (λht197 h=>Jx R<|Jq<|Xn K195 [0,6] [2,5,8,14,17,9,18,22,26] λ_ S198=>Jn 2 R<|Ob h λ_ hx140 h=>Jd3 R f44.rdc hx140 U33 Z9<|Jn 1 R<|Ob h λ_ hx143 h=>Jd3 R f44.rdc hx143 U33 Z9 (have f200:=f44.stp (T6 S49 S89 S112 S135 S196 S198);Jg R (Jd2 I9 R R<|hvC (f200.rdc.gStr hx140) R) (Jg R (Jd2 I9 R R<|hvC (f200.rdc.gStr hx143) R)<|Ob h λ_ hx145 h=>Jw3 R call40 (sG (J:=Mk K195) (p0:=p0) (Jn3 (g0_1.stp<|T9 S6 S14 S22 S49 S89 S112 S135 S196 S198).rdc) Gct Gct Gct Fct hx145) ?_)))
 exact Bk h (λht217 h=>Jn 2 R<|Je4 R<|Jn 2 R<|Oh h<|Jl4 tv R) (λht217 h=>Jn 1 R<|Ob h λ_ hx152 h=>Jd3 R f44.rdc hx152 U33 Z9<|Jc3 R I9 ((f44.stp<|T5 S49 S89 S112 S135 S196).rdc.gStr hx152)<|Jf R (cR R R R)<|Jn 1 R<|Oh h<|Jl4 tv R)
 rintro _ _ _ ⟨rfl,K220,S221⟩
 refine have h:=hK216;Jb 1 R ?_
 refine Bk h (λht222 h=>Jy R<|Js<|Jz<|Jp<|Jf3 R<|Ju<|Jb2 (l:=[.tmp 4]) V20 (Jq2 R R) R<|Oh h<|⟨K220,aa,ab,R,Fct,Fct,Fct⟩) (λht222 h=>Jx R<|Jq<|Xn K220 [0,6] [2,5,8,14,17,9,18,22,26] λ_ S223=>Jn 2 R<|Ob h λ_ hx158 h=>Jd3 R f44.rdc hx158 U33 Z9<|Jn 1 R<|Ob h λ_ hx161 h=>Jd3 R f44.rdc hx161 U33 Z9 (have f225:=f44.stp (T7 S49 S89 S112 S135 S196 S221 S223);Jg R (Jd2 I9 R R<|hvC (f225.rdc.gStr hx158) R) (Jg R (Jd2 I9 R R<|hvC (f225.rdc.gStr hx161) R)<|Ob h λ_ hx163 h=>Jw3 R call41 (rD (J:=Mk K220) (p0:=p0) (Jn3 (g0_1.stp<|T10 S6 S14 S22 S49 S89 S112 S135 S196 S221 S223).rdc) Gct Gct Gct Fct hx163) ?_)))
 rintro _ _ ⟨_,rfl,e233⟩
 exact Im e233 9 R (λK234 S235 _=>⟨(S235.cl R),Jn 1 R<|Jt1<|Jd<|Ju<|Ja1<|Jw<|Jb2 (l:=[.tmp 4]) V20 (Jq2 R R) R<|Oh h<|⟨K234,aa,ab,R,Fct,Fct,Fct⟩⟩)
 rintro _ _ ⟨_,rfl,e208⟩
 exact Im e208 9 R (λK209 S210 _=>⟨(S210.cl R),Jn 1 R<|Jt1<|Jd<|Ju<|Ja1<|Jw<|Jb2 (l:=[.tmp 4]) V20 (Jq2 R R) R<|Oh h<|⟨K209,aa,ab,R,Fct,Fct,Fct⟩⟩)
 rintro _ _ ⟨_,rfl,e140⟩
 refine Im e140 9 R (λK141 S142 _=>Tv<|Jb 5 R<|Jl3 1 R<|Ob h λ_ hx102 h=>Jd3 R f137.rdc hx102 U33 Z9<|Jc3 R I9 ((f137.stp S142).rdc.gStr hx102)<|Ob h λx104 hx104 h=>Jw3 R call38 (ke (J:=Mk K141) hx104) ?_)
 rintro _ _ ⟨_,rfl,e148⟩
 refine Im e148 11 R (λK149 _ _=>Tv<|Jb 5 R<|Jl3 2 R<|Jf R (Jn4 [vi x97.1,vi x104.1] R)<|Jy3 K149 13 R zeroValue39 R λ_ _ K154 _ f156=>Tv<|Jm4 K154 13 R Z39 R f156 R λw157 _ f159=>Tv<|Jd<|Jq<|Jl3 3 R<|Ob h λp115 h hK160=>Jk4 [0,11] 115 p115 K154 w157 3 tv ?_ ?_)
 exact Bk h (λht161 h=>Jn 3 R<|Oh h<|Jl4 tv R) (λht161 h=>Jn 3 R<|Oh h<|Jl4 tv R)
 rintro _ w162 _ ⟨rfl,K163,S164⟩
 refine Jn 1 R<|Ob hK160 λp120 h hK165=>Jk4 [0,11] 120 p120 K163 w162 4 tv ?_ ?_
 exact Bk h (λht166 h=>Jg4 tv R (Jh4 (haE (f159.stp S164).cells) I39 Z39 R)<|Ob h λ_ hx118 h=>Jw3 R call39 (ir (J:=Mk K163) (p0:=(⟨x97.1,x104.1⟩:Sig)) hx118)<|Kb λ_ _ _=>Tv<|Jn 2 R<|Oh h<|Jv1 _ tv ⟨R,_,Fct⟩<|KM R) (λht166 h=>Je4 R<|Je4 R<|Jn 2 R<|Oh h<|Jl4 tv R)
 rintro _ _ _ ⟨rfl,K176,S177⟩
 refine have h:=hK165;Jd ?_
 exact Bk h (λht178 h=>Jy R<|Js<|Jp<|Jl3 1 R<|Jg4 tv R (Jh4 (haE (f159.stp<|S164.tr S177).cells) I39 Z39 R)<|Jf R (bX R R)<|Je3 R U57 R Z39<|Jz3 K176 3 (off:=0) (vc:=[vi x97.1,vi x104.1]) (cs':=[vi x97.1,vi x104.1,.slice aa p0.clauses.length ab,.slice ad p0.game.Arena.Owner.length ah,.slice ac p0.game.Arena.Next.length af,.slice ae p0.game.Prio.length ai]) R Z39 R Fct R λ_ _ f186=>Tv<|Jd<|Jl3 1 R<|Jf R (bX R R)<|Je3 R U57 R Z27<|Jz3 K176 3 (off:=2) (vc:=[.slice none 0 0]) (cs':=[vi x97.1,vi x104.1,.slice none 0 0,.slice ad p0.game.Arena.Owner.length ah,.slice ac p0.game.Arena.Next.length af,.slice ae p0.game.Prio.length ai]) R Z27 R f186 R λ_ _ f189=>Tv<|Jd<|Jf3 R<|Ju<|Ja1<|Jw<|Jb2 (l:=[.tmp 4]) V20 (Jq2 R R) R<|Oh h<|⟨K176,none,0,R,Fct,FZ,f189⟩) (λht178 h=>Jx R<|Jf3 R<|Ju<|Jw<|Ja1<|Jw<|Jb2 (l:=[.tmp 4]) V20 (Jq2 R R) R<|Oh h<|⟨K176,aa,ab,R,Fct,Fct,Fct⟩)
 rintro _ _ ⟨_,rfl,e122⟩
 exact Im e122 9 R (λK123 _ _=>Tv<|Jb 1 R<|Ju<|Ja1<|Jw<|Jb2 (l:=[.tmp 4]) V20 (Jq2 R R) R<|Oh h<|⟨K123,aa,ab,R,Fct,Fct,Fct⟩)
 rintro _ _ ⟨_,rfl,e99⟩
 exact Im e99 9 R (λK100 _ _=>Tv<|Jb 1 R<|Ju<|Ja1<|Jw<|Jb2 (l:=[.tmp 4]) V20 (Jq2 R R) R<|Oh h<|⟨K100,aa,ab,R,Fct,Fct,Fct⟩)
 rintro _ _ ⟨_,rfl,e76⟩
 exact Im e76 9 R (λK77 _ _=>Tv<|Jb 1 R<|Ju<|Ja1<|Jw<|Jb2 (l:=[.tmp 4]) V20 (Jq2 R R) R<|Oh h<|⟨K77,aa,ab,R,Fct,Fct,Fct⟩)
 rintro _ _ ⟨_,rfl,e58⟩
 exact Im e58 9 R (λK59 _ _=>Tv<|Jb 1 R<|Ju<|Ja1<|Jw<|Jb2 (l:=[.tmp 4]) V20 (Jq2 R R) R<|Oh h<|⟨K59,aa,ab,R,Fct,Fct,Fct⟩)
 refine have S009:=(T3 S6 S14 S22);JT λh=>Jx R<|Jl3 2 R<|Ob h λ_ hx32 h=>Jw3 R call33 (qu (J:=λb=>mp [(2,2),(3,3)] 0<|K21 b) (p0:=p0) Fct (Jm2 Fct (mp [(2,2),(3,3)] 0) R R) (Jm2 Fct (mp [(2,2),(3,3)] 0) R R) (Jm2 Fct (mp [(2,2),(3,3)] 0) R R) Fct Fct ((gGM.stp S009).map (mp [(2,2),(3,3)] 0) R R) ((gGT.stp S009).map (mp [(2,2),(3,3)] 0) R R) hx32) ?_
 rintro _ _ ⟨_,ak,aj,rfl,e34,f35,f36⟩
 exact Im e34 9 R (λK37 _ m39=>Tv<|Jb 1 R<|Ju<|Ja1<|Jw<|Jb2 (l:=[.tmp 4]) V20 (Jq2 R R) R<|Oh h<|⟨(λb=>ren [(11,2),(12,3)]<|K37 b),ak,aj,R,Fct,((f35.mx Clause.no32 m39 R (R:9+2=11)).map (ren [(11,2),(12,3)]) R R),((f36.mx m39 R (R:9+3=12)).map (ren [(11,2),(12,3)]) R R)⟩)
theorem yV {p0 : ByteArray} (gGE1 : Rd Rp.str J w 0 (some ⟨1, 0, none⟩) 7 lV) (gGM : Vm 2 J w) (gGT : Tb prog "internal/strconv.uint64pow10" .u64 Lib.pow10Tab J w) {r : ByteArray} (h : sV p0 = some r) : Ret prog 9 [.string p0] w (fun v w' => ∃ κ', v = .string r ∧ Ent J w κ' w') := by
 refine Jp3 J func9 R ntmps9 R λhE=>Jf3 R<|Jl3 1 R<|Ob h λ_ hx9 h=>Jw3 R call19 (jr (J:=Mk J) hx9) ?_
 rintro _ _ ⟨_,rfl,e3⟩
 refine Im e3 2 R (λK4 S5 _=>Tv<|Ob h λx10 hx10 h=>have f8:=gGM.stp S5;Jw3 R call18 (g7 (J:=Mk K4) (f8.map (mp [] 0) R R) hx10) ?_)
 rintro _ w9 ⟨_,aj,ak,rfl,e11,f12⟩
 refine Im e11 4 R (λK13 S14 m15=>Tv<|have f17:=f12.mx rM m15 R (R:4+2=6);Jb 1 R (Jq<|Jl3 1 R<|Jf R (nr U9 R R)<|Jn 2 R<|Ob h λp18 h hK18=>Jk4 [3] 18 p18 K13 w9 4 tv ?_ ?_))
 exact Bk h (λht19 h=>Jn 1 R<|Js3 R U33 R R<|Jn 2 R<|Oh h<|Jl4 tv R) (λht19 h=>Jn 4 R<|Oh h<|Jl4 tv R)
 rintro _ _ _ ⟨rfl,K21,S22⟩
 refine have h:=hK18;Jd ?_
 refine Bk h (λht23 h=>Jy R<|Js<|Jp<|Jj3<|Jf R (Jn4 [vi 1,vi 1] R)<|Jf R (Jn4 [vi 1,vi 1,.slice none 0 0,.slice none 0 0,.slice none 0 0,.slice none 0 0] R)<|Jx3 K21 7 R λb21 w25 K26 S27 f28=>Tv<|Jb 1 R<|Jf3 R<|Jq<|Jl3 1 R<|Js3 R U33 R R<|Jb 1 R<|Ob h λq2 hq31 hK30=>Jx1 (λL w'=>∃κ',∃s3:ByteArray×Int×Int×VC,∃af ae,L=[(5,.string s3.1)]/\Stp [7,8,11,12] K26 w25 κ' w'/\Oc Clause.ep32 32 κ' w' 8 af ae s3.2.2.2/\Bc κ' w' 7 b21 57 [vi s3.2.1,vi s3.2.2.1,.slice af s3.2.2.2.length ae,.slice none 0 0,.slice none 0 0,.slice none 0 0]/\q2=FX s3) (Jv<|Ju3 [4,22,23] (λk E L w'=>∃κ' v24,∃s1:ByteArray×Int×Int×VC,∃aa ab,L=(5,.string s1.1)::(24,vi v24)::E/\Stp [7,8,11,12] K26 w25 κ' w'/\Oc Clause.ep32 32 κ' w' 8 aa ab s1.2.2.2/\Bc κ' w' 7 b21 57 [vi s1.2.1,vi s1.2.2.1,.slice aa s1.2.2.2.length ab,.slice none 0 0,.slice none 0 0,.slice none 0 0]/\0<=v24/\FV ((x10.length:Int)-v24)=k/\cntM (iq x10) k v24 s1=some q2) ⟨_,_,⟨K26,0,(((ByteArray.mk #[]):ByteArray),(1:Int),(1:Int),([]:VC)),none,0,R,Jo3,FZ,f28,(by decide),(by simp),hq31⟩,(KM R)⟩ ?_) ?_) (λht23 h=>Jx R<|Jf3 R<|Ju<|Jw<|Jb2 (l:=[.tmp 2]) results9 (Jq2 R R) R<|Oh h<|⟨K21,R,Fct⟩)
 rintro k _ w37 ⟨K38,v24,s1,aa,ab,rfl,S39,f40,f41,hj29,hJ29,h⟩
 rcases k with _|k
 exact Jf3 R<|Jq<|Jx2 R (dcf hJ29)<|Jc1<|Jt<|Jt<|Jb1<|Oh h<|Jw1 _ ⟨K38,(s1.1,s1.2.1,s1.2.2.1,s1.2.2.2),aa,ab,R,Fct,f40,f41,R⟩<|KM R
 refine Ob h λo29 h hk42=>Jf3 R<|Jq<|Jw2 R (dct hJ29)<|Js<|Jp<|Jq<|Jv<|Jj3<|Ob h λx26 hx26 h=>Jd3 R f17.rdc hx26 U33 Z9<|Jc3 R I9 ((f17.stp<|T3 S22 S27 S39).rdc.gStr hx26)<|Jb 1 R<|Jl3 1 R<|Jf R (qQ R R R)<|Jd<|Ob h λq4 h hK44=>Jt3 [4,22,23,24] (λE L w'=>∃κ' ad ac,L=(5,.string q4.1)::E/\Stp [7,8,11,12] K38 w37 κ' w'/\Oc Clause.ep32 32 κ' w' 8 ad ac q4.2.2.2/\Bc κ' w' 7 b21 57 [vi q4.2.1,vi q4.2.2.1,.slice ad q4.2.2.2.length ac,.slice none 0 0,.slice none 0 0,.slice none 0 0]) ?_ ?_
 refine Bk h (λht50 h=>Jy R<|Js<|Oh h<|Jw1 _ ⟨K38,aa,ab,R,Jo3,f40,f41⟩<|KM R) (λht50 h=>Jx R<|Jm3 3 R<|Ob h λ_ hx33 h=>Jw3 R call20 (tD (J:=λb=>mp [(8,2),(7,3)] 0<|K38 b) (p0:=(⟨(⟨s1.2.1,s1.2.2.1⟩:Sig),s1.2.2.2,(⟨(⟨([]:VI),([]:VV)⟩:Arena),([]:VI)⟩:Parity)⟩:bench)) Fct Sl.nil Sl.nil Sl.nil Fct Fct ((f8.stp<|T4 S14 S22 S27 S39).map (mp [(8,2),(7,3)] 0) R R) ((gGT.stp ((T5 S5 S14 S22 S27 S39))).map (mp [(8,2),(7,3)] 0) R R) hx33) ?_)
 rintro _ _ ⟨_,ai,ah,rfl,e56,f57,f58⟩
 exact Im e56 9 R (λK59 _ m61=>Tv<|Ob h λ_ hx34 h=>Jf R (dg R R R hx34)<|Ob h λ_ hx35 h=>Jf R (dg R R R hx35)<|Jc 1 R<|Oh h<|Jw1 _ ⟨(λb=>ren [(11,8),(12,7)]<|K59 b),ai,ah,R,Fct,((f57.mx Clause.no32 m61 R (R:9+2=11)).map (ren [(11,8),(12,7)]) R R),((f58.mx m61 R (R:9+3=12)).map (ren [(11,8),(12,7)]) R R)⟩<|KM R)
 rintro _ _ ⟨K46,ad,ac,rfl,_,f48,f49⟩
 exact have h:=hK44;Jz (Jp<|Jg3 R<|wr2 hj29 hJ29 f17.len_le ▸ (Ou h hk42 (λhk42=>Ja2 ⟨K46,v24+1,(q4.1,q4.2.1,q4.2.2.1,q4.2.2.2),ad,ac,R,Fct,f48,f49,nxz hj29,nxm hJ29,hk42⟩ R)))
 rintro _ _ ⟨K33,s3,af,ae,rfl,_,_,_,rfl⟩
 exact have h:=yI hK30;Jp (Jf3 R<|Ju<|Jb2 (l:=[.tmp 2]) results9 (Jq2 R R) R<|Oh h<|⟨K33,R,Fct⟩)
theorem uq {p0:Sig}{av aS}{p1:VC}(bF:Rd Clause.rp J w 0 av aS p1){r:Det×Bool}(h:cU p0 p1=some r):Ret prog 21 [.agg #[vi p0.In,vi p0.Out],.slice av p1.length aS] w (λbQ a=>∃b aO aQ aP aR,bQ= .tuple #[.agg #[.slice aO r.1.Next.length aQ,.slice aP r.1.Pairs.length aR],.bool r.2]/\Ent J w b a/\Oc (FU E6 2) 30 b a 2 aO aQ r.1.Next/\Oc Pair.ep120 120 b a 3 aP aR r.1.Pairs):=by
 refine Jp3 J func21 R ntmps21 R λb0=>Jj3<|Jx3 J 2 R λ_ _ aY a5 bu=>Tv<|Jy3 aY 3 R X60 R λ_ _ a2 au _=>Tv<|Jb 1 R<|Jq<|Jj3 (have aD:=bu.stp au;Jg4 tv R (Jh4 (haE aD.cells) I39 Z39 R) (Jn 1 R (Ob h λb4 bN h=>have ac:=bF.stp (a5.tr au);Jw3 R call42 (uk (J:=Mk a2) (p0:=p0) Gct bN) (Kb λ_ X am=>Tv<|Jb 1 R ?_))))
 refine Bk h (λbL h=>Jy R<|Js<|Jp<|Jj3 (have az:=aD.stp am;Jg4 tv R (Jh4 (haE az.cells) I39 Z39 R) (Ob h λ_ bO h=>Jw3 R call26 (gv (J:=Mk X) (p0:=p0) bO)<|Ki λ_ aZ an=>Tv<|Ob h λW bP h=>Jl1 (J:=aZ) (E:=E6) (z:=(0:Int)) 8 R R R R R R R Y30 bS R R R R R (λ_ _ _=>R) (Jv2 bP) λbb bc _ a0 ao bt=>Tv<|Jb4 a0 (FU E6 2) 9 [8] (parts:=[(0,.tmp 17)]) (cells:=[.slice bb W.length bc]) (xs:=([W]:VV)) R Y51 bY R (Jj4 ⟨_,_,R,bt⟩) λax aw _ a1 ap _=>Tv<|Jf R (Jn4 [.slice ax ([W]:VV).length aw,.slice none 0 0] R)<|Jy3 a1 10 R X60 R λay _ B aq bv=>Tv<|Jm4 B 10 R Z60 R bv R λaT ar bw=>Tv<|Jd<|Jq<|Jf3 R<|Ob h λaN bI aF=>Jt3 [4,6] (λk q a=>∃b,∃o:VV×VP,∃S G N I,q=k/\Stp [10,12,13,16,18,19,20] B aT b a/\Oc (FU E6 2) 30 b a 9 S G o.1/\Oc Pair.ep120 120 b a 11 N I o.2/\Bc b a 10 ay 60 [.slice S o.1.length G,.slice N o.2.length I]/\aN=FX o) (Jv<|Ju3 [1,2,4,6] (λA k q a=>∃b i,∃c:VV×VP,∃H K O T,q=(7,vi i)::k/\Stp [10,12,13,16,18,19,20] B aT b a/\Oc (FU E6 2) 30 b a 9 H K c.1/\Oc Pair.ep120 120 b a 11 O T c.2/\Bc b a 10 ay 60 [.slice H c.1.length K,.slice O c.2.length T]/\0<=i/\FV ((p1.length:Int)-i)=A/\cntM (gw p0 p1) A i c=some aN) ⟨_,_,⟨B,0,((([W]:VV):VV),([]:VP)),ax,aw,none,0,R,Jo3,Fct,FZ,bw,(by decide),(by simp),bI⟩,(KM R)⟩ ?_) ?_))) (λbL h=>Jx R<|Jj3<|Jf R (Jn4 [.slice none 0 0,.slice none 0 0] R)<|Jm4 X 3 R Z60 R Fct R λ_ _ bs=>Tv<|Jb 1 R<|Ju<|Jw<|Jb2 (l:=[.cell 4 60,.tmp 5]) results21 (cc R bs I60 Z60 R<|Jq2 R R) R<|Oh h<|⟨X,none,0,none,0,R,Fct,FZ,FZ⟩)
 rintro A _ bR ⟨p,i,c,H,K,O,T,rfl,ab,bz,U,aA,bG,aE,h⟩
 rcases A with _|A
 exact Jq<|Jl3 2 R<|Js3 R U27 R R<|Jb 1 R<|Jx2 R (dcf aE)<|Jc1<|Jt<|Jt<|Jb1<|Oh h<|Jw1 _ ⟨p,(c.1,c.2),H,K,O,T,R,Fct,bz,U,aA,R⟩<|KM R
 refine Ob h λb1 h n=>have V:=dct aE;Jq (Jl3 2 R<|Js3 R U27 R R<|Jb 1 R<|Jw2 R V<|Js<|Jp<|Jq<|Jv<|Jq<|Ob h λaU aG h=>Ob h λae aH h=>Ob h λj ad h=>Jt3 [1,2,4,6,7] (λk q a=>∃b g M P L Q,q=(8,.pointer (some ⟨g,0,none⟩))::(9,.bool j.2)::k/\Stp [12,16,18,19,20] p bR b a/\Oc (FU E6 2) 30 b a 12 M P j.1.Next/\Oc Pair.ep120 120 b a 13 L Q j.1.Pairs/\Bc b a 14 g 60 [.slice M j.1.Next.length P,.slice L j.1.Pairs.length Q]) (WC.rxt (J:=p) [0,2,10] none (by kernel_rfl) λ_ e=>Jq1 (fuel:=8) [(3,2),(4,2),(5,2),(0,0),(1,0),(2,0),(6,0)] (by kernel_rfl) (by kernel_rfl) R<|Jn 2 R<|Jd3 R ac aG U27 Z32 (have aB:=az.stp (T7 an ao ap aq ar ab e);Jg R (Jh4 (haC aB.cells R) I39 Z39 R) (Jg R (Jh4 (haC (aA.stp e).cells R) I60 Z60 R)<|Jg R (Jh4 (haC aB.cells R) I39 Z39 R) ?_))) ?_)
 obtain⟨_,bJ,bH⟩:=((ac.stp (T8 am an ao ap aq ar ab e))).gSt aG
 obtain⟨bT,b2,bU,b3,rfl,bX,bZ⟩:=Clause.un bJ
 refine Jg R (Jh4 (haC bH R) I32 Z32 R)<|Jp1<|WA.fork2 (fuel:=7) 7 12 (by kernel_rfl) R (Jw3 R call44 (oF (J:=Mk p) (p0:=p0) (p1:=aU) Gct Gct aH) ?_)<|Jy3 p 12 R X60 R λg _ aW s bl=>⟨(s.cl R),Xs 0 [22,25,29,32,35,40,44]<|Jw3 R call44 (oF (J:=Mk aW) (p0:=p0) (p1:=aU) Gct Gct aH) ?_⟩
 rintro _ _ ⟨_,ba,a8,a7,a9,rfl,bg,bB,bC⟩
 refine Im bg 12 R (λaj d aL=>⟨(d.cl R),have bV:=bB.mx (cF (bW _) _) aL R (R:12+2=14);have aC:=bC.mx Pair.no120 aL R (R:12+3=15);Jp1 (WA.fork2 (fuel:=6) 8 12 (by kernel_rfl) R (Jw3 R call43 (ll (J:=Mk aj) (p0:=p0) (p1:=(⟨c.1,c.2⟩:Det)) (p2:=ae) Gct (Jn3 (U.stp<|e.tr d).rdc) Gct (Jn3 aC.rdc) ad) ?_)<|Jy3 aj 16 R X60 R λg _ aV m _=>⟨((d.tr m).cl R),Xs 0 [25,29,32,35,40,44]<|Jw3 R call43 (ll (J:=Mk aV) (p0:=p0) (p1:=(⟨c.1,c.2⟩:Det)) (p2:=ae) Gct (Jn3 (U.stp<|T3 e d m).rdc) Gct (Jn3 (aC.stp m).rdc) ad) ?_⟩)⟩)
 rintro _ _ ⟨_,x,u,y,v,rfl,bh,bD,bE⟩
 exact Im bh 16 R (λa3 F aM=>⟨((d.tr F).cl R),Xs 0 [29,32,35,37,40,44]<|Jn 3 R<|Jy3 a3 20 R X60 R λg _ af Y bi=>⟨((T3 d F Y).cl R),Jm4 af 20 R Z60 R bi R λ_ al _=>⟨((T4 d F Y al).cl R),Jn 1 R<|Xe<|Jo<|Jw1 _ ⟨(λf=>ren [(18,12),(19,13),(20,14)]<|af f),g,x,u,y,v,R,(Jz2 ((T5 e d F Y al).wk R) [(18,12),(19,13),(20,14)] R),(((bD.mx (cF (bW _) _) aM R (R:16+2=18)).stp Fct).map (ren [(18,12),(19,13),(20,14)]) R R),(((bE.mx Pair.no120 aM R (R:16+3=19)).stp Fct).map (ren [(18,12),(19,13),(20,14)]) R R),Fct⟩<|KM R⟩⟩⟩)
 rintro _ _ ⟨_,x,u,y,v,rfl,bd,bj,bk⟩
 exact Im bd 17 R (λag Z aI=>⟨((T3 d m Z).cl R),Jn 3 R<|Jm4 ag 16 R Z60 R Fct R λ_ D _=>⟨((T4 d m Z D).cl R),Jn 1 R<|Xe<|Jo<|Jw1 _ ⟨(λf=>ren [(19,12),(20,13),(16,14)]<|ag f),g,x,u,y,v,R,(Jz2 ((T5 e d m Z D).wk R) [(19,12),(20,13),(16,14)] R),(((bj.mx (cF (bW _) _) aI R (R:17+2=19)).stp D).map (ren [(19,12),(20,13),(16,14)]) R R),(((bk.mx Pair.no120 aI R (R:17+3=20)).stp D).map (ren [(19,12),(20,13),(16,14)]) R R),Fct⟩<|KM R⟩⟩)
 rintro _ _ ⟨_,ba,a8,a7,a9,rfl,be,bm,bn⟩
 refine Im be 13 R (λaX t aJ=>⟨((s.tr t).cl R),Jw3 R call43 (ll (J:=Mk aX) (p0:=p0) (p1:=(⟨c.1,c.2⟩:Det)) (p2:=ae) Gct (Jn3 (U.stp<|T3 e s t).rdc) (Jn3 (bm.mx (cF (bW _) _) aJ R (R:13+2=15)).rdc) (Jn3 (bn.mx Pair.no120 aJ R (R:13+3=16)).rdc) ad) ?_⟩)
 rintro _ _ ⟨_,x,u,y,v,rfl,bf,bo,bp⟩
 exact Im bf 17 R (λah aa aK=>have ak:=(T3 s t aa);⟨(ak.cl R),Jn 3 R<|Jm4 ah 12 R Z60 R (bl.stp<|t.tr aa) R λ_ E _=>⟨((ak.tr E).cl R),Jn 1 R<|Xe<|Jo<|Jw1 _ ⟨(λf=>ren [(19,12),(20,13),(12,14)]<|ah f),g,x,u,y,v,R,(Jz2 ((T5 e s t aa E).wk R) [(19,12),(20,13),(12,14)] R),(((bo.mx (cF (bW _) _) aK R (R:17+2=19)).stp E).map (ren [(19,12),(20,13),(12,14)]) R R),(((bp.mx Pair.no120 aK R (R:17+3=20)).stp E).map (ren [(19,12),(20,13),(12,14)]) R R),Fct⟩<|KM R⟩⟩)
 rintro _ _ ⟨C,g,M,P,L,Q,rfl,a6,_,_,bA⟩
 refine Jp<|Jq<|Jf3 R ?_
 refine Bk h (λbK h=>Jy R<|Js<|Jp<|Jk3<|Jg4 tv R (Jh4 (haE bA.cells) I60 Z60 R)<|Jm4 C 10 R Z60 R Fct R λ_ a4 _=>Tv<|Jo<|Jz<|Jp<|Jg3 R ?_) (λbK h=>Jx R<|Jj3<|Jf R (Jn4 [.slice none 0 0,.slice none 0 0] R)<|Jm4 C 3 R Z60 R Fct R λ_ _ bq=>Tv<|Jb 1 R<|Ju<|Jw<|Ja1<|Jw<|Jw<|Ou h n (λn=>Ov n aF (λh=>Ja1<|Jr2<|Jw<|Jb2 (l:=[.cell 4 60,.tmp 5]) results21 (cc R bq I60 Z60 R<|Jq2 R R) R<|Oh h<|⟨C,none,0,none,0,R,Fct,FZ,FZ⟩)))
 have bM:FW .i64 (i+1)=i+1:=wr1 bG (Jn2 V) ac.len_le
 rw[bM]
 exact have V:=Jn2 V;Ou h n (λn=>Ja2 ⟨(λf=>ren [(12,9),(13,11)]<|C f),i+1,(j.1.Next,j.1.Pairs),M,P,L,Q,R,(Jz2 ((T3 ab a6 a4).wk R) [(12,9),(13,11)] R),Fct,Fct,Fct,by omega,by omega,n⟩ R)
 rintro _ _ ⟨ai,o,S,G,N,I,rfl,_,_,_,bx,rfl⟩
 exact have h:=yI aF;Jp (Jj3<|Jg4 tv R (Jh4 (haE bx.cells) I60 Z60 R)<|Jm4 ai 3 R Z60 R Fct R λ_ _ br=>Tv<|Jb 1 R<|Ju<|Jb2 (l:=[.cell 4 60,.tmp 5]) results21 (cc R br I60 Z60 R<|Jq2 R R) R<|Oh h<|⟨(λf=>ren [(9,2),(11,3)]<|ai f),S,G,N,I,R,Fct,Fct,Fct⟩)
theorem yq {p0:Sig}{o m n p}{p1:Det}{p2:Int}(aN:Rd Rs J w 0 o m p1.Next) (aO:Rd Pair.rp J w 0 n p p1.Pairs){r:Int}(h:oK p0 p1 p2=some r):Ret prog 46 [.agg #[vi p0.In,vi p0.Out],.agg #[.slice o p1.Next.length m,.slice n p1.Pairs.length p],vi p2] w (Pvi J w r):=by
 refine Jp3 J func46 R ntmps46 R λaP=>Jj3<|Jx3 J 2 R λ_ _ x _ S=>Tv<|Jx3 x 3 R λ_ _ C G Y=>Tv<|Jb 1 R<|Jj3<|Jg4 tv R (Jh4 (haE (S.stp G).cells) I39 Z39 R)<|Jg4 tv R (Jh4 (haE Y.cells) I60 Z60 R)<|Ob h λaj ac h=>Jw3 R call91 (ul (J:=λe=>mp [] 1<|C e) (p0:=p0) (p1:=p1) (Jm2 Fct (mp [] 1) R R) (Jm2 Fct (mp [] 1) R R) ac) ?_
 rintro _ _ ⟨_,ao,aA,aD,ay,aE,aB,rfl,I,M,N,O⟩
 refine Im0 I 4 R (λv _ f ak=>Tv<|Jn 4 R<|Jy3 v 9 R X53 R λ_ _ j _ P=>Tv<|Jm4 j 9 R Z53 R P R λi _ Q=>Tv<|Jb 2 R<|Jj3<|Jg4 tv R (Jh4 (haE Q.cells) I53 Z53 R)<|Jn 2 R ?_)
 obtain⟨y,_,al⟩:=eD j i 6
 obtain⟨z,_,am⟩:=eD y i 7
 obtain⟨A,F,an⟩:=eD z i 8
 refine Ob h λs ad h=>Jw3 R call92 (uW (J:=λe=>mp [] 1<|A e) (p0:=aj.1) (Jm2 ((Sl.st al ((M.mx (bW _) f R (R:4+2=6)).stp Fct).rdc).stp Fct) (mp [] 1) R R) (Jm2 ((Sl.st am ((N.mxz ak f R (R:4+3=7)).stp Fct).rdc).stp F) (mp [] 1) R R) (Jm2 (Sl.st an ((O.mx Pair.no120 f R (R:4+4=8)).stp Fct).rdc) (mp [] 1) R R) ad) ?_
 rintro _ _ ⟨_,aJ,av,aI,ax,aw,aG,ar,aq,rfl,K,T,U,V,_⟩
 refine Im0 K 10 R (λB _ g _=>Tv<|Jn 4 R<|Jy3 B 16 R X55 R λ_ _ a c W=>Tv<|Jm4 a 16 R Z55 R W R λ_ d X=>Tv<|Jb 2 R<|Jq<|Jf3 R ?_)
 refine Bk h (λab h=>Jy R<|Js<|Jp<|Jq (Xn a [16] [0,3,7,10,14,17,20,23,26] λ_ b=>have q:=X.stp b;Jg R (Jh4 (haC q.cells R) I55 Z55 R) (Jg R (Jh4 (haC q.cells R) I55 Z55 R) (Ob h λ_ ae h=>have aK:=(T.mx (bW _) g R (R:10+2=12)).stp (T3 c d b);have aL:=(U.mx (cF (bW _) _) g R (R:10+3=13)).stp (T3 c d b);have aM:=(V.mx (bW _) g R (R:10+4=14)).stp (T3 c d b);Jw3 R call94 (zw (J:=Mk a) (p0:=s.1) Gct Gct Gct ae) (Ks 19 (bW _) λaF aC _ D k Z=>⟨(k.cl R),Ob h λ_ af h=>Jw3 R call93 (zq (J:=Mk D) (p0:=s.1) Gct Gct Gct (Jn3 Z.rdc) af) ?_⟩))))) (λab h=>Jx R<|Jf3 R<|Ju<|Jw<|Jb2 (l:=[.tmp 6]) results46 (Jq2 R R) R<|Oh h<|⟨a,R,Fct⟩)
 rintro _ _ ⟨_,az,au,aH,ap,rfl,L,aa,_⟩
 exact Im L 20 R (λE H ai=>⟨((k.tr H).cl R),Jn 5 R<|Jt1<|Jd<|Jl3 1 R<|Ob h λ_ ag h=>Jw3 R call96 (lu (J:=Mk E) (Jn3 (aa.mx (bW _) ai R (R:20+2=22)).rdc) ag)<|Kb λ_ t _=>Tv<|Ob h λ_ ah h=>Jw3 R call95 (oJ (J:=Mk t) ah)<|Ki λ_ u _=>Tv<|Jb 2 R<|Ju<|Jb2 (l:=[.tmp 6]) results46 (Jq2 R R) R<|Oh h<|⟨u,R,Fct⟩⟩)
theorem sP {p0:Sig}{f c e d}{p1:Det}(t:Rd Rs J w 0 f c p1.Next) (u:Rd Pair.rp J w 0 e d p1.Pairs){r:Int}(h:ny p0 p1=some r):Ret prog 22 [.agg #[vi p0.In,vi p0.Out],.agg #[.slice f p1.Next.length c,.slice e p1.Pairs.length d]] w (Pvi J w r):=by
 refine Jp3 J func22 R ntmps22 R λv=>Jj3<|Jx3 J 2 R λ_ _ j _ o=>Tv<|Jx3 j 3 R λ_ _ m n g=>Tv<|Jb 1 R<|Jq<|Jj3 (have i:=o.stp n;Jg4 tv R (Jh4 (haE i.cells) I39 Z39 R) (Jg4 tv R (Jh4 (haE g.cells) I60 Z60 R)<|Ob h λx s h=>Jw3 R call45 (nC (J:=Mk m) (p0:=p0) (p1:=p1) Gct Gct s)<|Kb λ_ a b=>Tv<|Jb 1 R ?_))
 exact Bk h (λp h=>Jy R<|Js<|Jp<|Jj3<|Jg4 tv R (Jh4 (haE (i.stp b).cells) I39 Z39 R)<|Jg4 tv R (Jh4 (haE (g.stp b).cells) I60 Z60 R)<|Ob h λ_ q h=>Jw3 R call46 (yq (J:=Mk a) (p0:=p0) (p1:=p1) Gct Gct q)<|Ki λ_ k _=>Tv<|Jb 1 R<|Ju<|Jb2 (l:=[.tmp 4]) results22 (Jq2 R R) R<|Oh h<|⟨k,R,Fct⟩) (λp h=>Jx R<|Jf3 R<|Ju<|Jw<|Jb2 (l:=[.tmp 4]) results22 (Jq2 R R) R<|Oh h<|⟨a,R,Fct⟩)
theorem rX {p0:Sig}{d g}{p1:VC}(F:Rd Clause.rp J w 0 d g p1){r:Bool}(h:d7 p0 p1=some r):Ret prog 11 [.agg #[vi p0.In,vi p0.Out],.slice d p1.length g] w (Pvb J w r):=by
 refine Jp3 J func11 R ntmps11 R λG=>Jj3<|Jx3 J 2 R λ_ _ j _ e=>Tv<|Jb 1 R<|Jj3<|Jg4 tv R (Jh4 (haE e.cells) I39 Z39 R)<|Jn 1 R<|Ob h λA v h=>Jw3 R call21 (uq (J:=Mk j) (p0:=p0) Gct v) ?_
 rintro _ _ ⟨_,B,C,E,D,rfl,n,s,o⟩
 refine Im n 3 R (λi m f=>Tv<|Jn 3 R<|Jy3 i 7 R X60 R λ_ _ a b p=>Tv<|Jm4 a 7 R Z60 R p R λz c q=>Tv<|Jb 1 R<|Jl3 2 R<|Ob h λy h t=>Jk4 [4] 19 y a z 5 tv ?_ ?_)
 exact Bk h (λu h=>Je4 R<|Je4 R<|Je4 R<|Jn 2 R<|Oh h<|Jl4 tv R) (λu h=>Jg4 tv R (Jh4 (haE (e.stp<|T3 m b c).cells) I39 Z39 R)<|Jg4 tv R (Jh4 (haE q.cells) I60 Z60 R)<|Ob h λ_ x h=>Jw3 R call22 (sP (J:=Mk a) (p0:=p0) (p1:=A.1) (Jn3 ((s.mx (cF (bW _) _) f R (R:3+2=5)).stp (b.tr c)).rdc) (Jn3 ((o.mx Pair.no120 f R (R:3+3=6)).stp (b.tr c)).rdc) x)<|Ki λ_ _ _=>Tv<|Jn 2 R<|Oh h<|Jv1 _ tv ⟨R,_,Fct⟩<|KM R)
 rintro _ _ _ ⟨rfl,k,_⟩
 exact have h:=t;Jb 1 R (Ju<|Jb2 (l:=[.tmp 4]) results11 (Jq2 R R) R<|Oh h<|⟨k,R,Fct⟩)
theorem pY {a0 u0} {p0 : VI} (g0 : Rd (Rp.int .u8) J w 0 a0 u0 p0) (gGE1 : Rd Rp.str J w 0 (some ⟨1, 0, none⟩) 7 lV) (gGM : Vm 2 J w) (gGT : Tb prog "internal/strconv.uint64pow10" .u64 Lib.pow10Tab J w) {r : Bool} (h : kg p0 = some r) : Ret prog 3 [.slice a0 p0.length u0] w (Pvb J w r) := by
 refine Jp3 J func3 R ntmps3 R λhE=>Jf3 R<|Jq<|Jl3 1 R<|Ob h λx10 hx10 h=>Jw3 R call4 (BB (J:=Mk J) Gct hx10)<|Kb λ_ K4 S5=>Tv<|Jd ?_
 refine Bk h (λht8 h=>Jy R<|Js<|Jp<|Jl3 1 R<|Ob h λx12 hx12 h=>Jw3 R call5 (AL (J:=λb=>mp [] 1<|K4 b) (Jm2 Fct (mp [] 1) R R) hx12) ?_) (λht8 h=>Jx R<|Jf3 R<|Ju<|Jw<|Jb2 (l:=[.tmp 2]) results3 (Jq2 R R) R<|Oh h<|⟨K4,R,Fct⟩)
 rintro _ _ ⟨_,ae,ac,_,rfl,e13,f14,f15⟩
 refine Im0 e13 4 R (λK16 S17 m18 z19=>Tv<|Jb 1 R<|Jl3 1 R<|Ob h λx14 hx14 h=>Jw3 R call6 (tS (J:=λb=>mp [(7,2)] 0<|K16 b) (p0:=x12) (Jm2 (f14.mx z19) (mp [(7,2)] 0) R R) ((f15.mx m18 R (R:4+3=7)).map (mp [(7,2)] 0) R R) hx14) ?_)
 rintro _ w22 ⟨_,af,ad,rfl,e24,f25,_⟩
 refine Im e24 8 R (λK27 S28 m29=>Tv<|have f31:=f25.mx Clause.no32 m29 R (R:8+3=11);Jb 1 R (Jf3 R<|Jq<|Jf3 R<|Ob h λq2 hq35 hK34=>Jt3 [4] (λE L w'=>∃κ',∃s3:ByteArray,L=(5,.string s3)::E/\Stp [] K27 w22 κ' w'/\q2=FX s3) (Jv<|Ju3 [4] (λk E L w'=>∃κ' v6,∃s1:ByteArray,L=(5,.string s1)::(6,vi v6)::E/\Stp [] K27 w22 κ' w'/\0<=v6/\FV ((x14.1.length:Int)-v6)=k/\cntM (fd x14) k v6 s1=some q2) ⟨_,_,⟨K27,0,((ByteArray.mk #[]):ByteArray),R,Jo3,(by decide),(by simp),hq35⟩,(KM R)⟩ ?_) ?_))
 rintro k _ _ ⟨K40,v6,s1,rfl,S41,hj33,hJ33,h⟩
 rcases k with _|k
 exact Jq<|Jl3 2 R<|Js3 R U27 R R<|Jb 1 R<|Jx2 R (dcf hJ33)<|Jc1<|Jt<|Jt<|Jb1<|Oh h<|Jw1 _ ⟨K40,s1,R,Fct,R⟩<|KM R
 refine Ob h λo33 h hk42=>Jq<|Jl3 2 R<|Js3 R U27 R R<|Jb 1 R<|Jw2 R (dct hJ33)<|Js<|Jp<|Jq<|Jv<|Jm3 1 R<|Ob h λ_ hx22 h=>Jf R (dg R R R hx22)<|Jn 2 R<|Ob h λx25 hx25 h=>Jd3 R f31.rdc hx25 U27 Z32 ?_
 obtain⟨_,hre44,hle44⟩:=((f31.stp S41).rdc).gSt hx25
 obtain⟨ae44_0,ue44_0,ae44_1,ue44_1,rfl,fe44_0,fe44_1⟩:=Clause.un hre44
 refine Jg4 tv R (Jh4 (haE hle44) I32 Z32 R)<|Ob h λ_ hx27 h=>Jw3 R call7 (sO (J:=Mk K40) (p0:=x25) Gct Gct hx27) ?_
 rintro _ _ ⟨_,rfl,e47⟩
 exact Im e47 12 R (λK48 _ _=>Tv<|Ob h λ_ hx28 h=>Jf R (dg R R R hx28)<|Ob h λx29 hx29 h=>Jf R (dg R R R hx29)<|Jc 1 R<|Jz<|Jp<|Jg3 R<|wr2 hj33 hJ33 f31.len_le ▸ (Ou h hk42 (λhk42=>Ja2 ⟨K48,v6+1,x29,R,Fct,nxz hj33,nxm hJ33,hk42⟩ R)))
 rintro _ _ ⟨K37,s3,rfl,S38,rfl⟩
 refine have h:=yI hK34;have S001:=(T4 S5 S17 S28 S38);Jp (Jl3 1 R<|Ob h λ_ hx31 h=>Jf R (dg R R R hx31)<|Ob h λ_ hx32 h=>Jw3 R call9 (yV (J:=Mk K37) Fct ((gGM.stp S001).map (mp [] 0) R R) ((gGT.stp S001).map (mp [] 0) R R) hx32) ?_)
 rintro _ _ ⟨_,rfl,e57⟩
 refine Im e57 12 R (λK58 S59 _=>Tv<|Ob h λx33 hx33 h=>Jw3 R call8 (y9 (J:=Mk K58) hx33) (Ks 16 rM λab aa _ K66 S67 f65=>Tv<|have f70:=f65;Jb 1 R (Jl3 1 R<|Js3 R U27 R R<|Jb 1 R<|Jq<|Jq<|Xn K66 [0,16] [2,5,8,11,14,17,20,23,26,29,32,35,38,44,39,46,50,53,56] λw72 S71=>Jn 1 R<|Js3 R U33 R R<|Jn 4 R<|Ob h λp54 h hK73=>Jk4 [4,7,8] 54 p54 K66 w72 13 (Cl.refl _ _ _) ?_ ?_)))
 refine Bk h (λht74 h=>Jn 3 R<|Ob h λp53 h hK75=>Jk4 [4,7,8,41] 53 p53 K66 w72 9 (Cl.refl _ _ _) ?_ ?_) (λht74 h=>Jn 8 R<|Jf4 R<|Je4 R<|Jn 3 R<|Oh h<|Jv1 _ (Cl.refl _ _ _) ⟨R,_,Jo3⟩<|KM R)
 refine Bk h (λht76 h=>Jn 5 R<|Jf4 R<|Je4 R<|Jn 2 R<|Oh h<|Jv1 _ (Cl.refl _ _ _) ⟨R,_,Jo3⟩<|KM R) (λht76 h=>Jn 3 R<|Ob h λ_ hx48 h=>Jd3 R f70.rdc hx48 U33 Z9<|Jn 1 R<|Jg R (Jd2 I9 R R<|hvC ((f70.stp S71).rdc.gStr hx48) R)<|Ob h λ_ hx51 h=>Jw3 R call10 (xR (J:=Mk K66) hx51) ?_)
 rintro _ _ ⟨_,rfl,e80⟩
 exact Im e80 17 R (λ_ S82 _=>⟨(S82.cl R),Jf R (qQ R R R)<|Jn 1 R<|Oh h<|Jv1 _ (S82.cl R) ⟨R,_,Fct⟩<|KM R⟩)
 rintro _ _ _ ⟨rfl,_,S87⟩
 exact have h:=hK75;Jn 1 R (Oh h<|Jv1 _ (S87.cl R) ⟨R,_,Fct⟩<|KM R)
 rintro _ _ _ ⟨rfl,K89,S90⟩
 refine have h:=hK73;Jt1 (Jd ?_)
 refine Bk h (λht91 h=>Jy R<|Js<|Jp<|Jq<|Jj3<|Jf R (Jn4 [vi 1,vi 1] R)<|Jn 1 R<|Ob h λx57 hx57 h=>Jw3 R call11 (rX (J:=Mk K89) (p0:=(⟨1,1⟩:Sig)) (Jn3 (f31.stp<|T5 S38 S59 S67 S71 S90).rdc) hx57)<|Kb λw94 K97 S98=>Tv<|Jd ?_) (λht91 h=>Jx R<|Jf3 R<|Ju<|Jw<|Jb2 (l:=[.tmp 2]) results3 (Jq2 R R) R<|Oh h<|⟨K89,R,Fct⟩)
 refine Bk h (λht101 h=>Jy R<|Js<|Jp<|Jl3 2 R<|Ob h λx89 hx89 h=>Jd3 R f70.rdc hx89 U33 Z9 (have f121:=f70.stp (T3 S71 S90 S98);Jc3 R I9 (f121.rdc.gStr hx89) (Jf R (cR R R R)<|Jn 1 R<|Ob h λp99 h hK122=>Jk4 [7,8] 99 p99 K97 w94 7 tv ?_ ?_))) (λht101 h=>Jx R<|Jl3 2 R<|Ob h λx60 hx60 h=>Jd3 R f70.rdc hx60 U33 Z9 (have f102:=f70.stp (T3 S71 S90 S98);Jc3 R I9 (f102.rdc.gStr hx60) (Jf R (cR R R R)<|Jn 1 R<|Ob h λp70 h hK103=>Jk4 [7,8] 70 p70 K97 w94 7 tv ?_ ?_)))
 exact Bk h (λht123 h=>Jn 4 R<|Je4 R<|Jn 2 R<|Oh h<|Jl4 tv R) (λht123 h=>Jn 3 R<|Ob h λ_ hx96 h=>Jd3 R f121.rdc hx96 U33 Z9<|Jc3 R I9 (f121.rdc.gStr hx96)<|Jf R (cR R R R)<|Jn 1 R<|Oh h<|Jl4 tv R)
 rintro _ w124 _ ⟨rfl,K125,S126⟩
 refine Jn 1 R<|Ob hK122 λp107 h hK127=>Jk4 [7,8] 107 p107 K125 w124 7 tv ?_ ?_
 exact Bk h (λht128 h=>Jn 4 R<|Je4 R<|Jn 2 R<|Oh h<|Jl4 tv R) (λht128 h=>Jn 3 R<|Ob h λ_ hx104 h=>Jd3 R f121.rdc hx104 U33 Z9<|Jc3 R I9 ((f121.stp S126).rdc.gStr hx104)<|Jf R (cR R R R)<|Jn 1 R<|Oh h<|Jl4 tv R)
 rintro _ w130 _ ⟨rfl,K131,S132⟩
 refine Jn 1 R<|Ob hK127 λp115 h hK133=>Ju1 [(22,2),(23,2),(24,2),(25,2),(26,1),(27,2),(28,2)] [(29,2)] (λL w'=>L=[(115,.bool p115)]/\∃κ',Stp [] K131 w130 κ' w') tv ?_ ?_
 exact Bk h (λht134 h=>Jn 4 R<|Je4 R<|Jn 2 R<|Oh h<|Jl4 tv R) (λht134 h=>Jn 3 R<|Ob h λ_ hx112 h=>Jd3 R f121.rdc hx112 U33 Z9<|Jc3 R I9 ((f121.stp<|S126.tr S132).rdc.gStr hx112)<|Jf R (qQ R R R)<|Jn 1 R<|Oh h<|Jl4 tv R)
 rintro _ _ _ ⟨rfl,K137,_⟩
 exact have h:=hK133;Jb 1 R (Ju<|Jb2 (l:=[.tmp 2]) results3 (Jq2 R R) R<|Oh h<|⟨K137,R,Fct⟩)
 exact Bk h (λht104 h=>Jn 4 R<|Je4 R<|Jn 2 R<|Oh h<|Jl4 tv R) (λht104 h=>Jn 3 R<|Ob h λ_ hx67 h=>Jd3 R f102.rdc hx67 U33 Z9<|Jc3 R I9 (f102.rdc.gStr hx67)<|Jf R (qQ R R R)<|Jn 1 R<|Oh h<|Jl4 tv R)
 rintro _ w105 _ ⟨rfl,K106,S107⟩
 refine Jn 1 R<|Ob hK103 λp78 h hK108=>Jk4 [7,8] 78 p78 K106 w105 7 tv ?_ ?_
 exact Bk h (λht109 h=>Jn 4 R<|Je4 R<|Jn 2 R<|Oh h<|Jl4 tv R) (λht109 h=>Jn 3 R<|Ob h λ_ hx75 h=>Jd3 R f102.rdc hx75 U33 Z9<|Jc3 R I9 ((f102.stp S107).rdc.gStr hx75)<|Jf R (cR R R R)<|Jn 1 R<|Oh h<|Jl4 tv R)
 rintro _ w111 _ ⟨rfl,K112,S113⟩
 refine Jn 1 R<|Ob hK108 λp86 h hK114=>Ju1 [(22,2),(23,2),(24,2),(25,2),(26,1),(27,2),(28,2)] [(29,2)] (λL w'=>L=[(86,.bool p86)]/\∃κ',Stp [] K112 w111 κ' w') tv ?_ ?_
 exact Bk h (λht115 h=>Jn 4 R<|Je4 R<|Jn 2 R<|Oh h<|Jl4 tv R) (λht115 h=>Jn 3 R<|Ob h λ_ hx83 h=>Jd3 R f102.rdc hx83 U33 Z9<|Jc3 R I9 ((f102.stp<|S107.tr S113).rdc.gStr hx83)<|Jf R (cR R R R)<|Jn 1 R<|Oh h<|Jl4 tv R)
 rintro _ _ _ ⟨rfl,K118,_⟩
 exact have h:=hK114;Jb 1 R (Ju<|Jw<|Jb2 (l:=[.tmp 2]) results3 (Jq2 R R) R<|Oh h<|⟨K118,R,Fct⟩)
end
end Go.Proofs.YtldlmopdhmaceaaGreatDoor
