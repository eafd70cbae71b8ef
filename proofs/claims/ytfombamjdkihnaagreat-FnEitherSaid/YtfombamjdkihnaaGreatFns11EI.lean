/- The walks, part 11. By program. -/
import Derived.Test.YtfombamjdkihnaaGreatFns10EI
set_option linter.unusedVariables false
set_option linter.unusedSimpArgs false
open Go.Wk.Ep renaming own → ER
open Go.IntKind renaming wrap → ET
namespace Go.Proofs.YtfombamjdkihnaaGreat
open Tryz
open Go Go.Wk Go.Proofs
set_option maxRecDepth 100000
set_option maxHeartbeats 1000000
section
variable {w:World}{J:Col}
theorem pX {p0:Sig}{c e}{p1:VC}(v:Rd Clause.rp J w 0 c e p1){r:Int}(h:fI p0 p1=some r):Ret prog 9 [.agg #[vi p0.In,vi p0.Out],.slice c p1.length e] w (Pvi J w r):=by
 refine Jp3 J func9 R ntmps9 R λx=>Jj3<|Jx3 J 2 R λ_ _ f _ d=>Tv<|Jb 1 R<|Jq<|Jj3<|Jg4 tv R (Jh4 (haE d.cells) I28 Z28 R)<|Jn 1 R<|Ob h λz p h=>Jw3 R call30 (rC (J:=Mk f) (p0:=p0) Gct p)<|Kb λ_ b i=>Tv<|Jd ?_
 refine Bk h (λm h=>Jy R<|Js<|Jp<|Jq<|Jj3<|Jg4 tv R (Jh4 (haE (d.stp i).cells) I28 Z28 R)<|Jn 1 R<|Ob h λy o h=>Jw3 R call7 (ox (J:=Mk b) (p0:=p0) Gct o) ?_) (λm h=>Jx R<|Jf3 R<|Ju<|Jw<|Jb2 (l:=[.tmp 4]) results9 (Jq2 R R) R<|Oh h<|⟨b,R,Fct⟩)
 rintro _ _ ⟨_,q,s,u,t,rfl,j,_,_⟩
 refine Im j 5 R (λg _ _=>Tv<|Jn 3 R<|Jy3 g 9 R X34 R λ_ _ a _ k=>Tv<|Jm4 a 9 R Z34 R k R λ_ _ _=>Tv<|Jb 1 R<|Jf3 R ?_)
 exact Bk h (λn h=>Jy R<|Js<|Jp<|Jf3 R<|Ju<|Jb2 (l:=[.tmp 4]) results9 (Jq2 R R) R<|Oh h<|⟨a,R,Fct⟩) (λn h=>Jx R<|Jf3 R<|Ju<|Jw<|Jb2 (l:=[.tmp 4]) results9 (Jq2 R R) R<|Oh h<|⟨a,R,Fct⟩)
theorem rP {p0:Sig}{d g}{p1:VC}(F:Rd Clause.rp J w 0 d g p1){r:Bool}(h:gT p0 p1=some r):Ret prog 31 [.agg #[vi p0.In,vi p0.Out],.slice d p1.length g] w (Pvb J w r):=by
 refine Jp3 J func31 R ntmps31 R λG=>Jj3<|Jx3 J 2 R λ_ _ j _ e=>Tv<|Jb 1 R<|Jj3<|Jg4 tv R (Jh4 (haE e.cells) I28 Z28 R)<|Jn 1 R<|Ob h λA v h=>Jw3 R call41 (ll (J:=Mk j) (p0:=p0) Gct v) ?_
 rintro _ _ ⟨_,C,B,D,E,rfl,n,s,o⟩
 refine Im n 3 R (λi m f=>Tv<|Jn 3 R<|Jy3 i 7 R X58 R λ_ _ a b p=>Tv<|Jm4 a 7 R Z58 R p R λz c q=>Tv<|Jb 1 R<|Jl3 2 R<|Ob h λy h t=>Jk4 [4] 19 y a z 5 tv ?_ ?_)
 exact Bk h (λu h=>Je4 R<|Je4 R<|Je4 R<|Jn 2 R<|Oh h<|Jl4 tv R) (λu h=>Jg4 tv R (Jh4 (haE (e.stp<|T3 m b c).cells) I28 Z28 R)<|Jg4 tv R (Jh4 (haE q.cells) I58 Z58 R)<|Ob h λ_ x h=>Jw3 R call73 (sB (J:=Mk a) (p0:=p0) (p1:=A.1) (Jn3 ((s.mx (cK (bI _) _) f R (R:3+2=5)).stp (b.tr c)).rdc) (Jn3 ((o.mx Pair.no96 f R (R:3+3=6)).stp (b.tr c)).rdc) x)<|Ki λ_ _ _=>Tv<|Jn 2 R<|Oh h<|Jv1 _ tv ⟨R,_,Fct⟩<|KM R)
 rintro _ _ _ ⟨rfl,k,_⟩
 exact have h:=t;Jb 1 R (Ju<|Jb2 (l:=[.tmp 4]) results31 (Jq2 R R) R<|Oh h<|⟨k,R,Fct⟩)
theorem ui {p0:Sig}{aU bw}{p1:VC}(er:Rd Clause.rp J w 0 aU bw p1){r:Rival×Bool}(h:ma p0 p1=some r):Ret prog 32 [.agg #[vi p0.In,vi p0.Out],.slice aU p1.length bw] w (λdC a=>∃b bs bu bt bv,dC= .tuple #[.agg #[.slice bs r.1.In.length bu,.slice bt r.1.Next.length bv],.bool r.2]/\Ent J w b a/\Oc E6 2 b a 2 bs bu r.1.In/\Oc (ER E6 2) 31 b a 3 bt bv r.1.Next):=by
 refine Jp3 J func32 R ntmps32 R λes=>Jj3<|Jx3 J 2 R λ_ _ bN _ cN=>Tv<|Jy3 bN 3 R X34 R λ_ _ b4 cc _=>Tv<|Jb 1 R<|Jj3 (have bb:=cN.stp cc;Jg4 tv R (Jh4 (haE bb.cells) I28 Z28 R) (Jn 1 R<|Ob h λam dv h=>Jw3 R call41 (ll (J:=Mk b4) (p0:=p0) Gct dv) ?_))
 rintro _ _ ⟨_,d0,dZ,d7,ea,rfl,cm,ct,cv⟩
 refine Im cm 4 R (λbH b9 bp=>Tv<|Jn 3 R<|Jy3 bH 8 R X58 R λ_ _ aL aR cC=>Tv<|Jm4 aL 8 R Z58 R cC R λbA aS a9=>Tv<|Jb 1 R<|Jj3 (have ba:=bb.stp (T3 b9 aR aS);Jg4 tv R (Jh4 (haE ba.cells) I28 Z28 R) (Jg4 tv R (Jh4 (haE a9.cells) I58 Z58 R) ?_)))
 obtain⟨b1,aT,dM⟩:=dg aL bA 6
 obtain⟨b2,au,dN⟩:=dg b1 bA 7
 refine Ob h λdI dw h=>have aE:=(Sl.st dM ((ct.mx (cK (bI _) _) bp R (R:4+2=6)).stp (aR.tr aS)).rdc).stp au;Jw3 R call74 (oT (J:=λM=>mp [] 1<|b2 M) (p0:=p0) (p1:=am.1) (Jm2 aE (mp [] 1) R R) (Jm2 (Sl.st dN ((cv.mx Pair.no96 bp R (R:4+3=7)).stp Fct).rdc) (mp [] 1) R R) dw) ?_
 rintro _ _ ⟨_,eb,dV,ef,d1,ei,dX,rfl,cn,cO,cP,cQ⟩
 refine Im0 cn 9 R (λb3 av aG dO=>Tv<|Jn 4 R<|Jy3 b3 14 R X62 R λ_ _ aO aw cR=>Tv<|Jm4 aO 14 R Z62 R cR R λaH ax cS=>Tv<|Jb 2 R<|Jj3<|Jg4 tv R (Jh4 (haE cS.cells) I62 Z62 R)<|Jn 1 R ?_)
 obtain⟨b5,ay,dP⟩:=dg aO aH 11
 obtain⟨b6,az,dQ⟩:=dg b5 aH 12
 obtain⟨b7,T,dR⟩:=dg b6 aH 13
 refine Ob h λaJ dx h=>Jw3 R call75 (p5 (J:=λM=>mp [] 1<|b7 M) (p0:=dI.1) (Jm2 ((Sl.st dP ((cO.mx (bI _) aG R (R:9+2=11)).stp Fct).rdc).stp Fct) (mp [] 1) R R) (Jm2 ((Sl.st dQ ((cP.mxz dO aG R (R:9+3=12)).stp Fct).rdc).stp T) (mp [] 1) R R) (Jm2 (Sl.st dR ((cQ.mx Pair.no96 aG R (R:9+4=13)).stp Fct).rdc) (mp [] 1) R R) dx) ?_
 rintro _ _ ⟨_,ek,d3,dU,d5,en,d2,ee,dW,rfl,co,cT,cU,cV,cW⟩
 refine Im0 co 15 R (λb8 aA ak dS=>Tv<|have bc:=cW.mxz dS ak R (R:15+5=20);Jn 4 R (Jy3 b8 21 R X66 R λ_ _ aP D cX=>Tv<|Jm4 aP 21 R Z66 R cX R λdF E cY=>Tv<|Jb 2 R<|Jq<|Jl3 3 R<|Ob h λdA h cZ=>Jk4 [2,4,6,11,12,13] 51 dA aP dF 3 tv ?_ ?_))
 exact Bk h (λdd h=>Jn 3 R<|Oh h<|Jl4 tv R) (λdd h=>Jn 3 R<|Oh h<|Jl4 tv R)
 rintro _ dD _ ⟨rfl,bD,t⟩
 refine Jn 1 R<|Ob cZ λdB h c0=>Jk4 [2,4,6,11,12] 55 dB bD dD 3 tv ?_ ?_
 exact Bk h (λde h=>Jn 3 R<|Oh h<|Jl4 tv R) (λde h=>Jn 3 R<|Oh h<|Jl4 tv R)
 rintro _ _ _ ⟨rfl,an,u⟩
 refine have h:=c0;Jd ?_
 refine Bk h (λdf h=>Jy R<|Js<|Jp<|Jj3 (have aY:=cY.stp (t.tr u);Jg4 tv R (Jh4 (haE aY.cells) I66 Z66 R) (Ob h λdJ dy h=>have aZ:=(cU.mx (cK (bI _) _) ak R (R:15+3=18)).stp (T4 D E t u);have aQ:=(T4 D E t u);Jw3 R call76 (xS (J:=Mk an) (p0:=aJ.1) (Jn3 ((cT.mx (bI _) ak R (R:15+2=17)).stp aQ).rdc) Gct (Jn3 ((cV.mx (bI _) ak R (R:15+4=19)).stp aQ).rdc) dy) ?_))) (λdf h=>Jx R<|Jj3<|Jf R (Jn4 [.slice none 0 0,.slice none 0 0] R)<|Jm4 an 3 R Z34 R Fct R λ_ _ cp=>Tv<|Jb 1 R<|Ju<|Jw<|Jb2 (l:=[.cell 4 34,.tmp 5]) results32 (bM R cp I34 Z34 R<|Jq2 R R) R<|Oh h<|⟨an,none,0,none,0,R,Fct,Ow.nil,Ow.nil⟩)
 rintro _ _ ⟨_,ec,d4,eg,em,rfl,cl,cq,cr⟩
 refine Im cl 22 R (λbE z bo=>Tv<|have a0:=cq.mx (bI _) bo R (R:22+2=24);have a1:=cr.mx (bI _) bo R (R:22+3=25);Jy3 bE 26 R X73 R λ_ _ P k cs=>Tv<|Jm4 P 26 R Z73 R cs R λ_ m a2=>Tv<|Jd<|Jq<|Jj3<|Je3 R U73 R Z31<|Jc3 R I31 (a2.ld 0 R R)<|Ob h λex bi h=>Jd3 R a0.rdc bi U31 Z2<|Jc3 R I2 ((a0.stp<|k.tr m).rdc.gInt bi)<|Jb 1 R ?_)
 refine Bk h (λdh h=>Jy R<|Js<|Jp<|Jj3<|Je3 R U58 R Z32 (have a3:=a9.stp (T16 aT au av aw ax ay az T aA D E t u z k m);Jc3 R I32 (a3.ld 0 R R) (Js3 R U32 R R<|Jb 1 R<|Jj3<|Ji4 P 27 [0] R Y31 bG R λcd ci _ bF n _=>Tv<|Jb 1 R<|Jj3<|Jf R (Jn4 [.slice none 0 0,.slice none 0 0] R)<|Jy3 bF 28 R X34 R λaX _ Q o cw=>Tv<|Jm4 Q 28 R Z34 R cw R λbx p cx=>Tv<|Jd<|Jq<|Jf3 R<|Ob h λbq c9 c1=>Jt3 [4,17] (λf g a=>∃b,∃y:VI×Int×VI×VV,∃aW aV Z X ah ai,g=f/\Stp [27,28,29,30,33,35] Q bx b a/\Oc E6 2 b a 27 aW aV y.1/\Oc E6 2 b a 29 Z X y.2.2.1/\Oc (ER E6 2) 31 b a 30 ah ai y.2.2.2/\Bc b a 28 aX 34 [.slice Z y.2.2.1.length X,.slice ah y.2.2.2.length ai]/\bq=Sum.inr y) (Jv<|Ju3 [2,4,6,11,12,14,15,17] (λi f g a=>∃b,∃c:VI×Int×VI×VV,∃H F Y V G I,g=(16,.slice H c.1.length F)::(18,vi c.2.1)::f/\Stp [27,28,29,30,33,35] Q bx b a/\Oc E6 2 b a 27 H F c.1/\Oc E6 2 b a 29 Y V c.2.2.1/\Oc (ER E6 2) 31 b a 30 G I c.2.2.2/\Bc b a 28 aX 34 [.slice Y c.2.2.1.length V,.slice G c.2.2.2.length I]/\bQ (eO p0 am aJ dJ) i c=some bq) ⟨_,_,⟨Q,((([0]:VI):VI),(0:Int),([]:VI),([]:VV)),cd,ci,none,0,none,0,R,Jo3,Fct,Ow.nil,Ow.nil,cx,c9⟩,(KM R)⟩ ?_) ?_))) (λdh h=>Jx R<|Jj3<|Jf R (Jn4 [.slice none 0 0,.slice none 0 0] R)<|Jm4 P 3 R Z34 R Fct R λ_ _ cu=>Tv<|Jb 1 R<|Ju<|Jw<|Jb2 (l:=[.cell 4 34,.tmp 5]) results32 (bM R cu I34 Z34 R<|Jq2 R R) R<|Oh h<|⟨P,none,0,none,0,R,Fct,Ow.nil,Ow.nil⟩)
 rintro i _ _ ⟨S,c,H,F,Y,V,G,I,rfl,q,N,cz,cA,a4,h⟩
 rcases i with _|i
 cases h
 refine Ob h λ_ h bd=>Jq<|Jl3 2 R<|Js3 R U31 R R<|Jb 1 R ?_
 refine Bk h (λdi h=>Jy R<|Jc1<|Jt<|Jt ?_) (λdi h=>Jx R<|Js<|Jp<|Jq<|Jv<|Jl3 3 R<|Ob h λ_ bj h=>Jd3 R N.rdc bj U31 Z2<|Jc3 R I2 (N.rdc.gInt bj)<|Ob h λdK bk h=>Jd3 R bc.rdc bk U67 Z76<|Je3 R U76 R Z2 ?_)
 cases h
 exact have h:=bd;Jb1 (Oh h<|Jw1 _ ⟨S,(c.1,c.2.1,c.2.2.1,c.2.2.2),H,F,Y,V,G,I,R,Fct,N,cz,cA,a4,R⟩<|KM R)
 have aD:=bc.stp (T11 D E t u z k m n o p q)
 obtain⟨_,db,c6⟩:=Ow.gZS aD bk
 obtain⟨d8,et,rfl,ep⟩:=Place.un db
 refine Jc3 R I2 (λa aF=>c6 a aF 0 _ R)<|Jb 1 R<|Jq<|Js1 (J:=S) [0,25,26,27] none [(0,2),(2,2),(3,2),(4,2),(1,0),(5,0),(6,2),(7,0),(8,2)] [] (by kernel_rfl) (by kernel_rfl) λ_ e=>Je3 R U73 R Z31<|Jn 2 R<|Ob h λ_ bl h=>Jd3 R N.rdc bl U31 Z2<|Jg R (Jd2 I31 R R<|hvC ((a2.stp<|T5 n o p q e).ld 1 R R) R)<|Jg R (Jd2 I2 R R<|hvC ((N.stp e).rdc.gInt bl) R)<|Ob h λdL bm h=>Jd3 R a1.rdc bm U31 Z2<|Jg R (Jd2 I2 R R<|hvC ((a1.stp<|T7 k m n o p q e).rdc.gInt bm) R)<|Jn 1 R<|Jt1<|Jd<|Jq<|Js1 (J:=S) [0,2,20] none [(0,2),(1,2),(2,2),(3,2),(5,2),(4,0),(6,2),(7,0),(8,1),(9,2),(10,2)] [] (by kernel_rfl) (by kernel_rfl) λ_ v=>Jn 2 R<|Ob h λbC bn h=>Jd3 R aD.rdc bn U67 Z76<|Je3 R U76 R Z2<|Jn 1 R ?_
 have a5:=aD.stp (e.tr v)
 obtain⟨_,dc,c8⟩:=Ow.gZS a5 bn
 obtain⟨d9,eu,rfl,eq⟩:=Place.un dc
 refine Jg R (Jd2 I2 R R<|hvC (λa aF=>c8 a aF 0 _ R) R)<|Jn 1 R (have a6:=ba.stp (aT.tr<|au.tr<|av.tr<|aw.tr<|ax.tr<|ay.tr<|az.tr<|T.tr<|aA.tr<|D.tr<|E.tr<|t.tr<|u.tr<|z.tr<|k.tr<|m.tr<|n.tr<|o.tr<|p.tr<|q.tr<|e.tr v);Jg R (Jh4 (haC a6.cells R) I28 Z28 R) (Ob h λbB dl h=>Jw3 R call77 (lB (J:=Mk S) (p0:=p0) dl)<|Ki λ_ bK s=>⟨(s.cl R),Ob h λ_z101 dz h=>Jf R (uf R R R<|A3 dz)<|Jn 1 R<|Jt1<|Jd<|Jj3<|Jc4 bK E6 33 R Y31 bG R λch cf bz ao x cB=>Tv<|Jb 1 R<|Jq<|Jf3 R<|Ob h λbr da c2=>Jt3 [2,4,6,11,12,14,15,17,18,21] (λf g a=>∃b,∃j:VI×VI×Int,∃af ad ab ac,g=(16,.slice af j.1.length ad)::(22,.slice ab j.2.1.length ac)::f/\Stp [27,33] ao bz b a/\Oc E6 2 b a 27 af ad j.1/\Oc E6 2 b a 33 ab ac j.2.1/\br=Sum.inr j) (Jv<|Ju3 [2,4,6,11,12,14,15,17,18,19,20,21] (λi f g a=>∃b,∃d:VI×VI×Int,∃L K U ag,g=(16,.slice L d.1.length K)::(22,.slice U d.2.1.length ag)::(23,vi d.2.2)::f/\Stp [27,33] ao bz b a/\Oc E6 2 b a 27 L K d.1/\Oc E6 2 b a 33 U ag d.2.1/\bQ (gk p0 am aJ dK dL bC bB) i d=some br) ⟨_,_,⟨ao,(c.1,([]:VI),(0:Int)),H,F,ch,cf,R,Jo3,Fct,cB,da⟩,(KM R)⟩ ?_) ?_⟩))
 rintro i _ _ ⟨bR,d,L,K,U,ag,rfl,A,_,_,h⟩
 rcases i with _|i
 cases h
 refine Ob h λ_ h be=>Jq<|Jl3 1 R (have a7:=a6.stp (T3 s x A);Jg4 tv R (Jh4 (haE a7.cells) I28 Z28 R) (Ob h λev dm h=>Jw3 R call43 (ka (J:=Mk bR) (p0:=p0) dm)<|Ki λ_ ap B=>Tv<|Jb 1 R ?_))
 refine Bk h (λdj h=>Jy R<|Jc1<|Jt<|Jt ?_) (λdj h=>Jx R<|Js<|Jp<|Jq<|Jv<|Jq<|Js1 (J:=ap) [0,2,8,18,21] none [(0,2),(1,2),(3,2),(6,2),(7,2),(9,2),(13,2),(14,2),(2,0),(4,2),(5,0),(8,0),(10,2),(11,0),(12,0),(15,1),(16,2),(17,0),(18,1),(19,2)] [] (by kernel_rfl) (by kernel_rfl) λ_ C=>Je3 R U66 R Z62<|Je3 R U62 R Z32<|Jn 2 R<|Je3 R U58 R Z32<|Jn 3 R<|Jg R (Jd2 I32 R R<|hvC ((aY.stp<|T14 z k m n o p q e v s x A B C).ld 1 R R) R)<|Ob h λ_ bf h=>Jd3 R aZ.rdc bf U32 Z31 ?_)
 cases h
 exact have h:=be;Jb1 (Oh h<|Jw1 _ ⟨ap,(d.1,d.2.1,d.2.2),L,K,U,ag,R,Fct,Fct,Fct,R⟩<|KM R)
 obtain⟨_,_,_,c4⟩:=(aZ.stp (T14 z k m n o p q e v s x A B C)).rdc.gSl bf
 refine Jg R (Jd2 I31 R R<|hvC c4 R)<|Jg R (Jd2 I32 R R<|hvC ((a3.stp<|T11 n o p q e v s x A B C).ld 0 R R) R)<|Ob h λ_ bg h=>Jd3 R aE bg U32 Z31 ?_
 obtain⟨_,_,a8,c5⟩:=(aE.stp (av.tr (aw.tr (ax.tr (ay.tr (az.tr (T.tr (aA.tr (D.tr (E.tr (t.tr (u.tr (z.tr (k.tr (m.tr (n.tr (o.tr (p.tr (q.tr (e.tr (v.tr (s.tr (x.tr (A.tr (B.tr C))))))))))))))))))))))))).gSl bg
 refine Jg R (Jd2 I31 R R<|hvC c5 R)<|Jg R (Jh4 (haC (a7.stp<|B.tr C).cells R) I28 Z28 R)<|Ob h λ_ dn h=>Jw3 R call44 (mH (J:=Mk ap) (p0:=p0) dn)<|Ki λ_ bS ar=>⟨(ar.cl R),Ob h λ_ bh h=>Jd3 R a8 bh U31 Z2<|Jg R (Jd2 I2 R R<|hvC (a8.gInt bh) R)<|Ob h λdG dp h=>Jw3 R call78 (yW (J:=Mk bS) Gct (Jn3 (a5.stp<|T6 s x A B C ar).rdc) dp)<|Ki λ_ bT cb=>⟨((ar.tr cb).cl R),Jn 1 R<|Jt1<|Jd<|Jl3 2 R<|Ob h λew dq h=>Jw3 R call79 (wq (J:=Mk bT) Gct dq)<|Ki λdE aq _=>Tv<|Jb 1 R<|Jq<|Jf3 R<|Ob h λO h c3=>Jt3 [2,4,6,11,12,14,15,17,18,19,20,21,22,23] (λf g a=>∃b aa ae,g=(16,.slice aa O.1.length ae)::(25,vi O.2)::f/\Stp [27] aq dE b a/\Oc E6 2 b a 27 aa ae O.1) ?_ ?_⟩⟩
 exact Bk h (λdk h=>Jy R<|Js<|Oh h<|Jw1 _ ⟨aq,L,K,R,Jo3,Fct⟩<|KM R) (λdk h=>Jx R<|Jl3 1 R<|Js3 R U31 R R<|Jb 1 R<|Jm3 2 R<|Ji4 aq 42 [dG] R Y31 bG R λeo d6 _ bV _ cD=>Tv<|Ob h λ_ dr h=>Jd4 bV E6 27 [] R Y31 bG R Fct (Sl.srcP (bO _) cD.rdc) bJ dr R λcg ck _ bW _ cE=>Tv<|Jc 1 R<|Oh h<|Jw1 _ ⟨bW,cg,ck,R,Fct,cE⟩<|KM R)
 rintro _ _ ⟨bU,aa,ae,rfl,_,_⟩
 refine have h:=c3;Jp (Jm3 2 R<|Ji4 bU 42 [O.2] R Y31 bG R λdY eh _ bX _ cF=>Tv<|Ob h λdH ds h=>Jd4 bX E6 33 [] R Y31 bG R Fct (Sl.srcP (bO _) cF.rdc) bJ ds R λcj ce _ bY _ cG=>Tv<|Jc 1 R<|Jz<|Jp<|Jg3 R ?_)
 cases h
 exact Ja2 ⟨bY,(O.1,dH,((ET .i64<|d.2.2+1):Int)),aa,ae,cj,ce,R,Fct,Fct,cG,be⟩ R
 rintro _ _ ⟨bP,j,af,ad,ab,ac,rfl,ca,_,_,rfl⟩
 refine have h:=yI c2;Jp (Jj3<|Je3 R U34 R Z31<|Jc3 R I31 ((a4.stp<|T5 e v s x ca).ld 0 R R)<|Jn 1 R<|Ji4 bP 34 [(Int.tmod (ET .i64<|bC.At-(am.1.Next.length:Int)) bB)] R Y31 bG R λdT ed _ bZ _ cH=>Tv<|Ob h λal dt h=>Jd4 bZ E6 29 [] R Y31 bG R Fct (Sl.srcP (bO _) cH.rdc) bJ dt R λW aj _ aM _ _=>Tv<|Je3 R U34 R Z31<|Jz3 aM 28 (off:=0) (vc:=[.slice W al.length aj]) (cs':=[.slice W al.length aj,.slice G c.2.2.2.length I]) R Z31 R Fct R λ_ _ cI=>Tv<|Jd<|Jk3<|Je3 R U34 R Z32<|Jc3 R I32 (cI.ld 1 R R)<|Jn 1 R<|Jb4 aM (ER E6 2) 35 [33] (parts:=[(0,.tmp 151)]) (cells:=[.slice ab j.2.1.length ac]) (xs:=([j.2.1]:VV)) R Y32 bL R (Jj4 ⟨_,_,R,Fct⟩) λel ej _ b0 _ cJ=>Tv<|Ob h λaI du h=>Jd4 b0 (ER E6 2) 30 [35] R Y32 bL R Fct cJ.src (c7 R) du R λaC aB _ aN _ _=>Tv<|Je3 R U34 R Z32<|Jz3 aN 28 (off:=1) (vc:=[.slice aC aI.length aB]) (cs':=[.slice W al.length aj,.slice aC aI.length aB]) R Z32 R Fct R λ_ _ cL=>Tv<|Jo<|Jz<|Jp<|Jg3 R ?_)
 cases h
 exact Ja2 ⟨aN,(j.1,((ET .i64<|c.2.1+1):Int),al,aI),af,ad,W,aj,aC,aB,R,Fct,Fct,Fct,Fct,cL,bd⟩ R
 rintro _ _ ⟨aK,y,aW,aV,Z,X,ah,ai,rfl,_,_,_,_,cy,rfl⟩
 exact have h:=yI c1;Jp (Jj3<|Jg4 tv R (Jh4 (haE cy.cells) I34 Z34 R)<|Jm4 aK 3 R Z34 R Fct R λ_ _ cM=>Tv<|Jb 1 R<|Ju<|Jb2 (l:=[.cell 4 34,.tmp 5]) results32 (bM R cM I34 Z34 R<|Jq2 R R) R<|Oh h<|⟨(λM=>ren [(29,2),(30,3)]<|aK M),Z,X,ah,ai,R,Fct,Fct,Fct⟩)
theorem uI {p0:Sig}{c e}{p1:VC}(v:Rd Clause.rp J w 0 c e p1){r:Int}(h:ib p0 p1=some r):Ret prog 10 [.agg #[vi p0.In,vi p0.Out],.slice c p1.length e] w (Pvi J w r):=by
 refine Jp3 J func10 R ntmps10 R λx=>Jj3<|Jx3 J 2 R λ_ _ f _ d=>Tv<|Jb 1 R<|Jq<|Jj3<|Jg4 tv R (Jh4 (haE d.cells) I28 Z28 R)<|Jn 1 R<|Ob h λz p h=>Jw3 R call31 (rP (J:=Mk f) (p0:=p0) Gct p)<|Kb λ_ b i=>Tv<|Jd ?_
 refine Bk h (λm h=>Jy R<|Js<|Jp<|Jj3<|Jg4 tv R (Jh4 (haE (d.stp i).cells) I28 Z28 R)<|Jn 1 R<|Ob h λy o h=>Jw3 R call32 (ui (J:=Mk b) (p0:=p0) Gct o) ?_) (λm h=>Jx R<|Jf3 R<|Ju<|Jw<|Jb2 (l:=[.tmp 4]) results10 (Jq2 R R) R<|Oh h<|⟨b,R,Fct⟩)
 rintro _ _ ⟨_,q,s,u,t,rfl,j,_,_⟩
 refine Im j 5 R (λg _ _=>Tv<|Jn 3 R<|Jy3 g 9 R X34 R λ_ _ a _ k=>Tv<|Jm4 a 9 R Z34 R k R λ_ _ _=>Tv<|Jb 1 R<|Jq<|Jf3 R ?_)
 exact Bk h (λn h=>Jy R<|Js<|Jp<|Jf3 R<|Ju<|Jb2 (l:=[.tmp 4]) results10 (Jq2 R R) R<|Oh h<|⟨a,R,Fct⟩) (λn h=>Jx R<|Jf3 R<|Ju<|Jw<|Jb2 (l:=[.tmp 4]) results10 (Jq2 R R) R<|Oh h<|⟨a,R,Fct⟩)
theorem uD {bp bY}{p0:VI}(eN:Rd (Rp.int .u8) J w 0 bp bY p0){r:Bool}(h:qd p0=some r):Ret prog 3 [.slice bp p0.length bY] w (Pvb J w r):=by
 refine Jp3 J func3 R ntmps3 R λeO=>Jf3 R<|Jq<|Jl3 1 R<|Ob h λeT dS h=>Jw3 R call4 (AR (J:=Mk J) Gct dS)<|Kb λ_ bc _=>Tv<|Jd ?_
 refine Bk h (λdN h=>Jy R<|Js<|Jp<|Jl3 1 R<|Ob h λb dT h=>Jw3 R call5 (z5 (J:=λa=>mp [] 1<|bc a) (Jm2 Fct (mp [] 1) R R) dT) ?_) (λdN h=>Jx R<|Jf3 R<|Ju<|Jw<|Jb2 (l:=[.tmp 2]) V3 (Jq2 R R) R<|Oh h<|⟨bc,R,Fct⟩)
 rintro _ _ ⟨_,aX,aP,aZ,rfl,cA,cU,cW⟩
 refine Im0 cA 4 R (λb6 _ ef eu=>Tv<|Jb 1 R<|Jj3<|Jf R (Jn4 [vi 1,vi 1] R)<|Jy3 b6 8 R zeroValue28 R λ_ _ a5 cp c8=>Tv<|Jm4 a5 8 R Z28 R c8 R λ_ cq db=>Tv<|Jd<|Jl3 1 R (Ob h λa3 dU h=>have bC:=(cU.mx eu).stp (cp.tr cq);Jw3 R call6 (tL (J:=λa=>mp [(7,2)] 0<|a5 a) (p0:=b) (Jm2 bC (mp [(7,2)] 0) R R) (((cW.mx ef R (R:4+3=7)).stp Fct).map (mp [(7,2)] 0) R R) dU) ?_))
 rintro _ _ ⟨_,ew,eF,rfl,cJ,de,di⟩
 refine Im cJ 9 R (λch bn bR=>Tv<|have bE:=de.mx Clause.no54 bR R (R:9+3=12);Jb 1 R (Jj3 (have bF:=db.stp bn;Jg4 tv R (Jh4 (haE bF.cells) I28 Z28 R) (Jn 1 R<|Ob h λO dV h=>Jw3 R call7 (ox (J:=Mk ch) (p0:=(⟨1,1⟩:Sig)) (Jn3 bE.rdc) dV) ?_))))
 rintro _ _ ⟨_,eH,ev,ex,eC,rfl,cQ,dw,dx⟩
 refine Im cQ 13 R (λcm aO bU=>Tv<|Jn 3 R<|Jy3 cm 17 R X34 R λ_ _ bf ah dy=>Tv<|Jm4 bf 17 R Z34 R dy R λ_ ai dz=>Tv<|Jb 1 R<|Jj3 (have aA:=bF.stp (T3 aO ah ai);Jg4 tv R (Jh4 (haE aA.cells) I28 Z28 R) (Jn 1 R (Ob h λeU dW h=>have V:=bE.stp (T3 aO ah ai);Jw3 R call8 (tl (J:=Mk bf) (p0:=(⟨1,1⟩:Sig)) (Jn3 V.rdc) dW) ?_))))
 rintro _ _ ⟨_,eA,eE,ey,eI,rfl,cR,_,_⟩
 refine Im cR 18 R (λcn c _=>Tv<|Jn 3 R<|Jy3 cn 22 R X38 R λ_ _ ap d dA=>Tv<|Jm4 ap 22 R Z38 R dA R λ_ e _=>Tv<|Jb 1 R<|Jq<|Jq<|Js1 (J:=ap) [8] none [(0,2),(1,2),(2,2),(3,2),(5,2),(8,2),(4,0),(7,0),(6,1),(9,1),(10,2),(11,2)] [] (by kernel_rfl) (by kernel_rfl) λes f=>Jn 2 R<|Jf R (zH R R U4 R)<|Jn 1 R<|Ob h λem h dF=>Jk4 [3,4,5,6,7] 46 em ap es 8 (Cl.refl _ _ _) ?_ ?_)
 exact Bk h (λdO h=>Jn 2 R (have bH:=aA.stp (T4 c d e f);Jg R (Jh4 (haC bH.cells R) I28 Z28 R) (Jg R (Jh4 (haC bH.cells R) I28 Z28 R) (Ob h λ_ dX h=>have bJ:=V.stp (T4 c d e f);Jw3 R call9 (pX (J:=Mk ap) (p0:=(⟨1,1⟩:Sig)) (Jn3 bJ.rdc) dX) (Ki λ_ co ay=>⟨(ay.cl R),Ob h λ_ dY h=>Jw3 R call10 (uI (J:=Mk co) (p0:=(⟨1,1⟩:Sig)) (Jn3 (bJ.stp ay).rdc) dY)<|Ki λ_ _ bo=>⟨((ay.tr bo).cl R),Jn 2 R<|Oh h<|Jv1 _ ((ay.tr bo).cl R) ⟨R,_,Fct⟩<|KM R⟩⟩))))) (λdO h=>Jn 2 R<|Jf4 R<|Jf4 R<|Je4 R<|Je4 R<|Jn 2 R<|Oh h<|Jv1 _ (Cl.refl _ _ _) ⟨R,_,Jo3⟩<|KM R)
 rintro _ _ _ ⟨rfl,aG,m⟩
 refine have h:=dF;Jt1 (Jd ?_)
 refine Bk h (λdI h=>Jy R<|Js<|Jp<|Jq<|Jf3 R ?_) (λdI h=>Jx R<|Jf3 R<|Ju<|Jw<|Jb2 (l:=[.tmp 2]) V3 (Jq2 R R) R<|Oh h<|⟨aG,R,Fct⟩)
 revert h
 cases eP:(!O.2)
 refine JF λh=>Jy R<|Js<|Jp<|Jl3 1 R (Ob h λP d0 h=>have bu:=bC.stp (T9 bn aO ah ai c d e f m);Jw3 R C11 (ck (J:=λa=>mp [(11,2)] 0<|aG a) (p0:=(⟨b.b,a3.2.1,a3.2.2⟩:dice)) (Jm2 bu (mp [(11,2)] 0) R R) (((di.mx bR R (R:9+2=11)).stp Fct).map (mp [(11,2)] 0) R R) d0) ?_)
 rintro _ _ ⟨_,rfl,cz,cS⟩
 refine Im cz 23 R (λb1 q eb=>Tv<|Jn 1 R (Ob h λQ d1 h=>have bv:=bu.stp q;Jw3 R C11 (ck (J:=λa=>mp [(25,2)] 0<|b1 a) (p0:=(⟨b.b,P.2.1,P.2.2⟩:dice)) (Jm2 bv (mp [(25,2)] 0) R R) ((cS.mx eb R (R:23+2=25)).map (mp [(25,2)] 0) R R) d1) ?_))
 rintro _ _ ⟨_,rfl,cB,cT⟩
 refine Im cB 26 R (λb2 s ec=>Tv<|Ji4 b2 29 [P.1,Q.1] R Y31 bG R λbs br _ b3 n _=>Tv<|Jn 1 R (Ob h λD d2 h=>have bw:=bv.stp (s.tr n);Jw3 R C11 (ck (J:=λa=>mp [(28,2)] 0<|b3 a) (p0:=(⟨b.b,Q.2.1,Q.2.2⟩:dice)) (Jm2 bw (mp [(28,2)] 0) R R) (((cT.mx ec R (R:26+2=28)).stp n).map (mp [(28,2)] 0) R R) d2) ?_))
 rintro _ _ ⟨_,rfl,cC,cV⟩
 refine Im cC 30 R (λb4 t ed=>Tv<|Jn 1 R (Ob h λE d3 h=>have bx:=bw.stp t;Jw3 R C11 (ck (J:=λa=>mp [(32,2)] 0<|b4 a) (p0:=(⟨b.b,D.2.1,D.2.2⟩:dice)) (Jm2 bx (mp [(32,2)] 0) R R) ((cV.mx ed R (R:30+2=32)).map (mp [(32,2)] 0) R R) d3) ?_))
 rintro _ _ ⟨_,rfl,cD,cX⟩
 refine Im cD 33 R (λb5 u ee=>Tv<|Ji4 b5 36 [D.1,E.1] R Y31 bG R λaT aR aD aa v cY=>Tv<|Jb4 aa (ER E6 2) 37 [29,36] (parts:=[(0,.tmp 57),(1,.tmp 62)]) (cells:=[.slice bs ([P.1,Q.1]:VI).length br,.slice aT ([D.1,E.1]:VI).length aR]) (xs:=([([P.1,Q.1]:VI),([D.1,E.1]:VI)]:VV)) R Y32 bL R ⟨[.slice bs ([P.1,Q.1]:VI).length br],[.slice aT ([D.1,E.1]:VI).length aR],Zl aa aD [29],Zl aa aD [36],R,Zl.sp (l1:=[29]) (l2:=[36]) R,Zl.sr (l1:=[29]) (l2:=[36]),⟨_,_,R,Fct⟩,⟨[.slice aT ([D.1,E.1]:VI).length aR],[],Zl aa aD [36],Zl aa aD [],R,Zl.sp (l1:=[36]) (l2:=[]) R,Zl.sr (l1:=[36]) (l2:=[]),⟨_,_,R,cY⟩,R⟩⟩ λcy ct _ b7 x _=>Tv<|Jn 1 R (Ob h λS d4 h=>have bz:=bx.stp (T3 u v x);Jw3 R C11 (ck (J:=λa=>mp [(35,2)] 0<|b7 a) (p0:=(⟨b.b,E.2.1,E.2.2⟩:dice)) (Jm2 bz (mp [(35,2)] 0) R R) (((cX.mx ee R (R:33+2=35)).stp Fct).map (mp [(35,2)] 0) R R) d4) ?_))
 rintro _ _ ⟨_,rfl,cE,cZ⟩
 refine Im cE 38 R (λb8 y eg=>Tv<|Jn 1 R (Ob h λT d5 h=>have bA:=bz.stp y;Jw3 R C11 (ck (J:=λa=>mp [(40,2)] 0<|b8 a) (p0:=(⟨b.b,S.2.1,S.2.2⟩:dice)) (Jm2 bA (mp [(40,2)] 0) R R) ((cZ.mx eg R (R:38+2=40)).map (mp [(40,2)] 0) R R) d5) ?_))
 rintro _ _ ⟨_,rfl,cF,c0⟩
 refine Im cF 41 R (λb9 z eh=>Tv<|Ji4 b9 44 [S.1,T.1] R Y31 bG R λbq bt _ ca o _=>Tv<|Jn 1 R (Ob h λF d6 h=>have bB:=bA.stp (z.tr o);Jw3 R C11 (ck (J:=λa=>mp [(43,2)] 0<|ca a) (p0:=(⟨b.b,T.2.1,T.2.2⟩:dice)) (Jm2 bB (mp [(43,2)] 0) R R) (((c0.mx eh R (R:41+2=43)).stp o).map (mp [(43,2)] 0) R R) d6) ?_))
 rintro _ _ ⟨_,rfl,cG,c1⟩
 refine Im cG 45 R (λcb A ei=>Tv<|Jn 1 R<|Ob h λG d7 h=>Jw3 R C11 (ck (J:=λa=>mp [(47,2)] 0<|cb a) (p0:=(⟨b.b,F.2.1,F.2.2⟩:dice)) (Jm2 (bB.stp A) (mp [(47,2)] 0) R R) ((c1.mx ei R (R:45+2=47)).map (mp [(47,2)] 0) R R) d7) ?_)
 rintro _ _ ⟨_,rfl,cH,c2⟩
 refine Im cH 48 R (λcc H ej=>Tv<|Ji4 cc 51 [F.1,G.1] R Y31 bG R λaQ aW aE ab I c3=>Tv<|Jb4 ab (ER E6 2) 52 [44,51] (parts:=[(0,.tmp 68),(1,.tmp 73)]) (cells:=[.slice bq ([S.1,T.1]:VI).length bt,.slice aQ ([F.1,G.1]:VI).length aW]) (xs:=([([S.1,T.1]:VI),([F.1,G.1]:VI)]:VV)) R Y32 bL R ⟨[.slice bq ([S.1,T.1]:VI).length bt],[.slice aQ ([F.1,G.1]:VI).length aW],Zl ab aE [44],Zl ab aE [51],R,Zl.sp (l1:=[44]) (l2:=[51]) R,Zl.sr (l1:=[44]) (l2:=[51]),⟨_,_,R,Fct⟩,⟨[.slice aQ ([F.1,G.1]:VI).length aW],[],Zl ab aE [51],Zl ab aE [],R,Zl.sp (l1:=[51]) (l2:=[]) R,Zl.sr (l1:=[51]) (l2:=[]),⟨_,_,R,c3⟩,R⟩⟩ λcr cv _ cd K _=>Tv<|Jf R (Jn4 [.slice cy ([([P.1,Q.1]:VI),([D.1,E.1]:VI)]:VV).length ct,.slice cr ([([S.1,T.1]:VI),([F.1,G.1]:VI)]:VV).length cv] R)<|Jy3 cd 53 R X38 R λ_ _ a4 L c4=>Tv<|Jm4 a4 53 R Z38 R c4 R λ_ M c5=>Tv<|Jd<|Jj3 (have Y:=aA.stp (c.tr<|d.tr<|e.tr<|f.tr<|m.tr<|q.tr<|s.tr<|n.tr<|t.tr<|u.tr<|v.tr<|x.tr<|y.tr<|z.tr<|o.tr<|A.tr<|H.tr<|I.tr<|K.tr<|L.tr M);Jg4 tv R (Jh4 (haE Y.cells) I28 Z28 R) (Jg4 tv R (Jh4 (haE c5.cells) I38 Z38 R) (have az:=dz.stp (c.tr<|d.tr<|e.tr<|f.tr<|m.tr<|q.tr<|s.tr<|n.tr<|t.tr<|u.tr<|v.tr<|x.tr<|y.tr<|z.tr<|o.tr<|A.tr<|H.tr<|I.tr<|K.tr<|L.tr M);Jg4 tv R (Jh4 (haE az.cells) I34 Z34 R) (Ob h λet d8 h=>have eJ:=(dw.mx (bI _) bU R (R:13+2=15)).stp (ah.tr<|ai.tr<|c.tr<|d.tr<|e.tr<|f.tr<|m.tr<|q.tr<|s.tr<|n.tr<|t.tr<|u.tr<|v.tr<|x.tr<|y.tr<|z.tr<|o.tr<|A.tr<|H.tr<|I.tr<|K.tr<|L.tr M);have eK:=(dx.mx (cK (bI _) _) bU R (R:13+3=16)).stp (ah.tr<|ai.tr<|c.tr<|d.tr<|e.tr<|f.tr<|m.tr<|q.tr<|s.tr<|n.tr<|t.tr<|u.tr<|v.tr<|x.tr<|y.tr<|z.tr<|o.tr<|A.tr<|H.tr<|I.tr<|K.tr<|L.tr M);Jw3 R call12 (xf (J:=Mk a4) (p0:=(⟨1,1⟩:Sig)) (p1:=(⟨([([P.1,Q.1]:VI),([D.1,E.1]:VI)]:VV),([([S.1,T.1]:VI),([F.1,G.1]:VI)]:VV)⟩:Machine)) (p2:=O.1) Gct Gct Gct Gct d8) ?_)))))
 rintro _ _ ⟨_,ez,eD,eB,eG,rfl,cI,c6,c7⟩
 refine Im cI 54 R (λce B bP=>Tv<|Jn 3 R<|Jy3 ce 58 R X44 R λ_ _ aH g c9=>Tv<|Jm4 aH 58 R Z44 R c9 R λen i da=>Tv<|Jb 1 R<|Jq<|Jl3 3 R<|Ob h λbV h dB=>Jk4 [3,4,5,6] 90 bV aH en 5 tv ?_ ?_)
 exact Bk h (λdJ h=>Jg4 tv R (Jh4 (haE (Y.stp<|T3 B g i).cells) I28 Z28 R)<|Jn 1 R<|Jg4 tv R (Jh4 (haE da.cells) I44 Z44 R)<|Ob h λ_ d9 h=>Jw3 R call13 (qU (J:=Mk aH) (p0:=(⟨1,1⟩:Sig)) (p2:=et.1) (Jn3 (V.stp<|c.tr<|d.tr<|e.tr<|f.tr<|m.tr<|q.tr<|s.tr<|n.tr<|t.tr<|u.tr<|v.tr<|x.tr<|y.tr<|z.tr<|o.tr<|A.tr<|H.tr<|I.tr<|K.tr<|L.tr<|M.tr<|B.tr<|g.tr i).rdc) (Jn3 ((c6.mx (bI _) bP R (R:54+2=56)).stp (g.tr i)).rdc) (Jn3 ((c7.mx (bI _) bP R (R:54+3=57)).stp (g.tr i)).rdc) d9)<|Kb λ_ _ _=>Tv<|Jn 1 R<|Oh h<|Jv1 _ tv ⟨R,_,Fct⟩<|KM R) (λdJ h=>Je4 R<|Jn 1 R<|Je4 R<|Je4 R<|Jn 1 R<|Oh h<|Jl4 tv R)
 rintro _ eo _ ⟨rfl,a6,U⟩
 refine Jn 1 R<|Ob dB λbW h dC=>Jk4 [3,4,5,6] 97 bW a6 eo 6 tv ?_ ?_
 revert h
 cases eQ:bV
 exact have bg:=(T4 B g i U);JF λh=>Jg4 tv R (Jh4 (haE (Y.stp bg).cells) I28 Z28 R)<|Jg4 tv R (Jh4 (haE (az.stp bg).cells) I34 Z34 R)<|Jn 1 R<|Ob h λ_ ea h=>Jw3 R call14 (ut (J:=Mk a6) (p0:=(⟨1,1⟩:Sig)) (p1:=O.1) Gct Gct (Jn3 (V.stp<|c.tr<|d.tr<|e.tr<|f.tr<|m.tr<|q.tr<|s.tr<|n.tr<|t.tr<|u.tr<|v.tr<|x.tr<|y.tr<|z.tr<|o.tr<|A.tr<|H.tr<|I.tr<|K.tr<|L.tr<|M.tr<|B.tr<|g.tr<|i.tr U).rdc) ea)<|Kb λ_ _ _=>Tv<|Jn 2 R<|Oh h<|Jv1 _ tv ⟨R,_,Fct⟩<|KM R
 exact JT λh=>Je4 R<|Je4 R<|Jn 1 R<|Je4 R<|Jn 2 R<|Oh h<|Jl4 tv R
 rintro _ ep _ ⟨rfl,a7,ae⟩
 refine Jn 1 R<|Ob dC λek h dD=>Jk4 [3,4,5,6] 104 ek a7 ep 6 tv ?_ ?_
 revert h
 cases eR:bW
 exact have bi:=(T5 B g i U ae);JF λh=>Jg4 tv R (Jh4 (haE (Y.stp bi).cells) I28 Z28 R)<|Jg4 tv R (Jh4 (haE (az.stp bi).cells) I34 Z34 R)<|Jn 1 R<|Ob h λ_ dQ h=>Jw3 R call15 (uH (J:=Mk a7) (p0:=(⟨1,1⟩:Sig)) (p1:=O.1) Gct Gct (Jn3 (V.stp<|c.tr<|d.tr<|e.tr<|f.tr<|m.tr<|q.tr<|s.tr<|n.tr<|t.tr<|u.tr<|v.tr<|x.tr<|y.tr<|z.tr<|o.tr<|A.tr<|H.tr<|I.tr<|K.tr<|L.tr<|M.tr<|B.tr<|g.tr<|i.tr<|U.tr ae).rdc) dQ)<|Kb λ_ _ _=>Tv<|Jn 2 R<|Oh h<|Jv1 _ tv ⟨R,_,Fct⟩<|KM R
 exact JT λh=>Je4 R<|Je4 R<|Jn 1 R<|Je4 R<|Jn 2 R<|Oh h<|Jl4 tv R
 rintro _ bZ _ ⟨rfl,ao,aJ⟩
 refine have h:=dD;Jd ?_
 refine Bk h (λdK h=>Jy R<|Js<|Jp<|Jq<|Jf3 R<|Ob h λbX dH bM=>Jx1 (λad j=>∃k,∃aC:Int×Int,ad=[]/\Stp [50,59,61,62,64,66,67,68] ao bZ k j/\Bc k j 50 aZ 52 [.slice aX b.b.length aP,vi aC.1,.int .u64 aC.2]/\bX=Sum.inr aC) (Jv<|Ju3 [3,4,5,6] (λan aF ad j=>∃k N,∃p:Int×Int,ad=(13,vi N)::aF/\Stp [50,59,61,62,64,66,67,68] ao bZ k j/\Bc k j 50 aZ 52 [.slice aX b.b.length aP,vi p.1,.int .u64 p.2]/\0<=N/\Int.toNat (4-N)=an/\cntM (jI b a3 O) an N p=some bX) ⟨_,_,⟨ao,0,(G.2.1,G.2.2),R,Jo3,((c2.mx ej R (R:48+2=50)).stp Fct),(by decide),(by simp),dH⟩,(KM R)⟩ ?_) ?_) (λdK h=>Jx R<|Jf3 R<|Ju<|Jw<|Jb2 (l:=[.tmp 2]) V3 (Jq2 R R) R<|Oh h<|⟨ao,R,Fct⟩)
 rintro an _ eq ⟨ac,N,p,rfl,aK,dc,dG,bK,h⟩
 rcases an with _|an
 exact Jq<|Jf3 R<|Jx2 R (dcf bK)<|Jc1<|Jt<|Jt<|Jb1<|Oh h<|Jw1 _ ⟨ac,(p.1,p.2),R,Fct,dc,R⟩ KN
 refine Ob h λeS h bN=>have aB:=dct bK;Jq (Jf3 R<|Jw2 R aB<|Js<|Jp<|Jq<|Jv<|Jq<|Ob h λW bO h=>Ob h λZ a0 h=>Jt3 [3,4,5,6,13] (λaF ad j=>∃k C aU aY aS aV,ad=(14,.pointer (some ⟨C,0,none⟩))::(15,.bool Z.2)::aF/\Stp [50,59,61,62,64,66,67,68] ac eq k j/\Oc E6 2 k j 59 aU aY Z.1.Stem/\Oc E6 2 k j 60 aS aV Z.1.Loop/\Bc k j 50 aZ 52 [.slice aX b.b.length aP,vi W.2.1,.int .u64 W.2.2]/\Bc k j 61 C 44 [.slice aU Z.1.Stem.length aY,.slice aS Z.1.Loop.length aV]) (have bj:=(T7 B g i U ae aJ aK);WC.rxt (J:=ac) [8,17] none (by kernel_rfl) λ_ af=>Jq1 (fuel:=8) [(2,2),(0,0),(1,0)] (by kernel_rfl) (by kernel_rfl) R<|Jn 1 R<|Jg R (Jh4 (haC (Y.stp<|bj.tr af).cells R) I28 Z28 R)<|Jg R (Jh4 (haC (az.stp<|bj.tr af).cells R) I34 Z34 R)<|Jp1<|WA.fork2 (fuel:=7) 3 8 (by kernel_rfl) R (Jw3 R call17 (r7 (J:=λa=>mp [(50,2)] 0<|ac a) (p0:=(⟨b.b,p.1,p.2⟩:dice)) (Jm2 Fct (mp [(50,2)] 0) R R) Fct bO) ?_)<|Jy3 ac 59 R X44 R λC _ cj av dq=>⟨(av.cl R),Jp1<|Jq1 (fuel:=0) [(3,1),(4,1),(5,2),(6,2),(7,2),(9,1),(10,2)] (by kernel_rfl) (by kernel_rfl) R<|Jw3 R call17 (r7 (J:=λa=>mp [(50,2)] 0<|cj a) (p0:=(⟨b.b,p.1,p.2⟩:dice)) (Jm2 Fct (mp [(50,2)] 0) R R) Fct bO) ?_⟩) ?_)
 rintro _ _ ⟨_,cw,cs,cx,cu,rfl,cL,df,dg,dh⟩
 refine Im cL 59 R (λa9 X a1=>⟨(X.cl R),have eL:=df.mx (bI _) a1 R (R:59+3=62);have eM:=dg.mx (bI _) a1 R (R:59+4=63);have bD:=dh.mx a1 R (R:59+2=61);Jp1 (WA.fork2 (fuel:=6) 4 8 (by kernel_rfl) R (Jw3 R call16 (kV (J:=Mk a9) (p0:=(⟨1,1⟩:Sig)) (p1:=O.1) (p2:=W.1) Gct Gct Gct Gct a0) ?_)<|Jy3 a9 64 R X44 R λC _ ci ar dm=>⟨((X.tr ar).cl R),Jp1<|Jq1 (fuel:=0) [(4,1),(5,2),(6,2),(7,2),(9,1),(10,2)] (by kernel_rfl) (by kernel_rfl) R<|Jw3 R call16 (kV (J:=Mk ci) (p0:=(⟨1,1⟩:Sig)) (p1:=O.1) (p2:=W.1) Gct Gct Gct Gct a0) ?_⟩)⟩)
 rintro _ _ ⟨_,am,aj,ak,al,rfl,cM,dj,dk⟩
 exact Im cM 64 R (λcg aL bQ=>have aI:=(X.tr aL);⟨(aI.cl R),Jp1<|Jq1 (fuel:=0) [(5,2),(6,2),(7,2),(8,1),(9,1),(10,2)] (by kernel_rfl) (by kernel_rfl) R<|Jn 3 R<|Jy3 cg 68 R X44 R λC _ ba aq dl=>⟨((aI.tr aq).cl R),Jm4 ba 68 R Z44 R dl R λ_ aM _=>⟨((T3 aI aq aM).cl R),Jn 1 R<|Jp1<|Jr1 [] (by kernel_rfl) (by kernel_rfl) R<|Jo<|Jw1 _ ⟨(λa=>ren [(66,59),(67,60),(61,50),(68,61)]<|ba a),C,am,aj,ak,al,R,(Jz2 ((T5 af X aL aq aM).wk R) [(66,59),(67,60),(61,50),(68,61)] R),(((dj.mx (bI _) bQ R (R:64+2=66)).stp Fct).map (ren [(66,59),(67,60),(61,50),(68,61)]) R R),(((dk.mx (bI _) bQ R (R:64+3=67)).stp Fct).map (ren [(66,59),(67,60),(61,50),(68,61)]) R R),((bD.stp<|T3 aL aq aM).map (ren [(66,59),(67,60),(61,50),(68,61)]) R R),Fct⟩<|KM R⟩⟩⟩)
 rintro _ _ ⟨_,am,aj,ak,al,rfl,cN,dn,dp⟩
 exact Im cN 65 R (λbb au bS=>have bk:=(T3 X ar au);⟨(bk.cl R),Jn 3 R<|Jm4 bb 64 R Z44 R (dm.stp au) R λ_ ag _=>⟨((bk.tr ag).cl R),Jn 1 R<|Jp1<|Jr1 [] (by kernel_rfl) (by kernel_rfl) R<|Jo<|Jw1 _ ⟨(λa=>ren [(67,59),(68,60),(61,50),(64,61)]<|bb a),C,am,aj,ak,al,R,(Jz2 ((T5 af X ar au ag).wk R) [(67,59),(68,60),(61,50),(64,61)] R),(((dn.mx (bI _) bS R (R:65+2=67)).stp ag).map (ren [(67,59),(68,60),(61,50),(64,61)]) R R),(((dp.mx (bI _) bS R (R:65+3=68)).stp ag).map (ren [(67,59),(68,60),(61,50),(64,61)]) R R),((bD.stp<|T3 ar au ag).map (ren [(67,59),(68,60),(61,50),(64,61)]) R R),Fct⟩<|KM R⟩⟩)
 rintro _ _ ⟨_,cw,cs,cx,cu,rfl,cO,dr,ds,dt⟩
 refine Im cO 60 R (λcl aw a2=>⟨((av.tr aw).cl R),Jw3 R call16 (kV (J:=Mk cl) (p0:=(⟨1,1⟩:Sig)) (p1:=O.1) (p2:=W.1) Gct Gct (Jn3 (dr.mx (bI _) a2 R (R:60+3=63)).rdc) (Jn3 (ds.mx (bI _) a2 R (R:60+4=64)).rdc) a0) ?_⟩)
 rintro _ _ ⟨_,am,aj,ak,al,rfl,cP,du,dv⟩
 exact Im cP 65 R (λbd aN bT=>have bl:=(T3 av aw aN);⟨(bl.cl R),Jn 3 R<|Jm4 bd 59 R Z44 R (dq.stp<|aw.tr aN) R λ_ ax _=>⟨((bl.tr ax).cl R),Jn 1 R<|Jp1<|Jr1 [] (by kernel_rfl) (by kernel_rfl) R<|Jo<|Jw1 _ ⟨(λa=>ren [(67,59),(68,60),(62,50),(59,61)]<|bd a),C,am,aj,ak,al,R,(Jz2 ((T5 af av aw aN ax).wk R) [(67,59),(68,60),(62,50),(59,61)] R),(((du.mx (bI _) bT R (R:65+2=67)).stp ax).map (ren [(67,59),(68,60),(62,50),(59,61)]) R R),(((dv.mx (bI _) bT R (R:65+3=68)).stp ax).map (ren [(67,59),(68,60),(62,50),(59,61)]) R R),(((dt.mx a2 R (R:60+2=62)).stp Fct).map (ren [(67,59),(68,60),(62,50),(59,61)]) R R),Fct⟩<|KM R⟩⟩)
 rintro _ er ⟨a8,C,aU,aY,aS,aV,rfl,bm,_,_,_,dd⟩
 refine Jp<|Jl3 3 R<|Ob h λel h dE=>Jk4 [3,4,5,6,13] 124 el a8 er 5 tv ?_ ?_
 exact Bk h (λdL h=>Jg4 tv R (Jh4 (haE (Y.stp<|T8 B g i U ae aJ aK bm).cells) I28 Z28 R)<|Jn 1 R<|Jg4 tv R (Jh4 (haE dd.cells) I44 Z44 R)<|Ob h λ_ dR h=>Jw3 R call13 (qU (J:=Mk a8) (p0:=(⟨1,1⟩:Sig)) (p2:=Z.1) (Jn3 (V.stp<|c.tr<|d.tr<|e.tr<|f.tr<|m.tr<|q.tr<|s.tr<|n.tr<|t.tr<|u.tr<|v.tr<|x.tr<|y.tr<|z.tr<|o.tr<|A.tr<|H.tr<|I.tr<|K.tr<|L.tr<|M.tr<|B.tr<|g.tr<|i.tr<|U.tr<|ae.tr<|aJ.tr<|aK.tr bm).rdc) Gct Gct dR)<|Kb λ_ _ _=>Tv<|Jn 1 R<|Oh h<|Jv1 _ tv ⟨R,_,Fct⟩<|KM R) (λdL h=>Je4 R<|Jn 1 R<|Je4 R<|Je4 R<|Jn 1 R<|Oh h<|Jl4 tv R)
 rintro _ _ _ ⟨rfl,be,_⟩
 refine have h:=dE;Jd ?_
 refine Bk h (λdM h=>Jy R<|Js<|Jz<|Jp<|Jg3 R ?_) (λdM h=>Jx R<|Jf3 R<|Ju<|Ja1<|Jw<|Jw ?_)
 have dP:ET .i64 (N+1)=N+1:=wr1 dG (Jn2 aB) (by decide)
 rw[dP]
 have aB:=Jn2 aB
 cases h
 exact Ja2 ⟨be,N+1,(W.2.1,W.2.2),R,Fct,Fct,by omega,by omega,bN⟩ R
 cases h
 obtain rfl:=Option.some.inj bN
 exact have h:=yL bM;Ja1 (Jr2<|Jw<|Jb2 (l:=[.tmp 2]) V3 (Jq2 R R) R<|Oh h<|⟨be,R,Fct⟩)
 rintro _ _ ⟨cf,aC,rfl,_,_,rfl⟩
 exact have h:=yI bM;Jp (Jf3 R<|Ju<|Jb2 (l:=[.tmp 2]) V3 (Jq2 R R) R<|Oh h<|⟨cf,R,Fct⟩)
 exact have bh:=(T5 c d e f m);JT λh=>Jx R<|Jj3<|Jg4 tv R (Jh4 (haE (aA.stp bh).cells) I28 Z28 R)<|Jn 1 R<|Ob h λ_ dZ h=>Jw3 R call9 (pX (J:=Mk aG) (p0:=(⟨1,1⟩:Sig)) (Jn3 (V.stp bh).rdc) dZ)<|Ki λ_ b0 _=>Tv<|Jb 2 R<|Ju<|Jw<|Jb2 (l:=[.tmp 2]) V3 (Jq2 R R) R<|Oh h<|⟨b0,R,Fct⟩
end
end Go.Proofs.YtfombamjdkihnaaGreat
