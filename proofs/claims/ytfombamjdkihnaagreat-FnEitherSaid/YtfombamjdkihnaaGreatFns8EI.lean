/- The walks, part 8. By program. -/
import Derived.Test.YtfombamjdkihnaaGreatFns7EI
set_option linter.unusedVariables false
set_option linter.unusedSimpArgs false
open Go.Wk.Ep renaming fz → EZ, own → ER
open Int renaming toNat → ES
open Go.IntKind renaming wrap → ET
open Option.some renaming inj → EU
open Go.Wk.Ow renaming nil → EY
open Go.Wk.Sl renaming srcP → EV
open Sum renaming inr → EW
namespace Go.Proofs.YtfombamjdkihnaaGreat
open Tryz
open Go Go.Wk Go.Proofs
set_option maxRecDepth 100000
set_option maxHeartbeats 1000000
section
variable {w:World}{J:Col}
theorem sn {p0:Sig}{b c}{p1:VC}(k:Rd Clause.rp J w 0 b c p1){r:Bool}(h:kc p0 p1=some r):Ret prog 53 [.agg #[vi p0.In,vi p0.Out],.slice b p1.length c] w (Pvb J w r):=by
 refine Jp3 J func53 R ntmps53 R λm=>Jj3<|Jx3 J 2 R λ_ j a _ _=>Tv<|Jb 1 R<|Jl3 1 R<|Js3 R U29 R R<|Jn 2 R<|Ob h λi h e=>Jk4 [4] 13 i a j 5 tv ?_ ?_
 exact Bk h (λf h=>Jn 2 R<|Je4 R<|Jn 2 R<|Oh h<|Jl4 tv R) (λf h=>Jn 1 R<|Jf R (dH (first:=[]) (captured:=[.tmp 2]) R R R ⟨_,R⟩)<|Ob h λ_ g h=>Jw3 R call100 (dK (J:=Mk a) (c1_0:=p0) Gct Fct g)<|Kb λ_ _ _=>Tv<|Jn 2 R<|Oh h<|Jv1 _ tv ⟨R,_,Fct⟩<|KM R)
 rintro _ _ _ ⟨rfl,d,_⟩
 exact have h:=e;Jb 1 R (Ju<|Jb2 (l:=[.tmp 4]) results53 (Jq2 R R) R<|Oh h<|⟨d,R,Fct⟩)
theorem mD {I H G F}{p0:Arena}{E X}{p1:VP}{p2:Int}(aX:Rd Ri J w 0 I H p0.Owner) (aY:Rd Rs J w 0 G F p0.Next) (aK:Rd Pair.rp J w 0 E X p1){r:Parity×VL×Bool}(h:d8 p0 p1 p2=some r):Ret prog 21 [.agg #[.slice I p0.Owner.length H,.slice G p0.Next.length F],.slice E p1.length X,vi p2] w (λaS a=>∃b O T P U Q V S W,aS= .tuple #[.agg #[.slice O r.1.Arena.Owner.length T,.slice P r.1.Arena.Next.length U,.slice Q r.1.Prio.length V],.slice S r.2.1.length W,.bool r.2.2]/\Ent J w b a/\Oc E6 2 b a 2 O T r.1.Arena.Owner/\Oc (EZ Rs) 31 b a 3 P U r.1.Arena.Next/\Oc E6 2 b a 4 Q V r.1.Prio/\Oc (EZ Place.rp) 76 b a 5 S W r.2.1):=by
 refine Jp3 J func21 R ntmps21 R λaZ=>Jj3<|Jx3 J 2 R λ_ _ ac _ aC=>Tv<|Jx3 ac 3 R λ_ _ ah ak aI=>Tv<|Jy3 ah 4 R X66 R λ_ _ ab B _=>Tv<|Jb 2 R<|Jl3 1 R<|Jf R (Jn4 [vi p2,.slice none 0 0] R)<|Jy3 ab 5 R zeroValue76 R λK _ g C aw=>Tv<|Jm4 g 5 R Z76 R aw R λY D ax=>Tv<|Jd<|Jq<|Jj3<|Jc3 R I56 ((aI.stp<|T3 B C D).ld 0 R R)<|Js3 R U56 R R<|Jb 1 R<|Ob h λN aO aL=>Jt3 [3,4,6,9] (λo p a=>∃b,∃f:VI,∃u s,p=o/\Stp [5,6] g Y b a/\Oc E6 2 b a 6 u s f/\Bc b a 5 K 76 [vi p2,.slice u f.length s]/\N=EW f) (Jv<|Ju3 [3,4,6,9,14] (λd o p a=>∃b c,∃e:VI,∃k j,p=(15,vi c)::o/\Stp [5,6] g Y b a/\Oc E6 2 b a 6 k j e/\Bc b a 5 K 76 [vi p2,.slice k e.length j]/\0<=c/\ES ((p1.length:Int)-c)=d/\cntM mC d c e=some N) ⟨_,_,⟨g,0,([]:VI),none,0,R,Jo3,EY,ax,(by decide),(by simp),aO⟩,(KM R)⟩ ?_) ?_
 rintro d _ _ ⟨y,c,e,k,j,rfl,_,aA,L,aM,M,h⟩
 rcases d with _|d
 exact Jf3 R<|Jq<|Jx2 R (dcf M)<|Jc1<|Jt<|Jt<|Jb1<|Oh h<|Jw1 _ ⟨y,e,k,j,R,Fct,aA,L,R⟩<|KM R
 refine Ob h λa0 h aN=>have m:=dct M;Jf3 R (Jq<|Jw2 R m<|Js<|Jp<|Jq<|Jv<|Jf3 R<|Jk3<|Je3 R U76 R Z31<|Jc3 R I31 (L.ld 1 R R)<|Jn 1 R<|Ji4 y 7 [c] R Y31 bG R λaW aV _ ae _ aB=>Tv<|Ob h λx aQ h=>Jd4 ae E6 6 [] R Y31 bG R Fct (EV (bO _) aB.rdc) bJ aQ R λt q _ z _ _=>Tv<|Je3 R U76 R Z31<|Jz3 z 5 (off:=1) (vc:=[.slice t x.length q]) (cs':=[vi p2,.slice t x.length q]) R Z31 R Fct R λ_ _ aD=>Tv<|Jo<|Jz<|Jp<|Jg3 R ?_)
 have aP:ET .i64 (c+1)=c+1:=wr1 aM (Jn2 m) aK.len_le
 rw[aP]
 have m:=Jn2 m
 cases h
 exact Ja2 ⟨z,c+1,x,t,q,R,Fct,Fct,aD,by omega,by omega,aN⟩ R
 rintro _ Z ⟨ad,f,u,s,rfl,ai,ay,az,rfl⟩
 refine have h:=yI aL;Jp (Jj3<|Jg4 tv R (Jh4 (haE (aC.stp<|T5 ak B C D ai).cells) I62 Z62 R)<|Jg4 tv R (Jh4 (haE az.cells) I76 Z76 R)<|Jf R (dH (first:=[]) (captured:=[.tmp 4]) R R R ⟨_,R⟩)<|Jf R (dH (first:=[]) (captured:=[.tmp 4]) R R R ⟨_,R⟩) ?_)
 obtain⟨af,_,aT⟩:=dg ad Z 6
 obtain⟨ag,aj,aU⟩:=dg af Z 3
 refine Ob h λ_ aR h=>Jw3 R call60 (eS (J:=λv=>mp [] 1<|ag v) (p0:=p0) (p1:=(⟨p2,f⟩:Place)) (Jm2 Fct (mp [] 1) R R) (Jm2 Fct (mp [] 1) R R) (Jm2 ((Sl.st aT ay.rdc).stp aj) (mp [] 1) R R) (Jm2 Fct (mp [] 1) R R) ((Bc.fzz aU Fct).map (mp [] 1) R R) aR) ?_
 rintro _ _ ⟨_,am,al,ao,ap,au,ar,an,aq,rfl,av,aE,aF,aG,aH⟩
 exact Im0 av 7 R (λA _ n aa=>Tv<|Jn 3 R<|Jm4 A 4 R Z66 R Fct R λ_ i aJ=>Tv<|Jb 2 R<|Ju<|Jb2 (l:=[.cell 6 66,.tmp 7,.tmp 8]) results21 (bM R aJ I66 Z66 R<|Jq2 R<|Jq2 R R) R<|Oh h<|⟨(λv=>ren [(9,2),(10,3),(11,4),(12,5)]<|A v),am,al,ao,ap,au,ar,an,aq,R,Fct,(((aE.mx (bI _) n R (R:7+2=9)).stp i).map (ren [(9,2),(10,3),(11,4),(12,5)]) R R),(((aF.mxz aa n R (R:7+3=10)).stp i).map (ren [(9,2),(10,3),(11,4),(12,5)]) R R),(((aG.mx (bI _) n R (R:7+4=11)).stp i).map (ren [(9,2),(10,3),(11,4),(12,5)]) R R),(((aH.mxz aa n R (R:7+5=12)).stp i).map (ren [(9,2),(10,3),(11,4),(12,5)]) R R)⟩)
theorem rX {k o q m p n}{p0:Parity}(af:Rd Ri J w 0 k o p0.Arena.Owner) (ag:Rd Rs J w 0 q m p0.Arena.Next) (ah:Rd Ri J w 0 p n p0.Prio){r:Answer}(h:mR p0=some r):Ret prog 24 [.agg #[.slice k p0.Arena.Owner.length o,.slice q p0.Arena.Next.length m,.slice p p0.Prio.length n]] w (λaa f=>∃g u x v y,aa= .agg #[.slice u r.Won.length x,.slice v r.Plan.length y]/\Ent J w g f/\Oc E6 2 g f 2 u x r.Won/\Oc E6 2 g f 3 v y r.Plan):=by
 refine Jp3 J func24 R ntmps24 R λai=>Jj3<|Jx3 J 2 R λ_ _ z _ P=>Tv<|Jy3 z 3 R X73 R λ_ _ C F _=>Tv<|Jd<|Jq<|Jj3 (have s:=P.stp F;Jg4 tv R (Jh4 (haE s.cells) I66 Z66 R) (Ob h λaj Z h=>Jw3 R call68 (uv (J:=Mk C) (p0:=p0) Gct Gct Gct Z)<|Kb λ_ a D=>Tv<|Jb 1 R ?_))
 refine Bk h (λV h=>Jy R<|Js<|Jp<|Jq<|Xn a [2] [5,0,6,12,10,16,19,22] λ_ E=>Je3 R U66 R Z62 (have e:=s.stp (D.tr E);Jg R (Jh4 (haC e.cells R) I66 Z66 R) (Jg R (Jh4 (haC (e.lds 0 2 R) R) I62 Z62 R)<|Jg R (Jh4 (haC e.cells R) I66 Z66 R)<|Ob h λ_ W h=>Jw3 R call70 (xl (J:=Mk a) (p0:=p0.Arena) Gct Gct W)<|Ks 8 (bI _) λac ad _ A b O=>⟨(b.cl R),Ob h λ_ X h=>Jw3 R call22 (ku (J:=Mk A) (p0:=p0) Gct Gct Gct X)<|Ks 11 (bI _) λab ae _ B c Q=>⟨((b.tr c).cl R),Ob h λ_ Y h=>Jw3 R call69 (uC (J:=Mk B) (p0:=p0) Gct Gct Gct (Jn3 (O.stp c).rdc) (Jn3 Q.rdc) Y) ?_⟩⟩))) (λV h=>Jx R<|Jj3<|Jf R (Jn4 [.slice none 0 0,.slice none 0 0] R)<|Jm4 a 3 R Z73 R Fct R λ_ _ N=>Tv<|Jd<|Ju<|Jw<|Jb2 (l:=[.cell 2 73]) results24 (bM R N I73 Z73 R R) R<|Oh h<|⟨a,none,0,none,0,R,Fct,EY,EY⟩)
 rintro _ _ ⟨_,G,H,I,K,rfl,M,S,T⟩
 exact Im M 12 R (λi j t=>⟨((T3 b c j).cl R),Jm4 i 3 R Z73 R Fct R λ_ d U=>⟨((T4 b c j d).cl R),Jt1<|Jd<|Ju<|Jb2 (l:=[.cell 2 73]) results24 (bM R U I73 Z73 R R) R<|Oh h<|⟨(λL=>ren [(14,2),(15,3)]<|i L),G,H,I,K,R,Fct,(((S.mx (bI _) t R (R:12+2=14)).stp d).map (ren [(14,2),(15,3)]) R R),(((T.mx (bI _) t R (R:12+3=15)).stp d).map (ren [(14,2),(15,3)]) R R)⟩⟩⟩)
theorem tm {p0:Sig}{S Q T P}{p1:Det}{p2:Int}{H:Int}{I:Int}(W:Rd Rs J w 0 S Q p1.Next) (bc:Rd Pair.rp J w 0 T P p1.Pairs){r:VI}(h:lK p0 p1 p2 H I=some r):Ret prog 29 [.agg #[vi p0.In,vi p0.Out],.agg #[.slice S p1.Next.length Q,.slice T p1.Pairs.length P],vi p2,vi H,vi I] w (Pvs E6 2 J w r):=by
 refine Jp3 J func29 R ntmps29 R λbd=>Jj3<|Jx3 J 2 R λ_ _ ae al aw=>Tv<|Jx3 ae 3 R λ_ _ ai O G=>Tv<|Jb 1 R<|Jq<|Jj3 (have u:=aw.stp O;Jg4 tv R (Jh4 (haE u.cells) I28 Z28 R) (Ob h λbf aT h=>Jw3 R call33 (jl (J:=Mk ai) (p0:=p0) aT)<|Kb λa4 L c=>Tv<|Jn 2 R<|Ob h λaZ h aA=>Jk4 [2,3,4,5,6] 21 aZ L a4 5 tv ?_ ?_))
 exact Bk h (λaN h=>Jg4 tv R (Jh4 (haE (u.stp c).cells) I28 Z28 R)<|Jg4 tv R (Jh4 (haE (G.stp c).cells) I58 Z58 R)<|Ob h λ_ aU h=>Jw3 R call71 (tx (J:=Mk L) (p0:=p0) (p1:=p1) Gct Gct aU)<|Kb λ_ _ _=>Tv<|Jn 2 R<|Oh h<|Jv1 _ tv ⟨R,_,Fct⟩<|KM R) (λaN h=>Je4 R<|Je4 R<|Je4 R<|Jn 2 R<|Oh h<|Jl4 tv R)
 rintro _ a5 _ ⟨rfl,af,f⟩
 refine Jn 1 R<|Ob aA λa0 h aB=>Jk4 [2,3,4,5,6] 25 a0 af a5 3 tv ?_ ?_
 exact Bk h (λaO h=>Jn 3 R<|Oh h<|Jl4 tv R) (λaO h=>Jn 3 R<|Oh h<|Jl4 tv R)
 rintro _ a6 _ ⟨rfl,ag,g⟩
 refine Jn 1 R<|Ob aB λa1 h aC=>Jk4 [2,3,4,5,6] 32 a1 ag a6 6 tv ?_ ?_
 exact Bk h (λaP h=>Jn 1 R<|Je3 R U58 R Z32<|Jc3 R I32 ((G.stp<|T3 c f g).ld 0 R R)<|Js3 R U32 R R<|Jn 2 R<|Oh h<|Jl4 tv R) (λaP h=>Jn 2 R<|Je4 R<|Jn 3 R<|Oh h<|Jl4 tv R)
 rintro _ a7 _ ⟨rfl,ah,n⟩
 refine Jn 1 R<|Ob aC λa2 h aD=>Jk4 [2,3,4,5,6] 36 a2 ah a7 3 tv ?_ ?_
 exact Bk h (λaQ h=>Jn 3 R<|Oh h<|Jl4 tv R) (λaQ h=>Jn 3 R<|Oh h<|Jl4 tv R)
 rintro _ a8 _ ⟨rfl,M,o⟩
 refine Jn 1 R<|Ob aD λa3 h aE=>Jk4 [2,3,4,5,6] 42 a3 M a8 5 tv ?_ ?_
 exact Bk h (λaR h=>Jn 1 R<|Jg4 tv R (Jh4 (haE (u.stp<|T5 c f g n o).cells) I28 Z28 R)<|Ob h λ_ aV h=>Jw3 R C25 (cF (J:=Mk M) (p0:=p0) aV)<|Ki λ_ _ _=>Tv<|Jn 2 R<|Oh h<|Jv1 _ tv ⟨R,_,Fct⟩<|KM R) (λaR h=>Jn 1 R<|Je4 R<|Je4 R<|Jn 2 R<|Oh h<|Jl4 tv R)
 rintro _ _ _ ⟨rfl,N,C⟩
 refine have h:=aE;Jd ?_
 refine Bk h (λaS h=>Jy R<|Js<|Jp<|Jj3<|Jc4 N E6 6 R Y31 bG R λaq ap ab z D ax=>Tv<|Jb 1 R<|Jq<|Jj3<|Je3 R U28 R Z2 (have U:=u.stp (T7 c f g n o C D);Jc3 R I2 (U.ld 1 R R) (Ob h λ_z46 aY h=>Jf R (oP R R R<|r8 aY)<|Jb 1 R (Ob h λ_ aL h=>have aH:=hU aL;Ob h λaa aK aF=>Jx1 (λe a=>∃b,∃x:VI,∃t p,e=[(11,.slice t x.length p)]/\Stp [6] z ab b a/\Oc E6 2 b a 6 t p x/\aa=EW x) (Jv<|Ju3 [2,3,4,5,6,46] (λk y e a=>∃b d,∃m:VI,∃j i,e=(11,.slice j m.length i)::(47,vi d)::y/\Stp [6] z ab b a/\Oc E6 2 b a 6 j i m/\0<=d/\ES ((ET .i64 (1 * 2 ^ (min (ES p0.Out)<|IntKind.bits IntKind.i64)))-d)=k/\cntM (iA p0 p1 p2 H I) k d m=some aa) ⟨_,_,⟨z,0,([]:VI),aq,ap,R,Jo3,ax,(by decide),(by simp),aK⟩,(KM R)⟩ ?_) ?_)))) (λaS h=>Jx R<|Jf3 R<|Ju<|Jw<|Jb2 (l:=[.tmp 10]) results29 (Jq2 R R) R<|Oh h<|⟨N,none,0,R,Fct,EY⟩)
 rintro k _ _ ⟨A,d,m,j,i,rfl,E,ay,X,v,h⟩
 rcases k with _|k
 exact Jf3 R<|Jq<|Jx2 R (dcf v)<|Jc1<|Jt<|Jt<|Jb1<|Oh h<|Jw1 _ ⟨A,m,j,i,R,Fct,ay,R⟩<|KM R
 refine Ob h λbe h aI=>Jf3 R<|Jq<|Jw2 R (dct v)<|Js<|Jp<|Jq<|Jv<|Jf3 R<|Jq<|Js1 (J:=A) [0,2,3] none [(0,2),(2,2),(5,2),(9,2),(13,2),(1,0),(3,2),(4,0),(6,0),(7,1),(8,2),(10,2),(11,2),(12,0),(14,2)] [] (by kernel_rfl) (by kernel_rfl) λ_ F=>Je3 R U58 R Z32<|Jn 4 R<|Jg R (Jd2 I32 R R<|hvC ((G.stp<|T9 c f g n o C D E F).ld 0 R R) R)<|Ob h λ_ Y h=>Jd3 R W Y U32 Z31 ?_
 obtain⟨_,_,V,aJ⟩:=(W.stp (T11 al O c f g n o C D E F)).gSl Y
 refine Jg R (Jd2 I31 R R<|hvC aJ R)<|Jg R (Jh4 (haC (U.stp<|E.tr F).cells R) I28 Z28 R)<|Ob h λ_ aW h=>Jw3 R C25 (cF (J:=Mk A) (p0:=p0) aW)<|Ki λa9 B am=>⟨(am.cl R),Jn 2 R<|Ob h λbg Z h=>Jd3 R V Z U31 Z2<|Jg R (Jd2 I2 R R<|hvC (V.gInt Z) R)<|Jn 1 R<|Jt1<|Jd<|Ob h λK h aG=>Jt3 [2,3,4,5,6,46,47] (λy e a=>∃b s q,e=(11,.slice s K.length q)::y/\Stp [6] B a9 b a/\Oc E6 2 b a 6 s q K) ?_ ?_⟩
 exact Bk h (λaM h=>Jy R<|Js<|Oh h<|Jw1 _ ⟨B,j,i,R,Jo3,Fct⟩<|KM R) (λaM h=>Jx R<|Jm3 2 R<|Ji4 B 9 [d] R Y31 bG R λbb ba _ ac _ au=>Tv<|Ob h λ_ aX h=>Jd4 ac E6 6 [] R Y31 bG R Fct (EV (bO _) au.rdc) bJ aX R λao an _ ad _ av=>Tv<|Jc 1 R<|Oh h<|Jw1 _ ⟨ad,ao,an,R,Fct,av⟩<|KM R)
 rintro _ _ ⟨ak,s,q,rfl,_,az⟩
 refine have h:=aG;Jz (Jp<|Jg3 R<|wr2 X v aH ▸ ?_)
 cases h
 exact Ja2 ⟨ak,d+1,K,s,q,R,Fct,az,nxz X,nxm v,aI⟩ R
 rintro _ _ ⟨aj,x,t,p,rfl,_,_,rfl⟩
 exact have h:=yI aF;Jp (Jf3 R<|Ju<|Jb2 (l:=[.tmp 10]) results29 (Jq2 R R) R<|Oh h<|⟨(λar=>ren [(6,2)]<|aj ar),t,p,R,Fct,Fct⟩)
theorem nQ {p0:Sig}{C A D B}{p1:Det}(q:Rd Rs J w 0 C A p1.Next) (aq:Rd Pair.rp J w 0 D B p1.Pairs){r:Bool}(h:nO p0 p1=some r):Ret prog 120 [.agg #[vi p0.In,vi p0.Out],.agg #[.slice C p1.Next.length A,.slice D p1.Pairs.length B]] w (Pvb J w r):=by
 refine Jp3 J func120 R ntmps120 R λar=>Jj3<|Jx3 J 2 R λ_ _ P U W=>Tv<|Jx3 P 3 R λ_ _ S z i=>Tv<|Jb 1 R<|Jj3<|Je3 R U58 R Z32<|Jc3 R I32 (i.ld 0 R R)<|Js3 R U32 R R<|Jb 1 R<|Jq<|Jj3 (have G:=W.stp z;Jg4 tv R (Jh4 (haE G.cells) I28 Z28 R) (Ob h λav ah h=>Jw3 R call91 (ic (J:=Mk S) (p0:=p0) ah)<|Kb λao u b=>Tv<|Jn 2 R<|Ob h λam h X=>Jk4 [2,3,5] 17 am u ao 4 tv ?_ ?_))
 exact Bk h (λad h=>Jn 1 R<|Ob h λ_ ai h=>Jw3 R C92 (dB (J:=Mk u) ai)<|Kb λ_ _ _=>Tv<|Jn 2 R<|Oh h<|Jv1 _ tv ⟨R,_,Fct⟩<|KM R) (λad h=>Jn 1 R<|Je4 R<|Jn 2 R<|Oh h<|Jl4 tv R)
 rintro _ O _ ⟨rfl,f,c⟩
 refine have h:=X;Jd ?_
 refine Bk h (λae h=>Jy R<|Js<|Jp<|Jq<|Jf3 R<|Ob h λN ac H=>Jt3 [3,5] (λk n s=>∃t,n=k/\Stp [] f O t s/\N=EW ()) (Jv<|Ju3 [2,3,5] (λe k n s=>∃t a,n=(6,vi a)::k/\Stp [] f O t s/\0<=a/\ES ((p1.Next.length:Int)-a)=e/\cntM (nP p0 p1) e a ()=some N) ⟨_,_,⟨f,0,R,Jo3,(by decide),(by simp),ac⟩,(KM R)⟩ ?_) ?_) (λae h=>Jx R<|Jf3 R<|Ju<|Jw<|Jb2 (l:=[.tmp 4]) results120 (Jq2 R R) R<|Oh h<|⟨f,R,Fct⟩)
 rintro e _ _ ⟨m,a,rfl,g,I,j,h⟩
 rcases e with _|e
 exact Jq<|Jl3 1 R<|Je3 R U58 R Z32<|Jc3 R I32 ((i.stp<|T3 b c g).ld 0 R R)<|Js3 R U32 R R<|Jb 1 R<|Jx2 R (dcf j)<|Jc1<|Jt<|Jt<|Jb1<|Oh h<|Jw1 _ ⟨m,R,Fct,R⟩<|KM R
 refine Ob h λau h K=>have Z:=dct j;Jq (Jl3 1 R<|Je3 R U58 R Z32 (have E:=i.stp (T3 b c g);Jc3 R I32 (E.ld 0 R R) (Js3 R U32 R R<|Jb 1 R<|Jw2 R Z<|Js<|Jp<|Jq<|Jv<|Jq<|Xn m [0,2,3] [2,8,3,11,12,17,18,22,26,29,32,38,47,33,41,42,49,53,56] λ_ o=>Je3 R U58 R Z32<|Jn 1 R (have F:=E.stp o;Jg R (Jd2 I32 R R<|hvC (F.ld 0 R R) R) (Ob h λaw L h=>Jd3 R q L U32 Z31 ?_)))))
 have p:=q.stp (T6 U z b c g o)
 obtain⟨_,_,_,aa⟩:=p.gSl L
 refine Jg R (Jd2 I31 R R<|hvC aa R)<|Js3 R U31 R R<|Jg R (Jh4 (haC (G.stp<|T4 b c g o).cells R) I28 Z28 R)<|Ob h λax aj h=>Jw3 R call88 (eQ (J:=Mk m) (p0:=p0) aj)<|Ki λap v d=>⟨(d.cl R),Jn 2 R<|Ob h λan h Y=>Jk4 [2,3,5,6] 43 an v ap 9 (d.cl R) ?_ ?_⟩
 refine Bk h (λaf h=>Je3 R U58 R Z32<|Jn 2 R<|Jg R (Jd2 I32 R R<|hvC (F.ld 0 R R) R)<|Ob h λ_ M h=>Jd3 R p M U32 Z31 ?_) (λaf h=>Jn 3 R<|Jf4 R<|Jn 1 R<|Jf4 R<|Je4 R<|Jn 2 R<|Oh h<|Jv1 _ (d.cl R) ⟨R,_,Jo3⟩<|KM R)
 obtain⟨_,_,_,ab⟩:=p.gSl M
 exact Jg R (Jd2 I31 R R<|hvC ab R)<|Ob h λ_ ak h=>Jw3 R call93 (gX (J:=Mk v) Gct ak)<|Kb λ_ _ y=>⟨((d.tr y).cl R),Jn 2 R<|Oh h<|Jv1 _ ((d.tr y).cl R) ⟨R,_,Fct⟩<|KM R⟩
 rintro _ _ _ ⟨rfl,x,_⟩
 refine have h:=Y;Jt1 (Jd ?_)
 refine Bk h (λag h=>Jy R<|Js<|Jz<|Jp<|Jg3 R<|wr2 I j q.len_le ▸ ?_) (λag h=>Jx R<|Jf3 R<|Ju<|Ja1<|Jw<|Jw ?_)
 cases h
 exact Ja2 ⟨x,a+1,R,Fct,nxz I,nxm j,K⟩ R
 cases h
 obtain rfl:=EU K
 exact have h:=yL H;Ja1 (Jr2<|Jw<|Jb2 (l:=[.tmp 4]) results120 (Jq2 R R) R<|Oh h<|⟨x,R,Fct⟩)
 rintro _ _ ⟨Q,rfl,V,rfl⟩
 exact have h:=yI H;Jp (Jj3<|Je3 R U58 R Z56<|Jc3 R I56 ((i.stp<|T3 b c V).ld 1 R R)<|Jn 1 R<|Ob h λ_ al h=>Jw3 R call124 (rb (J:=Mk Q) Gct al)<|Kb λ_ T _=>Tv<|Jb 1 R<|Ju<|Jb2 (l:=[.tmp 4]) results120 (Jq2 R R) R<|Oh h<|⟨T,R,Fct⟩)
theorem p5 {bk bj bi bh}{p0:Arena}{bg bZ}{p1:VP}{p2:Int}(dj:Rd Ri J w 0 bk bj p0.Owner) (dk:Rd Rs J w 0 bi bh p0.Next) (dl:Rd Pair.rp J w 0 bg bZ p1){r:Parity×VL×Bool}(h:go p0 p1 p2=some r):Ret prog 75 [.agg #[.slice bk p0.Owner.length bj,.slice bi p0.Next.length bh],.slice bg p1.length bZ,vi p2] w (λdX a=>∃b bR bV bS bW bT bX bU bY,dX= .tuple #[.agg #[.slice bR r.1.Arena.Owner.length bV,.slice bS r.1.Arena.Next.length bW,.slice bT r.1.Prio.length bX],.slice bU r.2.1.length bY,.bool r.2.2]/\Ent J w b a/\Oc E6 2 b a 2 bR bV r.1.Arena.Owner/\Oc (ER E6 2) 31 b a 3 bS bW r.1.Arena.Next/\Oc E6 2 b a 4 bT bX r.1.Prio/\Oc (EZ Place.rp) 76 b a 5 bU bY r.2.1):=by
 refine Jp3 J func75 R ntmps75 R λev=>Jj3<|Jx3 J 2 R λ_ _ b9 bf c9=>Tv<|Jy3 b9 3 R X66 R λ_ _ cj aQ _=>Tv<|Jb 2 R<|Jj3<|Je3 R U62 R Z31 (have aC:=c9.stp aQ;Jc3 R I31 (aC.ld 0 R R) (Js3 R U31 R R<|Jb 1 R<|Jq<|Jj3<|Jg4 tv R (Jh4 (haE aC.cells) I62 Z62 R) (Ob h λey dO h=>have bo:=dj.stp (bf.tr aQ);have bp:=dk.stp (bf.tr aQ);Jw3 R call123 (qW (J:=Mk cj) (p0:=p0) Gct Gct dO) (Kb λdY a4 T=>Tv<|Jn 2 R<|Ob h λdU h dm=>Jk4 [1,2,3,6,9] 32 dU a4 dY 5 tv ?_ ?_))))
 exact Bk h (λdD h=>Jn 2 R<|Ob h λ_ dP h=>Jw3 R call124 (rb (J:=Mk a4) Gct dP)<|Kb λ_ _ _=>Tv<|Jn 2 R<|Oh h<|Jv1 _ tv ⟨R,_,Fct⟩<|KM R) (λdD h=>Jn 2 R<|Je4 R<|Jn 2 R<|Oh h<|Jl4 tv R)
 rintro _ d1 _ ⟨rfl,a7,X⟩
 refine Jn 1 R<|Ob dm λdV h dn=>Jk4 [1,2,3,6] 39 dV a7 d1 6 tv ?_ ?_
 exact Bk h (λdE h=>Jn 3 R<|Ob h λ_ dQ h=>Jw3 R C92 (dB (J:=Mk a7) dQ)<|Kb λ_ _ _=>Tv<|Jn 2 R<|Oh h<|Jv1 _ tv ⟨R,_,Fct⟩<|KM R) (λdE h=>Jn 3 R<|Je4 R<|Jn 2 R<|Oh h<|Jl4 tv R)
 rintro _ _ _ ⟨rfl,a8,Y⟩
 refine have h:=dn;Jd ?_
 refine Bk h (λdF h=>Jy R<|Js<|Jp<|Jj3<|Jc4 a8 E6 6 R Y31 bG R λcs cB b1 aK Z db=>Tv<|Jb 1 R<|Jq<|Jf3 R<|Ob h λbK dv dp=>Jt3 [1,2,3,6] (λe f a=>∃b,∃k:VI,∃G E,f=(10,.slice G k.length E)::e/\Stp [6] aK b1 b a/\Oc E6 2 b a 6 G E k/\bK=EW k) (Jv<|Ju3 [1,2,3,6] (λd e f a=>∃b o,∃N:VI,∃af ai,f=(10,.slice af N.length ai)::(11,vi o)::e/\Stp [6] aK b1 b a/\Oc E6 2 b a 6 af ai N/\0<=o/\ES ((p1.length:Int)-o)=d/\cntM fw d o N=some bK) ⟨_,_,⟨aK,0,([]:VI),cs,cB,R,Jo3,db,(by decide),(by simp),dv⟩,(KM R)⟩ ?_) ?_) (λdF h=>Jx R<|Jj3<|Jf R (Jn4 [.slice none 0 0,.slice none 0 0,.slice none 0 0] R)<|Jc4 a8 (EZ Place.rp) 6 R Y67 fH R λct cA _ a9 _ _=>Tv<|Jm4 a9 3 R Z66 R Fct R λ_ _ da=>Tv<|Jb 2 R<|Ju<|Jw<|Jb2 (l:=[.cell 6 66,.tmp 7,.tmp 8]) results75 (bM R da I66 Z66 R<|Jq2 R<|Jq2 R R) R<|Oh h<|⟨(λM=>ren [(6,5)]<|a9 M),none,0,none,0,none,0,ct,cA,R,Fct,EY,EY,EY,Fct⟩)
 rintro d _ _ ⟨ba,o,N,af,ai,rfl,_,dd,bB,aD,h⟩
 rcases d with _|d
 exact Jq<|Jl3 2 R<|Js3 R U56 R R<|Jb 1 R<|Jx2 R (dcf aD)<|Jc1<|Jt<|Jt<|Jb1<|Oh h<|Jw1 _ ⟨ba,N,af,ai,R,Fct,dd,R⟩<|KM R
 refine Ob h λew h dq=>Jq<|Jl3 2 R<|Js3 R U56 R R<|Jb 1 R<|Jw2 R (dct aD)<|Js<|Jp<|Jq<|Jv<|Jm3 2 R<|Ji4 ba 7 [o] R Y31 bG R λep em _ cl _ de=>Tv<|Ob h λd7 dR h=>Jd4 cl E6 6 [] R Y31 bG R Fct (EV (bO _) de.rdc) bJ dR R λcD cI _ cm _ df=>Tv<|Jc 1 R<|Jz<|Jp<|Jg3 R<|wr2 bB aD dl.len_le ▸ ?_
 cases h
 exact Ja2 ⟨cm,o+1,d7,cD,cI,R,Fct,df,nxz bB,nxm aD,dq⟩ R
 rintro _ d2 ⟨ck,k,G,E,rfl,aa,dc,rfl⟩
 refine have h:=yI dp;Jp (Jl3 2 R<|Jf R (Jn4 [vi p2,.slice G k.length E] R) ?_)
 obtain⟨cn,ab,ec⟩:=dg ck d2 6
 refine Jb4 cn (EZ Place.rp) 7 [] (parts:=[(0,.tmp 55)]) (cells:=[vi p2,.slice G k.length E]) (xs:=([(⟨p2,k⟩:Place)]:VL)) R Y67 fH R (Jj4<|Place.mk_rel (x:=(⟨p2,k⟩:Place))<|Sl.z1<|Sl.st ec dc.rdc) λcH cF _ co ac _=>Tv<|Jb 1 R<|Jj3<|Jf R (Jn4 [.slice none 0 0,.slice none 0 0,.slice none 0 0] R)<|Jy3 co 8 R X66 R λbn _ Q ad dh=>Tv<|Jm4 Q 8 R Z66 R dh R λb2 ae di=>Tv<|Jd<|Jq<|Jf3 R<|Ob h λbN dw bA=>Jt3 [6,13] (λe f a=>∃b,∃i:VL×Int×VI×VV×VI,∃ap aw az aA ao av ak ay,f=(12,.slice ap i.1.length aw)::e/\Stp [7,8,9,10,11,12,16,19,20,21] Q b2 b a/\Oc (EZ Place.rp) 76 b a 7 ap aw i.1/\Oc E6 2 b a 9 az aA i.2.2.1/\Oc (ER E6 2) 31 b a 10 ao av i.2.2.2.1/\Oc E6 2 b a 11 ak ay i.2.2.2.2/\Bc b a 8 bn 66 [.slice az i.2.2.1.length aA,.slice ao i.2.2.2.1.length av,.slice ak i.2.2.2.2.length ay]/\bN=EW i) (Jv<|Ju3 [1,3,6,13] (λd e f a=>∃b,∃c:VL×Int×VI×VV×VI,∃C F aj aq H B u t,f=(12,.slice C c.1.length F)::(14,vi c.2.1)::e/\Stp [7,8,9,10,11,12,16,19,20,21] Q b2 b a/\Oc (EZ Place.rp) 76 b a 7 C F c.1/\Oc E6 2 b a 9 aj aq c.2.2.1/\Oc (ER E6 2) 31 b a 10 H B c.2.2.2.1/\Oc E6 2 b a 11 u t c.2.2.2.2/\Bc b a 8 bn 66 [.slice aj c.2.2.1.length aq,.slice H c.2.2.2.1.length B,.slice u c.2.2.2.2.length t]/\bQ (fx p0 p1) d c=some bN) ⟨_,_,⟨Q,((([(⟨p2,k⟩:Place)]:VL):VL),(0:Int),([]:VI),([]:VV),([]:VI)),cH,cF,none,0,none,0,none,0,R,Jo3,Fct,EY,EY,EY,di,dw⟩,(KM R)⟩ ?_) ?_
 rintro d _ _ ⟨a0,c,C,F,aj,aq,H,B,u,t,rfl,v,aV,cL,cM,cN,bq,h⟩
 rcases d with _|d
 cases h
 refine Ob h λ_ h aX=>Jq<|Jl3 2 R<|Js3 R U67 R R<|Jb 1 R ?_
 refine Bk h (λdy h=>Jy R<|Jc1<|Jt<|Jt ?_) (λdy h=>Jx R<|Js<|Jp<|Jq<|Jv<|Jl3 2 R<|Ob h λd8 bD h=>Jd3 R aV.rdc bD U67 Z76 ?_)
 cases h
 exact have h:=aX;Jb1 (Oh h<|Jw1 _ ⟨a0,(c.1,c.2.1,c.2.2.1,c.2.2.2.1,c.2.2.2.2),C,F,aj,aq,H,B,u,t,R,Fct,aV,cL,cM,cN,bq,R⟩<|KM R)
 obtain⟨_,dx,dt⟩:=Ow.gZS aV bD
 obtain⟨ed,ex,rfl,eu⟩:=Place.un dx
 refine Jg4 tv R (Jh4 (haE dt) I76 Z76 R)<|Jy3 a0 12 R zeroValue76 R λ_ _ a1 q cO=>Tv<|Jm4 a1 12 R Z76 R cO R λ_ s aB=>Tv<|Jd<|Jl3 1 R<|Je3 R U76 R Z31<|Jc3 R I31 (aB.ld 1 R R)<|Je3 R U76 R Z2<|Jc3 R I2 (aB.ld 0 R R)<|Ob h λd9 dS h=>Jw3 R call125 (wi (J:=Mk a1) Gct Gct dS)<|Ks 15 (bI _) λel eo _ b4 m cP=>Tv<|Jb 1 R<|Jj3<|Jc4 b4 E6 16 R Y31 bG R λcx cv b0 aH j cQ=>Tv<|Jb 1 R<|Jq<|Jf3 R<|Ob h λbP du bx=>Jt3 [1,3,6,13,14,15] (λe f a=>∃b,∃n:VL×VI×Int,∃ah an aT aS,f=(12,.slice ah n.1.length an)::(17,.slice aT n.2.1.length aS)::e/\Stp [7,16,19,20] aH b0 b a/\Oc (EZ Place.rp) 76 b a 7 ah an n.1/\Oc E6 2 b a 16 aT aS n.2.1/\bP=EW n) (Jv<|Ju3 [1,3,6,13,14,15,16] (λd e f a=>∃b,∃g:VL×VI×Int,∃I L am ar,f=(12,.slice I g.1.length L)::(17,.slice am g.2.1.length ar)::(18,vi g.2.2)::e/\Stp [7,16,19,20] aH b0 b a/\Oc (EZ Place.rp) 76 b a 7 I L g.1/\Oc E6 2 b a 16 am ar g.2.1/\bQ (gU p0 d8 d9) d g=some bP) ⟨_,_,⟨aH,(c.1,([]:VI),(0:Int)),C,F,cx,cv,R,Jo3,Fct,cQ,du⟩,(KM R)⟩ ?_) ?_
 rintro d _ _ ⟨a3,g,I,L,am,ar,rfl,S,br,cR,h⟩
 rcases d with _|d
 cases h
 refine Ob h λ_ h aY=>Jq<|Jl3 1 R<|Je3 R U62 R Z32 (have bs:=aC.stp (T15 T X Y Z aa ab ac ad ae v q s m j S);Jc3 R I32 (bs.ld 1 R R) (Je3 R U76 R Z2 (have bt:=aB.stp (T3 m j S);Jc3 R I2 (bt.ld 0 R R) (Ob h λez bE h=>Jd3 R bp bE U32 Z31 ?_))))
 have aW:=bp.stp (T15 T X Y Z aa ab ac ad ae v q s m j S)
 obtain⟨_,_,_,dr⟩:=aW.gSl bE
 refine Jc3 R I31 dr<|Js3 R U31 R R<|Jb 1 R ?_
 refine Bk h (λdz h=>Jy R<|Jc1<|Jt<|Jt ?_) (λdz h=>Jx R<|Js<|Jp<|Jq<|Jv<|Jj3<|Je3 R U62 R Z32<|Jc3 R I32 (bs.ld 1 R R)<|Je3 R U76 R Z2<|Jc3 R I2 (bt.ld 0 R R)<|Ob h λ_ bF h=>Jd3 R aW bF U32 Z31 ?_)
 cases h
 exact have h:=aY;Jb1 (Oh h<|Jw1 _ ⟨a3,(g.1,g.2.1,g.2.2),I,L,am,ar,R,Fct,br,cR,R⟩<|KM R)
 obtain⟨_,_,bu,ds⟩:=aW.gSl bF
 refine Jc3 R I31 ds<|Jn 1 R<|Ob h λaG bH h=>Jd3 R bu bH U31 Z2<|Jc3 R I2 (bu.gInt bH)<|Jb 1 R<|Jl3 3 R (Ob h λea dT h=>have cS:=cP.stp (j.tr S);Jw3 R call126 (wh (J:=Mk a3) (Jn3 br.rdc) Gct dT) (Ki λdZ P cp=>Tv<|Jb 1 R<|Jq<|Jf3 R<|Ob h λdW h bz=>Jt3 [1,3,6,13,14,15,16,17,18] (λe f a=>∃b,∃p:VL×Int,∃au ag,f=(12,.slice au p.1.length ag)::(20,vi p.2)::e/\Stp [7,19,20] P dZ b a/\Oc (EZ Place.rp) 76 b a 7 au ag p.1/\dW=EW p) ?_ ?_))
 refine Bk h (λdA h=>Jy R<|Js<|Oh h<|Jw1 _ ⟨P,(g.1,ea),I,L,R,Jo3,Fct,R⟩<|KM R) (λdA h=>Jx R<|Jl3 1 R<|Js3 R U67 R R<|Jb 1 R<|Jq<|Jf3 R ?_)
 refine Bk h (λdC h=>Jy R<|Js<|Jp<|Jm3 2 R<|Jc4 P E6 19 R Y31 bG R λej eg _ b6 cq cU=>Tv<|Jn 1 R<|Ob h λaE dG h=>Jd4 b6 E6 19 [] R Y31 bG R cU (EV (bO _) (cS.stp<|cp.tr cq).rdc) bJ dG R λbm bl d0 b7 _ cV=>Tv<|Jf R (Jn4 [vi aG,.slice bm aE.length bl] R) ?_) (λdC h=>Jx R<|Jj3<|Jf R (Jn4 [.slice none 0 0,.slice none 0 0,.slice none 0 0] R)<|Jc4 P (EZ Place.rp) 19 R Y67 fH R λcw cz _ a5 _ _=>Tv<|Jm4 a5 3 R Z66 R Fct R λ_ _ cT=>Tv<|Jb 2 R<|Ju<|Jw<|Jr2 ?_)
 obtain⟨b8,_,eb⟩:=dg b7 d0 19
 exact Jb4 b8 (EZ Place.rp) 20 [] (parts:=[(0,.tmp 112)]) (cells:=[vi aG,.slice bm aE.length bl]) (xs:=([(⟨aG,aE⟩:Place)]:VL)) R Y67 fH R (Jj4<|Place.mk_rel (x:=(⟨aG,aE⟩:Place))<|Sl.z1<|Sl.st eb cV.rdc) λes ei _ ca _ cW=>Tv<|Ob h λd3 dH h=>Jd4 ca (EZ Place.rp) 7 [20] R Y67 fH R Fct cW.src (c7 R) dH R λcu cy _ cb _ cX=>Tv<|Jc 1 R<|Oh h<|Jw1 _ ⟨cb,(d3,((g.1.length:Int):Int)),cu,cy,R,Fct,cX,R⟩<|KM R
 cases h
 have h:=bz
 dsimp only[aft]at h
 refine Jw<|Ja1<|Jw<|Jw ?_
 cases h
 obtain rfl:=EU aY
 refine have h:=yL bx;Ja1 (Jr2<|Jw<|Ja1<|Jw<|Jw ?_)
 cases h
 obtain rfl:=EU aX
 exact have h:=yL bA;Ja1 (Jr2<|Jw<|Jb2 (l:=[.cell 6 66,.tmp 7,.tmp 8]) results75 (bM R cT I66 Z66 R<|Jq2 R<|Jq2 R R) R<|Oh h<|⟨(λM=>ren [(19,5)]<|a5 M),none,0,none,0,none,0,cw,cz,R,Fct,EY,EY,EY,Fct⟩)
 rintro _ _ ⟨b5,p,au,ag,rfl,_,_,rfl⟩
 refine have h:=yI bz;Jp (Jm3 2 R<|Ji4 b5 19 [p.2] R Y31 bG R λef et _ cc _ cY=>Tv<|Ob h λd4 dI h=>Jd4 cc E6 16 [] R Y31 bG R Fct (EV (bO _) cY.rdc) bJ dI R λcE cC _ cd _ cZ=>Tv<|Jc 1 R<|Jz<|Jp<|Jg3 R ?_)
 cases h
 exact Ja2 ⟨cd,(p.1,d4,((ET .i64<|g.2.2+1):Int)),au,ag,cE,cC,R,Fct,Fct,cZ,aY⟩ R
 rintro _ _ ⟨a2,n,ah,an,aT,aS,rfl,y,_,_,rfl⟩
 refine have h:=yI bx;Jp (Jq<|Xr a2 [0,2,8,12] (some 13) [2,5,11,17,6,12,18,23,24,28,31,35,38] [40] λ_ z=>Je3 R U66 R Z62<|Je3 R U62 R Z31<|Je3 R U62 R Z31<|Je3 R U76 R Z2<|Jg R (Jd2 I31 R R<|hvC ((bq.stp<|T6 q s m j y z).ld 0 R R) R)<|Jg R (Jd2 I31 R R<|hvC ((aC.stp<|T16 T X Y Z aa ab ac ad ae v q s m j y z).ld 0 R R) R) (have bv:=aB.stp (T4 m j y z);Jg R (Jd2 I2 R R<|hvC (bv.ld 0 R R) R) (Ob h λd5 bC h=>Jd3 R bo bC U31 Z2<|Jg R (Jd2 I2 R R<|hvC ((bo.stp<|T16 T X Y Z aa ab ac ad ae v q s m j y z).gInt bC) R)<|Ji4 a2 17 [d5] R Y31 bG R λeq ek _ ce U c0=>⟨(U.cl R),Ob h λO dJ h=>Jd4 ce E6 9 [] R Y31 bG R Fct (EV (bO _) c0.rdc) bJ dJ R λD K _ aI aL _=>⟨((U.tr aL).cl R),Je3 R U66 R Z62<|Je3 R U62 R Z31<|Jt1<|Jz3 aI 8 (off:=0) (vc:=[.slice D O.length K]) (cs':=[.slice D O.length K,.slice H c.2.2.2.1.length B,.slice u c.2.2.2.2.length t]) R Z31 R Fct R λ_ bc c1=>Tv<|Jd<|Jq<|Xr aI [8] (some 9) [2,5,11,6,13,16,19,23,26] [28] λ_ aM=>Je3 R U66 R Z62<|Je3 R U62 R Z32<|Jn 1 R<|Jg R (Jd2 I32 R R<|hvC ((c1.stp aM).ld 1 R R) R)<|Ob h λb3 dK h=>Jw3 R call127 (uj (J:=Mk aI) Gct dK)<|Ks 20 (bI _) λcG cJ _ cf A c2=>⟨(A.cl R),Jb4 cf (ER E6 2) 21 [20] (parts:=[(0,.tmp 136)]) (cells:=[.slice cG b3.length cJ]) (xs:=([b3]:VV)) R Y32 bL R (Jj4 ⟨_,_,R,c2⟩) λer en _ cg V c3=>⟨((A.tr V).cl R),Ob h λaF dL h=>Jd4 cg (ER E6 2) 10 [21] R Y32 bL R Fct c3.src (c7 R) dL R λal ax _ aJ aN _=>⟨((T3 A V aN).cl R),Je3 R U66 R Z62<|Je3 R U62 R Z32<|Jt1<|Jz3 aJ 8 (off:=1) (vc:=[.slice al aF.length ax]) (cs':=[.slice D O.length K,.slice al aF.length ax,.slice u c.2.2.2.2.length t]) R Z32 R Fct R λ_ bd c4=>Tv<|Jd<|Xr aJ [8,12] (some 11) [2,8,11,17,3,12,18,22,25,28,32] [34] λ_ aO=>Je3 R U66 R Z31<|Jn 1 R<|Je3 R U76 R Z31<|Je3 R U76 R Z2<|Jg R (Jd2 I31 R R<|hvC ((c4.stp aO).ld 2 R R) R) (have bw:=bv.stp (T9 U aL bc aM A V aN bd aO);Jg R (Jd2 I31 R R<|hvC (bw.ld 1 R R) R) (Jg R (Jd2 I2 R R<|hvC (bw.ld 0 R R) R)<|Ob h λd6 dM h=>Jw3 R call128 (wj (J:=Mk aJ) Gct Gct dM)<|Ki λ_ ch W=>⟨(W.cl R),Ji4 ch 24 [d6] R Y31 bG R λee eh _ ci aP c5=>⟨((W.tr aP).cl R),Ob h λaZ dN h=>Jd4 ci E6 11 [] R Y31 bG R Fct (EV (bO _) c5.rdc) bJ dN R λaU aR _ a6 be _=>⟨((T3 W aP be).cl R),Je3 R U66 R Z31<|Jt1<|Jz3 a6 8 (off:=2) (vc:=[.slice aU aZ.length aR]) (cs':=[.slice D O.length K,.slice al aF.length ax,.slice aU aZ.length aR]) R Z31 R Fct R λ_ cr c6=>Tv<|Jo<|Jz<|Jp<|Jg3 R ?_⟩⟩⟩))⟩⟩⟩⟩⟩)))
 cases h
 exact Ja2 ⟨a6,(n.1,((ET .i64<|c.2.1+1):Int),O,aF,aZ),ah,an,D,K,al,ax,aU,aR,R,(v.tr<|q.tr<|s.tr<|m.tr<|j.tr<|y.tr<|z.tr<|U.tr<|aL.tr<|bc.tr<|aM.tr<|A.tr<|V.tr<|aN.tr<|bd.tr<|aO.tr<|W.tr<|aP.tr<|be.tr cr).wk R,Fct,Fct,Fct,Fct,c6,aX⟩ R
 rintro _ _ ⟨bb,i,ap,aw,az,aA,ao,av,ak,ay,rfl,_,_,_,_,_,cK,rfl⟩
 exact have h:=yI bA;Jp (Jj3<|Jg4 tv R (Jh4 (haE cK.cells) I66 Z66 R)<|Jn 1 R<|Jm4 bb 3 R Z66 R Fct R λ_ _ c8=>Tv<|Jb 2 R<|Ju<|Jb2 (l:=[.cell 6 66,.tmp 7,.tmp 8]) results75 (bM R c8 I66 Z66 R<|Jq2 R<|Jq2 R R) R<|Oh h<|⟨(λM=>ren [(9,2),(10,3),(11,4),(7,5)]<|bb M),az,aA,ao,av,ak,ay,ap,aw,R,Fct,Fct,Fct,Fct,Fct⟩)
theorem yU {am ay al ar ak aj}{p0:Parity}{ai aK}{p1:VI}(ch:Rd Ri J w 0 am ay p0.Arena.Owner) (ci:Rd Rs J w 0 al ar p0.Arena.Next) (cj:Rd Ri J w 0 ak aj p0.Prio) (bn:Rd Ri J w 0 ai aK p1){r:VI×VI}(h:sT p0 p1=some r):Ret prog 178 [.agg #[.slice am p0.Arena.Owner.length ay,.slice al p0.Arena.Next.length ar,.slice ak p0.Prio.length aj],.slice ai p1.length aK] w (λbL a=>∃b aG aI aH aJ,bL= .tuple #[.slice aG r.1.length aI,.slice aH r.2.length aJ]/\Ent J w b a/\Oc E6 2 b a 2 aG aI r.1/\Oc E6 2 b a 3 aH aJ r.2):=by
 refine Jp3 J func178 R ntmps178 R λck=>Jj3<|Jx3 J 2 R λ_ _ aU a0 bf=>Tv<|Jb 2 R<|Jj3<|Jc4 aU E6 3 R Y31 bG R λO N _ aW ae _=>Tv<|Jb 1 R<|Jj3<|Jc4 aW E6 4 R Y31 bG R λM P _ aN Y _=>Tv<|Jb 1 R<|Jq<|Jj3 (have Q:=bf.stp (ae.tr Y);Jg4 tv R (Jh4 (haE Q.cells) I66 Z66 R) (Ob h λcn bz h=>Jw3 R call129 (mJ (J:=Mk aN) (p0:=p0) Gct Gct Gct bz)<|Kb λbN V L=>Tv<|Jn 2 R<|Ob h λbK h bq=>Jk4 [1,2,6,7] 25 bK V bN 7 tv ?_ ?_))
 exact Bk h (λbw h=>Jn 1 R<|Je3 R U66 R Z31<|Jc3 R I31 ((Q.stp L).ld 2 R R)<|Js3 R U31 R R<|Ob h λ_ bA h=>Jw3 R call182 (lr (J:=Mk V) Gct bA)<|Kb λ_ _ _=>Tv<|Jn 2 R<|Oh h<|Jv1 _ tv ⟨R,_,Fct⟩<|KM R) (λbw h=>Jn 2 R<|Je4 R<|Jn 1 R<|Je4 R<|Jn 2 R<|Oh h<|Jl4 tv R)
 rintro _ _ _ ⟨rfl,W,aa⟩
 refine have h:=bq;Jd ?_
 refine Bk h (λbx h=>Jy R<|Js<|Jp<|Jj3 (have ao:=Q.stp (L.tr aa);Jg4 tv R (Jh4 (haE ao.cells) I66 Z66 R) (Ob h λS bB h=>Jw3 R call187 (rU (J:=λg=>mp [] 1<|W g) (p0:=p0) (Jm2 Fct (mp [] 1) R R) (Jm2 Fct (mp [] 1) R R) (Jm2 Fct (mp [] 1) R R) bB) ?_))) (λbx h=>Jx R<|Jf3 R<|Ju<|Jw<|Jb2 (l:=[.tmp 4,.tmp 5]) results178 (Jq2 R<|Jq2 R R) R<|Oh h<|⟨(λg=>ren [(3,2),(4,3)]<|W g),O,N,M,P,R,Fct,Fct,Fct⟩)
 rintro _ _ ⟨_,bU,bT,bX,bY,ca,b6,bV,b1,b0,b8,rfl,a5,bg,bh,bi,bj,bk⟩
 refine Im0 a5 7 R (λaV ab aD T=>Tv<|have cb:=bg.mx T;have cc:=bh.mx T;have cd:=bi.mx T;have ce:=bj.mx (cK (bI _) _) aD R (R:7+5=12);have cf:=bk.mx (bI _) aD R (R:7+6=13);Jy3 aV 14 R X204 R λ_ _ X ac bl=>Tv<|Jm4 X 14 R Z204 R bl R λ_ ad ap=>Tv<|Jd<|Jj3<|Je3 R U66 R Z31<|Jc3 R I31 ((ao.stp<|T3 ab ac ad).ld 2 R R)<|Js3 R U31 R R<|Jn 1 R (Ob h λbP bC h=>have i:=bn.stp (T8 a0 ae Y L aa ab ac ad);Jw3 R call203 (xX (J:=Mk X) Gct bC) (Ks 17 cQ λb5 b2 aM I v bm=>Tv<|have cg:=bm;Jb 1 R (Jq<|Jf3 R<|Ob h λaE bt aq=>Jt3 [1,6,7,8,9] (λf d a=>∃b,d=f/\Stp [] I aM b a/\aE=EW ()) (Jv<|Ju3 [1,6,7,8,9] (λc f d a=>∃b m,d=(10,vi m)::f/\Stp [] I aM b a/\0<=m/\ES ((p1.length:Int)-m)=c/\cntM (nU p1 S bP) c m ()=some aE) ⟨_,_,⟨I,0,R,Jo3,(by decide),(by simp),bt⟩,(KM R)⟩ ?_) ?_))))
 rintro c _ _ ⟨K,m,rfl,ag,av,G,h⟩
 rcases c with _|c
 exact Jq<|Jl3 2 R<|Js3 R U31 R R<|Jb 1 R<|Jx2 R (dcf G)<|Jc1<|Jt<|Jt<|Jb1<|Oh h<|Jw1 _ ⟨K,R,Fct,R⟩<|KM R
 refine Ob h λcm h aw=>Jq<|Jl3 2 R<|Js3 R U31 R R<|Jb 1 R<|Jw2 R (dct G)<|Js<|Jp<|Jq<|Jv<|Jq<|Xn K [0,14] [5,8,11,14,0,15,19,23] λ_ ah=>Jn 3 R<|Ob h λ_ ax h=>Jd3 R i ax U31 Z2<|Jg R (Jh4 (haC (ap.stp<|T3 v ag ah).cells R) I204 Z204 R)<|Jg R (Jd2 I2 R R<|hvC ((i.stp<|T3 v ag ah).gInt ax) R)<|Ob h λco bD h=>Jw3 R call204 (p7 (J:=Mk K) (p0:=S) Gct Gct Gct Gct Gct Gct bD)<|Ki λ_ U aY=>⟨(aY.cl R),Jn 1 R<|Jt1<|Jd ?_⟩
 refine Bk h (λbu h=>Jy R<|Js<|Jz<|Jp<|Jg3 R<|wr2 av G i.len_le ▸ ?_) (λbu h=>Jx R<|Jf3 R<|Ju<|Ja1<|Jw<|Jw ?_)
 cases h
 exact Ja2 ⟨U,m+1,R,Fct,nxz av,nxm G,aw⟩ R
 cases h
 obtain rfl:=EU aw
 exact have h:=yL aq;Ja1 (Jr2<|Jw<|Jb2 (l:=[.tmp 4,.tmp 5]) results178 (Jq2 R<|Jq2 R R) R<|Oh h<|⟨(λg=>ren [(3,2),(4,3)]<|U g),O,N,M,P,R,Fct,Fct,Fct⟩)
 rintro _ _ ⟨aX,rfl,af,rfl⟩
 refine have h:=yI aq;Jp (Jj3<|Jg4 tv R (Jh4 (haE (ap.stp<|v.tr af).cells) I204 Z204 R)<|Jn 1 R<|Ob h λbQ bE h=>Jw3 R call205 (qi _ (J:=Mk aX) (p0:=S) Gct Gct Gct Gct Gct Gct bE) (Ks 20 cQ λbZ b3 aL H aZ a6=>Tv<|have an:=a6;Jb 1 R (Jq<|Jf3 R<|Ob h λaF bs bo=>Jx1 (λd a=>∃b,∃k:VI×VI,∃D B y z,d=[(6,.slice D k.1.length B),(7,.slice y k.2.length z)]/\Stp [3,4] H aL b a/\Oc E6 2 b a 3 D B k.1/\Oc E6 2 b a 4 y z k.2/\aF=EW k) (Jv<|Ju3 [1,11] (λc f d a=>∃b n,∃e:VI×VI,∃s q o p,d=(6,.slice s e.1.length q)::(7,.slice o e.2.length p)::(12,vi n)::f/\Stp [3,4] H aL b a/\Oc E6 2 b a 3 s q e.1/\Oc E6 2 b a 4 o p e.2/\0<=n/\ES ((p1.length:Int)-n)=c/\cntM (nV p1 bQ) c n e=some aF) ⟨_,_,⟨H,0,(([]:VI),([]:VI)),O,N,M,P,R,Jo3,Fct,Fct,(by decide),(by simp),bs⟩,(KM R)⟩ ?_) ?_)))
 rintro c _ bM ⟨u,n,e,s,q,o,p,rfl,Z,a7,a8,au,F,h⟩
 rcases c with _|c
 exact Jq<|Jl3 2 R<|Js3 R U31 R R<|Jb 1 R<|Jx2 R (dcf F)<|Jc1<|Jt<|Jt<|Jb1<|Oh h<|Jw1 _ ⟨u,(e.1,e.2),s,q,o,p,R,Fct,a7,a8,R⟩<|KM R
 refine Ob h λcl h br=>Jq<|Jl3 2 R<|Js3 R U31 R R<|Jb 1 R<|Jw2 R (dct F)<|Js<|Jp<|Jq<|Jv<|Jl3 3 R<|Ob h λ_ az h=>Jd3 R i az U31 Z2 (have t:=i.stp (T4 v af aZ Z);Jc3 R I2 (t.gInt az) (Ob h λcp aA h=>Jd3 R an.rdc aA U129 Z4<|Jc3 R I4 ((an.stp Z).rdc.gBool aA)<|Jd<|Ob h λj h bp=>Jt3 [1,11,12] (λf d a=>∃b x C E A,d=(6,.slice x j.1.length C)::(7,.slice E j.2.length A)::f/\Stp [3,4] u bM b a/\Oc E6 2 b a 3 x C j.1/\Oc E6 2 b a 4 E A j.2) ?_ ?_))
 exact Bk h (λbv h=>Jy R<|Jm3 3 R<|Ob h λbS aC h=>Jd3 R t aC U31 Z2<|Jc3 R I2 (t.gInt aC)<|Ji4 u 21 [bS] R Y31 bG R λb4 b7 _ aS _ bd=>Tv<|Ob h λ_ bH h=>Jd4 aS E6 4 [] R Y31 bG R Fct (EV (bO _) bd.rdc) bJ bH R λa2 a4 _ aT _ be=>Tv<|Jc 1 R<|Oh h<|Jw1 _ ⟨aT,s,q,a2,a4,R,Fct,Fct,be⟩<|KM R) (λbv h=>Jx R<|Jm3 3 R<|Ob h λbR aB h=>Jd3 R t aB U31 Z2<|Jc3 R I2 (t.gInt aB)<|Ji4 u 21 [bR] R Y31 bG R λb9 bW _ aQ _ bb=>Tv<|Ob h λ_ bF h=>Jd4 aQ E6 3 [] R Y31 bG R Fct (EV (bO _) bb.rdc) bJ bF R λa1 a3 _ aR _ bc=>Tv<|Jc 1 R<|Oh h<|Jw1 _ ⟨aR,a1,a3,o,p,R,Fct,bc,Fct⟩<|KM R)
 rintro _ _ ⟨aP,x,C,E,A,rfl,_,a9,ba⟩
 refine have h:=bp;Jz (Jp<|Jg3 R<|wr2 au F i.len_le ▸ ?_)
 cases h
 exact Ja2 ⟨aP,n+1,(j.1,j.2),x,C,E,A,R,Fct,a9,ba,nxz au,nxm F,br⟩ R
 rintro _ _ ⟨aO,k,D,B,y,z,rfl,_,_,_,rfl⟩
 exact have h:=yI bo;Jp (Jf3 R<|Ju<|Jb2 (l:=[.tmp 4,.tmp 5]) results178 (Jq2 R<|Jq2 R R) R<|Oh h<|⟨(λg=>ren [(3,2),(4,3)]<|aO g),D,B,y,z,R,Fct,Fct,Fct⟩)
theorem xR {aE aA ay aB aD aC}{p0:Parity}{az aU}{p1:VI}(bW:Rd Ri J w 0 aE aA p0.Arena.Owner) (bs:Rd Rs J w 0 ay aB p0.Arena.Next) (bX:Rd Ri J w 0 aD aC p0.Prio) (ah:Rd Ri J w 0 az aU p1){r:Parity×Bool}(h:qZ p0 p1=some r):Ret prog 207 [.agg #[.slice aE p0.Arena.Owner.length aA,.slice ay p0.Arena.Next.length aB,.slice aD p0.Prio.length aC],.slice az p1.length aU] w (λbO a=>∃b aO aR aP aS aQ aT,bO= .tuple #[.agg #[.slice aO r.1.Arena.Owner.length aR,.slice aP r.1.Arena.Next.length aS,.slice aQ r.1.Prio.length aT],.bool r.2]/\Ent J w b a/\Oc E6 2 b a 2 aO aR r.1.Arena.Owner/\Oc (ER E6 2) 31 b a 3 aP aS r.1.Arena.Next/\Oc E6 2 b a 4 aQ aT r.1.Prio):=by
 refine Jp3 J func207 R ntmps207 R λbY=>Jj3<|Jx3 J 2 R λ_ _ a1 aw bk=>Tv<|Jy3 a1 3 R X66 R λ_ _ a2 aa _=>Tv<|Jb 1 R<|Jq<|Jj3 (have P:=bk.stp aa;Jg4 tv R (Jh4 (haE P.cells) I66 Z66 R) (Ob h λb0 bF h=>have aF:=bs.stp (aw.tr aa);Jw3 R call129 (mJ (J:=Mk a2) (p0:=p0) Gct Gct Gct bF) (Kb λbP an x=>Tv<|Jn 2 R<|Ob h λbN h bv=>Jk4 [1,2,4] 17 bN an bP 5 tv ?_ ?_)))
 exact Bk h (λbC h=>Jg4 tv R (Jh4 (haE (P.stp x).cells) I66 Z66 R)<|Jn 1 R<|Ob h λ_ bH h=>Jw3 R call225 (wH (J:=Mk an) (p0:=p0) Gct Gct Gct Gct bH)<|Kb λ_ _ _=>Tv<|Jn 2 R<|Oh h<|Jv1 _ tv ⟨R,_,Fct⟩<|KM R) (λbC h=>Je4 R<|Jn 1 R<|Je4 R<|Jn 2 R<|Oh h<|Jl4 tv R)
 rintro _ bR _ ⟨rfl,v,C⟩
 refine have h:=bv;Jd ?_
 refine Bk h (λbD h=>Jy R<|Js<|Jp<|Jq<|Ob h λc aJ h=>Ob h λd ai h=>Jt3 [1,2,4] (λo p a=>∃b e s q N M t u,p=(6,.pointer (some ⟨e,0,none⟩))::o/\Stp [6,8,9,11,12] v bR b a/\Oc E6 2 b a 6 s q (((⟨(⟨c,([]:VV)⟩:Arena),d⟩:Parity).Arena).Owner)/\Oc (ER E6 2) 31 b a 7 N M (((⟨(⟨c,([]:VV)⟩:Arena),d⟩:Parity).Arena).Next)/\Oc E6 2 b a 8 t u ((⟨(⟨c,([]:VV)⟩:Arena),d⟩:Parity).Prio)/\Bc b a 9 e 66 [.slice s (((⟨(⟨c,([]:VV)⟩:Arena),d⟩:Parity).Arena).Owner).length q,.slice N (((⟨(⟨c,([]:VV)⟩:Arena),d⟩:Parity).Arena).Next).length M,.slice t ((⟨(⟨c,([]:VV)⟩:Arena),d⟩:Parity).Prio).length u]) (WC.rxt (J:=v) [2] none (by kernel_rfl) λ_ D=>Jq1 (fuel:=6) [(0,2),(1,2),(5,2),(2,0),(6,0)] (by kernel_rfl) (by kernel_rfl) R<|Je3 R U66 R Z62<|Je3 R U62 R Z31<|Je3 R U66 R Z31 (have aH:=P.stp (T3 x C D);Jg R (Jd2 I31 R R<|hvC (aH.ld 0 R R) R) (Jg R (Jd2 I31 R R<|hvC (aH.ld 2 R R) R)<|Jp1<|WA.fork2 (fuel:=5) 3 9 (by kernel_rfl) R (Jw3 R C95 (dv (J:=Mk v) Gct aJ)<|Ks 8 (bI _) λg i _ ap f bo=>⟨(f.cl R),have bV:=bo;Jp1 (Jq1 (fuel:=4) [(4,2)] (by kernel_rfl) (by kernel_rfl) R<|Jf R (Jn4 [.slice g c.length i,.slice none 0 0] R)<|Jp1<|WA.fork2 (fuel:=3) 7 9 (by kernel_rfl) R (Jw3 R C95 (dv (J:=Mk ap) Gct ai)<|Ks 11 (bI _) λm k _ a3 E bp=>⟨((f.tr E).cl R),Jp1<|Jq1 (fuel:=0) [(8,2),(9,1),(10,1)] (by kernel_rfl) (by kernel_rfl) R<|Jf R (Jn4 [.slice g c.length i,.slice none 0 0,.slice m d.length k] R)<|Jy3 a3 12 R X66 R λe _ aq ab bq=>⟨((T3 f E ab).cl R),Jm4 aq 12 R Z66 R bq R λ_ ax _=>⟨((T4 f E ab ax).cl R),Jp1<|Jr1 [] (by kernel_rfl) (by kernel_rfl) R<|Jo<|Jw1 _ ⟨(λj=>ren [(8,6),(11,8),(12,9)]<|aq j),e,g,i,none,0,m,k,R,(Jz2 ((T5 D f E ab ax).wk R) [(8,6),(11,8),(12,9)] R),Fct,EY,((bp.stp Fct).map (ren [(8,6),(11,8),(12,9)]) R R),Fct⟩<|KM R⟩⟩⟩)<|Jy3 ap 9 R X66 R λe _ a4 F _=>⟨((f.tr F).cl R),Jp1<|Jq1 (fuel:=0) [(7,1),(8,2),(10,1)] (by kernel_rfl) (by kernel_rfl) R<|Jw3 R C95 (dv (J:=Mk a4) Gct ai)<|Ks 12 (bI _) λm k _ ar ac br=>⟨((T3 f F ac).cl R),Jf R (Jn4 [.slice g c.length i,.slice none 0 0,.slice m d.length k] R)<|Jm4 ar 9 R Z66 R Fct R λ_ ad _=>⟨((T4 f F ac ad).cl R),Jp1<|Jr1 [] (by kernel_rfl) (by kernel_rfl) R<|Jo<|Jw1 _ ⟨(λj=>ren [(8,6),(12,8)]<|ar j),e,g,i,none,0,m,k,R,(Jz2 ((T5 D f F ac ad).wk R) [(8,6),(12,8)] R),Fct,EY,((br.stp ad).map (ren [(8,6),(12,8)]) R R),Fct⟩<|KM R⟩⟩⟩)⟩)<|Jy3 v 6 R X66 R λe _ aW A ba=>⟨(A.cl R),Jp1<|Jq1 (fuel:=0) [(3,1),(4,2),(7,1),(8,2),(10,1)] (by kernel_rfl) (by kernel_rfl) R<|Jw3 R C95 (dv (J:=Mk aW) Gct aJ)<|Ks 9 (bI _) λg i _ aX B bb=>⟨((A.tr B).cl R),Jf R (Jn4 [.slice g c.length i,.slice none 0 0] R)<|Jw3 R C95 (dv (J:=Mk aX) Gct ai) (Ks 12 (bI _) λm k _ ak W bc=>have au:=(T3 A B W);⟨(au.cl R),Jf R (Jn4 [.slice g c.length i,.slice none 0 0,.slice m d.length k] R)<|Jm4 ak 6 R Z66 R (ba.stp<|B.tr W) R λ_ X _=>⟨((au.tr X).cl R),Jp1<|Jr1 [] (by kernel_rfl) (by kernel_rfl) R<|Jo<|Jw1 _ ⟨(λj=>ren [(9,6),(12,8),(6,9)]<|ak j),e,g,i,none,0,m,k,R,(Jz2 ((T5 D A B W X).wk R) [(9,6),(12,8),(6,9)] R),((bb.stp Fct).map (ren [(9,6),(12,8),(6,9)]) R R),EY,((bc.stp X).map (ren [(9,6),(12,8),(6,9)]) R R),Fct⟩<|KM R⟩⟩)⟩⟩))) ?_) (λbD h=>Jx R<|Jj3<|Jf R (Jn4 [.slice none 0 0,.slice none 0 0,.slice none 0 0] R)<|Jm4 v 3 R Z66 R Fct R λ_ _ bl=>Tv<|Jb 1 R<|Ju<|Jw<|Jb2 (l:=[.cell 4 66,.tmp 5]) results207 (bM R bl I66 Z66 R<|Jq2 R R) R<|Oh h<|⟨v,none,0,none,0,none,0,R,Fct,EY,EY,EY⟩)
 rintro _ aV ⟨V,e,s,q,N,M,t,u,rfl,Z,_,bm,_,bn⟩
 refine Jp<|Jq<|Jf3 R<|Ob h λaN bA bt=>Jt3 [4,6] (λo p a=>∃b,∃T:VV,∃O K,p=o/\Stp [7,9,12,13] V aV b a/\Oc (ER E6 2) 31 b a 7 O K T/\Bc b a 9 e 66 [.slice s (((⟨(⟨c,([]:VV)⟩:Arena),d⟩:Parity).Arena).Owner).length q,.slice O T.length K,.slice t ((⟨(⟨c,([]:VV)⟩:Arena),d⟩:Parity).Prio).length u]/\aN=EW T) (Jv<|Ju3 [1,2,4,6] (λy o p a=>∃b n,∃z:VV,∃L G,p=(7,vi n)::o/\Stp [7,9,12,13] V aV b a/\Oc (ER E6 2) 31 b a 7 L G z/\Bc b a 9 e 66 [.slice s (((⟨(⟨c,([]:VV)⟩:Arena),d⟩:Parity).Arena).Owner).length q,.slice L z.length G,.slice t ((⟨(⟨c,([]:VV)⟩:Arena),d⟩:Parity).Prio).length u]/\0<=n/\ES ((p1.length:Int)-n)=y/\cntM (mh p0 p1) y n z=some aN) ⟨_,_,⟨V,0,(((⟨(⟨c,([]:VV)⟩:Arena),d⟩:Parity).Arena).Next:VV),N,M,R,Jo3,bm,bn,(by decide),(by simp),bA⟩,(KM R)⟩ ?_) ?_
 rintro y _ _ ⟨am,n,z,L,G,rfl,Y,be,aG,bw,aI,h⟩
 rcases y with _|y
 exact Jq<|Jl3 2 R<|Js3 R U31 R R<|Jb 1 R<|Jx2 R (dcf aI)<|Jc1<|Jt<|Jt<|Jb1<|Oh h<|Jw1 _ ⟨am,z,L,G,R,Fct,be,aG,R⟩<|KM R
 refine Ob h λbZ h bx=>have Q:=dct aI;Jq (Jl3 2 R<|Js3 R U31 R R<|Jb 1 R<|Jw2 R Q<|Js<|Jp<|Jq<|Jv<|Jj3<|Je3 R U66 R Z62<|Je3 R U62 R Z32<|Jc3 R I32 ((P.stp<|T4 x C Z Y).ld 1 R R)<|Jn 1 R<|Ob h λ_ aK h=>Jd3 R aF aK U32 Z31 ?_)
 obtain⟨_,_,_,bz⟩:=(aF.stp (T4 x C Z Y)).gSl aK
 refine Jc3 R I31 bz<|Ob h λ_ bJ h=>Jw3 R C95 (dv (J:=Mk am) Gct bJ)<|Ks 12 (bI _) λa6 a9 bQ U av bf=>Tv<|Jb 1 R<|Jq<|Jl3 2 R<|Ob h λb1 aL h=>Jd3 R ah aL U31 Z2 (have ag:=ah.stp (T7 aw aa x C Z Y av);Jc3 R I2 (ag.gInt aL) (Jb 1 R<|Ob h λS h bu=>Jt3 [1,2,4,6,7] (λo p a=>∃b H I,p=(8,.slice H S.length I)::o/\Stp [13] U bQ b a/\Oc E6 2 b a 12 H I S) ?_ ?_))
 exact Bk h (λbB h=>Jy R<|Js<|Oh h<|Jw1 _ ⟨U,a6,a9,R,Jo3,bf⟩<|KM R) (λbB h=>Jx R<|Jm3 2 R<|Ob h λbS aM h=>Jd3 R ag aM U31 Z2<|Jc3 R I2 (ag.gInt aM)<|Ji4 U 13 [bS] R Y31 bG R λa8 a7 _ aZ _ _=>Tv<|Jc 1 R<|Oh h<|Jw1 _ ⟨(λj=>ren [(13,12)]<|aZ j),a8,a7,R,Fct,Fct⟩<|KM R)
 rintro _ _ ⟨aY,H,I,rfl,a5,bg⟩
 refine have h:=bu;Jp (Jk3<|Je3 R U66 R Z62<|Je3 R U62 R Z32<|Jc3 R I32 ((aG.stp<|av.tr a5).ld 1 R R)<|Jn 1 R<|Jb4 aY (ER E6 2) 13 [12] (parts:=[(0,.tmp 54)]) (cells:=[.slice H S.length I]) (xs:=([S]:VV)) R Y32 bL R (Jj4 ⟨_,_,R,bg⟩) λbT bU _ a0 _ bh=>Tv<|Ob h λaj bK h=>Jd4 a0 (ER E6 2) 7 [13] R Y32 bL R Fct bh.src (c7 R) bK R λaf ae _ ao _ _=>Tv<|Je3 R U66 R Z62<|Je3 R U62 R Z32<|Jz3 ao 9 (off:=1) (vc:=[.slice af aj.length ae]) (cs':=[.slice s (((⟨(⟨c,([]:VV)⟩:Arena),d⟩:Parity).Arena).Owner).length q,.slice af aj.length ae,.slice t ((⟨(⟨c,([]:VV)⟩:Arena),d⟩:Parity).Prio).length u]) R Z32 R Fct R λ_ _ bi=>Tv<|Jo<|Jz<|Jp<|Jg3 R ?_)
 have bE:ET .i64 (n+1)=n+1:=wr1 bw (Jn2 Q) ah.len_le
 rw[bE]
 have Q:=Jn2 Q
 cases h
 exact Ja2 ⟨ao,n+1,aj,af,ae,R,Fct,Fct,bi,by omega,by omega,bx⟩ R
 rintro _ _ ⟨al,T,O,K,rfl,_,_,bd,rfl⟩
 exact have h:=yI bt;Jp (Jj3<|Jg4 tv R (Jh4 (haE bd.cells) I66 Z66 R)<|Jm4 al 3 R Z66 R Fct R λ_ _ bj=>Tv<|Jb 1 R<|Ju<|Jb2 (l:=[.cell 4 66,.tmp 5]) results207 (bM R bj I66 Z66 R<|Jq2 R R) R<|Oh h<|⟨(λj=>ren [(6,2),(7,3),(8,4)]<|al j),s,q,O,K,t,u,R,Fct,Fct,Fct,Fct⟩)
theorem xY {H F L I N M K G i g}{p0:l7Game}{E ae}{p1:VB}{p2:Int}(T:Rd Ri J w 0 H F p0.owner) (am:Rd Ri J w 0 L I p0.prio) (U:Rd Rs J w 0 N M p0.next) (an:Rd Rs J w 0 K G p0.prev) (aA:Oc E6 2 J w 2 i g p0.pick) (V:Rd Rp.bool J w 0 E ae p1){r:Int×VI}(h:ru p0 p1 p2=some r):Ret prog 189 [.agg #[.slice H p0.owner.length F,.slice L p0.prio.length I,.slice N p0.next.length M,.slice K p0.prev.length G,.slice i p0.pick.length g],.slice E p1.length ae,vi p2] w (λaz b=>∃c,az=vi r.1/\Ent J w c b/\Oc E6 2 c b 2 i g r.2/\p0.pick.length=r.2.length):=by
 refine Jp3 J func189 R ntmps189 R λaB=>Jj3<|Jx3 J 3 R λ_ af u j ak=>Tv<|Jb 1 R<|Jq<|Jf3 R<|Ob h λad ar W=>Jx1 (λv b=>∃c,∃s:Int×VI,v=[]/\Stp [2] u af c b/\Oc E6 2 c b 2 i g s.2/\p0.pick.length=s.2.length/\ad=EW s) (Jv<|Ju3 [1,2,3] (λq z v b=>∃c,∃a:Int×VI,v=(7,vi a.1)::z/\Stp [2] u af c b/\Oc E6 2 c b 2 i g a.2/\p0.pick.length=a.2.length/\bQ (mu p0 p1 p2) q a=some ad) ⟨_,_,⟨u,((0:Int),p0.pick),R,Jo3,Fct,R,ar⟩,(KM R)⟩ ?_) ?_
 rintro q _ _ ⟨t,a,rfl,e,k,p,h⟩
 rcases q with _|q
 cases h
 refine Ob h λ_ h o=>Jq<|Jl3 1 R<|Je3 R U204 R Z32 (have m:=ak.stp e;Jc3 R I32 (m.ld 2 R R) (Jn 1 R<|Ob h λaC X h=>Jd3 R U X U32 Z31 ?_))
 have n:=U.stp (j.tr e)
 obtain⟨_,_,_,ao⟩:=n.gSl X
 refine Jc3 R I31 ao<|Js3 R U31 R R<|Jb 1 R ?_
 refine Bk h (λau h=>Jy R<|Jc1<|Jt<|Jt ?_) (λau h=>Jx R<|Js<|Jp<|Jq<|Jv<|Jj3<|Je3 R U204 R Z32<|Jc3 R I32 (m.ld 2 R R)<|Jn 1 R<|Ob h λ_ Y h=>Jd3 R n Y U32 Z31 ?_)
 cases h
 exact have h:=o;Jb1 (Oh h<|Jw1 _ ⟨t,(a.1,a.2),R,Fct,k,p,R⟩ KN)
 obtain⟨_,_,O,ap⟩:=n.gSl Y
 refine Jc3 R I31 ap<|Jn 1 R<|Ob h λ_ Z h=>Jd3 R O Z U31 Z2<|Jc3 R I2 (O.gInt Z)<|Jb 1 R<|Jq<|Jl3 2 R<|Ob h λaD aa h=>Jd3 R V aa U129 Z4 (have P:=V.stp (j.tr e);Jc3 R I4 (P.gBool aa) (Jb 1 R ?_))
 refine Bk h (λav h=>Jy R<|Js<|Jp<|Jj3<|Je3 R U204 R Z31<|Jc3 R I31 (m.ld 4 R R)<|Jn 2 R<|Ob h λ_ ax h=>Jf R (Jg2 k.rdc ax U31 Z2 R R p R) (Ob h λy ac h=>Jk1 (J:=t) (E:=E6) 2 [] R R R R R R R R Z2 R R R R k ac λ_ A f aj=>Tv<|have x:p0.pick.length=y.length:=p.trans (Ju2 ac).2.2.2.symm;Jd (Jq<|Xn A [0,3] [5,8,14,0,9,17,18,22] λ_ d=>Jn 1 R<|Je3 R U204 R Z31<|Jn 1 R (have Q:=m.stp (f.tr d);Jg R (Jh4 (haC Q.cells R) I204 Z204 R) (Jg R (Jd2 I31 R R<|hvC (Q.ld 0 R R) R)<|Ob h λ_ ab h=>Jd3 R T ab U31 Z2 (have S:=T.stp (T4 j e f d);Jg R (Jd2 I2 R R<|hvC (S.gInt ab) R) (Ob h λaE ay h=>have al:=aj.stp d;have C:=(T4 j e f d);Jw3 R call210 (Ret.cast (by simp only[x,List.cons_append,List.nil_append])<|wG (J:=Mk A) (p0:=(⟨p0.owner,p0.prio,p0.next,p0.prev,y⟩:l7Game)) (Jn3 S) (Jn3<|am.stp C) (Jn3<|n.stp<|f.tr d) (Jn3<|an.stp C) (Jn3 al.rdc) (Jn3<|P.stp<|f.tr d) ay) ?_))))))) (λav h=>Jx R<|Jc1<|Jt<|Jb1<|Jp<|Jg3 R ?_)
 rintro _ _ ⟨_,rfl,ah⟩
 refine Im ah 4 R (λB D _=>⟨(D.cl R),Jt1<|Jd ?_⟩)
 refine Bk h (λaw h=>Jy R<|Js<|Jz<|Jp<|Jg3 R ?_) (λaw h=>Jx R<|Jf3 R<|Ju<|Ja1<|Jw<|Jw ?_)
 cases h
 exact Ja2 ⟨B,(((ET .i64<|a.1+1):Int),y),R,(T4 e f d D).wk R,Fct,x,o⟩ R
 cases h
 obtain rfl:=EU o
 exact have h:=yL W;Ja1 (Jr2<|Jw<|Jb2 (l:=[.tmp 6]) results189 (Jq2 R R) R<|Oh h<|⟨B,R,Fct,Fct,x⟩)
 cases h
 exact Ja2 ⟨t,(((ET .i64<|a.1+1):Int),a.2),R,Fct,k,p,o⟩ R
 rintro _ _ ⟨ag,s,rfl,_,ai,aq,rfl⟩
 exact have h:=yI W;Jp (Jf3 R<|Ju<|Jb2 (l:=[.tmp 6]) results189 (Jq2 R R) R<|Oh h<|⟨ag,R,Fct,ai,aq⟩)
theorem xf {p0:Sig}{V Q X S}{p1:Machine}{P W U T}{p2:Rival}(ag:Rd Rs J w 0 V Q p1.Next) (ah:Rd Rs J w 0 X S p1.Out) (ai:Rd Ri J w 0 P W p2.In) (aj:Rd Rs J w 0 U T p2.Next){r:Word×Bool}(h:qy p0 p1 p2=some r):Ret prog 12 [.agg #[vi p0.In,vi p0.Out],.agg #[.slice V p1.Next.length Q,.slice X p1.Out.length S],.agg #[.slice P p2.In.length W,.slice U p2.Next.length T]] w (λb g=>∃i av ax aw ay,b= .tuple #[.agg #[.slice av r.1.Stem.length ax,.slice aw r.1.Loop.length ay],.bool r.2]/\Ent J w i g/\Oc E6 2 i g 2 av ax r.1.Stem/\Oc E6 2 i g 3 aw ay r.1.Loop):=by
 refine Jp3 J func12 R ntmps12 R λbD=>Jj3<|Jx3 J 2 R λ_ _ aG y aZ=>Tv<|Jx3 aG 3 R λ_ _ aH x ae=>Tv<|Jx3 aH 4 R λ_ _ aC j ab=>Tv<|Jy3 aC 5 R X44 R λ_ _ aF c _=>Tv<|Jb 1 R<|Jq<|Jj3 (have z:=aZ.stp (T3 x j c);Jg4 tv R (Jh4 (haE z.cells) I28 Z28 R) (Ob h λbE bg h=>Jw3 R call33 (jl (J:=Mk aF) (p0:=p0) bg)<|Kb λbs L a=>Tv<|Jn 2 R<|Ob h λbp h a5=>Jk4 [3,4,5,6] 23 bp L bs 5 tv ?_ ?_))
 exact Bk h (λbc h=>Jg4 tv R (Jh4 (haE (z.stp a).cells) I28 Z28 R)<|Jg4 tv R (Jh4 (haE (ae.stp<|T3 j c a).cells) I38 Z38 R)<|Ob h λ_ bh h=>Jw3 R call34 (tA (J:=Mk L) (p0:=p0) (p1:=p1) Gct Gct bh)<|Kb λ_ _ _=>Tv<|Jn 2 R<|Oh h<|Jv1 _ tv ⟨R,_,Fct⟩<|KM R) (λbc h=>Je4 R<|Je4 R<|Je4 R<|Jn 2 R<|Oh h<|Jl4 tv R)
 rintro _ bt _ ⟨rfl,M,d⟩
 refine Jn 1 R<|Ob a5 λbq h a6=>Jk4 [3,4,5,6] 29 bq M bt 5 tv ?_ ?_
 exact Bk h (λbd h=>Jg4 tv R (Jh4 (haE (z.stp<|a.tr d).cells) I28 Z28 R)<|Jg4 tv R (Jh4 (haE (ab.stp<|T3 c a d).cells) I34 Z34 R)<|Ob h λ_ bi h=>Jw3 R call35 (nu (J:=Mk M) (p0:=p0) (p1:=p2) Gct Gct bi)<|Kb λ_ _ _=>Tv<|Jn 2 R<|Oh h<|Jv1 _ tv ⟨R,_,Fct⟩<|KM R) (λbd h=>Je4 R<|Je4 R<|Je4 R<|Jn 2 R<|Oh h<|Jl4 tv R)
 rintro _ _ _ ⟨rfl,C,k⟩
 refine have h:=a6;Jd ?_
 refine Bk h (λbe h=>Jy R<|Js<|Jp<|Jj3<|Jc4 C E6 8 R Y31 bG R λaQ aR _ aI m _=>Tv<|Jb 1 R<|Jj3<|WO.mkmap (J:=aI) 9 R R R R R kwI2 kvI2 (λb:Int=>vi b) λbo _ aJ n _=>Tv<|Jb 1 R<|Jj3<|Jf R (Jn4 [vi 0,vi 0] R)<|Jy3 aJ 10 R X88 R λaU _ D o a1=>Tv<|Jm4 D 10 R Z88 R a1 R λbu p a2=>Tv<|Jd<|Ob h λbr bb a7=>Jv<|Ju3 [3,4,5,6,9,10] (λA aB aK g=>∃(i:Col) (f:VI×Int×Int×(List ((Int×Int)×Int))) (G:Option Addr) (F:Nat),aK=(8,.slice G f.1.length F)::aB/\Stp [8,9,10] D bu i g/\Oc E6 2 i g 8 G F f.1/\Mc kwI2 kvI2 (λb:Int=>vi b) i g 9 bo f.2.2.2/\Bc i g 10 aU 88 [vi f.2.1,vi f.2.2.1]/\bQ (j4 p0 p1 p2) A f=some br) ⟨_,_,⟨D,(([]:VI),(0:Int),(0:Int),(([]:List ((Int×Int)×Int)):(List ((Int×Int)×Int)))),aQ,aR,R,Jo3,Fct,Fct,a2,bb⟩,(KM R)⟩ ?_) (λbe h=>Jx R<|Jj3<|Jf R (Jn4 [.slice none 0 0,.slice none 0 0] R)<|Jm4 C 5 R Z44 R Fct R λ_ _ a0=>Tv<|Jb 1 R<|Ju<|Jw<|Jb2 (l:=[.cell 6 44,.tmp 7]) results12 (bM R a0 I44 Z44 R<|Jq2 R R) R<|Oh h<|⟨C,none,0,none,0,R,Fct,EY,EY⟩)
 rintro A _ _ ⟨E,f,G,F,rfl,q,_,af,K,h⟩
 rcases A with _|A
 cases h
 refine Ob h λ_ h ak=>Jv<|Jq<|Jl3 1 R<|Jg4 tv R (Jh4 (haE K.cells) I88 Z88 R)<|Ob h λbF bj h=>Jg4 tv R (vm (kf:=kvI2) (vf:=(λb:Int=>vi b)) tK runUnderlying87 zeroValue3 R R R (mvE af) bj)<|Jb 5 R<|Jf3 R ?_
 refine Bk h (λbf h=>Jy R<|Js<|Jp<|Jl3 1 R<|Jg4 tv R (Jh4 (haE K.cells) I88 Z88 R)<|Jn 1 R<|Js3 R U31 R R<|Ob h λbA bn h=>WO.mapup (J:=E) (kf:=kvI2) (vf:=(λb:Int=>vi b)) (v:=(f.1.length:Int)) 9 R R R R R R R tK runUnderlying87 af bn λ_ e _=>Tv<|Jd<|Jj3<|Je3 R U34 R Z31 (have Y:=ab.stp (T10 c a d k m n o p q e);Jc3 R I31 (Y.ld 0 R R) (Jf R (eN U88 Z2 R R R R) (have H:=K.stp e;Jc3 R I2 (H.ld 1 R R) (Ob h λbv al h=>Jd3 R ai al U31 Z2<|Jc3 R I2 ((ai.stp<|T13 y x j c a d k m n o p q e).gInt al)<|Jb 1 R<|Jj3<|Je3 R U38 R Z32 (have Z:=ae.stp (T11 j c a d k m n o p q e);Jc3 R I32 (Z.ld 1 R R) (Jf R (eN U88 Z2 R R R R)<|Jc3 R I2 (H.ld 0 R R)<|Ob h λ_ am h=>Jd3 R ah am U32 Z31 ?_))))))) (λbf h=>Jx R<|Jl3 2 R<|Ob h λ_ bk h=>Jw3 R call36 (qB (J:=Mk E) Gct bk) ?_)
 obtain⟨_,_,aa,a8⟩:=(ah.stp (T13 y x j c a d k m n o p q e)).gSl am
 refine Jc3 R I31 a8<|Jn 1 R<|Ob h λbw an h=>Jd3 R aa an U31 Z2<|Jc3 R I2 (aa.gInt an)<|Jb 1 R<|Jl3 2 R<|Jg4 tv R (Jh4 (haE (z.stp<|T9 a d k m n o p q e).cells) I28 Z28 R)<|Ob h λbx bl h=>Jw3 R C25 (cF (J:=Mk E) (p0:=p0) bl)<|Ki λ_ aD s=>Tv<|Jn 3 R<|Ji4 aD 13 [(ET .i64 ((ET .i64<|bw * bx)+bv))] R Y31 bG R λbC bB _ aE t aX=>Tv<|Ob h λbz bm h=>Jd4 aE E6 8 [] R Y31 bG R Fct (EV (bO _) aX.rdc) bJ bm R λaM aO _ B u _=>Tv<|Jb 1 R<|Xr B [0,3,4,10] (some 19) [2,8,20,29,35,47,3,9,14,15,23,24,30,36,41,42,50,51,56] [58] λ_ v=>Je3 R U38 R Z32<|Jf R (eN U88 Z2 R R R R)<|Jn 1 R<|Je3 R U34 R Z32<|Jf R (eN U88 Z2 R R R R)<|Jn 1 R<|Jg R (Jd2 I32 R R<|hvC ((Z.stp<|T4 s t u v).ld 0 R R) R) (have I:=H.stp (T4 s t u v);Jg R (Jd2 I2 R R<|hvC (I.ld 0 R R) R) (Ob h λ_ ao h=>Jd3 R ag ao U32 Z31 ?_))
 obtain⟨_,_,ac,a9⟩:=(ag.stp (y.tr (x.tr (j.tr (c.tr (a.tr (d.tr (k.tr (m.tr (n.tr (o.tr (p.tr (q.tr (e.tr (s.tr (t.tr (u.tr v))))))))))))))))).gSl ao
 refine Jg R (Jd2 I31 R R<|hvC a9 R)<|Ob h λaz ap h=>Jd3 R ac ap U31 Z2<|Jg R (Jd2 I2 R R<|hvC (ac.gInt ap) R)<|Jg R (Jd2 I32 R R<|hvC ((Y.stp<|T4 s t u v).ld 1 R R) R)<|Jg R (Jd2 I2 R R<|hvC (I.ld 1 R R) R)<|Ob h λ_ aq h=>Jd3 R aj aq U32 Z31 ?_
 obtain⟨_,_,ad,ba⟩:=(aj.stp (y.tr (x.tr (j.tr (c.tr (a.tr (d.tr (k.tr (m.tr (n.tr (o.tr (p.tr (q.tr (e.tr (s.tr (t.tr (u.tr v))))))))))))))))).gSl aq
 refine Jg R (Jd2 I31 R R<|hvC ba R)<|Ob h λaA ar h=>Jd3 R ad ar U31 Z2<|Jg R (Jd2 I2 R R<|hvC (ad.gInt ar) R)<|Jf R (Jn4 [vi az,vi aA] R)<|Jt1<|Jm4 B 10 R Z88 R I R λ_ _ aY=>Tv<|Jo<|Jz ?_
 cases h
 exact Ja2 ⟨B,(bz,az,aA,bA),aM,aO,R,Fct,Fct,Fct,aY,ak⟩ R
 rintro _ _ ⟨_,aN,aP,aL,aS,rfl,aV,a3,a4⟩
 refine Im aV 11 R (λN _ au=>Tv<|Jn 2 R<|Jm4 N 5 R Z44 R Fct R λ_ O aW=>Tv<|Jb 1 R<|Ju<|Jw<|Ja1<|Jw ?_)
 cases h
 obtain rfl:=EU ak
 exact have h:=yL a7;Ja1 (Jb2 (l:=[.cell 6 44,.tmp 7]) results12 (bM R aW I44 Z44 R<|Jq2 R R) R<|Oh h<|⟨(λaT=>ren [(13,2),(14,3)]<|N aT),aN,aP,aL,aS,R,Fct,(((a3.mx (bI _) au R (R:11+2=13)).stp O).map (ren [(13,2),(14,3)]) R R),(((a4.mx (bI _) au R (R:11+3=14)).stp O).map (ren [(13,2),(14,3)]) R R)⟩)
theorem rO {p0:Sig}{u G}{p1:VC}{x z y v}{p2:Word}(Q:Rd Clause.rp J w 0 u G p1) (aj:Rd Ri J w 0 x z p2.Stem) (ak:Rd Ri J w 0 y v p2.Loop){r:Int}(h:jK p0 p1 p2=some r):Ret prog 37 [.agg #[vi p0.In,vi p0.Out],.slice u p1.length G,.agg #[.slice x p2.Stem.length z,.slice y p2.Loop.length v]] w (Pvi J w r):=by
 refine Jp3 J func37 R ntmps37 R λal=>Jj3<|Jx3 J 2 R λ_ _ K N P=>Tv<|Jx3 K 3 R λ_ _ M t A=>Tv<|Jb 1 R<|Jq<|Jj3 (have n:=P.stp t;Jg4 tv R (Jh4 (haE n.cells) I28 Z28 R) (Jn 1 R (Ob h λap Z h=>have m:=Q.stp (N.tr t);Jw3 R call81 (oS (J:=Mk M) (p0:=p0) Gct Z) (Kb λad q b=>Tv<|Jn 2 R<|Ob h λac h S=>Jk4 [1,3,5] 17 ac q ad 5 tv ?_ ?_))))
 exact Bk h (λW h=>Jg4 tv R (Jh4 (haE (n.stp b).cells) I28 Z28 R)<|Jg4 tv R (Jh4 (haE (A.stp b).cells) I44 Z44 R)<|Ob h λ_ aa h=>Jw3 R call82 (sd (J:=Mk q) (p0:=p0) (p1:=p2) Gct Gct aa)<|Kb λ_ _ _=>Tv<|Jn 2 R<|Oh h<|Jv1 _ tv ⟨R,_,Fct⟩<|KM R) (λW h=>Je4 R<|Je4 R<|Je4 R<|Jn 2 R<|Oh h<|Jl4 tv R)
 rintro _ H _ ⟨rfl,d,i⟩
 refine have h:=S;Jd ?_
 refine Bk h (λX h=>Jy R<|Js<|Jp<|Jq<|Jf3 R<|Ob h λF U B=>Jx1 (λg o=>∃p,g=[]/\Stp [] d H p o/\F=EW ()) (Jv<|Ju3 [1,3,5] (λc I g o=>∃p a,g=(7,vi a)::I/\Stp [] d H p o/\0<=a/\ES ((p1.length:Int)-a)=c/\cntM (gB p0 p1 p2) c a ()=some F) ⟨_,_,⟨d,0,R,Jo3,(by decide),(by simp),U⟩,(KM R)⟩ ?_) ?_) (λX h=>Jx R<|Jf3 R<|Ju<|Jw<|Jb2 (l:=[.tmp 6]) results37 (Jq2 R R) R<|Oh h<|⟨d,R,Fct⟩)
 rintro c _ _ ⟨f,a,rfl,j,C,e,h⟩
 rcases c with _|c
 exact Jq<|Jl3 2 R<|Js3 R U29 R R<|Jb 1 R<|Jx2 R (dcf e)<|Jc1<|Jt<|Jt<|Jb1<|Oh h<|Jw1 _ ⟨f,R,Fct,R⟩ KN
 refine Ob h λam h D=>Jq<|Jl3 2 R<|Js3 R U29 R R<|Jb 1 R<|Jw2 R (dct e)<|Js<|Jp<|Jq<|Jv<|Jq<|Js1 (J:=f) [0,2,3] none [(1,2),(2,2),(3,2),(0,0),(4,0),(5,0),(6,1),(7,2)] [] (by kernel_rfl) (by kernel_rfl) λ_ k=>Jn 2 R<|Ob h λae E h=>Jd3 R m E U29 Z54<|Jg R (Jh4 (haC (n.stp<|T4 b i j k).cells R) I28 Z28 R) ?_
 obtain⟨_,V,T⟩:=((m.stp (T4 b i j k))).gSt E
 obtain⟨af,an,ag,ao,rfl,ah,ai⟩:=Clause.un V
 refine Jg R (Jh4 (haC T R) I54 Z54 R)<|Jg R (Jh4 (haC (A.stp<|T4 b i j k).cells R) I44 Z44 R)<|Ob h λaq ab h=>Jw3 R call83 (wb (J:=Mk f) (p0:=p0) (p1:=ae) (p2:=p2) Gct Gct Gct Gct ab)<|Kb λ_ s O=>⟨(O.cl R),Jn 1 R<|Jt1<|Jd ?_⟩
 refine Bk h (λY h=>Jy R<|Js<|Jz<|Jp<|Jg3 R<|wr2 C e m.len_le ▸ ?_) (λY h=>Jx R<|Jf3 R<|Ju<|Ja1<|Jw<|Jw ?_)
 cases h
 exact Ja2 ⟨s,a+1,R,Fct,nxz C,nxm e,D⟩ R
 cases h
 obtain rfl:=EU D
 exact have h:=yL B;Ja1 (Jr2<|Jw<|Jb2 (l:=[.tmp 6]) results37 (Jq2 R R) R<|Oh h<|⟨s,R,Fct⟩)
 rintro _ _ ⟨L,rfl,_,rfl⟩
 exact have h:=yI B;Jp (Jf3 R<|Ju<|Jb2 (l:=[.tmp 6]) results37 (Jq2 R R) R<|Oh h<|⟨L,R,Fct⟩)
theorem uy {A G}{p0:VP}{B H}{p1:VI}(u:Rd Pair.rp J w 0 A G p0) (aA:Rd Ri J w 0 B H p1){r:VI}(h:kX p0 p1=some r):Ret prog 86 [.slice A p0.length G,.slice B p1.length H] w (Pvs E6 2 J w r):=by
 refine Jp3 J func86 R ntmps86 R λaB=>Jf3 R<|Jj3<|Jc4 J E6 2 R Y31 bG R λS ap I s P Y=>Tv<|Jb 1 R<|Jq<|Jl3 1 R<|Js3 R U56 R R<|Jb 1 R<|Ob h λF ah ae=>Jx1 (λd a=>∃b,∃p:VI,∃m j,d=[(5,.slice m p.length j)]/\Stp [2,3] s I b a/\Oc E6 2 b a 2 m j p/\F=EW p) (Jv<|Ju3 [1,9,10] (λg q d a=>∃b c,∃i:VI,∃f e,d=(5,.slice f i.length e)::(11,vi c)::q/\Stp [2,3] s I b a/\Oc E6 2 b a 2 f e i/\0<=c/\ES ((p0.length:Int)-c)=g/\cntM (jE p0 p1) g c i=some F) ⟨_,_,⟨s,0,([]:VI),S,ap,R,Jo3,Y,(by decide),(by simp),ah⟩,(KM R)⟩ ?_) ?_
 rintro g _ _ ⟨x,c,i,f,e,rfl,O,W,D,o,h⟩
 rcases g with _|g
 exact Jf3 R<|Jq<|Jx2 R (dcf o)<|Jc1<|Jt<|Jt<|Jb1<|Oh h<|Jw1 _ ⟨x,i,f,e,R,Fct,W,R⟩<|KM R
 refine Ob h λo5 h af=>Jf3 R<|Jq<|Jw2 R (dct o)<|Js<|Jp<|Jq<|Jv<|Jl3 1 R<|Ob h λ_ E h=>Jd3 R u E U56 Z96 ?_
 obtain⟨_,ai,ag⟩:=((u.stp (P.tr O))).gSt E
 obtain⟨au,aC,av,aD,rfl,ay,az⟩:=Pair.un ai
 refine Jg4 tv R (Jh4 (haE ag) I96 Z96 R)<|Jy3 x 3 R X96 R λ_ _ y _ X=>Tv<|Jn 1 R<|Jm4 y 3 R Z96 R X R λ_ _ C=>Tv<|Jd<|Jl3 1 R<|Je3 R U96 R Z31<|Jc3 R I31 (C.ld 0 R R)<|Ob h λaE al h=>Jw3 R call145 (tE (J:=Mk y) Gct Gct al)<|Kb λaq z Q=>Tv<|Jn 1 R<|Ob h λao h ac=>Jk4 [1,5,6,9,10,11] 26 ao z aq 6 tv ?_ ?_
 exact Bk h (λaj h=>Jn 2 R<|Je4 R<|Je4 R<|Jn 2 R<|Oh h<|Jl4 tv R) (λaj h=>Jn 1 R<|Je3 R U96 R Z31<|Jc3 R I31 ((C.stp Q).ld 1 R R)<|Ob h λ_ am h=>Jw3 R call145 (tE (J:=Mk z) Gct Gct am)<|Kb λ_ _ _=>Tv<|Jn 2 R<|Oh h<|Jv1 _ tv ⟨R,_,Fct⟩<|KM R)
 rintro _ ar _ ⟨rfl,t,_⟩
 refine Jd<|Ob ac λv h ad=>Jt3 [1,9,10,11] (λq d a=>∃b k n,d=(5,.slice k v.length n)::q/\Stp [2] t ar b a/\Oc E6 2 b a 2 k n v) ?_ ?_
 exact Bk h (λak h=>Jy R<|Js<|Oh h<|Jw1 _ ⟨t,f,e,R,Jo3,Fct⟩<|KM R) (λak h=>Jx R<|Jm3 2 R<|Ji4 t 6 [c] R Y31 bG R λaw ax _ L _ aa=>Tv<|Ob h λ_ an h=>Jd4 L E6 2 [] R Y31 bG R Fct (EV (bO _) aa.rdc) bJ an R λU T _ M _ ab=>Tv<|Jc 1 R<|Oh h<|Jw1 _ ⟨M,U,T,R,Fct,ab⟩<|KM R)
 rintro _ _ ⟨K,k,n,rfl,_,Z⟩
 refine have h:=ad;Jz (Jp<|Jg3 R<|wr2 D o u.len_le ▸ ?_)
 cases h
 exact Ja2 ⟨K,c+1,v,k,n,R,Fct,Z,nxz D,nxm o,af⟩ R
 rintro _ _ ⟨N,p,m,j,rfl,_,V,rfl⟩
 exact have h:=yI ae;Jp (Jf3 R<|Ju<|Jb2 (l:=[.tmp 4]) results86 (Jq2 R R) R<|Oh h<|⟨N,m,j,R,Fct,V⟩)
theorem sb {z G}{p0:VI}{A H}{p1:VI}(ac:Rd Ri J w 0 z G p0) (aq:Rd Ri J w 0 A H p1){r:VI}(h:m0 p0 p1=some r):Ret prog 153 [.slice z p0.length G,.slice A p1.length H] w (Pvs E6 2 J w r):=by
 refine Jp3 J func153 R ntmps153 R λar=>Jf3 R<|Jj3<|Jc4 J E6 2 R Y31 bG R λB I _ L T _=>Tv<|Jb 1 R<|Jq<|Jl3 2 R (Ob h λav aj h=>have v:=ac.stp T;Jw3 R call155 (o8 (J:=Mk L) Gct Gct aj) (Kb λK j Q=>Tv<|Jb 1 R ?_))
 refine Bk h (λah h=>Jy R<|Js<|Jp<|Jq<|Jf3 R<|Ob h λF ag ad=>Jx1 (λd a=>∃b,∃q:VI,∃n k,d=[(5,.slice n q.length k)]/\Stp [2] j K b a/\Oc E6 2 b a 2 n k q/\F=EW q) (Jv<|Ju3 [0,1] (λg s d a=>∃b c,∃i:VI,∃f e,d=(5,.slice f i.length e)::(6,vi c)::s/\Stp [2] j K b a/\Oc E6 2 b a 2 f e i/\0<=c/\ES ((p0.length:Int)-c)=g/\cntM (mf p0 p1) g c i=some F) ⟨_,_,⟨j,0,([]:VI),B,I,R,Jo3,Fct,(by decide),(by simp),ag⟩,(KM R)⟩ ?_) ?_) (λah h=>Jx R<|Jf3 R<|Ju<|Jw<|Jb2 (l:=[.tmp 4]) results153 (Jq2 R R) R<|Oh h<|⟨j,B,I,R,Fct,Fct⟩)
 rintro g _ _ ⟨y,c,i,f,e,rfl,S,Y,C,p,h⟩
 rcases g with _|g
 exact Jq<|Jl3 2 R<|Js3 R U31 R R<|Jb 1 R<|Jx2 R (dcf p)<|Jc1<|Jt<|Jt<|Jb1<|Oh h<|Jw1 _ ⟨y,i,f,e,R,Fct,Y,R⟩<|KM R
 refine Ob h λau h af=>Jq<|Jl3 2 R<|Js3 R U31 R R<|Jb 1 R<|Jw2 R (dct p)<|Js<|Jp<|Jq<|Jv<|Jl3 3 R<|Ob h λ_ D h=>Jd3 R v D U31 Z2 (have u:=v.stp (Q.tr S);Jc3 R I2 (u.gInt D) (Ob h λaw ak h=>Jw3 R C99 (dP (J:=Mk y) Gct ak)<|Kb λam t U=>Tv<|Jd<|Ob h λx h ae=>Jt3 [0,1,6] (λs d a=>∃b m o,d=(5,.slice m x.length o)::s/\Stp [2] t am b a/\Oc E6 2 b a 2 m o x) ?_ ?_))
 exact Bk h (λai h=>Jy R<|Js<|Oh h<|Jw1 _ ⟨t,f,e,R,Jo3,Fct⟩<|KM R) (λai h=>Jx R<|Jm3 3 R<|Ob h λan E h=>Jd3 R u E U31 Z2<|Jc3 R I2 ((u.stp U).gInt E)<|Ji4 t 7 [an] R Y31 bG R λap ao _ O _ aa=>Tv<|Ob h λ_ al h=>Jd4 O E6 2 [] R Y31 bG R Fct (EV (bO _) aa.rdc) bJ al R λV W _ P _ ab=>Tv<|Jc 1 R<|Oh h<|Jw1 _ ⟨P,V,W,R,Fct,ab⟩<|KM R)
 rintro _ _ ⟨N,m,o,rfl,_,Z⟩
 refine have h:=ae;Jz (Jp<|Jg3 R<|wr2 C p v.len_le ▸ ?_)
 cases h
 exact Ja2 ⟨N,c+1,x,m,o,R,Fct,Z,nxz C,nxm p,af⟩ R
 rintro _ _ ⟨M,q,n,k,rfl,_,X,rfl⟩
 exact have h:=yI ad;Jp (Jf3 R<|Ju<|Jb2 (l:=[.tmp 4]) results153 (Jq2 R R) R<|Oh h<|⟨M,n,k,R,Fct,X⟩)
theorem xO {u D}{p0:VI}{v E}{p1:VI}(ar:Rd Ri J w 0 u D p0) (p:Rd Ri J w 0 v E p1){r:VI}(h:qX p0 p1=some r):Ret prog 154 [.slice u p0.length D,.slice v p1.length E] w (λak a=>∃b B C,ak= .slice B r.length C/\Ent J w b a/\Rd Ri b a 0 B C r):=by
 refine Jp3 J func154 R ntmps154 R λau=>Jf3 R<|Jq<|Jl3 2 R<|Ob h λaw aj h=>Jw3 R call155 (o8 (J:=Mk J) Gct Gct aj)<|Kb λ_ s P=>Tv<|Jb 1 R ?_
 refine Bk h (λag h=>Jy R<|Js<|Jp<|Jl3 1 R<|Ob h λam ah h=>Jw3 R C95 (dv (J:=Mk s) Gct ah)<|Ks 6 (bI _) λS T q I M aa=>Tv<|Jb 1 R<|Jq<|Jf3 R<|Ob h λA af ad=>?_) (λag h=>Jx R<|Jj3<|Jc4 s E6 4 R Y31 bG R λQ W al G _ Z=>Tv<|Jb 1 R<|Ju<|Jw ?_)
 obtain⟨n,N,ap⟩:=dg I q 6
 refine Jx1 (λo a=>∃b,∃m:VI,∃j f,o=[(5,.slice j m.length f)]/\Stp [] n q b a/\Rd Ri b a 0 j f m/\A=EW m) (Jv<|Ju3 [1] (λd F o a=>∃b c,∃e:VI,∃i g,o=(5,.slice i e.length g)::(6,vi c)::F/\Stp [] n q b a/\Rd Ri b a 0 i g e/\0<=c/\ES ((p1.length:Int)-c)=d/\cntM (l9 p1) d c e=some A) ⟨_,_,⟨n,0,am,S,T,R,Jo3,(Sl.st ap aa.rdc),(by decide),(by simp),af⟩,(KM R)⟩ ?_) ?_
 rintro d _ _ ⟨t,c,e,i,g,rfl,O,x,y,k,h⟩
 rcases d with _|d
 exact Jq<|Jl3 2 R<|Js3 R U31 R R<|Jb 1 R<|Jx2 R (dcf k)<|Jc1<|Jt<|Jt<|Jb1<|Oh h<|Jw1 _ ⟨t,e,i,g,R,Fct,x,R⟩<|KM R
 refine Ob h λav h ae=>Jq<|Jl3 2 R<|Js3 R U31 R R<|Jb 1 R<|Jw2 R (dct k)<|Js<|Jp<|Jq<|Jv<|Jm3 3 R<|Ob h λ_ z h=>Jd3 R p z U31 Z2<|Jc3 R I2 ((p.stp<|T4 P M N O).gInt z)<|Ob h λan ai h=>Jw3 R call46 (oY (J:=λX=>mp [] 1<|t X) (Jm2 x (mp [] 1) R R) ai) ?_
 rintro _ _ ⟨_,V,U,rfl,Y,ac⟩
 refine Im0 Y 7 R (λL _ _ aq=>Tv<|Jc 1 R<|Jz<|Jp<|Jg3 R<|wr2 y k p.len_le ▸ ?_)
 cases h
 exact Ja2 ⟨L,c+1,an,V,U,R,Fct,(ac.mx aq),nxz y,nxm k,ae⟩ R
 rintro _ _ ⟨K,m,j,f,rfl,_,ab,rfl⟩
 exact have h:=yI ad;Jp (Jf3 R<|Ju<|Jb2 (l:=[.tmp 4]) results154 (Jq2 R R) R<|Oh h<|⟨K,j,f,R,Fct,ab⟩)
 obtain⟨H,_,ao⟩:=dg G al 4
 exact Jb2 (l:=[.tmp 4]) results154 (Jq2 R R) R<|Oh h<|⟨H,Q,W,R,Fct,(Sl.st ao Z.rdc)⟩
theorem xQ {z G}{p0:VI}{A H}{p1:VI}(ac:Rd Ri J w 0 z G p0) (aq:Rd Ri J w 0 A H p1){r:VI}(h:qY p0 p1=some r):Ret prog 98 [.slice z p0.length G,.slice A p1.length H] w (Pvs E6 2 J w r):=by
 refine Jp3 J func98 R ntmps98 R λar=>Jf3 R<|Jj3<|Jc4 J E6 2 R Y31 bG R λB I _ L T _=>Tv<|Jb 1 R<|Jq<|Jl3 2 R (Ob h λav aj h=>have v:=ac.stp T;Jw3 R call155 (o8 (J:=Mk L) Gct Gct aj) (Kb λK j Q=>Tv<|Jb 1 R ?_))
 refine Bk h (λah h=>Jy R<|Js<|Jp<|Jq<|Jf3 R<|Ob h λF ag ad=>Jx1 (λd a=>∃b,∃q:VI,∃n k,d=[(5,.slice n q.length k)]/\Stp [2] j K b a/\Oc E6 2 b a 2 n k q/\F=EW q) (Jv<|Ju3 [0,1] (λg s d a=>∃b c,∃i:VI,∃f e,d=(5,.slice f i.length e)::(6,vi c)::s/\Stp [2] j K b a/\Oc E6 2 b a 2 f e i/\0<=c/\ES ((p0.length:Int)-c)=g/\cntM (me p0 p1) g c i=some F) ⟨_,_,⟨j,0,([]:VI),B,I,R,Jo3,Fct,(by decide),(by simp),ag⟩,(KM R)⟩ ?_) ?_) (λah h=>Jx R<|Jf3 R<|Ju<|Jw<|Jb2 (l:=[.tmp 4]) results98 (Jq2 R R) R<|Oh h<|⟨j,B,I,R,Fct,Fct⟩)
 rintro g _ _ ⟨y,c,i,f,e,rfl,S,Y,C,p,h⟩
 rcases g with _|g
 exact Jq<|Jl3 2 R<|Js3 R U31 R R<|Jb 1 R<|Jx2 R (dcf p)<|Jc1<|Jt<|Jt<|Jb1<|Oh h<|Jw1 _ ⟨y,i,f,e,R,Fct,Y,R⟩<|KM R
 refine Ob h λau h af=>Jq<|Jl3 2 R<|Js3 R U31 R R<|Jb 1 R<|Jw2 R (dct p)<|Js<|Jp<|Jq<|Jv<|Jl3 3 R<|Ob h λ_ D h=>Jd3 R v D U31 Z2 (have u:=v.stp (Q.tr S);Jc3 R I2 (u.gInt D) (Ob h λaw ak h=>Jw3 R C99 (dP (J:=Mk y) Gct ak)<|Kb λam t U=>Tv<|Jb 1 R<|Ob h λx h ae=>Jt3 [0,1,6] (λs d a=>∃b m o,d=(5,.slice m x.length o)::s/\Stp [2] t am b a/\Oc E6 2 b a 2 m o x) ?_ ?_))
 exact Bk h (λai h=>Jy R<|Js<|Oh h<|Jw1 _ ⟨t,f,e,R,Jo3,Fct⟩<|KM R) (λai h=>Jx R<|Jm3 3 R<|Ob h λan E h=>Jd3 R u E U31 Z2<|Jc3 R I2 ((u.stp U).gInt E)<|Ji4 t 7 [an] R Y31 bG R λao ap _ O _ aa=>Tv<|Ob h λ_ al h=>Jd4 O E6 2 [] R Y31 bG R Fct (EV (bO _) aa.rdc) bJ al R λW V _ P _ ab=>Tv<|Jc 1 R<|Oh h<|Jw1 _ ⟨P,W,V,R,Fct,ab⟩<|KM R)
 rintro _ _ ⟨N,m,o,rfl,_,Z⟩
 refine have h:=ae;Jz (Jp<|Jg3 R<|wr2 C p v.len_le ▸ ?_)
 cases h
 exact Ja2 ⟨N,c+1,x,m,o,R,Fct,Z,nxz C,nxm p,af⟩ R
 rintro _ _ ⟨M,q,n,k,rfl,_,X,rfl⟩
 exact have h:=yI ad;Jp (Jf3 R<|Ju<|Jb2 (l:=[.tmp 4]) results98 (Jq2 R R) R<|Oh h<|⟨M,n,k,R,Fct,X⟩)
theorem kV {p0:Sig}{ao ak aq al}{p1:Rival}{aj ap an am}{p2:Word}(bw:Rd Ri J w 0 ao ak p1.In) (bx:Rd Rs J w 0 aq al p1.Next) (b6:Rd Ri J w 0 aj ap p2.Stem) (b7:Rd Ri J w 0 an am p2.Loop){r:Word×Bool}(h:lL p0 p1 p2=some r):Ret prog 16 [.agg #[vi p0.In,vi p0.Out],.agg #[.slice ao p1.In.length ak,.slice aq p1.Next.length al],.agg #[.slice aj p2.Stem.length ap,.slice an p2.Loop.length am]] w (λb0 a=>∃b aB aD aC aE,b0= .tuple #[.agg #[.slice aB r.1.Stem.length aD,.slice aC r.1.Loop.length aE],.bool r.2]/\Ent J w b a/\Oc E6 2 b a 2 aB aD r.1.Stem/\Oc E6 2 b a 3 aC aE r.1.Loop):=by
 refine Jp3 J func16 R ntmps16 R λb8=>Jj3<|Jx3 J 2 R λ_ _ aO af bo=>Tv<|Jx3 aO 3 R λ_ _ aP H bs=>Tv<|Jx3 aP 4 R λ_ _ aI o av=>Tv<|Jy3 aI 5 R X44 R λ_ _ X j _=>Tv<|Jb 1 R<|Jq<|Jq (Xn X [2,3,4] [0,4,8,11,12,15,19,23,26,29,35,30,36,41,43,47,50] λ_ k=>have Q:=bo.stp (T4 H o j k);Jg R (Jh4 (haC Q.cells R) I28 Z28 R) (Ob h λb9 bK h=>Jw3 R call33 (jl (J:=Mk X) (p0:=p0) bK)<|Kb λb1 Z c=>⟨(c.cl R),Jn 2 R<|Ob h λbY h bA=>Jk4 [3,4,5,6] 20 bY Z b1 5 (c.cl R) ?_ ?_⟩))
 exact Bk h (λbE h=>Jg R (Jh4 (haC Q.cells R) I28 Z28 R)<|Jg R (Jh4 (haC (bs.stp<|T3 o j k).cells R) I34 Z34 R)<|Ob h λ_ bL h=>Jw3 R call35 (nu (J:=Mk Z) (p0:=p0) (p1:=p1) Gct Gct bL)<|Kb λ_ _ ag=>⟨((c.tr ag).cl R),Jn 2 R<|Oh h<|Jv1 _ ((c.tr ag).cl R) ⟨R,_,Fct⟩<|KM R⟩) (λbE h=>Jf4 R<|Jf4 R<|Je4 R<|Jn 2 R<|Oh h<|Jv1 _ (c.cl R) ⟨R,_,Jo3⟩<|KM R)
 rintro _ b2 _ ⟨rfl,aa,e⟩
 refine Jn 1 R<|Ob bA λbZ h bB=>Jk4 [3,4,5,6] 28 bZ aa b2 7 ((c.tr e).cl R) ?_ ?_
 exact Bk h (λbF h=>Je3 R U28 R Z2<|Jg R (Jh4 (haC (av.stp<|j.tr k).cells R) I44 Z44 R)<|Jg R (Jd2 I2 R R<|hvC (Q.ld 1 R R) R)<|Ob h λ_z25 bX h=>Jf R (oP R R R<|r8 bX)<|Ob h λ_ bN h=>Jw3 R call50 (xi (J:=Mk aa) (p0:=p2) Gct Gct bN)<|Kb λ_ _ ah=>⟨((T3 c e ah).cl R),Jn 2 R<|Oh h<|Jv1 _ ((T3 c e ah).cl R) ⟨R,_,Fct⟩<|KM R⟩) (λbF h=>Jn 1 R<|Jf4 R<|Jf4 R<|Jn 1 R<|Je4 R<|Jn 2 R<|Oh h<|Jv1 _ ((c.tr e).cl R) ⟨R,_,Jo3⟩<|KM R)
 rintro _ _ _ ⟨rfl,z,E⟩
 refine have h:=bB;Jt1 (Jd ?_)
 refine Bk h (λbH h=>Jy R<|Js<|Jp<|Jj3<|Jc4 z E6 8 R Y31 bG R λa6 aU _ aQ F _=>Tv<|Jy3 aQ 9 R zeroValue31 R λar _ ab G bq=>Tv<|Ja4 ab 9 (vc:=[.slice a6 ([]:VI).length aU]) R Z31 R bq R λ_ I _=>Tv<|Jd<|Jj3<|Jy3 ab 10 R X2 R λau _ ac K br=>Tv<|Ja4 ac 10 (vc:=[vi 0]) R Z2 R br R λ_ L _=>Tv<|Jd<|Jj3<|Jf R (dH (first:=[]) (captured:=[.tmp 8,.tmp 3,.tmp 4,.tmp 9]) R R R ⟨_,R⟩)<|Jb 1 R<|Jl3 1 R<|Je3 R U44 R Z31 (have S:=av.stp (T10 j k c e E F G I K L);Jc3 R I31 (S.ld 0 R R) (Ob h λaG bP h=>WO.callV R R R R R R R R call51 (mQ (J:=λf=>mp [(8,2),(9,3),(10,4)] 0<|ac f) (c1:=p0) (c2:=p1) (Jm2 Fct (mp [(8,2),(9,3),(10,4)] 0) R R) Fct (Jm2 (bw.stp<|T13 af H o j k c e E F G I K L) (mp [(8,2),(9,3),(10,4)] 0) R R) (Jm2 (bx.stp<|T13 af H o j k c e E F G I K L) (mp [(8,2),(9,3),(10,4)] 0) R R) Fct Fct Fct Fct bP) ?_))) (λbH h=>Jx R<|Jj3<|Jf R (Jn4 [.slice none 0 0,.slice none 0 0] R)<|Jm4 z 5 R Z44 R Fct R λ_ _ bp=>Tv<|Jb 1 R<|Ju<|Jw<|Jb2 (l:=[.cell 6 44,.tmp 7]) results16 (bM R bp I44 Z44 R<|Jq2 R R) R<|Oh h<|⟨z,none,0,none,0,R,Fct,EY,EY⟩)
 rintro _ _ ⟨_,a2,aZ,rfl,ba,bt,bu,bv⟩
 refine Im ba 11 R (λaR ai U=>Tv<|Jd<|Jj3<|Jc4 aR E6 16 R Y31 bG R λa5 aX aF y m bb=>Tv<|Jb 1 R<|Jq<|Ob h λaA bC bz=>Jt3 [5,6,8,9] (λx A a=>∃b,∃g:VI×VI×Int,∃P O N M,A=(11,.slice P g.1.length O)::x/\Stp [13,14,15,16,22,23,24] y aF b a/\Oc E6 2 b a 16 P O g.1/\Oc E6 2 b a 13 N M g.2.1/\Bc b a 14 ar 31 [.slice N g.2.1.length M]/\Bc b a 15 au 2 [vi g.2.2]/\aA=EW g) (Jv<|Ju3 [5,6,8,9,10] (λv x A a=>∃b,∃d:VI×VI×Int,∃u q t s,A=(11,.slice u d.1.length q)::x/\Stp [13,14,15,16,22,23,24] y aF b a/\Oc E6 2 b a 16 u q d.1/\Oc E6 2 b a 13 t s d.2.1/\Bc b a 14 ar 31 [.slice t d.2.1.length s]/\Bc b a 15 au 2 [vi d.2.2]/\bQ (iD p0 p1 p2) v d=some aA) ⟨_,_,⟨y,(([]:VI),aG.1,aG.2),a5,aX,a2,aZ,R,Jo3,bb,((bt.mx (bI _) U R (R:11+2=13)).stp m),((bu.mx U R (R:11+3=14)).stp m),((bv.mx U R (R:11+4=15)).stp m),bC⟩,(KM R)⟩ ?_) ?_)
 rintro v _ _ ⟨aJ,d,u,q,t,s,rfl,ad,be,bf,bg,aw,h⟩
 rcases v with _|v
 cases h
 refine Ob h λ_ h ay=>Jq<|Jl3 1 R<|Jc3 R I2 (aw.ld 0 R R)<|Ob h λca bR h=>Jw3 R C38 (bT (J:=Mk aJ) Gct bR)<|Kb λ_ W i=>Tv<|Jb 1 R ?_
 refine Bk h (λbD h=>Jy R<|Jc1<|Jt<|Jt ?_) (λbD h=>Jx R<|Js<|Jp<|Jv<|Jl3 1 R<|Jc3 R I2 ((aw.stp i).ld 0 R R)<|Ji4 W 19 [d.2.2] R Y31 bG R λb5 b4 _ aK n bh=>Tv<|Ob h λb3 bS h=>Jd4 aK E6 16 [] R Y31 bG R (be.stp<|i.tr n) (EV (bO _) bh.rdc) bJ bS R λa3 a4 _ aL p _=>Tv<|Jb 1 R<|Jm3 1 R<|Je3 R U44 R Z31<|Jc3 R I31 ((S.stp<|T3 ((T4 ai m ad i)) n p).ld 1 R R)<|Ob h λaH bU h=>WO.callV R R R R R R R R call51 (mQ (J:=λf=>mp [(13,2),(14,3),(15,4)] 0<|aL f) (c1:=p0) (c2:=p1) (Jm2 Fct (mp [(13,2),(14,3),(15,4)] 0) R R) ((bf.stp<|T3 i n p).map (mp [(13,2),(14,3),(15,4)] 0) R R) (Jm2 Fct (mp [(13,2),(14,3),(15,4)] 0) R R) (Jm2 Fct (mp [(13,2),(14,3),(15,4)] 0) R R) ((bg.stp<|T3 i n p).map (mp [(13,2),(14,3),(15,4)] 0) R R) Fct Fct Fct bU) ?_)
 cases h
 exact have h:=ay;Jb1 (Oh h<|Jw1 _ ⟨W,(d.1,d.2.1,d.2.2),u,q,t,s,R,Fct,Fct,Fct,Fct,Fct,R⟩<|KM R)
 rintro _ _ ⟨_,a1,a7,rfl,a8,bi,bj,bk⟩
 refine Im a8 20 R (λaM aT T=>Tv<|Jo<|Jz ?_)
 cases h
 exact Ja2 ⟨(λf=>ren [(22,13),(23,14),(24,15)]<|aM f),(b3,aH.1,aH.2),a3,a4,a1,a7,R,(Jz2 ((T5 ad i n p aT).wk R) [(22,13),(23,14),(24,15)] R),Fct,((bi.mx (bI _) T R (R:20+2=22)).map (ren [(22,13),(23,14),(24,15)]) R R),((bj.mx T R (R:20+3=23)).map (ren [(22,13),(23,14),(24,15)]) R R),((bk.mx T R (R:20+4=24)).map (ren [(22,13),(23,14),(24,15)]) R R),ay⟩ R
 rintro _ _ ⟨V,g,P,O,N,M,rfl,aS,_,_,bc,bd,rfl⟩
 refine have h:=yI bz;Jp (Jq<|Xn V [4,14,15] [5,14,23,0,6,11,15,24,29,19,32,35,37,41,44,46,50] λ_ B=>Je3 R U44 R Z31<|Jn 1 R<|Je3 R U44 R Z31<|Jg R (Jd2 I31 R R<|hvC ((bc.stp B).ld 0 R R) R) (have ax:=S.stp (T4 ai m aS B);Jg R (Jd2 I31 R R<|hvC (ax.ld 0 R R) R) (Js3 R U31 R R<|Jg R (Jd2 I2 R R<|hvC ((bd.stp B).ld 0 R R) R)<|Jg R (Jd2 I31 R R<|hvC (ax.ld 1 R R) R)<|Js3 R U31 R R<|Ob h λ_ bV h=>Jw3 R call28 (dN (J:=Mk V) Gct bV)<|Ki λ_ aN C=>⟨(C.cl R),Jn 2 R<|Ob h λ_ bW h=>Jw3 R call36 (qB (J:=Mk aN) Gct bW) ?_⟩)))
 rintro _ _ ⟨_,aY,aV,a0,aW,rfl,a9,bl,bm⟩
 exact Im a9 19 R (λY ae az=>⟨((C.tr ae).cl R),Jn 2 R<|Jm4 Y 5 R Z44 R Fct R λ_ D bn=>⟨((T3 C ae D).cl R),Jn 1 R<|Jt1<|Jd<|Ju<|Jb2 (l:=[.cell 6 44,.tmp 7]) results16 (bM R bn I44 Z44 R<|Jq2 R R) R<|Oh h<|⟨(λf=>ren [(21,2),(22,3)]<|Y f),aY,aV,a0,aW,R,Fct,(((bl.mx (bI _) az R (R:19+2=21)).stp D).map (ren [(21,2),(22,3)]) R R),(((bm.mx (bI _) az R (R:19+3=22)).stp D).map (ren [(21,2),(22,3)]) R R)⟩⟩⟩)
end
end Go.Proofs.YtfombamjdkihnaaGreat
