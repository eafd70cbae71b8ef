/- The walks, part 2. By program. -/
import Derived.Test.YtfombamjdkihnaaGreatFns0EI
import Derived.Test.YtfombamjdkihnaaGreatFns1EI
set_option linter.unusedVariables false
set_option linter.unusedSimpArgs false
open Go.Wk.Ep renaming bool → EQ, own → ER
open Int renaming toNat → ES
open Go.IntKind renaming wrap → ET
open Option.some renaming inj → EU
open Go.Wk.Sl renaming srcP → EV
open Sum renaming inr → EW
namespace Go.Proofs.YtfombamjdkihnaaGreat
open Tryz
open Go Go.Wk Go.Proofs
set_option maxRecDepth 100000
set_option maxHeartbeats 1000000
section
variable {w:World}{J:Col}
theorem uB {p0:Sig}{t s q p}{p1:Clause}(ag:Rd Ri J w 0 t s p1.A) (ah:Rd Ri J w 0 q p p1.B){r:Bool}(h:nr p0 p1=some r):Ret prog 102 [.agg #[vi p0.In,vi p0.Out],.agg #[vi p1.Kind,.slice t p1.A.length s,.slice q p1.B.length p]] w (Pvb J w r):=by
 refine Jp3 J func102 R ntmps102 R λai=>Jj3<|Jx3 J 2 R λ_ _ x _ u=>Tv<|Jx3 x 3 R λ_ _ k o F=>Tv<|Jb 1 R<|Jq<|Jq<|Xn k [2,3] [2,3,8,11,14,15,20,23,26,29,30,33,37,40,44,47,50,53,54,57,61,64,68,71] λab f=>Je3 R U54 R Z2 (have c:=F.stp f;Jg R (Jd2 I2 R R<|hvC (c.ld 0 R R) R) (Jn 2 R<|Ob h λW h G=>Jk4 [2,3] 12 W k ab 4 (Cl.refl _ _ _) ?_ ?_))
 exact Bk h (λL h=>Je3 R U54 R Z2<|Jg R (Jd2 I2 R R<|hvC (c.ld 0 R R) R)<|Jn 2 R<|Oh h<|Jv1 _ (Cl.refl _ _ _) ⟨R,_,Jo3⟩<|KM R) (λL h=>Jn 1 R<|Jf4 R<|Jn 2 R<|Oh h<|Jv1 _ (Cl.refl _ _ _) ⟨R,_,Jo3⟩<|KM R)
 rintro _ ac _ ⟨rfl,g,a⟩
 refine Jn 1 R<|Ob G λX h H=>Jk4 [2,3] 20 X g ac 7 (a.cl R) ?_ ?_
 exact Bk h (λM h=>Je3 R U54 R Z31<|Jg R (Jd2 I31 R R<|hvC (c.ld 1 R R) R)<|Jg R (Jh4 (haC (u.stp<|o.tr f).cells R) I28 Z28 R)<|Ob h λ_ Q h=>Jw3 R call54 (fX (J:=Mk g) (p0:=p0) Q)<|Ki λ_ y d=>⟨((a.tr d).cl R),Ob h λ_ S h=>Jw3 R call157 (lb (J:=Mk y) Gct S)<|Kb λ_ _ m=>⟨((T3 a d m).cl R),Jn 2 R<|Oh h<|Jv1 _ ((T3 a d m).cl R) ⟨R,_,Fct⟩<|KM R⟩⟩) (λM h=>Jn 1 R<|Jf4 R<|Jf4 R<|Je4 R<|Je4 R<|Jn 2 R<|Oh h<|Jv1 _ (a.cl R) ⟨R,_,Jo3⟩<|KM R)
 rintro _ ad _ ⟨rfl,i,b⟩
 refine Jn 1 R<|Ob H λY h I=>Jk4 [3] 28 Y i ad 7 ((a.tr b).cl R) ?_ ?_
 exact Bk h (λN h=>Je3 R U54 R Z31<|Jg R (Jd2 I31 R R<|hvC (c.ld 2 R R) R)<|Jg R (Jh4 (haC (u.stp<|o.tr f).cells R) I28 Z28 R)<|Ob h λ_ T h=>Jw3 R call54 (fX (J:=Mk i) (p0:=p0) T)<|Ki λ_ z e=>⟨((T3 a b e).cl R),Ob h λ_ U h=>Jw3 R call157 (lb (J:=Mk z) Gct U)<|Kb λ_ _ n=>⟨((T4 a b e n).cl R),Jn 2 R<|Oh h<|Jv1 _ ((T4 a b e n).cl R) ⟨R,_,Fct⟩<|KM R⟩⟩) (λN h=>Jn 1 R<|Jf4 R<|Jf4 R<|Je4 R<|Je4 R<|Jn 2 R<|Oh h<|Jv1 _ ((a.tr b).cl R) ⟨R,_,Jo3⟩<|KM R)
 rintro _ _ _ ⟨rfl,j,D⟩
 refine have h:=I;Jt1 (Jd ?_)
 refine Bk h (λO h=>Jy R<|Js<|Jp<|Jj3<|Je3 R U54 R Z2 (have v:=c.stp (T3 a b D);Jc3 R I2 (v.ld 0 R R) (Ob h λaj V h=>Jw3 R call158 (tu (J:=Mk j) V)<|Kb λae A E=>Tv<|Jn 1 R<|Ob h λZ h K=>Ju1 [(4,2),(5,1),(6,2),(7,2),(8,2)] [(9,2)] (λC aa=>C=[(37,.bool Z)]/\∃af,Stp [] A ae af aa) tv ?_ ?_))) (λO h=>Jx R<|Jf3 R<|Ju<|Jw<|Jb2 (l:=[.tmp 4]) results102 (Jq2 R R) R<|Oh h<|⟨j,R,Fct⟩)
 exact Bk h (λP h=>Je3 R U54 R Z31<|Jc3 R I31 ((v.stp E).ld 2 R R)<|Js3 R U31 R R<|Jn 2 R<|Oh h<|Jl4 tv R) (λP h=>Jn 1 R<|Je4 R<|Jn 3 R<|Oh h<|Jl4 tv R)
 rintro _ _ _ ⟨rfl,B,_⟩
 exact have h:=K;Jb 1 R (Ju<|Jb2 (l:=[.tmp 4]) results102 (Jq2 R R) R<|Oh h<|⟨B,R,Fct⟩)
theorem bT {a b}{p0:VI}{p1:Int}(e:Rd Ri J w 0 a b p0){r:Bool}(h:bP p0 p1=some r):Ret prog 38 [.slice a p0.length b,vi p1] w (Pvb J w r):=by
 exact Jp3 J func38 R ntmps38 R λf=>Jf3 R<|Jl3 2 R<|Ob h λ_ d h=>Jw3 R call28 (dN (J:=Mk J) Gct d)<|Ki λ_ c _=>Tv<|Jb 2 R<|Ju<|Jb2 (l:=[.tmp 4]) results38 (Jq2 R R) R<|Oh h<|⟨c,R,Fct⟩
theorem kY {p0:Sig}{bp bn bs br}{p1:Det}(aB:Rd Rs J w 0 bp bn p1.Next) (a6:Rd Pair.rp J w 0 bs br p1.Pairs){r:Arena×VP}(h:eW p0 p1=some r):Ret prog 20 [.agg #[vi p0.In,vi p0.Out],.agg #[.slice bp p1.Next.length bn,.slice bs p1.Pairs.length br]] w (λep a=>∃b b0 b3 b1 b4 b2 b5,ep= .tuple #[.agg #[.slice b0 r.1.Owner.length b3,.slice b1 r.1.Next.length b4],.slice b2 r.2.length b5]/\Ent J w b a/\Oc E6 2 b a 2 b0 b3 r.1.Owner/\Oc (ER E6 2) 31 b a 3 b1 b4 r.1.Next/\Oc Pair.ep96 96 b a 4 b2 b5 r.2):=by
 refine Jp3 J func20 R ntmps20 R λeM=>Jj3<|Jx3 J 2 R λ_ _ cn bm du=>Tv<|Jx3 cn 3 R λ_ _ cs aY dC=>Tv<|Jy3 cs 4 R X62 R λ_ _ ce P _=>Tv<|Jb 1 R<|Jj3<|Jf R (Jn4 [.slice none 0 0,.slice none 0 0] R)<|Jy3 ce 5 R X62 R λt _ aN S c9=>Tv<|Jm4 aN 5 R Z62 R c9 R λ_ T _=>Tv<|Jd<|Jq<|Xn aN [2,3] [2,3,8,9,13,17,20] λ_ U=>Je3 R U58 R Z32 (have a5:=dC.stp (T4 P S T U);Jg R (Jd2 I32 R R<|hvC (a5.ld 0 R R) R) (Js3 R U32 R R (have bB:=du.stp (T5 aY P S T U);Jg R (Jh4 (haC bB.cells R) I28 Z28 R) (Ob h λp ee h=>Jw3 R C25 (cF (J:=Mk aN) (p0:=p0) ee)<|Ki λb9 aR s=>⟨(s.cl R),Jn 2 R<|Jt1<|Jd<|Jq<|Jf3 R<|Ob h λbX d3 dJ=>Jt3 [2,3,4,6,7,8] (λd e a=>∃b,∃n:VI×VV,∃aw aq ak ax,e=d/\Stp [5,8,9,10,12] aR b9 b a/\Oc E6 2 b a 8 aw aq n.1/\Oc (ER E6 2) 31 b a 9 ak ax n.2/\Bc b a 5 t 62 [.slice aw n.1.length aq,.slice ak n.2.length ax]/\bX=EW n) (Jv<|Ju3 [2,3,4,6,7,8,25] (λc d e a=>∃b g,∃i:VI×VV,∃V Y C B,e=(26,vi g)::d/\Stp [5,8,9,10,12] aR b9 b a/\Oc E6 2 b a 8 V Y i.1/\Oc (ER E6 2) 31 b a 9 C B i.2/\Bc b a 5 t 62 [.slice V i.1.length Y,.slice C i.2.length B]/\0<=g/\ES ((p1.Next.length:Int)-g)=c/\cntM (fO p1 p) c g i=some bX) ⟨_,_,⟨aR,0,(([]:VI),([]:VV)),none,0,none,0,R,Jo3,Ow.nil,Ow.nil,Fct,(by decide),(by simp),d3⟩,(KM R)⟩ ?_) ?_⟩))))
 rintro c _ _ ⟨bf,g,i,V,Y,C,B,rfl,_,dv,dw,bC,dP,bE,h⟩
 rcases c with _|c
 exact Jf3 R<|Jq<|Jx2 R (dcf bE)<|Jc1<|Jt<|Jt<|Jb1<|Oh h<|Jw1 _ ⟨bf,(i.1,i.2),V,Y,C,B,R,Fct,dv,dw,bC,R⟩<|KM R
 refine Ob h λeR h dU=>have aH:=dct bE;Jf3 R (Jq<|Jw2 R aH<|Js<|Jp<|Jq<|Jv<|Jf3 R<|Jj3<|Jc4 bf E6 10 R Y31 bG R λcO cH cc aT cD dx=>Tv<|Jb 1 R<|Jq<|Jf3 R (Ob h λ_ d7 h=>have dN:=hU d7;Ob h λbY d4 dK=>Jt3 [2,3,4,6,7,8,25,26] (λd e a=>∃b,∃u:VI,∃ao au,e=(10,.slice ao u.length au)::d/\Stp [10] aT cc b a/\Oc E6 2 b a 10 ao au u/\bY=EW u) (Jv<|Ju3 [2,3,4,6,7,8,9,25,26,30] (λc d e a=>∃b q,∃M:VI,∃ap av,e=(10,.slice ap M.length av)::(31,vi q)::d/\Stp [10] aT cc b a/\Oc E6 2 b a 10 ap av M/\0<=q/\ES (p-q)=c/\cntM (fP p1 p g) c q M=some bY) ⟨_,_,⟨aT,0,([]:VI),cO,cH,R,Jo3,dx,(by decide),(by simp),d4⟩,(KM R)⟩ ?_) ?_))
 rintro c _ _ ⟨bg,q,M,ap,av,rfl,_,dy,bP,aF,h⟩
 rcases c with _|c
 exact Jf3 R<|Jq<|Jx2 R (dcf aF)<|Jc1<|Jt<|Jt<|Jb1<|Oh h<|Jw1 _ ⟨bg,M,ap,av,R,Fct,dy,R⟩<|KM R
 refine Ob h λeS h dV=>Jf3 R<|Jq<|Jw2 R (dct aF)<|Js<|Jp<|Jq<|Jv<|Jf3 R<|Jm3 8 R<|Ji4 bg 11 [(ET .i64 ((ET .i64 ((p1.Next.length:Int)+(ET .i64<|g * p)))+q))] R Y31 bG R λeD eI _ ct _ dz=>Tv<|Ob h λes ef h=>Jd4 ct E6 10 [] R Y31 bG R Fct (EV (bO _) dz.rdc) bJ ef R λcM cP _ cu _ dA=>Tv<|Jc 1 R<|Jz<|Jp<|Jg3 R<|wr2 bP aF dN ▸ ?_
 cases h
 exact Ja2 ⟨cu,q+1,es,cM,cP,R,Fct,dA,nxz bP,nxm aF,dV⟩ R
 rintro _ _ ⟨cr,u,ao,au,rfl,cE,_,rfl⟩
 refine have h:=yI dK;Jp (Jj3<|Je3 R U62 R Z31<|Jc3 R I31 ((bC.stp<|cD.tr cE).ld 0 R R)<|Ji4 cr 11 [1] R Y31 bG R λex eA _ cv _ dB=>Tv<|Ob h λaK eg h=>Jd4 cv E6 8 [] R Y31 bG R Fct (EV (bO _) dB.rdc) bJ eg R λae aa _ bh _ _=>Tv<|Je3 R U62 R Z31<|Jz3 bh 5 (off:=0) (vc:=[.slice ae aK.length aa]) (cs':=[.slice ae aK.length aa,.slice C i.2.length B]) R Z31 R Fct R λ_ _ dD=>Tv<|Jd<|Jk3<|Je3 R U62 R Z32<|Jc3 R I32 (dD.ld 1 R R)<|Jn 1 R<|Jb4 bh (ER E6 2) 12 [10] (parts:=[(0,.tmp 52)]) (cells:=[.slice ao u.length au]) (xs:=([u]:VV)) R Y32 bL R (Jj4 ⟨_,_,R,Fct⟩) λbF eF _ cw _ dE=>Tv<|Ob h λa8 eh h=>Jd4 cw (ER E6 2) 9 [12] R Y32 bL R Fct dE.src (c7 R) eh R λa3 a4 _ bi _ _=>Tv<|Je3 R U62 R Z32<|Jz3 bi 5 (off:=1) (vc:=[.slice a3 a8.length a4]) (cs':=[.slice ae aK.length aa,.slice a3 a8.length a4]) R Z32 R Fct R λ_ _ cY=>Tv<|Jo<|Jz<|Jp<|Jg3 R ?_)
 have ea:ET .i64 (g+1)=g+1:=wr1 dP (Jn2 aH) aB.len_le
 rw[ea]
 have aH:=Jn2 aH
 cases h
 exact Ja2 ⟨bi,g+1,(aK,a8),ae,aa,a3,a4,R,Fct,Fct,Fct,cY,by omega,by omega,dU⟩ R
 rintro _ cb ⟨aS,n,aw,aq,ak,ax,rfl,z,dr,ds,dt,rfl⟩
 refine have h:=yI dJ;Jp (Jq<|Jf3 R<|Ob h λbZ dZ dF=>Jt3 [3,4,6] (λd e a=>∃b,∃v:VI×VV,∃X ai aA az,e=d/\Stp [5,8,9,10,13,17,18] aS cb b a/\Oc E6 2 b a 8 X ai v.1/\Oc (ER E6 2) 31 b a 9 aA az v.2/\Bc b a 5 t 62 [.slice X v.1.length ai,.slice aA v.2.length az]/\bZ=EW v) (Jv<|Ju3 [2,3,4,6,8,57] (λc d e a=>∃b o,∃f:VI×VV,∃E G H A,e=(58,vi o)::d/\Stp [5,8,9,10,13,17,18] aS cb b a/\Oc E6 2 b a 8 E G f.1/\Oc (ER E6 2) 31 b a 9 H A f.2/\Bc b a 5 t 62 [.slice E f.1.length G,.slice H f.2.length A]/\0<=o/\ES ((p1.Next.length:Int)-o)=c/\cntM (fQ p0 p1 p) c o f=some bZ) ⟨_,_,⟨aS,0,(n.1,n.2),aw,aq,ak,ax,R,Jo3,dr,ds,dt,(by decide),(by simp),dZ⟩,(KM R)⟩ ?_) ?_)
 rintro c _ b6 ⟨O,o,f,E,G,H,A,rfl,aU,bv,bw,bx,bH,aC,h⟩
 rcases c with _|c
 exact Jf3 R<|Jq<|Jx2 R (dcf aC)<|Jc1<|Jt<|Jt<|Jb1<|Oh h<|Jw1 _ ⟨O,(f.1,f.2),E,G,H,A,R,Fct,bv,bw,bx,R⟩<|KM R
 refine Ob h λeN h dQ=>Jf3 R<|Jq<|Jw2 R (dct aC)<|Js<|Jp<|Jq<|Jv<|Jf3 R<|Jf3 R (Ob h λ_ d5 h=>have dL:=hU d5;Ob h λbU d0 dG=>Jt3 [2,3,4,6,8,57,58] (λd e a=>∃b,∃m:VI×VV,∃Z ag ad af,e=d/\Stp [5,8,9,10,13,17,18] O b6 b a/\Oc E6 2 b a 8 Z ag m.1/\Oc (ER E6 2) 31 b a 9 ad af m.2/\Bc b a 5 t 62 [.slice Z m.1.length ag,.slice ad m.2.length af]/\bU=EW m) (Jv<|Ju3 [2,3,4,6,8,12,57,58,61] (λc d e a=>∃b k,∃j:VI×VV,∃ar ay D F,e=(62,vi k)::d/\Stp [5,8,9,10,13,17,18] O b6 b a/\Oc E6 2 b a 8 ar ay j.1/\Oc (ER E6 2) 31 b a 9 D F j.2/\Bc b a 5 t 62 [.slice ar j.1.length ay,.slice D j.2.length F]/\0<=k/\ES (p-k)=c/\cntM (fR p0 p1 p o) c k j=some bU) ⟨_,_,⟨O,0,(f.1,f.2),E,G,H,A,R,Jo3,bv,bw,bx,(by decide),(by simp),d0⟩,(KM R)⟩ ?_) ?_)
 rintro c _ _ ⟨a9,k,j,ar,ay,D,F,rfl,aV,c3,c4,bz,dO,bD,h⟩
 rcases c with _|c
 exact Jf3 R<|Jq<|Jx2 R (dcf bD)<|Jc1<|Jt<|Jt<|Jb1<|Oh h<|Jw1 _ ⟨a9,(j.1,j.2),ar,ay,D,F,R,Fct,c3,c4,bz,R⟩<|KM R
 refine Ob h λeO h dR=>have aG:=dct bD;Jf3 R (Jq<|Jw2 R aG<|Js<|Jp<|Jq<|Jv<|Jf3 R<|Jj3<|Jc4 a9 E6 10 R Y31 bG R λcT cK b7 aM Q c5=>Tv<|Jb 1 R<|Jq<|Jj3<|Je3 R U28 R Z2<|Jc3 R I2 ((bB.stp<|T5 s z aU aV Q).ld 1 R R)<|Ob h λ_z68 em h=>Jf R (oP R R R<|r8 em)<|Jb 1 R (Ob h λ_ d6 h=>have dM:=hU d6;Ob h λbV d1 dH=>Jt3 [2,3,4,6,8,12,57,58,61,62] (λd e a=>∃b,∃aI:VI,∃a2 aZ,e=(14,.slice a2 aI.length aZ)::d/\Stp [10] aM b7 b a/\Oc E6 2 b a 10 a2 aZ aI/\bV=EW aI) (Jv<|Ju3 [2,3,4,6,8,12,13,57,58,61,62,68] (λc d e a=>∃b y,∃K:VI,∃ah ac,e=(14,.slice ah K.length ac)::(69,vi y)::d/\Stp [10] aM b7 b a/\Oc E6 2 b a 10 ah ac K/\0<=y/\ES ((ET .i64 (1 * 2 ^ (min (ES p0.Out)<|IntKind.bits IntKind.i64)))-y)=c/\cntM (fS p1 p o k) c y K=some bV) ⟨_,_,⟨aM,0,([]:VI),cT,cK,R,Jo3,c5,(by decide),(by simp),d1⟩,(KM R)⟩ ?_) ?_))
 rintro c _ _ ⟨ba,y,K,ah,ac,rfl,bk,c6,bK,aD,h⟩
 rcases c with _|c
 exact Jf3 R<|Jq<|Jx2 R (dcf aD)<|Jc1<|Jt<|Jt<|Jb1<|Oh h<|Jw1 _ ⟨ba,K,ah,ac,R,Fct,c6,R⟩<|KM R
 refine Ob h λeP h dS=>Jf3 R<|Jq<|Jw2 R (dct aD)<|Js<|Jp<|Jq<|Jv<|Jf3 R<|Jm3 1 R<|Je3 R U58 R Z32<|Jc3 R I32 ((a5.stp<|T6 s z aU aV Q bk).ld 0 R R)<|Jn 1 R<|Ob h λ_ bR h=>Jd3 R aB bR U32 Z31 ?_
 obtain⟨_,_,bA,dW⟩:=(aB.stp (T12 bm aY P S T U s z aU aV Q bk)).gSl bR
 refine Jc3 R I31 dW<|Jn 5 R<|Ob h λet bS h=>Jd3 R bA bS U31 Z2<|Jc3 R I2 (bA.gInt bS)<|Ji4 ba 11 [et] R Y31 bG R λeG eH _ ci _ c8=>Tv<|Ob h λeu ei h=>Jd4 ci E6 10 [] R Y31 bG R Fct (EV (bO _) c8.rdc) bJ ei R λcU cR _ cj _ da=>Tv<|Jc 1 R<|Jz<|Jp<|Jg3 R<|wr2 bK aD dM ▸ ?_
 cases h
 exact Ja2 ⟨cj,y+1,eu,cU,cR,R,Fct,da,nxz bK,nxm aD,dS⟩ R
 rintro _ _ ⟨ch,aI,a2,aZ,rfl,cx,_,rfl⟩
 refine have h:=yI dH;Jp (Jl3 1 R<|Ob h λ_ ej h=>Jw3 R call57 (fi (J:=λI=>mp [(10,2)] 0<|ch I) Fct ej) ?_)
 rintro _ _ ⟨_,rfl,cV,db,dY⟩
 refine Im cV 11 R (λck cy en=>Tv<|Jd<|Jj3<|Je3 R U62 R Z31<|Jc3 R I31 ((bz.stp<|T3 Q cx cy).ld 0 R R)<|Ji4 ck 14 [0] R Y31 bG R λey eB _ cl _ dc=>Tv<|Ob h λaL ek h=>Jd4 cl E6 8 [] R Y31 bG R Fct (EV (bO _) dc.rdc) bJ ek R λW an _ aO _ _=>Tv<|Je3 R U62 R Z31<|Jz3 aO 5 (off:=0) (vc:=[.slice W aL.length an]) (cs':=[.slice W aL.length an,.slice D j.2.length F]) R Z31 R Fct R λ_ _ dd=>Tv<|Jd<|Xr aO [5] (some 7) [2,8,3,10,13,16,20] [22] λ_ cz=>Je3 R U62 R Z32<|Jn 1 R<|Jg R (Jd2 I32 R R<|hvC ((dd.stp cz).ld 1 R R) R)<|Ob h λcd el h=>Jw3 R call58 (Ret.cast (by simp only[(dY),List.cons_append,List.nil_append])<|lG (J:=λI=>mp [(13,2)] 0<|aO I) (((db.mx (bI _) en R (R:11+2=13)).stp Fct).map (mp [(13,2)] 0) R R) el) ?_)
 rintro _ _ ⟨_,cJ,cL,rfl,cW,de⟩
 refine Im cW 15 R (λcm aW eo=>⟨(aW.cl R),Jb4 cm (ER E6 2) 18 [17] (parts:=[(0,.tmp 98)]) (cells:=[.slice cJ cd.length cL]) (xs:=([cd]:VV)) R Y32 bL R (Jj4 ⟨_,_,R,(de.mx (bI _) eo R (R:15+2=17))⟩) λeJ ez _ co bl df=>⟨((aW.tr bl).cl R),Ob h λa7 eb h=>Jd4 co (ER E6 2) 9 [18] R Y32 bL R Fct df.src (c7 R) eb R λa1 a0 _ bb cA _=>⟨((T3 aW bl cA).cl R),Je3 R U62 R Z32<|Jt1<|Jz3 bb 5 (off:=1) (vc:=[.slice a1 a7.length a0]) (cs':=[.slice W aL.length an,.slice a1 a7.length a0]) R Z32 R Fct R λ_ _ dg=>Tv<|Jo<|Jz<|Jp<|Jg3 R ?_⟩⟩⟩)
 have d9:ET .i64 (k+1)=k+1:=wr1 dO (Jn2 aG) dL
 rw[d9]
 have aG:=Jn2 aG
 cases h
 exact Ja2 ⟨bb,k+1,(aL,a7),W,an,a1,a0,R,Fct,Fct,Fct,dg,by omega,by omega,dR⟩ R
 rintro _ _ ⟨cg,m,Z,ag,ad,af,rfl,_,c0,c1,c2,rfl⟩
 refine have h:=yI dG;Jz (Jp<|Jg3 R<|wr2 bH aC aB.len_le ▸ ?_)
 cases h
 exact Ja2 ⟨cg,o+1,(m.1,m.2),Z,ag,ad,af,R,Fct,c0,c1,c2,nxz bH,nxm aC,dQ⟩ R
 rintro _ _ ⟨cf,v,X,ai,aA,az,rfl,bj,_,_,cZ,rfl⟩
 refine have h:=yI dF;Jp (Jj3<|Jc4 cf Pair.ep96 10 R Y56 cN R λcQ cG b8 aP aX dh=>Tv<|Jb 1 R<|Jq<|Jj3<|Je3 R U58 R Z56<|Jc3 R I56 ((a5.stp<|T4 s z bj aX).ld 1 R R)<|Js3 R U56 R R<|Jb 1 R<|Ob h λbW d2 dI=>Jt3 [4,6] (λd e a=>∃b,∃aJ:VP,∃al aj,e=(16,.slice al aJ.length aj)::d/\Stp [10,11,14,15,16] aP b8 b a/\Oc Pair.ep96 96 b a 10 al aj aJ/\bW=EW aJ) (Jv<|Ju3 [4,6,106,107] (λc d e a=>∃b x,∃L:VP,∃ab am,e=(16,.slice ab L.length am)::(108,vi x)::d/\Stp [10,11,14,15,16] aP b8 b a/\Oc Pair.ep96 96 b a 10 ab am L/\0<=x/\ES ((p1.Pairs.length:Int)-x)=c/\cntM (fl p1) c x L=some bW) ⟨_,_,⟨aP,0,([]:VP),cQ,cG,R,Jo3,dh,(by decide),(by simp),d2⟩,(KM R)⟩ ?_) ?_)
 rintro c _ _ ⟨bd,x,L,ab,am,rfl,cC,di,bN,aE,h⟩
 rcases c with _|c
 exact Jf3 R<|Jq<|Jx2 R (dcf aE)<|Jc1<|Jt<|Jt<|Jb1<|Oh h<|Jw1 _ ⟨bd,L,ab,am,R,Fct,di,R⟩<|KM R
 refine Ob h λeQ h dT=>Jf3 R<|Jq<|Jw2 R (dct aE)<|Js<|Jp<|Jq<|Jv<|Jj3<|Ob h λeq bQ h=>Jd3 R a6 bQ U56 Z96 ?_
 obtain⟨_,d8,dX⟩:=((a6.stp (T11 bm aY P S T U s z bj aX cC))).gSt bQ
 obtain⟨ev,eT,ew,eU,rfl,eK,eL⟩:=Pair.un d8
 refine Jg4 tv R (Jh4 (haE dX) I96 Z96 R)<|Jy3 bd 11 R X96 R λ_ _ be _ dj=>Tv<|Jm4 be 11 R Z96 R dj R λ_ _ dk=>Tv<|Jd<|Jm3 1 R<|Jg4 tv R (Jh4 (haE dk.cells) I96 Z96 R)<|Ob h λN ec h=>Jw3 R call59 (uz (J:=Mk be) (p0:=eq) Gct Gct ec) ?_
 rintro _ ca ⟨_,bu,bo,bt,bq,rfl,cX,dl,dm⟩
 refine Im cX 12 R (λaQ _ bT=>Tv<|Jb4 aQ Pair.ep96 16 [14,15] (parts:=[(0,.tmp 114)]) (cells:=[.slice bu N.Ask.length bo,.slice bt N.Give.length bq]) (xs:=([N]:VP)) R Y56 cN R (Jj4 ⟨[.slice bu N.Ask.length bo],[.slice bt N.Give.length bq],Zl aQ ca [14],Zl aQ ca [15],R,Zl.sp (l1:=[14]) (l2:=[15]) R,Zl.sr (l1:=[14]) (l2:=[15]),⟨_,_,R,(dl.mx (bI _) bT R (R:12+2=14))⟩,⟨_,_,R,(dm.mx (bI _) bT R (R:12+3=15))⟩⟩) λeE eC _ cp _ dn=>Tv<|Ob h λer ed h=>Jd4 cp Pair.ep96 10 [16] R Y56 cN R Fct dn.src (c7 R) ed R λcS cI _ cq _ dp=>Tv<|Jc 1 R<|Jz<|Jp<|Jg3 R<|wr2 bN aE a6.len_le ▸ ?_)
 cases h
 exact Ja2 ⟨cq,x+1,er,cS,cI,R,Fct,dp,nxz bN,nxm aE,dT⟩ R
 rintro _ _ ⟨bc,aJ,al,aj,rfl,cB,_,rfl⟩
 exact have h:=yI dI;Jp (Jj3<|Jg4 tv R (Jh4 (haE (cZ.stp<|aX.tr cB).cells) I62 Z62 R)<|Jn 1 R<|Jm4 bc 4 R Z62 R Fct R λ_ _ dq=>Tv<|Jb 1 R<|Ju<|Jb2 (l:=[.cell 4 62,.tmp 5]) results20 (bM R dq I62 Z62 R<|Jq2 R R) R<|Oh h<|⟨(λI=>ren [(8,2),(9,3),(10,4)]<|bc I),X,ai,aA,az,al,aj,R,Fct,Fct,Fct,Fct⟩)
theorem tF {d e}{p0:Place}{c0:Int}{c j}{c1:VI}{f g}(u:Rd Ri J w 0 d e p0.Record) (v:Rd Ri J w 0 c j c1) (m:Bc J w 0 f 2 [vi c0]) (n:Bc J w 0 g 31 [.slice c c1.length j]){r:Bool}(h:lW p0 c0 c1=some r):Ret prog 171 [.agg #[vi p0.At,.slice d p0.Record.length e],.pointer (some ⟨f,0,none⟩),.pointer (some ⟨g,0,none⟩)] w (Pvb J w r):=by
 refine Jp3 J func171 R ntmps171 R λx=>Jj3<|Jx3 J 2 R λ_ t a b i=>Tv<|Jb 1 R<|Jj3<|Je3 R U76 R Z2<|Jc3 R I2 (i.ld 0 R R)<|Jc3 R I2 ((m.stp b).ld 0 R R)<|Jn 2 R<|Ob h λs h o=>Jk4 [1,2,4] 14 s a t 5 tv ?_ ?_
 exact Bk h (λp h=>Jn 1 R<|Je4 R<|Je4 R<|Je4 R<|Jn 1 R<|Oh h<|Jl4 tv R) (λp h=>Je3 R U76 R Z31<|Jc3 R I31 (i.ld 1 R R)<|Jc3 R I31 ((n.stp b).ld 0 R R)<|Ob h λ_ q h=>Jw3 R call172 (nf (J:=Mk a) Gct Gct q)<|Kb λ_ _ _=>Tv<|Jn 1 R<|Oh h<|Jv1 _ tv ⟨R,_,Fct⟩<|KM R)
 rintro _ _ _ ⟨rfl,k,_⟩
 exact have h:=o;Jb 1 R (Ju<|Jb2 (l:=[.tmp 4]) results171 (Jq2 R R) R<|Oh h<|⟨k,R,Fct⟩)
theorem ft {a b}{p0:VB}{p1:Bool}(e:Rd Rp.bool J w 0 a b p0){r:Bool}(h:cY p0 p1=some r):Ret prog 175 [.slice a p0.length b,.bool p1] w (Pvb J w r):=by
 exact Jp3 J func175 R ntmps175 R λf=>Jf3 R<|Jl3 2 R<|Ob h λ_ d h=>Jw3 R call201 (lH (J:=Mk J) Gct d)<|Ki λ_ c _=>Tv<|Jb 2 R<|Ju<|Jb2 (l:=[.tmp 4]) results175 (Jq2 R R) R<|Oh h<|⟨c,R,Fct⟩
theorem tp {n k q p}{p0:Arena}(P:Rd Ri J w 0 n k p0.Owner) (Q:Rd Rs J w 0 q p p0.Next){r:Arena}(h:lM p0=some r):Ret prog 202 [.agg #[.slice n p0.Owner.length k,.slice q p0.Next.length p]] w (λM c=>∃d t v u x,M= .agg #[.slice t r.Owner.length v,.slice u r.Next.length x]/\Ent J w d c/\Oc E6 2 d c 2 t v r.Owner/\Oc (ER E6 2) 31 d c 3 u x r.Next):=by
 exact Jp3 J func202 R ntmps202 R λS=>Jj3<|Jx3 J 2 R λ_ _ B _ I=>Tv<|Jy3 B 3 R X62 R λ_ _ f C _=>Tv<|Jd<|Jq<|Xn f [2] [5,14,6,15,1,10,19,23,25] λ_ D=>Je3 R U62 R Z31<|Je3 R U62 R Z32 (have s:=I.stp (C.tr D);Jg R (Jd2 I31 R R<|hvC (s.ld 0 R R) R) (Jg R (Jd2 I32 R R<|hvC (s.ld 1 R R) R)<|Jc4 f E6 4 R Y31 bG R λ_ _ _ z a F=>⟨(a.cl R),Ob h λN K h=>Jd4 z E6 4 [] R Y31 bG R F (EV (bO _) Fct) bJ K R λj y _ A b _=>⟨((a.tr b).cl R),Ob h λO L h=>Jw3 R call220 (tq (J:=Mk A) Gct L)<|Ks 7 (cK (bI _) _) λo m _ e g G=>⟨((T3 a b g).cl R),Jf R (Jn4 [.slice j N.length y,.slice o O.length m] R)<|Jm4 e 3 R Z62 R Fct R λ_ i H=>⟨((T4 a b g i).cl R),Jt1<|Jd<|Ju<|Jb2 (l:=[.cell 2 62]) results202 (bM R H I62 Z62 R R) R<|Oh h<|⟨(λE=>ren [(4,2),(7,3)]<|e E),j,y,o,m,R,Fct,Fct,((G.stp i).map (ren [(4,2),(7,3)]) R R)⟩⟩⟩⟩⟩))
theorem pY {o x}{p0:VP}{p1:Int}(f:Rd Pair.rp J w 0 o x p0){r:Bool}(h:kW p0 p1=some r):Ret prog 118 [.slice o p0.length x,vi p1] w (Pvb J w r):=by
 refine Jp3 J func118 R ntmps118 R λS=>Jf3 R<|Jq<|Jl3 1 R<|Js3 R U56 R R<|Jb 1 R<|Ob h λv E q=>Jt3 [0] (λd e g=>∃i,e=d/\Stp [2] J w i g/\v=EW ()) (Jv<|Ju3 [0,1,7,8] (λb d e g=>∃i a,e=(9,vi a)::d/\Stp [2] J w i g/\0<=a/\ES ((p0.length:Int)-a)=b/\cntM (jC p0 p1) b a ()=some v) ⟨_,_,⟨J,0,R,Jo3,(by decide),(by simp),E⟩,(KM R)⟩ ?_) ?_
 rintro b _ _ ⟨n,a,rfl,A,s,c,h⟩
 rcases b with _|b
 exact Jf3 R<|Jq<|Jx2 R (dcf c)<|Jc1<|Jt<|Jt<|Jb1<|Oh h<|Jw1 _ ⟨n,R,Fct,R⟩<|KM R
 refine Ob h λT h t=>Jf3 R<|Jq<|Jw2 R (dct c)<|Js<|Jp<|Jq<|Jv<|Jj3<|Ob h λ_ u h=>Jd3 R f u U56 Z96 ?_
 obtain⟨_,F,D⟩:=((f.stp A)).gSt u
 obtain⟨N,U,O,V,rfl,P,Q⟩:=Pair.un F
 refine Jg4 tv R (Jh4 (haE D) I96 Z96 R)<|Jy3 n 2 R X96 R λ_ _ j _ B=>Tv<|Jm4 j 2 R Z96 R B R λ_ _ p=>Tv<|Jd<|Jj3<|Je3 R U96 R Z31<|Jc3 R I31 (p.ld 0 R R)<|Jn 1 R<|Ob h λW I h=>Jw3 R call157 (lb (J:=Mk j) Gct I)<|Kb λM k z=>Tv<|Jn 2 R<|Ob h λL h C=>Jk4 [0,1,7,8,9] 24 L k M 6 tv ?_ ?_
 exact Bk h (λG h=>Je3 R U96 R Z31<|Jc3 R I31 ((p.stp z).ld 1 R R)<|Jn 1 R<|Ob h λ_ K h=>Jw3 R call157 (lb (J:=Mk k) Gct K)<|Kb λ_ _ _=>Tv<|Jn 2 R<|Oh h<|Jv1 _ tv ⟨R,_,Fct⟩<|KM R) (λG h=>Jn 1 R<|Je4 R<|Jn 1 R<|Je4 R<|Jn 2 R<|Oh h<|Jl4 tv R)
 rintro _ _ _ ⟨rfl,m,_⟩
 refine have h:=C;Jd ?_
 refine Bk h (λH h=>Jy R<|Js<|Jz<|Jp<|Jg3 R<|wr2 s c f.len_le ▸ ?_) (λH h=>Jx R<|Jf3 R<|Ju<|Ja1<|Jw<|Jw ?_)
 cases h
 exact Ja2 ⟨m,a+1,R,Fct,nxz s,nxm c,t⟩ R
 cases h
 obtain rfl:=EU t
 exact have h:=yL q;Ja1 (Jr2<|Jw<|Jb2 (l:=[.tmp 4]) results118 (Jq2 R R) R<|Oh h<|⟨m,R,Fct⟩)
 rintro _ _ ⟨y,rfl,_,rfl⟩
 exact have h:=yI q;Jp (Jl3 1 R<|Js3 R U56 R R<|Jb 2 R<|Ju<|Jb2 (l:=[.tmp 4]) results118 (Jq2 R R) R<|Oh h<|⟨y,R,Fct⟩)
theorem eU {m u}{p0:VI}{c1_0:Int}{n}(f:Rd Ri J w 0 m u p0) (C:Bc J w 0 n 2 [vi c1_0]){r:Int}(h:cC p0 c1_0=some r):Ret prog 26 [.slice m p0.length u,.func (.func 133) #[] #[.pointer (some ⟨n,0,none⟩)]] w (Pvi J w r):=by
 refine Jp3 J func26 R ntmps26 R λD=>Jf3 R<|Jq<|Jl3 1 R<|Js3 R U31 R R<|Jb 1 R<|Ob h λt z o=>Jt3 [1] (λd e g=>∃i,e=d/\Stp [] J w i g/\t=EW ()) (Jv<|Ju3 [0,1,7] (λb d e g=>∃i a,e=(8,vi a)::d/\Stp [] J w i g/\0<=a/\ES ((p0.length:Int)-a)=b/\cntM (co p0 c1_0) b a ()=some t) ⟨_,_,⟨J,0,R,Jo3,(by decide),(by simp),z⟩,(KM R)⟩ ?_) ?_
 rintro b _ _ ⟨k,a,rfl,x,p,c,h⟩
 rcases b with _|b
 exact Jf3 R<|Jq<|Jx2 R (dcf c)<|Jc1<|Jt<|Jt<|Jb1<|Oh h<|Jw1 _ ⟨k,R,Fct,R⟩<|KM R
 refine Ob h λE h q=>Jf3 R<|Jq<|Jw2 R (dct c)<|Js<|Jp<|Jq<|Jv<|Jf3 R<|Jl3 3 R<|Ob h λ_ s h=>Jd3 R f s U31 Z2<|Jc3 R I2 ((f.stp x).gInt s)<|Ob h λF B h=>WO.callV R R R R R R R R call133 (qA (J:=Mk k) Fct B) ?_
 rintro _ _ ⟨_,rfl,y⟩
 refine Im y 2 R (λj _ _=>Tv<|Jd ?_)
 refine Bk h (λA h=>Jy R<|Js<|Jz<|Jp<|Jg3 R<|wr2 p c f.len_le ▸ ?_) (λA h=>Jx R<|Jf3 R<|Ju<|Ja1<|Jw<|Jw ?_)
 cases h
 exact Ja2 ⟨j,a+1,R,Fct,nxz p,nxm c,q⟩ R
 cases h
 obtain rfl:=EU q
 exact have h:=yL o;Ja1 (Jr2<|Jw<|Jb2 (l:=[.tmp 4]) V26 (Jq2 R R) R<|Oh h<|⟨j,R,Fct⟩)
 rintro _ _ ⟨v,rfl,_,rfl⟩
 exact have h:=yI o;Jp (Jf3 R<|Ju<|Jb2 (l:=[.tmp 4]) V26 (Jq2 R R) R<|Oh h<|⟨v,R,Fct⟩)
theorem tw {d b c e}{p0:Arena}{p1:Int}(o:Rd Ri J w 0 d b p0.Owner) (p:Rd Rs J w 0 c e p0.Next){r:Bool}(h:lO p0 p1=some r):Ret prog 177 [.agg #[.slice d p0.Owner.length b,.slice c p0.Next.length e],vi p1] w (Pvb J w r):=by
 refine Jp3 J func177 R ntmps177 R λq=>Jj3<|Jx3 J 2 R λ_ n a _ g=>Tv<|Jb 1 R<|Jl3 3 R<|Ob h λm h i=>Jk4 [4] 12 m a n 5 tv ?_ ?_
 exact Bk h (λj h=>Jn 1 R<|Je4 R<|Je4 R<|Jn 2 R<|Oh h<|Jl4 tv R) (λj h=>Jn 1 R<|Jg4 tv R (Jh4 (haE g.cells) I62 Z62 R)<|Ob h λ_ k h=>Jw3 R call114 (rH (J:=Mk a) (p0:=p0) Gct Gct k)<|Ki λ_ _ _=>Tv<|Jn 2 R<|Oh h<|Jv1 _ tv ⟨R,_,Fct⟩<|KM R)
 rintro _ _ _ ⟨rfl,f,_⟩
 exact have h:=i;Jb 1 R (Ju<|Jb2 (l:=[.tmp 4]) results177 (Jq2 R R) R<|Oh h<|⟨f,R,Fct⟩)
theorem wA {c f e d}{p0:Clause}{p1:Int}{p2:Int}(V:Rd Ri J w 0 c f p0.A) (W:Rd Ri J w 0 e d p0.B){r:Int}(h:pM p0 p1 p2=some r):Ret prog 150 [.agg #[vi p0.Kind,.slice c p0.A.length f,.slice e p0.B.length d],vi p1,vi p2] w (Pvi J w r):=by
 refine Jp3 J func150 R ntmps150 R λX=>Jj3<|Jx3 J 2 R λ_ _ m _ i=>Tv<|Jb 1 R<|Jj3<|Je3 R U54 R Z31<|Jc3 R I31 (i.ld 1 R R)<|Jn 1 R<|Ob h λ_ L h=>Jw3 R C99 (dP (J:=Mk m) Gct L)<|Kb λ_ s t=>Tv<|Ob h λ_ M h=>Jw3 R call180 (mn (J:=Mk s) M)<|Ki λ_ k u=>Tv<|Jb 1 R<|Jj3<|Je3 R U54 R Z31 (have g:=i.stp (t.tr u);Jc3 R I31 (g.ld 2 R R) (Jn 1 R<|Ob h λ_ N h=>Jw3 R C99 (dP (J:=Mk k) Gct N)<|Kb λ_ n v=>Tv<|Ob h λY O h=>Jw3 R call180 (mn (J:=Mk n) O)<|Ki λj a x=>Tv<|Jb 1 R<|Jq<|Jj3<|Je3 R U54 R Z2<|Jc3 R I2 ((g.stp<|v.tr x).ld 0 R R)<|Jd<|Jv<|Jf3 R ?_))
 refine Bk h (λA h=>Jy R<|Jf3 R ?_) (λA h=>Jx R<|Jl3 3 R<|Ob h λ_ P h=>Jw3 R call194 (nW (J:=Mk a) P)<|Ki λ_ o _=>Tv<|Jb 1 R<|Ju<|Ja1<|Jw<|Jb2 (l:=[.tmp 6]) V150 (Jq2 R R) R<|Oh h<|⟨o,R,Fct⟩)
 refine Bk h (λB h=>Jy R<|Jf3 R ?_) (λB h=>Jx R<|Jq<|Jl3 3 R<|Ob h λU h y=>Jk4 [7] 38 U a j 7 tv ?_ ?_)
 refine Bk h (λF h=>Jy R<|Jf3 R ?_) (λF h=>Jx R<|Jq<|Jf3 R ?_)
 refine Bk h (λH h=>Jy R<|Jf3 R ?_) (λH h=>Jx R<|Jf3 R<|Ju<|Ja1<|Jw<|Jb2 (l:=[.tmp 6]) V150 (Jq2 R R) R<|Oh h<|⟨a,R,Fct⟩)
 refine Bk h (λI h=>Jy R<|Jf3 R ?_) (λI h=>Jx R<|Jf3 R<|Ju<|Ja1<|Jw<|Jb2 (l:=[.tmp 6]) V150 (Jq2 R R) R<|Oh h<|⟨a,R,Fct⟩)
 exact Bk h (λK h=>Jy R<|Js<|Jz<|Jp<|Jf3 R<|Ju<|Jb2 (l:=[.tmp 6]) V150 (Jq2 R R) R<|Oh h<|⟨a,R,Fct⟩) (λK h=>Jx R<|Jl3 2 R<|Ob h λ_ S h=>Jw3 R call194 (nW (J:=Mk a) S)<|Ki λ_ q _=>Tv<|Jb 1 R<|Ju<|Ja1<|Jw<|Jb2 (l:=[.tmp 6]) V150 (Jq2 R R) R<|Oh h<|⟨q,R,Fct⟩)
 exact Bk h (λG h=>Jy R<|Js<|Jp<|Jl3 2 R<|Ob h λ_ Q h=>Jw3 R call194 (nW (J:=Mk a) Q)<|Ki λ_ p _=>Tv<|Jb 1 R<|Ju<|Ja1<|Jw<|Jb2 (l:=[.tmp 6]) V150 (Jq2 R R) R<|Oh h<|⟨p,R,Fct⟩) (λG h=>Jx R<|Jf3 R<|Ju<|Jw<|Ja1<|Jw<|Jb2 (l:=[.tmp 6]) V150 (Jq2 R R) R<|Oh h<|⟨a,R,Fct⟩)
 refine Bk h (λC h=>Jn 3 R<|Ob h λT h z=>Jk4 [7,31] 37 T a j 3 tv ?_ ?_) (λC h=>Jn 7 R<|Oh h<|Jl4 tv R)
 exact Bk h (λD h=>Jn 3 R<|Oh h<|Jl4 tv R) (λD h=>Jn 3 R<|Oh h<|Jl4 tv R)
 rintro _ _ _ ⟨rfl,_,_⟩
 exact have h:=z;Jn 1 R (Oh h<|Jv1 _ tv ⟨R,_,Fct⟩<|KM R)
 rintro _ _ _ ⟨rfl,b,_⟩
 refine have h:=y;Jd ?_
 exact Bk h (λE h=>Jy R<|Js<|Jp<|Jf3 R<|Ju<|Ja1<|Jw<|Jb2 (l:=[.tmp 6]) V150 (Jq2 R R) R<|Oh h<|⟨b,R,Fct⟩) (λE h=>Jx R<|Jf3 R<|Ju<|Jw<|Ja1<|Jw<|Jb2 (l:=[.tmp 6]) V150 (Jq2 R R) R<|Oh h<|⟨b,R,Fct⟩)
theorem lB {p0:Sig}  {r:Int}(h:eY p0=some r):Ret prog 77 [.agg #[vi p0.In,vi p0.Out]] w (Pvi J w r):=by
 exact Jp3 J func77 R ntmps77 R λe=>Jj3<|Jx3 J 2 R λ_ _ a _ c=>Tv<|Jb 1 R<|Jj3<|Je3 R U28 R Z2<|Jc3 R I2 (c.ld 0 R R)<|Ob h λ_ d h=>Jw3 R call94 (eD (J:=Mk a) d)<|Ki λ_ b _=>Tv<|Jb 1 R<|Ju<|Jb2 (l:=[.tmp 2]) results77 (Jq2 R R) R<|Oh h<|⟨b,R,Fct⟩
theorem oY {i m}{p0:VI}{p1:Int}(a:Rd Ri J w 0 i m p0){r:VI}(h:gW p0 p1=some r):Ret prog 46 [.slice i p0.length m,vi p1] w (λah b=>∃c z A,ah= .slice z r.length A/\Ent J w c b/\Rd Ri c b 0 z A r):=by
 refine Jp3 J func46 R ntmps46 R λau=>Jf3 R<|Jf3 R<|Jq<|Ob h λy X W=>Jt3 [0,1] (λf g b=>∃c k,g=(5,vi k)::f/\Stp [] J w c b/\y=EW k) (Jv<|Ju3 [0,1] (λe f g b=>∃c d,g=(5,vi d)::f/\Stp [] J w c b/\bQ (iv p0 p1) e d=some y) ⟨_,_,⟨J,(0:Int),R,Jo3,X⟩,(KM R)⟩ ?_) ?_
 rintro e _ ak ⟨H,d,rfl,M,h⟩
 rcases e with _|e
 cases h
 refine Ob h λ_ h s=>Jq<|Jl3 2 R<|Js3 R U31 R R<|Jn 2 R<|Ob h λaf h U=>Jk4 [0,1,5] 18 af H ak 7 tv ?_ ?_
 exact Bk h (λY h=>Jn 3 R<|Je4 R<|Jn 3 R<|Oh h<|Jl4 tv R) (λY h=>Jn 2 R<|Ob h λ_ t h=>Jd3 R a t U31 Z2<|Jc3 R I2 ((a.stp M).gInt t)<|Jn 3 R<|Oh h<|Jl4 tv R)
 rintro _ _ _ ⟨rfl,n,_⟩
 refine have h:=U;Jd ?_
 refine Bk h (λZ h=>Jy R<|Jc1<|Jt<|Jt ?_) (λZ h=>Jx R<|Js<|Jp<|Jv<|Jg3 R<|Jz ?_)
 cases h
 exact have h:=s;Jb1 (Oh h<|Jw1 _ ⟨n,d,R,Fct,R⟩<|KM R)
 cases h
 exact Ja2 ⟨n,((ET .i64<|d+1):Int),R,Fct,s⟩ R
 rintro _ ai ⟨E,k,rfl,q,rfl⟩
 refine have h:=yI W;Jp (Jq<|Jl3 2 R<|Js3 R U31 R R<|Jn 2 R<|Ob h λag h V=>Jk4 [0,1,5] 32 ag E ai 7 tv ?_ ?_)
 exact Bk h (λaa h=>Jn 3 R<|Je4 R<|Jn 3 R<|Oh h<|Jl4 tv R) (λaa h=>Jn 2 R<|Ob h λ_ u h=>Jd3 R a u U31 Z2<|Jc3 R I2 ((a.stp q).gInt u)<|Jn 3 R<|Oh h<|Jl4 tv R)
 rintro _ _ _ ⟨rfl,o,I⟩
 refine have h:=V;Jd ?_
 refine Bk h (λab h=>Jy R<|Js<|Jp<|Jl3 2 R<|Ob h λ_ v h=>Jf R (iQ (k1:= .i64) (k2:= .i64) U31 Z2 (.inl ⟨R,R⟩) (.inr ⟨_,R,R⟩) v a.1 R R R) (have j:=a.stp (q.tr I);Ob h λ_ ac h=>Jw3 R C95 (dv (J:=Mk o) (Jn3<|j.sub v) ac)<|Ks 4 (bI _) λar aq _ B K P=>Tv<|Jn 1 R<|Ji4 B 5 [p1] R Y31 bG R λao am _ C p Q=>Tv<|Ob h λ_ ad h=>Jd4 C E6 4 [] R Y31 bG R (P.stp p) (EV (bO _) Q.rdc) bJ ad R λan ap _ D L S=>Tv<|Jb 1 R<|Jl3 3 R<|Ob h λ_ x h=>Jf R (iQ (k1:= .i64) (k2:= .i64) U31 Z2 (.inr ⟨_,R,R⟩) (.inl ⟨R,R⟩) x j.1 R R R)<|Ob h λ_ ae h=>Jd4 D E6 4 [] R Y31 bG R S (EV (bO _) ((j.stp<|T3 K p L).sub x)) bJ ae R λN O aj F _ T=>Tv<|Jb 1 R<|Ju ?_)) (λab h=>Jx R<|Jf3 R<|Ju<|Jw<|Jb2 (l:=[.tmp 4]) results46 (Jq2 R R) R<|Oh h<|⟨o,i,m,R,Fct,Fct⟩)
 obtain⟨G,_,al⟩:=dg F aj 4
 exact Jb2 (l:=[.tmp 4]) results46 (Jq2 R R) R<|Oh h<|⟨G,N,O,R,Fct,(Sl.st al T.rdc)⟩
theorem wi {K U}{p0:VP}{L V}{p1:VI}{p2:Int}(M:Rd Pair.rp J w 0 K U p0) (D:Rd Ri J w 0 L V p1){r:VI}(h:kS p0 p1 p2=some r):Ret prog 125 [.slice K p0.length U,.slice L p1.length V,vi p2] w (Pvs E6 2 J w r):=by
 refine Jp3 J func125 R ntmps125 R λa0=>Jf3 R<|Jj3<|Jc4 J E6 2 R Y31 bG R λal ah _ Y G _=>Tv<|Jb 1 R<|Jj3<|Jc4 Y E6 3 R Y31 bG R λao ak W y I aC=>Tv<|Jb 1 R<|Jq<|Jf3 R<|Ob h λT aH aD=>Jx1 (λg a=>∃b,∃e:VI×VI,∃C B A z,g=[(7,.slice C e.1.length B),(8,.slice A e.2.length z)]/\Stp [2,3] y W b a/\Oc E6 2 b a 2 C B e.1/\Oc E6 2 b a 3 A z e.2/\T=EW e) (Jv<|Ju3 [0,1,2] (λo v g a=>∃b f,∃c:VI×VI,∃m i k j,g=(7,.slice m c.1.length i)::(8,.slice k c.2.length j)::(9,vi f)::v/\Stp [2,3] y W b a/\Oc E6 2 b a 2 m i c.1/\Oc E6 2 b a 3 k j c.2/\0<=f/\ES ((p1.length:Int)-f)=o/\cntM (gD p0 p1 p2) o f c=some T) ⟨_,_,⟨y,0,(([]:VI),([]:VI)),al,ah,ao,ak,R,Jo3,Fct,aC,(by decide),(by simp),aH⟩,(KM R)⟩ ?_) ?_
 rintro o _ _ ⟨E,f,c,m,i,k,j,rfl,F,ar,au,N,u,h⟩
 rcases o with _|o
 exact Jq<|Jl3 2 R<|Js3 R U31 R R<|Jb 1 R<|Jx2 R (dcf u)<|Jc1<|Jt<|Jt<|Jb1<|Oh h<|Jw1 _ ⟨E,(c.1,c.2),m,i,k,j,R,Fct,ar,au,R⟩<|KM R
 refine Ob h λa1 h aF=>Jq<|Jl3 2 R<|Js3 R U31 R R<|Jb 1 R<|Jw2 R (dct u)<|Js<|Jp<|Jq<|Jv<|Jl3 3 R<|Ob h λ_ O h=>Jd3 R D O U31 Z2 (have n:=D.stp (T3 G I F);Jc3 R I2 (n.gInt O) (Ob h λ_ P h=>Jd3 R M P U56 Z96<|Je3 R U96 R Z31 ?_))
 obtain⟨_,aI,aG⟩:=((M.stp (T3 G I F))).gSt P
 obtain⟨aV,a2,aW,a3,rfl,aY,aZ⟩:=Pair.un aI
 refine Jc3 R I31 (λa aK=>aG a aK 1 _ R)<|Jn 1 R<|Ob h λa4 aL h=>Jw3 R call183 (oX (J:=Mk E) Gct aL)<|Kb λaP x H=>Tv<|Jd<|Ob h λd h aE=>Jt3 [0,1,2,9] (λv g a=>∃b p s q t,g=(7,.slice p d.1.length s)::(8,.slice q d.2.length t)::v/\Stp [2,3] x aP b a/\Oc E6 2 b a 2 p s d.1/\Oc E6 2 b a 3 q t d.2) ?_ ?_
 exact Bk h (λaJ h=>Jy R<|Jm3 3 R<|Ob h λaR S h=>Jd3 R n S U31 Z2<|Jc3 R I2 ((n.stp H).gInt S)<|Ji4 x 6 [aR] R Y31 bG R λaS aU _ ac _ az=>Tv<|Ob h λ_ aN h=>Jd4 ac E6 3 [] R Y31 bG R Fct (EV (bO _) az.rdc) bJ aN R λaf an _ ad _ aA=>Tv<|Jc 1 R<|Oh h<|Jw1 _ ⟨ad,m,i,af,an,R,Fct,Fct,aA⟩<|KM R) (λaJ h=>Jx R<|Jm3 3 R<|Ob h λaQ Q h=>Jd3 R n Q U31 Z2<|Jc3 R I2 ((n.stp H).gInt Q)<|Ji4 x 6 [aQ] R Y31 bG R λaX aT _ aa _ ax=>Tv<|Ob h λ_ aM h=>Jd4 aa E6 2 [] R Y31 bG R Fct (EV (bO _) ax.rdc) bJ aM R λai am _ ab _ ay=>Tv<|Jc 1 R<|Oh h<|Jw1 _ ⟨ab,ai,am,k,j,R,Fct,ay,Fct⟩<|KM R)
 rintro _ _ ⟨Z,p,s,q,t,rfl,_,av,aw⟩
 refine have h:=aE;Jz (Jp<|Jg3 R<|wr2 N u D.len_le ▸ ?_)
 cases h
 exact Ja2 ⟨Z,f+1,(d.1,d.2),p,s,q,t,R,Fct,av,aw,nxz N,nxm u,aF⟩ R
 rintro _ _ ⟨X,e,C,B,A,z,rfl,_,ap,aq,rfl⟩
 exact have h:=yI aD;Jp (Jl3 2 R<|Ob h λ_ aO h=>Jd4 X E6 2 [] R Y31 bG R ap (EV (bO _) aq.rdc) bJ aO R λag aj _ ae _ aB=>Tv<|Jb 1 R<|Ju<|Jb2 (l:=[.tmp 6]) results125 (Jq2 R R) R<|Oh h<|⟨ae,ag,aj,R,Fct,aB⟩)
theorem yX {a d f b e c}{p0:Parity}(q:Rd Ri J w 0 a d p0.Arena.Owner) (s:Rd Rs J w 0 f b p0.Arena.Next) (t:Rd Ri J w 0 e c p0.Prio){r:VI}(h:rh p0=some r):Ret prog 179 [.agg #[.slice a p0.Arena.Owner.length d,.slice f p0.Arena.Next.length b,.slice e p0.Prio.length c]] w (Pvs E6 2 J w r):=by
 exact Jp3 J func179 R ntmps179 R λu=>Jj3<|Jx3 J 2 R λ_ _ g _ n=>Tv<|Jb 1 R<|Jj3<|Je3 R U66 R Z31<|Jc3 R I31 (n.ld 2 R R)<|Js3 R U31 R R<|Ob h λ_ p h=>Jw3 R call49 (uh (J:=Mk g) p)<|Ks 5 (bI _) λj k _ i _ o=>Tv<|Jb 1 R<|Ju<|Jb2 (l:=[.tmp 2]) results179 (Jq2 R R) R<|Oh h<|⟨(λm=>ren [(5,2)]<|i m),j,k,R,Fct,(o.map (ren [(5,2)]) R R)⟩
theorem yZ {u s y v A z x t C B}{p0:l7Game}{q K}{p1:VB}(Y:Rd Ri J w 0 u s p0.owner) (D:Rd Ri J w 0 y v p0.prio) (Z:Rd Rs J w 0 A z p0.next) (aa:Rd Rs J w 0 x t p0.prev) (ab:Rd Ri J w 0 C B p0.pick) (n:Rd Rp.bool J w 0 q K p1){r:Int}(h:sX p0 p1=some r):Ret prog 222 [.agg #[.slice u p0.owner.length s,.slice y p0.prio.length v,.slice A p0.next.length z,.slice x p0.prev.length t,.slice C p0.pick.length B],.slice q p1.length K] w (Pvi J w r):=by
 refine Jp3 J func222 R ntmps222 R λac=>Jj3<|Jx3 J 2 R λ_ L k p P=>Tv<|Jb 1 R<|Jf3 R<|Jq<|Jf3 R<|Ob h λH U S=>Jx1 (λb d=>∃e o,b=[(5,vi o)]/\Stp [] k L e d/\H=EW o) (Jv<|Ju3 [1,2] (λc j b d=>∃e a i,b=(5,vi i)::(6,vi a)::j/\Stp [] k L e d/\0<=a/\ES ((p1.length:Int)-a)=c/\cntM (n8 p0 p1) c a i=some H) ⟨_,_,⟨k,0,((-1):Int),R,Jo3,(by decide),(by simp),U⟩,(KM R)⟩ ?_) ?_
 rintro c _ X ⟨f,a,i,rfl,m,E,g,h⟩
 rcases c with _|c
 exact Jq<|Jl3 2 R<|Js3 R U129 R R<|Jb 1 R<|Jx2 R (dcf g)<|Jc1<|Jt<|Jt<|Jb1<|Oh h<|Jw1 _ ⟨f,i,R,Fct,R⟩<|KM R
 refine Ob h λo5 h T=>Jq<|Jl3 2 R<|Js3 R U129 R R<|Jb 1 R<|Jw2 R (dct g)<|Js<|Jp<|Jq<|Jv<|Jl3 2 R<|Ob h λad F h=>Jd3 R n F U129 Z4<|Jc3 R I4 ((n.stp<|p.tr m).gBool F)<|Jd<|Ob h λI h Q=>Jt3 [1,2,6] (λj b d=>∃e,b=(5,vi I)::j/\Stp [] f X e d) ?_ ?_
 exact Bk h (λV h=>Jy R<|Js<|Oh h<|Jw1 _ ⟨f,R,Jo3⟩<|KM R) (λV h=>Jx R<|Jm3 1 R<|Je3 R U204 R Z31<|Jc3 R I31 ((P.stp m).ld 1 R R)<|Jn 1 R<|Ob h λ_ G h=>Jd3 R D G U31 Z2<|Jc3 R I2 ((D.stp<|p.tr m).gInt G)<|Ob h λ_ W h=>Jw3 R call194 (nW (J:=Mk f) W)<|Ki λ_ N _=>Tv<|Jc 1 R<|Oh h<|Jw1 _ ⟨N,R,Fct⟩<|KM R)
 rintro _ _ ⟨M,rfl,_⟩
 refine have h:=Q;Jz (Jp<|Jg3 R<|wr2 E g n.len_le ▸ ?_)
 cases h
 exact Ja2 ⟨M,a+1,I,R,Fct,nxz E,nxm g,T⟩ R
 rintro _ _ ⟨O,o,rfl,_,rfl⟩
 exact have h:=yI S;Jp (Jf3 R<|Ju<|Jb2 (l:=[.tmp 4]) results222 (Jq2 R R) R<|Oh h<|⟨O,R,Fct⟩)
theorem wz {z y B A}{p0:Clause}{x K}{p1:VI}{p2:Int}(ac:Rd Ri J w 0 z y p0.A) (ad:Rd Ri J w 0 B A p0.B) (n:Rd Ri J w 0 x K p1){r:Bool}(h:pL p0 p1 p2=some r):Ret prog 137 [.agg #[vi p0.Kind,.slice z p0.A.length y,.slice B p0.B.length A],.slice x p1.length K,vi p2] w (Pvb J w r):=by
 refine Jp3 J func137 R ntmps137 R λae=>Jj3<|Jx3 J 2 R λ_ L k N O=>Tv<|Jb 1 R<|Jq<|Jf3 R<|Ob h λI S D=>Jx1 (λb e=>∃f,b=[]/\Stp [] k L f e/\I=EW ()) (Jv<|Ju3 [1,2,3] (λd j b e=>∃f a,b=(7,vi a)::j/\Stp [] k L f e/\0<=a/\ES ((p1.length:Int)-a)=d/\cntM (kJ p0 p1 p2) d a ()=some I) ⟨_,_,⟨k,0,R,Jo3,(by decide),(by simp),S⟩,(KM R)⟩ ?_) ?_
 rintro d _ aa ⟨g,a,rfl,s,E,i,h⟩
 rcases d with _|d
 exact Jq<|Jl3 2 R<|Js3 R U31 R R<|Jb 1 R<|Jx2 R (dcf i)<|Jc1<|Jt<|Jt<|Jb1<|Oh h<|Jw1 _ ⟨g,R,Fct,R⟩ KN
 refine Ob h λo5 h F=>Jq<|Jl3 2 R<|Js3 R U31 R R<|Jb 1 R<|Jw2 R (dct i)<|Js<|Jp<|Jq<|Jv<|Jf3 R<|Jq<|Jl3 3 R<|Js3 R U31 R R<|Jb 1 R<|Ob h λZ h P=>Jt3 [1,2,3,7] (λj b e=>∃f,b=(8,vi Z)::j/\Stp [] g aa f e) ?_ ?_
 exact Bk h (λT h=>Jy R<|Js<|Oh h<|Jw1 _ ⟨g,R,Jo3⟩<|KM R) (λT h=>Jx R<|Jg3 R<|Oh h<|Jw1 _ ⟨g,R,Jo3⟩<|KM R)
 rintro _ _ ⟨o,rfl,t⟩
 refine have h:=P;Jp (Jq<|Xn o [0,2] [2,8,11,14,3,15,19,23,26,32,35,38,27,39,43,47,50] λ_ u=>Je3 R U54 R Z31<|Jn 2 R<|Ob h λ_ G h=>Jd3 R n G U31 Z2 (have C:=O.stp (T3 s t u);Jg R (Jd2 I31 R R<|hvC (C.ld 1 R R) R) (have m:=n.stp (T4 N s t u);Jg R (Jd2 I2 R R<|hvC (m.gInt G) R) (Ob h λaf W h=>Jw3 R C99 (dP (J:=Mk o) Gct W)<|Kb λab p c=>⟨(c.cl R),Jn 1 R<|Ob h λY h Q=>Jk4 [1,2,3,7] 39 Y p ab 9 (c.cl R) ?_ ?_⟩))))
 exact Bk h (λU h=>Jn 4 R<|Jf4 R<|Jf4 R<|Je4 R<|Jn 2 R<|Oh h<|Jv1 _ (c.cl R) ⟨R,_,Jo3⟩<|KM R) (λU h=>Je3 R U54 R Z31<|Jn 2 R<|Ob h λ_ H h=>Jd3 R m H U31 Z2<|Jg R (Jd2 I31 R R<|hvC (C.ld 2 R R) R)<|Jg R (Jd2 I2 R R<|hvC (m.gInt H) R)<|Ob h λ_ X h=>Jw3 R C99 (dP (J:=Mk p) Gct X)<|Kb λ_ _ v=>⟨((c.tr v).cl R),Jn 2 R<|Oh h<|Jv1 _ ((c.tr v).cl R) ⟨R,_,Fct⟩<|KM R⟩)
 rintro _ _ _ ⟨rfl,q,_⟩
 refine have h:=Q;Jt1 (Jd ?_)
 refine Bk h (λV h=>Jy R<|Js<|Jz<|Jp<|Jg3 R<|wr2 E i n.len_le ▸ ?_) (λV h=>Jx R<|Jf3 R<|Ju<|Ja1<|Jw<|Jw ?_)
 cases h
 exact Ja2 ⟨q,a+1,R,Fct,nxz E,nxm i,F⟩ R
 cases h
 obtain rfl:=EU F
 exact have h:=yL D;Ja1 (Jr2<|Jw<|Jb2 (l:=[.tmp 6]) results137 (Jq2 R R) R<|Oh h<|⟨q,R,Fct⟩)
 rintro _ _ ⟨M,rfl,_,rfl⟩
 exact have h:=yI D;Jp (Jf3 R<|Ju<|Jb2 (l:=[.tmp 6]) results137 (Jq2 R R) R<|Oh h<|⟨M,R,Fct⟩)
theorem gG {k t}{p0:VI}{m u}{p1:VI}(e:Rd Ri J w 0 k t p0) (C:Rd Ri J w 0 m u p1){r:Bool}(h:gF p0 p1=some r):Ret prog 139 [.slice k p0.length t,.slice m p1.length u] w (Pvb J w r):=by
 refine Jp3 J func139 R ntmps139 R λD=>Jf3 R<|Jq<|Jf3 R<|Ob h λs z n=>Jx1 (λd f=>∃g,d=[]/\Stp [] J w g f/\s=EW ()) (Jv<|Ju3 [0,1] (λb v d f=>∃g a,d=(5,vi a)::v/\Stp [] J w g f/\0<=a/\ES ((p0.length:Int)-a)=b/\cntM (kK p0 p1) b a ()=some s) ⟨_,_,⟨J,0,R,Jo3,(by decide),(by simp),z⟩,(KM R)⟩ ?_) ?_
 rintro b _ _ ⟨j,a,rfl,y,o,c,h⟩
 rcases b with _|b
 exact Jq<|Jl3 2 R<|Js3 R U31 R R<|Jb 1 R<|Jx2 R (dcf c)<|Jc1<|Jt<|Jt<|Jb1<|Oh h<|Jw1 _ ⟨j,R,Fct,R⟩ KN
 refine Ob h λE h p=>Jq<|Jl3 2 R<|Js3 R U31 R R<|Jb 1 R<|Jw2 R (dct c)<|Js<|Jp<|Jq<|Jv<|Jl3 3 R<|Ob h λ_ q h=>Jd3 R e q U31 Z2<|Jc3 R I2 ((e.stp y).gInt q)<|Ob h λF B h=>Jw3 R C99 (dP (J:=Mk j) Gct B)<|Kb λ_ i _=>Tv<|Jd ?_
 refine Bk h (λA h=>Jy R<|Js<|Jz<|Jp<|Jg3 R<|wr2 o c e.len_le ▸ ?_) (λA h=>Jx R<|Jf3 R<|Ju<|Ja1<|Jw<|Jw ?_)
 cases h
 exact Ja2 ⟨i,a+1,R,Fct,nxz o,nxm c,p⟩ R
 cases h
 obtain rfl:=EU p
 exact have h:=yL n;Ja1 (Jr2<|Jw<|Jb2 (l:=[.tmp 4]) results139 (Jq2 R R) R<|Oh h<|⟨i,R,Fct⟩)
 rintro _ _ ⟨x,rfl,_,rfl⟩
 exact have h:=yI n;Jp (Jf3 R<|Ju<|Jb2 (l:=[.tmp 4]) results139 (Jq2 R R) R<|Oh h<|⟨x,R,Fct⟩)
theorem fE (n:Nat):∀{w:World}{J:Col}{p0:Int}{C N}{p1:VV}{s v}{i:VI}{c f}{c0:VB}{D O}{c1:VB}{d x y z}(G:Rd Rs J w 0 C N p1) (ab:Oc E6 2 J w 2 s v i) (H:Oc EQ 4 J w 3 c f c0) (I:Rd Rp.bool J w 0 D O c1) (ac:Bc J w 4 d 31 [.slice s i.length v]) (K:Bc J w 0 x 129 [.slice c c0.length f]) (W:Bc J w 0 y 129 [.slice D c1.length O]) (X:Bc J w 0 z 171 [.func (.func 140) #[] #[.pointer (some ⟨x,0,none⟩),.pointer (some ⟨y,0,none⟩),.pointer (some ⟨z,0,none⟩)]]){r:VI×VB}(h:bV n p0 p1 i c0 c1=some r),Ret prog 140 [vi p0,.slice C p1.length N,.func (.func 142) #[] #[.pointer (some ⟨d,0,none⟩)],.pointer (some ⟨x,0,none⟩),.pointer (some ⟨y,0,none⟩),.pointer (some ⟨z,0,none⟩)] w (λa7 a=>∃b ak al,a7= .tuple #[]/\Ent J w b a/\Oc E6 2 b a 2 ak al r.1/\Oc EQ 4 b a 3 c f r.2/\c0.length=r.2.length/\Bc b a 4 d 31 [.slice ak r.1.length al]):=by
 induction n with
 |zero=>
  intro w J p0 C N p1 s v i c f c0 D O c1 d x y z G ab H I ac K W X r h
  cases h
 |succ n a5=>
  intro w J p0 C N p1 s v i c f c0 D O c1 d x y z G ab H I ac K W X r h
  have h:cD (bV n) p0 p1 i c0 c1=some r:=h
  unfold cD at h
  refine Jp3 J func140 R ntmps140 R λbb=>Jj3<|Jc3 R I129 (K.ld 0 R R)<|Jn 1 R<|Ob h λ_ a2 h=>Jd3 R H.rdc a2 U129 Z4<|Ob h λaq ai h=>Jk1 (J:=J) (E:=EQ) 3 [] R R R R R R R R Z4 R R R R H ai λao P q aI=>Tv<|?_
  have aZ:c0.length=aq.length:=(Ju2 ai).2.2.2.symm
  refine Jd<|Jq<|Jl3 2 R<|Ob h λap ae h=>Jd3 R G ae U32 Z31 ?_
  have aP:=G.stp q
  obtain⟨_,_,V,aW⟩:=aP.gSl ae
  refine Jc3 R I31 aW<|Js3 R U31 R R<|Jb 1 R<|Ob h λan a1 aT=>?_
  clear h
  refine Jt3 [0,2,3,4,5] (λj o a=>∃b,∃l:VI×VB,∃T S,o=j/\Stp [2,3,4,7,8,9] P ao b a/\Oc E6 2 b a 2 T S l.1/\Oc EQ 4 b a 3 c f l.2/\c0.length=l.2.length/\Bc b a 4 d 31 [.slice T l.1.length S]/\an=EW l) ?_ ?_
  refine Jv<|Ju3 [0,1,2,3,4,5,17,18] (λB j o a=>∃b m,∃e:VI×VB,∃u t,o=(19,vi m)::j/\Stp [2,3,4,7,8,9] P ao b a/\Oc E6 2 b a 2 u t e.1/\Oc EQ 4 b a 3 c f e.2/\c0.length=e.2.length/\Bc b a 4 d 31 [.slice u e.1.length t]/\0<=m/\ES ((ap.length:Int)-m)=B/\cntM (cO (bV n) p1 c1 ap) B m e=some an) ⟨_,_,⟨P,0,(i,aq),s,v,R,Jo3,Fct,aI,aZ,Fct,(by decide),(by simp),a1⟩,(KM R)⟩ ?_
  rintro B _ a8 ⟨aa,m,e,u,t,rfl,p,aE,U,A,aF,ad,L,h⟩
  rcases B with _|B
  have M:=h;obtain⟨a6,h⟩:=exq M
  have Y:=dcf L
  refine Jf3 R<|Jq<|Jx2 R Y<|Jc1<|Jt<|Jt ?_
  cases h
  have h:=M
  refine Jb1 ?_
  cases h
  exact Jw1 _ ⟨aa,(e.1,e.2),u,t,R,Fct,aE,U,A,aF,R⟩<|KM R
  obtain⟨a6,h,M⟩:=BI h;unfold cO at h
  have Y:=dct L
  refine Jf3 R<|Jq<|Jw2 R Y<|Js<|Jp<|Jq<|Jv<|Jj3<|Ob h λ_ af h=>Jd3 R V af U31 Z2<|Jc3 R I2 ((V.stp p).gInt af)<|Jb 1 R<|Jj3 ?_
  have aG:=W.stp (q.tr p)
  refine Jc3 R I129 (aG.ld 0 R R)<|Jn 1 R<|Ob h λba ag h=>Jd3 R I ag U129 Z4 ?_
  have aH:=I.stp (q.tr p)
  refine Jc3 R I4 (aH.gBool ag)<|Jn 1 R<|Ob h λam h aU=>Jk4 [0,1,2,3,4,5,10,17,18,19] 33 am aa a8 6 tv ?_ ?_
  revert h
  cases bc:ba
  refine JF λh=>Je4 R<|Jn 2 R<|Je4 R<|Jn 2 R ?_
  cases h
  exact Jl4 tv R
  refine JT λh=>Jc3 R I129 ((K.stp<|q.tr p).ld 0 R R)<|Jn 1 R<|Ob h λ_ ah h=>Jf R (Jg2 U.rdc ah U129 Z4 R R A R)<|Jc3 R I4 (U.rdc.gBool ah)<|Jn 2 R ?_
  cases h
  exact Jl4 tv R
  rintro _ a9 _ ⟨rfl,Q,ax⟩
  have h:=aU
  refine Jd<|Ob h λk h aV=>Jt3 [0,1,2,3,4,5,17,18,19] (λj o a=>∃b E F,o=j/\Stp [2,3,4,7,8,9] Q a9 b a/\Oc E6 2 b a 2 E F k.1/\Oc EQ 4 b a 3 c f k.2/\c0.length=k.2.length/\Bc b a 4 d 31 [.slice E k.1.length F]) ?_ ?_
  revert h
  cases bd:am
  refine JF λh=>Jy R<|Js ?_
  cases h
  exact Jw1 _ ⟨Q,u,t,R,Jo3,Fct,Fct,A,Fct⟩<|KM R
  refine JT λh=>Jx R<|Jk3 ?_
  have aM:=X.stp (T3 q p ax)
  refine Jc3 R isAgg171 (aM.ld 0 R R)<|Jn 3 R<|Ob h λ_ a3 h=>WO.callV R R R R R R R R call140 (a5 (J:=λg=>mp [(2,2),(3,3),(4,4)] 0<|Q g) (Jm2 Fct (mp [(2,2),(3,3),(4,4)] 0) R R) Fct Fct (Jm2 Fct (mp [(2,2),(3,3),(4,4)] 0) R R) Fct (Bc.cast Fct (by simp only[A])) Fct Fct a3) ?_
  rintro _ _ ⟨_,aB,aA,rfl,aC,aN,aO,a0,aQ⟩
  obtain⟨av,_,Z⟩:=Ji aC 5 R
  refine Tv<|Jo ?_
  cases h
  exact Jw1 _ ⟨(λg=>ren [(7,2),(8,3),(9,4)]<|av g),aB,aA,R,Fct,((aN.mx (bI _) Z R (R:5+2=7)).map (ren [(7,2),(8,3),(9,4)]) R R),((aO.mx cQ Z R (R:5+3=8)).map (ren [(7,2),(8,3),(9,4)]) R R),(A.trans a0),((aQ.mx Z R (R:5+4=9)).map (ren [(7,2),(8,3),(9,4)]) R R)⟩<|KM R
  rintro _ _ ⟨au,E,F,rfl,_,aJ,aK,aY,aL⟩
  have h:=aV
  refine Jz<|Jp<|Jg3 R<|wr2 ad L V.len_le ▸ ?_
  cases h
  exact Ja2 ⟨au,m+1,(k.1,k.2),E,F,R,Fct,aJ,aK,aY,aL,nxz ad,nxm L,M⟩ R
  rintro _ _ ⟨ar,l,T,S,rfl,_,_,_,aX,_,rfl⟩
  have h:=yI aT
  refine Jp<|Jm3 2 R<|Ob h λ_ a4 h=>WO.callV R R R R R R R R call142 (tC (J:=λg=>mp [(2,2),(4,3)] 0<|ar g) Fct Fct a4) ?_
  rintro _ _ ⟨_,az,ay,rfl,aD,aR,aS⟩
  obtain⟨aw,_,aj⟩:=Ji aD 5 R
  refine Tv<|Jo<|DN.end0 results140 ?_
  cases h
  exact⟨(λg=>ren [(7,2),(8,4)]<|aw g),az,ay,R,Fct,((aR.mx (bI _) aj R (R:5+2=7)).map (ren [(7,2),(8,4)]) R R),Fct,aX,((aS.mx aj R (R:5+3=8)).map (ren [(7,2),(8,4)]) R R)⟩
theorem r7 {n k}{p0:dice}{p1:Int}{p}(aX:Rd (Rp.int .u8) J w 0 n k p0.b) (bj:Bc J w 2 p 52 [.slice n p0.b.length k,vi p0.i,.int .u64 p0.h]){r:Word×Int×Int}(h:qM p0 p1=some r):Ret prog 17 [.pointer (some ⟨p,0,none⟩),vi p1] w (λbe a=>∃b aj al ak am,be= .agg #[.slice aj r.1.Stem.length al,.slice ak r.1.Loop.length am]/\Ent J w b a/\Oc E6 2 b a 3 aj al r.1.Stem/\Oc E6 2 b a 4 ak am r.1.Loop/\Bc b a 2 p 52 [.slice n p0.b.length k,vi r.2.1,.int .u64 r.2.2]):=by
 refine Jp3 J func17 R ntmps17 R λbk=>Jj3<|Jy3 J 3 R X44 R λ_ _ ar aB _=>Tv<|Jd<|Jj3<|Jf R (Jn4 [.slice none 0 0,.slice none 0 0] R)<|Jy3 ar 4 R X44 R λB _ V aE aT=>Tv<|Jm4 V 4 R Z44 R aT R λ_ ax _=>Tv<|Jd<|Jq<|Jl3 1 R (Ob h λN a4 h=>have ac:=aX.stp (T3 aB aE ax);Jw3 R C11 (ck (J:=λe=>mp [(2,2)] 0<|V e) (p0:=p0) (Jm2 ac (mp [(2,2)] 0) R R) Fct a4) ?_)
 rintro _ an ⟨_,rfl,aH,aN⟩
 refine Im aH 5 R (λC az bb=>Tv<|Jb 1 R<|Ob h λah a0 aY=>Jt3 [0,1,4,5] (λi j a=>∃b,∃f:Int×Int×Int×VI,∃o m,j=i/\Stp [4,7,8,11] C an b a/\Oc E6 2 b a 8 o m f.2.2.2/\Bc b a 7 p 52 [.slice n p0.b.length k,vi f.2.1,.int .u64 f.2.2.1]/\Bc b a 4 B 44 [.slice o f.2.2.2.length m,.slice none 0 0]/\ah=EW f) (Jv<|Ju3 [0,1,4,5] (λg i j a=>∃b,∃c:Int×Int×Int×VI,∃z v,j=(6,vi c.1)::i/\Stp [4,7,8,11] C an b a/\Oc E6 2 b a 8 z v c.2.2.2/\Bc b a 7 p 52 [.slice n p0.b.length k,vi c.2.1,.int .u64 c.2.2.1]/\Bc b a 4 B 44 [.slice z c.2.2.2.length v,.slice none 0 0]/\bQ (oI p0 p1) g c=some ah) ⟨_,_,⟨C,(N.1,N.2.1,N.2.2,([]:VI)),none,0,R,Jo3,Ow.nil,(aN.mx bb R (R:5+2=7)),Fct,a0⟩,(KM R)⟩ ?_) ?_)
 rintro g _ _ ⟨D,c,z,v,rfl,aC,aO,aP,ad,h⟩
 rcases g with _|g
 cases h
 refine Ob h λ_ h af=>Jq<|Jf3 R ?_
 refine Bk h (λa2 h=>Jy R<|Jc1<|Jt<|Jt ?_) (λa2 h=>Jx R<|Js<|Jp<|Jq<|Jv<|Xr D [4] (some 8) [2,8,11,3,13,16,19,23] [25] λ_ Z=>Je3 R U44 R Z31<|Jn 2 R<|Jg R (Jd2 I31 R R<|hvC ((ad.stp Z).ld 0 R R) R)<|Ob h λO a5 h=>Jw3 R C11 (ck (J:=λe=>mp [(7,2)] 0<|D e) (p0:=(⟨p0.b,c.2.1,c.2.2.1⟩:dice)) (Jm2 Fct (mp [(7,2)] 0) R R) Fct a5) ?_)
 cases h
 exact have h:=af;Jb1 (Oh h<|Jw1 _ ⟨D,(c.1,c.2.1,c.2.2.1,c.2.2.2),z,v,R,Fct,aO,aP,ad,R⟩<|KM R)
 rintro _ _ ⟨_,rfl,aI,aQ⟩
 refine Im aI 9 R (λav t bc=>⟨(t.cl R),Ji4 av 12 [O.1] R Y31 bG R λbg bi _ aw H aR=>⟨((t.tr H).cl R),Ob h λP a6 h=>Jd4 aw E6 8 [] R Y31 bG R Fct (EV (bO _) aR.rdc) bJ a6 R λM I _ W aa _=>⟨((T3 t H aa).cl R),Je3 R U44 R Z31<|Jt1<|Jz3 W 4 (off:=0) (vc:=[.slice M P.length I]) (cs':=[.slice M P.length I,.slice none 0 0]) R Z31 R Fct R λ_ aD _=>Tv<|Jo<|Jz<|Jp<|Jg3 R ?_⟩⟩⟩)
 cases h
 exact Ja2 ⟨(λe=>ren [(11,7)]<|W e),(((ET .i64<|c.1-1):Int),O.2.1,O.2.2,P),M,I,R,(Jz2 ((T6 aC Z t H aa aD).wk R) [(11,7)] R),Fct,(((aQ.mx bc R (R:9+2=11)).stp Fct).map (ren [(11,7)]) R R),Fct,af⟩ R
 rintro _ _ ⟨au,f,o,m,rfl,aA,_,_,_,rfl⟩
 refine have h:=yI aY;Jp (Jq<|Jl3 1 R<|Ob h λQ a7 h=>Jw3 R C11 (ck (J:=λe=>mp [(7,2)] 0<|au e) (p0:=(⟨p0.b,f.2.1,f.2.2.1⟩:dice)) (Jm2 (ac.stp<|az.tr aA) (mp [(7,2)] 0) R R) Fct a7) ?_)
 rintro _ ao ⟨_,rfl,aJ,aS⟩
 refine Im aJ 9 R (λE _ bd=>Tv<|Jb 2 R<|Ob h λai a1 aZ=>Jt3 [0,4,5] (λi j a=>∃b,∃q:Int×Int×Int×VI,∃u x,j=i/\Stp [4,11,12,15] E ao b a/\Oc E6 2 b a 12 u x q.2.2.2/\Bc b a 11 p 52 [.slice n p0.b.length k,vi q.2.1,.int .u64 q.2.2.1]/\Bc b a 4 B 44 [.slice o f.2.2.2.length m,.slice u q.2.2.2.length x]/\ai=EW q) (Jv<|Ju3 [0,1,4,5] (λg i j a=>∃b,∃d:Int×Int×Int×VI,∃A y,j=(7,vi d.1)::i/\Stp [4,11,12,15] E ao b a/\Oc E6 2 b a 12 A y d.2.2.2/\Bc b a 11 p 52 [.slice n p0.b.length k,vi d.2.1,.int .u64 d.2.2.1]/\Bc b a 4 B 44 [.slice o f.2.2.2.length m,.slice A d.2.2.2.length y]/\bQ (oJ p0 p1) g d=some ai) ⟨_,_,⟨E,(((ET .i64 (1+Q.1)):Int),Q.2.1,Q.2.2,([]:VI)),none,0,R,Jo3,Ow.nil,(aS.mx bd R (R:9+2=11)),Fct,a1⟩,(KM R)⟩ ?_) ?_)
 rintro g _ _ ⟨F,d,A,y,rfl,aF,aV,aW,ae,h⟩
 rcases g with _|g
 cases h
 refine Ob h λ_ h ag=>Jq<|Jf3 R ?_
 refine Bk h (λa3 h=>Jy R<|Jc1<|Jt<|Jt ?_) (λa3 h=>Jx R<|Js<|Jp<|Jq<|Jv<|Xr F [4] (some 8) [2,8,11,3,13,16,19,23] [25] λ_ ab=>Je3 R U44 R Z31<|Jn 2 R<|Jg R (Jd2 I31 R R<|hvC ((ae.stp ab).ld 1 R R) R)<|Ob h λS a8 h=>Jw3 R C11 (ck (J:=λe=>mp [(11,2)] 0<|F e) (p0:=(⟨p0.b,d.2.1,d.2.2.1⟩:dice)) (Jm2 Fct (mp [(11,2)] 0) R R) Fct a8) ?_)
 cases h
 exact have h:=ag;Jb1 (Oh h<|Jw1 _ ⟨F,(d.1,d.2.1,d.2.2.1,d.2.2.2),A,y,R,Fct,aV,aW,ae,R⟩<|KM R)
 rintro _ _ ⟨_,rfl,aG,aK⟩
 refine Im aG 13 R (λap s ba=>⟨(s.cl R),Ji4 ap 16 [S.1] R Y31 bG R λbf bh _ aq G aL=>⟨((s.tr G).cl R),Ob h λT a9 h=>Jd4 aq E6 12 [] R Y31 bG R Fct (EV (bO _) aL.rdc) bJ a9 R λL K _ U Y _=>⟨((T3 s G Y).cl R),Je3 R U44 R Z31<|Jt1<|Jz3 U 4 (off:=1) (vc:=[.slice L T.length K]) (cs':=[.slice o f.2.2.2.length m,.slice L T.length K]) R Z31 R Fct R λ_ ay _=>Tv<|Jo<|Jz<|Jp<|Jg3 R ?_⟩⟩⟩)
 cases h
 exact Ja2 ⟨(λe=>ren [(15,11)]<|U e),(((ET .i64<|d.1-1):Int),S.2.1,S.2.2,T),L,K,R,(Jz2 ((T6 aF ab s G Y ay).wk R) [(15,11)] R),Fct,(((aK.mx ba R (R:13+2=15)).stp Fct).map (ren [(15,11)]) R R),Fct,ag⟩ R
 rintro _ _ ⟨X,q,u,x,rfl,_,_,_,aU,rfl⟩
 exact have h:=yI aZ;Jp (Jj3<|Jg4 tv R (Jh4 (haE aU.cells) I44 Z44 R)<|Jm4 X 3 R Z44 R Fct R λ_ _ aM=>Tv<|Jd<|Ju<|Jb2 (l:=[.cell 4 44]) results17 (bM R aM I44 Z44 R R) R<|Oh h<|⟨(λe=>ren [(8,3),(12,4),(11,2)]<|X e),o,m,u,x,R,Fct,Fct,Fct,Fct⟩)
theorem mQ {D ae}{p0:VI}{A C}{c0:VI}{c1:Sig}{I G E K}{c2:Rival}{c3:Int}{j L M k}(B:Rd Ri J w 0 D ae p0) (aq:Oc E6 2 J w 2 A C c0) (U:Rd Ri J w 0 I G c2.In) (V:Rd Rs J w 0 E K c2.Next) (ar:Bc J w 3 j 31 [.slice A c0.length C]) (au:Bc J w 0 L 28 [vi c1.In,vi c1.Out]) (av:Bc J w 0 M 34 [.slice I c2.In.length G,.slice E c2.Next.length K]) (aw:Bc J w 4 k 2 [vi c3]){r:VI×Int}(h:gN p0 c0 c1 c2 c3=some r):Ret prog 51 [.slice D p0.length ae,.pointer (some ⟨j,0,none⟩),.pointer (some ⟨L,0,none⟩),.pointer (some ⟨M,0,none⟩),.pointer (some ⟨k,0,none⟩)] w (λaF a=>∃b ab ac,aF= .tuple #[]/\Ent J w b a/\Oc E6 2 b a 2 ab ac r.1/\Bc b a 3 j 31 [.slice ab r.1.length ac]/\Bc b a 4 k 2 [vi r.2]):=by
 refine Jp3 J func51 R ntmps51 R λaL=>Jl3 1 R<|Js3 R U31 R R<|Jb 1 R<|Ob h λad aB ax=>Jt3 [1,2,3,4] (λu y a=>∃b,∃m:VI×Int,∃s o,y=u/\Stp [2,3,4] J w b a/\Oc E6 2 b a 2 s o m.1/\Bc b a 3 j 31 [.slice s m.1.length o]/\Bc b a 4 k 2 [vi m.2]/\ad=EW m) (Jv<|Ju3 [1,2,3,4,8,9] (λl u y a=>∃b c,∃d:VI×Int,∃q p,y=(10,vi c)::u/\Stp [2,3,4] J w b a/\Oc E6 2 b a 2 q p d.1/\Bc b a 3 j 31 [.slice q d.1.length p]/\Bc b a 4 k 2 [vi d.2]/\0<=c/\ES ((p0.length:Int)-c)=l/\cntM (gw p0 c1 c2) l c d=some ad) ⟨_,_,⟨J,0,(c0,c3),A,C,R,Jo3,aq,ar,aw,(by decide),(by simp),aB⟩,(KM R)⟩ ?_) ?_
 rintro l _ _ ⟨v,c,d,q,p,rfl,g,ak,N,O,ay,W,h⟩
 rcases l with _|l
 exact Jf3 R<|Jq<|Jx2 R (dcf W)<|Jc1<|Jt<|Jt<|Jb1<|Oh h<|Jw1 _ ⟨v,(d.1,d.2),q,p,R,Fct,ak,N,O,R⟩<|KM R
 refine Ob h λaM h az=>have t:=dct W;Jf3 R (Jq<|Jw2 R t<|Js<|Jp<|Jq<|Jv<|Jj3<|Ob h λaG X h=>Jd3 R B X U31 Z2<|Jc3 R I2 ((B.stp g).gInt X)<|Jb 1 R<|Jq<|Xr v [0,3,4] (some 13) [5,17,0,6,18,21,26,27,10,14,32,34,37] [40] λ_ e=>Jn 1 R<|Je3 R U34 R Z31<|Jg R (Jd2 I31 R R<|hvC ((N.stp e).ld 0 R R) R)<|Jg R (Jh4 (haC (au.stp<|g.tr e).cells R) I28 Z28 R) (have P:=av.stp (g.tr e);Jg R (Jd2 I31 R R<|hvC (P.ld 0 R R) R) (have Q:=O.stp e;Jg R (Jd2 I2 R R<|hvC (Q.ld 0 R R) R) (Ob h λaI Y h=>Jd3 R U Y U31 Z2<|Jg R (Jd2 I2 R R<|hvC ((U.stp<|g.tr e).gInt Y) R)<|Ob h λaH aD h=>Jw3 R C25 (cF (J:=Mk v) (p0:=c1) aD)<|Ki λ_ ah f=>⟨(f.cl R),Jn 2 R<|Ji4 ah 7 [(ET .i64 ((ET .i64<|aG * aH)+aI))] R Y31 bG R λaK aJ _ ai i al=>⟨((f.tr i).cl R),Ob h λaf aE h=>Jd4 ai E6 2 [] R Y31 bG R Fct (EV (bO _) al.rdc) bJ aE R λF H _ x n _=>⟨((T3 f i n).cl R),Jt1<|Ja4 x 3 (vc:=[.slice F af.length H]) R Z31 R Fct R λ_ z _=>Tv<|Jd<|Jk3<|Je3 R U34 R Z32<|Jc3 R I32 ((P.stp<|T4 f i n z).ld 1 R R) (have S:=Q.stp (T4 f i n z);Jc3 R I2 (S.ld 0 R R) (Ob h λ_ Z h=>Jd3 R V Z U32 Z31 ?_))⟩⟩⟩))))
 obtain⟨_,_,T,aA⟩:=(V.stp (T6 g e f i n z)).gSl Z
 refine Jc3 R I31 aA<|Jn 1 R<|Ob h λag aa h=>Jd3 R T aa U31 Z2<|Jc3 R I2 (T.gInt aa)<|Ja4 x 4 (vc:=[vi ag]) R Z2 R S R λ_ _ am=>Tv<|Jo<|Jz<|Jp<|Jg3 R ?_
 have aC:ET .i64 (c+1)=c+1:=wr1 ay (Jn2 t) B.len_le
 rw[aC]
 have t:=Jn2 t
 cases h
 exact Ja2 ⟨x,c+1,(af,ag),F,H,R,Fct,Fct,Fct,am,by omega,by omega,az⟩ R
 rintro _ _ ⟨aj,m,s,o,rfl,_,an,ao,ap,rfl⟩
 exact have h:=yI ax;DN.end0 results51 (Oh h<|⟨aj,s,o,R,Fct,an,ao,ap⟩)
end
end Go.Proofs.YtfombamjdkihnaaGreat
