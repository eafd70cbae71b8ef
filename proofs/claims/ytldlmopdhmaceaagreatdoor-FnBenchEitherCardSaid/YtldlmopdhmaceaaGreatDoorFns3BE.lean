/- The walks, part 3. By program. -/
import Derived.Test.YtldlmopdhmaceaaGreatDoorFns0BE
import Derived.Test.YtldlmopdhmaceaaGreatDoorFns1BE
set_option linter.unusedVariables false
set_option linter.unusedSimpArgs false
open Go.Wk.Ep renaming bool → FT
open Int renaming toNat → FV
open Go.IntKind renaming wrap → FW
open Go.Wk.Sl renaming srcP → FY
open Sum renaming inr → FX
namespace Go.Proofs.YtldlmopdhmaceaaGreatDoor
open Tryz
open Go Go.Wk Go.Proofs
set_option maxRecDepth 100000
set_option maxHeartbeats 1000000
section
variable {w:World}{J:Col}
theorem tT {i k}{p0:dice}{p1:Int}{n}(av:Rd (Rp.int .u8) J w 0 i k p0.b) (aw:Bc J w 2 n 41 [.slice i p0.b.length k,vi p0.i,.int .u64 p0.h]){r:VI×Int×Int}(h:qH p0 p1=some r):Ret prog 23 [.pointer (some ⟨n,0,none⟩),vi p1] w (λap a=>∃b F G,ap= .slice F r.1.length G/\Ent J w b a/\Oc E6 2 b a 3 F G r.1/\Bc b a 2 n 41 [.slice i p0.b.length k,vi r.2.1,.int .u64 r.2.2]):=by
 refine Jp3 J func23 R ntmps23 R λax=>Jf3 R<|Jj3<|Jc4 J E6 3 R Y30 bS R λQ ao H v _ ab=>Tv<|Jb 1 R<|Jq<|Jf3 R (Ob h λ_ ai h=>have af:=gk ai;Ob h λE ah ae=>Jt3 [0] (λf g a=>∃b,∃e:VI×Int×Int,∃t p,g=(5,.slice t e.1.length p)::f/\Stp [2,3,6] v H b a/\Oc E6 2 b a 3 t p e.1/\Bc b a 2 n 41 [.slice i p0.b.length k,vi e.2.1,.int .u64 e.2.2]/\E=FX e) (Jv<|Ju3 [0,1] (λo f g a=>∃b d,∃c:VI×Int×Int,∃j m,g=(5,.slice j c.1.length m)::(6,vi d)::f/\Stp [2,3,6] v H b a/\Oc E6 2 b a 3 j m c.1/\Bc b a 2 n 41 [.slice i p0.b.length k,vi c.2.1,.int .u64 c.2.2]/\0<=d/\FV (p1-d)=o/\cntM (nk p0) o d c=some E) ⟨_,_,⟨v,0,(([]:VI),p0.i,p0.h),Q,ao,R,Jo3,ab,Fct,(by decide),(by simp),ah⟩,(KM R)⟩ ?_) ?_)
 rintro o _ _ ⟨B,d,c,j,m,rfl,O,X,Y,ag,D,h⟩
 rcases o with _|o
 exact Jq<|Jf3 R<|Jx2 R (dcf D)<|Jc1<|Jt<|Jt<|Jb1<|Oh h<|Jw1 _ ⟨B,(c.1,c.2.1,c.2.2),j,m,R,Fct,X,Y,R⟩<|KM R
 refine Ob h λo5 h z=>have u:=dct D;Jq (Jf3 R<|Jw2 R u<|Js<|Jp<|Jq<|Jv<|Jl3 1 R<|Ob h λI al h=>Jw3 R call12 (kh (J:=λy=>mp [(2,2)] 0<|B y) (p0:=(⟨p0.b,c.2.1,c.2.2⟩:dice)) (Jm2 Fct (mp [(2,2)] 0) R R) Fct al) ?_)
 rintro _ aq ⟨_,rfl,U,Z⟩
 refine Im U 4 R (λx P an=>Tv<|Jb 1 R<|Ob h λA h ad=>Jt3 [0,1,6] (λf g a=>∃b s q,g=(5,.slice s A.length q)::f/\Stp [3] x aq b a/\Oc E6 2 b a 3 s q A) ?_ ?_)
 exact Bk h (λaj h=>Jy R<|Js<|Oh h<|Jw1 _ ⟨x,j,m,R,Jo3,Fct⟩<|KM R) (λaj h=>Jx R<|Jm3 2 R<|Ji4 x 7 [d] R Y30 bS R λau ar _ L _ aa=>Tv<|Ob h λ_ am h=>Jd4 L E6 3 [] R Y30 bS R Fct (FY (cd _) aa.rdc) bU am R λT S _ M _ ac=>Tv<|Jc 1 R<|Oh h<|Jw1 _ ⟨M,T,S,R,Fct,ac⟩<|KM R)
 rintro _ _ ⟨K,s,q,rfl,C,_⟩
 refine have h:=ad;Jz (Jp<|Jg3 R ?_)
 have ak:FW .i64 (d+1)=d+1:=wr1 ag (Jn2 u) af
 rw[ak]
 exact have u:=Jn2 u;Ou h z (λz=>Ja2 ⟨(λy=>ren [(6,2)]<|K y),d+1,(A,I.2.1,I.2.2),s,q,R,(Jz2 ((T3 O P C).wk R) [(6,2)] R),Fct,(((Z.mx an R (R:4+2=6)).stp C).map (ren [(6,2)]) R R),by omega,by omega,z⟩ R)
 rintro _ _ ⟨N,e,t,p,rfl,_,V,W,rfl⟩
 exact have h:=yI ae;Jp (Jf3 R<|Ju<|Jb2 (l:=[.tmp 4]) results23 (Jq2 R R) R<|Oh h<|⟨N,t,p,R,Fct,V,W⟩)
theorem lr {p0:Sig}  {r:Bool}(h:ma p0=some r):Ret prog 24 [.agg #[vi p0.In,vi p0.Out]] w (Pvb J w r):=by
 refine Jp3 J func24 R ntmps24 R λn=>Jj3<|Jx3 J 2 R λ_ _ c _ b=>Tv<|Jb 1 R<|Jj3<|Je3 R U39 R Z2<|Jc3 R I2 (b.ld 0 R R)<|Ob h λo i h=>Jw3 R C25 (dJ (J:=Mk c) i)<|Kb λm a e=>Tv<|Jn 1 R<|Ob h λk h f=>Jk4 [2] 10 k a m 4 tv ?_ ?_
 exact Bk h (λg h=>Jn 1 R<|Je4 R<|Je4 R<|Jn 1 R<|Oh h<|Jl4 tv R) (λg h=>Je3 R U39 R Z2<|Jc3 R I2 ((b.stp e).ld 1 R R)<|Ob h λ_ j h=>Jw3 R C25 (dJ (J:=Mk a) j)<|Kb λ_ _ _=>Tv<|Jn 1 R<|Oh h<|Jv1 _ tv ⟨R,_,Fct⟩<|KM R)
 rintro _ _ _ ⟨rfl,d,_⟩
 exact have h:=f;Jb 1 R (Ju<|Jb2 (l:=[.tmp 2]) results24 (Jq2 R R) R<|Oh h<|⟨d,R,Fct⟩)
theorem mJ {p0:ByteArray}(X:Vm 2 J w){r:VI×Bool}(h:mr p0=some r):Ret prog 78 [.string p0] w (λag a=>∃b z A,ag= .tuple #[.slice z r.1.length A,.bool r.2]/\Ent J w b a/\Oc E6 2 b a 2 z A r.1):=by
 refine Jp3 J func78 R ntmps78 R λY=>Jf3 R<|Jq<|Jl3 1 R<|Jf R (cR R R R)<|Jd ?_
 refine Bk h (λaa h=>Jy R<|Js<|Jp<|Jj3<|Jc4 J E6 2 R Y30 bS R λN M _ F K _=>Tv<|Jb 1 R<|Jq<|Jl3 1 R<|Ob h λC ac h=>Jw3 R call18 (g7 (J:=Mk F) ((X.stp K).map (mp [] 0) R R) ac) ?_) (λaa h=>Jx R<|Jf3 R<|Ju<|Jw<|Jb2 (l:=[.tmp 2,.tmp 3]) results78 (Jq2 R<|Jq2 R R) R<|Oh h<|⟨J,none,0,R,Y,Ow.nil⟩)
 rintro _ B ⟨_,aj,al,rfl,Q,S⟩
 refine Im Q 3 R (λo _ af=>Tv<|have q:=S.mx rM af R (R:3+2=5);Js3 R U33 R R (Jb 1 R<|Ob h λy Z u=>Jx1 (λp a=>∃b,∃n:VI,∃j g,p=[(4,.slice j n.length g)]/\Stp [2] o B b a/\Oc E6 2 b a 2 j g n/\y=FX n) (Jv<|Ju3 [13,14] (λe D p a=>∃b d,∃f:VI,∃i k,p=(4,.slice i f.length k)::(15,vi d)::D/\Stp [2] o B b a/\Oc E6 2 b a 2 i k f/\0<=d/\FV ((C.length:Int)-d)=e/\cntM (mI C) e d f=some y) ⟨_,_,⟨o,0,([]:VI),N,M,R,Jo3,Fct,(by decide),(by simp),Z⟩,(KM R)⟩ ?_) ?_))
 rintro e _ _ ⟨s,d,f,i,k,rfl,I,U,v,m,h⟩
 rcases e with _|e
 exact Jf3 R<|Jq<|Jx2 R (dcf m)<|Jc1<|Jt<|Jt<|Jb1<|Oh h<|Jw1 _ ⟨s,f,i,k,R,Fct,U,R⟩<|KM R
 refine Ob h λan h c=>Jf3 R<|Jq<|Jw2 R (dct m)<|Js<|Jp<|Jq<|Jv<|Jj3<|Ob h λ_ x h=>Jd3 R q.rdc x U33 Z9<|Jc3 R I9 ((q.stp I).rdc.gStr x)<|Jb 1 R<|Jl3 1 R<|Ob h λah ad h=>Jw3 R call38 (ke (J:=Mk s) ad) ?_
 rintro _ _ ⟨_,rfl,P⟩
 refine Im P 6 R (λt _ _=>Tv<|Jb 5 R<|Jq<|Jf3 R ?_)
 exact Bk h (λab h=>Jy R<|Js<|Jp<|Jm3 2 R<|Ji4 t 8 [ah.1] R Y30 bS R λak am _ G _ V=>Tv<|Ob h λai ae h=>Jd4 G E6 2 [] R Y30 bS R Fct (FY (cd _) V.rdc) bU ae R λO L _ H _ W=>Tv<|Jc 1 R<|Jz<|Jp<|Jg3 R<|wr2 v m q.len_le ▸ (Ou h c (λc=>Ja2 ⟨H,d+1,ai,O,L,R,Fct,W,nxz v,nxm m,c⟩ R))) (λab h=>Jx R<|Jf3 R<|Ju<|Jw<|Ja1<|Jw<|Jw<|Ou h c (λc=>Ov c u (λh=>Ja1<|Jr2<|Jw<|Jb2 (l:=[.tmp 2,.tmp 3]) results78 (Jq2 R<|Jq2 R R) R<|Oh h<|⟨t,none,0,R,Fct,Ow.nil⟩)))
 rintro _ _ ⟨E,n,j,g,rfl,_,T,rfl⟩
 exact have h:=yI u;Jp (Jf3 R<|Ju<|Jb2 (l:=[.tmp 2,.tmp 3]) results78 (Jq2 R<|Jq2 R R) R<|Oh h<|⟨E,j,g,R,Fct,T⟩)
theorem mq {p0:Sig}{q p s t}{p1:Clause}(ag:Rd Ri J w 0 q p p1.A) (ah:Rd Ri J w 0 s t p1.B){r:Bool}(h:ju p0 p1=some r):Ret prog 55 [.agg #[vi p0.In,vi p0.Out],.agg #[vi p1.Kind,.slice q p1.A.length p,.slice s p1.B.length t]] w (Pvb J w r):=by
 refine Jp3 J func55 R ntmps55 R λai=>Jj3<|Jx3 J 2 R λ_ _ x _ u=>Tv<|Jx3 x 3 R λ_ _ k o F=>Tv<|Jb 1 R<|Jq<|Jq<|Xn k [2,3] [2,3,8,11,14,15,20,23,26,29,30,33,37,40,44,47,50,53,54,57,61,64,68,71] λab f=>Je3 R U32 R Z2 (have c:=F.stp f;Jg R (Jd2 I2 R R<|hvC (c.ld 0 R R) R) (Jn 2 R<|Ob h λW h G=>Jk4 [2,3] 12 W k ab 4 (Cl.refl _ _ _) ?_ ?_))
 exact Bk h (λL h=>Je3 R U32 R Z2<|Jg R (Jd2 I2 R R<|hvC (c.ld 0 R R) R)<|Jn 2 R<|Oh h<|Jv1 _ (Cl.refl _ _ _) ⟨R,_,Jo3⟩<|KM R) (λL h=>Jn 1 R<|Jf4 R<|Jn 2 R<|Oh h<|Jv1 _ (Cl.refl _ _ _) ⟨R,_,Jo3⟩<|KM R)
 rintro _ ac _ ⟨rfl,g,a⟩
 refine Jn 1 R<|Ob G λX h H=>Jk4 [2,3] 20 X g ac 7 (a.cl R) ?_ ?_
 exact Bk h (λM h=>Je3 R U32 R Z30<|Jg R (Jd2 I30 R R<|hvC (c.ld 1 R R) R)<|Jg R (Jh4 (haC (u.stp<|o.tr f).cells R) I39 Z39 R)<|Ob h λ_ Q h=>Jw3 R call80 (gf (J:=Mk g) (p0:=p0) Q)<|Ki λ_ y d=>⟨((a.tr d).cl R),Ob h λ_ S h=>Jw3 R call103 (kZ (J:=Mk y) Gct S)<|Kb λ_ _ m=>⟨((T3 a d m).cl R),Jn 2 R<|Oh h<|Jv1 _ ((T3 a d m).cl R) ⟨R,_,Fct⟩<|KM R⟩⟩) (λM h=>Jn 1 R<|Jf4 R<|Jf4 R<|Je4 R<|Je4 R<|Jn 2 R<|Oh h<|Jv1 _ (a.cl R) ⟨R,_,Jo3⟩<|KM R)
 rintro _ ad _ ⟨rfl,i,b⟩
 refine Jn 1 R<|Ob H λY h I=>Jk4 [3] 28 Y i ad 7 ((a.tr b).cl R) ?_ ?_
 exact Bk h (λN h=>Je3 R U32 R Z30<|Jg R (Jd2 I30 R R<|hvC (c.ld 2 R R) R)<|Jg R (Jh4 (haC (u.stp<|o.tr f).cells R) I39 Z39 R)<|Ob h λ_ T h=>Jw3 R call80 (gf (J:=Mk i) (p0:=p0) T)<|Ki λ_ z e=>⟨((T3 a b e).cl R),Ob h λ_ U h=>Jw3 R call103 (kZ (J:=Mk z) Gct U)<|Kb λ_ _ n=>⟨((T4 a b e n).cl R),Jn 2 R<|Oh h<|Jv1 _ ((T4 a b e n).cl R) ⟨R,_,Fct⟩<|KM R⟩⟩) (λN h=>Jn 1 R<|Jf4 R<|Jf4 R<|Je4 R<|Je4 R<|Jn 2 R<|Oh h<|Jv1 _ ((a.tr b).cl R) ⟨R,_,Jo3⟩<|KM R)
 rintro _ _ _ ⟨rfl,j,D⟩
 refine have h:=I;Jt1 (Jd ?_)
 refine Bk h (λO h=>Jy R<|Js<|Jp<|Jj3<|Je3 R U32 R Z2 (have v:=c.stp (T3 a b D);Jc3 R I2 (v.ld 0 R R) (Ob h λaj V h=>Jw3 R call102 (oq (J:=Mk j) V)<|Kb λae A E=>Tv<|Jn 1 R<|Ob h λZ h K=>Ju1 [(4,2),(5,1),(6,2),(7,2),(8,2)] [(9,2)] (λC aa=>C=[(37,.bool Z)]/\∃af,Stp [] A ae af aa) tv ?_ ?_))) (λO h=>Jx R<|Jf3 R<|Ju<|Jw<|Jb2 (l:=[.tmp 4]) results55 (Jq2 R R) R<|Oh h<|⟨j,R,Fct⟩)
 exact Bk h (λP h=>Je3 R U32 R Z30<|Jc3 R I30 ((v.stp E).ld 2 R R)<|Js3 R U30 R R<|Jn 2 R<|Oh h<|Jl4 tv R) (λP h=>Jn 1 R<|Je4 R<|Jn 3 R<|Oh h<|Jl4 tv R)
 rintro _ _ _ ⟨rfl,B,_⟩
 exact have h:=K;Jb 1 R (Ju<|Jb2 (l:=[.tmp 4]) results55 (Jq2 R R) R<|Oh h<|⟨B,R,Fct⟩)
theorem pK {p x}{p0:VP}{p1:Int}(g:Rd Pair.rp J w 0 p x p0){r:Bool}(h:kT p0 p1=some r):Ret prog 174 [.slice p p0.length x,vi p1] w (Pvb J w r):=by
 refine Jp3 J func174 R ntmps174 R λS=>Jf3 R<|Jq<|Jl3 1 R<|Js3 R U58 R R<|Jb 1 R<|Ob h λv E s=>Jt3 [0] (λe f i=>∃j,f=e/\Stp [2] J w j i/\v=FX ()) (Jv<|Ju3 [0,1,7,8] (λc e f i=>∃j b,f=(9,vi b)::e/\Stp [2] J w j i/\0<=b/\FV ((p0.length:Int)-b)=c/\cntM (jL p0 p1) c b ()=some v) ⟨_,_,⟨J,0,R,Jo3,(by decide),(by simp),E⟩,(KM R)⟩ ?_) ?_
 rintro c _ _ ⟨o,b,rfl,A,t,d,h⟩
 rcases c with _|c
 exact Jf3 R<|Jq<|Jx2 R (dcf d)<|Jc1<|Jt<|Jt<|Jb1<|Oh h<|Jw1 _ ⟨o,R,Fct,R⟩<|KM R
 refine Ob h λT h a=>Jf3 R<|Jq<|Jw2 R (dct d)<|Js<|Jp<|Jq<|Jv<|Jj3<|Ob h λ_ u h=>Jd3 R g u U58 Z120 ?_
 obtain⟨_,F,D⟩:=((g.stp A)).gSt u
 obtain⟨N,U,O,V,rfl,P,Q⟩:=Pair.un F
 refine Jg4 tv R (Jh4 (haE D) I120 Z120 R)<|Jy3 o 2 R X120 R λ_ _ k _ B=>Tv<|Jm4 k 2 R Z120 R B R λ_ _ q=>Tv<|Jd<|Jj3<|Je3 R U120 R Z30<|Jc3 R I30 (q.ld 0 R R)<|Jn 1 R<|Ob h λW I h=>Jw3 R call103 (kZ (J:=Mk k) Gct I)<|Kb λM m z=>Tv<|Jn 2 R<|Ob h λL h C=>Jk4 [0,1,7,8,9] 24 L m M 6 tv ?_ ?_
 exact Bk h (λG h=>Je3 R U120 R Z30<|Jc3 R I30 ((q.stp z).ld 1 R R)<|Jn 1 R<|Ob h λ_ K h=>Jw3 R call103 (kZ (J:=Mk m) Gct K)<|Kb λ_ _ _=>Tv<|Jn 2 R<|Oh h<|Jv1 _ tv ⟨R,_,Fct⟩<|KM R) (λG h=>Jn 1 R<|Je4 R<|Jn 1 R<|Je4 R<|Jn 2 R<|Oh h<|Jl4 tv R)
 rintro _ _ _ ⟨rfl,n,_⟩
 refine have h:=C;Jd ?_
 exact Bk h (λH h=>Jy R<|Js<|Jz<|Jp<|Jg3 R<|wr2 t d g.len_le ▸ (Ou h a (λa=>Ja2 ⟨n,b+1,R,Fct,nxz t,nxm d,a⟩ R))) (λH h=>Jx R<|Jf3 R<|Ju<|Ja1<|Jw<|Jw<|Ou h a (λa=>Ov a s (λh=>Ja1<|Jr2<|Jw<|Jb2 (l:=[.tmp 4]) results174 (Jq2 R R) R<|Oh h<|⟨n,R,Fct⟩)))
 rintro _ _ ⟨y,rfl,_,rfl⟩
 exact have h:=yI s;Jp (Jl3 1 R<|Js3 R U58 R R<|Jb 2 R<|Ju<|Jb2 (l:=[.tmp 4]) results174 (Jq2 R R) R<|Oh h<|⟨y,R,Fct⟩)
theorem eV {n u}{p0:VI}{c1_0:Int}{o}(g:Rd Ri J w 0 n u p0) (C:Bc J w 0 o 2 [vi c1_0]){r:Int}(h:cJ p0 c1_0=some r):Ret prog 117 [.slice n p0.length u,.func (.func 198) #[] #[.pointer (some ⟨o,0,none⟩)]] w (Pvi J w r):=by
 refine Jp3 J func117 R ntmps117 R λD=>Jf3 R<|Jq<|Jl3 1 R<|Js3 R U30 R R<|Jb 1 R<|Ob h λt z p=>Jt3 [1] (λe f i=>∃j,f=e/\Stp [] J w j i/\t=FX ()) (Jv<|Ju3 [0,1,7] (λc e f i=>∃j b,f=(8,vi b)::e/\Stp [] J w j i/\0<=b/\FV ((p0.length:Int)-b)=c/\cntM (cE p0 c1_0) c b ()=some t) ⟨_,_,⟨J,0,R,Jo3,(by decide),(by simp),z⟩,(KM R)⟩ ?_) ?_
 rintro c _ _ ⟨m,b,rfl,x,q,d,h⟩
 rcases c with _|c
 exact Jf3 R<|Jq<|Jx2 R (dcf d)<|Jc1<|Jt<|Jt<|Jb1<|Oh h<|Jw1 _ ⟨m,R,Fct,R⟩<|KM R
 refine Ob h λE h a=>Jf3 R<|Jq<|Jw2 R (dct d)<|Js<|Jp<|Jq<|Jv<|Jf3 R<|Jl3 3 R<|Ob h λ_ s h=>Jd3 R g s U30 Z2<|Jc3 R I2 ((g.stp x).gInt s)<|Ob h λF B h=>WO.callV R R R R R R R R call198 (qt (J:=Mk m) Fct B) ?_
 rintro _ _ ⟨_,rfl,y⟩
 refine Im y 2 R (λk _ _=>Tv<|Jd ?_)
 exact Bk h (λA h=>Jy R<|Js<|Jz<|Jp<|Jg3 R<|wr2 q d g.len_le ▸ (Ou h a (λa=>Ja2 ⟨k,b+1,R,Fct,nxz q,nxm d,a⟩ R))) (λA h=>Jx R<|Jf3 R<|Ju<|Ja1<|Jw<|Jw<|Ou h a (λa=>Ov a p (λh=>Ja1<|Jr2<|Jw<|Jb2 (l:=[.tmp 4]) V117 (Jq2 R R) R<|Oh h<|⟨k,R,Fct⟩)))
 rintro _ _ ⟨v,rfl,_,rfl⟩
 exact have h:=yI p;Jp (Jf3 R<|Ju<|Jb2 (l:=[.tmp 4]) V117 (Jq2 R R) R<|Oh h<|⟨v,R,Fct⟩)
theorem yW {a d b c}{p0:Arena}(q:Rd Ri J w 0 a d p0.Owner) (s:Rd Rs J w 0 b c p0.Next){r:VI}(h:sX p0=some r):Ret prog 144 [.agg #[.slice a p0.Owner.length d,.slice b p0.Next.length c]] w (Pvs E6 2 J w r):=by
 exact Jp3 J func144 R ntmps144 R λt=>Jj3<|Jx3 J 2 R λ_ _ g _ n=>Tv<|Jb 1 R<|Jj3<|Jg4 tv R (Jh4 (haE n.cells) I53 Z53 R)<|Ob h λ_ o h=>Jw3 R call209 (rH (J:=Mk g) (p0:=p0) Gct Gct o)<|Ki λ_ e _=>Tv<|Ob h λ_ p h=>Jw3 R call208 (yU (J:=Mk e) p)<|Ks 7 (bW _) λi j _ f _ m=>Tv<|Jb 1 R<|Ju<|Jb2 (l:=[.tmp 2]) results144 (Jq2 R R) R<|Oh h<|⟨(λk=>ren [(7,2)]<|f k),i,j,R,Fct,(m.map (ren [(7,2)]) R R)⟩
theorem mK {aJ aN ar aK ay aM aL aO}{p0:solver}{p1:Int}{aG bn}{p2:VB}{aH bo}{aw:VB}{aQ}(aV:Rd Ri J w 0 aJ aN p0.game.Arena.Owner) (aW:Rd Rs J w 0 ar aK p0.game.Arena.Next) (cN:Rd Ri J w 0 ay aM p0.game.Prio) (aX:Rd Rs J w 0 aL aO p0.preds) (ab:Rd Rp.bool J w 0 aG bn p2) (b5:Rd Rp.bool J w 0 aH bo aw) (b6:Bc J w 0 aQ 220 [.slice aJ p0.game.Arena.Owner.length aN,.slice ar p0.game.Arena.Next.length aK,.slice ay p0.game.Prio.length aM,.slice aL p0.preds.length aO]){r:VB}(h:ic p0 p1 p2 aw=some r):Ret prog 246 [.pointer (some ⟨aQ,0,none⟩),vi p1,.slice aG p2.length bn,.slice aH aw.length bo] w (Pvs FT 4 J w r):=by
 refine Jp3 J func246 R ntmps246 R λcO=>Jf3 R<|Jj3<|Jc4 J FT 2 R Y179 dw R λcL cM _ bE t b0=>Tv<|Jn 1 R<|Ob h λx cA h=>Jd4 bE FT 2 [] R Y179 dw R b0 (FY Aj<|b5.stp t) bU cA R λO N _ bH D _=>Tv<|Jb 1 R<|Jl3 1 R<|Js3 R U179 R R<|Ob h λn cB h=>Jl1 (J:=bH) (E:=E6) (z:=(0:Int)) 3 R R R R R R R underlying310 Aw R R R R R (λ_ _ _=>R) (Jv2 cB) λo p _ bu y _=>Tv<|Jb 1 R<|Jl3 1 R<|Ob h λcI cC h=>Jw3 R call206 (iB (J:=Mk bu) Gct cC)<|Ks 6 (bW _) λbM bK bp ag A bY=>Tv<|Jb 1 R<|Jq<|Ob h λbj cp b8=>Jt3 [0,9] (λc g a=>∃b,∃v:VI×VB×VI,∃aP aI,g=c/\Stp [2,3,6] ag bp b a/\Oc E6 2 b a 6 aP aI v.1/\Oc FT 4 b a 2 O N v.2.1/\x.length=v.2.1.length/\Oc E6 3 b a 3 o p v.2.2/\n.length=v.2.2.length/\bj=FX v) (Jv<|Ju3 [0,1,2,9,10] (λf c g a=>∃b,∃j:VI×VB×VI,∃M E,g=(11,.slice M j.1.length E)::c/\Stp [2,3,6] ag bp b a/\Oc E6 2 b a 6 M E j.1/\Oc FT 4 b a 2 O N j.2.1/\x.length=j.2.1.length/\Oc E6 3 b a 3 o p j.2.2/\n.length=j.2.2.length/\ci (gO p0 p1 p2) f j=some bj) ⟨_,_,⟨ag,(cI,x,n),bM,bK,R,Jo3,bY,Fct,R,Fct,R,cp⟩,(KM R)⟩ ?_) ?_
 rintro f _ bq ⟨X,j,M,E,rfl,B,P,aR,a1,aS,a2,h⟩
 rcases f with _|f
 cases h
 refine Ob h λ_ h a0=>Jq<|Jl3 1 R<|Js3 R U30 R R<|Jb 1 R ?_
 refine Bk h (λcu h=>Jy R<|Jc1<|Jt<|Jt ?_) (λcu h=>Jx R<|Js<|Jp<|Jv<|Jl3 1 R<|Ob h λ_ a4 h=>Jd3 R P.rdc a4 U30 Z2<|Jc3 R I2 (P.rdc.gInt a4)<|Jb 1 R<|Jl3 1 R<|Ob h λcJ a5 h=>Jf R (oD (k1:= .i64) (k2:= .i64) U30 Z2 (.inr ⟨_,R,R⟩) (.inl ⟨R,R⟩) a5 P.rdc.1 R R R)<|Jb 1 R<|Jl3 1 R<|Jf R (bX R R)<|Je3 R U220 R Z51 (have aT:=b6.stp (T5 t D y A B);Jc3 R I51 (aT.ld 3 R R) (Jn 1 R<|Ob h λbr a6 h=>Jd3 R aX a6 U51 Z30 ?_)))
 cases h
 exact have h:=a0;Jb1 (Oh h<|Jw1 _ ⟨X,(j.1,j.2.1,j.2.2),M,E,R,Fct,P,aR,a1,aS,a2,R⟩<|KM R)
 obtain⟨_,_,ak,ce⟩:=(aX.stp (T5 t D y A B)).gSl a6
 refine Jc3 R I30 ce<|Js3 R U30 R R<|Jb 1 R (have ad:=ak.len_le;Ob h λbk cq b9=>Jt3 [0,1,2,9,10] (λc g a=>∃b,∃m:VI×VB×VI,∃Y Z,g=(11,.slice Y m.1.length Z)::c/\Stp [2,3,6] X bq b a/\Oc E6 2 b a 6 Y Z m.1/\Oc FT 4 b a 2 O N m.2.1/\x.length=m.2.1.length/\Oc E6 3 b a 3 o p m.2.2/\n.length=m.2.2.length/\bk=FX m) (Jv<|Ju3 [0,1,2,9,10,39,40] (λf c g a=>∃b e,∃d:VI×VB×VI,∃G F,g=(11,.slice G d.1.length F)::(41,vi e)::c/\Stp [2,3,6] X bq b a/\Oc E6 2 b a 6 G F d.1/\Oc FT 4 b a 2 O N d.2.1/\x.length=d.2.1.length/\Oc E6 3 b a 3 o p d.2.2/\n.length=d.2.2.length/\0<=e/\FV ((br.length:Int)-e)=f/\cntM (eJ p0 p1 p2 br) f e d=some bk) ⟨_,_,⟨X,0,(cJ,j.2.1,j.2.2),(subA M E (1:Int).toNat 1),(E-(1:Int).toNat),R,Jo3,(P.sub a5),aR,a1,aS,a2,(by decide),(by simp),cq⟩,(KM R)⟩ ?_) ?_)
 rintro f _ cG ⟨aE,e,d,G,F,rfl,C,b4,Q,q,al,I,ae,aY,h⟩
 rcases f with _|f
 exact Jf3 R<|Jq<|Jx2 R (dcf aY)<|Jc1<|Jt<|Jt<|Jb1<|Oh h<|Jw1 _ ⟨aE,(d.1,d.2.1,d.2.2),G,F,R,Fct,b4,Q,q,al,I,R⟩<|KM R
 refine Ob h λcP h k=>have i:=dct aY;Jf3 R (Jq<|Jw2 R i<|Js<|Jp<|Jq<|Jv<|Jj3<|Ob h λaB a7 h=>Jd3 R ak a7 U30 Z2<|Jc3 R I2 ((ak.stp C).gInt a7)<|Jb 1 R<|Jq<|Jl3 2 R<|Ob h λcS a8 h=>Jf R (Jg2 Q.rdc a8 U179 Z4 R R q R)<|Jc3 R I4 (Q.rdc.gBool a8)<|Jn 1 R<|Ob h λcE h ca=>Jk4 [0,1,2,9,10,11,14,39,40,41] 55 cE aE cG 6 tv ?_ ?_)
 exact Bk h (λcv h=>Jn 2 R<|Ob h λ_ a9 h=>Jd3 R ab a9 U179 Z4<|Jc3 R I4 ((ab.stp<|T6 t D y A B C).gBool a9)<|Jn 2 R<|Oh h<|Jl4 tv R) (λcv h=>Jn 3 R<|Je4 R<|Jn 2 R<|Oh h<|Jl4 tv R)
 rintro _ az _ ⟨rfl,s,L⟩
 refine have h:=ca;Jd ?_
 refine Bk h (λcw h=>Jy R<|Js<|Jp<|Jq<|Jl3 1 R<|Jf R (bX R R)<|Je3 R U220 R Z55<|Je3 R U55 R Z53<|Je3 R U53 R Z30 (have aU:=aT.stp (C.tr L);Jc3 R I30 (aU.ld 0 R R) (Jn 1 R<|Ob h λcT ba h=>Jd3 R aV ba U30 Z2<|Jc3 R I2 ((aV.stp<|T7 t D y A B C L).gInt ba)<|Jb 2 R ?_))) (λcw h=>Jx R<|Jc1<|Jt<|Jb1<|Jp<|Jg3 R ?_)
 refine Bk h (λcx h=>Jy R<|Js<|Jp<|Jl3 2 R<|Ob h λcH au h=>Jf R (Jg2 Q.rdc au U179 Z4 R R q R) (Ob h λV T h=>Jk1 (J:=s) (E:=FT) 2 [] R R R R R R R R Z4 R R R R Fct T λ_ bB _ _=>Tv<|have cl:x.length=V.length:=q.trans (Ju2 T).2.2.2.symm;Jd (Jm3 2 R<|Ji4 bB 7 [aB] R Y30 bS R λbJ bL _ bC _ bT=>Tv<|Ob h λaA av h=>Jd4 bC E6 6 [] R Y30 bS R Fct (FY (cd _) bT.rdc) bU av R λai ah _ bD _ bV=>Tv<|Jc 1 R<|Jz<|Jp<|Jg3 R ?_))) (λcx h=>Jx R<|Jq<|Jl3 2 R<|Ob h λcU bb h=>Jf R (Jg2 al.rdc bb U310 Z3 R R I R) (have am:=al.stp L;Jc3 R I3 (am.rdc.gInt bb) (Jb 1 R<|Ob h λbl h cb=>Jt3 [0,1,2,9,10,11,14,39,40,41] (λc g a=>∃b,g=c/\Stp [3] s az b a/\Oc E6 3 b a 3 o p bl/\n.length=bl.length) ?_ ?_)))
 have u:FW .i64 (e+1)=e+1:=wr1 ae (Jn2 i) ad
 rw[u]
 exact have i:=Jn2 i;Ou h k (λk=>Ja2 ⟨bD,e+1,(aA,V,d.2.2),ai,ah,R,Fct,bV,Fct,cl,Fct,I,by omega,by omega,k⟩ R)
 refine Bk h (λcy h=>Jy R<|Js<|Oh h<|Jw1 _ ⟨s,R,Jo3,am,I⟩<|KM R) (λcy h=>Jx R<|Jl3 1 R<|Jf R (bX R R)<|Je3 R U220 R Z55<|Je3 R U55 R Z53<|Je3 R U53 R Z51<|Jc3 R I51 (aU.ld 1 R R)<|Jn 1 R<|Ob h λbs bc h=>Jd3 R aW bc U51 Z30 ?_)
 obtain⟨_,_,an,cf⟩:=(aW.stp (T7 t D y A B C L)).gSl bc
 refine Jc3 R I30 cf<|Js3 R U30 R R<|Jb 1 R<|Ob h λbm cr cc=>Jt3 [0,1,2,9,10,11,14,39,40,41] (λc g a=>∃b,∃af:VI,g=c/\Stp [3] s az b a/\Oc E6 3 b a 3 o p af/\n.length=af.length/\bm=FX af) (Jv<|Ju3 [0,1,2,9,10,11,14,39,40,41,80,81] (λf c g a=>∃b K,∃U:VI,g=(82,vi K)::c/\Stp [3] s az b a/\Oc E6 3 b a 3 o p U/\n.length=U.length/\0<=K/\FV ((bs.length:Int)-K)=f/\cntM (dA p2 aB bs) f K U=some bm) ⟨_,_,⟨s,0,d.2.2,R,Jo3,am,I,(by decide),(by simp),cr⟩,(KM R)⟩ ?_) ?_
 rintro f _ cF ⟨W,K,U,rfl,aF,H,S,aZ,ac,h⟩
 rcases f with _|f
 exact Jf3 R<|Jq<|Jx2 R (dcf ac)<|Jc1<|Jt<|Jt<|Jb1<|Oh h<|Jw1 _ ⟨W,U,R,Fct,H,S,R⟩<|KM R
 refine Ob h λcQ h ao=>Jf3 R<|Jq<|Jw2 R (dct ac)<|Js<|Jp<|Jq<|Jv<|Jj3<|Ob h λ_ bd h=>Jd3 R an bd U30 Z2<|Jc3 R I2 ((an.stp aF).gInt bd)<|Jb 1 R<|Jl3 2 R<|Ob h λcV be h=>Jd3 R ab be U179 Z4<|Jc3 R I4 ((ab.stp<|T8 t D y A B C L aF).gBool be)<|Jd<|Ob h λax h b7=>Jt3 [0,1,2,9,10,11,14,39,40,41,80,81,82] (λc g a=>∃b,g=c/\Stp [3] W cF b a/\Oc E6 3 b a 3 o p ax/\n.length=ax.length) ?_ ?_
 exact Bk h (λcs h=>Jy R<|Js<|Oh h<|Jw1 _ ⟨W,R,Jo3,H,S⟩<|KM R) (λcs h=>Jx R<|Jm3 2 R<|Ob h λ_ bf h=>Jf R (Jg2 H.rdc bf U310 Z3 R R S R)<|Jc3 R I3 (H.rdc.gInt bf)<|Jn 1 R<|Ob h λ_ cD h=>Jf R (Jg2 H.rdc cD U310 Z3 R R S R) (Ob h λcK bh h=>Jk1 (J:=W) (E:=E6) 3 [] R R R R R R R R Z3 R R R R H bh λ_ bw _ bP=>Tv<|have cj:n.length=cK.length:=S.trans (Ju2 bh).2.2.2.symm;Jo (Oh h<|Jw1 _ ⟨bw,R,Fct,bP,cj⟩<|KM R)))
 rintro _ _ ⟨bv,rfl,_,bO,ch⟩
 exact have h:=b7;Jz (Jp<|Jg3 R<|wr2 aZ ac an.len_le ▸ (Ou h ao (λao=>Ja2 ⟨bv,K+1,ax,R,Fct,bO,ch,nxz aZ,nxm ac,ao⟩ R)))
 rintro _ _ ⟨bt,af,rfl,_,bN,cg,rfl⟩
 exact have h:=yI cc;Oh h (Jw1 _ ⟨bt,R,Fct,bN,cg⟩<|KM R)
 rintro _ _ ⟨bI,rfl,_,aa,aq⟩
 refine Jp<|Jl3 2 R<|Ob cb λ_ bg h=>Jf R (Jg2 aa.rdc bg U310 Z3 R R aq R)<|Jc3 R I3 (aa.rdc.gInt bg)<|Jn 1 R<|Ob h λ_ cz h=>Jf R (Jg2 aa.rdc cz U310 Z3 R R aq R) (Ob h λaC bi h=>Jk1 (J:=bI) (E:=E6) 3 [] R R R R R R R R Z3 R R R R aa bi λ_ aD _ aj=>Tv<|have ap:n.length=aC.length:=aq.trans (Ju2 bi).2.2.2.symm;Jd (Jl3 2 R<|Ob h λcR a3 h=>Jf R (Jg2 aj.rdc a3 U310 Z3 R R ap R)<|Jc3 R I3 (aj.rdc.gInt a3)<|Jb 1 R ?_))
 refine Bk h (λct h=>Jy R<|Js<|Jp<|Jl3 2 R<|Ob h λcH au h=>Jf R (Jg2 Q.rdc au U179 Z4 R R q R) (Ob h λV T h=>Jk1 (J:=aD) (E:=FT) 2 [] R R R R R R R R Z4 R R R R Fct T λ_ bx _ _=>Tv<|have ck:x.length=V.length:=q.trans (Ju2 T).2.2.2.symm;Jd (Jm3 2 R<|Ji4 bx 7 [aB] R Y30 bS R λbJ bL _ bz _ bQ=>Tv<|Ob h λaA av h=>Jd4 bz E6 6 [] R Y30 bS R Fct (FY (cd _) bQ.rdc) bU av R λai ah _ bA _ bR=>Tv<|Jc 1 R<|Jz<|Jp<|Jg3 R ?_))) (λct h=>Jx R<|Jc1<|Jt<|Jb1<|Jp<|Jg3 R ?_)
 have u:FW .i64 (e+1)=e+1:=wr1 ae (Jn2 i) ad
 rw[u]
 exact have i:=Jn2 i;Ou h k (λk=>Ja2 ⟨bA,e+1,(aA,V,aC),ai,ah,R,Fct,bR,Fct,ck,Fct,ap,by omega,by omega,k⟩ R)
 have u:FW .i64 (e+1)=e+1:=wr1 ae (Jn2 i) ad
 rw[u]
 exact have i:=Jn2 i;Ou h k (λk=>Ja2 ⟨aD,e+1,(d.1,d.2.1,aC),G,F,R,Fct,Fct,Fct,q,aj,ap,by omega,by omega,k⟩ R)
 have u:FW .i64 (e+1)=e+1:=wr1 ae (Jn2 i) ad
 rw[u]
 exact have i:=Jn2 i;Ou h k (λk=>Ja2 ⟨s,e+1,(d.1,d.2.1,d.2.2),G,F,R,Fct,Fct,Fct,q,Fct,I,by omega,by omega,k⟩ R)
 rintro _ _ ⟨bG,m,Y,Z,rfl,_,b1,b2,cn,b3,co,rfl⟩
 refine have h:=yI b9;Jz ?_
 cases h
 exact Ja2 ⟨bG,(m.1,m.2.1,m.2.2),Y,Z,R,Fct,b1,b2,cn,b3,co,a0⟩ R
 rintro _ _ ⟨bF,v,aP,aI,rfl,_,_,bZ,cm,_,_,rfl⟩
 exact have h:=yI b8;Jp (Jf3 R<|Ju<|Jb2 (l:=[.tmp 8]) results246 (Jq2 R R) R<|Oh h<|⟨bF,O,N,(by simp only[cm]),Fct,bZ⟩)
theorem fw {a b}{p0:VB}{p1:Bool}(e:Rd Rp.bool J w 0 a b p0){r:Bool}(h:da p0 p1=some r):Ret prog 247 [.slice a p0.length b,.bool p1] w (Pvb J w r):=by
 exact Jp3 J func247 R ntmps247 R λf=>Jf3 R<|Jl3 2 R<|Ob h λ_ d h=>Jw3 R call175 (lH (J:=Mk J) Gct d)<|Ki λ_ c _=>Tv<|Jb 2 R<|Ju<|Jb2 (l:=[.tmp 4]) results247 (Jq2 R R) R<|Oh h<|⟨c,R,Fct⟩
theorem ro {p0:Int}{b o}{c0:VL}{i:Int}{j:Int}{c3:Sig}{k:Int}{c d e f g}(m:Rd Place.rp J w 0 b o c0) (s:Bc J w 0 c 126 [.slice b c0.length o]) (t:Bc J w 0 d 2 [vi i]) (u:Bc J w 0 e 2 [vi j]) (v:Bc J w 0 f 39 [vi c3.In,vi c3.Out]) (x:Bc J w 0 g 2 [vi k]){r:Bool}(h:jH p0 c0 i j c3 k=some r):Ret prog 118 [vi p0,.pointer (some ⟨c,0,none⟩),.pointer (some ⟨d,0,none⟩),.pointer (some ⟨e,0,none⟩),.pointer (some ⟨f,0,none⟩),.pointer (some ⟨g,0,none⟩)] w (Pvb J w r):=by
 refine Jp3 J func118 R ntmps118 R λF=>Jf3 R<|Jq<|Xn J [0] [5,0,8,11,12,15,18,21,33,25,29,32,38,41,44] λ_ a=>Jn 1 R<|Jg R (Jd2 isAgg126 R R<|hvC ((s.stp a).ld 0 R R) R)<|Ob h λ_ n h=>Jd3 R m n U126 Z149<|Je3 R U149 R Z2 ?_
 obtain⟨_,z,y⟩:=((m.stp a)).gSt n
 obtain⟨D,G,rfl,E⟩:=Place.un z
 exact Jg R (Jd2 I2 R R<|hvC (λC A=>y C A 0 _ R) R)<|Jg R (Jd2 I2 R R<|hvC ((t.stp a).ld 0 R R) R)<|Jg R (Jd2 I2 R R<|hvC ((u.stp a).ld 0 R R) R)<|Jg R (Jh4 (haC (v.stp a).cells R) I39 Z39 R)<|Jg R (Jd2 I2 R R<|hvC ((x.stp a).ld 0 R R) R)<|Ob h λ_ B h=>Jw3 R C73 (dr (J:=Mk J) (p0:=c3) B)<|Ki λ_ p q=>⟨(q.cl R),Jn 5 R<|Jt1<|Jd<|Ju<|Jb2 (l:=[.tmp 7]) results118 (Jq2 R R) R<|Oh h<|⟨p,R,Fct⟩⟩
theorem rA {aG aJ aH aI}{p0:Machine}(aU:Rd Rs J w 0 aG aJ p0.Next) (aV:Rd Rs J w 0 aH aI p0.Out){r:VI}(h:jK p0=some r):Ret prog 122 [.agg #[.slice aG p0.Next.length aJ,.slice aH p0.Out.length aI]] w (Pvs E6 2 J w r):=by
 refine Jp3 J func122 R ntmps122 R λcD=>Jj3<|Jx3 J 2 R λ_ _ bx aC an=>Tv<|Jb 1 R<|Jj3<|Je3 R U89 R Z51<|Jc3 R I51 (an.ld 0 R R)<|Js3 R U51 R R<|Ob h λm ct h=>Jl1 (J:=bx) (E:=E6) (z:=(0:Int)) 3 R R R R R R R Y30 bS R R R R R (λ_ _ _=>R) (Jv2 ct) λo q bq ab M aR=>Tv<|Jb 1 R<|Jq<|Jl3 1 R<|Js3 R U30 R R<|Jb 1 R<|Ob h λbm cd bQ=>Jt3 [1,3] (λd e b=>∃c,∃H:VI,e=d/\Stp [3] ab bq c b/\Oc E6 2 c b 3 o q H/\m.length=H.length/\bm=FX H) (Jv<|Ju3 [1,3,16] (λa d e b=>∃c j,∃u:VI,e=(17,vi j)::d/\Stp [3] ab bq c b/\Oc E6 2 c b 3 o q u/\m.length=u.length/\0<=j/\FV ((m.length:Int)-j)=a/\cntM (eG p0) a j u=some bm) ⟨_,_,⟨ab,0,m,R,Jo3,aR,R,(by decide),(by simp),cd⟩,(KM R)⟩ ?_) ?_
 rintro a _ bp ⟨K,j,u,rfl,aB,aO,a2,a0,T,h⟩
 rcases a with _|a
 exact Jf3 R<|Jq<|Jx2 R (dcf T)<|Jc1<|Jt<|Jt<|Jb1<|Oh h<|Jw1 _ ⟨K,u,R,Fct,aO,a2,R⟩<|KM R
 refine Ob h λcI h aq=>Jf3 R<|Jq<|Jw2 R (dct T)<|Js<|Jp<|Jq<|Jv<|Jf3 R<|Jf3 R (Ob h λ_ cj h=>have bY:=gk cj;Ob h λbn ce bU=>Jt3 [1,3,16,17] (λd e b=>∃c,∃I:VI,e=d/\Stp [3] K bp c b/\Oc E6 2 c b 3 o q I/\m.length=I.length/\bn=FX I) (Jv<|Ju3 [1,3,4,16,17,21] (λa d e b=>∃c k,∃y:VI,e=(22,vi k)::d/\Stp [3] K bp c b/\Oc E6 2 c b 3 o q y/\m.length=y.length/\0<=k/\FV ((FW .i64<|j+1)-k)=a/\cntM (gH p0 j) a k y=some bn) ⟨_,_,⟨K,0,u,R,Jo3,aO,a2,(by decide),(by simp),ce⟩,(KM R)⟩ ?_) ?_)
 rintro a _ _ ⟨aa,k,y,rfl,aD,aP,W,b0,aW,h⟩
 rcases a with _|a
 exact Jf3 R<|Jq<|Jx2 R (dcf aW)<|Jc1<|Jt<|Jt<|Jb1<|Oh h<|Jw1 _ ⟨aa,y,R,Fct,aP,W,R⟩<|KM R
 refine Ob h λcF h s=>have U:=dct aW;Jf3 R (Jq<|Jw2 R U<|Js<|Jp<|Jq<|Jv<|Jf3 R<|Jq<|Xn aa [0,2] [2,8,17,23,3,11,12,18,26,27,31] λ_ aE=>Je3 R U89 R Z51<|Jn 1 R<|Je3 R U89 R Z51<|Jn 1 R (have aQ:=an.stp (T4 M aB aD aE);Jg R (Jd2 I51 R R<|hvC (aQ.ld 1 R R) R) (Ob h λ_ a5 h=>Jd3 R aV a5 U51 Z30 ?_)))
 have ao:=aV.stp (T5 aC M aB aD aE)
 obtain⟨_,_,_,b5⟩:=ao.gSl a5
 refine Jg R (Jd2 I30 R R<|hvC b5 R)<|Jg R (Jd2 I51 R R<|hvC (aQ.ld 1 R R) R)<|Ob h λ_ a6 h=>Jd3 R ao a6 U51 Z30 ?_
 obtain⟨_,_,_,b6⟩:=ao.gSl a6
 refine Jg R (Jd2 I30 R R<|hvC b6 R)<|Ob h λcK cu h=>Jw3 R call129 (eS (J:=Mk aa) Gct Gct cu)<|Kb λ_ az bF=>⟨(bF.cl R),Jt1<|Jd ?_⟩
 refine Bk h (λco h=>Jy R<|Js<|Jz<|Jp<|Jg3 R ?_) (λco h=>Jx R<|Jl3 3 R<|Ob h λ_ cv h=>Jf R (Jg2 aP.rdc cv U30 Z2 R R W R) (Ob h λbt bg h=>Jk1 (J:=az) (E:=E6) 3 [] R R R R R R R R Z2 R R R R Fct bg λ_ bA _ bM=>Tv<|have ca:m.length=bt.length:=W.trans (Ju2 bg).2.2.2.symm;Jd (Jc1<|Ja3 R<|Jt<|Jt<|Ou h s (λs=>have h:=s;Jb1 (Oh h<|Jw1 _ ⟨bA,bt,R,Fct,bM,ca,R⟩<|KM R)))))
 have cp:FW .i64 (k+1)=k+1:=wr1 b0 (Jn2 U) bY
 rw[cp]
 exact have U:=Jn2 U;Ou h s (λs=>Ja2 ⟨az,k+1,y,R,Fct,Fct,W,by omega,by omega,s⟩ R)
 rintro _ _ ⟨bz,I,rfl,_,bL,b9,rfl⟩
 exact have h:=yI bU;Jz (Jp<|Jg3 R<|wr2 a0 T aR.len_le ▸ (Ou h aq (λaq=>Ja2 ⟨bz,j+1,I,R,Fct,bL,b9,nxz a0,nxm T,aq⟩ R)))
 rintro _ cz ⟨ax,H,rfl,aA,bK,b8,rfl⟩
 refine have h:=yI bQ;Jp (Ob h λcx cf bV=>Jv<|Ju3 [1] (λa d e b=>∃c,∃i:VI,∃O N,e=(3,.slice O i.length N)::d/\Stp [4] ax cz c b/\Oc E6 2 c b 3 O N i/\ci (eH p0) a i=some cx) ⟨_,_,⟨ax,H,o,q,R,Jo3,bK,cf⟩,λbG ha=>(ha.moreE (ha.mm R) R<|congrArg (λau=>Value.slice o au q) b8)⟩ ?_)
 rintro a _ _ ⟨bB,i,O,N,rfl,ag,E,h⟩
 rcases a with _|a
 cases h
 refine Ob h λ_ h a1=>Jv<|Jl3 1 R<|Js3 R U30 R R<|Ob h λB cw h=>Jl1 (J:=bB) (E:=E6) (z:=(0:Int)) 4 R R R R R R R Y30 bS R R R R R (λ_ _ _=>R) (Jv2 cw) λp n br ac D bN=>Tv<|Jb 1 R<|Jq<|Jl3 1 R<|Js3 R U30 R R<|Jb 1 R<|Ob h λbj cg bW=>Jt3 [1,3,6] (λd e b=>∃c,∃F:VI,e=d/\Stp [4] ac br c b/\Oc E6 2 c b 4 p n F/\B.length=F.length/\bj=FX F) (Jv<|Ju3 [1,3,6,46] (λa d e b=>∃c f,∃v:VI,e=(47,vi f)::d/\Stp [4] ac br c b/\Oc E6 2 c b 4 p n v/\B.length=v.length/\0<=f/\FV ((i.length:Int)-f)=a/\cntM (eI p0 i) a f v=some bj) ⟨_,_,⟨ac,0,B,R,Jo3,bN,R,(by decide),(by simp),cg⟩,(KM R)⟩ ?_) ?_
 rintro a _ bs ⟨L,f,v,rfl,ah,aS,a4,aZ,S,h⟩
 rcases a with _|a
 exact Jf3 R<|Jq<|Jx2 R (dcf S)<|Jc1<|Jt<|Jt<|Jb1<|Oh h<|Jw1 _ ⟨L,v,R,Fct,aS,a4,R⟩<|KM R
 refine Ob h λcG h ar=>Jf3 R<|Jq<|Jw2 R (dct S)<|Js<|Jp<|Jq<|Jv<|Jf3 R<|Jf3 R (Ob h λ_ ck h=>have bZ:=gk ck;Ob h λbk ch bX=>Jt3 [1,3,6,46,47] (λd e b=>∃c,∃G:VI,e=d/\Stp [4] L bs c b/\Oc E6 2 c b 4 p n G/\B.length=G.length/\bk=FX G) (Jv<|Ju3 [1,3,6,7,46,47,51] (λa d e b=>∃c g,∃x:VI,e=(52,vi g)::d/\Stp [4] L bs c b/\Oc E6 2 c b 4 p n x/\B.length=x.length/\0<=g/\FV ((FW .i64<|f+1)-g)=a/\cntM (gJ p0 i f) a g x=some bk) ⟨_,_,⟨L,0,v,R,Jo3,aS,a4,(by decide),(by simp),ch⟩,(KM R)⟩ ?_) ?_)
 rintro a _ _ ⟨C,g,x,rfl,ai,aT,X,b1,aX,h⟩
 rcases a with _|a
 exact Jf3 R<|Jq<|Jx2 R (dcf aX)<|Jc1<|Jt<|Jt<|Jb1<|Oh h<|Jw1 _ ⟨C,x,R,Fct,aT,X,R⟩<|KM R
 refine Ob h λcH h t=>have V:=dct aX;Jf3 R (Jq<|Jw2 R V<|Js<|Jp<|Jq<|Jv<|Jf3 R<|Jq<|Xn C [0,3] [2,5,8,14,17,20,9,21,26,29] λbo ad=>Jn 2 R<|Ob h λcA a7 h=>Jd3 R E.rdc a7 U30 Z2<|Jn 2 R<|Ob h λcB a8 h=>Jd3 R E.rdc a8 U30 Z2 (have P:=E.stp (T4 D ah ai ad);Jg R (Jd2 I2 R R<|hvC (P.rdc.gInt a7) R) (Jg R (Jd2 I2 R R<|hvC (P.rdc.gInt a8) R)<|Jn 2 R<|Jt1<|Jd<|Jq<|Jj3<|Je3 R U89 R Z51 (have aK:=an.stp (T7 M aA ag D ah ai ad);Jc3 R I51 (aK.ld 0 R R) (Jn 1 R<|Ob h λcC a9 h=>Jd3 R aU a9 U51 Z30 ?_)))))
 have ak:=aU.stp (T8 aC M aA ag D ah ai ad)
 obtain⟨_,_,bI,b2⟩:=ak.gSl a9
 refine Jc3 R I30 b2<|Js3 R U30 R R<|Jb 1 R<|Ob h λbl cc bR=>Jt3 [1,3,6,7,8,46,47,51,52] (λd e b=>∃c,∃av:Bool,e=(9,.bool av)::d/\Stp [] C bo c b/\bl=FX av) (Jv<|Ju3 [1,3,6,7,8,46,47,51,52,69] (λa d e b=>∃c A,∃Y:Bool,e=(9,.bool Y)::(70,vi A)::d/\Stp [] C bo c b/\0<=A/\FV ((cC.length:Int)-A)=a/\cntM (er p0 i f g) a A Y=some bl) ⟨_,_,⟨C,0,((cA==cB):Bool),R,Jo3,(by decide),(by simp),cc⟩,(KM R)⟩ ?_) ?_
 rintro a _ _ ⟨Z,A,Y,rfl,ae,aY,Q,h⟩
 rcases a with _|a
 exact Jf3 R<|Jq<|Jx2 R (dcf Q)<|Jc1<|Jt<|Jt<|Jb1<|Oh h<|Jw1 _ ⟨Z,Y,R,Fct,R⟩<|KM R
 refine Ob h λcE h ap=>Jf3 R<|Jq<|Jw2 R (dct Q)<|Js<|Jp<|Jq<|Jv<|Jf3 R<|Xn Z [0,2,3] [2,5,8,11,17,26,41,44,50,59,12,20,21,29,30,35,36,45,53,54,62,63,68,69,74,77,80] λcy af=>Jn 2 R<|Ob h λbi h bT=>Jk4 [1,3,6,7,8,9,46,47,51,52,69,70] 98 bi Z cy 24 (Cl.refl _ _ _) ?_ ?_
 refine Bk h (λcl h=>Jn 8 R<|Jf4 R<|Jn 1 R<|Jf4 R<|Jn 1 R<|Jf4 R<|Jn 1 R<|Jf4 R<|Jf4 R<|Jn 1 R<|Jf4 R<|Jn 1 R<|Jf4 R<|Jn 1 R<|Jf4 R<|Jn 2 R<|Oh h<|Jv1 _ (Cl.refl _ _ _) ⟨R,_,Jo3⟩<|KM R) (λcl h=>Jn 1 R<|Je3 R U89 R Z51<|Jn 3 R<|Je3 R U89 R Z51<|Jn 2 R (have aL:=aK.stp (ae.tr af);Jg R (Jd2 I51 R R<|hvC (aL.ld 0 R R) R) (Ob h λ_ ba h=>Jd3 R ak ba U51 Z30 ?_)))
 have al:=ak.stp (ae.tr af)
 obtain⟨_,_,aM,b3⟩:=al.gSl ba
 refine Jg R (Jd2 I30 R R<|hvC b3 R)<|Ob h λ_ bb h=>Jd3 R aM bb U30 Z2<|Jg R (Jd2 I2 R R<|hvC (aM.gInt bb) R)<|Ob h λ_ bc h=>Jd3 R P.rdc bc U30 Z2 (have am:=P.stp (ae.tr af);Jg R (Jd2 I2 R R<|hvC (am.rdc.gInt bc) R) (Jg R (Jd2 I51 R R<|hvC (aL.ld 0 R R) R)<|Ob h λ_ bd h=>Jd3 R al bd U51 Z30 ?_))
 obtain⟨_,_,aN,b4⟩:=al.gSl bd
 exact Jg R (Jd2 I30 R R<|hvC b4 R)<|Ob h λ_ be h=>Jd3 R aN be U30 Z2<|Jg R (Jd2 I2 R R<|hvC (aN.gInt be) R)<|Ob h λ_ bf h=>Jd3 R am.rdc bf U30 Z2<|Jg R (Jd2 I2 R R<|hvC (am.rdc.gInt bf) R)<|Jn 2 R<|Oh h<|Jv1 _ (Cl.refl _ _ _) ⟨R,_,Jo3⟩<|KM R
 rintro _ _ _ ⟨rfl,bv,_⟩
 exact have h:=bT;Jn 1 R (Jt1<|Jo<|Jz<|Jp<|Jg3 R<|wr2 aY Q bI.len_le ▸ (Ou h ap (λap=>Ja2 ⟨bv,A+1,bi,R,Fct,nxz aY,nxm Q,ap⟩ R)))
 rintro _ _ ⟨aw,av,rfl,_,rfl⟩
 refine have h:=yI bR;Jp (Jf3 R ?_)
 refine Bk h (λcm h=>Jy R<|Js<|Jz<|Jp<|Jg3 R ?_) (λcm h=>Jx R<|Jl3 3 R<|Ob h λ_ cr h=>Jf R (Jg2 aT.rdc cr U30 Z2 R R X R) (Ob h λbu bh h=>Jk1 (J:=aw) (E:=E6) 4 [] R R R R R R R R Z2 R R R R Fct bh λ_ bw _ bJ=>Tv<|have b7:B.length=bu.length:=X.trans (Ju2 bh).2.2.2.symm;Jd (Jc1<|Ja3 R<|Jt<|Jt<|Ou h t (λt=>have h:=t;Jb1 (Oh h<|Jw1 _ ⟨bw,bu,R,Fct,bJ,b7,R⟩<|KM R)))))
 have cq:FW .i64 (g+1)=g+1:=wr1 b1 (Jn2 V) bZ
 rw[cq]
 exact have V:=Jn2 V;Ou h t (λt=>Ja2 ⟨aw,g+1,x,R,Fct,Fct,X,by omega,by omega,t⟩ R)
 rintro _ _ ⟨bD,G,rfl,_,bP,cb,rfl⟩
 exact have h:=yI bX;Jz (Jp<|Jg3 R<|wr2 aZ S E.len_le ▸ (Ou h ar (λar=>Ja2 ⟨bD,f+1,G,R,Fct,bP,cb,nxz aZ,nxm S,ar⟩ R)))
 rintro _ _ ⟨bC,F,rfl,aF,bO,a3,rfl⟩
 refine have h:=yI bW;Jp (Jq<|Jl3 2 R<|Ob h λcJ cs h=>Jw3 R call129 (Ret.cast (by simp only[a3,List.cons_append,List.nil_append])<|eS (J:=Mk bC) (Jn3 bO.rdc) (Jn3 (E.stp<|D.tr aF).rdc) cs) ?_)
 rintro _ _ ⟨_,rfl,bH⟩
 refine Im bH 5 R (λay bE _=>Tv<|Jd ?_)
 refine Bk h (λcn h=>Jy R<|Js<|Jp<|Jg3 R<|Jz ?_) (λcn h=>Jx R<|Jf3 R<|Ju<|Jw<|Ja1<|Jw ?_)
 cases h
 exact Jz1 λbG ha=>⟨a,_,Jb3 _,⟨(λaj=>ren [(4,3)]<|ay aj),F,p,n,R,(Jz2 ((T4 ag D aF bE).wk R) [(4,3)] R),Fct,a1⟩,(ha.moreE (ha.mm R) R<|congrArg (λau=>Value.slice p au n) a3)⟩
 cases h
 exact Ov a1 bV (λh=>Ja1<|Jb2 (l:=[.tmp 2]) results122 (Jq2 R R) R<|Oh h<|⟨(λaj=>ren [(3,2)]<|ay aj),O,N,R,Fct,Fct⟩)
theorem fK (n:Nat):∀{w:World}{J:Col}{p0:Int}{D O}{p1:VV}{v u}{j:VI}{c f}{c0:VB}{E P}{i:VB}{d y z A}(H:Rd Rs J w 0 D O p1) (ac:Oc E6 2 J w 2 v u j) (I:Oc FT 4 J w 3 c f c0) (K:Rd Rp.bool J w 0 E P i) (ad:Bc J w 4 d 30 [.slice v j.length u]) (L:Bc J w 0 y 179 [.slice c c0.length f]) (X:Bc J w 0 z 179 [.slice E i.length P]) (Y:Bc J w 0 A 290 [.func (.func 267) #[] #[.pointer (some ⟨y,0,none⟩),.pointer (some ⟨z,0,none⟩),.pointer (some ⟨A,0,none⟩)]]){r:VI×VB}(h:ck n p0 p1 j c0 i=some r),Ret prog 267 [vi p0,.slice D p1.length O,.func (.func 269) #[] #[.pointer (some ⟨d,0,none⟩)],.pointer (some ⟨y,0,none⟩),.pointer (some ⟨z,0,none⟩),.pointer (some ⟨A,0,none⟩)] w (λa8 a=>∃b al am,a8= .tuple #[]/\Ent J w b a/\Oc E6 2 b a 2 al am r.1/\Oc FT 4 b a 3 c f r.2/\c0.length=r.2.length/\Bc b a 4 d 30 [.slice al r.1.length am]):=by
 induction n with
 |zero=>
  intro w J p0 D O p1 v u j c f c0 E P i d y z A H ac I K ad L X Y r h
  cases h
 |succ n a6=>
  intro w J p0 D O p1 v u j c f c0 E P i d y z A H ac I K ad L X Y r h
  have h:cL (ck n) p0 p1 j c0 i=some r:=h
  unfold cL at h
  refine Jp3 J func267 R ntmps267 R λbc=>Jj3<|Jc3 R I179 (L.ld 0 R R)<|Jn 1 R<|Ob h λ_ a3 h=>Jd3 R I.rdc a3 U179 Z4<|Ob h λar aj h=>Jk1 (J:=J) (E:=FT) 3 [] R R R R R R R R Z4 R R R R I aj λap Q s aJ=>Tv<|?_
  have a0:c0.length=ar.length:=(Ju2 aj).2.2.2.symm
  refine Jd<|Jq<|Jl3 2 R<|Ob h λaq af h=>Jd3 R H af U51 Z30 ?_
  have aQ:=H.stp s
  obtain⟨_,_,W,aX⟩:=aQ.gSl af
  refine Jc3 R I30 aX<|Js3 R U30 R R<|Jb 1 R<|Ob h λao a2 aU=>?_
  clear h
  refine Jt3 [0,2,3,4,5] (λk p a=>∃b,∃m:VI×VB,∃U T,p=k/\Stp [2,3,4,7,8,9] Q ap b a/\Oc E6 2 b a 2 U T m.1/\Oc FT 4 b a 3 c f m.2/\c0.length=m.2.length/\Bc b a 4 d 30 [.slice U m.1.length T]/\ao=FX m) ?_ ?_
  refine Jv<|Ju3 [0,1,2,3,4,5,17,18] (λC k p a=>∃b o,∃e:VI×VB,∃t x,p=(19,vi o)::k/\Stp [2,3,4,7,8,9] Q ap b a/\Oc E6 2 b a 2 t x e.1/\Oc FT 4 b a 3 c f e.2/\c0.length=e.2.length/\Bc b a 4 d 30 [.slice t e.1.length x]/\0<=o/\FV ((aq.length:Int)-o)=C/\cntM (cV (ck n) p1 i aq) C o e=some ao) ⟨_,_,⟨Q,0,(j,ar),v,u,R,Jo3,Fct,aJ,a0,Fct,(by decide),(by simp),a2⟩,(KM R)⟩ ?_
  rintro C _ a9 ⟨ab,o,e,t,x,rfl,q,aF,V,B,aG,ae,M,h⟩
  rcases C with _|C
  have N:=h;obtain⟨a7,h⟩:=exq N
  have Z:=dcf M
  refine Jf3 R<|Jq<|Jx2 R Z<|Jc1<|Jt<|Jt ?_
  cases h
  have h:=N
  refine Jb1 ?_
  cases h
  exact Jw1 _ ⟨ab,(e.1,e.2),t,x,R,Fct,aF,V,B,aG,R⟩<|KM R
  obtain⟨a7,h,N⟩:=BI h;unfold cV at h
  have Z:=dct M
  refine Jf3 R<|Jq<|Jw2 R Z<|Js<|Jp<|Jq<|Jv<|Jj3<|Ob h λ_ ag h=>Jd3 R W ag U30 Z2<|Jc3 R I2 ((W.stp q).gInt ag)<|Jb 1 R<|Jj3 ?_
  have aH:=X.stp (s.tr q)
  refine Jc3 R I179 (aH.ld 0 R R)<|Jn 1 R<|Ob h λbb ah h=>Jd3 R K ah U179 Z4 ?_
  have aI:=K.stp (s.tr q)
  refine Jc3 R I4 (aI.gBool ah)<|Jn 1 R<|Ob h λan h aV=>Jk4 [0,1,2,3,4,5,10,17,18,19] 33 an ab a9 6 tv ?_ ?_
  revert h
  cases bd:bb
  refine JF λh=>Je4 R<|Jn 2 R<|Je4 R<|Jn 2 R ?_
  cases h
  exact Jl4 tv R
  refine JT λh=>Jc3 R I179 ((L.stp<|s.tr q).ld 0 R R)<|Jn 1 R<|Ob h λ_ ai h=>Jf R (Jg2 V.rdc ai U179 Z4 R R B R)<|Jc3 R I4 (V.rdc.gBool ai)<|Jn 2 R ?_
  cases h
  exact Jl4 tv R
  rintro _ ba _ ⟨rfl,S,ay⟩
  have h:=aV
  refine Jd<|Ob h λl h aW=>Jt3 [0,1,2,3,4,5,17,18,19] (λk p a=>∃b G F,p=k/\Stp [2,3,4,7,8,9] S ba b a/\Oc E6 2 b a 2 G F l.1/\Oc FT 4 b a 3 c f l.2/\c0.length=l.2.length/\Bc b a 4 d 30 [.slice G l.1.length F]) ?_ ?_
  revert h
  cases be:an
  refine JF λh=>Jy R<|Js ?_
  cases h
  exact Jw1 _ ⟨S,t,x,R,Jo3,Fct,Fct,B,Fct⟩<|KM R
  refine JT λh=>Jx R<|Jk3 ?_
  have aN:=Y.stp (T3 s q ay)
  refine Jc3 R isAgg290 (aN.ld 0 R R)<|Jn 3 R<|Ob h λ_ a4 h=>WO.callV R R R R R R R R call267 (a6 (J:=λg=>mp [(2,2),(3,3),(4,4)] 0<|S g) (Jm2 Fct (mp [(2,2),(3,3),(4,4)] 0) R R) Fct Fct (Jm2 Fct (mp [(2,2),(3,3),(4,4)] 0) R R) Fct (Bc.cast Fct (by simp only[B])) Fct Fct a4) ?_
  rintro _ _ ⟨_,aB,az,rfl,aD,aO,aP,a1,aR⟩
  obtain⟨aw,_,aa⟩:=Ji aD 5 R
  refine Tv<|Jo ?_
  cases h
  exact Jw1 _ ⟨(λg=>ren [(7,2),(8,3),(9,4)]<|aw g),aB,az,R,Fct,((aO.mx (bW _) aa R (R:5+2=7)).map (ren [(7,2),(8,3),(9,4)]) R R),((aP.mx dB aa R (R:5+3=8)).map (ren [(7,2),(8,3),(9,4)]) R R),(B.trans a1),((aR.mx aa R (R:5+4=9)).map (ren [(7,2),(8,3),(9,4)]) R R)⟩<|KM R
  rintro _ _ ⟨av,G,F,rfl,_,aK,aL,aZ,aM⟩
  have h:=aW
  refine Jz<|Jp<|Jg3 R<|wr2 ae M W.len_le ▸ ?_
  cases h
  exact Ja2 ⟨av,o+1,(l.1,l.2),G,F,R,Fct,aK,aL,aZ,aM,nxz ae,nxm M,N⟩ R
  rintro _ _ ⟨au,m,U,T,rfl,_,_,_,aY,_,rfl⟩
  have h:=yI aU
  refine Jp<|Jm3 2 R<|Ob h λ_ a5 h=>WO.callV R R R R R R R R call269 (tM (J:=λg=>mp [(2,2),(4,3)] 0<|au g) Fct Fct a5) ?_
  rintro _ _ ⟨_,aA,aC,rfl,aE,aS,aT⟩
  obtain⟨ax,_,ak⟩:=Ji aE 5 R
  refine Tv<|Jo<|DN.end0 results267 ?_
  cases h
  exact⟨(λg=>ren [(7,2),(8,4)]<|ax g),aA,aC,R,Fct,((aS.mx (bW _) ak R (R:5+2=7)).map (ren [(7,2),(8,4)]) R R),Fct,aY,((aT.mx ak R (R:5+3=8)).map (ren [(7,2),(8,4)]) R R)⟩
theorem uY {m s}{p0:VI}{p1:Int}(f:Rd Ri J w 0 m s p0){r:Bool}(h:nL p0 p1=some r):Ret prog 89 [.slice m p0.length s,vi p1] w (Pvb J w r):=by
 refine Jp3 J func89 R ntmps89 R λA=>Jf3 R<|Jq<|Jf3 R<|Ob h λq x n=>Jx1 (λe g=>∃i,e=[]/\Stp [] J w i g/\q=FX ()) (Jv<|Ju3 [0,1] (λc t e g=>∃i b,e=(5,vi b)::t/\Stp [] J w i g/\0<=b/\FV ((p0.length:Int)-b)=c/\cntM (jT p0 p1) c b ()=some q) ⟨_,_,⟨J,0,R,Jo3,(by decide),(by simp),x⟩,(KM R)⟩ ?_) ?_
 rintro c _ _ ⟨k,b,rfl,v,o,d,h⟩
 rcases c with _|c
 exact Jq<|Jl3 2 R<|Js3 R U30 R R<|Jb 1 R<|Jx2 R (dcf d)<|Jc1<|Jt<|Jt<|Jb1<|Oh h<|Jw1 _ ⟨k,R,Fct,R⟩ KN
 refine Ob h λB h a=>Jq<|Jl3 2 R<|Js3 R U30 R R<|Jb 1 R<|Jw2 R (dct d)<|Js<|Jp<|Jq<|Jv<|Jl3 2 R<|Ob h λ_ p h=>Jd3 R f p U30 Z2<|Jc3 R I2 ((f.stp v).gInt p)<|Jn 2 R<|Ob h λC z h=>Jw3 R C25 (dJ (J:=Mk k) z)<|Kb λ_ j _=>Tv<|Jb 1 R ?_
 exact Bk h (λy h=>Jy R<|Js<|Jz<|Jp<|Jg3 R<|wr2 o d f.len_le ▸ (Ou h a (λa=>Ja2 ⟨j,b+1,R,Fct,nxz o,nxm d,a⟩ R))) (λy h=>Jx R<|Jf3 R<|Ju<|Ja1<|Jw<|Jw<|Ou h a (λa=>Ov a n (λh=>Ja1<|Jr2<|Jw<|Jb2 (l:=[.tmp 4]) results89 (Jq2 R R) R<|Oh h<|⟨j,R,Fct⟩)))
 rintro _ _ ⟨u,rfl,_,rfl⟩
 exact have h:=yI n;Jp (Jf3 R<|Ju<|Jb2 (l:=[.tmp 4]) results89 (Jq2 R R) R<|Oh h<|⟨u,R,Fct⟩)
theorem uy {p0:Sig}  {r:Int}(h:me p0=some r):Ret prog 149 [.agg #[vi p0.In,vi p0.Out]] w (Pvi J w r):=by
 exact Jp3 J func149 R ntmps149 R λe=>Jj3<|Jx3 J 2 R λ_ _ a _ c=>Tv<|Jb 1 R<|Jj3<|Je3 R U39 R Z2<|Jc3 R I2 (c.ld 0 R R)<|Ob h λ_ d h=>Jw3 R call47 (fH (J:=Mk a) d)<|Ki λ_ b _=>Tv<|Jb 1 R<|Ju<|Jb2 (l:=[.tmp 2]) results149 (Jq2 R R) R<|Oh h<|⟨b,R,Fct⟩
theorem wP {L V}{p0:VP}{M W}{p1:VI}{p2:Int}(N:Rd Pair.rp J w 0 L V p0) (D:Rd Ri J w 0 M W p1){r:VI}(h:kO p0 p1 p2=some r):Ret prog 153 [.slice L p0.length V,.slice M p1.length W,vi p2] w (Pvs E6 2 J w r):=by
 refine Jp3 J func153 R ntmps153 R λa0=>Jf3 R<|Jj3<|Jc4 J E6 2 R Y30 bS R λaj ao _ Z H _=>Tv<|Jb 1 R<|Jj3<|Jc4 Z E6 3 R Y30 bS R λal ak X y K aD=>Tv<|Jb 1 R<|Jq<|Jf3 R<|Ob h λU aH aE=>Jx1 (λg a=>∃b,∃e:VI×VI,∃C z B A,g=[(7,.slice C e.1.length z),(8,.slice B e.2.length A)]/\Stp [2,3] y X b a/\Oc E6 2 b a 2 C z e.1/\Oc E6 2 b a 3 B A e.2/\U=FX e) (Jv<|Ju3 [0,1,2] (λo v g a=>∃b f,∃c:VI×VI,∃i j k m,g=(7,.slice i c.1.length j)::(8,.slice k c.2.length m)::(9,vi f)::v/\Stp [2,3] y X b a/\Oc E6 2 b a 2 i j c.1/\Oc E6 2 b a 3 k m c.2/\0<=f/\FV ((p1.length:Int)-f)=o/\cntM (gX p0 p1 p2) o f c=some U) ⟨_,_,⟨y,0,(([]:VI),([]:VI)),aj,ao,al,ak,R,Jo3,Fct,aD,(by decide),(by simp),aH⟩,(KM R)⟩ ?_) ?_
 rintro o _ _ ⟨F,f,c,i,j,k,m,rfl,G,au,av,O,u,h⟩
 rcases o with _|o
 exact Jq<|Jl3 2 R<|Js3 R U30 R R<|Jb 1 R<|Jx2 R (dcf u)<|Jc1<|Jt<|Jt<|Jb1<|Oh h<|Jw1 _ ⟨F,(c.1,c.2),i,j,k,m,R,Fct,au,av,R⟩<|KM R
 refine Ob h λa1 h E=>Jq<|Jl3 2 R<|Js3 R U30 R R<|Jb 1 R<|Jw2 R (dct u)<|Js<|Jp<|Jq<|Jv<|Jl3 3 R<|Ob h λ_ P h=>Jd3 R D P U30 Z2 (have n:=D.stp (T3 H K G);Jc3 R I2 (n.gInt P) (Ob h λ_ Q h=>Jd3 R N Q U58 Z120<|Je3 R U120 R Z30 ?_))
 obtain⟨_,aI,aG⟩:=((N.stp (T3 H K G))).gSt Q
 obtain⟨aV,a2,aW,a3,rfl,aY,aZ⟩:=Pair.un aI
 refine Jc3 R I30 (λa aK=>aG a aK 1 _ R)<|Jn 1 R<|Ob h λa4 aL h=>Jw3 R call212 (oH (J:=Mk F) Gct aL)<|Kb λaP x I=>Tv<|Jd<|Ob h λd h aF=>Jt3 [0,1,2,9] (λv g a=>∃b q p s t,g=(7,.slice q d.1.length p)::(8,.slice s d.2.length t)::v/\Stp [2,3] x aP b a/\Oc E6 2 b a 2 q p d.1/\Oc E6 2 b a 3 s t d.2) ?_ ?_
 exact Bk h (λaJ h=>Jy R<|Jm3 3 R<|Ob h λaR T h=>Jd3 R n T U30 Z2<|Jc3 R I2 ((n.stp I).gInt T)<|Ji4 x 6 [aR] R Y30 bS R λaX aS _ ad _ aA=>Tv<|Ob h λ_ aN h=>Jd4 ad E6 3 [] R Y30 bS R Fct (FY (cd _) aA.rdc) bU aN R λai ap _ ae _ aB=>Tv<|Jc 1 R<|Oh h<|Jw1 _ ⟨ae,i,j,ai,ap,R,Fct,Fct,aB⟩<|KM R) (λaJ h=>Jx R<|Jm3 3 R<|Ob h λaQ S h=>Jd3 R n S U30 Z2<|Jc3 R I2 ((n.stp I).gInt S)<|Ji4 x 6 [aQ] R Y30 bS R λaU aT _ ab _ ay=>Tv<|Ob h λ_ aM h=>Jd4 ab E6 2 [] R Y30 bS R Fct (FY (cd _) ay.rdc) bU aM R λam ag _ ac _ az=>Tv<|Jc 1 R<|Oh h<|Jw1 _ ⟨ac,am,ag,k,m,R,Fct,az,Fct⟩<|KM R)
 rintro _ _ ⟨aa,q,p,s,t,rfl,_,aw,ax⟩
 exact have h:=aF;Jz (Jp<|Jg3 R<|wr2 O u D.len_le ▸ (Ou h E (λE=>Ja2 ⟨aa,f+1,(d.1,d.2),q,p,s,t,R,Fct,aw,ax,nxz O,nxm u,E⟩ R)))
 rintro _ _ ⟨Y,e,C,z,B,A,rfl,_,aq,ar,rfl⟩
 exact have h:=yI aE;Jp (Jl3 2 R<|Ob h λ_ aO h=>Jd4 Y E6 2 [] R Y30 bS R aq (FY (cd _) ar.rdc) bU aO R λan ah _ af _ aC=>Tv<|Jb 1 R<|Ju<|Jb2 (l:=[.tmp 6]) results153 (Jq2 R R) R<|Oh h<|⟨af,an,ah,R,Fct,aC⟩)
theorem pS {s C u B y z t x A v}{p0:l7Game}{q O}{p1:VB}{p2:Int}(ah:Rd Ri J w 0 s C p0.owner) (ai:Rd Ri J w 0 u B p0.prio) (E:Rd Rs J w 0 y z p0.next) (aj:Rd Rs J w 0 t x p0.prev) (ak:Rd Ri J w 0 A v p0.pick) (F:Rd Rp.bool J w 0 q O p1){r:Int}(h:jA p0 p1 p2=some r):Ret prog 160 [.agg #[.slice s p0.owner.length C,.slice u p0.prio.length B,.slice y p0.next.length z,.slice t p0.prev.length x,.slice A p0.pick.length v],.slice q p1.length O,vi p2] w (Pvi J w r):=by
 refine Jp3 J func160 R ntmps160 R λal=>Jj3<|Jx3 J 2 R λ_ P i p T=>Tv<|Jb 1 R<|Jf3 R<|Jq<|Jf3 R<|Ob h λM Z W=>Jx1 (λb c=>∃d,∃o:Int×Int,b=[(7,vi o.1)]/\Stp [] i P d c/\M=FX o) (Jv<|Ju3 [1,2,3] (λe f b c=>∃d,∃a:Int×Int,b=(7,vi a.1)::(8,vi a.2)::f/\Stp [] i P d c/\ci (jZ p0 p1 p2) e a=some M) ⟨_,_,⟨i,((0:Int),(0:Int)),R,Jo3,Z⟩,(KM R)⟩ ?_) ?_
 rintro e _ af ⟨g,a,rfl,k,h⟩
 rcases e with _|e
 cases h
 refine Ob h λ_ h G=>Jq<|Jl3 1 R<|Je3 R U177 R Z51 (have m:=T.stp k;Jc3 R I51 (m.ld 2 R R) (Jn 1 R<|Ob h λam H h=>Jd3 R E H U51 Z30 ?_))
 have n:=E.stp (p.tr k)
 obtain⟨_,_,_,X⟩:=n.gSl H
 refine Jc3 R I30 X<|Js3 R U30 R R<|Jb 1 R ?_
 refine Bk h (λaa h=>Jy R<|Jc1<|Jt<|Jt ?_) (λaa h=>Jx R<|Js<|Jp<|Jq<|Jv<|Jj3<|Je3 R U177 R Z51<|Jc3 R I51 (m.ld 2 R R)<|Jn 1 R<|Ob h λ_ I h=>Jd3 R n I U51 Z30 ?_)
 cases h
 exact have h:=G;Jb1 (Oh h<|Jw1 _ ⟨g,(a.1,a.2),R,Fct,R⟩<|KM R)
 obtain⟨_,_,D,Y⟩:=n.gSl I
 refine Jc3 R I30 Y<|Jn 1 R<|Ob h λ_ K h=>Jd3 R D K U30 Z2<|Jc3 R I2 (D.gInt K)<|Jb 1 R<|Jl3 2 R<|Ob h λan L h=>Jd3 R F L U179 Z4<|Jc3 R I4 ((F.stp<|p.tr k).gBool L)<|Jn 1 R<|Ob h λae h U=>Jk4 [1,2,3,7,8] 37 ae g af 5 tv ?_ ?_
 exact Bk h (λab h=>Je4 R<|Jn 2 R<|Je4 R<|Jn 1 R<|Oh h<|Jl4 tv R) (λab h=>Jg4 tv R (Jh4 (haE m.cells) I177 Z177 R)<|Jn 2 R<|Ob h λ_ ad h=>Jw3 R call214 (sw (J:=Mk g) (p0:=p0) Gct Gct Gct Gct Gct ad)<|Kb λ_ _ _=>Tv<|Jn 1 R<|Oh h<|Jv1 _ tv ⟨R,_,Fct⟩<|KM R)
 rintro _ ag _ ⟨rfl,j,_⟩
 refine Jd<|Ob U λN h V=>Jt3 [1,2,3,8] (λf b c=>∃d,b=(7,vi N)::f/\Stp [] j ag d c) ?_ ?_
 exact Bk h (λac h=>Jy R<|Js<|Oh h<|Jw1 _ ⟨j,R,Jo3⟩<|KM R) (λac h=>Jx R<|Jg3 R<|Oh h<|Jw1 _ ⟨j,R,Jo3⟩<|KM R)
 rintro _ _ ⟨Q,rfl,_⟩
 refine have h:=V;Jz (Jp<|Jg3 R ?_)
 cases h
 exact Ja2 ⟨Q,(N,((FW .i64<|a.2+1):Int)),R,Fct,G⟩ R
 rintro _ _ ⟨S,o,rfl,_,rfl⟩
 exact have h:=yI W;Jp (Jf3 R<|Ju<|Jb2 (l:=[.tmp 6]) results160 (Jq2 R R) R<|Oh h<|⟨S,R,Fct⟩)
theorem zx {t D v C z A u y B x}{p0:l7Game}{s L}{p1:VB}(Y:Rd Ri J w 0 t D p0.owner) (E:Rd Ri J w 0 v C p0.prio) (Z:Rd Rs J w 0 z A p0.next) (aa:Rd Rs J w 0 u y p0.prev) (ab:Rd Ri J w 0 B x p0.pick) (n:Rd Rp.bool J w 0 s L p1){r:Int}(h:tk p0 p1=some r):Ret prog 215 [.agg #[.slice t p0.owner.length D,.slice v p0.prio.length C,.slice z p0.next.length A,.slice u p0.prev.length y,.slice B p0.pick.length x],.slice s p1.length L] w (Pvi J w r):=by
 refine Jp3 J func215 R ntmps215 R λac=>Jj3<|Jx3 J 2 R λ_ M k q Q=>Tv<|Jb 1 R<|Jf3 R<|Jq<|Jf3 R<|Ob h λI U T=>Jx1 (λb d=>∃e p,b=[(5,vi p)]/\Stp [] k M e d/\I=FX p) (Jv<|Ju3 [1,2] (λc j b d=>∃e a i,b=(5,vi i)::(6,vi a)::j/\Stp [] k M e d/\0<=a/\FV ((p1.length:Int)-a)=c/\cntM (nR p0 p1) c a i=some I) ⟨_,_,⟨k,0,((-1):Int),R,Jo3,(by decide),(by simp),U⟩,(KM R)⟩ ?_) ?_
 rintro c _ X ⟨f,a,i,rfl,m,F,g,h⟩
 rcases c with _|c
 exact Jq<|Jl3 2 R<|Js3 R U179 R R<|Jb 1 R<|Jx2 R (dcf g)<|Jc1<|Jt<|Jt<|Jb1<|Oh h<|Jw1 _ ⟨f,i,R,Fct,R⟩<|KM R
 refine Ob h λo5 h o=>Jq<|Jl3 2 R<|Js3 R U179 R R<|Jb 1 R<|Jw2 R (dct g)<|Js<|Jp<|Jq<|Jv<|Jl3 2 R<|Ob h λad G h=>Jd3 R n G U179 Z4<|Jc3 R I4 ((n.stp<|q.tr m).gBool G)<|Jd<|Ob h λK h S=>Jt3 [1,2,6] (λj b d=>∃e,b=(5,vi K)::j/\Stp [] f X e d) ?_ ?_
 exact Bk h (λV h=>Jy R<|Js<|Oh h<|Jw1 _ ⟨f,R,Jo3⟩<|KM R) (λV h=>Jx R<|Jm3 1 R<|Je3 R U177 R Z30<|Jc3 R I30 ((Q.stp m).ld 1 R R)<|Jn 1 R<|Ob h λ_ H h=>Jd3 R E H U30 Z2<|Jc3 R I2 ((E.stp<|q.tr m).gInt H)<|Ob h λ_ W h=>Jw3 R call147 (nI (J:=Mk f) W)<|Ki λ_ O _=>Tv<|Jc 1 R<|Oh h<|Jw1 _ ⟨O,R,Fct⟩<|KM R)
 rintro _ _ ⟨N,rfl,_⟩
 exact have h:=S;Jz (Jp<|Jg3 R<|wr2 F g n.len_le ▸ (Ou h o (λo=>Ja2 ⟨N,a+1,K,R,Fct,nxz F,nxm g,o⟩ R)))
 rintro _ _ ⟨P,p,rfl,_,rfl⟩
 exact have h:=yI T;Jp (Jf3 R<|Ju<|Jb2 (l:=[.tmp 4]) results215 (Jq2 R R) R<|Oh h<|⟨P,R,Fct⟩)
end
end Go.Proofs.YtldlmopdhmaceaaGreatDoor
