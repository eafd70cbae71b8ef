/- The walks, part 0. By program. -/
import Derived.Test.YtfombamjdkihnaaGreatFnsMEI
import Derived.Test.YtfombamjdkihnaaGreatAlEI
set_option linter.unusedVariables false
set_option linter.unusedSimpArgs false
open Go.Wk.Ep renaming bool → EQ, own → ER
open Int renaming toNat → ES
open Go.IntKind renaming wrap → ET
open Option.some renaming inj → EU
open Go.Wk.Sl renaming srcP → EV
open Sum renaming inr → EW
namespace Go.Proofs.YtfombamjdkihnaaGreat
open Tryz
open Go Go.Wk Go.Proofs
set_option maxRecDepth 100000
set_option maxHeartbeats 1000000
section
variable {w:World}{J:Col}
theorem z5 {c e}{p0:VI}{p1:Int}(p:Rd (Rp.int .u8) J w 0 c e p0){r:dice}(h:vJ p0 p1=some r):Ret prog 5 [.slice c p0.length e,.int .u64 p1] w (λO a=>∃b A C B,O= .pointer (some ⟨B,0,none⟩)/\Ent J w b a/\Rd (Rp.int .u8) b a 0 A C r.b/\(Bc b a 3 B 52 [.slice A r.b.length C,vi r.i,.int .u64 r.h])):=by
 refine Jp3 J func5 R ntmps5 R λP=>Jf3 R<|Jl3 4 R<|Js3 R U22 R R<|Jf R (Ji2 U3 U26 R R)<|Jn 1 R<|Jf R (Jn4 [.slice c p0.length e,vi 0,.int .u64 (ET .u64 ((ET .u64<|p1 * 7919)+(ET .u64 (p0.length:Int))))] R)<|Jx3 J 2 R λo D m G K=>Tv<|Jb 1 R<|Jq<|Jf3 R<|Ob h λz N L=>Jt3 [5] (λk n a=>∃b q,n=k/\Stp [2] m D b a/\Bc b a 2 o 52 [.slice c p0.length e,vi 0,.int .u64 q]/\z=EW q) (Jv<|Ju3 [0,5] (λg k n a=>∃b f d,n=(6,vi f)::k/\Stp [2] m D b a/\Bc b a 2 o 52 [.slice c p0.length e,vi 0,.int .u64 d]/\0<=f/\ES ((p0.length:Int)-f)=g/\cntM (pv p0) g f d=some z) ⟨_,_,⟨m,0,((ET .u64 ((ET .u64<|p1 * 7919)+(ET .u64 (p0.length:Int)))):Int),R,Jo3,K,(by decide),(by simp),N⟩,(KM R)⟩ ?_) ?_
 rintro g _ _ ⟨i,f,d,rfl,F,u,x,j,h⟩
 rcases g with _|g
 exact Jq<|Jl3 2 R<|Js3 R U22 R R<|Jb 1 R<|Jx2 R (dcf j)<|Jc1<|Jt<|Jt<|Jb1<|Oh h<|Jw1 _ ⟨i,d,R,Fct,u,R⟩<|KM R
 refine Ob h λo5 h M=>Jq<|Jl3 2 R<|Js3 R U22 R R<|Jb 1 R<|Jw2 R (dct j)<|Js<|Jp<|Jq<|Jv<|Xr i [0,2] (some 15) [2,5,8,11,20,23,26,12,17,27,32,35,38,41,44] [46] λ_ t=>Jn 2 R<|Jf R (cM R R)<|Je3 R U52 R Z26<|Jn 2 R<|Ob h λs y h=>Jd3 R p y U22 sizeOf5 (have v:=u.stp t;Jg R (Jd2 isAgg26 R R<|hvC (v.ld 2 R R) R) (Jn 1 R<|Jg R (Jd2 isAgg5 R R<|hvC ((p.stp<|T3 G F t).gInt y) R)<|Jf R (Ji2 runUnderlying5 U26 R R)<|Jn 2 R<|Jf R (cM R R)<|Je3 R U52 R Z26<|Jt1<|Jz3 i 2 (off:=2) (vc:=[.int .u64 (ET .u64 ((ET .u64 ((ET .u64<|d * 1099511628211)+(ET .u64 s)))+3))]) (cs':=[.slice c p0.length e,vi 0,.int .u64 (ET .u64 ((ET .u64 ((ET .u64<|d * 1099511628211)+(ET .u64 s)))+3))]) R Z26 R v R λ_ _ I=>Tv<|Jo<|Jz<|Jp<|Jg3 R<|wr2 x j p.len_le ▸ ?_))
 cases h
 exact Ja2 ⟨i,f+1,((ET .u64 ((ET .u64 ((ET .u64<|d * 1099511628211)+(ET .u64 s)))+3)):Int),R,Fct,I,nxz x,nxm j,M⟩ R
 rintro _ _ ⟨E,q,rfl,_,_,rfl⟩
 exact have h:=yI L;Jp (Jf3 R<|Ju<|Jb2 (l:=[.tmp 4]) results5 (Jq2 R R) R<|Oh h<|⟨(λH=>ren [(2,3)]<|E H),c,e,o,R,Fct,Fct,Fct⟩)
theorem jl {p0:Sig}  {r:Bool}(h:kh p0=some r):Ret prog 33 [.agg #[vi p0.In,vi p0.Out]] w (Pvb J w r):=by
 refine Jp3 J func33 R ntmps33 R λx=>Jj3<|Jx3 J 2 R λ_ t d _ a=>Tv<|Jb 1 R<|Jj3<|Je3 R U28 R Z2<|Jc3 R I2 (a.ld 0 R R)<|Jn 2 R<|Ob h λp h k=>Jk4 [1,2] 10 p d t 4 tv ?_ ?_
 exact Bk h (λo h=>Jn 1 R<|Je4 R<|Jn 2 R<|Oh h<|Jl4 tv R) (λo h=>Je3 R U28 R Z2<|Jc3 R I2 (a.ld 0 R R)<|Jn 2 R<|Oh h<|Jl4 tv R)
 rintro _ v _ ⟨rfl,f,b⟩
 refine Jn 1 R<|Ob k λq h i=>Jk4 [1,2] 15 q f v 4 tv ?_ ?_
 exact Bk h (λm h=>Jn 1 R<|Je4 R<|Jn 2 R<|Oh h<|Jl4 tv R) (λm h=>Je3 R U28 R Z2<|Jc3 R I2 ((a.stp b).ld 1 R R)<|Jn 2 R<|Oh h<|Jl4 tv R)
 rintro _ u _ ⟨rfl,c,g⟩
 refine Jn 1 R<|Ob i λs h j=>Jk4 [2] 20 s c u 4 tv ?_ ?_
 exact Bk h (λn h=>Jn 1 R<|Je4 R<|Jn 2 R<|Oh h<|Jl4 tv R) (λn h=>Je3 R U28 R Z2<|Jc3 R I2 ((a.stp<|b.tr g).ld 1 R R)<|Jn 2 R<|Oh h<|Jl4 tv R)
 rintro _ _ _ ⟨rfl,e,_⟩
 exact have h:=j;Jb 1 R (Ju<|Jb2 (l:=[.tmp 2]) results33 (Jq2 R R) R<|Oh h<|⟨e,R,Fct⟩)
theorem fX {p0:Sig}  {r:Int}(h:dX p0=some r):Ret prog 54 [.agg #[vi p0.In,vi p0.Out]] w (Pvi J w r):=by
 exact Jp3 J func54 R ntmps54 R λd=>Jj3<|Jx3 J 2 R λ_ _ b _ a=>Tv<|Jb 1 R<|Jj3<|Je3 R U28 R Z2<|Jc3 R I2 (a.ld 0 R R)<|Je3 R U28 R Z2<|Jc3 R I2 (a.ld 1 R R)<|Jn 1 R<|Ob h λ_z8 c h=>Jf R (oP R R R<|r8 c)<|Jb 1 R<|Ju<|Jb2 (l:=[.tmp 2]) results54 (Jq2 R R) R<|Oh h<|⟨b,R,Fct⟩
theorem tu {p0:Int}  {r:Bool}(h:oA p0=some r):Ret prog 158 [vi p0] w (Pvb J w r):=by
 refine Jp3 J func158 R ntmps158 R λk=>Jf3 R<|Jl3 3 R<|Ob h λi h c=>Jk4 [0,2] 8 i J w 3 tv ?_ ?_
 exact Bk h (λe h=>Jn 3 R<|Oh h<|Jl4 tv R) (λe h=>Jn 3 R<|Oh h<|Jl4 tv R)
 rintro _ j _ ⟨rfl,a,_⟩
 refine Jn 1 R<|Ob c λg h d=>Jk4 [2] 12 g a j 3 tv ?_ ?_
 exact Bk h (λf h=>Jn 3 R<|Oh h<|Jl4 tv R) (λf h=>Jn 3 R<|Oh h<|Jl4 tv R)
 rintro _ _ _ ⟨rfl,b,_⟩
 exact have h:=d;Jb 1 R (Ju<|Jb2 (l:=[.tmp 2]) results158 (Jq2 R R) R<|Oh h<|⟨b,R,Fct⟩)
theorem dN {j q}{p0:VI}{p1:Int}(f:Rd Ri J w 0 j q p0){r:Int}(h:cH p0 p1=some r):Ret prog 28 [.slice j p0.length q,vi p1] w (Pvi J w r):=by
 refine Jp3 J func28 R ntmps28 R λy=>Jf3 R<|Jq<|Jl3 1 R<|Js3 R U31 R R<|Jb 1 R<|Ob h λp v k=>Jx1 (λe g=>∃i,e=[]/\Stp [] J w i g/\p=EW ()) (Jv<|Ju3 [0,1,7] (λb s e g=>∃i a,e=(8,vi a)::s/\Stp [] J w i g/\0<=a/\ES ((p0.length:Int)-a)=b/\cntM (dM p0 p1) b a ()=some p) ⟨_,_,⟨J,0,R,Jo3,(by decide),(by simp),v⟩,(KM R)⟩ ?_) ?_
 rintro b _ _ ⟨d,a,rfl,u,m,c,h⟩
 rcases b with _|b
 exact Jf3 R<|Jq<|Jx2 R (dcf c)<|Jc1<|Jt<|Jt<|Jb1<|Oh h<|Jw1 _ ⟨d,R,Fct,R⟩ KN
 refine Ob h λz h n=>Jf3 R<|Jq<|Jw2 R (dct c)<|Js<|Jp<|Jq<|Jv<|Jf3 R<|Jl3 3 R<|Ob h λA o h=>Jd3 R f o U31 Z2<|Jc3 R I2 ((f.stp u).gInt o)<|Jb 1 R ?_
 refine Bk h (λx h=>Jy R<|Js<|Jz<|Jp<|Jg3 R<|wr2 m c f.len_le ▸ ?_) (λx h=>Jx R<|Jf3 R<|Ju<|Ja1<|Jw<|Jw ?_)
 cases h
 exact Ja2 ⟨d,a+1,R,Fct,nxz m,nxm c,n⟩ R
 cases h
 obtain rfl:=EU n
 exact have h:=yL k;Ja1 (Jr2<|Jw<|Jb2 (l:=[.tmp 4]) results28 (Jq2 R R) R<|Oh h<|⟨d,R,Fct⟩)
 rintro _ _ ⟨t,rfl,_,rfl⟩
 exact have h:=yI k;Jp (Jf3 R<|Ju<|Jb2 (l:=[.tmp 4]) results28 (Jq2 R R) R<|Oh h<|⟨t,R,Fct⟩)
theorem jd {n u}{p0:(List (Int×Int))}{p1:(Int×Int)}(g:Rd (Rp.pair Ri Ri) J w 0 n u p0){r:Int}(h:df p0 p1=some r):Ret prog 103 [.slice n p0.length u,.agg #[vi p1.1,vi p1.2]] w (Pvi J w r):=by
 refine Jp3 J func103 R ntmps103 R λF=>Jj3<|Jx3 J 2 R λ_ v e z A=>Tv<|Jb 1 R<|Jq<|Jl3 1 R<|Js3 R U92 R R<|Jb 1 R<|Ob h λt C o=>Jx1 (λf i=>∃j,f=[]/\Stp [] e v j i/\t=EW ()) (Jv<|Ju3 [0,3,7] (λb x f i=>∃j a,f=(8,vi a)::x/\Stp [] e v j i/\0<=a/\ES ((p0.length:Int)-a)=b/\cntM (cR p0 p1) b a ()=some t) ⟨_,_,⟨e,0,R,Jo3,(by decide),(by simp),C⟩,(KM R)⟩ ?_) ?_
 rintro b _ _ ⟨c,a,rfl,k,p,d,h⟩
 rcases b with _|b
 exact Jf3 R<|Jq<|Jx2 R (dcf d)<|Jc1<|Jt<|Jt<|Jb1<|Oh h<|Jw1 _ ⟨c,R,Fct,R⟩ KN
 refine Ob h λo5 h q=>Jf3 R<|Jq<|Jw2 R (dct d)<|Js<|Jp<|Jq<|Jv<|Jf3 R<|Jq<|Xn c [0,2] [5,8,11,0,12,17] λ_ m=>Jn 2 R<|Ob h λG s h=>Jd3 R g s U92 Z88<|Jg R (Jh4 (haC (A.stp<|k.tr m).cells R) I88 Z88 R) ?_
 obtain⟨_,D,B⟩:=((g.stp (T3 z k m))).gSt s
 obtain⟨_,_,rfl,rfl,rfl⟩:=D
 refine Jg R (Jh4 (haC B R) I88 Z88 R)<|Jf R (Bd U88 (by kernel_rfl) I2 U2 Z2 R R R)<|Jt1<|Jd ?_
 refine Bk h (λE h=>Jy R<|Js<|Jz<|Jp<|Jg3 R<|wr2 p d g.len_le ▸ ?_) (λE h=>Jx R<|Jf3 R<|Ju<|Ja1<|Jw<|Jw ?_)
 cases h
 exact Ja2 ⟨c,a+1,R,Fct,nxz p,nxm d,q⟩ R
 cases h
 obtain rfl:=EU q
 exact have h:=yL o;Ja1 (Jr2<|Jw<|Jb2 (l:=[.tmp 4]) results103 (Jq2 R R) R<|Oh h<|⟨c,R,Fct⟩)
 rintro _ _ ⟨y,rfl,_,rfl⟩
 exact have h:=yI o;Jp (Jf3 R<|Ju<|Jb2 (l:=[.tmp 4]) results103 (Jq2 R R) R<|Oh h<|⟨y,R,Fct⟩)
theorem fi {b c}{p0:VI}(d:Oc E6 2 J w 2 b c p0){r:VI}(h:cq p0=some r):Ret prog 57 [.slice b p0.length c] w (λn e=>∃(f:Col),n= .tuple #[]/\Ent J w f e/\Oc E6 2 f e 2 b c r/\p0.length=r.length):=by
  unfold cq at h
  split at h
  .rename_i a
   cases h
   exact Cv (λg m i o w j k l=>Tryz.slices_Sort_int g m i o w j k l) d a.1 a.2
  .split at h
   .rename_i a
    cases h
    exact Bp Tryz.slices_Sort_int_none d a
   .cases h
theorem sA {y z s p f e}{p0:Parity}{p1:Int}{p2:Int}{n t}{c:VI}(ai:Oc E6 2 J w 2 y z p0.Arena.Owner) (aj:Oc (Ep.fz Rs) 31 J w 3 s p p0.Arena.Next) (ak:Oc E6 2 J w 4 f e p0.Prio) (al:Rd Ri J w 0 n t c){r:Parity}(h:nB p0 p1 p2 c=some r):Ret prog 108 [.agg #[.slice y p0.Arena.Owner.length z,.slice s p0.Arena.Next.length p,.slice f p0.Prio.length e],vi p1,vi p2,.slice n c.length t] w (λab i=>∃k A D B E C F,ab= .agg #[.slice A r.Arena.Owner.length D,.slice B r.Arena.Next.length E,.slice C r.Prio.length F]/\Ent J w k i/\Oc E6 2 k i 5 A D r.Arena.Owner/\Oc (Ep.fz Rs) 31 k i 6 B E r.Arena.Next/\Oc E6 2 k i 7 C F r.Prio):=by
 exact Jp3 J func108 R ntmps108 R λam=>Jj3<|Jx3 J 5 R λ_ _ I _ U=>Tv<|Jy3 I 6 R X66 R λ_ _ M N _=>Tv<|Jd<|Jj3<|Je3 R U66 R Z62<|Je3 R U62 R Z31<|Jc3 R I31 ((U.stp N).ld 0 R R)<|Jn 1 R<|Ji4 M 7 [p1] R Y31 bG R λaf ae _ H _ P=>Tv<|Ob h λj Y h=>Jd4 H E6 2 [] R Y31 bG R Fct (EV (bO _) P.rdc) bJ Y R λa b _ v _ _=>Tv<|Je3 R U66 R Z62<|Je3 R U62 R Z31<|Jz3 v 5 (off:=0) (vc:=[.slice a j.length b]) (cs':=[.slice a j.length b,.slice s p0.Arena.Next.length p,.slice f p0.Prio.length e]) R Z31 R Fct R λ_ _ Q=>Tv<|Jd<|Jj3<|Je3 R U66 R Z62<|Je3 R U62 R Z32<|Jc3 R I32 (Q.ld 1 R R)<|Jn 1 R<|Jb4 v (Ep.fz<|Rs) 8 [] (parts:=[(0,.tmp 20)]) (cells:=[.slice n c.length t]) (xs:=([c]:VV)) R Y32 bL R (Jj4 ⟨_,_,R,(Sl.z1 Fct)⟩) λah ag _ K _ S=>Tv<|Ob h λu Z h=>Jd4 K (Ep.fz<|Rs) 3 [8] R Y32 bL R Fct S.src (c7 R) Z R λg d _ x _ _=>Tv<|Je3 R U66 R Z62<|Je3 R U62 R Z32<|Jz3 x 5 (off:=1) (vc:=[.slice g u.length d]) (cs':=[.slice a j.length b,.slice g u.length d,.slice f p0.Prio.length e]) R Z32 R Fct R λ_ _ T=>Tv<|Jd<|Jj3<|Je3 R U66 R Z31<|Jc3 R I31 (T.ld 2 R R)<|Jn 1 R<|Ji4 x 9 [p2] R Y31 bG R λac ad _ L _ V=>Tv<|Ob h λG aa h=>Jd4 L E6 4 [] R Y31 bG R Fct (EV (bO _) V.rdc) bJ aa R λo q _ m _ _=>Tv<|Je3 R U66 R Z31<|Jz3 m 5 (off:=2) (vc:=[.slice o G.length q]) (cs':=[.slice a j.length b,.slice g u.length d,.slice o G.length q]) R Z31 R Fct R λ_ _ W=>Tv<|Jd<|Jj3<|Jg4 tv R (Jh4 (haE W.cells) I66 Z66 R)<|Jm4 m 6 R Z66 R Fct R λ_ _ X=>Tv<|Jd<|Ju<|Jb2 (l:=[.cell 8 66]) results108 (bM R X I66 Z66 R R) R<|Oh h<|⟨(λO=>ren [(2,5),(3,6),(4,7)]<|m O),a,b,g,d,o,q,R,Fct,Fct,Fct,Fct⟩
theorem rH {c a b d}{p0:Arena}(g:Rd Ri J w 0 c a p0.Owner) (i:Rd Rs J w 0 b d p0.Next){r:Int}(h:oG p0=some r):Ret prog 114 [.agg #[.slice c p0.Owner.length a,.slice b p0.Next.length d]] w (Pvi J w r):=by
 unfold oG at h
 exact Jp3 J func114 R ntmps114 R λj=>Jj3<|Jx3 J 2 R λ_ _ e _ f=>Tv<|Jb 1 R<|Jj3<|Je3 R U62 R Z31<|Jc3 R I31 (f.ld 0 R R)<|Js3 R U31 R R<|Jb 1 R<|Ju<|Jb2 (l:=[.tmp 2]) results114 (Jq2 R R) R<|Oh h<|⟨e,R,Fct⟩
theorem iq {x C}{p0:VB}(u:Rd Rp.bool J w 0 x C p0){r:VI}(h:iI p0=some r):Ret prog 112 [.slice x p0.length C] w (Pvs E6 2 J w r):=by
 refine Jp3 J func112 R ntmps112 R λae=>Jf3 R<|Jj3<|Jc4 J E6 2 R Y31 bG R λL aa D t K T=>Tv<|Jb 1 R<|Jq<|Jl3 1 R<|Js3 R U129 R R<|Jb 1 R<|Ob h λB X V=>Jx1 (λd a=>∃b,∃q:VI,∃n k,d=[(3,.slice n q.length k)]/\Stp [2] t D b a/\Oc E6 2 b a 2 n k q/\B=EW q) (Jv<|Ju3 [7,8] (λg s d a=>∃b c,∃i:VI,∃f e,d=(3,.slice f i.length e)::(9,vi c)::s/\Stp [2] t D b a/\Oc E6 2 b a 2 f e i/\0<=c/\ES ((p0.length:Int)-c)=g/\cntM (lT p0) g c i=some B) ⟨_,_,⟨t,0,([]:VI),L,aa,R,Jo3,T,(by decide),(by simp),X⟩,(KM R)⟩ ?_) ?_
 rintro g _ ab ⟨j,c,i,f,e,rfl,I,y,z,p,h⟩
 rcases g with _|g
 exact Jf3 R<|Jq<|Jx2 R (dcf p)<|Jc1<|Jt<|Jt<|Jb1<|Oh h<|Jw1 _ ⟨j,i,f,e,R,Fct,y,R⟩<|KM R
 refine Ob h λo5 h W=>Jf3 R<|Jq<|Jw2 R (dct p)<|Js<|Jp<|Jq<|Jv<|Jl3 1 R<|Ob h λaf A h=>Jd3 R u A U129 Z4<|Jc3 R I4 ((u.stp<|K.tr I).gBool A)<|Jb 2 R<|Jf3 R<|Ob h λv h U=>Jt3 [7,8,9] (λs d a=>∃b m o,d=(3,.slice m v.length o)::s/\Stp [2] j ab b a/\Oc E6 2 b a 2 m o v) ?_ ?_
 exact Bk h (λY h=>Jy R<|Js<|Oh h<|Jw1 _ ⟨j,f,e,R,Jo3,y⟩<|KM R) (λY h=>Jx R<|Jm3 2 R<|Ji4 j 3 [c] R Y31 bG R λac ad _ F _ Q=>Tv<|Ob h λ_ Z h=>Jd4 F E6 2 [] R Y31 bG R Fct (EV (bO _) Q.rdc) bJ Z R λN M _ G _ S=>Tv<|Jc 1 R<|Oh h<|Jw1 _ ⟨G,N,M,R,Fct,S⟩<|KM R)
 rintro _ _ ⟨E,m,o,rfl,_,P⟩
 refine have h:=U;Jz (Jp<|Jg3 R<|wr2 z p u.len_le ▸ ?_)
 cases h
 exact Ja2 ⟨E,c+1,v,m,o,R,Fct,P,nxz z,nxm p,W⟩ R
 rintro _ _ ⟨H,q,n,k,rfl,_,O,rfl⟩
 exact have h:=yI V;Jp (Jf3 R<|Ju<|Jb2 (l:=[.tmp 2]) results112 (Jq2 R R) R<|Oh h<|⟨H,n,k,R,Fct,O⟩)
theorem xl {u t x v}{p0:Arena}(U:Rd Ri J w 0 u t p0.Owner) (V:Rd Rs J w 0 x v p0.Next){r:VI}(h:qG p0=some r):Ret prog 70 [.agg #[.slice u p0.Owner.length t,.slice x p0.Next.length v]] w (Pvs E6 2 J w r):=by
 refine Jp3 J func70 R ntmps70 R λW=>Jj3<|Jx3 J 2 R λ_ _ G _ L=>Tv<|Jb 1 R<|Jj3<|Je3 R U62 R Z31<|Jc3 R I31 (L.ld 0 R R)<|Js3 R U31 R R<|Ob h λf T h=>Jl1 (J:=G) (E:=E6) (z:=(0:Int)) 3 R R R R R R R Y31 bG R R R R R (λ_ _ _=>R) (Jv2 T) λn q D k _ y=>Tv<|Jb 1 R<|Jq<|Jl3 1 R<|Js3 R U31 R R<|Jb 1 R<|Ob h λC Q M=>Jt3 [3] (λb m e=>∃g,∃j:VI,m=b/\Stp [3] k D g e/\Oc E6 2 g e 3 n q j/\f.length=j.length/\C=EW j) (Jv<|Ju3 [3,10] (λc b m e=>∃g a,∃d:VI,m=(11,vi a)::b/\Stp [3] k D g e/\Oc E6 2 g e 3 n q d/\f.length=d.length/\0<=a/\ES ((f.length:Int)-a)=c/\cntM oF c a d=some C) ⟨_,_,⟨k,0,f,R,Jo3,y,R,(by decide),(by simp),Q⟩,(KM R)⟩ ?_) ?_
 rintro c _ _ ⟨s,a,d,rfl,_,o,p,A,i,h⟩
 rcases c with _|c
 exact Jf3 R<|Jq<|Jx2 R (dcf i)<|Jc1<|Jt<|Jt<|Jb1<|Oh h<|Jw1 _ ⟨s,d,R,Fct,o,p,R⟩<|KM R
 refine Ob h λX h N=>Jf3 R<|Jq<|Jw2 R (dct i)<|Js<|Jp<|Jq<|Jv<|Jf3 R<|Jm3 2 R<|Ob h λ_ S h=>Jf R (Jg2 o.rdc S U31 Z2 R R p R) (Ob h λE B h=>Jk1 (J:=s) (E:=E6) 3 [] R R R R R R R R Z2 R R R R o B λ_ H _ K=>Tv<|have P:f.length=E.length:=p.trans (Ju2 B).2.2.2.symm;Jo (Jz<|Jp<|Jg3 R<|wr2 A i y.len_le ▸ ?_))
 cases h
 exact Ja2 ⟨H,a+1,E,R,Fct,K,P,nxz A,nxm i,N⟩ R
 rintro _ _ ⟨F,j,rfl,_,_,O,rfl⟩
 exact have h:=yI M;Jp (Jf3 R<|Ju<|Jb2 (l:=[.tmp 2]) results70 (Jq2 R R) R<|Oh h<|⟨(λI=>ren [(3,2)]<|F I),n,q,(by simp only[O]),Fct,Fct⟩)
theorem uw {A z C B}{p0:Answer}{p1:Int}(u:Rd Ri J w 0 A z p0.Won) (ak:Rd Ri J w 0 C B p0.Plan){r:VI}(h:nq p0 p1=some r):Ret prog 116 [.agg #[.slice A p0.Won.length z,.slice C p0.Plan.length B],vi p1] w (Pvs E6 2 J w r):=by
 refine Jp3 J func116 R ntmps116 R λal=>Jj3<|Jx3 J 2 R λ_ _ x P E=>Tv<|Jb 1 R<|Jq<|Jj3<|Je3 R U73 R Z31<|Jc3 R I31 (E.ld 0 R R)<|Js3 R U31 R R<|Jb 1 R ?_
 refine Bk h (λaf h=>Jy R<|Js<|Jp<|Jj3<|Jc4 x E6 3 R Y31 bG R λT Q I t y W=>Tv<|Jb 1 R<|Jq<|Jj3<|Je3 R U73 R Z31<|Jc3 R I31 ((E.stp y).ld 0 R R)<|Js3 R U31 R R<|Jb 1 R<|Ob h λH ad aa=>Jx1 (λd a=>∃b,∃q:VI,∃n k,d=[(5,.slice n q.length k)]/\Stp [3] t I b a/\Oc E6 2 b a 3 n k q/\H=EW q) (Jv<|Ju3 [1,14,15] (λg s d a=>∃b c,∃i:VI,∃f e,d=(5,.slice f i.length e)::(16,vi c)::s/\Stp [3] t I b a/\Oc E6 2 b a 3 f e i/\0<=c/\ES ((p0.Won.length:Int)-c)=g/\cntM (jB p0 p1) g c i=some H) ⟨_,_,⟨t,0,([]:VI),T,Q,R,Jo3,W,(by decide),(by simp),ad⟩,(KM R)⟩ ?_) ?_) (λaf h=>Jx R<|Jf3 R<|Ju<|Jw<|Jb2 (l:=[.tmp 4]) results116 (Jq2 R R) R<|Oh h<|⟨x,none,0,R,Fct,Ow.nil⟩)
 rintro g _ ah ⟨j,c,i,f,e,rfl,O,D,F,p,h⟩
 rcases g with _|g
 exact Jf3 R<|Jq<|Jx2 R (dcf p)<|Jc1<|Jt<|Jt<|Jb1<|Oh h<|Jw1 _ ⟨j,i,f,e,R,Fct,D,R⟩<|KM R
 refine Ob h λam h ac=>Jf3 R<|Jq<|Jw2 R (dct p)<|Js<|Jp<|Jq<|Jv<|Jl3 1 R<|Ob h λan G h=>Jd3 R u G U31 Z2<|Jc3 R I2 ((u.stp<|T3 P y O).gInt G)<|Jb 2 R<|Jf3 R<|Ob h λv h ab=>Jt3 [1,14,15,16] (λs d a=>∃b m o,d=(5,.slice m v.length o)::s/\Stp [3] j ah b a/\Oc E6 2 b a 3 m o v) ?_ ?_
 exact Bk h (λae h=>Jy R<|Js<|Oh h<|Jw1 _ ⟨j,f,e,R,Jo3,D⟩<|KM R) (λae h=>Jx R<|Jm3 2 R<|Ji4 j 4 [c] R Y31 bG R λai aj _ M _ Y=>Tv<|Ob h λ_ ag h=>Jd4 M E6 3 [] R Y31 bG R Fct (EV (bO _) Y.rdc) bJ ag R λS U _ N _ Z=>Tv<|Jc 1 R<|Oh h<|Jw1 _ ⟨N,S,U,R,Fct,Z⟩<|KM R)
 rintro _ _ ⟨L,m,o,rfl,_,X⟩
 refine have h:=ab;Jz (Jp<|Jg3 R<|wr2 F p u.len_le ▸ ?_)
 cases h
 exact Ja2 ⟨L,c+1,v,m,o,R,Fct,X,nxz F,nxm p,ac⟩ R
 rintro _ _ ⟨K,q,n,k,rfl,_,_,rfl⟩
 exact have h:=yI aa;Jp (Jf3 R<|Ju<|Jb2 (l:=[.tmp 4]) results116 (Jq2 R R) R<|Oh h<|⟨(λV=>ren [(3,2)]<|K V),n,k,R,Fct,Fct⟩)
theorem tq {s x}{p0:VV}(p:Rd Rs J w 0 s x p0){r:VV}(h:oz p0=some r):Ret prog 220 [.slice s p0.length x] w (Pvs (ER E6 2) 31 J w r):=by
 refine Jp3 J func220 R ntmps220 R λai=>Jf3 R<|Jj3<|Jc4 J (ER E6 2) 2 R Y32 bL R λI ac y n H V=>Tv<|Jb 1 R<|Jq<|Jl3 1 R<|Js3 R U32 R R<|Jb 1 R<|Ob h λv Z W=>Jx1 (λo d=>∃e,∃m:VV,∃j f,o=[(3,.slice j m.length f)]/\Stp [2,3,4] n y e d/\Oc (ER E6 2) 31 e d 2 j f m/\v=EW m) (Jv<|Ju3 [7,8] (λb A o d=>∃e a,∃c:VV,∃i g,o=(3,.slice i c.length g)::(9,vi a)::A/\Stp [2,3,4] n y e d/\Oc (ER E6 2) 31 e d 2 i g c/\0<=a/\ES ((p0.length:Int)-a)=b/\cntM (iE p0) b a c=some v) ⟨_,_,⟨n,0,([]:VV),I,ac,R,Jo3,V,(by decide),(by simp),Z⟩,(KM R)⟩ ?_) ?_
 rintro b _ _ ⟨q,a,c,i,g,rfl,G,P,t,k,h⟩
 rcases b with _|b
 exact Jf3 R<|Jq<|Jx2 R (dcf k)<|Jc1<|Jt<|Jt<|Jb1<|Oh h<|Jw1 _ ⟨q,c,i,g,R,Fct,P,R⟩<|KM R
 refine Ob h λo5 h X=>Jf3 R<|Jq<|Jw2 R (dct k)<|Js<|Jp<|Jq<|Jv<|Jj3<|Ob h λ_ u h=>Jd3 R p u U32 Z31 ?_
 obtain⟨_,_,_,Y⟩:=(p.stp (H.tr G)).gSl u
 refine Jc3 R I31 Y<|Jb 1 R<|Jm3 1 R<|Jc4 q E6 3 R Y31 bG R λae ag _ B _ Q=>Tv<|Jn 1 R<|Ob h λz aa h=>Jd4 B E6 3 [] R Y31 bG R Q (EV (bO _) Fct) bJ aa R λL M _ C _ S=>Tv<|Jb4 C (ER E6 2) 4 [3] (parts:=[(0,.tmp 16)]) (cells:=[.slice L z.length M]) (xs:=([z]:VV)) R Y32 bL R (Jj4 ⟨_,_,R,S⟩) λaf ah _ D _ T=>Tv<|Ob h λad ab h=>Jd4 D (ER E6 2) 2 [4] R Y32 bL R Fct T.src (c7 R) ab R λN K _ E _ U=>Tv<|Jc 1 R<|Jz<|Jp<|Jg3 R<|wr2 t k p.len_le ▸ ?_
 cases h
 exact Ja2 ⟨E,a+1,ad,N,K,R,Fct,U,nxz t,nxm k,X⟩ R
 rintro _ _ ⟨F,m,j,f,rfl,_,O,rfl⟩
 exact have h:=yI W;Jp (Jf3 R<|Ju<|Jb2 (l:=[.tmp 2]) results220 (Jq2 R R) R<|Oh h<|⟨F,j,f,R,Fct,O⟩)
theorem eD {p0:Int}  {r:Int}(h:eC p0=some r):Ret prog 94 [vi p0] w (Pvi J w r):=by
 refine Jp3 J func94 R ntmps94 R λp=>Jf3 R<|Jf3 R<|Jq<|Ob h λj n m=>Jx1 (λc e=>∃f,∃d:Int×Int,c=[(3,vi d.2)]/\Stp [] J w f e/\j=EW d) (Jv<|Jy1 (λb c e=>∃f,∃a:Int×Int,c=[(0,vi a.1),(3,vi a.2)]/\Stp [] J w f e/\bQ gY b a=some j) ⟨_,_,⟨J,(p0,(1:Int)),R,Jo3,n⟩,(KM R)⟩ ?_) ?_
 rintro b _ _ ⟨g,a,rfl,_,h⟩
 rcases b with _|b
 cases h
 refine Ob h λ_ h i=>Jq<|Jf3 R ?_
 refine Bk h (λo h=>Jy R<|Jc1<|Jt<|Jt ?_) (λo h=>Jx R<|Js<|Jp<|Jq<|Jv<|Jg3 R<|Jz<|Jp<|Jg3 R ?_)
 cases h
 exact have h:=i;Jb1 (Oh h<|Jw1 _ ⟨g,(a.1,a.2),R,Fct,R⟩<|KM R)
 cases h
 exact Ja2 ⟨g,(((ET .i64<|a.1-1):Int),((ET .i64<|a.2 * 2):Int)),R,Fct,i⟩ R
 rintro _ _ ⟨k,d,rfl,_,rfl⟩
 exact have h:=yI m;Jp (Jf3 R<|Ju<|Jb2 (l:=[.tmp 2]) results94 (Jq2 R R) R<|Oh h<|⟨k,R,Fct⟩)
theorem ul {p0:Int}  {r:Int}(h:j6 p0=some r):Ret prog 149 [vi p0] w (Pvi J w r):=by
 unfold j6 at h
 refine Jp3 J func149 R ntmps149 R λa=>Jf3 R<|Jq<|Jf3 R<|Jv<|Jf3 R ?_
 refine Bk h (λb h=>Jy R<|Jf3 R ?_) (λb h=>Jx R<|Jf3 R<|Ju<|Ja1<|Jw<|Jb2 (l:=[.tmp 2]) results149 (Jq2 R R) R<|Oh h<|⟨J,R,a⟩)
 exact Bk h (λc h=>Jy R<|Js<|Jz<|Jp<|Jf3 R<|Ju<|Jb2 (l:=[.tmp 2]) results149 (Jq2 R R) R<|Oh h<|⟨J,R,a⟩) (λc h=>Jx R<|Jf3 R<|Ju<|Ja1<|Jw<|Jb2 (l:=[.tmp 2]) results149 (Jq2 R R) R<|Oh h<|⟨J,R,a⟩)
theorem dP {j q}{p0:VI}{p1:Int}(f:Rd Ri J w 0 j q p0){r:Bool}(h:ee p0 p1=some r):Ret prog 99 [.slice j p0.length q,vi p1] w (Pvb J w r):=by
 refine Jp3 J func99 R ntmps99 R λy=>Jf3 R<|Jq<|Jf3 R<|Ob h λp v k=>Jx1 (λe g=>∃i,e=[]/\Stp [] J w i g/\p=EW ()) (Jv<|Ju3 [0,1] (λb s e g=>∃i a,e=(5,vi a)::s/\Stp [] J w i g/\0<=a/\ES ((p0.length:Int)-a)=b/\cntM (jq p0 p1) b a ()=some p) ⟨_,_,⟨J,0,R,Jo3,(by decide),(by simp),v⟩,(KM R)⟩ ?_) ?_
 rintro b _ _ ⟨d,a,rfl,u,m,c,h⟩
 rcases b with _|b
 exact Jq<|Jl3 2 R<|Js3 R U31 R R<|Jb 1 R<|Jx2 R (dcf c)<|Jc1<|Jt<|Jt<|Jb1<|Oh h<|Jw1 _ ⟨d,R,Fct,R⟩ KN
 refine Ob h λz h n=>Jq<|Jl3 2 R<|Js3 R U31 R R<|Jb 1 R<|Jw2 R (dct c)<|Js<|Jp<|Jq<|Jv<|Jl3 2 R<|Ob h λA o h=>Jd3 R f o U31 Z2<|Jc3 R I2 ((f.stp u).gInt o)<|Jb 2 R ?_
 refine Bk h (λx h=>Jy R<|Js<|Jz<|Jp<|Jg3 R<|wr2 m c f.len_le ▸ ?_) (λx h=>Jx R<|Jf3 R<|Ju<|Ja1<|Jw<|Jw ?_)
 cases h
 exact Ja2 ⟨d,a+1,R,Fct,nxz m,nxm c,n⟩ R
 cases h
 obtain rfl:=EU n
 exact have h:=yL k;Ja1 (Jr2<|Jw<|Jb2 (l:=[.tmp 4]) results99 (Jq2 R R) R<|Oh h<|⟨d,R,Fct⟩)
 rintro _ _ ⟨t,rfl,_,rfl⟩
 exact have h:=yI k;Jp (Jf3 R<|Ju<|Jb2 (l:=[.tmp 4]) results99 (Jq2 R R) R<|Oh h<|⟨t,R,Fct⟩)
theorem mn {p0:Bool}  {r:Int}(h:gp p0=some r):Ret prog 180 [.bool p0] w (Pvi J w r):=by
 unfold gp at h
 refine Jp3 J func180 R ntmps180 R λa=>Jf3 R<|Jq<|Jf3 R ?_
 exact Bk h (λb h=>Jy R<|Js<|Jp<|Jf3 R<|Ju<|Jb2 (l:=[.tmp 2]) results180 (Jq2 R R) R<|Oh h<|⟨J,R,a⟩) (λb h=>Jx R<|Jf3 R<|Ju<|Jw<|Jb2 (l:=[.tmp 2]) results180 (Jq2 R R) R<|Oh h<|⟨J,R,a⟩)
theorem nW {p0:Int}{p1:Int}  {r:Int}(h:kF p0 p1=some r):Ret prog 194 [vi p0,vi p1] w (Pvi J w r):=by
 unfold kF at h
 refine Jp3 J func194 R ntmps194 R λa=>Jf3 R<|Jq<|Jf3 R ?_
 exact Bk h (λb h=>Jy R<|Js<|Jp<|Jf3 R<|Ju<|Jb2 (l:=[.tmp 4]) results194 (Jq2 R R) R<|Oh h<|⟨J,R,a⟩) (λb h=>Jx R<|Jf3 R<|Ju<|Jw<|Jb2 (l:=[.tmp 4]) results194 (Jq2 R R) R<|Oh h<|⟨J,R,a⟩)
theorem oX {j q}{p0:VI}{p1:Int}(f:Rd Ri J w 0 j q p0){r:Bool}(h:m6 p0 p1=some r):Ret prog 183 [.slice j p0.length q,vi p1] w (Pvb J w r):=by
 refine Jp3 J func183 R ntmps183 R λy=>Jf3 R<|Jq<|Jf3 R<|Ob h λp v k=>Jx1 (λe g=>∃i,e=[]/\Stp [] J w i g/\p=EW ()) (Jv<|Ju3 [0,1] (λb s e g=>∃i a,e=(5,vi a)::s/\Stp [] J w i g/\0<=a/\ES ((p0.length:Int)-a)=b/\cntM (mj p0 p1) b a ()=some p) ⟨_,_,⟨J,0,R,Jo3,(by decide),(by simp),v⟩,(KM R)⟩ ?_) ?_
 rintro b _ _ ⟨d,a,rfl,u,m,c,h⟩
 rcases b with _|b
 exact Jq<|Jl3 2 R<|Js3 R U31 R R<|Jb 1 R<|Jx2 R (dcf c)<|Jc1<|Jt<|Jt<|Jb1<|Oh h<|Jw1 _ ⟨d,R,Fct,R⟩ KN
 refine Ob h λz h n=>Jq<|Jl3 2 R<|Js3 R U31 R R<|Jb 1 R<|Jw2 R (dct c)<|Js<|Jp<|Jq<|Jv<|Jl3 2 R<|Ob h λA o h=>Jd3 R f o U31 Z2<|Jc3 R I2 ((f.stp u).gInt o)<|Jb 2 R ?_
 refine Bk h (λx h=>Jy R<|Js<|Jz<|Jp<|Jg3 R<|wr2 m c f.len_le ▸ ?_) (λx h=>Jx R<|Jf3 R<|Ju<|Ja1<|Jw<|Jw ?_)
 cases h
 exact Ja2 ⟨d,a+1,R,Fct,nxz m,nxm c,n⟩ R
 cases h
 obtain rfl:=EU n
 exact have h:=yL k;Ja1 (Jr2<|Jw<|Jb2 (l:=[.tmp 4]) results183 (Jq2 R R) R<|Oh h<|⟨d,R,Fct⟩)
 rintro _ _ ⟨t,rfl,_,rfl⟩
 exact have h:=yI k;Jp (Jf3 R<|Ju<|Jb2 (l:=[.tmp 4]) results183 (Jq2 R R) R<|Oh h<|⟨t,R,Fct⟩)
theorem rQ {m x}{p0:VI}{n y}{p1:VI}(f:Rd Ri J w 0 m x p0) (o:Rd Ri J w 0 n y p1){r:Bool}(h:jQ p0 p1=some r):Ret prog 184 [.slice m p0.length x,.slice n p1.length y] w (Pvb J w r):=by
 refine Jp3 J func184 R ntmps184 R λB=>Jf3 R<|Jq<|Jl3 1 R<|Js3 R U31 R R<|Jn 1 R<|Js3 R U31 R R<|Jb 1 R ?_
 refine Bk h (λD h=>Jy R<|Js<|Jp<|Jq<|Jf3 R<|Ob h λv C p=>Jx1 (λe g=>∃i,e=[]/\Stp [] J w i g/\v=EW ()) (Jv<|Ju3 [0,1] (λb z e g=>∃i a,e=(5,vi a)::z/\Stp [] J w i g/\0<=a/\ES ((p0.length:Int)-a)=b/\cntM (gC p0 p1) b a ()=some v) ⟨_,_,⟨J,0,R,Jo3,(by decide),(by simp),C⟩,(KM R)⟩ ?_) ?_) (λD h=>Jx R<|Jf3 R<|Ju<|Jw<|Jb2 (l:=[.tmp 4]) results184 (Jq2 R R) R<|Oh h<|⟨J,R,B⟩)
 rintro b _ _ ⟨c,a,rfl,j,q,d,h⟩
 rcases b with _|b
 exact Jq<|Jl3 2 R<|Js3 R U31 R R<|Jb 1 R<|Jx2 R (dcf d)<|Jc1<|Jt<|Jt<|Jb1<|Oh h<|Jw1 _ ⟨c,R,Fct,R⟩ KN
 refine Ob h λF h s=>Jq<|Jl3 2 R<|Js3 R U31 R R<|Jb 1 R<|Jw2 R (dct d)<|Js<|Jp<|Jq<|Jv<|Jq<|Xn c [0] [2,5,8,14,17,20,9,21,26] λ_ k=>Jn 2 R<|Ob h λG t h=>Jd3 R f t U31 Z2<|Jn 2 R<|Ob h λH u h=>Jd3 R o u U31 Z2<|Jg R (Jd2 I2 R R<|hvC ((f.stp<|j.tr k).gInt t) R)<|Jg R (Jd2 I2 R R<|hvC ((o.stp<|j.tr k).gInt u) R)<|Jn 1 R<|Jt1<|Jd ?_
 refine Bk h (λE h=>Jy R<|Js<|Jz<|Jp<|Jg3 R<|wr2 q d f.len_le ▸ ?_) (λE h=>Jx R<|Jf3 R<|Ju<|Ja1<|Jw<|Jw ?_)
 cases h
 exact Ja2 ⟨c,a+1,R,Fct,nxz q,nxm d,s⟩ R
 cases h
 obtain rfl:=EU s
 exact have h:=yL p;Ja1 (Jr2<|Jw<|Jb2 (l:=[.tmp 4]) results184 (Jq2 R R) R<|Oh h<|⟨c,R,Fct⟩)
 rintro _ _ ⟨A,rfl,_,rfl⟩
 exact have h:=yI p;Jp (Jf3 R<|Ju<|Jb2 (l:=[.tmp 4]) results184 (Jq2 R R) R<|Oh h<|⟨A,R,Fct⟩)
theorem uh {p0:Int}  {r:VI}(h:nL p0=some r):Ret prog 49 [vi p0] w (Pvs E6 2 J w r):=by
 refine Jp3 J func49 R ntmps49 R λT=>Jf3 R<|Jj3<|Jc4 J E6 2 R Y31 bG R λy N q k _ E=>Tv<|Jb 1 R<|Jq<|Jf3 R<|Ob h λp H G=>Jx1 (λm b=>∃c,∃j:VI×Int,∃g d,m=[(3,.slice g j.1.length d)]/\Stp [2] k q c b/\Oc E6 2 c b 2 g d j.1/\p=EW j) (Jv<|Ju3 [0] (λi s m b=>∃c,∃a:VI×Int,∃f e,m=(3,.slice f a.1.length e)::(4,vi a.2)::s/\Stp [2] k q c b/\Oc E6 2 c b 2 f e a.1/\bQ (jn p0) i a=some p) ⟨_,_,⟨k,(([]:VI),(0:Int)),y,N,R,Jo3,E,H⟩,(KM R)⟩ ?_) ?_
 rintro i _ O ⟨t,a,f,e,rfl,_,_,h⟩
 rcases i with _|i
 cases h
 refine Ob h λ_ h o=>Jq<|Jl3 4 R<|Ob h λM h F=>Jk4 [0,3,4] 12 M t O 3 tv ?_ ?_
 exact Bk h (λI h=>Jn 3 R<|Oh h<|Jl4 tv R) (λI h=>Jn 3 R<|Oh h<|Jl4 tv R)
 rintro _ _ _ ⟨rfl,n,_⟩
 refine have h:=F;Jd ?_
 refine Bk h (λK h=>Jy R<|Jc1<|Jt<|Jt ?_) (λK h=>Jx R<|Js<|Jp<|Jq<|Jv<|Jm3 2 R<|Ji4 n 3 [a.2] R Y31 bG R λQ S _ u _ C=>Tv<|Ob h λP L h=>Jd4 u E6 2 [] R Y31 bG R Fct (EV (bO _) C.rdc) bJ L R λA z _ v _ D=>Tv<|Jc 1 R<|Jz<|Jp<|Jg3 R ?_)
 cases h
 exact have h:=o;Jb1 (Oh h<|Jw1 _ ⟨n,(a.1,a.2),f,e,R,Fct,Fct,R⟩<|KM R)
 cases h
 exact Ja2 ⟨v,(P,((ET .i64<|a.2+1):Int)),A,z,R,Fct,D,o⟩ R
 rintro _ _ ⟨x,j,g,d,rfl,_,B,rfl⟩
 exact have h:=yI G;Jp (Jf3 R<|Ju<|Jb2 (l:=[.tmp 2]) results49 (Jq2 R R) R<|Oh h<|⟨x,g,d,R,Fct,B⟩)
theorem rU {p q o k n m}{p0:Parity}(cN:Rd Ri J w 0 p q p0.Arena.Owner) (bc:Rd Rs J w 0 o k p0.Arena.Next) (cq:Rd Ri J w 0 n m p0.Prio){r:l7Game}(h:rT p0=some r):Ret prog 187 [.agg #[.slice p p0.Arena.Owner.length q,.slice o p0.Arena.Next.length k,.slice n p0.Prio.length m]] w (λcK a=>∃b bm br bn bs bo bt bp bu bq bv,cK= .agg #[.slice bm r.owner.length br,.slice bn r.prio.length bs,.slice bo r.next.length bt,.slice bp r.prev.length bu,.slice bq r.pick.length bv]/\Ent J w b a/\Rd Ri b a 0 bm br r.owner/\Rd Ri b a 0 bn bs r.prio/\Rd Rs b a 0 bo bt r.next/\Oc (ER E6 2) 31 b a 5 bp bu r.prev/\Oc E6 2 b a 6 bq bv r.pick):=by
 refine Jp3 J func187 R ntmps187 R λcO=>Jj3<|Jx3 J 2 R λ_ _ bF b2 co=>Tv<|Jy3 bF 3 R X204 R λ_ cM Q aZ _=>Tv<|Jd<|Jj3<|Je3 R U66 R Z31 (have aD:=co.stp aZ;Jc3 R I31 (aD.ld 2 R R) (Js3 R U31 R R<|Jb 1 R<|Jq<|Ob h λc S h=>Ob h λd T h=>Jt3 [1,2,3] (λe t a=>∃b s ac af ag ab ad ae C B K L,t=(4,.pointer (some ⟨s,0,none⟩))::e/\Stp [4,5,6] Q cM b a/\Rd Ri b a 0 ac af ((⟨p0.Arena.Owner,p0.Prio,p0.Arena.Next,c,d⟩:l7Game).owner)/\Rd Ri b a 0 ag ab ((⟨p0.Arena.Owner,p0.Prio,p0.Arena.Next,c,d⟩:l7Game).prio)/\Rd Rs b a 0 ad ae ((⟨p0.Arena.Owner,p0.Prio,p0.Arena.Next,c,d⟩:l7Game).next)/\Oc (ER E6 2) 31 b a 4 C B ((⟨p0.Arena.Owner,p0.Prio,p0.Arena.Next,c,d⟩:l7Game).prev)/\Oc E6 2 b a 5 K L ((⟨p0.Arena.Owner,p0.Prio,p0.Arena.Next,c,d⟩:l7Game).pick)/\Bc b a 6 s 204 [.slice ac ((⟨p0.Arena.Owner,p0.Prio,p0.Arena.Next,c,d⟩:l7Game).owner).length af,.slice ag ((⟨p0.Arena.Owner,p0.Prio,p0.Arena.Next,c,d⟩:l7Game).prio).length ab,.slice ad ((⟨p0.Arena.Owner,p0.Prio,p0.Arena.Next,c,d⟩:l7Game).next).length ae,.slice C ((⟨p0.Arena.Owner,p0.Prio,p0.Arena.Next,c,d⟩:l7Game).prev).length B,.slice K ((⟨p0.Arena.Owner,p0.Prio,p0.Arena.Next,c,d⟩:l7Game).pick).length L]) (WC.rxt (J:=Q) [2] none (by kernel_rfl) λ_ I=>Jq1 (fuel:=5) [(0,2),(1,2),(3,2),(5,2),(6,2),(8,2),(10,2),(2,0),(4,0),(7,0)] (by kernel_rfl) (by kernel_rfl) R<|Je3 R U66 R Z62<|Je3 R U62 R Z31<|Je3 R U66 R Z31<|Je3 R U66 R Z62<|Je3 R U62 R Z32<|Jn 2 R (have aC:=aD.stp I;Jg R (Jd2 I31 R R<|hvC (aC.ld 0 R R) R) (Jg R (Jd2 I31 R R<|hvC (aC.ld 2 R R) R)<|Jg R (Jd2 I32 R R<|hvC (aC.ld 1 R R) R)<|Jp1<|WA.fork3 (fuel:=4) 9 11 13 (by kernel_rfl) R (Jl1 (J:=Q) (E:=(ER E6 2)) (z:=([]:VI)) 4 R R R R R R R Y32 bL R R R R R (λ_ _ _=>⟨none,0,R,Ow.nil⟩) (Jv2 S) λi f _ aL F _=>⟨(F.cl R),Jp1<|WA.fork2 (fuel:=3) 11 13 (by kernel_rfl) R (Jl1 (J:=aL) (E:=E6) (z:=(0:Int)) 5 R R R R R R R Y31 bG R R R R R (λ_ _ _=>R) (Jv2 T) λj g _ bU av _=>⟨((F.tr av).cl R),Jp1<|Jq1 (fuel:=0) [(12,2),(13,1),(14,1)] (by kernel_rfl) (by kernel_rfl) R<|Jf R (Jn4 [.slice p p0.Arena.Owner.length q,.slice n p0.Prio.length m,.slice o p0.Arena.Next.length k,.slice i c.length f,.slice j d.length g] R)<|Jy3 bU 6 R X204 R λs _ aM aX cm=>⟨((T3 F av aX).cl R),Jm4 aM 6 R Z204 R cm R λ_ b3 cn=>⟨((T4 F av aX b3).cl R),Jp1<|Jr1 [] (by kernel_rfl) (by kernel_rfl) R<|Jo<|Jw1 _ ⟨aM,s,p,q,n,m,o,k,i,f,j,g,R,Fct,Fct,Fct,Fct,Fct,Fct,cn⟩<|KM R⟩⟩⟩)<|Jy3 aL 5 R X204 R λs _ bV Y _=>⟨((F.tr Y).cl R),Jp1<|Jq1 (fuel:=0) [(11,1),(12,2),(14,1)] (by kernel_rfl) (by kernel_rfl) R<|Jl1 (J:=bV) (E:=E6) (z:=(0:Int)) 6 R R R R R R R Y31 bG R R R R R (λ_ _ _=>R) (Jv2 T) λj g _ aN aw _=>⟨((T3 F Y aw).cl R),Jf R (Jn4 [.slice p p0.Arena.Owner.length q,.slice n p0.Prio.length m,.slice o p0.Arena.Next.length k,.slice i c.length f,.slice j d.length g] R)<|Jm4 aN 5 R Z204 R Fct R λ_ aY _=>⟨((T4 F Y aw aY).cl R),Jp1<|Jr1 [] (by kernel_rfl) (by kernel_rfl) R<|Jo<|Jw1 _ ⟨(λu=>ren [(6,5),(5,6)]<|aN u),s,p,q,n,m,o,k,i,f,j,g,R,(Jz2 ((T5 I F Y aw aY).wk R) [(6,5),(5,6)] R),Fct,Fct,Fct,Fct,Fct,Fct⟩<|KM R⟩⟩⟩⟩) (Jl1 (J:=Q) (E:=E6) (z:=(0:Int)) 4 R R R R R R R Y31 bG R R R R R (λ_ _ _=>R) (Jv2 T) λj g _ aO y _=>⟨(y.cl R),Jp1<|WA.fork2 (fuel:=3) 9 13 (by kernel_rfl) R (Jl1 (J:=aO) (E:=(ER E6 2)) (z:=([]:VI)) 5 R R R R R R R Y32 bL R R R R R (λ_ _ _=>⟨none,0,R,Ow.nil⟩) (Jv2 S) λi f _ bW Z _=>⟨((y.tr Z).cl R),Jp1<|Jq1 (fuel:=0) [(12,2),(13,1),(14,1)] (by kernel_rfl) (by kernel_rfl) R<|Jf R (Jn4 [.slice p p0.Arena.Owner.length q,.slice n p0.Prio.length m,.slice o p0.Arena.Next.length k,.slice i c.length f,.slice j d.length g] R)<|Jy3 bW 6 R X204 R λs _ aP ax cp=>⟨((T3 y Z ax).cl R),Jm4 aP 6 R Z204 R cp R λ_ a0 _=>⟨((T4 y Z ax a0).cl R),Jp1<|Jr1 [] (by kernel_rfl) (by kernel_rfl) R<|Jo<|Jw1 _ ⟨(λu=>ren [(5,4),(4,5)]<|aP u),s,p,q,n,m,o,k,i,f,j,g,R,(Jz2 ((T5 I y Z ax a0).wk R) [(5,4),(4,5)] R),Fct,Fct,Fct,Fct,Fct,Fct⟩<|KM R⟩⟩⟩)<|Jy3 aO 5 R X204 R λs _ bX aa _=>⟨((y.tr aa).cl R),Jp1<|Jq1 (fuel:=0) [(9,1),(12,2),(14,1)] (by kernel_rfl) (by kernel_rfl) R<|Jl1 (J:=bX) (E:=(ER E6 2)) (z:=([]:VI)) 6 R R R R R R R Y32 bL R R R R R (λ_ _ _=>⟨none,0,R,Ow.nil⟩) (Jv2 S) λi f _ aQ ay _=>⟨((T3 y aa ay).cl R),Jf R (Jn4 [.slice p p0.Arena.Owner.length q,.slice n p0.Prio.length m,.slice o p0.Arena.Next.length k,.slice i c.length f,.slice j d.length g] R)<|Jm4 aQ 5 R Z204 R Fct R λ_ a1 _=>⟨((T4 y aa ay a1).cl R),Jp1<|Jr1 [] (by kernel_rfl) (by kernel_rfl) R<|Jo<|Jw1 _ ⟨(λu=>ren [(6,4),(4,5),(5,6)]<|aQ u),s,p,q,n,m,o,k,i,f,j,g,R,(Jz2 ((T5 I y aa ay a1).wk R) [(6,4),(4,5),(5,6)] R),Fct,Fct,Fct,Fct,Fct,Fct⟩<|KM R⟩⟩⟩⟩)<|Jy3 Q 4 R X204 R λs _ aR A _=>⟨(A.cl R),Jp1<|WA.fork2 (fuel:=3) 9 11 (by kernel_rfl) R (Jl1 (J:=aR) (E:=(ER E6 2)) (z:=([]:VI)) 5 R R R R R R R Y32 bL R R R R R (λ_ _ _=>⟨none,0,R,Ow.nil⟩) (Jv2 S) λi f _ bA W _=>⟨((A.tr W).cl R),Jp1<|Jq1 (fuel:=0) [(11,1),(12,2),(14,1)] (by kernel_rfl) (by kernel_rfl) R<|Jl1 (J:=bA) (E:=E6) (z:=(0:Int)) 6 R R R R R R R Y31 bG R R R R R (λ_ _ _=>R) (Jv2 T) λj g _ aH an _=>⟨((T3 A W an).cl R),Jf R (Jn4 [.slice p p0.Arena.Owner.length q,.slice n p0.Prio.length m,.slice o p0.Arena.Next.length k,.slice i c.length f,.slice j d.length g] R)<|Jm4 aH 4 R Z204 R Fct R λ_ aS _=>⟨((T4 A W an aS).cl R),Jp1<|Jr1 [] (by kernel_rfl) (by kernel_rfl) R<|Jo<|Jw1 _ ⟨(λu=>ren [(5,4),(6,5),(4,6)]<|aH u),s,p,q,n,m,o,k,i,f,j,g,R,(Jz2 ((T5 I A W an aS).wk R) [(5,4),(6,5),(4,6)] R),Fct,Fct,Fct,Fct,Fct,Fct⟩<|KM R⟩⟩⟩)<|Jl1 (J:=aR) (E:=E6) (z:=(0:Int)) 5 R R R R R R R Y31 bG R R R R R (λ_ _ _=>R) (Jv2 T) λj g _ bB X _=>⟨((A.tr X).cl R),Jp1<|Jq1 (fuel:=0) [(9,1),(12,2),(14,1)] (by kernel_rfl) (by kernel_rfl) R<|Jl1 (J:=bB) (E:=(ER E6 2)) (z:=([]:VI)) 6 R R R R R R R Y32 bL R R R R R (λ_ _ _=>⟨none,0,R,Ow.nil⟩) (Jv2 S) λi f _ aI ao _=>⟨((T3 A X ao).cl R),Jf R (Jn4 [.slice p p0.Arena.Owner.length q,.slice n p0.Prio.length m,.slice o p0.Arena.Next.length k,.slice i c.length f,.slice j d.length g] R)<|Jm4 aI 4 R Z204 R Fct R λ_ aU _=>⟨((T4 A X ao aU).cl R),Jp1<|Jr1 [] (by kernel_rfl) (by kernel_rfl) R<|Jo<|Jw1 _ ⟨(λu=>ren [(6,4),(4,6)]<|aI u),s,p,q,n,m,o,k,i,f,j,g,R,(Jz2 ((T5 I A X ao aU).wk R) [(6,4),(4,6)] R),Fct,Fct,Fct,Fct,Fct,Fct⟩<|KM R⟩⟩⟩⟩))) ?_))
 rintro _ bw ⟨al,s,ac,af,ag,ab,ad,ae,C,B,K,L,rfl,aT,_,_,_,b8,b9,a7⟩
 refine Jp<|Jq<|Jf3 R<|Ob h λbk cF cr=>Jt3 [2,4] (λe t a=>∃b,∃N:VV×VI,t=e/\Stp [4,5,8] al bw b a/\Oc (ER E6 2) 31 b a 4 C B N.1/\((⟨p0.Arena.Owner,p0.Prio,p0.Arena.Next,c,d⟩:l7Game).prev).length=N.1.length/\Oc E6 2 b a 5 K L N.2/\((⟨p0.Arena.Owner,p0.Prio,p0.Arena.Next,c,d⟩:l7Game).pick).length=N.2.length/\bk=EW N) (Jv<|Ju3 [1,2,3,4] (λx e t a=>∃b v,∃D:VV×VI,t=(5,vi v)::e/\Stp [4,5,8] al bw b a/\Oc (ER E6 2) 31 b a 4 C B D.1/\((⟨p0.Arena.Owner,p0.Prio,p0.Arena.Next,c,d⟩:l7Game).prev).length=D.1.length/\Oc E6 2 b a 5 K L D.2/\((⟨p0.Arena.Owner,p0.Prio,p0.Arena.Next,c,d⟩:l7Game).pick).length=D.2.length/\0<=v/\ES ((p0.Prio.length:Int)-v)=x/\cntM (pR p0) x v D=some bk) ⟨_,_,⟨al,0,(((⟨p0.Arena.Owner,p0.Prio,p0.Arena.Next,c,d⟩:l7Game).prev:VV),((⟨p0.Arena.Owner,p0.Prio,p0.Arena.Next,c,d⟩:l7Game).pick:VI)),R,Jo3,b8,R,b9,R,(by decide),(by simp),cF⟩,(KM R)⟩ ?_) ?_
 rintro x _ _ ⟨aK,v,D,rfl,ap,b6,bf,az,aE,ct,bd,h⟩
 rcases x with _|x
 exact Jq<|Jf3 R<|Jx2 R (dcf bd)<|Jc1<|Jt<|Jt<|Jb1<|Oh h<|Jw1 _ ⟨aK,(D.1,D.2),R,Fct,b6,bf,az,aE,R⟩<|KM R
 refine Ob h λcP h cu=>have aj:=dct bd;Jq (Jf3 R<|Jw2 R aj<|Js<|Jp<|Jq<|Jv<|Jj3<|Je3 R U204 R Z31 (have a4:=a7.stp ap;Jc3 R I31 (a4.ld 4 R R) (Jn 1 R<|Ob h λ_ cJ h=>Jf R (Jg2 az.rdc cJ U31 Z2 R R aE R) (Ob h λbz bj h=>Jk1 (J:=aK) (E:=E6) 5 [] R R R R R R R R Z2 R R R R az bj λbx am aq _=>Tv<|have cz:((⟨p0.Arena.Owner,p0.Prio,p0.Arena.Next,c,d⟩:l7Game).pick).length=bz.length:=aE.trans (Ju2 bj).2.2.2.symm;Jd (Jf3 R<|Ob h λbl cG cs=>Jt3 [1,2,3,4,5] (λe t a=>∃b,∃V:Int×VV,t=e/\Stp [4,8] am bx b a/\Oc (ER E6 2) 31 b a 4 C B V.2/\((⟨p0.Arena.Owner,p0.Prio,p0.Arena.Next,c,d⟩:l7Game).prev).length=V.2.length/\bl=EW V) (Jv<|Ju3 [1,2,3,4,5] (λx e t a=>∃b,∃H:Int×VV,t=(6,vi H.1)::e/\Stp [4,8] am bx b a/\Oc (ER E6 2) 31 b a 4 C B H.2/\((⟨p0.Arena.Owner,p0.Prio,p0.Arena.Next,c,d⟩:l7Game).prev).length=H.2.length/\bQ (pS p0 v) x H=some bl) ⟨_,_,⟨am,((0:Int),D.1),R,Jo3,Fct,bf,cG⟩,(KM R)⟩ ?_) ?_)))))
 rintro x _ cL ⟨P,H,rfl,ar,aA,G,h⟩
 rcases x with _|x
 cases h
 refine Ob h λ_ h be=>Jq<|Jl3 1 R<|Je3 R U66 R Z62<|Je3 R U62 R Z32 (have a5:=aD.stp (T4 aT ap aq ar);Jc3 R I32 (a5.ld 1 R R) (Jn 1 R<|Ob h λcQ bg h=>Jd3 R bc bg U32 Z31 ?_))
 have aB:=bc.stp (T6 b2 aZ aT ap aq ar)
 obtain⟨_,_,_,cv⟩:=aB.gSl bg
 refine Jc3 R I31 cv<|Js3 R U31 R R<|Jb 1 R ?_
 refine Bk h (λcH h=>Jy R<|Jc1<|Jt<|Jt ?_) (λcH h=>Jx R<|Js<|Jp<|Jq<|Jv<|Jj3<|Je3 R U66 R Z62<|Je3 R U62 R Z32<|Jc3 R I32 (a5.ld 1 R R)<|Jn 1 R<|Ob h λ_ bh h=>Jd3 R aB bh U32 Z31 ?_)
 cases h
 exact have h:=be;Jb1 (Oh h<|Jw1 _ ⟨P,(H.1,H.2),R,Fct,aA,G,R⟩<|KM R)
 obtain⟨_,_,a6,cw⟩:=aB.gSl bh
 refine Jc3 R I31 cw<|Jn 1 R<|Ob h λ_ bi h=>Jd3 R a6 bi U31 Z2<|Jc3 R I2 (a6.gInt bi)<|Jb 1 R<|Ob h λ_ U h=>Ob h λ_ aF h=>Ob h λ_ aG h=>Ob h λO M h=>Jt3 [1,2,3,4,5,6] (λe t a=>∃b,t=e/\Stp [4,8] P cL b a/\Oc (ER E6 2) 31 b a 4 C B O/\((⟨p0.Arena.Owner,p0.Prio,p0.Arena.Next,c,d⟩:l7Game).prev).length=O.length) (WC.rxt (J:=P) [0,4,6] (some 10) (by kernel_rfl) λ_ aV=>Jq1 (fuel:=5) [(0,2),(2,2),(3,2),(5,2),(8,2),(4,0),(6,2),(7,0)] (by kernel_rfl) (by kernel_rfl) R<|Je3 R U204 R Z32<|Jn 1 R<|Je3 R U204 R Z32<|Jn 2 R (have ah:=a4.stp (T3 aq ar aV);Jg R (Jd2 I32 R R<|hvC (ah.ld 3 R R) R) (Jf R (Jg2 aA.rdc U U32 Z31 R R G R) ?_))) ?_
 have ai:=aA.stp aV
 obtain⟨_,_,_,ak⟩:=ai.rdc.gSl U
 refine Jg R (Jd2 I31 R R<|hvC ak R)<|Jp1<|WA.fork2 (fuel:=4) 1 9 (by kernel_rfl) R (Jg4 (Cl.refl _ _ _) R (Jd2 I32 R R<|hvE<|ah.ld 3 R R)<|Jp1<|Jq1 (fuel:=3) [(9,1)] (by kernel_rfl) (by kernel_rfl) R<|Ji4 P 7 [v] R Y31 bG R λb4 b5 _ _ au cb=>⟨(au.cl R),Jp1<|WA.brk (fuel:=2) 10 (by kernel_rfl) R (by kernel_rfl) ?_⟩)<|Ji4 P 7 [v] R Y31 bG R λb4 b5 _ _ E a9=>⟨(E.cl R),Jp1<|WA.forkB2r (fuel:=3) 1 10 (by kernel_rfl) R (by kernel_rfl) (Jg4 (E.cl R) R (Jd2 I32 R R<|hvE ((ah.stp E).ld 3 R R))<|Jp1<|WA.brk (fuel:=2) 10 (by kernel_rfl) R (by kernel_rfl) ?_) ?_⟩
 have a8:=ai.stp au
 obtain⟨bE,bZ,cc,_⟩:=a8.borrow U (ak _ (Stp.ag au R)) 8 R R
 exact Jd4 bE E6 8 [] R Y31 bG R cc (EV (bO _) (cb.stp bZ).rdc) bJ aF R λa2 a3 _ bH _ cd=>Tv<|Jp1<|Jq1 (fuel:=0) [(11,2),(12,1)] (by kernel_rfl) (by kernel_rfl) R<|Jf R (Jg2 a8.rdc aG U32 Z31 R R G R) (WO.stH (J:=bH) (E:=(ER E6 2)) 4 [8] R R R R R R R R Z31 R ⟨_,_,R,cd⟩ R R Fct M λ_ bI _ ce=>Tv<|have cC:((⟨p0.Arena.Owner,p0.Prio,p0.Arena.Next,c,d⟩:l7Game).prev).length=O.length:=G.trans (Ju2 M).2.2.2.symm;Jp1 (Jr1 [] (by kernel_rfl) (by kernel_rfl) R<|Jo<|Jw1 _ ⟨bI,R,Fct,ce,cC⟩<|KM R))
 have ba:=ai.stp E
 obtain⟨bK,b0,cf,_⟩:=ba.borrow U (ak _ (Stp.ag E R)) 8 R R
 exact Jd4 bK E6 8 [] R Y31 bG R cf (EV (bO _) (a9.stp b0).rdc) bJ aF R λa2 a3 _ bN _ cg=>Tv<|Jp1<|Jq1 (fuel:=0) [(11,2),(12,1)] (by kernel_rfl) (by kernel_rfl) R<|Jf R (Jg2 ba.rdc aG U32 Z31 R R G R) (WO.stH (J:=bN) (E:=(ER E6 2)) 4 [8] R R R R R R R R Z31 R ⟨_,_,R,cg⟩ R R Fct M λ_ bP _ ch=>Tv<|have cD:((⟨p0.Arena.Owner,p0.Prio,p0.Arena.Next,c,d⟩:l7Game).prev).length=O.length:=G.trans (Ju2 M).2.2.2.symm;Jp1 (Jr1 [] (by kernel_rfl) (by kernel_rfl) R<|Jo<|Jw1 _ ⟨bP,R,Fct,ch,cD⟩<|KM R))
 have bb:=ai.stp E
 obtain⟨bR,aW,ci,_⟩:=bb.borrow U (ak _ (Stp.ag E R)) 8 R R
 exact Jd4 bR E6 8 [] R Y31 bG R ci (EV (bO _) (a9.stp aW).rdc) bJ aF R λa2 a3 _ bS b1 cj=>Tv<|Jp1<|Jq1 (fuel:=0) [(1,1),(11,2),(12,1)] (by kernel_rfl) (by kernel_rfl) R<|Jc3 R I32 ((ah.stp<|T3 E aW b1).ld 3 R R)<|Jf R (Jg2 bb.rdc aG U32 Z31 R R G R) (WO.stH (J:=bS) (E:=(ER E6 2)) 4 [8] R R R R R R R R Z31 R ⟨_,_,R,cj⟩ R R Fct M λ_ bT _ ck=>Tv<|have cE:((⟨p0.Arena.Owner,p0.Prio,p0.Arena.Next,c,d⟩:l7Game).prev).length=O.length:=G.trans (Ju2 M).2.2.2.symm;Jp1 (Jr1 [] (by kernel_rfl) (by kernel_rfl) R<|Jo<|Jw1 _ ⟨bT,R,Fct,ck,cE⟩<|KM R))
 rintro _ _ ⟨bD,rfl,_,ca,cB⟩
 refine Jz<|Jp<|Jg3 R ?_
 cases h
 exact Ja2 ⟨bD,(((ET .i64<|H.1+1):Int),O),R,Fct,ca,cB,be⟩ R
 rintro _ _ ⟨bC,V,rfl,_,b7,cA,rfl⟩
 refine have h:=yI cs;Jz (Jp<|Jg3 R ?_)
 have cI:ET .i64 (v+1)=v+1:=wr1 ct (Jn2 aj) cq.len_le
 rw[cI]
 have aj:=Jn2 aj
 cases h
 exact Ja2 ⟨bC,v+1,(V.2,bz),R,Fct,b7,cA,Fct,cz,by omega,by omega,cu⟩ R
 rintro _ _ ⟨aJ,N,rfl,bY,_,cx,_,cy,rfl⟩
 exact have h:=yI cr;Jp (Jj3<|Jg4 tv R (Jh4 (haE (a7.stp bY).cells) I204 Z204 R)<|Jm4 aJ 3 R Z204 R Fct R λ_ _ cl=>Tv<|Jd<|Ju<|Jb2 (l:=[.cell 2 204]) results187 (bM R cl I204 Z204 R R) R<|Oh h<|⟨(λu=>ren [(4,5),(5,6)]<|aJ u),ac,af,ag,ab,ad,ae,C,B,K,L,(by simp only[cx,cy]),Fct,Fct,Fct,Fct,Fct,Fct⟩)
theorem sf {v G}{p0:VB}{x H}{p1:VB}(o:Rd Rp.bool J w 0 v G p0) (A:Rd Rp.bool J w 0 x H p1){r:VB}(h:pd p0 p1=some r):Ret prog 223 [.slice v p0.length G,.slice x p1.length H] w (Pvs EQ 4 J w r):=by
 refine Jp3 J func223 R ntmps223 R λad=>Jf3 R<|Jl3 1 R<|Js3 R U129 R R<|Ob h λj aa h=>Jl1 (J:=J) (E:=EQ) (z:=(false:Bool)) 2 R R R R R R R Y129 cI R R R R R (λ_ _ _=>R) (Jv2 aa) λn q I k u Q=>Tv<|Jb 1 R<|Jq<|Jf3 R<|Ob h λF X T=>Jt3 [5] (λb m e=>∃f,∃i:VB,m=b/\Stp [2] k I f e/\Oc EQ 4 f e 2 n q i/\j.length=i.length/\F=EW i) (Jv<|Ju3 [0,1,5] (λc b m e=>∃f a,∃d:VB,m=(6,vi a)::b/\Stp [2] k I f e/\Oc EQ 4 f e 2 n q d/\j.length=d.length/\0<=a/\ES ((p0.length:Int)-a)=c/\cntM (mq p0 p1) c a d=some F) ⟨_,_,⟨k,0,j,R,Jo3,Q,R,(by decide),(by simp),X⟩,(KM R)⟩ ?_) ?_
 rintro c _ ac ⟨s,a,d,rfl,t,y,p,B,g,h⟩
 rcases c with _|c
 exact Jq<|Jl3 2 R<|Js3 R U129 R R<|Jb 1 R<|Jx2 R (dcf g)<|Jc1<|Jt<|Jt<|Jb1<|Oh h<|Jw1 _ ⟨s,d,R,Fct,y,p,R⟩<|KM R
 refine Ob h λo5 h U=>Jq<|Jl3 2 R<|Js3 R U129 R R<|Jb 1 R<|Jw2 R (dct g)<|Js<|Jp<|Jq<|Jv<|Jm3 4 R<|Ob h λae C h=>Jd3 R o C U129 Z4<|Jc3 R I4 ((o.stp<|u.tr t).gBool C)<|Jn 1 R<|Ob h λab h S=>Jk4 [0,1,5,6,16,17] 28 ab s ac 6 tv ?_ ?_
 exact Bk h (λY h=>Jn 3 R<|Je4 R<|Jn 2 R<|Oh h<|Jl4 tv R) (λY h=>Jn 2 R<|Ob h λ_ D h=>Jd3 R A D U129 Z4<|Jc3 R I4 ((A.stp<|u.tr t).gBool D)<|Jn 2 R<|Oh h<|Jl4 tv R)
 rintro _ _ _ ⟨rfl,L,_⟩
 refine Ob S λ_ Z h=>Jf R (Jg2 y.rdc Z U129 Z4 R R p R) (Ob h λK E h=>Jk1 (J:=L) (E:=EQ) 2 [] R R R R R R R R Z4 R R R R Fct E λ_ M _ P=>Tv<|have W:j.length=K.length:=p.trans (Ju2 E).2.2.2.symm;Jo (Jz<|Jp<|Jg3 R<|wr2 B g o.len_le ▸ ?_))
 cases h
 exact Ja2 ⟨M,a+1,K,R,Fct,P,W,nxz B,nxm g,U⟩ R
 rintro _ _ ⟨N,i,rfl,_,O,V,rfl⟩
 exact have h:=yI T;Jp (Jf3 R<|Ju<|Jb2 (l:=[.tmp 4]) results223 (Jq2 R R) R<|Oh h<|⟨N,n,q,(by simp only[V]),Fct,O⟩)
theorem yY {p0:Int}  {r:VB}(h:sV p0=some r):Ret prog 209 [vi p0] w (Pvs EQ 4 J w r):=by
 refine Jp3 J func209 R ntmps209 R λP=>Jf3 R<|Jl3 1 R<|Ob h λj O h=>Jl1 (J:=J) (E:=EQ) (z:=(false:Bool)) 2 R R R R R R R Y129 cI R R R R R (λ_ _ _=>R) (Jv2 O) λn q x k _ E=>Tv<|Jb 1 R<|Jq<|Jf3 R (Ob h λ_ M h=>have G:=hU M;Ob h λv L F=>Jt3 [3] (λb m e=>∃f,∃i:VB,m=b/\Stp [2] k x f e/\Oc EQ 4 f e 2 n q i/\j.length=i.length/\v=EW i) (Jv<|Ju3 [0,3] (λc b m e=>∃f a,∃d:VB,m=(4,vi a)::b/\Stp [2] k x f e/\Oc EQ 4 f e 2 n q d/\j.length=d.length/\0<=a/\ES (p0-a)=c/\cntM n7 c a d=some v) ⟨_,_,⟨k,0,j,R,Jo3,E,R,(by decide),(by simp),L⟩,(KM R)⟩ ?_) ?_)
 rintro c _ _ ⟨s,a,d,rfl,_,o,p,t,g,h⟩
 rcases c with _|c
 exact Jq<|Jf3 R<|Jx2 R (dcf g)<|Jc1<|Jt<|Jt<|Jb1<|Oh h<|Jw1 _ ⟨s,d,R,Fct,o,p,R⟩<|KM R
 refine Ob h λo5 h H=>Jq<|Jf3 R<|Jw2 R (dct g)<|Js<|Jp<|Jq<|Jv<|Jm3 2 R<|Ob h λ_ N h=>Jf R (Jg2 o.rdc N U129 Z4 R R p R) (Ob h λy u h=>Jk1 (J:=s) (E:=EQ) 2 [] R R R R R R R R Z4 R R R R o u λ_ A _ D=>Tv<|have K:j.length=y.length:=p.trans (Ju2 u).2.2.2.symm;Jo (Jz<|Jp<|Jg3 R<|wr2 t g G ▸ ?_))
 cases h
 exact Ja2 ⟨A,a+1,y,R,Fct,D,K,nxz t,nxm g,H⟩ R
 rintro _ _ ⟨B,i,rfl,_,C,I,rfl⟩
 exact have h:=yI F;Jp (Jf3 R<|Ju<|Jb2 (l:=[.tmp 2]) results209 (Jq2 R R) R<|Oh h<|⟨B,n,q,(by simp only[I]),Fct,C⟩)
theorem p9 {u B}{p0:VI}{p1:Int}(p:Rd Ri J w 0 u B p0){r:VB}(h:ie p0 p1=some r):Ret prog 188 [.slice u p0.length B,vi p1] w (Pvs EQ 4 J w r):=by
 refine Jp3 J func188 R ntmps188 R λU=>Jf3 R<|Jl3 1 R<|Js3 R U31 R R<|Ob h λj T h=>Jl1 (J:=J) (E:=EQ) (z:=(false:Bool)) 2 R R R R R R R Y129 cI R R R R R (λ_ _ _=>R) (Jv2 T) λn s C k H L=>Tv<|Jb 1 R<|Jq<|Jf3 R<|Ob h λA Q M=>Jt3 [5] (λb m e=>∃f,∃i:VB,m=b/\Stp [2] k C f e/\Oc EQ 4 f e 2 n s i/\j.length=i.length/\A=EW i) (Jv<|Ju3 [0,1,5] (λc b m e=>∃f a,∃d:VB,m=(6,vi a)::b/\Stp [2] k C f e/\Oc EQ 4 f e 2 n s d/\j.length=d.length/\0<=a/\ES ((p0.length:Int)-a)=c/\cntM (jZ p0 p1) c a d=some A) ⟨_,_,⟨k,0,j,R,Jo3,L,R,(by decide),(by simp),Q⟩,(KM R)⟩ ?_) ?_
 rintro c _ _ ⟨t,a,d,rfl,G,o,q,v,g,h⟩
 rcases c with _|c
 exact Jq<|Jl3 2 R<|Js3 R U31 R R<|Jb 1 R<|Jx2 R (dcf g)<|Jc1<|Jt<|Jt<|Jb1<|Oh h<|Jw1 _ ⟨t,d,R,Fct,o,q,R⟩<|KM R
 refine Ob h λo5 h N=>Jq<|Jl3 2 R<|Js3 R U31 R R<|Jb 1 R<|Jw2 R (dct g)<|Js<|Jp<|Jq<|Jv<|Jm3 4 R<|Ob h λ_ x h=>Jd3 R p x U31 Z2<|Jc3 R I2 ((p.stp<|H.tr G).gInt x)<|Jn 2 R<|Ob h λ_ S h=>Jf R (Jg2 o.rdc S U129 Z4 R R q R) (Ob h λD y h=>Jk1 (J:=t) (E:=EQ) 2 [] R R R R R R R R Z4 R R R R o y λ_ E _ K=>Tv<|have P:j.length=D.length:=q.trans (Ju2 y).2.2.2.symm;Jo (Jz<|Jp<|Jg3 R<|wr2 v g p.len_le ▸ ?_))
 cases h
 exact Ja2 ⟨E,a+1,D,R,Fct,K,P,nxz v,nxm g,N⟩ R
 rintro _ _ ⟨F,i,rfl,_,I,O,rfl⟩
 exact have h:=yI M;Jp (Jf3 R<|Ju<|Jb2 (l:=[.tmp 4]) results188 (Jq2 R R) R<|Oh h<|⟨F,n,s,(by simp only[O]),Fct,I⟩)
theorem vF {d g}{p0:VB}{q x}{p1:VI}(E:Oc EQ 4 J w 2 d g p0) (m:Rd Ri J w 0 q x p1){r:VB}(h:rF p0 p1=some r):Ret prog 84 [.slice d p0.length g,.slice q p1.length x] w (λM a=>∃b,M= .tuple #[]/\Ent J w b a/\Oc EQ 4 b a 2 d g r/\p0.length=r.length):=by
 refine Jp3 J func84 R ntmps84 R λN=>Jl3 1 R<|Js3 R U31 R R<|Jb 1 R<|Ob h λv K F=>Jx1 (λk a=>∃b,∃j:VB,k=[]/\Stp [2] J w b a/\Oc EQ 4 b a 2 d g j/\p0.length=j.length/\v=EW j) (Jv<|Ju3 [0,6,7] (λe o k a=>∃b c,∃f:VB,k=(8,vi c)::o/\Stp [2] J w b a/\Oc EQ 4 b a 2 d g f/\p0.length=f.length/\0<=c/\ES ((p1.length:Int)-c)=e/\cntM (kj p1) e c f=some v) ⟨_,_,⟨J,0,p0,R,Jo3,E,R,(by decide),(by simp),K⟩,(KM R)⟩ ?_) ?_
 rintro e _ _ ⟨p,c,f,rfl,B,l,n,s,i,h⟩
 rcases e with _|e
 exact Jf3 R<|Jq<|Jx2 R (dcf i)<|Jc1<|Jt<|Jt<|Jb1<|Oh h<|Jw1 _ ⟨p,f,R,Fct,l,n,R⟩ KN
 refine Ob h λO h G=>Jf3 R<|Jq<|Jw2 R (dct i)<|Js<|Jp<|Jq<|Jv<|Jj3<|Ob h λ_ t h=>Jd3 R m t U31 Z2<|Jc3 R I2 ((m.stp B).gInt t)<|Jb 1 R<|Jm3 2 R<|Ob h λ_ L h=>Jf R (Jg2 l.rdc L U129 Z4 R R n R) (Ob h λy u h=>Jk1 (J:=p) (E:=EQ) 2 [] R R R R R R R R Z4 R R R R l u λ_ z _ C=>Tv<|have H:p0.length=y.length:=n.trans (Ju2 u).2.2.2.symm;Jo (Jz<|Jp<|Jg3 R<|wr2 s i m.len_le ▸ ?_))
 cases h
 exact Ja2 ⟨z,c+1,y,R,Fct,C,H,nxz s,nxm i,G⟩ R
 rintro _ _ ⟨A,j,rfl,_,D,I,rfl⟩
 exact have h:=yI F;DN.end0 results84 (Oh h<|⟨A,R,Fct,D,I⟩)
theorem tB {p0:Int}{e j}{c0:VI}{a}(t:Oc E6 2 J w 2 e j c0) (o:Bc J w 3 a 31 [.slice e c0.length j]){r:VI}(h:oD p0 c0=some r):Ret prog 141 [vi p0,.pointer (some ⟨a,0,none⟩)] w (λq b=>∃c g i,q= .tuple #[]/\Ent J w c b/\Oc E6 2 c b 2 g i r/\Bc c b 3 a 31 [.slice g r.length i]):=by
 exact Jp3 J func141 R ntmps141 R λu=>Jk3<|Jc3 R I31 (o.ld 0 R R)<|Jn 1 R<|Ji4 J 4 [p0] R Y31 bG R λ_ _ _ l _ n=>Tv<|Ob h λs p h=>Jd4 l E6 2 [] R Y31 bG R Fct (EV (bO _) n.rdc) bJ p R λf k _ d _ _=>Tv<|Ja4 d 3 (vc:=[.slice f s.length k]) R Z31 R Fct R λ_ _ m=>Tv<|Jo<|DN.end0 results141<|Oh h<|⟨d,f,k,R,Fct,Fct,m⟩
theorem kU {p0:Int}  {r:Bool}(h:fj p0=some r):Ret prog 200 [vi p0] w (Pvb J w r):=by
 unfold fj at h
 exact Jp3 J func200 R ntmps200 R λa=>Jf3 R<|Jf3 R<|Ju<|Jb2 (l:=[.tmp 2]) results200 (Jq2 R R) R<|Oh h<|⟨J,R,a⟩
theorem je {p0:Int}  {r:Bool}(h:ec p0=some r):Ret prog 193 [vi p0] w (Pvb J w r):=by
 unfold ec at h
 exact Jp3 J func193 R ntmps193 R λa=>Jf3 R<|Jf3 R<|Ju<|Jb2 (l:=[.tmp 2]) results193 (Jq2 R R) R<|Oh h<|⟨J,R,a⟩
theorem wm {u B}{p0:VI}{p1:Int}(p:Rd Ri J w 0 u B p0){r:VB}(h:m8 p0 p1=some r):Ret prog 151 [.slice u p0.length B,vi p1] w (Pvs EQ 4 J w r):=by
 refine Jp3 J func151 R ntmps151 R λU=>Jf3 R<|Jl3 1 R<|Ob h λj T h=>Jl1 (J:=J) (E:=EQ) (z:=(false:Bool)) 2 R R R R R R R Y129 cI R R R R R (λ_ _ _=>R) (Jv2 T) λn s C k H L=>Tv<|Jb 1 R<|Jq<|Jf3 R<|Ob h λA Q M=>Jt3 [5] (λb m e=>∃f,∃i:VB,m=b/\Stp [2] k C f e/\Oc EQ 4 f e 2 n s i/\j.length=i.length/\A=EW i) (Jv<|Ju3 [0,5] (λc b m e=>∃f a,∃d:VB,m=(6,vi a)::b/\Stp [2] k C f e/\Oc EQ 4 f e 2 n s d/\j.length=d.length/\0<=a/\ES ((p0.length:Int)-a)=c/\cntM (kE p0) c a d=some A) ⟨_,_,⟨k,0,j,R,Jo3,L,R,(by decide),(by simp),Q⟩,(KM R)⟩ ?_) ?_
 rintro c _ _ ⟨t,a,d,rfl,G,o,q,v,g,h⟩
 rcases c with _|c
 exact Jq<|Jl3 2 R<|Js3 R U31 R R<|Jb 1 R<|Jx2 R (dcf g)<|Jc1<|Jt<|Jt<|Jb1<|Oh h<|Jw1 _ ⟨t,d,R,Fct,o,q,R⟩<|KM R
 refine Ob h λo5 h N=>Jq<|Jl3 2 R<|Js3 R U31 R R<|Jb 1 R<|Jw2 R (dct g)<|Js<|Jp<|Jq<|Jv<|Jm3 3 R<|Ob h λ_ x h=>Jd3 R p x U31 Z2<|Jc3 R I2 ((p.stp<|H.tr G).gInt x)<|Ob h λ_ S h=>Jf R (Jg2 o.rdc S U129 Z4 R R q R) (Ob h λD y h=>Jk1 (J:=t) (E:=EQ) 2 [] R R R R R R R R Z4 R R R R o y λ_ E _ K=>Tv<|have P:j.length=D.length:=q.trans (Ju2 y).2.2.2.symm;Jo (Jz<|Jp<|Jg3 R<|wr2 v g p.len_le ▸ ?_))
 cases h
 exact Ja2 ⟨E,a+1,D,R,Fct,K,P,nxz v,nxm g,N⟩ R
 rintro _ _ ⟨F,i,rfl,_,I,O,rfl⟩
 exact have h:=yI M;Jp (Jf3 R<|Ju<|Jb2 (l:=[.tmp 4]) results151 (Jq2 R R) R<|Oh h<|⟨F,n,s,(by simp only[O]),Fct,I⟩)
end
end Go.Proofs.YtfombamjdkihnaaGreat
