/- The walks, part 1. By program. -/
import Derived.Test.YtfombamjdkihnaaGreatFnsMEI
import Derived.Test.YtfombamjdkihnaaGreatAlEI
set_option linter.unusedVariables false
set_option linter.unusedSimpArgs false
open Go.Wk.Ep renaming bool → EQ, own → ER
open Int renaming toNat → ES
open Go.IntKind renaming wrap → ET
open Option.some renaming inj → EU
open Go.Wk.Sl renaming srcP → EV
open Sum renaming inr → EW
namespace Go.Proofs.YtfombamjdkihnaaGreat
open Tryz
open Go Go.Wk Go.Proofs
set_option maxRecDepth 100000
set_option maxHeartbeats 1000000
section
variable {w:World}{J:Col}
theorem AR {a b}{p0:VI}(d:Rd (Rp.int .u8) J w 0 a b p0){r:Bool}(h:zp p0=some r):Ret prog 4 [.slice a p0.length b] w (Pvb J w r):=by
 unfold zp at h
 exact Jp3 J func4 R ntmps4 R λc=>Jf3 R<|Jl3 1 R<|Js3 R U22 R R<|Jb 2 R<|Ju<|Jb2 (l:=[.tmp 2]) results4 (Jq2 R R) R<|Oh h<|⟨J,R,c⟩
theorem ck {b a}{p0:dice}{p1:Int}{e}(m:Rd (Rp.int .u8) J w 0 b a p0.b) (n:Bc J w 2 e 52 [.slice b p0.b.length a,vi p0.i,.int .u64 p0.h]){r:Int×Int×Int}(h:cu p0 p1=some r):Ret prog 11 [.pointer (some ⟨e,0,none⟩),vi p1] w (λB c=>∃d,B=vi r.1/\Ent J w d c/\Bc d c 2 e 52 [.slice b p0.b.length a,vi r.2.1,.int .u64 r.2.2]):=by
 refine Jp3 J func11 R ntmps11 R λD=>Jf3 R<|Jl3 2 R<|Jf R (cM R R)<|Je3 R U52 R Z26<|Jc3 R isAgg26 (n.ld 2 R R)<|Jn 2 R<|Jf R (cM R R)<|Je3 R U52 R Z26<|Jz3 J 2 (off:=2) (vc:=[.int .u64 (ET .u64 ((ET .u64<|p0.h * 6364136223846793005)+1442695040888963407))]) (cs':=[.slice b p0.b.length a,vi p0.i,.int .u64 (ET .u64 ((ET .u64<|p0.h * 6364136223846793005)+1442695040888963407))]) R Z26 R n R λ_ u k=>Tv<|Jd<|Jl3 1 R<|Jf R (cM R R)<|Je3 R U52 R Z26<|Jc3 R isAgg26 (k.ld 2 R R)<|Jf R (Bh R R R (by decide))<|Jn 1 R<|Jf R (Ji2 U26 U2 R R)<|Jb 1 R<|Jq<|Jq<|Xn J [2] [2,5,8,14,17,20,9,21,26,29] λC j=>Jn 1 R<|Jf R (cM R R)<|Je3 R U52 R Z3<|Jn 1 R<|Jf R (cM R R)<|Je3 R U52 R sizeOf22 (have g:=k.stp j;Jg R (Jd2 I3 R R<|hvC (g.ld 1 R R) R) (Jg R (Jd2 isAgg22 R R<|hvC (g.ld 0 R R) R)<|Js3 R U22 R R<|Jn 1 R<|Jt1<|Jd<|Ob h λp h y=>Jt3 [0,1] (λq t c=>∃d,t=(5,vi p.1)::q/\Stp [2] J C d c/\Bc d c 2 e 52 [.slice b p0.b.length a,vi p.2,.int .u64 (ET .u64 ((ET .u64<|p0.h * 6364136223846793005)+1442695040888963407))]) ?_ ?_))
 exact Bk h (λz h=>Jy R<|Js<|Oh h<|Jw1 _ ⟨J,R,Jo3,g⟩<|KM R) (λz h=>Jx R<|Jq<|Xn J [0,2] [2,5,8,11,17,20,23,12,24,29,30,35,38,41] λ_ i=>Jn 2 R<|Jf R (cM R R)<|Je3 R U52 R sizeOf22<|Jn 1 R<|Jf R (cM R R)<|Je3 R U52 R Z3 (have f:=g.stp i;Jg R (Jd2 isAgg22 R R<|hvC (f.ld 0 R R) R) (Jg R (Jd2 I3 R R<|hvC (f.ld 1 R R) R)<|Ob h λ_ o h=>Jd3 R m o U22 sizeOf5<|Jg R (Jd2 isAgg5 R R<|hvC ((m.stp<|T3 u j i).gInt o) R)<|Jf R (Ji2 runUnderlying5 U2 R R)<|Jn 2 R<|Jt1<|Jd<|Jm3 2 R<|Jf R (cM R R)<|Je3 R U52 R Z3<|Jc3 R I3 (f.ld 1 R R)<|Jn 1 R<|Jf R (cM R R)<|Je3 R U52 R Z3<|Jz3 J 2 (off:=1) (vc:=[vi<|ET .i64<|p0.i+1]) (cs':=[.slice b p0.b.length a,vi (ET .i64<|p0.i+1),.int .u64 (ET .u64 ((ET .u64<|p0.h * 6364136223846793005)+1442695040888963407))]) R Z3 R f R λ_ _ x=>Tv<|Jo<|Oh h<|Jw1 _ ⟨J,R,Fct,x⟩<|KM R)))
 rintro _ _ ⟨s,rfl,_,v⟩
 exact Jp<|Jl3 2 R<|Ob y λ_z55 A h=>Jf R (uf R R R<|A3 A)<|Jb 1 R<|Ju<|Jb2 (l:=[.tmp 4]) results11 (Jq2 R R) R<|Oh h<|⟨s,R,Fct,v⟩
theorem lb {n v}{p0:VI}{p1:Int}(f:Rd Ri J w 0 n v p0){r:Bool}(h:lQ p0 p1=some r):Ret prog 157 [.slice n p0.length v,vi p1] w (Pvb J w r):=by
 refine Jp3 J func157 R ntmps157 R λP=>Jf3 R<|Jq<|Jl3 1 R<|Js3 R U31 R R<|Jb 1 R<|Ob h λu F o=>Jx1 (λd g=>∃i,d=[]/\Stp [] J w i g/\u=EW ()) (Jv<|Ju3 [0,1,7,8] (λb y d g=>∃i a,d=(9,vi a)::y/\Stp [] J w i g/\0<=a/\ES ((p0.length:Int)-a)=b/\cntM (nv p0 p1) b a ()=some u) ⟨_,_,⟨J,0,R,Jo3,(by decide),(by simp),F⟩,(KM R)⟩ ?_) ?_
 rintro b _ O ⟨m,a,rfl,B,p,c,h⟩
 rcases b with _|b
 exact Jf3 R<|Jq<|Jx2 R (dcf c)<|Jc1<|Jt<|Jt<|Jb1<|Oh h<|Jw1 _ ⟨m,R,Fct,R⟩ KN
 refine Ob h λQ h q=>Jf3 R<|Jq<|Jw2 R (dct c)<|Js<|Jp<|Jq<|Jv<|Jl3 1 R<|Ob h λS s h=>Jd3 R f s U31 Z2 (have e:=f.stp B;Jc3 R I2 (e.gInt s) (Jb 2 R<|Jl3 3 R<|Ob h λL h C=>Jk4 [0,1,5,6,7,8,9] 20 L m O 4 tv ?_ ?_))
 exact Bk h (λG h=>Jn 4 R<|Oh h<|Jl4 tv R) (λG h=>Jn 4 R<|Oh h<|Jl4 tv R)
 rintro _ x _ ⟨rfl,j,A⟩
 refine Jn 1 R<|Ob C λN h D=>Jk4 [0,1,7,8,9] 33 N j x 12 tv ?_ ?_
 refine Bk h (λH h=>Jn 3 R<|Ob h λM h E=>Jk4 [0,1,7,8,9,21,22,23,24] 32 M j x 8 tv ?_ ?_) (λH h=>Jn 8 R<|Je4 R<|Jn 3 R<|Oh h<|Jl4 tv R)
 exact Bk h (λI h=>Jn 5 R<|Je4 R<|Jn 2 R<|Oh h<|Jl4 tv R) (λI h=>Jn 4 R<|Ob h λ_ t h=>Jd3 R e t U31 Z2<|Jc3 R I2 ((e.stp A).gInt t)<|Jn 2 R<|Oh h<|Jl4 tv R)
 rintro _ _ _ ⟨rfl,_,_⟩
 exact have h:=E;Jn 1 R (Oh h<|Jv1 _ tv ⟨R,_,Fct⟩<|KM R)
 rintro _ _ _ ⟨rfl,k,_⟩
 refine have h:=D;Jd ?_
 refine Bk h (λK h=>Jy R<|Js<|Jz<|Jp<|Jg3 R<|wr2 p c f.len_le ▸ ?_) (λK h=>Jx R<|Jf3 R<|Ju<|Ja1<|Jw<|Jw ?_)
 cases h
 exact Ja2 ⟨k,a+1,R,Fct,nxz p,nxm c,q⟩ R
 cases h
 obtain rfl:=EU q
 exact have h:=yL o;Ja1 (Jr2<|Jw<|Jb2 (l:=[.tmp 4]) results157 (Jq2 R R) R<|Oh h<|⟨k,R,Fct⟩)
 rintro _ _ ⟨z,rfl,_,rfl⟩
 exact have h:=yI o;Jp (Jf3 R<|Ju<|Jb2 (l:=[.tmp 4]) results157 (Jq2 R R) R<|Oh h<|⟨z,R,Fct⟩)
theorem rG {p0:Int}{p1:Int}{p2:Bool}{i:Bool}  {r:Int}(h:jG p0 p1 p2 i=some r):Ret prog 104 [vi p0,vi p1,.bool p2,.bool i] w (Pvi J w r):=by
 refine Jp3 J func104 R ntmps104 R λI=>Jf3 R<|Jf3 R<|Jq<|Jf3 R<|Ob h λG h m=>Jt3 [0,1,3,10] (λb d e=>∃f,d=(9,vi G)::b/\Stp [] J w f e) ?_ ?_
 exact Bk h (λD h=>Jy R<|Js<|Oh h<|Jw1 _ ⟨J,R,Jo3⟩<|KM R) (λD h=>Jx R<|Jg3 R<|Oh h<|Jw1 _ ⟨J,R,Jo3⟩<|KM R)
 rintro _ H ⟨c,rfl,_⟩
 refine Jp<|Jq<|Jf3 R<|Ob m λj h p=>Jt3 [0,1,9] (λb d e=>∃f,d=(3,.bool j.1)::(10,vi j.2)::b/\Stp [] c H f e) ?_ ?_
 exact Bk h (λq h=>Jy R<|Js<|Oh h<|Jw1 _ ⟨c,R,Jo3⟩<|KM R) (λq h=>Jx R<|Jg3 R<|Oh h<|Jw1 _ ⟨c,R,Jo3⟩<|KM R)
 rintro _ k ⟨a,rfl,_⟩
 refine have h:=p;Jp (Jq<|Jf3 R<|Jv<|Jf3 R ?_)
 refine Bk h (λs h=>Jy R<|Jf3 R ?_) (λs h=>Jx R<|Jl3 3 R<|Jf R (vW R R R)<|Jb 1 R<|Ju<|Ja1<|Jw<|Jb2 (l:=[.tmp 8]) V104 (Jq2 R R) R<|Oh h<|⟨a,R,Fct⟩)
 refine Bk h (λt h=>Jy R<|Jf3 R ?_) (λt h=>Jx R<|Jq<|Jl3 3 R<|Ob h λF h n=>Jk4 [9] 31 F a k 7 tv ?_ ?_)
 refine Bk h (λy h=>Jy R<|Jf3 R ?_) (λy h=>Jx R<|Jq<|Jf3 R ?_)
 refine Bk h (λA h=>Jy R<|Jf3 R ?_) (λA h=>Jx R<|Jf3 R<|Ju<|Ja1<|Jw<|Jb2 (l:=[.tmp 8]) V104 (Jq2 R R) R<|Oh h<|⟨a,R,Fct⟩)
 refine Bk h (λB h=>Jy R<|Jf3 R ?_) (λB h=>Jx R<|Jf3 R<|Ju<|Ja1<|Jw<|Jb2 (l:=[.tmp 8]) V104 (Jq2 R R) R<|Oh h<|⟨a,R,Fct⟩)
 exact Bk h (λC h=>Jy R<|Js<|Jz<|Jp<|Jf3 R<|Ju<|Jb2 (l:=[.tmp 8]) V104 (Jq2 R R) R<|Oh h<|⟨a,R,Fct⟩) (λC h=>Jx R<|Jl3 2 R<|Jf R (vW R R R)<|Jb 1 R<|Ju<|Ja1<|Jw<|Jb2 (l:=[.tmp 8]) V104 (Jq2 R R) R<|Oh h<|⟨a,R,Fct⟩)
 exact Bk h (λz h=>Jy R<|Js<|Jp<|Jl3 2 R<|Jf R (vW R R R)<|Jb 1 R<|Ju<|Ja1<|Jw<|Jb2 (l:=[.tmp 8]) V104 (Jq2 R R) R<|Oh h<|⟨a,R,Fct⟩) (λz h=>Jx R<|Jf3 R<|Ju<|Jw<|Ja1<|Jw<|Jb2 (l:=[.tmp 8]) V104 (Jq2 R R) R<|Oh h<|⟨a,R,Fct⟩)
 refine Bk h (λu h=>Jn 3 R<|Ob h λE h o=>Jk4 [9,24] 30 E a k 3 tv ?_ ?_) (λu h=>Jn 7 R<|Oh h<|Jl4 tv R)
 exact Bk h (λv h=>Jn 3 R<|Oh h<|Jl4 tv R) (λv h=>Jn 3 R<|Oh h<|Jl4 tv R)
 rintro _ _ _ ⟨rfl,_,_⟩
 exact have h:=o;Jn 1 R (Oh h<|Jv1 _ tv ⟨R,_,Fct⟩<|KM R)
 rintro _ _ _ ⟨rfl,g,_⟩
 refine have h:=n;Jd ?_
 exact Bk h (λx h=>Jy R<|Js<|Jp<|Jf3 R<|Ju<|Ja1<|Jw<|Jb2 (l:=[.tmp 8]) V104 (Jq2 R R) R<|Oh h<|⟨g,R,Fct⟩) (λx h=>Jx R<|Jf3 R<|Ju<|Jw<|Ja1<|Jw<|Jb2 (l:=[.tmp 8]) V104 (Jq2 R R) R<|Oh h<|⟨g,R,Fct⟩)
theorem cF {p0:Sig}  {r:Int}(h:cJ p0=some r):Ret prog 25 [.agg #[vi p0.In,vi p0.Out]] w (Pvi J w r):=by
 exact Jp3 J func25 R ntmps25 R λd=>Jj3<|Jx3 J 2 R λ_ _ a _ b=>Tv<|Jb 1 R<|Jj3<|Je3 R U28 R Z2<|Jc3 R I2 (b.ld 0 R R)<|Ob h λ_z5 c h=>Jf R (oP R R R<|r8 c)<|Jb 1 R<|Ju<|Jb2 (l:=[.tmp 2]) results25 (Jq2 R R) R<|Oh h<|⟨a,R,Fct⟩
theorem lG {a c}{p0:VI}(f:Oc E6 2 J w 2 a c p0){r:VI}(h:dt p0=some r):Ret prog 58 [.slice a p0.length c] w (Pvs E6 2 J w r):=by
  unfold dt at h
  split at h
  .rename_i b
   cases h
   exact yx (λd k e l w g j i=>Tryz.slices_Compact_int d k e l w g j i) f b.1 b.2
  .cases h
theorem uz {O N Q P}{p0:Pair}(aA:Rd Ri J w 0 O N p0.Ask) (aB:Rd Ri J w 0 Q P p0.Give){r:Pair}(h:qc p0=some r):Ret prog 59 [.agg #[.slice O p0.Ask.length N,.slice Q p0.Give.length P]] w (λay f=>∃g T V U W,ay= .agg #[.slice T r.Ask.length V,.slice U r.Give.length W]/\Ent J w g f/\Oc E6 2 g f 2 T V r.Ask/\Oc E6 2 g f 3 U W r.Give):=by
 refine Jp3 J func59 R ntmps59 R λaC=>Jj3<|Jx3 J 2 R λ_ _ aa _ ar=>Tv<|Jy3 aa 3 R X96 R λan az n al _=>Tv<|Jd<|Jq<|Ob h λm C h=>Ob h λk B h=>Jt3 [2] (λY ai f=>∃g s t v u,ai=Y/\Stp [3,4,5] n az g f/\Oc E6 2 g f 4 s t m/\Oc E6 2 g f 5 v u k/\Bc g f 3 an 96 [.slice s m.length t,.slice v k.length u]) (WC.rxt (J:=n) [2] none (by kernel_rfl) λ_ H=>Jq1 (fuel:=6) [(1,2),(5,2),(2,0),(6,0)] (by kernel_rfl) (by kernel_rfl) R<|Je3 R U96 R Z31<|Je3 R U96 R Z31 (have S:=ar.stp (al.tr H);Jg R (Jd2 I31 R R<|hvC (S.ld 0 R R) R) (Jg R (Jd2 I31 R R<|hvC (S.ld 1 R R) R)<|Jp1<|WA.fork2 (fuel:=5) 0 4 (by kernel_rfl) R (Jc4 n E6 4 R Y31 bG R λam ax _ D a ap=>⟨(a.cl R),Jp1<|WA.fork2 (fuel:=4) 3 4 (by kernel_rfl) R (Jd4 D E6 4 [] R Y31 bG R ap (EV (bO _) Fct) bJ C R λb e _ ab o _=>⟨((a.tr o).cl R),Xs 0 [13,22,26,28]<|Jc4 ab E6 5 R Y31 bG R λM X _ ac x aq=>⟨((T3 a o x).cl R),Jd4 ac E6 5 [] R Y31 bG R aq (EV (bO _) Fct) bJ B R λd c _ E I _=>⟨((T4 a o x I).cl R),Jf R (Jn4 [.slice b m.length e,.slice d k.length c] R)<|Jm4 E 3 R Z96 R Fct R λ_ aj au=>⟨((T5 a o x I aj).cl R),Xe<|Jo<|Jw1 _ ⟨E,b,e,d,c,R,Fct,Fct,Fct,au⟩<|KM R⟩⟩⟩⟩)<|Jc4 D E6 5 R Y31 bG R λM X _ ad p _=>⟨((a.tr p).cl R),Xs 0 [10,22,26,28]<|Jd4 ad E6 4 [] R Y31 bG R Fct (EV (bO _) Fct) bJ C R λb e _ ae y _=>⟨((T3 a p y).cl R),Jd4 ae E6 5 [] R Y31 bG R Fct (EV (bO _) Fct) bJ B R λd c _ F K _=>⟨((T4 a p y K).cl R),Jf R (Jn4 [.slice b m.length e,.slice d k.length c] R)<|Jm4 F 3 R Z96 R Fct R λ_ ak av=>⟨((T5 a p y K ak).cl R),Xe<|Jo<|Jw1 _ ⟨F,b,e,d,c,R,Fct,Fct,Fct,av⟩<|KM R⟩⟩⟩⟩⟩)<|Jc4 n E6 4 R Y31 bG R λM X _ af i _=>⟨(i.cl R),Xs 0 [1,10,22,26,28]<|Jc4 af E6 5 R Y31 bG R λam ax _ ag j aw=>⟨((i.tr j).cl R),Jd4 ag E6 5 [] R Y31 bG R aw (EV (bO _) Fct) bJ C R λb e _ ah q _=>⟨((T3 i j q).cl R),Jd4 ah E6 4 [] R Y31 bG R Fct (EV (bO _) Fct) bJ B R λd c _ G z _=>⟨((T4 i j q z).cl R),Jf R (Jn4 [.slice b m.length e,.slice d k.length c] R)<|Jm4 G 3 R Z96 R Fct R λ_ L _=>⟨((T5 i j q z L).cl R),Xe<|Jo<|Jw1 _ ⟨(λA=>ren [(5,4),(4,5)]<|G A),b,e,d,c,R,(Jz2 ((T6 H i j q z L).wk R) [(5,4),(4,5)] R),Fct,Fct,Fct⟩<|KM R⟩⟩⟩⟩⟩))) ?_
 rintro _ _ ⟨Z,s,t,v,u,rfl,_,_,_,ao⟩
 exact Jp<|Ju<|Jb2 (l:=[.cell 2 96]) results59 (bM R ao I96 Z96 R R) R<|Oh h<|⟨(λA=>ren [(4,2),(5,3)]<|Z A),s,t,v,u,R,Fct,Fct,Fct⟩
theorem nf {m x}{p0:VI}{n y}{p1:VI}(f:Rd Ri J w 0 m x p0) (o:Rd Ri J w 0 n y p1){r:Bool}(h:ez p0 p1=some r):Ret prog 172 [.slice m p0.length x,.slice n p1.length y] w (Pvb J w r):=by
 refine Jp3 J func172 R ntmps172 R λB=>Jf3 R<|Jq<|Jl3 1 R<|Js3 R U31 R R<|Jn 1 R<|Js3 R U31 R R<|Jb 1 R ?_
 refine Bk h (λD h=>Jy R<|Js<|Jp<|Jq<|Jl3 1 R<|Js3 R U31 R R<|Jb 1 R<|Ob h λv C p=>Jx1 (λe g=>∃i,e=[]/\Stp [] J w i g/\v=EW ()) (Jv<|Ju3 [0,1,12] (λb z e g=>∃i a,e=(13,vi a)::z/\Stp [] J w i g/\0<=a/\ES ((p0.length:Int)-a)=b/\cntM (dL p0 p1) b a ()=some v) ⟨_,_,⟨J,0,R,Jo3,(by decide),(by simp),C⟩,(KM R)⟩ ?_) ?_) (λD h=>Jx R<|Jf3 R<|Ju<|Jw<|Jb2 (l:=[.tmp 4]) results172 (Jq2 R R) R<|Oh h<|⟨J,R,B⟩)
 rintro b _ _ ⟨c,a,rfl,j,q,d,h⟩
 rcases b with _|b
 exact Jf3 R<|Jq<|Jx2 R (dcf d)<|Jc1<|Jt<|Jt<|Jb1<|Oh h<|Jw1 _ ⟨c,R,Fct,R⟩ KN
 refine Ob h λF h s=>Jf3 R<|Jq<|Jw2 R (dct d)<|Js<|Jp<|Jq<|Jv<|Jf3 R<|Jq<|Js1 (J:=c) [0] none [(0,2),(1,2),(2,2),(4,2),(5,2),(6,2),(3,0),(7,0),(8,2)] [] (by kernel_rfl) (by kernel_rfl) λ_ k=>Jn 2 R<|Ob h λG t h=>Jd3 R f t U31 Z2<|Jn 2 R<|Ob h λH u h=>Jd3 R o u U31 Z2<|Jg R (Jd2 I2 R R<|hvC ((f.stp<|j.tr k).gInt t) R)<|Jg R (Jd2 I2 R R<|hvC ((o.stp<|j.tr k).gInt u) R)<|Jn 1 R<|Jt1<|Jd ?_
 refine Bk h (λE h=>Jy R<|Js<|Jz<|Jp<|Jg3 R<|wr2 q d f.len_le ▸ ?_) (λE h=>Jx R<|Jf3 R<|Ju<|Ja1<|Jw<|Jw ?_)
 cases h
 exact Ja2 ⟨c,a+1,R,Fct,nxz q,nxm d,s⟩ R
 cases h
 obtain rfl:=EU s
 exact have h:=yL p;Ja1 (Jr2<|Jw<|Jb2 (l:=[.tmp 4]) results172 (Jq2 R R) R<|Oh h<|⟨c,R,Fct⟩)
 rintro _ _ ⟨A,rfl,_,rfl⟩
 exact have h:=yI p;Jp (Jf3 R<|Ju<|Jb2 (l:=[.tmp 4]) results172 (Jq2 R R) R<|Oh h<|⟨A,R,Fct⟩)
theorem tk {p0:Int}  {r:VI}(h:pl p0=some r):Ret prog 40 [vi p0] w (Pvs E6 2 J w r):=by
 refine Jp3 J func40 R ntmps40 R λY=>Jf3 R<|Jq<|Jl3 3 R<|Ob h λU h K=>Jk4 [0] 10 U J w 3 tv ?_ ?_
 exact Bk h (λQ h=>Jn 3 R<|Oh h<|Jl4 tv R) (λQ h=>Jn 3 R<|Oh h<|Jl4 tv R)
 rintro _ _ _ ⟨rfl,q,_⟩
 refine have h:=K;Jd ?_
 refine Bk h (λS h=>Jy R<|Js<|Jp<|Jj3<|Jc4 q E6 2 R Y31 bG R λA B u n _ E=>Tv<|Jb 1 R<|Jq<|Jf3 R (Ob h λ_ P h=>have M:=hU P;Ob h λt O L=>Jx1 (λo d=>∃e,∃m:VI,∃j f,o=[(3,.slice j m.length f)]/\Stp [2] n u e d/\Oc E6 2 e d 2 j f m/\t=EW m) (Jv<|Ju3 [0] (λb v o d=>∃e a,∃c:VI,∃i g,o=(3,.slice i c.length g)::(4,vi a)::v/\Stp [2] n u e d/\Oc E6 2 e d 2 i g c/\0<=a/\ES (p0-a)=b/\cntM ji b a c=some t) ⟨_,_,⟨n,0,([]:VI),A,B,R,Jo3,E,(by decide),(by simp),O⟩,(KM R)⟩ ?_) ?_)) (λS h=>Jx R<|Jf3 R<|Ju<|Jw<|Jb2 (l:=[.tmp 2]) results40 (Jq2 R R) R<|Oh h<|⟨q,none,0,R,Fct,Ow.nil⟩)
 rintro b _ _ ⟨p,a,c,i,g,rfl,_,G,s,k,h⟩
 rcases b with _|b
 exact Jq<|Jf3 R<|Jx2 R (dcf k)<|Jc1<|Jt<|Jt<|Jb1<|Oh h<|Jw1 _ ⟨p,c,i,g,R,Fct,G,R⟩<|KM R
 refine Ob h λZ h N=>Jq<|Jf3 R<|Jw2 R (dct k)<|Js<|Jp<|Jq<|Jv<|Jm3 2 R<|Ji4 p 3 [a] R Y31 bG R λW X _ y _ H=>Tv<|Ob h λV T h=>Jd4 y E6 2 [] R Y31 bG R Fct (EV (bO _) H.rdc) bJ T R λC D _ z _ I=>Tv<|Jc 1 R<|Jz<|Jp<|Jg3 R<|wr2 s k M ▸ ?_
 cases h
 exact Ja2 ⟨z,a+1,V,C,D,R,Fct,I,nxz s,nxm k,N⟩ R
 rintro _ _ ⟨x,m,j,f,rfl,_,F,rfl⟩
 exact have h:=yI L;Jp (Jf3 R<|Ju<|Jb2 (l:=[.tmp 2]) results40 (Jq2 R R) R<|Oh h<|⟨x,j,f,R,Fct,F⟩)
theorem vH {G F I H}{p0:Arena}(aL:Rd Ri J w 0 G F p0.Owner) (A:Rd Rs J w 0 I H p0.Next){r:VV}(h:pt p0=some r):Ret prog 109 [.agg #[.slice G p0.Owner.length F,.slice I p0.Next.length H]] w (Pvs (ER E6 2) 31 J w r):=by
 refine Jp3 J func109 R ntmps109 R λaM=>Jj3<|Jx3 J 2 R λ_ _ ac ai L=>Tv<|Jb 1 R<|Jj3<|Je3 R U62 R Z31<|Jc3 R I31 (L.ld 0 R R)<|Js3 R U31 R R<|Ob h λj aE h=>Jl1 (J:=ac) (E:=(ER E6 2)) (z:=([]:VI)) 3 R R R R R R R Y32 bL R R R R R (λ_ _ _=>⟨none,0,R,Ow.nil⟩) (Jv2 aE) λk m Y x E ar=>Tv<|Jb 1 R<|Jq<|Jj3<|Je3 R U62 R Z32<|Jc3 R I32 ((L.stp E).ld 1 R R)<|Js3 R U32 R R<|Jb 1 R<|Ob h λV aC au=>Jt3 [3] (λd f b=>∃c,∃v:VV,f=d/\Stp [3,5] x Y c b/\Oc (ER E6 2) 31 c b 3 k m v/\j.length=v.length/\V=EW v) (Jv<|Ju3 [3,13,14] (λa d f b=>∃c e,∃g:VV,f=(15,vi e)::d/\Stp [3,5] x Y c b/\Oc (ER E6 2) 31 c b 3 k m g/\j.length=g.length/\0<=e/\ES ((p0.Next.length:Int)-e)=a/\cntM (km p0) a e g=some V) ⟨_,_,⟨x,0,j,R,Jo3,ar,R,(by decide),(by simp),aC⟩,(KM R)⟩ ?_) ?_
 rintro a _ X ⟨p,e,g,rfl,ah,K,Q,N,s,h⟩
 rcases a with _|a
 exact Jf3 R<|Jq<|Jx2 R (dcf s)<|Jc1<|Jt<|Jt<|Jb1<|Oh h<|Jw1 _ ⟨p,g,R,Fct,K,Q,R⟩<|KM R
 refine Ob h λaN h aw=>Jf3 R<|Jq<|Jw2 R (dct s)<|Js<|Jp<|Jq<|Jv<|Jl3 1 R<|Ob h λZ S h=>Jd3 R A S U32 Z31 ?_
 obtain⟨_,_,y,ay⟩:=(A.stp (T3 ai E ah)).gSl S
 refine Jc3 R I31 ay<|Jb 2 R<|Jl3 1 R<|Js3 R U31 R R<|Jb 1 R<|Ob h λW aD av=>Jt3 [3,13,14,15] (λd f b=>∃c,∃o:VV,f=d/\Stp [3,5] p X c b/\Oc (ER E6 2) 31 c b 3 k m o/\j.length=o.length/\W=EW o) (Jv<|Ju3 [3,4,13,14,15,20,21] (λa d f b=>∃c i,∃n:VV,f=(22,vi i)::d/\Stp [3,5] p X c b/\Oc (ER E6 2) 31 c b 3 k m n/\j.length=n.length/\0<=i/\ES ((Z.length:Int)-i)=a/\cntM (kn e Z) a i n=some W) ⟨_,_,⟨p,0,g,R,Jo3,K,Q,(by decide),(by simp),aD⟩,(KM R)⟩ ?_) ?_
 rintro a _ _ ⟨C,i,n,rfl,aj,q,u,O,t,h⟩
 rcases a with _|a
 exact Jf3 R<|Jq<|Jx2 R (dcf t)<|Jc1<|Jt<|Jt<|Jb1<|Oh h<|Jw1 _ ⟨C,n,R,Fct,q,u,R⟩<|KM R
 refine Ob h λaO h ax=>Jf3 R<|Jq<|Jw2 R (dct t)<|Js<|Jp<|Jq<|Jv<|Jj3<|Ob h λ_ T h=>Jd3 R y T U31 Z2<|Jc3 R I2 ((y.stp aj).gInt T)<|Jb 1 R<|Jm3 4 R<|Ob h λ_ B h=>Jf R (Jg2 q.rdc B U32 Z31 R R u R) ?_
 obtain⟨_,_,_,P⟩:=q.rdc.gSl B
 refine Jc3 R I31 P<|Jn 1 R<|Ji4 C 4 [e] R Y31 bG R λaJ aK _ _ D an=>Tv<|?_
 have M:=q.stp D
 obtain⟨ae,ak,ao,_⟩:=M.borrow B (P _ (Stp.ag D R)) 5 R R
 refine Ob h λ_ aF h=>Jd4 ae E6 5 [] R Y31 bG R ao (EV (bO _) (an.stp ak).rdc) bJ aF R λaH aI _ af _ ap=>Tv<|Ob h λ_ aG h=>Jf R (Jg2 M.rdc aG U32 Z31 R R u R) (Ob h λaa U h=>WO.stH (J:=af) (E:=(ER E6 2)) 3 [5] R R R R R R R R Z31 R ⟨_,_,R,ap⟩ R R Fct U λ_ ag _ aq=>Tv<|have aB:j.length=aa.length:=u.trans (Ju2 U).2.2.2.symm;Jo (Jz<|Jp<|Jg3 R<|wr2 O t y.len_le ▸ ?_))
 cases h
 exact Ja2 ⟨ag,i+1,aa,R,Fct,aq,aB,nxz O,nxm t,ax⟩ R
 rintro _ _ ⟨ad,o,rfl,_,am,aA,rfl⟩
 refine have h:=yI av;Jz (Jp<|Jg3 R<|wr2 N s A.len_le ▸ ?_)
 cases h
 exact Ja2 ⟨ad,e+1,o,R,Fct,am,aA,nxz N,nxm s,aw⟩ R
 rintro _ _ ⟨ab,v,rfl,_,_,az,rfl⟩
 exact have h:=yI au;Jp (Jf3 R<|Ju<|Jb2 (l:=[.tmp 2]) results109 (Jq2 R R) R<|Oh h<|⟨(λal=>ren [(3,2)]<|ab al),k,m,(by simp only[az]),Fct,Fct⟩)
theorem xj {x v A y}{p0:Arena}{u F}{p1:VI}(ab:Rd Ri J w 0 x v p0.Owner) (ac:Rd Rs J w 0 A y p0.Next) (q:Rd Ri J w 0 u F p1){r:VB}(h:qF p0 p1=some r):Ret prog 110 [.agg #[.slice x p0.Owner.length v,.slice A p0.Next.length y],.slice u p1.length F] w (Pvs EQ 4 J w r):=by
 refine Jp3 J func110 R ntmps110 R λad=>Jj3<|Jx3 J 2 R λ_ _ K N S=>Tv<|Jb 1 R<|Jj3<|Je3 R U62 R Z31<|Jc3 R I31 (S.ld 0 R R)<|Js3 R U31 R R<|Ob h λj Z h=>Jl1 (J:=K) (E:=EQ) (z:=(false:Bool)) 3 R R R R R R R Y129 cI R R R R R (λ_ _ _=>R) (Jv2 Z) λn o G k O T=>Tv<|Jb 1 R<|Jq<|Jl3 1 R<|Js3 R U31 R R<|Jb 1 R<|Ob h λE Y U=>Jt3 [5] (λb m e=>∃f,∃i:VB,m=b/\Stp [3] k G f e/\Oc EQ 4 f e 3 n o i/\j.length=i.length/\E=EW i) (Jv<|Ju3 [5,12,13] (λc b m e=>∃f a,∃d:VB,m=(14,vi a)::b/\Stp [3] k G f e/\Oc EQ 4 f e 3 n o d/\j.length=d.length/\0<=a/\ES ((p1.length:Int)-a)=c/\cntM (lU p1) c a d=some E) ⟨_,_,⟨k,0,j,R,Jo3,T,R,(by decide),(by simp),Y⟩,(KM R)⟩ ?_) ?_
 rintro c _ _ ⟨t,a,d,rfl,M,p,s,B,g,h⟩
 rcases c with _|c
 exact Jf3 R<|Jq<|Jx2 R (dcf g)<|Jc1<|Jt<|Jt<|Jb1<|Oh h<|Jw1 _ ⟨t,d,R,Fct,p,s,R⟩<|KM R
 refine Ob h λae h V=>Jf3 R<|Jq<|Jw2 R (dct g)<|Js<|Jp<|Jq<|Jv<|Jj3<|Ob h λ_ C h=>Jd3 R q C U31 Z2<|Jc3 R I2 ((q.stp<|T3 N O M).gInt C)<|Jb 1 R<|Jm3 2 R<|Ob h λ_ aa h=>Jf R (Jg2 p.rdc aa U129 Z4 R R s R) (Ob h λH D h=>Jk1 (J:=t) (E:=EQ) 3 [] R R R R R R R R Z4 R R R R p D λ_ L _ Q=>Tv<|have X:j.length=H.length:=s.trans (Ju2 D).2.2.2.symm;Jo (Jz<|Jp<|Jg3 R<|wr2 B g q.len_le ▸ ?_))
 cases h
 exact Ja2 ⟨L,a+1,H,R,Fct,Q,X,nxz B,nxm g,V⟩ R
 rintro _ _ ⟨I,i,rfl,_,_,W,rfl⟩
 exact have h:=yI U;Jp (Jf3 R<|Ju<|Jb2 (l:=[.tmp 4]) results110 (Jq2 R R) R<|Oh h<|⟨(λP=>ren [(3,2)]<|I P),n,o,(by simp only[W]),Fct,Fct⟩)
theorem yC {q u x s v t}{p0:Parity}{p D}{p1:VI}(N:Rd Ri J w 0 q u p0.Arena.Owner) (O:Rd Rs J w 0 x s p0.Arena.Next) (y:Rd Ri J w 0 v t p0.Prio) (i:Rd Ri J w 0 p D p1){r:Int}(h:sG p0 p1=some r):Ret prog 173 [.agg #[.slice q p0.Arena.Owner.length u,.slice x p0.Arena.Next.length s,.slice v p0.Prio.length t],.slice p p1.length D] w (Pvi J w r):=by
 refine Jp3 J func173 R ntmps173 R λP=>Jj3<|Jx3 J 2 R λ_ E e o I=>Tv<|Jb 1 R<|Jf3 R<|Jq<|Jl3 1 R<|Js3 R U31 R R<|Jb 1 R<|Ob h λC M K=>Jx1 (λf k=>∃m j,f=[(5,vi j)]/\Stp [] e E m k/\C=EW j) (Jv<|Ju3 [2,8,9] (λc G f k=>∃m b a,f=(5,vi a)::(10,vi b)::G/\Stp [] e E m k/\0<=b/\ES ((p1.length:Int)-b)=c/\cntM (nA p0 p1) c b a=some C) ⟨_,_,⟨e,0,((-1):Int),R,Jo3,(by decide),(by simp),M⟩,(KM R)⟩ ?_) ?_
 rintro c _ _ ⟨n,b,a,rfl,g,z,d,h⟩
 rcases c with _|c
 exact Jf3 R<|Jq<|Jx2 R (dcf d)<|Jc1<|Jt<|Jt<|Jb1<|Oh h<|Jw1 _ ⟨n,a,R,Fct,R⟩<|KM R
 refine Ob h λo5 h L=>Jf3 R<|Jq<|Jw2 R (dct d)<|Js<|Jp<|Jq<|Jv<|Jj3<|Ob h λ_ A h=>Jd3 R i A U31 Z2<|Jc3 R I2 ((i.stp<|o.tr g).gInt A)<|Jb 1 R<|Jm3 1 R<|Je3 R U66 R Z31<|Jc3 R I31 ((I.stp g).ld 2 R R)<|Jn 1 R<|Ob h λF B h=>Jd3 R y B U31 Z2<|Jc3 R I2 ((y.stp<|o.tr g).gInt B)<|Jf R (vW R R R)<|Jc 1 R<|Jz<|Jp<|Jg3 R<|wr2 z d i.len_le ▸ ?_
 cases h
 exact Ja2 ⟨n,b+1,((if a<F then F else a):Int),R,Fct,nxz z,nxm d,L⟩ R
 rintro _ _ ⟨H,j,rfl,_,rfl⟩
 exact have h:=yI K;Jp (Jf3 R<|Ju<|Jb2 (l:=[.tmp 4]) results173 (Jq2 R R) R<|Oh h<|⟨H,R,Fct⟩)
theorem iK {v G}{p0:VB}{x H}{p1:VB}(o:Rd Rp.bool J w 0 v G p0) (A:Rd Rp.bool J w 0 x H p1){r:VB}(h:gA p0 p1=some r):Ret prog 113 [.slice v p0.length G,.slice x p1.length H] w (Pvs EQ 4 J w r):=by
 refine Jp3 J func113 R ntmps113 R λad=>Jf3 R<|Jl3 1 R<|Js3 R U129 R R<|Ob h λj aa h=>Jl1 (J:=J) (E:=EQ) (z:=(false:Bool)) 2 R R R R R R R Y129 cI R R R R R (λ_ _ _=>R) (Jv2 aa) λn q I k u Q=>Tv<|Jb 1 R<|Jq<|Jl3 1 R<|Js3 R U129 R R<|Jb 1 R<|Ob h λF X T=>Jt3 [5] (λb m e=>∃f,∃i:VB,m=b/\Stp [2] k I f e/\Oc EQ 4 f e 2 n q i/\j.length=i.length/\F=EW i) (Jv<|Ju3 [0,1,5,11] (λc b m e=>∃f a,∃d:VB,m=(12,vi a)::b/\Stp [2] k I f e/\Oc EQ 4 f e 2 n q d/\j.length=d.length/\0<=a/\ES ((p0.length:Int)-a)=c/\cntM (kv p0 p1) c a d=some F) ⟨_,_,⟨k,0,j,R,Jo3,Q,R,(by decide),(by simp),X⟩,(KM R)⟩ ?_) ?_
 rintro c _ ac ⟨s,a,d,rfl,t,y,p,B,g,h⟩
 rcases c with _|c
 exact Jf3 R<|Jq<|Jx2 R (dcf g)<|Jc1<|Jt<|Jt<|Jb1<|Oh h<|Jw1 _ ⟨s,d,R,Fct,y,p,R⟩<|KM R
 refine Ob h λo5 h U=>Jf3 R<|Jq<|Jw2 R (dct g)<|Js<|Jp<|Jq<|Jv<|Jf3 R<|Jm3 4 R<|Ob h λae C h=>Jd3 R o C U129 Z4<|Jc3 R I4 ((o.stp<|u.tr t).gBool C)<|Jn 1 R<|Ob h λab h S=>Jk4 [0,1,5,11,12,15,16] 27 ab s ac 6 tv ?_ ?_
 exact Bk h (λY h=>Jn 3 R<|Je4 R<|Jn 2 R<|Oh h<|Jl4 tv R) (λY h=>Jn 2 R<|Ob h λ_ D h=>Jd3 R A D U129 Z4<|Jc3 R I4 ((A.stp<|u.tr t).gBool D)<|Jn 2 R<|Oh h<|Jl4 tv R)
 rintro _ _ _ ⟨rfl,L,_⟩
 refine Ob S λ_ Z h=>Jf R (Jg2 y.rdc Z U129 Z4 R R p R) (Ob h λK E h=>Jk1 (J:=L) (E:=EQ) 2 [] R R R R R R R R Z4 R R R R Fct E λ_ M _ P=>Tv<|have W:j.length=K.length:=p.trans (Ju2 E).2.2.2.symm;Jo (Jz<|Jp<|Jg3 R<|wr2 B g o.len_le ▸ ?_))
 cases h
 exact Ja2 ⟨M,a+1,K,R,Fct,P,W,nxz B,nxm g,U⟩ R
 rintro _ _ ⟨N,i,rfl,_,O,V,rfl⟩
 exact have h:=yI T;Jp (Jf3 R<|Ju<|Jb2 (l:=[.tmp 4]) results113 (Jq2 R R) R<|Oh h<|⟨N,n,q,(by simp only[V]),Fct,O⟩)
theorem lH {j q}{p0:VB}{p1:Bool}(f:Rd Rp.bool J w 0 j q p0){r:Int}(h:fh p0 p1=some r):Ret prog 201 [.slice j p0.length q,.bool p1] w (Pvi J w r):=by
 refine Jp3 J func201 R ntmps201 R λy=>Jf3 R<|Jq<|Jl3 1 R<|Js3 R U129 R R<|Jb 1 R<|Ob h λp v k=>Jx1 (λe g=>∃i,e=[]/\Stp [] J w i g/\p=EW ()) (Jv<|Ju3 [0,1,7] (λb s e g=>∃i a,e=(8,vi a)::s/\Stp [] J w i g/\0<=a/\ES ((p0.length:Int)-a)=b/\cntM (dw p0 p1) b a ()=some p) ⟨_,_,⟨J,0,R,Jo3,(by decide),(by simp),v⟩,(KM R)⟩ ?_) ?_
 rintro b _ _ ⟨d,a,rfl,u,m,c,h⟩
 rcases b with _|b
 exact Jf3 R<|Jq<|Jx2 R (dcf c)<|Jc1<|Jt<|Jt<|Jb1<|Oh h<|Jw1 _ ⟨d,R,Fct,R⟩ KN
 refine Ob h λz h n=>Jf3 R<|Jq<|Jw2 R (dct c)<|Js<|Jp<|Jq<|Jv<|Jf3 R<|Jl3 3 R<|Ob h λA o h=>Jd3 R f o U129 Z4<|Jc3 R I4 ((f.stp u).gBool o)<|Jf R (zH R R U4 R)<|Jd ?_
 refine Bk h (λx h=>Jy R<|Js<|Jz<|Jp<|Jg3 R<|wr2 m c f.len_le ▸ ?_) (λx h=>Jx R<|Jf3 R<|Ju<|Ja1<|Jw<|Jw ?_)
 cases h
 exact Ja2 ⟨d,a+1,R,Fct,nxz m,nxm c,n⟩ R
 cases h
 obtain rfl:=EU n
 exact have h:=yL k;Ja1 (Jr2<|Jw<|Jb2 (l:=[.tmp 4]) results201 (Jq2 R R) R<|Oh h<|⟨d,R,Fct⟩)
 rintro _ _ ⟨t,rfl,_,rfl⟩
 exact have h:=yI k;Jp (Jf3 R<|Ju<|Jb2 (l:=[.tmp 4]) results201 (Jq2 R R) R<|Oh h<|⟨t,R,Fct⟩)
theorem rE {p0:Int}{b g}{c0:VL}{c1:Int}{c d}(e:Rd Place.rp J w 0 b g c0) (i:Bc J w 0 c 67 [.slice b c0.length g]) (j:Bc J w 0 d 2 [vi c1]){r:Bool}(h:jF p0 c0 c1=some r):Ret prog 67 [vi p0,.pointer (some ⟨c,0,none⟩),.pointer (some ⟨d,0,none⟩)] w (Pvb J w r):=by
 refine Jp3 J func67 R ntmps67 R λs=>Jf3 R<|Jq<|Xn J [0] [5,0,8,11,12,15,20,23] λ_ a=>Jn 1 R<|Jg R (Jd2 isAgg67 R R<|hvC ((i.stp a).ld 0 R R) R)<|Ob h λ_ f h=>Jd3 R e f U67 Z76<|Je3 R U76 R Z2 ?_
 obtain⟨_,m,k⟩:=((e.stp a)).gSt f
 obtain⟨p,t,rfl,q⟩:=Place.un m
 exact Jg R (Jd2 I2 R R<|hvC (λo n=>k o n 0 _ R) R)<|Jg R (Jd2 I2 R R<|hvC ((j.stp a).ld 0 R R) R)<|Jn 2 R<|Jt1<|Jd<|Ju<|Jb2 (l:=[.tmp 4]) results67 (Jq2 R R) R<|Oh h<|⟨J,R,Fct⟩
theorem qA {p0:Int}{c0:Int}{a}(c:Bc J w 0 a 2 [vi c0]){r:Bool}(h:fN p0 c0=some r):Ret prog 133 [vi p0,.pointer (some ⟨a,0,none⟩)] w (Pvb J w r):=by
 refine Jp3 J func133 R ntmps133 R λg=>Jf3 R<|Jl3 3 R<|Ob h λf h d=>Jk4 [1,3] 10 f J w 4 tv ?_ ?_
 exact Bk h (λe h=>Jn 1 R<|Jc3 R I2 (c.ld 0 R R)<|Jn 2 R<|Oh h<|Jl4 tv R) (λe h=>Jn 1 R<|Je4 R<|Jn 2 R<|Oh h<|Jl4 tv R)
 rintro _ _ _ ⟨rfl,b,_⟩
 exact have h:=d;Jb 1 R (Ju<|Jb2 (l:=[.tmp 3]) results133 (Jq2 R R) R<|Oh h<|⟨b,R,Fct⟩)
theorem dB {p0:Int}{p1:Int}{p2:Int}  {r:Bool}(h:fF p0 p1 p2=some r):Ret prog 92 [vi p0,vi p1,vi p2] w (Pvb J w r):=by
 refine Jp3 J func92 R ntmps92 R λe=>Jf3 R<|Jl3 4 R<|Ob h λd h b=>Jk4 [6] 14 d J w 4 tv ?_ ?_
 exact Bk h (λc h=>Jn 4 R<|Oh h<|Jl4 tv R) (λc h=>Jn 4 R<|Oh h<|Jl4 tv R)
 rintro _ _ _ ⟨rfl,a,_⟩
 exact have h:=b;Jb 1 R (Ju<|Jb2 (l:=[.tmp 6]) results92 (Jq2 R R) R<|Oh h<|⟨a,R,Fct⟩)
theorem wx {p0:Int}  {r:Bool}(h:rR p0=some r):Ret prog 190 [vi p0] w (Pvb J w r):=by
 refine Jp3 J func190 R ntmps190 R λk=>Jf3 R<|Jl3 3 R<|Ob h λi h c=>Jk4 [0,2] 8 i J w 3 tv ?_ ?_
 exact Bk h (λe h=>Jn 3 R<|Oh h<|Jl4 tv R) (λe h=>Jn 3 R<|Oh h<|Jl4 tv R)
 rintro _ j _ ⟨rfl,a,_⟩
 refine Jn 1 R<|Ob c λg h d=>Jk4 [2] 12 g a j 3 tv ?_ ?_
 exact Bk h (λf h=>Jn 3 R<|Oh h<|Jl4 tv R) (λf h=>Jn 3 R<|Oh h<|Jl4 tv R)
 rintro _ _ _ ⟨rfl,b,_⟩
 exact have h:=d;Jb 1 R (Ju<|Jb2 (l:=[.tmp 2]) results190 (Jq2 R R) R<|Oh h<|⟨b,R,Fct⟩)
theorem wC {p0:Int}  {r:Pair}(h:pN p0=some r):Ret prog 148 [vi p0] w (λag c=>∃d G I H K,ag= .agg #[.slice G r.Ask.length I,.slice H r.Give.length K]/\Ent J w d c/\Oc E6 2 d c 2 G I r.Ask/\Oc E6 2 d c 3 H K r.Give):=by
 refine Jp3 J func148 R ntmps148 R λai=>Jj3<|Jy3 J 2 R X96 R λ_ ah e _ _=>Tv<|Jd<|Jq<|Jf3 R<|Jv<|Jq<|Jf3 R<|Ob h λaf h Y=>Jt3 [2,3] (λM Q c=>∃d,Q=(4,.bool af)::M/\Stp [] e ah d c) ?_ ?_
 exact Bk h (λae h=>Jy R<|Jg3 R<|Oh h<|Jw1 _ ⟨e,R,Jo3⟩<|KM R) (λae h=>Jx R<|Js<|Oh h<|Jw1 _ ⟨e,R,Jo3⟩<|KM R)
 rintro _ _ ⟨b,rfl,_⟩
 refine have h:=Y;Jp ?_
 refine Bk h (λZ h=>Jy R<|Jf3 R ?_) (λZ h=>Jx R<|Jj3<|Ji4 b 3 [1] R Y31 bG R λn L _ f _ _=>Tv<|Jf R (Jn4 [.slice n ([1]:VI).length L,.slice none 0 0] R)<|Jm4 f 2 R Z96 R Fct R λ_ _ S=>Tv<|Jd<|Ju<|Ja1<|Jw<|Jb2 (l:=[.cell 2 96]) V148 (bM R S I96 Z96 R R) R<|Oh h<|⟨(λa=>ren [(3,2)]<|f a),n,L,none,0,R,Fct,Fct,Ow.nil⟩)
 refine Bk h (λaa h=>Jy R<|Jf3 R ?_) (λaa h=>Jx R<|Jj3<|Ji4 b 3 [2] R Y31 bG R λp y _ g _ _=>Tv<|Jf R (Jn4 [.slice p ([2]:VI).length y,.slice none 0 0] R)<|Jm4 g 2 R Z96 R Fct R λ_ _ T=>Tv<|Jd<|Ju<|Ja1<|Jw<|Jb2 (l:=[.cell 2 96]) V148 (bM R T I96 Z96 R R) R<|Oh h<|⟨(λa=>ren [(3,2)]<|g a),p,y,none,0,R,Fct,Fct,Ow.nil⟩)
 refine Bk h (λab h=>Jy R<|Jf3 R ?_) (λab h=>Jx R<|Jj3<|Ji4 b 3 [1] R Y31 bG R λq x _ N _ _=>Tv<|Ji4 N 4 [0] R Y31 bG R λu A _ i _ _=>Tv<|Jf R (Jn4 [.slice q ([1]:VI).length x,.slice u ([0]:VI).length A] R)<|Jm4 i 2 R Z96 R Fct R λ_ _ U=>Tv<|Jd<|Ju<|Ja1<|Jw<|Jb2 (l:=[.cell 2 96]) V148 (bM R U I96 Z96 R R) R<|Oh h<|⟨(λa=>ren [(3,2),(4,3)]<|i a),q,x,u,A,R,Fct,Fct,Fct⟩)
 refine Bk h (λac h=>Jy R<|Jf3 R ?_) (λac h=>Jx R<|Jj3<|Ji4 b 3 [0,1] R Y31 bG R λz E _ O _ _=>Tv<|Ji4 O 4 [1] R Y31 bG R λt D _ j _ _=>Tv<|Jf R (Jn4 [.slice z ([0,1]:VI).length E,.slice t ([1]:VI).length D] R)<|Jm4 j 2 R Z96 R Fct R λ_ _ V=>Tv<|Jd<|Ju<|Ja1<|Jw<|Jb2 (l:=[.cell 2 96]) V148 (bM R V I96 Z96 R R) R<|Oh h<|⟨(λa=>ren [(3,2),(4,3)]<|j a),z,E,t,D,R,Fct,Fct,Fct⟩)
 exact Bk h (λad h=>Jy R<|Js<|Jz<|Jp<|Jj3<|Ji4 b 3 [2,3] R Y31 bG R λC s _ P _ _=>Tv<|Ji4 P 4 [1,3] R Y31 bG R λv o _ m _ _=>Tv<|Jf R (Jn4 [.slice C ([2,3]:VI).length s,.slice v ([1,3]:VI).length o] R)<|Jm4 m 2 R Z96 R Fct R λ_ _ X=>Tv<|Jd<|Ju<|Jb2 (l:=[.cell 2 96]) V148 (bM R X I96 Z96 R R) R<|Oh h<|⟨(λa=>ren [(3,2),(4,3)]<|m a),C,s,v,o,R,Fct,Fct,Fct⟩) (λad h=>Jx R<|Jj3<|Ji4 b 3 [0] R Y31 bG R λF B _ k _ _=>Tv<|Jf R (Jn4 [.slice F ([0]:VI).length B,.slice none 0 0] R)<|Jm4 k 2 R Z96 R Fct R λ_ _ W=>Tv<|Jd<|Ju<|Ja1<|Jw<|Jb2 (l:=[.cell 2 96]) V148 (bM R W I96 Z96 R R) R<|Oh h<|⟨(λa=>ren [(3,2)]<|k a),F,B,none,0,R,Fct,Fct,Ow.nil⟩)
theorem p6 {m z}{p0:VV}{p1:Int}{p2:Int}(f:Rd Rs J w 0 m z p0){r:Int}(h:js p0 p1 p2=some r):Ret prog 45 [.slice m p0.length z,vi p1,vi p2] w (Pvi J w r):=by
 refine Jp3 J func45 R ntmps45 R λM=>Jf3 R<|Jq<|Jf3 R<|Ob h λy G p=>Jx1 (λd g=>∃i,d=[]/\Stp [] J w i g/\y=EW ()) (Jv<|Ju3 [0,1,2] (λb A d g=>∃i a,d=(7,vi a)::A/\Stp [] J w i g/\0<=a/\ES ((p0.length:Int)-a)=b/\cntM (jW p0 p1 p2) b a ()=some y) ⟨_,_,⟨J,0,R,Jo3,(by decide),(by simp),G⟩,(KM R)⟩ ?_) ?_
 rintro b _ L ⟨k,a,rfl,C,q,c,h⟩
 rcases b with _|b
 exact Jq<|Jl3 2 R<|Js3 R U32 R R<|Jb 1 R<|Jx2 R (dcf c)<|Jc1<|Jt<|Jt<|Jb1<|Oh h<|Jw1 _ ⟨k,R,Fct,R⟩ KN
 refine Ob h λN h s=>Jq<|Jl3 2 R<|Js3 R U32 R R<|Jb 1 R<|Jw2 R (dct c)<|Js<|Jp<|Jq<|Jv<|Jl3 2 R<|Ob h λ_ t h=>Jd3 R f t U32 Z31 ?_
 have e:=f.stp C
 obtain⟨_,_,n,E⟩:=e.gSl t
 refine Jc3 R I31 E<|Ob h λO u h=>Jd3 R n u U31 Z2<|Jc3 R I2 (n.gInt u)<|Jn 3 R<|Ob h λK h D=>Jk4 [0,1,2,7] 31 K k L 9 tv ?_ ?_
 refine Bk h (λH h=>Jn 3 R<|Je4 R<|Jn 1 R<|Je4 R<|Jn 3 R<|Oh h<|Jl4 tv R) (λH h=>Jn 2 R<|Ob h λ_ v h=>Jd3 R e v U32 Z31 ?_)
 obtain⟨_,_,o,F⟩:=e.gSl v
 exact Jc3 R I31 F<|Ob h λ_ x h=>Jd3 R o x U31 Z2<|Jc3 R I2 (o.gInt x)<|Jn 3 R<|Oh h<|Jl4 tv R
 rintro _ _ _ ⟨rfl,j,_⟩
 refine have h:=D;Jd ?_
 refine Bk h (λI h=>Jy R<|Js<|Jz<|Jp<|Jg3 R<|wr2 q c f.len_le ▸ ?_) (λI h=>Jx R<|Jf3 R<|Ju<|Ja1<|Jw<|Jw ?_)
 cases h
 exact Ja2 ⟨j,a+1,R,Fct,nxz q,nxm c,s⟩ R
 cases h
 obtain rfl:=EU s
 exact have h:=yL p;Ja1 (Jr2<|Jw<|Jb2 (l:=[.tmp 6]) results45 (Jq2 R R) R<|Oh h<|⟨j,R,Fct⟩)
 rintro _ _ ⟨B,rfl,_,rfl⟩
 exact have h:=yI p;Jp (Jf3 R<|Ju<|Jb2 (l:=[.tmp 6]) results45 (Jq2 R R) R<|Oh h<|⟨B,R,Fct⟩)
theorem dv {a b}{p0:VI}(k:Rd Ri J w 0 a b p0){r:VI}(h:dj p0=some r):Ret prog 95 [.slice a p0.length b] w (Pvs E6 2 J w r):=by
 exact Jp3 J func95 R ntmps95 R λm=>Jf3 R<|Jj3<|Jc4 J E6 2 R Y31 bG R λ_ _ _ c _ f=>Tv<|Jn 1 R<|Ob h λ_ i h=>Jd4 c E6 2 [] R Y31 bG R f (EV (bO _) Fct) bJ i R λe j _ d _ g=>Tv<|Jb 1 R<|Ju<|Jb2 (l:=[.tmp 2]) results95 (Jq2 R R) R<|Oh h<|⟨d,e,j,R,Fct,g⟩
theorem uj {K V}{p0:VI}(j:Rd Ri J w 0 K V p0){r:VI}(h:ml p0=some r):Ret prog 127 [.slice K p0.length V] w (Pvs E6 2 J w r):=by
 refine Jp3 J func127 R ntmps127 R λaP=>Jf3 R<|Jj3<|Jc4 J E6 2 R Y31 bG R λag aD W u G al=>Tv<|Jb 1 R<|Jq<|Jf3 R<|Ob h λT aw ar=>Jx1 (λd b=>∃c,∃t:VI,∃p n,d=[(3,.slice p t.length n)]/\Stp [3] u W c b/\Oc E6 2 c b 2 p n t/\T=EW t) (Jv<|Ju3 [0] (λa g d b=>∃c f,∃e:VI,∃q o,d=(3,.slice q e.length o)::(4,vi f)::g/\Stp [3] u W c b/\Oc E6 2 c b 2 q o e/\0<=f/\ES ((p0.length:Int)-f)=a/\cntM (iX p0) a f e=some T) ⟨_,_,⟨u,0,([]:VI),ag,aD,R,Jo3,al,(by decide),(by simp),aw⟩,(KM R)⟩ ?_) ?_
 rintro a _ X ⟨m,f,e,q,o,rfl,v,i,L,s,h⟩
 rcases a with _|a
 exact Jq<|Jl3 2 R<|Js3 R U31 R R<|Jb 1 R<|Jx2 R (dcf s)<|Jc1<|Jt<|Jt<|Jb1<|Oh h<|Jw1 _ ⟨m,e,q,o,R,Fct,i,R⟩<|KM R
 refine Ob h λo5 h au=>Jq<|Jl3 2 R<|Js3 R U31 R R<|Jb 1 R<|Jw2 R (dct s)<|Js<|Jp<|Jq<|Jv<|Jl3 1 R<|Js3 R U31 R R<|Jb 1 R<|Jq<|Ob h λU av ap=>Jt3 [0,3,4] (λg d b=>∃c B,d=(5,vi B)::g/\Stp [] m X c b/\U=EW B) (Jv<|Ju3 [0,3,4] (λa g d b=>∃c k,d=(5,vi k)::g/\Stp [] m X c b/\bQ (iY p0 f e) a k=some U) ⟨_,_,⟨m,((e.length:Int):Int),R,Jo3,av⟩,(KM R)⟩ ?_) ?_
 rintro a _ _ ⟨C,k,rfl,E,h⟩
 rcases a with _|a
 cases h
 refine Ob h λ_ h M=>Jq<|Jq<|Xn C [0,2] [2,5,8,11,14,17,20,26,29,32,21,33,38,41] λaE F=>Jn 3 R<|Ob h λaC h aq=>Jk4 [0,3,4,5] 29 aC C aE 11 (Cl.refl _ _ _) ?_ ?_
 exact Bk h (λax h=>Jn 7 R<|Jf4 R<|Jf4 R<|Jn 2 R<|Oh h<|Jv1 _ (Cl.refl _ _ _) ⟨R,_,Jo3⟩<|KM R) (λax h=>Jn 3 R<|Ob h λ_ N h=>Jd3 R i.rdc N U31 Z2<|Jn 2 R<|Ob h λ_ O h=>Jd3 R j O U31 Z2<|Jg R (Jd2 I2 R R<|hvC ((i.stp<|E.tr F).rdc.gInt N) R)<|Jg R (Jd2 I2 R R<|hvC ((j.stp<|T4 G v E F).gInt O) R)<|Jn 2 R<|Oh h<|Jv1 _ (Cl.refl _ _ _) ⟨R,_,Jo3⟩<|KM R)
 rintro _ _ _ ⟨rfl,D,_⟩
 refine have h:=aq;Jt1 (Jd ?_)
 refine Bk h (λay h=>Jy R<|Jc1<|Jt<|Jt ?_) (λay h=>Jx R<|Js<|Jp<|Jv<|Jg3 R<|Jz ?_)
 cases h
 exact have h:=M;Jb1 (Oh h<|Jw1 _ ⟨D,k,R,Fct,R⟩<|KM R)
 cases h
 exact Ja2 ⟨D,((ET .i64<|k-1):Int),R,Fct,M⟩ R
 rintro _ _ ⟨Y,B,rfl,x,rfl⟩
 refine have h:=yI ap;Jp (Jj3<|Jc4 Y E6 3 R Y31 bG R λaK aJ _ Z y am=>Tv<|Jn 2 R<|Ob h λ_ P h=>Jf R (iQ (k1:= .i64) (k2:= .i64) U31 Z2 (.inl ⟨R,R⟩) (.inr ⟨_,R,R⟩) P i.rdc.1 R R R) (have A:=i.stp (x.tr y);Ob h λ_ az h=>Jd4 Z E6 3 [] R Y31 bG R am (EV (bO _)<|A.rdc.sub P) bJ az R λaI aH _ aa z _=>Tv<|Jb 1 R<|Jl3 3 R<|Ob h λaF Q h=>Jd3 R j Q U31 Z2<|Jc3 R I2 ((j.stp<|T5 G v x y z).gInt Q)<|Ji4 aa 4 [aF] R Y31 bG R λaL aO _ ab H an=>Tv<|Ob h λ_ aA h=>Jd4 ab E6 3 [] R Y31 bG R Fct (EV (bO _) an.rdc) bJ aA R λaN aM _ ac I ao=>Tv<|Jb 1 R<|Jm3 3 R<|Ob h λ_ S h=>Jf R (iQ (k1:= .i64) (k2:= .i64) U31 Z2 (.inr ⟨_,R,R⟩) (.inl ⟨R,R⟩) S A.rdc.1 R R R)<|Ob h λaG aB h=>Jd4 ac E6 3 [] R Y31 bG R ao (EV (bO _) ((A.stp<|T3 z H I).rdc.sub S)) bJ aB R λah ai _ ad af _=>Tv<|Jc 1 R<|Jz<|Jp<|Jg3 R<|wr2 L s j.len_le ▸ ?_))
 cases h
 exact Ja2 ⟨(λaj=>ren [(3,2)]<|ad aj),f+1,aG,ah,ai,R,(Jz2 ((T7 v x y z H I af).wk R) [(3,2)] R),Fct,nxz L,nxm s,au⟩ R
 rintro _ _ ⟨ae,t,p,n,rfl,_,ak,rfl⟩
 exact have h:=yI ar;Jp (Jf3 R<|Ju<|Jb2 (l:=[.tmp 2]) results127 (Jq2 R R) R<|Oh h<|⟨ae,p,n,R,Fct,ak⟩)
theorem xX {p0:Int}{u B}{p1:VI}(p:Rd Ri J w 0 u B p1){r:VB}(h:rq p0 p1=some r):Ret prog 203 [vi p0,.slice u p1.length B] w (Pvs EQ 4 J w r):=by
 refine Jp3 J func203 R ntmps203 R λU=>Jf3 R<|Jl3 1 R<|Ob h λj T h=>Jl1 (J:=J) (E:=EQ) (z:=(false:Bool)) 2 R R R R R R R Y129 cI R R R R R (λ_ _ _=>R) (Jv2 T) λn s C k H L=>Tv<|Jb 1 R<|Jq<|Jf3 R<|Ob h λA Q M=>Jt3 [5] (λb m e=>∃f,∃i:VB,m=b/\Stp [2] k C f e/\Oc EQ 4 f e 2 n s i/\j.length=i.length/\A=EW i) (Jv<|Ju3 [1,5] (λc b m e=>∃f a,∃d:VB,m=(6,vi a)::b/\Stp [2] k C f e/\Oc EQ 4 f e 2 n s d/\j.length=d.length/\0<=a/\ES ((p1.length:Int)-a)=c/\cntM (ms p1) c a d=some A) ⟨_,_,⟨k,0,j,R,Jo3,L,R,(by decide),(by simp),Q⟩,(KM R)⟩ ?_) ?_
 rintro c _ _ ⟨t,a,d,rfl,G,o,q,v,g,h⟩
 rcases c with _|c
 exact Jq<|Jl3 2 R<|Js3 R U31 R R<|Jb 1 R<|Jx2 R (dcf g)<|Jc1<|Jt<|Jt<|Jb1<|Oh h<|Jw1 _ ⟨t,d,R,Fct,o,q,R⟩<|KM R
 refine Ob h λo5 h N=>Jq<|Jl3 2 R<|Js3 R U31 R R<|Jb 1 R<|Jw2 R (dct g)<|Js<|Jp<|Jq<|Jv<|Jm3 3 R<|Ob h λ_ x h=>Jd3 R p x U31 Z2<|Jc3 R I2 ((p.stp<|H.tr G).gInt x)<|Ob h λ_ S h=>Jf R (Jg2 o.rdc S U129 Z4 R R q R) (Ob h λD y h=>Jk1 (J:=t) (E:=EQ) 2 [] R R R R R R R R Z4 R R R R o y λ_ E _ K=>Tv<|have P:j.length=D.length:=q.trans (Ju2 y).2.2.2.symm;Jo (Jz<|Jp<|Jg3 R<|wr2 v g p.len_le ▸ ?_))
 cases h
 exact Ja2 ⟨E,a+1,D,R,Fct,K,P,nxz v,nxm g,N⟩ R
 rintro _ _ ⟨F,i,rfl,_,I,O,rfl⟩
 exact have h:=yI M;Jp (Jf3 R<|Ju<|Jb2 (l:=[.tmp 4]) results203 (Jq2 R R) R<|Oh h<|⟨F,n,s,(by simp only[O]),Fct,I⟩)
theorem se {d b g e j i f c m k}{p0:l7Game}{p1:Int}{p2:Int}(A:Rd Ri J w 0 d b p0.owner) (B:Rd Ri J w 0 g e p0.prio) (C:Rd Rs J w 0 j i p0.next) (D:Rd Rs J w 0 f c p0.prev) (o:Rd Ri J w 0 m k p0.pick){r:Bool}(h:pc p0 p1 p2=some r):Ret prog 221 [.agg #[.slice d p0.owner.length b,.slice g p0.prio.length e,.slice j p0.next.length i,.slice f p0.prev.length c,.slice m p0.pick.length k],vi p1,vi p2] w (Pvb J w r):=by
 refine Jp3 J func221 R ntmps221 R λE=>Jj3<|Jx3 J 2 R λ_ z s u n=>Tv<|Jb 1 R<|Jj3<|Je3 R U204 R Z31<|Jc3 R I31 (n.ld 4 R R)<|Jn 1 R<|Ob h λF p h=>Jd3 R o p U31 Z2 (have a:=o.stp u;Jc3 R I2 (a.gInt p) (Jn 2 R<|Ob h λy h v=>Jk4 [6] 21 y s z 8 tv ?_ ?_))
 exact Bk h (λx h=>Je3 R U204 R Z31<|Jc3 R I31 (n.ld 4 R R)<|Jn 1 R<|Ob h λ_ q h=>Jd3 R a q U31 Z2<|Jc3 R I2 (a.gInt q)<|Jn 3 R<|Oh h<|Jl4 tv R) (λx h=>Jn 1 R<|Je4 R<|Jn 2 R<|Je4 R<|Jn 3 R<|Oh h<|Jl4 tv R)
 rintro _ _ _ ⟨rfl,t,_⟩
 exact have h:=v;Jb 1 R (Ju<|Jb2 (l:=[.tmp 6]) results221 (Jq2 R R) R<|Oh h<|⟨t,R,Fct⟩)
theorem sg {p0:Int}  {r:VI}(h:rm p0=some r):Ret prog 131 [vi p0] w (Pvs E6 2 J w r):=by
 refine Jp3 J func131 R ntmps131 R λT=>Jf3 R<|Jj3<|Jc4 J E6 2 R Y31 bG R λz O t n _ G=>Tv<|Jb 1 R<|Jq<|Jf3 R (Ob h λ_ M h=>have I:=hU M;Ob h λs L H=>Jx1 (λo d=>∃e,∃m:VI,∃j f,o=[(3,.slice j m.length f)]/\Stp [2] n t e d/\Oc E6 2 e d 2 j f m/\s=EW m) (Jv<|Ju3 [0] (λb u o d=>∃e a,∃c:VI,∃i g,o=(3,.slice i c.length g)::(4,vi a)::u/\Stp [2] n t e d/\Oc E6 2 e d 2 i g c/\0<=a/\ES (p0-a)=b/\cntM mr b a c=some s) ⟨_,_,⟨n,0,([]:VI),z,O,R,Jo3,G,(by decide),(by simp),L⟩,(KM R)⟩ ?_) ?_)
 rintro b _ _ ⟨p,a,c,i,g,rfl,_,D,q,k,h⟩
 rcases b with _|b
 exact Jq<|Jf3 R<|Jx2 R (dcf k)<|Jc1<|Jt<|Jt<|Jb1<|Oh h<|Jw1 _ ⟨p,c,i,g,R,Fct,D,R⟩<|KM R
 refine Ob h λo5 h K=>Jq<|Jf3 R<|Jw2 R (dct k)<|Js<|Jp<|Jq<|Jv<|Jm3 1 R<|Ji4 p 3 [(-1)] R Y31 bG R λS Q _ v _ E=>Tv<|Ob h λP N h=>Jd4 v E6 2 [] R Y31 bG R Fct (EV (bO _) E.rdc) bJ N R λB A _ x _ F=>Tv<|Jc 1 R<|Jz<|Jp<|Jg3 R<|wr2 q k I ▸ ?_
 cases h
 exact Ja2 ⟨x,a+1,P,B,A,R,Fct,F,nxz q,nxm k,K⟩ R
 rintro _ _ ⟨y,m,j,f,rfl,_,C,rfl⟩
 exact have h:=yI H;Jp (Jf3 R<|Ju<|Jb2 (l:=[.tmp 2]) results131 (Jq2 R R) R<|Oh h<|⟨y,j,f,R,Fct,C⟩)
theorem wF {j q}{p0:VI}{p1:Int}(f:Rd Ri J w 0 j q p0){r:Bool}(h:vo p0 p1=some r):Ret prog 229 [.slice j p0.length q,vi p1] w (Pvb J w r):=by
 refine Jp3 J func229 R ntmps229 R λy=>Jf3 R<|Jq<|Jf3 R<|Ob h λp v k=>Jx1 (λe g=>∃i,e=[]/\Stp [] J w i g/\p=EW ()) (Jv<|Ju3 [0,1] (λb s e g=>∃i a,e=(5,vi a)::s/\Stp [] J w i g/\0<=a/\ES ((p0.length:Int)-a)=b/\cntM (rj p0 p1) b a ()=some p) ⟨_,_,⟨J,0,R,Jo3,(by decide),(by simp),v⟩,(KM R)⟩ ?_) ?_
 rintro b _ _ ⟨d,a,rfl,u,m,c,h⟩
 rcases b with _|b
 exact Jq<|Jl3 2 R<|Js3 R U31 R R<|Jb 1 R<|Jx2 R (dcf c)<|Jc1<|Jt<|Jt<|Jb1<|Oh h<|Jw1 _ ⟨d,R,Fct,R⟩ KN
 refine Ob h λz h n=>Jq<|Jl3 2 R<|Js3 R U31 R R<|Jb 1 R<|Jw2 R (dct c)<|Js<|Jp<|Jq<|Jv<|Jl3 2 R<|Ob h λA o h=>Jd3 R f o U31 Z2<|Jc3 R I2 ((f.stp u).gInt o)<|Jb 2 R ?_
 refine Bk h (λx h=>Jy R<|Js<|Jz<|Jp<|Jg3 R<|wr2 m c f.len_le ▸ ?_) (λx h=>Jx R<|Jf3 R<|Ju<|Ja1<|Jw<|Jw ?_)
 cases h
 exact Ja2 ⟨d,a+1,R,Fct,nxz m,nxm c,n⟩ R
 cases h
 obtain rfl:=EU n
 exact have h:=yL k;Ja1 (Jr2<|Jw<|Jb2 (l:=[.tmp 4]) results229 (Jq2 R R) R<|Oh h<|⟨d,R,Fct⟩)
 rintro _ _ ⟨t,rfl,_,rfl⟩
 exact have h:=yI k;Jp (Jf3 R<|Ju<|Jb2 (l:=[.tmp 4]) results229 (Jq2 R R) R<|Oh h<|⟨t,R,Fct⟩)
theorem xZ {m x}{p0:VI}{n y}{p1:VI}(f:Rd Ri J w 0 m x p0) (o:Rd Ri J w 0 n y p1){r:Bool}(h:rv p0 p1=some r):Ret prog 208 [.slice m p0.length x,.slice n p1.length y] w (Pvb J w r):=by
 refine Jp3 J func208 R ntmps208 R λB=>Jf3 R<|Jq<|Jl3 1 R<|Js3 R U31 R R<|Jn 1 R<|Js3 R U31 R R<|Jb 1 R ?_
 refine Bk h (λD h=>Jy R<|Js<|Jp<|Jq<|Jf3 R<|Ob h λv C p=>Jx1 (λe g=>∃i,e=[]/\Stp [] J w i g/\v=EW ()) (Jv<|Ju3 [0,1] (λb z e g=>∃i a,e=(5,vi a)::z/\Stp [] J w i g/\0<=a/\ES ((p0.length:Int)-a)=b/\cntM (mv p0 p1) b a ()=some v) ⟨_,_,⟨J,0,R,Jo3,(by decide),(by simp),C⟩,(KM R)⟩ ?_) ?_) (λD h=>Jx R<|Jf3 R<|Ju<|Jw<|Jb2 (l:=[.tmp 4]) results208 (Jq2 R R) R<|Oh h<|⟨J,R,B⟩)
 rintro b _ _ ⟨c,a,rfl,j,q,d,h⟩
 rcases b with _|b
 exact Jq<|Jl3 2 R<|Js3 R U31 R R<|Jb 1 R<|Jx2 R (dcf d)<|Jc1<|Jt<|Jt<|Jb1<|Oh h<|Jw1 _ ⟨c,R,Fct,R⟩ KN
 refine Ob h λF h s=>Jq<|Jl3 2 R<|Js3 R U31 R R<|Jb 1 R<|Jw2 R (dct d)<|Js<|Jp<|Jq<|Jv<|Jq<|Xn c [0] [2,5,8,14,17,20,9,21,26] λ_ k=>Jn 2 R<|Ob h λG t h=>Jd3 R f t U31 Z2<|Jn 2 R<|Ob h λH u h=>Jd3 R o u U31 Z2<|Jg R (Jd2 I2 R R<|hvC ((f.stp<|j.tr k).gInt t) R)<|Jg R (Jd2 I2 R R<|hvC ((o.stp<|j.tr k).gInt u) R)<|Jn 1 R<|Jt1<|Jd ?_
 refine Bk h (λE h=>Jy R<|Js<|Jz<|Jp<|Jg3 R<|wr2 q d f.len_le ▸ ?_) (λE h=>Jx R<|Jf3 R<|Ju<|Ja1<|Jw<|Jw ?_)
 cases h
 exact Ja2 ⟨c,a+1,R,Fct,nxz q,nxm d,s⟩ R
 cases h
 obtain rfl:=EU s
 exact have h:=yL p;Ja1 (Jr2<|Jw<|Jb2 (l:=[.tmp 4]) results208 (Jq2 R R) R<|Oh h<|⟨c,R,Fct⟩)
 rintro _ _ ⟨A,rfl,_,rfl⟩
 exact have h:=yI p;Jp (Jf3 R<|Ju<|Jb2 (l:=[.tmp 4]) results208 (Jq2 R R) R<|Oh h<|⟨A,R,Fct⟩)
theorem yW {m y}{p0:VI}{n z}{p1:VL}{p2:Int}(i:Rd Ri J w 0 m y p0) (o:Rd Place.rp J w 0 n z p1){r:Int}(h:sU p0 p1 p2=some r):Ret prog 78 [.slice m p0.length y,.slice n p1.length z,vi p2] w (Pvi J w r):=by
 refine Jp3 J func78 R ntmps78 R λK=>Jf3 R<|Jq<|Jf3 R<|Ob h λx D p=>Jx1 (λf c=>∃j,f=[]/\Stp [] J w j c/\x=EW ()) (Jv<|Ju3 [0,1,2] (λb A f c=>∃j a,f=(7,vi a)::A/\Stp [] J w j c/\0<=a/\ES ((p0.length:Int)-a)=b/\cntM (n0 p0 p1 p2) b a ()=some x) ⟨_,_,⟨J,0,R,Jo3,(by decide),(by simp),D⟩,(KM R)⟩ ?_) ?_
 rintro b _ _ ⟨e,a,rfl,k,q,d,h⟩
 rcases b with _|b
 exact Jq<|Jl3 2 R<|Js3 R U31 R R<|Jb 1 R<|Jx2 R (dcf d)<|Jc1<|Jt<|Jt<|Jb1<|Oh h<|Jw1 _ ⟨e,R,Fct,R⟩ KN
 refine Ob h λL h s=>Jq<|Jl3 2 R<|Js3 R U31 R R<|Jb 1 R<|Jw2 R (dct d)<|Js<|Jp<|Jq<|Jv<|Jl3 3 R<|Ob h λ_ t h=>Jd3 R i t U31 Z2 (have g:=i.stp k;Jc3 R I2 (g.gInt t) (Ob h λN u h=>Jd3 R o u U67 Z76<|Je3 R U76 R Z2 ?_))
 obtain⟨_,E,C⟩:=((o.stp k)).gSt u
 obtain⟨H,M,rfl,I⟩:=Place.un E
 refine Jc3 R I2 (λc G=>C c G 0 _ R)<|Jb 2 R ?_
 refine Bk h (λF h=>Jy R<|Js<|Jz<|Jp<|Jg3 R<|wr2 q d i.len_le ▸ ?_) (λF h=>Jx R<|Jl3 2 R<|Ob h λ_ v h=>Jd3 R g v U31 Z2<|Jc3 R I2 (g.gInt v)<|Jb 1 R<|Ju<|Ja1<|Jw<|Jw ?_)
 cases h
 exact Ja2 ⟨e,a+1,R,Fct,nxz q,nxm d,s⟩ R
 cases h
 obtain rfl:=EU s
 exact have h:=yL p;Ja1 (Jr2<|Jw<|Jb2 (l:=[.tmp 6]) results78 (Jq2 R R) R<|Oh h<|⟨e,R,Fct⟩)
 rintro _ _ ⟨B,rfl,_,rfl⟩
 exact have h:=yI p;Jp (Jf3 R<|Ju<|Jb2 (l:=[.tmp 6]) results78 (Jq2 R R) R<|Oh h<|⟨B,R,Fct⟩)
theorem wq {j q}{p0:VI}{p1:Int}(f:Rd Ri J w 0 j q p0){r:Int}(h:pH p0 p1=some r):Ret prog 79 [.slice j p0.length q,vi p1] w (Pvi J w r):=by
 refine Jp3 J func79 R ntmps79 R λy=>Jf3 R<|Jq<|Jf3 R<|Ob h λp v k=>Jx1 (λe g=>∃i,e=[]/\Stp [] J w i g/\p=EW ()) (Jv<|Ju3 [0,1] (λb s e g=>∃i a,e=(5,vi a)::s/\Stp [] J w i g/\0<=a/\ES ((p0.length:Int)-a)=b/\cntM (kG p0 p1) b a ()=some p) ⟨_,_,⟨J,0,R,Jo3,(by decide),(by simp),v⟩,(KM R)⟩ ?_) ?_
 rintro b _ _ ⟨d,a,rfl,u,m,c,h⟩
 rcases b with _|b
 exact Jq<|Jl3 2 R<|Js3 R U31 R R<|Jb 1 R<|Jx2 R (dcf c)<|Jc1<|Jt<|Jt<|Jb1<|Oh h<|Jw1 _ ⟨d,R,Fct,R⟩ KN
 refine Ob h λz h n=>Jq<|Jl3 2 R<|Js3 R U31 R R<|Jb 1 R<|Jw2 R (dct c)<|Js<|Jp<|Jq<|Jv<|Jl3 2 R<|Ob h λA o h=>Jd3 R f o U31 Z2<|Jc3 R I2 ((f.stp u).gInt o)<|Jb 2 R ?_
 refine Bk h (λx h=>Jy R<|Js<|Jz<|Jp<|Jg3 R<|wr2 m c f.len_le ▸ ?_) (λx h=>Jx R<|Jf3 R<|Ju<|Ja1<|Jw<|Jw ?_)
 cases h
 exact Ja2 ⟨d,a+1,R,Fct,nxz m,nxm c,n⟩ R
 cases h
 obtain rfl:=EU n
 exact have h:=yL k;Ja1 (Jr2<|Jw<|Jb2 (l:=[.tmp 4]) results79 (Jq2 R R) R<|Oh h<|⟨d,R,Fct⟩)
 rintro _ _ ⟨t,rfl,_,rfl⟩
 exact have h:=yI k;Jp (Jf3 R<|Ju<|Jb2 (l:=[.tmp 4]) results79 (Jq2 R R) R<|Oh h<|⟨t,R,Fct⟩)
theorem qB {N Y}{p0:VI}{p1:Int}(Q:Rd Ri J w 0 N Y p0){r:Word×Bool}(h:mS p0 p1=some r):Ret prog 36 [.slice N p0.length Y,vi p1] w (λaE f=>∃g U W V X,aE= .tuple #[.agg #[.slice U r.1.Stem.length W,.slice V r.1.Loop.length X],.bool r.2]/\Ent J w g f/\Oc E6 2 g f 2 U W r.1.Stem/\Oc E6 2 g f 3 V X r.1.Loop):=by
 refine Jp3 J func36 R ntmps36 R λaJ=>Jj3<|Jy3 J 2 R X44 R λaq aF ab ak _=>Tv<|Jb 1 R<|Jq<|Jl3 3 R<|Ob h λaD h aA=>Jk4 [0,1,4] 14 aD ab aF 6 tv ?_ ?_
 exact Bk h (λaC h=>Jn 1 R<|Js3 R U31 R R<|Jn 4 R<|Oh h<|Jl4 tv R) (λaC h=>Jn 6 R<|Oh h<|Jl4 tv R)
 rintro _ aG _ ⟨rfl,i,an⟩
 refine have h:=aA;Jd ?_
 refine Bk h (λaB h=>Jy R<|Js<|Jp<|Jq<|Ob h λ_ S h=>Ob h λ_ T h=>Ob h λm C h=>Ob h λn D h=>Jt3 [4] (λZ aj f=>∃g u s t v,aj=(5,.bool true)::Z/\Stp [2,3,4] i aG g f/\Oc E6 2 g f 3 u s m/\Oc E6 2 g f 4 t v n/\Bc g f 2 aq 44 [.slice u m.length s,.slice t n.length v]) (WC.rxt (J:=i) [] none (by kernel_rfl) λ_ I=>Jq1 (fuel:=7) [(1,2),(2,2),(3,2),(6,2),(7,2),(8,2)] (by kernel_rfl) (by kernel_rfl) R<|Jn 2 R<|Jf R (iQ (k1:= .i64) (k2:= .i64) U31 Z2 (.inl ⟨R,R⟩) (.inr ⟨_,R,R⟩) S Q.1 R R R) (have B:=Q.stp (T3 ak an I);have aH:=B.sub S;Jn 2 R (Jf R (iQ (k1:= .i64) (k2:= .i64) U31 Z2 (.inr ⟨_,R,R⟩) (.inl ⟨R,R⟩) T B.1 R R R) (have aI:=B.sub T;Jp1 (WA.fork2 (fuel:=6) 0 5 (by kernel_rfl) R (Jc4 i E6 3 R Y31 bG R λao ap _ E a av=>⟨(a.cl R),Jp1<|WA.fork2 (fuel:=5) 4 5 (by kernel_rfl) R (Jd4 E E6 3 [] R Y31 bG R av (EV (bO _) Fct) bJ C R λb d _ ac o _=>⟨((a.tr o).cl R),Xs 0 [16,28,32,34,38]<|Jc4 ac E6 4 R Y31 bG R λO P _ ad x aw=>⟨((T3 a o x).cl R),Jd4 ad E6 4 [] R Y31 bG R aw (EV (bO _) Fct) bJ D R λe c _ F K _=>⟨((T4 a o x K).cl R),Jf R (Jn4 [.slice b m.length d,.slice e n.length c] R)<|Jm4 F 2 R Z44 R Fct R λ_ al ax=>⟨((T5 a o x K al).cl R),Jn 1 R<|Xe<|Jo<|Jw1 _ ⟨F,b,d,e,c,R,Fct,Fct,Fct,ax⟩<|KM R⟩⟩⟩⟩)<|Jc4 E E6 4 R Y31 bG R λO P _ ae p _=>⟨((a.tr p).cl R),Xs 0 [13,28,32,34,38]<|Jd4 ae E6 3 [] R Y31 bG R Fct (EV (bO _) Fct) bJ C R λb d _ af y _=>⟨((T3 a p y).cl R),Jd4 af E6 4 [] R Y31 bG R Fct (EV (bO _) Fct) bJ D R λe c _ G L _=>⟨((T4 a p y L).cl R),Jf R (Jn4 [.slice b m.length d,.slice e n.length c] R)<|Jm4 G 2 R Z44 R Fct R λ_ am ay=>⟨((T5 a p y L am).cl R),Jn 1 R<|Xe<|Jo<|Jw1 _ ⟨G,b,d,e,c,R,Fct,Fct,Fct,ay⟩<|KM R⟩⟩⟩⟩⟩)<|Jc4 i E6 3 R Y31 bG R λO P _ ag j _=>⟨(j.cl R),Xs 0 [1,13,28,32,34,38]<|Jc4 ag E6 4 R Y31 bG R λao ap _ ah k az=>⟨((j.tr k).cl R),Jd4 ah E6 4 [] R Y31 bG R az (EV (bO _) Fct) bJ C R λb d _ ai q _=>⟨((T3 j k q).cl R),Jd4 ai E6 3 [] R Y31 bG R Fct (EV (bO _) Fct) bJ D R λe c _ H z _=>⟨((T4 j k q z).cl R),Jf R (Jn4 [.slice b m.length d,.slice e n.length c] R)<|Jm4 H 2 R Z44 R Fct R λ_ M _=>⟨((T5 j k q z M).cl R),Jn 1 R<|Xe<|Jo<|Jw1 _ ⟨(λA=>ren [(4,3),(3,4)]<|H A),b,d,e,c,R,(Jz2 ((T6 I j k q z M).wk R) [(4,3),(3,4)] R),Fct,Fct,Fct⟩<|KM R⟩⟩⟩⟩⟩))))) ?_) (λaB h=>Jx R<|Jj3<|Jf R (Jn4 [.slice none 0 0,.slice none 0 0] R)<|Jm4 i 2 R Z44 R Fct R λ_ _ ar=>Tv<|Jb 1 R<|Ju<|Jw<|Jb2 (l:=[.cell 4 44,.tmp 5]) results36 (bM R ar I44 Z44 R<|Jq2 R R) R<|Oh h<|⟨i,none,0,none,0,R,Fct,Ow.nil,Ow.nil⟩)
 rintro _ _ ⟨aa,u,s,t,v,rfl,_,_,_,au⟩
 exact Jp<|Ju<|Jb2 (l:=[.cell 4 44,.tmp 5]) results36 (bM R au I44 Z44 R<|Jq2 R R) R<|Oh h<|⟨(λA=>ren [(3,2),(4,3)]<|aa A),u,s,t,v,R,Fct,Fct,Fct⟩
theorem tC {p0:Int}{e j}{c0:VI}{a}(t:Oc E6 2 J w 2 e j c0) (o:Bc J w 3 a 31 [.slice e c0.length j]){r:VI}(h:r6 p0 c0=some r):Ret prog 142 [vi p0,.pointer (some ⟨a,0,none⟩)] w (λq b=>∃c g i,q= .tuple #[]/\Ent J w c b/\Oc E6 2 c b 2 g i r/\Bc c b 3 a 31 [.slice g r.length i]):=by
 exact Jp3 J func142 R ntmps142 R λu=>Jk3<|Jc3 R I31 (o.ld 0 R R)<|Jn 1 R<|Ji4 J 4 [p0] R Y31 bG R λ_ _ _ l _ n=>Tv<|Ob h λs p h=>Jd4 l E6 2 [] R Y31 bG R Fct (EV (bO _) n.rdc) bJ p R λf k _ d _ _=>Tv<|Ja4 d 3 (vc:=[.slice f s.length k]) R Z31 R Fct R λ_ _ m=>Tv<|Jo<|DN.end0 results142<|Oh h<|⟨d,f,k,R,Fct,Fct,m⟩
theorem ob {b c}{p0:VV}(n:Oc (Ep.fz Rs) 31 J w 2 b c p0){r:VV}(h:eG p0=some r):Ret prog 143 [.slice b p0.length c,.func (.func 144) #[] #[]] w (λx f=>∃(g:Col),x= .tuple #[]/\Ent J w g f/\Oc (Ep.fz Rs) 31 g f 2 b c r/\p0.length=r.length):=by
  unfold eG at h
  split at h
  .rename_i a
   cases h
   exact Br Tryz.slices_Compare (Tryz.slices_SortFunc_none (α:=Nat)) (@λd _ m o k p i v j l w s a q u=>Tryz.slices_SortFunc (α:=d) m o k p 144 #[] i v j l w call144 s a q u) n a.1 (λe t=>by have:=List.all_eq_true.1 a.2 e t;cases e <;> simp_all)
  .cases h
end
end Go.Proofs.YtfombamjdkihnaaGreat
