/- The walks, part 1. By program. -/
import Derived.Test.YtleekpaohfpooaaGreatFnsMMD
import Derived.Test.YtleekpaohfpooaaGreatAlMD
set_option linter.unusedVariables false
set_option linter.unusedSimpArgs false
open Go.Wk.Ep renaming own → Dp
open Int renaming toNat → Dq
open Go.IntKind renaming wrap → Dr
open Option.some renaming inj → Ds
open Go.Wk.Sl renaming srcP → Du
open Sum renaming inr → Dv
namespace Go.Proofs.YtleekpaohfpooaaGreat
open Tryz
open Go Go.Wk Go.Proofs
set_option maxRecDepth 100000
set_option maxHeartbeats 1000000
section
variable {w:World}{J:Col}
theorem zj {a b}{p0:VI}(d:Rd (Rp.int .u8) J w 0 a b p0){r:Bool}(h:xR p0=some r):Ret prog 8 [.slice a p0.length b] w (Pvb J w r):=by
 unfold xR at h
 refine Jl3 J func8 R ntmps8 R λc=>Jf3 R<|Jh3 [2,2,2,2] 1 R<|Jo3 R U22 R R<|Jb 2 R<|Ju<|Jb2 (l:=[.tmp 2]) results8 (Jq2 R R) R ?_
 cases h
 exact⟨J,R,c⟩
theorem nq {p0:Sig}  {r:Bool}(h:kQ p0=some r):Ret prog 82 [.agg #[vi p0.In,vi p0.Out]] w (Pvb J w r):=by
 unfold kQ at h
 refine Jl3 J func82 R ntmps82 R λn=>Je [1,2] R<|Jt3 J 2 R λx t g m a=>Tv<|Jb 1 R<|Je [2,1,2,2,2,1,2,2,2,2,1,2,2,2,2,1,2,2,2] R<|Je3 R U28 R Z2<|Jc3 R I2 (a.ld 0 R R)<|Jn 2 R<|Ob h λd h q=>Jg4 [1,2] 10 d g t [(4,2),(5,1),(6,2),(7,2)] [(8,2),(9,2),(10,1),(11,2),(12,2),(13,2),(14,2),(15,1),(16,2),(17,2),(18,2)] tv ?_ ?_
 revert h
 cases A:decide (1<=p0.In)
 refine JF λh=>Jn 1 R<|Ja4 R<|Jn 2 R ?_
 cases h
 exact Jh4 tv R
 refine JT λh=>Je3 R U28 R Z2<|Jc3 R I2 (a.ld 0 R R)<|Jn 2 R ?_
 cases h
 exact Jh4 tv R
 rintro _ v _ ⟨rfl,j,b⟩
 have h:=q
 refine Jn 1 R<|Ob h λe h o=>Jg4 [1,2] 15 e j v [(9,2),(10,1),(11,2),(12,2)] [(13,2),(14,2),(15,1),(16,2),(17,2),(18,2)] tv ?_ ?_
 revert h
 cases y:d
 refine JF λh=>Jn 1 R<|Ja4 R<|Jn 2 R ?_
 cases h
 exact Jh4 tv R
 refine JT λh=>Je3 R U28 R Z2<|Jc3 R I2 ((a.stp b).ld 1 R R)<|Jn 2 R ?_
 cases h
 exact Jh4 tv R
 rintro _ u _ ⟨rfl,f,c⟩
 have h:=o
 refine Jn 1 R<|Ob h λs h p=>Jg4 [2] 20 s f u [(14,2),(15,1),(16,2),(17,2)] [(18,2)] tv ?_ ?_
 revert h
 cases z:e
 refine JF λh=>Jn 1 R<|Ja4 R<|Jn 2 R ?_
 cases h
 exact Jh4 tv R
 refine JT λh=>Je3 R U28 R Z2<|Jc3 R I2 ((a.stp<|b.tr c).ld 1 R R)<|Jn 2 R ?_
 cases h
 exact Jh4 tv R
 rintro _ B _ ⟨rfl,i,k⟩
 have h:=p
 refine Jb 1 R<|Ju<|Jb2 (l:=[.tmp 2]) results82 (Jq2 R R) R ?_
 cases h
 exact⟨i,R,(n.stp<|T4 m b c k)⟩
theorem gR {p0:Sig}  {r:Int}(h:dI p0=some r):Ret prog 103 [.agg #[vi p0.In,vi p0.Out]] w (Pvi J w r):=by
 unfold dI at h
 refine Jl3 J func103 R ntmps103 R λd=>Je [1,2] R<|Jt3 J 2 R λf g b c a=>Tv<|Jb 1 R<|Je [2,1,2,1,2,2,2] R<|Je3 R U28 R Z2<|Jc3 R I2 (a.ld 0 R R)<|Je3 R U28 R Z2<|Jc3 R I2 (a.ld 1 R R)<|Jn 1 R<|Ob h λ_z8 e h=>Jf R (sw R R R<|vX e)<|Jb 1 R<|Ju<|Jb2 (l:=[.tmp 2]) results103 (Jq2 R R) R ?_
 cases h
 exact⟨b,R,(d.stp c)⟩
theorem lF {t D}{p0:VI}{p1:Int}(j:Rd Ri J w 0 t D p0){r:Bool}(h:kP p0 p1=some r):Ret prog 195 [.slice t p0.length D,vi p1] w (Pvb J w r):=by
 unfold kP at h
 refine Jl3 J func195 R ntmps195 R λu=>Jf3 R<|Jq<|Jh3 [2,2,2] 1 R<|Jo3 R U37 R R<|Jb 1 R<|Ob h λC N v=>?_
 clear h
 refine Jx1 (λf m=>∃n,f=[]/\Stp [] J w n m/\C=Dv ()) ?_ ?_
 refine Jv<|Jq3 [0,1,7,8] (λc F f m=>∃n a,f=(9,vi a)::F/\Stp [] J w n m/\0<=a/\Dq ((p0.length:Int)-a)=c/\cntM (lD p0 p1) c a ()=some C) ⟨_,_,⟨J,0,R,Jk3,(by decide),(by simp),N⟩,(KM R)⟩ ?_
 rintro c _ Q ⟨q,a,rfl,d,x,e,h⟩
 rcases c with _|c
 have b:=h;obtain⟨O,h⟩:=exq b
 have k:=dcf e
 refine Jf3 R<|Jq<|Jx2 R k<|Jc1<|Jt<|Jt ?_
 cases h
 have h:=b
 refine Jb1 ?_
 cases h
 exact Jw1 _ ⟨q,R,d.wk R,R⟩ KN
 obtain⟨O,h,b⟩:=BI h;unfold lD at h
 have k:=dct e
 refine Jf3 R<|Jq<|Jw2 R k<|Js<|Jp<|Jq<|Jv<|Jh3 [2,2,1,2,2] 1 R<|Ob h λS y h=>Jd3 R j y U37 Z2 ?_
 have i:=j.stp d
 refine Jc3 R I2 (i.gInt y)<|Jb 2 R<|Jh3 [2,2,2,2,2,2,2,2,2,2,2,2,2,2,2,2,1,2,2,2] 3 R<|Ob h λA h K=>Jg4 [0,1,5,6,7,8,9] 20 A q Q [(3,2),(4,2),(5,2),(6,2)] [(7,2),(8,2),(9,2),(10,2),(11,2),(12,2),(13,2),(14,2),(15,2),(16,1),(17,2),(18,2),(19,2)] tv ?_ ?_
 revert h
 cases U:decide (S<0)
 refine JF λh=>Jn 4 R ?_
 cases h
 exact Jh4 tv R
 refine JT λh=>Jn 4 R ?_
 cases h
 exact Jh4 tv R
 rintro _ E _ ⟨rfl,o,g⟩
 have h:=K
 refine Jn 1 R<|Ob h λB h L=>Jg4 [0,1,7,8,9] 33 B o E [(8,2),(9,2),(10,2),(11,2),(12,2),(13,2),(14,2),(15,2),(16,1),(17,2),(18,2),(19,2)] [] tv ?_ ?_
 revert h
 cases V:A
 refine JF λh=>Jn 3 R<|Ob h λP h M=>Jg4 [0,1,7,8,9,21,22,23,24] 32 P o E [(11,2),(12,2),(13,2),(14,2),(15,2),(16,1),(17,2),(18,2)] [(19,2)] tv ?_ ?_
 revert h
 cases W:decide (0<a)
 refine JF λh=>Jn 5 R<|Ja4 R<|Jn 2 R ?_
 cases h
 exact Jh4 tv R
 refine JT λh=>Jn 4 R<|Ob h λab z h=>Jd3 R i z U37 Z2<|Jc3 R I2 ((i.stp g).gInt z)<|Jn 2 R ?_
 cases h
 exact Jh4 tv R
 rintro _ Y _ ⟨rfl,T,H⟩
 have h:=M
 refine Jn 1 R ?_
 cases h
 exact Jv1 _ tv ⟨R,_,H.wk R⟩<|KM R
 refine JT λh=>Jn 8 R<|Ja4 R<|Jn 3 R ?_
 cases h
 exact Jh4 tv R
 rintro _ Z _ ⟨rfl,p,s⟩
 have h:=L
 refine Jd ?_
 revert h
 cases X:B
 refine JF λh=>Jy R<|Js<|Jz<|Jp<|Jg3 R<|wr2 x e j.len_le ▸ ?_
 cases h
 exact Ja2 ⟨p,a+1,R,(T3 d g s).wk R,nxz x,nxm e,b⟩ R
 refine JT λh=>Jx R<|Jf3 R<|Ju<|Ja1<|Jw<|Jw ?_
 cases h
 obtain rfl:=Ds b
 have h:=yL v
 refine Ja1<|Jr2<|Jw<|Jb2 (l:=[.tmp 4]) results195 (Jq2 R R) R ?_
 cases h
 exact⟨p,R,(u.stp<|T3 d g s)⟩
 rintro _ aa ⟨G,rfl,I,rfl⟩
 have h:=yI v
 refine Jp<|Jf3 R<|Ju<|Jb2 (l:=[.tmp 4]) results195 (Jq2 R R) R ?_
 cases h
 exact⟨G,R,(u.stp I)⟩
theorem qr {p0:Int}{p1:Int}{p2:Bool}{i:Bool}  {r:Int}(h:iJ p0 p1 p2 i=some r):Ret prog 171 [vi p0,vi p1,.bool p2,.bool i] w (Pvi J w r):=by
 unfold iJ at h
 refine Jl3 J func171 R ntmps171 R λd=>Jf3 R<|Jf3 R<|Jq<|Jf3 R<|Ob h λz h t=>Jp3 [0,1,3,10] (λe g k=>∃m,g=(9,vi z)::e/\Stp [] J w m k) ?_ ?_
 revert h
 cases O:p2
 refine JF λh=>Jy R<|Js ?_
 cases h
 exact Jw1 _ ⟨J,R,Jk3⟩<|KM R
 refine JT λh=>Jx R<|Jg3 R ?_
 cases h
 exact Jw1 _ ⟨J,R,Jk3⟩<|KM R
 rintro _ A ⟨f,rfl,b⟩
 have h:=t
 refine Jp<|Jq<|Jf3 R<|Ob h λj h x=>Jp3 [0,1,9] (λe g k=>∃m,g=(3,.bool j.1)::(10,vi j.2)::e/\Stp [] f A m k) ?_ ?_
 revert h
 cases C:i
 refine JF λh=>Jy R<|Js ?_
 cases h
 exact Jw1 _ ⟨f,R,Jk3⟩<|KM R
 refine JT λh=>Jx R<|Jg3 R ?_
 cases h
 exact Jw1 _ ⟨f,R,Jk3⟩<|KM R
 rintro _ q ⟨a,rfl,c⟩
 have h:=x
 refine Jp<|Jq<|Jf3 R<|Jv<|Jf3 R ?_
 revert h
 cases D:(p0==1)
 refine JF λh=>Jy R<|Jf3 R ?_
 revert h
 cases E:(p0==2)
 refine JF λh=>Jy R<|Jf3 R ?_
 revert h
 cases I:(p0==3)
 refine JF λh=>Jy R<|Jf3 R ?_
 revert h
 cases L:(p0==4)
 refine JF λh=>Jy R<|Jf3 R ?_
 revert h
 cases M:(p0==5)
 refine JF λh=>Jy R<|Jf3 R ?_
 revert h
 cases N:(p0==6)
 refine JF λh=>Jy R<|Js<|Jz<|Jp<|Jf3 R<|Ju<|Jb2 (l:=[.tmp 8]) V171 (Jq2 R R) R ?_
 cases h
 exact⟨a,R,(d.stp<|b.tr c)⟩
 refine JT λh=>Jx R<|Jh3 [2,2,2,2] 2 R<|Jf R (uL R R R)<|Jb 1 R<|Ju<|Ja1<|Jw<|Jb2 (l:=[.tmp 8]) V171 (Jq2 R R) R ?_
 cases h
 exact⟨a,R,(d.stp<|b.tr c)⟩
 refine JT λh=>Jx R<|Jf3 R<|Ju<|Ja1<|Jw<|Jb2 (l:=[.tmp 8]) V171 (Jq2 R R) R ?_
 cases h
 exact⟨a,R,(d.stp<|b.tr c)⟩
 refine JT λh=>Jx R<|Jf3 R<|Ju<|Ja1<|Jw<|Jb2 (l:=[.tmp 8]) V171 (Jq2 R R) R ?_
 cases h
 exact⟨a,R,(d.stp<|b.tr c)⟩
 refine JT λh=>Jx R<|Jq<|Jf3 R ?_
 revert h
 cases K:j.1
 refine JF λh=>Jy R<|Js<|Jp<|Jh3 [2,2,2,2] 2 R<|Jf R (uL R R R)<|Jb 1 R<|Ju<|Ja1<|Jw<|Jb2 (l:=[.tmp 8]) V171 (Jq2 R R) R ?_
 cases h
 exact⟨a,R,(d.stp<|b.tr c)⟩
 refine JT λh=>Jx R<|Jf3 R<|Ju<|Jw<|Ja1<|Jw<|Jb2 (l:=[.tmp 8]) V171 (Jq2 R R) R ?_
 cases h
 exact⟨a,R,(d.stp<|b.tr c)⟩
 refine JT λh=>Jx R<|Jq<|Jh3 [2,2,2,2,2,2,2,2,2,2] 3 R<|Ob h λp h u=>Jg4 [9] 31 p a q [(3,2),(4,2),(5,2),(6,2),(7,2),(8,2),(9,2)] [] tv ?_ ?_
 revert h
 cases F:(p1==2)
 refine JF λh=>Jn 3 R<|Ob h λy h v=>Jg4 [9,24] 30 y a q [(6,2),(7,2),(8,2)] [(9,2)] tv ?_ ?_
 revert h
 cases G:(p1==1)
 refine JF λh=>Jn 3 R ?_
 cases h
 exact Jh4 tv R
 refine JT λh=>Jn 3 R ?_
 cases h
 exact Jh4 tv R
 rintro _ P _ ⟨rfl,B,s⟩
 have h:=v
 refine Jn 1 R ?_
 cases h
 exact Jv1 _ tv ⟨R,_,s.wk R⟩<|KM R
 refine JT λh=>Jn 7 R ?_
 cases h
 exact Jh4 tv R
 rintro _ Q _ ⟨rfl,n,o⟩
 have h:=u
 refine Jd ?_
 revert h
 cases H:p
 refine JF λh=>Jy R<|Js<|Jp<|Jf3 R<|Ju<|Ja1<|Jw<|Jb2 (l:=[.tmp 8]) V171 (Jq2 R R) R ?_
 cases h
 exact⟨n,R,(d.stp<|T3 b c o)⟩
 refine JT λh=>Jx R<|Jf3 R<|Ju<|Jw<|Ja1<|Jw<|Jb2 (l:=[.tmp 8]) V171 (Jq2 R R) R ?_
 cases h
 exact⟨n,R,(d.stp<|T3 b c o)⟩
 refine JT λh=>Jx R<|Jh3 [2,2,2,2,2] 3 R<|Jf R (uL R R R)<|Jb 1 R<|Ju<|Ja1<|Jw<|Jb2 (l:=[.tmp 8]) V171 (Jq2 R R) R ?_
 cases h
 exact⟨a,R,(d.stp<|b.tr c)⟩
theorem dY {b c}{p0:VI}(d:Oc E6 2 J w 2 b c p0){r:VI}(h:cA p0=some r):Ret prog 106 [.slice b p0.length c] w (λn e=>∃(f:Col),n= .tuple #[]/\Ent J w f e/\Oc E6 2 f e 2 b c r/\p0.length=r.length):=by
  unfold cA at h
  split at h
  .rename_i a
   cases h
   exact A8 (λg m i o w j k l=>Tryz.slices_Sort_int g m i o w j k l) d a.1 a.2
  .split at h
   .rename_i a
    cases h
    exact zW Tryz.slices_Sort_int_none d a
   .cases h
theorem tb {Z aa X Y}{p0:Pair}(L:Rd Ri J w 0 Z aa p0.Ask) (M:Rd Ri J w 0 X Y p0.Give){r:Pair}(h:np p0=some r):Ret prog 108 [.agg #[.slice Z p0.Ask.length aa,.slice X p0.Give.length Y]] w (λaR k=>∃(m:Col) (ad:Option Addr) (af:Nat) (ae:Option Addr) (ag:Nat),aR= .agg #[.slice ad r.Ask.length af,.slice ae r.Give.length ag]/\Ent J w m k/\Oc E6 2 m k 2 ad af r.Ask/\Oc E6 2 m k 3 ae ag r.Give):=by
 unfold np at h
 refine Jl3 J func108 R ntmps108 R λaP=>Je [1,1] R<|Jt3 J 2 R λaT aU ak t aE=>Tv<|Ju3 ak 3 R X127 R λax aS A s K=>Tv<|Jd<|Jq<|Ob h λz O h=>Ob h λy N h=>Jp3 [2] (λai au k=>∃m E F G H,au=ai/\Stp [3,4,5] A aS m k/\Oc E6 2 m k 4 E F z/\Oc E6 2 m k 5 G H y/\Bc m k 3 ax 127 [.slice E z.length F,.slice G y.length H]) ?_ ?_
 refine WC.rxt (J:=A) [2] none (by kernel_rfl) λaV b=>Jq1 (fuel:=6) [(1,2),(5,2),(2,0),(6,0)] (by kernel_rfl) (by kernel_rfl) R<|Je3 R U127 R Z37<|Je3 R U127 R Z37 ?_
 have ab:=aE.stp (s.tr b)
 refine Jg R (Jd2 I37 R R<|hvC (ab.ld 0 R R) R)<|Jg R (Jd2 I37 R R<|hvC (ab.ld 1 R R) R)<|Jp1<|WA.fork2 (fuel:=5) 0 4 (by kernel_rfl) R ?_ ?_
 refine Jy3 A E6 4 R Y37 bS R λaw aQ aW P a ac=>⟨(a.cl R),Jp1<|WA.fork2 (fuel:=4) 3 4 (by kernel_rfl) R ?_ ?_⟩
 have U:=(T4 t s b a)
 exact Jz3 P E6 4 [] R Y37 bS R ac (Du (cc _)<|L.stp U) bV O R λf j aX al n aB=>⟨((a.tr n).cl R),Jp1<|Jq1 (fuel:=0) [(4,1),(7,1),(8,2),(9,1)] (by kernel_rfl) (by kernel_rfl) R<|Jy3 al E6 5 R Y37 bS R λW ah aY am o aC=>⟨((T3 a n o).cl R),Jz3 am E6 5 [] R Y37 bS R aC (Du (cc _)<|M.stp<|T3 U n o) bV N R λi g aZ Q u aD=>⟨((T4 a n o u).cl R),Jf R (Jj4 [.slice f z.length j,.slice i y.length g] R)<|Ji4 Q 3 R Z127 R (K.stp<|T5 b a n o u) R λa0 B aF=>⟨((T5 a n o u B).cl R),Jp1<|Jr1 [] (by kernel_rfl) (by kernel_rfl) R<|Jo<|Jw1 _ ⟨Q,f,j,i,g,R,(T6 b a n o u B).wk R,(aB.stp<|T3 o u B),(aD.stp B),aF⟩<|KM R⟩⟩⟩⟩
 have V:=(T4 t s b a)
 exact Jy3 P E6 5 R Y37 bS R λW ah a1 an c aG=>⟨((a.tr c).cl R),Jp1<|Jq1 (fuel:=0) [(3,1),(7,1),(8,2),(9,1)] (by kernel_rfl) (by kernel_rfl) R<|Jz3 an E6 4 [] R Y37 bS R (ac.stp c) (Du (cc _)<|L.stp<|V.tr c) bV O R λf j a2 ao p aH=>⟨((T3 a c p).cl R),Jz3 ao E6 5 [] R Y37 bS R (aG.stp p) (Du (cc _)<|M.stp<|T3 V c p) bV N R λi g a3 S v aI=>⟨((T4 a c p v).cl R),Jf R (Jj4 [.slice f z.length j,.slice i y.length g] R)<|Ji4 S 3 R Z127 R (K.stp<|T5 b a c p v) R λa4 C aJ=>⟨((T5 a c p v C).cl R),Jp1<|Jr1 [] (by kernel_rfl) (by kernel_rfl) R<|Jo<|Jw1 _ ⟨S,f,j,i,g,R,(T6 b a c p v C).wk R,(aH.stp<|v.tr C),(aI.stp C),aJ⟩<|KM R⟩⟩⟩⟩
 exact Jy3 A E6 4 R Y37 bS R λW ah a5 ap d aK=>⟨(d.cl R),Jp1<|Jq1 (fuel:=0) [(0,1),(3,1),(7,1),(8,2),(9,1)] (by kernel_rfl) (by kernel_rfl) R<|Jy3 ap E6 5 R Y37 bS R λaw aQ a6 aq e aL=>⟨((d.tr e).cl R),Jz3 aq E6 5 [] R Y37 bS R aL (Du (cc _)<|L.stp<|T5 t s b d e) bV O R λf j a7 ar q aM=>⟨((T3 d e q).cl R),Jz3 ar E6 4 [] R Y37 bS R (aK.stp<|e.tr q) (Du (cc _)<|M.stp<|T6 t s b d e q) bV N R λi g a8 T x aN=>⟨((T4 d e q x).cl R),Jf R (Jj4 [.slice f z.length j,.slice i y.length g] R)<|Ji4 T 3 R Z127 R (K.stp<|T5 b d e q x) R λa9 D aO=>⟨((T5 d e q x D).cl R),Jp1<|Jr1 [] (by kernel_rfl) (by kernel_rfl) R<|Jo<|Jw1 _ ⟨(λI=>ren [(5,4),(4,5)]<|T I),f,j,i,g,R,(Jz2 ((T6 b d e q x D).wk R) [(5,4),(4,5)] R),((aM.stp<|x.tr D).map (ren [(5,4),(4,5)]) R R),((aN.stp D).map (ren [(5,4),(4,5)]) R R),(aO.map (ren [(5,4),(4,5)]) R R)⟩<|KM R⟩⟩⟩⟩⟩
 rintro _ ba ⟨aj,E,F,G,H,rfl,av,ay,az,aA⟩
 refine Jp<|Ju<|Jb2 (l:=[.cell 2 127]) results108 (cg R aA I127 Z127 R R) R ?_
 cases h
 exact⟨(λI=>ren [(4,2),(5,3)]<|aj I),E,F,G,H,R,((aP.stp<|T3 t s av).map (ren [(4,2),(5,3)]) R R),(ay.map (ren [(4,2),(5,3)]) R R),(az.map (ren [(4,2),(5,3)]) R R)⟩
theorem fF {p z}{p0:VI}{q A}{p1:VI}(j:Rd Ri J w 0 p z p0) (s:Rd Ri J w 0 q A p1){r:Bool}(h:c8 p0 p1=some r):Ret prog 160 [.slice p p0.length z,.slice q p1.length A] w (Pvb J w r):=by
 unfold c8 at h
 refine Jl3 J func160 R ntmps160 R λk=>Jf3 R<|Jq<|Jh3 [2,2,2,2,2] 1 R<|Jo3 R U37 R R<|Jn 1 R<|Jo3 R U37 R R<|Jb 1 R ?_
 revert h
 cases I:((p0.length:Int) !=(p1.length:Int))
 refine JF λh=>Jy R<|Js<|Jp<|Jq<|Jh3 [2,2,2] 1 R<|Jo3 R U37 R R<|Jb 1 R<|Ob h λy E t=>?_
 clear h
 refine Jx1 (λi n=>∃o,i=[]/\Stp [] J w o n/\y=Dv ()) ?_ ?_
 refine Jv<|Jq3 [0,1,12] (λd B i n=>∃o a,i=(13,vi a)::B/\Stp [] J w o n/\0<=a/\Dq ((p0.length:Int)-a)=d/\cntM (dt p0 p1) d a ()=some y) ⟨_,_,⟨J,0,R,Jk3,(by decide),(by simp),E⟩,(KM R)⟩ ?_
 rintro d _ N ⟨e,a,rfl,b,u,g,h⟩
 rcases d with _|d
 have c:=h;obtain⟨F,h⟩:=exq c
 have m:=dcf g
 refine Jf3 R<|Jq<|Jx2 R m<|Jc1<|Jt<|Jt ?_
 cases h
 have h:=c
 refine Jb1 ?_
 cases h
 exact Jw1 _ ⟨e,R,b.wk R,R⟩ KN
 obtain⟨F,h,c⟩:=BI h;unfold dt at h
 have m:=dct g
 refine Jf3 R<|Jq<|Jw2 R m<|Js<|Jp<|Jq<|Jv<|Jf3 R<|Jq<|Js1 (J:=e) [0] none [(0,2),(1,2),(2,2),(4,2),(5,2),(6,2),(3,0),(7,0),(8,2)] [] (by kernel_rfl) (by kernel_rfl) λL f=>Jn 2 R<|Ob h λG v h=>Jd3 R j v U37 Z2<|Jn 2 R<|Ob h λH x h=>Jd3 R s x U37 Z2<|Jg R (Jd2 I2 R R<|hvC ((j.stp<|b.tr f).gInt v) R)<|Jg R (Jd2 I2 R R<|hvC ((s.stp<|b.tr f).gInt x) R)<|Jn 1 R<|Jt1<|Jd ?_
 revert h
 cases K:(G !=H)
 refine JF λh=>Jy R<|Js<|Jz<|Jp<|Jg3 R<|wr2 u g j.len_le ▸ ?_
 cases h
 exact Ja2 ⟨e,a+1,R,(b.tr f).wk R,nxz u,nxm g,c⟩ R
 refine JT λh=>Jx R<|Jf3 R<|Ju<|Ja1<|Jw<|Jw ?_
 cases h
 obtain rfl:=Ds c
 have h:=yL t
 refine Ja1<|Jr2<|Jw<|Jb2 (l:=[.tmp 4]) results160 (Jq2 R R) R ?_
 cases h
 exact⟨e,R,(k.stp<|b.tr f)⟩
 rintro _ M ⟨C,rfl,D,rfl⟩
 have h:=yI t
 refine Jp<|Jf3 R<|Ju<|Jb2 (l:=[.tmp 4]) results160 (Jq2 R R) R ?_
 cases h
 exact⟨C,R,(k.stp D)⟩
 refine JT λh=>Jx R<|Jf3 R<|Ju<|Jw<|Jb2 (l:=[.tmp 4]) results160 (Jq2 R R) R ?_
 cases h
 exact⟨J,R,k⟩
theorem yw {c a b d}{p0:Arena}(k:Rd Ri J w 0 c a p0.Owner) (m:Rd Rs J w 0 b d p0.Next){r:Int}(h:n8 p0=some r):Ret prog 181 [.agg #[.slice c p0.Owner.length a,.slice b p0.Next.length d]] w (Pvi J w r):=by
 unfold n8 at h
 refine Jl3 J func181 R ntmps181 R λi=>Je [1,2] R<|Jt3 J 2 R λj n e f g=>Tv<|Jb 1 R<|Je [2,1,2,2] R<|Je3 R U75 R Z37<|Jc3 R I37 (g.ld 0 R R)<|Jo3 R U37 R R<|Jb 1 R<|Ju<|Jb2 (l:=[.tmp 2]) results181 (Jq2 R R) R ?_
 cases h
 exact⟨e,R,(i.stp f)⟩
theorem uq {S T P Q}{p0:Arena}(a1:Rd Ri J w 0 S T p0.Owner) (G:Rd Rs J w 0 P Q p0.Next){r:VV}(h:mP p0=some r):Ret prog 176 [.agg #[.slice S p0.Owner.length T,.slice P p0.Next.length Q]] w (Pvs (Dp E6 2) 37 J w r):=by
 unfold mP at h
 refine Jl3 J func176 R ntmps176 R λaE=>Je [1,2] R<|Jt3 J 2 R λaZ a4 al M V=>Tv<|Jb 1 R<|Je [2,1,2,1,2] R<|Je3 R U75 R Z37<|Jc3 R I37 (V.ld 0 R R)<|Jo3 R U37 R R<|Ob h λj aN h=>Jl1 (J:=al) (E:=(Dp E6 2)) (z:=([]:VI)) 3 R R R R R R R Y31 bW R R R R R (λ_ _ _=>⟨none,0,R,Ow.nil⟩) (Jv2 aN) λm k ah A E aD=>Tv<|Jb 1 R<|Jq<|Je [2,1,2,2] R<|Je3 R U75 R Z31<|Jc3 R I31 ((V.stp E).ld 1 R R)<|Jo3 R U31 R R<|Jb 1 R<|Ob h λae aL aF=>?_
 clear h
 refine Jp3 [3] (λd f b=>∃c,∃y:VV,f=d/\Stp [3,5] A ah c b/\Oc (Dp E6 2) 37 c b 3 m k y/\j.length=y.length/\ae=Dv y) ?_ ?_
 refine Jv<|Jq3 [3,13,14] (λa d f b=>∃c e,∃g:VV,f=(15,vi e)::d/\Stp [3,5] A ah c b/\Oc (Dp E6 2) 37 c b 3 m k g/\j.length=g.length/\0<=e/\Dq ((p0.Next.length:Int)-e)=a/\cntM (ju p0) a e g=some ae) ⟨_,_,⟨A,0,j,R,Jk3,aD,R,(by decide),(by simp),aL⟩,(KM R)⟩ ?_
 rintro a _ ag ⟨p,e,g,rfl,B,U,aa,X,s,h⟩
 rcases a with _|a
 have u:=h;obtain⟨aQ,h⟩:=exq u
 have H:=dcf s
 refine Jf3 R<|Jq<|Jx2 R H<|Jc1<|Jt<|Jt ?_
 cases h
 have h:=u
 refine Jb1 ?_
 cases h
 exact Jw1 _ ⟨p,g,R,B.wk R,U,aa,R⟩<|KM R
 obtain⟨aQ,h,u⟩:=BI h;unfold ju at h
 have H:=dct s
 refine Jf3 R<|Jq<|Jw2 R H<|Js<|Jp<|Jq<|Jv<|Jh3 [2,2,1,2,2] 1 R<|Ob h λai ab h=>Jd3 R G ab U31 Z37 ?_
 obtain⟨aX,a2,F,aH⟩:=(G.stp (T3 M E B)).gSl ab
 refine Jc3 R I37 aH<|Jb 2 R<|Jh3 [2,2,2] 1 R<|Jo3 R U37 R R<|Jb 1 R<|Ob h λaf aM aG=>?_
 clear h
 refine Jp3 [3,13,14,15] (λd f b=>∃c,∃o:VV,f=d/\Stp [3,5] p ag c b/\Oc (Dp E6 2) 37 c b 3 m k o/\j.length=o.length/\af=Dv o) ?_ ?_
 refine Jv<|Jq3 [3,4,13,14,15,20,21] (λa d f b=>∃c i,∃n:VV,f=(22,vi i)::d/\Stp [3,5] p ag c b/\Oc (Dp E6 2) 37 c b 3 m k n/\j.length=n.length/\0<=i/\Dq ((ai.length:Int)-i)=a/\cntM (jv e ai) a i n=some af) ⟨_,_,⟨p,0,g,R,Jk3,U,aa,(by decide),(by simp),aM⟩,(KM R)⟩ ?_
 rintro a _ a7 ⟨L,i,n,rfl,C,q,x,Y,t,h⟩
 rcases a with _|a
 have v:=h;obtain⟨aR,h⟩:=exq v
 have I:=dcf t
 refine Jf3 R<|Jq<|Jx2 R I<|Jc1<|Jt<|Jt ?_
 cases h
 have h:=v
 refine Jb1 ?_
 cases h
 exact Jw1 _ ⟨L,n,R,C.wk R,q,x,R⟩<|KM R
 obtain⟨aR,h,v⟩:=BI h;unfold jv at h
 have I:=dct t
 refine Jf3 R<|Jq<|Jw2 R I<|Js<|Jp<|Jq<|Jv<|Je [2,1,2] R<|Ob h λbb ac h=>Jd3 R F ac U37 Z2<|Jc3 R I2 ((F.stp C).gInt ac)<|Jb 1 R<|Ji3 [2,2,2,2,2,1,2,1,1,2,1] 4 R<|Ob h λbc K h=>Jf R (Jg2 q.rdc K U31 Z37 R R x R) ?_
 obtain⟨aY,a3,a0,Z⟩:=q.rdc.gSl K
 refine Jc3 R I37 Z<|Jn 1 R<|Je4 L 4 [e] R Y37 bS R λaU aW a8 aS D ay=>Tv<|?_
 have W:=q.stp D
 obtain⟨an,N,az,aA⟩:=W.borrow K (Z _ (Stp.ag D R)) 5 R R
 refine Ob h λbd aO h=>Jz3 an E6 5 [] R Y37 bS R az (Du (cc _) (ay.stp N).rdc) bV aO R λaT aV a9 ao O aB=>Tv<|Ob h λbe aP h=>Jf R (Jg2 W.rdc aP U31 Z37 R R x R)<|Ob h λaj ad h=>WO.stH (J:=ao) (E:=(Dp E6 2)) 3 [5] R R R R R R R R Z37 R ⟨_,_,R,aB⟩ R R (aA.stp O) ad λba ap au aC=>Tv<|?_
 have aK:j.length=aj.length:=x.trans (Ju2 ad).2.2.2.symm
 refine Jo<|Jz<|Jp<|Jg3 R<|wr2 Y t F.len_le ▸ ?_
 cases h
 exact Ja2 ⟨ap,i+1,aj,R,(T5 C D N O au).wk R,aC,aK,nxz Y,nxm t,v⟩ R
 rintro _ a6 ⟨am,o,rfl,ar,ax,aJ,rfl⟩
 have h:=yI aG
 refine Jz<|Jp<|Jg3 R<|wr2 X s G.len_le ▸ ?_
 cases h
 exact Ja2 ⟨am,e+1,o,R,(B.tr ar).wk R,ax,aJ,nxz X,nxm s,u⟩ R
 rintro _ a5 ⟨ak,y,rfl,aq,aw,aI,rfl⟩
 have h:=yI aF
 refine Jp<|Jf3 R<|Ju<|Jb2 (l:=[.tmp 2]) results176 (Jq2 R R) R ?_
 cases h
 exact⟨(λav=>ren [(3,2)]<|ak av),m,k,(by simp only[aI]),((aE.stp<|T3 M E aq).map (ren [(3,2)]) R R),(aw.map (ren [(3,2)]) R R)⟩
theorem vF {E F C D}{p0:Arena}{B L}{p1:VI}(ai:Rd Ri J w 0 E F p0.Owner) (aj:Rd Rs J w 0 C D p0.Next) (t:Rd Ri J w 0 B L p1){r:VB}(h:nX p0 p1=some r):Ret prog 177 [.agg #[.slice E p0.Owner.length F,.slice C p0.Next.length D],.slice B p1.length L] w (Pvs Ep.bool 4 J w r):=by
 unfold nX at h
 refine Jl3 J func177 R ntmps177 R λZ=>Je [1,2] R<|Jt3 J 2 R λah ak P y X=>Tv<|Jb 1 R<|Je [2,1,2,1,2] R<|Je3 R U75 R Z37<|Jc3 R I37 (X.ld 0 R R)<|Jo3 R U37 R R<|Ob h λk ae h=>Jl1 (J:=P) (E:=Ep.bool) (z:=(false:Bool)) 3 R R R R R R R Y178 da R R R R R (λ_ _ _=>R) (Jv2 ae) λq p M m A Y=>Tv<|Jb 1 R<|Jq<|Jh3 [2,2,2] 1 R<|Jo3 R U37 R R<|Jb 1 R<|Ob h λK ad aa=>?_
 clear h
 refine Jp3 [5] (λb n e=>∃f,∃j:VB,n=b/\Stp [3] m M f e/\Oc Ep.bool 4 f e 3 q p j/\k.length=j.length/\K=Dv j) ?_ ?_
 refine Jv<|Jq3 [5,12,13] (λc b n e=>∃f a,∃d:VB,n=(14,vi a)::b/\Stp [3] m M f e/\Oc Ep.bool 4 f e 3 q p d/\k.length=d.length/\0<=a/\Dq ((p1.length:Int)-a)=c/\cntM (ko p1) c a d=some K) ⟨_,_,⟨m,0,k,R,Jk3,Y,R,(by decide),(by simp),ad⟩,(KM R)⟩ ?_
 rintro c _ am ⟨x,a,d,rfl,o,s,v,G,g,h⟩
 rcases c with _|c
 have i:=h;obtain⟨ag,h⟩:=exq i
 have u:=dcf g
 refine Jf3 R<|Jq<|Jx2 R u<|Jc1<|Jt<|Jt ?_
 cases h
 have h:=i
 refine Jb1 ?_
 cases h
 exact Jw1 _ ⟨x,d,R,o.wk R,s,v,R⟩<|KM R
 obtain⟨ag,h,i⟩:=BI h;unfold ko at h
 have u:=dct g
 refine Jf3 R<|Jq<|Jw2 R u<|Js<|Jp<|Jq<|Jv<|Je [2,1,2] R<|Ob h λao H h=>Jd3 R t H U37 Z2<|Jc3 R I2 ((t.stp<|T3 y A o).gInt H)<|Jb 1 R<|Ji3 [2,2,2,1] 2 R<|Ob h λap af h=>Jf R (Jg2 s.rdc af U178 Z4 R R v R)<|Ob h λN I h=>Jk1 (J:=x) (E:=Ep.bool) 3 [] R R R R R R R R Z4 R R R R s I λan Q T W=>Tv<|?_
 have ac:k.length=N.length:=v.trans (Ju2 I).2.2.2.symm
 refine Jo<|Jz<|Jp<|Jg3 R<|wr2 G g t.len_le ▸ ?_
 cases h
 exact Ja2 ⟨Q,a+1,N,R,(o.tr T).wk R,W,ac,nxz G,nxm g,i⟩ R
 rintro _ al ⟨O,j,rfl,S,V,ab,rfl⟩
 have h:=yI aa
 refine Jp<|Jf3 R<|Ju<|Jb2 (l:=[.tmp 4]) results177 (Jq2 R R) R ?_
 cases h
 exact⟨(λU=>ren [(3,2)]<|O U),q,p,(by simp only[ab]),((Z.stp<|T3 y A S).map (ren [(3,2)]) R R),(V.map (ren [(3,2)]) R R)⟩
theorem ml {n u}{p0:VB}{p1:Bool}(i:Rd Rp.bool J w 0 n u p0){r:Int}(h:dX p0 p1=some r):Ret prog 267 [.slice n p0.length u,.bool p1] w (Pvi J w r):=by
 unfold dX at h
 refine Jl3 J func267 R ntmps267 R λo=>Jf3 R<|Jq<|Jh3 [2,2,2] 1 R<|Jo3 R U178 R R<|Jb 1 R<|Ob h λt z p=>?_
 clear h
 refine Jx1 (λg k=>∃m,g=[]/\Stp [] J w m k/\t=Dv ()) ?_ ?_
 refine Jv<|Jq3 [0,1,7] (λc v g k=>∃m a,g=(8,vi a)::v/\Stp [] J w m k/\0<=a/\Dq ((p0.length:Int)-a)=c/\cntM (dc p0 p1) c a ()=some t) ⟨_,_,⟨J,0,R,Jk3,(by decide),(by simp),z⟩,(KM R)⟩ ?_
 rintro c _ E ⟨f,a,rfl,d,q,e,h⟩
 rcases c with _|c
 have b:=h;obtain⟨A,h⟩:=exq b
 have j:=dcf e
 refine Jf3 R<|Jq<|Jx2 R j<|Jc1<|Jt<|Jt ?_
 cases h
 have h:=b
 refine Jb1 ?_
 cases h
 exact Jw1 _ ⟨f,R,d.wk R,R⟩ KN
 obtain⟨A,h,b⟩:=BI h;unfold dc at h
 have j:=dct e
 refine Jf3 R<|Jq<|Jw2 R j<|Js<|Jp<|Jq<|Jv<|Jf3 R<|Jh3 [2,2,2,2,1,2] 3 R<|Ob h λB s h=>Jd3 R i s U178 Z4<|Jc3 R I4 ((i.stp d).gBool s)<|Jf R (AX R R runUnderlying4 R)<|Jd ?_
 revert h
 cases C:(p1==B)
 refine JF λh=>Jy R<|Js<|Jz<|Jp<|Jg3 R<|wr2 q e i.len_le ▸ ?_
 cases h
 exact Ja2 ⟨f,a+1,R,d.wk R,nxz q,nxm e,b⟩ R
 refine JT λh=>Jx R<|Jf3 R<|Ju<|Ja1<|Jw<|Jw ?_
 cases h
 obtain rfl:=Ds b
 have h:=yL p
 refine Ja1<|Jr2<|Jw<|Jb2 (l:=[.tmp 4]) results267 (Jq2 R R) R ?_
 cases h
 exact⟨f,R,(o.stp d)⟩
 rintro _ D ⟨x,rfl,y,rfl⟩
 have h:=yI p
 refine Jp<|Jf3 R<|Ju<|Jb2 (l:=[.tmp 4]) results267 (Jq2 R R) R ?_
 cases h
 exact⟨x,R,(o.stp y)⟩
theorem vH {A B x y}{p0:Arena}(ae:Rd Ri J w 0 A B p0.Owner) (af:Rd Rs J w 0 x y p0.Next){r:VI}(h:nZ p0=some r):Ret prog 118 [.agg #[.slice A p0.Owner.length B,.slice x p0.Next.length y]] w (Pvs E6 2 J w r):=by
 unfold nZ at h
 refine Jl3 J func118 R ntmps118 R λV=>Je [1,2] R<|Jt3 J 2 R λad ag K O U=>Tv<|Jb 1 R<|Je [2,1,2,1,2] R<|Je3 R U75 R Z37<|Jc3 R I37 (U.ld 0 R R)<|Jo3 R U37 R R<|Ob h λf ab h=>Jl1 (J:=K) (E:=E6) (z:=(0:Int)) 3 R R R R R R R Y37 bS R R R R R (λ_ _ _=>R) (Jv2 ab) λo t G m P C=>Tv<|Jb 1 R<|Jq<|Jh3 [2,2,2] 1 R<|Jo3 R U37 R R<|Jb 1 R<|Ob h λF Z W=>?_
 clear h
 refine Jp3 [3] (λb n e=>∃g,∃k:VI,n=b/\Stp [3] m G g e/\Oc E6 2 g e 3 o t k/\f.length=k.length/\F=Dv k) ?_ ?_
 refine Jv<|Jq3 [3,10] (λc b n e=>∃g a,∃d:VI,n=(11,vi a)::b/\Stp [3] m G g e/\Oc E6 2 g e 3 o t d/\f.length=d.length/\0<=a/\Dq ((f.length:Int)-a)=c/\cntM mr c a d=some F) ⟨_,_,⟨m,0,f,R,Jk3,C,R,(by decide),(by simp),Z⟩,(KM R)⟩ ?_
 rintro c _ ai ⟨u,a,d,rfl,v,p,s,D,i,h⟩
 rcases c with _|c
 have j:=h;obtain⟨ac,h⟩:=exq j
 have q:=dcf i
 refine Jf3 R<|Jq<|Jx2 R q<|Jc1<|Jt<|Jt ?_
 cases h
 have h:=j
 refine Jb1 ?_
 cases h
 exact Jw1 _ ⟨u,d,R,v.wk R,p,s,R⟩<|KM R
 obtain⟨ac,h,j⟩:=BI h;unfold mr at h
 have q:=dct i
 refine Jf3 R<|Jq<|Jw2 R q<|Js<|Jp<|Jq<|Jv<|Jf3 R<|Ji3 [2,2,2,1] 2 R<|Ob h λak aa h=>Jf R (Jg2 p.rdc aa U37 Z2 R R s R)<|Ob h λH E h=>Jk1 (J:=u) (E:=E6) 3 [] R R R R R R R R Z2 R R R R p E λaj L N T=>Tv<|?_
 have Y:f.length=H.length:=s.trans (Ju2 E).2.2.2.symm
 refine Jo<|Jz<|Jp<|Jg3 R<|wr2 D i C.len_le ▸ ?_
 cases h
 exact Ja2 ⟨L,a+1,H,R,(v.tr N).wk R,T,Y,nxz D,nxm i,j⟩ R
 rintro _ ah ⟨I,k,rfl,M,S,X,rfl⟩
 have h:=yI W
 refine Jp<|Jf3 R<|Ju<|Jb2 (l:=[.tmp 2]) results118 (Jq2 R R) R ?_
 cases h
 exact⟨(λQ=>ren [(3,2)]<|I Q),o,t,(by simp only[X]),((V.stp<|T3 O P M).map (ren [(3,2)]) R R),(S.map (ren [(3,2)]) R R)⟩
theorem sZ {H I F G}{p0:Answer}{p1:Int}(A:Rd Ri J w 0 H I p0.Won) (au:Rd Ri J w 0 F G p0.Plan){r:VI}(h:lz p0 p1=some r):Ret prog 183 [.agg #[.slice H p0.Won.length I,.slice F p0.Plan.length G],vi p1] w (Pvs E6 2 J w r):=by
 unfold lz at h
 refine Jl3 J func183 R ntmps183 R λL=>Je [1,2] R<|Jt3 J 2 R λar ax D x K=>Tv<|Jb 1 R<|Jq<|Je [2,1,2,2] R<|Je3 R U85 R Z37<|Jc3 R I37 (K.ld 0 R R)<|Jo3 R U37 R R<|Jb 1 R ?_
 revert h
 cases aw:decide (256<(p0.Won.length:Int))
 refine JF λh=>Jy R<|Js<|Jp<|Je [1,2] R<|Jy3 D E6 3 R Y37 bS R λab aa P u y ad=>Tv<|Jb 1 R<|Jq<|Je [2,1,2,2] R<|Je3 R U85 R Z37<|Jc3 R I37 ((K.stp y).ld 0 R R)<|Jo3 R U37 R R<|Jb 1 R<|Ob h λO ak ai=>?_
 clear h
 refine Jx1 (λd a=>∃b,∃s:VI,∃k o,d=[(5,.slice k s.length o)]/\Stp [3] u P b a/\Oc E6 2 b a 3 k o s/\O=Dv s) ?_ ?_
 refine Jv<|Jq3 [1,14,15] (λg t d a=>∃b c,∃i:VI,∃f e,d=(5,.slice f i.length e)::(16,vi c)::t/\Stp [3] u P b a/\Oc E6 2 b a 3 f e i/\0<=c/\Dq ((p0.Won.length:Int)-c)=g/\cntM (iF p0 p1) g c i=some O) ⟨_,_,⟨u,0,([]:VI),ab,aa,R,Jk3,ad,(by decide),(by simp),ak⟩,(KM R)⟩ ?_
 rintro g _ an ⟨j,c,i,f,e,rfl,v,z,M,p,h⟩
 rcases g with _|g
 have q:=h;obtain⟨am,h⟩:=exq q
 have B:=dcf p
 refine Jf3 R<|Jq<|Jx2 R B<|Jc1<|Jt<|Jt ?_
 cases h
 have h:=q
 refine Jb1 ?_
 cases h
 exact Jw1 _ ⟨j,i,f,e,R,v.wk R,z,R⟩<|KM R
 obtain⟨am,h,q⟩:=BI h;unfold iF at h
 have B:=dct p
 refine Jf3 R<|Jq<|Jw2 R B<|Js<|Jp<|Jq<|Jv<|Jh3 [2,2,1,2,2] 1 R<|Ob h λao N h=>Jd3 R A N U37 Z2<|Jc3 R I2 ((A.stp<|T3 x y v).gInt N)<|Jb 2 R<|Jf3 R<|Ob h λC h aj=>Jp3 [1,14,15,16] (λt d a=>∃b m n,d=(5,.slice m C.length n)::t/\Stp [3] j an b a/\Oc E6 2 b a 3 m n C) ?_ ?_
 revert h
 cases av:(ao==p1)
 refine JF λh=>Jy R<|Js ?_
 cases h
 exact Jw1 _ ⟨j,f,e,R,Jk3,z⟩<|KM R
 refine JT λh=>Jx R<|Ji3 [2,2,1,1,2] 2 R<|Je4 j 4 [c] R Y37 bS R λaq ap aA T E ag=>Tv<|Ob h λaC al h=>Jz3 T E6 3 [] R Y37 bS R (z.stp E) (Du (cc _) ag.rdc) bV al R λY Z aB U X ah=>Tv<|Jc 1 R ?_
 cases h
 exact Jw1 _ ⟨U,Y,Z,R,(E.tr X).wk R,ah⟩<|KM R
 rintro _ az ⟨S,m,n,rfl,W,af⟩
 have h:=aj
 refine Jz<|Jp<|Jg3 R<|wr2 M p A.len_le ▸ ?_
 cases h
 exact Ja2 ⟨S,c+1,C,m,n,R,(v.tr W).wk R,af,nxz M,nxm p,q⟩ R
 rintro _ ay ⟨Q,s,k,o,rfl,V,ae,rfl⟩
 have h:=yI ai
 refine Jp<|Jf3 R<|Ju<|Jb2 (l:=[.tmp 4]) results183 (Jq2 R R) R ?_
 cases h
 exact⟨(λac=>ren [(3,2)]<|Q ac),k,o,R,((L.stp<|T3 x y V).map (ren [(3,2)]) R R),(ae.map (ren [(3,2)]) R R)⟩
 refine JT λh=>Jx R<|Jf3 R<|Ju<|Jw<|Jb2 (l:=[.tmp 4]) results183 (Jq2 R R) R ?_
 cases h
 exact⟨D,none,0,R,(L.stp x),Ow.nil⟩
theorem rT {A F}{p0:VV}(t:Rd Rs J w 0 A F p0){r:VV}(h:mn p0=some r):Ret prog 283 [.slice A p0.length F] w (Pvs (Dp E6 2) 37 J w r):=by
 unfold mn at h
 refine Jl3 J func283 R ntmps283 R λae=>Jf3 R<|Je [1,2] R<|Jy3 J (Dp E6 2) 2 R Y31 bW R λS al G o y ad=>Tv<|Jb 1 R<|Jq<|Jh3 [2,2,2] 1 R<|Jo3 R U31 R R<|Jb 1 R<|Ob h λE ah af=>?_
 clear h
 refine Jx1 (λp d=>∃e,∃n:VV,∃i j,p=[(3,.slice i n.length j)]/\Stp [2,3,4] o G e d/\Oc (Dp E6 2) 37 e d 2 i j n/\E=Dv n) ?_ ?_
 refine Jv<|Jq3 [7,8] (λb I p d=>∃e a,∃c:VV,∃g f,p=(3,.slice g c.length f)::(9,vi a)::I/\Stp [2,3,4] o G e d/\Oc (Dp E6 2) 37 e d 2 g f c/\0<=a/\Dq ((p0.length:Int)-a)=b/\cntM (gN p0) b a c=some E) ⟨_,_,⟨o,0,([]:VV),S,al,R,Jk3,ad,(by decide),(by simp),ah⟩,(KM R)⟩ ?_
 rintro b _ av ⟨v,a,c,g,f,rfl,q,B,C,k,h⟩
 rcases b with _|b
 have m:=h;obtain⟨ak,h⟩:=exq m
 have u:=dcf k
 refine Jf3 R<|Jq<|Jx2 R u<|Jc1<|Jt<|Jt ?_
 cases h
 have h:=m
 refine Jb1 ?_
 cases h
 exact Jw1 _ ⟨v,c,g,f,R,q.wk R,B,R⟩<|KM R
 obtain⟨ak,h,m⟩:=BI h;unfold gN at h
 have u:=dct k
 refine Jf3 R<|Jq<|Jw2 R u<|Js<|Jp<|Jq<|Jv<|Je [2,1,2] R<|Ob h λaB D h=>Jd3 R t D U31 Z37 ?_
 obtain⟨ar,au,Y,ag⟩:=(t.stp (y.tr q)).gSl D
 refine Jc3 R I37 ag<|Jb 1 R<|Ji3 [2,1,2,1,1,1,2] 1 R<|Jy3 v E6 3 R Y37 bS R λap ao aw K s Z=>Tv<|Jn 1 R<|Ob h λH ai h=>Jz3 K E6 3 [] R Y37 bS R Z (Du (cc _)<|Y.stp s) bV ai R λW U ax L x aa=>Tv<|Jx3 L (Dp E6 2) 4 [3] (parts:=[(0,.tmp 16)]) (cells:=[.slice W H.length U]) (xs:=([H]:VV)) R Y31 bW R (Jf4 ⟨_,_,R,aa⟩) λan aq ay M z ab=>Tv<|Ob h λam aj h=>Jz3 M (Dp E6 2) 2 [4] R Y31 bW R (B.stp<|T3 s x z) ab.src (c9 R) aj R λV T az N Q ac=>Tv<|Jc 1 R<|Jz<|Jp<|Jg3 R<|wr2 C k t.len_le ▸ ?_
 cases h
 exact Ja2 ⟨N,a+1,am,V,T,R,(T5 q s x z Q).wk R,ac,nxz C,nxm k,m⟩ R
 rintro _ aA ⟨O,n,i,j,rfl,P,X,rfl⟩
 have h:=yI af
 refine Jp<|Jf3 R<|Ju<|Jb2 (l:=[.tmp 2]) results283 (Jq2 R R) R ?_
 cases h
 exact⟨O,i,j,R,(ae.stp<|y.tr P),X⟩
theorem pR {p0:Int}{c0:Int}{a}(d:Bc J w 0 a 2 [vi c0]){r:Bool}(h:fa p0 c0=some r):Ret prog 217 [vi p0,.pointer (some ⟨a,0,none⟩)] w (Pvb J w r):=by
 unfold fa at h
 refine Jl3 J func217 R ntmps217 R λe=>Jf3 R<|Jh3 [2,2,2,2,1,2,2,2] 3 R<|Ob h λg h f=>Jg4 [1,3] 10 g J w [(3,2),(4,1),(5,2),(6,2)] [(7,2)] tv ?_ ?_
 revert h
 cases i:decide (p0<0)
 refine JF λh=>Jn 1 R<|Jc3 R I2 (d.ld 0 R R)<|Jn 2 R ?_
 cases h
 exact Jh4 tv R
 refine JT λh=>Jn 1 R<|Ja4 R<|Jn 2 R ?_
 cases h
 exact Jh4 tv R
 rintro _ j _ ⟨rfl,b,c⟩
 have h:=f
 refine Jb 1 R<|Ju<|Jb2 (l:=[.tmp 3]) results217 (Jq2 R R) R ?_
 cases h
 exact⟨b,R,(e.stp c)⟩
theorem uV {p0:Int}  {r:Bool}(h:oU p0=some r):Ret prog 211 [vi p0] w (Pvb J w r):=by
 unfold oU at h
 refine Jl3 J func211 R ntmps211 R λf=>Jf3 R<|Jh3 [2,2,2,2,2,2,2,2,2,2,2] 3 R<|Ob h λa h g=>Jg4 [0,2] 8 a J w [(3,2),(4,2),(5,2)] [(6,2),(7,2),(8,2),(9,2),(10,2)] tv ?_ ?_
 revert h
 cases m:(p0==2)
 refine JF λh=>Jn 3 R ?_
 cases h
 exact Jh4 tv R
 refine JT λh=>Jn 3 R ?_
 cases h
 exact Jh4 tv R
 rintro _ k _ ⟨rfl,b,e⟩
 have h:=g
 refine Jn 1 R<|Ob h λj h i=>Jg4 [2] 12 j b k [(7,2),(8,2),(9,2)] [(10,2)] tv ?_ ?_
 revert h
 cases n:a
 refine JF λh=>Jn 3 R ?_
 cases h
 exact Jh4 tv R
 refine JT λh=>Jn 3 R ?_
 cases h
 exact Jh4 tv R
 rintro _ o _ ⟨rfl,c,d⟩
 have h:=i
 refine Jb 1 R<|Ju<|Jb2 (l:=[.tmp 2]) results211 (Jq2 R R) R ?_
 cases h
 exact⟨c,R,(f.stp<|e.tr d)⟩
theorem oo {p0:Bool}  {r:Int}(h:ig p0=some r):Ret prog 192 [.bool p0] w (Pvi J w r):=by
 unfold ig at h
 refine Jl3 J func192 R ntmps192 R λa=>Jf3 R<|Jq<|Jf3 R ?_
 revert h
 cases b:p0
 refine JF λh=>Jy R<|Js<|Jp<|Jf3 R<|Ju<|Jb2 (l:=[.tmp 2]) results192 (Jq2 R R) R ?_
 cases h
 exact⟨J,R,a⟩
 refine JT λh=>Jx R<|Jf3 R<|Ju<|Jw<|Jb2 (l:=[.tmp 2]) results192 (Jq2 R R) R ?_
 cases h
 exact⟨J,R,a⟩
theorem oh {n u}{p0:VI}{p1:Int}(i:Rd Ri J w 0 n u p0){r:Bool}(h:lY p0 p1=some r):Ret prog 197 [.slice n p0.length u,vi p1] w (Pvb J w r):=by
 unfold lY at h
 refine Jl3 J func197 R ntmps197 R λo=>Jf3 R<|Jq<|Jf3 R<|Ob h λt z p=>?_
 clear h
 refine Jx1 (λg k=>∃m,g=[]/\Stp [] J w m k/\t=Dv ()) ?_ ?_
 refine Jv<|Jq3 [0,1] (λc v g k=>∃m a,g=(5,vi a)::v/\Stp [] J w m k/\0<=a/\Dq ((p0.length:Int)-a)=c/\cntM (kA p0 p1) c a ()=some t) ⟨_,_,⟨J,0,R,Jk3,(by decide),(by simp),z⟩,(KM R)⟩ ?_
 rintro c _ E ⟨f,a,rfl,d,q,e,h⟩
 rcases c with _|c
 have b:=h;obtain⟨A,h⟩:=exq b
 have j:=dcf e
 refine Jq<|Jh3 [2,2,2,2] 2 R<|Jo3 R U37 R R<|Jb 1 R<|Jx2 R j<|Jc1<|Jt<|Jt ?_
 cases h
 have h:=b
 refine Jb1 ?_
 cases h
 exact Jw1 _ ⟨f,R,d.wk R,R⟩ KN
 obtain⟨A,h,b⟩:=BI h;unfold kA at h
 have j:=dct e
 refine Jq<|Jh3 [2,2,2,2] 2 R<|Jo3 R U37 R R<|Jb 1 R<|Jw2 R j<|Js<|Jp<|Jq<|Jv<|Jh3 [2,2,2,1,2,2] 2 R<|Ob h λB s h=>Jd3 R i s U37 Z2<|Jc3 R I2 ((i.stp d).gInt s)<|Jb 2 R ?_
 revert h
 cases C:(B==p1)
 refine JF λh=>Jy R<|Js<|Jz<|Jp<|Jg3 R<|wr2 q e i.len_le ▸ ?_
 cases h
 exact Ja2 ⟨f,a+1,R,d.wk R,nxz q,nxm e,b⟩ R
 refine JT λh=>Jx R<|Jf3 R<|Ju<|Ja1<|Jw<|Jw ?_
 cases h
 obtain rfl:=Ds b
 have h:=yL p
 refine Ja1<|Jr2<|Jw<|Jb2 (l:=[.tmp 4]) results197 (Jq2 R R) R ?_
 cases h
 exact⟨f,R,(o.stp d)⟩
 rintro _ D ⟨x,rfl,y,rfl⟩
 have h:=yI p
 refine Jp<|Jf3 R<|Ju<|Jb2 (l:=[.tmp 4]) results197 (Jq2 R R) R ?_
 cases h
 exact⟨x,R,(o.stp y)⟩
theorem qA {p z}{p0:VI}{q A}{p1:VI}(j:Rd Ri J w 0 p z p0) (s:Rd Ri J w 0 q A p1){r:Bool}(h:iM p0 p1=some r):Ret prog 198 [.slice p p0.length z,.slice q p1.length A] w (Pvb J w r):=by
 unfold iM at h
 refine Jl3 J func198 R ntmps198 R λk=>Jf3 R<|Jq<|Jh3 [2,2,2,2,2] 1 R<|Jo3 R U37 R R<|Jn 1 R<|Jo3 R U37 R R<|Jb 1 R ?_
 revert h
 cases I:((p0.length:Int) !=(p1.length:Int))
 refine JF λh=>Jy R<|Js<|Jp<|Jq<|Jf3 R<|Ob h λy E t=>?_
 clear h
 refine Jx1 (λi n=>∃o,i=[]/\Stp [] J w o n/\y=Dv ()) ?_ ?_
 refine Jv<|Jq3 [0,1] (λd B i n=>∃o a,i=(5,vi a)::B/\Stp [] J w o n/\0<=a/\Dq ((p0.length:Int)-a)=d/\cntM (fx p0 p1) d a ()=some y) ⟨_,_,⟨J,0,R,Jk3,(by decide),(by simp),E⟩,(KM R)⟩ ?_
 rintro d _ N ⟨e,a,rfl,b,u,g,h⟩
 rcases d with _|d
 have c:=h;obtain⟨F,h⟩:=exq c
 have m:=dcf g
 refine Jq<|Jh3 [2,2,2,2] 2 R<|Jo3 R U37 R R<|Jb 1 R<|Jx2 R m<|Jc1<|Jt<|Jt ?_
 cases h
 have h:=c
 refine Jb1 ?_
 cases h
 exact Jw1 _ ⟨e,R,b.wk R,R⟩ KN
 obtain⟨F,h,c⟩:=BI h;unfold fx at h
 have m:=dct g
 refine Jq<|Jh3 [2,2,2,2] 2 R<|Jo3 R U37 R R<|Jb 1 R<|Jw2 R m<|Js<|Jp<|Jq<|Jv<|Jq<|Js1 (J:=e) [0] none [(0,2),(1,2),(2,2),(4,2),(5,2),(6,2),(3,0),(7,0),(8,2)] [] (by kernel_rfl) (by kernel_rfl) λL f=>Jn 2 R<|Ob h λG v h=>Jd3 R j v U37 Z2<|Jn 2 R<|Ob h λH x h=>Jd3 R s x U37 Z2<|Jg R (Jd2 I2 R R<|hvC ((j.stp<|b.tr f).gInt v) R)<|Jg R (Jd2 I2 R R<|hvC ((s.stp<|b.tr f).gInt x) R)<|Jn 1 R<|Jt1<|Jd ?_
 revert h
 cases K:(G !=H)
 refine JF λh=>Jy R<|Js<|Jz<|Jp<|Jg3 R<|wr2 u g j.len_le ▸ ?_
 cases h
 exact Ja2 ⟨e,a+1,R,(b.tr f).wk R,nxz u,nxm g,c⟩ R
 refine JT λh=>Jx R<|Jf3 R<|Ju<|Ja1<|Jw<|Jw ?_
 cases h
 obtain rfl:=Ds c
 have h:=yL t
 refine Ja1<|Jr2<|Jw<|Jb2 (l:=[.tmp 4]) results198 (Jq2 R R) R ?_
 cases h
 exact⟨e,R,(k.stp<|b.tr f)⟩
 rintro _ M ⟨C,rfl,D,rfl⟩
 have h:=yI t
 refine Jp<|Jf3 R<|Ju<|Jb2 (l:=[.tmp 4]) results198 (Jq2 R R) R ?_
 cases h
 exact⟨C,R,(k.stp D)⟩
 refine JT λh=>Jx R<|Jf3 R<|Ju<|Jw<|Jb2 (l:=[.tmp 4]) results198 (Jq2 R R) R ?_
 cases h
 exact⟨J,R,k⟩
theorem sI {N Z}{p0:VI}(k:Rd Ri J w 0 N Z p0){r:VI}(h:kB p0=some r):Ret prog 136 [.slice N p0.length Z] w (Pvs E6 2 J w r):=by
 unfold kB at h
 refine Jl3 J func136 R ntmps136 R λay=>Jf3 R<|Je [1,2] R<|Jy3 J E6 2 R Y37 bS R λal aI aa z B aq=>Tv<|Jb 1 R<|Jq<|Jf3 R<|Ob h λX aD aB=>?_
 clear h
 refine Jx1 (λd b=>∃c,∃y:VI,∃t u,d=[(3,.slice t y.length u)]/\Stp [3] z aa c b/\Oc E6 2 c b 2 t u y/\X=Dv y) ?_ ?_
 refine Jv<|Jq3 [0] (λa i d b=>∃c f,∃e:VI,∃s q,d=(3,.slice s e.length q)::(4,vi f)::i/\Stp [3] z aa c b/\Oc E6 2 c b 2 s q e/\0<=f/\Dq ((p0.length:Int)-f)=a/\cntM (ic p0) a f e=some X) ⟨_,_,⟨z,0,([]:VI),al,aI,R,Jk3,aq,(by decide),(by simp),aD⟩,(KM R)⟩ ?_
 rintro a _ ab ⟨m,f,e,s,q,rfl,n,j,O,v,h⟩
 rcases a with _|a
 have x:=h;obtain⟨aH,h⟩:=exq x
 have G:=dcf v
 refine Jq<|Jh3 [2,2,2,2] 2 R<|Jo3 R U37 R R<|Jb 1 R<|Jx2 R G<|Jc1<|Jt<|Jt ?_
 cases h
 have h:=x
 refine Jb1 ?_
 cases h
 exact Jw1 _ ⟨m,e,s,q,R,n.wk R,j,R⟩<|KM R
 obtain⟨aH,h,x⟩:=BI h;unfold ic at h
 have G:=dct v
 refine Jq<|Jh3 [2,2,2,2] 2 R<|Jo3 R U37 R R<|Jb 1 R<|Jw2 R G<|Js<|Jp<|Jq<|Jv<|Jh3 [2,2,2] 1 R<|Jo3 R U37 R R<|Jb 1 R<|Jq<|Ob h λY aC az=>?_
 clear h
 refine Jp3 [0,3,4] (λi d b=>∃c H,d=(5,vi H)::i/\Stp [] m ab c b/\Y=Dv H) ?_ ?_
 refine Jv<|Jq3 [0,3,4] (λa i d b=>∃c g,d=(5,vi g)::i/\Stp [] m ab c b/\cd (ie p0 f e) a g=some Y) ⟨_,_,⟨m,((e.length:Int):Int),R,Jk3,aC⟩,(KM R)⟩ ?_
 rintro a _ aY ⟨I,g,rfl,o,h⟩
 rcases a with _|a
 cases h
 obtain⟨aW,h,P⟩:=BI h;unfold ie at h
 refine Jq<|Jq<|Js1 (J:=I) [0,2] none [(0,2),(1,2),(2,2),(3,2),(4,2),(5,2),(6,2),(8,2),(9,2),(10,2),(7,0),(11,0),(12,2),(13,2)] [] (by kernel_rfl) (by kernel_rfl) λaJ p=>Jn 3 R<|Ob h λW h aA=>Jg4 [0,3,4,5] 29 W I aJ [(3,2),(4,2),(5,2),(6,2),(8,2),(9,2),(10,2),(7,0),(11,0),(12,2),(13,2)] [] (Cl.refl _ _ _) ?_ ?_
 revert h
 cases aU:decide (0<g)
 refine JF λh=>Jn 7 R<|Jb4 R<|Jb4 R<|Jn 2 R ?_
 cases h
 exact Jv1 _ (Cl.refl _ _ _) ⟨R,_,Jk3⟩<|KM R
 refine JT λh=>Jn 3 R<|Ob h λa6 Q h=>Jd3 R j.rdc Q U37 Z2<|Jn 2 R<|Ob h λa7 S h=>Jd3 R k S U37 Z2<|Jg R (Jd2 I2 R R<|hvC ((j.stp<|o.tr p).rdc.gInt Q) R)<|Jg R (Jd2 I2 R R<|hvC ((k.stp<|T4 B n o p).gInt S) R)<|Jn 2 R ?_
 cases h
 exact Jv1 _ (Cl.refl _ _ _) ⟨R,_,Jk3⟩<|KM R
 rintro _ aZ _ ⟨rfl,K,L⟩
 have h:=aA
 refine Jt1<|Jd ?_
 revert h
 cases aV:W
 refine JF λh=>Jy R<|Jc1<|Jt<|Jt ?_
 cases h
 have h:=P
 refine Jb1 ?_
 cases h
 exact Jw1 _ ⟨K,g,R,(T3 o p L).wk R,R⟩<|KM R
 refine JT λh=>Jx R<|Js<|Jp<|Jv<|Jg3 R<|Jz ?_
 cases h
 exact Ja2 ⟨K,((Dr .i64<|g-1):Int),R,(T3 o p L).wk R,P⟩ R
 rintro _ aX ⟨ac,H,rfl,A,rfl⟩
 have h:=yI az
 refine Jp<|Je [1,2,2,2,1,2] R<|Jy3 ac E6 3 R Y37 bS R λaM aT a0 ad C ar=>Tv<|Jn 2 R<|Ob h λa8 T h=>Jf R (ob (k1:= .i64) (k2:= .i64) U37 Z2 (.inl ⟨R,R⟩) (.inr ⟨_,R,R⟩) T j.rdc.1 R R R) ?_
 have F:=j.stp (A.tr C)
 refine Ob h λa9 aE h=>Jz3 ad E6 3 [] R Y37 bS R ar (Du (cc _)<|F.rdc.sub T) bV aE R λaP aO a1 ae D au=>Tv<|Jb 1 R<|Jh3 [2,2,2,2,1,1,1,2] 3 R<|Ob h λaK U h=>Jd3 R k U U37 Z2<|Jc3 R I2 ((k.stp<|T5 B n A C D).gInt U)<|Je4 ae 4 [aK] R Y37 bS R λaN aQ a2 af E av=>Tv<|Ob h λba aF h=>Jz3 af E6 3 [] R Y37 bS R (au.stp E) (Du (cc _) av.rdc) bV aF R λaS aR a3 ag M aw=>Tv<|Jb 1 R<|Ji3 [2,2,2,2,1,2] 3 R<|Ob h λbb V h=>Jf R (ob (k1:= .i64) (k2:= .i64) U37 Z2 (.inr ⟨_,R,R⟩) (.inl ⟨R,R⟩) V F.rdc.1 R R R)<|Ob h λaL aG h=>Jz3 ag E6 3 [] R Y37 bS R aw (Du (cc _) ((F.stp<|T3 D E M).rdc.sub V)) bV aG R λam an a4 ah ak ax=>Tv<|Jc 1 R<|Jz<|Jp<|Jg3 R<|wr2 O v k.len_le ▸ ?_
 cases h
 exact Ja2 ⟨(λao=>ren [(3,2)]<|ah ao),f+1,aL,am,an,R,(Jz2 ((T7 n A C D E M ak).wk R) [(3,2)] R),(ax.map (ren [(3,2)]) R R),nxz O,nxm v,x⟩ R
 rintro _ a5 ⟨ai,y,t,u,rfl,aj,ap,rfl⟩
 have h:=yI aB
 refine Jp<|Jf3 R<|Ju<|Jb2 (l:=[.tmp 2]) results136 (Jq2 R R) R ?_
 cases h
 exact⟨ai,t,u,R,(ay.stp<|B.tr aj),ap⟩
theorem xr {p0:Int}  {r:VI}(h:qb p0=some r):Ret prog 99 [vi p0] w (Pvs E6 2 J w r):=by
 unfold qb at h
 refine Jl3 J func99 R ntmps99 R λO=>Jf3 R<|Je [1,2] R<|Jy3 J E6 2 R Y37 bS R λG U x m E N=>Tv<|Jb 1 R<|Jq<|Jf3 R<|Ob h λv S Q=>?_
 clear h
 refine Jx1 (λn b=>∃c,∃k:VI×Int,∃g i,n=[(3,.slice g k.1.length i)]/\Stp [2] m x c b/\Oc E6 2 c b 2 g i k.1/\v=Dv k) ?_ ?_
 refine Jv<|Jq3 [0] (λj y n b=>∃c,∃a:VI×Int,∃f e,n=(3,.slice f a.1.length e)::(4,vi a.2)::y/\Stp [2] m x c b/\Oc E6 2 c b 2 f e a.1/\cd (lN p0) j a=some v) ⟨_,_,⟨m,(([]:VI),(0:Int)),G,U,R,Jk3,N,S⟩,(KM R)⟩ ?_
 rintro j _ V ⟨z,a,f,e,rfl,p,s,h⟩
 rcases j with _|j
 cases h
 obtain⟨ab,h,t⟩:=BI h;unfold lN at h
 refine Jq<|Jh3 [2,2,2,2,2,2,2] 4 R<|Ob h λu h P=>Jg4 [0,3,4] 12 u z V [(4,2),(5,2),(6,2)] [] tv ?_ ?_
 revert h
 cases Z:decide (a.2<p0)
 refine JF λh=>Jn 3 R ?_
 cases h
 exact Jh4 tv R
 refine JT λh=>Jn 3 R ?_
 cases h
 exact Jh4 tv R
 rintro _ ac _ ⟨rfl,o,d⟩
 have h:=P
 refine Jd ?_
 revert h
 cases aa:u
 refine JF λh=>Jy R<|Jc1<|Jt<|Jt ?_
 cases h
 have h:=t
 refine Jb1 ?_
 cases h
 exact Jw1 _ ⟨o,(a.1,a.2),f,e,R,(p.tr d).wk R,(s.stp d),R⟩<|KM R
 refine JT λh=>Jx R<|Js<|Jp<|Jq<|Jv<|Ji3 [2,2,1,1,2] 2 R<|Je4 o 3 [a.2] R Y37 bS R λX Y ad A q L=>Tv<|Ob h λW T h=>Jz3 A E6 2 [] R Y37 bS R (s.stp<|d.tr q) (Du (cc _) L.rdc) bV T R λI H ae B F M=>Tv<|Jc 1 R<|Jz<|Jp<|Jg3 R ?_
 cases h
 exact Ja2 ⟨B,(W,((Dr .i64<|a.2+1):Int)),I,H,R,(T4 p d q F).wk R,M,t⟩ R
 rintro _ af ⟨C,k,g,i,rfl,D,K,rfl⟩
 have h:=yI Q
 refine Jp<|Jf3 R<|Ju<|Jb2 (l:=[.tmp 2]) results99 (Jq2 R R) R ?_
 cases h
 exact⟨C,g,i,R,(O.stp<|E.tr D),K⟩
theorem qg {G I q s i g j f}{p0:l30Graph}{p1:Int}{p2:Int}{L}(x:Oc E6 2 J w 2 G I p0.of) (y:Oc E6 2 J w 3 q s p0.by0) (aF:Rd Rs J w 0 i g p0.next) (aG:Rd Rs J w 0 j f p0.letters) (M:Bc J w 4 L 216 [.slice G p0.of.length I,.slice q p0.by0.length s,.slice i p0.next.length g,.slice j p0.letters.length f]){r:Int×VI×VI}(h:j6 p0 p1 p2=some r):Ret prog 254 [.pointer (some ⟨L,0,none⟩),vi p1,vi p2] w (λay b=>∃(c:Col) (ad:Option Addr) (af:Nat) (ae:Option Addr) (ag:Nat),ay=vi r.1/\Ent J w c b/\Oc E6 2 c b 2 ad af r.2.1/\Oc E6 2 c b 3 ae ag r.2.2/\Bc c b 4 L 216 [.slice ad r.2.1.length af,.slice ae r.2.2.length ag,.slice i p0.next.length g,.slice j p0.letters.length f]):=by
 unfold j6 at h
 refine Jl3 J func254 R ntmps254 R λY=>Jf3 R<|Jq<|Jf3 R<|Ob h λai au Z=>?_
 clear h
 refine Jp3 [0,1,2] (λA B b=>∃c,B=A/\Stp [] J w c b/\ai=Dv ()) ?_ ?_
 refine Jv<|Jq3 [0,1,2] (λm A B b=>∃c d,B=(7,vi d)::A/\Stp [] J w c b/\0<=d/\Dq ((p0.of.length:Int)-d)=m/\cntM (jN p0 p1 p2) m d ()=some ai) ⟨_,_,⟨J,0,R,Jk3,(by decide),(by simp),au⟩,(KM R)⟩ ?_
 rintro m _ az ⟨T,d,rfl,a,aa,z,h⟩
 rcases m with _|m
 have k:=h;obtain⟨ax,h⟩:=exq k
 have N:=dcf z
 refine Jq<|Jh3 [2,2,2,2,1,2,2] 2 R<|Jf R (bX R R)<|Je3 R U216 R Z37<|Jc3 R I37 ((M.stp a).ld 0 R R)<|Jo3 R U37 R R<|Jb 1 R<|Jx2 R N<|Jc1<|Jt<|Jt ?_
 cases h
 have h:=k
 refine Jb1 ?_
 cases h
 exact Jw1 _ ⟨T,R,a.wk R,R⟩<|KM R
 obtain⟨ax,h,k⟩:=BI h;unfold jN at h
 have N:=dct z
 refine Jq<|Jh3 [2,2,2,2,1,2,2] 2 R<|Jf R (bX R R)<|Je3 R U216 R Z37 ?_
 have v:=M.stp a
 refine Jc3 R I37 (v.ld 0 R R)<|Jo3 R U37 R R<|Jb 1 R<|Jw2 R N<|Js<|Jp<|Jq<|Jv<|Jh3 [2,2,2,1,2,2,1,2,2,2,2,2,2,1,2,2,1,2,2,2] 1 R<|Jf R (bX R R)<|Je3 R U216 R Z37<|Jc3 R I37 (v.ld 0 R R)<|Jn 1 R<|Ob h λaA ab h=>Jd3 R x.rdc ab U37 Z2 ?_
 have U:=x.stp a
 refine Jc3 R I2 (U.rdc.gInt ab)<|Jn 3 R<|Ob h λah h ar=>Jg4 [0,1,2,7] 36 ah T az [(10,2),(11,2),(12,2),(13,1),(14,2),(15,2),(16,1),(17,2),(18,2),(19,2)] [] tv ?_ ?_
 revert h
 cases aH:(aA==p1)
 refine JF λh=>Jn 3 R<|Ja4 R<|Jn 2 R<|Ja4 R<|Jn 3 R ?_
 cases h
 exact Jh4 tv R
 refine JT λh=>Jn 1 R<|Jf R (bX R R)<|Je3 R U216 R Z37<|Jc3 R I37 (v.ld 1 R R)<|Jn 1 R<|Ob h λaR ac h=>Jd3 R y.rdc ac U37 Z2<|Jc3 R I2 ((y.stp a).rdc.gInt ac)<|Jn 3 R ?_
 cases h
 exact Jh4 tv R
 rintro _ aJ _ ⟨rfl,P,e⟩
 have h:=ar
 refine Jd ?_
 revert h
 cases aI:ah
 refine JF λh=>Jy R<|Js<|Jz<|Jp<|Jg3 R<|wr2 aa z x.len_le ▸ ?_
 cases h
 exact Ja2 ⟨P,d+1,R,(a.tr e).wk R,nxz aa,nxm z,k⟩ R
 refine JT λh=>Jx R<|Jf3 R<|Ju<|Ja1<|Jw<|Jw ?_
 cases h
 obtain rfl:=Ds k
 have h:=yL Z
 refine Ja1<|Jr2<|Jw<|Jb2 (l:=[.tmp 6]) results254 (Jq2 R R) R ?_
 cases h
 exact⟨P,G,I,q,s,R,(Y.stp<|a.tr e),(U.stp e),(y.stp<|a.tr e),(v.stp e)⟩
 rintro _ aO ⟨am,rfl,p,rfl⟩
 have h:=yI Z
 refine Jp<|Jh3 [2,2,2,2,1,2,1,1,2,2,1] 2 R<|Jf R (bX R R)<|Je3 R U216 R Z37 ?_
 have V:=M.stp p
 refine Jc3 R I37 (V.ld 0 R R)<|Jn 1 R<|Je4 am 5 [p1] R Y37 bS R λaB aC aK ak n an=>Tv<|Ob h λO av h=>Jz3 ak E6 2 [] R Y37 bS R (x.stp<|p.tr n) (Du (cc _) an.rdc) bV av R λu t aL Q C ao=>Tv<|Jf R (bX R R)<|Je3 R U216 R Z37<|Jv3 Q 4 (off:=0) (vc:=[.slice u O.length t]) (cs':=[.slice u O.length t,.slice q p0.by0.length s,.slice i p0.next.length g,.slice j p0.letters.length f]) R Z37 R (V.stp<|n.tr C) R λaM D W=>Tv<|Jd<|Jh3 [2,2,2,2,1,2,1,1,2,2,1] 2 R<|Jf R (bX R R)<|Je3 R U216 R Z37<|Jc3 R I37 (W.ld 1 R R)<|Jn 1 R<|Je4 Q 6 [p2] R Y37 bS R λaE aD aN al o ap=>Tv<|Ob h λaj aw h=>Jz3 al E6 3 [] R Y37 bS R (y.stp<|T5 p n C D o) (Du (cc _) ap.rdc) bV aw R λH K aP S E aq=>Tv<|Jf R (bX R R)<|Je3 R U216 R Z37<|Jv3 S 4 (off:=1) (vc:=[.slice H aj.length K]) (cs':=[.slice u O.length t,.slice H aj.length K,.slice i p0.next.length g,.slice j p0.letters.length f]) R Z37 R (W.stp<|o.tr E) R λaQ F X=>Tv<|Jd<|Jh3 [2,2,2,1,2,2,2] 1 R<|Jf R (bX R R)<|Je3 R U216 R Z37<|Jc3 R I37 (X.ld 0 R R)<|Jo3 R U37 R R<|Jb 2 R<|Ju<|Jb2 (l:=[.tmp 6]) results254 (Jq2 R R) R ?_
 cases h
 exact⟨S,u,t,H,K,R,(Y.stp<|T7 p n C D o E F),(ao.stp<|T4 D o E F),(aq.stp F),X⟩
theorem wv {af aJ}{p0:VV}{ag aK}{p1:VB}{p2:Int}(v:Rd Rs J w 0 af aJ p0) (am:Rd Rp.bool J w 0 ag aK p1){r:VI}(h:m9 p0 p1 p2=some r):Ret prog 209 [.slice af p0.length aJ,.slice ag p1.length aK,vi p2] w (Pvs E6 2 J w r):=by
 unfold m9 at h
 refine Jl3 J func209 R ntmps209 R λbj=>Jf3 R<|Je [1,2] R<|Jy3 J E6 2 R Y37 bS R λa7 a6 aL S W bf=>Tv<|Jb 1 R<|Jq<|Jf3 R<|Ob h λaG bD bm=>?_
 clear h
 refine Jp3 [0,1,2] (λd e a=>∃b,∃f:VI,∃g i,e=(7,.slice g f.length i)::d/\Stp [2] S aL b a/\Oc E6 2 b a 2 g i f/\aG=Dv f) ?_ ?_
 refine Jv<|Jq3 [0,1,2] (λc d e a=>∃b s,∃x:VI,∃H G,e=(7,.slice H x.length G)::(8,vi s)::d/\Stp [2] S aL b a/\Oc E6 2 b a 2 H G x/\0<=s/\Dq ((p0.length:Int)-s)=c/\cntM kF c s x=some aG) ⟨_,_,⟨S,0,([]:VI),a7,a6,R,Jk3,bf,(by decide),(by simp),bD⟩,(KM R)⟩ ?_
 rintro c _ b5 ⟨ac,s,x,H,G,rfl,ad,ai,ap,M,h⟩
 rcases c with _|c
 have N:=h;obtain⟨bJ,h⟩:=exq N
 have aa:=dcf M
 refine Jq<|Jh3 [2,2,2,2] 2 R<|Jo3 R U31 R R<|Jb 1 R<|Jx2 R aa<|Jc1<|Jt<|Jt ?_
 cases h
 have h:=N
 refine Jb1 ?_
 cases h
 exact Jw1 _ ⟨ac,x,H,G,R,ad.wk R,ai,R⟩<|KM R
 obtain⟨bJ,h,N⟩:=BI h;unfold kF at h
 have aa:=dct M
 refine Jq<|Jh3 [2,2,2,2] 2 R<|Jo3 R U31 R R<|Jb 1 R<|Jw2 R aa<|Js<|Jp<|Jq<|Jv<|Ji3 [2,1,1,2] 1 R<|Je4 ac 3 [(-1)] R Y37 bS R λbR bT b6 aR ae bb=>Tv<|Ob h λbN bE h=>Jz3 aR E6 2 [] R Y37 bS R (ai.stp ae) (Du (cc _) bb.rdc) bV bE R λa8 a9 b7 aS a1 bc=>Tv<|Jc 1 R<|Jz<|Jp<|Jg3 R<|wr2 ap M v.len_le ▸ ?_
 cases h
 exact Ja2 ⟨aS,s+1,bN,a8,a9,R,(T3 ad ae a1).wk R,bc,nxz ap,nxm M,N⟩ R
 rintro _ cb ⟨aY,f,g,i,rfl,U,ah,rfl⟩
 have h:=yI bm
 refine Jp<|Jh3 [2,2,2,1] 2 R<|Ob h λcg bF h=>Jd3 R ah.rdc bF U37 Z2<|Ob h λaP aB h=>Jk1 (J:=aY) (E:=E6) 2 [] R R R R R R R R Z2 R R R R ah aB λaM T V bd=>Tv<|?_
 have bu:f.length=aP.length:=(Ju2 aB).2.2.2.symm
 refine Jd<|Jq<|Jf3 R<|Ob h λaH bA bk=>?_
 clear h
 refine Jp3 [7] (λd e a=>∃b,∃Q:VI,e=d/\Stp [2] T aM b a/\Oc E6 2 b a 2 g i Q/\f.length=Q.length/\aH=Dv Q) ?_ ?_
 refine Jv<|Jq3 [0,1,7] (λc d e a=>∃b k,∃p:VI,e=(9,vi k)::d/\Stp [2] T aM b a/\Oc E6 2 b a 2 g i p/\f.length=p.length/\0<=k/\Dq ((p0.length:Int)-k)=c/\cntM (kG p0 p1) c k p=some aH) ⟨_,_,⟨T,0,aP,R,Jk3,bd,bu,(by decide),(by simp),bA⟩,(KM R)⟩ ?_
 rintro c _ aN ⟨A,k,p,rfl,D,aj,ar,an,K,h⟩
 rcases c with _|c
 have O:=h;obtain⟨bH,h⟩:=exq O
 have Y:=dcf K
 refine Jq<|Jh3 [2,2,2,2] 2 R<|Jo3 R U31 R R<|Jb 1 R<|Jx2 R Y<|Jc1<|Jt<|Jt ?_
 cases h
 have h:=O
 refine Jb1 ?_
 cases h
 exact Jw1 _ ⟨A,p,R,D.wk R,aj,ar,R⟩<|KM R
 obtain⟨bH,h,O⟩:=BI h;unfold kG at h
 have Y:=dct K
 refine Jq<|Jh3 [2,2,2,2] 2 R<|Jo3 R U31 R R<|Jb 1 R<|Jw2 R Y<|Js<|Jp<|Jq<|Jv<|Jf3 R<|Ob h λaI bB bl=>?_
 clear h
 refine Jp3 [0,1,7,9] (λd e a=>∃b,∃z:VI,e=d/\Stp [2] A aN b a/\Oc E6 2 b a 2 g i z/\f.length=z.length/\aI=Dv z) ?_ ?_
 refine Jv<|Jq3 [0,1,7,9] (λc d e a=>∃b m,∃q:VI,e=(10,vi m)::d/\Stp [2] A aN b a/\Oc E6 2 b a 2 g i q/\f.length=q.length/\0<=m/\Dq ((p0.length:Int)-m)=c/\cntM (kH p0 p1 k) c m q=some aI) ⟨_,_,⟨A,0,p,R,Jk3,aj,ar,(by decide),(by simp),bB⟩,(KM R)⟩ ?_
 rintro c _ aO ⟨B,m,q,rfl,E,ak,au,ao,L,h⟩
 rcases c with _|c
 have P:=h;obtain⟨bI,h⟩:=exq P
 have Z:=dcf L
 refine Jq<|Jh3 [2,2,2,2] 2 R<|Jo3 R U31 R R<|Jb 1 R<|Jx2 R Z<|Jc1<|Jt<|Jt ?_
 cases h
 have h:=P
 refine Jb1 ?_
 cases h
 exact Jw1 _ ⟨B,q,R,E.wk R,ak,au,R⟩<|KM R
 obtain⟨bI,h,P⟩:=BI h;unfold kH at h
 have Z:=dct L
 refine Jq<|Jh3 [2,2,2,2] 2 R<|Jo3 R U31 R R<|Jb 1 R<|Jw2 R Z<|Js<|Jp<|Jq<|Jv<|Jf3 R<|Ob h λaF bC bn=>?_
 clear h
 refine Jp3 [0,1,7,9,10] (λd e a=>∃b,∃y:Int×VI,e=d/\Stp [2] B aO b a/\Oc E6 2 b a 2 g i y.2/\f.length=y.2.length/\aF=Dv y) ?_ ?_
 refine Jv<|Jq3 [0,1,7,9,10] (λc d e a=>∃b,∃j:Int×VI,e=(11,vi j.1)::d/\Stp [2] B aO b a/\Oc E6 2 b a 2 g i j.2/\f.length=j.2.length/\cd (eb p0 p1 k m) c j=some aF) ⟨_,_,⟨B,((0:Int),q),R,Jk3,ak,au,bC⟩,(KM R)⟩ ?_
 rintro c _ bK ⟨aW,j,rfl,F,u,o,h⟩
 rcases c with _|c
 cases h
 obtain⟨b2,h,aq⟩:=BI h;unfold eb at h
 refine Jq<|Jh3 [2,2,2,2,1,2,2,2,2,2,2,1,2,2,2,2,2,2,1,2] 3 R<|Ob h λbO av h=>Jd3 R v av U31 Z37 ?_
 have X:=v.stp (T6 W U V D E F)
 obtain⟨bU,b3,bX,br⟩:=X.gSl av
 refine Jc3 R I37 br<|Jo3 R U37 R R<|Jn 2 R<|Ob h λaD h bo=>Jg4 [0,1,7,9,10,11] 50 aD aW bK [(8,2),(9,2),(10,2),(11,1),(12,2),(13,2)] [(14,2),(15,2),(16,2),(17,2),(18,1),(19,2)] tv ?_ ?_
 revert h
 cases bY:decide (j.1<(bO.length:Int))
 refine JF λh=>Jn 3 R<|Ja4 R<|Jn 2 R ?_
 cases h
 exact Jh4 tv R
 refine JT λh=>Jn 2 R<|Ob h λch aw h=>Jf R (Jg2 u.rdc aw U37 Z2 R R o R)<|Jc3 R I2 (u.rdc.gInt aw)<|Jn 2 R ?_
 cases h
 exact Jh4 tv R
 rintro _ bL _ ⟨rfl,aX,n⟩
 have h:=bo
 refine Jn 1 R<|Ob h λaE h bp=>Jg4 [0,1,7,9,10,11] 56 aE aX bL [(15,2),(16,2),(17,2),(18,1),(19,2)] [] tv ?_ ?_
 revert h
 cases bZ:aD
 refine JF λh=>Jn 3 R<|Ja4 R<|Jn 1 R ?_
 cases h
 exact Jh4 tv R
 refine JT λh=>Jn 2 R<|Ob h λci ax h=>Jd3 R am ax U178 Z4<|Jc3 R I4 ((am.stp<|T7 W U V D E F n).gBool ax)<|Jn 1 R ?_
 cases h
 exact Jh4 tv R
 rintro _ bM _ ⟨rfl,C,t⟩
 have h:=bp
 refine Jd ?_
 revert h
 cases b0:aE
 refine JF λh=>Jy R<|Jc1<|Jt<|Jt ?_
 cases h
 have h:=aq
 refine Jb1 ?_
 cases h
 exact Jw1 _ ⟨C,(j.1,j.2),R,(T3 F n t).wk R,(u.stp<|n.tr t),o,R⟩<|KM R
 refine JT λh=>Jx R<|Js<|Jp<|Jq<|Jv<|Jh3 [2,2,2,2,1,2,2,1,2,1,2,2] 3 R<|Ob h λcj ay h=>Jd3 R X ay U31 Z37 ?_
 obtain⟨bW,b4,al,bs⟩:=(X.stp (n.tr t)).gSl ay
 refine Jc3 R I37 bs<|Jn 1 R<|Ob h λck az h=>Jd3 R al az U37 Z2<|Jc3 R I2 (al.gInt az)<|Ob h λbP aA h=>Jf R (Jg2 u.rdc aA U37 Z2 R R o R) ?_
 have I:=u.stp (n.tr t)
 refine Jc3 R I2 (I.rdc.gInt aA)<|Jb 2 R<|Ob h λab h bq=>Jp3 [0,1,7,9,10,11] (λd e a=>∃b,e=d/\Stp [2] C bM b a/\Oc E6 2 b a 2 g i ab/\f.length=ab.length) ?_ ?_
 revert h
 cases b1:(bP==k)
 refine JF λh=>Jy R<|Js ?_
 cases h
 exact Jw1 _ ⟨C,R,Jk3,I,o⟩<|KM R
 refine JT λh=>Jx R<|Ji3 [2,2,2,2,2,1] 4 R<|Ob h λcl bG h=>Jf R (Jg2 I.rdc bG U37 Z2 R R o R)<|Ob h λbQ aC h=>Jk1 (J:=C) (E:=E6) 2 [] R R R R R R R R Z2 R R R R I aC λcf aQ a0 ba=>Tv<|?_
 have bt:f.length=bQ.length:=o.trans (Ju2 aC).2.2.2.symm
 refine Jo ?_
 cases h
 exact Jw1 _ ⟨aQ,R,a0.wk R,ba,bt⟩<|KM R
 rintro _ ce ⟨aZ,rfl,a5,bi,bz⟩
 have h:=bq
 refine Jz<|Jp<|Jg3 R ?_
 cases h
 exact Ja2 ⟨aZ,(((Dr .i64<|j.1+1):Int),ab),R,(T4 F n t a5).wk R,bi,bz,aq⟩ R
 rintro _ ca ⟨aV,y,rfl,a4,bh,bx,rfl⟩
 have h:=yI bn
 refine Jz<|Jp<|Jg3 R<|wr2 ao L v.len_le ▸ ?_
 cases h
 exact Ja2 ⟨aV,m+1,y.2,R,(E.tr a4).wk R,bh,bx,nxz ao,nxm L,P⟩ R
 rintro _ b9 ⟨aU,z,rfl,a3,bg,bw,rfl⟩
 have h:=yI bl
 refine Jz<|Jp<|Jg3 R<|wr2 an K v.len_le ▸ ?_
 cases h
 exact Ja2 ⟨aU,k+1,z,R,(D.tr a3).wk R,bg,bw,nxz an,nxm K,O⟩ R
 rintro _ b8 ⟨aT,Q,rfl,a2,be,bv,rfl⟩
 have h:=yI bk
 refine Jp<|Jf3 R<|Ju<|Jb2 (l:=[.tmp 6]) results209 (Jq2 R R) R ?_
 cases h
 exact⟨aT,g,i,(by simp only[bv]),(bj.stp<|T4 W U V a2),be⟩
theorem re {k A}{p0:VV}{m B}{p1:VI}{p2:Int}(o:Rd Rs J w 0 k A p0) (p:Rd Ri J w 0 m B p1){r:Bool}(h:jP p0 p1 p2=some r):Ret prog 208 [.slice k p0.length A,.slice m p1.length B,vi p2] w (Pvb J w r):=by
 unfold jP at h
 refine Jl3 J func208 R ntmps208 R λq=>Jf3 R<|Jq<|Jf3 R<|Ob h λy H s=>?_
 clear h
 refine Jx1 (λe i=>∃j z,e=[]/\Stp [] J w j i/\y=Dv z) ?_ ?_
 refine Jv<|Jq3 [0,1,2] (λc C e i=>∃j a,e=(7,vi a)::C/\Stp [] J w j i/\cd (gg p0 p1 p2) c a=some y) ⟨_,_,⟨J,(0:Int),R,Jk3,H⟩,(KM R)⟩ ?_
 rintro c _ V ⟨d,a,rfl,b,h⟩
 rcases c with _|c
 cases h
 obtain⟨Q,h,g⟩:=BI h;unfold gg at h
 refine Jq<|Jh3 [2,2,2,2,1,2,2] 3 R<|Ob h λI t h=>Jd3 R o t U31 Z37 ?_
 have f:=o.stp b
 obtain⟨L,S,N,F⟩:=f.gSl t
 refine Jc3 R I37 F<|Jo3 R U37 R R<|Jb 1 R ?_
 revert h
 cases O:decide (a<(I.length:Int))
 refine JF λh=>Jy R<|Jc1<|Jt<|Jt ?_
 cases h
 have h:=g
 refine Jb1 ?_
 cases h
 exact Jw1 _ ⟨d,a,R,b.wk R,R⟩ KN
 refine JT λh=>Jx R<|Js<|Jp<|Jq<|Jv<|Jh3 [2,2,2,2,1,2,2,1,2,1,2] 3 R<|Ob h λW u h=>Jd3 R f u U31 Z37 ?_
 obtain⟨M,T,n,G⟩:=f.gSl u
 refine Jc3 R I37 G<|Jn 1 R<|Ob h λX v h=>Jd3 R n v U37 Z2<|Jc3 R I2 (n.gInt v)<|Ob h λK x h=>Jd3 R p x U37 Z2<|Jc3 R I2 ((p.stp b).gInt x)<|Jb 1 R ?_
 revert h
 cases P:decide (0<=K)
 refine JF λh=>Jy R<|Js<|Jz<|Jp<|Jg3 R ?_
 cases h
 exact Ja2 ⟨d,((Dr .i64<|a+1):Int),R,b.wk R,g⟩ R
 refine JT λh=>Jx R<|Jf3 R<|Ju<|Ja1<|Jw<|Jw ?_
 cases h
 obtain rfl:=Ds g
 have h:=yL s
 refine Ja1<|Jr2<|Jw<|Jb2 (l:=[.tmp 6]) results208 (Jq2 R R) R ?_
 cases h
 exact⟨d,R,(q.stp b)⟩
 rintro _ U ⟨D,z,rfl,E,rfl⟩
 have h:=yI s
 refine Jp<|Jf3 R<|Ju<|Jb2 (l:=[.tmp 6]) results208 (Jq2 R R) R ?_
 cases h
 exact⟨D,R,(q.stp E)⟩
theorem rV {p0:Int}{i n}{c0:VI}{b}(u:Oc E6 2 J w 2 i n c0) (k:Bc J w 3 b 37 [.slice i c0.length n]){r:VI}(h:mq p0 c0=some r):Ret prog 219 [vi p0,.pointer (some ⟨b,0,none⟩)] w (λy c=>∃(d:Col) (l:Option Addr) (m:Nat),y= .tuple #[]/\Ent J w d c/\Oc E6 2 d c 2 l m r/\Bc d c 3 b 37 [.slice l r.length m]):=by
 unfold mq at h
 refine Jl3 J func219 R ntmps219 R λv=>Ja [1,2,1,1,1] R<|Jc3 R I37 (k.ld 0 R R)<|Jn 1 R<|Je4 J 4 [p0] R Y37 bS R λA B C p a s=>Tv<|Ob h λz x h=>Jz3 p E6 2 [] R Y37 bS R (u.stp a) (Du (cc _) s.rdc) bV x R λj o E e g t=>Tv<|Jw3 e 3 (vc:=[.slice j z.length o]) R Z37 R (k.stp<|a.tr g) R λD f q=>Tv<|Jo<|DN.end0 results219 ?_
 cases h
 exact⟨e,j,o,R,(v.stp<|T3 a g f),(t.stp f),q⟩
theorem rW {p0:Int}{i n}{c0:VI}{b}(u:Oc E6 2 J w 2 i n c0) (k:Bc J w 3 b 37 [.slice i c0.length n]){r:VI}(h:nW p0 c0=some r):Ret prog 220 [vi p0,.pointer (some ⟨b,0,none⟩)] w (λy c=>∃(d:Col) (l:Option Addr) (m:Nat),y= .tuple #[]/\Ent J w d c/\Oc E6 2 d c 2 l m r/\Bc d c 3 b 37 [.slice l r.length m]):=by
 unfold nW at h
 refine Jl3 J func220 R ntmps220 R λv=>Ja [1,2,1,1,1] R<|Jc3 R I37 (k.ld 0 R R)<|Jn 1 R<|Je4 J 4 [p0] R Y37 bS R λA B C p a s=>Tv<|Ob h λz x h=>Jz3 p E6 2 [] R Y37 bS R (u.stp a) (Du (cc _) s.rdc) bV x R λj o E e g t=>Tv<|Jw3 e 3 (vc:=[.slice j z.length o]) R Z37 R (k.stp<|a.tr g) R λD f q=>Tv<|Jo<|DN.end0 results220 ?_
 cases h
 exact⟨e,j,o,R,(v.stp<|T3 a g f),(t.stp f),q⟩
end
end Go.Proofs.YtleekpaohfpooaaGreat
