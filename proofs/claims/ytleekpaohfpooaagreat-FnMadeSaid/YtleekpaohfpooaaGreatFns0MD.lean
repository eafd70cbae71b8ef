/- The walks, part 0. By program. -/
import Derived.Test.YtleekpaohfpooaaGreatFnsMMD
import Derived.Test.YtleekpaohfpooaaGreatAlMD
set_option linter.unusedVariables false
set_option linter.unusedSimpArgs false
open Go.Wk.Ep renaming bool → Do, own → Dp
open Int renaming toNat → Dq
open Go.IntKind renaming wrap → Dr
open Option.some renaming inj → Ds
open Go.Wk.Ow renaming nil → Dt
open Go.Wk.Sl renaming srcP → Du
open Sum renaming inr → Dv
namespace Go.Proofs.YtleekpaohfpooaaGreat
open Tryz
open Go Go.Wk Go.Proofs
set_option maxRecDepth 100000
set_option maxHeartbeats 1000000
section
variable {w:World}{J:Col}
theorem yz {c e}{p0:VI}{p1:Int}(j:Rd (Rp.int .u8) J w 0 c e p0){r:dice}(h:r6 p0 p1=some r):Ret prog 9 [.slice c p0.length e,.int .u64 p1] w (λV a=>∃(b:Col) (F:Option Addr) (H:Nat) (G:Nat),V= .pointer (some ⟨G,0,none⟩)/\Ent J w b a/\Rd (Rp.int .u8) b a 0 F H r.b/\(Bc b a 3 G 65 [.slice F r.b.length H,vi r.i,.int .u64 r.h])):=by
 unfold r6 at h
 refine Jl3 J func9 R ntmps9 R λQ=>Jf3 R<|Jh3 [2,2,2,2,2,2,2,2,1,2] 4 R<|Jo3 R U22 R R<|Jf R (Ji2 runUnderlying3 U26 R R)<|Jn 1 R<|Jf R (Jj4 [.slice c p0.length e,vi 0,.int .u64 (Dr .u64 ((Dr .u64<|p1 * 7919)+(Dr .u64 (p0.length:Int))))] R)<|Jt3 J 2 R λu I o t P=>Tv<|Jb 1 R<|Jq<|Jf3 R<|Ob h λE T S=>?_
 clear h
 refine Jp3 [5] (λn p a=>∃b x,p=n/\Stp [2] o I b a/\Bc b a 2 u 65 [.slice c p0.length e,vi 0,.int .u64 x]/\E=Dv x) ?_ ?_
 refine Jv<|Jq3 [0,5] (λg n p a=>∃b f d,p=(6,vi f)::n/\Stp [2] o I b a/\Bc b a 2 u 65 [.slice c p0.length e,vi 0,.int .u64 d]/\0<=f/\Dq ((p0.length:Int)-f)=g/\cntM (mR p0) g f d=some E) ⟨_,_,⟨o,0,((Dr .u64 ((Dr .u64<|p1 * 7919)+(Dr .u64 (p0.length:Int)))):Int),R,Jk3,P,(by decide),(by simp),T⟩,(KM R)⟩ ?_
 rintro g _ W ⟨i,f,d,rfl,q,A,C,k,h⟩
 rcases g with _|g
 have m:=h;obtain⟨U,h⟩:=exq m
 have v:=dcf k
 refine Jq<|Jh3 [2,2,2,2] 2 R<|Jo3 R U22 R R<|Jb 1 R<|Jx2 R v<|Jc1<|Jt<|Jt ?_
 cases h
 have h:=m
 refine Jb1 ?_
 cases h
 exact Jw1 _ ⟨i,d,R,q.wk R,A,R⟩<|KM R
 obtain⟨U,h,m⟩:=BI h;unfold mR at h
 have v:=dct k
 refine Jq<|Jh3 [2,2,2,2] 2 R<|Jo3 R U22 R R<|Jb 1 R<|Jw2 R v<|Js<|Jp<|Jq<|Jv<|Js1 (J:=i) [0,2] (some 15) [(0,2),(1,2),(2,2),(3,2),(6,2),(7,2),(8,2),(4,0),(5,2),(9,0),(10,2),(11,2),(12,2),(13,2),(14,2)] [(15,1)] (by kernel_rfl) (by kernel_rfl) λX s=>Jn 2 R<|Jf R (bX R R)<|Je3 R U65 R Z26<|Jn 2 R<|Ob h λy D h=>Jd3 R j D U22 sizeOf5 ?_
 have B:=A.stp s
 refine Jg R (Jd2 isAgg26 R R<|hvC (B.ld 2 R R) R)<|Jn 1 R<|Jg R (Jd2 isAgg5 R R<|hvC ((j.stp<|T3 t q s).gInt D) R)<|Jf R (Ji2 runUnderlying5 U26 R R)<|Jn 2 R<|Jf R (bX R R)<|Je3 R U65 R Z26<|Jt1<|Jv3 i 2 (off:=2) (vc:=[.int .u64 (Dr .u64 ((Dr .u64 ((Dr .u64<|d * 1099511628211)+(Dr .u64 y)))+3))]) (cs':=[.slice c p0.length e,vi 0,.int .u64 (Dr .u64 ((Dr .u64 ((Dr .u64<|d * 1099511628211)+(Dr .u64 y)))+3))]) R Z26 R B R λY L O=>Tv<|Jo<|Jz<|Jp<|Jg3 R<|wr2 C k j.len_le ▸ ?_
 cases h
 exact Ja2 ⟨i,f+1,((Dr .u64 ((Dr .u64 ((Dr .u64<|d * 1099511628211)+(Dr .u64 y)))+3)):Int),R,(T3 q s L).wk R,O,nxz C,nxm k,m⟩ R
 rintro _ Z ⟨K,x,rfl,z,N,rfl⟩
 have h:=yI S
 refine Jp<|Jf3 R<|Ju<|Jb2 (l:=[.tmp 4]) results9 (Jq2 R R) R ?_
 cases h
 exact⟨(λM=>ren [(2,3)]<|K M),c,e,u,R,((Q.stp<|t.tr z).map (ren [(2,3)]) R R),((j.stp<|t.tr z).map (ren [(2,3)]) R R),(N.map (ren [(2,3)]) R R)⟩
theorem iV {b a}{p0:dice}{p1:Int}{e}(n:Rd (Rp.int .u8) J w 0 b a p0.b) (o:Bc J w 2 e 65 [.slice b p0.b.length a,vi p0.i,.int .u64 p0.h]){r:Int×Int×Int}(h:eF p0 p1=some r):Ret prog 25 [.pointer (some ⟨e,0,none⟩),vi p1] w (λD c=>∃(d:Col),D=vi r.1/\Ent J w d c/\Bc d c 2 e 65 [.slice b p0.b.length a,vi r.2.1,.int .u64 r.2.2]):=by
 unfold eF at h
 refine Jl3 J func25 R ntmps25 R λA=>Jf3 R<|Jh3 [2,2,2,2,1,2,2,2,2,1] 2 R<|Jf R (bX R R)<|Je3 R U65 R Z26<|Jc3 R isAgg26 (o.ld 2 R R)<|Jn 2 R<|Jf R (bX R R)<|Je3 R U65 R Z26<|Jv3 J 2 (off:=2) (vc:=[.int .u64 (Dr .u64 ((Dr .u64<|p0.h * 6364136223846793005)+1442695040888963407))]) (cs':=[.slice b p0.b.length a,vi p0.i,.int .u64 (Dr .u64 ((Dr .u64<|p0.h * 6364136223846793005)+1442695040888963407))]) R Z26 R o R λG k m=>Tv<|Jd<|Jh3 [2,2,2,1,2,2,2,2] 1 R<|Jf R (bX R R)<|Je3 R U65 R Z26<|Jc3 R isAgg26 (m.ld 2 R R)<|Jf R (BU R R R (by decide))<|Jn 1 R<|Jf R (Ji2 U26 U2 R R)<|Jb 1 R<|Jq<|Jq<|Js1 (J:=J) [2] none [(0,2),(1,2),(2,2),(4,2),(5,2),(6,2),(3,0),(7,0),(8,2),(9,2)] [] (by kernel_rfl) (by kernel_rfl) λE j=>Jn 1 R<|Jf R (bX R R)<|Je3 R U65 R Z3<|Jn 1 R<|Jf R (bX R R)<|Je3 R U65 R sizeOf22 ?_
 have g:=m.stp j
 refine Jg R (Jd2 I3 R R<|hvC (g.ld 1 R R) R)<|Jg R (Jd2 isAgg22 R R<|hvC (g.ld 0 R R) R)<|Jo3 R U22 R R<|Jn 1 R<|Jt1<|Jd<|Ob h λq h B=>Jp3 [0,1] (λs u c=>∃d,u=(5,vi q.1)::s/\Stp [2] J E d c/\Bc d c 2 e 65 [.slice b p0.b.length a,vi q.2,.int .u64 (Dr .u64 ((Dr .u64<|p0.h * 6364136223846793005)+1442695040888963407))]) ?_ ?_
 revert h
 cases F:decide (p0.i<(p0.b.length:Int))
 refine JF λh=>Jy R<|Js ?_
 cases h
 exact Jw1 _ ⟨J,R,Jk3,g⟩<|KM R
 refine JT λh=>Jx R<|Jq<|Js1 (J:=J) [0,2] none [(0,2),(1,2),(2,2),(3,2),(5,2),(6,2),(7,2),(4,0),(8,0),(9,2),(10,0),(11,2),(12,2),(13,2)] [] (by kernel_rfl) (by kernel_rfl) λH i=>Jn 2 R<|Jf R (bX R R)<|Je3 R U65 R sizeOf22<|Jn 1 R<|Jf R (bX R R)<|Je3 R U65 R Z3 ?_
 have f:=g.stp i
 refine Jg R (Jd2 isAgg22 R R<|hvC (f.ld 0 R R) R)<|Jg R (Jd2 I3 R R<|hvC (f.ld 1 R R) R)<|Ob h λL p h=>Jd3 R n p U22 sizeOf5<|Jg R (Jd2 isAgg5 R R<|hvC ((n.stp<|T3 k j i).gInt p) R)<|Jf R (Ji2 runUnderlying5 U2 R R)<|Jn 2 R<|Jt1<|Jd<|Ji3 [2,2,2,2,1,2,2,2,1] 2 R<|Jf R (bX R R)<|Je3 R U65 R Z3<|Jc3 R I3 (f.ld 1 R R)<|Jn 1 R<|Jf R (bX R R)<|Je3 R U65 R Z3<|Jv3 J 2 (off:=1) (vc:=[vi<|Dr .i64<|p0.i+1]) (cs':=[.slice b p0.b.length a,vi (Dr .i64<|p0.i+1),.int .u64 (Dr .u64 ((Dr .u64<|p0.h * 6364136223846793005)+1442695040888963407))]) R Z3 R f R λI x z=>Tv<|Jo ?_
 cases h
 exact Jw1 _ ⟨J,R,(i.tr x).wk R,z⟩<|KM R
 rintro _ K ⟨t,rfl,v,y⟩
 have h:=B
 refine Jp<|Jh3 [2,2,2,2] 2 R<|Ob h λ_z55 C h=>Jf R (xo R R R<|Ch C)<|Jb 1 R<|Ju<|Jb2 (l:=[.tmp 4]) results25 (Jq2 R R) R ?_
 cases h
 exact⟨t,R,(A.stp<|T3 k j v),y⟩
theorem rU {p0:Int}  {r:Bool}(h:mo p0=some r):Ret prog 196 [vi p0] w (Pvb J w r):=by
 unfold mo at h
 refine Jl3 J func196 R ntmps196 R λf=>Jf3 R<|Jh3 [2,2,2,2,2,2,2,2,2,2,2] 3 R<|Ob h λa h g=>Jg4 [0,2] 8 a J w [(3,2),(4,2),(5,2)] [(6,2),(7,2),(8,2),(9,2),(10,2)] tv ?_ ?_
 revert h
 cases m:(p0==2)
 refine JF λh=>Jn 3 R ?_
 cases h
 exact Jh4 tv R
 refine JT λh=>Jn 3 R ?_
 cases h
 exact Jh4 tv R
 rintro _ k _ ⟨rfl,b,e⟩
 have h:=g
 refine Jn 1 R<|Ob h λj h i=>Jg4 [2] 12 j b k [(7,2),(8,2),(9,2)] [(10,2)] tv ?_ ?_
 revert h
 cases n:a
 refine JF λh=>Jn 3 R ?_
 cases h
 exact Jh4 tv R
 refine JT λh=>Jn 3 R ?_
 cases h
 exact Jh4 tv R
 rintro _ o _ ⟨rfl,c,d⟩
 have h:=i
 refine Jb 1 R<|Ju<|Jb2 (l:=[.tmp 2]) results196 (Jq2 R R) R ?_
 cases h
 exact⟨c,R,(f.stp<|e.tr d)⟩
theorem fG {n u}{p0:VI}{p1:Int}(i:Rd Ri J w 0 n u p0){r:Int}(h:cR p0 p1=some r):Ret prog 49 [.slice n p0.length u,vi p1] w (Pvi J w r):=by
 unfold cR at h
 refine Jl3 J func49 R ntmps49 R λo=>Jf3 R<|Jq<|Jh3 [2,2,2] 1 R<|Jo3 R U37 R R<|Jb 1 R<|Ob h λt z p=>?_
 clear h
 refine Jx1 (λg k=>∃m,g=[]/\Stp [] J w m k/\t=Dv ()) ?_ ?_
 refine Jv<|Jq3 [0,1,7] (λc v g k=>∃m a,g=(8,vi a)::v/\Stp [] J w m k/\0<=a/\Dq ((p0.length:Int)-a)=c/\cntM (du p0 p1) c a ()=some t) ⟨_,_,⟨J,0,R,Jk3,(by decide),(by simp),z⟩,(KM R)⟩ ?_
 rintro c _ E ⟨f,a,rfl,d,q,e,h⟩
 rcases c with _|c
 have b:=h;obtain⟨A,h⟩:=exq b
 have j:=dcf e
 refine Jf3 R<|Jq<|Jx2 R j<|Jc1<|Jt<|Jt ?_
 cases h
 have h:=b
 refine Jb1 ?_
 cases h
 exact Jw1 _ ⟨f,R,d.wk R,R⟩ KN
 obtain⟨A,h,b⟩:=BI h;unfold du at h
 have j:=dct e
 refine Jf3 R<|Jq<|Jw2 R j<|Js<|Jp<|Jq<|Jv<|Jf3 R<|Jh3 [2,2,2,2,1,2] 3 R<|Ob h λB s h=>Jd3 R i s U37 Z2<|Jc3 R I2 ((i.stp d).gInt s)<|Jb 1 R ?_
 revert h
 cases C:(p1==B)
 refine JF λh=>Jy R<|Js<|Jz<|Jp<|Jg3 R<|wr2 q e i.len_le ▸ ?_
 cases h
 exact Ja2 ⟨f,a+1,R,d.wk R,nxz q,nxm e,b⟩ R
 refine JT λh=>Jx R<|Jf3 R<|Ju<|Ja1<|Jw<|Jw ?_
 cases h
 obtain rfl:=Ds b
 have h:=yL p
 refine Ja1<|Jr2<|Jw<|Jb2 (l:=[.tmp 4]) results49 (Jq2 R R) R ?_
 cases h
 exact⟨f,R,(o.stp d)⟩
 rintro _ D ⟨x,rfl,y,rfl⟩
 have h:=yI p
 refine Jp<|Jf3 R<|Ju<|Jb2 (l:=[.tmp 4]) results49 (Jq2 R R) R ?_
 cases h
 exact⟨x,R,(o.stp y)⟩
theorem jS {q y}{p0:(List (Int×Int))}{p1:(Int×Int)}(m:Rd (Rp.pair Ri Ri) J w 0 q y p0){r:Int}(h:cW p0 p1=some r):Ret prog 170 [.slice q p0.length y,.agg #[vi p1.1,vi p1.2]] w (Pvi J w r):=by
 unfold cW at h
 refine Jl3 J func170 R ntmps170 R λs=>Je [1,2] R<|Jt3 J 2 R λK z i k E=>Tv<|Jb 1 R<|Jq<|Jh3 [2,2,2] 1 R<|Jo3 R U123 R R<|Jb 1 R<|Ob h λx G t=>?_
 clear h
 refine Jx1 (λj o=>∃p,j=[]/\Stp [] i z p o/\x=Dv ()) ?_ ?_
 refine Jv<|Jq3 [0,3,7] (λd B j o=>∃p a,j=(8,vi a)::B/\Stp [] i z p o/\0<=a/\Dq ((p0.length:Int)-a)=d/\cntM (cN p0 p1) d a ()=some x) ⟨_,_,⟨i,0,R,Jk3,(by decide),(by simp),G⟩,(KM R)⟩ ?_
 rintro d _ N ⟨e,a,rfl,b,u,g,h⟩
 rcases d with _|d
 have c:=h;obtain⟨I,h⟩:=exq c
 have n:=dcf g
 refine Jf3 R<|Jq<|Jx2 R n<|Jc1<|Jt<|Jt ?_
 cases h
 have h:=c
 refine Jb1 ?_
 cases h
 exact Jw1 _ ⟨e,R,b.wk R,R⟩ KN
 obtain⟨I,h,c⟩:=BI h;unfold cN at h
 have n:=dct g
 refine Jf3 R<|Jq<|Jw2 R n<|Js<|Jp<|Jq<|Jv<|Jf3 R<|Jq<|Js1 (J:=e) [0,2] none [(1,2),(2,2),(3,2),(0,0),(4,0),(5,2)] [] (by kernel_rfl) (by kernel_rfl) λO f=>Jn 2 R<|Ob h λA v h=>Jd3 R m v U123 Z120<|Jg R (Jd4 (haC (E.stp<|b.tr f).cells R) I120 Z120 R) ?_
 obtain⟨L,H,F⟩:=((m.stp (T3 k b f))).gSt v
 obtain⟨_,_,rfl,rfl,rfl⟩:=H
 refine Jg R (Jd4 (haC F R) I120 Z120 R)<|Jf R (zJ U120 (by kernel_rfl) I2 U2 Z2 R R R)<|Jt1<|Jd ?_
 revert h
 cases M:((p1.1==A.1)&&(p1.2==A.2))
 refine JF λh=>Jy R<|Js<|Jz<|Jp<|Jg3 R<|wr2 u g m.len_le ▸ ?_
 cases h
 exact Ja2 ⟨e,a+1,R,(b.tr f).wk R,nxz u,nxm g,c⟩ R
 refine JT λh=>Jx R<|Jf3 R<|Ju<|Ja1<|Jw<|Jw ?_
 cases h
 obtain rfl:=Ds c
 have h:=yL t
 refine Ja1<|Jr2<|Jw<|Jb2 (l:=[.tmp 4]) results170 (Jq2 R R) R ?_
 cases h
 exact⟨e,R,(s.stp<|T3 k b f)⟩
 rintro _ P ⟨C,rfl,D,rfl⟩
 have h:=yI t
 refine Jp<|Jf3 R<|Ju<|Jb2 (l:=[.tmp 4]) results170 (Jq2 R R) R ?_
 cases h
 exact⟨C,R,(s.stp<|k.tr D)⟩
theorem eK {p0:Sig}  {r:Int}(h:dQ p0=some r):Ret prog 46 [.agg #[vi p0.In,vi p0.Out]] w (Pvi J w r):=by
 unfold dQ at h
 refine Jl3 J func46 R ntmps46 R λd=>Je [1,2] R<|Jt3 J 2 R λf g a b c=>Tv<|Jb 1 R<|Je [2,1,2,2] R<|Je3 R U28 R Z2<|Jc3 R I2 (c.ld 0 R R)<|Ob h λ_z5 e h=>Jf R (sw R R R<|vX e)<|Jb 1 R<|Ju<|Jb2 (l:=[.tmp 2]) results46 (Jq2 R R) R ?_
 cases h
 exact⟨a,R,(d.stp b)⟩
theorem mj {a c}{p0:VI}(f:Oc E6 2 J w 2 a c p0){r:VI}(h:dy p0=some r):Ret prog 107 [.slice a p0.length c] w (Pvs E6 2 J w r):=by
  unfold dy at h
  split at h
  .rename_i b
   cases h
   exact wT (λd k e l w g j i=>Tryz.slices_Compact_int d k e l w g j i) f b.1 b.2
  .cases h
theorem qZ {M L F C s t}{p0:Parity}{p1:Int}{p2:Int}{B G}{p:VI}(ao:Oc E6 2 J w 2 M L p0.Arena.Owner) (ap:Oc (Ep.fz Rs) 37 J w 3 F C p0.Arena.Next) (aq:Oc E6 2 J w 4 s t p0.Prio) (ar:Rd Ri J w 0 B G p){r:Parity}(h:kR p0 p1 p2 p=some r):Ret prog 175 [.agg #[.slice M p0.Arena.Owner.length L,.slice F p0.Arena.Next.length C,.slice s p0.Prio.length t],vi p1,vi p2,.slice B p.length G] w (λay x=>∃(z:Col) (Q:Option Addr) (U:Nat) (S:Option Addr) (V:Nat) (T:Option Addr) (W:Nat),ay= .agg #[.slice Q r.Arena.Owner.length U,.slice S r.Arena.Next.length V,.slice T r.Prio.length W]/\Ent J w z x/\Oc E6 2 z x 5 Q U r.Arena.Owner/\Oc (Ep.fz Rs) 37 z x 6 S V r.Arena.Next/\Oc E6 2 z x 7 T W r.Prio):=by
 unfold kR at h
 refine Jl3 J func175 R ntmps175 R λau=>Je [1,1] R<|Jt3 J 5 R λaF aH Z g ai=>Tv<|Ju3 Z 6 R X79 R λaG aR ac f an=>Tv<|Jd<|Je [2,2,1,2,1,1,2,2,1] R<|Je3 R U79 R Z75<|Je3 R U75 R Z37 ?_
 have P:=ai.stp f
 refine Jc3 R I37 (P.ld 0 R R)<|Jn 1 R<|Je4 ac 7 [p1] R Y37 bS R λaB aE aI Y a ae=>Tv<|Ob h λy av h=>Jz3 Y E6 2 [] R Y37 bS R (ao.stp<|T3 g f a) (Du (cc _) ae.rdc) bV av R λn o aJ I b af=>Tv<|Je3 R U79 R Z75<|Je3 R U75 R Z37<|Jv3 I 5 (off:=0) (vc:=[.slice n y.length o]) (cs':=[.slice n y.length o,.slice F p0.Arena.Next.length C,.slice s p0.Prio.length t]) R Z37 R (P.stp<|a.tr b) R λaK c N=>Tv<|Jd<|Je [2,2,1,2,1,1,2,2,1] R<|Je3 R U79 R Z75<|Je3 R U75 R Z31<|Jc3 R I31 (N.ld 1 R R)<|Jn 1 R<|Jx3 I (Ep.fz<|Rs) 8 [] (parts:=[(0,.tmp 20)]) (cells:=[.slice B p.length G]) (xs:=([p]:VV)) R Y31 bW R (Jf4 ⟨_,_,R,(Sl.z1<|ar.stp<|T5 g f a b c)⟩) λaA az aL aa d ag=>Tv<|Ob h λH aw h=>Jz3 aa (Ep.fz<|Rs) 3 [8] R Y31 bW R (ap.stp<|T6 g f a b c d) ag.src (c9 R) aw R λu v aM K i ah=>Tv<|Je3 R U79 R Z75<|Je3 R U75 R Z31<|Jv3 K 5 (off:=1) (vc:=[.slice u H.length v]) (cs':=[.slice n y.length o,.slice u H.length v,.slice s p0.Prio.length t]) R Z31 R (N.stp<|d.tr i) R λaN j O=>Tv<|Jd<|Je [2,1,2,1,1,2,1] R<|Je3 R U79 R Z37<|Jc3 R I37 (O.ld 2 R R)<|Jn 1 R<|Je4 K 9 [p2] R Y37 bS R λaD aC aO ab e aj=>Tv<|Ob h λX ax h=>Jz3 ab E6 4 [] R Y37 bS R (aq.stp<|T9 g f a b c d i j e) (Du (cc _) aj.rdc) bV ax R λE D aP A k ak=>Tv<|Je3 R U79 R Z37 ?_
 refine Jv3 A 5 (off:=2) (vc:=[.slice E X.length D]) (cs':=[.slice n y.length o,.slice u H.length v,.slice E X.length D]) R Z37 R (O.stp<|e.tr k) R λaQ m al=>Tv<|Jd<|Je [1,1] R<|Jc4 tv R (Jd4 (haE al.cells) I79 Z79 R)<|Ji4 A 6 R Z79 R (an.stp<|T9 a b c d i j e k m) R λaS q am=>Tv<|Jd<|Ju<|Jb2 (l:=[.cell 8 79]) results175 (cg R am I79 Z79 R R) R ?_
 cases h
 exact⟨(λad=>ren [(2,5),(3,6),(4,7)]<|A ad),n,o,u,v,E,D,R,((au.stp<|T12 g f a b c d i j e k m q).map (ren [(2,5),(3,6),(4,7)]) R R),((af.stp<|T8 c d i j e k m q).map (ren [(2,5),(3,6),(4,7)]) R R),((ah.stp<|T5 j e k m q).map (ren [(2,5),(3,6),(4,7)]) R R),((ak.stp<|m.tr q).map (ren [(2,5),(3,6),(4,7)]) R R)⟩
theorem wX {p0:Int}  {r:VI}(h:rj p0=some r):Ret prog 91 [vi p0] w (Pvs E6 2 J w r):=by
 unfold rj at h
 refine Jl3 J func91 R ntmps91 R λz=>Jf3 R<|Jq<|Jh3 [2,2,2,2,2,2] 3 R<|Ob h λB h V=>Jg4 [0] 10 B J w [(3,2),(4,2),(5,2)] [] tv ?_ ?_
 revert h
 cases af:decide (p0<0)
 refine JF λh=>Jn 3 R ?_
 cases h
 exact Jh4 tv R
 refine JT λh=>Jn 3 R ?_
 cases h
 exact Jh4 tv R
 rintro _ al _ ⟨rfl,t,x⟩
 have h:=V
 refine Jd ?_
 revert h
 cases ag:B
 refine JF λh=>Jy R<|Js<|Jp<|Je [1,2] R<|Jy3 t E6 2 R Y37 bS R λP O D o I Q=>Tv<|Jb 1 R<|Jq<|Jf3 R<|Ob h λ_ Z h=>?_
 have X:=jG Z
 refine Ob h λC Y W=>?_
 clear h
 refine Jx1 (λp d=>∃e,∃n:VI,∃i j,p=[(3,.slice i n.length j)]/\Stp [2] o D e d/\Oc E6 2 e d 2 i j n/\C=Dv n) ?_ ?_
 refine Jv<|Jq3 [0] (λb E p d=>∃e a,∃c:VI,∃g f,p=(3,.slice g c.length f)::(4,vi a)::E/\Stp [2] o D e d/\Oc E6 2 e d 2 g f c/\0<=a/\Dq (p0-a)=b/\cntM lr b a c=some C) ⟨_,_,⟨o,0,([]:VI),P,O,R,Jk3,Q,(by decide),(by simp),Y⟩,(KM R)⟩ ?_
 rintro b _ ai ⟨s,a,c,g,f,rfl,u,y,A,k,h⟩
 rcases b with _|b
 have m:=h;obtain⟨ab,h⟩:=exq m
 have q:=dcf k
 refine Jq<|Jf3 R<|Jx2 R q<|Jc1<|Jt<|Jt ?_
 cases h
 have h:=m
 refine Jb1 ?_
 cases h
 exact Jw1 _ ⟨s,c,g,f,R,u.wk R,y,R⟩<|KM R
 obtain⟨ab,h,m⟩:=BI h;unfold lr at h
 have q:=dct k
 refine Jq<|Jf3 R<|Jw2 R q<|Js<|Jp<|Jq<|Jv<|Ji3 [2,2,1,1,2] 2 R<|Je4 s 3 [a] R Y37 bS R λad ae aj G v T=>Tv<|Ob h λac aa h=>Jz3 G E6 2 [] R Y37 bS R (y.stp v) (Du (cc _) T.rdc) bV aa R λM N ak H L U=>Tv<|Jc 1 R<|Jz<|Jp<|Jg3 R<|wr2 A k X ▸ ?_
 cases h
 exact Ja2 ⟨H,a+1,ac,M,N,R,(T3 u v L).wk R,U,nxz A,nxm k,m⟩ R
 rintro _ ah ⟨F,n,i,j,rfl,K,S,rfl⟩
 have h:=yI W
 refine Jp<|Jf3 R<|Ju<|Jb2 (l:=[.tmp 2]) results91 (Jq2 R R) R ?_
 cases h
 exact⟨F,i,j,R,(z.stp<|T3 x I K),S⟩
 refine JT λh=>Jx R<|Jf3 R<|Ju<|Jw<|Jb2 (l:=[.tmp 2]) results91 (Jq2 R R) R ?_
 cases h
 exact⟨t,none,0,R,(z.stp x),Dt⟩
theorem ji {D H}{p0:VB}(y:Rd Rp.bool J w 0 D H p0){r:VI}(h:iI p0=some r):Ret prog 179 [.slice D p0.length H] w (Pvs E6 2 J w r):=by
 unfold iI at h
 refine Jl3 J func179 R ntmps179 R λaa=>Jf3 R<|Je [1,2] R<|Jy3 J E6 2 R Y37 bS R λS ag I u C Z=>Tv<|Jb 1 R<|Jq<|Jh3 [2,2,2] 1 R<|Jo3 R U178 R R<|Jb 1 R<|Ob h λG ad ac=>?_
 clear h
 refine Jx1 (λd a=>∃b,∃s:VI,∃n o,d=[(3,.slice n s.length o)]/\Stp [2] u I b a/\Oc E6 2 b a 2 n o s/\G=Dv s) ?_ ?_
 refine Jv<|Jq3 [7,8] (λg t d a=>∃b c,∃i:VI,∃f e,d=(3,.slice f i.length e)::(9,vi c)::t/\Stp [2] u I b a/\Oc E6 2 b a 2 f e i/\0<=c/\Dq ((p0.length:Int)-c)=g/\cntM (km p0) g c i=some G) ⟨_,_,⟨u,0,([]:VI),S,ag,R,Jk3,Z,(by decide),(by simp),ad⟩,(KM R)⟩ ?_
 rintro g _ ah ⟨j,c,i,f,e,rfl,v,x,E,p,h⟩
 rcases g with _|g
 have q:=h;obtain⟨af,h⟩:=exq q
 have z:=dcf p
 refine Jf3 R<|Jq<|Jx2 R z<|Jc1<|Jt<|Jt ?_
 cases h
 have h:=q
 refine Jb1 ?_
 cases h
 exact Jw1 _ ⟨j,i,f,e,R,v.wk R,x,R⟩<|KM R
 obtain⟨af,h,q⟩:=BI h;unfold km at h
 have z:=dct p
 refine Jf3 R<|Jq<|Jw2 R z<|Js<|Jp<|Jq<|Jv<|Jh3 [2,2,1,2,2] 1 R<|Ob h λai F h=>Jd3 R y F U178 Z4<|Jc3 R I4 ((y.stp<|C.tr v).gBool F)<|Jb 2 R<|Jf3 R<|Ob h λA h ab=>Jp3 [7,8,9] (λt d a=>∃b k m,d=(3,.slice k A.length m)::t/\Stp [2] j ah b a/\Oc E6 2 b a 2 k m A) ?_ ?_
 revert h
 cases al:ai
 refine JF λh=>Jy R<|Js ?_
 cases h
 exact Jw1 _ ⟨j,f,e,R,Jk3,x⟩<|KM R
 refine JT λh=>Jx R<|Ji3 [2,2,1,1,2] 2 R<|Je4 j 3 [c] R Y37 bS R λaj ak an L B X=>Tv<|Ob h λaq ae h=>Jz3 L E6 2 [] R Y37 bS R (x.stp B) (Du (cc _) X.rdc) bV ae R λU T ao M Q Y=>Tv<|Jc 1 R ?_
 cases h
 exact Jw1 _ ⟨M,U,T,R,(B.tr Q).wk R,Y⟩<|KM R
 rintro _ am ⟨K,k,m,rfl,P,W⟩
 have h:=ab
 refine Jz<|Jp<|Jg3 R<|wr2 E p y.len_le ▸ ?_
 cases h
 exact Ja2 ⟨K,c+1,A,k,m,R,(v.tr P).wk R,W,nxz E,nxm p,q⟩ R
 rintro _ ap ⟨N,s,n,o,rfl,O,V,rfl⟩
 have h:=yI ac
 refine Jp<|Jf3 R<|Ju<|Jb2 (l:=[.tmp 2]) results179 (Jq2 R R) R ?_
 cases h
 exact⟨N,n,o,R,(aa.stp<|C.tr O),V⟩
theorem xb {v t y u x z}{p0:Parity}{s F}{p1:VI}(T:Rd Ri J w 0 v t p0.Arena.Owner) (U:Rd Rs J w 0 y u p0.Arena.Next) (A:Rd Ri J w 0 x z p0.Prio) (k:Rd Ri J w 0 s F p1){r:Int}(h:pT p0 p1=some r):Ret prog 243 [.agg #[.slice v p0.Arena.Owner.length t,.slice y p0.Arena.Next.length u,.slice x p0.Prio.length z],.slice s p1.length F] w (Pvi J w r):=by
 unfold pT at h
 refine Jl3 J func243 R ntmps243 R λN=>Je [1,2] R<|Jt3 J 2 R λS G g j M=>Tv<|Jb 1 R<|Jf3 R<|Jq<|Jh3 [2,2,2] 1 R<|Jo3 R U37 R R<|Jb 1 R<|Ob h λE P O=>?_
 clear h
 refine Jx1 (λi o=>∃p n,i=[(5,vi n)]/\Stp [] g G p o/\E=Dv n) ?_ ?_
 refine Jv<|Jq3 [2,8,9] (λd I i o=>∃p b a,i=(5,vi a)::(10,vi b)::I/\Stp [] g G p o/\0<=b/\Dq ((p1.length:Int)-b)=d/\cntM (lK p0 p1) d b a=some E) ⟨_,_,⟨g,0,((-1):Int),R,Jk3,(by decide),(by simp),P⟩,(KM R)⟩ ?_
 rintro d _ V ⟨q,b,a,rfl,c,B,e,h⟩
 rcases d with _|d
 have f:=h;obtain⟨Q,h⟩:=exq f
 have m:=dcf e
 refine Jf3 R<|Jq<|Jx2 R m<|Jc1<|Jt<|Jt ?_
 cases h
 have h:=f
 refine Jb1 ?_
 cases h
 exact Jw1 _ ⟨q,a,R,c.wk R,R⟩<|KM R
 obtain⟨Q,h,f⟩:=BI h;unfold lK at h
 have m:=dct e
 refine Jf3 R<|Jq<|Jw2 R m<|Js<|Jp<|Jq<|Jv<|Je [2,1,2] R<|Ob h λX C h=>Jd3 R k C U37 Z2<|Jc3 R I2 ((k.stp<|j.tr c).gInt C)<|Jb 1 R<|Ji3 [2,2,1,2,2,1,2,2] 1 R<|Je3 R U79 R Z37<|Jc3 R I37 ((M.stp c).ld 2 R R)<|Jn 1 R<|Ob h λH D h=>Jd3 R A D U37 Z2<|Jc3 R I2 ((A.stp<|j.tr c).gInt D)<|Jf R (uL R R R)<|Jc 1 R<|Jz<|Jp<|Jg3 R<|wr2 B e k.len_le ▸ ?_
 cases h
 exact Ja2 ⟨q,b+1,((if a<H then H else a):Int),R,c.wk R,nxz B,nxm e,f⟩ R
 rintro _ W ⟨K,n,rfl,L,rfl⟩
 have h:=yI O
 refine Jp<|Jf3 R<|Ju<|Jb2 (l:=[.tmp 4]) results243 (Jq2 R R) R ?_
 cases h
 exact⟨K,R,(N.stp<|j.tr L)⟩
theorem jB {B K}{p0:VB}{C L}{p1:VB}(t:Rd Rp.bool J w 0 B K p0) (D:Rd Rp.bool J w 0 C L p1){r:VB}(h:gl p0 p1=some r):Ret prog 180 [.slice B p0.length K,.slice C p1.length L] w (Pvs Do 4 J w r):=by
 unfold gl at h
 refine Jl3 J func180 R ntmps180 R λX=>Jf3 R<|Jh3 [2,2,1,2] 1 R<|Jo3 R U178 R R<|Ob h λm ae h=>Jl1 (J:=J) (E:=Do) (z:=(false:Bool)) 2 R R R R R R R Y178 da R R R R R (λ_ _ _=>R) (Jv2 ae) λq x M n p W=>Tv<|Jb 1 R<|Jq<|Jh3 [2,2,2] 1 R<|Jo3 R U178 R R<|Jb 1 R<|Ob h λI ac Z=>?_
 clear h
 refine Jp3 [5] (λb o e=>∃f,∃k:VB,o=b/\Stp [2] n M f e/\Oc Do 4 f e 2 q x k/\m.length=k.length/\I=Dv k) ?_ ?_
 refine Jv<|Jq3 [0,1,5,11] (λc b o e=>∃f a,∃d:VB,o=(12,vi a)::b/\Stp [2] n M f e/\Oc Do 4 f e 2 q x d/\m.length=d.length/\0<=a/\Dq ((p0.length:Int)-a)=c/\cntM (jA p0 p1) c a d=some I) ⟨_,_,⟨n,0,m,R,Jk3,W,R,(by decide),(by simp),ac⟩,(KM R)⟩ ?_
 rintro c _ ah ⟨y,a,d,rfl,g,s,v,E,i,h⟩
 rcases c with _|c
 have j:=h;obtain⟨af,h⟩:=exq j
 have u:=dcf i
 refine Jf3 R<|Jq<|Jx2 R u<|Jc1<|Jt<|Jt ?_
 cases h
 have h:=j
 refine Jb1 ?_
 cases h
 exact Jw1 _ ⟨y,d,R,g.wk R,s,v,R⟩<|KM R
 obtain⟨af,h,j⟩:=BI h;unfold jA at h
 have u:=dct i
 refine Jf3 R<|Jq<|Jw2 R u<|Js<|Jp<|Jq<|Jv<|Jf3 R<|Ji3 [2,2,2,2,2,1,2,2,2,2,1,2,2,2,1] 4 R<|Ob h λai F h=>Jd3 R t F U178 Z4<|Jc3 R I4 ((t.stp<|p.tr g).gBool F)<|Jn 1 R<|Ob h λag h Y=>Jg4 [0,1,5,11,12,15,16] 27 ag y ah [(7,2),(8,2),(9,2),(10,1),(11,2),(12,2)] [(13,2),(14,1)] tv ?_ ?_
 revert h
 cases aj:ai
 refine JF λh=>Jn 3 R<|Ja4 R<|Jn 2 R ?_
 cases h
 exact Jh4 tv R
 refine JT λh=>Jn 2 R<|Ob h λan G h=>Jd3 R D G U178 Z4<|Jc3 R I4 ((D.stp<|p.tr g).gBool G)<|Jn 2 R ?_
 cases h
 exact Jh4 tv R
 rintro _ ak _ ⟨rfl,O,A⟩
 have h:=Y
 refine Ob h λao ad h=>Jf R (Jg2 s.rdc ad U178 Z4 R R v R)<|Ob h λN H h=>Jk1 (J:=O) (E:=Do) 2 [] R R R R R R R R Z4 R R R R (s.stp A) H λal P T V=>Tv<|?_
 have ab:m.length=N.length:=v.trans (Ju2 H).2.2.2.symm
 refine Jo<|Jz<|Jp<|Jg3 R<|wr2 E i t.len_le ▸ ?_
 cases h
 exact Ja2 ⟨P,a+1,N,R,(T3 g A T).wk R,V,ab,nxz E,nxm i,j⟩ R
 rintro _ am ⟨Q,k,rfl,S,U,aa,rfl⟩
 have h:=yI Z
 refine Jp<|Jf3 R<|Ju<|Jb2 (l:=[.tmp 4]) results180 (Jq2 R R) R ?_
 cases h
 exact⟨Q,q,x,(by simp only[aa]),(X.stp<|p.tr S),U⟩
theorem dD {p0:Int}{p1:Int}{p2:Int}  {r:Bool}(h:fS p0 p1 p2=some r):Ret prog 59 [vi p0,vi p1,vi p2] w (Pvb J w r):=by
 unfold fS at h
 refine Jl3 J func59 R ntmps59 R λc=>Jf3 R<|Jh3 [2,2,2,2,2,2,2,2,2] 4 R<|Ob h λe h d=>Jg4 [6] 14 e J w [(4,2),(5,2),(6,2),(7,2)] [(8,2)] tv ?_ ?_
 revert h
 cases f:decide (p1<=p0)
 refine JF λh=>Jn 4 R ?_
 cases h
 exact Jh4 tv R
 refine JT λh=>Jn 4 R ?_
 cases h
 exact Jh4 tv R
 rintro _ g _ ⟨rfl,a,b⟩
 have h:=d
 refine Jb 1 R<|Ju<|Jb2 (l:=[.tmp 6]) results59 (Jq2 R R) R ?_
 cases h
 exact⟨a,R,(c.stp b)⟩
theorem d9 {p0:Int}  {r:Int}(h:dR p0=some r):Ret prog 62 [vi p0] w (Pvi J w r):=by
 unfold dR at h
 refine Jl3 J func62 R ntmps62 R λo=>Jf3 R<|Jf3 R<|Jq<|Ob h λk q p=>?_
 clear h
 refine Jx1 (λc e=>∃f,∃d:Int×Int,c=[(3,vi d.2)]/\Stp [] J w f e/\k=Dv d) ?_ ?_
 refine Jv<|Jy1 (λb c e=>∃f,∃a:Int×Int,c=[(0,vi a.1),(3,vi a.2)]/\Stp [] J w f e/\cd gw b a=some k) ⟨_,_,⟨J,(p0,(1:Int)),R,Jk3,q⟩,(KM R)⟩ ?_
 rintro b _ v ⟨g,a,rfl,i,h⟩
 rcases b with _|b
 cases h
 obtain⟨t,h,j⟩:=BI h;unfold gw at h
 refine Jq<|Jf3 R ?_
 revert h
 cases s:decide (0<a.1)
 refine JF λh=>Jy R<|Jc1<|Jt<|Jt ?_
 cases h
 have h:=j
 refine Jb1 ?_
 cases h
 exact Jw1 _ ⟨g,(a.1,a.2),R,i.wk R,R⟩<|KM R
 refine JT λh=>Jx R<|Js<|Jp<|Jq<|Jv<|Jg3 R<|Jz<|Jp<|Jg3 R ?_
 cases h
 exact Ja2 ⟨g,(((Dr .i64<|a.1-1):Int),((Dr .i64<|a.2 * 2):Int)),R,i.wk R,j⟩ R
 rintro _ u ⟨m,d,rfl,n,rfl⟩
 have h:=yI p
 refine Jp<|Jf3 R<|Ju<|Jb2 (l:=[.tmp 2]) results62 (Jq2 R R) R ?_
 cases h
 exact⟨m,R,(o.stp n)⟩
theorem uX {p0:Int}  {r:Pair}(h:mZ p0=some r):Ret prog 187 [vi p0] w (λaE g=>∃(i:Col) (ac:Option Addr) (ae:Nat) (ad:Option Addr) (af:Nat),aE= .agg #[.slice ac r.Ask.length ae,.slice ad r.Give.length af]/\Ent J w i g/\Oc E6 2 i g 2 ac ae r.Ask/\Oc E6 2 i g 3 ad af r.Give):=by
 unfold mZ at h
 refine Jl3 J func187 R ntmps187 R λf=>Je [1] R<|Ju3 J 2 R X127 R λaG aF j d e=>Tv<|Jd<|Jq<|Jf3 R<|Jv<|Jq<|Jf3 R<|Ob h λab h aD=>Jp3 [2,3] (λah al g=>∃i,al=(4,.bool ab)::ah/\Stp [] j aF i g) ?_ ?_
 revert h
 cases aM:(p0==1)
 refine JF λh=>Jy R<|Jg3 R ?_
 cases h
 exact Jw1 _ ⟨j,R,Jk3⟩<|KM R
 refine JT λh=>Jx R<|Js ?_
 cases h
 exact Jw1 _ ⟨j,R,Jk3⟩<|KM R
 rintro _ aX ⟨c,rfl,a⟩
 have h:=aD
 refine Jp ?_
 revert h
 cases aH:ab
 refine JF λh=>Jy R<|Jf3 R ?_
 revert h
 cases aI:(p0==2)
 refine JF λh=>Jy R<|Jf3 R ?_
 revert h
 cases aJ:(p0==3)
 refine JF λh=>Jy R<|Jf3 R ?_
 revert h
 cases aK:(p0==4)
 refine JF λh=>Jy R<|Jf3 R ?_
 revert h
 cases aL:(p0==6)
 refine JF λh=>Jy R<|Js<|Jz<|Jp<|Je [1,1,2,1] R<|Je4 c 3 [2,3] R Y37 bS R λL K a0 ak H aA=>Tv<|Je4 ak 4 [1,3] R Y37 bS R λP U a1 y p aB=>Tv<|Jf R (Jj4 [.slice L ([2,3]:VI).length K,.slice P ([1,3]:VI).length U] R)<|Ji4 y 2 R Z127 R (e.stp<|T3 a H p) R λa2 q aC=>Tv<|Jd<|Ju<|Jb2 (l:=[.cell 2 127]) V187 (cg R aC I127 Z127 R R) R ?_
 cases h
 exact⟨(λb=>ren [(3,2),(4,3)]<|y b),L,K,P,U,R,((f.stp<|T5 d a H p q).map (ren [(3,2),(4,3)]) R R),((aA.stp<|p.tr q).map (ren [(3,2),(4,3)]) R R),((aB.stp q).map (ren [(3,2),(4,3)]) R R)⟩
 refine JT λh=>Jx R<|Je [1,2,1] R<|Je4 c 3 [0] R Y37 bS R λQ Y aY x F ay=>Tv<|Jf R (Jj4 [.slice Q ([0]:VI).length Y,.slice none 0 0] R)<|Ji4 x 2 R Z127 R (e.stp<|a.tr F) R λaZ G az=>Tv<|Jd<|Ju<|Ja1<|Jw<|Jb2 (l:=[.cell 2 127]) V187 (cg R az I127 Z127 R R) R ?_
 cases h
 exact⟨(λb=>ren [(3,2)]<|x b),Q,Y,none,0,R,((f.stp<|T4 d a F G).map (ren [(3,2)]) R R),((ay.stp G).map (ren [(3,2)]) R R),Dt⟩
 refine JT λh=>Jx R<|Je [1,1,2,1] R<|Je4 c 3 [0,1] R Y37 bS R λM N aU aj E av=>Tv<|Je4 aj 4 [1] R Y37 bS R λW T aV v n aw=>Tv<|Jf R (Jj4 [.slice M ([0,1]:VI).length N,.slice W ([1]:VI).length T] R)<|Ji4 v 2 R Z127 R (e.stp<|T3 a E n) R λaW o ax=>Tv<|Jd<|Ju<|Ja1<|Jw<|Jb2 (l:=[.cell 2 127]) V187 (cg R ax I127 Z127 R R) R ?_
 cases h
 exact⟨(λb=>ren [(3,2),(4,3)]<|v b),M,N,W,T,R,((f.stp<|T5 d a E n o).map (ren [(3,2),(4,3)]) R R),((av.stp<|n.tr o).map (ren [(3,2),(4,3)]) R R),((aw.stp o).map (ren [(3,2),(4,3)]) R R)⟩
 refine JT λh=>Jx R<|Je [1,1,2,1] R<|Je4 c 3 [1] R Y37 bS R λaa S aR ai D aq=>Tv<|Je4 ai 4 [0] R Y37 bS R λV O aS u k ar=>Tv<|Jf R (Jj4 [.slice aa ([1]:VI).length S,.slice V ([0]:VI).length O] R)<|Ji4 u 2 R Z127 R (e.stp<|T3 a D k) R λaT m au=>Tv<|Jd<|Ju<|Ja1<|Jw<|Jb2 (l:=[.cell 2 127]) V187 (cg R au I127 Z127 R R) R ?_
 cases h
 exact⟨(λb=>ren [(3,2),(4,3)]<|u b),aa,S,V,O,R,((f.stp<|T5 d a D k m).map (ren [(3,2),(4,3)]) R R),((aq.stp<|k.tr m).map (ren [(3,2),(4,3)]) R R),((ar.stp m).map (ren [(3,2),(4,3)]) R R)⟩
 refine JT λh=>Jx R<|Je [1,2,1] R<|Je4 c 3 [2] R Y37 bS R λZ X aP t B ao=>Tv<|Jf R (Jj4 [.slice Z ([2]:VI).length X,.slice none 0 0] R)<|Ji4 t 2 R Z127 R (e.stp<|a.tr B) R λaQ C ap=>Tv<|Jd<|Ju<|Ja1<|Jw<|Jb2 (l:=[.cell 2 127]) V187 (cg R ap I127 Z127 R R) R ?_
 cases h
 exact⟨(λb=>ren [(3,2)]<|t b),Z,X,none,0,R,((f.stp<|T4 d a B C).map (ren [(3,2)]) R R),((ao.stp C).map (ren [(3,2)]) R R),Dt⟩
 refine JT λh=>Jx R<|Je [1,2,1] R<|Je4 c 3 [1] R Y37 bS R λI ag aN s z am=>Tv<|Jf R (Jj4 [.slice I ([1]:VI).length ag,.slice none 0 0] R)<|Ji4 s 2 R Z127 R (e.stp<|a.tr z) R λaO A an=>Tv<|Jd<|Ju<|Ja1<|Jw<|Jb2 (l:=[.cell 2 127]) V187 (cg R an I127 Z127 R R) R ?_
 cases h
 exact⟨(λb=>ren [(3,2)]<|s b),I,ag,none,0,R,((f.stp<|T4 d a z A).map (ren [(3,2)]) R R),((am.stp A).map (ren [(3,2)]) R R),Dt⟩
theorem sJ {p0:Int}  {r:Int}(h:kD p0=some r):Ret prog 188 [vi p0] w (Pvi J w r):=by
 unfold kD at h
 refine Jl3 J func188 R ntmps188 R λa=>Jf3 R<|Jq<|Jf3 R<|Jv<|Jf3 R ?_
 revert h
 cases b:(p0==2)
 refine JF λh=>Jy R<|Jf3 R ?_
 revert h
 cases c:(p0==7)
 refine JF λh=>Jy R<|Js<|Jz<|Jp<|Jf3 R<|Ju<|Jb2 (l:=[.tmp 2]) results188 (Jq2 R R) R ?_
 cases h
 exact⟨J,R,a⟩
 refine JT λh=>Jx R<|Jf3 R<|Ju<|Ja1<|Jw<|Jb2 (l:=[.tmp 2]) results188 (Jq2 R R) R ?_
 cases h
 exact⟨J,R,a⟩
 refine JT λh=>Jx R<|Jf3 R<|Ju<|Ja1<|Jw<|Jb2 (l:=[.tmp 2]) results188 (Jq2 R R) R ?_
 cases h
 exact⟨J,R,a⟩
theorem i9 {n u}{p0:VI}{p1:Int}(i:Rd Ri J w 0 n u p0){r:Bool}(h:gH p0 p1=some r):Ret prog 81 [.slice n p0.length u,vi p1] w (Pvb J w r):=by
 unfold gH at h
 refine Jl3 J func81 R ntmps81 R λo=>Jf3 R<|Jq<|Jf3 R<|Ob h λt z p=>?_
 clear h
 refine Jx1 (λg k=>∃m,g=[]/\Stp [] J w m k/\t=Dv ()) ?_ ?_
 refine Jv<|Jq3 [0,1] (λc v g k=>∃m a,g=(5,vi a)::v/\Stp [] J w m k/\0<=a/\Dq ((p0.length:Int)-a)=c/\cntM (i8 p0 p1) c a ()=some t) ⟨_,_,⟨J,0,R,Jk3,(by decide),(by simp),z⟩,(KM R)⟩ ?_
 rintro c _ E ⟨f,a,rfl,d,q,e,h⟩
 rcases c with _|c
 have b:=h;obtain⟨A,h⟩:=exq b
 have j:=dcf e
 refine Jq<|Jh3 [2,2,2,2] 2 R<|Jo3 R U37 R R<|Jb 1 R<|Jx2 R j<|Jc1<|Jt<|Jt ?_
 cases h
 have h:=b
 refine Jb1 ?_
 cases h
 exact Jw1 _ ⟨f,R,d.wk R,R⟩ KN
 obtain⟨A,h,b⟩:=BI h;unfold i8 at h
 have j:=dct e
 refine Jq<|Jh3 [2,2,2,2] 2 R<|Jo3 R U37 R R<|Jb 1 R<|Jw2 R j<|Js<|Jp<|Jq<|Jv<|Jh3 [2,2,2,1,2,2] 2 R<|Ob h λB s h=>Jd3 R i s U37 Z2<|Jc3 R I2 ((i.stp d).gInt s)<|Jb 2 R ?_
 revert h
 cases C:(B==p1)
 refine JF λh=>Jy R<|Js<|Jz<|Jp<|Jg3 R<|wr2 q e i.len_le ▸ ?_
 cases h
 exact Ja2 ⟨f,a+1,R,d.wk R,nxz q,nxm e,b⟩ R
 refine JT λh=>Jx R<|Jf3 R<|Ju<|Ja1<|Jw<|Jw ?_
 cases h
 obtain rfl:=Ds b
 have h:=yL p
 refine Ja1<|Jr2<|Jw<|Jb2 (l:=[.tmp 4]) results81 (Jq2 R R) R ?_
 cases h
 exact⟨f,R,(o.stp d)⟩
 rintro _ D ⟨x,rfl,y,rfl⟩
 have h:=yI p
 refine Jp<|Jf3 R<|Ju<|Jb2 (l:=[.tmp 4]) results81 (Jq2 R R) R ?_
 cases h
 exact⟨x,R,(o.stp y)⟩
theorem nv {p0:Int}{p1:Int}  {r:Int}(h:kW p0 p1=some r):Ret prog 247 [vi p0,vi p1] w (Pvi J w r):=by
 unfold kW at h
 refine Jl3 J func247 R ntmps247 R λa=>Jf3 R<|Jq<|Jf3 R ?_
 revert h
 cases b:decide (p1<p0)
 refine JF λh=>Jy R<|Js<|Jp<|Jf3 R<|Ju<|Jb2 (l:=[.tmp 4]) results247 (Jq2 R R) R ?_
 cases h
 exact⟨J,R,a⟩
 refine JT λh=>Jx R<|Jf3 R<|Ju<|Jw<|Jb2 (l:=[.tmp 4]) results247 (Jq2 R R) R ?_
 cases h
 exact⟨J,R,a⟩
theorem tt {q E}{p0:VV}{p1:Int}{p2:Int}(i:Rd Rs J w 0 q E p0){r:Int}(h:l9 p0 p1 p2=some r):Ret prog 95 [.slice q p0.length E,vi p1,vi p2] w (Pvi J w r):=by
 unfold l9 at h
 refine Jl3 J func95 R ntmps95 R λu=>Jf3 R<|Jq<|Jf3 R<|Ob h λD M v=>?_
 clear h
 refine Jx1 (λf k=>∃m,f=[]/\Stp [] J w m k/\D=Dv ()) ?_ ?_
 refine Jv<|Jq3 [0,1,2] (λc F f k=>∃m a,f=(7,vi a)::F/\Stp [] J w m k/\0<=a/\Dq ((p0.length:Int)-a)=c/\cntM (iQ p0 p1 p2) c a ()=some D) ⟨_,_,⟨J,0,R,Jk3,(by decide),(by simp),M⟩,(KM R)⟩ ?_
 rintro c _ O ⟨o,a,rfl,d,x,e,h⟩
 rcases c with _|c
 have b:=h;obtain⟨N,h⟩:=exq b
 have j:=dcf e
 refine Jq<|Jh3 [2,2,2,2] 2 R<|Jo3 R U31 R R<|Jb 1 R<|Jx2 R j<|Jc1<|Jt<|Jt ?_
 cases h
 have h:=b
 refine Jb1 ?_
 cases h
 exact Jw1 _ ⟨o,R,d.wk R,R⟩ KN
 obtain⟨N,h,b⟩:=BI h;unfold iQ at h
 have j:=dct e
 refine Jq<|Jh3 [2,2,2,2] 2 R<|Jo3 R U31 R R<|Jb 1 R<|Jw2 R j<|Js<|Jp<|Jq<|Jv<|Jh3 [2,2,2,1,2,1,2,2,2,2,2,2,1,2,1,2,2,2] 2 R<|Ob h λZ y h=>Jd3 R i y U31 Z37 ?_
 have g:=i.stp d
 obtain⟨Q,V,s,K⟩:=g.gSl y
 refine Jc3 R I37 K<|Ob h λP z h=>Jd3 R s z U37 Z2<|Jc3 R I2 (s.gInt z)<|Jn 3 R<|Ob h λC h I=>Jg4 [0,1,2,7] 31 C o O [(9,2),(10,2),(11,2),(12,1),(13,2),(14,1),(15,2),(16,2),(17,2)] [] tv ?_ ?_
 revert h
 cases T:(P==p1)
 refine JF λh=>Jn 3 R<|Ja4 R<|Jn 1 R<|Ja4 R<|Jn 3 R ?_
 cases h
 exact Jh4 tv R
 refine JT λh=>Jn 2 R<|Ob h λaa A h=>Jd3 R g A U31 Z37 ?_
 obtain⟨S,W,t,L⟩:=g.gSl A
 refine Jc3 R I37 L<|Ob h λab B h=>Jd3 R t B U37 Z2<|Jc3 R I2 (t.gInt B)<|Jn 3 R ?_
 cases h
 exact Jh4 tv R
 rintro _ X _ ⟨rfl,n,p⟩
 have h:=I
 refine Jd ?_
 revert h
 cases U:C
 refine JF λh=>Jy R<|Js<|Jz<|Jp<|Jg3 R<|wr2 x e i.len_le ▸ ?_
 cases h
 exact Ja2 ⟨n,a+1,R,(d.tr p).wk R,nxz x,nxm e,b⟩ R
 refine JT λh=>Jx R<|Jf3 R<|Ju<|Ja1<|Jw<|Jw ?_
 cases h
 obtain rfl:=Ds b
 have h:=yL v
 refine Ja1<|Jr2<|Jw<|Jb2 (l:=[.tmp 6]) results95 (Jq2 R R) R ?_
 cases h
 exact⟨n,R,(u.stp<|d.tr p)⟩
 rintro _ Y ⟨G,rfl,H,rfl⟩
 have h:=yI v
 refine Jp<|Jf3 R<|Ju<|Jb2 (l:=[.tmp 6]) results95 (Jq2 R R) R ?_
 cases h
 exact⟨G,R,(u.stp H)⟩
theorem om {b c}{p0:VI}(k:Rd Ri J w 0 b c p0){r:VI}(h:eI p0=some r):Ret prog 131 [.slice b p0.length c] w (Pvs E6 2 J w r):=by
 unfold eI at h
 refine Jl3 J func131 R ntmps131 R λm=>Jf3 R<|Je [1,2,1,2] R<|Jy3 J E6 2 R Y37 bS R λp q s d a i=>Tv<|Jn 1 R<|Ob h λu n h=>Jz3 d E6 2 [] R Y37 bS R i (Du (cc _)<|k.stp a) bV n R λg o t e f j=>Tv<|Jb 1 R<|Ju<|Jb2 (l:=[.tmp 2]) results131 (Jq2 R R) R ?_
 cases h
 exact⟨e,g,o,R,(m.stp<|a.tr f),j⟩
theorem yQ {q p o k m n}{p0:Parity}(aj:Rd Ri J w 0 q p p0.Arena.Owner) (Y:Rd Rs J w 0 o k p0.Arena.Next) (ag:Rd Ri J w 0 m n p0.Prio){r:l7Game}(h:pz p0=some r):Ret prog 201 [.agg #[.slice q p0.Arena.Owner.length p,.slice o p0.Arena.Next.length k,.slice m p0.Prio.length n]] w (λdu a=>∃(b:Col) (bL:Option Addr) (bQ:Nat) (bM:Option Addr) (bR:Nat) (bN:Option Addr) (bT:Nat) (bO:Option Addr) (bU:Nat) (bP:Option Addr) (bX:Nat),du= .agg #[.slice bL r.owner.length bQ,.slice bM r.prio.length bR,.slice bN r.next.length bT,.slice bO r.prev.length bU,.slice bP r.pick.length bX]/\Ent J w b a/\Rd Ri b a 0 bL bQ r.owner/\Rd Ri b a 0 bM bR r.prio/\Rd Rs b a 0 bN bT r.next/\Oc (Dp E6 2) 37 b a 5 bO bU r.prev/\Oc E6 2 b a 6 bP bX r.pick):=by
 unfold pz at h
 refine Jl3 J func201 R ntmps201 R λda=>Je [1,1] R<|Jt3 J 2 R λdD dM b6 P cZ=>Tv<|Ju3 b6 3 R X210 R λdE dw ap E c6=>Tv<|Jd<|Je [2,1,2,2] R<|Je3 R U79 R Z37 ?_
 have a3:=cZ.stp E
 refine Jc3 R I37 (a3.ld 2 R R)<|Jo3 R U37 R R<|Jb 1 R<|Jq<|Ob h λc aw h=>Ob h λd ax h=>Jp3 [1,2,3] (λe u a=>∃b s aI aH aF aJ aE aG G F ah ai,u=(4,.pointer (some ⟨s,0,none⟩))::e/\Stp [4,5,6] ap dw b a/\Rd Ri b a 0 aI aH ((⟨p0.Arena.Owner,p0.Prio,p0.Arena.Next,c,d⟩:l7Game).owner)/\Rd Ri b a 0 aF aJ ((⟨p0.Arena.Owner,p0.Prio,p0.Arena.Next,c,d⟩:l7Game).prio)/\Rd Rs b a 0 aE aG ((⟨p0.Arena.Owner,p0.Prio,p0.Arena.Next,c,d⟩:l7Game).next)/\Oc (Dp E6 2) 37 b a 4 G F ((⟨p0.Arena.Owner,p0.Prio,p0.Arena.Next,c,d⟩:l7Game).prev)/\Oc E6 2 b a 5 ah ai ((⟨p0.Arena.Owner,p0.Prio,p0.Arena.Next,c,d⟩:l7Game).pick)/\Bc b a 6 s 210 [.slice aI ((⟨p0.Arena.Owner,p0.Prio,p0.Arena.Next,c,d⟩:l7Game).owner).length aH,.slice aF ((⟨p0.Arena.Owner,p0.Prio,p0.Arena.Next,c,d⟩:l7Game).prio).length aJ,.slice aE ((⟨p0.Arena.Owner,p0.Prio,p0.Arena.Next,c,d⟩:l7Game).next).length aG,.slice G ((⟨p0.Arena.Owner,p0.Prio,p0.Arena.Next,c,d⟩:l7Game).prev).length F,.slice ah ((⟨p0.Arena.Owner,p0.Prio,p0.Arena.Next,c,d⟩:l7Game).pick).length ai]) ?_ ?_
 refine WC.rxt (J:=ap) [2] none (by kernel_rfl) λdZ t=>Jq1 (fuel:=5) [(0,2),(1,2),(3,2),(5,2),(6,2),(8,2),(10,2),(2,0),(4,0),(7,0)] (by kernel_rfl) (by kernel_rfl) R<|Je3 R U79 R Z75<|Je3 R U75 R Z37<|Je3 R U79 R Z37<|Je3 R U79 R Z75<|Je3 R U75 R Z31<|Jn 2 R ?_
 have a2:=a3.stp t
 refine Jg R (Jd2 I37 R R<|hvC (a2.ld 0 R R) R)<|Jg R (Jd2 I37 R R<|hvC (a2.ld 2 R R) R)<|Jg R (Jd2 I31 R R<|hvC (a2.ld 1 R R) R)<|Jp1<|WA.fork3 (fuel:=4) 9 11 13 (by kernel_rfl) R ?_ ?_ ?_
 refine Jl1 (J:=ap) (E:=(Dp E6 2)) (z:=([]:VI)) 4 R R R R R R R Y31 bW R R R R R (λ_ _ _=>⟨none,0,R,Dt⟩) (Jv2 aw) λf i d5 bb v bA=>⟨(v.cl R),Jp1<|WA.fork2 (fuel:=3) 11 13 (by kernel_rfl) R ?_ ?_⟩
 have aQ:=(T4 P E t v)
 exact Jl1 (J:=bb) (E:=E6) (z:=(0:Int)) 5 R R R R R R R Y37 bS R R R R R (λ_ _ _=>R) (Jv2 ax) λg j d9 ci O cW=>⟨((v.tr O).cl R),Jp1<|Jq1 (fuel:=0) [(12,2),(13,1),(14,1)] (by kernel_rfl) (by kernel_rfl) R<|Jf R (Jj4 [.slice q p0.Arena.Owner.length p,.slice m p0.Prio.length n,.slice o p0.Arena.Next.length k,.slice f c.length i,.slice g d.length j] R)<|Ju3 ci 6 R X210 R λs ea bc Q cX=>⟨((T3 v O Q).cl R),Ji4 bc 6 R Z210 R cX R λeb ac cY=>⟨((T4 v O Q ac).cl R),Jp1<|Jr1 [] (by kernel_rfl) (by kernel_rfl) R<|Jo<|Jw1 _ ⟨bc,s,q,p,m,n,o,k,f,i,g,j,R,(T5 t v O Q ac).wk R,(aj.stp<|T4 aQ O Q ac),(ag.stp<|T4 aQ O Q ac),(Y.stp<|T4 aQ O Q ac),(bA.stp<|T3 O Q ac),(cW.stp<|Q.tr ac),cY⟩<|KM R⟩⟩⟩
 have aR:=(T4 P E t v)
 exact Ju3 bb 5 R X210 R λs ec cj S c0=>⟨((v.tr S).cl R),Jp1<|Jq1 (fuel:=0) [(11,1),(12,2),(14,1)] (by kernel_rfl) (by kernel_rfl) R<|Jl1 (J:=cj) (E:=E6) (z:=(0:Int)) 6 R R R R R R R Y37 bS R R R R R (λ_ _ _=>R) (Jv2 ax) λg j ed bd T c1=>⟨((T3 v S T).cl R),Jf R (Jj4 [.slice q p0.Arena.Owner.length p,.slice m p0.Prio.length n,.slice o p0.Arena.Next.length k,.slice f c.length i,.slice g d.length j] R)<|Ji4 bd 5 R Z210 R (c0.stp T) R λee ad c2=>⟨((T4 v S T ad).cl R),Jp1<|Jr1 [] (by kernel_rfl) (by kernel_rfl) R<|Jo<|Jw1 _ ⟨(λA=>ren [(6,5),(5,6)]<|bd A),s,q,p,m,n,o,k,f,i,g,j,R,(Jz2 ((T5 t v S T ad).wk R) [(6,5),(5,6)] R),((aj.stp<|T4 aR S T ad).map (ren [(6,5),(5,6)]) R R),((ag.stp<|T4 aR S T ad).map (ren [(6,5),(5,6)]) R R),((Y.stp<|T4 aR S T ad).map (ren [(6,5),(5,6)]) R R),((bA.stp<|T3 S T ad).map (ren [(6,5),(5,6)]) R R),((c1.stp ad).map (ren [(6,5),(5,6)]) R R),(c2.map (ren [(6,5),(5,6)]) R R)⟩<|KM R⟩⟩⟩
 refine Jl1 (J:=ap) (E:=E6) (z:=(0:Int)) 4 R R R R R R R Y37 bS R R R R R (λ_ _ _=>R) (Jv2 ax) λg j ef be x bB=>⟨(x.cl R),Jp1<|WA.fork2 (fuel:=3) 9 13 (by kernel_rfl) R ?_ ?_⟩
 have aS:=(T4 P E t x)
 exact Jl1 (J:=be) (E:=(Dp E6 2)) (z:=([]:VI)) 5 R R R R R R R Y31 bW R R R R R (λ_ _ _=>⟨none,0,R,Dt⟩) (Jv2 aw) λf i eg ck U c3=>⟨((x.tr U).cl R),Jp1<|Jq1 (fuel:=0) [(12,2),(13,1),(14,1)] (by kernel_rfl) (by kernel_rfl) R<|Jf R (Jj4 [.slice q p0.Arena.Owner.length p,.slice m p0.Prio.length n,.slice o p0.Arena.Next.length k,.slice f c.length i,.slice g d.length j] R)<|Ju3 ck 6 R X210 R λs eh bf V c4=>⟨((T3 x U V).cl R),Ji4 bf 6 R Z210 R c4 R λei ae c5=>⟨((T4 x U V ae).cl R),Jp1<|Jr1 [] (by kernel_rfl) (by kernel_rfl) R<|Jo<|Jw1 _ ⟨(λA=>ren [(5,4),(4,5)]<|bf A),s,q,p,m,n,o,k,f,i,g,j,R,(Jz2 ((T5 t x U V ae).wk R) [(5,4),(4,5)] R),((aj.stp<|T4 aS U V ae).map (ren [(5,4),(4,5)]) R R),((ag.stp<|T4 aS U V ae).map (ren [(5,4),(4,5)]) R R),((Y.stp<|T4 aS U V ae).map (ren [(5,4),(4,5)]) R R),((c3.stp<|V.tr ae).map (ren [(5,4),(4,5)]) R R),((bB.stp<|T3 U V ae).map (ren [(5,4),(4,5)]) R R),(c5.map (ren [(5,4),(4,5)]) R R)⟩<|KM R⟩⟩⟩
 have aT:=(T4 P E t x)
 exact Ju3 be 5 R X210 R λs ej cl W c7=>⟨((x.tr W).cl R),Jp1<|Jq1 (fuel:=0) [(9,1),(12,2),(14,1)] (by kernel_rfl) (by kernel_rfl) R<|Jl1 (J:=cl) (E:=(Dp E6 2)) (z:=([]:VI)) 6 R R R R R R R Y31 bW R R R R R (λ_ _ _=>⟨none,0,R,Dt⟩) (Jv2 aw) λf i ek bg X c8=>⟨((T3 x W X).cl R),Jf R (Jj4 [.slice q p0.Arena.Owner.length p,.slice m p0.Prio.length n,.slice o p0.Arena.Next.length k,.slice f c.length i,.slice g d.length j] R)<|Ji4 bg 5 R Z210 R (c7.stp X) R λel af c9=>⟨((T4 x W X af).cl R),Jp1<|Jr1 [] (by kernel_rfl) (by kernel_rfl) R<|Jo<|Jw1 _ ⟨(λA=>ren [(6,4),(4,5),(5,6)]<|bg A),s,q,p,m,n,o,k,f,i,g,j,R,(Jz2 ((T5 t x W X af).wk R) [(6,4),(4,5),(5,6)] R),((aj.stp<|T4 aT W X af).map (ren [(6,4),(4,5),(5,6)]) R R),((ag.stp<|T4 aT W X af).map (ren [(6,4),(4,5),(5,6)]) R R),((Y.stp<|T4 aT W X af).map (ren [(6,4),(4,5),(5,6)]) R R),((c8.stp af).map (ren [(6,4),(4,5),(5,6)]) R R),((bB.stp<|T3 W X af).map (ren [(6,4),(4,5),(5,6)]) R R),(c9.map (ren [(6,4),(4,5),(5,6)]) R R)⟩<|KM R⟩⟩⟩
 refine Ju3 ap 4 R X210 R λs em bh y bp=>⟨(y.cl R),Jp1<|WA.fork2 (fuel:=3) 9 11 (by kernel_rfl) R ?_ ?_⟩
 have aU:=(T4 P E t y)
 exact Jl1 (J:=bh) (E:=(Dp E6 2)) (z:=([]:VI)) 5 R R R R R R R Y31 bW R R R R R (λ_ _ _=>⟨none,0,R,Dt⟩) (Jv2 aw) λf i dN b1 K cs=>⟨((y.tr K).cl R),Jp1<|Jq1 (fuel:=0) [(11,1),(12,2),(14,1)] (by kernel_rfl) (by kernel_rfl) R<|Jl1 (J:=b1) (E:=E6) (z:=(0:Int)) 6 R R R R R R R Y37 bS R R R R R (λ_ _ _=>R) (Jv2 ax) λg j dO a7 L ct=>⟨((T3 y K L).cl R),Jf R (Jj4 [.slice q p0.Arena.Owner.length p,.slice m p0.Prio.length n,.slice o p0.Arena.Next.length k,.slice f c.length i,.slice g d.length j] R)<|Ji4 a7 4 R Z210 R (bp.stp<|K.tr L) R λdP aa cu=>⟨((T4 y K L aa).cl R),Jp1<|Jr1 [] (by kernel_rfl) (by kernel_rfl) R<|Jo<|Jw1 _ ⟨(λA=>ren [(5,4),(6,5),(4,6)]<|a7 A),s,q,p,m,n,o,k,f,i,g,j,R,(Jz2 ((T5 t y K L aa).wk R) [(5,4),(6,5),(4,6)] R),((aj.stp<|T4 aU K L aa).map (ren [(5,4),(6,5),(4,6)]) R R),((ag.stp<|T4 aU K L aa).map (ren [(5,4),(6,5),(4,6)]) R R),((Y.stp<|T4 aU K L aa).map (ren [(5,4),(6,5),(4,6)]) R R),((cs.stp<|L.tr aa).map (ren [(5,4),(6,5),(4,6)]) R R),((ct.stp aa).map (ren [(5,4),(6,5),(4,6)]) R R),(cu.map (ren [(5,4),(6,5),(4,6)]) R R)⟩<|KM R⟩⟩⟩
 have aV:=(T4 P E t y)
 exact Jl1 (J:=bh) (E:=E6) (z:=(0:Int)) 5 R R R R R R R Y37 bS R R R R R (λ_ _ _=>R) (Jv2 ax) λg j dQ b2 M cv=>⟨((y.tr M).cl R),Jp1<|Jq1 (fuel:=0) [(9,1),(12,2),(14,1)] (by kernel_rfl) (by kernel_rfl) R<|Jl1 (J:=b2) (E:=(Dp E6 2)) (z:=([]:VI)) 6 R R R R R R R Y31 bW R R R R R (λ_ _ _=>⟨none,0,R,Dt⟩) (Jv2 aw) λf i dR a8 N cw=>⟨((T3 y M N).cl R),Jf R (Jj4 [.slice q p0.Arena.Owner.length p,.slice m p0.Prio.length n,.slice o p0.Arena.Next.length k,.slice f c.length i,.slice g d.length j] R)<|Ji4 a8 4 R Z210 R (bp.stp<|M.tr N) R λdS ab cx=>⟨((T4 y M N ab).cl R),Jp1<|Jr1 [] (by kernel_rfl) (by kernel_rfl) R<|Jo<|Jw1 _ ⟨(λA=>ren [(6,4),(4,6)]<|a8 A),s,q,p,m,n,o,k,f,i,g,j,R,(Jz2 ((T5 t y M N ab).wk R) [(6,4),(4,6)] R),((aj.stp<|T4 aV M N ab).map (ren [(6,4),(4,6)]) R R),((ag.stp<|T4 aV M N ab).map (ren [(6,4),(4,6)]) R R),((Y.stp<|T4 aV M N ab).map (ren [(6,4),(4,6)]) R R),((cw.stp ab).map (ren [(6,4),(4,6)]) R R),((cv.stp<|N.tr ab).map (ren [(6,4),(4,6)]) R R),(cx.map (ren [(6,4),(4,6)]) R R)⟩<|KM R⟩⟩⟩
 rintro _ bY ⟨aO,s,aI,aH,aF,aJ,aE,aG,G,F,ah,ai,rfl,aA,cy,cB,cD,cF,cG,bu⟩
 refine Jp<|Jq<|Jf3 R<|Ob h λbJ dp db=>?_
 clear h
 refine Jp3 [2,4] (λe u a=>∃b,∃am:VV×VI,u=e/\Stp [4,5,8] aO bY b a/\Oc (Dp E6 2) 37 b a 4 G F am.1/\((⟨p0.Arena.Owner,p0.Prio,p0.Arena.Next,c,d⟩:l7Game).prev).length=am.1.length/\Oc E6 2 b a 5 ah ai am.2/\((⟨p0.Arena.Owner,p0.Prio,p0.Arena.Next,c,d⟩:l7Game).pick).length=am.2.length/\bJ=Dv am) ?_ ?_
 refine Jv<|Jq3 [1,2,3,4] (λD e u a=>∃b B,∃H:VV×VI,u=(5,vi B)::e/\Stp [4,5,8] aO bY b a/\Oc (Dp E6 2) 37 b a 4 G F H.1/\((⟨p0.Arena.Owner,p0.Prio,p0.Arena.Next,c,d⟩:l7Game).prev).length=H.1.length/\Oc E6 2 b a 5 ah ai H.2/\((⟨p0.Arena.Owner,p0.Prio,p0.Arena.Next,c,d⟩:l7Game).pick).length=H.2.length/\0<=B/\Dq ((p0.Prio.length:Int)-B)=D/\cntM (ng p0) D B H=some bJ) ⟨_,_,⟨aO,0,(((⟨p0.Arena.Owner,p0.Prio,p0.Arena.Next,c,d⟩:l7Game).prev:VV),((⟨p0.Arena.Owner,p0.Prio,p0.Arena.Next,c,d⟩:l7Game).pick:VI)),R,Jk3,cF,R,cG,R,(by decide),(by simp),dp⟩,(KM R)⟩ ?_
 rintro D _ dU ⟨ba,B,H,rfl,aq,bq,bE,aZ,a4,dd,bC,h⟩
 rcases D with _|D
 have aM:=h;obtain⟨dt,h⟩:=exq aM
 have ak:=dcf bC
 refine Jq<|Jf3 R<|Jx2 R ak<|Jc1<|Jt<|Jt ?_
 cases h
 have h:=aM
 refine Jb1 ?_
 cases h
 exact Jw1 _ ⟨ba,(H.1,H.2),R,aq.wk R,bq,bE,aZ,a4,R⟩<|KM R
 obtain⟨dt,h,aM⟩:=BI h;unfold ng at h
 have ak:=dct bC
 refine Jq<|Jf3 R<|Jw2 R ak<|Js<|Jp<|Jq<|Jv<|Je [2,1,2,2,1] R<|Je3 R U210 R Z37 ?_
 have br:=bu.stp aq
 refine Jc3 R I37 (br.ld 4 R R)<|Jn 1 R<|Ob h λen ds h=>Jf R (Jg2 aZ.rdc ds U37 Z2 R R a4 R)<|Ob h λb0 bI h=>Jk1 (J:=ba) (E:=E6) 5 [] R R R R R R R R Z2 R R R R aZ bI λbZ aP ar cC=>Tv<|?_
 have di:((⟨p0.Arena.Owner,p0.Prio,p0.Arena.Next,c,d⟩:l7Game).pick).length=b0.length:=a4.trans (Ju2 bI).2.2.2.symm
 refine Jd<|Jf3 R<|Ob h λbK dq dc=>?_
 clear h
 refine Jp3 [1,2,3,4,5] (λe u a=>∃b,∃az:Int×VV,u=e/\Stp [4,8] aP bZ b a/\Oc (Dp E6 2) 37 b a 4 G F az.2/\((⟨p0.Arena.Owner,p0.Prio,p0.Arena.Next,c,d⟩:l7Game).prev).length=az.2.length/\bK=Dv az) ?_ ?_
 refine Jv<|Jq3 [1,2,3,4,5] (λD e u a=>∃b,∃I:Int×VV,u=(6,vi I.1)::e/\Stp [4,8] aP bZ b a/\Oc (Dp E6 2) 37 b a 4 G F I.2/\((⟨p0.Arena.Owner,p0.Prio,p0.Arena.Next,c,d⟩:l7Game).prev).length=I.2.length/\cd (nh p0 B) D I=some bK) ⟨_,_,⟨aP,((0:Int),H.1),R,Jk3,(bq.stp ar),bE,dq⟩,(KM R)⟩ ?_
 rintro D _ dv ⟨ao,I,rfl,au,a0,Z,h⟩
 rcases D with _|D
 cases h
 obtain⟨dI,h,bD⟩:=BI h;unfold nh at h
 refine Jq<|Jh3 [2,2,2,1,2,2,1,2,2] 1 R<|Je3 R U79 R Z75<|Je3 R U75 R Z31 ?_
 have bs:=a3.stp (T4 aA aq ar au)
 refine Jc3 R I31 (bs.ld 1 R R)<|Jn 1 R<|Ob h λdx bF h=>Jd3 R Y bF U31 Z37 ?_
 have a1:=Y.stp (T6 P E aA aq ar au)
 obtain⟨dA,dJ,dF,de⟩:=a1.gSl bF
 refine Jc3 R I37 de<|Jo3 R U37 R R<|Jb 1 R ?_
 revert h
 cases dH:decide (I.1<(dx.length:Int))
 refine JF λh=>Jy R<|Jc1<|Jt<|Jt ?_
 cases h
 have h:=bD
 refine Jb1 ?_
 cases h
 exact Jw1 _ ⟨ao,(I.1,I.2),R,au.wk R,a0,Z,R⟩<|KM R
 refine JT λh=>Jx R<|Js<|Jp<|Jq<|Jv<|Je [2,2,1,2,2,1,2,2,1,2] R<|Je3 R U79 R Z75<|Je3 R U75 R Z31<|Jc3 R I31 (bs.ld 1 R R)<|Jn 1 R<|Ob h λeo bG h=>Jd3 R a1 bG U31 Z37 ?_
 obtain⟨dB,dK,bt,df⟩:=a1.gSl bG
 refine Jc3 R I37 df<|Jn 1 R<|Ob h λep bH h=>Jd3 R bt bH U37 Z2<|Jc3 R I2 (bt.gInt bH)<|Jb 1 R<|Ob h λeq ay h=>Ob h λer a5 h=>Ob h λes a6 h=>Ob h λan al h=>Jp3 [1,2,3,4,5,6] (λe u a=>∃b,u=e/\Stp [4,8] ao dv b a/\Oc (Dp E6 2) 37 b a 4 G F an/\((⟨p0.Arena.Owner,p0.Prio,p0.Arena.Next,c,d⟩:l7Game).prev).length=an.length) ?_ ?_
 refine WC.rxt (J:=ao) [0,4,6] (some 10) (by kernel_rfl) λdX av=>Jq1 (fuel:=5) [(0,2),(2,2),(3,2),(5,2),(8,2),(4,0),(6,2),(7,0)] (by kernel_rfl) (by kernel_rfl) R<|Je3 R U210 R Z31<|Jn 1 R<|Je3 R U210 R Z31<|Jn 2 R ?_
 have aK:=br.stp (T3 ar au av)
 refine Jg R (Jd2 I31 R R<|hvC (aK.ld 3 R R) R)<|Jf R (Jg2 a0.rdc ay U31 Z37 R R Z R) ?_
 have aL:=a0.stp av
 obtain⟨dC,dL,dG,aN⟩:=aL.rdc.gSl ay
 refine Jg R (Jd2 I37 R R<|hvC aN R)<|Jp1<|WA.fork2 (fuel:=4) 1 9 (by kernel_rfl) R ?_ ?_
 refine Jc4 (Cl.refl _ _ _) R (Jd2 I31 R R<|hvE<|aK.ld 3 R R)<|Jp1<|Jq1 (fuel:=3) [(9,1)] (by kernel_rfl) (by kernel_rfl) R<|Je4 ao 7 [B] R Y37 bS R λcq cr dY dy aC cI=>⟨(aC.cl R),Jp1<|WA.brk (fuel:=2) 10 (by kernel_rfl) R (by kernel_rfl) ?_⟩
 have bv:=aL.stp aC
 obtain⟨b5,bj,cJ,cK⟩:=bv.borrow ay (aN _ (Stp.ag aC R)) 8 R R
 refine Jz3 b5 E6 8 [] R Y37 bS R cJ (Du (cc _) (cI.stp bj).rdc) bV a5 R λbo bn d0 b7 bk cL=>Tv<|Jp1<|Jq1 (fuel:=0) [(11,2),(12,1)] (by kernel_rfl) (by kernel_rfl) R<|Jf R (Jg2 bv.rdc a6 U31 Z37 R R Z R)<|WO.stH (J:=b7) (E:=(Dp E6 2)) 4 [8] R R R R R R R R Z37 R ⟨_,_,R,cL⟩ R R (cK.stp bk) al λd1 b8 cn cM=>Tv<|?_
 have dl:((⟨p0.Arena.Owner,p0.Prio,p0.Arena.Next,c,d⟩:l7Game).prev).length=an.length:=Z.trans (Ju2 al).2.2.2.symm
 exact Jp1<|Jr1 [] (by kernel_rfl) (by kernel_rfl) R<|Jo<|Jw1 _ ⟨b8,R,(T5 av aC bj bk cn).wk R,cM,dl⟩<|KM R
 refine Je4 ao 7 [B] R Y37 bS R λcq cr d2 dz C bw=>⟨(C.cl R),Jp1<|WA.forkB2r (fuel:=3) 1 10 (by kernel_rfl) R (by kernel_rfl) ?_ ?_⟩
 refine Jc4 (C.cl R) R (Jd2 I31 R R<|hvE ((aK.stp C).ld 3 R R))<|Jp1<|WA.brk (fuel:=2) 10 (by kernel_rfl) R (by kernel_rfl) ?_
 have bx:=aL.stp C
 obtain⟨b9,bl,cN,cO⟩:=bx.borrow ay (aN _ (Stp.ag C R)) 8 R R
 refine Jz3 b9 E6 8 [] R Y37 bS R cN (Du (cc _) (bw.stp bl).rdc) bV a5 R λbo bn d3 ca bm cP=>Tv<|Jp1<|Jq1 (fuel:=0) [(11,2),(12,1)] (by kernel_rfl) (by kernel_rfl) R<|Jf R (Jg2 bx.rdc a6 U31 Z37 R R Z R)<|WO.stH (J:=ca) (E:=(Dp E6 2)) 4 [8] R R R R R R R R Z37 R ⟨_,_,R,cP⟩ R R (cO.stp bm) al λd4 cb co cQ=>Tv<|?_
 have dm:((⟨p0.Arena.Owner,p0.Prio,p0.Arena.Next,c,d⟩:l7Game).prev).length=an.length:=Z.trans (Ju2 al).2.2.2.symm
 exact Jp1<|Jr1 [] (by kernel_rfl) (by kernel_rfl) R<|Jo<|Jw1 _ ⟨cb,R,(T5 av C bl bm co).wk R,cQ,dm⟩<|KM R
 have bz:=aL.stp C
 obtain⟨ce,aX,cR,cS⟩:=bz.borrow ay (aN _ (Stp.ag C R)) 8 R R
 refine Jz3 ce E6 8 [] R Y37 bS R cR (Du (cc _) (bw.stp aX).rdc) bV a5 R λbo bn d6 cf aY cT=>Tv<|Jp1<|Jq1 (fuel:=0) [(1,1),(11,2),(12,1)] (by kernel_rfl) (by kernel_rfl) R<|Jc3 R I31 ((aK.stp<|T3 C aX aY).ld 3 R R)<|Jf R (Jg2 bz.rdc a6 U31 Z37 R R Z R)<|WO.stH (J:=cf) (E:=(Dp E6 2)) 4 [8] R R R R R R R R Z37 R ⟨_,_,R,cT⟩ R R (cS.stp aY) al λd7 ch cp cU=>Tv<|?_
 have dn:((⟨p0.Arena.Owner,p0.Prio,p0.Arena.Next,c,d⟩:l7Game).prev).length=an.length:=Z.trans (Ju2 al).2.2.2.symm
 exact Jp1<|Jr1 [] (by kernel_rfl) (by kernel_rfl) R<|Jo<|Jw1 _ ⟨ch,R,(T5 av C aX aY cp).wk R,cU,dn⟩<|KM R
 rintro _ dW ⟨b4,rfl,cm,cH,dk⟩
 refine Jz<|Jp<|Jg3 R ?_
 cases h
 exact Ja2 ⟨b4,(((Dr .i64<|I.1+1):Int),an),R,(au.tr cm).wk R,cH,dk,bD⟩ R
 rintro _ dV ⟨b3,az,rfl,bi,cE,dj,rfl⟩
 have h:=yI dc
 refine Jz<|Jp<|Jg3 R ?_
 have dr:Dr .i64 (B+1)=B+1:=wr1 dd (Jn2 ak) ag.len_le
 rw[dr]
 have ak:=Jn2 ak
 cases h
 exact Ja2 ⟨b3,B+1,(az.2,b0),R,(T3 aq ar bi).wk R,cE,dj,(cC.stp bi),di,by omega,by omega,aM⟩ R
 rintro _ dT ⟨a9,am,rfl,aB,cz,dg,cA,dh,rfl⟩
 have h:=yI db
 refine Jp<|Je [1,1] R<|Jc4 tv R (Jd4 (haE (bu.stp aB).cells) I210 Z210 R)<|Ji4 a9 3 R Z210 R (c6.stp<|aA.tr aB) R λd8 aD cV=>Tv<|Jd<|Ju<|Jb2 (l:=[.cell 2 210]) results201 (cg R cV I210 Z210 R R) R ?_
 cases h
 have aW:=(aB.tr aD)
 exact⟨(λA=>ren [(4,5),(5,6)]<|a9 A),aI,aH,aF,aJ,aE,aG,G,F,ah,ai,(by simp only[dg,dh]),((da.stp<|T5 P E aA aB aD).map (ren [(4,5),(5,6)]) R R),((cy.stp aW).map (ren [(4,5),(5,6)]) R R),((cB.stp aW).map (ren [(4,5),(5,6)]) R R),((cD.stp aW).map (ren [(4,5),(5,6)]) R R),((cz.stp aD).map (ren [(4,5),(5,6)]) R R),((cA.stp aD).map (ren [(4,5),(5,6)]) R R)⟩
theorem wz {p0:Int}{A F}{p1:VI}(s:Rd Ri J w 0 A F p1){r:VB}(h:oy p0 p1=some r):Ret prog 248 [vi p0,.slice A p1.length F] w (Pvs Do 4 J w r):=by
 unfold oy at h
 refine Jl3 J func248 R ntmps248 R λQ=>Jf3 R<|Jh3 [2,1,2] 1 R<|Ob h λk X h=>Jl1 (J:=J) (E:=Do) (z:=(false:Bool)) 2 R R R R R R R Y178 da R R R R R (λ_ _ _=>R) (Jv2 X) λp v G m y P=>Tv<|Jb 1 R<|Jq<|Jf3 R<|Ob h λE V S=>?_
 clear h
 refine Jp3 [5] (λb n e=>∃f,∃j:VB,n=b/\Stp [2] m G f e/\Oc Do 4 f e 2 p v j/\k.length=j.length/\E=Dv j) ?_ ?_
 refine Jv<|Jq3 [1,5] (λc b n e=>∃f a,∃d:VB,n=(6,vi a)::b/\Stp [2] m G f e/\Oc Do 4 f e 2 p v d/\k.length=d.length/\0<=a/\Dq ((p1.length:Int)-a)=c/\cntM (kK p1) c a d=some E) ⟨_,_,⟨m,0,k,R,Jk3,P,R,(by decide),(by simp),V⟩,(KM R)⟩ ?_
 rintro c _ Z ⟨x,a,d,rfl,o,q,u,B,g,h⟩
 rcases c with _|c
 have i:=h;obtain⟨Y,h⟩:=exq i
 have t:=dcf g
 refine Jq<|Jh3 [2,2,2,2] 2 R<|Jo3 R U37 R R<|Jb 1 R<|Jx2 R t<|Jc1<|Jt<|Jt ?_
 cases h
 have h:=i
 refine Jb1 ?_
 cases h
 exact Jw1 _ ⟨x,d,R,o.wk R,q,u,R⟩<|KM R
 obtain⟨Y,h,i⟩:=BI h;unfold kK at h
 have t:=dct g
 refine Jq<|Jh3 [2,2,2,2] 2 R<|Jo3 R U37 R R<|Jb 1 R<|Jw2 R t<|Js<|Jp<|Jq<|Jv<|Ji3 [2,2,2,2,1,2,1] 3 R<|Ob h λac C h=>Jd3 R s C U37 Z2<|Jc3 R I2 ((s.stp<|y.tr o).gInt C)<|Ob h λad W h=>Jf R (Jg2 q.rdc W U178 Z4 R R u R)<|Ob h λH D h=>Jk1 (J:=x) (E:=Do) 2 [] R R R R R R R R Z4 R R R R q D λaa I M O=>Tv<|?_
 have U:k.length=H.length:=u.trans (Ju2 D).2.2.2.symm
 refine Jo<|Jz<|Jp<|Jg3 R<|wr2 B g s.len_le ▸ ?_
 cases h
 exact Ja2 ⟨I,a+1,H,R,(o.tr M).wk R,O,U,nxz B,nxm g,i⟩ R
 rintro _ ab ⟨K,j,rfl,L,N,T,rfl⟩
 have h:=yI S
 refine Jp<|Jf3 R<|Ju<|Jb2 (l:=[.tmp 4]) results248 (Jq2 R R) R ?_
 cases h
 exact⟨K,p,v,(by simp only[T]),(Q.stp<|y.tr L),N⟩
theorem qO {m n g i e d f c k j}{p0:l7Game}{p1:Int}{p2:Int}(D:Rd Ri J w 0 m n p0.owner) (E:Rd Ri J w 0 g i p0.prio) (F:Rd Rs J w 0 e d p0.next) (G:Rd Rs J w 0 f c p0.prev) (p:Rd Ri J w 0 k j p0.pick){r:Bool}(h:nc p0 p1 p2=some r):Ret prog 269 [.agg #[.slice m p0.owner.length n,.slice g p0.prio.length i,.slice e p0.next.length d,.slice f p0.prev.length c,.slice k p0.pick.length j],vi p1,vi p2] w (Pvb J w r):=by
 unfold nc at h
 refine Jl3 J func269 R ntmps269 R λx=>Je [1,2] R<|Jt3 J 2 R λC A t b o=>Tv<|Jb 1 R<|Je [2,1,2,2,1,2,2,2,1,2,2,1,2,2,2,2] R<|Je3 R U210 R Z37<|Jc3 R I37 (o.ld 4 R R)<|Jn 1 R<|Ob h λB q h=>Jd3 R p q U37 Z2 ?_
 have a:=p.stp b
 refine Jc3 R I2 (a.gInt q)<|Jn 2 R<|Ob h λz h y=>Jg4 [6] 21 z t A [(7,2),(8,1),(9,2),(10,2),(11,1),(12,2),(13,2),(14,2)] [(15,2)] tv ?_ ?_
 revert h
 cases H:decide (B<0)
 refine JF λh=>Je3 R U210 R Z37<|Jc3 R I37 (o.ld 4 R R)<|Jn 1 R<|Ob h λK s h=>Jd3 R a s U37 Z2<|Jc3 R I2 (a.gInt s)<|Jn 3 R ?_
 cases h
 exact Jh4 tv R
 refine JT λh=>Jn 1 R<|Ja4 R<|Jn 2 R<|Ja4 R<|Jn 3 R ?_
 cases h
 exact Jh4 tv R
 rintro _ I _ ⟨rfl,u,v⟩
 have h:=y
 refine Jb 1 R<|Ju<|Jb2 (l:=[.tmp 6]) results269 (Jq2 R R) R ?_
 cases h
 exact⟨u,R,(x.stp<|b.tr v)⟩
theorem qP {B K}{p0:VB}{C L}{p1:VB}(t:Rd Rp.bool J w 0 B K p0) (D:Rd Rp.bool J w 0 C L p1){r:VB}(h:nf p0 p1=some r):Ret prog 271 [.slice B p0.length K,.slice C p1.length L] w (Pvs Do 4 J w r):=by
 unfold nf at h
 refine Jl3 J func271 R ntmps271 R λX=>Jf3 R<|Jh3 [2,2,1,2] 1 R<|Jo3 R U178 R R<|Ob h λm ae h=>Jl1 (J:=J) (E:=Do) (z:=(false:Bool)) 2 R R R R R R R Y178 da R R R R R (λ_ _ _=>R) (Jv2 ae) λq x M n p W=>Tv<|Jb 1 R<|Jq<|Jf3 R<|Ob h λI ac Z=>?_
 clear h
 refine Jp3 [5] (λb o e=>∃f,∃k:VB,o=b/\Stp [2] n M f e/\Oc Do 4 f e 2 q x k/\m.length=k.length/\I=Dv k) ?_ ?_
 refine Jv<|Jq3 [0,1,5] (λc b o e=>∃f a,∃d:VB,o=(6,vi a)::b/\Stp [2] n M f e/\Oc Do 4 f e 2 q x d/\m.length=d.length/\0<=a/\Dq ((p0.length:Int)-a)=c/\cntM (kJ p0 p1) c a d=some I) ⟨_,_,⟨n,0,m,R,Jk3,W,R,(by decide),(by simp),ac⟩,(KM R)⟩ ?_
 rintro c _ ah ⟨y,a,d,rfl,g,s,v,E,i,h⟩
 rcases c with _|c
 have j:=h;obtain⟨af,h⟩:=exq j
 have u:=dcf i
 refine Jq<|Jh3 [2,2,2,2] 2 R<|Jo3 R U178 R R<|Jb 1 R<|Jx2 R u<|Jc1<|Jt<|Jt ?_
 cases h
 have h:=j
 refine Jb1 ?_
 cases h
 exact Jw1 _ ⟨y,d,R,g.wk R,s,v,R⟩<|KM R
 obtain⟨af,h,j⟩:=BI h;unfold kJ at h
 have u:=dct i
 refine Jq<|Jh3 [2,2,2,2] 2 R<|Jo3 R U178 R R<|Jb 1 R<|Jw2 R u<|Js<|Jp<|Jq<|Jv<|Ji3 [2,2,2,2,2,1,2,2,2,2,1,2,2,2,1] 4 R<|Ob h λai F h=>Jd3 R t F U178 Z4<|Jc3 R I4 ((t.stp<|p.tr g).gBool F)<|Jn 1 R<|Ob h λag h Y=>Jg4 [0,1,5,6,16,17] 28 ag y ah [(7,2),(8,2),(9,2),(10,1),(11,2),(12,2)] [(13,2),(14,1)] tv ?_ ?_
 revert h
 cases aj:ai
 refine JF λh=>Jn 3 R<|Ja4 R<|Jn 2 R ?_
 cases h
 exact Jh4 tv R
 refine JT λh=>Jn 2 R<|Ob h λan G h=>Jd3 R D G U178 Z4<|Jc3 R I4 ((D.stp<|p.tr g).gBool G)<|Jn 2 R ?_
 cases h
 exact Jh4 tv R
 rintro _ ak _ ⟨rfl,O,A⟩
 have h:=Y
 refine Ob h λao ad h=>Jf R (Jg2 s.rdc ad U178 Z4 R R v R)<|Ob h λN H h=>Jk1 (J:=O) (E:=Do) 2 [] R R R R R R R R Z4 R R R R (s.stp A) H λal P T V=>Tv<|?_
 have ab:m.length=N.length:=v.trans (Ju2 H).2.2.2.symm
 refine Jo<|Jz<|Jp<|Jg3 R<|wr2 E i t.len_le ▸ ?_
 cases h
 exact Ja2 ⟨P,a+1,N,R,(T3 g A T).wk R,V,ab,nxz E,nxm i,j⟩ R
 rintro _ am ⟨Q,k,rfl,S,U,aa,rfl⟩
 have h:=yI Z
 refine Jp<|Jf3 R<|Ju<|Jb2 (l:=[.tmp 4]) results271 (Jq2 R R) R ?_
 cases h
 exact⟨Q,q,x,(by simp only[aa]),(X.stp<|p.tr S),U⟩
theorem nF {b c}{p0:VV}(n:Oc (Ep.fz Rs) 37 J w 2 b c p0){r:VV}(h:eS p0=some r):Ret prog 221 [.slice b p0.length c,.func (.func 222) #[] #[]] w (λx f=>∃(g:Col),x= .tuple #[]/\Ent J w g f/\Oc (Ep.fz Rs) 37 g f 2 b c r/\p0.length=r.length):=by
  unfold eS at h
  split at h
  .rename_i a
   cases h
   exact zY Tryz.slices_Compare (Tryz.slices_SortFunc_none (α:=Nat)) (@λd _ m o k p i v j l w s a q u=>Tryz.slices_SortFunc (α:=d) m o k p 222 #[] i v j l w call222 s a q u) n a.1 (λe t=>by have:=List.all_eq_true.1 a.2 e t;cases e <;> simp_all)
  .cases h
end
end Go.Proofs.YtleekpaohfpooaaGreat
