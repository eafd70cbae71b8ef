/- The walks, part 0. By program. -/
import Derived.Test.YtgbippnfaoedmaaGreatDoorFnsMBG
import Derived.Test.YtgbippnfaoedmaaGreatDoorAlBG
set_option linter.unusedVariables false
set_option linter.unusedSimpArgs false
open Go.Wk.Ep renaming bool → zo, own → zp
open Int renaming toNat → zq
open Go.IntKind renaming wrap → zr
open Option.some renaming inj → zt
open Go.Wk.Sl renaming srcP → zu
open Sum renaming inr → zw
namespace Go.Proofs.YtgbippnfaoedmaaGreatDoor
open Tryz
open Go Go.Wk Go.Proofs
set_option maxRecDepth 100000
set_option maxHeartbeats 1000000
section
variable {w:World}{J:Col}
theorem uK {a b}{p0:VI}(d:Rd (Rp.int .u8) J w 0 a b p0){r:Bool}(h:tx p0=some r):Ret prog 4 [.slice a p0.length b] w (Pvb J w r):=by
 unfold tx at h
 refine Jp3 J func4 R ntmps4 R λc=>Jf3 R<|Jl3 1 R<|Js3 R U22 R R<|Jb 2 R<|Ju<|Jb2 (l:=[.tmp 2]) results4 (Jq2 R R) R ?_
 cases h
 exact⟨J,R,c⟩
theorem t7 {c e}{p0:VI}{p1:Int}(j:Rd (Rp.int .u8) J w 0 c e p0){r:dice}(h:ou p0 p1=some r):Ret prog 5 [.slice c p0.length e,.int .u64 p1] w (λV a=>∃(b:Col) (F:Option Addr) (H:Nat) (G:Nat),V= .pointer (some ⟨G,0,none⟩)/\Ent J w b a/\Rd (Rp.int .u8) b a 0 F H r.b/\(Bc b a 3 G 43 [.slice F r.b.length H,vi r.i,.int .u64 r.h])):=by
 unfold ou at h
 refine Jp3 J func5 R ntmps5 R λQ=>Jf3 R<|Jl3 4 R<|Js3 R U22 R R<|Jf R (Ji2 U3 U26 R R)<|Jn 1 R<|Jf R (Jn4 [.slice c p0.length e,vi 0,.int .u64 (zr .u64 ((zr .u64<|p1 * 7919)+(zr .u64 (p0.length:Int))))] R)<|Jx3 J 2 R λu I o t P=>Tv<|Jb 1 R<|Jq<|Jf3 R<|Ob h λE T S=>?_
 clear h
 refine Jt3 [5] (λn p a=>∃b x,p=n/\Stp [2] o I b a/\Bc b a 2 u 43 [.slice c p0.length e,vi 0,.int .u64 x]/\E=zw x) ?_ ?_
 refine Jv<|Ju3 [0,5] (λg n p a=>∃b f d,p=(6,vi f)::n/\Stp [2] o I b a/\Bc b a 2 u 43 [.slice c p0.length e,vi 0,.int .u64 d]/\0<=f/\zq ((p0.length:Int)-f)=g/\cntM (jC p0) g f d=some E) ⟨_,_,⟨o,0,((zr .u64 ((zr .u64<|p1 * 7919)+(zr .u64 (p0.length:Int)))):Int),R,Jo3,P,(by decide),(by simp),T⟩,(KM R)⟩ ?_
 rintro g _ W ⟨i,f,d,rfl,q,A,C,k,h⟩
 rcases g with _|g
 have m:=h;obtain⟨U,h⟩:=exq m
 have v:=dcf k
 refine Jq<|Jl3 2 R<|Js3 R U22 R R<|Jb 1 R<|Jx2 R v<|Jc1<|Jt<|Jt ?_
 cases h
 have h:=m
 refine Jb1 ?_
 cases h
 exact Jw1 _ ⟨i,d,R,q.wk R,A,R⟩<|KM R
 obtain⟨U,h,m⟩:=BI h;unfold jC at h
 have v:=dct k
 refine Jq<|Jl3 2 R<|Js3 R U22 R R<|Jb 1 R<|Jw2 R v<|Js<|Jp<|Jq<|Jv<|Js1 (J:=i) [0,2] (some 15) [(0,2),(1,2),(2,2),(3,2),(6,2),(7,2),(8,2),(4,0),(5,2),(9,0),(10,2),(11,2),(12,2),(13,2),(14,2)] [(15,1)] (by kernel_rfl) (by kernel_rfl) λX s=>Jn 2 R<|Jf R (bh R R)<|Je3 R U43 R Z26<|Jn 2 R<|Ob h λy D h=>Jd3 R j D U22 sizeOf5 ?_
 have B:=A.stp s
 refine Jg R (Jd2 isAgg26 R R<|hvC (B.ld 2 R R) R)<|Jn 1 R<|Jg R (Jd2 isAgg5 R R<|hvC ((j.stp<|T3 t q s).gInt D) R)<|Jf R (Ji2 U5 U26 R R)<|Jn 2 R<|Jf R (bh R R)<|Je3 R U43 R Z26<|Jt1<|Jz3 i 2 (off:=2) (vc:=[.int .u64 (zr .u64 ((zr .u64 ((zr .u64<|d * 1099511628211)+(zr .u64 y)))+3))]) (cs':=[.slice c p0.length e,vi 0,.int .u64 (zr .u64 ((zr .u64 ((zr .u64<|d * 1099511628211)+(zr .u64 y)))+3))]) R Z26 R B R λY L O=>Tv<|Jo<|Jz<|Jp<|Jg3 R<|wr2 C k j.len_le ▸ ?_
 cases h
 exact Ja2 ⟨i,f+1,((zr .u64 ((zr .u64 ((zr .u64<|d * 1099511628211)+(zr .u64 y)))+3)):Int),R,(T3 q s L).wk R,O,nxz C,nxm k,m⟩ R
 rintro _ Z ⟨K,x,rfl,z,N,rfl⟩
 have h:=yI S
 refine Jp<|Jf3 R<|Ju<|Jb2 (l:=[.tmp 4]) results5 (Jq2 R R) R ?_
 cases h
 exact⟨(λM=>ren [(2,3)]<|K M),c,e,u,R,((Q.stp<|t.tr z).map (ren [(2,3)]) R R),((j.stp<|t.tr z).map (ren [(2,3)]) R R),(N.map (ren [(2,3)]) R R)⟩
theorem di {a b}{p0:dice}{p1:Int}{e}(n:Rd (Rp.int .u8) J w 0 a b p0.b) (o:Bc J w 2 e 43 [.slice a p0.b.length b,vi p0.i,.int .u64 p0.h]){r:Int×Int×Int}(h:ci p0 p1=some r):Ret prog 12 [.pointer (some ⟨e,0,none⟩),vi p1] w (λD c=>∃(d:Col),D=vi r.1/\Ent J w d c/\Bc d c 2 e 43 [.slice a p0.b.length b,vi r.2.1,.int .u64 r.2.2]):=by
 unfold ci at h
 refine Jp3 J func12 R ntmps12 R λA=>Jf3 R<|Jl3 2 R<|Jf R (bh R R)<|Je3 R U43 R Z26<|Jc3 R isAgg26 (o.ld 2 R R)<|Jn 2 R<|Jf R (bh R R)<|Je3 R U43 R Z26<|Jz3 J 2 (off:=2) (vc:=[.int .u64 (zr .u64 ((zr .u64<|p0.h * 6364136223846793005)+1442695040888963407))]) (cs':=[.slice a p0.b.length b,vi p0.i,.int .u64 (zr .u64 ((zr .u64<|p0.h * 6364136223846793005)+1442695040888963407))]) R Z26 R o R λG k m=>Tv<|Jd<|Jl3 1 R<|Jf R (bh R R)<|Je3 R U43 R Z26<|Jc3 R isAgg26 (m.ld 2 R R)<|Jf R (vg R R R (by decide))<|Jn 1 R<|Jf R (Ji2 U26 U2 R R)<|Jb 1 R<|Jq<|Jq<|Js1 (J:=J) [2] none [(0,2),(1,2),(2,2),(4,2),(5,2),(6,2),(3,0),(7,0),(8,2),(9,2)] [] (by kernel_rfl) (by kernel_rfl) λE j=>Jn 1 R<|Jf R (bh R R)<|Je3 R U43 R Z3<|Jn 1 R<|Jf R (bh R R)<|Je3 R U43 R sizeOf22 ?_
 have g:=m.stp j
 refine Jg R (Jd2 I3 R R<|hvC (g.ld 1 R R) R)<|Jg R (Jd2 isAgg22 R R<|hvC (g.ld 0 R R) R)<|Js3 R U22 R R<|Jn 1 R<|Jt1<|Jd<|Ob h λq h B=>Jt3 [0,1] (λs u c=>∃d,u=(5,vi q.1)::s/\Stp [2] J E d c/\Bc d c 2 e 43 [.slice a p0.b.length b,vi q.2,.int .u64 (zr .u64 ((zr .u64<|p0.h * 6364136223846793005)+1442695040888963407))]) ?_ ?_
 revert h
 cases F:decide (p0.i<(p0.b.length:Int))
 refine JF λh=>Jy R<|Js ?_
 cases h
 exact Jw1 _ ⟨J,R,Jo3,g⟩<|KM R
 refine JT λh=>Jx R<|Jq<|Js1 (J:=J) [0,2] none [(0,2),(1,2),(2,2),(3,2),(5,2),(6,2),(7,2),(4,0),(8,0),(9,2),(10,0),(11,2),(12,2),(13,2)] [] (by kernel_rfl) (by kernel_rfl) λH i=>Jn 2 R<|Jf R (bh R R)<|Je3 R U43 R sizeOf22<|Jn 1 R<|Jf R (bh R R)<|Je3 R U43 R Z3 ?_
 have f:=g.stp i
 refine Jg R (Jd2 isAgg22 R R<|hvC (f.ld 0 R R) R)<|Jg R (Jd2 I3 R R<|hvC (f.ld 1 R R) R)<|Ob h λL p h=>Jd3 R n p U22 sizeOf5<|Jg R (Jd2 isAgg5 R R<|hvC ((n.stp<|T3 k j i).gInt p) R)<|Jf R (Ji2 U5 U2 R R)<|Jn 2 R<|Jt1<|Jd<|Jm3 2 R<|Jf R (bh R R)<|Je3 R U43 R Z3<|Jc3 R I3 (f.ld 1 R R)<|Jn 1 R<|Jf R (bh R R)<|Je3 R U43 R Z3<|Jz3 J 2 (off:=1) (vc:=[vi<|zr .i64<|p0.i+1]) (cs':=[.slice a p0.b.length b,vi (zr .i64<|p0.i+1),.int .u64 (zr .u64 ((zr .u64<|p0.h * 6364136223846793005)+1442695040888963407))]) R Z3 R f R λI x z=>Tv<|Jo ?_
 cases h
 exact Jw1 _ ⟨J,R,(i.tr x).wk R,z⟩<|KM R
 rintro _ K ⟨t,rfl,v,y⟩
 have h:=B
 refine Jp<|Jl3 2 R<|Ob h λ_z55 C h=>Jf R (c7 R R R<|uS C)<|Jb 1 R<|Ju<|Jb2 (l:=[.tmp 4]) results12 (Jq2 R R) R ?_
 cases h
 exact⟨t,R,(A.stp<|T3 k j v),y⟩
theorem cW {b c}{p0:VI}(k:Rd Ri J w 0 b c p0){r:VI}(h:dQ p0=some r):Ret prog 23 [.slice b p0.length c] w (Pvs E6 2 J w r):=by
 unfold dQ at h
 refine Jp3 J func23 R ntmps23 R λm=>Jf3 R<|Jj3<|Jc4 J E6 2 R Y27 aR R λp q s d a i=>Tv<|Jn 1 R<|Ob h λu n h=>Jd4 d E6 2 [] R Y27 aR R i (zu (bo _)<|k.stp a) aV n R λg o t e f j=>Tv<|Jb 1 R<|Ju<|Jb2 (l:=[.tmp 2]) results23 (Jq2 R R) R ?_
 cases h
 exact⟨e,g,o,R,(m.stp<|a.tr f),j⟩
theorem oH {p0:Int}  {r:ByteArray}(h:nR p0=some r):Ret prog 27 [vi p0] w (λM b=>∃(c:Col),M= .string r/\Ent J w c b):=by
 unfold nR at h
 refine Jp3 J func27 R ntmps27 R λC=>Jf3 R<|Jf3 R<|Jf3 R<|Jq<|Ob h λq H F=>?_
 clear h
 refine Jt3 [4] (λe d b=>∃c,∃k:Int×ByteArray,d=(3,.string k.2)::e/\Stp [] J w c b/\q=zw k) ?_ ?_
 refine Jv<|Ju3 [4] (λg e d b=>∃c,∃a:Int×ByteArray,d=(0,vi a.1)::(3,.string a.2)::e/\Stp [] J w c b/\bn lG g a=some q) ⟨_,_,⟨J,(p0,((ByteArray.mk #[]):ByteArray)),R,Jo3,H⟩,(KM R)⟩ ?_
 rintro g _ P ⟨v,a,rfl,n,h⟩
 rcases g with _|g
 cases h
 obtain⟨Y,h,o⟩:=BI h;unfold lG at h
 refine Jq<|Jh3 [2,2,2,2,2,2] 1 R<|Jf R (bJ R R R)<|Jn 1 R<|Ob h λp h D=>Jk4 [0,3,4] 13 p v P 3 tv ?_ ?_
 revert h
 cases U:(eqB a.2 (ByteArray.mk #[]))
 refine JF λh=>Jn 3 R ?_
 cases h
 exact Jl4 tv R
 refine JT λh=>Jn 3 R ?_
 cases h
 exact Jl4 tv R
 rintro _ N _ ⟨rfl,f,m⟩
 have h:=D
 refine Jd ?_
 revert h
 cases V:p
 refine JF λh=>Jy R<|Jc1<|Jt<|Jt ?_
 cases h
 have h:=o
 refine Jb1 ?_
 cases h
 exact Jw1 _ ⟨f,(a.1,a.2),R,(n.tr m).wk R,R⟩<|KM R
 refine JT λh=>Jx R<|Js<|Jp<|Jv<|Jh3 [2,2,2] 1 R<|Jf R (c7 R R R<|show ¬(10:Int)=0 by decide) (Jb 1 R<|Jq<|Jf3 R<|Ob h λj h E=>Jt3 [0,3,4] (λe d b=>∃c,d=(5,vi j)::e/\Stp [] f N c b) ?_ ?_)
 revert h
 cases W:decide ((Int.tmod a.1 10)<0)
 refine JF λh=>Jy R<|Js ?_
 cases h
 exact Jw1 _ ⟨f,R,Jo3⟩<|KM R
 refine JT λh=>Jx R<|Ji3 [2,2,2] 1 R<|Jf R (uZ R R)<|Jc 1 R ?_
 cases h
 exact Jw1 _ ⟨f,R,Jo3⟩<|KM R
 rintro _ Z ⟨s,rfl,x⟩
 have h:=E
 refine Jp<|Jh3 [2,2,2,1,1,2,2,2] 2 R<|Jf R (Ji2 U2 U5 R R)<|Jb4 s (Ep.int .u8) 2 [] (parts:=[(0,.tmp 22)]) (cells:=[.int .u8 (zr .u8<|zr .i64 (48+j))]) (xs:=([(zr .u8<|zr .i64 (48+j))]:VI)) R Y22 pv R (Jj4 R) λT S aa t y B=>Tv<|Jg4 tv R (uX Y22 underlying5 underlying9 R (svE B.rdc) R R)<|Jn 1 R<|Ob h λQ I h=>Jf R (cc R R R I)<|Jb 1 R<|Ji3 [2,2,2] 1 R<|Jf R (oD R R R<|show ¬(10:Int)=0 by decide) (Jc 1 R<|Jz ?_)
 cases h
 exact Ja2 ⟨t,(((zr .i64<|Int.tdiv a.1 10):Int),Q),R,(T4 n m x y).wk R,o⟩ R
 rintro _ O ⟨i,k,rfl,A,rfl⟩
 have h:=yI F
 refine Jp<|Jq<|Jf3 R<|Ob h λL h G=>Jx1 (λd b=>∃c,d=[(3,.string L)]/\Stp [] i O c b) ?_ ?_
 revert h
 cases X:decide (p0<0)
 refine JF λh=>Jy R<|Js ?_
 cases h
 exact Jw1 _ ⟨i,R,Jo3⟩<|KM R
 refine JT λh=>Jx R<|Ji3 [2,2,2] 1 R<|Ob h λac K h=>Jf R (cc R R R K)<|Jc 1 R ?_
 cases h
 exact Jw1 _ ⟨i,R,Jo3⟩<|KM R
 rintro _ ab ⟨u,rfl,z⟩
 have h:=G
 refine Jp<|Jf3 R<|Ju<|Jb2 (l:=[.tmp 2]) results27 (Jq2 R R) R ?_
 cases h
 exact⟨u,R,(C.stp<|A.tr z)⟩
theorem rR {p0:Int}  {r:ByteArray}(h:oG p0=some r):Ret prog 28 [vi p0] w (λb c=>∃(d:Col),b= .string r/\Ent J w d c):=by
 unfold oG at h
 refine Jp3 J func28 R ntmps28 R λa=>Jf3 R<|Jq<|Jf3 R ?_
 revert h
 cases e:(p0==0)
 refine JF λh=>Jy R<|Js<|Jp<|Jf3 R<|Ju<|Jb2 (l:=[.tmp 2]) results28 (Jq2 R R) R ?_
 cases h
 exact⟨J,R,a⟩
 refine JT λh=>Jx R<|Jf3 R<|Ju<|Jw<|Jb2 (l:=[.tmp 2]) results28 (Jq2 R R) R ?_
 cases h
 exact⟨J,R,a⟩
theorem mv {s x}{p0:(List ByteArray)}{p1:ByteArray}(n:Rd Rp.str J w 0 s x p0){r:ByteArray}(h:kX p0 p1=some r):Ret prog 26 [.slice s p0.length x,.string p1] w (λK b=>∃(c:Col),K= .string r/\Ent J w c b):=by
 unfold kX at h
 refine Jp3 J func26 R ntmps26 R λB=>Jf3 R<|Jf3 R<|Jq<|Jf3 R<|Ob h λv E D=>?_
 clear h
 refine Jx1 (λd b=>∃c,∃p:ByteArray,d=[(5,.string p)]/\Stp [] J w c b/\v=zw p) ?_ ?_
 refine Jv<|Ju3 [0,1] (λe k d b=>∃c a,∃j:ByteArray,d=(5,.string j)::(6,vi a)::k/\Stp [] J w c b/\0<=a/\zq ((p0.length:Int)-a)=e/\cntM (jZ p0 p1) e a j=some v) ⟨_,_,⟨J,0,((ByteArray.mk #[]):ByteArray),R,Jo3,(by decide),(by simp),E⟩,(KM R)⟩ ?_
 rintro e _ L ⟨f,a,j,rfl,m,t,g,h⟩
 rcases e with _|e
 have i:=h;obtain⟨H,h⟩:=exq i
 have o:=dcf g
 refine Jq<|Jl3 2 R<|Js3 R U38 R R<|Jb 1 R<|Jx2 R o<|Jc1<|Jt<|Jt ?_
 cases h
 have h:=i
 refine Jb1 ?_
 cases h
 exact Jw1 _ ⟨f,j,R,m.wk R,R⟩<|KM R
 obtain⟨H,h,i⟩:=BI h;unfold jZ at h
 have o:=dct g
 refine Jq<|Jl3 2 R<|Js3 R U38 R R<|Jb 1 R<|Jw2 R o<|Js<|Jp<|Jq<|Jv<|Jq<|Jf3 R<|Ob h λI h C=>Jt3 [0,1,6] (λk d b=>∃c,d=(5,.string I)::k/\Stp [] f L c b) ?_ ?_
 revert h
 cases N:decide (0<a)
 refine JF λh=>Jy R<|Js ?_
 cases h
 exact Jw1 _ ⟨f,R,Jo3⟩<|KM R
 refine JT λh=>Jx R<|Jm3 2 R<|Ob h λQ F h=>Jf R (cc R R R F)<|Jc 1 R ?_
 cases h
 exact Jw1 _ ⟨f,R,Jo3⟩<|KM R
 rintro _ O ⟨y,rfl,q⟩
 have h:=C
 refine Jp<|Jm3 3 R<|Ob h λS u h=>Jd3 R n u U38 Z9<|Jc3 R I9 ((n.stp<|m.tr q).gStr u)<|Ob h λM G h=>Jf R (cc R R R G)<|Jc 1 R<|Jz<|Jp<|Jg3 R<|wr2 t g n.len_le ▸ ?_
 cases h
 exact Ja2 ⟨y,a+1,M,R,(m.tr q).wk R,nxz t,nxm g,i⟩ R
 rintro _ P ⟨z,p,rfl,A,rfl⟩
 have h:=yI D
 refine Jp<|Jf3 R<|Ju<|Jb2 (l:=[.tmp 4]) results26 (Jq2 R R) R ?_
 cases h
 exact⟨z,R,(B.stp A)⟩
theorem pO {m k o q n p}{p0:Parity}(aj:Rd Ri J w 0 m k p0.Arena.Owner) (Y:Rd Rs J w 0 o q p0.Arena.Next) (ag:Rd Ri J w 0 n p p0.Prio){r:l7Game}(h:mW p0=some r):Ret prog 32 [.agg #[.slice m p0.Arena.Owner.length k,.slice o p0.Arena.Next.length q,.slice n p0.Prio.length p]] w (λdu a=>∃(b:Col) (bR:Option Addr) (bW:Nat) (bS:Option Addr) (bX:Nat) (bT:Option Addr) (bY:Nat) (bU:Option Addr) (bZ:Nat) (bV:Option Addr) (b0:Nat),du= .agg #[.slice bR r.owner.length bW,.slice bS r.prio.length bX,.slice bT r.next.length bY,.slice bU r.prev.length bZ,.slice bV r.pick.length b0]/\Ent J w b a/\Rd Ri b a 0 bR bW r.owner/\Rd Ri b a 0 bS bX r.prio/\Rd Rs b a 0 bT bY r.next/\Oc (zp E6 2) 27 b a 5 bU bZ r.prev/\Oc E6 2 b a 6 bV b0 r.pick):=by
 unfold mW at h
 refine Jp3 J func32 R ntmps32 R λda=>Jj3<|Jx3 J 2 R λdD dM b9 P cZ=>Tv<|Jy3 b9 3 R X69 R λdE dw ap E c6=>Tv<|Jd<|Jj3<|Je3 R U32 R Z27 ?_
 have a5:=cZ.stp E
 refine Jc3 R I27 (a5.ld 2 R R)<|Js3 R U27 R R<|Jb 1 R<|Jq<|Ob h λc aw h=>Ob h λd ax h=>Jt3 [1,2,3] (λe u a=>∃b s aG aJ aI aE aF aH G F ai ah,u=(4,.pointer (some ⟨s,0,none⟩))::e/\Stp [4,5,6] ap dw b a/\Rd Ri b a 0 aG aJ ((⟨p0.Arena.Owner,p0.Prio,p0.Arena.Next,c,d⟩:l7Game).owner)/\Rd Ri b a 0 aI aE ((⟨p0.Arena.Owner,p0.Prio,p0.Arena.Next,c,d⟩:l7Game).prio)/\Rd Rs b a 0 aF aH ((⟨p0.Arena.Owner,p0.Prio,p0.Arena.Next,c,d⟩:l7Game).next)/\Oc (zp E6 2) 27 b a 4 G F ((⟨p0.Arena.Owner,p0.Prio,p0.Arena.Next,c,d⟩:l7Game).prev)/\Oc E6 2 b a 5 ai ah ((⟨p0.Arena.Owner,p0.Prio,p0.Arena.Next,c,d⟩:l7Game).pick)/\Bc b a 6 s 69 [.slice aG ((⟨p0.Arena.Owner,p0.Prio,p0.Arena.Next,c,d⟩:l7Game).owner).length aJ,.slice aI ((⟨p0.Arena.Owner,p0.Prio,p0.Arena.Next,c,d⟩:l7Game).prio).length aE,.slice aF ((⟨p0.Arena.Owner,p0.Prio,p0.Arena.Next,c,d⟩:l7Game).next).length aH,.slice G ((⟨p0.Arena.Owner,p0.Prio,p0.Arena.Next,c,d⟩:l7Game).prev).length F,.slice ai ((⟨p0.Arena.Owner,p0.Prio,p0.Arena.Next,c,d⟩:l7Game).pick).length ah]) ?_ ?_
 refine WC.rxt (J:=ap) [2] none (by kernel_rfl) λdZ t=>Jq1 (fuel:=5) [(0,2),(1,2),(3,2),(5,2),(6,2),(8,2),(10,2),(2,0),(4,0),(7,0)] (by kernel_rfl) (by kernel_rfl) R<|Je3 R U32 R Z30<|Je3 R U30 R Z27<|Je3 R U32 R Z27<|Je3 R U32 R Z30<|Je3 R U30 R Z28<|Jn 2 R ?_
 have a4:=a5.stp t
 refine Jg R (Jd2 I27 R R<|hvC (a4.ld 0 R R) R)<|Jg R (Jd2 I27 R R<|hvC (a4.ld 2 R R) R)<|Jg R (Jd2 I28 R R<|hvC (a4.ld 1 R R) R)<|Jp1<|WA.fork3 (fuel:=4) 9 11 13 (by kernel_rfl) R ?_ ?_ ?_
 refine Jl1 (J:=ap) (E:=(zp E6 2)) (z:=([]:VI)) 4 R R R R R R R Y28 br R R R R R (λ_ _ _=>⟨none,0,R,Ow.nil⟩) (Jv2 aw) λg f d5 bd v bG=>⟨(v.cl R),Jp1<|WA.fork2 (fuel:=3) 11 13 (by kernel_rfl) R ?_ ?_⟩
 have aQ:=(T4 P E t v)
 exact Jl1 (J:=bd) (E:=E6) (z:=(0:Int)) 5 R R R R R R R Y27 aR R R R R R (λ_ _ _=>R) (Jv2 ax) λj i d9 ci O cW=>⟨((v.tr O).cl R),Jp1<|Jq1 (fuel:=0) [(12,2),(13,1),(14,1)] (by kernel_rfl) (by kernel_rfl) R<|Jf R (Jn4 [.slice m p0.Arena.Owner.length k,.slice n p0.Prio.length p,.slice o p0.Arena.Next.length q,.slice g c.length f,.slice j d.length i] R)<|Jy3 ci 6 R X69 R λs ea be Q cX=>⟨((T3 v O Q).cl R),Jm4 be 6 R Z69 R cX R λeb ac cY=>⟨((T4 v O Q ac).cl R),Jp1<|Jr1 [] (by kernel_rfl) (by kernel_rfl) R<|Jo<|Jw1 _ ⟨be,s,m,k,n,p,o,q,g,f,j,i,R,(T5 t v O Q ac).wk R,(aj.stp<|T4 aQ O Q ac),(ag.stp<|T4 aQ O Q ac),(Y.stp<|T4 aQ O Q ac),(bG.stp<|T3 O Q ac),(cW.stp<|Q.tr ac),cY⟩<|KM R⟩⟩⟩
 have aS:=(T4 P E t v)
 exact Jy3 bd 5 R X69 R λs ec cj S c0=>⟨((v.tr S).cl R),Jp1<|Jq1 (fuel:=0) [(11,1),(12,2),(14,1)] (by kernel_rfl) (by kernel_rfl) R<|Jl1 (J:=cj) (E:=E6) (z:=(0:Int)) 6 R R R R R R R Y27 aR R R R R R (λ_ _ _=>R) (Jv2 ax) λj i ed bf T c1=>⟨((T3 v S T).cl R),Jf R (Jn4 [.slice m p0.Arena.Owner.length k,.slice n p0.Prio.length p,.slice o p0.Arena.Next.length q,.slice g c.length f,.slice j d.length i] R)<|Jm4 bf 5 R Z69 R (c0.stp T) R λee ad c2=>⟨((T4 v S T ad).cl R),Jp1<|Jr1 [] (by kernel_rfl) (by kernel_rfl) R<|Jo<|Jw1 _ ⟨(λA=>ren [(6,5),(5,6)]<|bf A),s,m,k,n,p,o,q,g,f,j,i,R,(Jz2 ((T5 t v S T ad).wk R) [(6,5),(5,6)] R),((aj.stp<|T4 aS S T ad).map (ren [(6,5),(5,6)]) R R),((ag.stp<|T4 aS S T ad).map (ren [(6,5),(5,6)]) R R),((Y.stp<|T4 aS S T ad).map (ren [(6,5),(5,6)]) R R),((bG.stp<|T3 S T ad).map (ren [(6,5),(5,6)]) R R),((c1.stp ad).map (ren [(6,5),(5,6)]) R R),(c2.map (ren [(6,5),(5,6)]) R R)⟩<|KM R⟩⟩⟩
 refine Jl1 (J:=ap) (E:=E6) (z:=(0:Int)) 4 R R R R R R R Y27 aR R R R R R (λ_ _ _=>R) (Jv2 ax) λj i ef bg x bH=>⟨(x.cl R),Jp1<|WA.fork2 (fuel:=3) 9 13 (by kernel_rfl) R ?_ ?_⟩
 have aT:=(T4 P E t x)
 exact Jl1 (J:=bg) (E:=(zp E6 2)) (z:=([]:VI)) 5 R R R R R R R Y28 br R R R R R (λ_ _ _=>⟨none,0,R,Ow.nil⟩) (Jv2 aw) λg f eg ck U c3=>⟨((x.tr U).cl R),Jp1<|Jq1 (fuel:=0) [(12,2),(13,1),(14,1)] (by kernel_rfl) (by kernel_rfl) R<|Jf R (Jn4 [.slice m p0.Arena.Owner.length k,.slice n p0.Prio.length p,.slice o p0.Arena.Next.length q,.slice g c.length f,.slice j d.length i] R)<|Jy3 ck 6 R X69 R λs eh bh V c4=>⟨((T3 x U V).cl R),Jm4 bh 6 R Z69 R c4 R λei ae c5=>⟨((T4 x U V ae).cl R),Jp1<|Jr1 [] (by kernel_rfl) (by kernel_rfl) R<|Jo<|Jw1 _ ⟨(λA=>ren [(5,4),(4,5)]<|bh A),s,m,k,n,p,o,q,g,f,j,i,R,(Jz2 ((T5 t x U V ae).wk R) [(5,4),(4,5)] R),((aj.stp<|T4 aT U V ae).map (ren [(5,4),(4,5)]) R R),((ag.stp<|T4 aT U V ae).map (ren [(5,4),(4,5)]) R R),((Y.stp<|T4 aT U V ae).map (ren [(5,4),(4,5)]) R R),((c3.stp<|V.tr ae).map (ren [(5,4),(4,5)]) R R),((bH.stp<|T3 U V ae).map (ren [(5,4),(4,5)]) R R),(c5.map (ren [(5,4),(4,5)]) R R)⟩<|KM R⟩⟩⟩
 have aU:=(T4 P E t x)
 exact Jy3 bg 5 R X69 R λs ej cl W c7=>⟨((x.tr W).cl R),Jp1<|Jq1 (fuel:=0) [(9,1),(12,2),(14,1)] (by kernel_rfl) (by kernel_rfl) R<|Jl1 (J:=cl) (E:=(zp E6 2)) (z:=([]:VI)) 6 R R R R R R R Y28 br R R R R R (λ_ _ _=>⟨none,0,R,Ow.nil⟩) (Jv2 aw) λg f ek bi X c8=>⟨((T3 x W X).cl R),Jf R (Jn4 [.slice m p0.Arena.Owner.length k,.slice n p0.Prio.length p,.slice o p0.Arena.Next.length q,.slice g c.length f,.slice j d.length i] R)<|Jm4 bi 5 R Z69 R (c7.stp X) R λel af c9=>⟨((T4 x W X af).cl R),Jp1<|Jr1 [] (by kernel_rfl) (by kernel_rfl) R<|Jo<|Jw1 _ ⟨(λA=>ren [(6,4),(4,5),(5,6)]<|bi A),s,m,k,n,p,o,q,g,f,j,i,R,(Jz2 ((T5 t x W X af).wk R) [(6,4),(4,5),(5,6)] R),((aj.stp<|T4 aU W X af).map (ren [(6,4),(4,5),(5,6)]) R R),((ag.stp<|T4 aU W X af).map (ren [(6,4),(4,5),(5,6)]) R R),((Y.stp<|T4 aU W X af).map (ren [(6,4),(4,5),(5,6)]) R R),((c8.stp af).map (ren [(6,4),(4,5),(5,6)]) R R),((bH.stp<|T3 W X af).map (ren [(6,4),(4,5),(5,6)]) R R),(c9.map (ren [(6,4),(4,5),(5,6)]) R R)⟩<|KM R⟩⟩⟩
 refine Jy3 ap 4 R X69 R λs em bj y bu=>⟨(y.cl R),Jp1<|WA.fork2 (fuel:=3) 9 11 (by kernel_rfl) R ?_ ?_⟩
 have aW:=(T4 P E t y)
 exact Jl1 (J:=bj) (E:=(zp E6 2)) (z:=([]:VI)) 5 R R R R R R R Y28 br R R R R R (λ_ _ _=>⟨none,0,R,Ow.nil⟩) (Jv2 aw) λg f dN b4 K cs=>⟨((y.tr K).cl R),Jp1<|Jq1 (fuel:=0) [(11,1),(12,2),(14,1)] (by kernel_rfl) (by kernel_rfl) R<|Jl1 (J:=b4) (E:=E6) (z:=(0:Int)) 6 R R R R R R R Y27 aR R R R R R (λ_ _ _=>R) (Jv2 ax) λj i dO a9 L ct=>⟨((T3 y K L).cl R),Jf R (Jn4 [.slice m p0.Arena.Owner.length k,.slice n p0.Prio.length p,.slice o p0.Arena.Next.length q,.slice g c.length f,.slice j d.length i] R)<|Jm4 a9 4 R Z69 R (bu.stp<|K.tr L) R λdP aa cu=>⟨((T4 y K L aa).cl R),Jp1<|Jr1 [] (by kernel_rfl) (by kernel_rfl) R<|Jo<|Jw1 _ ⟨(λA=>ren [(5,4),(6,5),(4,6)]<|a9 A),s,m,k,n,p,o,q,g,f,j,i,R,(Jz2 ((T5 t y K L aa).wk R) [(5,4),(6,5),(4,6)] R),((aj.stp<|T4 aW K L aa).map (ren [(5,4),(6,5),(4,6)]) R R),((ag.stp<|T4 aW K L aa).map (ren [(5,4),(6,5),(4,6)]) R R),((Y.stp<|T4 aW K L aa).map (ren [(5,4),(6,5),(4,6)]) R R),((cs.stp<|L.tr aa).map (ren [(5,4),(6,5),(4,6)]) R R),((ct.stp aa).map (ren [(5,4),(6,5),(4,6)]) R R),(cu.map (ren [(5,4),(6,5),(4,6)]) R R)⟩<|KM R⟩⟩⟩
 have aX:=(T4 P E t y)
 exact Jl1 (J:=bj) (E:=E6) (z:=(0:Int)) 5 R R R R R R R Y27 aR R R R R R (λ_ _ _=>R) (Jv2 ax) λj i dQ b5 M cv=>⟨((y.tr M).cl R),Jp1<|Jq1 (fuel:=0) [(9,1),(12,2),(14,1)] (by kernel_rfl) (by kernel_rfl) R<|Jl1 (J:=b5) (E:=(zp E6 2)) (z:=([]:VI)) 6 R R R R R R R Y28 br R R R R R (λ_ _ _=>⟨none,0,R,Ow.nil⟩) (Jv2 aw) λg f dR ba N cw=>⟨((T3 y M N).cl R),Jf R (Jn4 [.slice m p0.Arena.Owner.length k,.slice n p0.Prio.length p,.slice o p0.Arena.Next.length q,.slice g c.length f,.slice j d.length i] R)<|Jm4 ba 4 R Z69 R (bu.stp<|M.tr N) R λdS ab cx=>⟨((T4 y M N ab).cl R),Jp1<|Jr1 [] (by kernel_rfl) (by kernel_rfl) R<|Jo<|Jw1 _ ⟨(λA=>ren [(6,4),(4,6)]<|ba A),s,m,k,n,p,o,q,g,f,j,i,R,(Jz2 ((T5 t y M N ab).wk R) [(6,4),(4,6)] R),((aj.stp<|T4 aX M N ab).map (ren [(6,4),(4,6)]) R R),((ag.stp<|T4 aX M N ab).map (ren [(6,4),(4,6)]) R R),((Y.stp<|T4 aX M N ab).map (ren [(6,4),(4,6)]) R R),((cw.stp ab).map (ren [(6,4),(4,6)]) R R),((cv.stp<|N.tr ab).map (ren [(6,4),(4,6)]) R R),(cx.map (ren [(6,4),(4,6)]) R R)⟩<|KM R⟩⟩⟩
 rintro _ b1 ⟨aO,s,aG,aJ,aI,aE,aF,aH,G,F,ai,ah,rfl,aA,cy,cB,cD,cF,cG,bB⟩
 refine Jp<|Jq<|Jf3 R<|Ob h λbP dp db=>?_
 clear h
 refine Jt3 [2,4] (λe u a=>∃b,∃am:VV×VI,u=e/\Stp [4,5,8] aO b1 b a/\Oc (zp E6 2) 27 b a 4 G F am.1/\((⟨p0.Arena.Owner,p0.Prio,p0.Arena.Next,c,d⟩:l7Game).prev).length=am.1.length/\Oc E6 2 b a 5 ai ah am.2/\((⟨p0.Arena.Owner,p0.Prio,p0.Arena.Next,c,d⟩:l7Game).pick).length=am.2.length/\bP=zw am) ?_ ?_
 refine Jv<|Ju3 [1,2,3,4] (λD e u a=>∃b B,∃H:VV×VI,u=(5,vi B)::e/\Stp [4,5,8] aO b1 b a/\Oc (zp E6 2) 27 b a 4 G F H.1/\((⟨p0.Arena.Owner,p0.Prio,p0.Arena.Next,c,d⟩:l7Game).prev).length=H.1.length/\Oc E6 2 b a 5 ai ah H.2/\((⟨p0.Arena.Owner,p0.Prio,p0.Arena.Next,c,d⟩:l7Game).pick).length=H.2.length/\0<=B/\zq ((p0.Prio.length:Int)-B)=D/\cntM (jK p0) D B H=some bP) ⟨_,_,⟨aO,0,(((⟨p0.Arena.Owner,p0.Prio,p0.Arena.Next,c,d⟩:l7Game).prev:VV),((⟨p0.Arena.Owner,p0.Prio,p0.Arena.Next,c,d⟩:l7Game).pick:VI)),R,Jo3,cF,R,cG,R,(by decide),(by simp),dp⟩,(KM R)⟩ ?_
 rintro D _ dU ⟨bc,B,H,rfl,aq,bw,bK,a1,a6,dd,bI,h⟩
 rcases D with _|D
 have aM:=h;obtain⟨dt,h⟩:=exq aM
 have ak:=dcf bI
 refine Jq<|Jf3 R<|Jx2 R ak<|Jc1<|Jt<|Jt ?_
 cases h
 have h:=aM
 refine Jb1 ?_
 cases h
 exact Jw1 _ ⟨bc,(H.1,H.2),R,aq.wk R,bw,bK,a1,a6,R⟩<|KM R
 obtain⟨dt,h,aM⟩:=BI h;unfold jK at h
 have ak:=dct bI
 refine Jq<|Jf3 R<|Jw2 R ak<|Js<|Jp<|Jq<|Jv<|Jj3<|Je3 R U69 R Z27 ?_
 have bx:=bB.stp aq
 refine Jc3 R I27 (bx.ld 4 R R)<|Jn 1 R<|Ob h λen ds h=>Jf R (Jg2 a1.rdc ds U27 Z2 R R a6 R)<|Ob h λb3 bO h=>Jk1 (J:=bc) (E:=E6) 5 [] R R R R R R R R Z2 R R R R a1 bO λb2 aP ar cC=>Tv<|?_
 have di:((⟨p0.Arena.Owner,p0.Prio,p0.Arena.Next,c,d⟩:l7Game).pick).length=b3.length:=a6.trans (Ju2 bO).2.2.2.symm
 refine Jd<|Jf3 R<|Ob h λbQ dq dc=>?_
 clear h
 refine Jt3 [1,2,3,4,5] (λe u a=>∃b,∃az:Int×VV,u=e/\Stp [4,8] aP b2 b a/\Oc (zp E6 2) 27 b a 4 G F az.2/\((⟨p0.Arena.Owner,p0.Prio,p0.Arena.Next,c,d⟩:l7Game).prev).length=az.2.length/\bQ=zw az) ?_ ?_
 refine Jv<|Ju3 [1,2,3,4,5] (λD e u a=>∃b,∃I:Int×VV,u=(6,vi I.1)::e/\Stp [4,8] aP b2 b a/\Oc (zp E6 2) 27 b a 4 G F I.2/\((⟨p0.Arena.Owner,p0.Prio,p0.Arena.Next,c,d⟩:l7Game).prev).length=I.2.length/\bn (jL p0 B) D I=some bQ) ⟨_,_,⟨aP,((0:Int),H.1),R,Jo3,(bw.stp ar),bK,dq⟩,(KM R)⟩ ?_
 rintro D _ dv ⟨ao,I,rfl,au,a2,Z,h⟩
 rcases D with _|D
 cases h
 obtain⟨dI,h,bJ⟩:=BI h;unfold jL at h
 refine Jq<|Jl3 1 R<|Je3 R U32 R Z30<|Je3 R U30 R Z28 ?_
 have bz:=a5.stp (T4 aA aq ar au)
 refine Jc3 R I28 (bz.ld 1 R R)<|Jn 1 R<|Ob h λdx bL h=>Jd3 R Y bL U28 Z27 ?_
 have a3:=Y.stp (T6 P E aA aq ar au)
 obtain⟨dA,dJ,dF,de⟩:=a3.gSl bL
 refine Jc3 R I27 de<|Js3 R U27 R R<|Jb 1 R ?_
 revert h
 cases dH:decide (I.1<(dx.length:Int))
 refine JF λh=>Jy R<|Jc1<|Jt<|Jt ?_
 cases h
 have h:=bJ
 refine Jb1 ?_
 cases h
 exact Jw1 _ ⟨ao,(I.1,I.2),R,au.wk R,a2,Z,R⟩<|KM R
 refine JT λh=>Jx R<|Js<|Jp<|Jq<|Jv<|Jj3<|Je3 R U32 R Z30<|Je3 R U30 R Z28<|Jc3 R I28 (bz.ld 1 R R)<|Jn 1 R<|Ob h λeo bM h=>Jd3 R a3 bM U28 Z27 ?_
 obtain⟨dB,dK,bA,df⟩:=a3.gSl bM
 refine Jc3 R I27 df<|Jn 1 R<|Ob h λep bN h=>Jd3 R bA bN U27 Z2<|Jc3 R I2 (bA.gInt bN)<|Jb 1 R<|Ob h λeq ay h=>Ob h λer a7 h=>Ob h λes a8 h=>Ob h λan al h=>Jt3 [1,2,3,4,5,6] (λe u a=>∃b,u=e/\Stp [4,8] ao dv b a/\Oc (zp E6 2) 27 b a 4 G F an/\((⟨p0.Arena.Owner,p0.Prio,p0.Arena.Next,c,d⟩:l7Game).prev).length=an.length) ?_ ?_
 refine WC.rxt (J:=ao) [0,4,6] (some 10) (by kernel_rfl) λdX av=>Jq1 (fuel:=5) [(0,2),(2,2),(3,2),(5,2),(8,2),(4,0),(6,2),(7,0)] (by kernel_rfl) (by kernel_rfl) R<|Je3 R U69 R Z28<|Jn 1 R<|Je3 R U69 R Z28<|Jn 2 R ?_
 have aK:=bx.stp (T3 ar au av)
 refine Jg R (Jd2 I28 R R<|hvC (aK.ld 3 R R) R)<|Jf R (Jg2 a2.rdc ay U28 Z27 R R Z R) ?_
 have aL:=a2.stp av
 obtain⟨dC,dL,dG,aN⟩:=aL.rdc.gSl ay
 refine Jg R (Jd2 I27 R R<|hvC aN R)<|Jp1<|WA.fork2 (fuel:=4) 1 9 (by kernel_rfl) R ?_ ?_
 refine Jg4 (Cl.refl _ _ _) R (Jd2 I28 R R<|hvE<|aK.ld 3 R R)<|Jp1<|Jq1 (fuel:=3) [(9,1)] (by kernel_rfl) (by kernel_rfl) R<|Ji4 ao 7 [B] R Y27 aR R λcr cq dY dy aC cI=>⟨(aC.cl R),Jp1<|WA.brk (fuel:=2) 10 (by kernel_rfl) R (by kernel_rfl) ?_⟩
 have bC:=aL.stp aC
 obtain⟨b8,bl,cJ,cK⟩:=bC.borrow ay (aN _ (Stp.ag aC R)) 8 R R
 refine Jd4 b8 E6 8 [] R Y27 aR R cJ (zu (bo _) (cI.stp bl).rdc) aV a7 R λbs bt d0 ca bm cL=>Tv<|Jp1<|Jq1 (fuel:=0) [(11,2),(12,1)] (by kernel_rfl) (by kernel_rfl) R<|Jf R (Jg2 bC.rdc a8 U28 Z27 R R Z R)<|WO.stH (J:=ca) (E:=(zp E6 2)) 4 [8] R R R R R R R R Z27 R ⟨_,_,R,cL⟩ R R (cK.stp bm) al λd1 cb cn cM=>Tv<|?_
 have dl:((⟨p0.Arena.Owner,p0.Prio,p0.Arena.Next,c,d⟩:l7Game).prev).length=an.length:=Z.trans (Ju2 al).2.2.2.symm
 exact Jp1<|Jr1 [] (by kernel_rfl) (by kernel_rfl) R<|Jo<|Jw1 _ ⟨cb,R,(T5 av aC bl bm cn).wk R,cM,dl⟩<|KM R
 refine Ji4 ao 7 [B] R Y27 aR R λcr cq d2 dz C bD=>⟨(C.cl R),Jp1<|WA.forkB2r (fuel:=3) 1 10 (by kernel_rfl) R (by kernel_rfl) ?_ ?_⟩
 refine Jg4 (C.cl R) R (Jd2 I28 R R<|hvE ((aK.stp C).ld 3 R R))<|Jp1<|WA.brk (fuel:=2) 10 (by kernel_rfl) R (by kernel_rfl) ?_
 have bE:=aL.stp C
 obtain⟨cc,bp,cN,cO⟩:=bE.borrow ay (aN _ (Stp.ag C R)) 8 R R
 refine Jd4 cc E6 8 [] R Y27 aR R cN (zu (bo _) (bD.stp bp).rdc) aV a7 R λbs bt d3 cd bq cP=>Tv<|Jp1<|Jq1 (fuel:=0) [(11,2),(12,1)] (by kernel_rfl) (by kernel_rfl) R<|Jf R (Jg2 bE.rdc a8 U28 Z27 R R Z R)<|WO.stH (J:=cd) (E:=(zp E6 2)) 4 [8] R R R R R R R R Z27 R ⟨_,_,R,cP⟩ R R (cO.stp bq) al λd4 ce co cQ=>Tv<|?_
 have dm:((⟨p0.Arena.Owner,p0.Prio,p0.Arena.Next,c,d⟩:l7Game).prev).length=an.length:=Z.trans (Ju2 al).2.2.2.symm
 exact Jp1<|Jr1 [] (by kernel_rfl) (by kernel_rfl) R<|Jo<|Jw1 _ ⟨ce,R,(T5 av C bp bq co).wk R,cQ,dm⟩<|KM R
 have bF:=aL.stp C
 obtain⟨cf,aZ,cR,cS⟩:=bF.borrow ay (aN _ (Stp.ag C R)) 8 R R
 refine Jd4 cf E6 8 [] R Y27 aR R cR (zu (bo _) (bD.stp aZ).rdc) aV a7 R λbs bt d6 cg a0 cT=>Tv<|Jp1<|Jq1 (fuel:=0) [(1,1),(11,2),(12,1)] (by kernel_rfl) (by kernel_rfl) R<|Jc3 R I28 ((aK.stp<|T3 C aZ a0).ld 3 R R)<|Jf R (Jg2 bF.rdc a8 U28 Z27 R R Z R)<|WO.stH (J:=cg) (E:=(zp E6 2)) 4 [8] R R R R R R R R Z27 R ⟨_,_,R,cT⟩ R R (cS.stp a0) al λd7 ch cp cU=>Tv<|?_
 have dn:((⟨p0.Arena.Owner,p0.Prio,p0.Arena.Next,c,d⟩:l7Game).prev).length=an.length:=Z.trans (Ju2 al).2.2.2.symm
 exact Jp1<|Jr1 [] (by kernel_rfl) (by kernel_rfl) R<|Jo<|Jw1 _ ⟨ch,R,(T5 av C aZ a0 cp).wk R,cU,dn⟩<|KM R
 rintro _ dW ⟨b7,rfl,cm,cH,dk⟩
 refine Jz<|Jp<|Jg3 R ?_
 cases h
 exact Ja2 ⟨b7,(((zr .i64<|I.1+1):Int),an),R,(au.tr cm).wk R,cH,dk,bJ⟩ R
 rintro _ dV ⟨b6,az,rfl,bk,cE,dj,rfl⟩
 have h:=yI dc
 refine Jz<|Jp<|Jg3 R ?_
 have dr:zr .i64 (B+1)=B+1:=wr1 dd (Jn2 ak) ag.len_le
 rw[dr]
 have ak:=Jn2 ak
 cases h
 exact Ja2 ⟨b6,B+1,(az.2,b3),R,(T3 aq ar bk).wk R,cE,dj,(cC.stp bk),di,by omega,by omega,aM⟩ R
 rintro _ dT ⟨bb,am,rfl,aB,cz,dg,cA,dh,rfl⟩
 have h:=yI db
 refine Jp<|Jj3<|Jg4 tv R (Jh4 (haE (bB.stp aB).cells) I69 Z69 R)<|Jm4 bb 3 R Z69 R (c6.stp<|aA.tr aB) R λd8 aD cV=>Tv<|Jd<|Ju<|Jb2 (l:=[.cell 2 69]) results32 (bv R cV I69 Z69 R R) R ?_
 cases h
 have aY:=(aB.tr aD)
 exact⟨(λA=>ren [(4,5),(5,6)]<|bb A),aG,aJ,aI,aE,aF,aH,G,F,ai,ah,(by simp only[dg,dh]),((da.stp<|T5 P E aA aB aD).map (ren [(4,5),(5,6)]) R R),((cy.stp aY).map (ren [(4,5),(5,6)]) R R),((cB.stp aY).map (ren [(4,5),(5,6)]) R R),((cD.stp aY).map (ren [(4,5),(5,6)]) R R),((cz.stp aD).map (ren [(4,5),(5,6)]) R R),((cA.stp aD).map (ren [(4,5),(5,6)]) R R)⟩
theorem sY {p0:Int}  {r:VB}(h:mw p0=some r):Ret prog 52 [vi p0] w (Pvs zo 4 J w r):=by
 unfold mw at h
 refine Jp3 J func52 R ntmps52 R λM=>Jf3 R<|Jl3 1 R<|Ob h λk V h=>Jl1 (J:=J) (E:=zo) (z:=(false:Bool)) 2 R R R R R R R Y71 bZ R R R R R (λ_ _ _=>R) (Jv2 V) λo t B m H L=>Tv<|Jb 1 R<|Jq<|Jf3 R<|Ob h λ_ T h=>?_
 have O:=ku T
 refine Ob h λA S N=>?_
 clear h
 refine Jt3 [3] (λb n e=>∃f,∃j:VB,n=b/\Stp [2] m B f e/\Oc zo 4 f e 2 o t j/\k.length=j.length/\A=zw j) ?_ ?_
 refine Jv<|Ju3 [0,3] (λc b n e=>∃f a,∃d:VB,n=(4,vi a)::b/\Stp [2] m B f e/\Oc zo 4 f e 2 o t d/\k.length=d.length/\0<=a/\zq (p0-a)=c/\cntM iO c a d=some A) ⟨_,_,⟨m,0,k,R,Jo3,L,R,(by decide),(by simp),S⟩,(KM R)⟩ ?_
 rintro c _ X ⟨u,a,d,rfl,v,p,s,x,g,h⟩
 rcases c with _|c
 have i:=h;obtain⟨W,h⟩:=exq i
 have q:=dcf g
 refine Jq<|Jf3 R<|Jx2 R q<|Jc1<|Jt<|Jt ?_
 cases h
 have h:=i
 refine Jb1 ?_
 cases h
 exact Jw1 _ ⟨u,d,R,v.wk R,p,s,R⟩<|KM R
 obtain⟨W,h,i⟩:=BI h;unfold iO at h
 have q:=dct g
 refine Jq<|Jf3 R<|Jw2 R q<|Js<|Jp<|Jq<|Jv<|Jm3 2 R<|Ob h λaa U h=>Jf R (Jg2 p.rdc U U71 Z4 R R s R)<|Ob h λC y h=>Jk1 (J:=u) (E:=zo) 2 [] R R R R R R R R Z4 R R R R p y λY D G K=>Tv<|?_
 have Q:k.length=C.length:=s.trans (Ju2 y).2.2.2.symm
 refine Jo<|Jz<|Jp<|Jg3 R<|wr2 x g O ▸ ?_
 cases h
 exact Ja2 ⟨D,a+1,C,R,(v.tr G).wk R,K,Q,nxz x,nxm g,i⟩ R
 rintro _ Z ⟨E,j,rfl,F,I,P,rfl⟩
 have h:=yI N
 refine Jp<|Jf3 R<|Ju<|Jb2 (l:=[.tmp 2]) results52 (Jq2 R R) R ?_
 cases h
 exact⟨E,o,t,(by simp only[P]),(M.stp<|H.tr F),I⟩
theorem sX {p0:Int}{p1:Int}  {r:Int}(h:nS p0 p1=some r):Ret prog 145 [vi p0,vi p1] w (Pvi J w r):=by
 unfold nS at h
 refine Jp3 J func145 R ntmps145 R λa=>Jf3 R<|Jq<|Jf3 R ?_
 revert h
 cases b:decide (p1<p0)
 refine JF λh=>Jy R<|Js<|Jp<|Jf3 R<|Ju<|Jb2 (l:=[.tmp 4]) results145 (Jq2 R R) R ?_
 cases h
 exact⟨J,R,a⟩
 refine JT λh=>Jx R<|Jf3 R<|Ju<|Jw<|Jb2 (l:=[.tmp 4]) results145 (Jq2 R R) R ?_
 cases h
 exact⟨J,R,a⟩
theorem nj {B K}{p0:VB}{C L}{p1:VB}(t:Rd Rp.bool J w 0 B K p0) (D:Rd Rp.bool J w 0 C L p1){r:VB}(h:jJ p0 p1=some r):Ret prog 94 [.slice B p0.length K,.slice C p1.length L] w (Pvs zo 4 J w r):=by
 unfold jJ at h
 refine Jp3 J func94 R ntmps94 R λX=>Jf3 R<|Jl3 1 R<|Js3 R U71 R R<|Ob h λm ae h=>Jl1 (J:=J) (E:=zo) (z:=(false:Bool)) 2 R R R R R R R Y71 bZ R R R R R (λ_ _ _=>R) (Jv2 ae) λq x M n p W=>Tv<|Jb 1 R<|Jq<|Jf3 R<|Ob h λI ac Z=>?_
 clear h
 refine Jt3 [5] (λb o e=>∃f,∃k:VB,o=b/\Stp [2] n M f e/\Oc zo 4 f e 2 q x k/\m.length=k.length/\I=zw k) ?_ ?_
 refine Jv<|Ju3 [0,1,5] (λc b o e=>∃f a,∃d:VB,o=(6,vi a)::b/\Stp [2] n M f e/\Oc zo 4 f e 2 q x d/\m.length=d.length/\0<=a/\zq ((p0.length:Int)-a)=c/\cntM (g7 p0 p1) c a d=some I) ⟨_,_,⟨n,0,m,R,Jo3,W,R,(by decide),(by simp),ac⟩,(KM R)⟩ ?_
 rintro c _ ah ⟨y,a,d,rfl,g,s,v,E,i,h⟩
 rcases c with _|c
 have j:=h;obtain⟨af,h⟩:=exq j
 have u:=dcf i
 refine Jq<|Jl3 2 R<|Js3 R U71 R R<|Jb 1 R<|Jx2 R u<|Jc1<|Jt<|Jt ?_
 cases h
 have h:=j
 refine Jb1 ?_
 cases h
 exact Jw1 _ ⟨y,d,R,g.wk R,s,v,R⟩<|KM R
 obtain⟨af,h,j⟩:=BI h;unfold g7 at h
 have u:=dct i
 refine Jq<|Jl3 2 R<|Js3 R U71 R R<|Jb 1 R<|Jw2 R u<|Js<|Jp<|Jq<|Jv<|Jm3 4 R<|Ob h λai F h=>Jd3 R t F U71 Z4<|Jc3 R I4 ((t.stp<|p.tr g).gBool F)<|Jn 1 R<|Ob h λag h Y=>Jk4 [0,1,5,6,16,17] 28 ag y ah 6 tv ?_ ?_
 revert h
 cases aj:ai
 refine JF λh=>Jn 3 R<|Je4 R<|Jn 2 R ?_
 cases h
 exact Jl4 tv R
 refine JT λh=>Jn 2 R<|Ob h λan G h=>Jd3 R D G U71 Z4<|Jc3 R I4 ((D.stp<|p.tr g).gBool G)<|Jn 2 R ?_
 cases h
 exact Jl4 tv R
 rintro _ ak _ ⟨rfl,O,A⟩
 have h:=Y
 refine Ob h λao ad h=>Jf R (Jg2 s.rdc ad U71 Z4 R R v R)<|Ob h λN H h=>Jk1 (J:=O) (E:=zo) 2 [] R R R R R R R R Z4 R R R R (s.stp A) H λal P T V=>Tv<|?_
 have ab:m.length=N.length:=v.trans (Ju2 H).2.2.2.symm
 refine Jo<|Jz<|Jp<|Jg3 R<|wr2 E i t.len_le ▸ ?_
 cases h
 exact Ja2 ⟨P,a+1,N,R,(T3 g A T).wk R,V,ab,nxz E,nxm i,j⟩ R
 rintro _ am ⟨Q,k,rfl,S,U,aa,rfl⟩
 have h:=yI Z
 refine Jp<|Jf3 R<|Ju<|Jb2 (l:=[.tmp 4]) results94 (Jq2 R R) R ?_
 cases h
 exact⟨Q,q,x,(by simp only[aa]),(X.stp<|p.tr S),U⟩
theorem gu {p0 p1:ByteArray}(e:Vm 2 J w){r:(List ByteArray)}(h:strings_Split p0 p1=some r):Ret prog 19 [.string p0,.string p1] w (λf c=>∃(d:Col) (a:Option Addr) (b:Nat),f= .slice a r.length b/\Ent J w d c/\Oc Ep.str 9 d c 2 a b r):=vx Tryz.strings_Split e h
theorem j8 {p0 p1:ByteArray}  {r:ByteArray}(h:strings_TrimPrefix p0 p1=some r):Ret prog 37 [.string p0,.string p1] w (λa b=>∃(c:Col),a= .string r/\Ent J w c b):=wI Tryz.strings_TrimPrefix h
theorem pj {p0:ByteArray}(u:Rd Rp.str J w 0 (some ⟨0,0,none⟩) 2 ec){r:Int}(h:lA p0=some r):Ret prog 104 [.string p0] w (Pvi J w r):=by
 unfold lA at h
 refine Jp3 J func104 R ntmps104 R λm=>Jf3 R<|Jq<|Jj3<|Jg4 tv R (Jh4 (haE u.cellsS) isAgg131 sizeOf131 R)<|Jb 1 R<|Ob h λp v n=>?_
 clear h
 refine Jx1 (λf j=>∃k,f=[]/\Stp [] J w k j/\p=zw ()) ?_ ?_
 refine Jv<|Ju3 [0,5] (λc q f j=>∃k a,f=(6,vi a)::q/\Stp [] J w k j/\0<=a/\zq (2-a)=c/\cntM (ji p0) c a ()=some p) ⟨_,_,⟨J,0,R,Jo3,(by decide),(by simp),v⟩,(KM R)⟩ ?_
 rintro c _ C ⟨e,a,rfl,g,o,d,h⟩
 rcases c with _|c
 have b:=h;obtain⟨y,h⟩:=exq b
 have i:=dcf d
 refine Jf3 R<|Jq<|Jx2 R i<|Jc1<|Jt<|Jt ?_
 cases h
 have h:=b
 refine Jb1 ?_
 cases h
 exact Jw1 _ ⟨e,R,g.wk R,R⟩ KN
 obtain⟨y,h,b⟩:=BI h;unfold ji at h
 have i:=dct d
 refine Jf3 R<|Jq<|Jw2 R i<|Js<|Jp<|Jq<|Jv<|Jl3 1 R<|Ob h λz x h=>Jf R (sO (xs:=ec) runUnderlying131 I9 Z9 R x R R R)<|Jb 2 R<|Jl3 2 R<|Jf R (bJ R R R)<|Jd ?_
 revert h
 cases A:(eqB p0 z)
 refine JF λh=>Jy R<|Js<|Jz<|Jp<|Jg3 R<|wr2 o d (by decide) ▸ ?_
 cases h
 exact Ja2 ⟨e,a+1,R,g.wk R,nxz o,nxm d,b⟩ R
 refine JT λh=>Jx R<|Jf3 R<|Ju<|Ja1<|Jw<|Jw ?_
 cases h
 obtain rfl:=zt b
 have h:=yL n
 refine Ja1<|Jr2<|Jw<|Jb2 (l:=[.tmp 2]) results104 (Jq2 R R) R ?_
 cases h
 exact⟨e,R,(m.stp g)⟩
 rintro _ B ⟨s,rfl,t,rfl⟩
 have h:=yI n
 refine Jp<|Jf3 R<|Ju<|Jb2 (l:=[.tmp 2]) results104 (Jq2 R R) R ?_
 cases h
 exact⟨s,R,(m.stp t)⟩
theorem og {t D}{p0:VI}{p1:Int}(j:Rd Ri J w 0 t D p0){r:Bool}(h:kK p0 p1=some r):Ret prog 102 [.slice t p0.length D,vi p1] w (Pvb J w r):=by
 unfold kK at h
 refine Jp3 J func102 R ntmps102 R λu=>Jf3 R<|Jq<|Jl3 1 R<|Js3 R U27 R R<|Jb 1 R<|Ob h λC N v=>?_
 clear h
 refine Jx1 (λf m=>∃n,f=[]/\Stp [] J w n m/\C=zw ()) ?_ ?_
 refine Jv<|Ju3 [0,1,7,8] (λc F f m=>∃n a,f=(9,vi a)::F/\Stp [] J w n m/\0<=a/\zq ((p0.length:Int)-a)=c/\cntM (iH p0 p1) c a ()=some C) ⟨_,_,⟨J,0,R,Jo3,(by decide),(by simp),N⟩,(KM R)⟩ ?_
 rintro c _ Q ⟨q,a,rfl,d,x,e,h⟩
 rcases c with _|c
 have b:=h;obtain⟨O,h⟩:=exq b
 have k:=dcf e
 refine Jf3 R<|Jq<|Jx2 R k<|Jc1<|Jt<|Jt ?_
 cases h
 have h:=b
 refine Jb1 ?_
 cases h
 exact Jw1 _ ⟨q,R,d.wk R,R⟩ KN
 obtain⟨O,h,b⟩:=BI h;unfold iH at h
 have k:=dct e
 refine Jf3 R<|Jq<|Jw2 R k<|Js<|Jp<|Jq<|Jv<|Jl3 1 R<|Ob h λS y h=>Jd3 R j y U27 Z2 ?_
 have i:=j.stp d
 refine Jc3 R I2 (i.gInt y)<|Jb 2 R<|Jl3 3 R<|Ob h λA h K=>Jk4 [0,1,5,6,7,8,9] 20 A q Q 4 tv ?_ ?_
 revert h
 cases U:decide (S<0)
 refine JF λh=>Jn 4 R ?_
 cases h
 exact Jl4 tv R
 refine JT λh=>Jn 4 R ?_
 cases h
 exact Jl4 tv R
 rintro _ E _ ⟨rfl,o,g⟩
 have h:=K
 refine Jn 1 R<|Ob h λB h L=>Jk4 [0,1,7,8,9] 33 B o E 12 tv ?_ ?_
 revert h
 cases V:A
 refine JF λh=>Jn 3 R<|Ob h λP h M=>Jk4 [0,1,7,8,9,21,22,23,24] 32 P o E 8 tv ?_ ?_
 revert h
 cases W:decide (0<a)
 refine JF λh=>Jn 5 R<|Je4 R<|Jn 2 R ?_
 cases h
 exact Jl4 tv R
 refine JT λh=>Jn 4 R<|Ob h λab z h=>Jd3 R i z U27 Z2<|Jc3 R I2 ((i.stp g).gInt z)<|Jn 2 R ?_
 cases h
 exact Jl4 tv R
 rintro _ Y _ ⟨rfl,T,H⟩
 have h:=M
 refine Jn 1 R ?_
 cases h
 exact Jv1 _ tv ⟨R,_,H.wk R⟩<|KM R
 refine JT λh=>Jn 8 R<|Je4 R<|Jn 3 R ?_
 cases h
 exact Jl4 tv R
 rintro _ Z _ ⟨rfl,p,s⟩
 have h:=L
 refine Jd ?_
 revert h
 cases X:B
 refine JF λh=>Jy R<|Js<|Jz<|Jp<|Jg3 R<|wr2 x e j.len_le ▸ ?_
 cases h
 exact Ja2 ⟨p,a+1,R,(T3 d g s).wk R,nxz x,nxm e,b⟩ R
 refine JT λh=>Jx R<|Jf3 R<|Ju<|Ja1<|Jw<|Jw ?_
 cases h
 obtain rfl:=zt b
 have h:=yL v
 refine Ja1<|Jr2<|Jw<|Jb2 (l:=[.tmp 4]) results102 (Jq2 R R) R ?_
 cases h
 exact⟨p,R,(u.stp<|T3 d g s)⟩
 rintro _ aa ⟨G,rfl,I,rfl⟩
 have h:=yI v
 refine Jp<|Jf3 R<|Ju<|Jb2 (l:=[.tmp 4]) results102 (Jq2 R R) R ?_
 cases h
 exact⟨G,R,(u.stp I)⟩
theorem kG {p0 p1 : Int} (gGT : Tb prog "internal/strconv.uint64pow10" .u64 Lib.pow10Tab J w) {r : ByteArray} (h : ga p0 p1 = some r) : Ret prog 103 [vi p0, vi p1] w (fun v w' => ∃ (κ' : Col), v = .string r ∧ Ent J w κ' w') := xl Tryz.strconv_FormatInt_10 gGT h
theorem eT {A B x y}{p0:Arena}(ae:Rd Ri J w 0 A B p0.Owner) (af:Rd Rs J w 0 x y p0.Next){r:VI}(h:fC p0=some r):Ret prog 170 [.agg #[.slice A p0.Owner.length B,.slice x p0.Next.length y]] w (Pvs E6 2 J w r):=by
 unfold fC at h
 refine Jp3 J func170 R ntmps170 R λV=>Jj3<|Jx3 J 2 R λad ag K O U=>Tv<|Jb 1 R<|Jj3<|Je3 R U30 R Z27<|Jc3 R I27 (U.ld 0 R R)<|Js3 R U27 R R<|Ob h λf ab h=>Jl1 (J:=K) (E:=E6) (z:=(0:Int)) 3 R R R R R R R Y27 aR R R R R R (λ_ _ _=>R) (Jv2 ab) λo t G m P C=>Tv<|Jb 1 R<|Jq<|Jl3 1 R<|Js3 R U27 R R<|Jb 1 R<|Ob h λF Z W=>?_
 clear h
 refine Jt3 [3] (λb n e=>∃g,∃k:VI,n=b/\Stp [3] m G g e/\Oc E6 2 g e 3 o t k/\f.length=k.length/\F=zw k) ?_ ?_
 refine Jv<|Ju3 [3,10] (λc b n e=>∃g a,∃d:VI,n=(11,vi a)::b/\Stp [3] m G g e/\Oc E6 2 g e 3 o t d/\f.length=d.length/\0<=a/\zq ((f.length:Int)-a)=c/\cntM jd c a d=some F) ⟨_,_,⟨m,0,f,R,Jo3,C,R,(by decide),(by simp),Z⟩,(KM R)⟩ ?_
 rintro c _ ai ⟨u,a,d,rfl,v,p,s,D,i,h⟩
 rcases c with _|c
 have j:=h;obtain⟨ac,h⟩:=exq j
 have q:=dcf i
 refine Jf3 R<|Jq<|Jx2 R q<|Jc1<|Jt<|Jt ?_
 cases h
 have h:=j
 refine Jb1 ?_
 cases h
 exact Jw1 _ ⟨u,d,R,v.wk R,p,s,R⟩<|KM R
 obtain⟨ac,h,j⟩:=BI h;unfold jd at h
 have q:=dct i
 refine Jf3 R<|Jq<|Jw2 R q<|Js<|Jp<|Jq<|Jv<|Jf3 R<|Jm3 2 R<|Ob h λak aa h=>Jf R (Jg2 p.rdc aa U27 Z2 R R s R)<|Ob h λH E h=>Jk1 (J:=u) (E:=E6) 3 [] R R R R R R R R Z2 R R R R p E λaj L N T=>Tv<|?_
 have Y:f.length=H.length:=s.trans (Ju2 E).2.2.2.symm
 refine Jo<|Jz<|Jp<|Jg3 R<|wr2 D i C.len_le ▸ ?_
 cases h
 exact Ja2 ⟨L,a+1,H,R,(v.tr N).wk R,T,Y,nxz D,nxm i,j⟩ R
 rintro _ ah ⟨I,k,rfl,M,S,X,rfl⟩
 have h:=yI W
 refine Jp<|Jf3 R<|Ju<|Jb2 (l:=[.tmp 2]) results170 (Jq2 R R) R ?_
 cases h
 exact⟨(λQ=>ren [(3,2)]<|I Q),o,t,(by simp only[X]),((V.stp<|T3 O P M).map (ren [(3,2)]) R R),(S.map (ren [(3,2)]) R R)⟩
theorem pB {a b c d}{p0:Arena}(k:Rd Ri J w 0 a b p0.Owner) (m:Rd Rs J w 0 c d p0.Next){r:Int}(h:lB p0=some r):Ret prog 194 [.agg #[.slice a p0.Owner.length b,.slice c p0.Next.length d]] w (Pvi J w r):=by
 unfold lB at h
 refine Jp3 J func194 R ntmps194 R λi=>Jj3<|Jx3 J 2 R λj n e f g=>Tv<|Jb 1 R<|Jj3<|Je3 R U30 R Z27<|Jc3 R I27 (g.ld 0 R R)<|Js3 R U27 R R<|Jb 1 R<|Ju<|Jb2 (l:=[.tmp 2]) results194 (Jq2 R R) R ?_
 cases h
 exact⟨e,R,(i.stp f)⟩
theorem ss {p0:Int}  {r:VI}(h:nJ p0=some r):Ret prog 193 [vi p0] w (Pvs E6 2 J w r):=by
 unfold nJ at h
 refine Jp3 J func193 R ntmps193 R λz=>Jf3 R<|Jq<|Jl3 3 R<|Ob h λB h V=>Jk4 [0] 10 B J w 3 tv ?_ ?_
 revert h
 cases af:decide (p0<0)
 refine JF λh=>Jn 3 R ?_
 cases h
 exact Jl4 tv R
 refine JT λh=>Jn 3 R ?_
 cases h
 exact Jl4 tv R
 rintro _ al _ ⟨rfl,t,x⟩
 have h:=V
 refine Jd ?_
 revert h
 cases ag:B
 refine JF λh=>Jy R<|Js<|Jp<|Jj3<|Jc4 t E6 2 R Y27 aR R λN O D o I Q=>Tv<|Jb 1 R<|Jq<|Jf3 R<|Ob h λ_ Z h=>?_
 have X:=ku Z
 refine Ob h λC Y W=>?_
 clear h
 refine Jx1 (λp d=>∃e,∃n:VI,∃g f,p=[(3,.slice g n.length f)]/\Stp [2] o D e d/\Oc E6 2 e d 2 g f n/\C=zw n) ?_ ?_
 refine Jv<|Ju3 [0] (λb E p d=>∃e a,∃c:VI,∃j i,p=(3,.slice j c.length i)::(4,vi a)::E/\Stp [2] o D e d/\Oc E6 2 e d 2 j i c/\0<=a/\zq (p0-a)=b/\cntM iC b a c=some C) ⟨_,_,⟨o,0,([]:VI),N,O,R,Jo3,Q,(by decide),(by simp),Y⟩,(KM R)⟩ ?_
 rintro b _ ai ⟨s,a,c,j,i,rfl,u,y,A,k,h⟩
 rcases b with _|b
 have m:=h;obtain⟨ab,h⟩:=exq m
 have q:=dcf k
 refine Jq<|Jf3 R<|Jx2 R q<|Jc1<|Jt<|Jt ?_
 cases h
 have h:=m
 refine Jb1 ?_
 cases h
 exact Jw1 _ ⟨s,c,j,i,R,u.wk R,y,R⟩<|KM R
 obtain⟨ab,h,m⟩:=BI h;unfold iC at h
 have q:=dct k
 refine Jq<|Jf3 R<|Jw2 R q<|Js<|Jp<|Jq<|Jv<|Jm3 2 R<|Ji4 s 3 [a] R Y27 aR R λad ae aj G v T=>Tv<|Ob h λac aa h=>Jd4 G E6 2 [] R Y27 aR R (y.stp v) (zu (bo _) T.rdc) aV aa R λP M ak H L U=>Tv<|Jc 1 R<|Jz<|Jp<|Jg3 R<|wr2 A k X ▸ ?_
 cases h
 exact Ja2 ⟨H,a+1,ac,P,M,R,(T3 u v L).wk R,U,nxz A,nxm k,m⟩ R
 rintro _ ah ⟨F,n,g,f,rfl,K,S,rfl⟩
 have h:=yI W
 refine Jp<|Jf3 R<|Ju<|Jb2 (l:=[.tmp 2]) results193 (Jq2 R R) R ?_
 cases h
 exact⟨F,g,f,R,(z.stp<|T3 x I K),S⟩
 refine JT λh=>Jx R<|Jf3 R<|Ju<|Jw<|Jb2 (l:=[.tmp 2]) results193 (Jq2 R R) R ?_
 cases h
 exact⟨t,none,0,R,(z.stp x),Ow.nil⟩
theorem pa {H I F G}{p0:Answer}{p1:Int}(A:Rd Ri J w 0 H I p0.Won) (au:Rd Ri J w 0 F G p0.Plan){r:VI}(h:iE p0 p1=some r):Ret prog 206 [.agg #[.slice H p0.Won.length I,.slice F p0.Plan.length G],vi p1] w (Pvs E6 2 J w r):=by
 unfold iE at h
 refine Jp3 J func206 R ntmps206 R λL=>Jj3<|Jx3 J 2 R λar ax D x K=>Tv<|Jb 1 R<|Jq<|Jj3<|Je3 R U36 R Z27<|Jc3 R I27 (K.ld 0 R R)<|Js3 R U27 R R<|Jb 1 R ?_
 revert h
 cases aw:decide (256<(p0.Won.length:Int))
 refine JF λh=>Jy R<|Js<|Jp<|Jj3<|Jc4 D E6 3 R Y27 aR R λab Y P u y ad=>Tv<|Jb 1 R<|Jq<|Jj3<|Je3 R U36 R Z27<|Jc3 R I27 ((K.stp y).ld 0 R R)<|Js3 R U27 R R<|Jb 1 R<|Ob h λO ak ai=>?_
 clear h
 refine Jx1 (λd a=>∃b,∃s:VI,∃o m,d=[(5,.slice o s.length m)]/\Stp [3] u P b a/\Oc E6 2 b a 3 o m s/\O=zw s) ?_ ?_
 refine Jv<|Ju3 [1,14,15] (λg t d a=>∃b c,∃i:VI,∃e f,d=(5,.slice e i.length f)::(16,vi c)::t/\Stp [3] u P b a/\Oc E6 2 b a 3 e f i/\0<=c/\zq ((p0.Won.length:Int)-c)=g/\cntM (ei p0 p1) g c i=some O) ⟨_,_,⟨u,0,([]:VI),ab,Y,R,Jo3,ad,(by decide),(by simp),ak⟩,(KM R)⟩ ?_
 rintro g _ an ⟨j,c,i,e,f,rfl,v,z,M,p,h⟩
 rcases g with _|g
 have q:=h;obtain⟨am,h⟩:=exq q
 have B:=dcf p
 refine Jf3 R<|Jq<|Jx2 R B<|Jc1<|Jt<|Jt ?_
 cases h
 have h:=q
 refine Jb1 ?_
 cases h
 exact Jw1 _ ⟨j,i,e,f,R,v.wk R,z,R⟩<|KM R
 obtain⟨am,h,q⟩:=BI h;unfold ei at h
 have B:=dct p
 refine Jf3 R<|Jq<|Jw2 R B<|Js<|Jp<|Jq<|Jv<|Jl3 1 R<|Ob h λao N h=>Jd3 R A N U27 Z2<|Jc3 R I2 ((A.stp<|T3 x y v).gInt N)<|Jb 2 R<|Jf3 R<|Ob h λC h aj=>Jt3 [1,14,15,16] (λt d a=>∃b k n,d=(5,.slice k C.length n)::t/\Stp [3] j an b a/\Oc E6 2 b a 3 k n C) ?_ ?_
 revert h
 cases av:(ao==p1)
 refine JF λh=>Jy R<|Js ?_
 cases h
 exact Jw1 _ ⟨j,e,f,R,Jo3,z⟩<|KM R
 refine JT λh=>Jx R<|Jm3 2 R<|Ji4 j 4 [c] R Y27 aR R λaq ap aA T E ag=>Tv<|Ob h λaC al h=>Jd4 T E6 3 [] R Y27 aR R (z.stp E) (zu (bo _) ag.rdc) aV al R λZ aa aB U X ah=>Tv<|Jc 1 R ?_
 cases h
 exact Jw1 _ ⟨U,Z,aa,R,(E.tr X).wk R,ah⟩<|KM R
 rintro _ az ⟨S,k,n,rfl,W,af⟩
 have h:=aj
 refine Jz<|Jp<|Jg3 R<|wr2 M p A.len_le ▸ ?_
 cases h
 exact Ja2 ⟨S,c+1,C,k,n,R,(v.tr W).wk R,af,nxz M,nxm p,q⟩ R
 rintro _ ay ⟨Q,s,o,m,rfl,V,ae,rfl⟩
 have h:=yI ai
 refine Jp<|Jf3 R<|Ju<|Jb2 (l:=[.tmp 4]) results206 (Jq2 R R) R ?_
 cases h
 exact⟨(λac=>ren [(3,2)]<|Q ac),o,m,R,((L.stp<|T3 x y V).map (ren [(3,2)]) R R),(ae.map (ren [(3,2)]) R R)⟩
 refine JT λh=>Jx R<|Jf3 R<|Ju<|Jw<|Jb2 (l:=[.tmp 4]) results206 (Jq2 R R) R ?_
 cases h
 exact⟨D,none,0,R,(L.stp x),Ow.nil⟩
theorem ob {A F}{p0:VV}(t:Rd Rs J w 0 A F p0){r:VV}(h:ja p0=some r):Ret prog 220 [.slice A p0.length F] w (Pvs (zp E6 2) 27 J w r):=by
 unfold ja at h
 refine Jp3 J func220 R ntmps220 R λae=>Jf3 R<|Jj3<|Jc4 J (zp E6 2) 2 R Y28 br R λS al G o y ad=>Tv<|Jb 1 R<|Jq<|Jl3 1 R<|Js3 R U28 R R<|Jb 1 R<|Ob h λE ah af=>?_
 clear h
 refine Jx1 (λp d=>∃e,∃n:VV,∃g f,p=[(3,.slice g n.length f)]/\Stp [2,3,4] o G e d/\Oc (zp E6 2) 27 e d 2 g f n/\E=zw n) ?_ ?_
 refine Jv<|Ju3 [7,8] (λb I p d=>∃e a,∃c:VV,∃j i,p=(3,.slice j c.length i)::(9,vi a)::I/\Stp [2,3,4] o G e d/\Oc (zp E6 2) 27 e d 2 j i c/\0<=a/\zq ((p0.length:Int)-a)=b/\cntM (dK p0) b a c=some E) ⟨_,_,⟨o,0,([]:VV),S,al,R,Jo3,ad,(by decide),(by simp),ah⟩,(KM R)⟩ ?_
 rintro b _ av ⟨v,a,c,j,i,rfl,q,B,C,k,h⟩
 rcases b with _|b
 have m:=h;obtain⟨ak,h⟩:=exq m
 have u:=dcf k
 refine Jf3 R<|Jq<|Jx2 R u<|Jc1<|Jt<|Jt ?_
 cases h
 have h:=m
 refine Jb1 ?_
 cases h
 exact Jw1 _ ⟨v,c,j,i,R,q.wk R,B,R⟩<|KM R
 obtain⟨ak,h,m⟩:=BI h;unfold dK at h
 have u:=dct k
 refine Jf3 R<|Jq<|Jw2 R u<|Js<|Jp<|Jq<|Jv<|Jj3<|Ob h λaB D h=>Jd3 R t D U28 Z27 ?_
 obtain⟨ar,au,Y,ag⟩:=(t.stp (y.tr q)).gSl D
 refine Jc3 R I27 ag<|Jb 1 R<|Jm3 1 R<|Jc4 v E6 3 R Y27 aR R λan ao aw K s Z=>Tv<|Jn 1 R<|Ob h λH ai h=>Jd4 K E6 3 [] R Y27 aR R Z (zu (bo _)<|Y.stp s) aV ai R λT V ax L x aa=>Tv<|Jb4 L (zp E6 2) 4 [3] (parts:=[(0,.tmp 16)]) (cells:=[.slice T H.length V]) (xs:=([H]:VV)) R Y28 br R (Jj4 ⟨_,_,R,aa⟩) λap aq ay M z ab=>Tv<|Ob h λam aj h=>Jd4 M (zp E6 2) 2 [4] R Y28 br R (B.stp<|T3 s x z) ab.src (lJ R) aj R λW U az N Q ac=>Tv<|Jc 1 R<|Jz<|Jp<|Jg3 R<|wr2 C k t.len_le ▸ ?_
 cases h
 exact Ja2 ⟨N,a+1,am,W,U,R,(T5 q s x z Q).wk R,ac,nxz C,nxm k,m⟩ R
 rintro _ aA ⟨O,n,g,f,rfl,P,X,rfl⟩
 have h:=yI af
 refine Jp<|Jf3 R<|Ju<|Jb2 (l:=[.tmp 2]) results220 (Jq2 R R) R ?_
 cases h
 exact⟨O,g,f,R,(ae.stp<|y.tr P),X⟩
theorem iY {a c}{p0:VI}(f:Oc E6 2 J w 2 a c p0){r:VI}(h:cj p0=some r):Ret prog 162 [.slice a p0.length c] w (Pvs E6 2 J w r):=by
  unfold cj at h
  split at h
  .rename_i b
   cases h
   exact sk (λd k e l w g j i=>Tryz.slices_Compact_int d k e l w g j i) f b.1 b.2
  .cases h
theorem cX {p0:Int}  {r:Bool}(h:bW p0=some r):Ret prog 261 [vi p0] w (Pvb J w r):=by
 unfold bW at h
 refine Jp3 J func261 R ntmps261 R λa=>Jf3 R<|Jf3 R<|Ju<|Jb2 (l:=[.tmp 2]) results261 (Jq2 R R) R ?_
 cases h
 exact⟨J,R,a⟩
theorem ph {j d f i e g}{p0:Parity}(H:Rd Ri J w 0 j d p0.Arena.Owner) (I:Rd Rs J w 0 f i p0.Arena.Next) (K:Rd Ri J w 0 e g p0.Prio){r:asker}(h:jS p0=some r):Ret prog 215 [.agg #[.slice j p0.Arena.Owner.length d,.slice f p0.Arena.Next.length i,.slice e p0.Prio.length g]] w (λM a=>∃(b:Col) (n:Option Addr) (t:Nat) (o:Option Addr) (u:Nat) (p:Option Addr) (v:Nat) (s:Nat) (q:Nat),M= .pointer (some ⟨q,0,none⟩)/\Ent J w b a/\Rd Ri b a 0 n t r.game.Arena.Owner/\Rd Rs b a 0 o u r.game.Arena.Next/\Rd Ri b a 0 p v r.game.Prio/\Mz kwquery kvquery b a 5 s r.known/\(Bc b a 6 q 292 [.slice n r.game.Arena.Owner.length t,.slice o r.game.Arena.Next.length u,.slice p r.game.Prio.length v,.map (some s)])):=by
 unfold jS at h
 refine Jp3 J func215 R ntmps215 R λL=>Jj3<|Jx3 J 2 R λN O y A F=>Tv<|Jb 1 R<|Jj3<|Jg4 tv R (Jh4 (haE F.cells) I32 Z32 R)<|WO.mkmap (J:=y) 3 R R R R R kwquery kvquery vfS λm Q z B G=>Tv<|Jf R (Jn4 [.slice j p0.Arena.Owner.length d,.slice f p0.Arena.Next.length i,.slice e p0.Prio.length g,.map (some m)] R)<|Jx3 z 4 R λD P x k E=>Tv<|Jb 1 R<|Ju<|Jb2 (l:=[.tmp 2]) results215 (Jq2 R R) R ?_
 cases h
 have c:=(T3 A B k)
 exact⟨(λC=>ren [(3,5),(4,6)]<|x C),j,d,f,i,e,g,m,D,R,((L.stp c).map (ren [(3,5),(4,6)]) R R),((H.stp c).map (ren [(3,5),(4,6)]) R R),((I.stp c).map (ren [(3,5),(4,6)]) R R),((K.stp c).map (ren [(3,5),(4,6)]) R R),(((Mz.new G).stp k).map (ren [(3,5),(4,6)]) R R),(E.map (ren [(3,5),(4,6)]) R R)⟩
theorem fd {n u}{p0:VI}{p1:Int}(i:Rd Ri J w 0 n u p0){r:Int}(h:bR p0 p1=some r):Ret prog 111 [.slice n p0.length u,vi p1] w (Pvi J w r):=by
 unfold bR at h
 refine Jp3 J func111 R ntmps111 R λo=>Jf3 R<|Jq<|Jl3 1 R<|Js3 R U27 R R<|Jb 1 R<|Ob h λt z p=>?_
 clear h
 refine Jx1 (λg k=>∃m,g=[]/\Stp [] J w m k/\t=zw ()) ?_ ?_
 refine Jv<|Ju3 [0,1,7] (λc v g k=>∃m a,g=(8,vi a)::v/\Stp [] J w m k/\0<=a/\zq ((p0.length:Int)-a)=c/\cntM (bT p0 p1) c a ()=some t) ⟨_,_,⟨J,0,R,Jo3,(by decide),(by simp),z⟩,(KM R)⟩ ?_
 rintro c _ E ⟨f,a,rfl,d,q,e,h⟩
 rcases c with _|c
 have b:=h;obtain⟨A,h⟩:=exq b
 have j:=dcf e
 refine Jf3 R<|Jq<|Jx2 R j<|Jc1<|Jt<|Jt ?_
 cases h
 have h:=b
 refine Jb1 ?_
 cases h
 exact Jw1 _ ⟨f,R,d.wk R,R⟩ KN
 obtain⟨A,h,b⟩:=BI h;unfold bT at h
 have j:=dct e
 refine Jf3 R<|Jq<|Jw2 R j<|Js<|Jp<|Jq<|Jv<|Jf3 R<|Jl3 3 R<|Ob h λB s h=>Jd3 R i s U27 Z2<|Jc3 R I2 ((i.stp d).gInt s)<|Jb 1 R ?_
 revert h
 cases C:(p1==B)
 refine JF λh=>Jy R<|Js<|Jz<|Jp<|Jg3 R<|wr2 q e i.len_le ▸ ?_
 cases h
 exact Ja2 ⟨f,a+1,R,d.wk R,nxz q,nxm e,b⟩ R
 refine JT λh=>Jx R<|Jf3 R<|Ju<|Ja1<|Jw<|Jw ?_
 cases h
 obtain rfl:=zt b
 have h:=yL p
 refine Ja1<|Jr2<|Jw<|Jb2 (l:=[.tmp 4]) results111 (Jq2 R R) R ?_
 cases h
 exact⟨f,R,(o.stp d)⟩
 rintro _ D ⟨x,rfl,y,rfl⟩
 have h:=yI p
 refine Jp<|Jf3 R<|Ju<|Jb2 (l:=[.tmp 4]) results111 (Jq2 R R) R ?_
 cases h
 exact⟨x,R,(o.stp y)⟩
theorem fb {p z}{p0:VI}{q A}{p1:VI}(j:Rd Ri J w 0 p z p0) (s:Rd Ri J w 0 q A p1){r:Bool}(h:bP p0 p1=some r):Ret prog 128 [.slice p p0.length z,.slice q p1.length A] w (Pvb J w r):=by
 unfold bP at h
 refine Jp3 J func128 R ntmps128 R λk=>Jf3 R<|Jq<|Jl3 1 R<|Js3 R U27 R R<|Jn 1 R<|Js3 R U27 R R<|Jb 1 R ?_
 revert h
 cases I:((p0.length:Int) !=(p1.length:Int))
 refine JF λh=>Jy R<|Js<|Jp<|Jq<|Jl3 1 R<|Js3 R U27 R R<|Jb 1 R<|Ob h λy E t=>?_
 clear h
 refine Jx1 (λi n=>∃o,i=[]/\Stp [] J w o n/\y=zw ()) ?_ ?_
 refine Jv<|Ju3 [0,1,12] (λd B i n=>∃o a,i=(13,vi a)::B/\Stp [] J w o n/\0<=a/\zq ((p0.length:Int)-a)=d/\cntM (bQ p0 p1) d a ()=some y) ⟨_,_,⟨J,0,R,Jo3,(by decide),(by simp),E⟩,(KM R)⟩ ?_
 rintro d _ N ⟨e,a,rfl,b,u,g,h⟩
 rcases d with _|d
 have c:=h;obtain⟨F,h⟩:=exq c
 have m:=dcf g
 refine Jf3 R<|Jq<|Jx2 R m<|Jc1<|Jt<|Jt ?_
 cases h
 have h:=c
 refine Jb1 ?_
 cases h
 exact Jw1 _ ⟨e,R,b.wk R,R⟩ KN
 obtain⟨F,h,c⟩:=BI h;unfold bQ at h
 have m:=dct g
 refine Jf3 R<|Jq<|Jw2 R m<|Js<|Jp<|Jq<|Jv<|Jf3 R<|Jq<|Js1 (J:=e) [0] none [(0,2),(1,2),(2,2),(4,2),(5,2),(6,2),(3,0),(7,0),(8,2)] [] (by kernel_rfl) (by kernel_rfl) λL f=>Jn 2 R<|Ob h λG v h=>Jd3 R j v U27 Z2<|Jn 2 R<|Ob h λH x h=>Jd3 R s x U27 Z2<|Jg R (Jd2 I2 R R<|hvC ((j.stp<|b.tr f).gInt v) R)<|Jg R (Jd2 I2 R R<|hvC ((s.stp<|b.tr f).gInt x) R)<|Jn 1 R<|Jt1<|Jd ?_
 revert h
 cases K:(G !=H)
 refine JF λh=>Jy R<|Js<|Jz<|Jp<|Jg3 R<|wr2 u g j.len_le ▸ ?_
 cases h
 exact Ja2 ⟨e,a+1,R,(b.tr f).wk R,nxz u,nxm g,c⟩ R
 refine JT λh=>Jx R<|Jf3 R<|Ju<|Ja1<|Jw<|Jw ?_
 cases h
 obtain rfl:=zt c
 have h:=yL t
 refine Ja1<|Jr2<|Jw<|Jb2 (l:=[.tmp 4]) results128 (Jq2 R R) R ?_
 cases h
 exact⟨e,R,(k.stp<|b.tr f)⟩
 rintro _ M ⟨C,rfl,D,rfl⟩
 have h:=yI t
 refine Jp<|Jf3 R<|Ju<|Jb2 (l:=[.tmp 4]) results128 (Jq2 R R) R ?_
 cases h
 exact⟨C,R,(k.stp D)⟩
 refine JT λh=>Jx R<|Jf3 R<|Ju<|Jw<|Jb2 (l:=[.tmp 4]) results128 (Jq2 R R) R ?_
 cases h
 exact⟨J,R,k⟩
theorem sD {p0:ByteArray}  {r:(List ByteArray)}(h:mi p0=some r):Ret prog 10 [.string p0] w (Pvs Ep.str 9 J w r):=by
 unfold mi at h
 refine Jp3 J func10 R ntmps10 R λX=>Jf3 R<|Jj3<|Jc4 J Ep.str 2 R Y38 cG R λO ah D v M W=>Tv<|Jb 1 R<|Jf3 R<|Jq<|Jf3 R<|Ob h λ_ ac h=>?_
 have aa:=ku ac
 refine Ob h λC ab Z=>?_
 clear h
 refine Jx1 (λe a=>∃b,∃t:(List ByteArray)×Int,∃p n,e=[(3,.slice p t.1.length n)]/\Stp [2] v D b a/\Oc Ep.str 9 b a 2 p n t.1/\C=zw t) ?_ ?_
 refine Jv<|Ju3 [0] (λi u e a=>∃b d,∃c:(List ByteArray)×Int,∃g f,e=(3,.slice g c.1.length f)::(4,vi c.2)::(5,vi d)::u/\Stp [2] v D b a/\Oc Ep.str 9 b a 2 g f c.1/\0<=d/\zq ((p0.size:Int)-d)=i/\cntM (gj p0) i d c=some C) ⟨_,_,⟨v,0,((([]:List ByteArray):(List ByteArray)),(0:Int)),O,ah,R,Jo3,W,(by decide),(by simp),ab⟩,(KM R)⟩ ?_
 rintro i _ ai ⟨k,d,c,g,f,rfl,z,x,B,q,h⟩
 rcases i with _|i
 have s:=h;obtain⟨ag,h⟩:=exq s
 have y:=dcf q
 refine Jq<|Jl3 2 R<|Jf R (jX U9 R R)<|Jb 1 R<|Jx2 R y<|Jc1<|Jt<|Jt ?_
 cases h
 have h:=s
 refine Jb1 ?_
 cases h
 exact Jw1 _ ⟨k,(c.1,c.2),g,f,R,z.wk R,x,R⟩<|KM R
 obtain⟨ag,h,s⟩:=BI h;unfold gj at h
 have y:=dct q
 refine Jq<|Jl3 2 R<|Jf R (jX U9 R R)<|Jb 1 R<|Jw2 R y<|Js<|Jp<|Jq<|Jv<|Jl3 2 R<|Ob h λaj ad h=>Jf R (iL U9 ad R R R)<|Jb 1 R<|Ob h λj h Y=>Jt3 [0,5] (λu e a=>∃b m o,e=(3,.slice m j.1.length o)::(4,vi j.2)::u/\Stp [2] k ai b a/\Oc Ep.str 9 b a 2 m o j.1) ?_ ?_
 revert h
 cases am:(aj==10)
 refine JF λh=>Jy R<|Js ?_
 cases h
 exact Jw1 _ ⟨k,g,f,R,Jo3,x⟩<|KM R
 refine JT λh=>Jx R<|Jl3 4 R<|Ob h λE ae h=>Jf R (sQ (k1:= .i64) (k2:= .i64) U9 (.inr ⟨_,R,R⟩) (.inr ⟨_,R,R⟩) ae R R)<|Jb4 k Ep.str 3 [] (parts:=[(0,.tmp 21)]) (cells:=[.string E]) (xs:=([E]:List ByteArray)) R Y38 cG R (Jj4 R) λal ak ao G A U=>Tv<|Ob h λar af h=>Jd4 G Ep.str 2 [] R Y38 cG R (x.stp A) (zu sL U.rdc) aV af R λP Q ap H N V=>Tv<|Jb 1 R<|Jg3 R ?_
 cases h
 exact Jw1 _ ⟨H,P,Q,R,(A.tr N).wk R,V⟩<|KM R
 rintro _ an ⟨F,m,o,rfl,L,T⟩
 have h:=Y
 refine Jz<|Jp<|Jg3 R<|wr2 B q aa ▸ ?_
 cases h
 exact Ja2 ⟨F,d+1,(j.1,j.2),m,o,R,(z.tr L).wk R,T,nxz B,nxm q,s⟩ R
 rintro _ aq ⟨I,t,p,n,rfl,K,S,rfl⟩
 have h:=yI Z
 refine Jp<|Jf3 R<|Ju<|Jb2 (l:=[.tmp 2]) results10 (Jq2 R R) R ?_
 cases h
 exact⟨I,p,n,R,(X.stp<|M.tr K),S⟩
end
end Go.Proofs.YtgbippnfaoedmaaGreatDoor
