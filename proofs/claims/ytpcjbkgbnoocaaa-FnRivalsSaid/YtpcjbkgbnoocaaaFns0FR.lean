/- The walks, part 0. By program. -/
import Derived.Test.YtpcjbkgbnoocaaaFnsMFR
import Derived.Test.YtpcjbkgbnoocaaaAlFR
set_option linter.unusedVariables false
set_option linter.unusedSimpArgs false
open Go.IntKind renaming wrap → sh
open Sum renaming inr → vq, inl → vr
open Int renaming toNat → vu
namespace Go.Proofs.Ytpcjbkgbnoocaaa
open Go Go.Wk Go.Proofs
set_option maxRecDepth 100000
set_option maxHeartbeats 1000000
variable {w:World}{κ:Col}
theorem tg {a0 u0}{p0:(List Int)}(g0:Rd (Rp.int .u8) κ w 0 a0 u0 p0){r:Bool}(h:rF p0=some r):Ret Try.prog 4 [.slice a0 p0.length u0] w (Pvb κ w r):=by
 unfold rF at h
 refine Jk3 κ F4 R N4 R λhE=>Je3 R<|Jg3 [2,2,2,2] 1 R<|Jn3 R U22 R R<|Jb 2 R<|Ju<|Ja2 (l:=[.tmp 2]) V4 (Jp2 R R) R ?_
 cases h
 exact⟨κ,R,hE⟩
theorem rf {a0 u0}{p0:(List Int)}(g0:Rd (Rp.int .u8) κ w 0 a0 u0 p0){r:l1Cur}(h:ms p0=some r):Ret Try.prog 14 [.slice a0 p0.length u0] w (λv w'=>∃(κ':Col) (ra0:Option Addr) (ru0:Nat) (rb1:Nat),v= .pointer (some ⟨rb1,0,none⟩)/\Ent κ w κ' w'/\Rd (Rp.int .u8) κ' w' 0 ra0 ru0 r.b/\(Bc κ' w' 3 rb1 56 [.slice ra0 r.b.length ru0,vi r.i,vi r.h])):=by
 unfold ms at h
 refine Jk3 κ F14 R N14 R λhE=>Je3 R<|Jg3 [2,2,2,2] 1 R<|Jn3 R U22 R R<|Jb 2 R<|Jq<|Je3 R ?_
 have hN1:(p0.length:Int)<=9223372036854775807:=g0.len_le
 refine Ob h λq2 hq3 hK2=>?_
 clear h
 refine Jx1 (λL w'=>∃κ' s3,L=[(0,.slice a0 p0.length u0),(3,vi s3)]/\Stp [] κ w κ' w'/\q2=vq s3) ?_ ?_
 refine Jv<|Jy1 (λk L w'=>∃κ' v4 s1,L=[(0,.slice a0 p0.length u0),(3,vi s1),(4,vi v4)]/\Stp [] κ w κ' w'/\0<=v4/\vu ((p0.length:Int)-v4)=k/\cntM (i9 p0) k v4 s1=some q2) ⟨_,_,⟨κ,0,((IntKind.i64.wrap (560017+(p0.length:Int))):Int),R,Jj3,(by decide),(by simp),hq3⟩,(KM R)⟩ ?_
 rintro k _ w7 ⟨K8,v4,s1,rfl,S9,hj1,hJ1,h⟩
 rcases k with _ | k
 have hk10:=h;obtain⟨o1,h⟩:=cc (vq (vr s1):l1Cur⊕((Int)⊕(Int)))
 have hc1:decide (v4<(p0.length:Int))=false:=Jo2 (by omega)
 refine Jq<|Jg3 [2,2,2,2] 2 R<|Jn3 R U22 R R<|Jb 1 R<|Jw2 R hc1<|Jc1<|Jt<|Jt ?_
 cases h
 have h:=hk10
 refine Jb1 ?_
 cases h
 exact Jw1 _ ⟨K8,s1,R,S9.wk R,R⟩<|KM R
 obtain⟨o1,h,hk10⟩:=BI h;unfold i9 at h
 have hc1:decide (v4<(p0.length:Int))=true:=Jn2 (by omega)
 refine Jq<|Jg3 [2,2,2,2] 2 R<|Jn3 R U22 R R<|Jb 1 R<|Jv2 R hc1<|Js<|Jp<|Jq<|Jv<|Jh3 [2,2,2,2,2,1,2,2,2,2,2] 4 R<|Ob h λx18 hx18 h=>Jc3 R g0 hx18 U22 Z5<|Jb3 R I5 ((g0.stp S9 R R).gInt hx18)<|Jf R (Jh2 U5 U2 R R)<|Jc 4 R<|Jz<|Jp<|Jf3 R ?_
 have hw1:sh .i64 (v4+1)=v4+1:=wr1 hj1 (Jm2 hc1) hN1
 rw[hw1]
 have hc1:=Jm2 hc1
 cases h
 exact Jz1 λa ha=>⟨k,_,Ja3 _,⟨K8,v4+1,((IntKind.i64.wrap<|BitVec.toNat<|BitVec.ofInt (IntKind.bits IntKind.i64) (IntKind.i64.wrap ((IntKind.i64.wrap ((IntKind.i64.wrap<|s1 * 313)+(IntKind.i64.wrap x18)))+11)) &&& BitVec.ofInt (IntKind.bits IntKind.i64) 1073741823):Int),R,S9.wk R,by omega,by omega,hk10⟩,(ha.mm R)⟩
 rintro _ w4 ⟨K5,s3,rfl,S6,rfl⟩
 have h:=yI hK2
 refine Jp<|Jg3 [2,2,2,1,2] 2 R<|Jf R (bF (parts:=[(0,.tmp 24),(2,.tmp 25)]) (cells:=[.slice a0 p0.length u0,vi 0,vi s3]) R R (by kernel_rfl))<|Jf1 (κ:=K5) 2 R R R R R R R λb27 w12 K13 S14 f15=>Tv<|Jb 1 R<|Ju<|Ja2 (l:=[.tmp 2]) V14 (Jp2 R R) R ?_
 cases h
 exact⟨(λb=>ren [(2,3)]<|K13 b),a0,u0,b27,R,((hE.stp (S6.tr S14) R R).map (ren [(2,3)]) R R),((g0.stp (S6.tr S14) R R).map (ren [(2,3)]) R R),(f15.map (ren [(2,3)]) R R)⟩
theorem n5 {p0:Int}{p1:Int}  {r:Int}(h:jf p0 p1=some r):Ret Try.prog 34 [vi p0,vi p1] w (Pvi κ w r):=by
 unfold jf at h
 refine Jk3 κ F34 R N34 R λhE=>Je3 R<|Jq<|Je3 R ?_
 revert h
 cases ht1:decide (p0<p1)
 refine JF λh=>Jy R<|Js<|Jp<|Je3 R<|Ju<|Ja2 (l:=[.tmp 4]) V34 (Jp2 R R) R ?_
 cases h
 exact⟨κ,R,hE⟩
 refine JT λh=>Jx R<|Je3 R<|Ju<|Jw<|Ja2 (l:=[.tmp 4]) V34 (Jp2 R R) R ?_
 cases h
 exact⟨κ,R,hE⟩
theorem nE {p0:Int}  {r:Int}(h:g8 p0=some r):Ret Try.prog 74 [vi p0] w (Pvi κ w r):=by
 unfold g8 at h
 refine Jk3 κ F74 R N74 R λhE=>Je3 R<|Jq<|Je3 R<|Jv<|Je3 R ?_
 revert h
 cases ht1:(p0==2)
 refine JF λh=>Jy R<|Je3 R ?_
 revert h
 cases ht2:(p0==7)
 refine JF λh=>Jy R<|Js<|Jz<|Jp<|Je3 R<|Ju<|Ja2 (l:=[.tmp 2]) V74 (Jp2 R R) R ?_
 cases h
 exact⟨κ,R,hE⟩
 refine JT λh=>Jx R<|Je3 R<|Ju<|Ja1<|Jw<|Ja2 (l:=[.tmp 2]) V74 (Jp2 R R) R ?_
 cases h
 exact⟨κ,R,hE⟩
 refine JT λh=>Jx R<|Je3 R<|Ju<|Ja1<|Jw<|Ja2 (l:=[.tmp 2]) V74 (Jp2 R R) R ?_
 cases h
 exact⟨κ,R,hE⟩
theorem kn {a0 u0}{p0:(List Int)}{p1:Int}(g0:Rd (Rp.int .i64) κ w 0 a0 u0 p0){r:Bool}(h:jq p0 p1=some r):Ret Try.prog 89 [.slice a0 p0.length u0,vi p1] w (Pvb κ w r):=by
 unfold jq at h
 refine Jk3 κ F89 R N89 R λhE=>Je3 R<|Jq<|Je3 R ?_
 have hN1:(p0.length:Int)<=9223372036854775807:=g0.len_le
 refine Ob h λq2 hq3 hK2=>?_
 clear h
 refine Jx1 (λL w'=>∃κ',L=[]/\Stp [] κ w κ' w'/\q2=vq ()) ?_ ?_
 refine Jv<|Jy1 (λk L w'=>∃κ' v5,L=[(0,.slice a0 p0.length u0),(1,vi p1),(5,vi v5)]/\Stp [] κ w κ' w'/\0<=v5/\vu ((p0.length:Int)-v5)=k/\cntM (je p0 p1) k v5 ()=some q2) ⟨_,_,⟨κ,0,R,Jj3,(by decide),(by simp),hq3⟩,(KM R)⟩ ?_
 rintro k _ w7 ⟨K8,v5,rfl,S9,hj1,hJ1,h⟩
 rcases k with _ | k
 have hk10:=h;obtain⟨o1,h⟩:=cc (vq (vr ()):Bool⊕((Unit)⊕(Unit)))
 have hc1:decide (v5<(p0.length:Int))=false:=Jo2 (by omega)
 refine Jq<|Jg3 [2,2,2,2] 2 R<|Jn3 R U26 R R<|Jb 1 R<|Jw2 R hc1<|Jc1<|Jt<|Jt ?_
 cases h
 have h:=hk10
 refine Jb1 ?_
 cases h
 exact Jw1 _ ⟨K8,R,S9.wk R,R⟩ KN
 obtain⟨o1,h,hk10⟩:=BI h;unfold je at h
 have hc1:decide (v5<(p0.length:Int))=true:=Jn2 (by omega)
 refine Jq<|Jg3 [2,2,2,2] 2 R<|Jn3 R U26 R R<|Jb 1 R<|Jv2 R hc1<|Js<|Jp<|Jq<|Jv<|Jg3 [2,2,2,1,2,2] 2 R<|Ob h λx14 hx14 h=>Jc3 R g0 hx14 U26 Z2<|Jb3 R I2 ((g0.stp S9 R R).gInt hx14)<|Jb 2 R ?_
 revert h
 cases ht12:(x14==p1)
 refine JF λh=>Jy R<|Js<|Jz<|Jp<|Jf3 R ?_
 have hw1:sh .i64 (v5+1)=v5+1:=wr1 hj1 (Jm2 hc1) hN1
 rw[hw1]
 have hc1:=Jm2 hc1
 cases h
 exact Jz1 λa ha=>⟨k,_,Ja3 _,⟨K8,v5+1,R,S9.wk R,by omega,by omega,hk10⟩,(ha.mm R)⟩
 refine JT λh=>Jx R<|Je3 R<|Ju<|Ja1<|Jw<|Jw ?_
 cases h
 obtain rfl:=Option.some.inj hk10
 have h:=yL hK2
 refine Ja1<|Jq2<|Jw<|Ja2 (l:=[.tmp 4]) V89 (Jp2 R R) R ?_
 cases h
 exact⟨K8,R,(hE.stp S9 R R)⟩
 rintro _ w4 ⟨K5,rfl,S6,rfl⟩
 have h:=yI hK2
 refine Jp<|Je3 R<|Ju<|Ja2 (l:=[.tmp 4]) V89 (Jp2 R R) R ?_
 cases h
 exact⟨K5,R,(hE.stp S6 R R)⟩
theorem df {a0 u0}{p0:(List Int)}(g0:Rd (Rp.int .i64) κ w 0 a0 u0 p0){r:(List Int)}(h:de p0=some r):Ret Try.prog 59 [.slice a0 p0.length u0] w (Pvs E6 2 κ w r):=by
 unfold de at h
 refine Jk3 κ F59 R N59 R λhE=>Je3 R<|Je [1,2,1,2] R<|Jo1 (κ:=κ) (E:=E6) 2 R R R R R Y26 a8 R λa3 u3 w1 K2 S3 f4=>Tv<|Jn 1 R<|Ob h λx5 hx5 h=>Jm1 (κ:=K2) (E:=E6) 2 [] R R R R R R R R R Y26 a8 R R R R f4 (Sl.srcP (cb _)<|g0.stp S3 R R) bJ hx5 R λa5 u5 w6 K7 S8 f9=>Tv<|Jb 1 R<|Ju<|Ja2 (l:=[.tmp 2]) V59 (Jp2 R R) R ?_
 cases h
 exact⟨K7,a5,u5,R,(hE.stp (S3.tr S8) R R),f9⟩
theorem pp {a0 u0}{p0:(List Int)}{p1:Int}(g0:Rd (Rp.int .i64) κ w 0 a0 u0 p0){r:Bool}(h:mU p0 p1=some r):Ret Try.prog 100 [.slice a0 p0.length u0,vi p1] w (Pvb κ w r):=by
 unfold mU at h
 refine Jk3 κ F100 R N100 R λhE=>Je3 R<|Jq<|Je3 R ?_
 have hN1:(p0.length:Int)<=9223372036854775807:=g0.len_le
 refine Ob h λq2 hq3 hK2=>?_
 clear h
 refine Jx1 (λL w'=>∃κ',L=[]/\Stp [] κ w κ' w'/\q2=vq ()) ?_ ?_
 refine Jv<|Jy1 (λk L w'=>∃κ' v5,L=[(0,.slice a0 p0.length u0),(1,vi p1),(5,vi v5)]/\Stp [] κ w κ' w'/\0<=v5/\vu ((p0.length:Int)-v5)=k/\cntM (jZ p0 p1) k v5 ()=some q2) ⟨_,_,⟨κ,0,R,Jj3,(by decide),(by simp),hq3⟩,(KM R)⟩ ?_
 rintro k _ w7 ⟨K8,v5,rfl,S9,hj1,hJ1,h⟩
 rcases k with _ | k
 have hk10:=h;obtain⟨o1,h⟩:=cc (vq (vr ()):Bool⊕((Unit)⊕(Unit)))
 have hc1:decide (v5<(p0.length:Int))=false:=Jo2 (by omega)
 refine Jq<|Jg3 [2,2,2,2] 2 R<|Jn3 R U26 R R<|Jb 1 R<|Jw2 R hc1<|Jc1<|Jt<|Jt ?_
 cases h
 have h:=hk10
 refine Jb1 ?_
 cases h
 exact Jw1 _ ⟨K8,R,S9.wk R,R⟩ KN
 obtain⟨o1,h,hk10⟩:=BI h;unfold jZ at h
 have hc1:decide (v5<(p0.length:Int))=true:=Jn2 (by omega)
 refine Jq<|Jg3 [2,2,2,2] 2 R<|Jn3 R U26 R R<|Jb 1 R<|Jv2 R hc1<|Js<|Jp<|Jq<|Jv<|Jg3 [2,2,2,1,2,2] 2 R<|Ob h λx14 hx14 h=>Jc3 R g0 hx14 U26 Z2<|Jb3 R I2 ((g0.stp S9 R R).gInt hx14)<|Jb 2 R ?_
 revert h
 cases ht12:(x14==p1)
 refine JF λh=>Jy R<|Js<|Jz<|Jp<|Jf3 R ?_
 have hw1:sh .i64 (v5+1)=v5+1:=wr1 hj1 (Jm2 hc1) hN1
 rw[hw1]
 have hc1:=Jm2 hc1
 cases h
 exact Jz1 λa ha=>⟨k,_,Ja3 _,⟨K8,v5+1,R,S9.wk R,by omega,by omega,hk10⟩,(ha.mm R)⟩
 refine JT λh=>Jx R<|Je3 R<|Ju<|Ja1<|Jw<|Jw ?_
 cases h
 obtain rfl:=Option.some.inj hk10
 have h:=yL hK2
 refine Ja1<|Jq2<|Jw<|Ja2 (l:=[.tmp 4]) V100 (Jp2 R R) R ?_
 cases h
 exact⟨K8,R,(hE.stp S9 R R)⟩
 rintro _ w4 ⟨K5,rfl,S6,rfl⟩
 have h:=yI hK2
 refine Jp<|Je3 R<|Ju<|Ja2 (l:=[.tmp 4]) V100 (Jp2 R R) R ?_
 cases h
 exact⟨K5,R,(hE.stp S6 R R)⟩
theorem oM {af ak ah ae ai aj}{p0:Parity}(g0_0_0:Rd (Rp.int .i64) κ w 0 af ak p0.Arena.Owner) (g0_0_1:Rd (Rp.sl (Rp.int .i64)) κ w 0 ah ae p0.Arena.Next) (g0_1:Rd (Rp.int .i64) κ w 0 ai aj p0.Prio){r:l7Game}(h:mL p0=some r):Ret Try.prog 83 [.agg #[.slice af p0.Arena.Owner.length ak,.slice ah p0.Arena.Next.length ae,.slice ai p0.Prio.length aj]] w (λv w'=>∃(κ':Col) (ra0:Option Addr) (ru0:Nat) (ra1:Option Addr) (ru1:Nat) (ra2:Option Addr) (ru2:Nat) (ra3:Option Addr) (ru3:Nat) (ra4:Option Addr) (ru4:Nat),v= .agg #[.slice ra0 r.owner.length ru0,.slice ra1 r.prio.length ru1,.slice ra2 r.next.length ru2,.slice ra3 r.prev.length ru3,.slice ra4 r.pick.length ru4]/\Ent κ w κ' w'/\Rd (Rp.int .i64) κ' w' 0 ra0 ru0 r.owner/\Rd (Rp.int .i64) κ' w' 0 ra1 ru1 r.prio/\Rd (Rp.sl (Rp.int .i64)) κ' w' 0 ra2 ru2 r.next/\Oc (Ep.own E6 2) 26 κ' w' 5 ra3 ru3 r.prev/\Oc E6 2 κ' w' 6 ra4 ru4 r.pick):=by
 unfold mL at h
 refine Jk3 κ F83 R N83 R λhE=>Je [1,1] R<|Jf1 (κ:=κ) 2 R R R R R R R λb1 w1 K2 S3 f4=>Tv<|Jg1 (κ:=K2) 3 R R R R R X121 R λb2 w5 K6 S7 f8=>Tv<|Jd<|Je [2,1,2,2] R<|Jd3 R U79 R Z26 ?_
 have f9:=f4.stp S7 R R
 refine Jb3 R I26 (f9.ld 2 R R)<|Jn3 R U26 R R<|Jb 1 R<|Jq<|Ob h λx20 hx20 h=>Ob h λx22 hx22 h=>Jx1 (λL w'=>∃κ' b4 aq ar aw av au ap am al ao an,L=[(1,.pointer (some ⟨b1,0,none⟩)),(2,.pointer (some ⟨b2,0,none⟩)),(3,vi (p0.Prio.length:Int)),(4,.pointer (some ⟨b4,0,none⟩))]/\Stp [4,5,6] K6 w5 κ' w'/\Rd (Rp.int .i64) κ' w' 0 aq ar ((⟨p0.Arena.Owner,p0.Prio,p0.Arena.Next,x20,x22⟩:l7Game).owner)/\Rd (Rp.int .i64) κ' w' 0 aw av ((⟨p0.Arena.Owner,p0.Prio,p0.Arena.Next,x20,x22⟩:l7Game).prio)/\Rd (Rp.sl<|Rp.int .i64) κ' w' 0 au ap ((⟨p0.Arena.Owner,p0.Prio,p0.Arena.Next,x20,x22⟩:l7Game).next)/\Oc (Ep.own E6 2) 26 κ' w' 4 am al ((⟨p0.Arena.Owner,p0.Prio,p0.Arena.Next,x20,x22⟩:l7Game).prev)/\Oc E6 2 κ' w' 5 ao an ((⟨p0.Arena.Owner,p0.Prio,p0.Arena.Next,x20,x22⟩:l7Game).pick)/\Bc κ' w' 6 b4 121 [.slice aq ((⟨p0.Arena.Owner,p0.Prio,p0.Arena.Next,x20,x22⟩:l7Game).owner).length ar,.slice aw ((⟨p0.Arena.Owner,p0.Prio,p0.Arena.Next,x20,x22⟩:l7Game).prio).length av,.slice au ((⟨p0.Arena.Owner,p0.Prio,p0.Arena.Next,x20,x22⟩:l7Game).next).length ap,.slice am ((⟨p0.Arena.Owner,p0.Prio,p0.Arena.Next,x20,x22⟩:l7Game).prev).length al,.slice ao ((⟨p0.Arena.Owner,p0.Prio,p0.Arena.Next,x20,x22⟩:l7Game).pick).length an]) ?_ ?_
 refine WC.rxt (κ:=K6) [2] none (by kernel_rfl) λw20 S21=>Jq1 (fuel:=5) [(0,2),(1,2),(3,2),(5,2),(6,2),(8,2),(10,2),(2,0),(4,0),(7,0)] (by kernel_rfl) (by kernel_rfl) R<|Jd3 R U79 R Z75<|Jd3 R U75 R Z26<|Jd3 R U79 R Z26<|Jd3 R U79 R Z75<|Jd3 R U75 R Z27<|Jn 2 R ?_
 have f22:=f9.stp S21 R R
 refine Jg R (Jc2 I26 R R<|hvC (f22.ld 0 R R) R)<|Jg R (Jc2 I26 R R<|hvC (f22.ld 2 R R) R)<|Jg R (Jc2 I27 R R<|hvC (f22.ld 1 R R) R)<|Jp1<|WA.fork3 (fuel:=4) 9 11 13 (by kernel_rfl) R ?_ ?_ ?_
 refine Jl1 (κ:=K6) (E:=(Ep.own E6 2)) (z:=(([]:List Int):(List Int))) 4 R R R R R R R Y27 bZ R R R R R (λ_ _ _=>⟨none,0,R,Ow.nil⟩) (Ju2 hx20) λac aa w23 K24 S25 f26=>⟨(S25.cl R),Jp1<|WA.fork2 (fuel:=3) 11 13 (by kernel_rfl) R ?_ ?_⟩
 have S001:=(T4 S3 S7 S21 S25)
 exact Jl1 (κ:=K24) (E:=E6) (z:=(0:Int)) 5 R R R R R R R Y26 a8 R R R R R (λ_ _ _=>R) (Ju2 hx22) λad ab w27 K28 S29 f30=>⟨((S25.tr S29).cl R),Jp1<|Jq1 (fuel:=0) [(12,2),(13,1),(14,1)] (by kernel_rfl) (by kernel_rfl) R<|Jf R (bF (parts:=[(0,.tmp 13),(1,.tmp 15),(2,.tmp 18),(3,.tmp 20),(4,.tmp 22)]) (cells:=[.slice af p0.Arena.Owner.length ak,.slice ai p0.Prio.length aj,.slice ah p0.Arena.Next.length ae,.slice ac x20.length aa,.slice ad x22.length ab]) R R (by kernel_rfl))<|Jg1 (κ:=K28) 6 R R R R R X121 R λb4 w31 K32 S33 f34=>⟨((T3 S25 S29 S33).cl R),Jj1 (κ:=K32) 6 (vc:=[.slice af p0.Arena.Owner.length ak,.slice ai p0.Prio.length aj,.slice ah p0.Arena.Next.length ae,.slice ac x20.length aa,.slice ad x22.length ab]) R R R R R R R Z121 R R f34 R λw35 S36 f37=>⟨((T4 S25 S29 S33 S36).cl R),Jp1<|Jr1 [] (by kernel_rfl) (by kernel_rfl) R<|Jo<|Jw1 _ ⟨K32,b4,af,ak,ai,aj,ah,ae,ac,aa,ad,ab,R,(T5 S21 S25 S29 S33 S36).wk R,(g0_0_0.stp (T4 S001 S29 S33 S36) R R),(g0_1.stp (T4 S001 S29 S33 S36) R R),(g0_0_1.stp (T4 S001 S29 S33 S36) R R),(f26.stp (T3 S29 S33 S36) R R),(f30.stp (S33.tr S36) R R),f37⟩<|KM R⟩⟩⟩
 have S002:=(T4 S3 S7 S21 S25)
 exact Jg1 (κ:=K24) 5 R R R R R X121 R λb4 w43 K44 S45 f46=>⟨((S25.tr S45).cl R),Jp1<|Jq1 (fuel:=0) [(11,1),(12,2),(14,1)] (by kernel_rfl) (by kernel_rfl) R<|Jl1 (κ:=K44) (E:=E6) (z:=(0:Int)) 6 R R R R R R R Y26 a8 R R R R R (λ_ _ _=>R) (Ju2 hx22) λad ab w47 K48 S49 f50=>⟨((T3 S25 S45 S49).cl R),Jf R (bF (parts:=[(0,.tmp 13),(1,.tmp 15),(2,.tmp 18),(3,.tmp 20),(4,.tmp 22)]) (cells:=[.slice af p0.Arena.Owner.length ak,.slice ai p0.Prio.length aj,.slice ah p0.Arena.Next.length ae,.slice ac x20.length aa,.slice ad x22.length ab]) R R (by kernel_rfl))<|Jj1 (κ:=K48) 5 (vc:=[.slice af p0.Arena.Owner.length ak,.slice ai p0.Prio.length aj,.slice ah p0.Arena.Next.length ae,.slice ac x20.length aa,.slice ad x22.length ab]) R R R R R R R Z121 R R (f46.stp S49 R R) R λw52 S53 f54=>⟨((T4 S25 S45 S49 S53).cl R),Jp1<|Jr1 [] (by kernel_rfl) (by kernel_rfl) R<|Jo<|Jw1 _ ⟨(λb=>ren [(6,5),(5,6)]<|K48 b),b4,af,ak,ai,aj,ah,ae,ac,aa,ad,ab,R,(Jy2 ((T5 S21 S25 S45 S49 S53).wk R) [(6,5),(5,6)] R),((g0_0_0.stp (T4 S002 S45 S49 S53) R R).map (ren [(6,5),(5,6)]) R R),((g0_1.stp (T4 S002 S45 S49 S53) R R).map (ren [(6,5),(5,6)]) R R),((g0_0_1.stp (T4 S002 S45 S49 S53) R R).map (ren [(6,5),(5,6)]) R R),((f26.stp (T3 S45 S49 S53) R R).map (ren [(6,5),(5,6)]) R R),((f50.stp S53 R R).map (ren [(6,5),(5,6)]) R R),(f54.map (ren [(6,5),(5,6)]) R R)⟩<|KM R⟩⟩⟩
 refine Jl1 (κ:=K6) (E:=E6) (z:=(0:Int)) 4 R R R R R R R Y26 a8 R R R R R (λ_ _ _=>R) (Ju2 hx22) λad ab w60 K61 S62 f63=>⟨(S62.cl R),Jp1<|WA.fork2 (fuel:=3) 9 13 (by kernel_rfl) R ?_ ?_⟩
 have S003:=(T4 S3 S7 S21 S62)
 exact Jl1 (κ:=K61) (E:=(Ep.own E6 2)) (z:=(([]:List Int):(List Int))) 5 R R R R R R R Y27 bZ R R R R R (λ_ _ _=>⟨none,0,R,Ow.nil⟩) (Ju2 hx20) λac aa w64 K65 S66 f67=>⟨((S62.tr S66).cl R),Jp1<|Jq1 (fuel:=0) [(12,2),(13,1),(14,1)] (by kernel_rfl) (by kernel_rfl) R<|Jf R (bF (parts:=[(0,.tmp 13),(1,.tmp 15),(2,.tmp 18),(3,.tmp 20),(4,.tmp 22)]) (cells:=[.slice af p0.Arena.Owner.length ak,.slice ai p0.Prio.length aj,.slice ah p0.Arena.Next.length ae,.slice ac x20.length aa,.slice ad x22.length ab]) R R (by kernel_rfl))<|Jg1 (κ:=K65) 6 R R R R R X121 R λb4 w68 K69 S70 f71=>⟨((T3 S62 S66 S70).cl R),Jj1 (κ:=K69) 6 (vc:=[.slice af p0.Arena.Owner.length ak,.slice ai p0.Prio.length aj,.slice ah p0.Arena.Next.length ae,.slice ac x20.length aa,.slice ad x22.length ab]) R R R R R R R Z121 R R f71 R λw72 S73 f74=>⟨((T4 S62 S66 S70 S73).cl R),Jp1<|Jr1 [] (by kernel_rfl) (by kernel_rfl) R<|Jo<|Jw1 _ ⟨(λb=>ren [(5,4),(4,5)]<|K69 b),b4,af,ak,ai,aj,ah,ae,ac,aa,ad,ab,R,(Jy2 ((T5 S21 S62 S66 S70 S73).wk R) [(5,4),(4,5)] R),((g0_0_0.stp (T4 S003 S66 S70 S73) R R).map (ren [(5,4),(4,5)]) R R),((g0_1.stp (T4 S003 S66 S70 S73) R R).map (ren [(5,4),(4,5)]) R R),((g0_0_1.stp (T4 S003 S66 S70 S73) R R).map (ren [(5,4),(4,5)]) R R),((f67.stp (S70.tr S73) R R).map (ren [(5,4),(4,5)]) R R),((f63.stp (T3 S66 S70 S73) R R).map (ren [(5,4),(4,5)]) R R),(f74.map (ren [(5,4),(4,5)]) R R)⟩<|KM R⟩⟩⟩
 have S004:=(T4 S3 S7 S21 S62)
 exact Jg1 (κ:=K61) 5 R R R R R X121 R λb4 w80 K81 S82 f83=>⟨((S62.tr S82).cl R),Jp1<|Jq1 (fuel:=0) [(9,1),(12,2),(14,1)] (by kernel_rfl) (by kernel_rfl) R<|Jl1 (κ:=K81) (E:=(Ep.own E6 2)) (z:=(([]:List Int):(List Int))) 6 R R R R R R R Y27 bZ R R R R R (λ_ _ _=>⟨none,0,R,Ow.nil⟩) (Ju2 hx20) λac aa w84 K85 S86 f87=>⟨((T3 S62 S82 S86).cl R),Jf R (bF (parts:=[(0,.tmp 13),(1,.tmp 15),(2,.tmp 18),(3,.tmp 20),(4,.tmp 22)]) (cells:=[.slice af p0.Arena.Owner.length ak,.slice ai p0.Prio.length aj,.slice ah p0.Arena.Next.length ae,.slice ac x20.length aa,.slice ad x22.length ab]) R R (by kernel_rfl))<|Jj1 (κ:=K85) 5 (vc:=[.slice af p0.Arena.Owner.length ak,.slice ai p0.Prio.length aj,.slice ah p0.Arena.Next.length ae,.slice ac x20.length aa,.slice ad x22.length ab]) R R R R R R R Z121 R R (f83.stp S86 R R) R λw89 S90 f91=>⟨((T4 S62 S82 S86 S90).cl R),Jp1<|Jr1 [] (by kernel_rfl) (by kernel_rfl) R<|Jo<|Jw1 _ ⟨(λb=>ren [(6,4),(4,5),(5,6)]<|K85 b),b4,af,ak,ai,aj,ah,ae,ac,aa,ad,ab,R,(Jy2 ((T5 S21 S62 S82 S86 S90).wk R) [(6,4),(4,5),(5,6)] R),((g0_0_0.stp (T4 S004 S82 S86 S90) R R).map (ren [(6,4),(4,5),(5,6)]) R R),((g0_1.stp (T4 S004 S82 S86 S90) R R).map (ren [(6,4),(4,5),(5,6)]) R R),((g0_0_1.stp (T4 S004 S82 S86 S90) R R).map (ren [(6,4),(4,5),(5,6)]) R R),((f87.stp S90 R R).map (ren [(6,4),(4,5),(5,6)]) R R),((f63.stp (T3 S82 S86 S90) R R).map (ren [(6,4),(4,5),(5,6)]) R R),(f91.map (ren [(6,4),(4,5),(5,6)]) R R)⟩<|KM R⟩⟩⟩
 refine Jg1 (κ:=K6) 4 R R R R R X121 R λb4 w97 K98 S99 f100=>⟨(S99.cl R),Jp1<|WA.fork2 (fuel:=3) 9 11 (by kernel_rfl) R ?_ ?_⟩
 have S005:=(T4 S3 S7 S21 S99)
 exact Jl1 (κ:=K98) (E:=(Ep.own E6 2)) (z:=(([]:List Int):(List Int))) 5 R R R R R R R Y27 bZ R R R R R (λ_ _ _=>⟨none,0,R,Ow.nil⟩) (Ju2 hx20) λac aa w101 K102 S103 f104=>⟨((S99.tr S103).cl R),Jp1<|Jq1 (fuel:=0) [(11,1),(12,2),(14,1)] (by kernel_rfl) (by kernel_rfl) R<|Jl1 (κ:=K102) (E:=E6) (z:=(0:Int)) 6 R R R R R R R Y26 a8 R R R R R (λ_ _ _=>R) (Ju2 hx22) λad ab w105 K106 S107 f108=>⟨((T3 S99 S103 S107).cl R),Jf R (bF (parts:=[(0,.tmp 13),(1,.tmp 15),(2,.tmp 18),(3,.tmp 20),(4,.tmp 22)]) (cells:=[.slice af p0.Arena.Owner.length ak,.slice ai p0.Prio.length aj,.slice ah p0.Arena.Next.length ae,.slice ac x20.length aa,.slice ad x22.length ab]) R R (by kernel_rfl))<|Jj1 (κ:=K106) 4 (vc:=[.slice af p0.Arena.Owner.length ak,.slice ai p0.Prio.length aj,.slice ah p0.Arena.Next.length ae,.slice ac x20.length aa,.slice ad x22.length ab]) R R R R R R R Z121 R R (f100.stp (S103.tr S107) R R) R λw110 S111 f112=>⟨((T4 S99 S103 S107 S111).cl R),Jp1<|Jr1 [] (by kernel_rfl) (by kernel_rfl) R<|Jo<|Jw1 _ ⟨(λb=>ren [(5,4),(6,5),(4,6)]<|K106 b),b4,af,ak,ai,aj,ah,ae,ac,aa,ad,ab,R,(Jy2 ((T5 S21 S99 S103 S107 S111).wk R) [(5,4),(6,5),(4,6)] R),((g0_0_0.stp (T4 S005 S103 S107 S111) R R).map (ren [(5,4),(6,5),(4,6)]) R R),((g0_1.stp (T4 S005 S103 S107 S111) R R).map (ren [(5,4),(6,5),(4,6)]) R R),((g0_0_1.stp (T4 S005 S103 S107 S111) R R).map (ren [(5,4),(6,5),(4,6)]) R R),((f104.stp (S107.tr S111) R R).map (ren [(5,4),(6,5),(4,6)]) R R),((f108.stp S111 R R).map (ren [(5,4),(6,5),(4,6)]) R R),(f112.map (ren [(5,4),(6,5),(4,6)]) R R)⟩<|KM R⟩⟩⟩
 have S006:=(T4 S3 S7 S21 S99)
 exact Jl1 (κ:=K98) (E:=E6) (z:=(0:Int)) 5 R R R R R R R Y26 a8 R R R R R (λ_ _ _=>R) (Ju2 hx22) λad ab w118 K119 S120 f121=>⟨((S99.tr S120).cl R),Jp1<|Jq1 (fuel:=0) [(9,1),(12,2),(14,1)] (by kernel_rfl) (by kernel_rfl) R<|Jl1 (κ:=K119) (E:=(Ep.own E6 2)) (z:=(([]:List Int):(List Int))) 6 R R R R R R R Y27 bZ R R R R R (λ_ _ _=>⟨none,0,R,Ow.nil⟩) (Ju2 hx20) λac aa w122 K123 S124 f125=>⟨((T3 S99 S120 S124).cl R),Jf R (bF (parts:=[(0,.tmp 13),(1,.tmp 15),(2,.tmp 18),(3,.tmp 20),(4,.tmp 22)]) (cells:=[.slice af p0.Arena.Owner.length ak,.slice ai p0.Prio.length aj,.slice ah p0.Arena.Next.length ae,.slice ac x20.length aa,.slice ad x22.length ab]) R R (by kernel_rfl))<|Jj1 (κ:=K123) 4 (vc:=[.slice af p0.Arena.Owner.length ak,.slice ai p0.Prio.length aj,.slice ah p0.Arena.Next.length ae,.slice ac x20.length aa,.slice ad x22.length ab]) R R R R R R R Z121 R R (f100.stp (S120.tr S124) R R) R λw127 S128 f129=>⟨((T4 S99 S120 S124 S128).cl R),Jp1<|Jr1 [] (by kernel_rfl) (by kernel_rfl) R<|Jo<|Jw1 _ ⟨(λb=>ren [(6,4),(4,6)]<|K123 b),b4,af,ak,ai,aj,ah,ae,ac,aa,ad,ab,R,(Jy2 ((T5 S21 S99 S120 S124 S128).wk R) [(6,4),(4,6)] R),((g0_0_0.stp (T4 S006 S120 S124 S128) R R).map (ren [(6,4),(4,6)]) R R),((g0_1.stp (T4 S006 S120 S124 S128) R R).map (ren [(6,4),(4,6)]) R R),((g0_0_1.stp (T4 S006 S120 S124 S128) R R).map (ren [(6,4),(4,6)]) R R),((f125.stp S128 R R).map (ren [(6,4),(4,6)]) R R),((f121.stp (S124.tr S128) R R).map (ren [(6,4),(4,6)]) R R),(f129.map (ren [(6,4),(4,6)]) R R)⟩<|KM R⟩⟩⟩
 rintro _ w10 ⟨K11,b4,aq,ar,aw,av,au,ap,am,al,ao,an,rfl,S12,f14,f15,f16,f17,f18,f19⟩
 refine Jp<|Jq<|Je3 R ?_
 have hN135:(p0.Prio.length:Int)<=9223372036854775807:=g0_1.len_le
 refine Ob h λq2 hq137 hK136=>?_
 clear h
 refine Jx1 (λL w'=>∃κ',∃s3:(List<|List Int)×(List Int),L=[(2,.pointer (some ⟨b2,0,none⟩)),(4,.pointer (some ⟨b4,0,none⟩))]/\Stp [4,5,8] K11 w10 κ' w'/\Oc (Ep.own E6 2) 26 κ' w' 4 am al s3.1/\((⟨p0.Arena.Owner,p0.Prio,p0.Arena.Next,x20,x22⟩:l7Game).prev).length=s3.1.length/\Oc E6 2 κ' w' 5 ao an s3.2/\((⟨p0.Arena.Owner,p0.Prio,p0.Arena.Next,x20,x22⟩:l7Game).pick).length=s3.2.length/\q2=vq s3) ?_ ?_
 refine Jv<|Jy1 (λk L w'=>∃κ' v5,∃s1:(List<|List Int)×(List Int),L=[(1,.pointer (some ⟨b1,0,none⟩)),(2,.pointer (some ⟨b2,0,none⟩)),(3,vi (p0.Prio.length:Int)),(4,.pointer (some ⟨b4,0,none⟩)),(5,vi v5)]/\Stp [4,5,8] K11 w10 κ' w'/\Oc (Ep.own E6 2) 26 κ' w' 4 am al s1.1/\((⟨p0.Arena.Owner,p0.Prio,p0.Arena.Next,x20,x22⟩:l7Game).prev).length=s1.1.length/\Oc E6 2 κ' w' 5 ao an s1.2/\((⟨p0.Arena.Owner,p0.Prio,p0.Arena.Next,x20,x22⟩:l7Game).pick).length=s1.2.length/\0<=v5/\vu ((p0.Prio.length:Int)-v5)=k/\cntM (jW p0) k v5 s1=some q2) ⟨_,_,⟨K11,0,(((⟨p0.Arena.Owner,p0.Prio,p0.Arena.Next,x20,x22⟩:l7Game).prev:(List<|List Int)),((⟨p0.Arena.Owner,p0.Prio,p0.Arena.Next,x20,x22⟩:l7Game).pick:(List Int))),R,Jj3,f17,R,f18,R,(by decide),(by simp),hq137⟩,(KM R)⟩ ?_
 rintro k _ w145 ⟨K146,v5,s1,rfl,S147,f148,hn149,f150,hn151,hj135,hJ135,h⟩
 rcases k with _ | k
 have hk152:=h;obtain⟨o135,h⟩:=cc (vq (vr s1):l7Game⊕(((List (List Int))×(List Int))⊕((List (List Int))×(List Int))))
 have hc135:decide (v5<(p0.Prio.length:Int))=false:=Jo2 (by omega)
 refine Jq<|Je3 R<|Jw2 R hc135<|Jc1<|Jt<|Jt ?_
 cases h
 have h:=hk152
 refine Jb1 ?_
 cases h
 exact Jw1 _ ⟨K146,(s1.1,s1.2),R,S147.wk R,f148,hn149,f150,hn151,R⟩<|KM R
 obtain⟨o135,h,hk152⟩:=BI h;unfold jW at h
 have hc135:decide (v5<(p0.Prio.length:Int))=true:=Jn2 (by omega)
 refine Jq<|Je3 R<|Jv2 R hc135<|Js<|Jp<|Jq<|Jv<|Je [2,1,2,2,1] R<|Jd3 R U121 R Z26 ?_
 have f153:=f19.stp S147 R R
 refine Jb3 R I26 (f153.ld 4 R R)<|Jn 1 R<|Ob h λx32 hx32 h=>Jf R (Jf2 f150.rdc hx32 U26 Z2 R R hn151 R)<|Ob h λy216 hy216 h=>Jk1 (κ:=K146) (E:=E6) 5 [] R R R R R R R R Z2 R R R R f150 hy216 λw154 K155 S156 f157=>Tv<|?_
 have hn158:((⟨p0.Arena.Owner,p0.Prio,p0.Arena.Next,x20,x22⟩:l7Game).pick).length=y216.length:=hn151.trans (Jt2 hy216).2.2.2.symm
 refine Jd<|Je3 R<|Ob h λq5 hq161 hK160=>?_
 clear h
 refine Jx1 (λL w'=>∃κ',∃s6:Int×(List<|List Int),L=[(1,.pointer (some ⟨b1,0,none⟩)),(2,.pointer (some ⟨b2,0,none⟩)),(3,vi (p0.Prio.length:Int)),(4,.pointer (some ⟨b4,0,none⟩)),(5,vi v5)]/\Stp [4,8] K155 w154 κ' w'/\Oc (Ep.own E6 2) 26 κ' w' 4 am al s6.2/\((⟨p0.Arena.Owner,p0.Prio,p0.Arena.Next,x20,x22⟩:l7Game).prev).length=s6.2.length/\q5=vq s6) ?_ ?_
 refine Jv<|Jy1 (λk L w'=>∃κ',∃s4:Int×(List<|List Int),L=[(1,.pointer (some ⟨b1,0,none⟩)),(2,.pointer (some ⟨b2,0,none⟩)),(3,vi (p0.Prio.length:Int)),(4,.pointer (some ⟨b4,0,none⟩)),(5,vi v5),(6,vi s4.1)]/\Stp [4,8] K155 w154 κ' w'/\Oc (Ep.own E6 2) 26 κ' w' 4 am al s4.2/\((⟨p0.Arena.Owner,p0.Prio,p0.Arena.Next,x20,x22⟩:l7Game).prev).length=s4.2.length/\bP (jJ p0 v5) k s4=some q5) ⟨_,_,⟨K155,((0:Int),s1.1),R,Jj3,(f148.stp S156 R R),hn149,hq161⟩,(KM R)⟩ ?_
 rintro k _ w167 ⟨K168,s4,rfl,S169,f170,hn171,h⟩
 rcases k with _ | k
 cases h
 obtain⟨o159,h,hk173⟩:=BI h;unfold jJ at h
 refine Jq<|Jg3 [2,2,2,1,2,2,1,2,2] 1 R<|Jd3 R U79 R Z75<|Jd3 R U75 R Z27 ?_
 have f174:=f9.stp (T4 S12 S147 S156 S169) R R
 refine Jb3 R I27 (f174.ld 1 R R)<|Jn 1 R<|Ob h λx38 hx38 h=>Jc3 R g0_0_1 hx38 U27 Z26 ?_
 have f175:=g0_0_1.stp (T6 S3 S7 S12 S147 S156 S169) R R
 obtain⟨ax38,ux38,f176,hl177⟩:=f175.gSl hx38
 refine Jb3 R I26 hl177<|Jn3 R U26 R R<|Jb 1 R ?_
 revert h
 cases ht178:decide (s4.1<(x38.length:Int))
 refine JF λh=>Jy R<|Jc1<|Jt<|Jt ?_
 cases h
 have h:=hk173
 refine Jb1 ?_
 cases h
 exact Jw1 _ ⟨K168,(s4.1,s4.2),R,S169.wk R,f170,hn171,R⟩<|KM R
 refine JT λh=>Jx R<|Js<|Jp<|Jq<|Jv<|Je [2,2,1,2,2,1,2,2,1,2] R<|Jd3 R U79 R Z75<|Jd3 R U75 R Z27<|Jb3 R I27 (f174.ld 1 R R)<|Jn 1 R<|Ob h λx48 hx48 h=>Jc3 R f175 hx48 U27 Z26 ?_
 obtain⟨ax48,ux48,f179,hl180⟩:=f175.gSl hx48
 refine Jb3 R I26 hl180<|Jn 1 R<|Ob h λx51 hx51 h=>Jc3 R f179 hx51 U26 Z2<|Jb3 R I2 (f179.gInt hx51)<|Jb 1 R<|Ob h λx59 hx59 h=>Ob h λx63 hx63 h=>Ob h λx64 hx64 h=>Ob h λy218 hy218 h=>Jx1 (λL w'=>∃κ',L=[(1,.pointer (some ⟨b1,0,none⟩)),(2,.pointer (some ⟨b2,0,none⟩)),(3,vi (p0.Prio.length:Int)),(4,.pointer (some ⟨b4,0,none⟩)),(5,vi v5),(6,vi s4.1)]/\Stp [4,8] K168 w167 κ' w'/\Oc (Ep.own E6 2) 26 κ' w' 4 am al y218/\((⟨p0.Arena.Owner,p0.Prio,p0.Arena.Next,x20,x22⟩:l7Game).prev).length=y218.length) ?_ ?_
 refine WC.rxt (κ:=K168) [0,4,6] (some 10) (by kernel_rfl) λw187 S188=>Jq1 (fuel:=5) [(0,2),(2,2),(3,2),(5,2),(8,2),(4,0),(6,2),(7,0)] (by kernel_rfl) (by kernel_rfl) R<|Jd3 R U121 R Z27<|Jn 1 R<|Jd3 R U121 R Z27<|Jn 2 R ?_
 have f189:=f153.stp (T3 S156 S169 S188) R R
 refine Jg R (Jc2 I27 R R<|hvC (f189.ld 3 R R) R)<|Jf R (Jf2 f170.rdc hx59 U27 Z26 R R hn171 R) ?_
 have f190:=f170.stp S188 R R
 obtain⟨ax59,ux59,f191,hl192⟩:=f190.rdc.gSl hx59
 refine Jg R (Jc2 I26 R R<|hvC hl192 R)<|Jp1<|WA.fork2 (fuel:=4) 1 9 (by kernel_rfl) R ?_ ?_
 refine Jl (Cl.refl _ _ _) R R R R (Jc2 I27 R R<|hvE<|f189.ld 3 R R)<|Jp1<|Jq1 (fuel:=3) [(9,1)] (by kernel_rfl) (by kernel_rfl) R<|Jn1 (κ:=K168) (E:=E6) 7 [] (parts:=[(0,.tmp 61)]) (cells:=[vi v5]) (xs:=([v5]:List Int)) R R R R R R Y26 a8 R R R R R R R R R R ⟨[vi v5],[],Zl K168 w187 [],Zl K168 w187 [],R,Zl.sp (l1:=[]) (l2:=[]) R,Zl.sr (l1:=[]) (l2:=[]),R,R⟩ λaA az w193 K194 S195 f196=>⟨(S195.cl R),Jp1<|WA.brk (fuel:=2) 10 (by kernel_rfl) R (by kernel_rfl) ?_⟩
 have f197:=f190.stp S195 R R
 obtain⟨K198,S199,f200,f201⟩:=f197.borrow hx59 (hl192 _ (Stp.ag S195 R)) 8 R R
 refine Jm1 (κ:=K198) (E:=E6) 8 [] R R R R R R R R R Y26 a8 R R R R f200 (Sl.srcP (cb _) (f196.stp S199 R R).rdc) bJ hx63 R λay ax w203 K204 S205 f206=>Tv<|Jp1<|Jq1 (fuel:=0) [(11,2),(12,1)] (by kernel_rfl) (by kernel_rfl) R<|Jf R (Jf2 f197.rdc hx64 U27 Z26 R R hn171 R)<|WO.stH (κ:=K204) (E:=(Ep.own E6 2)) 4 [8] R R R R R R R R Z26 R ⟨_,_,R,f206⟩ R R (f201.stp S205 R R) hy218 λw208 K209 S210 f211=>Tv<|?_
 have hn212:((⟨p0.Arena.Owner,p0.Prio,p0.Arena.Next,x20,x22⟩:l7Game).prev).length=y218.length:=hn171.trans (Jt2 hy218).2.2.2.symm
 exact Jp1<|Jr1 [] (by kernel_rfl) (by kernel_rfl) R<|Jo<|Jw1 _ ⟨K209,R,(T5 S188 S195 S199 S205 S210).wk R,f211,hn212⟩<|KM R
 refine Jn1 (κ:=K168) (E:=E6) 7 [] (parts:=[(0,.tmp 61)]) (cells:=[vi v5]) (xs:=([v5]:List Int)) R R R R R R Y26 a8 R R R R R R R R R R ⟨[vi v5],[],Zl K168 w187 [],Zl K168 w187 [],R,Zl.sp (l1:=[]) (l2:=[]) R,Zl.sr (l1:=[]) (l2:=[]),R,R⟩ λaA az w213 K214 S215 f216=>⟨(S215.cl R),Jp1<|WA.forkB2r (fuel:=3) 1 10 (by kernel_rfl) R (by kernel_rfl) ?_ ?_⟩
 refine Jl (S215.cl R) R R R R (Jc2 I27 R R<|hvE ((f189.stp S215 R R).ld 3 R R))<|Jp1<|WA.brk (fuel:=2) 10 (by kernel_rfl) R (by kernel_rfl) ?_
 have f218:=f190.stp S215 R R
 obtain⟨K219,S220,f221,f222⟩:=f218.borrow hx59 (hl192 _ (Stp.ag S215 R)) 8 R R
 refine Jm1 (κ:=K219) (E:=E6) 8 [] R R R R R R R R R Y26 a8 R R R R f221 (Sl.srcP (cb _) (f216.stp S220 R R).rdc) bJ hx63 R λay ax w224 K225 S226 f227=>Tv<|Jp1<|Jq1 (fuel:=0) [(11,2),(12,1)] (by kernel_rfl) (by kernel_rfl) R<|Jf R (Jf2 f218.rdc hx64 U27 Z26 R R hn171 R)<|WO.stH (κ:=K225) (E:=(Ep.own E6 2)) 4 [8] R R R R R R R R Z26 R ⟨_,_,R,f227⟩ R R (f222.stp S226 R R) hy218 λw229 K230 S231 f232=>Tv<|?_
 have hn233:((⟨p0.Arena.Owner,p0.Prio,p0.Arena.Next,x20,x22⟩:l7Game).prev).length=y218.length:=hn171.trans (Jt2 hy218).2.2.2.symm
 exact Jp1<|Jr1 [] (by kernel_rfl) (by kernel_rfl) R<|Jo<|Jw1 _ ⟨K230,R,(T5 S188 S215 S220 S226 S231).wk R,f232,hn233⟩<|KM R
 have f234:=f190.stp S215 R R
 obtain⟨K235,S236,f237,f238⟩:=f234.borrow hx59 (hl192 _ (Stp.ag S215 R)) 8 R R
 refine Jm1 (κ:=K235) (E:=E6) 8 [] R R R R R R R R R Y26 a8 R R R R f237 (Sl.srcP (cb _) (f216.stp S236 R R).rdc) bJ hx63 R λay ax w240 K241 S242 f243=>Tv<|Jp1<|Jq1 (fuel:=0) [(1,1),(11,2),(12,1)] (by kernel_rfl) (by kernel_rfl) R<|Jb3 R I27 ((f189.stp (T3 S215 S236 S242) R R).ld 3 R R)<|Jf R (Jf2 f234.rdc hx64 U27 Z26 R R hn171 R)<|WO.stH (κ:=K241) (E:=(Ep.own E6 2)) 4 [8] R R R R R R R R Z26 R ⟨_,_,R,f243⟩ R R (f238.stp S242 R R) hy218 λw246 K247 S248 f249=>Tv<|?_
 have hn250:((⟨p0.Arena.Owner,p0.Prio,p0.Arena.Next,x20,x22⟩:l7Game).prev).length=y218.length:=hn171.trans (Jt2 hy218).2.2.2.symm
 exact Jp1<|Jr1 [] (by kernel_rfl) (by kernel_rfl) R<|Jo<|Jw1 _ ⟨K247,R,(T5 S188 S215 S236 S242 S248).wk R,f249,hn250⟩<|KM R
 rintro _ w181 ⟨K182,rfl,S183,f185,hn186⟩
 refine Jz<|Jp<|Jf3 R ?_
 cases h
 exact Jz1 λa ha=>⟨k,_,Ja3 _,⟨K182,(((IntKind.i64.wrap<|s4.1+1):Int),y218),R,(S169.tr S183).wk R,f185,hn186,hk173⟩,(ha.mm R)⟩
 rintro _ w162 ⟨K163,s6,rfl,S164,f165,hn166,rfl⟩
 have h:=yI hK160
 refine Jz<|Jp<|Jf3 R ?_
 have hw135:sh .i64 (v5+1)=v5+1:=wr1 hj135 (Jm2 hc135) hN135
 rw[hw135]
 have hc135:=Jm2 hc135
 cases h
 exact Jz1 λa ha=>⟨k,_,Ja3 _,⟨K163,v5+1,(s6.2,y216),R,(T3 S147 S156 S164).wk R,f165,hn166,(f157.stp S164 R R),hn158,by omega,by omega,hk152⟩,(ha.mm R)⟩
 rintro _ w138 ⟨K139,s3,rfl,S140,f141,hn142,f143,hn144,rfl⟩
 have h:=yI hK136
 refine Jp<|Je [1,1] R<|Jl tv R R R R (Jd2 (cs:=[.slice aq ((⟨p0.Arena.Owner,p0.Prio,p0.Arena.Next,x20,x22⟩:l7Game).owner).length ar,.slice aw ((⟨p0.Arena.Owner,p0.Prio,p0.Arena.Next,x20,x22⟩:l7Game).prio).length av,.slice au ((⟨p0.Arena.Owner,p0.Prio,p0.Arena.Next,x20,x22⟩:l7Game).next).length ap,.slice am ((⟨p0.Arena.Owner,p0.Prio,p0.Arena.Next,x20,x22⟩:l7Game).prev).length al,.slice ao ((⟨p0.Arena.Owner,p0.Prio,p0.Arena.Next,x20,x22⟩:l7Game).pick).length an]) I121 Z121 R R R<|haE (f19.stp S140 R R).cells)<|Jj1 (κ:=K139) 3 (vc:=[.slice aq ((⟨p0.Arena.Owner,p0.Prio,p0.Arena.Next,x20,x22⟩:l7Game).owner).length ar,.slice aw ((⟨p0.Arena.Owner,p0.Prio,p0.Arena.Next,x20,x22⟩:l7Game).prio).length av,.slice au ((⟨p0.Arena.Owner,p0.Prio,p0.Arena.Next,x20,x22⟩:l7Game).next).length ap,.slice am ((⟨p0.Arena.Owner,p0.Prio,p0.Arena.Next,x20,x22⟩:l7Game).prev).length al,.slice ao ((⟨p0.Arena.Owner,p0.Prio,p0.Arena.Next,x20,x22⟩:l7Game).pick).length an]) R R R R R R R Z121 R R (f8.stp (S12.tr S140) R R) R λw254 S255 f256=>Tv<|Jd<|Ju<|Ja2 (l:=[.cell 2 121]) V83 (bH R f256 I121 Z121 R R) R ?_
 cases h
 have S007:=(S140.tr S255)
 exact⟨(λb=>ren [(4,5),(5,6)]<|K139 b),aq,ar,aw,av,au,ap,am,al,ao,an,(by simp only[hn142,hn144]),((hE.stp (T5 S3 S7 S12 S140 S255) R R).map (ren [(4,5),(5,6)]) R R),((f14.stp S007 R R).map (ren [(4,5),(5,6)]) R R),((f15.stp S007 R R).map (ren [(4,5),(5,6)]) R R),((f16.stp S007 R R).map (ren [(4,5),(5,6)]) R R),((f141.stp S255 R R).map (ren [(4,5),(5,6)]) R R),((f143.stp S255 R R).map (ren [(4,5),(5,6)]) R R)⟩
theorem ng {ae ak aj ab ad aa af ai ac ah}{p0:l7Game}{p1:Int}{p2:Int}(g0_0:Rd (Rp.int .i64) κ w 0 ae ak p0.owner) (g0_1:Rd (Rp.int .i64) κ w 0 aj ab p0.prio) (g0_2:Rd (Rp.sl (Rp.int .i64)) κ w 0 ad aa p0.next) (g0_3:Rd (Rp.sl (Rp.int .i64)) κ w 0 af ai p0.prev) (g0_4:Rd (Rp.int .i64) κ w 0 ac ah p0.pick){r:Bool}(h:jB p0 p1 p2=some r):Ret Try.prog 102 [.agg #[.slice ae p0.owner.length ak,.slice aj p0.prio.length ab,.slice ad p0.next.length aa,.slice af p0.prev.length ai,.slice ac p0.pick.length ah],vi p1,vi p2] w (Pvb κ w r):=by
 unfold jB at h
 refine Jk3 κ F102 R N102 R λhE=>Je [1,2] R<|Jf1 (κ:=κ) 2 R R R R R R R λb3 w1 K2 S3 f4=>Tv<|Jb 1 R<|Je [2,1,2,2,1,2,2,2,1,2,2,1,2,2,2,2] R<|Jd3 R U121 R Z26<|Jb3 R I26 (f4.ld 4 R R)<|Jn 1 R<|Ob h λx10 hx10 h=>Jc3 R g0_4 hx10 U26 Z2 ?_
 have f5:=g0_4.stp S3 R R
 refine Jb3 R I2 (f5.gInt hx10)<|Jn 2 R<|Ob h λp21 h hK6=>Ju1 [(7,2),(8,1),(9,2),(10,2),(11,1),(12,2),(13,2),(14,2)] [(15,2)] (λL w'=>L=[(6,.bool false),(21,.bool p21)]/\∃κ',Stp [] K2 w1 κ' w') tv ?_ ?_
 revert h
 cases ht7:decide (x10<0)
 refine JF λh=>Jd3 R U121 R Z26<|Jb3 R I26 (f4.ld 4 R R)<|Jn 1 R<|Ob h λx17 hx17 h=>Jc3 R f5 hx17 U26 Z2<|Jb3 R I2 (f5.gInt hx17)<|Jn 3 R ?_
 cases h
 exact Jv1 _ tv ⟨R,_,Jj3⟩<|KM R
 refine JT λh=>Jn 1 R<|Jd1 R R R R<|Jn 2 R<|Jd1 R R R R<|Jn 3 R ?_
 cases h
 exact Jv1 _ tv ⟨R,_,Jj3⟩<|KM R
 rintro _ w8 _ ⟨rfl,K9,S10⟩
 have h:=hK6
 refine Jb 1 R<|Ju<|Ja2 (l:=[.tmp 6]) V102 (Jp2 R R) R ?_
 cases h
 exact⟨K9,R,(hE.stp (S3.tr S10) R R)⟩
theorem lF {a0 u0}{p0:(List Int)}{p1:Int}(g0:Rd (Rp.int .i64) κ w 0 a0 u0 p0){r:(List Bool)}(h:eu p0 p1=some r):Ret Try.prog 84 [.slice a0 p0.length u0,vi p1] w (Pvs Ep.bool 4 κ w r):=by
 unfold eu at h
 refine Jk3 κ F84 R N84 R λhE=>Je3 R<|Jg3 [2,2,1,2] 1 R<|Jn3 R U26 R R<|Ob h λx9 hx9 h=>Jl1 (κ:=κ) (E:=Ep.bool) (z:=(false:Bool)) 2 R R R R R R R Y123 i7 R R R R R (λ_ _ _=>R) (Ju2 hx9) λa9 u9 w1 K2 S3 f4=>Tv<|Jb 1 R<|Jq<|Je3 R ?_
 have hN5:(p0.length:Int)<=9223372036854775807:=g0.len_le
 refine Ob h λq2 hq7 hK6=>?_
 clear h
 refine Jx1 (λL w'=>∃κ',∃s3:(List Bool),L=[(5,.slice a9 x9.length u9)]/\Stp [2] K2 w1 κ' w'/\Oc Ep.bool 4 κ' w' 2 a9 u9 s3/\x9.length=s3.length/\q2=vq s3) ?_ ?_
 refine Jv<|Jy1 (λk L w'=>∃κ' v6,∃s1:(List Bool),L=[(0,.slice a0 p0.length u0),(1,vi p1),(5,.slice a9 x9.length u9),(6,vi v6)]/\Stp [2] K2 w1 κ' w'/\Oc Ep.bool 4 κ' w' 2 a9 u9 s1/\x9.length=s1.length/\0<=v6/\vu ((p0.length:Int)-v6)=k/\cntM (eR p0 p1) k v6 s1=some q2) ⟨_,_,⟨K2,0,x9,R,Jj3,f4,R,(by decide),(by simp),hq7⟩,(KM R)⟩ ?_
 rintro k _ w13 ⟨K14,v6,s1,rfl,S15,f16,hn17,hj5,hJ5,h⟩
 rcases k with _ | k
 have hk18:=h;obtain⟨o5,h⟩:=cc (vq (vr s1):(List Bool)⊕(((List Bool))⊕((List Bool))))
 have hc5:decide (v6<(p0.length:Int))=false:=Jo2 (by omega)
 refine Jq<|Jg3 [2,2,2,2] 2 R<|Jn3 R U26 R R<|Jb 1 R<|Jw2 R hc5<|Jc1<|Jt<|Jt ?_
 cases h
 have h:=hk18
 refine Jb1 ?_
 cases h
 exact Jw1 _ ⟨K14,s1,R,S15.wk R,f16,hn17,R⟩<|KM R
 obtain⟨o5,h,hk18⟩:=BI h;unfold eR at h
 have hc5:decide (v6<(p0.length:Int))=true:=Jn2 (by omega)
 refine Jq<|Jg3 [2,2,2,2] 2 R<|Jn3 R U26 R R<|Jb 1 R<|Jv2 R hc5<|Js<|Jp<|Jq<|Jv<|Jh3 [2,2,2,2,2,1,2,2,2,1] 4 R<|Ob h λx20 hx20 h=>Jc3 R g0 hx20 U26 Z2<|Jb3 R I2 ((g0.stp (S3.tr S15) R R).gInt hx20)<|Jn 2 R<|Ob h λx24 hx24 h=>Jf R (Jf2 f16.rdc hx24 U123 Z4 R R hn17 R)<|Ob h λy262 hy262 h=>Jk1 (κ:=K14) (E:=Ep.bool) 2 [] R R R R R R R R Z4 R R R R f16 hy262 λw20 K21 S22 f23=>Tv<|?_
 have hn24:x9.length=y262.length:=hn17.trans (Jt2 hy262).2.2.2.symm
 refine Jo<|Jz<|Jp<|Jf3 R ?_
 have hw5:sh .i64 (v6+1)=v6+1:=wr1 hj5 (Jm2 hc5) hN5
 rw[hw5]
 have hc5:=Jm2 hc5
 cases h
 exact Jz1 λa ha=>⟨k,_,Ja3 _,⟨K21,v6+1,y262,R,(S15.tr S22).wk R,f23,hn24,by omega,by omega,hk18⟩,(ha.mm R)⟩
 rintro _ w8 ⟨K9,s3,rfl,S10,f11,hn12,rfl⟩
 have h:=yI hK6
 refine Jp<|Je3 R<|Ju<|Ja2 (l:=[.tmp 4]) V84 (Jp2 R R) R ?_
 cases h
 exact⟨K9,a9,u9,(by simp only[hn12]),(hE.stp (S3.tr S10) R R),f11⟩
theorem rb {a0 u0}{p0:(List Int)}{a1 u1}{p1:(List Place)}{p2:Int}(g0:Rd (Rp.int .i64) κ w 0 a0 u0 p0) (g1:Rd Place.rp κ w 0 a1 u1 p1){r:Int}(h:mE p0 p1 p2=some r):Ret Try.prog 47 [.slice a0 p0.length u0,.slice a1 p1.length u1,vi p2] w (Pvi κ w r):=by
 unfold mE at h
 refine Jk3 κ F47 R N47 R λhE=>Je3 R<|Jq<|Je3 R ?_
 have hN1:(p0.length:Int)<=9223372036854775807:=g0.len_le
 refine Ob h λq2 hq3 hK2=>?_
 clear h
 refine Jx1 (λL w'=>∃κ',L=[]/\Stp [] κ w κ' w'/\q2=vq ()) ?_ ?_
 refine Jv<|Jy1 (λk L w'=>∃κ' v7,L=[(0,.slice a0 p0.length u0),(1,.slice a1 p1.length u1),(2,vi p2),(7,vi v7)]/\Stp [] κ w κ' w'/\0<=v7/\vu ((p0.length:Int)-v7)=k/\cntM (iF p0 p1 p2) k v7 ()=some q2) ⟨_,_,⟨κ,0,R,Jj3,(by decide),(by simp),hq3⟩,(KM R)⟩ ?_
 rintro k _ w7 ⟨K8,v7,rfl,S9,hj1,hJ1,h⟩
 rcases k with _ | k
 have hk10:=h;obtain⟨o1,h⟩:=cc (vq (vr ()):Int⊕((Unit)⊕(Unit)))
 have hc1:decide (v7<(p0.length:Int))=false:=Jo2 (by omega)
 refine Jq<|Jg3 [2,2,2,2] 2 R<|Jn3 R U26 R R<|Jb 1 R<|Jw2 R hc1<|Jc1<|Jt<|Jt ?_
 cases h
 have h:=hk10
 refine Jb1 ?_
 cases h
 exact Jw1 _ ⟨K8,R,S9.wk R,R⟩ KN
 obtain⟨o1,h,hk10⟩:=BI h;unfold iF at h
 have hc1:decide (v7<(p0.length:Int))=true:=Jn2 (by omega)
 refine Jq<|Jg3 [2,2,2,2] 2 R<|Jn3 R U26 R R<|Jb 1 R<|Jv2 R hc1<|Js<|Jp<|Jq<|Jv<|Jg3 [2,2,2,2,1,2,2,1,2,2] 3 R<|Ob h λx17 hx17 h=>Jc3 R g0 hx17 U26 Z2 ?_
 have f11:=g0.stp S9 R R
 refine Jb3 R I2 (f11.gInt hx17)<|Ob h λx19 hx19 h=>Jc3 R g1 hx19 U80 Z87<|Jd3 R U87 R Z2 ?_
 obtain⟨cse13,hre13,hle13⟩:=((g1.stp S9 R R)).gSt hx19
 obtain⟨ae13_0,ue13_0,rfl,fe13_0⟩:=Place.un hre13
 refine Jb3 R I2 (λw' hw'=>hle13 w' hw' 0 _ R)<|Jb 2 R ?_
 revert h
 cases ht14:(x19.At==p2)
 refine JF λh=>Jy R<|Js<|Jz<|Jp<|Jf3 R ?_
 have hw1:sh .i64 (v7+1)=v7+1:=wr1 hj1 (Jm2 hc1) hN1
 rw[hw1]
 have hc1:=Jm2 hc1
 cases h
 exact Jz1 λa ha=>⟨k,_,Ja3 _,⟨K8,v7+1,R,S9.wk R,by omega,by omega,hk10⟩,(ha.mm R)⟩
 refine JT λh=>Jx R<|Jg3 [2,2,2,1,2] 2 R<|Ob h λx26 hx26 h=>Jc3 R f11 hx26 U26 Z2<|Jb3 R I2 (f11.gInt hx26)<|Jb 1 R<|Ju<|Ja1<|Jw<|Jw ?_
 cases h
 obtain rfl:=Option.some.inj hk10
 have h:=yL hK2
 refine Ja1<|Jq2<|Jw<|Ja2 (l:=[.tmp 6]) V47 (Jp2 R R) R ?_
 cases h
 exact⟨K8,R,(hE.stp S9 R R)⟩
 rintro _ w4 ⟨K5,rfl,S6,rfl⟩
 have h:=yI hK2
 refine Jp<|Je3 R<|Ju<|Ja2 (l:=[.tmp 6]) V47 (Jp2 R R) R ?_
 cases h
 exact⟨K5,R,(hE.stp S6 R R)⟩
theorem oT {a0 u0}{p0:(List Int)}{p1:Int}(g0:Rd (Rp.int .i64) κ w 0 a0 u0 p0){r:Int}(h:jF p0 p1=some r):Ret Try.prog 49 [.slice a0 p0.length u0,vi p1] w (Pvi κ w r):=by
 unfold jF at h
 refine Jk3 κ F49 R N49 R λhE=>Je3 R<|Jq<|Je3 R ?_
 have hN1:(p0.length:Int)<=9223372036854775807:=g0.len_le
 refine Ob h λq2 hq3 hK2=>?_
 clear h
 refine Jx1 (λL w'=>∃κ',L=[]/\Stp [] κ w κ' w'/\q2=vq ()) ?_ ?_
 refine Jv<|Jy1 (λk L w'=>∃κ' v5,L=[(0,.slice a0 p0.length u0),(1,vi p1),(5,vi v5)]/\Stp [] κ w κ' w'/\0<=v5/\vu ((p0.length:Int)-v5)=k/\cntM (fK p0 p1) k v5 ()=some q2) ⟨_,_,⟨κ,0,R,Jj3,(by decide),(by simp),hq3⟩,(KM R)⟩ ?_
 rintro k _ w7 ⟨K8,v5,rfl,S9,hj1,hJ1,h⟩
 rcases k with _ | k
 have hk10:=h;obtain⟨o1,h⟩:=cc (vq (vr ()):Int⊕((Unit)⊕(Unit)))
 have hc1:decide (v5<(p0.length:Int))=false:=Jo2 (by omega)
 refine Jq<|Jg3 [2,2,2,2] 2 R<|Jn3 R U26 R R<|Jb 1 R<|Jw2 R hc1<|Jc1<|Jt<|Jt ?_
 cases h
 have h:=hk10
 refine Jb1 ?_
 cases h
 exact Jw1 _ ⟨K8,R,S9.wk R,R⟩ KN
 obtain⟨o1,h,hk10⟩:=BI h;unfold fK at h
 have hc1:decide (v5<(p0.length:Int))=true:=Jn2 (by omega)
 refine Jq<|Jg3 [2,2,2,2] 2 R<|Jn3 R U26 R R<|Jb 1 R<|Jv2 R hc1<|Js<|Jp<|Jq<|Jv<|Jg3 [2,2,2,1,2,2] 2 R<|Ob h λx14 hx14 h=>Jc3 R g0 hx14 U26 Z2<|Jb3 R I2 ((g0.stp S9 R R).gInt hx14)<|Jb 2 R ?_
 revert h
 cases ht12:(x14==p1)
 refine JF λh=>Jy R<|Js<|Jz<|Jp<|Jf3 R ?_
 have hw1:sh .i64 (v5+1)=v5+1:=wr1 hj1 (Jm2 hc1) hN1
 rw[hw1]
 have hc1:=Jm2 hc1
 cases h
 exact Jz1 λa ha=>⟨k,_,Ja3 _,⟨K8,v5+1,R,S9.wk R,by omega,by omega,hk10⟩,(ha.mm R)⟩
 refine JT λh=>Jx R<|Je3 R<|Ju<|Ja1<|Jw<|Jw ?_
 cases h
 obtain rfl:=Option.some.inj hk10
 have h:=yL hK2
 refine Ja1<|Jq2<|Jw<|Ja2 (l:=[.tmp 4]) V49 (Jp2 R R) R ?_
 cases h
 exact⟨K8,R,(hE.stp S9 R R)⟩
 rintro _ w4 ⟨K5,rfl,S6,rfl⟩
 have h:=yI hK2
 refine Jp<|Je3 R<|Ju<|Ja2 (l:=[.tmp 4]) V49 (Jp2 R R) R ?_
 cases h
 exact⟨K5,R,(hE.stp S6 R R)⟩
theorem mD {p0:Int}{c0:Int}{b1}(gb1:Bc κ w 0 b1 2 [vi c0]){r:Bool}(h:dA p0 c0=some r):Ret Try.prog 41 [vi p0,.pointer (some ⟨b1,0,none⟩)] w (Pvb κ w r):=by
 unfold dA at h
 refine Jk3 κ F41 R N41 R λhE=>Je3 R<|Jg3 [2,2,2,2,1,2,2,2] 3 R<|Ob h λp10 h hK1=>Ju1 [(3,2),(4,1),(5,2),(6,2)] [(7,2)] (λL w'=>L=[(1,.pointer (some ⟨b1,0,none⟩)),(3,.bool false),(10,.bool p10)]/\∃κ',Stp [] κ w κ' w') tv ?_ ?_
 revert h
 cases ht2:decide (p0<0)
 refine JF λh=>Jn 1 R<|Jb3 R I2 (gb1.ld 0 R R)<|Jn 2 R ?_
 cases h
 exact Jv1 _ tv ⟨R,_,Jj3⟩<|KM R
 refine JT λh=>Jn 1 R<|Jd1 R R R R<|Jn 2 R ?_
 cases h
 exact Jv1 _ tv ⟨R,_,Jj3⟩<|KM R
 rintro _ w3 _ ⟨rfl,K4,S5⟩
 have h:=hK1
 refine Jb 1 R<|Ju<|Ja2 (l:=[.tmp 3]) V41 (Jp2 R R) R ?_
 cases h
 exact⟨K4,R,(hE.stp S5 R R)⟩
theorem nj {aa ab}{p0:dice}{p1:Int}{b0}(g0_0:Rd (Rp.int .u8) κ w 0 aa ab p0.b) (gb0:Bc κ w 2 b0 52 [.slice aa p0.b.length ab,vi p0.i,.int .u64 p0.h]){r:Int×Int×Int}(h:fP p0 p1=some r):Ret Try.prog 12 [.pointer (some ⟨b0,0,none⟩),vi p1] w (λv w'=>∃(κ':Col),v=vi r.1/\Ent κ w κ' w'/\Bc κ' w' 2 b0 52 [.slice aa p0.b.length ab,vi r.2.1,.int .u64 r.2.2]):=by
 unfold fP at h
 refine Jk3 κ F12 R N12 R λhE=>Je3 R<|Jg3 [2,2,2,2,1,2,2,2,2,1] 2 R<|Jf R (bV R R)<|Jd3 R U52 R Z37<|Jb3 R I37 (gb0.ld 2 R R)<|Jn 2 R<|Jf R (bV R R)<|Jd3 R U52 R Z37<|Ji1 (κ:=κ) 2 (off:=2) (vc:=[.int .u64 (IntKind.u64.wrap ((IntKind.u64.wrap<|p0.h * 6364136223846793005)+1442695040888963407))]) (cs':=[.slice aa p0.b.length ab,vi p0.i,.int .u64 (IntKind.u64.wrap ((IntKind.u64.wrap<|p0.h * 6364136223846793005)+1442695040888963407))]) R R R R R R R Z37 R R gb0 R R λw1 S2 f3=>Tv<|Jd<|Jg3 [2,2,2,1,2,2,2,2] 1 R<|Jf R (bV R R)<|Jd3 R U52 R Z37<|Jb3 R I37 (f3.ld 2 R R)<|Jf R (rz R R R (by decide))<|Jn 1 R<|Jf R (Jh2 U37 U2 R R)<|Jb 1 R<|Jq<|Jq<|Js1 (κ:=κ) [2] none [(0,2),(1,2),(2,2),(4,2),(5,2),(6,2),(3,0),(7,0),(8,2),(9,2)] [] (by kernel_rfl) (by kernel_rfl) λw5 S4=>Jn 1 R<|Jf R (bV R R)<|Jd3 R U52 R Z3<|Jn 1 R<|Jf R (bV R R)<|Jd3 R U52 R Z22 ?_
 have f6:=f3.stp S4 R R
 refine Jg R (Jc2 I3 R R<|hvC (f6.ld 1 R R) R)<|Jg R (Jc2 I22 R R<|hvC (f6.ld 0 R R) R)<|Jn3 R U22 R R<|Jn 1 R<|Jt1<|Jd<|Ob h λq1 h hK7=>Jx1 (λL w'=>∃κ',L=[(0,.pointer (some ⟨b0,0,none⟩)),(1,vi p1),(5,vi q1.1)]/\Stp [2] κ w5 κ' w'/\Bc κ' w' 2 b0 52 [.slice aa p0.b.length ab,vi q1.2,.int .u64 (IntKind.u64.wrap ((IntKind.u64.wrap<|p0.h * 6364136223846793005)+1442695040888963407))]) ?_ ?_
 revert h
 cases ht12:decide (p0.i<(p0.b.length:Int))
 refine JF λh=>Jy R<|Js ?_
 cases h
 exact Jw1 _ ⟨κ,R,Jj3,f6⟩<|KM R
 refine JT λh=>Jx R<|Jq<|Js1 (κ:=κ) [0,2] none [(0,2),(1,2),(2,2),(3,2),(5,2),(6,2),(7,2),(4,0),(8,0),(9,2),(10,0),(11,2),(12,2),(13,2)] [] (by kernel_rfl) (by kernel_rfl) λw14 S13=>Jn 2 R<|Jf R (bV R R)<|Jd3 R U52 R Z22<|Jn 1 R<|Jf R (bV R R)<|Jd3 R U52 R Z3 ?_
 have f15:=f6.stp S13 R R
 refine Jg R (Jc2 I22 R R<|hvC (f15.ld 0 R R) R)<|Jg R (Jc2 I3 R R<|hvC (f15.ld 1 R R) R)<|Ob h λx41 hx41 h=>Jc3 R g0_0 hx41 U22 Z5<|Jg R (Jc2 I5 R R<|hvC ((g0_0.stp (T3 S2 S4 S13) R R).gInt hx41) R)<|Jf R (Jh2 U5 U2 R R)<|Jn 2 R<|Jt1<|Jd<|Jh3 [2,2,2,2,1,2,2,2,1] 2 R<|Jf R (bV R R)<|Jd3 R U52 R Z3<|Jb3 R I3 (f15.ld 1 R R)<|Jn 1 R<|Jf R (bV R R)<|Jd3 R U52 R Z3<|Ji1 (κ:=κ) 2 (off:=1) (vc:=[vi<|IntKind.i64.wrap<|p0.i+1]) (cs':=[.slice aa p0.b.length ab,vi (IntKind.i64.wrap<|p0.i+1),.int .u64 (IntKind.u64.wrap ((IntKind.u64.wrap<|p0.h * 6364136223846793005)+1442695040888963407))]) R R R R R R R Z3 R R f15 R R λw17 S18 f19=>Tv<|Jo ?_
 cases h
 exact Jw1 _ ⟨κ,R,(S13.tr S18).wk R,f19⟩<|KM R
 rintro _ w8 ⟨K9,rfl,S10,f11⟩
 have h:=hK7
 refine Jp<|Jg3 [2,2,2,2] 2 R<|Ob h λ_z55 hz55 h=>Jf R (nC R R R<|rE hz55)<|Jb 1 R<|Ju<|Ja2 (l:=[.tmp 4]) V12 (Jp2 R R) R ?_
 cases h
 exact⟨K9,R,(hE.stp (T3 S2 S4 S10) R R),f11⟩
theorem fo {a0 u0}{p0:(List Int)}{a1 u1}{p1:(List Int)}(g0:Rd (Rp.int .i64) κ w 0 a0 u0 p0) (g1:Rd (Rp.int .i64) κ w 0 a1 u1 p1){r:Bool}(h:cj p0 p1=some r):Ret Try.prog 26 [.slice a0 p0.length u0,.slice a1 p1.length u1] w (Pvb κ w r):=by
 unfold cj at h
 refine Jk3 κ F26 R N26 R λhE=>Je3 R<|Jq<|Jg3 [2,2,2,2,2] 1 R<|Jn3 R U26 R R<|Jn 1 R<|Jn3 R U26 R R<|Jb 1 R ?_
 revert h
 cases ht1:((p0.length:Int) !=(p1.length:Int))
 refine JF λh=>Jy R<|Js<|Jp<|Jq<|Jg3 [2,2,2] 1 R<|Jn3 R U26 R R<|Jb 1 R ?_
 have hN2:(p0.length:Int)<=9223372036854775807:=g0.len_le
 refine Ob h λq2 hq4 hK3=>?_
 clear h
 refine Jx1 (λL w'=>∃κ',L=[]/\Stp [] κ w κ' w'/\q2=vq ()) ?_ ?_
 refine Jv<|Jy1 (λk L w'=>∃κ' v13,L=[(0,.slice a0 p0.length u0),(1,.slice a1 p1.length u1),(12,vi (p0.length:Int)),(13,vi v13)]/\Stp [] κ w κ' w'/\0<=v13/\vu ((p0.length:Int)-v13)=k/\cntM (cv p0 p1) k v13 ()=some q2) ⟨_,_,⟨κ,0,R,Jj3,(by decide),(by simp),hq4⟩,(KM R)⟩ ?_
 rintro k _ w8 ⟨K9,v13,rfl,S10,hj2,hJ2,h⟩
 rcases k with _ | k
 have hk11:=h;obtain⟨o2,h⟩:=cc (vq (vr ()):Bool⊕((Unit)⊕(Unit)))
 have hc2:decide (v13<(p0.length:Int))=false:=Jo2 (by omega)
 refine Je3 R<|Jq<|Jw2 R hc2<|Jc1<|Jt<|Jt ?_
 cases h
 have h:=hk11
 refine Jb1 ?_
 cases h
 exact Jw1 _ ⟨K9,R,S10.wk R,R⟩ KN
 obtain⟨o2,h,hk11⟩:=BI h;unfold cv at h
 have hc2:decide (v13<(p0.length:Int))=true:=Jn2 (by omega)
 refine Je3 R<|Jq<|Jv2 R hc2<|Js<|Jp<|Jq<|Jv<|Je3 R<|Jq<|Js1 (κ:=K9) [0] none [(0,2),(1,2),(2,2),(4,2),(5,2),(6,2),(3,0),(7,0),(8,2)] [] (by kernel_rfl) (by kernel_rfl) λw13 S12=>Jn 2 R<|Ob h λx18 hx18 h=>Jc3 R g0 hx18 U26 Z2<|Jn 2 R<|Ob h λx22 hx22 h=>Jc3 R g1 hx22 U26 Z2<|Jg R (Jc2 I2 R R<|hvC ((g0.stp (S10.tr S12) R R).gInt hx18) R)<|Jg R (Jc2 I2 R R<|hvC ((g1.stp (S10.tr S12) R R).gInt hx22) R)<|Jn 1 R<|Jt1<|Jd ?_
 revert h
 cases ht16:(x18 !=x22)
 refine JF λh=>Jy R<|Js<|Jz<|Jp<|Jf3 R ?_
 have hw2:sh .i64 (v13+1)=v13+1:=wr1 hj2 (Jm2 hc2) hN2
 rw[hw2]
 have hc2:=Jm2 hc2
 cases h
 exact Jz1 λa ha=>⟨k,_,Ja3 _,⟨K9,v13+1,R,(S10.tr S12).wk R,by omega,by omega,hk11⟩,(ha.mm R)⟩
 refine JT λh=>Jx R<|Je3 R<|Ju<|Ja1<|Jw<|Jw ?_
 cases h
 obtain rfl:=Option.some.inj hk11
 have h:=yL hK3
 refine Ja1<|Jq2<|Jw<|Ja2 (l:=[.tmp 4]) V26 (Jp2 R R) R ?_
 cases h
 exact⟨K9,R,(hE.stp (S10.tr S12) R R)⟩
 rintro _ w5 ⟨K6,rfl,S7,rfl⟩
 have h:=yI hK3
 refine Jp<|Je3 R<|Ju<|Ja2 (l:=[.tmp 4]) V26 (Jp2 R R) R ?_
 cases h
 exact⟨K6,R,(hE.stp S7 R R)⟩
 refine JT λh=>Jx R<|Je3 R<|Ju<|Jw<|Ja2 (l:=[.tmp 4]) V26 (Jp2 R R) R ?_
 cases h
 exact⟨κ,R,hE⟩
end Go.Proofs.Ytpcjbkgbnoocaaa
