/- The walks, part 2. By program. -/
import Derived.Test.YtpcjbkgbnoocaaaGreatFnsMMO
import Derived.Test.YtpcjbkgbnoocaaaGreatAlMO
set_option linter.unusedVariables false
set_option linter.unusedSimpArgs false
open Go.IntKind renaming wrap → t0
open Sum renaming inr → xe, inl → xf
open Int renaming toNat → xh
namespace Go.Proofs.YtpcjbkgbnoocaaaGreat
open Go Go.Wk Go.Proofs
set_option maxRecDepth 100000
set_option maxHeartbeats 1000000
variable {w:World}{κ:Col}
theorem cD {p0:Int}{p1:Int}{p2:Int}  {r:Bool}(h:dr p0 p1 p2=some r):Ret Tryz.prog 57 [vi p0,vi p1,vi p2] w (Pvb κ w r):=by
 unfold dr at h
 refine Jk3 κ F57 R N57 R λhE=>Je3 R<|Jg3 [2,2,2,2,2,2,2,2,2] 4 R<|Ob h λp14 h hK1=>Ju1 [(4,2),(5,2),(6,2),(7,2)] [(8,2)] (λL w'=>L=[(6,.bool false),(14,.bool p14)]/\∃κ',Stp [] κ w κ' w') tv ?_ ?_
 revert h
 cases ht2:decide (p1<=p0)
 refine JF λh=>Jn 4 R ?_
 cases h
 exact Jv1 _ tv ⟨R,_,Jj3⟩<|KM R
 refine JT λh=>Jn 4 R ?_
 cases h
 exact Jv1 _ tv ⟨R,_,Jj3⟩<|KM R
 rintro _ w3 _ ⟨rfl,K4,S5⟩
 have h:=hK1
 refine Jb 1 R<|Ju<|Ja2 (l:=[.tmp 6]) V57 (Jp2 R R) R ?_
 cases h
 exact⟨K4,R,(hE.stp S5 R R)⟩
theorem de {p0:Int}  {r:Int}(h:cZ p0=some r):Ret Tryz.prog 59 [vi p0] w (Pvi κ w r):=by
 unfold cZ at h
 refine Jk3 κ F59 R N59 R λhE=>Je3 R<|Je3 R<|Jq<|Ob h λq2 hq3 hK2=>?_
 clear h
 refine Jx1 (λL w'=>∃κ',∃s3:Int×Int,L=[(3,vi s3.2)]/\Stp [] κ w κ' w'/\q2=xe s3) ?_ ?_
 refine Jv<|Jy1 (λk L w'=>∃κ',∃s1:Int×Int,L=[(0,vi s1.1),(3,vi s1.2)]/\Stp [] κ w κ' w'/\bZ eK k s1=some q2) ⟨_,_,⟨κ,(p0,(1:Int)),R,Jj3,hq3⟩,(KM R)⟩ ?_
 rintro k _ w7 ⟨K8,s1,rfl,S9,h⟩
 rcases k with _ | k
 cases h
 obtain⟨o1,h,hk10⟩:=BI h;unfold eK at h
 refine Jq<|Je3 R ?_
 revert h
 cases ht11:decide (0<s1.1)
 refine JF λh=>Jy R<|Jc1<|Jt<|Jt ?_
 cases h
 have h:=hk10
 refine Jb1 ?_
 cases h
 exact Jw1 _ ⟨K8,(s1.1,s1.2),R,S9.wk R,R⟩<|KM R
 refine JT λh=>Jx R<|Js<|Jp<|Jq<|Jv<|Jf3 R<|Jz<|Jp<|Jf3 R ?_
 cases h
 exact Jz1 λa ha=>⟨k,_,Ja3 _,⟨K8,(((IntKind.i64.wrap<|s1.1-1):Int),((IntKind.i64.wrap<|s1.2 * 2):Int)),R,S9.wk R,hk10⟩,(ha.mm R)⟩
 rintro _ w4 ⟨K5,s3,rfl,S6,rfl⟩
 have h:=yI hK2
 refine Jp<|Je3 R<|Ju<|Ja2 (l:=[.tmp 2]) V59 (Jp2 R R) R ?_
 cases h
 exact⟨K5,R,(hE.stp S6 R R)⟩
theorem lY {p0:Bool}  {r:Int}(h:g7 p0=some r):Ret Tryz.prog 200 [.bool p0] w (Pvi κ w r):=by
 unfold g7 at h
 refine Jk3 κ F200 R N200 R λhE=>Je3 R<|Jq<|Je3 R ?_
 revert h
 cases ht1:p0
 refine JF λh=>Jy R<|Js<|Jp<|Je3 R<|Ju<|Ja2 (l:=[.tmp 2]) V200 (Jp2 R R) R ?_
 cases h
 exact⟨κ,R,hE⟩
 refine JT λh=>Jx R<|Je3 R<|Ju<|Jw<|Ja2 (l:=[.tmp 2]) V200 (Jp2 R R) R ?_
 cases h
 exact⟨κ,R,hE⟩
theorem qo {a0 u0}{p0:(List (List Int))}{p1:Int}{p2:Int}(g0:Rd (Rp.sl (Rp.int .i64)) κ w 0 a0 u0 p0){r:Int}(h:jJ p0 p1 p2=some r):Ret Tryz.prog 54 [.slice a0 p0.length u0,vi p1,vi p2] w (Pvi κ w r):=by
 unfold jJ at h
 refine Jk3 κ F54 R N54 R λhE=>Je3 R<|Jq<|Je3 R ?_
 have hN1:(p0.length:Int)<=9223372036854775807:=g0.len_le
 refine Ob h λq2 hq3 hK2=>?_
 clear h
 refine Jx1 (λL w'=>∃κ',L=[]/\Stp [] κ w κ' w'/\q2=xe ()) ?_ ?_
 refine Jv<|Jy1 (λk L w'=>∃κ' v7,L=[(0,.slice a0 p0.length u0),(1,vi p1),(2,vi p2),(7,vi v7)]/\Stp [] κ w κ' w'/\0<=v7/\xh ((p0.length:Int)-v7)=k/\cntM (fQ p0 p1 p2) k v7 ()=some q2) ⟨_,_,⟨κ,0,R,Jj3,(by decide),(by simp),hq3⟩,(KM R)⟩ ?_
 rintro k _ w7 ⟨K8,v7,rfl,S9,hj1,hJ1,h⟩
 rcases k with _ | k
 have hk10:=h;obtain⟨o1,h⟩:=bP (xe (xf ()):Int⊕((Unit)⊕(Unit)))
 have hc1:decide (v7<(p0.length:Int))=false:=Jo2 (by omega)
 refine Jq<|Jg3 [2,2,2,2] 2 R<|Jn3 R U26 R R<|Jb 1 R<|Jw2 R hc1<|Jc1<|Jt<|Jt ?_
 cases h
 have h:=hk10
 refine Jb1 ?_
 cases h
 exact Jw1 _ ⟨K8,R,S9.wk R,R⟩ KN
 obtain⟨o1,h,hk10⟩:=BI h;unfold fQ at h
 have hc1:decide (v7<(p0.length:Int))=true:=Jn2 (by omega)
 refine Jq<|Jg3 [2,2,2,2] 2 R<|Jn3 R U26 R R<|Jb 1 R<|Jv2 R hc1<|Js<|Jp<|Jq<|Jv<|Jg3 [2,2,2,1,2,1,2,2,2,2,2,2,1,2,1,2,2,2] 2 R<|Ob h λx16 hx16 h=>Jc3 R g0 hx16 U26 Z29 ?_
 have f11:=g0.stp S9 R R
 obtain⟨ax16,ux16,f12,hl13⟩:=f11.gSl hx16
 refine Jb3 R I29 hl13<|Ob h λx18 hx18 h=>Jc3 R f12 hx18 U29 Z2<|Jb3 R I2 (f12.gInt hx18)<|Jn 3 R<|Ob h λp31 h hK14=>Ju1 [(9,2),(10,2),(11,2),(12,1),(13,2),(14,1),(15,2),(16,2),(17,2)] [] (λL w'=>L=[(0,.slice a0 p0.length u0),(1,vi p1),(2,vi p2),(7,vi v7),(31,.bool p31)]/\∃κ',Stp [] K8 w7 κ' w') tv ?_ ?_
 revert h
 cases ht15:(x18==p1)
 refine JF λh=>Jn 3 R<|Jd1 R R R R<|Jn 1 R<|Jd1 R R R R<|Jn 3 R ?_
 cases h
 exact Jv1 _ tv ⟨R,_,Jj3⟩<|KM R
 refine JT λh=>Jn 2 R<|Ob h λx25 hx25 h=>Jc3 R f11 hx25 U26 Z29 ?_
 obtain⟨ax25,ux25,f16,hl17⟩:=f11.gSl hx25
 refine Jb3 R I29 hl17<|Ob h λx27 hx27 h=>Jc3 R f16 hx27 U29 Z2<|Jb3 R I2 (f16.gInt hx27)<|Jn 3 R ?_
 cases h
 exact Jv1 _ tv ⟨R,_,Jj3⟩<|KM R
 rintro _ w18 _ ⟨rfl,K19,S20⟩
 have h:=hK14
 refine Jd ?_
 revert h
 cases ht21:p31
 refine JF λh=>Jy R<|Js<|Jz<|Jp<|Jf3 R ?_
 have hw1:t0 .i64 (v7+1)=v7+1:=wr1 hj1 (Jm2 hc1) hN1
 rw[hw1]
 have hc1:=Jm2 hc1
 cases h
 exact Jz1 λa ha=>⟨k,_,Ja3 _,⟨K19,v7+1,R,(S9.tr S20).wk R,by omega,by omega,hk10⟩,(ha.mm R)⟩
 refine JT λh=>Jx R<|Je3 R<|Ju<|Ja1<|Jw<|Jw ?_
 cases h
 obtain rfl:=Option.some.inj hk10
 have h:=yL hK2
 refine Ja1<|Jq2<|Jw<|Ja2 (l:=[.tmp 6]) V54 (Jp2 R R) R ?_
 cases h
 exact⟨K19,R,(hE.stp (S9.tr S20) R R)⟩
 rintro _ w4 ⟨K5,rfl,S6,rfl⟩
 have h:=yI hK2
 refine Jp<|Je3 R<|Ju<|Ja2 (l:=[.tmp 6]) V54 (Jp2 R R) R ?_
 cases h
 exact⟨K5,R,(hE.stp S6 R R)⟩
theorem dx {a0 u0}{p0:(List Int)}(g0:Rd (Rp.int .i64) κ w 0 a0 u0 p0){r:(List Int)}(h:dz p0=some r):Ret Tryz.prog 56 [.slice a0 p0.length u0] w (Pvs E6 2 κ w r):=by
 unfold dz at h
 refine Jk3 κ F56 R N56 R λhE=>Je3 R<|Je [1,2,1,2] R<|Jo1 (κ:=κ) (E:=E6) 2 R R R R R Y29 bG R λa3 u3 w1 K2 S3 f4=>Tv<|Jn 1 R<|Ob h λx5 hx5 h=>Jm1 (κ:=K2) (E:=E6) 2 [] R R R R R R R R R Y29 bG R R R R f4 (Sl.srcP (bT _)<|g0.stp S3 R R) bK hx5 R λa5 u5 w6 K7 S8 f9=>Tv<|Jb 1 R<|Ju<|Ja2 (l:=[.tmp 2]) V56 (Jp2 R R) R ?_
 cases h
 exact⟨K7,a5,u5,R,(hE.stp (S3.tr S8) R R),f9⟩
theorem lZ {a0 u0}{p0:(List Int)}{p1:Int}(g0:Rd (Rp.int .i64) κ w 0 a0 u0 p0){r:Bool}(h:jY p0 p1=some r):Ret Tryz.prog 171 [.slice a0 p0.length u0,vi p1] w (Pvb κ w r):=by
 unfold jY at h
 refine Jk3 κ F171 R N171 R λhE=>Je3 R<|Jq<|Je3 R ?_
 have hN1:(p0.length:Int)<=9223372036854775807:=g0.len_le
 refine Ob h λq2 hq3 hK2=>?_
 clear h
 refine Jx1 (λL w'=>∃κ',L=[]/\Stp [] κ w κ' w'/\q2=xe ()) ?_ ?_
 refine Jv<|Jy1 (λk L w'=>∃κ' v5,L=[(0,.slice a0 p0.length u0),(1,vi p1),(5,vi v5)]/\Stp [] κ w κ' w'/\0<=v5/\xh ((p0.length:Int)-v5)=k/\cntM (iV p0 p1) k v5 ()=some q2) ⟨_,_,⟨κ,0,R,Jj3,(by decide),(by simp),hq3⟩,(KM R)⟩ ?_
 rintro k _ w7 ⟨K8,v5,rfl,S9,hj1,hJ1,h⟩
 rcases k with _ | k
 have hk10:=h;obtain⟨o1,h⟩:=bP (xe (xf ()):Bool⊕((Unit)⊕(Unit)))
 have hc1:decide (v5<(p0.length:Int))=false:=Jo2 (by omega)
 refine Jq<|Jg3 [2,2,2,2] 2 R<|Jn3 R U29 R R<|Jb 1 R<|Jw2 R hc1<|Jc1<|Jt<|Jt ?_
 cases h
 have h:=hk10
 refine Jb1 ?_
 cases h
 exact Jw1 _ ⟨K8,R,S9.wk R,R⟩ KN
 obtain⟨o1,h,hk10⟩:=BI h;unfold iV at h
 have hc1:decide (v5<(p0.length:Int))=true:=Jn2 (by omega)
 refine Jq<|Jg3 [2,2,2,2] 2 R<|Jn3 R U29 R R<|Jb 1 R<|Jv2 R hc1<|Js<|Jp<|Jq<|Jv<|Jg3 [2,2,2,1,2,2] 2 R<|Ob h λx14 hx14 h=>Jc3 R g0 hx14 U29 Z2<|Jb3 R I2 ((g0.stp S9 R R).gInt hx14)<|Jb 2 R ?_
 revert h
 cases ht12:(x14==p1)
 refine JF λh=>Jy R<|Js<|Jz<|Jp<|Jf3 R ?_
 have hw1:t0 .i64 (v5+1)=v5+1:=wr1 hj1 (Jm2 hc1) hN1
 rw[hw1]
 have hc1:=Jm2 hc1
 cases h
 exact Jz1 λa ha=>⟨k,_,Ja3 _,⟨K8,v5+1,R,S9.wk R,by omega,by omega,hk10⟩,(ha.mm R)⟩
 refine JT λh=>Jx R<|Je3 R<|Ju<|Ja1<|Jw<|Jw ?_
 cases h
 obtain rfl:=Option.some.inj hk10
 have h:=yL hK2
 refine Ja1<|Jq2<|Jw<|Ja2 (l:=[.tmp 4]) V171 (Jp2 R R) R ?_
 cases h
 exact⟨K8,R,(hE.stp S9 R R)⟩
 rintro _ w4 ⟨K5,rfl,S6,rfl⟩
 have h:=yI hK2
 refine Jp<|Je3 R<|Ju<|Ja2 (l:=[.tmp 4]) V171 (Jp2 R R) R ?_
 cases h
 exact⟨K5,R,(hE.stp S6 R R)⟩
theorem nW {a0 u0}{p0:(List Int)}{a1 u1}{p1:(List Int)}(g0:Rd (Rp.int .i64) κ w 0 a0 u0 p0) (g1:Rd (Rp.int .i64) κ w 0 a1 u1 p1){r:Bool}(h:fS p0 p1=some r):Ret Tryz.prog 172 [.slice a0 p0.length u0,.slice a1 p1.length u1] w (Pvb κ w r):=by
 unfold fS at h
 refine Jk3 κ F172 R N172 R λhE=>Je3 R<|Jq<|Jg3 [2,2,2,2,2] 1 R<|Jn3 R U29 R R<|Jn 1 R<|Jn3 R U29 R R<|Jb 1 R ?_
 revert h
 cases ht1:((p0.length:Int) !=(p1.length:Int))
 refine JF λh=>Jy R<|Js<|Jp<|Jq<|Je3 R ?_
 have hN2:(p0.length:Int)<=9223372036854775807:=g0.len_le
 refine Ob h λq2 hq4 hK3=>?_
 clear h
 refine Jx1 (λL w'=>∃κ',L=[]/\Stp [] κ w κ' w'/\q2=xe ()) ?_ ?_
 refine Jv<|Jy1 (λk L w'=>∃κ' v5,L=[(0,.slice a0 p0.length u0),(1,.slice a1 p1.length u1),(5,vi v5)]/\Stp [] κ w κ' w'/\0<=v5/\xh ((p0.length:Int)-v5)=k/\cntM (dO p0 p1) k v5 ()=some q2) ⟨_,_,⟨κ,0,R,Jj3,(by decide),(by simp),hq4⟩,(KM R)⟩ ?_
 rintro k _ w8 ⟨K9,v5,rfl,S10,hj2,hJ2,h⟩
 rcases k with _ | k
 have hk11:=h;obtain⟨o2,h⟩:=bP (xe (xf ()):Bool⊕((Unit)⊕(Unit)))
 have hc2:decide (v5<(p0.length:Int))=false:=Jo2 (by omega)
 refine Jq<|Jg3 [2,2,2,2] 2 R<|Jn3 R U29 R R<|Jb 1 R<|Jw2 R hc2<|Jc1<|Jt<|Jt ?_
 cases h
 have h:=hk11
 refine Jb1 ?_
 cases h
 exact Jw1 _ ⟨K9,R,S10.wk R,R⟩ KN
 obtain⟨o2,h,hk11⟩:=BI h;unfold dO at h
 have hc2:decide (v5<(p0.length:Int))=true:=Jn2 (by omega)
 refine Jq<|Jg3 [2,2,2,2] 2 R<|Jn3 R U29 R R<|Jb 1 R<|Jv2 R hc2<|Js<|Jp<|Jq<|Jv<|Jq<|Js1 (κ:=K9) [0] none [(0,2),(1,2),(2,2),(4,2),(5,2),(6,2),(3,0),(7,0),(8,2)] [] (by kernel_rfl) (by kernel_rfl) λw13 S12=>Jn 2 R<|Ob h λx19 hx19 h=>Jc3 R g0 hx19 U29 Z2<|Jn 2 R<|Ob h λx23 hx23 h=>Jc3 R g1 hx23 U29 Z2<|Jg R (Jc2 I2 R R<|hvC ((g0.stp (S10.tr S12) R R).gInt hx19) R)<|Jg R (Jc2 I2 R R<|hvC ((g1.stp (S10.tr S12) R R).gInt hx23) R)<|Jn 1 R<|Jt1<|Jd ?_
 revert h
 cases ht16:(x19 !=x23)
 refine JF λh=>Jy R<|Js<|Jz<|Jp<|Jf3 R ?_
 have hw2:t0 .i64 (v5+1)=v5+1:=wr1 hj2 (Jm2 hc2) hN2
 rw[hw2]
 have hc2:=Jm2 hc2
 cases h
 exact Jz1 λa ha=>⟨k,_,Ja3 _,⟨K9,v5+1,R,(S10.tr S12).wk R,by omega,by omega,hk11⟩,(ha.mm R)⟩
 refine JT λh=>Jx R<|Je3 R<|Ju<|Ja1<|Jw<|Jw ?_
 cases h
 obtain rfl:=Option.some.inj hk11
 have h:=yL hK3
 refine Ja1<|Jq2<|Jw<|Ja2 (l:=[.tmp 4]) V172 (Jp2 R R) R ?_
 cases h
 exact⟨K9,R,(hE.stp (S10.tr S12) R R)⟩
 rintro _ w5 ⟨K6,rfl,S7,rfl⟩
 have h:=yI hK3
 refine Jp<|Je3 R<|Ju<|Ja2 (l:=[.tmp 4]) V172 (Jp2 R R) R ?_
 cases h
 exact⟨K6,R,(hE.stp S7 R R)⟩
 refine JT λh=>Jx R<|Je3 R<|Ju<|Jw<|Ja2 (l:=[.tmp 4]) V172 (Jp2 R R) R ?_
 cases h
 exact⟨κ,R,hE⟩
theorem pv {a0 u0}{p0:(List Int)}(g0:Rd (Rp.int .i64) κ w 0 a0 u0 p0){r:(List Int)}(h:iZ p0=some r):Ret Tryz.prog 123 [.slice a0 p0.length u0] w (Pvs E6 2 κ w r):=by
 unfold iZ at h
 refine Jk3 κ F123 R N123 R λhE=>Je3 R<|Je [1,2] R<|Jo1 (κ:=κ) (E:=E6) 2 R R R R R Y29 bG R λa7 u7 w1 K2 S3 f4=>Tv<|Jb 1 R<|Jq<|Je3 R ?_
 have hN5:(p0.length:Int)<=9223372036854775807:=g0.len_le
 refine Ob h λq2 hq7 hK6=>?_
 clear h
 refine Jx1 (λL w'=>∃κ',∃s3:(List Int),∃ad ac,L=[(3,.slice ad s3.length ac)]/\Stp [3] K2 w1 κ' w'/\Oc E6 2 κ' w' 2 ad ac s3/\q2=xe s3) ?_ ?_
 refine Jv<|Jy1 (λk L w'=>∃κ' v4,∃s1:(List Int),∃aa ab,L=[(0,.slice a0 p0.length u0),(3,.slice aa s1.length ab),(4,vi v4)]/\Stp [3] K2 w1 κ' w'/\Oc E6 2 κ' w' 2 aa ab s1/\0<=v4/\xh ((p0.length:Int)-v4)=k/\cntM (eO p0) k v4 s1=some q2) ⟨_,_,⟨K2,0,(([]:List Int):(List Int)),a7,u7,R,Jj3,f4,(by decide),(by simp),hq7⟩,(KM R)⟩ ?_
 rintro k _ w12 ⟨K13,v4,s1,aa,ab,rfl,S14,f15,hj5,hJ5,h⟩
 rcases k with _ | k
 have hk16:=h;obtain⟨o5,h⟩:=bP (xe (xf s1):(List Int)⊕(((List Int))⊕((List Int))))
 have hc5:decide (v4<(p0.length:Int))=false:=Jo2 (by omega)
 refine Jq<|Jg3 [2,2,2,2] 2 R<|Jn3 R U29 R R<|Jb 1 R<|Jw2 R hc5<|Jc1<|Jt<|Jt ?_
 cases h
 have h:=hk16
 refine Jb1 ?_
 cases h
 exact Jw1 _ ⟨K13,s1,aa,ab,R,S14.wk R,f15,R⟩<|KM R
 obtain⟨o5,h,hk16⟩:=BI h;unfold eO at h
 have hc5:decide (v4<(p0.length:Int))=true:=Jn2 (by omega)
 refine Jq<|Jg3 [2,2,2,2] 2 R<|Jn3 R U29 R R<|Jb 1 R<|Jv2 R hc5<|Js<|Jp<|Jq<|Jv<|Jg3 [2,2,2] 1 R<|Jn3 R U29 R R<|Jb 1 R<|Jq<|Ob h λq5 hq19 hK18=>?_
 clear h
 refine Jx1 (λL w'=>∃κ' s6,L=[(0,.slice a0 p0.length u0),(3,.slice aa s1.length ab),(4,vi v4),(5,vi s6)]/\Stp [] K13 w12 κ' w'/\q5=xe s6) ?_ ?_
 refine Jv<|Jy1 (λk L w'=>∃κ' s4,L=[(0,.slice a0 p0.length u0),(3,.slice aa s1.length ab),(4,vi v4),(5,vi s4)]/\Stp [] K13 w12 κ' w'/\bZ (e6 p0 v4 s1) k s4=some q5) ⟨_,_,⟨K13,((s1.length:Int):Int),R,Jj3,hq19⟩,(KM R)⟩ ?_
 rintro k _ w23 ⟨K24,s4,rfl,S25,h⟩
 rcases k with _ | k
 cases h
 obtain⟨o17,h,hk26⟩:=BI h;unfold e6 at h
 refine Jq<|Jq<|Js1 (κ:=K24) [0,2] none [(0,2),(1,2),(2,2),(3,2),(4,2),(5,2),(6,2),(8,2),(9,2),(10,2),(7,0),(11,0),(12,2),(13,2)] [] (by kernel_rfl) (by kernel_rfl) λw28 S27=>Jn 3 R<|Ob h λp29 h hK29=>Ju1 [(3,2),(4,2),(5,2),(6,2),(8,2),(9,2),(10,2),(7,0),(11,0),(12,2),(13,2)] [] (λL w'=>L=[(0,.slice a0 p0.length u0),(3,.slice aa s1.length ab),(4,vi v4),(5,vi s4),(29,.bool p29)]/\∃κ',Stp [] K24 w28 κ' w') (Cl.refl _ _ _) ?_ ?_
 revert h
 cases ht30:decide (0<s4)
 refine JF λh=>Jn 7 R<|Je1 R R R R<|Je1 R R R R<|Jn 2 R ?_
 cases h
 exact Jv1 _ (Cl.refl _ _ _) ⟨R,_,Jj3⟩<|KM R
 refine JT λh=>Jn 3 R<|Ob h λx22 hx22 h=>Jc3 R f15.rdc hx22 U29 Z2<|Jn 2 R<|Ob h λx26 hx26 h=>Jc3 R g0 hx26 U29 Z2<|Jg R (Jc2 I2 R R<|hvC ((f15.stp (S25.tr S27) R R).rdc.gInt hx22) R)<|Jg R (Jc2 I2 R R<|hvC ((g0.stp (T4 S3 S14 S25 S27) R R).gInt hx26) R)<|Jn 2 R ?_
 cases h
 exact Jv1 _ (Cl.refl _ _ _) ⟨R,_,Jj3⟩<|KM R
 rintro _ w33 _ ⟨rfl,K34,S35⟩
 have h:=hK29
 refine Jt1<|Jd ?_
 revert h
 cases ht36:p29
 refine JF λh=>Jy R<|Jc1<|Jt<|Jt ?_
 cases h
 have h:=hk26
 refine Jb1 ?_
 cases h
 exact Jw1 _ ⟨K34,s4,R,(T3 S25 S27 S35).wk R,R⟩<|KM R
 refine JT λh=>Jx R<|Js<|Jp<|Jv<|Jf3 R<|Jz ?_
 cases h
 exact Jz1 λa ha=>⟨k,_,Ja3 _,⟨K34,((IntKind.i64.wrap<|s4-1):Int),R,(T3 S25 S27 S35).wk R,hk26⟩,(ha.mm R)⟩
 rintro _ w20 ⟨K21,s6,rfl,S22,rfl⟩
 have h:=yI hK18
 refine Jp<|Je [1,2,2,2,1,2] R<|Jo1 (κ:=K21) (E:=E6) 3 R R R R R Y29 bG R λaj am w37 K38 S39 f40=>Tv<|Jn 2 R<|Ob h λx35 hx35 h=>Jf R (l4 (k1:= .i64) (k2:= .i64) U29 Z2 (.inl ⟨R,R⟩) (.inr ⟨_,R,R⟩) hx35 f15.rdc.1 R R R) ?_
 have f42:=f15.stp (S22.tr S39) R R
 refine Ob h λx36 hx36 h=>Jm1 (κ:=K38) (E:=E6) 3 [] R R R R R R R R R Y29 bG R R R R f40 (Sl.srcP (bT _)<|f42.rdc.sub hx35) bK hx36 R λao ah w43 K44 S45 f46=>Tv<|Jb 1 R<|Jg3 [2,2,2,2,1,1,1,2] 3 R<|Ob h λx40 hx40 h=>Jc3 R g0 hx40 U29 Z2<|Jb3 R I2 ((g0.stp (T5 S3 S14 S22 S39 S45) R R).gInt hx40)<|Jn1 (κ:=K44) (E:=E6) 4 [] (parts:=[(0,.tmp 41)]) (cells:=[vi x40]) (xs:=([x40]:List Int)) R R R R R R Y29 bG R R R R R R R R R R ⟨[vi x40],[],Zl K44 w43 [],Zl K44 w43 [],R,Zl.sp (l1:=[]) (l2:=[]) R,Zl.sr (l1:=[]) (l2:=[]),R,R⟩ λak an w48 K49 S50 f51=>Tv<|Ob h λx43 hx43 h=>Jm1 (κ:=K49) (E:=E6) 3 [] R R R R R R R R R Y29 bG R R R R (f46.stp S50 R R) (Sl.srcP (bT _) f51.rdc) bK hx43 R λai al w53 K54 S55 f56=>Tv<|Jb 1 R<|Jh3 [2,2,2,2,1,2] 3 R<|Ob h λx47 hx47 h=>Jf R (l4 (k1:= .i64) (k2:= .i64) U29 Z2 (.inr ⟨_,R,R⟩) (.inl ⟨R,R⟩) hx47 f42.rdc.1 R R R)<|Ob h λx48 hx48 h=>Jm1 (κ:=K54) (E:=E6) 3 [] R R R R R R R R R Y29 bG R R R R f56 (Sl.srcP (bT _) ((f42.stp (T3 S45 S50 S55) R R).rdc.sub hx47)) bK hx48 R λae af w59 K60 S61 f62=>Tv<|Jc 1 R<|Jz<|Jp<|Jf3 R ?_
 have hw5:t0 .i64 (v4+1)=v4+1:=wr1 hj5 (Jm2 hc5) hN5
 rw[hw5]
 have hc5:=Jm2 hc5
 cases h
 exact Jz1 λa ha=>⟨k,_,Ja3 _,⟨(λb=>ren [(3,2)]<|K60 b),v4+1,x48,ae,af,R,(Jy2 ((T7 S14 S22 S39 S45 S50 S55 S61).wk R) [(3,2)] R),(f62.map (ren [(3,2)]) R R),by omega,by omega,hk16⟩,(ha.mm R)⟩
 rintro _ w8 ⟨K9,s3,ad,ac,rfl,S10,f11,rfl⟩
 have h:=yI hK6
 refine Jp<|Je3 R<|Ju<|Ja2 (l:=[.tmp 2]) V123 (Jp2 R R) R ?_
 cases h
 exact⟨K9,ad,ac,R,(hE.stp (S3.tr S10) R R),f11⟩
theorem n8 {p0:Int}  {r:(List Int)}(h:lN p0=some r):Ret Tryz.prog 127 [vi p0] w (Pvs E6 2 κ w r):=by
 unfold lN at h
 refine Jk3 κ F127 R N127 R λhE=>Je3 R<|Je [1,2] R<|Jo1 (κ:=κ) (E:=E6) 2 R R R R R Y29 bG R λa5 u5 w1 K2 S3 f4=>Tv<|Jb 1 R<|Jq<|Je3 R<|Ob h λ_ hr5 h=>?_
 have hN5:=iw hr5
 refine Ob h λq2 hq7 hK6=>?_
 clear h
 refine Jx1 (λL w'=>∃κ',∃s3:(List Int),∃ad aa,L=[(3,.slice ad s3.length aa)]/\Stp [2] K2 w1 κ' w'/\Oc E6 2 κ' w' 2 ad aa s3/\q2=xe s3) ?_ ?_
 refine Jv<|Jy1 (λk L w'=>∃κ' v4,∃s1:(List Int),∃ab ac,L=[(0,vi p0),(3,.slice ab s1.length ac),(4,vi v4)]/\Stp [2] K2 w1 κ' w'/\Oc E6 2 κ' w' 2 ab ac s1/\0<=v4/\xh (p0-v4)=k/\cntM jf k v4 s1=some q2) ⟨_,_,⟨K2,0,(([]:List Int):(List Int)),a5,u5,R,Jj3,f4,(by decide),(by simp),hq7⟩,(KM R)⟩ ?_
 rintro k _ w12 ⟨K13,v4,s1,ab,ac,rfl,S14,f15,hj5,hJ5,h⟩
 rcases k with _ | k
 have hk16:=h;obtain⟨o5,h⟩:=bP (xe (xf s1):(List Int)⊕(((List Int))⊕((List Int))))
 have hc5:decide (v4<p0)=false:=Jo2 (by omega)
 refine Jq<|Je3 R<|Jw2 R hc5<|Jc1<|Jt<|Jt ?_
 cases h
 have h:=hk16
 refine Jb1 ?_
 cases h
 exact Jw1 _ ⟨K13,s1,ab,ac,R,S14.wk R,f15,R⟩<|KM R
 obtain⟨o5,h,hk16⟩:=BI h;unfold jf at h
 have hc5:decide (v4<p0)=true:=Jn2 (by omega)
 refine Jq<|Je3 R<|Jv2 R hc5<|Js<|Jp<|Jq<|Jv<|Jh3 [2,1,1,2] 1 R<|Jn1 (κ:=K13) (E:=E6) 3 [] (parts:=[(0,.const (vi (-1)))]) (cells:=[vi (-1)]) (xs:=([(-1)]:List Int)) R R R R R R Y29 bG R R R R R R R R R R ⟨[vi (-1)],[],Zl K13 w12 [],Zl K13 w12 [],R,Zl.sp (l1:=[]) (l2:=[]) R,Zl.sr (l1:=[]) (l2:=[]),R,R⟩ λai ah w17 K18 S19 f20=>Tv<|Ob h λx13 hx13 h=>Jm1 (κ:=K18) (E:=E6) 2 [] R R R R R R R R R Y29 bG R R R R (f15.stp S19 R R) (Sl.srcP (bT _) f20.rdc) bK hx13 R λaf ae w22 K23 S24 f25=>Tv<|Jc 1 R<|Jz<|Jp<|Jf3 R ?_
 have hw5:t0 .i64 (v4+1)=v4+1:=wr1 hj5 (Jm2 hc5) hN5
 rw[hw5]
 have hc5:=Jm2 hc5
 cases h
 exact Jz1 λa ha=>⟨k,_,Ja3 _,⟨K23,v4+1,x13,af,ae,R,(T3 S14 S19 S24).wk R,f25,by omega,by omega,hk16⟩,(ha.mm R)⟩
 rintro _ w8 ⟨K9,s3,ad,aa,rfl,S10,f11,rfl⟩
 have h:=yI hK6
 refine Jp<|Je3 R<|Ju<|Ja2 (l:=[.tmp 2]) V127 (Jp2 R R) R ?_
 cases h
 exact⟨K9,ad,aa,R,(hE.stp (S3.tr S10) R R),f11⟩
theorem mC {a0 u0}{p0:(List Int)}{p1:Int}(g0:Rd (Rp.int .i64) κ w 0 a0 u0 p0){r:(List Bool)}(h:eS p0 p1=some r):Ret Tryz.prog 176 [.slice a0 p0.length u0,vi p1] w (Pvs Ep.bool 4 κ w r):=by
 unfold eS at h
 refine Jk3 κ F176 R N176 R λhE=>Je3 R<|Jg3 [2,2,1,2] 1 R<|Jn3 R U29 R R<|Ob h λx9 hx9 h=>Jl1 (κ:=κ) (E:=Ep.bool) (z:=(false:Bool)) 2 R R R R R R R Y193 cX R R R R R (λ_ _ _=>R) (Ju2 hx9) λa9 u9 w1 K2 S3 f4=>Tv<|Jb 1 R<|Jq<|Je3 R ?_
 have hN5:(p0.length:Int)<=9223372036854775807:=g0.len_le
 refine Ob h λq2 hq7 hK6=>?_
 clear h
 refine Jx1 (λL w'=>∃κ',∃s3:(List Bool),L=[(5,.slice a9 x9.length u9)]/\Stp [2] K2 w1 κ' w'/\Oc Ep.bool 4 κ' w' 2 a9 u9 s3/\x9.length=s3.length/\q2=xe s3) ?_ ?_
 refine Jv<|Jy1 (λk L w'=>∃κ' v6,∃s1:(List Bool),L=[(0,.slice a0 p0.length u0),(1,vi p1),(5,.slice a9 x9.length u9),(6,vi v6)]/\Stp [2] K2 w1 κ' w'/\Oc Ep.bool 4 κ' w' 2 a9 u9 s1/\x9.length=s1.length/\0<=v6/\xh ((p0.length:Int)-v6)=k/\cntM (gh p0 p1) k v6 s1=some q2) ⟨_,_,⟨K2,0,x9,R,Jj3,f4,R,(by decide),(by simp),hq7⟩,(KM R)⟩ ?_
 rintro k _ w13 ⟨K14,v6,s1,rfl,S15,f16,hn17,hj5,hJ5,h⟩
 rcases k with _ | k
 have hk18:=h;obtain⟨o5,h⟩:=bP (xe (xf s1):(List Bool)⊕(((List Bool))⊕((List Bool))))
 have hc5:decide (v6<(p0.length:Int))=false:=Jo2 (by omega)
 refine Jq<|Jg3 [2,2,2,2] 2 R<|Jn3 R U29 R R<|Jb 1 R<|Jw2 R hc5<|Jc1<|Jt<|Jt ?_
 cases h
 have h:=hk18
 refine Jb1 ?_
 cases h
 exact Jw1 _ ⟨K14,s1,R,S15.wk R,f16,hn17,R⟩<|KM R
 obtain⟨o5,h,hk18⟩:=BI h;unfold gh at h
 have hc5:decide (v6<(p0.length:Int))=true:=Jn2 (by omega)
 refine Jq<|Jg3 [2,2,2,2] 2 R<|Jn3 R U29 R R<|Jb 1 R<|Jv2 R hc5<|Js<|Jp<|Jq<|Jv<|Jh3 [2,2,2,2,2,1,2,2,2,1] 4 R<|Ob h λx20 hx20 h=>Jc3 R g0 hx20 U29 Z2<|Jb3 R I2 ((g0.stp (S3.tr S15) R R).gInt hx20)<|Jn 2 R<|Ob h λx24 hx24 h=>Jf R (Jf2 f16.rdc hx24 U193 Z4 R R hn17 R)<|Ob h λy222 hy222 h=>Jk1 (κ:=K14) (E:=Ep.bool) 2 [] R R R R R R R R Z4 R R R R f16 hy222 λw20 K21 S22 f23=>Tv<|?_
 have hn24:x9.length=y222.length:=hn17.trans (Jt2 hy222).2.2.2.symm
 refine Jo<|Jz<|Jp<|Jf3 R ?_
 have hw5:t0 .i64 (v6+1)=v6+1:=wr1 hj5 (Jm2 hc5) hN5
 rw[hw5]
 have hc5:=Jm2 hc5
 cases h
 exact Jz1 λa ha=>⟨k,_,Ja3 _,⟨K21,v6+1,y222,R,(S15.tr S22).wk R,f23,hn24,by omega,by omega,hk18⟩,(ha.mm R)⟩
 rintro _ w8 ⟨K9,s3,rfl,S10,f11,hn12,rfl⟩
 have h:=yI hK6
 refine Jp<|Je3 R<|Ju<|Ja2 (l:=[.tmp 4]) V176 (Jp2 R R) R ?_
 cases h
 exact⟨K9,a9,u9,(by simp only[hn12]),(hE.stp (S3.tr S10) R R),f11⟩
theorem pN {p0:Sig}  {r:Bool}(h:mh p0=some r):Ret Tryz.prog 48 [.agg #[vi p0.In,vi p0.Out]] w (Pvb κ w r):=by
 unfold mh at h
 refine Jk3 κ F48 R N48 R λhE=>Je [1,2] R<|Jf1 (κ:=κ) 2 R R R R R R R λb1 w1 K2 S3 f4=>Tv<|Jb 1 R<|Je [2,1,2,2,2,1,2,2,2,2,1,2,2,2,2,1,2,2,2] R<|Jd3 R U25 R Z2<|Jb3 R I2 (f4.ld 0 R R)<|Jn 2 R<|Ob h λp10 h hK5=>Ju1 [(4,2),(5,1),(6,2),(7,2)] [(8,2),(9,2),(10,1),(11,2),(12,2),(13,2),(14,2),(15,1),(16,2),(17,2),(18,2)] (λL w'=>L=[(1,.pointer (some ⟨b1,0,none⟩)),(2,.bool false),(10,.bool p10)]/\∃κ',Stp [] K2 w1 κ' w') tv ?_ ?_
 revert h
 cases ht6:decide (1<=p0.In)
 refine JF λh=>Jn 1 R<|Jd1 R R R R<|Jn 2 R ?_
 cases h
 exact Jv1 _ tv ⟨R,_,Jj3⟩<|KM R
 refine JT λh=>Jd3 R U25 R Z2<|Jb3 R I2 (f4.ld 0 R R)<|Jn 2 R ?_
 cases h
 exact Jv1 _ tv ⟨R,_,Jj3⟩<|KM R
 rintro _ w7 _ ⟨rfl,K8,S9⟩
 have h:=hK5
 refine Jn 1 R<|Ob h λp15 h hK10=>Ju1 [(9,2),(10,1),(11,2),(12,2)] [(13,2),(14,2),(15,1),(16,2),(17,2),(18,2)] (λL w'=>L=[(1,.pointer (some ⟨b1,0,none⟩)),(2,.bool false),(15,.bool p15)]/\∃κ',Stp [] K8 w7 κ' w') tv ?_ ?_
 revert h
 cases ht11:p10
 refine JF λh=>Jn 1 R<|Jd1 R R R R<|Jn 2 R ?_
 cases h
 exact Jv1 _ tv ⟨R,_,Jj3⟩<|KM R
 refine JT λh=>Jd3 R U25 R Z2<|Jb3 R I2 ((f4.stp S9 R R).ld 1 R R)<|Jn 2 R ?_
 cases h
 exact Jv1 _ tv ⟨R,_,Jj3⟩<|KM R
 rintro _ w13 _ ⟨rfl,K14,S15⟩
 have h:=hK10
 refine Jn 1 R<|Ob h λp20 h hK16=>Ju1 [(14,2),(15,1),(16,2),(17,2)] [(18,2)] (λL w'=>L=[(2,.bool false),(20,.bool p20)]/\∃κ',Stp [] K14 w13 κ' w') tv ?_ ?_
 revert h
 cases ht17:p15
 refine JF λh=>Jn 1 R<|Jd1 R R R R<|Jn 2 R ?_
 cases h
 exact Jv1 _ tv ⟨R,_,Jj3⟩<|KM R
 refine JT λh=>Jd3 R U25 R Z2<|Jb3 R I2 ((f4.stp (S9.tr S15) R R).ld 1 R R)<|Jn 2 R ?_
 cases h
 exact Jv1 _ tv ⟨R,_,Jj3⟩<|KM R
 rintro _ w19 _ ⟨rfl,K20,S21⟩
 have h:=hK16
 refine Jb 1 R<|Ju<|Ja2 (l:=[.tmp 2]) V48 (Jp2 R R) R ?_
 cases h
 exact⟨K20,R,(hE.stp (T4 S3 S9 S15 S21) R R)⟩
theorem kw {a0 u0}{p0:(List Int)}{a1 u1}{p1:(List Int)}(g0:Rd (Rp.int .i64) κ w 0 a0 u0 p0) (g1:Rd (Rp.int .i64) κ w 0 a1 u1 p1){r:Bool}(h:cT p0 p1=some r):Ret Tryz.prog 65 [.slice a0 p0.length u0,.slice a1 p1.length u1] w (Pvb κ w r):=by
 unfold cT at h
 refine Jk3 κ F65 R N65 R λhE=>Je3 R<|Jq<|Jg3 [2,2,2,2,2] 1 R<|Jn3 R U29 R R<|Jn 1 R<|Jn3 R U29 R R<|Jb 1 R ?_
 revert h
 cases ht1:((p0.length:Int) !=(p1.length:Int))
 refine JF λh=>Jy R<|Js<|Jp<|Jq<|Jg3 [2,2,2] 1 R<|Jn3 R U29 R R<|Jb 1 R ?_
 have hN2:(p0.length:Int)<=9223372036854775807:=g0.len_le
 refine Ob h λq2 hq4 hK3=>?_
 clear h
 refine Jx1 (λL w'=>∃κ',L=[]/\Stp [] κ w κ' w'/\q2=xe ()) ?_ ?_
 refine Jv<|Jy1 (λk L w'=>∃κ' v13,L=[(0,.slice a0 p0.length u0),(1,.slice a1 p1.length u1),(12,vi (p0.length:Int)),(13,vi v13)]/\Stp [] κ w κ' w'/\0<=v13/\xh ((p0.length:Int)-v13)=k/\cntM (cK p0 p1) k v13 ()=some q2) ⟨_,_,⟨κ,0,R,Jj3,(by decide),(by simp),hq4⟩,(KM R)⟩ ?_
 rintro k _ w8 ⟨K9,v13,rfl,S10,hj2,hJ2,h⟩
 rcases k with _ | k
 have hk11:=h;obtain⟨o2,h⟩:=bP (xe (xf ()):Bool⊕((Unit)⊕(Unit)))
 have hc2:decide (v13<(p0.length:Int))=false:=Jo2 (by omega)
 refine Je3 R<|Jq<|Jw2 R hc2<|Jc1<|Jt<|Jt ?_
 cases h
 have h:=hk11
 refine Jb1 ?_
 cases h
 exact Jw1 _ ⟨K9,R,S10.wk R,R⟩ KN
 obtain⟨o2,h,hk11⟩:=BI h;unfold cK at h
 have hc2:decide (v13<(p0.length:Int))=true:=Jn2 (by omega)
 refine Je3 R<|Jq<|Jv2 R hc2<|Js<|Jp<|Jq<|Jv<|Je3 R<|Jq<|Js1 (κ:=K9) [0] none [(0,2),(1,2),(2,2),(4,2),(5,2),(6,2),(3,0),(7,0),(8,2)] [] (by kernel_rfl) (by kernel_rfl) λw13 S12=>Jn 2 R<|Ob h λx18 hx18 h=>Jc3 R g0 hx18 U29 Z2<|Jn 2 R<|Ob h λx22 hx22 h=>Jc3 R g1 hx22 U29 Z2<|Jg R (Jc2 I2 R R<|hvC ((g0.stp (S10.tr S12) R R).gInt hx18) R)<|Jg R (Jc2 I2 R R<|hvC ((g1.stp (S10.tr S12) R R).gInt hx22) R)<|Jn 1 R<|Jt1<|Jd ?_
 revert h
 cases ht16:(x18 !=x22)
 refine JF λh=>Jy R<|Js<|Jz<|Jp<|Jf3 R ?_
 have hw2:t0 .i64 (v13+1)=v13+1:=wr1 hj2 (Jm2 hc2) hN2
 rw[hw2]
 have hc2:=Jm2 hc2
 cases h
 exact Jz1 λa ha=>⟨k,_,Ja3 _,⟨K9,v13+1,R,(S10.tr S12).wk R,by omega,by omega,hk11⟩,(ha.mm R)⟩
 refine JT λh=>Jx R<|Je3 R<|Ju<|Ja1<|Jw<|Jw ?_
 cases h
 obtain rfl:=Option.some.inj hk11
 have h:=yL hK3
 refine Ja1<|Jq2<|Jw<|Ja2 (l:=[.tmp 4]) V65 (Jp2 R R) R ?_
 cases h
 exact⟨K9,R,(hE.stp (S10.tr S12) R R)⟩
 rintro _ w5 ⟨K6,rfl,S7,rfl⟩
 have h:=yI hK3
 refine Jp<|Je3 R<|Ju<|Ja2 (l:=[.tmp 4]) V65 (Jp2 R R) R ?_
 cases h
 exact⟨K6,R,(hE.stp S7 R R)⟩
 refine JT λh=>Jx R<|Je3 R<|Ju<|Jw<|Ja2 (l:=[.tmp 4]) V65 (Jp2 R R) R ?_
 cases h
 exact⟨κ,R,hE⟩
theorem ou {am al ak aj ah ai}{p0:Parity}{p1:Int}{p2:Int}{a3 u3}{p3:(List Int)}(g0_0_0:Oc E6 2 κ w 2 am al p0.Arena.Owner) (g0_0_1:Oc (Ep.fz (Rp.sl (Rp.int .i64))) 29 κ w 3 ak aj p0.Arena.Next) (g0_1:Oc E6 2 κ w 4 ah ai p0.Prio) (g3:Rd (Rp.int .i64) κ w 0 a3 u3 p3){r:Parity}(h:jo p0 p1 p2 p3=some r):Ret Tryz.prog 186 [.agg #[.slice am p0.Arena.Owner.length al,.slice ak p0.Arena.Next.length aj,.slice ah p0.Prio.length ai],vi p1,vi p2,.slice a3 p3.length u3] w (λv w'=>∃(κ':Col) (ra0:Option Addr) (ru0:Nat) (ra1:Option Addr) (ru1:Nat) (ra2:Option Addr) (ru2:Nat),v= .agg #[.slice ra0 r.Arena.Owner.length ru0,.slice ra1 r.Arena.Next.length ru1,.slice ra2 r.Prio.length ru2]/\Ent κ w κ' w'/\Oc E6 2 κ' w' 5 ra0 ru0 r.Arena.Owner/\Oc (Ep.fz (Rp.sl (Rp.int .i64))) 29 κ' w' 6 ra1 ru1 r.Arena.Next/\Oc E6 2 κ' w' 7 ra2 ru2 r.Prio):=by
 unfold jo at h
 refine Jk3 κ F186 R N186 R λhE=>Je [1,1] R<|Jf1 (κ:=κ) 5 R R R R R R R λb4 w1 K2 S3 f4=>Tv<|Jg1 (κ:=K2) 6 R R R R R X108 R λb8 w5 K6 S7 f8=>Tv<|Jd<|Je [2,2,1,2,1,1,2,2,1] R<|Jd3 R U108 R Z104<|Jd3 R U104 R Z29 ?_
 have f9:=f4.stp S7 R R
 refine Jb3 R I29 (f9.ld 0 R R)<|Jn 1 R<|Jn1 (κ:=K6) (E:=E6) 7 [] (parts:=[(0,.tmp 12)]) (cells:=[vi p1]) (xs:=([p1]:List Int)) R R R R R R Y29 bG R R R R R R R R R R ⟨[vi p1],[],Zl K6 w5 [],Zl K6 w5 [],R,Zl.sp (l1:=[]) (l2:=[]) R,Zl.sr (l1:=[]) (l2:=[]),R,R⟩ λao ar w10 K11 S12 f13=>Tv<|Ob h λx14 hx14 h=>Jm1 (κ:=K11) (E:=E6) 2 [] R R R R R R R R R Y29 bG R R R R (g0_0_0.stp (T3 S3 S7 S12) R R) (Sl.srcP (bT _) f13.rdc) bK hx14 R λab aa w15 K16 S17 f18=>Tv<|Jd3 R U108 R Z104<|Jd3 R U104 R Z29<|Ji1 (κ:=K16) 5 (off:=0) (vc:=[.slice ab x14.length aa]) (cs':=[.slice ab x14.length aa,.slice ak p0.Arena.Next.length aj,.slice ah p0.Prio.length ai]) R R R R R R R Z29 R R (f9.stp (S12.tr S17) R R) R R λw20 S21 f22=>Tv<|Jd<|Je [2,2,1,2,1,1,2,2,1] R<|Jd3 R U108 R Z104<|Jd3 R U104 R Z26<|Jb3 R I26 (f22.ld 1 R R)<|Jn 1 R<|Jn1 (κ:=K16) (E:=(Ep.fz<|Rp.sl<|Rp.int .i64)) 8 [] (parts:=[(0,.tmp 20)]) (cells:=[.slice a3 p3.length u3]) (xs:=([p3]:List (List Int))) R R R R R R Y26 bN R R R R R R R R R R ⟨[.slice a3 p3.length u3],[],Zl K16 w20 [],Zl K16 w20 [],R,Zl.sp (l1:=[]) (l2:=[]) R,Zl.sr (l1:=[]) (l2:=[]),⟨_,_,R,(Sl.z1<|g3.stp (T5 S3 S7 S12 S17 S21) R R)⟩,R⟩ λan au w24 K25 S26 f27=>Tv<|Ob h λx22 hx22 h=>Jm1 (κ:=K25) (E:=(Ep.fz<|Rp.sl<|Rp.int .i64)) 3 [8] R R R R R R R R R Y26 bN R R R R (g0_0_1.stp (T6 S3 S7 S12 S17 S21 S26) R R) f27.src (dd R) hx22 R λad ac w29 K30 S31 f32=>Tv<|Jd3 R U108 R Z104<|Jd3 R U104 R Z26<|Ji1 (κ:=K30) 5 (off:=1) (vc:=[.slice ad x22.length ac]) (cs':=[.slice ab x14.length aa,.slice ad x22.length ac,.slice ah p0.Prio.length ai]) R R R R R R R Z26 R R (f22.stp (S26.tr S31) R R) R R λw34 S35 f36=>Tv<|Jd<|Je [2,1,2,1,1,2,1] R<|Jd3 R U108 R Z29<|Jb3 R I29 (f36.ld 2 R R)<|Jn 1 R<|Jn1 (κ:=K30) (E:=E6) 9 [] (parts:=[(0,.tmp 27)]) (cells:=[vi p2]) (xs:=([p2]:List Int)) R R R R R R Y29 bG R R R R R R R R R R ⟨[vi p2],[],Zl K30 w34 [],Zl K30 w34 [],R,Zl.sp (l1:=[]) (l2:=[]) R,Zl.sr (l1:=[]) (l2:=[]),R,R⟩ λap aq w37 K38 S39 f40=>Tv<|Ob h λx29 hx29 h=>Jm1 (κ:=K38) (E:=E6) 4 [] R R R R R R R R R Y29 bG R R R R (g0_1.stp (T9 S3 S7 S12 S17 S21 S26 S31 S35 S39) R R) (Sl.srcP (bT _) f40.rdc) bK hx29 R λaf ae w42 K43 S44 f45=>Tv<|Jd3 R U108 R Z29 ?_
 refine Ji1 (κ:=K43) 5 (off:=2) (vc:=[.slice af x29.length ae]) (cs':=[.slice ab x14.length aa,.slice ad x22.length ac,.slice af x29.length ae]) R R R R R R R Z29 R R (f36.stp (S39.tr S44) R R) R R λw47 S48 f49=>Tv<|Jd<|Je [1,1] R<|Jl tv R R R R (Jd2 (cs:=[.slice ab x14.length aa,.slice ad x22.length ac,.slice af x29.length ae]) I108 Z108 R R R<|haE f49.cells)<|Jj1 (κ:=K43) 6 (vc:=[.slice ab x14.length aa,.slice ad x22.length ac,.slice af x29.length ae]) R R R R R R R Z108 R R (f8.stp (T9 S12 S17 S21 S26 S31 S35 S39 S44 S48) R R) R λw51 S52 f53=>Tv<|Jd<|Ju<|Ja2 (l:=[.cell 8 108]) V186 (bL R f53 I108 Z108 R R) R ?_
 cases h
 exact⟨(λb=>ren [(2,5),(3,6),(4,7)]<|K43 b),ab,aa,ad,ac,af,ae,R,((hE.stp (T12 S3 S7 S12 S17 S21 S26 S31 S35 S39 S44 S48 S52) R R).map (ren [(2,5),(3,6),(4,7)]) R R),((f18.stp (T8 S21 S26 S31 S35 S39 S44 S48 S52) R R).map (ren [(2,5),(3,6),(4,7)]) R R),((f32.stp (T5 S35 S39 S44 S48 S52) R R).map (ren [(2,5),(3,6),(4,7)]) R R),((f45.stp (S48.tr S52) R R).map (ren [(2,5),(3,6),(4,7)]) R R)⟩
theorem ut {ab ad ac aa}{p0:Arena}(g0_0:Rd (Rp.int .i64) κ w 0 ab ad p0.Owner) (g0_1:Rd (Rp.sl (Rp.int .i64)) κ w 0 ac aa p0.Next){r:Int}(h:rn p0=some r):Ret Tryz.prog 193 [.agg #[.slice ab p0.Owner.length ad,.slice ac p0.Next.length aa]] w (Pvi κ w r):=by
 unfold rn at h
 refine Jk3 κ F193 R N193 R λhE=>Je [1,2] R<|Jf1 (κ:=κ) 2 R R R R R R R λb1 w1 K2 S3 f4=>Tv<|Jb 1 R<|Je [2,1,2,2] R<|Jd3 R U104 R Z29<|Jb3 R I29 (f4.ld 0 R R)<|Jn3 R U29 R R<|Jb 1 R<|Ju<|Ja2 (l:=[.tmp 2]) V193 (Jp2 R R) R ?_
 cases h
 exact⟨K2,R,(hE.stp S3 R R)⟩
theorem qF {ae af ad ac}{p0:Arena}(g0_0:Rd (Rp.int .i64) κ w 0 ae af p0.Owner) (g0_1:Rd (Rp.sl (Rp.int .i64)) κ w 0 ad ac p0.Next){r:(List (List Int))}(h:kV p0=some r):Ret Tryz.prog 187 [.agg #[.slice ae p0.Owner.length af,.slice ad p0.Next.length ac]] w (Pvs (Ep.own E6 2) 29 κ w r):=by
 unfold kV at h
 refine Jk3 κ F187 R N187 R λhE=>Je [1,2] R<|Jf1 (κ:=κ) 2 R R R R R R R λb1 w1 K2 S3 f4=>Tv<|Jb 1 R<|Je [2,1,2,1,2] R<|Jd3 R U104 R Z29<|Jb3 R I29 (f4.ld 0 R R)<|Jn3 R U29 R R<|Ob h λx11 hx11 h=>Jl1 (κ:=K2) (E:=(Ep.own E6 2)) (z:=(([]:List Int):(List Int))) 3 R R R R R R R Y26 bN R R R R R (λ_ _ _=>⟨none,0,R,Ow.nil⟩) (Ju2 hx11) λab aa w5 K6 S7 f8=>Tv<|Jb 1 R<|Jq<|Je [2,1,2,2] R<|Jd3 R U104 R Z26<|Jb3 R I26 ((f4.stp S7 R R).ld 1 R R)<|Jn3 R U26 R R<|Jb 1 R ?_
 have hN10:(p0.Next.length:Int)<=9223372036854775807:=g0_1.len_le
 refine Ob h λq2 hq12 hK11=>?_
 clear h
 refine Jx1 (λL w'=>∃κ',∃s3:(List<|List Int),L=[(3,.slice ab x11.length aa)]/\Stp [3,5] K6 w5 κ' w'/\Oc (Ep.own E6 2) 29 κ' w' 3 ab aa s3/\x11.length=s3.length/\q2=xe s3) ?_ ?_
 refine Jv<|Jy1 (λk L w'=>∃κ' v15,∃s1:(List<|List Int),L=[(3,.slice ab x11.length aa),(13,.slice ad p0.Next.length ac),(14,vi (p0.Next.length:Int)),(15,vi v15)]/\Stp [3,5] K6 w5 κ' w'/\Oc (Ep.own E6 2) 29 κ' w' 3 ab aa s1/\x11.length=s1.length/\0<=v15/\xh ((p0.Next.length:Int)-v15)=k/\cntM (gO p0) k v15 s1=some q2) ⟨_,_,⟨K6,0,x11,R,Jj3,f8,R,(by decide),(by simp),hq12⟩,(KM R)⟩ ?_
 rintro k _ w18 ⟨K19,v15,s1,rfl,S20,f21,hn22,hj10,hJ10,h⟩
 rcases k with _ | k
 have hk23:=h;obtain⟨o10,h⟩:=bP (xe (xf s1):(List (List Int))⊕(((List (List Int)))⊕((List (List Int)))))
 have hc10:decide (v15<(p0.Next.length:Int))=false:=Jo2 (by omega)
 refine Je3 R<|Jq<|Jw2 R hc10<|Jc1<|Jt<|Jt ?_
 cases h
 have h:=hk23
 refine Jb1 ?_
 cases h
 exact Jw1 _ ⟨K19,s1,R,S20.wk R,f21,hn22,R⟩<|KM R
 obtain⟨o10,h,hk23⟩:=BI h;unfold gO at h
 have hc10:decide (v15<(p0.Next.length:Int))=true:=Jn2 (by omega)
 refine Je3 R<|Jq<|Jv2 R hc10<|Js<|Jp<|Jq<|Jv<|Jg3 [2,2,1,2,2] 1 R<|Ob h λx18 hx18 h=>Jc3 R g0_1 hx18 U26 Z29 ?_
 obtain⟨ax18,ux18,f25,hl26⟩:=(g0_1.stp (T3 S3 S7 S20) R R).gSl hx18
 refine Jb3 R I29 hl26<|Jb 2 R<|Jg3 [2,2,2] 1 R<|Jn3 R U29 R R<|Jb 1 R ?_
 have hN27:(x18.length:Int)<=9223372036854775807:=f25.len_le
 refine Ob h λq5 hq29 hK28=>?_
 clear h
 refine Jx1 (λL w'=>∃κ',∃s6:(List<|List Int),L=[(3,.slice ab x11.length aa),(13,.slice ad p0.Next.length ac),(14,vi (p0.Next.length:Int)),(15,vi v15)]/\Stp [3,5] K19 w18 κ' w'/\Oc (Ep.own E6 2) 29 κ' w' 3 ab aa s6/\x11.length=s6.length/\q5=xe s6) ?_ ?_
 refine Jv<|Jy1 (λk L w'=>∃κ' v22,∃s4:(List<|List Int),L=[(3,.slice ab x11.length aa),(4,vi v15),(13,.slice ad p0.Next.length ac),(14,vi (p0.Next.length:Int)),(15,vi v15),(20,.slice ax18 x18.length ux18),(21,vi (x18.length:Int)),(22,vi v22)]/\Stp [3,5] K19 w18 κ' w'/\Oc (Ep.own E6 2) 29 κ' w' 3 ab aa s4/\x11.length=s4.length/\0<=v22/\xh ((x18.length:Int)-v22)=k/\cntM (g9 v15 x18) k v22 s4=some q5) ⟨_,_,⟨K19,0,s1,R,Jj3,f21,hn22,(by decide),(by simp),hq29⟩,(KM R)⟩ ?_
 rintro k _ w35 ⟨K36,v22,s4,rfl,S37,f38,hn39,hj27,hJ27,h⟩
 rcases k with _ | k
 have hk40:=h;obtain⟨o27,h⟩:=bP (xe (xf s4):(List (List Int))⊕(((List (List Int)))⊕((List (List Int)))))
 have hc27:decide (v22<(x18.length:Int))=false:=Jo2 (by omega)
 refine Je3 R<|Jq<|Jw2 R hc27<|Jc1<|Jt<|Jt ?_
 cases h
 have h:=hk40
 refine Jb1 ?_
 cases h
 exact Jw1 _ ⟨K36,s4,R,S37.wk R,f38,hn39,R⟩<|KM R
 obtain⟨o27,h,hk40⟩:=BI h;unfold g9 at h
 have hc27:decide (v22<(x18.length:Int))=true:=Jn2 (by omega)
 refine Je3 R<|Jq<|Jv2 R hc27<|Js<|Jp<|Jq<|Jv<|Je [2,1,2] R<|Ob h λx24 hx24 h=>Jc3 R f25 hx24 U29 Z2<|Jb3 R I2 ((f25.stp S37 R R).gInt hx24)<|Jb 1 R<|Jh3 [2,2,2,2,2,1,2,1,1,2,1] 4 R<|Ob h λx30 hx30 h=>Jf R (Jf2 f38.rdc hx30 U26 Z29 R R hn39 R) ?_
 obtain⟨ax30,ux30,f42,hl43⟩:=f38.rdc.gSl hx30
 refine Jb3 R I29 hl43<|Jn 1 R<|Jn1 (κ:=K36) (E:=E6) 4 [] (parts:=[(0,.tmp 32)]) (cells:=[vi v15]) (xs:=([v15]:List Int)) R R R R R R Y29 bG R R R R R R R R R R ⟨[vi v15],[],Zl K36 w35 [],Zl K36 w35 [],R,Zl.sp (l1:=[]) (l2:=[]) R,Zl.sr (l1:=[]) (l2:=[]),R,R⟩ λah aj w44 K45 S46 f47=>Tv<|?_
 have f48:=f38.stp S46 R R
 obtain⟨K49,S50,f51,f52⟩:=f48.borrow hx30 (hl43 _ (Stp.ag S46 R)) 5 R R
 refine Ob h λx34 hx34 h=>Jm1 (κ:=K49) (E:=E6) 5 [] R R R R R R R R R Y29 bG R R R R f51 (Sl.srcP (bT _) (f47.stp S50 R R).rdc) bK hx34 R λak ai w54 K55 S56 f57=>Tv<|Ob h λx35 hx35 h=>Jf R (Jf2 f48.rdc hx35 U26 Z29 R R hn39 R)<|Ob h λy364 hy364 h=>WO.stH (κ:=K55) (E:=(Ep.own E6 2)) 3 [5] R R R R R R R R Z29 R ⟨_,_,R,f57⟩ R R (f52.stp S56 R R) hy364 λw59 K60 S61 f62=>Tv<|?_
 have hn63:x11.length=y364.length:=hn39.trans (Jt2 hy364).2.2.2.symm
 refine Jo<|Jz<|Jp<|Jf3 R ?_
 have hw27:t0 .i64 (v22+1)=v22+1:=wr1 hj27 (Jm2 hc27) hN27
 rw[hw27]
 have hc27:=Jm2 hc27
 cases h
 exact Jz1 λa ha=>⟨k,_,Ja3 _,⟨K60,v22+1,y364,R,(T5 S37 S46 S50 S56 S61).wk R,f62,hn63,by omega,by omega,hk40⟩,(ha.mm R)⟩
 rintro _ w30 ⟨K31,s6,rfl,S32,f33,hn34,rfl⟩
 have h:=yI hK28
 refine Jz<|Jp<|Jf3 R ?_
 have hw10:t0 .i64 (v15+1)=v15+1:=wr1 hj10 (Jm2 hc10) hN10
 rw[hw10]
 have hc10:=Jm2 hc10
 cases h
 exact Jz1 λa ha=>⟨k,_,Ja3 _,⟨K31,v15+1,s6,R,(S20.tr S32).wk R,f33,hn34,by omega,by omega,hk23⟩,(ha.mm R)⟩
 rintro _ w13 ⟨K14,s3,rfl,S15,f16,hn17,rfl⟩
 have h:=yI hK11
 refine Jp<|Je3 R<|Ju<|Ja2 (l:=[.tmp 2]) V187 (Jp2 R R) R ?_
 cases h
 exact⟨(λb=>ren [(3,2)]<|K14 b),ab,aa,(by simp only[hn17]),((hE.stp (T3 S3 S7 S15) R R).map (ren [(3,2)]) R R),(f16.map (ren [(3,2)]) R R)⟩
theorem gR {a0 u0}{p0:(List Bool)}{a1 u1}{p1:(List Bool)}(g0:Rd Rp.bool κ w 0 a0 u0 p0) (g1:Rd Rp.bool κ w 0 a1 u1 p1){r:(List Bool)}(h:eH p0 p1=some r):Ret Tryz.prog 191 [.slice a0 p0.length u0,.slice a1 p1.length u1] w (Pvs Ep.bool 4 κ w r):=by
 unfold eH at h
 refine Jk3 κ F191 R N191 R λhE=>Je3 R<|Jg3 [2,2,1,2] 1 R<|Jn3 R U193 R R<|Ob h λx9 hx9 h=>Jl1 (κ:=κ) (E:=Ep.bool) (z:=(false:Bool)) 2 R R R R R R R Y193 cX R R R R R (λ_ _ _=>R) (Ju2 hx9) λa9 u9 w1 K2 S3 f4=>Tv<|Jb 1 R<|Jq<|Jg3 [2,2,2] 1 R<|Jn3 R U193 R R<|Jb 1 R ?_
 have hN5:(p0.length:Int)<=9223372036854775807:=g0.len_le
 refine Ob h λq2 hq7 hK6=>?_
 clear h
 refine Jx1 (λL w'=>∃κ',∃s3:(List Bool),L=[(5,.slice a9 x9.length u9)]/\Stp [2] K2 w1 κ' w'/\Oc Ep.bool 4 κ' w' 2 a9 u9 s3/\x9.length=s3.length/\q2=xe s3) ?_ ?_
 refine Jv<|Jy1 (λk L w'=>∃κ' v12,∃s1:(List Bool),L=[(0,.slice a0 p0.length u0),(1,.slice a1 p1.length u1),(5,.slice a9 x9.length u9),(11,vi (p0.length:Int)),(12,vi v12)]/\Stp [2] K2 w1 κ' w'/\Oc Ep.bool 4 κ' w' 2 a9 u9 s1/\x9.length=s1.length/\0<=v12/\xh ((p0.length:Int)-v12)=k/\cntM (ig p0 p1) k v12 s1=some q2) ⟨_,_,⟨K2,0,x9,R,Jj3,f4,R,(by decide),(by simp),hq7⟩,(KM R)⟩ ?_
 rintro k _ w13 ⟨K14,v12,s1,rfl,S15,f16,hn17,hj5,hJ5,h⟩
 rcases k with _ | k
 have hk18:=h;obtain⟨o5,h⟩:=bP (xe (xf s1):(List Bool)⊕(((List Bool))⊕((List Bool))))
 have hc5:decide (v12<(p0.length:Int))=false:=Jo2 (by omega)
 refine Je3 R<|Jq<|Jw2 R hc5<|Jc1<|Jt<|Jt ?_
 cases h
 have h:=hk18
 refine Jb1 ?_
 cases h
 exact Jw1 _ ⟨K14,s1,R,S15.wk R,f16,hn17,R⟩<|KM R
 obtain⟨o5,h,hk18⟩:=BI h;unfold ig at h
 have hc5:decide (v12<(p0.length:Int))=true:=Jn2 (by omega)
 refine Je3 R<|Jq<|Jv2 R hc5<|Js<|Jp<|Jq<|Jv<|Je3 R<|Jh3 [2,2,2,2,2,1,2,2,2,2,1,2,2,2,1] 4 R<|Ob h λx19 hx19 h=>Jc3 R g0 hx19 U193 Z4<|Jb3 R I4 ((g0.stp (S3.tr S15) R R).gBool hx19)<|Jn 1 R<|Ob h λp27 h hK20=>Ju1 [(7,2),(8,2),(9,2),(10,1),(11,2),(12,2)] [(13,2),(14,1)] (λL w'=>L=[(0,.slice a0 p0.length u0),(1,.slice a1 p1.length u1),(5,.slice a9 x9.length u9),(11,vi (p0.length:Int)),(12,vi v12),(15,.slice a9 x9.length u9),(16,vi v12),(27,.bool p27)]/\∃κ',Stp [] K14 w13 κ' w') tv ?_ ?_
 revert h
 cases ht21:x19
 refine JF λh=>Jn 3 R<|Jd1 R R R R<|Jn 2 R ?_
 cases h
 exact Jv1 _ tv ⟨R,_,Jj3⟩<|KM R
 refine JT λh=>Jn 2 R<|Ob h λx24 hx24 h=>Jc3 R g1 hx24 U193 Z4<|Jb3 R I4 ((g1.stp (S3.tr S15) R R).gBool hx24)<|Jn 2 R ?_
 cases h
 exact Jv1 _ tv ⟨R,_,Jj3⟩<|KM R
 rintro _ w23 _ ⟨rfl,K24,S25⟩
 have h:=hK20
 refine Ob h λx28 hx28 h=>Jf R (Jf2 f16.rdc hx28 U193 Z4 R R hn17 R)<|Ob h λy386 hy386 h=>Jk1 (κ:=K24) (E:=Ep.bool) 2 [] R R R R R R R R Z4 R R R R (f16.stp S25 R R) hy386 λw27 K28 S29 f30=>Tv<|?_
 have hn31:x9.length=y386.length:=hn17.trans (Jt2 hy386).2.2.2.symm
 refine Jo<|Jz<|Jp<|Jf3 R ?_
 have hw5:t0 .i64 (v12+1)=v12+1:=wr1 hj5 (Jm2 hc5) hN5
 rw[hw5]
 have hc5:=Jm2 hc5
 cases h
 exact Jz1 λa ha=>⟨k,_,Ja3 _,⟨K28,v12+1,y386,R,(T3 S15 S25 S29).wk R,f30,hn31,by omega,by omega,hk18⟩,(ha.mm R)⟩
 rintro _ w8 ⟨K9,s3,rfl,S10,f11,hn12,rfl⟩
 have h:=yI hK6
 refine Jp<|Je3 R<|Ju<|Ja2 (l:=[.tmp 4]) V191 (Jp2 R R) R ?_
 cases h
 exact⟨K9,a9,u9,(by simp only[hn12]),(hE.stp (S3.tr S10) R R),f11⟩
theorem ke {a0 u0}{p0:(List Bool)}{p1:Bool}(g0:Rd Rp.bool κ w 0 a0 u0 p0){r:Int}(h:dc p0 p1=some r):Ret Tryz.prog 249 [.slice a0 p0.length u0,.bool p1] w (Pvi κ w r):=by
 unfold dc at h
 refine Jk3 κ F249 R N249 R λhE=>Je3 R<|Jq<|Jg3 [2,2,2] 1 R<|Jn3 R U193 R R<|Jb 1 R ?_
 have hN1:(p0.length:Int)<=9223372036854775807:=g0.len_le
 refine Ob h λq2 hq3 hK2=>?_
 clear h
 refine Jx1 (λL w'=>∃κ',L=[]/\Stp [] κ w κ' w'/\q2=xe ()) ?_ ?_
 refine Jv<|Jy1 (λk L w'=>∃κ' v8,L=[(0,.slice a0 p0.length u0),(1,.bool p1),(7,vi (p0.length:Int)),(8,vi v8)]/\Stp [] κ w κ' w'/\0<=v8/\xh ((p0.length:Int)-v8)=k/\cntM (cz p0 p1) k v8 ()=some q2) ⟨_,_,⟨κ,0,R,Jj3,(by decide),(by simp),hq3⟩,(KM R)⟩ ?_
 rintro k _ w7 ⟨K8,v8,rfl,S9,hj1,hJ1,h⟩
 rcases k with _ | k
 have hk10:=h;obtain⟨o1,h⟩:=bP (xe (xf ()):Int⊕((Unit)⊕(Unit)))
 have hc1:decide (v8<(p0.length:Int))=false:=Jo2 (by omega)
 refine Je3 R<|Jq<|Jw2 R hc1<|Jc1<|Jt<|Jt ?_
 cases h
 have h:=hk10
 refine Jb1 ?_
 cases h
 exact Jw1 _ ⟨K8,R,S9.wk R,R⟩ KN
 obtain⟨o1,h,hk10⟩:=BI h;unfold cz at h
 have hc1:decide (v8<(p0.length:Int))=true:=Jn2 (by omega)
 refine Je3 R<|Jq<|Jv2 R hc1<|Js<|Jp<|Jq<|Jv<|Je3 R<|Jg3 [2,2,2,2,1,2] 3 R<|Ob h λx14 hx14 h=>Jc3 R g0 hx14 U193 Z4<|Jb3 R I4 ((g0.stp S9 R R).gBool hx14)<|Jf R (vu R R U4 R)<|Jd ?_
 revert h
 cases ht12:(p1==x14)
 refine JF λh=>Jy R<|Js<|Jz<|Jp<|Jf3 R ?_
 have hw1:t0 .i64 (v8+1)=v8+1:=wr1 hj1 (Jm2 hc1) hN1
 rw[hw1]
 have hc1:=Jm2 hc1
 cases h
 exact Jz1 λa ha=>⟨k,_,Ja3 _,⟨K8,v8+1,R,S9.wk R,by omega,by omega,hk10⟩,(ha.mm R)⟩
 refine JT λh=>Jx R<|Je3 R<|Ju<|Ja1<|Jw<|Jw ?_
 cases h
 obtain rfl:=Option.some.inj hk10
 have h:=yL hK2
 refine Ja1<|Jq2<|Jw<|Ja2 (l:=[.tmp 4]) V249 (Jp2 R R) R ?_
 cases h
 exact⟨K8,R,(hE.stp S9 R R)⟩
 rintro _ w4 ⟨K5,rfl,S6,rfl⟩
 have h:=yI hK2
 refine Jp<|Je3 R<|Ju<|Ja2 (l:=[.tmp 4]) V249 (Jp2 R R) R ?_
 cases h
 exact⟨K5,R,(hE.stp S6 R R)⟩
theorem p5 {ac ai ak aj}{p0:Answer}{p1:Int}(g0_0:Rd (Rp.int .i64) κ w 0 ac ai p0.Won) (g0_1:Rd (Rp.int .i64) κ w 0 ak aj p0.Plan){r:(List Int)}(h:jB p0 p1=some r):Ret Tryz.prog 195 [.agg #[.slice ac p0.Won.length ai,.slice ak p0.Plan.length aj],vi p1] w (Pvs E6 2 κ w r):=by
 unfold jB at h
 refine Jk3 κ F195 R N195 R λhE=>Je [1,2] R<|Jf1 (κ:=κ) 2 R R R R R R R λb2 w1 K2 S3 f4=>Tv<|Jb 1 R<|Jq<|Je [2,1,2,2] R<|Jd3 R U113 R Z29<|Jb3 R I29 (f4.ld 0 R R)<|Jn3 R U29 R R<|Jb 1 R ?_
 revert h
 cases ht5:decide (256<(p0.Won.length:Int))
 refine JF λh=>Jy R<|Js<|Jp<|Je [1,2] R<|Jo1 (κ:=K2) (E:=E6) 3 R R R R R Y29 bG R λao al w7 K8 S9 f10=>Tv<|Jb 1 R<|Jq<|Je [2,1,2,2] R<|Jd3 R U113 R Z29<|Jb3 R I29 ((f4.stp S9 R R).ld 0 R R)<|Jn3 R U29 R R<|Jb 1 R ?_
 have hN12:(p0.Won.length:Int)<=9223372036854775807:=g0_0.len_le
 refine Ob h λq2 hq14 hK13=>?_
 clear h
 refine Jx1 (λL w'=>∃κ',∃s3:(List Int),∃af ad,L=[(5,.slice af s3.length ad)]/\Stp [3] K8 w7 κ' w'/\Oc E6 2 κ' w' 3 af ad s3/\q2=xe s3) ?_ ?_
 refine Jv<|Jy1 (λk L w'=>∃κ' v16,∃s1:(List Int),∃aa ab,L=[(1,vi p1),(5,.slice aa s1.length ab),(14,.slice ac p0.Won.length ai),(15,vi (p0.Won.length:Int)),(16,vi v16)]/\Stp [3] K8 w7 κ' w'/\Oc E6 2 κ' w' 3 aa ab s1/\0<=v16/\xh ((p0.Won.length:Int)-v16)=k/\cntM (fK p0 p1) k v16 s1=some q2) ⟨_,_,⟨K8,0,(([]:List Int):(List Int)),ao,al,R,Jj3,f10,(by decide),(by simp),hq14⟩,(KM R)⟩ ?_
 rintro k _ w19 ⟨K20,v16,s1,aa,ab,rfl,S21,f22,hj12,hJ12,h⟩
 rcases k with _ | k
 have hk23:=h;obtain⟨o12,h⟩:=bP (xe (xf s1):(List Int)⊕(((List Int))⊕((List Int))))
 have hc12:decide (v16<(p0.Won.length:Int))=false:=Jo2 (by omega)
 refine Je3 R<|Jq<|Jw2 R hc12<|Jc1<|Jt<|Jt ?_
 cases h
 have h:=hk23
 refine Jb1 ?_
 cases h
 exact Jw1 _ ⟨K20,s1,aa,ab,R,S21.wk R,f22,R⟩<|KM R
 obtain⟨o12,h,hk23⟩:=BI h;unfold fK at h
 have hc12:decide (v16<(p0.Won.length:Int))=true:=Jn2 (by omega)
 refine Je3 R<|Jq<|Jv2 R hc12<|Js<|Jp<|Jq<|Jv<|Jg3 [2,2,1,2,2] 1 R<|Ob h λx19 hx19 h=>Jc3 R g0_0 hx19 U29 Z2<|Jb3 R I2 ((g0_0.stp (T3 S3 S9 S21) R R).gInt hx19)<|Jb 2 R<|Je3 R<|Ob h λq4 h hK25=>Jx1 (λL w'=>∃κ' ae ah,L=[(1,vi p1),(5,.slice ae q4.length ah),(14,.slice ac p0.Won.length ai),(15,vi (p0.Won.length:Int)),(16,vi v16)]/\Stp [3] K20 w19 κ' w'/\Oc E6 2 κ' w' 3 ae ah q4) ?_ ?_
 revert h
 cases ht30:(x19==p1)
 refine JF λh=>Jy R<|Js ?_
 cases h
 exact Jw1 _ ⟨K20,aa,ab,R,Jj3,f22⟩<|KM R
 refine JT λh=>Jx R<|Jh3 [2,2,1,1,2] 2 R<|Jn1 (κ:=K20) (E:=E6) 4 [] (parts:=[(0,.tmp 25)]) (cells:=[vi v16]) (xs:=([v16]:List Int)) R R R R R R Y29 bG R R R R R R R R R R ⟨[vi v16],[],Zl K20 w19 [],Zl K20 w19 [],R,Zl.sp (l1:=[]) (l2:=[]) R,Zl.sr (l1:=[]) (l2:=[]),R,R⟩ λaq ap w31 K32 S33 f34=>Tv<|Ob h λx27 hx27 h=>Jm1 (κ:=K32) (E:=E6) 3 [] R R R R R R R R R Y29 bG R R R R (f22.stp S33 R R) (Sl.srcP (bT _) f34.rdc) bK hx27 R λam an w36 K37 S38 f39=>Tv<|Jc 1 R ?_
 cases h
 exact Jw1 _ ⟨K37,am,an,R,(S33.tr S38).wk R,f39⟩<|KM R
 rintro _ w26 ⟨K27,ae,ah,rfl,S28,f29⟩
 have h:=hK25
 refine Jz<|Jp<|Jf3 R ?_
 have hw12:t0 .i64 (v16+1)=v16+1:=wr1 hj12 (Jm2 hc12) hN12
 rw[hw12]
 have hc12:=Jm2 hc12
 cases h
 exact Jz1 λa ha=>⟨k,_,Ja3 _,⟨K27,v16+1,q4,ae,ah,R,(S21.tr S28).wk R,f29,by omega,by omega,hk23⟩,(ha.mm R)⟩
 rintro _ w15 ⟨K16,s3,af,ad,rfl,S17,f18,rfl⟩
 have h:=yI hK13
 refine Jp<|Je3 R<|Ju<|Ja2 (l:=[.tmp 4]) V195 (Jp2 R R) R ?_
 cases h
 exact⟨(λb=>ren [(3,2)]<|K16 b),af,ad,R,((hE.stp (T3 S3 S9 S17) R R).map (ren [(3,2)]) R R),(f18.map (ren [(3,2)]) R R)⟩
 refine JT λh=>Jx R<|Je3 R<|Ju<|Jw<|Ja2 (l:=[.tmp 4]) V195 (Jp2 R R) R ?_
 cases h
 exact⟨K2,none,0,R,(hE.stp S3 R R),Ow.nil⟩
theorem oO {a0 u0}{p0:(List (List Int))}(g0:Rd (Rp.sl (Rp.int .i64)) κ w 0 a0 u0 p0){r:(List (List Int))}(h:kj p0=some r):Ret Tryz.prog 254 [.slice a0 p0.length u0] w (Pvs (Ep.own E6 2) 29 κ w r):=by
 unfold kj at h
 refine Jk3 κ F254 R N254 R λhE=>Je3 R<|Je [1,2] R<|Jo1 (κ:=κ) (E:=(Ep.own E6 2)) 2 R R R R R Y26 bN R λa6 u6 w1 K2 S3 f4=>Tv<|Jb 1 R<|Jq<|Jg3 [2,2,2] 1 R<|Jn3 R U26 R R<|Jb 1 R ?_
 have hN5:(p0.length:Int)<=9223372036854775807:=g0.len_le
 refine Ob h λq2 hq7 hK6=>?_
 clear h
 refine Jx1 (λL w'=>∃κ',∃s3:(List<|List Int),∃ad aa,L=[(3,.slice ad s3.length aa)]/\Stp [2,3,4] K2 w1 κ' w'/\Oc (Ep.own E6 2) 29 κ' w' 2 ad aa s3/\q2=xe s3) ?_ ?_
 refine Jv<|Jy1 (λk L w'=>∃κ' v9,∃s1:(List<|List Int),∃ab ac,L=[(3,.slice ab s1.length ac),(7,.slice a0 p0.length u0),(8,vi (p0.length:Int)),(9,vi v9)]/\Stp [2,3,4] K2 w1 κ' w'/\Oc (Ep.own E6 2) 29 κ' w' 2 ab ac s1/\0<=v9/\xh ((p0.length:Int)-v9)=k/\cntM (fo p0) k v9 s1=some q2) ⟨_,_,⟨K2,0,(([]:List (List Int)):(List<|List Int)),a6,u6,R,Jj3,f4,(by decide),(by simp),hq7⟩,(KM R)⟩ ?_
 rintro k _ w12 ⟨K13,v9,s1,ab,ac,rfl,S14,f15,hj5,hJ5,h⟩
 rcases k with _ | k
 have hk16:=h;obtain⟨o5,h⟩:=bP (xe (xf s1):(List (List Int))⊕(((List (List Int)))⊕((List (List Int)))))
 have hc5:decide (v9<(p0.length:Int))=false:=Jo2 (by omega)
 refine Je3 R<|Jq<|Jw2 R hc5<|Jc1<|Jt<|Jt ?_
 cases h
 have h:=hk16
 refine Jb1 ?_
 cases h
 exact Jw1 _ ⟨K13,s1,ab,ac,R,S14.wk R,f15,R⟩<|KM R
 obtain⟨o5,h,hk16⟩:=BI h;unfold fo at h
 have hc5:decide (v9<(p0.length:Int))=true:=Jn2 (by omega)
 refine Je3 R<|Jq<|Jv2 R hc5<|Js<|Jp<|Jq<|Jv<|Je [2,1,2] R<|Ob h λx11 hx11 h=>Jc3 R g0 hx11 U26 Z29 ?_
 obtain⟨ax11,ux11,f18,hl19⟩:=(g0.stp (S3.tr S14) R R).gSl hx11
 refine Jb3 R I29 hl19<|Jb 1 R<|Jh3 [2,1,2,1,1,1,2] 1 R<|Jo1 (κ:=K13) (E:=E6) 3 R R R R R Y29 bG R λak al w20 K21 S22 f23=>Tv<|Jn 1 R<|Ob h λx16 hx16 h=>Jm1 (κ:=K21) (E:=E6) 3 [] R R R R R R R R R Y29 bG R R R R f23 (Sl.srcP (bT _)<|f18.stp S22 R R) bK hx16 R λae af w25 K26 S27 f28=>Tv<|Jn1 (κ:=K26) (E:=(Ep.own E6 2)) 4 [3] (parts:=[(0,.tmp 16)]) (cells:=[.slice ae x16.length af]) (xs:=([x16]:List (List Int))) R R R R R R Y26 bN R R R R R R R R R R ⟨[.slice ae x16.length af],[],Zl K26 w25 [3],Zl K26 w25 [],R,Zl.sp (l1:=[3]) (l2:=[]) R,Zl.sr (l1:=[3]) (l2:=[]),⟨_,_,R,f28⟩,R⟩ λaj am w29 K30 S31 f32=>Tv<|Ob h λx18 hx18 h=>Jm1 (κ:=K30) (E:=(Ep.own E6 2)) 2 [4] R R R R R R R R R Y26 bN R R R R (f15.stp (T3 S22 S27 S31) R R) f32.src (dd R) hx18 R λah ai w34 K35 S36 f37=>Tv<|Jc 1 R<|Jz<|Jp<|Jf3 R ?_
 have hw5:t0 .i64 (v9+1)=v9+1:=wr1 hj5 (Jm2 hc5) hN5
 rw[hw5]
 have hc5:=Jm2 hc5
 cases h
 exact Jz1 λa ha=>⟨k,_,Ja3 _,⟨K35,v9+1,x18,ah,ai,R,(T5 S14 S22 S27 S31 S36).wk R,f37,by omega,by omega,hk16⟩,(ha.mm R)⟩
 rintro _ w8 ⟨K9,s3,ad,aa,rfl,S10,f11,rfl⟩
 have h:=yI hK6
 refine Jp<|Je3 R<|Ju<|Ja2 (l:=[.tmp 2]) V254 (Jp2 R R) R ?_
 cases h
 exact⟨K9,ad,aa,R,(hE.stp (S3.tr S10) R R),f11⟩
end Go.Proofs.YtpcjbkgbnoocaaaGreat
