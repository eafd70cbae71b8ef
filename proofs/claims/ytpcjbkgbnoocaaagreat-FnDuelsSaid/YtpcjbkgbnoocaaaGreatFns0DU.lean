/- The walks, part 0. By program. -/
import Derived.Test.YtpcjbkgbnoocaaaGreatFnsMDU
import Derived.Test.YtpcjbkgbnoocaaaGreatAlDU
set_option linter.unusedVariables false
set_option linter.unusedSimpArgs false
open Go.IntKind renaming wrap → sh
open Sum renaming inr → yk, inl → yl
open Int renaming toNat → yn
namespace Go.Proofs.YtpcjbkgbnoocaaaGreat
open Go Go.Wk Go.Proofs
set_option maxRecDepth 100000
set_option maxHeartbeats 1000000
variable {w:World}{κ:Col}
theorem vO {a0 u0}{p0:(List Int)}(g0:Rd (Rp.int .u8) κ w 0 a0 u0 p0){r:Bool}(h:ut p0=some r):Ret Tryz.prog 8 [.slice a0 p0.length u0] w (Pvb κ w r):=by
 unfold ut at h
 refine Jk3 κ F8 R N8 R λhE=>Je3 R<|Jg3 [2,2,2,2] 1 R<|Jn3 R U22 R R<|Jb 2 R<|Ju<|Ja2 (l:=[.tmp 2]) V8 (Jp2 R R) R ?_
 cases h
 exact⟨κ,R,hE⟩
theorem cu {p0:Int}{p1:Int}{p2:Int}  {r:Bool}(h:dd p0 p1 p2=some r):Ret Tryz.prog 57 [vi p0,vi p1,vi p2] w (Pvb κ w r):=by
 unfold dd at h
 refine Jk3 κ F57 R N57 R λhE=>Je3 R<|Jg3 [2,2,2,2,2,2,2,2,2] 4 R<|Ob h λp14 h hK1=>Ju1 [(4,2),(5,2),(6,2),(7,2)] [(8,2)] (λL w'=>L=[(6,.bool false),(14,.bool p14)]/\∃κ',Stp [] κ w κ' w') tv ?_ ?_
 revert h
 cases ht2:decide (p1<=p0)
 refine JF λh=>Jn 4 R ?_
 cases h
 exact Jv1 _ tv ⟨R,_,Jj3⟩<|KM R
 refine JT λh=>Jn 4 R ?_
 cases h
 exact Jv1 _ tv ⟨R,_,Jj3⟩<|KM R
 rintro _ w3 _ ⟨rfl,K4,S5⟩
 have h:=hK1
 refine Jb 1 R<|Ju<|Ja2 (l:=[.tmp 6]) V57 (Jp2 R R) R ?_
 cases h
 exact⟨K4,R,(hE.stp S5 R R)⟩
theorem cv {p0:Int}  {r:Int}(h:cw p0=some r):Ret Tryz.prog 59 [vi p0] w (Pvi κ w r):=by
 unfold cw at h
 refine Jk3 κ F59 R N59 R λhE=>Je3 R<|Je3 R<|Jq<|Ob h λq2 hq3 hK2=>?_
 clear h
 refine Jx1 (λL w'=>∃κ',∃s3:Int×Int,L=[(3,vi s3.2)]/\Stp [] κ w κ' w'/\q2=yk s3) ?_ ?_
 refine Jv<|Jy1 (λk L w'=>∃κ',∃s1:Int×Int,L=[(0,vi s1.1),(3,vi s1.2)]/\Stp [] κ w κ' w'/\bI eP k s1=some q2) ⟨_,_,⟨κ,(p0,(1:Int)),R,Jj3,hq3⟩,(KM R)⟩ ?_
 rintro k _ w7 ⟨K8,s1,rfl,S9,h⟩
 rcases k with _ | k
 cases h
 obtain⟨o1,h,hk10⟩:=BI h;unfold eP at h
 refine Jq<|Je3 R ?_
 revert h
 cases ht11:decide (0<s1.1)
 refine JF λh=>Jy R<|Jc1<|Jt<|Jt ?_
 cases h
 have h:=hk10
 refine Jb1 ?_
 cases h
 exact Jw1 _ ⟨K8,(s1.1,s1.2),R,S9.wk R,R⟩<|KM R
 refine JT λh=>Jx R<|Js<|Jp<|Jq<|Jv<|Jf3 R<|Jz<|Jp<|Jf3 R ?_
 cases h
 exact Jz1 λa ha=>⟨k,_,Ja3 _,⟨K8,(((IntKind.i64.wrap<|s1.1-1):Int),((IntKind.i64.wrap<|s1.2 * 2):Int)),R,S9.wk R,hk10⟩,(ha.mm R)⟩
 rintro _ w4 ⟨K5,s3,rfl,S6,rfl⟩
 have h:=yI hK2
 refine Jp<|Je3 R<|Ju<|Ja2 (l:=[.tmp 2]) V59 (Jp2 R R) R ?_
 cases h
 exact⟨K5,R,(hE.stp S6 R R)⟩
theorem ck {a0 u0}{p0:(List Int)}(g0:Rd (Rp.int .i64) κ w 0 a0 u0 p0){r:(List Int)}(h:cA p0=some r):Ret Tryz.prog 56 [.slice a0 p0.length u0] w (Pvs E6 2 κ w r):=by
 unfold cA at h
 refine Jk3 κ F56 R N56 R λhE=>Je3 R<|Je [1,2,1,2] R<|Jo1 (κ:=κ) (E:=E6) 2 R R R R R Y29 a8 R λa3 u3 w1 K2 S3 f4=>Tv<|Jn 1 R<|Ob h λx5 hx5 h=>Jm1 (κ:=K2) (E:=E6) 2 [] R R R R R R R R R Y29 a8 R R R R f4 (Sl.srcP (bM _)<|g0.stp S3 R R) bH hx5 R λa5 u5 w6 K7 S8 f9=>Tv<|Jb 1 R<|Ju<|Ja2 (l:=[.tmp 2]) V56 (Jp2 R R) R ?_
 cases h
 exact⟨K7,a5,u5,R,(hE.stp (S3.tr S8) R R),f9⟩
theorem n9 {p0:Int}  {r:Bool}(h:iH p0=some r):Ret Tryz.prog 161 [vi p0] w (Pvb κ w r):=by
 unfold iH at h
 refine Jk3 κ F161 R N161 R λhE=>Je3 R<|Jg3 [2,2,2,2,2,2,2,2,2,2,2] 3 R<|Ob h λp8 h hK1=>Ju1 [(3,2),(4,2),(5,2)] [(6,2),(7,2),(8,2),(9,2),(10,2)] (λL w'=>L=[(0,vi p0),(2,.bool false),(8,.bool p8)]/\∃κ',Stp [] κ w κ' w') tv ?_ ?_
 revert h
 cases ht2:(p0==2)
 refine JF λh=>Jn 3 R ?_
 cases h
 exact Jv1 _ tv ⟨R,_,Jj3⟩<|KM R
 refine JT λh=>Jn 3 R ?_
 cases h
 exact Jv1 _ tv ⟨R,_,Jj3⟩<|KM R
 rintro _ w3 _ ⟨rfl,K4,S5⟩
 have h:=hK1
 refine Jn 1 R<|Ob h λp12 h hK6=>Ju1 [(7,2),(8,2),(9,2)] [(10,2)] (λL w'=>L=[(2,.bool false),(12,.bool p12)]/\∃κ',Stp [] K4 w3 κ' w') tv ?_ ?_
 revert h
 cases ht7:p8
 refine JF λh=>Jn 3 R ?_
 cases h
 exact Jv1 _ tv ⟨R,_,Jj3⟩<|KM R
 refine JT λh=>Jn 3 R ?_
 cases h
 exact Jv1 _ tv ⟨R,_,Jj3⟩<|KM R
 rintro _ w8 _ ⟨rfl,K9,S10⟩
 have h:=hK6
 refine Jb 1 R<|Ju<|Ja2 (l:=[.tmp 2]) V161 (Jp2 R R) R ?_
 cases h
 exact⟨K9,R,(hE.stp (S5.tr S10) R R)⟩
theorem qk {p0:Int}{p1:Int}  {r:Int}(h:ki p0 p1=some r):Ret Tryz.prog 110 [vi p0,vi p1] w (Pvi κ w r):=by
 unfold ki at h
 refine Jk3 κ F110 R N110 R λhE=>Je3 R<|Jq<|Je3 R ?_
 revert h
 cases ht1:decide (p0<p1)
 refine JF λh=>Jy R<|Js<|Jp<|Je3 R<|Ju<|Ja2 (l:=[.tmp 4]) V110 (Jp2 R R) R ?_
 cases h
 exact⟨κ,R,hE⟩
 refine JT λh=>Jx R<|Je3 R<|Ju<|Jw<|Ja2 (l:=[.tmp 4]) V110 (Jp2 R R) R ?_
 cases h
 exact⟨κ,R,hE⟩
theorem lu {a0 u0}{p0:(List Int)}{p1:Int}(g0:Rd (Rp.int .i64) κ w 0 a0 u0 p0){r:Bool}(h:kg p0 p1=some r):Ret Tryz.prog 201 [.slice a0 p0.length u0,vi p1] w (Pvb κ w r):=by
 unfold kg at h
 refine Jk3 κ F201 R N201 R λhE=>Je3 R<|Jq<|Je3 R ?_
 have hN1:(p0.length:Int)<=9223372036854775807:=g0.len_le
 refine Ob h λq2 hq3 hK2=>?_
 clear h
 refine Jx1 (λL w'=>∃κ',L=[]/\Stp [] κ w κ' w'/\q2=yk ()) ?_ ?_
 refine Jv<|Jy1 (λk L w'=>∃κ' v5,L=[(0,.slice a0 p0.length u0),(1,vi p1),(5,vi v5)]/\Stp [] κ w κ' w'/\0<=v5/\yn ((p0.length:Int)-v5)=k/\cntM (jI p0 p1) k v5 ()=some q2) ⟨_,_,⟨κ,0,R,Jj3,(by decide),(by simp),hq3⟩,(KM R)⟩ ?_
 rintro k _ w7 ⟨K8,v5,rfl,S9,hj1,hJ1,h⟩
 rcases k with _ | k
 have hk10:=h;obtain⟨o1,h⟩:=ca (yk (yl ()):Bool⊕((Unit)⊕(Unit)))
 have hc1:decide (v5<(p0.length:Int))=false:=Jo2 (by omega)
 refine Jq<|Jg3 [2,2,2,2] 2 R<|Jn3 R U29 R R<|Jb 1 R<|Jw2 R hc1<|Jc1<|Jt<|Jt ?_
 cases h
 have h:=hk10
 refine Jb1 ?_
 cases h
 exact Jw1 _ ⟨K8,R,S9.wk R,R⟩ KN
 obtain⟨o1,h,hk10⟩:=BI h;unfold jI at h
 have hc1:decide (v5<(p0.length:Int))=true:=Jn2 (by omega)
 refine Jq<|Jg3 [2,2,2,2] 2 R<|Jn3 R U29 R R<|Jb 1 R<|Jv2 R hc1<|Js<|Jp<|Jq<|Jv<|Jg3 [2,2,2,1,2,2] 2 R<|Ob h λx14 hx14 h=>Jc3 R g0 hx14 U29 Z2<|Jb3 R I2 ((g0.stp S9 R R).gInt hx14)<|Jb 2 R ?_
 revert h
 cases ht12:(x14==p1)
 refine JF λh=>Jy R<|Js<|Jz<|Jp<|Jf3 R ?_
 have hw1:sh .i64 (v5+1)=v5+1:=wr1 hj1 (Jm2 hc1) hN1
 rw[hw1]
 have hc1:=Jm2 hc1
 cases h
 exact Jz1 λa ha=>⟨k,_,Ja3 _,⟨K8,v5+1,R,S9.wk R,by omega,by omega,hk10⟩,(ha.mm R)⟩
 refine JT λh=>Jx R<|Je3 R<|Ju<|Ja1<|Jw<|Jw ?_
 cases h
 obtain rfl:=Option.some.inj hk10
 have h:=yL hK2
 refine Ja1<|Jq2<|Jw<|Ja2 (l:=[.tmp 4]) V201 (Jp2 R R) R ?_
 cases h
 exact⟨K8,R,(hE.stp S9 R R)⟩
 rintro _ w4 ⟨K5,rfl,S6,rfl⟩
 have h:=yI hK2
 refine Jp<|Je3 R<|Ju<|Ja2 (l:=[.tmp 4]) V201 (Jp2 R R) R ?_
 cases h
 exact⟨K5,R,(hE.stp S6 R R)⟩
theorem kp {a0 u0}{p0:(List (List Int))}{p1:Int}{p2:Int}(g0:Rd (Rp.sl (Rp.int .i64)) κ w 0 a0 u0 p0){r:Int}(h:eB p0 p1 p2=some r):Ret Tryz.prog 54 [.slice a0 p0.length u0,vi p1,vi p2] w (Pvi κ w r):=by
 unfold eB at h
 refine Jk3 κ F54 R N54 R λhE=>Je3 R<|Jq<|Je3 R ?_
 have hN1:(p0.length:Int)<=9223372036854775807:=g0.len_le
 refine Ob h λq2 hq3 hK2=>?_
 clear h
 refine Jx1 (λL w'=>∃κ',L=[]/\Stp [] κ w κ' w'/\q2=yk ()) ?_ ?_
 refine Jv<|Jy1 (λk L w'=>∃κ' v7,L=[(0,.slice a0 p0.length u0),(1,vi p1),(2,vi p2),(7,vi v7)]/\Stp [] κ w κ' w'/\0<=v7/\yn ((p0.length:Int)-v7)=k/\cntM (dS p0 p1 p2) k v7 ()=some q2) ⟨_,_,⟨κ,0,R,Jj3,(by decide),(by simp),hq3⟩,(KM R)⟩ ?_
 rintro k _ w7 ⟨K8,v7,rfl,S9,hj1,hJ1,h⟩
 rcases k with _ | k
 have hk10:=h;obtain⟨o1,h⟩:=ca (yk (yl ()):Int⊕((Unit)⊕(Unit)))
 have hc1:decide (v7<(p0.length:Int))=false:=Jo2 (by omega)
 refine Jq<|Jg3 [2,2,2,2] 2 R<|Jn3 R U26 R R<|Jb 1 R<|Jw2 R hc1<|Jc1<|Jt<|Jt ?_
 cases h
 have h:=hk10
 refine Jb1 ?_
 cases h
 exact Jw1 _ ⟨K8,R,S9.wk R,R⟩ KN
 obtain⟨o1,h,hk10⟩:=BI h;unfold dS at h
 have hc1:decide (v7<(p0.length:Int))=true:=Jn2 (by omega)
 refine Jq<|Jg3 [2,2,2,2] 2 R<|Jn3 R U26 R R<|Jb 1 R<|Jv2 R hc1<|Js<|Jp<|Jq<|Jv<|Jg3 [2,2,2,1,2,1,2,2,2,2,2,2,1,2,1,2,2,2] 2 R<|Ob h λx16 hx16 h=>Jc3 R g0 hx16 U26 Z29 ?_
 have f11:=g0.stp S9 R R
 obtain⟨ax16,ux16,f12,hl13⟩:=f11.gSl hx16
 refine Jb3 R I29 hl13<|Ob h λx18 hx18 h=>Jc3 R f12 hx18 U29 Z2<|Jb3 R I2 (f12.gInt hx18)<|Jn 3 R<|Ob h λp31 h hK14=>Ju1 [(9,2),(10,2),(11,2),(12,1),(13,2),(14,1),(15,2),(16,2),(17,2)] [] (λL w'=>L=[(0,.slice a0 p0.length u0),(1,vi p1),(2,vi p2),(7,vi v7),(31,.bool p31)]/\∃κ',Stp [] K8 w7 κ' w') tv ?_ ?_
 revert h
 cases ht15:(x18==p1)
 refine JF λh=>Jn 3 R<|Jd1 R R R R<|Jn 1 R<|Jd1 R R R R<|Jn 3 R ?_
 cases h
 exact Jv1 _ tv ⟨R,_,Jj3⟩<|KM R
 refine JT λh=>Jn 2 R<|Ob h λx25 hx25 h=>Jc3 R f11 hx25 U26 Z29 ?_
 obtain⟨ax25,ux25,f16,hl17⟩:=f11.gSl hx25
 refine Jb3 R I29 hl17<|Ob h λx27 hx27 h=>Jc3 R f16 hx27 U29 Z2<|Jb3 R I2 (f16.gInt hx27)<|Jn 3 R ?_
 cases h
 exact Jv1 _ tv ⟨R,_,Jj3⟩<|KM R
 rintro _ w18 _ ⟨rfl,K19,S20⟩
 have h:=hK14
 refine Jd ?_
 revert h
 cases ht21:p31
 refine JF λh=>Jy R<|Js<|Jz<|Jp<|Jf3 R ?_
 have hw1:sh .i64 (v7+1)=v7+1:=wr1 hj1 (Jm2 hc1) hN1
 rw[hw1]
 have hc1:=Jm2 hc1
 cases h
 exact Jz1 λa ha=>⟨k,_,Ja3 _,⟨K19,v7+1,R,(S9.tr S20).wk R,by omega,by omega,hk10⟩,(ha.mm R)⟩
 refine JT λh=>Jx R<|Je3 R<|Ju<|Ja1<|Jw<|Jw ?_
 cases h
 obtain rfl:=Option.some.inj hk10
 have h:=yL hK2
 refine Ja1<|Jq2<|Jw<|Ja2 (l:=[.tmp 6]) V54 (Jp2 R R) R ?_
 cases h
 exact⟨K19,R,(hE.stp (S9.tr S20) R R)⟩
 rintro _ w4 ⟨K5,rfl,S6,rfl⟩
 have h:=yI hK2
 refine Jp<|Je3 R<|Ju<|Ja2 (l:=[.tmp 6]) V54 (Jp2 R R) R ?_
 cases h
 exact⟨K5,R,(hE.stp S6 R R)⟩
theorem lU {a0 u0}{p0:(List Int)}{p1:Int}(g0:Rd (Rp.int .i64) κ w 0 a0 u0 p0){r:Bool}(h:jJ p0 p1=some r):Ret Tryz.prog 171 [.slice a0 p0.length u0,vi p1] w (Pvb κ w r):=by
 unfold jJ at h
 refine Jk3 κ F171 R N171 R λhE=>Je3 R<|Jq<|Je3 R ?_
 have hN1:(p0.length:Int)<=9223372036854775807:=g0.len_le
 refine Ob h λq2 hq3 hK2=>?_
 clear h
 refine Jx1 (λL w'=>∃κ',L=[]/\Stp [] κ w κ' w'/\q2=yk ()) ?_ ?_
 refine Jv<|Jy1 (λk L w'=>∃κ' v5,L=[(0,.slice a0 p0.length u0),(1,vi p1),(5,vi v5)]/\Stp [] κ w κ' w'/\0<=v5/\yn ((p0.length:Int)-v5)=k/\cntM (jc p0 p1) k v5 ()=some q2) ⟨_,_,⟨κ,0,R,Jj3,(by decide),(by simp),hq3⟩,(KM R)⟩ ?_
 rintro k _ w7 ⟨K8,v5,rfl,S9,hj1,hJ1,h⟩
 rcases k with _ | k
 have hk10:=h;obtain⟨o1,h⟩:=ca (yk (yl ()):Bool⊕((Unit)⊕(Unit)))
 have hc1:decide (v5<(p0.length:Int))=false:=Jo2 (by omega)
 refine Jq<|Jg3 [2,2,2,2] 2 R<|Jn3 R U29 R R<|Jb 1 R<|Jw2 R hc1<|Jc1<|Jt<|Jt ?_
 cases h
 have h:=hk10
 refine Jb1 ?_
 cases h
 exact Jw1 _ ⟨K8,R,S9.wk R,R⟩ KN
 obtain⟨o1,h,hk10⟩:=BI h;unfold jc at h
 have hc1:decide (v5<(p0.length:Int))=true:=Jn2 (by omega)
 refine Jq<|Jg3 [2,2,2,2] 2 R<|Jn3 R U29 R R<|Jb 1 R<|Jv2 R hc1<|Js<|Jp<|Jq<|Jv<|Jg3 [2,2,2,1,2,2] 2 R<|Ob h λx14 hx14 h=>Jc3 R g0 hx14 U29 Z2<|Jb3 R I2 ((g0.stp S9 R R).gInt hx14)<|Jb 2 R ?_
 revert h
 cases ht12:(x14==p1)
 refine JF λh=>Jy R<|Js<|Jz<|Jp<|Jf3 R ?_
 have hw1:sh .i64 (v5+1)=v5+1:=wr1 hj1 (Jm2 hc1) hN1
 rw[hw1]
 have hc1:=Jm2 hc1
 cases h
 exact Jz1 λa ha=>⟨k,_,Ja3 _,⟨K8,v5+1,R,S9.wk R,by omega,by omega,hk10⟩,(ha.mm R)⟩
 refine JT λh=>Jx R<|Je3 R<|Ju<|Ja1<|Jw<|Jw ?_
 cases h
 obtain rfl:=Option.some.inj hk10
 have h:=yL hK2
 refine Ja1<|Jq2<|Jw<|Ja2 (l:=[.tmp 4]) V171 (Jp2 R R) R ?_
 cases h
 exact⟨K8,R,(hE.stp S9 R R)⟩
 rintro _ w4 ⟨K5,rfl,S6,rfl⟩
 have h:=yI hK2
 refine Jp<|Je3 R<|Ju<|Ja2 (l:=[.tmp 4]) V171 (Jp2 R R) R ?_
 cases h
 exact⟨K5,R,(hE.stp S6 R R)⟩
theorem oB {a0 u0}{p0:(List Int)}{a1 u1}{p1:(List Int)}(g0:Rd (Rp.int .i64) κ w 0 a0 u0 p0) (g1:Rd (Rp.int .i64) κ w 0 a1 u1 p1){r:Bool}(h:fV p0 p1=some r):Ret Tryz.prog 172 [.slice a0 p0.length u0,.slice a1 p1.length u1] w (Pvb κ w r):=by
 unfold fV at h
 refine Jk3 κ F172 R N172 R λhE=>Je3 R<|Jq<|Jg3 [2,2,2,2,2] 1 R<|Jn3 R U29 R R<|Jn 1 R<|Jn3 R U29 R R<|Jb 1 R ?_
 revert h
 cases ht1:((p0.length:Int) !=(p1.length:Int))
 refine JF λh=>Jy R<|Js<|Jp<|Jq<|Je3 R ?_
 have hN2:(p0.length:Int)<=9223372036854775807:=g0.len_le
 refine Ob h λq2 hq4 hK3=>?_
 clear h
 refine Jx1 (λL w'=>∃κ',L=[]/\Stp [] κ w κ' w'/\q2=yk ()) ?_ ?_
 refine Jv<|Jy1 (λk L w'=>∃κ' v5,L=[(0,.slice a0 p0.length u0),(1,.slice a1 p1.length u1),(5,vi v5)]/\Stp [] κ w κ' w'/\0<=v5/\yn ((p0.length:Int)-v5)=k/\cntM (ef p0 p1) k v5 ()=some q2) ⟨_,_,⟨κ,0,R,Jj3,(by decide),(by simp),hq4⟩,(KM R)⟩ ?_
 rintro k _ w8 ⟨K9,v5,rfl,S10,hj2,hJ2,h⟩
 rcases k with _ | k
 have hk11:=h;obtain⟨o2,h⟩:=ca (yk (yl ()):Bool⊕((Unit)⊕(Unit)))
 have hc2:decide (v5<(p0.length:Int))=false:=Jo2 (by omega)
 refine Jq<|Jg3 [2,2,2,2] 2 R<|Jn3 R U29 R R<|Jb 1 R<|Jw2 R hc2<|Jc1<|Jt<|Jt ?_
 cases h
 have h:=hk11
 refine Jb1 ?_
 cases h
 exact Jw1 _ ⟨K9,R,S10.wk R,R⟩ KN
 obtain⟨o2,h,hk11⟩:=BI h;unfold ef at h
 have hc2:decide (v5<(p0.length:Int))=true:=Jn2 (by omega)
 refine Jq<|Jg3 [2,2,2,2] 2 R<|Jn3 R U29 R R<|Jb 1 R<|Jv2 R hc2<|Js<|Jp<|Jq<|Jv<|Jq<|Js1 (κ:=K9) [0] none [(0,2),(1,2),(2,2),(4,2),(5,2),(6,2),(3,0),(7,0),(8,2)] [] (by kernel_rfl) (by kernel_rfl) λw13 S12=>Jn 2 R<|Ob h λx19 hx19 h=>Jc3 R g0 hx19 U29 Z2<|Jn 2 R<|Ob h λx23 hx23 h=>Jc3 R g1 hx23 U29 Z2<|Jg R (Jc2 I2 R R<|hvC ((g0.stp (S10.tr S12) R R).gInt hx19) R)<|Jg R (Jc2 I2 R R<|hvC ((g1.stp (S10.tr S12) R R).gInt hx23) R)<|Jn 1 R<|Jt1<|Jd ?_
 revert h
 cases ht16:(x19 !=x23)
 refine JF λh=>Jy R<|Js<|Jz<|Jp<|Jf3 R ?_
 have hw2:sh .i64 (v5+1)=v5+1:=wr1 hj2 (Jm2 hc2) hN2
 rw[hw2]
 have hc2:=Jm2 hc2
 cases h
 exact Jz1 λa ha=>⟨k,_,Ja3 _,⟨K9,v5+1,R,(S10.tr S12).wk R,by omega,by omega,hk11⟩,(ha.mm R)⟩
 refine JT λh=>Jx R<|Je3 R<|Ju<|Ja1<|Jw<|Jw ?_
 cases h
 obtain rfl:=Option.some.inj hk11
 have h:=yL hK3
 refine Ja1<|Jq2<|Jw<|Ja2 (l:=[.tmp 4]) V172 (Jp2 R R) R ?_
 cases h
 exact⟨K9,R,(hE.stp (S10.tr S12) R R)⟩
 rintro _ w5 ⟨K6,rfl,S7,rfl⟩
 have h:=yI hK3
 refine Jp<|Je3 R<|Ju<|Ja2 (l:=[.tmp 4]) V172 (Jp2 R R) R ?_
 cases h
 exact⟨K6,R,(hE.stp S7 R R)⟩
 refine JT λh=>Jx R<|Je3 R<|Ju<|Jw<|Ja2 (l:=[.tmp 4]) V172 (Jp2 R R) R ?_
 cases h
 exact⟨κ,R,hE⟩
theorem rH {a0 u0}{p0:(List Int)}{p1:Int}(g0:Rd (Rp.int .i64) κ w 0 a0 u0 p0){r:Bool}(h:ot p0 p1=some r):Ret Tryz.prog 252 [.slice a0 p0.length u0,vi p1] w (Pvb κ w r):=by
 unfold ot at h
 refine Jk3 κ F252 R N252 R λhE=>Je3 R<|Jq<|Je3 R ?_
 have hN1:(p0.length:Int)<=9223372036854775807:=g0.len_le
 refine Ob h λq2 hq3 hK2=>?_
 clear h
 refine Jx1 (λL w'=>∃κ',L=[]/\Stp [] κ w κ' w'/\q2=yk ()) ?_ ?_
 refine Jv<|Jy1 (λk L w'=>∃κ' v5,L=[(0,.slice a0 p0.length u0),(1,vi p1),(5,vi v5)]/\Stp [] κ w κ' w'/\0<=v5/\yn ((p0.length:Int)-v5)=k/\cntM (lw p0 p1) k v5 ()=some q2) ⟨_,_,⟨κ,0,R,Jj3,(by decide),(by simp),hq3⟩,(KM R)⟩ ?_
 rintro k _ w7 ⟨K8,v5,rfl,S9,hj1,hJ1,h⟩
 rcases k with _ | k
 have hk10:=h;obtain⟨o1,h⟩:=ca (yk (yl ()):Bool⊕((Unit)⊕(Unit)))
 have hc1:decide (v5<(p0.length:Int))=false:=Jo2 (by omega)
 refine Jq<|Jg3 [2,2,2,2] 2 R<|Jn3 R U29 R R<|Jb 1 R<|Jw2 R hc1<|Jc1<|Jt<|Jt ?_
 cases h
 have h:=hk10
 refine Jb1 ?_
 cases h
 exact Jw1 _ ⟨K8,R,S9.wk R,R⟩ KN
 obtain⟨o1,h,hk10⟩:=BI h;unfold lw at h
 have hc1:decide (v5<(p0.length:Int))=true:=Jn2 (by omega)
 refine Jq<|Jg3 [2,2,2,2] 2 R<|Jn3 R U29 R R<|Jb 1 R<|Jv2 R hc1<|Js<|Jp<|Jq<|Jv<|Jg3 [2,2,2,1,2,2] 2 R<|Ob h λx14 hx14 h=>Jc3 R g0 hx14 U29 Z2<|Jb3 R I2 ((g0.stp S9 R R).gInt hx14)<|Jb 2 R ?_
 revert h
 cases ht12:(x14==p1)
 refine JF λh=>Jy R<|Js<|Jz<|Jp<|Jf3 R ?_
 have hw1:sh .i64 (v5+1)=v5+1:=wr1 hj1 (Jm2 hc1) hN1
 rw[hw1]
 have hc1:=Jm2 hc1
 cases h
 exact Jz1 λa ha=>⟨k,_,Ja3 _,⟨K8,v5+1,R,S9.wk R,by omega,by omega,hk10⟩,(ha.mm R)⟩
 refine JT λh=>Jx R<|Je3 R<|Ju<|Ja1<|Jw<|Jw ?_
 cases h
 obtain rfl:=Option.some.inj hk10
 have h:=yL hK2
 refine Ja1<|Jq2<|Jw<|Ja2 (l:=[.tmp 4]) V252 (Jp2 R R) R ?_
 cases h
 exact⟨K8,R,(hE.stp S9 R R)⟩
 rintro _ w4 ⟨K5,rfl,S6,rfl⟩
 have h:=yI hK2
 refine Jp<|Je3 R<|Ju<|Ja2 (l:=[.tmp 4]) V252 (Jp2 R R) R ?_
 cases h
 exact⟨K5,R,(hE.stp S6 R R)⟩
theorem qT {af aj ae ak ah ai}{p0:Parity}(g0_0_0:Rd (Rp.int .i64) κ w 0 af aj p0.Arena.Owner) (g0_0_1:Rd (Rp.sl (Rp.int .i64)) κ w 0 ae ak p0.Arena.Next) (g0_1:Rd (Rp.int .i64) κ w 0 ah ai p0.Prio){r:l7Game}(h:oo p0=some r):Ret Tryz.prog 175 [.agg #[.slice af p0.Arena.Owner.length aj,.slice ae p0.Arena.Next.length ak,.slice ah p0.Prio.length ai]] w (λv w'=>∃(κ':Col) (ra0:Option Addr) (ru0:Nat) (ra1:Option Addr) (ru1:Nat) (ra2:Option Addr) (ru2:Nat) (ra3:Option Addr) (ru3:Nat) (ra4:Option Addr) (ru4:Nat),v= .agg #[.slice ra0 r.owner.length ru0,.slice ra1 r.prio.length ru1,.slice ra2 r.next.length ru2,.slice ra3 r.prev.length ru3,.slice ra4 r.pick.length ru4]/\Ent κ w κ' w'/\Rd (Rp.int .i64) κ' w' 0 ra0 ru0 r.owner/\Rd (Rp.int .i64) κ' w' 0 ra1 ru1 r.prio/\Rd (Rp.sl (Rp.int .i64)) κ' w' 0 ra2 ru2 r.next/\Oc (Ep.own E6 2) 29 κ' w' 5 ra3 ru3 r.prev/\Oc E6 2 κ' w' 6 ra4 ru4 r.pick):=by
 unfold oo at h
 refine Jk3 κ F175 R N175 R λhE=>Je [1,1] R<|Jf1 (κ:=κ) 2 R R R R R R R λb1 w1 K2 S3 f4=>Tv<|Jg1 (κ:=K2) 3 R R R R R X191 R λb2 w5 K6 S7 f8=>Tv<|Jd<|Je [2,1,2,2] R<|Jd3 R U108 R Z29 ?_
 have f9:=f4.stp S7 R R
 refine Jb3 R I29 (f9.ld 2 R R)<|Jn3 R U29 R R<|Jb 1 R<|Jq<|Ob h λx20 hx20 h=>Ob h λx22 hx22 h=>Jx1 (λL w'=>∃κ' b4 ap av au aq ar aw am al ao an,L=[(1,.pointer (some ⟨b1,0,none⟩)),(2,.pointer (some ⟨b2,0,none⟩)),(3,vi (p0.Prio.length:Int)),(4,.pointer (some ⟨b4,0,none⟩))]/\Stp [4,5,6] K6 w5 κ' w'/\Rd (Rp.int .i64) κ' w' 0 ap av ((⟨p0.Arena.Owner,p0.Prio,p0.Arena.Next,x20,x22⟩:l7Game).owner)/\Rd (Rp.int .i64) κ' w' 0 au aq ((⟨p0.Arena.Owner,p0.Prio,p0.Arena.Next,x20,x22⟩:l7Game).prio)/\Rd (Rp.sl<|Rp.int .i64) κ' w' 0 ar aw ((⟨p0.Arena.Owner,p0.Prio,p0.Arena.Next,x20,x22⟩:l7Game).next)/\Oc (Ep.own E6 2) 29 κ' w' 4 am al ((⟨p0.Arena.Owner,p0.Prio,p0.Arena.Next,x20,x22⟩:l7Game).prev)/\Oc E6 2 κ' w' 5 ao an ((⟨p0.Arena.Owner,p0.Prio,p0.Arena.Next,x20,x22⟩:l7Game).pick)/\Bc κ' w' 6 b4 191 [.slice ap ((⟨p0.Arena.Owner,p0.Prio,p0.Arena.Next,x20,x22⟩:l7Game).owner).length av,.slice au ((⟨p0.Arena.Owner,p0.Prio,p0.Arena.Next,x20,x22⟩:l7Game).prio).length aq,.slice ar ((⟨p0.Arena.Owner,p0.Prio,p0.Arena.Next,x20,x22⟩:l7Game).next).length aw,.slice am ((⟨p0.Arena.Owner,p0.Prio,p0.Arena.Next,x20,x22⟩:l7Game).prev).length al,.slice ao ((⟨p0.Arena.Owner,p0.Prio,p0.Arena.Next,x20,x22⟩:l7Game).pick).length an]) ?_ ?_
 refine WC.rxt (κ:=K6) [2] none (by kernel_rfl) λw20 S21=>Jq1 (fuel:=5) [(0,2),(1,2),(3,2),(5,2),(6,2),(8,2),(10,2),(2,0),(4,0),(7,0)] (by kernel_rfl) (by kernel_rfl) R<|Jd3 R U108 R Z104<|Jd3 R U104 R Z29<|Jd3 R U108 R Z29<|Jd3 R U108 R Z104<|Jd3 R U104 R Z26<|Jn 2 R ?_
 have f22:=f9.stp S21 R R
 refine Jg R (Jc2 I29 R R<|hvC (f22.ld 0 R R) R)<|Jg R (Jc2 I29 R R<|hvC (f22.ld 2 R R) R)<|Jg R (Jc2 I26 R R<|hvC (f22.ld 1 R R) R)<|Jp1<|WA.fork3 (fuel:=4) 9 11 13 (by kernel_rfl) R ?_ ?_ ?_
 refine Jl1 (κ:=K6) (E:=(Ep.own E6 2)) (z:=(([]:List Int):(List Int))) 4 R R R R R R R Y26 bK R R R R R (λ_ _ _=>⟨none,0,R,Ow.nil⟩) (Ju2 hx20) λab ac w23 K24 S25 f26=>⟨(S25.cl R),Jp1<|WA.fork2 (fuel:=3) 11 13 (by kernel_rfl) R ?_ ?_⟩
 have S001:=(T4 S3 S7 S21 S25)
 exact Jl1 (κ:=K24) (E:=E6) (z:=(0:Int)) 5 R R R R R R R Y29 a8 R R R R R (λ_ _ _=>R) (Ju2 hx22) λaa ad w27 K28 S29 f30=>⟨((S25.tr S29).cl R),Jp1<|Jq1 (fuel:=0) [(12,2),(13,1),(14,1)] (by kernel_rfl) (by kernel_rfl) R<|Jf R (bG (parts:=[(0,.tmp 13),(1,.tmp 15),(2,.tmp 18),(3,.tmp 20),(4,.tmp 22)]) (cells:=[.slice af p0.Arena.Owner.length aj,.slice ah p0.Prio.length ai,.slice ae p0.Arena.Next.length ak,.slice ab x20.length ac,.slice aa x22.length ad]) R R (by kernel_rfl))<|Jg1 (κ:=K28) 6 R R R R R X191 R λb4 w31 K32 S33 f34=>⟨((T3 S25 S29 S33).cl R),Jj1 (κ:=K32) 6 (vc:=[.slice af p0.Arena.Owner.length aj,.slice ah p0.Prio.length ai,.slice ae p0.Arena.Next.length ak,.slice ab x20.length ac,.slice aa x22.length ad]) R R R R R R R Z191 R R f34 R λw35 S36 f37=>⟨((T4 S25 S29 S33 S36).cl R),Jp1<|Jr1 [] (by kernel_rfl) (by kernel_rfl) R<|Jo<|Jw1 _ ⟨K32,b4,af,aj,ah,ai,ae,ak,ab,ac,aa,ad,R,(T5 S21 S25 S29 S33 S36).wk R,(g0_0_0.stp (T4 S001 S29 S33 S36) R R),(g0_1.stp (T4 S001 S29 S33 S36) R R),(g0_0_1.stp (T4 S001 S29 S33 S36) R R),(f26.stp (T3 S29 S33 S36) R R),(f30.stp (S33.tr S36) R R),f37⟩<|KM R⟩⟩⟩
 have S002:=(T4 S3 S7 S21 S25)
 exact Jg1 (κ:=K24) 5 R R R R R X191 R λb4 w43 K44 S45 f46=>⟨((S25.tr S45).cl R),Jp1<|Jq1 (fuel:=0) [(11,1),(12,2),(14,1)] (by kernel_rfl) (by kernel_rfl) R<|Jl1 (κ:=K44) (E:=E6) (z:=(0:Int)) 6 R R R R R R R Y29 a8 R R R R R (λ_ _ _=>R) (Ju2 hx22) λaa ad w47 K48 S49 f50=>⟨((T3 S25 S45 S49).cl R),Jf R (bG (parts:=[(0,.tmp 13),(1,.tmp 15),(2,.tmp 18),(3,.tmp 20),(4,.tmp 22)]) (cells:=[.slice af p0.Arena.Owner.length aj,.slice ah p0.Prio.length ai,.slice ae p0.Arena.Next.length ak,.slice ab x20.length ac,.slice aa x22.length ad]) R R (by kernel_rfl))<|Jj1 (κ:=K48) 5 (vc:=[.slice af p0.Arena.Owner.length aj,.slice ah p0.Prio.length ai,.slice ae p0.Arena.Next.length ak,.slice ab x20.length ac,.slice aa x22.length ad]) R R R R R R R Z191 R R (f46.stp S49 R R) R λw52 S53 f54=>⟨((T4 S25 S45 S49 S53).cl R),Jp1<|Jr1 [] (by kernel_rfl) (by kernel_rfl) R<|Jo<|Jw1 _ ⟨(λb=>ren [(6,5),(5,6)]<|K48 b),b4,af,aj,ah,ai,ae,ak,ab,ac,aa,ad,R,(Jy2 ((T5 S21 S25 S45 S49 S53).wk R) [(6,5),(5,6)] R),((g0_0_0.stp (T4 S002 S45 S49 S53) R R).map (ren [(6,5),(5,6)]) R R),((g0_1.stp (T4 S002 S45 S49 S53) R R).map (ren [(6,5),(5,6)]) R R),((g0_0_1.stp (T4 S002 S45 S49 S53) R R).map (ren [(6,5),(5,6)]) R R),((f26.stp (T3 S45 S49 S53) R R).map (ren [(6,5),(5,6)]) R R),((f50.stp S53 R R).map (ren [(6,5),(5,6)]) R R),(f54.map (ren [(6,5),(5,6)]) R R)⟩<|KM R⟩⟩⟩
 refine Jl1 (κ:=K6) (E:=E6) (z:=(0:Int)) 4 R R R R R R R Y29 a8 R R R R R (λ_ _ _=>R) (Ju2 hx22) λaa ad w60 K61 S62 f63=>⟨(S62.cl R),Jp1<|WA.fork2 (fuel:=3) 9 13 (by kernel_rfl) R ?_ ?_⟩
 have S003:=(T4 S3 S7 S21 S62)
 exact Jl1 (κ:=K61) (E:=(Ep.own E6 2)) (z:=(([]:List Int):(List Int))) 5 R R R R R R R Y26 bK R R R R R (λ_ _ _=>⟨none,0,R,Ow.nil⟩) (Ju2 hx20) λab ac w64 K65 S66 f67=>⟨((S62.tr S66).cl R),Jp1<|Jq1 (fuel:=0) [(12,2),(13,1),(14,1)] (by kernel_rfl) (by kernel_rfl) R<|Jf R (bG (parts:=[(0,.tmp 13),(1,.tmp 15),(2,.tmp 18),(3,.tmp 20),(4,.tmp 22)]) (cells:=[.slice af p0.Arena.Owner.length aj,.slice ah p0.Prio.length ai,.slice ae p0.Arena.Next.length ak,.slice ab x20.length ac,.slice aa x22.length ad]) R R (by kernel_rfl))<|Jg1 (κ:=K65) 6 R R R R R X191 R λb4 w68 K69 S70 f71=>⟨((T3 S62 S66 S70).cl R),Jj1 (κ:=K69) 6 (vc:=[.slice af p0.Arena.Owner.length aj,.slice ah p0.Prio.length ai,.slice ae p0.Arena.Next.length ak,.slice ab x20.length ac,.slice aa x22.length ad]) R R R R R R R Z191 R R f71 R λw72 S73 f74=>⟨((T4 S62 S66 S70 S73).cl R),Jp1<|Jr1 [] (by kernel_rfl) (by kernel_rfl) R<|Jo<|Jw1 _ ⟨(λb=>ren [(5,4),(4,5)]<|K69 b),b4,af,aj,ah,ai,ae,ak,ab,ac,aa,ad,R,(Jy2 ((T5 S21 S62 S66 S70 S73).wk R) [(5,4),(4,5)] R),((g0_0_0.stp (T4 S003 S66 S70 S73) R R).map (ren [(5,4),(4,5)]) R R),((g0_1.stp (T4 S003 S66 S70 S73) R R).map (ren [(5,4),(4,5)]) R R),((g0_0_1.stp (T4 S003 S66 S70 S73) R R).map (ren [(5,4),(4,5)]) R R),((f67.stp (S70.tr S73) R R).map (ren [(5,4),(4,5)]) R R),((f63.stp (T3 S66 S70 S73) R R).map (ren [(5,4),(4,5)]) R R),(f74.map (ren [(5,4),(4,5)]) R R)⟩<|KM R⟩⟩⟩
 have S004:=(T4 S3 S7 S21 S62)
 exact Jg1 (κ:=K61) 5 R R R R R X191 R λb4 w80 K81 S82 f83=>⟨((S62.tr S82).cl R),Jp1<|Jq1 (fuel:=0) [(9,1),(12,2),(14,1)] (by kernel_rfl) (by kernel_rfl) R<|Jl1 (κ:=K81) (E:=(Ep.own E6 2)) (z:=(([]:List Int):(List Int))) 6 R R R R R R R Y26 bK R R R R R (λ_ _ _=>⟨none,0,R,Ow.nil⟩) (Ju2 hx20) λab ac w84 K85 S86 f87=>⟨((T3 S62 S82 S86).cl R),Jf R (bG (parts:=[(0,.tmp 13),(1,.tmp 15),(2,.tmp 18),(3,.tmp 20),(4,.tmp 22)]) (cells:=[.slice af p0.Arena.Owner.length aj,.slice ah p0.Prio.length ai,.slice ae p0.Arena.Next.length ak,.slice ab x20.length ac,.slice aa x22.length ad]) R R (by kernel_rfl))<|Jj1 (κ:=K85) 5 (vc:=[.slice af p0.Arena.Owner.length aj,.slice ah p0.Prio.length ai,.slice ae p0.Arena.Next.length ak,.slice ab x20.length ac,.slice aa x22.length ad]) R R R R R R R Z191 R R (f83.stp S86 R R) R λw89 S90 f91=>⟨((T4 S62 S82 S86 S90).cl R),Jp1<|Jr1 [] (by kernel_rfl) (by kernel_rfl) R<|Jo<|Jw1 _ ⟨(λb=>ren [(6,4),(4,5),(5,6)]<|K85 b),b4,af,aj,ah,ai,ae,ak,ab,ac,aa,ad,R,(Jy2 ((T5 S21 S62 S82 S86 S90).wk R) [(6,4),(4,5),(5,6)] R),((g0_0_0.stp (T4 S004 S82 S86 S90) R R).map (ren [(6,4),(4,5),(5,6)]) R R),((g0_1.stp (T4 S004 S82 S86 S90) R R).map (ren [(6,4),(4,5),(5,6)]) R R),((g0_0_1.stp (T4 S004 S82 S86 S90) R R).map (ren [(6,4),(4,5),(5,6)]) R R),((f87.stp S90 R R).map (ren [(6,4),(4,5),(5,6)]) R R),((f63.stp (T3 S82 S86 S90) R R).map (ren [(6,4),(4,5),(5,6)]) R R),(f91.map (ren [(6,4),(4,5),(5,6)]) R R)⟩<|KM R⟩⟩⟩
 refine Jg1 (κ:=K6) 4 R R R R R X191 R λb4 w97 K98 S99 f100=>⟨(S99.cl R),Jp1<|WA.fork2 (fuel:=3) 9 11 (by kernel_rfl) R ?_ ?_⟩
 have S005:=(T4 S3 S7 S21 S99)
 exact Jl1 (κ:=K98) (E:=(Ep.own E6 2)) (z:=(([]:List Int):(List Int))) 5 R R R R R R R Y26 bK R R R R R (λ_ _ _=>⟨none,0,R,Ow.nil⟩) (Ju2 hx20) λab ac w101 K102 S103 f104=>⟨((S99.tr S103).cl R),Jp1<|Jq1 (fuel:=0) [(11,1),(12,2),(14,1)] (by kernel_rfl) (by kernel_rfl) R<|Jl1 (κ:=K102) (E:=E6) (z:=(0:Int)) 6 R R R R R R R Y29 a8 R R R R R (λ_ _ _=>R) (Ju2 hx22) λaa ad w105 K106 S107 f108=>⟨((T3 S99 S103 S107).cl R),Jf R (bG (parts:=[(0,.tmp 13),(1,.tmp 15),(2,.tmp 18),(3,.tmp 20),(4,.tmp 22)]) (cells:=[.slice af p0.Arena.Owner.length aj,.slice ah p0.Prio.length ai,.slice ae p0.Arena.Next.length ak,.slice ab x20.length ac,.slice aa x22.length ad]) R R (by kernel_rfl))<|Jj1 (κ:=K106) 4 (vc:=[.slice af p0.Arena.Owner.length aj,.slice ah p0.Prio.length ai,.slice ae p0.Arena.Next.length ak,.slice ab x20.length ac,.slice aa x22.length ad]) R R R R R R R Z191 R R (f100.stp (S103.tr S107) R R) R λw110 S111 f112=>⟨((T4 S99 S103 S107 S111).cl R),Jp1<|Jr1 [] (by kernel_rfl) (by kernel_rfl) R<|Jo<|Jw1 _ ⟨(λb=>ren [(5,4),(6,5),(4,6)]<|K106 b),b4,af,aj,ah,ai,ae,ak,ab,ac,aa,ad,R,(Jy2 ((T5 S21 S99 S103 S107 S111).wk R) [(5,4),(6,5),(4,6)] R),((g0_0_0.stp (T4 S005 S103 S107 S111) R R).map (ren [(5,4),(6,5),(4,6)]) R R),((g0_1.stp (T4 S005 S103 S107 S111) R R).map (ren [(5,4),(6,5),(4,6)]) R R),((g0_0_1.stp (T4 S005 S103 S107 S111) R R).map (ren [(5,4),(6,5),(4,6)]) R R),((f104.stp (S107.tr S111) R R).map (ren [(5,4),(6,5),(4,6)]) R R),((f108.stp S111 R R).map (ren [(5,4),(6,5),(4,6)]) R R),(f112.map (ren [(5,4),(6,5),(4,6)]) R R)⟩<|KM R⟩⟩⟩
 have S006:=(T4 S3 S7 S21 S99)
 exact Jl1 (κ:=K98) (E:=E6) (z:=(0:Int)) 5 R R R R R R R Y29 a8 R R R R R (λ_ _ _=>R) (Ju2 hx22) λaa ad w118 K119 S120 f121=>⟨((S99.tr S120).cl R),Jp1<|Jq1 (fuel:=0) [(9,1),(12,2),(14,1)] (by kernel_rfl) (by kernel_rfl) R<|Jl1 (κ:=K119) (E:=(Ep.own E6 2)) (z:=(([]:List Int):(List Int))) 6 R R R R R R R Y26 bK R R R R R (λ_ _ _=>⟨none,0,R,Ow.nil⟩) (Ju2 hx20) λab ac w122 K123 S124 f125=>⟨((T3 S99 S120 S124).cl R),Jf R (bG (parts:=[(0,.tmp 13),(1,.tmp 15),(2,.tmp 18),(3,.tmp 20),(4,.tmp 22)]) (cells:=[.slice af p0.Arena.Owner.length aj,.slice ah p0.Prio.length ai,.slice ae p0.Arena.Next.length ak,.slice ab x20.length ac,.slice aa x22.length ad]) R R (by kernel_rfl))<|Jj1 (κ:=K123) 4 (vc:=[.slice af p0.Arena.Owner.length aj,.slice ah p0.Prio.length ai,.slice ae p0.Arena.Next.length ak,.slice ab x20.length ac,.slice aa x22.length ad]) R R R R R R R Z191 R R (f100.stp (S120.tr S124) R R) R λw127 S128 f129=>⟨((T4 S99 S120 S124 S128).cl R),Jp1<|Jr1 [] (by kernel_rfl) (by kernel_rfl) R<|Jo<|Jw1 _ ⟨(λb=>ren [(6,4),(4,6)]<|K123 b),b4,af,aj,ah,ai,ae,ak,ab,ac,aa,ad,R,(Jy2 ((T5 S21 S99 S120 S124 S128).wk R) [(6,4),(4,6)] R),((g0_0_0.stp (T4 S006 S120 S124 S128) R R).map (ren [(6,4),(4,6)]) R R),((g0_1.stp (T4 S006 S120 S124 S128) R R).map (ren [(6,4),(4,6)]) R R),((g0_0_1.stp (T4 S006 S120 S124 S128) R R).map (ren [(6,4),(4,6)]) R R),((f125.stp S128 R R).map (ren [(6,4),(4,6)]) R R),((f121.stp (S124.tr S128) R R).map (ren [(6,4),(4,6)]) R R),(f129.map (ren [(6,4),(4,6)]) R R)⟩<|KM R⟩⟩⟩
 rintro _ w10 ⟨K11,b4,ap,av,au,aq,ar,aw,am,al,ao,an,rfl,S12,f14,f15,f16,f17,f18,f19⟩
 refine Jp<|Jq<|Je3 R ?_
 have hN135:(p0.Prio.length:Int)<=9223372036854775807:=g0_1.len_le
 refine Ob h λq2 hq137 hK136=>?_
 clear h
 refine Jx1 (λL w'=>∃κ',∃s3:(List<|List Int)×(List Int),L=[(2,.pointer (some ⟨b2,0,none⟩)),(4,.pointer (some ⟨b4,0,none⟩))]/\Stp [4,5,8] K11 w10 κ' w'/\Oc (Ep.own E6 2) 29 κ' w' 4 am al s3.1/\((⟨p0.Arena.Owner,p0.Prio,p0.Arena.Next,x20,x22⟩:l7Game).prev).length=s3.1.length/\Oc E6 2 κ' w' 5 ao an s3.2/\((⟨p0.Arena.Owner,p0.Prio,p0.Arena.Next,x20,x22⟩:l7Game).pick).length=s3.2.length/\q2=yk s3) ?_ ?_
 refine Jv<|Jy1 (λk L w'=>∃κ' v5,∃s1:(List<|List Int)×(List Int),L=[(1,.pointer (some ⟨b1,0,none⟩)),(2,.pointer (some ⟨b2,0,none⟩)),(3,vi (p0.Prio.length:Int)),(4,.pointer (some ⟨b4,0,none⟩)),(5,vi v5)]/\Stp [4,5,8] K11 w10 κ' w'/\Oc (Ep.own E6 2) 29 κ' w' 4 am al s1.1/\((⟨p0.Arena.Owner,p0.Prio,p0.Arena.Next,x20,x22⟩:l7Game).prev).length=s1.1.length/\Oc E6 2 κ' w' 5 ao an s1.2/\((⟨p0.Arena.Owner,p0.Prio,p0.Arena.Next,x20,x22⟩:l7Game).pick).length=s1.2.length/\0<=v5/\yn ((p0.Prio.length:Int)-v5)=k/\cntM (kI p0) k v5 s1=some q2) ⟨_,_,⟨K11,0,(((⟨p0.Arena.Owner,p0.Prio,p0.Arena.Next,x20,x22⟩:l7Game).prev:(List<|List Int)),((⟨p0.Arena.Owner,p0.Prio,p0.Arena.Next,x20,x22⟩:l7Game).pick:(List Int))),R,Jj3,f17,R,f18,R,(by decide),(by simp),hq137⟩,(KM R)⟩ ?_
 rintro k _ w145 ⟨K146,v5,s1,rfl,S147,f148,hn149,f150,hn151,hj135,hJ135,h⟩
 rcases k with _ | k
 have hk152:=h;obtain⟨o135,h⟩:=ca (yk (yl s1):l7Game⊕(((List (List Int))×(List Int))⊕((List (List Int))×(List Int))))
 have hc135:decide (v5<(p0.Prio.length:Int))=false:=Jo2 (by omega)
 refine Jq<|Je3 R<|Jw2 R hc135<|Jc1<|Jt<|Jt ?_
 cases h
 have h:=hk152
 refine Jb1 ?_
 cases h
 exact Jw1 _ ⟨K146,(s1.1,s1.2),R,S147.wk R,f148,hn149,f150,hn151,R⟩<|KM R
 obtain⟨o135,h,hk152⟩:=BI h;unfold kI at h
 have hc135:decide (v5<(p0.Prio.length:Int))=true:=Jn2 (by omega)
 refine Jq<|Je3 R<|Jv2 R hc135<|Js<|Jp<|Jq<|Jv<|Je [2,1,2,2,1] R<|Jd3 R U191 R Z29 ?_
 have f153:=f19.stp S147 R R
 refine Jb3 R I29 (f153.ld 4 R R)<|Jn 1 R<|Ob h λx32 hx32 h=>Jf R (Jf2 f150.rdc hx32 U29 Z2 R R hn151 R)<|Ob h λy253 hy253 h=>Jk1 (κ:=K146) (E:=E6) 5 [] R R R R R R R R Z2 R R R R f150 hy253 λw154 K155 S156 f157=>Tv<|?_
 have hn158:((⟨p0.Arena.Owner,p0.Prio,p0.Arena.Next,x20,x22⟩:l7Game).pick).length=y253.length:=hn151.trans (Jt2 hy253).2.2.2.symm
 refine Jd<|Je3 R<|Ob h λq5 hq161 hK160=>?_
 clear h
 refine Jx1 (λL w'=>∃κ',∃s6:Int×(List<|List Int),L=[(1,.pointer (some ⟨b1,0,none⟩)),(2,.pointer (some ⟨b2,0,none⟩)),(3,vi (p0.Prio.length:Int)),(4,.pointer (some ⟨b4,0,none⟩)),(5,vi v5)]/\Stp [4,8] K155 w154 κ' w'/\Oc (Ep.own E6 2) 29 κ' w' 4 am al s6.2/\((⟨p0.Arena.Owner,p0.Prio,p0.Arena.Next,x20,x22⟩:l7Game).prev).length=s6.2.length/\q5=yk s6) ?_ ?_
 refine Jv<|Jy1 (λk L w'=>∃κ',∃s4:Int×(List<|List Int),L=[(1,.pointer (some ⟨b1,0,none⟩)),(2,.pointer (some ⟨b2,0,none⟩)),(3,vi (p0.Prio.length:Int)),(4,.pointer (some ⟨b4,0,none⟩)),(5,vi v5),(6,vi s4.1)]/\Stp [4,8] K155 w154 κ' w'/\Oc (Ep.own E6 2) 29 κ' w' 4 am al s4.2/\((⟨p0.Arena.Owner,p0.Prio,p0.Arena.Next,x20,x22⟩:l7Game).prev).length=s4.2.length/\bI (kE p0 v5) k s4=some q5) ⟨_,_,⟨K155,((0:Int),s1.1),R,Jj3,(f148.stp S156 R R),hn149,hq161⟩,(KM R)⟩ ?_
 rintro k _ w167 ⟨K168,s4,rfl,S169,f170,hn171,h⟩
 rcases k with _ | k
 cases h
 obtain⟨o159,h,hk173⟩:=BI h;unfold kE at h
 refine Jq<|Jg3 [2,2,2,1,2,2,1,2,2] 1 R<|Jd3 R U108 R Z104<|Jd3 R U104 R Z26 ?_
 have f174:=f9.stp (T4 S12 S147 S156 S169) R R
 refine Jb3 R I26 (f174.ld 1 R R)<|Jn 1 R<|Ob h λx38 hx38 h=>Jc3 R g0_0_1 hx38 U26 Z29 ?_
 have f175:=g0_0_1.stp (T6 S3 S7 S12 S147 S156 S169) R R
 obtain⟨ax38,ux38,f176,hl177⟩:=f175.gSl hx38
 refine Jb3 R I29 hl177<|Jn3 R U29 R R<|Jb 1 R ?_
 revert h
 cases ht178:decide (s4.1<(x38.length:Int))
 refine JF λh=>Jy R<|Jc1<|Jt<|Jt ?_
 cases h
 have h:=hk173
 refine Jb1 ?_
 cases h
 exact Jw1 _ ⟨K168,(s4.1,s4.2),R,S169.wk R,f170,hn171,R⟩<|KM R
 refine JT λh=>Jx R<|Js<|Jp<|Jq<|Jv<|Je [2,2,1,2,2,1,2,2,1,2] R<|Jd3 R U108 R Z104<|Jd3 R U104 R Z26<|Jb3 R I26 (f174.ld 1 R R)<|Jn 1 R<|Ob h λx48 hx48 h=>Jc3 R f175 hx48 U26 Z29 ?_
 obtain⟨ax48,ux48,f179,hl180⟩:=f175.gSl hx48
 refine Jb3 R I29 hl180<|Jn 1 R<|Ob h λx51 hx51 h=>Jc3 R f179 hx51 U29 Z2<|Jb3 R I2 (f179.gInt hx51)<|Jb 1 R<|Ob h λx59 hx59 h=>Ob h λx63 hx63 h=>Ob h λx64 hx64 h=>Ob h λy255 hy255 h=>Jx1 (λL w'=>∃κ',L=[(1,.pointer (some ⟨b1,0,none⟩)),(2,.pointer (some ⟨b2,0,none⟩)),(3,vi (p0.Prio.length:Int)),(4,.pointer (some ⟨b4,0,none⟩)),(5,vi v5),(6,vi s4.1)]/\Stp [4,8] K168 w167 κ' w'/\Oc (Ep.own E6 2) 29 κ' w' 4 am al y255/\((⟨p0.Arena.Owner,p0.Prio,p0.Arena.Next,x20,x22⟩:l7Game).prev).length=y255.length) ?_ ?_
 refine WC.rxt (κ:=K168) [0,4,6] (some 10) (by kernel_rfl) λw187 S188=>Jq1 (fuel:=5) [(0,2),(2,2),(3,2),(5,2),(8,2),(4,0),(6,2),(7,0)] (by kernel_rfl) (by kernel_rfl) R<|Jd3 R U191 R Z26<|Jn 1 R<|Jd3 R U191 R Z26<|Jn 2 R ?_
 have f189:=f153.stp (T3 S156 S169 S188) R R
 refine Jg R (Jc2 I26 R R<|hvC (f189.ld 3 R R) R)<|Jf R (Jf2 f170.rdc hx59 U26 Z29 R R hn171 R) ?_
 have f190:=f170.stp S188 R R
 obtain⟨ax59,ux59,f191,hl192⟩:=f190.rdc.gSl hx59
 refine Jg R (Jc2 I29 R R<|hvC hl192 R)<|Jp1<|WA.fork2 (fuel:=4) 1 9 (by kernel_rfl) R ?_ ?_
 refine Jl (Cl.refl _ _ _) R R R R (Jc2 I26 R R<|hvE<|f189.ld 3 R R)<|Jp1<|Jq1 (fuel:=3) [(9,1)] (by kernel_rfl) (by kernel_rfl) R<|Jn1 (κ:=K168) (E:=E6) 7 [] (parts:=[(0,.tmp 61)]) (cells:=[vi v5]) (xs:=([v5]:List Int)) R R R R R R Y29 a8 R R R R R R R R R R ⟨[vi v5],[],Zl K168 w187 [],Zl K168 w187 [],R,Zl.sp (l1:=[]) (l2:=[]) R,Zl.sr (l1:=[]) (l2:=[]),R,R⟩ λaA az w193 K194 S195 f196=>⟨(S195.cl R),Jp1<|WA.brk (fuel:=2) 10 (by kernel_rfl) R (by kernel_rfl) ?_⟩
 have f197:=f190.stp S195 R R
 obtain⟨K198,S199,f200,f201⟩:=f197.borrow hx59 (hl192 _ (Stp.ag S195 R)) 8 R R
 refine Jm1 (κ:=K198) (E:=E6) 8 [] R R R R R R R R R Y29 a8 R R R R f200 (Sl.srcP (bM _) (f196.stp S199 R R).rdc) bH hx63 R λax ay w203 K204 S205 f206=>Tv<|Jp1<|Jq1 (fuel:=0) [(11,2),(12,1)] (by kernel_rfl) (by kernel_rfl) R<|Jf R (Jf2 f197.rdc hx64 U26 Z29 R R hn171 R)<|WO.stH (κ:=K204) (E:=(Ep.own E6 2)) 4 [8] R R R R R R R R Z29 R ⟨_,_,R,f206⟩ R R (f201.stp S205 R R) hy255 λw208 K209 S210 f211=>Tv<|?_
 have hn212:((⟨p0.Arena.Owner,p0.Prio,p0.Arena.Next,x20,x22⟩:l7Game).prev).length=y255.length:=hn171.trans (Jt2 hy255).2.2.2.symm
 exact Jp1<|Jr1 [] (by kernel_rfl) (by kernel_rfl) R<|Jo<|Jw1 _ ⟨K209,R,(T5 S188 S195 S199 S205 S210).wk R,f211,hn212⟩<|KM R
 refine Jn1 (κ:=K168) (E:=E6) 7 [] (parts:=[(0,.tmp 61)]) (cells:=[vi v5]) (xs:=([v5]:List Int)) R R R R R R Y29 a8 R R R R R R R R R R ⟨[vi v5],[],Zl K168 w187 [],Zl K168 w187 [],R,Zl.sp (l1:=[]) (l2:=[]) R,Zl.sr (l1:=[]) (l2:=[]),R,R⟩ λaA az w213 K214 S215 f216=>⟨(S215.cl R),Jp1<|WA.forkB2r (fuel:=3) 1 10 (by kernel_rfl) R (by kernel_rfl) ?_ ?_⟩
 refine Jl (S215.cl R) R R R R (Jc2 I26 R R<|hvE ((f189.stp S215 R R).ld 3 R R))<|Jp1<|WA.brk (fuel:=2) 10 (by kernel_rfl) R (by kernel_rfl) ?_
 have f218:=f190.stp S215 R R
 obtain⟨K219,S220,f221,f222⟩:=f218.borrow hx59 (hl192 _ (Stp.ag S215 R)) 8 R R
 refine Jm1 (κ:=K219) (E:=E6) 8 [] R R R R R R R R R Y29 a8 R R R R f221 (Sl.srcP (bM _) (f216.stp S220 R R).rdc) bH hx63 R λax ay w224 K225 S226 f227=>Tv<|Jp1<|Jq1 (fuel:=0) [(11,2),(12,1)] (by kernel_rfl) (by kernel_rfl) R<|Jf R (Jf2 f218.rdc hx64 U26 Z29 R R hn171 R)<|WO.stH (κ:=K225) (E:=(Ep.own E6 2)) 4 [8] R R R R R R R R Z29 R ⟨_,_,R,f227⟩ R R (f222.stp S226 R R) hy255 λw229 K230 S231 f232=>Tv<|?_
 have hn233:((⟨p0.Arena.Owner,p0.Prio,p0.Arena.Next,x20,x22⟩:l7Game).prev).length=y255.length:=hn171.trans (Jt2 hy255).2.2.2.symm
 exact Jp1<|Jr1 [] (by kernel_rfl) (by kernel_rfl) R<|Jo<|Jw1 _ ⟨K230,R,(T5 S188 S215 S220 S226 S231).wk R,f232,hn233⟩<|KM R
 have f234:=f190.stp S215 R R
 obtain⟨K235,S236,f237,f238⟩:=f234.borrow hx59 (hl192 _ (Stp.ag S215 R)) 8 R R
 refine Jm1 (κ:=K235) (E:=E6) 8 [] R R R R R R R R R Y29 a8 R R R R f237 (Sl.srcP (bM _) (f216.stp S236 R R).rdc) bH hx63 R λax ay w240 K241 S242 f243=>Tv<|Jp1<|Jq1 (fuel:=0) [(1,1),(11,2),(12,1)] (by kernel_rfl) (by kernel_rfl) R<|Jb3 R I26 ((f189.stp (T3 S215 S236 S242) R R).ld 3 R R)<|Jf R (Jf2 f234.rdc hx64 U26 Z29 R R hn171 R)<|WO.stH (κ:=K241) (E:=(Ep.own E6 2)) 4 [8] R R R R R R R R Z29 R ⟨_,_,R,f243⟩ R R (f238.stp S242 R R) hy255 λw246 K247 S248 f249=>Tv<|?_
 have hn250:((⟨p0.Arena.Owner,p0.Prio,p0.Arena.Next,x20,x22⟩:l7Game).prev).length=y255.length:=hn171.trans (Jt2 hy255).2.2.2.symm
 exact Jp1<|Jr1 [] (by kernel_rfl) (by kernel_rfl) R<|Jo<|Jw1 _ ⟨K247,R,(T5 S188 S215 S236 S242 S248).wk R,f249,hn250⟩<|KM R
 rintro _ w181 ⟨K182,rfl,S183,f185,hn186⟩
 refine Jz<|Jp<|Jf3 R ?_
 cases h
 exact Jz1 λa ha=>⟨k,_,Ja3 _,⟨K182,(((IntKind.i64.wrap<|s4.1+1):Int),y255),R,(S169.tr S183).wk R,f185,hn186,hk173⟩,(ha.mm R)⟩
 rintro _ w162 ⟨K163,s6,rfl,S164,f165,hn166,rfl⟩
 have h:=yI hK160
 refine Jz<|Jp<|Jf3 R ?_
 have hw135:sh .i64 (v5+1)=v5+1:=wr1 hj135 (Jm2 hc135) hN135
 rw[hw135]
 have hc135:=Jm2 hc135
 cases h
 exact Jz1 λa ha=>⟨k,_,Ja3 _,⟨K163,v5+1,(s6.2,y253),R,(T3 S147 S156 S164).wk R,f165,hn166,(f157.stp S164 R R),hn158,by omega,by omega,hk152⟩,(ha.mm R)⟩
 rintro _ w138 ⟨K139,s3,rfl,S140,f141,hn142,f143,hn144,rfl⟩
 have h:=yI hK136
 refine Jp<|Je [1,1] R<|Jl tv R R R R (Jd2 (cs:=[.slice ap ((⟨p0.Arena.Owner,p0.Prio,p0.Arena.Next,x20,x22⟩:l7Game).owner).length av,.slice au ((⟨p0.Arena.Owner,p0.Prio,p0.Arena.Next,x20,x22⟩:l7Game).prio).length aq,.slice ar ((⟨p0.Arena.Owner,p0.Prio,p0.Arena.Next,x20,x22⟩:l7Game).next).length aw,.slice am ((⟨p0.Arena.Owner,p0.Prio,p0.Arena.Next,x20,x22⟩:l7Game).prev).length al,.slice ao ((⟨p0.Arena.Owner,p0.Prio,p0.Arena.Next,x20,x22⟩:l7Game).pick).length an]) I191 Z191 R R R<|haE (f19.stp S140 R R).cells)<|Jj1 (κ:=K139) 3 (vc:=[.slice ap ((⟨p0.Arena.Owner,p0.Prio,p0.Arena.Next,x20,x22⟩:l7Game).owner).length av,.slice au ((⟨p0.Arena.Owner,p0.Prio,p0.Arena.Next,x20,x22⟩:l7Game).prio).length aq,.slice ar ((⟨p0.Arena.Owner,p0.Prio,p0.Arena.Next,x20,x22⟩:l7Game).next).length aw,.slice am ((⟨p0.Arena.Owner,p0.Prio,p0.Arena.Next,x20,x22⟩:l7Game).prev).length al,.slice ao ((⟨p0.Arena.Owner,p0.Prio,p0.Arena.Next,x20,x22⟩:l7Game).pick).length an]) R R R R R R R Z191 R R (f8.stp (S12.tr S140) R R) R λw254 S255 f256=>Tv<|Jd<|Ju<|Ja2 (l:=[.cell 2 191]) V175 (bF R f256 I191 Z191 R R) R ?_
 cases h
 have S007:=(S140.tr S255)
 exact⟨(λb=>ren [(4,5),(5,6)]<|K139 b),ap,av,au,aq,ar,aw,am,al,ao,an,(by simp only[hn142,hn144]),((hE.stp (T5 S3 S7 S12 S140 S255) R R).map (ren [(4,5),(5,6)]) R R),((f14.stp S007 R R).map (ren [(4,5),(5,6)]) R R),((f15.stp S007 R R).map (ren [(4,5),(5,6)]) R R),((f16.stp S007 R R).map (ren [(4,5),(5,6)]) R R),((f141.stp S255 R R).map (ren [(4,5),(5,6)]) R R),((f143.stp S255 R R).map (ren [(4,5),(5,6)]) R R)⟩
theorem tA {p0:Int}  {r:(List Bool)}(h:nT p0=some r):Ret Tryz.prog 214 [vi p0] w (Pvs Ep.bool 4 κ w r):=by
 unfold nT at h
 refine Jk3 κ F214 R N214 R λhE=>Je3 R<|Jg3 [2,1,2] 1 R<|Ob h λx6 hx6 h=>Jl1 (κ:=κ) (E:=Ep.bool) (z:=(false:Bool)) 2 R R R R R R R Y193 iG R R R R R (λ_ _ _=>R) (Ju2 hx6) λa6 u6 w1 K2 S3 f4=>Tv<|Jb 1 R<|Jq<|Je3 R<|Ob h λ_ hr5 h=>?_
 have hN5:=mu hr5
 refine Ob h λq2 hq7 hK6=>?_
 clear h
 refine Jx1 (λL w'=>∃κ',∃s3:(List Bool),L=[(3,.slice a6 x6.length u6)]/\Stp [2] K2 w1 κ' w'/\Oc Ep.bool 4 κ' w' 2 a6 u6 s3/\x6.length=s3.length/\q2=yk s3) ?_ ?_
 refine Jv<|Jy1 (λk L w'=>∃κ' v4,∃s1:(List Bool),L=[(0,vi p0),(3,.slice a6 x6.length u6),(4,vi v4)]/\Stp [2] K2 w1 κ' w'/\Oc Ep.bool 4 κ' w' 2 a6 u6 s1/\x6.length=s1.length/\0<=v4/\yn (p0-v4)=k/\cntM jN k v4 s1=some q2) ⟨_,_,⟨K2,0,x6,R,Jj3,f4,R,(by decide),(by simp),hq7⟩,(KM R)⟩ ?_
 rintro k _ w13 ⟨K14,v4,s1,rfl,S15,f16,hn17,hj5,hJ5,h⟩
 rcases k with _ | k
 have hk18:=h;obtain⟨o5,h⟩:=ca (yk (yl s1):(List Bool)⊕(((List Bool))⊕((List Bool))))
 have hc5:decide (v4<p0)=false:=Jo2 (by omega)
 refine Jq<|Je3 R<|Jw2 R hc5<|Jc1<|Jt<|Jt ?_
 cases h
 have h:=hk18
 refine Jb1 ?_
 cases h
 exact Jw1 _ ⟨K14,s1,R,S15.wk R,f16,hn17,R⟩<|KM R
 obtain⟨o5,h,hk18⟩:=BI h;unfold jN at h
 have hc5:decide (v4<p0)=true:=Jn2 (by omega)
 refine Jq<|Je3 R<|Jv2 R hc5<|Js<|Jp<|Jq<|Jv<|Jh3 [2,2,2,1] 2 R<|Ob h λx14 hx14 h=>Jf R (Jf2 f16.rdc hx14 U193 Z4 R R hn17 R)<|Ob h λy258 hy258 h=>Jk1 (κ:=K14) (E:=Ep.bool) 2 [] R R R R R R R R Z4 R R R R f16 hy258 λw19 K20 S21 f22=>Tv<|?_
 have hn23:x6.length=y258.length:=hn17.trans (Jt2 hy258).2.2.2.symm
 refine Jo<|Jz<|Jp<|Jf3 R ?_
 have hw5:sh .i64 (v4+1)=v4+1:=wr1 hj5 (Jm2 hc5) hN5
 rw[hw5]
 have hc5:=Jm2 hc5
 cases h
 exact Jz1 λa ha=>⟨k,_,Ja3 _,⟨K20,v4+1,y258,R,(S15.tr S21).wk R,f22,hn23,by omega,by omega,hk18⟩,(ha.mm R)⟩
 rintro _ w8 ⟨K9,s3,rfl,S10,f11,hn12,rfl⟩
 have h:=yI hK6
 refine Jp<|Je3 R<|Ju<|Ja2 (l:=[.tmp 2]) V214 (Jp2 R R) R ?_
 cases h
 exact⟨K9,a6,u6,(by simp only[hn12]),(hE.stp (S3.tr S10) R R),f11⟩
theorem m5 {a0 u0}{p0:(List Int)}{p1:Int}(g0:Rd (Rp.int .i64) κ w 0 a0 u0 p0){r:(List Bool)}(h:fh p0 p1=some r):Ret Tryz.prog 176 [.slice a0 p0.length u0,vi p1] w (Pvs Ep.bool 4 κ w r):=by
 unfold fh at h
 refine Jk3 κ F176 R N176 R λhE=>Je3 R<|Jg3 [2,2,1,2] 1 R<|Jn3 R U29 R R<|Ob h λx9 hx9 h=>Jl1 (κ:=κ) (E:=Ep.bool) (z:=(false:Bool)) 2 R R R R R R R Y193 iG R R R R R (λ_ _ _=>R) (Ju2 hx9) λa9 u9 w1 K2 S3 f4=>Tv<|Jb 1 R<|Jq<|Je3 R ?_
 have hN5:(p0.length:Int)<=9223372036854775807:=g0.len_le
 refine Ob h λq2 hq7 hK6=>?_
 clear h
 refine Jx1 (λL w'=>∃κ',∃s3:(List Bool),L=[(5,.slice a9 x9.length u9)]/\Stp [2] K2 w1 κ' w'/\Oc Ep.bool 4 κ' w' 2 a9 u9 s3/\x9.length=s3.length/\q2=yk s3) ?_ ?_
 refine Jv<|Jy1 (λk L w'=>∃κ' v6,∃s1:(List Bool),L=[(0,.slice a0 p0.length u0),(1,vi p1),(5,.slice a9 x9.length u9),(6,vi v6)]/\Stp [2] K2 w1 κ' w'/\Oc Ep.bool 4 κ' w' 2 a9 u9 s1/\x9.length=s1.length/\0<=v6/\yn ((p0.length:Int)-v6)=k/\cntM (fZ p0 p1) k v6 s1=some q2) ⟨_,_,⟨K2,0,x9,R,Jj3,f4,R,(by decide),(by simp),hq7⟩,(KM R)⟩ ?_
 rintro k _ w13 ⟨K14,v6,s1,rfl,S15,f16,hn17,hj5,hJ5,h⟩
 rcases k with _ | k
 have hk18:=h;obtain⟨o5,h⟩:=ca (yk (yl s1):(List Bool)⊕(((List Bool))⊕((List Bool))))
 have hc5:decide (v6<(p0.length:Int))=false:=Jo2 (by omega)
 refine Jq<|Jg3 [2,2,2,2] 2 R<|Jn3 R U29 R R<|Jb 1 R<|Jw2 R hc5<|Jc1<|Jt<|Jt ?_
 cases h
 have h:=hk18
 refine Jb1 ?_
 cases h
 exact Jw1 _ ⟨K14,s1,R,S15.wk R,f16,hn17,R⟩<|KM R
 obtain⟨o5,h,hk18⟩:=BI h;unfold fZ at h
 have hc5:decide (v6<(p0.length:Int))=true:=Jn2 (by omega)
 refine Jq<|Jg3 [2,2,2,2] 2 R<|Jn3 R U29 R R<|Jb 1 R<|Jv2 R hc5<|Js<|Jp<|Jq<|Jv<|Jh3 [2,2,2,2,2,1,2,2,2,1] 4 R<|Ob h λx20 hx20 h=>Jc3 R g0 hx20 U29 Z2<|Jb3 R I2 ((g0.stp (S3.tr S15) R R).gInt hx20)<|Jn 2 R<|Ob h λx24 hx24 h=>Jf R (Jf2 f16.rdc hx24 U193 Z4 R R hn17 R)<|Ob h λy299 hy299 h=>Jk1 (κ:=K14) (E:=Ep.bool) 2 [] R R R R R R R R Z4 R R R R f16 hy299 λw20 K21 S22 f23=>Tv<|?_
 have hn24:x9.length=y299.length:=hn17.trans (Jt2 hy299).2.2.2.symm
 refine Jo<|Jz<|Jp<|Jf3 R ?_
 have hw5:sh .i64 (v6+1)=v6+1:=wr1 hj5 (Jm2 hc5) hN5
 rw[hw5]
 have hc5:=Jm2 hc5
 cases h
 exact Jz1 λa ha=>⟨k,_,Ja3 _,⟨K21,v6+1,y299,R,(S15.tr S22).wk R,f23,hn24,by omega,by omega,hk18⟩,(ha.mm R)⟩
 rintro _ w8 ⟨K9,s3,rfl,S10,f11,hn12,rfl⟩
 have h:=yI hK6
 refine Jp<|Je3 R<|Ju<|Ja2 (l:=[.tmp 4]) V176 (Jp2 R R) R ?_
 cases h
 exact⟨K9,a9,u9,(by simp only[hn12]),(hE.stp (S3.tr S10) R R),f11⟩
theorem nc {a0 u0}{p0:(List Int)}{a1 u1}{p1:(List Int)}(g0:Rd (Rp.int .i64) κ w 0 a0 u0 p0) (g1:Rd (Rp.int .i64) κ w 0 a1 u1 p1){r:Bool}(h:iI p0 p1=some r):Ret Tryz.prog 12 [.slice a0 p0.length u0,.slice a1 p1.length u1] w (Pvb κ w r):=by
 unfold iI at h
 refine Jk3 κ F12 R N12 R λhE=>Je3 R<|Jq<|Jg3 [2,2,2,2,2] 1 R<|Jn3 R U29 R R<|Jn 1 R<|Jn3 R U29 R R<|Jb 1 R ?_
 revert h
 cases ht1:((p0.length:Int) !=(p1.length:Int))
 refine JF λh=>Jy R<|Js<|Jp<|Jq<|Je3 R ?_
 have hN2:(p0.length:Int)<=9223372036854775807:=g0.len_le
 refine Ob h λq2 hq4 hK3=>?_
 clear h
 refine Jx1 (λL w'=>∃κ',L=[]/\Stp [] κ w κ' w'/\q2=yk ()) ?_ ?_
 refine Jv<|Jy1 (λk L w'=>∃κ' v5,L=[(0,.slice a0 p0.length u0),(1,.slice a1 p1.length u1),(5,vi v5)]/\Stp [] κ w κ' w'/\0<=v5/\yn ((p0.length:Int)-v5)=k/\cntM (fK p0 p1) k v5 ()=some q2) ⟨_,_,⟨κ,0,R,Jj3,(by decide),(by simp),hq4⟩,(KM R)⟩ ?_
 rintro k _ w8 ⟨K9,v5,rfl,S10,hj2,hJ2,h⟩
 rcases k with _ | k
 have hk11:=h;obtain⟨o2,h⟩:=ca (yk (yl ()):Bool⊕((Unit)⊕(Unit)))
 have hc2:decide (v5<(p0.length:Int))=false:=Jo2 (by omega)
 refine Jq<|Jg3 [2,2,2,2] 2 R<|Jn3 R U29 R R<|Jb 1 R<|Jw2 R hc2<|Jc1<|Jt<|Jt ?_
 cases h
 have h:=hk11
 refine Jb1 ?_
 cases h
 exact Jw1 _ ⟨K9,R,S10.wk R,R⟩ KN
 obtain⟨o2,h,hk11⟩:=BI h;unfold fK at h
 have hc2:decide (v5<(p0.length:Int))=true:=Jn2 (by omega)
 refine Jq<|Jg3 [2,2,2,2] 2 R<|Jn3 R U29 R R<|Jb 1 R<|Jv2 R hc2<|Js<|Jp<|Jq<|Jv<|Jq<|Js1 (κ:=K9) [0] none [(0,2),(1,2),(2,2),(4,2),(5,2),(6,2),(3,0),(7,0),(8,2)] [] (by kernel_rfl) (by kernel_rfl) λw13 S12=>Jn 2 R<|Ob h λx19 hx19 h=>Jc3 R g0 hx19 U29 Z2<|Jn 2 R<|Ob h λx23 hx23 h=>Jc3 R g1 hx23 U29 Z2<|Jg R (Jc2 I2 R R<|hvC ((g0.stp (S10.tr S12) R R).gInt hx19) R)<|Jg R (Jc2 I2 R R<|hvC ((g1.stp (S10.tr S12) R R).gInt hx23) R)<|Jn 1 R<|Jt1<|Jd ?_
 revert h
 cases ht16:(x19 !=x23)
 refine JF λh=>Jy R<|Js<|Jz<|Jp<|Jf3 R ?_
 have hw2:sh .i64 (v5+1)=v5+1:=wr1 hj2 (Jm2 hc2) hN2
 rw[hw2]
 have hc2:=Jm2 hc2
 cases h
 exact Jz1 λa ha=>⟨k,_,Ja3 _,⟨K9,v5+1,R,(S10.tr S12).wk R,by omega,by omega,hk11⟩,(ha.mm R)⟩
 refine JT λh=>Jx R<|Je3 R<|Ju<|Ja1<|Jw<|Jw ?_
 cases h
 obtain rfl:=Option.some.inj hk11
 have h:=yL hK3
 refine Ja1<|Jq2<|Jw<|Ja2 (l:=[.tmp 4]) V12 (Jp2 R R) R ?_
 cases h
 exact⟨K9,R,(hE.stp (S10.tr S12) R R)⟩
 rintro _ w5 ⟨K6,rfl,S7,rfl⟩
 have h:=yI hK3
 refine Jp<|Je3 R<|Ju<|Ja2 (l:=[.tmp 4]) V12 (Jp2 R R) R ?_
 cases h
 exact⟨K6,R,(hE.stp S7 R R)⟩
 refine JT λh=>Jx R<|Je3 R<|Ju<|Jw<|Ja2 (l:=[.tmp 4]) V12 (Jp2 R R) R ?_
 cases h
 exact⟨κ,R,hE⟩
theorem ec {a0 u0}{p0:(List Int)}{a1 u1}{p1:(List Int)}(g0:Rd (Rp.int .i64) κ w 0 a0 u0 p0) (g1:Rd (Rp.int .i64) κ w 0 a1 u1 p1){r:Bool}(h:bX p0 p1=some r):Ret Tryz.prog 65 [.slice a0 p0.length u0,.slice a1 p1.length u1] w (Pvb κ w r):=by
 unfold bX at h
 refine Jk3 κ F65 R N65 R λhE=>Je3 R<|Jq<|Jg3 [2,2,2,2,2] 1 R<|Jn3 R U29 R R<|Jn 1 R<|Jn3 R U29 R R<|Jb 1 R ?_
 revert h
 cases ht1:((p0.length:Int) !=(p1.length:Int))
 refine JF λh=>Jy R<|Js<|Jp<|Jq<|Jg3 [2,2,2] 1 R<|Jn3 R U29 R R<|Jb 1 R ?_
 have hN2:(p0.length:Int)<=9223372036854775807:=g0.len_le
 refine Ob h λq2 hq4 hK3=>?_
 clear h
 refine Jx1 (λL w'=>∃κ',L=[]/\Stp [] κ w κ' w'/\q2=yk ()) ?_ ?_
 refine Jv<|Jy1 (λk L w'=>∃κ' v13,L=[(0,.slice a0 p0.length u0),(1,.slice a1 p1.length u1),(12,vi (p0.length:Int)),(13,vi v13)]/\Stp [] κ w κ' w'/\0<=v13/\yn ((p0.length:Int)-v13)=k/\cntM (cO p0 p1) k v13 ()=some q2) ⟨_,_,⟨κ,0,R,Jj3,(by decide),(by simp),hq4⟩,(KM R)⟩ ?_
 rintro k _ w8 ⟨K9,v13,rfl,S10,hj2,hJ2,h⟩
 rcases k with _ | k
 have hk11:=h;obtain⟨o2,h⟩:=ca (yk (yl ()):Bool⊕((Unit)⊕(Unit)))
 have hc2:decide (v13<(p0.length:Int))=false:=Jo2 (by omega)
 refine Je3 R<|Jq<|Jw2 R hc2<|Jc1<|Jt<|Jt ?_
 cases h
 have h:=hk11
 refine Jb1 ?_
 cases h
 exact Jw1 _ ⟨K9,R,S10.wk R,R⟩ KN
 obtain⟨o2,h,hk11⟩:=BI h;unfold cO at h
 have hc2:decide (v13<(p0.length:Int))=true:=Jn2 (by omega)
 refine Je3 R<|Jq<|Jv2 R hc2<|Js<|Jp<|Jq<|Jv<|Je3 R<|Jq<|Js1 (κ:=K9) [0] none [(0,2),(1,2),(2,2),(4,2),(5,2),(6,2),(3,0),(7,0),(8,2)] [] (by kernel_rfl) (by kernel_rfl) λw13 S12=>Jn 2 R<|Ob h λx18 hx18 h=>Jc3 R g0 hx18 U29 Z2<|Jn 2 R<|Ob h λx22 hx22 h=>Jc3 R g1 hx22 U29 Z2<|Jg R (Jc2 I2 R R<|hvC ((g0.stp (S10.tr S12) R R).gInt hx18) R)<|Jg R (Jc2 I2 R R<|hvC ((g1.stp (S10.tr S12) R R).gInt hx22) R)<|Jn 1 R<|Jt1<|Jd ?_
 revert h
 cases ht16:(x18 !=x22)
 refine JF λh=>Jy R<|Js<|Jz<|Jp<|Jf3 R ?_
 have hw2:sh .i64 (v13+1)=v13+1:=wr1 hj2 (Jm2 hc2) hN2
 rw[hw2]
 have hc2:=Jm2 hc2
 cases h
 exact Jz1 λa ha=>⟨k,_,Ja3 _,⟨K9,v13+1,R,(S10.tr S12).wk R,by omega,by omega,hk11⟩,(ha.mm R)⟩
 refine JT λh=>Jx R<|Je3 R<|Ju<|Ja1<|Jw<|Jw ?_
 cases h
 obtain rfl:=Option.some.inj hk11
 have h:=yL hK3
 refine Ja1<|Jq2<|Jw<|Ja2 (l:=[.tmp 4]) V65 (Jp2 R R) R ?_
 cases h
 exact⟨K9,R,(hE.stp (S10.tr S12) R R)⟩
 rintro _ w5 ⟨K6,rfl,S7,rfl⟩
 have h:=yI hK3
 refine Jp<|Je3 R<|Ju<|Ja2 (l:=[.tmp 4]) V65 (Jp2 R R) R ?_
 cases h
 exact⟨K6,R,(hE.stp S7 R R)⟩
 refine JT λh=>Jx R<|Je3 R<|Ju<|Jw<|Ja2 (l:=[.tmp 4]) V65 (Jp2 R R) R ?_
 cases h
 exact⟨κ,R,hE⟩
end Go.Proofs.YtpcjbkgbnoocaaaGreat
