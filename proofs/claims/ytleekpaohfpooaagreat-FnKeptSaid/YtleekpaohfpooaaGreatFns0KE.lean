/- The walks, part 0. By program. -/
import Derived.Test.YtleekpaohfpooaaGreatFnsMKE
import Derived.Test.YtleekpaohfpooaaGreatAlKE
set_option linter.unusedVariables false
set_option linter.unusedSimpArgs false
open Go.IntKind renaming wrap → yC
open Sum renaming inr → yD, inl → yE
open Int renaming toNat → yG
namespace Go.Proofs.YtleekpaohfpooaaGreat
open Go Go.Wk Go.Proofs
set_option maxRecDepth 100000
set_option maxHeartbeats 1000000
variable {w:World}{κ:Col}
theorem vq {a0 u0}{p0:(List Int)}(g0:Rd (Rp.int .u8) κ w 0 a0 u0 p0){r:Bool}(h:ug p0=some r):Ret Tryz.prog 8 [.slice a0 p0.length u0] w (Pvb κ w r):=by
 unfold ug at h
 refine Jk3 κ F8 R N8 R λhE=>Je3 R<|Jg3 [2,2,2,2] 1 R<|Jn3 R U22 R R<|Jb 2 R<|Ju<|Ja2 (l:=[.tmp 2]) V8 (Jp2 R R) R ?_
 cases h
 exact⟨κ,R,hE⟩
theorem nh {p0:Sig}  {r:Bool}(h:lw p0=some r):Ret Tryz.prog 82 [.agg #[vi p0.In,vi p0.Out]] w (Pvb κ w r):=by
 unfold lw at h
 refine Jk3 κ F82 R N82 R λhE=>Je [1,2] R<|Js3 (κ:=κ) 2 R λb1 w1 K2 S3 f4=>Tv<|Jb 1 R<|Je [2,1,2,2,2,1,2,2,2,2,1,2,2,2,2,1,2,2,2] R<|Jd3 R U28 R Z2<|Jb3 R I2 (f4.ld 0 R R)<|Jn 2 R<|Ob h λp10 h hK5=>Jq3 [1,2] (λE L w'=>L=(10,.bool p10)::E/\∃κ',Stp [] K2 w1 κ' w') [(4,2),(5,1),(6,2),(7,2)] [(8,2),(9,2),(10,1),(11,2),(12,2),(13,2),(14,2),(15,1),(16,2),(17,2),(18,2)] tv ?_ ?_
 revert h
 cases ht6:decide (1<=p0.In)
 refine JF λh=>Jn 1 R<|Jz3 R<|Jn 2 R ?_
 cases h
 exact Jv1 _ tv ⟨R,_,Jj3⟩<|KM R
 refine JT λh=>Jd3 R U28 R Z2<|Jb3 R I2 (f4.ld 0 R R)<|Jn 2 R ?_
 cases h
 exact Jv1 _ tv ⟨R,_,Jj3⟩<|KM R
 rintro _ w7 _ ⟨rfl,K8,S9⟩
 have h:=hK5
 refine Jn 1 R<|Ob h λp15 h hK10=>Jq3 [1,2] (λE L w'=>L=(15,.bool p15)::E/\∃κ',Stp [] K8 w7 κ' w') [(9,2),(10,1),(11,2),(12,2)] [(13,2),(14,2),(15,1),(16,2),(17,2),(18,2)] tv ?_ ?_
 revert h
 cases ht11:p10
 refine JF λh=>Jn 1 R<|Jz3 R<|Jn 2 R ?_
 cases h
 exact Jv1 _ tv ⟨R,_,Jj3⟩<|KM R
 refine JT λh=>Jd3 R U28 R Z2<|Jb3 R I2 ((f4.stp S9).ld 1 R R)<|Jn 2 R ?_
 cases h
 exact Jv1 _ tv ⟨R,_,Jj3⟩<|KM R
 rintro _ w13 _ ⟨rfl,K14,S15⟩
 have h:=hK10
 refine Jn 1 R<|Ob h λp20 h hK16=>Jq3 [2] (λE L w'=>L=(20,.bool p20)::E/\∃κ',Stp [] K14 w13 κ' w') [(14,2),(15,1),(16,2),(17,2)] [(18,2)] tv ?_ ?_
 revert h
 cases ht17:p15
 refine JF λh=>Jn 1 R<|Jz3 R<|Jn 2 R ?_
 cases h
 exact Jv1 _ tv ⟨R,_,Jj3⟩<|KM R
 refine JT λh=>Jd3 R U28 R Z2<|Jb3 R I2 ((f4.stp<|S9.tr S15).ld 1 R R)<|Jn 2 R ?_
 cases h
 exact Jv1 _ tv ⟨R,_,Jj3⟩<|KM R
 rintro _ w19 _ ⟨rfl,K20,S21⟩
 have h:=hK16
 refine Jb 1 R<|Ju<|Ja2 (l:=[.tmp 2]) V82 (Jp2 R R) R ?_
 cases h
 exact⟨K20,R,(hE.stp<|T4 S3 S9 S15 S21)⟩
theorem jR {a0 u0}{p0:(List Int)}{p1:Int}(g0:Rd (Rp.int .i64) κ w 0 a0 u0 p0){r:Bool}(h:js p0 p1=some r):Ret Tryz.prog 195 [.slice a0 p0.length u0,vi p1] w (Pvb κ w r):=by
 unfold js at h
 refine Jk3 κ F195 R N195 R λhE=>Je3 R<|Jq<|Jg3 [2,2,2] 1 R<|Jn3 R U37 R R<|Jb 1 R ?_
 have hN1:(p0.length:Int)<=9223372036854775807:=g0.len_le
 refine Ob h λq2 hq3 hK2=>?_
 clear h
 refine Jx1 (λL w'=>∃κ',L=[]/\Stp [] κ w κ' w'/\q2=yD ()) ?_ ?_
 refine Jv<|Jp3 [0,1,7,8] (λk E L w'=>∃κ' v9,L=(9,vi v9)::E/\Stp [] κ w κ' w'/\0<=v9/\yG ((p0.length:Int)-v9)=k/\cntM (j8 p0 p1) k v9 ()=some q2) ⟨_,_,⟨κ,0,R,Jj3,(by decide),(by simp),hq3⟩,(KM R)⟩ ?_
 rintro k _ w7 ⟨K8,v9,rfl,S9,hj1,hJ1,h⟩
 rcases k with _ | k
 have hk10:=h;obtain⟨o1,h⟩:=bT (yD (yE ()):Bool⊕((Unit)⊕(Unit)))
 have hc1:decide (v9<(p0.length:Int))=false:=Jo2 (by omega)
 refine Je3 R<|Jq<|Jw2 R hc1<|Jc1<|Jt<|Jt ?_
 cases h
 have h:=hk10
 refine Jb1 ?_
 cases h
 exact Jw1 _ ⟨K8,R,S9.wk R,R⟩ KN
 obtain⟨o1,h,hk10⟩:=BI h;unfold j8 at h
 have hc1:decide (v9<(p0.length:Int))=true:=Jn2 (by omega)
 refine Je3 R<|Jq<|Jv2 R hc1<|Js<|Jp<|Jq<|Jv<|Jg3 [2,2,1,2,2] 1 R<|Ob h λx12 hx12 h=>Jc3 R g0 hx12 U37 Z2 ?_
 have f11:=g0.stp S9
 refine Jb3 R I2 (f11.gInt hx12)<|Jb 2 R<|Jg3 [2,2,2,2,2,2,2,2,2,2,2,2,2,2,2,2,1,2,2,2] 3 R<|Ob h λp20 h hK12=>Jq3 [0,1,5,6,7,8,9] (λE L w'=>L=(20,.bool p20)::E/\∃κ',Stp [] K8 w7 κ' w') [(3,2),(4,2),(5,2),(6,2)] [(7,2),(8,2),(9,2),(10,2),(11,2),(12,2),(13,2),(14,2),(15,2),(16,1),(17,2),(18,2),(19,2)] tv ?_ ?_
 revert h
 cases ht13:decide (x12<0)
 refine JF λh=>Jn 4 R ?_
 cases h
 exact Jv1 _ tv ⟨R,_,Jj3⟩<|KM R
 refine JT λh=>Jn 4 R ?_
 cases h
 exact Jv1 _ tv ⟨R,_,Jj3⟩<|KM R
 rintro _ w14 _ ⟨rfl,K15,S16⟩
 have h:=hK12
 refine Jn 1 R<|Ob h λp33 h hK17=>Jq3 [0,1,7,8,9] (λE L w'=>L=(33,.bool p33)::E/\∃κ',Stp [] K15 w14 κ' w') [(8,2),(9,2),(10,2),(11,2),(12,2),(13,2),(14,2),(15,2),(16,1),(17,2),(18,2),(19,2)] [] tv ?_ ?_
 revert h
 cases ht18:p20
 refine JF λh=>Jn 3 R<|Ob h λp32 h hK19=>Jq3 [0,1,7,8,9,21,22,23,24] (λE L w'=>L=(32,.bool p32)::E/\∃κ',Stp [] K15 w14 κ' w') [(11,2),(12,2),(13,2),(14,2),(15,2),(16,1),(17,2),(18,2)] [(19,2)] tv ?_ ?_
 revert h
 cases ht20:decide (0<v9)
 refine JF λh=>Jn 5 R<|Jz3 R<|Jn 2 R ?_
 cases h
 exact Jv1 _ tv ⟨R,_,Jj3⟩<|KM R
 refine JT λh=>Jn 4 R<|Ob h λx29 hx29 h=>Jc3 R f11 hx29 U37 Z2<|Jb3 R I2 ((f11.stp S16).gInt hx29)<|Jn 2 R ?_
 cases h
 exact Jv1 _ tv ⟨R,_,Jj3⟩<|KM R
 rintro _ w22 _ ⟨rfl,K23,S24⟩
 have h:=hK19
 refine Jn 1 R ?_
 cases h
 exact Jv1 _ tv ⟨R,_,S24.wk R⟩<|KM R
 refine JT λh=>Jn 8 R<|Jz3 R<|Jn 3 R ?_
 cases h
 exact Jv1 _ tv ⟨R,_,Jj3⟩<|KM R
 rintro _ w25 _ ⟨rfl,K26,S27⟩
 have h:=hK17
 refine Jd ?_
 revert h
 cases ht28:p33
 refine JF λh=>Jy R<|Js<|Jz<|Jp<|Jf3 R ?_
 have hw1:yC .i64 (v9+1)=v9+1:=wr1 hj1 (Jm2 hc1) hN1
 rw[hw1]
 have hc1:=Jm2 hc1
 cases h
 exact Jz1 λa ha=>⟨k,_,Ja3 _,⟨K26,v9+1,R,(T3 S9 S16 S27).wk R,by omega,by omega,hk10⟩,(ha.mm R)⟩
 refine JT λh=>Jx R<|Je3 R<|Ju<|Ja1<|Jw<|Jw ?_
 cases h
 obtain rfl:=Option.some.inj hk10
 have h:=yL hK2
 refine Ja1<|Jq2<|Jw<|Ja2 (l:=[.tmp 4]) V195 (Jp2 R R) R ?_
 cases h
 exact⟨K26,R,(hE.stp<|T3 S9 S16 S27)⟩
 rintro _ w4 ⟨K5,rfl,S6,rfl⟩
 have h:=yI hK2
 refine Jp<|Je3 R<|Ju<|Ja2 (l:=[.tmp 4]) V195 (Jp2 R R) R ?_
 cases h
 exact⟨K5,R,(hE.stp S6)⟩
theorem pH {p0:Int}  {r:Bool}(h:kj p0=some r):Ret Tryz.prog 196 [vi p0] w (Pvb κ w r):=by
 unfold kj at h
 refine Jk3 κ F196 R N196 R λhE=>Je3 R<|Jg3 [2,2,2,2,2,2,2,2,2,2,2] 3 R<|Ob h λp8 h hK1=>Jq3 [0,2] (λE L w'=>L=(8,.bool p8)::E/\∃κ',Stp [] κ w κ' w') [(3,2),(4,2),(5,2)] [(6,2),(7,2),(8,2),(9,2),(10,2)] tv ?_ ?_
 revert h
 cases ht2:(p0==2)
 refine JF λh=>Jn 3 R ?_
 cases h
 exact Jv1 _ tv ⟨R,_,Jj3⟩<|KM R
 refine JT λh=>Jn 3 R ?_
 cases h
 exact Jv1 _ tv ⟨R,_,Jj3⟩<|KM R
 rintro _ w3 _ ⟨rfl,K4,S5⟩
 have h:=hK1
 refine Jn 1 R<|Ob h λp12 h hK6=>Jq3 [2] (λE L w'=>L=(12,.bool p12)::E/\∃κ',Stp [] K4 w3 κ' w') [(7,2),(8,2),(9,2)] [(10,2)] tv ?_ ?_
 revert h
 cases ht7:p8
 refine JF λh=>Jn 3 R ?_
 cases h
 exact Jv1 _ tv ⟨R,_,Jj3⟩<|KM R
 refine JT λh=>Jn 3 R ?_
 cases h
 exact Jv1 _ tv ⟨R,_,Jj3⟩<|KM R
 rintro _ w8 _ ⟨rfl,K9,S10⟩
 have h:=hK6
 refine Jb 1 R<|Ju<|Ja2 (l:=[.tmp 2]) V196 (Jp2 R R) R ?_
 cases h
 exact⟨K9,R,(hE.stp<|S5.tr S10)⟩
theorem gK {a0 u0}{p0:(List Int)}{p1:Int}(g0:Rd (Rp.int .i64) κ w 0 a0 u0 p0){r:Int}(h:cz p0 p1=some r):Ret Tryz.prog 49 [.slice a0 p0.length u0,vi p1] w (Pvi κ w r):=by
 unfold cz at h
 refine Jk3 κ F49 R N49 R λhE=>Je3 R<|Jq<|Jg3 [2,2,2] 1 R<|Jn3 R U37 R R<|Jb 1 R ?_
 have hN1:(p0.length:Int)<=9223372036854775807:=g0.len_le
 refine Ob h λq2 hq3 hK2=>?_
 clear h
 refine Jx1 (λL w'=>∃κ',L=[]/\Stp [] κ w κ' w'/\q2=yD ()) ?_ ?_
 refine Jv<|Jp3 [0,1,7] (λk E L w'=>∃κ' v8,L=(8,vi v8)::E/\Stp [] κ w κ' w'/\0<=v8/\yG ((p0.length:Int)-v8)=k/\cntM (cM p0 p1) k v8 ()=some q2) ⟨_,_,⟨κ,0,R,Jj3,(by decide),(by simp),hq3⟩,(KM R)⟩ ?_
 rintro k _ w7 ⟨K8,v8,rfl,S9,hj1,hJ1,h⟩
 rcases k with _ | k
 have hk10:=h;obtain⟨o1,h⟩:=bT (yD (yE ()):Int⊕((Unit)⊕(Unit)))
 have hc1:decide (v8<(p0.length:Int))=false:=Jo2 (by omega)
 refine Je3 R<|Jq<|Jw2 R hc1<|Jc1<|Jt<|Jt ?_
 cases h
 have h:=hk10
 refine Jb1 ?_
 cases h
 exact Jw1 _ ⟨K8,R,S9.wk R,R⟩ KN
 obtain⟨o1,h,hk10⟩:=BI h;unfold cM at h
 have hc1:decide (v8<(p0.length:Int))=true:=Jn2 (by omega)
 refine Je3 R<|Jq<|Jv2 R hc1<|Js<|Jp<|Jq<|Jv<|Je3 R<|Jg3 [2,2,2,2,1,2] 3 R<|Ob h λx14 hx14 h=>Jc3 R g0 hx14 U37 Z2<|Jb3 R I2 ((g0.stp S9).gInt hx14)<|Jb 1 R ?_
 revert h
 cases ht12:(p1==x14)
 refine JF λh=>Jy R<|Js<|Jz<|Jp<|Jf3 R ?_
 have hw1:yC .i64 (v8+1)=v8+1:=wr1 hj1 (Jm2 hc1) hN1
 rw[hw1]
 have hc1:=Jm2 hc1
 cases h
 exact Jz1 λa ha=>⟨k,_,Ja3 _,⟨K8,v8+1,R,S9.wk R,by omega,by omega,hk10⟩,(ha.mm R)⟩
 refine JT λh=>Jx R<|Je3 R<|Ju<|Ja1<|Jw<|Jw ?_
 cases h
 obtain rfl:=Option.some.inj hk10
 have h:=yL hK2
 refine Ja1<|Jq2<|Jw<|Ja2 (l:=[.tmp 4]) V49 (Jp2 R R) R ?_
 cases h
 exact⟨K8,R,(hE.stp S9)⟩
 rintro _ w4 ⟨K5,rfl,S6,rfl⟩
 have h:=yI hK2
 refine Jp<|Je3 R<|Ju<|Ja2 (l:=[.tmp 4]) V49 (Jp2 R R) R ?_
 cases h
 exact⟨K5,R,(hE.stp S6)⟩
theorem oA {p0:Int}{p1:Int}{p2:Bool}{p3:Bool}  {r:Int}(h:fY p0 p1 p2 p3=some r):Ret Tryz.prog 171 [vi p0,vi p1,.bool p2,.bool p3] w (Pvi κ w r):=by
 unfold fY at h
 refine Jk3 κ F171 R N171 R λhE=>Je3 R<|Je3 R<|Jq<|Je3 R<|Ob h λq1 h hK1=>Jo3 [0,1,3,10] (λE L w'=>∃κ',L=(9,vi q1)::E/\Stp [] κ w κ' w') ?_ ?_
 revert h
 cases ht5:p2
 refine JF λh=>Jy R<|Js ?_
 cases h
 exact Jw1 _ ⟨κ,R,Jj3⟩<|KM R
 refine JT λh=>Jx R<|Jf3 R ?_
 cases h
 exact Jw1 _ ⟨κ,R,Jj3⟩<|KM R
 rintro _ w2 ⟨K3,rfl,S4⟩
 have h:=hK1
 refine Jp<|Jq<|Je3 R<|Ob h λq2 h hK6=>Jo3 [0,1,9] (λE L w'=>∃κ',L=(3,.bool q2.1)::(10,vi q2.2)::E/\Stp [] K3 w2 κ' w') ?_ ?_
 revert h
 cases ht10:p3
 refine JF λh=>Jy R<|Js ?_
 cases h
 exact Jw1 _ ⟨K3,R,Jj3⟩<|KM R
 refine JT λh=>Jx R<|Jf3 R ?_
 cases h
 exact Jw1 _ ⟨K3,R,Jj3⟩<|KM R
 rintro _ w7 ⟨K8,rfl,S9⟩
 have h:=hK6
 refine Jp<|Jq<|Je3 R<|Jv<|Je3 R ?_
 revert h
 cases ht11:(p0==1)
 refine JF λh=>Jy R<|Je3 R ?_
 revert h
 cases ht13:(p0==2)
 refine JF λh=>Jy R<|Je3 R ?_
 revert h
 cases ht27:(p0==3)
 refine JF λh=>Jy R<|Je3 R ?_
 revert h
 cases ht31:(p0==4)
 refine JF λh=>Jy R<|Je3 R ?_
 revert h
 cases ht33:(p0==5)
 refine JF λh=>Jy R<|Je3 R ?_
 revert h
 cases ht35:(p0==6)
 refine JF λh=>Jy R<|Js<|Jz<|Jp<|Je3 R<|Ju<|Ja2 (l:=[.tmp 8]) V171 (Jp2 R R) R ?_
 cases h
 exact⟨K8,R,(hE.stp<|S4.tr S9)⟩
 refine JT λh=>Jx R<|Jg3 [2,2,2,2] 2 R<|Jf R (rM R R R)<|Jb 1 R<|Ju<|Ja1<|Jw<|Ja2 (l:=[.tmp 8]) V171 (Jp2 R R) R ?_
 cases h
 exact⟨K8,R,(hE.stp<|S4.tr S9)⟩
 refine JT λh=>Jx R<|Je3 R<|Ju<|Ja1<|Jw<|Ja2 (l:=[.tmp 8]) V171 (Jp2 R R) R ?_
 cases h
 exact⟨K8,R,(hE.stp<|S4.tr S9)⟩
 refine JT λh=>Jx R<|Je3 R<|Ju<|Ja1<|Jw<|Ja2 (l:=[.tmp 8]) V171 (Jp2 R R) R ?_
 cases h
 exact⟨K8,R,(hE.stp<|S4.tr S9)⟩
 refine JT λh=>Jx R<|Jq<|Je3 R ?_
 revert h
 cases ht28:q2.1
 refine JF λh=>Jy R<|Js<|Jp<|Jg3 [2,2,2,2] 2 R<|Jf R (rM R R R)<|Jb 1 R<|Ju<|Ja1<|Jw<|Ja2 (l:=[.tmp 8]) V171 (Jp2 R R) R ?_
 cases h
 exact⟨K8,R,(hE.stp<|S4.tr S9)⟩
 refine JT λh=>Jx R<|Je3 R<|Ju<|Jw<|Ja1<|Jw<|Ja2 (l:=[.tmp 8]) V171 (Jp2 R R) R ?_
 cases h
 exact⟨K8,R,(hE.stp<|S4.tr S9)⟩
 refine JT λh=>Jx R<|Jq<|Jg3 [2,2,2,2,2,2,2,2,2,2] 3 R<|Ob h λp31 h hK14=>Jq3 [9] (λE L w'=>L=(31,.bool p31)::E/\∃κ',Stp [] K8 w7 κ' w') [(3,2),(4,2),(5,2),(6,2),(7,2),(8,2),(9,2)] [] tv ?_ ?_
 revert h
 cases ht15:(p1==2)
 refine JF λh=>Jn 3 R<|Ob h λp30 h hK16=>Jq3 [9,24] (λE L w'=>L=(30,.bool p30)::E/\∃κ',Stp [] K8 w7 κ' w') [(6,2),(7,2),(8,2)] [(9,2)] tv ?_ ?_
 revert h
 cases ht17:(p1==1)
 refine JF λh=>Jn 3 R ?_
 cases h
 exact Jv1 _ tv ⟨R,_,Jj3⟩<|KM R
 refine JT λh=>Jn 3 R ?_
 cases h
 exact Jv1 _ tv ⟨R,_,Jj3⟩<|KM R
 rintro _ w18 _ ⟨rfl,K19,S20⟩
 have h:=hK16
 refine Jn 1 R ?_
 cases h
 exact Jv1 _ tv ⟨R,_,S20.wk R⟩<|KM R
 refine JT λh=>Jn 7 R ?_
 cases h
 exact Jv1 _ tv ⟨R,_,Jj3⟩<|KM R
 rintro _ w21 _ ⟨rfl,K22,S23⟩
 have h:=hK14
 refine Jd ?_
 revert h
 cases ht24:p31
 refine JF λh=>Jy R<|Js<|Jp<|Je3 R<|Ju<|Ja1<|Jw<|Ja2 (l:=[.tmp 8]) V171 (Jp2 R R) R ?_
 cases h
 exact⟨K22,R,(hE.stp<|T3 S4 S9 S23)⟩
 refine JT λh=>Jx R<|Je3 R<|Ju<|Jw<|Ja1<|Jw<|Ja2 (l:=[.tmp 8]) V171 (Jp2 R R) R ?_
 cases h
 exact⟨K22,R,(hE.stp<|T3 S4 S9 S23)⟩
 refine JT λh=>Jx R<|Jg3 [2,2,2,2,2] 3 R<|Jf R (rM R R R)<|Jb 1 R<|Ju<|Ja1<|Jw<|Ja2 (l:=[.tmp 8]) V171 (Jp2 R R) R ?_
 cases h
 exact⟨K8,R,(hE.stp<|S4.tr S9)⟩
theorem iw {a0 u0}{p0:(List (Int×Int))}{p1:(Int×Int)}(g0:Rd (Rp.pair (Rp.int .i64) (Rp.int .i64)) κ w 0 a0 u0 p0){r:Int}(h:co p0 p1=some r):Ret Tryz.prog 170 [.slice a0 p0.length u0,.agg #[vi p1.1,vi p1.2]] w (Pvi κ w r):=by
 unfold co at h
 refine Jk3 κ F170 R N170 R λhE=>Je [1,2] R<|Js3 (κ:=κ) 2 R λb3 w1 K2 S3 f4=>Tv<|Jb 1 R<|Jq<|Jg3 [2,2,2] 1 R<|Jn3 R U123 R R<|Jb 1 R ?_
 have hN5:(p0.length:Int)<=9223372036854775807:=g0.len_le
 refine Ob h λq2 hq7 hK6=>?_
 clear h
 refine Jx1 (λL w'=>∃κ',L=[]/\Stp [] K2 w1 κ' w'/\q2=yD ()) ?_ ?_
 refine Jv<|Jp3 [0,3,7] (λk E L w'=>∃κ' v8,L=(8,vi v8)::E/\Stp [] K2 w1 κ' w'/\0<=v8/\yG ((p0.length:Int)-v8)=k/\cntM (ck p0 p1) k v8 ()=some q2) ⟨_,_,⟨K2,0,R,Jj3,(by decide),(by simp),hq7⟩,(KM R)⟩ ?_
 rintro k _ w11 ⟨K12,v8,rfl,S13,hj5,hJ5,h⟩
 rcases k with _ | k
 have hk14:=h;obtain⟨o5,h⟩:=bT (yD (yE ()):Int⊕((Unit)⊕(Unit)))
 have hc5:decide (v8<(p0.length:Int))=false:=Jo2 (by omega)
 refine Je3 R<|Jq<|Jw2 R hc5<|Jc1<|Jt<|Jt ?_
 cases h
 have h:=hk14
 refine Jb1 ?_
 cases h
 exact Jw1 _ ⟨K12,R,S13.wk R,R⟩ KN
 obtain⟨o5,h,hk14⟩:=BI h;unfold ck at h
 have hc5:decide (v8<(p0.length:Int))=true:=Jn2 (by omega)
 refine Je3 R<|Jq<|Jv2 R hc5<|Js<|Jp<|Jq<|Jv<|Je3 R<|Jq<|Js1 (κ:=K12) [0,2] none [(1,2),(2,2),(3,2),(0,0),(4,0),(5,2)] [] (by kernel_rfl) (by kernel_rfl) λw16 S15=>Jn 2 R<|Ob h λx14 hx14 h=>Jc3 R g0 hx14 U123 Z120<|Jg R (Jc4 (haC (f4.stp<|S13.tr S15).cells R) I120 Z120 R) ?_
 obtain⟨cse19,hre19,hle19⟩:=((g0.stp (T3 S3 S13 S15))).gSt hx14
 obtain⟨_,_,rfl,rfl,rfl⟩:=hre19
 refine Jg R (Jc4 (haC hle19 R) I120 Z120 R)<|Jf R (wo U120 (by kernel_rfl) I2 U2 Z2 R R R)<|Jt1<|Jd ?_
 revert h
 cases ht20:((p1.1==x14.1)&&(p1.2==x14.2))
 refine JF λh=>Jy R<|Js<|Jz<|Jp<|Jf3 R ?_
 have hw5:yC .i64 (v8+1)=v8+1:=wr1 hj5 (Jm2 hc5) hN5
 rw[hw5]
 have hc5:=Jm2 hc5
 cases h
 exact Jz1 λa ha=>⟨k,_,Ja3 _,⟨K12,v8+1,R,(S13.tr S15).wk R,by omega,by omega,hk14⟩,(ha.mm R)⟩
 refine JT λh=>Jx R<|Je3 R<|Ju<|Ja1<|Jw<|Jw ?_
 cases h
 obtain rfl:=Option.some.inj hk14
 have h:=yL hK6
 refine Ja1<|Jq2<|Jw<|Ja2 (l:=[.tmp 4]) V170 (Jp2 R R) R ?_
 cases h
 exact⟨K12,R,(hE.stp<|T3 S3 S13 S15)⟩
 rintro _ w8 ⟨K9,rfl,S10,rfl⟩
 have h:=yI hK6
 refine Jp<|Je3 R<|Ju<|Ja2 (l:=[.tmp 4]) V170 (Jp2 R R) R ?_
 cases h
 exact⟨K9,R,(hE.stp<|S3.tr S10)⟩
theorem o4 {am al aj ak af ai}{p0:Parity}{p1:Int}{p2:Int}{a3 u3}{p3:(List Int)}(g0_0_0:Oc E6 2 κ w 2 am al p0.Arena.Owner) (g0_0_1:Oc (Ep.fz (Rp.sl (Rp.int .i64))) 37 κ w 3 aj ak p0.Arena.Next) (g0_1:Oc E6 2 κ w 4 af ai p0.Prio) (g3:Rd (Rp.int .i64) κ w 0 a3 u3 p3){r:Parity}(h:jw p0 p1 p2 p3=some r):Ret Tryz.prog 175 [.agg #[.slice am p0.Arena.Owner.length al,.slice aj p0.Arena.Next.length ak,.slice af p0.Prio.length ai],vi p1,vi p2,.slice a3 p3.length u3] w (λv w'=>∃(κ':Col) (ra0:Option Addr) (ru0:Nat) (ra1:Option Addr) (ru1:Nat) (ra2:Option Addr) (ru2:Nat),v= .agg #[.slice ra0 r.Arena.Owner.length ru0,.slice ra1 r.Arena.Next.length ru1,.slice ra2 r.Prio.length ru2]/\Ent κ w κ' w'/\Oc E6 2 κ' w' 5 ra0 ru0 r.Arena.Owner/\Oc (Ep.fz (Rp.sl (Rp.int .i64))) 37 κ' w' 6 ra1 ru1 r.Arena.Next/\Oc E6 2 κ' w' 7 ra2 ru2 r.Prio):=by
 unfold jw at h
 refine Jk3 κ F175 R N175 R λhE=>Je [1,1] R<|Js3 (κ:=κ) 5 R λb4 w1 K2 S3 f4=>Tv<|Jt3 (κ:=K2) 6 R X79 R λb8 w5 K6 S7 f8=>Tv<|Jd<|Je [2,2,1,2,1,1,2,2,1] R<|Jd3 R U79 R Z75<|Jd3 R U75 R Z37 ?_
 have f9:=f4.stp S7
 refine Jb3 R I37 (f9.ld 0 R R)<|Jn 1 R<|Jw3 (κ:=K6) (E:=E6) 7 [] (parts:=[(0,.tmp 12)]) (cells:=[vi p1]) (xs:=([p1]:List Int)) R Y37 bG R ⟨[vi p1],[],Zl K6 w5 [],Zl K6 w5 [],R,Zl.sp (l1:=[]) (l2:=[]) R,Zl.sr (l1:=[]) (l2:=[]),R,R⟩ λau aq w10 K11 S12 f13=>Tv<|Ob h λx14 hx14 h=>Jy3 (κ:=K11) (E:=E6) 2 [] R Y37 bG R (g0_0_0.stp<|T3 S3 S7 S12) (Sl.srcP (bP _) f13.rdc) bI hx14 R λab aa w15 K16 S17 f18=>Tv<|Jd3 R U79 R Z75<|Jd3 R U75 R Z37<|Ju3 (κ:=K16) 5 (off:=0) (vc:=[.slice ab x14.length aa]) (cs':=[.slice ab x14.length aa,.slice aj p0.Arena.Next.length ak,.slice af p0.Prio.length ai]) R Z37 R (f9.stp<|S12.tr S17) R λw20 S21 f22=>Tv<|Jd<|Je [2,2,1,2,1,1,2,2,1] R<|Jd3 R U79 R Z75<|Jd3 R U75 R Z31<|Jb3 R I31 (f22.ld 1 R R)<|Jn 1 R<|Jw3 (κ:=K16) (E:=(Ep.fz<|Rp.sl<|Rp.int .i64)) 8 [] (parts:=[(0,.tmp 20)]) (cells:=[.slice a3 p3.length u3]) (xs:=([p3]:List (List Int))) R Y31 bQ R ⟨[.slice a3 p3.length u3],[],Zl K16 w20 [],Zl K16 w20 [],R,Zl.sp (l1:=[]) (l2:=[]) R,Zl.sr (l1:=[]) (l2:=[]),⟨_,_,R,(Sl.z1<|g3.stp<|T5 S3 S7 S12 S17 S21)⟩,R⟩ λao an w24 K25 S26 f27=>Tv<|Ob h λx22 hx22 h=>Jy3 (κ:=K25) (E:=(Ep.fz<|Rp.sl<|Rp.int .i64)) 3 [8] R Y31 bQ R (g0_0_1.stp<|T6 S3 S7 S12 S17 S21 S26) f27.src (dE R) hx22 R λac ad w29 K30 S31 f32=>Tv<|Jd3 R U79 R Z75<|Jd3 R U75 R Z31<|Ju3 (κ:=K30) 5 (off:=1) (vc:=[.slice ac x22.length ad]) (cs':=[.slice ab x14.length aa,.slice ac x22.length ad,.slice af p0.Prio.length ai]) R Z31 R (f22.stp<|S26.tr S31) R λw34 S35 f36=>Tv<|Jd<|Je [2,1,2,1,1,2,1] R<|Jd3 R U79 R Z37<|Jb3 R I37 (f36.ld 2 R R)<|Jn 1 R<|Jw3 (κ:=K30) (E:=E6) 9 [] (parts:=[(0,.tmp 27)]) (cells:=[vi p2]) (xs:=([p2]:List Int)) R Y37 bG R ⟨[vi p2],[],Zl K30 w34 [],Zl K30 w34 [],R,Zl.sp (l1:=[]) (l2:=[]) R,Zl.sr (l1:=[]) (l2:=[]),R,R⟩ λar ap w37 K38 S39 f40=>Tv<|Ob h λx29 hx29 h=>Jy3 (κ:=K38) (E:=E6) 4 [] R Y37 bG R (g0_1.stp<|T9 S3 S7 S12 S17 S21 S26 S31 S35 S39) (Sl.srcP (bP _) f40.rdc) bI hx29 R λah ae w42 K43 S44 f45=>Tv<|Jd3 R U79 R Z37 ?_
 refine Ju3 (κ:=K43) 5 (off:=2) (vc:=[.slice ah x29.length ae]) (cs':=[.slice ab x14.length aa,.slice ac x22.length ad,.slice ah x29.length ae]) R Z37 R (f36.stp<|S39.tr S44) R λw47 S48 f49=>Tv<|Jd<|Je [1,1] R<|Jb4 tv R (Jc4 (haE f49.cells) I79 Z79 R)<|Jv3 (κ:=K43) 6 (vc:=[.slice ab x14.length aa,.slice ac x22.length ad,.slice ah x29.length ae]) R Z79 R (f8.stp<|T9 S12 S17 S21 S26 S31 S35 S39 S44 S48) R λw51 S52 f53=>Tv<|Jd<|Ju<|Ja2 (l:=[.cell 8 79]) V175 (bM R f53 I79 Z79 R R) R ?_
 cases h
 exact⟨(λb=>ren [(2,5),(3,6),(4,7)]<|K43 b),ab,aa,ac,ad,ah,ae,R,((hE.stp<|T12 S3 S7 S12 S17 S21 S26 S31 S35 S39 S44 S48 S52).map (ren [(2,5),(3,6),(4,7)]) R R),((f18.stp<|T8 S21 S26 S31 S35 S39 S44 S48 S52).map (ren [(2,5),(3,6),(4,7)]) R R),((f32.stp<|T5 S35 S39 S44 S48 S52).map (ren [(2,5),(3,6),(4,7)]) R R),((f45.stp<|S48.tr S52).map (ren [(2,5),(3,6),(4,7)]) R R)⟩
theorem oh {ac ab ad aa}{p0:Arena}(g0_0:Rd (Rp.int .i64) κ w 0 ac ab p0.Owner) (g0_1:Rd (Rp.sl (Rp.int .i64)) κ w 0 ad aa p0.Next){r:Int}(h:mf p0=some r):Ret Tryz.prog 181 [.agg #[.slice ac p0.Owner.length ab,.slice ad p0.Next.length aa]] w (Pvi κ w r):=by
 unfold mf at h
 refine Jk3 κ F181 R N181 R λhE=>Je [1,2] R<|Js3 (κ:=κ) 2 R λb1 w1 K2 S3 f4=>Tv<|Jb 1 R<|Je [2,1,2,2] R<|Jd3 R U75 R Z37<|Jb3 R I37 (f4.ld 0 R R)<|Jn3 R U37 R R<|Jb 1 R<|Ju<|Ja2 (l:=[.tmp 2]) V181 (Jp2 R R) R ?_
 cases h
 exact⟨K2,R,(hE.stp S3)⟩
theorem sk {ad ac ae af}{p0:Arena}{a1 u1}{p1:(List Int)}(g0_0:Rd (Rp.int .i64) κ w 0 ad ac p0.Owner) (g0_1:Rd (Rp.sl (Rp.int .i64)) κ w 0 ae af p0.Next) (g1:Rd (Rp.int .i64) κ w 0 a1 u1 p1){r:(List Bool)}(h:lY p0 p1=some r):Ret Tryz.prog 177 [.agg #[.slice ad p0.Owner.length ac,.slice ae p0.Next.length af],.slice a1 p1.length u1] w (Pvs Ep.bool 4 κ w r):=by
 unfold lY at h
 refine Jk3 κ F177 R N177 R λhE=>Je [1,2] R<|Js3 (κ:=κ) 2 R λb2 w1 K2 S3 f4=>Tv<|Jb 1 R<|Je [2,1,2,1,2] R<|Jd3 R U75 R Z37<|Jb3 R I37 (f4.ld 0 R R)<|Jn3 R U37 R R<|Ob h λx11 hx11 h=>Jl1 (κ:=K2) (E:=Ep.bool) (z:=(false:Bool)) 3 R R R R R R R Y178 du R R R R R (λ_ _ _=>R) (Ju2 hx11) λab aa w5 K6 S7 f8=>Tv<|Jb 1 R<|Jq<|Jg3 [2,2,2] 1 R<|Jn3 R U37 R R<|Jb 1 R ?_
 have hN9:(p1.length:Int)<=9223372036854775807:=g1.len_le
 refine Ob h λq2 hq11 hK10=>?_
 clear h
 refine Jo3 [5] (λE L w'=>∃κ',∃s3:(List Bool),L=E/\Stp [3] K6 w5 κ' w'/\Oc Ep.bool 4 κ' w' 3 ab aa s3/\x11.length=s3.length/\q2=yD s3) ?_ ?_
 refine Jv<|Jp3 [5,12,13] (λk E L w'=>∃κ' v14,∃s1:(List Bool),L=(14,vi v14)::E/\Stp [3] K6 w5 κ' w'/\Oc Ep.bool 4 κ' w' 3 ab aa s1/\x11.length=s1.length/\0<=v14/\yG ((p1.length:Int)-v14)=k/\cntM (jm p1) k v14 s1=some q2) ⟨_,_,⟨K6,0,x11,R,Jj3,f8,R,(by decide),(by simp),hq11⟩,(KM R)⟩ ?_
 rintro k _ w17 ⟨K18,v14,s1,rfl,S19,f20,hn21,hj9,hJ9,h⟩
 rcases k with _ | k
 have hk22:=h;obtain⟨o9,h⟩:=bT (yD (yE s1):(List Bool)⊕(((List Bool))⊕((List Bool))))
 have hc9:decide (v14<(p1.length:Int))=false:=Jo2 (by omega)
 refine Je3 R<|Jq<|Jw2 R hc9<|Jc1<|Jt<|Jt ?_
 cases h
 have h:=hk22
 refine Jb1 ?_
 cases h
 exact Jw1 _ ⟨K18,s1,R,S19.wk R,f20,hn21,R⟩<|KM R
 obtain⟨o9,h,hk22⟩:=BI h;unfold jm at h
 have hc9:decide (v14<(p1.length:Int))=true:=Jn2 (by omega)
 refine Je3 R<|Jq<|Jv2 R hc9<|Js<|Jp<|Jq<|Jv<|Je [2,1,2] R<|Ob h λx16 hx16 h=>Jc3 R g1 hx16 U37 Z2<|Jb3 R I2 ((g1.stp<|T3 S3 S7 S19).gInt hx16)<|Jb 1 R<|Jh3 [2,2,2,1] 2 R<|Ob h λx20 hx20 h=>Jf R (Jf2 f20.rdc hx20 U178 Z4 R R hn21 R)<|Ob h λy120 hy120 h=>Jk1 (κ:=K18) (E:=Ep.bool) 3 [] R R R R R R R R Z4 R R R R f20 hy120 λw24 K25 S26 f27=>Tv<|?_
 have hn28:x11.length=y120.length:=hn21.trans (Jt2 hy120).2.2.2.symm
 refine Jo<|Jz<|Jp<|Jf3 R ?_
 have hw9:yC .i64 (v14+1)=v14+1:=wr1 hj9 (Jm2 hc9) hN9
 rw[hw9]
 have hc9:=Jm2 hc9
 cases h
 exact Jz1 λa ha=>⟨k,_,Ja3 _,⟨K25,v14+1,y120,R,(S19.tr S26).wk R,f27,hn28,by omega,by omega,hk22⟩,(ha.mm R)⟩
 rintro _ w12 ⟨K13,s3,rfl,S14,f15,hn16,rfl⟩
 have h:=yI hK10
 refine Jp<|Je3 R<|Ju<|Ja2 (l:=[.tmp 4]) V177 (Jp2 R R) R ?_
 cases h
 exact⟨(λb=>ren [(3,2)]<|K13 b),ab,aa,(by simp only[hn16]),((hE.stp<|T3 S3 S7 S14).map (ren [(3,2)]) R R),(f15.map (ren [(3,2)]) R R)⟩
theorem iv {a0 u0}{p0:(List Bool)}{a1 u1}{p1:(List Bool)}(g0:Rd Rp.bool κ w 0 a0 u0 p0) (g1:Rd Rp.bool κ w 0 a1 u1 p1){r:(List Bool)}(h:eU p0 p1=some r):Ret Tryz.prog 180 [.slice a0 p0.length u0,.slice a1 p1.length u1] w (Pvs Ep.bool 4 κ w r):=by
 unfold eU at h
 refine Jk3 κ F180 R N180 R λhE=>Je3 R<|Jg3 [2,2,1,2] 1 R<|Jn3 R U178 R R<|Ob h λx9 hx9 h=>Jl1 (κ:=κ) (E:=Ep.bool) (z:=(false:Bool)) 2 R R R R R R R Y178 du R R R R R (λ_ _ _=>R) (Ju2 hx9) λa9 u9 w1 K2 S3 f4=>Tv<|Jb 1 R<|Jq<|Jg3 [2,2,2] 1 R<|Jn3 R U178 R R<|Jb 1 R ?_
 have hN5:(p0.length:Int)<=9223372036854775807:=g0.len_le
 refine Ob h λq2 hq7 hK6=>?_
 clear h
 refine Jo3 [5] (λE L w'=>∃κ',∃s3:(List Bool),L=E/\Stp [2] K2 w1 κ' w'/\Oc Ep.bool 4 κ' w' 2 a9 u9 s3/\x9.length=s3.length/\q2=yD s3) ?_ ?_
 refine Jv<|Jp3 [0,1,5,11] (λk E L w'=>∃κ' v12,∃s1:(List Bool),L=(12,vi v12)::E/\Stp [2] K2 w1 κ' w'/\Oc Ep.bool 4 κ' w' 2 a9 u9 s1/\x9.length=s1.length/\0<=v12/\yG ((p0.length:Int)-v12)=k/\cntM (gW p0 p1) k v12 s1=some q2) ⟨_,_,⟨K2,0,x9,R,Jj3,f4,R,(by decide),(by simp),hq7⟩,(KM R)⟩ ?_
 rintro k _ w13 ⟨K14,v12,s1,rfl,S15,f16,hn17,hj5,hJ5,h⟩
 rcases k with _ | k
 have hk18:=h;obtain⟨o5,h⟩:=bT (yD (yE s1):(List Bool)⊕(((List Bool))⊕((List Bool))))
 have hc5:decide (v12<(p0.length:Int))=false:=Jo2 (by omega)
 refine Je3 R<|Jq<|Jw2 R hc5<|Jc1<|Jt<|Jt ?_
 cases h
 have h:=hk18
 refine Jb1 ?_
 cases h
 exact Jw1 _ ⟨K14,s1,R,S15.wk R,f16,hn17,R⟩<|KM R
 obtain⟨o5,h,hk18⟩:=BI h;unfold gW at h
 have hc5:decide (v12<(p0.length:Int))=true:=Jn2 (by omega)
 refine Je3 R<|Jq<|Jv2 R hc5<|Js<|Jp<|Jq<|Jv<|Je3 R<|Jh3 [2,2,2,2,2,1,2,2,2,2,1,2,2,2,1] 4 R<|Ob h λx19 hx19 h=>Jc3 R g0 hx19 U178 Z4<|Jb3 R I4 ((g0.stp<|S3.tr S15).gBool hx19)<|Jn 1 R<|Ob h λp27 h hK20=>Jq3 [0,1,5,11,12,15,16] (λE L w'=>L=(27,.bool p27)::E/\∃κ',Stp [] K14 w13 κ' w') [(7,2),(8,2),(9,2),(10,1),(11,2),(12,2)] [(13,2),(14,1)] tv ?_ ?_
 revert h
 cases ht21:x19
 refine JF λh=>Jn 3 R<|Jz3 R<|Jn 2 R ?_
 cases h
 exact Jv1 _ tv ⟨R,_,Jj3⟩<|KM R
 refine JT λh=>Jn 2 R<|Ob h λx24 hx24 h=>Jc3 R g1 hx24 U178 Z4<|Jb3 R I4 ((g1.stp<|S3.tr S15).gBool hx24)<|Jn 2 R ?_
 cases h
 exact Jv1 _ tv ⟨R,_,Jj3⟩<|KM R
 rintro _ w23 _ ⟨rfl,K24,S25⟩
 have h:=hK20
 refine Ob h λx28 hx28 h=>Jf R (Jf2 f16.rdc hx28 U178 Z4 R R hn17 R)<|Ob h λy139 hy139 h=>Jk1 (κ:=K24) (E:=Ep.bool) 2 [] R R R R R R R R Z4 R R R R (f16.stp S25) hy139 λw27 K28 S29 f30=>Tv<|?_
 have hn31:x9.length=y139.length:=hn17.trans (Jt2 hy139).2.2.2.symm
 refine Jo<|Jz<|Jp<|Jf3 R ?_
 have hw5:yC .i64 (v12+1)=v12+1:=wr1 hj5 (Jm2 hc5) hN5
 rw[hw5]
 have hc5:=Jm2 hc5
 cases h
 exact Jz1 λa ha=>⟨k,_,Ja3 _,⟨K28,v12+1,y139,R,(T3 S15 S25 S29).wk R,f30,hn31,by omega,by omega,hk18⟩,(ha.mm R)⟩
 rintro _ w8 ⟨K9,s3,rfl,S10,f11,hn12,rfl⟩
 have h:=yI hK6
 refine Jp<|Je3 R<|Ju<|Ja2 (l:=[.tmp 4]) V180 (Jp2 R R) R ?_
 cases h
 exact⟨K9,a9,u9,(by simp only[hn12]),(hE.stp<|S3.tr S10),f11⟩
theorem kg {a0 u0}{p0:(List Bool)}{p1:Bool}(g0:Rd Rp.bool κ w 0 a0 u0 p0){r:Int}(h:dj p0 p1=some r):Ret Tryz.prog 267 [.slice a0 p0.length u0,.bool p1] w (Pvi κ w r):=by
 unfold dj at h
 refine Jk3 κ F267 R N267 R λhE=>Je3 R<|Jq<|Jg3 [2,2,2] 1 R<|Jn3 R U178 R R<|Jb 1 R ?_
 have hN1:(p0.length:Int)<=9223372036854775807:=g0.len_le
 refine Ob h λq2 hq3 hK2=>?_
 clear h
 refine Jx1 (λL w'=>∃κ',L=[]/\Stp [] κ w κ' w'/\q2=yD ()) ?_ ?_
 refine Jv<|Jp3 [0,1,7] (λk E L w'=>∃κ' v8,L=(8,vi v8)::E/\Stp [] κ w κ' w'/\0<=v8/\yG ((p0.length:Int)-v8)=k/\cntM (cC p0 p1) k v8 ()=some q2) ⟨_,_,⟨κ,0,R,Jj3,(by decide),(by simp),hq3⟩,(KM R)⟩ ?_
 rintro k _ w7 ⟨K8,v8,rfl,S9,hj1,hJ1,h⟩
 rcases k with _ | k
 have hk10:=h;obtain⟨o1,h⟩:=bT (yD (yE ()):Int⊕((Unit)⊕(Unit)))
 have hc1:decide (v8<(p0.length:Int))=false:=Jo2 (by omega)
 refine Je3 R<|Jq<|Jw2 R hc1<|Jc1<|Jt<|Jt ?_
 cases h
 have h:=hk10
 refine Jb1 ?_
 cases h
 exact Jw1 _ ⟨K8,R,S9.wk R,R⟩ KN
 obtain⟨o1,h,hk10⟩:=BI h;unfold cC at h
 have hc1:decide (v8<(p0.length:Int))=true:=Jn2 (by omega)
 refine Je3 R<|Jq<|Jv2 R hc1<|Js<|Jp<|Jq<|Jv<|Je3 R<|Jg3 [2,2,2,2,1,2] 3 R<|Ob h λx14 hx14 h=>Jc3 R g0 hx14 U178 Z4<|Jb3 R I4 ((g0.stp S9).gBool hx14)<|Jf R (wF R R U4 R)<|Jd ?_
 revert h
 cases ht12:(p1==x14)
 refine JF λh=>Jy R<|Js<|Jz<|Jp<|Jf3 R ?_
 have hw1:yC .i64 (v8+1)=v8+1:=wr1 hj1 (Jm2 hc1) hN1
 rw[hw1]
 have hc1:=Jm2 hc1
 cases h
 exact Jz1 λa ha=>⟨k,_,Ja3 _,⟨K8,v8+1,R,S9.wk R,by omega,by omega,hk10⟩,(ha.mm R)⟩
 refine JT λh=>Jx R<|Je3 R<|Ju<|Ja1<|Jw<|Jw ?_
 cases h
 obtain rfl:=Option.some.inj hk10
 have h:=yL hK2
 refine Ja1<|Jq2<|Jw<|Ja2 (l:=[.tmp 4]) V267 (Jp2 R R) R ?_
 cases h
 exact⟨K8,R,(hE.stp S9)⟩
 rintro _ w4 ⟨K5,rfl,S6,rfl⟩
 have h:=yI hK2
 refine Jp<|Je3 R<|Ju<|Ja2 (l:=[.tmp 4]) V267 (Jp2 R R) R ?_
 cases h
 exact⟨K5,R,(hE.stp S6)⟩
theorem pJ {a0 u0}{p0:(List (List Int))}(g0:Rd (Rp.sl (Rp.int .i64)) κ w 0 a0 u0 p0){r:(List (List Int))}(h:kh p0=some r):Ret Tryz.prog 283 [.slice a0 p0.length u0] w (Pvs (Ep.own E6 2) 37 κ w r):=by
 unfold kh at h
 refine Jk3 κ F283 R N283 R λhE=>Je3 R<|Je [1,2] R<|Jx3 (κ:=κ) (E:=(Ep.own E6 2)) 2 R Y31 bQ R λa6 u6 w1 K2 S3 f4=>Tv<|Jb 1 R<|Jq<|Jg3 [2,2,2] 1 R<|Jn3 R U31 R R<|Jb 1 R ?_
 have hN5:(p0.length:Int)<=9223372036854775807:=g0.len_le
 refine Ob h λq2 hq7 hK6=>?_
 clear h
 refine Jx1 (λL w'=>∃κ',∃s3:(List<|List Int),∃ad ab,L=[(3,.slice ad s3.length ab)]/\Stp [2,3,4] K2 w1 κ' w'/\Oc (Ep.own E6 2) 37 κ' w' 2 ad ab s3/\q2=yD s3) ?_ ?_
 refine Jv<|Jp3 [7,8] (λk E L w'=>∃κ' v9,∃s1:(List<|List Int),∃ac aa,L=(3,.slice ac s1.length aa)::(9,vi v9)::E/\Stp [2,3,4] K2 w1 κ' w'/\Oc (Ep.own E6 2) 37 κ' w' 2 ac aa s1/\0<=v9/\yG ((p0.length:Int)-v9)=k/\cntM (fo p0) k v9 s1=some q2) ⟨_,_,⟨K2,0,(([]:List (List Int)):(List<|List Int)),a6,u6,R,Jj3,f4,(by decide),(by simp),hq7⟩,(KM R)⟩ ?_
 rintro k _ w12 ⟨K13,v9,s1,ac,aa,rfl,S14,f15,hj5,hJ5,h⟩
 rcases k with _ | k
 have hk16:=h;obtain⟨o5,h⟩:=bT (yD (yE s1):(List (List Int))⊕(((List (List Int)))⊕((List (List Int)))))
 have hc5:decide (v9<(p0.length:Int))=false:=Jo2 (by omega)
 refine Je3 R<|Jq<|Jw2 R hc5<|Jc1<|Jt<|Jt ?_
 cases h
 have h:=hk16
 refine Jb1 ?_
 cases h
 exact Jw1 _ ⟨K13,s1,ac,aa,R,S14.wk R,f15,R⟩<|KM R
 obtain⟨o5,h,hk16⟩:=BI h;unfold fo at h
 have hc5:decide (v9<(p0.length:Int))=true:=Jn2 (by omega)
 refine Je3 R<|Jq<|Jv2 R hc5<|Js<|Jp<|Jq<|Jv<|Je [2,1,2] R<|Ob h λx11 hx11 h=>Jc3 R g0 hx11 U31 Z37 ?_
 obtain⟨ax11,ux11,f18,hl19⟩:=(g0.stp (S3.tr S14)).gSl hx11
 refine Jb3 R I37 hl19<|Jb 1 R<|Jh3 [2,1,2,1,1,1,2] 1 R<|Jx3 (κ:=K13) (E:=E6) 3 R Y37 bG R λal ak w20 K21 S22 f23=>Tv<|Jn 1 R<|Ob h λx16 hx16 h=>Jy3 (κ:=K21) (E:=E6) 3 [] R Y37 bG R f23 (Sl.srcP (bP _)<|f18.stp S22) bI hx16 R λae af w25 K26 S27 f28=>Tv<|Jw3 (κ:=K26) (E:=(Ep.own E6 2)) 4 [3] (parts:=[(0,.tmp 16)]) (cells:=[.slice ae x16.length af]) (xs:=([x16]:List (List Int))) R Y31 bQ R ⟨[.slice ae x16.length af],[],Zl K26 w25 [3],Zl K26 w25 [],R,Zl.sp (l1:=[3]) (l2:=[]) R,Zl.sr (l1:=[3]) (l2:=[]),⟨_,_,R,f28⟩,R⟩ λam aj w29 K30 S31 f32=>Tv<|Ob h λx18 hx18 h=>Jy3 (κ:=K30) (E:=(Ep.own E6 2)) 2 [4] R Y31 bQ R (f15.stp<|T3 S22 S27 S31) f32.src (dE R) hx18 R λah ai w34 K35 S36 f37=>Tv<|Jc 1 R<|Jz<|Jp<|Jf3 R ?_
 have hw5:yC .i64 (v9+1)=v9+1:=wr1 hj5 (Jm2 hc5) hN5
 rw[hw5]
 have hc5:=Jm2 hc5
 cases h
 exact Jz1 λa ha=>⟨k,_,Ja3 _,⟨K35,v9+1,x18,ah,ai,R,(T5 S14 S22 S27 S31 S36).wk R,f37,by omega,by omega,hk16⟩,(ha.mm R)⟩
 rintro _ w8 ⟨K9,s3,ad,ab,rfl,S10,f11,rfl⟩
 have h:=yI hK6
 refine Jp<|Je3 R<|Ju<|Ja2 (l:=[.tmp 2]) V283 (Jp2 R R) R ?_
 cases h
 exact⟨K9,ad,ab,R,(hE.stp<|S3.tr S10),f11⟩
theorem n0 {p0:Int}{c0:Int}{b1}(gb1:Bc κ w 0 b1 2 [vi c0]){r:Bool}(h:em p0 c0=some r):Ret Tryz.prog 217 [vi p0,.pointer (some ⟨b1,0,none⟩)] w (Pvb κ w r):=by
 unfold em at h
 refine Jk3 κ F217 R N217 R λhE=>Je3 R<|Jg3 [2,2,2,2,1,2,2,2] 3 R<|Ob h λp10 h hK1=>Jq3 [1,3] (λE L w'=>L=(10,.bool p10)::E/\∃κ',Stp [] κ w κ' w') [(3,2),(4,1),(5,2),(6,2)] [(7,2)] tv ?_ ?_
 revert h
 cases ht2:decide (p0<0)
 refine JF λh=>Jn 1 R<|Jb3 R I2 (gb1.ld 0 R R)<|Jn 2 R ?_
 cases h
 exact Jv1 _ tv ⟨R,_,Jj3⟩<|KM R
 refine JT λh=>Jn 1 R<|Jz3 R<|Jn 2 R ?_
 cases h
 exact Jv1 _ tv ⟨R,_,Jj3⟩<|KM R
 rintro _ w3 _ ⟨rfl,K4,S5⟩
 have h:=hK1
 refine Jb 1 R<|Ju<|Ja2 (l:=[.tmp 3]) V217 (Jp2 R R) R ?_
 cases h
 exact⟨K4,R,(hE.stp S5)⟩
theorem cX {p0:Int}{p1:Int}{p2:Int}  {r:Bool}(h:eI p0 p1 p2=some r):Ret Tryz.prog 59 [vi p0,vi p1,vi p2] w (Pvb κ w r):=by
 unfold eI at h
 refine Jk3 κ F59 R N59 R λhE=>Je3 R<|Jg3 [2,2,2,2,2,2,2,2,2] 4 R<|Ob h λp14 h hK1=>Jq3 [6] (λE L w'=>L=(14,.bool p14)::E/\∃κ',Stp [] κ w κ' w') [(4,2),(5,2),(6,2),(7,2)] [(8,2)] tv ?_ ?_
 revert h
 cases ht2:decide (p1<=p0)
 refine JF λh=>Jn 4 R ?_
 cases h
 exact Jv1 _ tv ⟨R,_,Jj3⟩<|KM R
 refine JT λh=>Jn 4 R ?_
 cases h
 exact Jv1 _ tv ⟨R,_,Jj3⟩<|KM R
 rintro _ w3 _ ⟨rfl,K4,S5⟩
 have h:=hK1
 refine Jb 1 R<|Ju<|Ja2 (l:=[.tmp 6]) V59 (Jp2 R R) R ?_
 cases h
 exact⟨K4,R,(hE.stp S5)⟩
theorem lW {p0:Bool}  {r:Int}(h:fL p0=some r):Ret Tryz.prog 192 [.bool p0] w (Pvi κ w r):=by
 unfold fL at h
 refine Jk3 κ F192 R N192 R λhE=>Je3 R<|Jq<|Je3 R ?_
 revert h
 cases ht1:p0
 refine JF λh=>Jy R<|Js<|Jp<|Je3 R<|Ju<|Ja2 (l:=[.tmp 2]) V192 (Jp2 R R) R ?_
 cases h
 exact⟨κ,R,hE⟩
 refine JT λh=>Jx R<|Je3 R<|Ju<|Jw<|Ja2 (l:=[.tmp 2]) V192 (Jp2 R R) R ?_
 cases h
 exact⟨κ,R,hE⟩
theorem lI {p0:Int}{p1:Int}  {r:Int}(h:jx p0 p1=some r):Ret Tryz.prog 247 [vi p0,vi p1] w (Pvi κ w r):=by
 unfold jx at h
 refine Jk3 κ F247 R N247 R λhE=>Je3 R<|Jq<|Je3 R ?_
 revert h
 cases ht1:decide (p1<p0)
 refine JF λh=>Jy R<|Js<|Jp<|Je3 R<|Ju<|Ja2 (l:=[.tmp 4]) V247 (Jp2 R R) R ?_
 cases h
 exact⟨κ,R,hE⟩
 refine JT λh=>Jx R<|Je3 R<|Ju<|Jw<|Ja2 (l:=[.tmp 4]) V247 (Jp2 R R) R ?_
 cases h
 exact⟨κ,R,hE⟩
theorem qw {a0 u0}{p0:(List (List Int))}{p1:Int}{p2:Int}(g0:Rd (Rp.sl (Rp.int .i64)) κ w 0 a0 u0 p0){r:Int}(h:jU p0 p1 p2=some r):Ret Tryz.prog 95 [.slice a0 p0.length u0,vi p1,vi p2] w (Pvi κ w r):=by
 unfold jU at h
 refine Jk3 κ F95 R N95 R λhE=>Je3 R<|Jq<|Je3 R ?_
 have hN1:(p0.length:Int)<=9223372036854775807:=g0.len_le
 refine Ob h λq2 hq3 hK2=>?_
 clear h
 refine Jx1 (λL w'=>∃κ',L=[]/\Stp [] κ w κ' w'/\q2=yD ()) ?_ ?_
 refine Jv<|Jp3 [0,1,2] (λk E L w'=>∃κ' v7,L=(7,vi v7)::E/\Stp [] κ w κ' w'/\0<=v7/\yG ((p0.length:Int)-v7)=k/\cntM (gf p0 p1 p2) k v7 ()=some q2) ⟨_,_,⟨κ,0,R,Jj3,(by decide),(by simp),hq3⟩,(KM R)⟩ ?_
 rintro k _ w7 ⟨K8,v7,rfl,S9,hj1,hJ1,h⟩
 rcases k with _ | k
 have hk10:=h;obtain⟨o1,h⟩:=bT (yD (yE ()):Int⊕((Unit)⊕(Unit)))
 have hc1:decide (v7<(p0.length:Int))=false:=Jo2 (by omega)
 refine Jq<|Jg3 [2,2,2,2] 2 R<|Jn3 R U31 R R<|Jb 1 R<|Jw2 R hc1<|Jc1<|Jt<|Jt ?_
 cases h
 have h:=hk10
 refine Jb1 ?_
 cases h
 exact Jw1 _ ⟨K8,R,S9.wk R,R⟩ KN
 obtain⟨o1,h,hk10⟩:=BI h;unfold gf at h
 have hc1:decide (v7<(p0.length:Int))=true:=Jn2 (by omega)
 refine Jq<|Jg3 [2,2,2,2] 2 R<|Jn3 R U31 R R<|Jb 1 R<|Jv2 R hc1<|Js<|Jp<|Jq<|Jv<|Jg3 [2,2,2,1,2,1,2,2,2,2,2,2,1,2,1,2,2,2] 2 R<|Ob h λx16 hx16 h=>Jc3 R g0 hx16 U31 Z37 ?_
 have f11:=g0.stp S9
 obtain⟨ax16,ux16,f12,hl13⟩:=f11.gSl hx16
 refine Jb3 R I37 hl13<|Ob h λx18 hx18 h=>Jc3 R f12 hx18 U37 Z2<|Jb3 R I2 (f12.gInt hx18)<|Jn 3 R<|Ob h λp31 h hK14=>Jq3 [0,1,2,7] (λE L w'=>L=(31,.bool p31)::E/\∃κ',Stp [] K8 w7 κ' w') [(9,2),(10,2),(11,2),(12,1),(13,2),(14,1),(15,2),(16,2),(17,2)] [] tv ?_ ?_
 revert h
 cases ht15:(x18==p1)
 refine JF λh=>Jn 3 R<|Jz3 R<|Jn 1 R<|Jz3 R<|Jn 3 R ?_
 cases h
 exact Jv1 _ tv ⟨R,_,Jj3⟩<|KM R
 refine JT λh=>Jn 2 R<|Ob h λx25 hx25 h=>Jc3 R f11 hx25 U31 Z37 ?_
 obtain⟨ax25,ux25,f16,hl17⟩:=f11.gSl hx25
 refine Jb3 R I37 hl17<|Ob h λx27 hx27 h=>Jc3 R f16 hx27 U37 Z2<|Jb3 R I2 (f16.gInt hx27)<|Jn 3 R ?_
 cases h
 exact Jv1 _ tv ⟨R,_,Jj3⟩<|KM R
 rintro _ w18 _ ⟨rfl,K19,S20⟩
 have h:=hK14
 refine Jd ?_
 revert h
 cases ht21:p31
 refine JF λh=>Jy R<|Js<|Jz<|Jp<|Jf3 R ?_
 have hw1:yC .i64 (v7+1)=v7+1:=wr1 hj1 (Jm2 hc1) hN1
 rw[hw1]
 have hc1:=Jm2 hc1
 cases h
 exact Jz1 λa ha=>⟨k,_,Ja3 _,⟨K19,v7+1,R,(S9.tr S20).wk R,by omega,by omega,hk10⟩,(ha.mm R)⟩
 refine JT λh=>Jx R<|Je3 R<|Ju<|Ja1<|Jw<|Jw ?_
 cases h
 obtain rfl:=Option.some.inj hk10
 have h:=yL hK2
 refine Ja1<|Jq2<|Jw<|Ja2 (l:=[.tmp 6]) V95 (Jp2 R R) R ?_
 cases h
 exact⟨K19,R,(hE.stp<|S9.tr S20)⟩
 rintro _ w4 ⟨K5,rfl,S6,rfl⟩
 have h:=yI hK2
 refine Jp<|Je3 R<|Ju<|Ja2 (l:=[.tmp 6]) V95 (Jp2 R R) R ?_
 cases h
 exact⟨K5,R,(hE.stp S6)⟩
theorem km {a0 u0}{p0:(List Int)}(g0:Rd (Rp.int .i64) κ w 0 a0 u0 p0){r:(List Int)}(h:da p0=some r):Ret Tryz.prog 131 [.slice a0 p0.length u0] w (Pvs E6 2 κ w r):=by
 unfold da at h
 refine Jk3 κ F131 R N131 R λhE=>Je3 R<|Je [1,2,1,2] R<|Jx3 (κ:=κ) (E:=E6) 2 R Y37 bG R λa3 u3 w1 K2 S3 f4=>Tv<|Jn 1 R<|Ob h λx5 hx5 h=>Jy3 (κ:=K2) (E:=E6) 2 [] R Y37 bG R f4 (Sl.srcP (bP _)<|g0.stp S3) bI hx5 R λa5 u5 w6 K7 S8 f9=>Tv<|Jb 1 R<|Ju<|Ja2 (l:=[.tmp 2]) V131 (Jp2 R R) R ?_
 cases h
 exact⟨K7,a5,u5,R,(hE.stp<|S3.tr S8),f9⟩
theorem og {a0 u0}{p0:(List Int)}{a1 u1}{p1:(List Int)}(g0:Rd (Rp.int .i64) κ w 0 a0 u0 p0) (g1:Rd (Rp.int .i64) κ w 0 a1 u1 p1){r:Bool}(h:gi p0 p1=some r):Ret Tryz.prog 198 [.slice a0 p0.length u0,.slice a1 p1.length u1] w (Pvb κ w r):=by
 unfold gi at h
 refine Jk3 κ F198 R N198 R λhE=>Je3 R<|Jq<|Jg3 [2,2,2,2,2] 1 R<|Jn3 R U37 R R<|Jn 1 R<|Jn3 R U37 R R<|Jb 1 R ?_
 revert h
 cases ht1:((p0.length:Int) !=(p1.length:Int))
 refine JF λh=>Jy R<|Js<|Jp<|Jq<|Je3 R ?_
 have hN2:(p0.length:Int)<=9223372036854775807:=g0.len_le
 refine Ob h λq2 hq4 hK3=>?_
 clear h
 refine Jx1 (λL w'=>∃κ',L=[]/\Stp [] κ w κ' w'/\q2=yD ()) ?_ ?_
 refine Jv<|Jp3 [0,1] (λk E L w'=>∃κ' v5,L=(5,vi v5)::E/\Stp [] κ w κ' w'/\0<=v5/\yG ((p0.length:Int)-v5)=k/\cntM (eq p0 p1) k v5 ()=some q2) ⟨_,_,⟨κ,0,R,Jj3,(by decide),(by simp),hq4⟩,(KM R)⟩ ?_
 rintro k _ w8 ⟨K9,v5,rfl,S10,hj2,hJ2,h⟩
 rcases k with _ | k
 have hk11:=h;obtain⟨o2,h⟩:=bT (yD (yE ()):Bool⊕((Unit)⊕(Unit)))
 have hc2:decide (v5<(p0.length:Int))=false:=Jo2 (by omega)
 refine Jq<|Jg3 [2,2,2,2] 2 R<|Jn3 R U37 R R<|Jb 1 R<|Jw2 R hc2<|Jc1<|Jt<|Jt ?_
 cases h
 have h:=hk11
 refine Jb1 ?_
 cases h
 exact Jw1 _ ⟨K9,R,S10.wk R,R⟩ KN
 obtain⟨o2,h,hk11⟩:=BI h;unfold eq at h
 have hc2:decide (v5<(p0.length:Int))=true:=Jn2 (by omega)
 refine Jq<|Jg3 [2,2,2,2] 2 R<|Jn3 R U37 R R<|Jb 1 R<|Jv2 R hc2<|Js<|Jp<|Jq<|Jv<|Jq<|Js1 (κ:=K9) [0] none [(0,2),(1,2),(2,2),(4,2),(5,2),(6,2),(3,0),(7,0),(8,2)] [] (by kernel_rfl) (by kernel_rfl) λw13 S12=>Jn 2 R<|Ob h λx19 hx19 h=>Jc3 R g0 hx19 U37 Z2<|Jn 2 R<|Ob h λx23 hx23 h=>Jc3 R g1 hx23 U37 Z2<|Jg R (Jc2 I2 R R<|hvC ((g0.stp<|S10.tr S12).gInt hx19) R)<|Jg R (Jc2 I2 R R<|hvC ((g1.stp<|S10.tr S12).gInt hx23) R)<|Jn 1 R<|Jt1<|Jd ?_
 revert h
 cases ht16:(x19 !=x23)
 refine JF λh=>Jy R<|Js<|Jz<|Jp<|Jf3 R ?_
 have hw2:yC .i64 (v5+1)=v5+1:=wr1 hj2 (Jm2 hc2) hN2
 rw[hw2]
 have hc2:=Jm2 hc2
 cases h
 exact Jz1 λa ha=>⟨k,_,Ja3 _,⟨K9,v5+1,R,(S10.tr S12).wk R,by omega,by omega,hk11⟩,(ha.mm R)⟩
 refine JT λh=>Jx R<|Je3 R<|Ju<|Ja1<|Jw<|Jw ?_
 cases h
 obtain rfl:=Option.some.inj hk11
 have h:=yL hK3
 refine Ja1<|Jq2<|Jw<|Ja2 (l:=[.tmp 4]) V198 (Jp2 R R) R ?_
 cases h
 exact⟨K9,R,(hE.stp<|S10.tr S12)⟩
 rintro _ w5 ⟨K6,rfl,S7,rfl⟩
 have h:=yI hK3
 refine Jp<|Je3 R<|Ju<|Ja2 (l:=[.tmp 4]) V198 (Jp2 R R) R ?_
 cases h
 exact⟨K6,R,(hE.stp S7)⟩
 refine JT λh=>Jx R<|Je3 R<|Ju<|Jw<|Ja2 (l:=[.tmp 4]) V198 (Jp2 R R) R ?_
 cases h
 exact⟨κ,R,hE⟩
theorem uP {aj af ae ai ah ak}{p0:Parity}(g0_0_0:Rd (Rp.int .i64) κ w 0 aj af p0.Arena.Owner) (g0_0_1:Rd (Rp.sl (Rp.int .i64)) κ w 0 ae ai p0.Arena.Next) (g0_1:Rd (Rp.int .i64) κ w 0 ah ak p0.Prio){r:l7Game}(h:nf p0=some r):Ret Tryz.prog 201 [.agg #[.slice aj p0.Arena.Owner.length af,.slice ae p0.Arena.Next.length ai,.slice ah p0.Prio.length ak]] w (λv w'=>∃(κ':Col) (ra0:Option Addr) (ru0:Nat) (ra1:Option Addr) (ru1:Nat) (ra2:Option Addr) (ru2:Nat) (ra3:Option Addr) (ru3:Nat) (ra4:Option Addr) (ru4:Nat),v= .agg #[.slice ra0 r.owner.length ru0,.slice ra1 r.prio.length ru1,.slice ra2 r.next.length ru2,.slice ra3 r.prev.length ru3,.slice ra4 r.pick.length ru4]/\Ent κ w κ' w'/\Rd (Rp.int .i64) κ' w' 0 ra0 ru0 r.owner/\Rd (Rp.int .i64) κ' w' 0 ra1 ru1 r.prio/\Rd (Rp.sl (Rp.int .i64)) κ' w' 0 ra2 ru2 r.next/\Oc (Ep.own E6 2) 37 κ' w' 5 ra3 ru3 r.prev/\Oc E6 2 κ' w' 6 ra4 ru4 r.pick):=by
 unfold nf at h
 refine Jk3 κ F201 R N201 R λhE=>Je [1,1] R<|Js3 (κ:=κ) 2 R λb1 w1 K2 S3 f4=>Tv<|Jt3 (κ:=K2) 3 R X210 R λb2 w5 K6 S7 f8=>Tv<|Jd<|Je [2,1,2,2] R<|Jd3 R U79 R Z37 ?_
 have f9:=f4.stp S7
 refine Jb3 R I37 (f9.ld 2 R R)<|Jn3 R U37 R R<|Jb 1 R<|Jq<|Ob h λx20 hx20 h=>Ob h λx22 hx22 h=>Jo3 [1,2,3] (λE L w'=>∃κ' b4 ar aq aw au ap av am al an ao,L=(4,.pointer (some ⟨b4,0,none⟩))::E/\Stp [4,5,6] K6 w5 κ' w'/\Rd (Rp.int .i64) κ' w' 0 ar aq ((⟨p0.Arena.Owner,p0.Prio,p0.Arena.Next,x20,x22⟩:l7Game).owner)/\Rd (Rp.int .i64) κ' w' 0 aw au ((⟨p0.Arena.Owner,p0.Prio,p0.Arena.Next,x20,x22⟩:l7Game).prio)/\Rd (Rp.sl<|Rp.int .i64) κ' w' 0 ap av ((⟨p0.Arena.Owner,p0.Prio,p0.Arena.Next,x20,x22⟩:l7Game).next)/\Oc (Ep.own E6 2) 37 κ' w' 4 am al ((⟨p0.Arena.Owner,p0.Prio,p0.Arena.Next,x20,x22⟩:l7Game).prev)/\Oc E6 2 κ' w' 5 an ao ((⟨p0.Arena.Owner,p0.Prio,p0.Arena.Next,x20,x22⟩:l7Game).pick)/\Bc κ' w' 6 b4 210 [.slice ar ((⟨p0.Arena.Owner,p0.Prio,p0.Arena.Next,x20,x22⟩:l7Game).owner).length aq,.slice aw ((⟨p0.Arena.Owner,p0.Prio,p0.Arena.Next,x20,x22⟩:l7Game).prio).length au,.slice ap ((⟨p0.Arena.Owner,p0.Prio,p0.Arena.Next,x20,x22⟩:l7Game).next).length av,.slice am ((⟨p0.Arena.Owner,p0.Prio,p0.Arena.Next,x20,x22⟩:l7Game).prev).length al,.slice an ((⟨p0.Arena.Owner,p0.Prio,p0.Arena.Next,x20,x22⟩:l7Game).pick).length ao]) ?_ ?_
 refine WC.rxt (κ:=K6) [2] none (by kernel_rfl) λw20 S21=>Jq1 (fuel:=5) [(0,2),(1,2),(3,2),(5,2),(6,2),(8,2),(10,2),(2,0),(4,0),(7,0)] (by kernel_rfl) (by kernel_rfl) R<|Jd3 R U79 R Z75<|Jd3 R U75 R Z37<|Jd3 R U79 R Z37<|Jd3 R U79 R Z75<|Jd3 R U75 R Z31<|Jn 2 R ?_
 have f22:=f9.stp S21
 refine Jg R (Jc2 I37 R R<|hvC (f22.ld 0 R R) R)<|Jg R (Jc2 I37 R R<|hvC (f22.ld 2 R R) R)<|Jg R (Jc2 I31 R R<|hvC (f22.ld 1 R R) R)<|Jp1<|WA.fork3 (fuel:=4) 9 11 13 (by kernel_rfl) R ?_ ?_ ?_
 refine Jl1 (κ:=K6) (E:=(Ep.own E6 2)) (z:=(([]:List Int):(List Int))) 4 R R R R R R R Y31 bQ R R R R R (λ_ _ _=>⟨none,0,R,Ow.nil⟩) (Ju2 hx20) λaa ac w23 K24 S25 f26=>⟨(S25.cl R),Jp1<|WA.fork2 (fuel:=3) 11 13 (by kernel_rfl) R ?_ ?_⟩
 have S001:=(T4 S3 S7 S21 S25)
 exact Jl1 (κ:=K24) (E:=E6) (z:=(0:Int)) 5 R R R R R R R Y37 bG R R R R R (λ_ _ _=>R) (Ju2 hx22) λab ad w27 K28 S29 f30=>⟨((S25.tr S29).cl R),Jp1<|Jq1 (fuel:=0) [(12,2),(13,1),(14,1)] (by kernel_rfl) (by kernel_rfl) R<|Jf R (bK (parts:=[(0,.tmp 13),(1,.tmp 15),(2,.tmp 18),(3,.tmp 20),(4,.tmp 22)]) (cells:=[.slice aj p0.Arena.Owner.length af,.slice ah p0.Prio.length ak,.slice ae p0.Arena.Next.length ai,.slice aa x20.length ac,.slice ab x22.length ad]) R R (by kernel_rfl))<|Jt3 (κ:=K28) 6 R X210 R λb4 w31 K32 S33 f34=>⟨((T3 S25 S29 S33).cl R),Jv3 (κ:=K32) 6 (vc:=[.slice aj p0.Arena.Owner.length af,.slice ah p0.Prio.length ak,.slice ae p0.Arena.Next.length ai,.slice aa x20.length ac,.slice ab x22.length ad]) R Z210 R f34 R λw35 S36 f37=>⟨((T4 S25 S29 S33 S36).cl R),Jp1<|Jr1 [] (by kernel_rfl) (by kernel_rfl) R<|Jo<|Jw1 _ ⟨K32,b4,aj,af,ah,ak,ae,ai,aa,ac,ab,ad,R,(T5 S21 S25 S29 S33 S36).wk R,(g0_0_0.stp<|T4 S001 S29 S33 S36),(g0_1.stp<|T4 S001 S29 S33 S36),(g0_0_1.stp<|T4 S001 S29 S33 S36),(f26.stp<|T3 S29 S33 S36),(f30.stp<|S33.tr S36),f37⟩<|KM R⟩⟩⟩
 have S002:=(T4 S3 S7 S21 S25)
 exact Jt3 (κ:=K24) 5 R X210 R λb4 w43 K44 S45 f46=>⟨((S25.tr S45).cl R),Jp1<|Jq1 (fuel:=0) [(11,1),(12,2),(14,1)] (by kernel_rfl) (by kernel_rfl) R<|Jl1 (κ:=K44) (E:=E6) (z:=(0:Int)) 6 R R R R R R R Y37 bG R R R R R (λ_ _ _=>R) (Ju2 hx22) λab ad w47 K48 S49 f50=>⟨((T3 S25 S45 S49).cl R),Jf R (bK (parts:=[(0,.tmp 13),(1,.tmp 15),(2,.tmp 18),(3,.tmp 20),(4,.tmp 22)]) (cells:=[.slice aj p0.Arena.Owner.length af,.slice ah p0.Prio.length ak,.slice ae p0.Arena.Next.length ai,.slice aa x20.length ac,.slice ab x22.length ad]) R R (by kernel_rfl))<|Jv3 (κ:=K48) 5 (vc:=[.slice aj p0.Arena.Owner.length af,.slice ah p0.Prio.length ak,.slice ae p0.Arena.Next.length ai,.slice aa x20.length ac,.slice ab x22.length ad]) R Z210 R (f46.stp S49) R λw52 S53 f54=>⟨((T4 S25 S45 S49 S53).cl R),Jp1<|Jr1 [] (by kernel_rfl) (by kernel_rfl) R<|Jo<|Jw1 _ ⟨(λb=>ren [(6,5),(5,6)]<|K48 b),b4,aj,af,ah,ak,ae,ai,aa,ac,ab,ad,R,(Jy2 ((T5 S21 S25 S45 S49 S53).wk R) [(6,5),(5,6)] R),((g0_0_0.stp<|T4 S002 S45 S49 S53).map (ren [(6,5),(5,6)]) R R),((g0_1.stp<|T4 S002 S45 S49 S53).map (ren [(6,5),(5,6)]) R R),((g0_0_1.stp<|T4 S002 S45 S49 S53).map (ren [(6,5),(5,6)]) R R),((f26.stp<|T3 S45 S49 S53).map (ren [(6,5),(5,6)]) R R),((f50.stp S53).map (ren [(6,5),(5,6)]) R R),(f54.map (ren [(6,5),(5,6)]) R R)⟩<|KM R⟩⟩⟩
 refine Jl1 (κ:=K6) (E:=E6) (z:=(0:Int)) 4 R R R R R R R Y37 bG R R R R R (λ_ _ _=>R) (Ju2 hx22) λab ad w60 K61 S62 f63=>⟨(S62.cl R),Jp1<|WA.fork2 (fuel:=3) 9 13 (by kernel_rfl) R ?_ ?_⟩
 have S003:=(T4 S3 S7 S21 S62)
 exact Jl1 (κ:=K61) (E:=(Ep.own E6 2)) (z:=(([]:List Int):(List Int))) 5 R R R R R R R Y31 bQ R R R R R (λ_ _ _=>⟨none,0,R,Ow.nil⟩) (Ju2 hx20) λaa ac w64 K65 S66 f67=>⟨((S62.tr S66).cl R),Jp1<|Jq1 (fuel:=0) [(12,2),(13,1),(14,1)] (by kernel_rfl) (by kernel_rfl) R<|Jf R (bK (parts:=[(0,.tmp 13),(1,.tmp 15),(2,.tmp 18),(3,.tmp 20),(4,.tmp 22)]) (cells:=[.slice aj p0.Arena.Owner.length af,.slice ah p0.Prio.length ak,.slice ae p0.Arena.Next.length ai,.slice aa x20.length ac,.slice ab x22.length ad]) R R (by kernel_rfl))<|Jt3 (κ:=K65) 6 R X210 R λb4 w68 K69 S70 f71=>⟨((T3 S62 S66 S70).cl R),Jv3 (κ:=K69) 6 (vc:=[.slice aj p0.Arena.Owner.length af,.slice ah p0.Prio.length ak,.slice ae p0.Arena.Next.length ai,.slice aa x20.length ac,.slice ab x22.length ad]) R Z210 R f71 R λw72 S73 f74=>⟨((T4 S62 S66 S70 S73).cl R),Jp1<|Jr1 [] (by kernel_rfl) (by kernel_rfl) R<|Jo<|Jw1 _ ⟨(λb=>ren [(5,4),(4,5)]<|K69 b),b4,aj,af,ah,ak,ae,ai,aa,ac,ab,ad,R,(Jy2 ((T5 S21 S62 S66 S70 S73).wk R) [(5,4),(4,5)] R),((g0_0_0.stp<|T4 S003 S66 S70 S73).map (ren [(5,4),(4,5)]) R R),((g0_1.stp<|T4 S003 S66 S70 S73).map (ren [(5,4),(4,5)]) R R),((g0_0_1.stp<|T4 S003 S66 S70 S73).map (ren [(5,4),(4,5)]) R R),((f67.stp<|S70.tr S73).map (ren [(5,4),(4,5)]) R R),((f63.stp<|T3 S66 S70 S73).map (ren [(5,4),(4,5)]) R R),(f74.map (ren [(5,4),(4,5)]) R R)⟩<|KM R⟩⟩⟩
 have S004:=(T4 S3 S7 S21 S62)
 exact Jt3 (κ:=K61) 5 R X210 R λb4 w80 K81 S82 f83=>⟨((S62.tr S82).cl R),Jp1<|Jq1 (fuel:=0) [(9,1),(12,2),(14,1)] (by kernel_rfl) (by kernel_rfl) R<|Jl1 (κ:=K81) (E:=(Ep.own E6 2)) (z:=(([]:List Int):(List Int))) 6 R R R R R R R Y31 bQ R R R R R (λ_ _ _=>⟨none,0,R,Ow.nil⟩) (Ju2 hx20) λaa ac w84 K85 S86 f87=>⟨((T3 S62 S82 S86).cl R),Jf R (bK (parts:=[(0,.tmp 13),(1,.tmp 15),(2,.tmp 18),(3,.tmp 20),(4,.tmp 22)]) (cells:=[.slice aj p0.Arena.Owner.length af,.slice ah p0.Prio.length ak,.slice ae p0.Arena.Next.length ai,.slice aa x20.length ac,.slice ab x22.length ad]) R R (by kernel_rfl))<|Jv3 (κ:=K85) 5 (vc:=[.slice aj p0.Arena.Owner.length af,.slice ah p0.Prio.length ak,.slice ae p0.Arena.Next.length ai,.slice aa x20.length ac,.slice ab x22.length ad]) R Z210 R (f83.stp S86) R λw89 S90 f91=>⟨((T4 S62 S82 S86 S90).cl R),Jp1<|Jr1 [] (by kernel_rfl) (by kernel_rfl) R<|Jo<|Jw1 _ ⟨(λb=>ren [(6,4),(4,5),(5,6)]<|K85 b),b4,aj,af,ah,ak,ae,ai,aa,ac,ab,ad,R,(Jy2 ((T5 S21 S62 S82 S86 S90).wk R) [(6,4),(4,5),(5,6)] R),((g0_0_0.stp<|T4 S004 S82 S86 S90).map (ren [(6,4),(4,5),(5,6)]) R R),((g0_1.stp<|T4 S004 S82 S86 S90).map (ren [(6,4),(4,5),(5,6)]) R R),((g0_0_1.stp<|T4 S004 S82 S86 S90).map (ren [(6,4),(4,5),(5,6)]) R R),((f87.stp S90).map (ren [(6,4),(4,5),(5,6)]) R R),((f63.stp<|T3 S82 S86 S90).map (ren [(6,4),(4,5),(5,6)]) R R),(f91.map (ren [(6,4),(4,5),(5,6)]) R R)⟩<|KM R⟩⟩⟩
 refine Jt3 (κ:=K6) 4 R X210 R λb4 w97 K98 S99 f100=>⟨(S99.cl R),Jp1<|WA.fork2 (fuel:=3) 9 11 (by kernel_rfl) R ?_ ?_⟩
 have S005:=(T4 S3 S7 S21 S99)
 exact Jl1 (κ:=K98) (E:=(Ep.own E6 2)) (z:=(([]:List Int):(List Int))) 5 R R R R R R R Y31 bQ R R R R R (λ_ _ _=>⟨none,0,R,Ow.nil⟩) (Ju2 hx20) λaa ac w101 K102 S103 f104=>⟨((S99.tr S103).cl R),Jp1<|Jq1 (fuel:=0) [(11,1),(12,2),(14,1)] (by kernel_rfl) (by kernel_rfl) R<|Jl1 (κ:=K102) (E:=E6) (z:=(0:Int)) 6 R R R R R R R Y37 bG R R R R R (λ_ _ _=>R) (Ju2 hx22) λab ad w105 K106 S107 f108=>⟨((T3 S99 S103 S107).cl R),Jf R (bK (parts:=[(0,.tmp 13),(1,.tmp 15),(2,.tmp 18),(3,.tmp 20),(4,.tmp 22)]) (cells:=[.slice aj p0.Arena.Owner.length af,.slice ah p0.Prio.length ak,.slice ae p0.Arena.Next.length ai,.slice aa x20.length ac,.slice ab x22.length ad]) R R (by kernel_rfl))<|Jv3 (κ:=K106) 4 (vc:=[.slice aj p0.Arena.Owner.length af,.slice ah p0.Prio.length ak,.slice ae p0.Arena.Next.length ai,.slice aa x20.length ac,.slice ab x22.length ad]) R Z210 R (f100.stp<|S103.tr S107) R λw110 S111 f112=>⟨((T4 S99 S103 S107 S111).cl R),Jp1<|Jr1 [] (by kernel_rfl) (by kernel_rfl) R<|Jo<|Jw1 _ ⟨(λb=>ren [(5,4),(6,5),(4,6)]<|K106 b),b4,aj,af,ah,ak,ae,ai,aa,ac,ab,ad,R,(Jy2 ((T5 S21 S99 S103 S107 S111).wk R) [(5,4),(6,5),(4,6)] R),((g0_0_0.stp<|T4 S005 S103 S107 S111).map (ren [(5,4),(6,5),(4,6)]) R R),((g0_1.stp<|T4 S005 S103 S107 S111).map (ren [(5,4),(6,5),(4,6)]) R R),((g0_0_1.stp<|T4 S005 S103 S107 S111).map (ren [(5,4),(6,5),(4,6)]) R R),((f104.stp<|S107.tr S111).map (ren [(5,4),(6,5),(4,6)]) R R),((f108.stp S111).map (ren [(5,4),(6,5),(4,6)]) R R),(f112.map (ren [(5,4),(6,5),(4,6)]) R R)⟩<|KM R⟩⟩⟩
 have S006:=(T4 S3 S7 S21 S99)
 exact Jl1 (κ:=K98) (E:=E6) (z:=(0:Int)) 5 R R R R R R R Y37 bG R R R R R (λ_ _ _=>R) (Ju2 hx22) λab ad w118 K119 S120 f121=>⟨((S99.tr S120).cl R),Jp1<|Jq1 (fuel:=0) [(9,1),(12,2),(14,1)] (by kernel_rfl) (by kernel_rfl) R<|Jl1 (κ:=K119) (E:=(Ep.own E6 2)) (z:=(([]:List Int):(List Int))) 6 R R R R R R R Y31 bQ R R R R R (λ_ _ _=>⟨none,0,R,Ow.nil⟩) (Ju2 hx20) λaa ac w122 K123 S124 f125=>⟨((T3 S99 S120 S124).cl R),Jf R (bK (parts:=[(0,.tmp 13),(1,.tmp 15),(2,.tmp 18),(3,.tmp 20),(4,.tmp 22)]) (cells:=[.slice aj p0.Arena.Owner.length af,.slice ah p0.Prio.length ak,.slice ae p0.Arena.Next.length ai,.slice aa x20.length ac,.slice ab x22.length ad]) R R (by kernel_rfl))<|Jv3 (κ:=K123) 4 (vc:=[.slice aj p0.Arena.Owner.length af,.slice ah p0.Prio.length ak,.slice ae p0.Arena.Next.length ai,.slice aa x20.length ac,.slice ab x22.length ad]) R Z210 R (f100.stp<|S120.tr S124) R λw127 S128 f129=>⟨((T4 S99 S120 S124 S128).cl R),Jp1<|Jr1 [] (by kernel_rfl) (by kernel_rfl) R<|Jo<|Jw1 _ ⟨(λb=>ren [(6,4),(4,6)]<|K123 b),b4,aj,af,ah,ak,ae,ai,aa,ac,ab,ad,R,(Jy2 ((T5 S21 S99 S120 S124 S128).wk R) [(6,4),(4,6)] R),((g0_0_0.stp<|T4 S006 S120 S124 S128).map (ren [(6,4),(4,6)]) R R),((g0_1.stp<|T4 S006 S120 S124 S128).map (ren [(6,4),(4,6)]) R R),((g0_0_1.stp<|T4 S006 S120 S124 S128).map (ren [(6,4),(4,6)]) R R),((f125.stp S128).map (ren [(6,4),(4,6)]) R R),((f121.stp<|S124.tr S128).map (ren [(6,4),(4,6)]) R R),(f129.map (ren [(6,4),(4,6)]) R R)⟩<|KM R⟩⟩⟩
 rintro _ w10 ⟨K11,b4,ar,aq,aw,au,ap,av,am,al,an,ao,rfl,S12,f14,f15,f16,f17,f18,f19⟩
 refine Jp<|Jq<|Je3 R ?_
 have hN135:(p0.Prio.length:Int)<=9223372036854775807:=g0_1.len_le
 refine Ob h λq2 hq137 hK136=>?_
 clear h
 refine Jo3 [2,4] (λE L w'=>∃κ',∃s3:(List<|List Int)×(List Int),L=E/\Stp [4,5,8] K11 w10 κ' w'/\Oc (Ep.own E6 2) 37 κ' w' 4 am al s3.1/\((⟨p0.Arena.Owner,p0.Prio,p0.Arena.Next,x20,x22⟩:l7Game).prev).length=s3.1.length/\Oc E6 2 κ' w' 5 an ao s3.2/\((⟨p0.Arena.Owner,p0.Prio,p0.Arena.Next,x20,x22⟩:l7Game).pick).length=s3.2.length/\q2=yD s3) ?_ ?_
 refine Jv<|Jp3 [1,2,3,4] (λk E L w'=>∃κ' v5,∃s1:(List<|List Int)×(List Int),L=(5,vi v5)::E/\Stp [4,5,8] K11 w10 κ' w'/\Oc (Ep.own E6 2) 37 κ' w' 4 am al s1.1/\((⟨p0.Arena.Owner,p0.Prio,p0.Arena.Next,x20,x22⟩:l7Game).prev).length=s1.1.length/\Oc E6 2 κ' w' 5 an ao s1.2/\((⟨p0.Arena.Owner,p0.Prio,p0.Arena.Next,x20,x22⟩:l7Game).pick).length=s1.2.length/\0<=v5/\yG ((p0.Prio.length:Int)-v5)=k/\cntM (kZ p0) k v5 s1=some q2) ⟨_,_,⟨K11,0,(((⟨p0.Arena.Owner,p0.Prio,p0.Arena.Next,x20,x22⟩:l7Game).prev:(List<|List Int)),((⟨p0.Arena.Owner,p0.Prio,p0.Arena.Next,x20,x22⟩:l7Game).pick:(List Int))),R,Jj3,f17,R,f18,R,(by decide),(by simp),hq137⟩,(KM R)⟩ ?_
 rintro k _ w145 ⟨K146,v5,s1,rfl,S147,f148,hn149,f150,hn151,hj135,hJ135,h⟩
 rcases k with _ | k
 have hk152:=h;obtain⟨o135,h⟩:=bT (yD (yE s1):l7Game⊕(((List (List Int))×(List Int))⊕((List (List Int))×(List Int))))
 have hc135:decide (v5<(p0.Prio.length:Int))=false:=Jo2 (by omega)
 refine Jq<|Je3 R<|Jw2 R hc135<|Jc1<|Jt<|Jt ?_
 cases h
 have h:=hk152
 refine Jb1 ?_
 cases h
 exact Jw1 _ ⟨K146,(s1.1,s1.2),R,S147.wk R,f148,hn149,f150,hn151,R⟩<|KM R
 obtain⟨o135,h,hk152⟩:=BI h;unfold kZ at h
 have hc135:decide (v5<(p0.Prio.length:Int))=true:=Jn2 (by omega)
 refine Jq<|Je3 R<|Jv2 R hc135<|Js<|Jp<|Jq<|Jv<|Je [2,1,2,2,1] R<|Jd3 R U210 R Z37 ?_
 have f153:=f19.stp S147
 refine Jb3 R I37 (f153.ld 4 R R)<|Jn 1 R<|Ob h λx32 hx32 h=>Jf R (Jf2 f150.rdc hx32 U37 Z2 R R hn151 R)<|Ob h λy367 hy367 h=>Jk1 (κ:=K146) (E:=E6) 5 [] R R R R R R R R Z2 R R R R f150 hy367 λw154 K155 S156 f157=>Tv<|?_
 have hn158:((⟨p0.Arena.Owner,p0.Prio,p0.Arena.Next,x20,x22⟩:l7Game).pick).length=y367.length:=hn151.trans (Jt2 hy367).2.2.2.symm
 refine Jd<|Je3 R<|Ob h λq5 hq161 hK160=>?_
 clear h
 refine Jo3 [1,2,3,4,5] (λE L w'=>∃κ',∃s6:Int×(List<|List Int),L=E/\Stp [4,8] K155 w154 κ' w'/\Oc (Ep.own E6 2) 37 κ' w' 4 am al s6.2/\((⟨p0.Arena.Owner,p0.Prio,p0.Arena.Next,x20,x22⟩:l7Game).prev).length=s6.2.length/\q5=yD s6) ?_ ?_
 refine Jv<|Jp3 [1,2,3,4,5] (λk E L w'=>∃κ',∃s4:Int×(List<|List Int),L=(6,vi s4.1)::E/\Stp [4,8] K155 w154 κ' w'/\Oc (Ep.own E6 2) 37 κ' w' 4 am al s4.2/\((⟨p0.Arena.Owner,p0.Prio,p0.Arena.Next,x20,x22⟩:l7Game).prev).length=s4.2.length/\ca (kP p0 v5) k s4=some q5) ⟨_,_,⟨K155,((0:Int),s1.1),R,Jj3,(f148.stp S156),hn149,hq161⟩,(KM R)⟩ ?_
 rintro k _ w167 ⟨K168,s4,rfl,S169,f170,hn171,h⟩
 rcases k with _ | k
 cases h
 obtain⟨o159,h,hk173⟩:=BI h;unfold kP at h
 refine Jq<|Jg3 [2,2,2,1,2,2,1,2,2] 1 R<|Jd3 R U79 R Z75<|Jd3 R U75 R Z31 ?_
 have f174:=f9.stp (T4 S12 S147 S156 S169)
 refine Jb3 R I31 (f174.ld 1 R R)<|Jn 1 R<|Ob h λx38 hx38 h=>Jc3 R g0_0_1 hx38 U31 Z37 ?_
 have f175:=g0_0_1.stp (T6 S3 S7 S12 S147 S156 S169)
 obtain⟨ax38,ux38,f176,hl177⟩:=f175.gSl hx38
 refine Jb3 R I37 hl177<|Jn3 R U37 R R<|Jb 1 R ?_
 revert h
 cases ht178:decide (s4.1<(x38.length:Int))
 refine JF λh=>Jy R<|Jc1<|Jt<|Jt ?_
 cases h
 have h:=hk173
 refine Jb1 ?_
 cases h
 exact Jw1 _ ⟨K168,(s4.1,s4.2),R,S169.wk R,f170,hn171,R⟩<|KM R
 refine JT λh=>Jx R<|Js<|Jp<|Jq<|Jv<|Je [2,2,1,2,2,1,2,2,1,2] R<|Jd3 R U79 R Z75<|Jd3 R U75 R Z31<|Jb3 R I31 (f174.ld 1 R R)<|Jn 1 R<|Ob h λx48 hx48 h=>Jc3 R f175 hx48 U31 Z37 ?_
 obtain⟨ax48,ux48,f179,hl180⟩:=f175.gSl hx48
 refine Jb3 R I37 hl180<|Jn 1 R<|Ob h λx51 hx51 h=>Jc3 R f179 hx51 U37 Z2<|Jb3 R I2 (f179.gInt hx51)<|Jb 1 R<|Ob h λx59 hx59 h=>Ob h λx63 hx63 h=>Ob h λx64 hx64 h=>Ob h λy369 hy369 h=>Jo3 [1,2,3,4,5,6] (λE L w'=>∃κ',L=E/\Stp [4,8] K168 w167 κ' w'/\Oc (Ep.own E6 2) 37 κ' w' 4 am al y369/\((⟨p0.Arena.Owner,p0.Prio,p0.Arena.Next,x20,x22⟩:l7Game).prev).length=y369.length) ?_ ?_
 refine WC.rxt (κ:=K168) [0,4,6] (some 10) (by kernel_rfl) λw187 S188=>Jq1 (fuel:=5) [(0,2),(2,2),(3,2),(5,2),(8,2),(4,0),(6,2),(7,0)] (by kernel_rfl) (by kernel_rfl) R<|Jd3 R U210 R Z31<|Jn 1 R<|Jd3 R U210 R Z31<|Jn 2 R ?_
 have f189:=f153.stp (T3 S156 S169 S188)
 refine Jg R (Jc2 I31 R R<|hvC (f189.ld 3 R R) R)<|Jf R (Jf2 f170.rdc hx59 U31 Z37 R R hn171 R) ?_
 have f190:=f170.stp S188
 obtain⟨ax59,ux59,f191,hl192⟩:=f190.rdc.gSl hx59
 refine Jg R (Jc2 I37 R R<|hvC hl192 R)<|Jp1<|WA.fork2 (fuel:=4) 1 9 (by kernel_rfl) R ?_ ?_
 refine Jb4 (Cl.refl _ _ _) R (Jc2 I31 R R<|hvE<|f189.ld 3 R R)<|Jp1<|Jq1 (fuel:=3) [(9,1)] (by kernel_rfl) (by kernel_rfl) R<|Jw3 (κ:=K168) (E:=E6) 7 [] (parts:=[(0,.tmp 61)]) (cells:=[vi v5]) (xs:=([v5]:List Int)) R Y37 bG R ⟨[vi v5],[],Zl K168 w187 [],Zl K168 w187 [],R,Zl.sp (l1:=[]) (l2:=[]) R,Zl.sr (l1:=[]) (l2:=[]),R,R⟩ λaA az w193 K194 S195 f196=>⟨(S195.cl R),Jp1<|WA.brk (fuel:=2) 10 (by kernel_rfl) R (by kernel_rfl) ?_⟩
 have f197:=f190.stp S195
 obtain⟨K198,S199,f200,f201⟩:=f197.borrow hx59 (hl192 _ (Stp.ag S195 R)) 8 R R
 refine Jy3 (κ:=K198) (E:=E6) 8 [] R Y37 bG R f200 (Sl.srcP (bP _) (f196.stp S199).rdc) bI hx63 R λay ax w203 K204 S205 f206=>Tv<|Jp1<|Jq1 (fuel:=0) [(11,2),(12,1)] (by kernel_rfl) (by kernel_rfl) R<|Jf R (Jf2 f197.rdc hx64 U31 Z37 R R hn171 R)<|WO.stH (κ:=K204) (E:=(Ep.own E6 2)) 4 [8] R R R R R R R R Z37 R ⟨_,_,R,f206⟩ R R (f201.stp S205) hy369 λw208 K209 S210 f211=>Tv<|?_
 have hn212:((⟨p0.Arena.Owner,p0.Prio,p0.Arena.Next,x20,x22⟩:l7Game).prev).length=y369.length:=hn171.trans (Jt2 hy369).2.2.2.symm
 exact Jp1<|Jr1 [] (by kernel_rfl) (by kernel_rfl) R<|Jo<|Jw1 _ ⟨K209,R,(T5 S188 S195 S199 S205 S210).wk R,f211,hn212⟩<|KM R
 refine Jw3 (κ:=K168) (E:=E6) 7 [] (parts:=[(0,.tmp 61)]) (cells:=[vi v5]) (xs:=([v5]:List Int)) R Y37 bG R ⟨[vi v5],[],Zl K168 w187 [],Zl K168 w187 [],R,Zl.sp (l1:=[]) (l2:=[]) R,Zl.sr (l1:=[]) (l2:=[]),R,R⟩ λaA az w213 K214 S215 f216=>⟨(S215.cl R),Jp1<|WA.forkB2r (fuel:=3) 1 10 (by kernel_rfl) R (by kernel_rfl) ?_ ?_⟩
 refine Jb4 (S215.cl R) R (Jc2 I31 R R<|hvE ((f189.stp S215).ld 3 R R))<|Jp1<|WA.brk (fuel:=2) 10 (by kernel_rfl) R (by kernel_rfl) ?_
 have f218:=f190.stp S215
 obtain⟨K219,S220,f221,f222⟩:=f218.borrow hx59 (hl192 _ (Stp.ag S215 R)) 8 R R
 refine Jy3 (κ:=K219) (E:=E6) 8 [] R Y37 bG R f221 (Sl.srcP (bP _) (f216.stp S220).rdc) bI hx63 R λay ax w224 K225 S226 f227=>Tv<|Jp1<|Jq1 (fuel:=0) [(11,2),(12,1)] (by kernel_rfl) (by kernel_rfl) R<|Jf R (Jf2 f218.rdc hx64 U31 Z37 R R hn171 R)<|WO.stH (κ:=K225) (E:=(Ep.own E6 2)) 4 [8] R R R R R R R R Z37 R ⟨_,_,R,f227⟩ R R (f222.stp S226) hy369 λw229 K230 S231 f232=>Tv<|?_
 have hn233:((⟨p0.Arena.Owner,p0.Prio,p0.Arena.Next,x20,x22⟩:l7Game).prev).length=y369.length:=hn171.trans (Jt2 hy369).2.2.2.symm
 exact Jp1<|Jr1 [] (by kernel_rfl) (by kernel_rfl) R<|Jo<|Jw1 _ ⟨K230,R,(T5 S188 S215 S220 S226 S231).wk R,f232,hn233⟩<|KM R
 have f234:=f190.stp S215
 obtain⟨K235,S236,f237,f238⟩:=f234.borrow hx59 (hl192 _ (Stp.ag S215 R)) 8 R R
 refine Jy3 (κ:=K235) (E:=E6) 8 [] R Y37 bG R f237 (Sl.srcP (bP _) (f216.stp S236).rdc) bI hx63 R λay ax w240 K241 S242 f243=>Tv<|Jp1<|Jq1 (fuel:=0) [(1,1),(11,2),(12,1)] (by kernel_rfl) (by kernel_rfl) R<|Jb3 R I31 ((f189.stp<|T3 S215 S236 S242).ld 3 R R)<|Jf R (Jf2 f234.rdc hx64 U31 Z37 R R hn171 R)<|WO.stH (κ:=K241) (E:=(Ep.own E6 2)) 4 [8] R R R R R R R R Z37 R ⟨_,_,R,f243⟩ R R (f238.stp S242) hy369 λw246 K247 S248 f249=>Tv<|?_
 have hn250:((⟨p0.Arena.Owner,p0.Prio,p0.Arena.Next,x20,x22⟩:l7Game).prev).length=y369.length:=hn171.trans (Jt2 hy369).2.2.2.symm
 exact Jp1<|Jr1 [] (by kernel_rfl) (by kernel_rfl) R<|Jo<|Jw1 _ ⟨K247,R,(T5 S188 S215 S236 S242 S248).wk R,f249,hn250⟩<|KM R
 rintro _ w181 ⟨K182,rfl,S183,f185,hn186⟩
 refine Jz<|Jp<|Jf3 R ?_
 cases h
 exact Jz1 λa ha=>⟨k,_,Ja3 _,⟨K182,(((IntKind.i64.wrap<|s4.1+1):Int),y369),R,(S169.tr S183).wk R,f185,hn186,hk173⟩,(ha.mm R)⟩
 rintro _ w162 ⟨K163,s6,rfl,S164,f165,hn166,rfl⟩
 have h:=yI hK160
 refine Jz<|Jp<|Jf3 R ?_
 have hw135:yC .i64 (v5+1)=v5+1:=wr1 hj135 (Jm2 hc135) hN135
 rw[hw135]
 have hc135:=Jm2 hc135
 cases h
 exact Jz1 λa ha=>⟨k,_,Ja3 _,⟨K163,v5+1,(s6.2,y367),R,(T3 S147 S156 S164).wk R,f165,hn166,(f157.stp S164),hn158,by omega,by omega,hk152⟩,(ha.mm R)⟩
 rintro _ w138 ⟨K139,s3,rfl,S140,f141,hn142,f143,hn144,rfl⟩
 have h:=yI hK136
 refine Jp<|Je [1,1] R<|Jb4 tv R (Jc4 (haE (f19.stp S140).cells) I210 Z210 R)<|Jv3 (κ:=K139) 3 (vc:=[.slice ar ((⟨p0.Arena.Owner,p0.Prio,p0.Arena.Next,x20,x22⟩:l7Game).owner).length aq,.slice aw ((⟨p0.Arena.Owner,p0.Prio,p0.Arena.Next,x20,x22⟩:l7Game).prio).length au,.slice ap ((⟨p0.Arena.Owner,p0.Prio,p0.Arena.Next,x20,x22⟩:l7Game).next).length av,.slice am ((⟨p0.Arena.Owner,p0.Prio,p0.Arena.Next,x20,x22⟩:l7Game).prev).length al,.slice an ((⟨p0.Arena.Owner,p0.Prio,p0.Arena.Next,x20,x22⟩:l7Game).pick).length ao]) R Z210 R (f8.stp<|S12.tr S140) R λw254 S255 f256=>Tv<|Jd<|Ju<|Ja2 (l:=[.cell 2 210]) V201 (bM R f256 I210 Z210 R R) R ?_
 cases h
 have S007:=(S140.tr S255)
 exact⟨(λb=>ren [(4,5),(5,6)]<|K139 b),ar,aq,aw,au,ap,av,am,al,an,ao,(by simp only[hn142,hn144]),((hE.stp<|T5 S3 S7 S12 S140 S255).map (ren [(4,5),(5,6)]) R R),((f14.stp S007).map (ren [(4,5),(5,6)]) R R),((f15.stp S007).map (ren [(4,5),(5,6)]) R R),((f16.stp S007).map (ren [(4,5),(5,6)]) R R),((f141.stp S255).map (ren [(4,5),(5,6)]) R R),((f143.stp S255).map (ren [(4,5),(5,6)]) R R)⟩
theorem tk {p0:Int}{a1 u1}{p1:(List Int)}(g1:Rd (Rp.int .i64) κ w 0 a1 u1 p1){r:(List Bool)}(h:mt p0 p1=some r):Ret Tryz.prog 248 [vi p0,.slice a1 p1.length u1] w (Pvs Ep.bool 4 κ w r):=by
 unfold mt at h
 refine Jk3 κ F248 R N248 R λhE=>Je3 R<|Jg3 [2,1,2] 1 R<|Ob h λx8 hx8 h=>Jl1 (κ:=κ) (E:=Ep.bool) (z:=(false:Bool)) 2 R R R R R R R Y178 du R R R R R (λ_ _ _=>R) (Ju2 hx8) λa8 u8 w1 K2 S3 f4=>Tv<|Jb 1 R<|Jq<|Je3 R ?_
 have hN5:(p1.length:Int)<=9223372036854775807:=g1.len_le
 refine Ob h λq2 hq7 hK6=>?_
 clear h
 refine Jo3 [5] (λE L w'=>∃κ',∃s3:(List Bool),L=E/\Stp [2] K2 w1 κ' w'/\Oc Ep.bool 4 κ' w' 2 a8 u8 s3/\x8.length=s3.length/\q2=yD s3) ?_ ?_
 refine Jv<|Jp3 [1,5] (λk E L w'=>∃κ' v6,∃s1:(List Bool),L=(6,vi v6)::E/\Stp [2] K2 w1 κ' w'/\Oc Ep.bool 4 κ' w' 2 a8 u8 s1/\x8.length=s1.length/\0<=v6/\yG ((p1.length:Int)-v6)=k/\cntM (jg p1) k v6 s1=some q2) ⟨_,_,⟨K2,0,x8,R,Jj3,f4,R,(by decide),(by simp),hq7⟩,(KM R)⟩ ?_
 rintro k _ w13 ⟨K14,v6,s1,rfl,S15,f16,hn17,hj5,hJ5,h⟩
 rcases k with _ | k
 have hk18:=h;obtain⟨o5,h⟩:=bT (yD (yE s1):(List Bool)⊕(((List Bool))⊕((List Bool))))
 have hc5:decide (v6<(p1.length:Int))=false:=Jo2 (by omega)
 refine Jq<|Jg3 [2,2,2,2] 2 R<|Jn3 R U37 R R<|Jb 1 R<|Jw2 R hc5<|Jc1<|Jt<|Jt ?_
 cases h
 have h:=hk18
 refine Jb1 ?_
 cases h
 exact Jw1 _ ⟨K14,s1,R,S15.wk R,f16,hn17,R⟩<|KM R
 obtain⟨o5,h,hk18⟩:=BI h;unfold jg at h
 have hc5:decide (v6<(p1.length:Int))=true:=Jn2 (by omega)
 refine Jq<|Jg3 [2,2,2,2] 2 R<|Jn3 R U37 R R<|Jb 1 R<|Jv2 R hc5<|Js<|Jp<|Jq<|Jv<|Jh3 [2,2,2,2,1,2,1] 3 R<|Ob h λx18 hx18 h=>Jc3 R g1 hx18 U37 Z2<|Jb3 R I2 ((g1.stp<|S3.tr S15).gInt hx18)<|Ob h λx20 hx20 h=>Jf R (Jf2 f16.rdc hx20 U178 Z4 R R hn17 R)<|Ob h λy372 hy372 h=>Jk1 (κ:=K14) (E:=Ep.bool) 2 [] R R R R R R R R Z4 R R R R f16 hy372 λw20 K21 S22 f23=>Tv<|?_
 have hn24:x8.length=y372.length:=hn17.trans (Jt2 hy372).2.2.2.symm
 refine Jo<|Jz<|Jp<|Jf3 R ?_
 have hw5:yC .i64 (v6+1)=v6+1:=wr1 hj5 (Jm2 hc5) hN5
 rw[hw5]
 have hc5:=Jm2 hc5
 cases h
 exact Jz1 λa ha=>⟨k,_,Ja3 _,⟨K21,v6+1,y372,R,(S15.tr S22).wk R,f23,hn24,by omega,by omega,hk18⟩,(ha.mm R)⟩
 rintro _ w8 ⟨K9,s3,rfl,S10,f11,hn12,rfl⟩
 have h:=yI hK6
 refine Jp<|Je3 R<|Ju<|Ja2 (l:=[.tmp 4]) V248 (Jp2 R R) R ?_
 cases h
 exact⟨K9,a8,u8,(by simp only[hn12]),(hE.stp<|S3.tr S10),f11⟩
theorem nF {a0 u0}{p0:(List Int)}{p1:Int}(g0:Rd (Rp.int .i64) κ w 0 a0 u0 p0){r:Int}(h:jA p0 p1=some r):Ret Tryz.prog 56 [.slice a0 p0.length u0,vi p1] w (Pvi κ w r):=by
 unfold jA at h
 refine Jk3 κ F56 R N56 R λhE=>Je3 R<|Jq<|Je3 R ?_
 have hN1:(p0.length:Int)<=9223372036854775807:=g0.len_le
 refine Ob h λq2 hq3 hK2=>?_
 clear h
 refine Jx1 (λL w'=>∃κ',L=[]/\Stp [] κ w κ' w'/\q2=yD ()) ?_ ?_
 refine Jv<|Jp3 [0,1] (λk E L w'=>∃κ' v5,L=(5,vi v5)::E/\Stp [] κ w κ' w'/\0<=v5/\yG ((p0.length:Int)-v5)=k/\cntM (ie p0 p1) k v5 ()=some q2) ⟨_,_,⟨κ,0,R,Jj3,(by decide),(by simp),hq3⟩,(KM R)⟩ ?_
 rintro k _ w7 ⟨K8,v5,rfl,S9,hj1,hJ1,h⟩
 rcases k with _ | k
 have hk10:=h;obtain⟨o1,h⟩:=bT (yD (yE ()):Int⊕((Unit)⊕(Unit)))
 have hc1:decide (v5<(p0.length:Int))=false:=Jo2 (by omega)
 refine Jq<|Jg3 [2,2,2,2] 2 R<|Jn3 R U37 R R<|Jb 1 R<|Jw2 R hc1<|Jc1<|Jt<|Jt ?_
 cases h
 have h:=hk10
 refine Jb1 ?_
 cases h
 exact Jw1 _ ⟨K8,R,S9.wk R,R⟩ KN
 obtain⟨o1,h,hk10⟩:=BI h;unfold ie at h
 have hc1:decide (v5<(p0.length:Int))=true:=Jn2 (by omega)
 refine Jq<|Jg3 [2,2,2,2] 2 R<|Jn3 R U37 R R<|Jb 1 R<|Jv2 R hc1<|Js<|Jp<|Jq<|Jv<|Jg3 [2,2,2,1,2,2] 2 R<|Ob h λx14 hx14 h=>Jc3 R g0 hx14 U37 Z2<|Jb3 R I2 ((g0.stp S9).gInt hx14)<|Jb 2 R ?_
 revert h
 cases ht12:(x14==p1)
 refine JF λh=>Jy R<|Js<|Jz<|Jp<|Jf3 R ?_
 have hw1:yC .i64 (v5+1)=v5+1:=wr1 hj1 (Jm2 hc1) hN1
 rw[hw1]
 have hc1:=Jm2 hc1
 cases h
 exact Jz1 λa ha=>⟨k,_,Ja3 _,⟨K8,v5+1,R,S9.wk R,by omega,by omega,hk10⟩,(ha.mm R)⟩
 refine JT λh=>Jx R<|Je3 R<|Ju<|Ja1<|Jw<|Jw ?_
 cases h
 obtain rfl:=Option.some.inj hk10
 have h:=yL hK2
 refine Ja1<|Jq2<|Jw<|Ja2 (l:=[.tmp 4]) V56 (Jp2 R R) R ?_
 cases h
 exact⟨K8,R,(hE.stp S9)⟩
 rintro _ w4 ⟨K5,rfl,S6,rfl⟩
 have h:=yI hK2
 refine Jp<|Je3 R<|Ju<|Ja2 (l:=[.tmp 4]) V56 (Jp2 R R) R ?_
 cases h
 exact⟨K5,R,(hE.stp S6)⟩
end Go.Proofs.YtleekpaohfpooaaGreat
