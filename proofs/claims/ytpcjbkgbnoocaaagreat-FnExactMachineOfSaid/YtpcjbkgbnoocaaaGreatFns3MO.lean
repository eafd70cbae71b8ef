/- The walks, part 3. By program. -/
import Derived.Test.YtpcjbkgbnoocaaaGreatFns0MO
import Derived.Test.YtpcjbkgbnoocaaaGreatFns1MO
import Derived.Test.YtpcjbkgbnoocaaaGreatFns2MO
set_option linter.unusedVariables false
set_option linter.unusedSimpArgs false
open Go.IntKind renaming wrap → t0
open Sum renaming inr → xe, inl → xf
open Int renaming toNat → xh
namespace Go.Proofs.YtpcjbkgbnoocaaaGreat
open Go Go.Wk Go.Proofs
set_option maxRecDepth 100000
set_option maxHeartbeats 1000000
variable {w:World}{κ:Col}
theorem qa {ab aa ac ad}{p0:Clause}{p1:Int}(g0_1:Rd (Rp.int .i64) κ w 0 ab aa p0.A) (g0_2:Rd (Rp.int .i64) κ w 0 ac ad p0.B){r:Int}(h:kb p0 p1=some r):Ret Tryz.prog 67 [.agg #[vi p0.Kind,.slice ab p0.A.length aa,.slice ac p0.B.length ad],vi p1] w (Pvi κ w r):=by
 unfold kb at h
 refine Jk3 κ F67 R N67 R λhE=>Je [1,2] R<|Jf1 (κ:=κ) 2 R R R R R R R λb2 w1 K2 S3 f4=>Tv<|Jb 1 R<|Je [2,1,2,1,2] R<|Jd3 R U97 R Z29<|Jb3 R I29 (f4.ld 1 R R)<|Jn 1 R<|Ob h λx8 hx8 h=>Jh R R R C113 (mJ (κ:=Mk K2) (Ji3<|g0_1.stp S3 R R) hx8) ?_
 rintro _ w6 ⟨k7,rfl,e8⟩
 obtain⟨K9,S10,m11⟩:=Ji e8 3 R
 refine Tv<|Jb 1 R<|Jq<|Je3 R ?_
 revert h
 cases ht13:decide (x8<0)
 refine JF λh=>Jy R<|Js<|Jp<|Je [2,1,2,1,2] R<|Jd3 R U97 R Z29<|Jb3 R I29 ((f4.stp S10 R R).ld 2 R R)<|Jn 1 R<|Ob h λx14 hx14 h=>Jh R R R C113 (mJ (κ:=Mk K9) (Ji3<|g0_2.stp (S3.tr S10) R R) hx14) ?_
 rintro _ w17 ⟨k18,rfl,e19⟩
 obtain⟨K20,S21,m22⟩:=Ji e19 5 R
 refine Tv<|Jb 1 R<|Jq<|Je3 R ?_
 revert h
 cases ht24:decide (x14<0)
 refine JF λh=>Jy R<|Js<|Jp<|Je3 R<|Ju<|Ja2 (l:=[.tmp 4]) V67 (Jp2 R R) R ?_
 cases h
 exact⟨K20,R,(hE.stp (T3 S3 S10 S21) R R)⟩
 refine JT λh=>Jx R<|Je3 R<|Ju<|Jw<|Ja2 (l:=[.tmp 4]) V67 (Jp2 R R) R ?_
 cases h
 exact⟨K20,R,(hE.stp (T3 S3 S10 S21) R R)⟩
 refine JT λh=>Jx R<|Je3 R<|Ju<|Jw<|Ja2 (l:=[.tmp 4]) V67 (Jp2 R R) R ?_
 cases h
 exact⟨K9,R,(hE.stp (S3.tr S10) R R)⟩
theorem qW {ab aa ac ad}{p0:Clause}{p1:Int}{p2:Int}(g0_1:Rd (Rp.int .i64) κ w 0 ab aa p0.A) (g0_2:Rd (Rp.int .i64) κ w 0 ac ad p0.B){r:Int}(h:kX p0 p1 p2=some r):Ret Tryz.prog 167 [.agg #[vi p0.Kind,.slice ab p0.A.length aa,.slice ac p0.B.length ad],vi p1,vi p2] w (Pvi κ w r):=by
 unfold kX at h
 refine Jk3 κ F167 R N167 R λhE=>Je [1,2] R<|Jf1 (κ:=κ) 2 R R R R R R R λb3 w1 K2 S3 f4=>Tv<|Jb 1 R<|Je [2,1,2,1,1,2] R<|Jd3 R U119 R Z29<|Jb3 R I29 (f4.ld 1 R R)<|Jn 1 R<|Ob h λx12 hx12 h=>Jh R R R C201 (lm (κ:=Mk K2) (Ji3<|g0_1.stp S3 R R) hx12) ?_
 rintro _ w6 ⟨k7,rfl,e8⟩
 obtain⟨K9,S10,m11⟩:=Ji e8 3 R
 refine Tv<|Ob h λx13 hx13 h=>Jh R R R C200 (lY (κ:=Mk K9) hx13) ?_
 rintro _ w13 ⟨k14,rfl,e15⟩
 obtain⟨K16,S17,m18⟩:=Ji e15 5 R
 refine Tv<|Jb 1 R<|Je [2,1,2,1,1,2] R<|Jd3 R U119 R Z29 ?_
 have f20:=f4.stp (S10.tr S17) R R
 refine Jb3 R I29 (f20.ld 2 R R)<|Jn 1 R<|Ob h λx17 hx17 h=>Jh R R R C201 (lm (κ:=Mk K16) (Ji3<|g0_2.stp (T3 S3 S10 S17) R R) hx17) ?_
 rintro _ w22 ⟨k23,rfl,e24⟩
 obtain⟨K25,S26,m27⟩:=Ji e24 7 R
 refine Tv<|Ob h λx18 hx18 h=>Jh R R R C200 (lY (κ:=Mk K25) hx18) ?_
 rintro _ w29 ⟨k30,rfl,e31⟩
 obtain⟨K32,S33,m34⟩:=Ji e31 9 R
 refine Tv<|Jb 1 R<|Jq<|Je [2,1] R<|Jd3 R U119 R Z2<|Jb3 R I2 ((f20.stp (S26.tr S33) R R).ld 0 R R)<|Jd<|Jv<|Je3 R ?_
 revert h
 cases ht37:(p0.Kind==1)
 refine JF λh=>Jy R<|Je3 R ?_
 revert h
 cases ht46:(p0.Kind==2)
 refine JF λh=>Jy R<|Je3 R ?_
 revert h
 cases ht60:(p0.Kind==3)
 refine JF λh=>Jy R<|Je3 R ?_
 revert h
 cases ht71:(p0.Kind==4)
 refine JF λh=>Jy R<|Je3 R ?_
 revert h
 cases ht73:(p0.Kind==5)
 refine JF λh=>Jy R<|Je3 R ?_
 revert h
 cases ht75:(p0.Kind==6)
 refine JF λh=>Jy R<|Js<|Jz<|Jp<|Je3 R<|Ju<|Ja2 (l:=[.tmp 6]) V167 (Jp2 R R) R ?_
 cases h
 exact⟨K32,R,(hE.stp (T5 S3 S10 S17 S26 S33) R R)⟩
 refine JT λh=>Jx R<|Jg3 [2,2,1,2] 2 R<|Ob h λx58 hx58 h=>Jh R R R C159 (la (κ:=Mk K32) hx58) ?_
 rintro _ w76 ⟨k77,rfl,e78⟩
 obtain⟨K79,S80,m81⟩:=Ji e78 11 R
 refine Tv<|Jb 1 R<|Ju<|Ja1<|Jw<|Ja2 (l:=[.tmp 6]) V167 (Jp2 R R) R ?_
 cases h
 exact⟨K79,R,(hE.stp (T6 S3 S10 S17 S26 S33 S80) R R)⟩
 refine JT λh=>Jx R<|Je3 R<|Ju<|Ja1<|Jw<|Ja2 (l:=[.tmp 6]) V167 (Jp2 R R) R ?_
 cases h
 exact⟨K32,R,(hE.stp (T5 S3 S10 S17 S26 S33) R R)⟩
 refine JT λh=>Jx R<|Je3 R<|Ju<|Ja1<|Jw<|Ja2 (l:=[.tmp 6]) V167 (Jp2 R R) R ?_
 cases h
 exact⟨K32,R,(hE.stp (T5 S3 S10 S17 S26 S33) R R)⟩
 refine JT λh=>Jx R<|Jq<|Je3 R ?_
 revert h
 cases ht61:(x18==1)
 refine JF λh=>Jy R<|Js<|Jp<|Jg3 [2,2,1,2] 2 R<|Ob h λx46 hx46 h=>Jh R R R C159 (la (κ:=Mk K32) hx46) ?_
 rintro _ w63 ⟨k64,rfl,e65⟩
 obtain⟨K66,S67,m68⟩:=Ji e65 11 R
 refine Tv<|Jb 1 R<|Ju<|Ja1<|Jw<|Ja2 (l:=[.tmp 6]) V167 (Jp2 R R) R ?_
 cases h
 exact⟨K66,R,(hE.stp (T6 S3 S10 S17 S26 S33 S67) R R)⟩
 refine JT λh=>Jx R<|Je3 R<|Ju<|Jw<|Ja1<|Jw<|Ja2 (l:=[.tmp 6]) V167 (Jp2 R R) R ?_
 cases h
 exact⟨K32,R,(hE.stp (T5 S3 S10 S17 S26 S33) R R)⟩
 refine JT λh=>Jx R<|Jq<|Jg3 [2,2,2,2,2,2,2,2,2,2] 3 R<|Ob h λp38 h hK47=>Ju1 [(3,2),(4,2),(5,2),(6,2),(7,2),(8,2),(9,2)] [] (λL w'=>L=[(7,vi x13),(38,.bool p38)]/\∃κ',Stp [] K32 w29 κ' w') tv ?_ ?_
 revert h
 cases ht48:(p1==2)
 refine JF λh=>Jn 3 R<|Ob h λp37 h hK49=>Ju1 [(6,2),(7,2),(8,2)] [(9,2)] (λL w'=>L=[(7,vi x13),(31,.bool false),(37,.bool p37)]/\∃κ',Stp [] K32 w29 κ' w') tv ?_ ?_
 revert h
 cases ht50:(p1==1)
 refine JF λh=>Jn 3 R ?_
 cases h
 exact Jv1 _ tv ⟨R,_,Jj3⟩<|KM R
 refine JT λh=>Jn 3 R ?_
 cases h
 exact Jv1 _ tv ⟨R,_,Jj3⟩<|KM R
 rintro _ w51 _ ⟨rfl,K52,S53⟩
 have h:=hK49
 refine Jn 1 R ?_
 cases h
 exact Jv1 _ tv ⟨R,_,S53.wk R⟩<|KM R
 refine JT λh=>Jn 7 R ?_
 cases h
 exact Jv1 _ tv ⟨R,_,Jj3⟩<|KM R
 rintro _ w54 _ ⟨rfl,K55,S56⟩
 have h:=hK47
 refine Jd ?_
 revert h
 cases ht57:p38
 refine JF λh=>Jy R<|Js<|Jp<|Je3 R<|Ju<|Ja1<|Jw<|Ja2 (l:=[.tmp 6]) V167 (Jp2 R R) R ?_
 cases h
 exact⟨K55,R,(hE.stp (T6 S3 S10 S17 S26 S33 S56) R R)⟩
 refine JT λh=>Jx R<|Je3 R<|Ju<|Jw<|Ja1<|Jw<|Ja2 (l:=[.tmp 6]) V167 (Jp2 R R) R ?_
 cases h
 exact⟨K55,R,(hE.stp (T6 S3 S10 S17 S26 S33 S56) R R)⟩
 refine JT λh=>Jx R<|Jg3 [2,2,2,1,2] 3 R<|Ob h λx26 hx26 h=>Jh R R R C159 (la (κ:=Mk K32) hx26) ?_
 rintro _ w38 ⟨k39,rfl,e40⟩
 obtain⟨K41,S42,m43⟩:=Ji e40 11 R
 refine Tv<|Jb 1 R<|Ju<|Ja1<|Jw<|Ja2 (l:=[.tmp 6]) V167 (Jp2 R R) R ?_
 cases h
 exact⟨K41,R,(hE.stp (T6 S3 S10 S17 S26 S33 S42) R R)⟩
theorem qM {a0 u0}{p0:(List Place)}{p1:Int}{a2 u2}{p2:(List Int)}(g0:Rd Place.rp κ w 0 a0 u0 p0) (g2:Rd (Rp.int .i64) κ w 0 a2 u2 p2){r:Int}(h:kU p0 p1 p2=some r):Ret Tryz.prog 122 [.slice a0 p0.length u0,vi p1,.slice a2 p2.length u2] w (Pvi κ w r):=by
 unfold kU at h
 refine Jk3 κ F122 R N122 R λhE=>Je3 R<|Jq<|Je3 R ?_
 have hN1:(p0.length:Int)<=9223372036854775807:=g0.len_le
 refine Ob h λq2 hq3 hK2=>?_
 clear h
 refine Jx1 (λL w'=>∃κ',L=[]/\Stp [] κ w κ' w'/\q2=xe ()) ?_ ?_
 refine Jv<|Jy1 (λk L w'=>∃κ' v7,L=[(0,.slice a0 p0.length u0),(1,vi p1),(2,.slice a2 p2.length u2),(7,vi v7)]/\Stp [] κ w κ' w'/\0<=v7/\xh ((p0.length:Int)-v7)=k/\cntM (ib p0 p1 p2) k v7 ()=some q2) ⟨_,_,⟨κ,0,R,Jj3,(by decide),(by simp),hq3⟩,(KM R)⟩ ?_
 rintro k _ w7 ⟨K8,v7,rfl,S9,hj1,hJ1,h⟩
 rcases k with _ | k
 have hk10:=h;obtain⟨o1,h⟩:=bP (xe (xf ()):Int⊕((Unit)⊕(Unit)))
 have hc1:decide (v7<(p0.length:Int))=false:=Jo2 (by omega)
 refine Jq<|Jg3 [2,2,2,2] 2 R<|Jn3 R U109 R R<|Jb 1 R<|Jw2 R hc1<|Jc1<|Jt<|Jt ?_
 cases h
 have h:=hk10
 refine Jb1 ?_
 cases h
 exact Jw1 _ ⟨K8,R,S9.wk R,R⟩ KN
 obtain⟨o1,h,hk10⟩:=BI h;unfold ib at h
 have hc1:decide (v7<(p0.length:Int))=true:=Jn2 (by omega)
 refine Jq<|Jg3 [2,2,2,2] 2 R<|Jn3 R U109 R R<|Jb 1 R<|Jv2 R hc1<|Js<|Jp<|Jq<|Jv<|Jg3 [2,2,2,2,1,2,2,2,2,2,2,2,1,2,1,2] 2 R<|Ob h λx16 hx16 h=>Jc3 R g0 hx16 U109 Z116<|Jd3 R U116 R Z2 ?_
 have f11:=g0.stp S9 R R
 obtain⟨cse12,hre12,hle12⟩:=(f11).gSt hx16
 obtain⟨ae12_0,ue12_0,rfl,fe12_0⟩:=Place.un hre12
 refine Jb3 R I2 (λw' hw'=>hle12 w' hw' 0 _ R)<|Jn 3 R<|Ob h λp29 h hK13=>Ju1 [(8,2),(9,2),(10,2),(11,2),(12,1),(13,2),(14,1),(15,2)] [] (λL w'=>L=[(0,.slice a0 p0.length u0),(1,vi p1),(2,.slice a2 p2.length u2),(7,vi v7),(29,.bool p29)]/\∃κ',Stp [] K8 w7 κ' w') tv ?_ ?_
 revert h
 cases ht14:(x16.At==p1)
 refine JF λh=>Jn 4 R<|Jd1 R R R R<|Jn 1 R<|Jd1 R R R R<|Jn 1 R ?_
 cases h
 exact Jv1 _ tv ⟨R,_,Jj3⟩<|KM R
 refine JT λh=>Jn 2 R<|Ob h λx24 hx24 h=>Jc3 R f11 hx24 U109 Z116<|Jd3 R U116 R Z29 ?_
 obtain⟨cse15,hre15,hle15⟩:=(f11).gSt hx24
 obtain⟨ae15_0,ue15_0,rfl,fe15_0⟩:=Place.un hre15
 refine Jb3 R I29 (λw' hw'=>hle15 w' hw' 1 _ R)<|Jn 1 R<|Ob h λx28 hx28 h=>Jh R R R C172 (nW (κ:=Mk K8) (Ji3 fe15_0) (Ji3<|g2.stp S9 R R) hx28) ?_
 rintro _ w17 ⟨k18,rfl,e19⟩
 obtain⟨K20,S21,m22⟩:=Ji e19 2 R
 refine Tv<|Jn 1 R ?_
 cases h
 exact Jv1 _ tv ⟨R,_,S21.wk R⟩<|KM R
 rintro _ w24 _ ⟨rfl,K25,S26⟩
 have h:=hK13
 refine Jd ?_
 revert h
 cases ht27:p29
 refine JF λh=>Jy R<|Js<|Jz<|Jp<|Jf3 R ?_
 have hw1:t0 .i64 (v7+1)=v7+1:=wr1 hj1 (Jm2 hc1) hN1
 rw[hw1]
 have hc1:=Jm2 hc1
 cases h
 exact Jz1 λa ha=>⟨k,_,Ja3 _,⟨K25,v7+1,R,(S9.tr S26).wk R,by omega,by omega,hk10⟩,(ha.mm R)⟩
 refine JT λh=>Jx R<|Je3 R<|Ju<|Ja1<|Jw<|Jw ?_
 cases h
 obtain rfl:=Option.some.inj hk10
 have h:=yL hK2
 refine Ja1<|Jq2<|Jw<|Ja2 (l:=[.tmp 6]) V122 (Jp2 R R) R ?_
 cases h
 exact⟨K25,R,(hE.stp (S9.tr S26) R R)⟩
 rintro _ w4 ⟨K5,rfl,S6,rfl⟩
 have h:=yI hK2
 refine Jp<|Je3 R<|Ju<|Ja2 (l:=[.tmp 6]) V122 (Jp2 R R) R ?_
 cases h
 exact⟨K5,R,(hE.stp S6 R R)⟩
theorem qk {aa ak aj ah ad af ai ab ae ac}{p0:l7Game}{a1 u1}{p1:(List Bool)}{p2:Int}(g0_0:Rd (Rp.int .i64) κ w 0 aa ak p0.owner) (g0_1:Rd (Rp.int .i64) κ w 0 aj ah p0.prio) (g0_2:Rd (Rp.sl (Rp.int .i64)) κ w 0 ad af p0.next) (g0_3:Rd (Rp.sl (Rp.int .i64)) κ w 0 ai ab p0.prev) (g0_4:Rd (Rp.int .i64) κ w 0 ae ac p0.pick) (g1:Rd Rp.bool κ w 0 a1 u1 p1){r:Int}(h:j4 p0 p1 p2=some r):Ret Tryz.prog 237 [.agg #[.slice aa p0.owner.length ak,.slice aj p0.prio.length ah,.slice ad p0.next.length af,.slice ai p0.prev.length ab,.slice ae p0.pick.length ac],.slice a1 p1.length u1,vi p2] w (Pvi κ w r):=by
 unfold j4 at h
 refine Jk3 κ F237 R N237 R λhE=>Je [1,2] R<|Jf1 (κ:=κ) 2 R R R R R R R λb3 w1 K2 S3 f4=>Tv<|Jb 1 R<|Je3 R<|Jq<|Je3 R<|Ob h λq2 hq7 hK6=>?_
 clear h
 refine Jx1 (λL w'=>∃κ',∃s3:Int×Int,L=[(7,vi s3.1)]/\Stp [] K2 w1 κ' w'/\q2=xe s3) ?_ ?_
 refine Jv<|Jy1 (λk L w'=>∃κ',∃s1:Int×Int,L=[(1,.slice a1 p1.length u1),(2,vi p2),(3,.pointer (some ⟨b3,0,none⟩)),(7,vi s1.1),(8,vi s1.2)]/\Stp [] K2 w1 κ' w'/\bZ (gf p0 p1 p2) k s1=some q2) ⟨_,_,⟨K2,((0:Int),(0:Int)),R,Jj3,hq7⟩,(KM R)⟩ ?_
 rintro k _ w11 ⟨K12,s1,rfl,S13,h⟩
 rcases k with _ | k
 cases h
 obtain⟨o5,h,hk14⟩:=BI h;unfold gf at h
 refine Jq<|Jg3 [2,2,1,2,2,1,2,2] 1 R<|Jd3 R U191 R Z26 ?_
 have f15:=f4.stp S13 R R
 refine Jb3 R I26 (f15.ld 2 R R)<|Jn 1 R<|Ob h λx14 hx14 h=>Jc3 R g0_2 hx14 U26 Z29 ?_
 have f16:=g0_2.stp (S3.tr S13) R R
 obtain⟨ax14,ux14,f17,hl18⟩:=f16.gSl hx14
 refine Jb3 R I29 hl18<|Jn3 R U29 R R<|Jb 1 R ?_
 revert h
 cases ht19:decide (s1.2<(x14.length:Int))
 refine JF λh=>Jy R<|Jc1<|Jt<|Jt ?_
 cases h
 have h:=hk14
 refine Jb1 ?_
 cases h
 exact Jw1 _ ⟨K12,(s1.1,s1.2),R,S13.wk R,R⟩<|KM R
 refine JT λh=>Jx R<|Js<|Jp<|Jq<|Jv<|Je [2,1,2,2,1,2,2,1,2] R<|Jd3 R U191 R Z26<|Jb3 R I26 (f15.ld 2 R R)<|Jn 1 R<|Ob h λx23 hx23 h=>Jc3 R f16 hx23 U26 Z29 ?_
 obtain⟨ax23,ux23,f20,hl21⟩:=f16.gSl hx23
 refine Jb3 R I29 hl21<|Jn 1 R<|Ob h λx26 hx26 h=>Jc3 R f20 hx26 U29 Z2<|Jb3 R I2 (f20.gInt hx26)<|Jb 1 R<|Jg3 [2,2,2,1,2,1,2,2,1,2] 2 R<|Ob h λx30 hx30 h=>Jc3 R g1 hx30 U193 Z4<|Jb3 R I4 ((g1.stp (S3.tr S13) R R).gBool hx30)<|Jn 1 R<|Ob h λp37 h hK23=>Ju1 [(5,1),(6,2),(7,2),(8,1),(9,2)] [] (λL w'=>L=[(1,.slice a1 p1.length u1),(2,vi p2),(3,.pointer (some ⟨b3,0,none⟩)),(7,vi s1.1),(8,vi s1.2),(37,.bool p37)]/\∃κ',Stp [] K12 w11 κ' w') tv ?_ ?_
 revert h
 cases ht24:x30
 refine JF λh=>Jd1 R R R R<|Jn 2 R<|Jd1 R R R R<|Jn 1 R ?_
 cases h
 exact Jv1 _ tv ⟨R,_,Jj3⟩<|KM R
 have S001:=(S3.tr S13)
 refine JT λh=>Jl tv R R R R (Jd2 (cs:=[.slice aa p0.owner.length ak,.slice aj p0.prio.length ah,.slice ad p0.next.length af,.slice ai p0.prev.length ab,.slice ae p0.pick.length ac]) I191 Z191 R R R<|haE f15.cells)<|Jn 2 R<|Ob h λx36 hx36 h=>Jh R R R C251 (od (κ:=Mk K12) (p0:=p0) (Ji3<|g0_0.stp S001 R R) (Ji3<|g0_1.stp S001 R R) (Ji3 f16) (Ji3<|g0_3.stp S001 R R) (Ji3<|g0_4.stp S001 R R) hx36) ?_
 rintro _ w29 ⟨k30,rfl,e31⟩
 obtain⟨K32,S33,m34⟩:=Ji e31 3 R
 refine Tv<|Jn 1 R ?_
 cases h
 exact Jv1 _ tv ⟨R,_,S33.wk R⟩<|KM R
 rintro _ w36 _ ⟨rfl,K37,S38⟩
 have h:=hK23
 refine Jd<|Ob h λq4 h hK39=>Jx1 (λL w'=>∃κ',L=[(1,.slice a1 p1.length u1),(2,vi p2),(3,.pointer (some ⟨b3,0,none⟩)),(7,vi q4),(8,vi s1.2)]/\Stp [] K37 w36 κ' w') ?_ ?_
 revert h
 cases ht43:p37
 refine JF λh=>Jy R<|Js ?_
 cases h
 exact Jw1 _ ⟨K37,R,Jj3⟩<|KM R
 refine JT λh=>Jx R<|Jf3 R ?_
 cases h
 exact Jw1 _ ⟨K37,R,Jj3⟩<|KM R
 rintro _ w40 ⟨K41,rfl,S42⟩
 have h:=hK39
 refine Jz<|Jp<|Jf3 R ?_
 cases h
 exact Jz1 λa ha=>⟨k,_,Ja3 _,⟨K41,(q4,((IntKind.i64.wrap<|s1.2+1):Int)),R,(T3 S13 S38 S42).wk R,hk14⟩,(ha.mm R)⟩
 rintro _ w8 ⟨K9,s3,rfl,S10,rfl⟩
 have h:=yI hK6
 refine Jp<|Je3 R<|Ju<|Ja2 (l:=[.tmp 6]) V237 (Jp2 R R) R ?_
 cases h
 exact⟨K9,R,(hE.stp (S3.tr S10) R R)⟩
theorem ch {a0 u0}{p0:(List Int)}{p1:Int}(g0:Rd (Rp.int .i64) κ w 0 a0 u0 p0){r:Bool}(h:bQ p0 p1=some r):Ret Tryz.prog 62 [.slice a0 p0.length u0,vi p1] w (Pvb κ w r):=by
 unfold bQ at h
 refine Jk3 κ F62 R N62 R λhE=>Je3 R<|Jg3 [2,2,1,2,2] 2 R<|Ob h λx7 hx7 h=>Jh R R R C63 (gA (κ:=Mk κ) (Ji3 g0) hx7) ?_
 rintro _ w1 ⟨k2,rfl,e3⟩
 obtain⟨K4,S5,m6⟩:=Ji e3 2 R
 refine Tv<|Jb 2 R<|Ju<|Ja2 (l:=[.tmp 4]) V62 (Jp2 R R) R ?_
 cases h
 exact⟨K4,R,(hE.stp S5 R R)⟩
theorem pE {p0:Sig}{bb be aP aY}{p1:Det}(g1_0:Rd (Rp.sl (Rp.int .i64)) κ w 0 bb be p1.Next) (g1_1:Rd Pair.rp κ w 0 aP aY p1.Pairs){r:Arena×(List Pair)}(h:fq p0 p1=some r):Ret Tryz.prog 78 [.agg #[vi p0.In,vi p0.Out],.agg #[.slice bb p1.Next.length be,.slice aP p1.Pairs.length aY]] w (λv w'=>∃(κ':Col) (ra0:Option Addr) (ru0:Nat) (ra1:Option Addr) (ru1:Nat) (ra2:Option Addr) (ru2:Nat),v= .tuple #[.agg #[.slice ra0 r.1.Owner.length ru0,.slice ra1 r.1.Next.length ru1],.slice ra2 r.2.length ru2]/\Ent κ w κ' w'/\Oc E6 2 κ' w' 2 ra0 ru0 r.1.Owner/\Oc (Ep.own E6 2) 29 κ' w' 3 ra1 ru1 r.1.Next/\Oc Pair.ep154 154 κ' w' 4 ra2 ru2 r.2):=by
 unfold fq at h
 refine Jk3 κ F78 R N78 R λhE=>Je [1,1,1,2] R<|Jf1 (κ:=κ) 2 R R R R R R R λb2 w1 K2 S3 f4=>Tv<|Jf1 (κ:=K2) 3 R R R R R R R λb3 w5 K6 S7 f8=>Tv<|Jg1 (κ:=K6) 4 R R R R R X104 R λb4 w9 K10 S11 f12=>Tv<|Jb 1 R<|Je [2,1,1] R<|Jf R (bJ (parts:=[]) (cells:=[.slice none 0 0,.slice none 0 0]) R R (by kernel_rfl))<|Jg1 (κ:=K10) 5 R R R R R X104 R λb6 w13 K14 S15 f16=>Tv<|Jj1 (κ:=K14) 5 (vc:=[.slice none 0 0,.slice none 0 0]) R R R R R R R Z104 R R f16 R λw17 S18 f19=>Tv<|Jd<|Jq<|Js1 (κ:=K14) [2,3] none [(0,2),(1,0),(2,2),(3,0),(4,1),(5,2),(6,2)] [] (by kernel_rfl) (by kernel_rfl) λw21 S20=>Jd3 R U100 R Z26 ?_
 have f22:=f8.stp (T4 S11 S15 S18 S20) R R
 refine Jg R (Jc2 I26 R R<|hvC (f22.ld 0 R R) R)<|Jn3 R U26 R R ?_
 have f23:=f4.stp (T5 S7 S11 S15 S18 S20) R R
 refine Jg R (Jd2 (cs:=[vi p0.In,vi p0.Out]) I25 Z25 R R R<|haC f23.cells R)<|Ob h λx24 hx24 h=>Jh R R R C52 (fN (κ:=Mk K14) (p0:=p0) hx24) ?_
 rintro _ w24 ⟨k25,rfl,e26⟩
 obtain⟨K27,S28,m29⟩:=Ji e26 6 R
 refine⟨(S28.cl R),Jn 2 R<|Jt1<|Jd<|Jq<|Je3 R ?_⟩
 have hN31:(p1.Next.length:Int)<=9223372036854775807:=g1_0.len_le
 refine Ob h λq2 hq33 hK32=>?_
 clear h
 refine Jx1 (λL w'=>∃κ',∃s3:(List Int)×(List<|List Int),∃ay aI aF az,L=[(2,.pointer (some ⟨b2,0,none⟩)),(3,.pointer (some ⟨b3,0,none⟩)),(4,.pointer (some ⟨b4,0,none⟩)),(6,.pointer (some ⟨b6,0,none⟩)),(7,vi (p1.Next.length:Int)),(8,vi x24)]/\Stp [5,8,9,10,12] K27 w24 κ' w'/\Oc E6 2 κ' w' 8 ay aI s3.1/\Oc (Ep.own E6 2) 29 κ' w' 9 aF az s3.2/\Bc κ' w' 5 b6 104 [.slice ay s3.1.length aI,.slice aF s3.2.length az]/\q2=xe s3) ?_ ?_
 refine Jv<|Jy1 (λk L w'=>∃κ' v26,∃s1:(List Int)×(List<|List Int),∃aO aG aj an,L=[(2,.pointer (some ⟨b2,0,none⟩)),(3,.pointer (some ⟨b3,0,none⟩)),(4,.pointer (some ⟨b4,0,none⟩)),(6,.pointer (some ⟨b6,0,none⟩)),(7,vi (p1.Next.length:Int)),(8,vi x24),(25,vi (p1.Next.length:Int)),(26,vi v26)]/\Stp [5,8,9,10,12] K27 w24 κ' w'/\Oc E6 2 κ' w' 8 aO aG s1.1/\Oc (Ep.own E6 2) 29 κ' w' 9 aj an s1.2/\Bc κ' w' 5 b6 104 [.slice aO s1.1.length aG,.slice aj s1.2.length an]/\0<=v26/\xh ((p1.Next.length:Int)-v26)=k/\cntM (dR p1 x24) k v26 s1=some q2) ⟨_,_,⟨K27,0,((([]:List Int):(List Int)),(([]:List (List Int)):(List<|List Int))),none,0,none,0,R,Jj3,Ow.nil,Ow.nil,(f19.stp (S20.tr S28) R R),(by decide),(by simp),hq33⟩,(KM R)⟩ ?_
 rintro k _ w40 ⟨K41,v26,s1,aO,aG,aj,an,rfl,S42,f43,f44,f45,hj31,hJ31,h⟩
 rcases k with _ | k
 have hk47:=h;obtain⟨o31,h⟩:=bP (xe (xf s1):(Arena×(List Pair))⊕(((List Int)×(List (List Int)))⊕((List Int)×(List (List Int)))))
 have hc31:decide (v26<(p1.Next.length:Int))=false:=Jo2 (by omega)
 refine Je3 R<|Jq<|Jw2 R hc31<|Jc1<|Jt<|Jt ?_
 cases h
 have h:=hk47
 refine Jb1 ?_
 cases h
 exact Jw1 _ ⟨K41,(s1.1,s1.2),aO,aG,aj,an,R,S42.wk R,f43,f44,f45,R⟩<|KM R
 obtain⟨o31,h,hk47⟩:=BI h;unfold dR at h
 have hc31:decide (v26<(p1.Next.length:Int))=true:=Jn2 (by omega)
 refine Je3 R<|Jq<|Jv2 R hc31<|Js<|Jp<|Jq<|Jv<|Je3 R<|Je [1,2] R<|Jo1 (κ:=K41) (E:=E6) 10 R R R R R Y29 bG R λbh bg w48 K49 S50 f51=>Tv<|Jb 1 R<|Jq<|Je3 R<|Ob h λ_ hr52 h=>?_
 have hN52:=iw hr52
 refine Ob h λq5 hq54 hK53=>?_
 clear h
 refine Jx1 (λL w'=>∃κ',∃s6:(List Int),∃ak al,L=[(2,.pointer (some ⟨b2,0,none⟩)),(3,.pointer (some ⟨b3,0,none⟩)),(4,.pointer (some ⟨b4,0,none⟩)),(6,.pointer (some ⟨b6,0,none⟩)),(7,vi (p1.Next.length:Int)),(8,vi x24),(10,.slice ak s6.length al),(25,vi (p1.Next.length:Int)),(26,vi v26)]/\Stp [10] K49 w48 κ' w'/\Oc E6 2 κ' w' 10 ak al s6/\q5=xe s6) ?_ ?_
 refine Jv<|Jy1 (λk L w'=>∃κ' v31,∃s4:(List Int),∃aK aJ,L=[(2,.pointer (some ⟨b2,0,none⟩)),(3,.pointer (some ⟨b3,0,none⟩)),(4,.pointer (some ⟨b4,0,none⟩)),(6,.pointer (some ⟨b6,0,none⟩)),(7,vi (p1.Next.length:Int)),(8,vi x24),(9,vi v26),(10,.slice aK s4.length aJ),(25,vi (p1.Next.length:Int)),(26,vi v26),(30,vi x24),(31,vi v31)]/\Stp [10] K49 w48 κ' w'/\Oc E6 2 κ' w' 10 aK aJ s4/\0<=v31/\xh (x24-v31)=k/\cntM (dN p1 x24 v26) k v31 s4=some q5) ⟨_,_,⟨K49,0,(([]:List Int):(List Int)),bh,bg,R,Jj3,f51,(by decide),(by simp),hq54⟩,(KM R)⟩ ?_
 rintro k _ w59 ⟨K60,v31,s4,aK,aJ,rfl,S61,f62,hj52,hJ52,h⟩
 rcases k with _ | k
 have hk63:=h;obtain⟨o52,h⟩:=bP (xe (xf s4):(Arena×(List Pair))⊕(((List Int))⊕((List Int))))
 have hc52:decide (v31<x24)=false:=Jo2 (by omega)
 refine Je3 R<|Jq<|Jw2 R hc52<|Jc1<|Jt<|Jt ?_
 cases h
 have h:=hk63
 refine Jb1 ?_
 cases h
 exact Jw1 _ ⟨K60,s4,aK,aJ,R,S61.wk R,f62,R⟩<|KM R
 obtain⟨o52,h,hk63⟩:=BI h;unfold dN at h
 have hc52:decide (v31<x24)=true:=Jn2 (by omega)
 refine Je3 R<|Jq<|Jv2 R hc52<|Js<|Jp<|Jq<|Jv<|Je3 R<|Jh3 [2,2,2,2,2,2,2,2,1,1,2] 8 R<|Jn1 (κ:=K60) (E:=E6) 11 [] (parts:=[(0,.tmp 41)]) (cells:=[vi<|IntKind.i64.wrap ((IntKind.i64.wrap ((p1.Next.length:Int)+(IntKind.i64.wrap<|v26 * x24)))+v31)]) (xs:=([(IntKind.i64.wrap ((IntKind.i64.wrap ((p1.Next.length:Int)+(IntKind.i64.wrap<|v26 * x24)))+v31))]:List Int)) R R R R R R Y29 bG R R R R R R R R R R ⟨[vi<|IntKind.i64.wrap ((IntKind.i64.wrap ((p1.Next.length:Int)+(IntKind.i64.wrap<|v26 * x24)))+v31)],[],Zl K60 w59 [],Zl K60 w59 [],R,Zl.sp (l1:=[]) (l2:=[]) R,Zl.sr (l1:=[]) (l2:=[]),R,R⟩ λbt bA w64 K65 S66 f67=>Tv<|Ob h λx43 hx43 h=>Jm1 (κ:=K65) (E:=E6) 10 [] R R R R R R R R R Y29 bG R R R R (f62.stp S66 R R) (Sl.srcP (bT _) f67.rdc) bK hx43 R λbf bm w69 K70 S71 f72=>Tv<|Jc 1 R<|Jz<|Jp<|Jf3 R ?_
 have hw52:t0 .i64 (v31+1)=v31+1:=wr1 hj52 (Jm2 hc52) hN52
 rw[hw52]
 have hc52:=Jm2 hc52
 cases h
 exact Jz1 λa ha=>⟨k,_,Ja3 _,⟨K70,v31+1,x43,bf,bm,R,(T3 S61 S66 S71).wk R,f72,by omega,by omega,hk63⟩,(ha.mm R)⟩
 rintro _ w55 ⟨K56,s6,ak,al,rfl,S57,f58,rfl⟩
 have h:=yI hK53
 refine Jp<|Je [2,1,1,1,2,1] R<|Jd3 R U104 R Z29 ?_
 have f73:=f45.stp (S50.tr S57) R R
 refine Jb3 R I29 (f73.ld 0 R R)<|Jn1 (κ:=K56) (E:=E6) 11 [] (parts:=[(0,.const (vi 1))]) (cells:=[vi 1]) (xs:=([1]:List Int)) R R R R R R Y29 bG R R R R R R R R R R ⟨[vi 1],[],Zl K56 w55 [],Zl K56 w55 [],R,Zl.sp (l1:=[]) (l2:=[]) R,Zl.sr (l1:=[]) (l2:=[]),R,R⟩ λbw br w74 K75 S76 f77=>Tv<|Ob h λx48 hx48 h=>Jm1 (κ:=K75) (E:=E6) 8 [] R R R R R R R R R Y29 bG R R R R (f43.stp (T3 S50 S57 S76) R R) (Sl.srcP (bT _) f77.rdc) bK hx48 R λaC aE w79 K80 S81 f82=>Tv<|Jd3 R U104 R Z29<|Ji1 (κ:=K80) 5 (off:=0) (vc:=[.slice aC x48.length aE]) (cs':=[.slice aC x48.length aE,.slice aj s1.2.length an]) R R R R R R R Z29 R R (f73.stp (S76.tr S81) R R) R R λw84 S85 f86=>Tv<|Jd<|Ja [2,1,2,1,1,2,1] R<|Jd3 R U104 R Z26<|Jb3 R I26 (f86.ld 1 R R)<|Jn 1 R<|Jn1 (κ:=K80) (E:=(Ep.own E6 2)) 12 [10] (parts:=[(0,.tmp 52)]) (cells:=[.slice ak s6.length al]) (xs:=([s6]:List (List Int))) R R R R R R Y26 bN R R R R R R R R R R ⟨[.slice ak s6.length al],[],Zl K80 w84 [10],Zl K80 w84 [],R,Zl.sp (l1:=[10]) (l2:=[]) R,Zl.sr (l1:=[10]) (l2:=[]),⟨_,_,R,(f58.stp (T3 S76 S81 S85) R R)⟩,R⟩ λbz bE w88 K89 S90 f91=>Tv<|Ob h λx54 hx54 h=>Jm1 (κ:=K89) (E:=(Ep.own E6 2)) 9 [12] R R R R R R R R R Y26 bN R R R R (f44.stp (T6 S50 S57 S76 S81 S85 S90) R R) f91.src (dd R) hx54 R λaS aR w93 K94 S95 f96=>Tv<|Jd3 R U104 R Z26<|Ji1 (κ:=K94) 5 (off:=1) (vc:=[.slice aS x54.length aR]) (cs':=[.slice aC x48.length aE,.slice aS x54.length aR]) R R R R R R R Z26 R R (f86.stp (S90.tr S95) R R) R R λw98 S99 f100=>Tv<|Jo<|Jz<|Jp<|Jf3 R ?_
 have hw31:t0 .i64 (v26+1)=v26+1:=wr1 hj31 (Jm2 hc31) hN31
 rw[hw31]
 have hc31:=Jm2 hc31
 cases h
 exact Jz1 λa ha=>⟨k,_,Ja3 _,⟨K94,v26+1,(x48,x54),aC,aE,aS,aR,R,(T9 S42 S50 S57 S76 S81 S85 S90 S95 S99).wk R,(f82.stp (T4 S85 S90 S95 S99) R R),(f96.stp S99 R R),f100,by omega,by omega,hk47⟩,(ha.mm R)⟩
 rintro _ w34 ⟨K35,s3,ay,aI,aF,az,rfl,S36,f37,f38,f39,rfl⟩
 have h:=yI hK32
 refine Jp<|Jq<|Je3 R ?_
 have hN103:(p1.Next.length:Int)<=9223372036854775807:=g1_0.len_le
 refine Ob h λq8 hq105 hK104=>?_
 clear h
 refine Jx1 (λL w'=>∃κ',∃s9:(List Int)×(List<|List Int),∃ad aa ac ab,L=[(3,.pointer (some ⟨b3,0,none⟩)),(4,.pointer (some ⟨b4,0,none⟩)),(6,.pointer (some ⟨b6,0,none⟩))]/\Stp [5,8,9,10,13,17,18] K35 w34 κ' w'/\Oc E6 2 κ' w' 8 ad aa s9.1/\Oc (Ep.own E6 2) 29 κ' w' 9 ac ab s9.2/\Bc κ' w' 5 b6 104 [.slice ad s9.1.length aa,.slice ac s9.2.length ab]/\q8=xe s9) ?_ ?_
 refine Jv<|Jy1 (λk L w'=>∃κ' v58,∃s7:(List Int)×(List<|List Int),∃af am ai ao,L=[(2,.pointer (some ⟨b2,0,none⟩)),(3,.pointer (some ⟨b3,0,none⟩)),(4,.pointer (some ⟨b4,0,none⟩)),(6,.pointer (some ⟨b6,0,none⟩)),(8,vi x24),(57,vi (p1.Next.length:Int)),(58,vi v58)]/\Stp [5,8,9,10,13,17,18] K35 w34 κ' w'/\Oc E6 2 κ' w' 8 af am s7.1/\Oc (Ep.own E6 2) 29 κ' w' 9 ai ao s7.2/\Bc κ' w' 5 b6 104 [.slice af s7.1.length am,.slice ai s7.2.length ao]/\0<=v58/\xh ((p1.Next.length:Int)-v58)=k/\cntM (dI p0 p1 x24) k v58 s7=some q8) ⟨_,_,⟨K35,0,(s3.1,s3.2),ay,aI,aF,az,R,Jj3,f37,f38,f39,(by decide),(by simp),hq105⟩,(KM R)⟩ ?_
 rintro k _ w112 ⟨K113,v58,s7,af,am,ai,ao,rfl,S114,f115,f116,f117,hj103,hJ103,h⟩
 rcases k with _ | k
 have hk118:=h;obtain⟨o103,h⟩:=bP (xe (xf s7):(Arena×(List Pair))⊕(((List Int)×(List (List Int)))⊕((List Int)×(List (List Int)))))
 have hc103:decide (v58<(p1.Next.length:Int))=false:=Jo2 (by omega)
 refine Je3 R<|Jq<|Jw2 R hc103<|Jc1<|Jt<|Jt ?_
 cases h
 have h:=hk118
 refine Jb1 ?_
 cases h
 exact Jw1 _ ⟨K113,(s7.1,s7.2),af,am,ai,ao,R,S114.wk R,f115,f116,f117,R⟩<|KM R
 obtain⟨o103,h,hk118⟩:=BI h;unfold dI at h
 have hc103:decide (v58<(p1.Next.length:Int))=true:=Jn2 (by omega)
 refine Je3 R<|Jq<|Jv2 R hc103<|Js<|Jp<|Jq<|Jv<|Je3 R<|Je3 R<|Ob h λ_ hr119 h=>?_
 have hN119:=iw hr119
 refine Ob h λq11 hq121 hK120=>?_
 clear h
 refine Jx1 (λL w'=>∃κ',∃s12:(List Int)×(List<|List Int),∃ar ap aq aH,L=[(2,.pointer (some ⟨b2,0,none⟩)),(3,.pointer (some ⟨b3,0,none⟩)),(4,.pointer (some ⟨b4,0,none⟩)),(6,.pointer (some ⟨b6,0,none⟩)),(8,vi x24),(57,vi (p1.Next.length:Int)),(58,vi v58)]/\Stp [5,8,9,10,13,17,18] K113 w112 κ' w'/\Oc E6 2 κ' w' 8 ar ap s12.1/\Oc (Ep.own E6 2) 29 κ' w' 9 aq aH s12.2/\Bc κ' w' 5 b6 104 [.slice ar s12.1.length ap,.slice aq s12.2.length aH]/\q11=xe s12) ?_ ?_
 refine Jv<|Jy1 (λk L w'=>∃κ' v62,∃s10:(List Int)×(List<|List Int),∃aw aM ah ae,L=[(2,.pointer (some ⟨b2,0,none⟩)),(3,.pointer (some ⟨b3,0,none⟩)),(4,.pointer (some ⟨b4,0,none⟩)),(6,.pointer (some ⟨b6,0,none⟩)),(8,vi x24),(12,vi v58),(57,vi (p1.Next.length:Int)),(58,vi v58),(61,vi x24),(62,vi v62)]/\Stp [5,8,9,10,13,17,18] K113 w112 κ' w'/\Oc E6 2 κ' w' 8 aw aM s10.1/\Oc (Ep.own E6 2) 29 κ' w' 9 ah ae s10.2/\Bc κ' w' 5 b6 104 [.slice aw s10.1.length aM,.slice ah s10.2.length ae]/\0<=v62/\xh (x24-v62)=k/\cntM (d5 p0 p1 x24 v58) k v62 s10=some q11) ⟨_,_,⟨K113,0,(s7.1,s7.2),af,am,ai,ao,R,Jj3,f115,f116,f117,(by decide),(by simp),hq121⟩,(KM R)⟩ ?_
 rintro k _ w128 ⟨K129,v62,s10,aw,aM,ah,ae,rfl,S130,f131,f132,f133,hj119,hJ119,h⟩
 rcases k with _ | k
 have hk134:=h;obtain⟨o119,h⟩:=bP (xe (xf s10):(Arena×(List Pair))⊕(((List Int)×(List (List Int)))⊕((List Int)×(List (List Int)))))
 have hc119:decide (v62<x24)=false:=Jo2 (by omega)
 refine Je3 R<|Jq<|Jw2 R hc119<|Jc1<|Jt<|Jt ?_
 cases h
 have h:=hk134
 refine Jb1 ?_
 cases h
 exact Jw1 _ ⟨K129,(s10.1,s10.2),aw,aM,ah,ae,R,S130.wk R,f131,f132,f133,R⟩<|KM R
 obtain⟨o119,h,hk134⟩:=BI h;unfold d5 at h
 have hc119:decide (v62<x24)=true:=Jn2 (by omega)
 refine Je3 R<|Jq<|Jv2 R hc119<|Js<|Jp<|Jq<|Jv<|Je3 R<|Je [1,2] R<|Jo1 (κ:=K129) (E:=E6) 10 R R R R R Y29 bG R λbi bl w135 K136 S137 f138=>Tv<|Jb 1 R<|Jq<|Je [2,1,2,2] R<|Jd3 R U25 R Z2<|Jb3 R I2 ((f23.stp (T5 S28 S36 S114 S130 S137) R R).ld 1 R R)<|Ob h λ_z68 hz68 h=>Jf R (qS R R R<|tQ hz68)<|Jb 1 R<|Ob h λ_ hr140 h=>?_
 have hN140:=iw hr140
 refine Ob h λq14 hq142 hK141=>?_
 clear h
 refine Jx1 (λL w'=>∃κ',∃s15:(List Int),∃ba aW,L=[(2,.pointer (some ⟨b2,0,none⟩)),(3,.pointer (some ⟨b3,0,none⟩)),(4,.pointer (some ⟨b4,0,none⟩)),(6,.pointer (some ⟨b6,0,none⟩)),(8,vi x24),(12,vi v58),(14,.slice ba s15.length aW),(57,vi (p1.Next.length:Int)),(58,vi v58),(61,vi x24),(62,vi v62)]/\Stp [10] K136 w135 κ' w'/\Oc E6 2 κ' w' 10 ba aW s15/\q14=xe s15) ?_ ?_
 refine Jv<|Jy1 (λk L w'=>∃κ' v69,∃s13:(List Int),∃aN aD,L=[(2,.pointer (some ⟨b2,0,none⟩)),(3,.pointer (some ⟨b3,0,none⟩)),(4,.pointer (some ⟨b4,0,none⟩)),(6,.pointer (some ⟨b6,0,none⟩)),(8,vi x24),(12,vi v58),(13,vi v62),(14,.slice aN s13.length aD),(57,vi (p1.Next.length:Int)),(58,vi v58),(61,vi x24),(62,vi v62),(68,vi<|IntKind.i64.wrap (1 * 2 ^ (min (xh p0.Out)<|IntKind.bits IntKind.i64))),(69,vi v69)]/\Stp [10] K136 w135 κ' w'/\Oc E6 2 κ' w' 10 aN aD s13/\0<=v69/\xh ((IntKind.i64.wrap (1 * 2 ^ (min (xh p0.Out)<|IntKind.bits IntKind.i64)))-v69)=k/\cntM (dX p1 x24 v58 v62) k v69 s13=some q14) ⟨_,_,⟨K136,0,(([]:List Int):(List Int)),bi,bl,R,Jj3,f138,(by decide),(by simp),hq142⟩,(KM R)⟩ ?_
 rintro k _ w147 ⟨K148,v69,s13,aN,aD,rfl,S149,f150,hj140,hJ140,h⟩
 rcases k with _ | k
 have hk151:=h;obtain⟨o140,h⟩:=bP (xe (xf s13):(Arena×(List Pair))⊕(((List Int))⊕((List Int))))
 have hc140:decide (v69<(IntKind.i64.wrap (1 * 2 ^ (min (xh p0.Out) (IntKind.bits IntKind.i64)))))=false:=Jo2 (by omega)
 refine Je3 R<|Jq<|Jw2 R hc140<|Jc1<|Jt<|Jt ?_
 cases h
 have h:=hk151
 refine Jb1 ?_
 cases h
 exact Jw1 _ ⟨K148,s13,aN,aD,R,S149.wk R,f150,R⟩<|KM R
 obtain⟨o140,h,hk151⟩:=BI h;unfold dX at h
 have hc140:decide (v69<(IntKind.i64.wrap (1 * 2 ^ (min (xh p0.Out) (IntKind.bits IntKind.i64)))))=true:=Jn2 (by omega)
 refine Je3 R<|Jq<|Jv2 R hc140<|Js<|Jp<|Jq<|Jv<|Je3 R<|Jh3 [2,2,1,2,2,1,2,2,2,2,2,2,1,1,1,2] 1 R<|Jd3 R U100 R Z26<|Jb3 R I26 ((f22.stp (T6 S28 S36 S114 S130 S137 S149) R R).ld 0 R R)<|Jn 1 R<|Ob h λx76 hx76 h=>Jc3 R g1_0 hx76 U26 Z29 ?_
 obtain⟨ax76,ux76,f154,hl155⟩:=(g1_0.stp (T12 S3 S7 S11 S15 S18 S20 S28 S36 S114 S130 S137 S149) R R).gSl hx76
 refine Jb3 R I29 hl155<|Jn 5 R<|Ob h λx83 hx83 h=>Jc3 R f154 hx83 U29 Z2<|Jb3 R I2 (f154.gInt hx83)<|Jn1 (κ:=K148) (E:=E6) 11 [] (parts:=[(0,.tmp 84)]) (cells:=[vi x83]) (xs:=([x83]:List Int)) R R R R R R Y29 bG R R R R R R R R R R ⟨[vi x83],[],Zl K148 w147 [],Zl K148 w147 [],R,Zl.sp (l1:=[]) (l2:=[]) R,Zl.sr (l1:=[]) (l2:=[]),R,R⟩ λbx bs w156 K157 S158 f159=>Tv<|Ob h λx86 hx86 h=>Jm1 (κ:=K157) (E:=E6) 10 [] R R R R R R R R R Y29 bG R R R R (f150.stp S158 R R) (Sl.srcP (bT _) f159.rdc) bK hx86 R λbq bj w161 K162 S163 f164=>Tv<|Jc 1 R<|Jz<|Jp<|Jf3 R ?_
 have hw140:t0 .i64 (v69+1)=v69+1:=wr1 hj140 (Jm2 hc140) hN140
 rw[hw140]
 have hc140:=Jm2 hc140
 cases h
 exact Jz1 λa ha=>⟨k,_,Ja3 _,⟨K162,v69+1,x86,bq,bj,R,(T3 S149 S158 S163).wk R,f164,by omega,by omega,hk151⟩,(ha.mm R)⟩
 rintro _ w143 ⟨K144,s15,ba,aW,rfl,S145,f146,rfl⟩
 have h:=yI hK141
 refine Jp<|Jg3 [2,1] 1 R<|Ob h λx89 hx89 h=>Jh R R R C133 (gG (κ:=λb=>mp [(10,2)] 0<|K144 b) (f146.map (mp [(10,2)] 0) R R) hx89) ?_
 rintro _ w165 ⟨k166,rfl,e167,f168,hn169⟩
 obtain⟨K170,S171,m172⟩:=Ji e167 11 R
 refine Tv<|Jd<|Je [2,1,1,1,2,1] R<|Jd3 R U104 R Z29 ?_
 have f175:=f133.stp (T3 S137 S145 S171) R R
 refine Jb3 R I29 (f175.ld 0 R R)<|Jn1 (κ:=K170) (E:=E6) 14 [] (parts:=[(0,.const (vi 0))]) (cells:=[vi 0]) (xs:=([0]:List Int)) R R R R R R Y29 bG R R R R R R R R R R ⟨[vi 0],[],Zl K170 w165 [],Zl K170 w165 [],R,Zl.sp (l1:=[]) (l2:=[]) R,Zl.sr (l1:=[]) (l2:=[]),R,R⟩ λbv bC w176 K177 S178 f179=>Tv<|Ob h λx93 hx93 h=>Jm1 (κ:=K177) (E:=E6) 8 [] R R R R R R R R R Y29 bG R R R R (f131.stp (T4 S137 S145 S171 S178) R R) (Sl.srcP (bT _) f179.rdc) bK hx93 R λaA aB w181 K182 S183 f184=>Tv<|Jd3 R U104 R Z29<|Ji1 (κ:=K182) 5 (off:=0) (vc:=[.slice aA x93.length aB]) (cs':=[.slice aA x93.length aB,.slice ah s10.2.length ae]) R R R R R R R Z29 R R (f175.stp (S178.tr S183) R R) R R λw186 S187 f188=>Tv<|Jd<|Js1 (κ:=K182) [5] (some 7) [(0,2),(2,2),(1,0),(3,1),(4,1),(5,1),(6,2)] [(7,1)] (by kernel_rfl) (by kernel_rfl) λw190 S189=>Jd3 R U104 R Z26<|Jn 1 R ?_
 have f191:=f188.stp S189 R R
 refine Jg R (Jc2 I26 R R<|hvC (f191.ld 1 R R) R)<|Ob h λx98 hx98 h=>Jh R R R C134 (Ret.cast (by simp only[(hn169),List.cons_append,List.nil_append])<|kd (κ:=λb=>mp [(13,2)] 0<|K182 b) (((f168.mx (bI _) m172 R (R:11+2=13)).stp (T4 S178 S183 S187 S189) R R).map (mp [(13,2)] 0) R R) hx98) ?_
 rintro _ w193 ⟨k194,bd,bc,rfl,e195,f196⟩
 obtain⟨K197,S198,m199⟩:=Ji e195 15 R
 refine⟨(S198.cl R),Jn1 (κ:=K197) (E:=(Ep.own E6 2)) 18 [17] (parts:=[(0,.tmp 98)]) (cells:=[.slice bd x98.length bc]) (xs:=([x98]:List (List Int))) R R R R R R Y26 bN R R R R R R R R R R ⟨[.slice bd x98.length bc],[],Zl K197 w193 [17],Zl K197 w193 [],R,Zl.sp (l1:=[17]) (l2:=[]) R,Zl.sr (l1:=[17]) (l2:=[]),⟨_,_,R,(f196.mx (bI _) m199 R (R:15+2=17))⟩,R⟩ λbu bF w202 K203 S204 f205=>⟨((S198.tr S204).cl R),Ob h λx100 hx100 h=>Jm1 (κ:=K203) (E:=(Ep.own E6 2)) 9 [18] R R R R R R R R R Y26 bN R R R R (f132.stp (T9 S137 S145 S171 S178 S183 S187 S189 S198 S204) R R) f205.src (dd R) hx100 R λaT aQ w207 K208 S209 f210=>⟨((T3 S198 S204 S209).cl R),Jd3 R U104 R Z26<|Jt1<|Ji1 (κ:=K208) 5 (off:=1) (vc:=[.slice aT x100.length aQ]) (cs':=[.slice aA x93.length aB,.slice aT x100.length aQ]) R R R R R R R Z26 R R (f191.stp (T3 S198 S204 S209) R R) R R λw212 S213 f214=>Tv<|Jo<|Jz<|Jp<|Jf3 R ?_⟩⟩⟩
 have hw119:t0 .i64 (v62+1)=v62+1:=wr1 hj119 (Jm2 hc119) hN119
 rw[hw119]
 have hc119:=Jm2 hc119
 cases h
 exact Jz1 λa ha=>⟨k,_,Ja3 _,⟨K208,v62+1,(x93,x100),aA,aB,aT,aQ,R,(T12 S130 S137 S145 S171 S178 S183 S187 S189 S198 S204 S209 S213).wk R,(f184.stp (T6 S187 S189 S198 S204 S209 S213) R R),(f210.stp S213 R R),f214,by omega,by omega,hk134⟩,(ha.mm R)⟩
 rintro _ w122 ⟨K123,s12,ar,ap,aq,aH,rfl,S124,f125,f126,f127,rfl⟩
 have h:=yI hK120
 refine Jz<|Jp<|Jf3 R ?_
 have hw103:t0 .i64 (v58+1)=v58+1:=wr1 hj103 (Jm2 hc103) hN103
 rw[hw103]
 have hc103:=Jm2 hc103
 cases h
 exact Jz1 λa ha=>⟨k,_,Ja3 _,⟨K123,v58+1,(s12.1,s12.2),ar,ap,aq,aH,R,(S114.tr S124).wk R,f125,f126,f127,by omega,by omega,hk118⟩,(ha.mm R)⟩
 rintro _ w106 ⟨K107,s9,ad,aa,ac,ab,rfl,S108,f109,f110,f111,rfl⟩
 have h:=yI hK104
 refine Jp<|Je [1,2] R<|Jo1 (κ:=K107) (E:=Pair.ep154) 10 R R R R R Y98 cv R λbo bp w217 K218 S219 f220=>Tv<|Jb 1 R<|Jq<|Je [2,1,2,2] R<|Jd3 R U100 R Z98<|Jb3 R I98 ((f22.stp (T4 S28 S36 S108 S219) R R).ld 1 R R)<|Jn3 R U98 R R<|Jb 1 R ?_
 have hN222:(p1.Pairs.length:Int)<=9223372036854775807:=g1_1.len_le
 refine Ob h λq17 hq224 hK223=>?_
 clear h
 refine Jx1 (λL w'=>∃κ',∃s18:(List Pair),∃aL ax,L=[(4,.pointer (some ⟨b4,0,none⟩)),(6,.pointer (some ⟨b6,0,none⟩)),(16,.slice aL s18.length ax)]/\Stp [10,11,14,15,16] K218 w217 κ' w'/\Oc Pair.ep154 154 κ' w' 10 aL ax s18/\q17=xe s18) ?_ ?_
 refine Jv<|Jy1 (λk L w'=>∃κ' v108,∃s16:(List Pair),∃av au,L=[(4,.pointer (some ⟨b4,0,none⟩)),(6,.pointer (some ⟨b6,0,none⟩)),(16,.slice av s16.length au),(106,.slice aP p1.Pairs.length aY),(107,vi (p1.Pairs.length:Int)),(108,vi v108)]/\Stp [10,11,14,15,16] K218 w217 κ' w'/\Oc Pair.ep154 154 κ' w' 10 av au s16/\0<=v108/\xh ((p1.Pairs.length:Int)-v108)=k/\cntM (dw p1) k v108 s16=some q17) ⟨_,_,⟨K218,0,(([]:List Pair):(List Pair)),bo,bp,R,Jj3,f220,(by decide),(by simp),hq224⟩,(KM R)⟩ ?_
 rintro k _ w229 ⟨K230,v108,s16,av,au,rfl,S231,f232,hj222,hJ222,h⟩
 rcases k with _ | k
 have hk233:=h;obtain⟨o222,h⟩:=bP (xe (xf s16):(Arena×(List Pair))⊕(((List Pair))⊕((List Pair))))
 have hc222:decide (v108<(p1.Pairs.length:Int))=false:=Jo2 (by omega)
 refine Je3 R<|Jq<|Jw2 R hc222<|Jc1<|Jt<|Jt ?_
 cases h
 have h:=hk233
 refine Jb1 ?_
 cases h
 exact Jw1 _ ⟨K230,s16,av,au,R,S231.wk R,f232,R⟩<|KM R
 obtain⟨o222,h,hk233⟩:=BI h;unfold dw at h
 have hc222:decide (v108<(p1.Pairs.length:Int))=true:=Jn2 (by omega)
 refine Je3 R<|Jq<|Jv2 R hc222<|Js<|Jp<|Jq<|Jv<|Je [2,1,1,1] R<|Ob h λx110 hx110 h=>Jc3 R g1_1 hx110 U98 Z154 ?_
 obtain⟨cse235,hre235,hle235⟩:=((g1_1.stp (T11 S3 S7 S11 S15 S18 S20 S28 S36 S108 S219 S231) R R)).gSt hx110
 obtain⟨ae235_0,ue235_0,ae235_1,ue235_1,rfl,fe235_0,fe235_1⟩:=Pair.un hre235
 refine Jl tv R R R R (Jd2 (cs:=[.slice ae235_0 x110.Ask.length ue235_0,.slice ae235_1 x110.Give.length ue235_1]) I154 Z154 R R R<|haE hle235)<|Jg1 (κ:=K230) 11 R R R R R X154 R λb18 w236 K237 S238 f239=>Tv<|Jj1 (κ:=K237) 11 (vc:=[.slice ae235_0 x110.Ask.length ue235_0,.slice ae235_1 x110.Give.length ue235_1]) R R R R R R R Z154 R R f239 R λw240 S241 f242=>Tv<|Jd<|Jh3 [2,1,1,1,1,2] 1 R<|Jl tv R R R R (Jd2 (cs:=[.slice ae235_0 x110.Ask.length ue235_0,.slice ae235_1 x110.Give.length ue235_1]) I154 Z154 R R R<|haE f242.cells)<|Ob h λx114 hx114 h=>Jh R R R C135 (pT (κ:=Mk K237) (p0:=x110) (Ji3<|fe235_0.stp (S238.tr S241) R R) (Ji3<|fe235_1.stp (S238.tr S241) R R) hx114) ?_
 rintro _ w245 ⟨k246,aV,aU,aZ,aX,rfl,e247,f248,f249⟩
 obtain⟨K250,S251,m252⟩:=Ji e247 12 R
 refine Tv<|Jn1 (κ:=K250) (E:=Pair.ep154) 16 [14,15] (parts:=[(0,.tmp 114)]) (cells:=[.slice aV x114.Ask.length aU,.slice aZ x114.Give.length aX]) (xs:=([x114]:List Pair)) R R R R R R Y98 cv R R R R R R R R R R ⟨[.slice aV x114.Ask.length aU,.slice aZ x114.Give.length aX],[],Zl K250 w245 [14,15],Zl K250 w245 [],R,Zl.sp (l1:=[14,15]) (l2:=[]) R,Zl.sr (l1:=[14,15]) (l2:=[]),⟨[.slice aV x114.Ask.length aU],[.slice aZ x114.Give.length aX],Zl K250 w245 [14],Zl K250 w245 [15],R,Zl.sp (l1:=[14]) (l2:=[15]) R,Zl.sr (l1:=[14]) (l2:=[15]),⟨_,_,R,(f248.mx (bI _) m252 R (R:12+2=14))⟩,⟨_,_,R,(f249.mx (bI _) m252 R (R:12+3=15))⟩⟩,R⟩ λbB bD w256 K257 S258 f259=>Tv<|Ob h λx116 hx116 h=>Jm1 (κ:=K257) (E:=Pair.ep154) 10 [16] R R R R R R R R R Y98 cv R R R R (f232.stp (T4 S238 S241 S251 S258) R R) f259.src (dd R) hx116 R λbn bk w261 K262 S263 f264=>Tv<|Jc 1 R<|Jz<|Jp<|Jf3 R ?_
 have hw222:t0 .i64 (v108+1)=v108+1:=wr1 hj222 (Jm2 hc222) hN222
 rw[hw222]
 have hc222:=Jm2 hc222
 cases h
 exact Jz1 λa ha=>⟨k,_,Ja3 _,⟨K262,v108+1,x116,bn,bk,R,(T6 S231 S238 S241 S251 S258 S263).wk R,f264,by omega,by omega,hk233⟩,(ha.mm R)⟩
 rintro _ w225 ⟨K226,s18,aL,ax,rfl,S227,f228,rfl⟩
 have h:=yI hK223
 refine Jp<|Je [1,2,1,2] R<|Jl tv R R R R (Jd2 (cs:=[.slice ad s9.1.length aa,.slice ac s9.2.length ab]) I104 Z104 R R R<|haE (f111.stp (S219.tr S227) R R).cells)<|Jn 1 R<|Jj1 (κ:=K226) 4 (vc:=[.slice ad s9.1.length aa,.slice ac s9.2.length ab]) R R R R R R R Z104 R R (f12.stp (T8 S15 S18 S20 S28 S36 S108 S219 S227) R R) R λw267 S268 f269=>Tv<|Jb 1 R<|Ju<|Ja2 (l:=[.cell 4 104,.tmp 5]) V78 (bL R f269 I104 Z104 R<|Jp2 R R) R ?_
 cases h
 have S001:=(T3 S219 S227 S268)
 exact⟨(λb=>ren [(8,2),(9,3),(10,4)]<|K226 b),ad,aa,ac,ab,aL,ax,R,((hE.stp (T12 S3 S7 S11 S15 S18 S20 S28 S36 S108 S219 S227 S268) R R).map (ren [(8,2),(9,3),(10,4)]) R R),((f109.stp S001 R R).map (ren [(8,2),(9,3),(10,4)]) R R),((f110.stp S001 R R).map (ren [(8,2),(9,3),(10,4)]) R R),((f228.stp S268 R R).map (ren [(8,2),(9,3),(10,4)]) R R)⟩
theorem pZ {ai af ad ae}{p0:Clause}{ah ac aa ab}{p1:Clause}(g0_1:Rd (Rp.int .i64) κ w 0 ai af p0.A) (g0_2:Rd (Rp.int .i64) κ w 0 ad ae p0.B) (g1_1:Rd (Rp.int .i64) κ w 0 ah ac p1.A) (g1_2:Rd (Rp.int .i64) κ w 0 aa ab p1.B){r:Bool}(h:jP p0 p1=some r):Ret Tryz.prog 84 [.agg #[vi p0.Kind,.slice ai p0.A.length af,.slice ad p0.B.length ae],.agg #[vi p1.Kind,.slice ah p1.A.length ac,.slice aa p1.B.length ab]] w (Pvb κ w r):=by
 unfold jP at h
 refine Jk3 κ F84 R N84 R λhE=>Je [1,1,2] R<|Jf1 (κ:=κ) 2 R R R R R R R λb2 w1 K2 S3 f4=>Tv<|Jf1 (κ:=K2) 3 R R R R R R R λb3 w5 K6 S7 f8=>Tv<|Jb 1 R<|Jq<|Je [2,1,2,1,2] R<|Jd3 R U119 R Z2 ?_
 have f9:=f4.stp S7 R R
 refine Jb3 R I2 (f9.ld 0 R R)<|Jd3 R U119 R Z2<|Jb3 R I2 (f8.ld 0 R R)<|Jb 1 R ?_
 revert h
 cases ht10:(p0.Kind !=p1.Kind)
 refine JF λh=>Jy R<|Js<|Jp<|Jq<|Je [2,1,2,1,1,2] R<|Jd3 R U119 R Z29<|Jb3 R I29 (f9.ld 1 R R)<|Jd3 R U119 R Z29<|Jb3 R I29 (f8.ld 1 R R)<|Ob h λx14 hx14 h=>Jh R R R C82 (kr (κ:=Mk K6) (Ji3<|g0_1.stp (S3.tr S7) R R) (Ji3<|g1_1.stp (S3.tr S7) R R) hx14) ?_
 rintro _ w14 ⟨k15,rfl,e16⟩
 obtain⟨K17,S18,m19⟩:=Ji e16 4 R
 refine Tv<|Jb 1 R ?_
 revert h
 cases ht21:(!x14)
 refine JF λh=>Jy R<|Js<|Jp<|Jq<|Je [2,1,2,1,1,2] R<|Jd3 R U119 R Z29<|Jb3 R I29 ((f9.stp S18 R R).ld 2 R R)<|Jd3 R U119 R Z29<|Jb3 R I29 ((f8.stp S18 R R).ld 2 R R)<|Ob h λx20 hx20 h=>Jh R R R C82 (kr (κ:=Mk K17) (Ji3<|g0_2.stp (T3 S3 S7 S18) R R) (Ji3<|g1_2.stp (T3 S3 S7 S18) R R) hx20) ?_
 rintro _ w27 ⟨k28,rfl,e29⟩
 obtain⟨K30,S31,m32⟩:=Ji e29 6 R
 refine Tv<|Jb 1 R ?_
 revert h
 cases ht34:(!x20)
 refine JF λh=>Jy R<|Js<|Jp<|Je3 R<|Ju<|Ja2 (l:=[.tmp 4]) V84 (Jp2 R R) R ?_
 cases h
 exact⟨K30,R,(hE.stp (T4 S3 S7 S18 S31) R R)⟩
 refine JT λh=>Jx R<|Je3 R<|Ju<|Jw<|Ja2 (l:=[.tmp 4]) V84 (Jp2 R R) R ?_
 cases h
 exact⟨K30,R,(hE.stp (T4 S3 S7 S18 S31) R R)⟩
 refine JT λh=>Jx R<|Je3 R<|Ju<|Jw<|Ja2 (l:=[.tmp 4]) V84 (Jp2 R R) R ?_
 cases h
 exact⟨K17,R,(hE.stp (T3 S3 S7 S18) R R)⟩
 refine JT λh=>Jx R<|Je3 R<|Ju<|Jw<|Ja2 (l:=[.tmp 4]) V84 (Jp2 R R) R ?_
 cases h
 exact⟨K6,R,(hE.stp (S3.tr S7) R R)⟩
theorem kN {a0 u0}{p0:(List (List Int))}{p1:Int}(g0:Oc (Ep.own E6 2) 29 κ w 2 a0 u0 p0){r:Int×(List (List Int))}(h:eJ p0 p1=some r):Ret Tryz.prog 86 [.slice a0 p0.length u0,vi p1] w (λv w'=>∃(κ':Col),v=vi r.1/\Ent κ w κ' w'/\Oc (Ep.own E6 2) 29 κ' w' 2 a0 u0 r.2/\p0.length=r.2.length):=by
 unfold eJ at h
 refine Jk3 κ F86 R N86 R λhE=>Je3 R<|Jq<|Je3 R ?_
 have hN1:(p0.length:Int)<=9223372036854775807:=g0.len_le
 refine Ob h λq2 hq3 hK2=>?_
 clear h
 refine Jx1 (λL w'=>∃κ',∃s3:Int×(List<|List Int),L=[(1,vi s3.1)]/\Stp [2,3,6] κ w κ' w'/\Oc (Ep.own E6 2) 29 κ' w' 2 a0 u0 s3.2/\p0.length=s3.2.length/\q2=xe s3) ?_ ?_
 refine Jv<|Jy1 (λk L w'=>∃κ' v5,∃s1:Int×(List<|List Int),L=[(0,.slice a0 p0.length u0),(1,vi s1.1),(5,vi v5)]/\Stp [2,3,6] κ w κ' w'/\Oc (Ep.own E6 2) 29 κ' w' 2 a0 u0 s1.2/\p0.length=s1.2.length/\0<=v5/\xh ((p0.length:Int)-v5)=k/\cntM fB k v5 s1=some q2) ⟨_,_,⟨κ,0,(p1,p0),R,Jj3,g0,R,(by decide),(by simp),hq3⟩,(KM R)⟩ ?_
 rintro k _ w9 ⟨K10,v5,s1,rfl,S11,f12,hn13,hj1,hJ1,h⟩
 rcases k with _ | k
 have hk14:=h;obtain⟨o1,h⟩:=bP (xe (xf s1):(Int×(List (List Int)))⊕((Int×(List (List Int)))⊕(Int×(List (List Int)))))
 have hc1:decide (v5<(p0.length:Int))=false:=Jo2 (by omega)
 refine Jq<|Jg3 [2,2,2,2] 2 R<|Jn3 R U26 R R<|Jb 1 R<|Jw2 R hc1<|Jc1<|Jt<|Jt ?_
 cases h
 have h:=hk14
 refine Jb1 ?_
 cases h
 exact Jw1 _ ⟨K10,(s1.1,s1.2),R,S11.wk R,f12,hn13,R⟩<|KM R
 obtain⟨o1,h,hk14⟩:=BI h;unfold fB at h
 have hc1:decide (v5<(p0.length:Int))=true:=Jn2 (by omega)
 refine Jq<|Jg3 [2,2,2,2] 2 R<|Jn3 R U26 R R<|Jb 1 R<|Jv2 R hc1<|Js<|Jp<|Jq<|Jv<|Jh3 [2,2,2,1,2,1,2] 2 R<|Ob h λx14 hx14 h=>Jf R (Jf2 f12.rdc hx14 U26 Z29 R R hn13 R) ?_
 obtain⟨ax14,ux14,f15,hl16⟩:=f12.rdc.gSl hx14
 refine Jb3 R I29 hl16<|Jn 1 R ?_
 obtain⟨K17,S18,f19,f20⟩:=f12.borrow hx14 (hl16 _ (Ag.refl _ _ _)) 3 R R
 refine Ob h λx17 hx17 h=>Jh R R R C85 (jk (κ:=λb=>mp [(3,2)] 0<|K17 b) (f19.map (mp [(3,2)] 0) R R) hx17) ?_
 rintro _ w21 ⟨k22,rfl,e23,f24,hn25⟩
 obtain⟨K26,S27,m28⟩:=Ji e23 4 R
 refine Tv<|Ob h λyb473 hyb473 h=>?_
 obtain⟨K32,S33,f34⟩:=Ow.unborrow (f20.stp S27 R R) (f24.mx (bI _) m28 R (R:4+2=6)) (hn25) R R hyb473
 have hn35:p0.length=yb473.length:=hn13.trans (Jt2 hyb473).2.2.2.symm
 refine Jc 1 R<|Jz<|Jp<|Jf3 R ?_
 have hw1:t0 .i64 (v5+1)=v5+1:=wr1 hj1 (Jm2 hc1) hN1
 rw[hw1]
 have hc1:=Jm2 hc1
 cases h
 exact Jz1 λa ha=>⟨k,_,Ja3 _,⟨K32,v5+1,(x17.1,yb473),R,(T4 S11 S18 S27 S33).wk R,f34,hn35,by omega,by omega,hk14⟩,(ha.mm R)⟩
 rintro _ w4 ⟨K5,s3,rfl,S6,f7,hn8,rfl⟩
 have h:=yI hK2
 refine Jp<|Je3 R<|Ju<|Ja2 (l:=[.tmp 4]) V86 (Jp2 R R) R ?_
 cases h
 exact⟨K5,R,(hE.stp S6 R R),f7,hn8⟩
theorem kH {a0 u0}{p0:(List (List Int))}{p1:Int}(g0:Rd (Rp.sl (Rp.int .i64)) κ w 0 a0 u0 p0){r:Int}(h:eN p0 p1=some r):Ret Tryz.prog 88 [.slice a0 p0.length u0,vi p1] w (Pvi κ w r):=by
 unfold eN at h
 refine Jk3 κ F88 R N88 R λhE=>Je3 R<|Jq<|Je3 R ?_
 have hN1:(p0.length:Int)<=9223372036854775807:=g0.len_le
 refine Ob h λq2 hq3 hK2=>?_
 clear h
 refine Jx1 (λL w'=>∃κ' s3,L=[(1,vi s3)]/\Stp [] κ w κ' w'/\q2=xe s3) ?_ ?_
 refine Jv<|Jy1 (λk L w'=>∃κ' v5 s1,L=[(0,.slice a0 p0.length u0),(1,vi s1),(5,vi v5)]/\Stp [] κ w κ' w'/\0<=v5/\xh ((p0.length:Int)-v5)=k/\cntM (fF p0) k v5 s1=some q2) ⟨_,_,⟨κ,0,p1,R,Jj3,(by decide),(by simp),hq3⟩,(KM R)⟩ ?_
 rintro k _ w7 ⟨K8,v5,s1,rfl,S9,hj1,hJ1,h⟩
 rcases k with _ | k
 have hk10:=h;obtain⟨o1,h⟩:=bP (xe (xf s1):Int⊕((Int)⊕(Int)))
 have hc1:decide (v5<(p0.length:Int))=false:=Jo2 (by omega)
 refine Jq<|Jg3 [2,2,2,2] 2 R<|Jn3 R U26 R R<|Jb 1 R<|Jw2 R hc1<|Jc1<|Jt<|Jt ?_
 cases h
 have h:=hk10
 refine Jb1 ?_
 cases h
 exact Jw1 _ ⟨K8,s1,R,S9.wk R,R⟩<|KM R
 obtain⟨o1,h,hk10⟩:=BI h;unfold fF at h
 have hc1:decide (v5<(p0.length:Int))=true:=Jn2 (by omega)
 refine Jq<|Jg3 [2,2,2,2] 2 R<|Jn3 R U26 R R<|Jb 1 R<|Jv2 R hc1<|Js<|Jp<|Jq<|Jv<|Jg3 [2,2,2,1,2,1,2] 2 R<|Ob h λx14 hx14 h=>Jc3 R g0 hx14 U26 Z29 ?_
 obtain⟨ax14,ux14,f12,hl13⟩:=(g0.stp S9 R R).gSl hx14
 refine Jb3 R I29 hl13<|Jn 1 R<|Ob h λx17 hx17 h=>Jh R R R C87 (ot (κ:=Mk K8) (Ji3 f12) hx17) ?_
 rintro _ w14 ⟨k15,rfl,e16⟩
 obtain⟨K17,S18,m19⟩:=Ji e16 2 R
 refine Tv<|Jb 1 R<|Je3 R ?_
 revert h
 cases ht21:decide (x17<0)
 refine JF λh=>Jy R<|Js<|Jz<|Jp<|Jf3 R ?_
 have hw1:t0 .i64 (v5+1)=v5+1:=wr1 hj1 (Jm2 hc1) hN1
 rw[hw1]
 have hc1:=Jm2 hc1
 cases h
 exact Jz1 λa ha=>⟨k,_,Ja3 _,⟨K17,v5+1,x17,R,(S9.tr S18).wk R,by omega,by omega,hk10⟩,(ha.mm R)⟩
 refine JT λh=>Jx R<|Je3 R<|Ju<|Ja1<|Jw<|Jw ?_
 cases h
 obtain rfl:=Option.some.inj hk10
 have h:=yL hK2
 refine Ja1<|Jq2<|Jw<|Ja2 (l:=[.tmp 4]) V88 (Jp2 R R) R ?_
 cases h
 exact⟨K17,R,(hE.stp (S9.tr S18) R R)⟩
 rintro _ w4 ⟨K5,s3,rfl,S6,rfl⟩
 have h:=yI hK2
 refine Jp<|Je3 R<|Ju<|Ja2 (l:=[.tmp 4]) V88 (Jp2 R R) R ?_
 cases h
 exact⟨K5,R,(hE.stp S6 R R)⟩
end Go.Proofs.YtpcjbkgbnoocaaaGreat
