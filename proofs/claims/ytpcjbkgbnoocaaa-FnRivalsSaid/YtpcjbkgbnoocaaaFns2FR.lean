/- The walks, part 2. By program. -/
import Derived.Test.YtpcjbkgbnoocaaaFns0FR
import Derived.Test.YtpcjbkgbnoocaaaFns1FR
set_option linter.unusedVariables false
set_option linter.unusedSimpArgs false
open Go.IntKind renaming wrap → sh
open Sum renaming inr → vq, inl → vr
open Int renaming toNat → vu
namespace Go.Proofs.Ytpcjbkgbnoocaaa
open Go Go.Wk Go.Proofs
set_option maxRecDepth 100000
set_option maxHeartbeats 1000000
variable {w:World}{κ:Col}
theorem bU {aa ab}{p0:l1Cur}{p1:Int}{b0}(g0_0:Rd (Rp.int .u8) κ w 0 aa ab p0.b) (gb0:Bc κ w 2 b0 56 [.slice aa p0.b.length ab,vi p0.i,vi p0.h]){r:Int×Int×Int}(h:cd p0 p1=some r):Ret Try.prog 29 [.pointer (some ⟨b0,0,none⟩),vi p1] w (λv w'=>∃(κ':Col),v=vi r.1/\Ent κ w κ' w'/\Bc κ' w' 2 b0 56 [.slice aa p0.b.length ab,vi r.2.1,vi r.2.2]):=by
 unfold cd at h
 refine Jk3 κ F29 R N29 R λhE=>Je3 R<|Jq<|Je3 R ?_
 revert h
 cases ht1:decide (p1<=0)
 refine JF λh=>Jy R<|Js<|Jp<|Jq<|Je3 R ?_
 revert h
 cases ht2:decide (p1<=256)
 refine JF λh=>Jy R<|Js<|Jp<|Jg3 [2,1,2] 1 R<|Ob h λx18 hx18 h=>Jh R R R C42 (ib (κ:=λb=>mp [(2,2)] 0 (κ b)) (p0:=p0) (Jl2 g0_0 (mp [(2,2)] 0) R R) (gb0.map (mp [(2,2)] 0) R R) hx18) ?_
 rintro _ w13 ⟨k14,rfl,e15,f16⟩
 obtain⟨K17,S18,m19⟩:=Ji e15 3 R
 refine Tv<|Jb 1 R<|Jg3 [2,1,2] 1 R<|Ob h λx20 hx20 h=>?_
 have f22:=g0_0.stp S18 R R
 refine Jh R R R C42 (ib (κ:=λb=>mp [(5,2)] 0<|K17 b) (p0:=(⟨p0.b,x18.2.1,x18.2.2⟩:l1Cur)) (Jl2 f22 (mp [(5,2)] 0) R R) ((f16.mx m19 R (R:3+2=5)).map (mp [(5,2)] 0) R R) hx20) ?_
 rintro _ w23 ⟨k24,rfl,e25,f26⟩
 obtain⟨K27,S28,m29⟩:=Ji e25 6 R
 refine Tv<|Jb 1 R<|Jg3 [2,1,2] 1 R<|Ob h λx22 hx22 h=>?_
 have f32:=f22.stp S28 R R
 refine Jh R R R C42 (ib (κ:=λb=>mp [(8,2)] 0<|K27 b) (p0:=(⟨p0.b,x20.2.1,x20.2.2⟩:l1Cur)) (Jl2 f32 (mp [(8,2)] 0) R R) ((f26.mx m29 R (R:6+2=8)).map (mp [(8,2)] 0) R R) hx22) ?_
 rintro _ w33 ⟨k34,rfl,e35,f36⟩
 obtain⟨K37,S38,m39⟩:=Ji e35 9 R
 refine Tv<|Jb 1 R<|Jg3 [2,1,2] 1 R<|Ob h λx24 hx24 h=>Jh R R R C42 (ib (κ:=λb=>mp [(11,2)] 0<|K37 b) (p0:=(⟨p0.b,x22.2.1,x22.2.2⟩:l1Cur)) (Jl2 (f32.stp S38 R R) (mp [(11,2)] 0) R R) ((f36.mx m39 R (R:9+2=11)).map (mp [(11,2)] 0) R R) hx24) ?_
 rintro _ w43 ⟨k44,rfl,e45,f46⟩
 obtain⟨K47,S48,m49⟩:=Ji e45 12 R
 refine Tv<|Jb 1 R<|Jg3 [2,2,2,2,2,2,2,2,2,2,2,2,2] 11 R<|Ob h λ_z36 hz36 h=>Jf R (nC R R R<|rE hz36)<|Jb 1 R<|Ju<|Ja2 (l:=[.tmp 4]) V29 (Jp2 R R) R ?_
 cases h
 exact⟨(λb=>ren [(14,2)]<|K47 b),R,((hE.stp (T4 S18 S28 S38 S48) R R).map (ren [(14,2)]) R R),((f46.mx m49 R (R:12+2=14)).map (ren [(14,2)]) R R)⟩
 refine JT λh=>Jx R<|Jg3 [2,1,2,2,2] 1 R<|Ob h λx14 hx14 h=>Jh R R R C42 (ib (κ:=λb=>mp [(2,2)] 0 (κ b)) (p0:=p0) (Jl2 g0_0 (mp [(2,2)] 0) R R) (gb0.map (mp [(2,2)] 0) R R) hx14) ?_
 rintro _ w3 ⟨k4,rfl,e5,f6⟩
 obtain⟨K7,S8,m9⟩:=Ji e5 3 R
 refine Tv<|Jn 1 R<|Ob h λ_z16 hz16 h=>Jf R (nC R R R<|rE hz16)<|Jb 1 R<|Ju<|Jw<|Ja2 (l:=[.tmp 4]) V29 (Jp2 R R) R ?_
 cases h
 exact⟨(λb=>ren [(5,2)]<|K7 b),R,((hE.stp S8 R R).map (ren [(5,2)]) R R),((f6.mx m9 R (R:3+2=5)).map (ren [(5,2)]) R R)⟩
 refine JT λh=>Jx R<|Je3 R<|Ju<|Jw<|Ja2 (l:=[.tmp 4]) V29 (Jp2 R R) R ?_
 cases h
 exact⟨κ,R,hE,gb0⟩
theorem gB {p0:Sig}  {r:Bool}(h:gQ p0=some r):Ret Try.prog 23 [.agg #[vi p0.In,vi p0.Out]] w (Pvb κ w r):=by
 unfold gQ at h
 refine Jk3 κ F23 R N23 R λhE=>Je [1,2] R<|Jf1 (κ:=κ) 2 R R R R R R R λb1 w1 K2 S3 f4=>Tv<|Jb 1 R<|Je [2,1,1,2,2,1,1,2,2] R<|Jd3 R U25 R Z2<|Jb3 R I2 (f4.ld 0 R R)<|Ob h λx5 hx5 h=>Jh R R R C24 (cF (κ:=Mk K2) hx5) ?_
 rintro _ w5 ⟨k6,rfl,e7⟩
 obtain⟨K8,S9,m10⟩:=Ji e7 3 R
 refine Tv<|Jn 1 R<|Ob h λp10 h hK12=>Ju1 [(4,2),(5,1),(6,1),(7,2)] [(8,2)] (λL w'=>L=[(2,.bool false),(10,.bool p10)]/\∃κ',Stp [] K8 w5 κ' w') tv ?_ ?_
 revert h
 cases ht13:x5
 refine JF λh=>Jn 1 R<|Jd1 R R R R<|Jd1 R R R R<|Jn 1 R ?_
 cases h
 exact Jv1 _ tv ⟨R,_,Jj3⟩<|KM R
 refine JT λh=>Jd3 R U25 R Z2<|Jb3 R I2 ((f4.stp S9 R R).ld 1 R R)<|Ob h λx9 hx9 h=>Jh R R R C24 (cF (κ:=Mk K8) hx9) ?_
 rintro _ w15 ⟨k16,rfl,e17⟩
 obtain⟨K18,S19,m20⟩:=Ji e17 5 R
 refine Tv<|Jn 1 R ?_
 cases h
 exact Jv1 _ tv ⟨R,_,S19.wk R⟩<|KM R
 rintro _ w22 _ ⟨rfl,K23,S24⟩
 have h:=hK12
 refine Jb 1 R<|Ju<|Ja2 (l:=[.tmp 2]) V23 (Jp2 R R) R ?_
 cases h
 exact⟨K23,R,(hE.stp (T3 S3 S9 S24) R R)⟩
theorem pj {a0 u0}{p0:(List Int)}{p1:Int}(g0:Rd (Rp.int .i64) κ w 0 a0 u0 p0){r:Bool}(h:jK p0 p1=some r):Ret Try.prog 90 [.slice a0 p0.length u0,vi p1] w (Pvb κ w r):=by
 unfold jK at h
 refine Jk3 κ F90 R N90 R λhE=>Je3 R<|Jq<|Je3 R ?_
 have hN1:(p0.length:Int)<=9223372036854775807:=g0.len_le
 refine Ob h λq2 hq3 hK2=>?_
 clear h
 refine Jx1 (λL w'=>∃κ',L=[]/\Stp [] κ w κ' w'/\q2=vq ()) ?_ ?_
 refine Jv<|Jy1 (λk L w'=>∃κ' v5,L=[(0,.slice a0 p0.length u0),(1,vi p1),(5,vi v5)]/\Stp [] κ w κ' w'/\0<=v5/\vu ((p0.length:Int)-v5)=k/\cntM (fQ p0 p1) k v5 ()=some q2) ⟨_,_,⟨κ,0,R,Jj3,(by decide),(by simp),hq3⟩,(KM R)⟩ ?_
 rintro k _ w7 ⟨K8,v5,rfl,S9,hj1,hJ1,h⟩
 rcases k with _ | k
 have hk10:=h;obtain⟨o1,h⟩:=cc (vq (vr ()):Bool⊕((Unit)⊕(Unit)))
 have hc1:decide (v5<(p0.length:Int))=false:=Jo2 (by omega)
 refine Jq<|Jg3 [2,2,2,2] 2 R<|Jn3 R U26 R R<|Jb 1 R<|Jw2 R hc1<|Jc1<|Jt<|Jt ?_
 cases h
 have h:=hk10
 refine Jb1 ?_
 cases h
 exact Jw1 _ ⟨K8,R,S9.wk R,R⟩ KN
 obtain⟨o1,h,hk10⟩:=BI h;unfold fQ at h
 have hc1:decide (v5<(p0.length:Int))=true:=Jn2 (by omega)
 refine Jq<|Jg3 [2,2,2,2] 2 R<|Jn3 R U26 R R<|Jb 1 R<|Jv2 R hc1<|Js<|Jp<|Jq<|Jv<|Jq<|Js1 (κ:=K8) [0] none [(0,2),(1,2),(2,2),(4,2),(5,2),(3,0),(6,1),(7,2),(8,2),(9,2),(10,2),(11,2),(12,2),(13,2),(14,2),(16,2),(17,2),(18,2),(19,2),(15,0),(20,0),(21,2),(22,2),(23,2)] [] (by kernel_rfl) (by kernel_rfl) λw12 S11=>Jn 2 R<|Ob h λx14 hx14 h=>Jc3 R g0 hx14 U26 Z2<|Jn 2 R ?_
 have f13:=g0.stp (S9.tr S11) R R
 refine Jg R (Jc2 I2 R R<|hvC (f13.gInt hx14) R)<|Ob h λx18 hx18 h=>Jh R R R C24 (cF (κ:=Mk K8) hx18) ?_
 rintro _ w14 ⟨k15,rfl,e16⟩
 obtain⟨K17,S18,m19⟩:=Ji e16 2 R
 refine⟨(S18.cl R),Jn 2 R<|Ob h λp35 h hK21=>Ju1 [(9,2),(10,2),(11,2),(12,2),(13,2),(14,2),(16,2),(17,2),(18,2),(19,2),(15,0),(20,0),(21,2),(22,2),(23,2)] [] (λL w'=>L=[(0,.slice a0 p0.length u0),(1,vi p1),(5,vi v5),(35,.bool p35)]/\∃κ',Stp [] K17 w14 κ' w') (S18.cl R) ?_ ?_⟩
 revert h
 cases ht22:(!x18)
 refine JF λh=>Jn 3 R<|Ob h λp34 h hK23=>Ju1 [(12,2),(13,2),(14,2),(16,2),(17,2),(18,2),(19,2),(15,0),(20,0),(21,2),(22,2)] [(23,2)] (λL w'=>L=[(0,.slice a0 p0.length u0),(1,vi p1),(5,vi v5),(20,.bool false),(21,vi v5),(22,.bool (decide (0<v5))),(23,.bool (decide (0<v5))),(34,.bool p34)]/\∃κ',Stp [] K17 w14 κ' w') (S18.cl R) ?_ ?_
 revert h
 cases ht24:decide (0<v5)
 refine JF λh=>Jn 7 R<|Je1 R R R R<|Je1 R R R R<|Jn 2 R ?_
 cases h
 exact Jv1 _ (S18.cl R) ⟨R,_,Jj3⟩<|KM R
 refine JT λh=>Jn 2 R<|Ob h λx26 hx26 h=>Jc3 R f13 hx26 U26 Z2<|Jn 3 R<|Ob h λx31 hx31 h=>Jc3 R f13 hx31 U26 Z2<|Jg R (Jc2 I2 R R<|hvC (f13.gInt hx26) R)<|Jg R (Jc2 I2 R R<|hvC (f13.gInt hx31) R)<|Jn 2 R ?_
 cases h
 exact Jv1 _ (S18.cl R) ⟨R,_,Jj3⟩<|KM R
 rintro _ w25 _ ⟨rfl,K26,S27⟩
 have h:=hK23
 refine Jn 1 R ?_
 cases h
 exact Jv1 _ ((S18.tr S27).cl R) ⟨R,_,S27.wk R⟩<|KM R
 refine JT λh=>Jn 10 R<|Je1 R R R R<|Je1 R R R R<|Jn 3 R ?_
 cases h
 exact Jv1 _ (S18.cl R) ⟨R,_,Jj3⟩<|KM R
 rintro _ w28 _ ⟨rfl,K29,S30⟩
 have h:=hK21
 refine Jt1<|Jd ?_
 revert h
 cases ht31:p35
 refine JF λh=>Jy R<|Js<|Jz<|Jp<|Jf3 R ?_
 have hw1:sh .i64 (v5+1)=v5+1:=wr1 hj1 (Jm2 hc1) hN1
 rw[hw1]
 have hc1:=Jm2 hc1
 cases h
 exact Jz1 λa ha=>⟨k,_,Ja3 _,⟨K29,v5+1,R,(T4 S9 S11 S18 S30).wk R,by omega,by omega,hk10⟩,(ha.mm R)⟩
 refine JT λh=>Jx R<|Je3 R<|Ju<|Ja1<|Jw<|Jw ?_
 cases h
 obtain rfl:=Option.some.inj hk10
 have h:=yL hK2
 refine Ja1<|Jq2<|Jw<|Ja2 (l:=[.tmp 4]) V90 (Jp2 R R) R ?_
 cases h
 exact⟨K29,R,(hE.stp (T4 S9 S11 S18 S30) R R)⟩
 rintro _ w4 ⟨K5,rfl,S6,rfl⟩
 have h:=yI hK2
 refine Jp<|Je3 R<|Ju<|Ja2 (l:=[.tmp 4]) V90 (Jp2 R R) R ?_
 cases h
 exact⟨K5,R,(hE.stp S6 R R)⟩
theorem oV {ab ac aa ad}{p0:Clause}{p1:Int}{p2:Int}(g0_1:Rd (Rp.int .i64) κ w 0 ab ac p0.A) (g0_2:Rd (Rp.int .i64) κ w 0 aa ad p0.B){r:Int}(h:jE p0 p1 p2=some r):Ret Try.prog 75 [.agg #[vi p0.Kind,.slice ab p0.A.length ac,.slice aa p0.B.length ad],vi p1,vi p2] w (Pvi κ w r):=by
 unfold jE at h
 refine Jk3 κ F75 R N75 R λhE=>Je [1,2] R<|Jf1 (κ:=κ) 2 R R R R R R R λb3 w1 K2 S3 f4=>Tv<|Jb 1 R<|Je [2,1,2,1,1,2] R<|Jd3 R U92 R Z26<|Jb3 R I26 (f4.ld 1 R R)<|Jn 1 R<|Ob h λx12 hx12 h=>Jh R R R C89 (kn (κ:=Mk K2) (Ji3<|g0_1.stp S3 R R) hx12) ?_
 rintro _ w6 ⟨k7,rfl,e8⟩
 obtain⟨K9,S10,m11⟩:=Ji e8 3 R
 refine Tv<|Ob h λx13 hx13 h=>Jh R R R C88 (kB (κ:=Mk K9) hx13) ?_
 rintro _ w13 ⟨k14,rfl,e15⟩
 obtain⟨K16,S17,m18⟩:=Ji e15 5 R
 refine Tv<|Jb 1 R<|Je [2,1,2,1,1,2] R<|Jd3 R U92 R Z26 ?_
 have f20:=f4.stp (S10.tr S17) R R
 refine Jb3 R I26 (f20.ld 2 R R)<|Jn 1 R<|Ob h λx17 hx17 h=>Jh R R R C89 (kn (κ:=Mk K16) (Ji3<|g0_2.stp (T3 S3 S10 S17) R R) hx17) ?_
 rintro _ w22 ⟨k23,rfl,e24⟩
 obtain⟨K25,S26,m27⟩:=Ji e24 7 R
 refine Tv<|Ob h λx18 hx18 h=>Jh R R R C88 (kB (κ:=Mk K25) hx18) ?_
 rintro _ w29 ⟨k30,rfl,e31⟩
 obtain⟨K32,S33,m34⟩:=Ji e31 9 R
 refine Tv<|Jb 1 R<|Jq<|Je [2,1] R<|Jd3 R U92 R Z2<|Jb3 R I2 ((f20.stp (S26.tr S33) R R).ld 0 R R)<|Jd<|Jv<|Je3 R ?_
 revert h
 cases ht37:(p0.Kind==1)
 refine JF λh=>Jy R<|Je3 R ?_
 revert h
 cases ht46:(p0.Kind==2)
 refine JF λh=>Jy R<|Je3 R ?_
 revert h
 cases ht60:(p0.Kind==3)
 refine JF λh=>Jy R<|Je3 R ?_
 revert h
 cases ht71:(p0.Kind==4)
 refine JF λh=>Jy R<|Je3 R ?_
 revert h
 cases ht73:(p0.Kind==5)
 refine JF λh=>Jy R<|Je3 R ?_
 revert h
 cases ht75:(p0.Kind==6)
 refine JF λh=>Jy R<|Js<|Jz<|Jp<|Je3 R<|Ju<|Ja2 (l:=[.tmp 6]) V75 (Jp2 R R) R ?_
 cases h
 exact⟨K32,R,(hE.stp (T5 S3 S10 S17 S26 S33) R R)⟩
 refine JT λh=>Jx R<|Jg3 [2,2,1,2] 2 R<|Ob h λx58 hx58 h=>Jh R R R C35 (gC (κ:=Mk K32) hx58) ?_
 rintro _ w76 ⟨k77,rfl,e78⟩
 obtain⟨K79,S80,m81⟩:=Ji e78 11 R
 refine Tv<|Jb 1 R<|Ju<|Ja1<|Jw<|Ja2 (l:=[.tmp 6]) V75 (Jp2 R R) R ?_
 cases h
 exact⟨K79,R,(hE.stp (T6 S3 S10 S17 S26 S33 S80) R R)⟩
 refine JT λh=>Jx R<|Je3 R<|Ju<|Ja1<|Jw<|Ja2 (l:=[.tmp 6]) V75 (Jp2 R R) R ?_
 cases h
 exact⟨K32,R,(hE.stp (T5 S3 S10 S17 S26 S33) R R)⟩
 refine JT λh=>Jx R<|Je3 R<|Ju<|Ja1<|Jw<|Ja2 (l:=[.tmp 6]) V75 (Jp2 R R) R ?_
 cases h
 exact⟨K32,R,(hE.stp (T5 S3 S10 S17 S26 S33) R R)⟩
 refine JT λh=>Jx R<|Jq<|Je3 R ?_
 revert h
 cases ht61:(x18==1)
 refine JF λh=>Jy R<|Js<|Jp<|Jg3 [2,2,1,2] 2 R<|Ob h λx46 hx46 h=>Jh R R R C35 (gC (κ:=Mk K32) hx46) ?_
 rintro _ w63 ⟨k64,rfl,e65⟩
 obtain⟨K66,S67,m68⟩:=Ji e65 11 R
 refine Tv<|Jb 1 R<|Ju<|Ja1<|Jw<|Ja2 (l:=[.tmp 6]) V75 (Jp2 R R) R ?_
 cases h
 exact⟨K66,R,(hE.stp (T6 S3 S10 S17 S26 S33 S67) R R)⟩
 refine JT λh=>Jx R<|Je3 R<|Ju<|Jw<|Ja1<|Jw<|Ja2 (l:=[.tmp 6]) V75 (Jp2 R R) R ?_
 cases h
 exact⟨K32,R,(hE.stp (T5 S3 S10 S17 S26 S33) R R)⟩
 refine JT λh=>Jx R<|Jq<|Jg3 [2,2,2,2,2,2,2,2,2,2] 3 R<|Ob h λp38 h hK47=>Ju1 [(3,2),(4,2),(5,2),(6,2),(7,2),(8,2),(9,2)] [] (λL w'=>L=[(7,vi x13),(38,.bool p38)]/\∃κ',Stp [] K32 w29 κ' w') tv ?_ ?_
 revert h
 cases ht48:(p1==2)
 refine JF λh=>Jn 3 R<|Ob h λp37 h hK49=>Ju1 [(6,2),(7,2),(8,2)] [(9,2)] (λL w'=>L=[(7,vi x13),(31,.bool false),(37,.bool p37)]/\∃κ',Stp [] K32 w29 κ' w') tv ?_ ?_
 revert h
 cases ht50:(p1==1)
 refine JF λh=>Jn 3 R ?_
 cases h
 exact Jv1 _ tv ⟨R,_,Jj3⟩<|KM R
 refine JT λh=>Jn 3 R ?_
 cases h
 exact Jv1 _ tv ⟨R,_,Jj3⟩<|KM R
 rintro _ w51 _ ⟨rfl,K52,S53⟩
 have h:=hK49
 refine Jn 1 R ?_
 cases h
 exact Jv1 _ tv ⟨R,_,S53.wk R⟩<|KM R
 refine JT λh=>Jn 7 R ?_
 cases h
 exact Jv1 _ tv ⟨R,_,Jj3⟩<|KM R
 rintro _ w54 _ ⟨rfl,K55,S56⟩
 have h:=hK47
 refine Jd ?_
 revert h
 cases ht57:p38
 refine JF λh=>Jy R<|Js<|Jp<|Je3 R<|Ju<|Ja1<|Jw<|Ja2 (l:=[.tmp 6]) V75 (Jp2 R R) R ?_
 cases h
 exact⟨K55,R,(hE.stp (T6 S3 S10 S17 S26 S33 S56) R R)⟩
 refine JT λh=>Jx R<|Je3 R<|Ju<|Jw<|Ja1<|Jw<|Ja2 (l:=[.tmp 6]) V75 (Jp2 R R) R ?_
 cases h
 exact⟨K55,R,(hE.stp (T6 S3 S10 S17 S26 S33 S56) R R)⟩
 refine JT λh=>Jx R<|Jg3 [2,2,2,1,2] 3 R<|Ob h λx26 hx26 h=>Jh R R R C35 (gC (κ:=Mk K32) hx26) ?_
 rintro _ w38 ⟨k39,rfl,e40⟩
 obtain⟨K41,S42,m43⟩:=Ji e40 11 R
 refine Tv<|Jb 1 R<|Ju<|Ja1<|Jw<|Ja2 (l:=[.tmp 6]) V75 (Jp2 R R) R ?_
 cases h
 exact⟨K41,R,(hE.stp (T6 S3 S10 S17 S26 S33 S42) R R)⟩
theorem gP {a0 u0}{p0:(List Int)}{p1:Int}(g0:Rd (Rp.int .i64) κ w 0 a0 u0 p0){r:Bool}(h:em p0 p1=some r):Ret Try.prog 21 [.slice a0 p0.length u0,vi p1] w (Pvb κ w r):=by
 unfold em at h
 refine Jk3 κ F21 R N21 R λhE=>Je3 R<|Jq<|Je3 R ?_
 have hN1:(p0.length:Int)<=9223372036854775807:=g0.len_le
 refine Ob h λq2 hq3 hK2=>?_
 clear h
 refine Jx1 (λL w'=>∃κ',L=[]/\Stp [] κ w κ' w'/\q2=vq ()) ?_ ?_
 refine Jv<|Jy1 (λk L w'=>∃κ' v5,L=[(0,.slice a0 p0.length u0),(1,vi p1),(5,vi v5)]/\Stp [] κ w κ' w'/\0<=v5/\vu ((p0.length:Int)-v5)=k/\cntM (e6 p0 p1) k v5 ()=some q2) ⟨_,_,⟨κ,0,R,Jj3,(by decide),(by simp),hq3⟩,(KM R)⟩ ?_
 rintro k _ w7 ⟨K8,v5,rfl,S9,hj1,hJ1,h⟩
 rcases k with _ | k
 have hk10:=h;obtain⟨o1,h⟩:=cc (vq (vr ()):Bool⊕((Unit)⊕(Unit)))
 have hc1:decide (v5<(p0.length:Int))=false:=Jo2 (by omega)
 refine Jq<|Jg3 [2,2,2,2] 2 R<|Jn3 R U26 R R<|Jb 1 R<|Jw2 R hc1<|Jc1<|Jt<|Jt ?_
 cases h
 have h:=hk10
 refine Jb1 ?_
 cases h
 exact Jw1 _ ⟨K8,R,S9.wk R,R⟩ KN
 obtain⟨o1,h,hk10⟩:=BI h;unfold e6 at h
 have hc1:decide (v5<(p0.length:Int))=true:=Jn2 (by omega)
 refine Jq<|Jg3 [2,2,2,2] 2 R<|Jn3 R U26 R R<|Jb 1 R<|Jv2 R hc1<|Js<|Jp<|Jq<|Jv<|Jg3 [2,2,2,1,2,2,1,2] 2 R<|Ob h λx14 hx14 h=>Jc3 R g0 hx14 U26 Z2<|Jb3 R I2 ((g0.stp S9 R R).gInt hx14)<|Jn 2 R<|Ob h λx18 hx18 h=>Jh R R R C24 (cF (κ:=Mk K8) hx18) ?_
 rintro _ w12 ⟨k13,rfl,e14⟩
 obtain⟨K15,S16,m17⟩:=Ji e14 2 R
 refine Tv<|Jb 1 R ?_
 revert h
 cases ht19:(!x18)
 refine JF λh=>Jy R<|Js<|Jz<|Jp<|Jf3 R ?_
 have hw1:sh .i64 (v5+1)=v5+1:=wr1 hj1 (Jm2 hc1) hN1
 rw[hw1]
 have hc1:=Jm2 hc1
 cases h
 exact Jz1 λa ha=>⟨k,_,Ja3 _,⟨K15,v5+1,R,(S9.tr S16).wk R,by omega,by omega,hk10⟩,(ha.mm R)⟩
 refine JT λh=>Jx R<|Je3 R<|Ju<|Ja1<|Jw<|Jw ?_
 cases h
 obtain rfl:=Option.some.inj hk10
 have h:=yL hK2
 refine Ja1<|Jq2<|Jw<|Ja2 (l:=[.tmp 4]) V21 (Jp2 R R) R ?_
 cases h
 exact⟨K15,R,(hE.stp (S9.tr S16) R R)⟩
 rintro _ w4 ⟨K5,rfl,S6,rfl⟩
 have h:=yI hK2
 refine Jp<|Je3 R<|Ju<|Ja2 (l:=[.tmp 4]) V21 (Jp2 R R) R ?_
 cases h
 exact⟨K5,R,(hE.stp S6 R R)⟩
theorem lB {a0 u0}{p0:(List Pair)}{a1 u1}{p1:(List (List Int))}{p2:Int}(g0:Rd Pair.rp κ w 0 a0 u0 p0) (g1:Rd (Rp.sl (Rp.int .i64)) κ w 0 a1 u1 p1){r:(List Pair)}(h:gG p0 p1 p2=some r):Ret Try.prog 87 [.slice a0 p0.length u0,.slice a1 p1.length u1,vi p2] w (Pvs Pair.ep102 102 κ w r):=by
 unfold gG at h
 refine Jk3 κ F87 R N87 R λhE=>Je3 R<|Je [1,2] R<|Jo1 (κ:=κ) (E:=Pair.ep102) 2 R R R R R Y69 dZ R λax az w1 K2 S3 f4=>Tv<|Jb 1 R<|Jq<|Je3 R ?_
 have hN5:(p0.length:Int)<=9223372036854775807:=g0.len_le
 refine Ob h λq2 hq7 hK6=>?_
 clear h
 refine Jx1 (λL w'=>∃κ',∃s3:(List Pair),∃ao an,L=[(7,.slice ao s3.length an)]/\Stp [2,3,4,5,6] K2 w1 κ' w'/\Oc Pair.ep102 102 κ' w' 2 ao an s3/\q2=vq s3) ?_ ?_
 refine Jv<|Jy1 (λk L w'=>∃κ' v8,∃s1:(List Pair),∃ab aa,L=[(0,.slice a0 p0.length u0),(1,.slice a1 p1.length u1),(2,vi p2),(7,.slice ab s1.length aa),(8,vi v8)]/\Stp [2,3,4,5,6] K2 w1 κ' w'/\Oc Pair.ep102 102 κ' w' 2 ab aa s1/\0<=v8/\vu ((p0.length:Int)-v8)=k/\cntM (eT p0 p1 p2) k v8 s1=some q2) ⟨_,_,⟨K2,0,(([]:List Pair):(List Pair)),ax,az,R,Jj3,f4,(by decide),(by simp),hq7⟩,(KM R)⟩ ?_
 rintro k _ w12 ⟨K13,v8,s1,ab,aa,rfl,S14,f15,hj5,hJ5,h⟩
 rcases k with _ | k
 have hk16:=h;obtain⟨o5,h⟩:=cc (vq (vr s1):(List Pair)⊕(((List Pair))⊕((List Pair))))
 have hc5:decide (v8<(p0.length:Int))=false:=Jo2 (by omega)
 refine Jq<|Jg3 [2,2,2,2] 2 R<|Jn3 R U69 R R<|Jb 1 R<|Jw2 R hc5<|Jc1<|Jt<|Jt ?_
 cases h
 have h:=hk16
 refine Jb1 ?_
 cases h
 exact Jw1 _ ⟨K13,s1,ab,aa,R,S14.wk R,f15,R⟩<|KM R
 obtain⟨o5,h,hk16⟩:=BI h;unfold eT at h
 have hc5:decide (v8<(p0.length:Int))=true:=Jn2 (by omega)
 refine Jq<|Jg3 [2,2,2,2] 2 R<|Jn3 R U69 R R<|Jb 1 R<|Jv2 R hc5<|Js<|Jp<|Jq<|Jv<|Je [2,1,1] R<|Jf R (bF (parts:=[]) (cells:=[.slice none 0 0,.slice none 0 0]) R R (by kernel_rfl))<|Jg1 (κ:=K13) 3 R R R R R X102 R λb9 w17 K18 S19 f20=>Tv<|Jj1 (κ:=K18) 3 (vc:=[.slice none 0 0,.slice none 0 0]) R R R R R R R Z102 R R f20 R λw21 S22 f23=>Tv<|Jd<|Jq<|Je3 R ?_
 have hN24:(p1.length:Int)<=9223372036854775807:=g1.len_le
 refine Ob h λq5 hq26 hK25=>?_
 clear h
 refine Jx1 (λL w'=>∃κ',∃s6:(List Int)×(List Int),∃ae ac ah ai,L=[(0,.slice a0 p0.length u0),(1,.slice a1 p1.length u1),(2,vi p2),(7,.slice ab s1.length aa),(8,vi v8),(9,.pointer (some ⟨b9,0,none⟩))]/\Stp [3,4,5] K18 w21 κ' w'/\Oc E6 2 κ' w' 4 ae ac s6.1/\Oc E6 2 κ' w' 5 ah ai s6.2/\Bc κ' w' 3 b9 102 [.slice ae s6.1.length ac,.slice ah s6.2.length ai]/\q5=vq s6) ?_ ?_
 refine Jv<|Jy1 (λk L w'=>∃κ' v10,∃s4:(List Int)×(List Int),∃am al af ad,L=[(0,.slice a0 p0.length u0),(1,.slice a1 p1.length u1),(2,vi p2),(7,.slice ab s1.length aa),(8,vi v8),(9,.pointer (some ⟨b9,0,none⟩)),(10,vi v10)]/\Stp [3,4,5] K18 w21 κ' w'/\Oc E6 2 κ' w' 4 am al s4.1/\Oc E6 2 κ' w' 5 af ad s4.2/\Bc κ' w' 3 b9 102 [.slice am s4.1.length al,.slice af s4.2.length ad]/\0<=v10/\vu ((p1.length:Int)-v10)=k/\cntM (ff p0 p1 p2 v8) k v10 s4=some q5) ⟨_,_,⟨K18,0,((([]:List Int):(List Int)),(([]:List Int):(List Int))),none,0,none,0,R,Jj3,Ow.nil,Ow.nil,f23,(by decide),(by simp),hq26⟩,(KM R)⟩ ?_
 rintro k _ w33 ⟨K34,v10,s4,am,al,af,ad,rfl,S35,f36,f37,f38,hj24,hJ24,h⟩
 rcases k with _ | k
 have hk39:=h;obtain⟨o24,h⟩:=cc (vq (vr s4):(List Pair)⊕(((List Int)×(List Int))⊕((List Int)×(List Int))))
 have hc24:decide (v10<(p1.length:Int))=false:=Jo2 (by omega)
 refine Jq<|Jg3 [2,2,2,2] 2 R<|Jn3 R U27 R R<|Jb 1 R<|Jw2 R hc24<|Jc1<|Jt<|Jt ?_
 cases h
 have h:=hk39
 refine Jb1 ?_
 cases h
 exact Jw1 _ ⟨K34,(s4.1,s4.2),am,al,af,ad,R,S35.wk R,f36,f37,f38,R⟩<|KM R
 obtain⟨o24,h,hk39⟩:=BI h;unfold ff at h
 have hc24:decide (v10<(p1.length:Int))=true:=Jn2 (by omega)
 refine Jq<|Jg3 [2,2,2,2] 2 R<|Jn3 R U27 R R<|Jb 1 R<|Jv2 R hc24<|Js<|Jp<|Jq<|Jv<|Jq<|Jq<|Js1 (κ:=K34) [0] none [(0,2),(1,2),(2,2),(3,2),(5,2),(6,2),(7,2),(9,2),(4,0),(8,0),(10,2),(11,0),(12,1)] [] (by kernel_rfl) (by kernel_rfl) λw41 S40=>Jn 2 R<|Ob h λx27 hx27 h=>Jc3 R g0 hx27 U69 Z102<|Jd3 R U102 R Z26<|Jn 2 R<|Ob h λx32 hx32 h=>Jc3 R g1 hx32 U27 Z26<|Jn 1 R ?_
 have f42:=g0.stp (T6 S3 S14 S19 S22 S35 S40) R R
 obtain⟨cse43,hre43,hle43⟩:=(f42).gSt hx27
 obtain⟨ae43_0,ue43_0,ae43_1,ue43_1,rfl,fe43_0,fe43_1⟩:=Pair.un hre43
 refine Jg R (Jc2 I26 R R<|hvC (λw' hw'=>hle43 w' hw' 0 _ R) R) ?_
 have f44:=g1.stp (T6 S3 S14 S19 S22 S35 S40) R R
 obtain⟨ax32,ux32,f45,hl46⟩:=f44.gSl hx32
 refine Jg R (Jc2 I26 R R<|hvC hl46 R)<|Ob h λx35 hx35 h=>Jc3 R f45 hx35 U26 Z2<|Jg R (Jc2 I2 R R<|hvC (f45.gInt hx35) R)<|Ob h λx37 hx37 h=>Jh R R R C89 (kn (κ:=Mk K34) (Ji3 fe43_0) hx37) ?_
 rintro _ w47 ⟨k48,rfl,e49⟩
 obtain⟨K50,S51,m52⟩:=Ji e49 6 R
 refine⟨(S51.cl R),Jt1<|Jd<|Ob h λq7 h hK54=>Jx1 (λL w'=>∃κ' ak aj,L=[(0,.slice a0 p0.length u0),(1,.slice a1 p1.length u1),(2,vi p2),(7,.slice ab s1.length aa),(8,vi v8),(9,.pointer (some ⟨b9,0,none⟩)),(10,vi v10)]/\Stp [3,4] K50 w47 κ' w'/\Oc E6 2 κ' w' 4 ak aj q7/\Bc κ' w' 3 b9 102 [.slice ak q7.length aj,.slice af s4.2.length ad]) ?_ ?_⟩
 revert h
 cases ht60:x37
 refine JF λh=>Jy R<|Js ?_
 cases h
 exact Jw1 _ ⟨K50,am,al,R,Jj3,(f36.stp (S40.tr S51) R R),(f38.stp (S40.tr S51) R R)⟩<|KM R
 refine JT λh=>Jx R<|Ja [2,1,2,1,1,2,1] R<|Jd3 R U102 R Z26 ?_
 have f61:=f38.stp (S40.tr S51) R R
 refine Jb3 R I26 (f61.ld 0 R R)<|Jn 1 R<|Jn1 (κ:=K50) (E:=E6) 8 [] (parts:=[(0,.tmp 40)]) (cells:=[vi v10]) (xs:=([v10]:List Int)) R R R R R R Y26 a8 R R R R R R R R R R ⟨[vi v10],[],Zl K50 w47 [],Zl K50 w47 [],R,Zl.sp (l1:=[]) (l2:=[]) R,Zl.sr (l1:=[]) (l2:=[]),R,R⟩ λaF aD w62 K63 S64 f65=>Tv<|Ob h λx42 hx42 h=>Jm1 (κ:=K63) (E:=E6) 4 [] R R R R R R R R R Y26 a8 R R R R (f36.stp (T3 S40 S51 S64) R R) (Sl.srcP (cb _) f65.rdc) bJ hx42 R λaw ar w67 K68 S69 f70=>Tv<|Jd3 R U102 R Z26<|Ji1 (κ:=K68) 3 (off:=0) (vc:=[.slice aw x42.length ar]) (cs':=[.slice aw x42.length ar,.slice af s4.2.length ad]) R R R R R R R Z26 R R (f61.stp (S64.tr S69) R R) R R λw72 S73 f74=>Tv<|Jo ?_
 cases h
 exact Jw1 _ ⟨K68,aw,ar,R,(T3 S64 S69 S73).wk R,(f70.stp S73 R R),f74⟩<|KM R
 rintro _ w55 ⟨K56,ak,aj,rfl,S57,f58,f59⟩
 have h:=hK54
 refine Jp<|Jq<|Js1 (κ:=K56) [0] none [(0,2),(1,2),(2,2),(3,2),(5,2),(6,2),(7,2),(9,2),(4,0),(8,0),(10,2),(11,0),(12,1)] [] (by kernel_rfl) (by kernel_rfl) λw79 S78=>Jn 2 R<|Ob h λx46 hx46 h=>Jc3 R f42 hx46 U69 Z102<|Jd3 R U102 R Z26<|Jn 2 R<|Ob h λx51 hx51 h=>Jc3 R f44 hx51 U27 Z26<|Jn 1 R ?_
 obtain⟨cse81,hre81,hle81⟩:=((f42.stp (T3 S51 S57 S78) R R)).gSt hx46
 obtain⟨ae81_0,ue81_0,ae81_1,ue81_1,rfl,fe81_0,fe81_1⟩:=Pair.un hre81
 refine Jg R (Jc2 I26 R R<|hvC (λw' hw'=>hle81 w' hw' 1 _ R) R) ?_
 obtain⟨ax51,ux51,f83,hl84⟩:=(f44.stp (T3 S51 S57 S78) R R).gSl hx51
 refine Jg R (Jc2 I26 R R<|hvC hl84 R)<|Ob h λx54 hx54 h=>Jc3 R f83 hx54 U26 Z2<|Jg R (Jc2 I2 R R<|hvC (f83.gInt hx54) R)<|Ob h λx56 hx56 h=>Jh R R R C89 (kn (κ:=Mk K56) (Ji3 fe81_1) hx56) ?_
 rintro _ w85 ⟨k86,rfl,e87⟩
 obtain⟨K88,S89,m90⟩:=Ji e87 8 R
 refine⟨(S89.cl R),Jt1<|Jd<|Ob h λq8 h hK92=>Jx1 (λL w'=>∃κ' ap aq,L=[(0,.slice a0 p0.length u0),(1,.slice a1 p1.length u1),(2,vi p2),(7,.slice ab s1.length aa),(8,vi v8),(9,.pointer (some ⟨b9,0,none⟩)),(10,vi v10)]/\Stp [3,5] K88 w85 κ' w'/\Oc E6 2 κ' w' 5 ap aq q8/\Bc κ' w' 3 b9 102 [.slice ak q7.length aj,.slice ap q8.length aq]) ?_ ?_⟩
 revert h
 cases ht98:x56
 refine JF λh=>Jy R<|Js ?_
 cases h
 exact Jw1 _ ⟨K88,af,ad,R,Jj3,(f37.stp (T5 S40 S51 S57 S78 S89) R R),(f59.stp (S78.tr S89) R R)⟩<|KM R
 refine JT λh=>Jx R<|Ja [2,1,2,1,1,2,1] R<|Jd3 R U102 R Z26 ?_
 have f99:=f59.stp (S78.tr S89) R R
 refine Jb3 R I26 (f99.ld 1 R R)<|Jn 1 R<|Jn1 (κ:=K88) (E:=E6) 10 [] (parts:=[(0,.tmp 59)]) (cells:=[vi v10]) (xs:=([v10]:List Int)) R R R R R R Y26 a8 R R R R R R R R R R ⟨[vi v10],[],Zl K88 w85 [],Zl K88 w85 [],R,Zl.sp (l1:=[]) (l2:=[]) R,Zl.sr (l1:=[]) (l2:=[]),R,R⟩ λaE aC w100 K101 S102 f103=>Tv<|Ob h λx61 hx61 h=>Jm1 (κ:=K101) (E:=E6) 5 [] R R R R R R R R R Y26 a8 R R R R (f37.stp (T6 S40 S51 S57 S78 S89 S102) R R) (Sl.srcP (cb _) f103.rdc) bJ hx61 R λau av w105 K106 S107 f108=>Tv<|Jd3 R U102 R Z26<|Ji1 (κ:=K106) 3 (off:=1) (vc:=[.slice au x61.length av]) (cs':=[.slice ak q7.length aj,.slice au x61.length av]) R R R R R R R Z26 R R (f99.stp (S102.tr S107) R R) R R λw110 S111 f112=>Tv<|Jo ?_
 cases h
 exact Jw1 _ ⟨K106,au,av,R,(T3 S102 S107 S111).wk R,(f108.stp S111 R R),f112⟩<|KM R
 rintro _ w93 ⟨K94,ap,aq,rfl,S95,f96,f97⟩
 have h:=hK92
 refine Jz<|Jp<|Jf3 R ?_
 have hw24:sh .i64 (v10+1)=v10+1:=wr1 hj24 (Jm2 hc24) hN24
 rw[hw24]
 have hc24:=Jm2 hc24
 cases h
 exact Jz1 λa ha=>⟨k,_,Ja3 _,⟨K94,v10+1,(q7,q8),ak,aj,ap,aq,R,(T7 S35 S40 S51 S57 S78 S89 S95).wk R,(f58.stp (T3 S78 S89 S95) R R),f96,f97,by omega,by omega,hk39⟩,(ha.mm R)⟩
 rintro _ w27 ⟨K28,s6,ae,ac,ah,ai,rfl,S29,f30,f31,f32,rfl⟩
 have h:=yI hK25
 refine Jp<|Jh3 [2,1,1,1,2] 1 R<|Jl tv R R R R (Jd2 (cs:=[.slice ae s6.1.length ac,.slice ah s6.2.length ai]) I102 Z102 R R R<|haE f32.cells)<|Jn1 (κ:=K28) (E:=Pair.ep102) 6 [4,5] (parts:=[(0,.tmp 64)]) (cells:=[.slice ae s6.1.length ac,.slice ah s6.2.length ai]) (xs:=([(⟨s6.1,s6.2⟩:Pair)]:List Pair)) R R R R R R Y69 dZ R R R R R R R R R R ⟨[.slice ae s6.1.length ac,.slice ah s6.2.length ai],[],Zl K28 w27 [4,5],Zl K28 w27 [],R,Zl.sp (l1:=[4,5]) (l2:=[]) R,Zl.sr (l1:=[4,5]) (l2:=[]),⟨[.slice ae s6.1.length ac],[.slice ah s6.2.length ai],Zl K28 w27 [4],Zl K28 w27 [5],R,Zl.sp (l1:=[4]) (l2:=[5]) R,Zl.sr (l1:=[4]) (l2:=[5]),⟨_,_,R,f30⟩,⟨_,_,R,f31⟩⟩,R⟩ λaG aB w117 K118 S119 f120=>Tv<|Ob h λx66 hx66 h=>Jm1 (κ:=K118) (E:=Pair.ep102) 2 [6] R R R R R R R R R Y69 dZ R R R R (f15.stp (T4 S19 S22 S29 S119) R R) f120.src (fk R) hx66 R λaA ay w122 K123 S124 f125=>Tv<|Jc 1 R<|Jz<|Jp<|Jf3 R ?_
 have hw5:sh .i64 (v8+1)=v8+1:=wr1 hj5 (Jm2 hc5) hN5
 rw[hw5]
 have hc5:=Jm2 hc5
 cases h
 exact Jz1 λa ha=>⟨k,_,Ja3 _,⟨K123,v8+1,x66,aA,ay,R,(T6 S14 S19 S22 S29 S119 S124).wk R,f125,by omega,by omega,hk16⟩,(ha.mm R)⟩
 rintro _ w8 ⟨K9,s3,ao,an,rfl,S10,f11,rfl⟩
 have h:=yI hK6
 refine Jp<|Je3 R<|Ju<|Ja2 (l:=[.tmp 6]) V87 (Jp2 R R) R ?_
 cases h
 exact⟨K9,ao,an,R,(hE.stp (S3.tr S10) R R),f11⟩
theorem iH {p0:Sig}  {r:Int}(h:dc p0=some r):Ret Try.prog 25 [.agg #[vi p0.In,vi p0.Out]] w (Pvi κ w r):=by
 unfold dc at h
 refine Jk3 κ F25 R N25 R λhE=>Je [1,2] R<|Jf1 (κ:=κ) 2 R R R R R R R λb1 w1 K2 S3 f4=>Tv<|Jb 1 R<|Je [2,1,1,2] R<|Jd3 R U25 R Z2<|Jb3 R I2 (f4.ld 0 R R)<|Ob h λx5 hx5 h=>Jh R R R C33 (cQ (κ:=Mk K2) hx5) ?_
 rintro _ w5 ⟨k6,rfl,e7⟩
 obtain⟨K8,S9,m10⟩:=Ji e7 3 R
 refine Tv<|Jb 1 R<|Ju<|Ja2 (l:=[.tmp 2]) V25 (Jp2 R R) R ?_
 cases h
 exact⟨K8,R,(hE.stp (S3.tr S9) R R)⟩
theorem qv {a0 u0}{p0:(List Int)}{p1:Int}(g0:Rd (Rp.int .i64) κ w 0 a0 u0 p0){r:(List Int)}(h:gU p0 p1=some r):Ret Try.prog 76 [.slice a0 p0.length u0,vi p1] w (λv w'=>∃(κ':Col) (ra0:Option Addr) (ru0:Nat),v= .slice ra0 r.length ru0/\Ent κ w κ' w'/\Rd (Rp.int .i64) κ' w' 0 ra0 ru0 r):=by
 unfold gU at h
 refine Jk3 κ F76 R N76 R λhE=>Je3 R<|Je3 R<|Jq<|Ob h λq2 hq3 hK2=>?_
 clear h
 refine Jx1 (λL w'=>∃κ' s3,L=[(0,.slice a0 p0.length u0),(1,vi p1),(5,vi s3)]/\Stp [] κ w κ' w'/\q2=vq s3) ?_ ?_
 refine Jv<|Jy1 (λk L w'=>∃κ' s1,L=[(0,.slice a0 p0.length u0),(1,vi p1),(5,vi s1)]/\Stp [] κ w κ' w'/\bP (eo p0 p1) k s1=some q2) ⟨_,_,⟨κ,(0:Int),R,Jj3,hq3⟩,(KM R)⟩ ?_
 rintro k _ w7 ⟨K8,s1,rfl,S9,h⟩
 rcases k with _ | k
 cases h
 obtain⟨o1,h,hk10⟩:=BI h;unfold eo at h
 refine Jq<|Jg3 [2,2,2,2,2,2,2,2,1,2,2,2] 2 R<|Jn3 R U26 R R<|Jn 2 R<|Ob h λp18 h hK11=>Ju1 [(5,2),(6,2),(7,2),(8,1),(9,2),(10,2),(11,2)] [] (λL w'=>L=[(0,.slice a0 p0.length u0),(1,vi p1),(5,vi s1),(18,.bool p18)]/\∃κ',Stp [] K8 w7 κ' w') tv ?_ ?_
 revert h
 cases ht12:decide (s1<(p0.length:Int))
 refine JF λh=>Jn 3 R<|Jd1 R R R R<|Jn 3 R ?_
 cases h
 exact Jv1 _ tv ⟨R,_,Jj3⟩<|KM R
 refine JT λh=>Jn 2 R<|Ob h λx14 hx14 h=>Jc3 R g0 hx14 U26 Z2<|Jb3 R I2 ((g0.stp S9 R R).gInt hx14)<|Jn 3 R ?_
 cases h
 exact Jv1 _ tv ⟨R,_,Jj3⟩<|KM R
 rintro _ w14 _ ⟨rfl,K15,S16⟩
 have h:=hK11
 refine Jd ?_
 revert h
 cases ht17:p18
 refine JF λh=>Jy R<|Jc1<|Jt<|Jt ?_
 cases h
 have h:=hk10
 refine Jb1 ?_
 cases h
 exact Jw1 _ ⟨K15,s1,R,(S9.tr S16).wk R,R⟩<|KM R
 refine JT λh=>Jx R<|Js<|Jp<|Jv<|Jf3 R<|Jz ?_
 cases h
 exact Jz1 λa ha=>⟨k,_,Ja3 _,⟨K15,((IntKind.i64.wrap<|s1+1):Int),R,(S9.tr S16).wk R,hk10⟩,(ha.mm R)⟩
 rintro _ w4 ⟨K5,s3,rfl,S6,rfl⟩
 have h:=yI hK2
 refine Jp<|Jq<|Jg3 [2,2,2,2,2,2,2,2,1,2,2,2] 2 R<|Jn3 R U26 R R<|Jn 2 R<|Ob h λp32 h hK18=>Ju1 [(5,2),(6,2),(7,2),(8,1),(9,2),(10,2),(11,2)] [] (λL w'=>L=[(0,.slice a0 p0.length u0),(1,vi p1),(5,vi s3),(32,.bool p32)]/\∃κ',Stp [] K5 w4 κ' w') tv ?_ ?_
 revert h
 cases ht19:decide (s3<(p0.length:Int))
 refine JF λh=>Jn 3 R<|Jd1 R R R R<|Jn 3 R ?_
 cases h
 exact Jv1 _ tv ⟨R,_,Jj3⟩<|KM R
 refine JT λh=>Jn 2 R<|Ob h λx28 hx28 h=>Jc3 R g0 hx28 U26 Z2<|Jb3 R I2 ((g0.stp S6 R R).gInt hx28)<|Jn 3 R ?_
 cases h
 exact Jv1 _ tv ⟨R,_,Jj3⟩<|KM R
 rintro _ w21 _ ⟨rfl,K22,S23⟩
 have h:=hK18
 refine Jd ?_
 revert h
 cases ht24:p32
 refine JF λh=>Jy R<|Js<|Jp<|Jg3 [2,2,2,1,2,1,1,2] 2 R<|Ob h λx36 hx36 h=>Jf R (jR (k1:= .i64) (k2:= .i64) U26 Z2 (.inl ⟨R,R⟩) (.inr ⟨_,R,R⟩) hx36 g0.1 R R R) ?_
 have f28:=g0.stp (S6.tr S23) R R
 refine Ob h λx37 hx37 h=>Jh R R R C59 (df (κ:=Mk K22) (Ji3<|f28.sub hx36) hx37) ?_
 rintro _ w29 ⟨k30,ac,af,rfl,e31,f32⟩
 obtain⟨K33,S34,m35⟩:=Ji e31 2 R
 refine Tv<|Jn 1 R<|Jn1 (κ:=K33) (E:=E6) 5 [] (parts:=[(0,.tmp 38)]) (cells:=[vi p1]) (xs:=([p1]:List Int)) R R R R R R Y26 a8 R R R R R R R R R R ⟨[vi p1],[],Zl K33 w29 [],Zl K33 w29 [],R,Zl.sp (l1:=[]) (l2:=[]) R,Zl.sr (l1:=[]) (l2:=[]),R,R⟩ λae ai w38 K39 S40 f41=>Tv<|Ob h λx40 hx40 h=>Jm1 (κ:=K39) (E:=E6) 4 [] R R R R R R R R R Y26 a8 R R R R ((f32.mx (bE _) m35 R (R:2+2=4)).stp S40 R R) (Sl.srcP (cb _) f41.rdc) bJ hx40 R λah ad w43 K44 S45 f46=>Tv<|Jb 1 R<|Jg3 [2,2,2,2,1,2] 3 R<|Ob h λx44 hx44 h=>Jf R (jR (k1:= .i64) (k2:= .i64) U26 Z2 (.inr ⟨_,R,R⟩) (.inl ⟨R,R⟩) hx44 f28.1 R R R)<|Ob h λx45 hx45 h=>Jm1 (κ:=K44) (E:=E6) 4 [] R R R R R R R R R Y26 a8 R R R R f46 (Sl.srcP (cb _) ((f28.stp (T3 S34 S40 S45) R R).sub hx44)) bJ hx45 R λab aa w49 K50 S51 f52=>Tv<|Jb 1 R<|Ju ?_
 obtain⟨K53,S54,z55⟩:=kz K50 w49 4
 refine Ja2 (l:=[.tmp 4]) V76 (Jp2 R R) R ?_
 cases h
 exact⟨K53,ab,aa,R,(hE.stp (T7 S6 S23 S34 S40 S45 S51 S54) R R),(Sl.st z55 f52.rdc)⟩
 refine JT λh=>Jx R<|Je3 R<|Ju<|Jw<|Ja2 (l:=[.tmp 4]) V76 (Jp2 R R) R ?_
 cases h
 exact⟨K22,a0,u0,R,(hE.stp (S6.tr S23) R R),(g0.stp (S6.tr S23) R R)⟩
theorem pa {a0 u0}{p0:(List Pair)}{a1 u1}{p1:(List Int)}{p2:Int}(g0:Rd Pair.rp κ w 0 a0 u0 p0) (g1:Rd (Rp.int .i64) κ w 0 a1 u1 p1){r:(List Int)}(h:gr p0 p1 p2=some r):Ret Try.prog 62 [.slice a0 p0.length u0,.slice a1 p1.length u1,vi p2] w (Pvs E6 2 κ w r):=by
 unfold gr at h
 refine Jk3 κ F62 R N62 R λhE=>Je3 R<|Je [1,2] R<|Jo1 (κ:=κ) (E:=E6) 2 R R R R R Y26 a8 R λao ap w1 K2 S3 f4=>Tv<|Jb 1 R<|Je [1,2] R<|Jo1 (κ:=K2) (E:=E6) 3 R R R R R Y26 a8 R λan av w5 K6 S7 f8=>Tv<|Jb 1 R<|Jq<|Je3 R ?_
 have hN9:(p1.length:Int)<=9223372036854775807:=g1.len_le
 refine Ob h λq2 hq11 hK10=>?_
 clear h
 refine Jx1 (λL w'=>∃κ',∃s3:(List Int)×(List Int),∃al ak am aj,L=[(7,.slice al s3.1.length ak),(8,.slice am s3.2.length aj)]/\Stp [2,3] K6 w5 κ' w'/\Oc E6 2 κ' w' 2 al ak s3.1/\Oc E6 2 κ' w' 3 am aj s3.2/\q2=vq s3) ?_ ?_
 refine Jv<|Jy1 (λk L w'=>∃κ' v9,∃s1:(List Int)×(List Int),∃ad ab ac aa,L=[(0,.slice a0 p0.length u0),(1,.slice a1 p1.length u1),(2,vi p2),(7,.slice ad s1.1.length ab),(8,.slice ac s1.2.length aa),(9,vi v9)]/\Stp [2,3] K6 w5 κ' w'/\Oc E6 2 κ' w' 2 ad ab s1.1/\Oc E6 2 κ' w' 3 ac aa s1.2/\0<=v9/\vu ((p1.length:Int)-v9)=k/\cntM (dW p0 p1 p2) k v9 s1=some q2) ⟨_,_,⟨K6,0,((([]:List Int):(List Int)),(([]:List Int):(List Int))),ao,ap,an,av,R,Jj3,(f4.stp S7 R R),f8,(by decide),(by simp),hq11⟩,(KM R)⟩ ?_
 rintro k _ w17 ⟨K18,v9,s1,ad,ab,ac,aa,rfl,S19,f20,f21,hj9,hJ9,h⟩
 rcases k with _ | k
 have hk23:=h;obtain⟨o9,h⟩:=cc (vq (vr s1):(List Int)⊕(((List Int)×(List Int))⊕((List Int)×(List Int))))
 have hc9:decide (v9<(p1.length:Int))=false:=Jo2 (by omega)
 refine Jq<|Jg3 [2,2,2,2] 2 R<|Jn3 R U26 R R<|Jb 1 R<|Jw2 R hc9<|Jc1<|Jt<|Jt ?_
 cases h
 have h:=hk23
 refine Jb1 ?_
 cases h
 exact Jw1 _ ⟨K18,(s1.1,s1.2),ad,ab,ac,aa,R,S19.wk R,f20,f21,R⟩<|KM R
 obtain⟨o9,h,hk23⟩:=BI h;unfold dW at h
 have hc9:decide (v9<(p1.length:Int))=true:=Jn2 (by omega)
 refine Jq<|Jg3 [2,2,2,2] 2 R<|Jn3 R U26 R R<|Jb 1 R<|Jv2 R hc9<|Js<|Jp<|Jq<|Jv<|Jg3 [2,2,2,2,1,2,2,1,2,1] 3 R<|Ob h λx21 hx21 h=>Jc3 R g1 hx21 U26 Z2 ?_
 have f24:=g1.stp (T3 S3 S7 S19) R R
 refine Jb3 R I2 (f24.gInt hx21)<|Ob h λx23 hx23 h=>Jc3 R g0 hx23 U69 Z102<|Jd3 R U102 R Z26 ?_
 obtain⟨cse26,hre26,hle26⟩:=((g0.stp (T3 S3 S7 S19) R R)).gSt hx23
 obtain⟨ae26_0,ue26_0,ae26_1,ue26_1,rfl,fe26_0,fe26_1⟩:=Pair.un hre26
 refine Jb3 R I26 (λw' hw'=>hle26 w' hw' 1 _ R)<|Jn 1 R<|Ob h λx27 hx27 h=>Jh R R R C79 (kH (κ:=Mk K18) (Ji3 fe26_1) hx27) ?_
 rintro _ w27 ⟨k28,rfl,e29⟩
 obtain⟨K30,S31,m32⟩:=Ji e29 4 R
 refine Tv<|Jd<|Ob h λq4 h hK34=>Jx1 (λL w'=>∃κ' ai ae ah af,L=[(0,.slice a0 p0.length u0),(1,.slice a1 p1.length u1),(2,vi p2),(7,.slice ai q4.1.length ae),(8,.slice ah q4.2.length af),(9,vi v9)]/\Stp [2,3] K30 w27 κ' w'/\Oc E6 2 κ' w' 2 ai ae q4.1/\Oc E6 2 κ' w' 3 ah af q4.2) ?_ ?_
 revert h
 cases ht40:x27
 refine JF λh=>Jy R<|Jh3 [2,2,2,2,1,1,1,2] 3 R<|Ob h λx38 hx38 h=>Jc3 R f24 hx38 U26 Z2<|Jb3 R I2 ((f24.stp S31 R R).gInt hx38)<|Jn1 (κ:=K30) (E:=E6) 6 [] (parts:=[(0,.tmp 39)]) (cells:=[vi x38]) (xs:=([x38]:List Int)) R R R R R R Y26 a8 R R R R R R R R R R ⟨[vi x38],[],Zl K30 w27 [],Zl K30 w27 [],R,Zl.sp (l1:=[]) (l2:=[]) R,Zl.sr (l1:=[]) (l2:=[]),R,R⟩ λaA aB w53 K54 S55 f56=>Tv<|Ob h λx41 hx41 h=>Jm1 (κ:=K54) (E:=E6) 3 [] R R R R R R R R R Y26 a8 R R R R (f21.stp (S31.tr S55) R R) (Sl.srcP (cb _) f56.rdc) bJ hx41 R λay aw w58 K59 S60 f61=>Tv<|Jc 1 R ?_
 cases h
 exact Jw1 _ ⟨K59,ad,ab,ay,aw,R,(S55.tr S60).wk R,(f20.stp (T3 S31 S55 S60) R R),f61⟩<|KM R
 refine JT λh=>Jx R<|Jh3 [2,2,2,2,1,1,1,2] 3 R<|Ob h λx31 hx31 h=>Jc3 R f24 hx31 U26 Z2<|Jb3 R I2 ((f24.stp S31 R R).gInt hx31)<|Jn1 (κ:=K30) (E:=E6) 6 [] (parts:=[(0,.tmp 32)]) (cells:=[vi x31]) (xs:=([x31]:List Int)) R R R R R R Y26 a8 R R R R R R R R R R ⟨[vi x31],[],Zl K30 w27 [],Zl K30 w27 [],R,Zl.sp (l1:=[]) (l2:=[]) R,Zl.sr (l1:=[]) (l2:=[]),R,R⟩ λaC az w42 K43 S44 f45=>Tv<|Ob h λx34 hx34 h=>Jm1 (κ:=K43) (E:=E6) 2 [] R R R R R R R R R Y26 a8 R R R R (f20.stp (S31.tr S44) R R) (Sl.srcP (cb _) f45.rdc) bJ hx34 R λau aq w47 K48 S49 f50=>Tv<|Jc 1 R ?_
 cases h
 exact Jw1 _ ⟨K48,au,aq,ac,aa,R,(S44.tr S49).wk R,f50,(f21.stp (T3 S31 S44 S49) R R)⟩<|KM R
 rintro _ w35 ⟨K36,ai,ae,ah,af,rfl,S37,f38,f39⟩
 have h:=hK34
 refine Jz<|Jp<|Jf3 R ?_
 have hw9:sh .i64 (v9+1)=v9+1:=wr1 hj9 (Jm2 hc9) hN9
 rw[hw9]
 have hc9:=Jm2 hc9
 cases h
 exact Jz1 λa ha=>⟨k,_,Ja3 _,⟨K36,v9+1,(q4.1,q4.2),ai,ae,ah,af,R,(T3 S19 S31 S37).wk R,f38,f39,by omega,by omega,hk23⟩,(ha.mm R)⟩
 rintro _ w12 ⟨K13,s3,al,ak,am,aj,rfl,S14,f15,f16,rfl⟩
 have h:=yI hK10
 refine Jp<|Jg3 [2,2,1,2] 2 R<|Ob h λx44 hx44 h=>Jm1 (κ:=K13) (E:=E6) 2 [] R R R R R R R R R Y26 a8 R R R R f15 (Sl.srcP (cb _) f16.rdc) bJ hx44 R λax ar w63 K64 S65 f66=>Tv<|Jb 1 R<|Ju<|Ja2 (l:=[.tmp 6]) V62 (Jp2 R R) R ?_
 cases h
 exact⟨K64,ax,ar,R,(hE.stp (T4 S3 S7 S14 S65) R R),f66⟩
theorem pS {a0 u0}{p0:(List Place)}{p1:Int}{a2 u2}{p2:(List Int)}(g0:Rd Place.rp κ w 0 a0 u0 p0) (g2:Rd (Rp.int .i64) κ w 0 a2 u2 p2){r:Int}(h:jC p0 p1 p2=some r):Ret Try.prog 63 [.slice a0 p0.length u0,vi p1,.slice a2 p2.length u2] w (Pvi κ w r):=by
 unfold jC at h
 refine Jk3 κ F63 R N63 R λhE=>Je3 R<|Jq<|Je3 R ?_
 have hN1:(p0.length:Int)<=9223372036854775807:=g0.len_le
 refine Ob h λq2 hq3 hK2=>?_
 clear h
 refine Jx1 (λL w'=>∃κ',L=[]/\Stp [] κ w κ' w'/\q2=vq ()) ?_ ?_
 refine Jv<|Jy1 (λk L w'=>∃κ' v7,L=[(0,.slice a0 p0.length u0),(1,vi p1),(2,.slice a2 p2.length u2),(7,vi v7)]/\Stp [] κ w κ' w'/\0<=v7/\vu ((p0.length:Int)-v7)=k/\cntM (fY p0 p1 p2) k v7 ()=some q2) ⟨_,_,⟨κ,0,R,Jj3,(by decide),(by simp),hq3⟩,(KM R)⟩ ?_
 rintro k _ w7 ⟨K8,v7,rfl,S9,hj1,hJ1,h⟩
 rcases k with _ | k
 have hk10:=h;obtain⟨o1,h⟩:=cc (vq (vr ()):Int⊕((Unit)⊕(Unit)))
 have hc1:decide (v7<(p0.length:Int))=false:=Jo2 (by omega)
 refine Jq<|Jg3 [2,2,2,2] 2 R<|Jn3 R U80 R R<|Jb 1 R<|Jw2 R hc1<|Jc1<|Jt<|Jt ?_
 cases h
 have h:=hk10
 refine Jb1 ?_
 cases h
 exact Jw1 _ ⟨K8,R,S9.wk R,R⟩ KN
 obtain⟨o1,h,hk10⟩:=BI h;unfold fY at h
 have hc1:decide (v7<(p0.length:Int))=true:=Jn2 (by omega)
 refine Jq<|Jg3 [2,2,2,2] 2 R<|Jn3 R U80 R R<|Jb 1 R<|Jv2 R hc1<|Js<|Jp<|Jq<|Jv<|Jg3 [2,2,2,2,1,2,2,2,2,2,2,2,1,2,1,2] 2 R<|Ob h λx16 hx16 h=>Jc3 R g0 hx16 U80 Z87<|Jd3 R U87 R Z2 ?_
 have f11:=g0.stp S9 R R
 obtain⟨cse12,hre12,hle12⟩:=(f11).gSt hx16
 obtain⟨ae12_0,ue12_0,rfl,fe12_0⟩:=Place.un hre12
 refine Jb3 R I2 (λw' hw'=>hle12 w' hw' 0 _ R)<|Jn 3 R<|Ob h λp29 h hK13=>Ju1 [(8,2),(9,2),(10,2),(11,2),(12,1),(13,2),(14,1),(15,2)] [] (λL w'=>L=[(0,.slice a0 p0.length u0),(1,vi p1),(2,.slice a2 p2.length u2),(7,vi v7),(29,.bool p29)]/\∃κ',Stp [] K8 w7 κ' w') tv ?_ ?_
 revert h
 cases ht14:(x16.At==p1)
 refine JF λh=>Jn 4 R<|Jd1 R R R R<|Jn 1 R<|Jd1 R R R R<|Jn 1 R ?_
 cases h
 exact Jv1 _ tv ⟨R,_,Jj3⟩<|KM R
 refine JT λh=>Jn 2 R<|Ob h λx24 hx24 h=>Jc3 R f11 hx24 U80 Z87<|Jd3 R U87 R Z26 ?_
 obtain⟨cse15,hre15,hle15⟩:=(f11).gSt hx24
 obtain⟨ae15_0,ue15_0,rfl,fe15_0⟩:=Place.un hre15
 refine Jb3 R I26 (λw' hw'=>hle15 w' hw' 1 _ R)<|Jn 1 R<|Ob h λx28 hx28 h=>Jh R R R C80 (mQ (κ:=Mk K8) (Ji3 fe15_0) (Ji3<|g2.stp S9 R R) hx28) ?_
 rintro _ w17 ⟨k18,rfl,e19⟩
 obtain⟨K20,S21,m22⟩:=Ji e19 2 R
 refine Tv<|Jn 1 R ?_
 cases h
 exact Jv1 _ tv ⟨R,_,S21.wk R⟩<|KM R
 rintro _ w24 _ ⟨rfl,K25,S26⟩
 have h:=hK13
 refine Jd ?_
 revert h
 cases ht27:p29
 refine JF λh=>Jy R<|Js<|Jz<|Jp<|Jf3 R ?_
 have hw1:sh .i64 (v7+1)=v7+1:=wr1 hj1 (Jm2 hc1) hN1
 rw[hw1]
 have hc1:=Jm2 hc1
 cases h
 exact Jz1 λa ha=>⟨k,_,Ja3 _,⟨K25,v7+1,R,(S9.tr S26).wk R,by omega,by omega,hk10⟩,(ha.mm R)⟩
 refine JT λh=>Jx R<|Je3 R<|Ju<|Ja1<|Jw<|Jw ?_
 cases h
 obtain rfl:=Option.some.inj hk10
 have h:=yL hK2
 refine Ja1<|Jq2<|Jw<|Ja2 (l:=[.tmp 6]) V63 (Jp2 R R) R ?_
 cases h
 exact⟨K25,R,(hE.stp (S9.tr S26) R R)⟩
 rintro _ w4 ⟨K5,rfl,S6,rfl⟩
 have h:=yI hK2
 refine Jp<|Je3 R<|Ju<|Ja2 (l:=[.tmp 6]) V63 (Jp2 R R) R ?_
 cases h
 exact⟨K5,R,(hE.stp S6 R R)⟩
theorem oW {a0 u0}{p0:(List Pair)}{a1 u1}{p1:(List Int)}{p2:Int}(g0:Rd Pair.rp κ w 0 a0 u0 p0) (g1:Rd (Rp.int .i64) κ w 0 a1 u1 p1){r:Int}(h:gM p0 p1 p2=some r):Ret Try.prog 65 [.slice a0 p0.length u0,.slice a1 p1.length u1,vi p2] w (Pvi κ w r):=by
 unfold gM at h
 refine Jk3 κ F65 R N65 R λhE=>Je3 R<|Je3 R<|Je3 R<|Jq<|Je3 R ?_
 have hN1:(p1.length:Int)<=9223372036854775807:=g1.len_le
 refine Ob h λq2 hq3 hK2=>?_
 clear h
 refine Jx1 (λL w'=>∃κ',∃s3:Int×Int,L=[(7,vi s3.1),(8,vi s3.2)]/\Stp [] κ w κ' w'/\q2=vq s3) ?_ ?_
 refine Jv<|Jy1 (λk L w'=>∃κ' v9,∃s1:Int×Int,L=[(0,.slice a0 p0.length u0),(1,.slice a1 p1.length u1),(2,vi p2),(7,vi s1.1),(8,vi s1.2),(9,vi v9)]/\Stp [] κ w κ' w'/\0<=v9/\vu ((p1.length:Int)-v9)=k/\cntM (dU p0 p1 p2) k v9 s1=some q2) ⟨_,_,⟨κ,0,(((-1):Int),((-1):Int)),R,Jj3,(by decide),(by simp),hq3⟩,(KM R)⟩ ?_
 rintro k _ w7 ⟨K8,v9,s1,rfl,S9,hj1,hJ1,h⟩
 rcases k with _ | k
 have hk10:=h;obtain⟨o1,h⟩:=cc (vq (vr s1):Int⊕((Int×Int)⊕(Int×Int)))
 have hc1:decide (v9<(p1.length:Int))=false:=Jo2 (by omega)
 refine Jq<|Jg3 [2,2,2,2] 2 R<|Jn3 R U26 R R<|Jb 1 R<|Jw2 R hc1<|Jc1<|Jt<|Jt ?_
 cases h
 have h:=hk10
 refine Jb1 ?_
 cases h
 exact Jw1 _ ⟨K8,(s1.1,s1.2),R,S9.wk R,R⟩<|KM R
 obtain⟨o1,h,hk10⟩:=BI h;unfold dU at h
 have hc1:decide (v9<(p1.length:Int))=true:=Jn2 (by omega)
 refine Jq<|Jg3 [2,2,2,2] 2 R<|Jn3 R U26 R R<|Jb 1 R<|Jv2 R hc1<|Js<|Jp<|Jq<|Jv<|Jq<|Jg3 [2,2,2,2,1,2,2,1,2,1] 3 R<|Ob h λx19 hx19 h=>Jc3 R g1 hx19 U26 Z2 ?_
 have f11:=g1.stp S9 R R
 refine Jb3 R I2 (f11.gInt hx19)<|Ob h λx21 hx21 h=>Jc3 R g0 hx21 U69 Z102<|Jd3 R U102 R Z26 ?_
 have f12:=g0.stp S9 R R
 obtain⟨cse13,hre13,hle13⟩:=(f12).gSt hx21
 obtain⟨ae13_0,ue13_0,ae13_1,ue13_1,rfl,fe13_0,fe13_1⟩:=Pair.un hre13
 refine Jb3 R I26 (λw' hw'=>hle13 w' hw' 0 _ R)<|Jn 1 R<|Ob h λx25 hx25 h=>Jh R R R C79 (kH (κ:=Mk K8) (Ji3 fe13_0) hx25) ?_
 rintro _ w14 ⟨k15,rfl,e16⟩
 obtain⟨K17,S18,m19⟩:=Ji e16 2 R
 refine Tv<|Jd<|Ob h λq4 h hK21=>Jx1 (λL w'=>∃κ',L=[(0,.slice a0 p0.length u0),(1,.slice a1 p1.length u1),(2,vi p2),(7,vi q4),(8,vi s1.2),(9,vi v9)]/\Stp [] K17 w14 κ' w') ?_ ?_
 revert h
 cases ht25:x25
 refine JF λh=>Jy R<|Js ?_
 cases h
 exact Jw1 _ ⟨K17,R,Jj3⟩<|KM R
 refine JT λh=>Jx R<|Jf3 R ?_
 cases h
 exact Jw1 _ ⟨K17,R,Jj3⟩<|KM R
 rintro _ w22 ⟨K23,rfl,S24⟩
 have h:=hK21
 refine Jp<|Jg3 [2,2,2,2,1,2,2,1,2,1] 3 R<|Ob h λx30 hx30 h=>Jc3 R f11 hx30 U26 Z2<|Jb3 R I2 ((f11.stp (S18.tr S24) R R).gInt hx30)<|Ob h λx32 hx32 h=>Jc3 R f12 hx32 U69 Z102<|Jd3 R U102 R Z26 ?_
 obtain⟨cse28,hre28,hle28⟩:=((f12.stp (S18.tr S24) R R)).gSt hx32
 obtain⟨ae28_0,ue28_0,ae28_1,ue28_1,rfl,fe28_0,fe28_1⟩:=Pair.un hre28
 refine Jb3 R I26 (λw' hw'=>hle28 w' hw' 1 _ R)<|Jn 1 R<|Ob h λx36 hx36 h=>Jh R R R C79 (kH (κ:=Mk K23) (Ji3 fe28_1) hx36) ?_
 rintro _ w29 ⟨k30,rfl,e31⟩
 obtain⟨K32,S33,m34⟩:=Ji e31 4 R
 refine Tv<|Jd<|Ob h λq5 h hK36=>Jx1 (λL w'=>∃κ',L=[(0,.slice a0 p0.length u0),(1,.slice a1 p1.length u1),(2,vi p2),(7,vi q4),(8,vi q5),(9,vi v9)]/\Stp [] K32 w29 κ' w') ?_ ?_
 revert h
 cases ht40:x36
 refine JF λh=>Jy R<|Js ?_
 cases h
 exact Jw1 _ ⟨K32,R,Jj3⟩<|KM R
 refine JT λh=>Jx R<|Jf3 R ?_
 cases h
 exact Jw1 _ ⟨K32,R,Jj3⟩<|KM R
 rintro _ w37 ⟨K38,rfl,S39⟩
 have h:=hK36
 refine Jz<|Jp<|Jf3 R ?_
 have hw1:sh .i64 (v9+1)=v9+1:=wr1 hj1 (Jm2 hc1) hN1
 rw[hw1]
 have hc1:=Jm2 hc1
 cases h
 exact Jz1 λa ha=>⟨k,_,Ja3 _,⟨K38,v9+1,(q4,q5),R,(T5 S9 S18 S24 S33 S39).wk R,by omega,by omega,hk10⟩,(ha.mm R)⟩
 rintro _ w4 ⟨K5,s3,rfl,S6,rfl⟩
 have h:=yI hK2
 refine Jp<|Jq<|Jv<|Jg3 [2,2,2,2,2,2,2] 3 R<|Ob h λp44 h hK41=>Ju1 [(3,2),(4,2),(5,2)] [(6,2)] (λL w'=>L=[(7,vi s3.1),(8,vi s3.2),(44,.bool p44)]/\∃κ',Stp [] K5 w4 κ' w') tv ?_ ?_
 revert h
 cases ht42:decide (s3.1<0)
 refine JF λh=>Jn 3 R ?_
 cases h
 exact Jv1 _ tv ⟨R,_,Jj3⟩<|KM R
 refine JT λh=>Jn 3 R ?_
 cases h
 exact Jv1 _ tv ⟨R,_,Jj3⟩<|KM R
 rintro _ w43 _ ⟨rfl,K44,S45⟩
 have h:=hK41
 refine Jb 1 R ?_
 revert h
 cases ht46:p44
 refine JF λh=>Jy R<|Je3 R ?_
 revert h
 cases ht48:decide (s3.2<s3.1)
 refine JF λh=>Jy R<|Js<|Jz<|Jp<|Je3 R<|Ju<|Ja2 (l:=[.tmp 6]) V65 (Jp2 R R) R ?_
 cases h
 exact⟨K44,R,(hE.stp (S6.tr S45) R R)⟩
 refine JT λh=>Jx R<|Je3 R<|Ju<|Ja1<|Jw<|Ja2 (l:=[.tmp 6]) V65 (Jp2 R R) R ?_
 cases h
 exact⟨K44,R,(hE.stp (S6.tr S45) R R)⟩
 refine JT λh=>Jx R<|Je3 R<|Ju<|Ja1<|Jw<|Ja2 (l:=[.tmp 6]) V65 (Jp2 R R) R ?_
 cases h
 exact⟨K44,R,(hE.stp (S6.tr S45) R R)⟩
theorem pE {ad ac ae ab af aa}{p0:Parity}{a1 u1}{p1:(List Int)}(g0_0_0:Rd (Rp.int .i64) κ w 0 ad ac p0.Arena.Owner) (g0_0_1:Rd (Rp.sl (Rp.int .i64)) κ w 0 ae ab p0.Arena.Next) (g0_1:Rd (Rp.int .i64) κ w 0 af aa p0.Prio) (g1:Rd (Rp.int .i64) κ w 0 a1 u1 p1){r:Bool}(h:jQ p0 p1=some r):Ret Try.prog 96 [.agg #[.slice ad p0.Arena.Owner.length ac,.slice ae p0.Arena.Next.length ab,.slice af p0.Prio.length aa],.slice a1 p1.length u1] w (Pvb κ w r):=by
 unfold jQ at h
 refine Jk3 κ F96 R N96 R λhE=>Je [1,2] R<|Jf1 (κ:=κ) 2 R R R R R R R λb2 w1 K2 S3 f4=>Tv<|Jb 1 R<|Jq<|Jg3 [2,2,2,1,2,2] 1 R<|Jn3 R U26 R R<|Jd3 R U79 R Z26<|Jb3 R I26 (f4.ld 2 R R)<|Jn3 R U26 R R<|Jb 1 R ?_
 revert h
 cases ht5:((p1.length:Int) !=(p0.Prio.length:Int))
 refine JF λh=>Jy R<|Js<|Jp<|Jq<|Je3 R ?_
 have hN7:(p1.length:Int)<=9223372036854775807:=g1.len_le
 refine Ob h λq2 hq9 hK8=>?_
 clear h
 refine Jx1 (λL w'=>∃κ',L=[]/\Stp [] K2 w1 κ' w'/\q2=vq ()) ?_ ?_
 refine Jv<|Jy1 (λk L w'=>∃κ' v5,L=[(1,.slice a1 p1.length u1),(2,.pointer (some ⟨b2,0,none⟩)),(5,vi v5)]/\Stp [] K2 w1 κ' w'/\0<=v5/\vu ((p1.length:Int)-v5)=k/\cntM (fC p0 p1) k v5 ()=some q2) ⟨_,_,⟨K2,0,R,Jj3,(by decide),(by simp),hq9⟩,(KM R)⟩ ?_
 rintro k _ w13 ⟨K14,v5,rfl,S15,hj7,hJ7,h⟩
 rcases k with _ | k
 have hk16:=h;obtain⟨o7,h⟩:=cc (vq (vr ()):Bool⊕((Unit)⊕(Unit)))
 have hc7:decide (v5<(p1.length:Int))=false:=Jo2 (by omega)
 refine Jq<|Jg3 [2,2,2,2] 2 R<|Jn3 R U26 R R<|Jb 1 R<|Jw2 R hc7<|Jc1<|Jt<|Jt ?_
 cases h
 have h:=hk16
 refine Jb1 ?_
 cases h
 exact Jw1 _ ⟨K14,R,S15.wk R,R⟩ KN
 obtain⟨o7,h,hk16⟩:=BI h;unfold fC at h
 have hc7:decide (v5<(p1.length:Int))=true:=Jn2 (by omega)
 refine Jq<|Jg3 [2,2,2,2] 2 R<|Jn3 R U26 R R<|Jb 1 R<|Jv2 R hc7<|Js<|Jp<|Jq<|Jv<|Jq<|Js1 (κ:=K14) [0,2] none [(0,2),(1,2),(2,2),(3,0),(4,2),(5,2),(6,2),(7,2),(9,2),(12,2),(13,2),(14,2),(8,0),(10,2),(11,0),(15,0),(16,1),(17,2),(18,2)] [] (by kernel_rfl) (by kernel_rfl) λw18 S17=>Jn 2 R<|Ob h λx20 hx20 h=>Jc3 R g1 hx20 U26 Z2 ?_
 have f19:=g1.stp (T3 S3 S15 S17) R R
 refine Jg R (Jc2 I2 R R<|hvC (f19.gInt hx20) R)<|Jn 2 R<|Ob h λp36 h hK20=>Ju1 [(6,2),(7,2),(9,2),(12,2),(13,2),(14,2),(8,0),(10,2),(11,0),(15,0),(16,1),(17,2),(18,2)] [] (λL w'=>L=[(1,.slice a1 p1.length u1),(2,.pointer (some ⟨b2,0,none⟩)),(5,vi v5),(36,.bool p36)]/\∃κ',Stp [] K14 w18 κ' w') (Cl.refl _ _ _) ?_ ?_
 revert h
 cases ht21:(x20 !=(-1))
 refine JF λh=>Jn 6 R<|Je1 R R R R<|Jn 1 R<|Je1 R R R R<|Je1 R R R R<|Jd1 R R R R<|Jn 2 R ?_
 cases h
 exact Jv1 _ (Cl.refl _ _ _) ⟨R,_,Jj3⟩<|KM R
 refine JT λh=>Jd3 R U79 R Z75<|Jd3 R U75 R Z27<|Jn 3 R<|Ob h λx32 hx32 h=>Jc3 R f19 hx32 U26 Z2<|Jg R (Jc2 I27 R R<|hvC ((f4.stp (S15.tr S17) R R).ld 1 R R) R)<|Ob h λx28 hx28 h=>Jc3 R g0_0_1 hx28 U27 Z26 ?_
 obtain⟨ax28,ux28,f24,hl25⟩:=(g0_0_1.stp (T3 S3 S15 S17) R R).gSl hx28
 refine Jg R (Jc2 I26 R R<|hvC hl25 R)<|Jg R (Jc2 I2 R R<|hvC (f19.gInt hx32) R)<|Ob h λx34 hx34 h=>Jh R R R C100 (pp (κ:=Mk K14) (Ji3 f24) hx34) ?_
 rintro _ w26 ⟨k27,rfl,e28⟩
 obtain⟨K29,S30,m31⟩:=Ji e28 3 R
 refine⟨(S30.cl R),Jn 2 R ?_⟩
 cases h
 exact Jv1 _ (S30.cl R) ⟨R,_,S30.wk R⟩<|KM R
 rintro _ w33 _ ⟨rfl,K34,S35⟩
 have h:=hK20
 refine Jt1<|Jd ?_
 revert h
 cases ht36:p36
 refine JF λh=>Jy R<|Js<|Jz<|Jp<|Jf3 R ?_
 have hw7:sh .i64 (v5+1)=v5+1:=wr1 hj7 (Jm2 hc7) hN7
 rw[hw7]
 have hc7:=Jm2 hc7
 cases h
 exact Jz1 λa ha=>⟨k,_,Ja3 _,⟨K34,v5+1,R,(T3 S15 S17 S35).wk R,by omega,by omega,hk16⟩,(ha.mm R)⟩
 refine JT λh=>Jx R<|Je3 R<|Ju<|Ja1<|Jw<|Jw ?_
 cases h
 obtain rfl:=Option.some.inj hk16
 have h:=yL hK8
 refine Ja1<|Jq2<|Jw<|Ja2 (l:=[.tmp 4]) V96 (Jp2 R R) R ?_
 cases h
 exact⟨K34,R,(hE.stp (T4 S3 S15 S17 S35) R R)⟩
 rintro _ w10 ⟨K11,rfl,S12,rfl⟩
 have h:=yI hK8
 refine Jp<|Je3 R<|Ju<|Ja2 (l:=[.tmp 4]) V96 (Jp2 R R) R ?_
 cases h
 exact⟨K11,R,(hE.stp (S3.tr S12) R R)⟩
 refine JT λh=>Jx R<|Je3 R<|Ju<|Jw<|Ja2 (l:=[.tmp 4]) V96 (Jp2 R R) R ?_
 cases h
 exact⟨K2,R,(hE.stp S3 R R)⟩
theorem qP {ae ak aj ab ad aa af ai ac ah}{p0:l7Game}{a1 u1}{p1:(List Bool)}(g0_0:Rd (Rp.int .i64) κ w 0 ae ak p0.owner) (g0_1:Rd (Rp.int .i64) κ w 0 aj ab p0.prio) (g0_2:Rd (Rp.sl (Rp.int .i64)) κ w 0 ad aa p0.next) (g0_3:Rd (Rp.sl (Rp.int .i64)) κ w 0 af ai p0.prev) (g0_4:Rd (Rp.int .i64) κ w 0 ac ah p0.pick) (g1:Rd Rp.bool κ w 0 a1 u1 p1){r:Int}(h:mK p0 p1=some r):Ret Try.prog 97 [.agg #[.slice ae p0.owner.length ak,.slice aj p0.prio.length ab,.slice ad p0.next.length aa,.slice af p0.prev.length ai,.slice ac p0.pick.length ah],.slice a1 p1.length u1] w (Pvi κ w r):=by
 unfold mK at h
 refine Jk3 κ F97 R N97 R λhE=>Je [1,2] R<|Jf1 (κ:=κ) 2 R R R R R R R λb2 w1 K2 S3 f4=>Tv<|Jb 1 R<|Je3 R<|Jq<|Je3 R ?_
 have hN5:(p1.length:Int)<=9223372036854775807:=g1.len_le
 refine Ob h λq2 hq7 hK6=>?_
 clear h
 refine Jx1 (λL w'=>∃κ' s3,L=[(5,vi s3)]/\Stp [] K2 w1 κ' w'/\q2=vq s3) ?_ ?_
 refine Jv<|Jy1 (λk L w'=>∃κ' v6 s1,L=[(1,.slice a1 p1.length u1),(2,.pointer (some ⟨b2,0,none⟩)),(5,vi s1),(6,vi v6)]/\Stp [] K2 w1 κ' w'/\0<=v6/\vu ((p1.length:Int)-v6)=k/\cntM (iQ p0 p1) k v6 s1=some q2) ⟨_,_,⟨K2,0,((-1):Int),R,Jj3,(by decide),(by simp),hq7⟩,(KM R)⟩ ?_
 rintro k _ w11 ⟨K12,v6,s1,rfl,S13,hj5,hJ5,h⟩
 rcases k with _ | k
 have hk14:=h;obtain⟨o5,h⟩:=cc (vq (vr s1):Int⊕((Int)⊕(Int)))
 have hc5:decide (v6<(p1.length:Int))=false:=Jo2 (by omega)
 refine Jq<|Jg3 [2,2,2,2] 2 R<|Jn3 R U123 R R<|Jb 1 R<|Jw2 R hc5<|Jc1<|Jt<|Jt ?_
 cases h
 have h:=hk14
 refine Jb1 ?_
 cases h
 exact Jw1 _ ⟨K12,s1,R,S13.wk R,R⟩<|KM R
 obtain⟨o5,h,hk14⟩:=BI h;unfold iQ at h
 have hc5:decide (v6<(p1.length:Int))=true:=Jn2 (by omega)
 refine Jq<|Jg3 [2,2,2,2] 2 R<|Jn3 R U123 R R<|Jb 1 R<|Jv2 R hc5<|Js<|Jp<|Jq<|Jv<|Jg3 [2,2,2,1] 2 R<|Ob h λx15 hx15 h=>Jc3 R g1 hx15 U123 Z4<|Jb3 R I4 ((g1.stp (S3.tr S13) R R).gBool hx15)<|Jd<|Ob h λq4 h hK16=>Jx1 (λL w'=>∃κ',L=[(1,.slice a1 p1.length u1),(2,.pointer (some ⟨b2,0,none⟩)),(5,vi q4),(6,vi v6)]/\Stp [] K12 w11 κ' w') ?_ ?_
 revert h
 cases ht20:x15
 refine JF λh=>Jy R<|Js ?_
 cases h
 exact Jw1 _ ⟨K12,R,Jj3⟩<|KM R
 refine JT λh=>Jx R<|Jh3 [2,2,1,2,2,1,1,2] 1 R<|Jd3 R U121 R Z26<|Jb3 R I26 ((f4.stp S13 R R).ld 1 R R)<|Jn 1 R<|Ob h λx21 hx21 h=>Jc3 R g0_1 hx21 U26 Z2<|Jb3 R I2 ((g0_1.stp (S3.tr S13) R R).gInt hx21)<|Ob h λx23 hx23 h=>Jh R R R C35 (gC (κ:=Mk K12) hx23) ?_
 rintro _ w23 ⟨k24,rfl,e25⟩
 obtain⟨K26,S27,m28⟩:=Ji e25 3 R
 refine Tv<|Jc 1 R ?_
 cases h
 exact Jw1 _ ⟨K26,R,S27.wk R⟩<|KM R
 rintro _ w17 ⟨K18,rfl,S19⟩
 have h:=hK16
 refine Jz<|Jp<|Jf3 R ?_
 have hw5:sh .i64 (v6+1)=v6+1:=wr1 hj5 (Jm2 hc5) hN5
 rw[hw5]
 have hc5:=Jm2 hc5
 cases h
 exact Jz1 λa ha=>⟨k,_,Ja3 _,⟨K18,v6+1,q4,R,(S13.tr S19).wk R,by omega,by omega,hk14⟩,(ha.mm R)⟩
 rintro _ w8 ⟨K9,s3,rfl,S10,rfl⟩
 have h:=yI hK6
 refine Jp<|Je3 R<|Ju<|Ja2 (l:=[.tmp 4]) V97 (Jp2 R R) R ?_
 cases h
 exact⟨K9,R,(hE.stp (S3.tr S10) R R)⟩
theorem ot {ae ak aj ab ad aa af ai ac ah}{p0:l7Game}{a1 u1}{p1:(List Bool)}{p2:Int}(g0_0:Rd (Rp.int .i64) κ w 0 ae ak p0.owner) (g0_1:Rd (Rp.int .i64) κ w 0 aj ab p0.prio) (g0_2:Rd (Rp.sl (Rp.int .i64)) κ w 0 ad aa p0.next) (g0_3:Rd (Rp.sl (Rp.int .i64)) κ w 0 af ai p0.prev) (g0_4:Rd (Rp.int .i64) κ w 0 ac ah p0.pick) (g1:Rd Rp.bool κ w 0 a1 u1 p1){r:Int}(h:iO p0 p1 p2=some r):Ret Try.prog 101 [.agg #[.slice ae p0.owner.length ak,.slice aj p0.prio.length ab,.slice ad p0.next.length aa,.slice af p0.prev.length ai,.slice ac p0.pick.length ah],.slice a1 p1.length u1,vi p2] w (Pvi κ w r):=by
 unfold iO at h
 refine Jk3 κ F101 R N101 R λhE=>Je [1,2] R<|Jf1 (κ:=κ) 2 R R R R R R R λb3 w1 K2 S3 f4=>Tv<|Jb 1 R<|Je3 R<|Jq<|Je3 R<|Ob h λq2 hq7 hK6=>?_
 clear h
 refine Jx1 (λL w'=>∃κ',∃s3:Int×Int,L=[(7,vi s3.1)]/\Stp [] K2 w1 κ' w'/\q2=vq s3) ?_ ?_
 refine Jv<|Jy1 (λk L w'=>∃κ',∃s1:Int×Int,L=[(1,.slice a1 p1.length u1),(2,vi p2),(3,.pointer (some ⟨b3,0,none⟩)),(7,vi s1.1),(8,vi s1.2)]/\Stp [] K2 w1 κ' w'/\bP (fa p0 p1 p2) k s1=some q2) ⟨_,_,⟨K2,((0:Int),(0:Int)),R,Jj3,hq7⟩,(KM R)⟩ ?_
 rintro k _ w11 ⟨K12,s1,rfl,S13,h⟩
 rcases k with _ | k
 cases h
 obtain⟨o5,h,hk14⟩:=BI h;unfold fa at h
 refine Jq<|Jg3 [2,2,1,2,2,1,2,2] 1 R<|Jd3 R U121 R Z27 ?_
 have f15:=f4.stp S13 R R
 refine Jb3 R I27 (f15.ld 2 R R)<|Jn 1 R<|Ob h λx14 hx14 h=>Jc3 R g0_2 hx14 U27 Z26 ?_
 have f16:=g0_2.stp (S3.tr S13) R R
 obtain⟨ax14,ux14,f17,hl18⟩:=f16.gSl hx14
 refine Jb3 R I26 hl18<|Jn3 R U26 R R<|Jb 1 R ?_
 revert h
 cases ht19:decide (s1.2<(x14.length:Int))
 refine JF λh=>Jy R<|Jc1<|Jt<|Jt ?_
 cases h
 have h:=hk14
 refine Jb1 ?_
 cases h
 exact Jw1 _ ⟨K12,(s1.1,s1.2),R,S13.wk R,R⟩<|KM R
 refine JT λh=>Jx R<|Js<|Jp<|Jq<|Jv<|Je [2,1,2,2,1,2,2,1,2] R<|Jd3 R U121 R Z27<|Jb3 R I27 (f15.ld 2 R R)<|Jn 1 R<|Ob h λx23 hx23 h=>Jc3 R f16 hx23 U27 Z26 ?_
 obtain⟨ax23,ux23,f20,hl21⟩:=f16.gSl hx23
 refine Jb3 R I26 hl21<|Jn 1 R<|Ob h λx26 hx26 h=>Jc3 R f20 hx26 U26 Z2<|Jb3 R I2 (f20.gInt hx26)<|Jb 1 R<|Jg3 [2,2,2,1,2,1,2,2,1,2] 2 R<|Ob h λx30 hx30 h=>Jc3 R g1 hx30 U123 Z4<|Jb3 R I4 ((g1.stp (S3.tr S13) R R).gBool hx30)<|Jn 1 R<|Ob h λp37 h hK23=>Ju1 [(5,1),(6,2),(7,2),(8,1),(9,2)] [] (λL w'=>L=[(1,.slice a1 p1.length u1),(2,vi p2),(3,.pointer (some ⟨b3,0,none⟩)),(7,vi s1.1),(8,vi s1.2),(37,.bool p37)]/\∃κ',Stp [] K12 w11 κ' w') tv ?_ ?_
 revert h
 cases ht24:x30
 refine JF λh=>Jd1 R R R R<|Jn 2 R<|Jd1 R R R R<|Jn 1 R ?_
 cases h
 exact Jv1 _ tv ⟨R,_,Jj3⟩<|KM R
 have S001:=(S3.tr S13)
 refine JT λh=>Jl tv R R R R (Jd2 (cs:=[.slice ae p0.owner.length ak,.slice aj p0.prio.length ab,.slice ad p0.next.length aa,.slice af p0.prev.length ai,.slice ac p0.pick.length ah]) I121 Z121 R R R<|haE f15.cells)<|Jn 2 R<|Ob h λx36 hx36 h=>Jh R R R C102 (ng (κ:=Mk K12) (p0:=p0) (Ji3<|g0_0.stp S001 R R) (Ji3<|g0_1.stp S001 R R) (Ji3 f16) (Ji3<|g0_3.stp S001 R R) (Ji3<|g0_4.stp S001 R R) hx36) ?_
 rintro _ w29 ⟨k30,rfl,e31⟩
 obtain⟨K32,S33,m34⟩:=Ji e31 3 R
 refine Tv<|Jn 1 R ?_
 cases h
 exact Jv1 _ tv ⟨R,_,S33.wk R⟩<|KM R
 rintro _ w36 _ ⟨rfl,K37,S38⟩
 have h:=hK23
 refine Jd<|Ob h λq4 h hK39=>Jx1 (λL w'=>∃κ',L=[(1,.slice a1 p1.length u1),(2,vi p2),(3,.pointer (some ⟨b3,0,none⟩)),(7,vi q4),(8,vi s1.2)]/\Stp [] K37 w36 κ' w') ?_ ?_
 revert h
 cases ht43:p37
 refine JF λh=>Jy R<|Js ?_
 cases h
 exact Jw1 _ ⟨K37,R,Jj3⟩<|KM R
 refine JT λh=>Jx R<|Jf3 R ?_
 cases h
 exact Jw1 _ ⟨K37,R,Jj3⟩<|KM R
 rintro _ w40 ⟨K41,rfl,S42⟩
 have h:=hK39
 refine Jz<|Jp<|Jf3 R ?_
 cases h
 exact Jz1 λa ha=>⟨k,_,Ja3 _,⟨K41,(q4,((IntKind.i64.wrap<|s1.2+1):Int)),R,(T3 S13 S38 S42).wk R,hk14⟩,(ha.mm R)⟩
 rintro _ w8 ⟨K9,s3,rfl,S10,rfl⟩
 have h:=yI hK6
 refine Jp<|Je3 R<|Ju<|Ja2 (l:=[.tmp 6]) V101 (Jp2 R R) R ?_
 cases h
 exact⟨K9,R,(hE.stp (S3.tr S10) R R)⟩
theorem ic {p0:Sig}  {r:Int}(h:cP p0=some r):Ret Try.prog 22 [.agg #[vi p0.In,vi p0.Out]] w (Pvi κ w r):=by
 unfold cP at h
 refine Jk3 κ F22 R N22 R λhE=>Je [1,2] R<|Jf1 (κ:=κ) 2 R R R R R R R λb1 w1 K2 S3 f4=>Tv<|Jb 1 R<|Je [2,1,1,2] R<|Jd3 R U25 R Z2<|Jb3 R I2 (f4.ld 1 R R)<|Ob h λx5 hx5 h=>Jh R R R C33 (cQ (κ:=Mk K2) hx5) ?_
 rintro _ w5 ⟨k6,rfl,e7⟩
 obtain⟨K8,S9,m10⟩:=Ji e7 3 R
 refine Tv<|Jb 1 R<|Ju<|Ja2 (l:=[.tmp 2]) V22 (Jp2 R R) R ?_
 cases h
 exact⟨K8,R,(hE.stp (S3.tr S9) R R)⟩
theorem dO {a0 u0}{p0:(List Int)}{c1_0:Int}{b1_0}(g0:Rd (Rp.int .i64) κ w 0 a0 u0 p0) (gb1_0:Bc κ w 0 b1_0 2 [vi c1_0]){r:Int}(h:bQ p0 c1_0=some r):Ret Try.prog 52 [.slice a0 p0.length u0,.func (.func 41) #[] #[.pointer (some ⟨b1_0,0,none⟩)]] w (Pvi κ w r):=by
 unfold bQ at h
 refine Jk3 κ F52 R N52 R λhE=>Je3 R<|Jq<|Jg3 [2,2,2] 1 R<|Jn3 R U26 R R<|Jb 1 R ?_
 have hN1:(p0.length:Int)<=9223372036854775807:=g0.len_le
 refine Ob h λq2 hq3 hK2=>?_
 clear h
 refine Jx1 (λL w'=>∃κ',L=[(1,.func (.func 41) #[] #[.pointer (some ⟨b1_0,0,none⟩)])]/\Stp [] κ w κ' w'/\q2=vq ()) ?_ ?_
 refine Jv<|Jy1 (λk L w'=>∃κ' v8,L=[(0,.slice a0 p0.length u0),(1,.func (.func 41) #[] #[.pointer (some ⟨b1_0,0,none⟩)]),(7,vi (p0.length:Int)),(8,vi v8)]/\Stp [] κ w κ' w'/\0<=v8/\vu ((p0.length:Int)-v8)=k/\cntM (bM p0 c1_0) k v8 ()=some q2) ⟨_,_,⟨κ,0,R,Jj3,(by decide),(by simp),hq3⟩,(KM R)⟩ ?_
 rintro k _ w7 ⟨K8,v8,rfl,S9,hj1,hJ1,h⟩
 rcases k with _ | k
 have hk10:=h;obtain⟨o1,h⟩:=cc (vq (vr ()):Int⊕((Unit)⊕(Unit)))
 have hc1:decide (v8<(p0.length:Int))=false:=Jo2 (by omega)
 refine Je3 R<|Jq<|Jw2 R hc1<|Jc1<|Jt<|Jt ?_
 cases h
 have h:=hk10
 refine Jb1 ?_
 cases h
 exact Jw1 _ ⟨K8,R,S9.wk R,R⟩<|KM R
 obtain⟨o1,h,hk10⟩:=BI h;unfold bM at h
 have hc1:decide (v8<(p0.length:Int))=true:=Jn2 (by omega)
 refine Je3 R<|Jq<|Jv2 R hc1<|Js<|Jp<|Jq<|Jv<|Je3 R<|Jg3 [2,2,2,2,1,1] 3 R<|Ob h λx14 hx14 h=>Jc3 R g0 hx14 U26 Z2<|Jb3 R I2 ((g0.stp S9 R R).gInt hx14)<|Ob h λx16 hx16 h=>WO.callV R R R R R R R R C41 (mD (κ:=Mk K8) ((gb1_0.stp S9 R R).map (mp [] 0) R R) hx16) ?_
 rintro _ w13 ⟨k14,rfl,e15⟩
 obtain⟨K16,S17,m18⟩:=Ji e15 2 R
 refine Tv<|Jd ?_
 revert h
 cases ht20:x16
 refine JF λh=>Jy R<|Js<|Jz<|Jp<|Jf3 R ?_
 have hw1:sh .i64 (v8+1)=v8+1:=wr1 hj1 (Jm2 hc1) hN1
 rw[hw1]
 have hc1:=Jm2 hc1
 cases h
 exact Jz1 λa ha=>⟨k,_,Ja3 _,⟨K16,v8+1,R,(S9.tr S17).wk R,by omega,by omega,hk10⟩,(ha.mm R)⟩
 refine JT λh=>Jx R<|Je3 R<|Ju<|Ja1<|Jw<|Jw ?_
 cases h
 obtain rfl:=Option.some.inj hk10
 have h:=yL hK2
 refine Ja1<|Jq2<|Jw<|Ja2 (l:=[.tmp 4]) V52 (Jp2 R R) R ?_
 cases h
 exact⟨K16,R,(hE.stp (S9.tr S17) R R)⟩
 rintro _ w4 ⟨K5,rfl,S6,rfl⟩
 have h:=yI hK2
 refine Jp<|Je3 R<|Ju<|Ja2 (l:=[.tmp 4]) V52 (Jp2 R R) R ?_
 cases h
 exact⟨K5,R,(hE.stp S6 R R)⟩
theorem c8 {a0 u0}{p0:(List (List Int))}{a1 u1}{p1:(List (List Int))}(g0:Rd (Rp.sl (Rp.int .i64)) κ w 0 a0 u0 p0) (g1:Rd (Rp.sl (Rp.int .i64)) κ w 0 a1 u1 p1){r:Bool}(h:bK p0 p1=some r):Ret Try.prog 27 [.slice a0 p0.length u0,.slice a1 p1.length u1,.func (.func 26) #[] #[]] w (Pvb κ w r):=by
 unfold bK at h
 refine Jk3 κ F27 R N27 R λhE=>Je3 R<|Jq<|Jg3 [2,2,2,2,2] 1 R<|Jn3 R U27 R R<|Jn 1 R<|Jn3 R U27 R R<|Jb 1 R ?_
 revert h
 cases ht1:((p0.length:Int) !=(p1.length:Int))
 refine JF λh=>Jy R<|Js<|Jp<|Jq<|Jg3 [2,2,2] 1 R<|Jn3 R U27 R R<|Jb 1 R ?_
 have hN2:(p0.length:Int)<=9223372036854775807:=g0.len_le
 refine Ob h λq2 hq4 hK3=>?_
 clear h
 refine Jx1 (λL w'=>∃κ',L=[(2,.func (.func 26) #[] #[])]/\Stp [] κ w κ' w'/\q2=vq ()) ?_ ?_
 refine Jv<|Jy1 (λk L w'=>∃κ' v17,L=[(1,.slice a1 p1.length u1),(2,.func (.func 26) #[] #[]),(15,.slice a0 p0.length u0),(16,vi (p0.length:Int)),(17,vi v17)]/\Stp [] κ w κ' w'/\0<=v17/\vu ((p0.length:Int)-v17)=k/\cntM (bG p0 p1) k v17 ()=some q2) ⟨_,_,⟨κ,0,R,Jj3,(by decide),(by simp),hq4⟩,(KM R)⟩ ?_
 rintro k _ w8 ⟨K9,v17,rfl,S10,hj2,hJ2,h⟩
 rcases k with _ | k
 have hk11:=h;obtain⟨o2,h⟩:=cc (vq (vr ()):Bool⊕((Unit)⊕(Unit)))
 have hc2:decide (v17<(p0.length:Int))=false:=Jo2 (by omega)
 refine Je3 R<|Jq<|Jw2 R hc2<|Jc1<|Jt<|Jt ?_
 cases h
 have h:=hk11
 refine Jb1 ?_
 cases h
 exact Jw1 _ ⟨K9,R,S10.wk R,R⟩<|KM R
 obtain⟨o2,h,hk11⟩:=BI h;unfold bG at h
 have hc2:decide (v17<(p0.length:Int))=true:=Jn2 (by omega)
 refine Je3 R<|Jq<|Jv2 R hc2<|Js<|Jp<|Jq<|Jv<|Jg3 [2,2,1,2,2] 1 R<|Ob h λx20 hx20 h=>Jc3 R g0 hx20 U27 Z26 ?_
 obtain⟨ax20,ux20,f13,hl14⟩:=(g0.stp S10 R R).gSl hx20
 refine Jb3 R I26 hl14<|Jb 2 R<|Jg3 [2,2,2,1,2] 2 R<|Ob h λx24 hx24 h=>Jc3 R g1 hx24 U27 Z26 ?_
 obtain⟨ax24,ux24,f16,hl17⟩:=(g1.stp S10 R R).gSl hx24
 refine Jb3 R I26 hl17<|Jb 1 R<|Jg3 [2,2,2,1,2] 3 R<|Ob h λx29 hx29 h=>WO.callV R R R R R R R R C26 (fo (κ:=Mk K9) (Ji3 f13) (Ji3 f16) hx29) ?_
 rintro _ w18 ⟨k19,rfl,e20⟩
 obtain⟨K21,S22,m23⟩:=Ji e20 2 R
 refine Tv<|Jb 1 R ?_
 revert h
 cases ht25:(!x29)
 refine JF λh=>Jy R<|Js<|Jz<|Jp<|Jf3 R ?_
 have hw2:sh .i64 (v17+1)=v17+1:=wr1 hj2 (Jm2 hc2) hN2
 rw[hw2]
 have hc2:=Jm2 hc2
 cases h
 exact Jz1 λa ha=>⟨k,_,Ja3 _,⟨K21,v17+1,R,(S10.tr S22).wk R,by omega,by omega,hk11⟩,(ha.mm R)⟩
 refine JT λh=>Jx R<|Je3 R<|Ju<|Ja1<|Jw<|Jw ?_
 cases h
 obtain rfl:=Option.some.inj hk11
 have h:=yL hK3
 refine Ja1<|Jq2<|Jw<|Ja2 (l:=[.tmp 6]) V27 (Jp2 R R) R ?_
 cases h
 exact⟨K21,R,(hE.stp (S10.tr S22) R R)⟩
 rintro _ w5 ⟨K6,rfl,S7,rfl⟩
 have h:=yI hK3
 refine Jp<|Je3 R<|Ju<|Ja2 (l:=[.tmp 6]) V27 (Jp2 R R) R ?_
 cases h
 exact⟨K6,R,(hE.stp S7 R R)⟩
 refine JT λh=>Jx R<|Je3 R<|Ju<|Jw<|Ja2 (l:=[.tmp 6]) V27 (Jp2 R R) R ?_
 cases h
 exact⟨κ,R,hE⟩
end Go.Proofs.Ytpcjbkgbnoocaaa
