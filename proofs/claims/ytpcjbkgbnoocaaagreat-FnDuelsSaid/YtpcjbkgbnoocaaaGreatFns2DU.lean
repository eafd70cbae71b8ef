/- The walks, part 2. By program. -/
import Derived.Test.YtpcjbkgbnoocaaaGreatFns0DU
import Derived.Test.YtpcjbkgbnoocaaaGreatFns1DU
set_option linter.unusedVariables false
set_option linter.unusedSimpArgs false
open Go.IntKind renaming wrap → sh
open Sum renaming inr → yk, inl → yl
open Int renaming toNat → yn
namespace Go.Proofs.YtpcjbkgbnoocaaaGreat
open Go Go.Wk Go.Proofs
set_option maxRecDepth 100000
set_option maxHeartbeats 1000000
variable {w:World}{κ:Col}
theorem bS {aa ab}{p0:l1Cur}{p1:Int}{b0}(g0_0:Rd (Rp.int .u8) κ w 0 aa ab p0.b) (gb0:Bc κ w 2 b0 142 [.slice aa p0.b.length ab,vi p0.i,vi p0.h]){r:Int×Int×Int}(h:cb p0 p1=some r):Ret Tryz.prog 105 [.pointer (some ⟨b0,0,none⟩),vi p1] w (λv w'=>∃(κ':Col),v=vi r.1/\Ent κ w κ' w'/\Bc κ' w' 2 b0 142 [.slice aa p0.b.length ab,vi r.2.1,vi r.2.2]):=by
 unfold cb at h
 refine Jk3 κ F105 R N105 R λhE=>Je3 R<|Jq<|Je3 R ?_
 revert h
 cases ht1:decide (p1<=0)
 refine JF λh=>Jy R<|Js<|Jp<|Jq<|Je3 R ?_
 revert h
 cases ht2:decide (p1<=256)
 refine JF λh=>Jy R<|Js<|Jp<|Jg3 [2,1,2] 1 R<|Ob h λx18 hx18 h=>Jh R R R C156 (iU (κ:=λb=>mp [(2,2)] 0 (κ b)) (p0:=p0) (Jl2 g0_0 (mp [(2,2)] 0) R R) (gb0.map (mp [(2,2)] 0) R R) hx18) ?_
 rintro _ w13 ⟨k14,rfl,e15,f16⟩
 obtain⟨K17,S18,m19⟩:=Ji e15 3 R
 refine Tv<|Jb 1 R<|Jg3 [2,1,2] 1 R<|Ob h λx20 hx20 h=>?_
 have f22:=g0_0.stp S18 R R
 refine Jh R R R C156 (iU (κ:=λb=>mp [(5,2)] 0<|K17 b) (p0:=(⟨p0.b,x18.2.1,x18.2.2⟩:l1Cur)) (Jl2 f22 (mp [(5,2)] 0) R R) ((f16.mx m19 R (R:3+2=5)).map (mp [(5,2)] 0) R R) hx20) ?_
 rintro _ w23 ⟨k24,rfl,e25,f26⟩
 obtain⟨K27,S28,m29⟩:=Ji e25 6 R
 refine Tv<|Jb 1 R<|Jg3 [2,1,2] 1 R<|Ob h λx22 hx22 h=>?_
 have f32:=f22.stp S28 R R
 refine Jh R R R C156 (iU (κ:=λb=>mp [(8,2)] 0<|K27 b) (p0:=(⟨p0.b,x20.2.1,x20.2.2⟩:l1Cur)) (Jl2 f32 (mp [(8,2)] 0) R R) ((f26.mx m29 R (R:6+2=8)).map (mp [(8,2)] 0) R R) hx22) ?_
 rintro _ w33 ⟨k34,rfl,e35,f36⟩
 obtain⟨K37,S38,m39⟩:=Ji e35 9 R
 refine Tv<|Jb 1 R<|Jg3 [2,1,2] 1 R<|Ob h λx24 hx24 h=>Jh R R R C156 (iU (κ:=λb=>mp [(11,2)] 0<|K37 b) (p0:=(⟨p0.b,x22.2.1,x22.2.2⟩:l1Cur)) (Jl2 (f32.stp S38 R R) (mp [(11,2)] 0) R R) ((f36.mx m39 R (R:9+2=11)).map (mp [(11,2)] 0) R R) hx24) ?_
 rintro _ w43 ⟨k44,rfl,e45,f46⟩
 obtain⟨K47,S48,m49⟩:=Ji e45 12 R
 refine Tv<|Jb 1 R<|Jg3 [2,2,2,2,2,2,2,2,2,2,2,2,2] 11 R<|Ob h λ_z36 hz36 h=>Jf R (pU R R R<|sk hz36)<|Jb 1 R<|Ju<|Ja2 (l:=[.tmp 4]) V105 (Jp2 R R) R ?_
 cases h
 exact⟨(λb=>ren [(14,2)]<|K47 b),R,((hE.stp (T4 S18 S28 S38 S48) R R).map (ren [(14,2)]) R R),((f46.mx m49 R (R:12+2=14)).map (ren [(14,2)]) R R)⟩
 refine JT λh=>Jx R<|Jg3 [2,1,2,2,2] 1 R<|Ob h λx14 hx14 h=>Jh R R R C156 (iU (κ:=λb=>mp [(2,2)] 0 (κ b)) (p0:=p0) (Jl2 g0_0 (mp [(2,2)] 0) R R) (gb0.map (mp [(2,2)] 0) R R) hx14) ?_
 rintro _ w3 ⟨k4,rfl,e5,f6⟩
 obtain⟨K7,S8,m9⟩:=Ji e5 3 R
 refine Tv<|Jn 1 R<|Ob h λ_z16 hz16 h=>Jf R (pU R R R<|sk hz16)<|Jb 1 R<|Ju<|Jw<|Ja2 (l:=[.tmp 4]) V105 (Jp2 R R) R ?_
 cases h
 exact⟨(λb=>ren [(5,2)]<|K7 b),R,((hE.stp S8 R R).map (ren [(5,2)]) R R),((f6.mx m9 R (R:3+2=5)).map (ren [(5,2)]) R R)⟩
 refine JT λh=>Jx R<|Je3 R<|Ju<|Jw<|Ja2 (l:=[.tmp 4]) V105 (Jp2 R R) R ?_
 cases h
 exact⟨κ,R,hE,gb0⟩
theorem eZ {p0:Sig}  {r:Bool}(h:gf p0=some r):Ret Tryz.prog 102 [.agg #[vi p0.In,vi p0.Out]] w (Pvb κ w r):=by
 unfold gf at h
 refine Jk3 κ F102 R N102 R λhE=>Je [1,2] R<|Jf1 (κ:=κ) 2 R R R R R R R λb1 w1 K2 S3 f4=>Tv<|Jb 1 R<|Je [2,1,1,2,2,1,1,2,2] R<|Jd3 R U25 R Z2<|Jb3 R I2 (f4.ld 0 R R)<|Ob h λx5 hx5 h=>Jh R R R C57 (cu (κ:=Mk K2) hx5) ?_
 rintro _ w5 ⟨k6,rfl,e7⟩
 obtain⟨K8,S9,m10⟩:=Ji e7 3 R
 refine Tv<|Jn 1 R<|Ob h λp10 h hK12=>Ju1 [(4,2),(5,1),(6,1),(7,2)] [(8,2)] (λL w'=>L=[(2,.bool false),(10,.bool p10)]/\∃κ',Stp [] K8 w5 κ' w') tv ?_ ?_
 revert h
 cases ht13:x5
 refine JF λh=>Jn 1 R<|Jd1 R R R R<|Jd1 R R R R<|Jn 1 R ?_
 cases h
 exact Jv1 _ tv ⟨R,_,Jj3⟩<|KM R
 refine JT λh=>Jd3 R U25 R Z2<|Jb3 R I2 ((f4.stp S9 R R).ld 1 R R)<|Ob h λx9 hx9 h=>Jh R R R C57 (cu (κ:=Mk K8) hx9) ?_
 rintro _ w15 ⟨k16,rfl,e17⟩
 obtain⟨K18,S19,m20⟩:=Ji e17 5 R
 refine Tv<|Jn 1 R ?_
 cases h
 exact Jv1 _ tv ⟨R,_,S19.wk R⟩<|KM R
 rintro _ w22 _ ⟨rfl,K23,S24⟩
 have h:=hK12
 refine Jb 1 R<|Ju<|Ja2 (l:=[.tmp 2]) V102 (Jp2 R R) R ?_
 cases h
 exact⟨K23,R,(hE.stp (T3 S3 S9 S24) R R)⟩
theorem mt {p0:Sig}  {r:Int}(h:gZ p0=some r):Ret Tryz.prog 103 [.agg #[vi p0.In,vi p0.Out]] w (Pvi κ w r):=by
 unfold gZ at h
 refine Jk3 κ F103 R N103 R λhE=>Je [1,2] R<|Jf1 (κ:=κ) 2 R R R R R R R λb1 w1 K2 S3 f4=>Tv<|Jb 1 R<|Je [2,1,1,2] R<|Jd3 R U25 R Z2<|Jb3 R I2 (f4.ld 0 R R)<|Ob h λx5 hx5 h=>Jh R R R C59 (cv (κ:=Mk K2) hx5) ?_
 rintro _ w5 ⟨k6,rfl,e7⟩
 obtain⟨K8,S9,m10⟩:=Ji e7 3 R
 refine Tv<|Jb 1 R<|Ju<|Ja2 (l:=[.tmp 2]) V103 (Jp2 R R) R ?_
 cases h
 exact⟨K8,R,(hE.stp (S3.tr S9) R R)⟩
theorem rD {a0 u0}{p0:(List Int)}{p1:Int}(g0:Rd (Rp.int .i64) κ w 0 a0 u0 p0){r:Bool}(h:kF p0 p1=some r):Ret Tryz.prog 210 [.slice a0 p0.length u0,vi p1] w (Pvb κ w r):=by
 unfold kF at h
 refine Jk3 κ F210 R N210 R λhE=>Je3 R<|Jq<|Je3 R ?_
 have hN1:(p0.length:Int)<=9223372036854775807:=g0.len_le
 refine Ob h λq2 hq3 hK2=>?_
 clear h
 refine Jx1 (λL w'=>∃κ',L=[]/\Stp [] κ w κ' w'/\q2=yk ()) ?_ ?_
 refine Jv<|Jy1 (λk L w'=>∃κ' v5,L=[(0,.slice a0 p0.length u0),(1,vi p1),(5,vi v5)]/\Stp [] κ w κ' w'/\0<=v5/\yn ((p0.length:Int)-v5)=k/\cntM (gM p0 p1) k v5 ()=some q2) ⟨_,_,⟨κ,0,R,Jj3,(by decide),(by simp),hq3⟩,(KM R)⟩ ?_
 rintro k _ w7 ⟨K8,v5,rfl,S9,hj1,hJ1,h⟩
 rcases k with _ | k
 have hk10:=h;obtain⟨o1,h⟩:=ca (yk (yl ()):Bool⊕((Unit)⊕(Unit)))
 have hc1:decide (v5<(p0.length:Int))=false:=Jo2 (by omega)
 refine Jq<|Jg3 [2,2,2,2] 2 R<|Jn3 R U29 R R<|Jb 1 R<|Jw2 R hc1<|Jc1<|Jt<|Jt ?_
 cases h
 have h:=hk10
 refine Jb1 ?_
 cases h
 exact Jw1 _ ⟨K8,R,S9.wk R,R⟩ KN
 obtain⟨o1,h,hk10⟩:=BI h;unfold gM at h
 have hc1:decide (v5<(p0.length:Int))=true:=Jn2 (by omega)
 refine Jq<|Jg3 [2,2,2,2] 2 R<|Jn3 R U29 R R<|Jb 1 R<|Jv2 R hc1<|Js<|Jp<|Jq<|Jv<|Jq<|Js1 (κ:=K8) [0] none [(0,2),(1,2),(2,2),(4,2),(5,2),(3,0),(6,1),(7,2),(8,2),(9,2),(10,2),(11,2),(12,2),(13,2),(14,2),(16,2),(17,2),(18,2),(19,2),(15,0),(20,0),(21,2),(22,2),(23,2)] [] (by kernel_rfl) (by kernel_rfl) λw12 S11=>Jn 2 R<|Ob h λx14 hx14 h=>Jc3 R g0 hx14 U29 Z2<|Jn 2 R ?_
 have f13:=g0.stp (S9.tr S11) R R
 refine Jg R (Jc2 I2 R R<|hvC (f13.gInt hx14) R)<|Ob h λx18 hx18 h=>Jh R R R C57 (cu (κ:=Mk K8) hx18) ?_
 rintro _ w14 ⟨k15,rfl,e16⟩
 obtain⟨K17,S18,m19⟩:=Ji e16 2 R
 refine⟨(S18.cl R),Jn 2 R<|Ob h λp35 h hK21=>Ju1 [(9,2),(10,2),(11,2),(12,2),(13,2),(14,2),(16,2),(17,2),(18,2),(19,2),(15,0),(20,0),(21,2),(22,2),(23,2)] [] (λL w'=>L=[(0,.slice a0 p0.length u0),(1,vi p1),(5,vi v5),(35,.bool p35)]/\∃κ',Stp [] K17 w14 κ' w') (S18.cl R) ?_ ?_⟩
 revert h
 cases ht22:(!x18)
 refine JF λh=>Jn 3 R<|Ob h λp34 h hK23=>Ju1 [(12,2),(13,2),(14,2),(16,2),(17,2),(18,2),(19,2),(15,0),(20,0),(21,2),(22,2)] [(23,2)] (λL w'=>L=[(0,.slice a0 p0.length u0),(1,vi p1),(5,vi v5),(20,.bool false),(21,vi v5),(22,.bool (decide (0<v5))),(23,.bool (decide (0<v5))),(34,.bool p34)]/\∃κ',Stp [] K17 w14 κ' w') (S18.cl R) ?_ ?_
 revert h
 cases ht24:decide (0<v5)
 refine JF λh=>Jn 7 R<|Je1 R R R R<|Je1 R R R R<|Jn 2 R ?_
 cases h
 exact Jv1 _ (S18.cl R) ⟨R,_,Jj3⟩<|KM R
 refine JT λh=>Jn 2 R<|Ob h λx26 hx26 h=>Jc3 R f13 hx26 U29 Z2<|Jn 3 R<|Ob h λx31 hx31 h=>Jc3 R f13 hx31 U29 Z2<|Jg R (Jc2 I2 R R<|hvC (f13.gInt hx26) R)<|Jg R (Jc2 I2 R R<|hvC (f13.gInt hx31) R)<|Jn 2 R ?_
 cases h
 exact Jv1 _ (S18.cl R) ⟨R,_,Jj3⟩<|KM R
 rintro _ w25 _ ⟨rfl,K26,S27⟩
 have h:=hK23
 refine Jn 1 R ?_
 cases h
 exact Jv1 _ ((S18.tr S27).cl R) ⟨R,_,S27.wk R⟩<|KM R
 refine JT λh=>Jn 10 R<|Je1 R R R R<|Je1 R R R R<|Jn 3 R ?_
 cases h
 exact Jv1 _ (S18.cl R) ⟨R,_,Jj3⟩<|KM R
 rintro _ w28 _ ⟨rfl,K29,S30⟩
 have h:=hK21
 refine Jt1<|Jd ?_
 revert h
 cases ht31:p35
 refine JF λh=>Jy R<|Js<|Jz<|Jp<|Jf3 R ?_
 have hw1:sh .i64 (v5+1)=v5+1:=wr1 hj1 (Jm2 hc1) hN1
 rw[hw1]
 have hc1:=Jm2 hc1
 cases h
 exact Jz1 λa ha=>⟨k,_,Ja3 _,⟨K29,v5+1,R,(T4 S9 S11 S18 S30).wk R,by omega,by omega,hk10⟩,(ha.mm R)⟩
 refine JT λh=>Jx R<|Je3 R<|Ju<|Ja1<|Jw<|Jw ?_
 cases h
 obtain rfl:=Option.some.inj hk10
 have h:=yL hK2
 refine Ja1<|Jq2<|Jw<|Ja2 (l:=[.tmp 4]) V210 (Jp2 R R) R ?_
 cases h
 exact⟨K29,R,(hE.stp (T4 S9 S11 S18 S30) R R)⟩
 rintro _ w4 ⟨K5,rfl,S6,rfl⟩
 have h:=yI hK2
 refine Jp<|Je3 R<|Ju<|Ja2 (l:=[.tmp 4]) V210 (Jp2 R R) R ?_
 cases h
 exact⟨K5,R,(hE.stp S6 R R)⟩
theorem ra {ad ac ab aa}{p0:Clause}{p1:Int}{p2:Int}(g0_1:Rd (Rp.int .i64) κ w 0 ad ac p0.A) (g0_2:Rd (Rp.int .i64) κ w 0 ab aa p0.B){r:Int}(h:kN p0 p1 p2=some r):Ret Tryz.prog 167 [.agg #[vi p0.Kind,.slice ad p0.A.length ac,.slice ab p0.B.length aa],vi p1,vi p2] w (Pvi κ w r):=by
 unfold kN at h
 refine Jk3 κ F167 R N167 R λhE=>Je [1,2] R<|Jf1 (κ:=κ) 2 R R R R R R R λb3 w1 K2 S3 f4=>Tv<|Jb 1 R<|Je [2,1,2,1,1,2] R<|Jd3 R U119 R Z29<|Jb3 R I29 (f4.ld 1 R R)<|Jn 1 R<|Ob h λx12 hx12 h=>Jh R R R C201 (lu (κ:=Mk K2) (Ji3<|g0_1.stp S3 R R) hx12) ?_
 rintro _ w6 ⟨k7,rfl,e8⟩
 obtain⟨K9,S10,m11⟩:=Ji e8 3 R
 refine Tv<|Ob h λx13 hx13 h=>Jh R R R C200 (me (κ:=Mk K9) hx13) ?_
 rintro _ w13 ⟨k14,rfl,e15⟩
 obtain⟨K16,S17,m18⟩:=Ji e15 5 R
 refine Tv<|Jb 1 R<|Je [2,1,2,1,1,2] R<|Jd3 R U119 R Z29 ?_
 have f20:=f4.stp (S10.tr S17) R R
 refine Jb3 R I29 (f20.ld 2 R R)<|Jn 1 R<|Ob h λx17 hx17 h=>Jh R R R C201 (lu (κ:=Mk K16) (Ji3<|g0_2.stp (T3 S3 S10 S17) R R) hx17) ?_
 rintro _ w22 ⟨k23,rfl,e24⟩
 obtain⟨K25,S26,m27⟩:=Ji e24 7 R
 refine Tv<|Ob h λx18 hx18 h=>Jh R R R C200 (me (κ:=Mk K25) hx18) ?_
 rintro _ w29 ⟨k30,rfl,e31⟩
 obtain⟨K32,S33,m34⟩:=Ji e31 9 R
 refine Tv<|Jb 1 R<|Jq<|Je [2,1] R<|Jd3 R U119 R Z2<|Jb3 R I2 ((f20.stp (S26.tr S33) R R).ld 0 R R)<|Jd<|Jv<|Je3 R ?_
 revert h
 cases ht37:(p0.Kind==1)
 refine JF λh=>Jy R<|Je3 R ?_
 revert h
 cases ht46:(p0.Kind==2)
 refine JF λh=>Jy R<|Je3 R ?_
 revert h
 cases ht60:(p0.Kind==3)
 refine JF λh=>Jy R<|Je3 R ?_
 revert h
 cases ht71:(p0.Kind==4)
 refine JF λh=>Jy R<|Je3 R ?_
 revert h
 cases ht73:(p0.Kind==5)
 refine JF λh=>Jy R<|Je3 R ?_
 revert h
 cases ht75:(p0.Kind==6)
 refine JF λh=>Jy R<|Js<|Jz<|Jp<|Je3 R<|Ju<|Ja2 (l:=[.tmp 6]) V167 (Jp2 R R) R ?_
 cases h
 exact⟨K32,R,(hE.stp (T5 S3 S10 S17 S26 S33) R R)⟩
 refine JT λh=>Jx R<|Jg3 [2,2,1,2] 2 R<|Ob h λx58 hx58 h=>Jh R R R C159 (jU (κ:=Mk K32) hx58) ?_
 rintro _ w76 ⟨k77,rfl,e78⟩
 obtain⟨K79,S80,m81⟩:=Ji e78 11 R
 refine Tv<|Jb 1 R<|Ju<|Ja1<|Jw<|Ja2 (l:=[.tmp 6]) V167 (Jp2 R R) R ?_
 cases h
 exact⟨K79,R,(hE.stp (T6 S3 S10 S17 S26 S33 S80) R R)⟩
 refine JT λh=>Jx R<|Je3 R<|Ju<|Ja1<|Jw<|Ja2 (l:=[.tmp 6]) V167 (Jp2 R R) R ?_
 cases h
 exact⟨K32,R,(hE.stp (T5 S3 S10 S17 S26 S33) R R)⟩
 refine JT λh=>Jx R<|Je3 R<|Ju<|Ja1<|Jw<|Ja2 (l:=[.tmp 6]) V167 (Jp2 R R) R ?_
 cases h
 exact⟨K32,R,(hE.stp (T5 S3 S10 S17 S26 S33) R R)⟩
 refine JT λh=>Jx R<|Jq<|Je3 R ?_
 revert h
 cases ht61:(x18==1)
 refine JF λh=>Jy R<|Js<|Jp<|Jg3 [2,2,1,2] 2 R<|Ob h λx46 hx46 h=>Jh R R R C159 (jU (κ:=Mk K32) hx46) ?_
 rintro _ w63 ⟨k64,rfl,e65⟩
 obtain⟨K66,S67,m68⟩:=Ji e65 11 R
 refine Tv<|Jb 1 R<|Ju<|Ja1<|Jw<|Ja2 (l:=[.tmp 6]) V167 (Jp2 R R) R ?_
 cases h
 exact⟨K66,R,(hE.stp (T6 S3 S10 S17 S26 S33 S67) R R)⟩
 refine JT λh=>Jx R<|Je3 R<|Ju<|Jw<|Ja1<|Jw<|Ja2 (l:=[.tmp 6]) V167 (Jp2 R R) R ?_
 cases h
 exact⟨K32,R,(hE.stp (T5 S3 S10 S17 S26 S33) R R)⟩
 refine JT λh=>Jx R<|Jq<|Jg3 [2,2,2,2,2,2,2,2,2,2] 3 R<|Ob h λp38 h hK47=>Ju1 [(3,2),(4,2),(5,2),(6,2),(7,2),(8,2),(9,2)] [] (λL w'=>L=[(7,vi x13),(38,.bool p38)]/\∃κ',Stp [] K32 w29 κ' w') tv ?_ ?_
 revert h
 cases ht48:(p1==2)
 refine JF λh=>Jn 3 R<|Ob h λp37 h hK49=>Ju1 [(6,2),(7,2),(8,2)] [(9,2)] (λL w'=>L=[(7,vi x13),(31,.bool false),(37,.bool p37)]/\∃κ',Stp [] K32 w29 κ' w') tv ?_ ?_
 revert h
 cases ht50:(p1==1)
 refine JF λh=>Jn 3 R ?_
 cases h
 exact Jv1 _ tv ⟨R,_,Jj3⟩<|KM R
 refine JT λh=>Jn 3 R ?_
 cases h
 exact Jv1 _ tv ⟨R,_,Jj3⟩<|KM R
 rintro _ w51 _ ⟨rfl,K52,S53⟩
 have h:=hK49
 refine Jn 1 R ?_
 cases h
 exact Jv1 _ tv ⟨R,_,S53.wk R⟩<|KM R
 refine JT λh=>Jn 7 R ?_
 cases h
 exact Jv1 _ tv ⟨R,_,Jj3⟩<|KM R
 rintro _ w54 _ ⟨rfl,K55,S56⟩
 have h:=hK47
 refine Jd ?_
 revert h
 cases ht57:p38
 refine JF λh=>Jy R<|Js<|Jp<|Je3 R<|Ju<|Ja1<|Jw<|Ja2 (l:=[.tmp 6]) V167 (Jp2 R R) R ?_
 cases h
 exact⟨K55,R,(hE.stp (T6 S3 S10 S17 S26 S33 S56) R R)⟩
 refine JT λh=>Jx R<|Je3 R<|Ju<|Jw<|Ja1<|Jw<|Ja2 (l:=[.tmp 6]) V167 (Jp2 R R) R ?_
 cases h
 exact⟨K55,R,(hE.stp (T6 S3 S10 S17 S26 S33 S56) R R)⟩
 refine JT λh=>Jx R<|Jg3 [2,2,2,1,2] 3 R<|Ob h λx26 hx26 h=>Jh R R R C159 (jU (κ:=Mk K32) hx26) ?_
 rintro _ w38 ⟨k39,rfl,e40⟩
 obtain⟨K41,S42,m43⟩:=Ji e40 11 R
 refine Tv<|Jb 1 R<|Ju<|Ja1<|Jw<|Ja2 (l:=[.tmp 6]) V167 (Jp2 R R) R ?_
 cases h
 exact⟨K41,R,(hE.stp (T6 S3 S10 S17 S26 S33 S42) R R)⟩
theorem fJ {a0 u0}{p0:(List Int)}{p1:Int}(g0:Rd (Rp.int .i64) κ w 0 a0 u0 p0){r:Bool}(h:eC p0 p1=some r):Ret Tryz.prog 104 [.slice a0 p0.length u0,vi p1] w (Pvb κ w r):=by
 unfold eC at h
 refine Jk3 κ F104 R N104 R λhE=>Je3 R<|Jq<|Je3 R ?_
 have hN1:(p0.length:Int)<=9223372036854775807:=g0.len_le
 refine Ob h λq2 hq3 hK2=>?_
 clear h
 refine Jx1 (λL w'=>∃κ',L=[]/\Stp [] κ w κ' w'/\q2=yk ()) ?_ ?_
 refine Jv<|Jy1 (λk L w'=>∃κ' v5,L=[(0,.slice a0 p0.length u0),(1,vi p1),(5,vi v5)]/\Stp [] κ w κ' w'/\0<=v5/\yn ((p0.length:Int)-v5)=k/\cntM (ga p0 p1) k v5 ()=some q2) ⟨_,_,⟨κ,0,R,Jj3,(by decide),(by simp),hq3⟩,(KM R)⟩ ?_
 rintro k _ w7 ⟨K8,v5,rfl,S9,hj1,hJ1,h⟩
 rcases k with _ | k
 have hk10:=h;obtain⟨o1,h⟩:=ca (yk (yl ()):Bool⊕((Unit)⊕(Unit)))
 have hc1:decide (v5<(p0.length:Int))=false:=Jo2 (by omega)
 refine Jq<|Jg3 [2,2,2,2] 2 R<|Jn3 R U29 R R<|Jb 1 R<|Jw2 R hc1<|Jc1<|Jt<|Jt ?_
 cases h
 have h:=hk10
 refine Jb1 ?_
 cases h
 exact Jw1 _ ⟨K8,R,S9.wk R,R⟩ KN
 obtain⟨o1,h,hk10⟩:=BI h;unfold ga at h
 have hc1:decide (v5<(p0.length:Int))=true:=Jn2 (by omega)
 refine Jq<|Jg3 [2,2,2,2] 2 R<|Jn3 R U29 R R<|Jb 1 R<|Jv2 R hc1<|Js<|Jp<|Jq<|Jv<|Jg3 [2,2,2,1,2,2,1,2] 2 R<|Ob h λx14 hx14 h=>Jc3 R g0 hx14 U29 Z2<|Jb3 R I2 ((g0.stp S9 R R).gInt hx14)<|Jn 2 R<|Ob h λx18 hx18 h=>Jh R R R C57 (cu (κ:=Mk K8) hx18) ?_
 rintro _ w12 ⟨k13,rfl,e14⟩
 obtain⟨K15,S16,m17⟩:=Ji e14 2 R
 refine Tv<|Jb 1 R ?_
 revert h
 cases ht19:(!x18)
 refine JF λh=>Jy R<|Js<|Jz<|Jp<|Jf3 R ?_
 have hw1:sh .i64 (v5+1)=v5+1:=wr1 hj1 (Jm2 hc1) hN1
 rw[hw1]
 have hc1:=Jm2 hc1
 cases h
 exact Jz1 λa ha=>⟨k,_,Ja3 _,⟨K15,v5+1,R,(S9.tr S16).wk R,by omega,by omega,hk10⟩,(ha.mm R)⟩
 refine JT λh=>Jx R<|Je3 R<|Ju<|Ja1<|Jw<|Jw ?_
 cases h
 obtain rfl:=Option.some.inj hk10
 have h:=yL hK2
 refine Ja1<|Jq2<|Jw<|Ja2 (l:=[.tmp 4]) V104 (Jp2 R R) R ?_
 cases h
 exact⟨K15,R,(hE.stp (S9.tr S16) R R)⟩
 rintro _ w4 ⟨K5,rfl,S6,rfl⟩
 have h:=yI hK2
 refine Jp<|Je3 R<|Ju<|Ja2 (l:=[.tmp 4]) V104 (Jp2 R R) R ?_
 cases h
 exact⟨K5,R,(hE.stp S6 R R)⟩
theorem nf {a0 u0}{p0:(List Pair)}{a1 u1}{p1:(List (List Int))}{p2:Int}(g0:Rd Pair.rp κ w 0 a0 u0 p0) (g1:Rd (Rp.sl (Rp.int .i64)) κ w 0 a1 u1 p1){r:(List Pair)}(h:ip p0 p1 p2=some r):Ret Tryz.prog 209 [.slice a0 p0.length u0,.slice a1 p1.length u1,vi p2] w (Pvs Pair.ep154 154 κ w r):=by
 unfold ip at h
 refine Jk3 κ F209 R N209 R λhE=>Je3 R<|Je [1,2] R<|Jo1 (κ:=κ) (E:=Pair.ep154) 2 R R R R R Y98 dG R λax az w1 K2 S3 f4=>Tv<|Jb 1 R<|Jq<|Je3 R ?_
 have hN5:(p0.length:Int)<=9223372036854775807:=g0.len_le
 refine Ob h λq2 hq7 hK6=>?_
 clear h
 refine Jx1 (λL w'=>∃κ',∃s3:(List Pair),∃ao an,L=[(7,.slice ao s3.length an)]/\Stp [2,3,4,5,6] K2 w1 κ' w'/\Oc Pair.ep154 154 κ' w' 2 ao an s3/\q2=yk s3) ?_ ?_
 refine Jv<|Jy1 (λk L w'=>∃κ' v8,∃s1:(List Pair),∃aa ab,L=[(0,.slice a0 p0.length u0),(1,.slice a1 p1.length u1),(2,vi p2),(7,.slice aa s1.length ab),(8,vi v8)]/\Stp [2,3,4,5,6] K2 w1 κ' w'/\Oc Pair.ep154 154 κ' w' 2 aa ab s1/\0<=v8/\yn ((p0.length:Int)-v8)=k/\cntM (fU p0 p1 p2) k v8 s1=some q2) ⟨_,_,⟨K2,0,(([]:List Pair):(List Pair)),ax,az,R,Jj3,f4,(by decide),(by simp),hq7⟩,(KM R)⟩ ?_
 rintro k _ w12 ⟨K13,v8,s1,aa,ab,rfl,S14,f15,hj5,hJ5,h⟩
 rcases k with _ | k
 have hk16:=h;obtain⟨o5,h⟩:=ca (yk (yl s1):(List Pair)⊕(((List Pair))⊕((List Pair))))
 have hc5:decide (v8<(p0.length:Int))=false:=Jo2 (by omega)
 refine Jq<|Jg3 [2,2,2,2] 2 R<|Jn3 R U98 R R<|Jb 1 R<|Jw2 R hc5<|Jc1<|Jt<|Jt ?_
 cases h
 have h:=hk16
 refine Jb1 ?_
 cases h
 exact Jw1 _ ⟨K13,s1,aa,ab,R,S14.wk R,f15,R⟩<|KM R
 obtain⟨o5,h,hk16⟩:=BI h;unfold fU at h
 have hc5:decide (v8<(p0.length:Int))=true:=Jn2 (by omega)
 refine Jq<|Jg3 [2,2,2,2] 2 R<|Jn3 R U98 R R<|Jb 1 R<|Jv2 R hc5<|Js<|Jp<|Jq<|Jv<|Je [2,1,1] R<|Jf R (bG (parts:=[]) (cells:=[.slice none 0 0,.slice none 0 0]) R R (by kernel_rfl))<|Jg1 (κ:=K13) 3 R R R R R X154 R λb9 w17 K18 S19 f20=>Tv<|Jj1 (κ:=K18) 3 (vc:=[.slice none 0 0,.slice none 0 0]) R R R R R R R Z154 R R f20 R λw21 S22 f23=>Tv<|Jd<|Jq<|Je3 R ?_
 have hN24:(p1.length:Int)<=9223372036854775807:=g1.len_le
 refine Ob h λq5 hq26 hK25=>?_
 clear h
 refine Jx1 (λL w'=>∃κ',∃s6:(List Int)×(List Int),∃ae ai ad ac,L=[(0,.slice a0 p0.length u0),(1,.slice a1 p1.length u1),(2,vi p2),(7,.slice aa s1.length ab),(8,vi v8),(9,.pointer (some ⟨b9,0,none⟩))]/\Stp [3,4,5] K18 w21 κ' w'/\Oc E6 2 κ' w' 4 ae ai s6.1/\Oc E6 2 κ' w' 5 ad ac s6.2/\Bc κ' w' 3 b9 154 [.slice ae s6.1.length ai,.slice ad s6.2.length ac]/\q5=yk s6) ?_ ?_
 refine Jv<|Jy1 (λk L w'=>∃κ' v10,∃s4:(List Int)×(List Int),∃am al af ah,L=[(0,.slice a0 p0.length u0),(1,.slice a1 p1.length u1),(2,vi p2),(7,.slice aa s1.length ab),(8,vi v8),(9,.pointer (some ⟨b9,0,none⟩)),(10,vi v10)]/\Stp [3,4,5] K18 w21 κ' w'/\Oc E6 2 κ' w' 4 am al s4.1/\Oc E6 2 κ' w' 5 af ah s4.2/\Bc κ' w' 3 b9 154 [.slice am s4.1.length al,.slice af s4.2.length ah]/\0<=v10/\yn ((p1.length:Int)-v10)=k/\cntM (fX p0 p1 p2 v8) k v10 s4=some q5) ⟨_,_,⟨K18,0,((([]:List Int):(List Int)),(([]:List Int):(List Int))),none,0,none,0,R,Jj3,Ow.nil,Ow.nil,f23,(by decide),(by simp),hq26⟩,(KM R)⟩ ?_
 rintro k _ w33 ⟨K34,v10,s4,am,al,af,ah,rfl,S35,f36,f37,f38,hj24,hJ24,h⟩
 rcases k with _ | k
 have hk39:=h;obtain⟨o24,h⟩:=ca (yk (yl s4):(List Pair)⊕(((List Int)×(List Int))⊕((List Int)×(List Int))))
 have hc24:decide (v10<(p1.length:Int))=false:=Jo2 (by omega)
 refine Jq<|Jg3 [2,2,2,2] 2 R<|Jn3 R U26 R R<|Jb 1 R<|Jw2 R hc24<|Jc1<|Jt<|Jt ?_
 cases h
 have h:=hk39
 refine Jb1 ?_
 cases h
 exact Jw1 _ ⟨K34,(s4.1,s4.2),am,al,af,ah,R,S35.wk R,f36,f37,f38,R⟩<|KM R
 obtain⟨o24,h,hk39⟩:=BI h;unfold fX at h
 have hc24:decide (v10<(p1.length:Int))=true:=Jn2 (by omega)
 refine Jq<|Jg3 [2,2,2,2] 2 R<|Jn3 R U26 R R<|Jb 1 R<|Jv2 R hc24<|Js<|Jp<|Jq<|Jv<|Jq<|Jq<|Js1 (κ:=K34) [0] none [(0,2),(1,2),(2,2),(3,2),(5,2),(6,2),(7,2),(9,2),(4,0),(8,0),(10,2),(11,0),(12,1)] [] (by kernel_rfl) (by kernel_rfl) λw41 S40=>Jn 2 R<|Ob h λx27 hx27 h=>Jc3 R g0 hx27 U98 Z154<|Jd3 R U154 R Z29<|Jn 2 R<|Ob h λx32 hx32 h=>Jc3 R g1 hx32 U26 Z29<|Jn 1 R ?_
 have f42:=g0.stp (T6 S3 S14 S19 S22 S35 S40) R R
 obtain⟨cse43,hre43,hle43⟩:=(f42).gSt hx27
 obtain⟨ae43_0,ue43_0,ae43_1,ue43_1,rfl,fe43_0,fe43_1⟩:=Pair.un hre43
 refine Jg R (Jc2 I29 R R<|hvC (λw' hw'=>hle43 w' hw' 0 _ R) R) ?_
 have f44:=g1.stp (T6 S3 S14 S19 S22 S35 S40) R R
 obtain⟨ax32,ux32,f45,hl46⟩:=f44.gSl hx32
 refine Jg R (Jc2 I29 R R<|hvC hl46 R)<|Ob h λx35 hx35 h=>Jc3 R f45 hx35 U29 Z2<|Jg R (Jc2 I2 R R<|hvC (f45.gInt hx35) R)<|Ob h λx37 hx37 h=>Jh R R R C201 (lu (κ:=Mk K34) (Ji3 fe43_0) hx37) ?_
 rintro _ w47 ⟨k48,rfl,e49⟩
 obtain⟨K50,S51,m52⟩:=Ji e49 6 R
 refine⟨(S51.cl R),Jt1<|Jd<|Ob h λq7 h hK54=>Jx1 (λL w'=>∃κ' aj ak,L=[(0,.slice a0 p0.length u0),(1,.slice a1 p1.length u1),(2,vi p2),(7,.slice aa s1.length ab),(8,vi v8),(9,.pointer (some ⟨b9,0,none⟩)),(10,vi v10)]/\Stp [3,4] K50 w47 κ' w'/\Oc E6 2 κ' w' 4 aj ak q7/\Bc κ' w' 3 b9 154 [.slice aj q7.length ak,.slice af s4.2.length ah]) ?_ ?_⟩
 revert h
 cases ht60:x37
 refine JF λh=>Jy R<|Js ?_
 cases h
 exact Jw1 _ ⟨K50,am,al,R,Jj3,(f36.stp (S40.tr S51) R R),(f38.stp (S40.tr S51) R R)⟩<|KM R
 refine JT λh=>Jx R<|Ja [2,1,2,1,1,2,1] R<|Jd3 R U154 R Z29 ?_
 have f61:=f38.stp (S40.tr S51) R R
 refine Jb3 R I29 (f61.ld 0 R R)<|Jn 1 R<|Jn1 (κ:=K50) (E:=E6) 8 [] (parts:=[(0,.tmp 40)]) (cells:=[vi v10]) (xs:=([v10]:List Int)) R R R R R R Y29 a8 R R R R R R R R R R ⟨[vi v10],[],Zl K50 w47 [],Zl K50 w47 [],R,Zl.sp (l1:=[]) (l2:=[]) R,Zl.sr (l1:=[]) (l2:=[]),R,R⟩ λaD aF w62 K63 S64 f65=>Tv<|Ob h λx42 hx42 h=>Jm1 (κ:=K63) (E:=E6) 4 [] R R R R R R R R R Y29 a8 R R R R (f36.stp (T3 S40 S51 S64) R R) (Sl.srcP (bM _) f65.rdc) bH hx42 R λaw av w67 K68 S69 f70=>Tv<|Jd3 R U154 R Z29<|Ji1 (κ:=K68) 3 (off:=0) (vc:=[.slice aw x42.length av]) (cs':=[.slice aw x42.length av,.slice af s4.2.length ah]) R R R R R R R Z29 R R (f61.stp (S64.tr S69) R R) R R λw72 S73 f74=>Tv<|Jo ?_
 cases h
 exact Jw1 _ ⟨K68,aw,av,R,(T3 S64 S69 S73).wk R,(f70.stp S73 R R),f74⟩<|KM R
 rintro _ w55 ⟨K56,aj,ak,rfl,S57,f58,f59⟩
 have h:=hK54
 refine Jp<|Jq<|Js1 (κ:=K56) [0] none [(0,2),(1,2),(2,2),(3,2),(5,2),(6,2),(7,2),(9,2),(4,0),(8,0),(10,2),(11,0),(12,1)] [] (by kernel_rfl) (by kernel_rfl) λw79 S78=>Jn 2 R<|Ob h λx46 hx46 h=>Jc3 R f42 hx46 U98 Z154<|Jd3 R U154 R Z29<|Jn 2 R<|Ob h λx51 hx51 h=>Jc3 R f44 hx51 U26 Z29<|Jn 1 R ?_
 obtain⟨cse81,hre81,hle81⟩:=((f42.stp (T3 S51 S57 S78) R R)).gSt hx46
 obtain⟨ae81_0,ue81_0,ae81_1,ue81_1,rfl,fe81_0,fe81_1⟩:=Pair.un hre81
 refine Jg R (Jc2 I29 R R<|hvC (λw' hw'=>hle81 w' hw' 1 _ R) R) ?_
 obtain⟨ax51,ux51,f83,hl84⟩:=(f44.stp (T3 S51 S57 S78) R R).gSl hx51
 refine Jg R (Jc2 I29 R R<|hvC hl84 R)<|Ob h λx54 hx54 h=>Jc3 R f83 hx54 U29 Z2<|Jg R (Jc2 I2 R R<|hvC (f83.gInt hx54) R)<|Ob h λx56 hx56 h=>Jh R R R C201 (lu (κ:=Mk K56) (Ji3 fe81_1) hx56) ?_
 rintro _ w85 ⟨k86,rfl,e87⟩
 obtain⟨K88,S89,m90⟩:=Ji e87 8 R
 refine⟨(S89.cl R),Jt1<|Jd<|Ob h λq8 h hK92=>Jx1 (λL w'=>∃κ' aq ap,L=[(0,.slice a0 p0.length u0),(1,.slice a1 p1.length u1),(2,vi p2),(7,.slice aa s1.length ab),(8,vi v8),(9,.pointer (some ⟨b9,0,none⟩)),(10,vi v10)]/\Stp [3,5] K88 w85 κ' w'/\Oc E6 2 κ' w' 5 aq ap q8/\Bc κ' w' 3 b9 154 [.slice aj q7.length ak,.slice aq q8.length ap]) ?_ ?_⟩
 revert h
 cases ht98:x56
 refine JF λh=>Jy R<|Js ?_
 cases h
 exact Jw1 _ ⟨K88,af,ah,R,Jj3,(f37.stp (T5 S40 S51 S57 S78 S89) R R),(f59.stp (S78.tr S89) R R)⟩<|KM R
 refine JT λh=>Jx R<|Ja [2,1,2,1,1,2,1] R<|Jd3 R U154 R Z29 ?_
 have f99:=f59.stp (S78.tr S89) R R
 refine Jb3 R I29 (f99.ld 1 R R)<|Jn 1 R<|Jn1 (κ:=K88) (E:=E6) 10 [] (parts:=[(0,.tmp 59)]) (cells:=[vi v10]) (xs:=([v10]:List Int)) R R R R R R Y29 a8 R R R R R R R R R R ⟨[vi v10],[],Zl K88 w85 [],Zl K88 w85 [],R,Zl.sp (l1:=[]) (l2:=[]) R,Zl.sr (l1:=[]) (l2:=[]),R,R⟩ λaE aC w100 K101 S102 f103=>Tv<|Ob h λx61 hx61 h=>Jm1 (κ:=K101) (E:=E6) 5 [] R R R R R R R R R Y29 a8 R R R R (f37.stp (T6 S40 S51 S57 S78 S89 S102) R R) (Sl.srcP (bM _) f103.rdc) bH hx61 R λau ar w105 K106 S107 f108=>Tv<|Jd3 R U154 R Z29<|Ji1 (κ:=K106) 3 (off:=1) (vc:=[.slice au x61.length ar]) (cs':=[.slice aj q7.length ak,.slice au x61.length ar]) R R R R R R R Z29 R R (f99.stp (S102.tr S107) R R) R R λw110 S111 f112=>Tv<|Jo ?_
 cases h
 exact Jw1 _ ⟨K106,au,ar,R,(T3 S102 S107 S111).wk R,(f108.stp S111 R R),f112⟩<|KM R
 rintro _ w93 ⟨K94,aq,ap,rfl,S95,f96,f97⟩
 have h:=hK92
 refine Jz<|Jp<|Jf3 R ?_
 have hw24:sh .i64 (v10+1)=v10+1:=wr1 hj24 (Jm2 hc24) hN24
 rw[hw24]
 have hc24:=Jm2 hc24
 cases h
 exact Jz1 λa ha=>⟨k,_,Ja3 _,⟨K94,v10+1,(q7,q8),aj,ak,aq,ap,R,(T7 S35 S40 S51 S57 S78 S89 S95).wk R,(f58.stp (T3 S78 S89 S95) R R),f96,f97,by omega,by omega,hk39⟩,(ha.mm R)⟩
 rintro _ w27 ⟨K28,s6,ae,ai,ad,ac,rfl,S29,f30,f31,f32,rfl⟩
 have h:=yI hK25
 refine Jp<|Jh3 [2,1,1,1,2] 1 R<|Jl tv R R R R (Jd2 (cs:=[.slice ae s6.1.length ai,.slice ad s6.2.length ac]) I154 Z154 R R R<|haE f32.cells)<|Jn1 (κ:=K28) (E:=Pair.ep154) 6 [4,5] (parts:=[(0,.tmp 64)]) (cells:=[.slice ae s6.1.length ai,.slice ad s6.2.length ac]) (xs:=([(⟨s6.1,s6.2⟩:Pair)]:List Pair)) R R R R R R Y98 dG R R R R R R R R R R ⟨[.slice ae s6.1.length ai,.slice ad s6.2.length ac],[],Zl K28 w27 [4,5],Zl K28 w27 [],R,Zl.sp (l1:=[4,5]) (l2:=[]) R,Zl.sr (l1:=[4,5]) (l2:=[]),⟨[.slice ae s6.1.length ai],[.slice ad s6.2.length ac],Zl K28 w27 [4],Zl K28 w27 [5],R,Zl.sp (l1:=[4]) (l2:=[5]) R,Zl.sr (l1:=[4]) (l2:=[5]),⟨_,_,R,f30⟩,⟨_,_,R,f31⟩⟩,R⟩ λaG aB w117 K118 S119 f120=>Tv<|Ob h λx66 hx66 h=>Jm1 (κ:=K118) (E:=Pair.ep154) 2 [6] R R R R R R R R R Y98 dG R R R R (f15.stp (T4 S19 S22 S29 S119) R R) f120.src (dz R) hx66 R λaA ay w122 K123 S124 f125=>Tv<|Jc 1 R<|Jz<|Jp<|Jf3 R ?_
 have hw5:sh .i64 (v8+1)=v8+1:=wr1 hj5 (Jm2 hc5) hN5
 rw[hw5]
 have hc5:=Jm2 hc5
 cases h
 exact Jz1 λa ha=>⟨k,_,Ja3 _,⟨K123,v8+1,x66,aA,ay,R,(T6 S14 S19 S22 S29 S119 S124).wk R,f125,by omega,by omega,hk16⟩,(ha.mm R)⟩
 rintro _ w8 ⟨K9,s3,ao,an,rfl,S10,f11,rfl⟩
 have h:=yI hK6
 refine Jp<|Je3 R<|Ju<|Ja2 (l:=[.tmp 6]) V209 (Jp2 R R) R ?_
 cases h
 exact⟨K9,ao,an,R,(hE.stp (S3.tr S10) R R),f11⟩
theorem dZ {p0:Sig}  {r:Int}(h:cH p0=some r):Ret Tryz.prog 72 [.agg #[vi p0.In,vi p0.Out]] w (Pvi κ w r):=by
 unfold cH at h
 refine Jk3 κ F72 R N72 R λhE=>Je [1,2] R<|Jf1 (κ:=κ) 2 R R R R R R R λb1 w1 K2 S3 f4=>Tv<|Jb 1 R<|Je [2,1,1,2] R<|Jd3 R U25 R Z2<|Jb3 R I2 (f4.ld 0 R R)<|Ob h λx5 hx5 h=>Jh R R R C59 (cv (κ:=Mk K2) hx5) ?_
 rintro _ w5 ⟨k6,rfl,e7⟩
 obtain⟨K8,S9,m10⟩:=Ji e7 3 R
 refine Tv<|Jb 1 R<|Ju<|Ja2 (l:=[.tmp 2]) V72 (Jp2 R R) R ?_
 cases h
 exact⟨K8,R,(hE.stp (S3.tr S9) R R)⟩
theorem si {a0 u0}{p0:(List Int)}{p1:Int}(g0:Rd (Rp.int .i64) κ w 0 a0 u0 p0){r:(List Int)}(h:iT p0 p1=some r):Ret Tryz.prog 168 [.slice a0 p0.length u0,vi p1] w (λv w'=>∃(κ':Col) (ra0:Option Addr) (ru0:Nat),v= .slice ra0 r.length ru0/\Ent κ w κ' w'/\Rd (Rp.int .i64) κ' w' 0 ra0 ru0 r):=by
 unfold iT at h
 refine Jk3 κ F168 R N168 R λhE=>Je3 R<|Je3 R<|Jq<|Ob h λq2 hq3 hK2=>?_
 clear h
 refine Jx1 (λL w'=>∃κ' s3,L=[(0,.slice a0 p0.length u0),(1,vi p1),(5,vi s3)]/\Stp [] κ w κ' w'/\q2=yk s3) ?_ ?_
 refine Jv<|Jy1 (λk L w'=>∃κ' s1,L=[(0,.slice a0 p0.length u0),(1,vi p1),(5,vi s1)]/\Stp [] κ w κ' w'/\bI (eY p0 p1) k s1=some q2) ⟨_,_,⟨κ,(0:Int),R,Jj3,hq3⟩,(KM R)⟩ ?_
 rintro k _ w7 ⟨K8,s1,rfl,S9,h⟩
 rcases k with _ | k
 cases h
 obtain⟨o1,h,hk10⟩:=BI h;unfold eY at h
 refine Jq<|Jg3 [2,2,2,2,2,2,2,2,1,2,2,2] 2 R<|Jn3 R U29 R R<|Jn 2 R<|Ob h λp18 h hK11=>Ju1 [(5,2),(6,2),(7,2),(8,1),(9,2),(10,2),(11,2)] [] (λL w'=>L=[(0,.slice a0 p0.length u0),(1,vi p1),(5,vi s1),(18,.bool p18)]/\∃κ',Stp [] K8 w7 κ' w') tv ?_ ?_
 revert h
 cases ht12:decide (s1<(p0.length:Int))
 refine JF λh=>Jn 3 R<|Jd1 R R R R<|Jn 3 R ?_
 cases h
 exact Jv1 _ tv ⟨R,_,Jj3⟩<|KM R
 refine JT λh=>Jn 2 R<|Ob h λx14 hx14 h=>Jc3 R g0 hx14 U29 Z2<|Jb3 R I2 ((g0.stp S9 R R).gInt hx14)<|Jn 3 R ?_
 cases h
 exact Jv1 _ tv ⟨R,_,Jj3⟩<|KM R
 rintro _ w14 _ ⟨rfl,K15,S16⟩
 have h:=hK11
 refine Jd ?_
 revert h
 cases ht17:p18
 refine JF λh=>Jy R<|Jc1<|Jt<|Jt ?_
 cases h
 have h:=hk10
 refine Jb1 ?_
 cases h
 exact Jw1 _ ⟨K15,s1,R,(S9.tr S16).wk R,R⟩<|KM R
 refine JT λh=>Jx R<|Js<|Jp<|Jv<|Jf3 R<|Jz ?_
 cases h
 exact Jz1 λa ha=>⟨k,_,Ja3 _,⟨K15,((IntKind.i64.wrap<|s1+1):Int),R,(S9.tr S16).wk R,hk10⟩,(ha.mm R)⟩
 rintro _ w4 ⟨K5,s3,rfl,S6,rfl⟩
 have h:=yI hK2
 refine Jp<|Jq<|Jg3 [2,2,2,2,2,2,2,2,1,2,2,2] 2 R<|Jn3 R U29 R R<|Jn 2 R<|Ob h λp32 h hK18=>Ju1 [(5,2),(6,2),(7,2),(8,1),(9,2),(10,2),(11,2)] [] (λL w'=>L=[(0,.slice a0 p0.length u0),(1,vi p1),(5,vi s3),(32,.bool p32)]/\∃κ',Stp [] K5 w4 κ' w') tv ?_ ?_
 revert h
 cases ht19:decide (s3<(p0.length:Int))
 refine JF λh=>Jn 3 R<|Jd1 R R R R<|Jn 3 R ?_
 cases h
 exact Jv1 _ tv ⟨R,_,Jj3⟩<|KM R
 refine JT λh=>Jn 2 R<|Ob h λx28 hx28 h=>Jc3 R g0 hx28 U29 Z2<|Jb3 R I2 ((g0.stp S6 R R).gInt hx28)<|Jn 3 R ?_
 cases h
 exact Jv1 _ tv ⟨R,_,Jj3⟩<|KM R
 rintro _ w21 _ ⟨rfl,K22,S23⟩
 have h:=hK18
 refine Jd ?_
 revert h
 cases ht24:p32
 refine JF λh=>Jy R<|Js<|Jp<|Jg3 [2,2,2,1,2,1,1,2] 2 R<|Ob h λx36 hx36 h=>Jf R (dE (k1:= .i64) (k2:= .i64) U29 Z2 (.inl ⟨R,R⟩) (.inr ⟨_,R,R⟩) hx36 g0.1 R R R) ?_
 have f28:=g0.stp (S6.tr S23) R R
 refine Ob h λx37 hx37 h=>Jh R R R C56 (ck (κ:=Mk K22) (Ji3<|f28.sub hx36) hx37) ?_
 rintro _ w29 ⟨k30,ae,ac,rfl,e31,f32⟩
 obtain⟨K33,S34,m35⟩:=Ji e31 2 R
 refine Tv<|Jn 1 R<|Jn1 (κ:=K33) (E:=E6) 5 [] (parts:=[(0,.tmp 38)]) (cells:=[vi p1]) (xs:=([p1]:List Int)) R R R R R R Y29 a8 R R R R R R R R R R ⟨[vi p1],[],Zl K33 w29 [],Zl K33 w29 [],R,Zl.sp (l1:=[]) (l2:=[]) R,Zl.sr (l1:=[]) (l2:=[]),R,R⟩ λad ah w38 K39 S40 f41=>Tv<|Ob h λx40 hx40 h=>Jm1 (κ:=K39) (E:=E6) 4 [] R R R R R R R R R Y29 a8 R R R R ((f32.mx (bD _) m35 R (R:2+2=4)).stp S40 R R) (Sl.srcP (bM _) f41.rdc) bH hx40 R λai af w43 K44 S45 f46=>Tv<|Jb 1 R<|Jg3 [2,2,2,2,1,2] 3 R<|Ob h λx44 hx44 h=>Jf R (dE (k1:= .i64) (k2:= .i64) U29 Z2 (.inr ⟨_,R,R⟩) (.inl ⟨R,R⟩) hx44 f28.1 R R R)<|Ob h λx45 hx45 h=>Jm1 (κ:=K44) (E:=E6) 4 [] R R R R R R R R R Y29 a8 R R R R f46 (Sl.srcP (bM _) ((f28.stp (T3 S34 S40 S45) R R).sub hx44)) bH hx45 R λab aa w49 K50 S51 f52=>Tv<|Jb 1 R<|Ju ?_
 obtain⟨K53,S54,z55⟩:=eR K50 w49 4
 refine Ja2 (l:=[.tmp 4]) V168 (Jp2 R R) R ?_
 cases h
 exact⟨K53,ab,aa,R,(hE.stp (T7 S6 S23 S34 S40 S45 S51 S54) R R),(Sl.st z55 f52.rdc)⟩
 refine JT λh=>Jx R<|Je3 R<|Ju<|Jw<|Ja2 (l:=[.tmp 4]) V168 (Jp2 R R) R ?_
 cases h
 exact⟨K22,a0,u0,R,(hE.stp (S6.tr S23) R R),(g0.stp (S6.tr S23) R R)⟩
theorem rC {a0 u0}{p0:(List Pair)}{a1 u1}{p1:(List Int)}{p2:Int}(g0:Rd Pair.rp κ w 0 a0 u0 p0) (g1:Rd (Rp.int .i64) κ w 0 a1 u1 p1){r:(List Int)}(h:iE p0 p1 p2=some r):Ret Tryz.prog 121 [.slice a0 p0.length u0,.slice a1 p1.length u1,vi p2] w (Pvs E6 2 κ w r):=by
 unfold iE at h
 refine Jk3 κ F121 R N121 R λhE=>Je3 R<|Je [1,2] R<|Jo1 (κ:=κ) (E:=E6) 2 R R R R R Y29 a8 R λan aq w1 K2 S3 f4=>Tv<|Jb 1 R<|Je [1,2] R<|Jo1 (κ:=K2) (E:=E6) 3 R R R R R Y29 a8 R λap aw w5 K6 S7 f8=>Tv<|Jb 1 R<|Jq<|Je3 R ?_
 have hN9:(p1.length:Int)<=9223372036854775807:=g1.len_le
 refine Ob h λq2 hq11 hK10=>?_
 clear h
 refine Jx1 (λL w'=>∃κ',∃s3:(List Int)×(List Int),∃al aj am ak,L=[(7,.slice al s3.1.length aj),(8,.slice am s3.2.length ak)]/\Stp [2,3] K6 w5 κ' w'/\Oc E6 2 κ' w' 2 al aj s3.1/\Oc E6 2 κ' w' 3 am ak s3.2/\q2=yk s3) ?_ ?_
 refine Jv<|Jy1 (λk L w'=>∃κ' v9,∃s1:(List Int)×(List Int),∃aa ac ad ab,L=[(0,.slice a0 p0.length u0),(1,.slice a1 p1.length u1),(2,vi p2),(7,.slice aa s1.1.length ac),(8,.slice ad s1.2.length ab),(9,vi v9)]/\Stp [2,3] K6 w5 κ' w'/\Oc E6 2 κ' w' 2 aa ac s1.1/\Oc E6 2 κ' w' 3 ad ab s1.2/\0<=v9/\yn ((p1.length:Int)-v9)=k/\cntM (eE p0 p1 p2) k v9 s1=some q2) ⟨_,_,⟨K6,0,((([]:List Int):(List Int)),(([]:List Int):(List Int))),an,aq,ap,aw,R,Jj3,(f4.stp S7 R R),f8,(by decide),(by simp),hq11⟩,(KM R)⟩ ?_
 rintro k _ w17 ⟨K18,v9,s1,aa,ac,ad,ab,rfl,S19,f20,f21,hj9,hJ9,h⟩
 rcases k with _ | k
 have hk23:=h;obtain⟨o9,h⟩:=ca (yk (yl s1):(List Int)⊕(((List Int)×(List Int))⊕((List Int)×(List Int))))
 have hc9:decide (v9<(p1.length:Int))=false:=Jo2 (by omega)
 refine Jq<|Jg3 [2,2,2,2] 2 R<|Jn3 R U29 R R<|Jb 1 R<|Jw2 R hc9<|Jc1<|Jt<|Jt ?_
 cases h
 have h:=hk23
 refine Jb1 ?_
 cases h
 exact Jw1 _ ⟨K18,(s1.1,s1.2),aa,ac,ad,ab,R,S19.wk R,f20,f21,R⟩<|KM R
 obtain⟨o9,h,hk23⟩:=BI h;unfold eE at h
 have hc9:decide (v9<(p1.length:Int))=true:=Jn2 (by omega)
 refine Jq<|Jg3 [2,2,2,2] 2 R<|Jn3 R U29 R R<|Jb 1 R<|Jv2 R hc9<|Js<|Jp<|Jq<|Jv<|Jg3 [2,2,2,2,1,2,2,1,2,1] 3 R<|Ob h λx21 hx21 h=>Jc3 R g1 hx21 U29 Z2 ?_
 have f24:=g1.stp (T3 S3 S7 S19) R R
 refine Jb3 R I2 (f24.gInt hx21)<|Ob h λx23 hx23 h=>Jc3 R g0 hx23 U98 Z154<|Jd3 R U154 R Z29 ?_
 obtain⟨cse26,hre26,hle26⟩:=((g0.stp (T3 S3 S7 S19) R R)).gSt hx23
 obtain⟨ae26_0,ue26_0,ae26_1,ue26_1,rfl,fe26_0,fe26_1⟩:=Pair.un hre26
 refine Jb3 R I29 (λw' hw'=>hle26 w' hw' 1 _ R)<|Jn 1 R<|Ob h λx27 hx27 h=>Jh R R R C171 (lU (κ:=Mk K18) (Ji3 fe26_1) hx27) ?_
 rintro _ w27 ⟨k28,rfl,e29⟩
 obtain⟨K30,S31,m32⟩:=Ji e29 4 R
 refine Tv<|Jd<|Ob h λq4 h hK34=>Jx1 (λL w'=>∃κ' ai ah af ae,L=[(0,.slice a0 p0.length u0),(1,.slice a1 p1.length u1),(2,vi p2),(7,.slice ai q4.1.length ah),(8,.slice af q4.2.length ae),(9,vi v9)]/\Stp [2,3] K30 w27 κ' w'/\Oc E6 2 κ' w' 2 ai ah q4.1/\Oc E6 2 κ' w' 3 af ae q4.2) ?_ ?_
 revert h
 cases ht40:x27
 refine JF λh=>Jy R<|Jh3 [2,2,2,2,1,1,1,2] 3 R<|Ob h λx38 hx38 h=>Jc3 R f24 hx38 U29 Z2<|Jb3 R I2 ((f24.stp S31 R R).gInt hx38)<|Jn1 (κ:=K30) (E:=E6) 6 [] (parts:=[(0,.tmp 39)]) (cells:=[vi x38]) (xs:=([x38]:List Int)) R R R R R R Y29 a8 R R R R R R R R R R ⟨[vi x38],[],Zl K30 w27 [],Zl K30 w27 [],R,Zl.sp (l1:=[]) (l2:=[]) R,Zl.sr (l1:=[]) (l2:=[]),R,R⟩ λaB az w53 K54 S55 f56=>Tv<|Ob h λx41 hx41 h=>Jm1 (κ:=K54) (E:=E6) 3 [] R R R R R R R R R Y29 a8 R R R R (f21.stp (S31.tr S55) R R) (Sl.srcP (bM _) f56.rdc) bH hx41 R λar av w58 K59 S60 f61=>Tv<|Jc 1 R ?_
 cases h
 exact Jw1 _ ⟨K59,aa,ac,ar,av,R,(S55.tr S60).wk R,(f20.stp (T3 S31 S55 S60) R R),f61⟩<|KM R
 refine JT λh=>Jx R<|Jh3 [2,2,2,2,1,1,1,2] 3 R<|Ob h λx31 hx31 h=>Jc3 R f24 hx31 U29 Z2<|Jb3 R I2 ((f24.stp S31 R R).gInt hx31)<|Jn1 (κ:=K30) (E:=E6) 6 [] (parts:=[(0,.tmp 32)]) (cells:=[vi x31]) (xs:=([x31]:List Int)) R R R R R R Y29 a8 R R R R R R R R R R ⟨[vi x31],[],Zl K30 w27 [],Zl K30 w27 [],R,Zl.sp (l1:=[]) (l2:=[]) R,Zl.sr (l1:=[]) (l2:=[]),R,R⟩ λaA aC w42 K43 S44 f45=>Tv<|Ob h λx34 hx34 h=>Jm1 (κ:=K43) (E:=E6) 2 [] R R R R R R R R R Y29 a8 R R R R (f20.stp (S31.tr S44) R R) (Sl.srcP (bM _) f45.rdc) bH hx34 R λax au w47 K48 S49 f50=>Tv<|Jc 1 R ?_
 cases h
 exact Jw1 _ ⟨K48,ax,au,ad,ab,R,(S44.tr S49).wk R,f50,(f21.stp (T3 S31 S44 S49) R R)⟩<|KM R
 rintro _ w35 ⟨K36,ai,ah,af,ae,rfl,S37,f38,f39⟩
 have h:=hK34
 refine Jz<|Jp<|Jf3 R ?_
 have hw9:sh .i64 (v9+1)=v9+1:=wr1 hj9 (Jm2 hc9) hN9
 rw[hw9]
 have hc9:=Jm2 hc9
 cases h
 exact Jz1 λa ha=>⟨k,_,Ja3 _,⟨K36,v9+1,(q4.1,q4.2),ai,ah,af,ae,R,(T3 S19 S31 S37).wk R,f38,f39,by omega,by omega,hk23⟩,(ha.mm R)⟩
 rintro _ w12 ⟨K13,s3,al,aj,am,ak,rfl,S14,f15,f16,rfl⟩
 have h:=yI hK10
 refine Jp<|Jg3 [2,2,1,2] 2 R<|Ob h λx44 hx44 h=>Jm1 (κ:=K13) (E:=E6) 2 [] R R R R R R R R R Y29 a8 R R R R f15 (Sl.srcP (bM _) f16.rdc) bH hx44 R λao ay w63 K64 S65 f66=>Tv<|Jb 1 R<|Ju<|Ja2 (l:=[.tmp 6]) V121 (Jp2 R R) R ?_
 cases h
 exact⟨K64,ao,ay,R,(hE.stp (T4 S3 S7 S14 S65) R R),f66⟩
theorem rR {a0 u0}{p0:(List Place)}{p1:Int}{a2 u2}{p2:(List Int)}(g0:Rd Place.rp κ w 0 a0 u0 p0) (g2:Rd (Rp.int .i64) κ w 0 a2 u2 p2){r:Int}(h:kD p0 p1 p2=some r):Ret Tryz.prog 122 [.slice a0 p0.length u0,vi p1,.slice a2 p2.length u2] w (Pvi κ w r):=by
 unfold kD at h
 refine Jk3 κ F122 R N122 R λhE=>Je3 R<|Jq<|Je3 R ?_
 have hN1:(p0.length:Int)<=9223372036854775807:=g0.len_le
 refine Ob h λq2 hq3 hK2=>?_
 clear h
 refine Jx1 (λL w'=>∃κ',L=[]/\Stp [] κ w κ' w'/\q2=yk ()) ?_ ?_
 refine Jv<|Jy1 (λk L w'=>∃κ' v7,L=[(0,.slice a0 p0.length u0),(1,vi p1),(2,.slice a2 p2.length u2),(7,vi v7)]/\Stp [] κ w κ' w'/\0<=v7/\yn ((p0.length:Int)-v7)=k/\cntM (ia p0 p1 p2) k v7 ()=some q2) ⟨_,_,⟨κ,0,R,Jj3,(by decide),(by simp),hq3⟩,(KM R)⟩ ?_
 rintro k _ w7 ⟨K8,v7,rfl,S9,hj1,hJ1,h⟩
 rcases k with _ | k
 have hk10:=h;obtain⟨o1,h⟩:=ca (yk (yl ()):Int⊕((Unit)⊕(Unit)))
 have hc1:decide (v7<(p0.length:Int))=false:=Jo2 (by omega)
 refine Jq<|Jg3 [2,2,2,2] 2 R<|Jn3 R U109 R R<|Jb 1 R<|Jw2 R hc1<|Jc1<|Jt<|Jt ?_
 cases h
 have h:=hk10
 refine Jb1 ?_
 cases h
 exact Jw1 _ ⟨K8,R,S9.wk R,R⟩ KN
 obtain⟨o1,h,hk10⟩:=BI h;unfold ia at h
 have hc1:decide (v7<(p0.length:Int))=true:=Jn2 (by omega)
 refine Jq<|Jg3 [2,2,2,2] 2 R<|Jn3 R U109 R R<|Jb 1 R<|Jv2 R hc1<|Js<|Jp<|Jq<|Jv<|Jg3 [2,2,2,2,1,2,2,2,2,2,2,2,1,2,1,2] 2 R<|Ob h λx16 hx16 h=>Jc3 R g0 hx16 U109 Z116<|Jd3 R U116 R Z2 ?_
 have f11:=g0.stp S9 R R
 obtain⟨cse12,hre12,hle12⟩:=(f11).gSt hx16
 obtain⟨ae12_0,ue12_0,rfl,fe12_0⟩:=Place.un hre12
 refine Jb3 R I2 (λw' hw'=>hle12 w' hw' 0 _ R)<|Jn 3 R<|Ob h λp29 h hK13=>Ju1 [(8,2),(9,2),(10,2),(11,2),(12,1),(13,2),(14,1),(15,2)] [] (λL w'=>L=[(0,.slice a0 p0.length u0),(1,vi p1),(2,.slice a2 p2.length u2),(7,vi v7),(29,.bool p29)]/\∃κ',Stp [] K8 w7 κ' w') tv ?_ ?_
 revert h
 cases ht14:(x16.At==p1)
 refine JF λh=>Jn 4 R<|Jd1 R R R R<|Jn 1 R<|Jd1 R R R R<|Jn 1 R ?_
 cases h
 exact Jv1 _ tv ⟨R,_,Jj3⟩<|KM R
 refine JT λh=>Jn 2 R<|Ob h λx24 hx24 h=>Jc3 R f11 hx24 U109 Z116<|Jd3 R U116 R Z29 ?_
 obtain⟨cse15,hre15,hle15⟩:=(f11).gSt hx24
 obtain⟨ae15_0,ue15_0,rfl,fe15_0⟩:=Place.un hre15
 refine Jb3 R I29 (λw' hw'=>hle15 w' hw' 1 _ R)<|Jn 1 R<|Ob h λx28 hx28 h=>Jh R R R C172 (oB (κ:=Mk K8) (Ji3 fe15_0) (Ji3<|g2.stp S9 R R) hx28) ?_
 rintro _ w17 ⟨k18,rfl,e19⟩
 obtain⟨K20,S21,m22⟩:=Ji e19 2 R
 refine Tv<|Jn 1 R ?_
 cases h
 exact Jv1 _ tv ⟨R,_,S21.wk R⟩<|KM R
 rintro _ w24 _ ⟨rfl,K25,S26⟩
 have h:=hK13
 refine Jd ?_
 revert h
 cases ht27:p29
 refine JF λh=>Jy R<|Js<|Jz<|Jp<|Jf3 R ?_
 have hw1:sh .i64 (v7+1)=v7+1:=wr1 hj1 (Jm2 hc1) hN1
 rw[hw1]
 have hc1:=Jm2 hc1
 cases h
 exact Jz1 λa ha=>⟨k,_,Ja3 _,⟨K25,v7+1,R,(S9.tr S26).wk R,by omega,by omega,hk10⟩,(ha.mm R)⟩
 refine JT λh=>Jx R<|Je3 R<|Ju<|Ja1<|Jw<|Jw ?_
 cases h
 obtain rfl:=Option.some.inj hk10
 have h:=yL hK2
 refine Ja1<|Jq2<|Jw<|Ja2 (l:=[.tmp 6]) V122 (Jp2 R R) R ?_
 cases h
 exact⟨K25,R,(hE.stp (S9.tr S26) R R)⟩
 rintro _ w4 ⟨K5,rfl,S6,rfl⟩
 have h:=yI hK2
 refine Jp<|Je3 R<|Ju<|Ja2 (l:=[.tmp 6]) V122 (Jp2 R R) R ?_
 cases h
 exact⟨K5,R,(hE.stp S6 R R)⟩
theorem qZ {a0 u0}{p0:(List Pair)}{a1 u1}{p1:(List Int)}{p2:Int}(g0:Rd Pair.rp κ w 0 a0 u0 p0) (g1:Rd (Rp.int .i64) κ w 0 a1 u1 p1){r:Int}(h:iA p0 p1 p2=some r):Ret Tryz.prog 124 [.slice a0 p0.length u0,.slice a1 p1.length u1,vi p2] w (Pvi κ w r):=by
 unfold iA at h
 refine Jk3 κ F124 R N124 R λhE=>Je3 R<|Je3 R<|Je3 R<|Jq<|Je3 R ?_
 have hN1:(p1.length:Int)<=9223372036854775807:=g1.len_le
 refine Ob h λq2 hq3 hK2=>?_
 clear h
 refine Jx1 (λL w'=>∃κ',∃s3:Int×Int,L=[(7,vi s3.1),(8,vi s3.2)]/\Stp [] κ w κ' w'/\q2=yk s3) ?_ ?_
 refine Jv<|Jy1 (λk L w'=>∃κ' v9,∃s1:Int×Int,L=[(0,.slice a0 p0.length u0),(1,.slice a1 p1.length u1),(2,vi p2),(7,vi s1.1),(8,vi s1.2),(9,vi v9)]/\Stp [] κ w κ' w'/\0<=v9/\yn ((p1.length:Int)-v9)=k/\cntM (eu p0 p1 p2) k v9 s1=some q2) ⟨_,_,⟨κ,0,(((-1):Int),((-1):Int)),R,Jj3,(by decide),(by simp),hq3⟩,(KM R)⟩ ?_
 rintro k _ w7 ⟨K8,v9,s1,rfl,S9,hj1,hJ1,h⟩
 rcases k with _ | k
 have hk10:=h;obtain⟨o1,h⟩:=ca (yk (yl s1):Int⊕((Int×Int)⊕(Int×Int)))
 have hc1:decide (v9<(p1.length:Int))=false:=Jo2 (by omega)
 refine Jq<|Jg3 [2,2,2,2] 2 R<|Jn3 R U29 R R<|Jb 1 R<|Jw2 R hc1<|Jc1<|Jt<|Jt ?_
 cases h
 have h:=hk10
 refine Jb1 ?_
 cases h
 exact Jw1 _ ⟨K8,(s1.1,s1.2),R,S9.wk R,R⟩<|KM R
 obtain⟨o1,h,hk10⟩:=BI h;unfold eu at h
 have hc1:decide (v9<(p1.length:Int))=true:=Jn2 (by omega)
 refine Jq<|Jg3 [2,2,2,2] 2 R<|Jn3 R U29 R R<|Jb 1 R<|Jv2 R hc1<|Js<|Jp<|Jq<|Jv<|Jq<|Jg3 [2,2,2,2,1,2,2,1,2,1] 3 R<|Ob h λx19 hx19 h=>Jc3 R g1 hx19 U29 Z2 ?_
 have f11:=g1.stp S9 R R
 refine Jb3 R I2 (f11.gInt hx19)<|Ob h λx21 hx21 h=>Jc3 R g0 hx21 U98 Z154<|Jd3 R U154 R Z29 ?_
 have f12:=g0.stp S9 R R
 obtain⟨cse13,hre13,hle13⟩:=(f12).gSt hx21
 obtain⟨ae13_0,ue13_0,ae13_1,ue13_1,rfl,fe13_0,fe13_1⟩:=Pair.un hre13
 refine Jb3 R I29 (λw' hw'=>hle13 w' hw' 0 _ R)<|Jn 1 R<|Ob h λx25 hx25 h=>Jh R R R C171 (lU (κ:=Mk K8) (Ji3 fe13_0) hx25) ?_
 rintro _ w14 ⟨k15,rfl,e16⟩
 obtain⟨K17,S18,m19⟩:=Ji e16 2 R
 refine Tv<|Jd<|Ob h λq4 h hK21=>Jx1 (λL w'=>∃κ',L=[(0,.slice a0 p0.length u0),(1,.slice a1 p1.length u1),(2,vi p2),(7,vi q4),(8,vi s1.2),(9,vi v9)]/\Stp [] K17 w14 κ' w') ?_ ?_
 revert h
 cases ht25:x25
 refine JF λh=>Jy R<|Js ?_
 cases h
 exact Jw1 _ ⟨K17,R,Jj3⟩<|KM R
 refine JT λh=>Jx R<|Jf3 R ?_
 cases h
 exact Jw1 _ ⟨K17,R,Jj3⟩<|KM R
 rintro _ w22 ⟨K23,rfl,S24⟩
 have h:=hK21
 refine Jp<|Jg3 [2,2,2,2,1,2,2,1,2,1] 3 R<|Ob h λx30 hx30 h=>Jc3 R f11 hx30 U29 Z2<|Jb3 R I2 ((f11.stp (S18.tr S24) R R).gInt hx30)<|Ob h λx32 hx32 h=>Jc3 R f12 hx32 U98 Z154<|Jd3 R U154 R Z29 ?_
 obtain⟨cse28,hre28,hle28⟩:=((f12.stp (S18.tr S24) R R)).gSt hx32
 obtain⟨ae28_0,ue28_0,ae28_1,ue28_1,rfl,fe28_0,fe28_1⟩:=Pair.un hre28
 refine Jb3 R I29 (λw' hw'=>hle28 w' hw' 1 _ R)<|Jn 1 R<|Ob h λx36 hx36 h=>Jh R R R C171 (lU (κ:=Mk K23) (Ji3 fe28_1) hx36) ?_
 rintro _ w29 ⟨k30,rfl,e31⟩
 obtain⟨K32,S33,m34⟩:=Ji e31 4 R
 refine Tv<|Jd<|Ob h λq5 h hK36=>Jx1 (λL w'=>∃κ',L=[(0,.slice a0 p0.length u0),(1,.slice a1 p1.length u1),(2,vi p2),(7,vi q4),(8,vi q5),(9,vi v9)]/\Stp [] K32 w29 κ' w') ?_ ?_
 revert h
 cases ht40:x36
 refine JF λh=>Jy R<|Js ?_
 cases h
 exact Jw1 _ ⟨K32,R,Jj3⟩<|KM R
 refine JT λh=>Jx R<|Jf3 R ?_
 cases h
 exact Jw1 _ ⟨K32,R,Jj3⟩<|KM R
 rintro _ w37 ⟨K38,rfl,S39⟩
 have h:=hK36
 refine Jz<|Jp<|Jf3 R ?_
 have hw1:sh .i64 (v9+1)=v9+1:=wr1 hj1 (Jm2 hc1) hN1
 rw[hw1]
 have hc1:=Jm2 hc1
 cases h
 exact Jz1 λa ha=>⟨k,_,Ja3 _,⟨K38,v9+1,(q4,q5),R,(T5 S9 S18 S24 S33 S39).wk R,by omega,by omega,hk10⟩,(ha.mm R)⟩
 rintro _ w4 ⟨K5,s3,rfl,S6,rfl⟩
 have h:=yI hK2
 refine Jp<|Jq<|Jv<|Jg3 [2,2,2,2,2,2,2] 3 R<|Ob h λp44 h hK41=>Ju1 [(3,2),(4,2),(5,2)] [(6,2)] (λL w'=>L=[(7,vi s3.1),(8,vi s3.2),(44,.bool p44)]/\∃κ',Stp [] K5 w4 κ' w') tv ?_ ?_
 revert h
 cases ht42:decide (s3.1<0)
 refine JF λh=>Jn 3 R ?_
 cases h
 exact Jv1 _ tv ⟨R,_,Jj3⟩<|KM R
 refine JT λh=>Jn 3 R ?_
 cases h
 exact Jv1 _ tv ⟨R,_,Jj3⟩<|KM R
 rintro _ w43 _ ⟨rfl,K44,S45⟩
 have h:=hK41
 refine Jb 1 R ?_
 revert h
 cases ht46:p44
 refine JF λh=>Jy R<|Je3 R ?_
 revert h
 cases ht48:decide (s3.2<s3.1)
 refine JF λh=>Jy R<|Js<|Jz<|Jp<|Je3 R<|Ju<|Ja2 (l:=[.tmp 6]) V124 (Jp2 R R) R ?_
 cases h
 exact⟨K44,R,(hE.stp (S6.tr S45) R R)⟩
 refine JT λh=>Jx R<|Je3 R<|Ju<|Ja1<|Jw<|Ja2 (l:=[.tmp 6]) V124 (Jp2 R R) R ?_
 cases h
 exact⟨K44,R,(hE.stp (S6.tr S45) R R)⟩
 refine JT λh=>Jx R<|Je3 R<|Ju<|Ja1<|Jw<|Ja2 (l:=[.tmp 6]) V124 (Jp2 R R) R ?_
 cases h
 exact⟨K44,R,(hE.stp (S6.tr S45) R R)⟩
theorem rG {ab ad aa af ac ae}{p0:Parity}{a1 u1}{p1:(List Int)}(g0_0_0:Rd (Rp.int .i64) κ w 0 ab ad p0.Arena.Owner) (g0_0_1:Rd (Rp.sl (Rp.int .i64)) κ w 0 aa af p0.Arena.Next) (g0_1:Rd (Rp.int .i64) κ w 0 ac ae p0.Prio) (g1:Rd (Rp.int .i64) κ w 0 a1 u1 p1){r:Bool}(h:kB p0 p1=some r):Ret Tryz.prog 239 [.agg #[.slice ab p0.Arena.Owner.length ad,.slice aa p0.Arena.Next.length af,.slice ac p0.Prio.length ae],.slice a1 p1.length u1] w (Pvb κ w r):=by
 unfold kB at h
 refine Jk3 κ F239 R N239 R λhE=>Je [1,2] R<|Jf1 (κ:=κ) 2 R R R R R R R λb2 w1 K2 S3 f4=>Tv<|Jb 1 R<|Jq<|Jg3 [2,2,2,1,2,2] 1 R<|Jn3 R U29 R R<|Jd3 R U108 R Z29<|Jb3 R I29 (f4.ld 2 R R)<|Jn3 R U29 R R<|Jb 1 R ?_
 revert h
 cases ht5:((p1.length:Int) !=(p0.Prio.length:Int))
 refine JF λh=>Jy R<|Js<|Jp<|Jq<|Je3 R ?_
 have hN7:(p1.length:Int)<=9223372036854775807:=g1.len_le
 refine Ob h λq2 hq9 hK8=>?_
 clear h
 refine Jx1 (λL w'=>∃κ',L=[]/\Stp [] K2 w1 κ' w'/\q2=yk ()) ?_ ?_
 refine Jv<|Jy1 (λk L w'=>∃κ' v5,L=[(1,.slice a1 p1.length u1),(2,.pointer (some ⟨b2,0,none⟩)),(5,vi v5)]/\Stp [] K2 w1 κ' w'/\0<=v5/\yn ((p1.length:Int)-v5)=k/\cntM (gD p0 p1) k v5 ()=some q2) ⟨_,_,⟨K2,0,R,Jj3,(by decide),(by simp),hq9⟩,(KM R)⟩ ?_
 rintro k _ w13 ⟨K14,v5,rfl,S15,hj7,hJ7,h⟩
 rcases k with _ | k
 have hk16:=h;obtain⟨o7,h⟩:=ca (yk (yl ()):Bool⊕((Unit)⊕(Unit)))
 have hc7:decide (v5<(p1.length:Int))=false:=Jo2 (by omega)
 refine Jq<|Jg3 [2,2,2,2] 2 R<|Jn3 R U29 R R<|Jb 1 R<|Jw2 R hc7<|Jc1<|Jt<|Jt ?_
 cases h
 have h:=hk16
 refine Jb1 ?_
 cases h
 exact Jw1 _ ⟨K14,R,S15.wk R,R⟩ KN
 obtain⟨o7,h,hk16⟩:=BI h;unfold gD at h
 have hc7:decide (v5<(p1.length:Int))=true:=Jn2 (by omega)
 refine Jq<|Jg3 [2,2,2,2] 2 R<|Jn3 R U29 R R<|Jb 1 R<|Jv2 R hc7<|Js<|Jp<|Jq<|Jv<|Jq<|Js1 (κ:=K14) [0,2] none [(0,2),(1,2),(2,2),(3,0),(4,2),(5,2),(6,2),(7,2),(9,2),(12,2),(13,2),(14,2),(8,0),(10,2),(11,0),(15,0),(16,1),(17,2),(18,2)] [] (by kernel_rfl) (by kernel_rfl) λw18 S17=>Jn 2 R<|Ob h λx20 hx20 h=>Jc3 R g1 hx20 U29 Z2 ?_
 have f19:=g1.stp (T3 S3 S15 S17) R R
 refine Jg R (Jc2 I2 R R<|hvC (f19.gInt hx20) R)<|Jn 2 R<|Ob h λp36 h hK20=>Ju1 [(6,2),(7,2),(9,2),(12,2),(13,2),(14,2),(8,0),(10,2),(11,0),(15,0),(16,1),(17,2),(18,2)] [] (λL w'=>L=[(1,.slice a1 p1.length u1),(2,.pointer (some ⟨b2,0,none⟩)),(5,vi v5),(36,.bool p36)]/\∃κ',Stp [] K14 w18 κ' w') (Cl.refl _ _ _) ?_ ?_
 revert h
 cases ht21:(x20 !=(-1))
 refine JF λh=>Jn 6 R<|Je1 R R R R<|Jn 1 R<|Je1 R R R R<|Je1 R R R R<|Jd1 R R R R<|Jn 2 R ?_
 cases h
 exact Jv1 _ (Cl.refl _ _ _) ⟨R,_,Jj3⟩<|KM R
 refine JT λh=>Jd3 R U108 R Z104<|Jd3 R U104 R Z26<|Jn 3 R<|Ob h λx32 hx32 h=>Jc3 R f19 hx32 U29 Z2<|Jg R (Jc2 I26 R R<|hvC ((f4.stp (S15.tr S17) R R).ld 1 R R) R)<|Ob h λx28 hx28 h=>Jc3 R g0_0_1 hx28 U26 Z29 ?_
 obtain⟨ax28,ux28,f24,hl25⟩:=(g0_0_1.stp (T3 S3 S15 S17) R R).gSl hx28
 refine Jg R (Jc2 I29 R R<|hvC hl25 R)<|Jg R (Jc2 I2 R R<|hvC (f19.gInt hx32) R)<|Ob h λx34 hx34 h=>Jh R R R C252 (rH (κ:=Mk K14) (Ji3 f24) hx34) ?_
 rintro _ w26 ⟨k27,rfl,e28⟩
 obtain⟨K29,S30,m31⟩:=Ji e28 3 R
 refine⟨(S30.cl R),Jn 2 R ?_⟩
 cases h
 exact Jv1 _ (S30.cl R) ⟨R,_,S30.wk R⟩<|KM R
 rintro _ w33 _ ⟨rfl,K34,S35⟩
 have h:=hK20
 refine Jt1<|Jd ?_
 revert h
 cases ht36:p36
 refine JF λh=>Jy R<|Js<|Jz<|Jp<|Jf3 R ?_
 have hw7:sh .i64 (v5+1)=v5+1:=wr1 hj7 (Jm2 hc7) hN7
 rw[hw7]
 have hc7:=Jm2 hc7
 cases h
 exact Jz1 λa ha=>⟨k,_,Ja3 _,⟨K34,v5+1,R,(T3 S15 S17 S35).wk R,by omega,by omega,hk16⟩,(ha.mm R)⟩
 refine JT λh=>Jx R<|Je3 R<|Ju<|Ja1<|Jw<|Jw ?_
 cases h
 obtain rfl:=Option.some.inj hk16
 have h:=yL hK8
 refine Ja1<|Jq2<|Jw<|Ja2 (l:=[.tmp 4]) V239 (Jp2 R R) R ?_
 cases h
 exact⟨K34,R,(hE.stp (T4 S3 S15 S17 S35) R R)⟩
 rintro _ w10 ⟨K11,rfl,S12,rfl⟩
 have h:=yI hK8
 refine Jp<|Je3 R<|Ju<|Ja2 (l:=[.tmp 4]) V239 (Jp2 R R) R ?_
 cases h
 exact⟨K11,R,(hE.stp (S3.tr S12) R R)⟩
 refine JT λh=>Jx R<|Je3 R<|Ju<|Jw<|Ja2 (l:=[.tmp 4]) V239 (Jp2 R R) R ?_
 cases h
 exact⟨K2,R,(hE.stp S3 R R)⟩
theorem tI {aa ah ac ak ae ad aj ai ab af}{p0:l7Game}{a1 u1}{p1:(List Bool)}(g0_0:Rd (Rp.int .i64) κ w 0 aa ah p0.owner) (g0_1:Rd (Rp.int .i64) κ w 0 ac ak p0.prio) (g0_2:Rd (Rp.sl (Rp.int .i64)) κ w 0 ae ad p0.next) (g0_3:Rd (Rp.sl (Rp.int .i64)) κ w 0 aj ai p0.prev) (g0_4:Rd (Rp.int .i64) κ w 0 ab af p0.pick) (g1:Rd Rp.bool κ w 0 a1 u1 p1){r:Int}(h:nZ p0 p1=some r):Ret Tryz.prog 240 [.agg #[.slice aa p0.owner.length ah,.slice ac p0.prio.length ak,.slice ae p0.next.length ad,.slice aj p0.prev.length ai,.slice ab p0.pick.length af],.slice a1 p1.length u1] w (Pvi κ w r):=by
 unfold nZ at h
 refine Jk3 κ F240 R N240 R λhE=>Je [1,2] R<|Jf1 (κ:=κ) 2 R R R R R R R λb2 w1 K2 S3 f4=>Tv<|Jb 1 R<|Je3 R<|Jq<|Je3 R ?_
 have hN5:(p1.length:Int)<=9223372036854775807:=g1.len_le
 refine Ob h λq2 hq7 hK6=>?_
 clear h
 refine Jx1 (λL w'=>∃κ' s3,L=[(5,vi s3)]/\Stp [] K2 w1 κ' w'/\q2=yk s3) ?_ ?_
 refine Jv<|Jy1 (λk L w'=>∃κ' v6 s1,L=[(1,.slice a1 p1.length u1),(2,.pointer (some ⟨b2,0,none⟩)),(5,vi s1),(6,vi v6)]/\Stp [] K2 w1 κ' w'/\0<=v6/\yn ((p1.length:Int)-v6)=k/\cntM (jP p0 p1) k v6 s1=some q2) ⟨_,_,⟨K2,0,((-1):Int),R,Jj3,(by decide),(by simp),hq7⟩,(KM R)⟩ ?_
 rintro k _ w11 ⟨K12,v6,s1,rfl,S13,hj5,hJ5,h⟩
 rcases k with _ | k
 have hk14:=h;obtain⟨o5,h⟩:=ca (yk (yl s1):Int⊕((Int)⊕(Int)))
 have hc5:decide (v6<(p1.length:Int))=false:=Jo2 (by omega)
 refine Jq<|Jg3 [2,2,2,2] 2 R<|Jn3 R U193 R R<|Jb 1 R<|Jw2 R hc5<|Jc1<|Jt<|Jt ?_
 cases h
 have h:=hk14
 refine Jb1 ?_
 cases h
 exact Jw1 _ ⟨K12,s1,R,S13.wk R,R⟩<|KM R
 obtain⟨o5,h,hk14⟩:=BI h;unfold jP at h
 have hc5:decide (v6<(p1.length:Int))=true:=Jn2 (by omega)
 refine Jq<|Jg3 [2,2,2,2] 2 R<|Jn3 R U193 R R<|Jb 1 R<|Jv2 R hc5<|Js<|Jp<|Jq<|Jv<|Jg3 [2,2,2,1] 2 R<|Ob h λx15 hx15 h=>Jc3 R g1 hx15 U193 Z4<|Jb3 R I4 ((g1.stp (S3.tr S13) R R).gBool hx15)<|Jd<|Ob h λq4 h hK16=>Jx1 (λL w'=>∃κ',L=[(1,.slice a1 p1.length u1),(2,.pointer (some ⟨b2,0,none⟩)),(5,vi q4),(6,vi v6)]/\Stp [] K12 w11 κ' w') ?_ ?_
 revert h
 cases ht20:x15
 refine JF λh=>Jy R<|Js ?_
 cases h
 exact Jw1 _ ⟨K12,R,Jj3⟩<|KM R
 refine JT λh=>Jx R<|Jh3 [2,2,1,2,2,1,1,2] 1 R<|Jd3 R U191 R Z29<|Jb3 R I29 ((f4.stp S13 R R).ld 1 R R)<|Jn 1 R<|Ob h λx21 hx21 h=>Jc3 R g0_1 hx21 U29 Z2<|Jb3 R I2 ((g0_1.stp (S3.tr S13) R R).gInt hx21)<|Ob h λx23 hx23 h=>Jh R R R C159 (jU (κ:=Mk K12) hx23) ?_
 rintro _ w23 ⟨k24,rfl,e25⟩
 obtain⟨K26,S27,m28⟩:=Ji e25 3 R
 refine Tv<|Jc 1 R ?_
 cases h
 exact Jw1 _ ⟨K26,R,S27.wk R⟩<|KM R
 rintro _ w17 ⟨K18,rfl,S19⟩
 have h:=hK16
 refine Jz<|Jp<|Jf3 R ?_
 have hw5:sh .i64 (v6+1)=v6+1:=wr1 hj5 (Jm2 hc5) hN5
 rw[hw5]
 have hc5:=Jm2 hc5
 cases h
 exact Jz1 λa ha=>⟨k,_,Ja3 _,⟨K18,v6+1,q4,R,(S13.tr S19).wk R,by omega,by omega,hk14⟩,(ha.mm R)⟩
 rintro _ w8 ⟨K9,s3,rfl,S10,rfl⟩
 have h:=yI hK6
 refine Jp<|Je3 R<|Ju<|Ja2 (l:=[.tmp 4]) V240 (Jp2 R R) R ?_
 cases h
 exact⟨K9,R,(hE.stp (S3.tr S10) R R)⟩
theorem qv {aa ah ac ak ae ad aj ai ab af}{p0:l7Game}{a1 u1}{p1:(List Bool)}{p2:Int}(g0_0:Rd (Rp.int .i64) κ w 0 aa ah p0.owner) (g0_1:Rd (Rp.int .i64) κ w 0 ac ak p0.prio) (g0_2:Rd (Rp.sl (Rp.int .i64)) κ w 0 ae ad p0.next) (g0_3:Rd (Rp.sl (Rp.int .i64)) κ w 0 aj ai p0.prev) (g0_4:Rd (Rp.int .i64) κ w 0 ab af p0.pick) (g1:Rd Rp.bool κ w 0 a1 u1 p1){r:Int}(h:j8 p0 p1 p2=some r):Ret Tryz.prog 237 [.agg #[.slice aa p0.owner.length ah,.slice ac p0.prio.length ak,.slice ae p0.next.length ad,.slice aj p0.prev.length ai,.slice ab p0.pick.length af],.slice a1 p1.length u1,vi p2] w (Pvi κ w r):=by
 unfold j8 at h
 refine Jk3 κ F237 R N237 R λhE=>Je [1,2] R<|Jf1 (κ:=κ) 2 R R R R R R R λb3 w1 K2 S3 f4=>Tv<|Jb 1 R<|Je3 R<|Jq<|Je3 R<|Ob h λq2 hq7 hK6=>?_
 clear h
 refine Jx1 (λL w'=>∃κ',∃s3:Int×Int,L=[(7,vi s3.1)]/\Stp [] K2 w1 κ' w'/\q2=yk s3) ?_ ?_
 refine Jv<|Jy1 (λk L w'=>∃κ',∃s1:Int×Int,L=[(1,.slice a1 p1.length u1),(2,vi p2),(3,.pointer (some ⟨b3,0,none⟩)),(7,vi s1.1),(8,vi s1.2)]/\Stp [] K2 w1 κ' w'/\bI (fP p0 p1 p2) k s1=some q2) ⟨_,_,⟨K2,((0:Int),(0:Int)),R,Jj3,hq7⟩,(KM R)⟩ ?_
 rintro k _ w11 ⟨K12,s1,rfl,S13,h⟩
 rcases k with _ | k
 cases h
 obtain⟨o5,h,hk14⟩:=BI h;unfold fP at h
 refine Jq<|Jg3 [2,2,1,2,2,1,2,2] 1 R<|Jd3 R U191 R Z26 ?_
 have f15:=f4.stp S13 R R
 refine Jb3 R I26 (f15.ld 2 R R)<|Jn 1 R<|Ob h λx14 hx14 h=>Jc3 R g0_2 hx14 U26 Z29 ?_
 have f16:=g0_2.stp (S3.tr S13) R R
 obtain⟨ax14,ux14,f17,hl18⟩:=f16.gSl hx14
 refine Jb3 R I29 hl18<|Jn3 R U29 R R<|Jb 1 R ?_
 revert h
 cases ht19:decide (s1.2<(x14.length:Int))
 refine JF λh=>Jy R<|Jc1<|Jt<|Jt ?_
 cases h
 have h:=hk14
 refine Jb1 ?_
 cases h
 exact Jw1 _ ⟨K12,(s1.1,s1.2),R,S13.wk R,R⟩<|KM R
 refine JT λh=>Jx R<|Js<|Jp<|Jq<|Jv<|Je [2,1,2,2,1,2,2,1,2] R<|Jd3 R U191 R Z26<|Jb3 R I26 (f15.ld 2 R R)<|Jn 1 R<|Ob h λx23 hx23 h=>Jc3 R f16 hx23 U26 Z29 ?_
 obtain⟨ax23,ux23,f20,hl21⟩:=f16.gSl hx23
 refine Jb3 R I29 hl21<|Jn 1 R<|Ob h λx26 hx26 h=>Jc3 R f20 hx26 U29 Z2<|Jb3 R I2 (f20.gInt hx26)<|Jb 1 R<|Jg3 [2,2,2,1,2,1,2,2,1,2] 2 R<|Ob h λx30 hx30 h=>Jc3 R g1 hx30 U193 Z4<|Jb3 R I4 ((g1.stp (S3.tr S13) R R).gBool hx30)<|Jn 1 R<|Ob h λp37 h hK23=>Ju1 [(5,1),(6,2),(7,2),(8,1),(9,2)] [] (λL w'=>L=[(1,.slice a1 p1.length u1),(2,vi p2),(3,.pointer (some ⟨b3,0,none⟩)),(7,vi s1.1),(8,vi s1.2),(37,.bool p37)]/\∃κ',Stp [] K12 w11 κ' w') tv ?_ ?_
 revert h
 cases ht24:x30
 refine JF λh=>Jd1 R R R R<|Jn 2 R<|Jd1 R R R R<|Jn 1 R ?_
 cases h
 exact Jv1 _ tv ⟨R,_,Jj3⟩<|KM R
 have S001:=(S3.tr S13)
 refine JT λh=>Jl tv R R R R (Jd2 (cs:=[.slice aa p0.owner.length ah,.slice ac p0.prio.length ak,.slice ae p0.next.length ad,.slice aj p0.prev.length ai,.slice ab p0.pick.length af]) I191 Z191 R R R<|haE f15.cells)<|Jn 2 R<|Ob h λx36 hx36 h=>Jh R R R C251 (oY (κ:=Mk K12) (p0:=p0) (Ji3<|g0_0.stp S001 R R) (Ji3<|g0_1.stp S001 R R) (Ji3 f16) (Ji3<|g0_3.stp S001 R R) (Ji3<|g0_4.stp S001 R R) hx36) ?_
 rintro _ w29 ⟨k30,rfl,e31⟩
 obtain⟨K32,S33,m34⟩:=Ji e31 3 R
 refine Tv<|Jn 1 R ?_
 cases h
 exact Jv1 _ tv ⟨R,_,S33.wk R⟩<|KM R
 rintro _ w36 _ ⟨rfl,K37,S38⟩
 have h:=hK23
 refine Jd<|Ob h λq4 h hK39=>Jx1 (λL w'=>∃κ',L=[(1,.slice a1 p1.length u1),(2,vi p2),(3,.pointer (some ⟨b3,0,none⟩)),(7,vi q4),(8,vi s1.2)]/\Stp [] K37 w36 κ' w') ?_ ?_
 revert h
 cases ht43:p37
 refine JF λh=>Jy R<|Js ?_
 cases h
 exact Jw1 _ ⟨K37,R,Jj3⟩<|KM R
 refine JT λh=>Jx R<|Jf3 R ?_
 cases h
 exact Jw1 _ ⟨K37,R,Jj3⟩<|KM R
 rintro _ w40 ⟨K41,rfl,S42⟩
 have h:=hK39
 refine Jz<|Jp<|Jf3 R ?_
 cases h
 exact Jz1 λa ha=>⟨k,_,Ja3 _,⟨K41,(q4,((IntKind.i64.wrap<|s1.2+1):Int)),R,(T3 S13 S38 S42).wk R,hk14⟩,(ha.mm R)⟩
 rintro _ w8 ⟨K9,s3,rfl,S10,rfl⟩
 have h:=yI hK6
 refine Jp<|Je3 R<|Ju<|Ja2 (l:=[.tmp 6]) V237 (Jp2 R R) R ?_
 cases h
 exact⟨K9,R,(hE.stp (S3.tr S10) R R)⟩
theorem lQ {p0:Sig}  {r:Int}(h:fE p0=some r):Ret Tryz.prog 73 [.agg #[vi p0.In,vi p0.Out]] w (Pvi κ w r):=by
 unfold fE at h
 refine Jk3 κ F73 R N73 R λhE=>Je [1,2] R<|Jf1 (κ:=κ) 2 R R R R R R R λb1 w1 K2 S3 f4=>Tv<|Jb 1 R<|Je [2,1,1,2] R<|Jd3 R U25 R Z2<|Jb3 R I2 (f4.ld 1 R R)<|Ob h λx5 hx5 h=>Jh R R R C59 (cv (κ:=Mk K2) hx5) ?_
 rintro _ w5 ⟨k6,rfl,e7⟩
 obtain⟨K8,S9,m10⟩:=Ji e7 3 R
 refine Tv<|Jb 1 R<|Ju<|Ja2 (l:=[.tmp 2]) V73 (Jp2 R R) R ?_
 cases h
 exact⟨K8,R,(hE.stp (S3.tr S9) R R)⟩
theorem en {a0 u0}{p0:(List Int)}{c1_0:Int}{b1_0}(g0:Rd (Rp.int .i64) κ w 0 a0 u0 p0) (gb1_0:Bc κ w 0 b1_0 2 [vi c1_0]){r:Int}(h:bQ p0 c1_0=some r):Ret Tryz.prog 91 [.slice a0 p0.length u0,.func (.func 112) #[] #[.pointer (some ⟨b1_0,0,none⟩)]] w (Pvi κ w r):=by
 unfold bQ at h
 refine Jk3 κ F91 R N91 R λhE=>Je3 R<|Jq<|Jg3 [2,2,2] 1 R<|Jn3 R U29 R R<|Jb 1 R ?_
 have hN1:(p0.length:Int)<=9223372036854775807:=g0.len_le
 refine Ob h λq2 hq3 hK2=>?_
 clear h
 refine Jx1 (λL w'=>∃κ',L=[(1,.func (.func 112) #[] #[.pointer (some ⟨b1_0,0,none⟩)])]/\Stp [] κ w κ' w'/\q2=yk ()) ?_ ?_
 refine Jv<|Jy1 (λk L w'=>∃κ' v8,L=[(0,.slice a0 p0.length u0),(1,.func (.func 112) #[] #[.pointer (some ⟨b1_0,0,none⟩)]),(7,vi (p0.length:Int)),(8,vi v8)]/\Stp [] κ w κ' w'/\0<=v8/\yn ((p0.length:Int)-v8)=k/\cntM (bN p0 c1_0) k v8 ()=some q2) ⟨_,_,⟨κ,0,R,Jj3,(by decide),(by simp),hq3⟩,(KM R)⟩ ?_
 rintro k _ w7 ⟨K8,v8,rfl,S9,hj1,hJ1,h⟩
 rcases k with _ | k
 have hk10:=h;obtain⟨o1,h⟩:=ca (yk (yl ()):Int⊕((Unit)⊕(Unit)))
 have hc1:decide (v8<(p0.length:Int))=false:=Jo2 (by omega)
 refine Je3 R<|Jq<|Jw2 R hc1<|Jc1<|Jt<|Jt ?_
 cases h
 have h:=hk10
 refine Jb1 ?_
 cases h
 exact Jw1 _ ⟨K8,R,S9.wk R,R⟩<|KM R
 obtain⟨o1,h,hk10⟩:=BI h;unfold bN at h
 have hc1:decide (v8<(p0.length:Int))=true:=Jn2 (by omega)
 refine Je3 R<|Jq<|Jv2 R hc1<|Js<|Jp<|Jq<|Jv<|Je3 R<|Jg3 [2,2,2,2,1,1] 3 R<|Ob h λx14 hx14 h=>Jc3 R g0 hx14 U29 Z2<|Jb3 R I2 ((g0.stp S9 R R).gInt hx14)<|Ob h λx16 hx16 h=>WO.callV R R R R R R R R C112 (oc (κ:=Mk K8) ((gb1_0.stp S9 R R).map (mp [] 0) R R) hx16) ?_
 rintro _ w13 ⟨k14,rfl,e15⟩
 obtain⟨K16,S17,m18⟩:=Ji e15 2 R
 refine Tv<|Jd ?_
 revert h
 cases ht20:x16
 refine JF λh=>Jy R<|Js<|Jz<|Jp<|Jf3 R ?_
 have hw1:sh .i64 (v8+1)=v8+1:=wr1 hj1 (Jm2 hc1) hN1
 rw[hw1]
 have hc1:=Jm2 hc1
 cases h
 exact Jz1 λa ha=>⟨k,_,Ja3 _,⟨K16,v8+1,R,(S9.tr S17).wk R,by omega,by omega,hk10⟩,(ha.mm R)⟩
 refine JT λh=>Jx R<|Je3 R<|Ju<|Ja1<|Jw<|Jw ?_
 cases h
 obtain rfl:=Option.some.inj hk10
 have h:=yL hK2
 refine Ja1<|Jq2<|Jw<|Ja2 (l:=[.tmp 4]) V91 (Jp2 R R) R ?_
 cases h
 exact⟨K16,R,(hE.stp (S9.tr S17) R R)⟩
 rintro _ w4 ⟨K5,rfl,S6,rfl⟩
 have h:=yI hK2
 refine Jp<|Je3 R<|Ju<|Ja2 (l:=[.tmp 4]) V91 (Jp2 R R) R ?_
 cases h
 exact⟨K5,R,(hE.stp S6 R R)⟩
theorem kL {a0 u0}{p0:(List Int)}{a1 u1}{c0:(List Int)}{c1:Sig}{ak ai ah aj}{c2:Rival}{c3:Int}{b1 b2 b3 b4}(g0:Rd (Rp.int .i64) κ w 0 a0 u0 p0) (g1:Oc E6 2 κ w 2 a1 u1 c0) (g3_0:Rd (Rp.int .i64) κ w 0 ak ai c2.In) (g3_1:Rd (Rp.sl (Rp.int .i64)) κ w 0 ah aj c2.Next) (gb1:Bc κ w 3 b1 29 [.slice a1 c0.length u1]) (gb2:Bc κ w 0 b2 25 [vi c1.In,vi c1.Out]) (gb3:Bc κ w 0 b3 31 [.slice ak c2.In.length ai,.slice ah c2.Next.length aj]) (gb4:Bc κ w 4 b4 2 [vi c3]){r:(List Int)×Int}(h:eQ p0 c0 c1 c2 c3=some r):Ret Tryz.prog 61 [.slice a0 p0.length u0,.pointer (some ⟨b1,0,none⟩),.pointer (some ⟨b2,0,none⟩),.pointer (some ⟨b3,0,none⟩),.pointer (some ⟨b4,0,none⟩)] w (λv w'=>∃(κ':Col) (ma0:Option Addr) (mu0:Nat),v= .tuple #[]/\Ent κ w κ' w'/\Oc E6 2 κ' w' 2 ma0 mu0 r.1/\Bc κ' w' 3 b1 29 [.slice ma0 r.1.length mu0]/\Bc κ' w' 4 b4 2 [vi r.2]):=by
 unfold eQ at h
 refine Jk3 κ F61 R N61 R λhE=>Jg3 [2,2,2] 1 R<|Jn3 R U29 R R<|Jb 1 R ?_
 have hN1:(p0.length:Int)<=9223372036854775807:=g0.len_le
 refine Ob h λq2 hq3 hK2=>?_
 clear h
 refine Jx1 (λL w'=>∃κ',∃s3:(List Int)×Int,∃ad ac,L=[(1,.pointer (some ⟨b1,0,none⟩)),(2,.pointer (some ⟨b2,0,none⟩)),(3,.pointer (some ⟨b3,0,none⟩)),(4,.pointer (some ⟨b4,0,none⟩))]/\Stp [2,3,4] κ w κ' w'/\Oc E6 2 κ' w' 2 ad ac s3.1/\Bc κ' w' 3 b1 29 [.slice ad s3.1.length ac]/\Bc κ' w' 4 b4 2 [vi s3.2]/\q2=yk s3) ?_ ?_
 refine Jv<|Jy1 (λk L w'=>∃κ' v10,∃s1:(List Int)×Int,∃aa ab,L=[(1,.pointer (some ⟨b1,0,none⟩)),(2,.pointer (some ⟨b2,0,none⟩)),(3,.pointer (some ⟨b3,0,none⟩)),(4,.pointer (some ⟨b4,0,none⟩)),(8,.slice a0 p0.length u0),(9,vi (p0.length:Int)),(10,vi v10)]/\Stp [2,3,4] κ w κ' w'/\Oc E6 2 κ' w' 2 aa ab s1.1/\Bc κ' w' 3 b1 29 [.slice aa s1.1.length ab]/\Bc κ' w' 4 b4 2 [vi s1.2]/\0<=v10/\yn ((p0.length:Int)-v10)=k/\cntM (dW p0 c1 c2) k v10 s1=some q2) ⟨_,_,⟨κ,0,(c0,c3),a1,u1,R,Jj3,g1,gb1,gb4,(by decide),(by simp),hq3⟩,(KM R)⟩ ?_
 rintro k _ w10 ⟨K11,v10,s1,aa,ab,rfl,S12,f13,f14,f15,hj1,hJ1,h⟩
 rcases k with _ | k
 have hk16:=h;obtain⟨o1,h⟩:=ca (yk (yl s1):((List Int)×Int)⊕(((List Int)×Int)⊕((List Int)×Int)))
 have hc1:decide (v10<(p0.length:Int))=false:=Jo2 (by omega)
 refine Je3 R<|Jq<|Jw2 R hc1<|Jc1<|Jt<|Jt ?_
 cases h
 have h:=hk16
 refine Jb1 ?_
 cases h
 exact Jw1 _ ⟨K11,(s1.1,s1.2),aa,ab,R,S12.wk R,f13,f14,f15,R⟩<|KM R
 obtain⟨o1,h,hk16⟩:=BI h;unfold dW at h
 have hc1:decide (v10<(p0.length:Int))=true:=Jn2 (by omega)
 refine Je3 R<|Jq<|Jv2 R hc1<|Js<|Jp<|Jq<|Jv<|Je [2,1,2] R<|Ob h λx12 hx12 h=>Jc3 R g0 hx12 U29 Z2<|Jb3 R I2 ((g0.stp S12 R R).gInt hx12)<|Jb 1 R<|Jq<|Js1 (κ:=K11) [0,3,4] (some 13) [(1,2),(5,2),(0,0),(2,0),(6,0),(7,0),(8,2),(9,0),(3,1),(4,2),(10,2),(11,1),(12,1)] [(13,1)] (by kernel_rfl) (by kernel_rfl) λw19 S18=>Jn 1 R<|Jd3 R U31 R Z29 ?_
 have f20:=f14.stp S18 R R
 refine Jg R (Jc2 I29 R R<|hvC (f20.ld 0 R R) R)<|Jg R (Jd2 (cs:=[vi c1.In,vi c1.Out]) I25 Z25 R R R<|haC (gb2.stp (S12.tr S18) R R).cells R) ?_
 have f22:=gb3.stp (S12.tr S18) R R
 refine Jg R (Jc2 I29 R R<|hvC (f22.ld 0 R R) R) ?_
 have f23:=f15.stp S18 R R
 refine Jg R (Jc2 I2 R R<|hvC (f23.ld 0 R R) R)<|Ob h λx22 hx22 h=>Jc3 R g3_0 hx22 U29 Z2<|Jg R (Jc2 I2 R R<|hvC ((g3_0.stp (S12.tr S18) R R).gInt hx22) R)<|Ob h λx17 hx17 h=>Jh R R R C52 (iM (κ:=Mk K11) (p0:=c1) hx17) ?_
 rintro _ w25 ⟨k26,rfl,e27⟩
 obtain⟨K28,S29,m30⟩:=Ji e27 5 R
 refine⟨(S29.cl R),Jn 2 R<|Jn1 (κ:=K28) (E:=E6) 7 [] (parts:=[(0,.tmp 24)]) (cells:=[vi<|IntKind.i64.wrap ((IntKind.i64.wrap<|x12 * x17)+x22)]) (xs:=([(IntKind.i64.wrap ((IntKind.i64.wrap<|x12 * x17)+x22))]:List Int)) R R R R R R Y29 a8 R R R R R R R R R R ⟨[vi<|IntKind.i64.wrap ((IntKind.i64.wrap<|x12 * x17)+x22)],[],Zl K28 w25 [],Zl K28 w25 [],R,Zl.sp (l1:=[]) (l2:=[]) R,Zl.sr (l1:=[]) (l2:=[]),R,R⟩ λam al w32 K33 S34 f35=>⟨((S29.tr S34).cl R),Ob h λx26 hx26 h=>Jm1 (κ:=K33) (E:=E6) 2 [] R R R R R R R R R Y29 a8 R R R R (f13.stp (T3 S18 S29 S34) R R) (Sl.srcP (bM _) f35.rdc) bH hx26 R λae af w37 K38 S39 f40=>⟨((T3 S29 S34 S39).cl R),Jt1<|Jj1 (κ:=K38) 3 (vc:=[.slice ae x26.length af]) R R R R R R R Z29 R R (f20.stp (T3 S29 S34 S39) R R) R λw42 S43 f44=>Tv<|Jd<|Ja [2,1,1,2,1,2,2,1,1] R<|Jd3 R U31 R Z26<|Jb3 R I26 ((f22.stp (T4 S29 S34 S39 S43) R R).ld 1 R R) ?_⟩⟩⟩
 have f46:=f23.stp (T4 S29 S34 S39 S43) R R
 refine Jb3 R I2 (f46.ld 0 R R)<|Ob h λx30 hx30 h=>Jc3 R g3_1 hx30 U26 Z29 ?_
 obtain⟨ax30,ux30,f48,hl49⟩:=(g3_1.stp (T6 S12 S18 S29 S34 S39 S43) R R).gSl hx30
 refine Jb3 R I29 hl49<|Jn 1 R<|Ob h λx33 hx33 h=>Jc3 R f48 hx33 U29 Z2<|Jb3 R I2 (f48.gInt hx33)<|Jj1 (κ:=K38) 4 (vc:=[vi x33]) R R R R R R R Z2 R R f46 R λw50 S51 f52=>Tv<|Jo<|Jz<|Jp<|Jf3 R ?_
 have hw1:sh .i64 (v10+1)=v10+1:=wr1 hj1 (Jm2 hc1) hN1
 rw[hw1]
 have hc1:=Jm2 hc1
 cases h
 exact Jz1 λa ha=>⟨k,_,Ja3 _,⟨K38,v10+1,(x26,x33),ae,af,R,(T7 S12 S18 S29 S34 S39 S43 S51).wk R,(f40.stp (S43.tr S51) R R),(f44.stp S51 R R),f52,by omega,by omega,hk16⟩,(ha.mm R)⟩
 rintro _ w4 ⟨K5,s3,ad,ac,rfl,S6,f7,f8,f9,rfl⟩
 have h:=yI hK2
 refine DN.end0 V61 ?_
 cases h
 exact⟨K5,ad,ac,R,(hE.stp S6 R R),f7,f8,f9⟩
theorem jV {a0 u0}{p0:(List Int)}{p1:Int}(g0:Rd (Rp.int .i64) κ w 0 a0 u0 p0){r:Bool}(h:bJ p0 p1=some r):Ret Tryz.prog 62 [.slice a0 p0.length u0,vi p1] w (Pvb κ w r):=by
 unfold bJ at h
 refine Jk3 κ F62 R N62 R λhE=>Je3 R<|Jg3 [2,2,1,2,2] 2 R<|Ob h λx7 hx7 h=>Jh R R R C63 (gv (κ:=Mk κ) (Ji3 g0) hx7) ?_
 rintro _ w1 ⟨k2,rfl,e3⟩
 obtain⟨K4,S5,m6⟩:=Ji e3 2 R
 refine Tv<|Jb 2 R<|Ju<|Ja2 (l:=[.tmp 4]) V62 (Jp2 R R) R ?_
 cases h
 exact⟨K4,R,(hE.stp S5 R R)⟩
theorem bU {ao an ap aq}{p0:Word}(g0_0:Rd (Rp.int .i64) κ w 0 ao an p0.Stem) (g0_1:Rd (Rp.int .i64) κ w 0 ap aq p0.Loop){r:Word}(h:gn p0=some r):Ret Tryz.prog 64 [.agg #[.slice ao p0.Stem.length an,.slice ap p0.Loop.length aq]] w (λv w'=>∃(κ':Col) (ra0:Option Addr) (ru0:Nat) (ra1:Option Addr) (ru1:Nat),v= .agg #[.slice ra0 r.Stem.length ru0,.slice ra1 r.Loop.length ru1]/\Ent κ w κ' w'/\Oc E6 2 κ' w' 2 ra0 ru0 r.Stem/\Oc E6 2 κ' w' 3 ra1 ru1 r.Loop):=by
 unfold gn at h
 refine Jk3 κ F64 R N64 R λhE=>Je [1,1] R<|Jf1 (κ:=κ) 2 R R R R R R R λb1 w1 K2 S3 f4=>Tv<|Jg1 (κ:=K2) 3 R R R R R X35 R λb2 w5 K6 S7 f8=>Tv<|Jd<|Je [1,2,1,1,2] R<|Jo1 (κ:=K6) (E:=E6) 4 R R R R R Y29 a8 R λa6 u6 w9 K10 S11 f12=>Tv<|Jd3 R U35 R Z29 ?_
 have f13:=f4.stp (S7.tr S11) R R
 refine Jb3 R I29 (f13.ld 1 R R)<|Ob h λx9 hx9 h=>Jm1 (κ:=K10) (E:=E6) 4 [] R R R R R R R R R Y29 a8 R R R R f12 (Sl.srcP (bM _)<|g0_1.stp (T3 S3 S7 S11) R R) bH hx9 R λa9 u9 w15 K16 S17 f18=>Tv<|Jb 1 R<|Jq<|Je3 R<|Ob h λq2 hq21 hK20=>?_
 clear h
 refine Jx1 (λL w'=>∃κ',∃s3:(List Int)×Int,∃am al,L=[(1,.pointer (some ⟨b1,0,none⟩)),(2,.pointer (some ⟨b2,0,none⟩)),(3,.slice am s3.1.length al)]/\Stp [] K16 w15 κ' w'/\Oc E6 2 κ' w' 4 am al s3.1/\q2=yk s3) ?_ ?_
 refine Jv<|Jy1 (λk L w'=>∃κ',∃s1:(List Int)×Int,∃ab aa,L=[(1,.pointer (some ⟨b1,0,none⟩)),(2,.pointer (some ⟨b2,0,none⟩)),(3,.slice ab s1.1.length aa),(4,vi s1.2)]/\Stp [] K16 w15 κ' w'/\Oc E6 2 κ' w' 4 ab aa s1.1/\bI fg k s1=some q2) ⟨_,_,⟨K16,(x9,(1:Int)),a9,u9,R,Jj3,f18,hq21⟩,(KM R)⟩ ?_
 rintro k _ w26 ⟨K27,s1,ab,aa,rfl,S28,f29,h⟩
 rcases k with _ | k
 cases h
 obtain⟨o19,h,hk30⟩:=BI h;unfold fg at h
 refine Jq<|Jg3 [2,2,2,2] 2 R<|Jn3 R U29 R R<|Jb 1 R ?_
 revert h
 cases ht31:decide (s1.2<=(s1.1.length:Int))
 refine JF λh=>Jy R<|Jc1<|Jt<|Jt ?_
 cases h
 have h:=hk30
 refine Jb1 ?_
 cases h
 exact Jw1 _ ⟨K27,(s1.1,s1.2),ab,aa,R,S28.wk R,f29,R⟩<|KM R
 refine JT λh=>Jx R<|Js<|Jp<|Jq<|Jv<|Jq<|Js1 (κ:=K27) [] none [(0,2),(1,2),(2,2),(3,2),(4,2),(5,2),(6,2),(7,2),(8,2),(9,2),(10,2),(11,2),(12,2),(13,2),(14,2),(15,1),(16,2)] [] (by kernel_rfl) (by kernel_rfl) λw33 S32=>Jn 1 R<|Jn3 R U29 R R<|Jn 1 R<|Ob h λ_z19 hz19 h=>Jf R (pU R R R<|sk hz19)<|Jn 2 R<|Ob h λp32 h hK34=>Ju1 [(6,2),(7,2),(8,2),(9,2),(10,2),(11,2),(12,2),(13,2),(14,2),(15,1),(16,2)] [] (λL w'=>L=[(1,.pointer (some ⟨b1,0,none⟩)),(2,.pointer (some ⟨b2,0,none⟩)),(3,.slice ab s1.1.length aa),(4,vi s1.2),(32,.bool p32)]/\∃κ',Stp [] K27 w33 κ' w') (Cl.refl _ _ _) ?_ ?_
 revert h
 cases ht35:((Int.tmod (s1.1.length:Int) s1.2)==0)
 refine JF λh=>Jn 9 R<|Jd1 R R R R<|Jn 1 R ?_
 cases h
 exact Jv1 _ (Cl.refl _ _ _) ⟨R,_,Jj3⟩<|KM R
 refine JT λh=>Jn 2 R<|Ob h λx24 hx24 h=>Jf R (dE (k1:= .i64) (k2:= .i64) U29 Z2 (.inr ⟨_,R,R⟩) (.inl ⟨R,R⟩) hx24 f29.rdc.1 R R R) ?_
 have f37:=f29.stp S32 R R
 refine Jn 2 R<|Jn3 R U29 R R<|Jn 2 R<|Ob h λx30 hx30 h=>Jf R (dE (k1:= .i64) (k2:= .i64) U29 Z2 (.inl ⟨R,R⟩) (.inr ⟨_,R,R⟩) hx30 f37.rdc.1 R R R)<|Ob h λx31 hx31 h=>Jh R R R C65 (ec (κ:=Mk K27) (Ji3<|f37.rdc.sub hx24) (Ji3<|f37.rdc.sub hx30) hx31) ?_
 rintro _ w39 ⟨k40,rfl,e41⟩
 obtain⟨K42,S43,m44⟩:=Ji e41 5 R
 refine⟨(S43.cl R),Jn 1 R ?_⟩
 cases h
 exact Jv1 _ (S43.cl R) ⟨R,_,S43.wk R⟩<|KM R
 rintro _ w46 _ ⟨rfl,K47,S48⟩
 have h:=hK34
 refine Jt1<|Jd ?_
 revert h
 cases ht49:p32
 refine JF λh=>Jy R<|Js<|Jz<|Jp<|Jf3 R ?_
 cases h
 exact Jz1 λa ha=>⟨k,_,Ja3 _,⟨K47,(s1.1,((IntKind.i64.wrap<|s1.2+1):Int)),ab,aa,R,(T3 S28 S32 S48).wk R,(f29.stp (S32.tr S48) R R),hk30⟩,(ha.mm R)⟩
 refine JT λh=>Jx R<|Jg3 [2,2,2,2] 2 R<|Ob h λx35 hx35 h=>Jf R (dE (k1:= .i64) (k2:= .i64) U29 Z2 (.inl ⟨R,R⟩) (.inr ⟨_,R,R⟩) hx35 f29.rdc.1 R R R)<|Jb 1 R<|Jc1<|Jz2 R<|Jt<|Jt ?_
 cases h
 have h:=hk30
 refine Jb1 ?_
 cases h
 exact Jw1 _ ⟨K47,(x35,s1.2),(subA ab aa (0:Int).toNat 1),(aa-(0:Int).toNat),R,(T3 S28 S32 S48).wk R,((f29.stp (S32.tr S48) R R).sub hx35),R⟩<|KM R
 rintro _ w22 ⟨K23,s3,am,al,rfl,S24,f25,rfl⟩
 have h:=yI hK20
 refine Jp<|Je [1,2,1,1,2] R<|Jo1 (κ:=K23) (E:=E6) 5 R R R R R Y29 a8 R λaz ax w53 K54 S55 f56=>Tv<|Jd3 R U35 R Z29<|Jb3 R I29 ((f13.stp (T3 S17 S24 S55) R R).ld 0 R R)<|Ob h λx39 hx39 h=>Jm1 (κ:=K54) (E:=E6) 5 [] R R R R R R R R R Y29 a8 R R R R f56 (Sl.srcP (bM _)<|g0_0.stp (T6 S3 S7 S11 S17 S24 S55) R R) bH hx39 R λaw au w59 K60 S61 f62=>Tv<|Jb 1 R<|Jq<|Ob h λq5 hq65 hK64=>?_
 clear h
 refine Jx1 (λL w'=>∃κ',∃s6:(List Int)×(List Int),∃af ai ae ad,L=[(2,.pointer (some ⟨b2,0,none⟩)),(3,.slice af s6.1.length ai),(5,.slice ae s6.2.length ad)]/\Stp [6] K60 w59 κ' w'/\Oc E6 2 κ' w' 4 af ai s6.1/\Oc E6 2 κ' w' 5 ae ad s6.2/\q5=yk s6) ?_ ?_
 refine Jv<|Jy1 (λk L w'=>∃κ',∃s4:(List Int)×(List Int),∃ak aj ah ac,L=[(2,.pointer (some ⟨b2,0,none⟩)),(3,.slice ak s4.1.length aj),(5,.slice ah s4.2.length ac)]/\Stp [6] K60 w59 κ' w'/\Oc E6 2 κ' w' 4 ak aj s4.1/\Oc E6 2 κ' w' 5 ah ac s4.2/\bI fq k s4=some q5) ⟨_,_,⟨K60,(s3.1,x39),am,al,aw,au,R,Jj3,(f25.stp (S55.tr S61) R R),f62,hq65⟩,(KM R)⟩ ?_
 rintro k _ w71 ⟨K72,s4,ak,aj,ah,ac,rfl,S73,f74,f75,h⟩
 rcases k with _ | k
 cases h
 obtain⟨o63,h,hk77⟩:=BI h;unfold fq at h
 refine Jq<|Jq<|Js1 (κ:=K72) [0,4,5] none [(0,2),(1,2),(2,2),(3,2),(4,2),(5,2),(6,2),(7,2),(8,2),(10,2),(11,2),(12,2),(13,2),(14,2),(9,0),(15,0),(16,2),(17,2)] [] (by kernel_rfl) (by kernel_rfl) λw79 S78=>Jn 1 R<|Jn3 R U29 R R<|Jn 2 R<|Ob h λp57 h hK80=>Ju1 [(4,2),(5,2),(6,2),(7,2),(8,2),(10,2),(11,2),(12,2),(13,2),(14,2),(9,0),(15,0),(16,2),(17,2)] [] (λL w'=>L=[(2,.pointer (some ⟨b2,0,none⟩)),(3,.slice ak s4.1.length aj),(5,.slice ah s4.2.length ac),(57,.bool p57)]/\∃κ',Stp [] K72 w79 κ' w') (Cl.refl _ _ _) ?_ ?_
 revert h
 cases ht81:decide (0<(s4.2.length:Int))
 refine JF λh=>Jn 10 R<|Je1 R R R R<|Je1 R R R R<|Jn 2 R ?_
 cases h
 exact Jv1 _ (Cl.refl _ _ _) ⟨R,_,Jj3⟩<|KM R
 refine JT λh=>Jn 2 R<|Jn3 R U29 R R<|Jn 1 R<|Ob h λx48 hx48 h=>Jc3 R f75.rdc hx48 U29 Z2<|Jn 2 R<|Jn3 R U29 R R<|Jn 1 R<|Ob h λx54 hx54 h=>Jc3 R f74.rdc hx54 U29 Z2<|Jg R (Jc2 I2 R R<|hvC ((f75.stp S78 R R).rdc.gInt hx48) R)<|Jg R (Jc2 I2 R R<|hvC ((f74.stp S78 R R).rdc.gInt hx54) R)<|Jn 2 R ?_
 cases h
 exact Jv1 _ (Cl.refl _ _ _) ⟨R,_,Jj3⟩<|KM R
 rintro _ w84 _ ⟨rfl,K85,S86⟩
 have h:=hK80
 refine Jt1<|Jd ?_
 revert h
 cases ht87:p57
 refine JF λh=>Jy R<|Jc1<|Jt<|Jt ?_
 cases h
 have h:=hk77
 refine Jb1 ?_
 cases h
 exact Jw1 _ ⟨K85,(s4.1,s4.2),ak,aj,ah,ac,R,(T3 S73 S78 S86).wk R,(f74.stp (S78.tr S86) R R),(f75.stp (S78.tr S86) R R),R⟩<|KM R
 refine JT λh=>Jx R<|Js<|Jp<|Jv<|Jg3 [2,2,2,2,2,2] 2 R<|Jn3 R U29 R R<|Jn 1 R<|Ob h λx62 hx62 h=>Jf R (dE (k1:= .i64) (k2:= .i64) U29 Z2 (.inl ⟨R,R⟩) (.inr ⟨_,R,R⟩) hx62 f75.rdc.1 R R R)<|Jb 1 R<|Js1 (κ:=K85) [0,4] none [(0,2),(1,2),(2,2),(3,2),(4,2),(7,2),(8,2),(9,2),(10,2),(11,2),(5,0),(6,1),(12,1),(13,2)] [] (by kernel_rfl) (by kernel_rfl) λw91 S90=>Jn 2 R<|Jn3 R U29 R R<|Jn 1 R<|Ob h λx67 hx67 h=>Jc3 R f74.rdc hx67 U29 Z2<|Jn 2 R<|Jn3 R U29 R R<|Jn 1 R<|Ob h λx74 hx74 h=>Jf R (dE (k1:= .i64) (k2:= .i64) U29 Z2 (.inl ⟨R,R⟩) (.inr ⟨_,R,R⟩) hx74 f74.rdc.1 R R R) ?_
 have f93:=f74.stp (T3 S78 S86 S90) R R
 refine Jg R (Jc2 I2 R R<|hvC (f93.rdc.gInt hx67) R)<|Jn1 (κ:=K85) (E:=E6) 6 [] (parts:=[(0,.tmp 68)]) (cells:=[vi x67]) (xs:=([x67]:List Int)) R R R R R R Y29 a8 R R R R R R R R R R ⟨[vi x67],[],Zl K85 w91 [],Zl K85 w91 [],R,Zl.sp (l1:=[]) (l2:=[]) R,Zl.sr (l1:=[]) (l2:=[]),R,R⟩ λaA ay w94 K95 S96 f97=>⟨(S96.cl R),Ob h λx75 hx75 h=>Jm1 (κ:=K95) (E:=E6) 6 [] R R R R R R R R R Y29 a8 R R R R f97 (Sl.srcP (bM _) ((f93.rdc.sub hx74).stp S96 R R)) bH hx75 R λav ar w99 K100 S101 f102=>⟨((S96.tr S101).cl R),Jn 1 R<|Jt1<|Jo<|Jz ?_⟩⟩
 cases h
 exact Jz1 λa ha=>⟨k,_,Ja3 _,⟨(λb=>ren [(6,4)]<|K100 b),(x75,x62),av,ar,(subA ah ac (0:Int).toNat 1),(ac-(0:Int).toNat),R,(Jy2 ((T6 S73 S78 S86 S90 S96 S101).wk R) [(6,4)] R),(f102.map (ren [(6,4)]) R R),((((f75.stp (S78.tr S86) R R).sub hx62).stp (T3 S90 S96 S101) R R).map (ren [(6,4)]) R R),hk77⟩,(ha.mm R)⟩
 rintro _ w66 ⟨K67,s6,af,ai,ae,ad,rfl,S68,f69,f70,rfl⟩
 have h:=yI hK64
 refine Jp<|Jg3 [2,2,2,1] 2 R<|Jf R (bG (parts:=[(0,.tmp 76),(1,.tmp 77)]) (cells:=[.slice ae s6.2.length ad,.slice af s6.1.length ai]) R R (by kernel_rfl))<|Jj1 (κ:=K67) 3 (vc:=[.slice ae s6.2.length ad,.slice af s6.1.length ai]) R R R R R R R Z35 R R (f8.stp (T6 S11 S17 S24 S55 S61 S68) R R) R λw107 S108 f109=>Tv<|Jd<|Ju<|Ja2 (l:=[.cell 2 35]) V64 (bF R f109 I35 Z35 R R) R ?_
 cases h
 exact⟨(λb=>ren [(5,2),(4,3)]<|K67 b),ae,ad,af,ai,R,((hE.stp (T9 S3 S7 S11 S17 S24 S55 S61 S68 S108) R R).map (ren [(5,2),(4,3)]) R R),((f70.stp S108 R R).map (ren [(5,2),(4,3)]) R R),((f69.stp S108 R R).map (ren [(5,2),(4,3)]) R R)⟩
end Go.Proofs.YtpcjbkgbnoocaaaGreat
