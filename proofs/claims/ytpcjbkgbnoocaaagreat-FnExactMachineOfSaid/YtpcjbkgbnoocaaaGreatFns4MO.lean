/- The walks, part 4. By program. -/
import Derived.Test.YtpcjbkgbnoocaaaGreatFns0MO
import Derived.Test.YtpcjbkgbnoocaaaGreatFns1MO
import Derived.Test.YtpcjbkgbnoocaaaGreatFns2MO
set_option linter.unusedVariables false
set_option linter.unusedSimpArgs false
open Go.IntKind renaming wrap → t0
open Sum renaming inr → xe, inl → xf
open Int renaming toNat → xh
namespace Go.Proofs.YtpcjbkgbnoocaaaGreat
open Go Go.Wk Go.Proofs
set_option maxRecDepth 100000
set_option maxHeartbeats 1000000
variable {w:World}{κ:Col}
theorem qm {ai ah ae af}{p0:Clause}(g0_1:Rd (Rp.int .i64) κ w 0 ai ah p0.A) (g0_2:Rd (Rp.int .i64) κ w 0 ae af p0.B){r:Clause}(h:jx p0=some r):Ret Tryz.prog 76 [.agg #[vi p0.Kind,.slice ai p0.A.length ah,.slice ae p0.B.length af]] w (λv w'=>∃(κ':Col) (ra0:Option Addr) (ru0:Nat) (ra1:Option Addr) (ru1:Nat),v= .agg #[vi r.Kind,.slice ra0 r.A.length ru0,.slice ra1 r.B.length ru1]/\Ent κ w κ' w'/\Oc E6 2 κ' w' 2 ra0 ru0 r.A/\Oc E6 2 κ' w' 3 ra1 ru1 r.B):=by
 unfold jx at h
 refine Jk3 κ F76 R N76 R λhE=>Je [1,1] R<|Jf1 (κ:=κ) 2 R R R R R R R λb1 w1 K2 S3 f4=>Tv<|Jg1 (κ:=K2) 3 R R R R R X119 R λb2 w5 K6 S7 f8=>Tv<|Jd<|Je [1] R<|Jg1 (κ:=K6) 4 R R R R R X119 R λb3 w9 K10 S11 f12=>Tv<|Jd<|Je [2,1,2,1] R<|Jd3 R U97 R Z2 ?_
 have f13:=f4.stp (S7.tr S11) R R
 refine Jb3 R I2 (f13.ld 0 R R)<|Jd3 R U119 R Z2<|Ji1 (κ:=K10) 4 (off:=0) (vc:=[vi p0.Kind]) (cs':=[vi p0.Kind,.slice none 0 0,.slice none 0 0]) R R R R R R R Z2 R R f12 R R λw14 S15 f16=>Tv<|Jd<|Je [2,1,1,2,1] R<|Jd3 R U97 R Z29 ?_
 have f17:=f13.stp S15 R R
 refine Jb3 R I29 (f17.ld 1 R R)<|Ob h λx9 hx9 h=>Jh R R R C128 (mG (κ:=Mk K10) (Ji3<|g0_1.stp (T4 S3 S7 S11 S15) R R) hx9) ?_
 rintro _ w19 ⟨k20,aa,ab,rfl,e21,f22⟩
 obtain⟨K23,S24,m25⟩:=Ji e21 5 R
 refine Tv<|Jd3 R U119 R Z29<|Ji1 (κ:=K23) 4 (off:=1) (vc:=[.slice aa x9.length ab]) (cs':=[vi p0.Kind,.slice aa x9.length ab,.slice none 0 0]) R R R R R R R Z29 R R (f16.stp S24 R R) R R λw29 S30 f31=>Tv<|Jd<|Je [2,1,1,2,1] R<|Jd3 R U97 R Z29<|Jb3 R I29 ((f17.stp (S24.tr S30) R R).ld 2 R R)<|Ob h λx13 hx13 h=>Jh R R R C128 (mG (κ:=Mk K23) (Ji3<|g0_2.stp (T6 S3 S7 S11 S15 S24 S30) R R) hx13) ?_
 rintro _ w34 ⟨k35,ad,ac,rfl,e36,f37⟩
 obtain⟨K38,S39,m40⟩:=Ji e36 8 R
 refine Tv<|Jd3 R U119 R Z29<|Ji1 (κ:=K38) 4 (off:=2) (vc:=[.slice ad x13.length ac]) (cs':=[vi p0.Kind,.slice aa x9.length ab,.slice ad x13.length ac]) R R R R R R R Z29 R R (f31.stp S39 R R) R R λw44 S45 f46=>Tv<|Jd<|Je [1,1] R<|Jl tv R R R R (Jd2 (cs:=[vi p0.Kind,.slice aa x9.length ab,.slice ad x13.length ac]) I119 Z119 R R R<|haE f46.cells)<|Jj1 (κ:=K38) 3 (vc:=[vi p0.Kind,.slice aa x9.length ab,.slice ad x13.length ac]) R R R R R R R Z119 R R (f8.stp (T6 S11 S15 S24 S30 S39 S45) R R) R λw48 S49 f50=>Tv<|Jd<|Ju<|Ja2 (l:=[.cell 2 119]) V76 (bL R f50 I119 Z119 R R) R ?_
 cases h
 exact⟨(λb=>ren [(7,2),(10,3)]<|K38 b),aa,ab,ad,ac,R,((hE.stp (T9 S3 S7 S11 S15 S24 S30 S39 S45 S49) R R).map (ren [(7,2),(10,3)]) R R),(((f22.mx (bI _) m25 R (R:5+2=7)).stp (T4 S30 S39 S45 S49) R R).map (ren [(7,2),(10,3)]) R R),(((f37.mx (bI _) m40 R (R:8+2=10)).stp (S45.tr S49) R R).map (ren [(7,2),(10,3)]) R R)⟩
theorem kc {p0:Sig}  {r:Bool}(h:jq p0=some r):Ret Tryz.prog 102 [.agg #[vi p0.In,vi p0.Out]] w (Pvb κ w r):=by
 unfold jq at h
 refine Jk3 κ F102 R N102 R λhE=>Je [1,2] R<|Jf1 (κ:=κ) 2 R R R R R R R λb1 w1 K2 S3 f4=>Tv<|Jb 1 R<|Je [2,1,1,2,2,1,1,2,2] R<|Jd3 R U25 R Z2<|Jb3 R I2 (f4.ld 0 R R)<|Ob h λx5 hx5 h=>Jh R R R C57 (cD (κ:=Mk K2) hx5) ?_
 rintro _ w5 ⟨k6,rfl,e7⟩
 obtain⟨K8,S9,m10⟩:=Ji e7 3 R
 refine Tv<|Jn 1 R<|Ob h λp10 h hK12=>Ju1 [(4,2),(5,1),(6,1),(7,2)] [(8,2)] (λL w'=>L=[(2,.bool false),(10,.bool p10)]/\∃κ',Stp [] K8 w5 κ' w') tv ?_ ?_
 revert h
 cases ht13:x5
 refine JF λh=>Jn 1 R<|Jd1 R R R R<|Jd1 R R R R<|Jn 1 R ?_
 cases h
 exact Jv1 _ tv ⟨R,_,Jj3⟩<|KM R
 refine JT λh=>Jd3 R U25 R Z2<|Jb3 R I2 ((f4.stp S9 R R).ld 1 R R)<|Ob h λx9 hx9 h=>Jh R R R C57 (cD (κ:=Mk K8) hx9) ?_
 rintro _ w15 ⟨k16,rfl,e17⟩
 obtain⟨K18,S19,m20⟩:=Ji e17 5 R
 refine Tv<|Jn 1 R ?_
 cases h
 exact Jv1 _ tv ⟨R,_,S19.wk R⟩<|KM R
 rintro _ w22 _ ⟨rfl,K23,S24⟩
 have h:=hK12
 refine Jb 1 R<|Ju<|Ja2 (l:=[.tmp 2]) V102 (Jp2 R R) R ?_
 cases h
 exact⟨K23,R,(hE.stp (T3 S3 S9 S24) R R)⟩
theorem rB {a0 u0}{p0:(List Int)}{p1:Int}(g0:Rd (Rp.int .i64) κ w 0 a0 u0 p0){r:Bool}(h:kR p0 p1=some r):Ret Tryz.prog 210 [.slice a0 p0.length u0,vi p1] w (Pvb κ w r):=by
 unfold kR at h
 refine Jk3 κ F210 R N210 R λhE=>Je3 R<|Jq<|Je3 R ?_
 have hN1:(p0.length:Int)<=9223372036854775807:=g0.len_le
 refine Ob h λq2 hq3 hK2=>?_
 clear h
 refine Jx1 (λL w'=>∃κ',L=[]/\Stp [] κ w κ' w'/\q2=xe ()) ?_ ?_
 refine Jv<|Jy1 (λk L w'=>∃κ' v5,L=[(0,.slice a0 p0.length u0),(1,vi p1),(5,vi v5)]/\Stp [] κ w κ' w'/\0<=v5/\xh ((p0.length:Int)-v5)=k/\cntM (gN p0 p1) k v5 ()=some q2) ⟨_,_,⟨κ,0,R,Jj3,(by decide),(by simp),hq3⟩,(KM R)⟩ ?_
 rintro k _ w7 ⟨K8,v5,rfl,S9,hj1,hJ1,h⟩
 rcases k with _ | k
 have hk10:=h;obtain⟨o1,h⟩:=bP (xe (xf ()):Bool⊕((Unit)⊕(Unit)))
 have hc1:decide (v5<(p0.length:Int))=false:=Jo2 (by omega)
 refine Jq<|Jg3 [2,2,2,2] 2 R<|Jn3 R U29 R R<|Jb 1 R<|Jw2 R hc1<|Jc1<|Jt<|Jt ?_
 cases h
 have h:=hk10
 refine Jb1 ?_
 cases h
 exact Jw1 _ ⟨K8,R,S9.wk R,R⟩ KN
 obtain⟨o1,h,hk10⟩:=BI h;unfold gN at h
 have hc1:decide (v5<(p0.length:Int))=true:=Jn2 (by omega)
 refine Jq<|Jg3 [2,2,2,2] 2 R<|Jn3 R U29 R R<|Jb 1 R<|Jv2 R hc1<|Js<|Jp<|Jq<|Jv<|Jq<|Js1 (κ:=K8) [0] none [(0,2),(1,2),(2,2),(4,2),(5,2),(3,0),(6,1),(7,2),(8,2),(9,2),(10,2),(11,2),(12,2),(13,2),(14,2),(16,2),(17,2),(18,2),(19,2),(15,0),(20,0),(21,2),(22,2),(23,2)] [] (by kernel_rfl) (by kernel_rfl) λw12 S11=>Jn 2 R<|Ob h λx14 hx14 h=>Jc3 R g0 hx14 U29 Z2<|Jn 2 R ?_
 have f13:=g0.stp (S9.tr S11) R R
 refine Jg R (Jc2 I2 R R<|hvC (f13.gInt hx14) R)<|Ob h λx18 hx18 h=>Jh R R R C57 (cD (κ:=Mk K8) hx18) ?_
 rintro _ w14 ⟨k15,rfl,e16⟩
 obtain⟨K17,S18,m19⟩:=Ji e16 2 R
 refine⟨(S18.cl R),Jn 2 R<|Ob h λp35 h hK21=>Ju1 [(9,2),(10,2),(11,2),(12,2),(13,2),(14,2),(16,2),(17,2),(18,2),(19,2),(15,0),(20,0),(21,2),(22,2),(23,2)] [] (λL w'=>L=[(0,.slice a0 p0.length u0),(1,vi p1),(5,vi v5),(35,.bool p35)]/\∃κ',Stp [] K17 w14 κ' w') (S18.cl R) ?_ ?_⟩
 revert h
 cases ht22:(!x18)
 refine JF λh=>Jn 3 R<|Ob h λp34 h hK23=>Ju1 [(12,2),(13,2),(14,2),(16,2),(17,2),(18,2),(19,2),(15,0),(20,0),(21,2),(22,2)] [(23,2)] (λL w'=>L=[(0,.slice a0 p0.length u0),(1,vi p1),(5,vi v5),(20,.bool false),(21,vi v5),(22,.bool (decide (0<v5))),(23,.bool (decide (0<v5))),(34,.bool p34)]/\∃κ',Stp [] K17 w14 κ' w') (S18.cl R) ?_ ?_
 revert h
 cases ht24:decide (0<v5)
 refine JF λh=>Jn 7 R<|Je1 R R R R<|Je1 R R R R<|Jn 2 R ?_
 cases h
 exact Jv1 _ (S18.cl R) ⟨R,_,Jj3⟩<|KM R
 refine JT λh=>Jn 2 R<|Ob h λx26 hx26 h=>Jc3 R f13 hx26 U29 Z2<|Jn 3 R<|Ob h λx31 hx31 h=>Jc3 R f13 hx31 U29 Z2<|Jg R (Jc2 I2 R R<|hvC (f13.gInt hx26) R)<|Jg R (Jc2 I2 R R<|hvC (f13.gInt hx31) R)<|Jn 2 R ?_
 cases h
 exact Jv1 _ (S18.cl R) ⟨R,_,Jj3⟩<|KM R
 rintro _ w25 _ ⟨rfl,K26,S27⟩
 have h:=hK23
 refine Jn 1 R ?_
 cases h
 exact Jv1 _ ((S18.tr S27).cl R) ⟨R,_,S27.wk R⟩<|KM R
 refine JT λh=>Jn 10 R<|Je1 R R R R<|Je1 R R R R<|Jn 3 R ?_
 cases h
 exact Jv1 _ (S18.cl R) ⟨R,_,Jj3⟩<|KM R
 rintro _ w28 _ ⟨rfl,K29,S30⟩
 have h:=hK21
 refine Jt1<|Jd ?_
 revert h
 cases ht31:p35
 refine JF λh=>Jy R<|Js<|Jz<|Jp<|Jf3 R ?_
 have hw1:t0 .i64 (v5+1)=v5+1:=wr1 hj1 (Jm2 hc1) hN1
 rw[hw1]
 have hc1:=Jm2 hc1
 cases h
 exact Jz1 λa ha=>⟨k,_,Ja3 _,⟨K29,v5+1,R,(T4 S9 S11 S18 S30).wk R,by omega,by omega,hk10⟩,(ha.mm R)⟩
 refine JT λh=>Jx R<|Je3 R<|Ju<|Ja1<|Jw<|Jw ?_
 cases h
 obtain rfl:=Option.some.inj hk10
 have h:=yL hK2
 refine Ja1<|Jq2<|Jw<|Ja2 (l:=[.tmp 4]) V210 (Jp2 R R) R ?_
 cases h
 exact⟨K29,R,(hE.stp (T4 S9 S11 S18 S30) R R)⟩
 rintro _ w4 ⟨K5,rfl,S6,rfl⟩
 have h:=yI hK2
 refine Jp<|Je3 R<|Ju<|Ja2 (l:=[.tmp 4]) V210 (Jp2 R R) R ?_
 cases h
 exact⟨K5,R,(hE.stp S6 R R)⟩
theorem qj {a0 u0}{p0:(List Int)}{p1:Int}(g0:Rd (Rp.int .i64) κ w 0 a0 u0 p0){r:Bool}(h:jQ p0 p1=some r):Ret Tryz.prog 104 [.slice a0 p0.length u0,vi p1] w (Pvb κ w r):=by
 unfold jQ at h
 refine Jk3 κ F104 R N104 R λhE=>Je3 R<|Jq<|Je3 R ?_
 have hN1:(p0.length:Int)<=9223372036854775807:=g0.len_le
 refine Ob h λq2 hq3 hK2=>?_
 clear h
 refine Jx1 (λL w'=>∃κ',L=[]/\Stp [] κ w κ' w'/\q2=xe ()) ?_ ?_
 refine Jv<|Jy1 (λk L w'=>∃κ' v5,L=[(0,.slice a0 p0.length u0),(1,vi p1),(5,vi v5)]/\Stp [] κ w κ' w'/\0<=v5/\xh ((p0.length:Int)-v5)=k/\cntM (gj p0 p1) k v5 ()=some q2) ⟨_,_,⟨κ,0,R,Jj3,(by decide),(by simp),hq3⟩,(KM R)⟩ ?_
 rintro k _ w7 ⟨K8,v5,rfl,S9,hj1,hJ1,h⟩
 rcases k with _ | k
 have hk10:=h;obtain⟨o1,h⟩:=bP (xe (xf ()):Bool⊕((Unit)⊕(Unit)))
 have hc1:decide (v5<(p0.length:Int))=false:=Jo2 (by omega)
 refine Jq<|Jg3 [2,2,2,2] 2 R<|Jn3 R U29 R R<|Jb 1 R<|Jw2 R hc1<|Jc1<|Jt<|Jt ?_
 cases h
 have h:=hk10
 refine Jb1 ?_
 cases h
 exact Jw1 _ ⟨K8,R,S9.wk R,R⟩ KN
 obtain⟨o1,h,hk10⟩:=BI h;unfold gj at h
 have hc1:decide (v5<(p0.length:Int))=true:=Jn2 (by omega)
 refine Jq<|Jg3 [2,2,2,2] 2 R<|Jn3 R U29 R R<|Jb 1 R<|Jv2 R hc1<|Js<|Jp<|Jq<|Jv<|Jg3 [2,2,2,1,2,2,1,2] 2 R<|Ob h λx14 hx14 h=>Jc3 R g0 hx14 U29 Z2<|Jb3 R I2 ((g0.stp S9 R R).gInt hx14)<|Jn 2 R<|Ob h λx18 hx18 h=>Jh R R R C57 (cD (κ:=Mk K8) hx18) ?_
 rintro _ w12 ⟨k13,rfl,e14⟩
 obtain⟨K15,S16,m17⟩:=Ji e14 2 R
 refine Tv<|Jb 1 R ?_
 revert h
 cases ht19:(!x18)
 refine JF λh=>Jy R<|Js<|Jz<|Jp<|Jf3 R ?_
 have hw1:t0 .i64 (v5+1)=v5+1:=wr1 hj1 (Jm2 hc1) hN1
 rw[hw1]
 have hc1:=Jm2 hc1
 cases h
 exact Jz1 λa ha=>⟨k,_,Ja3 _,⟨K15,v5+1,R,(S9.tr S16).wk R,by omega,by omega,hk10⟩,(ha.mm R)⟩
 refine JT λh=>Jx R<|Je3 R<|Ju<|Ja1<|Jw<|Jw ?_
 cases h
 obtain rfl:=Option.some.inj hk10
 have h:=yL hK2
 refine Ja1<|Jq2<|Jw<|Ja2 (l:=[.tmp 4]) V104 (Jp2 R R) R ?_
 cases h
 exact⟨K15,R,(hE.stp (S9.tr S16) R R)⟩
 rintro _ w4 ⟨K5,rfl,S6,rfl⟩
 have h:=yI hK2
 refine Jp<|Je3 R<|Ju<|Ja2 (l:=[.tmp 4]) V104 (Jp2 R R) R ?_
 cases h
 exact⟨K5,R,(hE.stp S6 R R)⟩
theorem qN {a0 u0}{p0:(List Pair)}{a1 u1}{p1:(List Int)}{p2:Int}(g0:Rd Pair.rp κ w 0 a0 u0 p0) (g1:Rd (Rp.int .i64) κ w 0 a1 u1 p1){r:(List Int)}(h:ir p0 p1 p2=some r):Ret Tryz.prog 121 [.slice a0 p0.length u0,.slice a1 p1.length u1,vi p2] w (Pvs E6 2 κ w r):=by
 unfold ir at h
 refine Jk3 κ F121 R N121 R λhE=>Je3 R<|Je [1,2] R<|Jo1 (κ:=κ) (E:=E6) 2 R R R R R Y29 bG R λau an w1 K2 S3 f4=>Tv<|Jb 1 R<|Je [1,2] R<|Jo1 (κ:=K2) (E:=E6) 3 R R R R R Y29 bG R λaq ar w5 K6 S7 f8=>Tv<|Jb 1 R<|Jq<|Je3 R ?_
 have hN9:(p1.length:Int)<=9223372036854775807:=g1.len_le
 refine Ob h λq2 hq11 hK10=>?_
 clear h
 refine Jx1 (λL w'=>∃κ',∃s3:(List Int)×(List Int),∃aj am ak al,L=[(7,.slice aj s3.1.length am),(8,.slice ak s3.2.length al)]/\Stp [2,3] K6 w5 κ' w'/\Oc E6 2 κ' w' 2 aj am s3.1/\Oc E6 2 κ' w' 3 ak al s3.2/\q2=xe s3) ?_ ?_
 refine Jv<|Jy1 (λk L w'=>∃κ' v9,∃s1:(List Int)×(List Int),∃ac aa ab ad,L=[(0,.slice a0 p0.length u0),(1,.slice a1 p1.length u1),(2,vi p2),(7,.slice ac s1.1.length aa),(8,.slice ab s1.2.length ad),(9,vi v9)]/\Stp [2,3] K6 w5 κ' w'/\Oc E6 2 κ' w' 2 ac aa s1.1/\Oc E6 2 κ' w' 3 ab ad s1.2/\0<=v9/\xh ((p1.length:Int)-v9)=k/\cntM (eo p0 p1 p2) k v9 s1=some q2) ⟨_,_,⟨K6,0,((([]:List Int):(List Int)),(([]:List Int):(List Int))),au,an,aq,ar,R,Jj3,(f4.stp S7 R R),f8,(by decide),(by simp),hq11⟩,(KM R)⟩ ?_
 rintro k _ w17 ⟨K18,v9,s1,ac,aa,ab,ad,rfl,S19,f20,f21,hj9,hJ9,h⟩
 rcases k with _ | k
 have hk23:=h;obtain⟨o9,h⟩:=bP (xe (xf s1):(List Int)⊕(((List Int)×(List Int))⊕((List Int)×(List Int))))
 have hc9:decide (v9<(p1.length:Int))=false:=Jo2 (by omega)
 refine Jq<|Jg3 [2,2,2,2] 2 R<|Jn3 R U29 R R<|Jb 1 R<|Jw2 R hc9<|Jc1<|Jt<|Jt ?_
 cases h
 have h:=hk23
 refine Jb1 ?_
 cases h
 exact Jw1 _ ⟨K18,(s1.1,s1.2),ac,aa,ab,ad,R,S19.wk R,f20,f21,R⟩<|KM R
 obtain⟨o9,h,hk23⟩:=BI h;unfold eo at h
 have hc9:decide (v9<(p1.length:Int))=true:=Jn2 (by omega)
 refine Jq<|Jg3 [2,2,2,2] 2 R<|Jn3 R U29 R R<|Jb 1 R<|Jv2 R hc9<|Js<|Jp<|Jq<|Jv<|Jg3 [2,2,2,2,1,2,2,1,2,1] 3 R<|Ob h λx21 hx21 h=>Jc3 R g1 hx21 U29 Z2 ?_
 have f24:=g1.stp (T3 S3 S7 S19) R R
 refine Jb3 R I2 (f24.gInt hx21)<|Ob h λx23 hx23 h=>Jc3 R g0 hx23 U98 Z154<|Jd3 R U154 R Z29 ?_
 obtain⟨cse26,hre26,hle26⟩:=((g0.stp (T3 S3 S7 S19) R R)).gSt hx23
 obtain⟨ae26_0,ue26_0,ae26_1,ue26_1,rfl,fe26_0,fe26_1⟩:=Pair.un hre26
 refine Jb3 R I29 (λw' hw'=>hle26 w' hw' 1 _ R)<|Jn 1 R<|Ob h λx27 hx27 h=>Jh R R R C171 (lZ (κ:=Mk K18) (Ji3 fe26_1) hx27) ?_
 rintro _ w27 ⟨k28,rfl,e29⟩
 obtain⟨K30,S31,m32⟩:=Ji e29 4 R
 refine Tv<|Jd<|Ob h λq4 h hK34=>Jx1 (λL w'=>∃κ' af ai ah ae,L=[(0,.slice a0 p0.length u0),(1,.slice a1 p1.length u1),(2,vi p2),(7,.slice af q4.1.length ai),(8,.slice ah q4.2.length ae),(9,vi v9)]/\Stp [2,3] K30 w27 κ' w'/\Oc E6 2 κ' w' 2 af ai q4.1/\Oc E6 2 κ' w' 3 ah ae q4.2) ?_ ?_
 revert h
 cases ht40:x27
 refine JF λh=>Jy R<|Jh3 [2,2,2,2,1,1,1,2] 3 R<|Ob h λx38 hx38 h=>Jc3 R f24 hx38 U29 Z2<|Jb3 R I2 ((f24.stp S31 R R).gInt hx38)<|Jn1 (κ:=K30) (E:=E6) 6 [] (parts:=[(0,.tmp 39)]) (cells:=[vi x38]) (xs:=([x38]:List Int)) R R R R R R Y29 bG R R R R R R R R R R ⟨[vi x38],[],Zl K30 w27 [],Zl K30 w27 [],R,Zl.sp (l1:=[]) (l2:=[]) R,Zl.sr (l1:=[]) (l2:=[]),R,R⟩ λaC az w53 K54 S55 f56=>Tv<|Ob h λx41 hx41 h=>Jm1 (κ:=K54) (E:=E6) 3 [] R R R R R R R R R Y29 bG R R R R (f21.stp (S31.tr S55) R R) (Sl.srcP (bT _) f56.rdc) bK hx41 R λaw ao w58 K59 S60 f61=>Tv<|Jc 1 R ?_
 cases h
 exact Jw1 _ ⟨K59,ac,aa,aw,ao,R,(S55.tr S60).wk R,(f20.stp (T3 S31 S55 S60) R R),f61⟩<|KM R
 refine JT λh=>Jx R<|Jh3 [2,2,2,2,1,1,1,2] 3 R<|Ob h λx31 hx31 h=>Jc3 R f24 hx31 U29 Z2<|Jb3 R I2 ((f24.stp S31 R R).gInt hx31)<|Jn1 (κ:=K30) (E:=E6) 6 [] (parts:=[(0,.tmp 32)]) (cells:=[vi x31]) (xs:=([x31]:List Int)) R R R R R R Y29 bG R R R R R R R R R R ⟨[vi x31],[],Zl K30 w27 [],Zl K30 w27 [],R,Zl.sp (l1:=[]) (l2:=[]) R,Zl.sr (l1:=[]) (l2:=[]),R,R⟩ λaA aB w42 K43 S44 f45=>Tv<|Ob h λx34 hx34 h=>Jm1 (κ:=K43) (E:=E6) 2 [] R R R R R R R R R Y29 bG R R R R (f20.stp (S31.tr S44) R R) (Sl.srcP (bT _) f45.rdc) bK hx34 R λay av w47 K48 S49 f50=>Tv<|Jc 1 R ?_
 cases h
 exact Jw1 _ ⟨K48,ay,av,ab,ad,R,(S44.tr S49).wk R,f50,(f21.stp (T3 S31 S44 S49) R R)⟩<|KM R
 rintro _ w35 ⟨K36,af,ai,ah,ae,rfl,S37,f38,f39⟩
 have h:=hK34
 refine Jz<|Jp<|Jf3 R ?_
 have hw9:t0 .i64 (v9+1)=v9+1:=wr1 hj9 (Jm2 hc9) hN9
 rw[hw9]
 have hc9:=Jm2 hc9
 cases h
 exact Jz1 λa ha=>⟨k,_,Ja3 _,⟨K36,v9+1,(q4.1,q4.2),af,ai,ah,ae,R,(T3 S19 S31 S37).wk R,f38,f39,by omega,by omega,hk23⟩,(ha.mm R)⟩
 rintro _ w12 ⟨K13,s3,aj,am,ak,al,rfl,S14,f15,f16,rfl⟩
 have h:=yI hK10
 refine Jp<|Jg3 [2,2,1,2] 2 R<|Ob h λx44 hx44 h=>Jm1 (κ:=K13) (E:=E6) 2 [] R R R R R R R R R Y29 bG R R R R f15 (Sl.srcP (bT _) f16.rdc) bK hx44 R λap ax w63 K64 S65 f66=>Tv<|Jb 1 R<|Ju<|Ja2 (l:=[.tmp 6]) V121 (Jp2 R R) R ?_
 cases h
 exact⟨K64,ap,ax,R,(hE.stp (T4 S3 S7 S14 S65) R R),f66⟩
theorem qD {aa ad ae ab af ac}{p0:Parity}{a1 u1}{p1:(List Int)}(g0_0_0:Rd (Rp.int .i64) κ w 0 aa ad p0.Arena.Owner) (g0_0_1:Rd (Rp.sl (Rp.int .i64)) κ w 0 ae ab p0.Arena.Next) (g0_1:Rd (Rp.int .i64) κ w 0 af ac p0.Prio) (g1:Rd (Rp.int .i64) κ w 0 a1 u1 p1){r:Bool}(h:kG p0 p1=some r):Ret Tryz.prog 239 [.agg #[.slice aa p0.Arena.Owner.length ad,.slice ae p0.Arena.Next.length ab,.slice af p0.Prio.length ac],.slice a1 p1.length u1] w (Pvb κ w r):=by
 unfold kG at h
 refine Jk3 κ F239 R N239 R λhE=>Je [1,2] R<|Jf1 (κ:=κ) 2 R R R R R R R λb2 w1 K2 S3 f4=>Tv<|Jb 1 R<|Jq<|Jg3 [2,2,2,1,2,2] 1 R<|Jn3 R U29 R R<|Jd3 R U108 R Z29<|Jb3 R I29 (f4.ld 2 R R)<|Jn3 R U29 R R<|Jb 1 R ?_
 revert h
 cases ht5:((p1.length:Int) !=(p0.Prio.length:Int))
 refine JF λh=>Jy R<|Js<|Jp<|Jq<|Je3 R ?_
 have hN7:(p1.length:Int)<=9223372036854775807:=g1.len_le
 refine Ob h λq2 hq9 hK8=>?_
 clear h
 refine Jx1 (λL w'=>∃κ',L=[]/\Stp [] K2 w1 κ' w'/\q2=xe ()) ?_ ?_
 refine Jv<|Jy1 (λk L w'=>∃κ' v5,L=[(1,.slice a1 p1.length u1),(2,.pointer (some ⟨b2,0,none⟩)),(5,vi v5)]/\Stp [] K2 w1 κ' w'/\0<=v5/\xh ((p1.length:Int)-v5)=k/\cntM (gX p0 p1) k v5 ()=some q2) ⟨_,_,⟨K2,0,R,Jj3,(by decide),(by simp),hq9⟩,(KM R)⟩ ?_
 rintro k _ w13 ⟨K14,v5,rfl,S15,hj7,hJ7,h⟩
 rcases k with _ | k
 have hk16:=h;obtain⟨o7,h⟩:=bP (xe (xf ()):Bool⊕((Unit)⊕(Unit)))
 have hc7:decide (v5<(p1.length:Int))=false:=Jo2 (by omega)
 refine Jq<|Jg3 [2,2,2,2] 2 R<|Jn3 R U29 R R<|Jb 1 R<|Jw2 R hc7<|Jc1<|Jt<|Jt ?_
 cases h
 have h:=hk16
 refine Jb1 ?_
 cases h
 exact Jw1 _ ⟨K14,R,S15.wk R,R⟩ KN
 obtain⟨o7,h,hk16⟩:=BI h;unfold gX at h
 have hc7:decide (v5<(p1.length:Int))=true:=Jn2 (by omega)
 refine Jq<|Jg3 [2,2,2,2] 2 R<|Jn3 R U29 R R<|Jb 1 R<|Jv2 R hc7<|Js<|Jp<|Jq<|Jv<|Jq<|Js1 (κ:=K14) [0,2] none [(0,2),(1,2),(2,2),(3,0),(4,2),(5,2),(6,2),(7,2),(9,2),(12,2),(13,2),(14,2),(8,0),(10,2),(11,0),(15,0),(16,1),(17,2),(18,2)] [] (by kernel_rfl) (by kernel_rfl) λw18 S17=>Jn 2 R<|Ob h λx20 hx20 h=>Jc3 R g1 hx20 U29 Z2 ?_
 have f19:=g1.stp (T3 S3 S15 S17) R R
 refine Jg R (Jc2 I2 R R<|hvC (f19.gInt hx20) R)<|Jn 2 R<|Ob h λp36 h hK20=>Ju1 [(6,2),(7,2),(9,2),(12,2),(13,2),(14,2),(8,0),(10,2),(11,0),(15,0),(16,1),(17,2),(18,2)] [] (λL w'=>L=[(1,.slice a1 p1.length u1),(2,.pointer (some ⟨b2,0,none⟩)),(5,vi v5),(36,.bool p36)]/\∃κ',Stp [] K14 w18 κ' w') (Cl.refl _ _ _) ?_ ?_
 revert h
 cases ht21:(x20 !=(-1))
 refine JF λh=>Jn 6 R<|Je1 R R R R<|Jn 1 R<|Je1 R R R R<|Je1 R R R R<|Jd1 R R R R<|Jn 2 R ?_
 cases h
 exact Jv1 _ (Cl.refl _ _ _) ⟨R,_,Jj3⟩<|KM R
 refine JT λh=>Jd3 R U108 R Z104<|Jd3 R U104 R Z26<|Jn 3 R<|Ob h λx32 hx32 h=>Jc3 R f19 hx32 U29 Z2<|Jg R (Jc2 I26 R R<|hvC ((f4.stp (S15.tr S17) R R).ld 1 R R) R)<|Ob h λx28 hx28 h=>Jc3 R g0_0_1 hx28 U26 Z29 ?_
 obtain⟨ax28,ux28,f24,hl25⟩:=(g0_0_1.stp (T3 S3 S15 S17) R R).gSl hx28
 refine Jg R (Jc2 I29 R R<|hvC hl25 R)<|Jg R (Jc2 I2 R R<|hvC (f19.gInt hx32) R)<|Ob h λx34 hx34 h=>Jh R R R C252 (qY (κ:=Mk K14) (Ji3 f24) hx34) ?_
 rintro _ w26 ⟨k27,rfl,e28⟩
 obtain⟨K29,S30,m31⟩:=Ji e28 3 R
 refine⟨(S30.cl R),Jn 2 R ?_⟩
 cases h
 exact Jv1 _ (S30.cl R) ⟨R,_,S30.wk R⟩<|KM R
 rintro _ w33 _ ⟨rfl,K34,S35⟩
 have h:=hK20
 refine Jt1<|Jd ?_
 revert h
 cases ht36:p36
 refine JF λh=>Jy R<|Js<|Jz<|Jp<|Jf3 R ?_
 have hw7:t0 .i64 (v5+1)=v5+1:=wr1 hj7 (Jm2 hc7) hN7
 rw[hw7]
 have hc7:=Jm2 hc7
 cases h
 exact Jz1 λa ha=>⟨k,_,Ja3 _,⟨K34,v5+1,R,(T3 S15 S17 S35).wk R,by omega,by omega,hk16⟩,(ha.mm R)⟩
 refine JT λh=>Jx R<|Je3 R<|Ju<|Ja1<|Jw<|Jw ?_
 cases h
 obtain rfl:=Option.some.inj hk16
 have h:=yL hK8
 refine Ja1<|Jq2<|Jw<|Ja2 (l:=[.tmp 4]) V239 (Jp2 R R) R ?_
 cases h
 exact⟨K34,R,(hE.stp (T4 S3 S15 S17 S35) R R)⟩
 rintro _ w10 ⟨K11,rfl,S12,rfl⟩
 have h:=yI hK8
 refine Jp<|Je3 R<|Ju<|Ja2 (l:=[.tmp 4]) V239 (Jp2 R R) R ?_
 cases h
 exact⟨K11,R,(hE.stp (S3.tr S12) R R)⟩
 refine JT λh=>Jx R<|Je3 R<|Ju<|Jw<|Ja2 (l:=[.tmp 4]) V239 (Jp2 R R) R ?_
 cases h
 exact⟨K2,R,(hE.stp S3 R R)⟩
theorem sJ {aa ak aj ah ad af ai ab ae ac}{p0:l7Game}{a1 u1}{p1:(List Bool)}(g0_0:Rd (Rp.int .i64) κ w 0 aa ak p0.owner) (g0_1:Rd (Rp.int .i64) κ w 0 aj ah p0.prio) (g0_2:Rd (Rp.sl (Rp.int .i64)) κ w 0 ad af p0.next) (g0_3:Rd (Rp.sl (Rp.int .i64)) κ w 0 ai ab p0.prev) (g0_4:Rd (Rp.int .i64) κ w 0 ae ac p0.pick) (g1:Rd Rp.bool κ w 0 a1 u1 p1){r:Int}(h:m9 p0 p1=some r):Ret Tryz.prog 240 [.agg #[.slice aa p0.owner.length ak,.slice aj p0.prio.length ah,.slice ad p0.next.length af,.slice ai p0.prev.length ab,.slice ae p0.pick.length ac],.slice a1 p1.length u1] w (Pvi κ w r):=by
 unfold m9 at h
 refine Jk3 κ F240 R N240 R λhE=>Je [1,2] R<|Jf1 (κ:=κ) 2 R R R R R R R λb2 w1 K2 S3 f4=>Tv<|Jb 1 R<|Je3 R<|Jq<|Je3 R ?_
 have hN5:(p1.length:Int)<=9223372036854775807:=g1.len_le
 refine Ob h λq2 hq7 hK6=>?_
 clear h
 refine Jx1 (λL w'=>∃κ' s3,L=[(5,vi s3)]/\Stp [] K2 w1 κ' w'/\q2=xe s3) ?_ ?_
 refine Jv<|Jy1 (λk L w'=>∃κ' v6 s1,L=[(1,.slice a1 p1.length u1),(2,.pointer (some ⟨b2,0,none⟩)),(5,vi s1),(6,vi v6)]/\Stp [] K2 w1 κ' w'/\0<=v6/\xh ((p1.length:Int)-v6)=k/\cntM (jK p0 p1) k v6 s1=some q2) ⟨_,_,⟨K2,0,((-1):Int),R,Jj3,(by decide),(by simp),hq7⟩,(KM R)⟩ ?_
 rintro k _ w11 ⟨K12,v6,s1,rfl,S13,hj5,hJ5,h⟩
 rcases k with _ | k
 have hk14:=h;obtain⟨o5,h⟩:=bP (xe (xf s1):Int⊕((Int)⊕(Int)))
 have hc5:decide (v6<(p1.length:Int))=false:=Jo2 (by omega)
 refine Jq<|Jg3 [2,2,2,2] 2 R<|Jn3 R U193 R R<|Jb 1 R<|Jw2 R hc5<|Jc1<|Jt<|Jt ?_
 cases h
 have h:=hk14
 refine Jb1 ?_
 cases h
 exact Jw1 _ ⟨K12,s1,R,S13.wk R,R⟩<|KM R
 obtain⟨o5,h,hk14⟩:=BI h;unfold jK at h
 have hc5:decide (v6<(p1.length:Int))=true:=Jn2 (by omega)
 refine Jq<|Jg3 [2,2,2,2] 2 R<|Jn3 R U193 R R<|Jb 1 R<|Jv2 R hc5<|Js<|Jp<|Jq<|Jv<|Jg3 [2,2,2,1] 2 R<|Ob h λx15 hx15 h=>Jc3 R g1 hx15 U193 Z4<|Jb3 R I4 ((g1.stp (S3.tr S13) R R).gBool hx15)<|Jd<|Ob h λq4 h hK16=>Jx1 (λL w'=>∃κ',L=[(1,.slice a1 p1.length u1),(2,.pointer (some ⟨b2,0,none⟩)),(5,vi q4),(6,vi v6)]/\Stp [] K12 w11 κ' w') ?_ ?_
 revert h
 cases ht20:x15
 refine JF λh=>Jy R<|Js ?_
 cases h
 exact Jw1 _ ⟨K12,R,Jj3⟩<|KM R
 refine JT λh=>Jx R<|Jh3 [2,2,1,2,2,1,1,2] 1 R<|Jd3 R U191 R Z29<|Jb3 R I29 ((f4.stp S13 R R).ld 1 R R)<|Jn 1 R<|Ob h λx21 hx21 h=>Jc3 R g0_1 hx21 U29 Z2<|Jb3 R I2 ((g0_1.stp (S3.tr S13) R R).gInt hx21)<|Ob h λx23 hx23 h=>Jh R R R C159 (la (κ:=Mk K12) hx23) ?_
 rintro _ w23 ⟨k24,rfl,e25⟩
 obtain⟨K26,S27,m28⟩:=Ji e25 3 R
 refine Tv<|Jc 1 R ?_
 cases h
 exact Jw1 _ ⟨K26,R,S27.wk R⟩<|KM R
 rintro _ w17 ⟨K18,rfl,S19⟩
 have h:=hK16
 refine Jz<|Jp<|Jf3 R ?_
 have hw5:t0 .i64 (v6+1)=v6+1:=wr1 hj5 (Jm2 hc5) hN5
 rw[hw5]
 have hc5:=Jm2 hc5
 cases h
 exact Jz1 λa ha=>⟨k,_,Ja3 _,⟨K18,v6+1,q4,R,(S13.tr S19).wk R,by omega,by omega,hk14⟩,(ha.mm R)⟩
 rintro _ w8 ⟨K9,s3,rfl,S10,rfl⟩
 have h:=yI hK6
 refine Jp<|Je3 R<|Ju<|Ja2 (l:=[.tmp 4]) V240 (Jp2 R R) R ?_
 cases h
 exact⟨K9,R,(hE.stp (S3.tr S10) R R)⟩
theorem sH {p0:Sig}  {r:Int}(h:nt p0=some r):Ret Tryz.prog 103 [.agg #[vi p0.In,vi p0.Out]] w (Pvi κ w r):=by
 unfold nt at h
 refine Jk3 κ F103 R N103 R λhE=>Je [1,2] R<|Jf1 (κ:=κ) 2 R R R R R R R λb1 w1 K2 S3 f4=>Tv<|Jb 1 R<|Je [2,1,1,2] R<|Jd3 R U25 R Z2<|Jb3 R I2 (f4.ld 0 R R)<|Ob h λx5 hx5 h=>Jh R R R C59 (de (κ:=Mk K2) hx5) ?_
 rintro _ w5 ⟨k6,rfl,e7⟩
 obtain⟨K8,S9,m10⟩:=Ji e7 3 R
 refine Tv<|Jb 1 R<|Ju<|Ja2 (l:=[.tmp 2]) V103 (Jp2 R R) R ?_
 cases h
 exact⟨K8,R,(hE.stp (S3.tr S9) R R)⟩
theorem qh {p0:Sig}{ab ac aa ad}{p1:Clause}(g1_1:Rd (Rp.int .i64) κ w 0 ab ac p1.A) (g1_2:Rd (Rp.int .i64) κ w 0 aa ad p1.B){r:Bool}(h:jz p0 p1=some r):Ret Tryz.prog 180 [.agg #[vi p0.In,vi p0.Out],.agg #[vi p1.Kind,.slice ab p1.A.length ac,.slice aa p1.B.length ad]] w (Pvb κ w r):=by
 unfold jz at h
 refine Jk3 κ F180 R N180 R λhE=>Je [1,1,2] R<|Jf1 (κ:=κ) 2 R R R R R R R λb2 w1 K2 S3 f4=>Tv<|Jf1 (κ:=K2) 3 R R R R R R R λb3 w5 K6 S7 f8=>Tv<|Jb 1 R<|Jq<|Jq<|Js1 (κ:=K6) [2,3] none [(0,2),(1,0),(2,2),(3,2),(4,2),(5,0),(6,2),(7,2),(8,2),(9,2),(10,0),(11,0),(12,1),(13,1),(14,2),(15,2),(16,2),(17,2),(18,0),(19,0),(20,1),(21,1),(22,2),(23,2)] [] (by kernel_rfl) (by kernel_rfl) λw10 S9=>Jd3 R U119 R Z2 ?_
 have f11:=f8.stp S9 R R
 refine Jg R (Jc2 I2 R R<|hvC (f11.ld 0 R R) R)<|Jn 2 R<|Ob h λp12 h hK12=>Ju1 [(4,2),(5,0),(6,2),(7,2)] [(8,2),(9,2),(10,0),(11,0),(12,1),(13,1),(14,2),(15,2),(16,2),(17,2),(18,0),(19,0),(20,1),(21,1),(22,2),(23,2)] (λL w'=>L=[(2,.pointer (some ⟨b2,0,none⟩)),(3,.pointer (some ⟨b3,0,none⟩)),(12,.bool p12)]/\∃κ',Stp [] K6 w10 κ' w') (Cl.refl _ _ _) ?_ ?_
 revert h
 cases ht13:decide (p1.Kind<1)
 refine JF λh=>Jd3 R U119 R Z2<|Jg R (Jc2 I2 R R<|hvC (f11.ld 0 R R) R)<|Jn 2 R ?_
 cases h
 exact Jv1 _ (Cl.refl _ _ _) ⟨R,_,Jj3⟩<|KM R
 refine JT λh=>Jn 1 R<|Je1 R R R R<|Jn 2 R ?_
 cases h
 exact Jv1 _ (Cl.refl _ _ _) ⟨R,_,Jj3⟩<|KM R
 rintro _ w14 _ ⟨rfl,K15,S16⟩
 have h:=hK12
 refine Jn 1 R<|Ob h λp20 h hK17=>Ju1 [(9,2),(10,0),(11,0),(12,1),(13,1),(14,2),(15,2)] [(16,2),(17,2),(18,0),(19,0),(20,1),(21,1),(22,2),(23,2)] (λL w'=>L=[(2,.pointer (some ⟨b2,0,none⟩)),(3,.pointer (some ⟨b3,0,none⟩)),(20,.bool p20)]/\∃κ',Stp [] K15 w14 κ' w') (S16.cl R) ?_ ?_
 revert h
 cases ht18:p12
 refine JF λh=>Jd3 R U119 R Z29<|Jg R (Jc2 I29 R R<|hvC (f11.ld 1 R R) R)<|Jg R (Jd2 (cs:=[vi p0.In,vi p0.Out]) I25 Z25 R R R<|haC (f4.stp (S7.tr S9) R R).cells R)<|Ob h λx17 hx17 h=>Jh R R R C130 (fb (κ:=Mk K15) (p0:=p0) hx17) ?_
 rintro _ w20 ⟨k21,rfl,e22⟩
 obtain⟨K23,S24,m25⟩:=Ji e22 4 R
 refine⟨((S16.tr S24).cl R),Ob h λx18 hx18 h=>Jh R R R C217 (ka (κ:=Mk K23) (Ji3<|g1_1.stp (T5 S3 S7 S9 S16 S24) R R) hx18) ?_⟩
 rintro _ w28 ⟨k29,rfl,e30⟩
 obtain⟨K31,S32,m33⟩:=Ji e30 6 R
 refine⟨((T3 S16 S24 S32).cl R),Jn 2 R ?_⟩
 cases h
 exact Jv1 _ ((T3 S16 S24 S32).cl R) ⟨R,_,(S24.tr S32).wk R⟩<|KM R
 refine JT λh=>Jn 1 R<|Je1 R R R R<|Je1 R R R R<|Jd1 R R R R<|Jd1 R R R R<|Jn 2 R ?_
 cases h
 exact Jv1 _ (S16.cl R) ⟨R,_,Jj3⟩<|KM R
 rintro _ w35 _ ⟨rfl,K36,S37⟩
 have h:=hK17
 refine Jn 1 R<|Ob h λp28 h hK38=>Ju1 [(17,2),(18,0),(19,0),(20,1),(21,1),(22,2),(23,2)] [] (λL w'=>L=[(3,.pointer (some ⟨b3,0,none⟩)),(28,.bool p28)]/\∃κ',Stp [] K36 w35 κ' w') ((S16.tr S37).cl R) ?_ ?_
 revert h
 cases ht39:p20
 refine JF λh=>Jd3 R U119 R Z29<|Jg R (Jc2 I29 R R<|hvC (f11.ld 2 R R) R)<|Jg R (Jd2 (cs:=[vi p0.In,vi p0.Out]) I25 Z25 R R R<|haC (f4.stp (S7.tr S9) R R).cells R)<|Ob h λx25 hx25 h=>Jh R R R C130 (fb (κ:=Mk K36) (p0:=p0) hx25) ?_
 rintro _ w41 ⟨k42,rfl,e43⟩
 obtain⟨K44,S45,m46⟩:=Ji e43 4 R
 refine⟨((T3 S16 S37 S45).cl R),Ob h λx26 hx26 h=>Jh R R R C217 (ka (κ:=Mk K44) (Ji3<|g1_2.stp (T6 S3 S7 S9 S16 S37 S45) R R) hx26) ?_⟩
 rintro _ w49 ⟨k50,rfl,e51⟩
 obtain⟨K52,S53,m54⟩:=Ji e51 6 R
 refine⟨((T4 S16 S37 S45 S53).cl R),Jn 2 R ?_⟩
 cases h
 exact Jv1 _ ((T4 S16 S37 S45 S53).cl R) ⟨R,_,(S45.tr S53).wk R⟩<|KM R
 refine JT λh=>Jn 1 R<|Je1 R R R R<|Je1 R R R R<|Jd1 R R R R<|Jd1 R R R R<|Jn 2 R ?_
 cases h
 exact Jv1 _ ((S16.tr S37).cl R) ⟨R,_,Jj3⟩<|KM R
 rintro _ w56 _ ⟨rfl,K57,S58⟩
 have h:=hK38
 refine Jt1<|Jd ?_
 revert h
 cases ht59:p28
 refine JF λh=>Jy R<|Js<|Jp<|Je [2,1,1,2,2,1,2,2,2,2] R<|Jd3 R U119 R Z2 ?_
 have f61:=f11.stp (T3 S16 S37 S58) R R
 refine Jb3 R I2 (f61.ld 0 R R)<|Ob h λx31 hx31 h=>Jh R R R C218 (pa (κ:=Mk K57) hx31) ?_
 rintro _ w62 ⟨k63,rfl,e64⟩
 obtain⟨K65,S66,m67⟩:=Ji e64 4 R
 refine Tv<|Jn 1 R<|Ob h λp37 h hK69=>Ju1 [(4,2),(5,1),(6,2),(7,2),(8,2)] [(9,2)] (λL w'=>L=[(37,.bool p37)]/\∃κ',Stp [] K65 w62 κ' w') tv ?_ ?_
 revert h
 cases ht70:x31
 refine JF λh=>Jd3 R U119 R Z29<|Jb3 R I29 ((f61.stp S66 R R).ld 2 R R)<|Jn3 R U29 R R<|Jn 2 R ?_
 cases h
 exact Jv1 _ tv ⟨R,_,Jj3⟩<|KM R
 refine JT λh=>Jn 1 R<|Jd1 R R R R<|Jn 3 R ?_
 cases h
 exact Jv1 _ tv ⟨R,_,Jj3⟩<|KM R
 rintro _ w72 _ ⟨rfl,K73,S74⟩
 have h:=hK69
 refine Jb 1 R<|Ju<|Ja2 (l:=[.tmp 4]) V180 (Jp2 R R) R ?_
 cases h
 exact⟨K73,R,(hE.stp (T8 S3 S7 S9 S16 S37 S58 S66 S74) R R)⟩
 refine JT λh=>Jx R<|Je3 R<|Ju<|Jw<|Ja2 (l:=[.tmp 4]) V180 (Jp2 R R) R ?_
 cases h
 exact⟨K57,R,(hE.stp (T6 S3 S7 S9 S16 S37 S58) R R)⟩
theorem kJ {ay aq an ap av au aw ax}{p0:solver}{p1:Int}{a2 u2}{p2:(List Bool)}{a3 u3}{p3:(List Bool)}{b0}(g0_0_0_0:Rd (Rp.int .i64) κ w 0 ay aq p0.game.Arena.Owner) (g0_0_0_1:Rd (Rp.sl (Rp.int .i64)) κ w 0 an ap p0.game.Arena.Next) (g0_0_1:Rd (Rp.int .i64) κ w 0 av au p0.game.Prio) (g0_1:Rd (Rp.sl (Rp.int .i64)) κ w 0 aw ax p0.preds) (g2:Rd Rp.bool κ w 0 a2 u2 p2) (g3:Rd Rp.bool κ w 0 a3 u3 p3) (gb0:Bc κ w 0 b0 208 [.slice ay p0.game.Arena.Owner.length aq,.slice an p0.game.Arena.Next.length ap,.slice av p0.game.Prio.length au,.slice aw p0.preds.length ax]){r:(List Bool)}(h:eG p0 p1 p2 p3=some r):Ret Tryz.prog 233 [.pointer (some ⟨b0,0,none⟩),vi p1,.slice a2 p2.length u2,.slice a3 p3.length u3] w (Pvs Ep.bool 4 κ w r):=by
 unfold eG at h
 refine Jk3 κ F233 R N233 R λhE=>Je3 R<|Je [1,2,1,2] R<|Jo1 (κ:=κ) (E:=Ep.bool) 2 R R R R R Y193 cX R λaE aD w1 K2 S3 f4=>Tv<|Jn 1 R<|Ob h λx19 hx19 h=>?_
 have f5:=g3.stp S3 R R
 refine Jm1 (κ:=K2) (E:=Ep.bool) 2 [] R R R R R R R R R Y193 cX R R R R f4 (Sl.srcP tR f5) bK hx19 R λac ad w6 K7 S8 f9=>Tv<|Jb 1 R<|Jg3 [2,2,1,2] 1 R<|Jn3 R U193 R R<|Ob h λx22 hx22 h=>Jl1 (κ:=K7) (E:=E6) (z:=(0:Int)) 3 R R R R R R R Y255 ug R R R R R (λ_ _ _=>R) (Ju2 hx22) λab aa w10 K11 S12 f13=>Tv<|Jb 1 R<|Jg3 [2,1,2] 1 R<|Ob h λx24 hx24 h=>Jh R R R C190 (gx (κ:=Mk K11) (Ji3<|f5.stp (S8.tr S12) R R) hx24) ?_
 rintro _ w15 ⟨k16,az,aB,rfl,e17,f18⟩
 obtain⟨K19,S20,m21⟩:=Ji e17 4 R
 refine Tv<|Jb 1 R<|Jq<|Ob h λq2 hq26 hK25=>?_
 clear h
 refine Jx1 (λL w'=>∃κ',∃s3:(List Int)×(List Bool)×(List Int),∃ao ar,L=[(0,.pointer (some ⟨b0,0,none⟩)),(9,.slice ac x19.length ad)]/\Stp [2,3,6] K19 w15 κ' w'/\Oc E6 2 κ' w' 6 ao ar s3.1/\Oc Ep.bool 4 κ' w' 2 ac ad s3.2.1/\x19.length=s3.2.1.length/\Oc E6 3 κ' w' 3 ab aa s3.2.2/\x22.length=s3.2.2.length/\q2=xe s3) ?_ ?_
 refine Jv<|Jy1 (λk L w'=>∃κ',∃s1:(List Int)×(List Bool)×(List Int),∃ai ah,L=[(0,.pointer (some ⟨b0,0,none⟩)),(1,vi p1),(2,.slice a2 p2.length u2),(9,.slice ac x19.length ad),(10,.slice ab x22.length aa),(11,.slice ai s1.1.length ah)]/\Stp [2,3,6] K19 w15 κ' w'/\Oc E6 2 κ' w' 6 ai ah s1.1/\Oc Ep.bool 4 κ' w' 2 ac ad s1.2.1/\x19.length=s1.2.1.length/\Oc E6 3 κ' w' 3 ab aa s1.2.2/\x22.length=s1.2.2.length/\bZ (dQ p0 p1 p2) k s1=some q2) ⟨_,_,⟨K19,(x24,x19,x22),az,aB,R,Jj3,(f18.mx (bI _) m21 R (R:4+2=6)),(f9.stp (S12.tr S20) R R),R,(f13.stp S20 R R),R,hq26⟩,(KM R)⟩ ?_
 rintro k _ w35 ⟨K36,s1,ai,ah,rfl,S37,f38,f39,hn40,f41,hn42,h⟩
 rcases k with _ | k
 cases h
 obtain⟨o24,h,hk45⟩:=BI h;unfold dQ at h
 refine Jq<|Jg3 [2,2,2] 1 R<|Jn3 R U29 R R<|Jb 1 R ?_
 revert h
 cases ht46:decide (0<(s1.1.length:Int))
 refine JF λh=>Jy R<|Jc1<|Jt<|Jt ?_
 cases h
 have h:=hk45
 refine Jb1 ?_
 cases h
 exact Jw1 _ ⟨K36,(s1.1,s1.2.1,s1.2.2),ai,ah,R,S37.wk R,f38,f39,hn40,f41,hn42,R⟩<|KM R
 refine JT λh=>Jx R<|Js<|Jp<|Jv<|Jg3 [2,2,1,2] 1 R<|Ob h λx29 hx29 h=>Jc3 R f38.rdc hx29 U29 Z2<|Jb3 R I2 (f38.rdc.gInt hx29)<|Jb 1 R<|Jg3 [2,2,2] 1 R<|Ob h λx32 hx32 h=>Jf R (l4 (k1:= .i64) (k2:= .i64) U29 Z2 (.inr ⟨_,R,R⟩) (.inl ⟨R,R⟩) hx32 f38.rdc.1 R R R)<|Jb 1 R<|Jg3 [2,2,2,1,2,2,1,2,2] 1 R<|Jf R (i8 R R)<|Jd3 R U208 R Z26 ?_
 have f48:=gb0.stp (T5 S3 S8 S12 S20 S37) R R
 refine Jb3 R I26 (f48.ld 3 R R)<|Jn 1 R<|Ob h λx38 hx38 h=>Jc3 R g0_1 hx38 U26 Z29 ?_
 obtain⟨ax38,ux38,f50,hl51⟩:=(g0_1.stp (T5 S3 S8 S12 S20 S37) R R).gSl hx38
 refine Jb3 R I29 hl51<|Jn3 R U29 R R<|Jb 1 R ?_
 have hN52:(x38.length:Int)<=9223372036854775807:=f50.len_le
 refine Ob h λq5 hq54 hK53=>?_
 clear h
 refine Jx1 (λL w'=>∃κ',∃s6:(List Int)×(List Bool)×(List Int),∃ak aj,L=[(0,.pointer (some ⟨b0,0,none⟩)),(1,vi p1),(2,.slice a2 p2.length u2),(9,.slice ac x19.length ad),(10,.slice ab x22.length aa),(11,.slice ak s6.1.length aj)]/\Stp [2,3,6] K36 w35 κ' w'/\Oc E6 2 κ' w' 6 ak aj s6.1/\Oc Ep.bool 4 κ' w' 2 ac ad s6.2.1/\x19.length=s6.2.1.length/\Oc E6 3 κ' w' 3 ab aa s6.2.2/\x22.length=s6.2.2.length/\q5=xe s6) ?_ ?_
 refine Jv<|Jy1 (λk L w'=>∃κ' v41,∃s4:(List Int)×(List Bool)×(List Int),∃af ae,L=[(0,.pointer (some ⟨b0,0,none⟩)),(1,vi p1),(2,.slice a2 p2.length u2),(9,.slice ac x19.length ad),(10,.slice ab x22.length aa),(11,.slice af s4.1.length ae),(39,.slice ax38 x38.length ux38),(40,vi (x38.length:Int)),(41,vi v41)]/\Stp [2,3,6] K36 w35 κ' w'/\Oc E6 2 κ' w' 6 af ae s4.1/\Oc Ep.bool 4 κ' w' 2 ac ad s4.2.1/\x19.length=s4.2.1.length/\Oc E6 3 κ' w' 3 ab aa s4.2.2/\x22.length=s4.2.2.length/\0<=v41/\xh ((x38.length:Int)-v41)=k/\cntM (dg p0 p1 p2 x38) k v41 s4=some q5) ⟨_,_,⟨K36,0,(x32,s1.2.1,s1.2.2),(subA ai ah (1:Int).toNat 1),(ah-(1:Int).toNat),R,Jj3,(f38.sub hx32),f39,hn40,f41,hn42,(by decide),(by simp),hq54⟩,(KM R)⟩ ?_
 rintro k _ w63 ⟨K64,v41,s4,af,ae,rfl,S65,f66,f67,hn68,f69,hn70,hj52,hJ52,h⟩
 rcases k with _ | k
 have hk71:=h;obtain⟨o52,h⟩:=bP (xe (xf s4):(List Bool)⊕(((List Int)×(List Bool)×(List Int))⊕((List Int)×(List Bool)×(List Int))))
 have hc52:decide (v41<(x38.length:Int))=false:=Jo2 (by omega)
 refine Je3 R<|Jq<|Jw2 R hc52<|Jc1<|Jt<|Jt ?_
 cases h
 have h:=hk71
 refine Jb1 ?_
 cases h
 exact Jw1 _ ⟨K64,(s4.1,s4.2.1,s4.2.2),af,ae,R,S65.wk R,f66,f67,hn68,f69,hn70,R⟩<|KM R
 obtain⟨o52,h,hk71⟩:=BI h;unfold dg at h
 have hc52:decide (v41<(x38.length:Int))=true:=Jn2 (by omega)
 refine Je3 R<|Jq<|Jv2 R hc52<|Js<|Jp<|Jq<|Jv<|Je [2,1,2] R<|Ob h λx43 hx43 h=>Jc3 R f50 hx43 U29 Z2<|Jb3 R I2 ((f50.stp S65 R R).gInt hx43)<|Jb 1 R<|Jq<|Jg3 [2,2,2,1,2,2,2,2,1,2,2] 2 R<|Ob h λx47 hx47 h=>Jf R (Jf2 f67.rdc hx47 U193 Z4 R R hn68 R)<|Jb3 R I4 (f67.rdc.gBool hx47)<|Jn 1 R<|Ob h λp55 h hK73=>Ju1 [(5,2),(6,2),(7,2),(8,1),(9,2),(10,2)] [] (λL w'=>L=[(0,.pointer (some ⟨b0,0,none⟩)),(1,vi p1),(2,.slice a2 p2.length u2),(9,.slice ac x19.length ad),(10,.slice ab x22.length aa),(11,.slice af s4.1.length ae),(14,vi x43),(39,.slice ax38 x38.length ux38),(40,vi (x38.length:Int)),(41,vi v41),(55,.bool p55)]/\∃κ',Stp [] K64 w63 κ' w') tv ?_ ?_
 revert h
 cases ht74:x47
 refine JF λh=>Jn 2 R<|Ob h λx52 hx52 h=>Jc3 R g2 hx52 U193 Z4<|Jb3 R I4 ((g2.stp (T6 S3 S8 S12 S20 S37 S65) R R).gBool hx52)<|Jn 2 R ?_
 cases h
 exact Jv1 _ tv ⟨R,_,Jj3⟩<|KM R
 refine JT λh=>Jn 3 R<|Jd1 R R R R<|Jn 2 R ?_
 cases h
 exact Jv1 _ tv ⟨R,_,Jj3⟩<|KM R
 rintro _ w76 _ ⟨rfl,K77,S78⟩
 have h:=hK73
 refine Jd ?_
 revert h
 cases ht79:p55
 refine JF λh=>Jy R<|Js<|Jp<|Jq<|Jg3 [2,2,2,2,2,1,2,2,1,2,2] 1 R<|Jf R (i8 R R)<|Jd3 R U208 R Z108<|Jd3 R U108 R Z104<|Jd3 R U104 R Z29 ?_
 have f83:=f48.stp (S65.tr S78) R R
 refine Jb3 R I29 (f83.ld 0 R R)<|Jn 1 R<|Ob h λx63 hx63 h=>Jc3 R g0_0_0_0 hx63 U29 Z2<|Jb3 R I2 ((g0_0_0_0.stp (T7 S3 S8 S12 S20 S37 S65 S78) R R).gInt hx63)<|Jb 2 R ?_
 revert h
 cases ht85:(x63 !=p1)
 refine JF λh=>Jy R<|Js<|Jp<|Jg3 [2,2,2,1] 2 R<|Ob h λx110 hx110 h=>Jf R (Jf2 f67.rdc hx110 U193 Z4 R R hn68 R)<|Ob h λy382 hy382 h=>Jk1 (κ:=K77) (E:=Ep.bool) 2 [] R R R R R R R R Z4 R R R R (f67.stp S78 R R) hy382 λw151 K152 S153 f154=>Tv<|?_
 have hn155:x19.length=y382.length:=hn68.trans (Jt2 hy382).2.2.2.symm
 refine Jd<|Jh3 [2,2,1,1,2] 2 R<|Jn1 (κ:=K152) (E:=E6) 7 [] (parts:=[(0,.tmp 112)]) (cells:=[vi x43]) (xs:=([x43]:List Int)) R R R R R R Y29 bG R R R R R R R R R R ⟨[vi x43],[],Zl K152 w151 [],Zl K152 w151 [],R,Zl.sp (l1:=[]) (l2:=[]) R,Zl.sr (l1:=[]) (l2:=[]),R,R⟩ λaA aC w156 K157 S158 f159=>Tv<|Ob h λx114 hx114 h=>Jm1 (κ:=K157) (E:=E6) 6 [] R R R R R R R R R Y29 bG R R R R (f66.stp (T3 S78 S153 S158) R R) (Sl.srcP (bT _) f159.rdc) bK hx114 R λal am w161 K162 S163 f164=>Tv<|Jc 1 R<|Jz<|Jp<|Jf3 R ?_
 have hw52:t0 .i64 (v41+1)=v41+1:=wr1 hj52 (Jm2 hc52) hN52
 rw[hw52]
 have hc52:=Jm2 hc52
 cases h
 exact Jz1 λa ha=>⟨k,_,Ja3 _,⟨K162,v41+1,(x114,y382,s4.2.2),al,am,R,(T5 S65 S78 S153 S158 S163).wk R,f164,(f154.stp (S158.tr S163) R R),hn155,(f69.stp (T4 S78 S153 S158 S163) R R),hn70,by omega,by omega,hk71⟩,(ha.mm R)⟩
 refine JT λh=>Jx R<|Jq<|Jg3 [2,2,2,1,2] 2 R<|Ob h λx69 hx69 h=>Jf R (Jf2 f69.rdc hx69 U255 Z3 R R hn70 R) ?_
 have f86:=f69.stp S78 R R
 refine Jb3 R I3 (f86.rdc.gInt hx69)<|Jb 1 R<|Ob h λq7 h hK87=>Jx1 (λL w'=>∃κ',L=[(0,.pointer (some ⟨b0,0,none⟩)),(1,vi p1),(2,.slice a2 p2.length u2),(9,.slice ac x19.length ad),(10,.slice ab x22.length aa),(11,.slice af s4.1.length ae),(14,vi x43),(39,.slice ax38 x38.length ux38),(40,vi (x38.length:Int)),(41,vi v41)]/\Stp [3] K77 w76 κ' w'/\Oc E6 3 κ' w' 3 ab aa q7/\x22.length=q7.length) ?_ ?_
 revert h
 cases ht93:(x69==0)
 refine JF λh=>Jy R<|Js ?_
 cases h
 exact Jw1 _ ⟨K77,R,Jj3,f86,hn70⟩<|KM R
 refine JT λh=>Jx R<|Jg3 [2,2,2,2,2,1,2,2,1,2,2] 1 R<|Jf R (i8 R R)<|Jd3 R U208 R Z108<|Jd3 R U108 R Z104<|Jd3 R U104 R Z26<|Jb3 R I26 (f83.ld 1 R R)<|Jn 1 R<|Ob h λx79 hx79 h=>Jc3 R g0_0_0_1 hx79 U26 Z29 ?_
 obtain⟨ax79,ux79,f95,hl96⟩:=(g0_0_0_1.stp (T7 S3 S8 S12 S20 S37 S65 S78) R R).gSl hx79
 refine Jb3 R I29 hl96<|Jn3 R U29 R R<|Jb 1 R ?_
 have hN97:(x79.length:Int)<=9223372036854775807:=f95.len_le
 refine Ob h λq9 hq99 hK98=>?_
 clear h
 refine Jx1 (λL w'=>∃κ',∃s10:(List Int),L=[(0,.pointer (some ⟨b0,0,none⟩)),(1,vi p1),(2,.slice a2 p2.length u2),(9,.slice ac x19.length ad),(10,.slice ab x22.length aa),(11,.slice af s4.1.length ae),(14,vi x43),(39,.slice ax38 x38.length ux38),(40,vi (x38.length:Int)),(41,vi v41)]/\Stp [3] K77 w76 κ' w'/\Oc E6 3 κ' w' 3 ab aa s10/\x22.length=s10.length/\q9=xe s10) ?_ ?_
 refine Jv<|Jy1 (λk L w'=>∃κ' v82,∃s8:(List Int),L=[(0,.pointer (some ⟨b0,0,none⟩)),(1,vi p1),(2,.slice a2 p2.length u2),(9,.slice ac x19.length ad),(10,.slice ab x22.length aa),(11,.slice af s4.1.length ae),(14,vi x43),(39,.slice ax38 x38.length ux38),(40,vi (x38.length:Int)),(41,vi v41),(80,.slice ax79 x79.length ux79),(81,vi (x79.length:Int)),(82,vi v82)]/\Stp [3] K77 w76 κ' w'/\Oc E6 3 κ' w' 3 ab aa s8/\x22.length=s8.length/\0<=v82/\xh ((x79.length:Int)-v82)=k/\cntM (cJ p2 x43 x79) k v82 s8=some q9) ⟨_,_,⟨K77,0,s4.2.2,R,Jj3,f86,hn70,(by decide),(by simp),hq99⟩,(KM R)⟩ ?_
 rintro k _ w105 ⟨K106,v82,s8,rfl,S107,f108,hn109,hj97,hJ97,h⟩
 rcases k with _ | k
 have hk110:=h;obtain⟨o97,h⟩:=bP (xe (xf s8):(List Bool)⊕(((List Int))⊕((List Int))))
 have hc97:decide (v82<(x79.length:Int))=false:=Jo2 (by omega)
 refine Je3 R<|Jq<|Jw2 R hc97<|Jc1<|Jt<|Jt ?_
 cases h
 have h:=hk110
 refine Jb1 ?_
 cases h
 exact Jw1 _ ⟨K106,s8,R,S107.wk R,f108,hn109,R⟩<|KM R
 obtain⟨o97,h,hk110⟩:=BI h;unfold cJ at h
 have hc97:decide (v82<(x79.length:Int))=true:=Jn2 (by omega)
 refine Je3 R<|Jq<|Jv2 R hc97<|Js<|Jp<|Jq<|Jv<|Je [2,1,2] R<|Ob h λx84 hx84 h=>Jc3 R f95 hx84 U29 Z2<|Jb3 R I2 ((f95.stp S107 R R).gInt hx84)<|Jb 1 R<|Jg3 [2,2,2,1] 2 R<|Ob h λx88 hx88 h=>Jc3 R g2 hx88 U193 Z4<|Jb3 R I4 ((g2.stp (T8 S3 S8 S12 S20 S37 S65 S78 S107) R R).gBool hx88)<|Jd<|Ob h λq11 h hK113=>Jx1 (λL w'=>∃κ',L=[(0,.pointer (some ⟨b0,0,none⟩)),(1,vi p1),(2,.slice a2 p2.length u2),(9,.slice ac x19.length ad),(10,.slice ab x22.length aa),(11,.slice af s4.1.length ae),(14,vi x43),(39,.slice ax38 x38.length ux38),(40,vi (x38.length:Int)),(41,vi v41),(80,.slice ax79 x79.length ux79),(81,vi (x79.length:Int)),(82,vi v82)]/\Stp [3] K106 w105 κ' w'/\Oc E6 3 κ' w' 3 ab aa q11/\x22.length=q11.length) ?_ ?_
 revert h
 cases ht119:x88
 refine JF λh=>Jy R<|Js ?_
 cases h
 exact Jw1 _ ⟨K106,R,Jj3,f108,hn109⟩<|KM R
 refine JT λh=>Jx R<|Jh3 [2,2,2,1,2,2,1] 2 R<|Ob h λx92 hx92 h=>Jf R (Jf2 f108.rdc hx92 U255 Z3 R R hn109 R)<|Jb3 R I3 (f108.rdc.gInt hx92)<|Jn 1 R<|Ob h λx95 hx95 h=>Jf R (Jf2 f108.rdc hx95 U255 Z3 R R hn109 R)<|Ob h λy380 hy380 h=>Jk1 (κ:=K106) (E:=E6) 3 [] R R R R R R R R Z3 R R R R f108 hy380 λw120 K121 S122 f123=>Tv<|?_
 have hn124:x22.length=y380.length:=hn109.trans (Jt2 hy380).2.2.2.symm
 refine Jo ?_
 cases h
 exact Jw1 _ ⟨K121,R,S122.wk R,f123,hn124⟩<|KM R
 rintro _ w114 ⟨K115,rfl,S116,f117,hn118⟩
 have h:=hK113
 refine Jz<|Jp<|Jf3 R ?_
 have hw97:t0 .i64 (v82+1)=v82+1:=wr1 hj97 (Jm2 hc97) hN97
 rw[hw97]
 have hc97:=Jm2 hc97
 cases h
 exact Jz1 λa ha=>⟨k,_,Ja3 _,⟨K115,v82+1,q11,R,(S107.tr S116).wk R,f117,hn118,by omega,by omega,hk110⟩,(ha.mm R)⟩
 rintro _ w100 ⟨K101,s10,rfl,S102,f103,hn104,rfl⟩
 have h:=yI hK98
 cases h
 exact Jw1 _ ⟨K101,R,S102.wk R,f103,hn104⟩<|KM R
 rintro _ w88 ⟨K89,rfl,S90,f91,hn92⟩
 have h:=hK87
 refine Jp<|Jg3 [2,2,2,1,2,2,1] 2 R<|Ob h λx99 hx99 h=>Jf R (Jf2 f91.rdc hx99 U255 Z3 R R hn92 R)<|Jb3 R I3 (f91.rdc.gInt hx99)<|Jn 1 R<|Ob h λx102 hx102 h=>Jf R (Jf2 f91.rdc hx102 U255 Z3 R R hn92 R)<|Ob h λy381 hy381 h=>Jk1 (κ:=K89) (E:=E6) 3 [] R R R R R R R R Z3 R R R R f91 hy381 λw125 K126 S127 f128=>Tv<|?_
 have hn129:x22.length=y381.length:=hn92.trans (Jt2 hy381).2.2.2.symm
 refine Jd<|Jg3 [2,2,2,1,2] 2 R<|Ob h λx105 hx105 h=>Jf R (Jf2 f128.rdc hx105 U255 Z3 R R hn129 R)<|Jb3 R I3 (f128.rdc.gInt hx105)<|Jb 1 R ?_
 revert h
 cases ht130:decide (0<x105)
 refine JF λh=>Jy R<|Js<|Jp<|Jg3 [2,2,2,1] 2 R<|Ob h λx110 hx110 h=>Jf R (Jf2 f67.rdc hx110 U193 Z4 R R hn68 R)<|Ob h λy382 hy382 h=>Jk1 (κ:=K126) (E:=Ep.bool) 2 [] R R R R R R R R Z4 R R R R (f67.stp (T3 S78 S90 S127) R R) hy382 λw134 K135 S136 f137=>Tv<|?_
 have hn138:x19.length=y382.length:=hn68.trans (Jt2 hy382).2.2.2.symm
 refine Jd<|Jh3 [2,2,1,1,2] 2 R<|Jn1 (κ:=K135) (E:=E6) 7 [] (parts:=[(0,.tmp 112)]) (cells:=[vi x43]) (xs:=([x43]:List Int)) R R R R R R Y29 bG R R R R R R R R R R ⟨[vi x43],[],Zl K135 w134 [],Zl K135 w134 [],R,Zl.sp (l1:=[]) (l2:=[]) R,Zl.sr (l1:=[]) (l2:=[]),R,R⟩ λaA aC w139 K140 S141 f142=>Tv<|Ob h λx114 hx114 h=>Jm1 (κ:=K140) (E:=E6) 6 [] R R R R R R R R R Y29 bG R R R R (f66.stp (T5 S78 S90 S127 S136 S141) R R) (Sl.srcP (bT _) f142.rdc) bK hx114 R λal am w144 K145 S146 f147=>Tv<|Jc 1 R<|Jz<|Jp<|Jf3 R ?_
 have hw52:t0 .i64 (v41+1)=v41+1:=wr1 hj52 (Jm2 hc52) hN52
 rw[hw52]
 have hc52:=Jm2 hc52
 cases h
 exact Jz1 λa ha=>⟨k,_,Ja3 _,⟨K145,v41+1,(x114,y382,y381),al,am,R,(T7 S65 S78 S90 S127 S136 S141 S146).wk R,f147,(f137.stp (S141.tr S146) R R),hn138,(f128.stp (T3 S136 S141 S146) R R),hn129,by omega,by omega,hk71⟩,(ha.mm R)⟩
 refine JT λh=>Jx R<|Jc1<|Jt<|Jb1<|Jp<|Jf3 R ?_
 have hw52:t0 .i64 (v41+1)=v41+1:=wr1 hj52 (Jm2 hc52) hN52
 rw[hw52]
 have hc52:=Jm2 hc52
 cases h
 exact Jz1 λa ha=>⟨k,_,Ja3 _,⟨K126,v41+1,(s4.1,s4.2.1,y381),af,ae,R,(T4 S65 S78 S90 S127).wk R,(f66.stp (T3 S78 S90 S127) R R),(f67.stp (T3 S78 S90 S127) R R),hn68,f128,hn129,by omega,by omega,hk71⟩,(ha.mm R)⟩
 refine JT λh=>Jx R<|Jc1<|Jt<|Jb1<|Jp<|Jf3 R ?_
 have hw52:t0 .i64 (v41+1)=v41+1:=wr1 hj52 (Jm2 hc52) hN52
 rw[hw52]
 have hc52:=Jm2 hc52
 cases h
 exact Jz1 λa ha=>⟨k,_,Ja3 _,⟨K77,v41+1,(s4.1,s4.2.1,s4.2.2),af,ae,R,(S65.tr S78).wk R,(f66.stp S78 R R),(f67.stp S78 R R),hn68,(f69.stp S78 R R),hn70,by omega,by omega,hk71⟩,(ha.mm R)⟩
 rintro _ w55 ⟨K56,s6,ak,aj,rfl,S57,f58,f59,hn60,f61,hn62,rfl⟩
 have h:=yI hK53
 refine Jz ?_
 cases h
 exact Jz1 λa ha=>⟨k,_,Ja3 _,⟨K56,(s6.1,s6.2.1,s6.2.2),ak,aj,R,(S37.tr S57).wk R,f58,f59,hn60,f61,hn62,hk45⟩,(ha.mm R)⟩
 rintro _ w27 ⟨K28,s3,ao,ar,rfl,S29,f30,f31,hn32,f33,hn34,rfl⟩
 have h:=yI hK25
 refine Jp<|Je3 R<|Ju<|Ja2 (l:=[.tmp 8]) V233 (Jp2 R R) R ?_
 cases h
 exact⟨K28,ac,ad,(by simp only[hn32]),(hE.stp (T5 S3 S8 S12 S20 S29) R R),f31⟩
theorem ez {a0 u0}{p0:(List Bool)}{p1:Bool}(g0:Rd Rp.bool κ w 0 a0 u0 p0){r:Bool}(h:cn p0 p1=some r):Ret Tryz.prog 234 [.slice a0 p0.length u0,.bool p1] w (Pvb κ w r):=by
 unfold cn at h
 refine Jk3 κ F234 R N234 R λhE=>Je3 R<|Jg3 [2,2,1,2,2] 2 R<|Ob h λx7 hx7 h=>Jh R R R C249 (ke (κ:=Mk κ) (Ji3 g0) hx7) ?_
 rintro _ w1 ⟨k2,rfl,e3⟩
 obtain⟨K4,S5,m6⟩:=Ji e3 2 R
 refine Tv<|Jb 2 R<|Ju<|Ja2 (l:=[.tmp 4]) V234 (Jp2 R R) R ?_
 cases h
 exact⟨K4,R,(hE.stp S5 R R)⟩
theorem nV {p0:Int}{a1 u1}{c0:(List Place)}{c1:Int}{c2:Int}{c3:Sig}{c4:Int}{b1 b2 b3 b4 b5}(g1:Rd Place.rp κ w 0 a1 u1 c0) (gb1:Bc κ w 0 b1 109 [.slice a1 c0.length u1]) (gb2:Bc κ w 0 b2 2 [vi c1]) (gb3:Bc κ w 0 b3 2 [vi c2]) (gb4:Bc κ w 0 b4 25 [vi c3.In,vi c3.Out]) (gb5:Bc κ w 0 b5 2 [vi c4]){r:Bool}(h:fY p0 c0 c1 c2 c3 c4=some r):Ret Tryz.prog 92 [vi p0,.pointer (some ⟨b1,0,none⟩),.pointer (some ⟨b2,0,none⟩),.pointer (some ⟨b3,0,none⟩),.pointer (some ⟨b4,0,none⟩),.pointer (some ⟨b5,0,none⟩)] w (Pvb κ w r):=by
 unfold fY at h
 refine Jk3 κ F92 R N92 R λhE=>Je3 R<|Jq<|Js1 (κ:=κ) [0] none [(1,2),(0,0),(2,2),(3,2),(4,0),(5,0),(6,0),(7,0),(11,0),(8,1),(9,2),(10,2),(12,2),(13,2),(14,2)] [] (by kernel_rfl) (by kernel_rfl) λw2 S1=>Jn 1 R<|Jg R (Jc2 I109 R R<|hvC ((gb1.stp S1 R R).ld 0 R R) R)<|Ob h λx10 hx10 h=>Jc3 R g1 hx10 U109 Z116<|Jd3 R U116 R Z2 ?_
 obtain⟨cse5,hre5,hle5⟩:=((g1.stp S1 R R)).gSt hx10
 obtain⟨ae5_0,ue5_0,rfl,fe5_0⟩:=Place.un hre5
 refine Jg R (Jc2 I2 R R<|hvC (λw' hw'=>hle5 w' hw' 0 _ R) R)<|Jg R (Jc2 I2 R R<|hvC ((gb2.stp S1 R R).ld 0 R R) R)<|Jg R (Jc2 I2 R R<|hvC ((gb3.stp S1 R R).ld 0 R R) R)<|Jg R (Jd2 (cs:=[vi c3.In,vi c3.Out]) I25 Z25 R R R<|haC (gb4.stp S1 R R).cells R)<|Jg R (Jc2 I2 R R<|hvC ((gb5.stp S1 R R).ld 0 R R) R)<|Ob h λx16 hx16 h=>Jh R R R C52 (fN (κ:=Mk κ) (p0:=c3) hx16) ?_
 rintro _ w10 ⟨k11,rfl,e12⟩
 obtain⟨K13,S14,m15⟩:=Ji e12 2 R
 refine⟨(S14.cl R),Jn 5 R<|Jt1<|Jd<|Ju<|Ja2 (l:=[.tmp 7]) V92 (Jp2 R R) R ?_⟩
 cases h
 exact⟨K13,R,(hE.stp (S1.tr S14) R R)⟩
end Go.Proofs.YtpcjbkgbnoocaaaGreat
