/- The walks, part 9. By program. -/
import Derived.Test.YtpcjbkgbnoocaaaGreatFns6MO
import Derived.Test.YtpcjbkgbnoocaaaGreatFns7MO
import Derived.Test.YtpcjbkgbnoocaaaGreatFns8MO
set_option linter.unusedVariables false
set_option linter.unusedSimpArgs false
open Go.IntKind renaming wrap → t0
open Sum renaming inr → xe
open Int renaming toNat → xh
namespace Go.Proofs.YtpcjbkgbnoocaaaGreat
open Go Go.Wk Go.Proofs
set_option maxRecDepth 100000
set_option maxHeartbeats 1000000
variable {w:World}{κ:Col}
theorem mE {p0:Sig}{ab ac aa ad}{p1:Clause}(g1_1:Rd (Rp.int .i64) κ w 0 ab ac p1.A) (g1_2:Rd (Rp.int .i64) κ w 0 aa ad p1.B){r:Bool}(h:iD p0 p1=some r):Ret Tryz.prog 163 [.agg #[vi p0.In,vi p0.Out],.agg #[vi p1.Kind,.slice ab p1.A.length ac,.slice aa p1.B.length ad]] w (Pvb κ w r):=by
 unfold iD at h
 refine Jk3 κ F163 R N163 R λhE=>Je [1,1,2] R<|Jf1 (κ:=κ) 2 R R R R R R R λb2 w1 K2 S3 f4=>Tv<|Jf1 (κ:=K2) 3 R R R R R R R λb3 w5 K6 S7 f8=>Tv<|Jb 1 R<|Jq<|Je [1,1,2,2,2,1,1,2,2] R ?_
 have f9:=f4.stp S7 R R
 refine Jl tv R R R R (Jd2 (cs:=[vi p0.In,vi p0.Out]) I25 Z25 R R R<|haE f9.cells)<|Ob h λx7 hx7 h=>Jh R R R C102 (kc (κ:=Mk K6) (p0:=p0) hx7) ?_
 rintro _ w10 ⟨k11,rfl,e12⟩
 obtain⟨K13,S14,m15⟩:=Ji e12 4 R
 refine Tv<|Jn 2 R<|Ob h λp14 h hK17=>Ju1 [(4,2),(5,1),(6,1),(7,2),(8,2)] [] (λL w'=>L=[(2,.pointer (some ⟨b2,0,none⟩)),(3,.pointer (some ⟨b3,0,none⟩)),(14,.bool p14)]/\∃κ',Stp [] K13 w10 κ' w') tv ?_ ?_
 revert h
 cases ht18:(!x7)
 refine JF λh=>Jd3 R U119 R Z2<|Jb3 R I2 ((f8.stp S14 R R).ld 0 R R)<|Ob h λx12 hx12 h=>Jh R R R C57 (cD (κ:=Mk K13) hx12) ?_
 rintro _ w20 ⟨k21,rfl,e22⟩
 obtain⟨K23,S24,m25⟩:=Ji e22 6 R
 refine Tv<|Jn 2 R ?_
 cases h
 exact Jv1 _ tv ⟨R,_,S24.wk R⟩<|KM R
 refine JT λh=>Jn 1 R<|Jd1 R R R R<|Jd1 R R R R<|Jn 2 R ?_
 cases h
 exact Jv1 _ tv ⟨R,_,Jj3⟩<|KM R
 rintro _ w27 _ ⟨rfl,K28,S29⟩
 have h:=hK17
 refine Jd ?_
 revert h
 cases ht30:p14
 refine JF λh=>Jy R<|Js<|Jp<|Je [1,1,2] R<|Jl tv R R R R (Jd2 (cs:=[vi p0.In,vi p0.Out]) I25 Z25 R R R<|haE (f9.stp (S14.tr S29) R R).cells)<|Ob h λx16 hx16 h=>Jh R R R C58 (eZ (κ:=Mk K28) (p0:=p0) hx16) ?_
 rintro _ w33 ⟨k34,rfl,e35⟩
 obtain⟨K36,S37,m38⟩:=Ji e35 6 R
 refine Tv<|Jb 1 R<|Je [2,1,2,1,2,2,1,2,1,2,2,2,1,1,2,2,1,2,2,2,2,2] R<|Jd3 R U119 R Z29 ?_
 have f40:=f8.stp (T3 S14 S29 S37) R R
 refine Jb3 R I29 (f40.ld 1 R R)<|Jn 1 R<|Ob h λx20 hx20 h=>Jh R R R C169 (lj (κ:=Mk K36) (Ji3<|g1_1.stp (T5 S3 S7 S14 S29 S37) R R) hx20) ?_
 rintro _ w42 ⟨k43,rfl,e44⟩
 obtain⟨K45,S46,m47⟩:=Ji e44 8 R
 refine Tv<|Jn 1 R<|Ob h λp26 h hK49=>Ju1 [(5,2),(6,1),(7,2),(8,1),(9,2)] [(10,2),(11,2),(12,1),(13,1),(14,2),(15,2),(16,1),(17,2),(18,2),(19,2),(20,2),(21,2)] (λL w'=>L=[(3,.pointer (some ⟨b3,0,none⟩)),(26,.bool p26)]/\∃κ',Stp [] K45 w42 κ' w') tv ?_ ?_
 revert h
 cases ht50:x20
 refine JF λh=>Jn 1 R<|Jd1 R R R R<|Jn 1 R<|Jd1 R R R R<|Jn 1 R ?_
 cases h
 exact Jv1 _ tv ⟨R,_,Jj3⟩<|KM R
 refine JT λh=>Jd3 R U119 R Z29<|Jb3 R I29 ((f40.stp S46 R R).ld 2 R R)<|Jn 1 R<|Ob h λx25 hx25 h=>Jh R R R C169 (lj (κ:=Mk K45) (Ji3<|g1_2.stp (T6 S3 S7 S14 S29 S37 S46) R R) hx25) ?_
 rintro _ w53 ⟨k54,rfl,e55⟩
 obtain⟨K56,S57,m58⟩:=Ji e55 10 R
 refine Tv<|Jn 1 R ?_
 cases h
 exact Jv1 _ tv ⟨R,_,S57.wk R⟩<|KM R
 rintro _ w60 _ ⟨rfl,K61,S62⟩
 have h:=hK49
 refine Jn 1 R<|Ob h λp37 h hK63=>Ju1 [(11,2),(12,1),(13,1),(14,2),(15,2),(16,1),(17,2),(18,2),(19,2),(20,2)] [(21,2)] (λL w'=>L=[(37,.bool p37)]/\∃κ',Stp [] K61 w60 κ' w') tv ?_ ?_
 revert h
 cases ht64:p26
 refine JF λh=>Jn 1 R<|Jd1 R R R R<|Jd1 R R R R<|Jn 2 R<|Jd1 R R R R<|Jn 4 R ?_
 cases h
 exact Jv1 _ tv ⟨R,_,Jj3⟩<|KM R
 refine JT λh=>Jd3 R U119 R Z2 ?_
 have f65:=f40.stp (S46.tr S62) R R
 refine Jb3 R I2 (f65.ld 0 R R)<|Ob h λx30 hx30 h=>Jh R R R C161 (qU (κ:=Mk K61) hx30) ?_
 rintro _ w66 ⟨k67,rfl,e68⟩
 obtain⟨K69,S70,m71⟩:=Ji e68 10 R
 refine Tv<|Jn 1 R<|Ob h λp36 h hK73=>Ju1 [(15,2),(16,1),(17,2),(18,2),(19,2)] [(20,2)] (λL w'=>L=[(27,.bool true),(36,.bool p36)]/\∃κ',Stp [] K69 w66 κ' w') tv ?_ ?_
 revert h
 cases ht74:x30
 refine JF λh=>Jd3 R U119 R Z29<|Jb3 R I29 ((f65.stp S70 R R).ld 2 R R)<|Jn3 R U29 R R<|Jn 2 R ?_
 cases h
 exact Jv1 _ tv ⟨R,_,Jj3⟩<|KM R
 refine JT λh=>Jn 1 R<|Jd1 R R R R<|Jn 3 R ?_
 cases h
 exact Jv1 _ tv ⟨R,_,Jj3⟩<|KM R
 rintro _ w76 _ ⟨rfl,K77,S78⟩
 have h:=hK73
 refine Jn 1 R ?_
 cases h
 exact Jv1 _ tv ⟨R,_,(S70.tr S78).wk R⟩<|KM R
 rintro _ w79 _ ⟨rfl,K80,S81⟩
 have h:=hK63
 refine Jb 1 R<|Ju<|Ja2 (l:=[.tmp 4]) V163 (Jp2 R R) R ?_
 cases h
 exact⟨K80,R,(hE.stp (T8 S3 S7 S14 S29 S37 S46 S62 S81) R R)⟩
 refine JT λh=>Jx R<|Je3 R<|Ju<|Jw<|Ja2 (l:=[.tmp 4]) V163 (Jp2 R R) R ?_
 cases h
 exact⟨K28,R,(hE.stp (T4 S3 S7 S14 S29) R R)⟩
theorem pu {a0 u0}{p0:(List Int)}{p1:Int}(g0:Rd (Rp.int .i64) κ w 0 a0 u0 p0){r:Bool}(h:mw p0 p1=some r):Ret Tryz.prog 170 [.slice a0 p0.length u0,vi p1] w (Pvb κ w r):=by
 unfold mw at h
 refine Jk3 κ F170 R N170 R λhE=>Je3 R<|Jg3 [2,1,2,2,2,1,2,2] 1 R<|Ob h λx6 hx6 h=>Jh R R R C57 (cD (κ:=Mk κ) hx6) ?_
 rintro _ w1 ⟨k2,rfl,e3⟩
 obtain⟨K4,S5,m6⟩:=Ji e3 2 R
 refine Tv<|Jn 1 R<|Ob h λp11 h hK8=>Ju1 [(3,2),(4,2),(5,1),(6,2)] [(7,2)] (λL w'=>L=[(4,.bool false),(11,.bool p11)]/\∃κ',Stp [] K4 w1 κ' w') tv ?_ ?_
 revert h
 cases ht9:x6
 refine JF λh=>Jn 2 R<|Jd1 R R R R<|Jn 1 R ?_
 cases h
 exact Jv1 _ tv ⟨R,_,Jj3⟩<|KM R
 refine JT λh=>Jn 2 R<|Ob h λx10 hx10 h=>Jh R R R C169 (lj (κ:=Mk K4) (Ji3<|g0.stp S5 R R) hx10) ?_
 rintro _ w11 ⟨k12,rfl,e13⟩
 obtain⟨K14,S15,m16⟩:=Ji e13 4 R
 refine Tv<|Jn 1 R ?_
 cases h
 exact Jv1 _ tv ⟨R,_,S15.wk R⟩<|KM R
 rintro _ w18 _ ⟨rfl,K19,S20⟩
 have h:=hK8
 refine Jb 1 R<|Ju<|Ja2 (l:=[.tmp 4]) V170 (Jp2 R R) R ?_
 cases h
 exact⟨K19,R,(hE.stp (S5.tr S20) R R)⟩
theorem pU {p0:Sig}{ah af ai ae}{p1:Det}{p2:Int}{p3:Int}(g1_0:Rd (Rp.sl (Rp.int .i64)) κ w 0 ah af p1.Next) (g1_1:Rd Pair.rp κ w 0 ai ae p1.Pairs){r:(List Int)}(h:jT p0 p1 p2 p3=some r):Ret Tryz.prog 118 [.agg #[vi p0.In,vi p0.Out],.agg #[.slice ah p1.Next.length af,.slice ai p1.Pairs.length ae],vi p2,vi p3] w (λv w'=>∃(κ':Col) (ra0:Option Addr) (ru0:Nat),v= .slice ra0 r.length ru0/\Ent κ w κ' w'/\Rd (Rp.int .i64) κ' w' 0 ra0 ru0 r):=by
 unfold jT at h
 refine Jk3 κ F118 R N118 R λhE=>Je [1,1,2] R<|Jf1 (κ:=κ) 2 R R R R R R R λb4 w1 K2 S3 f4=>Tv<|Jf1 (κ:=K2) 3 R R R R R R R λb5 w5 K6 S7 f8=>Tv<|Jb 1 R<|Je [1,2] R<|Jo1 (κ:=K6) (E:=E6) 4 R R R R R Y29 bG R λam aj w9 K10 S11 f12=>Tv<|Jb 1 R<|Jq<|Je3 R<|Ob h λq2 hq15 hK14=>?_
 clear h
 obtain⟨K16,S17,z18⟩:=ea K10 w9 4
 refine Jx1 (λL w'=>∃κ',∃s3:(List Int)×Int,∃ac aa,L=[(9,.slice ac s3.1.length aa)]/\Stp [] K16 w9 κ' w'/\Rd (Rp.int .i64) κ' w' 0 ac aa s3.1/\q2=xe s3) ?_ ?_
 refine Jv<|Jy1 (λk L w'=>∃κ',∃s1:(List Int)×Int,∃ab ad,L=[(2,vi p2),(3,vi p3),(4,.pointer (some ⟨b4,0,none⟩)),(5,.pointer (some ⟨b5,0,none⟩)),(9,.slice ab s1.1.length ad),(10,vi s1.2)]/\Stp [] K16 w9 κ' w'/\Rd (Rp.int .i64) κ' w' 0 ab ad s1.1/\bZ (gc p0 p1 p2 p3) k s1=some q2) ⟨_,_,⟨K16,((([]:List Int):(List Int)),(0:Int)),am,aj,R,Jj3,(Sl.st z18 f12.rdc),hq15⟩,(KM R)⟩ ?_
 rintro k _ w24 ⟨K25,s1,ab,ad,rfl,S26,f27,h⟩
 rcases k with _ | k
 cases h
 obtain⟨o13,h,hk28⟩:=BI h;unfold gc at h
 refine Jq<|Jg3 [2,2,1,1,2] 1 R<|Jd3 R U25 R Z2 ?_
 have f29:=f4.stp (T4 S7 S11 S17 S26) R R
 refine Jb3 R I2 (f29.ld 1 R R)<|Ob h λx15 hx15 h=>Jh R R R C59 (de (κ:=Mk K25) hx15) ?_
 rintro _ w30 ⟨k31,rfl,e32⟩
 obtain⟨K33,S34,m35⟩:=Ji e32 5 R
 refine Tv<|Jb 1 R ?_
 revert h
 cases ht37:decide (s1.2<x15)
 refine JF λh=>Jy R<|Jc1<|Jt<|Jt ?_
 cases h
 have h:=hk28
 refine Jb1 ?_
 cases h
 exact Jw1 _ ⟨K33,(s1.1,s1.2),ab,ad,R,(S26.tr S34).wk R,(f27.stp S34 R R),R⟩<|KM R
 refine JT λh=>Jx R<|Js<|Jp<|Jq<|Jv<|Js1 (κ:=K33) [0,2,3] none [(0,2),(1,2),(3,2),(7,2),(8,2),(2,0),(4,2),(5,0),(6,0),(9,1),(10,2),(11,0),(12,1),(13,2)] [] (by kernel_rfl) (by kernel_rfl) λw39 S38=>Jn 1 R<|Jd3 R U100 R Z26<|Jn 3 R<|Jg R (Jc2 I26 R R<|hvC ((f8.stp (T5 S11 S17 S26 S34 S38) R R).ld 0 R R) R)<|Ob h λx23 hx23 h=>Jc3 R g1_0 hx23 U26 Z29 ?_
 obtain⟨ax23,ux23,f42,hl43⟩:=(g1_0.stp (T7 S3 S7 S11 S17 S26 S34 S38) R R).gSl hx23
 refine Jg R (Jc2 I29 R R<|hvC hl43 R)<|Jg R (Jd2 (cs:=[vi p0.In,vi p0.Out]) I25 Z25 R R R<|haC (f29.stp (S34.tr S38) R R).cells R)<|Ob h λx28 hx28 h=>Jh R R R C55 (mI (κ:=Mk K33) (p0:=p0) hx28) ?_
 rintro _ w45 ⟨k46,rfl,e47⟩
 obtain⟨K48,S49,m50⟩:=Ji e47 7 R
 refine⟨(S49.cl R),Ob h λx29 hx29 h=>Jc3 R f42 hx29 U29 Z2<|Jg R (Jc2 I2 R R<|hvC (f42.gInt hx29) R)<|Ob h λx31 hx31 h=>Jh R R R C168 (se (κ:=λb=>mp [] 1<|K48 b) (Jl2 (f27.stp (T3 S34 S38 S49) R R) (mp [] 1) R R) hx31) ?_⟩
 rintro _ w53 ⟨k54,ak,al,rfl,e55,f56⟩
 obtain⟨K57,S58,m59,z60⟩:=Jj e55 9 R
 refine⟨((S49.tr S58).cl R),Jn 1 R<|Jt1<|Jo<|Jz<|Jp<|Jf3 R ?_⟩
 cases h
 exact Jz1 λa ha=>⟨k,_,Ja3 _,⟨K57,(x31,((IntKind.i64.wrap<|s1.2+1):Int)),ak,al,R,(T5 S26 S34 S38 S49 S58).wk R,(f56.mx z60),hk28⟩,(ha.mm R)⟩
 rintro _ w20 ⟨K21,s3,ac,aa,rfl,S22,f23,rfl⟩
 have h:=yI hK14
 refine Jp<|Je3 R<|Ju<|Ja2 (l:=[.tmp 8]) V118 (Jp2 R R) R ?_
 cases h
 exact⟨K21,ac,aa,R,(hE.stp (T5 S3 S7 S11 S17 S22) R R),f23⟩
theorem mW {ab ad ac aa}{p0:Arena}(g0_0:Rd (Rp.int .i64) κ w 0 ab ad p0.Owner) (g0_1:Rd (Rp.sl (Rp.int .i64)) κ w 0 ac aa p0.Next){r:Bool}(h:jt p0=some r):Ret Tryz.prog 119 [.agg #[.slice ab p0.Owner.length ad,.slice ac p0.Next.length aa]] w (Pvb κ w r):=by
 unfold jt at h
 refine Jk3 κ F119 R N119 R λhE=>Je [1,2] R<|Jf1 (κ:=κ) 2 R R R R R R R λb1 w1 K2 S3 f4=>Tv<|Jb 1 R<|Je [2,1,2,2] R<|Jd3 R U104 R Z29<|Jb3 R I29 (f4.ld 0 R R)<|Jn3 R U29 R R<|Jb 1 R<|Jq<|Jg3 [2,1,2,2,2,1,2,2,1,2,2,2] 1 R<|Ob h λx9 hx9 h=>Jh R R R C57 (cD (κ:=Mk K2) hx9) ?_
 rintro _ w5 ⟨k6,rfl,e7⟩
 obtain⟨K8,S9,m10⟩:=Ji e7 3 R
 refine Tv<|Jn 2 R<|Ob h λp19 h hK12=>Ju1 [(4,2),(5,1),(6,2),(7,2),(8,1),(9,2),(10,2),(11,2)] [] (λL w'=>L=[(1,.pointer (some ⟨b1,0,none⟩)),(3,vi (p0.Owner.length:Int)),(19,.bool p19)]/\∃κ',Stp [] K8 w5 κ' w') tv ?_ ?_
 revert h
 cases ht13:(!x9)
 refine JF λh=>Jd3 R U104 R Z26 ?_
 have f14:=f4.stp S9 R R
 refine Jb3 R I26 (f14.ld 1 R R)<|Jn3 R U26 R R<|Jd3 R U104 R Z29<|Jb3 R I29 (f14.ld 0 R R)<|Jn3 R U29 R R<|Jn 2 R ?_
 cases h
 exact Jv1 _ tv ⟨R,_,Jj3⟩<|KM R
 refine JT λh=>Jn 1 R<|Jd1 R R R R<|Jn 2 R<|Jd1 R R R R<|Jn 3 R ?_
 cases h
 exact Jv1 _ tv ⟨R,_,Jj3⟩<|KM R
 rintro _ w15 _ ⟨rfl,K16,S17⟩
 have h:=hK12
 refine Jd ?_
 revert h
 cases ht18:p19
 refine JF λh=>Jy R<|Js<|Jp<|Jq<|Je3 R ?_
 have hN20:(p0.Owner.length:Int)<=9223372036854775807:=g0_0.len_le
 refine Ob h λq2 hq22 hK21=>?_
 clear h
 refine Jx1 (λL w'=>∃κ',L=[]/\Stp [] K16 w15 κ' w'/\q2=xe ()) ?_ ?_
 refine Jv<|Jy1 (λk L w'=>∃κ' v4,L=[(1,.pointer (some ⟨b1,0,none⟩)),(3,vi (p0.Owner.length:Int)),(4,vi v4)]/\Stp [] K16 w15 κ' w'/\0<=v4/\xh ((p0.Owner.length:Int)-v4)=k/\cntM (g8 p0) k v4 ()=some q2) ⟨_,_,⟨K16,0,R,Jj3,(by decide),(by simp),hq22⟩,(KM R)⟩ ?_
 rintro k _ w26 ⟨K27,v4,rfl,S28,hj20,hJ20,h⟩
 rcases k with _ | k
 have hk29:=h;obtain⟨o20,h⟩:=bP (xe (Sum.inl ()):Bool⊕((Unit)⊕(Unit)))
 have hc20:decide (v4<(p0.Owner.length:Int))=false:=Jo2 (by omega)
 refine Jq<|Jg3 [2,2,1,2,2] 1 R<|Jd3 R U104 R Z29<|Jb3 R I29 ((f4.stp (T3 S9 S17 S28) R R).ld 0 R R)<|Jn3 R U29 R R<|Jb 1 R<|Jw2 R hc20<|Jc1<|Jt<|Jt ?_
 cases h
 have h:=hk29
 refine Jb1 ?_
 cases h
 exact Jw1 _ ⟨K27,R,S28.wk R,R⟩ KN
 obtain⟨o20,h,hk29⟩:=BI h;unfold g8 at h
 have hc20:decide (v4<(p0.Owner.length:Int))=true:=Jn2 (by omega)
 refine Jq<|Jg3 [2,2,1,2,2] 1 R<|Jd3 R U104 R Z29 ?_
 have f31:=f4.stp (T3 S9 S17 S28) R R
 refine Jb3 R I29 (f31.ld 0 R R)<|Jn3 R U29 R R<|Jb 1 R<|Jv2 R hc20<|Js<|Jp<|Jq<|Jv<|Je [2,1,2,2,1,1,2,2,2,1,2,2,1,2,2,2,2,2,1,2,2,1,2,2,2,2,2,1,2,2,1,2,1,2,2] R<|Jd3 R U104 R Z29<|Jb3 R I29 (f31.ld 0 R R)<|Jn 1 R<|Ob h λx30 hx30 h=>Jc3 R g0_0 hx30 U29 Z2<|Jb3 R I2 ((g0_0.stp (T4 S3 S9 S17 S28) R R).gInt hx30)<|Ob h λx32 hx32 h=>Jh R R R C57 (cD (κ:=Mk K27) hx32) ?_
 rintro _ w33 ⟨k34,rfl,e35⟩
 obtain⟨K36,S37,m38⟩:=Ji e35 5 R
 refine Tv<|Jn 2 R<|Ob h λp42 h hK40=>Ju1 [(8,2),(9,1),(10,2),(11,2),(12,1),(13,2),(14,2),(15,2)] [(16,2),(17,2),(18,1),(19,2),(20,2),(21,1),(22,2),(23,2),(24,2),(25,2),(26,2),(27,1),(28,2),(29,2),(30,1),(31,2),(32,1),(33,2),(34,2)] (λL w'=>L=[(1,.pointer (some ⟨b1,0,none⟩)),(3,vi (p0.Owner.length:Int)),(4,vi v4),(42,.bool p42)]/\∃κ',Stp [] K36 w33 κ' w') tv ?_ ?_
 revert h
 cases ht41:(!x32)
 refine JF λh=>Jd3 R U104 R Z26<|Jb3 R I26 ((f31.stp S37 R R).ld 1 R R)<|Jn 1 R<|Ob h λx38 hx38 h=>Jc3 R g0_1 hx38 U26 Z29 ?_
 obtain⟨ax38,ux38,f44,hl45⟩:=(g0_1.stp (T5 S3 S9 S17 S28 S37) R R).gSl hx38
 refine Jb3 R I29 hl45<|Jn3 R U29 R R<|Jn 2 R ?_
 cases h
 exact Jv1 _ tv ⟨R,_,Jj3⟩<|KM R
 refine JT λh=>Jn 1 R<|Jd1 R R R R<|Jn 2 R<|Jd1 R R R R<|Jn 3 R ?_
 cases h
 exact Jv1 _ tv ⟨R,_,Jj3⟩<|KM R
 rintro _ w46 _ ⟨rfl,K47,S48⟩
 have h:=hK40
 refine Jn 1 R<|Ob h λp51 h hK49=>Ju1 [(17,2),(18,1),(19,2),(20,2),(21,1),(22,2),(23,2),(24,2)] [(25,2),(26,2),(27,1),(28,2),(29,2),(30,1),(31,2),(32,1),(33,2),(34,2)] (λL w'=>L=[(1,.pointer (some ⟨b1,0,none⟩)),(3,vi (p0.Owner.length:Int)),(4,vi v4),(51,.bool p51)]/\∃κ',Stp [] K47 w46 κ' w') tv ?_ ?_
 revert h
 cases ht50:p42
 refine JF λh=>Jd3 R U104 R Z26<|Jb3 R I26 ((f31.stp (S37.tr S48) R R).ld 1 R R)<|Jn 1 R<|Ob h λx47 hx47 h=>Jc3 R g0_1 hx47 U26 Z29 ?_
 obtain⟨ax47,ux47,f53,hl54⟩:=(g0_1.stp (T6 S3 S9 S17 S28 S37 S48) R R).gSl hx47
 refine Jb3 R I29 hl54<|Jn3 R U29 R R<|Jn 2 R ?_
 cases h
 exact Jv1 _ tv ⟨R,_,Jj3⟩<|KM R
 refine JT λh=>Jn 1 R<|Jd1 R R R R<|Jn 2 R<|Jd1 R R R R<|Jn 3 R ?_
 cases h
 exact Jv1 _ tv ⟨R,_,Jj3⟩<|KM R
 rintro _ w55 _ ⟨rfl,K56,S57⟩
 have h:=hK49
 refine Jn 1 R<|Ob h λp61 h hK58=>Ju1 [(26,2),(27,1),(28,2),(29,2),(30,1),(31,2),(32,1),(33,2),(34,2)] [] (λL w'=>L=[(1,.pointer (some ⟨b1,0,none⟩)),(3,vi (p0.Owner.length:Int)),(4,vi v4),(61,.bool p61)]/\∃κ',Stp [] K56 w55 κ' w') tv ?_ ?_
 revert h
 cases ht59:p51
 refine JF λh=>Jd3 R U104 R Z26<|Jb3 R I26 ((f31.stp (T3 S37 S48 S57) R R).ld 1 R R)<|Jn 1 R<|Ob h λx56 hx56 h=>Jc3 R g0_1 hx56 U26 Z29 ?_
 obtain⟨ax56,ux56,f62,hl63⟩:=(g0_1.stp (T7 S3 S9 S17 S28 S37 S48 S57) R R).gSl hx56
 refine Jb3 R I29 hl63<|Jn 1 R<|Ob h λx59 hx59 h=>Jh R R R C169 (lj (κ:=Mk K56) (Ji3 f62) hx59) ?_
 rintro _ w64 ⟨k65,rfl,e66⟩
 obtain⟨K67,S68,m69⟩:=Ji e66 7 R
 refine Tv<|Jn 2 R ?_
 cases h
 exact Jv1 _ tv ⟨R,_,S68.wk R⟩<|KM R
 refine JT λh=>Jn 1 R<|Jd1 R R R R<|Jn 2 R<|Jd1 R R R R<|Jn 1 R<|Jd1 R R R R<|Jn 2 R ?_
 cases h
 exact Jv1 _ tv ⟨R,_,Jj3⟩<|KM R
 rintro _ w71 _ ⟨rfl,K72,S73⟩
 have h:=hK58
 refine Jd ?_
 revert h
 cases ht74:p61
 refine JF λh=>Jy R<|Js<|Jz<|Jp<|Jf3 R ?_
 have hw20:t0 .i64 (v4+1)=v4+1:=wr1 hj20 (Jm2 hc20) hN20
 rw[hw20]
 have hc20:=Jm2 hc20
 cases h
 exact Jz1 λa ha=>⟨k,_,Ja3 _,⟨K72,v4+1,R,(T5 S28 S37 S48 S57 S73).wk R,by omega,by omega,hk29⟩,(ha.mm R)⟩
 refine JT λh=>Jx R<|Je3 R<|Ju<|Ja1<|Jw<|Jw ?_
 cases h
 obtain rfl:=Option.some.inj hk29
 have h:=yL hK21
 refine Ja1<|Jq2<|Jw<|Ja2 (l:=[.tmp 2]) V119 (Jp2 R R) R ?_
 cases h
 exact⟨K72,R,(hE.stp (T8 S3 S9 S17 S28 S37 S48 S57 S73) R R)⟩
 rintro _ w23 ⟨K24,rfl,S25,rfl⟩
 have h:=yI hK21
 refine Jp<|Je3 R<|Ju<|Ja2 (l:=[.tmp 2]) V119 (Jp2 R R) R ?_
 cases h
 exact⟨K24,R,(hE.stp (T4 S3 S9 S17 S25) R R)⟩
 refine JT λh=>Jx R<|Je3 R<|Ju<|Jw<|Ja2 (l:=[.tmp 2]) V119 (Jp2 R R) R ?_
 cases h
 exact⟨K16,R,(hE.stp (T3 S3 S9 S17) R R)⟩
theorem pH (n:Nat):∀{w:World}{κ:Col}{ai am ah ak ac af al ae aj ad}{p0:l7Game}{a1 u1}{p1:(List Bool)}(g0_0:Rd (Rp.int .i64) κ w 0 ai am p0.owner) (g0_1:Rd (Rp.int .i64) κ w 0 ah ak p0.prio) (g0_2:Rd (Rp.sl (Rp.int .i64)) κ w 0 ac af p0.next) (g0_3:Rd (Rp.sl (Rp.int .i64)) κ w 0 al ae p0.prev) (g0_4:Rd (Rp.int .i64) κ w 0 aj ad p0.pick) (g1:Rd Rp.bool κ w 0 a1 u1 p1){r:(List Bool)}(h:km n p0 p1=some r),Ret Tryz.prog 213 [.agg #[.slice ai p0.owner.length am,.slice ah p0.prio.length ak,.slice ac p0.next.length af,.slice al p0.prev.length ae,.slice aj p0.pick.length ad],.slice a1 p1.length u1] w (Pvs Ep.bool 4 κ w r):=by
 induction n with
 | zero=>
  intro w κ ai am ah ak ac af al ae aj ad p0 a1 u1 p1 g0_0 g0_1 g0_2 g0_3 g0_4 g1 r h
  cases h
 | succ n ih=>
  intro w κ ai am ah ak ac af al ae aj ad p0 a1 u1 p1 g0_0 g0_1 g0_2 g0_3 g0_4 g1 r h
  have h:ip (km n) p0 p1=some r:=h
  unfold ip at h
  refine Jk3 κ F213 R N213 R λhE=>Je [1,2] R<|Jf1 (κ:=κ) 2 R R R R R R R λb2 w1 K2 S3 f4=>Tv<|Jb 1 R<|Je [1,2,1,2] R<|Jl tv R R R R (Jd2 (cs:=[.slice ai p0.owner.length am,.slice ah p0.prio.length ak,.slice ac p0.next.length af,.slice al p0.prev.length ae,.slice aj p0.pick.length ad]) I191 Z191 R R R<|haE f4.cells)<|Jn 1 R<|Ob h λx21 hx21 h=>?_
  have f5:=g0_0.stp S3 R R
  have f6:=g0_1.stp S3 R R
  have f7:=g0_2.stp S3 R R
  have f8:=g0_3.stp S3 R R
  have f9:=g0_4.stp S3 R R
  have f10:=g1.stp S3 R R
  refine Jh R R R C240 (sJ (κ:=Mk K2) (p0:=p0) (Ji3 f5) (Ji3 f6) (Ji3 f7) (Ji3 f8) (Ji3 f9) (Ji3 f10) hx21) ?_
  rintro _ w11 ⟨k12,rfl,e13⟩
  obtain⟨K14,S15,m16⟩:=Ji e13 3 R
  refine Tv<|Jb 1 R<|Jg3 [2,2,1,2] 1 R<|Jn3 R U193 R R<|Ob h λx24 hx24 h=>Jl1 (κ:=K14) (E:=Ep.bool) (z:=(false:Bool)) 5 R R R R R R R Y193 cX R R R R R (λ_ _ _=>R) (Ju2 hx24) λab aa w18 K19 S20 f21=>Tv<|Jb 1 R<|Jq<|Je3 R ?_
  revert h
  cases ht22:decide (x21<0)
  refine JF λh=>Jy R<|Js<|Jp<|Jg3 [2,2,2] 1 R<|Jf R (uZ R R R (by decide))<|Jb 1 R<|Jg3 [2,2,1,2] 1 R<|Jn3 R U193 R R<|Ob h λx32 hx32 h=>Jl1 (κ:=K19) (E:=Ep.bool) (z:=(false:Bool)) 6 R R R R R R R Y193 cX R R R R R (λ_ _ _=>R) (Ju2 hx32) λap aq w24 K25 S26 f27=>Tv<|Jb 1 R<|Jq<|Je3 R ?_
  have hN28:(p1.length:Int)<=9223372036854775807:=f10.len_le
  refine Ob h λq2 hq30 hK29=>?_
  clear h
  refine Jx1 (λL w'=>∃κ',∃s3:(List Bool),L=[(1,.slice a1 p1.length u1),(2,.pointer (some ⟨b2,0,none⟩)),(6,.slice ab x24.length aa),(7,vi<|Int.tmod x21 2),(8,.slice ap x32.length aq)]/\Stp [6] K25 w24 κ' w'/\Oc Ep.bool 4 κ' w' 6 ap aq s3/\x32.length=s3.length/\q2=xe s3) ?_ ?_
  refine Jv<|Jy1 (λk L w'=>∃κ' v9,∃s1:(List Bool),L=[(1,.slice a1 p1.length u1),(2,.pointer (some ⟨b2,0,none⟩)),(5,vi x21),(6,.slice ab x24.length aa),(7,vi<|Int.tmod x21 2),(8,.slice ap x32.length aq),(9,vi v9)]/\Stp [6] K25 w24 κ' w'/\Oc Ep.bool 4 κ' w' 6 ap aq s1/\x32.length=s1.length/\0<=v9/\xh ((p1.length:Int)-v9)=k/\cntM (jG p0 p1 x21) k v9 s1=some q2) ⟨_,_,⟨K25,0,x32,R,Jj3,f27,R,(by decide),(by simp),hq30⟩,(KM R)⟩ ?_
  rintro k _ w36 ⟨K37,v9,s1,rfl,S38,f39,hn40,hj28,hJ28,h⟩
  rcases k with _ | k
  have hk41:=h;obtain⟨o28,h⟩:=bP (xe (Sum.inl s1):(List Bool)⊕(((List Bool))⊕((List Bool))))
  have hc28:decide (v9<(p1.length:Int))=false:=Jo2 (by omega)
  refine Jq<|Jg3 [2,2,2,2] 2 R<|Jn3 R U193 R R<|Jb 1 R<|Jw2 R hc28<|Jc1<|Jt<|Jt ?_
  cases h
  have h:=hk41
  refine Jb1 ?_
  cases h
  exact Jw1 _ ⟨K37,s1,R,S38.wk R,f39,hn40,R⟩<|KM R
  obtain⟨o28,h,hk41⟩:=BI h;unfold jG at h
  have hc28:decide (v9<(p1.length:Int))=true:=Jn2 (by omega)
  refine Jq<|Jg3 [2,2,2,2] 2 R<|Jn3 R U193 R R<|Jb 1 R<|Jv2 R hc28<|Js<|Jp<|Jq<|Jv<|Jh3 [2,2,2,2,2,1,2,2,1,2,2,1,2,2,2,2,1] 4 R<|Ob h λx43 hx43 h=>Jc3 R f10 hx43 U193 Z4<|Jb3 R I4 ((f10.stp (T4 S15 S20 S26 S38) R R).gBool hx43)<|Jn 1 R<|Ob h λp53 h hK43=>Ju1 [(7,2),(8,1),(9,2),(10,2),(11,1),(12,2),(13,2),(14,2)] [(15,2),(16,1)] (λL w'=>L=[(1,.slice a1 p1.length u1),(2,.pointer (some ⟨b2,0,none⟩)),(5,vi x21),(6,.slice ab x24.length aa),(7,vi<|Int.tmod x21 2),(8,.slice ap x32.length aq),(9,vi v9),(39,.slice ap x32.length aq),(40,vi v9),(53,.bool p53)]/\∃κ',Stp [] K37 w36 κ' w') tv ?_ ?_
  revert h
  cases ht44:x43
  refine JF λh=>Jn 1 R<|Jd1 R R R R<|Jn 2 R<|Jd1 R R R R<|Jn 3 R ?_
  cases h
  exact Jv1 _ tv ⟨R,_,Jj3⟩<|KM R
  have S001:=(T4 S15 S20 S26 S38)
  refine JT λh=>Jd3 R U191 R Z29<|Jb3 R I29 ((f4.stp S001 R R).ld 1 R R)<|Jn 1 R<|Ob h λx49 hx49 h=>Jc3 R f6 hx49 U29 Z2<|Jb3 R I2 ((f6.stp S001 R R).gInt hx49)<|Jn 3 R ?_
  cases h
  exact Jv1 _ tv ⟨R,_,Jj3⟩<|KM R
  rintro _ w47 _ ⟨rfl,K48,S49⟩
  have h:=hK43
  refine Ob h λx54 hx54 h=>Jf R (Jf2 f39.rdc hx54 U193 Z4 R R hn40 R)<|Ob h λy187 hy187 h=>Jk1 (κ:=K48) (E:=Ep.bool) 6 [] R R R R R R R R Z4 R R R R (f39.stp S49 R R) hy187 λw51 K52 S53 f54=>Tv<|?_
  have hn55:x32.length=y187.length:=hn40.trans (Jt2 hy187).2.2.2.symm
  refine Jo<|Jz<|Jp<|Jf3 R ?_
  have hw28:t0 .i64 (v9+1)=v9+1:=wr1 hj28 (Jm2 hc28) hN28
  rw[hw28]
  have hc28:=Jm2 hc28
  cases h
  exact Jz1 λa ha=>⟨k,_,Ja3 _,⟨K52,v9+1,y187,R,(T3 S38 S49 S53).wk R,f54,hn55,by omega,by omega,hk41⟩,(ha.mm R)⟩
  rintro _ w31 ⟨K32,s3,rfl,S33,f34,hn35,rfl⟩
  have h:=yI hK29
  refine Jp<|Jg3 [2,1,2,2,2,1,1,2] 1 R ?_
  have f56:=f4.stp (T4 S15 S20 S26 S33) R R
  refine Jl tv R R R R (Jd2 (cs:=[.slice ai p0.owner.length am,.slice ah p0.prio.length ak,.slice ac p0.next.length af,.slice al p0.prev.length ae,.slice aj p0.pick.length ad]) I191 Z191 R R R<|haE f56.cells)<|Jn 3 R<|Ob h λx60 hx60 h=>?_
  have f57:=f5.stp (T4 S15 S20 S26 S33) R R
  have f58:=f6.stp (T4 S15 S20 S26 S33) R R
  have f59:=f7.stp (T4 S15 S20 S26 S33) R R
  have f60:=f8.stp (T4 S15 S20 S26 S33) R R
  have f61:=f9.stp (T4 S15 S20 S26 S33) R R
  have f62:=f10.stp (T4 S15 S20 S26 S33) R R
  refine Jh R R R C242 (Ret.cast (by simp only[hn35,List.cons_append,List.nil_append])<|lL (κ:=Mk K32) (p0:=p0) (Ji3 f57) (Ji3 f58) (Ji3 f59) (Ji3 f60) (Ji3 f61) (Ji3 f62) (Ji3 f34.rdc) hx60) ?_
  rintro _ w63 ⟨k64,aE,aC,rfl,e65,f66⟩
  obtain⟨K67,S68,m69⟩:=Ji e65 7 R
  refine Tv<|Ob h λx61 hx61 h=>?_
  have f72:=f62.stp S68 R R
  refine Jh R R R C241 (oc (κ:=Mk K67) (Ji3 f72) (Ji3 (f66.mx da m69 R (R:7+2=9)).rdc) hx61) ?_
  rintro _ w73 ⟨k74,av,az,rfl,e75,f76⟩
  obtain⟨K77,S78,m79⟩:=Ji e75 10 R
  refine Tv<|?_
  have f81:=f76.mx da m79 R (R:10+2=12)
  refine Jb 1 R<|Je [1,2,1,2] R ?_
  have f82:=f56.stp (S68.tr S78) R R
  refine Jl tv R R R R (Jd2 (cs:=[.slice ai p0.owner.length am,.slice ah p0.prio.length ak,.slice ac p0.next.length af,.slice al p0.prev.length ae,.slice aj p0.pick.length ad]) I191 Z191 R R R<|haE f82.cells)<|Jn 1 R<|Ob h λx64 hx64 h=>?_
  have f83:=f57.stp (S68.tr S78) R R
  have f84:=f58.stp (S68.tr S78) R R
  have f85:=f59.stp (S68.tr S78) R R
  have f86:=f60.stp (S68.tr S78) R R
  have f87:=f61.stp (S68.tr S78) R R
  refine Jh R R R C213 (ih (κ:=Mk K77) (p0:=p0) (Ji3 f83) (Ji3 f84) (Ji3 f85) (Ji3 f86) (Ji3 f87) (Ji3 f81.rdc) hx64) ?_
  rintro _ w88 ⟨k89,ay,ax,rfl,e90,f91⟩
  obtain⟨K92,S93,m94⟩:=Ji e90 13 R
  refine Tv<|?_
  have f96:=f91.mx da m94 R (R:13+2=15)
  refine Jb 1 R<|Jg3 [2,2,1,2] 1 R<|Jn3 R U193 R R<|Ob h λx67 hx67 h=>Jl1 (κ:=K92) (E:=Ep.bool) (z:=(false:Bool)) 16 R R R R R R R Y193 cX R R R R R (λ_ _ _=>R) (Ju2 hx67) λao an w97 K98 S99 f100=>Tv<|Jb 1 R<|Je3 R<|Jq<|Je3 R ?_
  have hN101:(p1.length:Int)<=9223372036854775807:=f72.len_le
  refine Ob h λq5 hq103 hK102=>?_
  clear h
  refine Jx1 (λL w'=>∃κ',∃s6:Bool×(List Bool),L=[(1,.slice a1 p1.length u1),(2,.pointer (some ⟨b2,0,none⟩)),(6,.slice ab x24.length aa),(7,vi<|Int.tmod x21 2),(12,.slice ao x67.length an),(13,.bool s6.1)]/\Stp [16] K98 w97 κ' w'/\Oc Ep.bool 4 κ' w' 16 ao an s6.2/\x67.length=s6.2.length/\q5=xe s6) ?_ ?_
  refine Jv<|Jy1 (λk L w'=>∃κ' v14,∃s4:Bool×(List Bool),L=[(1,.slice a1 p1.length u1),(2,.pointer (some ⟨b2,0,none⟩)),(6,.slice ab x24.length aa),(7,vi<|Int.tmod x21 2),(10,.slice av x61.length az),(11,.slice ay x64.length ax),(12,.slice ao x67.length an),(13,.bool s4.1),(14,vi v14)]/\Stp [16] K98 w97 κ' w'/\Oc Ep.bool 4 κ' w' 16 ao an s4.2/\x67.length=s4.2.length/\0<=v14/\xh ((p1.length:Int)-v14)=k/\cntM (iy x21 x61 x64) k v14 s4=some q5) ⟨_,_,⟨K98,0,(false,x67),R,Jj3,f100,R,(by decide),(by simp),hq103⟩,(KM R)⟩ ?_
  rintro k _ w109 ⟨K110,v14,s4,rfl,S111,f112,hn113,hj101,hJ101,h⟩
  rcases k with _ | k
  have hk114:=h;obtain⟨o101,h⟩:=bP (xe (Sum.inl s4):(List Bool)⊕((Bool×(List Bool))⊕(Bool×(List Bool))))
  have hc101:decide (v14<(p1.length:Int))=false:=Jo2 (by omega)
  refine Jq<|Jg3 [2,2,2,2] 2 R<|Jn3 R U193 R R<|Jb 1 R<|Jw2 R hc101<|Jc1<|Jt<|Jt ?_
  cases h
  have h:=hk114
  refine Jb1 ?_
  cases h
  exact Jw1 _ ⟨K110,(s4.1,s4.2),R,S111.wk R,f112,hn113,R⟩<|KM R
  obtain⟨o101,h,hk114⟩:=BI h;unfold iy at h
  have hc101:decide (v14<(p1.length:Int))=true:=Jn2 (by omega)
  refine Jq<|Jg3 [2,2,2,2] 2 R<|Jn3 R U193 R R<|Jb 1 R<|Jv2 R hc101<|Js<|Jp<|Jq<|Jv<|Jg3 [2,2,2,2,2,1,2,2,2,2,1,2,2,2,2,2,1] 4 R<|Ob h λx78 hx78 h=>Jc3 R f81.rdc hx78 U193 Z4<|Jb3 R I4 ((f81.stp (T3 S93 S99 S111) R R).rdc.gBool hx78)<|Jn 1 R<|Ob h λp88 h hK116=>Ju1 [(7,2),(8,2),(9,2),(10,1),(11,2),(12,2),(13,2),(14,2)] [(15,2),(16,1)] (λL w'=>L=[(1,.slice a1 p1.length u1),(2,.pointer (some ⟨b2,0,none⟩)),(6,.slice ab x24.length aa),(7,vi<|Int.tmod x21 2),(10,.slice av x61.length az),(11,.slice ay x64.length ax),(12,.slice ao x67.length an),(13,.bool s4.1),(14,vi v14),(74,.slice ao x67.length an),(75,vi v14),(88,.bool p88)]/\∃κ',Stp [] K110 w109 κ' w') tv ?_ ?_
  revert h
  cases ht117:x78
  refine JF λh=>Jn 3 R<|Jd1 R R R R<|Jn 4 R ?_
  cases h
  exact Jv1 _ tv ⟨R,_,Jj3⟩<|KM R
  refine JT λh=>Jn 2 R<|Ob h λx83 hx83 h=>Jc3 R f96.rdc hx83 U193 Z4<|Jb3 R I4 ((f96.stp (S99.tr S111) R R).rdc.gBool hx83)<|Jn 2 R<|Jf R (np R R U4 R)<|Jn 1 R ?_
  cases h
  exact Jv1 _ tv ⟨R,_,Jj3⟩<|KM R
  rintro _ w119 _ ⟨rfl,K120,S121⟩
  have h:=hK116
  refine Ob h λx89 hx89 h=>Jf R (Jf2 f112.rdc hx89 U193 Z4 R R hn113 R)<|Ob h λy206 hy206 h=>Jk1 (κ:=K120) (E:=Ep.bool) 16 [] R R R R R R R R Z4 R R R R (f112.stp S121 R R) hy206 λw123 K124 S125 f126=>Tv<|?_
  have hn127:x67.length=y206.length:=hn113.trans (Jt2 hy206).2.2.2.symm
  refine Jd<|Jh3 [2,2,2,2,2,1,2,2] 2 R<|Ob h λp96 h hK128=>Ju1 [(2,2),(3,2),(4,2),(5,1),(6,2)] [(7,2)] (λL w'=>L=[(1,.slice a1 p1.length u1),(2,.pointer (some ⟨b2,0,none⟩)),(6,.slice ab x24.length aa),(7,vi<|Int.tmod x21 2),(10,.slice av x61.length az),(11,.slice ay x64.length ax),(12,.slice ao x67.length an),(13,.bool s4.1),(14,vi v14),(96,.bool p96)]/\∃κ',Stp [] K124 w123 κ' w') tv ?_ ?_
  revert h
  cases ht129:s4.1
  refine JF λh=>Jn 2 R<|Ob h λx94 hx94 h=>Jf R (Jf2 f126.rdc hx94 U193 Z4 R R hn127 R)<|Jb3 R I4 (f126.rdc.gBool hx94)<|Jn 1 R ?_
  cases h
  exact Jv1 _ tv ⟨R,_,Jj3⟩<|KM R
  refine JT λh=>Jn 3 R<|Jd1 R R R R<|Jn 1 R ?_
  cases h
  exact Jv1 _ tv ⟨R,_,Jj3⟩<|KM R
  rintro _ w130 _ ⟨rfl,K131,S132⟩
  have h:=hK128
  refine Jc 1 R<|Jz<|Jp<|Jf3 R ?_
  have hw101:t0 .i64 (v14+1)=v14+1:=wr1 hj101 (Jm2 hc101) hN101
  rw[hw101]
  have hc101:=Jm2 hc101
  cases h
  exact Jz1 λa ha=>⟨k,_,Ja3 _,⟨K131,v14+1,(p96,y206),R,(T4 S111 S121 S125 S132).wk R,(f126.stp S132 R R),hn127,by omega,by omega,hk114⟩,(ha.mm R)⟩
  rintro _ w104 ⟨K105,s6,rfl,S106,f107,hn108,rfl⟩
  have h:=yI hK102
  refine Jp<|Jq<|Je3 R ?_
  revert h
  cases ht134:(!s6.1)
  refine JF λh=>Jy R<|Js<|Jp<|Je [1,2,2,2,2,1,2] R ?_
  have f163:=f82.stp (T3 S93 S99 S106) R R
  refine Jl tv R R R R (Jd2 (cs:=[.slice ai p0.owner.length am,.slice ah p0.prio.length ak,.slice ac p0.next.length af,.slice al p0.prev.length ae,.slice aj p0.pick.length ad]) I191 Z191 R R R<|haE f163.cells)<|Jn 4 R<|Ob h λx122 hx122 h=>?_
  have f164:=f83.stp (T3 S93 S99 S106) R R
  have f165:=f84.stp (T3 S93 S99 S106) R R
  have f166:=f85.stp (T3 S93 S99 S106) R R
  have f167:=f86.stp (T3 S93 S99 S106) R R
  have f168:=f87.stp (T3 S93 S99 S106) R R
  have f169:=f72.stp (T4 S78 S93 S99 S106) R R
  refine Jh R R R C242 (Ret.cast (by simp only[hn108,List.cons_append,List.nil_append])<|lL (κ:=Mk K105) (p0:=p0) (Ji3 f164) (Ji3 f165) (Ji3 f166) (Ji3 f167) (Ji3 f168) (Ji3 f169) (Ji3 f107.rdc) hx122) ?_
  rintro _ w170 ⟨k171,ar,au,rfl,e172,f173⟩
  obtain⟨K174,S175,m176⟩:=Ji e172 17 R
  refine Tv<|Jb 1 R<|Jq<|Js1 (κ:=K174) [2] none [(1,2),(2,2),(0,0),(3,1),(4,1),(5,2)] [] (by kernel_rfl) (by kernel_rfl) λw180 S179=>Jn 2 R<|Jg R (Jd2 (cs:=[.slice ai p0.owner.length am,.slice ah p0.prio.length ak,.slice ac p0.next.length af,.slice al p0.prev.length ae,.slice aj p0.pick.length ad]) I191 Z191 R R R<|haC (f163.stp (S175.tr S179) R R).cells R)<|Ob h λx126 hx126 h=>?_
  have f182:=f169.stp (S175.tr S179) R R
  have f183:=(f173.mx da m176 R (R:17+2=19)).stp S179 R R
  refine Jh R R R C241 (oc (κ:=Mk K174) (Ji3 f182) (Ji3 f183.rdc) hx126) ?_
  rintro _ w184 ⟨k185,aB,aD,rfl,e186,f187⟩
  obtain⟨K188,S189,m190⟩:=Ji e186 20 R
  have S002:=(T3 S175 S179 S189)
  refine⟨(S189.cl R),Ob h λx127 hx127 h=>Jh R R R C213 (ih (κ:=Mk K188) (p0:=p0) (Ji3<|f164.stp S002 R R) (Ji3<|f165.stp S002 R R) (Ji3<|f166.stp S002 R R) (Ji3<|f167.stp S002 R R) (Ji3<|f168.stp S002 R R) (Ji3 (f187.mx da m190 R (R:20+2=22)).rdc) hx127) ?_⟩
  rintro _ w198 ⟨k199,aw,aA,rfl,e200,f201⟩
  obtain⟨K202,S203,m204⟩:=Ji e200 23 R
  refine⟨((S189.tr S203).cl R),?_⟩
  have f206:=f201.mx da m204 R (R:23+2=25)
  refine Jn 1 R<|Jt1<|Jd<|Jq<|Je3 R ?_
  have hN207:(p1.length:Int)<=9223372036854775807:=f182.len_le
  refine Ob h λq11 hq209 hK208=>?_
  clear h
  refine Jx1 (λL w'=>∃κ',∃s12:(List Bool),L=[(6,.slice ab x24.length aa)]/\Stp [5] K202 w198 κ' w'/\Oc Ep.bool 4 κ' w' 5 ab aa s12/\x24.length=s12.length/\q11=xe s12) ?_ ?_
  refine Jv<|Jy1 (λk L w'=>∃κ' v18,∃s10:(List Bool),L=[(1,.slice a1 p1.length u1),(6,.slice ab x24.length aa),(7,vi<|Int.tmod x21 2),(16,.slice ar x122.length au),(17,.slice aw x127.length aA),(18,vi v18)]/\Stp [5] K202 w198 κ' w'/\Oc Ep.bool 4 κ' w' 5 ab aa s10/\x24.length=s10.length/\0<=v18/\xh ((p1.length:Int)-v18)=k/\cntM (jI x21 x122 x127) k v18 s10=some q11) ⟨_,_,⟨K202,0,x24,R,Jj3,(f21.stp (T11 S26 S33 S68 S78 S93 S99 S106 S175 S179 S189 S203) R R),R,(by decide),(by simp),hq209⟩,(KM R)⟩ ?_
  rintro k _ w215 ⟨K216,v18,s10,rfl,S217,f218,hn219,hj207,hJ207,h⟩
  rcases k with _ | k
  have hk221:=h;obtain⟨o207,h⟩:=bP (xe (Sum.inl s10):(List Bool)⊕(((List Bool))⊕((List Bool))))
  have hc207:decide (v18<(p1.length:Int))=false:=Jo2 (by omega)
  refine Jq<|Jg3 [2,2,2,2] 2 R<|Jn3 R U193 R R<|Jb 1 R<|Jw2 R hc207<|Jc1<|Jt<|Jt ?_
  cases h
  have h:=hk221
  refine Jb1 ?_
  cases h
  exact Jw1 _ ⟨K216,s10,R,S217.wk R,f218,hn219,R⟩<|KM R
  obtain⟨o207,h,hk221⟩:=BI h;unfold jI at h
  have hc207:decide (v18<(p1.length:Int))=true:=Jn2 (by omega)
  refine Jq<|Jg3 [2,2,2,2] 2 R<|Jn3 R U193 R R<|Jb 1 R<|Jv2 R hc207<|Js<|Jp<|Jq<|Jv<|Jh3 [2,2,2,2,2,1,2,2,2,2,1,2,2,2,2,2,2,1] 4 R<|Ob h λx138 hx138 h=>Jc3 R f206.rdc hx138 U193 Z4<|Jb3 R I4 ((f206.stp S217 R R).rdc.gBool hx138)<|Jn 1 R<|Ob h λp149 h hK223=>Ju1 [(7,2),(8,2),(9,2),(10,1),(11,2),(12,2),(13,2),(14,2),(15,2)] [(16,2),(17,1)] (λL w'=>L=[(1,.slice a1 p1.length u1),(6,.slice ab x24.length aa),(7,vi<|Int.tmod x21 2),(16,.slice ar x122.length au),(17,.slice aw x127.length aA),(18,vi v18),(134,.slice ab x24.length aa),(135,vi v18),(149,.bool p149)]/\∃κ',Stp [] K216 w215 κ' w') tv ?_ ?_
  revert h
  cases ht224:x138
  refine JF λh=>Jn 2 R<|Ob h λx143 hx143 h=>Jc3 R f183.rdc hx143 U193 Z4<|Jb3 R I4 ((f183.stp (T3 S189 S203 S217) R R).rdc.gBool hx143)<|Jn 1 R<|Ob h λp148 h hK226=>Ju1 [(12,2),(13,2),(14,2)] [(15,2)] (λL w'=>L=[(1,.slice a1 p1.length u1),(6,.slice ab x24.length aa),(7,vi<|Int.tmod x21 2),(16,.slice ar x122.length au),(17,.slice aw x127.length aA),(18,vi v18),(134,.slice ab x24.length aa),(135,vi v18),(140,.bool false),(141,.slice ar x122.length au),(142,vi v18),(143,.pointer (some<|aAt ar<|v18.toNat * 1)),(144,.bool x143),(145,.bool x143),(148,.bool p148)]/\∃κ',Stp [] K216 w215 κ' w') tv ?_ ?_
  revert h
  cases ht227:x143
  refine JF λh=>Jn 3 R ?_
  cases h
  exact Jv1 _ tv ⟨R,_,Jj3⟩<|KM R
  refine JT λh=>Jn 3 R ?_
  cases h
  exact Jv1 _ tv ⟨R,_,Jj3⟩<|KM R
  rintro _ w228 _ ⟨rfl,K229,S230⟩
  have h:=hK226
  refine Jn 1 R ?_
  cases h
  exact Jv1 _ tv ⟨R,_,S230.wk R⟩<|KM R
  refine JT λh=>Jn 3 R<|Jd1 R R R R<|Jn 5 R ?_
  cases h
  exact Jv1 _ tv ⟨R,_,Jj3⟩<|KM R
  rintro _ w231 _ ⟨rfl,K232,S233⟩
  have h:=hK223
  refine Ob h λx150 hx150 h=>Jf R (Jf2 f218.rdc hx150 U193 Z4 R R hn219 R)<|Ob h λy211 hy211 h=>Jk1 (κ:=K232) (E:=Ep.bool) 5 [] R R R R R R R R Z4 R R R R (f218.stp S233 R R) hy211 λw235 K236 S237 f238=>Tv<|?_
  have hn239:x24.length=y211.length:=hn219.trans (Jt2 hy211).2.2.2.symm
  refine Jo<|Jz<|Jp<|Jf3 R ?_
  have hw207:t0 .i64 (v18+1)=v18+1:=wr1 hj207 (Jm2 hc207) hN207
  rw[hw207]
  have hc207:=Jm2 hc207
  cases h
  exact Jz1 λa ha=>⟨k,_,Ja3 _,⟨K236,v18+1,y211,R,(T3 S217 S233 S237).wk R,f238,hn239,by omega,by omega,hk221⟩,(ha.mm R)⟩
  rintro _ w210 ⟨K211,s12,rfl,S212,f213,hn214,rfl⟩
  have h:=yI hK208
  refine Jp<|Je3 R<|Ju<|Ja2 (l:=[.tmp 4]) V213 (Jp2 R R) R ?_
  cases h
  exact⟨(λb=>ren [(5,2)]<|K211 b),ab,aa,(by simp only[hn214]),((hE.stp (T15 S3 S15 S20 S26 S33 S68 S78 S93 S99 S106 S175 S179 S189 S203 S212) R R).map (ren [(5,2)]) R R),(f213.map (ren [(5,2)]) R R)⟩
  refine JT λh=>Jx R<|Jq<|Je3 R ?_
  have hN135:(p1.length:Int)<=9223372036854775807:=f72.len_le
  refine Ob h λq8 hq137 hK136=>?_
  clear h
  refine Jx1 (λL w'=>∃κ',∃s9:(List Bool),L=[(6,.slice ab x24.length aa)]/\Stp [5] K105 w104 κ' w'/\Oc Ep.bool 4 κ' w' 5 ab aa s9/\x24.length=s9.length/\q8=xe s9) ?_ ?_
  refine Jv<|Jy1 (λk L w'=>∃κ' v15,∃s7:(List Bool),L=[(1,.slice a1 p1.length u1),(6,.slice ab x24.length aa),(7,vi<|Int.tmod x21 2),(15,vi v15)]/\Stp [5] K105 w104 κ' w'/\Oc Ep.bool 4 κ' w' 5 ab aa s7/\x24.length=s7.length/\0<=v15/\xh ((p1.length:Int)-v15)=k/\cntM (jF p1 x21) k v15 s7=some q8) ⟨_,_,⟨K105,0,x24,R,Jj3,(f21.stp (T7 S26 S33 S68 S78 S93 S99 S106) R R),R,(by decide),(by simp),hq137⟩,(KM R)⟩ ?_
  rintro k _ w143 ⟨K144,v15,s7,rfl,S145,f146,hn147,hj135,hJ135,h⟩
  rcases k with _ | k
  have hk149:=h;obtain⟨o135,h⟩:=bP (xe (Sum.inl s7):(List Bool)⊕(((List Bool))⊕((List Bool))))
  have hc135:decide (v15<(p1.length:Int))=false:=Jo2 (by omega)
  refine Jq<|Jg3 [2,2,2,2] 2 R<|Jn3 R U193 R R<|Jb 1 R<|Jw2 R hc135<|Jc1<|Jt<|Jt ?_
  cases h
  have h:=hk149
  refine Jb1 ?_
  cases h
  exact Jw1 _ ⟨K144,s7,R,S145.wk R,f146,hn147,R⟩<|KM R
  obtain⟨o135,h,hk149⟩:=BI h;unfold jF at h
  have hc135:decide (v15<(p1.length:Int))=true:=Jn2 (by omega)
  refine Jq<|Jg3 [2,2,2,2] 2 R<|Jn3 R U193 R R<|Jb 1 R<|Jv2 R hc135<|Js<|Jp<|Jq<|Jv<|Jh3 [2,2,2,2,2,1,2,2,2,2,2,1] 4 R<|Ob h λx109 hx109 h=>Jc3 R f72 hx109 U193 Z4<|Jb3 R I4 ((f72.stp (T5 S78 S93 S99 S106 S145) R R).gBool hx109)<|Jn 1 R<|Ob h λp114 h hK151=>Ju1 [(7,2),(8,2),(9,2)] [(10,2),(11,1)] (λL w'=>L=[(1,.slice a1 p1.length u1),(6,.slice ab x24.length aa),(7,vi<|Int.tmod x21 2),(15,vi v15),(105,.slice ab x24.length aa),(106,vi v15),(114,.bool p114)]/\∃κ',Stp [] K144 w143 κ' w') tv ?_ ?_
  revert h
  cases ht152:x109
  refine JF λh=>Jn 3 R ?_
  cases h
  exact Jv1 _ tv ⟨R,_,Jj3⟩<|KM R
  refine JT λh=>Jn 3 R ?_
  cases h
  exact Jv1 _ tv ⟨R,_,Jj3⟩<|KM R
  rintro _ w153 _ ⟨rfl,K154,S155⟩
  have h:=hK151
  refine Ob h λx115 hx115 h=>Jf R (Jf2 f146.rdc hx115 U193 Z4 R R hn147 R)<|Ob h λy207 hy207 h=>Jk1 (κ:=K154) (E:=Ep.bool) 5 [] R R R R R R R R Z4 R R R R (f146.stp S155 R R) hy207 λw157 K158 S159 f160=>Tv<|?_
  have hn161:x24.length=y207.length:=hn147.trans (Jt2 hy207).2.2.2.symm
  refine Jo<|Jz<|Jp<|Jf3 R ?_
  have hw135:t0 .i64 (v15+1)=v15+1:=wr1 hj135 (Jm2 hc135) hN135
  rw[hw135]
  have hc135:=Jm2 hc135
  cases h
  exact Jz1 λa ha=>⟨k,_,Ja3 _,⟨K158,v15+1,y207,R,(T3 S145 S155 S159).wk R,f160,hn161,by omega,by omega,hk149⟩,(ha.mm R)⟩
  rintro _ w138 ⟨K139,s9,rfl,S140,f141,hn142,rfl⟩
  have h:=yI hK136
  refine Jp<|Je3 R<|Ju<|Jw<|Ja2 (l:=[.tmp 4]) V213 (Jp2 R R) R ?_
  cases h
  exact⟨(λb=>ren [(5,2)]<|K139 b),ab,aa,(by simp only[hn142]),((hE.stp (T11 S3 S15 S20 S26 S33 S68 S78 S93 S99 S106 S140) R R).map (ren [(5,2)]) R R),(f141.map (ren [(5,2)]) R R)⟩
  refine JT λh=>Jx R<|Je3 R<|Ju<|Jw<|Ja2 (l:=[.tmp 4]) V213 (Jp2 R R) R ?_
  cases h
  exact⟨(λb=>ren [(5,2)]<|K19 b),ab,aa,R,((hE.stp (T3 S3 S15 S20) R R).map (ren [(5,2)]) R R),(f21.map (ren [(5,2)]) R R)⟩
theorem c8 {a0 u0}{p0:(List Clause)}{c1_0:Sig}{b1_0}(g0:Rd Clause.rp κ w 0 a0 u0 p0) (gb1_0:Bc κ w 0 b1_0 25 [vi c1_0.In,vi c1_0.Out]){r:Int}(h:bU p0 c1_0=some r):Ret Tryz.prog 216 [.slice a0 p0.length u0,.func (.func 179) #[] #[.pointer (some ⟨b1_0,0,none⟩)]] w (Pvi κ w r):=by
 unfold bU at h
 refine Jk3 κ F216 R N216 R λhE=>Je3 R<|Jq<|Jg3 [2,2,2] 1 R<|Jn3 R U49 R R<|Jb 1 R ?_
 have hN1:(p0.length:Int)<=9223372036854775807:=g0.len_le
 refine Ob h λq2 hq3 hK2=>?_
 clear h
 refine Jx1 (λL w'=>∃κ',L=[(1,.func (.func 179) #[] #[.pointer (some ⟨b1_0,0,none⟩)])]/\Stp [] κ w κ' w'/\q2=xe ()) ?_ ?_
 refine Jv<|Jy1 (λk L w'=>∃κ' v8,L=[(0,.slice a0 p0.length u0),(1,.func (.func 179) #[] #[.pointer (some ⟨b1_0,0,none⟩)]),(7,vi (p0.length:Int)),(8,vi v8)]/\Stp [] κ w κ' w'/\0<=v8/\xh ((p0.length:Int)-v8)=k/\cntM (bR p0 c1_0) k v8 ()=some q2) ⟨_,_,⟨κ,0,R,Jj3,(by decide),(by simp),hq3⟩,(KM R)⟩ ?_
 rintro k _ w7 ⟨K8,v8,rfl,S9,hj1,hJ1,h⟩
 rcases k with _ | k
 have hk10:=h;obtain⟨o1,h⟩:=bP (xe (Sum.inl ()):Int⊕((Unit)⊕(Unit)))
 have hc1:decide (v8<(p0.length:Int))=false:=Jo2 (by omega)
 refine Je3 R<|Jq<|Jw2 R hc1<|Jc1<|Jt<|Jt ?_
 cases h
 have h:=hk10
 refine Jb1 ?_
 cases h
 exact Jw1 _ ⟨K8,R,S9.wk R,R⟩<|KM R
 obtain⟨o1,h,hk10⟩:=BI h;unfold bR at h
 have hc1:decide (v8<(p0.length:Int))=true:=Jn2 (by omega)
 refine Je3 R<|Jq<|Jv2 R hc1<|Js<|Jp<|Jq<|Jv<|Je3 R<|Jg3 [2,2,2,2,1,1] 3 R<|Ob h λx14 hx14 h=>Jc3 R g0 hx14 U49 Z119 ?_
 obtain⟨cse12,hre12,hle12⟩:=((g0.stp S9 R R)).gSt hx14
 obtain⟨ae12_0,ue12_0,ae12_1,ue12_1,rfl,fe12_0,fe12_1⟩:=Clause.un hre12
 refine Jl tv R R R R (Jd2 (cs:=[vi x14.Kind,.slice ae12_0 x14.A.length ue12_0,.slice ae12_1 x14.B.length ue12_1]) I119 Z119 R R R<|haE hle12)<|Ob h λx16 hx16 h=>WO.callV R R R R R R R R C179 (nB (κ:=Mk K8) (p0:=x14) (c0:=c1_0) (Ji3 fe12_0) (Ji3 fe12_1) ((gb1_0.stp S9 R R).map (mp [] 0) R R) hx16) ?_
 rintro _ w14 ⟨k15,rfl,e16⟩
 obtain⟨K17,S18,m19⟩:=Ji e16 2 R
 refine Tv<|Jd ?_
 revert h
 cases ht21:x16
 refine JF λh=>Jy R<|Js<|Jz<|Jp<|Jf3 R ?_
 have hw1:t0 .i64 (v8+1)=v8+1:=wr1 hj1 (Jm2 hc1) hN1
 rw[hw1]
 have hc1:=Jm2 hc1
 cases h
 exact Jz1 λa ha=>⟨k,_,Ja3 _,⟨K17,v8+1,R,(S9.tr S18).wk R,by omega,by omega,hk10⟩,(ha.mm R)⟩
 refine JT λh=>Jx R<|Je3 R<|Ju<|Ja1<|Jw<|Jw ?_
 cases h
 obtain rfl:=Option.some.inj hk10
 have h:=yL hK2
 refine Ja1<|Jq2<|Jw<|Ja2 (l:=[.tmp 4]) V216 (Jp2 R R) R ?_
 cases h
 exact⟨K17,R,(hE.stp (S9.tr S18) R R)⟩
 rintro _ w4 ⟨K5,rfl,S6,rfl⟩
 have h:=yI hK2
 refine Jp<|Je3 R<|Ju<|Ja2 (l:=[.tmp 4]) V216 (Jp2 R R) R ?_
 cases h
 exact⟨K5,R,(hE.stp S6 R R)⟩
theorem ov {ab aa}{p0:Place}{a1 u1}{c0:(List Pair)}{b1}(g0_1:Rd (Rp.int .i64) κ w 0 ab aa p0.Record) (g1:Rd Pair.rp κ w 0 a1 u1 c0) (gb1:Bc κ w 0 b1 98 [.slice a1 c0.length u1]){r:(List Int)}(h:gH p0 c0=some r):Ret Tryz.prog 137 [.agg #[vi p0.At,.slice ab p0.Record.length aa],.pointer (some ⟨b1,0,none⟩)] w (Pvs E6 2 κ w r):=by
 unfold gH at h
 refine Jk3 κ F137 R N137 R λhE=>Je [1,2] R<|Jf1 (κ:=κ) 2 R R R R R R R λb2 w1 K2 S3 f4=>Tv<|Jb 1 R<|Je [1,2,1,2,1,1,2] R<|Jb3 R I98 ((gb1.stp S3 R R).ld 0 R R)<|Jd3 R U116 R Z29<|Jb3 R I29 (f4.ld 1 R R)<|Jd3 R U116 R Z2<|Jb3 R I2 (f4.ld 0 R R)<|Ob h λx9 hx9 h=>Jh R R R C138 (oo (κ:=Mk K2) (Ji3<|g1.stp S3 R R) (Ji3<|g0_1.stp S3 R R) hx9) ?_
 rintro _ w8 ⟨k9,ac,ad,rfl,e10,f11⟩
 obtain⟨K12,S13,m14⟩:=Ji e10 3 R
 refine Tv<|Jb 1 R<|Ju<|Ja2 (l:=[.tmp 3]) V137 (Jp2 R R) R ?_
 cases h
 exact⟨(λb=>ren [(5,2)]<|K12 b),ac,ad,R,((hE.stp (S3.tr S13) R R).map (ren [(5,2)]) R R),((f11.mx (bI _) m14 R (R:3+2=5)).map (ren [(5,2)]) R R)⟩
theorem qI {a0 u0}{p0:(List Place)}{p1:Int}{a2 u2}{p2:(List Int)}(g0:Rd Place.rp κ w 0 a0 u0 p0) (g2:Rd (Rp.int .i64) κ w 0 a2 u2 p2){r:Int}(h:kz p0 p1 p2=some r):Ret Tryz.prog 185 [.slice a0 p0.length u0,vi p1,.slice a2 p2.length u2] w (Pvi κ w r):=by
 unfold kz at h
 refine Jk3 κ F185 R N185 R λhE=>Je [1,1,2] R<|Jf1 (κ:=κ) 2 R R R R R R R λb4 w1 K2 S3 f4=>Tv<|Jf1 (κ:=K2) 3 R R R R R R R λb5 w5 K6 S7 f8=>Tv<|Jb 1 R<|Jg3 [2,2,1,2] 1 R<|Jf R (gD (first:=[]) (captured:=[.tmp 4,.tmp 5]) R R R ⟨_,R⟩)<|Ob h λx9 hx9 h=>Jh R R R C230 (du (κ:=Mk K6) (Ji3<|g0.stp (S3.tr S7) R R) (Ji3<|g2.stp (S3.tr S7) R R) ((f4.stp S7 R R).map (mp [] 0) R R) (f8.map (mp [] 0) R R) hx9) ?_
 rintro _ w12 ⟨k13,rfl,e14⟩
 obtain⟨K15,S16,m17⟩:=Ji e14 4 R
 refine Tv<|Jb 1 R<|Ju<|Ja2 (l:=[.tmp 6]) V185 (Jp2 R R) R ?_
 cases h
 exact⟨K15,R,(hE.stp (T3 S3 S7 S16) R R)⟩
theorem oh {ab aa}{p0:Place}{a1 u1}{c0:(List Pair)}{b1}(g0_1:Rd (Rp.int .i64) κ w 0 ab aa p0.Record) (g1:Rd Pair.rp κ w 0 a1 u1 c0) (gb1:Bc κ w 0 b1 98 [.slice a1 c0.length u1]){r:Int}(h:hU p0 c0=some r):Ret Tryz.prog 139 [.agg #[vi p0.At,.slice ab p0.Record.length aa],.pointer (some ⟨b1,0,none⟩)] w (Pvi κ w r):=by
 unfold hU at h
 refine Jk3 κ F139 R N139 R λhE=>Je [1,2] R<|Jf1 (κ:=κ) 2 R R R R R R R λb2 w1 K2 S3 f4=>Tv<|Jb 1 R<|Je [1,2,1,2,1,1,2] R<|Jb3 R I98 ((gb1.stp S3 R R).ld 0 R R)<|Jd3 R U116 R Z29<|Jb3 R I29 (f4.ld 1 R R)<|Jd3 R U116 R Z2<|Jb3 R I2 (f4.ld 0 R R)<|Ob h λx9 hx9 h=>Jh R R R C140 (oC (κ:=Mk K2) (Ji3<|g1.stp S3 R R) (Ji3<|g0_1.stp S3 R R) hx9) ?_
 rintro _ w8 ⟨k9,rfl,e10⟩
 obtain⟨K11,S12,m13⟩:=Ji e10 3 R
 refine Tv<|Jb 1 R<|Ju<|Ja2 (l:=[.tmp 3]) V139 (Jp2 R R) R ?_
 cases h
 exact⟨K11,R,(hE.stp (S3.tr S12) R R)⟩
theorem pe {ad ab ac aa ae af}{p0:Parity}{a1 u1}{p1:(List Int)}(g0_0_0:Rd (Rp.int .i64) κ w 0 ad ab p0.Arena.Owner) (g0_0_1:Rd (Rp.sl (Rp.int .i64)) κ w 0 ac aa p0.Arena.Next) (g0_1:Rd (Rp.int .i64) κ w 0 ae af p0.Prio) (g1:Rd (Rp.int .i64) κ w 0 a1 u1 p1){r:(List Int)×(List Int)}(h:mr p0 p1=some r):Ret Tryz.prog 141 [.agg #[.slice ad p0.Arena.Owner.length ab,.slice ac p0.Arena.Next.length aa,.slice ae p0.Prio.length af],.slice a1 p1.length u1] w (λv w'=>∃(κ':Col) (ra0:Option Addr) (ru0:Nat) (ra1:Option Addr) (ru1:Nat),v= .tuple #[.slice ra0 r.1.length ru0,.slice ra1 r.2.length ru1]/\Ent κ w κ' w'/\Oc E6 2 κ' w' 2 ra0 ru0 r.1/\Oc E6 2 κ' w' 3 ra1 ru1 r.2):=by
 unfold mr at h
 refine Jk3 κ F141 R N141 R λhE=>Je [1,2,2] R<|Jf1 (κ:=κ) 2 R R R R R R R λb2 w1 K2 S3 f4=>Tv<|Jb 2 R<|Jq<|Js1 (κ:=K2) [2] none [(1,2),(0,0),(2,0),(3,1),(4,2),(5,1),(6,2)] [] (by kernel_rfl) (by kernel_rfl) λw6 S5=>Jd3 R U108 R Z104 ?_
 have f7:=f4.stp S5 R R
 refine Jg R (Jd2 (cs:=[.slice ad p0.Arena.Owner.length ab,.slice ac p0.Arena.Next.length aa,.slice ae p0.Prio.length af]) I108 Z108 R R R<|haC f7.cells R)<|Jg R (Jd2 (cs:=[.slice ad p0.Arena.Owner.length ab,.slice ac p0.Arena.Next.length aa]) I104 Z104 R R R<|haC (f7.lds 0 2 R) R)<|Ob h λx13 hx13 h=>?_
 have f8:=g0_0_0.stp (S3.tr S5) R R
 have f9:=g0_0_1.stp (S3.tr S5) R R
 refine Jh R R R C187 (qF (κ:=Mk K2) (p0:=p0.Arena) (Ji3 f8) (Ji3 f9) hx13) ?_
 rintro _ w10 ⟨k11,ak,ah,rfl,e12,f13⟩
 obtain⟨K14,S15,m16⟩:=Ji e12 3 R
 refine⟨(S15.cl R),Jf R (bJ (parts:=[(0,.tmp 10),(1,.tmp 13)]) (cells:=[.slice ad p0.Arena.Owner.length ab,.slice ac p0.Arena.Next.length aa,.slice ae p0.Prio.length af,.slice ak x13.length ah]) R R (by kernel_rfl))<|Jf1 (κ:=K14) 6 R R R R R R R λb15 w19 K20 S21 f22=>⟨((S15.tr S21).cl R),Jn 1 R<|Jt1<|Jd<|Je [2,1,2,1,2] R<|Jd3 R U108 R Z104<|Jl tv R R R R (Jd2 (cs:=[.slice ad p0.Arena.Owner.length ab,.slice ac p0.Arena.Next.length aa]) I104 Z104 R R R<|haE ((f7.stp (S15.tr S21) R R).lds 0 2 R))<|Jn 1 R<|Ob h λx19 hx19 h=>?_⟩⟩
 have f24:=f8.stp (S15.tr S21) R R
 have f25:=f9.stp (S15.tr S21) R R
 refine Jh R R R C188 (sF (κ:=Mk K20) (p0:=p0.Arena) (Ji3 f24) (Ji3 f25) (Ji3<|g1.stp (T4 S3 S5 S15 S21) R R) hx19) ?_
 rintro _ w27 ⟨k28,az,au,rfl,e29,f30⟩
 obtain⟨K31,S32,m33⟩:=Ji e29 7 R
 refine Tv<|Jb 1 R<|Jg3 [2,2,1,2,2,2,2,2] 2 R ?_
 obtain⟨K37,S38,z39⟩:=ea K31 w27 5
 obtain⟨K42,S43,z44⟩:=ea K37 w27 9
 obtain⟨K47,S48,z49⟩:=ea K42 w27 6
 refine Ob h λx23 hx23 h=>?_
 have f55:=(Sl.st z44 ((f30.mx da m33 R (R:7+2=9)).stp S38 R R).rdc).stp S48 R R
 have S001:=(T3 S32 S38 S43)
 refine Jh R R R C189 (oz _ (κ:=λb=>mp [] 1<|K47 b) (p0:=(⟨p0,x13⟩:solver)) (Jl2 (f24.stp (S001.tr S48) R R) (mp [] 1) R R) (Jl2 (f25.stp (S001.tr S48) R R) (mp [] 1) R R) (Jl2 (g0_1.stp (T8 S3 S5 S15 S21 S32 S38 S43 S48) R R) (mp [] 1) R R) (Jl2 ((Sl.st z39 ((f13.mx (cm (bI _) _) m16 R (R:3+2=5)).stp (S21.tr S32) R R).rdc).stp (S43.tr S48) R R) (mp [] 1) R R) (Jl2 f55 (mp [] 1) R R) ((Bc.fzz z49<|f22.stp S001 R R).map (mp [] 1) R R) hx23) ?_
 rintro _ w56 ⟨k57,av,ax,rfl,e58,f59⟩
 obtain⟨K60,S61,m62,z63⟩:=Jj e58 10 R
 refine Tv<|?_
 have f64:=f59.mx z63
 refine Jb 5 R<|Jq<|Je3 R ?_
 revert h
 cases ht65:(x23.2==0)
 refine JF λh=>Jy R<|Js<|Jp<|Jg3 [2,2,1,1,2,1,2,2] 2 R<|Ob h λx36 hx36 h=>Jh R R R C191 (gR (κ:=Mk K60) (Ji3<|f55.stp S61 R R) (Ji3 f64) hx36) ?_
 rintro _ w98 ⟨k99,ar,ay,rfl,e100,f101⟩
 obtain⟨K102,S103,m104⟩:=Ji e100 13 R
 refine Tv<|Ob h λx37 hx37 h=>Jh R R R C190 (gx (κ:=Mk K102) (Ji3 (f101.mx da m104 R (R:13+2=15)).rdc) hx37) ?_
 rintro _ w107 ⟨k108,aq,al,rfl,e109,f110⟩
 obtain⟨K111,S112,m113⟩:=Ji e109 16 R
 refine Tv<|Jn 1 R<|Ob h λx39 hx39 h=>Jh R R R C190 (gx (κ:=Mk K111) (Ji3<|f64.stp (S103.tr S112) R R) hx39) ?_
 rintro _ w117 ⟨k118,am,aj,rfl,e119,f120⟩
 obtain⟨K121,S122,m123⟩:=Ji e119 19 R
 refine Tv<|Jb 2 R<|Ju<|Ja2 (l:=[.tmp 4,.tmp 5]) V141 (Jp2 R<|Jp2 R R) R ?_
 cases h
 exact⟨(λb=>ren [(18,2),(21,3)]<|K121 b),aq,al,am,aj,R,((hE.stp (T12 S3 S5 S15 S21 S32 S38 S43 S48 S61 S103 S112 S122) R R).map (ren [(18,2),(21,3)]) R R),(((f110.mx (bI _) m113 R (R:16+2=18)).stp S122 R R).map (ren [(18,2),(21,3)]) R R),((f120.mx (bI _) m123 R (R:19+2=21)).map (ren [(18,2),(21,3)]) R R)⟩
 refine JT λh=>Jx R<|Jg3 [2,1,2,2,1,1,2,2] 1 R<|Ob h λx29 hx29 h=>Jh R R R C190 (gx (κ:=Mk K60) (Ji3 f64) hx29) ?_
 rintro _ w66 ⟨k67,ao,ap,rfl,e68,f69⟩
 obtain⟨K70,S71,m72⟩:=Ji e68 13 R
 refine Tv<|Jn 2 R<|Ob h λx32 hx32 h=>Jh R R R C191 (gR (κ:=Mk K70) (Ji3<|f55.stp (S61.tr S71) R R) (Ji3<|f64.stp S71 R R) hx32) ?_
 rintro _ w77 ⟨k78,aA,aw,rfl,e79,f80⟩
 obtain⟨K81,S82,m83⟩:=Ji e79 16 R
 refine Tv<|Ob h λx33 hx33 h=>Jh R R R C190 (gx (κ:=Mk K81) (Ji3 (f80.mx da m83 R (R:16+2=18)).rdc) hx33) ?_
 rintro _ w86 ⟨k87,ai,an,rfl,e88,f89⟩
 obtain⟨K90,S91,m92⟩:=Ji e88 19 R
 refine Tv<|Jb 2 R<|Ju<|Jw<|Ja2 (l:=[.tmp 4,.tmp 5]) V141 (Jp2 R<|Jp2 R R) R ?_
 cases h
 exact⟨(λb=>ren [(15,2),(21,3)]<|K90 b),ao,ap,ai,an,R,((hE.stp (T12 S3 S5 S15 S21 S32 S38 S43 S48 S61 S71 S82 S91) R R).map (ren [(15,2),(21,3)]) R R),(((f69.mx (bI _) m72 R (R:13+2=15)).stp (S82.tr S91) R R).map (ren [(15,2),(21,3)]) R R),((f89.mx (bI _) m92 R (R:19+2=21)).map (ren [(15,2),(21,3)]) R R)⟩
theorem sq {aq ao ap an ar au}{p0:Parity}{a1 u1}{p1:(List Int)}(g0_0_0:Rd (Rp.int .i64) κ w 0 aq ao p0.Arena.Owner) (g0_0_1:Rd (Rp.sl (Rp.int .i64)) κ w 0 ap an p0.Arena.Next) (g0_1:Rd (Rp.int .i64) κ w 0 ar au p0.Prio) (g1:Rd (Rp.int .i64) κ w 0 a1 u1 p1){r:Parity}(h:lK p0 p1=some r):Ret Tryz.prog 196 [.agg #[.slice aq p0.Arena.Owner.length ao,.slice ap p0.Arena.Next.length an,.slice ar p0.Prio.length au],.slice a1 p1.length u1] w (λv w'=>∃(κ':Col) (ra0:Option Addr) (ru0:Nat) (ra1:Option Addr) (ru1:Nat) (ra2:Option Addr) (ru2:Nat),v= .agg #[.slice ra0 r.Arena.Owner.length ru0,.slice ra1 r.Arena.Next.length ru1,.slice ra2 r.Prio.length ru2]/\Ent κ w κ' w'/\Oc E6 2 κ' w' 2 ra0 ru0 r.Arena.Owner/\Oc (Ep.own E6 2) 29 κ' w' 3 ra1 ru1 r.Arena.Next/\Oc E6 2 κ' w' 4 ra2 ru2 r.Prio):=by
 unfold lK at h
 refine Jk3 κ F196 R N196 R λhE=>Je [1,1] R<|Jf1 (κ:=κ) 2 R R R R R R R λb2 w1 K2 S3 f4=>Tv<|Jg1 (κ:=K2) 3 R R R R R X108 R λb4 w5 K6 S7 f8=>Tv<|Jd<|Jq<|Ob h λx8 hx8 h=>Ob h λx12 hx12 h=>Jx1 (λL w'=>∃κ' am ah al ak ai aj,L=[(4,.pointer (some ⟨b4,0,none⟩))]/\Stp [3,4,6,7,8] K6 w5 κ' w'/\Oc E6 2 κ' w' 4 am ah x8.Owner/\Oc (Ep.own E6 2) 29 κ' w' 5 al ak x8.Next/\Oc E6 2 κ' w' 6 ai aj x12/\Bc κ' w' 3 b4 108 [.slice am x8.Owner.length ah,.slice al x8.Next.length ak,.slice ai x12.length aj]) ?_ ?_
 refine WC.rxt (κ:=K6) [2] none (by kernel_rfl) λw17 S18=>Jq1 (fuel:=5) [(0,2),(2,2),(5,2),(1,0),(6,0)] (by kernel_rfl) (by kernel_rfl) R<|Jd3 R U108 R Z104<|Jn 1 R<|Jd3 R U108 R Z29 ?_
 have f19:=f4.stp (S7.tr S18) R R
 refine Jg R (Jd2 (cs:=[.slice aq p0.Arena.Owner.length ao,.slice ap p0.Arena.Next.length an]) I104 Z104 R R R<|haC (f19.lds 0 2 R) R)<|Jg R (Jc2 I29 R R<|hvC (f19.ld 2 R R) R)<|Jp1<|WA.fork2 (fuel:=4) 3 4 (by kernel_rfl) R ?_ ?_
 have S001:=(T3 S3 S7 S18)
 refine Jh R R R C235 (nF (κ:=Mk K6) (p0:=p0.Arena) (Ji3<|g0_0_0.stp S001 R R) (Ji3<|g0_0_1.stp S001 R R) (Ji3<|g1.stp S001 R R) hx8) ?_
 rintro _ w23 ⟨k24,ab,aa,af,ad,rfl,e25,f26,f27⟩
 obtain⟨K28,S29,m30⟩:=Ji e25 4 R
 exact⟨(S29.cl R),Jp1<|Jq1 (fuel:=0) [(4,1),(7,1),(8,2),(9,1)] (by kernel_rfl) (by kernel_rfl) R<|Jo1 (κ:=K28) (E:=E6) 8 R R R R R Y29 bG R λa9 u9 w34 K35 S36 f37=>⟨((S29.tr S36).cl R),Jm1 (κ:=K35) (E:=E6) 8 [] R R R R R R R R R Y29 bG R R R R f37 (Sl.srcP (bT _)<|g0_1.stp (T5 S3 S7 S18 S29 S36) R R) bK hx12 R λae ac w39 K40 S41 f42=>⟨((T3 S29 S36 S41).cl R),Jf R (bJ (parts:=[(0,.tmp 8),(1,.tmp 12)]) (cells:=[.slice ab x8.Owner.length aa,.slice af x8.Next.length ad,.slice ae x12.length ac]) R R (by kernel_rfl))<|Jj1 (κ:=K40) 3 (vc:=[.slice ab x8.Owner.length aa,.slice af x8.Next.length ad,.slice ae x12.length ac]) R R R R R R R Z108 R R (f8.stp (T4 S18 S29 S36 S41) R R) R λw44 S45 f46=>⟨((T4 S29 S36 S41 S45).cl R),Jp1<|Jr1 [] (by kernel_rfl) (by kernel_rfl) R<|Jo<|Jw1 _ ⟨(λb=>ren [(6,4),(7,5),(8,6)]<|K40 b),ab,aa,af,ad,ae,ac,R,(Jy2 ((T5 S18 S29 S36 S41 S45).wk R) [(6,4),(7,5),(8,6)] R),(((f26.mx (bI _) m30 R (R:4+2=6)).stp (T3 S36 S41 S45) R R).map (ren [(6,4),(7,5),(8,6)]) R R),(((f27.mx (cm (bI _) _) m30 R (R:4+3=7)).stp (T3 S36 S41 S45) R R).map (ren [(6,4),(7,5),(8,6)]) R R),((f42.stp S45 R R).map (ren [(6,4),(7,5),(8,6)]) R R),(f46.map (ren [(6,4),(7,5),(8,6)]) R R)⟩<|KM R⟩⟩⟩⟩
 have S002:=(T3 S3 S7 S18)
 refine Jo1 (κ:=K6) (E:=E6) 4 R R R R R Y29 bG R λa9 u9 w50 K51 S52 f53=>⟨(S52.cl R),Jp1<|Jq1 (fuel:=0) [(3,1),(7,1),(8,2),(9,1)] (by kernel_rfl) (by kernel_rfl) R<|Jh R R R C235 (nF (κ:=Mk K51) (p0:=p0.Arena) (Ji3<|g0_0_0.stp (S002.tr S52) R R) (Ji3<|g0_0_1.stp (S002.tr S52) R R) (Ji3<|g1.stp (S002.tr S52) R R) hx8) ?_⟩
 rintro _ w57 ⟨k58,ab,aa,af,ad,rfl,e59,f60,f61⟩
 obtain⟨K62,S63,m64⟩:=Ji e59 5 R
 exact⟨((S52.tr S63).cl R),Jm1 (κ:=K62) (E:=E6) 4 [] R R R R R R R R R Y29 bG R R R R (f53.stp S63 R R) (Sl.srcP (bT _)<|g0_1.stp (T5 S3 S7 S18 S52 S63) R R) bK hx12 R λae ac w70 K71 S72 f73=>⟨((T3 S52 S63 S72).cl R),Jf R (bJ (parts:=[(0,.tmp 8),(1,.tmp 12)]) (cells:=[.slice ab x8.Owner.length aa,.slice af x8.Next.length ad,.slice ae x12.length ac]) R R (by kernel_rfl))<|Jj1 (κ:=K71) 3 (vc:=[.slice ab x8.Owner.length aa,.slice af x8.Next.length ad,.slice ae x12.length ac]) R R R R R R R Z108 R R (f8.stp (T4 S18 S52 S63 S72) R R) R λw75 S76 f77=>⟨((T4 S52 S63 S72 S76).cl R),Jp1<|Jr1 [] (by kernel_rfl) (by kernel_rfl) R<|Jo<|Jw1 _ ⟨(λb=>ren [(7,4),(8,5),(4,6)]<|K71 b),ab,aa,af,ad,ae,ac,R,(Jy2 ((T5 S18 S52 S63 S72 S76).wk R) [(7,4),(8,5),(4,6)] R),(((f60.mx (bI _) m64 R (R:5+2=7)).stp (S72.tr S76) R R).map (ren [(7,4),(8,5),(4,6)]) R R),(((f61.mx (cm (bI _) _) m64 R (R:5+3=8)).stp (S72.tr S76) R R).map (ren [(7,4),(8,5),(4,6)]) R R),((f73.stp S76 R R).map (ren [(7,4),(8,5),(4,6)]) R R),(f77.map (ren [(7,4),(8,5),(4,6)]) R R)⟩<|KM R⟩⟩⟩
 rintro _ w9 ⟨K10,am,ah,al,ak,ai,aj,rfl,S11,f13,f14,f15,f16⟩
 refine Jp<|Ju<|Ja2 (l:=[.cell 4 108]) V196 (bL R f16 I108 Z108 R R) R ?_
 cases h
 exact⟨(λb=>ren [(4,2),(5,3),(6,4)]<|K10 b),am,ah,al,ak,ai,aj,R,((hE.stp (T3 S3 S7 S11) R R).map (ren [(4,2),(5,3),(6,4)]) R R),(f13.map (ren [(4,2),(5,3),(6,4)]) R R),(f14.map (ren [(4,2),(5,3),(6,4)]) R R),(f15.map (ren [(4,2),(5,3),(6,4)]) R R)⟩
theorem om {a0 u0}{p0:(List Int)}{p1:Int}(g0:Rd (Rp.int .i64) κ w 0 a0 u0 p0){r:Bool}(h:gL p0 p1=some r):Ret Tryz.prog 66 [.slice a0 p0.length u0,vi p1] w (Pvb κ w r):=by
 unfold gL at h
 refine Jk3 κ F66 R N66 R λhE=>Je [1,2] R<|Jf1 (κ:=κ) 2 R R R R R R R λb3 w1 K2 S3 f4=>Tv<|Jb 1 R<|Jg3 [2,2,1,2,2] 1 R<|Jf R (gD (first:=[]) (captured:=[.tmp 3]) R R R ⟨_,R⟩)<|Ob h λx7 hx7 h=>Jh R R R C111 (dD (κ:=Mk K2) (Ji3<|g0.stp S3 R R) (f4.map (mp [] 0) R R) hx7) ?_
 rintro _ w6 ⟨k7,rfl,e8⟩
 obtain⟨K9,S10,m11⟩:=Ji e8 3 R
 refine Tv<|Jb 2 R<|Ju<|Ja2 (l:=[.tmp 4]) V66 (Jp2 R R) R ?_
 cases h
 exact⟨K9,R,(hE.stp (S3.tr S10) R R)⟩
end Go.Proofs.YtpcjbkgbnoocaaaGreat
