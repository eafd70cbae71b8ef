/- The walks, part 5. By program. -/
import Derived.Test.YtpcjbkgbnoocaaaGreatFns0MO
import Derived.Test.YtpcjbkgbnoocaaaGreatFns1MO
import Derived.Test.YtpcjbkgbnoocaaaGreatFns2MO
set_option linter.unusedVariables false
set_option linter.unusedSimpArgs false
open Go.IntKind renaming wrap → t0
open Sum renaming inr → xe, inl → xf
open Int renaming toNat → xh
namespace Go.Proofs.YtpcjbkgbnoocaaaGreat
open Go Go.Wk Go.Proofs
set_option maxRecDepth 100000
set_option maxHeartbeats 1000000
variable {w:World}{κ:Col}
theorem mA {a0 u0}{p0:(List Pair)}{a1 u1}{p1:(List (List Int))}{p2:Int}(g0:Rd Pair.rp κ w 0 a0 u0 p0) (g1:Rd (Rp.sl (Rp.int .i64)) κ w 0 a1 u1 p1){r:(List Pair)}(h:iz p0 p1 p2=some r):Ret Tryz.prog 209 [.slice a0 p0.length u0,.slice a1 p1.length u1,vi p2] w (Pvs Pair.ep154 154 κ w r):=by
 unfold iz at h
 refine Jk3 κ F209 R N209 R λhE=>Je3 R<|Je [1,2] R<|Jo1 (κ:=κ) (E:=Pair.ep154) 2 R R R R R Y98 cv R λaz aA w1 K2 S3 f4=>Tv<|Jb 1 R<|Jq<|Je3 R ?_
 have hN5:(p0.length:Int)<=9223372036854775807:=g0.len_le
 refine Ob h λq2 hq7 hK6=>?_
 clear h
 refine Jx1 (λL w'=>∃κ',∃s3:(List Pair),∃an aq,L=[(7,.slice an s3.length aq)]/\Stp [2,3,4,5,6] K2 w1 κ' w'/\Oc Pair.ep154 154 κ' w' 2 an aq s3/\q2=xe s3) ?_ ?_
 refine Jv<|Jy1 (λk L w'=>∃κ' v8,∃s1:(List Pair),∃ab aa,L=[(0,.slice a0 p0.length u0),(1,.slice a1 p1.length u1),(2,vi p2),(7,.slice ab s1.length aa),(8,vi v8)]/\Stp [2,3,4,5,6] K2 w1 κ' w'/\Oc Pair.ep154 154 κ' w' 2 ab aa s1/\0<=v8/\xh ((p0.length:Int)-v8)=k/\cntM (fL p0 p1 p2) k v8 s1=some q2) ⟨_,_,⟨K2,0,(([]:List Pair):(List Pair)),az,aA,R,Jj3,f4,(by decide),(by simp),hq7⟩,(KM R)⟩ ?_
 rintro k _ w12 ⟨K13,v8,s1,ab,aa,rfl,S14,f15,hj5,hJ5,h⟩
 rcases k with _ | k
 have hk16:=h;obtain⟨o5,h⟩:=bP (xe (xf s1):(List Pair)⊕(((List Pair))⊕((List Pair))))
 have hc5:decide (v8<(p0.length:Int))=false:=Jo2 (by omega)
 refine Jq<|Jg3 [2,2,2,2] 2 R<|Jn3 R U98 R R<|Jb 1 R<|Jw2 R hc5<|Jc1<|Jt<|Jt ?_
 cases h
 have h:=hk16
 refine Jb1 ?_
 cases h
 exact Jw1 _ ⟨K13,s1,ab,aa,R,S14.wk R,f15,R⟩<|KM R
 obtain⟨o5,h,hk16⟩:=BI h;unfold fL at h
 have hc5:decide (v8<(p0.length:Int))=true:=Jn2 (by omega)
 refine Jq<|Jg3 [2,2,2,2] 2 R<|Jn3 R U98 R R<|Jb 1 R<|Jv2 R hc5<|Js<|Jp<|Jq<|Jv<|Je [2,1,1] R<|Jf R (bJ (parts:=[]) (cells:=[.slice none 0 0,.slice none 0 0]) R R (by kernel_rfl))<|Jg1 (κ:=K13) 3 R R R R R X154 R λb9 w17 K18 S19 f20=>Tv<|Jj1 (κ:=K18) 3 (vc:=[.slice none 0 0,.slice none 0 0]) R R R R R R R Z154 R R f20 R λw21 S22 f23=>Tv<|Jd<|Jq<|Je3 R ?_
 have hN24:(p1.length:Int)<=9223372036854775807:=g1.len_le
 refine Ob h λq5 hq26 hK25=>?_
 clear h
 refine Jx1 (λL w'=>∃κ',∃s6:(List Int)×(List Int),∃ah ac ad af,L=[(0,.slice a0 p0.length u0),(1,.slice a1 p1.length u1),(2,vi p2),(7,.slice ab s1.length aa),(8,vi v8),(9,.pointer (some ⟨b9,0,none⟩))]/\Stp [3,4,5] K18 w21 κ' w'/\Oc E6 2 κ' w' 4 ah ac s6.1/\Oc E6 2 κ' w' 5 ad af s6.2/\Bc κ' w' 3 b9 154 [.slice ah s6.1.length ac,.slice ad s6.2.length af]/\q5=xe s6) ?_ ?_
 refine Jv<|Jy1 (λk L w'=>∃κ' v10,∃s4:(List Int)×(List Int),∃am al ae ai,L=[(0,.slice a0 p0.length u0),(1,.slice a1 p1.length u1),(2,vi p2),(7,.slice ab s1.length aa),(8,vi v8),(9,.pointer (some ⟨b9,0,none⟩)),(10,vi v10)]/\Stp [3,4,5] K18 w21 κ' w'/\Oc E6 2 κ' w' 4 am al s4.1/\Oc E6 2 κ' w' 5 ae ai s4.2/\Bc κ' w' 3 b9 154 [.slice am s4.1.length al,.slice ae s4.2.length ai]/\0<=v10/\xh ((p1.length:Int)-v10)=k/\cntM (gn p0 p1 p2 v8) k v10 s4=some q5) ⟨_,_,⟨K18,0,((([]:List Int):(List Int)),(([]:List Int):(List Int))),none,0,none,0,R,Jj3,Ow.nil,Ow.nil,f23,(by decide),(by simp),hq26⟩,(KM R)⟩ ?_
 rintro k _ w33 ⟨K34,v10,s4,am,al,ae,ai,rfl,S35,f36,f37,f38,hj24,hJ24,h⟩
 rcases k with _ | k
 have hk39:=h;obtain⟨o24,h⟩:=bP (xe (xf s4):(List Pair)⊕(((List Int)×(List Int))⊕((List Int)×(List Int))))
 have hc24:decide (v10<(p1.length:Int))=false:=Jo2 (by omega)
 refine Jq<|Jg3 [2,2,2,2] 2 R<|Jn3 R U26 R R<|Jb 1 R<|Jw2 R hc24<|Jc1<|Jt<|Jt ?_
 cases h
 have h:=hk39
 refine Jb1 ?_
 cases h
 exact Jw1 _ ⟨K34,(s4.1,s4.2),am,al,ae,ai,R,S35.wk R,f36,f37,f38,R⟩<|KM R
 obtain⟨o24,h,hk39⟩:=BI h;unfold gn at h
 have hc24:decide (v10<(p1.length:Int))=true:=Jn2 (by omega)
 refine Jq<|Jg3 [2,2,2,2] 2 R<|Jn3 R U26 R R<|Jb 1 R<|Jv2 R hc24<|Js<|Jp<|Jq<|Jv<|Jq<|Jq<|Js1 (κ:=K34) [0] none [(0,2),(1,2),(2,2),(3,2),(5,2),(6,2),(7,2),(9,2),(4,0),(8,0),(10,2),(11,0),(12,1)] [] (by kernel_rfl) (by kernel_rfl) λw41 S40=>Jn 2 R<|Ob h λx27 hx27 h=>Jc3 R g0 hx27 U98 Z154<|Jd3 R U154 R Z29<|Jn 2 R<|Ob h λx32 hx32 h=>Jc3 R g1 hx32 U26 Z29<|Jn 1 R ?_
 have f42:=g0.stp (T6 S3 S14 S19 S22 S35 S40) R R
 obtain⟨cse43,hre43,hle43⟩:=(f42).gSt hx27
 obtain⟨ae43_0,ue43_0,ae43_1,ue43_1,rfl,fe43_0,fe43_1⟩:=Pair.un hre43
 refine Jg R (Jc2 I29 R R<|hvC (λw' hw'=>hle43 w' hw' 0 _ R) R) ?_
 have f44:=g1.stp (T6 S3 S14 S19 S22 S35 S40) R R
 obtain⟨ax32,ux32,f45,hl46⟩:=f44.gSl hx32
 refine Jg R (Jc2 I29 R R<|hvC hl46 R)<|Ob h λx35 hx35 h=>Jc3 R f45 hx35 U29 Z2<|Jg R (Jc2 I2 R R<|hvC (f45.gInt hx35) R)<|Ob h λx37 hx37 h=>Jh R R R C201 (lm (κ:=Mk K34) (Ji3 fe43_0) hx37) ?_
 rintro _ w47 ⟨k48,rfl,e49⟩
 obtain⟨K50,S51,m52⟩:=Ji e49 6 R
 refine⟨(S51.cl R),Jt1<|Jd<|Ob h λq7 h hK54=>Jx1 (λL w'=>∃κ' ak aj,L=[(0,.slice a0 p0.length u0),(1,.slice a1 p1.length u1),(2,vi p2),(7,.slice ab s1.length aa),(8,vi v8),(9,.pointer (some ⟨b9,0,none⟩)),(10,vi v10)]/\Stp [3,4] K50 w47 κ' w'/\Oc E6 2 κ' w' 4 ak aj q7/\Bc κ' w' 3 b9 154 [.slice ak q7.length aj,.slice ae s4.2.length ai]) ?_ ?_⟩
 revert h
 cases ht60:x37
 refine JF λh=>Jy R<|Js ?_
 cases h
 exact Jw1 _ ⟨K50,am,al,R,Jj3,(f36.stp (S40.tr S51) R R),(f38.stp (S40.tr S51) R R)⟩<|KM R
 refine JT λh=>Jx R<|Ja [2,1,2,1,1,2,1] R<|Jd3 R U154 R Z29 ?_
 have f61:=f38.stp (S40.tr S51) R R
 refine Jb3 R I29 (f61.ld 0 R R)<|Jn 1 R<|Jn1 (κ:=K50) (E:=E6) 8 [] (parts:=[(0,.tmp 40)]) (cells:=[vi v10]) (xs:=([v10]:List Int)) R R R R R R Y29 bG R R R R R R R R R R ⟨[vi v10],[],Zl K50 w47 [],Zl K50 w47 [],R,Zl.sp (l1:=[]) (l2:=[]) R,Zl.sr (l1:=[]) (l2:=[]),R,R⟩ λaG aC w62 K63 S64 f65=>Tv<|Ob h λx42 hx42 h=>Jm1 (κ:=K63) (E:=E6) 4 [] R R R R R R R R R Y29 bG R R R R (f36.stp (T3 S40 S51 S64) R R) (Sl.srcP (bT _) f65.rdc) bK hx42 R λaw av w67 K68 S69 f70=>Tv<|Jd3 R U154 R Z29<|Ji1 (κ:=K68) 3 (off:=0) (vc:=[.slice aw x42.length av]) (cs':=[.slice aw x42.length av,.slice ae s4.2.length ai]) R R R R R R R Z29 R R (f61.stp (S64.tr S69) R R) R R λw72 S73 f74=>Tv<|Jo ?_
 cases h
 exact Jw1 _ ⟨K68,aw,av,R,(T3 S64 S69 S73).wk R,(f70.stp S73 R R),f74⟩<|KM R
 rintro _ w55 ⟨K56,ak,aj,rfl,S57,f58,f59⟩
 have h:=hK54
 refine Jp<|Jq<|Js1 (κ:=K56) [0] none [(0,2),(1,2),(2,2),(3,2),(5,2),(6,2),(7,2),(9,2),(4,0),(8,0),(10,2),(11,0),(12,1)] [] (by kernel_rfl) (by kernel_rfl) λw79 S78=>Jn 2 R<|Ob h λx46 hx46 h=>Jc3 R f42 hx46 U98 Z154<|Jd3 R U154 R Z29<|Jn 2 R<|Ob h λx51 hx51 h=>Jc3 R f44 hx51 U26 Z29<|Jn 1 R ?_
 obtain⟨cse81,hre81,hle81⟩:=((f42.stp (T3 S51 S57 S78) R R)).gSt hx46
 obtain⟨ae81_0,ue81_0,ae81_1,ue81_1,rfl,fe81_0,fe81_1⟩:=Pair.un hre81
 refine Jg R (Jc2 I29 R R<|hvC (λw' hw'=>hle81 w' hw' 1 _ R) R) ?_
 obtain⟨ax51,ux51,f83,hl84⟩:=(f44.stp (T3 S51 S57 S78) R R).gSl hx51
 refine Jg R (Jc2 I29 R R<|hvC hl84 R)<|Ob h λx54 hx54 h=>Jc3 R f83 hx54 U29 Z2<|Jg R (Jc2 I2 R R<|hvC (f83.gInt hx54) R)<|Ob h λx56 hx56 h=>Jh R R R C201 (lm (κ:=Mk K56) (Ji3 fe81_1) hx56) ?_
 rintro _ w85 ⟨k86,rfl,e87⟩
 obtain⟨K88,S89,m90⟩:=Ji e87 8 R
 refine⟨(S89.cl R),Jt1<|Jd<|Ob h λq8 h hK92=>Jx1 (λL w'=>∃κ' ap ao,L=[(0,.slice a0 p0.length u0),(1,.slice a1 p1.length u1),(2,vi p2),(7,.slice ab s1.length aa),(8,vi v8),(9,.pointer (some ⟨b9,0,none⟩)),(10,vi v10)]/\Stp [3,5] K88 w85 κ' w'/\Oc E6 2 κ' w' 5 ap ao q8/\Bc κ' w' 3 b9 154 [.slice ak q7.length aj,.slice ap q8.length ao]) ?_ ?_⟩
 revert h
 cases ht98:x56
 refine JF λh=>Jy R<|Js ?_
 cases h
 exact Jw1 _ ⟨K88,ae,ai,R,Jj3,(f37.stp (T5 S40 S51 S57 S78 S89) R R),(f59.stp (S78.tr S89) R R)⟩<|KM R
 refine JT λh=>Jx R<|Ja [2,1,2,1,1,2,1] R<|Jd3 R U154 R Z29 ?_
 have f99:=f59.stp (S78.tr S89) R R
 refine Jb3 R I29 (f99.ld 1 R R)<|Jn 1 R<|Jn1 (κ:=K88) (E:=E6) 10 [] (parts:=[(0,.tmp 59)]) (cells:=[vi v10]) (xs:=([v10]:List Int)) R R R R R R Y29 bG R R R R R R R R R R ⟨[vi v10],[],Zl K88 w85 [],Zl K88 w85 [],R,Zl.sp (l1:=[]) (l2:=[]) R,Zl.sr (l1:=[]) (l2:=[]),R,R⟩ λaD aB w100 K101 S102 f103=>Tv<|Ob h λx61 hx61 h=>Jm1 (κ:=K101) (E:=E6) 5 [] R R R R R R R R R Y29 bG R R R R (f37.stp (T6 S40 S51 S57 S78 S89 S102) R R) (Sl.srcP (bT _) f103.rdc) bK hx61 R λar au w105 K106 S107 f108=>Tv<|Jd3 R U154 R Z29<|Ji1 (κ:=K106) 3 (off:=1) (vc:=[.slice ar x61.length au]) (cs':=[.slice ak q7.length aj,.slice ar x61.length au]) R R R R R R R Z29 R R (f99.stp (S102.tr S107) R R) R R λw110 S111 f112=>Tv<|Jo ?_
 cases h
 exact Jw1 _ ⟨K106,ar,au,R,(T3 S102 S107 S111).wk R,(f108.stp S111 R R),f112⟩<|KM R
 rintro _ w93 ⟨K94,ap,ao,rfl,S95,f96,f97⟩
 have h:=hK92
 refine Jz<|Jp<|Jf3 R ?_
 have hw24:t0 .i64 (v10+1)=v10+1:=wr1 hj24 (Jm2 hc24) hN24
 rw[hw24]
 have hc24:=Jm2 hc24
 cases h
 exact Jz1 λa ha=>⟨k,_,Ja3 _,⟨K94,v10+1,(q7,q8),ak,aj,ap,ao,R,(T7 S35 S40 S51 S57 S78 S89 S95).wk R,(f58.stp (T3 S78 S89 S95) R R),f96,f97,by omega,by omega,hk39⟩,(ha.mm R)⟩
 rintro _ w27 ⟨K28,s6,ah,ac,ad,af,rfl,S29,f30,f31,f32,rfl⟩
 have h:=yI hK25
 refine Jp<|Jh3 [2,1,1,1,2] 1 R<|Jl tv R R R R (Jd2 (cs:=[.slice ah s6.1.length ac,.slice ad s6.2.length af]) I154 Z154 R R R<|haE f32.cells)<|Jn1 (κ:=K28) (E:=Pair.ep154) 6 [4,5] (parts:=[(0,.tmp 64)]) (cells:=[.slice ah s6.1.length ac,.slice ad s6.2.length af]) (xs:=([(⟨s6.1,s6.2⟩:Pair)]:List Pair)) R R R R R R Y98 cv R R R R R R R R R R ⟨[.slice ah s6.1.length ac,.slice ad s6.2.length af],[],Zl K28 w27 [4,5],Zl K28 w27 [],R,Zl.sp (l1:=[4,5]) (l2:=[]) R,Zl.sr (l1:=[4,5]) (l2:=[]),⟨[.slice ah s6.1.length ac],[.slice ad s6.2.length af],Zl K28 w27 [4],Zl K28 w27 [5],R,Zl.sp (l1:=[4]) (l2:=[5]) R,Zl.sr (l1:=[4]) (l2:=[5]),⟨_,_,R,f30⟩,⟨_,_,R,f31⟩⟩,R⟩ λaF aE w117 K118 S119 f120=>Tv<|Ob h λx66 hx66 h=>Jm1 (κ:=K118) (E:=Pair.ep154) 2 [6] R R R R R R R R R Y98 cv R R R R (f15.stp (T4 S19 S22 S29 S119) R R) f120.src (dd R) hx66 R λay ax w122 K123 S124 f125=>Tv<|Jc 1 R<|Jz<|Jp<|Jf3 R ?_
 have hw5:t0 .i64 (v8+1)=v8+1:=wr1 hj5 (Jm2 hc5) hN5
 rw[hw5]
 have hc5:=Jm2 hc5
 cases h
 exact Jz1 λa ha=>⟨k,_,Ja3 _,⟨K123,v8+1,x66,ay,ax,R,(T6 S14 S19 S22 S29 S119 S124).wk R,f125,by omega,by omega,hk16⟩,(ha.mm R)⟩
 rintro _ w8 ⟨K9,s3,an,aq,rfl,S10,f11,rfl⟩
 have h:=yI hK6
 refine Jp<|Je3 R<|Ju<|Ja2 (l:=[.tmp 6]) V209 (Jp2 R R) R ?_
 cases h
 exact⟨K9,an,aq,R,(hE.stp (S3.tr S10) R R),f11⟩
theorem gV {p0:Sig}  {r:Int}(h:df p0=some r):Ret Tryz.prog 72 [.agg #[vi p0.In,vi p0.Out]] w (Pvi κ w r):=by
 unfold df at h
 refine Jk3 κ F72 R N72 R λhE=>Je [1,2] R<|Jf1 (κ:=κ) 2 R R R R R R R λb1 w1 K2 S3 f4=>Tv<|Jb 1 R<|Je [2,1,1,2] R<|Jd3 R U25 R Z2<|Jb3 R I2 (f4.ld 0 R R)<|Ob h λx5 hx5 h=>Jh R R R C59 (de (κ:=Mk K2) hx5) ?_
 rintro _ w5 ⟨k6,rfl,e7⟩
 obtain⟨K8,S9,m10⟩:=Ji e7 3 R
 refine Tv<|Jb 1 R<|Ju<|Ja2 (l:=[.tmp 2]) V72 (Jp2 R R) R ?_
 cases h
 exact⟨K8,R,(hE.stp (S3.tr S9) R R)⟩
theorem se {a0 u0}{p0:(List Int)}{p1:Int}(g0:Rd (Rp.int .i64) κ w 0 a0 u0 p0){r:(List Int)}(h:iX p0 p1=some r):Ret Tryz.prog 168 [.slice a0 p0.length u0,vi p1] w (λv w'=>∃(κ':Col) (ra0:Option Addr) (ru0:Nat),v= .slice ra0 r.length ru0/\Ent κ w κ' w'/\Rd (Rp.int .i64) κ' w' 0 ra0 ru0 r):=by
 unfold iX at h
 refine Jk3 κ F168 R N168 R λhE=>Je3 R<|Je3 R<|Jq<|Ob h λq2 hq3 hK2=>?_
 clear h
 refine Jx1 (λL w'=>∃κ' s3,L=[(0,.slice a0 p0.length u0),(1,vi p1),(5,vi s3)]/\Stp [] κ w κ' w'/\q2=xe s3) ?_ ?_
 refine Jv<|Jy1 (λk L w'=>∃κ' s1,L=[(0,.slice a0 p0.length u0),(1,vi p1),(5,vi s1)]/\Stp [] κ w κ' w'/\bZ (fw p0 p1) k s1=some q2) ⟨_,_,⟨κ,(0:Int),R,Jj3,hq3⟩,(KM R)⟩ ?_
 rintro k _ w7 ⟨K8,s1,rfl,S9,h⟩
 rcases k with _ | k
 cases h
 obtain⟨o1,h,hk10⟩:=BI h;unfold fw at h
 refine Jq<|Jg3 [2,2,2,2,2,2,2,2,1,2,2,2] 2 R<|Jn3 R U29 R R<|Jn 2 R<|Ob h λp18 h hK11=>Ju1 [(5,2),(6,2),(7,2),(8,1),(9,2),(10,2),(11,2)] [] (λL w'=>L=[(0,.slice a0 p0.length u0),(1,vi p1),(5,vi s1),(18,.bool p18)]/\∃κ',Stp [] K8 w7 κ' w') tv ?_ ?_
 revert h
 cases ht12:decide (s1<(p0.length:Int))
 refine JF λh=>Jn 3 R<|Jd1 R R R R<|Jn 3 R ?_
 cases h
 exact Jv1 _ tv ⟨R,_,Jj3⟩<|KM R
 refine JT λh=>Jn 2 R<|Ob h λx14 hx14 h=>Jc3 R g0 hx14 U29 Z2<|Jb3 R I2 ((g0.stp S9 R R).gInt hx14)<|Jn 3 R ?_
 cases h
 exact Jv1 _ tv ⟨R,_,Jj3⟩<|KM R
 rintro _ w14 _ ⟨rfl,K15,S16⟩
 have h:=hK11
 refine Jd ?_
 revert h
 cases ht17:p18
 refine JF λh=>Jy R<|Jc1<|Jt<|Jt ?_
 cases h
 have h:=hk10
 refine Jb1 ?_
 cases h
 exact Jw1 _ ⟨K15,s1,R,(S9.tr S16).wk R,R⟩<|KM R
 refine JT λh=>Jx R<|Js<|Jp<|Jv<|Jf3 R<|Jz ?_
 cases h
 exact Jz1 λa ha=>⟨k,_,Ja3 _,⟨K15,((IntKind.i64.wrap<|s1+1):Int),R,(S9.tr S16).wk R,hk10⟩,(ha.mm R)⟩
 rintro _ w4 ⟨K5,s3,rfl,S6,rfl⟩
 have h:=yI hK2
 refine Jp<|Jq<|Jg3 [2,2,2,2,2,2,2,2,1,2,2,2] 2 R<|Jn3 R U29 R R<|Jn 2 R<|Ob h λp32 h hK18=>Ju1 [(5,2),(6,2),(7,2),(8,1),(9,2),(10,2),(11,2)] [] (λL w'=>L=[(0,.slice a0 p0.length u0),(1,vi p1),(5,vi s3),(32,.bool p32)]/\∃κ',Stp [] K5 w4 κ' w') tv ?_ ?_
 revert h
 cases ht19:decide (s3<(p0.length:Int))
 refine JF λh=>Jn 3 R<|Jd1 R R R R<|Jn 3 R ?_
 cases h
 exact Jv1 _ tv ⟨R,_,Jj3⟩<|KM R
 refine JT λh=>Jn 2 R<|Ob h λx28 hx28 h=>Jc3 R g0 hx28 U29 Z2<|Jb3 R I2 ((g0.stp S6 R R).gInt hx28)<|Jn 3 R ?_
 cases h
 exact Jv1 _ tv ⟨R,_,Jj3⟩<|KM R
 rintro _ w21 _ ⟨rfl,K22,S23⟩
 have h:=hK18
 refine Jd ?_
 revert h
 cases ht24:p32
 refine JF λh=>Jy R<|Js<|Jp<|Jg3 [2,2,2,1,2,1,1,2] 2 R<|Ob h λx36 hx36 h=>Jf R (l4 (k1:= .i64) (k2:= .i64) U29 Z2 (.inl ⟨R,R⟩) (.inr ⟨_,R,R⟩) hx36 g0.1 R R R) ?_
 have f28:=g0.stp (S6.tr S23) R R
 refine Ob h λx37 hx37 h=>Jh R R R C56 (dx (κ:=Mk K22) (Ji3<|f28.sub hx36) hx37) ?_
 rintro _ w29 ⟨k30,ah,ac,rfl,e31,f32⟩
 obtain⟨K33,S34,m35⟩:=Ji e31 2 R
 refine Tv<|Jn 1 R<|Jn1 (κ:=K33) (E:=E6) 5 [] (parts:=[(0,.tmp 38)]) (cells:=[vi p1]) (xs:=([p1]:List Int)) R R R R R R Y29 bG R R R R R R R R R R ⟨[vi p1],[],Zl K33 w29 [],Zl K33 w29 [],R,Zl.sp (l1:=[]) (l2:=[]) R,Zl.sr (l1:=[]) (l2:=[]),R,R⟩ λae af w38 K39 S40 f41=>Tv<|Ob h λx40 hx40 h=>Jm1 (κ:=K39) (E:=E6) 4 [] R R R R R R R R R Y29 bG R R R R ((f32.mx (bI _) m35 R (R:2+2=4)).stp S40 R R) (Sl.srcP (bT _) f41.rdc) bK hx40 R λai ad w43 K44 S45 f46=>Tv<|Jb 1 R<|Jg3 [2,2,2,2,1,2] 3 R<|Ob h λx44 hx44 h=>Jf R (l4 (k1:= .i64) (k2:= .i64) U29 Z2 (.inr ⟨_,R,R⟩) (.inl ⟨R,R⟩) hx44 f28.1 R R R)<|Ob h λx45 hx45 h=>Jm1 (κ:=K44) (E:=E6) 4 [] R R R R R R R R R Y29 bG R R R R f46 (Sl.srcP (bT _) ((f28.stp (T3 S34 S40 S45) R R).sub hx44)) bK hx45 R λaa ab w49 K50 S51 f52=>Tv<|Jb 1 R<|Ju ?_
 obtain⟨K53,S54,z55⟩:=ea K50 w49 4
 refine Ja2 (l:=[.tmp 4]) V168 (Jp2 R R) R ?_
 cases h
 exact⟨K53,aa,ab,R,(hE.stp (T7 S6 S23 S34 S40 S45 S51 S54) R R),(Sl.st z55 f52.rdc)⟩
 refine JT λh=>Jx R<|Je3 R<|Ju<|Jw<|Ja2 (l:=[.tmp 4]) V168 (Jp2 R R) R ?_
 cases h
 exact⟨K22,a0,u0,R,(hE.stp (S6.tr S23) R R),(g0.stp (S6.tr S23) R R)⟩
theorem qR {a0 u0}{p0:(List Pair)}{a1 u1}{p1:(List Int)}{p2:Int}(g0:Rd Pair.rp κ w 0 a0 u0 p0) (g1:Rd (Rp.int .i64) κ w 0 a1 u1 p1){r:Int}(h:iB p0 p1 p2=some r):Ret Tryz.prog 124 [.slice a0 p0.length u0,.slice a1 p1.length u1,vi p2] w (Pvi κ w r):=by
 unfold iB at h
 refine Jk3 κ F124 R N124 R λhE=>Je3 R<|Je3 R<|Je3 R<|Jq<|Je3 R ?_
 have hN1:(p1.length:Int)<=9223372036854775807:=g1.len_le
 refine Ob h λq2 hq3 hK2=>?_
 clear h
 refine Jx1 (λL w'=>∃κ',∃s3:Int×Int,L=[(7,vi s3.1),(8,vi s3.2)]/\Stp [] κ w κ' w'/\q2=xe s3) ?_ ?_
 refine Jv<|Jy1 (λk L w'=>∃κ' v9,∃s1:Int×Int,L=[(0,.slice a0 p0.length u0),(1,.slice a1 p1.length u1),(2,vi p2),(7,vi s1.1),(8,vi s1.2),(9,vi v9)]/\Stp [] κ w κ' w'/\0<=v9/\xh ((p1.length:Int)-v9)=k/\cntM (en p0 p1 p2) k v9 s1=some q2) ⟨_,_,⟨κ,0,(((-1):Int),((-1):Int)),R,Jj3,(by decide),(by simp),hq3⟩,(KM R)⟩ ?_
 rintro k _ w7 ⟨K8,v9,s1,rfl,S9,hj1,hJ1,h⟩
 rcases k with _ | k
 have hk10:=h;obtain⟨o1,h⟩:=bP (xe (xf s1):Int⊕((Int×Int)⊕(Int×Int)))
 have hc1:decide (v9<(p1.length:Int))=false:=Jo2 (by omega)
 refine Jq<|Jg3 [2,2,2,2] 2 R<|Jn3 R U29 R R<|Jb 1 R<|Jw2 R hc1<|Jc1<|Jt<|Jt ?_
 cases h
 have h:=hk10
 refine Jb1 ?_
 cases h
 exact Jw1 _ ⟨K8,(s1.1,s1.2),R,S9.wk R,R⟩<|KM R
 obtain⟨o1,h,hk10⟩:=BI h;unfold en at h
 have hc1:decide (v9<(p1.length:Int))=true:=Jn2 (by omega)
 refine Jq<|Jg3 [2,2,2,2] 2 R<|Jn3 R U29 R R<|Jb 1 R<|Jv2 R hc1<|Js<|Jp<|Jq<|Jv<|Jq<|Jg3 [2,2,2,2,1,2,2,1,2,1] 3 R<|Ob h λx19 hx19 h=>Jc3 R g1 hx19 U29 Z2 ?_
 have f11:=g1.stp S9 R R
 refine Jb3 R I2 (f11.gInt hx19)<|Ob h λx21 hx21 h=>Jc3 R g0 hx21 U98 Z154<|Jd3 R U154 R Z29 ?_
 have f12:=g0.stp S9 R R
 obtain⟨cse13,hre13,hle13⟩:=(f12).gSt hx21
 obtain⟨ae13_0,ue13_0,ae13_1,ue13_1,rfl,fe13_0,fe13_1⟩:=Pair.un hre13
 refine Jb3 R I29 (λw' hw'=>hle13 w' hw' 0 _ R)<|Jn 1 R<|Ob h λx25 hx25 h=>Jh R R R C171 (lZ (κ:=Mk K8) (Ji3 fe13_0) hx25) ?_
 rintro _ w14 ⟨k15,rfl,e16⟩
 obtain⟨K17,S18,m19⟩:=Ji e16 2 R
 refine Tv<|Jd<|Ob h λq4 h hK21=>Jx1 (λL w'=>∃κ',L=[(0,.slice a0 p0.length u0),(1,.slice a1 p1.length u1),(2,vi p2),(7,vi q4),(8,vi s1.2),(9,vi v9)]/\Stp [] K17 w14 κ' w') ?_ ?_
 revert h
 cases ht25:x25
 refine JF λh=>Jy R<|Js ?_
 cases h
 exact Jw1 _ ⟨K17,R,Jj3⟩<|KM R
 refine JT λh=>Jx R<|Jf3 R ?_
 cases h
 exact Jw1 _ ⟨K17,R,Jj3⟩<|KM R
 rintro _ w22 ⟨K23,rfl,S24⟩
 have h:=hK21
 refine Jp<|Jg3 [2,2,2,2,1,2,2,1,2,1] 3 R<|Ob h λx30 hx30 h=>Jc3 R f11 hx30 U29 Z2<|Jb3 R I2 ((f11.stp (S18.tr S24) R R).gInt hx30)<|Ob h λx32 hx32 h=>Jc3 R f12 hx32 U98 Z154<|Jd3 R U154 R Z29 ?_
 obtain⟨cse28,hre28,hle28⟩:=((f12.stp (S18.tr S24) R R)).gSt hx32
 obtain⟨ae28_0,ue28_0,ae28_1,ue28_1,rfl,fe28_0,fe28_1⟩:=Pair.un hre28
 refine Jb3 R I29 (λw' hw'=>hle28 w' hw' 1 _ R)<|Jn 1 R<|Ob h λx36 hx36 h=>Jh R R R C171 (lZ (κ:=Mk K23) (Ji3 fe28_1) hx36) ?_
 rintro _ w29 ⟨k30,rfl,e31⟩
 obtain⟨K32,S33,m34⟩:=Ji e31 4 R
 refine Tv<|Jd<|Ob h λq5 h hK36=>Jx1 (λL w'=>∃κ',L=[(0,.slice a0 p0.length u0),(1,.slice a1 p1.length u1),(2,vi p2),(7,vi q4),(8,vi q5),(9,vi v9)]/\Stp [] K32 w29 κ' w') ?_ ?_
 revert h
 cases ht40:x36
 refine JF λh=>Jy R<|Js ?_
 cases h
 exact Jw1 _ ⟨K32,R,Jj3⟩<|KM R
 refine JT λh=>Jx R<|Jf3 R ?_
 cases h
 exact Jw1 _ ⟨K32,R,Jj3⟩<|KM R
 rintro _ w37 ⟨K38,rfl,S39⟩
 have h:=hK36
 refine Jz<|Jp<|Jf3 R ?_
 have hw1:t0 .i64 (v9+1)=v9+1:=wr1 hj1 (Jm2 hc1) hN1
 rw[hw1]
 have hc1:=Jm2 hc1
 cases h
 exact Jz1 λa ha=>⟨k,_,Ja3 _,⟨K38,v9+1,(q4,q5),R,(T5 S9 S18 S24 S33 S39).wk R,by omega,by omega,hk10⟩,(ha.mm R)⟩
 rintro _ w4 ⟨K5,s3,rfl,S6,rfl⟩
 have h:=yI hK2
 refine Jp<|Jq<|Jv<|Jg3 [2,2,2,2,2,2,2] 3 R<|Ob h λp44 h hK41=>Ju1 [(3,2),(4,2),(5,2)] [(6,2)] (λL w'=>L=[(7,vi s3.1),(8,vi s3.2),(44,.bool p44)]/\∃κ',Stp [] K5 w4 κ' w') tv ?_ ?_
 revert h
 cases ht42:decide (s3.1<0)
 refine JF λh=>Jn 3 R ?_
 cases h
 exact Jv1 _ tv ⟨R,_,Jj3⟩<|KM R
 refine JT λh=>Jn 3 R ?_
 cases h
 exact Jv1 _ tv ⟨R,_,Jj3⟩<|KM R
 rintro _ w43 _ ⟨rfl,K44,S45⟩
 have h:=hK41
 refine Jb 1 R ?_
 revert h
 cases ht46:p44
 refine JF λh=>Jy R<|Je3 R ?_
 revert h
 cases ht48:decide (s3.2<s3.1)
 refine JF λh=>Jy R<|Js<|Jz<|Jp<|Je3 R<|Ju<|Ja2 (l:=[.tmp 6]) V124 (Jp2 R R) R ?_
 cases h
 exact⟨K44,R,(hE.stp (S6.tr S45) R R)⟩
 refine JT λh=>Jx R<|Je3 R<|Ju<|Ja1<|Jw<|Ja2 (l:=[.tmp 6]) V124 (Jp2 R R) R ?_
 cases h
 exact⟨K44,R,(hE.stp (S6.tr S45) R R)⟩
 refine JT λh=>Jx R<|Je3 R<|Ju<|Ja1<|Jw<|Ja2 (l:=[.tmp 6]) V124 (Jp2 R R) R ?_
 cases h
 exact⟨K44,R,(hE.stp (S6.tr S45) R R)⟩
theorem oN {ab aa}{p0:Place}{c0:Int}{a2 u2}{c1:(List Int)}{b1 b2}(g0_1:Rd (Rp.int .i64) κ w 0 ab aa p0.Record) (g2:Rd (Rp.int .i64) κ w 0 a2 u2 c1) (gb1:Bc κ w 0 b1 2 [vi c0]) (gb2:Bc κ w 0 b2 29 [.slice a2 c1.length u2]){r:Bool}(h:iL p0 c0 c1=some r):Ret Tryz.prog 231 [.agg #[vi p0.At,.slice ab p0.Record.length aa],.pointer (some ⟨b1,0,none⟩),.pointer (some ⟨b2,0,none⟩)] w (Pvb κ w r):=by
 unfold iL at h
 refine Jk3 κ F231 R N231 R λhE=>Je [1,2] R<|Jf1 (κ:=κ) 2 R R R R R R R λb3 w1 K2 S3 f4=>Tv<|Jb 1 R<|Je [2,1,1,2,2,2,1,1,1,2,2] R<|Jd3 R U116 R Z2<|Jb3 R I2 (f4.ld 0 R R)<|Jb3 R I2 ((gb1.stp S3 R R).ld 0 R R)<|Jn 2 R<|Ob h λp14 h hK6=>Ju1 [(5,2),(6,1),(7,1),(8,1),(9,2)] [(10,2)] (λL w'=>L=[(1,.pointer (some ⟨b1,0,none⟩)),(2,.pointer (some ⟨b2,0,none⟩)),(4,.bool false),(14,.bool p14)]/\∃κ',Stp [] K2 w1 κ' w') tv ?_ ?_
 revert h
 cases ht7:(p0.At==c0)
 refine JF λh=>Jn 1 R<|Jd1 R R R R<|Jd1 R R R R<|Jd1 R R R R<|Jn 1 R ?_
 cases h
 exact Jv1 _ tv ⟨R,_,Jj3⟩<|KM R
 refine JT λh=>Jd3 R U116 R Z29<|Jb3 R I29 (f4.ld 1 R R)<|Jb3 R I29 ((gb2.stp S3 R R).ld 0 R R)<|Ob h λx13 hx13 h=>Jh R R R C65 (kw (κ:=Mk K2) (Ji3<|g0_1.stp S3 R R) (Ji3<|g2.stp S3 R R) hx13) ?_
 rintro _ w11 ⟨k12,rfl,e13⟩
 obtain⟨K14,S15,m16⟩:=Ji e13 3 R
 refine Tv<|Jn 1 R ?_
 cases h
 exact Jv1 _ tv ⟨R,_,S15.wk R⟩<|KM R
 rintro _ w18 _ ⟨rfl,K19,S20⟩
 have h:=hK6
 refine Jb 1 R<|Ju<|Ja2 (l:=[.tmp 4]) V231 (Jp2 R R) R ?_
 cases h
 exact⟨K19,R,(hE.stp (S3.tr S20) R R)⟩
theorem tf {aa ad ac ab}{p0:Arena}(g0_0:Rd (Rp.int .i64) κ w 0 aa ad p0.Owner) (g0_1:Rd (Rp.sl (Rp.int .i64)) κ w 0 ac ab p0.Next){r:(List Int)}(h:nE p0=some r):Ret Tryz.prog 142 [.agg #[.slice aa p0.Owner.length ad,.slice ac p0.Next.length ab]] w (Pvs E6 2 κ w r):=by
 unfold nE at h
 refine Jk3 κ F142 R N142 R λhE=>Je [1,2] R<|Jf1 (κ:=κ) 2 R R R R R R R λb1 w1 K2 S3 f4=>Tv<|Jb 1 R<|Je [1,1,1,2] R<|Jl tv R R R R (Jd2 (cs:=[.slice aa p0.Owner.length ad,.slice ac p0.Next.length ab]) I104 Z104 R R R<|haE f4.cells)<|Ob h λx4 hx4 h=>Jh R R R C193 (ut (κ:=Mk K2) (p0:=p0) (Ji3<|g0_0.stp S3 R R) (Ji3<|g0_1.stp S3 R R) hx4) ?_
 rintro _ w7 ⟨k8,rfl,e9⟩
 obtain⟨K10,S11,m12⟩:=Ji e9 3 R
 refine Tv<|Ob h λx5 hx5 h=>Jh R R R C192 (tj (κ:=Mk K10) hx5) ?_
 rintro _ w14 ⟨k15,ae,af,rfl,e16,f17⟩
 obtain⟨K18,S19,m20⟩:=Ji e16 5 R
 refine Tv<|Jb 1 R<|Ju<|Ja2 (l:=[.tmp 2]) V142 (Jp2 R R) R ?_
 cases h
 exact⟨(λb=>ren [(7,2)]<|K18 b),ae,af,R,((hE.stp (T3 S3 S11 S19) R R).map (ren [(7,2)]) R R),((f17.mx (bI _) m20 R (R:5+2=7)).map (ren [(7,2)]) R R)⟩
theorem rh {ac ad ab aa}{p0:Arena}(g0_0:Rd (Rp.int .i64) κ w 0 ac ad p0.Owner) (g0_1:Rd (Rp.sl (Rp.int .i64)) κ w 0 ab aa p0.Next){r:Bool}(h:kI p0=some r):Ret Tryz.prog 194 [.agg #[.slice ac p0.Owner.length ad,.slice ab p0.Next.length aa]] w (Pvb κ w r):=by
 unfold kI at h
 refine Jk3 κ F194 R N194 R λhE=>Je [1,2] R<|Jf1 (κ:=κ) 2 R R R R R R R λb1 w1 K2 S3 f4=>Tv<|Jb 1 R<|Je [2,1,2,2] R<|Jd3 R U104 R Z29<|Jb3 R I29 (f4.ld 0 R R)<|Jn3 R U29 R R<|Jb 1 R<|Jq<|Jg3 [2,2,2,2,2,2,2,2,1,2,2,2,2] 3 R<|Ob h λp14 h hK5=>Ju1 [(3,2),(4,2),(5,2)] [(6,2),(7,2),(8,1),(9,2),(10,2),(11,2),(12,2)] (λL w'=>L=[(1,.pointer (some ⟨b1,0,none⟩)),(3,vi (p0.Owner.length:Int)),(14,.bool p14)]/\∃κ',Stp [] K2 w1 κ' w') tv ?_ ?_
 revert h
 cases ht6:decide ((p0.Owner.length:Int)<1)
 refine JF λh=>Jn 3 R ?_
 cases h
 exact Jv1 _ tv ⟨R,_,Jj3⟩<|KM R
 refine JT λh=>Jn 3 R ?_
 cases h
 exact Jv1 _ tv ⟨R,_,Jj3⟩<|KM R
 rintro _ w7 _ ⟨rfl,K8,S9⟩
 have h:=hK5
 refine Jn 1 R<|Ob h λp21 h hK10=>Ju1 [(7,2),(8,1),(9,2),(10,2),(11,2),(12,2)] [] (λL w'=>L=[(1,.pointer (some ⟨b1,0,none⟩)),(3,vi (p0.Owner.length:Int)),(21,.bool p21)]/\∃κ',Stp [] K8 w7 κ' w') tv ?_ ?_
 revert h
 cases ht11:p14
 refine JF λh=>Jd3 R U104 R Z26<|Jb3 R I26 ((f4.stp S9 R R).ld 1 R R)<|Jn3 R U26 R R<|Jn 3 R ?_
 cases h
 exact Jv1 _ tv ⟨R,_,Jj3⟩<|KM R
 refine JT λh=>Jn 1 R<|Jd1 R R R R<|Jn 4 R ?_
 cases h
 exact Jv1 _ tv ⟨R,_,Jj3⟩<|KM R
 rintro _ w13 _ ⟨rfl,K14,S15⟩
 have h:=hK10
 refine Jd ?_
 revert h
 cases ht16:p21
 refine JF λh=>Jy R<|Js<|Jp<|Jq<|Je [2,1,2,2] R<|Jd3 R U104 R Z26 ?_
 have f18:=f4.stp (S9.tr S15) R R
 refine Jb3 R I26 (f18.ld 1 R R)<|Jn3 R U26 R R<|Jb 1 R ?_
 have hN19:(p0.Next.length:Int)<=9223372036854775807:=g0_1.len_le
 refine Ob h λq2 hq21 hK20=>?_
 clear h
 refine Jx1 (λL w'=>∃κ',L=[]/\Stp [] K14 w13 κ' w'/\q2=xe ()) ?_ ?_
 refine Jv<|Jy1 (λk L w'=>∃κ' v25,L=[(1,.pointer (some ⟨b1,0,none⟩)),(3,vi (p0.Owner.length:Int)),(23,.slice ab p0.Next.length aa),(24,vi (p0.Next.length:Int)),(25,vi v25)]/\Stp [] K14 w13 κ' w'/\0<=v25/\xh ((p0.Next.length:Int)-v25)=k/\cntM (gQ p0) k v25 ()=some q2) ⟨_,_,⟨K14,0,R,Jj3,(by decide),(by simp),hq21⟩,(KM R)⟩ ?_
 rintro k _ w25 ⟨K26,v25,rfl,S27,hj19,hJ19,h⟩
 rcases k with _ | k
 have hk28:=h;obtain⟨o19,h⟩:=bP (xe (xf ()):Bool⊕((Unit)⊕(Unit)))
 have hc19:decide (v25<(p0.Next.length:Int))=false:=Jo2 (by omega)
 refine Je3 R<|Jq<|Jw2 R hc19<|Jc1<|Jt<|Jt ?_
 cases h
 have h:=hk28
 refine Jb1 ?_
 cases h
 exact Jw1 _ ⟨K26,R,S27.wk R,R⟩ KN
 obtain⟨o19,h,hk28⟩:=BI h;unfold gQ at h
 have hc19:decide (v25<(p0.Next.length:Int))=true:=Jn2 (by omega)
 refine Je3 R<|Jq<|Jv2 R hc19<|Js<|Jp<|Jq<|Jv<|Jg3 [2,2,1,2,2] 1 R<|Ob h λx28 hx28 h=>Jc3 R g0_1 hx28 U26 Z29 ?_
 obtain⟨ax28,ux28,f30,hl31⟩:=(g0_1.stp (T4 S3 S9 S15 S27) R R).gSl hx28
 refine Jb3 R I29 hl31<|Jb 2 R<|Je [2,1,2,2,1,2,2,2,1,2,2,1,2,2,2,2,2,2,2,2,2,2,2,2,2,2,2,1,2,2] R<|Jd3 R U104 R Z29 ?_
 have f32:=f18.stp S27 R R
 refine Jb3 R I29 (f32.ld 0 R R)<|Jn 1 R<|Ob h λx33 hx33 h=>Jc3 R g0_0 hx33 U29 Z2 ?_
 have f33:=g0_0.stp (T4 S3 S9 S15 S27) R R
 refine Jb3 R I2 (f33.gInt hx33)<|Jn 2 R<|Ob h λp43 h hK34=>Ju1 [(7,2),(8,1),(9,2),(10,2),(11,1),(12,2),(13,2)] [(14,2),(15,2),(16,2),(17,2),(18,2),(19,2),(20,2),(21,2),(22,2),(23,2),(24,2),(25,2),(26,2),(27,1),(28,2),(29,2)] (λL w'=>L=[(1,.pointer (some ⟨b1,0,none⟩)),(3,vi (p0.Owner.length:Int)),(5,.slice ax28 x28.length ux28),(23,.slice ab p0.Next.length aa),(24,vi (p0.Next.length:Int)),(25,vi v25),(43,.bool p43)]/\∃κ',Stp [] K26 w25 κ' w') tv ?_ ?_
 revert h
 cases ht35:decide (x33<0)
 refine JF λh=>Jd3 R U104 R Z29<|Jb3 R I29 (f32.ld 0 R R)<|Jn 1 R<|Ob h λx40 hx40 h=>Jc3 R f33 hx40 U29 Z2<|Jb3 R I2 (f33.gInt hx40)<|Jn 2 R ?_
 cases h
 exact Jv1 _ tv ⟨R,_,Jj3⟩<|KM R
 refine JT λh=>Jn 1 R<|Jd1 R R R R<|Jn 2 R<|Jd1 R R R R<|Jn 2 R ?_
 cases h
 exact Jv1 _ tv ⟨R,_,Jj3⟩<|KM R
 rintro _ w36 _ ⟨rfl,K37,S38⟩
 have h:=hK34
 refine Jn 1 R<|Ob h λp48 h hK39=>Ju1 [(15,2),(16,2),(17,2),(18,2)] [(19,2),(20,2),(21,2),(22,2),(23,2),(24,2),(25,2),(26,2),(27,1),(28,2),(29,2)] (λL w'=>L=[(1,.pointer (some ⟨b1,0,none⟩)),(3,vi (p0.Owner.length:Int)),(5,.slice ax28 x28.length ux28),(23,.slice ab p0.Next.length aa),(24,vi (p0.Next.length:Int)),(25,vi v25),(48,.bool p48)]/\∃κ',Stp [] K37 w36 κ' w') tv ?_ ?_
 revert h
 cases ht40:p43
 refine JF λh=>Jn 1 R<|Jn3 R U29 R R<|Jn 2 R ?_
 cases h
 exact Jv1 _ tv ⟨R,_,Jj3⟩<|KM R
 refine JT λh=>Jn 4 R ?_
 cases h
 exact Jv1 _ tv ⟨R,_,Jj3⟩<|KM R
 rintro _ w41 _ ⟨rfl,K42,S43⟩
 have h:=hK39
 refine Jn 1 R<|Ob h λp53 h hK44=>Ju1 [(20,2),(21,2),(22,2),(23,2)] [(24,2),(25,2),(26,2),(27,1),(28,2),(29,2)] (λL w'=>L=[(1,.pointer (some ⟨b1,0,none⟩)),(3,vi (p0.Owner.length:Int)),(5,.slice ax28 x28.length ux28),(23,.slice ab p0.Next.length aa),(24,vi (p0.Next.length:Int)),(25,vi v25),(53,.bool p53)]/\∃κ',Stp [] K42 w41 κ' w') tv ?_ ?_
 revert h
 cases ht45:p48
 refine JF λh=>Jn 1 R<|Jn3 R U29 R R<|Jn 2 R ?_
 cases h
 exact Jv1 _ tv ⟨R,_,Jj3⟩<|KM R
 refine JT λh=>Jn 4 R ?_
 cases h
 exact Jv1 _ tv ⟨R,_,Jj3⟩<|KM R
 rintro _ w46 _ ⟨rfl,K47,S48⟩
 have h:=hK44
 refine Jn 1 R<|Ob h λp59 h hK49=>Ju1 [(25,2),(26,2),(27,1),(28,2),(29,2)] [] (λL w'=>L=[(1,.pointer (some ⟨b1,0,none⟩)),(3,vi (p0.Owner.length:Int)),(23,.slice ab p0.Next.length aa),(24,vi (p0.Next.length:Int)),(25,vi v25),(59,.bool p59)]/\∃κ',Stp [] K47 w46 κ' w') tv ?_ ?_
 revert h
 cases ht50:p53
 refine JF λh=>Jn 2 R<|Ob h λx57 hx57 h=>Jh R R R C217 (ka (κ:=Mk K47) (Ji3<|f30.stp (T3 S38 S43 S48) R R) hx57) ?_
 rintro _ w52 ⟨k53,rfl,e54⟩
 obtain⟨K55,S56,m57⟩:=Ji e54 3 R
 refine Tv<|Jn 2 R ?_
 cases h
 exact Jv1 _ tv ⟨R,_,S56.wk R⟩<|KM R
 refine JT λh=>Jn 2 R<|Jd1 R R R R<|Jn 2 R ?_
 cases h
 exact Jv1 _ tv ⟨R,_,Jj3⟩<|KM R
 rintro _ w59 _ ⟨rfl,K60,S61⟩
 have h:=hK49
 refine Jd ?_
 revert h
 cases ht62:p59
 refine JF λh=>Jy R<|Js<|Jz<|Jp<|Jf3 R ?_
 have hw19:t0 .i64 (v25+1)=v25+1:=wr1 hj19 (Jm2 hc19) hN19
 rw[hw19]
 have hc19:=Jm2 hc19
 cases h
 exact Jz1 λa ha=>⟨k,_,Ja3 _,⟨K60,v25+1,R,(T5 S27 S38 S43 S48 S61).wk R,by omega,by omega,hk28⟩,(ha.mm R)⟩
 refine JT λh=>Jx R<|Je3 R<|Ju<|Ja1<|Jw<|Jw ?_
 cases h
 obtain rfl:=Option.some.inj hk28
 have h:=yL hK20
 refine Ja1<|Jq2<|Jw<|Ja2 (l:=[.tmp 2]) V194 (Jp2 R R) R ?_
 cases h
 exact⟨K60,R,(hE.stp (T8 S3 S9 S15 S27 S38 S43 S48 S61) R R)⟩
 rintro _ w22 ⟨K23,rfl,S24,rfl⟩
 have h:=yI hK20
 refine Jp<|Je3 R<|Ju<|Ja2 (l:=[.tmp 2]) V194 (Jp2 R R) R ?_
 cases h
 exact⟨K23,R,(hE.stp (T4 S3 S9 S15 S24) R R)⟩
 refine JT λh=>Jx R<|Je3 R<|Ju<|Jw<|Ja2 (l:=[.tmp 2]) V194 (Jp2 R R) R ?_
 cases h
 exact⟨K14,R,(hE.stp (T3 S3 S9 S15) R R)⟩
theorem pR {ac af ae ad}{p0:Arena}(g0_0:Rd (Rp.int .i64) κ w 0 ac af p0.Owner) (g0_1:Rd (Rp.sl (Rp.int .i64)) κ w 0 ae ad p0.Next){r:Arena}(h:iM p0=some r):Ret Tryz.prog 250 [.agg #[.slice ac p0.Owner.length af,.slice ae p0.Next.length ad]] w (λv w'=>∃(κ':Col) (ra0:Option Addr) (ru0:Nat) (ra1:Option Addr) (ru1:Nat),v= .agg #[.slice ra0 r.Owner.length ru0,.slice ra1 r.Next.length ru1]/\Ent κ w κ' w'/\Oc E6 2 κ' w' 2 ra0 ru0 r.Owner/\Oc (Ep.own E6 2) 29 κ' w' 3 ra1 ru1 r.Next):=by
 unfold iM at h
 refine Jk3 κ F250 R N250 R λhE=>Je [1,1] R<|Jf1 (κ:=κ) 2 R R R R R R R λb1 w1 K2 S3 f4=>Tv<|Jg1 (κ:=K2) 3 R R R R R X104 R λb2 w5 K6 S7 f8=>Tv<|Jd<|Jq<|Js1 (κ:=K6) [2] none [(1,2),(4,2),(2,0),(5,0),(0,1),(3,1),(6,1),(7,2),(8,1)] [] (by kernel_rfl) (by kernel_rfl) λw10 S9=>Jd3 R U104 R Z29<|Jd3 R U104 R Z26 ?_
 have f11:=f4.stp (S7.tr S9) R R
 refine Jg R (Jc2 I29 R R<|hvC (f11.ld 0 R R) R)<|Jg R (Jc2 I26 R R<|hvC (f11.ld 1 R R) R)<|Jo1 (κ:=K6) (E:=E6) 4 R R R R R Y29 bG R λa3 u3 w12 K13 S14 f15=>⟨(S14.cl R),Ob h λx6 hx6 h=>Jm1 (κ:=K13) (E:=E6) 4 [] R R R R R R R R R Y29 bG R R R R f15 (Sl.srcP (bT _)<|g0_0.stp (T4 S3 S7 S9 S14) R R) bK hx6 R λa6 u6 w17 K18 S19 f20=>⟨((S14.tr S19).cl R),Ob h λx9 hx9 h=>Jh R R R C254 (oO (κ:=Mk K18) (Ji3<|g0_1.stp (T5 S3 S7 S9 S14 S19) R R) hx9) ?_⟩⟩
 rintro _ w22 ⟨k23,aa,ab,rfl,e24,f25⟩
 obtain⟨K26,S27,m28⟩:=Ji e24 5 R
 refine⟨((T3 S14 S19 S27).cl R),Jf R (bJ (parts:=[(0,.tmp 6),(1,.tmp 9)]) (cells:=[.slice a6 x6.length u6,.slice aa x9.length ab]) R R (by kernel_rfl))<|Jj1 (κ:=K26) 3 (vc:=[.slice a6 x6.length u6,.slice aa x9.length ab]) R R R R R R R Z104 R R (f8.stp (T4 S9 S14 S19 S27) R R) R λw32 S33 f34=>⟨((T4 S14 S19 S27 S33).cl R),Jt1<|Jd<|Ju<|Ja2 (l:=[.cell 2 104]) V250 (bL R f34 I104 Z104 R R) R ?_⟩⟩
 cases h
 exact⟨(λb=>ren [(4,2),(7,3)]<|K26 b),a6,u6,aa,ab,R,((hE.stp (T7 S3 S7 S9 S14 S19 S27 S33) R R).map (ren [(4,2),(7,3)]) R R),((f20.stp (S27.tr S33) R R).map (ren [(4,2),(7,3)]) R R),(((f25.mx (cm (bI _) _) m28 R (R:5+2=7)).stp S33 R R).map (ren [(4,2),(7,3)]) R R)⟩
theorem pX {a0 u0}{p0:(List Pair)}{p1:Int}(g0:Rd Pair.rp κ w 0 a0 u0 p0){r:Bool}(h:jA p0 p1=some r):Ret Tryz.prog 197 [.slice a0 p0.length u0,vi p1] w (Pvb κ w r):=by
 unfold jA at h
 refine Jk3 κ F197 R N197 R λhE=>Je3 R<|Jq<|Jg3 [2,2,2] 1 R<|Jn3 R U98 R R<|Jb 1 R ?_
 have hN1:(p0.length:Int)<=9223372036854775807:=g0.len_le
 refine Ob h λq2 hq3 hK2=>?_
 clear h
 refine Jx1 (λL w'=>∃κ',L=[(0,.slice a0 p0.length u0)]/\Stp [2] κ w κ' w'/\q2=xe ()) ?_ ?_
 refine Jv<|Jy1 (λk L w'=>∃κ' v9,L=[(0,.slice a0 p0.length u0),(1,vi p1),(7,.slice a0 p0.length u0),(8,vi (p0.length:Int)),(9,vi v9)]/\Stp [2] κ w κ' w'/\0<=v9/\xh ((p0.length:Int)-v9)=k/\cntM (fX p0 p1) k v9 ()=some q2) ⟨_,_,⟨κ,0,R,Jj3,(by decide),(by simp),hq3⟩,(KM R)⟩ ?_
 rintro k _ w7 ⟨K8,v9,rfl,S9,hj1,hJ1,h⟩
 rcases k with _ | k
 have hk10:=h;obtain⟨o1,h⟩:=bP (xe (xf ()):Bool⊕((Unit)⊕(Unit)))
 have hc1:decide (v9<(p0.length:Int))=false:=Jo2 (by omega)
 refine Je3 R<|Jq<|Jw2 R hc1<|Jc1<|Jt<|Jt ?_
 cases h
 have h:=hk10
 refine Jb1 ?_
 cases h
 exact Jw1 _ ⟨K8,R,S9.wk R,R⟩<|KM R
 obtain⟨o1,h,hk10⟩:=BI h;unfold fX at h
 have hc1:decide (v9<(p0.length:Int))=true:=Jn2 (by omega)
 refine Je3 R<|Jq<|Jv2 R hc1<|Js<|Jp<|Jq<|Jv<|Je [2,1,1,1] R<|Ob h λx11 hx11 h=>Jc3 R g0 hx11 U98 Z154 ?_
 obtain⟨cse12,hre12,hle12⟩:=((g0.stp S9 R R)).gSt hx11
 obtain⟨ae12_0,ue12_0,ae12_1,ue12_1,rfl,fe12_0,fe12_1⟩:=Pair.un hre12
 refine Jl tv R R R R (Jd2 (cs:=[.slice ae12_0 x11.Ask.length ue12_0,.slice ae12_1 x11.Give.length ue12_1]) I154 Z154 R R R<|haE hle12)<|Jg1 (κ:=K8) 2 R R R R R X154 R λb6 w13 K14 S15 f16=>Tv<|Jj1 (κ:=K14) 2 (vc:=[.slice ae12_0 x11.Ask.length ue12_0,.slice ae12_1 x11.Give.length ue12_1]) R R R R R R R Z154 R R f16 R λw17 S18 f19=>Tv<|Jd<|Je [2,1,2,1,2,2,2,1,2,1,2,2] R<|Jd3 R U154 R Z29<|Jb3 R I29 (f19.ld 0 R R)<|Jn 1 R<|Ob h λx16 hx16 h=>Jh R R R C217 (ka (κ:=Mk K14) (Ji3<|fe12_0.stp (S15.tr S18) R R) hx16) ?_
 rintro _ w21 ⟨k22,rfl,e23⟩
 obtain⟨K24,S25,m26⟩:=Ji e23 3 R
 refine Tv<|Jn 2 R<|Ob h λp24 h hK28=>Ju1 [(6,2),(7,1),(8,2),(9,1),(10,2),(11,2)] [] (λL w'=>L=[(0,.slice a0 p0.length u0),(1,vi p1),(7,.slice a0 p0.length u0),(8,vi (p0.length:Int)),(9,vi v9),(24,.bool p24)]/\∃κ',Stp [] K24 w21 κ' w') tv ?_ ?_
 revert h
 cases ht29:(!x16)
 refine JF λh=>Jd3 R U154 R Z29<|Jb3 R I29 ((f19.stp S25 R R).ld 1 R R)<|Jn 1 R<|Ob h λx22 hx22 h=>Jh R R R C217 (ka (κ:=Mk K24) (Ji3<|fe12_1.stp (T3 S15 S18 S25) R R) hx22) ?_
 rintro _ w32 ⟨k33,rfl,e34⟩
 obtain⟨K35,S36,m37⟩:=Ji e34 5 R
 refine Tv<|Jn 2 R ?_
 cases h
 exact Jv1 _ tv ⟨R,_,S36.wk R⟩<|KM R
 refine JT λh=>Jn 1 R<|Jd1 R R R R<|Jn 1 R<|Jd1 R R R R<|Jn 2 R ?_
 cases h
 exact Jv1 _ tv ⟨R,_,Jj3⟩<|KM R
 rintro _ w39 _ ⟨rfl,K40,S41⟩
 have h:=hK28
 refine Jd ?_
 revert h
 cases ht42:p24
 refine JF λh=>Jy R<|Js<|Jz<|Jp<|Jf3 R ?_
 have hw1:t0 .i64 (v9+1)=v9+1:=wr1 hj1 (Jm2 hc1) hN1
 rw[hw1]
 have hc1:=Jm2 hc1
 cases h
 exact Jz1 λa ha=>⟨k,_,Ja3 _,⟨K40,v9+1,R,(T5 S9 S15 S18 S25 S41).wk R,by omega,by omega,hk10⟩,(ha.mm R)⟩
 refine JT λh=>Jx R<|Je3 R<|Ju<|Ja1<|Jw<|Jw ?_
 cases h
 obtain rfl:=Option.some.inj hk10
 have h:=yL hK2
 refine Ja1<|Jq2<|Jw<|Ja2 (l:=[.tmp 4]) V197 (Jp2 R R) R ?_
 cases h
 exact⟨K40,R,(hE.stp (T5 S9 S15 S18 S25 S41) R R)⟩
 rintro _ w4 ⟨K5,rfl,S6,rfl⟩
 have h:=yI hK2
 refine Jp<|Jg3 [2,2,2,2] 1 R<|Jn3 R U98 R R<|Jb 2 R<|Ju<|Ja2 (l:=[.tmp 4]) V197 (Jp2 R R) R ?_
 cases h
 exact⟨K5,R,(hE.stp S6 R R)⟩
theorem d7 {a0 u0}{p0:(List Int)}{c1_0:Int}{b1_0}(g0:Rd (Rp.int .i64) κ w 0 a0 u0 p0) (gb1_0:Bc κ w 0 b1_0 2 [vi c1_0]){r:Int}(h:cg p0 c1_0=some r):Ret Tryz.prog 91 [.slice a0 p0.length u0,.func (.func 112) #[] #[.pointer (some ⟨b1_0,0,none⟩)]] w (Pvi κ w r):=by
 unfold cg at h
 refine Jk3 κ F91 R N91 R λhE=>Je3 R<|Jq<|Jg3 [2,2,2] 1 R<|Jn3 R U29 R R<|Jb 1 R ?_
 have hN1:(p0.length:Int)<=9223372036854775807:=g0.len_le
 refine Ob h λq2 hq3 hK2=>?_
 clear h
 refine Jx1 (λL w'=>∃κ',L=[(1,.func (.func 112) #[] #[.pointer (some ⟨b1_0,0,none⟩)])]/\Stp [] κ w κ' w'/\q2=xe ()) ?_ ?_
 refine Jv<|Jy1 (λk L w'=>∃κ' v8,L=[(0,.slice a0 p0.length u0),(1,.func (.func 112) #[] #[.pointer (some ⟨b1_0,0,none⟩)]),(7,vi (p0.length:Int)),(8,vi v8)]/\Stp [] κ w κ' w'/\0<=v8/\xh ((p0.length:Int)-v8)=k/\cntM (ca p0 c1_0) k v8 ()=some q2) ⟨_,_,⟨κ,0,R,Jj3,(by decide),(by simp),hq3⟩,(KM R)⟩ ?_
 rintro k _ w7 ⟨K8,v8,rfl,S9,hj1,hJ1,h⟩
 rcases k with _ | k
 have hk10:=h;obtain⟨o1,h⟩:=bP (xe (xf ()):Int⊕((Unit)⊕(Unit)))
 have hc1:decide (v8<(p0.length:Int))=false:=Jo2 (by omega)
 refine Je3 R<|Jq<|Jw2 R hc1<|Jc1<|Jt<|Jt ?_
 cases h
 have h:=hk10
 refine Jb1 ?_
 cases h
 exact Jw1 _ ⟨K8,R,S9.wk R,R⟩<|KM R
 obtain⟨o1,h,hk10⟩:=BI h;unfold ca at h
 have hc1:decide (v8<(p0.length:Int))=true:=Jn2 (by omega)
 refine Je3 R<|Jq<|Jv2 R hc1<|Js<|Jp<|Jq<|Jv<|Je3 R<|Jg3 [2,2,2,2,1,1] 3 R<|Ob h λx14 hx14 h=>Jc3 R g0 hx14 U29 Z2<|Jb3 R I2 ((g0.stp S9 R R).gInt hx14)<|Ob h λx16 hx16 h=>WO.callV R R R R R R R R C112 (ni (κ:=Mk K8) ((gb1_0.stp S9 R R).map (mp [] 0) R R) hx16) ?_
 rintro _ w13 ⟨k14,rfl,e15⟩
 obtain⟨K16,S17,m18⟩:=Ji e15 2 R
 refine Tv<|Jd ?_
 revert h
 cases ht20:x16
 refine JF λh=>Jy R<|Js<|Jz<|Jp<|Jf3 R ?_
 have hw1:t0 .i64 (v8+1)=v8+1:=wr1 hj1 (Jm2 hc1) hN1
 rw[hw1]
 have hc1:=Jm2 hc1
 cases h
 exact Jz1 λa ha=>⟨k,_,Ja3 _,⟨K16,v8+1,R,(S9.tr S17).wk R,by omega,by omega,hk10⟩,(ha.mm R)⟩
 refine JT λh=>Jx R<|Je3 R<|Ju<|Ja1<|Jw<|Jw ?_
 cases h
 obtain rfl:=Option.some.inj hk10
 have h:=yL hK2
 refine Ja1<|Jq2<|Jw<|Ja2 (l:=[.tmp 4]) V91 (Jp2 R R) R ?_
 cases h
 exact⟨K16,R,(hE.stp (S9.tr S17) R R)⟩
 rintro _ w4 ⟨K5,rfl,S6,rfl⟩
 have h:=yI hK2
 refine Jp<|Je3 R<|Ju<|Ja2 (l:=[.tmp 4]) V91 (Jp2 R R) R ?_
 cases h
 exact⟨K5,R,(hE.stp S6 R R)⟩
theorem lM {a0 u0}{p0:(List (List Int))}{a1 u1}{p1:(List (List Int))}(g0:Rd (Rp.sl (Rp.int .i64)) κ w 0 a0 u0 p0) (g1:Rd (Rp.sl (Rp.int .i64)) κ w 0 a1 u1 p1){r:Bool}(h:gv p0 p1=some r):Ret Tryz.prog 83 [.slice a0 p0.length u0,.slice a1 p1.length u1] w (Pvb κ w r):=by
 unfold gv at h
 refine Jk3 κ F83 R N83 R λhE=>Je3 R<|Jq<|Jg3 [2,2,2,2,2] 1 R<|Jn3 R U26 R R<|Jn 1 R<|Jn3 R U26 R R<|Jb 1 R ?_
 revert h
 cases ht1:((p0.length:Int) !=(p1.length:Int))
 refine JF λh=>Jy R<|Js<|Jp<|Jq<|Je3 R ?_
 have hN2:(p0.length:Int)<=9223372036854775807:=g0.len_le
 refine Ob h λq2 hq4 hK3=>?_
 clear h
 refine Jx1 (λL w'=>∃κ',L=[]/\Stp [] κ w κ' w'/\q2=xe ()) ?_ ?_
 refine Jv<|Jy1 (λk L w'=>∃κ' v5,L=[(0,.slice a0 p0.length u0),(1,.slice a1 p1.length u1),(5,vi v5)]/\Stp [] κ w κ' w'/\0<=v5/\xh ((p0.length:Int)-v5)=k/\cntM (fk p0 p1) k v5 ()=some q2) ⟨_,_,⟨κ,0,R,Jj3,(by decide),(by simp),hq4⟩,(KM R)⟩ ?_
 rintro k _ w8 ⟨K9,v5,rfl,S10,hj2,hJ2,h⟩
 rcases k with _ | k
 have hk11:=h;obtain⟨o2,h⟩:=bP (xe (xf ()):Bool⊕((Unit)⊕(Unit)))
 have hc2:decide (v5<(p0.length:Int))=false:=Jo2 (by omega)
 refine Jq<|Jg3 [2,2,2,2] 2 R<|Jn3 R U26 R R<|Jb 1 R<|Jw2 R hc2<|Jc1<|Jt<|Jt ?_
 cases h
 have h:=hk11
 refine Jb1 ?_
 cases h
 exact Jw1 _ ⟨K9,R,S10.wk R,R⟩ KN
 obtain⟨o2,h,hk11⟩:=BI h;unfold fk at h
 have hc2:decide (v5<(p0.length:Int))=true:=Jn2 (by omega)
 refine Jq<|Jg3 [2,2,2,2] 2 R<|Jn3 R U26 R R<|Jb 1 R<|Jv2 R hc2<|Js<|Jp<|Jq<|Jv<|Jq<|Js1 (κ:=K9) [0] none [(0,2),(1,2),(2,2),(4,2),(5,2),(6,2),(3,0),(7,0),(8,1),(9,2)] [] (by kernel_rfl) (by kernel_rfl) λw13 S12=>Jn 2 R<|Ob h λx19 hx19 h=>Jc3 R g0 hx19 U26 Z29<|Jn 2 R<|Ob h λx23 hx23 h=>Jc3 R g1 hx23 U26 Z29 ?_
 obtain⟨ax19,ux19,f15,hl16⟩:=(g0.stp (S10.tr S12) R R).gSl hx19
 refine Jg R (Jc2 I29 R R<|hvC hl16 R) ?_
 obtain⟨ax23,ux23,f18,hl19⟩:=(g1.stp (S10.tr S12) R R).gSl hx23
 refine Jg R (Jc2 I29 R R<|hvC hl19 R)<|Ob h λx25 hx25 h=>Jh R R R C82 (kr (κ:=Mk K9) (Ji3 f15) (Ji3 f18) hx25) ?_
 rintro _ w20 ⟨k21,rfl,e22⟩
 obtain⟨K23,S24,m25⟩:=Ji e22 2 R
 refine⟨(S24.cl R),Jn 1 R<|Jt1<|Jd ?_⟩
 revert h
 cases ht27:(!x25)
 refine JF λh=>Jy R<|Js<|Jz<|Jp<|Jf3 R ?_
 have hw2:t0 .i64 (v5+1)=v5+1:=wr1 hj2 (Jm2 hc2) hN2
 rw[hw2]
 have hc2:=Jm2 hc2
 cases h
 exact Jz1 λa ha=>⟨k,_,Ja3 _,⟨K23,v5+1,R,(T3 S10 S12 S24).wk R,by omega,by omega,hk11⟩,(ha.mm R)⟩
 refine JT λh=>Jx R<|Je3 R<|Ju<|Ja1<|Jw<|Jw ?_
 cases h
 obtain rfl:=Option.some.inj hk11
 have h:=yL hK3
 refine Ja1<|Jq2<|Jw<|Ja2 (l:=[.tmp 4]) V83 (Jp2 R R) R ?_
 cases h
 exact⟨K23,R,(hE.stp (T3 S10 S12 S24) R R)⟩
 rintro _ w5 ⟨K6,rfl,S7,rfl⟩
 have h:=yI hK3
 refine Jp<|Je3 R<|Ju<|Ja2 (l:=[.tmp 4]) V83 (Jp2 R R) R ?_
 cases h
 exact⟨K6,R,(hE.stp S7 R R)⟩
 refine JT λh=>Jx R<|Je3 R<|Ju<|Jw<|Ja2 (l:=[.tmp 4]) V83 (Jp2 R R) R ?_
 cases h
 exact⟨κ,R,hE⟩
theorem nO {a0 u0}{p0:(List Clause)}{p1:Int}(g0:Oc Clause.ep119 119 κ w 2 a0 u0 p0){r:Int×(List Clause)}(h:gl p0 p1=some r):Ret Tryz.prog 24 [.slice a0 p0.length u0,vi p1] w (λv w'=>∃(κ':Col),v=vi r.1/\Ent κ w κ' w'/\Oc Clause.ep119 119 κ' w' 2 a0 u0 r.2/\p0.length=r.2.length):=by
 unfold gl at h
 refine Jk3 κ F24 R N24 R λhE=>Je3 R<|Jq<|Je3 R ?_
 have hN1:(p0.length:Int)<=9223372036854775807:=g0.len_le
 refine Ob h λq2 hq3 hK2=>?_
 clear h
 refine Jx1 (λL w'=>∃κ',∃s3:Int×(List Clause),L=[(1,vi s3.1)]/\Stp [2,3,4,5,8,9,10,13] κ w κ' w'/\Oc Clause.ep119 119 κ' w' 2 a0 u0 s3.2/\p0.length=s3.2.length/\q2=xe s3) ?_ ?_
 refine Jv<|Jy1 (λk L w'=>∃κ' v5,∃s1:Int×(List Clause),L=[(0,.slice a0 p0.length u0),(1,vi s1.1),(5,vi v5)]/\Stp [2,3,4,5,8,9,10,13] κ w κ' w'/\Oc Clause.ep119 119 κ' w' 2 a0 u0 s1.2/\p0.length=s1.2.length/\0<=v5/\xh ((p0.length:Int)-v5)=k/\cntM fG k v5 s1=some q2) ⟨_,_,⟨κ,0,(p1,p0),R,Jj3,g0,R,(by decide),(by simp),hq3⟩,(KM R)⟩ ?_
 rintro k _ w9 ⟨K10,v5,s1,rfl,S11,f12,hn13,hj1,hJ1,h⟩
 rcases k with _ | k
 have hk14:=h;obtain⟨o1,h⟩:=bP (xe (xf s1):(Int×(List Clause))⊕((Int×(List Clause))⊕(Int×(List Clause))))
 have hc1:decide (v5<(p0.length:Int))=false:=Jo2 (by omega)
 refine Jq<|Jg3 [2,2,2,2] 2 R<|Jn3 R U49 R R<|Jb 1 R<|Jw2 R hc1<|Jc1<|Jt<|Jt ?_
 cases h
 have h:=hk14
 refine Jb1 ?_
 cases h
 exact Jw1 _ ⟨K10,(s1.1,s1.2),R,S11.wk R,f12,hn13,R⟩<|KM R
 obtain⟨o1,h,hk14⟩:=BI h;unfold fG at h
 have hc1:decide (v5<(p0.length:Int))=true:=Jn2 (by omega)
 refine Jq<|Jg3 [2,2,2,2] 2 R<|Jn3 R U49 R R<|Jb 1 R<|Jv2 R hc1<|Js<|Jp<|Jq<|Jv<|Jg3 [2,2,2,2,2,1] 3 R<|Ob h λx15 hx15 h=>Jf R (Jf2 f12.rdc hx15 U49 Z119 R R hn13 R)<|Jd3 R U119 R Z2<|Ob h λy466 hy466 h=>WO.stG (κ:=K10) (E:=Clause.ep119) (vc:=[vi s1.1]) (e':=({ x15 with Kind:=s1.1 }:Clause)) 2 3 0 R R R R R R R R Z2 R R hx15 (λh=>we h) R R R f12 hy466 λw15 K16 S17 f18=>Tv<|?_
 have hn19:p0.length=y466.length:=hn13.trans (Jt2 hy466).2.2.2.symm
 refine Jd<|Je3 R<|Jg3 [2,2,2,2,1,2,1,2] 2 R<|Ob h λx21 hx21 h=>Jf R (Jf2 f18.rdc hx21 U49 Z119 R R hn19 R)<|Jd3 R U119 R Z29 ?_
 obtain⟨cse20,hre20,hle20⟩:=(f18.rdc).gSt hx21
 obtain⟨ae20_0,ue20_0,ae20_1,ue20_1,rfl,fe20_0,fe20_1⟩:=Clause.un hre20
 refine Jb3 R I29 (λw' hw'=>hle20 w' hw' 1 _ R)<|Jn 1 R ?_
 obtain⟨K21,S22,f23,f24,f25⟩:=Ow.borrowQ (f:=(λx:Clause=>(x.A,x.B))) (v0:=vi x21.Kind) (λh=>tJ h) R f18 hx21 (hle20 _ (Ag.refl _ _ _)) 4 5 R R R R
 have f26:Oc E6 2 K21 w15 4 ae20_0 ue20_0 x21.A:=f23
 have f27:Oc E6 2 K21 w15 5 ae20_1 ue20_1 x21.B:=f24
 refine Ob h λx25 hx25 h=>Jh R R R C85 (jk (κ:=λb=>mp [(4,2)] 0<|K21 b) (f26.map (mp [(4,2)] 0) R R) hx25) ?_
 rintro _ w28 ⟨k29,rfl,e30,f31,hn32⟩
 obtain⟨K33,S34,m35⟩:=Ji e30 6 R
 refine Tv<|Ob h λyb467 hyb467 h=>?_
 obtain⟨K40,S41,f42⟩:=Ow.unborrowQ (f:=(λx:Clause=>(x.A,x.B))) (y:=(⟨x21.Kind,x25.2,x21.B⟩:Clause)) (λh=>uL h) (f25.stp S34 R R) (f31.mx (bI _) m35 R (R:6+2=8)) (f27.stp S34 R R) (hn32) R R R R R R hyb467
 have hn43:p0.length=yb467.length:=hn19.trans (Jt2 hyb467).2.2.2.symm
 refine Jb 1 R<|Jh3 [2,2,2,2,1,2,1,2] 2 R<|Ob h λx28 hx28 h=>Jf R (Jf2 f42.rdc hx28 U49 Z119 R R hn43 R)<|Jd3 R U119 R Z29 ?_
 obtain⟨cse44,hre44,hle44⟩:=(f42.rdc).gSt hx28
 obtain⟨ae44_0,ue44_0,ae44_1,ue44_1,rfl,fe44_0,fe44_1⟩:=Clause.un hre44
 refine Jb3 R I29 (λw' hw'=>hle44 w' hw' 2 _ R)<|Jn 1 R ?_
 obtain⟨K45,S46,f47,f48,f49⟩:=Ow.borrowQ (f:=(λx:Clause=>(x.A,x.B))) (v0:=vi x28.Kind) (λh=>tJ h) R f42 hx28 (hle44 _ (Ag.refl _ _ _)) 9 10 R R R R
 have f50:Oc E6 2 K45 w28 9 ae44_0 ue44_0 x28.A:=f47
 have f51:Oc E6 2 K45 w28 10 ae44_1 ue44_1 x28.B:=f48
 refine Ob h λx32 hx32 h=>Jh R R R C85 (jk (κ:=λb=>mp [(10,2)] 0<|K45 b) (f51.map (mp [(10,2)] 0) R R) hx32) ?_
 rintro _ w52 ⟨k53,rfl,e54,f55,hn56⟩
 obtain⟨K57,S58,m59⟩:=Ji e54 11 R
 refine Tv<|Ob h λyb469 hyb469 h=>?_
 obtain⟨K64,S65,f66⟩:=Ow.unborrowQ (f:=(λx:Clause=>(x.A,x.B))) (y:=(⟨x28.Kind,x28.A,x32.2⟩:Clause)) (λh=>uL h) (f49.stp S58 R R) (f50.stp S58 R R) (f55.mx (bI _) m59 R (R:11+2=13)) R (hn56) R R R R R hyb469
 have hn67:p0.length=yb469.length:=hn43.trans (Jt2 hyb469).2.2.2.symm
 refine Jc 1 R<|Jz<|Jp<|Jf3 R ?_
 have hw1:t0 .i64 (v5+1)=v5+1:=wr1 hj1 (Jm2 hc1) hN1
 rw[hw1]
 have hc1:=Jm2 hc1
 cases h
 exact Jz1 λa ha=>⟨k,_,Ja3 _,⟨K64,v5+1,(x32.1,yb469),R,(T8 S11 S17 S22 S34 S41 S46 S58 S65).wk R,f66,hn67,by omega,by omega,hk14⟩,(ha.mm R)⟩
 rintro _ w4 ⟨K5,s3,rfl,S6,f7,hn8,rfl⟩
 have h:=yI hK2
 refine Jp<|Je3 R<|Ju<|Ja2 (l:=[.tmp 4]) V24 (Jp2 R R) R ?_
 cases h
 exact⟨K5,R,(hE.stp S6 R R),f7,hn8⟩
end Go.Proofs.YtpcjbkgbnoocaaaGreat
