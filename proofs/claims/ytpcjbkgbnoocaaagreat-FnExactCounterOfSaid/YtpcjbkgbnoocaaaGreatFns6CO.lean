/- The walks, part 6. By program. -/
import Derived.Test.YtpcjbkgbnoocaaaGreatFns0CO
import Derived.Test.YtpcjbkgbnoocaaaGreatFns1CO
import Derived.Test.YtpcjbkgbnoocaaaGreatFns2CO
import Derived.Test.YtpcjbkgbnoocaaaGreatFns3CO
set_option linter.unusedVariables false
set_option linter.unusedSimpArgs false
open Go.IntKind renaming wrap → hV
open Sum renaming inr → it, inl → sh
open Int renaming toNat → t5
namespace Go.Proofs.YtpcjbkgbnoocaaaGreat
open Go Go.Wk Go.Proofs
set_option maxRecDepth 100000
set_option maxHeartbeats 1000000
theorem oF {w:World}{κ:Col}{aa ad ac ab}{p0:Clause}{p1:Int}(g0_1:Rd (Rp.int .i64) κ w 0 aa ad p0.A) (g0_2:Rd (Rp.int .i64) κ w 0 ac ab p0.B){r:Int}(h:jk p0 p1=some r):Ret Tryz.prog 67 [.agg #[vi p0.Kind,.slice aa p0.A.length ad,.slice ac p0.B.length ab],vi p1] w (λv w'=>∃(κ':Col),v=vi r/\Ent κ w κ' w'):=by
 unfold jk at h
 refine Ret.enter F67 R N67 R ?_
 dsimp only[envOf]
 have hE:=Ent.refl κ w
 refine Je [1,2] R (Jf1 (κ:=κ) 2 R R R R R R R λb2 w1 K2 S3 f4=>⟨tv,Jb 1 R (Je [2,1,2,1,2] R (Jd3 R U97 R Z29 (Jb3 R I29 (f4.ld 1 R R) (Jn 1 R (Ob h λx8 hx8 h=>Jh R R R C113 (lG (κ:=Mk K2) (Ji3 (g0_1.stp S3 R R)) hx8) ?_)))))⟩)
 rintro _ w6 ⟨k7,rfl,e8⟩
 obtain⟨K9,S10,m11⟩:=Ji e8 3 R
 refine⟨tv,Jb 1 R (Jq (Je3 R ?_))⟩
 revert h
 cases ht13:decide (x8<0)
 refine JF λh=>Jy R (Js (Jp (Je [2,1,2,1,2] R (Jd3 R U97 R Z29 (Jb3 R I29 ((f4.stp S10 R R).ld 2 R R) (Jn 1 R (Ob h λx14 hx14 h=>Jh R R R C113 (lG (κ:=Mk K9) (Ji3 (g0_2.stp (S3.tr S10) R R)) hx14) ?_)))))))
 rintro _ w17 ⟨k18,rfl,e19⟩
 obtain⟨K20,S21,m22⟩:=Ji e19 5 R
 refine⟨tv,Jb 1 R (Jq (Je3 R ?_))⟩
 revert h
 cases ht24:decide (x14<0)
 refine JF λh=>Jy R (Js (Jp (Je3 R (Ju (Ja2 (l:=[.tmp 4]) V67 (Jp2 R R) R ?_)))))
 cases h
 exact⟨K20,R,(hE.stp (S3.tr (S10.tr S21)) R R)⟩
 refine JT λh=>Jx R (Je3 R (Ju (Jw (Ja2 (l:=[.tmp 4]) V67 (Jp2 R R) R ?_))))
 cases h
 exact⟨K20,R,(hE.stp (S3.tr (S10.tr S21)) R R)⟩
 refine JT λh=>Jx R (Je3 R (Ju (Jw (Ja2 (l:=[.tmp 4]) V67 (Jp2 R R) R ?_))))
 cases h
 exact⟨K9,R,(hE.stp (S3.tr S10) R R)⟩
theorem lF {w:World}{κ:Col}{a0 u0}{p0:(List Pair)}{a1 u1}{p1:(List (List Int))}{p2:Int}(g0:Rd Pair.rp κ w 0 a0 u0 p0) (g1:Rd (Rp.sl (Rp.int .i64)) κ w 0 a1 u1 p1){r:(List Pair)}(h:gD p0 p1 p2=some r):Ret Tryz.prog 209 [.slice a0 p0.length u0,.slice a1 p1.length u1,vi p2] w (λv w'=>∃(κ':Col) (ra0:Option Addr) (ru0:Nat),v= .slice ra0 r.length ru0/\Ent κ w κ' w'/\Oc Pair.ep154 154 κ' w' 2 ra0 ru0 r):=by
 unfold gD at h
 refine Ret.enter F209 R N209 R ?_
 dsimp only[envOf]
 have hE:=Ent.refl κ w
 refine Je3 R (Je [1,2] R (Jo1 (κ:=κ) (E:=Pair.ep154) 2 R R R R R Y98 Tryzinfo154 R λay aA w1 K2 S3 f4=>⟨tv,Jb 1 R (Jq (Je3 R ?_))⟩))
 have hN5:(p0.length:Int)<=9223372036854775807:=g0.len_le
 refine Ob h λq2 hq7 hK6=>?_
 clear h
 refine Jx1 (λL w'=>∃κ',∃s3:(List Pair),∃an ao,L=[(7,.slice an s3.length ao)]/\Stp [2,3,4,5,6] K2 w1 κ' w'/\Oc Pair.ep154 154 κ' w' 2 an ao s3/\q2=it s3) ?_ ?_
 refine Jv (Jy1 (λk L w'=>∃κ' v8,∃s1:(List Pair),∃ab aa,L=[(0,.slice a0 p0.length u0),(1,.slice a1 p1.length u1),(2,vi p2),(7,.slice ab s1.length aa),(8,vi v8)]/\Stp [2,3,4,5,6] K2 w1 κ' w'/\Oc Pair.ep154 154 κ' w' 2 ab aa s1/\0<=v8/\t5 ((p0.length:Int)-v8)=k/\cntM (eY p0 p1 p2) k v8 s1=some q2) ⟨_,_,⟨K2,0,(([]:List Pair):(List Pair)),ay,aA,R,Jj3,f4,(by decide),(by simp),hq7⟩,(KM R)⟩ ?_)
 rintro k _ w12 ⟨K13,v8,s1,ab,aa,rfl,S14,f15,hj5,hJ5,h⟩
 rcases k with _ | k
 have hk16:=h;obtain⟨o5,h⟩:=bO (it (sh s1):(List Pair)⊕(((List Pair))⊕((List Pair))))
 have hc5:decide (v8<(p0.length:Int))=false:=Jo2 (by omega)
 refine Jq (Jg3 [2,2,2,2] 2 R (Jf R (Je2 U98 R R) (Jb 1 R (Jw2 R hc5 (Jc1 (Jt (Jt ?_)))))))
 cases h
 have h:=hk16
 refine Jb1 ?_
 cases h
 exact Jw1 _ ⟨K13,(s1:(List Pair)),ab,aa,R,S14.wk R,f15,R⟩ (KM R)
 obtain⟨o5,h,hk16⟩:=BI h;unfold eY at h
 have hc5:decide (v8<(p0.length:Int))=true:=Jn2 (by omega)
 refine Jq (Jg3 [2,2,2,2] 2 R (Jf R (Je2 U98 R R) (Jb 1 R (Jv2 R hc5 (Js (Jp (Jq (Jv (Je [2,1,1] R (Jf R (bI (parts:=[]) (cells:=[.slice none 0 0,.slice none 0 0]) R R (by kernel_rfl)) (Jg1 (κ:=K13) 3 R R R R R X154 R λb9 w17 K18 S19 f20=>⟨tv,Jj1 (κ:=K18) 3 (vc:=[.slice none 0 0,.slice none 0 0]) R R R R R R R Z154 R R f20 R λw21 S22 f23=>⟨tv,Jd (Jq (Je3 R ?_))⟩⟩)))))))))))
 have hN24:(p1.length:Int)<=9223372036854775807:=g1.len_le
 refine Ob h λq5 hq26 hK25=>?_
 clear h
 refine Jx1 (λL w'=>∃κ',∃s6:(List Int)×(List Int),∃ac ah af ai,L=[(0,.slice a0 p0.length u0),(1,.slice a1 p1.length u1),(2,vi p2),(7,.slice ab s1.length aa),(8,vi v8),(9,.pointer (some ⟨b9,0,none⟩))]/\Stp [3,4,5] K18 w21 κ' w'/\Oc E6 2 κ' w' 4 ac ah s6.1/\Oc E6 2 κ' w' 5 af ai s6.2/\Bc κ' w' 3 b9 154 [.slice ac s6.1.length ah,.slice af s6.2.length ai]/\q5=it s6) ?_ ?_
 refine Jv (Jy1 (λk L w'=>∃κ' v10,∃s4:(List Int)×(List Int),∃am al ad ae,L=[(0,.slice a0 p0.length u0),(1,.slice a1 p1.length u1),(2,vi p2),(7,.slice ab s1.length aa),(8,vi v8),(9,.pointer (some ⟨b9,0,none⟩)),(10,vi v10)]/\Stp [3,4,5] K18 w21 κ' w'/\Oc E6 2 κ' w' 4 am al s4.1/\Oc E6 2 κ' w' 5 ad ae s4.2/\Bc κ' w' 3 b9 154 [.slice am s4.1.length al,.slice ad s4.2.length ae]/\0<=v10/\t5 ((p1.length:Int)-v10)=k/\cntM (fv p0 p1 p2 v8) k v10 s4=some q5) ⟨_,_,⟨K18,0,((([]:List Int):(List Int)),(([]:List Int):(List Int))),none,0,none,0,R,Jj3,Ow.nil,Ow.nil,f23,(by decide),(by simp),hq26⟩,(KM R)⟩ ?_)
 rintro k _ w33 ⟨K34,v10,s4,am,al,ad,ae,rfl,S35,f36,f37,f38,hj24,hJ24,h⟩
 rcases k with _ | k
 have hk39:=h;obtain⟨o24,h⟩:=bO (it (sh s4):(List Pair)⊕(((List Int)×(List Int))⊕((List Int)×(List Int))))
 have hc24:decide (v10<(p1.length:Int))=false:=Jo2 (by omega)
 refine Jq (Jg3 [2,2,2,2] 2 R (Jf R (Je2 U26 R R) (Jb 1 R (Jw2 R hc24 (Jc1 (Jt (Jt ?_)))))))
 cases h
 have h:=hk39
 refine Jb1 ?_
 cases h
 exact Jw1 _ ⟨K34,((s4.1:(List Int)),(s4.2:(List Int))),am,al,ad,ae,R,S35.wk R,f36,f37,f38,R⟩ (KM R)
 obtain⟨o24,h,hk39⟩:=BI h;unfold fv at h
 have hc24:decide (v10<(p1.length:Int))=true:=Jn2 (by omega)
 refine Jq (Jg3 [2,2,2,2] 2 R (Jf R (Je2 U26 R R) (Jb 1 R (Jv2 R hc24 (Js (Jp (Jq (Jv (Jq (Jq (Js1 (κ:=K34) [0] none [(0,2),(1,2),(2,2),(3,2),(5,2),(6,2),(7,2),(9,2),(4,0),(8,0),(10,2),(11,0),(12,1)] [] (by kernel_rfl) (by kernel_rfl) λw41 S40=>Jn 2 R (Ob h λx27 hx27 h=>Jc3 R g0 hx27 U98 Z154 (Jd3 R U154 R Z29 (Jn 2 R (Ob h λx32 hx32 h=>Jc3 R g1 hx32 U26 Z29 (Jn 1 R ?_))))))))))))))))
 have f42:=g0.stp (S3.tr (S14.tr (S19.tr (S22.tr (S35.tr S40))))) R R
 obtain⟨cse43,hre43,hle43⟩:=(f42).gSt hx27
 obtain⟨ae43_0,ue43_0,ae43_1,ue43_1,rfl,fe43_0,fe43_1⟩:=Pair.un hre43
 refine Jg R (Jc2 I29 R R (hvC (λw' hw'=>hle43 w' hw' 0 _ R) R)) ?_
 have f44:=g1.stp (S3.tr (S14.tr (S19.tr (S22.tr (S35.tr S40))))) R R
 obtain⟨ax32,ux32,f45,hl46⟩:=f44.gSl hx32
 refine Jg R (Jc2 I29 R R (hvC hl46 R)) (Ob h λx35 hx35 h=>Jc3 R f45 hx35 U29 Z2 (Jg R (Jc2 I2 R R (hvC (f45.gInt hx35) R)) (Ob h λx37 hx37 h=>Jh R R R C201 (kl (κ:=Mk K34) (Ji3 fe43_0) hx37) ?_)))
 rintro _ w47 ⟨k48,rfl,e49⟩
 obtain⟨K50,S51,m52⟩:=Ji e49 6 R
 refine⟨(S51.cl R),Jt1 (Jd (Ob h λq7 h hK54=>Jx1 (λL w'=>∃κ' ak aj,L=[(0,.slice a0 p0.length u0),(1,.slice a1 p1.length u1),(2,vi p2),(7,.slice ab s1.length aa),(8,vi v8),(9,.pointer (some ⟨b9,0,none⟩)),(10,vi v10)]/\Stp [3,4] K50 w47 κ' w'/\Oc E6 2 κ' w' 4 ak aj q7/\Bc κ' w' 3 b9 154 [.slice ak q7.length aj,.slice ad s4.2.length ae]) ?_ ?_))⟩
 revert h
 cases ht60:x37
 refine JF λh=>Jy R (Js ?_)
 cases h
 exact Jw1 _ ⟨K50,am,al,R,Jj3,(f36.stp (S40.tr S51) R R),(f38.stp (S40.tr S51) R R)⟩ (KM R)
 refine JT λh=>Jx R (Ja [2,1,2,1,1,2,1] R (Jd3 R U154 R Z29 ?_))
 have f61:=f38.stp (S40.tr S51) R R
 refine Jb3 R I29 (f61.ld 0 R R) (Jn 1 R (Jn1 (κ:=K50) (E:=E6) 8 [] (parts:=[(0,.tmp 40)]) (cells:=[vi v10]) (xs:=([v10]:List Int)) R R R R R R Y29 Tryzinfo2 R R R R R R R R R R ⟨[vi v10],[],Zl K50 w47 [],Zl K50 w47 [],R,Zl.sp (l1:=[]) (l2:=[]) R,Zl.sr (l1:=[]) (l2:=[]),R,R⟩ λaB aC w62 K63 S64 f65=>⟨tv,Ob h λx42 hx42 h=>Jm1 (κ:=K63) (E:=E6) 4 [] R R R R R R R R R Y29 Tryzinfo2 R R R R (f36.stp (S40.tr (S51.tr S64)) R R) (Sl.srcP (bT _) f65.rdc) bJ hx42 R λaw au w67 K68 S69 f70=>⟨tv,Jd3 R U154 R Z29 (Ji1 (κ:=K68) 3 (off:=0) (vc:=[.slice aw x42.length au]) (cs':=[.slice aw x42.length au,.slice ad s4.2.length ae]) R R R R R R R Z29 R R (f61.stp (S64.tr S69) R R) R R λw72 S73 f74=>⟨tv,Jo ?_⟩)⟩⟩))
 cases h
 exact Jw1 _ ⟨K68,aw,au,R,(S64.tr (S69.tr S73)).wk R,(f70.stp S73 R R),f74⟩ (KM R)
 rintro _ w55 ⟨K56,ak,aj,rfl,S57,f58,f59⟩
 have h:=hK54
 refine Jp (Jq (Js1 (κ:=K56) [0] none [(0,2),(1,2),(2,2),(3,2),(5,2),(6,2),(7,2),(9,2),(4,0),(8,0),(10,2),(11,0),(12,1)] [] (by kernel_rfl) (by kernel_rfl) λw79 S78=>Jn 2 R (Ob h λx46 hx46 h=>Jc3 R f42 hx46 U98 Z154 (Jd3 R U154 R Z29 (Jn 2 R (Ob h λx51 hx51 h=>Jc3 R f44 hx51 U26 Z29 (Jn 1 R ?_)))))))
 obtain⟨cse81,hre81,hle81⟩:=((f42.stp (S51.tr (S57.tr S78)) R R)).gSt hx46
 obtain⟨ae81_0,ue81_0,ae81_1,ue81_1,rfl,fe81_0,fe81_1⟩:=Pair.un hre81
 refine Jg R (Jc2 I29 R R (hvC (λw' hw'=>hle81 w' hw' 1 _ R) R)) ?_
 obtain⟨ax51,ux51,f83,hl84⟩:=(f44.stp (S51.tr (S57.tr S78)) R R).gSl hx51
 refine Jg R (Jc2 I29 R R (hvC hl84 R)) (Ob h λx54 hx54 h=>Jc3 R f83 hx54 U29 Z2 (Jg R (Jc2 I2 R R (hvC (f83.gInt hx54) R)) (Ob h λx56 hx56 h=>Jh R R R C201 (kl (κ:=Mk K56) (Ji3 fe81_1) hx56) ?_)))
 rintro _ w85 ⟨k86,rfl,e87⟩
 obtain⟨K88,S89,m90⟩:=Ji e87 8 R
 refine⟨(S89.cl R),Jt1 (Jd (Ob h λq8 h hK92=>Jx1 (λL w'=>∃κ' aq ap,L=[(0,.slice a0 p0.length u0),(1,.slice a1 p1.length u1),(2,vi p2),(7,.slice ab s1.length aa),(8,vi v8),(9,.pointer (some ⟨b9,0,none⟩)),(10,vi v10)]/\Stp [3,5] K88 w85 κ' w'/\Oc E6 2 κ' w' 5 aq ap q8/\Bc κ' w' 3 b9 154 [.slice ak q7.length aj,.slice aq q8.length ap]) ?_ ?_))⟩
 revert h
 cases ht98:x56
 refine JF λh=>Jy R (Js ?_)
 cases h
 exact Jw1 _ ⟨K88,ad,ae,R,Jj3,(f37.stp (S40.tr (S51.tr (S57.tr (S78.tr S89)))) R R),(f59.stp (S78.tr S89) R R)⟩ (KM R)
 refine JT λh=>Jx R (Ja [2,1,2,1,1,2,1] R (Jd3 R U154 R Z29 ?_))
 have f99:=f59.stp (S78.tr S89) R R
 refine Jb3 R I29 (f99.ld 1 R R) (Jn 1 R (Jn1 (κ:=K88) (E:=E6) 10 [] (parts:=[(0,.tmp 59)]) (cells:=[vi v10]) (xs:=([v10]:List Int)) R R R R R R Y29 Tryzinfo2 R R R R R R R R R R ⟨[vi v10],[],Zl K88 w85 [],Zl K88 w85 [],R,Zl.sp (l1:=[]) (l2:=[]) R,Zl.sr (l1:=[]) (l2:=[]),R,R⟩ λaD aG w100 K101 S102 f103=>⟨tv,Ob h λx61 hx61 h=>Jm1 (κ:=K101) (E:=E6) 5 [] R R R R R R R R R Y29 Tryzinfo2 R R R R (f37.stp (S40.tr (S51.tr (S57.tr (S78.tr (S89.tr S102))))) R R) (Sl.srcP (bT _) f103.rdc) bJ hx61 R λar av w105 K106 S107 f108=>⟨tv,Jd3 R U154 R Z29 (Ji1 (κ:=K106) 3 (off:=1) (vc:=[.slice ar x61.length av]) (cs':=[.slice ak q7.length aj,.slice ar x61.length av]) R R R R R R R Z29 R R (f99.stp (S102.tr S107) R R) R R λw110 S111 f112=>⟨tv,Jo ?_⟩)⟩⟩))
 cases h
 exact Jw1 _ ⟨K106,ar,av,R,(S102.tr (S107.tr S111)).wk R,(f108.stp S111 R R),f112⟩ (KM R)
 rintro _ w93 ⟨K94,aq,ap,rfl,S95,f96,f97⟩
 have h:=hK92
 refine Jz (Jp (Jf3 R ?_))
 have hw24:hV .i64 (v10+1)=v10+1:=wr1 hj24 (Jm2 hc24) hN24
 rw[hw24]
 have hc24:=Jm2 hc24
 cases h
 exact Jz1 λa ha=>⟨k,_,Ja3 _,⟨K94,v10+1,((q7:(List Int)),(q8:(List Int))),ak,aj,aq,ap,R,(S35.tr (S40.tr (S51.tr (S57.tr (S78.tr (S89.tr S95)))))).wk R,(f58.stp (S78.tr (S89.tr S95)) R R),f96,f97,by omega,by omega,hk39⟩,(ha.mm R)⟩
 rintro _ w27 ⟨K28,s6,ac,ah,af,ai,rfl,S29,f30,f31,f32,rfl⟩
 have h:=hK25
 dsimp only[aft]at h
 refine Jp (Jh3 [2,1,1,1,2] 1 R (Jl tv R R R R (Jd2 (cs:=[.slice ac s6.1.length ah,.slice af s6.2.length ai]) I154 Z154 R R R (haE f32.cells)) (Jn1 (κ:=K28) (E:=Pair.ep154) 6 [4,5] (parts:=[(0,.tmp 64)]) (cells:=[.slice ac s6.1.length ah,.slice af s6.2.length ai]) (xs:=([(⟨s6.1,s6.2⟩:Pair)]:List Pair)) R R R R R R Y98 Tryzinfo154 R R R R R R R R R R ⟨[.slice ac s6.1.length ah,.slice af s6.2.length ai],[],Zl K28 w27 [4,5],Zl K28 w27 [],R,Zl.sp (l1:=[4,5]) (l2:=[]) R,Zl.sr (l1:=[4,5]) (l2:=[]),⟨[.slice ac s6.1.length ah],[.slice af s6.2.length ai],Zl K28 w27 [4],Zl K28 w27 [5],R,Zl.sp (l1:=[4]) (l2:=[5]) R,Zl.sr (l1:=[4]) (l2:=[5]),⟨_,_,R,f30⟩,⟨_,_,R,f31⟩⟩,R⟩ λaE aF w117 K118 S119 f120=>⟨tv,Ob h λx66 hx66 h=>Jm1 (κ:=K118) (E:=Pair.ep154) 2 [6] R R R R R R R R R Y98 Tryzinfo154 R R R R (f15.stp (S19.tr (S22.tr (S29.tr S119))) R R) f120.src (cZ R) hx66 R λaz ax w122 K123 S124 f125=>⟨tv,Jc 1 R (Jz (Jp (Jf3 R ?_)))⟩⟩)))
 have hw5:hV .i64 (v8+1)=v8+1:=wr1 hj5 (Jm2 hc5) hN5
 rw[hw5]
 have hc5:=Jm2 hc5
 cases h
 exact Jz1 λa ha=>⟨k,_,Ja3 _,⟨K123,v8+1,(x66:(List Pair)),az,ax,R,(S14.tr (S19.tr (S22.tr (S29.tr (S119.tr S124))))).wk R,f125,by omega,by omega,hk16⟩,(ha.mm R)⟩
 rintro _ w8 ⟨K9,s3,an,ao,rfl,S10,f11,rfl⟩
 have h:=hK6
 dsimp only[aft]at h
 refine Jp (Je3 R (Ju (Ja2 (l:=[.tmp 6]) V209 (Jp2 R R) R ?_)))
 cases h
 exact⟨K9,an,ao,R,(hE.stp (S3.tr S10) R R),f11⟩
theorem kJ {w:World}{κ:Col}{p0:Sig}  {r:Int}(h:eO p0=some r):Ret Tryz.prog 72 [.agg #[vi p0.In,vi p0.Out]] w (λv w'=>∃(κ':Col),v=vi r/\Ent κ w κ' w'):=by
 unfold eO at h
 refine Ret.enter F72 R N72 R ?_
 dsimp only[envOf]
 have hE:=Ent.refl κ w
 refine Je [1,2] R (Jf1 (κ:=κ) 2 R R R R R R R λb1 w1 K2 S3 f4=>⟨tv,Jb 1 R (Je [2,1,1,2] R (Jd3 R U25 R Z2 (Jb3 R I2 (f4.ld 0 R R) (Ob h λx5 hx5 h=>Jh R R R C59 (dh (κ:=Mk K2) hx5) ?_))))⟩)
 rintro _ w5 ⟨k6,rfl,e7⟩
 obtain⟨K8,S9,m10⟩:=Ji e7 3 R
 refine⟨tv,Jb 1 R (Ju (Ja2 (l:=[.tmp 2]) V72 (Jp2 R R) R ?_))⟩
 cases h
 exact⟨K8,R,(hE.stp (S3.tr S9) R R)⟩
theorem qS {w:World}{κ:Col}{a0 u0}{p0:(List Int)}{p1:Int}(g0:Rd (Rp.int .i64) κ w 0 a0 u0 p0){r:(List Int)}(h:ib p0 p1=some r):Ret Tryz.prog 168 [.slice a0 p0.length u0,vi p1] w (λv w'=>∃(κ':Col) (ra0:Option Addr) (ru0:Nat),v= .slice ra0 r.length ru0/\Ent κ w κ' w'/\Rd (Rp.int .i64) κ' w' 0 ra0 ru0 r):=by
 unfold ib at h
 refine Ret.enter F168 R N168 R ?_
 dsimp only[envOf]
 have hE:=Ent.refl κ w
 refine Je3 R (Je3 R (Jq (Ob h λq2 hq3 hK2=>?_)))
 clear h
 refine Jx1 (λL w'=>∃κ' s3,L=[(0,.slice a0 p0.length u0),(1,vi p1),(5,vi s3)]/\Stp [] κ w κ' w'/\q2=it s3) ?_ ?_
 refine Jv (Jy1 (λk L w'=>∃κ' s1,L=[(0,.slice a0 p0.length u0),(1,vi p1),(5,vi s1)]/\Stp [] κ w κ' w'/\whileM (eF p0 p1) k s1=some q2) ⟨_,_,⟨κ,(0:Int),R,Jj3,hq3⟩,(KM R)⟩ ?_)
 rintro k _ w7 ⟨K8,s1,rfl,S9,h⟩
 rcases k with _ | k
 cases h
 obtain⟨o1,h,hk10⟩:=BI h;unfold eF at h
 refine Jq (Jg3 [2,2,2,2,2,2,2,2,1,2,2,2] 2 R (Jf R (Je2 U29 R R) (Jn 2 R (Ob h λp18 h hK11=>Ju1 [(5,2),(6,2),(7,2),(8,1),(9,2),(10,2),(11,2)] [] (λL w'=>L=[(0,.slice a0 p0.length u0),(1,vi p1),(5,vi s1),(18,.bool p18)]/\∃κ',Stp [] K8 w7 κ' w') tv ?_ ?_))))
 revert h
 cases ht12:decide (s1<(p0.length:Int))
 refine JF λh=>Jn 3 R (Jd1 R R R R (Jn 3 R ?_))
 cases h
 exact Jv1 _ tv ⟨R,_,Jj3⟩ (KM R)
 refine JT λh=>Jn 2 R (Ob h λx14 hx14 h=>Jc3 R g0 hx14 U29 Z2 (Jb3 R I2 ((g0.stp S9 R R).gInt hx14) (Jn 3 R ?_)))
 cases h
 exact Jv1 _ tv ⟨R,_,Jj3⟩ (KM R)
 rintro _ w14 _ ⟨rfl,K15,S16⟩
 have h:=hK11
 refine Jd ?_
 revert h
 cases ht17:p18
 refine JF λh=>Jy R (Jc1 (Jt (Jt ?_)))
 cases h
 have h:=hk10
 refine Jb1 ?_
 cases h
 exact Jw1 _ ⟨K15,(s1:Int),R,(S9.tr S16).wk R,R⟩ (KM R)
 refine JT λh=>Jx R (Js (Jp (Jv (Jf3 R (Jz ?_)))))
 cases h
 exact Jz1 λa ha=>⟨k,_,Ja3 _,⟨K15,((IntKind.i64.wrap (s1+1)):Int),R,(S9.tr S16).wk R,hk10⟩,(ha.mm R)⟩
 rintro _ w4 ⟨K5,s3,rfl,S6,rfl⟩
 have h:=hK2
 dsimp only[aft]at h
 refine Jp (Jq (Jg3 [2,2,2,2,2,2,2,2,1,2,2,2] 2 R (Jf R (Je2 U29 R R) (Jn 2 R (Ob h λp32 h hK18=>Ju1 [(5,2),(6,2),(7,2),(8,1),(9,2),(10,2),(11,2)] [] (λL w'=>L=[(0,.slice a0 p0.length u0),(1,vi p1),(5,vi s3),(32,.bool p32)]/\∃κ',Stp [] K5 w4 κ' w') tv ?_ ?_)))))
 revert h
 cases ht19:decide (s3<(p0.length:Int))
 refine JF λh=>Jn 3 R (Jd1 R R R R (Jn 3 R ?_))
 cases h
 exact Jv1 _ tv ⟨R,_,Jj3⟩ (KM R)
 refine JT λh=>Jn 2 R (Ob h λx28 hx28 h=>Jc3 R g0 hx28 U29 Z2 (Jb3 R I2 ((g0.stp S6 R R).gInt hx28) (Jn 3 R ?_)))
 cases h
 exact Jv1 _ tv ⟨R,_,Jj3⟩ (KM R)
 rintro _ w21 _ ⟨rfl,K22,S23⟩
 have h:=hK18
 refine Jd ?_
 revert h
 cases ht24:p32
 refine JF λh=>Jy R (Js (Jp (Jg3 [2,2,2,1,2,1,1,2] 2 R (Ob h λx36 hx36 h=>Jf R (kI (k1:= .i64) (k2:= .i64) U29 Z2 (.inl ⟨R,R⟩) (.inr ⟨_,R,R⟩) hx36 g0.1 R R R) ?_))))
 have f28:=g0.stp (S6.tr S23) R R
 refine Ob h λx37 hx37 h=>Jh R R R C56 (db (κ:=Mk K22) (Ji3 (f28.sub hx36)) hx37) ?_
 rintro _ w29 ⟨k30,af,ah,rfl,e31,f32⟩
 obtain⟨K33,S34,m35⟩:=Ji e31 2 R
 refine⟨tv,Jn 1 R (Jn1 (κ:=K33) (E:=E6) 5 [] (parts:=[(0,.tmp 38)]) (cells:=[vi p1]) (xs:=([p1]:List Int)) R R R R R R Y29 Tryzinfo2 R R R R R R R R R R ⟨[vi p1],[],Zl K33 w29 [],Zl K33 w29 [],R,Zl.sp (l1:=[]) (l2:=[]) R,Zl.sr (l1:=[]) (l2:=[]),R,R⟩ λae ac w38 K39 S40 f41=>⟨tv,Ob h λx40 hx40 h=>Jm1 (κ:=K39) (E:=E6) 4 [] R R R R R R R R R Y29 Tryzinfo2 R R R R ((f32.mx (bH _) m35 R (R:2+2=4)).stp S40 R R) (Sl.srcP (bT _) f41.rdc) bJ hx40 R λai ad w43 K44 S45 f46=>⟨tv,Jb 1 R (Jg3 [2,2,2,2,1,2] 3 R (Ob h λx44 hx44 h=>Jf R (kI (k1:= .i64) (k2:= .i64) U29 Z2 (.inr ⟨_,R,R⟩) (.inl ⟨R,R⟩) hx44 f28.1 R R R) (Ob h λx45 hx45 h=>Jm1 (κ:=K44) (E:=E6) 4 [] R R R R R R R R R Y29 Tryzinfo2 R R R R f46 (Sl.srcP (bT _) ((f28.stp (S34.tr (S40.tr S45)) R R).sub hx44)) bJ hx45 R λab aa w49 K50 S51 f52=>⟨tv,Jb 1 R (Ju ?_)⟩)))⟩⟩)⟩
 obtain⟨K53,S54,z55⟩:=dL K50 w49 4
 refine Ja2 (l:=[.tmp 4]) V168 (Jp2 R R) R ?_
 cases h
 exact⟨K53,ab,aa,R,(hE.stp (S6.tr (S23.tr (S34.tr (S40.tr (S45.tr (S51.tr S54)))))) R R),(Sl.st z55 f52.rdc)⟩
 refine JT λh=>Jx R (Je3 R (Ju (Jw (Ja2 (l:=[.tmp 4]) V168 (Jp2 R R) R ?_))))
 cases h
 exact⟨K22,a0,u0,R,(hE.stp (S6.tr S23) R R),(g0.stp (S6.tr S23) R R)⟩
theorem qd {w:World}{κ:Col}{a0 u0}{p0:(List Place)}{p1:Int}{a2 u2}{p2:(List Int)}(g0:Rd Place.rp κ w 0 a0 u0 p0) (g2:Rd (Rp.int .i64) κ w 0 a2 u2 p2){r:Int}(h:jJ p0 p1 p2=some r):Ret Tryz.prog 122 [.slice a0 p0.length u0,vi p1,.slice a2 p2.length u2] w (λv w'=>∃(κ':Col),v=vi r/\Ent κ w κ' w'):=by
 unfold jJ at h
 refine Ret.enter F122 R N122 R ?_
 dsimp only[envOf]
 have hE:=Ent.refl κ w
 refine Je3 R (Jq (Je3 R ?_))
 have hN1:(p0.length:Int)<=9223372036854775807:=g0.len_le
 refine Ob h λq2 hq3 hK2=>?_
 clear h
 refine Jx1 (λL w'=>∃κ',L=[]/\Stp [] κ w κ' w'/\q2=it ()) ?_ ?_
 refine Jv (Jy1 (λk L w'=>∃κ' v7,L=[(0,.slice a0 p0.length u0),(1,vi p1),(2,.slice a2 p2.length u2),(7,vi v7)]/\Stp [] κ w κ' w'/\0<=v7/\t5 ((p0.length:Int)-v7)=k/\cntM (gx p0 p1 p2) k v7 ()=some q2) ⟨_,_,⟨κ,0,R,Jj3,(by decide),(by simp),hq3⟩,(KM R)⟩ ?_)
 rintro k _ w7 ⟨K8,v7,rfl,S9,hj1,hJ1,h⟩
 rcases k with _ | k
 have hk10:=h;obtain⟨o1,h⟩:=bO (it (sh ()):Int⊕((Unit)⊕(Unit)))
 have hc1:decide (v7<(p0.length:Int))=false:=Jo2 (by omega)
 refine Jq (Jg3 [2,2,2,2] 2 R (Jf R (Je2 U109 R R) (Jb 1 R (Jw2 R hc1 (Jc1 (Jt (Jt ?_)))))))
 cases h
 have h:=hk10
 refine Jb1 ?_
 cases h
 exact Jw1 _ ⟨K8,R,S9.wk R,R⟩ KN
 obtain⟨o1,h,hk10⟩:=BI h;unfold gx at h
 have hc1:decide (v7<(p0.length:Int))=true:=Jn2 (by omega)
 refine Jq (Jg3 [2,2,2,2] 2 R (Jf R (Je2 U109 R R) (Jb 1 R (Jv2 R hc1 (Js (Jp (Jq (Jv (Jg3 [2,2,2,2,1,2,2,2,2,2,2,2,1,2,1,2] 2 R (Ob h λx16 hx16 h=>Jc3 R g0 hx16 U109 Z116 (Jd3 R U116 R Z2 ?_)))))))))))
 have f11:=g0.stp S9 R R
 obtain⟨cse12,hre12,hle12⟩:=(f11).gSt hx16
 obtain⟨ae12_0,ue12_0,rfl,fe12_0⟩:=Place.un hre12
 refine Jb3 R I2 (λw' hw'=>hle12 w' hw' 0 _ R) (Jn 3 R (Ob h λp29 h hK13=>Ju1 [(8,2),(9,2),(10,2),(11,2),(12,1),(13,2),(14,1),(15,2)] [] (λL w'=>L=[(0,.slice a0 p0.length u0),(1,vi p1),(2,.slice a2 p2.length u2),(7,vi v7),(29,.bool p29)]/\∃κ',Stp [] K8 w7 κ' w') tv ?_ ?_))
 revert h
 cases ht14:(x16.At==p1)
 refine JF λh=>Jn 4 R (Jd1 R R R R (Jn 1 R (Jd1 R R R R (Jn 1 R ?_))))
 cases h
 exact Jv1 _ tv ⟨R,_,Jj3⟩ (KM R)
 refine JT λh=>Jn 2 R (Ob h λx24 hx24 h=>Jc3 R f11 hx24 U109 Z116 (Jd3 R U116 R Z29 ?_))
 obtain⟨cse15,hre15,hle15⟩:=(f11).gSt hx24
 obtain⟨ae15_0,ue15_0,rfl,fe15_0⟩:=Place.un hre15
 refine Jb3 R I29 (λw' hw'=>hle15 w' hw' 1 _ R) (Jn 1 R (Ob h λx28 hx28 h=>Jh R R R C172 (mO (κ:=Mk K8) (Ji3 fe15_0) (Ji3 (g2.stp S9 R R)) hx28) ?_))
 rintro _ w17 ⟨k18,rfl,e19⟩
 obtain⟨K20,S21,m22⟩:=Ji e19 2 R
 refine⟨tv,Jn 1 R ?_⟩
 cases h
 exact Jv1 _ tv ⟨R,_,S21.wk R⟩ (KM R)
 rintro _ w24 _ ⟨rfl,K25,S26⟩
 have h:=hK13
 refine Jd ?_
 revert h
 cases ht27:p29
 refine JF λh=>Jy R (Js (Jz (Jp (Jf3 R ?_))))
 have hw1:hV .i64 (v7+1)=v7+1:=wr1 hj1 (Jm2 hc1) hN1
 rw[hw1]
 have hc1:=Jm2 hc1
 cases h
 exact Jz1 λa ha=>⟨k,_,Ja3 _,⟨K25,v7+1,R,(S9.tr S26).wk R,by omega,by omega,hk10⟩,(ha.mm R)⟩
 refine JT λh=>Jx R (Je3 R (Ju (Ja1 (Jw (Jw ?_)))))
 cases h
 obtain rfl:=Option.some.inj hk10
 have h:=hK2
 dsimp only[aft]at h
 refine Ja1 (Jq2 (Jw (Ja2 (l:=[.tmp 6]) V122 (Jp2 R R) R ?_)))
 cases h
 exact⟨K25,R,(hE.stp (S9.tr S26) R R)⟩
 rintro _ w4 ⟨K5,rfl,S6,rfl⟩
 have h:=hK2
 dsimp only[aft]at h
 refine Jp (Je3 R (Ju (Ja2 (l:=[.tmp 6]) V122 (Jp2 R R) R ?_)))
 cases h
 exact⟨K5,R,(hE.stp S6 R R)⟩
theorem pD {w:World}{κ:Col}{a0 u0}{p0:(List Pair)}{a1 u1}{p1:(List Int)}{p2:Int}(g0:Rd Pair.rp κ w 0 a0 u0 p0) (g1:Rd (Rp.int .i64) κ w 0 a1 u1 p1){r:Int}(h:gP p0 p1 p2=some r):Ret Tryz.prog 124 [.slice a0 p0.length u0,.slice a1 p1.length u1,vi p2] w (λv w'=>∃(κ':Col),v=vi r/\Ent κ w κ' w'):=by
 unfold gP at h
 refine Ret.enter F124 R N124 R ?_
 dsimp only[envOf]
 have hE:=Ent.refl κ w
 refine Je3 R (Je3 R (Je3 R (Jq (Je3 R ?_))))
 have hN1:(p1.length:Int)<=9223372036854775807:=g1.len_le
 refine Ob h λq2 hq3 hK2=>?_
 clear h
 refine Jx1 (λL w'=>∃κ',∃s3:Int×Int,L=[(7,vi s3.1),(8,vi s3.2)]/\Stp [] κ w κ' w'/\q2=it s3) ?_ ?_
 refine Jv (Jy1 (λk L w'=>∃κ' v9,∃s1:Int×Int,L=[(0,.slice a0 p0.length u0),(1,.slice a1 p1.length u1),(2,vi p2),(7,vi s1.1),(8,vi s1.2),(9,vi v9)]/\Stp [] κ w κ' w'/\0<=v9/\t5 ((p1.length:Int)-v9)=k/\cntM (dT p0 p1 p2) k v9 s1=some q2) ⟨_,_,⟨κ,0,(((-1):Int),((-1):Int)),R,Jj3,(by decide),(by simp),hq3⟩,(KM R)⟩ ?_)
 rintro k _ w7 ⟨K8,v9,s1,rfl,S9,hj1,hJ1,h⟩
 rcases k with _ | k
 have hk10:=h;obtain⟨o1,h⟩:=bO (it (sh s1):Int⊕((Int×Int)⊕(Int×Int)))
 have hc1:decide (v9<(p1.length:Int))=false:=Jo2 (by omega)
 refine Jq (Jg3 [2,2,2,2] 2 R (Jf R (Je2 U29 R R) (Jb 1 R (Jw2 R hc1 (Jc1 (Jt (Jt ?_)))))))
 cases h
 have h:=hk10
 refine Jb1 ?_
 cases h
 exact Jw1 _ ⟨K8,((s1.1:Int),(s1.2:Int)),R,S9.wk R,R⟩ (KM R)
 obtain⟨o1,h,hk10⟩:=BI h;unfold dT at h
 have hc1:decide (v9<(p1.length:Int))=true:=Jn2 (by omega)
 refine Jq (Jg3 [2,2,2,2] 2 R (Jf R (Je2 U29 R R) (Jb 1 R (Jv2 R hc1 (Js (Jp (Jq (Jv (Jq (Jg3 [2,2,2,2,1,2,2,1,2,1] 3 R (Ob h λx19 hx19 h=>Jc3 R g1 hx19 U29 Z2 ?_)))))))))))
 have f11:=g1.stp S9 R R
 refine Jb3 R I2 (f11.gInt hx19) (Ob h λx21 hx21 h=>Jc3 R g0 hx21 U98 Z154 (Jd3 R U154 R Z29 ?_))
 have f12:=g0.stp S9 R R
 obtain⟨cse13,hre13,hle13⟩:=(f12).gSt hx21
 obtain⟨ae13_0,ue13_0,ae13_1,ue13_1,rfl,fe13_0,fe13_1⟩:=Pair.un hre13
 refine Jb3 R I29 (λw' hw'=>hle13 w' hw' 0 _ R) (Jn 1 R (Ob h λx25 hx25 h=>Jh R R R C171 (kV (κ:=Mk K8) (Ji3 fe13_0) hx25) ?_))
 rintro _ w14 ⟨k15,rfl,e16⟩
 obtain⟨K17,S18,m19⟩:=Ji e16 2 R
 refine⟨tv,Jd (Ob h λq4 h hK21=>Jx1 (λL w'=>∃κ',L=[(0,.slice a0 p0.length u0),(1,.slice a1 p1.length u1),(2,vi p2),(7,vi q4),(8,vi s1.2),(9,vi v9)]/\Stp [] K17 w14 κ' w') ?_ ?_)⟩
 revert h
 cases ht25:x25
 refine JF λh=>Jy R (Js ?_)
 cases h
 exact Jw1 _ ⟨K17,R,Jj3⟩ (KM R)
 refine JT λh=>Jx R (Jf3 R ?_)
 cases h
 exact Jw1 _ ⟨K17,R,Jj3⟩ (KM R)
 rintro _ w22 ⟨K23,rfl,S24⟩
 have h:=hK21
 refine Jp (Jg3 [2,2,2,2,1,2,2,1,2,1] 3 R (Ob h λx30 hx30 h=>Jc3 R f11 hx30 U29 Z2 (Jb3 R I2 ((f11.stp (S18.tr S24) R R).gInt hx30) (Ob h λx32 hx32 h=>Jc3 R f12 hx32 U98 Z154 (Jd3 R U154 R Z29 ?_)))))
 obtain⟨cse28,hre28,hle28⟩:=((f12.stp (S18.tr S24) R R)).gSt hx32
 obtain⟨ae28_0,ue28_0,ae28_1,ue28_1,rfl,fe28_0,fe28_1⟩:=Pair.un hre28
 refine Jb3 R I29 (λw' hw'=>hle28 w' hw' 1 _ R) (Jn 1 R (Ob h λx36 hx36 h=>Jh R R R C171 (kV (κ:=Mk K23) (Ji3 fe28_1) hx36) ?_))
 rintro _ w29 ⟨k30,rfl,e31⟩
 obtain⟨K32,S33,m34⟩:=Ji e31 4 R
 refine⟨tv,Jd (Ob h λq5 h hK36=>Jx1 (λL w'=>∃κ',L=[(0,.slice a0 p0.length u0),(1,.slice a1 p1.length u1),(2,vi p2),(7,vi q4),(8,vi q5),(9,vi v9)]/\Stp [] K32 w29 κ' w') ?_ ?_)⟩
 revert h
 cases ht40:x36
 refine JF λh=>Jy R (Js ?_)
 cases h
 exact Jw1 _ ⟨K32,R,Jj3⟩ (KM R)
 refine JT λh=>Jx R (Jf3 R ?_)
 cases h
 exact Jw1 _ ⟨K32,R,Jj3⟩ (KM R)
 rintro _ w37 ⟨K38,rfl,S39⟩
 have h:=hK36
 refine Jz (Jp (Jf3 R ?_))
 have hw1:hV .i64 (v9+1)=v9+1:=wr1 hj1 (Jm2 hc1) hN1
 rw[hw1]
 have hc1:=Jm2 hc1
 cases h
 exact Jz1 λa ha=>⟨k,_,Ja3 _,⟨K38,v9+1,((q4:Int),(q5:Int)),R,(S9.tr (S18.tr (S24.tr (S33.tr S39)))).wk R,by omega,by omega,hk10⟩,(ha.mm R)⟩
 rintro _ w4 ⟨K5,s3,rfl,S6,rfl⟩
 have h:=hK2
 dsimp only[aft]at h
 refine Jp (Jq (Jv (Jg3 [2,2,2,2,2,2,2] 3 R (Ob h λp44 h hK41=>Ju1 [(3,2),(4,2),(5,2)] [(6,2)] (λL w'=>L=[(7,vi s3.1),(8,vi s3.2),(44,.bool p44)]/\∃κ',Stp [] K5 w4 κ' w') tv ?_ ?_))))
 revert h
 cases ht42:decide (s3.1<0)
 refine JF λh=>Jn 3 R ?_
 cases h
 exact Jv1 _ tv ⟨R,_,Jj3⟩ (KM R)
 refine JT λh=>Jn 3 R ?_
 cases h
 exact Jv1 _ tv ⟨R,_,Jj3⟩ (KM R)
 rintro _ w43 _ ⟨rfl,K44,S45⟩
 have h:=hK41
 refine Jb 1 R ?_
 revert h
 cases ht46:p44
 refine JF λh=>Jy R (Je3 R ?_)
 revert h
 cases ht48:decide (s3.2<s3.1)
 refine JF λh=>Jy R (Js (Jz (Jp (Je3 R (Ju (Ja2 (l:=[.tmp 6]) V124 (Jp2 R R) R ?_))))))
 cases h
 exact⟨K44,R,(hE.stp (S6.tr S45) R R)⟩
 refine JT λh=>Jx R (Je3 R (Ju (Ja1 (Jw (Ja2 (l:=[.tmp 6]) V124 (Jp2 R R) R ?_)))))
 cases h
 exact⟨K44,R,(hE.stp (S6.tr S45) R R)⟩
 refine JT λh=>Jx R (Je3 R (Ju (Ja1 (Jw (Ja2 (l:=[.tmp 6]) V124 (Jp2 R R) R ?_)))))
 cases h
 exact⟨K44,R,(hE.stp (S6.tr S45) R R)⟩
theorem dY {w:World}{κ:Col}{a0 u0}{p0:(List Bool)}{p1:Bool}(g0:Rd Rp.bool κ w 0 a0 u0 p0){r:Bool}(h:cd p0 p1=some r):Ret Tryz.prog 234 [.slice a0 p0.length u0,.bool p1] w (λv w'=>∃(κ':Col),v= .bool r/\Ent κ w κ' w'):=by
 unfold cd at h
 refine Ret.enter F234 R N234 R ?_
 dsimp only[envOf]
 have hE:=Ent.refl κ w
 refine Je3 R (Jg3 [2,2,1,2,2] 2 R (Ob h λx7 hx7 h=>Jh R R R C249 (jr (κ:=Mk κ) (Ji3 g0) hx7) ?_))
 rintro _ w1 ⟨k2,rfl,e3⟩
 obtain⟨K4,S5,m6⟩:=Ji e3 2 R
 refine⟨tv,Jb 2 R (Ju (Ja2 (l:=[.tmp 4]) V234 (Jp2 R R) R ?_))⟩
 cases h
 exact⟨K4,R,(hE.stp S5 R R)⟩
theorem pT {w:World}{κ:Col}{ad ac aa ab}{p0:Arena}(g0_0:Rd (Rp.int .i64) κ w 0 ad ac p0.Owner) (g0_1:Rd (Rp.sl (Rp.int .i64)) κ w 0 aa ab p0.Next){r:Bool}(h:jR p0=some r):Ret Tryz.prog 194 [.agg #[.slice ad p0.Owner.length ac,.slice aa p0.Next.length ab]] w (λv w'=>∃(κ':Col),v= .bool r/\Ent κ w κ' w'):=by
 unfold jR at h
 refine Ret.enter F194 R N194 R ?_
 dsimp only[envOf]
 have hE:=Ent.refl κ w
 refine Je [1,2] R (Jf1 (κ:=κ) 2 R R R R R R R λb1 w1 K2 S3 f4=>⟨tv,Jb 1 R (Je [2,1,2,2] R (Jd3 R U104 R Z29 (Jb3 R I29 (f4.ld 0 R R) (Jf R (Je2 U29 R R) (Jb 1 R (Jq (Jg3 [2,2,2,2,2,2,2,2,1,2,2,2,2] 3 R (Ob h λp14 h hK5=>Ju1 [(3,2),(4,2),(5,2)] [(6,2),(7,2),(8,1),(9,2),(10,2),(11,2),(12,2)] (λL w'=>L=[(1,.pointer (some ⟨b1,0,none⟩)),(3,vi (p0.Owner.length:Int)),(14,.bool p14)]/\∃κ',Stp [] K2 w1 κ' w') tv ?_ ?_))))))))⟩)
 revert h
 cases ht6:decide ((p0.Owner.length:Int)<1)
 refine JF λh=>Jn 3 R ?_
 cases h
 exact Jv1 _ tv ⟨R,_,Jj3⟩ (KM R)
 refine JT λh=>Jn 3 R ?_
 cases h
 exact Jv1 _ tv ⟨R,_,Jj3⟩ (KM R)
 rintro _ w7 _ ⟨rfl,K8,S9⟩
 have h:=hK5
 refine Jn 1 R (Ob h λp21 h hK10=>Ju1 [(7,2),(8,1),(9,2),(10,2),(11,2),(12,2)] [] (λL w'=>L=[(1,.pointer (some ⟨b1,0,none⟩)),(3,vi (p0.Owner.length:Int)),(21,.bool p21)]/\∃κ',Stp [] K8 w7 κ' w') tv ?_ ?_)
 revert h
 cases ht11:p14
 refine JF λh=>Jd3 R U104 R Z26 (Jb3 R I26 ((f4.stp S9 R R).ld 1 R R) (Jf R (Je2 U26 R R) (Jn 3 R ?_)))
 cases h
 exact Jv1 _ tv ⟨R,_,Jj3⟩ (KM R)
 refine JT λh=>Jn 1 R (Jd1 R R R R (Jn 4 R ?_))
 cases h
 exact Jv1 _ tv ⟨R,_,Jj3⟩ (KM R)
 rintro _ w13 _ ⟨rfl,K14,S15⟩
 have h:=hK10
 refine Jd ?_
 revert h
 cases ht16:p21
 refine JF λh=>Jy R (Js (Jp (Jq (Je [2,1,2,2] R (Jd3 R U104 R Z26 ?_)))))
 have f18:=f4.stp (S9.tr S15) R R
 refine Jb3 R I26 (f18.ld 1 R R) (Jf R (Je2 U26 R R) (Jb 1 R ?_))
 have hN19:(p0.Next.length:Int)<=9223372036854775807:=g0_1.len_le
 refine Ob h λq2 hq21 hK20=>?_
 clear h
 refine Jx1 (λL w'=>∃κ',L=[]/\Stp [] K14 w13 κ' w'/\q2=it ()) ?_ ?_
 refine Jv (Jy1 (λk L w'=>∃κ' v25,L=[(1,.pointer (some ⟨b1,0,none⟩)),(3,vi (p0.Owner.length:Int)),(23,.slice aa p0.Next.length ab),(24,vi (p0.Next.length:Int)),(25,vi v25)]/\Stp [] K14 w13 κ' w'/\0<=v25/\t5 ((p0.Next.length:Int)-v25)=k/\cntM (gh p0) k v25 ()=some q2) ⟨_,_,⟨K14,0,R,Jj3,(by decide),(by simp),hq21⟩,(KM R)⟩ ?_)
 rintro k _ w25 ⟨K26,v25,rfl,S27,hj19,hJ19,h⟩
 rcases k with _ | k
 have hk28:=h;obtain⟨o19,h⟩:=bO (it (sh ()):Bool⊕((Unit)⊕(Unit)))
 have hc19:decide (v25<(p0.Next.length:Int))=false:=Jo2 (by omega)
 refine Je3 R (Jq (Jw2 R hc19 (Jc1 (Jt (Jt ?_)))))
 cases h
 have h:=hk28
 refine Jb1 ?_
 cases h
 exact Jw1 _ ⟨K26,R,S27.wk R,R⟩ KN
 obtain⟨o19,h,hk28⟩:=BI h;unfold gh at h
 have hc19:decide (v25<(p0.Next.length:Int))=true:=Jn2 (by omega)
 refine Je3 R (Jq (Jv2 R hc19 (Js (Jp (Jq (Jv (Jg3 [2,2,1,2,2] 1 R (Ob h λx28 hx28 h=>Jc3 R g0_1 hx28 U26 Z29 ?_))))))))
 obtain⟨ax28,ux28,f30,hl31⟩:=(g0_1.stp (S3.tr (S9.tr (S15.tr S27))) R R).gSl hx28
 refine Jb3 R I29 hl31 (Jb 2 R (Je [2,1,2,2,1,2,2,2,1,2,2,1,2,2,2,2,2,2,2,2,2,2,2,2,2,2,2,1,2,2] R (Jd3 R U104 R Z29 ?_)))
 have f32:=f18.stp S27 R R
 refine Jb3 R I29 (f32.ld 0 R R) (Jn 1 R (Ob h λx33 hx33 h=>Jc3 R g0_0 hx33 U29 Z2 ?_))
 have f33:=g0_0.stp (S3.tr (S9.tr (S15.tr S27))) R R
 refine Jb3 R I2 (f33.gInt hx33) (Jn 2 R (Ob h λp43 h hK34=>Ju1 [(7,2),(8,1),(9,2),(10,2),(11,1),(12,2),(13,2)] [(14,2),(15,2),(16,2),(17,2),(18,2),(19,2),(20,2),(21,2),(22,2),(23,2),(24,2),(25,2),(26,2),(27,1),(28,2),(29,2)] (λL w'=>L=[(1,.pointer (some ⟨b1,0,none⟩)),(3,vi (p0.Owner.length:Int)),(5,.slice ax28 x28.length ux28),(23,.slice aa p0.Next.length ab),(24,vi (p0.Next.length:Int)),(25,vi v25),(43,.bool p43)]/\∃κ',Stp [] K26 w25 κ' w') tv ?_ ?_))
 revert h
 cases ht35:decide (x33<0)
 refine JF λh=>Jd3 R U104 R Z29 (Jb3 R I29 (f32.ld 0 R R) (Jn 1 R (Ob h λx40 hx40 h=>Jc3 R f33 hx40 U29 Z2 (Jb3 R I2 (f33.gInt hx40) (Jn 2 R ?_)))))
 cases h
 exact Jv1 _ tv ⟨R,_,Jj3⟩ (KM R)
 refine JT λh=>Jn 1 R (Jd1 R R R R (Jn 2 R (Jd1 R R R R (Jn 2 R ?_))))
 cases h
 exact Jv1 _ tv ⟨R,_,Jj3⟩ (KM R)
 rintro _ w36 _ ⟨rfl,K37,S38⟩
 have h:=hK34
 refine Jn 1 R (Ob h λp48 h hK39=>Ju1 [(15,2),(16,2),(17,2),(18,2)] [(19,2),(20,2),(21,2),(22,2),(23,2),(24,2),(25,2),(26,2),(27,1),(28,2),(29,2)] (λL w'=>L=[(1,.pointer (some ⟨b1,0,none⟩)),(3,vi (p0.Owner.length:Int)),(5,.slice ax28 x28.length ux28),(23,.slice aa p0.Next.length ab),(24,vi (p0.Next.length:Int)),(25,vi v25),(48,.bool p48)]/\∃κ',Stp [] K37 w36 κ' w') tv ?_ ?_)
 revert h
 cases ht40:p43
 refine JF λh=>Jn 1 R (Jf R (Je2 U29 R R) (Jn 2 R ?_))
 cases h
 exact Jv1 _ tv ⟨R,_,Jj3⟩ (KM R)
 refine JT λh=>Jn 4 R ?_
 cases h
 exact Jv1 _ tv ⟨R,_,Jj3⟩ (KM R)
 rintro _ w41 _ ⟨rfl,K42,S43⟩
 have h:=hK39
 refine Jn 1 R (Ob h λp53 h hK44=>Ju1 [(20,2),(21,2),(22,2),(23,2)] [(24,2),(25,2),(26,2),(27,1),(28,2),(29,2)] (λL w'=>L=[(1,.pointer (some ⟨b1,0,none⟩)),(3,vi (p0.Owner.length:Int)),(5,.slice ax28 x28.length ux28),(23,.slice aa p0.Next.length ab),(24,vi (p0.Next.length:Int)),(25,vi v25),(53,.bool p53)]/\∃κ',Stp [] K42 w41 κ' w') tv ?_ ?_)
 revert h
 cases ht45:p48
 refine JF λh=>Jn 1 R (Jf R (Je2 U29 R R) (Jn 2 R ?_))
 cases h
 exact Jv1 _ tv ⟨R,_,Jj3⟩ (KM R)
 refine JT λh=>Jn 4 R ?_
 cases h
 exact Jv1 _ tv ⟨R,_,Jj3⟩ (KM R)
 rintro _ w46 _ ⟨rfl,K47,S48⟩
 have h:=hK44
 refine Jn 1 R (Ob h λp59 h hK49=>Ju1 [(25,2),(26,2),(27,1),(28,2),(29,2)] [] (λL w'=>L=[(1,.pointer (some ⟨b1,0,none⟩)),(3,vi (p0.Owner.length:Int)),(23,.slice aa p0.Next.length ab),(24,vi (p0.Next.length:Int)),(25,vi v25),(59,.bool p59)]/\∃κ',Stp [] K47 w46 κ' w') tv ?_ ?_)
 revert h
 cases ht50:p53
 refine JF λh=>Jn 2 R (Ob h λx57 hx57 h=>Jh R R R C217 (lM (κ:=Mk K47) (Ji3 (f30.stp (S38.tr (S43.tr S48)) R R)) hx57) ?_)
 rintro _ w52 ⟨k53,rfl,e54⟩
 obtain⟨K55,S56,m57⟩:=Ji e54 3 R
 refine⟨tv,Jn 2 R ?_⟩
 cases h
 exact Jv1 _ tv ⟨R,_,S56.wk R⟩ (KM R)
 refine JT λh=>Jn 2 R (Jd1 R R R R (Jn 2 R ?_))
 cases h
 exact Jv1 _ tv ⟨R,_,Jj3⟩ (KM R)
 rintro _ w59 _ ⟨rfl,K60,S61⟩
 have h:=hK49
 refine Jd ?_
 revert h
 cases ht62:p59
 refine JF λh=>Jy R (Js (Jz (Jp (Jf3 R ?_))))
 have hw19:hV .i64 (v25+1)=v25+1:=wr1 hj19 (Jm2 hc19) hN19
 rw[hw19]
 have hc19:=Jm2 hc19
 cases h
 exact Jz1 λa ha=>⟨k,_,Ja3 _,⟨K60,v25+1,R,(S27.tr (S38.tr (S43.tr (S48.tr S61)))).wk R,by omega,by omega,hk28⟩,(ha.mm R)⟩
 refine JT λh=>Jx R (Je3 R (Ju (Ja1 (Jw (Jw ?_)))))
 cases h
 obtain rfl:=Option.some.inj hk28
 have h:=hK20
 dsimp only[aft]at h
 refine Ja1 (Jq2 (Jw (Ja2 (l:=[.tmp 2]) V194 (Jp2 R R) R ?_)))
 cases h
 exact⟨K60,R,(hE.stp (S3.tr (S9.tr (S15.tr (S27.tr (S38.tr (S43.tr (S48.tr S61))))))) R R)⟩
 rintro _ w22 ⟨K23,rfl,S24,rfl⟩
 have h:=hK20
 dsimp only[aft]at h
 refine Jp (Je3 R (Ju (Ja2 (l:=[.tmp 2]) V194 (Jp2 R R) R ?_)))
 cases h
 exact⟨K23,R,(hE.stp (S3.tr (S9.tr (S15.tr S24))) R R)⟩
 refine JT λh=>Jx R (Je3 R (Ju (Jw (Ja2 (l:=[.tmp 2]) V194 (Jp2 R R) R ?_))))
 cases h
 exact⟨K14,R,(hE.stp (S3.tr (S9.tr S15)) R R)⟩
theorem nW {w:World}{κ:Col}{ad af ae ac}{p0:Arena}(g0_0:Rd (Rp.int .i64) κ w 0 ad af p0.Owner) (g0_1:Rd (Rp.sl (Rp.int .i64)) κ w 0 ae ac p0.Next){r:Arena}(h:ie p0=some r):Ret Tryz.prog 250 [.agg #[.slice ad p0.Owner.length af,.slice ae p0.Next.length ac]] w (λv w'=>∃(κ':Col) (ra0:Option Addr) (ru0:Nat) (ra1:Option Addr) (ru1:Nat),v= .agg #[.slice ra0 r.Owner.length ru0,.slice ra1 r.Next.length ru1]/\Ent κ w κ' w'/\Oc E6 2 κ' w' 2 ra0 ru0 r.Owner/\Oc (Ep.own E6 2) 29 κ' w' 3 ra1 ru1 r.Next):=by
 unfold ie at h
 refine Ret.enter F250 R N250 R ?_
 dsimp only[envOf]
 have hE:=Ent.refl κ w
 refine Je [1,1] R (Jf1 (κ:=κ) 2 R R R R R R R λb1 w1 K2 S3 f4=>⟨tv,Jg1 (κ:=K2) 3 R R R R R X104 R λb2 w5 K6 S7 f8=>⟨tv,Jd (Jq (Js1 (κ:=K6) [2] none [(1,2),(4,2),(2,0),(5,0),(0,1),(3,1),(6,1),(7,2),(8,1)] [] (by kernel_rfl) (by kernel_rfl) λw10 S9=>Jd3 R U104 R Z29 (Jd3 R U104 R Z26 ?_)))⟩⟩)
 have f11:=f4.stp (S7.tr S9) R R
 refine Jg R (Jc2 I29 R R (hvC (f11.ld 0 R R) R)) (Jg R (Jc2 I26 R R (hvC (f11.ld 1 R R) R)) (Jo1 (κ:=K6) (E:=E6) 4 R R R R R Y29 Tryzinfo2 R λa3 u3 w12 K13 S14 f15=>⟨(S14.cl R),Ob h λx6 hx6 h=>Jm1 (κ:=K13) (E:=E6) 4 [] R R R R R R R R R Y29 Tryzinfo2 R R R R f15 (Sl.srcP (bT _) (g0_0.stp (S3.tr (S7.tr (S9.tr S14))) R R)) bJ hx6 R λa6 u6 w17 K18 S19 f20=>⟨((S14.tr S19).cl R),Ob h λx9 hx9 h=>Jh R R R C254 (oz (κ:=Mk K18) (Ji3 (g0_1.stp (S3.tr (S7.tr (S9.tr (S14.tr S19)))) R R)) hx9) ?_⟩⟩))
 rintro _ w22 ⟨k23,aa,ab,rfl,e24,f25⟩
 obtain⟨K26,S27,m28⟩:=Ji e24 5 R
 refine⟨((S14.tr (S19.tr S27)).cl R),Jf R (bI (parts:=[(0,.tmp 6),(1,.tmp 9)]) (cells:=[.slice a6 x6.length u6,.slice aa x9.length ab]) R R (by kernel_rfl)) (Jj1 (κ:=K26) 3 (vc:=[.slice a6 x6.length u6,.slice aa x9.length ab]) R R R R R R R Z104 R R (f8.stp (S9.tr (S14.tr (S19.tr S27))) R R) R λw32 S33 f34=>⟨((S14.tr (S19.tr (S27.tr S33))).cl R),Jt1 (Jd (Ju (Ja2 (l:=[.cell 2 104]) V250 (bL R f34 I104 Z104 R R) R ?_)))⟩)⟩
 cases h
 exact⟨(λb=>ren [(4,2),(7,3)] (K26 b)),a6,u6,aa,ab,R,((hE.stp (S3.tr (S7.tr (S9.tr (S14.tr (S19.tr (S27.tr S33)))))) R R).map (ren [(4,2),(7,3)]) R R),((f20.stp (S27.tr S33) R R).map (ren [(4,2),(7,3)]) R R),(((f25.mx (ck (bH _) _) m28 R (R:5+2=7)).stp S33 R R).map (ren [(4,2),(7,3)]) R R)⟩
theorem mQ {w:World}{κ:Col}{a0 u0}{p0:(List Clause)}{p1:Int}(g0:Oc Clause.ep119 119 κ w 2 a0 u0 p0){r:Int×(List Clause)}(h:fg p0 p1=some r):Ret Tryz.prog 24 [.slice a0 p0.length u0,vi p1] w (λv w'=>∃(κ':Col),v=vi r.1/\Ent κ w κ' w'/\Oc Clause.ep119 119 κ' w' 2 a0 u0 r.2/\p0.length=r.2.length):=by
 unfold fg at h
 refine Ret.enter F24 R N24 R ?_
 dsimp only[envOf]
 have hE:=Ent.refl κ w
 refine Je3 R (Jq (Je3 R ?_))
 have hN1:(p0.length:Int)<=9223372036854775807:=g0.len_le
 refine Ob h λq2 hq3 hK2=>?_
 clear h
 refine Jx1 (λL w'=>∃κ',∃s3:Int×(List Clause),L=[(1,vi s3.1)]/\Stp [2,3,4,5,8,9,10,13] κ w κ' w'/\Oc Clause.ep119 119 κ' w' 2 a0 u0 s3.2/\p0.length=s3.2.length/\q2=it s3) ?_ ?_
 refine Jv (Jy1 (λk L w'=>∃κ' v5,∃s1:Int×(List Clause),L=[(0,.slice a0 p0.length u0),(1,vi s1.1),(5,vi v5)]/\Stp [2,3,4,5,8,9,10,13] κ w κ' w'/\Oc Clause.ep119 119 κ' w' 2 a0 u0 s1.2/\p0.length=s1.2.length/\0<=v5/\t5 ((p0.length:Int)-v5)=k/\cntM eR k v5 s1=some q2) ⟨_,_,⟨κ,0,((p1:Int),(p0:(List Clause))),R,Jj3,g0,R,(by decide),(by simp),hq3⟩,(KM R)⟩ ?_)
 rintro k _ w9 ⟨K10,v5,s1,rfl,S11,f12,hn13,hj1,hJ1,h⟩
 rcases k with _ | k
 have hk14:=h;obtain⟨o1,h⟩:=bO (it (sh s1):(Int×(List Clause))⊕((Int×(List Clause))⊕(Int×(List Clause))))
 have hc1:decide (v5<(p0.length:Int))=false:=Jo2 (by omega)
 refine Jq (Jg3 [2,2,2,2] 2 R (Jf R (Je2 U49 R R) (Jb 1 R (Jw2 R hc1 (Jc1 (Jt (Jt ?_)))))))
 cases h
 have h:=hk14
 refine Jb1 ?_
 cases h
 exact Jw1 _ ⟨K10,((s1.1:Int),(s1.2:(List Clause))),R,S11.wk R,f12,hn13,R⟩ (KM R)
 obtain⟨o1,h,hk14⟩:=BI h;unfold eR at h
 have hc1:decide (v5<(p0.length:Int))=true:=Jn2 (by omega)
 refine Jq (Jg3 [2,2,2,2] 2 R (Jf R (Je2 U49 R R) (Jb 1 R (Jv2 R hc1 (Js (Jp (Jq (Jv (Jg3 [2,2,2,2,2,1] 3 R (Ob h λx15 hx15 h=>Jf R (Jf2 f12.rdc hx15 U49 Z119 R R hn13 R) (Jd3 R U119 R Z2 (Ob h λy434 hy434 h=>WO.stG (κ:=K10) (E:=Clause.ep119) (vc:=[vi s1.1]) (e':=({ x15 with Kind:=s1.1 }:Clause)) 2 3 0 R R R R R R R R Z2 R R hx15 (λh=>vg h) R R R f12 hy434 λw15 K16 S17 f18=>⟨tv,?_⟩))))))))))))
 have hn19:p0.length=y434.length:=hn13.trans (Jt2 hy434).2.2.2.symm
 refine Jd (Je3 R (Jg3 [2,2,2,2,1,2,1,2] 2 R (Ob h λx21 hx21 h=>Jf R (Jf2 f18.rdc hx21 U49 Z119 R R hn19 R) (Jd3 R U119 R Z29 ?_))))
 obtain⟨cse20,hre20,hle20⟩:=(f18.rdc).gSt hx21
 obtain⟨ae20_0,ue20_0,ae20_1,ue20_1,rfl,fe20_0,fe20_1⟩:=Clause.un hre20
 refine Jb3 R I29 (λw' hw'=>hle20 w' hw' 1 _ R) (Jn 1 R ?_)
 obtain⟨K21,S22,f23,f24,f25⟩:=Ow.borrowQ (f:=(λx:Clause=>(x.A,x.B))) (v0:=vi x21.Kind) (λh=>si h) R f18 hx21 (hle20 _ (Ag.refl _ _ _)) 4 5 R R R R
 have f26:Oc E6 2 K21 w15 4 ae20_0 ue20_0 x21.A:=f23
 have f27:Oc E6 2 K21 w15 5 ae20_1 ue20_1 x21.B:=f24
 refine Ob h λx25 hx25 h=>Jh R R R C85 (fC (κ:=λb=>mp [(4,2)] 0 (K21 b)) (f26.map (mp [(4,2)] 0) R R) hx25) ?_
 rintro _ w28 ⟨k29,rfl,e30,f31,hn32⟩
 obtain⟨K33,S34,m35⟩:=Ji e30 6 R
 refine⟨tv,Ob h λyb435 hyb435 h=>?_⟩
 obtain⟨K40,S41,f42⟩:=Ow.unborrowQ (f:=(λx:Clause=>(x.A,x.B))) (y:=(⟨x21.Kind,x25.2,x21.B⟩:Clause)) (λh=>tz h) (f25.stp S34 R R) (f31.mx (bH _) m35 R (R:6+2=8)) (f27.stp S34 R R) (hn32) R R R R R R hyb435
 have hn43:p0.length=yb435.length:=hn19.trans (Jt2 hyb435).2.2.2.symm
 refine Jb 1 R (Jh3 [2,2,2,2,1,2,1,2] 2 R (Ob h λx28 hx28 h=>Jf R (Jf2 f42.rdc hx28 U49 Z119 R R hn43 R) (Jd3 R U119 R Z29 ?_)))
 obtain⟨cse44,hre44,hle44⟩:=(f42.rdc).gSt hx28
 obtain⟨ae44_0,ue44_0,ae44_1,ue44_1,rfl,fe44_0,fe44_1⟩:=Clause.un hre44
 refine Jb3 R I29 (λw' hw'=>hle44 w' hw' 2 _ R) (Jn 1 R ?_)
 obtain⟨K45,S46,f47,f48,f49⟩:=Ow.borrowQ (f:=(λx:Clause=>(x.A,x.B))) (v0:=vi x28.Kind) (λh=>si h) R f42 hx28 (hle44 _ (Ag.refl _ _ _)) 9 10 R R R R
 have f50:Oc E6 2 K45 w28 9 ae44_0 ue44_0 x28.A:=f47
 have f51:Oc E6 2 K45 w28 10 ae44_1 ue44_1 x28.B:=f48
 refine Ob h λx32 hx32 h=>Jh R R R C85 (fC (κ:=λb=>mp [(10,2)] 0 (K45 b)) (f51.map (mp [(10,2)] 0) R R) hx32) ?_
 rintro _ w52 ⟨k53,rfl,e54,f55,hn56⟩
 obtain⟨K57,S58,m59⟩:=Ji e54 11 R
 refine⟨tv,Ob h λyb437 hyb437 h=>?_⟩
 obtain⟨K64,S65,f66⟩:=Ow.unborrowQ (f:=(λx:Clause=>(x.A,x.B))) (y:=(⟨x28.Kind,x28.A,x32.2⟩:Clause)) (λh=>tz h) (f49.stp S58 R R) (f50.stp S58 R R) (f55.mx (bH _) m59 R (R:11+2=13)) R (hn56) R R R R R hyb437
 have hn67:p0.length=yb437.length:=hn43.trans (Jt2 hyb437).2.2.2.symm
 refine Jc 1 R (Jz (Jp (Jf3 R ?_)))
 have hw1:hV .i64 (v5+1)=v5+1:=wr1 hj1 (Jm2 hc1) hN1
 rw[hw1]
 have hc1:=Jm2 hc1
 cases h
 exact Jz1 λa ha=>⟨k,_,Ja3 _,⟨K64,v5+1,((x32.1:Int),(yb437:(List Clause))),R,(S11.tr (S17.tr (S22.tr (S34.tr (S41.tr (S46.tr (S58.tr S65))))))).wk R,f66,hn67,by omega,by omega,hk14⟩,(ha.mm R)⟩
 rintro _ w4 ⟨K5,s3,rfl,S6,f7,hn8,rfl⟩
 have h:=hK2
 dsimp only[aft]at h
 refine Jp (Je3 R (Ju (Ja2 (l:=[.tmp 4]) V24 (Jp2 R R) R ?_)))
 cases h
 exact⟨K5,R,(hE.stp S6 R R),f7,hn8⟩
theorem mJ {w:World}{κ:Col}{a0 u0}{p0:(List (List Int))}{p1:Int}(g0:Oc (Ep.own E6 2) 29 κ w 2 a0 u0 p0){r:Int×(List (List Int))}(h:fa p0 p1=some r):Ret Tryz.prog 86 [.slice a0 p0.length u0,vi p1] w (λv w'=>∃(κ':Col),v=vi r.1/\Ent κ w κ' w'/\Oc (Ep.own E6 2) 29 κ' w' 2 a0 u0 r.2/\p0.length=r.2.length):=by
 unfold fa at h
 refine Ret.enter F86 R N86 R ?_
 dsimp only[envOf]
 have hE:=Ent.refl κ w
 refine Je3 R (Jq (Je3 R ?_))
 have hN1:(p0.length:Int)<=9223372036854775807:=g0.len_le
 refine Ob h λq2 hq3 hK2=>?_
 clear h
 refine Jx1 (λL w'=>∃κ',∃s3:Int×(List (List Int)),L=[(1,vi s3.1)]/\Stp [2,3,6] κ w κ' w'/\Oc (Ep.own E6 2) 29 κ' w' 2 a0 u0 s3.2/\p0.length=s3.2.length/\q2=it s3) ?_ ?_
 refine Jv (Jy1 (λk L w'=>∃κ' v5,∃s1:Int×(List (List Int)),L=[(0,.slice a0 p0.length u0),(1,vi s1.1),(5,vi v5)]/\Stp [2,3,6] κ w κ' w'/\Oc (Ep.own E6 2) 29 κ' w' 2 a0 u0 s1.2/\p0.length=s1.2.length/\0<=v5/\t5 ((p0.length:Int)-v5)=k/\cntM eU k v5 s1=some q2) ⟨_,_,⟨κ,0,((p1:Int),(p0:(List (List Int)))),R,Jj3,g0,R,(by decide),(by simp),hq3⟩,(KM R)⟩ ?_)
 rintro k _ w9 ⟨K10,v5,s1,rfl,S11,f12,hn13,hj1,hJ1,h⟩
 rcases k with _ | k
 have hk14:=h;obtain⟨o1,h⟩:=bO (it (sh s1):(Int×(List (List Int)))⊕((Int×(List (List Int)))⊕(Int×(List (List Int)))))
 have hc1:decide (v5<(p0.length:Int))=false:=Jo2 (by omega)
 refine Jq (Jg3 [2,2,2,2] 2 R (Jf R (Je2 U26 R R) (Jb 1 R (Jw2 R hc1 (Jc1 (Jt (Jt ?_)))))))
 cases h
 have h:=hk14
 refine Jb1 ?_
 cases h
 exact Jw1 _ ⟨K10,((s1.1:Int),(s1.2:(List (List Int)))),R,S11.wk R,f12,hn13,R⟩ (KM R)
 obtain⟨o1,h,hk14⟩:=BI h;unfold eU at h
 have hc1:decide (v5<(p0.length:Int))=true:=Jn2 (by omega)
 refine Jq (Jg3 [2,2,2,2] 2 R (Jf R (Je2 U26 R R) (Jb 1 R (Jv2 R hc1 (Js (Jp (Jq (Jv (Jh3 [2,2,2,1,2,1,2] 2 R (Ob h λx14 hx14 h=>Jf R (Jf2 f12.rdc hx14 U26 Z29 R R hn13 R) ?_))))))))))
 obtain⟨ax14,ux14,f15,hl16⟩:=f12.rdc.gSl hx14
 refine Jb3 R I29 hl16 (Jn 1 R ?_)
 obtain⟨K17,S18,f19,f20⟩:=f12.borrow hx14 (hl16 _ (Ag.refl _ _ _)) 3 R R
 refine Ob h λx17 hx17 h=>Jh R R R C85 (fC (κ:=λb=>mp [(3,2)] 0 (K17 b)) (f19.map (mp [(3,2)] 0) R R) hx17) ?_
 rintro _ w21 ⟨k22,rfl,e23,f24,hn25⟩
 obtain⟨K26,S27,m28⟩:=Ji e23 4 R
 refine⟨tv,Ob h λyb442 hyb442 h=>?_⟩
 obtain⟨K32,S33,f34⟩:=Ow.unborrow (f20.stp S27 R R) (f24.mx (bH _) m28 R (R:4+2=6)) (hn25) R R hyb442
 have hn35:p0.length=yb442.length:=hn13.trans (Jt2 hyb442).2.2.2.symm
 refine Jc 1 R (Jz (Jp (Jf3 R ?_)))
 have hw1:hV .i64 (v5+1)=v5+1:=wr1 hj1 (Jm2 hc1) hN1
 rw[hw1]
 have hc1:=Jm2 hc1
 cases h
 exact Jz1 λa ha=>⟨k,_,Ja3 _,⟨K32,v5+1,((x17.1:Int),(yb442:(List (List Int)))),R,(S11.tr (S18.tr (S27.tr S33))).wk R,f34,hn35,by omega,by omega,hk14⟩,(ha.mm R)⟩
 rintro _ w4 ⟨K5,s3,rfl,S6,f7,hn8,rfl⟩
 have h:=hK2
 dsimp only[aft]at h
 refine Jp (Je3 R (Ju (Ja2 (l:=[.tmp 4]) V86 (Jp2 R R) R ?_)))
 cases h
 exact⟨K5,R,(hE.stp S6 R R),f7,hn8⟩
theorem mE {w:World}{κ:Col}{a0 u0}{p0:(List (List Int))}{p1:Int}(g0:Rd (Rp.sl (Rp.int .i64)) κ w 0 a0 u0 p0){r:Int}(h:fi p0 p1=some r):Ret Tryz.prog 88 [.slice a0 p0.length u0,vi p1] w (λv w'=>∃(κ':Col),v=vi r/\Ent κ w κ' w'):=by
 unfold fi at h
 refine Ret.enter F88 R N88 R ?_
 dsimp only[envOf]
 have hE:=Ent.refl κ w
 refine Je3 R (Jq (Je3 R ?_))
 have hN1:(p0.length:Int)<=9223372036854775807:=g0.len_le
 refine Ob h λq2 hq3 hK2=>?_
 clear h
 refine Jx1 (λL w'=>∃κ' s3,L=[(1,vi s3)]/\Stp [] κ w κ' w'/\q2=it s3) ?_ ?_
 refine Jv (Jy1 (λk L w'=>∃κ' v5 s1,L=[(0,.slice a0 p0.length u0),(1,vi s1),(5,vi v5)]/\Stp [] κ w κ' w'/\0<=v5/\t5 ((p0.length:Int)-v5)=k/\cntM (eP p0) k v5 s1=some q2) ⟨_,_,⟨κ,0,(p1:Int),R,Jj3,(by decide),(by simp),hq3⟩,(KM R)⟩ ?_)
 rintro k _ w7 ⟨K8,v5,s1,rfl,S9,hj1,hJ1,h⟩
 rcases k with _ | k
 have hk10:=h;obtain⟨o1,h⟩:=bO (it (sh s1):Int⊕((Int)⊕(Int)))
 have hc1:decide (v5<(p0.length:Int))=false:=Jo2 (by omega)
 refine Jq (Jg3 [2,2,2,2] 2 R (Jf R (Je2 U26 R R) (Jb 1 R (Jw2 R hc1 (Jc1 (Jt (Jt ?_)))))))
 cases h
 have h:=hk10
 refine Jb1 ?_
 cases h
 exact Jw1 _ ⟨K8,(s1:Int),R,S9.wk R,R⟩ (KM R)
 obtain⟨o1,h,hk10⟩:=BI h;unfold eP at h
 have hc1:decide (v5<(p0.length:Int))=true:=Jn2 (by omega)
 refine Jq (Jg3 [2,2,2,2] 2 R (Jf R (Je2 U26 R R) (Jb 1 R (Jv2 R hc1 (Js (Jp (Jq (Jv (Jg3 [2,2,2,1,2,1,2] 2 R (Ob h λx14 hx14 h=>Jc3 R g0 hx14 U26 Z29 ?_))))))))))
 obtain⟨ax14,ux14,f12,hl13⟩:=(g0.stp S9 R R).gSl hx14
 refine Jb3 R I29 hl13 (Jn 1 R (Ob h λx17 hx17 h=>Jh R R R C87 (kz (κ:=Mk K8) (Ji3 f12) hx17) ?_))
 rintro _ w14 ⟨k15,rfl,e16⟩
 obtain⟨K17,S18,m19⟩:=Ji e16 2 R
 refine⟨tv,Jb 1 R (Je3 R ?_)⟩
 revert h
 cases ht21:decide (x17<0)
 refine JF λh=>Jy R (Js (Jz (Jp (Jf3 R ?_))))
 have hw1:hV .i64 (v5+1)=v5+1:=wr1 hj1 (Jm2 hc1) hN1
 rw[hw1]
 have hc1:=Jm2 hc1
 cases h
 exact Jz1 λa ha=>⟨k,_,Ja3 _,⟨K17,v5+1,(x17:Int),R,(S9.tr S18).wk R,by omega,by omega,hk10⟩,(ha.mm R)⟩
 refine JT λh=>Jx R (Je3 R (Ju (Ja1 (Jw (Jw ?_)))))
 cases h
 obtain rfl:=Option.some.inj hk10
 have h:=hK2
 dsimp only[aft]at h
 refine Ja1 (Jq2 (Jw (Ja2 (l:=[.tmp 4]) V88 (Jp2 R R) R ?_)))
 cases h
 exact⟨K17,R,(hE.stp (S9.tr S18) R R)⟩
 rintro _ w4 ⟨K5,s3,rfl,S6,rfl⟩
 have h:=hK2
 dsimp only[aft]at h
 refine Jp (Je3 R (Ju (Ja2 (l:=[.tmp 4]) V88 (Jp2 R R) R ?_)))
 cases h
 exact⟨K5,R,(hE.stp S6 R R)⟩
end Go.Proofs.YtpcjbkgbnoocaaaGreat
