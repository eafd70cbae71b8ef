/- The walks, part 1. By program. -/
import Derived.Test.YtleekpaohfpooaaGreatFnsMKE
import Derived.Test.YtleekpaohfpooaaGreatAlKE
set_option linter.unusedVariables false
set_option linter.unusedSimpArgs false
open Go.IntKind renaming wrap → yC
open Sum renaming inr → yD, inl → yE
open Int renaming toNat → yG
namespace Go.Proofs.YtleekpaohfpooaaGreat
open Go Go.Wk Go.Proofs
set_option maxRecDepth 100000
set_option maxHeartbeats 1000000
variable {w:World}{κ:Col}
theorem uM {a0 u0}{p0:(List Int)}{p1:Int}(g0:Rd (Rp.int .u8) κ w 0 a0 u0 p0){r:dice}(h:qg p0 p1=some r):Ret Tryz.prog 9 [.slice a0 p0.length u0,.int .u64 p1] w (λv w'=>∃(κ':Col) (ra0:Option Addr) (ru0:Nat) (rb1:Nat),v= .pointer (some ⟨rb1,0,none⟩)/\Ent κ w κ' w'/\Rd (Rp.int .u8) κ' w' 0 ra0 ru0 r.b/\(Bc κ' w' 3 rb1 65 [.slice ra0 r.b.length ru0,vi r.i,.int .u64 r.h])):=by
 unfold qg at h
 refine Jk3 κ F9 R N9 R λhE=>Je3 R<|Jg3 [2,2,2,2,2,2,2,2,1,2] 4 R<|Jn3 R U22 R R<|Jf R (Jh2 U3 U26 R R)<|Jn 1 R<|Jf R (bK (parts:=[(0,.tmp 7),(2,.tmp 13)]) (cells:=[.slice a0 p0.length u0,vi 0,.int .u64 (IntKind.u64.wrap ((IntKind.u64.wrap<|p1 * 7919)+(IntKind.u64.wrap (p0.length:Int))))]) R R (by kernel_rfl))<|Js3 (κ:=κ) 2 R λb15 w1 K2 S3 f4=>Tv<|Jb 1 R<|Jq<|Je3 R ?_
 have hN5:(p0.length:Int)<=9223372036854775807:=g0.len_le
 refine Ob h λq2 hq7 hK6=>?_
 clear h
 refine Jo3 [5] (λE L w'=>∃κ' s3,L=E/\Stp [2] K2 w1 κ' w'/\Bc κ' w' 2 b15 65 [.slice a0 p0.length u0,vi 0,.int .u64 s3]/\q2=yD s3) ?_ ?_
 refine Jv<|Jp3 [0,5] (λk E L w'=>∃κ' v6 s1,L=(6,vi v6)::E/\Stp [2] K2 w1 κ' w'/\Bc κ' w' 2 b15 65 [.slice a0 p0.length u0,vi 0,.int .u64 s1]/\0<=v6/\yG ((p0.length:Int)-v6)=k/\cntM (kW p0) k v6 s1=some q2) ⟨_,_,⟨K2,0,((IntKind.u64.wrap ((IntKind.u64.wrap<|p1 * 7919)+(IntKind.u64.wrap (p0.length:Int)))):Int),R,Jj3,f4,(by decide),(by simp),hq7⟩,(KM R)⟩ ?_
 rintro k _ w12 ⟨K13,v6,s1,rfl,S14,f15,hj5,hJ5,h⟩
 rcases k with _ | k
 have hk16:=h;obtain⟨o5,h⟩:=bT (yD (yE s1):dice⊕((Int)⊕(Int)))
 have hc5:decide (v6<(p0.length:Int))=false:=Jo2 (by omega)
 refine Jq<|Jg3 [2,2,2,2] 2 R<|Jn3 R U22 R R<|Jb 1 R<|Jw2 R hc5<|Jc1<|Jt<|Jt ?_
 cases h
 have h:=hk16
 refine Jb1 ?_
 cases h
 exact Jw1 _ ⟨K13,s1,R,S14.wk R,f15,R⟩<|KM R
 obtain⟨o5,h,hk16⟩:=BI h;unfold kW at h
 have hc5:decide (v6<(p0.length:Int))=true:=Jn2 (by omega)
 refine Jq<|Jg3 [2,2,2,2] 2 R<|Jn3 R U22 R R<|Jb 1 R<|Jv2 R hc5<|Js<|Jp<|Jq<|Jv<|Js1 (κ:=K13) [0,2] (some 15) [(0,2),(1,2),(2,2),(3,2),(6,2),(7,2),(8,2),(4,0),(5,2),(9,0),(10,2),(11,2),(12,2),(13,2),(14,2)] [(15,1)] (by kernel_rfl) (by kernel_rfl) λw18 S17=>Jn 2 R<|Jf R (cr R R)<|Jd3 R U65 R Z26<|Jn 2 R<|Ob h λx30 hx30 h=>Jc3 R g0 hx30 U22 Z5 ?_
 have f19:=f15.stp S17
 refine Jg R (Jc2 I26 R R<|hvC (f19.ld 2 R R) R)<|Jn 1 R<|Jg R (Jc2 I5 R R<|hvC ((g0.stp<|T3 S3 S14 S17).gInt hx30) R)<|Jf R (Jh2 U5 U26 R R)<|Jn 2 R<|Jf R (cr R R)<|Jd3 R U65 R Z26<|Jt1<|Ju3 (κ:=K13) 2 (off:=2) (vc:=[.int .u64 (IntKind.u64.wrap ((IntKind.u64.wrap ((IntKind.u64.wrap<|s1 * 1099511628211)+(IntKind.u64.wrap x30)))+3))]) (cs':=[.slice a0 p0.length u0,vi 0,.int .u64 (IntKind.u64.wrap ((IntKind.u64.wrap ((IntKind.u64.wrap<|s1 * 1099511628211)+(IntKind.u64.wrap x30)))+3))]) R Z26 R f19 R λw21 S22 f23=>Tv<|Jo<|Jz<|Jp<|Jf3 R ?_
 have hw5:yC .i64 (v6+1)=v6+1:=wr1 hj5 (Jm2 hc5) hN5
 rw[hw5]
 have hc5:=Jm2 hc5
 cases h
 exact Jz1 λa ha=>⟨k,_,Ja3 _,⟨K13,v6+1,((IntKind.u64.wrap ((IntKind.u64.wrap ((IntKind.u64.wrap<|s1 * 1099511628211)+(IntKind.u64.wrap x30)))+3)):Int),R,(T3 S14 S17 S22).wk R,f23,by omega,by omega,hk16⟩,(ha.mm R)⟩
 rintro _ w8 ⟨K9,s3,rfl,S10,f11,rfl⟩
 have h:=yI hK6
 refine Jp<|Je3 R<|Ju<|Ja2 (l:=[.tmp 4]) V9 (Jp2 R R) R ?_
 cases h
 exact⟨(λb=>ren [(2,3)]<|K9 b),a0,u0,b15,R,((hE.stp<|S3.tr S10).map (ren [(2,3)]) R R),((g0.stp<|S3.tr S10).map (ren [(2,3)]) R R),(f11.map (ren [(2,3)]) R R)⟩
theorem dd {ab aa}{p0:dice}{p1:Int}{b0}(g0_0:Rd (Rp.int .u8) κ w 0 ab aa p0.b) (gb0:Bc κ w 2 b0 65 [.slice ab p0.b.length aa,vi p0.i,.int .u64 p0.h]){r:Int×Int×Int}(h:cJ p0 p1=some r):Ret Tryz.prog 25 [.pointer (some ⟨b0,0,none⟩),vi p1] w (λv w'=>∃(κ':Col),v=vi r.1/\Ent κ w κ' w'/\Bc κ' w' 2 b0 65 [.slice ab p0.b.length aa,vi r.2.1,.int .u64 r.2.2]):=by
 unfold cJ at h
 refine Jk3 κ F25 R N25 R λhE=>Je3 R<|Jg3 [2,2,2,2,1,2,2,2,2,1] 2 R<|Jf R (cr R R)<|Jd3 R U65 R Z26<|Jb3 R I26 (gb0.ld 2 R R)<|Jn 2 R<|Jf R (cr R R)<|Jd3 R U65 R Z26<|Ju3 (κ:=κ) 2 (off:=2) (vc:=[.int .u64 (IntKind.u64.wrap ((IntKind.u64.wrap<|p0.h * 6364136223846793005)+1442695040888963407))]) (cs':=[.slice ab p0.b.length aa,vi p0.i,.int .u64 (IntKind.u64.wrap ((IntKind.u64.wrap<|p0.h * 6364136223846793005)+1442695040888963407))]) R Z26 R gb0 R λw1 S2 f3=>Tv<|Jd<|Jg3 [2,2,2,1,2,2,2,2] 1 R<|Jf R (cr R R)<|Jd3 R U65 R Z26<|Jb3 R I26 (f3.ld 2 R R)<|Jf R (yb R R R (by decide))<|Jn 1 R<|Jf R (Jh2 U26 U2 R R)<|Jb 1 R<|Jq<|Jq<|Js1 (κ:=κ) [2] none [(0,2),(1,2),(2,2),(4,2),(5,2),(6,2),(3,0),(7,0),(8,2),(9,2)] [] (by kernel_rfl) (by kernel_rfl) λw5 S4=>Jn 1 R<|Jf R (cr R R)<|Jd3 R U65 R Z3<|Jn 1 R<|Jf R (cr R R)<|Jd3 R U65 R Z22 ?_
 have f6:=f3.stp S4
 refine Jg R (Jc2 I3 R R<|hvC (f6.ld 1 R R) R)<|Jg R (Jc2 I22 R R<|hvC (f6.ld 0 R R) R)<|Jn3 R U22 R R<|Jn 1 R<|Jt1<|Jd<|Ob h λq1 h hK7=>Jo3 [0,1] (λE L w'=>∃κ',L=(5,vi q1.1)::E/\Stp [2] κ w5 κ' w'/\Bc κ' w' 2 b0 65 [.slice ab p0.b.length aa,vi q1.2,.int .u64 (IntKind.u64.wrap ((IntKind.u64.wrap<|p0.h * 6364136223846793005)+1442695040888963407))]) ?_ ?_
 revert h
 cases ht12:decide (p0.i<(p0.b.length:Int))
 refine JF λh=>Jy R<|Js ?_
 cases h
 exact Jw1 _ ⟨κ,R,Jj3,f6⟩<|KM R
 refine JT λh=>Jx R<|Jq<|Js1 (κ:=κ) [0,2] none [(0,2),(1,2),(2,2),(3,2),(5,2),(6,2),(7,2),(4,0),(8,0),(9,2),(10,0),(11,2),(12,2),(13,2)] [] (by kernel_rfl) (by kernel_rfl) λw14 S13=>Jn 2 R<|Jf R (cr R R)<|Jd3 R U65 R Z22<|Jn 1 R<|Jf R (cr R R)<|Jd3 R U65 R Z3 ?_
 have f15:=f6.stp S13
 refine Jg R (Jc2 I22 R R<|hvC (f15.ld 0 R R) R)<|Jg R (Jc2 I3 R R<|hvC (f15.ld 1 R R) R)<|Ob h λx41 hx41 h=>Jc3 R g0_0 hx41 U22 Z5<|Jg R (Jc2 I5 R R<|hvC ((g0_0.stp<|T3 S2 S4 S13).gInt hx41) R)<|Jf R (Jh2 U5 U2 R R)<|Jn 2 R<|Jt1<|Jd<|Jh3 [2,2,2,2,1,2,2,2,1] 2 R<|Jf R (cr R R)<|Jd3 R U65 R Z3<|Jb3 R I3 (f15.ld 1 R R)<|Jn 1 R<|Jf R (cr R R)<|Jd3 R U65 R Z3<|Ju3 (κ:=κ) 2 (off:=1) (vc:=[vi<|IntKind.i64.wrap<|p0.i+1]) (cs':=[.slice ab p0.b.length aa,vi (IntKind.i64.wrap<|p0.i+1),.int .u64 (IntKind.u64.wrap ((IntKind.u64.wrap<|p0.h * 6364136223846793005)+1442695040888963407))]) R Z3 R f15 R λw17 S18 f19=>Tv<|Jo ?_
 cases h
 exact Jw1 _ ⟨κ,R,(S13.tr S18).wk R,f19⟩<|KM R
 rintro _ w8 ⟨K9,rfl,S10,f11⟩
 have h:=hK7
 refine Jp<|Jg3 [2,2,2,2] 2 R<|Ob h λ_z55 hz55 h=>Jf R (tJ R R R<|yt hz55)<|Jb 1 R<|Ju<|Ja2 (l:=[.tmp 4]) V25 (Jp2 R R) R ?_
 cases h
 exact⟨K9,R,(hE.stp<|T3 S2 S4 S10),f11⟩
theorem fO {p0:Sig}  {r:Int}(h:c8 p0=some r):Ret Tryz.prog 103 [.agg #[vi p0.In,vi p0.Out]] w (Pvi κ w r):=by
 unfold c8 at h
 refine Jk3 κ F103 R N103 R λhE=>Je [1,2] R<|Js3 (κ:=κ) 2 R λb1 w1 K2 S3 f4=>Tv<|Jb 1 R<|Je [2,1,2,1,2,2,2] R<|Jd3 R U28 R Z2<|Jb3 R I2 (f4.ld 0 R R)<|Jd3 R U28 R Z2<|Jb3 R I2 (f4.ld 1 R R)<|Jn 1 R<|Ob h λ_z8 hz8 h=>Jf R (qZ R R R<|uv hz8)<|Jb 1 R<|Ju<|Ja2 (l:=[.tmp 2]) V103 (Jp2 R R) R ?_
 cases h
 exact⟨K2,R,(hE.stp S3)⟩
theorem fZ {p0:Sig}  {r:Int}(h:dL p0=some r):Ret Tryz.prog 46 [.agg #[vi p0.In,vi p0.Out]] w (Pvi κ w r):=by
 unfold dL at h
 refine Jk3 κ F46 R N46 R λhE=>Je [1,2] R<|Js3 (κ:=κ) 2 R λb1 w1 K2 S3 f4=>Tv<|Jb 1 R<|Je [2,1,2,2] R<|Jd3 R U28 R Z2<|Jb3 R I2 (f4.ld 0 R R)<|Ob h λ_z5 hz5 h=>Jf R (qZ R R R<|uv hz5)<|Jb 1 R<|Ju<|Ja2 (l:=[.tmp 2]) V46 (Jp2 R R) R ?_
 cases h
 exact⟨K2,R,(hE.stp S3)⟩
theorem gR {a0 u0}{p0:(List Int)}(g0:Oc E6 2 κ w 2 a0 u0 p0){r:(List Int)}(h:cu p0=some r):Ret Tryz.prog 106 [.slice a0 p0.length u0] w (λv w'=>∃(κ':Col),v= .tuple #[]/\Ent κ w κ' w'/\Oc E6 2 κ' w' 2 a0 u0 r/\p0.length=r.length):=by
  unfold cu at h
  split at h
  · rename_i hh
    cases h
    exact xh (λblk off cap zs w hH hb hz=>Tryz.slices_Sort_int blk off cap zs w hH hb hz) g0 hh.1 hh.2
  · split at h
    · rename_i hh
      cases h
      exact vo Tryz.slices_Sort_int_none g0 hh
    · cases h
theorem ke {a0 u0}{p0:(List Int)}(g0:Oc E6 2 κ w 2 a0 u0 p0){r:(List Int)}(h:cT p0=some r):Ret Tryz.prog 107 [.slice a0 p0.length u0] w (Pvs E6 2 κ w r):=by
  unfold cT at h
  split at h
  · rename_i hh
    cases h
    exact tF (λblk off cap zs w hH hz hc=>Tryz.slices_Compact_int blk off cap zs w hH hz hc) g0 hh.1 hh.2
  · cases h
theorem qv {ai ah aj ak}{p0:Pair}(g0_0:Rd (Rp.int .i64) κ w 0 ai ah p0.Ask) (g0_1:Rd (Rp.int .i64) κ w 0 aj ak p0.Give){r:Pair}(h:lK p0=some r):Ret Tryz.prog 108 [.agg #[.slice ai p0.Ask.length ah,.slice aj p0.Give.length ak]] w (λv w'=>∃(κ':Col) (ra0:Option Addr) (ru0:Nat) (ra1:Option Addr) (ru1:Nat),v= .agg #[.slice ra0 r.Ask.length ru0,.slice ra1 r.Give.length ru1]/\Ent κ w κ' w'/\Oc E6 2 κ' w' 2 ra0 ru0 r.Ask/\Oc E6 2 κ' w' 3 ra1 ru1 r.Give):=by
 unfold lK at h
 refine Jk3 κ F108 R N108 R λhE=>Je [1,1] R<|Js3 (κ:=κ) 2 R λb1 w1 K2 S3 f4=>Tv<|Jt3 (κ:=K2) 3 R X127 R λb2 w5 K6 S7 f8=>Tv<|Jd<|Jq<|Ob h λx6 hx6 h=>Ob h λx10 hx10 h=>Jo3 [2] (λE L w'=>∃κ' ad ae af ac,L=E/\Stp [3,4,5] K6 w5 κ' w'/\Oc E6 2 κ' w' 4 ad ae x6/\Oc E6 2 κ' w' 5 af ac x10/\Bc κ' w' 3 b2 127 [.slice ad x6.length ae,.slice af x10.length ac]) ?_ ?_
 refine WC.rxt (κ:=K6) [2] none (by kernel_rfl) λw16 S17=>Jq1 (fuel:=6) [(1,2),(5,2),(2,0),(6,0)] (by kernel_rfl) (by kernel_rfl) R<|Jd3 R U127 R Z37<|Jd3 R U127 R Z37 ?_
 have f18:=f4.stp (S7.tr S17)
 refine Jg R (Jc2 I37 R R<|hvC (f18.ld 0 R R) R)<|Jg R (Jc2 I37 R R<|hvC (f18.ld 1 R R) R)<|Jp1<|WA.fork2 (fuel:=5) 0 4 (by kernel_rfl) R ?_ ?_
 refine Jx3 (κ:=K6) (E:=E6) 4 R Y37 bG R λa3 u3 w19 K20 S21 f22=>⟨(S21.cl R),Jp1<|WA.fork2 (fuel:=4) 3 4 (by kernel_rfl) R ?_ ?_⟩
 have S001:=(T4 S3 S7 S17 S21)
 exact Jy3 (κ:=K20) (E:=E6) 4 [] R Y37 bG R f22 (Sl.srcP (bP _)<|g0_0.stp S001) bI hx6 R λa6 u6 w24 K25 S26 f27=>⟨((S21.tr S26).cl R),Jp1<|Jq1 (fuel:=0) [(4,1),(7,1),(8,2),(9,1)] (by kernel_rfl) (by kernel_rfl) R<|Jx3 (κ:=K25) (E:=E6) 5 R Y37 bG R λa7 u7 w28 K29 S30 f31=>⟨((T3 S21 S26 S30).cl R),Jy3 (κ:=K29) (E:=E6) 5 [] R Y37 bG R f31 (Sl.srcP (bP _)<|g0_1.stp<|T3 S001 S26 S30) bI hx10 R λaa ab w33 K34 S35 f36=>⟨((T4 S21 S26 S30 S35).cl R),Jf R (bK (parts:=[(0,.tmp 6),(1,.tmp 10)]) (cells:=[.slice a6 x6.length u6,.slice aa x10.length ab]) R R (by kernel_rfl))<|Jv3 (κ:=K34) 3 (vc:=[.slice a6 x6.length u6,.slice aa x10.length ab]) R Z127 R (f8.stp<|T5 S17 S21 S26 S30 S35) R λw38 S39 f40=>⟨((T5 S21 S26 S30 S35 S39).cl R),Jp1<|Jr1 [] (by kernel_rfl) (by kernel_rfl) R<|Jo<|Jw1 _ ⟨K34,a6,u6,aa,ab,R,(T6 S17 S21 S26 S30 S35 S39).wk R,(f27.stp<|T3 S30 S35 S39),(f36.stp S39),f40⟩<|KM R⟩⟩⟩⟩
 have S002:=(T4 S3 S7 S17 S21)
 exact Jx3 (κ:=K20) (E:=E6) 5 R Y37 bG R λa7 u7 w43 K44 S45 f46=>⟨((S21.tr S45).cl R),Jp1<|Jq1 (fuel:=0) [(3,1),(7,1),(8,2),(9,1)] (by kernel_rfl) (by kernel_rfl) R<|Jy3 (κ:=K44) (E:=E6) 4 [] R Y37 bG R (f22.stp S45) (Sl.srcP (bP _)<|g0_0.stp<|S002.tr S45) bI hx6 R λa6 u6 w49 K50 S51 f52=>⟨((T3 S21 S45 S51).cl R),Jy3 (κ:=K50) (E:=E6) 5 [] R Y37 bG R (f46.stp S51) (Sl.srcP (bP _)<|g0_1.stp<|T3 S002 S45 S51) bI hx10 R λaa ab w55 K56 S57 f58=>⟨((T4 S21 S45 S51 S57).cl R),Jf R (bK (parts:=[(0,.tmp 6),(1,.tmp 10)]) (cells:=[.slice a6 x6.length u6,.slice aa x10.length ab]) R R (by kernel_rfl))<|Jv3 (κ:=K56) 3 (vc:=[.slice a6 x6.length u6,.slice aa x10.length ab]) R Z127 R (f8.stp<|T5 S17 S21 S45 S51 S57) R λw60 S61 f62=>⟨((T5 S21 S45 S51 S57 S61).cl R),Jp1<|Jr1 [] (by kernel_rfl) (by kernel_rfl) R<|Jo<|Jw1 _ ⟨K56,a6,u6,aa,ab,R,(T6 S17 S21 S45 S51 S57 S61).wk R,(f52.stp<|S57.tr S61),(f58.stp S61),f62⟩<|KM R⟩⟩⟩⟩
 exact Jx3 (κ:=K6) (E:=E6) 4 R Y37 bG R λa7 u7 w65 K66 S67 f68=>⟨(S67.cl R),Jp1<|Jq1 (fuel:=0) [(0,1),(3,1),(7,1),(8,2),(9,1)] (by kernel_rfl) (by kernel_rfl) R<|Jx3 (κ:=K66) (E:=E6) 5 R Y37 bG R λa3 u3 w69 K70 S71 f72=>⟨((S67.tr S71).cl R),Jy3 (κ:=K70) (E:=E6) 5 [] R Y37 bG R f72 (Sl.srcP (bP _)<|g0_0.stp<|T5 S3 S7 S17 S67 S71) bI hx6 R λa6 u6 w74 K75 S76 f77=>⟨((T3 S67 S71 S76).cl R),Jy3 (κ:=K75) (E:=E6) 4 [] R Y37 bG R (f68.stp<|S71.tr S76) (Sl.srcP (bP _)<|g0_1.stp<|T6 S3 S7 S17 S67 S71 S76) bI hx10 R λaa ab w80 K81 S82 f83=>⟨((T4 S67 S71 S76 S82).cl R),Jf R (bK (parts:=[(0,.tmp 6),(1,.tmp 10)]) (cells:=[.slice a6 x6.length u6,.slice aa x10.length ab]) R R (by kernel_rfl))<|Jv3 (κ:=K81) 3 (vc:=[.slice a6 x6.length u6,.slice aa x10.length ab]) R Z127 R (f8.stp<|T5 S17 S67 S71 S76 S82) R λw85 S86 f87=>⟨((T5 S67 S71 S76 S82 S86).cl R),Jp1<|Jr1 [] (by kernel_rfl) (by kernel_rfl) R<|Jo<|Jw1 _ ⟨(λb=>ren [(5,4),(4,5)]<|K81 b),a6,u6,aa,ab,R,(Jy2 ((T6 S17 S67 S71 S76 S82 S86).wk R) [(5,4),(4,5)] R),((f77.stp<|S82.tr S86).map (ren [(5,4),(4,5)]) R R),((f83.stp S86).map (ren [(5,4),(4,5)]) R R),(f87.map (ren [(5,4),(4,5)]) R R)⟩<|KM R⟩⟩⟩⟩⟩
 rintro _ w9 ⟨K10,ad,ae,af,ac,rfl,S11,f13,f14,f15⟩
 refine Jp<|Ju<|Ja2 (l:=[.cell 2 127]) V108 (bM R f15 I127 Z127 R R) R ?_
 cases h
 exact⟨(λb=>ren [(4,2),(5,3)]<|K10 b),ad,ae,af,ac,R,((hE.stp<|T3 S3 S7 S11).map (ren [(4,2),(5,3)]) R R),(f13.map (ren [(4,2),(5,3)]) R R),(f14.map (ren [(4,2),(5,3)]) R R)⟩
theorem kM {a0 u0}{p0:(List Int)}{a1 u1}{p1:(List Int)}(g0:Rd (Rp.int .i64) κ w 0 a0 u0 p0) (g1:Rd (Rp.int .i64) κ w 0 a1 u1 p1){r:Bool}(h:c7 p0 p1=some r):Ret Tryz.prog 160 [.slice a0 p0.length u0,.slice a1 p1.length u1] w (Pvb κ w r):=by
 unfold c7 at h
 refine Jk3 κ F160 R N160 R λhE=>Je3 R<|Jq<|Jg3 [2,2,2,2,2] 1 R<|Jn3 R U37 R R<|Jn 1 R<|Jn3 R U37 R R<|Jb 1 R ?_
 revert h
 cases ht1:((p0.length:Int) !=(p1.length:Int))
 refine JF λh=>Jy R<|Js<|Jp<|Jq<|Jg3 [2,2,2] 1 R<|Jn3 R U37 R R<|Jb 1 R ?_
 have hN2:(p0.length:Int)<=9223372036854775807:=g0.len_le
 refine Ob h λq2 hq4 hK3=>?_
 clear h
 refine Jx1 (λL w'=>∃κ',L=[]/\Stp [] κ w κ' w'/\q2=yD ()) ?_ ?_
 refine Jv<|Jp3 [0,1,12] (λk E L w'=>∃κ' v13,L=(13,vi v13)::E/\Stp [] κ w κ' w'/\0<=v13/\yG ((p0.length:Int)-v13)=k/\cntM (cL p0 p1) k v13 ()=some q2) ⟨_,_,⟨κ,0,R,Jj3,(by decide),(by simp),hq4⟩,(KM R)⟩ ?_
 rintro k _ w8 ⟨K9,v13,rfl,S10,hj2,hJ2,h⟩
 rcases k with _ | k
 have hk11:=h;obtain⟨o2,h⟩:=bT (yD (yE ()):Bool⊕((Unit)⊕(Unit)))
 have hc2:decide (v13<(p0.length:Int))=false:=Jo2 (by omega)
 refine Je3 R<|Jq<|Jw2 R hc2<|Jc1<|Jt<|Jt ?_
 cases h
 have h:=hk11
 refine Jb1 ?_
 cases h
 exact Jw1 _ ⟨K9,R,S10.wk R,R⟩ KN
 obtain⟨o2,h,hk11⟩:=BI h;unfold cL at h
 have hc2:decide (v13<(p0.length:Int))=true:=Jn2 (by omega)
 refine Je3 R<|Jq<|Jv2 R hc2<|Js<|Jp<|Jq<|Jv<|Je3 R<|Jq<|Js1 (κ:=K9) [0] none [(0,2),(1,2),(2,2),(4,2),(5,2),(6,2),(3,0),(7,0),(8,2)] [] (by kernel_rfl) (by kernel_rfl) λw13 S12=>Jn 2 R<|Ob h λx18 hx18 h=>Jc3 R g0 hx18 U37 Z2<|Jn 2 R<|Ob h λx22 hx22 h=>Jc3 R g1 hx22 U37 Z2<|Jg R (Jc2 I2 R R<|hvC ((g0.stp<|S10.tr S12).gInt hx18) R)<|Jg R (Jc2 I2 R R<|hvC ((g1.stp<|S10.tr S12).gInt hx22) R)<|Jn 1 R<|Jt1<|Jd ?_
 revert h
 cases ht16:(x18 !=x22)
 refine JF λh=>Jy R<|Js<|Jz<|Jp<|Jf3 R ?_
 have hw2:yC .i64 (v13+1)=v13+1:=wr1 hj2 (Jm2 hc2) hN2
 rw[hw2]
 have hc2:=Jm2 hc2
 cases h
 exact Jz1 λa ha=>⟨k,_,Ja3 _,⟨K9,v13+1,R,(S10.tr S12).wk R,by omega,by omega,hk11⟩,(ha.mm R)⟩
 refine JT λh=>Jx R<|Je3 R<|Ju<|Ja1<|Jw<|Jw ?_
 cases h
 obtain rfl:=Option.some.inj hk11
 have h:=yL hK3
 refine Ja1<|Jq2<|Jw<|Ja2 (l:=[.tmp 4]) V160 (Jp2 R R) R ?_
 cases h
 exact⟨K9,R,(hE.stp<|S10.tr S12)⟩
 rintro _ w5 ⟨K6,rfl,S7,rfl⟩
 have h:=yI hK3
 refine Jp<|Je3 R<|Ju<|Ja2 (l:=[.tmp 4]) V160 (Jp2 R R) R ?_
 cases h
 exact⟨K6,R,(hE.stp S7)⟩
 refine JT λh=>Jx R<|Je3 R<|Ju<|Jw<|Ja2 (l:=[.tmp 4]) V160 (Jp2 R R) R ?_
 cases h
 exact⟨κ,R,hE⟩
theorem tD {p0:Int}  {r:(List Int)}(h:pa p0=some r):Ret Tryz.prog 91 [vi p0] w (Pvs E6 2 κ w r):=by
 unfold pa at h
 refine Jk3 κ F91 R N91 R λhE=>Je3 R<|Jq<|Jg3 [2,2,2,2,2,2] 3 R<|Ob h λp10 h hK1=>Jq3 [0] (λE L w'=>L=(10,.bool p10)::E/\∃κ',Stp [] κ w κ' w') [(3,2),(4,2),(5,2)] [] tv ?_ ?_
 revert h
 cases ht2:decide (p0<0)
 refine JF λh=>Jn 3 R ?_
 cases h
 exact Jv1 _ tv ⟨R,_,Jj3⟩<|KM R
 refine JT λh=>Jn 3 R ?_
 cases h
 exact Jv1 _ tv ⟨R,_,Jj3⟩<|KM R
 rintro _ w3 _ ⟨rfl,K4,S5⟩
 have h:=hK1
 refine Jd ?_
 revert h
 cases ht6:p10
 refine JF λh=>Jy R<|Js<|Jp<|Je [1,2] R<|Jx3 (κ:=K4) (E:=E6) 2 R Y37 bG R λai ah w8 K9 S10 f11=>Tv<|Jb 1 R<|Jq<|Je3 R<|Ob h λ_ hr12 h=>?_
 have hN12:=jo hr12
 refine Ob h λq2 hq14 hK13=>?_
 clear h
 refine Jx1 (λL w'=>∃κ',∃s3:(List Int),∃ad ab,L=[(3,.slice ad s3.length ab)]/\Stp [2] K9 w8 κ' w'/\Oc E6 2 κ' w' 2 ad ab s3/\q2=yD s3) ?_ ?_
 refine Jv<|Jp3 [0] (λk E L w'=>∃κ' v4,∃s1:(List Int),∃ac aa,L=(3,.slice ac s1.length aa)::(4,vi v4)::E/\Stp [2] K9 w8 κ' w'/\Oc E6 2 κ' w' 2 ac aa s1/\0<=v4/\yG (p0-v4)=k/\cntM kd k v4 s1=some q2) ⟨_,_,⟨K9,0,(([]:List Int):(List Int)),ai,ah,R,Jj3,f11,(by decide),(by simp),hq14⟩,(KM R)⟩ ?_
 rintro k _ w19 ⟨K20,v4,s1,ac,aa,rfl,S21,f22,hj12,hJ12,h⟩
 rcases k with _ | k
 have hk23:=h;obtain⟨o12,h⟩:=bT (yD (yE s1):(List Int)⊕(((List Int))⊕((List Int))))
 have hc12:decide (v4<p0)=false:=Jo2 (by omega)
 refine Jq<|Je3 R<|Jw2 R hc12<|Jc1<|Jt<|Jt ?_
 cases h
 have h:=hk23
 refine Jb1 ?_
 cases h
 exact Jw1 _ ⟨K20,s1,ac,aa,R,S21.wk R,f22,R⟩<|KM R
 obtain⟨o12,h,hk23⟩:=BI h;unfold kd at h
 have hc12:decide (v4<p0)=true:=Jn2 (by omega)
 refine Jq<|Je3 R<|Jv2 R hc12<|Js<|Jp<|Jq<|Jv<|Jh3 [2,2,1,1,2] 2 R<|Jw3 (κ:=K20) (E:=E6) 3 [] (parts:=[(0,.tmp 18)]) (cells:=[vi v4]) (xs:=([v4]:List Int)) R Y37 bG R ⟨[vi v4],[],Zl K20 w19 [],Zl K20 w19 [],R,Zl.sp (l1:=[]) (l2:=[]) R,Zl.sr (l1:=[]) (l2:=[]),R,R⟩ λaj ak w24 K25 S26 f27=>Tv<|Ob h λx20 hx20 h=>Jy3 (κ:=K25) (E:=E6) 2 [] R Y37 bG R (f22.stp S26) (Sl.srcP (bP _) f27.rdc) bI hx20 R λaf ae w29 K30 S31 f32=>Tv<|Jc 1 R<|Jz<|Jp<|Jf3 R ?_
 have hw12:yC .i64 (v4+1)=v4+1:=wr1 hj12 (Jm2 hc12) hN12
 rw[hw12]
 have hc12:=Jm2 hc12
 cases h
 exact Jz1 λa ha=>⟨k,_,Ja3 _,⟨K30,v4+1,x20,af,ae,R,(T3 S21 S26 S31).wk R,f32,by omega,by omega,hk23⟩,(ha.mm R)⟩
 rintro _ w15 ⟨K16,s3,ad,ab,rfl,S17,f18,rfl⟩
 have h:=yI hK13
 refine Jp<|Je3 R<|Ju<|Ja2 (l:=[.tmp 2]) V91 (Jp2 R R) R ?_
 cases h
 exact⟨K16,ad,ab,R,(hE.stp<|T3 S5 S10 S17),f18⟩
 refine JT λh=>Jx R<|Je3 R<|Ju<|Jw<|Ja2 (l:=[.tmp 2]) V91 (Jp2 R R) R ?_
 cases h
 exact⟨K4,none,0,R,(hE.stp S5),Ow.nil⟩
theorem rm {ad ac ae af}{p0:Arena}(g0_0:Rd (Rp.int .i64) κ w 0 ad ac p0.Owner) (g0_1:Rd (Rp.sl (Rp.int .i64)) κ w 0 ae af p0.Next){r:(List (List Int))}(h:lb p0=some r):Ret Tryz.prog 176 [.agg #[.slice ad p0.Owner.length ac,.slice ae p0.Next.length af]] w (Pvs (Ep.own E6 2) 37 κ w r):=by
 unfold lb at h
 refine Jk3 κ F176 R N176 R λhE=>Je [1,2] R<|Js3 (κ:=κ) 2 R λb1 w1 K2 S3 f4=>Tv<|Jb 1 R<|Je [2,1,2,1,2] R<|Jd3 R U75 R Z37<|Jb3 R I37 (f4.ld 0 R R)<|Jn3 R U37 R R<|Ob h λx11 hx11 h=>Jl1 (κ:=K2) (E:=(Ep.own E6 2)) (z:=(([]:List Int):(List Int))) 3 R R R R R R R Y31 bQ R R R R R (λ_ _ _=>⟨none,0,R,Ow.nil⟩) (Ju2 hx11) λab aa w5 K6 S7 f8=>Tv<|Jb 1 R<|Jq<|Je [2,1,2,2] R<|Jd3 R U75 R Z31<|Jb3 R I31 ((f4.stp S7).ld 1 R R)<|Jn3 R U31 R R<|Jb 1 R ?_
 have hN10:(p0.Next.length:Int)<=9223372036854775807:=g0_1.len_le
 refine Ob h λq2 hq12 hK11=>?_
 clear h
 refine Jo3 [3] (λE L w'=>∃κ',∃s3:(List<|List Int),L=E/\Stp [3,5] K6 w5 κ' w'/\Oc (Ep.own E6 2) 37 κ' w' 3 ab aa s3/\x11.length=s3.length/\q2=yD s3) ?_ ?_
 refine Jv<|Jp3 [3,13,14] (λk E L w'=>∃κ' v15,∃s1:(List<|List Int),L=(15,vi v15)::E/\Stp [3,5] K6 w5 κ' w'/\Oc (Ep.own E6 2) 37 κ' w' 3 ab aa s1/\x11.length=s1.length/\0<=v15/\yG ((p0.Next.length:Int)-v15)=k/\cntM (iq p0) k v15 s1=some q2) ⟨_,_,⟨K6,0,x11,R,Jj3,f8,R,(by decide),(by simp),hq12⟩,(KM R)⟩ ?_
 rintro k _ w18 ⟨K19,v15,s1,rfl,S20,f21,hn22,hj10,hJ10,h⟩
 rcases k with _ | k
 have hk23:=h;obtain⟨o10,h⟩:=bT (yD (yE s1):(List (List Int))⊕(((List (List Int)))⊕((List (List Int)))))
 have hc10:decide (v15<(p0.Next.length:Int))=false:=Jo2 (by omega)
 refine Je3 R<|Jq<|Jw2 R hc10<|Jc1<|Jt<|Jt ?_
 cases h
 have h:=hk23
 refine Jb1 ?_
 cases h
 exact Jw1 _ ⟨K19,s1,R,S20.wk R,f21,hn22,R⟩<|KM R
 obtain⟨o10,h,hk23⟩:=BI h;unfold iq at h
 have hc10:decide (v15<(p0.Next.length:Int))=true:=Jn2 (by omega)
 refine Je3 R<|Jq<|Jv2 R hc10<|Js<|Jp<|Jq<|Jv<|Jg3 [2,2,1,2,2] 1 R<|Ob h λx18 hx18 h=>Jc3 R g0_1 hx18 U31 Z37 ?_
 obtain⟨ax18,ux18,f25,hl26⟩:=(g0_1.stp (T3 S3 S7 S20)).gSl hx18
 refine Jb3 R I37 hl26<|Jb 2 R<|Jg3 [2,2,2] 1 R<|Jn3 R U37 R R<|Jb 1 R ?_
 have hN27:(x18.length:Int)<=9223372036854775807:=f25.len_le
 refine Ob h λq5 hq29 hK28=>?_
 clear h
 refine Jo3 [3,13,14,15] (λE L w'=>∃κ',∃s6:(List<|List Int),L=E/\Stp [3,5] K19 w18 κ' w'/\Oc (Ep.own E6 2) 37 κ' w' 3 ab aa s6/\x11.length=s6.length/\q5=yD s6) ?_ ?_
 refine Jv<|Jp3 [3,4,13,14,15,20,21] (λk E L w'=>∃κ' v22,∃s4:(List<|List Int),L=(22,vi v22)::E/\Stp [3,5] K19 w18 κ' w'/\Oc (Ep.own E6 2) 37 κ' w' 3 ab aa s4/\x11.length=s4.length/\0<=v22/\yG ((x18.length:Int)-v22)=k/\cntM (ig v15 x18) k v22 s4=some q5) ⟨_,_,⟨K19,0,s1,R,Jj3,f21,hn22,(by decide),(by simp),hq29⟩,(KM R)⟩ ?_
 rintro k _ w35 ⟨K36,v22,s4,rfl,S37,f38,hn39,hj27,hJ27,h⟩
 rcases k with _ | k
 have hk40:=h;obtain⟨o27,h⟩:=bT (yD (yE s4):(List (List Int))⊕(((List (List Int)))⊕((List (List Int)))))
 have hc27:decide (v22<(x18.length:Int))=false:=Jo2 (by omega)
 refine Je3 R<|Jq<|Jw2 R hc27<|Jc1<|Jt<|Jt ?_
 cases h
 have h:=hk40
 refine Jb1 ?_
 cases h
 exact Jw1 _ ⟨K36,s4,R,S37.wk R,f38,hn39,R⟩<|KM R
 obtain⟨o27,h,hk40⟩:=BI h;unfold ig at h
 have hc27:decide (v22<(x18.length:Int))=true:=Jn2 (by omega)
 refine Je3 R<|Jq<|Jv2 R hc27<|Js<|Jp<|Jq<|Jv<|Je [2,1,2] R<|Ob h λx24 hx24 h=>Jc3 R f25 hx24 U37 Z2<|Jb3 R I2 ((f25.stp S37).gInt hx24)<|Jb 1 R<|Jh3 [2,2,2,2,2,1,2,1,1,2,1] 4 R<|Ob h λx30 hx30 h=>Jf R (Jf2 f38.rdc hx30 U31 Z37 R R hn39 R) ?_
 obtain⟨ax30,ux30,f42,hl43⟩:=f38.rdc.gSl hx30
 refine Jb3 R I37 hl43<|Jn 1 R<|Jw3 (κ:=K36) (E:=E6) 4 [] (parts:=[(0,.tmp 32)]) (cells:=[vi v15]) (xs:=([v15]:List Int)) R Y37 bG R ⟨[vi v15],[],Zl K36 w35 [],Zl K36 w35 [],R,Zl.sp (l1:=[]) (l2:=[]) R,Zl.sr (l1:=[]) (l2:=[]),R,R⟩ λak ah w44 K45 S46 f47=>Tv<|?_
 have f48:=f38.stp S46
 obtain⟨K49,S50,f51,f52⟩:=f48.borrow hx30 (hl43 _ (Stp.ag S46 R)) 5 R R
 refine Ob h λx34 hx34 h=>Jy3 (κ:=K49) (E:=E6) 5 [] R Y37 bG R f51 (Sl.srcP (bP _) (f47.stp S50).rdc) bI hx34 R λai aj w54 K55 S56 f57=>Tv<|Ob h λx35 hx35 h=>Jf R (Jf2 f48.rdc hx35 U31 Z37 R R hn39 R)<|Ob h λy117 hy117 h=>WO.stH (κ:=K55) (E:=(Ep.own E6 2)) 3 [5] R R R R R R R R Z37 R ⟨_,_,R,f57⟩ R R (f52.stp S56) hy117 λw59 K60 S61 f62=>Tv<|?_
 have hn63:x11.length=y117.length:=hn39.trans (Jt2 hy117).2.2.2.symm
 refine Jo<|Jz<|Jp<|Jf3 R ?_
 have hw27:yC .i64 (v22+1)=v22+1:=wr1 hj27 (Jm2 hc27) hN27
 rw[hw27]
 have hc27:=Jm2 hc27
 cases h
 exact Jz1 λa ha=>⟨k,_,Ja3 _,⟨K60,v22+1,y117,R,(T5 S37 S46 S50 S56 S61).wk R,f62,hn63,by omega,by omega,hk40⟩,(ha.mm R)⟩
 rintro _ w30 ⟨K31,s6,rfl,S32,f33,hn34,rfl⟩
 have h:=yI hK28
 refine Jz<|Jp<|Jf3 R ?_
 have hw10:yC .i64 (v15+1)=v15+1:=wr1 hj10 (Jm2 hc10) hN10
 rw[hw10]
 have hc10:=Jm2 hc10
 cases h
 exact Jz1 λa ha=>⟨k,_,Ja3 _,⟨K31,v15+1,s6,R,(S20.tr S32).wk R,f33,hn34,by omega,by omega,hk23⟩,(ha.mm R)⟩
 rintro _ w13 ⟨K14,s3,rfl,S15,f16,hn17,rfl⟩
 have h:=yI hK11
 refine Jp<|Je3 R<|Ju<|Ja2 (l:=[.tmp 2]) V176 (Jp2 R R) R ?_
 cases h
 exact⟨(λb=>ren [(3,2)]<|K14 b),ab,aa,(by simp only[hn17]),((hE.stp<|T3 S3 S7 S15).map (ren [(3,2)]) R R),(f16.map (ren [(3,2)]) R R)⟩
theorem gH {a0 u0}{p0:(List Bool)}(g0:Rd Rp.bool κ w 0 a0 u0 p0){r:(List Int)}(h:gr p0=some r):Ret Tryz.prog 179 [.slice a0 p0.length u0] w (Pvs E6 2 κ w r):=by
 unfold gr at h
 refine Jk3 κ F179 R N179 R λhE=>Je3 R<|Je [1,2] R<|Jx3 (κ:=κ) (E:=E6) 2 R Y37 bG R λa6 u6 w1 K2 S3 f4=>Tv<|Jb 1 R<|Jq<|Jg3 [2,2,2] 1 R<|Jn3 R U178 R R<|Jb 1 R ?_
 have hN5:(p0.length:Int)<=9223372036854775807:=g0.len_le
 refine Ob h λq2 hq7 hK6=>?_
 clear h
 refine Jx1 (λL w'=>∃κ',∃s3:(List Int),∃af ad,L=[(3,.slice af s3.length ad)]/\Stp [2] K2 w1 κ' w'/\Oc E6 2 κ' w' 2 af ad s3/\q2=yD s3) ?_ ?_
 refine Jv<|Jp3 [7,8] (λk E L w'=>∃κ' v9,∃s1:(List Int),∃ab aa,L=(3,.slice ab s1.length aa)::(9,vi v9)::E/\Stp [2] K2 w1 κ' w'/\Oc E6 2 κ' w' 2 ab aa s1/\0<=v9/\yG ((p0.length:Int)-v9)=k/\cntM (jh p0) k v9 s1=some q2) ⟨_,_,⟨K2,0,(([]:List Int):(List Int)),a6,u6,R,Jj3,f4,(by decide),(by simp),hq7⟩,(KM R)⟩ ?_
 rintro k _ w12 ⟨K13,v9,s1,ab,aa,rfl,S14,f15,hj5,hJ5,h⟩
 rcases k with _ | k
 have hk16:=h;obtain⟨o5,h⟩:=bT (yD (yE s1):(List Int)⊕(((List Int))⊕((List Int))))
 have hc5:decide (v9<(p0.length:Int))=false:=Jo2 (by omega)
 refine Je3 R<|Jq<|Jw2 R hc5<|Jc1<|Jt<|Jt ?_
 cases h
 have h:=hk16
 refine Jb1 ?_
 cases h
 exact Jw1 _ ⟨K13,s1,ab,aa,R,S14.wk R,f15,R⟩<|KM R
 obtain⟨o5,h,hk16⟩:=BI h;unfold jh at h
 have hc5:decide (v9<(p0.length:Int))=true:=Jn2 (by omega)
 refine Je3 R<|Jq<|Jv2 R hc5<|Js<|Jp<|Jq<|Jv<|Jg3 [2,2,1,2,2] 1 R<|Ob h λx12 hx12 h=>Jc3 R g0 hx12 U178 Z4<|Jb3 R I4 ((g0.stp<|S3.tr S14).gBool hx12)<|Jb 2 R<|Je3 R<|Ob h λq4 h hK18=>Jo3 [7,8,9] (λE L w'=>∃κ' ae ac,L=(3,.slice ae q4.length ac)::E/\Stp [2] K13 w12 κ' w'/\Oc E6 2 κ' w' 2 ae ac q4) ?_ ?_
 revert h
 cases ht23:x12
 refine JF λh=>Jy R<|Js ?_
 cases h
 exact Jw1 _ ⟨K13,ab,aa,R,Jj3,f15⟩<|KM R
 refine JT λh=>Jx R<|Jh3 [2,2,1,1,2] 2 R<|Jw3 (κ:=K13) (E:=E6) 3 [] (parts:=[(0,.tmp 16)]) (cells:=[vi v9]) (xs:=([v9]:List Int)) R Y37 bG R ⟨[vi v9],[],Zl K13 w12 [],Zl K13 w12 [],R,Zl.sp (l1:=[]) (l2:=[]) R,Zl.sr (l1:=[]) (l2:=[]),R,R⟩ λak aj w24 K25 S26 f27=>Tv<|Ob h λx18 hx18 h=>Jy3 (κ:=K25) (E:=E6) 2 [] R Y37 bG R (f15.stp S26) (Sl.srcP (bP _) f27.rdc) bI hx18 R λah ai w29 K30 S31 f32=>Tv<|Jc 1 R ?_
 cases h
 exact Jw1 _ ⟨K30,ah,ai,R,(S26.tr S31).wk R,f32⟩<|KM R
 rintro _ w19 ⟨K20,ae,ac,rfl,S21,f22⟩
 have h:=hK18
 refine Jz<|Jp<|Jf3 R ?_
 have hw5:yC .i64 (v9+1)=v9+1:=wr1 hj5 (Jm2 hc5) hN5
 rw[hw5]
 have hc5:=Jm2 hc5
 cases h
 exact Jz1 λa ha=>⟨k,_,Ja3 _,⟨K20,v9+1,q4,ae,ac,R,(S14.tr S21).wk R,f22,by omega,by omega,hk16⟩,(ha.mm R)⟩
 rintro _ w8 ⟨K9,s3,af,ad,rfl,S10,f11,rfl⟩
 have h:=yI hK6
 refine Jp<|Je3 R<|Ju<|Ja2 (l:=[.tmp 2]) V179 (Jp2 R R) R ?_
 cases h
 exact⟨K9,af,ad,R,(hE.stp<|S3.tr S10),f11⟩
theorem tY {ac ab aa af ad ae}{p0:Parity}{a1 u1}{p1:(List Int)}(g0_0_0:Rd (Rp.int .i64) κ w 0 ac ab p0.Arena.Owner) (g0_0_1:Rd (Rp.sl (Rp.int .i64)) κ w 0 aa af p0.Arena.Next) (g0_1:Rd (Rp.int .i64) κ w 0 ad ae p0.Prio) (g1:Rd (Rp.int .i64) κ w 0 a1 u1 p1){r:Int}(h:n6 p0 p1=some r):Ret Tryz.prog 243 [.agg #[.slice ac p0.Arena.Owner.length ab,.slice aa p0.Arena.Next.length af,.slice ad p0.Prio.length ae],.slice a1 p1.length u1] w (Pvi κ w r):=by
 unfold n6 at h
 refine Jk3 κ F243 R N243 R λhE=>Je [1,2] R<|Js3 (κ:=κ) 2 R λb2 w1 K2 S3 f4=>Tv<|Jb 1 R<|Je3 R<|Jq<|Jg3 [2,2,2] 1 R<|Jn3 R U37 R R<|Jb 1 R ?_
 have hN5:(p1.length:Int)<=9223372036854775807:=g1.len_le
 refine Ob h λq2 hq7 hK6=>?_
 clear h
 refine Jx1 (λL w'=>∃κ' s3,L=[(5,vi s3)]/\Stp [] K2 w1 κ' w'/\q2=yD s3) ?_ ?_
 refine Jv<|Jp3 [2,8,9] (λk E L w'=>∃κ' v10 s1,L=(5,vi s1)::(10,vi v10)::E/\Stp [] K2 w1 κ' w'/\0<=v10/\yG ((p1.length:Int)-v10)=k/\cntM (jI p0 p1) k v10 s1=some q2) ⟨_,_,⟨K2,0,((-1):Int),R,Jj3,(by decide),(by simp),hq7⟩,(KM R)⟩ ?_
 rintro k _ w11 ⟨K12,v10,s1,rfl,S13,hj5,hJ5,h⟩
 rcases k with _ | k
 have hk14:=h;obtain⟨o5,h⟩:=bT (yD (yE s1):Int⊕((Int)⊕(Int)))
 have hc5:decide (v10<(p1.length:Int))=false:=Jo2 (by omega)
 refine Je3 R<|Jq<|Jw2 R hc5<|Jc1<|Jt<|Jt ?_
 cases h
 have h:=hk14
 refine Jb1 ?_
 cases h
 exact Jw1 _ ⟨K12,s1,R,S13.wk R,R⟩<|KM R
 obtain⟨o5,h,hk14⟩:=BI h;unfold jI at h
 have hc5:decide (v10<(p1.length:Int))=true:=Jn2 (by omega)
 refine Je3 R<|Jq<|Jv2 R hc5<|Js<|Jp<|Jq<|Jv<|Je [2,1,2] R<|Ob h λx12 hx12 h=>Jc3 R g1 hx12 U37 Z2<|Jb3 R I2 ((g1.stp<|S3.tr S13).gInt hx12)<|Jb 1 R<|Jh3 [2,2,1,2,2,1,2,2] 1 R<|Jd3 R U79 R Z37<|Jb3 R I37 ((f4.stp S13).ld 2 R R)<|Jn 1 R<|Ob h λx18 hx18 h=>Jc3 R g0_1 hx18 U37 Z2<|Jb3 R I2 ((g0_1.stp<|S3.tr S13).gInt hx18)<|Jf R (rM R R R)<|Jc 1 R<|Jz<|Jp<|Jf3 R ?_
 have hw5:yC .i64 (v10+1)=v10+1:=wr1 hj5 (Jm2 hc5) hN5
 rw[hw5]
 have hc5:=Jm2 hc5
 cases h
 exact Jz1 λa ha=>⟨k,_,Ja3 _,⟨K12,v10+1,((if s1<x18 then x18 else s1):Int),R,S13.wk R,by omega,by omega,hk14⟩,(ha.mm R)⟩
 rintro _ w8 ⟨K9,s3,rfl,S10,rfl⟩
 have h:=yI hK6
 refine Jp<|Je3 R<|Ju<|Ja2 (l:=[.tmp 4]) V243 (Jp2 R R) R ?_
 cases h
 exact⟨K9,R,(hE.stp<|S3.tr S10)⟩
theorem tg {ab aa ac ad}{p0:Arena}(g0_0:Rd (Rp.int .i64) κ w 0 ab aa p0.Owner) (g0_1:Rd (Rp.sl (Rp.int .i64)) κ w 0 ac ad p0.Next){r:(List Int)}(h:ml p0=some r):Ret Tryz.prog 118 [.agg #[.slice ab p0.Owner.length aa,.slice ac p0.Next.length ad]] w (Pvs E6 2 κ w r):=by
 unfold ml at h
 refine Jk3 κ F118 R N118 R λhE=>Je [1,2] R<|Js3 (κ:=κ) 2 R λb1 w1 K2 S3 f4=>Tv<|Jb 1 R<|Je [2,1,2,1,2] R<|Jd3 R U75 R Z37<|Jb3 R I37 (f4.ld 0 R R)<|Jn3 R U37 R R<|Ob h λx8 hx8 h=>Jl1 (κ:=K2) (E:=E6) (z:=(0:Int)) 3 R R R R R R R Y37 bG R R R R R (λ_ _ _=>R) (Ju2 hx8) λa8 u8 w5 K6 S7 f8=>Tv<|Jb 1 R<|Jq<|Jg3 [2,2,2] 1 R<|Jn3 R U37 R R<|Jb 1 R ?_
 have hN9:(x8.length:Int)<=9223372036854775807:=f8.len_le
 refine Ob h λq2 hq11 hK10=>?_
 clear h
 refine Jo3 [3] (λE L w'=>∃κ',∃s3:(List Int),L=E/\Stp [3] K6 w5 κ' w'/\Oc E6 2 κ' w' 3 a8 u8 s3/\x8.length=s3.length/\q2=yD s3) ?_ ?_
 refine Jv<|Jp3 [3,10] (λk E L w'=>∃κ' v11,∃s1:(List Int),L=(11,vi v11)::E/\Stp [3] K6 w5 κ' w'/\Oc E6 2 κ' w' 3 a8 u8 s1/\x8.length=s1.length/\0<=v11/\yG ((x8.length:Int)-v11)=k/\cntM kn k v11 s1=some q2) ⟨_,_,⟨K6,0,x8,R,Jj3,f8,R,(by decide),(by simp),hq11⟩,(KM R)⟩ ?_
 rintro k _ w17 ⟨K18,v11,s1,rfl,S19,f20,hn21,hj9,hJ9,h⟩
 rcases k with _ | k
 have hk22:=h;obtain⟨o9,h⟩:=bT (yD (yE s1):(List Int)⊕(((List Int))⊕((List Int))))
 have hc9:decide (v11<(x8.length:Int))=false:=Jo2 (by omega)
 refine Je3 R<|Jq<|Jw2 R hc9<|Jc1<|Jt<|Jt ?_
 cases h
 have h:=hk22
 refine Jb1 ?_
 cases h
 exact Jw1 _ ⟨K18,s1,R,S19.wk R,f20,hn21,R⟩<|KM R
 obtain⟨o9,h,hk22⟩:=BI h;unfold kn at h
 have hc9:decide (v11<(x8.length:Int))=true:=Jn2 (by omega)
 refine Je3 R<|Jq<|Jv2 R hc9<|Js<|Jp<|Jq<|Jv<|Je3 R<|Jh3 [2,2,2,1] 2 R<|Ob h λx16 hx16 h=>Jf R (Jf2 f20.rdc hx16 U37 Z2 R R hn21 R)<|Ob h λy160 hy160 h=>Jk1 (κ:=K18) (E:=E6) 3 [] R R R R R R R R Z2 R R R R f20 hy160 λw23 K24 S25 f26=>Tv<|?_
 have hn27:x8.length=y160.length:=hn21.trans (Jt2 hy160).2.2.2.symm
 refine Jo<|Jz<|Jp<|Jf3 R ?_
 have hw9:yC .i64 (v11+1)=v11+1:=wr1 hj9 (Jm2 hc9) hN9
 rw[hw9]
 have hc9:=Jm2 hc9
 cases h
 exact Jz1 λa ha=>⟨k,_,Ja3 _,⟨K24,v11+1,y160,R,(S19.tr S25).wk R,f26,hn27,by omega,by omega,hk22⟩,(ha.mm R)⟩
 rintro _ w12 ⟨K13,s3,rfl,S14,f15,hn16,rfl⟩
 have h:=yI hK10
 refine Jp<|Je3 R<|Ju<|Ja2 (l:=[.tmp 2]) V118 (Jp2 R R) R ?_
 cases h
 exact⟨(λb=>ren [(3,2)]<|K13 b),a8,u8,(by simp only[hn16]),((hE.stp<|T3 S3 S7 S14).map (ren [(3,2)]) R R),(f15.map (ren [(3,2)]) R R)⟩
theorem qr {ai ah aj ak}{p0:Answer}{p1:Int}(g0_0:Rd (Rp.int .i64) κ w 0 ai ah p0.Won) (g0_1:Rd (Rp.int .i64) κ w 0 aj ak p0.Plan){r:(List Int)}(h:jQ p0 p1=some r):Ret Tryz.prog 183 [.agg #[.slice ai p0.Won.length ah,.slice aj p0.Plan.length ak],vi p1] w (Pvs E6 2 κ w r):=by
 unfold jQ at h
 refine Jk3 κ F183 R N183 R λhE=>Je [1,2] R<|Js3 (κ:=κ) 2 R λb2 w1 K2 S3 f4=>Tv<|Jb 1 R<|Jq<|Je [2,1,2,2] R<|Jd3 R U85 R Z37<|Jb3 R I37 (f4.ld 0 R R)<|Jn3 R U37 R R<|Jb 1 R ?_
 revert h
 cases ht5:decide (256<(p0.Won.length:Int))
 refine JF λh=>Jy R<|Js<|Jp<|Je [1,2] R<|Jx3 (κ:=K2) (E:=E6) 3 R Y37 bG R λam al w7 K8 S9 f10=>Tv<|Jb 1 R<|Jq<|Je [2,1,2,2] R<|Jd3 R U85 R Z37<|Jb3 R I37 ((f4.stp S9).ld 0 R R)<|Jn3 R U37 R R<|Jb 1 R ?_
 have hN12:(p0.Won.length:Int)<=9223372036854775807:=g0_0.len_le
 refine Ob h λq2 hq14 hK13=>?_
 clear h
 refine Jx1 (λL w'=>∃κ',∃s3:(List Int),∃af ad,L=[(5,.slice af s3.length ad)]/\Stp [3] K8 w7 κ' w'/\Oc E6 2 κ' w' 3 af ad s3/\q2=yD s3) ?_ ?_
 refine Jv<|Jp3 [1,14,15] (λk E L w'=>∃κ' v16,∃s1:(List Int),∃ab aa,L=(5,.slice ab s1.length aa)::(16,vi v16)::E/\Stp [3] K8 w7 κ' w'/\Oc E6 2 κ' w' 3 ab aa s1/\0<=v16/\yG ((p0.Won.length:Int)-v16)=k/\cntM (go p0 p1) k v16 s1=some q2) ⟨_,_,⟨K8,0,(([]:List Int):(List Int)),am,al,R,Jj3,f10,(by decide),(by simp),hq14⟩,(KM R)⟩ ?_
 rintro k _ w19 ⟨K20,v16,s1,ab,aa,rfl,S21,f22,hj12,hJ12,h⟩
 rcases k with _ | k
 have hk23:=h;obtain⟨o12,h⟩:=bT (yD (yE s1):(List Int)⊕(((List Int))⊕((List Int))))
 have hc12:decide (v16<(p0.Won.length:Int))=false:=Jo2 (by omega)
 refine Je3 R<|Jq<|Jw2 R hc12<|Jc1<|Jt<|Jt ?_
 cases h
 have h:=hk23
 refine Jb1 ?_
 cases h
 exact Jw1 _ ⟨K20,s1,ab,aa,R,S21.wk R,f22,R⟩<|KM R
 obtain⟨o12,h,hk23⟩:=BI h;unfold go at h
 have hc12:decide (v16<(p0.Won.length:Int))=true:=Jn2 (by omega)
 refine Je3 R<|Jq<|Jv2 R hc12<|Js<|Jp<|Jq<|Jv<|Jg3 [2,2,1,2,2] 1 R<|Ob h λx19 hx19 h=>Jc3 R g0_0 hx19 U37 Z2<|Jb3 R I2 ((g0_0.stp<|T3 S3 S9 S21).gInt hx19)<|Jb 2 R<|Je3 R<|Ob h λq4 h hK25=>Jo3 [1,14,15,16] (λE L w'=>∃κ' ae ac,L=(5,.slice ae q4.length ac)::E/\Stp [3] K20 w19 κ' w'/\Oc E6 2 κ' w' 3 ae ac q4) ?_ ?_
 revert h
 cases ht30:(x19==p1)
 refine JF λh=>Jy R<|Js ?_
 cases h
 exact Jw1 _ ⟨K20,ab,aa,R,Jj3,f22⟩<|KM R
 refine JT λh=>Jx R<|Jh3 [2,2,1,1,2] 2 R<|Jw3 (κ:=K20) (E:=E6) 4 [] (parts:=[(0,.tmp 25)]) (cells:=[vi v16]) (xs:=([v16]:List Int)) R Y37 bG R ⟨[vi v16],[],Zl K20 w19 [],Zl K20 w19 [],R,Zl.sp (l1:=[]) (l2:=[]) R,Zl.sr (l1:=[]) (l2:=[]),R,R⟩ λap aq w31 K32 S33 f34=>Tv<|Ob h λx27 hx27 h=>Jy3 (κ:=K32) (E:=E6) 3 [] R Y37 bG R (f22.stp S33) (Sl.srcP (bP _) f34.rdc) bI hx27 R λao an w36 K37 S38 f39=>Tv<|Jc 1 R ?_
 cases h
 exact Jw1 _ ⟨K37,ao,an,R,(S33.tr S38).wk R,f39⟩<|KM R
 rintro _ w26 ⟨K27,ae,ac,rfl,S28,f29⟩
 have h:=hK25
 refine Jz<|Jp<|Jf3 R ?_
 have hw12:yC .i64 (v16+1)=v16+1:=wr1 hj12 (Jm2 hc12) hN12
 rw[hw12]
 have hc12:=Jm2 hc12
 cases h
 exact Jz1 λa ha=>⟨k,_,Ja3 _,⟨K27,v16+1,q4,ae,ac,R,(S21.tr S28).wk R,f29,by omega,by omega,hk23⟩,(ha.mm R)⟩
 rintro _ w15 ⟨K16,s3,af,ad,rfl,S17,f18,rfl⟩
 have h:=yI hK13
 refine Jp<|Je3 R<|Ju<|Ja2 (l:=[.tmp 4]) V183 (Jp2 R R) R ?_
 cases h
 exact⟨(λb=>ren [(3,2)]<|K16 b),af,ad,R,((hE.stp<|T3 S3 S9 S17).map (ren [(3,2)]) R R),(f18.map (ren [(3,2)]) R R)⟩
 refine JT λh=>Jx R<|Je3 R<|Ju<|Jw<|Ja2 (l:=[.tmp 4]) V183 (Jp2 R R) R ?_
 cases h
 exact⟨K2,none,0,R,(hE.stp S3),Ow.nil⟩
theorem dq {p0:Int}  {r:Int}(h:de p0=some r):Ret Tryz.prog 62 [vi p0] w (Pvi κ w r):=by
 unfold de at h
 refine Jk3 κ F62 R N62 R λhE=>Je3 R<|Je3 R<|Jq<|Ob h λq2 hq3 hK2=>?_
 clear h
 refine Jx1 (λL w'=>∃κ',∃s3:Int×Int,L=[(3,vi s3.2)]/\Stp [] κ w κ' w'/\q2=yD s3) ?_ ?_
 refine Jv<|Jy1 (λk L w'=>∃κ',∃s1:Int×Int,L=[(0,vi s1.1),(3,vi s1.2)]/\Stp [] κ w κ' w'/\ca fb k s1=some q2) ⟨_,_,⟨κ,(p0,(1:Int)),R,Jj3,hq3⟩,(KM R)⟩ ?_
 rintro k _ w7 ⟨K8,s1,rfl,S9,h⟩
 rcases k with _ | k
 cases h
 obtain⟨o1,h,hk10⟩:=BI h;unfold fb at h
 refine Jq<|Je3 R ?_
 revert h
 cases ht11:decide (0<s1.1)
 refine JF λh=>Jy R<|Jc1<|Jt<|Jt ?_
 cases h
 have h:=hk10
 refine Jb1 ?_
 cases h
 exact Jw1 _ ⟨K8,(s1.1,s1.2),R,S9.wk R,R⟩<|KM R
 refine JT λh=>Jx R<|Js<|Jp<|Jq<|Jv<|Jf3 R<|Jz<|Jp<|Jf3 R ?_
 cases h
 exact Jz1 λa ha=>⟨k,_,Ja3 _,⟨K8,(((IntKind.i64.wrap<|s1.1-1):Int),((IntKind.i64.wrap<|s1.2 * 2):Int)),R,S9.wk R,hk10⟩,(ha.mm R)⟩
 rintro _ w4 ⟨K5,s3,rfl,S6,rfl⟩
 have h:=yI hK2
 refine Jp<|Je3 R<|Ju<|Ja2 (l:=[.tmp 2]) V62 (Jp2 R R) R ?_
 cases h
 exact⟨K5,R,(hE.stp S6)⟩
theorem rA {p0:Int}  {r:Bool}(h:mZ p0=some r):Ret Tryz.prog 211 [vi p0] w (Pvb κ w r):=by
 unfold mZ at h
 refine Jk3 κ F211 R N211 R λhE=>Je3 R<|Jg3 [2,2,2,2,2,2,2,2,2,2,2] 3 R<|Ob h λp8 h hK1=>Jq3 [0,2] (λE L w'=>L=(8,.bool p8)::E/\∃κ',Stp [] κ w κ' w') [(3,2),(4,2),(5,2)] [(6,2),(7,2),(8,2),(9,2),(10,2)] tv ?_ ?_
 revert h
 cases ht2:(p0==2)
 refine JF λh=>Jn 3 R ?_
 cases h
 exact Jv1 _ tv ⟨R,_,Jj3⟩<|KM R
 refine JT λh=>Jn 3 R ?_
 cases h
 exact Jv1 _ tv ⟨R,_,Jj3⟩<|KM R
 rintro _ w3 _ ⟨rfl,K4,S5⟩
 have h:=hK1
 refine Jn 1 R<|Ob h λp12 h hK6=>Jq3 [2] (λE L w'=>L=(12,.bool p12)::E/\∃κ',Stp [] K4 w3 κ' w') [(7,2),(8,2),(9,2)] [(10,2)] tv ?_ ?_
 revert h
 cases ht7:p8
 refine JF λh=>Jn 3 R ?_
 cases h
 exact Jv1 _ tv ⟨R,_,Jj3⟩<|KM R
 refine JT λh=>Jn 3 R ?_
 cases h
 exact Jv1 _ tv ⟨R,_,Jj3⟩<|KM R
 rintro _ w8 _ ⟨rfl,K9,S10⟩
 have h:=hK6
 refine Jb 1 R<|Ju<|Ja2 (l:=[.tmp 2]) V211 (Jp2 R R) R ?_
 cases h
 exact⟨K9,R,(hE.stp<|S5.tr S10)⟩
theorem rP {p0:Int}  {r:Pair}(h:lg p0=some r):Ret Tryz.prog 187 [vi p0] w (λv w'=>∃(κ':Col) (ra0:Option Addr) (ru0:Nat) (ra1:Option Addr) (ru1:Nat),v= .agg #[.slice ra0 r.Ask.length ru0,.slice ra1 r.Give.length ru1]/\Ent κ w κ' w'/\Oc E6 2 κ' w' 2 ra0 ru0 r.Ask/\Oc E6 2 κ' w' 3 ra1 ru1 r.Give):=by
 unfold lg at h
 refine Jk3 κ F187 R N187 R λhE=>Je [1] R<|Jt3 (κ:=κ) 2 R X127 R λb2 w1 K2 S3 f4=>Tv<|Jd<|Jq<|Je3 R<|Jv<|Jq<|Je3 R<|Ob h λq1 h hK5=>Jo3 [2,3] (λE L w'=>∃κ',L=(4,.bool q1)::E/\Stp [] K2 w1 κ' w') ?_ ?_
 revert h
 cases ht9:(p0==1)
 refine JF λh=>Jy R<|Jf3 R ?_
 cases h
 exact Jw1 _ ⟨K2,R,Jj3⟩<|KM R
 refine JT λh=>Jx R<|Js ?_
 cases h
 exact Jw1 _ ⟨K2,R,Jj3⟩<|KM R
 rintro _ w6 ⟨K7,rfl,S8⟩
 have h:=hK5
 refine Jp ?_
 revert h
 cases ht10:q1
 refine JF λh=>Jy R<|Je3 R ?_
 revert h
 cases ht21:(p0==2)
 refine JF λh=>Jy R<|Je3 R ?_
 revert h
 cases ht32:(p0==3)
 refine JF λh=>Jy R<|Je3 R ?_
 revert h
 cases ht48:(p0==4)
 refine JF λh=>Jy R<|Je3 R ?_
 revert h
 cases ht64:(p0==6)
 refine JF λh=>Jy R<|Js<|Jz<|Jp<|Je [1,1,2,1] R<|Jw3 (κ:=K7) (E:=E6) 3 [] (parts:=[(0,.const (vi 2)),(1,.const (vi 3))]) (cells:=[vi 2,vi 3]) (xs:=([2,3]:List Int)) R Y37 bG R ⟨[vi 2],[vi 3],Zl K7 w6 [],Zl K7 w6 [],R,Zl.sp (l1:=[]) (l2:=[]) R,Zl.sr (l1:=[]) (l2:=[]),R,⟨[vi 3],[],Zl K7 w6 [],Zl K7 w6 [],R,Zl.sp (l1:=[]) (l2:=[]) R,Zl.sr (l1:=[]) (l2:=[]),R,R⟩⟩ λap ao w75 K76 S77 f78=>Tv<|Jw3 (κ:=K76) (E:=E6) 4 [] (parts:=[(0,.const (vi 1)),(1,.const (vi 3))]) (cells:=[vi 1,vi 3]) (xs:=([1,3]:List Int)) R Y37 bG R ⟨[vi 1],[vi 3],Zl K76 w75 [],Zl K76 w75 [],R,Zl.sp (l1:=[]) (l2:=[]) R,Zl.sr (l1:=[]) (l2:=[]),R,⟨[vi 3],[],Zl K76 w75 [],Zl K76 w75 [],R,Zl.sp (l1:=[]) (l2:=[]) R,Zl.sr (l1:=[]) (l2:=[]),R,R⟩⟩ λaf an w79 K80 S81 f82=>Tv<|Jf R (bK (parts:=[(0,.tmp 27),(1,.tmp 28)]) (cells:=[.slice ap ([2,3]:List Int).length ao,.slice af ([1,3]:List Int).length an]) R R (by kernel_rfl))<|Jv3 (κ:=K80) 2 (vc:=[.slice ap ([2,3]:List Int).length ao,.slice af ([1,3]:List Int).length an]) R Z127 R (f4.stp<|T3 S8 S77 S81) R λw84 S85 f86=>Tv<|Jd<|Ju<|Ja2 (l:=[.cell 2 127]) V187 (bM R f86 I127 Z127 R R) R ?_
 cases h
 exact⟨(λb=>ren [(3,2),(4,3)]<|K80 b),ap,ao,af,an,R,((hE.stp<|T5 S3 S8 S77 S81 S85).map (ren [(3,2),(4,3)]) R R),((f78.stp<|S81.tr S85).map (ren [(3,2),(4,3)]) R R),((f82.stp S85).map (ren [(3,2),(4,3)]) R R)⟩
 refine JT λh=>Jx R<|Je [1,2,1] R<|Jw3 (κ:=K7) (E:=E6) 3 [] (parts:=[(0,.const (vi 0))]) (cells:=[vi 0]) (xs:=([0]:List Int)) R Y37 bG R ⟨[vi 0],[],Zl K7 w6 [],Zl K7 w6 [],R,Zl.sp (l1:=[]) (l2:=[]) R,Zl.sr (l1:=[]) (l2:=[]),R,R⟩ λab al w65 K66 S67 f68=>Tv<|Jf R (bK (parts:=[(0,.tmp 25)]) (cells:=[.slice ab ([0]:List Int).length al,.slice none 0 0]) R R (by kernel_rfl))<|Jv3 (κ:=K66) 2 (vc:=[.slice ab ([0]:List Int).length al,.slice none 0 0]) R Z127 R (f4.stp<|S8.tr S67) R λw70 S71 f72=>Tv<|Jd<|Ju<|Ja1<|Jw<|Ja2 (l:=[.cell 2 127]) V187 (bM R f72 I127 Z127 R R) R ?_
 cases h
 exact⟨(λb=>ren [(3,2)]<|K66 b),ab,al,none,0,R,((hE.stp<|T4 S3 S8 S67 S71).map (ren [(3,2)]) R R),((f68.stp S71).map (ren [(3,2)]) R R),Ow.nil⟩
 refine JT λh=>Jx R<|Je [1,1,2,1] R<|Jw3 (κ:=K7) (E:=E6) 3 [] (parts:=[(0,.const (vi 0)),(1,.const (vi 1))]) (cells:=[vi 0,vi 1]) (xs:=([0,1]:List Int)) R Y37 bG R ⟨[vi 0],[vi 1],Zl K7 w6 [],Zl K7 w6 [],R,Zl.sp (l1:=[]) (l2:=[]) R,Zl.sr (l1:=[]) (l2:=[]),R,⟨[vi 1],[],Zl K7 w6 [],Zl K7 w6 [],R,Zl.sp (l1:=[]) (l2:=[]) R,Zl.sr (l1:=[]) (l2:=[]),R,R⟩⟩ λai ae w49 K50 S51 f52=>Tv<|Jw3 (κ:=K50) (E:=E6) 4 [] (parts:=[(0,.const (vi 1))]) (cells:=[vi 1]) (xs:=([1]:List Int)) R Y37 bG R ⟨[vi 1],[],Zl K50 w49 [],Zl K50 w49 [],R,Zl.sp (l1:=[]) (l2:=[]) R,Zl.sr (l1:=[]) (l2:=[]),R,R⟩ λah ac w53 K54 S55 f56=>Tv<|Jf R (bK (parts:=[(0,.tmp 20),(1,.tmp 21)]) (cells:=[.slice ai ([0,1]:List Int).length ae,.slice ah ([1]:List Int).length ac]) R R (by kernel_rfl))<|Jv3 (κ:=K54) 2 (vc:=[.slice ai ([0,1]:List Int).length ae,.slice ah ([1]:List Int).length ac]) R Z127 R (f4.stp<|T3 S8 S51 S55) R λw58 S59 f60=>Tv<|Jd<|Ju<|Ja1<|Jw<|Ja2 (l:=[.cell 2 127]) V187 (bM R f60 I127 Z127 R R) R ?_
 cases h
 exact⟨(λb=>ren [(3,2),(4,3)]<|K54 b),ai,ae,ah,ac,R,((hE.stp<|T5 S3 S8 S51 S55 S59).map (ren [(3,2),(4,3)]) R R),((f52.stp<|S55.tr S59).map (ren [(3,2),(4,3)]) R R),((f56.stp S59).map (ren [(3,2),(4,3)]) R R)⟩
 refine JT λh=>Jx R<|Je [1,1,2,1] R<|Jw3 (κ:=K7) (E:=E6) 3 [] (parts:=[(0,.const (vi 1))]) (cells:=[vi 1]) (xs:=([1]:List Int)) R Y37 bG R ⟨[vi 1],[],Zl K7 w6 [],Zl K7 w6 [],R,Zl.sp (l1:=[]) (l2:=[]) R,Zl.sr (l1:=[]) (l2:=[]),R,R⟩ λaa ad w33 K34 S35 f36=>Tv<|Jw3 (κ:=K34) (E:=E6) 4 [] (parts:=[(0,.const (vi 0))]) (cells:=[vi 0]) (xs:=([0]:List Int)) R Y37 bG R ⟨[vi 0],[],Zl K34 w33 [],Zl K34 w33 [],R,Zl.sp (l1:=[]) (l2:=[]) R,Zl.sr (l1:=[]) (l2:=[]),R,R⟩ λam aq w37 K38 S39 f40=>Tv<|Jf R (bK (parts:=[(0,.tmp 15),(1,.tmp 16)]) (cells:=[.slice aa ([1]:List Int).length ad,.slice am ([0]:List Int).length aq]) R R (by kernel_rfl))<|Jv3 (κ:=K38) 2 (vc:=[.slice aa ([1]:List Int).length ad,.slice am ([0]:List Int).length aq]) R Z127 R (f4.stp<|T3 S8 S35 S39) R λw42 S43 f44=>Tv<|Jd<|Ju<|Ja1<|Jw<|Ja2 (l:=[.cell 2 127]) V187 (bM R f44 I127 Z127 R R) R ?_
 cases h
 exact⟨(λb=>ren [(3,2),(4,3)]<|K38 b),aa,ad,am,aq,R,((hE.stp<|T5 S3 S8 S35 S39 S43).map (ren [(3,2),(4,3)]) R R),((f36.stp<|S39.tr S43).map (ren [(3,2),(4,3)]) R R),((f40.stp S43).map (ren [(3,2),(4,3)]) R R)⟩
 refine JT λh=>Jx R<|Je [1,2,1] R<|Jw3 (κ:=K7) (E:=E6) 3 [] (parts:=[(0,.const (vi 2))]) (cells:=[vi 2]) (xs:=([2]:List Int)) R Y37 bG R ⟨[vi 2],[],Zl K7 w6 [],Zl K7 w6 [],R,Zl.sp (l1:=[]) (l2:=[]) R,Zl.sr (l1:=[]) (l2:=[]),R,R⟩ λaj ak w22 K23 S24 f25=>Tv<|Jf R (bK (parts:=[(0,.tmp 11)]) (cells:=[.slice aj ([2]:List Int).length ak,.slice none 0 0]) R R (by kernel_rfl))<|Jv3 (κ:=K23) 2 (vc:=[.slice aj ([2]:List Int).length ak,.slice none 0 0]) R Z127 R (f4.stp<|S8.tr S24) R λw27 S28 f29=>Tv<|Jd<|Ju<|Ja1<|Jw<|Ja2 (l:=[.cell 2 127]) V187 (bM R f29 I127 Z127 R R) R ?_
 cases h
 exact⟨(λb=>ren [(3,2)]<|K23 b),aj,ak,none,0,R,((hE.stp<|T4 S3 S8 S24 S28).map (ren [(3,2)]) R R),((f25.stp S28).map (ren [(3,2)]) R R),Ow.nil⟩
 refine JT λh=>Jx R<|Je [1,2,1] R<|Jw3 (κ:=K7) (E:=E6) 3 [] (parts:=[(0,.const (vi 1))]) (cells:=[vi 1]) (xs:=([1]:List Int)) R Y37 bG R ⟨[vi 1],[],Zl K7 w6 [],Zl K7 w6 [],R,Zl.sp (l1:=[]) (l2:=[]) R,Zl.sr (l1:=[]) (l2:=[]),R,R⟩ λa7 u7 w11 K12 S13 f14=>Tv<|Jf R (bK (parts:=[(0,.tmp 7)]) (cells:=[.slice a7 ([1]:List Int).length u7,.slice none 0 0]) R R (by kernel_rfl))<|Jv3 (κ:=K12) 2 (vc:=[.slice a7 ([1]:List Int).length u7,.slice none 0 0]) R Z127 R (f4.stp<|S8.tr S13) R λw16 S17 f18=>Tv<|Jd<|Ju<|Ja1<|Jw<|Ja2 (l:=[.cell 2 127]) V187 (bM R f18 I127 Z127 R R) R ?_
 cases h
 exact⟨(λb=>ren [(3,2)]<|K12 b),a7,u7,none,0,R,((hE.stp<|T4 S3 S8 S13 S17).map (ren [(3,2)]) R R),((f14.stp S17).map (ren [(3,2)]) R R),Ow.nil⟩
theorem pA {p0:Int}  {r:Int}(h:i9 p0=some r):Ret Tryz.prog 188 [vi p0] w (Pvi κ w r):=by
 unfold i9 at h
 refine Jk3 κ F188 R N188 R λhE=>Je3 R<|Jq<|Je3 R<|Jv<|Je3 R ?_
 revert h
 cases ht1:(p0==2)
 refine JF λh=>Jy R<|Je3 R ?_
 revert h
 cases ht2:(p0==7)
 refine JF λh=>Jy R<|Js<|Jz<|Jp<|Je3 R<|Ju<|Ja2 (l:=[.tmp 2]) V188 (Jp2 R R) R ?_
 cases h
 exact⟨κ,R,hE⟩
 refine JT λh=>Jx R<|Je3 R<|Ju<|Ja1<|Jw<|Ja2 (l:=[.tmp 2]) V188 (Jp2 R R) R ?_
 cases h
 exact⟨κ,R,hE⟩
 refine JT λh=>Jx R<|Je3 R<|Ju<|Ja1<|Jw<|Ja2 (l:=[.tmp 2]) V188 (Jp2 R R) R ?_
 cases h
 exact⟨κ,R,hE⟩
theorem dK {a0 u0}{p0:(List Int)}{p1:Int}(g0:Rd (Rp.int .i64) κ w 0 a0 u0 p0){r:Bool}(h:dH p0 p1=some r):Ret Tryz.prog 81 [.slice a0 p0.length u0,vi p1] w (Pvb κ w r):=by
 unfold dH at h
 refine Jk3 κ F81 R N81 R λhE=>Je3 R<|Jq<|Je3 R ?_
 have hN1:(p0.length:Int)<=9223372036854775807:=g0.len_le
 refine Ob h λq2 hq3 hK2=>?_
 clear h
 refine Jx1 (λL w'=>∃κ',L=[]/\Stp [] κ w κ' w'/\q2=yD ()) ?_ ?_
 refine Jv<|Jp3 [0,1] (λk E L w'=>∃κ' v5,L=(5,vi v5)::E/\Stp [] κ w κ' w'/\0<=v5/\yG ((p0.length:Int)-v5)=k/\cntM (gA p0 p1) k v5 ()=some q2) ⟨_,_,⟨κ,0,R,Jj3,(by decide),(by simp),hq3⟩,(KM R)⟩ ?_
 rintro k _ w7 ⟨K8,v5,rfl,S9,hj1,hJ1,h⟩
 rcases k with _ | k
 have hk10:=h;obtain⟨o1,h⟩:=bT (yD (yE ()):Bool⊕((Unit)⊕(Unit)))
 have hc1:decide (v5<(p0.length:Int))=false:=Jo2 (by omega)
 refine Jq<|Jg3 [2,2,2,2] 2 R<|Jn3 R U37 R R<|Jb 1 R<|Jw2 R hc1<|Jc1<|Jt<|Jt ?_
 cases h
 have h:=hk10
 refine Jb1 ?_
 cases h
 exact Jw1 _ ⟨K8,R,S9.wk R,R⟩ KN
 obtain⟨o1,h,hk10⟩:=BI h;unfold gA at h
 have hc1:decide (v5<(p0.length:Int))=true:=Jn2 (by omega)
 refine Jq<|Jg3 [2,2,2,2] 2 R<|Jn3 R U37 R R<|Jb 1 R<|Jv2 R hc1<|Js<|Jp<|Jq<|Jv<|Jg3 [2,2,2,1,2,2] 2 R<|Ob h λx14 hx14 h=>Jc3 R g0 hx14 U37 Z2<|Jb3 R I2 ((g0.stp S9).gInt hx14)<|Jb 2 R ?_
 revert h
 cases ht12:(x14==p1)
 refine JF λh=>Jy R<|Js<|Jz<|Jp<|Jf3 R ?_
 have hw1:yC .i64 (v5+1)=v5+1:=wr1 hj1 (Jm2 hc1) hN1
 rw[hw1]
 have hc1:=Jm2 hc1
 cases h
 exact Jz1 λa ha=>⟨k,_,Ja3 _,⟨K8,v5+1,R,S9.wk R,by omega,by omega,hk10⟩,(ha.mm R)⟩
 refine JT λh=>Jx R<|Je3 R<|Ju<|Ja1<|Jw<|Jw ?_
 cases h
 obtain rfl:=Option.some.inj hk10
 have h:=yL hK2
 refine Ja1<|Jq2<|Jw<|Ja2 (l:=[.tmp 4]) V81 (Jp2 R R) R ?_
 cases h
 exact⟨K8,R,(hE.stp S9)⟩
 rintro _ w4 ⟨K5,rfl,S6,rfl⟩
 have h:=yI hK2
 refine Jp<|Je3 R<|Ju<|Ja2 (l:=[.tmp 4]) V81 (Jp2 R R) R ?_
 cases h
 exact⟨K5,R,(hE.stp S6)⟩
theorem mA {a0 u0}{p0:(List Int)}{p1:Int}(g0:Rd (Rp.int .i64) κ w 0 a0 u0 p0){r:Bool}(h:jJ p0 p1=some r):Ret Tryz.prog 197 [.slice a0 p0.length u0,vi p1] w (Pvb κ w r):=by
 unfold jJ at h
 refine Jk3 κ F197 R N197 R λhE=>Je3 R<|Jq<|Je3 R ?_
 have hN1:(p0.length:Int)<=9223372036854775807:=g0.len_le
 refine Ob h λq2 hq3 hK2=>?_
 clear h
 refine Jx1 (λL w'=>∃κ',L=[]/\Stp [] κ w κ' w'/\q2=yD ()) ?_ ?_
 refine Jv<|Jp3 [0,1] (λk E L w'=>∃κ' v5,L=(5,vi v5)::E/\Stp [] κ w κ' w'/\0<=v5/\yG ((p0.length:Int)-v5)=k/\cntM (je p0 p1) k v5 ()=some q2) ⟨_,_,⟨κ,0,R,Jj3,(by decide),(by simp),hq3⟩,(KM R)⟩ ?_
 rintro k _ w7 ⟨K8,v5,rfl,S9,hj1,hJ1,h⟩
 rcases k with _ | k
 have hk10:=h;obtain⟨o1,h⟩:=bT (yD (yE ()):Bool⊕((Unit)⊕(Unit)))
 have hc1:decide (v5<(p0.length:Int))=false:=Jo2 (by omega)
 refine Jq<|Jg3 [2,2,2,2] 2 R<|Jn3 R U37 R R<|Jb 1 R<|Jw2 R hc1<|Jc1<|Jt<|Jt ?_
 cases h
 have h:=hk10
 refine Jb1 ?_
 cases h
 exact Jw1 _ ⟨K8,R,S9.wk R,R⟩ KN
 obtain⟨o1,h,hk10⟩:=BI h;unfold je at h
 have hc1:decide (v5<(p0.length:Int))=true:=Jn2 (by omega)
 refine Jq<|Jg3 [2,2,2,2] 2 R<|Jn3 R U37 R R<|Jb 1 R<|Jv2 R hc1<|Js<|Jp<|Jq<|Jv<|Jg3 [2,2,2,1,2,2] 2 R<|Ob h λx14 hx14 h=>Jc3 R g0 hx14 U37 Z2<|Jb3 R I2 ((g0.stp S9).gInt hx14)<|Jb 2 R ?_
 revert h
 cases ht12:(x14==p1)
 refine JF λh=>Jy R<|Js<|Jz<|Jp<|Jf3 R ?_
 have hw1:yC .i64 (v5+1)=v5+1:=wr1 hj1 (Jm2 hc1) hN1
 rw[hw1]
 have hc1:=Jm2 hc1
 cases h
 exact Jz1 λa ha=>⟨k,_,Ja3 _,⟨K8,v5+1,R,S9.wk R,by omega,by omega,hk10⟩,(ha.mm R)⟩
 refine JT λh=>Jx R<|Je3 R<|Ju<|Ja1<|Jw<|Jw ?_
 cases h
 obtain rfl:=Option.some.inj hk10
 have h:=yL hK2
 refine Ja1<|Jq2<|Jw<|Ja2 (l:=[.tmp 4]) V197 (Jp2 R R) R ?_
 cases h
 exact⟨K8,R,(hE.stp S9)⟩
 rintro _ w4 ⟨K5,rfl,S6,rfl⟩
 have h:=yI hK2
 refine Jp<|Je3 R<|Ju<|Ja2 (l:=[.tmp 4]) V197 (Jp2 R R) R ?_
 cases h
 exact⟨K5,R,(hE.stp S6)⟩
theorem pt {a0 u0}{p0:(List Int)}(g0:Rd (Rp.int .i64) κ w 0 a0 u0 p0){r:(List Int)}(h:iQ p0=some r):Ret Tryz.prog 136 [.slice a0 p0.length u0] w (Pvs E6 2 κ w r):=by
 unfold iQ at h
 refine Jk3 κ F136 R N136 R λhE=>Je3 R<|Je [1,2] R<|Jx3 (κ:=κ) (E:=E6) 2 R Y37 bG R λa7 u7 w1 K2 S3 f4=>Tv<|Jb 1 R<|Jq<|Je3 R ?_
 have hN5:(p0.length:Int)<=9223372036854775807:=g0.len_le
 refine Ob h λq2 hq7 hK6=>?_
 clear h
 refine Jx1 (λL w'=>∃κ',∃s3:(List Int),∃ad ab,L=[(3,.slice ad s3.length ab)]/\Stp [3] K2 w1 κ' w'/\Oc E6 2 κ' w' 2 ad ab s3/\q2=yD s3) ?_ ?_
 refine Jv<|Jp3 [0] (λk E L w'=>∃κ' v4,∃s1:(List Int),∃ac aa,L=(3,.slice ac s1.length aa)::(4,vi v4)::E/\Stp [3] K2 w1 κ' w'/\Oc E6 2 κ' w' 2 ac aa s1/\0<=v4/\yG ((p0.length:Int)-v4)=k/\cntM (fw p0) k v4 s1=some q2) ⟨_,_,⟨K2,0,(([]:List Int):(List Int)),a7,u7,R,Jj3,f4,(by decide),(by simp),hq7⟩,(KM R)⟩ ?_
 rintro k _ w12 ⟨K13,v4,s1,ac,aa,rfl,S14,f15,hj5,hJ5,h⟩
 rcases k with _ | k
 have hk16:=h;obtain⟨o5,h⟩:=bT (yD (yE s1):(List Int)⊕(((List Int))⊕((List Int))))
 have hc5:decide (v4<(p0.length:Int))=false:=Jo2 (by omega)
 refine Jq<|Jg3 [2,2,2,2] 2 R<|Jn3 R U37 R R<|Jb 1 R<|Jw2 R hc5<|Jc1<|Jt<|Jt ?_
 cases h
 have h:=hk16
 refine Jb1 ?_
 cases h
 exact Jw1 _ ⟨K13,s1,ac,aa,R,S14.wk R,f15,R⟩<|KM R
 obtain⟨o5,h,hk16⟩:=BI h;unfold fw at h
 have hc5:decide (v4<(p0.length:Int))=true:=Jn2 (by omega)
 refine Jq<|Jg3 [2,2,2,2] 2 R<|Jn3 R U37 R R<|Jb 1 R<|Jv2 R hc5<|Js<|Jp<|Jq<|Jv<|Jg3 [2,2,2] 1 R<|Jn3 R U37 R R<|Jb 1 R<|Jq<|Ob h λq5 hq19 hK18=>?_
 clear h
 refine Jo3 [0,3,4] (λE L w'=>∃κ' s6,L=(5,vi s6)::E/\Stp [] K13 w12 κ' w'/\q5=yD s6) ?_ ?_
 refine Jv<|Jp3 [0,3,4] (λk E L w'=>∃κ' s4,L=(5,vi s4)::E/\Stp [] K13 w12 κ' w'/\ca (fP p0 v4 s1) k s4=some q5) ⟨_,_,⟨K13,((s1.length:Int):Int),R,Jj3,hq19⟩,(KM R)⟩ ?_
 rintro k _ w23 ⟨K24,s4,rfl,S25,h⟩
 rcases k with _ | k
 cases h
 obtain⟨o17,h,hk26⟩:=BI h;unfold fP at h
 refine Jq<|Jq<|Js1 (κ:=K24) [0,2] none [(0,2),(1,2),(2,2),(3,2),(4,2),(5,2),(6,2),(8,2),(9,2),(10,2),(7,0),(11,0),(12,2),(13,2)] [] (by kernel_rfl) (by kernel_rfl) λw28 S27=>Jn 3 R<|Ob h λp29 h hK29=>Jq3 [0,3,4,5] (λE L w'=>L=(29,.bool p29)::E/\∃κ',Stp [] K24 w28 κ' w') [(3,2),(4,2),(5,2),(6,2),(8,2),(9,2),(10,2),(7,0),(11,0),(12,2),(13,2)] [] (Cl.refl _ _ _) ?_ ?_
 revert h
 cases ht30:decide (0<s4)
 refine JF λh=>Jn 7 R<|Ja4 R<|Ja4 R<|Jn 2 R ?_
 cases h
 exact Jv1 _ (Cl.refl _ _ _) ⟨R,_,Jj3⟩<|KM R
 refine JT λh=>Jn 3 R<|Ob h λx22 hx22 h=>Jc3 R f15.rdc hx22 U37 Z2<|Jn 2 R<|Ob h λx26 hx26 h=>Jc3 R g0 hx26 U37 Z2<|Jg R (Jc2 I2 R R<|hvC ((f15.stp<|S25.tr S27).rdc.gInt hx22) R)<|Jg R (Jc2 I2 R R<|hvC ((g0.stp<|T4 S3 S14 S25 S27).gInt hx26) R)<|Jn 2 R ?_
 cases h
 exact Jv1 _ (Cl.refl _ _ _) ⟨R,_,Jj3⟩<|KM R
 rintro _ w33 _ ⟨rfl,K34,S35⟩
 have h:=hK29
 refine Jt1<|Jd ?_
 revert h
 cases ht36:p29
 refine JF λh=>Jy R<|Jc1<|Jt<|Jt ?_
 cases h
 have h:=hk26
 refine Jb1 ?_
 cases h
 exact Jw1 _ ⟨K34,s4,R,(T3 S25 S27 S35).wk R,R⟩<|KM R
 refine JT λh=>Jx R<|Js<|Jp<|Jv<|Jf3 R<|Jz ?_
 cases h
 exact Jz1 λa ha=>⟨k,_,Ja3 _,⟨K34,((IntKind.i64.wrap<|s4-1):Int),R,(T3 S25 S27 S35).wk R,hk26⟩,(ha.mm R)⟩
 rintro _ w20 ⟨K21,s6,rfl,S22,rfl⟩
 have h:=yI hK18
 refine Jp<|Je [1,2,2,2,1,2] R<|Jx3 (κ:=K21) (E:=E6) 3 R Y37 bG R λaj ah w37 K38 S39 f40=>Tv<|Jn 2 R<|Ob h λx35 hx35 h=>Jf R (kN (k1:= .i64) (k2:= .i64) U37 Z2 (.inl ⟨R,R⟩) (.inr ⟨_,R,R⟩) hx35 f15.rdc.1 R R R) ?_
 have f42:=f15.stp (S22.tr S39)
 refine Ob h λx36 hx36 h=>Jy3 (κ:=K38) (E:=E6) 3 [] R Y37 bG R f40 (Sl.srcP (bP _)<|f42.rdc.sub hx35) bI hx36 R λak ao w43 K44 S45 f46=>Tv<|Jb 1 R<|Jg3 [2,2,2,2,1,1,1,2] 3 R<|Ob h λx40 hx40 h=>Jc3 R g0 hx40 U37 Z2<|Jb3 R I2 ((g0.stp<|T5 S3 S14 S22 S39 S45).gInt hx40)<|Jw3 (κ:=K44) (E:=E6) 4 [] (parts:=[(0,.tmp 41)]) (cells:=[vi x40]) (xs:=([x40]:List Int)) R Y37 bG R ⟨[vi x40],[],Zl K44 w43 [],Zl K44 w43 [],R,Zl.sp (l1:=[]) (l2:=[]) R,Zl.sr (l1:=[]) (l2:=[]),R,R⟩ λai al w48 K49 S50 f51=>Tv<|Ob h λx43 hx43 h=>Jy3 (κ:=K49) (E:=E6) 3 [] R Y37 bG R (f46.stp S50) (Sl.srcP (bP _) f51.rdc) bI hx43 R λam an w53 K54 S55 f56=>Tv<|Jb 1 R<|Jh3 [2,2,2,2,1,2] 3 R<|Ob h λx47 hx47 h=>Jf R (kN (k1:= .i64) (k2:= .i64) U37 Z2 (.inr ⟨_,R,R⟩) (.inl ⟨R,R⟩) hx47 f42.rdc.1 R R R)<|Ob h λx48 hx48 h=>Jy3 (κ:=K54) (E:=E6) 3 [] R Y37 bG R f56 (Sl.srcP (bP _) ((f42.stp<|T3 S45 S50 S55).rdc.sub hx47)) bI hx48 R λaf ae w59 K60 S61 f62=>Tv<|Jc 1 R<|Jz<|Jp<|Jf3 R ?_
 have hw5:yC .i64 (v4+1)=v4+1:=wr1 hj5 (Jm2 hc5) hN5
 rw[hw5]
 have hc5:=Jm2 hc5
 cases h
 exact Jz1 λa ha=>⟨k,_,Ja3 _,⟨(λb=>ren [(3,2)]<|K60 b),v4+1,x48,af,ae,R,(Jy2 ((T7 S14 S22 S39 S45 S50 S55 S61).wk R) [(3,2)] R),(f62.map (ren [(3,2)]) R R),by omega,by omega,hk16⟩,(ha.mm R)⟩
 rintro _ w8 ⟨K9,s3,ad,ab,rfl,S10,f11,rfl⟩
 have h:=yI hK6
 refine Jp<|Je3 R<|Ju<|Ja2 (l:=[.tmp 2]) V136 (Jp2 R R) R ?_
 cases h
 exact⟨K9,ad,ab,R,(hE.stp<|S3.tr S10),f11⟩
theorem tZ {p0:Int}  {r:(List Int)}(h:nL p0=some r):Ret Tryz.prog 99 [vi p0] w (Pvs E6 2 κ w r):=by
 unfold nL at h
 refine Jk3 κ F99 R N99 R λhE=>Je3 R<|Je [1,2] R<|Jx3 (κ:=κ) (E:=E6) 2 R Y37 bG R λa5 u5 w1 K2 S3 f4=>Tv<|Jb 1 R<|Jq<|Je3 R<|Ob h λq2 hq7 hK6=>?_
 clear h
 refine Jx1 (λL w'=>∃κ',∃s3:(List Int)×Int,∃ad ab,L=[(3,.slice ad s3.1.length ab)]/\Stp [2] K2 w1 κ' w'/\Oc E6 2 κ' w' 2 ad ab s3.1/\q2=yD s3) ?_ ?_
 refine Jv<|Jp3 [0] (λk E L w'=>∃κ',∃s1:(List Int)×Int,∃ac aa,L=(3,.slice ac s1.1.length aa)::(4,vi s1.2)::E/\Stp [2] K2 w1 κ' w'/\Oc E6 2 κ' w' 2 ac aa s1.1/\ca (ka p0) k s1=some q2) ⟨_,_,⟨K2,((([]:List Int):(List Int)),(0:Int)),a5,u5,R,Jj3,f4,hq7⟩,(KM R)⟩ ?_
 rintro k _ w12 ⟨K13,s1,ac,aa,rfl,S14,f15,h⟩
 rcases k with _ | k
 cases h
 obtain⟨o5,h,hk16⟩:=BI h;unfold ka at h
 refine Jq<|Jg3 [2,2,2,2,2,2,2] 4 R<|Ob h λp12 h hK17=>Jq3 [0,3,4] (λE L w'=>L=(12,.bool p12)::E/\∃κ',Stp [] K13 w12 κ' w') [(4,2),(5,2),(6,2)] [] tv ?_ ?_
 revert h
 cases ht18:decide (s1.2<p0)
 refine JF λh=>Jn 3 R ?_
 cases h
 exact Jv1 _ tv ⟨R,_,Jj3⟩<|KM R
 refine JT λh=>Jn 3 R ?_
 cases h
 exact Jv1 _ tv ⟨R,_,Jj3⟩<|KM R
 rintro _ w19 _ ⟨rfl,K20,S21⟩
 have h:=hK17
 refine Jd ?_
 revert h
 cases ht22:p12
 refine JF λh=>Jy R<|Jc1<|Jt<|Jt ?_
 cases h
 have h:=hk16
 refine Jb1 ?_
 cases h
 exact Jw1 _ ⟨K20,(s1.1,s1.2),ac,aa,R,(S14.tr S21).wk R,(f15.stp S21),R⟩<|KM R
 refine JT λh=>Jx R<|Js<|Jp<|Jq<|Jv<|Jh3 [2,2,1,1,2] 2 R<|Jw3 (κ:=K20) (E:=E6) 3 [] (parts:=[(0,.tmp 16)]) (cells:=[vi s1.2]) (xs:=([s1.2]:List Int)) R Y37 bG R ⟨[vi s1.2],[],Zl K20 w19 [],Zl K20 w19 [],R,Zl.sp (l1:=[]) (l2:=[]) R,Zl.sr (l1:=[]) (l2:=[]),R,R⟩ λai ah w23 K24 S25 f26=>Tv<|Ob h λx18 hx18 h=>Jy3 (κ:=K24) (E:=E6) 2 [] R Y37 bG R (f15.stp<|S21.tr S25) (Sl.srcP (bP _) f26.rdc) bI hx18 R λae af w28 K29 S30 f31=>Tv<|Jc 1 R<|Jz<|Jp<|Jf3 R ?_
 cases h
 exact Jz1 λa ha=>⟨k,_,Ja3 _,⟨K29,(x18,((IntKind.i64.wrap<|s1.2+1):Int)),ae,af,R,(T4 S14 S21 S25 S30).wk R,f31,hk16⟩,(ha.mm R)⟩
 rintro _ w8 ⟨K9,s3,ad,ab,rfl,S10,f11,rfl⟩
 have h:=yI hK6
 refine Jp<|Je3 R<|Ju<|Ja2 (l:=[.tmp 2]) V99 (Jp2 R R) R ?_
 cases h
 exact⟨K9,ad,ab,R,(hE.stp<|S3.tr S10),f11⟩
theorem oH {af ad ah ak aa ab ae ai ac aj}{p0:l7Game}{p1:Int}{p2:Int}(g0_0:Rd (Rp.int .i64) κ w 0 af ad p0.owner) (g0_1:Rd (Rp.int .i64) κ w 0 ah ak p0.prio) (g0_2:Rd (Rp.sl (Rp.int .i64)) κ w 0 aa ab p0.next) (g0_3:Rd (Rp.sl (Rp.int .i64)) κ w 0 ae ai p0.prev) (g0_4:Rd (Rp.int .i64) κ w 0 ac aj p0.pick){r:Bool}(h:kH p0 p1 p2=some r):Ret Tryz.prog 269 [.agg #[.slice af p0.owner.length ad,.slice ah p0.prio.length ak,.slice aa p0.next.length ab,.slice ae p0.prev.length ai,.slice ac p0.pick.length aj],vi p1,vi p2] w (Pvb κ w r):=by
 unfold kH at h
 refine Jk3 κ F269 R N269 R λhE=>Je [1,2] R<|Js3 (κ:=κ) 2 R λb3 w1 K2 S3 f4=>Tv<|Jb 1 R<|Je [2,1,2,2,1,2,2,2,1,2,2,1,2,2,2,2] R<|Jd3 R U210 R Z37<|Jb3 R I37 (f4.ld 4 R R)<|Jn 1 R<|Ob h λx10 hx10 h=>Jc3 R g0_4 hx10 U37 Z2 ?_
 have f5:=g0_4.stp S3
 refine Jb3 R I2 (f5.gInt hx10)<|Jn 2 R<|Ob h λp21 h hK6=>Jq3 [6] (λE L w'=>L=(21,.bool p21)::E/\∃κ',Stp [] K2 w1 κ' w') [(7,2),(8,1),(9,2),(10,2),(11,1),(12,2),(13,2),(14,2)] [(15,2)] tv ?_ ?_
 revert h
 cases ht7:decide (x10<0)
 refine JF λh=>Jd3 R U210 R Z37<|Jb3 R I37 (f4.ld 4 R R)<|Jn 1 R<|Ob h λx17 hx17 h=>Jc3 R f5 hx17 U37 Z2<|Jb3 R I2 (f5.gInt hx17)<|Jn 3 R ?_
 cases h
 exact Jv1 _ tv ⟨R,_,Jj3⟩<|KM R
 refine JT λh=>Jn 1 R<|Jz3 R<|Jn 2 R<|Jz3 R<|Jn 3 R ?_
 cases h
 exact Jv1 _ tv ⟨R,_,Jj3⟩<|KM R
 rintro _ w8 _ ⟨rfl,K9,S10⟩
 have h:=hK6
 refine Jb 1 R<|Ju<|Ja2 (l:=[.tmp 6]) V269 (Jp2 R R) R ?_
 cases h
 exact⟨K9,R,(hE.stp<|S3.tr S10)⟩
theorem oK {a0 u0}{p0:(List Bool)}{a1 u1}{p1:(List Bool)}(g0:Rd Rp.bool κ w 0 a0 u0 p0) (g1:Rd Rp.bool κ w 0 a1 u1 p1){r:(List Bool)}(h:kS p0 p1=some r):Ret Tryz.prog 271 [.slice a0 p0.length u0,.slice a1 p1.length u1] w (Pvs Ep.bool 4 κ w r):=by
 unfold kS at h
 refine Jk3 κ F271 R N271 R λhE=>Je3 R<|Jg3 [2,2,1,2] 1 R<|Jn3 R U178 R R<|Ob h λx9 hx9 h=>Jl1 (κ:=κ) (E:=Ep.bool) (z:=(false:Bool)) 2 R R R R R R R Y178 du R R R R R (λ_ _ _=>R) (Ju2 hx9) λa9 u9 w1 K2 S3 f4=>Tv<|Jb 1 R<|Jq<|Je3 R ?_
 have hN5:(p0.length:Int)<=9223372036854775807:=g0.len_le
 refine Ob h λq2 hq7 hK6=>?_
 clear h
 refine Jo3 [5] (λE L w'=>∃κ',∃s3:(List Bool),L=E/\Stp [2] K2 w1 κ' w'/\Oc Ep.bool 4 κ' w' 2 a9 u9 s3/\x9.length=s3.length/\q2=yD s3) ?_ ?_
 refine Jv<|Jp3 [0,1,5] (λk E L w'=>∃κ' v6,∃s1:(List Bool),L=(6,vi v6)::E/\Stp [2] K2 w1 κ' w'/\Oc Ep.bool 4 κ' w' 2 a9 u9 s1/\x9.length=s1.length/\0<=v6/\yG ((p0.length:Int)-v6)=k/\cntM (i8 p0 p1) k v6 s1=some q2) ⟨_,_,⟨K2,0,x9,R,Jj3,f4,R,(by decide),(by simp),hq7⟩,(KM R)⟩ ?_
 rintro k _ w13 ⟨K14,v6,s1,rfl,S15,f16,hn17,hj5,hJ5,h⟩
 rcases k with _ | k
 have hk18:=h;obtain⟨o5,h⟩:=bT (yD (yE s1):(List Bool)⊕(((List Bool))⊕((List Bool))))
 have hc5:decide (v6<(p0.length:Int))=false:=Jo2 (by omega)
 refine Jq<|Jg3 [2,2,2,2] 2 R<|Jn3 R U178 R R<|Jb 1 R<|Jw2 R hc5<|Jc1<|Jt<|Jt ?_
 cases h
 have h:=hk18
 refine Jb1 ?_
 cases h
 exact Jw1 _ ⟨K14,s1,R,S15.wk R,f16,hn17,R⟩<|KM R
 obtain⟨o5,h,hk18⟩:=BI h;unfold i8 at h
 have hc5:decide (v6<(p0.length:Int))=true:=Jn2 (by omega)
 refine Jq<|Jg3 [2,2,2,2] 2 R<|Jn3 R U178 R R<|Jb 1 R<|Jv2 R hc5<|Js<|Jp<|Jq<|Jv<|Jh3 [2,2,2,2,2,1,2,2,2,2,1,2,2,2,1] 4 R<|Ob h λx20 hx20 h=>Jc3 R g0 hx20 U178 Z4<|Jb3 R I4 ((g0.stp<|S3.tr S15).gBool hx20)<|Jn 1 R<|Ob h λp28 h hK20=>Jq3 [0,1,5,6,16,17] (λE L w'=>L=(28,.bool p28)::E/\∃κ',Stp [] K14 w13 κ' w') [(7,2),(8,2),(9,2),(10,1),(11,2),(12,2)] [(13,2),(14,1)] tv ?_ ?_
 revert h
 cases ht21:x20
 refine JF λh=>Jn 3 R<|Jz3 R<|Jn 2 R ?_
 cases h
 exact Jv1 _ tv ⟨R,_,Jj3⟩<|KM R
 refine JT λh=>Jn 2 R<|Ob h λx25 hx25 h=>Jc3 R g1 hx25 U178 Z4<|Jb3 R I4 ((g1.stp<|S3.tr S15).gBool hx25)<|Jn 2 R ?_
 cases h
 exact Jv1 _ tv ⟨R,_,Jj3⟩<|KM R
 rintro _ w23 _ ⟨rfl,K24,S25⟩
 have h:=hK20
 refine Ob h λx29 hx29 h=>Jf R (Jf2 f16.rdc hx29 U178 Z4 R R hn17 R)<|Ob h λy395 hy395 h=>Jk1 (κ:=K24) (E:=Ep.bool) 2 [] R R R R R R R R Z4 R R R R (f16.stp S25) hy395 λw27 K28 S29 f30=>Tv<|?_
 have hn31:x9.length=y395.length:=hn17.trans (Jt2 hy395).2.2.2.symm
 refine Jo<|Jz<|Jp<|Jf3 R ?_
 have hw5:yC .i64 (v6+1)=v6+1:=wr1 hj5 (Jm2 hc5) hN5
 rw[hw5]
 have hc5:=Jm2 hc5
 cases h
 exact Jz1 λa ha=>⟨k,_,Ja3 _,⟨K28,v6+1,y395,R,(T3 S15 S25 S29).wk R,f30,hn31,by omega,by omega,hk18⟩,(ha.mm R)⟩
 rintro _ w8 ⟨K9,s3,rfl,S10,f11,hn12,rfl⟩
 have h:=yI hK6
 refine Jp<|Je3 R<|Ju<|Ja2 (l:=[.tmp 4]) V271 (Jp2 R R) R ?_
 cases h
 exact⟨K9,a9,u9,(by simp only[hn12]),(hE.stp<|S3.tr S10),f11⟩
theorem mG {ab aa ac ad}{p0:Machine}{p1:Int}{a2 u2}{p2:(List Int)}(g0_0:Rd (Rp.sl (Rp.int .i64)) κ w 0 ab aa p0.Next) (g0_1:Rd (Rp.sl (Rp.int .i64)) κ w 0 ac ad p0.Out) (g2:Rd (Rp.int .i64) κ w 0 a2 u2 p2){r:Int}(h:gE p0 p1 p2=some r):Ret Tryz.prog 55 [.agg #[.slice ab p0.Next.length aa,.slice ac p0.Out.length ad],vi p1,.slice a2 p2.length u2] w (Pvi κ w r):=by
 unfold gE at h
 refine Jk3 κ F55 R N55 R λhE=>Je [1,2] R<|Js3 (κ:=κ) 2 R λb3 w1 K2 S3 f4=>Tv<|Jb 1 R<|Jq<|Je3 R ?_
 have hN5:(p2.length:Int)<=9223372036854775807:=g2.len_le
 refine Ob h λq2 hq7 hK6=>?_
 clear h
 refine Jx1 (λL w'=>∃κ' s3,L=[(1,vi s3)]/\Stp [] K2 w1 κ' w'/\q2=yD s3) ?_ ?_
 refine Jv<|Jp3 [2,3] (λk E L w'=>∃κ' v7 s1,L=(1,vi s1)::(7,vi v7)::E/\Stp [] K2 w1 κ' w'/\0<=v7/\yG ((p2.length:Int)-v7)=k/\cntM (fE p0 p2) k v7 s1=some q2) ⟨_,_,⟨K2,0,p1,R,Jj3,(by decide),(by simp),hq7⟩,(KM R)⟩ ?_
 rintro k _ w11 ⟨K12,v7,s1,rfl,S13,hj5,hJ5,h⟩
 rcases k with _ | k
 have hk14:=h;obtain⟨o5,h⟩:=bT (yD (yE s1):Int⊕((Int)⊕(Int)))
 have hc5:decide (v7<(p2.length:Int))=false:=Jo2 (by omega)
 refine Jq<|Jg3 [2,2,2,2] 2 R<|Jn3 R U37 R R<|Jb 1 R<|Jw2 R hc5<|Jc1<|Jt<|Jt ?_
 cases h
 have h:=hk14
 refine Jb1 ?_
 cases h
 exact Jw1 _ ⟨K12,s1,R,S13.wk R,R⟩<|KM R
 obtain⟨o5,h,hk14⟩:=BI h;unfold fE at h
 have hc5:decide (v7<(p2.length:Int))=true:=Jn2 (by omega)
 refine Jq<|Jg3 [2,2,2,2] 2 R<|Jn3 R U37 R R<|Jb 1 R<|Jv2 R hc5<|Js<|Jp<|Jq<|Jv<|Js1 (κ:=K12) [0,2] none [(0,2),(2,2),(5,2),(6,2),(7,2),(1,0),(3,2),(4,0),(8,0),(9,2),(10,0),(11,2)] [] (by kernel_rfl) (by kernel_rfl) λw16 S15=>Jd3 R U33 R Z31<|Jn 3 R<|Ob h λx21 hx21 h=>Jc3 R g2 hx21 U37 Z2<|Jg R (Jc2 I31 R R<|hvC ((f4.stp<|S13.tr S15).ld 0 R R) R)<|Ob h λx17 hx17 h=>Jc3 R g0_0 hx17 U31 Z37 ?_
 obtain⟨ax17,ux17,f19,hl20⟩:=(g0_0.stp (T3 S3 S13 S15)).gSl hx17
 refine Jg R (Jc2 I37 R R<|hvC hl20 R)<|Jg R (Jc2 I2 R R<|hvC ((g2.stp<|T3 S3 S13 S15).gInt hx21) R)<|Ob h λx23 hx23 h=>Jc3 R f19 hx23 U37 Z2<|Jg R (Jc2 I2 R R<|hvC (f19.gInt hx23) R)<|Jn 1 R<|Jt1<|Jo<|Jz<|Jp<|Jf3 R ?_
 have hw5:yC .i64 (v7+1)=v7+1:=wr1 hj5 (Jm2 hc5) hN5
 rw[hw5]
 have hc5:=Jm2 hc5
 cases h
 exact Jz1 λa ha=>⟨k,_,Ja3 _,⟨K12,v7+1,x23,R,(S13.tr S15).wk R,by omega,by omega,hk14⟩,(ha.mm R)⟩
 rintro _ w8 ⟨K9,s3,rfl,S10,rfl⟩
 have h:=yI hK6
 refine Jp<|Je3 R<|Ju<|Ja2 (l:=[.tmp 6]) V55 (Jp2 R R) R ?_
 cases h
 exact⟨K9,R,(hE.stp<|S3.tr S10)⟩
end Go.Proofs.YtleekpaohfpooaaGreat
