/- The walks, part 1. By program. -/
import Derived.Test.YtpcjbkgbnoocaaaGreatFnsMMO
import Derived.Test.YtpcjbkgbnoocaaaGreatAlMO
set_option linter.unusedVariables false
set_option linter.unusedSimpArgs false
open Go.IntKind renaming wrap → t0
open Sum renaming inr → xe, inl → xf
open Int renaming toNat → xh
namespace Go.Proofs.YtpcjbkgbnoocaaaGreat
open Go Go.Wk Go.Proofs
set_option maxRecDepth 100000
set_option maxHeartbeats 1000000
variable {w:World}{κ:Col}
theorem mR {p0:Sig}  {r:Sig}(h:mg p0=some r):Ret Tryz.prog 19 [.agg #[vi p0.In,vi p0.Out]] w (λv w'=>∃(κ':Col),v= .agg #[vi r.In,vi r.Out]/\Ent κ w κ' w'):=by
 unfold mg at h
 refine Jk3 κ F19 R N19 R λhE=>Je [1,1] R<|Jf1 (κ:=κ) 2 R R R R R R R λb1 w1 K2 S3 f4=>Tv<|Jg1 (κ:=K2) 3 R R R R R X25 R λb2 w5 K6 S7 f8=>Tv<|Jd<|Je [1] R<|Jg1 (κ:=K6) 4 R R R R R X25 R λb3 w9 K10 S11 f12=>Tv<|Jd<|Je [2,1,2,1] R<|Jd3 R U43 R Z2 ?_
 have f13:=f4.stp (S7.tr S11) R R
 refine Jb3 R I2 (f13.ld 0 R R)<|Jd3 R U25 R Z2<|Ji1 (κ:=K10) 4 (off:=0) (vc:=[vi p0.In]) (cs':=[vi p0.In,vi 0]) R R R R R R R Z2 R R f12 R R λw14 S15 f16=>Tv<|Jd<|Je [2,1,2,1] R<|Jd3 R U43 R Z2<|Jb3 R I2 ((f13.stp S15 R R).ld 1 R R)<|Jd3 R U25 R Z2<|Ji1 (κ:=K10) 4 (off:=1) (vc:=[vi p0.Out]) (cs':=[vi p0.In,vi p0.Out]) R R R R R R R Z2 R R f16 R R λw18 S19 f20=>Tv<|Jd<|Je [1,1] R<|Jl tv R R R R (Jd2 (cs:=[vi p0.In,vi p0.Out]) I25 Z25 R R R<|haE f20.cells)<|Jj1 (κ:=K10) 3 (vc:=[vi p0.In,vi p0.Out]) R R R R R R R Z25 R R (f8.stp (T3 S11 S15 S19) R R) R λw22 S23 f24=>Tv<|Jd<|Ju<|Ja2 (l:=[.cell 2 25]) V19 (bL R f24 I25 Z25 R R) R ?_
 cases h
 exact⟨K10,R,(hE.stp (T6 S3 S7 S11 S15 S19 S23) R R)⟩
theorem qU {p0:Int}  {r:Bool}(h:mq p0=some r):Ret Tryz.prog 161 [vi p0] w (Pvb κ w r):=by
 unfold mq at h
 refine Jk3 κ F161 R N161 R λhE=>Je3 R<|Jg3 [2,2,2,2,2,2,2,2,2,2,2] 3 R<|Ob h λp8 h hK1=>Ju1 [(3,2),(4,2),(5,2)] [(6,2),(7,2),(8,2),(9,2),(10,2)] (λL w'=>L=[(0,vi p0),(2,.bool false),(8,.bool p8)]/\∃κ',Stp [] κ w κ' w') tv ?_ ?_
 revert h
 cases ht2:(p0==2)
 refine JF λh=>Jn 3 R ?_
 cases h
 exact Jv1 _ tv ⟨R,_,Jj3⟩<|KM R
 refine JT λh=>Jn 3 R ?_
 cases h
 exact Jv1 _ tv ⟨R,_,Jj3⟩<|KM R
 rintro _ w3 _ ⟨rfl,K4,S5⟩
 have h:=hK1
 refine Jn 1 R<|Ob h λp12 h hK6=>Ju1 [(7,2),(8,2),(9,2)] [(10,2)] (λL w'=>L=[(2,.bool false),(12,.bool p12)]/\∃κ',Stp [] K4 w3 κ' w') tv ?_ ?_
 revert h
 cases ht7:p8
 refine JF λh=>Jn 3 R ?_
 cases h
 exact Jv1 _ tv ⟨R,_,Jj3⟩<|KM R
 refine JT λh=>Jn 3 R ?_
 cases h
 exact Jv1 _ tv ⟨R,_,Jj3⟩<|KM R
 rintro _ w8 _ ⟨rfl,K9,S10⟩
 have h:=hK6
 refine Jb 1 R<|Ju<|Ja2 (l:=[.tmp 2]) V161 (Jp2 R R) R ?_
 cases h
 exact⟨K9,R,(hE.stp (S5.tr S10) R R)⟩
theorem rJ {p0:Int}  {r:Pair}(h:kL p0=some r):Ret Tryz.prog 165 [vi p0] w (λv w'=>∃(κ':Col) (ra0:Option Addr) (ru0:Nat) (ra1:Option Addr) (ru1:Nat),v= .agg #[.slice ra0 r.Ask.length ru0,.slice ra1 r.Give.length ru1]/\Ent κ w κ' w'/\Oc E6 2 κ' w' 2 ra0 ru0 r.Ask/\Oc E6 2 κ' w' 3 ra1 ru1 r.Give):=by
 unfold kL at h
 refine Jk3 κ F165 R N165 R λhE=>Je [1] R<|Jg1 (κ:=κ) 2 R R R R R X154 R λb2 w1 K2 S3 f4=>Tv<|Jd<|Jq<|Je3 R<|Jv<|Jq<|Je3 R<|Ob h λq1 h hK5=>Jx1 (λL w'=>∃κ',L=[(2,.pointer (some ⟨b2,0,none⟩)),(3,vi p0),(4,.bool q1)]/\Stp [] K2 w1 κ' w') ?_ ?_
 revert h
 cases ht9:(p0==1)
 refine JF λh=>Jy R<|Jf3 R ?_
 cases h
 exact Jw1 _ ⟨K2,R,Jj3⟩<|KM R
 refine JT λh=>Jx R<|Js ?_
 cases h
 exact Jw1 _ ⟨K2,R,Jj3⟩<|KM R
 rintro _ w6 ⟨K7,rfl,S8⟩
 have h:=hK5
 refine Jp ?_
 revert h
 cases ht10:q1
 refine JF λh=>Jy R<|Je3 R ?_
 revert h
 cases ht21:(p0==2)
 refine JF λh=>Jy R<|Je3 R ?_
 revert h
 cases ht32:(p0==3)
 refine JF λh=>Jy R<|Je3 R ?_
 revert h
 cases ht48:(p0==4)
 refine JF λh=>Jy R<|Je3 R ?_
 revert h
 cases ht64:(p0==6)
 refine JF λh=>Jy R<|Js<|Jz<|Jp<|Je [1,1,2,1] R<|Jn1 (κ:=K7) (E:=E6) 3 [] (parts:=[(0,.const (vi 2)),(1,.const (vi 3))]) (cells:=[vi 2,vi 3]) (xs:=([2,3]:List Int)) R R R R R R Y29 bG R R R R R R R R R R ⟨[vi 2],[vi 3],Zl K7 w6 [],Zl K7 w6 [],R,Zl.sp (l1:=[]) (l2:=[]) R,Zl.sr (l1:=[]) (l2:=[]),R,⟨[vi 3],[],Zl K7 w6 [],Zl K7 w6 [],R,Zl.sp (l1:=[]) (l2:=[]) R,Zl.sr (l1:=[]) (l2:=[]),R,R⟩⟩ λap ak w75 K76 S77 f78=>Tv<|Jn1 (κ:=K76) (E:=E6) 4 [] (parts:=[(0,.const (vi 1)),(1,.const (vi 3))]) (cells:=[vi 1,vi 3]) (xs:=([1,3]:List Int)) R R R R R R Y29 bG R R R R R R R R R R ⟨[vi 1],[vi 3],Zl K76 w75 [],Zl K76 w75 [],R,Zl.sp (l1:=[]) (l2:=[]) R,Zl.sr (l1:=[]) (l2:=[]),R,⟨[vi 3],[],Zl K76 w75 [],Zl K76 w75 [],R,Zl.sp (l1:=[]) (l2:=[]) R,Zl.sr (l1:=[]) (l2:=[]),R,R⟩⟩ λaq ah w79 K80 S81 f82=>Tv<|Jf R (bJ (parts:=[(0,.tmp 27),(1,.tmp 28)]) (cells:=[.slice ap ([2,3]:List Int).length ak,.slice aq ([1,3]:List Int).length ah]) R R (by kernel_rfl))<|Jj1 (κ:=K80) 2 (vc:=[.slice ap ([2,3]:List Int).length ak,.slice aq ([1,3]:List Int).length ah]) R R R R R R R Z154 R R (f4.stp (T3 S8 S77 S81) R R) R λw84 S85 f86=>Tv<|Jd<|Ju<|Ja2 (l:=[.cell 2 154]) V165 (bL R f86 I154 Z154 R R) R ?_
 cases h
 exact⟨(λb=>ren [(3,2),(4,3)]<|K80 b),ap,ak,aq,ah,R,((hE.stp (T5 S3 S8 S77 S81 S85) R R).map (ren [(3,2),(4,3)]) R R),((f78.stp (S81.tr S85) R R).map (ren [(3,2),(4,3)]) R R),((f82.stp S85 R R).map (ren [(3,2),(4,3)]) R R)⟩
 refine JT λh=>Jx R<|Je [1,2,1] R<|Jn1 (κ:=K7) (E:=E6) 3 [] (parts:=[(0,.const (vi 0))]) (cells:=[vi 0]) (xs:=([0]:List Int)) R R R R R R Y29 bG R R R R R R R R R R ⟨[vi 0],[],Zl K7 w6 [],Zl K7 w6 [],R,Zl.sp (l1:=[]) (l2:=[]) R,Zl.sr (l1:=[]) (l2:=[]),R,R⟩ λan am w65 K66 S67 f68=>Tv<|Jf R (bJ (parts:=[(0,.tmp 25)]) (cells:=[.slice an ([0]:List Int).length am,.slice none 0 0]) R R (by kernel_rfl))<|Jj1 (κ:=K66) 2 (vc:=[.slice an ([0]:List Int).length am,.slice none 0 0]) R R R R R R R Z154 R R (f4.stp (S8.tr S67) R R) R λw70 S71 f72=>Tv<|Jd<|Ju<|Ja1<|Jw<|Ja2 (l:=[.cell 2 154]) V165 (bL R f72 I154 Z154 R R) R ?_
 cases h
 exact⟨(λb=>ren [(3,2)]<|K66 b),an,am,none,0,R,((hE.stp (T4 S3 S8 S67 S71) R R).map (ren [(3,2)]) R R),((f68.stp S71 R R).map (ren [(3,2)]) R R),Ow.nil⟩
 refine JT λh=>Jx R<|Je [1,1,2,1] R<|Jn1 (κ:=K7) (E:=E6) 3 [] (parts:=[(0,.const (vi 0)),(1,.const (vi 1))]) (cells:=[vi 0,vi 1]) (xs:=([0,1]:List Int)) R R R R R R Y29 bG R R R R R R R R R R ⟨[vi 0],[vi 1],Zl K7 w6 [],Zl K7 w6 [],R,Zl.sp (l1:=[]) (l2:=[]) R,Zl.sr (l1:=[]) (l2:=[]),R,⟨[vi 1],[],Zl K7 w6 [],Zl K7 w6 [],R,Zl.sp (l1:=[]) (l2:=[]) R,Zl.sr (l1:=[]) (l2:=[]),R,R⟩⟩ λac al w49 K50 S51 f52=>Tv<|Jn1 (κ:=K50) (E:=E6) 4 [] (parts:=[(0,.const (vi 1))]) (cells:=[vi 1]) (xs:=([1]:List Int)) R R R R R R Y29 bG R R R R R R R R R R ⟨[vi 1],[],Zl K50 w49 [],Zl K50 w49 [],R,Zl.sp (l1:=[]) (l2:=[]) R,Zl.sr (l1:=[]) (l2:=[]),R,R⟩ λai ae w53 K54 S55 f56=>Tv<|Jf R (bJ (parts:=[(0,.tmp 20),(1,.tmp 21)]) (cells:=[.slice ac ([0,1]:List Int).length al,.slice ai ([1]:List Int).length ae]) R R (by kernel_rfl))<|Jj1 (κ:=K54) 2 (vc:=[.slice ac ([0,1]:List Int).length al,.slice ai ([1]:List Int).length ae]) R R R R R R R Z154 R R (f4.stp (T3 S8 S51 S55) R R) R λw58 S59 f60=>Tv<|Jd<|Ju<|Ja1<|Jw<|Ja2 (l:=[.cell 2 154]) V165 (bL R f60 I154 Z154 R R) R ?_
 cases h
 exact⟨(λb=>ren [(3,2),(4,3)]<|K54 b),ac,al,ai,ae,R,((hE.stp (T5 S3 S8 S51 S55 S59) R R).map (ren [(3,2),(4,3)]) R R),((f52.stp (S55.tr S59) R R).map (ren [(3,2),(4,3)]) R R),((f56.stp S59 R R).map (ren [(3,2),(4,3)]) R R)⟩
 refine JT λh=>Jx R<|Je [1,1,2,1] R<|Jn1 (κ:=K7) (E:=E6) 3 [] (parts:=[(0,.const (vi 1))]) (cells:=[vi 1]) (xs:=([1]:List Int)) R R R R R R Y29 bG R R R R R R R R R R ⟨[vi 1],[],Zl K7 w6 [],Zl K7 w6 [],R,Zl.sp (l1:=[]) (l2:=[]) R,Zl.sr (l1:=[]) (l2:=[]),R,R⟩ λao ad w33 K34 S35 f36=>Tv<|Jn1 (κ:=K34) (E:=E6) 4 [] (parts:=[(0,.const (vi 0))]) (cells:=[vi 0]) (xs:=([0]:List Int)) R R R R R R Y29 bG R R R R R R R R R R ⟨[vi 0],[],Zl K34 w33 [],Zl K34 w33 [],R,Zl.sp (l1:=[]) (l2:=[]) R,Zl.sr (l1:=[]) (l2:=[]),R,R⟩ λaa aj w37 K38 S39 f40=>Tv<|Jf R (bJ (parts:=[(0,.tmp 15),(1,.tmp 16)]) (cells:=[.slice ao ([1]:List Int).length ad,.slice aa ([0]:List Int).length aj]) R R (by kernel_rfl))<|Jj1 (κ:=K38) 2 (vc:=[.slice ao ([1]:List Int).length ad,.slice aa ([0]:List Int).length aj]) R R R R R R R Z154 R R (f4.stp (T3 S8 S35 S39) R R) R λw42 S43 f44=>Tv<|Jd<|Ju<|Ja1<|Jw<|Ja2 (l:=[.cell 2 154]) V165 (bL R f44 I154 Z154 R R) R ?_
 cases h
 exact⟨(λb=>ren [(3,2),(4,3)]<|K38 b),ao,ad,aa,aj,R,((hE.stp (T5 S3 S8 S35 S39 S43) R R).map (ren [(3,2),(4,3)]) R R),((f36.stp (S39.tr S43) R R).map (ren [(3,2),(4,3)]) R R),((f40.stp S43 R R).map (ren [(3,2),(4,3)]) R R)⟩
 refine JT λh=>Jx R<|Je [1,2,1] R<|Jn1 (κ:=K7) (E:=E6) 3 [] (parts:=[(0,.const (vi 2))]) (cells:=[vi 2]) (xs:=([2]:List Int)) R R R R R R Y29 bG R R R R R R R R R R ⟨[vi 2],[],Zl K7 w6 [],Zl K7 w6 [],R,Zl.sp (l1:=[]) (l2:=[]) R,Zl.sr (l1:=[]) (l2:=[]),R,R⟩ λaf ab w22 K23 S24 f25=>Tv<|Jf R (bJ (parts:=[(0,.tmp 11)]) (cells:=[.slice af ([2]:List Int).length ab,.slice none 0 0]) R R (by kernel_rfl))<|Jj1 (κ:=K23) 2 (vc:=[.slice af ([2]:List Int).length ab,.slice none 0 0]) R R R R R R R Z154 R R (f4.stp (S8.tr S24) R R) R λw27 S28 f29=>Tv<|Jd<|Ju<|Ja1<|Jw<|Ja2 (l:=[.cell 2 154]) V165 (bL R f29 I154 Z154 R R) R ?_
 cases h
 exact⟨(λb=>ren [(3,2)]<|K23 b),af,ab,none,0,R,((hE.stp (T4 S3 S8 S24 S28) R R).map (ren [(3,2)]) R R),((f25.stp S28 R R).map (ren [(3,2)]) R R),Ow.nil⟩
 refine JT λh=>Jx R<|Je [1,2,1] R<|Jn1 (κ:=K7) (E:=E6) 3 [] (parts:=[(0,.const (vi 1))]) (cells:=[vi 1]) (xs:=([1]:List Int)) R R R R R R Y29 bG R R R R R R R R R R ⟨[vi 1],[],Zl K7 w6 [],Zl K7 w6 [],R,Zl.sp (l1:=[]) (l2:=[]) R,Zl.sr (l1:=[]) (l2:=[]),R,R⟩ λa7 u7 w11 K12 S13 f14=>Tv<|Jf R (bJ (parts:=[(0,.tmp 7)]) (cells:=[.slice a7 ([1]:List Int).length u7,.slice none 0 0]) R R (by kernel_rfl))<|Jj1 (κ:=K12) 2 (vc:=[.slice a7 ([1]:List Int).length u7,.slice none 0 0]) R R R R R R R Z154 R R (f4.stp (S8.tr S13) R R) R λw16 S17 f18=>Tv<|Jd<|Ju<|Ja1<|Jw<|Ja2 (l:=[.cell 2 154]) V165 (bL R f18 I154 Z154 R R) R ?_
 cases h
 exact⟨(λb=>ren [(3,2)]<|K12 b),a7,u7,none,0,R,((hE.stp (T4 S3 S8 S13 S17) R R).map (ren [(3,2)]) R R),((f14.stp S17 R R).map (ren [(3,2)]) R R),Ow.nil⟩
theorem px {p0:Int}  {r:Int}(h:iO p0=some r):Ret Tryz.prog 166 [vi p0] w (Pvi κ w r):=by
 unfold iO at h
 refine Jk3 κ F166 R N166 R λhE=>Je3 R<|Jq<|Je3 R<|Jv<|Je3 R ?_
 revert h
 cases ht1:(p0==2)
 refine JF λh=>Jy R<|Je3 R ?_
 revert h
 cases ht2:(p0==7)
 refine JF λh=>Jy R<|Js<|Jz<|Jp<|Je3 R<|Ju<|Ja2 (l:=[.tmp 2]) V166 (Jp2 R R) R ?_
 cases h
 exact⟨κ,R,hE⟩
 refine JT λh=>Jx R<|Je3 R<|Ju<|Ja1<|Jw<|Ja2 (l:=[.tmp 2]) V166 (Jp2 R R) R ?_
 cases h
 exact⟨κ,R,hE⟩
 refine JT λh=>Jx R<|Je3 R<|Ju<|Ja1<|Jw<|Ja2 (l:=[.tmp 2]) V166 (Jp2 R R) R ?_
 cases h
 exact⟨κ,R,hE⟩
theorem la {p0:Int}{p1:Int}  {r:Int}(h:jp p0 p1=some r):Ret Tryz.prog 159 [vi p0,vi p1] w (Pvi κ w r):=by
 unfold jp at h
 refine Jk3 κ F159 R N159 R λhE=>Je3 R<|Jq<|Je3 R ?_
 revert h
 cases ht1:decide (p1<p0)
 refine JF λh=>Jy R<|Js<|Jp<|Je3 R<|Ju<|Ja2 (l:=[.tmp 4]) V159 (Jp2 R R) R ?_
 cases h
 exact⟨κ,R,hE⟩
 refine JT λh=>Jx R<|Je3 R<|Ju<|Jw<|Ja2 (l:=[.tmp 4]) V159 (Jp2 R R) R ?_
 cases h
 exact⟨κ,R,hE⟩
theorem sM {p0:Int}  {r:(List Bool)}(h:mX p0=some r):Ret Tryz.prog 214 [vi p0] w (Pvs Ep.bool 4 κ w r):=by
 unfold mX at h
 refine Jk3 κ F214 R N214 R λhE=>Je3 R<|Jg3 [2,1,2] 1 R<|Ob h λx6 hx6 h=>Jl1 (κ:=κ) (E:=Ep.bool) (z:=(false:Bool)) 2 R R R R R R R Y193 cX R R R R R (λ_ _ _=>R) (Ju2 hx6) λa6 u6 w1 K2 S3 f4=>Tv<|Jb 1 R<|Jq<|Je3 R<|Ob h λ_ hr5 h=>?_
 have hN5:=iw hr5
 refine Ob h λq2 hq7 hK6=>?_
 clear h
 refine Jx1 (λL w'=>∃κ',∃s3:(List Bool),L=[(3,.slice a6 x6.length u6)]/\Stp [2] K2 w1 κ' w'/\Oc Ep.bool 4 κ' w' 2 a6 u6 s3/\x6.length=s3.length/\q2=xe s3) ?_ ?_
 refine Jv<|Jy1 (λk L w'=>∃κ' v4,∃s1:(List Bool),L=[(0,vi p0),(3,.slice a6 x6.length u6),(4,vi v4)]/\Stp [2] K2 w1 κ' w'/\Oc Ep.bool 4 κ' w' 2 a6 u6 s1/\x6.length=s1.length/\0<=v4/\xh (p0-v4)=k/\cntM jC k v4 s1=some q2) ⟨_,_,⟨K2,0,x6,R,Jj3,f4,R,(by decide),(by simp),hq7⟩,(KM R)⟩ ?_
 rintro k _ w13 ⟨K14,v4,s1,rfl,S15,f16,hn17,hj5,hJ5,h⟩
 rcases k with _ | k
 have hk18:=h;obtain⟨o5,h⟩:=bP (xe (xf s1):(List Bool)⊕(((List Bool))⊕((List Bool))))
 have hc5:decide (v4<p0)=false:=Jo2 (by omega)
 refine Jq<|Je3 R<|Jw2 R hc5<|Jc1<|Jt<|Jt ?_
 cases h
 have h:=hk18
 refine Jb1 ?_
 cases h
 exact Jw1 _ ⟨K14,s1,R,S15.wk R,f16,hn17,R⟩<|KM R
 obtain⟨o5,h,hk18⟩:=BI h;unfold jC at h
 have hc5:decide (v4<p0)=true:=Jn2 (by omega)
 refine Jq<|Je3 R<|Jv2 R hc5<|Js<|Jp<|Jq<|Jv<|Jh3 [2,2,2,1] 2 R<|Ob h λx14 hx14 h=>Jf R (Jf2 f16.rdc hx14 U193 Z4 R R hn17 R)<|Ob h λy181 hy181 h=>Jk1 (κ:=K14) (E:=Ep.bool) 2 [] R R R R R R R R Z4 R R R R f16 hy181 λw19 K20 S21 f22=>Tv<|?_
 have hn23:x6.length=y181.length:=hn17.trans (Jt2 hy181).2.2.2.symm
 refine Jo<|Jz<|Jp<|Jf3 R ?_
 have hw5:t0 .i64 (v4+1)=v4+1:=wr1 hj5 (Jm2 hc5) hN5
 rw[hw5]
 have hc5:=Jm2 hc5
 cases h
 exact Jz1 λa ha=>⟨k,_,Ja3 _,⟨K20,v4+1,y181,R,(S15.tr S21).wk R,f22,hn23,by omega,by omega,hk18⟩,(ha.mm R)⟩
 rintro _ w8 ⟨K9,s3,rfl,S10,f11,hn12,rfl⟩
 have h:=yI hK6
 refine Jp<|Je3 R<|Ju<|Ja2 (l:=[.tmp 2]) V214 (Jp2 R R) R ?_
 cases h
 exact⟨K9,a6,u6,(by simp only[hn12]),(hE.stp (S3.tr S10) R R),f11⟩
theorem od {aa ak aj ah ad af ai ab ae ac}{p0:l7Game}{p1:Int}{p2:Int}(g0_0:Rd (Rp.int .i64) κ w 0 aa ak p0.owner) (g0_1:Rd (Rp.int .i64) κ w 0 aj ah p0.prio) (g0_2:Rd (Rp.sl (Rp.int .i64)) κ w 0 ad af p0.next) (g0_3:Rd (Rp.sl (Rp.int .i64)) κ w 0 ai ab p0.prev) (g0_4:Rd (Rp.int .i64) κ w 0 ae ac p0.pick){r:Bool}(h:kB p0 p1 p2=some r):Ret Tryz.prog 251 [.agg #[.slice aa p0.owner.length ak,.slice aj p0.prio.length ah,.slice ad p0.next.length af,.slice ai p0.prev.length ab,.slice ae p0.pick.length ac],vi p1,vi p2] w (Pvb κ w r):=by
 unfold kB at h
 refine Jk3 κ F251 R N251 R λhE=>Je [1,2] R<|Jf1 (κ:=κ) 2 R R R R R R R λb3 w1 K2 S3 f4=>Tv<|Jb 1 R<|Je [2,1,2,2,1,2,2,2,1,2,2,1,2,2,2,2] R<|Jd3 R U191 R Z29<|Jb3 R I29 (f4.ld 4 R R)<|Jn 1 R<|Ob h λx10 hx10 h=>Jc3 R g0_4 hx10 U29 Z2 ?_
 have f5:=g0_4.stp S3 R R
 refine Jb3 R I2 (f5.gInt hx10)<|Jn 2 R<|Ob h λp21 h hK6=>Ju1 [(7,2),(8,1),(9,2),(10,2),(11,1),(12,2),(13,2),(14,2)] [(15,2)] (λL w'=>L=[(6,.bool false),(21,.bool p21)]/\∃κ',Stp [] K2 w1 κ' w') tv ?_ ?_
 revert h
 cases ht7:decide (x10<0)
 refine JF λh=>Jd3 R U191 R Z29<|Jb3 R I29 (f4.ld 4 R R)<|Jn 1 R<|Ob h λx17 hx17 h=>Jc3 R f5 hx17 U29 Z2<|Jb3 R I2 (f5.gInt hx17)<|Jn 3 R ?_
 cases h
 exact Jv1 _ tv ⟨R,_,Jj3⟩<|KM R
 refine JT λh=>Jn 1 R<|Jd1 R R R R<|Jn 2 R<|Jd1 R R R R<|Jn 3 R ?_
 cases h
 exact Jv1 _ tv ⟨R,_,Jj3⟩<|KM R
 rintro _ w8 _ ⟨rfl,K9,S10⟩
 have h:=hK6
 refine Jb 1 R<|Ju<|Ja2 (l:=[.tmp 6]) V251 (Jp2 R R) R ?_
 cases h
 exact⟨K9,R,(hE.stp (S3.tr S10) R R)⟩
theorem oc {a0 u0}{p0:(List Bool)}{a1 u1}{p1:(List Bool)}(g0:Rd Rp.bool κ w 0 a0 u0 p0) (g1:Rd Rp.bool κ w 0 a1 u1 p1){r:(List Bool)}(h:kx p0 p1=some r):Ret Tryz.prog 241 [.slice a0 p0.length u0,.slice a1 p1.length u1] w (Pvs Ep.bool 4 κ w r):=by
 unfold kx at h
 refine Jk3 κ F241 R N241 R λhE=>Je3 R<|Jg3 [2,2,1,2] 1 R<|Jn3 R U193 R R<|Ob h λx9 hx9 h=>Jl1 (κ:=κ) (E:=Ep.bool) (z:=(false:Bool)) 2 R R R R R R R Y193 cX R R R R R (λ_ _ _=>R) (Ju2 hx9) λa9 u9 w1 K2 S3 f4=>Tv<|Jb 1 R<|Jq<|Je3 R ?_
 have hN5:(p0.length:Int)<=9223372036854775807:=g0.len_le
 refine Ob h λq2 hq7 hK6=>?_
 clear h
 refine Jx1 (λL w'=>∃κ',∃s3:(List Bool),L=[(5,.slice a9 x9.length u9)]/\Stp [2] K2 w1 κ' w'/\Oc Ep.bool 4 κ' w' 2 a9 u9 s3/\x9.length=s3.length/\q2=xe s3) ?_ ?_
 refine Jv<|Jy1 (λk L w'=>∃κ' v6,∃s1:(List Bool),L=[(0,.slice a0 p0.length u0),(1,.slice a1 p1.length u1),(5,.slice a9 x9.length u9),(6,vi v6)]/\Stp [2] K2 w1 κ' w'/\Oc Ep.bool 4 κ' w' 2 a9 u9 s1/\x9.length=s1.length/\0<=v6/\xh ((p0.length:Int)-v6)=k/\cntM (jb p0 p1) k v6 s1=some q2) ⟨_,_,⟨K2,0,x9,R,Jj3,f4,R,(by decide),(by simp),hq7⟩,(KM R)⟩ ?_
 rintro k _ w13 ⟨K14,v6,s1,rfl,S15,f16,hn17,hj5,hJ5,h⟩
 rcases k with _ | k
 have hk18:=h;obtain⟨o5,h⟩:=bP (xe (xf s1):(List Bool)⊕(((List Bool))⊕((List Bool))))
 have hc5:decide (v6<(p0.length:Int))=false:=Jo2 (by omega)
 refine Jq<|Jg3 [2,2,2,2] 2 R<|Jn3 R U193 R R<|Jb 1 R<|Jw2 R hc5<|Jc1<|Jt<|Jt ?_
 cases h
 have h:=hk18
 refine Jb1 ?_
 cases h
 exact Jw1 _ ⟨K14,s1,R,S15.wk R,f16,hn17,R⟩<|KM R
 obtain⟨o5,h,hk18⟩:=BI h;unfold jb at h
 have hc5:decide (v6<(p0.length:Int))=true:=Jn2 (by omega)
 refine Jq<|Jg3 [2,2,2,2] 2 R<|Jn3 R U193 R R<|Jb 1 R<|Jv2 R hc5<|Js<|Jp<|Jq<|Jv<|Jh3 [2,2,2,2,2,1,2,2,2,2,1,2,2,2,1] 4 R<|Ob h λx20 hx20 h=>Jc3 R g0 hx20 U193 Z4<|Jb3 R I4 ((g0.stp (S3.tr S15) R R).gBool hx20)<|Jn 1 R<|Ob h λp28 h hK20=>Ju1 [(7,2),(8,2),(9,2),(10,1),(11,2),(12,2)] [(13,2),(14,1)] (λL w'=>L=[(0,.slice a0 p0.length u0),(1,.slice a1 p1.length u1),(5,.slice a9 x9.length u9),(6,vi v6),(16,.slice a9 x9.length u9),(17,vi v6),(28,.bool p28)]/\∃κ',Stp [] K14 w13 κ' w') tv ?_ ?_
 revert h
 cases ht21:x20
 refine JF λh=>Jn 3 R<|Jd1 R R R R<|Jn 2 R ?_
 cases h
 exact Jv1 _ tv ⟨R,_,Jj3⟩<|KM R
 refine JT λh=>Jn 2 R<|Ob h λx25 hx25 h=>Jc3 R g1 hx25 U193 Z4<|Jb3 R I4 ((g1.stp (S3.tr S15) R R).gBool hx25)<|Jn 2 R ?_
 cases h
 exact Jv1 _ tv ⟨R,_,Jj3⟩<|KM R
 rintro _ w23 _ ⟨rfl,K24,S25⟩
 have h:=hK20
 refine Ob h λx29 hx29 h=>Jf R (Jf2 f16.rdc hx29 U193 Z4 R R hn17 R)<|Ob h λy203 hy203 h=>Jk1 (κ:=K24) (E:=Ep.bool) 2 [] R R R R R R R R Z4 R R R R (f16.stp S25 R R) hy203 λw27 K28 S29 f30=>Tv<|?_
 have hn31:x9.length=y203.length:=hn17.trans (Jt2 hy203).2.2.2.symm
 refine Jo<|Jz<|Jp<|Jf3 R ?_
 have hw5:t0 .i64 (v6+1)=v6+1:=wr1 hj5 (Jm2 hc5) hN5
 rw[hw5]
 have hc5:=Jm2 hc5
 cases h
 exact Jz1 λa ha=>⟨k,_,Ja3 _,⟨K28,v6+1,y203,R,(T3 S15 S25 S29).wk R,f30,hn31,by omega,by omega,hk18⟩,(ha.mm R)⟩
 rintro _ w8 ⟨K9,s3,rfl,S10,f11,hn12,rfl⟩
 have h:=yI hK6
 refine Jp<|Je3 R<|Ju<|Ja2 (l:=[.tmp 4]) V241 (Jp2 R R) R ?_
 cases h
 exact⟨K9,a9,u9,(by simp only[hn12]),(hE.stp (S3.tr S10) R R),f11⟩
theorem rO {a0 u0}{p0:(List Int)}{a1 u1}{p1:(List Int)}(g0:Rd (Rp.int .i64) κ w 0 a0 u0 p0) (g1:Rd (Rp.int .i64) κ w 0 a1 u1 p1){r:Bool}(h:l9 p0 p1=some r):Ret Tryz.prog 212 [.slice a0 p0.length u0,.slice a1 p1.length u1] w (Pvb κ w r):=by
 unfold l9 at h
 refine Jk3 κ F212 R N212 R λhE=>Je3 R<|Jq<|Jg3 [2,2,2,2,2] 1 R<|Jn3 R U29 R R<|Jn 1 R<|Jn3 R U29 R R<|Jb 1 R ?_
 revert h
 cases ht1:((p0.length:Int) !=(p1.length:Int))
 refine JF λh=>Jy R<|Js<|Jp<|Jq<|Je3 R ?_
 have hN2:(p0.length:Int)<=9223372036854775807:=g0.len_le
 refine Ob h λq2 hq4 hK3=>?_
 clear h
 refine Jx1 (λL w'=>∃κ',L=[]/\Stp [] κ w κ' w'/\q2=xe ()) ?_ ?_
 refine Jv<|Jy1 (λk L w'=>∃κ' v5,L=[(0,.slice a0 p0.length u0),(1,.slice a1 p1.length u1),(5,vi v5)]/\Stp [] κ w κ' w'/\0<=v5/\xh ((p0.length:Int)-v5)=k/\cntM (iY p0 p1) k v5 ()=some q2) ⟨_,_,⟨κ,0,R,Jj3,(by decide),(by simp),hq4⟩,(KM R)⟩ ?_
 rintro k _ w8 ⟨K9,v5,rfl,S10,hj2,hJ2,h⟩
 rcases k with _ | k
 have hk11:=h;obtain⟨o2,h⟩:=bP (xe (xf ()):Bool⊕((Unit)⊕(Unit)))
 have hc2:decide (v5<(p0.length:Int))=false:=Jo2 (by omega)
 refine Jq<|Jg3 [2,2,2,2] 2 R<|Jn3 R U29 R R<|Jb 1 R<|Jw2 R hc2<|Jc1<|Jt<|Jt ?_
 cases h
 have h:=hk11
 refine Jb1 ?_
 cases h
 exact Jw1 _ ⟨K9,R,S10.wk R,R⟩ KN
 obtain⟨o2,h,hk11⟩:=BI h;unfold iY at h
 have hc2:decide (v5<(p0.length:Int))=true:=Jn2 (by omega)
 refine Jq<|Jg3 [2,2,2,2] 2 R<|Jn3 R U29 R R<|Jb 1 R<|Jv2 R hc2<|Js<|Jp<|Jq<|Jv<|Jq<|Js1 (κ:=K9) [0] none [(0,2),(1,2),(2,2),(4,2),(5,2),(6,2),(3,0),(7,0),(8,2)] [] (by kernel_rfl) (by kernel_rfl) λw13 S12=>Jn 2 R<|Ob h λx19 hx19 h=>Jc3 R g0 hx19 U29 Z2<|Jn 2 R<|Ob h λx23 hx23 h=>Jc3 R g1 hx23 U29 Z2<|Jg R (Jc2 I2 R R<|hvC ((g0.stp (S10.tr S12) R R).gInt hx19) R)<|Jg R (Jc2 I2 R R<|hvC ((g1.stp (S10.tr S12) R R).gInt hx23) R)<|Jn 1 R<|Jt1<|Jd ?_
 revert h
 cases ht16:(x19 !=x23)
 refine JF λh=>Jy R<|Js<|Jz<|Jp<|Jf3 R ?_
 have hw2:t0 .i64 (v5+1)=v5+1:=wr1 hj2 (Jm2 hc2) hN2
 rw[hw2]
 have hc2:=Jm2 hc2
 cases h
 exact Jz1 λa ha=>⟨k,_,Ja3 _,⟨K9,v5+1,R,(S10.tr S12).wk R,by omega,by omega,hk11⟩,(ha.mm R)⟩
 refine JT λh=>Jx R<|Je3 R<|Ju<|Ja1<|Jw<|Jw ?_
 cases h
 obtain rfl:=Option.some.inj hk11
 have h:=yL hK3
 refine Ja1<|Jq2<|Jw<|Ja2 (l:=[.tmp 4]) V212 (Jp2 R R) R ?_
 cases h
 exact⟨K9,R,(hE.stp (S10.tr S12) R R)⟩
 rintro _ w5 ⟨K6,rfl,S7,rfl⟩
 have h:=yI hK3
 refine Jp<|Je3 R<|Ju<|Ja2 (l:=[.tmp 4]) V212 (Jp2 R R) R ?_
 cases h
 exact⟨K6,R,(hE.stp S7 R R)⟩
 refine JT λh=>Jx R<|Je3 R<|Ju<|Jw<|Ja2 (l:=[.tmp 4]) V212 (Jp2 R R) R ?_
 cases h
 exact⟨κ,R,hE⟩
theorem td {aa ad ae ab af ac}{p0:Parity}{a1 u1}{p1:(List Place)}{p2:Int}{p3:Int}(g0_0_0:Rd (Rp.int .i64) κ w 0 aa ad p0.Arena.Owner) (g0_0_1:Rd (Rp.sl (Rp.int .i64)) κ w 0 ae ab p0.Arena.Next) (g0_1:Rd (Rp.int .i64) κ w 0 af ac p0.Prio) (g1:Rd Place.rp κ w 0 a1 u1 p1){r:Int}(h:nv p0 p1 p2 p3=some r):Ret Tryz.prog 144 [.agg #[.slice aa p0.Arena.Owner.length ad,.slice ae p0.Arena.Next.length ab,.slice af p0.Prio.length ac],.slice a1 p1.length u1,vi p2,vi p3] w (Pvi κ w r):=by
 unfold nv at h
 refine Jk3 κ F144 R N144 R λhE=>Je [1,2] R<|Jf1 (κ:=κ) 2 R R R R R R R λb4 w1 K2 S3 f4=>Tv<|Jb 1 R<|Jq<|Je3 R<|Ob h λq2 hq7 hK6=>?_
 clear h
 refine Jx1 (λL w'=>∃κ' s3,L=[]/\Stp [] K2 w1 κ' w'/\q2=xe s3) ?_ ?_
 refine Jv<|Jy1 (λk L w'=>∃κ' s1,L=[(1,.slice a1 p1.length u1),(2,vi p2),(3,vi p3),(4,.pointer (some ⟨b4,0,none⟩)),(9,vi s1)]/\Stp [] K2 w1 κ' w'/\bZ (jV p0 p1 p2 p3) k s1=some q2) ⟨_,_,⟨K2,(0:Int),R,Jj3,hq7⟩,(KM R)⟩ ?_
 rintro k _ w11 ⟨K12,s1,rfl,S13,h⟩
 rcases k with _ | k
 cases h
 obtain⟨o5,h,hk14⟩:=BI h;unfold jV at h
 refine Jq<|Jg3 [2,2,2,1,2,2,1,2,2] 1 R<|Jd3 R U108 R Z104<|Jd3 R U104 R Z26 ?_
 have f15:=f4.stp S13 R R
 refine Jb3 R I26 (f15.ld 1 R R)<|Jn 1 R<|Ob h λx16 hx16 h=>Jc3 R g0_0_1 hx16 U26 Z29 ?_
 have f16:=g0_0_1.stp (S3.tr S13) R R
 obtain⟨ax16,ux16,f17,hl18⟩:=f16.gSl hx16
 refine Jb3 R I29 hl18<|Jn3 R U29 R R<|Jb 1 R ?_
 revert h
 cases ht19:decide (s1<(x16.length:Int))
 refine JF λh=>Jy R<|Jc1<|Jt<|Jt ?_
 cases h
 have h:=hk14
 refine Jb1 ?_
 cases h
 exact Jw1 _ ⟨K12,s1,R,S13.wk R,R⟩ KN
 refine JT λh=>Jx R<|Js<|Jp<|Jq<|Jv<|Je [2,2,1,2,2,1,2,2,1,2] R<|Jd3 R U108 R Z104<|Jd3 R U104 R Z26<|Jb3 R I26 (f15.ld 1 R R)<|Jn 1 R<|Ob h λx26 hx26 h=>Jc3 R f16 hx26 U26 Z29 ?_
 obtain⟨ax26,ux26,f20,hl21⟩:=f16.gSl hx26
 refine Jb3 R I29 hl21<|Jn 1 R<|Ob h λx29 hx29 h=>Jc3 R f20 hx29 U29 Z2<|Jb3 R I2 (f20.gInt hx29)<|Jb 1 R<|Jg3 [2,2,2,2,1,2,2] 2 R<|Ob h λx33 hx33 h=>Jc3 R g1 hx33 U109 Z116<|Jd3 R U116 R Z2 ?_
 obtain⟨cse23,hre23,hle23⟩:=((g1.stp (S3.tr S13) R R)).gSt hx33
 obtain⟨ae23_0,ue23_0,rfl,fe23_0⟩:=Place.un hre23
 refine Jb3 R I2 (λw' hw'=>hle23 w' hw' 0 _ R)<|Jb 2 R ?_
 revert h
 cases ht24:(x33.At==p3)
 refine JF λh=>Jy R<|Js<|Jz<|Jp<|Jf3 R ?_
 cases h
 exact Jz1 λa ha=>⟨k,_,Ja3 _,⟨K12,((IntKind.i64.wrap<|s1+1):Int),R,S13.wk R,hk14⟩,(ha.mm R)⟩
 refine JT λh=>Jx R<|Je3 R<|Ju<|Ja1<|Jw<|Jw ?_
 cases h
 obtain rfl:=Option.some.inj hk14
 have h:=yL hK6
 refine Ja1<|Jq2<|Jw<|Ja2 (l:=[.tmp 8]) V144 (Jp2 R R) R ?_
 cases h
 exact⟨K12,R,(hE.stp (S3.tr S13) R R)⟩
 rintro _ w8 ⟨K9,s3,rfl,S10,rfl⟩
 have h:=yI hK6
 refine Jp<|Je3 R<|Ju<|Ja2 (l:=[.tmp 8]) V144 (Jp2 R R) R ?_
 cases h
 exact⟨K9,R,(hE.stp (S3.tr S10) R R)⟩
theorem nh {a0 u0}{p0:(List Int)}{p1:Int}(g0:Rd (Rp.int .i64) κ w 0 a0 u0 p0){r:Int}(h:jw p0 p1=some r):Ret Tryz.prog 75 [.slice a0 p0.length u0,vi p1] w (Pvi κ w r):=by
 unfold jw at h
 refine Jk3 κ F75 R N75 R λhE=>Je3 R<|Jq<|Je3 R ?_
 have hN1:(p0.length:Int)<=9223372036854775807:=g0.len_le
 refine Ob h λq2 hq3 hK2=>?_
 clear h
 refine Jx1 (λL w'=>∃κ',L=[]/\Stp [] κ w κ' w'/\q2=xe ()) ?_ ?_
 refine Jv<|Jy1 (λk L w'=>∃κ' v5,L=[(0,.slice a0 p0.length u0),(1,vi p1),(5,vi v5)]/\Stp [] κ w κ' w'/\0<=v5/\xh ((p0.length:Int)-v5)=k/\cntM (gW p0 p1) k v5 ()=some q2) ⟨_,_,⟨κ,0,R,Jj3,(by decide),(by simp),hq3⟩,(KM R)⟩ ?_
 rintro k _ w7 ⟨K8,v5,rfl,S9,hj1,hJ1,h⟩
 rcases k with _ | k
 have hk10:=h;obtain⟨o1,h⟩:=bP (xe (xf ()):Int⊕((Unit)⊕(Unit)))
 have hc1:decide (v5<(p0.length:Int))=false:=Jo2 (by omega)
 refine Jq<|Jg3 [2,2,2,2] 2 R<|Jn3 R U29 R R<|Jb 1 R<|Jw2 R hc1<|Jc1<|Jt<|Jt ?_
 cases h
 have h:=hk10
 refine Jb1 ?_
 cases h
 exact Jw1 _ ⟨K8,R,S9.wk R,R⟩ KN
 obtain⟨o1,h,hk10⟩:=BI h;unfold gW at h
 have hc1:decide (v5<(p0.length:Int))=true:=Jn2 (by omega)
 refine Jq<|Jg3 [2,2,2,2] 2 R<|Jn3 R U29 R R<|Jb 1 R<|Jv2 R hc1<|Js<|Jp<|Jq<|Jv<|Jg3 [2,2,2,1,2,2] 2 R<|Ob h λx14 hx14 h=>Jc3 R g0 hx14 U29 Z2<|Jb3 R I2 ((g0.stp S9 R R).gInt hx14)<|Jb 2 R ?_
 revert h
 cases ht12:(x14==p1)
 refine JF λh=>Jy R<|Js<|Jz<|Jp<|Jf3 R ?_
 have hw1:t0 .i64 (v5+1)=v5+1:=wr1 hj1 (Jm2 hc1) hN1
 rw[hw1]
 have hc1:=Jm2 hc1
 cases h
 exact Jz1 λa ha=>⟨k,_,Ja3 _,⟨K8,v5+1,R,S9.wk R,by omega,by omega,hk10⟩,(ha.mm R)⟩
 refine JT λh=>Jx R<|Je3 R<|Ju<|Ja1<|Jw<|Jw ?_
 cases h
 obtain rfl:=Option.some.inj hk10
 have h:=yL hK2
 refine Ja1<|Jq2<|Jw<|Ja2 (l:=[.tmp 4]) V75 (Jp2 R R) R ?_
 cases h
 exact⟨K8,R,(hE.stp S9 R R)⟩
 rintro _ w4 ⟨K5,rfl,S6,rfl⟩
 have h:=yI hK2
 refine Jp<|Je3 R<|Ju<|Ja2 (l:=[.tmp 4]) V75 (Jp2 R R) R ?_
 cases h
 exact⟨K5,R,(hE.stp S6 R R)⟩
theorem ka {a0 u0}{p0:(List Int)}{p1:Int}(g0:Rd (Rp.int .i64) κ w 0 a0 u0 p0){r:Bool}(h:jn p0 p1=some r):Ret Tryz.prog 217 [.slice a0 p0.length u0,vi p1] w (Pvb κ w r):=by
 unfold jn at h
 refine Jk3 κ F217 R N217 R λhE=>Je3 R<|Jq<|Jg3 [2,2,2] 1 R<|Jn3 R U29 R R<|Jb 1 R ?_
 have hN1:(p0.length:Int)<=9223372036854775807:=g0.len_le
 refine Ob h λq2 hq3 hK2=>?_
 clear h
 refine Jx1 (λL w'=>∃κ',L=[]/\Stp [] κ w κ' w'/\q2=xe ()) ?_ ?_
 refine Jv<|Jy1 (λk L w'=>∃κ' v9,L=[(0,.slice a0 p0.length u0),(1,vi p1),(7,.slice a0 p0.length u0),(8,vi (p0.length:Int)),(9,vi v9)]/\Stp [] κ w κ' w'/\0<=v9/\xh ((p0.length:Int)-v9)=k/\cntM (jZ p0 p1) k v9 ()=some q2) ⟨_,_,⟨κ,0,R,Jj3,(by decide),(by simp),hq3⟩,(KM R)⟩ ?_
 rintro k _ w7 ⟨K8,v9,rfl,S9,hj1,hJ1,h⟩
 rcases k with _ | k
 have hk10:=h;obtain⟨o1,h⟩:=bP (xe (xf ()):Bool⊕((Unit)⊕(Unit)))
 have hc1:decide (v9<(p0.length:Int))=false:=Jo2 (by omega)
 refine Je3 R<|Jq<|Jw2 R hc1<|Jc1<|Jt<|Jt ?_
 cases h
 have h:=hk10
 refine Jb1 ?_
 cases h
 exact Jw1 _ ⟨K8,R,S9.wk R,R⟩ KN
 obtain⟨o1,h,hk10⟩:=BI h;unfold jZ at h
 have hc1:decide (v9<(p0.length:Int))=true:=Jn2 (by omega)
 refine Je3 R<|Jq<|Jv2 R hc1<|Js<|Jp<|Jq<|Jv<|Jg3 [2,2,1,2,2] 1 R<|Ob h λx12 hx12 h=>Jc3 R g0 hx12 U29 Z2 ?_
 have f11:=g0.stp S9 R R
 refine Jb3 R I2 (f11.gInt hx12)<|Jb 2 R<|Jg3 [2,2,2,2,2,2,2,2,2,2,2,2,2,2,2,2,1,2,2,2] 3 R<|Ob h λp20 h hK12=>Ju1 [(3,2),(4,2),(5,2),(6,2)] [(7,2),(8,2),(9,2),(10,2),(11,2),(12,2),(13,2),(14,2),(15,2),(16,1),(17,2),(18,2),(19,2)] (λL w'=>L=[(0,.slice a0 p0.length u0),(1,vi p1),(5,vi v9),(6,vi x12),(7,.slice a0 p0.length u0),(8,vi (p0.length:Int)),(9,vi v9),(20,.bool p20)]/\∃κ',Stp [] K8 w7 κ' w') tv ?_ ?_
 revert h
 cases ht13:decide (x12<0)
 refine JF λh=>Jn 4 R ?_
 cases h
 exact Jv1 _ tv ⟨R,_,Jj3⟩<|KM R
 refine JT λh=>Jn 4 R ?_
 cases h
 exact Jv1 _ tv ⟨R,_,Jj3⟩<|KM R
 rintro _ w14 _ ⟨rfl,K15,S16⟩
 have h:=hK12
 refine Jn 1 R<|Ob h λp33 h hK17=>Ju1 [(8,2),(9,2),(10,2),(11,2),(12,2),(13,2),(14,2),(15,2),(16,1),(17,2),(18,2),(19,2)] [] (λL w'=>L=[(0,.slice a0 p0.length u0),(1,vi p1),(7,.slice a0 p0.length u0),(8,vi (p0.length:Int)),(9,vi v9),(33,.bool p33)]/\∃κ',Stp [] K15 w14 κ' w') tv ?_ ?_
 revert h
 cases ht18:p20
 refine JF λh=>Jn 3 R<|Ob h λp32 h hK19=>Ju1 [(11,2),(12,2),(13,2),(14,2),(15,2),(16,1),(17,2),(18,2)] [(19,2)] (λL w'=>L=[(0,.slice a0 p0.length u0),(1,vi p1),(7,.slice a0 p0.length u0),(8,vi (p0.length:Int)),(9,vi v9),(21,.bool false),(22,vi v9),(23,.bool (decide (0<v9))),(24,.bool (decide (0<v9))),(32,.bool p32)]/\∃κ',Stp [] K15 w14 κ' w') tv ?_ ?_
 revert h
 cases ht20:decide (0<v9)
 refine JF λh=>Jn 5 R<|Jd1 R R R R<|Jn 2 R ?_
 cases h
 exact Jv1 _ tv ⟨R,_,Jj3⟩<|KM R
 refine JT λh=>Jn 4 R<|Ob h λx29 hx29 h=>Jc3 R f11 hx29 U29 Z2<|Jb3 R I2 ((f11.stp S16 R R).gInt hx29)<|Jn 2 R ?_
 cases h
 exact Jv1 _ tv ⟨R,_,Jj3⟩<|KM R
 rintro _ w22 _ ⟨rfl,K23,S24⟩
 have h:=hK19
 refine Jn 1 R ?_
 cases h
 exact Jv1 _ tv ⟨R,_,S24.wk R⟩<|KM R
 refine JT λh=>Jn 8 R<|Jd1 R R R R<|Jn 3 R ?_
 cases h
 exact Jv1 _ tv ⟨R,_,Jj3⟩<|KM R
 rintro _ w25 _ ⟨rfl,K26,S27⟩
 have h:=hK17
 refine Jd ?_
 revert h
 cases ht28:p33
 refine JF λh=>Jy R<|Js<|Jz<|Jp<|Jf3 R ?_
 have hw1:t0 .i64 (v9+1)=v9+1:=wr1 hj1 (Jm2 hc1) hN1
 rw[hw1]
 have hc1:=Jm2 hc1
 cases h
 exact Jz1 λa ha=>⟨k,_,Ja3 _,⟨K26,v9+1,R,(T3 S9 S16 S27).wk R,by omega,by omega,hk10⟩,(ha.mm R)⟩
 refine JT λh=>Jx R<|Je3 R<|Ju<|Ja1<|Jw<|Jw ?_
 cases h
 obtain rfl:=Option.some.inj hk10
 have h:=yL hK2
 refine Ja1<|Jq2<|Jw<|Ja2 (l:=[.tmp 4]) V217 (Jp2 R R) R ?_
 cases h
 exact⟨K26,R,(hE.stp (T3 S9 S16 S27) R R)⟩
 rintro _ w4 ⟨K5,rfl,S6,rfl⟩
 have h:=yI hK2
 refine Jp<|Je3 R<|Ju<|Ja2 (l:=[.tmp 4]) V217 (Jp2 R R) R ?_
 cases h
 exact⟨K5,R,(hE.stp S6 R R)⟩
theorem nH {p0:Int}{p1:Int}{p2:Bool}{p3:Bool}  {r:Int}(h:gg p0 p1 p2 p3=some r):Ret Tryz.prog 182 [vi p0,vi p1,.bool p2,.bool p3] w (Pvi κ w r):=by
 unfold gg at h
 refine Jk3 κ F182 R N182 R λhE=>Je3 R<|Je3 R<|Jq<|Je3 R<|Ob h λq1 h hK1=>Jx1 (λL w'=>∃κ',L=[(0,vi p0),(1,vi p1),(3,.bool p3),(9,vi q1),(10,vi 0)]/\Stp [] κ w κ' w') ?_ ?_
 revert h
 cases ht5:p2
 refine JF λh=>Jy R<|Js ?_
 cases h
 exact Jw1 _ ⟨κ,R,Jj3⟩<|KM R
 refine JT λh=>Jx R<|Jf3 R ?_
 cases h
 exact Jw1 _ ⟨κ,R,Jj3⟩<|KM R
 rintro _ w2 ⟨K3,rfl,S4⟩
 have h:=hK1
 refine Jp<|Jq<|Je3 R<|Ob h λq2 h hK6=>Jx1 (λL w'=>∃κ',L=[(0,vi p0),(1,vi p1),(3,.bool q2.1),(9,vi q1),(10,vi q2.2)]/\Stp [] K3 w2 κ' w') ?_ ?_
 revert h
 cases ht10:p3
 refine JF λh=>Jy R<|Js ?_
 cases h
 exact Jw1 _ ⟨K3,R,Jj3⟩<|KM R
 refine JT λh=>Jx R<|Jf3 R ?_
 cases h
 exact Jw1 _ ⟨K3,R,Jj3⟩<|KM R
 rintro _ w7 ⟨K8,rfl,S9⟩
 have h:=hK6
 refine Jp<|Jq<|Je3 R<|Jv<|Je3 R ?_
 revert h
 cases ht11:(p0==1)
 refine JF λh=>Jy R<|Je3 R ?_
 revert h
 cases ht13:(p0==2)
 refine JF λh=>Jy R<|Je3 R ?_
 revert h
 cases ht27:(p0==3)
 refine JF λh=>Jy R<|Je3 R ?_
 revert h
 cases ht31:(p0==4)
 refine JF λh=>Jy R<|Je3 R ?_
 revert h
 cases ht33:(p0==5)
 refine JF λh=>Jy R<|Je3 R ?_
 revert h
 cases ht35:(p0==6)
 refine JF λh=>Jy R<|Js<|Jz<|Jp<|Je3 R<|Ju<|Ja2 (l:=[.tmp 8]) V182 (Jp2 R R) R ?_
 cases h
 exact⟨K8,R,(hE.stp (S4.tr S9) R R)⟩
 refine JT λh=>Jx R<|Jg3 [2,2,2,2] 2 R<|Jf R (rE R R R)<|Jb 1 R<|Ju<|Ja1<|Jw<|Ja2 (l:=[.tmp 8]) V182 (Jp2 R R) R ?_
 cases h
 exact⟨K8,R,(hE.stp (S4.tr S9) R R)⟩
 refine JT λh=>Jx R<|Je3 R<|Ju<|Ja1<|Jw<|Ja2 (l:=[.tmp 8]) V182 (Jp2 R R) R ?_
 cases h
 exact⟨K8,R,(hE.stp (S4.tr S9) R R)⟩
 refine JT λh=>Jx R<|Je3 R<|Ju<|Ja1<|Jw<|Ja2 (l:=[.tmp 8]) V182 (Jp2 R R) R ?_
 cases h
 exact⟨K8,R,(hE.stp (S4.tr S9) R R)⟩
 refine JT λh=>Jx R<|Jq<|Je3 R ?_
 revert h
 cases ht28:q2.1
 refine JF λh=>Jy R<|Js<|Jp<|Jg3 [2,2,2,2] 2 R<|Jf R (rE R R R)<|Jb 1 R<|Ju<|Ja1<|Jw<|Ja2 (l:=[.tmp 8]) V182 (Jp2 R R) R ?_
 cases h
 exact⟨K8,R,(hE.stp (S4.tr S9) R R)⟩
 refine JT λh=>Jx R<|Je3 R<|Ju<|Jw<|Ja1<|Jw<|Ja2 (l:=[.tmp 8]) V182 (Jp2 R R) R ?_
 cases h
 exact⟨K8,R,(hE.stp (S4.tr S9) R R)⟩
 refine JT λh=>Jx R<|Jq<|Jg3 [2,2,2,2,2,2,2,2,2,2] 3 R<|Ob h λp31 h hK14=>Ju1 [(3,2),(4,2),(5,2),(6,2),(7,2),(8,2),(9,2)] [] (λL w'=>L=[(9,vi q1),(31,.bool p31)]/\∃κ',Stp [] K8 w7 κ' w') tv ?_ ?_
 revert h
 cases ht15:(p1==2)
 refine JF λh=>Jn 3 R<|Ob h λp30 h hK16=>Ju1 [(6,2),(7,2),(8,2)] [(9,2)] (λL w'=>L=[(9,vi q1),(24,.bool false),(30,.bool p30)]/\∃κ',Stp [] K8 w7 κ' w') tv ?_ ?_
 revert h
 cases ht17:(p1==1)
 refine JF λh=>Jn 3 R ?_
 cases h
 exact Jv1 _ tv ⟨R,_,Jj3⟩<|KM R
 refine JT λh=>Jn 3 R ?_
 cases h
 exact Jv1 _ tv ⟨R,_,Jj3⟩<|KM R
 rintro _ w18 _ ⟨rfl,K19,S20⟩
 have h:=hK16
 refine Jn 1 R ?_
 cases h
 exact Jv1 _ tv ⟨R,_,S20.wk R⟩<|KM R
 refine JT λh=>Jn 7 R ?_
 cases h
 exact Jv1 _ tv ⟨R,_,Jj3⟩<|KM R
 rintro _ w21 _ ⟨rfl,K22,S23⟩
 have h:=hK14
 refine Jd ?_
 revert h
 cases ht24:p31
 refine JF λh=>Jy R<|Js<|Jp<|Je3 R<|Ju<|Ja1<|Jw<|Ja2 (l:=[.tmp 8]) V182 (Jp2 R R) R ?_
 cases h
 exact⟨K22,R,(hE.stp (T3 S4 S9 S23) R R)⟩
 refine JT λh=>Jx R<|Je3 R<|Ju<|Jw<|Ja1<|Jw<|Ja2 (l:=[.tmp 8]) V182 (Jp2 R R) R ?_
 cases h
 exact⟨K22,R,(hE.stp (T3 S4 S9 S23) R R)⟩
 refine JT λh=>Jx R<|Jg3 [2,2,2,2,2] 3 R<|Jf R (rE R R R)<|Jb 1 R<|Ju<|Ja1<|Jw<|Ja2 (l:=[.tmp 8]) V182 (Jp2 R R) R ?_
 cases h
 exact⟨K8,R,(hE.stp (S4.tr S9) R R)⟩
theorem ik {a0 u0}{p0:(List (Int×Int))}{p1:(Int×Int)}(g0:Rd (Rp.pair (Rp.int .i64) (Rp.int .i64)) κ w 0 a0 u0 p0){r:Int}(h:co p0 p1=some r):Ret Tryz.prog 181 [.slice a0 p0.length u0,.agg #[vi p1.1,vi p1.2]] w (Pvi κ w r):=by
 unfold co at h
 refine Jk3 κ F181 R N181 R λhE=>Je [1,2] R<|Jf1 (κ:=κ) 2 R R R R R R R λb3 w1 K2 S3 f4=>Tv<|Jb 1 R<|Jq<|Jg3 [2,2,2] 1 R<|Jn3 R U198 R R<|Jb 1 R ?_
 have hN5:(p0.length:Int)<=9223372036854775807:=g0.len_le
 refine Ob h λq2 hq7 hK6=>?_
 clear h
 refine Jx1 (λL w'=>∃κ',L=[]/\Stp [] K2 w1 κ' w'/\q2=xe ()) ?_ ?_
 refine Jv<|Jy1 (λk L w'=>∃κ' v8,L=[(0,.slice a0 p0.length u0),(3,.pointer (some ⟨b3,0,none⟩)),(7,vi (p0.length:Int)),(8,vi v8)]/\Stp [] K2 w1 κ' w'/\0<=v8/\xh ((p0.length:Int)-v8)=k/\cntM (ck p0 p1) k v8 ()=some q2) ⟨_,_,⟨K2,0,R,Jj3,(by decide),(by simp),hq7⟩,(KM R)⟩ ?_
 rintro k _ w11 ⟨K12,v8,rfl,S13,hj5,hJ5,h⟩
 rcases k with _ | k
 have hk14:=h;obtain⟨o5,h⟩:=bP (xe (xf ()):Int⊕((Unit)⊕(Unit)))
 have hc5:decide (v8<(p0.length:Int))=false:=Jo2 (by omega)
 refine Je3 R<|Jq<|Jw2 R hc5<|Jc1<|Jt<|Jt ?_
 cases h
 have h:=hk14
 refine Jb1 ?_
 cases h
 exact Jw1 _ ⟨K12,R,S13.wk R,R⟩ KN
 obtain⟨o5,h,hk14⟩:=BI h;unfold ck at h
 have hc5:decide (v8<(p0.length:Int))=true:=Jn2 (by omega)
 refine Je3 R<|Jq<|Jv2 R hc5<|Js<|Jp<|Jq<|Jv<|Je3 R<|Jq<|Js1 (κ:=K12) [0,2] none [(1,2),(2,2),(3,2),(0,0),(4,0),(5,2)] [] (by kernel_rfl) (by kernel_rfl) λw16 S15=>Jn 2 R<|Ob h λx14 hx14 h=>Jc3 R g0 hx14 U198 Z81<|Jg R (Jd2 (cs:=[vi p1.1,vi p1.2]) I81 Z81 R R R<|haC (f4.stp (S13.tr S15) R R).cells R) ?_
 obtain⟨cse19,hre19,hle19⟩:=((g0.stp (T3 S3 S13 S15) R R)).gSt hx14
 obtain⟨_,_,rfl,rfl,rfl⟩:=hre19
 refine Jg R (Jd2 (cs:=[vi x14.1,vi x14.2]) I81 Z81 R R R<|haC hle19 R)<|Jf R (uz U81 (by kernel_rfl) I2 U2 Z2 R R R)<|Jt1<|Jd ?_
 revert h
 cases ht20:((p1.1==x14.1)&&(p1.2==x14.2))
 refine JF λh=>Jy R<|Js<|Jz<|Jp<|Jf3 R ?_
 have hw5:t0 .i64 (v8+1)=v8+1:=wr1 hj5 (Jm2 hc5) hN5
 rw[hw5]
 have hc5:=Jm2 hc5
 cases h
 exact Jz1 λa ha=>⟨k,_,Ja3 _,⟨K12,v8+1,R,(S13.tr S15).wk R,by omega,by omega,hk14⟩,(ha.mm R)⟩
 refine JT λh=>Jx R<|Je3 R<|Ju<|Ja1<|Jw<|Jw ?_
 cases h
 obtain rfl:=Option.some.inj hk14
 have h:=yL hK6
 refine Ja1<|Jq2<|Jw<|Ja2 (l:=[.tmp 4]) V181 (Jp2 R R) R ?_
 cases h
 exact⟨K12,R,(hE.stp (T3 S3 S13 S15) R R)⟩
 rintro _ w8 ⟨K9,rfl,S10,rfl⟩
 have h:=yI hK6
 refine Jp<|Je3 R<|Ju<|Ja2 (l:=[.tmp 4]) V181 (Jp2 R R) R ?_
 cases h
 exact⟨K9,R,(hE.stp (S3.tr S10) R R)⟩
theorem gG {a0 u0}{p0:(List Int)}(g0:Oc E6 2 κ w 2 a0 u0 p0){r:(List Int)}(h:cr p0=some r):Ret Tryz.prog 133 [.slice a0 p0.length u0] w (λv w'=>∃(κ':Col),v= .tuple #[]/\Ent κ w κ' w'/\Oc E6 2 κ' w' 2 a0 u0 r/\p0.length=r.length):=by
  unfold cr at h
  split at h
  · rename_i hh
    cases h
    exact vC (λblk off cap zs w hH hb hz=>Tryz.slices_Sort_int blk off cap zs w hH hb hz) g0 hh.1 hh.2
  · split at h
    · rename_i hh
      cases h
      exact uI Tryz.slices_Sort_int_none g0 hh
    · cases h
theorem kd {a0 u0}{p0:(List Int)}(g0:Oc E6 2 κ w 2 a0 u0 p0){r:(List Int)}(h:cM p0=some r):Ret Tryz.prog 134 [.slice a0 p0.length u0] w (Pvs E6 2 κ w r):=by
  unfold cM at h
  split at h
  · rename_i hh
    cases h
    exact sL (λblk off cap zs w hH hz hc=>Tryz.slices_Compact_int blk off cap zs w hH hz hc) g0 hh.1 hh.2
  · cases h
theorem pT {ah ak aj ai}{p0:Pair}(g0_0:Rd (Rp.int .i64) κ w 0 ah ak p0.Ask) (g0_1:Rd (Rp.int .i64) κ w 0 aj ai p0.Give){r:Pair}(h:lw p0=some r):Ret Tryz.prog 135 [.agg #[.slice ah p0.Ask.length ak,.slice aj p0.Give.length ai]] w (λv w'=>∃(κ':Col) (ra0:Option Addr) (ru0:Nat) (ra1:Option Addr) (ru1:Nat),v= .agg #[.slice ra0 r.Ask.length ru0,.slice ra1 r.Give.length ru1]/\Ent κ w κ' w'/\Oc E6 2 κ' w' 2 ra0 ru0 r.Ask/\Oc E6 2 κ' w' 3 ra1 ru1 r.Give):=by
 unfold lw at h
 refine Jk3 κ F135 R N135 R λhE=>Je [1,1] R<|Jf1 (κ:=κ) 2 R R R R R R R λb1 w1 K2 S3 f4=>Tv<|Jg1 (κ:=K2) 3 R R R R R X154 R λb2 w5 K6 S7 f8=>Tv<|Jd<|Jq<|Ob h λx6 hx6 h=>Ob h λx10 hx10 h=>Jx1 (λL w'=>∃κ' af ad ae ac,L=[(2,.pointer (some ⟨b2,0,none⟩))]/\Stp [3,4,5] K6 w5 κ' w'/\Oc E6 2 κ' w' 4 af ad x6/\Oc E6 2 κ' w' 5 ae ac x10/\Bc κ' w' 3 b2 154 [.slice af x6.length ad,.slice ae x10.length ac]) ?_ ?_
 refine WC.rxt (κ:=K6) [2] none (by kernel_rfl) λw16 S17=>Jq1 (fuel:=6) [(1,2),(5,2),(2,0),(6,0)] (by kernel_rfl) (by kernel_rfl) R<|Jd3 R U154 R Z29<|Jd3 R U154 R Z29 ?_
 have f18:=f4.stp (S7.tr S17) R R
 refine Jg R (Jc2 I29 R R<|hvC (f18.ld 0 R R) R)<|Jg R (Jc2 I29 R R<|hvC (f18.ld 1 R R) R)<|Jp1<|WA.fork2 (fuel:=5) 0 4 (by kernel_rfl) R ?_ ?_
 refine Jo1 (κ:=K6) (E:=E6) 4 R R R R R Y29 bG R λa3 u3 w19 K20 S21 f22=>⟨(S21.cl R),Jp1<|WA.fork2 (fuel:=4) 3 4 (by kernel_rfl) R ?_ ?_⟩
 have S001:=(T4 S3 S7 S17 S21)
 exact Jm1 (κ:=K20) (E:=E6) 4 [] R R R R R R R R R Y29 bG R R R R f22 (Sl.srcP (bT _)<|g0_0.stp S001 R R) bK hx6 R λa6 u6 w24 K25 S26 f27=>⟨((S21.tr S26).cl R),Jp1<|Jq1 (fuel:=0) [(4,1),(7,1),(8,2),(9,1)] (by kernel_rfl) (by kernel_rfl) R<|Jo1 (κ:=K25) (E:=E6) 5 R R R R R Y29 bG R λa7 u7 w28 K29 S30 f31=>⟨((T3 S21 S26 S30).cl R),Jm1 (κ:=K29) (E:=E6) 5 [] R R R R R R R R R Y29 bG R R R R f31 (Sl.srcP (bT _)<|g0_1.stp (T3 S001 S26 S30) R R) bK hx10 R λab aa w33 K34 S35 f36=>⟨((T4 S21 S26 S30 S35).cl R),Jf R (bJ (parts:=[(0,.tmp 6),(1,.tmp 10)]) (cells:=[.slice a6 x6.length u6,.slice ab x10.length aa]) R R (by kernel_rfl))<|Jj1 (κ:=K34) 3 (vc:=[.slice a6 x6.length u6,.slice ab x10.length aa]) R R R R R R R Z154 R R (f8.stp (T5 S17 S21 S26 S30 S35) R R) R λw38 S39 f40=>⟨((T5 S21 S26 S30 S35 S39).cl R),Jp1<|Jr1 [] (by kernel_rfl) (by kernel_rfl) R<|Jo<|Jw1 _ ⟨K34,a6,u6,ab,aa,R,(T6 S17 S21 S26 S30 S35 S39).wk R,(f27.stp (T3 S30 S35 S39) R R),(f36.stp S39 R R),f40⟩<|KM R⟩⟩⟩⟩
 have S002:=(T4 S3 S7 S17 S21)
 exact Jo1 (κ:=K20) (E:=E6) 5 R R R R R Y29 bG R λa7 u7 w43 K44 S45 f46=>⟨((S21.tr S45).cl R),Jp1<|Jq1 (fuel:=0) [(3,1),(7,1),(8,2),(9,1)] (by kernel_rfl) (by kernel_rfl) R<|Jm1 (κ:=K44) (E:=E6) 4 [] R R R R R R R R R Y29 bG R R R R (f22.stp S45 R R) (Sl.srcP (bT _)<|g0_0.stp (S002.tr S45) R R) bK hx6 R λa6 u6 w49 K50 S51 f52=>⟨((T3 S21 S45 S51).cl R),Jm1 (κ:=K50) (E:=E6) 5 [] R R R R R R R R R Y29 bG R R R R (f46.stp S51 R R) (Sl.srcP (bT _)<|g0_1.stp (T3 S002 S45 S51) R R) bK hx10 R λab aa w55 K56 S57 f58=>⟨((T4 S21 S45 S51 S57).cl R),Jf R (bJ (parts:=[(0,.tmp 6),(1,.tmp 10)]) (cells:=[.slice a6 x6.length u6,.slice ab x10.length aa]) R R (by kernel_rfl))<|Jj1 (κ:=K56) 3 (vc:=[.slice a6 x6.length u6,.slice ab x10.length aa]) R R R R R R R Z154 R R (f8.stp (T5 S17 S21 S45 S51 S57) R R) R λw60 S61 f62=>⟨((T5 S21 S45 S51 S57 S61).cl R),Jp1<|Jr1 [] (by kernel_rfl) (by kernel_rfl) R<|Jo<|Jw1 _ ⟨K56,a6,u6,ab,aa,R,(T6 S17 S21 S45 S51 S57 S61).wk R,(f52.stp (S57.tr S61) R R),(f58.stp S61 R R),f62⟩<|KM R⟩⟩⟩⟩
 exact Jo1 (κ:=K6) (E:=E6) 4 R R R R R Y29 bG R λa7 u7 w65 K66 S67 f68=>⟨(S67.cl R),Jp1<|Jq1 (fuel:=0) [(0,1),(3,1),(7,1),(8,2),(9,1)] (by kernel_rfl) (by kernel_rfl) R<|Jo1 (κ:=K66) (E:=E6) 5 R R R R R Y29 bG R λa3 u3 w69 K70 S71 f72=>⟨((S67.tr S71).cl R),Jm1 (κ:=K70) (E:=E6) 5 [] R R R R R R R R R Y29 bG R R R R f72 (Sl.srcP (bT _)<|g0_0.stp (T5 S3 S7 S17 S67 S71) R R) bK hx6 R λa6 u6 w74 K75 S76 f77=>⟨((T3 S67 S71 S76).cl R),Jm1 (κ:=K75) (E:=E6) 4 [] R R R R R R R R R Y29 bG R R R R (f68.stp (S71.tr S76) R R) (Sl.srcP (bT _)<|g0_1.stp (T6 S3 S7 S17 S67 S71 S76) R R) bK hx10 R λab aa w80 K81 S82 f83=>⟨((T4 S67 S71 S76 S82).cl R),Jf R (bJ (parts:=[(0,.tmp 6),(1,.tmp 10)]) (cells:=[.slice a6 x6.length u6,.slice ab x10.length aa]) R R (by kernel_rfl))<|Jj1 (κ:=K81) 3 (vc:=[.slice a6 x6.length u6,.slice ab x10.length aa]) R R R R R R R Z154 R R (f8.stp (T5 S17 S67 S71 S76 S82) R R) R λw85 S86 f87=>⟨((T5 S67 S71 S76 S82 S86).cl R),Jp1<|Jr1 [] (by kernel_rfl) (by kernel_rfl) R<|Jo<|Jw1 _ ⟨(λb=>ren [(5,4),(4,5)]<|K81 b),a6,u6,ab,aa,R,(Jy2 ((T6 S17 S67 S71 S76 S82 S86).wk R) [(5,4),(4,5)] R),((f77.stp (S82.tr S86) R R).map (ren [(5,4),(4,5)]) R R),((f83.stp S86 R R).map (ren [(5,4),(4,5)]) R R),(f87.map (ren [(5,4),(4,5)]) R R)⟩<|KM R⟩⟩⟩⟩⟩
 rintro _ w9 ⟨K10,af,ad,ae,ac,rfl,S11,f13,f14,f15⟩
 refine Jp<|Ju<|Ja2 (l:=[.cell 2 154]) V135 (bL R f15 I154 Z154 R R) R ?_
 cases h
 exact⟨(λb=>ren [(4,2),(5,3)]<|K10 b),af,ad,ae,ac,R,((hE.stp (T3 S3 S7 S11) R R).map (ren [(4,2),(5,3)]) R R),(f13.map (ren [(4,2),(5,3)]) R R),(f14.map (ren [(4,2),(5,3)]) R R)⟩
theorem sF {ac af ae ad}{p0:Arena}{a1 u1}{p1:(List Int)}(g0_0:Rd (Rp.int .i64) κ w 0 ac af p0.Owner) (g0_1:Rd (Rp.sl (Rp.int .i64)) κ w 0 ae ad p0.Next) (g1:Rd (Rp.int .i64) κ w 0 a1 u1 p1){r:(List Bool)}(h:lU p0 p1=some r):Ret Tryz.prog 188 [.agg #[.slice ac p0.Owner.length af,.slice ae p0.Next.length ad],.slice a1 p1.length u1] w (Pvs Ep.bool 4 κ w r):=by
 unfold lU at h
 refine Jk3 κ F188 R N188 R λhE=>Je [1,2] R<|Jf1 (κ:=κ) 2 R R R R R R R λb2 w1 K2 S3 f4=>Tv<|Jb 1 R<|Je [2,1,2,1,2] R<|Jd3 R U104 R Z29<|Jb3 R I29 (f4.ld 0 R R)<|Jn3 R U29 R R<|Ob h λx11 hx11 h=>Jl1 (κ:=K2) (E:=Ep.bool) (z:=(false:Bool)) 3 R R R R R R R Y193 cX R R R R R (λ_ _ _=>R) (Ju2 hx11) λab aa w5 K6 S7 f8=>Tv<|Jb 1 R<|Jq<|Jg3 [2,2,2] 1 R<|Jn3 R U29 R R<|Jb 1 R ?_
 have hN9:(p1.length:Int)<=9223372036854775807:=g1.len_le
 refine Ob h λq2 hq11 hK10=>?_
 clear h
 refine Jx1 (λL w'=>∃κ',∃s3:(List Bool),L=[(5,.slice ab x11.length aa)]/\Stp [3] K6 w5 κ' w'/\Oc Ep.bool 4 κ' w' 3 ab aa s3/\x11.length=s3.length/\q2=xe s3) ?_ ?_
 refine Jv<|Jy1 (λk L w'=>∃κ' v14,∃s1:(List Bool),L=[(5,.slice ab x11.length aa),(12,.slice a1 p1.length u1),(13,vi (p1.length:Int)),(14,vi v14)]/\Stp [3] K6 w5 κ' w'/\Oc Ep.bool 4 κ' w' 3 ab aa s1/\x11.length=s1.length/\0<=v14/\xh ((p1.length:Int)-v14)=k/\cntM (iP p1) k v14 s1=some q2) ⟨_,_,⟨K6,0,x11,R,Jj3,f8,R,(by decide),(by simp),hq11⟩,(KM R)⟩ ?_
 rintro k _ w17 ⟨K18,v14,s1,rfl,S19,f20,hn21,hj9,hJ9,h⟩
 rcases k with _ | k
 have hk22:=h;obtain⟨o9,h⟩:=bP (xe (xf s1):(List Bool)⊕(((List Bool))⊕((List Bool))))
 have hc9:decide (v14<(p1.length:Int))=false:=Jo2 (by omega)
 refine Je3 R<|Jq<|Jw2 R hc9<|Jc1<|Jt<|Jt ?_
 cases h
 have h:=hk22
 refine Jb1 ?_
 cases h
 exact Jw1 _ ⟨K18,s1,R,S19.wk R,f20,hn21,R⟩<|KM R
 obtain⟨o9,h,hk22⟩:=BI h;unfold iP at h
 have hc9:decide (v14<(p1.length:Int))=true:=Jn2 (by omega)
 refine Je3 R<|Jq<|Jv2 R hc9<|Js<|Jp<|Jq<|Jv<|Je [2,1,2] R<|Ob h λx16 hx16 h=>Jc3 R g1 hx16 U29 Z2<|Jb3 R I2 ((g1.stp (T3 S3 S7 S19) R R).gInt hx16)<|Jb 1 R<|Jh3 [2,2,2,1] 2 R<|Ob h λx20 hx20 h=>Jf R (Jf2 f20.rdc hx20 U193 Z4 R R hn21 R)<|Ob h λy367 hy367 h=>Jk1 (κ:=K18) (E:=Ep.bool) 3 [] R R R R R R R R Z4 R R R R f20 hy367 λw24 K25 S26 f27=>Tv<|?_
 have hn28:x11.length=y367.length:=hn21.trans (Jt2 hy367).2.2.2.symm
 refine Jo<|Jz<|Jp<|Jf3 R ?_
 have hw9:t0 .i64 (v14+1)=v14+1:=wr1 hj9 (Jm2 hc9) hN9
 rw[hw9]
 have hc9:=Jm2 hc9
 cases h
 exact Jz1 λa ha=>⟨k,_,Ja3 _,⟨K25,v14+1,y367,R,(S19.tr S26).wk R,f27,hn28,by omega,by omega,hk22⟩,(ha.mm R)⟩
 rintro _ w12 ⟨K13,s3,rfl,S14,f15,hn16,rfl⟩
 have h:=yI hK10
 refine Jp<|Je3 R<|Ju<|Ja2 (l:=[.tmp 4]) V188 (Jp2 R R) R ?_
 cases h
 exact⟨(λb=>ren [(3,2)]<|K13 b),ab,aa,(by simp only[hn16]),((hE.stp (T3 S3 S7 S14) R R).map (ren [(3,2)]) R R),(f15.map (ren [(3,2)]) R R)⟩
theorem tb {aa ad ae ab af ac}{p0:Parity}{a1 u1}{p1:(List Int)}(g0_0_0:Rd (Rp.int .i64) κ w 0 aa ad p0.Arena.Owner) (g0_0_1:Rd (Rp.sl (Rp.int .i64)) κ w 0 ae ab p0.Arena.Next) (g0_1:Rd (Rp.int .i64) κ w 0 af ac p0.Prio) (g1:Rd (Rp.int .i64) κ w 0 a1 u1 p1){r:Int}(h:nj p0 p1=some r):Ret Tryz.prog 232 [.agg #[.slice aa p0.Arena.Owner.length ad,.slice ae p0.Arena.Next.length ab,.slice af p0.Prio.length ac],.slice a1 p1.length u1] w (Pvi κ w r):=by
 unfold nj at h
 refine Jk3 κ F232 R N232 R λhE=>Je [1,2] R<|Jf1 (κ:=κ) 2 R R R R R R R λb2 w1 K2 S3 f4=>Tv<|Jb 1 R<|Je3 R<|Jq<|Jg3 [2,2,2] 1 R<|Jn3 R U29 R R<|Jb 1 R ?_
 have hN5:(p1.length:Int)<=9223372036854775807:=g1.len_le
 refine Ob h λq2 hq7 hK6=>?_
 clear h
 refine Jx1 (λL w'=>∃κ' s3,L=[(5,vi s3)]/\Stp [] K2 w1 κ' w'/\q2=xe s3) ?_ ?_
 refine Jv<|Jy1 (λk L w'=>∃κ' v10 s1,L=[(2,.pointer (some ⟨b2,0,none⟩)),(5,vi s1),(8,.slice a1 p1.length u1),(9,vi (p1.length:Int)),(10,vi v10)]/\Stp [] K2 w1 κ' w'/\0<=v10/\xh ((p1.length:Int)-v10)=k/\cntM (jN p0 p1) k v10 s1=some q2) ⟨_,_,⟨K2,0,((-1):Int),R,Jj3,(by decide),(by simp),hq7⟩,(KM R)⟩ ?_
 rintro k _ w11 ⟨K12,v10,s1,rfl,S13,hj5,hJ5,h⟩
 rcases k with _ | k
 have hk14:=h;obtain⟨o5,h⟩:=bP (xe (xf s1):Int⊕((Int)⊕(Int)))
 have hc5:decide (v10<(p1.length:Int))=false:=Jo2 (by omega)
 refine Je3 R<|Jq<|Jw2 R hc5<|Jc1<|Jt<|Jt ?_
 cases h
 have h:=hk14
 refine Jb1 ?_
 cases h
 exact Jw1 _ ⟨K12,s1,R,S13.wk R,R⟩<|KM R
 obtain⟨o5,h,hk14⟩:=BI h;unfold jN at h
 have hc5:decide (v10<(p1.length:Int))=true:=Jn2 (by omega)
 refine Je3 R<|Jq<|Jv2 R hc5<|Js<|Jp<|Jq<|Jv<|Je [2,1,2] R<|Ob h λx12 hx12 h=>Jc3 R g1 hx12 U29 Z2<|Jb3 R I2 ((g1.stp (S3.tr S13) R R).gInt hx12)<|Jb 1 R<|Jh3 [2,2,1,2,2,1,2,2] 1 R<|Jd3 R U108 R Z29<|Jb3 R I29 ((f4.stp S13 R R).ld 2 R R)<|Jn 1 R<|Ob h λx18 hx18 h=>Jc3 R g0_1 hx18 U29 Z2<|Jb3 R I2 ((g0_1.stp (S3.tr S13) R R).gInt hx18)<|Jf R (rE R R R)<|Jc 1 R<|Jz<|Jp<|Jf3 R ?_
 have hw5:t0 .i64 (v10+1)=v10+1:=wr1 hj5 (Jm2 hc5) hN5
 rw[hw5]
 have hc5:=Jm2 hc5
 cases h
 exact Jz1 λa ha=>⟨k,_,Ja3 _,⟨K12,v10+1,((if s1<x18 then x18 else s1):Int),R,S13.wk R,by omega,by omega,hk14⟩,(ha.mm R)⟩
 rintro _ w8 ⟨K9,s3,rfl,S10,rfl⟩
 have h:=yI hK6
 refine Jp<|Je3 R<|Ju<|Ja2 (l:=[.tmp 4]) V232 (Jp2 R R) R ?_
 cases h
 exact⟨K9,R,(hE.stp (S3.tr S10) R R)⟩
theorem ot {a0 u0}{p0:(List Int)}{p1:Int}(g0:Rd (Rp.int .i64) κ w 0 a0 u0 p0){r:Int}(h:gY p0 p1=some r):Ret Tryz.prog 87 [.slice a0 p0.length u0,vi p1] w (Pvi κ w r):=by
 unfold gY at h
 refine Jk3 κ F87 R N87 R λhE=>Je3 R<|Jq<|Je3 R ?_
 have hN1:(p0.length:Int)<=9223372036854775807:=g0.len_le
 refine Ob h λq2 hq3 hK2=>?_
 clear h
 refine Jx1 (λL w'=>∃κ' s3,L=[(1,vi s3)]/\Stp [] κ w κ' w'/\q2=xe s3) ?_ ?_
 refine Jv<|Jy1 (λk L w'=>∃κ' v5 s1,L=[(0,.slice a0 p0.length u0),(1,vi s1),(5,vi v5)]/\Stp [] κ w κ' w'/\0<=v5/\xh ((p0.length:Int)-v5)=k/\cntM (gp p0) k v5 s1=some q2) ⟨_,_,⟨κ,0,p1,R,Jj3,(by decide),(by simp),hq3⟩,(KM R)⟩ ?_
 rintro k _ w7 ⟨K8,v5,s1,rfl,S9,hj1,hJ1,h⟩
 rcases k with _ | k
 have hk10:=h;obtain⟨o1,h⟩:=bP (xe (xf s1):Int⊕((Int)⊕(Int)))
 have hc1:decide (v5<(p0.length:Int))=false:=Jo2 (by omega)
 refine Jq<|Jg3 [2,2,2,2] 2 R<|Jn3 R U29 R R<|Jb 1 R<|Jw2 R hc1<|Jc1<|Jt<|Jt ?_
 cases h
 have h:=hk10
 refine Jb1 ?_
 cases h
 exact Jw1 _ ⟨K8,s1,R,S9.wk R,R⟩<|KM R
 obtain⟨o1,h,hk10⟩:=BI h;unfold gp at h
 have hc1:decide (v5<(p0.length:Int))=true:=Jn2 (by omega)
 refine Jq<|Jg3 [2,2,2,2] 2 R<|Jn3 R U29 R R<|Jb 1 R<|Jv2 R hc1<|Js<|Jp<|Jq<|Jv<|Jq<|Jg3 [2,2,2,1,2,2] 2 R<|Ob h λx14 hx14 h=>Jc3 R g0 hx14 U29 Z2<|Jb3 R I2 ((g0.stp S9 R R).gInt hx14)<|Jb 2 R ?_
 revert h
 cases ht12:(x14 !=s1)
 refine JF λh=>Jy R<|Js<|Jp<|Jf3 R<|Jz<|Jp<|Jf3 R ?_
 have hw1:t0 .i64 (v5+1)=v5+1:=wr1 hj1 (Jm2 hc1) hN1
 rw[hw1]
 have hc1:=Jm2 hc1
 cases h
 exact Jz1 λa ha=>⟨k,_,Ja3 _,⟨K8,v5+1,((IntKind.i64.wrap<|s1+1):Int),R,S9.wk R,by omega,by omega,hk10⟩,(ha.mm R)⟩
 refine JT λh=>Jx R<|Je3 R<|Ju<|Jw<|Ja1<|Jw<|Jw ?_
 cases h
 obtain rfl:=Option.some.inj hk10
 have h:=yL hK2
 refine Ja1<|Jq2<|Jw<|Ja2 (l:=[.tmp 4]) V87 (Jp2 R R) R ?_
 cases h
 exact⟨K8,R,(hE.stp S9 R R)⟩
 rintro _ w4 ⟨K5,s3,rfl,S6,rfl⟩
 have h:=yI hK2
 refine Jp<|Je3 R<|Ju<|Ja2 (l:=[.tmp 4]) V87 (Jp2 R R) R ?_
 cases h
 exact⟨K5,R,(hE.stp S6 R R)⟩
end Go.Proofs.YtpcjbkgbnoocaaaGreat
