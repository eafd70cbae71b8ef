/- The walks, part 1. By program. -/
import Derived.Test.YtpcjbkgbnoocaaaFnsMFR
import Derived.Test.YtpcjbkgbnoocaaaAlFR
set_option linter.unusedVariables false
set_option linter.unusedSimpArgs false
open Go.IntKind renaming wrap → sh
open Sum renaming inr → vq, inl → vr
open Int renaming toNat → vu
namespace Go.Proofs.Ytpcjbkgbnoocaaa
open Go Go.Wk Go.Proofs
set_option maxRecDepth 100000
set_option maxHeartbeats 1000000
variable {w:World}{κ:Col}
theorem ib {aa ab}{p0:l1Cur}{b0}(g0_0:Rd (Rp.int .u8) κ w 0 aa ab p0.b) (gb0:Bc κ w 2 b0 56 [.slice aa p0.b.length ab,vi p0.i,vi p0.h]){r:Int×Int×Int}(h:gg p0=some r):Ret Try.prog 42 [.pointer (some ⟨b0,0,none⟩)] w (λv w'=>∃(κ':Col),v=vi r.1/\Ent κ w κ' w'/\Bc κ' w' 2 b0 56 [.slice aa p0.b.length ab,vi r.2.1,vi r.2.2]):=by
 unfold gg at h
 refine Jk3 κ F42 R N42 R λhE=>Je3 R<|Jg3 [2,2,2,2,1,2,2,2,2,1] 2 R<|Jf R (bV R R)<|Jd3 R U56 R Z2<|Jb3 R I2 (gb0.ld 2 R R)<|Jn 2 R<|Jf R (bV R R)<|Jd3 R U56 R Z2<|Ji1 (κ:=κ) 2 (off:=2) (vc:=[vi<|IntKind.i64.wrap ((IntKind.i64.wrap<|p0.h * 6364136223846793005)+1442695040888963407)]) (cs':=[.slice aa p0.b.length ab,vi p0.i,vi<|IntKind.i64.wrap ((IntKind.i64.wrap<|p0.h * 6364136223846793005)+1442695040888963407)]) R R R R R R R Z2 R R gb0 R R λw1 S2 f3=>Tv<|Jd<|Jq<|Js1 (κ:=κ) [2] none [(0,2),(1,2),(2,2),(5,2),(6,2),(7,2),(3,0),(4,2),(8,0),(9,2),(10,2),(11,2),(12,2)] [] (by kernel_rfl) (by kernel_rfl) λw5 S4=>Jn 1 R<|Jf R (bV R R)<|Jd3 R U56 R Z2<|Jn 1 R<|Jf R (bV R R)<|Jd3 R U56 R Z2 ?_
 have f6:=f3.stp S4 R R
 refine Jg R (Jc2 I2 R R<|hvC (f6.ld 2 R R) R)<|Jf R (rz R R R (by decide))<|Jg R (Jc2 I2 R R<|hvC (f6.ld 2 R R) R)<|Jf R (rz R R R (by decide))<|Jn 3 R<|Jt1<|Jd<|Jq<|Jq<|Js1 (κ:=κ) [2] none [(0,2),(1,2),(2,2),(4,2),(5,2),(6,2),(3,0),(7,0),(8,2),(9,2)] [] (by kernel_rfl) (by kernel_rfl) λw8 S7=>Jn 1 R<|Jf R (bV R R)<|Jd3 R U56 R Z3<|Jn 1 R<|Jf R (bV R R)<|Jd3 R U56 R Z22 ?_
 have f9:=f6.stp S7 R R
 refine Jg R (Jc2 I3 R R<|hvC (f9.ld 1 R R) R)<|Jg R (Jc2 I22 R R<|hvC (f9.ld 0 R R) R)<|Jn3 R U22 R R<|Jn 1 R<|Jt1<|Jd<|Ob h λq1 h hK10=>Jx1 (λL w'=>∃κ',L=[(0,.pointer (some ⟨b0,0,none⟩)),(3,vi q1.1)]/\Stp [2] κ w8 κ' w'/\Bc κ' w' 2 b0 56 [.slice aa p0.b.length ab,vi q1.2,vi<|IntKind.i64.wrap ((IntKind.i64.wrap<|p0.h * 6364136223846793005)+1442695040888963407)]) ?_ ?_
 revert h
 cases ht15:decide (p0.i<(p0.b.length:Int))
 refine JF λh=>Jy R<|Js ?_
 cases h
 exact Jw1 _ ⟨κ,R,Jj3,f9⟩<|KM R
 refine JT λh=>Jx R<|Jq<|Js1 (κ:=κ) [0,2] none [(0,2),(1,2),(2,2),(3,2),(5,2),(6,2),(7,2),(4,0),(8,0),(9,2),(10,0),(11,2),(12,2),(13,2),(14,2)] [] (by kernel_rfl) (by kernel_rfl) λw17 S16=>Jn 2 R<|Jf R (bV R R)<|Jd3 R U56 R Z22<|Jn 1 R<|Jf R (bV R R)<|Jd3 R U56 R Z3 ?_
 have f18:=f9.stp S16 R R
 refine Jg R (Jc2 I22 R R<|hvC (f18.ld 0 R R) R)<|Jg R (Jc2 I3 R R<|hvC (f18.ld 1 R R) R)<|Ob h λx44 hx44 h=>Jc3 R g0_0 hx44 U22 Z5<|Jg R (Jc2 I5 R R<|hvC ((g0_0.stp (T4 S2 S4 S7 S16) R R).gInt hx44) R)<|Jf R (Jh2 U5 U2 R R)<|Jn 3 R<|Jt1<|Jd<|Jh3 [2,2,2,2,1,2,2,2,1] 2 R<|Jf R (bV R R)<|Jd3 R U56 R Z3<|Jb3 R I3 (f18.ld 1 R R)<|Jn 1 R<|Jf R (bV R R)<|Jd3 R U56 R Z3<|Ji1 (κ:=κ) 2 (off:=1) (vc:=[vi<|IntKind.i64.wrap<|p0.i+1]) (cs':=[.slice aa p0.b.length ab,vi (IntKind.i64.wrap<|p0.i+1),vi<|IntKind.i64.wrap ((IntKind.i64.wrap<|p0.h * 6364136223846793005)+1442695040888963407)]) R R R R R R R Z3 R R f18 R R λw20 S21 f22=>Tv<|Jo ?_
 cases h
 exact Jw1 _ ⟨κ,R,(S16.tr S21).wk R,f22⟩<|KM R
 rintro _ w11 ⟨K12,rfl,S13,f14⟩
 have h:=hK10
 refine Jp<|Je3 R<|Ju<|Ja2 (l:=[.tmp 2]) V42 (Jp2 R R) R ?_
 cases h
 exact⟨K12,R,(hE.stp (T4 S2 S4 S7 S13) R R),f14⟩
theorem cF {p0:Int}{p1:Int}{p2:Int}  {r:Bool}(h:dT p0 p1 p2=some r):Ret Try.prog 24 [vi p0,vi p1,vi p2] w (Pvb κ w r):=by
 unfold dT at h
 refine Jk3 κ F24 R N24 R λhE=>Je3 R<|Jg3 [2,2,2,2,2,2,2,2,2] 4 R<|Ob h λp14 h hK1=>Ju1 [(4,2),(5,2),(6,2),(7,2)] [(8,2)] (λL w'=>L=[(6,.bool false),(14,.bool p14)]/\∃κ',Stp [] κ w κ' w') tv ?_ ?_
 revert h
 cases ht2:decide (p1<=p0)
 refine JF λh=>Jn 4 R ?_
 cases h
 exact Jv1 _ tv ⟨R,_,Jj3⟩<|KM R
 refine JT λh=>Jn 4 R ?_
 cases h
 exact Jv1 _ tv ⟨R,_,Jj3⟩<|KM R
 rintro _ w3 _ ⟨rfl,K4,S5⟩
 have h:=hK1
 refine Jb 1 R<|Ju<|Ja2 (l:=[.tmp 6]) V24 (Jp2 R R) R ?_
 cases h
 exact⟨K4,R,(hE.stp S5 R R)⟩
theorem cQ {p0:Int}  {r:Int}(h:cG p0=some r):Ret Try.prog 33 [vi p0] w (Pvi κ w r):=by
 unfold cG at h
 refine Jk3 κ F33 R N33 R λhE=>Je3 R<|Je3 R<|Jq<|Ob h λq2 hq3 hK2=>?_
 clear h
 refine Jx1 (λL w'=>∃κ',∃s3:Int×Int,L=[(3,vi s3.2)]/\Stp [] κ w κ' w'/\q2=vq s3) ?_ ?_
 refine Jv<|Jy1 (λk L w'=>∃κ',∃s1:Int×Int,L=[(0,vi s1.1),(3,vi s1.2)]/\Stp [] κ w κ' w'/\bP ed k s1=some q2) ⟨_,_,⟨κ,(p0,(1:Int)),R,Jj3,hq3⟩,(KM R)⟩ ?_
 rintro k _ w7 ⟨K8,s1,rfl,S9,h⟩
 rcases k with _ | k
 cases h
 obtain⟨o1,h,hk10⟩:=BI h;unfold ed at h
 refine Jq<|Je3 R ?_
 revert h
 cases ht11:decide (0<s1.1)
 refine JF λh=>Jy R<|Jc1<|Jt<|Jt ?_
 cases h
 have h:=hk10
 refine Jb1 ?_
 cases h
 exact Jw1 _ ⟨K8,(s1.1,s1.2),R,S9.wk R,R⟩<|KM R
 refine JT λh=>Jx R<|Js<|Jp<|Jq<|Jv<|Jf3 R<|Jz<|Jp<|Jf3 R ?_
 cases h
 exact Jz1 λa ha=>⟨k,_,Ja3 _,⟨K8,(((IntKind.i64.wrap<|s1.1-1):Int),((IntKind.i64.wrap<|s1.2 * 2):Int)),R,S9.wk R,hk10⟩,(ha.mm R)⟩
 rintro _ w4 ⟨K5,s3,rfl,S6,rfl⟩
 have h:=yI hK2
 refine Jp<|Je3 R<|Ju<|Ja2 (l:=[.tmp 2]) V33 (Jp2 R R) R ?_
 cases h
 exact⟨K5,R,(hE.stp S6 R R)⟩
theorem gC {p0:Int}{p1:Int}  {r:Int}(h:eJ p0 p1=some r):Ret Try.prog 35 [vi p0,vi p1] w (Pvi κ w r):=by
 unfold eJ at h
 refine Jk3 κ F35 R N35 R λhE=>Je3 R<|Jq<|Je3 R ?_
 revert h
 cases ht1:decide (p1<p0)
 refine JF λh=>Jy R<|Js<|Jp<|Je3 R<|Ju<|Ja2 (l:=[.tmp 4]) V35 (Jp2 R R) R ?_
 cases h
 exact⟨κ,R,hE⟩
 refine JT λh=>Jx R<|Je3 R<|Ju<|Jw<|Ja2 (l:=[.tmp 4]) V35 (Jp2 R R) R ?_
 cases h
 exact⟨κ,R,hE⟩
theorem mi {p0:Int}  {r:Bool}(h:gA p0=some r):Ret Try.prog 70 [vi p0] w (Pvb κ w r):=by
 unfold gA at h
 refine Jk3 κ F70 R N70 R λhE=>Je3 R<|Jg3 [2,2,2,2,2,2,2,2,2,2,2] 3 R<|Ob h λp8 h hK1=>Ju1 [(3,2),(4,2),(5,2)] [(6,2),(7,2),(8,2),(9,2),(10,2)] (λL w'=>L=[(0,vi p0),(2,.bool false),(8,.bool p8)]/\∃κ',Stp [] κ w κ' w') tv ?_ ?_
 revert h
 cases ht2:(p0==2)
 refine JF λh=>Jn 3 R ?_
 cases h
 exact Jv1 _ tv ⟨R,_,Jj3⟩<|KM R
 refine JT λh=>Jn 3 R ?_
 cases h
 exact Jv1 _ tv ⟨R,_,Jj3⟩<|KM R
 rintro _ w3 _ ⟨rfl,K4,S5⟩
 have h:=hK1
 refine Jn 1 R<|Ob h λp12 h hK6=>Ju1 [(7,2),(8,2),(9,2)] [(10,2)] (λL w'=>L=[(2,.bool false),(12,.bool p12)]/\∃κ',Stp [] K4 w3 κ' w') tv ?_ ?_
 revert h
 cases ht7:p8
 refine JF λh=>Jn 3 R ?_
 cases h
 exact Jv1 _ tv ⟨R,_,Jj3⟩<|KM R
 refine JT λh=>Jn 3 R ?_
 cases h
 exact Jv1 _ tv ⟨R,_,Jj3⟩<|KM R
 rintro _ w8 _ ⟨rfl,K9,S10⟩
 have h:=hK6
 refine Jb 1 R<|Ju<|Ja2 (l:=[.tmp 2]) V70 (Jp2 R R) R ?_
 cases h
 exact⟨K9,R,(hE.stp (S5.tr S10) R R)⟩
theorem pW {p0:Int}  {r:Pair}(h:jS p0=some r):Ret Try.prog 73 [vi p0] w (λv w'=>∃(κ':Col) (ra0:Option Addr) (ru0:Nat) (ra1:Option Addr) (ru1:Nat),v= .agg #[.slice ra0 r.Ask.length ru0,.slice ra1 r.Give.length ru1]/\Ent κ w κ' w'/\Oc E6 2 κ' w' 2 ra0 ru0 r.Ask/\Oc E6 2 κ' w' 3 ra1 ru1 r.Give):=by
 unfold jS at h
 refine Jk3 κ F73 R N73 R λhE=>Je [1] R<|Jg1 (κ:=κ) 2 R R R R R X102 R λb2 w1 K2 S3 f4=>Tv<|Jd<|Jq<|Je3 R<|Jv<|Jq<|Je3 R<|Ob h λq1 h hK5=>Jx1 (λL w'=>∃κ',L=[(2,.pointer (some ⟨b2,0,none⟩)),(3,vi p0),(4,.bool q1)]/\Stp [] K2 w1 κ' w') ?_ ?_
 revert h
 cases ht9:(p0==1)
 refine JF λh=>Jy R<|Jf3 R ?_
 cases h
 exact Jw1 _ ⟨K2,R,Jj3⟩<|KM R
 refine JT λh=>Jx R<|Js ?_
 cases h
 exact Jw1 _ ⟨K2,R,Jj3⟩<|KM R
 rintro _ w6 ⟨K7,rfl,S8⟩
 have h:=hK5
 refine Jp ?_
 revert h
 cases ht10:q1
 refine JF λh=>Jy R<|Je3 R ?_
 revert h
 cases ht21:(p0==2)
 refine JF λh=>Jy R<|Je3 R ?_
 revert h
 cases ht32:(p0==3)
 refine JF λh=>Jy R<|Je3 R ?_
 revert h
 cases ht48:(p0==4)
 refine JF λh=>Jy R<|Je3 R ?_
 revert h
 cases ht64:(p0==6)
 refine JF λh=>Jy R<|Js<|Jz<|Jp<|Je [1,1,2,1] R<|Jn1 (κ:=K7) (E:=E6) 3 [] (parts:=[(0,.const (vi 2)),(1,.const (vi 3))]) (cells:=[vi 2,vi 3]) (xs:=([2,3]:List Int)) R R R R R R Y26 a8 R R R R R R R R R R ⟨[vi 2],[vi 3],Zl K7 w6 [],Zl K7 w6 [],R,Zl.sp (l1:=[]) (l2:=[]) R,Zl.sr (l1:=[]) (l2:=[]),R,⟨[vi 3],[],Zl K7 w6 [],Zl K7 w6 [],R,Zl.sp (l1:=[]) (l2:=[]) R,Zl.sr (l1:=[]) (l2:=[]),R,R⟩⟩ λan aj w75 K76 S77 f78=>Tv<|Jn1 (κ:=K76) (E:=E6) 4 [] (parts:=[(0,.const (vi 1)),(1,.const (vi 3))]) (cells:=[vi 1,vi 3]) (xs:=([1,3]:List Int)) R R R R R R Y26 a8 R R R R R R R R R R ⟨[vi 1],[vi 3],Zl K76 w75 [],Zl K76 w75 [],R,Zl.sp (l1:=[]) (l2:=[]) R,Zl.sr (l1:=[]) (l2:=[]),R,⟨[vi 3],[],Zl K76 w75 [],Zl K76 w75 [],R,Zl.sp (l1:=[]) (l2:=[]) R,Zl.sr (l1:=[]) (l2:=[]),R,R⟩⟩ λai ah w79 K80 S81 f82=>Tv<|Jf R (bF (parts:=[(0,.tmp 27),(1,.tmp 28)]) (cells:=[.slice an ([2,3]:List Int).length aj,.slice ai ([1,3]:List Int).length ah]) R R (by kernel_rfl))<|Jj1 (κ:=K80) 2 (vc:=[.slice an ([2,3]:List Int).length aj,.slice ai ([1,3]:List Int).length ah]) R R R R R R R Z102 R R (f4.stp (T3 S8 S77 S81) R R) R λw84 S85 f86=>Tv<|Jd<|Ju<|Ja2 (l:=[.cell 2 102]) V73 (bH R f86 I102 Z102 R R) R ?_
 cases h
 exact⟨(λb=>ren [(3,2),(4,3)]<|K80 b),an,aj,ai,ah,R,((hE.stp (T5 S3 S8 S77 S81 S85) R R).map (ren [(3,2),(4,3)]) R R),((f78.stp (S81.tr S85) R R).map (ren [(3,2),(4,3)]) R R),((f82.stp S85 R R).map (ren [(3,2),(4,3)]) R R)⟩
 refine JT λh=>Jx R<|Je [1,2,1] R<|Jn1 (κ:=K7) (E:=E6) 3 [] (parts:=[(0,.const (vi 0))]) (cells:=[vi 0]) (xs:=([0]:List Int)) R R R R R R Y26 a8 R R R R R R R R R R ⟨[vi 0],[],Zl K7 w6 [],Zl K7 w6 [],R,Zl.sp (l1:=[]) (l2:=[]) R,Zl.sr (l1:=[]) (l2:=[]),R,R⟩ λak al w65 K66 S67 f68=>Tv<|Jf R (bF (parts:=[(0,.tmp 25)]) (cells:=[.slice ak ([0]:List Int).length al,.slice none 0 0]) R R (by kernel_rfl))<|Jj1 (κ:=K66) 2 (vc:=[.slice ak ([0]:List Int).length al,.slice none 0 0]) R R R R R R R Z102 R R (f4.stp (S8.tr S67) R R) R λw70 S71 f72=>Tv<|Jd<|Ju<|Ja1<|Jw<|Ja2 (l:=[.cell 2 102]) V73 (bH R f72 I102 Z102 R R) R ?_
 cases h
 exact⟨(λb=>ren [(3,2)]<|K66 b),ak,al,none,0,R,((hE.stp (T4 S3 S8 S67 S71) R R).map (ren [(3,2)]) R R),((f68.stp S71 R R).map (ren [(3,2)]) R R),Ow.nil⟩
 refine JT λh=>Jx R<|Je [1,1,2,1] R<|Jn1 (κ:=K7) (E:=E6) 3 [] (parts:=[(0,.const (vi 0)),(1,.const (vi 1))]) (cells:=[vi 0,vi 1]) (xs:=([0,1]:List Int)) R R R R R R Y26 a8 R R R R R R R R R R ⟨[vi 0],[vi 1],Zl K7 w6 [],Zl K7 w6 [],R,Zl.sp (l1:=[]) (l2:=[]) R,Zl.sr (l1:=[]) (l2:=[]),R,⟨[vi 1],[],Zl K7 w6 [],Zl K7 w6 [],R,Zl.sp (l1:=[]) (l2:=[]) R,Zl.sr (l1:=[]) (l2:=[]),R,R⟩⟩ λam ac w49 K50 S51 f52=>Tv<|Jn1 (κ:=K50) (E:=E6) 4 [] (parts:=[(0,.const (vi 1))]) (cells:=[vi 1]) (xs:=([1]:List Int)) R R R R R R Y26 a8 R R R R R R R R R R ⟨[vi 1],[],Zl K50 w49 [],Zl K50 w49 [],R,Zl.sp (l1:=[]) (l2:=[]) R,Zl.sr (l1:=[]) (l2:=[]),R,R⟩ λae ad w53 K54 S55 f56=>Tv<|Jf R (bF (parts:=[(0,.tmp 20),(1,.tmp 21)]) (cells:=[.slice am ([0,1]:List Int).length ac,.slice ae ([1]:List Int).length ad]) R R (by kernel_rfl))<|Jj1 (κ:=K54) 2 (vc:=[.slice am ([0,1]:List Int).length ac,.slice ae ([1]:List Int).length ad]) R R R R R R R Z102 R R (f4.stp (T3 S8 S51 S55) R R) R λw58 S59 f60=>Tv<|Jd<|Ju<|Ja1<|Jw<|Ja2 (l:=[.cell 2 102]) V73 (bH R f60 I102 Z102 R R) R ?_
 cases h
 exact⟨(λb=>ren [(3,2),(4,3)]<|K54 b),am,ac,ae,ad,R,((hE.stp (T5 S3 S8 S51 S55 S59) R R).map (ren [(3,2),(4,3)]) R R),((f52.stp (S55.tr S59) R R).map (ren [(3,2),(4,3)]) R R),((f56.stp S59 R R).map (ren [(3,2),(4,3)]) R R)⟩
 refine JT λh=>Jx R<|Je [1,1,2,1] R<|Jn1 (κ:=K7) (E:=E6) 3 [] (parts:=[(0,.const (vi 1))]) (cells:=[vi 1]) (xs:=([1]:List Int)) R R R R R R Y26 a8 R R R R R R R R R R ⟨[vi 1],[],Zl K7 w6 [],Zl K7 w6 [],R,Zl.sp (l1:=[]) (l2:=[]) R,Zl.sr (l1:=[]) (l2:=[]),R,R⟩ λao ap w33 K34 S35 f36=>Tv<|Jn1 (κ:=K34) (E:=E6) 4 [] (parts:=[(0,.const (vi 0))]) (cells:=[vi 0]) (xs:=([0]:List Int)) R R R R R R Y26 a8 R R R R R R R R R R ⟨[vi 0],[],Zl K34 w33 [],Zl K34 w33 [],R,Zl.sp (l1:=[]) (l2:=[]) R,Zl.sr (l1:=[]) (l2:=[]),R,R⟩ λaf aq w37 K38 S39 f40=>Tv<|Jf R (bF (parts:=[(0,.tmp 15),(1,.tmp 16)]) (cells:=[.slice ao ([1]:List Int).length ap,.slice af ([0]:List Int).length aq]) R R (by kernel_rfl))<|Jj1 (κ:=K38) 2 (vc:=[.slice ao ([1]:List Int).length ap,.slice af ([0]:List Int).length aq]) R R R R R R R Z102 R R (f4.stp (T3 S8 S35 S39) R R) R λw42 S43 f44=>Tv<|Jd<|Ju<|Ja1<|Jw<|Ja2 (l:=[.cell 2 102]) V73 (bH R f44 I102 Z102 R R) R ?_
 cases h
 exact⟨(λb=>ren [(3,2),(4,3)]<|K38 b),ao,ap,af,aq,R,((hE.stp (T5 S3 S8 S35 S39 S43) R R).map (ren [(3,2),(4,3)]) R R),((f36.stp (S39.tr S43) R R).map (ren [(3,2),(4,3)]) R R),((f40.stp S43 R R).map (ren [(3,2),(4,3)]) R R)⟩
 refine JT λh=>Jx R<|Je [1,2,1] R<|Jn1 (κ:=K7) (E:=E6) 3 [] (parts:=[(0,.const (vi 2))]) (cells:=[vi 2]) (xs:=([2]:List Int)) R R R R R R Y26 a8 R R R R R R R R R R ⟨[vi 2],[],Zl K7 w6 [],Zl K7 w6 [],R,Zl.sp (l1:=[]) (l2:=[]) R,Zl.sr (l1:=[]) (l2:=[]),R,R⟩ λaa ab w22 K23 S24 f25=>Tv<|Jf R (bF (parts:=[(0,.tmp 11)]) (cells:=[.slice aa ([2]:List Int).length ab,.slice none 0 0]) R R (by kernel_rfl))<|Jj1 (κ:=K23) 2 (vc:=[.slice aa ([2]:List Int).length ab,.slice none 0 0]) R R R R R R R Z102 R R (f4.stp (S8.tr S24) R R) R λw27 S28 f29=>Tv<|Jd<|Ju<|Ja1<|Jw<|Ja2 (l:=[.cell 2 102]) V73 (bH R f29 I102 Z102 R R) R ?_
 cases h
 exact⟨(λb=>ren [(3,2)]<|K23 b),aa,ab,none,0,R,((hE.stp (T4 S3 S8 S24 S28) R R).map (ren [(3,2)]) R R),((f25.stp S28 R R).map (ren [(3,2)]) R R),Ow.nil⟩
 refine JT λh=>Jx R<|Je [1,2,1] R<|Jn1 (κ:=K7) (E:=E6) 3 [] (parts:=[(0,.const (vi 1))]) (cells:=[vi 1]) (xs:=([1]:List Int)) R R R R R R Y26 a8 R R R R R R R R R R ⟨[vi 1],[],Zl K7 w6 [],Zl K7 w6 [],R,Zl.sp (l1:=[]) (l2:=[]) R,Zl.sr (l1:=[]) (l2:=[]),R,R⟩ λa7 u7 w11 K12 S13 f14=>Tv<|Jf R (bF (parts:=[(0,.tmp 7)]) (cells:=[.slice a7 ([1]:List Int).length u7,.slice none 0 0]) R R (by kernel_rfl))<|Jj1 (κ:=K12) 2 (vc:=[.slice a7 ([1]:List Int).length u7,.slice none 0 0]) R R R R R R R Z102 R R (f4.stp (S8.tr S13) R R) R λw16 S17 f18=>Tv<|Jd<|Ju<|Ja1<|Jw<|Ja2 (l:=[.cell 2 102]) V73 (bH R f18 I102 Z102 R R) R ?_
 cases h
 exact⟨(λb=>ren [(3,2)]<|K12 b),a7,u7,none,0,R,((hE.stp (T4 S3 S8 S13 S17) R R).map (ren [(3,2)]) R R),((f14.stp S17 R R).map (ren [(3,2)]) R R),Ow.nil⟩
theorem kB {p0:Bool}  {r:Int}(h:gh p0=some r):Ret Try.prog 88 [.bool p0] w (Pvi κ w r):=by
 unfold gh at h
 refine Jk3 κ F88 R N88 R λhE=>Je3 R<|Jq<|Je3 R ?_
 revert h
 cases ht1:p0
 refine JF λh=>Jy R<|Js<|Jp<|Je3 R<|Ju<|Ja2 (l:=[.tmp 2]) V88 (Jp2 R R) R ?_
 cases h
 exact⟨κ,R,hE⟩
 refine JT λh=>Jx R<|Je3 R<|Ju<|Jw<|Ja2 (l:=[.tmp 2]) V88 (Jp2 R R) R ?_
 cases h
 exact⟨κ,R,hE⟩
theorem oz {a0 u0}{p0:(List (List Int))}{p1:Int}{p2:Int}(g0:Rd (Rp.sl (Rp.int .i64)) κ w 0 a0 u0 p0){r:Int}(h:jd p0 p1 p2=some r):Ret Try.prog 86 [.slice a0 p0.length u0,vi p1,vi p2] w (Pvi κ w r):=by
 unfold jd at h
 refine Jk3 κ F86 R N86 R λhE=>Je3 R<|Jq<|Je3 R ?_
 have hN1:(p0.length:Int)<=9223372036854775807:=g0.len_le
 refine Ob h λq2 hq3 hK2=>?_
 clear h
 refine Jx1 (λL w'=>∃κ',L=[]/\Stp [] κ w κ' w'/\q2=vq ()) ?_ ?_
 refine Jv<|Jy1 (λk L w'=>∃κ' v7,L=[(0,.slice a0 p0.length u0),(1,vi p1),(2,vi p2),(7,vi v7)]/\Stp [] κ w κ' w'/\0<=v7/\vu ((p0.length:Int)-v7)=k/\cntM (eW p0 p1 p2) k v7 ()=some q2) ⟨_,_,⟨κ,0,R,Jj3,(by decide),(by simp),hq3⟩,(KM R)⟩ ?_
 rintro k _ w7 ⟨K8,v7,rfl,S9,hj1,hJ1,h⟩
 rcases k with _ | k
 have hk10:=h;obtain⟨o1,h⟩:=cc (vq (vr ()):Int⊕((Unit)⊕(Unit)))
 have hc1:decide (v7<(p0.length:Int))=false:=Jo2 (by omega)
 refine Jq<|Jg3 [2,2,2,2] 2 R<|Jn3 R U27 R R<|Jb 1 R<|Jw2 R hc1<|Jc1<|Jt<|Jt ?_
 cases h
 have h:=hk10
 refine Jb1 ?_
 cases h
 exact Jw1 _ ⟨K8,R,S9.wk R,R⟩ KN
 obtain⟨o1,h,hk10⟩:=BI h;unfold eW at h
 have hc1:decide (v7<(p0.length:Int))=true:=Jn2 (by omega)
 refine Jq<|Jg3 [2,2,2,2] 2 R<|Jn3 R U27 R R<|Jb 1 R<|Jv2 R hc1<|Js<|Jp<|Jq<|Jv<|Jg3 [2,2,2,1,2,1,2,2,2,2,2,2,1,2,1,2,2,2] 2 R<|Ob h λx16 hx16 h=>Jc3 R g0 hx16 U27 Z26 ?_
 have f11:=g0.stp S9 R R
 obtain⟨ax16,ux16,f12,hl13⟩:=f11.gSl hx16
 refine Jb3 R I26 hl13<|Ob h λx18 hx18 h=>Jc3 R f12 hx18 U26 Z2<|Jb3 R I2 (f12.gInt hx18)<|Jn 3 R<|Ob h λp31 h hK14=>Ju1 [(9,2),(10,2),(11,2),(12,1),(13,2),(14,1),(15,2),(16,2),(17,2)] [] (λL w'=>L=[(0,.slice a0 p0.length u0),(1,vi p1),(2,vi p2),(7,vi v7),(31,.bool p31)]/\∃κ',Stp [] K8 w7 κ' w') tv ?_ ?_
 revert h
 cases ht15:(x18==p1)
 refine JF λh=>Jn 3 R<|Jd1 R R R R<|Jn 1 R<|Jd1 R R R R<|Jn 3 R ?_
 cases h
 exact Jv1 _ tv ⟨R,_,Jj3⟩<|KM R
 refine JT λh=>Jn 2 R<|Ob h λx25 hx25 h=>Jc3 R f11 hx25 U27 Z26 ?_
 obtain⟨ax25,ux25,f16,hl17⟩:=f11.gSl hx25
 refine Jb3 R I26 hl17<|Ob h λx27 hx27 h=>Jc3 R f16 hx27 U26 Z2<|Jb3 R I2 (f16.gInt hx27)<|Jn 3 R ?_
 cases h
 exact Jv1 _ tv ⟨R,_,Jj3⟩<|KM R
 rintro _ w18 _ ⟨rfl,K19,S20⟩
 have h:=hK14
 refine Jd ?_
 revert h
 cases ht21:p31
 refine JF λh=>Jy R<|Js<|Jz<|Jp<|Jf3 R ?_
 have hw1:sh .i64 (v7+1)=v7+1:=wr1 hj1 (Jm2 hc1) hN1
 rw[hw1]
 have hc1:=Jm2 hc1
 cases h
 exact Jz1 λa ha=>⟨k,_,Ja3 _,⟨K19,v7+1,R,(S9.tr S20).wk R,by omega,by omega,hk10⟩,(ha.mm R)⟩
 refine JT λh=>Jx R<|Je3 R<|Ju<|Ja1<|Jw<|Jw ?_
 cases h
 obtain rfl:=Option.some.inj hk10
 have h:=yL hK2
 refine Ja1<|Jq2<|Jw<|Ja2 (l:=[.tmp 6]) V86 (Jp2 R R) R ?_
 cases h
 exact⟨K19,R,(hE.stp (S9.tr S20) R R)⟩
 rintro _ w4 ⟨K5,rfl,S6,rfl⟩
 have h:=yI hK2
 refine Jp<|Je3 R<|Ju<|Ja2 (l:=[.tmp 6]) V86 (Jp2 R R) R ?_
 cases h
 exact⟨K5,R,(hE.stp S6 R R)⟩
theorem kH {a0 u0}{p0:(List Int)}{p1:Int}(g0:Rd (Rp.int .i64) κ w 0 a0 u0 p0){r:Bool}(h:iL p0 p1=some r):Ret Try.prog 79 [.slice a0 p0.length u0,vi p1] w (Pvb κ w r):=by
 unfold iL at h
 refine Jk3 κ F79 R N79 R λhE=>Je3 R<|Jq<|Je3 R ?_
 have hN1:(p0.length:Int)<=9223372036854775807:=g0.len_le
 refine Ob h λq2 hq3 hK2=>?_
 clear h
 refine Jx1 (λL w'=>∃κ',L=[]/\Stp [] κ w κ' w'/\q2=vq ()) ?_ ?_
 refine Jv<|Jy1 (λk L w'=>∃κ' v5,L=[(0,.slice a0 p0.length u0),(1,vi p1),(5,vi v5)]/\Stp [] κ w κ' w'/\0<=v5/\vu ((p0.length:Int)-v5)=k/\cntM (gV p0 p1) k v5 ()=some q2) ⟨_,_,⟨κ,0,R,Jj3,(by decide),(by simp),hq3⟩,(KM R)⟩ ?_
 rintro k _ w7 ⟨K8,v5,rfl,S9,hj1,hJ1,h⟩
 rcases k with _ | k
 have hk10:=h;obtain⟨o1,h⟩:=cc (vq (vr ()):Bool⊕((Unit)⊕(Unit)))
 have hc1:decide (v5<(p0.length:Int))=false:=Jo2 (by omega)
 refine Jq<|Jg3 [2,2,2,2] 2 R<|Jn3 R U26 R R<|Jb 1 R<|Jw2 R hc1<|Jc1<|Jt<|Jt ?_
 cases h
 have h:=hk10
 refine Jb1 ?_
 cases h
 exact Jw1 _ ⟨K8,R,S9.wk R,R⟩ KN
 obtain⟨o1,h,hk10⟩:=BI h;unfold gV at h
 have hc1:decide (v5<(p0.length:Int))=true:=Jn2 (by omega)
 refine Jq<|Jg3 [2,2,2,2] 2 R<|Jn3 R U26 R R<|Jb 1 R<|Jv2 R hc1<|Js<|Jp<|Jq<|Jv<|Jg3 [2,2,2,1,2,2] 2 R<|Ob h λx14 hx14 h=>Jc3 R g0 hx14 U26 Z2<|Jb3 R I2 ((g0.stp S9 R R).gInt hx14)<|Jb 2 R ?_
 revert h
 cases ht12:(x14==p1)
 refine JF λh=>Jy R<|Js<|Jz<|Jp<|Jf3 R ?_
 have hw1:sh .i64 (v5+1)=v5+1:=wr1 hj1 (Jm2 hc1) hN1
 rw[hw1]
 have hc1:=Jm2 hc1
 cases h
 exact Jz1 λa ha=>⟨k,_,Ja3 _,⟨K8,v5+1,R,S9.wk R,by omega,by omega,hk10⟩,(ha.mm R)⟩
 refine JT λh=>Jx R<|Je3 R<|Ju<|Ja1<|Jw<|Jw ?_
 cases h
 obtain rfl:=Option.some.inj hk10
 have h:=yL hK2
 refine Ja1<|Jq2<|Jw<|Ja2 (l:=[.tmp 4]) V79 (Jp2 R R) R ?_
 cases h
 exact⟨K8,R,(hE.stp S9 R R)⟩
 rintro _ w4 ⟨K5,rfl,S6,rfl⟩
 have h:=yI hK2
 refine Jp<|Je3 R<|Ju<|Ja2 (l:=[.tmp 4]) V79 (Jp2 R R) R ?_
 cases h
 exact⟨K5,R,(hE.stp S6 R R)⟩
theorem mQ {a0 u0}{p0:(List Int)}{a1 u1}{p1:(List Int)}(g0:Rd (Rp.int .i64) κ w 0 a0 u0 p0) (g1:Rd (Rp.int .i64) κ w 0 a1 u1 p1){r:Bool}(h:eZ p0 p1=some r):Ret Try.prog 80 [.slice a0 p0.length u0,.slice a1 p1.length u1] w (Pvb κ w r):=by
 unfold eZ at h
 refine Jk3 κ F80 R N80 R λhE=>Je3 R<|Jq<|Jg3 [2,2,2,2,2] 1 R<|Jn3 R U26 R R<|Jn 1 R<|Jn3 R U26 R R<|Jb 1 R ?_
 revert h
 cases ht1:((p0.length:Int) !=(p1.length:Int))
 refine JF λh=>Jy R<|Js<|Jp<|Jq<|Je3 R ?_
 have hN2:(p0.length:Int)<=9223372036854775807:=g0.len_le
 refine Ob h λq2 hq4 hK3=>?_
 clear h
 refine Jx1 (λL w'=>∃κ',L=[]/\Stp [] κ w κ' w'/\q2=vq ()) ?_ ?_
 refine Jv<|Jy1 (λk L w'=>∃κ' v5,L=[(0,.slice a0 p0.length u0),(1,.slice a1 p1.length u1),(5,vi v5)]/\Stp [] κ w κ' w'/\0<=v5/\vu ((p0.length:Int)-v5)=k/\cntM (dv p0 p1) k v5 ()=some q2) ⟨_,_,⟨κ,0,R,Jj3,(by decide),(by simp),hq4⟩,(KM R)⟩ ?_
 rintro k _ w8 ⟨K9,v5,rfl,S10,hj2,hJ2,h⟩
 rcases k with _ | k
 have hk11:=h;obtain⟨o2,h⟩:=cc (vq (vr ()):Bool⊕((Unit)⊕(Unit)))
 have hc2:decide (v5<(p0.length:Int))=false:=Jo2 (by omega)
 refine Jq<|Jg3 [2,2,2,2] 2 R<|Jn3 R U26 R R<|Jb 1 R<|Jw2 R hc2<|Jc1<|Jt<|Jt ?_
 cases h
 have h:=hk11
 refine Jb1 ?_
 cases h
 exact Jw1 _ ⟨K9,R,S10.wk R,R⟩ KN
 obtain⟨o2,h,hk11⟩:=BI h;unfold dv at h
 have hc2:decide (v5<(p0.length:Int))=true:=Jn2 (by omega)
 refine Jq<|Jg3 [2,2,2,2] 2 R<|Jn3 R U26 R R<|Jb 1 R<|Jv2 R hc2<|Js<|Jp<|Jq<|Jv<|Jq<|Js1 (κ:=K9) [0] none [(0,2),(1,2),(2,2),(4,2),(5,2),(6,2),(3,0),(7,0),(8,2)] [] (by kernel_rfl) (by kernel_rfl) λw13 S12=>Jn 2 R<|Ob h λx19 hx19 h=>Jc3 R g0 hx19 U26 Z2<|Jn 2 R<|Ob h λx23 hx23 h=>Jc3 R g1 hx23 U26 Z2<|Jg R (Jc2 I2 R R<|hvC ((g0.stp (S10.tr S12) R R).gInt hx19) R)<|Jg R (Jc2 I2 R R<|hvC ((g1.stp (S10.tr S12) R R).gInt hx23) R)<|Jn 1 R<|Jt1<|Jd ?_
 revert h
 cases ht16:(x19 !=x23)
 refine JF λh=>Jy R<|Js<|Jz<|Jp<|Jf3 R ?_
 have hw2:sh .i64 (v5+1)=v5+1:=wr1 hj2 (Jm2 hc2) hN2
 rw[hw2]
 have hc2:=Jm2 hc2
 cases h
 exact Jz1 λa ha=>⟨k,_,Ja3 _,⟨K9,v5+1,R,(S10.tr S12).wk R,by omega,by omega,hk11⟩,(ha.mm R)⟩
 refine JT λh=>Jx R<|Je3 R<|Ju<|Ja1<|Jw<|Jw ?_
 cases h
 obtain rfl:=Option.some.inj hk11
 have h:=yL hK3
 refine Ja1<|Jq2<|Jw<|Ja2 (l:=[.tmp 4]) V80 (Jp2 R R) R ?_
 cases h
 exact⟨K9,R,(hE.stp (S10.tr S12) R R)⟩
 rintro _ w5 ⟨K6,rfl,S7,rfl⟩
 have h:=yI hK3
 refine Jp<|Je3 R<|Ju<|Ja2 (l:=[.tmp 4]) V80 (Jp2 R R) R ?_
 cases h
 exact⟨K6,R,(hE.stp S7 R R)⟩
 refine JT λh=>Jx R<|Je3 R<|Ju<|Jw<|Ja2 (l:=[.tmp 4]) V80 (Jp2 R R) R ?_
 cases h
 exact⟨κ,R,hE⟩
theorem nU {a0 u0}{p0:(List Int)}(g0:Rd (Rp.int .i64) κ w 0 a0 u0 p0){r:(List Int)}(h:hZ p0=some r):Ret Try.prog 64 [.slice a0 p0.length u0] w (Pvs E6 2 κ w r):=by
 unfold hZ at h
 refine Jk3 κ F64 R N64 R λhE=>Je3 R<|Je [1,2] R<|Jo1 (κ:=κ) (E:=E6) 2 R R R R R Y26 a8 R λa7 u7 w1 K2 S3 f4=>Tv<|Jb 1 R<|Jq<|Je3 R ?_
 have hN5:(p0.length:Int)<=9223372036854775807:=g0.len_le
 refine Ob h λq2 hq7 hK6=>?_
 clear h
 refine Jx1 (λL w'=>∃κ',∃s3:(List Int),∃ad ac,L=[(3,.slice ad s3.length ac)]/\Stp [3] K2 w1 κ' w'/\Oc E6 2 κ' w' 2 ad ac s3/\q2=vq s3) ?_ ?_
 refine Jv<|Jy1 (λk L w'=>∃κ' v4,∃s1:(List Int),∃ab aa,L=[(0,.slice a0 p0.length u0),(3,.slice ab s1.length aa),(4,vi v4)]/\Stp [3] K2 w1 κ' w'/\Oc E6 2 κ' w' 2 ab aa s1/\0<=v4/\vu ((p0.length:Int)-v4)=k/\cntM (eG p0) k v4 s1=some q2) ⟨_,_,⟨K2,0,(([]:List Int):(List Int)),a7,u7,R,Jj3,f4,(by decide),(by simp),hq7⟩,(KM R)⟩ ?_
 rintro k _ w12 ⟨K13,v4,s1,ab,aa,rfl,S14,f15,hj5,hJ5,h⟩
 rcases k with _ | k
 have hk16:=h;obtain⟨o5,h⟩:=cc (vq (vr s1):(List Int)⊕(((List Int))⊕((List Int))))
 have hc5:decide (v4<(p0.length:Int))=false:=Jo2 (by omega)
 refine Jq<|Jg3 [2,2,2,2] 2 R<|Jn3 R U26 R R<|Jb 1 R<|Jw2 R hc5<|Jc1<|Jt<|Jt ?_
 cases h
 have h:=hk16
 refine Jb1 ?_
 cases h
 exact Jw1 _ ⟨K13,s1,ab,aa,R,S14.wk R,f15,R⟩<|KM R
 obtain⟨o5,h,hk16⟩:=BI h;unfold eG at h
 have hc5:decide (v4<(p0.length:Int))=true:=Jn2 (by omega)
 refine Jq<|Jg3 [2,2,2,2] 2 R<|Jn3 R U26 R R<|Jb 1 R<|Jv2 R hc5<|Js<|Jp<|Jq<|Jv<|Jg3 [2,2,2] 1 R<|Jn3 R U26 R R<|Jb 1 R<|Jq<|Ob h λq5 hq19 hK18=>?_
 clear h
 refine Jx1 (λL w'=>∃κ' s6,L=[(0,.slice a0 p0.length u0),(3,.slice ab s1.length aa),(4,vi v4),(5,vi s6)]/\Stp [] K13 w12 κ' w'/\q5=vq s6) ?_ ?_
 refine Jv<|Jy1 (λk L w'=>∃κ' s4,L=[(0,.slice a0 p0.length u0),(3,.slice ab s1.length aa),(4,vi v4),(5,vi s4)]/\Stp [] K13 w12 κ' w'/\bP (ew p0 v4 s1) k s4=some q5) ⟨_,_,⟨K13,((s1.length:Int):Int),R,Jj3,hq19⟩,(KM R)⟩ ?_
 rintro k _ w23 ⟨K24,s4,rfl,S25,h⟩
 rcases k with _ | k
 cases h
 obtain⟨o17,h,hk26⟩:=BI h;unfold ew at h
 refine Jq<|Jq<|Js1 (κ:=K24) [0,2] none [(0,2),(1,2),(2,2),(3,2),(4,2),(5,2),(6,2),(8,2),(9,2),(10,2),(7,0),(11,0),(12,2),(13,2)] [] (by kernel_rfl) (by kernel_rfl) λw28 S27=>Jn 3 R<|Ob h λp29 h hK29=>Ju1 [(3,2),(4,2),(5,2),(6,2),(8,2),(9,2),(10,2),(7,0),(11,0),(12,2),(13,2)] [] (λL w'=>L=[(0,.slice a0 p0.length u0),(3,.slice ab s1.length aa),(4,vi v4),(5,vi s4),(29,.bool p29)]/\∃κ',Stp [] K24 w28 κ' w') (Cl.refl _ _ _) ?_ ?_
 revert h
 cases ht30:decide (0<s4)
 refine JF λh=>Jn 7 R<|Je1 R R R R<|Je1 R R R R<|Jn 2 R ?_
 cases h
 exact Jv1 _ (Cl.refl _ _ _) ⟨R,_,Jj3⟩<|KM R
 refine JT λh=>Jn 3 R<|Ob h λx22 hx22 h=>Jc3 R f15.rdc hx22 U26 Z2<|Jn 2 R<|Ob h λx26 hx26 h=>Jc3 R g0 hx26 U26 Z2<|Jg R (Jc2 I2 R R<|hvC ((f15.stp (S25.tr S27) R R).rdc.gInt hx22) R)<|Jg R (Jc2 I2 R R<|hvC ((g0.stp (T4 S3 S14 S25 S27) R R).gInt hx26) R)<|Jn 2 R ?_
 cases h
 exact Jv1 _ (Cl.refl _ _ _) ⟨R,_,Jj3⟩<|KM R
 rintro _ w33 _ ⟨rfl,K34,S35⟩
 have h:=hK29
 refine Jt1<|Jd ?_
 revert h
 cases ht36:p29
 refine JF λh=>Jy R<|Jc1<|Jt<|Jt ?_
 cases h
 have h:=hk26
 refine Jb1 ?_
 cases h
 exact Jw1 _ ⟨K34,s4,R,(T3 S25 S27 S35).wk R,R⟩<|KM R
 refine JT λh=>Jx R<|Js<|Jp<|Jv<|Jf3 R<|Jz ?_
 cases h
 exact Jz1 λa ha=>⟨k,_,Ja3 _,⟨K34,((IntKind.i64.wrap<|s4-1):Int),R,(T3 S25 S27 S35).wk R,hk26⟩,(ha.mm R)⟩
 rintro _ w20 ⟨K21,s6,rfl,S22,rfl⟩
 have h:=yI hK18
 refine Jp<|Je [1,2,2,2,1,2] R<|Jo1 (κ:=K21) (E:=E6) 3 R R R R R Y26 a8 R λai aj w37 K38 S39 f40=>Tv<|Jn 2 R<|Ob h λx35 hx35 h=>Jf R (jR (k1:= .i64) (k2:= .i64) U26 Z2 (.inl ⟨R,R⟩) (.inr ⟨_,R,R⟩) hx35 f15.rdc.1 R R R) ?_
 have f42:=f15.stp (S22.tr S39) R R
 refine Ob h λx36 hx36 h=>Jm1 (κ:=K38) (E:=E6) 3 [] R R R R R R R R R Y26 a8 R R R R f40 (Sl.srcP (cb _)<|f42.rdc.sub hx35) bJ hx36 R λal an w43 K44 S45 f46=>Tv<|Jb 1 R<|Jg3 [2,2,2,2,1,1,1,2] 3 R<|Ob h λx40 hx40 h=>Jc3 R g0 hx40 U26 Z2<|Jb3 R I2 ((g0.stp (T5 S3 S14 S22 S39 S45) R R).gInt hx40)<|Jn1 (κ:=K44) (E:=E6) 4 [] (parts:=[(0,.tmp 41)]) (cells:=[vi x40]) (xs:=([x40]:List Int)) R R R R R R Y26 a8 R R R R R R R R R R ⟨[vi x40],[],Zl K44 w43 [],Zl K44 w43 [],R,Zl.sp (l1:=[]) (l2:=[]) R,Zl.sr (l1:=[]) (l2:=[]),R,R⟩ λah am w48 K49 S50 f51=>Tv<|Ob h λx43 hx43 h=>Jm1 (κ:=K49) (E:=E6) 3 [] R R R R R R R R R Y26 a8 R R R R (f46.stp S50 R R) (Sl.srcP (cb _) f51.rdc) bJ hx43 R λak ao w53 K54 S55 f56=>Tv<|Jb 1 R<|Jh3 [2,2,2,2,1,2] 3 R<|Ob h λx47 hx47 h=>Jf R (jR (k1:= .i64) (k2:= .i64) U26 Z2 (.inr ⟨_,R,R⟩) (.inl ⟨R,R⟩) hx47 f42.rdc.1 R R R)<|Ob h λx48 hx48 h=>Jm1 (κ:=K54) (E:=E6) 3 [] R R R R R R R R R Y26 a8 R R R R f56 (Sl.srcP (cb _) ((f42.stp (T3 S45 S50 S55) R R).rdc.sub hx47)) bJ hx48 R λaf ae w59 K60 S61 f62=>Tv<|Jc 1 R<|Jz<|Jp<|Jf3 R ?_
 have hw5:sh .i64 (v4+1)=v4+1:=wr1 hj5 (Jm2 hc5) hN5
 rw[hw5]
 have hc5:=Jm2 hc5
 cases h
 exact Jz1 λa ha=>⟨k,_,Ja3 _,⟨(λb=>ren [(3,2)]<|K60 b),v4+1,x48,af,ae,R,(Jy2 ((T7 S14 S22 S39 S45 S50 S55 S61).wk R) [(3,2)] R),(f62.map (ren [(3,2)]) R R),by omega,by omega,hk16⟩,(ha.mm R)⟩
 rintro _ w8 ⟨K9,s3,ad,ac,rfl,S10,f11,rfl⟩
 have h:=yI hK6
 refine Jp<|Je3 R<|Ju<|Ja2 (l:=[.tmp 2]) V64 (Jp2 R R) R ?_
 cases h
 exact⟨K9,ad,ac,R,(hE.stp (S3.tr S10) R R),f11⟩
theorem mZ {p0:Int}  {r:(List Int)}(h:kC p0=some r):Ret Try.prog 68 [vi p0] w (Pvs E6 2 κ w r):=by
 unfold kC at h
 refine Jk3 κ F68 R N68 R λhE=>Je3 R<|Je [1,2] R<|Jo1 (κ:=κ) (E:=E6) 2 R R R R R Y26 a8 R λa5 u5 w1 K2 S3 f4=>Tv<|Jb 1 R<|Jq<|Je3 R<|Ob h λ_ hr5 h=>?_
 have hN5:=lZ hr5
 refine Ob h λq2 hq7 hK6=>?_
 clear h
 refine Jx1 (λL w'=>∃κ',∃s3:(List Int),∃ad aa,L=[(3,.slice ad s3.length aa)]/\Stp [2] K2 w1 κ' w'/\Oc E6 2 κ' w' 2 ad aa s3/\q2=vq s3) ?_ ?_
 refine Jv<|Jy1 (λk L w'=>∃κ' v4,∃s1:(List Int),∃ac ab,L=[(0,vi p0),(3,.slice ac s1.length ab),(4,vi v4)]/\Stp [2] K2 w1 κ' w'/\Oc E6 2 κ' w' 2 ac ab s1/\0<=v4/\vu (p0-v4)=k/\cntM g7 k v4 s1=some q2) ⟨_,_,⟨K2,0,(([]:List Int):(List Int)),a5,u5,R,Jj3,f4,(by decide),(by simp),hq7⟩,(KM R)⟩ ?_
 rintro k _ w12 ⟨K13,v4,s1,ac,ab,rfl,S14,f15,hj5,hJ5,h⟩
 rcases k with _ | k
 have hk16:=h;obtain⟨o5,h⟩:=cc (vq (vr s1):(List Int)⊕(((List Int))⊕((List Int))))
 have hc5:decide (v4<p0)=false:=Jo2 (by omega)
 refine Jq<|Je3 R<|Jw2 R hc5<|Jc1<|Jt<|Jt ?_
 cases h
 have h:=hk16
 refine Jb1 ?_
 cases h
 exact Jw1 _ ⟨K13,s1,ac,ab,R,S14.wk R,f15,R⟩<|KM R
 obtain⟨o5,h,hk16⟩:=BI h;unfold g7 at h
 have hc5:decide (v4<p0)=true:=Jn2 (by omega)
 refine Jq<|Je3 R<|Jv2 R hc5<|Js<|Jp<|Jq<|Jv<|Jh3 [2,1,1,2] 1 R<|Jn1 (κ:=K13) (E:=E6) 3 [] (parts:=[(0,.const (vi (-1)))]) (cells:=[vi (-1)]) (xs:=([(-1)]:List Int)) R R R R R R Y26 a8 R R R R R R R R R R ⟨[vi (-1)],[],Zl K13 w12 [],Zl K13 w12 [],R,Zl.sp (l1:=[]) (l2:=[]) R,Zl.sr (l1:=[]) (l2:=[]),R,R⟩ λah ai w17 K18 S19 f20=>Tv<|Ob h λx13 hx13 h=>Jm1 (κ:=K18) (E:=E6) 2 [] R R R R R R R R R Y26 a8 R R R R (f15.stp S19 R R) (Sl.srcP (cb _) f20.rdc) bJ hx13 R λae af w22 K23 S24 f25=>Tv<|Jc 1 R<|Jz<|Jp<|Jf3 R ?_
 have hw5:sh .i64 (v4+1)=v4+1:=wr1 hj5 (Jm2 hc5) hN5
 rw[hw5]
 have hc5:=Jm2 hc5
 cases h
 exact Jz1 λa ha=>⟨k,_,Ja3 _,⟨K23,v4+1,x13,ae,af,R,(T3 S14 S19 S24).wk R,f25,by omega,by omega,hk16⟩,(ha.mm R)⟩
 rintro _ w8 ⟨K9,s3,ad,aa,rfl,S10,f11,rfl⟩
 have h:=yI hK6
 refine Jp<|Je3 R<|Ju<|Ja2 (l:=[.tmp 2]) V68 (Jp2 R R) R ?_
 cases h
 exact⟨K9,ad,aa,R,(hE.stp (S3.tr S10) R R),f11⟩
theorem qR {p0:Int}  {r:(List Bool)}(h:mj p0=some r):Ret Try.prog 94 [vi p0] w (Pvs Ep.bool 4 κ w r):=by
 unfold mj at h
 refine Jk3 κ F94 R N94 R λhE=>Je3 R<|Jg3 [2,1,2] 1 R<|Ob h λx6 hx6 h=>Jl1 (κ:=κ) (E:=Ep.bool) (z:=(false:Bool)) 2 R R R R R R R Y123 i7 R R R R R (λ_ _ _=>R) (Ju2 hx6) λa6 u6 w1 K2 S3 f4=>Tv<|Jb 1 R<|Jq<|Je3 R<|Ob h λ_ hr5 h=>?_
 have hN5:=lZ hr5
 refine Ob h λq2 hq7 hK6=>?_
 clear h
 refine Jx1 (λL w'=>∃κ',∃s3:(List Bool),L=[(3,.slice a6 x6.length u6)]/\Stp [2] K2 w1 κ' w'/\Oc Ep.bool 4 κ' w' 2 a6 u6 s3/\x6.length=s3.length/\q2=vq s3) ?_ ?_
 refine Jv<|Jy1 (λk L w'=>∃κ' v4,∃s1:(List Bool),L=[(0,vi p0),(3,.slice a6 x6.length u6),(4,vi v4)]/\Stp [2] K2 w1 κ' w'/\Oc Ep.bool 4 κ' w' 2 a6 u6 s1/\x6.length=s1.length/\0<=v4/\vu (p0-v4)=k/\cntM iE k v4 s1=some q2) ⟨_,_,⟨K2,0,x6,R,Jj3,f4,R,(by decide),(by simp),hq7⟩,(KM R)⟩ ?_
 rintro k _ w13 ⟨K14,v4,s1,rfl,S15,f16,hn17,hj5,hJ5,h⟩
 rcases k with _ | k
 have hk18:=h;obtain⟨o5,h⟩:=cc (vq (vr s1):(List Bool)⊕(((List Bool))⊕((List Bool))))
 have hc5:decide (v4<p0)=false:=Jo2 (by omega)
 refine Jq<|Je3 R<|Jw2 R hc5<|Jc1<|Jt<|Jt ?_
 cases h
 have h:=hk18
 refine Jb1 ?_
 cases h
 exact Jw1 _ ⟨K14,s1,R,S15.wk R,f16,hn17,R⟩<|KM R
 obtain⟨o5,h,hk18⟩:=BI h;unfold iE at h
 have hc5:decide (v4<p0)=true:=Jn2 (by omega)
 refine Jq<|Je3 R<|Jv2 R hc5<|Js<|Jp<|Jq<|Jv<|Jh3 [2,2,2,1] 2 R<|Ob h λx14 hx14 h=>Jf R (Jf2 f16.rdc hx14 U123 Z4 R R hn17 R)<|Ob h λy221 hy221 h=>Jk1 (κ:=K14) (E:=Ep.bool) 2 [] R R R R R R R R Z4 R R R R f16 hy221 λw19 K20 S21 f22=>Tv<|?_
 have hn23:x6.length=y221.length:=hn17.trans (Jt2 hy221).2.2.2.symm
 refine Jo<|Jz<|Jp<|Jf3 R ?_
 have hw5:sh .i64 (v4+1)=v4+1:=wr1 hj5 (Jm2 hc5) hN5
 rw[hw5]
 have hc5:=Jm2 hc5
 cases h
 exact Jz1 λa ha=>⟨k,_,Ja3 _,⟨K20,v4+1,y221,R,(S15.tr S21).wk R,f22,hn23,by omega,by omega,hk18⟩,(ha.mm R)⟩
 rintro _ w8 ⟨K9,s3,rfl,S10,f11,hn12,rfl⟩
 have h:=yI hK6
 refine Jp<|Je3 R<|Ju<|Ja2 (l:=[.tmp 2]) V94 (Jp2 R R) R ?_
 cases h
 exact⟨K9,a6,u6,(by simp only[hn12]),(hE.stp (S3.tr S10) R R),f11⟩
theorem mY {a0 u0}{p0:(List Bool)}{a1 u1}{p1:(List Bool)}(g0:Rd Rp.bool κ w 0 a0 u0 p0) (g1:Rd Rp.bool κ w 0 a1 u1 p1){r:(List Bool)}(h:jT p0 p1=some r):Ret Try.prog 98 [.slice a0 p0.length u0,.slice a1 p1.length u1] w (Pvs Ep.bool 4 κ w r):=by
 unfold jT at h
 refine Jk3 κ F98 R N98 R λhE=>Je3 R<|Jg3 [2,2,1,2] 1 R<|Jn3 R U123 R R<|Ob h λx9 hx9 h=>Jl1 (κ:=κ) (E:=Ep.bool) (z:=(false:Bool)) 2 R R R R R R R Y123 i7 R R R R R (λ_ _ _=>R) (Ju2 hx9) λa9 u9 w1 K2 S3 f4=>Tv<|Jb 1 R<|Jq<|Je3 R ?_
 have hN5:(p0.length:Int)<=9223372036854775807:=g0.len_le
 refine Ob h λq2 hq7 hK6=>?_
 clear h
 refine Jx1 (λL w'=>∃κ',∃s3:(List Bool),L=[(5,.slice a9 x9.length u9)]/\Stp [2] K2 w1 κ' w'/\Oc Ep.bool 4 κ' w' 2 a9 u9 s3/\x9.length=s3.length/\q2=vq s3) ?_ ?_
 refine Jv<|Jy1 (λk L w'=>∃κ' v6,∃s1:(List Bool),L=[(0,.slice a0 p0.length u0),(1,.slice a1 p1.length u1),(5,.slice a9 x9.length u9),(6,vi v6)]/\Stp [2] K2 w1 κ' w'/\Oc Ep.bool 4 κ' w' 2 a9 u9 s1/\x9.length=s1.length/\0<=v6/\vu ((p0.length:Int)-v6)=k/\cntM (gW p0 p1) k v6 s1=some q2) ⟨_,_,⟨K2,0,x9,R,Jj3,f4,R,(by decide),(by simp),hq7⟩,(KM R)⟩ ?_
 rintro k _ w13 ⟨K14,v6,s1,rfl,S15,f16,hn17,hj5,hJ5,h⟩
 rcases k with _ | k
 have hk18:=h;obtain⟨o5,h⟩:=cc (vq (vr s1):(List Bool)⊕(((List Bool))⊕((List Bool))))
 have hc5:decide (v6<(p0.length:Int))=false:=Jo2 (by omega)
 refine Jq<|Jg3 [2,2,2,2] 2 R<|Jn3 R U123 R R<|Jb 1 R<|Jw2 R hc5<|Jc1<|Jt<|Jt ?_
 cases h
 have h:=hk18
 refine Jb1 ?_
 cases h
 exact Jw1 _ ⟨K14,s1,R,S15.wk R,f16,hn17,R⟩<|KM R
 obtain⟨o5,h,hk18⟩:=BI h;unfold gW at h
 have hc5:decide (v6<(p0.length:Int))=true:=Jn2 (by omega)
 refine Jq<|Jg3 [2,2,2,2] 2 R<|Jn3 R U123 R R<|Jb 1 R<|Jv2 R hc5<|Js<|Jp<|Jq<|Jv<|Jh3 [2,2,2,2,2,1,2,2,2,2,1,2,2,2,1] 4 R<|Ob h λx20 hx20 h=>Jc3 R g0 hx20 U123 Z4<|Jb3 R I4 ((g0.stp (S3.tr S15) R R).gBool hx20)<|Jn 1 R<|Ob h λp28 h hK20=>Ju1 [(7,2),(8,2),(9,2),(10,1),(11,2),(12,2)] [(13,2),(14,1)] (λL w'=>L=[(0,.slice a0 p0.length u0),(1,.slice a1 p1.length u1),(5,.slice a9 x9.length u9),(6,vi v6),(16,.slice a9 x9.length u9),(17,vi v6),(28,.bool p28)]/\∃κ',Stp [] K14 w13 κ' w') tv ?_ ?_
 revert h
 cases ht21:x20
 refine JF λh=>Jn 3 R<|Jd1 R R R R<|Jn 2 R ?_
 cases h
 exact Jv1 _ tv ⟨R,_,Jj3⟩<|KM R
 refine JT λh=>Jn 2 R<|Ob h λx25 hx25 h=>Jc3 R g1 hx25 U123 Z4<|Jb3 R I4 ((g1.stp (S3.tr S15) R R).gBool hx25)<|Jn 2 R ?_
 cases h
 exact Jv1 _ tv ⟨R,_,Jj3⟩<|KM R
 rintro _ w23 _ ⟨rfl,K24,S25⟩
 have h:=hK20
 refine Ob h λx29 hx29 h=>Jf R (Jf2 f16.rdc hx29 U123 Z4 R R hn17 R)<|Ob h λy243 hy243 h=>Jk1 (κ:=K24) (E:=Ep.bool) 2 [] R R R R R R R R Z4 R R R R (f16.stp S25 R R) hy243 λw27 K28 S29 f30=>Tv<|?_
 have hn31:x9.length=y243.length:=hn17.trans (Jt2 hy243).2.2.2.symm
 refine Jo<|Jz<|Jp<|Jf3 R ?_
 have hw5:sh .i64 (v6+1)=v6+1:=wr1 hj5 (Jm2 hc5) hN5
 rw[hw5]
 have hc5:=Jm2 hc5
 cases h
 exact Jz1 λa ha=>⟨k,_,Ja3 _,⟨K28,v6+1,y243,R,(T3 S15 S25 S29).wk R,f30,hn31,by omega,by omega,hk18⟩,(ha.mm R)⟩
 rintro _ w8 ⟨K9,s3,rfl,S10,f11,hn12,rfl⟩
 have h:=yI hK6
 refine Jp<|Je3 R<|Ju<|Ja2 (l:=[.tmp 4]) V98 (Jp2 R R) R ?_
 cases h
 exact⟨K9,a9,u9,(by simp only[hn12]),(hE.stp (S3.tr S10) R R),f11⟩
theorem p7 {a0 u0}{p0:(List Int)}{a1 u1}{p1:(List Int)}(g0:Rd (Rp.int .i64) κ w 0 a0 u0 p0) (g1:Rd (Rp.int .i64) κ w 0 a1 u1 p1){r:Bool}(h:kY p0 p1=some r):Ret Try.prog 92 [.slice a0 p0.length u0,.slice a1 p1.length u1] w (Pvb κ w r):=by
 unfold kY at h
 refine Jk3 κ F92 R N92 R λhE=>Je3 R<|Jq<|Jg3 [2,2,2,2,2] 1 R<|Jn3 R U26 R R<|Jn 1 R<|Jn3 R U26 R R<|Jb 1 R ?_
 revert h
 cases ht1:((p0.length:Int) !=(p1.length:Int))
 refine JF λh=>Jy R<|Js<|Jp<|Jq<|Je3 R ?_
 have hN2:(p0.length:Int)<=9223372036854775807:=g0.len_le
 refine Ob h λq2 hq4 hK3=>?_
 clear h
 refine Jx1 (λL w'=>∃κ',L=[]/\Stp [] κ w κ' w'/\q2=vq ()) ?_ ?_
 refine Jv<|Jy1 (λk L w'=>∃κ' v5,L=[(0,.slice a0 p0.length u0),(1,.slice a1 p1.length u1),(5,vi v5)]/\Stp [] κ w κ' w'/\0<=v5/\vu ((p0.length:Int)-v5)=k/\cntM (hU p0 p1) k v5 ()=some q2) ⟨_,_,⟨κ,0,R,Jj3,(by decide),(by simp),hq4⟩,(KM R)⟩ ?_
 rintro k _ w8 ⟨K9,v5,rfl,S10,hj2,hJ2,h⟩
 rcases k with _ | k
 have hk11:=h;obtain⟨o2,h⟩:=cc (vq (vr ()):Bool⊕((Unit)⊕(Unit)))
 have hc2:decide (v5<(p0.length:Int))=false:=Jo2 (by omega)
 refine Jq<|Jg3 [2,2,2,2] 2 R<|Jn3 R U26 R R<|Jb 1 R<|Jw2 R hc2<|Jc1<|Jt<|Jt ?_
 cases h
 have h:=hk11
 refine Jb1 ?_
 cases h
 exact Jw1 _ ⟨K9,R,S10.wk R,R⟩ KN
 obtain⟨o2,h,hk11⟩:=BI h;unfold hU at h
 have hc2:decide (v5<(p0.length:Int))=true:=Jn2 (by omega)
 refine Jq<|Jg3 [2,2,2,2] 2 R<|Jn3 R U26 R R<|Jb 1 R<|Jv2 R hc2<|Js<|Jp<|Jq<|Jv<|Jq<|Js1 (κ:=K9) [0] none [(0,2),(1,2),(2,2),(4,2),(5,2),(6,2),(3,0),(7,0),(8,2)] [] (by kernel_rfl) (by kernel_rfl) λw13 S12=>Jn 2 R<|Ob h λx19 hx19 h=>Jc3 R g0 hx19 U26 Z2<|Jn 2 R<|Ob h λx23 hx23 h=>Jc3 R g1 hx23 U26 Z2<|Jg R (Jc2 I2 R R<|hvC ((g0.stp (S10.tr S12) R R).gInt hx19) R)<|Jg R (Jc2 I2 R R<|hvC ((g1.stp (S10.tr S12) R R).gInt hx23) R)<|Jn 1 R<|Jt1<|Jd ?_
 revert h
 cases ht16:(x19 !=x23)
 refine JF λh=>Jy R<|Js<|Jz<|Jp<|Jf3 R ?_
 have hw2:sh .i64 (v5+1)=v5+1:=wr1 hj2 (Jm2 hc2) hN2
 rw[hw2]
 have hc2:=Jm2 hc2
 cases h
 exact Jz1 λa ha=>⟨k,_,Ja3 _,⟨K9,v5+1,R,(S10.tr S12).wk R,by omega,by omega,hk11⟩,(ha.mm R)⟩
 refine JT λh=>Jx R<|Je3 R<|Ju<|Ja1<|Jw<|Jw ?_
 cases h
 obtain rfl:=Option.some.inj hk11
 have h:=yL hK3
 refine Ja1<|Jq2<|Jw<|Ja2 (l:=[.tmp 4]) V92 (Jp2 R R) R ?_
 cases h
 exact⟨K9,R,(hE.stp (S10.tr S12) R R)⟩
 rintro _ w5 ⟨K6,rfl,S7,rfl⟩
 have h:=yI hK3
 refine Jp<|Je3 R<|Ju<|Ja2 (l:=[.tmp 4]) V92 (Jp2 R R) R ?_
 cases h
 exact⟨K6,R,(hE.stp S7 R R)⟩
 refine JT λh=>Jx R<|Je3 R<|Ju<|Jw<|Ja2 (l:=[.tmp 4]) V92 (Jp2 R R) R ?_
 cases h
 exact⟨κ,R,hE⟩
theorem lL {p0:Sig}  {r:Bool}(h:jn p0=some r):Ret Try.prog 18 [.agg #[vi p0.In,vi p0.Out]] w (Pvb κ w r):=by
 unfold jn at h
 refine Jk3 κ F18 R N18 R λhE=>Je [1,2] R<|Jf1 (κ:=κ) 2 R R R R R R R λb1 w1 K2 S3 f4=>Tv<|Jb 1 R<|Je [2,1,2,2,2,1,2,2,2,2,1,2,2,2,2,1,2,2,2] R<|Jd3 R U25 R Z2<|Jb3 R I2 (f4.ld 0 R R)<|Jn 2 R<|Ob h λp10 h hK5=>Ju1 [(4,2),(5,1),(6,2),(7,2)] [(8,2),(9,2),(10,1),(11,2),(12,2),(13,2),(14,2),(15,1),(16,2),(17,2),(18,2)] (λL w'=>L=[(1,.pointer (some ⟨b1,0,none⟩)),(2,.bool false),(10,.bool p10)]/\∃κ',Stp [] K2 w1 κ' w') tv ?_ ?_
 revert h
 cases ht6:decide (1<=p0.In)
 refine JF λh=>Jn 1 R<|Jd1 R R R R<|Jn 2 R ?_
 cases h
 exact Jv1 _ tv ⟨R,_,Jj3⟩<|KM R
 refine JT λh=>Jd3 R U25 R Z2<|Jb3 R I2 (f4.ld 0 R R)<|Jn 2 R ?_
 cases h
 exact Jv1 _ tv ⟨R,_,Jj3⟩<|KM R
 rintro _ w7 _ ⟨rfl,K8,S9⟩
 have h:=hK5
 refine Jn 1 R<|Ob h λp15 h hK10=>Ju1 [(9,2),(10,1),(11,2),(12,2)] [(13,2),(14,2),(15,1),(16,2),(17,2),(18,2)] (λL w'=>L=[(1,.pointer (some ⟨b1,0,none⟩)),(2,.bool false),(15,.bool p15)]/\∃κ',Stp [] K8 w7 κ' w') tv ?_ ?_
 revert h
 cases ht11:p10
 refine JF λh=>Jn 1 R<|Jd1 R R R R<|Jn 2 R ?_
 cases h
 exact Jv1 _ tv ⟨R,_,Jj3⟩<|KM R
 refine JT λh=>Jd3 R U25 R Z2<|Jb3 R I2 ((f4.stp S9 R R).ld 1 R R)<|Jn 2 R ?_
 cases h
 exact Jv1 _ tv ⟨R,_,Jj3⟩<|KM R
 rintro _ w13 _ ⟨rfl,K14,S15⟩
 have h:=hK10
 refine Jn 1 R<|Ob h λp20 h hK16=>Ju1 [(14,2),(15,1),(16,2),(17,2)] [(18,2)] (λL w'=>L=[(2,.bool false),(20,.bool p20)]/\∃κ',Stp [] K14 w13 κ' w') tv ?_ ?_
 revert h
 cases ht17:p15
 refine JF λh=>Jn 1 R<|Jd1 R R R R<|Jn 2 R ?_
 cases h
 exact Jv1 _ tv ⟨R,_,Jj3⟩<|KM R
 refine JT λh=>Jd3 R U25 R Z2<|Jb3 R I2 ((f4.stp (S9.tr S15) R R).ld 1 R R)<|Jn 2 R ?_
 cases h
 exact Jv1 _ tv ⟨R,_,Jj3⟩<|KM R
 rintro _ w19 _ ⟨rfl,K20,S21⟩
 have h:=hK16
 refine Jb 1 R<|Ju<|Ja2 (l:=[.tmp 2]) V18 (Jp2 R R) R ?_
 cases h
 exact⟨K20,R,(hE.stp (T4 S3 S9 S15 S21) R R)⟩
theorem ox {p0:Sig}  {r:Int}(h:dV p0=some r):Ret Try.prog 39 [.agg #[vi p0.In,vi p0.Out]] w (Pvi κ w r):=by
 unfold dV at h
 refine Jk3 κ F39 R N39 R λhE=>Je [1,2] R<|Jf1 (κ:=κ) 2 R R R R R R R λb1 w1 K2 S3 f4=>Tv<|Jb 1 R<|Je [2,1,2,2] R<|Jd3 R U25 R Z2<|Jb3 R I2 (f4.ld 0 R R)<|Ob h λ_z5 hz5 h=>Jf R (re R R R<|tf hz5)<|Jb 1 R<|Ju<|Ja2 (l:=[.tmp 2]) V39 (Jp2 R R) R ?_
 cases h
 exact⟨K2,R,(hE.stp S3 R R)⟩
theorem lH {a0 u0}{p0:(List Int)}{a1 u1}{p1:(List Int)}(g0:Rd (Rp.int .i64) κ w 0 a0 u0 p0) (g1:Rd (Rp.int .i64) κ w 0 a1 u1 p1){r:Bool}(h:gu p0 p1=some r):Ret Try.prog 7 [.slice a0 p0.length u0,.slice a1 p1.length u1] w (Pvb κ w r):=by
 unfold gu at h
 refine Jk3 κ F7 R N7 R λhE=>Je3 R<|Jq<|Jg3 [2,2,2,2,2] 1 R<|Jn3 R U26 R R<|Jn 1 R<|Jn3 R U26 R R<|Jb 1 R ?_
 revert h
 cases ht1:((p0.length:Int) !=(p1.length:Int))
 refine JF λh=>Jy R<|Js<|Jp<|Jq<|Je3 R ?_
 have hN2:(p0.length:Int)<=9223372036854775807:=g0.len_le
 refine Ob h λq2 hq4 hK3=>?_
 clear h
 refine Jx1 (λL w'=>∃κ',L=[]/\Stp [] κ w κ' w'/\q2=vq ()) ?_ ?_
 refine Jv<|Jy1 (λk L w'=>∃κ' v5,L=[(0,.slice a0 p0.length u0),(1,.slice a1 p1.length u1),(5,vi v5)]/\Stp [] κ w κ' w'/\0<=v5/\vu ((p0.length:Int)-v5)=k/\cntM (eS p0 p1) k v5 ()=some q2) ⟨_,_,⟨κ,0,R,Jj3,(by decide),(by simp),hq4⟩,(KM R)⟩ ?_
 rintro k _ w8 ⟨K9,v5,rfl,S10,hj2,hJ2,h⟩
 rcases k with _ | k
 have hk11:=h;obtain⟨o2,h⟩:=cc (vq (vr ()):Bool⊕((Unit)⊕(Unit)))
 have hc2:decide (v5<(p0.length:Int))=false:=Jo2 (by omega)
 refine Jq<|Jg3 [2,2,2,2] 2 R<|Jn3 R U26 R R<|Jb 1 R<|Jw2 R hc2<|Jc1<|Jt<|Jt ?_
 cases h
 have h:=hk11
 refine Jb1 ?_
 cases h
 exact Jw1 _ ⟨K9,R,S10.wk R,R⟩ KN
 obtain⟨o2,h,hk11⟩:=BI h;unfold eS at h
 have hc2:decide (v5<(p0.length:Int))=true:=Jn2 (by omega)
 refine Jq<|Jg3 [2,2,2,2] 2 R<|Jn3 R U26 R R<|Jb 1 R<|Jv2 R hc2<|Js<|Jp<|Jq<|Jv<|Jq<|Js1 (κ:=K9) [0] none [(0,2),(1,2),(2,2),(4,2),(5,2),(6,2),(3,0),(7,0),(8,2)] [] (by kernel_rfl) (by kernel_rfl) λw13 S12=>Jn 2 R<|Ob h λx19 hx19 h=>Jc3 R g0 hx19 U26 Z2<|Jn 2 R<|Ob h λx23 hx23 h=>Jc3 R g1 hx23 U26 Z2<|Jg R (Jc2 I2 R R<|hvC ((g0.stp (S10.tr S12) R R).gInt hx19) R)<|Jg R (Jc2 I2 R R<|hvC ((g1.stp (S10.tr S12) R R).gInt hx23) R)<|Jn 1 R<|Jt1<|Jd ?_
 revert h
 cases ht16:(x19 !=x23)
 refine JF λh=>Jy R<|Js<|Jz<|Jp<|Jf3 R ?_
 have hw2:sh .i64 (v5+1)=v5+1:=wr1 hj2 (Jm2 hc2) hN2
 rw[hw2]
 have hc2:=Jm2 hc2
 cases h
 exact Jz1 λa ha=>⟨k,_,Ja3 _,⟨K9,v5+1,R,(S10.tr S12).wk R,by omega,by omega,hk11⟩,(ha.mm R)⟩
 refine JT λh=>Jx R<|Je3 R<|Ju<|Ja1<|Jw<|Jw ?_
 cases h
 obtain rfl:=Option.some.inj hk11
 have h:=yL hK3
 refine Ja1<|Jq2<|Jw<|Ja2 (l:=[.tmp 4]) V7 (Jp2 R R) R ?_
 cases h
 exact⟨K9,R,(hE.stp (S10.tr S12) R R)⟩
 rintro _ w5 ⟨K6,rfl,S7,rfl⟩
 have h:=yI hK3
 refine Jp<|Je3 R<|Ju<|Ja2 (l:=[.tmp 4]) V7 (Jp2 R R) R ?_
 cases h
 exact⟨K6,R,(hE.stp S7 R R)⟩
 refine JT λh=>Jx R<|Je3 R<|Ju<|Jw<|Ja2 (l:=[.tmp 4]) V7 (Jp2 R R) R ?_
 cases h
 exact⟨κ,R,hE⟩
theorem sb {a0 u0}{p0:(List Int)}{p1:Int}(g0:Rd (Rp.int .u8) κ w 0 a0 u0 p0){r:dice}(h:nW p0 p1=some r):Ret Try.prog 11 [.slice a0 p0.length u0,.int .u64 p1] w (λv w'=>∃(κ':Col) (ra0:Option Addr) (ru0:Nat) (rb1:Nat),v= .pointer (some ⟨rb1,0,none⟩)/\Ent κ w κ' w'/\Rd (Rp.int .u8) κ' w' 0 ra0 ru0 r.b/\(Bc κ' w' 3 rb1 52 [.slice ra0 r.b.length ru0,vi r.i,.int .u64 r.h])):=by
 unfold nW at h
 refine Jk3 κ F11 R N11 R λhE=>Je3 R<|Jg3 [2,2,2,2,2,2,2,2,1,2] 4 R<|Jn3 R U22 R R<|Jf R (Jh2 U3 U37 R R)<|Jn 1 R<|Jf R (bF (parts:=[(0,.tmp 7),(2,.tmp 13)]) (cells:=[.slice a0 p0.length u0,vi 0,.int .u64 (IntKind.u64.wrap ((IntKind.u64.wrap<|p1 * 7919)+(IntKind.u64.wrap (p0.length:Int))))]) R R (by kernel_rfl))<|Jf1 (κ:=κ) 2 R R R R R R R λb15 w1 K2 S3 f4=>Tv<|Jb 1 R<|Jq<|Je3 R ?_
 have hN5:(p0.length:Int)<=9223372036854775807:=g0.len_le
 refine Ob h λq2 hq7 hK6=>?_
 clear h
 refine Jx1 (λL w'=>∃κ' s3,L=[(5,.pointer (some ⟨b15,0,none⟩))]/\Stp [2] K2 w1 κ' w'/\Bc κ' w' 2 b15 52 [.slice a0 p0.length u0,vi 0,.int .u64 s3]/\q2=vq s3) ?_ ?_
 refine Jv<|Jy1 (λk L w'=>∃κ' v6 s1,L=[(0,.slice a0 p0.length u0),(5,.pointer (some ⟨b15,0,none⟩)),(6,vi v6)]/\Stp [2] K2 w1 κ' w'/\Bc κ' w' 2 b15 52 [.slice a0 p0.length u0,vi 0,.int .u64 s1]/\0<=v6/\vu ((p0.length:Int)-v6)=k/\cntM (jL p0) k v6 s1=some q2) ⟨_,_,⟨K2,0,((IntKind.u64.wrap ((IntKind.u64.wrap<|p1 * 7919)+(IntKind.u64.wrap (p0.length:Int)))):Int),R,Jj3,f4,(by decide),(by simp),hq7⟩,(KM R)⟩ ?_
 rintro k _ w12 ⟨K13,v6,s1,rfl,S14,f15,hj5,hJ5,h⟩
 rcases k with _ | k
 have hk16:=h;obtain⟨o5,h⟩:=cc (vq (vr s1):dice⊕((Int)⊕(Int)))
 have hc5:decide (v6<(p0.length:Int))=false:=Jo2 (by omega)
 refine Jq<|Jg3 [2,2,2,2] 2 R<|Jn3 R U22 R R<|Jb 1 R<|Jw2 R hc5<|Jc1<|Jt<|Jt ?_
 cases h
 have h:=hk16
 refine Jb1 ?_
 cases h
 exact Jw1 _ ⟨K13,s1,R,S14.wk R,f15,R⟩<|KM R
 obtain⟨o5,h,hk16⟩:=BI h;unfold jL at h
 have hc5:decide (v6<(p0.length:Int))=true:=Jn2 (by omega)
 refine Jq<|Jg3 [2,2,2,2] 2 R<|Jn3 R U22 R R<|Jb 1 R<|Jv2 R hc5<|Js<|Jp<|Jq<|Jv<|Js1 (κ:=K13) [0,2] (some 15) [(0,2),(1,2),(2,2),(3,2),(6,2),(7,2),(8,2),(4,0),(5,2),(9,0),(10,2),(11,2),(12,2),(13,2),(14,2)] [(15,1)] (by kernel_rfl) (by kernel_rfl) λw18 S17=>Jn 2 R<|Jf R (bV R R)<|Jd3 R U52 R Z37<|Jn 2 R<|Ob h λx30 hx30 h=>Jc3 R g0 hx30 U22 Z5 ?_
 have f19:=f15.stp S17 R R
 refine Jg R (Jc2 I37 R R<|hvC (f19.ld 2 R R) R)<|Jn 1 R<|Jg R (Jc2 I5 R R<|hvC ((g0.stp (T3 S3 S14 S17) R R).gInt hx30) R)<|Jf R (Jh2 U5 U37 R R)<|Jn 2 R<|Jf R (bV R R)<|Jd3 R U52 R Z37<|Jt1<|Ji1 (κ:=K13) 2 (off:=2) (vc:=[.int .u64 (IntKind.u64.wrap ((IntKind.u64.wrap ((IntKind.u64.wrap<|s1 * 1099511628211)+(IntKind.u64.wrap x30)))+3))]) (cs':=[.slice a0 p0.length u0,vi 0,.int .u64 (IntKind.u64.wrap ((IntKind.u64.wrap ((IntKind.u64.wrap<|s1 * 1099511628211)+(IntKind.u64.wrap x30)))+3))]) R R R R R R R Z37 R R f19 R R λw21 S22 f23=>Tv<|Jo<|Jz<|Jp<|Jf3 R ?_
 have hw5:sh .i64 (v6+1)=v6+1:=wr1 hj5 (Jm2 hc5) hN5
 rw[hw5]
 have hc5:=Jm2 hc5
 cases h
 exact Jz1 λa ha=>⟨k,_,Ja3 _,⟨K13,v6+1,((IntKind.u64.wrap ((IntKind.u64.wrap ((IntKind.u64.wrap<|s1 * 1099511628211)+(IntKind.u64.wrap x30)))+3)):Int),R,(T3 S14 S17 S22).wk R,f23,by omega,by omega,hk16⟩,(ha.mm R)⟩
 rintro _ w8 ⟨K9,s3,rfl,S10,f11,rfl⟩
 have h:=yI hK6
 refine Jp<|Je3 R<|Ju<|Ja2 (l:=[.tmp 4]) V11 (Jp2 R R) R ?_
 cases h
 exact⟨(λb=>ren [(2,3)]<|K9 b),a0,u0,b15,R,((hE.stp (S3.tr S10) R R).map (ren [(2,3)]) R R),((g0.stp (S3.tr S10) R R).map (ren [(2,3)]) R R),(f11.map (ren [(2,3)]) R R)⟩
end Go.Proofs.Ytpcjbkgbnoocaaa
