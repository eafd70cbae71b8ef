/- The walks, part 1. By program. -/
import Derived.Test.YtpcjbkgbnoocaaaGreatFnsMDU
import Derived.Test.YtpcjbkgbnoocaaaGreatAlDU
set_option linter.unusedVariables false
set_option linter.unusedSimpArgs false
open Go.IntKind renaming wrap → sh
open Sum renaming inr → yk, inl → yl
open Int renaming toNat → yn
namespace Go.Proofs.YtpcjbkgbnoocaaaGreat
open Go Go.Wk Go.Proofs
set_option maxRecDepth 100000
set_option maxHeartbeats 1000000
variable {w:World}{κ:Col}
theorem py {a0 u0}{p0:(List Int)}(g0:Rd (Rp.int .u8) κ w 0 a0 u0 p0){r:l1Cur}(h:mT p0=some r):Ret Tryz.prog 42 [.slice a0 p0.length u0] w (λv w'=>∃(κ':Col) (ra0:Option Addr) (ru0:Nat) (rb1:Nat),v= .pointer (some ⟨rb1,0,none⟩)/\Ent κ w κ' w'/\Rd (Rp.int .u8) κ' w' 0 ra0 ru0 r.b/\(Bc κ' w' 3 rb1 142 [.slice ra0 r.b.length ru0,vi r.i,vi r.h])):=by
 unfold mT at h
 refine Jk3 κ F42 R N42 R λhE=>Je3 R<|Jg3 [2,2,2,2] 1 R<|Jn3 R U22 R R<|Jb 2 R<|Jq<|Je3 R ?_
 have hN1:(p0.length:Int)<=9223372036854775807:=g0.len_le
 refine Ob h λq2 hq3 hK2=>?_
 clear h
 refine Jx1 (λL w'=>∃κ' s3,L=[(0,.slice a0 p0.length u0),(3,vi s3)]/\Stp [] κ w κ' w'/\q2=yk s3) ?_ ?_
 refine Jv<|Jy1 (λk L w'=>∃κ' v4 s1,L=[(0,.slice a0 p0.length u0),(3,vi s1),(4,vi v4)]/\Stp [] κ w κ' w'/\0<=v4/\yn ((p0.length:Int)-v4)=k/\cntM (jM p0) k v4 s1=some q2) ⟨_,_,⟨κ,0,((IntKind.i64.wrap (560017+(p0.length:Int))):Int),R,Jj3,(by decide),(by simp),hq3⟩,(KM R)⟩ ?_
 rintro k _ w7 ⟨K8,v4,s1,rfl,S9,hj1,hJ1,h⟩
 rcases k with _ | k
 have hk10:=h;obtain⟨o1,h⟩:=ca (yk (yl s1):l1Cur⊕((Int)⊕(Int)))
 have hc1:decide (v4<(p0.length:Int))=false:=Jo2 (by omega)
 refine Jq<|Jg3 [2,2,2,2] 2 R<|Jn3 R U22 R R<|Jb 1 R<|Jw2 R hc1<|Jc1<|Jt<|Jt ?_
 cases h
 have h:=hk10
 refine Jb1 ?_
 cases h
 exact Jw1 _ ⟨K8,s1,R,S9.wk R,R⟩<|KM R
 obtain⟨o1,h,hk10⟩:=BI h;unfold jM at h
 have hc1:decide (v4<(p0.length:Int))=true:=Jn2 (by omega)
 refine Jq<|Jg3 [2,2,2,2] 2 R<|Jn3 R U22 R R<|Jb 1 R<|Jv2 R hc1<|Js<|Jp<|Jq<|Jv<|Jh3 [2,2,2,2,2,1,2,2,2,2,2] 4 R<|Ob h λx18 hx18 h=>Jc3 R g0 hx18 U22 Z5<|Jb3 R I5 ((g0.stp S9 R R).gInt hx18)<|Jf R (Jh2 U5 U2 R R)<|Jc 4 R<|Jz<|Jp<|Jf3 R ?_
 have hw1:sh .i64 (v4+1)=v4+1:=wr1 hj1 (Jm2 hc1) hN1
 rw[hw1]
 have hc1:=Jm2 hc1
 cases h
 exact Jz1 λa ha=>⟨k,_,Ja3 _,⟨K8,v4+1,((IntKind.i64.wrap<|BitVec.toNat<|BitVec.ofInt (IntKind.bits IntKind.i64) (IntKind.i64.wrap ((IntKind.i64.wrap ((IntKind.i64.wrap<|s1 * 313)+(IntKind.i64.wrap x18)))+11)) &&& BitVec.ofInt (IntKind.bits IntKind.i64) 1073741823):Int),R,S9.wk R,by omega,by omega,hk10⟩,(ha.mm R)⟩
 rintro _ w4 ⟨K5,s3,rfl,S6,rfl⟩
 have h:=yI hK2
 refine Jp<|Jg3 [2,2,2,1,2] 2 R<|Jf R (bG (parts:=[(0,.tmp 24),(2,.tmp 25)]) (cells:=[.slice a0 p0.length u0,vi 0,vi s3]) R R (by kernel_rfl))<|Jf1 (κ:=K5) 2 R R R R R R R λb27 w12 K13 S14 f15=>Tv<|Jb 1 R<|Ju<|Ja2 (l:=[.tmp 2]) V42 (Jp2 R R) R ?_
 cases h
 exact⟨(λb=>ren [(2,3)]<|K13 b),a0,u0,b27,R,((hE.stp (S6.tr S14) R R).map (ren [(2,3)]) R R),((g0.stp (S6.tr S14) R R).map (ren [(2,3)]) R R),(f15.map (ren [(2,3)]) R R)⟩
theorem iU {aa ab}{p0:l1Cur}{b0}(g0_0:Rd (Rp.int .u8) κ w 0 aa ab p0.b) (gb0:Bc κ w 2 b0 142 [.slice aa p0.b.length ab,vi p0.i,vi p0.h]){r:Int×Int×Int}(h:hU p0=some r):Ret Tryz.prog 156 [.pointer (some ⟨b0,0,none⟩)] w (λv w'=>∃(κ':Col),v=vi r.1/\Ent κ w κ' w'/\Bc κ' w' 2 b0 142 [.slice aa p0.b.length ab,vi r.2.1,vi r.2.2]):=by
 unfold hU at h
 refine Jk3 κ F156 R N156 R λhE=>Je3 R<|Jg3 [2,2,2,2,1,2,2,2,2,1] 2 R<|Jf R (dj R R)<|Jd3 R U142 R Z2<|Jb3 R I2 (gb0.ld 2 R R)<|Jn 2 R<|Jf R (dj R R)<|Jd3 R U142 R Z2<|Ji1 (κ:=κ) 2 (off:=2) (vc:=[vi<|IntKind.i64.wrap ((IntKind.i64.wrap<|p0.h * 6364136223846793005)+1442695040888963407)]) (cs':=[.slice aa p0.b.length ab,vi p0.i,vi<|IntKind.i64.wrap ((IntKind.i64.wrap<|p0.h * 6364136223846793005)+1442695040888963407)]) R R R R R R R Z2 R R gb0 R R λw1 S2 f3=>Tv<|Jd<|Jq<|Js1 (κ:=κ) [2] none [(0,2),(1,2),(2,2),(5,2),(6,2),(7,2),(3,0),(4,2),(8,0),(9,2),(10,2),(11,2),(12,2)] [] (by kernel_rfl) (by kernel_rfl) λw5 S4=>Jn 1 R<|Jf R (dj R R)<|Jd3 R U142 R Z2<|Jn 1 R<|Jf R (dj R R)<|Jd3 R U142 R Z2 ?_
 have f6:=f3.stp S4 R R
 refine Jg R (Jc2 I2 R R<|hvC (f6.ld 2 R R) R)<|Jf R (vW R R R (by decide))<|Jg R (Jc2 I2 R R<|hvC (f6.ld 2 R R) R)<|Jf R (vW R R R (by decide))<|Jn 3 R<|Jt1<|Jd<|Jq<|Jq<|Js1 (κ:=κ) [2] none [(0,2),(1,2),(2,2),(4,2),(5,2),(6,2),(3,0),(7,0),(8,2),(9,2)] [] (by kernel_rfl) (by kernel_rfl) λw8 S7=>Jn 1 R<|Jf R (dj R R)<|Jd3 R U142 R Z3<|Jn 1 R<|Jf R (dj R R)<|Jd3 R U142 R Z22 ?_
 have f9:=f6.stp S7 R R
 refine Jg R (Jc2 I3 R R<|hvC (f9.ld 1 R R) R)<|Jg R (Jc2 I22 R R<|hvC (f9.ld 0 R R) R)<|Jn3 R U22 R R<|Jn 1 R<|Jt1<|Jd<|Ob h λq1 h hK10=>Jx1 (λL w'=>∃κ',L=[(0,.pointer (some ⟨b0,0,none⟩)),(3,vi q1.1)]/\Stp [2] κ w8 κ' w'/\Bc κ' w' 2 b0 142 [.slice aa p0.b.length ab,vi q1.2,vi<|IntKind.i64.wrap ((IntKind.i64.wrap<|p0.h * 6364136223846793005)+1442695040888963407)]) ?_ ?_
 revert h
 cases ht15:decide (p0.i<(p0.b.length:Int))
 refine JF λh=>Jy R<|Js ?_
 cases h
 exact Jw1 _ ⟨κ,R,Jj3,f9⟩<|KM R
 refine JT λh=>Jx R<|Jq<|Js1 (κ:=κ) [0,2] none [(0,2),(1,2),(2,2),(3,2),(5,2),(6,2),(7,2),(4,0),(8,0),(9,2),(10,0),(11,2),(12,2),(13,2),(14,2)] [] (by kernel_rfl) (by kernel_rfl) λw17 S16=>Jn 2 R<|Jf R (dj R R)<|Jd3 R U142 R Z22<|Jn 1 R<|Jf R (dj R R)<|Jd3 R U142 R Z3 ?_
 have f18:=f9.stp S16 R R
 refine Jg R (Jc2 I22 R R<|hvC (f18.ld 0 R R) R)<|Jg R (Jc2 I3 R R<|hvC (f18.ld 1 R R) R)<|Ob h λx44 hx44 h=>Jc3 R g0_0 hx44 U22 Z5<|Jg R (Jc2 I5 R R<|hvC ((g0_0.stp (T4 S2 S4 S7 S16) R R).gInt hx44) R)<|Jf R (Jh2 U5 U2 R R)<|Jn 3 R<|Jt1<|Jd<|Jh3 [2,2,2,2,1,2,2,2,1] 2 R<|Jf R (dj R R)<|Jd3 R U142 R Z3<|Jb3 R I3 (f18.ld 1 R R)<|Jn 1 R<|Jf R (dj R R)<|Jd3 R U142 R Z3<|Ji1 (κ:=κ) 2 (off:=1) (vc:=[vi<|IntKind.i64.wrap<|p0.i+1]) (cs':=[.slice aa p0.b.length ab,vi (IntKind.i64.wrap<|p0.i+1),vi<|IntKind.i64.wrap ((IntKind.i64.wrap<|p0.h * 6364136223846793005)+1442695040888963407)]) R R R R R R R Z3 R R f18 R R λw20 S21 f22=>Tv<|Jo ?_
 cases h
 exact Jw1 _ ⟨κ,R,(S16.tr S21).wk R,f22⟩<|KM R
 rintro _ w11 ⟨K12,rfl,S13,f14⟩
 have h:=hK10
 refine Jp<|Je3 R<|Ju<|Ja2 (l:=[.tmp 2]) V156 (Jp2 R R) R ?_
 cases h
 exact⟨K12,R,(hE.stp (T4 S2 S4 S7 S13) R R),f14⟩
theorem jU {p0:Int}{p1:Int}  {r:Int}(h:gb p0 p1=some r):Ret Tryz.prog 159 [vi p0,vi p1] w (Pvi κ w r):=by
 unfold gb at h
 refine Jk3 κ F159 R N159 R λhE=>Je3 R<|Jq<|Je3 R ?_
 revert h
 cases ht1:decide (p1<p0)
 refine JF λh=>Jy R<|Js<|Jp<|Je3 R<|Ju<|Ja2 (l:=[.tmp 4]) V159 (Jp2 R R) R ?_
 cases h
 exact⟨κ,R,hE⟩
 refine JT λh=>Jx R<|Je3 R<|Ju<|Jw<|Ja2 (l:=[.tmp 4]) V159 (Jp2 R R) R ?_
 cases h
 exact⟨κ,R,hE⟩
theorem r7 {p0:Int}  {r:Pair}(h:kC p0=some r):Ret Tryz.prog 165 [vi p0] w (λv w'=>∃(κ':Col) (ra0:Option Addr) (ru0:Nat) (ra1:Option Addr) (ru1:Nat),v= .agg #[.slice ra0 r.Ask.length ru0,.slice ra1 r.Give.length ru1]/\Ent κ w κ' w'/\Oc E6 2 κ' w' 2 ra0 ru0 r.Ask/\Oc E6 2 κ' w' 3 ra1 ru1 r.Give):=by
 unfold kC at h
 refine Jk3 κ F165 R N165 R λhE=>Je [1] R<|Jg1 (κ:=κ) 2 R R R R R X154 R λb2 w1 K2 S3 f4=>Tv<|Jd<|Jq<|Je3 R<|Jv<|Jq<|Je3 R<|Ob h λq1 h hK5=>Jx1 (λL w'=>∃κ',L=[(2,.pointer (some ⟨b2,0,none⟩)),(3,vi p0),(4,.bool q1)]/\Stp [] K2 w1 κ' w') ?_ ?_
 revert h
 cases ht9:(p0==1)
 refine JF λh=>Jy R<|Jf3 R ?_
 cases h
 exact Jw1 _ ⟨K2,R,Jj3⟩<|KM R
 refine JT λh=>Jx R<|Js ?_
 cases h
 exact Jw1 _ ⟨K2,R,Jj3⟩<|KM R
 rintro _ w6 ⟨K7,rfl,S8⟩
 have h:=hK5
 refine Jp ?_
 revert h
 cases ht10:q1
 refine JF λh=>Jy R<|Je3 R ?_
 revert h
 cases ht21:(p0==2)
 refine JF λh=>Jy R<|Je3 R ?_
 revert h
 cases ht32:(p0==3)
 refine JF λh=>Jy R<|Je3 R ?_
 revert h
 cases ht48:(p0==4)
 refine JF λh=>Jy R<|Je3 R ?_
 revert h
 cases ht64:(p0==6)
 refine JF λh=>Jy R<|Js<|Jz<|Jp<|Je [1,1,2,1] R<|Jn1 (κ:=K7) (E:=E6) 3 [] (parts:=[(0,.const (vi 2)),(1,.const (vi 3))]) (cells:=[vi 2,vi 3]) (xs:=([2,3]:List Int)) R R R R R R Y29 a8 R R R R R R R R R R ⟨[vi 2],[vi 3],Zl K7 w6 [],Zl K7 w6 [],R,Zl.sp (l1:=[]) (l2:=[]) R,Zl.sr (l1:=[]) (l2:=[]),R,⟨[vi 3],[],Zl K7 w6 [],Zl K7 w6 [],R,Zl.sp (l1:=[]) (l2:=[]) R,Zl.sr (l1:=[]) (l2:=[]),R,R⟩⟩ λal aj w75 K76 S77 f78=>Tv<|Jn1 (κ:=K76) (E:=E6) 4 [] (parts:=[(0,.const (vi 1)),(1,.const (vi 3))]) (cells:=[vi 1,vi 3]) (xs:=([1,3]:List Int)) R R R R R R Y29 a8 R R R R R R R R R R ⟨[vi 1],[vi 3],Zl K76 w75 [],Zl K76 w75 [],R,Zl.sp (l1:=[]) (l2:=[]) R,Zl.sr (l1:=[]) (l2:=[]),R,⟨[vi 3],[],Zl K76 w75 [],Zl K76 w75 [],R,Zl.sp (l1:=[]) (l2:=[]) R,Zl.sr (l1:=[]) (l2:=[]),R,R⟩⟩ λap an w79 K80 S81 f82=>Tv<|Jf R (bG (parts:=[(0,.tmp 27),(1,.tmp 28)]) (cells:=[.slice al ([2,3]:List Int).length aj,.slice ap ([1,3]:List Int).length an]) R R (by kernel_rfl))<|Jj1 (κ:=K80) 2 (vc:=[.slice al ([2,3]:List Int).length aj,.slice ap ([1,3]:List Int).length an]) R R R R R R R Z154 R R (f4.stp (T3 S8 S77 S81) R R) R λw84 S85 f86=>Tv<|Jd<|Ju<|Ja2 (l:=[.cell 2 154]) V165 (bF R f86 I154 Z154 R R) R ?_
 cases h
 exact⟨(λb=>ren [(3,2),(4,3)]<|K80 b),al,aj,ap,an,R,((hE.stp (T5 S3 S8 S77 S81 S85) R R).map (ren [(3,2),(4,3)]) R R),((f78.stp (S81.tr S85) R R).map (ren [(3,2),(4,3)]) R R),((f82.stp S85 R R).map (ren [(3,2),(4,3)]) R R)⟩
 refine JT λh=>Jx R<|Je [1,2,1] R<|Jn1 (κ:=K7) (E:=E6) 3 [] (parts:=[(0,.const (vi 0))]) (cells:=[vi 0]) (xs:=([0]:List Int)) R R R R R R Y29 a8 R R R R R R R R R R ⟨[vi 0],[],Zl K7 w6 [],Zl K7 w6 [],R,Zl.sp (l1:=[]) (l2:=[]) R,Zl.sr (l1:=[]) (l2:=[]),R,R⟩ λao aa w65 K66 S67 f68=>Tv<|Jf R (bG (parts:=[(0,.tmp 25)]) (cells:=[.slice ao ([0]:List Int).length aa,.slice none 0 0]) R R (by kernel_rfl))<|Jj1 (κ:=K66) 2 (vc:=[.slice ao ([0]:List Int).length aa,.slice none 0 0]) R R R R R R R Z154 R R (f4.stp (S8.tr S67) R R) R λw70 S71 f72=>Tv<|Jd<|Ju<|Ja1<|Jw<|Ja2 (l:=[.cell 2 154]) V165 (bF R f72 I154 Z154 R R) R ?_
 cases h
 exact⟨(λb=>ren [(3,2)]<|K66 b),ao,aa,none,0,R,((hE.stp (T4 S3 S8 S67 S71) R R).map (ren [(3,2)]) R R),((f68.stp S71 R R).map (ren [(3,2)]) R R),Ow.nil⟩
 refine JT λh=>Jx R<|Je [1,1,2,1] R<|Jn1 (κ:=K7) (E:=E6) 3 [] (parts:=[(0,.const (vi 0)),(1,.const (vi 1))]) (cells:=[vi 0,vi 1]) (xs:=([0,1]:List Int)) R R R R R R Y29 a8 R R R R R R R R R R ⟨[vi 0],[vi 1],Zl K7 w6 [],Zl K7 w6 [],R,Zl.sp (l1:=[]) (l2:=[]) R,Zl.sr (l1:=[]) (l2:=[]),R,⟨[vi 1],[],Zl K7 w6 [],Zl K7 w6 [],R,Zl.sp (l1:=[]) (l2:=[]) R,Zl.sr (l1:=[]) (l2:=[]),R,R⟩⟩ λab ae w49 K50 S51 f52=>Tv<|Jn1 (κ:=K50) (E:=E6) 4 [] (parts:=[(0,.const (vi 1))]) (cells:=[vi 1]) (xs:=([1]:List Int)) R R R R R R Y29 a8 R R R R R R R R R R ⟨[vi 1],[],Zl K50 w49 [],Zl K50 w49 [],R,Zl.sp (l1:=[]) (l2:=[]) R,Zl.sr (l1:=[]) (l2:=[]),R,R⟩ λam ai w53 K54 S55 f56=>Tv<|Jf R (bG (parts:=[(0,.tmp 20),(1,.tmp 21)]) (cells:=[.slice ab ([0,1]:List Int).length ae,.slice am ([1]:List Int).length ai]) R R (by kernel_rfl))<|Jj1 (κ:=K54) 2 (vc:=[.slice ab ([0,1]:List Int).length ae,.slice am ([1]:List Int).length ai]) R R R R R R R Z154 R R (f4.stp (T3 S8 S51 S55) R R) R λw58 S59 f60=>Tv<|Jd<|Ju<|Ja1<|Jw<|Ja2 (l:=[.cell 2 154]) V165 (bF R f60 I154 Z154 R R) R ?_
 cases h
 exact⟨(λb=>ren [(3,2),(4,3)]<|K54 b),ab,ae,am,ai,R,((hE.stp (T5 S3 S8 S51 S55 S59) R R).map (ren [(3,2),(4,3)]) R R),((f52.stp (S55.tr S59) R R).map (ren [(3,2),(4,3)]) R R),((f56.stp S59 R R).map (ren [(3,2),(4,3)]) R R)⟩
 refine JT λh=>Jx R<|Je [1,1,2,1] R<|Jn1 (κ:=K7) (E:=E6) 3 [] (parts:=[(0,.const (vi 1))]) (cells:=[vi 1]) (xs:=([1]:List Int)) R R R R R R Y29 a8 R R R R R R R R R R ⟨[vi 1],[],Zl K7 w6 [],Zl K7 w6 [],R,Zl.sp (l1:=[]) (l2:=[]) R,Zl.sr (l1:=[]) (l2:=[]),R,R⟩ λah ak w33 K34 S35 f36=>Tv<|Jn1 (κ:=K34) (E:=E6) 4 [] (parts:=[(0,.const (vi 0))]) (cells:=[vi 0]) (xs:=([0]:List Int)) R R R R R R Y29 a8 R R R R R R R R R R ⟨[vi 0],[],Zl K34 w33 [],Zl K34 w33 [],R,Zl.sp (l1:=[]) (l2:=[]) R,Zl.sr (l1:=[]) (l2:=[]),R,R⟩ λaq ac w37 K38 S39 f40=>Tv<|Jf R (bG (parts:=[(0,.tmp 15),(1,.tmp 16)]) (cells:=[.slice ah ([1]:List Int).length ak,.slice aq ([0]:List Int).length ac]) R R (by kernel_rfl))<|Jj1 (κ:=K38) 2 (vc:=[.slice ah ([1]:List Int).length ak,.slice aq ([0]:List Int).length ac]) R R R R R R R Z154 R R (f4.stp (T3 S8 S35 S39) R R) R λw42 S43 f44=>Tv<|Jd<|Ju<|Ja1<|Jw<|Ja2 (l:=[.cell 2 154]) V165 (bF R f44 I154 Z154 R R) R ?_
 cases h
 exact⟨(λb=>ren [(3,2),(4,3)]<|K38 b),ah,ak,aq,ac,R,((hE.stp (T5 S3 S8 S35 S39 S43) R R).map (ren [(3,2),(4,3)]) R R),((f36.stp (S39.tr S43) R R).map (ren [(3,2),(4,3)]) R R),((f40.stp S43 R R).map (ren [(3,2),(4,3)]) R R)⟩
 refine JT λh=>Jx R<|Je [1,2,1] R<|Jn1 (κ:=K7) (E:=E6) 3 [] (parts:=[(0,.const (vi 2))]) (cells:=[vi 2]) (xs:=([2]:List Int)) R R R R R R Y29 a8 R R R R R R R R R R ⟨[vi 2],[],Zl K7 w6 [],Zl K7 w6 [],R,Zl.sp (l1:=[]) (l2:=[]) R,Zl.sr (l1:=[]) (l2:=[]),R,R⟩ λad af w22 K23 S24 f25=>Tv<|Jf R (bG (parts:=[(0,.tmp 11)]) (cells:=[.slice ad ([2]:List Int).length af,.slice none 0 0]) R R (by kernel_rfl))<|Jj1 (κ:=K23) 2 (vc:=[.slice ad ([2]:List Int).length af,.slice none 0 0]) R R R R R R R Z154 R R (f4.stp (S8.tr S24) R R) R λw27 S28 f29=>Tv<|Jd<|Ju<|Ja1<|Jw<|Ja2 (l:=[.cell 2 154]) V165 (bF R f29 I154 Z154 R R) R ?_
 cases h
 exact⟨(λb=>ren [(3,2)]<|K23 b),ad,af,none,0,R,((hE.stp (T4 S3 S8 S24 S28) R R).map (ren [(3,2)]) R R),((f25.stp S28 R R).map (ren [(3,2)]) R R),Ow.nil⟩
 refine JT λh=>Jx R<|Je [1,2,1] R<|Jn1 (κ:=K7) (E:=E6) 3 [] (parts:=[(0,.const (vi 1))]) (cells:=[vi 1]) (xs:=([1]:List Int)) R R R R R R Y29 a8 R R R R R R R R R R ⟨[vi 1],[],Zl K7 w6 [],Zl K7 w6 [],R,Zl.sp (l1:=[]) (l2:=[]) R,Zl.sr (l1:=[]) (l2:=[]),R,R⟩ λa7 u7 w11 K12 S13 f14=>Tv<|Jf R (bG (parts:=[(0,.tmp 7)]) (cells:=[.slice a7 ([1]:List Int).length u7,.slice none 0 0]) R R (by kernel_rfl))<|Jj1 (κ:=K12) 2 (vc:=[.slice a7 ([1]:List Int).length u7,.slice none 0 0]) R R R R R R R Z154 R R (f4.stp (S8.tr S13) R R) R λw16 S17 f18=>Tv<|Jd<|Ju<|Ja1<|Jw<|Ja2 (l:=[.cell 2 154]) V165 (bF R f18 I154 Z154 R R) R ?_
 cases h
 exact⟨(λb=>ren [(3,2)]<|K12 b),a7,u7,none,0,R,((hE.stp (T4 S3 S8 S13 S17) R R).map (ren [(3,2)]) R R),((f14.stp S17 R R).map (ren [(3,2)]) R R),Ow.nil⟩
theorem p5 {p0:Int}  {r:Int}(h:jn p0=some r):Ret Tryz.prog 166 [vi p0] w (Pvi κ w r):=by
 unfold jn at h
 refine Jk3 κ F166 R N166 R λhE=>Je3 R<|Jq<|Je3 R<|Jv<|Je3 R ?_
 revert h
 cases ht1:(p0==2)
 refine JF λh=>Jy R<|Je3 R ?_
 revert h
 cases ht2:(p0==7)
 refine JF λh=>Jy R<|Js<|Jz<|Jp<|Je3 R<|Ju<|Ja2 (l:=[.tmp 2]) V166 (Jp2 R R) R ?_
 cases h
 exact⟨κ,R,hE⟩
 refine JT λh=>Jx R<|Je3 R<|Ju<|Ja1<|Jw<|Ja2 (l:=[.tmp 2]) V166 (Jp2 R R) R ?_
 cases h
 exact⟨κ,R,hE⟩
 refine JT λh=>Jx R<|Je3 R<|Ju<|Ja1<|Jw<|Ja2 (l:=[.tmp 2]) V166 (Jp2 R R) R ?_
 cases h
 exact⟨κ,R,hE⟩
theorem me {p0:Bool}  {r:Int}(h:gw p0=some r):Ret Tryz.prog 200 [.bool p0] w (Pvi κ w r):=by
 unfold gw at h
 refine Jk3 κ F200 R N200 R λhE=>Je3 R<|Jq<|Je3 R ?_
 revert h
 cases ht1:p0
 refine JF λh=>Jy R<|Js<|Jp<|Je3 R<|Ju<|Ja2 (l:=[.tmp 2]) V200 (Jp2 R R) R ?_
 cases h
 exact⟨κ,R,hE⟩
 refine JT λh=>Jx R<|Je3 R<|Ju<|Jw<|Ja2 (l:=[.tmp 2]) V200 (Jp2 R R) R ?_
 cases h
 exact⟨κ,R,hE⟩
theorem pV {a0 u0}{p0:(List Int)}(g0:Rd (Rp.int .i64) κ w 0 a0 u0 p0){r:(List Int)}(h:i8 p0=some r):Ret Tryz.prog 123 [.slice a0 p0.length u0] w (Pvs E6 2 κ w r):=by
 unfold i8 at h
 refine Jk3 κ F123 R N123 R λhE=>Je3 R<|Je [1,2] R<|Jo1 (κ:=κ) (E:=E6) 2 R R R R R Y29 a8 R λa7 u7 w1 K2 S3 f4=>Tv<|Jb 1 R<|Jq<|Je3 R ?_
 have hN5:(p0.length:Int)<=9223372036854775807:=g0.len_le
 refine Ob h λq2 hq7 hK6=>?_
 clear h
 refine Jx1 (λL w'=>∃κ',∃s3:(List Int),∃ad ac,L=[(3,.slice ad s3.length ac)]/\Stp [3] K2 w1 κ' w'/\Oc E6 2 κ' w' 2 ad ac s3/\q2=yk s3) ?_ ?_
 refine Jv<|Jy1 (λk L w'=>∃κ' v4,∃s1:(List Int),∃aa ab,L=[(0,.slice a0 p0.length u0),(3,.slice aa s1.length ab),(4,vi v4)]/\Stp [3] K2 w1 κ' w'/\Oc E6 2 κ' w' 2 aa ab s1/\0<=v4/\yn ((p0.length:Int)-v4)=k/\cntM (eT p0) k v4 s1=some q2) ⟨_,_,⟨K2,0,(([]:List Int):(List Int)),a7,u7,R,Jj3,f4,(by decide),(by simp),hq7⟩,(KM R)⟩ ?_
 rintro k _ w12 ⟨K13,v4,s1,aa,ab,rfl,S14,f15,hj5,hJ5,h⟩
 rcases k with _ | k
 have hk16:=h;obtain⟨o5,h⟩:=ca (yk (yl s1):(List Int)⊕(((List Int))⊕((List Int))))
 have hc5:decide (v4<(p0.length:Int))=false:=Jo2 (by omega)
 refine Jq<|Jg3 [2,2,2,2] 2 R<|Jn3 R U29 R R<|Jb 1 R<|Jw2 R hc5<|Jc1<|Jt<|Jt ?_
 cases h
 have h:=hk16
 refine Jb1 ?_
 cases h
 exact Jw1 _ ⟨K13,s1,aa,ab,R,S14.wk R,f15,R⟩<|KM R
 obtain⟨o5,h,hk16⟩:=BI h;unfold eT at h
 have hc5:decide (v4<(p0.length:Int))=true:=Jn2 (by omega)
 refine Jq<|Jg3 [2,2,2,2] 2 R<|Jn3 R U29 R R<|Jb 1 R<|Jv2 R hc5<|Js<|Jp<|Jq<|Jv<|Jg3 [2,2,2] 1 R<|Jn3 R U29 R R<|Jb 1 R<|Jq<|Ob h λq5 hq19 hK18=>?_
 clear h
 refine Jx1 (λL w'=>∃κ' s6,L=[(0,.slice a0 p0.length u0),(3,.slice aa s1.length ab),(4,vi v4),(5,vi s6)]/\Stp [] K13 w12 κ' w'/\q5=yk s6) ?_ ?_
 refine Jv<|Jy1 (λk L w'=>∃κ' s4,L=[(0,.slice a0 p0.length u0),(3,.slice aa s1.length ab),(4,vi v4),(5,vi s4)]/\Stp [] K13 w12 κ' w'/\bI (fc p0 v4 s1) k s4=some q5) ⟨_,_,⟨K13,((s1.length:Int):Int),R,Jj3,hq19⟩,(KM R)⟩ ?_
 rintro k _ w23 ⟨K24,s4,rfl,S25,h⟩
 rcases k with _ | k
 cases h
 obtain⟨o17,h,hk26⟩:=BI h;unfold fc at h
 refine Jq<|Jq<|Js1 (κ:=K24) [0,2] none [(0,2),(1,2),(2,2),(3,2),(4,2),(5,2),(6,2),(8,2),(9,2),(10,2),(7,0),(11,0),(12,2),(13,2)] [] (by kernel_rfl) (by kernel_rfl) λw28 S27=>Jn 3 R<|Ob h λp29 h hK29=>Ju1 [(3,2),(4,2),(5,2),(6,2),(8,2),(9,2),(10,2),(7,0),(11,0),(12,2),(13,2)] [] (λL w'=>L=[(0,.slice a0 p0.length u0),(3,.slice aa s1.length ab),(4,vi v4),(5,vi s4),(29,.bool p29)]/\∃κ',Stp [] K24 w28 κ' w') (Cl.refl _ _ _) ?_ ?_
 revert h
 cases ht30:decide (0<s4)
 refine JF λh=>Jn 7 R<|Je1 R R R R<|Je1 R R R R<|Jn 2 R ?_
 cases h
 exact Jv1 _ (Cl.refl _ _ _) ⟨R,_,Jj3⟩<|KM R
 refine JT λh=>Jn 3 R<|Ob h λx22 hx22 h=>Jc3 R f15.rdc hx22 U29 Z2<|Jn 2 R<|Ob h λx26 hx26 h=>Jc3 R g0 hx26 U29 Z2<|Jg R (Jc2 I2 R R<|hvC ((f15.stp (S25.tr S27) R R).rdc.gInt hx22) R)<|Jg R (Jc2 I2 R R<|hvC ((g0.stp (T4 S3 S14 S25 S27) R R).gInt hx26) R)<|Jn 2 R ?_
 cases h
 exact Jv1 _ (Cl.refl _ _ _) ⟨R,_,Jj3⟩<|KM R
 rintro _ w33 _ ⟨rfl,K34,S35⟩
 have h:=hK29
 refine Jt1<|Jd ?_
 revert h
 cases ht36:p29
 refine JF λh=>Jy R<|Jc1<|Jt<|Jt ?_
 cases h
 have h:=hk26
 refine Jb1 ?_
 cases h
 exact Jw1 _ ⟨K34,s4,R,(T3 S25 S27 S35).wk R,R⟩<|KM R
 refine JT λh=>Jx R<|Js<|Jp<|Jv<|Jf3 R<|Jz ?_
 cases h
 exact Jz1 λa ha=>⟨k,_,Ja3 _,⟨K34,((IntKind.i64.wrap<|s4-1):Int),R,(T3 S25 S27 S35).wk R,hk26⟩,(ha.mm R)⟩
 rintro _ w20 ⟨K21,s6,rfl,S22,rfl⟩
 have h:=yI hK18
 refine Jp<|Je [1,2,2,2,1,2] R<|Jo1 (κ:=K21) (E:=E6) 3 R R R R R Y29 a8 R λah ak w37 K38 S39 f40=>Tv<|Jn 2 R<|Ob h λx35 hx35 h=>Jf R (dE (k1:= .i64) (k2:= .i64) U29 Z2 (.inl ⟨R,R⟩) (.inr ⟨_,R,R⟩) hx35 f15.rdc.1 R R R) ?_
 have f42:=f15.stp (S22.tr S39) R R
 refine Ob h λx36 hx36 h=>Jm1 (κ:=K38) (E:=E6) 3 [] R R R R R R R R R Y29 a8 R R R R f40 (Sl.srcP (bM _)<|f42.rdc.sub hx35) bH hx36 R λal ai w43 K44 S45 f46=>Tv<|Jb 1 R<|Jg3 [2,2,2,2,1,1,1,2] 3 R<|Ob h λx40 hx40 h=>Jc3 R g0 hx40 U29 Z2<|Jb3 R I2 ((g0.stp (T5 S3 S14 S22 S39 S45) R R).gInt hx40)<|Jn1 (κ:=K44) (E:=E6) 4 [] (parts:=[(0,.tmp 41)]) (cells:=[vi x40]) (xs:=([x40]:List Int)) R R R R R R Y29 a8 R R R R R R R R R R ⟨[vi x40],[],Zl K44 w43 [],Zl K44 w43 [],R,Zl.sp (l1:=[]) (l2:=[]) R,Zl.sr (l1:=[]) (l2:=[]),R,R⟩ λan aj w48 K49 S50 f51=>Tv<|Ob h λx43 hx43 h=>Jm1 (κ:=K49) (E:=E6) 3 [] R R R R R R R R R Y29 a8 R R R R (f46.stp S50 R R) (Sl.srcP (bM _) f51.rdc) bH hx43 R λam ao w53 K54 S55 f56=>Tv<|Jb 1 R<|Jh3 [2,2,2,2,1,2] 3 R<|Ob h λx47 hx47 h=>Jf R (dE (k1:= .i64) (k2:= .i64) U29 Z2 (.inr ⟨_,R,R⟩) (.inl ⟨R,R⟩) hx47 f42.rdc.1 R R R)<|Ob h λx48 hx48 h=>Jm1 (κ:=K54) (E:=E6) 3 [] R R R R R R R R R Y29 a8 R R R R f56 (Sl.srcP (bM _) ((f42.stp (T3 S45 S50 S55) R R).rdc.sub hx47)) bH hx48 R λaf ae w59 K60 S61 f62=>Tv<|Jc 1 R<|Jz<|Jp<|Jf3 R ?_
 have hw5:sh .i64 (v4+1)=v4+1:=wr1 hj5 (Jm2 hc5) hN5
 rw[hw5]
 have hc5:=Jm2 hc5
 cases h
 exact Jz1 λa ha=>⟨k,_,Ja3 _,⟨(λb=>ren [(3,2)]<|K60 b),v4+1,x48,af,ae,R,(Jy2 ((T7 S14 S22 S39 S45 S50 S55 S61).wk R) [(3,2)] R),(f62.map (ren [(3,2)]) R R),by omega,by omega,hk16⟩,(ha.mm R)⟩
 rintro _ w8 ⟨K9,s3,ad,ac,rfl,S10,f11,rfl⟩
 have h:=yI hK6
 refine Jp<|Je3 R<|Ju<|Ja2 (l:=[.tmp 2]) V123 (Jp2 R R) R ?_
 cases h
 exact⟨K9,ad,ac,R,(hE.stp (S3.tr S10) R R),f11⟩
theorem oX {p0:Int}  {r:(List Int)}(h:mr p0=some r):Ret Tryz.prog 127 [vi p0] w (Pvs E6 2 κ w r):=by
 unfold mr at h
 refine Jk3 κ F127 R N127 R λhE=>Je3 R<|Je [1,2] R<|Jo1 (κ:=κ) (E:=E6) 2 R R R R R Y29 a8 R λa5 u5 w1 K2 S3 f4=>Tv<|Jb 1 R<|Jq<|Je3 R<|Ob h λ_ hr5 h=>?_
 have hN5:=mu hr5
 refine Ob h λq2 hq7 hK6=>?_
 clear h
 refine Jx1 (λL w'=>∃κ',∃s3:(List Int),∃ad ac,L=[(3,.slice ad s3.length ac)]/\Stp [2] K2 w1 κ' w'/\Oc E6 2 κ' w' 2 ad ac s3/\q2=yk s3) ?_ ?_
 refine Jv<|Jy1 (λk L w'=>∃κ' v4,∃s1:(List Int),∃aa ab,L=[(0,vi p0),(3,.slice aa s1.length ab),(4,vi v4)]/\Stp [2] K2 w1 κ' w'/\Oc E6 2 κ' w' 2 aa ab s1/\0<=v4/\yn (p0-v4)=k/\cntM jg k v4 s1=some q2) ⟨_,_,⟨K2,0,(([]:List Int):(List Int)),a5,u5,R,Jj3,f4,(by decide),(by simp),hq7⟩,(KM R)⟩ ?_
 rintro k _ w12 ⟨K13,v4,s1,aa,ab,rfl,S14,f15,hj5,hJ5,h⟩
 rcases k with _ | k
 have hk16:=h;obtain⟨o5,h⟩:=ca (yk (yl s1):(List Int)⊕(((List Int))⊕((List Int))))
 have hc5:decide (v4<p0)=false:=Jo2 (by omega)
 refine Jq<|Je3 R<|Jw2 R hc5<|Jc1<|Jt<|Jt ?_
 cases h
 have h:=hk16
 refine Jb1 ?_
 cases h
 exact Jw1 _ ⟨K13,s1,aa,ab,R,S14.wk R,f15,R⟩<|KM R
 obtain⟨o5,h,hk16⟩:=BI h;unfold jg at h
 have hc5:decide (v4<p0)=true:=Jn2 (by omega)
 refine Jq<|Je3 R<|Jv2 R hc5<|Js<|Jp<|Jq<|Jv<|Jh3 [2,1,1,2] 1 R<|Jn1 (κ:=K13) (E:=E6) 3 [] (parts:=[(0,.const (vi (-1)))]) (cells:=[vi (-1)]) (xs:=([(-1)]:List Int)) R R R R R R Y29 a8 R R R R R R R R R R ⟨[vi (-1)],[],Zl K13 w12 [],Zl K13 w12 [],R,Zl.sp (l1:=[]) (l2:=[]) R,Zl.sr (l1:=[]) (l2:=[]),R,R⟩ λah ai w17 K18 S19 f20=>Tv<|Ob h λx13 hx13 h=>Jm1 (κ:=K18) (E:=E6) 2 [] R R R R R R R R R Y29 a8 R R R R (f15.stp S19 R R) (Sl.srcP (bM _) f20.rdc) bH hx13 R λaf ae w22 K23 S24 f25=>Tv<|Jc 1 R<|Jz<|Jp<|Jf3 R ?_
 have hw5:sh .i64 (v4+1)=v4+1:=wr1 hj5 (Jm2 hc5) hN5
 rw[hw5]
 have hc5:=Jm2 hc5
 cases h
 exact Jz1 λa ha=>⟨k,_,Ja3 _,⟨K23,v4+1,x13,af,ae,R,(T3 S14 S19 S24).wk R,f25,by omega,by omega,hk16⟩,(ha.mm R)⟩
 rintro _ w8 ⟨K9,s3,ad,ac,rfl,S10,f11,rfl⟩
 have h:=yI hK6
 refine Jp<|Je3 R<|Ju<|Ja2 (l:=[.tmp 2]) V127 (Jp2 R R) R ?_
 cases h
 exact⟨K9,ad,ac,R,(hE.stp (S3.tr S10) R R),f11⟩
theorem oY {aa ah ac ak ae ad aj ai ab af}{p0:l7Game}{p1:Int}{p2:Int}(g0_0:Rd (Rp.int .i64) κ w 0 aa ah p0.owner) (g0_1:Rd (Rp.int .i64) κ w 0 ac ak p0.prio) (g0_2:Rd (Rp.sl (Rp.int .i64)) κ w 0 ae ad p0.next) (g0_3:Rd (Rp.sl (Rp.int .i64)) κ w 0 aj ai p0.prev) (g0_4:Rd (Rp.int .i64) κ w 0 ab af p0.pick){r:Bool}(h:kH p0 p1 p2=some r):Ret Tryz.prog 251 [.agg #[.slice aa p0.owner.length ah,.slice ac p0.prio.length ak,.slice ae p0.next.length ad,.slice aj p0.prev.length ai,.slice ab p0.pick.length af],vi p1,vi p2] w (Pvb κ w r):=by
 unfold kH at h
 refine Jk3 κ F251 R N251 R λhE=>Je [1,2] R<|Jf1 (κ:=κ) 2 R R R R R R R λb3 w1 K2 S3 f4=>Tv<|Jb 1 R<|Je [2,1,2,2,1,2,2,2,1,2,2,1,2,2,2,2] R<|Jd3 R U191 R Z29<|Jb3 R I29 (f4.ld 4 R R)<|Jn 1 R<|Ob h λx10 hx10 h=>Jc3 R g0_4 hx10 U29 Z2 ?_
 have f5:=g0_4.stp S3 R R
 refine Jb3 R I2 (f5.gInt hx10)<|Jn 2 R<|Ob h λp21 h hK6=>Ju1 [(7,2),(8,1),(9,2),(10,2),(11,1),(12,2),(13,2),(14,2)] [(15,2)] (λL w'=>L=[(6,.bool false),(21,.bool p21)]/\∃κ',Stp [] K2 w1 κ' w') tv ?_ ?_
 revert h
 cases ht7:decide (x10<0)
 refine JF λh=>Jd3 R U191 R Z29<|Jb3 R I29 (f4.ld 4 R R)<|Jn 1 R<|Ob h λx17 hx17 h=>Jc3 R f5 hx17 U29 Z2<|Jb3 R I2 (f5.gInt hx17)<|Jn 3 R ?_
 cases h
 exact Jv1 _ tv ⟨R,_,Jj3⟩<|KM R
 refine JT λh=>Jn 1 R<|Jd1 R R R R<|Jn 2 R<|Jd1 R R R R<|Jn 3 R ?_
 cases h
 exact Jv1 _ tv ⟨R,_,Jj3⟩<|KM R
 rintro _ w8 _ ⟨rfl,K9,S10⟩
 have h:=hK6
 refine Jb 1 R<|Ju<|Ja2 (l:=[.tmp 6]) V251 (Jp2 R R) R ?_
 cases h
 exact⟨K9,R,(hE.stp (S3.tr S10) R R)⟩
theorem oS {a0 u0}{p0:(List Bool)}{a1 u1}{p1:(List Bool)}(g0:Rd Rp.bool κ w 0 a0 u0 p0) (g1:Rd Rp.bool κ w 0 a1 u1 p1){r:(List Bool)}(h:kG p0 p1=some r):Ret Tryz.prog 241 [.slice a0 p0.length u0,.slice a1 p1.length u1] w (Pvs Ep.bool 4 κ w r):=by
 unfold kG at h
 refine Jk3 κ F241 R N241 R λhE=>Je3 R<|Jg3 [2,2,1,2] 1 R<|Jn3 R U193 R R<|Ob h λx9 hx9 h=>Jl1 (κ:=κ) (E:=Ep.bool) (z:=(false:Bool)) 2 R R R R R R R Y193 iG R R R R R (λ_ _ _=>R) (Ju2 hx9) λa9 u9 w1 K2 S3 f4=>Tv<|Jb 1 R<|Jq<|Je3 R ?_
 have hN5:(p0.length:Int)<=9223372036854775807:=g0.len_le
 refine Ob h λq2 hq7 hK6=>?_
 clear h
 refine Jx1 (λL w'=>∃κ',∃s3:(List Bool),L=[(5,.slice a9 x9.length u9)]/\Stp [2] K2 w1 κ' w'/\Oc Ep.bool 4 κ' w' 2 a9 u9 s3/\x9.length=s3.length/\q2=yk s3) ?_ ?_
 refine Jv<|Jy1 (λk L w'=>∃κ' v6,∃s1:(List Bool),L=[(0,.slice a0 p0.length u0),(1,.slice a1 p1.length u1),(5,.slice a9 x9.length u9),(6,vi v6)]/\Stp [2] K2 w1 κ' w'/\Oc Ep.bool 4 κ' w' 2 a9 u9 s1/\x9.length=s1.length/\0<=v6/\yn ((p0.length:Int)-v6)=k/\cntM (iZ p0 p1) k v6 s1=some q2) ⟨_,_,⟨K2,0,x9,R,Jj3,f4,R,(by decide),(by simp),hq7⟩,(KM R)⟩ ?_
 rintro k _ w13 ⟨K14,v6,s1,rfl,S15,f16,hn17,hj5,hJ5,h⟩
 rcases k with _ | k
 have hk18:=h;obtain⟨o5,h⟩:=ca (yk (yl s1):(List Bool)⊕(((List Bool))⊕((List Bool))))
 have hc5:decide (v6<(p0.length:Int))=false:=Jo2 (by omega)
 refine Jq<|Jg3 [2,2,2,2] 2 R<|Jn3 R U193 R R<|Jb 1 R<|Jw2 R hc5<|Jc1<|Jt<|Jt ?_
 cases h
 have h:=hk18
 refine Jb1 ?_
 cases h
 exact Jw1 _ ⟨K14,s1,R,S15.wk R,f16,hn17,R⟩<|KM R
 obtain⟨o5,h,hk18⟩:=BI h;unfold iZ at h
 have hc5:decide (v6<(p0.length:Int))=true:=Jn2 (by omega)
 refine Jq<|Jg3 [2,2,2,2] 2 R<|Jn3 R U193 R R<|Jb 1 R<|Jv2 R hc5<|Js<|Jp<|Jq<|Jv<|Jh3 [2,2,2,2,2,1,2,2,2,2,1,2,2,2,1] 4 R<|Ob h λx20 hx20 h=>Jc3 R g0 hx20 U193 Z4<|Jb3 R I4 ((g0.stp (S3.tr S15) R R).gBool hx20)<|Jn 1 R<|Ob h λp28 h hK20=>Ju1 [(7,2),(8,2),(9,2),(10,1),(11,2),(12,2)] [(13,2),(14,1)] (λL w'=>L=[(0,.slice a0 p0.length u0),(1,.slice a1 p1.length u1),(5,.slice a9 x9.length u9),(6,vi v6),(16,.slice a9 x9.length u9),(17,vi v6),(28,.bool p28)]/\∃κ',Stp [] K14 w13 κ' w') tv ?_ ?_
 revert h
 cases ht21:x20
 refine JF λh=>Jn 3 R<|Jd1 R R R R<|Jn 2 R ?_
 cases h
 exact Jv1 _ tv ⟨R,_,Jj3⟩<|KM R
 refine JT λh=>Jn 2 R<|Ob h λx25 hx25 h=>Jc3 R g1 hx25 U193 Z4<|Jb3 R I4 ((g1.stp (S3.tr S15) R R).gBool hx25)<|Jn 2 R ?_
 cases h
 exact Jv1 _ tv ⟨R,_,Jj3⟩<|KM R
 rintro _ w23 _ ⟨rfl,K24,S25⟩
 have h:=hK20
 refine Ob h λx29 hx29 h=>Jf R (Jf2 f16.rdc hx29 U193 Z4 R R hn17 R)<|Ob h λy280 hy280 h=>Jk1 (κ:=K24) (E:=Ep.bool) 2 [] R R R R R R R R Z4 R R R R (f16.stp S25 R R) hy280 λw27 K28 S29 f30=>Tv<|?_
 have hn31:x9.length=y280.length:=hn17.trans (Jt2 hy280).2.2.2.symm
 refine Jo<|Jz<|Jp<|Jf3 R ?_
 have hw5:sh .i64 (v6+1)=v6+1:=wr1 hj5 (Jm2 hc5) hN5
 rw[hw5]
 have hc5:=Jm2 hc5
 cases h
 exact Jz1 λa ha=>⟨k,_,Ja3 _,⟨K28,v6+1,y280,R,(T3 S15 S25 S29).wk R,f30,hn31,by omega,by omega,hk18⟩,(ha.mm R)⟩
 rintro _ w8 ⟨K9,s3,rfl,S10,f11,hn12,rfl⟩
 have h:=yI hK6
 refine Jp<|Je3 R<|Ju<|Ja2 (l:=[.tmp 4]) V241 (Jp2 R R) R ?_
 cases h
 exact⟨K9,a9,u9,(by simp only[hn12]),(hE.stp (S3.tr S10) R R),f11⟩
theorem sw {a0 u0}{p0:(List Int)}{a1 u1}{p1:(List Int)}(g0:Rd (Rp.int .i64) κ w 0 a0 u0 p0) (g1:Rd (Rp.int .i64) κ w 0 a1 u1 p1){r:Bool}(h:l9 p0 p1=some r):Ret Tryz.prog 212 [.slice a0 p0.length u0,.slice a1 p1.length u1] w (Pvb κ w r):=by
 unfold l9 at h
 refine Jk3 κ F212 R N212 R λhE=>Je3 R<|Jq<|Jg3 [2,2,2,2,2] 1 R<|Jn3 R U29 R R<|Jn 1 R<|Jn3 R U29 R R<|Jb 1 R ?_
 revert h
 cases ht1:((p0.length:Int) !=(p1.length:Int))
 refine JF λh=>Jy R<|Js<|Jp<|Jq<|Je3 R ?_
 have hN2:(p0.length:Int)<=9223372036854775807:=g0.len_le
 refine Ob h λq2 hq4 hK3=>?_
 clear h
 refine Jx1 (λL w'=>∃κ',L=[]/\Stp [] κ w κ' w'/\q2=yk ()) ?_ ?_
 refine Jv<|Jy1 (λk L w'=>∃κ' v5,L=[(0,.slice a0 p0.length u0),(1,.slice a1 p1.length u1),(5,vi v5)]/\Stp [] κ w κ' w'/\0<=v5/\yn ((p0.length:Int)-v5)=k/\cntM (jh p0 p1) k v5 ()=some q2) ⟨_,_,⟨κ,0,R,Jj3,(by decide),(by simp),hq4⟩,(KM R)⟩ ?_
 rintro k _ w8 ⟨K9,v5,rfl,S10,hj2,hJ2,h⟩
 rcases k with _ | k
 have hk11:=h;obtain⟨o2,h⟩:=ca (yk (yl ()):Bool⊕((Unit)⊕(Unit)))
 have hc2:decide (v5<(p0.length:Int))=false:=Jo2 (by omega)
 refine Jq<|Jg3 [2,2,2,2] 2 R<|Jn3 R U29 R R<|Jb 1 R<|Jw2 R hc2<|Jc1<|Jt<|Jt ?_
 cases h
 have h:=hk11
 refine Jb1 ?_
 cases h
 exact Jw1 _ ⟨K9,R,S10.wk R,R⟩ KN
 obtain⟨o2,h,hk11⟩:=BI h;unfold jh at h
 have hc2:decide (v5<(p0.length:Int))=true:=Jn2 (by omega)
 refine Jq<|Jg3 [2,2,2,2] 2 R<|Jn3 R U29 R R<|Jb 1 R<|Jv2 R hc2<|Js<|Jp<|Jq<|Jv<|Jq<|Js1 (κ:=K9) [0] none [(0,2),(1,2),(2,2),(4,2),(5,2),(6,2),(3,0),(7,0),(8,2)] [] (by kernel_rfl) (by kernel_rfl) λw13 S12=>Jn 2 R<|Ob h λx19 hx19 h=>Jc3 R g0 hx19 U29 Z2<|Jn 2 R<|Ob h λx23 hx23 h=>Jc3 R g1 hx23 U29 Z2<|Jg R (Jc2 I2 R R<|hvC ((g0.stp (S10.tr S12) R R).gInt hx19) R)<|Jg R (Jc2 I2 R R<|hvC ((g1.stp (S10.tr S12) R R).gInt hx23) R)<|Jn 1 R<|Jt1<|Jd ?_
 revert h
 cases ht16:(x19 !=x23)
 refine JF λh=>Jy R<|Js<|Jz<|Jp<|Jf3 R ?_
 have hw2:sh .i64 (v5+1)=v5+1:=wr1 hj2 (Jm2 hc2) hN2
 rw[hw2]
 have hc2:=Jm2 hc2
 cases h
 exact Jz1 λa ha=>⟨k,_,Ja3 _,⟨K9,v5+1,R,(S10.tr S12).wk R,by omega,by omega,hk11⟩,(ha.mm R)⟩
 refine JT λh=>Jx R<|Je3 R<|Ju<|Ja1<|Jw<|Jw ?_
 cases h
 obtain rfl:=Option.some.inj hk11
 have h:=yL hK3
 refine Ja1<|Jq2<|Jw<|Ja2 (l:=[.tmp 4]) V212 (Jp2 R R) R ?_
 cases h
 exact⟨K9,R,(hE.stp (S10.tr S12) R R)⟩
 rintro _ w5 ⟨K6,rfl,S7,rfl⟩
 have h:=yI hK3
 refine Jp<|Je3 R<|Ju<|Ja2 (l:=[.tmp 4]) V212 (Jp2 R R) R ?_
 cases h
 exact⟨K6,R,(hE.stp S7 R R)⟩
 refine JT λh=>Jx R<|Je3 R<|Ju<|Jw<|Ja2 (l:=[.tmp 4]) V212 (Jp2 R R) R ?_
 cases h
 exact⟨κ,R,hE⟩
theorem tR {ab ad aa af ac ae}{p0:Parity}{a1 u1}{p1:(List Place)}{p2:Int}{p3:Int}(g0_0_0:Rd (Rp.int .i64) κ w 0 ab ad p0.Arena.Owner) (g0_0_1:Rd (Rp.sl (Rp.int .i64)) κ w 0 aa af p0.Arena.Next) (g0_1:Rd (Rp.int .i64) κ w 0 ac ae p0.Prio) (g1:Rd Place.rp κ w 0 a1 u1 p1){r:Int}(h:nR p0 p1 p2 p3=some r):Ret Tryz.prog 144 [.agg #[.slice ab p0.Arena.Owner.length ad,.slice aa p0.Arena.Next.length af,.slice ac p0.Prio.length ae],.slice a1 p1.length u1,vi p2,vi p3] w (Pvi κ w r):=by
 unfold nR at h
 refine Jk3 κ F144 R N144 R λhE=>Je [1,2] R<|Jf1 (κ:=κ) 2 R R R R R R R λb4 w1 K2 S3 f4=>Tv<|Jb 1 R<|Jq<|Je3 R<|Ob h λq2 hq7 hK6=>?_
 clear h
 refine Jx1 (λL w'=>∃κ' s3,L=[]/\Stp [] K2 w1 κ' w'/\q2=yk s3) ?_ ?_
 refine Jv<|Jy1 (λk L w'=>∃κ' s1,L=[(1,.slice a1 p1.length u1),(2,vi p2),(3,vi p3),(4,.pointer (some ⟨b4,0,none⟩)),(9,vi s1)]/\Stp [] K2 w1 κ' w'/\bI (kb p0 p1 p2 p3) k s1=some q2) ⟨_,_,⟨K2,(0:Int),R,Jj3,hq7⟩,(KM R)⟩ ?_
 rintro k _ w11 ⟨K12,s1,rfl,S13,h⟩
 rcases k with _ | k
 cases h
 obtain⟨o5,h,hk14⟩:=BI h;unfold kb at h
 refine Jq<|Jg3 [2,2,2,1,2,2,1,2,2] 1 R<|Jd3 R U108 R Z104<|Jd3 R U104 R Z26 ?_
 have f15:=f4.stp S13 R R
 refine Jb3 R I26 (f15.ld 1 R R)<|Jn 1 R<|Ob h λx16 hx16 h=>Jc3 R g0_0_1 hx16 U26 Z29 ?_
 have f16:=g0_0_1.stp (S3.tr S13) R R
 obtain⟨ax16,ux16,f17,hl18⟩:=f16.gSl hx16
 refine Jb3 R I29 hl18<|Jn3 R U29 R R<|Jb 1 R ?_
 revert h
 cases ht19:decide (s1<(x16.length:Int))
 refine JF λh=>Jy R<|Jc1<|Jt<|Jt ?_
 cases h
 have h:=hk14
 refine Jb1 ?_
 cases h
 exact Jw1 _ ⟨K12,s1,R,S13.wk R,R⟩ KN
 refine JT λh=>Jx R<|Js<|Jp<|Jq<|Jv<|Je [2,2,1,2,2,1,2,2,1,2] R<|Jd3 R U108 R Z104<|Jd3 R U104 R Z26<|Jb3 R I26 (f15.ld 1 R R)<|Jn 1 R<|Ob h λx26 hx26 h=>Jc3 R f16 hx26 U26 Z29 ?_
 obtain⟨ax26,ux26,f20,hl21⟩:=f16.gSl hx26
 refine Jb3 R I29 hl21<|Jn 1 R<|Ob h λx29 hx29 h=>Jc3 R f20 hx29 U29 Z2<|Jb3 R I2 (f20.gInt hx29)<|Jb 1 R<|Jg3 [2,2,2,2,1,2,2] 2 R<|Ob h λx33 hx33 h=>Jc3 R g1 hx33 U109 Z116<|Jd3 R U116 R Z2 ?_
 obtain⟨cse23,hre23,hle23⟩:=((g1.stp (S3.tr S13) R R)).gSt hx33
 obtain⟨ae23_0,ue23_0,rfl,fe23_0⟩:=Place.un hre23
 refine Jb3 R I2 (λw' hw'=>hle23 w' hw' 0 _ R)<|Jb 2 R ?_
 revert h
 cases ht24:(x33.At==p3)
 refine JF λh=>Jy R<|Js<|Jz<|Jp<|Jf3 R ?_
 cases h
 exact Jz1 λa ha=>⟨k,_,Ja3 _,⟨K12,((IntKind.i64.wrap<|s1+1):Int),R,S13.wk R,hk14⟩,(ha.mm R)⟩
 refine JT λh=>Jx R<|Je3 R<|Ju<|Ja1<|Jw<|Jw ?_
 cases h
 obtain rfl:=Option.some.inj hk14
 have h:=yL hK6
 refine Ja1<|Jq2<|Jw<|Ja2 (l:=[.tmp 8]) V144 (Jp2 R R) R ?_
 cases h
 exact⟨K12,R,(hE.stp (S3.tr S13) R R)⟩
 rintro _ w8 ⟨K9,s3,rfl,S10,rfl⟩
 have h:=yI hK6
 refine Jp<|Je3 R<|Ju<|Ja2 (l:=[.tmp 8]) V144 (Jp2 R R) R ?_
 cases h
 exact⟨K9,R,(hE.stp (S3.tr S10) R R)⟩
theorem lc {a0 u0}{p0:(List Int)}{p1:Int}(g0:Rd (Rp.int .i64) κ w 0 a0 u0 p0){r:Int}(h:iq p0 p1=some r):Ret Tryz.prog 75 [.slice a0 p0.length u0,vi p1] w (Pvi κ w r):=by
 unfold iq at h
 refine Jk3 κ F75 R N75 R λhE=>Je3 R<|Jq<|Je3 R ?_
 have hN1:(p0.length:Int)<=9223372036854775807:=g0.len_le
 refine Ob h λq2 hq3 hK2=>?_
 clear h
 refine Jx1 (λL w'=>∃κ',L=[]/\Stp [] κ w κ' w'/\q2=yk ()) ?_ ?_
 refine Jv<|Jy1 (λk L w'=>∃κ' v5,L=[(0,.slice a0 p0.length u0),(1,vi p1),(5,vi v5)]/\Stp [] κ w κ' w'/\0<=v5/\yn ((p0.length:Int)-v5)=k/\cntM (gR p0 p1) k v5 ()=some q2) ⟨_,_,⟨κ,0,R,Jj3,(by decide),(by simp),hq3⟩,(KM R)⟩ ?_
 rintro k _ w7 ⟨K8,v5,rfl,S9,hj1,hJ1,h⟩
 rcases k with _ | k
 have hk10:=h;obtain⟨o1,h⟩:=ca (yk (yl ()):Int⊕((Unit)⊕(Unit)))
 have hc1:decide (v5<(p0.length:Int))=false:=Jo2 (by omega)
 refine Jq<|Jg3 [2,2,2,2] 2 R<|Jn3 R U29 R R<|Jb 1 R<|Jw2 R hc1<|Jc1<|Jt<|Jt ?_
 cases h
 have h:=hk10
 refine Jb1 ?_
 cases h
 exact Jw1 _ ⟨K8,R,S9.wk R,R⟩ KN
 obtain⟨o1,h,hk10⟩:=BI h;unfold gR at h
 have hc1:decide (v5<(p0.length:Int))=true:=Jn2 (by omega)
 refine Jq<|Jg3 [2,2,2,2] 2 R<|Jn3 R U29 R R<|Jb 1 R<|Jv2 R hc1<|Js<|Jp<|Jq<|Jv<|Jg3 [2,2,2,1,2,2] 2 R<|Ob h λx14 hx14 h=>Jc3 R g0 hx14 U29 Z2<|Jb3 R I2 ((g0.stp S9 R R).gInt hx14)<|Jb 2 R ?_
 revert h
 cases ht12:(x14==p1)
 refine JF λh=>Jy R<|Js<|Jz<|Jp<|Jf3 R ?_
 have hw1:sh .i64 (v5+1)=v5+1:=wr1 hj1 (Jm2 hc1) hN1
 rw[hw1]
 have hc1:=Jm2 hc1
 cases h
 exact Jz1 λa ha=>⟨k,_,Ja3 _,⟨K8,v5+1,R,S9.wk R,by omega,by omega,hk10⟩,(ha.mm R)⟩
 refine JT λh=>Jx R<|Je3 R<|Ju<|Ja1<|Jw<|Jw ?_
 cases h
 obtain rfl:=Option.some.inj hk10
 have h:=yL hK2
 refine Ja1<|Jq2<|Jw<|Ja2 (l:=[.tmp 4]) V75 (Jp2 R R) R ?_
 cases h
 exact⟨K8,R,(hE.stp S9 R R)⟩
 rintro _ w4 ⟨K5,rfl,S6,rfl⟩
 have h:=yI hK2
 refine Jp<|Je3 R<|Ju<|Ja2 (l:=[.tmp 4]) V75 (Jp2 R R) R ?_
 cases h
 exact⟨K5,R,(hE.stp S6 R R)⟩
theorem tS {a0 u0}{p0:(List Int)}{a1 u1}{p1:(List Place)}{p2:Int}(g0:Rd (Rp.int .i64) κ w 0 a0 u0 p0) (g1:Rd Place.rp κ w 0 a1 u1 p1){r:Int}(h:nO p0 p1 p2=some r):Ret Tryz.prog 74 [.slice a0 p0.length u0,.slice a1 p1.length u1,vi p2] w (Pvi κ w r):=by
 unfold nO at h
 refine Jk3 κ F74 R N74 R λhE=>Je3 R<|Jq<|Je3 R ?_
 have hN1:(p0.length:Int)<=9223372036854775807:=g0.len_le
 refine Ob h λq2 hq3 hK2=>?_
 clear h
 refine Jx1 (λL w'=>∃κ',L=[]/\Stp [] κ w κ' w'/\q2=yk ()) ?_ ?_
 refine Jv<|Jy1 (λk L w'=>∃κ' v7,L=[(0,.slice a0 p0.length u0),(1,.slice a1 p1.length u1),(2,vi p2),(7,vi v7)]/\Stp [] κ w κ' w'/\0<=v7/\yn ((p0.length:Int)-v7)=k/\cntM (jE p0 p1 p2) k v7 ()=some q2) ⟨_,_,⟨κ,0,R,Jj3,(by decide),(by simp),hq3⟩,(KM R)⟩ ?_
 rintro k _ w7 ⟨K8,v7,rfl,S9,hj1,hJ1,h⟩
 rcases k with _ | k
 have hk10:=h;obtain⟨o1,h⟩:=ca (yk (yl ()):Int⊕((Unit)⊕(Unit)))
 have hc1:decide (v7<(p0.length:Int))=false:=Jo2 (by omega)
 refine Jq<|Jg3 [2,2,2,2] 2 R<|Jn3 R U29 R R<|Jb 1 R<|Jw2 R hc1<|Jc1<|Jt<|Jt ?_
 cases h
 have h:=hk10
 refine Jb1 ?_
 cases h
 exact Jw1 _ ⟨K8,R,S9.wk R,R⟩ KN
 obtain⟨o1,h,hk10⟩:=BI h;unfold jE at h
 have hc1:decide (v7<(p0.length:Int))=true:=Jn2 (by omega)
 refine Jq<|Jg3 [2,2,2,2] 2 R<|Jn3 R U29 R R<|Jb 1 R<|Jv2 R hc1<|Js<|Jp<|Jq<|Jv<|Jg3 [2,2,2,2,1,2,2,1,2,2] 3 R<|Ob h λx17 hx17 h=>Jc3 R g0 hx17 U29 Z2 ?_
 have f11:=g0.stp S9 R R
 refine Jb3 R I2 (f11.gInt hx17)<|Ob h λx19 hx19 h=>Jc3 R g1 hx19 U109 Z116<|Jd3 R U116 R Z2 ?_
 obtain⟨cse13,hre13,hle13⟩:=((g1.stp S9 R R)).gSt hx19
 obtain⟨ae13_0,ue13_0,rfl,fe13_0⟩:=Place.un hre13
 refine Jb3 R I2 (λw' hw'=>hle13 w' hw' 0 _ R)<|Jb 2 R ?_
 revert h
 cases ht14:(x19.At==p2)
 refine JF λh=>Jy R<|Js<|Jz<|Jp<|Jf3 R ?_
 have hw1:sh .i64 (v7+1)=v7+1:=wr1 hj1 (Jm2 hc1) hN1
 rw[hw1]
 have hc1:=Jm2 hc1
 cases h
 exact Jz1 λa ha=>⟨k,_,Ja3 _,⟨K8,v7+1,R,S9.wk R,by omega,by omega,hk10⟩,(ha.mm R)⟩
 refine JT λh=>Jx R<|Jg3 [2,2,2,1,2] 2 R<|Ob h λx26 hx26 h=>Jc3 R f11 hx26 U29 Z2<|Jb3 R I2 (f11.gInt hx26)<|Jb 1 R<|Ju<|Ja1<|Jw<|Jw ?_
 cases h
 obtain rfl:=Option.some.inj hk10
 have h:=yL hK2
 refine Ja1<|Jq2<|Jw<|Ja2 (l:=[.tmp 6]) V74 (Jp2 R R) R ?_
 cases h
 exact⟨K8,R,(hE.stp S9 R R)⟩
 rintro _ w4 ⟨K5,rfl,S6,rfl⟩
 have h:=yI hK2
 refine Jp<|Je3 R<|Ju<|Ja2 (l:=[.tmp 6]) V74 (Jp2 R R) R ?_
 cases h
 exact⟨K5,R,(hE.stp S6 R R)⟩
theorem nF {p0:Sig}  {r:Bool}(h:jv p0=some r):Ret Tryz.prog 48 [.agg #[vi p0.In,vi p0.Out]] w (Pvb κ w r):=by
 unfold jv at h
 refine Jk3 κ F48 R N48 R λhE=>Je [1,2] R<|Jf1 (κ:=κ) 2 R R R R R R R λb1 w1 K2 S3 f4=>Tv<|Jb 1 R<|Je [2,1,2,2,2,1,2,2,2,2,1,2,2,2,2,1,2,2,2] R<|Jd3 R U25 R Z2<|Jb3 R I2 (f4.ld 0 R R)<|Jn 2 R<|Ob h λp10 h hK5=>Ju1 [(4,2),(5,1),(6,2),(7,2)] [(8,2),(9,2),(10,1),(11,2),(12,2),(13,2),(14,2),(15,1),(16,2),(17,2),(18,2)] (λL w'=>L=[(1,.pointer (some ⟨b1,0,none⟩)),(2,.bool false),(10,.bool p10)]/\∃κ',Stp [] K2 w1 κ' w') tv ?_ ?_
 revert h
 cases ht6:decide (1<=p0.In)
 refine JF λh=>Jn 1 R<|Jd1 R R R R<|Jn 2 R ?_
 cases h
 exact Jv1 _ tv ⟨R,_,Jj3⟩<|KM R
 refine JT λh=>Jd3 R U25 R Z2<|Jb3 R I2 (f4.ld 0 R R)<|Jn 2 R ?_
 cases h
 exact Jv1 _ tv ⟨R,_,Jj3⟩<|KM R
 rintro _ w7 _ ⟨rfl,K8,S9⟩
 have h:=hK5
 refine Jn 1 R<|Ob h λp15 h hK10=>Ju1 [(9,2),(10,1),(11,2),(12,2)] [(13,2),(14,2),(15,1),(16,2),(17,2),(18,2)] (λL w'=>L=[(1,.pointer (some ⟨b1,0,none⟩)),(2,.bool false),(15,.bool p15)]/\∃κ',Stp [] K8 w7 κ' w') tv ?_ ?_
 revert h
 cases ht11:p10
 refine JF λh=>Jn 1 R<|Jd1 R R R R<|Jn 2 R ?_
 cases h
 exact Jv1 _ tv ⟨R,_,Jj3⟩<|KM R
 refine JT λh=>Jd3 R U25 R Z2<|Jb3 R I2 ((f4.stp S9 R R).ld 1 R R)<|Jn 2 R ?_
 cases h
 exact Jv1 _ tv ⟨R,_,Jj3⟩<|KM R
 rintro _ w13 _ ⟨rfl,K14,S15⟩
 have h:=hK10
 refine Jn 1 R<|Ob h λp20 h hK16=>Ju1 [(14,2),(15,1),(16,2),(17,2)] [(18,2)] (λL w'=>L=[(2,.bool false),(20,.bool p20)]/\∃κ',Stp [] K14 w13 κ' w') tv ?_ ?_
 revert h
 cases ht17:p15
 refine JF λh=>Jn 1 R<|Jd1 R R R R<|Jn 2 R ?_
 cases h
 exact Jv1 _ tv ⟨R,_,Jj3⟩<|KM R
 refine JT λh=>Jd3 R U25 R Z2<|Jb3 R I2 ((f4.stp (S9.tr S15) R R).ld 1 R R)<|Jn 2 R ?_
 cases h
 exact Jv1 _ tv ⟨R,_,Jj3⟩<|KM R
 rintro _ w19 _ ⟨rfl,K20,S21⟩
 have h:=hK16
 refine Jb 1 R<|Ju<|Ja2 (l:=[.tmp 2]) V48 (Jp2 R R) R ?_
 cases h
 exact⟨K20,R,(hE.stp (T4 S3 S9 S15 S21) R R)⟩
theorem iM {p0:Sig}  {r:Int}(h:cn p0=some r):Ret Tryz.prog 52 [.agg #[vi p0.In,vi p0.Out]] w (Pvi κ w r):=by
 unfold cn at h
 refine Jk3 κ F52 R N52 R λhE=>Je [1,2] R<|Jf1 (κ:=κ) 2 R R R R R R R λb1 w1 K2 S3 f4=>Tv<|Jb 1 R<|Je [2,1,2,2] R<|Jd3 R U25 R Z2<|Jb3 R I2 (f4.ld 0 R R)<|Ob h λ_z5 hz5 h=>Jf R (qc R R R<|te hz5)<|Jb 1 R<|Ju<|Ja2 (l:=[.tmp 2]) V52 (Jp2 R R) R ?_
 cases h
 exact⟨K2,R,(hE.stp S3 R R)⟩
theorem oc {p0:Int}{c0:Int}{b1}(gb1:Bc κ w 0 b1 2 [vi c0]){r:Bool}(h:ee p0 c0=some r):Ret Tryz.prog 112 [vi p0,.pointer (some ⟨b1,0,none⟩)] w (Pvb κ w r):=by
 unfold ee at h
 refine Jk3 κ F112 R N112 R λhE=>Je3 R<|Jg3 [2,2,2,2,1,2,2,2] 3 R<|Ob h λp10 h hK1=>Ju1 [(3,2),(4,1),(5,2),(6,2)] [(7,2)] (λL w'=>L=[(1,.pointer (some ⟨b1,0,none⟩)),(3,.bool false),(10,.bool p10)]/\∃κ',Stp [] κ w κ' w') tv ?_ ?_
 revert h
 cases ht2:decide (p0<0)
 refine JF λh=>Jn 1 R<|Jb3 R I2 (gb1.ld 0 R R)<|Jn 2 R ?_
 cases h
 exact Jv1 _ tv ⟨R,_,Jj3⟩<|KM R
 refine JT λh=>Jn 1 R<|Jd1 R R R R<|Jn 2 R ?_
 cases h
 exact Jv1 _ tv ⟨R,_,Jj3⟩<|KM R
 rintro _ w3 _ ⟨rfl,K4,S5⟩
 have h:=hK1
 refine Jb 1 R<|Ju<|Ja2 (l:=[.tmp 3]) V112 (Jp2 R R) R ?_
 cases h
 exact⟨K4,R,(hE.stp S5 R R)⟩
theorem nK {a0 u0}{p0:(List Int)}{p1:Int}(g0:Rd (Rp.int .i64) κ w 0 a0 u0 p0){r:Word×Bool}(h:fB p0 p1=some r):Ret Tryz.prog 51 [.slice a0 p0.length u0,vi p1] w (λv w'=>∃(κ':Col) (ra0:Option Addr) (ru0:Nat) (ra1:Option Addr) (ru1:Nat),v= .tuple #[.agg #[.slice ra0 r.1.Stem.length ru0,.slice ra1 r.1.Loop.length ru1],.bool r.2]/\Ent κ w κ' w'/\Oc E6 2 κ' w' 2 ra0 ru0 r.1.Stem/\Oc E6 2 κ' w' 3 ra1 ru1 r.1.Loop):=by
 unfold fB at h
 refine Jk3 κ F51 R N51 R λhE=>Je [1,2] R<|Jg1 (κ:=κ) 2 R R R R R X35 R λb4 w1 K2 S3 f4=>Tv<|Jb 1 R<|Jq<|Jg3 [2,2,2,2,2,2,2,2,2] 3 R<|Ob h λp14 h hK5=>Ju1 [(3,2),(4,2),(5,2),(6,2),(7,2),(8,2)] [] (λL w'=>L=[(0,.slice a0 p0.length u0),(1,vi p1),(4,.pointer (some ⟨b4,0,none⟩)),(14,.bool p14)]/\∃κ',Stp [] K2 w1 κ' w') tv ?_ ?_
 revert h
 cases ht6:decide (600<p1)
 refine JF λh=>Jn 1 R<|Jn3 R U29 R R<|Jn 4 R ?_
 cases h
 exact Jv1 _ tv ⟨R,_,Jj3⟩<|KM R
 refine JT λh=>Jn 6 R ?_
 cases h
 exact Jv1 _ tv ⟨R,_,Jj3⟩<|KM R
 rintro _ w7 _ ⟨rfl,K8,S9⟩
 have h:=hK5
 refine Jd ?_
 revert h
 cases ht10:p14
 refine JF λh=>Jy R<|Js<|Jp<|Jq<|Ob h λx19 hx19 h=>Ob h λx24 hx24 h=>Ob h λx20 hx20 h=>Ob h λx25 hx25 h=>Jx1 (λL w'=>∃κ' ae ah af ai,L=[(4,.pointer (some ⟨b4,0,none⟩)),(5,.bool true)]/\Stp [2,3,4] K8 w7 κ' w'/\Oc E6 2 κ' w' 3 ae ah x20/\Oc E6 2 κ' w' 4 af ai x25/\Bc κ' w' 2 b4 35 [.slice ae x20.length ah,.slice af x25.length ai]) ?_ ?_
 refine WC.rxt (κ:=K8) [] none (by kernel_rfl) λw23 S24=>Jq1 (fuel:=7) [(1,2),(2,2),(3,2),(6,2),(7,2),(8,2)] (by kernel_rfl) (by kernel_rfl) R<|Jn 2 R<|Jf R (dE (k1:= .i64) (k2:= .i64) U29 Z2 (.inl ⟨R,R⟩) (.inr ⟨_,R,R⟩) hx19 g0.1 R R R) ?_
 have f26:=g0.stp (T3 S3 S9 S24) R R
 have f25:=f26.sub hx19
 refine Jn 2 R<|Jf R (dE (k1:= .i64) (k2:= .i64) U29 Z2 (.inr ⟨_,R,R⟩) (.inl ⟨R,R⟩) hx24 f26.1 R R R) ?_
 have f27:=f26.sub hx24
 refine Jp1<|WA.fork2 (fuel:=6) 0 5 (by kernel_rfl) R ?_ ?_
 refine Jo1 (κ:=K8) (E:=E6) 3 R R R R R Y29 a8 R λam al w28 K29 S30 f31=>⟨(S30.cl R),Jp1<|WA.fork2 (fuel:=5) 4 5 (by kernel_rfl) R ?_ ?_⟩
 exact Jm1 (κ:=K29) (E:=E6) 3 [] R R R R R R R R R Y29 a8 R R R R f31 (Sl.srcP (bM _)<|f25.stp S30 R R) bH hx20 R λaa ac w33 K34 S35 f36=>⟨((S30.tr S35).cl R),Jp1<|Jq1 (fuel:=0) [(5,1),(9,1),(10,2),(11,1),(12,2)] (by kernel_rfl) (by kernel_rfl) R<|Jo1 (κ:=K34) (E:=E6) 4 R R R R R Y29 a8 R λak aj w37 K38 S39 f40=>⟨((T3 S30 S35 S39).cl R),Jm1 (κ:=K38) (E:=E6) 4 [] R R R R R R R R R Y29 a8 R R R R f40 (Sl.srcP (bM _)<|f27.stp (T3 S30 S35 S39) R R) bH hx25 R λad ab w42 K43 S44 f45=>⟨((T4 S30 S35 S39 S44).cl R),Jf R (bG (parts:=[(0,.tmp 20),(1,.tmp 25)]) (cells:=[.slice aa x20.length ac,.slice ad x25.length ab]) R R (by kernel_rfl))<|Jj1 (κ:=K43) 2 (vc:=[.slice aa x20.length ac,.slice ad x25.length ab]) R R R R R R R Z35 R R (f4.stp (T6 S9 S24 S30 S35 S39 S44) R R) R λw47 S48 f49=>⟨((T5 S30 S35 S39 S44 S48).cl R),Jn 1 R<|Jp1<|Jr1 [] (by kernel_rfl) (by kernel_rfl) R<|Jo<|Jw1 _ ⟨K43,aa,ac,ad,ab,R,(T6 S24 S30 S35 S39 S44 S48).wk R,(f36.stp (T3 S39 S44 S48) R R),(f45.stp S48 R R),f49⟩<|KM R⟩⟩⟩⟩
 exact Jo1 (κ:=K29) (E:=E6) 4 R R R R R Y29 a8 R λak aj w52 K53 S54 f55=>⟨((S30.tr S54).cl R),Jp1<|Jq1 (fuel:=0) [(4,1),(9,1),(10,2),(11,1),(12,2)] (by kernel_rfl) (by kernel_rfl) R<|Jm1 (κ:=K53) (E:=E6) 3 [] R R R R R R R R R Y29 a8 R R R R (f31.stp S54 R R) (Sl.srcP (bM _)<|f25.stp (S30.tr S54) R R) bH hx20 R λaa ac w58 K59 S60 f61=>⟨((T3 S30 S54 S60).cl R),Jm1 (κ:=K59) (E:=E6) 4 [] R R R R R R R R R Y29 a8 R R R R (f55.stp S60 R R) (Sl.srcP (bM _)<|f27.stp (T3 S30 S54 S60) R R) bH hx25 R λad ab w64 K65 S66 f67=>⟨((T4 S30 S54 S60 S66).cl R),Jf R (bG (parts:=[(0,.tmp 20),(1,.tmp 25)]) (cells:=[.slice aa x20.length ac,.slice ad x25.length ab]) R R (by kernel_rfl))<|Jj1 (κ:=K65) 2 (vc:=[.slice aa x20.length ac,.slice ad x25.length ab]) R R R R R R R Z35 R R (f4.stp (T6 S9 S24 S30 S54 S60 S66) R R) R λw69 S70 f71=>⟨((T5 S30 S54 S60 S66 S70).cl R),Jn 1 R<|Jp1<|Jr1 [] (by kernel_rfl) (by kernel_rfl) R<|Jo<|Jw1 _ ⟨K65,aa,ac,ad,ab,R,(T6 S24 S30 S54 S60 S66 S70).wk R,(f61.stp (S66.tr S70) R R),(f67.stp S70 R R),f71⟩<|KM R⟩⟩⟩⟩
 exact Jo1 (κ:=K8) (E:=E6) 3 R R R R R Y29 a8 R λak aj w74 K75 S76 f77=>⟨(S76.cl R),Jp1<|Jq1 (fuel:=0) [(0,1),(4,1),(9,1),(10,2),(11,1),(12,2)] (by kernel_rfl) (by kernel_rfl) R<|Jo1 (κ:=K75) (E:=E6) 4 R R R R R Y29 a8 R λam al w78 K79 S80 f81=>⟨((S76.tr S80).cl R),Jm1 (κ:=K79) (E:=E6) 4 [] R R R R R R R R R Y29 a8 R R R R f81 (Sl.srcP (bM _)<|f25.stp (S76.tr S80) R R) bH hx20 R λaa ac w83 K84 S85 f86=>⟨((T3 S76 S80 S85).cl R),Jm1 (κ:=K84) (E:=E6) 3 [] R R R R R R R R R Y29 a8 R R R R (f77.stp (S80.tr S85) R R) (Sl.srcP (bM _)<|f27.stp (T3 S76 S80 S85) R R) bH hx25 R λad ab w89 K90 S91 f92=>⟨((T4 S76 S80 S85 S91).cl R),Jf R (bG (parts:=[(0,.tmp 20),(1,.tmp 25)]) (cells:=[.slice aa x20.length ac,.slice ad x25.length ab]) R R (by kernel_rfl))<|Jj1 (κ:=K90) 2 (vc:=[.slice aa x20.length ac,.slice ad x25.length ab]) R R R R R R R Z35 R R (f4.stp (T6 S9 S24 S76 S80 S85 S91) R R) R λw94 S95 f96=>⟨((T5 S76 S80 S85 S91 S95).cl R),Jn 1 R<|Jp1<|Jr1 [] (by kernel_rfl) (by kernel_rfl) R<|Jo<|Jw1 _ ⟨(λb=>ren [(4,3),(3,4)]<|K90 b),aa,ac,ad,ab,R,(Jy2 ((T6 S24 S76 S80 S85 S91 S95).wk R) [(4,3),(3,4)] R),((f86.stp (S91.tr S95) R R).map (ren [(4,3),(3,4)]) R R),((f92.stp S95 R R).map (ren [(4,3),(3,4)]) R R),(f96.map (ren [(4,3),(3,4)]) R R)⟩<|KM R⟩⟩⟩⟩⟩
 rintro _ w16 ⟨K17,ae,ah,af,ai,rfl,S18,f20,f21,f22⟩
 refine Jp<|Ju<|Ja2 (l:=[.cell 4 35,.tmp 5]) V51 (bF R f22 I35 Z35 R<|Jp2 R R) R ?_
 cases h
 exact⟨(λb=>ren [(3,2),(4,3)]<|K17 b),ae,ah,af,ai,R,((hE.stp (T3 S3 S9 S18) R R).map (ren [(3,2),(4,3)]) R R),(f20.map (ren [(3,2),(4,3)]) R R),(f21.map (ren [(3,2),(4,3)]) R R)⟩
 refine JT λh=>Jx R<|Je [2,1,2] R<|Jf R (bG (parts:=[]) (cells:=[.slice none 0 0,.slice none 0 0]) R R (by kernel_rfl))<|Jj1 (κ:=K8) 2 (vc:=[.slice none 0 0,.slice none 0 0]) R R R R R R R Z35 R R (f4.stp S9 R R) R λw12 S13 f14=>Tv<|Jb 1 R<|Ju<|Jw<|Ja2 (l:=[.cell 4 35,.tmp 5]) V51 (bF R f14 I35 Z35 R<|Jp2 R R) R ?_
 cases h
 exact⟨K8,none,0,none,0,R,(hE.stp (T3 S3 S9 S13) R R),Ow.nil,Ow.nil⟩
theorem gv {a0 u0}{p0:(List Int)}{p1:Int}(g0:Rd (Rp.int .i64) κ w 0 a0 u0 p0){r:Int}(h:ch p0 p1=some r):Ret Tryz.prog 63 [.slice a0 p0.length u0,vi p1] w (Pvi κ w r):=by
 unfold ch at h
 refine Jk3 κ F63 R N63 R λhE=>Je3 R<|Jq<|Jg3 [2,2,2] 1 R<|Jn3 R U29 R R<|Jb 1 R ?_
 have hN1:(p0.length:Int)<=9223372036854775807:=g0.len_le
 refine Ob h λq2 hq3 hK2=>?_
 clear h
 refine Jx1 (λL w'=>∃κ',L=[]/\Stp [] κ w κ' w'/\q2=yk ()) ?_ ?_
 refine Jv<|Jy1 (λk L w'=>∃κ' v8,L=[(0,.slice a0 p0.length u0),(1,vi p1),(7,vi (p0.length:Int)),(8,vi v8)]/\Stp [] κ w κ' w'/\0<=v8/\yn ((p0.length:Int)-v8)=k/\cntM (cP p0 p1) k v8 ()=some q2) ⟨_,_,⟨κ,0,R,Jj3,(by decide),(by simp),hq3⟩,(KM R)⟩ ?_
 rintro k _ w7 ⟨K8,v8,rfl,S9,hj1,hJ1,h⟩
 rcases k with _ | k
 have hk10:=h;obtain⟨o1,h⟩:=ca (yk (yl ()):Int⊕((Unit)⊕(Unit)))
 have hc1:decide (v8<(p0.length:Int))=false:=Jo2 (by omega)
 refine Je3 R<|Jq<|Jw2 R hc1<|Jc1<|Jt<|Jt ?_
 cases h
 have h:=hk10
 refine Jb1 ?_
 cases h
 exact Jw1 _ ⟨K8,R,S9.wk R,R⟩ KN
 obtain⟨o1,h,hk10⟩:=BI h;unfold cP at h
 have hc1:decide (v8<(p0.length:Int))=true:=Jn2 (by omega)
 refine Je3 R<|Jq<|Jv2 R hc1<|Js<|Jp<|Jq<|Jv<|Je3 R<|Jg3 [2,2,2,2,1,2] 3 R<|Ob h λx14 hx14 h=>Jc3 R g0 hx14 U29 Z2<|Jb3 R I2 ((g0.stp S9 R R).gInt hx14)<|Jb 1 R ?_
 revert h
 cases ht12:(p1==x14)
 refine JF λh=>Jy R<|Js<|Jz<|Jp<|Jf3 R ?_
 have hw1:sh .i64 (v8+1)=v8+1:=wr1 hj1 (Jm2 hc1) hN1
 rw[hw1]
 have hc1:=Jm2 hc1
 cases h
 exact Jz1 λa ha=>⟨k,_,Ja3 _,⟨K8,v8+1,R,S9.wk R,by omega,by omega,hk10⟩,(ha.mm R)⟩
 refine JT λh=>Jx R<|Je3 R<|Ju<|Ja1<|Jw<|Jw ?_
 cases h
 obtain rfl:=Option.some.inj hk10
 have h:=yL hK2
 refine Ja1<|Jq2<|Jw<|Ja2 (l:=[.tmp 4]) V63 (Jp2 R R) R ?_
 cases h
 exact⟨K8,R,(hE.stp S9 R R)⟩
 rintro _ w4 ⟨K5,rfl,S6,rfl⟩
 have h:=yI hK2
 refine Jp<|Je3 R<|Ju<|Ja2 (l:=[.tmp 4]) V63 (Jp2 R R) R ?_
 cases h
 exact⟨K5,R,(hE.stp S6 R R)⟩
end Go.Proofs.YtpcjbkgbnoocaaaGreat
