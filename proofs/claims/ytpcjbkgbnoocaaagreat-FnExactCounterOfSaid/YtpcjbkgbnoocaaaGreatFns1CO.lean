/- The walks, part 1. By program. -/
import Derived.Test.YtpcjbkgbnoocaaaGreatFnsMCO
import Derived.Test.YtpcjbkgbnoocaaaGreatAlCO
set_option linter.unusedVariables false
set_option linter.unusedSimpArgs false
open Go.IntKind renaming wrap → hV
open Sum renaming inr → it, inl → sh
open Int renaming toNat → t5
namespace Go.Proofs.YtpcjbkgbnoocaaaGreat
open Go Go.Wk Go.Proofs
set_option maxRecDepth 100000
set_option maxHeartbeats 1000000
theorem lQ {w:World}{κ:Col}{p0:Sig}  {r:Sig}(h:kY p0=some r):Ret Tryz.prog 19 [.agg #[vi p0.In,vi p0.Out]] w (λv w'=>∃(κ':Col),v= .agg #[vi r.In,vi r.Out]/\Ent κ w κ' w'):=by
 unfold kY at h
 refine Ret.enter F19 R N19 R ?_
 dsimp only[envOf]
 have hE:=Ent.refl κ w
 refine Je [1,1] R (Jf1 (κ:=κ) 2 R R R R R R R λb1 w1 K2 S3 f4=>⟨tv,Jg1 (κ:=K2) 3 R R R R R X25 R λb2 w5 K6 S7 f8=>⟨tv,Jd (Je [1] R (Jg1 (κ:=K6) 4 R R R R R X25 R λb3 w9 K10 S11 f12=>⟨tv,Jd (Je [2,1,2,1] R (Jd3 R U43 R Z2 ?_))⟩))⟩⟩)
 have f13:=f4.stp (S7.tr S11) R R
 refine Jb3 R I2 (f13.ld 0 R R) (Jd3 R U25 R Z2 (Ji1 (κ:=K10) 4 (off:=0) (vc:=[vi p0.In]) (cs':=[vi p0.In,vi 0]) R R R R R R R Z2 R R f12 R R λw14 S15 f16=>⟨tv,Jd (Je [2,1,2,1] R (Jd3 R U43 R Z2 (Jb3 R I2 ((f13.stp S15 R R).ld 1 R R) (Jd3 R U25 R Z2 (Ji1 (κ:=K10) 4 (off:=1) (vc:=[vi p0.Out]) (cs':=[vi p0.In,vi p0.Out]) R R R R R R R Z2 R R f16 R R λw18 S19 f20=>⟨tv,Jd (Je [1,1] R (Jl tv R R R R (Jd2 (cs:=[vi p0.In,vi p0.Out]) I25 Z25 R R R (haE f20.cells)) (Jj1 (κ:=K10) 3 (vc:=[vi p0.In,vi p0.Out]) R R R R R R R Z25 R R (f8.stp (S11.tr (S15.tr S19)) R R) R λw22 S23 f24=>⟨tv,Jd (Ju (Ja2 (l:=[.cell 2 25]) V19 (bL R f24 I25 Z25 R R) R ?_))⟩)))⟩)))))⟩))
 cases h
 exact⟨K10,R,(hE.stp (S3.tr (S7.tr (S11.tr (S15.tr (S19.tr S23))))) R R)⟩
theorem cI {w:World}{κ:Col}{p0:Int}{p1:Int}{p2:Int}  {r:Bool}(h:ed p0 p1 p2=some r):Ret Tryz.prog 57 [vi p0,vi p1,vi p2] w (λv w'=>∃(κ':Col),v= .bool r/\Ent κ w κ' w'):=by
 unfold ed at h
 refine Ret.enter F57 R N57 R ?_
 dsimp only[envOf]
 have hE:=Ent.refl κ w
 refine Je3 R (Jg3 [2,2,2,2,2,2,2,2,2] 4 R (Ob h λp14 h hK1=>Ju1 [(4,2),(5,2),(6,2),(7,2)] [(8,2)] (λL w'=>L=[(6,.bool false),(14,.bool p14)]/\∃κ',Stp [] κ w κ' w') tv ?_ ?_))
 revert h
 cases ht2:decide (p1<=p0)
 refine JF λh=>Jn 4 R ?_
 cases h
 exact Jv1 _ tv ⟨R,_,Jj3⟩ (KM R)
 refine JT λh=>Jn 4 R ?_
 cases h
 exact Jv1 _ tv ⟨R,_,Jj3⟩ (KM R)
 rintro _ w3 _ ⟨rfl,K4,S5⟩
 have h:=hK1
 refine Jb 1 R (Ju (Ja2 (l:=[.tmp 6]) V57 (Jp2 R R) R ?_))
 cases h
 exact⟨K4,R,(hE.stp S5 R R)⟩
theorem dh {w:World}{κ:Col}{p0:Int}  {r:Int}(h:cW p0=some r):Ret Tryz.prog 59 [vi p0] w (λv w'=>∃(κ':Col),v=vi r/\Ent κ w κ' w'):=by
 unfold cW at h
 refine Ret.enter F59 R N59 R ?_
 dsimp only[envOf]
 have hE:=Ent.refl κ w
 refine Je3 R (Je3 R (Jq (Ob h λq2 hq3 hK2=>?_)))
 clear h
 refine Jx1 (λL w'=>∃κ',∃s3:Int×Int,L=[(3,vi s3.2)]/\Stp [] κ w κ' w'/\q2=it s3) ?_ ?_
 refine Jv (Jy1 (λk L w'=>∃κ',∃s1:Int×Int,L=[(0,vi s1.1),(3,vi s1.2)]/\Stp [] κ w κ' w'/\whileM d8 k s1=some q2) ⟨_,_,⟨κ,((p0:Int),(1:Int)),R,Jj3,hq3⟩,(KM R)⟩ ?_)
 rintro k _ w7 ⟨K8,s1,rfl,S9,h⟩
 rcases k with _ | k
 cases h
 obtain⟨o1,h,hk10⟩:=BI h;unfold d8 at h
 refine Jq (Je3 R ?_)
 revert h
 cases ht11:decide (0<s1.1)
 refine JF λh=>Jy R (Jc1 (Jt (Jt ?_)))
 cases h
 have h:=hk10
 refine Jb1 ?_
 cases h
 exact Jw1 _ ⟨K8,((s1.1:Int),(s1.2:Int)),R,S9.wk R,R⟩ (KM R)
 refine JT λh=>Jx R (Js (Jp (Jq (Jv (Jf3 R (Jz (Jp (Jf3 R ?_))))))))
 cases h
 exact Jz1 λa ha=>⟨k,_,Ja3 _,⟨K8,(((IntKind.i64.wrap (s1.1-1)):Int),((IntKind.i64.wrap (s1.2 * 2)):Int)),R,S9.wk R,hk10⟩,(ha.mm R)⟩
 rintro _ w4 ⟨K5,s3,rfl,S6,rfl⟩
 have h:=hK2
 dsimp only[aft]at h
 refine Jp (Je3 R (Ju (Ja2 (l:=[.tmp 2]) V59 (Jp2 R R) R ?_)))
 cases h
 exact⟨K5,R,(hE.stp S6 R R)⟩
theorem pQ {w:World}{κ:Col}{p0:Int}  {r:Pair}(h:j5 p0=some r):Ret Tryz.prog 165 [vi p0] w (λv w'=>∃(κ':Col) (ra0:Option Addr) (ru0:Nat) (ra1:Option Addr) (ru1:Nat),v= .agg #[.slice ra0 r.Ask.length ru0,.slice ra1 r.Give.length ru1]/\Ent κ w κ' w'/\Oc E6 2 κ' w' 2 ra0 ru0 r.Ask/\Oc E6 2 κ' w' 3 ra1 ru1 r.Give):=by
 unfold j5 at h
 refine Ret.enter F165 R N165 R ?_
 dsimp only[envOf]
 have hE:=Ent.refl κ w
 refine Je [1] R (Jg1 (κ:=κ) 2 R R R R R X154 R λb2 w1 K2 S3 f4=>⟨tv,Jd (Jq (Je3 R (Jv (Jq (Je3 R (Ob h λq1 h hK5=>Jx1 (λL w'=>∃κ',L=[(2,.pointer (some ⟨b2,0,none⟩)),(3,vi p0),(4,.bool q1)]/\Stp [] K2 w1 κ' w') ?_ ?_))))))⟩)
 revert h
 cases ht9:(p0==1)
 refine JF λh=>Jy R (Jf3 R ?_)
 cases h
 exact Jw1 _ ⟨K2,R,Jj3⟩ (KM R)
 refine JT λh=>Jx R (Js ?_)
 cases h
 exact Jw1 _ ⟨K2,R,Jj3⟩ (KM R)
 rintro _ w6 ⟨K7,rfl,S8⟩
 have h:=hK5
 refine Jp ?_
 revert h
 cases ht10:q1
 refine JF λh=>Jy R (Je3 R ?_)
 revert h
 cases ht21:(p0==2)
 refine JF λh=>Jy R (Je3 R ?_)
 revert h
 cases ht32:(p0==3)
 refine JF λh=>Jy R (Je3 R ?_)
 revert h
 cases ht48:(p0==4)
 refine JF λh=>Jy R (Je3 R ?_)
 revert h
 cases ht64:(p0==6)
 refine JF λh=>Jy R (Js (Jz (Jp (Je [1,1,2,1] R (Jn1 (κ:=K7) (E:=E6) 3 [] (parts:=[(0,.const (vi 2)),(1,.const (vi 3))]) (cells:=[vi 2,vi 3]) (xs:=([2,3]:List Int)) R R R R R R Y29 Tryzinfo2 R R R R R R R R R R ⟨[vi 2],[vi 3],Zl K7 w6 [],Zl K7 w6 [],R,Zl.sp (l1:=[]) (l2:=[]) R,Zl.sr (l1:=[]) (l2:=[]),R,⟨[vi 3],[],Zl K7 w6 [],Zl K7 w6 [],R,Zl.sp (l1:=[]) (l2:=[]) R,Zl.sr (l1:=[]) (l2:=[]),R,R⟩⟩ λao ah w75 K76 S77 f78=>⟨tv,Jn1 (κ:=K76) (E:=E6) 4 [] (parts:=[(0,.const (vi 1)),(1,.const (vi 3))]) (cells:=[vi 1,vi 3]) (xs:=([1,3]:List Int)) R R R R R R Y29 Tryzinfo2 R R R R R R R R R R ⟨[vi 1],[vi 3],Zl K76 w75 [],Zl K76 w75 [],R,Zl.sp (l1:=[]) (l2:=[]) R,Zl.sr (l1:=[]) (l2:=[]),R,⟨[vi 3],[],Zl K76 w75 [],Zl K76 w75 [],R,Zl.sp (l1:=[]) (l2:=[]) R,Zl.sr (l1:=[]) (l2:=[]),R,R⟩⟩ λak ad w79 K80 S81 f82=>⟨tv,Jf R (bI (parts:=[(0,.tmp 27),(1,.tmp 28)]) (cells:=[.slice ao ([2,3]:List Int).length ah,.slice ak ([1,3]:List Int).length ad]) R R (by kernel_rfl)) (Jj1 (κ:=K80) 2 (vc:=[.slice ao ([2,3]:List Int).length ah,.slice ak ([1,3]:List Int).length ad]) R R R R R R R Z154 R R (f4.stp (S8.tr (S77.tr S81)) R R) R λw84 S85 f86=>⟨tv,Jd (Ju (Ja2 (l:=[.cell 2 154]) V165 (bL R f86 I154 Z154 R R) R ?_))⟩)⟩⟩)))))
 cases h
 exact⟨(λb=>ren [(3,2),(4,3)] (K80 b)),ao,ah,ak,ad,R,((hE.stp (S3.tr (S8.tr (S77.tr (S81.tr S85)))) R R).map (ren [(3,2),(4,3)]) R R),((f78.stp (S81.tr S85) R R).map (ren [(3,2),(4,3)]) R R),((f82.stp S85 R R).map (ren [(3,2),(4,3)]) R R)⟩
 refine JT λh=>Jx R (Je [1,2,1] R (Jn1 (κ:=K7) (E:=E6) 3 [] (parts:=[(0,.const (vi 0))]) (cells:=[vi 0]) (xs:=([0]:List Int)) R R R R R R Y29 Tryzinfo2 R R R R R R R R R R ⟨[vi 0],[],Zl K7 w6 [],Zl K7 w6 [],R,Zl.sp (l1:=[]) (l2:=[]) R,Zl.sr (l1:=[]) (l2:=[]),R,R⟩ λae aq w65 K66 S67 f68=>⟨tv,Jf R (bI (parts:=[(0,.tmp 25)]) (cells:=[.slice ae ([0]:List Int).length aq,.slice none 0 0]) R R (by kernel_rfl)) (Jj1 (κ:=K66) 2 (vc:=[.slice ae ([0]:List Int).length aq,.slice none 0 0]) R R R R R R R Z154 R R (f4.stp (S8.tr S67) R R) R λw70 S71 f72=>⟨tv,Jd (Ju (Ja1 (Jw (Ja2 (l:=[.cell 2 154]) V165 (bL R f72 I154 Z154 R R) R ?_))))⟩)⟩))
 cases h
 exact⟨(λb=>ren [(3,2)] (K66 b)),ae,aq,none,0,R,((hE.stp (S3.tr (S8.tr (S67.tr S71))) R R).map (ren [(3,2)]) R R),((f68.stp S71 R R).map (ren [(3,2)]) R R),Ow.nil⟩
 refine JT λh=>Jx R (Je [1,1,2,1] R (Jn1 (κ:=K7) (E:=E6) 3 [] (parts:=[(0,.const (vi 0)),(1,.const (vi 1))]) (cells:=[vi 0,vi 1]) (xs:=([0,1]:List Int)) R R R R R R Y29 Tryzinfo2 R R R R R R R R R R ⟨[vi 0],[vi 1],Zl K7 w6 [],Zl K7 w6 [],R,Zl.sp (l1:=[]) (l2:=[]) R,Zl.sr (l1:=[]) (l2:=[]),R,⟨[vi 1],[],Zl K7 w6 [],Zl K7 w6 [],R,Zl.sp (l1:=[]) (l2:=[]) R,Zl.sr (l1:=[]) (l2:=[]),R,R⟩⟩ λab ai w49 K50 S51 f52=>⟨tv,Jn1 (κ:=K50) (E:=E6) 4 [] (parts:=[(0,.const (vi 1))]) (cells:=[vi 1]) (xs:=([1]:List Int)) R R R R R R Y29 Tryzinfo2 R R R R R R R R R R ⟨[vi 1],[],Zl K50 w49 [],Zl K50 w49 [],R,Zl.sp (l1:=[]) (l2:=[]) R,Zl.sr (l1:=[]) (l2:=[]),R,R⟩ λaj an w53 K54 S55 f56=>⟨tv,Jf R (bI (parts:=[(0,.tmp 20),(1,.tmp 21)]) (cells:=[.slice ab ([0,1]:List Int).length ai,.slice aj ([1]:List Int).length an]) R R (by kernel_rfl)) (Jj1 (κ:=K54) 2 (vc:=[.slice ab ([0,1]:List Int).length ai,.slice aj ([1]:List Int).length an]) R R R R R R R Z154 R R (f4.stp (S8.tr (S51.tr S55)) R R) R λw58 S59 f60=>⟨tv,Jd (Ju (Ja1 (Jw (Ja2 (l:=[.cell 2 154]) V165 (bL R f60 I154 Z154 R R) R ?_))))⟩)⟩⟩))
 cases h
 exact⟨(λb=>ren [(3,2),(4,3)] (K54 b)),ab,ai,aj,an,R,((hE.stp (S3.tr (S8.tr (S51.tr (S55.tr S59)))) R R).map (ren [(3,2),(4,3)]) R R),((f52.stp (S55.tr S59) R R).map (ren [(3,2),(4,3)]) R R),((f56.stp S59 R R).map (ren [(3,2),(4,3)]) R R)⟩
 refine JT λh=>Jx R (Je [1,1,2,1] R (Jn1 (κ:=K7) (E:=E6) 3 [] (parts:=[(0,.const (vi 1))]) (cells:=[vi 1]) (xs:=([1]:List Int)) R R R R R R Y29 Tryzinfo2 R R R R R R R R R R ⟨[vi 1],[],Zl K7 w6 [],Zl K7 w6 [],R,Zl.sp (l1:=[]) (l2:=[]) R,Zl.sr (l1:=[]) (l2:=[]),R,R⟩ λal aa w33 K34 S35 f36=>⟨tv,Jn1 (κ:=K34) (E:=E6) 4 [] (parts:=[(0,.const (vi 0))]) (cells:=[vi 0]) (xs:=([0]:List Int)) R R R R R R Y29 Tryzinfo2 R R R R R R R R R R ⟨[vi 0],[],Zl K34 w33 [],Zl K34 w33 [],R,Zl.sp (l1:=[]) (l2:=[]) R,Zl.sr (l1:=[]) (l2:=[]),R,R⟩ λap am w37 K38 S39 f40=>⟨tv,Jf R (bI (parts:=[(0,.tmp 15),(1,.tmp 16)]) (cells:=[.slice al ([1]:List Int).length aa,.slice ap ([0]:List Int).length am]) R R (by kernel_rfl)) (Jj1 (κ:=K38) 2 (vc:=[.slice al ([1]:List Int).length aa,.slice ap ([0]:List Int).length am]) R R R R R R R Z154 R R (f4.stp (S8.tr (S35.tr S39)) R R) R λw42 S43 f44=>⟨tv,Jd (Ju (Ja1 (Jw (Ja2 (l:=[.cell 2 154]) V165 (bL R f44 I154 Z154 R R) R ?_))))⟩)⟩⟩))
 cases h
 exact⟨(λb=>ren [(3,2),(4,3)] (K38 b)),al,aa,ap,am,R,((hE.stp (S3.tr (S8.tr (S35.tr (S39.tr S43)))) R R).map (ren [(3,2),(4,3)]) R R),((f36.stp (S39.tr S43) R R).map (ren [(3,2),(4,3)]) R R),((f40.stp S43 R R).map (ren [(3,2),(4,3)]) R R)⟩
 refine JT λh=>Jx R (Je [1,2,1] R (Jn1 (κ:=K7) (E:=E6) 3 [] (parts:=[(0,.const (vi 2))]) (cells:=[vi 2]) (xs:=([2]:List Int)) R R R R R R Y29 Tryzinfo2 R R R R R R R R R R ⟨[vi 2],[],Zl K7 w6 [],Zl K7 w6 [],R,Zl.sp (l1:=[]) (l2:=[]) R,Zl.sr (l1:=[]) (l2:=[]),R,R⟩ λaf ac w22 K23 S24 f25=>⟨tv,Jf R (bI (parts:=[(0,.tmp 11)]) (cells:=[.slice af ([2]:List Int).length ac,.slice none 0 0]) R R (by kernel_rfl)) (Jj1 (κ:=K23) 2 (vc:=[.slice af ([2]:List Int).length ac,.slice none 0 0]) R R R R R R R Z154 R R (f4.stp (S8.tr S24) R R) R λw27 S28 f29=>⟨tv,Jd (Ju (Ja1 (Jw (Ja2 (l:=[.cell 2 154]) V165 (bL R f29 I154 Z154 R R) R ?_))))⟩)⟩))
 cases h
 exact⟨(λb=>ren [(3,2)] (K23 b)),af,ac,none,0,R,((hE.stp (S3.tr (S8.tr (S24.tr S28))) R R).map (ren [(3,2)]) R R),((f25.stp S28 R R).map (ren [(3,2)]) R R),Ow.nil⟩
 refine JT λh=>Jx R (Je [1,2,1] R (Jn1 (κ:=K7) (E:=E6) 3 [] (parts:=[(0,.const (vi 1))]) (cells:=[vi 1]) (xs:=([1]:List Int)) R R R R R R Y29 Tryzinfo2 R R R R R R R R R R ⟨[vi 1],[],Zl K7 w6 [],Zl K7 w6 [],R,Zl.sp (l1:=[]) (l2:=[]) R,Zl.sr (l1:=[]) (l2:=[]),R,R⟩ λa7 u7 w11 K12 S13 f14=>⟨tv,Jf R (bI (parts:=[(0,.tmp 7)]) (cells:=[.slice a7 ([1]:List Int).length u7,.slice none 0 0]) R R (by kernel_rfl)) (Jj1 (κ:=K12) 2 (vc:=[.slice a7 ([1]:List Int).length u7,.slice none 0 0]) R R R R R R R Z154 R R (f4.stp (S8.tr S13) R R) R λw16 S17 f18=>⟨tv,Jd (Ju (Ja1 (Jw (Ja2 (l:=[.cell 2 154]) V165 (bL R f18 I154 Z154 R R) R ?_))))⟩)⟩))
 cases h
 exact⟨(λb=>ren [(3,2)] (K12 b)),a7,u7,none,0,R,((hE.stp (S3.tr (S8.tr (S13.tr S17))) R R).map (ren [(3,2)]) R R),((f14.stp S17 R R).map (ren [(3,2)]) R R),Ow.nil⟩
theorem kl {w:World}{κ:Col}{a0 u0}{p0:(List Int)}{p1:Int}(g0:Rd (Rp.int .i64) κ w 0 a0 u0 p0){r:Bool}(h:jv p0 p1=some r):Ret Tryz.prog 201 [.slice a0 p0.length u0,vi p1] w (λv w'=>∃(κ':Col),v= .bool r/\Ent κ w κ' w'):=by
 unfold jv at h
 refine Ret.enter F201 R N201 R ?_
 dsimp only[envOf]
 have hE:=Ent.refl κ w
 refine Je3 R (Jq (Je3 R ?_))
 have hN1:(p0.length:Int)<=9223372036854775807:=g0.len_le
 refine Ob h λq2 hq3 hK2=>?_
 clear h
 refine Jx1 (λL w'=>∃κ',L=[]/\Stp [] κ w κ' w'/\q2=it ()) ?_ ?_
 refine Jv (Jy1 (λk L w'=>∃κ' v5,L=[(0,.slice a0 p0.length u0),(1,vi p1),(5,vi v5)]/\Stp [] κ w κ' w'/\0<=v5/\t5 ((p0.length:Int)-v5)=k/\cntM (iO p0 p1) k v5 ()=some q2) ⟨_,_,⟨κ,0,R,Jj3,(by decide),(by simp),hq3⟩,(KM R)⟩ ?_)
 rintro k _ w7 ⟨K8,v5,rfl,S9,hj1,hJ1,h⟩
 rcases k with _ | k
 have hk10:=h;obtain⟨o1,h⟩:=bO (it (sh ()):Bool⊕((Unit)⊕(Unit)))
 have hc1:decide (v5<(p0.length:Int))=false:=Jo2 (by omega)
 refine Jq (Jg3 [2,2,2,2] 2 R (Jf R (Je2 U29 R R) (Jb 1 R (Jw2 R hc1 (Jc1 (Jt (Jt ?_)))))))
 cases h
 have h:=hk10
 refine Jb1 ?_
 cases h
 exact Jw1 _ ⟨K8,R,S9.wk R,R⟩ KN
 obtain⟨o1,h,hk10⟩:=BI h;unfold iO at h
 have hc1:decide (v5<(p0.length:Int))=true:=Jn2 (by omega)
 refine Jq (Jg3 [2,2,2,2] 2 R (Jf R (Je2 U29 R R) (Jb 1 R (Jv2 R hc1 (Js (Jp (Jq (Jv (Jg3 [2,2,2,1,2,2] 2 R (Ob h λx14 hx14 h=>Jc3 R g0 hx14 U29 Z2 (Jb3 R I2 ((g0.stp S9 R R).gInt hx14) (Jb 2 R ?_))))))))))))
 revert h
 cases ht12:(x14==p1)
 refine JF λh=>Jy R (Js (Jz (Jp (Jf3 R ?_))))
 have hw1:hV .i64 (v5+1)=v5+1:=wr1 hj1 (Jm2 hc1) hN1
 rw[hw1]
 have hc1:=Jm2 hc1
 cases h
 exact Jz1 λa ha=>⟨k,_,Ja3 _,⟨K8,v5+1,R,S9.wk R,by omega,by omega,hk10⟩,(ha.mm R)⟩
 refine JT λh=>Jx R (Je3 R (Ju (Ja1 (Jw (Jw ?_)))))
 cases h
 obtain rfl:=Option.some.inj hk10
 have h:=hK2
 dsimp only[aft]at h
 refine Ja1 (Jq2 (Jw (Ja2 (l:=[.tmp 4]) V201 (Jp2 R R) R ?_)))
 cases h
 exact⟨K8,R,(hE.stp S9 R R)⟩
 rintro _ w4 ⟨K5,rfl,S6,rfl⟩
 have h:=hK2
 dsimp only[aft]at h
 refine Jp (Je3 R (Ju (Ja2 (l:=[.tmp 4]) V201 (Jp2 R R) R ?_)))
 cases h
 exact⟨K5,R,(hE.stp S6 R R)⟩
theorem kd {w:World}{κ:Col}{p0:Int}{p1:Int}  {r:Int}(h:iF p0 p1=some r):Ret Tryz.prog 159 [vi p0,vi p1] w (λv w'=>∃(κ':Col),v=vi r/\Ent κ w κ' w'):=by
 unfold iF at h
 refine Ret.enter F159 R N159 R ?_
 dsimp only[envOf]
 have hE:=Ent.refl κ w
 refine Je3 R (Jq (Je3 R ?_))
 revert h
 cases ht1:decide (p1<p0)
 refine JF λh=>Jy R (Js (Jp (Je3 R (Ju (Ja2 (l:=[.tmp 4]) V159 (Jp2 R R) R ?_)))))
 cases h
 exact⟨κ,R,hE⟩
 refine JT λh=>Jx R (Je3 R (Ju (Jw (Ja2 (l:=[.tmp 4]) V159 (Jp2 R R) R ?_))))
 cases h
 exact⟨κ,R,hE⟩
theorem oC {w:World}{κ:Col}{a0 u0}{p0:(List (List Int))}{p1:Int}{p2:Int}(g0:Rd (Rp.sl (Rp.int .i64)) κ w 0 a0 u0 p0){r:Int}(h:iU p0 p1 p2=some r):Ret Tryz.prog 54 [.slice a0 p0.length u0,vi p1,vi p2] w (λv w'=>∃(κ':Col),v=vi r/\Ent κ w κ' w'):=by
 unfold iU at h
 refine Ret.enter F54 R N54 R ?_
 dsimp only[envOf]
 have hE:=Ent.refl κ w
 refine Je3 R (Jq (Je3 R ?_))
 have hN1:(p0.length:Int)<=9223372036854775807:=g0.len_le
 refine Ob h λq2 hq3 hK2=>?_
 clear h
 refine Jx1 (λL w'=>∃κ',L=[]/\Stp [] κ w κ' w'/\q2=it ()) ?_ ?_
 refine Jv (Jy1 (λk L w'=>∃κ' v7,L=[(0,.slice a0 p0.length u0),(1,vi p1),(2,vi p2),(7,vi v7)]/\Stp [] κ w κ' w'/\0<=v7/\t5 ((p0.length:Int)-v7)=k/\cntM (fk p0 p1 p2) k v7 ()=some q2) ⟨_,_,⟨κ,0,R,Jj3,(by decide),(by simp),hq3⟩,(KM R)⟩ ?_)
 rintro k _ w7 ⟨K8,v7,rfl,S9,hj1,hJ1,h⟩
 rcases k with _ | k
 have hk10:=h;obtain⟨o1,h⟩:=bO (it (sh ()):Int⊕((Unit)⊕(Unit)))
 have hc1:decide (v7<(p0.length:Int))=false:=Jo2 (by omega)
 refine Jq (Jg3 [2,2,2,2] 2 R (Jf R (Je2 U26 R R) (Jb 1 R (Jw2 R hc1 (Jc1 (Jt (Jt ?_)))))))
 cases h
 have h:=hk10
 refine Jb1 ?_
 cases h
 exact Jw1 _ ⟨K8,R,S9.wk R,R⟩ KN
 obtain⟨o1,h,hk10⟩:=BI h;unfold fk at h
 have hc1:decide (v7<(p0.length:Int))=true:=Jn2 (by omega)
 refine Jq (Jg3 [2,2,2,2] 2 R (Jf R (Je2 U26 R R) (Jb 1 R (Jv2 R hc1 (Js (Jp (Jq (Jv (Jg3 [2,2,2,1,2,1,2,2,2,2,2,2,1,2,1,2,2,2] 2 R (Ob h λx16 hx16 h=>Jc3 R g0 hx16 U26 Z29 ?_))))))))))
 have f11:=g0.stp S9 R R
 obtain⟨ax16,ux16,f12,hl13⟩:=f11.gSl hx16
 refine Jb3 R I29 hl13 (Ob h λx18 hx18 h=>Jc3 R f12 hx18 U29 Z2 (Jb3 R I2 (f12.gInt hx18) (Jn 3 R (Ob h λp31 h hK14=>Ju1 [(9,2),(10,2),(11,2),(12,1),(13,2),(14,1),(15,2),(16,2),(17,2)] [] (λL w'=>L=[(0,.slice a0 p0.length u0),(1,vi p1),(2,vi p2),(7,vi v7),(31,.bool p31)]/\∃κ',Stp [] K8 w7 κ' w') tv ?_ ?_))))
 revert h
 cases ht15:(x18==p1)
 refine JF λh=>Jn 3 R (Jd1 R R R R (Jn 1 R (Jd1 R R R R (Jn 3 R ?_))))
 cases h
 exact Jv1 _ tv ⟨R,_,Jj3⟩ (KM R)
 refine JT λh=>Jn 2 R (Ob h λx25 hx25 h=>Jc3 R f11 hx25 U26 Z29 ?_)
 obtain⟨ax25,ux25,f16,hl17⟩:=f11.gSl hx25
 refine Jb3 R I29 hl17 (Ob h λx27 hx27 h=>Jc3 R f16 hx27 U29 Z2 (Jb3 R I2 (f16.gInt hx27) (Jn 3 R ?_)))
 cases h
 exact Jv1 _ tv ⟨R,_,Jj3⟩ (KM R)
 rintro _ w18 _ ⟨rfl,K19,S20⟩
 have h:=hK14
 refine Jd ?_
 revert h
 cases ht21:p31
 refine JF λh=>Jy R (Js (Jz (Jp (Jf3 R ?_))))
 have hw1:hV .i64 (v7+1)=v7+1:=wr1 hj1 (Jm2 hc1) hN1
 rw[hw1]
 have hc1:=Jm2 hc1
 cases h
 exact Jz1 λa ha=>⟨k,_,Ja3 _,⟨K19,v7+1,R,(S9.tr S20).wk R,by omega,by omega,hk10⟩,(ha.mm R)⟩
 refine JT λh=>Jx R (Je3 R (Ju (Ja1 (Jw (Jw ?_)))))
 cases h
 obtain rfl:=Option.some.inj hk10
 have h:=hK2
 dsimp only[aft]at h
 refine Ja1 (Jq2 (Jw (Ja2 (l:=[.tmp 6]) V54 (Jp2 R R) R ?_)))
 cases h
 exact⟨K19,R,(hE.stp (S9.tr S20) R R)⟩
 rintro _ w4 ⟨K5,rfl,S6,rfl⟩
 have h:=hK2
 dsimp only[aft]at h
 refine Jp (Je3 R (Ju (Ja2 (l:=[.tmp 6]) V54 (Jp2 R R) R ?_)))
 cases h
 exact⟨K5,R,(hE.stp S6 R R)⟩
theorem m5 {w:World}{κ:Col}{p0:Int}  {r:(List Int)}(h:kC p0=some r):Ret Tryz.prog 127 [vi p0] w (λv w'=>∃(κ':Col) (ra0:Option Addr) (ru0:Nat),v= .slice ra0 r.length ru0/\Ent κ w κ' w'/\Oc E6 2 κ' w' 2 ra0 ru0 r):=by
 unfold kC at h
 refine Ret.enter F127 R N127 R ?_
 dsimp only[envOf]
 have hE:=Ent.refl κ w
 refine Je3 R (Je [1,2] R (Jo1 (κ:=κ) (E:=E6) 2 R R R R R Y29 Tryzinfo2 R λa5 u5 w1 K2 S3 f4=>⟨tv,Jb 1 R (Jq (Je3 R (Ob h λ_ hr5 h=>?_)))⟩))
 have hN5:=iz hr5
 refine Ob h λq2 hq7 hK6=>?_
 clear h
 refine Jx1 (λL w'=>∃κ',∃s3:(List Int),∃aa ad,L=[(3,.slice aa s3.length ad)]/\Stp [2] K2 w1 κ' w'/\Oc E6 2 κ' w' 2 aa ad s3/\q2=it s3) ?_ ?_
 refine Jv (Jy1 (λk L w'=>∃κ' v4,∃s1:(List Int),∃ab ac,L=[(0,vi p0),(3,.slice ab s1.length ac),(4,vi v4)]/\Stp [2] K2 w1 κ' w'/\Oc E6 2 κ' w' 2 ab ac s1/\0<=v4/\t5 (p0-v4)=k/\cntM g7 k v4 s1=some q2) ⟨_,_,⟨K2,0,(([]:List Int):(List Int)),a5,u5,R,Jj3,f4,(by decide),(by simp),hq7⟩,(KM R)⟩ ?_)
 rintro k _ w12 ⟨K13,v4,s1,ab,ac,rfl,S14,f15,hj5,hJ5,h⟩
 rcases k with _ | k
 have hk16:=h;obtain⟨o5,h⟩:=bO (it (sh s1):(List Int)⊕(((List Int))⊕((List Int))))
 have hc5:decide (v4<p0)=false:=Jo2 (by omega)
 refine Jq (Je3 R (Jw2 R hc5 (Jc1 (Jt (Jt ?_)))))
 cases h
 have h:=hk16
 refine Jb1 ?_
 cases h
 exact Jw1 _ ⟨K13,(s1:(List Int)),ab,ac,R,S14.wk R,f15,R⟩ (KM R)
 obtain⟨o5,h,hk16⟩:=BI h;unfold g7 at h
 have hc5:decide (v4<p0)=true:=Jn2 (by omega)
 refine Jq (Je3 R (Jv2 R hc5 (Js (Jp (Jq (Jv (Jh3 [2,1,1,2] 1 R (Jn1 (κ:=K13) (E:=E6) 3 [] (parts:=[(0,.const (vi (-1)))]) (cells:=[vi (-1)]) (xs:=([(-1)]:List Int)) R R R R R R Y29 Tryzinfo2 R R R R R R R R R R ⟨[vi (-1)],[],Zl K13 w12 [],Zl K13 w12 [],R,Zl.sp (l1:=[]) (l2:=[]) R,Zl.sr (l1:=[]) (l2:=[]),R,R⟩ λah ai w17 K18 S19 f20=>⟨tv,Ob h λx13 hx13 h=>Jm1 (κ:=K18) (E:=E6) 2 [] R R R R R R R R R Y29 Tryzinfo2 R R R R (f15.stp S19 R R) (Sl.srcP (bT _) f20.rdc) bJ hx13 R λae af w22 K23 S24 f25=>⟨tv,Jc 1 R (Jz (Jp (Jf3 R ?_)))⟩⟩))))))))
 have hw5:hV .i64 (v4+1)=v4+1:=wr1 hj5 (Jm2 hc5) hN5
 rw[hw5]
 have hc5:=Jm2 hc5
 cases h
 exact Jz1 λa ha=>⟨k,_,Ja3 _,⟨K23,v4+1,(x13:(List Int)),ae,af,R,(S14.tr (S19.tr S24)).wk R,f25,by omega,by omega,hk16⟩,(ha.mm R)⟩
 rintro _ w8 ⟨K9,s3,aa,ad,rfl,S10,f11,rfl⟩
 have h:=hK6
 dsimp only[aft]at h
 refine Jp (Je3 R (Ju (Ja2 (l:=[.tmp 2]) V127 (Jp2 R R) R ?_)))
 cases h
 exact⟨K9,aa,ad,R,(hE.stp (S3.tr S10) R R),f11⟩
theorem qD {w:World}{κ:Col}{a0 u0}{p0:(List Int)}{a1 u1}{p1:(List Int)}(g0:Rd (Rp.int .i64) κ w 0 a0 u0 p0) (g1:Rd (Rp.int .i64) κ w 0 a1 u1 p1){r:Bool}(h:kG p0 p1=some r):Ret Tryz.prog 212 [.slice a0 p0.length u0,.slice a1 p1.length u1] w (λv w'=>∃(κ':Col),v= .bool r/\Ent κ w κ' w'):=by
 unfold kG at h
 refine Ret.enter F212 R N212 R ?_
 dsimp only[envOf]
 have hE:=Ent.refl κ w
 refine Je3 R (Jq (Jg3 [2,2,2,2,2] 1 R (Jf R (Je2 U29 R R) (Jn 1 R (Jf R (Je2 U29 R R) (Jb 1 R ?_))))))
 revert h
 cases ht1:((p0.length:Int) !=(p1.length:Int))
 refine JF λh=>Jy R (Js (Jp (Jq (Je3 R ?_))))
 have hN2:(p0.length:Int)<=9223372036854775807:=g0.len_le
 refine Ob h λq2 hq4 hK3=>?_
 clear h
 refine Jx1 (λL w'=>∃κ',L=[]/\Stp [] κ w κ' w'/\q2=it ()) ?_ ?_
 refine Jv (Jy1 (λk L w'=>∃κ' v5,L=[(0,.slice a0 p0.length u0),(1,.slice a1 p1.length u1),(5,vi v5)]/\Stp [] κ w κ' w'/\0<=v5/\t5 ((p0.length:Int)-v5)=k/\cntM (hU p0 p1) k v5 ()=some q2) ⟨_,_,⟨κ,0,R,Jj3,(by decide),(by simp),hq4⟩,(KM R)⟩ ?_)
 rintro k _ w8 ⟨K9,v5,rfl,S10,hj2,hJ2,h⟩
 rcases k with _ | k
 have hk11:=h;obtain⟨o2,h⟩:=bO (it (sh ()):Bool⊕((Unit)⊕(Unit)))
 have hc2:decide (v5<(p0.length:Int))=false:=Jo2 (by omega)
 refine Jq (Jg3 [2,2,2,2] 2 R (Jf R (Je2 U29 R R) (Jb 1 R (Jw2 R hc2 (Jc1 (Jt (Jt ?_)))))))
 cases h
 have h:=hk11
 refine Jb1 ?_
 cases h
 exact Jw1 _ ⟨K9,R,S10.wk R,R⟩ KN
 obtain⟨o2,h,hk11⟩:=BI h;unfold hU at h
 have hc2:decide (v5<(p0.length:Int))=true:=Jn2 (by omega)
 refine Jq (Jg3 [2,2,2,2] 2 R (Jf R (Je2 U29 R R) (Jb 1 R (Jv2 R hc2 (Js (Jp (Jq (Jv (Jq (Js1 (κ:=K9) [0] none [(0,2),(1,2),(2,2),(4,2),(5,2),(6,2),(3,0),(7,0),(8,2)] [] (by kernel_rfl) (by kernel_rfl) λw13 S12=>Jn 2 R (Ob h λx19 hx19 h=>Jc3 R g0 hx19 U29 Z2 (Jn 2 R (Ob h λx23 hx23 h=>Jc3 R g1 hx23 U29 Z2 (Jg R (Jc2 I2 R R (hvC ((g0.stp (S10.tr S12) R R).gInt hx19) R)) (Jg R (Jc2 I2 R R (hvC ((g1.stp (S10.tr S12) R R).gInt hx23) R)) (Jn 1 R (Jt1 (Jd ?_))))))))))))))))))
 revert h
 cases ht16:(x19 !=x23)
 refine JF λh=>Jy R (Js (Jz (Jp (Jf3 R ?_))))
 have hw2:hV .i64 (v5+1)=v5+1:=wr1 hj2 (Jm2 hc2) hN2
 rw[hw2]
 have hc2:=Jm2 hc2
 cases h
 exact Jz1 λa ha=>⟨k,_,Ja3 _,⟨K9,v5+1,R,(S10.tr S12).wk R,by omega,by omega,hk11⟩,(ha.mm R)⟩
 refine JT λh=>Jx R (Je3 R (Ju (Ja1 (Jw (Jw ?_)))))
 cases h
 obtain rfl:=Option.some.inj hk11
 have h:=hK3
 dsimp only[aft]at h
 refine Ja1 (Jq2 (Jw (Ja2 (l:=[.tmp 4]) V212 (Jp2 R R) R ?_)))
 cases h
 exact⟨K9,R,(hE.stp (S10.tr S12) R R)⟩
 rintro _ w5 ⟨K6,rfl,S7,rfl⟩
 have h:=hK3
 dsimp only[aft]at h
 refine Jp (Je3 R (Ju (Ja2 (l:=[.tmp 4]) V212 (Jp2 R R) R ?_)))
 cases h
 exact⟨K6,R,(hE.stp S7 R R)⟩
 refine JT λh=>Jx R (Je3 R (Ju (Jw (Ja2 (l:=[.tmp 4]) V212 (Jp2 R R) R ?_))))
 cases h
 exact⟨κ,R,hE⟩
theorem lM {w:World}{κ:Col}{a0 u0}{p0:(List Int)}{p1:Int}(g0:Rd (Rp.int .i64) κ w 0 a0 u0 p0){r:Bool}(h:kq p0 p1=some r):Ret Tryz.prog 217 [.slice a0 p0.length u0,vi p1] w (λv w'=>∃(κ':Col),v= .bool r/\Ent κ w κ' w'):=by
 unfold kq at h
 refine Ret.enter F217 R N217 R ?_
 dsimp only[envOf]
 have hE:=Ent.refl κ w
 refine Je3 R (Jq (Jg3 [2,2,2] 1 R (Jf R (Je2 U29 R R) (Jb 1 R ?_))))
 have hN1:(p0.length:Int)<=9223372036854775807:=g0.len_le
 refine Ob h λq2 hq3 hK2=>?_
 clear h
 refine Jx1 (λL w'=>∃κ',L=[]/\Stp [] κ w κ' w'/\q2=it ()) ?_ ?_
 refine Jv (Jy1 (λk L w'=>∃κ' v9,L=[(0,.slice a0 p0.length u0),(1,vi p1),(7,.slice a0 p0.length u0),(8,vi (p0.length:Int)),(9,vi v9)]/\Stp [] κ w κ' w'/\0<=v9/\t5 ((p0.length:Int)-v9)=k/\cntM (jl p0 p1) k v9 ()=some q2) ⟨_,_,⟨κ,0,R,Jj3,(by decide),(by simp),hq3⟩,(KM R)⟩ ?_)
 rintro k _ w7 ⟨K8,v9,rfl,S9,hj1,hJ1,h⟩
 rcases k with _ | k
 have hk10:=h;obtain⟨o1,h⟩:=bO (it (sh ()):Bool⊕((Unit)⊕(Unit)))
 have hc1:decide (v9<(p0.length:Int))=false:=Jo2 (by omega)
 refine Je3 R (Jq (Jw2 R hc1 (Jc1 (Jt (Jt ?_)))))
 cases h
 have h:=hk10
 refine Jb1 ?_
 cases h
 exact Jw1 _ ⟨K8,R,S9.wk R,R⟩ KN
 obtain⟨o1,h,hk10⟩:=BI h;unfold jl at h
 have hc1:decide (v9<(p0.length:Int))=true:=Jn2 (by omega)
 refine Je3 R (Jq (Jv2 R hc1 (Js (Jp (Jq (Jv (Jg3 [2,2,1,2,2] 1 R (Ob h λx12 hx12 h=>Jc3 R g0 hx12 U29 Z2 ?_))))))))
 have f11:=g0.stp S9 R R
 refine Jb3 R I2 (f11.gInt hx12) (Jb 2 R (Jg3 [2,2,2,2,2,2,2,2,2,2,2,2,2,2,2,2,1,2,2,2] 3 R (Ob h λp20 h hK12=>Ju1 [(3,2),(4,2),(5,2),(6,2)] [(7,2),(8,2),(9,2),(10,2),(11,2),(12,2),(13,2),(14,2),(15,2),(16,1),(17,2),(18,2),(19,2)] (λL w'=>L=[(0,.slice a0 p0.length u0),(1,vi p1),(5,vi v9),(6,vi x12),(7,.slice a0 p0.length u0),(8,vi (p0.length:Int)),(9,vi v9),(20,.bool p20)]/\∃κ',Stp [] K8 w7 κ' w') tv ?_ ?_)))
 revert h
 cases ht13:decide (x12<0)
 refine JF λh=>Jn 4 R ?_
 cases h
 exact Jv1 _ tv ⟨R,_,Jj3⟩ (KM R)
 refine JT λh=>Jn 4 R ?_
 cases h
 exact Jv1 _ tv ⟨R,_,Jj3⟩ (KM R)
 rintro _ w14 _ ⟨rfl,K15,S16⟩
 have h:=hK12
 refine Jn 1 R (Ob h λp33 h hK17=>Ju1 [(8,2),(9,2),(10,2),(11,2),(12,2),(13,2),(14,2),(15,2),(16,1),(17,2),(18,2),(19,2)] [] (λL w'=>L=[(0,.slice a0 p0.length u0),(1,vi p1),(7,.slice a0 p0.length u0),(8,vi (p0.length:Int)),(9,vi v9),(33,.bool p33)]/\∃κ',Stp [] K15 w14 κ' w') tv ?_ ?_)
 revert h
 cases ht18:p20
 refine JF λh=>Jn 3 R (Ob h λp32 h hK19=>Ju1 [(11,2),(12,2),(13,2),(14,2),(15,2),(16,1),(17,2),(18,2)] [(19,2)] (λL w'=>L=[(0,.slice a0 p0.length u0),(1,vi p1),(7,.slice a0 p0.length u0),(8,vi (p0.length:Int)),(9,vi v9),(21,.bool false),(22,vi v9),(23,.bool (decide (0<v9))),(24,.bool (decide (0<v9))),(32,.bool p32)]/\∃κ',Stp [] K15 w14 κ' w') tv ?_ ?_)
 revert h
 cases ht20:decide (0<v9)
 refine JF λh=>Jn 5 R (Jd1 R R R R (Jn 2 R ?_))
 cases h
 exact Jv1 _ tv ⟨R,_,Jj3⟩ (KM R)
 refine JT λh=>Jn 4 R (Ob h λx29 hx29 h=>Jc3 R f11 hx29 U29 Z2 (Jb3 R I2 ((f11.stp S16 R R).gInt hx29) (Jn 2 R ?_)))
 cases h
 exact Jv1 _ tv ⟨R,_,Jj3⟩ (KM R)
 rintro _ w22 _ ⟨rfl,K23,S24⟩
 have h:=hK19
 refine Jn 1 R ?_
 cases h
 exact Jv1 _ tv ⟨R,_,S24.wk R⟩ (KM R)
 refine JT λh=>Jn 8 R (Jd1 R R R R (Jn 3 R ?_))
 cases h
 exact Jv1 _ tv ⟨R,_,Jj3⟩ (KM R)
 rintro _ w25 _ ⟨rfl,K26,S27⟩
 have h:=hK17
 refine Jd ?_
 revert h
 cases ht28:p33
 refine JF λh=>Jy R (Js (Jz (Jp (Jf3 R ?_))))
 have hw1:hV .i64 (v9+1)=v9+1:=wr1 hj1 (Jm2 hc1) hN1
 rw[hw1]
 have hc1:=Jm2 hc1
 cases h
 exact Jz1 λa ha=>⟨k,_,Ja3 _,⟨K26,v9+1,R,(S9.tr (S16.tr S27)).wk R,by omega,by omega,hk10⟩,(ha.mm R)⟩
 refine JT λh=>Jx R (Je3 R (Ju (Ja1 (Jw (Jw ?_)))))
 cases h
 obtain rfl:=Option.some.inj hk10
 have h:=hK2
 dsimp only[aft]at h
 refine Ja1 (Jq2 (Jw (Ja2 (l:=[.tmp 4]) V217 (Jp2 R R) R ?_)))
 cases h
 exact⟨K26,R,(hE.stp (S9.tr (S16.tr S27)) R R)⟩
 rintro _ w4 ⟨K5,rfl,S6,rfl⟩
 have h:=hK2
 dsimp only[aft]at h
 refine Jp (Je3 R (Ju (Ja2 (l:=[.tmp 4]) V217 (Jp2 R R) R ?_)))
 cases h
 exact⟨K5,R,(hE.stp S6 R R)⟩
theorem gz {w:World}{κ:Col}{a0 u0}{p0:(List (Int×Int))}{p1:(Int×Int)}(g0:Rd (Rp.pair (Rp.int .i64) (Rp.int .i64)) κ w 0 a0 u0 p0){r:Int}(h:cg p0 p1=some r):Ret Tryz.prog 181 [.slice a0 p0.length u0,.agg #[vi p1.1,vi p1.2]] w (λv w'=>∃(κ':Col),v=vi r/\Ent κ w κ' w'):=by
 unfold cg at h
 refine Ret.enter F181 R N181 R ?_
 dsimp only[envOf]
 have hE:=Ent.refl κ w
 refine Je [1,2] R (Jf1 (κ:=κ) 2 R R R R R R R λb3 w1 K2 S3 f4=>⟨tv,Jb 1 R (Jq (Jg3 [2,2,2] 1 R (Jf R (Je2 U198 R R) (Jb 1 R ?_))))⟩)
 have hN5:(p0.length:Int)<=9223372036854775807:=g0.len_le
 refine Ob h λq2 hq7 hK6=>?_
 clear h
 refine Jx1 (λL w'=>∃κ',L=[]/\Stp [] K2 w1 κ' w'/\q2=it ()) ?_ ?_
 refine Jv (Jy1 (λk L w'=>∃κ' v8,L=[(0,.slice a0 p0.length u0),(3,.pointer (some ⟨b3,0,none⟩)),(7,vi (p0.length:Int)),(8,vi v8)]/\Stp [] K2 w1 κ' w'/\0<=v8/\t5 ((p0.length:Int)-v8)=k/\cntM (cc p0 p1) k v8 ()=some q2) ⟨_,_,⟨K2,0,R,Jj3,(by decide),(by simp),hq7⟩,(KM R)⟩ ?_)
 rintro k _ w11 ⟨K12,v8,rfl,S13,hj5,hJ5,h⟩
 rcases k with _ | k
 have hk14:=h;obtain⟨o5,h⟩:=bO (it (sh ()):Int⊕((Unit)⊕(Unit)))
 have hc5:decide (v8<(p0.length:Int))=false:=Jo2 (by omega)
 refine Je3 R (Jq (Jw2 R hc5 (Jc1 (Jt (Jt ?_)))))
 cases h
 have h:=hk14
 refine Jb1 ?_
 cases h
 exact Jw1 _ ⟨K12,R,S13.wk R,R⟩ KN
 obtain⟨o5,h,hk14⟩:=BI h;unfold cc at h
 have hc5:decide (v8<(p0.length:Int))=true:=Jn2 (by omega)
 refine Je3 R (Jq (Jv2 R hc5 (Js (Jp (Jq (Jv (Je3 R (Jq (Js1 (κ:=K12) [0,2] none [(1,2),(2,2),(3,2),(0,0),(4,0),(5,2)] [] (by kernel_rfl) (by kernel_rfl) λw16 S15=>Jn 2 R (Ob h λx14 hx14 h=>Jc3 R g0 hx14 U198 Z81 (Jg R (Jd2 (cs:=[vi p1.1,vi p1.2]) I81 Z81 R R R (haC (f4.stp (S13.tr S15) R R).cells R)) ?_)))))))))))
 obtain⟨cse19,hre19,hle19⟩:=((g0.stp (S3.tr (S13.tr S15)) R R)).gSt hx14
 obtain⟨_,_,rfl,rfl,rfl⟩:=hre19
 refine Jg R (Jd2 (cs:=[vi x14.1,vi x14.2]) I81 Z81 R R R (haC hle19 R)) (Jf R (tR U81 (by kernel_rfl) I2 U2 Z2 R R R) (Jt1 (Jd ?_)))
 revert h
 cases ht20:((p1.1==x14.1)&&(p1.2==x14.2))
 refine JF λh=>Jy R (Js (Jz (Jp (Jf3 R ?_))))
 have hw5:hV .i64 (v8+1)=v8+1:=wr1 hj5 (Jm2 hc5) hN5
 rw[hw5]
 have hc5:=Jm2 hc5
 cases h
 exact Jz1 λa ha=>⟨k,_,Ja3 _,⟨K12,v8+1,R,(S13.tr S15).wk R,by omega,by omega,hk14⟩,(ha.mm R)⟩
 refine JT λh=>Jx R (Je3 R (Ju (Ja1 (Jw (Jw ?_)))))
 cases h
 obtain rfl:=Option.some.inj hk14
 have h:=hK6
 dsimp only[aft]at h
 refine Ja1 (Jq2 (Jw (Ja2 (l:=[.tmp 4]) V181 (Jp2 R R) R ?_)))
 cases h
 exact⟨K12,R,(hE.stp (S3.tr (S13.tr S15)) R R)⟩
 rintro _ w8 ⟨K9,rfl,S10,rfl⟩
 have h:=hK6
 dsimp only[aft]at h
 refine Jp (Je3 R (Ju (Ja2 (l:=[.tmp 4]) V181 (Jp2 R R) R ?_)))
 cases h
 exact⟨K9,R,(hE.stp (S3.tr S10) R R)⟩
theorem sO {w:World}{κ:Col}{ad ab aa ac}{p0:Arena}(g0_0:Rd (Rp.int .i64) κ w 0 ad ab p0.Owner) (g0_1:Rd (Rp.sl (Rp.int .i64)) κ w 0 aa ac p0.Next){r:Int}(h:qj p0=some r):Ret Tryz.prog 193 [.agg #[.slice ad p0.Owner.length ab,.slice aa p0.Next.length ac]] w (λv w'=>∃(κ':Col),v=vi r/\Ent κ w κ' w'):=by
 unfold qj at h
 refine Ret.enter F193 R N193 R ?_
 dsimp only[envOf]
 have hE:=Ent.refl κ w
 refine Je [1,2] R (Jf1 (κ:=κ) 2 R R R R R R R λb1 w1 K2 S3 f4=>⟨tv,Jb 1 R (Je [2,1,2,2] R (Jd3 R U104 R Z29 (Jb3 R I29 (f4.ld 0 R R) (Jf R (Je2 U29 R R) (Jb 1 R (Ju (Ja2 (l:=[.tmp 2]) V193 (Jp2 R R) R ?_)))))))⟩)
 cases h
 exact⟨K2,R,(hE.stp S3 R R)⟩
theorem fQ {w:World}{κ:Col}{a0 u0}{p0:(List Bool)}(g0:Rd Rp.bool κ w 0 a0 u0 p0){r:(List Int)}(h:fo p0=some r):Ret Tryz.prog 190 [.slice a0 p0.length u0] w (λv w'=>∃(κ':Col) (ra0:Option Addr) (ru0:Nat),v= .slice ra0 r.length ru0/\Ent κ w κ' w'/\Oc E6 2 κ' w' 2 ra0 ru0 r):=by
 unfold fo at h
 refine Ret.enter F190 R N190 R ?_
 dsimp only[envOf]
 have hE:=Ent.refl κ w
 refine Je3 R (Je [1,2] R (Jo1 (κ:=κ) (E:=E6) 2 R R R R R Y29 Tryzinfo2 R λa6 u6 w1 K2 S3 f4=>⟨tv,Jb 1 R (Jq (Jg3 [2,2,2] 1 R (Jf R (Je2 U193 R R) (Jb 1 R ?_))))⟩))
 have hN5:(p0.length:Int)<=9223372036854775807:=g0.len_le
 refine Ob h λq2 hq7 hK6=>?_
 clear h
 refine Jx1 (λL w'=>∃κ',∃s3:(List Int),∃ac ae,L=[(3,.slice ac s3.length ae)]/\Stp [2] K2 w1 κ' w'/\Oc E6 2 κ' w' 2 ac ae s3/\q2=it s3) ?_ ?_
 refine Jv (Jy1 (λk L w'=>∃κ' v9,∃s1:(List Int),∃aa ab,L=[(3,.slice aa s1.length ab),(7,.slice a0 p0.length u0),(8,vi (p0.length:Int)),(9,vi v9)]/\Stp [2] K2 w1 κ' w'/\Oc E6 2 κ' w' 2 aa ab s1/\0<=v9/\t5 ((p0.length:Int)-v9)=k/\cntM (gZ p0) k v9 s1=some q2) ⟨_,_,⟨K2,0,(([]:List Int):(List Int)),a6,u6,R,Jj3,f4,(by decide),(by simp),hq7⟩,(KM R)⟩ ?_)
 rintro k _ w12 ⟨K13,v9,s1,aa,ab,rfl,S14,f15,hj5,hJ5,h⟩
 rcases k with _ | k
 have hk16:=h;obtain⟨o5,h⟩:=bO (it (sh s1):(List Int)⊕(((List Int))⊕((List Int))))
 have hc5:decide (v9<(p0.length:Int))=false:=Jo2 (by omega)
 refine Je3 R (Jq (Jw2 R hc5 (Jc1 (Jt (Jt ?_)))))
 cases h
 have h:=hk16
 refine Jb1 ?_
 cases h
 exact Jw1 _ ⟨K13,(s1:(List Int)),aa,ab,R,S14.wk R,f15,R⟩ (KM R)
 obtain⟨o5,h,hk16⟩:=BI h;unfold gZ at h
 have hc5:decide (v9<(p0.length:Int))=true:=Jn2 (by omega)
 refine Je3 R (Jq (Jv2 R hc5 (Js (Jp (Jq (Jv (Jg3 [2,2,1,2,2] 1 R (Ob h λx12 hx12 h=>Jc3 R g0 hx12 U193 Z4 (Jb3 R I4 ((g0.stp (S3.tr S14) R R).gBool hx12) (Jb 2 R (Je3 R (Ob h λq4 h hK18=>Jx1 (λL w'=>∃κ' ad af,L=[(3,.slice ad q4.length af),(7,.slice a0 p0.length u0),(8,vi (p0.length:Int)),(9,vi v9)]/\Stp [2] K13 w12 κ' w'/\Oc E6 2 κ' w' 2 ad af q4) ?_ ?_))))))))))))
 revert h
 cases ht23:x12
 refine JF λh=>Jy R (Js ?_)
 cases h
 exact Jw1 _ ⟨K13,aa,ab,R,Jj3,f15⟩ (KM R)
 refine JT λh=>Jx R (Jh3 [2,2,1,1,2] 2 R (Jn1 (κ:=K13) (E:=E6) 3 [] (parts:=[(0,.tmp 16)]) (cells:=[vi v9]) (xs:=([v9]:List Int)) R R R R R R Y29 Tryzinfo2 R R R R R R R R R R ⟨[vi v9],[],Zl K13 w12 [],Zl K13 w12 [],R,Zl.sp (l1:=[]) (l2:=[]) R,Zl.sr (l1:=[]) (l2:=[]),R,R⟩ λaj ak w24 K25 S26 f27=>⟨tv,Ob h λx18 hx18 h=>Jm1 (κ:=K25) (E:=E6) 2 [] R R R R R R R R R Y29 Tryzinfo2 R R R R (f15.stp S26 R R) (Sl.srcP (bT _) f27.rdc) bJ hx18 R λah ai w29 K30 S31 f32=>⟨tv,Jc 1 R ?_⟩⟩))
 cases h
 exact Jw1 _ ⟨K30,ah,ai,R,(S26.tr S31).wk R,f32⟩ (KM R)
 rintro _ w19 ⟨K20,ad,af,rfl,S21,f22⟩
 have h:=hK18
 refine Jz (Jp (Jf3 R ?_))
 have hw5:hV .i64 (v9+1)=v9+1:=wr1 hj5 (Jm2 hc5) hN5
 rw[hw5]
 have hc5:=Jm2 hc5
 cases h
 exact Jz1 λa ha=>⟨k,_,Ja3 _,⟨K20,v9+1,(q4:(List Int)),ad,af,R,(S14.tr S21).wk R,f22,by omega,by omega,hk16⟩,(ha.mm R)⟩
 rintro _ w8 ⟨K9,s3,ac,ae,rfl,S10,f11,rfl⟩
 have h:=hK6
 dsimp only[aft]at h
 refine Jp (Je3 R (Ju (Ja2 (l:=[.tmp 2]) V190 (Jp2 R R) R ?_)))
 cases h
 exact⟨K9,ac,ae,R,(hE.stp (S3.tr S10) R R),f11⟩
theorem gn {w:World}{κ:Col}{a0 u0}{p0:(List Bool)}{a1 u1}{p1:(List Bool)}(g0:Rd Rp.bool κ w 0 a0 u0 p0) (g1:Rd Rp.bool κ w 0 a1 u1 p1){r:(List Bool)}(h:d7 p0 p1=some r):Ret Tryz.prog 191 [.slice a0 p0.length u0,.slice a1 p1.length u1] w (λv w'=>∃(κ':Col) (ra0:Option Addr) (ru0:Nat),v= .slice ra0 r.length ru0/\Ent κ w κ' w'/\Oc Ep.bool 4 κ' w' 2 ra0 ru0 r):=by
 unfold d7 at h
 refine Ret.enter F191 R N191 R ?_
 dsimp only[envOf]
 have hE:=Ent.refl κ w
 refine Je3 R (Jg3 [2,2,1,2] 1 R (Jf R (Je2 U193 R R) (Ob h λx9 hx9 h=>Jl1 (κ:=κ) (E:=Ep.bool) (z:=(false:Bool)) 2 R R R R R R R Y193 Tryzinfo4 R R R R R (λ_ _ _=>R) (Ju2 hx9) λa9 u9 w1 K2 S3 f4=>⟨tv,Jb 1 R (Jq (Jg3 [2,2,2] 1 R (Jf R (Je2 U193 R R) (Jb 1 R ?_))))⟩)))
 have hN5:(p0.length:Int)<=9223372036854775807:=g0.len_le
 refine Ob h λq2 hq7 hK6=>?_
 clear h
 refine Jx1 (λL w'=>∃κ',∃s3:(List Bool),L=[(5,.slice a9 x9.length u9)]/\Stp [2] K2 w1 κ' w'/\Oc Ep.bool 4 κ' w' 2 a9 u9 s3/\x9.length=s3.length/\q2=it s3) ?_ ?_
 refine Jv (Jy1 (λk L w'=>∃κ' v12,∃s1:(List Bool),L=[(0,.slice a0 p0.length u0),(1,.slice a1 p1.length u1),(5,.slice a9 x9.length u9),(11,vi (p0.length:Int)),(12,vi v12)]/\Stp [2] K2 w1 κ' w'/\Oc Ep.bool 4 κ' w' 2 a9 u9 s1/\x9.length=s1.length/\0<=v12/\t5 ((p0.length:Int)-v12)=k/\cntM (gc p0 p1) k v12 s1=some q2) ⟨_,_,⟨K2,0,(x9:(List Bool)),R,Jj3,f4,R,(by decide),(by simp),hq7⟩,(KM R)⟩ ?_)
 rintro k _ w13 ⟨K14,v12,s1,rfl,S15,f16,hn17,hj5,hJ5,h⟩
 rcases k with _ | k
 have hk18:=h;obtain⟨o5,h⟩:=bO (it (sh s1):(List Bool)⊕(((List Bool))⊕((List Bool))))
 have hc5:decide (v12<(p0.length:Int))=false:=Jo2 (by omega)
 refine Je3 R (Jq (Jw2 R hc5 (Jc1 (Jt (Jt ?_)))))
 cases h
 have h:=hk18
 refine Jb1 ?_
 cases h
 exact Jw1 _ ⟨K14,(s1:(List Bool)),R,S15.wk R,f16,hn17,R⟩ (KM R)
 obtain⟨o5,h,hk18⟩:=BI h;unfold gc at h
 have hc5:decide (v12<(p0.length:Int))=true:=Jn2 (by omega)
 refine Je3 R (Jq (Jv2 R hc5 (Js (Jp (Jq (Jv (Je3 R (Jh3 [2,2,2,2,2,1,2,2,2,2,1,2,2,2,1] 4 R (Ob h λx19 hx19 h=>Jc3 R g0 hx19 U193 Z4 (Jb3 R I4 ((g0.stp (S3.tr S15) R R).gBool hx19) (Jn 1 R (Ob h λp27 h hK20=>Ju1 [(7,2),(8,2),(9,2),(10,1),(11,2),(12,2)] [(13,2),(14,1)] (λL w'=>L=[(0,.slice a0 p0.length u0),(1,.slice a1 p1.length u1),(5,.slice a9 x9.length u9),(11,vi (p0.length:Int)),(12,vi v12),(15,.slice a9 x9.length u9),(16,vi v12),(27,.bool p27)]/\∃κ',Stp [] K14 w13 κ' w') tv ?_ ?_))))))))))))
 revert h
 cases ht21:x19
 refine JF λh=>Jn 3 R (Jd1 R R R R (Jn 2 R ?_))
 cases h
 exact Jv1 _ tv ⟨R,_,Jj3⟩ (KM R)
 refine JT λh=>Jn 2 R (Ob h λx24 hx24 h=>Jc3 R g1 hx24 U193 Z4 (Jb3 R I4 ((g1.stp (S3.tr S15) R R).gBool hx24) (Jn 2 R ?_)))
 cases h
 exact Jv1 _ tv ⟨R,_,Jj3⟩ (KM R)
 rintro _ w23 _ ⟨rfl,K24,S25⟩
 have h:=hK20
 refine Ob h λx28 hx28 h=>Jf R (Jf2 f16.rdc hx28 U193 Z4 R R hn17 R) (Ob h λy369 hy369 h=>Jk1 (κ:=K24) (E:=Ep.bool) 2 [] R R R R R R R R Z4 R R R R (f16.stp S25 R R) hy369 λw27 K28 S29 f30=>⟨tv,?_⟩)
 have hn31:x9.length=y369.length:=hn17.trans (Jt2 hy369).2.2.2.symm
 refine Jo (Jz (Jp (Jf3 R ?_)))
 have hw5:hV .i64 (v12+1)=v12+1:=wr1 hj5 (Jm2 hc5) hN5
 rw[hw5]
 have hc5:=Jm2 hc5
 cases h
 exact Jz1 λa ha=>⟨k,_,Ja3 _,⟨K28,v12+1,(y369:(List Bool)),R,(S15.tr (S25.tr S29)).wk R,f30,hn31,by omega,by omega,hk18⟩,(ha.mm R)⟩
 rintro _ w8 ⟨K9,s3,rfl,S10,f11,hn12,rfl⟩
 have h:=hK6
 dsimp only[aft]at h
 refine Jp (Je3 R (Ju (Ja2 (l:=[.tmp 4]) V191 (Jp2 R R) R ?_)))
 cases h
 exact⟨K9,a9,u9,(by simp only[hn12]),(hE.stp (S3.tr S10) R R),f11⟩
theorem jr {w:World}{κ:Col}{a0 u0}{p0:(List Bool)}{p1:Bool}(g0:Rd Rp.bool κ w 0 a0 u0 p0){r:Int}(h:cN p0 p1=some r):Ret Tryz.prog 249 [.slice a0 p0.length u0,.bool p1] w (λv w'=>∃(κ':Col),v=vi r/\Ent κ w κ' w'):=by
 unfold cN at h
 refine Ret.enter F249 R N249 R ?_
 dsimp only[envOf]
 have hE:=Ent.refl κ w
 refine Je3 R (Jq (Jg3 [2,2,2] 1 R (Jf R (Je2 U193 R R) (Jb 1 R ?_))))
 have hN1:(p0.length:Int)<=9223372036854775807:=g0.len_le
 refine Ob h λq2 hq3 hK2=>?_
 clear h
 refine Jx1 (λL w'=>∃κ',L=[]/\Stp [] κ w κ' w'/\q2=it ()) ?_ ?_
 refine Jv (Jy1 (λk L w'=>∃κ' v8,L=[(0,.slice a0 p0.length u0),(1,.bool p1),(7,vi (p0.length:Int)),(8,vi v8)]/\Stp [] κ w κ' w'/\0<=v8/\t5 ((p0.length:Int)-v8)=k/\cntM (cm p0 p1) k v8 ()=some q2) ⟨_,_,⟨κ,0,R,Jj3,(by decide),(by simp),hq3⟩,(KM R)⟩ ?_)
 rintro k _ w7 ⟨K8,v8,rfl,S9,hj1,hJ1,h⟩
 rcases k with _ | k
 have hk10:=h;obtain⟨o1,h⟩:=bO (it (sh ()):Int⊕((Unit)⊕(Unit)))
 have hc1:decide (v8<(p0.length:Int))=false:=Jo2 (by omega)
 refine Je3 R (Jq (Jw2 R hc1 (Jc1 (Jt (Jt ?_)))))
 cases h
 have h:=hk10
 refine Jb1 ?_
 cases h
 exact Jw1 _ ⟨K8,R,S9.wk R,R⟩ KN
 obtain⟨o1,h,hk10⟩:=BI h;unfold cm at h
 have hc1:decide (v8<(p0.length:Int))=true:=Jn2 (by omega)
 refine Je3 R (Jq (Jv2 R hc1 (Js (Jp (Jq (Jv (Je3 R (Jg3 [2,2,2,2,1,2] 3 R (Ob h λx14 hx14 h=>Jc3 R g0 hx14 U193 Z4 (Jb3 R I4 ((g0.stp S9 R R).gBool hx14) (Jf R (uw R R U4 R) (Jd ?_))))))))))))
 revert h
 cases ht12:(p1==x14)
 refine JF λh=>Jy R (Js (Jz (Jp (Jf3 R ?_))))
 have hw1:hV .i64 (v8+1)=v8+1:=wr1 hj1 (Jm2 hc1) hN1
 rw[hw1]
 have hc1:=Jm2 hc1
 cases h
 exact Jz1 λa ha=>⟨k,_,Ja3 _,⟨K8,v8+1,R,S9.wk R,by omega,by omega,hk10⟩,(ha.mm R)⟩
 refine JT λh=>Jx R (Je3 R (Ju (Ja1 (Jw (Jw ?_)))))
 cases h
 obtain rfl:=Option.some.inj hk10
 have h:=hK2
 dsimp only[aft]at h
 refine Ja1 (Jq2 (Jw (Ja2 (l:=[.tmp 4]) V249 (Jp2 R R) R ?_)))
 cases h
 exact⟨K8,R,(hE.stp S9 R R)⟩
 rintro _ w4 ⟨K5,rfl,S6,rfl⟩
 have h:=hK2
 dsimp only[aft]at h
 refine Jp (Je3 R (Ju (Ja2 (l:=[.tmp 4]) V249 (Jp2 R R) R ?_)))
 cases h
 exact⟨K5,R,(hE.stp S6 R R)⟩
end Go.Proofs.YtpcjbkgbnoocaaaGreat
