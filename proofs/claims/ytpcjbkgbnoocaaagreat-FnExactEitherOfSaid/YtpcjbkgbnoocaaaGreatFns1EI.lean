/- The walks, part 1. By program. -/
import Derived.Test.YtpcjbkgbnoocaaaGreatFnsMEI
import Derived.Test.YtpcjbkgbnoocaaaGreatAlEI
set_option linter.unusedVariables false
set_option linter.unusedSimpArgs false
open Go.IntKind renaming wrap → t5
open Sum renaming inr → t9, inl → vF
open Int renaming toNat → vH
namespace Go.Proofs.YtpcjbkgbnoocaaaGreat
open Go Go.Wk Go.Proofs
set_option maxRecDepth 100000
set_option maxHeartbeats 1000000
theorem pN {w:World}{κ:Col}{p0:Int}  {r:Pair}(h:kh p0=some r):Ret Tryz.prog 165 [vi p0] w (λv w'=>∃(κ':Col) (ra0:Option Addr) (ru0:Nat) (ra1:Option Addr) (ru1:Nat),v= .agg #[.slice ra0 r.Ask.length ru0,.slice ra1 r.Give.length ru1]/\Ent κ w κ' w'/\Oc E6 2 κ' w' 2 ra0 ru0 r.Ask/\Oc E6 2 κ' w' 3 ra1 ru1 r.Give):=by
 unfold kh at h
 refine Ret.enter F165 R N165 R ?_
 dsimp only[envOf]
 have hE:=Ent.refl κ w
 refine Je [1] R (Jg1 (κ:=κ) 2 R R R R R X154 R λb2 w1 K2 S3 f4=>⟨tv,Jd (Jq (Je3 R (Jv (Jq (Je3 R (Ob h λq1 h hK5=>Jx1 (λL w'=>∃κ',L=[(2,.pointer (some ⟨b2,0,none⟩)),(3,vi p0),(4,.bool q1)]/\Stp [] K2 w1 κ' w') ?_ ?_))))))⟩)
 revert h
 cases ht9:(p0==1)
 refine JF λh=>Jy R (Jf3 R ?_)
 cases h
 exact Jw1 _ ⟨K2,R,Jj3⟩ (KM R)
 refine JT λh=>Jx R (Js ?_)
 cases h
 exact Jw1 _ ⟨K2,R,Jj3⟩ (KM R)
 rintro _ w6 ⟨K7,rfl,S8⟩
 have h:=hK5
 refine Jp ?_
 revert h
 cases ht10:q1
 refine JF λh=>Jy R (Je3 R ?_)
 revert h
 cases ht21:(p0==2)
 refine JF λh=>Jy R (Je3 R ?_)
 revert h
 cases ht32:(p0==3)
 refine JF λh=>Jy R (Je3 R ?_)
 revert h
 cases ht48:(p0==4)
 refine JF λh=>Jy R (Je3 R ?_)
 revert h
 cases ht64:(p0==6)
 refine JF λh=>Jy R (Js (Jz (Jp (Je [1,1,2,1] R (Jn1 (κ:=K7) (E:=E6) 3 [] (parts:=[(0,.const (vi 2)),(1,.const (vi 3))]) (cells:=[vi 2,vi 3]) (xs:=([2,3]:List Int)) R R R R R R Y29 Tryzinfo2 R R R R R R R R R R ⟨[vi 2],[vi 3],Zl K7 w6 [],Zl K7 w6 [],R,Zl.sp (l1:=[]) (l2:=[]) R,Zl.sr (l1:=[]) (l2:=[]),R,⟨[vi 3],[],Zl K7 w6 [],Zl K7 w6 [],R,Zl.sp (l1:=[]) (l2:=[]) R,Zl.sr (l1:=[]) (l2:=[]),R,R⟩⟩ λai am w75 K76 S77 f78=>⟨tv,Jn1 (κ:=K76) (E:=E6) 4 [] (parts:=[(0,.const (vi 1)),(1,.const (vi 3))]) (cells:=[vi 1,vi 3]) (xs:=([1,3]:List Int)) R R R R R R Y29 Tryzinfo2 R R R R R R R R R R ⟨[vi 1],[vi 3],Zl K76 w75 [],Zl K76 w75 [],R,Zl.sp (l1:=[]) (l2:=[]) R,Zl.sr (l1:=[]) (l2:=[]),R,⟨[vi 3],[],Zl K76 w75 [],Zl K76 w75 [],R,Zl.sp (l1:=[]) (l2:=[]) R,Zl.sr (l1:=[]) (l2:=[]),R,R⟩⟩ λad aj w79 K80 S81 f82=>⟨tv,Jf R (bI (parts:=[(0,.tmp 27),(1,.tmp 28)]) (cells:=[.slice ai ([2,3]:List Int).length am,.slice ad ([1,3]:List Int).length aj]) R R (by kernel_rfl)) (Jj1 (κ:=K80) 2 (vc:=[.slice ai ([2,3]:List Int).length am,.slice ad ([1,3]:List Int).length aj]) R R R R R R R Z154 R R (f4.stp (S8.tr (S77.tr S81)) R R) R λw84 S85 f86=>⟨tv,Jd (Ju (Ja2 (l:=[.cell 2 154]) V165 (bL R f86 I154 Z154 R R) R ?_))⟩)⟩⟩)))))
 cases h
 exact⟨(λb=>ren [(3,2),(4,3)] (K80 b)),ai,am,ad,aj,R,((hE.stp (S3.tr (S8.tr (S77.tr (S81.tr S85)))) R R).map (ren [(3,2),(4,3)]) R R),((f78.stp (S81.tr S85) R R).map (ren [(3,2),(4,3)]) R R),((f82.stp S85 R R).map (ren [(3,2),(4,3)]) R R)⟩
 refine JT λh=>Jx R (Je [1,2,1] R (Jn1 (κ:=K7) (E:=E6) 3 [] (parts:=[(0,.const (vi 0))]) (cells:=[vi 0]) (xs:=([0]:List Int)) R R R R R R Y29 Tryzinfo2 R R R R R R R R R R ⟨[vi 0],[],Zl K7 w6 [],Zl K7 w6 [],R,Zl.sp (l1:=[]) (l2:=[]) R,Zl.sr (l1:=[]) (l2:=[]),R,R⟩ λan ao w65 K66 S67 f68=>⟨tv,Jf R (bI (parts:=[(0,.tmp 25)]) (cells:=[.slice an ([0]:List Int).length ao,.slice none 0 0]) R R (by kernel_rfl)) (Jj1 (κ:=K66) 2 (vc:=[.slice an ([0]:List Int).length ao,.slice none 0 0]) R R R R R R R Z154 R R (f4.stp (S8.tr S67) R R) R λw70 S71 f72=>⟨tv,Jd (Ju (Ja1 (Jw (Ja2 (l:=[.cell 2 154]) V165 (bL R f72 I154 Z154 R R) R ?_))))⟩)⟩))
 cases h
 exact⟨(λb=>ren [(3,2)] (K66 b)),an,ao,none,0,R,((hE.stp (S3.tr (S8.tr (S67.tr S71))) R R).map (ren [(3,2)]) R R),((f68.stp S71 R R).map (ren [(3,2)]) R R),Ow.nil⟩
 refine JT λh=>Jx R (Je [1,1,2,1] R (Jn1 (κ:=K7) (E:=E6) 3 [] (parts:=[(0,.const (vi 0)),(1,.const (vi 1))]) (cells:=[vi 0,vi 1]) (xs:=([0,1]:List Int)) R R R R R R Y29 Tryzinfo2 R R R R R R R R R R ⟨[vi 0],[vi 1],Zl K7 w6 [],Zl K7 w6 [],R,Zl.sp (l1:=[]) (l2:=[]) R,Zl.sr (l1:=[]) (l2:=[]),R,⟨[vi 1],[],Zl K7 w6 [],Zl K7 w6 [],R,Zl.sp (l1:=[]) (l2:=[]) R,Zl.sr (l1:=[]) (l2:=[]),R,R⟩⟩ λah ap w49 K50 S51 f52=>⟨tv,Jn1 (κ:=K50) (E:=E6) 4 [] (parts:=[(0,.const (vi 1))]) (cells:=[vi 1]) (xs:=([1]:List Int)) R R R R R R Y29 Tryzinfo2 R R R R R R R R R R ⟨[vi 1],[],Zl K50 w49 [],Zl K50 w49 [],R,Zl.sp (l1:=[]) (l2:=[]) R,Zl.sr (l1:=[]) (l2:=[]),R,R⟩ λak ae w53 K54 S55 f56=>⟨tv,Jf R (bI (parts:=[(0,.tmp 20),(1,.tmp 21)]) (cells:=[.slice ah ([0,1]:List Int).length ap,.slice ak ([1]:List Int).length ae]) R R (by kernel_rfl)) (Jj1 (κ:=K54) 2 (vc:=[.slice ah ([0,1]:List Int).length ap,.slice ak ([1]:List Int).length ae]) R R R R R R R Z154 R R (f4.stp (S8.tr (S51.tr S55)) R R) R λw58 S59 f60=>⟨tv,Jd (Ju (Ja1 (Jw (Ja2 (l:=[.cell 2 154]) V165 (bL R f60 I154 Z154 R R) R ?_))))⟩)⟩⟩))
 cases h
 exact⟨(λb=>ren [(3,2),(4,3)] (K54 b)),ah,ap,ak,ae,R,((hE.stp (S3.tr (S8.tr (S51.tr (S55.tr S59)))) R R).map (ren [(3,2),(4,3)]) R R),((f52.stp (S55.tr S59) R R).map (ren [(3,2),(4,3)]) R R),((f56.stp S59 R R).map (ren [(3,2),(4,3)]) R R)⟩
 refine JT λh=>Jx R (Je [1,1,2,1] R (Jn1 (κ:=K7) (E:=E6) 3 [] (parts:=[(0,.const (vi 1))]) (cells:=[vi 1]) (xs:=([1]:List Int)) R R R R R R Y29 Tryzinfo2 R R R R R R R R R R ⟨[vi 1],[],Zl K7 w6 [],Zl K7 w6 [],R,Zl.sp (l1:=[]) (l2:=[]) R,Zl.sr (l1:=[]) (l2:=[]),R,R⟩ λab ac w33 K34 S35 f36=>⟨tv,Jn1 (κ:=K34) (E:=E6) 4 [] (parts:=[(0,.const (vi 0))]) (cells:=[vi 0]) (xs:=([0]:List Int)) R R R R R R Y29 Tryzinfo2 R R R R R R R R R R ⟨[vi 0],[],Zl K34 w33 [],Zl K34 w33 [],R,Zl.sp (l1:=[]) (l2:=[]) R,Zl.sr (l1:=[]) (l2:=[]),R,R⟩ λal af w37 K38 S39 f40=>⟨tv,Jf R (bI (parts:=[(0,.tmp 15),(1,.tmp 16)]) (cells:=[.slice ab ([1]:List Int).length ac,.slice al ([0]:List Int).length af]) R R (by kernel_rfl)) (Jj1 (κ:=K38) 2 (vc:=[.slice ab ([1]:List Int).length ac,.slice al ([0]:List Int).length af]) R R R R R R R Z154 R R (f4.stp (S8.tr (S35.tr S39)) R R) R λw42 S43 f44=>⟨tv,Jd (Ju (Ja1 (Jw (Ja2 (l:=[.cell 2 154]) V165 (bL R f44 I154 Z154 R R) R ?_))))⟩)⟩⟩))
 cases h
 exact⟨(λb=>ren [(3,2),(4,3)] (K38 b)),ab,ac,al,af,R,((hE.stp (S3.tr (S8.tr (S35.tr (S39.tr S43)))) R R).map (ren [(3,2),(4,3)]) R R),((f36.stp (S39.tr S43) R R).map (ren [(3,2),(4,3)]) R R),((f40.stp S43 R R).map (ren [(3,2),(4,3)]) R R)⟩
 refine JT λh=>Jx R (Je [1,2,1] R (Jn1 (κ:=K7) (E:=E6) 3 [] (parts:=[(0,.const (vi 2))]) (cells:=[vi 2]) (xs:=([2]:List Int)) R R R R R R Y29 Tryzinfo2 R R R R R R R R R R ⟨[vi 2],[],Zl K7 w6 [],Zl K7 w6 [],R,Zl.sp (l1:=[]) (l2:=[]) R,Zl.sr (l1:=[]) (l2:=[]),R,R⟩ λaa aq w22 K23 S24 f25=>⟨tv,Jf R (bI (parts:=[(0,.tmp 11)]) (cells:=[.slice aa ([2]:List Int).length aq,.slice none 0 0]) R R (by kernel_rfl)) (Jj1 (κ:=K23) 2 (vc:=[.slice aa ([2]:List Int).length aq,.slice none 0 0]) R R R R R R R Z154 R R (f4.stp (S8.tr S24) R R) R λw27 S28 f29=>⟨tv,Jd (Ju (Ja1 (Jw (Ja2 (l:=[.cell 2 154]) V165 (bL R f29 I154 Z154 R R) R ?_))))⟩)⟩))
 cases h
 exact⟨(λb=>ren [(3,2)] (K23 b)),aa,aq,none,0,R,((hE.stp (S3.tr (S8.tr (S24.tr S28))) R R).map (ren [(3,2)]) R R),((f25.stp S28 R R).map (ren [(3,2)]) R R),Ow.nil⟩
 refine JT λh=>Jx R (Je [1,2,1] R (Jn1 (κ:=K7) (E:=E6) 3 [] (parts:=[(0,.const (vi 1))]) (cells:=[vi 1]) (xs:=([1]:List Int)) R R R R R R Y29 Tryzinfo2 R R R R R R R R R R ⟨[vi 1],[],Zl K7 w6 [],Zl K7 w6 [],R,Zl.sp (l1:=[]) (l2:=[]) R,Zl.sr (l1:=[]) (l2:=[]),R,R⟩ λa7 u7 w11 K12 S13 f14=>⟨tv,Jf R (bI (parts:=[(0,.tmp 7)]) (cells:=[.slice a7 ([1]:List Int).length u7,.slice none 0 0]) R R (by kernel_rfl)) (Jj1 (κ:=K12) 2 (vc:=[.slice a7 ([1]:List Int).length u7,.slice none 0 0]) R R R R R R R Z154 R R (f4.stp (S8.tr S13) R R) R λw16 S17 f18=>⟨tv,Jd (Ju (Ja1 (Jw (Ja2 (l:=[.cell 2 154]) V165 (bL R f18 I154 Z154 R R) R ?_))))⟩)⟩))
 cases h
 exact⟨(λb=>ren [(3,2)] (K12 b)),a7,u7,none,0,R,((hE.stp (S3.tr (S8.tr (S13.tr S17))) R R).map (ren [(3,2)]) R R),((f14.stp S17 R R).map (ren [(3,2)]) R R),Ow.nil⟩
theorem oM {w:World}{κ:Col}{p0:Int}  {r:Int}(h:iB p0=some r):Ret Tryz.prog 166 [vi p0] w (λv w'=>∃(κ':Col),v=vi r/\Ent κ w κ' w'):=by
 unfold iB at h
 refine Ret.enter F166 R N166 R ?_
 dsimp only[envOf]
 have hE:=Ent.refl κ w
 refine Je3 R (Jq (Je3 R (Jv (Je3 R ?_))))
 revert h
 cases ht1:(p0==2)
 refine JF λh=>Jy R (Je3 R ?_)
 revert h
 cases ht2:(p0==7)
 refine JF λh=>Jy R (Js (Jz (Jp (Je3 R (Ju (Ja2 (l:=[.tmp 2]) V166 (Jp2 R R) R ?_))))))
 cases h
 exact⟨κ,R,hE⟩
 refine JT λh=>Jx R (Je3 R (Ju (Ja1 (Jw (Ja2 (l:=[.tmp 2]) V166 (Jp2 R R) R ?_)))))
 cases h
 exact⟨κ,R,hE⟩
 refine JT λh=>Jx R (Je3 R (Ju (Ja1 (Jw (Ja2 (l:=[.tmp 2]) V166 (Jp2 R R) R ?_)))))
 cases h
 exact⟨κ,R,hE⟩
theorem pu {w:World}{κ:Col}{a0 u0}{p0:(List (List Int))}{p1:Int}{p2:Int}(g0:Rd (Rp.sl (Rp.int .i64)) κ w 0 a0 u0 p0){r:Int}(h:iV p0 p1 p2=some r):Ret Tryz.prog 54 [.slice a0 p0.length u0,vi p1,vi p2] w (λv w'=>∃(κ':Col),v=vi r/\Ent κ w κ' w'):=by
 unfold iV at h
 refine Ret.enter F54 R N54 R ?_
 dsimp only[envOf]
 have hE:=Ent.refl κ w
 refine Je3 R (Jq (Je3 R ?_))
 have hN1:(p0.length:Int)<=9223372036854775807:=g0.len_le
 refine Ob h λq2 hq3 hK2=>?_
 clear h
 refine Jx1 (λL w'=>∃κ',L=[]/\Stp [] κ w κ' w'/\q2=t9 ()) ?_ ?_
 refine Jv (Jy1 (λk L w'=>∃κ' v7,L=[(0,.slice a0 p0.length u0),(1,vi p1),(2,vi p2),(7,vi v7)]/\Stp [] κ w κ' w'/\0<=v7/\vH ((p0.length:Int)-v7)=k/\cntM (ft p0 p1 p2) k v7 ()=some q2) ⟨_,_,⟨κ,0,R,Jj3,(by decide),(by simp),hq3⟩,(KM R)⟩ ?_)
 rintro k _ w7 ⟨K8,v7,rfl,S9,hj1,hJ1,h⟩
 rcases k with _ | k
 have hk10:=h;obtain⟨o1,h⟩:=bO (t9 (vF ()):Int⊕((Unit)⊕(Unit)))
 have hc1:decide (v7<(p0.length:Int))=false:=Jo2 (by omega)
 refine Jq (Jg3 [2,2,2,2] 2 R (Jf R (Je2 U26 R R) (Jb 1 R (Jw2 R hc1 (Jc1 (Jt (Jt ?_)))))))
 cases h
 have h:=hk10
 refine Jb1 ?_
 cases h
 exact Jw1 _ ⟨K8,R,S9.wk R,R⟩ KN
 obtain⟨o1,h,hk10⟩:=BI h;unfold ft at h
 have hc1:decide (v7<(p0.length:Int))=true:=Jn2 (by omega)
 refine Jq (Jg3 [2,2,2,2] 2 R (Jf R (Je2 U26 R R) (Jb 1 R (Jv2 R hc1 (Js (Jp (Jq (Jv (Jg3 [2,2,2,1,2,1,2,2,2,2,2,2,1,2,1,2,2,2] 2 R (Ob h λx16 hx16 h=>Jc3 R g0 hx16 U26 Z29 ?_))))))))))
 have f11:=g0.stp S9 R R
 obtain⟨ax16,ux16,f12,hl13⟩:=f11.gSl hx16
 refine Jb3 R I29 hl13 (Ob h λx18 hx18 h=>Jc3 R f12 hx18 U29 Z2 (Jb3 R I2 (f12.gInt hx18) (Jn 3 R (Ob h λp31 h hK14=>Ju1 [(9,2),(10,2),(11,2),(12,1),(13,2),(14,1),(15,2),(16,2),(17,2)] [] (λL w'=>L=[(0,.slice a0 p0.length u0),(1,vi p1),(2,vi p2),(7,vi v7),(31,.bool p31)]/\∃κ',Stp [] K8 w7 κ' w') tv ?_ ?_))))
 revert h
 cases ht15:(x18==p1)
 refine JF λh=>Jn 3 R (Jd1 R R R R (Jn 1 R (Jd1 R R R R (Jn 3 R ?_))))
 cases h
 exact Jv1 _ tv ⟨R,_,Jj3⟩ (KM R)
 refine JT λh=>Jn 2 R (Ob h λx25 hx25 h=>Jc3 R f11 hx25 U26 Z29 ?_)
 obtain⟨ax25,ux25,f16,hl17⟩:=f11.gSl hx25
 refine Jb3 R I29 hl17 (Ob h λx27 hx27 h=>Jc3 R f16 hx27 U29 Z2 (Jb3 R I2 (f16.gInt hx27) (Jn 3 R ?_)))
 cases h
 exact Jv1 _ tv ⟨R,_,Jj3⟩ (KM R)
 rintro _ w18 _ ⟨rfl,K19,S20⟩
 have h:=hK14
 refine Jd ?_
 revert h
 cases ht21:p31
 refine JF λh=>Jy R (Js (Jz (Jp (Jf3 R ?_))))
 have hw1:t5 .i64 (v7+1)=v7+1:=wr1 hj1 (Jm2 hc1) hN1
 rw[hw1]
 have hc1:=Jm2 hc1
 cases h
 exact Jz1 λa ha=>⟨k,_,Ja3 _,⟨K19,v7+1,R,(S9.tr S20).wk R,by omega,by omega,hk10⟩,(ha.mm R)⟩
 refine JT λh=>Jx R (Je3 R (Ju (Ja1 (Jw (Jw ?_)))))
 cases h
 obtain rfl:=Option.some.inj hk10
 have h:=hK2
 dsimp only[aft]at h
 refine Ja1 (Jq2 (Jw (Ja2 (l:=[.tmp 6]) V54 (Jp2 R R) R ?_)))
 cases h
 exact⟨K19,R,(hE.stp (S9.tr S20) R R)⟩
 rintro _ w4 ⟨K5,rfl,S6,rfl⟩
 have h:=hK2
 dsimp only[aft]at h
 refine Jp (Je3 R (Ju (Ja2 (l:=[.tmp 6]) V54 (Jp2 R R) R ?_)))
 cases h
 exact⟨K5,R,(hE.stp S6 R R)⟩
theorem pP {w:World}{κ:Col}{a0 u0}{p0:(List Int)}{p1:Int}(g0:Rd (Rp.int .i64) κ w 0 a0 u0 p0){r:Bool}(h:mX p0 p1=some r):Ret Tryz.prog 252 [.slice a0 p0.length u0,vi p1] w (λv w'=>∃(κ':Col),v= .bool r/\Ent κ w κ' w'):=by
 unfold mX at h
 refine Ret.enter F252 R N252 R ?_
 dsimp only[envOf]
 have hE:=Ent.refl κ w
 refine Je3 R (Jq (Je3 R ?_))
 have hN1:(p0.length:Int)<=9223372036854775807:=g0.len_le
 refine Ob h λq2 hq3 hK2=>?_
 clear h
 refine Jx1 (λL w'=>∃κ',L=[]/\Stp [] κ w κ' w'/\q2=t9 ()) ?_ ?_
 refine Jv (Jy1 (λk L w'=>∃κ' v5,L=[(0,.slice a0 p0.length u0),(1,vi p1),(5,vi v5)]/\Stp [] κ w κ' w'/\0<=v5/\vH ((p0.length:Int)-v5)=k/\cntM (kD p0 p1) k v5 ()=some q2) ⟨_,_,⟨κ,0,R,Jj3,(by decide),(by simp),hq3⟩,(KM R)⟩ ?_)
 rintro k _ w7 ⟨K8,v5,rfl,S9,hj1,hJ1,h⟩
 rcases k with _ | k
 have hk10:=h;obtain⟨o1,h⟩:=bO (t9 (vF ()):Bool⊕((Unit)⊕(Unit)))
 have hc1:decide (v5<(p0.length:Int))=false:=Jo2 (by omega)
 refine Jq (Jg3 [2,2,2,2] 2 R (Jf R (Je2 U29 R R) (Jb 1 R (Jw2 R hc1 (Jc1 (Jt (Jt ?_)))))))
 cases h
 have h:=hk10
 refine Jb1 ?_
 cases h
 exact Jw1 _ ⟨K8,R,S9.wk R,R⟩ KN
 obtain⟨o1,h,hk10⟩:=BI h;unfold kD at h
 have hc1:decide (v5<(p0.length:Int))=true:=Jn2 (by omega)
 refine Jq (Jg3 [2,2,2,2] 2 R (Jf R (Je2 U29 R R) (Jb 1 R (Jv2 R hc1 (Js (Jp (Jq (Jv (Jg3 [2,2,2,1,2,2] 2 R (Ob h λx14 hx14 h=>Jc3 R g0 hx14 U29 Z2 (Jb3 R I2 ((g0.stp S9 R R).gInt hx14) (Jb 2 R ?_))))))))))))
 revert h
 cases ht12:(x14==p1)
 refine JF λh=>Jy R (Js (Jz (Jp (Jf3 R ?_))))
 have hw1:t5 .i64 (v5+1)=v5+1:=wr1 hj1 (Jm2 hc1) hN1
 rw[hw1]
 have hc1:=Jm2 hc1
 cases h
 exact Jz1 λa ha=>⟨k,_,Ja3 _,⟨K8,v5+1,R,S9.wk R,by omega,by omega,hk10⟩,(ha.mm R)⟩
 refine JT λh=>Jx R (Je3 R (Ju (Ja1 (Jw (Jw ?_)))))
 cases h
 obtain rfl:=Option.some.inj hk10
 have h:=hK2
 dsimp only[aft]at h
 refine Ja1 (Jq2 (Jw (Ja2 (l:=[.tmp 4]) V252 (Jp2 R R) R ?_)))
 cases h
 exact⟨K8,R,(hE.stp S9 R R)⟩
 rintro _ w4 ⟨K5,rfl,S6,rfl⟩
 have h:=hK2
 dsimp only[aft]at h
 refine Jp (Je3 R (Ju (Ja2 (l:=[.tmp 4]) V252 (Jp2 R R) R ?_)))
 cases h
 exact⟨K5,R,(hE.stp S6 R R)⟩
theorem rH {w:World}{κ:Col}{a0 u0}{p0:(List Int)}{a1 u1}{p1:(List Int)}(g0:Rd (Rp.int .i64) κ w 0 a0 u0 p0) (g1:Rd (Rp.int .i64) κ w 0 a1 u1 p1){r:Bool}(h:la p0 p1=some r):Ret Tryz.prog 212 [.slice a0 p0.length u0,.slice a1 p1.length u1] w (λv w'=>∃(κ':Col),v= .bool r/\Ent κ w κ' w'):=by
 unfold la at h
 refine Ret.enter F212 R N212 R ?_
 dsimp only[envOf]
 have hE:=Ent.refl κ w
 refine Je3 R (Jq (Jg3 [2,2,2,2,2] 1 R (Jf R (Je2 U29 R R) (Jn 1 R (Jf R (Je2 U29 R R) (Jb 1 R ?_))))))
 revert h
 cases ht1:((p0.length:Int) !=(p1.length:Int))
 refine JF λh=>Jy R (Js (Jp (Jq (Je3 R ?_))))
 have hN2:(p0.length:Int)<=9223372036854775807:=g0.len_le
 refine Ob h λq2 hq4 hK3=>?_
 clear h
 refine Jx1 (λL w'=>∃κ',L=[]/\Stp [] κ w κ' w'/\q2=t9 ()) ?_ ?_
 refine Jv (Jy1 (λk L w'=>∃κ' v5,L=[(0,.slice a0 p0.length u0),(1,.slice a1 p1.length u1),(5,vi v5)]/\Stp [] κ w κ' w'/\0<=v5/\vH ((p0.length:Int)-v5)=k/\cntM (hU p0 p1) k v5 ()=some q2) ⟨_,_,⟨κ,0,R,Jj3,(by decide),(by simp),hq4⟩,(KM R)⟩ ?_)
 rintro k _ w8 ⟨K9,v5,rfl,S10,hj2,hJ2,h⟩
 rcases k with _ | k
 have hk11:=h;obtain⟨o2,h⟩:=bO (t9 (vF ()):Bool⊕((Unit)⊕(Unit)))
 have hc2:decide (v5<(p0.length:Int))=false:=Jo2 (by omega)
 refine Jq (Jg3 [2,2,2,2] 2 R (Jf R (Je2 U29 R R) (Jb 1 R (Jw2 R hc2 (Jc1 (Jt (Jt ?_)))))))
 cases h
 have h:=hk11
 refine Jb1 ?_
 cases h
 exact Jw1 _ ⟨K9,R,S10.wk R,R⟩ KN
 obtain⟨o2,h,hk11⟩:=BI h;unfold hU at h
 have hc2:decide (v5<(p0.length:Int))=true:=Jn2 (by omega)
 refine Jq (Jg3 [2,2,2,2] 2 R (Jf R (Je2 U29 R R) (Jb 1 R (Jv2 R hc2 (Js (Jp (Jq (Jv (Jq (Js1 (κ:=K9) [0] none [(0,2),(1,2),(2,2),(4,2),(5,2),(6,2),(3,0),(7,0),(8,2)] [] (by kernel_rfl) (by kernel_rfl) λw13 S12=>Jn 2 R (Ob h λx19 hx19 h=>Jc3 R g0 hx19 U29 Z2 (Jn 2 R (Ob h λx23 hx23 h=>Jc3 R g1 hx23 U29 Z2 (Jg R (Jc2 I2 R R (hvC ((g0.stp (S10.tr S12) R R).gInt hx19) R)) (Jg R (Jc2 I2 R R (hvC ((g1.stp (S10.tr S12) R R).gInt hx23) R)) (Jn 1 R (Jt1 (Jd ?_))))))))))))))))))
 revert h
 cases ht16:(x19 !=x23)
 refine JF λh=>Jy R (Js (Jz (Jp (Jf3 R ?_))))
 have hw2:t5 .i64 (v5+1)=v5+1:=wr1 hj2 (Jm2 hc2) hN2
 rw[hw2]
 have hc2:=Jm2 hc2
 cases h
 exact Jz1 λa ha=>⟨k,_,Ja3 _,⟨K9,v5+1,R,(S10.tr S12).wk R,by omega,by omega,hk11⟩,(ha.mm R)⟩
 refine JT λh=>Jx R (Je3 R (Ju (Ja1 (Jw (Jw ?_)))))
 cases h
 obtain rfl:=Option.some.inj hk11
 have h:=hK3
 dsimp only[aft]at h
 refine Ja1 (Jq2 (Jw (Ja2 (l:=[.tmp 4]) V212 (Jp2 R R) R ?_)))
 cases h
 exact⟨K9,R,(hE.stp (S10.tr S12) R R)⟩
 rintro _ w5 ⟨K6,rfl,S7,rfl⟩
 have h:=hK3
 dsimp only[aft]at h
 refine Jp (Je3 R (Ju (Ja2 (l:=[.tmp 4]) V212 (Jp2 R R) R ?_)))
 cases h
 exact⟨K6,R,(hE.stp S7 R R)⟩
 refine JT λh=>Jx R (Je3 R (Ju (Jw (Ja2 (l:=[.tmp 4]) V212 (Jp2 R R) R ?_))))
 cases h
 exact⟨κ,R,hE⟩
theorem si {w:World}{κ:Col}{a0 u0}{p0:(List Int)}{a1 u1}{p1:(List Place)}{p2:Int}(g0:Rd (Rp.int .i64) κ w 0 a0 u0 p0) (g1:Rd Place.rp κ w 0 a1 u1 p1){r:Int}(h:mH p0 p1 p2=some r):Ret Tryz.prog 74 [.slice a0 p0.length u0,.slice a1 p1.length u1,vi p2] w (λv w'=>∃(κ':Col),v=vi r/\Ent κ w κ' w'):=by
 unfold mH at h
 refine Ret.enter F74 R N74 R ?_
 dsimp only[envOf]
 have hE:=Ent.refl κ w
 refine Je3 R (Jq (Je3 R ?_))
 have hN1:(p0.length:Int)<=9223372036854775807:=g0.len_le
 refine Ob h λq2 hq3 hK2=>?_
 clear h
 refine Jx1 (λL w'=>∃κ',L=[]/\Stp [] κ w κ' w'/\q2=t9 ()) ?_ ?_
 refine Jv (Jy1 (λk L w'=>∃κ' v7,L=[(0,.slice a0 p0.length u0),(1,.slice a1 p1.length u1),(2,vi p2),(7,vi v7)]/\Stp [] κ w κ' w'/\0<=v7/\vH ((p0.length:Int)-v7)=k/\cntM (jn p0 p1 p2) k v7 ()=some q2) ⟨_,_,⟨κ,0,R,Jj3,(by decide),(by simp),hq3⟩,(KM R)⟩ ?_)
 rintro k _ w7 ⟨K8,v7,rfl,S9,hj1,hJ1,h⟩
 rcases k with _ | k
 have hk10:=h;obtain⟨o1,h⟩:=bO (t9 (vF ()):Int⊕((Unit)⊕(Unit)))
 have hc1:decide (v7<(p0.length:Int))=false:=Jo2 (by omega)
 refine Jq (Jg3 [2,2,2,2] 2 R (Jf R (Je2 U29 R R) (Jb 1 R (Jw2 R hc1 (Jc1 (Jt (Jt ?_)))))))
 cases h
 have h:=hk10
 refine Jb1 ?_
 cases h
 exact Jw1 _ ⟨K8,R,S9.wk R,R⟩ KN
 obtain⟨o1,h,hk10⟩:=BI h;unfold jn at h
 have hc1:decide (v7<(p0.length:Int))=true:=Jn2 (by omega)
 refine Jq (Jg3 [2,2,2,2] 2 R (Jf R (Je2 U29 R R) (Jb 1 R (Jv2 R hc1 (Js (Jp (Jq (Jv (Jg3 [2,2,2,2,1,2,2,1,2,2] 3 R (Ob h λx17 hx17 h=>Jc3 R g0 hx17 U29 Z2 ?_))))))))))
 have f11:=g0.stp S9 R R
 refine Jb3 R I2 (f11.gInt hx17) (Ob h λx19 hx19 h=>Jc3 R g1 hx19 U109 Z116 (Jd3 R U116 R Z2 ?_))
 obtain⟨cse13,hre13,hle13⟩:=((g1.stp S9 R R)).gSt hx19
 obtain⟨ae13_0,ue13_0,rfl,fe13_0⟩:=Place.un hre13
 refine Jb3 R I2 (λw' hw'=>hle13 w' hw' 0 _ R) (Jb 2 R ?_)
 revert h
 cases ht14:(x19.At==p2)
 refine JF λh=>Jy R (Js (Jz (Jp (Jf3 R ?_))))
 have hw1:t5 .i64 (v7+1)=v7+1:=wr1 hj1 (Jm2 hc1) hN1
 rw[hw1]
 have hc1:=Jm2 hc1
 cases h
 exact Jz1 λa ha=>⟨k,_,Ja3 _,⟨K8,v7+1,R,S9.wk R,by omega,by omega,hk10⟩,(ha.mm R)⟩
 refine JT λh=>Jx R (Jg3 [2,2,2,1,2] 2 R (Ob h λx26 hx26 h=>Jc3 R f11 hx26 U29 Z2 (Jb3 R I2 (f11.gInt hx26) (Jb 1 R (Ju (Ja1 (Jw (Jw ?_))))))))
 cases h
 obtain rfl:=Option.some.inj hk10
 have h:=hK2
 dsimp only[aft]at h
 refine Ja1 (Jq2 (Jw (Ja2 (l:=[.tmp 6]) V74 (Jp2 R R) R ?_)))
 cases h
 exact⟨K8,R,(hE.stp S9 R R)⟩
 rintro _ w4 ⟨K5,rfl,S6,rfl⟩
 have h:=hK2
 dsimp only[aft]at h
 refine Jp (Je3 R (Ju (Ja2 (l:=[.tmp 6]) V74 (Jp2 R R) R ?_)))
 cases h
 exact⟨K5,R,(hE.stp S6 R R)⟩
theorem oC {w:World}{κ:Col}{p0:Sig}  {r:Bool}(h:lI p0=some r):Ret Tryz.prog 48 [.agg #[vi p0.In,vi p0.Out]] w (λv w'=>∃(κ':Col),v= .bool r/\Ent κ w κ' w'):=by
 unfold lI at h
 refine Ret.enter F48 R N48 R ?_
 dsimp only[envOf]
 have hE:=Ent.refl κ w
 refine Je [1,2] R (Jf1 (κ:=κ) 2 R R R R R R R λb1 w1 K2 S3 f4=>⟨tv,Jb 1 R (Je [2,1,2,2,2,1,2,2,2,2,1,2,2,2,2,1,2,2,2] R (Jd3 R U25 R Z2 (Jb3 R I2 (f4.ld 0 R R) (Jn 2 R (Ob h λp10 h hK5=>Ju1 [(4,2),(5,1),(6,2),(7,2)] [(8,2),(9,2),(10,1),(11,2),(12,2),(13,2),(14,2),(15,1),(16,2),(17,2),(18,2)] (λL w'=>L=[(1,.pointer (some ⟨b1,0,none⟩)),(2,.bool false),(10,.bool p10)]/\∃κ',Stp [] K2 w1 κ' w') tv ?_ ?_)))))⟩)
 revert h
 cases ht6:decide (1<=p0.In)
 refine JF λh=>Jn 1 R (Jd1 R R R R (Jn 2 R ?_))
 cases h
 exact Jv1 _ tv ⟨R,_,Jj3⟩ (KM R)
 refine JT λh=>Jd3 R U25 R Z2 (Jb3 R I2 (f4.ld 0 R R) (Jn 2 R ?_))
 cases h
 exact Jv1 _ tv ⟨R,_,Jj3⟩ (KM R)
 rintro _ w7 _ ⟨rfl,K8,S9⟩
 have h:=hK5
 refine Jn 1 R (Ob h λp15 h hK10=>Ju1 [(9,2),(10,1),(11,2),(12,2)] [(13,2),(14,2),(15,1),(16,2),(17,2),(18,2)] (λL w'=>L=[(1,.pointer (some ⟨b1,0,none⟩)),(2,.bool false),(15,.bool p15)]/\∃κ',Stp [] K8 w7 κ' w') tv ?_ ?_)
 revert h
 cases ht11:p10
 refine JF λh=>Jn 1 R (Jd1 R R R R (Jn 2 R ?_))
 cases h
 exact Jv1 _ tv ⟨R,_,Jj3⟩ (KM R)
 refine JT λh=>Jd3 R U25 R Z2 (Jb3 R I2 ((f4.stp S9 R R).ld 1 R R) (Jn 2 R ?_))
 cases h
 exact Jv1 _ tv ⟨R,_,Jj3⟩ (KM R)
 rintro _ w13 _ ⟨rfl,K14,S15⟩
 have h:=hK10
 refine Jn 1 R (Ob h λp20 h hK16=>Ju1 [(14,2),(15,1),(16,2),(17,2)] [(18,2)] (λL w'=>L=[(2,.bool false),(20,.bool p20)]/\∃κ',Stp [] K14 w13 κ' w') tv ?_ ?_)
 revert h
 cases ht17:p15
 refine JF λh=>Jn 1 R (Jd1 R R R R (Jn 2 R ?_))
 cases h
 exact Jv1 _ tv ⟨R,_,Jj3⟩ (KM R)
 refine JT λh=>Jd3 R U25 R Z2 (Jb3 R I2 ((f4.stp (S9.tr S15) R R).ld 1 R R) (Jn 2 R ?_))
 cases h
 exact Jv1 _ tv ⟨R,_,Jj3⟩ (KM R)
 rintro _ w19 _ ⟨rfl,K20,S21⟩
 have h:=hK16
 refine Jb 1 R (Ju (Ja2 (l:=[.tmp 2]) V48 (Jp2 R R) R ?_))
 cases h
 exact⟨K20,R,(hE.stp (S3.tr (S9.tr (S15.tr S21))) R R)⟩
theorem iY {w:World}{κ:Col}{a0 u0}{p0:(List Int)}{p1:Int}(g0:Rd (Rp.int .i64) κ w 0 a0 u0 p0){r:Bool}(h:iJ p0 p1=some r):Ret Tryz.prog 217 [.slice a0 p0.length u0,vi p1] w (λv w'=>∃(κ':Col),v= .bool r/\Ent κ w κ' w'):=by
 unfold iJ at h
 refine Ret.enter F217 R N217 R ?_
 dsimp only[envOf]
 have hE:=Ent.refl κ w
 refine Je3 R (Jq (Jg3 [2,2,2] 1 R (Jf R (Je2 U29 R R) (Jb 1 R ?_))))
 have hN1:(p0.length:Int)<=9223372036854775807:=g0.len_le
 refine Ob h λq2 hq3 hK2=>?_
 clear h
 refine Jx1 (λL w'=>∃κ',L=[]/\Stp [] κ w κ' w'/\q2=t9 ()) ?_ ?_
 refine Jv (Jy1 (λk L w'=>∃κ' v9,L=[(0,.slice a0 p0.length u0),(1,vi p1),(7,.slice a0 p0.length u0),(8,vi (p0.length:Int)),(9,vi v9)]/\Stp [] κ w κ' w'/\0<=v9/\vH ((p0.length:Int)-v9)=k/\cntM (jm p0 p1) k v9 ()=some q2) ⟨_,_,⟨κ,0,R,Jj3,(by decide),(by simp),hq3⟩,(KM R)⟩ ?_)
 rintro k _ w7 ⟨K8,v9,rfl,S9,hj1,hJ1,h⟩
 rcases k with _ | k
 have hk10:=h;obtain⟨o1,h⟩:=bO (t9 (vF ()):Bool⊕((Unit)⊕(Unit)))
 have hc1:decide (v9<(p0.length:Int))=false:=Jo2 (by omega)
 refine Je3 R (Jq (Jw2 R hc1 (Jc1 (Jt (Jt ?_)))))
 cases h
 have h:=hk10
 refine Jb1 ?_
 cases h
 exact Jw1 _ ⟨K8,R,S9.wk R,R⟩ KN
 obtain⟨o1,h,hk10⟩:=BI h;unfold jm at h
 have hc1:decide (v9<(p0.length:Int))=true:=Jn2 (by omega)
 refine Je3 R (Jq (Jv2 R hc1 (Js (Jp (Jq (Jv (Jg3 [2,2,1,2,2] 1 R (Ob h λx12 hx12 h=>Jc3 R g0 hx12 U29 Z2 ?_))))))))
 have f11:=g0.stp S9 R R
 refine Jb3 R I2 (f11.gInt hx12) (Jb 2 R (Jg3 [2,2,2,2,2,2,2,2,2,2,2,2,2,2,2,2,1,2,2,2] 3 R (Ob h λp20 h hK12=>Ju1 [(3,2),(4,2),(5,2),(6,2)] [(7,2),(8,2),(9,2),(10,2),(11,2),(12,2),(13,2),(14,2),(15,2),(16,1),(17,2),(18,2),(19,2)] (λL w'=>L=[(0,.slice a0 p0.length u0),(1,vi p1),(5,vi v9),(6,vi x12),(7,.slice a0 p0.length u0),(8,vi (p0.length:Int)),(9,vi v9),(20,.bool p20)]/\∃κ',Stp [] K8 w7 κ' w') tv ?_ ?_)))
 revert h
 cases ht13:decide (x12<0)
 refine JF λh=>Jn 4 R ?_
 cases h
 exact Jv1 _ tv ⟨R,_,Jj3⟩ (KM R)
 refine JT λh=>Jn 4 R ?_
 cases h
 exact Jv1 _ tv ⟨R,_,Jj3⟩ (KM R)
 rintro _ w14 _ ⟨rfl,K15,S16⟩
 have h:=hK12
 refine Jn 1 R (Ob h λp33 h hK17=>Ju1 [(8,2),(9,2),(10,2),(11,2),(12,2),(13,2),(14,2),(15,2),(16,1),(17,2),(18,2),(19,2)] [] (λL w'=>L=[(0,.slice a0 p0.length u0),(1,vi p1),(7,.slice a0 p0.length u0),(8,vi (p0.length:Int)),(9,vi v9),(33,.bool p33)]/\∃κ',Stp [] K15 w14 κ' w') tv ?_ ?_)
 revert h
 cases ht18:p20
 refine JF λh=>Jn 3 R (Ob h λp32 h hK19=>Ju1 [(11,2),(12,2),(13,2),(14,2),(15,2),(16,1),(17,2),(18,2)] [(19,2)] (λL w'=>L=[(0,.slice a0 p0.length u0),(1,vi p1),(7,.slice a0 p0.length u0),(8,vi (p0.length:Int)),(9,vi v9),(21,.bool false),(22,vi v9),(23,.bool (decide (0<v9))),(24,.bool (decide (0<v9))),(32,.bool p32)]/\∃κ',Stp [] K15 w14 κ' w') tv ?_ ?_)
 revert h
 cases ht20:decide (0<v9)
 refine JF λh=>Jn 5 R (Jd1 R R R R (Jn 2 R ?_))
 cases h
 exact Jv1 _ tv ⟨R,_,Jj3⟩ (KM R)
 refine JT λh=>Jn 4 R (Ob h λx29 hx29 h=>Jc3 R f11 hx29 U29 Z2 (Jb3 R I2 ((f11.stp S16 R R).gInt hx29) (Jn 2 R ?_)))
 cases h
 exact Jv1 _ tv ⟨R,_,Jj3⟩ (KM R)
 rintro _ w22 _ ⟨rfl,K23,S24⟩
 have h:=hK19
 refine Jn 1 R ?_
 cases h
 exact Jv1 _ tv ⟨R,_,S24.wk R⟩ (KM R)
 refine JT λh=>Jn 8 R (Jd1 R R R R (Jn 3 R ?_))
 cases h
 exact Jv1 _ tv ⟨R,_,Jj3⟩ (KM R)
 rintro _ w25 _ ⟨rfl,K26,S27⟩
 have h:=hK17
 refine Jd ?_
 revert h
 cases ht28:p33
 refine JF λh=>Jy R (Js (Jz (Jp (Jf3 R ?_))))
 have hw1:t5 .i64 (v9+1)=v9+1:=wr1 hj1 (Jm2 hc1) hN1
 rw[hw1]
 have hc1:=Jm2 hc1
 cases h
 exact Jz1 λa ha=>⟨k,_,Ja3 _,⟨K26,v9+1,R,(S9.tr (S16.tr S27)).wk R,by omega,by omega,hk10⟩,(ha.mm R)⟩
 refine JT λh=>Jx R (Je3 R (Ju (Ja1 (Jw (Jw ?_)))))
 cases h
 obtain rfl:=Option.some.inj hk10
 have h:=hK2
 dsimp only[aft]at h
 refine Ja1 (Jq2 (Jw (Ja2 (l:=[.tmp 4]) V217 (Jp2 R R) R ?_)))
 cases h
 exact⟨K26,R,(hE.stp (S9.tr (S16.tr S27)) R R)⟩
 rintro _ w4 ⟨K5,rfl,S6,rfl⟩
 have h:=hK2
 dsimp only[aft]at h
 refine Jp (Je3 R (Ju (Ja2 (l:=[.tmp 4]) V217 (Jp2 R R) R ?_)))
 cases h
 exact⟨K5,R,(hE.stp S6 R R)⟩
theorem gC {w:World}{κ:Col}{a0 u0}{p0:(List (Int×Int))}{p1:(Int×Int)}(g0:Rd (Rp.pair (Rp.int .i64) (Rp.int .i64)) κ w 0 a0 u0 p0){r:Int}(h:cj p0 p1=some r):Ret Tryz.prog 181 [.slice a0 p0.length u0,.agg #[vi p1.1,vi p1.2]] w (λv w'=>∃(κ':Col),v=vi r/\Ent κ w κ' w'):=by
 unfold cj at h
 refine Ret.enter F181 R N181 R ?_
 dsimp only[envOf]
 have hE:=Ent.refl κ w
 refine Je [1,2] R (Jf1 (κ:=κ) 2 R R R R R R R λb3 w1 K2 S3 f4=>⟨tv,Jb 1 R (Jq (Jg3 [2,2,2] 1 R (Jf R (Je2 U198 R R) (Jb 1 R ?_))))⟩)
 have hN5:(p0.length:Int)<=9223372036854775807:=g0.len_le
 refine Ob h λq2 hq7 hK6=>?_
 clear h
 refine Jx1 (λL w'=>∃κ',L=[]/\Stp [] K2 w1 κ' w'/\q2=t9 ()) ?_ ?_
 refine Jv (Jy1 (λk L w'=>∃κ' v8,L=[(0,.slice a0 p0.length u0),(3,.pointer (some ⟨b3,0,none⟩)),(7,vi (p0.length:Int)),(8,vi v8)]/\Stp [] K2 w1 κ' w'/\0<=v8/\vH ((p0.length:Int)-v8)=k/\cntM (ch p0 p1) k v8 ()=some q2) ⟨_,_,⟨K2,0,R,Jj3,(by decide),(by simp),hq7⟩,(KM R)⟩ ?_)
 rintro k _ w11 ⟨K12,v8,rfl,S13,hj5,hJ5,h⟩
 rcases k with _ | k
 have hk14:=h;obtain⟨o5,h⟩:=bO (t9 (vF ()):Int⊕((Unit)⊕(Unit)))
 have hc5:decide (v8<(p0.length:Int))=false:=Jo2 (by omega)
 refine Je3 R (Jq (Jw2 R hc5 (Jc1 (Jt (Jt ?_)))))
 cases h
 have h:=hk14
 refine Jb1 ?_
 cases h
 exact Jw1 _ ⟨K12,R,S13.wk R,R⟩ KN
 obtain⟨o5,h,hk14⟩:=BI h;unfold ch at h
 have hc5:decide (v8<(p0.length:Int))=true:=Jn2 (by omega)
 refine Je3 R (Jq (Jv2 R hc5 (Js (Jp (Jq (Jv (Je3 R (Jq (Js1 (κ:=K12) [0,2] none [(1,2),(2,2),(3,2),(0,0),(4,0),(5,2)] [] (by kernel_rfl) (by kernel_rfl) λw16 S15=>Jn 2 R (Ob h λx14 hx14 h=>Jc3 R g0 hx14 U198 Z81 (Jg R (Jd2 (cs:=[vi p1.1,vi p1.2]) I81 Z81 R R R (haC (f4.stp (S13.tr S15) R R).cells R)) ?_)))))))))))
 obtain⟨cse19,hre19,hle19⟩:=((g0.stp (S3.tr (S13.tr S15)) R R)).gSt hx14
 obtain⟨_,_,rfl,rfl,rfl⟩:=hre19
 refine Jg R (Jd2 (cs:=[vi x14.1,vi x14.2]) I81 Z81 R R R (haC hle19 R)) (Jf R (ud U81 (by kernel_rfl) I2 U2 Z2 R R R) (Jt1 (Jd ?_)))
 revert h
 cases ht20:((p1.1==x14.1)&&(p1.2==x14.2))
 refine JF λh=>Jy R (Js (Jz (Jp (Jf3 R ?_))))
 have hw5:t5 .i64 (v8+1)=v8+1:=wr1 hj5 (Jm2 hc5) hN5
 rw[hw5]
 have hc5:=Jm2 hc5
 cases h
 exact Jz1 λa ha=>⟨k,_,Ja3 _,⟨K12,v8+1,R,(S13.tr S15).wk R,by omega,by omega,hk14⟩,(ha.mm R)⟩
 refine JT λh=>Jx R (Je3 R (Ju (Ja1 (Jw (Jw ?_)))))
 cases h
 obtain rfl:=Option.some.inj hk14
 have h:=hK6
 dsimp only[aft]at h
 refine Ja1 (Jq2 (Jw (Ja2 (l:=[.tmp 4]) V181 (Jp2 R R) R ?_)))
 cases h
 exact⟨K12,R,(hE.stp (S3.tr (S13.tr S15)) R R)⟩
 rintro _ w8 ⟨K9,rfl,S10,rfl⟩
 have h:=hK6
 dsimp only[aft]at h
 refine Jp (Je3 R (Ju (Ja2 (l:=[.tmp 4]) V181 (Jp2 R R) R ?_)))
 cases h
 exact⟨K9,R,(hE.stp (S3.tr S10) R R)⟩
theorem gB {w:World}{κ:Col}{a0 u0}{p0:(List Int)}(g0:Oc E6 2 κ w 2 a0 u0 p0){r:(List Int)}(h:cm p0=some r):Ret Tryz.prog 133 [.slice a0 p0.length u0] w (λv w'=>∃(κ':Col),v= .tuple #[]/\Ent κ w κ' w'/\Oc E6 2 κ' w' 2 a0 u0 r/\p0.length=r.length):=by
  unfold cm at h
  split at h
  · rename_i hh
    cases h
    exact uv (λblk off cap zs w hH hb hz=>Tryz.slices_Sort_int blk off cap zs w hH hb hz) g0 hh.1 hh.2
  · split at h
    · rename_i hh
      cases h
      exact tK Tryz.slices_Sort_int_none g0 hh
    · cases h
theorem jG {w:World}{κ:Col}{a0 u0}{p0:(List Int)}(g0:Oc E6 2 κ w 2 a0 u0 p0){r:(List Int)}(h:cD p0=some r):Ret Tryz.prog 134 [.slice a0 p0.length u0] w (λv w'=>∃(κ':Col) (ra0:Option Addr) (ru0:Nat),v= .slice ra0 r.length ru0/\Ent κ w κ' w'/\Oc E6 2 κ' w' 2 ra0 ru0 r):=by
  unfold cD at h
  split at h
  · rename_i hh
    cases h
    exact sf (λblk off cap zs w hH hz hc=>Tryz.slices_Compact_int blk off cap zs w hH hz hc) g0 hh.1 hh.2
  · cases h
theorem fL {w:World}{κ:Col}{a0 u0}{p0:(List Bool)}(g0:Rd Rp.bool κ w 0 a0 u0 p0){r:(List Int)}(h:fa p0=some r):Ret Tryz.prog 190 [.slice a0 p0.length u0] w (λv w'=>∃(κ':Col) (ra0:Option Addr) (ru0:Nat),v= .slice ra0 r.length ru0/\Ent κ w κ' w'/\Oc E6 2 κ' w' 2 ra0 ru0 r):=by
 unfold fa at h
 refine Ret.enter F190 R N190 R ?_
 dsimp only[envOf]
 have hE:=Ent.refl κ w
 refine Je3 R (Je [1,2] R (Jo1 (κ:=κ) (E:=E6) 2 R R R R R Y29 Tryzinfo2 R λa6 u6 w1 K2 S3 f4=>⟨tv,Jb 1 R (Jq (Jg3 [2,2,2] 1 R (Jf R (Je2 U193 R R) (Jb 1 R ?_))))⟩))
 have hN5:(p0.length:Int)<=9223372036854775807:=g0.len_le
 refine Ob h λq2 hq7 hK6=>?_
 clear h
 refine Jx1 (λL w'=>∃κ',∃s3:(List Int),∃af ac,L=[(3,.slice af s3.length ac)]/\Stp [2] K2 w1 κ' w'/\Oc E6 2 κ' w' 2 af ac s3/\q2=t9 s3) ?_ ?_
 refine Jv (Jy1 (λk L w'=>∃κ' v9,∃s1:(List Int),∃aa ab,L=[(3,.slice aa s1.length ab),(7,.slice a0 p0.length u0),(8,vi (p0.length:Int)),(9,vi v9)]/\Stp [2] K2 w1 κ' w'/\Oc E6 2 κ' w' 2 aa ab s1/\0<=v9/\vH ((p0.length:Int)-v9)=k/\cntM (iv p0) k v9 s1=some q2) ⟨_,_,⟨K2,0,(([]:List Int):(List Int)),a6,u6,R,Jj3,f4,(by decide),(by simp),hq7⟩,(KM R)⟩ ?_)
 rintro k _ w12 ⟨K13,v9,s1,aa,ab,rfl,S14,f15,hj5,hJ5,h⟩
 rcases k with _ | k
 have hk16:=h;obtain⟨o5,h⟩:=bO (t9 (vF s1):(List Int)⊕(((List Int))⊕((List Int))))
 have hc5:decide (v9<(p0.length:Int))=false:=Jo2 (by omega)
 refine Je3 R (Jq (Jw2 R hc5 (Jc1 (Jt (Jt ?_)))))
 cases h
 have h:=hk16
 refine Jb1 ?_
 cases h
 exact Jw1 _ ⟨K13,(s1:(List Int)),aa,ab,R,S14.wk R,f15,R⟩ (KM R)
 obtain⟨o5,h,hk16⟩:=BI h;unfold iv at h
 have hc5:decide (v9<(p0.length:Int))=true:=Jn2 (by omega)
 refine Je3 R (Jq (Jv2 R hc5 (Js (Jp (Jq (Jv (Jg3 [2,2,1,2,2] 1 R (Ob h λx12 hx12 h=>Jc3 R g0 hx12 U193 Z4 (Jb3 R I4 ((g0.stp (S3.tr S14) R R).gBool hx12) (Jb 2 R (Je3 R (Ob h λq4 h hK18=>Jx1 (λL w'=>∃κ' ad ae,L=[(3,.slice ad q4.length ae),(7,.slice a0 p0.length u0),(8,vi (p0.length:Int)),(9,vi v9)]/\Stp [2] K13 w12 κ' w'/\Oc E6 2 κ' w' 2 ad ae q4) ?_ ?_))))))))))))
 revert h
 cases ht23:x12
 refine JF λh=>Jy R (Js ?_)
 cases h
 exact Jw1 _ ⟨K13,aa,ab,R,Jj3,f15⟩ (KM R)
 refine JT λh=>Jx R (Jh3 [2,2,1,1,2] 2 R (Jn1 (κ:=K13) (E:=E6) 3 [] (parts:=[(0,.tmp 16)]) (cells:=[vi v9]) (xs:=([v9]:List Int)) R R R R R R Y29 Tryzinfo2 R R R R R R R R R R ⟨[vi v9],[],Zl K13 w12 [],Zl K13 w12 [],R,Zl.sp (l1:=[]) (l2:=[]) R,Zl.sr (l1:=[]) (l2:=[]),R,R⟩ λaj ak w24 K25 S26 f27=>⟨tv,Ob h λx18 hx18 h=>Jm1 (κ:=K25) (E:=E6) 2 [] R R R R R R R R R Y29 Tryzinfo2 R R R R (f15.stp S26 R R) (Sl.srcP (bR _) f27.rdc) bJ hx18 R λah ai w29 K30 S31 f32=>⟨tv,Jc 1 R ?_⟩⟩))
 cases h
 exact Jw1 _ ⟨K30,ah,ai,R,(S26.tr S31).wk R,f32⟩ (KM R)
 rintro _ w19 ⟨K20,ad,ae,rfl,S21,f22⟩
 have h:=hK18
 refine Jz (Jp (Jf3 R ?_))
 have hw5:t5 .i64 (v9+1)=v9+1:=wr1 hj5 (Jm2 hc5) hN5
 rw[hw5]
 have hc5:=Jm2 hc5
 cases h
 exact Jz1 λa ha=>⟨k,_,Ja3 _,⟨K20,v9+1,(q4:(List Int)),ad,ae,R,(S14.tr S21).wk R,f22,by omega,by omega,hk16⟩,(ha.mm R)⟩
 rintro _ w8 ⟨K9,s3,af,ac,rfl,S10,f11,rfl⟩
 have h:=hK6
 dsimp only[aft]at h
 refine Jp (Je3 R (Ju (Ja2 (l:=[.tmp 2]) V190 (Jp2 R R) R ?_)))
 cases h
 exact⟨K9,af,ac,R,(hE.stp (S3.tr S10) R R),f11⟩
theorem fV {w:World}{κ:Col}{a0 u0}{p0:(List Bool)}{a1 u1}{p1:(List Bool)}(g0:Rd Rp.bool κ w 0 a0 u0 p0) (g1:Rd Rp.bool κ w 0 a1 u1 p1){r:(List Bool)}(h:eg p0 p1=some r):Ret Tryz.prog 191 [.slice a0 p0.length u0,.slice a1 p1.length u1] w (λv w'=>∃(κ':Col) (ra0:Option Addr) (ru0:Nat),v= .slice ra0 r.length ru0/\Ent κ w κ' w'/\Oc Ep.bool 4 κ' w' 2 ra0 ru0 r):=by
 unfold eg at h
 refine Ret.enter F191 R N191 R ?_
 dsimp only[envOf]
 have hE:=Ent.refl κ w
 refine Je3 R (Jg3 [2,2,1,2] 1 R (Jf R (Je2 U193 R R) (Ob h λx9 hx9 h=>Jl1 (κ:=κ) (E:=Ep.bool) (z:=(false:Bool)) 2 R R R R R R R Y193 Tryzinfo4 R R R R R (λ_ _ _=>R) (Ju2 hx9) λa9 u9 w1 K2 S3 f4=>⟨tv,Jb 1 R (Jq (Jg3 [2,2,2] 1 R (Jf R (Je2 U193 R R) (Jb 1 R ?_))))⟩)))
 have hN5:(p0.length:Int)<=9223372036854775807:=g0.len_le
 refine Ob h λq2 hq7 hK6=>?_
 clear h
 refine Jx1 (λL w'=>∃κ',∃s3:(List Bool),L=[(5,.slice a9 x9.length u9)]/\Stp [2] K2 w1 κ' w'/\Oc Ep.bool 4 κ' w' 2 a9 u9 s3/\x9.length=s3.length/\q2=t9 s3) ?_ ?_
 refine Jv (Jy1 (λk L w'=>∃κ' v12,∃s1:(List Bool),L=[(0,.slice a0 p0.length u0),(1,.slice a1 p1.length u1),(5,.slice a9 x9.length u9),(11,vi (p0.length:Int)),(12,vi v12)]/\Stp [2] K2 w1 κ' w'/\Oc Ep.bool 4 κ' w' 2 a9 u9 s1/\x9.length=s1.length/\0<=v12/\vH ((p0.length:Int)-v12)=k/\cntM (gz p0 p1) k v12 s1=some q2) ⟨_,_,⟨K2,0,(x9:(List Bool)),R,Jj3,f4,R,(by decide),(by simp),hq7⟩,(KM R)⟩ ?_)
 rintro k _ w13 ⟨K14,v12,s1,rfl,S15,f16,hn17,hj5,hJ5,h⟩
 rcases k with _ | k
 have hk18:=h;obtain⟨o5,h⟩:=bO (t9 (vF s1):(List Bool)⊕(((List Bool))⊕((List Bool))))
 have hc5:decide (v12<(p0.length:Int))=false:=Jo2 (by omega)
 refine Je3 R (Jq (Jw2 R hc5 (Jc1 (Jt (Jt ?_)))))
 cases h
 have h:=hk18
 refine Jb1 ?_
 cases h
 exact Jw1 _ ⟨K14,(s1:(List Bool)),R,S15.wk R,f16,hn17,R⟩ (KM R)
 obtain⟨o5,h,hk18⟩:=BI h;unfold gz at h
 have hc5:decide (v12<(p0.length:Int))=true:=Jn2 (by omega)
 refine Je3 R (Jq (Jv2 R hc5 (Js (Jp (Jq (Jv (Je3 R (Jh3 [2,2,2,2,2,1,2,2,2,2,1,2,2,2,1] 4 R (Ob h λx19 hx19 h=>Jc3 R g0 hx19 U193 Z4 (Jb3 R I4 ((g0.stp (S3.tr S15) R R).gBool hx19) (Jn 1 R (Ob h λp27 h hK20=>Ju1 [(7,2),(8,2),(9,2),(10,1),(11,2),(12,2)] [(13,2),(14,1)] (λL w'=>L=[(0,.slice a0 p0.length u0),(1,.slice a1 p1.length u1),(5,.slice a9 x9.length u9),(11,vi (p0.length:Int)),(12,vi v12),(15,.slice a9 x9.length u9),(16,vi v12),(27,.bool p27)]/\∃κ',Stp [] K14 w13 κ' w') tv ?_ ?_))))))))))))
 revert h
 cases ht21:x19
 refine JF λh=>Jn 3 R (Jd1 R R R R (Jn 2 R ?_))
 cases h
 exact Jv1 _ tv ⟨R,_,Jj3⟩ (KM R)
 refine JT λh=>Jn 2 R (Ob h λx24 hx24 h=>Jc3 R g1 hx24 U193 Z4 (Jb3 R I4 ((g1.stp (S3.tr S15) R R).gBool hx24) (Jn 2 R ?_)))
 cases h
 exact Jv1 _ tv ⟨R,_,Jj3⟩ (KM R)
 rintro _ w23 _ ⟨rfl,K24,S25⟩
 have h:=hK20
 refine Ob h λx28 hx28 h=>Jf R (Jf2 f16.rdc hx28 U193 Z4 R R hn17 R) (Ob h λy415 hy415 h=>Jk1 (κ:=K24) (E:=Ep.bool) 2 [] R R R R R R R R Z4 R R R R (f16.stp S25 R R) hy415 λw27 K28 S29 f30=>⟨tv,?_⟩)
 have hn31:x9.length=y415.length:=hn17.trans (Jt2 hy415).2.2.2.symm
 refine Jo (Jz (Jp (Jf3 R ?_)))
 have hw5:t5 .i64 (v12+1)=v12+1:=wr1 hj5 (Jm2 hc5) hN5
 rw[hw5]
 have hc5:=Jm2 hc5
 cases h
 exact Jz1 λa ha=>⟨k,_,Ja3 _,⟨K28,v12+1,(y415:(List Bool)),R,(S15.tr (S25.tr S29)).wk R,f30,hn31,by omega,by omega,hk18⟩,(ha.mm R)⟩
 rintro _ w8 ⟨K9,s3,rfl,S10,f11,hn12,rfl⟩
 have h:=hK6
 dsimp only[aft]at h
 refine Jp (Je3 R (Ju (Ja2 (l:=[.tmp 4]) V191 (Jp2 R R) R ?_)))
 cases h
 exact⟨K9,a9,u9,(by simp only[hn12]),(hE.stp (S3.tr S10) R R),f11⟩
theorem jH {w:World}{κ:Col}{a0 u0}{p0:(List Bool)}{p1:Bool}(g0:Rd Rp.bool κ w 0 a0 u0 p0){r:Int}(h:cR p0 p1=some r):Ret Tryz.prog 249 [.slice a0 p0.length u0,.bool p1] w (λv w'=>∃(κ':Col),v=vi r/\Ent κ w κ' w'):=by
 unfold cR at h
 refine Ret.enter F249 R N249 R ?_
 dsimp only[envOf]
 have hE:=Ent.refl κ w
 refine Je3 R (Jq (Jg3 [2,2,2] 1 R (Jf R (Je2 U193 R R) (Jb 1 R ?_))))
 have hN1:(p0.length:Int)<=9223372036854775807:=g0.len_le
 refine Ob h λq2 hq3 hK2=>?_
 clear h
 refine Jx1 (λL w'=>∃κ',L=[]/\Stp [] κ w κ' w'/\q2=t9 ()) ?_ ?_
 refine Jv (Jy1 (λk L w'=>∃κ' v8,L=[(0,.slice a0 p0.length u0),(1,.bool p1),(7,vi (p0.length:Int)),(8,vi v8)]/\Stp [] κ w κ' w'/\0<=v8/\vH ((p0.length:Int)-v8)=k/\cntM (cq p0 p1) k v8 ()=some q2) ⟨_,_,⟨κ,0,R,Jj3,(by decide),(by simp),hq3⟩,(KM R)⟩ ?_)
 rintro k _ w7 ⟨K8,v8,rfl,S9,hj1,hJ1,h⟩
 rcases k with _ | k
 have hk10:=h;obtain⟨o1,h⟩:=bO (t9 (vF ()):Int⊕((Unit)⊕(Unit)))
 have hc1:decide (v8<(p0.length:Int))=false:=Jo2 (by omega)
 refine Je3 R (Jq (Jw2 R hc1 (Jc1 (Jt (Jt ?_)))))
 cases h
 have h:=hk10
 refine Jb1 ?_
 cases h
 exact Jw1 _ ⟨K8,R,S9.wk R,R⟩ KN
 obtain⟨o1,h,hk10⟩:=BI h;unfold cq at h
 have hc1:decide (v8<(p0.length:Int))=true:=Jn2 (by omega)
 refine Je3 R (Jq (Jv2 R hc1 (Js (Jp (Jq (Jv (Je3 R (Jg3 [2,2,2,2,1,2] 3 R (Ob h λx14 hx14 h=>Jc3 R g0 hx14 U193 Z4 (Jb3 R I4 ((g0.stp S9 R R).gBool hx14) (Jf R (ui R R U4 R) (Jd ?_))))))))))))
 revert h
 cases ht12:(p1==x14)
 refine JF λh=>Jy R (Js (Jz (Jp (Jf3 R ?_))))
 have hw1:t5 .i64 (v8+1)=v8+1:=wr1 hj1 (Jm2 hc1) hN1
 rw[hw1]
 have hc1:=Jm2 hc1
 cases h
 exact Jz1 λa ha=>⟨k,_,Ja3 _,⟨K8,v8+1,R,S9.wk R,by omega,by omega,hk10⟩,(ha.mm R)⟩
 refine JT λh=>Jx R (Je3 R (Ju (Ja1 (Jw (Jw ?_)))))
 cases h
 obtain rfl:=Option.some.inj hk10
 have h:=hK2
 dsimp only[aft]at h
 refine Ja1 (Jq2 (Jw (Ja2 (l:=[.tmp 4]) V249 (Jp2 R R) R ?_)))
 cases h
 exact⟨K8,R,(hE.stp S9 R R)⟩
 rintro _ w4 ⟨K5,rfl,S6,rfl⟩
 have h:=hK2
 dsimp only[aft]at h
 refine Jp (Je3 R (Ju (Ja2 (l:=[.tmp 4]) V249 (Jp2 R R) R ?_)))
 cases h
 exact⟨K5,R,(hE.stp S6 R R)⟩
theorem m0 {w:World}{κ:Col}{p0:Int}{a1 u1}{c0:(List Place)}{c1:Int}{b1 b2}(g1:Rd Place.rp κ w 0 a1 u1 c0) (gb1:Bc κ w 0 b1 109 [.slice a1 c0.length u1]) (gb2:Bc κ w 0 b2 2 [vi c1]){r:Bool}(h:fq p0 c0 c1=some r):Ret Tryz.prog 143 [vi p0,.pointer (some ⟨b1,0,none⟩),.pointer (some ⟨b2,0,none⟩)] w (λv w'=>∃(κ':Col),v= .bool r/\Ent κ w κ' w'):=by
 unfold fq at h
 refine Ret.enter F143 R N143 R ?_
 dsimp only[envOf]
 have hE:=Ent.refl κ w
 refine Je3 R (Jq (Js1 (κ:=κ) [0] none [(1,2),(0,0),(2,2),(3,2),(4,0),(5,0),(6,2),(7,2)] [] (by kernel_rfl) (by kernel_rfl) λw2 S1=>Jn 1 R (Jg R (Jc2 I109 R R (hvC ((gb1.stp S1 R R).ld 0 R R) R)) (Ob h λx7 hx7 h=>Jc3 R g1 hx7 U109 Z116 (Jd3 R U116 R Z2 ?_)))))
 obtain⟨cse5,hre5,hle5⟩:=((g1.stp S1 R R)).gSt hx7
 obtain⟨ae5_0,ue5_0,rfl,fe5_0⟩:=Place.un hre5
 refine Jg R (Jc2 I2 R R (hvC (λw' hw'=>hle5 w' hw' 0 _ R) R)) (Jg R (Jc2 I2 R R (hvC ((gb2.stp S1 R R).ld 0 R R) R)) (Jn 2 R (Jt1 (Jd (Ju (Ja2 (l:=[.tmp 4]) V143 (Jp2 R R) R ?_))))))
 cases h
 exact⟨κ,R,(hE.stp S1 R R)⟩
end Go.Proofs.YtpcjbkgbnoocaaaGreat
