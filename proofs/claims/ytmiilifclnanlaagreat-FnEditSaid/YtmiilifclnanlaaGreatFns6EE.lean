/- The walks, part 6. By program. -/
import Derived.Test.YtmiilifclnanlaaGreatFns3EE
import Derived.Test.YtmiilifclnanlaaGreatFns4EE
import Derived.Test.YtmiilifclnanlaaGreatFns5EE
set_option linter.unusedVariables false
set_option linter.unusedSimpArgs false
namespace Go.Proofs.YtmiilifclnanlaaGreat
open Go Go.Wk Go.Proofs
set_option maxRecDepth 100000
set_option maxHeartbeats 1000000
theorem s_l1Odd_ok {w:World}{κ:Col}{ab aa}{p0:l1Cur}{b0}(g0_0:Rd (Rp.int .u8) κ w 0 ab aa p0.b) (gb0:Bc κ w 2 b0 107 [.slice ab p0.b.length aa,vi p0.i,vi p0.h]){r:Int×Int×Int}(h:s_l1Odd p0=some r):Ret Tryz.prog 138 [.pointer (some ⟨b0,0,none⟩)] w (fun v w'=>∃(κ':Col),v=vi r.1∧Ent κ w κ' w'∧Bc κ' w' 2 b0 107 [.slice ab p0.b.length aa,vi r.2.1,vi r.2.2]):=by
 unfold s_l1Odd at h
 refine Ret.enter F138 R N138 R ?_
 dsimp only[envOf]
 have hE:=Ent.refl κ w
 refine Je [2] R (Jb 1 R (Je [1,2,1,2,1,2] R ?_))
 refine Jn1 (κ:=κ) (E:=E6) 3 [] (parts:=[(0,.const (vi (-1))),(1,.const (vi 0)),(2,.const (vi 1)),(3,.const (vi 2147483648)),(4,.const (vi (-2147483648))),(5,.const (vi 1099511627776)),(6,.const (vi 4611686018427387904)),(7,.const (vi (-4611686018427387904))),(8,.const (vi 9223372036854775807)),(9,.const (vi (-9223372036854775808)))]) (cells:=[vi (-1),vi 0,vi 1,vi 2147483648,vi (-2147483648),vi 1099511627776,vi 4611686018427387904,vi (-4611686018427387904),vi 9223372036854775807,vi (-9223372036854775808)]) (xs:=([(-1),0,1,2147483648,(-2147483648),1099511627776,4611686018427387904,(-4611686018427387904),9223372036854775807,(-9223372036854775808)]:List Int)) R R R R R R Y22 Tryzinfo2 R R R R R R R R R R ⟨[vi (-1)],[vi 0,vi 1,vi 2147483648,vi (-2147483648),vi 1099511627776,vi 4611686018427387904,vi (-4611686018427387904),vi 9223372036854775807,vi (-9223372036854775808)],Zl κ w [],Zl κ w [],R,Zl.sp (l1:=[]) (l2:=[]) R,Zl.sr (l1:=[]) (l2:=[]),R,⟨[vi 0],[vi 1,vi 2147483648,vi (-2147483648),vi 1099511627776,vi 4611686018427387904,vi (-4611686018427387904),vi 9223372036854775807,vi (-9223372036854775808)],Zl κ w [],Zl κ w [],R,Zl.sp (l1:=[]) (l2:=[]) R,Zl.sr (l1:=[]) (l2:=[]),R,⟨[vi 1],[vi 2147483648,vi (-2147483648),vi 1099511627776,vi 4611686018427387904,vi (-4611686018427387904),vi 9223372036854775807,vi (-9223372036854775808)],Zl κ w [],Zl κ w [],R,Zl.sp (l1:=[]) (l2:=[]) R,Zl.sr (l1:=[]) (l2:=[]),R,⟨[vi 2147483648],[vi (-2147483648),vi 1099511627776,vi 4611686018427387904,vi (-4611686018427387904),vi 9223372036854775807,vi (-9223372036854775808)],Zl κ w [],Zl κ w [],R,Zl.sp (l1:=[]) (l2:=[]) R,Zl.sr (l1:=[]) (l2:=[]),R,⟨[vi (-2147483648)],[vi 1099511627776,vi 4611686018427387904,vi (-4611686018427387904),vi 9223372036854775807,vi (-9223372036854775808)],Zl κ w [],Zl κ w [],R,Zl.sp (l1:=[]) (l2:=[]) R,Zl.sr (l1:=[]) (l2:=[]),R,⟨[vi 1099511627776],[vi 4611686018427387904,vi (-4611686018427387904),vi 9223372036854775807,vi (-9223372036854775808)],Zl κ w [],Zl κ w [],R,Zl.sp (l1:=[]) (l2:=[]) R,Zl.sr (l1:=[]) (l2:=[]),R,⟨[vi 4611686018427387904],[vi (-4611686018427387904),vi 9223372036854775807,vi (-9223372036854775808)],Zl κ w [],Zl κ w [],R,Zl.sp (l1:=[]) (l2:=[]) R,Zl.sr (l1:=[]) (l2:=[]),R,⟨[vi (-4611686018427387904)],[vi 9223372036854775807,vi (-9223372036854775808)],Zl κ w [],Zl κ w [],R,Zl.sp (l1:=[]) (l2:=[]) R,Zl.sr (l1:=[]) (l2:=[]),R,⟨[vi 9223372036854775807],[vi (-9223372036854775808)],Zl κ w [],Zl κ w [],R,Zl.sp (l1:=[]) (l2:=[]) R,Zl.sr (l1:=[]) (l2:=[]),R,⟨[vi (-9223372036854775808)],[],Zl κ w [],Zl κ w [],R,Zl.sp (l1:=[]) (l2:=[]) R,Zl.sr (l1:=[]) (l2:=[]),R,R⟩⟩⟩⟩⟩⟩⟩⟩⟩⟩ fun a3 u3 w1 K2 S3 f4=>⟨tv,?_⟩
 refine Jn 1 R (Ob h fun x5 hx5 h=>Jh R R R C69 (s_l1Below_ok (κ:=fun b=>mp [(2,2)] 0 (K2 b)) (p0:=p0) (Jl2 (g0_0.stp S3 R R) (mp [(2,2)] 0) R R) ((gb0.stp S3 R R).map (mp [(2,2)] 0) R R) hx5) ?_)
 rintro _ w7 ⟨k8,rfl,e9,f10⟩
 obtain⟨K11,S12,m13⟩:=Ji e9 4 R
 refine⟨tv,Ob h fun x6 hx6 h=>Jf R (Jf2 f4.rdc hx6 U22 Z2 R R R R) (Jl tv R R R R (Jc2 I2 R R (hvE ((f4.stp S12 R R).rdc.gInt hx6))) (Jb 1 R (Ju (Ja2 (l:=[.tmp 2]) V138 (Jp2 R R) R ?_))))⟩
 cases h
 exact⟨(fun b=>ren [(6,2)] (K11 b)),R,((hE.stp (S3.tr S12) R R).map (ren [(6,2)]) R R),((f10.mx m13 R (R:4+2=6)).map (ren [(6,2)]) R R)⟩
theorem s_l1From_ok {w:World}{κ:Col}{ab aa}{p0:l1Cur}{p1:Int}{p2:Int}{b0}(g0_0:Rd (Rp.int .u8) κ w 0 ab aa p0.b) (gb0:Bc κ w 2 b0 107 [.slice ab p0.b.length aa,vi p0.i,vi p0.h]){r:Int×Int×Int}(h:s_l1From p0 p1 p2=some r):Ret Tryz.prog 111 [.pointer (some ⟨b0,0,none⟩),vi p1,vi p2] w (fun v w'=>∃(κ':Col),v=vi r.1∧Ent κ w κ' w'∧Bc κ' w' 2 b0 107 [.slice ab p0.b.length aa,vi r.2.1,vi r.2.2]):=by
 unfold s_l1From at h
 refine Ret.enter F111 R N111 R ?_
 dsimp only[envOf]
 have hE:=Ent.refl κ w
 refine Je [2] R (Jb 1 R (Je [2,2,2,2,2,2,1,2,2] R (Jn 6 R (Ob h fun x13 hx13 h=>Jh R R R C69 (s_l1Below_ok (κ:=fun b=>mp [(2,2)] 0 (κ b)) (p0:=p0) (Jl2 g0_0 (mp [(2,2)] 0) R R) (gb0.map (mp [(2,2)] 0) R R) hx13) ?_))))
 rintro _ w1 ⟨k2,rfl,e3,f4⟩
 obtain⟨K5,S6,m7⟩:=Ji e3 3 R
 refine⟨tv,Jb 2 R (Ju (Ja2 (l:=[.tmp 6]) V111 (Jp2 R R) R ?_))⟩
 cases h
 exact⟨(fun b=>ren [(5,2)] (K5 b)),R,((hE.stp S6 R R).map (ren [(5,2)]) R R),((f4.mx m7 R (R:3+2=5)).map (ren [(5,2)]) R R)⟩
theorem slices_BinarySearch_I_int64_ok {w:World}{κ:Col}{a0 u0}{p0:(List Int)}{p1:Int}(g0:Rd (Rp.int .i64) κ w 0 a0 u0 p0){r:Int×Bool}(h:slices_BinarySearch_I_int64 p0 p1=some r):Ret Tryz.prog 121 [.slice a0 p0.length u0,vi p1] w (fun v w'=>∃(κ':Col),v= .tuple #[vi r.1,.bool r.2]∧Ent κ w κ' w'):=by
 unfold slices_BinarySearch_I_int64 at h
 refine Ret.enter F121 R N121 R ?_
 dsimp only[envOf]
 have hE:=Ent.refl κ w
 refine Je [2,2] R (Jb 2 R (Je [2,2,2] R (Jn 1 R (Jf R (Je2 U22 R R) (Jb 1 R (Je [2,2,2] R (Jb 3 R (Jq (Ob h fun q2 hq3 hK2=>?_)))))))))
 clear h
 refine Jx1 (fun L w'=>∃κ',∃s3:Int×Int,L=[(0,.slice a0 p0.length u0),(1,vi p1),(6,vi (p0.length:Int)),(7,vi s3.1)]∧Stp [] κ w κ' w'∧q2=Sum.inr s3) ?_ ?_
 refine Jv (Jy1 (fun k L w'=>∃κ',∃s1:Int×Int,L=[(0,.slice a0 p0.length u0),(1,vi p1),(6,vi (p0.length:Int)),(7,vi s1.1),(8,vi s1.2)]∧Stp [] κ w κ' w'∧whileM (slices_BinarySearch_I_int64_b0 p0 p1) k s1=some q2) ⟨_,_,⟨κ,((0:Int),((p0.length:Int):Int)),R,(Jx2 _ _).wk R,hq3⟩,(KM R)⟩ ?_)
 rintro k _ w7 ⟨K8,s1,rfl,S9,h⟩
 rcases k with _ | k
 cases h
 obtain⟨o1,h,hk10⟩:=BI h;unfold slices_BinarySearch_I_int64_b0 at h
 refine Jq (Je [2,2,2] R (Jb 3 R ?_))
 revert h
 cases ht11:decide (s1.1<s1.2)
 refine JF fun h=>Jy R (Jc1 (Jt (Jt ?_)))
 cases h
 have h:=hk10
 refine Jb1 ?_
 cases h
 exact Jw1 _ ⟨K8,((s1.1:Int),(s1.2:Int)),R,S9.wk R,R⟩ (KM R)
 refine JT fun h=>Jx R (Js (Jp (Jv (Je [2,2,2,2,2,2,2] R (Jn 3 R (Jf R (Jh2 U3 U143 R R) (Jf R (rn_shr R R R (by decide)) (Jf R (Jh2 U143 U3 R R) (Jb 1 R (Je [2,2,2,1,2,1] R (Jn 2 R (Ob h fun x24 hx24 h=>Jf R (Jf2 g0 hx24 U22 Z2 R R R R) (Jl tv R R R R (Jc2 I2 R R (hvE ((g0.stp S9 R R).gInt hx24))) (Jn 1 R (Ob h fun x27 hx27 h=>Jh R R R C145 (cmp_Less_int64_ok (κ:=fun b=>mp [] 0 (K8 b)) hx27) ?_)))))))))))))))
 rintro _ w13 ⟨k14,rfl,e15⟩
 obtain⟨K16,S17,m18⟩:=Ji e15 2 R
 refine⟨tv,Jd (Ob h fun q4 h hK20=>Jx1 (fun L w'=>∃κ',L=[(0,.slice a0 p0.length u0),(1,vi p1),(6,vi (p0.length:Int)),(7,vi q4.1),(8,vi q4.2)]∧Stp [] K16 w13 κ' w') ?_ ?_)⟩
 revert h
 cases ht24:x27
 refine JF fun h=>Jy R (Ja [2,2] R (Jc 2 R ?_))
 cases h
 exact Jw1 _ ⟨K16,R,(Jx2 _ _).wk R⟩ (KM R)
 refine JT fun h=>Jx R (Ja [2,2,2] R (Jc 3 R ?_))
 cases h
 exact Jw1 _ ⟨K16,R,(Jx2 _ _).wk R⟩ (KM R)
 rintro _ w21 ⟨K22,rfl,S23⟩
 have h:=hK20
 refine Jz ?_
 cases h
 exact Jz1 fun a ha=>⟨k,_,Ja3 _,⟨K22,((q4.1:Int),(q4.2:Int)),R,(S9.tr (S17.tr S23)).wk R,hk10⟩,(ha.mm R)⟩
 rintro _ w4 ⟨K5,s3,rfl,S6,rfl⟩
 have h:=hK2
 dsimp only[aft]at h
 refine Jp (Je [2,2,2,2,2,2,2,2,1,2,2,2,2,2,2,1,1,2,2,1,2,2,2,2,2] R (Jn 5 R (Ob h fun p53 h hK25=>Ju1 [(5,2),(6,2),(7,2),(8,1),(9,2),(10,2),(11,2),(12,2),(13,2),(14,2),(15,1),(16,1),(17,2),(18,2),(19,1),(20,2),(21,2),(22,2)] [(23,2),(24,2)] (fun L w'=>L=[(31,vi s3.1),(53,.bool p53)]∧∃κ',Stp [] K5 w4 κ' w') tv ?_ ?_)))
 revert h
 cases ht26:decide (s3.1<(p0.length:Int))
 refine JF fun h=>Jn 3 R (Jd1 R R R R (Jn 6 R (Jd1 R R R R (Jd1 R R R R (Jn 2 R (Jd1 R R R R (Jn 3 R ?_)))))))
 cases h
 exact Jv1 _ tv ⟨R,_,(Jx2 _ _).wk R⟩ (KM R)
 refine JT fun h=>Jn 2 R (Ob h fun x38 hx38 h=>Jf R (Jf2 g0 hx38 U22 Z2 R R R R) ?_)
 have f27:=g0.stp S6 R R
 refine Jl tv R R R R (Jc2 I2 R R (hvE (f27.gInt hx38))) (Jn 3 R (Ob h fun p52 h hK28=>Ju1 [(12,2),(13,2),(14,2),(15,1),(16,1),(17,2),(18,2),(19,1),(20,2),(21,2)] [(22,2)] (fun L w'=>L=[(31,vi s3.1),(35,.bool true),(52,.bool p52)]∧∃κ',Stp [] K5 w4 κ' w') tv ?_ ?_))
 revert h
 cases ht29:(x38==p1)
 refine JF fun h=>Jn 2 R (Ob h fun x45 hx45 h=>Jf R (Jf2 f27 hx45 U22 Z2 R R R R) (Jl tv R R R R (Jc2 I2 R R (hvE (f27.gInt hx45))) (Ob h fun x47 hx47 h=>Jh R R R C146 (slices_isNaN_int64_ok (κ:=fun b=>mp [] 0 (K5 b)) hx47) ?_)))
 rintro _ w30 ⟨k31,rfl,e32⟩
 obtain⟨K33,S34,m35⟩:=Ji e32 2 R
 refine⟨tv,Jn 1 R (Ob h fun p51 h hK37=>Ju1 [(18,2),(19,1),(20,2)] [(21,2)] (fun L w'=>L=[(31,vi s3.1),(35,.bool true),(42,.bool false),(51,.bool p51)]∧∃κ',Stp [] K33 w30 κ' w') tv ?_ ?_)⟩
 revert h
 cases ht38:x47
 refine JF fun h=>Jn 1 R (Jd1 R R R R (Jn 1 R ?_))
 cases h
 exact Jv1 _ tv ⟨R,_,(Jx2 _ _).wk R⟩ (KM R)
 refine JT fun h=>Jn 1 R (Ob h fun x50 hx50 h=>Jh R R R C146 (slices_isNaN_int64_ok (κ:=fun b=>mp [] 0 (K33 b)) hx50) ?_)
 rintro _ w39 ⟨k40,rfl,e41⟩
 obtain⟨K42,S43,m44⟩:=Ji e41 4 R
 refine⟨tv,Jn 1 R ?_⟩
 cases h
 exact Jv1 _ tv ⟨R,_,S43.wk R⟩ (KM R)
 rintro _ w46 _ ⟨rfl,K47,S48⟩
 have h:=hK37
 refine Jn 1 R ?_
 cases h
 exact Jv1 _ tv ⟨R,_,(S34.tr S48).wk R⟩ (KM R)
 refine JT fun h=>Jn 3 R (Jd1 R R R R (Jd1 R R R R (Jn 2 R (Jd1 R R R R (Jn 2 R ?_)))))
 cases h
 exact Jv1 _ tv ⟨R,_,(Jx2 _ _).wk R⟩ (KM R)
 rintro _ w49 _ ⟨rfl,K50,S51⟩
 have h:=hK28
 refine Jn 1 R ?_
 cases h
 exact Jv1 _ tv ⟨R,_,S51.wk R⟩ (KM R)
 rintro _ w52 _ ⟨rfl,K53,S54⟩
 have h:=hK25
 refine Jb 2 R (Ju (Ja2 (l:=[.tmp 4,.tmp 5]) V121 (Jp2 R (Jp2 R R)) R ?_))
 cases h
 exact⟨K53,R,(hE.stp (S6.tr S54) R R)⟩
theorem s_l7Attract_ok {w:World}{κ:Col}{aE ax ay an az aD al aB aq aA}{p0:l7Game}{a1 u1}{p1:(List Bool)}{p2:Int}{a3 u3}{p3:(List Bool)}(g0_0:Rd (Rp.int .i64) κ w 0 aE ax p0.owner) (g0_1:Rd (Rp.int .i64) κ w 0 ay an p0.prio) (g0_2:Rd (Rp.sl (Rp.int .i64)) κ w 0 az aD p0.next) (g0_3:Rd (Rp.sl (Rp.int .i64)) κ w 0 al aB p0.prev) (g0_4:Rd (Rp.int .i64) κ w 0 aq aA p0.pick) (g1:Rd Rp.bool κ w 0 a1 u1 p1) (g3:Rd Rp.bool κ w 0 a3 u3 p3){r:(List Bool)}(h:s_l7Attract p0 p1 p2 p3=some r):Ret Tryz.prog 151 [.agg #[.slice aE p0.owner.length ax,.slice ay p0.prio.length an,.slice az p0.next.length aD,.slice al p0.prev.length aB,.slice aq p0.pick.length aA],.slice a1 p1.length u1,vi p2,.slice a3 p3.length u3] w (fun v w'=>∃(κ':Col) (ra0:Option Addr) (ru0:Nat),v= .slice ra0 r.length ru0∧Ent κ w κ' w'∧Oc Ep.bool 4 κ' w' 2 ra0 ru0 r):=by
 unfold s_l7Attract at h
 refine Ret.enter F151 R N151 R ?_
 dsimp only[envOf]
 have hE:=Ent.refl κ w
 refine Je [1,2] R (Jf1 (κ:=κ) 2 R R R R R R R fun b4 w1 K2 S3 f4=>⟨tv,Jb 1 R (Je [2,2,1,2] R (Jn 1 R (Jf R (Je2 U70 R R) (Ob h fun x19 hx19 h=>Jl1 (κ:=K2) (E:=Ep.bool) (z:=(false:Bool)) 3 R R R R R R R Y70 Tryzinfo4 R R R R R (fun _ _ _=>R) (Ju2 hx19) fun ab aa w5 K6 S7 f8=>⟨tv,Jb 1 R (Je [2,2,1,2] R (Jn 1 R (Jf R (Je2 U70 R R) (Ob h fun x22 hx22 h=>Jl1 (κ:=K6) (E:=E6) (z:=(0:Int)) 4 R R R R R R R Y22 Tryzinfo2 R R R R R (fun _ _ _=>R) (Ju2 hx22) fun ad ac w9 K10 S11 f12=>⟨tv,Jb 1 R (Je [1,2] R (Jo1 (κ:=K10) (E:=E6) 5 R R R R R Y22 Tryzinfo2 R fun aH aK w13 K14 S15 f16=>⟨tv,Jb 1 R (Jq (Je [2] R (Jb 1 R ?_)))⟩))⟩))))⟩))))⟩)
 have hN17:(p1.length:Int)≤9223372036854775807:=g1.len_le
 refine Ob h fun q2 hq19 hK18=>?_
 clear h
 refine Jx1 (fun L w'=>∃κ',∃s3:(List Int)×(List Bool)×(List Int),∃aC am,L=[(1,.slice a1 p1.length u1),(2,vi p2),(4,.pointer (some ⟨b4,0,none⟩)),(9,.slice ab x19.length aa),(10,.slice ad x22.length ac),(11,.slice aC s3.1.length am)]∧Stp [3,4,5] K14 w13 κ' w'∧Oc E6 2 κ' w' 5 aC am s3.1∧Oc Ep.bool 4 κ' w' 3 ab aa s3.2.1∧x19.length=s3.2.1.length∧Oc E6 2 κ' w' 4 ad ac s3.2.2∧x22.length=s3.2.2.length∧q2=Sum.inr s3) ?_ ?_
 refine Jv (Jy1 (fun k L w'=>∃κ' v12,∃s1:(List Int)×(List Bool)×(List Int),∃ai ah,L=[(1,.slice a1 p1.length u1),(2,vi p2),(3,.slice a3 p3.length u3),(4,.pointer (some ⟨b4,0,none⟩)),(9,.slice ab x19.length aa),(10,.slice ad x22.length ac),(11,.slice ai s1.1.length ah),(12,vi v12)]∧Stp [3,4,5] K14 w13 κ' w'∧Oc E6 2 κ' w' 5 ai ah s1.1∧Oc Ep.bool 4 κ' w' 3 ab aa s1.2.1∧x19.length=s1.2.1.length∧Oc E6 2 κ' w' 4 ad ac s1.2.2∧x22.length=s1.2.2.length∧0≤v12∧Int.toNat ((p1.length:Int)-v12)=k∧cntM (s_l7Attract_b0 p0 p1 p3) k v12 s1=some q2) ⟨_,_,⟨K14,0,((([]:List Int):(List Int)),(x19:(List Bool)),(x22:(List Int))),aH,aK,R,(Jx2 _ _).wk R,f16,(f8.stp (S11.tr S15) R R),R,(f12.stp S15 R R),R,(by decide),(by simp),hq19⟩,(KM R)⟩ ?_)
 rintro k _ w28 ⟨K29,v12,s1,ai,ah,rfl,S30,f31,f32,hn33,f34,hn35,hj17,hJ17,h⟩
 rcases k with _ | k
 have hk38:=h;obtain⟨o17,h⟩:=ex_eq (Sum.inr (Sum.inl s1):(List Bool)⊕(((List Int)×(List Bool)×(List Int))⊕((List Int)×(List Bool)×(List Int))))
 have hc17:decide (v12<(p1.length:Int))=false:=Jo2 (by omega)
 refine Jq (Je [2,2,2,2] R (Jn 2 R (Jf R (Je2 U70 R R) (Jb 1 R (Jw2 R hc17 (Jc1 (Jt (Jt ?_))))))))
 cases h
 have h:=hk38
 refine Jb1 ?_
 cases h
 exact Jw1 _ ⟨K29,((s1.1:(List Int)),(s1.2.1:(List Bool)),(s1.2.2:(List Int))),ai,ah,R,S30.wk R,f31,f32,hn33,f34,hn35,R⟩ (KM R)
 obtain⟨o17,h,hk38⟩:=BI h;unfold s_l7Attract_b0 at h
 have hc17:decide (v12<(p1.length:Int))=true:=Jn2 (by omega)
 refine Jq (Je [2,2,2,2] R (Jn 2 R (Jf R (Je2 U70 R R) (Jb 1 R (Jv2 R hc17 (Js (Jp (Jq (Jv (Jq (Je [2,2,2,1] R (Jn 2 R (Ob h fun x32 hx32 h=>Jf R (Jf2 g1 hx32 U70 Z4 R R R R) ?_)))))))))))))
 have f39:=g1.stp (S3.tr (S7.tr (S11.tr (S15.tr S30)))) R R
 refine Jl tv R R R R (Jc2 I4 R R (hvE (f39.gBool hx32))) (Jd (Ob h fun q4 h hK40=>Jx1 (fun L w'=>∃κ',L=[(1,.slice a1 p1.length u1),(2,vi p2),(3,.slice a3 p3.length u3),(4,.pointer (some ⟨b4,0,none⟩)),(9,.slice ab x19.length aa),(10,.slice ad x22.length ac),(11,.slice ai s1.1.length ah),(12,vi v12)]∧Stp [4] K29 w28 κ' w'∧Oc E6 2 κ' w' 4 ad ac q4∧x22.length=q4.length) ?_ ?_))
 revert h
 cases ht46:x32
 refine JF fun h=>Jy R (Js ?_)
 cases h
 exact Jw1 _ ⟨K29,R,(Jx2 _ _).wk R,f34,hn35⟩ (KM R)
 have S001:=(S3.tr (S7.tr (S11.tr (S15.tr S30))))
 refine JT fun h=>Jx R (Ja [2,2,1,2,2,1,2,1] R (Jn 2 R (Jl tv R R R R (Jd2 (cs:=[.slice aE p0.owner.length ax,.slice ay p0.prio.length an,.slice az p0.next.length aD,.slice al p0.prev.length aB,.slice aq p0.pick.length aA]) I111 Z111 R R R (haE (f4.stp (S7.tr (S11.tr (S15.tr S30))) R R).cells)) (Jn 2 R (Ob h fun x39 hx39 h=>Jh R R R C172 (s_l7Degree_ok (κ:=fun b=>mp [] 0 (K29 b)) (p0:=p0) (Jl2 (g0_0.stp S001 R R) (mp [] 0) R R) (Jl2 (g0_1.stp S001 R R) (mp [] 0) R R) (Jl2 (g0_2.stp S001 R R) (mp [] 0) R R) (Jl2 (g0_3.stp S001 R R) (mp [] 0) R R) (Jl2 (g0_4.stp S001 R R) (mp [] 0) R R) (Jl2 f39 (mp [] 0) R R) hx39) ?_)))))
 rintro _ w53 ⟨k54,rfl,e55⟩
 obtain⟨K56,S57,m58⟩:=Ji e55 6 R
 refine⟨tv,Ob h fun x40 hx40 h=>Jf R (Jf2 f34.rdc hx40 U22 Z2 R R hn35 R) (Ob h fun y197 hy197 h=>Jk1 (κ:=K56) (E:=E6) 4 [] R R R R R R R R Z2 R R R R (f34.stp S57 R R) hy197 fun w61 K62 S63 f64=>⟨tv,?_⟩)⟩
 have hn65:x22.length=y197.length:=hn35.trans (Jt2 hy197).2.2.2.symm
 refine Jo ?_
 cases h
 exact Jw1 _ ⟨K62,R,(S57.tr S63).wk R,f64,hn65⟩ (KM R)
 rintro _ w41 ⟨K42,rfl,S43,f44,hn45⟩
 have h:=hK40
 refine Jp (Je [2,2,2,1,2,2,2,2,1,2] R (Jn 2 R (Ob h fun x43 hx43 h=>Jf R (Jf2 f39 hx43 U70 Z4 R R R R) (Jl tv R R R R (Jc2 I4 R R (hvE ((f39.stp S43 R R).gBool hx43))) (Jn 1 R (Ob h fun p50 h hK67=>Ju1 [(5,2),(6,2),(7,2),(8,1),(9,2)] [] (fun L w'=>L=[(1,.slice a1 p1.length u1),(2,vi p2),(3,.slice a3 p3.length u3),(4,.pointer (some ⟨b4,0,none⟩)),(9,.slice ab x19.length aa),(10,.slice ad x22.length ac),(11,.slice ai s1.1.length ah),(12,vi v12),(50,.bool p50)]∧∃κ',Stp [] K42 w41 κ' w') tv ?_ ?_))))))
 revert h
 cases ht68:x43
 refine JF fun h=>Jn 3 R (Jd1 R R R R (Jn 1 R ?_))
 cases h
 exact Jv1 _ tv ⟨R,_,(Jx2 _ _).wk R⟩ (KM R)
 refine JT fun h=>Jn 2 R (Ob h fun x48 hx48 h=>Jf R (Jf2 g3 hx48 U70 Z4 R R R R) (Jl tv R R R R (Jc2 I4 R R (hvE ((g3.stp (S3.tr (S7.tr (S11.tr (S15.tr (S30.tr S43))))) R R).gBool hx48))) (Jn 1 R ?_)))
 cases h
 exact Jv1 _ tv ⟨R,_,(Jx2 _ _).wk R⟩ (KM R)
 rintro _ w70 _ ⟨rfl,K71,S72⟩
 have h:=hK67
 refine Jd (Ob h fun q5 h hK73=>Jx1 (fun L w'=>∃κ' au ap,L=[(1,.slice a1 p1.length u1),(2,vi p2),(3,.slice a3 p3.length u3),(4,.pointer (some ⟨b4,0,none⟩)),(9,.slice ab x19.length aa),(10,.slice ad x22.length ac),(11,.slice au q5.1.length ap),(12,vi v12)]∧Stp [3,5] K71 w70 κ' w'∧Oc E6 2 κ' w' 5 au ap q5.1∧Oc Ep.bool 4 κ' w' 3 ab aa q5.2∧x19.length=q5.2.length) ?_ ?_)
 revert h
 cases ht80:p50
 refine JF fun h=>Jy R (Js ?_)
 cases h
 exact Jw1 _ ⟨K71,ai,ah,R,(Jx2 _ _).wk R,(f31.stp (S43.tr S72) R R),(f32.stp (S43.tr S72) R R),hn33⟩ (KM R)
 refine JT fun h=>Jx R (Je [2,2,2,1] R (Jn 2 R (Ob h fun x53 hx53 h=>Jf R (Jf2 f32.rdc hx53 U70 Z4 R R hn33 R) (Ob h fun y198 hy198 h=>Jk1 (κ:=K71) (E:=Ep.bool) 3 [] R R R R R R R R Z4 R R R R (f32.stp (S43.tr S72) R R) hy198 fun w82 K83 S84 f85=>⟨tv,?_⟩))))
 have hn86:x19.length=y198.length:=hn33.trans (Jt2 hy198).2.2.2.symm
 refine Jd (Ja [2,2,1,1,2] R (Jn 2 R (Jn1 (κ:=K83) (E:=E6) 6 [] (parts:=[(0,.tmp 55)]) (cells:=[vi v12]) (xs:=([v12]:List Int)) R R R R R R Y22 Tryzinfo2 R R R R R R R R R R ⟨[vi v12],[],Zl K83 w82 [],Zl K83 w82 [],R,Zl.sp (l1:=[]) (l2:=[]) R,Zl.sr (l1:=[]) (l2:=[]),R,R⟩ fun aP aN w87 K88 S89 f90=>⟨tv,Ob h fun x57 hx57 h=>Jm1 (κ:=K88) (E:=E6) 5 [] R R R R R R R R R Y22 Tryzinfo2 R R R R (f31.stp (S43.tr (S72.tr (S84.tr S89))) R R) (Sl.srcP (pu_int _) f90.rdc) sy_false hx57 R fun aL aI w92 K93 S94 f95=>⟨tv,Jc 1 R ?_⟩⟩)))
 cases h
 exact Jw1 _ ⟨K93,aL,aI,R,(S84.tr (S89.tr S94)).wk R,f95,(f85.stp (S89.tr S94) R R),hn86⟩ (KM R)
 rintro _ w74 ⟨K75,au,ap,rfl,S76,f77,f78,hn79⟩
 have h:=hK73
 refine Jz (Jp (Ja [2,2,2] R (Jc 3 R ?_)))
 have hw17:IntKind.wrap .i64 (v12+1)=v12+1:=wr1 hj17 (Jm2 hc17) hN17
 rw[hw17]
 have hc17:=Jm2 hc17
 cases h
 exact Jz1 fun a ha=>⟨k,_,Ja3 _,⟨K75,v12+1,((q5.1:(List Int)),(q5.2:(List Bool)),(q4:(List Int))),au,ap,R,(S30.tr (S43.tr (S72.tr S76))).wk R,f77,f78,hn79,(f44.stp (S72.tr S76) R R),hn45,by omega,by omega,hk38⟩,(ha.mm R)⟩
 rintro _ w20 ⟨K21,s3,aC,am,rfl,S22,f23,f24,hn25,f26,hn27,rfl⟩
 have h:=hK18
 dsimp only[aft]at h
 refine Jp (Jq (Je [2] R (Jb 1 R (Ob h fun q7 hq102 hK101=>?_))))
 clear h
 refine Jx1 (fun L w'=>∃κ',∃s8:(List Int)×Int×(List Bool)×(List Int),∃aF aG,L=[(9,.slice ab x19.length aa)]∧Stp [3,4,5] K21 w20 κ' w'∧Oc E6 2 κ' w' 5 aF aG s8.1∧Oc Ep.bool 4 κ' w' 3 ab aa s8.2.2.1∧x19.length=s8.2.2.1.length∧Oc E6 2 κ' w' 4 ad ac s8.2.2.2∧x22.length=s8.2.2.2.length∧q7=Sum.inr s8) ?_ ?_
 refine Jv (Jy1 (fun k L w'=>∃κ',∃s6:(List Int)×Int×(List Bool)×(List Int),∃aj ak,L=[(1,.slice a1 p1.length u1),(2,vi p2),(4,.pointer (some ⟨b4,0,none⟩)),(9,.slice ab x19.length aa),(10,.slice ad x22.length ac),(11,.slice aj s6.1.length ak),(13,vi s6.2.1)]∧Stp [3,4,5] K21 w20 κ' w'∧Oc E6 2 κ' w' 5 aj ak s6.1∧Oc Ep.bool 4 κ' w' 3 ab aa s6.2.2.1∧x19.length=s6.2.2.1.length∧Oc E6 2 κ' w' 4 ad ac s6.2.2.2∧x22.length=s6.2.2.2.length∧whileM (s_l7Attract_b2 p0 p1 p2) k s6=some q7) ⟨_,_,⟨K21,((s3.1:(List Int)),(0:Int),(s3.2.1:(List Bool)),(s3.2.2:(List Int))),aC,am,R,(Jx2 _ _).wk R,f23,f24,hn25,f26,hn27,hq102⟩,(KM R)⟩ ?_)
 rintro k _ w111 ⟨K112,s6,aj,ak,rfl,S113,f114,f115,hn116,f117,hn118,h⟩
 rcases k with _ | k
 cases h
 obtain⟨o100,h,hk119⟩:=BI h;unfold s_l7Attract_b2 at h
 refine Jq (Je [2,2,2,2] R (Jn 2 R (Jf R (Je2 U22 R R) (Jb 1 R ?_))))
 revert h
 cases ht120:decide (s6.2.1<(s6.1.length:Int))
 refine JF fun h=>Jy R (Jc1 (Jt (Jt ?_)))
 cases h
 have h:=hk119
 refine Jb1 ?_
 cases h
 exact Jw1 _ ⟨K112,((s6.1:(List Int)),(s6.2.1:Int),(s6.2.2.1:(List Bool)),(s6.2.2.2:(List Int))),aj,ak,R,S113.wk R,f114,f115,hn116,f117,hn118,R⟩ (KM R)
 refine JT fun h=>Jx R (Js (Jp (Jq (Jv (Je [2,2,2,1,2] R (Jn 2 R (Ob h fun x66 hx66 h=>Jf R (Jf2 f114.rdc hx66 U22 Z2 R R R R) (Jl tv R R R R (Jc2 I2 R R (hvE (f114.rdc.gInt hx66))) (Jb 1 R (Je [2] R (Jb 1 R (Ob h fun q10 hq123 hK122=>?_))))))))))))
 clear h
 refine Jx1 (fun L w'=>∃κ',∃s11:(List Int)×Int×(List Bool)×(List Int),∃ao ar,L=[(1,.slice a1 p1.length u1),(2,vi p2),(4,.pointer (some ⟨b4,0,none⟩)),(9,.slice ab x19.length aa),(10,.slice ad x22.length ac),(11,.slice ao s11.1.length ar),(13,vi s6.2.1)]∧Stp [3,4,5] K112 w111 κ' w'∧Oc E6 2 κ' w' 5 ao ar s11.1∧Oc Ep.bool 4 κ' w' 3 ab aa s11.2.2.1∧x19.length=s11.2.2.1.length∧Oc E6 2 κ' w' 4 ad ac s11.2.2.2∧x22.length=s11.2.2.2.length∧q10=Sum.inr s11) ?_ ?_
 refine Jv (Jy1 (fun k L w'=>∃κ',∃s9:(List Int)×Int×(List Bool)×(List Int),∃af ae,L=[(1,.slice a1 p1.length u1),(2,vi p2),(4,.pointer (some ⟨b4,0,none⟩)),(9,.slice ab x19.length aa),(10,.slice ad x22.length ac),(11,.slice af s9.1.length ae),(13,vi s6.2.1),(14,vi x66),(15,vi s9.2.1)]∧Stp [3,4,5] K112 w111 κ' w'∧Oc E6 2 κ' w' 5 af ae s9.1∧Oc Ep.bool 4 κ' w' 3 ab aa s9.2.2.1∧x19.length=s9.2.2.1.length∧Oc E6 2 κ' w' 4 ad ac s9.2.2.2∧x22.length=s9.2.2.2.length∧whileM (s_l7Attract_b4 p0 p1 p2 x66) k s9=some q10) ⟨_,_,⟨K112,((s6.1:(List Int)),(0:Int),(s6.2.2.1:(List Bool)),(s6.2.2.2:(List Int))),aj,ak,R,(Jx2 _ _).wk R,f114,f115,hn116,f117,hn118,hq123⟩,(KM R)⟩ ?_)
 rintro k _ w132 ⟨K133,s9,af,ae,rfl,S134,f135,f136,hn137,f138,hn139,h⟩
 rcases k with _ | k
 cases h
 obtain⟨o121,h,hk140⟩:=BI h;unfold s_l7Attract_b4 at h
 refine Jq (Je [2,2,1,2,2,1,2,2] R (Jn 1 R (Jf R (Jb2 U111 R Z23 R R) ?_)))
 have f141:=f4.stp (S7.tr (S11.tr (S15.tr (S22.tr (S113.tr S134))))) R R
 refine Jl tv R R R R (Jc2 I23 R R (hvE (f141.ld 3 R R))) (Jn 1 R (Ob h fun x72 hx72 h=>Jf R (Jf2 g0_3 hx72 U23 Z22 R R R R) ?_))
 have f142:=g0_3.stp (S3.tr (S7.tr (S11.tr (S15.tr (S22.tr (S113.tr S134)))))) R R
 obtain⟨ax72,ux72,f143,hl144⟩:=f142.gSl hx72
 refine Jl tv R R R R (Jc2 I22 R R (hvE hl144)) (Jf R (Je2 U22 R R) (Jb 1 R ?_))
 revert h
 cases ht145:decide (s9.2.1<(x72.length:Int))
 refine JF fun h=>Jy R (Jc1 (Jt (Jt ?_)))
 cases h
 have h:=hk140
 refine Jb1 ?_
 cases h
 exact Jw1 _ ⟨K133,((s9.1:(List Int)),(s9.2.1:Int),(s9.2.2.1:(List Bool)),(s9.2.2.2:(List Int))),af,ae,R,S134.wk R,f135,f136,hn137,f138,hn139,R⟩ (KM R)
 refine JT fun h=>Jx R (Js (Jp (Jq (Jv (Je [2,1,2,2,1,2,2,1,2] R (Jf R (Jb2 U111 R Z23 R R) (Jl tv R R R R (Jc2 I23 R R (hvE (f141.ld 3 R R))) (Jn 1 R (Ob h fun x81 hx81 h=>Jf R (Jf2 f142 hx81 U23 Z22 R R R R) ?_)))))))))
 obtain⟨ax81,ux81,f146,hl147⟩:=f142.gSl hx81
 refine Jl tv R R R R (Jc2 I22 R R (hvE hl147)) (Jn 1 R (Ob h fun x84 hx84 h=>Jf R (Jf2 f146 hx84 U22 Z2 R R R R) (Jl tv R R R R (Jc2 I2 R R (hvE (f146.gInt hx84))) (Jb 1 R (Jq (Je [2,2,2,1,2,2,2,2,2,1,2,2,1,2,2,1,2,2] R (Jn 2 R (Ob h fun x88 hx88 h=>Jf R (Jf2 g1 hx88 U70 Z4 R R R R) (Jl tv R R R R (Jc2 I4 R R (hvE ((g1.stp (S3.tr (S7.tr (S11.tr (S15.tr (S22.tr (S113.tr S134)))))) R R).gBool hx88))) (Jn 2 R (Ob h fun p96 h hK149=>Ju1 [(6,2),(7,2),(8,2),(9,1),(10,2)] [(11,2),(12,1),(13,2),(14,2),(15,1),(16,2),(17,2)] (fun L w'=>L=[(1,.slice a1 p1.length u1),(2,vi p2),(4,.pointer (some ⟨b4,0,none⟩)),(9,.slice ab x19.length aa),(10,.slice ad x22.length ac),(11,.slice af s9.1.length ae),(13,vi s6.2.1),(14,vi x66),(15,vi s9.2.1),(16,vi x84),(96,.bool p96)]∧∃κ',Stp [] K133 w132 κ' w') tv ?_ ?_)))))))))))
 revert h
 cases ht150:(!x88)
 refine JF fun h=>Jn 2 R (Ob h fun x94 hx94 h=>Jf R (Jf2 f136.rdc hx94 U70 Z4 R R hn137 R) (Jl tv R R R R (Jc2 I4 R R (hvE (f136.rdc.gBool hx94))) (Jn 1 R ?_)))
 cases h
 exact Jv1 _ tv ⟨R,_,(Jx2 _ _).wk R⟩ (KM R)
 refine JT fun h=>Jn 3 R (Jd1 R R R R (Jn 1 R ?_))
 cases h
 exact Jv1 _ tv ⟨R,_,(Jx2 _ _).wk R⟩ (KM R)
 rintro _ w151 _ ⟨rfl,K152,S153⟩
 have h:=hK149
 refine Jn 1 R (Ob h fun p103 h hK154=>Ju1 [(12,1),(13,2),(14,2),(15,1),(16,2),(17,2)] [] (fun L w'=>L=[(1,.slice a1 p1.length u1),(2,vi p2),(4,.pointer (some ⟨b4,0,none⟩)),(9,.slice ab x19.length aa),(10,.slice ad x22.length ac),(11,.slice af s9.1.length ae),(13,vi s6.2.1),(14,vi x66),(15,vi s9.2.1),(16,vi x84),(103,.bool p103)]∧∃κ',Stp [] K152 w151 κ' w') tv ?_ ?_)
 revert h
 cases ht155:p96
 have S002:=(S3.tr (S7.tr (S11.tr (S15.tr (S22.tr (S113.tr (S134.tr S153)))))))
 refine JF fun h=>Jl tv R R R R (Jd2 (cs:=[.slice aE p0.owner.length ax,.slice ay p0.prio.length an,.slice az p0.next.length aD,.slice al p0.prev.length aB,.slice aq p0.pick.length aA]) I111 Z111 R R R (haE (f141.stp S153 R R).cells)) (Jn 2 R (Ob h fun x101 hx101 h=>Jh R R R C173 (s_l7Edge_ok (κ:=fun b=>mp [] 0 (K152 b)) (p0:=p0) (Jl2 (g0_0.stp S002 R R) (mp [] 0) R R) (Jl2 (g0_1.stp S002 R R) (mp [] 0) R R) (Jl2 (g0_2.stp S002 R R) (mp [] 0) R R) (Jl2 (f142.stp S153 R R) (mp [] 0) R R) (Jl2 (g0_4.stp S002 R R) (mp [] 0) R R) hx101) ?_))
 rintro _ w162 ⟨k163,rfl,e164⟩
 obtain⟨K165,S166,m167⟩:=Ji e164 6 R
 refine⟨tv,Jn 2 R ?_⟩
 cases h
 exact Jv1 _ tv ⟨R,_,S166.wk R⟩ (KM R)
 refine JT fun h=>Jd1 R R R R (Jn 2 R (Jd1 R R R R (Jn 2 R ?_)))
 cases h
 exact Jv1 _ tv ⟨R,_,(Jx2 _ _).wk R⟩ (KM R)
 rintro _ w169 _ ⟨rfl,K170,S171⟩
 have h:=hK154
 refine Jd ?_
 revert h
 cases ht172:p103
 refine JF fun h=>Jy R (Js (Jp (Je [2,2,2,1,2,2,1] R (Jn 2 R (Ob h fun x106 hx106 h=>Jf R (Jf2 f138.rdc hx106 U22 Z2 R R hn139 R) ?_)))))
 have f176:=f138.stp (S153.tr S171) R R
 refine Jl tv R R R R (Jc2 I2 R R (hvE (f176.rdc.gInt hx106))) (Jn 1 R (Ob h fun x109 hx109 h=>Jf R (Jf2 f176.rdc hx109 U22 Z2 R R hn139 R) (Ob h fun y201 hy201 h=>Jk1 (κ:=K170) (E:=E6) 4 [] R R R R R R R R Z2 R R R R f176 hy201 fun w177 K178 S179 f180=>⟨tv,?_⟩)))
 have hn181:x22.length=y201.length:=hn139.trans (Jt2 hy201).2.2.2.symm
 refine Jd (Je [2,1,2,2,1,2,2,2,2,2,2,1,2,2] R (Jf R (Jb2 U111 R Z22 R R) (Jl tv R R R R (Jc2 I22 R R (hvE ((f141.stp (S153.tr (S171.tr S179)) R R).ld 0 R R))) (Jn 1 R (Ob h fun x113 hx113 h=>Jf R (Jf2 g0_0 hx113 U22 Z2 R R R R) (Jl tv R R R R (Jc2 I2 R R (hvE ((g0_0.stp (S3.tr (S7.tr (S11.tr (S15.tr (S22.tr (S113.tr (S134.tr (S153.tr (S171.tr S179))))))))) R R).gInt hx113))) (Jn 3 R (Ob h fun p123 h hK184=>Ju1 [(8,2),(9,2),(10,2),(11,1),(12,2),(13,2)] [] (fun L w'=>L=[(1,.slice a1 p1.length u1),(2,vi p2),(4,.pointer (some ⟨b4,0,none⟩)),(9,.slice ab x19.length aa),(10,.slice ad x22.length ac),(11,.slice af s9.1.length ae),(13,vi s6.2.1),(14,vi x66),(15,vi s9.2.1),(16,vi x84),(123,.bool p123)]∧∃κ',Stp [] K178 w177 κ' w') tv ?_ ?_))))))))
 revert h
 cases ht185:(x113==p2)
 refine JF fun h=>Jn 2 R (Ob h fun x120 hx120 h=>Jf R (Jf2 f180.rdc hx120 U22 Z2 R R hn181 R) (Jl tv R R R R (Jc2 I2 R R (hvE (f180.rdc.gInt hx120))) (Jn 2 R ?_)))
 cases h
 exact Jv1 _ tv ⟨R,_,(Jx2 _ _).wk R⟩ (KM R)
 refine JT fun h=>Jn 3 R (Jd1 R R R R (Jn 2 R ?_))
 cases h
 exact Jv1 _ tv ⟨R,_,(Jx2 _ _).wk R⟩ (KM R)
 rintro _ w186 _ ⟨rfl,K187,S188⟩
 have h:=hK184
 refine Jd (Ob h fun q12 h hK189=>Jx1 (fun L w'=>∃κ' aw av,L=[(1,.slice a1 p1.length u1),(2,vi p2),(4,.pointer (some ⟨b4,0,none⟩)),(9,.slice ab x19.length aa),(10,.slice ad x22.length ac),(11,.slice aw q12.1.length av),(13,vi s6.2.1),(14,vi x66),(15,vi s9.2.1)]∧Stp [3,5] K187 w186 κ' w'∧Oc E6 2 κ' w' 5 aw av q12.1∧Oc Ep.bool 4 κ' w' 3 ab aa q12.2∧x19.length=q12.2.length) ?_ ?_)
 revert h
 cases ht196:p123
 refine JF fun h=>Jy R (Js ?_)
 cases h
 have S003:=(S153.tr (S171.tr (S179.tr S188)))
 exact Jw1 _ ⟨K187,af,ae,R,(Jx2 _ _).wk R,(f135.stp S003 R R),(f136.stp S003 R R),hn137⟩ (KM R)
 refine JT fun h=>Jx R (Je [2,2,2,1] R (Jn 2 R (Ob h fun x126 hx126 h=>Jf R (Jf2 f136.rdc hx126 U70 Z4 R R hn137 R) (Ob h fun y202 hy202 h=>Jk1 (κ:=K187) (E:=Ep.bool) 3 [] R R R R R R R R Z4 R R R R (f136.stp (S153.tr (S171.tr (S179.tr S188))) R R) hy202 fun w198 K199 S200 f201=>⟨tv,?_⟩))))
 have hn202:x19.length=y202.length:=hn137.trans (Jt2 hy202).2.2.2.symm
 refine Jd (Ja [2,2,1,1,2] R (Jn 2 R (Jn1 (κ:=K199) (E:=E6) 6 [] (parts:=[(0,.tmp 128)]) (cells:=[vi x84]) (xs:=([x84]:List Int)) R R R R R R Y22 Tryzinfo2 R R R R R R R R R R ⟨[vi x84],[],Zl K199 w198 [],Zl K199 w198 [],R,Zl.sp (l1:=[]) (l2:=[]) R,Zl.sr (l1:=[]) (l2:=[]),R,R⟩ fun aO aQ w203 K204 S205 f206=>⟨tv,Ob h fun x130 hx130 h=>Jm1 (κ:=K204) (E:=E6) 5 [] R R R R R R R R R Y22 Tryzinfo2 R R R R (f135.stp (S153.tr (S171.tr (S179.tr (S188.tr (S200.tr S205))))) R R) (Sl.srcP (pu_int _) f206.rdc) sy_false hx130 R fun aM aJ w208 K209 S210 f211=>⟨tv,Jc 1 R ?_⟩⟩)))
 cases h
 exact Jw1 _ ⟨K209,aM,aJ,R,(S200.tr (S205.tr S210)).wk R,f211,(f201.stp (S205.tr S210) R R),hn202⟩ (KM R)
 rintro _ w190 ⟨K191,aw,av,rfl,S192,f193,f194,hn195⟩
 have h:=hK189
 refine Jz (Jp (Ja [2,2,2] R (Jc 3 R ?_)))
 cases h
 exact Jz1 fun a ha=>⟨k,_,Ja3 _,⟨K191,((q12.1:(List Int)),((IntKind.i64.wrap (s9.2.1+1)):Int),(q12.2:(List Bool)),(y201:(List Int))),aw,av,R,(S134.tr (S153.tr (S171.tr (S179.tr (S188.tr S192))))).wk R,f193,f194,hn195,(f180.stp (S188.tr S192) R R),hn181,hk140⟩,(ha.mm R)⟩
 refine JT fun h=>Jx R (Jc1 (Jt (Jb1 (Jp (Ja [2,2,2] R (Jc 3 R ?_))))))
 cases h
 have S004:=(S153.tr S171)
 exact Jz1 fun a ha=>⟨k,_,Ja3 _,⟨K170,((s9.1:(List Int)),((IntKind.i64.wrap (s9.2.1+1)):Int),(s9.2.2.1:(List Bool)),(s9.2.2.2:(List Int))),af,ae,R,(S134.tr (S153.tr S171)).wk R,(f135.stp S004 R R),(f136.stp S004 R R),hn137,(f138.stp S004 R R),hn139,hk140⟩,(ha.mm R)⟩
 rintro _ w124 ⟨K125,s11,ao,ar,rfl,S126,f127,f128,hn129,f130,hn131,rfl⟩
 have h:=hK122
 dsimp only[aft]at h
 refine Jz (Jp (Ja [2,2,2] R (Jc 3 R ?_)))
 cases h
 exact Jz1 fun a ha=>⟨k,_,Ja3 _,⟨K125,((s11.1:(List Int)),((IntKind.i64.wrap (s6.2.1+1)):Int),(s11.2.2.1:(List Bool)),(s11.2.2.2:(List Int))),ao,ar,R,(S113.tr S126).wk R,f127,f128,hn129,f130,hn131,hk119⟩,(ha.mm R)⟩
 rintro _ w103 ⟨K104,s8,aF,aG,rfl,S105,f106,f107,hn108,f109,hn110,rfl⟩
 have h:=hK101
 dsimp only[aft]at h
 refine Jp (Je [2,2] R (Jb 2 R (Ju (Ja2 (l:=[.tmp 8]) V151 (Jp2 R R) R ?_))))
 cases h
 exact⟨(fun b=>ren [(3,2)] (K104 b)),ab,aa,(by simp only[hn108]),((hE.stp (S3.tr (S7.tr (S11.tr (S15.tr (S22.tr S105))))) R R).map (ren [(3,2)]) R R),(f107.map (ren [(3,2)]) R R)⟩
theorem i_isAnswer_ok {w:World}{κ:Col}{ac ak ad af ah aj}{p0:Parity}{aa ab ae ai}{p1:Answer}(g0_0_0:Rd (Rp.int .i64) κ w 0 ac ak p0.Arena.Owner) (g0_0_1:Rd (Rp.sl (Rp.int .i64)) κ w 0 ad af p0.Arena.Next) (g0_1:Rd (Rp.int .i64) κ w 0 ah aj p0.Prio) (g1_0:Rd (Rp.int .i64) κ w 0 aa ab p1.Won) (g1_1:Rd (Rp.int .i64) κ w 0 ae ai p1.Plan){r:Bool}(h:i_isAnswer p0 p1=some r):Ret Tryz.prog 80 [.agg #[.slice ac p0.Arena.Owner.length ak,.slice ad p0.Arena.Next.length af,.slice ah p0.Prio.length aj],.agg #[.slice aa p1.Won.length ab,.slice ae p1.Plan.length ai]] w (fun v w'=>∃(κ':Col),v= .bool r∧Ent κ w κ' w'):=by
 unfold i_isAnswer at h
 refine Ret.enter F80 R N80 R ?_
 dsimp only[envOf]
 have hE:=Ent.refl κ w
 refine Je [1,1,2] R (Jf1 (κ:=κ) 2 R R R R R R R fun b2 w1 K2 S3 f4=>⟨tv,Jf1 (κ:=K2) 3 R R R R R R R fun b3 w5 K6 S7 f8=>⟨tv,Jb 1 R (Je [2,1,2,2] R (Jf R (Jb2 U39 R Z22 R R) ?_))⟩⟩)
 have f9:=f4.stp S7 R R
 refine Jl tv R R R R (Jc2 I22 R R (hvE (f9.ld 2 R R))) (Jf R (Je2 U22 R R) (Jb 1 R (Jq (Je [2,1,2,2,2,2,2,1,2,2,2,2] R (Jf R (Jb2 U34 R Z22 R R) (Jl tv R R R R (Jc2 I22 R R (hvE (f8.ld 0 R R))) (Jf R (Je2 U22 R R) (Jn 3 R (Ob h fun p23 h hK10=>Ju1 [(6,2),(7,1),(8,2),(9,2),(10,2),(11,2)] [] (fun L w'=>L=[(2,.pointer (some ⟨b2,0,none⟩)),(3,.pointer (some ⟨b3,0,none⟩)),(23,.bool p23)]∧∃κ',Stp [] K6 w5 κ' w') tv ?_ ?_)))))))))
 revert h
 cases ht11:((p1.Won.length:Int) !=(p0.Prio.length:Int))
 refine JF fun h=>Jf R (Jb2 U34 R Z22 R R) (Jl tv R R R R (Jc2 I22 R R (hvE (f8.ld 1 R R))) (Jf R (Je2 U22 R R) (Jn 3 R ?_)))
 cases h
 exact Jv1 _ tv ⟨R,_,(Jx2 _ _).wk R⟩ (KM R)
 refine JT fun h=>Jn 1 R (Jd1 R R R R (Jn 4 R ?_))
 cases h
 exact Jv1 _ tv ⟨R,_,(Jx2 _ _).wk R⟩ (KM R)
 rintro _ w12 _ ⟨rfl,K13,S14⟩
 have h:=hK10
 refine Jd ?_
 revert h
 cases ht15:p23
 refine JF fun h=>Jy R (Js (Jp (Jq (Je [2,1,2,2] R (Jf R (Jb2 U34 R Z22 R R) ?_)))))
 have f17:=f8.stp S14 R R
 refine Jl tv R R R R (Jc2 I22 R R (hvE (f17.ld 0 R R))) (Jf R (Je2 U22 R R) (Jb 1 R ?_))
 have hN18:(p1.Won.length:Int)≤9223372036854775807:=g1_0.len_le
 refine Ob h fun q2 hq20 hK19=>?_
 clear h
 refine Jx1 (fun L w'=>∃κ',L=[]∧Stp [] K13 w12 κ' w'∧q2=Sum.inr ()) ?_ ?_
 refine Jv (Jy1 (fun k L w'=>∃κ' v27,L=[(2,.pointer (some ⟨b2,0,none⟩)),(3,.pointer (some ⟨b3,0,none⟩)),(25,.slice aa p1.Won.length ab),(26,vi (p1.Won.length:Int)),(27,vi v27)]∧Stp [] K13 w12 κ' w'∧0≤v27∧Int.toNat ((p1.Won.length:Int)-v27)=k∧cntM (i_isAnswer_b0 p0 p1) k v27 ()=some q2) ⟨_,_,⟨K13,0,R,(Jx2 _ _).wk R,(by decide),(by simp),hq20⟩,(KM R)⟩ ?_)
 rintro k _ w24 ⟨K25,v27,rfl,S26,hj18,hJ18,h⟩
 rcases k with _ | k
 have hk27:=h;obtain⟨o18,h⟩:=ex_eq (Sum.inr (Sum.inl ()):Bool⊕((Unit)⊕(Unit)))
 have hc18:decide (v27<(p1.Won.length:Int))=false:=Jo2 (by omega)
 refine Je [2] R (Jb 1 R (Jq (Jw2 R hc18 (Jc1 (Jt (Jt ?_))))))
 cases h
 have h:=hk27
 refine Jb1 ?_
 cases h
 exact Jw1 _ ⟨K25,R,S26.wk R,R⟩ KN
 obtain⟨o18,h,hk27⟩:=BI h;unfold i_isAnswer_b0 at h
 have hc18:decide (v27<(p1.Won.length:Int))=true:=Jn2 (by omega)
 refine Je [2] R (Jb 1 R (Jq (Jv2 R hc18 (Js (Jp (Jq (Jv (Je [2,2,1,2,2] R (Jn 1 R (Ob h fun x30 hx30 h=>Jf R (Jf2 g1_0 hx30 U22 Z2 R R R R) (Jl tv R R R R (Jc2 I2 R R (hvE ((g1_0.stp (S3.tr (S7.tr (S14.tr S26))) R R).gInt hx30))) (Jb 2 R (Je [2,2,1,2,2,1,2,2,2] R (Jf R (Jb2 U39 R Z37 R R) (Jf R (Jb2 U37 R Z22 R R) ?_)))))))))))))))
 have f29:=f9.stp (S14.tr S26) R R
 refine Jl tv R R R R (Jc2 I22 R R (hvE (f29.ld 0 R R))) (Jn 1 R (Ob h fun x36 hx36 h=>Jf R (Jf2 g0_0_0 hx36 U22 Z2 R R R R) (Jl tv R R R R (Jc2 I2 R R (hvE ((g0_0_0.stp (S3.tr (S7.tr (S14.tr S26))) R R).gInt hx36))) (Jb 3 R (Jq (Js1 (κ:=K25) [0,2,3] none [(0,2),(1,1),(2,2),(3,2),(4,2),(5,2),(6,2),(7,2),(9,2),(12,2),(14,2),(8,0),(10,2),(11,0),(13,0),(15,2),(16,0),(17,1),(18,2),(19,2),(20,2),(21,2),(22,2),(23,2),(24,2),(25,2),(27,2),(26,0),(28,2),(29,0),(30,2),(31,2),(32,2)] [] (by kernel_rfl) (by kernel_rfl) fun w32 S31=>Jn 1 R (Ob h fun x41 hx41 h=>Jh R R R C85 (i_isPlayer_ok (κ:=fun b=>mp [] 0 (K25 b)) hx41) ?_)))))))
 rintro _ w33 ⟨k34,rfl,e35⟩
 obtain⟨K36,S37,m38⟩:=Ji e35 4 R
 refine⟨(S37.cl R),Jn 2 R (Ob h fun p60 h hK40=>Ju1 [(4,2),(5,2),(6,2),(7,2),(9,2),(12,2),(14,2),(8,0),(10,2),(11,0),(13,0),(15,2),(16,0),(17,1),(18,2),(19,2),(20,2)] [(21,2),(22,2),(23,2),(24,2),(25,2),(27,2),(26,0),(28,2),(29,0),(30,2),(31,2),(32,2)] (fun L w'=>L=[(2,.pointer (some ⟨b2,0,none⟩)),(3,.pointer (some ⟨b3,0,none⟩)),(6,vi v27),(8,.bool (x36==x30)),(25,.slice aa p1.Won.length ab),(26,vi (p1.Won.length:Int)),(27,vi v27),(60,.bool p60)]∧∃κ',Stp [] K36 w33 κ' w') (S37.cl R) ?_ ?_)⟩
 revert h
 cases ht41:(!x41)
 refine JF fun h=>Jn 2 R (Ob h fun p59 h hK42=>Ju1 [(6,2),(7,2),(9,2),(12,2),(14,2),(8,0),(10,2),(11,0),(13,0),(15,2),(16,0),(17,1),(18,2),(19,2)] [(20,2)] (fun L w'=>L=[(2,.pointer (some ⟨b2,0,none⟩)),(3,.pointer (some ⟨b3,0,none⟩)),(6,vi v27),(8,.bool (x36==x30)),(25,.slice aa p1.Won.length ab),(26,vi (p1.Won.length:Int)),(27,vi v27),(43,.bool false),(44,.bool (x36==x30)),(45,.bool (x36==x30)),(59,.bool p59)]∧∃κ',Stp [] K36 w33 κ' w') (S37.cl R) ?_ ?_)
 revert h
 cases ht43:(x36==x30)
 refine JF fun h=>Jn 5 R (Je1 R R R R (Jn 1 R (Je1 R R R R (Je1 R R R R (Jn 1 R (Je1 R R R R (Jd1 R R R R (Jn 2 R ?_))))))))
 cases h
 exact Jv1 _ (S37.cl R) ⟨R,_,(Jx2 _ _).wk R⟩ (KM R)
 refine JT fun h=>Jf R (Jb2 U39 R Z37 R R) (Jf R (Jb2 U37 R Z23 R R) (Jn 1 R (Jf R (Jb2 U34 R Z22 R R) (Jn 1 R (Jg R (Jc2 I23 R R (hvC ((f29.stp S31 R R).ld 1 R R) R)) (Ob h fun x50 hx50 h=>Jf R (Jf2 g0_0_1 hx50 U23 Z22 R R R R) ?_))))))
 obtain⟨ax50,ux50,f46,hl47⟩:=(g0_0_1.stp (S3.tr (S7.tr (S14.tr (S26.tr S31)))) R R).gSl hx50
 refine Jg R (Jc2 I22 R R (hvC hl47 R)) (Jg R (Jc2 I22 R R (hvC ((f17.stp (S26.tr S31) R R).ld 1 R R) R)) (Ob h fun x55 hx55 h=>Jf R (Jf2 g1_1 hx55 U22 Z2 R R R R) (Jg R (Jc2 I2 R R (hvC ((g1_1.stp (S3.tr (S7.tr (S14.tr (S26.tr S31)))) R R).gInt hx55) R)) (Ob h fun x57 hx57 h=>Jh R R R C86 (slices_Contains_I_int64_ok (κ:=fun b=>mp [] 0 (K36 b)) (Jl2 (f46.stp S37 R R) (mp [] 0) R R) hx57) ?_))))
 rintro _ w51 ⟨k52,rfl,e53⟩
 obtain⟨K54,S55,m56⟩:=Ji e53 6 R
 refine⟨((S37.tr S55).cl R),Jn 2 R ?_⟩
 cases h
 exact Jv1 _ ((S37.tr S55).cl R) ⟨R,_,S55.wk R⟩ (KM R)
 rintro _ w58 _ ⟨rfl,K59,S60⟩
 have h:=hK42
 refine Jn 1 R ?_
 cases h
 exact Jv1 _ ((S37.tr S60).cl R) ⟨R,_,S60.wk R⟩ (KM R)
 refine JT fun h=>Jn 7 R (Je1 R R R R (Jn 1 R (Je1 R R R R (Je1 R R R R (Jn 1 R (Je1 R R R R (Jd1 R R R R (Jn 3 R ?_))))))))
 cases h
 exact Jv1 _ (S37.cl R) ⟨R,_,(Jx2 _ _).wk R⟩ (KM R)
 rintro _ w61 _ ⟨rfl,K62,S63⟩
 have h:=hK40
 refine Jn 1 R (Ob h fun p72 h hK64=>Ju1 [(22,2),(23,2),(24,2),(25,2),(27,2),(26,0),(28,2),(29,0),(30,2),(31,2),(32,2)] [] (fun L w'=>L=[(2,.pointer (some ⟨b2,0,none⟩)),(3,.pointer (some ⟨b3,0,none⟩)),(25,.slice aa p1.Won.length ab),(26,vi (p1.Won.length:Int)),(27,vi v27),(72,.bool p72)]∧∃κ',Stp [] K62 w61 κ' w') ((S37.tr S63).cl R) ?_ ?_)
 revert h
 cases ht65:p60
 refine JF fun h=>Jn 3 R (Ob h fun p71 h hK66=>Ju1 [(25,2),(27,2),(26,0),(28,2),(29,0),(30,2),(31,2)] [(32,2)] (fun L w'=>L=[(2,.pointer (some ⟨b2,0,none⟩)),(3,.pointer (some ⟨b3,0,none⟩)),(25,.slice aa p1.Won.length ab),(26,vi (p1.Won.length:Int)),(27,vi v27),(61,.bool false),(62,.bool (x36==x30)),(63,.bool (!(x36==x30))),(64,.bool (!(x36==x30))),(71,.bool p71)]∧∃κ',Stp [] K62 w61 κ' w') ((S37.tr S63).cl R) ?_ ?_)
 revert h
 cases ht67:(!(x36==x30))
 refine JF fun h=>Jn 2 R (Je1 R R R R (Jn 1 R (Je1 R R R R (Jn 2 R ?_))))
 cases h
 exact Jv1 _ ((S37.tr S63).cl R) ⟨R,_,(Jx2 _ _).wk R⟩ (KM R)
 refine JT fun h=>Jf R (Jb2 U34 R Z22 R R) (Jn 1 R (Jg R (Jc2 I22 R R (hvC ((f17.stp (S26.tr S31) R R).ld 1 R R) R)) (Ob h fun x68 hx68 h=>Jf R (Jf2 g1_1 hx68 U22 Z2 R R R R) (Jg R (Jc2 I2 R R (hvC ((g1_1.stp (S3.tr (S7.tr (S14.tr (S26.tr S31)))) R R).gInt hx68) R)) (Jn 2 R ?_)))))
 cases h
 exact Jv1 _ ((S37.tr S63).cl R) ⟨R,_,(Jx2 _ _).wk R⟩ (KM R)
 rintro _ w70 _ ⟨rfl,K71,S72⟩
 have h:=hK66
 refine Jn 1 R ?_
 cases h
 exact Jv1 _ ((S37.tr (S63.tr S72)).cl R) ⟨R,_,S72.wk R⟩ (KM R)
 refine JT fun h=>Jn 5 R (Je1 R R R R (Jn 1 R (Je1 R R R R (Jn 3 R ?_))))
 cases h
 exact Jv1 _ ((S37.tr S63).cl R) ⟨R,_,(Jx2 _ _).wk R⟩ (KM R)
 rintro _ w73 _ ⟨rfl,K74,S75⟩
 have h:=hK64
 refine Jt1 (Jd ?_)
 revert h
 cases ht76:p72
 refine JF fun h=>Jy R (Js (Jz (Jp (Ja [2,2] R (Jc 2 R ?_)))))
 have hw18:IntKind.wrap .i64 (v27+1)=v27+1:=wr1 hj18 (Jm2 hc18) hN18
 rw[hw18]
 have hc18:=Jm2 hc18
 cases h
 exact Jz1 fun a ha=>⟨k,_,Ja3 _,⟨K74,v27+1,R,(S26.tr (S31.tr (S37.tr (S63.tr S75)))).wk R,by omega,by omega,hk27⟩,(ha.mm R)⟩
 refine JT fun h=>Jx R (Je [2] R (Jb 1 R (Ju (Ja1 (Jw (Jw ?_))))))
 cases h
 obtain rfl:=Option.some.inj hk27
 have h:=hK19
 dsimp only[aft]at h
 refine Ja1 (Jq2 (Jw (Ja2 (l:=[.tmp 4]) V80 (Jp2 R R) R ?_)))
 cases h
 exact⟨K74,R,(hE.stp (S3.tr (S7.tr (S14.tr (S26.tr (S31.tr (S37.tr (S63.tr S75))))))) R R)⟩
 rintro _ w21 ⟨K22,rfl,S23,rfl⟩
 have h:=hK19
 dsimp only[aft]at h
 refine Jp (Je [2] R (Jb 1 R (Ju (Ja2 (l:=[.tmp 4]) V80 (Jp2 R R) R ?_))))
 cases h
 exact⟨K22,R,(hE.stp (S3.tr (S7.tr (S14.tr S23))) R R)⟩
 refine JT fun h=>Jx R (Je [2] R (Jb 1 R (Ju (Jw (Ja2 (l:=[.tmp 4]) V80 (Jp2 R R) R ?_)))))
 cases h
 exact⟨K13,R,(hE.stp (S3.tr (S7.tr S14)) R R)⟩
theorem i_fixedBy_ok {w:World}{κ:Col}{ai ae af ah}{p0:Arena}{a1 u1}{p1:(List Int)}(g0_0:Rd (Rp.int .i64) κ w 0 ai ae p0.Owner) (g0_1:Rd (Rp.sl (Rp.int .i64)) κ w 0 af ah p0.Next) (g1:Rd (Rp.int .i64) κ w 0 a1 u1 p1){r:Arena}(h:i_fixedBy p0 p1=some r):Ret Tryz.prog 141 [.agg #[.slice ai p0.Owner.length ae,.slice af p0.Next.length ah],.slice a1 p1.length u1] w (fun v w'=>∃(κ':Col) (ra0:Option Addr) (ru0:Nat) (ra1:Option Addr) (ru1:Nat),v= .agg #[.slice ra0 r.Owner.length ru0,.slice ra1 r.Next.length ru1]∧Ent κ w κ' w'∧Oc E6 2 κ' w' 2 ra0 ru0 r.Owner∧Oc (Ep.own E6 2) 22 κ' w' 3 ra1 ru1 r.Next):=by
 unfold i_fixedBy at h
 refine Ret.enter F141 R N141 R ?_
 dsimp only[envOf]
 have hE:=Ent.refl κ w
 refine Je [1,1] R (Jf1 (κ:=κ) 2 R R R R R R R fun b2 w1 K2 S3 f4=>⟨tv,Jg1 (κ:=K2) 3 R R R R R X37 R fun b4 w5 K6 S7 f8=>⟨tv,Jd (Je [1,1,1,1] R (Jl tv R R R R (Jd2 (cs:=[.slice ai p0.Owner.length ae,.slice af p0.Next.length ah]) I37 Z37 R R R (haE (f4.stp S7 R R).cells)) (Ob h fun x9 hx9 h=>Jh R R R C112 (i_copyArena_ok (κ:=fun b=>mp [] 0 (K6 b)) (p0:=p0) (Jl2 (g0_0.stp (S3.tr S7) R R) (mp [] 0) R R) (Jl2 (g0_1.stp (S3.tr S7) R R) (mp [] 0) R R) hx9) ?_)))⟩⟩)
 rintro _ w12 ⟨k13,ad,ac,ab,aa,rfl,e14,f15,f16⟩
 obtain⟨K17,S18,m19⟩:=Ji e14 4 R
 refine⟨tv,Jg1 (κ:=K17) 8 R R R R R X37 R fun b5 w23 K24 S25 f26=>⟨tv,Jj1 (κ:=K24) 8 (vc:=[.slice ad x9.Owner.length ac,.slice ab x9.Next.length aa]) R R R R R R R Z37 R R f26 R fun w27 S28 f29=>⟨tv,Jd (Jq (Je [2,2,2] R (Jn 1 R (Jf R (Je2 U22 R R) (Jb 1 R ?_)))))⟩⟩⟩
 have hN30:(p1.length:Int)≤9223372036854775807:=g1.len_le
 refine Ob h fun q2 hq32 hK31=>?_
 clear h
 refine Jx1 (fun L w'=>∃κ',∃s3:(List (List Int)),L=[(4,.pointer (some ⟨b4,0,none⟩)),(5,.pointer (some ⟨b5,0,none⟩))]∧Stp [7,9] K24 w27 κ' w'∧Oc (Ep.own E6 2) 22 κ' w' 7 ab aa s3∧x9.Next.length=s3.length∧q2=Sum.inr s3) ?_ ?_
 refine Jv (Jy1 (fun k L w'=>∃κ' v12,∃s1:(List (List Int)),L=[(4,.pointer (some ⟨b4,0,none⟩)),(5,.pointer (some ⟨b5,0,none⟩)),(10,.slice a1 p1.length u1),(11,vi (p1.length:Int)),(12,vi v12)]∧Stp [7,9] K24 w27 κ' w'∧Oc (Ep.own E6 2) 22 κ' w' 7 ab aa s1∧x9.Next.length=s1.length∧0≤v12∧Int.toNat ((p1.length:Int)-v12)=k∧cntM (i_fixedBy_b0 p1) k v12 s1=some q2) ⟨_,_,⟨K24,0,(x9.Next:(List (List Int))),R,(Jx2 _ _).wk R,((f16.mx (no_own (no_int _) _) m19 R (R:4+3=7)).stp (S25.tr S28) R R),R,(by decide),(by simp),hq32⟩,(KM R)⟩ ?_)
 rintro k _ w38 ⟨K39,v12,s1,rfl,S40,f41,hn42,hj30,hJ30,h⟩
 rcases k with _ | k
 have hk44:=h;obtain⟨o30,h⟩:=ex_eq (Sum.inr (Sum.inl s1):Arena⊕(((List (List Int)))⊕((List (List Int)))))
 have hc30:decide (v12<(p1.length:Int))=false:=Jo2 (by omega)
 refine Je [2] R (Jb 1 R (Jq (Jw2 R hc30 (Jc1 (Jt (Jt ?_))))))
 cases h
 have h:=hk44
 refine Jb1 ?_
 cases h
 exact Jw1 _ ⟨K39,(s1:(List (List Int))),R,S40.wk R,f41,hn42,R⟩ (KM R)
 obtain⟨o30,h,hk44⟩:=BI h;unfold i_fixedBy_b0 at h
 have hc30:decide (v12<(p1.length:Int))=true:=Jn2 (by omega)
 refine Je [2] R (Jb 1 R (Jq (Jv2 R hc30 (Js (Jp (Jq (Jv (Je [2,2,1,2,2] R (Jn 1 R (Ob h fun x15 hx15 h=>Jf R (Jf2 g1 hx15 U22 Z2 R R R R) (Jl tv R R R R (Jc2 I2 R R (hvE ((g1.stp (S3.tr (S7.tr (S18.tr (S25.tr (S28.tr S40))))) R R).gInt hx15))) (Jb 2 R (Je [2,2] R (Jb 2 R (Ob h fun q4 h hK46=>Jx1 (fun L w'=>∃κ',L=[(4,.pointer (some ⟨b4,0,none⟩)),(5,.pointer (some ⟨b5,0,none⟩)),(10,.slice a1 p1.length u1),(11,vi (p1.length:Int)),(12,vi v12)]∧Stp [7,9] K39 w38 κ' w'∧Oc (Ep.own E6 2) 22 κ' w' 7 ab aa q4∧x9.Next.length=q4.length) ?_ ?_)))))))))))))))
 revert h
 cases ht52:decide (0≤x15)
 refine JF fun h=>Jy R (Js ?_)
 cases h
 exact Jw1 _ ⟨K39,R,(Jx2 _ _).wk R,f41,hn42⟩ (KM R)
 refine JT fun h=>Jx R (Ja [2,1,2,2,1,2,1] R (Jf R (Jb2 U37 R Z23 R R) (Jl tv R R R R (Jc2 I23 R R (hvE ((f29.stp S40 R R).ld 1 R R))) (Jn 2 R (Jn1 (κ:=K39) (E:=E6) 9 [] (parts:=[(0,.tmp 22)]) (cells:=[vi x15]) (xs:=([x15]:List Int)) R R R R R R Y22 Tryzinfo2 R R R R R R R R R R ⟨[vi x15],[],Zl K39 w38 [],Zl K39 w38 [],R,Zl.sp (l1:=[]) (l2:=[]) R,Zl.sr (l1:=[]) (l2:=[]),R,R⟩ fun aj ak w54 K55 S56 f57=>⟨tv,Ob h fun x24 hx24 h=>Jf R (Jf2 f41.rdc hx24 U23 Z22 R R hn42 R) (Ob h fun y255 hy255 h=>Jk1 (κ:=K55) (E:=(Ep.own E6 2)) 7 [9] R R R R R R R R Z22 R ⟨_,_,R,f57⟩ R R (f41.stp S56 R R) hy255 fun w59 K60 S61 f62=>⟨tv,?_⟩)⟩)))))
 have hn63:x9.Next.length=y255.length:=hn42.trans (Jt2 hy255).2.2.2.symm
 refine Jo ?_
 cases h
 exact Jw1 _ ⟨K60,R,(S56.tr S61).wk R,f62,hn63⟩ (KM R)
 rintro _ w47 ⟨K48,rfl,S49,f50,hn51⟩
 have h:=hK46
 refine Jz (Jp (Ja [2,2] R (Jc 2 R ?_)))
 have hw30:IntKind.wrap .i64 (v12+1)=v12+1:=wr1 hj30 (Jm2 hc30) hN30
 rw[hw30]
 have hc30:=Jm2 hc30
 cases h
 exact Jz1 fun a ha=>⟨k,_,Ja3 _,⟨K48,v12+1,(q4:(List (List Int))),R,(S40.tr S49).wk R,f50,hn51,by omega,by omega,hk44⟩,(ha.mm R)⟩
 rintro _ w33 ⟨K34,s3,rfl,S35,f36,hn37,rfl⟩
 have h:=hK31
 dsimp only[aft]at h
 refine Jp (Je [1,1] R (Jl tv R R R R (Jd2 (cs:=[.slice ad x9.Owner.length ac,.slice ab x9.Next.length aa]) I37 Z37 R R R (haE (f29.stp S35 R R).cells)) (Jj1 (κ:=K34) 3 (vc:=[.slice ad x9.Owner.length ac,.slice ab x9.Next.length aa]) R R R R R R R Z37 R R (f8.stp (S18.tr (S25.tr (S28.tr S35))) R R) R fun w66 S67 f68=>⟨tv,Jd (Ju (Ja2 (l:=[.cell 4 37]) V141 (res_cellA R f68 I37 Z37 R R) R ?_))⟩)))
 cases h
 exact⟨(fun b=>ren [(6,2),(7,3)] (K34 b)),ad,ac,ab,aa,(by simp only[hn37]),((hE.stp (S3.tr (S7.tr (S18.tr (S25.tr (S28.tr (S35.tr S67)))))) R R).map (ren [(6,2),(7,3)]) R R),(((f15.mx (no_int _) m19 R (R:4+2=6)).stp (S25.tr (S28.tr (S35.tr S67))) R R).map (ren [(6,2),(7,3)]) R R),((f36.stp S67 R R).map (ren [(6,2),(7,3)]) R R)⟩
end Go.Proofs.YtmiilifclnanlaaGreat
