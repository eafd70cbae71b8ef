/- The walks, part 1. By program. -/
import Derived.Test.YtmiilifclnanlaaGreatFnsMEE
import Derived.Test.YtmiilifclnanlaaGreatAlEE
set_option linter.unusedVariables false
set_option linter.unusedSimpArgs false
namespace Go.Proofs.YtmiilifclnanlaaGreat
open Go Go.Wk Go.Proofs
set_option maxRecDepth 100000
set_option maxHeartbeats 1000000
theorem s_l1New_ok {w:World}{κ:Col}{a0 u0}{p0:(List Int)}(g0:Rd (Rp.int .u8) κ w 0 a0 u0 p0){r:l1Cur}(h:s_l1New p0=some r):Ret Tryz.prog 52 [.slice a0 p0.length u0] w (fun v w'=>∃(κ':Col) (ra0:Option Addr) (ru0:Nat) (rb1:Nat),v= .pointer (some ⟨rb1,0,none⟩)∧Ent κ w κ' w'∧Rd (Rp.int .u8) κ' w' 0 ra0 ru0 r.b∧(Bc κ' w' 3 rb1 107 [.slice ra0 r.b.length ru0,vi r.i,vi r.h])):=by
 unfold s_l1New at h
 refine Ret.enter F52 R N52 R ?_
 dsimp only[envOf]
 have hE:=Ent.refl κ w
 refine Je [2] R (Jb 1 R (Je [2,2,2,2] R (Jn 1 R (Jf R (Je2 U49 R R) (Jb 2 R (Jq (Je [2] R (Jb 1 R ?_))))))))
 have hN1:(p0.length:Int)≤9223372036854775807:=g0.len_le
 refine Ob h fun q2 hq3 hK2=>?_
 clear h
 refine Jx1 (fun L w'=>∃κ' s3,L=[(0,.slice a0 p0.length u0),(3,vi s3)]∧Stp [] κ w κ' w'∧q2=Sum.inr s3) ?_ ?_
 refine Jv (Jy1 (fun k L w'=>∃κ' v4 s1,L=[(0,.slice a0 p0.length u0),(3,vi s1),(4,vi v4)]∧Stp [] κ w κ' w'∧0≤v4∧Int.toNat ((p0.length:Int)-v4)=k∧cntM (s_l1New_b0 p0) k v4 s1=some q2) ⟨_,_,⟨κ,0,((IntKind.i64.wrap (560017+(p0.length:Int))):Int),R,(Jx2 _ _).wk R,(by decide),(by simp),hq3⟩,(KM R)⟩ ?_)
 rintro k _ w7 ⟨K8,v4,s1,rfl,S9,hj1,hJ1,h⟩
 rcases k with _ | k
 have hk10:=h;obtain⟨o1,h⟩:=ex_eq (Sum.inr (Sum.inl s1):l1Cur⊕((Int)⊕(Int)))
 have hc1:decide (v4<(p0.length:Int))=false:=Jo2 (by omega)
 refine Jq (Je [2,2,2,2] R (Jn 2 R (Jf R (Je2 U49 R R) (Jb 1 R (Jw2 R hc1 (Jc1 (Jt (Jt ?_))))))))
 cases h
 have h:=hk10
 refine Jb1 ?_
 cases h
 exact Jw1 _ ⟨K8,(s1:Int),R,S9.wk R,R⟩ (KM R)
 obtain⟨o1,h,hk10⟩:=BI h;unfold s_l1New_b0 at h
 have hc1:decide (v4<(p0.length:Int))=true:=Jn2 (by omega)
 refine Jq (Je [2,2,2,2] R (Jn 2 R (Jf R (Je2 U49 R R) (Jb 1 R (Jv2 R hc1 (Js (Jp (Jq (Jv (Ja [2,2,2,2,2,1,2,2,2,2,2] R (Jn 4 R (Ob h fun x18 hx18 h=>Jf R (Jf2 g0 hx18 U49 Z5 R R R R) (Jl tv R R R R (Jc2 I5 R R (hvE ((g0.stp S9 R R).gInt hx18))) (Jf R (Jh2 U5 U2 R R) (Jc 4 R (Jz (Jp (Ja [2,2,2] R (Jc 3 R ?_)))))))))))))))))))
 have hw1:IntKind.wrap .i64 (v4+1)=v4+1:=wr1 hj1 (Jm2 hc1) hN1
 rw[hw1]
 have hc1:=Jm2 hc1
 cases h
 exact Jz1 fun a ha=>⟨k,_,Ja3 _,⟨K8,v4+1,((IntKind.i64.wrap (BitVec.toNat (BitVec.ofInt (IntKind.bits IntKind.i64) (IntKind.i64.wrap ((IntKind.i64.wrap ((IntKind.i64.wrap (s1 * 313))+(IntKind.i64.wrap x18)))+11)) &&& BitVec.ofInt (IntKind.bits IntKind.i64) 1073741823))):Int),R,S9.wk R,by omega,by omega,hk10⟩,(ha.mm R)⟩
 rintro _ w4 ⟨K5,s3,rfl,S6,rfl⟩
 have h:=hK2
 dsimp only[aft]at h
 refine Jp (Je [2,2,2,1,2] R (Jn 2 R (Jf R (rn_build (parts:=[(0,.tmp 24),(2,.tmp 25)]) (cells:=[.slice a0 p0.length u0,vi 0,vi s3]) R R (by kernel_rfl)) (Jf1 (κ:=K5) 2 R R R R R R R fun b27 w12 K13 S14 f15=>⟨tv,Jb 1 R (Ju (Ja2 (l:=[.tmp 2]) V52 (Jp2 R R) R ?_))⟩))))
 cases h
 exact⟨(fun b=>ren [(2,3)] (K13 b)),a0,u0,b27,R,((hE.stp (S6.tr S14) R R).map (ren [(2,3)]) R R),((g0.stp (S6.tr S14) R R).map (ren [(2,3)]) R R),(f15.map (ren [(2,3)]) R R)⟩
theorem s_l1Byte_ok {w:World}{κ:Col}{ab aa}{p0:l1Cur}{b0}(g0_0:Rd (Rp.int .u8) κ w 0 ab aa p0.b) (gb0:Bc κ w 2 b0 107 [.slice ab p0.b.length aa,vi p0.i,vi p0.h]){r:Int×Int×Int}(h:s_l1Byte p0=some r):Ret Tryz.prog 110 [.pointer (some ⟨b0,0,none⟩)] w (fun v w'=>∃(κ':Col),v=vi r.1∧Ent κ w κ' w'∧Bc κ' w' 2 b0 107 [.slice ab p0.b.length aa,vi r.2.1,vi r.2.2]):=by
 unfold s_l1Byte at h
 refine Ret.enter F110 R N110 R ?_
 dsimp only[envOf]
 have hE:=Ent.refl κ w
 refine Je [2] R (Jb 1 R (Je [2,2,2,2,1,2,2,2,2,1] R (Jn 2 R (Jf R (rn_nilCheck R R) (Jf R (Jb2 U107 R Z2 R R) (Jl tv R R R R (Jc2 I2 R R (hvE (gb0.ld 2 R R))) (Jn 2 R (Jf R (rn_nilCheck R R) (Jf R (Jb2 U107 R Z2 R R) (Ji1 (κ:=κ) 2 (off:=2) (vc:=[vi (IntKind.i64.wrap ((IntKind.i64.wrap (p0.h * 6364136223846793005))+1442695040888963407))]) (cs':=[.slice ab p0.b.length aa,vi p0.i,vi (IntKind.i64.wrap ((IntKind.i64.wrap (p0.h * 6364136223846793005))+1442695040888963407))]) R R R R R R R Z2 R R gb0 R R fun w1 S2 f3=>⟨tv,Jd (Jq (Js1 (κ:=κ) [2] none [(0,2),(1,2),(2,2),(5,2),(6,2),(7,2),(3,0),(4,2),(8,0),(9,2),(10,2),(11,2),(12,2)] [] (by kernel_rfl) (by kernel_rfl) fun w5 S4=>Jn 1 R (Jf R (rn_nilCheck R R) (Jf R (Jb2 U107 R Z2 R R) (Jn 1 R (Jf R (rn_nilCheck R R) (Jf R (Jb2 U107 R Z2 R R) ?_)))))))⟩))))))))))
 have f6:=f3.stp S4 R R
 refine Jg R (Jc2 I2 R R (hvC (f6.ld 2 R R) R)) (Jf R (rn_shr R R R (by decide)) (Jg R (Jc2 I2 R R (hvC (f6.ld 2 R R) R)) (Jf R (rn_shr R R R (by decide)) (Jn 3 R (Jt1 (Jd (Jq (Jq (Js1 (κ:=κ) [2] none [(0,2),(1,2),(2,2),(4,2),(5,2),(6,2),(3,0),(7,0),(8,2),(9,2)] [] (by kernel_rfl) (by kernel_rfl) fun w8 S7=>Jn 1 R (Jf R (rn_nilCheck R R) (Jf R (Jb2 U107 R Z3 R R) (Jn 1 R (Jf R (rn_nilCheck R R) (Jf R (Jb2 U107 R Z49 R R) ?_))))))))))))))
 have f9:=f6.stp S7 R R
 refine Jg R (Jc2 I3 R R (hvC (f9.ld 1 R R) R)) (Jg R (Jc2 I49 R R (hvC (f9.ld 0 R R) R)) (Jf R (Je2 U49 R R) (Jn 1 R (Jt1 (Jd (Ob h fun q1 h hK10=>Jx1 (fun L w'=>∃κ',L=[(0,.pointer (some ⟨b0,0,none⟩)),(3,vi q1.1)]∧Stp [2] κ w8 κ' w'∧Bc κ' w' 2 b0 107 [.slice ab p0.b.length aa,vi q1.2,vi (IntKind.i64.wrap ((IntKind.i64.wrap (p0.h * 6364136223846793005))+1442695040888963407))]) ?_ ?_))))))
 revert h
 cases ht15:decide (p0.i<(p0.b.length:Int))
 refine JF fun h=>Jy R (Js ?_)
 cases h
 exact Jw1 _ ⟨κ,R,(Jx2 _ _).wk R,f9⟩ (KM R)
 refine JT fun h=>Jx R (Jq (Js1 (κ:=κ) [0,2] none [(0,2),(1,2),(2,2),(3,2),(5,2),(6,2),(7,2),(4,0),(8,0),(9,2),(10,0),(11,2),(12,2),(13,2),(14,2)] [] (by kernel_rfl) (by kernel_rfl) fun w17 S16=>Jn 2 R (Jf R (rn_nilCheck R R) (Jf R (Jb2 U107 R Z49 R R) (Jn 1 R (Jf R (rn_nilCheck R R) (Jf R (Jb2 U107 R Z3 R R) ?_)))))))
 have f18:=f9.stp S16 R R
 refine Jg R (Jc2 I49 R R (hvC (f18.ld 0 R R) R)) (Jg R (Jc2 I3 R R (hvC (f18.ld 1 R R) R)) (Ob h fun x44 hx44 h=>Jf R (Jf2 g0_0 hx44 U49 Z5 R R R R) (Jg R (Jc2 I5 R R (hvC ((g0_0.stp (S2.tr (S4.tr (S7.tr S16))) R R).gInt hx44) R)) (Jf R (Jh2 U5 U2 R R) (Jn 3 R (Jt1 (Jd (Ja [2,2,2,2,1,2,2,2,1] R (Jn 2 R (Jf R (rn_nilCheck R R) (Jf R (Jb2 U107 R Z3 R R) (Jl tv R R R R (Jc2 I3 R R (hvE (f18.ld 1 R R))) (Jn 1 R (Jf R (rn_nilCheck R R) (Jf R (Jb2 U107 R Z3 R R) (Ji1 (κ:=κ) 2 (off:=1) (vc:=[vi (IntKind.i64.wrap (p0.i+1))]) (cs':=[.slice ab p0.b.length aa,vi (IntKind.i64.wrap (p0.i+1)),vi (IntKind.i64.wrap ((IntKind.i64.wrap (p0.h * 6364136223846793005))+1442695040888963407))]) R R R R R R R Z3 R R f18 R R fun w20 S21 f22=>⟨tv,Jo ?_⟩))))))))))))))))
 cases h
 exact Jw1 _ ⟨κ,R,(S16.tr S21).wk R,f22⟩ (KM R)
 rintro _ w11 ⟨K12,rfl,S13,f14⟩
 have h:=hK10
 refine Jp (Je [2,2] R (Jb 2 R (Ju (Ja2 (l:=[.tmp 2]) V110 (Jp2 R R) R ?_))))
 cases h
 exact⟨K12,R,(hE.stp (S2.tr (S4.tr (S7.tr S13))) R R),f14⟩
theorem i_isSet_ok {w:World}{κ:Col}{a0 u0}{p0:(List Int)}{p1:Int}(g0:Rd (Rp.int .i64) κ w 0 a0 u0 p0){r:Bool}(h:i_isSet p0 p1=some r):Ret Tryz.prog 122 [.slice a0 p0.length u0,vi p1] w (fun v w'=>∃(κ':Col),v= .bool r∧Ent κ w κ' w'):=by
 unfold i_isSet at h
 refine Ret.enter F122 R N122 R ?_
 dsimp only[envOf]
 have hE:=Ent.refl κ w
 refine Je [2] R (Jb 1 R (Jq (Je [2,2,2] R (Jn 1 R (Jf R (Je2 U22 R R) (Jb 1 R ?_))))))
 have hN1:(p0.length:Int)≤9223372036854775807:=g0.len_le
 refine Ob h fun q2 hq3 hK2=>?_
 clear h
 refine Jx1 (fun L w'=>∃κ',L=[]∧Stp [] κ w κ' w'∧q2=Sum.inr ()) ?_ ?_
 refine Jv (Jy1 (fun k L w'=>∃κ' v9,L=[(0,.slice a0 p0.length u0),(1,vi p1),(7,.slice a0 p0.length u0),(8,vi (p0.length:Int)),(9,vi v9)]∧Stp [] κ w κ' w'∧0≤v9∧Int.toNat ((p0.length:Int)-v9)=k∧cntM (i_isSet_b0 p0 p1) k v9 ()=some q2) ⟨_,_,⟨κ,0,R,(Jx2 _ _).wk R,(by decide),(by simp),hq3⟩,(KM R)⟩ ?_)
 rintro k _ w7 ⟨K8,v9,rfl,S9,hj1,hJ1,h⟩
 rcases k with _ | k
 have hk10:=h;obtain⟨o1,h⟩:=ex_eq (Sum.inr (Sum.inl ()):Bool⊕((Unit)⊕(Unit)))
 have hc1:decide (v9<(p0.length:Int))=false:=Jo2 (by omega)
 refine Je [2] R (Jb 1 R (Jq (Jw2 R hc1 (Jc1 (Jt (Jt ?_))))))
 cases h
 have h:=hk10
 refine Jb1 ?_
 cases h
 exact Jw1 _ ⟨K8,R,S9.wk R,R⟩ KN
 obtain⟨o1,h,hk10⟩:=BI h;unfold i_isSet_b0 at h
 have hc1:decide (v9<(p0.length:Int))=true:=Jn2 (by omega)
 refine Je [2] R (Jb 1 R (Jq (Jv2 R hc1 (Js (Jp (Jq (Jv (Je [2,2,1,2,2] R (Jn 1 R (Ob h fun x12 hx12 h=>Jf R (Jf2 g0 hx12 U22 Z2 R R R R) ?_))))))))))
 have f11:=g0.stp S9 R R
 refine Jl tv R R R R (Jc2 I2 R R (hvE (f11.gInt hx12))) (Jb 2 R (Je [2,2,2,2,2,2,2,2,2,2,2,2,2,2,2,2,1,2,2,2] R (Jn 3 R (Ob h fun p20 h hK12=>Ju1 [(3,2),(4,2),(5,2),(6,2)] [(7,2),(8,2),(9,2),(10,2),(11,2),(12,2),(13,2),(14,2),(15,2),(16,1),(17,2),(18,2),(19,2)] (fun L w'=>L=[(0,.slice a0 p0.length u0),(1,vi p1),(5,vi v9),(6,vi x12),(7,.slice a0 p0.length u0),(8,vi (p0.length:Int)),(9,vi v9),(20,.bool p20)]∧∃κ',Stp [] K8 w7 κ' w') tv ?_ ?_))))
 revert h
 cases ht13:decide (x12<0)
 refine JF fun h=>Jn 4 R ?_
 cases h
 exact Jv1 _ tv ⟨R,_,(Jx2 _ _).wk R⟩ (KM R)
 refine JT fun h=>Jn 4 R ?_
 cases h
 exact Jv1 _ tv ⟨R,_,(Jx2 _ _).wk R⟩ (KM R)
 rintro _ w14 _ ⟨rfl,K15,S16⟩
 have h:=hK12
 refine Jn 1 R (Ob h fun p33 h hK17=>Ju1 [(8,2),(9,2),(10,2),(11,2),(12,2),(13,2),(14,2),(15,2),(16,1),(17,2),(18,2),(19,2)] [] (fun L w'=>L=[(0,.slice a0 p0.length u0),(1,vi p1),(7,.slice a0 p0.length u0),(8,vi (p0.length:Int)),(9,vi v9),(33,.bool p33)]∧∃κ',Stp [] K15 w14 κ' w') tv ?_ ?_)
 revert h
 cases ht18:p20
 refine JF fun h=>Jn 3 R (Ob h fun p32 h hK19=>Ju1 [(11,2),(12,2),(13,2),(14,2),(15,2),(16,1),(17,2),(18,2)] [(19,2)] (fun L w'=>L=[(0,.slice a0 p0.length u0),(1,vi p1),(7,.slice a0 p0.length u0),(8,vi (p0.length:Int)),(9,vi v9),(21,.bool false),(22,vi v9),(23,.bool (decide (0<v9))),(24,.bool (decide (0<v9))),(32,.bool p32)]∧∃κ',Stp [] K15 w14 κ' w') tv ?_ ?_)
 revert h
 cases ht20:decide (0<v9)
 refine JF fun h=>Jn 5 R (Jd1 R R R R (Jn 2 R ?_))
 cases h
 exact Jv1 _ tv ⟨R,_,(Jx2 _ _).wk R⟩ (KM R)
 refine JT fun h=>Jn 4 R (Ob h fun x29 hx29 h=>Jf R (Jf2 f11 hx29 U22 Z2 R R R R) (Jl tv R R R R (Jc2 I2 R R (hvE ((f11.stp S16 R R).gInt hx29))) (Jn 2 R ?_)))
 cases h
 exact Jv1 _ tv ⟨R,_,(Jx2 _ _).wk R⟩ (KM R)
 rintro _ w22 _ ⟨rfl,K23,S24⟩
 have h:=hK19
 refine Jn 1 R ?_
 cases h
 exact Jv1 _ tv ⟨R,_,S24.wk R⟩ (KM R)
 refine JT fun h=>Jn 8 R (Jd1 R R R R (Jn 3 R ?_))
 cases h
 exact Jv1 _ tv ⟨R,_,(Jx2 _ _).wk R⟩ (KM R)
 rintro _ w25 _ ⟨rfl,K26,S27⟩
 have h:=hK17
 refine Jd ?_
 revert h
 cases ht28:p33
 refine JF fun h=>Jy R (Js (Jz (Jp (Ja [2,2] R (Jc 2 R ?_)))))
 have hw1:IntKind.wrap .i64 (v9+1)=v9+1:=wr1 hj1 (Jm2 hc1) hN1
 rw[hw1]
 have hc1:=Jm2 hc1
 cases h
 exact Jz1 fun a ha=>⟨k,_,Ja3 _,⟨K26,v9+1,R,(S9.tr (S16.tr S27)).wk R,by omega,by omega,hk10⟩,(ha.mm R)⟩
 refine JT fun h=>Jx R (Je [2] R (Jb 1 R (Ju (Ja1 (Jw (Jw ?_))))))
 cases h
 obtain rfl:=Option.some.inj hk10
 have h:=hK2
 dsimp only[aft]at h
 refine Ja1 (Jq2 (Jw (Ja2 (l:=[.tmp 4]) V122 (Jp2 R R) R ?_)))
 cases h
 exact⟨K26,R,(hE.stp (S9.tr (S16.tr S27)) R R)⟩
 rintro _ w4 ⟨K5,rfl,S6,rfl⟩
 have h:=hK2
 dsimp only[aft]at h
 refine Jp (Je [2] R (Jb 1 R (Ju (Ja2 (l:=[.tmp 4]) V122 (Jp2 R R) R ?_))))
 cases h
 exact⟨K5,R,(hE.stp S6 R R)⟩
theorem i_isPlayer_ok {w:World}{κ:Col}{p0:Int}  {r:Bool}(h:i_isPlayer p0=some r):Ret Tryz.prog 85 [vi p0] w (fun v w'=>∃(κ':Col),v= .bool r∧Ent κ w κ' w'):=by
 unfold i_isPlayer at h
 refine Ret.enter F85 R N85 R ?_
 dsimp only[envOf]
 have hE:=Ent.refl κ w
 refine Je [2] R (Jb 1 R (Je [2,2,2,2,2,2,2] R (Jn 3 R (Ob h fun p8 h hK1=>Ju1 [(3,2),(4,2),(5,2)] [(6,2)] (fun L w'=>L=[(2,.bool false),(8,.bool p8)]∧∃κ',Stp [] κ w κ' w') tv ?_ ?_))))
 revert h
 cases ht2:(p0==0)
 refine JF fun h=>Jn 3 R ?_
 cases h
 exact Jv1 _ tv ⟨R,_,(Jx2 _ _).wk R⟩ (KM R)
 refine JT fun h=>Jn 3 R ?_
 cases h
 exact Jv1 _ tv ⟨R,_,(Jx2 _ _).wk R⟩ (KM R)
 rintro _ w3 _ ⟨rfl,K4,S5⟩
 have h:=hK1
 refine Jb 1 R (Ju (Ja2 (l:=[.tmp 2]) V85 (Jp2 R R) R ?_))
 cases h
 exact⟨K4,R,(hE.stp S5 R R)⟩
theorem slices_isNaN_int64_ok {w:World}{κ:Col}{p0:Int}  {r:Bool}(h:slices_isNaN_int64 p0=some r):Ret Tryz.prog 146 [vi p0] w (fun v w'=>∃(κ':Col),v= .bool r∧Ent κ w κ' w'):=by
 unfold slices_isNaN_int64 at h
 refine Ret.enter F146 R N146 R ?_
 dsimp only[envOf]
 have hE:=Ent.refl κ w
 refine Je [2] R (Jb 1 R (Je [2,2,2,2] R (Jb 4 R (Ju (Ja2 (l:=[.tmp 2]) V146 (Jp2 R R) R ?_)))))
 cases h
 exact⟨κ,R,hE⟩
theorem slices_Sort_I_int64_ok {w:World}{κ:Col}{a0 u0}{p0:(List Int)}(g0:Oc E6 2 κ w 2 a0 u0 p0){r:(List Int)}(h:slices_Sort_I_int64 p0=some r):Ret Tryz.prog 120 [.slice a0 p0.length u0] w (fun v w'=>∃(κ':Col),v= .tuple #[]∧Ent κ w κ' w'∧Oc E6 2 κ' w' 2 a0 u0 r∧p0.length=r.length):=by
  unfold slices_Sort_I_int64 at h
  split at h
  · rename_i hh
    cases h
    exact sort_ok (fun blk off cap zs w hH hb hz=>Tryz.slices_Sort_int blk off cap zs w hH hb hz) g0 hh.1 hh.2
  · split at h
    · rename_i hh
      cases h
      exact sort_nil Tryz.slices_Sort_int_none g0 hh
    · cases h
theorem s_l7HasIn_ok {w:World}{κ:Col}{a0 u0}{p0:(List Int)}{p1:Int}(g0:Rd (Rp.int .i64) κ w 0 a0 u0 p0){r:Bool}(h:s_l7HasIn p0 p1=some r):Ret Tryz.prog 170 [.slice a0 p0.length u0,vi p1] w (fun v w'=>∃(κ':Col),v= .bool r∧Ent κ w κ' w'):=by
 unfold s_l7HasIn at h
 refine Ret.enter F170 R N170 R ?_
 dsimp only[envOf]
 have hE:=Ent.refl κ w
 refine Je [2] R (Jb 1 R (Jq (Je [2] R (Jb 1 R ?_))))
 have hN1:(p0.length:Int)≤9223372036854775807:=g0.len_le
 refine Ob h fun q2 hq3 hK2=>?_
 clear h
 refine Jx1 (fun L w'=>∃κ',L=[]∧Stp [] κ w κ' w'∧q2=Sum.inr ()) ?_ ?_
 refine Jv (Jy1 (fun k L w'=>∃κ' v5,L=[(0,.slice a0 p0.length u0),(1,vi p1),(5,vi v5)]∧Stp [] κ w κ' w'∧0≤v5∧Int.toNat ((p0.length:Int)-v5)=k∧cntM (s_l7HasIn_b0 p0 p1) k v5 ()=some q2) ⟨_,_,⟨κ,0,R,(Jx2 _ _).wk R,(by decide),(by simp),hq3⟩,(KM R)⟩ ?_)
 rintro k _ w7 ⟨K8,v5,rfl,S9,hj1,hJ1,h⟩
 rcases k with _ | k
 have hk10:=h;obtain⟨o1,h⟩:=ex_eq (Sum.inr (Sum.inl ()):Bool⊕((Unit)⊕(Unit)))
 have hc1:decide (v5<(p0.length:Int))=false:=Jo2 (by omega)
 refine Jq (Je [2,2,2,2] R (Jn 2 R (Jf R (Je2 U22 R R) (Jb 1 R (Jw2 R hc1 (Jc1 (Jt (Jt ?_))))))))
 cases h
 have h:=hk10
 refine Jb1 ?_
 cases h
 exact Jw1 _ ⟨K8,R,S9.wk R,R⟩ KN
 obtain⟨o1,h,hk10⟩:=BI h;unfold s_l7HasIn_b0 at h
 have hc1:decide (v5<(p0.length:Int))=true:=Jn2 (by omega)
 refine Jq (Je [2,2,2,2] R (Jn 2 R (Jf R (Je2 U22 R R) (Jb 1 R (Jv2 R hc1 (Js (Jp (Jq (Jv (Je [2,2,2,1,2,2] R (Jn 2 R (Ob h fun x14 hx14 h=>Jf R (Jf2 g0 hx14 U22 Z2 R R R R) (Jl tv R R R R (Jc2 I2 R R (hvE ((g0.stp S9 R R).gInt hx14))) (Jb 2 R ?_))))))))))))))
 revert h
 cases ht12:(x14==p1)
 refine JF fun h=>Jy R (Js (Jz (Jp (Ja [2,2,2] R (Jc 3 R ?_)))))
 have hw1:IntKind.wrap .i64 (v5+1)=v5+1:=wr1 hj1 (Jm2 hc1) hN1
 rw[hw1]
 have hc1:=Jm2 hc1
 cases h
 exact Jz1 fun a ha=>⟨k,_,Ja3 _,⟨K8,v5+1,R,S9.wk R,by omega,by omega,hk10⟩,(ha.mm R)⟩
 refine JT fun h=>Jx R (Je [2] R (Jb 1 R (Ju (Ja1 (Jw (Jw ?_))))))
 cases h
 obtain rfl:=Option.some.inj hk10
 have h:=hK2
 dsimp only[aft]at h
 refine Ja1 (Jq2 (Jw (Ja2 (l:=[.tmp 4]) V170 (Jp2 R R) R ?_)))
 cases h
 exact⟨K8,R,(hE.stp S9 R R)⟩
 rintro _ w4 ⟨K5,rfl,S6,rfl⟩
 have h:=hK2
 dsimp only[aft]at h
 refine Jp (Je [2] R (Jb 1 R (Ju (Ja2 (l:=[.tmp 4]) V170 (Jp2 R R) R ?_))))
 cases h
 exact⟨K5,R,(hE.stp S6 R R)⟩
theorem s_l7Same_ok {w:World}{κ:Col}{a0 u0}{p0:(List Int)}{a1 u1}{p1:(List Int)}(g0:Rd (Rp.int .i64) κ w 0 a0 u0 p0) (g1:Rd (Rp.int .i64) κ w 0 a1 u1 p1){r:Bool}(h:s_l7Same p0 p1=some r):Ret Tryz.prog 125 [.slice a0 p0.length u0,.slice a1 p1.length u1] w (fun v w'=>∃(κ':Col),v= .bool r∧Ent κ w κ' w'):=by
 unfold s_l7Same at h
 refine Ret.enter F125 R N125 R ?_
 dsimp only[envOf]
 have hE:=Ent.refl κ w
 refine Je [2] R (Jb 1 R (Jq (Je [2,2,2,2,2] R (Jn 1 R (Jf R (Je2 U22 R R) (Jn 1 R (Jf R (Je2 U22 R R) (Jb 1 R ?_))))))))
 revert h
 cases ht1:((p0.length:Int) !=(p1.length:Int))
 refine JF fun h=>Jy R (Js (Jp (Jq (Je [2] R (Jb 1 R ?_)))))
 have hN2:(p0.length:Int)≤9223372036854775807:=g0.len_le
 refine Ob h fun q2 hq4 hK3=>?_
 clear h
 refine Jx1 (fun L w'=>∃κ',L=[]∧Stp [] κ w κ' w'∧q2=Sum.inr ()) ?_ ?_
 refine Jv (Jy1 (fun k L w'=>∃κ' v5,L=[(0,.slice a0 p0.length u0),(1,.slice a1 p1.length u1),(5,vi v5)]∧Stp [] κ w κ' w'∧0≤v5∧Int.toNat ((p0.length:Int)-v5)=k∧cntM (s_l7Same_b0 p0 p1) k v5 ()=some q2) ⟨_,_,⟨κ,0,R,(Jx2 _ _).wk R,(by decide),(by simp),hq4⟩,(KM R)⟩ ?_)
 rintro k _ w8 ⟨K9,v5,rfl,S10,hj2,hJ2,h⟩
 rcases k with _ | k
 have hk11:=h;obtain⟨o2,h⟩:=ex_eq (Sum.inr (Sum.inl ()):Bool⊕((Unit)⊕(Unit)))
 have hc2:decide (v5<(p0.length:Int))=false:=Jo2 (by omega)
 refine Jq (Je [2,2,2,2] R (Jn 2 R (Jf R (Je2 U22 R R) (Jb 1 R (Jw2 R hc2 (Jc1 (Jt (Jt ?_))))))))
 cases h
 have h:=hk11
 refine Jb1 ?_
 cases h
 exact Jw1 _ ⟨K9,R,S10.wk R,R⟩ KN
 obtain⟨o2,h,hk11⟩:=BI h;unfold s_l7Same_b0 at h
 have hc2:decide (v5<(p0.length:Int))=true:=Jn2 (by omega)
 refine Jq (Je [2,2,2,2] R (Jn 2 R (Jf R (Je2 U22 R R) (Jb 1 R (Jv2 R hc2 (Js (Jp (Jq (Jv (Jq (Js1 (κ:=K9) [0] none [(0,2),(1,2),(2,2),(4,2),(5,2),(6,2),(3,0),(7,0),(8,2)] [] (by kernel_rfl) (by kernel_rfl) fun w13 S12=>Jn 2 R (Ob h fun x19 hx19 h=>Jf R (Jf2 g0 hx19 U22 Z2 R R R R) (Jn 2 R (Ob h fun x23 hx23 h=>Jf R (Jf2 g1 hx23 U22 Z2 R R R R) (Jg R (Jc2 I2 R R (hvC ((g0.stp (S10.tr S12) R R).gInt hx19) R)) (Jg R (Jc2 I2 R R (hvC ((g1.stp (S10.tr S12) R R).gInt hx23) R)) (Jn 1 R (Jt1 (Jd ?_)))))))))))))))))))
 revert h
 cases ht16:(x19 !=x23)
 refine JF fun h=>Jy R (Js (Jz (Jp (Ja [2,2,2] R (Jc 3 R ?_)))))
 have hw2:IntKind.wrap .i64 (v5+1)=v5+1:=wr1 hj2 (Jm2 hc2) hN2
 rw[hw2]
 have hc2:=Jm2 hc2
 cases h
 exact Jz1 fun a ha=>⟨k,_,Ja3 _,⟨K9,v5+1,R,(S10.tr S12).wk R,by omega,by omega,hk11⟩,(ha.mm R)⟩
 refine JT fun h=>Jx R (Je [2] R (Jb 1 R (Ju (Ja1 (Jw (Jw ?_))))))
 cases h
 obtain rfl:=Option.some.inj hk11
 have h:=hK3
 dsimp only[aft]at h
 refine Ja1 (Jq2 (Jw (Ja2 (l:=[.tmp 4]) V125 (Jp2 R R) R ?_)))
 cases h
 exact⟨K9,R,(hE.stp (S10.tr S12) R R)⟩
 rintro _ w5 ⟨K6,rfl,S7,rfl⟩
 have h:=hK3
 dsimp only[aft]at h
 refine Jp (Je [2] R (Jb 1 R (Ju (Ja2 (l:=[.tmp 4]) V125 (Jp2 R R) R ?_))))
 cases h
 exact⟨K6,R,(hE.stp S7 R R)⟩
 refine JT fun h=>Jx R (Je [2] R (Jb 1 R (Ju (Jw (Ja2 (l:=[.tmp 4]) V125 (Jp2 R R) R ?_)))))
 cases h
 exact⟨κ,R,hE⟩
theorem s_l7Region_ok {w:World}{κ:Col}{a0 u0}{p0:(List Int)}{p1:Int}(g0:Rd (Rp.int .i64) κ w 0 a0 u0 p0){r:(List Bool)}(h:s_l7Region p0 p1=some r):Ret Tryz.prog 99 [.slice a0 p0.length u0,vi p1] w (fun v w'=>∃(κ':Col) (ra0:Option Addr) (ru0:Nat),v= .slice ra0 r.length ru0∧Ent κ w κ' w'∧Oc Ep.bool 4 κ' w' 2 ra0 ru0 r):=by
 unfold s_l7Region at h
 refine Ret.enter F99 R N99 R ?_
 dsimp only[envOf]
 have hE:=Ent.refl κ w
 refine Je [2] R (Jb 1 R (Je [2,2,1,2] R (Jn 1 R (Jf R (Je2 U22 R R) (Ob h fun x9 hx9 h=>Jl1 (κ:=κ) (E:=Ep.bool) (z:=(false:Bool)) 2 R R R R R R R Y70 Tryzinfo4 R R R R R (fun _ _ _=>R) (Ju2 hx9) fun a9 u9 w1 K2 S3 f4=>⟨tv,Jb 1 R (Jq (Je [2] R (Jb 1 R ?_)))⟩)))))
 have hN5:(p0.length:Int)≤9223372036854775807:=g0.len_le
 refine Ob h fun q2 hq7 hK6=>?_
 clear h
 refine Jx1 (fun L w'=>∃κ',∃s3:(List Bool),L=[(5,.slice a9 x9.length u9)]∧Stp [2] K2 w1 κ' w'∧Oc Ep.bool 4 κ' w' 2 a9 u9 s3∧x9.length=s3.length∧q2=Sum.inr s3) ?_ ?_
 refine Jv (Jy1 (fun k L w'=>∃κ' v6,∃s1:(List Bool),L=[(0,.slice a0 p0.length u0),(1,vi p1),(5,.slice a9 x9.length u9),(6,vi v6)]∧Stp [2] K2 w1 κ' w'∧Oc Ep.bool 4 κ' w' 2 a9 u9 s1∧x9.length=s1.length∧0≤v6∧Int.toNat ((p0.length:Int)-v6)=k∧cntM (s_l7Region_b0 p0 p1) k v6 s1=some q2) ⟨_,_,⟨K2,0,(x9:(List Bool)),R,(Jx2 _ _).wk R,f4,R,(by decide),(by simp),hq7⟩,(KM R)⟩ ?_)
 rintro k _ w13 ⟨K14,v6,s1,rfl,S15,f16,hn17,hj5,hJ5,h⟩
 rcases k with _ | k
 have hk18:=h;obtain⟨o5,h⟩:=ex_eq (Sum.inr (Sum.inl s1):(List Bool)⊕(((List Bool))⊕((List Bool))))
 have hc5:decide (v6<(p0.length:Int))=false:=Jo2 (by omega)
 refine Jq (Je [2,2,2,2] R (Jn 2 R (Jf R (Je2 U22 R R) (Jb 1 R (Jw2 R hc5 (Jc1 (Jt (Jt ?_))))))))
 cases h
 have h:=hk18
 refine Jb1 ?_
 cases h
 exact Jw1 _ ⟨K14,(s1:(List Bool)),R,S15.wk R,f16,hn17,R⟩ (KM R)
 obtain⟨o5,h,hk18⟩:=BI h;unfold s_l7Region_b0 at h
 have hc5:decide (v6<(p0.length:Int))=true:=Jn2 (by omega)
 refine Jq (Je [2,2,2,2] R (Jn 2 R (Jf R (Je2 U22 R R) (Jb 1 R (Jv2 R hc5 (Js (Jp (Jq (Jv (Ja [2,2,2,2,2,1,2,2,2,1] R (Jn 4 R (Ob h fun x20 hx20 h=>Jf R (Jf2 g0 hx20 U22 Z2 R R R R) (Jl tv R R R R (Jc2 I2 R R (hvE ((g0.stp (S3.tr S15) R R).gInt hx20))) (Jn 2 R (Ob h fun x24 hx24 h=>Jf R (Jf2 f16.rdc hx24 U70 Z4 R R hn17 R) (Ob h fun y225 hy225 h=>Jk1 (κ:=K14) (E:=Ep.bool) 2 [] R R R R R R R R Z4 R R R R f16 hy225 fun w20 K21 S22 f23=>⟨tv,?_⟩))))))))))))))))
 have hn24:x9.length=y225.length:=hn17.trans (Jt2 hy225).2.2.2.symm
 refine Jo (Jz (Jp (Ja [2,2,2] R (Jc 3 R ?_))))
 have hw5:IntKind.wrap .i64 (v6+1)=v6+1:=wr1 hj5 (Jm2 hc5) hN5
 rw[hw5]
 have hc5:=Jm2 hc5
 cases h
 exact Jz1 fun a ha=>⟨k,_,Ja3 _,⟨K21,v6+1,(y225:(List Bool)),R,(S15.tr S22).wk R,f23,hn24,by omega,by omega,hk18⟩,(ha.mm R)⟩
 rintro _ w8 ⟨K9,s3,rfl,S10,f11,hn12,rfl⟩
 have h:=hK6
 dsimp only[aft]at h
 refine Jp (Je [2,2] R (Jb 2 R (Ju (Ja2 (l:=[.tmp 4]) V99 (Jp2 R R) R ?_))))
 cases h
 exact⟨K9,a9,u9,(by simp only[hn12]),(hE.stp (S3.tr S10) R R),f11⟩
theorem i_RegionOf_ok {w:World}{κ:Col}{ai ad aj ak}{p0:Answer}{p1:Int}(g0_0:Rd (Rp.int .i64) κ w 0 ai ad p0.Won) (g0_1:Rd (Rp.int .i64) κ w 0 aj ak p0.Plan){r:(List Int)}(h:i_RegionOf p0 p1=some r):Ret Tryz.prog 82 [.agg #[.slice ai p0.Won.length ad,.slice aj p0.Plan.length ak],vi p1] w (fun v w'=>∃(κ':Col) (ra0:Option Addr) (ru0:Nat),v= .slice ra0 r.length ru0∧Ent κ w κ' w'∧Oc E6 2 κ' w' 2 ra0 ru0 r):=by
 unfold i_RegionOf at h
 refine Ret.enter F82 R N82 R ?_
 dsimp only[envOf]
 have hE:=Ent.refl κ w
 refine Je [1,2] R (Jf1 (κ:=κ) 2 R R R R R R R fun b2 w1 K2 S3 f4=>⟨tv,Jb 1 R (Jq (Je [2,1,2,2] R (Jf R (Jb2 U34 R Z22 R R) (Jl tv R R R R (Jc2 I22 R R (hvE (f4.ld 0 R R))) (Jf R (Je2 U22 R R) (Jb 1 R ?_))))))⟩)
 revert h
 cases ht5:decide (256<(p0.Won.length:Int))
 refine JF fun h=>Jy R (Js (Jp (Je [1,2] R (Jo1 (κ:=K2) (E:=E6) 3 R R R R R Y22 Tryzinfo2 R fun an al w7 K8 S9 f10=>⟨tv,Jb 1 R (Jq (Je [2,1,2,2] R (Jf R (Jb2 U34 R Z22 R R) (Jl tv R R R R (Jc2 I22 R R (hvE ((f4.stp S9 R R).ld 0 R R))) (Jf R (Je2 U22 R R) (Jb 1 R ?_))))))⟩))))
 have hN12:(p0.Won.length:Int)≤9223372036854775807:=g0_0.len_le
 refine Ob h fun q2 hq14 hK13=>?_
 clear h
 refine Jx1 (fun L w'=>∃κ',∃s3:(List Int),∃af ae,L=[(5,.slice af s3.length ae)]∧Stp [3] K8 w7 κ' w'∧Oc E6 2 κ' w' 3 af ae s3∧q2=Sum.inr s3) ?_ ?_
 refine Jv (Jy1 (fun k L w'=>∃κ' v16,∃s1:(List Int),∃ab aa,L=[(1,vi p1),(5,.slice ab s1.length aa),(14,.slice ai p0.Won.length ad),(15,vi (p0.Won.length:Int)),(16,vi v16)]∧Stp [3] K8 w7 κ' w'∧Oc E6 2 κ' w' 3 ab aa s1∧0≤v16∧Int.toNat ((p0.Won.length:Int)-v16)=k∧cntM (i_RegionOf_b0 p0 p1) k v16 s1=some q2) ⟨_,_,⟨K8,0,(([]:List Int):(List Int)),an,al,R,(Jx2 _ _).wk R,f10,(by decide),(by simp),hq14⟩,(KM R)⟩ ?_)
 rintro k _ w19 ⟨K20,v16,s1,ab,aa,rfl,S21,f22,hj12,hJ12,h⟩
 rcases k with _ | k
 have hk23:=h;obtain⟨o12,h⟩:=ex_eq (Sum.inr (Sum.inl s1):(List Int)⊕(((List Int))⊕((List Int))))
 have hc12:decide (v16<(p0.Won.length:Int))=false:=Jo2 (by omega)
 refine Je [2] R (Jb 1 R (Jq (Jw2 R hc12 (Jc1 (Jt (Jt ?_))))))
 cases h
 have h:=hk23
 refine Jb1 ?_
 cases h
 exact Jw1 _ ⟨K20,(s1:(List Int)),ab,aa,R,S21.wk R,f22,R⟩ (KM R)
 obtain⟨o12,h,hk23⟩:=BI h;unfold i_RegionOf_b0 at h
 have hc12:decide (v16<(p0.Won.length:Int))=true:=Jn2 (by omega)
 refine Je [2] R (Jb 1 R (Jq (Jv2 R hc12 (Js (Jp (Jq (Jv (Je [2,2,1,2,2] R (Jn 1 R (Ob h fun x19 hx19 h=>Jf R (Jf2 g0_0 hx19 U22 Z2 R R R R) (Jl tv R R R R (Jc2 I2 R R (hvE ((g0_0.stp (S3.tr (S9.tr S21)) R R).gInt hx19))) (Jb 2 R (Je [2,2,2] R (Jb 3 R (Ob h fun q4 h hK25=>Jx1 (fun L w'=>∃κ' ah ac,L=[(1,vi p1),(5,.slice ah q4.length ac),(14,.slice ai p0.Won.length ad),(15,vi (p0.Won.length:Int)),(16,vi v16)]∧Stp [3] K20 w19 κ' w'∧Oc E6 2 κ' w' 3 ah ac q4) ?_ ?_)))))))))))))))
 revert h
 cases ht30:(x19==p1)
 refine JF fun h=>Jy R (Js ?_)
 cases h
 exact Jw1 _ ⟨K20,ab,aa,R,(Jx2 _ _).wk R,f22⟩ (KM R)
 refine JT fun h=>Jx R (Ja [2,2,1,1,2] R (Jn 2 R (Jn1 (κ:=K20) (E:=E6) 4 [] (parts:=[(0,.tmp 25)]) (cells:=[vi v16]) (xs:=([v16]:List Int)) R R R R R R Y22 Tryzinfo2 R R R R R R R R R R ⟨[vi v16],[],Zl K20 w19 [],Zl K20 w19 [],R,Zl.sp (l1:=[]) (l2:=[]) R,Zl.sr (l1:=[]) (l2:=[]),R,R⟩ fun ap aq w31 K32 S33 f34=>⟨tv,Ob h fun x27 hx27 h=>Jm1 (κ:=K32) (E:=E6) 3 [] R R R R R R R R R Y22 Tryzinfo2 R R R R (f22.stp S33 R R) (Sl.srcP (pu_int _) f34.rdc) sy_false hx27 R fun am ao w36 K37 S38 f39=>⟨tv,Jc 1 R ?_⟩⟩)))
 cases h
 exact Jw1 _ ⟨K37,am,ao,R,(S33.tr S38).wk R,f39⟩ (KM R)
 rintro _ w26 ⟨K27,ah,ac,rfl,S28,f29⟩
 have h:=hK25
 refine Jz (Jp (Ja [2,2] R (Jc 2 R ?_)))
 have hw12:IntKind.wrap .i64 (v16+1)=v16+1:=wr1 hj12 (Jm2 hc12) hN12
 rw[hw12]
 have hc12:=Jm2 hc12
 cases h
 exact Jz1 fun a ha=>⟨k,_,Ja3 _,⟨K27,v16+1,(q4:(List Int)),ah,ac,R,(S21.tr S28).wk R,f29,by omega,by omega,hk23⟩,(ha.mm R)⟩
 rintro _ w15 ⟨K16,s3,af,ae,rfl,S17,f18,rfl⟩
 have h:=hK13
 dsimp only[aft]at h
 refine Jp (Je [2,2] R (Jb 2 R (Ju (Ja2 (l:=[.tmp 4]) V82 (Jp2 R R) R ?_))))
 cases h
 exact⟨(fun b=>ren [(3,2)] (K16 b)),af,ae,R,((hE.stp (S3.tr (S9.tr S17)) R R).map (ren [(3,2)]) R R),(f18.map (ren [(3,2)]) R R)⟩
 refine JT fun h=>Jx R (Je [2] R (Jb 1 R (Ju (Jw (Ja2 (l:=[.tmp 4]) V82 (Jp2 R R) R ?_)))))
 cases h
 exact⟨K2,none,0,R,(hE.stp S3 R R),Ow.nil⟩
theorem i_listOf_ok {w:World}{κ:Col}{a0 u0}{p0:(List Bool)}(g0:Rd Rp.bool κ w 0 a0 u0 p0){r:(List Int)}(h:i_listOf p0=some r):Ret Tryz.prog 60 [.slice a0 p0.length u0] w (fun v w'=>∃(κ':Col) (ra0:Option Addr) (ru0:Nat),v= .slice ra0 r.length ru0∧Ent κ w κ' w'∧Oc E6 2 κ' w' 2 ra0 ru0 r):=by
 unfold i_listOf at h
 refine Ret.enter F60 R N60 R ?_
 dsimp only[envOf]
 have hE:=Ent.refl κ w
 refine Je [2] R (Jb 1 R (Je [1,2] R (Jo1 (κ:=κ) (E:=E6) 2 R R R R R Y22 Tryzinfo2 R fun a6 u6 w1 K2 S3 f4=>⟨tv,Jb 1 R (Jq (Je [2,2,2] R (Jn 1 R (Jf R (Je2 U70 R R) (Jb 1 R ?_)))))⟩)))
 have hN5:(p0.length:Int)≤9223372036854775807:=g0.len_le
 refine Ob h fun q2 hq7 hK6=>?_
 clear h
 refine Jx1 (fun L w'=>∃κ',∃s3:(List Int),∃ae ad,L=[(3,.slice ae s3.length ad)]∧Stp [2] K2 w1 κ' w'∧Oc E6 2 κ' w' 2 ae ad s3∧q2=Sum.inr s3) ?_ ?_
 refine Jv (Jy1 (fun k L w'=>∃κ' v9,∃s1:(List Int),∃ab aa,L=[(3,.slice ab s1.length aa),(7,.slice a0 p0.length u0),(8,vi (p0.length:Int)),(9,vi v9)]∧Stp [2] K2 w1 κ' w'∧Oc E6 2 κ' w' 2 ab aa s1∧0≤v9∧Int.toNat ((p0.length:Int)-v9)=k∧cntM (i_listOf_b0 p0) k v9 s1=some q2) ⟨_,_,⟨K2,0,(([]:List Int):(List Int)),a6,u6,R,(Jx2 _ _).wk R,f4,(by decide),(by simp),hq7⟩,(KM R)⟩ ?_)
 rintro k _ w12 ⟨K13,v9,s1,ab,aa,rfl,S14,f15,hj5,hJ5,h⟩
 rcases k with _ | k
 have hk16:=h;obtain⟨o5,h⟩:=ex_eq (Sum.inr (Sum.inl s1):(List Int)⊕(((List Int))⊕((List Int))))
 have hc5:decide (v9<(p0.length:Int))=false:=Jo2 (by omega)
 refine Je [2] R (Jb 1 R (Jq (Jw2 R hc5 (Jc1 (Jt (Jt ?_))))))
 cases h
 have h:=hk16
 refine Jb1 ?_
 cases h
 exact Jw1 _ ⟨K13,(s1:(List Int)),ab,aa,R,S14.wk R,f15,R⟩ (KM R)
 obtain⟨o5,h,hk16⟩:=BI h;unfold i_listOf_b0 at h
 have hc5:decide (v9<(p0.length:Int))=true:=Jn2 (by omega)
 refine Je [2] R (Jb 1 R (Jq (Jv2 R hc5 (Js (Jp (Jq (Jv (Je [2,2,1,2,2] R (Jn 1 R (Ob h fun x12 hx12 h=>Jf R (Jf2 g0 hx12 U70 Z4 R R R R) (Jl tv R R R R (Jc2 I4 R R (hvE ((g0.stp (S3.tr S14) R R).gBool hx12))) (Jb 2 R (Je [2] R (Jb 1 R (Ob h fun q4 h hK18=>Jx1 (fun L w'=>∃κ' af ac,L=[(3,.slice af q4.length ac),(7,.slice a0 p0.length u0),(8,vi (p0.length:Int)),(9,vi v9)]∧Stp [2] K13 w12 κ' w'∧Oc E6 2 κ' w' 2 af ac q4) ?_ ?_)))))))))))))))
 revert h
 cases ht23:x12
 refine JF fun h=>Jy R (Js ?_)
 cases h
 exact Jw1 _ ⟨K13,ab,aa,R,(Jx2 _ _).wk R,f15⟩ (KM R)
 refine JT fun h=>Jx R (Ja [2,2,1,1,2] R (Jn 2 R (Jn1 (κ:=K13) (E:=E6) 3 [] (parts:=[(0,.tmp 16)]) (cells:=[vi v9]) (xs:=([v9]:List Int)) R R R R R R Y22 Tryzinfo2 R R R R R R R R R R ⟨[vi v9],[],Zl K13 w12 [],Zl K13 w12 [],R,Zl.sp (l1:=[]) (l2:=[]) R,Zl.sr (l1:=[]) (l2:=[]),R,R⟩ fun ak aj w24 K25 S26 f27=>⟨tv,Ob h fun x18 hx18 h=>Jm1 (κ:=K25) (E:=E6) 2 [] R R R R R R R R R Y22 Tryzinfo2 R R R R (f15.stp S26 R R) (Sl.srcP (pu_int _) f27.rdc) sy_false hx18 R fun ah ai w29 K30 S31 f32=>⟨tv,Jc 1 R ?_⟩⟩)))
 cases h
 exact Jw1 _ ⟨K30,ah,ai,R,(S26.tr S31).wk R,f32⟩ (KM R)
 rintro _ w19 ⟨K20,af,ac,rfl,S21,f22⟩
 have h:=hK18
 refine Jz (Jp (Ja [2,2] R (Jc 2 R ?_)))
 have hw5:IntKind.wrap .i64 (v9+1)=v9+1:=wr1 hj5 (Jm2 hc5) hN5
 rw[hw5]
 have hc5:=Jm2 hc5
 cases h
 exact Jz1 fun a ha=>⟨k,_,Ja3 _,⟨K20,v9+1,(q4:(List Int)),af,ac,R,(S14.tr S21).wk R,f22,by omega,by omega,hk16⟩,(ha.mm R)⟩
 rintro _ w8 ⟨K9,s3,ae,ad,rfl,S10,f11,rfl⟩
 have h:=hK6
 dsimp only[aft]at h
 refine Jp (Je [2,2] R (Jb 2 R (Ju (Ja2 (l:=[.tmp 2]) V60 (Jp2 R R) R ?_))))
 cases h
 exact⟨K9,ae,ad,R,(hE.stp (S3.tr S10) R R),f11⟩
theorem i_predsOf_ok {w:World}{κ:Col}{af ae ac ad}{p0:Arena}(g0_0:Rd (Rp.int .i64) κ w 0 af ae p0.Owner) (g0_1:Rd (Rp.sl (Rp.int .i64)) κ w 0 ac ad p0.Next){r:(List (List Int))}(h:i_predsOf p0=some r):Ret Tryz.prog 91 [.agg #[.slice af p0.Owner.length ae,.slice ac p0.Next.length ad]] w (fun v w'=>∃(κ':Col) (ra0:Option Addr) (ru0:Nat),v= .slice ra0 r.length ru0∧Ent κ w κ' w'∧Oc (Ep.own E6 2) 22 κ' w' 2 ra0 ru0 r):=by
 unfold i_predsOf at h
 refine Ret.enter F91 R N91 R ?_
 dsimp only[envOf]
 have hE:=Ent.refl κ w
 refine Je [1,2] R (Jf1 (κ:=κ) 2 R R R R R R R fun b1 w1 K2 S3 f4=>⟨tv,Jb 1 R (Je [2,1,2,1,2] R (Jf R (Jb2 U37 R Z22 R R) (Jl tv R R R R (Jc2 I22 R R (hvE (f4.ld 0 R R))) (Jf R (Je2 U22 R R) (Ob h fun x11 hx11 h=>Jl1 (κ:=K2) (E:=(Ep.own E6 2)) (z:=(([]:List Int):(List Int))) 3 R R R R R R R Y23 Tryzinfo22 R R R R R (fun _ _ _=>⟨none,0,R,Ow.nil⟩) (Ju2 hx11) fun ab aa w5 K6 S7 f8=>⟨tv,Jb 1 R (Jq (Je [2,1,2,2] R (Jf R (Jb2 U37 R Z23 R R) (Jl tv R R R R (Jc2 I23 R R (hvE ((f4.stp S7 R R).ld 1 R R))) (Jf R (Je2 U23 R R) (Jb 1 R ?_))))))⟩)))))⟩)
 have hN10:(p0.Next.length:Int)≤9223372036854775807:=g0_1.len_le
 refine Ob h fun q2 hq12 hK11=>?_
 clear h
 refine Jx1 (fun L w'=>∃κ',∃s3:(List (List Int)),L=[(3,.slice ab x11.length aa)]∧Stp [3,5] K6 w5 κ' w'∧Oc (Ep.own E6 2) 22 κ' w' 3 ab aa s3∧x11.length=s3.length∧q2=Sum.inr s3) ?_ ?_
 refine Jv (Jy1 (fun k L w'=>∃κ' v15,∃s1:(List (List Int)),L=[(3,.slice ab x11.length aa),(13,.slice ac p0.Next.length ad),(14,vi (p0.Next.length:Int)),(15,vi v15)]∧Stp [3,5] K6 w5 κ' w'∧Oc (Ep.own E6 2) 22 κ' w' 3 ab aa s1∧x11.length=s1.length∧0≤v15∧Int.toNat ((p0.Next.length:Int)-v15)=k∧cntM (i_predsOf_b0 p0) k v15 s1=some q2) ⟨_,_,⟨K6,0,(x11:(List (List Int))),R,(Jx2 _ _).wk R,f8,R,(by decide),(by simp),hq12⟩,(KM R)⟩ ?_)
 rintro k _ w18 ⟨K19,v15,s1,rfl,S20,f21,hn22,hj10,hJ10,h⟩
 rcases k with _ | k
 have hk23:=h;obtain⟨o10,h⟩:=ex_eq (Sum.inr (Sum.inl s1):(List (List Int))⊕(((List (List Int)))⊕((List (List Int)))))
 have hc10:decide (v15<(p0.Next.length:Int))=false:=Jo2 (by omega)
 refine Je [2] R (Jb 1 R (Jq (Jw2 R hc10 (Jc1 (Jt (Jt ?_))))))
 cases h
 have h:=hk23
 refine Jb1 ?_
 cases h
 exact Jw1 _ ⟨K19,(s1:(List (List Int))),R,S20.wk R,f21,hn22,R⟩ (KM R)
 obtain⟨o10,h,hk23⟩:=BI h;unfold i_predsOf_b0 at h
 have hc10:decide (v15<(p0.Next.length:Int))=true:=Jn2 (by omega)
 refine Je [2] R (Jb 1 R (Jq (Jv2 R hc10 (Js (Jp (Jq (Jv (Je [2,2,1,2,2] R (Jn 1 R (Ob h fun x18 hx18 h=>Jf R (Jf2 g0_1 hx18 U23 Z22 R R R R) ?_))))))))))
 obtain⟨ax18,ux18,f25,hl26⟩:=(g0_1.stp (S3.tr (S7.tr S20)) R R).gSl hx18
 refine Jl tv R R R R (Jc2 I22 R R (hvE hl26)) (Jb 2 R (Je [2,2,2] R (Jn 1 R (Jf R (Je2 U22 R R) (Jb 1 R ?_)))))
 have hN27:(x18.length:Int)≤9223372036854775807:=f25.len_le
 refine Ob h fun q5 hq29 hK28=>?_
 clear h
 refine Jx1 (fun L w'=>∃κ',∃s6:(List (List Int)),L=[(3,.slice ab x11.length aa),(13,.slice ac p0.Next.length ad),(14,vi (p0.Next.length:Int)),(15,vi v15)]∧Stp [3,5] K19 w18 κ' w'∧Oc (Ep.own E6 2) 22 κ' w' 3 ab aa s6∧x11.length=s6.length∧q5=Sum.inr s6) ?_ ?_
 refine Jv (Jy1 (fun k L w'=>∃κ' v22,∃s4:(List (List Int)),L=[(3,.slice ab x11.length aa),(4,vi v15),(13,.slice ac p0.Next.length ad),(14,vi (p0.Next.length:Int)),(15,vi v15),(20,.slice ax18 x18.length ux18),(21,vi (x18.length:Int)),(22,vi v22)]∧Stp [3,5] K19 w18 κ' w'∧Oc (Ep.own E6 2) 22 κ' w' 3 ab aa s4∧x11.length=s4.length∧0≤v22∧Int.toNat ((x18.length:Int)-v22)=k∧cntM (i_predsOf_b2 v15 x18) k v22 s4=some q5) ⟨_,_,⟨K19,0,(s1:(List (List Int))),R,(Jx2 _ _).wk R,f21,hn22,(by decide),(by simp),hq29⟩,(KM R)⟩ ?_)
 rintro k _ w35 ⟨K36,v22,s4,rfl,S37,f38,hn39,hj27,hJ27,h⟩
 rcases k with _ | k
 have hk40:=h;obtain⟨o27,h⟩:=ex_eq (Sum.inr (Sum.inl s4):(List (List Int))⊕(((List (List Int)))⊕((List (List Int)))))
 have hc27:decide (v22<(x18.length:Int))=false:=Jo2 (by omega)
 refine Je [2] R (Jb 1 R (Jq (Jw2 R hc27 (Jc1 (Jt (Jt ?_))))))
 cases h
 have h:=hk40
 refine Jb1 ?_
 cases h
 exact Jw1 _ ⟨K36,(s4:(List (List Int))),R,S37.wk R,f38,hn39,R⟩ (KM R)
 obtain⟨o27,h,hk40⟩:=BI h;unfold i_predsOf_b2 at h
 have hc27:decide (v22<(x18.length:Int))=true:=Jn2 (by omega)
 refine Je [2] R (Jb 1 R (Jq (Jv2 R hc27 (Js (Jp (Jq (Jv (Je [2,1,2] R (Ob h fun x24 hx24 h=>Jf R (Jf2 f25 hx24 U22 Z2 R R R R) (Jl tv R R R R (Jc2 I2 R R (hvE ((f25.stp S37 R R).gInt hx24))) (Jb 1 R (Ja [2,2,2,2,2,1,2,1,1,2,1] R (Jn 4 R (Ob h fun x30 hx30 h=>Jf R (Jf2 f38.rdc hx30 U23 Z22 R R hn39 R) ?_))))))))))))))
 obtain⟨ax30,ux30,f42,hl43⟩:=f38.rdc.gSl hx30
 refine Jl tv R R R R (Jc2 I22 R R (hvE hl43)) (Jn 1 R (Jn1 (κ:=K36) (E:=E6) 4 [] (parts:=[(0,.tmp 32)]) (cells:=[vi v15]) (xs:=([v15]:List Int)) R R R R R R Y22 Tryzinfo2 R R R R R R R R R R ⟨[vi v15],[],Zl K36 w35 [],Zl K36 w35 [],R,Zl.sp (l1:=[]) (l2:=[]) R,Zl.sr (l1:=[]) (l2:=[]),R,R⟩ fun ai ah w44 K45 S46 f47=>⟨tv,?_⟩))
 have f48:=f38.stp S46 R R
 obtain⟨K49,S50,f51,f52⟩:=f48.borrow hx30 (hl43 _ (Stp.ag S46 R)) 5 R R
 refine Ob h fun x34 hx34 h=>Jm1 (κ:=K49) (E:=E6) 5 [] R R R R R R R R R Y22 Tryzinfo2 R R R R f51 (Sl.srcP (pu_int _) (f47.stp S50 R R).rdc) sy_false hx34 R fun aj ak w54 K55 S56 f57=>⟨tv,Ob h fun x35 hx35 h=>Jf R (Jf2 f48.rdc hx35 U23 Z22 R R hn39 R) (Ob h fun y285 hy285 h=>WO.stH (κ:=K55) (E:=(Ep.own E6 2)) 3 [5] R R R R R R R R Z22 R ⟨_,_,R,f57⟩ R R (f52.stp S56 R R) hy285 fun w59 K60 S61 f62=>⟨tv,?_⟩)⟩
 have hn63:x11.length=y285.length:=hn39.trans (Jt2 hy285).2.2.2.symm
 refine Jo (Jz (Jp (Ja [2,2] R (Jc 2 R ?_))))
 have hw27:IntKind.wrap .i64 (v22+1)=v22+1:=wr1 hj27 (Jm2 hc27) hN27
 rw[hw27]
 have hc27:=Jm2 hc27
 cases h
 exact Jz1 fun a ha=>⟨k,_,Ja3 _,⟨K60,v22+1,(y285:(List (List Int))),R,(S37.tr (S46.tr (S50.tr (S56.tr S61)))).wk R,f62,hn63,by omega,by omega,hk40⟩,(ha.mm R)⟩
 rintro _ w30 ⟨K31,s6,rfl,S32,f33,hn34,rfl⟩
 have h:=hK28
 dsimp only[aft]at h
 refine Jz (Jp (Ja [2,2] R (Jc 2 R ?_)))
 have hw10:IntKind.wrap .i64 (v15+1)=v15+1:=wr1 hj10 (Jm2 hc10) hN10
 rw[hw10]
 have hc10:=Jm2 hc10
 cases h
 exact Jz1 fun a ha=>⟨k,_,Ja3 _,⟨K31,v15+1,(s6:(List (List Int))),R,(S20.tr S32).wk R,f33,hn34,by omega,by omega,hk23⟩,(ha.mm R)⟩
 rintro _ w13 ⟨K14,s3,rfl,S15,f16,hn17,rfl⟩
 have h:=hK11
 dsimp only[aft]at h
 refine Jp (Je [2,2] R (Jb 2 R (Ju (Ja2 (l:=[.tmp 2]) V91 (Jp2 R R) R ?_))))
 cases h
 exact⟨(fun b=>ren [(3,2)] (K14 b)),ab,aa,(by simp only[hn17]),((hE.stp (S3.tr (S7.tr S15)) R R).map (ren [(3,2)]) R R),(f16.map (ren [(3,2)]) R R)⟩
theorem i_without_ok {w:World}{κ:Col}{a0 u0}{p0:(List Bool)}{a1 u1}{p1:(List Bool)}(g0:Rd Rp.bool κ w 0 a0 u0 p0) (g1:Rd Rp.bool κ w 0 a1 u1 p1){r:(List Bool)}(h:i_without p0 p1=some r):Ret Tryz.prog 131 [.slice a0 p0.length u0,.slice a1 p1.length u1] w (fun v w'=>∃(κ':Col) (ra0:Option Addr) (ru0:Nat),v= .slice ra0 r.length ru0∧Ent κ w κ' w'∧Oc Ep.bool 4 κ' w' 2 ra0 ru0 r):=by
 unfold i_without at h
 refine Ret.enter F131 R N131 R ?_
 dsimp only[envOf]
 have hE:=Ent.refl κ w
 refine Je [2] R (Jb 1 R (Je [2,2,1,2] R (Jn 1 R (Jf R (Je2 U70 R R) (Ob h fun x9 hx9 h=>Jl1 (κ:=κ) (E:=Ep.bool) (z:=(false:Bool)) 2 R R R R R R R Y70 Tryzinfo4 R R R R R (fun _ _ _=>R) (Ju2 hx9) fun a9 u9 w1 K2 S3 f4=>⟨tv,Jb 1 R (Jq (Je [2,2,2] R (Jn 1 R (Jf R (Je2 U70 R R) (Jb 1 R ?_)))))⟩)))))
 have hN5:(p0.length:Int)≤9223372036854775807:=g0.len_le
 refine Ob h fun q2 hq7 hK6=>?_
 clear h
 refine Jx1 (fun L w'=>∃κ',∃s3:(List Bool),L=[(5,.slice a9 x9.length u9)]∧Stp [2] K2 w1 κ' w'∧Oc Ep.bool 4 κ' w' 2 a9 u9 s3∧x9.length=s3.length∧q2=Sum.inr s3) ?_ ?_
 refine Jv (Jy1 (fun k L w'=>∃κ' v12,∃s1:(List Bool),L=[(0,.slice a0 p0.length u0),(1,.slice a1 p1.length u1),(5,.slice a9 x9.length u9),(11,vi (p0.length:Int)),(12,vi v12)]∧Stp [2] K2 w1 κ' w'∧Oc Ep.bool 4 κ' w' 2 a9 u9 s1∧x9.length=s1.length∧0≤v12∧Int.toNat ((p0.length:Int)-v12)=k∧cntM (i_without_b0 p0 p1) k v12 s1=some q2) ⟨_,_,⟨K2,0,(x9:(List Bool)),R,(Jx2 _ _).wk R,f4,R,(by decide),(by simp),hq7⟩,(KM R)⟩ ?_)
 rintro k _ w13 ⟨K14,v12,s1,rfl,S15,f16,hn17,hj5,hJ5,h⟩
 rcases k with _ | k
 have hk18:=h;obtain⟨o5,h⟩:=ex_eq (Sum.inr (Sum.inl s1):(List Bool)⊕(((List Bool))⊕((List Bool))))
 have hc5:decide (v12<(p0.length:Int))=false:=Jo2 (by omega)
 refine Je [2] R (Jb 1 R (Jq (Jw2 R hc5 (Jc1 (Jt (Jt ?_))))))
 cases h
 have h:=hk18
 refine Jb1 ?_
 cases h
 exact Jw1 _ ⟨K14,(s1:(List Bool)),R,S15.wk R,f16,hn17,R⟩ (KM R)
 obtain⟨o5,h,hk18⟩:=BI h;unfold i_without_b0 at h
 have hc5:decide (v12<(p0.length:Int))=true:=Jn2 (by omega)
 refine Je [2] R (Jb 1 R (Jq (Jv2 R hc5 (Js (Jp (Jq (Jv (Je [2,2] R (Jb 2 R (Ja [2,2,2,2,2,1,2,2,2,2,1,2,2,2,1] R (Jn 4 R (Ob h fun x19 hx19 h=>Jf R (Jf2 g0 hx19 U70 Z4 R R R R) (Jl tv R R R R (Jc2 I4 R R (hvE ((g0.stp (S3.tr S15) R R).gBool hx19))) (Jn 1 R (Ob h fun p27 h hK20=>Ju1 [(7,2),(8,2),(9,2),(10,1),(11,2),(12,2)] [(13,2),(14,1)] (fun L w'=>L=[(0,.slice a0 p0.length u0),(1,.slice a1 p1.length u1),(5,.slice a9 x9.length u9),(11,vi (p0.length:Int)),(12,vi v12),(15,.slice a9 x9.length u9),(16,vi v12),(27,.bool p27)]∧∃κ',Stp [] K14 w13 κ' w') tv ?_ ?_)))))))))))))))
 revert h
 cases ht21:x19
 refine JF fun h=>Jn 3 R (Jd1 R R R R (Jn 2 R ?_))
 cases h
 exact Jv1 _ tv ⟨R,_,(Jx2 _ _).wk R⟩ (KM R)
 refine JT fun h=>Jn 2 R (Ob h fun x24 hx24 h=>Jf R (Jf2 g1 hx24 U70 Z4 R R R R) (Jl tv R R R R (Jc2 I4 R R (hvE ((g1.stp (S3.tr S15) R R).gBool hx24))) (Jn 2 R ?_)))
 cases h
 exact Jv1 _ tv ⟨R,_,(Jx2 _ _).wk R⟩ (KM R)
 rintro _ w23 _ ⟨rfl,K24,S25⟩
 have h:=hK20
 refine Ob h fun x28 hx28 h=>Jf R (Jf2 f16.rdc hx28 U70 Z4 R R hn17 R) (Ob h fun y303 hy303 h=>Jk1 (κ:=K24) (E:=Ep.bool) 2 [] R R R R R R R R Z4 R R R R (f16.stp S25 R R) hy303 fun w27 K28 S29 f30=>⟨tv,?_⟩)
 have hn31:x9.length=y303.length:=hn17.trans (Jt2 hy303).2.2.2.symm
 refine Jo (Jz (Jp (Ja [2,2] R (Jc 2 R ?_))))
 have hw5:IntKind.wrap .i64 (v12+1)=v12+1:=wr1 hj5 (Jm2 hc5) hN5
 rw[hw5]
 have hc5:=Jm2 hc5
 cases h
 exact Jz1 fun a ha=>⟨k,_,Ja3 _,⟨K28,v12+1,(y303:(List Bool)),R,(S15.tr (S25.tr S29)).wk R,f30,hn31,by omega,by omega,hk18⟩,(ha.mm R)⟩
 rintro _ w8 ⟨K9,s3,rfl,S10,f11,hn12,rfl⟩
 have h:=hK6
 dsimp only[aft]at h
 refine Jp (Je [2,2] R (Jb 2 R (Ju (Ja2 (l:=[.tmp 4]) V131 (Jp2 R R) R ?_))))
 cases h
 exact⟨K9,a9,u9,(by simp only[hn12]),(hE.stp (S3.tr S10) R R),f11⟩
theorem slices_Index_bool_bool_ok {w:World}{κ:Col}{a0 u0}{p0:(List Bool)}{p1:Bool}(g0:Rd Rp.bool κ w 0 a0 u0 p0){r:Int}(h:slices_Index_bool_bool p0 p1=some r):Ret Tryz.prog 174 [.slice a0 p0.length u0,.bool p1] w (fun v w'=>∃(κ':Col),v=vi r∧Ent κ w κ' w'):=by
 unfold slices_Index_bool_bool at h
 refine Ret.enter F174 R N174 R ?_
 dsimp only[envOf]
 have hE:=Ent.refl κ w
 refine Je [2] R (Jb 1 R (Jq (Je [2,2,2] R (Jn 1 R (Jf R (Je2 U70 R R) (Jb 1 R ?_))))))
 have hN1:(p0.length:Int)≤9223372036854775807:=g0.len_le
 refine Ob h fun q2 hq3 hK2=>?_
 clear h
 refine Jx1 (fun L w'=>∃κ',L=[]∧Stp [] κ w κ' w'∧q2=Sum.inr ()) ?_ ?_
 refine Jv (Jy1 (fun k L w'=>∃κ' v8,L=[(0,.slice a0 p0.length u0),(1,.bool p1),(7,vi (p0.length:Int)),(8,vi v8)]∧Stp [] κ w κ' w'∧0≤v8∧Int.toNat ((p0.length:Int)-v8)=k∧cntM (slices_Index_bool_bool_b0 p0 p1) k v8 ()=some q2) ⟨_,_,⟨κ,0,R,(Jx2 _ _).wk R,(by decide),(by simp),hq3⟩,(KM R)⟩ ?_)
 rintro k _ w7 ⟨K8,v8,rfl,S9,hj1,hJ1,h⟩
 rcases k with _ | k
 have hk10:=h;obtain⟨o1,h⟩:=ex_eq (Sum.inr (Sum.inl ()):Int⊕((Unit)⊕(Unit)))
 have hc1:decide (v8<(p0.length:Int))=false:=Jo2 (by omega)
 refine Je [2] R (Jb 1 R (Jq (Jw2 R hc1 (Jc1 (Jt (Jt ?_))))))
 cases h
 have h:=hk10
 refine Jb1 ?_
 cases h
 exact Jw1 _ ⟨K8,R,S9.wk R,R⟩ KN
 obtain⟨o1,h,hk10⟩:=BI h;unfold slices_Index_bool_bool_b0 at h
 have hc1:decide (v8<(p0.length:Int))=true:=Jn2 (by omega)
 refine Je [2] R (Jb 1 R (Jq (Jv2 R hc1 (Js (Jp (Jq (Jv (Je [2,2] R (Jb 2 R (Je [2,2,2,2,1,2] R (Jn 3 R (Ob h fun x14 hx14 h=>Jf R (Jf2 g0 hx14 U70 Z4 R R R R) (Jl tv R R R R (Jc2 I4 R R (hvE ((g0.stp S9 R R).gBool hx14))) (Jf R (rn_eqlB R R U4 R) (Jd ?_)))))))))))))))
 revert h
 cases ht12:(p1==x14)
 refine JF fun h=>Jy R (Js (Jz (Jp (Ja [2,2] R (Jc 2 R ?_)))))
 have hw1:IntKind.wrap .i64 (v8+1)=v8+1:=wr1 hj1 (Jm2 hc1) hN1
 rw[hw1]
 have hc1:=Jm2 hc1
 cases h
 exact Jz1 fun a ha=>⟨k,_,Ja3 _,⟨K8,v8+1,R,S9.wk R,by omega,by omega,hk10⟩,(ha.mm R)⟩
 refine JT fun h=>Jx R (Je [2,2] R (Jb 2 R (Ju (Ja1 (Jw (Jw ?_))))))
 cases h
 obtain rfl:=Option.some.inj hk10
 have h:=hK2
 dsimp only[aft]at h
 refine Ja1 (Jq2 (Jw (Ja2 (l:=[.tmp 4]) V174 (Jp2 R R) R ?_)))
 cases h
 exact⟨K8,R,(hE.stp S9 R R)⟩
 rintro _ w4 ⟨K5,rfl,S6,rfl⟩
 have h:=hK2
 dsimp only[aft]at h
 refine Jp (Je [2] R (Jb 1 R (Ju (Ja2 (l:=[.tmp 4]) V174 (Jp2 R R) R ?_))))
 cases h
 exact⟨K5,R,(hE.stp S6 R R)⟩
theorem l_w6Has_ok {w:World}{κ:Col}{a0 u0}{p0:(List Int)}{p1:Int}(g0:Rd (Rp.int .i64) κ w 0 a0 u0 p0){r:Bool}(h:l_w6Has p0 p1=some r):Ret Tryz.prog 30 [.slice a0 p0.length u0,vi p1] w (fun v w'=>∃(κ':Col),v= .bool r∧Ent κ w κ' w'):=by
 unfold l_w6Has at h
 refine Ret.enter F30 R N30 R ?_
 dsimp only[envOf]
 have hE:=Ent.refl κ w
 refine Je [2] R (Jb 1 R (Jq (Je [2] R (Jb 1 R ?_))))
 have hN1:(p0.length:Int)≤9223372036854775807:=g0.len_le
 refine Ob h fun q2 hq3 hK2=>?_
 clear h
 refine Jx1 (fun L w'=>∃κ',L=[]∧Stp [] κ w κ' w'∧q2=Sum.inr ()) ?_ ?_
 refine Jv (Jy1 (fun k L w'=>∃κ' v5,L=[(0,.slice a0 p0.length u0),(1,vi p1),(5,vi v5)]∧Stp [] κ w κ' w'∧0≤v5∧Int.toNat ((p0.length:Int)-v5)=k∧cntM (l_w6Has_b0 p0 p1) k v5 ()=some q2) ⟨_,_,⟨κ,0,R,(Jx2 _ _).wk R,(by decide),(by simp),hq3⟩,(KM R)⟩ ?_)
 rintro k _ w7 ⟨K8,v5,rfl,S9,hj1,hJ1,h⟩
 rcases k with _ | k
 have hk10:=h;obtain⟨o1,h⟩:=ex_eq (Sum.inr (Sum.inl ()):Bool⊕((Unit)⊕(Unit)))
 have hc1:decide (v5<(p0.length:Int))=false:=Jo2 (by omega)
 refine Jq (Je [2,2,2,2] R (Jn 2 R (Jf R (Je2 U22 R R) (Jb 1 R (Jw2 R hc1 (Jc1 (Jt (Jt ?_))))))))
 cases h
 have h:=hk10
 refine Jb1 ?_
 cases h
 exact Jw1 _ ⟨K8,R,S9.wk R,R⟩ KN
 obtain⟨o1,h,hk10⟩:=BI h;unfold l_w6Has_b0 at h
 have hc1:decide (v5<(p0.length:Int))=true:=Jn2 (by omega)
 refine Jq (Je [2,2,2,2] R (Jn 2 R (Jf R (Je2 U22 R R) (Jb 1 R (Jv2 R hc1 (Js (Jp (Jq (Jv (Je [2,2,2,1,2,2] R (Jn 2 R (Ob h fun x14 hx14 h=>Jf R (Jf2 g0 hx14 U22 Z2 R R R R) (Jl tv R R R R (Jc2 I2 R R (hvE ((g0.stp S9 R R).gInt hx14))) (Jb 2 R ?_))))))))))))))
 revert h
 cases ht12:(x14==p1)
 refine JF fun h=>Jy R (Js (Jz (Jp (Ja [2,2,2] R (Jc 3 R ?_)))))
 have hw1:IntKind.wrap .i64 (v5+1)=v5+1:=wr1 hj1 (Jm2 hc1) hN1
 rw[hw1]
 have hc1:=Jm2 hc1
 cases h
 exact Jz1 fun a ha=>⟨k,_,Ja3 _,⟨K8,v5+1,R,S9.wk R,by omega,by omega,hk10⟩,(ha.mm R)⟩
 refine JT fun h=>Jx R (Je [2] R (Jb 1 R (Ju (Ja1 (Jw (Jw ?_))))))
 cases h
 obtain rfl:=Option.some.inj hk10
 have h:=hK2
 dsimp only[aft]at h
 refine Ja1 (Jq2 (Jw (Ja2 (l:=[.tmp 4]) V30 (Jp2 R R) R ?_)))
 cases h
 exact⟨K8,R,(hE.stp S9 R R)⟩
 rintro _ w4 ⟨K5,rfl,S6,rfl⟩
 have h:=hK2
 dsimp only[aft]at h
 refine Jp (Je [2] R (Jb 1 R (Ju (Ja2 (l:=[.tmp 4]) V30 (Jp2 R R) R ?_))))
 cases h
 exact⟨K5,R,(hE.stp S6 R R)⟩
end Go.Proofs.YtmiilifclnanlaaGreat
