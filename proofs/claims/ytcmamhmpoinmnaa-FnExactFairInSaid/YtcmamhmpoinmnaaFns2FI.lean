/- The walks, part 2. By program. -/
import Derived.Test.YtcmamhmpoinmnaaFns1FI
set_option linter.unusedVariables false
set_option linter.unusedSimpArgs false
namespace Go.Proofs.Ytcmamhmpoinmnaa
open Go Go.Wk Go.Proofs
set_option maxRecDepth 100000
set_option maxHeartbeats 1000000
theorem l_szPairS_ok {w : World} {κ : Col} {a0 u0} {p0 : (List Pair)} {p1 : Int} (g0 : Rd Pair.rp κ w 0 a0 u0 p0) {r : Int} (h : l_szPairS p0 p1 = some r) : Ret Try.prog 7 [.slice a0 p0.length u0, vi p1] w (fun v w' => ∃ (κ' : Col), v = vi r ∧ Ent κ w κ' w') := by
 unfold l_szPairS at h
 refine Ret.enter F7 R N7 R ?_
 dsimp only [envOf]
 have hE := Ent.refl κ w
 refine Je [2] R (Jb 1 R (Je [2, 2, 2, 2, 2] R (Jn 2 R (Jf R (Je2 U23 R R) (Jb 2 R (Jq (Je [2, 2] R (Jb 2 R ?_))))))))
 revert h
 cases ht1 : decide ((IntKind.i64.wrap (p1 - (p0.length : Int))) < 0)
 refine JF fun h => Jy R (Js (Jp (Jq (Je [2] R (Jb 1 R ?_)))))
 have hN2 : (p0.length : Int) ≤ 9223372036854775807 := g0.len_le
 refine Ob h fun q2 hq4 hK3 => ?_
 clear h
 refine Jx1 (fun L w' => ∃ κ' s3, L = [(1, vi s3)] ∧ Stp [] κ w κ' w' ∧ q2 = Sum.inr s3) ?_ ?_
 refine Jv (Jy1 (fun k L w' => ∃ κ' v5 s1, L = [(0, .slice a0 p0.length u0), (1, vi s1), (5, vi v5)] ∧ Stp [] κ w κ' w' ∧ 0 ≤ v5 ∧ Int.toNat ((p0.length : Int) - v5) = k ∧ cntM (l_szPairS_b0 p0) k v5 s1 = some q2) ⟨_, _, ⟨κ, 0, ((IntKind.i64.wrap (p1 - (p0.length : Int))) : Int), R, (Jx2 _ _).wk R, (by decide), (by simp), hq4⟩, (KM R)⟩ ?_)
 rintro k _ w8 ⟨K9, v5, s1, rfl, S10, hj2, hJ2, h⟩
 rcases k with _ | k
 have hk11 := h; obtain ⟨o2, h⟩ := ex_eq (Sum.inr (Sum.inl s1) : Int ⊕ ((Int) ⊕ (Int)))
 have hc2 : decide (v5 < (p0.length : Int)) = false := Jo2 (by omega)
 refine Jq (Je [2, 2, 2, 2] R (Jn 2 R (Jf R (Je2 U23 R R) (Jb 1 R (Jw2 R hc2 (Jc1 (Jt (Jt ?_))))))))
 cases h
 have h := hk11
 refine Jb1 ?_
 cases h
 exact Jw1 _ ⟨K9, (s1 : Int), R, S10.wk R, R⟩ (KM R)
 obtain ⟨o2, h, hk11⟩ := BI h; unfold l_szPairS_b0 at h
 have hc2 : decide (v5 < (p0.length : Int)) = true := Jn2 (by omega)
 refine Jq (Je [2, 2, 2, 2] R (Jn 2 R (Jf R (Je2 U23 R R) (Jb 1 R (Jv2 R hc2 (Js (Jp (Jq (Jv (Je [2, 2, 2, 1, 2, 1, 2] R (Jn 2 R (Ob h fun x20 hx20 h => Jf R (Jf2 g0 hx20 U23 Z64 R R R R) ?_))))))))))))
 obtain ⟨cse13, hre13, hle13⟩ := ((g0.stp S10 R R)).gSt hx20
 obtain ⟨ae13_0, ue13_0, ae13_1, ue13_1, rfl, fe13_0, fe13_1⟩ := Pair.un hre13
 refine Jl tv R R R R (Jd2 (cs := [.slice ae13_0 x20.Ask.length ue13_0, .slice ae13_1 x20.Give.length ue13_1]) I64 Z64 R R R (haE hle13)) (Jn 1 R (Ob h fun x23 hx23 h => Jh R R R C27 (l_szPair_ok (κ := fun b => mp [] 0 (K9 b)) (p0 := x20) (Jl2 fe13_0 (mp [] 0) R R) (Jl2 fe13_1 (mp [] 0) R R) hx23) ?_))
 rintro _ w14 ⟨k15, rfl, e16⟩
 obtain ⟨K17, S18, m19⟩ := Ji e16 2 R
 refine ⟨tv, Jb 1 R (Je [2, 2] R (Jb 2 R ?_))⟩
 revert h
 cases ht21 : decide (x23 < 0)
 refine JF fun h => Jy R (Js (Jz (Jp (Ja [2, 2, 2] R (Jc 3 R ?_)))))
 have hw2 : IntKind.wrap .i64 (v5 + 1) = v5 + 1 := wr1 hj2 (Jm2 hc2) hN2
 rw [hw2]
 have hc2 := Jm2 hc2
 cases h
 exact Jz1 fun a ha => ⟨k, _, Ja3 _, ⟨K17, v5 + 1, (x23 : Int), R, (S10.tr S18).wk R, by omega, by omega, hk11⟩, (ha.mm R)⟩
 refine JT fun h => Jx R (Je [2] R (Jb 1 R (Ju (Ja1 (Jw (Jw ?_))))))
 cases h
 obtain rfl := Option.some.inj hk11
 have h := hK3
 dsimp only [aft] at h
 refine Ja1 (Jq2 (Jw (Ja2 (l := [.tmp 4]) V7 (Jp2 R R) R ?_)))
 cases h
 exact ⟨K17, R, (hE.stp (S10.tr S18) R R)⟩
 rintro _ w5 ⟨K6, s3, rfl, S7, rfl⟩
 have h := hK3
 dsimp only [aft] at h
 refine Jp (Je [2, 2] R (Jb 2 R (Ju (Ja2 (l := [.tmp 4]) V7 (Jp2 R R) R ?_))))
 cases h
 exact ⟨K6, R, (hE.stp S7 R R)⟩
 refine JT fun h => Jx R (Je [2] R (Jb 1 R (Ju (Jw (Ja2 (l := [.tmp 4]) V7 (Jp2 R R) R ?_)))))
 cases h
 exact ⟨κ, R, hE⟩
theorem l_toPairS_ok {w : World} {κ : Col} {a0 u0} {p0 : (List Pair)} (g0 : Rd Pair.rp κ w 0 a0 u0 p0) {r : (List Pair)} (h : l_toPairS p0 = some r) : Ret Try.prog 10 [.slice a0 p0.length u0] w (fun v w' => ∃ (κ' : Col) (ra0 : Option Addr) (ru0 : Nat), v = .slice ra0 r.length ru0 ∧ Ent κ w κ' w' ∧ Oc Pair.ep42 42 κ' w' 2 ra0 ru0 r) := by
 unfold l_toPairS at h
 refine Ret.enter F10 R N10 R ?_
 dsimp only [envOf]
 have hE := Ent.refl κ w
 refine Je [2] R (Jb 1 R (Je [2, 2, 1, 2] R (Jn 1 R (Jf R (Je2 U23 R R) (Ob h fun x7 hx7 h => Jl1 (κ := κ) (E := Pair.ep42) (z := ((⟨([] : List Int), ([] : List Int)⟩ : Pair) : Pair)) 2 R R R R R R R Y29 Tryinfo42 R R R R R (fun _ _ _ => ⟨[.slice none 0 0], [.slice none 0 0], fun _ => False, fun _ => False, R, fun _ h => h.elim, fun _ h => h.elim, ⟨none, 0, R, Ow.nil⟩, ⟨none, 0, R, Ow.nil⟩⟩) (Ju2 hx7) fun a7 u7 w1 K2 S3 f4 => ⟨tv, Jb 1 R (Jq (Je [2] R (Jb 1 R ?_)))⟩)))))
 have hN5 : (p0.length : Int) ≤ 9223372036854775807 := g0.len_le
 refine Ob h fun q2 hq7 hK6 => ?_
 clear h
 refine Jx1 (fun L w' => ∃ κ', ∃ s3 : (List Pair), L = [(3, .slice a7 x7.length u7)] ∧ Stp [2, 5, 6] K2 w1 κ' w' ∧ Oc Pair.ep42 42 κ' w' 2 a7 u7 s3 ∧ x7.length = s3.length ∧ q2 = Sum.inr s3) ?_ ?_
 refine Jv (Jy1 (fun k L w' => ∃ κ' v4, ∃ s1 : (List Pair), L = [(0, .slice a0 p0.length u0), (3, .slice a7 x7.length u7), (4, vi v4)] ∧ Stp [2, 5, 6] K2 w1 κ' w' ∧ Oc Pair.ep42 42 κ' w' 2 a7 u7 s1 ∧ x7.length = s1.length ∧ 0 ≤ v4 ∧ Int.toNat ((p0.length : Int) - v4) = k ∧ cntM (l_toPairS_b0 p0) k v4 s1 = some q2) ⟨_, _, ⟨K2, 0, (x7 : (List Pair)), R, (Jx2 _ _).wk R, f4, R, (by decide), (by simp), hq7⟩, (KM R)⟩ ?_)
 rintro k _ w13 ⟨K14, v4, s1, rfl, S15, f16, hn17, hj5, hJ5, h⟩
 rcases k with _ | k
 have hk18 := h; obtain ⟨o5, h⟩ := ex_eq (Sum.inr (Sum.inl s1) : (List Pair) ⊕ (((List Pair)) ⊕ ((List Pair))))
 have hc5 : decide (v4 < (p0.length : Int)) = false := Jo2 (by omega)
 refine Jq (Je [2, 2, 2, 2] R (Jn 2 R (Jf R (Je2 U23 R R) (Jb 1 R (Jw2 R hc5 (Jc1 (Jt (Jt ?_))))))))
 cases h
 have h := hk18
 refine Jb1 ?_
 cases h
 exact Jw1 _ ⟨K14, (s1 : (List Pair)), R, S15.wk R, f16, hn17, R⟩ (KM R)
 obtain ⟨o5, h, hk18⟩ := BI h; unfold l_toPairS_b0 at h
 have hc5 : decide (v4 < (p0.length : Int)) = true := Jn2 (by omega)
 refine Jq (Je [2, 2, 2, 2] R (Jn 2 R (Jf R (Je2 U23 R R) (Jb 1 R (Jv2 R hc5 (Js (Jp (Jq (Jv (Ja [2, 2, 2, 2, 2, 1, 1, 2, 1] R (Jn 4 R (Ob h fun x18 hx18 h => Jf R (Jf2 g0 hx18 U23 Z64 R R R R) ?_))))))))))))
 obtain ⟨cse20, hre20, hle20⟩ := ((g0.stp (S3.tr S15) R R)).gSt hx18
 obtain ⟨ae20_0, ue20_0, ae20_1, ue20_1, rfl, fe20_0, fe20_1⟩ := Pair.un hre20
 refine Jl tv R R R R (Jd2 (cs := [.slice ae20_0 x18.Ask.length ue20_0, .slice ae20_1 x18.Give.length ue20_1]) I64 Z64 R R R (haE hle20)) (Ob h fun x20 hx20 h => Jh R R R C31 (l_toPair_ok (κ := fun b => mp [] 0 (K14 b)) (p0 := x18) (Jl2 fe20_0 (mp [] 0) R R) (Jl2 fe20_1 (mp [] 0) R R) hx20) ?_)
 rintro _ w21 ⟨k22, ac, aa, ab, ad, rfl, e23, f24, f25⟩
 obtain ⟨K26, S27, m28⟩ := Ji e23 3 R
 refine ⟨tv, Ob h fun x21 hx21 h => Jf R (Jf2 f16.rdc hx21 U29 Z42 R R hn17 R) (Ob h fun y17 hy17 h => Jk1 (κ := K26) (E := Pair.ep42) 2 [5, 6] R R R R R R R R Z42 R ⟨[.slice ac x20.Ask.length aa], [.slice ab x20.Give.length ad], Zl K26 w21 [5], Zl K26 w21 [6], R, Zl.sp (l1 := [5]) (l2 := [6]) R, Zl.sr (l1 := [5]) (l2 := [6]), ⟨_, _, R, (f24.mx (no_int _) m28 R (R : 3 + 2 = 5))⟩, ⟨_, _, R, (f25.mx (no_int _) m28 R (R : 3 + 3 = 6))⟩⟩ R R (f16.stp S27 R R) hy17 fun w33 K34 S35 f36 => ⟨tv, ?_⟩)⟩
 have hn37 : x7.length = y17.length := hn17.trans (Jt2 hy17).2.2.2.symm
 refine Jo (Jz (Jp (Ja [2, 2, 2] R (Jc 3 R ?_))))
 have hw5 : IntKind.wrap .i64 (v4 + 1) = v4 + 1 := wr1 hj5 (Jm2 hc5) hN5
 rw [hw5]
 have hc5 := Jm2 hc5
 cases h
 exact Jz1 fun a ha => ⟨k, _, Ja3 _, ⟨K34, v4 + 1, (y17 : (List Pair)), R, (S15.tr (S27.tr S35)).wk R, f36, hn37, by omega, by omega, hk18⟩, (ha.mm R)⟩
 rintro _ w8 ⟨K9, s3, rfl, S10, f11, hn12, rfl⟩
 have h := hK6
 dsimp only [aft] at h
 refine Jp (Je [2, 2] R (Jb 2 R (Ju (Ja2 (l := [.tmp 2]) V10 (Jp2 R R) R ?_))))
 cases h
 exact ⟨K9, a7, u7, (by simp only [hn12]), (hE.stp (S3.tr S10) R R), f11⟩
theorem s_l1Set_ok {w : World} {κ : Col} {a0 u0} {p0 : (List Int)} {p1 : Int} (g0 : Rd (Rp.int .i64) κ w 0 a0 u0 p0) {r : Bool} (h : s_l1Set p0 p1 = some r) : Ret Try.prog 29 [.slice a0 p0.length u0, vi p1] w (fun v w' => ∃ (κ' : Col), v = .bool r ∧ Ent κ w κ' w') := by
 unfold s_l1Set at h
 refine Ret.enter F29 R N29 R ?_
 dsimp only [envOf]
 have hE := Ent.refl κ w
 refine Je [2] R (Jb 1 R (Je [2, 2, 2, 2, 2, 2, 2, 1, 2, 2] R (Jn 1 R (Jf R (Je2 U24 R R) (Jn 3 R (Ob h fun p13 h hK1 => Ju1 [(5, 2), (6, 2), (7, 1), (8, 2)] [(9, 2)] (fun L w' => L = [(4, .bool false), (13, .bool p13)] ∧ ∃ κ', Stp [] κ w κ' w') tv ?_ ?_))))))
 revert h
 cases ht2 : decide ((p0.length : Int) ≤ p1)
 refine JF fun h => Jn 2 R (Jd1 R R R R (Jn 1 R ?_))
 cases h
 exact Jv1 _ tv ⟨R, _, (Jx2 _ _).wk R⟩ (KM R)
 refine JT fun h => Jn 2 R (Ob h fun x12 hx12 h => Jh R R R C55 (s_l1Rises_ok (κ := fun b => mp [] 0 (κ b)) (Jl2 g0 (mp [] 0) R R) hx12) ?_)
 rintro _ w3 ⟨k4, rfl, e5⟩
 obtain ⟨K6, S7, m8⟩ := Ji e5 2 R
 refine ⟨tv, Jn 1 R ?_⟩
 cases h
 exact Jv1 _ tv ⟨R, _, S7.wk R⟩ (KM R)
 rintro _ w10 _ ⟨rfl, K11, S12⟩
 have h := hK1
 refine Jb 1 R (Ju (Ja2 (l := [.tmp 4]) V29 (Jp2 R R) R ?_))
 cases h
 exact ⟨K11, R, (hE.stp S12 R R)⟩
theorem s_l1Loops_ok {w : World} {κ : Col} {a0 u0} {p0 : (List (List Int))} {a1 u1} {p1 : (List Int)} (g0 : Rd (Rp.sl (Rp.int .i64)) κ w 0 a0 u0 p0) (g1 : Rd (Rp.int .i64) κ w 0 a1 u1 p1) {r : (List (List Int))} (h : s_l1Loops p0 p1 = some r) : Ret Try.prog 56 [.slice a0 p0.length u0, .slice a1 p1.length u1] w (fun v w' => ∃ (κ' : Col) (ra0 : Option Addr) (ru0 : Nat), v = .slice ra0 r.length ru0 ∧ Ent κ w κ' w' ∧ Oc (Ep.fz (Rp.sl (Rp.int .i64))) 24 κ' w' 2 ra0 ru0 r) := by
 unfold s_l1Loops at h
 refine Ret.enter F56 R N56 R ?_
 dsimp only [envOf]
 have hE := Ent.refl κ w
 refine Je [2] R (Jb 1 R (Je [2, 2, 2, 1, 2] R (Jn 2 R (Jf R (Je2 U22 R R) (Ob h fun x18 hx18 h => Jh R R R C79 (s_l1Marks_ok (κ := fun b => mp [] 0 (κ b)) (Jl2 g1 (mp [] 0) R R) hx18) ?_)))))
 rintro _ w1 ⟨k2, ax, ay, rfl, e3, f4⟩
 obtain ⟨K5, S6, m7⟩ := Ji e3 2 R
 refine ⟨tv, ?_⟩
 have f9 := f4.mx no_bool m7 R (R : 2 + 2 = 4)
 refine Jb 1 R (Je [1, 2] R (Jo1 (κ := K5) (E := (Ep.own Ep.bool 4)) 5 R R R R R Y116 Tryinfo98 R fun aI aE w10 K11 S12 f13 => ⟨tv, Jb 1 R (Jq (Je [2] R (Jb 1 R ?_)))⟩))
 have hN14 : (p0.length : Int) ≤ 9223372036854775807 := g0.len_le
 refine Ob h fun q2 hq16 hK15 => ?_
 clear h
 refine Jx1 (fun L w' => ∃ κ', ∃ s3 : (List (List Bool)), ∃ af ae, L = [(0, .slice a0 p0.length u0), (1, .slice a1 p1.length u1), (6, .slice af s3.length ae)] ∧ Stp [5, 6, 7, 9, 10] K11 w10 κ' w' ∧ Oc (Ep.own Ep.bool 4) 98 κ' w' 5 af ae s3 ∧ q2 = Sum.inr s3) ?_ ?_
 refine Jv (Jy1 (fun k L w' => ∃ κ' v7, ∃ s1 : (List (List Bool)), ∃ am ap, L = [(0, .slice a0 p0.length u0), (1, .slice a1 p1.length u1), (5, .slice ax x18.length ay), (6, .slice am s1.length ap), (7, vi v7)] ∧ Stp [5, 6, 7, 9, 10] K11 w10 κ' w' ∧ Oc (Ep.own Ep.bool 4) 98 κ' w' 5 am ap s1 ∧ 0 ≤ v7 ∧ Int.toNat ((p0.length : Int) - v7) = k ∧ cntM (s_l1Loops_b0 p0 x18) k v7 s1 = some q2) ⟨_, _, ⟨K11, 0, (([] : List (List Bool)) : (List (List Bool))), aI, aE, R, (Jx2 _ _).wk R, f13, (by decide), (by simp), hq16⟩, (KM R)⟩ ?_)
 rintro k _ w21 ⟨K22, v7, s1, am, ap, rfl, S23, f24, hj14, hJ14, h⟩
 rcases k with _ | k
 have hk25 := h; obtain ⟨o14, h⟩ := ex_eq (Sum.inr (Sum.inl s1) : (List (List Int)) ⊕ (((List (List Bool))) ⊕ ((List (List Bool)))))
 have hc14 : decide (v7 < (p0.length : Int)) = false := Jo2 (by omega)
 refine Jq (Je [2, 2, 2, 2] R (Jn 2 R (Jf R (Je2 U22 R R) (Jb 1 R (Jw2 R hc14 (Jc1 (Jt (Jt ?_))))))))
 cases h
 have h := hk25
 refine Jb1 ?_
 cases h
 exact Jw1 _ ⟨K22, (s1 : (List (List Bool))), am, ap, R, S23.wk R, f24, R⟩ (KM R)
 obtain ⟨o14, h, hk25⟩ := BI h; unfold s_l1Loops_b0 at h
 have hc14 : decide (v7 < (p0.length : Int)) = true := Jn2 (by omega)
 refine Jq (Je [2, 2, 2, 2] R (Jn 2 R (Jf R (Je2 U22 R R) (Jb 1 R (Jv2 R hc14 (Js (Jp (Jq (Jv (Je [2, 2, 2, 1] R (Jn 2 R (Ob h fun x28 hx28 h => Jf R (Jf2 f9.rdc hx28 U98 Z4 R R R R) ?_))))))))))))
 have f26 := f9.stp (S12.tr S23) R R
 refine Jl tv R R R R (Jc2 I4 R R (hvE (f26.rdc.gBool hx28))) (Jd (Ob h fun q4 h hK27 => Jx1 (fun L w' => ∃ κ' ao an, L = [(0, .slice a0 p0.length u0), (1, .slice a1 p1.length u1), (5, .slice ax x18.length ay), (6, .slice ao q4.length an), (7, vi v7)] ∧ Stp [5, 6, 7, 9, 10] K22 w21 κ' w' ∧ Oc (Ep.own Ep.bool 4) 98 κ' w' 5 ao an q4) ?_ ?_))
 revert h
 cases ht32 : x28
 refine JF fun h => Jy R (Ja [2, 1, 1, 1, 2] R (Jn 1 R (Jo1 (κ := K22) (E := Ep.bool) 6 R R R R R Y98 Tryinfo4 R fun aA aw w57 K58 S59 f60 => ⟨tv, Jn1 (κ := K58) (E := (Ep.own Ep.bool 4)) 7 [6] (parts := [(0, .tmp 39)]) (cells := [.slice aA ([] : List Bool).length aw]) (xs := ([([] : List Bool)] : List (List Bool))) R R R R R R Y116 Tryinfo98 R R R R R R R R R R ⟨[.slice aA ([] : List Bool).length aw], [], Zl K58 w57 [6], Zl K58 w57 [], R, Zl.sp (l1 := [6]) (l2 := []) R, Zl.sr (l1 := [6]) (l2 := []), ⟨_, _, R, f60⟩, R⟩ fun aQ aS w61 K62 S63 f64 => ⟨tv, Ob h fun x41 hx41 h => Jm1 (κ := K62) (E := (Ep.own Ep.bool 4)) 5 [7] R R R R R R R R R Y116 Tryinfo98 R R R R (f24.stp (S59.tr S63) R R) f64.src (sy_one R) hx41 R fun aL aH w66 K67 S68 f69 => ⟨tv, Jc 1 R ?_⟩⟩⟩)))
 cases h
 exact Jw1 _ ⟨K67, aL, aH, R, (S59.tr (S63.tr S68)).wk R, f69⟩ (KM R)
 refine JT fun h => Jx R (Ja [2, 2, 2, 2, 1, 1, 1, 1, 2] R (Jn 4 R (Jn1 (κ := K22) (E := E6) 6 [] (parts := [(0, .tmp 33)]) (cells := [vi v7]) (xs := ([v7] : List Int)) R R R R R R Y24 Tryinfo2 R R R R R R R R R R ⟨[vi v7], [], Zl K22 w21 [], Zl K22 w21 [], R, Zl.sp (l1 := []) (l2 := []) R, Zl.sr (l1 := []) (l2 := []), R, R⟩ fun aV aP w33 K34 S35 f36 => ⟨tv, Ob h fun x35 hx35 h => Jh R R R C80 (s_l1Beyond_ok (κ := fun b => mp [] 0 (K34 b)) (Jl2 (g0.stp (S6.tr (S12.tr (S23.tr S35))) R R) (mp [] 0) R R) (Jl2 (f26.stp S35 R R).rdc (mp [] 0) R R) (Jl2 f36.rdc (mp [] 0) R R) hx35) ?_⟩)))
 rintro _ w39 ⟨k40, az, av, rfl, e41, f42⟩
 obtain ⟨K43, S44, m45⟩ := Ji e41 7 R
 refine ⟨tv, Jn1 (κ := K43) (E := (Ep.own Ep.bool 4)) 10 [9] (parts := [(0, .tmp 35)]) (cells := [.slice az x35.length av]) (xs := ([x35] : List (List Bool))) R R R R R R Y116 Tryinfo98 R R R R R R R R R R ⟨[.slice az x35.length av], [], Zl K43 w39 [9], Zl K43 w39 [], R, Zl.sp (l1 := [9]) (l2 := []) R, Zl.sr (l1 := [9]) (l2 := []), ⟨_, _, R, (f42.mx no_bool m45 R (R : 7 + 2 = 9))⟩, R⟩ fun aU aT w48 K49 S50 f51 => ⟨tv, Ob h fun x37 hx37 h => Jm1 (κ := K49) (E := (Ep.own Ep.bool 4)) 5 [10] R R R R R R R R R Y116 Tryinfo98 R R R R (f24.stp (S35.tr (S44.tr S50)) R R) f51.src (sy_one R) hx37 R fun aB aD w53 K54 S55 f56 => ⟨tv, Jc 1 R ?_⟩⟩⟩
 cases h
 exact Jw1 _ ⟨K54, aB, aD, R, (S35.tr (S44.tr (S50.tr S55))).wk R, f56⟩ (KM R)
 rintro _ w28 ⟨K29, ao, an, rfl, S30, f31⟩
 have h := hK27
 refine Jz (Jp (Ja [2, 2, 2] R (Jc 3 R ?_)))
 have hw14 : IntKind.wrap .i64 (v7 + 1) = v7 + 1 := wr1 hj14 (Jm2 hc14) hN14
 rw [hw14]
 have hc14 := Jm2 hc14
 cases h
 exact Jz1 fun a ha => ⟨k, _, Ja3 _, ⟨K29, v7 + 1, (q4 : (List (List Bool))), ao, an, R, (S23.tr S30).wk R, f31, by omega, by omega, hk25⟩, (ha.mm R)⟩
 rintro _ w17 ⟨K18, s3, af, ae, rfl, S19, f20, rfl⟩
 have h := hK15
 dsimp only [aft] at h
 refine Jp (Je [1, 2] R (Jo1 (κ := K18) (E := (Ep.fz (Rp.sl (Rp.int .i64)))) 6 R R R R R Y22 Tryinfo24 R fun aK aC w70 K71 S72 f73 => ⟨tv, Jb 1 R (Je [2, 2, 1, 2] R (Jn 1 R (Jf R (Je2 U22 R R) (Ob h fun x45 hx45 h => Jl1 (κ := K71) (E := Ep.bool) (z := (false : Bool)) 7 R R R R R R R Y98 Tryinfo4 R R R R R (fun _ _ _ => R) (Ju2 hx45) fun aa ab w74 K75 S76 f77 => ⟨tv, Jb 1 R (Jq (Je [2] R (Jb 1 R ?_)))⟩))))⟩))
 have hN78 : (p1.length : Int) ≤ 9223372036854775807 := g1.len_le
 refine Ob h fun q6 hq80 hK79 => ?_
 clear h
 refine Jx1 (fun L w' => ∃ κ', ∃ s7 : (List (List Int)) × (List Bool), ∃ al ar, L = [(8, .slice al s7.1.length ar)] ∧ Stp [6, 7, 8, 9] K75 w74 κ' w' ∧ Oc (Ep.fz (Rp.sl (Rp.int .i64))) 24 κ' w' 6 al ar s7.1 ∧ Oc Ep.bool 4 κ' w' 7 aa ab s7.2 ∧ x45.length = s7.2.length ∧ q6 = Sum.inr s7) ?_ ?_
 refine Jv (Jy1 (fun k L w' => ∃ κ' v10, ∃ s5 : (List (List Int)) × (List Bool), ∃ ad ac, L = [(1, .slice a1 p1.length u1), (6, .slice af s3.length ae), (8, .slice ad s5.1.length ac), (9, .slice aa x45.length ab), (10, vi v10)] ∧ Stp [6, 7, 8, 9] K75 w74 κ' w' ∧ Oc (Ep.fz (Rp.sl (Rp.int .i64))) 24 κ' w' 6 ad ac s5.1 ∧ Oc Ep.bool 4 κ' w' 7 aa ab s5.2 ∧ x45.length = s5.2.length ∧ 0 ≤ v10 ∧ Int.toNat ((p1.length : Int) - v10) = k ∧ cntM (s_l1Loops_b2 p1 s3) k v10 s5 = some q6) ⟨_, _, ⟨K75, 0, ((([] : List (List Int)) : (List (List Int))), (x45 : (List Bool))), aK, aC, R, (Jx2 _ _).wk R, (f73.stp S76 R R), f77, R, (by decide), (by simp), hq80⟩, (KM R)⟩ ?_)
 rintro k _ w87 ⟨K88, v10, s5, ad, ac, rfl, S89, f90, f91, hn92, hj78, hJ78, h⟩
 rcases k with _ | k
 have hk94 := h; obtain ⟨o78, h⟩ := ex_eq (Sum.inr (Sum.inl s5) : (List (List Int)) ⊕ (((List (List Int)) × (List Bool)) ⊕ ((List (List Int)) × (List Bool))))
 have hc78 : decide (v10 < (p1.length : Int)) = false := Jo2 (by omega)
 refine Jq (Je [2, 2, 2, 2] R (Jn 2 R (Jf R (Je2 U24 R R) (Jb 1 R (Jw2 R hc78 (Jc1 (Jt (Jt ?_))))))))
 cases h
 have h := hk94
 refine Jb1 ?_
 cases h
 exact Jw1 _ ⟨K88, ((s5.1 : (List (List Int))), (s5.2 : (List Bool))), ad, ac, R, S89.wk R, f90, f91, hn92, R⟩ (KM R)
 obtain ⟨o78, h, hk94⟩ := BI h; unfold s_l1Loops_b2 at h
 have hc78 : decide (v10 < (p1.length : Int)) = true := Jn2 (by omega)
 refine Jq (Je [2, 2, 2, 2] R (Jn 2 R (Jf R (Je2 U24 R R) (Jb 1 R (Jv2 R hc78 (Js (Jp (Jq (Jv (Je [2, 2, 2, 1, 2] R (Jn 2 R (Ob h fun x54 hx54 h => Jf R (Jf2 g1 hx54 U24 Z2 R R R R) ?_))))))))))))
 have f95 := g1.stp (S6.tr (S12.tr (S19.tr (S72.tr (S76.tr S89))))) R R
 refine Jl tv R R R R (Jc2 I2 R R (hvE (f95.gInt hx54))) (Jb 1 R (Jq (Je [2, 2, 2, 1, 2, 2, 2, 2, 1, 2, 2, 1, 2, 2] R (Jn 2 R (Ob h fun x58 hx58 h => Jf R (Jf2 f91.rdc hx58 U98 Z4 R R hn92 R) (Jl tv R R R R (Jc2 I4 R R (hvE (f91.rdc.gBool hx58))) (Jn 1 R (Ob h fun p69 h hK96 => Ju1 [(5, 2), (6, 2), (7, 2), (8, 1), (9, 2), (10, 2), (11, 1), (12, 2), (13, 2)] [] (fun L w' => L = [(1, .slice a1 p1.length u1), (6, .slice af s3.length ae), (8, .slice ad s5.1.length ac), (9, .slice aa x45.length ab), (10, vi v10), (11, vi x54), (69, .bool p69)] ∧ ∃ κ', Stp [] K88 w87 κ' w') tv ?_ ?_))))))))
 revert h
 cases ht97 : x58
 refine JF fun h => Jn 2 R (Ob h fun x63 hx63 h => Jf R (Jf2 f20.rdc hx63 U116 Z98 R R R R) ?_)
 obtain ⟨ax63, ux63, f99, hl100⟩ := (f20.stp (S72.tr (S76.tr S89)) R R).rdc.gSl hx63
 refine Jl tv R R R R (Jc2 I98 R R (hvE hl100)) (Jn 1 R (Ob h fun x66 hx66 h => Jf R (Jf2 f99 hx66 U98 Z4 R R R R) (Jl tv R R R R (Jc2 I4 R R (hvE (f99.gBool hx66))) (Jn 2 R ?_))))
 cases h
 exact Jv1 _ tv ⟨R, _, (Jx2 _ _).wk R⟩ (KM R)
 refine JT fun h => Jn 3 R (Jd1 R R R R (Jn 2 R (Jd1 R R R R (Jn 2 R ?_))))
 cases h
 exact Jv1 _ tv ⟨R, _, (Jx2 _ _).wk R⟩ (KM R)
 rintro _ w101 _ ⟨rfl, K102, S103⟩
 have h := hK96
 refine Jd ?_
 revert h
 cases ht104 : p69
 refine JF fun h => Jy R (Js (Jp (Je [1, 2] R (Jo1 (κ := K102) (E := E6) 8 R R R R R Y24 Tryinfo2 R fun aG aJ w107 K108 S109 f110 => ⟨tv, Jb 1 R (Jq (Je [2] R (Jb 1 R ?_)))⟩))))
 have hN111 : (p1.length : Int) ≤ 9223372036854775807 := f95.len_le
 refine Ob h fun q9 hq113 hK112 => ?_
 clear h
 refine Jx1 (fun L w' => ∃ κ', ∃ s10 : (List Int) × (List Bool), ∃ ak aj, L = [(1, .slice a1 p1.length u1), (6, .slice af s3.length ae), (8, .slice ad s5.1.length ac), (9, .slice aa x45.length ab), (10, vi v10), (12, .slice ak s10.1.length aj)] ∧ Stp [7, 8] K108 w107 κ' w' ∧ Oc E6 2 κ' w' 8 ak aj s10.1 ∧ Oc Ep.bool 4 κ' w' 7 aa ab s10.2 ∧ x45.length = s10.2.length ∧ q9 = Sum.inr s10) ?_ ?_
 refine Jv (Jy1 (fun k L w' => ∃ κ' v13, ∃ s8 : (List Int) × (List Bool), ∃ ai ah, L = [(1, .slice a1 p1.length u1), (6, .slice af s3.length ae), (8, .slice ad s5.1.length ac), (9, .slice aa x45.length ab), (10, vi v10), (11, vi x54), (12, .slice ai s8.1.length ah), (13, vi v13)] ∧ Stp [7, 8] K108 w107 κ' w' ∧ Oc E6 2 κ' w' 8 ai ah s8.1 ∧ Oc Ep.bool 4 κ' w' 7 aa ab s8.2 ∧ x45.length = s8.2.length ∧ 0 ≤ v13 ∧ Int.toNat ((p1.length : Int) - v13) = k ∧ cntM (s_l1Loops_b4 p1 s3 x54) k v13 s8 = some q9) ⟨_, _, ⟨K108, 0, ((([] : List Int) : (List Int)), (s5.2 : (List Bool))), aG, aJ, R, (Jx2 _ _).wk R, f110, (f91.stp (S103.tr S109) R R), hn92, (by decide), (by simp), hq113⟩, (KM R)⟩ ?_)
 rintro k _ w120 ⟨K121, v13, s8, ai, ah, rfl, S122, f123, f124, hn125, hj111, hJ111, h⟩
 rcases k with _ | k
 have hk127 := h; obtain ⟨o111, h⟩ := ex_eq (Sum.inr (Sum.inl s8) : (List (List Int)) ⊕ (((List Int) × (List Bool)) ⊕ ((List Int) × (List Bool))))
 have hc111 : decide (v13 < (p1.length : Int)) = false := Jo2 (by omega)
 refine Jq (Je [2, 2, 2, 2] R (Jn 2 R (Jf R (Je2 U24 R R) (Jb 1 R (Jw2 R hc111 (Jc1 (Jt (Jt ?_))))))))
 cases h
 have h := hk127
 refine Jb1 ?_
 cases h
 exact Jw1 _ ⟨K121, ((s8.1 : (List Int)), (s8.2 : (List Bool))), ai, ah, R, S122.wk R, f123, f124, hn125, R⟩ (KM R)
 obtain ⟨o111, h, hk127⟩ := BI h; unfold s_l1Loops_b4 at h
 have hc111 : decide (v13 < (p1.length : Int)) = true := Jn2 (by omega)
 refine Jq (Je [2, 2, 2, 2] R (Jn 2 R (Jf R (Je2 U24 R R) (Jb 1 R (Jv2 R hc111 (Js (Jp (Jq (Jv (Je [2, 2, 2, 1, 2] R (Jn 2 R (Ob h fun x79 hx79 h => Jf R (Jf2 f95 hx79 U24 Z2 R R R R) (Jl tv R R R R (Jc2 I2 R R (hvE ((f95.stp (S103.tr (S109.tr S122)) R R).gInt hx79))) (Jb 1 R (Je [2, 2, 2, 1, 2, 2, 1, 2, 2, 2, 2, 1, 2, 2, 1, 2] R (Jn 2 R (Ob h fun x83 hx83 h => Jf R (Jf2 f20.rdc hx83 U116 Z98 R R R R) ?_)))))))))))))))))
 have f129 := f20.stp (S72.tr (S76.tr (S89.tr (S103.tr (S109.tr S122))))) R R
 obtain ⟨ax83, ux83, f130, hl131⟩ := f129.rdc.gSl hx83
 refine Jl tv R R R R (Jc2 I98 R R (hvE hl131)) (Jn 1 R (Ob h fun x86 hx86 h => Jf R (Jf2 f130 hx86 U98 Z4 R R R R) (Jl tv R R R R (Jc2 I4 R R (hvE (f130.gBool hx86))) (Jn 1 R (Ob h fun p96 h hK132 => Ju1 [(8, 2), (9, 2), (10, 2), (11, 1), (12, 2), (13, 2), (14, 1), (15, 2)] [] (fun L w' => L = [(1, .slice a1 p1.length u1), (6, .slice af s3.length ae), (8, .slice ad s5.1.length ac), (9, .slice aa x45.length ab), (10, vi v10), (11, vi x54), (12, .slice ai s8.1.length ah), (13, vi v13), (14, vi x79), (96, .bool p96)] ∧ ∃ κ', Stp [] K121 w120 κ' w') tv ?_ ?_)))))
 revert h
 cases ht133 : x86
 refine JF fun h => Jn 3 R (Jd1 R R R R (Jn 2 R (Jd1 R R R R (Jn 1 R ?_))))
 cases h
 exact Jv1 _ tv ⟨R, _, (Jx2 _ _).wk R⟩ (KM R)
 refine JT fun h => Jn 2 R (Ob h fun x91 hx91 h => Jf R (Jf2 f129.rdc hx91 U116 Z98 R R R R) ?_)
 obtain ⟨ax91, ux91, f134, hl135⟩ := f129.rdc.gSl hx91
 refine Jl tv R R R R (Jc2 I98 R R (hvE hl135)) (Jn 1 R (Ob h fun x94 hx94 h => Jf R (Jf2 f134 hx94 U98 Z4 R R R R) (Jl tv R R R R (Jc2 I4 R R (hvE (f134.gBool hx94))) (Jn 1 R ?_))))
 cases h
 exact Jv1 _ tv ⟨R, _, (Jx2 _ _).wk R⟩ (KM R)
 rintro _ w136 _ ⟨rfl, K137, S138⟩
 have h := hK132
 refine Jd (Ob h fun q11 h hK139 => Jx1 (fun L w' => ∃ κ' au aq, L = [(1, .slice a1 p1.length u1), (6, .slice af s3.length ae), (8, .slice ad s5.1.length ac), (9, .slice aa x45.length ab), (10, vi v10), (11, vi x54), (12, .slice au q11.1.length aq), (13, vi v13)] ∧ Stp [7, 8] K137 w136 κ' w' ∧ Oc E6 2 κ' w' 8 au aq q11.1 ∧ Oc Ep.bool 4 κ' w' 7 aa ab q11.2 ∧ x45.length = q11.2.length) ?_ ?_)
 revert h
 cases ht146 : p96
 refine JF fun h => Jy R (Js ?_)
 cases h
 exact Jw1 _ ⟨K137, ai, ah, R, (Jx2 _ _).wk R, (f123.stp S138 R R), (f124.stp S138 R R), hn125⟩ (KM R)
 refine JT fun h => Jx R (Je [2, 2, 1, 1, 2] R (Jn 2 R (Jn1 (κ := K137) (E := E6) 9 [] (parts := [(0, .tmp 98)]) (cells := [vi x79]) (xs := ([x79] : List Int)) R R R R R R Y24 Tryinfo2 R R R R R R R R R R ⟨[vi x79], [], Zl K137 w136 [], Zl K137 w136 [], R, Zl.sp (l1 := []) (l2 := []) R, Zl.sr (l1 := []) (l2 := []), R, R⟩ fun aW aR w147 K148 S149 f150 => ⟨tv, Ob h fun x100 hx100 h => Jm1 (κ := K148) (E := E6) 8 [] R R R R R R R R R Y24 Tryinfo2 R R R R (f123.stp (S138.tr S149) R R) (Sl.srcP (pu_int _) f150.rdc) sy_false hx100 R fun aF aN w152 K153 S154 f155 => ⟨tv, Jb 1 R (Ja [2, 2, 2, 1] R (Jn 2 R (Ob h fun x103 hx103 h => Jf R (Jf2 f124.rdc hx103 U98 Z4 R R hn125 R) (Ob h fun y50 hy50 h => Jk1 (κ := K153) (E := Ep.bool) 7 [] R R R R R R R R Z4 R R R R (f124.stp (S138.tr (S149.tr S154)) R R) hy50 fun w157 K158 S159 f160 => ⟨tv, ?_⟩))))⟩⟩)))
 have hn161 : x45.length = y50.length := hn125.trans (Jt2 hy50).2.2.2.symm
 refine Jo ?_
 cases h
 exact Jw1 _ ⟨K158, aF, aN, R, (S149.tr (S154.tr S159)).wk R, (f155.stp S159 R R), f160, hn161⟩ (KM R)
 rintro _ w140 ⟨K141, au, aq, rfl, S142, f143, f144, hn145⟩
 have h := hK139
 refine Jz (Jp (Ja [2, 2, 2] R (Jc 3 R ?_)))
 have hw111 : IntKind.wrap .i64 (v13 + 1) = v13 + 1 := wr1 hj111 (Jm2 hc111) hN111
 rw [hw111]
 have hc111 := Jm2 hc111
 cases h
 exact Jz1 fun a ha => ⟨k, _, Ja3 _, ⟨K141, v13 + 1, ((q11.1 : (List Int)), (q11.2 : (List Bool))), au, aq, R, (S122.tr (S138.tr S142)).wk R, f143, f144, hn145, by omega, by omega, hk127⟩, (ha.mm R)⟩
 rintro _ w114 ⟨K115, s10, ak, aj, rfl, S116, f117, f118, hn119, rfl⟩
 have h := hK112
 dsimp only [aft] at h
 refine Jp (Ja [2, 2, 1, 1, 2] R (Jn 2 R ?_))
 obtain ⟨K165, S166, z167⟩ := fz_ex K115 w114 8
 refine Jn1 (κ := K165) (E := (Ep.fz (Rp.sl (Rp.int .i64)))) 9 [] (parts := [(0, .tmp 105)]) (cells := [.slice ak s10.1.length aj]) (xs := ([s10.1] : List (List Int))) R R R R R R Y22 Tryinfo24 R R R R R R R R R R ⟨[.slice ak s10.1.length aj], [], Zl K165 w114 [], Zl K165 w114 [], R, Zl.sp (l1 := []) (l2 := []) R, Zl.sr (l1 := []) (l2 := []), ⟨_, _, R, (Sl.z1 (Sl.st z167 f117.rdc))⟩, R⟩ fun aY aX w169 K170 S171 f172 => ⟨tv, Ob h fun x107 hx107 h => Jm1 (κ := K170) (E := (Ep.fz (Rp.sl (Rp.int .i64)))) 6 [9] R R R R R R R R R Y22 Tryinfo24 R R R R (f90.stp (S103.tr (S109.tr (S116.tr (S166.tr S171)))) R R) f172.src (sy_one R) hx107 R fun aO aM w174 K175 S176 f177 => ⟨tv, Jc 1 R (Jz (Jp (Ja [2, 2, 2] R (Jc 3 R ?_))))⟩⟩
 have hw78 : IntKind.wrap .i64 (v10 + 1) = v10 + 1 := wr1 hj78 (Jm2 hc78) hN78
 rw [hw78]
 have hc78 := Jm2 hc78
 cases h
 exact Jz1 fun a ha => ⟨k, _, Ja3 _, ⟨K175, v10 + 1, ((x107 : (List (List Int))), (s10.2 : (List Bool))), aO, aM, R, (S89.tr (S103.tr (S109.tr (S116.tr (S166.tr (S171.tr S176)))))).wk R, f177, (f118.stp (S166.tr (S171.tr S176)) R R), hn119, by omega, by omega, hk94⟩, (ha.mm R)⟩
 refine JT fun h => Jx R (Jc1 (Jt (Jb1 (Jp (Ja [2, 2, 2] R (Jc 3 R ?_))))))
 have hw78 : IntKind.wrap .i64 (v10 + 1) = v10 + 1 := wr1 hj78 (Jm2 hc78) hN78
 rw [hw78]
 have hc78 := Jm2 hc78
 cases h
 exact Jz1 fun a ha => ⟨k, _, Ja3 _, ⟨K102, v10 + 1, ((s5.1 : (List (List Int))), (s5.2 : (List Bool))), ad, ac, R, (S89.tr S103).wk R, (f90.stp S103 R R), (f91.stp S103 R R), hn92, by omega, by omega, hk94⟩, (ha.mm R)⟩
 rintro _ w81 ⟨K82, s7, al, ar, rfl, S83, f84, f85, hn86, rfl⟩
 have h := hK79
 dsimp only [aft] at h
 refine Jp (Je [2, 2] R (Jb 2 R (Ju (Ja2 (l := [.tmp 4]) V56 (Jp2 R R) R ?_))))
 cases h
 exact ⟨(fun b => ren [(6, 2)] (K82 b)), al, ar, R, ((hE.stp (S6.tr (S12.tr (S19.tr (S72.tr (S76.tr S83))))) R R).map (ren [(6, 2)]) R R), (f84.map (ren [(6, 2)]) R R)⟩
theorem i_loopsIn_ok {w : World} {κ : Col} {a0 u0} {p0 : (List (List Int))} {a1 u1} {p1 : (List Bool)} (g0 : Rd (Rp.sl (Rp.int .i64)) κ w 0 a0 u0 p0) (g1 : Rd Rp.bool κ w 0 a1 u1 p1) {r : (List (List Int))} (h : i_loopsIn p0 p1 = some r) : Ret Try.prog 60 [.slice a0 p0.length u0, .slice a1 p1.length u1] w (fun v w' => ∃ (κ' : Col) (ra0 : Option Addr) (ru0 : Nat), v = .slice ra0 r.length ru0 ∧ Ent κ w κ' w' ∧ Oc (Ep.fz (Rp.sl (Rp.int .i64))) 24 κ' w' 2 ra0 ru0 r) := by
 unfold i_loopsIn at h
 refine Ret.enter F60 R N60 R ?_
 dsimp only [envOf]
 have hE := Ent.refl κ w
 refine Je [1, 2] R (Jf1 (κ := κ) 2 R R R R R R R fun b3 w1 K2 S3 f4 => ⟨tv, Jb 1 R (Je [2, 2, 1, 2] R (Jn 1 R (Jf R (Je2 U22 R R) (Ob h fun x20 hx20 h => Jl1 (κ := K2) (E := (Ep.own E6 2)) (z := (([] : List Int) : (List Int))) 3 R R R R R R R Y22 Tryinfo24 R R R R R (fun _ _ _ => ⟨none, 0, R, Ow.nil⟩) (Ju2 hx20) fun ab aa w5 K6 S7 f8 => ⟨tv, Jb 1 R (Jq (Je [2, 2, 2] R (Jn 1 R (Jf R (Je2 U22 R R) (Jb 1 R ?_)))))⟩))))⟩)
 have hN9 : (p0.length : Int) ≤ 9223372036854775807 := g0.len_le
 refine Ob h fun q2 hq11 hK10 => ?_
 clear h
 refine Jx1 (fun L w' => ∃ κ', ∃ s3 : (List (List Int)), L = [(0, .slice a0 p0.length u0), (3, .pointer (some ⟨b3, 0, none⟩)), (5, .slice ab x20.length aa)] ∧ Stp [3, 5] K6 w5 κ' w' ∧ Oc (Ep.own E6 2) 24 κ' w' 3 ab aa s3 ∧ x20.length = s3.length ∧ q2 = Sum.inr s3) ?_ ?_
 refine Jv (Jy1 (fun k L w' => ∃ κ' v23, ∃ s1 : (List (List Int)), L = [(0, .slice a0 p0.length u0), (3, .pointer (some ⟨b3, 0, none⟩)), (5, .slice ab x20.length aa), (21, .slice a0 p0.length u0), (22, vi (p0.length : Int)), (23, vi v23)] ∧ Stp [3, 5] K6 w5 κ' w' ∧ Oc (Ep.own E6 2) 24 κ' w' 3 ab aa s1 ∧ x20.length = s1.length ∧ 0 ≤ v23 ∧ Int.toNat ((p0.length : Int) - v23) = k ∧ cntM (i_loopsIn_b0 p0 p1) k v23 s1 = some q2) ⟨_, _, ⟨K6, 0, (x20 : (List (List Int))), R, (Jx2 _ _).wk R, f8, R, (by decide), (by simp), hq11⟩, (KM R)⟩ ?_)
 rintro k _ w17 ⟨K18, v23, s1, rfl, S19, f20, hn21, hj9, hJ9, h⟩
 rcases k with _ | k
 have hk22 := h; obtain ⟨o9, h⟩ := ex_eq (Sum.inr (Sum.inl s1) : (List (List Int)) ⊕ (((List (List Int))) ⊕ ((List (List Int)))))
 have hc9 : decide (v23 < (p0.length : Int)) = false := Jo2 (by omega)
 refine Je [2] R (Jb 1 R (Jq (Jw2 R hc9 (Jc1 (Jt (Jt ?_))))))
 cases h
 have h := hk22
 refine Jb1 ?_
 cases h
 exact Jw1 _ ⟨K18, (s1 : (List (List Int))), R, S19.wk R, f20, hn21, R⟩ (KM R)
 obtain ⟨o9, h, hk22⟩ := BI h; unfold i_loopsIn_b0 at h
 have hc9 : decide (v23 < (p0.length : Int)) = true := Jn2 (by omega)
 refine Je [2] R (Jb 1 R (Jq (Jv2 R hc9 (Js (Jp (Jq (Jv (Je [2, 2, 1, 2, 2] R (Jn 1 R (Ob h fun x26 hx26 h => Jf R (Jf2 g0 hx26 U22 Z24 R R R R) ?_))))))))))
 obtain ⟨ax26, ux26, f24, hl25⟩ := (g0.stp (S3.tr (S7.tr S19)) R R).gSl hx26
 refine Jl tv R R R R (Jc2 I24 R R (hvE hl25)) (Jb 2 R (Je [2, 2, 2] R (Jn 1 R (Jf R (Je2 U24 R R) (Jb 1 R ?_)))))
 have hN26 : (x26.length : Int) ≤ 9223372036854775807 := f24.len_le
 refine Ob h fun q5 hq28 hK27 => ?_
 clear h
 refine Jx1 (fun L w' => ∃ κ', ∃ s6 : (List (List Int)), L = [(0, .slice a0 p0.length u0), (3, .pointer (some ⟨b3, 0, none⟩)), (5, .slice ab x20.length aa), (21, .slice a0 p0.length u0), (22, vi (p0.length : Int)), (23, vi v23)] ∧ Stp [3, 5] K18 w17 κ' w' ∧ Oc (Ep.own E6 2) 24 κ' w' 3 ab aa s6 ∧ x20.length = s6.length ∧ q5 = Sum.inr s6) ?_ ?_
 refine Jv (Jy1 (fun k L w' => ∃ κ' v30, ∃ s4 : (List (List Int)), L = [(0, .slice a0 p0.length u0), (3, .pointer (some ⟨b3, 0, none⟩)), (5, .slice ab x20.length aa), (6, vi v23), (21, .slice a0 p0.length u0), (22, vi (p0.length : Int)), (23, vi v23), (28, .slice ax26 x26.length ux26), (29, vi (x26.length : Int)), (30, vi v30)] ∧ Stp [3, 5] K18 w17 κ' w' ∧ Oc (Ep.own E6 2) 24 κ' w' 3 ab aa s4 ∧ x20.length = s4.length ∧ 0 ≤ v30 ∧ Int.toNat ((x26.length : Int) - v30) = k ∧ cntM (i_loopsIn_b2 p1 v23 x26) k v30 s4 = some q5) ⟨_, _, ⟨K18, 0, (s1 : (List (List Int))), R, (Jx2 _ _).wk R, f20, hn21, (by decide), (by simp), hq28⟩, (KM R)⟩ ?_)
 rintro k _ w34 ⟨K35, v30, s4, rfl, S36, f37, hn38, hj26, hJ26, h⟩
 rcases k with _ | k
 have hk39 := h; obtain ⟨o26, h⟩ := ex_eq (Sum.inr (Sum.inl s4) : (List (List Int)) ⊕ (((List (List Int))) ⊕ ((List (List Int)))))
 have hc26 : decide (v30 < (x26.length : Int)) = false := Jo2 (by omega)
 refine Je [2] R (Jb 1 R (Jq (Jw2 R hc26 (Jc1 (Jt (Jt ?_))))))
 cases h
 have h := hk39
 refine Jb1 ?_
 cases h
 exact Jw1 _ ⟨K35, (s4 : (List (List Int))), R, S36.wk R, f37, hn38, R⟩ (KM R)
 obtain ⟨o26, h, hk39⟩ := BI h; unfold i_loopsIn_b2 at h
 have hc26 : decide (v30 < (x26.length : Int)) = true := Jn2 (by omega)
 refine Je [2] R (Jb 1 R (Jq (Jv2 R hc26 (Js (Jp (Jq (Jv (Je [2, 1, 2] R (Ob h fun x32 hx32 h => Jf R (Jf2 f24 hx32 U24 Z2 R R R R) (Jl tv R R R R (Jc2 I2 R R (hvE ((f24.stp S36 R R).gInt hx32))) (Jb 1 R (Je [1, 2, 2, 1, 2, 1, 2, 2, 1, 2] R ?_))))))))))))
 have f41 := f4.stp (S7.tr (S19.tr S36)) R R
 refine Jl tv R R R R (Jc2 I98 R R (hvE (f41.ld 0 R R))) (Jn 1 R (Ob h fun x36 hx36 h => Jf R (Jf2 g1 hx36 U98 Z4 R R R R) ?_))
 have f42 := g1.stp (S3.tr (S7.tr (S19.tr S36))) R R
 refine Jl tv R R R R (Jc2 I4 R R (hvE (f42.gBool hx36))) (Jn 1 R (Ob h fun p43 h hK43 => Ju1 [(5, 1), (6, 2), (7, 2), (8, 1), (9, 2)] [] (fun L w' => L = [(0, .slice a0 p0.length u0), (3, .pointer (some ⟨b3, 0, none⟩)), (5, .slice ab x20.length aa), (6, vi v23), (9, vi x32), (21, .slice a0 p0.length u0), (22, vi (p0.length : Int)), (23, vi v23), (28, .slice ax26 x26.length ux26), (29, vi (x26.length : Int)), (30, vi v30), (43, .bool p43)] ∧ ∃ κ', Stp [] K35 w34 κ' w') tv ?_ ?_))
 revert h
 cases ht44 : x36
 refine JF fun h => Jd1 R R R R (Jn 2 R (Jd1 R R R R (Jn 1 R ?_)))
 cases h
 exact Jv1 _ tv ⟨R, _, (Jx2 _ _).wk R⟩ (KM R)
 refine JT fun h => Jl tv R R R R (Jc2 I98 R R (hvE (f41.ld 0 R R))) (Jn 1 R (Ob h fun x41 hx41 h => Jf R (Jf2 f42 hx41 U98 Z4 R R R R) (Jl tv R R R R (Jc2 I4 R R (hvE (f42.gBool hx41))) (Jn 1 R ?_))))
 cases h
 exact Jv1 _ tv ⟨R, _, (Jx2 _ _).wk R⟩ (KM R)
 rintro _ w45 _ ⟨rfl, K46, S47⟩
 have h := hK43
 refine Jd (Ob h fun q7 h hK48 => Jx1 (fun L w' => ∃ κ', L = [(0, .slice a0 p0.length u0), (3, .pointer (some ⟨b3, 0, none⟩)), (5, .slice ab x20.length aa), (6, vi v23), (21, .slice a0 p0.length u0), (22, vi (p0.length : Int)), (23, vi v23), (28, .slice ax26 x26.length ux26), (29, vi (x26.length : Int)), (30, vi v30)] ∧ Stp [3, 5] K46 w45 κ' w' ∧ Oc (Ep.own E6 2) 24 κ' w' 3 ab aa q7 ∧ x20.length = q7.length) ?_ ?_)
 revert h
 cases ht54 : p43
 refine JF fun h => Jy R (Js ?_)
 cases h
 exact Jw1 _ ⟨K46, R, (Jx2 _ _).wk R, (f37.stp S47 R R), hn38⟩ (KM R)
 refine JT fun h => Jx R (Ja [2, 2, 2, 2, 2, 1, 2, 1, 1, 2, 1] R (Jn 4 R (Ob h fun x48 hx48 h => Jf R (Jf2 f37.rdc hx48 U22 Z24 R R hn38 R) ?_)))
 have f55 := f37.stp S47 R R
 obtain ⟨ax48, ux48, f56, hl57⟩ := f55.rdc.gSl hx48
 refine Jl tv R R R R (Jc2 I24 R R (hvE hl57)) (Jn 1 R (Jn1 (κ := K46) (E := E6) 4 [] (parts := [(0, .tmp 50)]) (cells := [vi v23]) (xs := ([v23] : List Int)) R R R R R R Y24 Tryinfo2 R R R R R R R R R R ⟨[vi v23], [], Zl K46 w45 [], Zl K46 w45 [], R, Zl.sp (l1 := []) (l2 := []) R, Zl.sr (l1 := []) (l2 := []), R, R⟩ fun aL aJ w58 K59 S60 f61 => ⟨tv, ?_⟩))
 have f62 := f55.stp S60 R R
 obtain ⟨K63, S64, f65, f66⟩ := f62.borrow hx48 (hl57 _ (Stp.ag S60 R)) 5 R R
 refine Ob h fun x52 hx52 h => Jm1 (κ := K63) (E := E6) 5 [] R R R R R R R R R Y24 Tryinfo2 R R R R f65 (Sl.srcP (pu_int _) (f61.stp S64 R R).rdc) sy_false hx52 R fun aI aM w68 K69 S70 f71 => ⟨tv, Ob h fun x53 hx53 h => Jf R (Jf2 f62.rdc hx53 U22 Z24 R R hn38 R) (Ob h fun y91 hy91 h => WO.stH (κ := K69) (E := (Ep.own E6 2)) 3 [5] R R R R R R R R Z24 R ⟨_, _, R, f71⟩ R R (f66.stp S70 R R) hy91 fun w73 K74 S75 f76 => ⟨tv, ?_⟩)⟩
 have hn77 : x20.length = y91.length := hn38.trans (Jt2 hy91).2.2.2.symm
 refine Jo ?_
 cases h
 exact Jw1 _ ⟨K74, R, (S60.tr (S64.tr (S70.tr S75))).wk R, f76, hn77⟩ (KM R)
 rintro _ w49 ⟨K50, rfl, S51, f52, hn53⟩
 have h := hK48
 refine Jz (Jp (Ja [2, 2] R (Jc 2 R ?_)))
 have hw26 : IntKind.wrap .i64 (v30 + 1) = v30 + 1 := wr1 hj26 (Jm2 hc26) hN26
 rw [hw26]
 have hc26 := Jm2 hc26
 cases h
 exact Jz1 fun a ha => ⟨k, _, Ja3 _, ⟨K50, v30 + 1, (q7 : (List (List Int))), R, (S36.tr (S47.tr S51)).wk R, f52, hn53, by omega, by omega, hk39⟩, (ha.mm R)⟩
 rintro _ w29 ⟨K30, s6, rfl, S31, f32, hn33, rfl⟩
 have h := hK27
 dsimp only [aft] at h
 refine Jz (Jp (Ja [2, 2] R (Jc 2 R ?_)))
 have hw9 : IntKind.wrap .i64 (v23 + 1) = v23 + 1 := wr1 hj9 (Jm2 hc9) hN9
 rw [hw9]
 have hc9 := Jm2 hc9
 cases h
 exact Jz1 fun a ha => ⟨k, _, Ja3 _, ⟨K30, v23 + 1, (s6 : (List (List Int))), R, (S19.tr S31).wk R, f32, hn33, by omega, by omega, hk22⟩, (ha.mm R)⟩
 rintro _ w12 ⟨K13, s3, rfl, S14, f15, hn16, rfl⟩
 have h := hK10
 dsimp only [aft] at h
 refine Jp (Je [2, 2, 1, 1, 1] R (Jn 1 R (Jf R (Je2 U22 R R) (Ob h fun x58 hx58 h => Jl1 (κ := K13) (E := Ep.bool) (z := (false : Bool)) 4 R R R R R R R Y98 Tryinfo4 R R R R R (fun _ _ _ => R) (Ju2 hx58) fun aj ah w79 K80 S81 f82 => ⟨tv, Jg1 (κ := K80) 5 R R R R R X98 R fun b10 w83 K84 S85 f86 => ⟨tv, Jj1 (κ := K84) 5 (vc := [.slice aj x58.length ah]) R R R R R R R Z98 R R f86 R fun w87 S88 f89 => ⟨tv, Jd (Je [1, 1, 1] R (Jo1 (κ := K84) (E := E6) 6 R R R R R Y24 Tryinfo2 R fun ax ay w90 K91 S92 f93 => ⟨tv, Jg1 (κ := K91) 7 R R R R R X24 R fun b11 w94 K95 S96 f97 => ⟨tv, Jj1 (κ := K95) 7 (vc := [.slice ax ([] : List Int).length ay]) R R R R R R R Z24 R R f97 R fun w98 S99 f100 => ⟨tv, Jd (Je [1] R (Jg1 (κ := K95) 8 R R R R R X118 R fun b12 w101 K102 S103 f104 => ⟨tv, Jd (Je [2, 1] R (Jf R (rn_makeFunc (first := []) (captured := [.tmp 10, .tmp 3, .tmp 12]) R R R ⟨_, R⟩) (Jj1 (κ := K102) 8 (vc := [.func (.func 84) #[] #[.pointer (some ⟨b10, 0, none⟩), .pointer (some ⟨b3, 0, none⟩), .pointer (some ⟨b12, 0, none⟩)]]) R R R R R R R Z118 R R f104 R fun w105 S106 f107 => ⟨tv, Jd (Jq (Je [2, 2, 2] R (Jn 1 R (Jf R (Je2 U22 R R) (Jb 1 R ?_)))))⟩)))⟩))⟩⟩⟩))⟩⟩⟩))))
 have hN108 : (p0.length : Int) ≤ 9223372036854775807 := g0.len_le
 refine Ob h fun q9 hq110 hK109 => ?_
 clear h
 refine Jx1 (fun L w' => ∃ κ', ∃ s10 : (List Int) × (List Bool), ∃ au ap, L = [(0, .slice a0 p0.length u0), (5, .slice ab x20.length aa), (10, .pointer (some ⟨b10, 0, none⟩)), (11, .pointer (some ⟨b11, 0, none⟩)), (12, .pointer (some ⟨b12, 0, none⟩))] ∧ Stp [4, 6, 7, 11, 12, 13] K102 w105 κ' w' ∧ Oc E6 2 κ' w' 6 au ap s10.1 ∧ Oc Ep.bool 4 κ' w' 4 aj ah s10.2 ∧ x58.length = s10.2.length ∧ Bc κ' w' 7 b11 24 [.slice au s10.1.length ap] ∧ q9 = Sum.inr s10) ?_ ?_
 refine Jv (Jy1 (fun k L w' => ∃ κ' v63, ∃ s8 : (List Int) × (List Bool), ∃ af ae, L = [(0, .slice a0 p0.length u0), (3, .pointer (some ⟨b3, 0, none⟩)), (5, .slice ab x20.length aa), (10, .pointer (some ⟨b10, 0, none⟩)), (11, .pointer (some ⟨b11, 0, none⟩)), (12, .pointer (some ⟨b12, 0, none⟩)), (62, vi (p0.length : Int)), (63, vi v63)] ∧ Stp [4, 6, 7, 11, 12, 13] K102 w105 κ' w' ∧ Oc E6 2 κ' w' 6 af ae s8.1 ∧ Oc Ep.bool 4 κ' w' 4 aj ah s8.2 ∧ x58.length = s8.2.length ∧ Bc κ' w' 7 b11 24 [.slice af s8.1.length ae] ∧ 0 ≤ v63 ∧ Int.toNat ((p0.length : Int) - v63) = k ∧ cntM (i_loopsIn_b4 p0 p1) k v63 s8 = some q9) ⟨_, _, ⟨K102, 0, ((([] : List Int) : (List Int)), (x58 : (List Bool))), ax, ay, R, (Jx2 _ _).wk R, (f93.stp (S96.tr (S99.tr (S103.tr S106))) R R), (f82.stp (S85.tr (S88.tr (S92.tr (S96.tr (S99.tr (S103.tr S106)))))) R R), R, (f100.stp (S103.tr S106) R R), (by decide), (by simp), hq110⟩, (KM R)⟩ ?_)
 rintro k _ w118 ⟨K119, v63, s8, af, ae, rfl, S120, f121, f122, hn123, f124, hj108, hJ108, h⟩
 rcases k with _ | k
 have hk128 := h; obtain ⟨o108, h⟩ := ex_eq (Sum.inr (Sum.inl s8) : (List (List Int)) ⊕ (((List Int) × (List Bool)) ⊕ ((List Int) × (List Bool))))
 have hc108 : decide (v63 < (p0.length : Int)) = false := Jo2 (by omega)
 refine Je [2] R (Jb 1 R (Jq (Jw2 R hc108 (Jc1 (Jt (Jt ?_))))))
 cases h
 have h := hk128
 refine Jb1 ?_
 cases h
 exact Jw1 _ ⟨K119, ((s8.1 : (List Int)), (s8.2 : (List Bool))), af, ae, R, S120.wk R, f121, f122, hn123, f124, R⟩ (KM R)
 obtain ⟨o108, h, hk128⟩ := BI h; unfold i_loopsIn_b4 at h
 have hc108 : decide (v63 < (p0.length : Int)) = true := Jn2 (by omega)
 refine Je [2] R (Jb 1 R (Jq (Jv2 R hc108 (Js (Jp (Jq (Jv (Je [2, 2] R (Jb 2 R (Je [1, 2, 2, 1, 2, 1, 2, 2, 1, 2, 2] R ?_))))))))))
 have f129 := f4.stp (S7.tr (S14.tr (S81.tr (S85.tr (S88.tr (S92.tr (S96.tr (S99.tr (S103.tr (S106.tr S120)))))))))) R R
 refine Jl tv R R R R (Jc2 I98 R R (hvE (f129.ld 0 R R))) (Jn 1 R (Ob h fun x68 hx68 h => Jf R (Jf2 g1 hx68 U98 Z4 R R R R) ?_))
 have f130 := g1.stp (S3.tr (S7.tr (S14.tr (S81.tr (S85.tr (S88.tr (S92.tr (S96.tr (S99.tr (S103.tr (S106.tr S120))))))))))) R R
 refine Jl tv R R R R (Jc2 I4 R R (hvE (f130.gBool hx68))) (Jn 1 R (Ob h fun p76 h hK131 => Ju1 [(5, 1), (6, 2), (7, 2), (8, 1), (9, 2), (10, 2)] [] (fun L w' => L = [(0, .slice a0 p0.length u0), (3, .pointer (some ⟨b3, 0, none⟩)), (5, .slice ab x20.length aa), (10, .pointer (some ⟨b10, 0, none⟩)), (11, .pointer (some ⟨b11, 0, none⟩)), (12, .pointer (some ⟨b12, 0, none⟩)), (13, vi v63), (62, vi (p0.length : Int)), (63, vi v63), (76, .bool p76)] ∧ ∃ κ', Stp [] K119 w118 κ' w') tv ?_ ?_))
 revert h
 cases ht132 : x68
 refine JF fun h => Jd1 R R R R (Jn 2 R (Jd1 R R R R (Jn 2 R ?_)))
 cases h
 exact Jv1 _ tv ⟨R, _, (Jx2 _ _).wk R⟩ (KM R)
 refine JT fun h => Jl tv R R R R (Jc2 I98 R R (hvE ((f89.stp (S92.tr (S96.tr (S99.tr (S103.tr (S106.tr S120))))) R R).ld 0 R R))) (Jn 1 R (Ob h fun x73 hx73 h => Jf R (Jf2 f122.rdc hx73 U98 Z4 R R hn123 R) (Jl tv R R R R (Jc2 I4 R R (hvE (f122.rdc.gBool hx73))) (Jn 2 R ?_))))
 cases h
 exact Jv1 _ tv ⟨R, _, (Jx2 _ _).wk R⟩ (KM R)
 rintro _ w134 _ ⟨rfl, K135, S136⟩
 have h := hK131
 refine Jd (Ob h fun q11 h hK137 => Jx1 (fun L w' => ∃ κ' ao an, L = [(0, .slice a0 p0.length u0), (3, .pointer (some ⟨b3, 0, none⟩)), (5, .slice ab x20.length aa), (10, .pointer (some ⟨b10, 0, none⟩)), (11, .pointer (some ⟨b11, 0, none⟩)), (12, .pointer (some ⟨b12, 0, none⟩)), (62, vi (p0.length : Int)), (63, vi v63)] ∧ Stp [4, 6, 7, 11, 12, 13] K135 w134 κ' w' ∧ Oc E6 2 κ' w' 6 ao an q11.1 ∧ Oc Ep.bool 4 κ' w' 4 aj ah q11.2 ∧ x58.length = q11.2.length ∧ Bc κ' w' 7 b11 24 [.slice ao q11.1.length an]) ?_ ?_)
 revert h
 cases ht145 : p76
 refine JF fun h => Jy R (Js ?_)
 cases h
 exact Jw1 _ ⟨K135, af, ae, R, (Jx2 _ _).wk R, (f121.stp S136 R R), (f122.stp S136 R R), hn123, (f124.stp S136 R R)⟩ (KM R)
 refine JT fun h => Jx R (Ja [1, 2, 2, 2, 1] R ?_)
 have f146 := f107.stp (S120.tr S136) R R
 refine Jl tv R R R R (Jc2 I118 R R (hvE (f146.ld 0 R R))) (Jn 2 R (Jf R (rn_makeFunc (first := []) (captured := [.tmp 11]) R R R ⟨_, R⟩) (Ob h fun x81 hx81 h => WO.callV R R R R R R R R C84 (i_loopsIn_1__i_loopsIn_2__i_loopsIn_1_ok _ (κ := fun b => mp [(6, 2), (4, 3), (7, 4)] 0 (K135 b)) (Jl2 (g0.stp (S3.tr (S7.tr (S14.tr (S81.tr (S85.tr (S88.tr (S92.tr (S96.tr (S99.tr (S103.tr (S106.tr (S120.tr S136)))))))))))) R R) (mp [(6, 2), (4, 3), (7, 4)] 0) R R) ((f121.stp S136 R R).map (mp [(6, 2), (4, 3), (7, 4)] 0) R R) ((f122.stp S136 R R).map (mp [(6, 2), (4, 3), (7, 4)] 0) R R) (Jl2 (f130.stp S136 R R) (mp [(6, 2), (4, 3), (7, 4)] 0) R R) ((f124.stp S136 R R).map (mp [(6, 2), (4, 3), (7, 4)] 0) R R) (Bc.cast ((f89.stp (S92.tr (S96.tr (S99.tr (S103.tr (S106.tr (S120.tr S136)))))) R R).map (mp [(6, 2), (4, 3), (7, 4)] 0) R R) (by simp only [hn123])) ((f129.stp S136 R R).map (mp [(6, 2), (4, 3), (7, 4)] 0) R R) (f146.map (mp [(6, 2), (4, 3), (7, 4)] 0) R R) hx81) ?_)))
 rintro _ w154 ⟨k155, aE, az, rfl, e156, f157, f158, hn159, f160⟩
 obtain ⟨K161, S162, m163⟩ := Ji e156 9 R
 refine ⟨tv, Jo ?_⟩
 cases h
 exact Jw1 _ ⟨(fun b => ren [(11, 6), (12, 4), (13, 7)] (K161 b)), aE, az, R, (Jy2 (S162.wk R) [(11, 6), (12, 4), (13, 7)] R), ((f157.mx (no_int _) m163 R (R : 9 + 2 = 11)).map (ren [(11, 6), (12, 4), (13, 7)]) R R), ((f158.mx no_bool m163 R (R : 9 + 3 = 12)).map (ren [(11, 6), (12, 4), (13, 7)]) R R), (hn123.trans hn159), ((f160.mx m163 R (R : 9 + 4 = 13)).map (ren [(11, 6), (12, 4), (13, 7)]) R R)⟩ (KM R)
 rintro _ w138 ⟨K139, ao, an, rfl, S140, f141, f142, hn143, f144⟩
 have h := hK137
 refine Jz (Jp (Ja [2, 2] R (Jc 2 R ?_)))
 have hw108 : IntKind.wrap .i64 (v63 + 1) = v63 + 1 := wr1 hj108 (Jm2 hc108) hN108
 rw [hw108]
 have hc108 := Jm2 hc108
 cases h
 exact Jz1 fun a ha => ⟨k, _, Ja3 _, ⟨K139, v63 + 1, ((q11.1 : (List Int)), (q11.2 : (List Bool))), ao, an, R, (S120.tr (S136.tr S140)).wk R, f141, f142, hn143, f144, by omega, by omega, hk128⟩, (ha.mm R)⟩
 rintro _ w111 ⟨K112, s10, au, ap, rfl, S113, f114, f115, hn116, f117, rfl⟩
 have h := hK109
 dsimp only [aft] at h
 refine Jp (Je [2, 2, 1, 1] R (Jn 1 R (Jf R (Je2 U22 R R) (Ob h fun x85 hx85 h => Jl1 (κ := K112) (E := Ep.bool) (z := (false : Bool)) 9 R R R R R R R Y98 Tryinfo4 R R R R R (fun _ _ _ => R) (Ju2 hx85) fun av ar w171 K172 S173 f174 => ⟨tv, Jj1 (κ := K172) 5 (vc := [.slice av x85.length ar]) R R R R R R R Z98 R R (f89.stp (S92.tr (S96.tr (S99.tr (S103.tr (S106.tr (S113.tr S173)))))) R R) R fun w176 S177 f178 => ⟨tv, Jd (Je [1, 2] R (Jo1 (κ := K172) (E := (Ep.fz (Rp.sl (Rp.int .i64)))) 10 R R R R R Y22 Tryinfo24 R fun aF aA w179 K180 S181 f182 => ⟨tv, Jb 1 R (Jq (Je [1, 2, 2, 2] R ?_))⟩))⟩⟩))))
 have f183 := f117.stp (S173.tr (S177.tr S181)) R R
 refine Jl tv R R R R (Jc2 I24 R R (hvE (f183.ld 0 R R))) (Jf R (Je2 U24 R R) (Jb 2 R (Ob h fun q13 hq186 hK185 => ?_)))
 clear h
 refine Jx1 (fun L w' => ∃ κ', ∃ s14 : (List (List Int)) × Int × (List Bool), ∃ ak am, L = [(14, .slice ak s14.1.length am)] ∧ Stp [9, 10, 11, 12, 15, 16, 20, 21] K180 w179 κ' w' ∧ Oc (Ep.fz (Rp.sl (Rp.int .i64))) 24 κ' w' 10 ak am s14.1 ∧ Oc Ep.bool 4 κ' w' 9 av ar s14.2.2 ∧ x85.length = s14.2.2.length ∧ q13 = Sum.inr s14) ?_ ?_
 refine Jv (Jy1 (fun k L w' => ∃ κ', ∃ s12 : (List (List Int)) × Int × (List Bool), ∃ ac ad, L = [(0, .slice a0 p0.length u0), (5, .slice ab x20.length aa), (10, .pointer (some ⟨b10, 0, none⟩)), (11, .pointer (some ⟨b11, 0, none⟩)), (12, .pointer (some ⟨b12, 0, none⟩)), (14, .slice ac s12.1.length ad), (15, vi s12.2.1)] ∧ Stp [9, 10, 11, 12, 15, 16, 20, 21] K180 w179 κ' w' ∧ Oc (Ep.fz (Rp.sl (Rp.int .i64))) 24 κ' w' 10 ac ad s12.1 ∧ Oc Ep.bool 4 κ' w' 9 av ar s12.2.2 ∧ x85.length = s12.2.2.length ∧ whileM (i_loopsIn_b6 p0 p1 s3 s10) k s12 = some q13) ⟨_, _, ⟨K180, ((([] : List (List Int)) : (List (List Int))), ((IntKind.i64.wrap ((s10.1.length : Int) - 1)) : Int), (x85 : (List Bool))), aF, aA, R, (Jx2 _ _).wk R, f182, (f174.stp (S177.tr S181) R R), R, hq186⟩, (KM R)⟩ ?_)
 rintro k _ w193 ⟨K194, s12, ac, ad, rfl, S195, f196, f197, hn198, h⟩
 rcases k with _ | k
 cases h
 obtain ⟨o184, h, hk200⟩ := BI h; unfold i_loopsIn_b6 at h
 refine Jq (Je [2, 2] R (Jb 2 R ?_))
 revert h
 cases ht201 : decide (0 ≤ s12.2.1)
 refine JF fun h => Jy R (Jc1 (Jt (Jt ?_)))
 cases h
 have h := hk200
 refine Jb1 ?_
 cases h
 exact Jw1 _ ⟨K194, ((s12.1 : (List (List Int))), (s12.2.1 : Int), (s12.2.2 : (List Bool))), ac, ad, R, S195.wk R, f196, f197, hn198, R⟩ (KM R)
 refine JT fun h => Jx R (Js (Jp (Jq (Jv (Je [1, 2, 2, 1, 2] R (Jl tv R R R R (Jc2 I24 R R (hvE ((f183.stp S195 R R).ld 0 R R))) (Jn 1 R (Ob h fun x96 hx96 h => Jf R (Jf2 f114.rdc hx96 U24 Z2 R R R R) (Jl tv R R R R (Jc2 I2 R R (hvE ((f114.stp (S173.tr (S177.tr (S181.tr S195))) R R).rdc.gInt hx96))) (Jb 1 R (Jq (Je [1, 2, 2, 1] R ?_))))))))))))
 have f204 := f178.stp (S181.tr S195) R R
 refine Jl tv R R R R (Jc2 I98 R R (hvE (f204.ld 0 R R))) (Jn 1 R (Ob h fun x100 hx100 h => Jf R (Jf2 f197.rdc hx100 U98 Z4 R R hn198 R) (Jl tv R R R R (Jc2 I4 R R (hvE (f197.rdc.gBool hx100))) (Jd ?_))))
 revert h
 cases ht205 : x100
 refine JF fun h => Jy R (Js (Jp (Je [1, 1, 1] R (Jo1 (κ := K194) (E := E6) 11 R R R R R Y24 Tryinfo2 R fun aB aC w206 K207 S208 f209 => ⟨tv, Jg1 (κ := K207) 12 R R R R R X24 R fun b17 w210 K211 S212 f213 => ⟨tv, Jj1 (κ := K211) 12 (vc := [.slice aB ([] : List Int).length aC]) R R R R R R R Z24 R R f213 R fun w214 S215 f216 => ⟨tv, Jd (Je [1, 2, 2, 2, 1] R ?_)⟩⟩⟩))))
 have f217 := f107.stp (S113.tr (S173.tr (S177.tr (S181.tr (S195.tr (S208.tr (S212.tr S215))))))) R R
 have S001 := (S208.tr (S212.tr S215))
 refine Jl tv R R R R (Jc2 I118 R R (hvE (f217.ld 0 R R))) (Jn 2 R (Jf R (rn_makeFunc (first := []) (captured := [.tmp 17]) R R R ⟨_, R⟩) (Ob h fun x107 hx107 h => WO.callV R R R R R R R R C84 (Ret.cast (by simp only [hn16, List.cons_append, List.nil_append]) (i_loopsIn_1__i_loopsIn_3__i_loopsIn_1_ok _ (κ := fun b => mp [(11, 2), (9, 3), (12, 4)] 0 (K211 b)) (Jl2 (f15.stp (S81.tr (S85.tr (S88.tr (S92.tr (S96.tr (S99.tr (S103.tr (S106.tr (S113.tr (S173.tr (S177.tr (S181.tr (S195.tr (S208.tr (S212.tr S215))))))))))))))) R R).rdc (mp [(11, 2), (9, 3), (12, 4)] 0) R R) ((f209.stp (S212.tr S215) R R).map (mp [(11, 2), (9, 3), (12, 4)] 0) R R) ((f197.stp S001 R R).map (mp [(11, 2), (9, 3), (12, 4)] 0) R R) (Jl2 (g1.stp (S3.tr (S7.tr (S14.tr (S81.tr (S85.tr (S88.tr (S92.tr (S96.tr (S99.tr (S103.tr (S106.tr (S113.tr (S173.tr (S177.tr (S181.tr (S195.tr (S208.tr (S212.tr S215)))))))))))))))))) R R) (mp [(11, 2), (9, 3), (12, 4)] 0) R R) (f216.map (mp [(11, 2), (9, 3), (12, 4)] 0) R R) (Bc.cast ((f204.stp S001 R R).map (mp [(11, 2), (9, 3), (12, 4)] 0) R R) (by simp only [hn198])) ((f4.stp (S7.tr (S14.tr (S81.tr (S85.tr (S88.tr (S92.tr (S96.tr (S99.tr (S103.tr (S106.tr (S113.tr (S173.tr (S177.tr (S181.tr (S195.tr (S208.tr (S212.tr S215))))))))))))))))) R R).map (mp [(11, 2), (9, 3), (12, 4)] 0) R R) (f217.map (mp [(11, 2), (9, 3), (12, 4)] 0) R R) hx107)) ?_)))
 rintro _ w224 ⟨k225, aq, aw, rfl, e226, f227, f228, hn229, f230⟩
 obtain ⟨K231, S232, m233⟩ := Ji e226 13 R
 refine ⟨tv, ?_⟩
 have f237 := f230.mx m233 R (R : 13 + 4 = 17)
 refine Jd (Je [1, 1] R (Jl tv R R R R (Jc2 I24 R R (hvE (f237.ld 0 R R))) (Ob h fun x109 hx109 h => Jh R R R C87 (slices_Sort_I_int64_ok (κ := fun b => mp [(15, 2)] 0 (K231 b)) ((f227.mx (no_int _) m233 R (R : 13 + 2 = 15)).map (mp [(15, 2)] 0) R R) hx109) ?_)))
 rintro _ w238 ⟨k239, rfl, e240, f241, hn242⟩
 obtain ⟨K243, S244, m245⟩ := Ji e240 18 R
 refine ⟨tv, Jd (Je [1, 2, 2, 2, 2, 2, 2, 1, 2, 1, 2] R ?_)⟩
 have f248 := f237.stp S244 R R
 refine Jl tv R R R R (Jc2 I24 R R (hvE (f248.ld 0 R R))) (Jf R (Je2 U24 R R) (Jn 2 R (Ob h fun p120 h hK249 => Ju1 [(4, 2), (5, 2), (6, 2), (7, 1), (8, 2), (9, 1), (10, 2)] [] (fun L w' => L = [(0, .slice a0 p0.length u0), (5, .slice ab x20.length aa), (10, .pointer (some ⟨b10, 0, none⟩)), (11, .pointer (some ⟨b11, 0, none⟩)), (12, .pointer (some ⟨b12, 0, none⟩)), (14, .slice ac s12.1.length ad), (15, vi s12.2.1), (17, .pointer (some ⟨b17, 0, none⟩)), (120, .bool p120)] ∧ ∃ κ', Stp [] K243 w238 κ' w') tv ?_ ?_)))
 revert h
 cases ht250 : decide (1 < (x107.1.length : Int))
 refine JF fun h => Jn 2 R (Ob h fun x116 hx116 h => Jf R (Jf2 g0 hx116 U22 Z24 R R R R) ?_)
 obtain ⟨ax116, ux116, f252, hl253⟩ := (g0.stp (S3.tr (S7.tr (S14.tr (S81.tr (S85.tr (S88.tr (S92.tr (S96.tr (S99.tr (S103.tr (S106.tr (S113.tr (S173.tr (S177.tr (S181.tr (S195.tr (S208.tr (S212.tr (S215.tr (S232.tr S244)))))))))))))))))))) R R).gSl hx116
 refine Jl tv R R R R (Jc2 I24 R R (hvE hl253)) (Jn 1 R (Ob h fun x119 hx119 h => Jh R R R C72 (slices_Contains_I_int64_ok (κ := fun b => mp [] 0 (K243 b)) (Jl2 f252 (mp [] 0) R R) hx119) ?_))
 rintro _ w254 ⟨k255, rfl, e256⟩
 obtain ⟨K257, S258, m259⟩ := Ji e256 21 R
 refine ⟨tv, Jn 1 R ?_⟩
 cases h
 exact Jv1 _ tv ⟨R, _, S258.wk R⟩ (KM R)
 refine JT fun h => Jn 3 R (Jd1 R R R R (Jn 1 R (Jd1 R R R R (Jn 1 R ?_))))
 cases h
 exact Jv1 _ tv ⟨R, _, (Jx2 _ _).wk R⟩ (KM R)
 rintro _ w261 _ ⟨rfl, K262, S263⟩
 have h := hK249
 refine Jd (Ob h fun q15 h hK264 => Jx1 (fun L w' => ∃ κ' al ai, L = [(0, .slice a0 p0.length u0), (5, .slice ab x20.length aa), (10, .pointer (some ⟨b10, 0, none⟩)), (11, .pointer (some ⟨b11, 0, none⟩)), (12, .pointer (some ⟨b12, 0, none⟩)), (14, .slice al q15.length ai), (15, vi s12.2.1)] ∧ Stp [10, 20, 21] K262 w261 κ' w' ∧ Oc (Ep.fz (Rp.sl (Rp.int .i64))) 24 κ' w' 10 al ai q15) ?_ ?_)
 revert h
 cases ht269 : p120
 refine JF fun h => Jy R (Js ?_)
 cases h
 exact Jw1 _ ⟨K262, ac, ad, R, (Jx2 _ _).wk R, (f196.stp (S208.tr (S212.tr (S215.tr (S232.tr (S244.tr S263))))) R R)⟩ (KM R)
 refine JT fun h => Jx R (Ja [2, 1, 1, 1, 2] R (Jn 1 R (Jl tv R R R R (Jc2 I24 R R (hvE ((f248.stp S263 R R).ld 0 R R))) ?_)))
 obtain ⟨K272, S273, z274⟩ := fz_ex K262 w261 20
 refine Jn1 (κ := K272) (E := (Ep.fz (Rp.sl (Rp.int .i64)))) 21 [] (parts := [(0, .tmp 122)]) (cells := [.slice aq x107.1.length aw]) (xs := ([x109] : List (List Int))) R R R R R R Y22 Tryinfo24 R R R R R R R R R R ⟨[.slice aq x107.1.length aw], [], Zl K272 w261 [], Zl K272 w261 [], R, Zl.sp (l1 := []) (l2 := []) R, Zl.sr (l1 := []) (l2 := []), ⟨_, _, (congrArg (fun n => [Value.slice aq n aw]) (hn242)), (Sl.z1 (Sl.st z274 ((f241.mx (no_int _) m245 R (R : 18 + 2 = 20)).stp S263 R R).rdc))⟩, R⟩ fun aH aK w276 K277 S278 f279 => ⟨tv, Ob h fun x124 hx124 h => Jm1 (κ := K277) (E := (Ep.fz (Rp.sl (Rp.int .i64)))) 10 [21] R R R R R R R R R Y22 Tryinfo24 R R R R (f196.stp (S208.tr (S212.tr (S215.tr (S232.tr (S244.tr (S263.tr (S273.tr S278))))))) R R) f279.src (sy_one R) hx124 R fun aG aD w281 K282 S283 f284 => ⟨tv, Jc 1 R ?_⟩⟩
 cases h
 exact Jw1 _ ⟨K282, aG, aD, R, (S273.tr (S278.tr S283)).wk R, f284⟩ (KM R)
 rintro _ w265 ⟨K266, al, ai, rfl, S267, f268⟩
 have h := hK264
 refine Jz (Jp (Ja [2, 2, 2] R (Jc 3 R ?_)))
 cases h
 exact Jz1 fun a ha => ⟨k, _, Ja3 _, ⟨(fun b => ren [(16, 9)] (K266 b)), ((q15 : (List (List Int))), ((IntKind.i64.wrap (s12.2.1 - 1)) : Int), (x107.2 : (List Bool))), al, ai, R, (Jy2 ((S195.tr (S208.tr (S212.tr (S215.tr (S232.tr (S244.tr (S263.tr S267))))))).wk R) [(16, 9)] R), (f268.map (ren [(16, 9)]) R R), (((f228.mx no_bool m233 R (R : 13 + 3 = 16)).stp (S244.tr (S263.tr S267)) R R).map (ren [(16, 9)]) R R), (hn198.trans hn229), hk200⟩, (ha.mm R)⟩
 refine JT fun h => Jx R (Jc1 (Jt (Jb1 (Jp (Ja [2, 2, 2] R (Jc 3 R ?_))))))
 cases h
 exact Jz1 fun a ha => ⟨k, _, Ja3 _, ⟨K194, ((s12.1 : (List (List Int))), ((IntKind.i64.wrap (s12.2.1 - 1)) : Int), (s12.2.2 : (List Bool))), ac, ad, R, S195.wk R, f196, f197, hn198, hk200⟩, (ha.mm R)⟩
 rintro _ w187 ⟨K188, s14, ak, am, rfl, S189, f190, f191, hn192, rfl⟩
 have h := hK185
 dsimp only [aft] at h
 refine Jp (Je [2, 1] R (Jn 1 R (Ob h fun x126 hx126 h => Jh R R R C88 (slices_SortFunc_I_I_ok (κ := fun b => mp [(10, 2)] 1 (K188 b)) (f190.map (mp [(10, 2)] 1) R R) hx126) ?_)))
 rintro _ w287 ⟨k288, rfl, e289, f290, hn291⟩
 obtain ⟨K292, S293, m294, z295⟩ := Jj e289 11 R
 refine ⟨tv, Jd (Je [2, 2] R (Jb 2 R (Ju (Ja2 (l := [.tmp 4]) V60 (Jp2 R R) R ?_))))⟩
 cases h
 exact ⟨(fun b => ren [(13, 2)] (K292 b)), ak, am, (by simp only [(hn291)]), ((hE.stp (S3.tr (S7.tr (S14.tr (S81.tr (S85.tr (S88.tr (S92.tr (S96.tr (S99.tr (S103.tr (S106.tr (S113.tr (S173.tr (S177.tr (S181.tr (S189.tr S293)))))))))))))))) R R).map (ren [(13, 2)]) R R), ((f290.mxz z295 m294 R (R : 11 + 2 = 13)).map (ren [(13, 2)]) R R)⟩
theorem slices_BinarySearch_I_int64_ok {w : World} {κ : Col} {a0 u0} {p0 : (List Int)} {p1 : Int} (g0 : Rd (Rp.int .i64) κ w 0 a0 u0 p0) {r : Int × Bool} (h : slices_BinarySearch_I_int64 p0 p1 = some r) : Ret Try.prog 91 [.slice a0 p0.length u0, vi p1] w (fun v w' => ∃ (κ' : Col), v = .tuple #[vi r.1, .bool r.2] ∧ Ent κ w κ' w') := by
 unfold slices_BinarySearch_I_int64 at h
 refine Ret.enter F91 R N91 R ?_
 dsimp only [envOf]
 have hE := Ent.refl κ w
 refine Je [2, 2] R (Jb 2 R (Je [2, 2, 2] R (Jn 1 R (Jf R (Je2 U24 R R) (Jb 1 R (Je [2, 2, 2] R (Jb 3 R (Jq (Ob h fun q2 hq3 hK2 => ?_)))))))))
 clear h
 refine Jx1 (fun L w' => ∃ κ', ∃ s3 : Int × Int, L = [(0, .slice a0 p0.length u0), (1, vi p1), (6, vi (p0.length : Int)), (7, vi s3.1)] ∧ Stp [] κ w κ' w' ∧ q2 = Sum.inr s3) ?_ ?_
 refine Jv (Jy1 (fun k L w' => ∃ κ', ∃ s1 : Int × Int, L = [(0, .slice a0 p0.length u0), (1, vi p1), (6, vi (p0.length : Int)), (7, vi s1.1), (8, vi s1.2)] ∧ Stp [] κ w κ' w' ∧ whileM (slices_BinarySearch_I_int64_b0 p0 p1) k s1 = some q2) ⟨_, _, ⟨κ, ((0 : Int), ((p0.length : Int) : Int)), R, (Jx2 _ _).wk R, hq3⟩, (KM R)⟩ ?_)
 rintro k _ w7 ⟨K8, s1, rfl, S9, h⟩
 rcases k with _ | k
 cases h
 obtain ⟨o1, h, hk10⟩ := BI h; unfold slices_BinarySearch_I_int64_b0 at h
 refine Jq (Je [2, 2, 2] R (Jb 3 R ?_))
 revert h
 cases ht11 : decide (s1.1 < s1.2)
 refine JF fun h => Jy R (Jc1 (Jt (Jt ?_)))
 cases h
 have h := hk10
 refine Jb1 ?_
 cases h
 exact Jw1 _ ⟨K8, ((s1.1 : Int), (s1.2 : Int)), R, S9.wk R, R⟩ (KM R)
 refine JT fun h => Jx R (Js (Jp (Jv (Je [2, 2, 2, 2, 2, 2, 2] R (Jn 3 R (Jf R (Jh2 U3 U79 R R) (Jf R (rn_shr R R R (by decide)) (Jf R (Jh2 U79 U3 R R) (Jb 1 R (Je [2, 2, 2, 1, 2, 1] R (Jn 2 R (Ob h fun x24 hx24 h => Jf R (Jf2 g0 hx24 U24 Z2 R R R R) (Jl tv R R R R (Jc2 I2 R R (hvE ((g0.stp S9 R R).gInt hx24))) (Jn 1 R (Ob h fun x27 hx27 h => Jh R R R C107 (cmp_Less_int64_ok (κ := fun b => mp [] 0 (K8 b)) hx27) ?_)))))))))))))))
 rintro _ w13 ⟨k14, rfl, e15⟩
 obtain ⟨K16, S17, m18⟩ := Ji e15 2 R
 refine ⟨tv, Jd (Ob h fun q4 h hK20 => Jx1 (fun L w' => ∃ κ', L = [(0, .slice a0 p0.length u0), (1, vi p1), (6, vi (p0.length : Int)), (7, vi q4.1), (8, vi q4.2)] ∧ Stp [] K16 w13 κ' w') ?_ ?_)⟩
 revert h
 cases ht24 : x27
 refine JF fun h => Jy R (Ja [2, 2] R (Jc 2 R ?_))
 cases h
 exact Jw1 _ ⟨K16, R, (Jx2 _ _).wk R⟩ (KM R)
 refine JT fun h => Jx R (Ja [2, 2, 2] R (Jc 3 R ?_))
 cases h
 exact Jw1 _ ⟨K16, R, (Jx2 _ _).wk R⟩ (KM R)
 rintro _ w21 ⟨K22, rfl, S23⟩
 have h := hK20
 refine Jz ?_
 cases h
 exact Jz1 fun a ha => ⟨k, _, Ja3 _, ⟨K22, ((q4.1 : Int), (q4.2 : Int)), R, (S9.tr (S17.tr S23)).wk R, hk10⟩, (ha.mm R)⟩
 rintro _ w4 ⟨K5, s3, rfl, S6, rfl⟩
 have h := hK2
 dsimp only [aft] at h
 refine Jp (Je [2, 2, 2, 2, 2, 2, 2, 2, 1, 2, 2, 2, 2, 2, 2, 1, 1, 2, 2, 1, 2, 2, 2, 2, 2] R (Jn 5 R (Ob h fun p53 h hK25 => Ju1 [(5, 2), (6, 2), (7, 2), (8, 1), (9, 2), (10, 2), (11, 2), (12, 2), (13, 2), (14, 2), (15, 1), (16, 1), (17, 2), (18, 2), (19, 1), (20, 2), (21, 2), (22, 2)] [(23, 2), (24, 2)] (fun L w' => L = [(31, vi s3.1), (53, .bool p53)] ∧ ∃ κ', Stp [] K5 w4 κ' w') tv ?_ ?_)))
 revert h
 cases ht26 : decide (s3.1 < (p0.length : Int))
 refine JF fun h => Jn 3 R (Jd1 R R R R (Jn 6 R (Jd1 R R R R (Jd1 R R R R (Jn 2 R (Jd1 R R R R (Jn 3 R ?_)))))))
 cases h
 exact Jv1 _ tv ⟨R, _, (Jx2 _ _).wk R⟩ (KM R)
 refine JT fun h => Jn 2 R (Ob h fun x38 hx38 h => Jf R (Jf2 g0 hx38 U24 Z2 R R R R) ?_)
 have f27 := g0.stp S6 R R
 refine Jl tv R R R R (Jc2 I2 R R (hvE (f27.gInt hx38))) (Jn 3 R (Ob h fun p52 h hK28 => Ju1 [(12, 2), (13, 2), (14, 2), (15, 1), (16, 1), (17, 2), (18, 2), (19, 1), (20, 2), (21, 2)] [(22, 2)] (fun L w' => L = [(31, vi s3.1), (35, .bool true), (52, .bool p52)] ∧ ∃ κ', Stp [] K5 w4 κ' w') tv ?_ ?_))
 revert h
 cases ht29 : (x38 == p1)
 refine JF fun h => Jn 2 R (Ob h fun x45 hx45 h => Jf R (Jf2 f27 hx45 U24 Z2 R R R R) (Jl tv R R R R (Jc2 I2 R R (hvE (f27.gInt hx45))) (Ob h fun x47 hx47 h => Jh R R R C108 (slices_isNaN_int64_ok (κ := fun b => mp [] 0 (K5 b)) hx47) ?_)))
 rintro _ w30 ⟨k31, rfl, e32⟩
 obtain ⟨K33, S34, m35⟩ := Ji e32 2 R
 refine ⟨tv, Jn 1 R (Ob h fun p51 h hK37 => Ju1 [(18, 2), (19, 1), (20, 2)] [(21, 2)] (fun L w' => L = [(31, vi s3.1), (35, .bool true), (42, .bool false), (51, .bool p51)] ∧ ∃ κ', Stp [] K33 w30 κ' w') tv ?_ ?_)⟩
 revert h
 cases ht38 : x47
 refine JF fun h => Jn 1 R (Jd1 R R R R (Jn 1 R ?_))
 cases h
 exact Jv1 _ tv ⟨R, _, (Jx2 _ _).wk R⟩ (KM R)
 refine JT fun h => Jn 1 R (Ob h fun x50 hx50 h => Jh R R R C108 (slices_isNaN_int64_ok (κ := fun b => mp [] 0 (K33 b)) hx50) ?_)
 rintro _ w39 ⟨k40, rfl, e41⟩
 obtain ⟨K42, S43, m44⟩ := Ji e41 4 R
 refine ⟨tv, Jn 1 R ?_⟩
 cases h
 exact Jv1 _ tv ⟨R, _, S43.wk R⟩ (KM R)
 rintro _ w46 _ ⟨rfl, K47, S48⟩
 have h := hK37
 refine Jn 1 R ?_
 cases h
 exact Jv1 _ tv ⟨R, _, (S34.tr S48).wk R⟩ (KM R)
 refine JT fun h => Jn 3 R (Jd1 R R R R (Jd1 R R R R (Jn 2 R (Jd1 R R R R (Jn 2 R ?_)))))
 cases h
 exact Jv1 _ tv ⟨R, _, (Jx2 _ _).wk R⟩ (KM R)
 rintro _ w49 _ ⟨rfl, K50, S51⟩
 have h := hK28
 refine Jn 1 R ?_
 cases h
 exact Jv1 _ tv ⟨R, _, S51.wk R⟩ (KM R)
 rintro _ w52 _ ⟨rfl, K53, S54⟩
 have h := hK25
 refine Jb 2 R (Ju (Ja2 (l := [.tmp 4, .tmp 5]) V91 (Jp2 R (Jp2 R R)) R ?_))
 cases h
 exact ⟨K53, R, (hE.stp (S6.tr S54) R R)⟩
theorem l_eqPairS_ok {w : World} {κ : Col} {a0 u0} {p0 : (List Pair)} {a1 u1} {p1 : (List Pair)} (g0 : Rd Pair.rp κ w 0 a0 u0 p0) (g1 : Rd Pair.rp κ w 0 a1 u1 p1) {r : Bool} (h : l_eqPairS p0 p1 = some r) : Ret Try.prog 14 [.slice a0 p0.length u0, .slice a1 p1.length u1] w (fun v w' => ∃ (κ' : Col), v = .bool r ∧ Ent κ w κ' w') := by
 unfold l_eqPairS at h
 refine Ret.enter F14 R N14 R ?_
 dsimp only [envOf]
 have hE := Ent.refl κ w
 refine Je [2] R (Jb 1 R (Jq (Je [2, 2, 2, 2, 2] R (Jn 1 R (Jf R (Je2 U29 R R) (Jn 1 R (Jf R (Je2 U29 R R) (Jb 1 R ?_))))))))
 revert h
 cases ht1 : ((p0.length : Int) != (p1.length : Int))
 refine JF fun h => Jy R (Js (Jp (Jq (Je [2] R (Jb 1 R ?_)))))
 have hN2 : (p0.length : Int) ≤ 9223372036854775807 := g0.len_le
 refine Ob h fun q2 hq4 hK3 => ?_
 clear h
 refine Jx1 (fun L w' => ∃ κ', L = [] ∧ Stp [] κ w κ' w' ∧ q2 = Sum.inr ()) ?_ ?_
 refine Jv (Jy1 (fun k L w' => ∃ κ' v5, L = [(0, .slice a0 p0.length u0), (1, .slice a1 p1.length u1), (5, vi v5)] ∧ Stp [] κ w κ' w' ∧ 0 ≤ v5 ∧ Int.toNat ((p0.length : Int) - v5) = k ∧ cntM (l_eqPairS_b0 p0 p1) k v5 () = some q2) ⟨_, _, ⟨κ, 0, R, (Jx2 _ _).wk R, (by decide), (by simp), hq4⟩, (KM R)⟩ ?_)
 rintro k _ w8 ⟨K9, v5, rfl, S10, hj2, hJ2, h⟩
 rcases k with _ | k
 have hk11 := h; obtain ⟨o2, h⟩ := ex_eq (Sum.inr (Sum.inl ()) : Bool ⊕ ((Unit) ⊕ (Unit)))
 have hc2 : decide (v5 < (p0.length : Int)) = false := Jo2 (by omega)
 refine Jq (Je [2, 2, 2, 2] R (Jn 2 R (Jf R (Je2 U29 R R) (Jb 1 R (Jw2 R hc2 (Jc1 (Jt (Jt ?_))))))))
 cases h
 have h := hk11
 refine Jb1 ?_
 cases h
 exact Jw1 _ ⟨K9, R, S10.wk R, R⟩ KN
 obtain ⟨o2, h, hk11⟩ := BI h; unfold l_eqPairS_b0 at h
 have hc2 : decide (v5 < (p0.length : Int)) = true := Jn2 (by omega)
 refine Jq (Je [2, 2, 2, 2] R (Jn 2 R (Jf R (Je2 U29 R R) (Jb 1 R (Jv2 R hc2 (Js (Jp (Jq (Jv (Jq (Js1 (κ := K9) [0] none [(0, 2), (1, 2), (2, 2), (4, 2), (5, 2), (6, 2), (3, 0), (7, 0), (8, 1), (9, 2)] [] (by kernel_rfl) (by kernel_rfl) fun w13 S12 => Jn 2 R (Ob h fun x19 hx19 h => Jf R (Jf2 g0 hx19 U29 Z42 R R R R) (Jn 2 R (Ob h fun x23 hx23 h => Jf R (Jf2 g1 hx23 U29 Z42 R R R R) ?_))))))))))))))
 obtain ⟨cse15, hre15, hle15⟩ := ((g0.stp (S10.tr S12) R R)).gSt hx19
 obtain ⟨ae15_0, ue15_0, ae15_1, ue15_1, rfl, fe15_0, fe15_1⟩ := Pair.un hre15
 refine Jg R (Jd2 (cs := [.slice ae15_0 x19.Ask.length ue15_0, .slice ae15_1 x19.Give.length ue15_1]) I42 Z42 R R R (haC hle15 R)) ?_
 obtain ⟨cse17, hre17, hle17⟩ := ((g1.stp (S10.tr S12) R R)).gSt hx23
 obtain ⟨ae17_0, ue17_0, ae17_1, ue17_1, rfl, fe17_0, fe17_1⟩ := Pair.un hre17
 refine Jg R (Jd2 (cs := [.slice ae17_0 x23.Ask.length ue17_0, .slice ae17_1 x23.Give.length ue17_1]) I42 Z42 R R R (haC hle17 R)) (Ob h fun x25 hx25 h => Jh R R R C35 (l_eqPair_ok (κ := fun b => mp [] 0 (K9 b)) (p0 := x19) (p1 := x23) (Jl2 fe15_0 (mp [] 0) R R) (Jl2 fe15_1 (mp [] 0) R R) (Jl2 fe17_0 (mp [] 0) R R) (Jl2 fe17_1 (mp [] 0) R R) hx25) ?_)
 rintro _ w18 ⟨k19, rfl, e20⟩
 obtain ⟨K21, S22, m23⟩ := Ji e20 2 R
 refine ⟨(S22.cl R), Jn 1 R (Jt1 (Jd ?_))⟩
 revert h
 cases ht25 : (!x25)
 refine JF fun h => Jy R (Js (Jz (Jp (Ja [2, 2, 2] R (Jc 3 R ?_)))))
 have hw2 : IntKind.wrap .i64 (v5 + 1) = v5 + 1 := wr1 hj2 (Jm2 hc2) hN2
 rw [hw2]
 have hc2 := Jm2 hc2
 cases h
 exact Jz1 fun a ha => ⟨k, _, Ja3 _, ⟨K21, v5 + 1, R, (S10.tr (S12.tr S22)).wk R, by omega, by omega, hk11⟩, (ha.mm R)⟩
 refine JT fun h => Jx R (Je [2] R (Jb 1 R (Ju (Ja1 (Jw (Jw ?_))))))
 cases h
 obtain rfl := Option.some.inj hk11
 have h := hK3
 dsimp only [aft] at h
 refine Ja1 (Jq2 (Jw (Ja2 (l := [.tmp 4]) V14 (Jp2 R R) R ?_)))
 cases h
 exact ⟨K21, R, (hE.stp (S10.tr (S12.tr S22)) R R)⟩
 rintro _ w5 ⟨K6, rfl, S7, rfl⟩
 have h := hK3
 dsimp only [aft] at h
 refine Jp (Je [2] R (Jb 1 R (Ju (Ja2 (l := [.tmp 4]) V14 (Jp2 R R) R ?_))))
 cases h
 exact ⟨K6, R, (hE.stp S7 R R)⟩
 refine JT fun h => Jx R (Je [2] R (Jb 1 R (Ju (Jw (Ja2 (l := [.tmp 4]) V14 (Jp2 R R) R ?_)))))
 cases h
 exact ⟨κ, R, hE⟩
end Go.Proofs.Ytcmamhmpoinmnaa
