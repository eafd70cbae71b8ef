/- The walks, part 3. By program. -/
import Derived.Test.YtcmamhmpoinmnaaGreatFns0BO
import Derived.Test.YtcmamhmpoinmnaaGreatFns1BO
set_option linter.unusedVariables false
set_option linter.unusedSimpArgs false
namespace Go.Proofs.YtcmamhmpoinmnaaGreat
open Go Go.Wk Go.Proofs
set_option maxRecDepth 100000
set_option maxHeartbeats 1000000
theorem l_szInt64SS_ok {w : World} {κ : Col} {a0 u0} {p0 : (List (List Int))} {p1 : Int} (g0 : Rd (Rp.sl (Rp.int .i64)) κ w 0 a0 u0 p0) {r : Int} (h : l_szInt64SS p0 p1 = some r) : Ret Tryz.prog 47 [.slice a0 p0.length u0, vi p1] w (fun v w' => ∃ (κ' : Col), v = vi r ∧ Ent κ w κ' w') := by
 unfold l_szInt64SS at h
 refine Ret.enter F47 R N47 R ?_
 dsimp only [envOf]
 have hE := Ent.refl κ w
 refine Je [2] R (Jb 1 R (Je [2, 2, 2, 2, 2] R (Jn 2 R (Jf R (Je2 U24 R R) (Jb 2 R (Jq (Je [2, 2] R (Jb 2 R ?_))))))))
 revert h
 cases ht1 : decide ((IntKind.i64.wrap (p1 - (p0.length : Int))) < 0)
 refine JF fun h => Jy R (Js (Jp (Jq (Je [2] R (Jb 1 R ?_)))))
 have hN2 : (p0.length : Int) ≤ 9223372036854775807 := g0.len_le
 refine Ob h fun q2 hq4 hK3 => ?_
 clear h
 refine Jx1 (fun L w' => ∃ κ' s3, L = [(1, vi s3)] ∧ Stp [] κ w κ' w' ∧ q2 = Sum.inr s3) ?_ ?_
 refine Jv (Jy1 (fun k L w' => ∃ κ' v5 s1, L = [(0, .slice a0 p0.length u0), (1, vi s1), (5, vi v5)] ∧ Stp [] κ w κ' w' ∧ 0 ≤ v5 ∧ Int.toNat ((p0.length : Int) - v5) = k ∧ cntM (l_szInt64SS_b0 p0) k v5 s1 = some q2) ⟨_, _, ⟨κ, 0, ((IntKind.i64.wrap (p1 - (p0.length : Int))) : Int), R, (Jx2 _ _).wk R, (by decide), (by simp), hq4⟩, (KM R)⟩ ?_)
 rintro k _ w8 ⟨K9, v5, s1, rfl, S10, hj2, hJ2, h⟩
 rcases k with _ | k
 have hk11 := h; obtain ⟨o2, h⟩ := ex_eq (Sum.inr (Sum.inl s1) : Int ⊕ ((Int) ⊕ (Int)))
 have hc2 : decide (v5 < (p0.length : Int)) = false := Jo2 (by omega)
 refine Jq (Je [2, 2, 2, 2] R (Jn 2 R (Jf R (Je2 U24 R R) (Jb 1 R (Jw2 R hc2 (Jc1 (Jt (Jt ?_))))))))
 cases h
 have h := hk11
 refine Jb1 ?_
 cases h
 exact Jw1 _ ⟨K9, (s1 : Int), R, S10.wk R, R⟩ (KM R)
 obtain ⟨o2, h, hk11⟩ := BI h; unfold l_szInt64SS_b0 at h
 have hc2 : decide (v5 < (p0.length : Int)) = true := Jn2 (by omega)
 refine Jq (Je [2, 2, 2, 2] R (Jn 2 R (Jf R (Je2 U24 R R) (Jb 1 R (Jv2 R hc2 (Js (Jp (Jq (Jv (Je [2, 2, 2, 1, 2, 1, 2] R (Jn 2 R (Ob h fun x20 hx20 h => Jf R (Jf2 g0 hx20 U24 Z40 R R R R) ?_))))))))))))
 obtain ⟨ax20, ux20, f13, hl14⟩ := (g0.stp S10 R R).gSl hx20
 refine Jl tv R R R R (Jc2 I40 R R (hvE hl14)) (Jn 1 R (Ob h fun x23 hx23 h => Jh R R R C58 (l_szInt64S_ok (κ := fun b => mp [] 0 (K9 b)) (Jl2 f13 (mp [] 0) R R) hx23) ?_))
 rintro _ w15 ⟨k16, rfl, e17⟩
 obtain ⟨K18, S19, m20⟩ := Ji e17 2 R
 refine ⟨tv, Jb 1 R (Je [2, 2] R (Jb 2 R ?_))⟩
 revert h
 cases ht22 : decide (x23 < 0)
 refine JF fun h => Jy R (Js (Jz (Jp (Ja [2, 2, 2] R (Jc 3 R ?_)))))
 have hw2 : IntKind.wrap .i64 (v5 + 1) = v5 + 1 := wr1 hj2 (Jm2 hc2) hN2
 rw [hw2]
 have hc2 := Jm2 hc2
 cases h
 exact Jz1 fun a ha => ⟨k, _, Ja3 _, ⟨K18, v5 + 1, (x23 : Int), R, (S10.tr S19).wk R, by omega, by omega, hk11⟩, (ha.mm R)⟩
 refine JT fun h => Jx R (Je [2] R (Jb 1 R (Ju (Ja1 (Jw (Jw ?_))))))
 cases h
 obtain rfl := Option.some.inj hk11
 have h := hK3
 dsimp only [aft] at h
 refine Ja1 (Jq2 (Jw (Ja2 (l := [.tmp 4]) V47 (Jp2 R R) R ?_)))
 cases h
 exact ⟨K18, R, (hE.stp (S10.tr S19) R R)⟩
 rintro _ w5 ⟨K6, s3, rfl, S7, rfl⟩
 have h := hK3
 dsimp only [aft] at h
 refine Jp (Je [2, 2] R (Jb 2 R (Ju (Ja2 (l := [.tmp 4]) V47 (Jp2 R R) R ?_))))
 cases h
 exact ⟨K6, R, (hE.stp S7 R R)⟩
 refine JT fun h => Jx R (Je [2] R (Jb 1 R (Ju (Jw (Ja2 (l := [.tmp 4]) V47 (Jp2 R R) R ?_)))))
 cases h
 exact ⟨κ, R, hE⟩
theorem l_szClause_ok {w : World} {κ : Col} {ab ac aa ad} {p0 : Clause} {p1 : Int} (g0_1 : Rd (Rp.int .i64) κ w 0 ab ac p0.A) (g0_2 : Rd (Rp.int .i64) κ w 0 aa ad p0.B) {r : Int} (h : l_szClause p0 p1 = some r) : Ret Tryz.prog 48 [.agg #[vi p0.Kind, .slice ab p0.A.length ac, .slice aa p0.B.length ad], vi p1] w (fun v w' => ∃ (κ' : Col), v = vi r ∧ Ent κ w κ' w') := by
 unfold l_szClause at h
 refine Ret.enter F48 R N48 R ?_
 dsimp only [envOf]
 have hE := Ent.refl κ w
 refine Je [1, 2] R (Jf1 (κ := κ) 2 R R R R R R R fun b2 w1 K2 S3 f4 => ⟨tv, Jb 1 R (Je [2, 1, 2, 1, 2] R (Jf R (Jb2 U78 R Z40 R R) (Jl tv R R R R (Jc2 I40 R R (hvE (f4.ld 1 R R))) (Jn 1 R (Ob h fun x8 hx8 h => Jh R R R C58 (l_szInt64S_ok (κ := fun b => mp [] 0 (K2 b)) (Jl2 (g0_1.stp S3 R R) (mp [] 0) R R) hx8) ?_)))))⟩)
 rintro _ w6 ⟨k7, rfl, e8⟩
 obtain ⟨K9, S10, m11⟩ := Ji e8 3 R
 refine ⟨tv, Jb 1 R (Jq (Je [2, 2] R (Jb 2 R ?_)))⟩
 revert h
 cases ht13 : decide (x8 < 0)
 refine JF fun h => Jy R (Js (Jp (Je [2, 1, 2, 1, 2] R (Jf R (Jb2 U78 R Z40 R R) (Jl tv R R R R (Jc2 I40 R R (hvE ((f4.stp S10 R R).ld 2 R R))) (Jn 1 R (Ob h fun x14 hx14 h => Jh R R R C58 (l_szInt64S_ok (κ := fun b => mp [] 0 (K9 b)) (Jl2 (g0_2.stp (S3.tr S10) R R) (mp [] 0) R R) hx14) ?_)))))))
 rintro _ w17 ⟨k18, rfl, e19⟩
 obtain ⟨K20, S21, m22⟩ := Ji e19 5 R
 refine ⟨tv, Jb 1 R (Jq (Je [2, 2] R (Jb 2 R ?_)))⟩
 revert h
 cases ht24 : decide (x14 < 0)
 refine JF fun h => Jy R (Js (Jp (Je [2, 2] R (Jb 2 R (Ju (Ja2 (l := [.tmp 4]) V48 (Jp2 R R) R ?_))))))
 cases h
 exact ⟨K20, R, (hE.stp (S3.tr (S10.tr S21)) R R)⟩
 refine JT fun h => Jx R (Je [2] R (Jb 1 R (Ju (Jw (Ja2 (l := [.tmp 4]) V48 (Jp2 R R) R ?_)))))
 cases h
 exact ⟨K20, R, (hE.stp (S3.tr (S10.tr S21)) R R)⟩
 refine JT fun h => Jx R (Je [2] R (Jb 1 R (Ju (Jw (Ja2 (l := [.tmp 4]) V48 (Jp2 R R) R ?_)))))
 cases h
 exact ⟨K9, R, (hE.stp (S3.tr S10) R R)⟩
theorem s_SigOk_ok {w : World} {κ : Col} {p0 : Sig}  {r : Bool} (h : s_SigOk p0 = some r) : Ret Tryz.prog 84 [.agg #[vi p0.In, vi p0.Out]] w (fun v w' => ∃ (κ' : Col), v = .bool r ∧ Ent κ w κ' w') := by
 unfold s_SigOk at h
 refine Ret.enter F84 R N84 R ?_
 dsimp only [envOf]
 have hE := Ent.refl κ w
 refine Je [1, 2] R (Jf1 (κ := κ) 2 R R R R R R R fun b1 w1 K2 S3 f4 => ⟨tv, Jb 1 R (Je [2, 1, 1, 2, 2, 1, 1, 2, 2] R (Jf R (Jb2 U31 R Z2 R R) (Jl tv R R R R (Jc2 I2 R R (hvE (f4.ld 0 R R))) (Ob h fun x5 hx5 h => Jh R R R C77 (s_l1In_ok (κ := fun b => mp [] 0 (K2 b)) hx5) ?_))))⟩)
 rintro _ w5 ⟨k6, rfl, e7⟩
 obtain ⟨K8, S9, m10⟩ := Ji e7 3 R
 refine ⟨tv, Jn 1 R (Ob h fun p10 h hK12 => Ju1 [(4, 2), (5, 1), (6, 1), (7, 2)] [(8, 2)] (fun L w' => L = [(2, .bool false), (10, .bool p10)] ∧ ∃ κ', Stp [] K8 w5 κ' w') tv ?_ ?_)⟩
 revert h
 cases ht13 : x5
 refine JF fun h => Jn 1 R (Jd1 R R R R (Jd1 R R R R (Jn 1 R ?_)))
 cases h
 exact Jv1 _ tv ⟨R, _, (Jx2 _ _).wk R⟩ (KM R)
 refine JT fun h => Jf R (Jb2 U31 R Z2 R R) (Jl tv R R R R (Jc2 I2 R R (hvE ((f4.stp S9 R R).ld 1 R R))) (Ob h fun x9 hx9 h => Jh R R R C77 (s_l1In_ok (κ := fun b => mp [] 0 (K8 b)) hx9) ?_))
 rintro _ w15 ⟨k16, rfl, e17⟩
 obtain ⟨K18, S19, m20⟩ := Ji e17 5 R
 refine ⟨tv, Jn 1 R ?_⟩
 cases h
 exact Jv1 _ tv ⟨R, _, S19.wk R⟩ (KM R)
 rintro _ w22 _ ⟨rfl, K23, S24⟩
 have h := hK12
 refine Jb 1 R (Ju (Ja2 (l := [.tmp 2]) V84 (Jp2 R R) R ?_))
 cases h
 exact ⟨K23, R, (hE.stp (S3.tr (S9.tr S24)) R R)⟩
theorem s_l1Rises_ok {w : World} {κ : Col} {a0 u0} {p0 : (List Int)} {p1 : Int} (g0 : Rd (Rp.int .i64) κ w 0 a0 u0 p0) {r : Bool} (h : s_l1Rises p0 p1 = some r) : Ret Tryz.prog 162 [.slice a0 p0.length u0, vi p1] w (fun v w' => ∃ (κ' : Col), v = .bool r ∧ Ent κ w κ' w') := by
 unfold s_l1Rises at h
 refine Ret.enter F162 R N162 R ?_
 dsimp only [envOf]
 have hE := Ent.refl κ w
 refine Je [2] R (Jb 1 R (Jq (Je [2] R (Jb 1 R ?_))))
 have hN1 : (p0.length : Int) ≤ 9223372036854775807 := g0.len_le
 refine Ob h fun q2 hq3 hK2 => ?_
 clear h
 refine Jx1 (fun L w' => ∃ κ', L = [] ∧ Stp [] κ w κ' w' ∧ q2 = Sum.inr ()) ?_ ?_
 refine Jv (Jy1 (fun k L w' => ∃ κ' v5, L = [(0, .slice a0 p0.length u0), (1, vi p1), (5, vi v5)] ∧ Stp [] κ w κ' w' ∧ 0 ≤ v5 ∧ Int.toNat ((p0.length : Int) - v5) = k ∧ cntM (s_l1Rises_b0 p0 p1) k v5 () = some q2) ⟨_, _, ⟨κ, 0, R, (Jx2 _ _).wk R, (by decide), (by simp), hq3⟩, (KM R)⟩ ?_)
 rintro k _ w7 ⟨K8, v5, rfl, S9, hj1, hJ1, h⟩
 rcases k with _ | k
 have hk10 := h; obtain ⟨o1, h⟩ := ex_eq (Sum.inr (Sum.inl ()) : Bool ⊕ ((Unit) ⊕ (Unit)))
 have hc1 : decide (v5 < (p0.length : Int)) = false := Jo2 (by omega)
 refine Jq (Je [2, 2, 2, 2] R (Jn 2 R (Jf R (Je2 U40 R R) (Jb 1 R (Jw2 R hc1 (Jc1 (Jt (Jt ?_))))))))
 cases h
 have h := hk10
 refine Jb1 ?_
 cases h
 exact Jw1 _ ⟨K8, R, S9.wk R, R⟩ KN
 obtain ⟨o1, h, hk10⟩ := BI h; unfold s_l1Rises_b0 at h
 have hc1 : decide (v5 < (p0.length : Int)) = true := Jn2 (by omega)
 refine Jq (Je [2, 2, 2, 2] R (Jn 2 R (Jf R (Je2 U40 R R) (Jb 1 R (Jv2 R hc1 (Js (Jp (Jq (Jv (Jq (Js1 (κ := K8) [0] none [(0, 2), (1, 2), (2, 2), (4, 2), (5, 2), (3, 0), (6, 1), (7, 2), (8, 2), (9, 2), (10, 2), (11, 2), (12, 2), (13, 2), (14, 2), (16, 2), (17, 2), (18, 2), (19, 2), (15, 0), (20, 0), (21, 2), (22, 2), (23, 2)] [] (by kernel_rfl) (by kernel_rfl) fun w12 S11 => Jn 2 R (Ob h fun x14 hx14 h => Jf R (Jf2 g0 hx14 U40 Z2 R R R R) (Jn 2 R ?_)))))))))))))
 have f13 := g0.stp (S9.tr S11) R R
 refine Jg R (Jc2 I2 R R (hvC (f13.gInt hx14) R)) (Ob h fun x18 hx18 h => Jh R R R C77 (s_l1In_ok (κ := fun b => mp [] 0 (K8 b)) hx18) ?_)
 rintro _ w14 ⟨k15, rfl, e16⟩
 obtain ⟨K17, S18, m19⟩ := Ji e16 2 R
 refine ⟨(S18.cl R), Jn 2 R (Ob h fun p35 h hK21 => Ju1 [(9, 2), (10, 2), (11, 2), (12, 2), (13, 2), (14, 2), (16, 2), (17, 2), (18, 2), (19, 2), (15, 0), (20, 0), (21, 2), (22, 2), (23, 2)] [] (fun L w' => L = [(0, .slice a0 p0.length u0), (1, vi p1), (5, vi v5), (35, .bool p35)] ∧ ∃ κ', Stp [] K17 w14 κ' w') (S18.cl R) ?_ ?_)⟩
 revert h
 cases ht22 : (!x18)
 refine JF fun h => Jn 3 R (Ob h fun p34 h hK23 => Ju1 [(12, 2), (13, 2), (14, 2), (16, 2), (17, 2), (18, 2), (19, 2), (15, 0), (20, 0), (21, 2), (22, 2)] [(23, 2)] (fun L w' => L = [(0, .slice a0 p0.length u0), (1, vi p1), (5, vi v5), (20, .bool false), (21, vi v5), (22, .bool (decide (0 < v5))), (23, .bool (decide (0 < v5))), (34, .bool p34)] ∧ ∃ κ', Stp [] K17 w14 κ' w') (S18.cl R) ?_ ?_)
 revert h
 cases ht24 : decide (0 < v5)
 refine JF fun h => Jn 7 R (Je1 R R R R (Je1 R R R R (Jn 2 R ?_)))
 cases h
 exact Jv1 _ (S18.cl R) ⟨R, _, (Jx2 _ _).wk R⟩ (KM R)
 refine JT fun h => Jn 2 R (Ob h fun x26 hx26 h => Jf R (Jf2 f13 hx26 U40 Z2 R R R R) (Jn 3 R (Ob h fun x31 hx31 h => Jf R (Jf2 f13 hx31 U40 Z2 R R R R) (Jg R (Jc2 I2 R R (hvC (f13.gInt hx26) R)) (Jg R (Jc2 I2 R R (hvC (f13.gInt hx31) R)) (Jn 2 R ?_))))))
 cases h
 exact Jv1 _ (S18.cl R) ⟨R, _, (Jx2 _ _).wk R⟩ (KM R)
 rintro _ w25 _ ⟨rfl, K26, S27⟩
 have h := hK23
 refine Jn 1 R ?_
 cases h
 exact Jv1 _ ((S18.tr S27).cl R) ⟨R, _, S27.wk R⟩ (KM R)
 refine JT fun h => Jn 10 R (Je1 R R R R (Je1 R R R R (Jn 3 R ?_)))
 cases h
 exact Jv1 _ (S18.cl R) ⟨R, _, (Jx2 _ _).wk R⟩ (KM R)
 rintro _ w28 _ ⟨rfl, K29, S30⟩
 have h := hK21
 refine Jt1 (Jd ?_)
 revert h
 cases ht31 : p35
 refine JF fun h => Jy R (Js (Jz (Jp (Ja [2, 2, 2] R (Jc 3 R ?_)))))
 have hw1 : IntKind.wrap .i64 (v5 + 1) = v5 + 1 := wr1 hj1 (Jm2 hc1) hN1
 rw [hw1]
 have hc1 := Jm2 hc1
 cases h
 exact Jz1 fun a ha => ⟨k, _, Ja3 _, ⟨K29, v5 + 1, R, (S9.tr (S11.tr (S18.tr S30))).wk R, by omega, by omega, hk10⟩, (ha.mm R)⟩
 refine JT fun h => Jx R (Je [2] R (Jb 1 R (Ju (Ja1 (Jw (Jw ?_))))))
 cases h
 obtain rfl := Option.some.inj hk10
 have h := hK2
 dsimp only [aft] at h
 refine Ja1 (Jq2 (Jw (Ja2 (l := [.tmp 4]) V162 (Jp2 R R) R ?_)))
 cases h
 exact ⟨K29, R, (hE.stp (S9.tr (S11.tr (S18.tr S30))) R R)⟩
 rintro _ w4 ⟨K5, rfl, S6, rfl⟩
 have h := hK2
 dsimp only [aft] at h
 refine Jp (Je [2] R (Jb 1 R (Ju (Ja2 (l := [.tmp 4]) V162 (Jp2 R R) R ?_))))
 cases h
 exact ⟨K5, R, (hE.stp S6 R R)⟩
theorem s_l23Below_ok {w : World} {κ : Col} {a0 u0} {p0 : (List Int)} {p1 : Int} (g0 : Rd (Rp.int .i64) κ w 0 a0 u0 p0) {r : Bool} (h : s_l23Below p0 p1 = some r) : Ret Tryz.prog 112 [.slice a0 p0.length u0, vi p1] w (fun v w' => ∃ (κ' : Col), v = .bool r ∧ Ent κ w κ' w') := by
 unfold s_l23Below at h
 refine Ret.enter F112 R N112 R ?_
 dsimp only [envOf]
 have hE := Ent.refl κ w
 refine Je [2] R (Jb 1 R (Jq (Je [2] R (Jb 1 R ?_))))
 have hN1 : (p0.length : Int) ≤ 9223372036854775807 := g0.len_le
 refine Ob h fun q2 hq3 hK2 => ?_
 clear h
 refine Jx1 (fun L w' => ∃ κ', L = [] ∧ Stp [] κ w κ' w' ∧ q2 = Sum.inr ()) ?_ ?_
 refine Jv (Jy1 (fun k L w' => ∃ κ' v5, L = [(0, .slice a0 p0.length u0), (1, vi p1), (5, vi v5)] ∧ Stp [] κ w κ' w' ∧ 0 ≤ v5 ∧ Int.toNat ((p0.length : Int) - v5) = k ∧ cntM (s_l23Below_b0 p0 p1) k v5 () = some q2) ⟨_, _, ⟨κ, 0, R, (Jx2 _ _).wk R, (by decide), (by simp), hq3⟩, (KM R)⟩ ?_)
 rintro k _ w7 ⟨K8, v5, rfl, S9, hj1, hJ1, h⟩
 rcases k with _ | k
 have hk10 := h; obtain ⟨o1, h⟩ := ex_eq (Sum.inr (Sum.inl ()) : Bool ⊕ ((Unit) ⊕ (Unit)))
 have hc1 : decide (v5 < (p0.length : Int)) = false := Jo2 (by omega)
 refine Jq (Je [2, 2, 2, 2] R (Jn 2 R (Jf R (Je2 U40 R R) (Jb 1 R (Jw2 R hc1 (Jc1 (Jt (Jt ?_))))))))
 cases h
 have h := hk10
 refine Jb1 ?_
 cases h
 exact Jw1 _ ⟨K8, R, S9.wk R, R⟩ KN
 obtain ⟨o1, h, hk10⟩ := BI h; unfold s_l23Below_b0 at h
 have hc1 : decide (v5 < (p0.length : Int)) = true := Jn2 (by omega)
 refine Jq (Je [2, 2, 2, 2] R (Jn 2 R (Jf R (Je2 U40 R R) (Jb 1 R (Jv2 R hc1 (Js (Jp (Jq (Jv (Je [2, 2, 2, 1, 2, 2, 1, 2] R (Jn 2 R (Ob h fun x14 hx14 h => Jf R (Jf2 g0 hx14 U40 Z2 R R R R) (Jl tv R R R R (Jc2 I2 R R (hvE ((g0.stp S9 R R).gInt hx14))) (Jn 2 R (Ob h fun x18 hx18 h => Jh R R R C77 (s_l1In_ok (κ := fun b => mp [] 0 (K8 b)) hx18) ?_)))))))))))))))
 rintro _ w12 ⟨k13, rfl, e14⟩
 obtain ⟨K15, S16, m17⟩ := Ji e14 2 R
 refine ⟨tv, Jb 1 R ?_⟩
 revert h
 cases ht19 : (!x18)
 refine JF fun h => Jy R (Js (Jz (Jp (Ja [2, 2, 2] R (Jc 3 R ?_)))))
 have hw1 : IntKind.wrap .i64 (v5 + 1) = v5 + 1 := wr1 hj1 (Jm2 hc1) hN1
 rw [hw1]
 have hc1 := Jm2 hc1
 cases h
 exact Jz1 fun a ha => ⟨k, _, Ja3 _, ⟨K15, v5 + 1, R, (S9.tr S16).wk R, by omega, by omega, hk10⟩, (ha.mm R)⟩
 refine JT fun h => Jx R (Je [2] R (Jb 1 R (Ju (Ja1 (Jw (Jw ?_))))))
 cases h
 obtain rfl := Option.some.inj hk10
 have h := hK2
 dsimp only [aft] at h
 refine Ja1 (Jq2 (Jw (Ja2 (l := [.tmp 4]) V112 (Jp2 R R) R ?_)))
 cases h
 exact ⟨K15, R, (hE.stp (S9.tr S16) R R)⟩
 rintro _ w4 ⟨K5, rfl, S6, rfl⟩
 have h := hK2
 dsimp only [aft] at h
 refine Jp (Je [2] R (Jb 1 R (Ju (Ja2 (l := [.tmp 4]) V112 (Jp2 R R) R ?_))))
 cases h
 exact ⟨K5, R, (hE.stp S6 R R)⟩
theorem s_l30May_ok {w : World} {κ : Col} {p0 : Int} {a1 u1} {p1 : (List Int)} (g1 : Rd (Rp.int .i64) κ w 0 a1 u1 p1) {r : (List Bool)} (h : s_l30May p0 p1 = some r) : Ret Tryz.prog 104 [vi p0, .slice a1 p1.length u1] w (fun v w' => ∃ (κ' : Col) (ra0 : Option Addr) (ru0 : Nat), v = .slice ra0 r.length ru0 ∧ Ent κ w κ' w' ∧ Oc Ep.bool 4 κ' w' 2 ra0 ru0 r) := by
 unfold s_l30May at h
 refine Ret.enter F104 R N104 R ?_
 dsimp only [envOf]
 have hE := Ent.refl κ w
 refine Je [2] R (Jb 1 R (Je [1, 2] R (Jo1 (κ := κ) (E := Ep.bool) 2 R R R R R Y135 Tryzinfo4 R fun a7 u7 w1 K2 S3 f4 => ⟨tv, Jb 1 R (Jq (Je [2] R (Jb 1 R (Ob h fun _ hr5 h => ?_))))⟩)))
 have hN5 := rng_ok hr5
 refine Ob h fun q2 hq7 hK6 => ?_
 clear h
 refine Jx1 (fun L w' => ∃ κ', ∃ s3 : (List Bool), ∃ aa ac, L = [(5, .slice aa s3.length ac)] ∧ Stp [2] K2 w1 κ' w' ∧ Oc Ep.bool 4 κ' w' 2 aa ac s3 ∧ q2 = Sum.inr s3) ?_ ?_
 refine Jv (Jy1 (fun k L w' => ∃ κ' v6, ∃ s1 : (List Bool), ∃ ab ad, L = [(0, vi p0), (1, .slice a1 p1.length u1), (5, .slice ab s1.length ad), (6, vi v6)] ∧ Stp [2] K2 w1 κ' w' ∧ Oc Ep.bool 4 κ' w' 2 ab ad s1 ∧ 0 ≤ v6 ∧ Int.toNat (p0 - v6) = k ∧ cntM (s_l30May_b0 p1) k v6 s1 = some q2) ⟨_, _, ⟨K2, 0, (([] : List Bool) : (List Bool)), a7, u7, R, (Jx2 _ _).wk R, f4, (by decide), (by simp), hq7⟩, (KM R)⟩ ?_)
 rintro k _ w12 ⟨K13, v6, s1, ab, ad, rfl, S14, f15, hj5, hJ5, h⟩
 rcases k with _ | k
 have hk16 := h; obtain ⟨o5, h⟩ := ex_eq (Sum.inr (Sum.inl s1) : (List Bool) ⊕ (((List Bool)) ⊕ ((List Bool))))
 have hc5 : decide (v6 < p0) = false := Jo2 (by omega)
 refine Jq (Je [2, 2, 2] R (Jb 3 R (Jw2 R hc5 (Jc1 (Jt (Jt ?_))))))
 cases h
 have h := hk16
 refine Jb1 ?_
 cases h
 exact Jw1 _ ⟨K13, (s1 : (List Bool)), ab, ad, R, S14.wk R, f15, R⟩ (KM R)
 obtain ⟨o5, h, hk16⟩ := BI h; unfold s_l30May_b0 at h
 have hc5 : decide (v6 < p0) = true := Jn2 (by omega)
 refine Jq (Je [2, 2, 2] R (Jb 3 R (Jv2 R hc5 (Js (Jp (Jq (Jv (Ja [2, 2, 2, 1, 2, 1, 1, 2] R (Jn 3 R (Ob h fun x16 hx16 h => Jh R R R C117 (s_l1Has_ok (κ := fun b => mp [] 0 (K13 b)) (Jl2 (g1.stp (S3.tr S14) R R) (mp [] 0) R R) hx16) ?_))))))))))
 rintro _ w18 ⟨k19, rfl, e20⟩
 obtain ⟨K21, S22, m23⟩ := Ji e20 3 R
 refine ⟨tv, Jn 1 R (Jn1 (κ := K21) (E := Ep.bool) 5 [] (parts := [(0, .tmp 17)]) (cells := [.bool (!x16)]) (xs := ([(!x16)] : List Bool)) R R R R R R Y135 Tryzinfo4 R R R R R R R R R R ⟨[.bool (!x16)], [], Zl K21 w18 [], Zl K21 w18 [], R, Zl.sp (l1 := []) (l2 := []) R, Zl.sr (l1 := []) (l2 := []), R, R⟩ fun ai ah w25 K26 S27 f28 => ⟨tv, Ob h fun x19 hx19 h => Jm1 (κ := K26) (E := Ep.bool) 2 [] R R R R R R R R R Y135 Tryzinfo4 R R R R (f15.stp (S22.tr S27) R R) (Sl.srcP pu_bool f28.rdc) sy_false hx19 R fun af ae w30 K31 S32 f33 => ⟨tv, Jc 1 R (Jz (Jp (Ja [2, 2, 2] R (Jc 3 R ?_))))⟩⟩)⟩
 have hw5 : IntKind.wrap .i64 (v6 + 1) = v6 + 1 := wr1 hj5 (Jm2 hc5) hN5
 rw [hw5]
 have hc5 := Jm2 hc5
 cases h
 exact Jz1 fun a ha => ⟨k, _, Ja3 _, ⟨K31, v6 + 1, (x19 : (List Bool)), af, ae, R, (S14.tr (S22.tr (S27.tr S32))).wk R, f33, by omega, by omega, hk16⟩, (ha.mm R)⟩
 rintro _ w8 ⟨K9, s3, aa, ac, rfl, S10, f11, rfl⟩
 have h := hK6
 dsimp only [aft] at h
 refine Jp (Je [2, 2] R (Jb 2 R (Ju (Ja2 (l := [.tmp 4]) V104 (Jp2 R R) R ?_))))
 cases h
 exact ⟨K9, aa, ac, R, (hE.stp (S3.tr S10) R R), f11⟩
theorem slices_Contains_I_int64_ok {w : World} {κ : Col} {a0 u0} {p0 : (List Int)} {p1 : Int} (g0 : Rd (Rp.int .i64) κ w 0 a0 u0 p0) {r : Bool} (h : slices_Contains_I_int64 p0 p1 = some r) : Ret Tryz.prog 73 [.slice a0 p0.length u0, vi p1] w (fun v w' => ∃ (κ' : Col), v = .bool r ∧ Ent κ w κ' w') := by
 unfold slices_Contains_I_int64 at h
 refine Ret.enter F73 R N73 R ?_
 dsimp only [envOf]
 have hE := Ent.refl κ w
 refine Je [2] R (Jb 1 R (Je [2, 2, 1, 2, 2] R (Jn 2 R (Ob h fun x7 hx7 h => Jh R R R C122 (slices_Index_I_int64_ok (κ := fun b => mp [] 0 (κ b)) (Jl2 g0 (mp [] 0) R R) hx7) ?_))))
 rintro _ w1 ⟨k2, rfl, e3⟩
 obtain ⟨K4, S5, m6⟩ := Ji e3 2 R
 refine ⟨tv, Jb 2 R (Ju (Ja2 (l := [.tmp 4]) V73 (Jp2 R R) R ?_))⟩
 cases h
 exact ⟨K4, R, (hE.stp S5 R R)⟩
theorem i_loopsIn_1__i_loopsIn_2__i_loopsIn_1_ok (n : Nat) : ∀ {w : World} {κ : Col} {p0 : Int} {a1 u1} {p1 : (List (List Int))} {ac ab} {c2_0 : (List Int)} {a3 u3} {c0 : (List Bool)} {a4 u4} {c1 : (List Bool)} {b2_0 b3 b4 b5} (g1 : Rd (Rp.sl (Rp.int .i64)) κ w 0 a1 u1 p1) (g2_0 : Oc E6 2 κ w 2 ac ab c2_0) (g3 : Oc Ep.bool 4 κ w 3 a3 u3 c0) (g4 : Rd Rp.bool κ w 0 a4 u4 c1) (gb2_0 : Bc κ w 4 b2_0 40 [.slice ac c2_0.length ab]) (gb3 : Bc κ w 0 b3 135 [.slice a3 c0.length u3]) (gb4 : Bc κ w 0 b4 135 [.slice a4 c1.length u4]) (gb5 : Bc κ w 0 b5 173 [.func (.func 152) #[] #[.pointer (some ⟨b3, 0, none⟩), .pointer (some ⟨b4, 0, none⟩), .pointer (some ⟨b5, 0, none⟩)]]) {r : (List Int) × (List Bool)} (h : i_loopsIn_1__i_loopsIn_2__i_loopsIn_1 n p0 p1 c2_0 c0 c1 = some r), Ret Tryz.prog 152 [vi p0, .slice a1 p1.length u1, .func (.func 153) #[] #[.pointer (some ⟨b2_0, 0, none⟩)], .pointer (some ⟨b3, 0, none⟩), .pointer (some ⟨b4, 0, none⟩), .pointer (some ⟨b5, 0, none⟩)] w (fun v w' => ∃ (κ' : Col) (ma0 : Option Addr) (mu0 : Nat), v = .tuple #[] ∧ Ent κ w κ' w' ∧ Oc E6 2 κ' w' 2 ma0 mu0 r.1 ∧ Oc Ep.bool 4 κ' w' 3 a3 u3 r.2 ∧ c0.length = r.2.length ∧ Bc κ' w' 4 b2_0 40 [.slice ma0 r.1.length mu0]) := by
 induction n with
 | zero =>
  intro w κ p0 a1 u1 p1 ac ab c2_0 a3 u3 c0 a4 u4 c1 b2_0 b3 b4 b5 g1 g2_0 g3 g4 gb2_0 gb3 gb4 gb5 r h
  cases h
 | succ n ih =>
  intro w κ p0 a1 u1 p1 ac ab c2_0 a3 u3 c0 a4 u4 c1 b2_0 b3 b4 b5 g1 g2_0 g3 g4 gb2_0 gb3 gb4 gb5 r h
  have h : i_loopsIn_1__i_loopsIn_2__i_loopsIn_1_s (i_loopsIn_1__i_loopsIn_2__i_loopsIn_1 n) p0 p1 c2_0 c0 c1 = some r := h
  unfold i_loopsIn_1__i_loopsIn_2__i_loopsIn_1_s at h
  refine Ret.enter F152 R N152 R ?_
  dsimp only [envOf]
  have hE := Ent.refl κ w
  refine Je [1, 2, 2, 1] R (Jl tv R R R R (Jc2 I135 R R (hvE (gb3.ld 0 R R))) (Jn 1 R (Ob h fun x13 hx13 h => Jf R (Jf2 g3.rdc hx13 U135 Z4 R R R R) (Ob h fun y261 hy261 h => Jk1 (κ := κ) (E := Ep.bool) 3 [] R R R R R R R R Z4 R R R R g3 hy261 fun w1 K2 S3 f4 => ⟨tv, ?_⟩))))
  have hn5 : c0.length = y261.length := (Jt2 hy261).2.2.2.symm
  refine Jd (Jq (Je [2, 2, 2, 1, 2, 2] R (Jn 2 R (Ob h fun x16 hx16 h => Jf R (Jf2 g1 hx16 U24 Z40 R R R R) ?_))))
  have f6 := g1.stp S3 R R
  obtain ⟨ax16, ux16, f7, hl8⟩ := f6.gSl hx16
  refine Jl tv R R R R (Jc2 I40 R R (hvE hl8)) (Jf R (Je2 U40 R R) (Jb 1 R ?_))
  have hN9 : (x16.length : Int) ≤ 9223372036854775807 := f7.len_le
  refine Ob h fun q2 hq11 hK10 => ?_
  clear h
  refine Jx1 (fun L w' => ∃ κ', ∃ s3 : (List Int) × (List Bool), ∃ ah ai, L = [(0, vi p0), (2, .func (.func 153) #[] #[.pointer (some ⟨b2_0, 0, none⟩)]), (3, .pointer (some ⟨b3, 0, none⟩)), (4, .pointer (some ⟨b4, 0, none⟩)), (5, .pointer (some ⟨b5, 0, none⟩))] ∧ Stp [2, 3, 4, 7, 8, 9] K2 w1 κ' w' ∧ Oc E6 2 κ' w' 2 ah ai s3.1 ∧ Oc Ep.bool 4 κ' w' 3 a3 u3 s3.2 ∧ c0.length = s3.2.length ∧ Bc κ' w' 4 b2_0 40 [.slice ah s3.1.length ai] ∧ q2 = Sum.inr s3) ?_ ?_
  refine Jv (Jy1 (fun k L w' => ∃ κ' v19, ∃ s1 : (List Int) × (List Bool), ∃ aa ad, L = [(0, vi p0), (1, .slice a1 p1.length u1), (2, .func (.func 153) #[] #[.pointer (some ⟨b2_0, 0, none⟩)]), (3, .pointer (some ⟨b3, 0, none⟩)), (4, .pointer (some ⟨b4, 0, none⟩)), (5, .pointer (some ⟨b5, 0, none⟩)), (17, .slice ax16 x16.length ux16), (18, vi (x16.length : Int)), (19, vi v19)] ∧ Stp [2, 3, 4, 7, 8, 9] K2 w1 κ' w' ∧ Oc E6 2 κ' w' 2 aa ad s1.1 ∧ Oc Ep.bool 4 κ' w' 3 a3 u3 s1.2 ∧ c0.length = s1.2.length ∧ Bc κ' w' 4 b2_0 40 [.slice aa s1.1.length ad] ∧ 0 ≤ v19 ∧ Int.toNat ((x16.length : Int) - v19) = k ∧ cntM (i_loopsIn_1__i_loopsIn_2__i_loopsIn_1_b0 (i_loopsIn_1__i_loopsIn_2__i_loopsIn_1 n) p1 c1 x16) k v19 s1 = some q2) ⟨_, _, ⟨K2, 0, ((c2_0 : (List Int)), (y261 : (List Bool))), ac, ab, R, (Jx2 _ _).wk R, (g2_0.stp S3 R R), f4, hn5, (gb2_0.stp S3 R R), (by decide), (by simp), hq11⟩, (KM R)⟩ ?_)
  rintro k _ w19 ⟨K20, v19, s1, aa, ad, rfl, S21, f22, f23, hn24, f25, hj9, hJ9, h⟩
  rcases k with _ | k
  have hk28 := h; obtain ⟨o9, h⟩ := ex_eq (Sum.inr (Sum.inl s1) : ((List Int) × (List Bool)) ⊕ (((List Int) × (List Bool)) ⊕ ((List Int) × (List Bool))))
  have hc9 : decide (v19 < (x16.length : Int)) = false := Jo2 (by omega)
  refine Je [2] R (Jb 1 R (Jq (Jw2 R hc9 (Jc1 (Jt (Jt ?_))))))
  cases h
  have h := hk28
  refine Jb1 ?_
  cases h
  exact Jw1 _ ⟨K20, ((s1.1 : (List Int)), (s1.2 : (List Bool))), aa, ad, R, S21.wk R, f22, f23, hn24, f25, R⟩ (KM R)
  obtain ⟨o9, h, hk28⟩ := BI h; unfold i_loopsIn_1__i_loopsIn_2__i_loopsIn_1_b0 at h
  have hc9 : decide (v19 < (x16.length : Int)) = true := Jn2 (by omega)
  refine Je [2] R (Jb 1 R (Jq (Jv2 R hc9 (Js (Jp (Jq (Jv (Je [2, 1, 2] R (Ob h fun x21 hx21 h => Jf R (Jf2 f7 hx21 U40 Z2 R R R R) (Jl tv R R R R (Jc2 I2 R R (hvE ((f7.stp S21 R R).gInt hx21))) (Jb 1 R (Je [1, 2, 2, 1, 2, 1, 2, 2, 1, 2, 2] R ?_))))))))))))
  have f30 := gb4.stp (S3.tr S21) R R
  refine Jl tv R R R R (Jc2 I135 R R (hvE (f30.ld 0 R R))) (Jn 1 R (Ob h fun x25 hx25 h => Jf R (Jf2 g4 hx25 U135 Z4 R R R R) ?_))
  have f31 := g4.stp (S3.tr S21) R R
  refine Jl tv R R R R (Jc2 I4 R R (hvE (f31.gBool hx25))) (Jn 1 R (Ob h fun p33 h hK32 => Ju1 [(5, 1), (6, 2), (7, 2), (8, 1), (9, 2), (10, 2)] [] (fun L w' => L = [(0, vi p0), (1, .slice a1 p1.length u1), (2, .func (.func 153) #[] #[.pointer (some ⟨b2_0, 0, none⟩)]), (3, .pointer (some ⟨b3, 0, none⟩)), (4, .pointer (some ⟨b4, 0, none⟩)), (5, .pointer (some ⟨b5, 0, none⟩)), (10, vi x21), (17, .slice ax16 x16.length ux16), (18, vi (x16.length : Int)), (19, vi v19), (33, .bool p33)] ∧ ∃ κ', Stp [] K20 w19 κ' w') tv ?_ ?_))
  revert h
  cases ht33 : x25
  refine JF fun h => Jd1 R R R R (Jn 2 R (Jd1 R R R R (Jn 2 R ?_)))
  cases h
  exact Jv1 _ tv ⟨R, _, (Jx2 _ _).wk R⟩ (KM R)
  refine JT fun h => Jl tv R R R R (Jc2 I135 R R (hvE ((gb3.stp (S3.tr S21) R R).ld 0 R R))) (Jn 1 R (Ob h fun x30 hx30 h => Jf R (Jf2 f23.rdc hx30 U135 Z4 R R hn24 R) (Jl tv R R R R (Jc2 I4 R R (hvE (f23.rdc.gBool hx30))) (Jn 2 R ?_))))
  cases h
  exact Jv1 _ tv ⟨R, _, (Jx2 _ _).wk R⟩ (KM R)
  rintro _ w35 _ ⟨rfl, K36, S37⟩
  have h := hK32
  refine Jd (Ob h fun q4 h hK38 => Jx1 (fun L w' => ∃ κ' af ae, L = [(0, vi p0), (1, .slice a1 p1.length u1), (2, .func (.func 153) #[] #[.pointer (some ⟨b2_0, 0, none⟩)]), (3, .pointer (some ⟨b3, 0, none⟩)), (4, .pointer (some ⟨b4, 0, none⟩)), (5, .pointer (some ⟨b5, 0, none⟩)), (17, .slice ax16 x16.length ux16), (18, vi (x16.length : Int)), (19, vi v19)] ∧ Stp [2, 3, 4, 7, 8, 9] K36 w35 κ' w' ∧ Oc E6 2 κ' w' 2 af ae q4.1 ∧ Oc Ep.bool 4 κ' w' 3 a3 u3 q4.2 ∧ c0.length = q4.2.length ∧ Bc κ' w' 4 b2_0 40 [.slice af q4.1.length ae]) ?_ ?_)
  revert h
  cases ht46 : p33
  refine JF fun h => Jy R (Js ?_)
  cases h
  exact Jw1 _ ⟨K36, aa, ad, R, (Jx2 _ _).wk R, (f22.stp S37 R R), (f23.stp S37 R R), hn24, (f25.stp S37 R R)⟩ (KM R)
  refine JT fun h => Jx R (Ja [1, 2, 2, 2, 1] R ?_)
  have f47 := gb5.stp (S3.tr (S21.tr S37)) R R
  refine Jl tv R R R R (Jc2 I173 R R (hvE (f47.ld 0 R R))) (Jn 3 R (Ob h fun x38 hx38 h => WO.callV R R R R R R R R C152 (ih (κ := fun b => mp [(2, 2), (3, 3), (4, 4)] 0 (K36 b)) (Jl2 (f6.stp (S21.tr S37) R R) (mp [(2, 2), (3, 3), (4, 4)] 0) R R) ((f22.stp S37 R R).map (mp [(2, 2), (3, 3), (4, 4)] 0) R R) ((f23.stp S37 R R).map (mp [(2, 2), (3, 3), (4, 4)] 0) R R) (Jl2 (f31.stp S37 R R) (mp [(2, 2), (3, 3), (4, 4)] 0) R R) ((f25.stp S37 R R).map (mp [(2, 2), (3, 3), (4, 4)] 0) R R) (Bc.cast ((gb3.stp (S3.tr (S21.tr S37)) R R).map (mp [(2, 2), (3, 3), (4, 4)] 0) R R) (by simp only [hn24])) ((f30.stp S37 R R).map (mp [(2, 2), (3, 3), (4, 4)] 0) R R) (f47.map (mp [(2, 2), (3, 3), (4, 4)] 0) R R) hx38) ?_))
  rintro _ w55 ⟨k56, aj, al, rfl, e57, f58, f59, hn60, f61⟩
  obtain ⟨K62, S63, m64⟩ := Ji e57 5 R
  refine ⟨tv, Jo ?_⟩
  cases h
  exact Jw1 _ ⟨(fun b => ren [(7, 2), (8, 3), (9, 4)] (K62 b)), aj, al, R, (Jy2 (S63.wk R) [(7, 2), (8, 3), (9, 4)] R), ((f58.mx (no_int _) m64 R (R : 5 + 2 = 7)).map (ren [(7, 2), (8, 3), (9, 4)]) R R), ((f59.mx no_bool m64 R (R : 5 + 3 = 8)).map (ren [(7, 2), (8, 3), (9, 4)]) R R), (hn24.trans hn60), ((f61.mx m64 R (R : 5 + 4 = 9)).map (ren [(7, 2), (8, 3), (9, 4)]) R R)⟩ (KM R)
  rintro _ w39 ⟨K40, af, ae, rfl, S41, f42, f43, hn44, f45⟩
  have h := hK38
  refine Jz (Jp (Ja [2, 2] R (Jc 2 R ?_)))
  have hw9 : IntKind.wrap .i64 (v19 + 1) = v19 + 1 := wr1 hj9 (Jm2 hc9) hN9
  rw [hw9]
  have hc9 := Jm2 hc9
  cases h
  exact Jz1 fun a ha => ⟨k, _, Ja3 _, ⟨K40, v19 + 1, ((q4.1 : (List Int)), (q4.2 : (List Bool))), af, ae, R, (S21.tr (S37.tr S41)).wk R, f42, f43, hn44, f45, by omega, by omega, hk28⟩, (ha.mm R)⟩
  rintro _ w12 ⟨K13, s3, ah, ai, rfl, S14, f15, f16, hn17, f18, rfl⟩
  have h := hK10
  dsimp only [aft] at h
  refine Jp (Ja [2, 2, 1] R (Jn 2 R (Ob h fun x42 hx42 h => WO.callV R R R R R R R R C153 (i_loopsIn_2_ok (κ := fun b => mp [(2, 2), (4, 3)] 0 (K13 b)) (f15.map (mp [(2, 2), (4, 3)] 0) R R) (f18.map (mp [(2, 2), (4, 3)] 0) R R) hx42) ?_)))
  rintro _ w72 ⟨k73, am, ak, rfl, e74, f75, f76⟩
  obtain ⟨K77, S78, m79⟩ := Ji e74 5 R
  refine ⟨tv, Jo (DN.end0 V152 ?_)⟩
  cases h
  exact ⟨(fun b => ren [(7, 2), (8, 4)] (K77 b)), am, ak, R, ((hE.stp (S3.tr (S14.tr S78)) R R).map (ren [(7, 2), (8, 4)]) R R), ((f75.mx (no_int _) m79 R (R : 5 + 2 = 7)).map (ren [(7, 2), (8, 4)]) R R), ((f16.stp S78 R R).map (ren [(7, 2), (8, 4)]) R R), hn17, ((f76.mx m79 R (R : 5 + 3 = 8)).map (ren [(7, 2), (8, 4)]) R R)⟩
theorem i_loopsIn_1__i_loopsIn_3__i_loopsIn_1_ok (n : Nat) : ∀ {w : World} {κ : Col} {p0 : Int} {a1 u1} {p1 : (List (List Int))} {ac ab} {c2_0 : (List Int)} {a3 u3} {c0 : (List Bool)} {a4 u4} {c1 : (List Bool)} {b2_0 b3 b4 b5} (g1 : Rd (Rp.sl (Rp.int .i64)) κ w 0 a1 u1 p1) (g2_0 : Oc E6 2 κ w 2 ac ab c2_0) (g3 : Oc Ep.bool 4 κ w 3 a3 u3 c0) (g4 : Rd Rp.bool κ w 0 a4 u4 c1) (gb2_0 : Bc κ w 4 b2_0 40 [.slice ac c2_0.length ab]) (gb3 : Bc κ w 0 b3 135 [.slice a3 c0.length u3]) (gb4 : Bc κ w 0 b4 135 [.slice a4 c1.length u4]) (gb5 : Bc κ w 0 b5 173 [.func (.func 152) #[] #[.pointer (some ⟨b3, 0, none⟩), .pointer (some ⟨b4, 0, none⟩), .pointer (some ⟨b5, 0, none⟩)]]) {r : (List Int) × (List Bool)} (h : i_loopsIn_1__i_loopsIn_3__i_loopsIn_1 n p0 p1 c2_0 c0 c1 = some r), Ret Tryz.prog 152 [vi p0, .slice a1 p1.length u1, .func (.func 154) #[] #[.pointer (some ⟨b2_0, 0, none⟩)], .pointer (some ⟨b3, 0, none⟩), .pointer (some ⟨b4, 0, none⟩), .pointer (some ⟨b5, 0, none⟩)] w (fun v w' => ∃ (κ' : Col) (ma0 : Option Addr) (mu0 : Nat), v = .tuple #[] ∧ Ent κ w κ' w' ∧ Oc E6 2 κ' w' 2 ma0 mu0 r.1 ∧ Oc Ep.bool 4 κ' w' 3 a3 u3 r.2 ∧ c0.length = r.2.length ∧ Bc κ' w' 4 b2_0 40 [.slice ma0 r.1.length mu0]) := by
 induction n with
 | zero =>
  intro w κ p0 a1 u1 p1 ac ab c2_0 a3 u3 c0 a4 u4 c1 b2_0 b3 b4 b5 g1 g2_0 g3 g4 gb2_0 gb3 gb4 gb5 r h
  cases h
 | succ n ih =>
  intro w κ p0 a1 u1 p1 ac ab c2_0 a3 u3 c0 a4 u4 c1 b2_0 b3 b4 b5 g1 g2_0 g3 g4 gb2_0 gb3 gb4 gb5 r h
  have h : i_loopsIn_1__i_loopsIn_3__i_loopsIn_1_s (i_loopsIn_1__i_loopsIn_3__i_loopsIn_1 n) p0 p1 c2_0 c0 c1 = some r := h
  unfold i_loopsIn_1__i_loopsIn_3__i_loopsIn_1_s at h
  refine Ret.enter F152 R N152 R ?_
  dsimp only [envOf]
  have hE := Ent.refl κ w
  refine Je [1, 2, 2, 1] R (Jl tv R R R R (Jc2 I135 R R (hvE (gb3.ld 0 R R))) (Jn 1 R (Ob h fun x13 hx13 h => Jf R (Jf2 g3.rdc hx13 U135 Z4 R R R R) (Ob h fun y261 hy261 h => Jk1 (κ := κ) (E := Ep.bool) 3 [] R R R R R R R R Z4 R R R R g3 hy261 fun w1 K2 S3 f4 => ⟨tv, ?_⟩))))
  have hn5 : c0.length = y261.length := (Jt2 hy261).2.2.2.symm
  refine Jd (Jq (Je [2, 2, 2, 1, 2, 2] R (Jn 2 R (Ob h fun x16 hx16 h => Jf R (Jf2 g1 hx16 U24 Z40 R R R R) ?_))))
  have f6 := g1.stp S3 R R
  obtain ⟨ax16, ux16, f7, hl8⟩ := f6.gSl hx16
  refine Jl tv R R R R (Jc2 I40 R R (hvE hl8)) (Jf R (Je2 U40 R R) (Jb 1 R ?_))
  have hN9 : (x16.length : Int) ≤ 9223372036854775807 := f7.len_le
  refine Ob h fun q2 hq11 hK10 => ?_
  clear h
  refine Jx1 (fun L w' => ∃ κ', ∃ s3 : (List Int) × (List Bool), ∃ ah ai, L = [(0, vi p0), (2, .func (.func 154) #[] #[.pointer (some ⟨b2_0, 0, none⟩)]), (3, .pointer (some ⟨b3, 0, none⟩)), (4, .pointer (some ⟨b4, 0, none⟩)), (5, .pointer (some ⟨b5, 0, none⟩))] ∧ Stp [2, 3, 4, 7, 8, 9] K2 w1 κ' w' ∧ Oc E6 2 κ' w' 2 ah ai s3.1 ∧ Oc Ep.bool 4 κ' w' 3 a3 u3 s3.2 ∧ c0.length = s3.2.length ∧ Bc κ' w' 4 b2_0 40 [.slice ah s3.1.length ai] ∧ q2 = Sum.inr s3) ?_ ?_
  refine Jv (Jy1 (fun k L w' => ∃ κ' v19, ∃ s1 : (List Int) × (List Bool), ∃ aa ad, L = [(0, vi p0), (1, .slice a1 p1.length u1), (2, .func (.func 154) #[] #[.pointer (some ⟨b2_0, 0, none⟩)]), (3, .pointer (some ⟨b3, 0, none⟩)), (4, .pointer (some ⟨b4, 0, none⟩)), (5, .pointer (some ⟨b5, 0, none⟩)), (17, .slice ax16 x16.length ux16), (18, vi (x16.length : Int)), (19, vi v19)] ∧ Stp [2, 3, 4, 7, 8, 9] K2 w1 κ' w' ∧ Oc E6 2 κ' w' 2 aa ad s1.1 ∧ Oc Ep.bool 4 κ' w' 3 a3 u3 s1.2 ∧ c0.length = s1.2.length ∧ Bc κ' w' 4 b2_0 40 [.slice aa s1.1.length ad] ∧ 0 ≤ v19 ∧ Int.toNat ((x16.length : Int) - v19) = k ∧ cntM (i_loopsIn_1__i_loopsIn_3__i_loopsIn_1_b0 (i_loopsIn_1__i_loopsIn_3__i_loopsIn_1 n) p1 c1 x16) k v19 s1 = some q2) ⟨_, _, ⟨K2, 0, ((c2_0 : (List Int)), (y261 : (List Bool))), ac, ab, R, (Jx2 _ _).wk R, (g2_0.stp S3 R R), f4, hn5, (gb2_0.stp S3 R R), (by decide), (by simp), hq11⟩, (KM R)⟩ ?_)
  rintro k _ w19 ⟨K20, v19, s1, aa, ad, rfl, S21, f22, f23, hn24, f25, hj9, hJ9, h⟩
  rcases k with _ | k
  have hk28 := h; obtain ⟨o9, h⟩ := ex_eq (Sum.inr (Sum.inl s1) : ((List Int) × (List Bool)) ⊕ (((List Int) × (List Bool)) ⊕ ((List Int) × (List Bool))))
  have hc9 : decide (v19 < (x16.length : Int)) = false := Jo2 (by omega)
  refine Je [2] R (Jb 1 R (Jq (Jw2 R hc9 (Jc1 (Jt (Jt ?_))))))
  cases h
  have h := hk28
  refine Jb1 ?_
  cases h
  exact Jw1 _ ⟨K20, ((s1.1 : (List Int)), (s1.2 : (List Bool))), aa, ad, R, S21.wk R, f22, f23, hn24, f25, R⟩ (KM R)
  obtain ⟨o9, h, hk28⟩ := BI h; unfold i_loopsIn_1__i_loopsIn_3__i_loopsIn_1_b0 at h
  have hc9 : decide (v19 < (x16.length : Int)) = true := Jn2 (by omega)
  refine Je [2] R (Jb 1 R (Jq (Jv2 R hc9 (Js (Jp (Jq (Jv (Je [2, 1, 2] R (Ob h fun x21 hx21 h => Jf R (Jf2 f7 hx21 U40 Z2 R R R R) (Jl tv R R R R (Jc2 I2 R R (hvE ((f7.stp S21 R R).gInt hx21))) (Jb 1 R (Je [1, 2, 2, 1, 2, 1, 2, 2, 1, 2, 2] R ?_))))))))))))
  have f30 := gb4.stp (S3.tr S21) R R
  refine Jl tv R R R R (Jc2 I135 R R (hvE (f30.ld 0 R R))) (Jn 1 R (Ob h fun x25 hx25 h => Jf R (Jf2 g4 hx25 U135 Z4 R R R R) ?_))
  have f31 := g4.stp (S3.tr S21) R R
  refine Jl tv R R R R (Jc2 I4 R R (hvE (f31.gBool hx25))) (Jn 1 R (Ob h fun p33 h hK32 => Ju1 [(5, 1), (6, 2), (7, 2), (8, 1), (9, 2), (10, 2)] [] (fun L w' => L = [(0, vi p0), (1, .slice a1 p1.length u1), (2, .func (.func 154) #[] #[.pointer (some ⟨b2_0, 0, none⟩)]), (3, .pointer (some ⟨b3, 0, none⟩)), (4, .pointer (some ⟨b4, 0, none⟩)), (5, .pointer (some ⟨b5, 0, none⟩)), (10, vi x21), (17, .slice ax16 x16.length ux16), (18, vi (x16.length : Int)), (19, vi v19), (33, .bool p33)] ∧ ∃ κ', Stp [] K20 w19 κ' w') tv ?_ ?_))
  revert h
  cases ht33 : x25
  refine JF fun h => Jd1 R R R R (Jn 2 R (Jd1 R R R R (Jn 2 R ?_)))
  cases h
  exact Jv1 _ tv ⟨R, _, (Jx2 _ _).wk R⟩ (KM R)
  refine JT fun h => Jl tv R R R R (Jc2 I135 R R (hvE ((gb3.stp (S3.tr S21) R R).ld 0 R R))) (Jn 1 R (Ob h fun x30 hx30 h => Jf R (Jf2 f23.rdc hx30 U135 Z4 R R hn24 R) (Jl tv R R R R (Jc2 I4 R R (hvE (f23.rdc.gBool hx30))) (Jn 2 R ?_))))
  cases h
  exact Jv1 _ tv ⟨R, _, (Jx2 _ _).wk R⟩ (KM R)
  rintro _ w35 _ ⟨rfl, K36, S37⟩
  have h := hK32
  refine Jd (Ob h fun q4 h hK38 => Jx1 (fun L w' => ∃ κ' af ae, L = [(0, vi p0), (1, .slice a1 p1.length u1), (2, .func (.func 154) #[] #[.pointer (some ⟨b2_0, 0, none⟩)]), (3, .pointer (some ⟨b3, 0, none⟩)), (4, .pointer (some ⟨b4, 0, none⟩)), (5, .pointer (some ⟨b5, 0, none⟩)), (17, .slice ax16 x16.length ux16), (18, vi (x16.length : Int)), (19, vi v19)] ∧ Stp [2, 3, 4, 7, 8, 9] K36 w35 κ' w' ∧ Oc E6 2 κ' w' 2 af ae q4.1 ∧ Oc Ep.bool 4 κ' w' 3 a3 u3 q4.2 ∧ c0.length = q4.2.length ∧ Bc κ' w' 4 b2_0 40 [.slice af q4.1.length ae]) ?_ ?_)
  revert h
  cases ht46 : p33
  refine JF fun h => Jy R (Js ?_)
  cases h
  exact Jw1 _ ⟨K36, aa, ad, R, (Jx2 _ _).wk R, (f22.stp S37 R R), (f23.stp S37 R R), hn24, (f25.stp S37 R R)⟩ (KM R)
  refine JT fun h => Jx R (Ja [1, 2, 2, 2, 1] R ?_)
  have f47 := gb5.stp (S3.tr (S21.tr S37)) R R
  refine Jl tv R R R R (Jc2 I173 R R (hvE (f47.ld 0 R R))) (Jn 3 R (Ob h fun x38 hx38 h => WO.callV R R R R R R R R C152 (ih (κ := fun b => mp [(2, 2), (3, 3), (4, 4)] 0 (K36 b)) (Jl2 (f6.stp (S21.tr S37) R R) (mp [(2, 2), (3, 3), (4, 4)] 0) R R) ((f22.stp S37 R R).map (mp [(2, 2), (3, 3), (4, 4)] 0) R R) ((f23.stp S37 R R).map (mp [(2, 2), (3, 3), (4, 4)] 0) R R) (Jl2 (f31.stp S37 R R) (mp [(2, 2), (3, 3), (4, 4)] 0) R R) ((f25.stp S37 R R).map (mp [(2, 2), (3, 3), (4, 4)] 0) R R) (Bc.cast ((gb3.stp (S3.tr (S21.tr S37)) R R).map (mp [(2, 2), (3, 3), (4, 4)] 0) R R) (by simp only [hn24])) ((f30.stp S37 R R).map (mp [(2, 2), (3, 3), (4, 4)] 0) R R) (f47.map (mp [(2, 2), (3, 3), (4, 4)] 0) R R) hx38) ?_))
  rintro _ w55 ⟨k56, aj, al, rfl, e57, f58, f59, hn60, f61⟩
  obtain ⟨K62, S63, m64⟩ := Ji e57 5 R
  refine ⟨tv, Jo ?_⟩
  cases h
  exact Jw1 _ ⟨(fun b => ren [(7, 2), (8, 3), (9, 4)] (K62 b)), aj, al, R, (Jy2 (S63.wk R) [(7, 2), (8, 3), (9, 4)] R), ((f58.mx (no_int _) m64 R (R : 5 + 2 = 7)).map (ren [(7, 2), (8, 3), (9, 4)]) R R), ((f59.mx no_bool m64 R (R : 5 + 3 = 8)).map (ren [(7, 2), (8, 3), (9, 4)]) R R), (hn24.trans hn60), ((f61.mx m64 R (R : 5 + 4 = 9)).map (ren [(7, 2), (8, 3), (9, 4)]) R R)⟩ (KM R)
  rintro _ w39 ⟨K40, af, ae, rfl, S41, f42, f43, hn44, f45⟩
  have h := hK38
  refine Jz (Jp (Ja [2, 2] R (Jc 2 R ?_)))
  have hw9 : IntKind.wrap .i64 (v19 + 1) = v19 + 1 := wr1 hj9 (Jm2 hc9) hN9
  rw [hw9]
  have hc9 := Jm2 hc9
  cases h
  exact Jz1 fun a ha => ⟨k, _, Ja3 _, ⟨K40, v19 + 1, ((q4.1 : (List Int)), (q4.2 : (List Bool))), af, ae, R, (S21.tr (S37.tr S41)).wk R, f42, f43, hn44, f45, by omega, by omega, hk28⟩, (ha.mm R)⟩
  rintro _ w12 ⟨K13, s3, ah, ai, rfl, S14, f15, f16, hn17, f18, rfl⟩
  have h := hK10
  dsimp only [aft] at h
  refine Jp (Ja [2, 2, 1] R (Jn 2 R (Ob h fun x42 hx42 h => WO.callV R R R R R R R R C154 (i_loopsIn_3_ok (κ := fun b => mp [(2, 2), (4, 3)] 0 (K13 b)) (f15.map (mp [(2, 2), (4, 3)] 0) R R) (f18.map (mp [(2, 2), (4, 3)] 0) R R) hx42) ?_)))
  rintro _ w72 ⟨k73, am, ak, rfl, e74, f75, f76⟩
  obtain ⟨K77, S78, m79⟩ := Ji e74 5 R
  refine ⟨tv, Jo (DN.end0 V152 ?_)⟩
  cases h
  exact ⟨(fun b => ren [(7, 2), (8, 4)] (K77 b)), am, ak, R, ((hE.stp (S3.tr (S14.tr S78)) R R).map (ren [(7, 2), (8, 4)]) R R), ((f75.mx (no_int _) m79 R (R : 5 + 2 = 7)).map (ren [(7, 2), (8, 4)]) R R), ((f16.stp S78 R R).map (ren [(7, 2), (8, 4)]) R R), hn17, ((f76.mx m79 R (R : 5 + 3 = 8)).map (ren [(7, 2), (8, 4)]) R R)⟩
theorem l_eqInt64SS_ok {w : World} {κ : Col} {a0 u0} {p0 : (List (List Int))} {a1 u1} {p1 : (List (List Int))} (g0 : Rd (Rp.sl (Rp.int .i64)) κ w 0 a0 u0 p0) (g1 : Rd (Rp.sl (Rp.int .i64)) κ w 0 a1 u1 p1) {r : Bool} (h : l_eqInt64SS p0 p1 = some r) : Ret Tryz.prog 54 [.slice a0 p0.length u0, .slice a1 p1.length u1] w (fun v w' => ∃ (κ' : Col), v = .bool r ∧ Ent κ w κ' w') := by
 unfold l_eqInt64SS at h
 refine Ret.enter F54 R N54 R ?_
 dsimp only [envOf]
 have hE := Ent.refl κ w
 refine Je [2] R (Jb 1 R (Jq (Je [2, 2, 2, 2, 2] R (Jn 1 R (Jf R (Je2 U24 R R) (Jn 1 R (Jf R (Je2 U24 R R) (Jb 1 R ?_))))))))
 revert h
 cases ht1 : ((p0.length : Int) != (p1.length : Int))
 refine JF fun h => Jy R (Js (Jp (Jq (Je [2] R (Jb 1 R ?_)))))
 have hN2 : (p0.length : Int) ≤ 9223372036854775807 := g0.len_le
 refine Ob h fun q2 hq4 hK3 => ?_
 clear h
 refine Jx1 (fun L w' => ∃ κ', L = [] ∧ Stp [] κ w κ' w' ∧ q2 = Sum.inr ()) ?_ ?_
 refine Jv (Jy1 (fun k L w' => ∃ κ' v5, L = [(0, .slice a0 p0.length u0), (1, .slice a1 p1.length u1), (5, vi v5)] ∧ Stp [] κ w κ' w' ∧ 0 ≤ v5 ∧ Int.toNat ((p0.length : Int) - v5) = k ∧ cntM (l_eqInt64SS_b0 p0 p1) k v5 () = some q2) ⟨_, _, ⟨κ, 0, R, (Jx2 _ _).wk R, (by decide), (by simp), hq4⟩, (KM R)⟩ ?_)
 rintro k _ w8 ⟨K9, v5, rfl, S10, hj2, hJ2, h⟩
 rcases k with _ | k
 have hk11 := h; obtain ⟨o2, h⟩ := ex_eq (Sum.inr (Sum.inl ()) : Bool ⊕ ((Unit) ⊕ (Unit)))
 have hc2 : decide (v5 < (p0.length : Int)) = false := Jo2 (by omega)
 refine Jq (Je [2, 2, 2, 2] R (Jn 2 R (Jf R (Je2 U24 R R) (Jb 1 R (Jw2 R hc2 (Jc1 (Jt (Jt ?_))))))))
 cases h
 have h := hk11
 refine Jb1 ?_
 cases h
 exact Jw1 _ ⟨K9, R, S10.wk R, R⟩ KN
 obtain ⟨o2, h, hk11⟩ := BI h; unfold l_eqInt64SS_b0 at h
 have hc2 : decide (v5 < (p0.length : Int)) = true := Jn2 (by omega)
 refine Jq (Je [2, 2, 2, 2] R (Jn 2 R (Jf R (Je2 U24 R R) (Jb 1 R (Jv2 R hc2 (Js (Jp (Jq (Jv (Jq (Js1 (κ := K9) [0] none [(0, 2), (1, 2), (2, 2), (4, 2), (5, 2), (6, 2), (3, 0), (7, 0), (8, 1), (9, 2)] [] (by kernel_rfl) (by kernel_rfl) fun w13 S12 => Jn 2 R (Ob h fun x19 hx19 h => Jf R (Jf2 g0 hx19 U24 Z40 R R R R) (Jn 2 R (Ob h fun x23 hx23 h => Jf R (Jf2 g1 hx23 U24 Z40 R R R R) ?_))))))))))))))
 obtain ⟨ax19, ux19, f15, hl16⟩ := (g0.stp (S10.tr S12) R R).gSl hx19
 refine Jg R (Jc2 I40 R R (hvC hl16 R)) ?_
 obtain ⟨ax23, ux23, f18, hl19⟩ := (g1.stp (S10.tr S12) R R).gSl hx23
 refine Jg R (Jc2 I40 R R (hvC hl19 R)) (Ob h fun x25 hx25 h => Jh R R R C20 (l_eqInt64S_ok (κ := fun b => mp [] 0 (K9 b)) (Jl2 f15 (mp [] 0) R R) (Jl2 f18 (mp [] 0) R R) hx25) ?_)
 rintro _ w20 ⟨k21, rfl, e22⟩
 obtain ⟨K23, S24, m25⟩ := Ji e22 2 R
 refine ⟨(S24.cl R), Jn 1 R (Jt1 (Jd ?_))⟩
 revert h
 cases ht27 : (!x25)
 refine JF fun h => Jy R (Js (Jz (Jp (Ja [2, 2, 2] R (Jc 3 R ?_)))))
 have hw2 : IntKind.wrap .i64 (v5 + 1) = v5 + 1 := wr1 hj2 (Jm2 hc2) hN2
 rw [hw2]
 have hc2 := Jm2 hc2
 cases h
 exact Jz1 fun a ha => ⟨k, _, Ja3 _, ⟨K23, v5 + 1, R, (S10.tr (S12.tr S24)).wk R, by omega, by omega, hk11⟩, (ha.mm R)⟩
 refine JT fun h => Jx R (Je [2] R (Jb 1 R (Ju (Ja1 (Jw (Jw ?_))))))
 cases h
 obtain rfl := Option.some.inj hk11
 have h := hK3
 dsimp only [aft] at h
 refine Ja1 (Jq2 (Jw (Ja2 (l := [.tmp 4]) V54 (Jp2 R R) R ?_)))
 cases h
 exact ⟨K23, R, (hE.stp (S10.tr (S12.tr S24)) R R)⟩
 rintro _ w5 ⟨K6, rfl, S7, rfl⟩
 have h := hK3
 dsimp only [aft] at h
 refine Jp (Je [2] R (Jb 1 R (Ju (Ja2 (l := [.tmp 4]) V54 (Jp2 R R) R ?_))))
 cases h
 exact ⟨K6, R, (hE.stp S7 R R)⟩
 refine JT fun h => Jx R (Je [2] R (Jb 1 R (Ju (Jw (Ja2 (l := [.tmp 4]) V54 (Jp2 R R) R ?_)))))
 cases h
 exact ⟨κ, R, hE⟩
theorem l_eqClause_ok {w : World} {κ : Col} {ah aa ac ae} {p0 : Clause} {ai af ad ab} {p1 : Clause} (g0_1 : Rd (Rp.int .i64) κ w 0 ah aa p0.A) (g0_2 : Rd (Rp.int .i64) κ w 0 ac ae p0.B) (g1_1 : Rd (Rp.int .i64) κ w 0 ai af p1.A) (g1_2 : Rd (Rp.int .i64) κ w 0 ad ab p1.B) {r : Bool} (h : l_eqClause p0 p1 = some r) : Ret Tryz.prog 55 [.agg #[vi p0.Kind, .slice ah p0.A.length aa, .slice ac p0.B.length ae], .agg #[vi p1.Kind, .slice ai p1.A.length af, .slice ad p1.B.length ab]] w (fun v w' => ∃ (κ' : Col), v = .bool r ∧ Ent κ w κ' w') := by
 unfold l_eqClause at h
 refine Ret.enter F55 R N55 R ?_
 dsimp only [envOf]
 have hE := Ent.refl κ w
 refine Je [1, 1, 2] R (Jf1 (κ := κ) 2 R R R R R R R fun b2 w1 K2 S3 f4 => ⟨tv, Jf1 (κ := K2) 3 R R R R R R R fun b3 w5 K6 S7 f8 => ⟨tv, Jb 1 R (Jq (Je [2, 1, 2, 1, 2] R (Jf R (Jb2 U71 R Z2 R R) ?_)))⟩⟩)
 have f9 := f4.stp S7 R R
 refine Jl tv R R R R (Jc2 I2 R R (hvE (f9.ld 0 R R))) (Jf R (Jb2 U71 R Z2 R R) (Jl tv R R R R (Jc2 I2 R R (hvE (f8.ld 0 R R))) (Jb 1 R ?_)))
 revert h
 cases ht10 : (p0.Kind != p1.Kind)
 refine JF fun h => Jy R (Js (Jp (Jq (Je [2, 1, 2, 1, 1, 2] R (Jf R (Jb2 U71 R Z40 R R) (Jl tv R R R R (Jc2 I40 R R (hvE (f9.ld 1 R R))) (Jf R (Jb2 U71 R Z40 R R) (Jl tv R R R R (Jc2 I40 R R (hvE (f8.ld 1 R R))) (Ob h fun x14 hx14 h => Jh R R R C20 (l_eqInt64S_ok (κ := fun b => mp [] 0 (K6 b)) (Jl2 (g0_1.stp (S3.tr S7) R R) (mp [] 0) R R) (Jl2 (g1_1.stp (S3.tr S7) R R) (mp [] 0) R R) hx14) ?_)))))))))
 rintro _ w14 ⟨k15, rfl, e16⟩
 obtain ⟨K17, S18, m19⟩ := Ji e16 4 R
 refine ⟨tv, Jb 1 R ?_⟩
 revert h
 cases ht21 : (!x14)
 refine JF fun h => Jy R (Js (Jp (Jq (Je [2, 1, 2, 1, 1, 2] R (Jf R (Jb2 U71 R Z40 R R) (Jl tv R R R R (Jc2 I40 R R (hvE ((f9.stp S18 R R).ld 2 R R))) (Jf R (Jb2 U71 R Z40 R R) (Jl tv R R R R (Jc2 I40 R R (hvE ((f8.stp S18 R R).ld 2 R R))) (Ob h fun x20 hx20 h => Jh R R R C20 (l_eqInt64S_ok (κ := fun b => mp [] 0 (K17 b)) (Jl2 (g0_2.stp (S3.tr (S7.tr S18)) R R) (mp [] 0) R R) (Jl2 (g1_2.stp (S3.tr (S7.tr S18)) R R) (mp [] 0) R R) hx20) ?_)))))))))
 rintro _ w27 ⟨k28, rfl, e29⟩
 obtain ⟨K30, S31, m32⟩ := Ji e29 6 R
 refine ⟨tv, Jb 1 R ?_⟩
 revert h
 cases ht34 : (!x20)
 refine JF fun h => Jy R (Js (Jp (Je [2] R (Jb 1 R (Ju (Ja2 (l := [.tmp 4]) V55 (Jp2 R R) R ?_))))))
 cases h
 exact ⟨K30, R, (hE.stp (S3.tr (S7.tr (S18.tr S31))) R R)⟩
 refine JT fun h => Jx R (Je [2] R (Jb 1 R (Ju (Jw (Ja2 (l := [.tmp 4]) V55 (Jp2 R R) R ?_)))))
 cases h
 exact ⟨K30, R, (hE.stp (S3.tr (S7.tr (S18.tr S31))) R R)⟩
 refine JT fun h => Jx R (Je [2] R (Jb 1 R (Ju (Jw (Ja2 (l := [.tmp 4]) V55 (Jp2 R R) R ?_)))))
 cases h
 exact ⟨K17, R, (hE.stp (S3.tr (S7.tr S18)) R R)⟩
 refine JT fun h => Jx R (Je [2] R (Jb 1 R (Ju (Jw (Ja2 (l := [.tmp 4]) V55 (Jp2 R R) R ?_)))))
 cases h
 exact ⟨K6, R, (hE.stp (S3.tr S7) R R)⟩
theorem l_markClauseS_ok {w : World} {κ : Col} {a0 u0} {p0 : (List Clause)} {p1 : Int} (g0 : Oc Clause.ep71 71 κ w 2 a0 u0 p0) {r : Int × (List Clause)} (h : l_markClauseS p0 p1 = some r) : Ret Tryz.prog 22 [.slice a0 p0.length u0, vi p1] w (fun v w' => ∃ (κ' : Col), v = vi r.1 ∧ Ent κ w κ' w' ∧ Oc Clause.ep71 71 κ' w' 2 a0 u0 r.2 ∧ p0.length = r.2.length) := by
 unfold l_markClauseS at h
 refine Ret.enter F22 R N22 R ?_
 dsimp only [envOf]
 have hE := Ent.refl κ w
 refine Je [2] R (Jb 1 R (Jq (Je [2] R (Jb 1 R ?_))))
 have hN1 : (p0.length : Int) ≤ 9223372036854775807 := g0.len_le
 refine Ob h fun q2 hq3 hK2 => ?_
 clear h
 refine Jx1 (fun L w' => ∃ κ', ∃ s3 : Int × (List Clause), L = [(1, vi s3.1)] ∧ Stp [2, 3, 4, 5, 8, 9, 10, 13] κ w κ' w' ∧ Oc Clause.ep71 71 κ' w' 2 a0 u0 s3.2 ∧ p0.length = s3.2.length ∧ q2 = Sum.inr s3) ?_ ?_
 refine Jv (Jy1 (fun k L w' => ∃ κ' v5, ∃ s1 : Int × (List Clause), L = [(0, .slice a0 p0.length u0), (1, vi s1.1), (5, vi v5)] ∧ Stp [2, 3, 4, 5, 8, 9, 10, 13] κ w κ' w' ∧ Oc Clause.ep71 71 κ' w' 2 a0 u0 s1.2 ∧ p0.length = s1.2.length ∧ 0 ≤ v5 ∧ Int.toNat ((p0.length : Int) - v5) = k ∧ cntM l_markClauseS_b0 k v5 s1 = some q2) ⟨_, _, ⟨κ, 0, ((p1 : Int), (p0 : (List Clause))), R, (Jx2 _ _).wk R, g0, R, (by decide), (by simp), hq3⟩, (KM R)⟩ ?_)
 rintro k _ w9 ⟨K10, v5, s1, rfl, S11, f12, hn13, hj1, hJ1, h⟩
 rcases k with _ | k
 have hk14 := h; obtain ⟨o1, h⟩ := ex_eq (Sum.inr (Sum.inl s1) : (Int × (List Clause)) ⊕ ((Int × (List Clause)) ⊕ (Int × (List Clause))))
 have hc1 : decide (v5 < (p0.length : Int)) = false := Jo2 (by omega)
 refine Jq (Je [2, 2, 2, 2] R (Jn 2 R (Jf R (Je2 U35 R R) (Jb 1 R (Jw2 R hc1 (Jc1 (Jt (Jt ?_))))))))
 cases h
 have h := hk14
 refine Jb1 ?_
 cases h
 exact Jw1 _ ⟨K10, ((s1.1 : Int), (s1.2 : (List Clause))), R, S11.wk R, f12, hn13, R⟩ (KM R)
 obtain ⟨o1, h, hk14⟩ := BI h; unfold l_markClauseS_b0 at h
 have hc1 : decide (v5 < (p0.length : Int)) = true := Jn2 (by omega)
 refine Jq (Je [2, 2, 2, 2] R (Jn 2 R (Jf R (Je2 U35 R R) (Jb 1 R (Jv2 R hc1 (Js (Jp (Jq (Jv (Je [2, 2, 2, 2, 2, 1] R (Jn 3 R (Ob h fun x15 hx15 h => Jf R (Jf2 f12.rdc hx15 U35 Z71 R R hn13 R) (Jf R (Jb2 U71 R Z2 R R) (Ob h fun y312 hy312 h => WO.stG (κ := K10) (E := Clause.ep71) (vc := [vi s1.1]) (e' := ({ x15 with Kind := s1.1 } : Clause)) 2 3 0 R R R R R R R R Z2 R R hx15 (fun h => up_fst h) R R R f12 hy312 fun w15 K16 S17 f18 => ⟨tv, ?_⟩))))))))))))))
 have hn19 : p0.length = y312.length := hn13.trans (Jt2 hy312).2.2.2.symm
 refine Jd (Je [2, 2, 2] R (Jb 3 R (Je [2, 2, 2, 2, 1, 2, 1, 2] R (Jn 2 R (Ob h fun x21 hx21 h => Jf R (Jf2 f18.rdc hx21 U35 Z71 R R hn19 R) (Jf R (Jb2 U71 R Z40 R R) ?_))))))
 obtain ⟨cse20, hre20, hle20⟩ := (f18.rdc).gSt hx21
 obtain ⟨ae20_0, ue20_0, ae20_1, ue20_1, rfl, fe20_0, fe20_1⟩ := Clause.un hre20
 refine Jl tv R R R R (Jc2 I40 R R (hvE (fun w' hw' => hle20 w' hw' 1 _ R))) (Jn 1 R ?_)
 obtain ⟨K21, S22, f23, f24, f25⟩ := Ow.borrowQ (f := (fun x : Clause => (x.A, x.B))) (v0 := vi x21.Kind) (fun h => rel_fst h) R f18 hx21 (hle20 _ (Ag.refl _ _ _)) 4 5 R R R R
 have f26 : Oc E6 2 K21 w15 4 ae20_0 ue20_0 x21.A := f23
 have f27 : Oc E6 2 K21 w15 5 ae20_1 ue20_1 x21.B := f24
 refine Ob h fun x25 hx25 h => Jh R R R C23 (l_markInt64S_ok (κ := fun b => mp [(4, 2)] 0 (K21 b)) (f26.map (mp [(4, 2)] 0) R R) hx25) ?_
 rintro _ w28 ⟨k29, rfl, e30, f31, hn32⟩
 obtain ⟨K33, S34, m35⟩ := Ji e30 6 R
 refine ⟨tv, Ob h fun yb313 hyb313 h => ?_⟩
 obtain ⟨K40, S41, f42⟩ := Ow.unborrowQ (f := (fun x : Clause => (x.A, x.B))) (y := (⟨x21.Kind, x25.2, x21.B⟩ : Clause)) (fun h => mk_fst h) (f25.stp S34 R R) (f31.mx (no_int _) m35 R (R : 6 + 2 = 8)) (f27.stp S34 R R) (hn32) R R R R R R hyb313
 have hn43 : p0.length = yb313.length := hn19.trans (Jt2 hyb313).2.2.2.symm
 refine Jb 1 R (Ja [2, 2, 2, 2, 1, 2, 1, 2] R (Jn 2 R (Ob h fun x28 hx28 h => Jf R (Jf2 f42.rdc hx28 U35 Z71 R R hn43 R) (Jf R (Jb2 U71 R Z40 R R) ?_))))
 obtain ⟨cse44, hre44, hle44⟩ := (f42.rdc).gSt hx28
 obtain ⟨ae44_0, ue44_0, ae44_1, ue44_1, rfl, fe44_0, fe44_1⟩ := Clause.un hre44
 refine Jl tv R R R R (Jc2 I40 R R (hvE (fun w' hw' => hle44 w' hw' 2 _ R))) (Jn 1 R ?_)
 obtain ⟨K45, S46, f47, f48, f49⟩ := Ow.borrowQ (f := (fun x : Clause => (x.A, x.B))) (v0 := vi x28.Kind) (fun h => rel_fst h) R f42 hx28 (hle44 _ (Ag.refl _ _ _)) 9 10 R R R R
 have f50 : Oc E6 2 K45 w28 9 ae44_0 ue44_0 x28.A := f47
 have f51 : Oc E6 2 K45 w28 10 ae44_1 ue44_1 x28.B := f48
 refine Ob h fun x32 hx32 h => Jh R R R C23 (l_markInt64S_ok (κ := fun b => mp [(10, 2)] 0 (K45 b)) (f51.map (mp [(10, 2)] 0) R R) hx32) ?_
 rintro _ w52 ⟨k53, rfl, e54, f55, hn56⟩
 obtain ⟨K57, S58, m59⟩ := Ji e54 11 R
 refine ⟨tv, Ob h fun yb314 hyb314 h => ?_⟩
 obtain ⟨K64, S65, f66⟩ := Ow.unborrowQ (f := (fun x : Clause => (x.A, x.B))) (y := (⟨x28.Kind, x28.A, x32.2⟩ : Clause)) (fun h => mk_fst h) (f49.stp S58 R R) (f50.stp S58 R R) (f55.mx (no_int _) m59 R (R : 11 + 2 = 13)) R (hn56) R R R R R hyb314
 have hn67 : p0.length = yb314.length := hn43.trans (Jt2 hyb314).2.2.2.symm
 refine Jc 1 R (Jz (Jp (Ja [2, 2, 2] R (Jc 3 R ?_))))
 have hw1 : IntKind.wrap .i64 (v5 + 1) = v5 + 1 := wr1 hj1 (Jm2 hc1) hN1
 rw [hw1]
 have hc1 := Jm2 hc1
 cases h
 exact Jz1 fun a ha => ⟨k, _, Ja3 _, ⟨K64, v5 + 1, ((x32.1 : Int), (yb314 : (List Clause))), R, (S11.tr (S17.tr (S22.tr (S34.tr (S41.tr (S46.tr (S58.tr S65))))))).wk R, f66, hn67, by omega, by omega, hk14⟩, (ha.mm R)⟩
 rintro _ w4 ⟨K5, s3, rfl, S6, f7, hn8, rfl⟩
 have h := hK2
 dsimp only [aft] at h
 refine Jp (Je [2, 2] R (Jb 2 R (Ju (Ja2 (l := [.tmp 4]) V22 (Jp2 R R) R ?_))))
 cases h
 exact ⟨K5, R, (hE.stp S6 R R), f7, hn8⟩
end Go.Proofs.YtcmamhmpoinmnaaGreat
