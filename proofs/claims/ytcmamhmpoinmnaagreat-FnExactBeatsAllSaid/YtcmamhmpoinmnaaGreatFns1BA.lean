/- The walks, part 1. By program. -/
import Derived.Test.YtcmamhmpoinmnaaGreatFns0BA
set_option linter.unusedVariables false
set_option linter.unusedSimpArgs false
namespace Go.Proofs.YtcmamhmpoinmnaaGreat
open Go Go.Wk Go.Proofs
set_option maxRecDepth 100000
set_option maxHeartbeats 1000000
theorem l_szInt64SS_ok {w : World} {κ : Col} {a0 u0} {p0 : (List (List Int))} {p1 : Int} (g0 : Rd (Rp.sl (Rp.int .i64)) κ w 0 a0 u0 p0) {r : Int} (h : l_szInt64SS p0 p1 = some r) : Ret Tryz.prog 47 [.slice a0 p0.length u0, vi p1] w (fun v w' => ∃ (κ' : Col), v = vi r ∧ Ent κ w κ' w') := by
 unfold l_szInt64SS at h
 refine Ret.enter F47 R N47 R ?_
 dsimp only [envOf]
 have hE := Ent.refl κ w
 refine Je [2] R (Jb 1 R (Je [2, 2, 2, 2, 2] R (Jn 2 R (Jf R (Je2 U24 R R) (Jb 2 R (Jq (Je [2, 2] R (Jb 2 R ?_))))))))
 revert h
 cases ht1 : decide ((IntKind.i64.wrap (p1 - (p0.length : Int))) < 0)
 refine JF fun h => Jy R (Js (Jp (Jq (Je [2] R (Jb 1 R ?_)))))
 have hN2 : (p0.length : Int) ≤ 9223372036854775807 := g0.len_le
 refine Ob h fun q2 hq4 hK3 => ?_
 clear h
 refine Jx1 (fun L w' => ∃ κ' s3, L = [(1, vi s3)] ∧ Stp [] κ w κ' w' ∧ q2 = Sum.inr s3) ?_ ?_
 refine Jv (Jy1 (fun k L w' => ∃ κ' v5 s1, L = [(0, .slice a0 p0.length u0), (1, vi s1), (5, vi v5)] ∧ Stp [] κ w κ' w' ∧ 0 ≤ v5 ∧ Int.toNat ((p0.length : Int) - v5) = k ∧ cntM (l_szInt64SS_b0 p0) k v5 s1 = some q2) ⟨_, _, ⟨κ, 0, ((IntKind.i64.wrap (p1 - (p0.length : Int))) : Int), R, (Jx2 _ _).wk R, (by decide), (by simp), hq4⟩, (KM R)⟩ ?_)
 rintro k _ w8 ⟨K9, v5, s1, rfl, S10, hj2, hJ2, h⟩
 rcases k with _ | k
 have hk11 := h; obtain ⟨o2, h⟩ := ex_eq (Sum.inr (Sum.inl s1) : Int ⊕ ((Int) ⊕ (Int)))
 have hc2 : decide (v5 < (p0.length : Int)) = false := Jo2 (by omega)
 refine Jq (Je [2, 2, 2, 2] R (Jn 2 R (Jf R (Je2 U24 R R) (Jb 1 R (Jw2 R hc2 (Jc1 (Jt (Jt ?_))))))))
 cases h
 have h := hk11
 refine Jb1 ?_
 cases h
 exact Jw1 _ ⟨K9, (s1 : Int), R, S10.wk R, R⟩ (KM R)
 obtain ⟨o2, h, hk11⟩ := BI h; unfold l_szInt64SS_b0 at h
 have hc2 : decide (v5 < (p0.length : Int)) = true := Jn2 (by omega)
 refine Jq (Je [2, 2, 2, 2] R (Jn 2 R (Jf R (Je2 U24 R R) (Jb 1 R (Jv2 R hc2 (Js (Jp (Jq (Jv (Je [2, 2, 2, 1, 2, 1, 2] R (Jn 2 R (Ob h fun x20 hx20 h => Jf R (Jf2 g0 hx20 U24 Z40 R R R R) ?_))))))))))))
 obtain ⟨ax20, ux20, f13, hl14⟩ := (g0.stp S10 R R).gSl hx20
 refine Jl tv R R R R (Jc2 I40 R R (hvE hl14)) (Jn 1 R (Ob h fun x23 hx23 h => Jh R R R C58 (l_szInt64S_ok (κ := fun b => mp [] 0 (K9 b)) (Jl2 f13 (mp [] 0) R R) hx23) ?_))
 rintro _ w15 ⟨k16, rfl, e17⟩
 obtain ⟨K18, S19, m20⟩ := Ji e17 2 R
 refine ⟨tv, Jb 1 R (Je [2, 2] R (Jb 2 R ?_))⟩
 revert h
 cases ht22 : decide (x23 < 0)
 refine JF fun h => Jy R (Js (Jz (Jp (Ja [2, 2, 2] R (Jc 3 R ?_)))))
 have hw2 : IntKind.wrap .i64 (v5 + 1) = v5 + 1 := wr1 hj2 (Jm2 hc2) hN2
 rw [hw2]
 have hc2 := Jm2 hc2
 cases h
 exact Jz1 fun a ha => ⟨k, _, Ja3 _, ⟨K18, v5 + 1, (x23 : Int), R, (S10.tr S19).wk R, by omega, by omega, hk11⟩, (ha.mm R)⟩
 refine JT fun h => Jx R (Je [2] R (Jb 1 R (Ju (Ja1 (Jw (Jw ?_))))))
 cases h
 obtain rfl := Option.some.inj hk11
 have h := hK3
 dsimp only [aft] at h
 refine Ja1 (Jq2 (Jw (Ja2 (l := [.tmp 4]) V47 (Jp2 R R) R ?_)))
 cases h
 exact ⟨K18, R, (hE.stp (S10.tr S19) R R)⟩
 rintro _ w5 ⟨K6, s3, rfl, S7, rfl⟩
 have h := hK3
 dsimp only [aft] at h
 refine Jp (Je [2, 2] R (Jb 2 R (Ju (Ja2 (l := [.tmp 4]) V47 (Jp2 R R) R ?_))))
 cases h
 exact ⟨K6, R, (hE.stp S7 R R)⟩
 refine JT fun h => Jx R (Je [2] R (Jb 1 R (Ju (Jw (Ja2 (l := [.tmp 4]) V47 (Jp2 R R) R ?_)))))
 cases h
 exact ⟨κ, R, hE⟩
theorem l_szClause_ok {w : World} {κ : Col} {aa ac ab ad} {p0 : Clause} {p1 : Int} (g0_1 : Rd (Rp.int .i64) κ w 0 aa ac p0.A) (g0_2 : Rd (Rp.int .i64) κ w 0 ab ad p0.B) {r : Int} (h : l_szClause p0 p1 = some r) : Ret Tryz.prog 48 [.agg #[vi p0.Kind, .slice aa p0.A.length ac, .slice ab p0.B.length ad], vi p1] w (fun v w' => ∃ (κ' : Col), v = vi r ∧ Ent κ w κ' w') := by
 unfold l_szClause at h
 refine Ret.enter F48 R N48 R ?_
 dsimp only [envOf]
 have hE := Ent.refl κ w
 refine Je [1, 2] R (Jf1 (κ := κ) 2 R R R R R R R fun b2 w1 K2 S3 f4 => ⟨tv, Jb 1 R (Je [2, 1, 2, 1, 2] R (Jf R (Jb2 U78 R Z40 R R) (Jl tv R R R R (Jc2 I40 R R (hvE (f4.ld 1 R R))) (Jn 1 R (Ob h fun x8 hx8 h => Jh R R R C58 (l_szInt64S_ok (κ := fun b => mp [] 0 (K2 b)) (Jl2 (g0_1.stp S3 R R) (mp [] 0) R R) hx8) ?_)))))⟩)
 rintro _ w6 ⟨k7, rfl, e8⟩
 obtain ⟨K9, S10, m11⟩ := Ji e8 3 R
 refine ⟨tv, Jb 1 R (Jq (Je [2, 2] R (Jb 2 R ?_)))⟩
 revert h
 cases ht13 : decide (x8 < 0)
 refine JF fun h => Jy R (Js (Jp (Je [2, 1, 2, 1, 2] R (Jf R (Jb2 U78 R Z40 R R) (Jl tv R R R R (Jc2 I40 R R (hvE ((f4.stp S10 R R).ld 2 R R))) (Jn 1 R (Ob h fun x14 hx14 h => Jh R R R C58 (l_szInt64S_ok (κ := fun b => mp [] 0 (K9 b)) (Jl2 (g0_2.stp (S3.tr S10) R R) (mp [] 0) R R) hx14) ?_)))))))
 rintro _ w17 ⟨k18, rfl, e19⟩
 obtain ⟨K20, S21, m22⟩ := Ji e19 5 R
 refine ⟨tv, Jb 1 R (Jq (Je [2, 2] R (Jb 2 R ?_)))⟩
 revert h
 cases ht24 : decide (x14 < 0)
 refine JF fun h => Jy R (Js (Jp (Je [2, 2] R (Jb 2 R (Ju (Ja2 (l := [.tmp 4]) V48 (Jp2 R R) R ?_))))))
 cases h
 exact ⟨K20, R, (hE.stp (S3.tr (S10.tr S21)) R R)⟩
 refine JT fun h => Jx R (Je [2] R (Jb 1 R (Ju (Jw (Ja2 (l := [.tmp 4]) V48 (Jp2 R R) R ?_)))))
 cases h
 exact ⟨K20, R, (hE.stp (S3.tr (S10.tr S21)) R R)⟩
 refine JT fun h => Jx R (Je [2] R (Jb 1 R (Ju (Jw (Ja2 (l := [.tmp 4]) V48 (Jp2 R R) R ?_)))))
 cases h
 exact ⟨K9, R, (hE.stp (S3.tr S10) R R)⟩
theorem s_SigOk_ok {w : World} {κ : Col} {p0 : Sig}  {r : Bool} (h : s_SigOk p0 = some r) : Ret Tryz.prog 84 [.agg #[vi p0.In, vi p0.Out]] w (fun v w' => ∃ (κ' : Col), v = .bool r ∧ Ent κ w κ' w') := by
 unfold s_SigOk at h
 refine Ret.enter F84 R N84 R ?_
 dsimp only [envOf]
 have hE := Ent.refl κ w
 refine Je [1, 2] R (Jf1 (κ := κ) 2 R R R R R R R fun b1 w1 K2 S3 f4 => ⟨tv, Jb 1 R (Je [2, 1, 1, 2, 2, 1, 1, 2, 2] R (Jf R (Jb2 U31 R Z2 R R) (Jl tv R R R R (Jc2 I2 R R (hvE (f4.ld 0 R R))) (Ob h fun x5 hx5 h => Jh R R R C77 (s_l1In_ok (κ := fun b => mp [] 0 (K2 b)) hx5) ?_))))⟩)
 rintro _ w5 ⟨k6, rfl, e7⟩
 obtain ⟨K8, S9, m10⟩ := Ji e7 3 R
 refine ⟨tv, Jn 1 R (Ob h fun p10 h hK12 => Ju1 [(4, 2), (5, 1), (6, 1), (7, 2)] [(8, 2)] (fun L w' => L = [(2, .bool false), (10, .bool p10)] ∧ ∃ κ', Stp [] K8 w5 κ' w') tv ?_ ?_)⟩
 revert h
 cases ht13 : x5
 refine JF fun h => Jn 1 R (Jd1 R R R R (Jd1 R R R R (Jn 1 R ?_)))
 cases h
 exact Jv1 _ tv ⟨R, _, (Jx2 _ _).wk R⟩ (KM R)
 refine JT fun h => Jf R (Jb2 U31 R Z2 R R) (Jl tv R R R R (Jc2 I2 R R (hvE ((f4.stp S9 R R).ld 1 R R))) (Ob h fun x9 hx9 h => Jh R R R C77 (s_l1In_ok (κ := fun b => mp [] 0 (K8 b)) hx9) ?_))
 rintro _ w15 ⟨k16, rfl, e17⟩
 obtain ⟨K18, S19, m20⟩ := Ji e17 5 R
 refine ⟨tv, Jn 1 R ?_⟩
 cases h
 exact Jv1 _ tv ⟨R, _, S19.wk R⟩ (KM R)
 rintro _ w22 _ ⟨rfl, K23, S24⟩
 have h := hK12
 refine Jb 1 R (Ju (Ja2 (l := [.tmp 2]) V84 (Jp2 R R) R ?_))
 cases h
 exact ⟨K23, R, (hE.stp (S3.tr (S9.tr S24)) R R)⟩
theorem s_l1Rises_ok {w : World} {κ : Col} {a0 u0} {p0 : (List Int)} {p1 : Int} (g0 : Rd (Rp.int .i64) κ w 0 a0 u0 p0) {r : Bool} (h : s_l1Rises p0 p1 = some r) : Ret Tryz.prog 162 [.slice a0 p0.length u0, vi p1] w (fun v w' => ∃ (κ' : Col), v = .bool r ∧ Ent κ w κ' w') := by
 unfold s_l1Rises at h
 refine Ret.enter F162 R N162 R ?_
 dsimp only [envOf]
 have hE := Ent.refl κ w
 refine Je [2] R (Jb 1 R (Jq (Je [2] R (Jb 1 R ?_))))
 have hN1 : (p0.length : Int) ≤ 9223372036854775807 := g0.len_le
 refine Ob h fun q2 hq3 hK2 => ?_
 clear h
 refine Jx1 (fun L w' => ∃ κ', L = [] ∧ Stp [] κ w κ' w' ∧ q2 = Sum.inr ()) ?_ ?_
 refine Jv (Jy1 (fun k L w' => ∃ κ' v5, L = [(0, .slice a0 p0.length u0), (1, vi p1), (5, vi v5)] ∧ Stp [] κ w κ' w' ∧ 0 ≤ v5 ∧ Int.toNat ((p0.length : Int) - v5) = k ∧ cntM (s_l1Rises_b0 p0 p1) k v5 () = some q2) ⟨_, _, ⟨κ, 0, R, (Jx2 _ _).wk R, (by decide), (by simp), hq3⟩, (KM R)⟩ ?_)
 rintro k _ w7 ⟨K8, v5, rfl, S9, hj1, hJ1, h⟩
 rcases k with _ | k
 have hk10 := h; obtain ⟨o1, h⟩ := ex_eq (Sum.inr (Sum.inl ()) : Bool ⊕ ((Unit) ⊕ (Unit)))
 have hc1 : decide (v5 < (p0.length : Int)) = false := Jo2 (by omega)
 refine Jq (Je [2, 2, 2, 2] R (Jn 2 R (Jf R (Je2 U40 R R) (Jb 1 R (Jw2 R hc1 (Jc1 (Jt (Jt ?_))))))))
 cases h
 have h := hk10
 refine Jb1 ?_
 cases h
 exact Jw1 _ ⟨K8, R, S9.wk R, R⟩ KN
 obtain ⟨o1, h, hk10⟩ := BI h; unfold s_l1Rises_b0 at h
 have hc1 : decide (v5 < (p0.length : Int)) = true := Jn2 (by omega)
 refine Jq (Je [2, 2, 2, 2] R (Jn 2 R (Jf R (Je2 U40 R R) (Jb 1 R (Jv2 R hc1 (Js (Jp (Jq (Jv (Jq (Js1 (κ := K8) [0] none [(0, 2), (1, 2), (2, 2), (4, 2), (5, 2), (3, 0), (6, 1), (7, 2), (8, 2), (9, 2), (10, 2), (11, 2), (12, 2), (13, 2), (14, 2), (16, 2), (17, 2), (18, 2), (19, 2), (15, 0), (20, 0), (21, 2), (22, 2), (23, 2)] [] (by kernel_rfl) (by kernel_rfl) fun w12 S11 => Jn 2 R (Ob h fun x14 hx14 h => Jf R (Jf2 g0 hx14 U40 Z2 R R R R) (Jn 2 R ?_)))))))))))))
 have f13 := g0.stp (S9.tr S11) R R
 refine Jg R (Jc2 I2 R R (hvC (f13.gInt hx14) R)) (Ob h fun x18 hx18 h => Jh R R R C77 (s_l1In_ok (κ := fun b => mp [] 0 (K8 b)) hx18) ?_)
 rintro _ w14 ⟨k15, rfl, e16⟩
 obtain ⟨K17, S18, m19⟩ := Ji e16 2 R
 refine ⟨(S18.cl R), Jn 2 R (Ob h fun p35 h hK21 => Ju1 [(9, 2), (10, 2), (11, 2), (12, 2), (13, 2), (14, 2), (16, 2), (17, 2), (18, 2), (19, 2), (15, 0), (20, 0), (21, 2), (22, 2), (23, 2)] [] (fun L w' => L = [(0, .slice a0 p0.length u0), (1, vi p1), (5, vi v5), (35, .bool p35)] ∧ ∃ κ', Stp [] K17 w14 κ' w') (S18.cl R) ?_ ?_)⟩
 revert h
 cases ht22 : (!x18)
 refine JF fun h => Jn 3 R (Ob h fun p34 h hK23 => Ju1 [(12, 2), (13, 2), (14, 2), (16, 2), (17, 2), (18, 2), (19, 2), (15, 0), (20, 0), (21, 2), (22, 2)] [(23, 2)] (fun L w' => L = [(0, .slice a0 p0.length u0), (1, vi p1), (5, vi v5), (20, .bool false), (21, vi v5), (22, .bool (decide (0 < v5))), (23, .bool (decide (0 < v5))), (34, .bool p34)] ∧ ∃ κ', Stp [] K17 w14 κ' w') (S18.cl R) ?_ ?_)
 revert h
 cases ht24 : decide (0 < v5)
 refine JF fun h => Jn 7 R (Je1 R R R R (Je1 R R R R (Jn 2 R ?_)))
 cases h
 exact Jv1 _ (S18.cl R) ⟨R, _, (Jx2 _ _).wk R⟩ (KM R)
 refine JT fun h => Jn 2 R (Ob h fun x26 hx26 h => Jf R (Jf2 f13 hx26 U40 Z2 R R R R) (Jn 3 R (Ob h fun x31 hx31 h => Jf R (Jf2 f13 hx31 U40 Z2 R R R R) (Jg R (Jc2 I2 R R (hvC (f13.gInt hx26) R)) (Jg R (Jc2 I2 R R (hvC (f13.gInt hx31) R)) (Jn 2 R ?_))))))
 cases h
 exact Jv1 _ (S18.cl R) ⟨R, _, (Jx2 _ _).wk R⟩ (KM R)
 rintro _ w25 _ ⟨rfl, K26, S27⟩
 have h := hK23
 refine Jn 1 R ?_
 cases h
 exact Jv1 _ ((S18.tr S27).cl R) ⟨R, _, S27.wk R⟩ (KM R)
 refine JT fun h => Jn 10 R (Je1 R R R R (Je1 R R R R (Jn 3 R ?_)))
 cases h
 exact Jv1 _ (S18.cl R) ⟨R, _, (Jx2 _ _).wk R⟩ (KM R)
 rintro _ w28 _ ⟨rfl, K29, S30⟩
 have h := hK21
 refine Jt1 (Jd ?_)
 revert h
 cases ht31 : p35
 refine JF fun h => Jy R (Js (Jz (Jp (Ja [2, 2, 2] R (Jc 3 R ?_)))))
 have hw1 : IntKind.wrap .i64 (v5 + 1) = v5 + 1 := wr1 hj1 (Jm2 hc1) hN1
 rw [hw1]
 have hc1 := Jm2 hc1
 cases h
 exact Jz1 fun a ha => ⟨k, _, Ja3 _, ⟨K29, v5 + 1, R, (S9.tr (S11.tr (S18.tr S30))).wk R, by omega, by omega, hk10⟩, (ha.mm R)⟩
 refine JT fun h => Jx R (Je [2] R (Jb 1 R (Ju (Ja1 (Jw (Jw ?_))))))
 cases h
 obtain rfl := Option.some.inj hk10
 have h := hK2
 dsimp only [aft] at h
 refine Ja1 (Jq2 (Jw (Ja2 (l := [.tmp 4]) V162 (Jp2 R R) R ?_)))
 cases h
 exact ⟨K29, R, (hE.stp (S9.tr (S11.tr (S18.tr S30))) R R)⟩
 rintro _ w4 ⟨K5, rfl, S6, rfl⟩
 have h := hK2
 dsimp only [aft] at h
 refine Jp (Je [2] R (Jb 1 R (Ju (Ja2 (l := [.tmp 4]) V162 (Jp2 R R) R ?_))))
 cases h
 exact ⟨K5, R, (hE.stp S6 R R)⟩
theorem s_l25Next_ok {w : World} {κ : Col} {aa ac ab ad} {p0 : Clause} {p1 : Int} {p2 : Int} (g0_1 : Rd (Rp.int .i64) κ w 0 aa ac p0.A) (g0_2 : Rd (Rp.int .i64) κ w 0 ab ad p0.B) {r : Int} (h : s_l25Next p0 p1 p2 = some r) : Ret Tryz.prog 142 [.agg #[vi p0.Kind, .slice aa p0.A.length ac, .slice ab p0.B.length ad], vi p1, vi p2] w (fun v w' => ∃ (κ' : Col), v = vi r ∧ Ent κ w κ' w') := by
 unfold s_l25Next at h
 refine Ret.enter F142 R N142 R ?_
 dsimp only [envOf]
 have hE := Ent.refl κ w
 refine Je [1, 2] R (Jf1 (κ := κ) 2 R R R R R R R fun b3 w1 K2 S3 f4 => ⟨tv, Jb 1 R (Je [2, 1, 2, 1, 1, 2] R (Jf R (Jb2 U71 R Z40 R R) (Jl tv R R R R (Jc2 I40 R R (hvE (f4.ld 1 R R))) (Jn 1 R (Ob h fun x12 hx12 h => Jh R R R C117 (s_l1Has_ok (κ := fun b => mp [] 0 (K2 b)) (Jl2 (g0_1.stp S3 R R) (mp [] 0) R R) hx12) ?_)))))⟩)
 rintro _ w6 ⟨k7, rfl, e8⟩
 obtain ⟨K9, S10, m11⟩ := Ji e8 3 R
 refine ⟨tv, Ob h fun x13 hx13 h => Jh R R R C167 (s_l1Flag_ok (κ := fun b => mp [] 0 (K9 b)) hx13) ?_⟩
 rintro _ w13 ⟨k14, rfl, e15⟩
 obtain ⟨K16, S17, m18⟩ := Ji e15 5 R
 refine ⟨tv, Jb 1 R (Je [2, 1, 2, 1, 1, 2] R (Jf R (Jb2 U71 R Z40 R R) ?_))⟩
 have f20 := f4.stp (S10.tr S17) R R
 refine Jl tv R R R R (Jc2 I40 R R (hvE (f20.ld 2 R R))) (Jn 1 R (Ob h fun x17 hx17 h => Jh R R R C117 (s_l1Has_ok (κ := fun b => mp [] 0 (K16 b)) (Jl2 (g0_2.stp (S3.tr (S10.tr S17)) R R) (mp [] 0) R R) hx17) ?_))
 rintro _ w22 ⟨k23, rfl, e24⟩
 obtain ⟨K25, S26, m27⟩ := Ji e24 7 R
 refine ⟨tv, Ob h fun x18 hx18 h => Jh R R R C167 (s_l1Flag_ok (κ := fun b => mp [] 0 (K25 b)) hx18) ?_⟩
 rintro _ w29 ⟨k30, rfl, e31⟩
 obtain ⟨K32, S33, m34⟩ := Ji e31 9 R
 refine ⟨tv, Jb 1 R (Jq (Je [2, 1] R (Jf R (Jb2 U71 R Z2 R R) (Jl tv R R R R (Jc2 I2 R R (hvE ((f20.stp (S26.tr S33) R R).ld 0 R R))) (Jd (Jv (Je [2, 2] R (Jb 2 R ?_))))))))⟩
 revert h
 cases ht37 : (p0.Kind == 1)
 refine JF fun h => Jy R (Je [2, 2] R (Jb 2 R ?_))
 revert h
 cases ht46 : (p0.Kind == 2)
 refine JF fun h => Jy R (Je [2, 2] R (Jb 2 R ?_))
 revert h
 cases ht60 : (p0.Kind == 3)
 refine JF fun h => Jy R (Je [2, 2] R (Jb 2 R ?_))
 revert h
 cases ht71 : (p0.Kind == 4)
 refine JF fun h => Jy R (Je [2, 2] R (Jb 2 R ?_))
 revert h
 cases ht73 : (p0.Kind == 5)
 refine JF fun h => Jy R (Je [2, 2] R (Jb 2 R ?_))
 revert h
 cases ht75 : (p0.Kind == 6)
 refine JF fun h => Jy R (Js (Jz (Jp (Je [2, 2, 2, 2, 2] R (Jb 5 R (Ju (Ja2 (l := [.tmp 6]) V142 (Jp2 R R) R ?_)))))))
 cases h
 exact ⟨K32, R, (hE.stp (S3.tr (S10.tr (S17.tr (S26.tr S33)))) R R)⟩
 refine JT fun h => Jx R (Je [2, 2, 1, 2] R (Jn 2 R (Ob h fun x58 hx58 h => Jh R R R C95 (s_l1Max_ok (κ := fun b => mp [] 0 (K32 b)) hx58) ?_)))
 rintro _ w76 ⟨k77, rfl, e78⟩
 obtain ⟨K79, S80, m81⟩ := Ji e78 11 R
 refine ⟨tv, Jb 1 R (Ju (Ja1 (Jw (Ja2 (l := [.tmp 6]) V142 (Jp2 R R) R ?_))))⟩
 cases h
 exact ⟨K79, R, (hE.stp (S3.tr (S10.tr (S17.tr (S26.tr (S33.tr S80))))) R R)⟩
 refine JT fun h => Jx R (Je [2, 2, 2] R (Jb 3 R (Ju (Ja1 (Jw (Ja2 (l := [.tmp 6]) V142 (Jp2 R R) R ?_))))))
 cases h
 exact ⟨K32, R, (hE.stp (S3.tr (S10.tr (S17.tr (S26.tr S33)))) R R)⟩
 refine JT fun h => Jx R (Je [2, 2] R (Jb 2 R (Ju (Ja1 (Jw (Ja2 (l := [.tmp 6]) V142 (Jp2 R R) R ?_))))))
 cases h
 exact ⟨K32, R, (hE.stp (S3.tr (S10.tr (S17.tr (S26.tr S33)))) R R)⟩
 refine JT fun h => Jx R (Jq (Je [2, 2] R (Jb 2 R ?_)))
 revert h
 cases ht61 : (x18 == 1)
 refine JF fun h => Jy R (Js (Jp (Je [2, 2, 1, 2] R (Jn 2 R (Ob h fun x46 hx46 h => Jh R R R C95 (s_l1Max_ok (κ := fun b => mp [] 0 (K32 b)) hx46) ?_)))))
 rintro _ w63 ⟨k64, rfl, e65⟩
 obtain ⟨K66, S67, m68⟩ := Ji e65 11 R
 refine ⟨tv, Jb 1 R (Ju (Ja1 (Jw (Ja2 (l := [.tmp 6]) V142 (Jp2 R R) R ?_))))⟩
 cases h
 exact ⟨K66, R, (hE.stp (S3.tr (S10.tr (S17.tr (S26.tr (S33.tr S67))))) R R)⟩
 refine JT fun h => Jx R (Je [2] R (Jb 1 R (Ju (Jw (Ja1 (Jw (Ja2 (l := [.tmp 6]) V142 (Jp2 R R) R ?_)))))))
 cases h
 exact ⟨K32, R, (hE.stp (S3.tr (S10.tr (S17.tr (S26.tr S33)))) R R)⟩
 refine JT fun h => Jx R (Jq (Je [2, 2, 2, 2, 2, 2, 2, 2, 2, 2] R (Jn 3 R (Ob h fun p38 h hK47 => Ju1 [(3, 2), (4, 2), (5, 2), (6, 2), (7, 2), (8, 2), (9, 2)] [] (fun L w' => L = [(7, vi x13), (38, .bool p38)] ∧ ∃ κ', Stp [] K32 w29 κ' w') tv ?_ ?_))))
 revert h
 cases ht48 : (p1 == 2)
 refine JF fun h => Jn 3 R (Ob h fun p37 h hK49 => Ju1 [(6, 2), (7, 2), (8, 2)] [(9, 2)] (fun L w' => L = [(7, vi x13), (31, .bool false), (37, .bool p37)] ∧ ∃ κ', Stp [] K32 w29 κ' w') tv ?_ ?_)
 revert h
 cases ht50 : (p1 == 1)
 refine JF fun h => Jn 3 R ?_
 cases h
 exact Jv1 _ tv ⟨R, _, (Jx2 _ _).wk R⟩ (KM R)
 refine JT fun h => Jn 3 R ?_
 cases h
 exact Jv1 _ tv ⟨R, _, (Jx2 _ _).wk R⟩ (KM R)
 rintro _ w51 _ ⟨rfl, K52, S53⟩
 have h := hK49
 refine Jn 1 R ?_
 cases h
 exact Jv1 _ tv ⟨R, _, S53.wk R⟩ (KM R)
 refine JT fun h => Jn 7 R ?_
 cases h
 exact Jv1 _ tv ⟨R, _, (Jx2 _ _).wk R⟩ (KM R)
 rintro _ w54 _ ⟨rfl, K55, S56⟩
 have h := hK47
 refine Jd ?_
 revert h
 cases ht57 : p38
 refine JF fun h => Jy R (Js (Jp (Je [2, 2] R (Jb 2 R (Ju (Ja1 (Jw (Ja2 (l := [.tmp 6]) V142 (Jp2 R R) R ?_))))))))
 cases h
 exact ⟨K55, R, (hE.stp (S3.tr (S10.tr (S17.tr (S26.tr (S33.tr S56))))) R R)⟩
 refine JT fun h => Jx R (Je [2] R (Jb 1 R (Ju (Jw (Ja1 (Jw (Ja2 (l := [.tmp 6]) V142 (Jp2 R R) R ?_)))))))
 cases h
 exact ⟨K55, R, (hE.stp (S3.tr (S10.tr (S17.tr (S26.tr (S33.tr S56))))) R R)⟩
 refine JT fun h => Jx R (Je [2, 2, 2, 1, 2] R (Jn 3 R (Ob h fun x26 hx26 h => Jh R R R C95 (s_l1Max_ok (κ := fun b => mp [] 0 (K32 b)) hx26) ?_)))
 rintro _ w38 ⟨k39, rfl, e40⟩
 obtain ⟨K41, S42, m43⟩ := Ji e40 11 R
 refine ⟨tv, Jb 1 R (Ju (Ja1 (Jw (Ja2 (l := [.tmp 6]) V142 (Jp2 R R) R ?_))))⟩
 cases h
 exact ⟨K41, R, (hE.stp (S3.tr (S10.tr (S17.tr (S26.tr (S33.tr S42))))) R R)⟩
theorem s_l26Pairs_ok {w : World} {κ : Col} {a0 u0} {p0 : (List Pair)} {a1 u1} {p1 : (List (List Int))} {p2 : Int} (g0 : Rd Pair.rp κ w 0 a0 u0 p0) (g1 : Rd (Rp.sl (Rp.int .i64)) κ w 0 a1 u1 p1) {r : (List Pair)} (h : s_l26Pairs p0 p1 p2 = some r) : Ret Tryz.prog 66 [.slice a0 p0.length u0, .slice a1 p1.length u1, vi p2] w (fun v w' => ∃ (κ' : Col) (ra0 : Option Addr) (ru0 : Nat), v = .slice ra0 r.length ru0 ∧ Ent κ w κ' w' ∧ Oc Pair.ep92 92 κ' w' 2 ra0 ru0 r) := by
 unfold s_l26Pairs at h
 refine Ret.enter F66 R N66 R ?_
 dsimp only [envOf]
 have hE := Ent.refl κ w
 refine Je [2] R (Jb 1 R (Je [1, 2] R (Jo1 (κ := κ) (E := Pair.ep92) 2 R R R R R Y79 Tryzinfo92 R fun aA ay w1 K2 S3 f4 => ⟨tv, Jb 1 R (Jq (Je [2] R (Jb 1 R ?_)))⟩)))
 have hN5 : (p0.length : Int) ≤ 9223372036854775807 := g0.len_le
 refine Ob h fun q2 hq7 hK6 => ?_
 clear h
 refine Jx1 (fun L w' => ∃ κ', ∃ s3 : (List Pair), ∃ ap ao, L = [(7, .slice ap s3.length ao)] ∧ Stp [2, 3, 4, 5, 6] K2 w1 κ' w' ∧ Oc Pair.ep92 92 κ' w' 2 ap ao s3 ∧ q2 = Sum.inr s3) ?_ ?_
 refine Jv (Jy1 (fun k L w' => ∃ κ' v8, ∃ s1 : (List Pair), ∃ ab aa, L = [(0, .slice a0 p0.length u0), (1, .slice a1 p1.length u1), (2, vi p2), (7, .slice ab s1.length aa), (8, vi v8)] ∧ Stp [2, 3, 4, 5, 6] K2 w1 κ' w' ∧ Oc Pair.ep92 92 κ' w' 2 ab aa s1 ∧ 0 ≤ v8 ∧ Int.toNat ((p0.length : Int) - v8) = k ∧ cntM (s_l26Pairs_b0 p0 p1 p2) k v8 s1 = some q2) ⟨_, _, ⟨K2, 0, (([] : List Pair) : (List Pair)), aA, ay, R, (Jx2 _ _).wk R, f4, (by decide), (by simp), hq7⟩, (KM R)⟩ ?_)
 rintro k _ w12 ⟨K13, v8, s1, ab, aa, rfl, S14, f15, hj5, hJ5, h⟩
 rcases k with _ | k
 have hk16 := h; obtain ⟨o5, h⟩ := ex_eq (Sum.inr (Sum.inl s1) : (List Pair) ⊕ (((List Pair)) ⊕ ((List Pair))))
 have hc5 : decide (v8 < (p0.length : Int)) = false := Jo2 (by omega)
 refine Jq (Je [2, 2, 2, 2] R (Jn 2 R (Jf R (Je2 U79 R R) (Jb 1 R (Jw2 R hc5 (Jc1 (Jt (Jt ?_))))))))
 cases h
 have h := hk16
 refine Jb1 ?_
 cases h
 exact Jw1 _ ⟨K13, (s1 : (List Pair)), ab, aa, R, S14.wk R, f15, R⟩ (KM R)
 obtain ⟨o5, h, hk16⟩ := BI h; unfold s_l26Pairs_b0 at h
 have hc5 : decide (v8 < (p0.length : Int)) = true := Jn2 (by omega)
 refine Jq (Je [2, 2, 2, 2] R (Jn 2 R (Jf R (Je2 U79 R R) (Jb 1 R (Jv2 R hc5 (Js (Jp (Jq (Jv (Je [2, 1, 1] R (Jf R (rn_build (parts := []) (cells := [.slice none 0 0, .slice none 0 0]) R R (by kernel_rfl)) (Jg1 (κ := K13) 3 R R R R R X92 R fun b9 w17 K18 S19 f20 => ⟨tv, Jj1 (κ := K18) 3 (vc := [.slice none 0 0, .slice none 0 0]) R R R R R R R Z92 R R f20 R fun w21 S22 f23 => ⟨tv, Jd (Jq (Je [2] R (Jb 1 R ?_)))⟩⟩))))))))))))
 have hN24 : (p1.length : Int) ≤ 9223372036854775807 := g1.len_le
 refine Ob h fun q5 hq26 hK25 => ?_
 clear h
 refine Jx1 (fun L w' => ∃ κ', ∃ s6 : (List Int) × (List Int), ∃ ah af ae ad, L = [(0, .slice a0 p0.length u0), (1, .slice a1 p1.length u1), (2, vi p2), (7, .slice ab s1.length aa), (8, vi v8), (9, .pointer (some ⟨b9, 0, none⟩))] ∧ Stp [3, 4, 5] K18 w21 κ' w' ∧ Oc E6 2 κ' w' 4 ah af s6.1 ∧ Oc E6 2 κ' w' 5 ae ad s6.2 ∧ Bc κ' w' 3 b9 92 [.slice ah s6.1.length af, .slice ae s6.2.length ad] ∧ q5 = Sum.inr s6) ?_ ?_
 refine Jv (Jy1 (fun k L w' => ∃ κ' v10, ∃ s4 : (List Int) × (List Int), ∃ al am ai ac, L = [(0, .slice a0 p0.length u0), (1, .slice a1 p1.length u1), (2, vi p2), (7, .slice ab s1.length aa), (8, vi v8), (9, .pointer (some ⟨b9, 0, none⟩)), (10, vi v10)] ∧ Stp [3, 4, 5] K18 w21 κ' w' ∧ Oc E6 2 κ' w' 4 al am s4.1 ∧ Oc E6 2 κ' w' 5 ai ac s4.2 ∧ Bc κ' w' 3 b9 92 [.slice al s4.1.length am, .slice ai s4.2.length ac] ∧ 0 ≤ v10 ∧ Int.toNat ((p1.length : Int) - v10) = k ∧ cntM (s_l26Pairs_b2 p0 p1 p2 v8) k v10 s4 = some q5) ⟨_, _, ⟨K18, 0, ((([] : List Int) : (List Int)), (([] : List Int) : (List Int))), none, 0, none, 0, R, (Jx2 _ _).wk R, Ow.nil, Ow.nil, f23, (by decide), (by simp), hq26⟩, (KM R)⟩ ?_)
 rintro k _ w33 ⟨K34, v10, s4, al, am, ai, ac, rfl, S35, f36, f37, f38, hj24, hJ24, h⟩
 rcases k with _ | k
 have hk39 := h; obtain ⟨o24, h⟩ := ex_eq (Sum.inr (Sum.inl s4) : (List Pair) ⊕ (((List Int) × (List Int)) ⊕ ((List Int) × (List Int))))
 have hc24 : decide (v10 < (p1.length : Int)) = false := Jo2 (by omega)
 refine Jq (Je [2, 2, 2, 2] R (Jn 2 R (Jf R (Je2 U24 R R) (Jb 1 R (Jw2 R hc24 (Jc1 (Jt (Jt ?_))))))))
 cases h
 have h := hk39
 refine Jb1 ?_
 cases h
 exact Jw1 _ ⟨K34, ((s4.1 : (List Int)), (s4.2 : (List Int))), al, am, ai, ac, R, S35.wk R, f36, f37, f38, R⟩ (KM R)
 obtain ⟨o24, h, hk39⟩ := BI h; unfold s_l26Pairs_b2 at h
 have hc24 : decide (v10 < (p1.length : Int)) = true := Jn2 (by omega)
 refine Jq (Je [2, 2, 2, 2] R (Jn 2 R (Jf R (Je2 U24 R R) (Jb 1 R (Jv2 R hc24 (Js (Jp (Jq (Jv (Jq (Jq (Js1 (κ := K34) [0] none [(0, 2), (1, 2), (2, 2), (3, 2), (5, 2), (6, 2), (7, 2), (9, 2), (4, 0), (8, 0), (10, 2), (11, 0), (12, 1)] [] (by kernel_rfl) (by kernel_rfl) fun w41 S40 => Jn 2 R (Ob h fun x27 hx27 h => Jf R (Jf2 g0 hx27 U79 Z92 R R R R) (Jf R (Jb2 U92 R Z40 R R) (Jn 2 R (Ob h fun x32 hx32 h => Jf R (Jf2 g1 hx32 U24 Z40 R R R R) (Jn 1 R ?_)))))))))))))))))
 have f42 := g0.stp (S3.tr (S14.tr (S19.tr (S22.tr (S35.tr S40))))) R R
 obtain ⟨cse43, hre43, hle43⟩ := (f42).gSt hx27
 obtain ⟨ae43_0, ue43_0, ae43_1, ue43_1, rfl, fe43_0, fe43_1⟩ := Pair.un hre43
 refine Jg R (Jc2 I40 R R (hvC (fun w' hw' => hle43 w' hw' 0 _ R) R)) ?_
 have f44 := g1.stp (S3.tr (S14.tr (S19.tr (S22.tr (S35.tr S40))))) R R
 obtain ⟨ax32, ux32, f45, hl46⟩ := f44.gSl hx32
 refine Jg R (Jc2 I40 R R (hvC hl46 R)) (Ob h fun x35 hx35 h => Jf R (Jf2 f45 hx35 U40 Z2 R R R R) (Jg R (Jc2 I2 R R (hvC (f45.gInt hx35) R)) (Ob h fun x37 hx37 h => Jh R R R C117 (s_l1Has_ok (κ := fun b => mp [] 0 (K34 b)) (Jl2 fe43_0 (mp [] 0) R R) hx37) ?_)))
 rintro _ w47 ⟨k48, rfl, e49⟩
 obtain ⟨K50, S51, m52⟩ := Ji e49 6 R
 refine ⟨(S51.cl R), Jt1 (Jd (Ob h fun q7 h hK54 => Jx1 (fun L w' => ∃ κ' aj ak, L = [(0, .slice a0 p0.length u0), (1, .slice a1 p1.length u1), (2, vi p2), (7, .slice ab s1.length aa), (8, vi v8), (9, .pointer (some ⟨b9, 0, none⟩)), (10, vi v10)] ∧ Stp [3, 4] K50 w47 κ' w' ∧ Oc E6 2 κ' w' 4 aj ak q7 ∧ Bc κ' w' 3 b9 92 [.slice aj q7.length ak, .slice ai s4.2.length ac]) ?_ ?_))⟩
 revert h
 cases ht60 : x37
 refine JF fun h => Jy R (Js ?_)
 cases h
 exact Jw1 _ ⟨K50, al, am, R, (Jx2 _ _).wk R, (f36.stp (S40.tr S51) R R), (f38.stp (S40.tr S51) R R)⟩ (KM R)
 refine JT fun h => Jx R (Ja [2, 1, 2, 1, 1, 2, 1] R (Jf R (Jb2 U92 R Z40 R R) ?_))
 have f61 := f38.stp (S40.tr S51) R R
 refine Jl tv R R R R (Jc2 I40 R R (hvE (f61.ld 0 R R))) (Jn 1 R (Jn1 (κ := K50) (E := E6) 8 [] (parts := [(0, .tmp 40)]) (cells := [vi v10]) (xs := ([v10] : List Int)) R R R R R R Y40 Tryzinfo2 R R R R R R R R R R ⟨[vi v10], [], Zl K50 w47 [], Zl K50 w47 [], R, Zl.sp (l1 := []) (l2 := []) R, Zl.sr (l1 := []) (l2 := []), R, R⟩ fun aB aF w62 K63 S64 f65 => ⟨tv, Ob h fun x42 hx42 h => Jm1 (κ := K63) (E := E6) 4 [] R R R R R R R R R Y40 Tryzinfo2 R R R R (f36.stp (S40.tr (S51.tr S64)) R R) (Sl.srcP (pu_int _) f65.rdc) sy_false hx42 R fun au ar w67 K68 S69 f70 => ⟨tv, Jf R (Jb2 U92 R Z40 R R) (Ji1 (κ := K68) 3 (off := 0) (vc := [.slice au x42.length ar]) (cs' := [.slice au x42.length ar, .slice ai s4.2.length ac]) R R R R R R R Z40 R R (f61.stp (S64.tr S69) R R) R R fun w72 S73 f74 => ⟨tv, Jo ?_⟩)⟩⟩))
 cases h
 exact Jw1 _ ⟨K68, au, ar, R, (S64.tr (S69.tr S73)).wk R, (f70.stp S73 R R), f74⟩ (KM R)
 rintro _ w55 ⟨K56, aj, ak, rfl, S57, f58, f59⟩
 have h := hK54
 refine Jp (Jq (Js1 (κ := K56) [0] none [(0, 2), (1, 2), (2, 2), (3, 2), (5, 2), (6, 2), (7, 2), (9, 2), (4, 0), (8, 0), (10, 2), (11, 0), (12, 1)] [] (by kernel_rfl) (by kernel_rfl) fun w79 S78 => Jn 2 R (Ob h fun x46 hx46 h => Jf R (Jf2 f42 hx46 U79 Z92 R R R R) (Jf R (Jb2 U92 R Z40 R R) (Jn 2 R (Ob h fun x51 hx51 h => Jf R (Jf2 f44 hx51 U24 Z40 R R R R) (Jn 1 R ?_)))))))
 obtain ⟨cse81, hre81, hle81⟩ := ((f42.stp (S51.tr (S57.tr S78)) R R)).gSt hx46
 obtain ⟨ae81_0, ue81_0, ae81_1, ue81_1, rfl, fe81_0, fe81_1⟩ := Pair.un hre81
 refine Jg R (Jc2 I40 R R (hvC (fun w' hw' => hle81 w' hw' 1 _ R) R)) ?_
 obtain ⟨ax51, ux51, f83, hl84⟩ := (f44.stp (S51.tr (S57.tr S78)) R R).gSl hx51
 refine Jg R (Jc2 I40 R R (hvC hl84 R)) (Ob h fun x54 hx54 h => Jf R (Jf2 f83 hx54 U40 Z2 R R R R) (Jg R (Jc2 I2 R R (hvC (f83.gInt hx54) R)) (Ob h fun x56 hx56 h => Jh R R R C117 (s_l1Has_ok (κ := fun b => mp [] 0 (K56 b)) (Jl2 fe81_1 (mp [] 0) R R) hx56) ?_)))
 rintro _ w85 ⟨k86, rfl, e87⟩
 obtain ⟨K88, S89, m90⟩ := Ji e87 8 R
 refine ⟨(S89.cl R), Jt1 (Jd (Ob h fun q8 h hK92 => Jx1 (fun L w' => ∃ κ' an aq, L = [(0, .slice a0 p0.length u0), (1, .slice a1 p1.length u1), (2, vi p2), (7, .slice ab s1.length aa), (8, vi v8), (9, .pointer (some ⟨b9, 0, none⟩)), (10, vi v10)] ∧ Stp [3, 5] K88 w85 κ' w' ∧ Oc E6 2 κ' w' 5 an aq q8 ∧ Bc κ' w' 3 b9 92 [.slice aj q7.length ak, .slice an q8.length aq]) ?_ ?_))⟩
 revert h
 cases ht98 : x56
 refine JF fun h => Jy R (Js ?_)
 cases h
 exact Jw1 _ ⟨K88, ai, ac, R, (Jx2 _ _).wk R, (f37.stp (S40.tr (S51.tr (S57.tr (S78.tr S89)))) R R), (f59.stp (S78.tr S89) R R)⟩ (KM R)
 refine JT fun h => Jx R (Ja [2, 1, 2, 1, 1, 2, 1] R (Jf R (Jb2 U92 R Z40 R R) ?_))
 have f99 := f59.stp (S78.tr S89) R R
 refine Jl tv R R R R (Jc2 I40 R R (hvE (f99.ld 1 R R))) (Jn 1 R (Jn1 (κ := K88) (E := E6) 10 [] (parts := [(0, .tmp 59)]) (cells := [vi v10]) (xs := ([v10] : List Int)) R R R R R R Y40 Tryzinfo2 R R R R R R R R R R ⟨[vi v10], [], Zl K88 w85 [], Zl K88 w85 [], R, Zl.sp (l1 := []) (l2 := []) R, Zl.sr (l1 := []) (l2 := []), R, R⟩ fun aE aC w100 K101 S102 f103 => ⟨tv, Ob h fun x61 hx61 h => Jm1 (κ := K101) (E := E6) 5 [] R R R R R R R R R Y40 Tryzinfo2 R R R R (f37.stp (S40.tr (S51.tr (S57.tr (S78.tr (S89.tr S102))))) R R) (Sl.srcP (pu_int _) f103.rdc) sy_false hx61 R fun aw av w105 K106 S107 f108 => ⟨tv, Jf R (Jb2 U92 R Z40 R R) (Ji1 (κ := K106) 3 (off := 1) (vc := [.slice aw x61.length av]) (cs' := [.slice aj q7.length ak, .slice aw x61.length av]) R R R R R R R Z40 R R (f99.stp (S102.tr S107) R R) R R fun w110 S111 f112 => ⟨tv, Jo ?_⟩)⟩⟩))
 cases h
 exact Jw1 _ ⟨K106, aw, av, R, (S102.tr (S107.tr S111)).wk R, (f108.stp S111 R R), f112⟩ (KM R)
 rintro _ w93 ⟨K94, an, aq, rfl, S95, f96, f97⟩
 have h := hK92
 refine Jz (Jp (Ja [2, 2, 2] R (Jc 3 R ?_)))
 have hw24 : IntKind.wrap .i64 (v10 + 1) = v10 + 1 := wr1 hj24 (Jm2 hc24) hN24
 rw [hw24]
 have hc24 := Jm2 hc24
 cases h
 exact Jz1 fun a ha => ⟨k, _, Ja3 _, ⟨K94, v10 + 1, ((q7 : (List Int)), (q8 : (List Int))), aj, ak, an, aq, R, (S35.tr (S40.tr (S51.tr (S57.tr (S78.tr (S89.tr S95)))))).wk R, (f58.stp (S78.tr (S89.tr S95)) R R), f96, f97, by omega, by omega, hk39⟩, (ha.mm R)⟩
 rintro _ w27 ⟨K28, s6, ah, af, ae, ad, rfl, S29, f30, f31, f32, rfl⟩
 have h := hK25
 dsimp only [aft] at h
 refine Jp (Ja [2, 1, 1, 1, 2] R (Jn 1 R (Jl tv R R R R (Jd2 (cs := [.slice ah s6.1.length af, .slice ae s6.2.length ad]) I92 Z92 R R R (haE f32.cells)) (Jn1 (κ := K28) (E := Pair.ep92) 6 [4, 5] (parts := [(0, .tmp 64)]) (cells := [.slice ah s6.1.length af, .slice ae s6.2.length ad]) (xs := ([(⟨s6.1, s6.2⟩ : Pair)] : List Pair)) R R R R R R Y79 Tryzinfo92 R R R R R R R R R R ⟨[.slice ah s6.1.length af, .slice ae s6.2.length ad], [], Zl K28 w27 [4, 5], Zl K28 w27 [], R, Zl.sp (l1 := [4, 5]) (l2 := []) R, Zl.sr (l1 := [4, 5]) (l2 := []), ⟨[.slice ah s6.1.length af], [.slice ae s6.2.length ad], Zl K28 w27 [4], Zl K28 w27 [5], R, Zl.sp (l1 := [4]) (l2 := [5]) R, Zl.sr (l1 := [4]) (l2 := [5]), ⟨_, _, R, f30⟩, ⟨_, _, R, f31⟩⟩, R⟩ fun aG aD w117 K118 S119 f120 => ⟨tv, Ob h fun x66 hx66 h => Jm1 (κ := K118) (E := Pair.ep92) 2 [6] R R R R R R R R R Y79 Tryzinfo92 R R R R (f15.stp (S19.tr (S22.tr (S29.tr S119))) R R) f120.src (sy_one R) hx66 R fun ax az w122 K123 S124 f125 => ⟨tv, Jc 1 R (Jz (Jp (Ja [2, 2, 2] R (Jc 3 R ?_))))⟩⟩))))
 have hw5 : IntKind.wrap .i64 (v8 + 1) = v8 + 1 := wr1 hj5 (Jm2 hc5) hN5
 rw [hw5]
 have hc5 := Jm2 hc5
 cases h
 exact Jz1 fun a ha => ⟨k, _, Ja3 _, ⟨K123, v8 + 1, (x66 : (List Pair)), ax, az, R, (S14.tr (S19.tr (S22.tr (S29.tr (S119.tr S124))))).wk R, f125, by omega, by omega, hk16⟩, (ha.mm R)⟩
 rintro _ w8 ⟨K9, s3, ap, ao, rfl, S10, f11, rfl⟩
 have h := hK6
 dsimp only [aft] at h
 refine Jp (Je [2, 2] R (Jb 2 R (Ju (Ja2 (l := [.tmp 6]) V66 (Jp2 R R) R ?_))))
 cases h
 exact ⟨K9, ap, ao, R, (hE.stp (S3.tr S10) R R), f11⟩
theorem s_l27Inputs_ok {w : World} {κ : Col} {p0 : Sig}  {r : Int} (h : s_l27Inputs p0 = some r) : Ret Tryz.prog 113 [.agg #[vi p0.In, vi p0.Out]] w (fun v w' => ∃ (κ' : Col), v = vi r ∧ Ent κ w κ' w') := by
 unfold s_l27Inputs at h
 refine Ret.enter F113 R N113 R ?_
 dsimp only [envOf]
 have hE := Ent.refl κ w
 refine Je [1, 2] R (Jf1 (κ := κ) 2 R R R R R R R fun b1 w1 K2 S3 f4 => ⟨tv, Jb 1 R (Je [2, 1, 1, 2] R (Jf R (Jb2 U31 R Z2 R R) (Jl tv R R R R (Jc2 I2 R R (hvE (f4.ld 0 R R))) (Ob h fun x5 hx5 h => Jh R R R C93 (s_l23Power_ok (κ := fun b => mp [] 0 (K2 b)) hx5) ?_))))⟩)
 rintro _ w5 ⟨k6, rfl, e7⟩
 obtain ⟨K8, S9, m10⟩ := Ji e7 3 R
 refine ⟨tv, Jb 1 R (Ju (Ja2 (l := [.tmp 2]) V113 (Jp2 R R) R ?_))⟩
 cases h
 exact ⟨K8, R, (hE.stp (S3.tr S9) R R)⟩
theorem s_l1Beyond_ok {w : World} {κ : Col} {a0 u0} {p0 : (List (List Int))} {a1 u1} {p1 : (List Bool)} {a2 u2} {p2 : (List Int)} (g0 : Rd (Rp.sl (Rp.int .i64)) κ w 0 a0 u0 p0) (g1 : Rd Rp.bool κ w 0 a1 u1 p1) (g2 : Rd (Rp.int .i64) κ w 0 a2 u2 p2) {r : (List Bool)} (h : s_l1Beyond p0 p1 p2 = some r) : Ret Tryz.prog 144 [.slice a0 p0.length u0, .slice a1 p1.length u1, .slice a2 p2.length u2] w (fun v w' => ∃ (κ' : Col) (ra0 : Option Addr) (ru0 : Nat), v = .slice ra0 r.length ru0 ∧ Ent κ w κ' w' ∧ Oc Ep.bool 4 κ' w' 2 ra0 ru0 r) := by
 unfold s_l1Beyond at h
 refine Ret.enter F144 R N144 R ?_
 dsimp only [envOf]
 have hE := Ent.refl κ w
 refine Je [2] R (Jb 1 R (Je [2, 2, 1, 2] R (Jn 1 R (Jf R (Je2 U24 R R) (Ob h fun x14 hx14 h => Jl1 (κ := κ) (E := Ep.bool) (z := (false : Bool)) 2 R R R R R R R Y135 Tryzinfo4 R R R R R (fun _ _ _ => R) (Ju2 hx14) fun ab aa w1 K2 S3 f4 => ⟨tv, Jb 1 R (Je [2, 1, 2] R (Jn 1 R (Ob h fun x16 hx16 h => Jh R R R C88 (s_l1Copy_ok (κ := fun b => mp [] 0 (K2 b)) (Jl2 (g2.stp S3 R R) (mp [] 0) R R) hx16) ?_)))⟩)))))
 rintro _ w6 ⟨k7, aq, an, rfl, e8, f9⟩
 obtain ⟨K10, S11, m12⟩ := Ji e8 3 R
 refine ⟨tv, Jb 1 R (Jq (Ob h fun q2 hq17 hK16 => ?_))⟩
 clear h
 refine Jx1 (fun L w' => ∃ κ', ∃ s3 : (List Int) × (List Bool), ∃ am al, L = [(7, .slice ab x14.length aa)] ∧ Stp [2, 5] K10 w6 κ' w' ∧ Oc E6 2 κ' w' 5 am al s3.1 ∧ Oc Ep.bool 4 κ' w' 2 ab aa s3.2 ∧ x14.length = s3.2.length ∧ q2 = Sum.inr s3) ?_ ?_
 refine Jv (Jy1 (fun k L w' => ∃ κ', ∃ s1 : (List Int) × (List Bool), ∃ af ad, L = [(0, .slice a0 p0.length u0), (1, .slice a1 p1.length u1), (7, .slice ab x14.length aa), (8, .slice af s1.1.length ad)] ∧ Stp [2, 5] K10 w6 κ' w' ∧ Oc E6 2 κ' w' 5 af ad s1.1 ∧ Oc Ep.bool 4 κ' w' 2 ab aa s1.2 ∧ x14.length = s1.2.length ∧ whileM (s_l1Beyond_b0 p0 p1) k s1 = some q2) ⟨_, _, ⟨K10, ((x16 : (List Int)), (x14 : (List Bool))), aq, an, R, (Jx2 _ _).wk R, (f9.mx (no_int _) m12 R (R : 3 + 2 = 5)), (f4.stp S11 R R), R, hq17⟩, (KM R)⟩ ?_)
 rintro k _ w24 ⟨K25, s1, af, ad, rfl, S26, f27, f28, hn29, h⟩
 rcases k with _ | k
 cases h
 obtain ⟨o15, h, hk31⟩ := BI h; unfold s_l1Beyond_b0 at h
 refine Jq (Je [2, 2, 2] R (Jn 1 R (Jf R (Je2 U40 R R) (Jb 1 R ?_))))
 revert h
 cases ht32 : decide (0 < (s1.1.length : Int))
 refine JF fun h => Jy R (Jc1 (Jt (Jt ?_)))
 cases h
 have h := hk31
 refine Jb1 ?_
 cases h
 exact Jw1 _ ⟨K25, ((s1.1 : (List Int)), (s1.2 : (List Bool))), af, ad, R, S26.wk R, f27, f28, hn29, R⟩ (KM R)
 refine JT fun h => Jx R (Js (Jp (Jv (Je [2, 2, 2, 2, 2, 1, 2] R (Jn 2 R (Jf R (Je2 U40 R R) (Jn 1 R (Ob h fun x24 hx24 h => Jf R (Jf2 f27.rdc hx24 U40 Z2 R R R R) (Jl tv R R R R (Jc2 I2 R R (hvE (f27.rdc.gInt hx24))) (Jb 1 R (Je [2, 2, 2, 2, 2, 2] R (Jn 2 R (Jf R (Je2 U40 R R) (Jn 1 R (Ob h fun x30 hx30 h => Jf R (rn_slice (k1 := .i64) (k2 := .i64) U40 Z2 (.inl ⟨R, R⟩) (.inr ⟨_, R, R⟩) hx30 f27.rdc.1 R R R) (Jb 1 R (Je [2] R (Jb 1 R (Ob h fun q5 hq36 hK35 => ?_)))))))))))))))))))
 clear h
 refine Jx1 (fun L w' => ∃ κ', ∃ s6 : (List Int) × Int × (List Bool), ∃ ak aj, L = [(0, .slice a0 p0.length u0), (1, .slice a1 p1.length u1), (7, .slice ab x14.length aa), (8, .slice ak s6.1.length aj)] ∧ Stp [2, 5] K25 w24 κ' w' ∧ Oc E6 2 κ' w' 5 ak aj s6.1 ∧ Oc Ep.bool 4 κ' w' 2 ab aa s6.2.2 ∧ x14.length = s6.2.2.length ∧ q5 = Sum.inr s6) ?_ ?_
 refine Jv (Jy1 (fun k L w' => ∃ κ', ∃ s4 : (List Int) × Int × (List Bool), ∃ ac ae, L = [(0, .slice a0 p0.length u0), (1, .slice a1 p1.length u1), (7, .slice ab x14.length aa), (8, .slice ac s4.1.length ae), (9, vi x24), (10, vi s4.2.1)] ∧ Stp [2, 5] K25 w24 κ' w' ∧ Oc E6 2 κ' w' 5 ac ae s4.1 ∧ Oc Ep.bool 4 κ' w' 2 ab aa s4.2.2 ∧ x14.length = s4.2.2.length ∧ whileM (s_l1Beyond_b2 p0 p1 x24) k s4 = some q5) ⟨_, _, ⟨K25, ((x30 : (List Int)), (0 : Int), (s1.2 : (List Bool))), (subA af ad (0 : Int).toNat 1), (ad - (0 : Int).toNat), R, (Jx2 _ _).wk R, (f27.sub hx30), f28, hn29, hq36⟩, (KM R)⟩ ?_)
 rintro k _ w43 ⟨K44, s4, ac, ae, rfl, S45, f46, f47, hn48, h⟩
 rcases k with _ | k
 cases h
 obtain ⟨o34, h, hk49⟩ := BI h; unfold s_l1Beyond_b2 at h
 refine Jq (Je [2, 2, 2, 2, 1, 2, 2] R (Jn 3 R (Ob h fun x34 hx34 h => Jf R (Jf2 g0 hx34 U24 Z40 R R R R) ?_)))
 have f50 := g0.stp (S3.tr (S11.tr (S26.tr S45))) R R
 obtain ⟨ax34, ux34, f51, hl52⟩ := f50.gSl hx34
 refine Jl tv R R R R (Jc2 I40 R R (hvE hl52)) (Jf R (Je2 U40 R R) (Jb 1 R ?_))
 revert h
 cases ht53 : decide (s4.2.1 < (x34.length : Int))
 refine JF fun h => Jy R (Jc1 (Jt (Jt ?_)))
 cases h
 have h := hk49
 refine Jb1 ?_
 cases h
 exact Jw1 _ ⟨K44, ((s4.1 : (List Int)), (s4.2.1 : Int), (s4.2.2 : (List Bool))), ac, ae, R, S45.wk R, f46, f47, hn48, R⟩ (KM R)
 refine JT fun h => Jx R (Js (Jp (Jq (Jv (Je [2, 2, 2, 1, 2, 2, 1, 2] R (Jn 2 R (Ob h fun x42 hx42 h => Jf R (Jf2 f50 hx42 U24 Z40 R R R R) ?_)))))))
 obtain ⟨ax42, ux42, f54, hl55⟩ := f50.gSl hx42
 refine Jl tv R R R R (Jc2 I40 R R (hvE hl55)) (Jn 1 R (Ob h fun x45 hx45 h => Jf R (Jf2 f54 hx45 U40 Z2 R R R R) (Jl tv R R R R (Jc2 I2 R R (hvE (f54.gInt hx45))) (Jb 1 R (Je [2, 2, 2, 1, 2, 2, 2, 2, 1, 2, 2] R (Jn 2 R (Ob h fun x49 hx49 h => Jf R (Jf2 g1 hx49 U135 Z4 R R R R) (Jl tv R R R R (Jc2 I4 R R (hvE ((g1.stp (S3.tr (S11.tr (S26.tr S45))) R R).gBool hx49))) (Jn 1 R (Ob h fun p57 h hK57 => Ju1 [(5, 2), (6, 2), (7, 2), (8, 1), (9, 2), (10, 2)] [] (fun L w' => L = [(0, .slice a0 p0.length u0), (1, .slice a1 p1.length u1), (7, .slice ab x14.length aa), (8, .slice ac s4.1.length ae), (9, vi x24), (10, vi s4.2.1), (11, vi x45), (57, .bool p57)] ∧ ∃ κ', Stp [] K44 w43 κ' w') tv ?_ ?_))))))))))
 revert h
 cases ht58 : x49
 refine JF fun h => Jn 3 R (Jd1 R R R R (Jn 2 R ?_))
 cases h
 exact Jv1 _ tv ⟨R, _, (Jx2 _ _).wk R⟩ (KM R)
 refine JT fun h => Jn 2 R (Ob h fun x54 hx54 h => Jf R (Jf2 f47.rdc hx54 U135 Z4 R R hn48 R) (Jl tv R R R R (Jc2 I4 R R (hvE (f47.rdc.gBool hx54))) (Jn 2 R ?_)))
 cases h
 exact Jv1 _ tv ⟨R, _, (Jx2 _ _).wk R⟩ (KM R)
 rintro _ w59 _ ⟨rfl, K60, S61⟩
 have h := hK57
 refine Jd (Ob h fun q7 h hK62 => Jx1 (fun L w' => ∃ κ' ai ah, L = [(0, .slice a0 p0.length u0), (1, .slice a1 p1.length u1), (7, .slice ab x14.length aa), (8, .slice ai q7.1.length ah), (9, vi x24), (10, vi s4.2.1)] ∧ Stp [2, 5] K60 w59 κ' w' ∧ Oc E6 2 κ' w' 5 ai ah q7.1 ∧ Oc Ep.bool 4 κ' w' 2 ab aa q7.2 ∧ x14.length = q7.2.length) ?_ ?_)
 revert h
 cases ht69 : p57
 refine JF fun h => Jy R (Js ?_)
 cases h
 exact Jw1 _ ⟨K60, ac, ae, R, (Jx2 _ _).wk R, (f46.stp S61 R R), (f47.stp S61 R R), hn48⟩ (KM R)
 refine JT fun h => Jx R (Je [2, 2, 2, 1] R (Jn 2 R (Ob h fun x60 hx60 h => Jf R (Jf2 f47.rdc hx60 U135 Z4 R R hn48 R) (Ob h fun y144 hy144 h => Jk1 (κ := K60) (E := Ep.bool) 2 [] R R R R R R R R Z4 R R R R (f47.stp S61 R R) hy144 fun w71 K72 S73 f74 => ⟨tv, ?_⟩))))
 have hn75 : x14.length = y144.length := hn48.trans (Jt2 hy144).2.2.2.symm
 refine Jd (Ja [2, 2, 1, 1, 2] R (Jn 2 R (Jn1 (κ := K72) (E := E6) 6 [] (parts := [(0, .tmp 62)]) (cells := [vi x45]) (xs := ([x45] : List Int)) R R R R R R Y40 Tryzinfo2 R R R R R R R R R R ⟨[vi x45], [], Zl K72 w71 [], Zl K72 w71 [], R, Zl.sp (l1 := []) (l2 := []) R, Zl.sr (l1 := []) (l2 := []), R, R⟩ fun au ar w76 K77 S78 f79 => ⟨tv, Ob h fun x64 hx64 h => Jm1 (κ := K77) (E := E6) 5 [] R R R R R R R R R Y40 Tryzinfo2 R R R R (f46.stp (S61.tr (S73.tr S78)) R R) (Sl.srcP (pu_int _) f79.rdc) sy_false hx64 R fun ao ap w81 K82 S83 f84 => ⟨tv, Jc 1 R ?_⟩⟩)))
 cases h
 exact Jw1 _ ⟨K82, ao, ap, R, (S73.tr (S78.tr S83)).wk R, f84, (f74.stp (S78.tr S83) R R), hn75⟩ (KM R)
 rintro _ w63 ⟨K64, ai, ah, rfl, S65, f66, f67, hn68⟩
 have h := hK62
 refine Jz (Jp (Ja [2, 2, 2] R (Jc 3 R ?_)))
 cases h
 exact Jz1 fun a ha => ⟨k, _, Ja3 _, ⟨K64, ((q7.1 : (List Int)), ((IntKind.i64.wrap (s4.2.1 + 1)) : Int), (q7.2 : (List Bool))), ai, ah, R, (S45.tr (S61.tr S65)).wk R, f66, f67, hn68, hk49⟩, (ha.mm R)⟩
 rintro _ w37 ⟨K38, s6, ak, aj, rfl, S39, f40, f41, hn42, rfl⟩
 have h := hK35
 dsimp only [aft] at h
 refine Jz ?_
 cases h
 exact Jz1 fun a ha => ⟨k, _, Ja3 _, ⟨K38, ((s6.1 : (List Int)), (s6.2.2 : (List Bool))), ak, aj, R, (S26.tr S39).wk R, f40, f41, hn42, hk31⟩, (ha.mm R)⟩
 rintro _ w18 ⟨K19, s3, am, al, rfl, S20, f21, f22, hn23, rfl⟩
 have h := hK16
 dsimp only [aft] at h
 refine Jp (Je [2, 2] R (Jb 2 R (Ju (Ja2 (l := [.tmp 6]) V144 (Jp2 R R) R ?_))))
 cases h
 exact ⟨K19, ab, aa, (by simp only [hn23]), (hE.stp (S3.tr (S11.tr S20)) R R), f22⟩
theorem l_eqInt64SS_ok {w : World} {κ : Col} {a0 u0} {p0 : (List (List Int))} {a1 u1} {p1 : (List (List Int))} (g0 : Rd (Rp.sl (Rp.int .i64)) κ w 0 a0 u0 p0) (g1 : Rd (Rp.sl (Rp.int .i64)) κ w 0 a1 u1 p1) {r : Bool} (h : l_eqInt64SS p0 p1 = some r) : Ret Tryz.prog 54 [.slice a0 p0.length u0, .slice a1 p1.length u1] w (fun v w' => ∃ (κ' : Col), v = .bool r ∧ Ent κ w κ' w') := by
 unfold l_eqInt64SS at h
 refine Ret.enter F54 R N54 R ?_
 dsimp only [envOf]
 have hE := Ent.refl κ w
 refine Je [2] R (Jb 1 R (Jq (Je [2, 2, 2, 2, 2] R (Jn 1 R (Jf R (Je2 U24 R R) (Jn 1 R (Jf R (Je2 U24 R R) (Jb 1 R ?_))))))))
 revert h
 cases ht1 : ((p0.length : Int) != (p1.length : Int))
 refine JF fun h => Jy R (Js (Jp (Jq (Je [2] R (Jb 1 R ?_)))))
 have hN2 : (p0.length : Int) ≤ 9223372036854775807 := g0.len_le
 refine Ob h fun q2 hq4 hK3 => ?_
 clear h
 refine Jx1 (fun L w' => ∃ κ', L = [] ∧ Stp [] κ w κ' w' ∧ q2 = Sum.inr ()) ?_ ?_
 refine Jv (Jy1 (fun k L w' => ∃ κ' v5, L = [(0, .slice a0 p0.length u0), (1, .slice a1 p1.length u1), (5, vi v5)] ∧ Stp [] κ w κ' w' ∧ 0 ≤ v5 ∧ Int.toNat ((p0.length : Int) - v5) = k ∧ cntM (l_eqInt64SS_b0 p0 p1) k v5 () = some q2) ⟨_, _, ⟨κ, 0, R, (Jx2 _ _).wk R, (by decide), (by simp), hq4⟩, (KM R)⟩ ?_)
 rintro k _ w8 ⟨K9, v5, rfl, S10, hj2, hJ2, h⟩
 rcases k with _ | k
 have hk11 := h; obtain ⟨o2, h⟩ := ex_eq (Sum.inr (Sum.inl ()) : Bool ⊕ ((Unit) ⊕ (Unit)))
 have hc2 : decide (v5 < (p0.length : Int)) = false := Jo2 (by omega)
 refine Jq (Je [2, 2, 2, 2] R (Jn 2 R (Jf R (Je2 U24 R R) (Jb 1 R (Jw2 R hc2 (Jc1 (Jt (Jt ?_))))))))
 cases h
 have h := hk11
 refine Jb1 ?_
 cases h
 exact Jw1 _ ⟨K9, R, S10.wk R, R⟩ KN
 obtain ⟨o2, h, hk11⟩ := BI h; unfold l_eqInt64SS_b0 at h
 have hc2 : decide (v5 < (p0.length : Int)) = true := Jn2 (by omega)
 refine Jq (Je [2, 2, 2, 2] R (Jn 2 R (Jf R (Je2 U24 R R) (Jb 1 R (Jv2 R hc2 (Js (Jp (Jq (Jv (Jq (Js1 (κ := K9) [0] none [(0, 2), (1, 2), (2, 2), (4, 2), (5, 2), (6, 2), (3, 0), (7, 0), (8, 1), (9, 2)] [] (by kernel_rfl) (by kernel_rfl) fun w13 S12 => Jn 2 R (Ob h fun x19 hx19 h => Jf R (Jf2 g0 hx19 U24 Z40 R R R R) (Jn 2 R (Ob h fun x23 hx23 h => Jf R (Jf2 g1 hx23 U24 Z40 R R R R) ?_))))))))))))))
 obtain ⟨ax19, ux19, f15, hl16⟩ := (g0.stp (S10.tr S12) R R).gSl hx19
 refine Jg R (Jc2 I40 R R (hvC hl16 R)) ?_
 obtain ⟨ax23, ux23, f18, hl19⟩ := (g1.stp (S10.tr S12) R R).gSl hx23
 refine Jg R (Jc2 I40 R R (hvC hl19 R)) (Ob h fun x25 hx25 h => Jh R R R C20 (l_eqInt64S_ok (κ := fun b => mp [] 0 (K9 b)) (Jl2 f15 (mp [] 0) R R) (Jl2 f18 (mp [] 0) R R) hx25) ?_)
 rintro _ w20 ⟨k21, rfl, e22⟩
 obtain ⟨K23, S24, m25⟩ := Ji e22 2 R
 refine ⟨(S24.cl R), Jn 1 R (Jt1 (Jd ?_))⟩
 revert h
 cases ht27 : (!x25)
 refine JF fun h => Jy R (Js (Jz (Jp (Ja [2, 2, 2] R (Jc 3 R ?_)))))
 have hw2 : IntKind.wrap .i64 (v5 + 1) = v5 + 1 := wr1 hj2 (Jm2 hc2) hN2
 rw [hw2]
 have hc2 := Jm2 hc2
 cases h
 exact Jz1 fun a ha => ⟨k, _, Ja3 _, ⟨K23, v5 + 1, R, (S10.tr (S12.tr S24)).wk R, by omega, by omega, hk11⟩, (ha.mm R)⟩
 refine JT fun h => Jx R (Je [2] R (Jb 1 R (Ju (Ja1 (Jw (Jw ?_))))))
 cases h
 obtain rfl := Option.some.inj hk11
 have h := hK3
 dsimp only [aft] at h
 refine Ja1 (Jq2 (Jw (Ja2 (l := [.tmp 4]) V54 (Jp2 R R) R ?_)))
 cases h
 exact ⟨K23, R, (hE.stp (S10.tr (S12.tr S24)) R R)⟩
 rintro _ w5 ⟨K6, rfl, S7, rfl⟩
 have h := hK3
 dsimp only [aft] at h
 refine Jp (Je [2] R (Jb 1 R (Ju (Ja2 (l := [.tmp 4]) V54 (Jp2 R R) R ?_))))
 cases h
 exact ⟨K6, R, (hE.stp S7 R R)⟩
 refine JT fun h => Jx R (Je [2] R (Jb 1 R (Ju (Jw (Ja2 (l := [.tmp 4]) V54 (Jp2 R R) R ?_)))))
 cases h
 exact ⟨κ, R, hE⟩
theorem l_eqClause_ok {w : World} {κ : Col} {aa ah ab af} {p0 : Clause} {ac ai ae ad} {p1 : Clause} (g0_1 : Rd (Rp.int .i64) κ w 0 aa ah p0.A) (g0_2 : Rd (Rp.int .i64) κ w 0 ab af p0.B) (g1_1 : Rd (Rp.int .i64) κ w 0 ac ai p1.A) (g1_2 : Rd (Rp.int .i64) κ w 0 ae ad p1.B) {r : Bool} (h : l_eqClause p0 p1 = some r) : Ret Tryz.prog 55 [.agg #[vi p0.Kind, .slice aa p0.A.length ah, .slice ab p0.B.length af], .agg #[vi p1.Kind, .slice ac p1.A.length ai, .slice ae p1.B.length ad]] w (fun v w' => ∃ (κ' : Col), v = .bool r ∧ Ent κ w κ' w') := by
 unfold l_eqClause at h
 refine Ret.enter F55 R N55 R ?_
 dsimp only [envOf]
 have hE := Ent.refl κ w
 refine Je [1, 1, 2] R (Jf1 (κ := κ) 2 R R R R R R R fun b2 w1 K2 S3 f4 => ⟨tv, Jf1 (κ := K2) 3 R R R R R R R fun b3 w5 K6 S7 f8 => ⟨tv, Jb 1 R (Jq (Je [2, 1, 2, 1, 2] R (Jf R (Jb2 U71 R Z2 R R) ?_)))⟩⟩)
 have f9 := f4.stp S7 R R
 refine Jl tv R R R R (Jc2 I2 R R (hvE (f9.ld 0 R R))) (Jf R (Jb2 U71 R Z2 R R) (Jl tv R R R R (Jc2 I2 R R (hvE (f8.ld 0 R R))) (Jb 1 R ?_)))
 revert h
 cases ht10 : (p0.Kind != p1.Kind)
 refine JF fun h => Jy R (Js (Jp (Jq (Je [2, 1, 2, 1, 1, 2] R (Jf R (Jb2 U71 R Z40 R R) (Jl tv R R R R (Jc2 I40 R R (hvE (f9.ld 1 R R))) (Jf R (Jb2 U71 R Z40 R R) (Jl tv R R R R (Jc2 I40 R R (hvE (f8.ld 1 R R))) (Ob h fun x14 hx14 h => Jh R R R C20 (l_eqInt64S_ok (κ := fun b => mp [] 0 (K6 b)) (Jl2 (g0_1.stp (S3.tr S7) R R) (mp [] 0) R R) (Jl2 (g1_1.stp (S3.tr S7) R R) (mp [] 0) R R) hx14) ?_)))))))))
 rintro _ w14 ⟨k15, rfl, e16⟩
 obtain ⟨K17, S18, m19⟩ := Ji e16 4 R
 refine ⟨tv, Jb 1 R ?_⟩
 revert h
 cases ht21 : (!x14)
 refine JF fun h => Jy R (Js (Jp (Jq (Je [2, 1, 2, 1, 1, 2] R (Jf R (Jb2 U71 R Z40 R R) (Jl tv R R R R (Jc2 I40 R R (hvE ((f9.stp S18 R R).ld 2 R R))) (Jf R (Jb2 U71 R Z40 R R) (Jl tv R R R R (Jc2 I40 R R (hvE ((f8.stp S18 R R).ld 2 R R))) (Ob h fun x20 hx20 h => Jh R R R C20 (l_eqInt64S_ok (κ := fun b => mp [] 0 (K17 b)) (Jl2 (g0_2.stp (S3.tr (S7.tr S18)) R R) (mp [] 0) R R) (Jl2 (g1_2.stp (S3.tr (S7.tr S18)) R R) (mp [] 0) R R) hx20) ?_)))))))))
 rintro _ w27 ⟨k28, rfl, e29⟩
 obtain ⟨K30, S31, m32⟩ := Ji e29 6 R
 refine ⟨tv, Jb 1 R ?_⟩
 revert h
 cases ht34 : (!x20)
 refine JF fun h => Jy R (Js (Jp (Je [2] R (Jb 1 R (Ju (Ja2 (l := [.tmp 4]) V55 (Jp2 R R) R ?_))))))
 cases h
 exact ⟨K30, R, (hE.stp (S3.tr (S7.tr (S18.tr S31))) R R)⟩
 refine JT fun h => Jx R (Je [2] R (Jb 1 R (Ju (Jw (Ja2 (l := [.tmp 4]) V55 (Jp2 R R) R ?_)))))
 cases h
 exact ⟨K30, R, (hE.stp (S3.tr (S7.tr (S18.tr S31))) R R)⟩
 refine JT fun h => Jx R (Je [2] R (Jb 1 R (Ju (Jw (Ja2 (l := [.tmp 4]) V55 (Jp2 R R) R ?_)))))
 cases h
 exact ⟨K17, R, (hE.stp (S3.tr (S7.tr S18)) R R)⟩
 refine JT fun h => Jx R (Je [2] R (Jb 1 R (Ju (Jw (Ja2 (l := [.tmp 4]) V55 (Jp2 R R) R ?_)))))
 cases h
 exact ⟨K6, R, (hE.stp (S3.tr S7) R R)⟩
end Go.Proofs.YtcmamhmpoinmnaaGreat
