/- The walks, part 2. By program. -/
import Derived.Test.YtcmamhmpoinmnaaGreatFns0BA
set_option linter.unusedVariables false
set_option linter.unusedSimpArgs false
namespace Go.Proofs.YtcmamhmpoinmnaaGreat
open Go Go.Wk Go.Proofs
set_option maxRecDepth 100000
set_option maxHeartbeats 1000000
theorem l_toInt64SS_ok {w : World} {κ : Col} {a0 u0} {p0 : (List (List Int))} (g0 : Rd (Rp.sl (Rp.int .i64)) κ w 0 a0 u0 p0) {r : (List (List Int))} (h : l_toInt64SS p0 = some r) : Ret Tryz.prog 50 [.slice a0 p0.length u0] w (fun v w' => ∃ (κ' : Col) (ra0 : Option Addr) (ru0 : Nat), v = .slice ra0 r.length ru0 ∧ Ent κ w κ' w' ∧ Oc (Ep.own E6 2) 40 κ' w' 2 ra0 ru0 r) := by
 unfold l_toInt64SS at h
 refine Ret.enter F50 R N50 R ?_
 dsimp only [envOf]
 have hE := Ent.refl κ w
 refine Je [2] R (Jb 1 R (Je [2, 2, 1, 2] R (Jn 1 R (Jf R (Je2 U24 R R) (Ob h fun x7 hx7 h => Jl1 (κ := κ) (E := (Ep.own E6 2)) (z := (([] : List Int) : (List Int))) 2 R R R R R R R Y24 Tryzinfo40 R R R R R (fun _ _ _ => ⟨none, 0, R, Ow.nil⟩) (Ju2 hx7) fun a7 u7 w1 K2 S3 f4 => ⟨tv, Jb 1 R (Jq (Je [2] R (Jb 1 R ?_)))⟩)))))
 have hN5 : (p0.length : Int) ≤ 9223372036854775807 := g0.len_le
 refine Ob h fun q2 hq7 hK6 => ?_
 clear h
 refine Jx1 (fun L w' => ∃ κ', ∃ s3 : (List (List Int)), L = [(3, .slice a7 x7.length u7)] ∧ Stp [2, 5] K2 w1 κ' w' ∧ Oc (Ep.own E6 2) 40 κ' w' 2 a7 u7 s3 ∧ x7.length = s3.length ∧ q2 = Sum.inr s3) ?_ ?_
 refine Jv (Jy1 (fun k L w' => ∃ κ' v4, ∃ s1 : (List (List Int)), L = [(0, .slice a0 p0.length u0), (3, .slice a7 x7.length u7), (4, vi v4)] ∧ Stp [2, 5] K2 w1 κ' w' ∧ Oc (Ep.own E6 2) 40 κ' w' 2 a7 u7 s1 ∧ x7.length = s1.length ∧ 0 ≤ v4 ∧ Int.toNat ((p0.length : Int) - v4) = k ∧ cntM (l_toInt64SS_b0 p0) k v4 s1 = some q2) ⟨_, _, ⟨K2, 0, (x7 : (List (List Int))), R, (Jx2 _ _).wk R, f4, R, (by decide), (by simp), hq7⟩, (KM R)⟩ ?_)
 rintro k _ w13 ⟨K14, v4, s1, rfl, S15, f16, hn17, hj5, hJ5, h⟩
 rcases k with _ | k
 have hk18 := h; obtain ⟨o5, h⟩ := ex_eq (Sum.inr (Sum.inl s1) : (List (List Int)) ⊕ (((List (List Int))) ⊕ ((List (List Int)))))
 have hc5 : decide (v4 < (p0.length : Int)) = false := Jo2 (by omega)
 refine Jq (Je [2, 2, 2, 2] R (Jn 2 R (Jf R (Je2 U24 R R) (Jb 1 R (Jw2 R hc5 (Jc1 (Jt (Jt ?_))))))))
 cases h
 have h := hk18
 refine Jb1 ?_
 cases h
 exact Jw1 _ ⟨K14, (s1 : (List (List Int))), R, S15.wk R, f16, hn17, R⟩ (KM R)
 obtain ⟨o5, h, hk18⟩ := BI h; unfold l_toInt64SS_b0 at h
 have hc5 : decide (v4 < (p0.length : Int)) = true := Jn2 (by omega)
 refine Jq (Je [2, 2, 2, 2] R (Jn 2 R (Jf R (Je2 U24 R R) (Jb 1 R (Jv2 R hc5 (Js (Jp (Jq (Jv (Ja [2, 2, 2, 2, 2, 1, 1, 2, 1] R (Jn 4 R (Ob h fun x18 hx18 h => Jf R (Jf2 g0 hx18 U24 Z40 R R R R) ?_))))))))))))
 obtain ⟨ax18, ux18, f20, hl21⟩ := (g0.stp (S3.tr S15) R R).gSl hx18
 refine Jl tv R R R R (Jc2 I40 R R (hvE hl21)) (Ob h fun x20 hx20 h => Jh R R R C68 (l_toInt64S_ok (κ := fun b => mp [] 0 (K14 b)) (Jl2 f20 (mp [] 0) R R) hx20) ?_)
 rintro _ w22 ⟨k23, ab, aa, rfl, e24, f25⟩
 obtain ⟨K26, S27, m28⟩ := Ji e24 3 R
 refine ⟨tv, Ob h fun x21 hx21 h => Jf R (Jf2 f16.rdc hx21 U24 Z40 R R hn17 R) (Ob h fun y16 hy16 h => Jk1 (κ := K26) (E := (Ep.own E6 2)) 2 [5] R R R R R R R R Z40 R ⟨_, _, R, (f25.mx (no_int _) m28 R (R : 3 + 2 = 5))⟩ R R (f16.stp S27 R R) hy16 fun w32 K33 S34 f35 => ⟨tv, ?_⟩)⟩
 have hn36 : x7.length = y16.length := hn17.trans (Jt2 hy16).2.2.2.symm
 refine Jo (Jz (Jp (Ja [2, 2, 2] R (Jc 3 R ?_))))
 have hw5 : IntKind.wrap .i64 (v4 + 1) = v4 + 1 := wr1 hj5 (Jm2 hc5) hN5
 rw [hw5]
 have hc5 := Jm2 hc5
 cases h
 exact Jz1 fun a ha => ⟨k, _, Ja3 _, ⟨K33, v4 + 1, (y16 : (List (List Int))), R, (S15.tr (S27.tr S34)).wk R, f35, hn36, by omega, by omega, hk18⟩, (ha.mm R)⟩
 rintro _ w8 ⟨K9, s3, rfl, S10, f11, hn12, rfl⟩
 have h := hK6
 dsimp only [aft] at h
 refine Jp (Je [2, 2] R (Jb 2 R (Ju (Ja2 (l := [.tmp 2]) V50 (Jp2 R R) R ?_))))
 cases h
 exact ⟨K9, a7, u7, (by simp only [hn12]), (hE.stp (S3.tr S10) R R), f11⟩
theorem l_toClause_ok {w : World} {κ : Col} {ae ai af ah} {p0 : Clause} (g0_1 : Rd (Rp.int .i64) κ w 0 ae ai p0.A) (g0_2 : Rd (Rp.int .i64) κ w 0 af ah p0.B) {r : Clause} (h : l_toClause p0 = some r) : Ret Tryz.prog 51 [.agg #[vi p0.Kind, .slice ae p0.A.length ai, .slice af p0.B.length ah]] w (fun v w' => ∃ (κ' : Col) (ra0 : Option Addr) (ru0 : Nat) (ra1 : Option Addr) (ru1 : Nat), v = .agg #[vi r.Kind, .slice ra0 r.A.length ru0, .slice ra1 r.B.length ru1] ∧ Ent κ w κ' w' ∧ Oc E6 2 κ' w' 2 ra0 ru0 r.A ∧ Oc E6 2 κ' w' 3 ra1 ru1 r.B) := by
 unfold l_toClause at h
 refine Ret.enter F51 R N51 R ?_
 dsimp only [envOf]
 have hE := Ent.refl κ w
 refine Je [1, 1] R (Jf1 (κ := κ) 2 R R R R R R R fun b1 w1 K2 S3 f4 => ⟨tv, Jg1 (κ := K2) 3 R R R R R X71 R fun b2 w5 K6 S7 f8 => ⟨tv, Jd (Je [1] R (Jg1 (κ := K6) 4 R R R R R X71 R fun b3 w9 K10 S11 f12 => ⟨tv, Jd (Je [2, 1, 2, 1] R (Jf R (Jb2 U78 R Z2 R R) ?_))⟩))⟩⟩)
 have f13 := f4.stp (S7.tr S11) R R
 refine Jl tv R R R R (Jc2 I2 R R (hvE (f13.ld 0 R R))) (Jf R (Jb2 U71 R Z2 R R) (Ji1 (κ := K10) 4 (off := 0) (vc := [vi p0.Kind]) (cs' := [vi p0.Kind, .slice none 0 0, .slice none 0 0]) R R R R R R R Z2 R R f12 R R fun w14 S15 f16 => ⟨tv, Jd (Je [2, 1, 1, 2, 1] R (Jf R (Jb2 U78 R Z40 R R) ?_))⟩))
 have f17 := f13.stp S15 R R
 refine Jl tv R R R R (Jc2 I40 R R (hvE (f17.ld 1 R R))) (Ob h fun x9 hx9 h => Jh R R R C68 (l_toInt64S_ok (κ := fun b => mp [] 0 (K10 b)) (Jl2 (g0_1.stp (S3.tr (S7.tr (S11.tr S15))) R R) (mp [] 0) R R) hx9) ?_)
 rintro _ w19 ⟨k20, ab, aa, rfl, e21, f22⟩
 obtain ⟨K23, S24, m25⟩ := Ji e21 5 R
 refine ⟨tv, Jf R (Jb2 U71 R Z40 R R) (Ji1 (κ := K23) 4 (off := 1) (vc := [.slice ab x9.length aa]) (cs' := [vi p0.Kind, .slice ab x9.length aa, .slice none 0 0]) R R R R R R R Z40 R R (f16.stp S24 R R) R R fun w29 S30 f31 => ⟨tv, Jd (Je [2, 1, 1, 2, 1] R (Jf R (Jb2 U78 R Z40 R R) (Jl tv R R R R (Jc2 I40 R R (hvE ((f17.stp (S24.tr S30) R R).ld 2 R R))) (Ob h fun x13 hx13 h => Jh R R R C68 (l_toInt64S_ok (κ := fun b => mp [] 0 (K23 b)) (Jl2 (g0_2.stp (S3.tr (S7.tr (S11.tr (S15.tr (S24.tr S30))))) R R) (mp [] 0) R R) hx13) ?_))))⟩)⟩
 rintro _ w34 ⟨k35, ad, ac, rfl, e36, f37⟩
 obtain ⟨K38, S39, m40⟩ := Ji e36 8 R
 refine ⟨tv, Jf R (Jb2 U71 R Z40 R R) (Ji1 (κ := K38) 4 (off := 2) (vc := [.slice ad x13.length ac]) (cs' := [vi p0.Kind, .slice ab x9.length aa, .slice ad x13.length ac]) R R R R R R R Z40 R R (f31.stp S39 R R) R R fun w44 S45 f46 => ⟨tv, Jd (Je [1, 1] R (Jl tv R R R R (Jd2 (cs := [vi p0.Kind, .slice ab x9.length aa, .slice ad x13.length ac]) I71 Z71 R R R (haE f46.cells)) (Jj1 (κ := K38) 3 (vc := [vi p0.Kind, .slice ab x9.length aa, .slice ad x13.length ac]) R R R R R R R Z71 R R (f8.stp (S11.tr (S15.tr (S24.tr (S30.tr (S39.tr S45))))) R R) R fun w48 S49 f50 => ⟨tv, Jd (Ju (Ja2 (l := [.cell 2 71]) V51 (res_cellA R f50 I71 Z71 R R) R ?_))⟩)))⟩)⟩
 cases h
 exact ⟨(fun b => ren [(7, 2), (10, 3)] (K38 b)), ab, aa, ad, ac, R, ((hE.stp (S3.tr (S7.tr (S11.tr (S15.tr (S24.tr (S30.tr (S39.tr (S45.tr S49)))))))) R R).map (ren [(7, 2), (10, 3)]) R R), (((f22.mx (no_int _) m25 R (R : 5 + 2 = 7)).stp (S30.tr (S39.tr (S45.tr S49))) R R).map (ren [(7, 2), (10, 3)]) R R), (((f37.mx (no_int _) m40 R (R : 8 + 2 = 10)).stp (S45.tr S49) R R).map (ren [(7, 2), (10, 3)]) R R)⟩
theorem s_l23Below_ok {w : World} {κ : Col} {a0 u0} {p0 : (List Int)} {p1 : Int} (g0 : Rd (Rp.int .i64) κ w 0 a0 u0 p0) {r : Bool} (h : s_l23Below p0 p1 = some r) : Ret Tryz.prog 112 [.slice a0 p0.length u0, vi p1] w (fun v w' => ∃ (κ' : Col), v = .bool r ∧ Ent κ w κ' w') := by
 unfold s_l23Below at h
 refine Ret.enter F112 R N112 R ?_
 dsimp only [envOf]
 have hE := Ent.refl κ w
 refine Je [2] R (Jb 1 R (Jq (Je [2] R (Jb 1 R ?_))))
 have hN1 : (p0.length : Int) ≤ 9223372036854775807 := g0.len_le
 refine Ob h fun q2 hq3 hK2 => ?_
 clear h
 refine Jx1 (fun L w' => ∃ κ', L = [] ∧ Stp [] κ w κ' w' ∧ q2 = Sum.inr ()) ?_ ?_
 refine Jv (Jy1 (fun k L w' => ∃ κ' v5, L = [(0, .slice a0 p0.length u0), (1, vi p1), (5, vi v5)] ∧ Stp [] κ w κ' w' ∧ 0 ≤ v5 ∧ Int.toNat ((p0.length : Int) - v5) = k ∧ cntM (s_l23Below_b0 p0 p1) k v5 () = some q2) ⟨_, _, ⟨κ, 0, R, (Jx2 _ _).wk R, (by decide), (by simp), hq3⟩, (KM R)⟩ ?_)
 rintro k _ w7 ⟨K8, v5, rfl, S9, hj1, hJ1, h⟩
 rcases k with _ | k
 have hk10 := h; obtain ⟨o1, h⟩ := ex_eq (Sum.inr (Sum.inl ()) : Bool ⊕ ((Unit) ⊕ (Unit)))
 have hc1 : decide (v5 < (p0.length : Int)) = false := Jo2 (by omega)
 refine Jq (Je [2, 2, 2, 2] R (Jn 2 R (Jf R (Je2 U40 R R) (Jb 1 R (Jw2 R hc1 (Jc1 (Jt (Jt ?_))))))))
 cases h
 have h := hk10
 refine Jb1 ?_
 cases h
 exact Jw1 _ ⟨K8, R, S9.wk R, R⟩ KN
 obtain ⟨o1, h, hk10⟩ := BI h; unfold s_l23Below_b0 at h
 have hc1 : decide (v5 < (p0.length : Int)) = true := Jn2 (by omega)
 refine Jq (Je [2, 2, 2, 2] R (Jn 2 R (Jf R (Je2 U40 R R) (Jb 1 R (Jv2 R hc1 (Js (Jp (Jq (Jv (Je [2, 2, 2, 1, 2, 2, 1, 2] R (Jn 2 R (Ob h fun x14 hx14 h => Jf R (Jf2 g0 hx14 U40 Z2 R R R R) (Jl tv R R R R (Jc2 I2 R R (hvE ((g0.stp S9 R R).gInt hx14))) (Jn 2 R (Ob h fun x18 hx18 h => Jh R R R C77 (s_l1In_ok (κ := fun b => mp [] 0 (K8 b)) hx18) ?_)))))))))))))))
 rintro _ w12 ⟨k13, rfl, e14⟩
 obtain ⟨K15, S16, m17⟩ := Ji e14 2 R
 refine ⟨tv, Jb 1 R ?_⟩
 revert h
 cases ht19 : (!x18)
 refine JF fun h => Jy R (Js (Jz (Jp (Ja [2, 2, 2] R (Jc 3 R ?_)))))
 have hw1 : IntKind.wrap .i64 (v5 + 1) = v5 + 1 := wr1 hj1 (Jm2 hc1) hN1
 rw [hw1]
 have hc1 := Jm2 hc1
 cases h
 exact Jz1 fun a ha => ⟨k, _, Ja3 _, ⟨K15, v5 + 1, R, (S9.tr S16).wk R, by omega, by omega, hk10⟩, (ha.mm R)⟩
 refine JT fun h => Jx R (Je [2] R (Jb 1 R (Ju (Ja1 (Jw (Jw ?_))))))
 cases h
 obtain rfl := Option.some.inj hk10
 have h := hK2
 dsimp only [aft] at h
 refine Ja1 (Jq2 (Jw (Ja2 (l := [.tmp 4]) V112 (Jp2 R R) R ?_)))
 cases h
 exact ⟨K15, R, (hE.stp (S9.tr S16) R R)⟩
 rintro _ w4 ⟨K5, rfl, S6, rfl⟩
 have h := hK2
 dsimp only [aft] at h
 refine Jp (Je [2] R (Jb 1 R (Ju (Ja2 (l := [.tmp 4]) V112 (Jp2 R R) R ?_))))
 cases h
 exact ⟨K5, R, (hE.stp S6 R R)⟩
theorem s_l33Outputs_ok {w : World} {κ : Col} {p0 : Sig}  {r : Int} (h : s_l33Outputs p0 = some r) : Ret Tryz.prog 61 [.agg #[vi p0.In, vi p0.Out]] w (fun v w' => ∃ (κ' : Col), v = vi r ∧ Ent κ w κ' w') := by
 unfold s_l33Outputs at h
 refine Ret.enter F61 R N61 R ?_
 dsimp only [envOf]
 have hE := Ent.refl κ w
 refine Je [1, 2] R (Jf1 (κ := κ) 2 R R R R R R R fun b1 w1 K2 S3 f4 => ⟨tv, Jb 1 R (Je [2, 1, 1, 2] R (Jf R (Jb2 U31 R Z2 R R) (Jl tv R R R R (Jc2 I2 R R (hvE (f4.ld 1 R R))) (Ob h fun x5 hx5 h => Jh R R R C93 (s_l23Power_ok (κ := fun b => mp [] 0 (K2 b)) hx5) ?_))))⟩)
 rintro _ w5 ⟨k6, rfl, e7⟩
 obtain ⟨K8, S9, m10⟩ := Ji e7 3 R
 refine ⟨tv, Jb 1 R (Ju (Ja2 (l := [.tmp 2]) V61 (Jp2 R R) R ?_))⟩
 cases h
 exact ⟨K8, R, (hE.stp (S3.tr S9) R R)⟩
theorem s_l1Into_ok {w : World} {κ : Col} {a0 u0} {p0 : (List Int)} {p1 : Int} (g0 : Rd (Rp.int .i64) κ w 0 a0 u0 p0) {r : (List Int)} (h : s_l1Into p0 p1 = some r) : Ret Tryz.prog 64 [.slice a0 p0.length u0, vi p1] w (fun v w' => ∃ (κ' : Col) (ra0 : Option Addr) (ru0 : Nat), v = .slice ra0 r.length ru0 ∧ Ent κ w κ' w' ∧ Rd (Rp.int .i64) κ' w' 0 ra0 ru0 r) := by
 unfold s_l1Into at h
 refine Ret.enter F64 R N64 R ?_
 dsimp only [envOf]
 have hE := Ent.refl κ w
 refine Je [2] R (Jb 1 R (Je [2] R (Jb 1 R (Jq (Ob h fun q2 hq3 hK2 => ?_)))))
 clear h
 refine Jx1 (fun L w' => ∃ κ' s3, L = [(0, .slice a0 p0.length u0), (1, vi p1), (5, vi s3)] ∧ Stp [] κ w κ' w' ∧ q2 = Sum.inr s3) ?_ ?_
 refine Jv (Jy1 (fun k L w' => ∃ κ' s1, L = [(0, .slice a0 p0.length u0), (1, vi p1), (5, vi s1)] ∧ Stp [] κ w κ' w' ∧ whileM (s_l1Into_b0 p0 p1) k s1 = some q2) ⟨_, _, ⟨κ, (0 : Int), R, (Jx2 _ _).wk R, hq3⟩, (KM R)⟩ ?_)
 rintro k _ w7 ⟨K8, s1, rfl, S9, h⟩
 rcases k with _ | k
 cases h
 obtain ⟨o1, h, hk10⟩ := BI h; unfold s_l1Into_b0 at h
 refine Jq (Je [2, 2, 2, 2, 2, 2, 2, 2, 1, 2, 2, 2] R (Jn 2 R (Jf R (Je2 U40 R R) (Jn 2 R (Ob h fun p18 h hK11 => Ju1 [(5, 2), (6, 2), (7, 2), (8, 1), (9, 2), (10, 2), (11, 2)] [] (fun L w' => L = [(0, .slice a0 p0.length u0), (1, vi p1), (5, vi s1), (18, .bool p18)] ∧ ∃ κ', Stp [] K8 w7 κ' w') tv ?_ ?_)))))
 revert h
 cases ht12 : decide (s1 < (p0.length : Int))
 refine JF fun h => Jn 3 R (Jd1 R R R R (Jn 3 R ?_))
 cases h
 exact Jv1 _ tv ⟨R, _, (Jx2 _ _).wk R⟩ (KM R)
 refine JT fun h => Jn 2 R (Ob h fun x14 hx14 h => Jf R (Jf2 g0 hx14 U40 Z2 R R R R) (Jl tv R R R R (Jc2 I2 R R (hvE ((g0.stp S9 R R).gInt hx14))) (Jn 3 R ?_)))
 cases h
 exact Jv1 _ tv ⟨R, _, (Jx2 _ _).wk R⟩ (KM R)
 rintro _ w14 _ ⟨rfl, K15, S16⟩
 have h := hK11
 refine Jd ?_
 revert h
 cases ht17 : p18
 refine JF fun h => Jy R (Jc1 (Jt (Jt ?_)))
 cases h
 have h := hk10
 refine Jb1 ?_
 cases h
 exact Jw1 _ ⟨K15, (s1 : Int), R, (S9.tr S16).wk R, R⟩ (KM R)
 refine JT fun h => Jx R (Js (Jp (Jv (Ja [2, 2, 2] R (Jc 3 R (Jz ?_))))))
 cases h
 exact Jz1 fun a ha => ⟨k, _, Ja3 _, ⟨K15, ((IntKind.i64.wrap (s1 + 1)) : Int), R, (S9.tr S16).wk R, hk10⟩, (ha.mm R)⟩
 rintro _ w4 ⟨K5, s3, rfl, S6, rfl⟩
 have h := hK2
 dsimp only [aft] at h
 refine Jp (Jq (Je [2, 2, 2, 2, 2, 2, 2, 2, 1, 2, 2, 2] R (Jn 2 R (Jf R (Je2 U40 R R) (Jn 2 R (Ob h fun p32 h hK18 => Ju1 [(5, 2), (6, 2), (7, 2), (8, 1), (9, 2), (10, 2), (11, 2)] [] (fun L w' => L = [(0, .slice a0 p0.length u0), (1, vi p1), (5, vi s3), (32, .bool p32)] ∧ ∃ κ', Stp [] K5 w4 κ' w') tv ?_ ?_))))))
 revert h
 cases ht19 : decide (s3 < (p0.length : Int))
 refine JF fun h => Jn 3 R (Jd1 R R R R (Jn 3 R ?_))
 cases h
 exact Jv1 _ tv ⟨R, _, (Jx2 _ _).wk R⟩ (KM R)
 refine JT fun h => Jn 2 R (Ob h fun x28 hx28 h => Jf R (Jf2 g0 hx28 U40 Z2 R R R R) (Jl tv R R R R (Jc2 I2 R R (hvE ((g0.stp S6 R R).gInt hx28))) (Jn 3 R ?_)))
 cases h
 exact Jv1 _ tv ⟨R, _, (Jx2 _ _).wk R⟩ (KM R)
 rintro _ w21 _ ⟨rfl, K22, S23⟩
 have h := hK18
 refine Jd ?_
 revert h
 cases ht24 : p32
 refine JF fun h => Jy R (Js (Jp (Je [2, 2, 2, 1, 2, 1, 1, 2] R (Jn 2 R (Ob h fun x36 hx36 h => Jf R (rn_slice (k1 := .i64) (k2 := .i64) U40 Z2 (.inl ⟨R, R⟩) (.inr ⟨_, R, R⟩) hx36 g0.1 R R R) ?_)))))
 have f28 := g0.stp (S6.tr S23) R R
 refine Ob h fun x37 hx37 h => Jh R R R C88 (s_l1Copy_ok (κ := fun b => mp [] 0 (K22 b)) (Jl2 (f28.sub hx36) (mp [] 0) R R) hx37) ?_
 rintro _ w29 ⟨k30, ai, ac, rfl, e31, f32⟩
 obtain ⟨K33, S34, m35⟩ := Ji e31 2 R
 refine ⟨tv, Jn 1 R (Jn1 (κ := K33) (E := E6) 5 [] (parts := [(0, .tmp 38)]) (cells := [vi p1]) (xs := ([p1] : List Int)) R R R R R R Y40 Tryzinfo2 R R R R R R R R R R ⟨[vi p1], [], Zl K33 w29 [], Zl K33 w29 [], R, Zl.sp (l1 := []) (l2 := []) R, Zl.sr (l1 := []) (l2 := []), R, R⟩ fun af ad w38 K39 S40 f41 => ⟨tv, Ob h fun x40 hx40 h => Jm1 (κ := K39) (E := E6) 4 [] R R R R R R R R R Y40 Tryzinfo2 R R R R ((f32.mx (no_int _) m35 R (R : 2 + 2 = 4)).stp S40 R R) (Sl.srcP (pu_int _) f41.rdc) sy_false hx40 R fun ah ae w43 K44 S45 f46 => ⟨tv, Jb 1 R (Je [2, 2, 2, 2, 1, 2] R (Jn 3 R (Ob h fun x44 hx44 h => Jf R (rn_slice (k1 := .i64) (k2 := .i64) U40 Z2 (.inr ⟨_, R, R⟩) (.inl ⟨R, R⟩) hx44 f28.1 R R R) (Ob h fun x45 hx45 h => Jm1 (κ := K44) (E := E6) 4 [] R R R R R R R R R Y40 Tryzinfo2 R R R R f46 (Sl.srcP (pu_int _) ((f28.stp (S34.tr (S40.tr S45)) R R).sub hx44)) sy_false hx45 R fun ab aa w49 K50 S51 f52 => ⟨tv, Jb 1 R (Ju ?_)⟩))))⟩⟩)⟩
 obtain ⟨K53, S54, z55⟩ := fz_ex K50 w49 4
 refine Ja2 (l := [.tmp 4]) V64 (Jp2 R R) R ?_
 cases h
 exact ⟨K53, ab, aa, R, (hE.stp (S6.tr (S23.tr (S34.tr (S40.tr (S45.tr (S51.tr S54)))))) R R), (Sl.st z55 f52.rdc)⟩
 refine JT fun h => Jx R (Je [2, 2] R (Jb 2 R (Ju (Jw (Ja2 (l := [.tmp 4]) V64 (Jp2 R R) R ?_)))))
 cases h
 exact ⟨K22, a0, u0, R, (hE.stp (S6.tr S23) R R), (g0.stp (S6.tr S23) R R)⟩
theorem slices_IndexFunc_I_int64__i_areLetters_1_ok {w : World} {κ : Col} {a0 u0} {p0 : (List Int)} {c1_0 : Int} {b1_0} (g0 : Rd (Rp.int .i64) κ w 0 a0 u0 p0) (gb1_0 : Bc κ w 0 b1_0 2 [vi c1_0]) {r : Int} (h : slices_IndexFunc_I_int64__i_areLetters_1 p0 c1_0 = some r) : Ret Tryz.prog 169 [.slice a0 p0.length u0, .func (.func 149) #[] #[.pointer (some ⟨b1_0, 0, none⟩)]] w (fun v w' => ∃ (κ' : Col), v = vi r ∧ Ent κ w κ' w') := by
 unfold slices_IndexFunc_I_int64__i_areLetters_1 at h
 refine Ret.enter F169 R N169 R ?_
 dsimp only [envOf]
 have hE := Ent.refl κ w
 refine Je [2] R (Jb 1 R (Jq (Je [2, 2, 2] R (Jn 1 R (Jf R (Je2 U40 R R) (Jb 1 R ?_))))))
 have hN1 : (p0.length : Int) ≤ 9223372036854775807 := g0.len_le
 refine Ob h fun q2 hq3 hK2 => ?_
 clear h
 refine Jx1 (fun L w' => ∃ κ', L = [(1, .func (.func 149) #[] #[.pointer (some ⟨b1_0, 0, none⟩)])] ∧ Stp [] κ w κ' w' ∧ q2 = Sum.inr ()) ?_ ?_
 refine Jv (Jy1 (fun k L w' => ∃ κ' v8, L = [(0, .slice a0 p0.length u0), (1, .func (.func 149) #[] #[.pointer (some ⟨b1_0, 0, none⟩)]), (7, vi (p0.length : Int)), (8, vi v8)] ∧ Stp [] κ w κ' w' ∧ 0 ≤ v8 ∧ Int.toNat ((p0.length : Int) - v8) = k ∧ cntM (slices_IndexFunc_I_int64__i_areLetters_1_b0 p0 c1_0) k v8 () = some q2) ⟨_, _, ⟨κ, 0, R, (Jx2 _ _).wk R, (by decide), (by simp), hq3⟩, (KM R)⟩ ?_)
 rintro k _ w7 ⟨K8, v8, rfl, S9, hj1, hJ1, h⟩
 rcases k with _ | k
 have hk10 := h; obtain ⟨o1, h⟩ := ex_eq (Sum.inr (Sum.inl ()) : Int ⊕ ((Unit) ⊕ (Unit)))
 have hc1 : decide (v8 < (p0.length : Int)) = false := Jo2 (by omega)
 refine Je [2] R (Jb 1 R (Jq (Jw2 R hc1 (Jc1 (Jt (Jt ?_))))))
 cases h
 have h := hk10
 refine Jb1 ?_
 cases h
 exact Jw1 _ ⟨K8, R, S9.wk R, R⟩ (KM R)
 obtain ⟨o1, h, hk10⟩ := BI h; unfold slices_IndexFunc_I_int64__i_areLetters_1_b0 at h
 have hc1 : decide (v8 < (p0.length : Int)) = true := Jn2 (by omega)
 refine Je [2] R (Jb 1 R (Jq (Jv2 R hc1 (Js (Jp (Jq (Jv (Je [2, 2] R (Jb 2 R (Je [2, 2, 2, 2, 1, 1] R (Jn 3 R (Ob h fun x14 hx14 h => Jf R (Jf2 g0 hx14 U40 Z2 R R R R) (Jl tv R R R R (Jc2 I2 R R (hvE ((g0.stp S9 R R).gInt hx14))) (Ob h fun x16 hx16 h => WO.callV R R R R R R R R C149 (i_areLetters_1_ok (κ := fun b => mp [] 0 (K8 b)) ((gb1_0.stp S9 R R).map (mp [] 0) R R) hx16) ?_))))))))))))))
 rintro _ w13 ⟨k14, rfl, e15⟩
 obtain ⟨K16, S17, m18⟩ := Ji e15 2 R
 refine ⟨tv, Jd ?_⟩
 revert h
 cases ht20 : x16
 refine JF fun h => Jy R (Js (Jz (Jp (Ja [2, 2] R (Jc 2 R ?_)))))
 have hw1 : IntKind.wrap .i64 (v8 + 1) = v8 + 1 := wr1 hj1 (Jm2 hc1) hN1
 rw [hw1]
 have hc1 := Jm2 hc1
 cases h
 exact Jz1 fun a ha => ⟨k, _, Ja3 _, ⟨K16, v8 + 1, R, (S9.tr S17).wk R, by omega, by omega, hk10⟩, (ha.mm R)⟩
 refine JT fun h => Jx R (Je [2, 2] R (Jb 2 R (Ju (Ja1 (Jw (Jw ?_))))))
 cases h
 obtain rfl := Option.some.inj hk10
 have h := hK2
 dsimp only [aft] at h
 refine Ja1 (Jq2 (Jw (Ja2 (l := [.tmp 4]) V169 (Jp2 R R) R ?_)))
 cases h
 exact ⟨K16, R, (hE.stp (S9.tr S17) R R)⟩
 rintro _ w4 ⟨K5, rfl, S6, rfl⟩
 have h := hK2
 dsimp only [aft] at h
 refine Jp (Je [2] R (Jb 1 R (Ju (Ja2 (l := [.tmp 4]) V169 (Jp2 R R) R ?_))))
 cases h
 exact ⟨K5, R, (hE.stp S6 R R)⟩
theorem i_isClause_ok {w : World} {κ : Col} {p0 : Sig} {ab ac ad aa} {p1 : Clause} (g1_1 : Rd (Rp.int .i64) κ w 0 ab ac p1.A) (g1_2 : Rd (Rp.int .i64) κ w 0 ad aa p1.B) {r : Bool} (h : i_isClause p0 p1 = some r) : Ret Tryz.prog 129 [.agg #[vi p0.In, vi p0.Out], .agg #[vi p1.Kind, .slice ab p1.A.length ac, .slice ad p1.B.length aa]] w (fun v w' => ∃ (κ' : Col), v = .bool r ∧ Ent κ w κ' w') := by
 unfold i_isClause at h
 refine Ret.enter F129 R N129 R ?_
 dsimp only [envOf]
 have hE := Ent.refl κ w
 refine Je [1, 1, 2] R (Jf1 (κ := κ) 2 R R R R R R R fun b2 w1 K2 S3 f4 => ⟨tv, Jf1 (κ := K2) 3 R R R R R R R fun b3 w5 K6 S7 f8 => ⟨tv, Jb 1 R (Jq (Jq (Js1 (κ := K6) [2, 3] none [(0, 2), (1, 0), (2, 2), (3, 2), (4, 2), (5, 0), (6, 2), (7, 2), (8, 2), (9, 2), (10, 0), (11, 0), (12, 1), (13, 1), (14, 2), (15, 2), (16, 2), (17, 2), (18, 0), (19, 0), (20, 1), (21, 1), (22, 2), (23, 2)] [] (by kernel_rfl) (by kernel_rfl) fun w10 S9 => Jf R (Jb2 U71 R Z2 R R) ?_)))⟩⟩)
 have f11 := f8.stp S9 R R
 refine Jg R (Jc2 I2 R R (hvC (f11.ld 0 R R) R)) (Jn 2 R (Ob h fun p12 h hK12 => Ju1 [(4, 2), (5, 0), (6, 2), (7, 2)] [(8, 2), (9, 2), (10, 0), (11, 0), (12, 1), (13, 1), (14, 2), (15, 2), (16, 2), (17, 2), (18, 0), (19, 0), (20, 1), (21, 1), (22, 2), (23, 2)] (fun L w' => L = [(2, .pointer (some ⟨b2, 0, none⟩)), (3, .pointer (some ⟨b3, 0, none⟩)), (12, .bool p12)] ∧ ∃ κ', Stp [] K6 w10 κ' w') (Cl.refl _ _ _) ?_ ?_))
 revert h
 cases ht13 : decide (p1.Kind < 1)
 refine JF fun h => Jf R (Jb2 U71 R Z2 R R) (Jg R (Jc2 I2 R R (hvC (f11.ld 0 R R) R)) (Jn 2 R ?_))
 cases h
 exact Jv1 _ (Cl.refl _ _ _) ⟨R, _, (Jx2 _ _).wk R⟩ (KM R)
 refine JT fun h => Jn 1 R (Je1 R R R R (Jn 2 R ?_))
 cases h
 exact Jv1 _ (Cl.refl _ _ _) ⟨R, _, (Jx2 _ _).wk R⟩ (KM R)
 rintro _ w14 _ ⟨rfl, K15, S16⟩
 have h := hK12
 refine Jn 1 R (Ob h fun p20 h hK17 => Ju1 [(9, 2), (10, 0), (11, 0), (12, 1), (13, 1), (14, 2), (15, 2)] [(16, 2), (17, 2), (18, 0), (19, 0), (20, 1), (21, 1), (22, 2), (23, 2)] (fun L w' => L = [(2, .pointer (some ⟨b2, 0, none⟩)), (3, .pointer (some ⟨b3, 0, none⟩)), (20, .bool p20)] ∧ ∃ κ', Stp [] K15 w14 κ' w') (S16.cl R) ?_ ?_)
 revert h
 cases ht18 : p12
 refine JF fun h => Jf R (Jb2 U71 R Z40 R R) (Jg R (Jc2 I40 R R (hvC (f11.ld 1 R R) R)) (Jg R (Jd2 (cs := [vi p0.In, vi p0.Out]) I31 Z31 R R R (haC (f4.stp (S7.tr S9) R R).cells R)) (Ob h fun x17 hx17 h => Jh R R R C119 (i_lettersOf_ok (κ := fun b => mp [] 0 (K15 b)) (p0 := p0) hx17) ?_)))
 rintro _ w20 ⟨k21, rfl, e22⟩
 obtain ⟨K23, S24, m25⟩ := Ji e22 4 R
 refine ⟨((S16.tr S24).cl R), Ob h fun x18 hx18 h => Jh R R R C160 (i_isSet_ok (κ := fun b => mp [] 0 (K23 b)) (Jl2 (g1_1.stp (S3.tr (S7.tr (S9.tr (S16.tr S24)))) R R) (mp [] 0) R R) hx18) ?_⟩
 rintro _ w28 ⟨k29, rfl, e30⟩
 obtain ⟨K31, S32, m33⟩ := Ji e30 6 R
 refine ⟨((S16.tr (S24.tr S32)).cl R), Jn 2 R ?_⟩
 cases h
 exact Jv1 _ ((S16.tr (S24.tr S32)).cl R) ⟨R, _, (S24.tr S32).wk R⟩ (KM R)
 refine JT fun h => Jn 1 R (Je1 R R R R (Je1 R R R R (Jd1 R R R R (Jd1 R R R R (Jn 2 R ?_)))))
 cases h
 exact Jv1 _ (S16.cl R) ⟨R, _, (Jx2 _ _).wk R⟩ (KM R)
 rintro _ w35 _ ⟨rfl, K36, S37⟩
 have h := hK17
 refine Jn 1 R (Ob h fun p28 h hK38 => Ju1 [(17, 2), (18, 0), (19, 0), (20, 1), (21, 1), (22, 2), (23, 2)] [] (fun L w' => L = [(3, .pointer (some ⟨b3, 0, none⟩)), (28, .bool p28)] ∧ ∃ κ', Stp [] K36 w35 κ' w') ((S16.tr S37).cl R) ?_ ?_)
 revert h
 cases ht39 : p20
 refine JF fun h => Jf R (Jb2 U71 R Z40 R R) (Jg R (Jc2 I40 R R (hvC (f11.ld 2 R R) R)) (Jg R (Jd2 (cs := [vi p0.In, vi p0.Out]) I31 Z31 R R R (haC (f4.stp (S7.tr S9) R R).cells R)) (Ob h fun x25 hx25 h => Jh R R R C119 (i_lettersOf_ok (κ := fun b => mp [] 0 (K36 b)) (p0 := p0) hx25) ?_)))
 rintro _ w41 ⟨k42, rfl, e43⟩
 obtain ⟨K44, S45, m46⟩ := Ji e43 4 R
 refine ⟨((S16.tr (S37.tr S45)).cl R), Ob h fun x26 hx26 h => Jh R R R C160 (i_isSet_ok (κ := fun b => mp [] 0 (K44 b)) (Jl2 (g1_2.stp (S3.tr (S7.tr (S9.tr (S16.tr (S37.tr S45))))) R R) (mp [] 0) R R) hx26) ?_⟩
 rintro _ w49 ⟨k50, rfl, e51⟩
 obtain ⟨K52, S53, m54⟩ := Ji e51 6 R
 refine ⟨((S16.tr (S37.tr (S45.tr S53))).cl R), Jn 2 R ?_⟩
 cases h
 exact Jv1 _ ((S16.tr (S37.tr (S45.tr S53))).cl R) ⟨R, _, (S45.tr S53).wk R⟩ (KM R)
 refine JT fun h => Jn 1 R (Je1 R R R R (Je1 R R R R (Jd1 R R R R (Jd1 R R R R (Jn 2 R ?_)))))
 cases h
 exact Jv1 _ ((S16.tr S37).cl R) ⟨R, _, (Jx2 _ _).wk R⟩ (KM R)
 rintro _ w56 _ ⟨rfl, K57, S58⟩
 have h := hK38
 refine Jt1 (Jd ?_)
 revert h
 cases ht59 : p28
 refine JF fun h => Jy R (Js (Jp (Je [2, 1, 1, 2, 2, 1, 2, 2, 2, 2] R (Jf R (Jb2 U71 R Z2 R R) ?_))))
 have f61 := f11.stp (S16.tr (S37.tr S58)) R R
 refine Jl tv R R R R (Jc2 I2 R R (hvE (f61.ld 0 R R))) (Ob h fun x31 hx31 h => Jh R R R C161 (i_hasSecond_ok (κ := fun b => mp [] 0 (K57 b)) hx31) ?_)
 rintro _ w62 ⟨k63, rfl, e64⟩
 obtain ⟨K65, S66, m67⟩ := Ji e64 4 R
 refine ⟨tv, Jn 1 R (Ob h fun p37 h hK69 => Ju1 [(4, 2), (5, 1), (6, 2), (7, 2), (8, 2)] [(9, 2)] (fun L w' => L = [(37, .bool p37)] ∧ ∃ κ', Stp [] K65 w62 κ' w') tv ?_ ?_)⟩
 revert h
 cases ht70 : x31
 refine JF fun h => Jf R (Jb2 U71 R Z40 R R) (Jl tv R R R R (Jc2 I40 R R (hvE ((f61.stp S66 R R).ld 2 R R))) (Jf R (Je2 U40 R R) (Jn 2 R ?_)))
 cases h
 exact Jv1 _ tv ⟨R, _, (Jx2 _ _).wk R⟩ (KM R)
 refine JT fun h => Jn 1 R (Jd1 R R R R (Jn 3 R ?_))
 cases h
 exact Jv1 _ tv ⟨R, _, (Jx2 _ _).wk R⟩ (KM R)
 rintro _ w72 _ ⟨rfl, K73, S74⟩
 have h := hK69
 refine Jb 1 R (Ju (Ja2 (l := [.tmp 4]) V129 (Jp2 R R) R ?_))
 cases h
 exact ⟨K73, R, (hE.stp (S3.tr (S7.tr (S9.tr (S16.tr (S37.tr (S58.tr (S66.tr S74))))))) R R)⟩
 refine JT fun h => Jx R (Je [2] R (Jb 1 R (Ju (Jw (Ja2 (l := [.tmp 4]) V129 (Jp2 R R) R ?_)))))
 cases h
 exact ⟨K57, R, (hE.stp (S3.tr (S7.tr (S9.tr (S16.tr (S37.tr S58))))) R R)⟩
theorem slices_Contains_I_int64_ok {w : World} {κ : Col} {a0 u0} {p0 : (List Int)} {p1 : Int} (g0 : Rd (Rp.int .i64) κ w 0 a0 u0 p0) {r : Bool} (h : slices_Contains_I_int64 p0 p1 = some r) : Ret Tryz.prog 73 [.slice a0 p0.length u0, vi p1] w (fun v w' => ∃ (κ' : Col), v = .bool r ∧ Ent κ w κ' w') := by
 unfold slices_Contains_I_int64 at h
 refine Ret.enter F73 R N73 R ?_
 dsimp only [envOf]
 have hE := Ent.refl κ w
 refine Je [2] R (Jb 1 R (Je [2, 2, 1, 2, 2] R (Jn 2 R (Ob h fun x7 hx7 h => Jh R R R C122 (slices_Index_I_int64_ok (κ := fun b => mp [] 0 (κ b)) (Jl2 g0 (mp [] 0) R R) hx7) ?_))))
 rintro _ w1 ⟨k2, rfl, e3⟩
 obtain ⟨K4, S5, m6⟩ := Ji e3 2 R
 refine ⟨tv, Jb 2 R (Ju (Ja2 (l := [.tmp 4]) V73 (Jp2 R R) R ?_))⟩
 cases h
 exact ⟨K4, R, (hE.stp S5 R R)⟩
theorem i_loopsIn_1__i_loopsIn_2__i_loopsIn_1_ok (n : Nat) : ∀ {w : World} {κ : Col} {p0 : Int} {a1 u1} {p1 : (List (List Int))} {aa ac} {c2_0 : (List Int)} {a3 u3} {c0 : (List Bool)} {a4 u4} {c1 : (List Bool)} {b2_0 b3 b4 b5} (g1 : Rd (Rp.sl (Rp.int .i64)) κ w 0 a1 u1 p1) (g2_0 : Oc E6 2 κ w 2 aa ac c2_0) (g3 : Oc Ep.bool 4 κ w 3 a3 u3 c0) (g4 : Rd Rp.bool κ w 0 a4 u4 c1) (gb2_0 : Bc κ w 4 b2_0 40 [.slice aa c2_0.length ac]) (gb3 : Bc κ w 0 b3 135 [.slice a3 c0.length u3]) (gb4 : Bc κ w 0 b4 135 [.slice a4 c1.length u4]) (gb5 : Bc κ w 0 b5 173 [.func (.func 152) #[] #[.pointer (some ⟨b3, 0, none⟩), .pointer (some ⟨b4, 0, none⟩), .pointer (some ⟨b5, 0, none⟩)]]) {r : (List Int) × (List Bool)} (h : i_loopsIn_1__i_loopsIn_2__i_loopsIn_1 n p0 p1 c2_0 c0 c1 = some r), Ret Tryz.prog 152 [vi p0, .slice a1 p1.length u1, .func (.func 153) #[] #[.pointer (some ⟨b2_0, 0, none⟩)], .pointer (some ⟨b3, 0, none⟩), .pointer (some ⟨b4, 0, none⟩), .pointer (some ⟨b5, 0, none⟩)] w (fun v w' => ∃ (κ' : Col) (ma0 : Option Addr) (mu0 : Nat), v = .tuple #[] ∧ Ent κ w κ' w' ∧ Oc E6 2 κ' w' 2 ma0 mu0 r.1 ∧ Oc Ep.bool 4 κ' w' 3 a3 u3 r.2 ∧ c0.length = r.2.length ∧ Bc κ' w' 4 b2_0 40 [.slice ma0 r.1.length mu0]) := by
 induction n with
 | zero =>
  intro w κ p0 a1 u1 p1 aa ac c2_0 a3 u3 c0 a4 u4 c1 b2_0 b3 b4 b5 g1 g2_0 g3 g4 gb2_0 gb3 gb4 gb5 r h
  cases h
 | succ n ih =>
  intro w κ p0 a1 u1 p1 aa ac c2_0 a3 u3 c0 a4 u4 c1 b2_0 b3 b4 b5 g1 g2_0 g3 g4 gb2_0 gb3 gb4 gb5 r h
  have h : i_loopsIn_1__i_loopsIn_2__i_loopsIn_1_s (i_loopsIn_1__i_loopsIn_2__i_loopsIn_1 n) p0 p1 c2_0 c0 c1 = some r := h
  unfold i_loopsIn_1__i_loopsIn_2__i_loopsIn_1_s at h
  refine Ret.enter F152 R N152 R ?_
  dsimp only [envOf]
  have hE := Ent.refl κ w
  refine Je [1, 2, 2, 1] R (Jl tv R R R R (Jc2 I135 R R (hvE (gb3.ld 0 R R))) (Jn 1 R (Ob h fun x13 hx13 h => Jf R (Jf2 g3.rdc hx13 U135 Z4 R R R R) (Ob h fun y264 hy264 h => Jk1 (κ := κ) (E := Ep.bool) 3 [] R R R R R R R R Z4 R R R R g3 hy264 fun w1 K2 S3 f4 => ⟨tv, ?_⟩))))
  have hn5 : c0.length = y264.length := (Jt2 hy264).2.2.2.symm
  refine Jd (Jq (Je [2, 2, 2, 1, 2, 2] R (Jn 2 R (Ob h fun x16 hx16 h => Jf R (Jf2 g1 hx16 U24 Z40 R R R R) ?_))))
  have f6 := g1.stp S3 R R
  obtain ⟨ax16, ux16, f7, hl8⟩ := f6.gSl hx16
  refine Jl tv R R R R (Jc2 I40 R R (hvE hl8)) (Jf R (Je2 U40 R R) (Jb 1 R ?_))
  have hN9 : (x16.length : Int) ≤ 9223372036854775807 := f7.len_le
  refine Ob h fun q2 hq11 hK10 => ?_
  clear h
  refine Jx1 (fun L w' => ∃ κ', ∃ s3 : (List Int) × (List Bool), ∃ ai ah, L = [(0, vi p0), (2, .func (.func 153) #[] #[.pointer (some ⟨b2_0, 0, none⟩)]), (3, .pointer (some ⟨b3, 0, none⟩)), (4, .pointer (some ⟨b4, 0, none⟩)), (5, .pointer (some ⟨b5, 0, none⟩))] ∧ Stp [2, 3, 4, 7, 8, 9] K2 w1 κ' w' ∧ Oc E6 2 κ' w' 2 ai ah s3.1 ∧ Oc Ep.bool 4 κ' w' 3 a3 u3 s3.2 ∧ c0.length = s3.2.length ∧ Bc κ' w' 4 b2_0 40 [.slice ai s3.1.length ah] ∧ q2 = Sum.inr s3) ?_ ?_
  refine Jv (Jy1 (fun k L w' => ∃ κ' v19, ∃ s1 : (List Int) × (List Bool), ∃ ab ad, L = [(0, vi p0), (1, .slice a1 p1.length u1), (2, .func (.func 153) #[] #[.pointer (some ⟨b2_0, 0, none⟩)]), (3, .pointer (some ⟨b3, 0, none⟩)), (4, .pointer (some ⟨b4, 0, none⟩)), (5, .pointer (some ⟨b5, 0, none⟩)), (17, .slice ax16 x16.length ux16), (18, vi (x16.length : Int)), (19, vi v19)] ∧ Stp [2, 3, 4, 7, 8, 9] K2 w1 κ' w' ∧ Oc E6 2 κ' w' 2 ab ad s1.1 ∧ Oc Ep.bool 4 κ' w' 3 a3 u3 s1.2 ∧ c0.length = s1.2.length ∧ Bc κ' w' 4 b2_0 40 [.slice ab s1.1.length ad] ∧ 0 ≤ v19 ∧ Int.toNat ((x16.length : Int) - v19) = k ∧ cntM (i_loopsIn_1__i_loopsIn_2__i_loopsIn_1_b0 (i_loopsIn_1__i_loopsIn_2__i_loopsIn_1 n) p1 c1 x16) k v19 s1 = some q2) ⟨_, _, ⟨K2, 0, ((c2_0 : (List Int)), (y264 : (List Bool))), aa, ac, R, (Jx2 _ _).wk R, (g2_0.stp S3 R R), f4, hn5, (gb2_0.stp S3 R R), (by decide), (by simp), hq11⟩, (KM R)⟩ ?_)
  rintro k _ w19 ⟨K20, v19, s1, ab, ad, rfl, S21, f22, f23, hn24, f25, hj9, hJ9, h⟩
  rcases k with _ | k
  have hk28 := h; obtain ⟨o9, h⟩ := ex_eq (Sum.inr (Sum.inl s1) : ((List Int) × (List Bool)) ⊕ (((List Int) × (List Bool)) ⊕ ((List Int) × (List Bool))))
  have hc9 : decide (v19 < (x16.length : Int)) = false := Jo2 (by omega)
  refine Je [2] R (Jb 1 R (Jq (Jw2 R hc9 (Jc1 (Jt (Jt ?_))))))
  cases h
  have h := hk28
  refine Jb1 ?_
  cases h
  exact Jw1 _ ⟨K20, ((s1.1 : (List Int)), (s1.2 : (List Bool))), ab, ad, R, S21.wk R, f22, f23, hn24, f25, R⟩ (KM R)
  obtain ⟨o9, h, hk28⟩ := BI h; unfold i_loopsIn_1__i_loopsIn_2__i_loopsIn_1_b0 at h
  have hc9 : decide (v19 < (x16.length : Int)) = true := Jn2 (by omega)
  refine Je [2] R (Jb 1 R (Jq (Jv2 R hc9 (Js (Jp (Jq (Jv (Je [2, 1, 2] R (Ob h fun x21 hx21 h => Jf R (Jf2 f7 hx21 U40 Z2 R R R R) (Jl tv R R R R (Jc2 I2 R R (hvE ((f7.stp S21 R R).gInt hx21))) (Jb 1 R (Je [1, 2, 2, 1, 2, 1, 2, 2, 1, 2, 2] R ?_))))))))))))
  have f30 := gb4.stp (S3.tr S21) R R
  refine Jl tv R R R R (Jc2 I135 R R (hvE (f30.ld 0 R R))) (Jn 1 R (Ob h fun x25 hx25 h => Jf R (Jf2 g4 hx25 U135 Z4 R R R R) ?_))
  have f31 := g4.stp (S3.tr S21) R R
  refine Jl tv R R R R (Jc2 I4 R R (hvE (f31.gBool hx25))) (Jn 1 R (Ob h fun p33 h hK32 => Ju1 [(5, 1), (6, 2), (7, 2), (8, 1), (9, 2), (10, 2)] [] (fun L w' => L = [(0, vi p0), (1, .slice a1 p1.length u1), (2, .func (.func 153) #[] #[.pointer (some ⟨b2_0, 0, none⟩)]), (3, .pointer (some ⟨b3, 0, none⟩)), (4, .pointer (some ⟨b4, 0, none⟩)), (5, .pointer (some ⟨b5, 0, none⟩)), (10, vi x21), (17, .slice ax16 x16.length ux16), (18, vi (x16.length : Int)), (19, vi v19), (33, .bool p33)] ∧ ∃ κ', Stp [] K20 w19 κ' w') tv ?_ ?_))
  revert h
  cases ht33 : x25
  refine JF fun h => Jd1 R R R R (Jn 2 R (Jd1 R R R R (Jn 2 R ?_)))
  cases h
  exact Jv1 _ tv ⟨R, _, (Jx2 _ _).wk R⟩ (KM R)
  refine JT fun h => Jl tv R R R R (Jc2 I135 R R (hvE ((gb3.stp (S3.tr S21) R R).ld 0 R R))) (Jn 1 R (Ob h fun x30 hx30 h => Jf R (Jf2 f23.rdc hx30 U135 Z4 R R hn24 R) (Jl tv R R R R (Jc2 I4 R R (hvE (f23.rdc.gBool hx30))) (Jn 2 R ?_))))
  cases h
  exact Jv1 _ tv ⟨R, _, (Jx2 _ _).wk R⟩ (KM R)
  rintro _ w35 _ ⟨rfl, K36, S37⟩
  have h := hK32
  refine Jd (Ob h fun q4 h hK38 => Jx1 (fun L w' => ∃ κ' af ae, L = [(0, vi p0), (1, .slice a1 p1.length u1), (2, .func (.func 153) #[] #[.pointer (some ⟨b2_0, 0, none⟩)]), (3, .pointer (some ⟨b3, 0, none⟩)), (4, .pointer (some ⟨b4, 0, none⟩)), (5, .pointer (some ⟨b5, 0, none⟩)), (17, .slice ax16 x16.length ux16), (18, vi (x16.length : Int)), (19, vi v19)] ∧ Stp [2, 3, 4, 7, 8, 9] K36 w35 κ' w' ∧ Oc E6 2 κ' w' 2 af ae q4.1 ∧ Oc Ep.bool 4 κ' w' 3 a3 u3 q4.2 ∧ c0.length = q4.2.length ∧ Bc κ' w' 4 b2_0 40 [.slice af q4.1.length ae]) ?_ ?_)
  revert h
  cases ht46 : p33
  refine JF fun h => Jy R (Js ?_)
  cases h
  exact Jw1 _ ⟨K36, ab, ad, R, (Jx2 _ _).wk R, (f22.stp S37 R R), (f23.stp S37 R R), hn24, (f25.stp S37 R R)⟩ (KM R)
  refine JT fun h => Jx R (Ja [1, 2, 2, 2, 1] R ?_)
  have f47 := gb5.stp (S3.tr (S21.tr S37)) R R
  refine Jl tv R R R R (Jc2 I173 R R (hvE (f47.ld 0 R R))) (Jn 3 R (Ob h fun x38 hx38 h => WO.callV R R R R R R R R C152 (ih (κ := fun b => mp [(2, 2), (3, 3), (4, 4)] 0 (K36 b)) (Jl2 (f6.stp (S21.tr S37) R R) (mp [(2, 2), (3, 3), (4, 4)] 0) R R) ((f22.stp S37 R R).map (mp [(2, 2), (3, 3), (4, 4)] 0) R R) ((f23.stp S37 R R).map (mp [(2, 2), (3, 3), (4, 4)] 0) R R) (Jl2 (f31.stp S37 R R) (mp [(2, 2), (3, 3), (4, 4)] 0) R R) ((f25.stp S37 R R).map (mp [(2, 2), (3, 3), (4, 4)] 0) R R) (Bc.cast ((gb3.stp (S3.tr (S21.tr S37)) R R).map (mp [(2, 2), (3, 3), (4, 4)] 0) R R) (by simp only [hn24])) ((f30.stp S37 R R).map (mp [(2, 2), (3, 3), (4, 4)] 0) R R) (f47.map (mp [(2, 2), (3, 3), (4, 4)] 0) R R) hx38) ?_))
  rintro _ w55 ⟨k56, ak, aj, rfl, e57, f58, f59, hn60, f61⟩
  obtain ⟨K62, S63, m64⟩ := Ji e57 5 R
  refine ⟨tv, Jo ?_⟩
  cases h
  exact Jw1 _ ⟨(fun b => ren [(7, 2), (8, 3), (9, 4)] (K62 b)), ak, aj, R, (Jy2 (S63.wk R) [(7, 2), (8, 3), (9, 4)] R), ((f58.mx (no_int _) m64 R (R : 5 + 2 = 7)).map (ren [(7, 2), (8, 3), (9, 4)]) R R), ((f59.mx no_bool m64 R (R : 5 + 3 = 8)).map (ren [(7, 2), (8, 3), (9, 4)]) R R), (hn24.trans hn60), ((f61.mx m64 R (R : 5 + 4 = 9)).map (ren [(7, 2), (8, 3), (9, 4)]) R R)⟩ (KM R)
  rintro _ w39 ⟨K40, af, ae, rfl, S41, f42, f43, hn44, f45⟩
  have h := hK38
  refine Jz (Jp (Ja [2, 2] R (Jc 2 R ?_)))
  have hw9 : IntKind.wrap .i64 (v19 + 1) = v19 + 1 := wr1 hj9 (Jm2 hc9) hN9
  rw [hw9]
  have hc9 := Jm2 hc9
  cases h
  exact Jz1 fun a ha => ⟨k, _, Ja3 _, ⟨K40, v19 + 1, ((q4.1 : (List Int)), (q4.2 : (List Bool))), af, ae, R, (S21.tr (S37.tr S41)).wk R, f42, f43, hn44, f45, by omega, by omega, hk28⟩, (ha.mm R)⟩
  rintro _ w12 ⟨K13, s3, ai, ah, rfl, S14, f15, f16, hn17, f18, rfl⟩
  have h := hK10
  dsimp only [aft] at h
  refine Jp (Ja [2, 2, 1] R (Jn 2 R (Ob h fun x42 hx42 h => WO.callV R R R R R R R R C153 (i_loopsIn_2_ok (κ := fun b => mp [(2, 2), (4, 3)] 0 (K13 b)) (f15.map (mp [(2, 2), (4, 3)] 0) R R) (f18.map (mp [(2, 2), (4, 3)] 0) R R) hx42) ?_)))
  rintro _ w72 ⟨k73, am, al, rfl, e74, f75, f76⟩
  obtain ⟨K77, S78, m79⟩ := Ji e74 5 R
  refine ⟨tv, Jo (DN.end0 V152 ?_)⟩
  cases h
  exact ⟨(fun b => ren [(7, 2), (8, 4)] (K77 b)), am, al, R, ((hE.stp (S3.tr (S14.tr S78)) R R).map (ren [(7, 2), (8, 4)]) R R), ((f75.mx (no_int _) m79 R (R : 5 + 2 = 7)).map (ren [(7, 2), (8, 4)]) R R), ((f16.stp S78 R R).map (ren [(7, 2), (8, 4)]) R R), hn17, ((f76.mx m79 R (R : 5 + 3 = 8)).map (ren [(7, 2), (8, 4)]) R R)⟩
theorem i_loopsIn_1__i_loopsIn_3__i_loopsIn_1_ok (n : Nat) : ∀ {w : World} {κ : Col} {p0 : Int} {a1 u1} {p1 : (List (List Int))} {aa ac} {c2_0 : (List Int)} {a3 u3} {c0 : (List Bool)} {a4 u4} {c1 : (List Bool)} {b2_0 b3 b4 b5} (g1 : Rd (Rp.sl (Rp.int .i64)) κ w 0 a1 u1 p1) (g2_0 : Oc E6 2 κ w 2 aa ac c2_0) (g3 : Oc Ep.bool 4 κ w 3 a3 u3 c0) (g4 : Rd Rp.bool κ w 0 a4 u4 c1) (gb2_0 : Bc κ w 4 b2_0 40 [.slice aa c2_0.length ac]) (gb3 : Bc κ w 0 b3 135 [.slice a3 c0.length u3]) (gb4 : Bc κ w 0 b4 135 [.slice a4 c1.length u4]) (gb5 : Bc κ w 0 b5 173 [.func (.func 152) #[] #[.pointer (some ⟨b3, 0, none⟩), .pointer (some ⟨b4, 0, none⟩), .pointer (some ⟨b5, 0, none⟩)]]) {r : (List Int) × (List Bool)} (h : i_loopsIn_1__i_loopsIn_3__i_loopsIn_1 n p0 p1 c2_0 c0 c1 = some r), Ret Tryz.prog 152 [vi p0, .slice a1 p1.length u1, .func (.func 154) #[] #[.pointer (some ⟨b2_0, 0, none⟩)], .pointer (some ⟨b3, 0, none⟩), .pointer (some ⟨b4, 0, none⟩), .pointer (some ⟨b5, 0, none⟩)] w (fun v w' => ∃ (κ' : Col) (ma0 : Option Addr) (mu0 : Nat), v = .tuple #[] ∧ Ent κ w κ' w' ∧ Oc E6 2 κ' w' 2 ma0 mu0 r.1 ∧ Oc Ep.bool 4 κ' w' 3 a3 u3 r.2 ∧ c0.length = r.2.length ∧ Bc κ' w' 4 b2_0 40 [.slice ma0 r.1.length mu0]) := by
 induction n with
 | zero =>
  intro w κ p0 a1 u1 p1 aa ac c2_0 a3 u3 c0 a4 u4 c1 b2_0 b3 b4 b5 g1 g2_0 g3 g4 gb2_0 gb3 gb4 gb5 r h
  cases h
 | succ n ih =>
  intro w κ p0 a1 u1 p1 aa ac c2_0 a3 u3 c0 a4 u4 c1 b2_0 b3 b4 b5 g1 g2_0 g3 g4 gb2_0 gb3 gb4 gb5 r h
  have h : i_loopsIn_1__i_loopsIn_3__i_loopsIn_1_s (i_loopsIn_1__i_loopsIn_3__i_loopsIn_1 n) p0 p1 c2_0 c0 c1 = some r := h
  unfold i_loopsIn_1__i_loopsIn_3__i_loopsIn_1_s at h
  refine Ret.enter F152 R N152 R ?_
  dsimp only [envOf]
  have hE := Ent.refl κ w
  refine Je [1, 2, 2, 1] R (Jl tv R R R R (Jc2 I135 R R (hvE (gb3.ld 0 R R))) (Jn 1 R (Ob h fun x13 hx13 h => Jf R (Jf2 g3.rdc hx13 U135 Z4 R R R R) (Ob h fun y264 hy264 h => Jk1 (κ := κ) (E := Ep.bool) 3 [] R R R R R R R R Z4 R R R R g3 hy264 fun w1 K2 S3 f4 => ⟨tv, ?_⟩))))
  have hn5 : c0.length = y264.length := (Jt2 hy264).2.2.2.symm
  refine Jd (Jq (Je [2, 2, 2, 1, 2, 2] R (Jn 2 R (Ob h fun x16 hx16 h => Jf R (Jf2 g1 hx16 U24 Z40 R R R R) ?_))))
  have f6 := g1.stp S3 R R
  obtain ⟨ax16, ux16, f7, hl8⟩ := f6.gSl hx16
  refine Jl tv R R R R (Jc2 I40 R R (hvE hl8)) (Jf R (Je2 U40 R R) (Jb 1 R ?_))
  have hN9 : (x16.length : Int) ≤ 9223372036854775807 := f7.len_le
  refine Ob h fun q2 hq11 hK10 => ?_
  clear h
  refine Jx1 (fun L w' => ∃ κ', ∃ s3 : (List Int) × (List Bool), ∃ ai ah, L = [(0, vi p0), (2, .func (.func 154) #[] #[.pointer (some ⟨b2_0, 0, none⟩)]), (3, .pointer (some ⟨b3, 0, none⟩)), (4, .pointer (some ⟨b4, 0, none⟩)), (5, .pointer (some ⟨b5, 0, none⟩))] ∧ Stp [2, 3, 4, 7, 8, 9] K2 w1 κ' w' ∧ Oc E6 2 κ' w' 2 ai ah s3.1 ∧ Oc Ep.bool 4 κ' w' 3 a3 u3 s3.2 ∧ c0.length = s3.2.length ∧ Bc κ' w' 4 b2_0 40 [.slice ai s3.1.length ah] ∧ q2 = Sum.inr s3) ?_ ?_
  refine Jv (Jy1 (fun k L w' => ∃ κ' v19, ∃ s1 : (List Int) × (List Bool), ∃ ab ad, L = [(0, vi p0), (1, .slice a1 p1.length u1), (2, .func (.func 154) #[] #[.pointer (some ⟨b2_0, 0, none⟩)]), (3, .pointer (some ⟨b3, 0, none⟩)), (4, .pointer (some ⟨b4, 0, none⟩)), (5, .pointer (some ⟨b5, 0, none⟩)), (17, .slice ax16 x16.length ux16), (18, vi (x16.length : Int)), (19, vi v19)] ∧ Stp [2, 3, 4, 7, 8, 9] K2 w1 κ' w' ∧ Oc E6 2 κ' w' 2 ab ad s1.1 ∧ Oc Ep.bool 4 κ' w' 3 a3 u3 s1.2 ∧ c0.length = s1.2.length ∧ Bc κ' w' 4 b2_0 40 [.slice ab s1.1.length ad] ∧ 0 ≤ v19 ∧ Int.toNat ((x16.length : Int) - v19) = k ∧ cntM (i_loopsIn_1__i_loopsIn_3__i_loopsIn_1_b0 (i_loopsIn_1__i_loopsIn_3__i_loopsIn_1 n) p1 c1 x16) k v19 s1 = some q2) ⟨_, _, ⟨K2, 0, ((c2_0 : (List Int)), (y264 : (List Bool))), aa, ac, R, (Jx2 _ _).wk R, (g2_0.stp S3 R R), f4, hn5, (gb2_0.stp S3 R R), (by decide), (by simp), hq11⟩, (KM R)⟩ ?_)
  rintro k _ w19 ⟨K20, v19, s1, ab, ad, rfl, S21, f22, f23, hn24, f25, hj9, hJ9, h⟩
  rcases k with _ | k
  have hk28 := h; obtain ⟨o9, h⟩ := ex_eq (Sum.inr (Sum.inl s1) : ((List Int) × (List Bool)) ⊕ (((List Int) × (List Bool)) ⊕ ((List Int) × (List Bool))))
  have hc9 : decide (v19 < (x16.length : Int)) = false := Jo2 (by omega)
  refine Je [2] R (Jb 1 R (Jq (Jw2 R hc9 (Jc1 (Jt (Jt ?_))))))
  cases h
  have h := hk28
  refine Jb1 ?_
  cases h
  exact Jw1 _ ⟨K20, ((s1.1 : (List Int)), (s1.2 : (List Bool))), ab, ad, R, S21.wk R, f22, f23, hn24, f25, R⟩ (KM R)
  obtain ⟨o9, h, hk28⟩ := BI h; unfold i_loopsIn_1__i_loopsIn_3__i_loopsIn_1_b0 at h
  have hc9 : decide (v19 < (x16.length : Int)) = true := Jn2 (by omega)
  refine Je [2] R (Jb 1 R (Jq (Jv2 R hc9 (Js (Jp (Jq (Jv (Je [2, 1, 2] R (Ob h fun x21 hx21 h => Jf R (Jf2 f7 hx21 U40 Z2 R R R R) (Jl tv R R R R (Jc2 I2 R R (hvE ((f7.stp S21 R R).gInt hx21))) (Jb 1 R (Je [1, 2, 2, 1, 2, 1, 2, 2, 1, 2, 2] R ?_))))))))))))
  have f30 := gb4.stp (S3.tr S21) R R
  refine Jl tv R R R R (Jc2 I135 R R (hvE (f30.ld 0 R R))) (Jn 1 R (Ob h fun x25 hx25 h => Jf R (Jf2 g4 hx25 U135 Z4 R R R R) ?_))
  have f31 := g4.stp (S3.tr S21) R R
  refine Jl tv R R R R (Jc2 I4 R R (hvE (f31.gBool hx25))) (Jn 1 R (Ob h fun p33 h hK32 => Ju1 [(5, 1), (6, 2), (7, 2), (8, 1), (9, 2), (10, 2)] [] (fun L w' => L = [(0, vi p0), (1, .slice a1 p1.length u1), (2, .func (.func 154) #[] #[.pointer (some ⟨b2_0, 0, none⟩)]), (3, .pointer (some ⟨b3, 0, none⟩)), (4, .pointer (some ⟨b4, 0, none⟩)), (5, .pointer (some ⟨b5, 0, none⟩)), (10, vi x21), (17, .slice ax16 x16.length ux16), (18, vi (x16.length : Int)), (19, vi v19), (33, .bool p33)] ∧ ∃ κ', Stp [] K20 w19 κ' w') tv ?_ ?_))
  revert h
  cases ht33 : x25
  refine JF fun h => Jd1 R R R R (Jn 2 R (Jd1 R R R R (Jn 2 R ?_)))
  cases h
  exact Jv1 _ tv ⟨R, _, (Jx2 _ _).wk R⟩ (KM R)
  refine JT fun h => Jl tv R R R R (Jc2 I135 R R (hvE ((gb3.stp (S3.tr S21) R R).ld 0 R R))) (Jn 1 R (Ob h fun x30 hx30 h => Jf R (Jf2 f23.rdc hx30 U135 Z4 R R hn24 R) (Jl tv R R R R (Jc2 I4 R R (hvE (f23.rdc.gBool hx30))) (Jn 2 R ?_))))
  cases h
  exact Jv1 _ tv ⟨R, _, (Jx2 _ _).wk R⟩ (KM R)
  rintro _ w35 _ ⟨rfl, K36, S37⟩
  have h := hK32
  refine Jd (Ob h fun q4 h hK38 => Jx1 (fun L w' => ∃ κ' af ae, L = [(0, vi p0), (1, .slice a1 p1.length u1), (2, .func (.func 154) #[] #[.pointer (some ⟨b2_0, 0, none⟩)]), (3, .pointer (some ⟨b3, 0, none⟩)), (4, .pointer (some ⟨b4, 0, none⟩)), (5, .pointer (some ⟨b5, 0, none⟩)), (17, .slice ax16 x16.length ux16), (18, vi (x16.length : Int)), (19, vi v19)] ∧ Stp [2, 3, 4, 7, 8, 9] K36 w35 κ' w' ∧ Oc E6 2 κ' w' 2 af ae q4.1 ∧ Oc Ep.bool 4 κ' w' 3 a3 u3 q4.2 ∧ c0.length = q4.2.length ∧ Bc κ' w' 4 b2_0 40 [.slice af q4.1.length ae]) ?_ ?_)
  revert h
  cases ht46 : p33
  refine JF fun h => Jy R (Js ?_)
  cases h
  exact Jw1 _ ⟨K36, ab, ad, R, (Jx2 _ _).wk R, (f22.stp S37 R R), (f23.stp S37 R R), hn24, (f25.stp S37 R R)⟩ (KM R)
  refine JT fun h => Jx R (Ja [1, 2, 2, 2, 1] R ?_)
  have f47 := gb5.stp (S3.tr (S21.tr S37)) R R
  refine Jl tv R R R R (Jc2 I173 R R (hvE (f47.ld 0 R R))) (Jn 3 R (Ob h fun x38 hx38 h => WO.callV R R R R R R R R C152 (ih (κ := fun b => mp [(2, 2), (3, 3), (4, 4)] 0 (K36 b)) (Jl2 (f6.stp (S21.tr S37) R R) (mp [(2, 2), (3, 3), (4, 4)] 0) R R) ((f22.stp S37 R R).map (mp [(2, 2), (3, 3), (4, 4)] 0) R R) ((f23.stp S37 R R).map (mp [(2, 2), (3, 3), (4, 4)] 0) R R) (Jl2 (f31.stp S37 R R) (mp [(2, 2), (3, 3), (4, 4)] 0) R R) ((f25.stp S37 R R).map (mp [(2, 2), (3, 3), (4, 4)] 0) R R) (Bc.cast ((gb3.stp (S3.tr (S21.tr S37)) R R).map (mp [(2, 2), (3, 3), (4, 4)] 0) R R) (by simp only [hn24])) ((f30.stp S37 R R).map (mp [(2, 2), (3, 3), (4, 4)] 0) R R) (f47.map (mp [(2, 2), (3, 3), (4, 4)] 0) R R) hx38) ?_))
  rintro _ w55 ⟨k56, ak, aj, rfl, e57, f58, f59, hn60, f61⟩
  obtain ⟨K62, S63, m64⟩ := Ji e57 5 R
  refine ⟨tv, Jo ?_⟩
  cases h
  exact Jw1 _ ⟨(fun b => ren [(7, 2), (8, 3), (9, 4)] (K62 b)), ak, aj, R, (Jy2 (S63.wk R) [(7, 2), (8, 3), (9, 4)] R), ((f58.mx (no_int _) m64 R (R : 5 + 2 = 7)).map (ren [(7, 2), (8, 3), (9, 4)]) R R), ((f59.mx no_bool m64 R (R : 5 + 3 = 8)).map (ren [(7, 2), (8, 3), (9, 4)]) R R), (hn24.trans hn60), ((f61.mx m64 R (R : 5 + 4 = 9)).map (ren [(7, 2), (8, 3), (9, 4)]) R R)⟩ (KM R)
  rintro _ w39 ⟨K40, af, ae, rfl, S41, f42, f43, hn44, f45⟩
  have h := hK38
  refine Jz (Jp (Ja [2, 2] R (Jc 2 R ?_)))
  have hw9 : IntKind.wrap .i64 (v19 + 1) = v19 + 1 := wr1 hj9 (Jm2 hc9) hN9
  rw [hw9]
  have hc9 := Jm2 hc9
  cases h
  exact Jz1 fun a ha => ⟨k, _, Ja3 _, ⟨K40, v19 + 1, ((q4.1 : (List Int)), (q4.2 : (List Bool))), af, ae, R, (S21.tr (S37.tr S41)).wk R, f42, f43, hn44, f45, by omega, by omega, hk28⟩, (ha.mm R)⟩
  rintro _ w12 ⟨K13, s3, ai, ah, rfl, S14, f15, f16, hn17, f18, rfl⟩
  have h := hK10
  dsimp only [aft] at h
  refine Jp (Ja [2, 2, 1] R (Jn 2 R (Ob h fun x42 hx42 h => WO.callV R R R R R R R R C154 (i_loopsIn_3_ok (κ := fun b => mp [(2, 2), (4, 3)] 0 (K13 b)) (f15.map (mp [(2, 2), (4, 3)] 0) R R) (f18.map (mp [(2, 2), (4, 3)] 0) R R) hx42) ?_)))
  rintro _ w72 ⟨k73, am, al, rfl, e74, f75, f76⟩
  obtain ⟨K77, S78, m79⟩ := Ji e74 5 R
  refine ⟨tv, Jo (DN.end0 V152 ?_)⟩
  cases h
  exact ⟨(fun b => ren [(7, 2), (8, 4)] (K77 b)), am, al, R, ((hE.stp (S3.tr (S14.tr S78)) R R).map (ren [(7, 2), (8, 4)]) R R), ((f75.mx (no_int _) m79 R (R : 5 + 2 = 7)).map (ren [(7, 2), (8, 4)]) R R), ((f16.stp S78 R R).map (ren [(7, 2), (8, 4)]) R R), hn17, ((f76.mx m79 R (R : 5 + 3 = 8)).map (ren [(7, 2), (8, 4)]) R R)⟩
theorem cmp_Less_int64_ok {w : World} {κ : Col} {p0 : Int} {p1 : Int}  {r : Bool} (h : cmp_Less_int64 p0 p1 = some r) : Ret Tryz.prog 172 [vi p0, vi p1] w (fun v w' => ∃ (κ' : Col), v = .bool r ∧ Ent κ w κ' w') := by
 unfold cmp_Less_int64 at h
 refine Ret.enter F172 R N172 R ?_
 dsimp only [envOf]
 have hE := Ent.refl κ w
 refine Je [2] R (Jb 1 R (Je [2, 1, 2, 2, 1, 2, 2, 2, 2, 2, 2, 2, 2] R (Jn 1 R (Ob h fun x6 hx6 h => Jh R R R C192 (cmp_isNaN_int64_ok (κ := fun b => mp [] 0 (κ b)) hx6) ?_))))
 rintro _ w1 ⟨k2, rfl, e3⟩
 obtain ⟨K4, S5, m6⟩ := Ji e3 2 R
 refine ⟨tv, Jn 1 R (Ob h fun p11 h hK8 => Ju1 [(3, 2), (4, 1), (5, 2), (6, 2)] [(7, 2), (8, 2), (9, 2), (10, 2), (11, 2), (12, 2)] (fun L w' => L = [(0, vi p0), (1, vi p1), (4, .bool false), (11, .bool p11)] ∧ ∃ κ', Stp [] K4 w1 κ' w') tv ?_ ?_)⟩
 revert h
 cases ht9 : x6
 refine JF fun h => Jn 1 R (Jd1 R R R R (Jn 2 R ?_))
 cases h
 exact Jv1 _ tv ⟨R, _, (Jx2 _ _).wk R⟩ (KM R)
 refine JT fun h => Jn 1 R (Ob h fun x9 hx9 h => Jh R R R C192 (cmp_isNaN_int64_ok (κ := fun b => mp [] 0 (K4 b)) hx9) ?_)
 rintro _ w10 ⟨k11, rfl, e12⟩
 obtain ⟨K13, S14, m15⟩ := Ji e12 4 R
 refine ⟨tv, Jn 2 R ?_⟩
 cases h
 exact Jv1 _ tv ⟨R, _, S14.wk R⟩ (KM R)
 rintro _ w17 _ ⟨rfl, K18, S19⟩
 have h := hK8
 refine Jn 1 R (Ob h fun p16 h hK20 => Ju1 [(8, 2), (9, 2), (10, 2), (11, 2)] [(12, 2)] (fun L w' => L = [(4, .bool false), (16, .bool p16)] ∧ ∃ κ', Stp [] K18 w17 κ' w') tv ?_ ?_)
 revert h
 cases ht21 : p11
 refine JF fun h => Jn 4 R ?_
 cases h
 exact Jv1 _ tv ⟨R, _, (Jx2 _ _).wk R⟩ (KM R)
 refine JT fun h => Jn 4 R ?_
 cases h
 exact Jv1 _ tv ⟨R, _, (Jx2 _ _).wk R⟩ (KM R)
 rintro _ w22 _ ⟨rfl, K23, S24⟩
 have h := hK20
 refine Jb 1 R (Ju (Ja2 (l := [.tmp 4]) V172 (Jp2 R R) R ?_))
 cases h
 exact ⟨K23, R, (hE.stp (S5.tr (S19.tr S24)) R R)⟩
end Go.Proofs.YtcmamhmpoinmnaaGreat
