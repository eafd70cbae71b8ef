/- The walks, part 2. By program. -/
import Derived.Test.YtcmamhmpoinmnaaGreatFns0KA
set_option linter.unusedVariables false
set_option linter.unusedSimpArgs false
namespace Go.Proofs.YtcmamhmpoinmnaaGreat
open Go Go.Wk Go.Proofs
set_option maxRecDepth 100000
set_option maxHeartbeats 1000000
theorem l_toInt64SS_ok {w : World} {κ : Col} {a0 u0} {p0 : (List (List Int))} (g0 : Rd (Rp.sl (Rp.int .i64)) κ w 0 a0 u0 p0) {r : (List (List Int))} (h : l_toInt64SS p0 = some r) : Ret Tryz.prog 50 [.slice a0 p0.length u0] w (fun v w' => ∃ (κ' : Col) (ra0 : Option Addr) (ru0 : Nat), v = .slice ra0 r.length ru0 ∧ Ent κ w κ' w' ∧ Oc (Ep.own E6 2) 40 κ' w' 2 ra0 ru0 r) := by
 unfold l_toInt64SS at h
 refine Ret.enter F50 R N50 R ?_
 dsimp only [envOf]
 have hE := Ent.refl κ w
 refine Je [2] R (Jb 1 R (Je [2, 2, 1, 2] R (Jn 1 R (Jf R (Je2 U24 R R) (Ob h fun x7 hx7 h => Jl1 (κ := κ) (E := (Ep.own E6 2)) (z := (([] : List Int) : (List Int))) 2 R R R R R R R Y24 Tryzinfo40 R R R R R (fun _ _ _ => ⟨none, 0, R, Ow.nil⟩) (Ju2 hx7) fun a7 u7 w1 K2 S3 f4 => ⟨tv, Jb 1 R (Jq (Je [2] R (Jb 1 R ?_)))⟩)))))
 have hN5 : (p0.length : Int) ≤ 9223372036854775807 := g0.len_le
 refine Ob h fun q2 hq7 hK6 => ?_
 clear h
 refine Jx1 (fun L w' => ∃ κ', ∃ s3 : (List (List Int)), L = [(3, .slice a7 x7.length u7)] ∧ Stp [2, 5] K2 w1 κ' w' ∧ Oc (Ep.own E6 2) 40 κ' w' 2 a7 u7 s3 ∧ x7.length = s3.length ∧ q2 = Sum.inr s3) ?_ ?_
 refine Jv (Jy1 (fun k L w' => ∃ κ' v4, ∃ s1 : (List (List Int)), L = [(0, .slice a0 p0.length u0), (3, .slice a7 x7.length u7), (4, vi v4)] ∧ Stp [2, 5] K2 w1 κ' w' ∧ Oc (Ep.own E6 2) 40 κ' w' 2 a7 u7 s1 ∧ x7.length = s1.length ∧ 0 ≤ v4 ∧ Int.toNat ((p0.length : Int) - v4) = k ∧ cntM (l_toInt64SS_b0 p0) k v4 s1 = some q2) ⟨_, _, ⟨K2, 0, (x7 : (List (List Int))), R, (Jx2 _ _).wk R, f4, R, (by decide), (by simp), hq7⟩, (KM R)⟩ ?_)
 rintro k _ w13 ⟨K14, v4, s1, rfl, S15, f16, hn17, hj5, hJ5, h⟩
 rcases k with _ | k
 have hk18 := h; obtain ⟨o5, h⟩ := ex_eq (Sum.inr (Sum.inl s1) : (List (List Int)) ⊕ (((List (List Int))) ⊕ ((List (List Int)))))
 have hc5 : decide (v4 < (p0.length : Int)) = false := Jo2 (by omega)
 refine Jq (Je [2, 2, 2, 2] R (Jn 2 R (Jf R (Je2 U24 R R) (Jb 1 R (Jw2 R hc5 (Jc1 (Jt (Jt ?_))))))))
 cases h
 have h := hk18
 refine Jb1 ?_
 cases h
 exact Jw1 _ ⟨K14, (s1 : (List (List Int))), R, S15.wk R, f16, hn17, R⟩ (KM R)
 obtain ⟨o5, h, hk18⟩ := BI h; unfold l_toInt64SS_b0 at h
 have hc5 : decide (v4 < (p0.length : Int)) = true := Jn2 (by omega)
 refine Jq (Je [2, 2, 2, 2] R (Jn 2 R (Jf R (Je2 U24 R R) (Jb 1 R (Jv2 R hc5 (Js (Jp (Jq (Jv (Ja [2, 2, 2, 2, 2, 1, 1, 2, 1] R (Jn 4 R (Ob h fun x18 hx18 h => Jf R (Jf2 g0 hx18 U24 Z40 R R R R) ?_))))))))))))
 obtain ⟨ax18, ux18, f20, hl21⟩ := (g0.stp (S3.tr S15) R R).gSl hx18
 refine Jl tv R R R R (Jc2 I40 R R (hvE hl21)) (Ob h fun x20 hx20 h => Jh R R R C68 (l_toInt64S_ok (κ := fun b => mp [] 0 (K14 b)) (Jl2 f20 (mp [] 0) R R) hx20) ?_)
 rintro _ w22 ⟨k23, ab, aa, rfl, e24, f25⟩
 obtain ⟨K26, S27, m28⟩ := Ji e24 3 R
 refine ⟨tv, Ob h fun x21 hx21 h => Jf R (Jf2 f16.rdc hx21 U24 Z40 R R hn17 R) (Ob h fun y15 hy15 h => Jk1 (κ := K26) (E := (Ep.own E6 2)) 2 [5] R R R R R R R R Z40 R ⟨_, _, R, (f25.mx (no_int _) m28 R (R : 3 + 2 = 5))⟩ R R (f16.stp S27 R R) hy15 fun w32 K33 S34 f35 => ⟨tv, ?_⟩)⟩
 have hn36 : x7.length = y15.length := hn17.trans (Jt2 hy15).2.2.2.symm
 refine Jo (Jz (Jp (Ja [2, 2, 2] R (Jc 3 R ?_))))
 have hw5 : IntKind.wrap .i64 (v4 + 1) = v4 + 1 := wr1 hj5 (Jm2 hc5) hN5
 rw [hw5]
 have hc5 := Jm2 hc5
 cases h
 exact Jz1 fun a ha => ⟨k, _, Ja3 _, ⟨K33, v4 + 1, (y15 : (List (List Int))), R, (S15.tr (S27.tr S34)).wk R, f35, hn36, by omega, by omega, hk18⟩, (ha.mm R)⟩
 rintro _ w8 ⟨K9, s3, rfl, S10, f11, hn12, rfl⟩
 have h := hK6
 dsimp only [aft] at h
 refine Jp (Je [2, 2] R (Jb 2 R (Ju (Ja2 (l := [.tmp 2]) V50 (Jp2 R R) R ?_))))
 cases h
 exact ⟨K9, a7, u7, (by simp only [hn12]), (hE.stp (S3.tr S10) R R), f11⟩
theorem l_toClause_ok {w : World} {κ : Col} {ae af ah ai} {p0 : Clause} (g0_1 : Rd (Rp.int .i64) κ w 0 ae af p0.A) (g0_2 : Rd (Rp.int .i64) κ w 0 ah ai p0.B) {r : Clause} (h : l_toClause p0 = some r) : Ret Tryz.prog 51 [.agg #[vi p0.Kind, .slice ae p0.A.length af, .slice ah p0.B.length ai]] w (fun v w' => ∃ (κ' : Col) (ra0 : Option Addr) (ru0 : Nat) (ra1 : Option Addr) (ru1 : Nat), v = .agg #[vi r.Kind, .slice ra0 r.A.length ru0, .slice ra1 r.B.length ru1] ∧ Ent κ w κ' w' ∧ Oc E6 2 κ' w' 2 ra0 ru0 r.A ∧ Oc E6 2 κ' w' 3 ra1 ru1 r.B) := by
 unfold l_toClause at h
 refine Ret.enter F51 R N51 R ?_
 dsimp only [envOf]
 have hE := Ent.refl κ w
 refine Je [1, 1] R (Jf1 (κ := κ) 2 R R R R R R R fun b1 w1 K2 S3 f4 => ⟨tv, Jg1 (κ := K2) 3 R R R R R X71 R fun b2 w5 K6 S7 f8 => ⟨tv, Jd (Je [1] R (Jg1 (κ := K6) 4 R R R R R X71 R fun b3 w9 K10 S11 f12 => ⟨tv, Jd (Je [2, 1, 2, 1] R (Jf R (Jb2 U78 R Z2 R R) ?_))⟩))⟩⟩)
 have f13 := f4.stp (S7.tr S11) R R
 refine Jl tv R R R R (Jc2 I2 R R (hvE (f13.ld 0 R R))) (Jf R (Jb2 U71 R Z2 R R) (Ji1 (κ := K10) 4 (off := 0) (vc := [vi p0.Kind]) (cs' := [vi p0.Kind, .slice none 0 0, .slice none 0 0]) R R R R R R R Z2 R R f12 R R fun w14 S15 f16 => ⟨tv, Jd (Je [2, 1, 1, 2, 1] R (Jf R (Jb2 U78 R Z40 R R) ?_))⟩))
 have f17 := f13.stp S15 R R
 refine Jl tv R R R R (Jc2 I40 R R (hvE (f17.ld 1 R R))) (Ob h fun x9 hx9 h => Jh R R R C68 (l_toInt64S_ok (κ := fun b => mp [] 0 (K10 b)) (Jl2 (g0_1.stp (S3.tr (S7.tr (S11.tr S15))) R R) (mp [] 0) R R) hx9) ?_)
 rintro _ w19 ⟨k20, aa, ab, rfl, e21, f22⟩
 obtain ⟨K23, S24, m25⟩ := Ji e21 5 R
 refine ⟨tv, Jf R (Jb2 U71 R Z40 R R) (Ji1 (κ := K23) 4 (off := 1) (vc := [.slice aa x9.length ab]) (cs' := [vi p0.Kind, .slice aa x9.length ab, .slice none 0 0]) R R R R R R R Z40 R R (f16.stp S24 R R) R R fun w29 S30 f31 => ⟨tv, Jd (Je [2, 1, 1, 2, 1] R (Jf R (Jb2 U78 R Z40 R R) (Jl tv R R R R (Jc2 I40 R R (hvE ((f17.stp (S24.tr S30) R R).ld 2 R R))) (Ob h fun x13 hx13 h => Jh R R R C68 (l_toInt64S_ok (κ := fun b => mp [] 0 (K23 b)) (Jl2 (g0_2.stp (S3.tr (S7.tr (S11.tr (S15.tr (S24.tr S30))))) R R) (mp [] 0) R R) hx13) ?_))))⟩)⟩
 rintro _ w34 ⟨k35, ad, ac, rfl, e36, f37⟩
 obtain ⟨K38, S39, m40⟩ := Ji e36 8 R
 refine ⟨tv, Jf R (Jb2 U71 R Z40 R R) (Ji1 (κ := K38) 4 (off := 2) (vc := [.slice ad x13.length ac]) (cs' := [vi p0.Kind, .slice aa x9.length ab, .slice ad x13.length ac]) R R R R R R R Z40 R R (f31.stp S39 R R) R R fun w44 S45 f46 => ⟨tv, Jd (Je [1, 1] R (Jl tv R R R R (Jd2 (cs := [vi p0.Kind, .slice aa x9.length ab, .slice ad x13.length ac]) I71 Z71 R R R (haE f46.cells)) (Jj1 (κ := K38) 3 (vc := [vi p0.Kind, .slice aa x9.length ab, .slice ad x13.length ac]) R R R R R R R Z71 R R (f8.stp (S11.tr (S15.tr (S24.tr (S30.tr (S39.tr S45))))) R R) R fun w48 S49 f50 => ⟨tv, Jd (Ju (Ja2 (l := [.cell 2 71]) V51 (res_cellA R f50 I71 Z71 R R) R ?_))⟩)))⟩)⟩
 cases h
 exact ⟨(fun b => ren [(7, 2), (10, 3)] (K38 b)), aa, ab, ad, ac, R, ((hE.stp (S3.tr (S7.tr (S11.tr (S15.tr (S24.tr (S30.tr (S39.tr (S45.tr S49)))))))) R R).map (ren [(7, 2), (10, 3)]) R R), (((f22.mx (no_int _) m25 R (R : 5 + 2 = 7)).stp (S30.tr (S39.tr (S45.tr S49))) R R).map (ren [(7, 2), (10, 3)]) R R), (((f37.mx (no_int _) m40 R (R : 8 + 2 = 10)).stp (S45.tr S49) R R).map (ren [(7, 2), (10, 3)]) R R)⟩
theorem s_l23Below_ok {w : World} {κ : Col} {a0 u0} {p0 : (List Int)} {p1 : Int} (g0 : Rd (Rp.int .i64) κ w 0 a0 u0 p0) {r : Bool} (h : s_l23Below p0 p1 = some r) : Ret Tryz.prog 112 [.slice a0 p0.length u0, vi p1] w (fun v w' => ∃ (κ' : Col), v = .bool r ∧ Ent κ w κ' w') := by
 unfold s_l23Below at h
 refine Ret.enter F112 R N112 R ?_
 dsimp only [envOf]
 have hE := Ent.refl κ w
 refine Je [2] R (Jb 1 R (Jq (Je [2] R (Jb 1 R ?_))))
 have hN1 : (p0.length : Int) ≤ 9223372036854775807 := g0.len_le
 refine Ob h fun q2 hq3 hK2 => ?_
 clear h
 refine Jx1 (fun L w' => ∃ κ', L = [] ∧ Stp [] κ w κ' w' ∧ q2 = Sum.inr ()) ?_ ?_
 refine Jv (Jy1 (fun k L w' => ∃ κ' v5, L = [(0, .slice a0 p0.length u0), (1, vi p1), (5, vi v5)] ∧ Stp [] κ w κ' w' ∧ 0 ≤ v5 ∧ Int.toNat ((p0.length : Int) - v5) = k ∧ cntM (s_l23Below_b0 p0 p1) k v5 () = some q2) ⟨_, _, ⟨κ, 0, R, (Jx2 _ _).wk R, (by decide), (by simp), hq3⟩, (KM R)⟩ ?_)
 rintro k _ w7 ⟨K8, v5, rfl, S9, hj1, hJ1, h⟩
 rcases k with _ | k
 have hk10 := h; obtain ⟨o1, h⟩ := ex_eq (Sum.inr (Sum.inl ()) : Bool ⊕ ((Unit) ⊕ (Unit)))
 have hc1 : decide (v5 < (p0.length : Int)) = false := Jo2 (by omega)
 refine Jq (Je [2, 2, 2, 2] R (Jn 2 R (Jf R (Je2 U40 R R) (Jb 1 R (Jw2 R hc1 (Jc1 (Jt (Jt ?_))))))))
 cases h
 have h := hk10
 refine Jb1 ?_
 cases h
 exact Jw1 _ ⟨K8, R, S9.wk R, R⟩ KN
 obtain ⟨o1, h, hk10⟩ := BI h; unfold s_l23Below_b0 at h
 have hc1 : decide (v5 < (p0.length : Int)) = true := Jn2 (by omega)
 refine Jq (Je [2, 2, 2, 2] R (Jn 2 R (Jf R (Je2 U40 R R) (Jb 1 R (Jv2 R hc1 (Js (Jp (Jq (Jv (Je [2, 2, 2, 1, 2, 2, 1, 2] R (Jn 2 R (Ob h fun x14 hx14 h => Jf R (Jf2 g0 hx14 U40 Z2 R R R R) (Jl tv R R R R (Jc2 I2 R R (hvE ((g0.stp S9 R R).gInt hx14))) (Jn 2 R (Ob h fun x18 hx18 h => Jh R R R C77 (s_l1In_ok (κ := fun b => mp [] 0 (K8 b)) hx18) ?_)))))))))))))))
 rintro _ w12 ⟨k13, rfl, e14⟩
 obtain ⟨K15, S16, m17⟩ := Ji e14 2 R
 refine ⟨tv, Jb 1 R ?_⟩
 revert h
 cases ht19 : (!x18)
 refine JF fun h => Jy R (Js (Jz (Jp (Ja [2, 2, 2] R (Jc 3 R ?_)))))
 have hw1 : IntKind.wrap .i64 (v5 + 1) = v5 + 1 := wr1 hj1 (Jm2 hc1) hN1
 rw [hw1]
 have hc1 := Jm2 hc1
 cases h
 exact Jz1 fun a ha => ⟨k, _, Ja3 _, ⟨K15, v5 + 1, R, (S9.tr S16).wk R, by omega, by omega, hk10⟩, (ha.mm R)⟩
 refine JT fun h => Jx R (Je [2] R (Jb 1 R (Ju (Ja1 (Jw (Jw ?_))))))
 cases h
 obtain rfl := Option.some.inj hk10
 have h := hK2
 dsimp only [aft] at h
 refine Ja1 (Jq2 (Jw (Ja2 (l := [.tmp 4]) V112 (Jp2 R R) R ?_)))
 cases h
 exact ⟨K15, R, (hE.stp (S9.tr S16) R R)⟩
 rintro _ w4 ⟨K5, rfl, S6, rfl⟩
 have h := hK2
 dsimp only [aft] at h
 refine Jp (Je [2] R (Jb 1 R (Ju (Ja2 (l := [.tmp 4]) V112 (Jp2 R R) R ?_))))
 cases h
 exact ⟨K5, R, (hE.stp S6 R R)⟩
theorem s_l29Ins_ok {w : World} {κ : Col} {p0 : Sig}  {r : Int} (h : s_l29Ins p0 = some r) : Ret Tryz.prog 134 [.agg #[vi p0.In, vi p0.Out]] w (fun v w' => ∃ (κ' : Col), v = vi r ∧ Ent κ w κ' w') := by
 unfold s_l29Ins at h
 refine Ret.enter F134 R N134 R ?_
 dsimp only [envOf]
 have hE := Ent.refl κ w
 refine Je [1, 2] R (Jf1 (κ := κ) 2 R R R R R R R fun b1 w1 K2 S3 f4 => ⟨tv, Jb 1 R (Je [2, 1, 1, 2] R (Jf R (Jb2 U31 R Z2 R R) (Jl tv R R R R (Jc2 I2 R R (hvE (f4.ld 0 R R))) (Ob h fun x5 hx5 h => Jh R R R C93 (s_l23Power_ok (κ := fun b => mp [] 0 (K2 b)) hx5) ?_))))⟩)
 rintro _ w5 ⟨k6, rfl, e7⟩
 obtain ⟨K8, S9, m10⟩ := Ji e7 3 R
 refine ⟨tv, Jb 1 R (Ju (Ja2 (l := [.tmp 2]) V134 (Jp2 R R) R ?_))⟩
 cases h
 exact ⟨K8, R, (hE.stp (S3.tr S9) R R)⟩
theorem s_l30Part_ok {w : World} {κ : Col} {am ak aj ah al ao an ai} {p0 : l30Graph} {a1 u1} {p1 : (List Int)} (g0_0 : Rd (Rp.int .i64) κ w 0 am ak p0.of) (g0_1 : Rd (Rp.int .i64) κ w 0 aj ah p0.by0) (g0_2 : Rd (Rp.sl (Rp.int .i64)) κ w 0 al ao p0.next) (g0_3 : Rd (Rp.sl (Rp.int .i64)) κ w 0 an ai p0.letters) (g1 : Rd (Rp.int .i64) κ w 0 a1 u1 p1) {r : (List Int)} (h : s_l30Part p0 p1 = some r) : Ret Tryz.prog 137 [.agg #[.slice am p0.of.length ak, .slice aj p0.by0.length ah, .slice al p0.next.length ao, .slice an p0.letters.length ai], .slice a1 p1.length u1] w (fun v w' => ∃ (κ' : Col) (ra0 : Option Addr) (ru0 : Nat), v = .slice ra0 r.length ru0 ∧ Ent κ w κ' w' ∧ Oc E6 2 κ' w' 2 ra0 ru0 r) := by
 unfold s_l30Part at h
 refine Ret.enter F137 R N137 R ?_
 dsimp only [envOf]
 have hE := Ent.refl κ w
 refine Je [1, 2] R (Jf1 (κ := κ) 2 R R R R R R R fun b2 w1 K2 S3 f4 => ⟨tv, Jb 1 R (Je [1, 2] R (Jo1 (κ := K2) (E := E6) 3 R R R R R Y40 Tryzinfo2 R fun a7 u7 w5 K6 S7 f8 => ⟨tv, Jb 1 R (Jq (Je [2] R (Jb 1 R ?_)))⟩))⟩)
 have hN9 : (p0.by0.length : Int) ≤ 9223372036854775807 := g0_1.len_le
 refine Ob h fun q2 hq11 hK10 => ?_
 clear h
 refine Jx1 (fun L w' => ∃ κ', ∃ s3 : (List Int), ∃ ac ae, L = [(5, .slice ac s3.length ae)] ∧ Stp [3] K6 w5 κ' w' ∧ Oc E6 2 κ' w' 3 ac ae s3 ∧ q2 = Sum.inr s3) ?_ ?_
 refine Jv (Jy1 (fun k L w' => ∃ κ' v6, ∃ s1 : (List Int), ∃ aa ab, L = [(1, .slice a1 p1.length u1), (2, .pointer (some ⟨b2, 0, none⟩)), (5, .slice aa s1.length ab), (6, vi v6)] ∧ Stp [3] K6 w5 κ' w' ∧ Oc E6 2 κ' w' 3 aa ab s1 ∧ 0 ≤ v6 ∧ Int.toNat ((p0.by0.length : Int) - v6) = k ∧ cntM (s_l30Part_b0 p0 p1) k v6 s1 = some q2) ⟨_, _, ⟨K6, 0, (([] : List Int) : (List Int)), a7, u7, R, (Jx2 _ _).wk R, f8, (by decide), (by simp), hq11⟩, (KM R)⟩ ?_)
 rintro k _ w16 ⟨K17, v6, s1, aa, ab, rfl, S18, f19, hj9, hJ9, h⟩
 rcases k with _ | k
 have hk20 := h; obtain ⟨o9, h⟩ := ex_eq (Sum.inr (Sum.inl s1) : (List Int) ⊕ (((List Int)) ⊕ ((List Int))))
 have hc9 : decide (v6 < (p0.by0.length : Int)) = false := Jo2 (by omega)
 refine Jq (Je [2, 2, 1, 2, 2] R (Jn 1 R (Jf R (Jb2 U158 R Z40 R R) (Jl tv R R R R (Jc2 I40 R R (hvE ((f4.stp (S7.tr S18) R R).ld 1 R R))) (Jf R (Je2 U40 R R) (Jb 1 R (Jw2 R hc9 (Jc1 (Jt (Jt ?_))))))))))
 cases h
 have h := hk20
 refine Jb1 ?_
 cases h
 exact Jw1 _ ⟨K17, (s1 : (List Int)), aa, ab, R, S18.wk R, f19, R⟩ (KM R)
 obtain ⟨o9, h, hk20⟩ := BI h; unfold s_l30Part_b0 at h
 have hc9 : decide (v6 < (p0.by0.length : Int)) = true := Jn2 (by omega)
 refine Jq (Je [2, 2, 1, 2, 2] R (Jn 1 R (Jf R (Jb2 U158 R Z40 R R) ?_)))
 have f22 := f4.stp (S7.tr S18) R R
 refine Jl tv R R R R (Jc2 I40 R R (hvE (f22.ld 1 R R))) (Jf R (Je2 U40 R R) (Jb 1 R (Jv2 R hc9 (Js (Jp (Jq (Jv (Je [2, 2, 1, 2, 2, 1, 1] R (Jn 1 R (Jf R (Jb2 U158 R Z40 R R) (Jl tv R R R R (Jc2 I40 R R (hvE (f22.ld 1 R R))) (Jn 1 R (Ob h fun x19 hx19 h => Jf R (Jf2 g0_1 hx19 U40 Z2 R R R R) (Jl tv R R R R (Jc2 I2 R R (hvE ((g0_1.stp (S3.tr (S7.tr S18)) R R).gInt hx19))) (Ob h fun x21 hx21 h => Jh R R R C117 (s_l1Has_ok (κ := fun b => mp [] 0 (K17 b)) (Jl2 (g1.stp (S3.tr (S7.tr S18)) R R) (mp [] 0) R R) hx21) ?_)))))))))))))))
 rintro _ w25 ⟨k26, rfl, e27⟩
 obtain ⟨K28, S29, m30⟩ := Ji e27 4 R
 refine ⟨tv, Jd (Ob h fun q4 h hK32 => Jx1 (fun L w' => ∃ κ' ad af, L = [(1, .slice a1 p1.length u1), (2, .pointer (some ⟨b2, 0, none⟩)), (5, .slice ad q4.length af), (6, vi v6)] ∧ Stp [3] K28 w25 κ' w' ∧ Oc E6 2 κ' w' 3 ad af q4) ?_ ?_)⟩
 revert h
 cases ht37 : x21
 refine JF fun h => Jy R (Js ?_)
 cases h
 exact Jw1 _ ⟨K28, aa, ab, R, (Jx2 _ _).wk R, (f19.stp S29 R R)⟩ (KM R)
 refine JT fun h => Jx R (Ja [2, 2, 1, 1, 2] R (Jn 2 R (Jn1 (κ := K28) (E := E6) 6 [] (parts := [(0, .tmp 23)]) (cells := [vi v6]) (xs := ([v6] : List Int)) R R R R R R Y40 Tryzinfo2 R R R R R R R R R R ⟨[vi v6], [], Zl K28 w25 [], Zl K28 w25 [], R, Zl.sp (l1 := []) (l2 := []) R, Zl.sr (l1 := []) (l2 := []), R, R⟩ fun ar au w38 K39 S40 f41 => ⟨tv, Ob h fun x25 hx25 h => Jm1 (κ := K39) (E := E6) 3 [] R R R R R R R R R Y40 Tryzinfo2 R R R R (f19.stp (S29.tr S40) R R) (Sl.srcP (pu_int _) f41.rdc) sy_false hx25 R fun ap aq w43 K44 S45 f46 => ⟨tv, Jc 1 R ?_⟩⟩)))
 cases h
 exact Jw1 _ ⟨K44, ap, aq, R, (S40.tr S45).wk R, f46⟩ (KM R)
 rintro _ w33 ⟨K34, ad, af, rfl, S35, f36⟩
 have h := hK32
 refine Jz (Jp (Ja [2, 2, 2] R (Jc 3 R ?_)))
 have hw9 : IntKind.wrap .i64 (v6 + 1) = v6 + 1 := wr1 hj9 (Jm2 hc9) hN9
 rw [hw9]
 have hc9 := Jm2 hc9
 cases h
 exact Jz1 fun a ha => ⟨k, _, Ja3 _, ⟨K34, v6 + 1, (q4 : (List Int)), ad, af, R, (S18.tr (S29.tr S35)).wk R, f36, by omega, by omega, hk20⟩, (ha.mm R)⟩
 rintro _ w12 ⟨K13, s3, ac, ae, rfl, S14, f15, rfl⟩
 have h := hK10
 dsimp only [aft] at h
 refine Jp (Je [2, 2] R (Jb 2 R (Ju (Ja2 (l := [.tmp 4]) V137 (Jp2 R R) R ?_))))
 cases h
 exact ⟨(fun b => ren [(3, 2)] (K13 b)), ac, ae, R, ((hE.stp (S3.tr (S7.tr S14)) R R).map (ren [(3, 2)]) R R), (f15.map (ren [(3, 2)]) R R)⟩
theorem slices_IndexFunc_I_int64__i_areLetters_1_ok {w : World} {κ : Col} {a0 u0} {p0 : (List Int)} {c1_0 : Int} {b1_0} (g0 : Rd (Rp.int .i64) κ w 0 a0 u0 p0) (gb1_0 : Bc κ w 0 b1_0 2 [vi c1_0]) {r : Int} (h : slices_IndexFunc_I_int64__i_areLetters_1 p0 c1_0 = some r) : Ret Tryz.prog 169 [.slice a0 p0.length u0, .func (.func 149) #[] #[.pointer (some ⟨b1_0, 0, none⟩)]] w (fun v w' => ∃ (κ' : Col), v = vi r ∧ Ent κ w κ' w') := by
 unfold slices_IndexFunc_I_int64__i_areLetters_1 at h
 refine Ret.enter F169 R N169 R ?_
 dsimp only [envOf]
 have hE := Ent.refl κ w
 refine Je [2] R (Jb 1 R (Jq (Je [2, 2, 2] R (Jn 1 R (Jf R (Je2 U40 R R) (Jb 1 R ?_))))))
 have hN1 : (p0.length : Int) ≤ 9223372036854775807 := g0.len_le
 refine Ob h fun q2 hq3 hK2 => ?_
 clear h
 refine Jx1 (fun L w' => ∃ κ', L = [(1, .func (.func 149) #[] #[.pointer (some ⟨b1_0, 0, none⟩)])] ∧ Stp [] κ w κ' w' ∧ q2 = Sum.inr ()) ?_ ?_
 refine Jv (Jy1 (fun k L w' => ∃ κ' v8, L = [(0, .slice a0 p0.length u0), (1, .func (.func 149) #[] #[.pointer (some ⟨b1_0, 0, none⟩)]), (7, vi (p0.length : Int)), (8, vi v8)] ∧ Stp [] κ w κ' w' ∧ 0 ≤ v8 ∧ Int.toNat ((p0.length : Int) - v8) = k ∧ cntM (slices_IndexFunc_I_int64__i_areLetters_1_b0 p0 c1_0) k v8 () = some q2) ⟨_, _, ⟨κ, 0, R, (Jx2 _ _).wk R, (by decide), (by simp), hq3⟩, (KM R)⟩ ?_)
 rintro k _ w7 ⟨K8, v8, rfl, S9, hj1, hJ1, h⟩
 rcases k with _ | k
 have hk10 := h; obtain ⟨o1, h⟩ := ex_eq (Sum.inr (Sum.inl ()) : Int ⊕ ((Unit) ⊕ (Unit)))
 have hc1 : decide (v8 < (p0.length : Int)) = false := Jo2 (by omega)
 refine Je [2] R (Jb 1 R (Jq (Jw2 R hc1 (Jc1 (Jt (Jt ?_))))))
 cases h
 have h := hk10
 refine Jb1 ?_
 cases h
 exact Jw1 _ ⟨K8, R, S9.wk R, R⟩ (KM R)
 obtain ⟨o1, h, hk10⟩ := BI h; unfold slices_IndexFunc_I_int64__i_areLetters_1_b0 at h
 have hc1 : decide (v8 < (p0.length : Int)) = true := Jn2 (by omega)
 refine Je [2] R (Jb 1 R (Jq (Jv2 R hc1 (Js (Jp (Jq (Jv (Je [2, 2] R (Jb 2 R (Je [2, 2, 2, 2, 1, 1] R (Jn 3 R (Ob h fun x14 hx14 h => Jf R (Jf2 g0 hx14 U40 Z2 R R R R) (Jl tv R R R R (Jc2 I2 R R (hvE ((g0.stp S9 R R).gInt hx14))) (Ob h fun x16 hx16 h => WO.callV R R R R R R R R C149 (i_areLetters_1_ok (κ := fun b => mp [] 0 (K8 b)) ((gb1_0.stp S9 R R).map (mp [] 0) R R) hx16) ?_))))))))))))))
 rintro _ w13 ⟨k14, rfl, e15⟩
 obtain ⟨K16, S17, m18⟩ := Ji e15 2 R
 refine ⟨tv, Jd ?_⟩
 revert h
 cases ht20 : x16
 refine JF fun h => Jy R (Js (Jz (Jp (Ja [2, 2] R (Jc 2 R ?_)))))
 have hw1 : IntKind.wrap .i64 (v8 + 1) = v8 + 1 := wr1 hj1 (Jm2 hc1) hN1
 rw [hw1]
 have hc1 := Jm2 hc1
 cases h
 exact Jz1 fun a ha => ⟨k, _, Ja3 _, ⟨K16, v8 + 1, R, (S9.tr S17).wk R, by omega, by omega, hk10⟩, (ha.mm R)⟩
 refine JT fun h => Jx R (Je [2, 2] R (Jb 2 R (Ju (Ja1 (Jw (Jw ?_))))))
 cases h
 obtain rfl := Option.some.inj hk10
 have h := hK2
 dsimp only [aft] at h
 refine Ja1 (Jq2 (Jw (Ja2 (l := [.tmp 4]) V169 (Jp2 R R) R ?_)))
 cases h
 exact ⟨K16, R, (hE.stp (S9.tr S17) R R)⟩
 rintro _ w4 ⟨K5, rfl, S6, rfl⟩
 have h := hK2
 dsimp only [aft] at h
 refine Jp (Je [2] R (Jb 1 R (Ju (Ja2 (l := [.tmp 4]) V169 (Jp2 R R) R ?_))))
 cases h
 exact ⟨K5, R, (hE.stp S6 R R)⟩
theorem slices_Contains_I_int64_ok {w : World} {κ : Col} {a0 u0} {p0 : (List Int)} {p1 : Int} (g0 : Rd (Rp.int .i64) κ w 0 a0 u0 p0) {r : Bool} (h : slices_Contains_I_int64 p0 p1 = some r) : Ret Tryz.prog 73 [.slice a0 p0.length u0, vi p1] w (fun v w' => ∃ (κ' : Col), v = .bool r ∧ Ent κ w κ' w') := by
 unfold slices_Contains_I_int64 at h
 refine Ret.enter F73 R N73 R ?_
 dsimp only [envOf]
 have hE := Ent.refl κ w
 refine Je [2] R (Jb 1 R (Je [2, 2, 1, 2, 2] R (Jn 2 R (Ob h fun x7 hx7 h => Jh R R R C122 (slices_Index_I_int64_ok (κ := fun b => mp [] 0 (κ b)) (Jl2 g0 (mp [] 0) R R) hx7) ?_))))
 rintro _ w1 ⟨k2, rfl, e3⟩
 obtain ⟨K4, S5, m6⟩ := Ji e3 2 R
 refine ⟨tv, Jb 2 R (Ju (Ja2 (l := [.tmp 4]) V73 (Jp2 R R) R ?_))⟩
 cases h
 exact ⟨K4, R, (hE.stp S5 R R)⟩
theorem i_loopsIn_1__i_loopsIn_2__i_loopsIn_1_ok (n : Nat) : ∀ {w : World} {κ : Col} {p0 : Int} {a1 u1} {p1 : (List (List Int))} {ad aa} {c2_0 : (List Int)} {a3 u3} {c0 : (List Bool)} {a4 u4} {c1 : (List Bool)} {b2_0 b3 b4 b5} (g1 : Rd (Rp.sl (Rp.int .i64)) κ w 0 a1 u1 p1) (g2_0 : Oc E6 2 κ w 2 ad aa c2_0) (g3 : Oc Ep.bool 4 κ w 3 a3 u3 c0) (g4 : Rd Rp.bool κ w 0 a4 u4 c1) (gb2_0 : Bc κ w 4 b2_0 40 [.slice ad c2_0.length aa]) (gb3 : Bc κ w 0 b3 135 [.slice a3 c0.length u3]) (gb4 : Bc κ w 0 b4 135 [.slice a4 c1.length u4]) (gb5 : Bc κ w 0 b5 173 [.func (.func 152) #[] #[.pointer (some ⟨b3, 0, none⟩), .pointer (some ⟨b4, 0, none⟩), .pointer (some ⟨b5, 0, none⟩)]]) {r : (List Int) × (List Bool)} (h : i_loopsIn_1__i_loopsIn_2__i_loopsIn_1 n p0 p1 c2_0 c0 c1 = some r), Ret Tryz.prog 152 [vi p0, .slice a1 p1.length u1, .func (.func 153) #[] #[.pointer (some ⟨b2_0, 0, none⟩)], .pointer (some ⟨b3, 0, none⟩), .pointer (some ⟨b4, 0, none⟩), .pointer (some ⟨b5, 0, none⟩)] w (fun v w' => ∃ (κ' : Col) (ma0 : Option Addr) (mu0 : Nat), v = .tuple #[] ∧ Ent κ w κ' w' ∧ Oc E6 2 κ' w' 2 ma0 mu0 r.1 ∧ Oc Ep.bool 4 κ' w' 3 a3 u3 r.2 ∧ c0.length = r.2.length ∧ Bc κ' w' 4 b2_0 40 [.slice ma0 r.1.length mu0]) := by
 induction n with
 | zero =>
  intro w κ p0 a1 u1 p1 ad aa c2_0 a3 u3 c0 a4 u4 c1 b2_0 b3 b4 b5 g1 g2_0 g3 g4 gb2_0 gb3 gb4 gb5 r h
  cases h
 | succ n ih =>
  intro w κ p0 a1 u1 p1 ad aa c2_0 a3 u3 c0 a4 u4 c1 b2_0 b3 b4 b5 g1 g2_0 g3 g4 gb2_0 gb3 gb4 gb5 r h
  have h : i_loopsIn_1__i_loopsIn_2__i_loopsIn_1_s (i_loopsIn_1__i_loopsIn_2__i_loopsIn_1 n) p0 p1 c2_0 c0 c1 = some r := h
  unfold i_loopsIn_1__i_loopsIn_2__i_loopsIn_1_s at h
  refine Ret.enter F152 R N152 R ?_
  dsimp only [envOf]
  have hE := Ent.refl κ w
  refine Je [1, 2, 2, 1] R (Jl tv R R R R (Jc2 I135 R R (hvE (gb3.ld 0 R R))) (Jn 1 R (Ob h fun x13 hx13 h => Jf R (Jf2 g3.rdc hx13 U135 Z4 R R R R) (Ob h fun y245 hy245 h => Jk1 (κ := κ) (E := Ep.bool) 3 [] R R R R R R R R Z4 R R R R g3 hy245 fun w1 K2 S3 f4 => ⟨tv, ?_⟩))))
  have hn5 : c0.length = y245.length := (Jt2 hy245).2.2.2.symm
  refine Jd (Jq (Je [2, 2, 2, 1, 2, 2] R (Jn 2 R (Ob h fun x16 hx16 h => Jf R (Jf2 g1 hx16 U24 Z40 R R R R) ?_))))
  have f6 := g1.stp S3 R R
  obtain ⟨ax16, ux16, f7, hl8⟩ := f6.gSl hx16
  refine Jl tv R R R R (Jc2 I40 R R (hvE hl8)) (Jf R (Je2 U40 R R) (Jb 1 R ?_))
  have hN9 : (x16.length : Int) ≤ 9223372036854775807 := f7.len_le
  refine Ob h fun q2 hq11 hK10 => ?_
  clear h
  refine Jx1 (fun L w' => ∃ κ', ∃ s3 : (List Int) × (List Bool), ∃ ah ai, L = [(0, vi p0), (2, .func (.func 153) #[] #[.pointer (some ⟨b2_0, 0, none⟩)]), (3, .pointer (some ⟨b3, 0, none⟩)), (4, .pointer (some ⟨b4, 0, none⟩)), (5, .pointer (some ⟨b5, 0, none⟩))] ∧ Stp [2, 3, 4, 7, 8, 9] K2 w1 κ' w' ∧ Oc E6 2 κ' w' 2 ah ai s3.1 ∧ Oc Ep.bool 4 κ' w' 3 a3 u3 s3.2 ∧ c0.length = s3.2.length ∧ Bc κ' w' 4 b2_0 40 [.slice ah s3.1.length ai] ∧ q2 = Sum.inr s3) ?_ ?_
  refine Jv (Jy1 (fun k L w' => ∃ κ' v19, ∃ s1 : (List Int) × (List Bool), ∃ ab ac, L = [(0, vi p0), (1, .slice a1 p1.length u1), (2, .func (.func 153) #[] #[.pointer (some ⟨b2_0, 0, none⟩)]), (3, .pointer (some ⟨b3, 0, none⟩)), (4, .pointer (some ⟨b4, 0, none⟩)), (5, .pointer (some ⟨b5, 0, none⟩)), (17, .slice ax16 x16.length ux16), (18, vi (x16.length : Int)), (19, vi v19)] ∧ Stp [2, 3, 4, 7, 8, 9] K2 w1 κ' w' ∧ Oc E6 2 κ' w' 2 ab ac s1.1 ∧ Oc Ep.bool 4 κ' w' 3 a3 u3 s1.2 ∧ c0.length = s1.2.length ∧ Bc κ' w' 4 b2_0 40 [.slice ab s1.1.length ac] ∧ 0 ≤ v19 ∧ Int.toNat ((x16.length : Int) - v19) = k ∧ cntM (i_loopsIn_1__i_loopsIn_2__i_loopsIn_1_b0 (i_loopsIn_1__i_loopsIn_2__i_loopsIn_1 n) p1 c1 x16) k v19 s1 = some q2) ⟨_, _, ⟨K2, 0, ((c2_0 : (List Int)), (y245 : (List Bool))), ad, aa, R, (Jx2 _ _).wk R, (g2_0.stp S3 R R), f4, hn5, (gb2_0.stp S3 R R), (by decide), (by simp), hq11⟩, (KM R)⟩ ?_)
  rintro k _ w19 ⟨K20, v19, s1, ab, ac, rfl, S21, f22, f23, hn24, f25, hj9, hJ9, h⟩
  rcases k with _ | k
  have hk28 := h; obtain ⟨o9, h⟩ := ex_eq (Sum.inr (Sum.inl s1) : ((List Int) × (List Bool)) ⊕ (((List Int) × (List Bool)) ⊕ ((List Int) × (List Bool))))
  have hc9 : decide (v19 < (x16.length : Int)) = false := Jo2 (by omega)
  refine Je [2] R (Jb 1 R (Jq (Jw2 R hc9 (Jc1 (Jt (Jt ?_))))))
  cases h
  have h := hk28
  refine Jb1 ?_
  cases h
  exact Jw1 _ ⟨K20, ((s1.1 : (List Int)), (s1.2 : (List Bool))), ab, ac, R, S21.wk R, f22, f23, hn24, f25, R⟩ (KM R)
  obtain ⟨o9, h, hk28⟩ := BI h; unfold i_loopsIn_1__i_loopsIn_2__i_loopsIn_1_b0 at h
  have hc9 : decide (v19 < (x16.length : Int)) = true := Jn2 (by omega)
  refine Je [2] R (Jb 1 R (Jq (Jv2 R hc9 (Js (Jp (Jq (Jv (Je [2, 1, 2] R (Ob h fun x21 hx21 h => Jf R (Jf2 f7 hx21 U40 Z2 R R R R) (Jl tv R R R R (Jc2 I2 R R (hvE ((f7.stp S21 R R).gInt hx21))) (Jb 1 R (Je [1, 2, 2, 1, 2, 1, 2, 2, 1, 2, 2] R ?_))))))))))))
  have f30 := gb4.stp (S3.tr S21) R R
  refine Jl tv R R R R (Jc2 I135 R R (hvE (f30.ld 0 R R))) (Jn 1 R (Ob h fun x25 hx25 h => Jf R (Jf2 g4 hx25 U135 Z4 R R R R) ?_))
  have f31 := g4.stp (S3.tr S21) R R
  refine Jl tv R R R R (Jc2 I4 R R (hvE (f31.gBool hx25))) (Jn 1 R (Ob h fun p33 h hK32 => Ju1 [(5, 1), (6, 2), (7, 2), (8, 1), (9, 2), (10, 2)] [] (fun L w' => L = [(0, vi p0), (1, .slice a1 p1.length u1), (2, .func (.func 153) #[] #[.pointer (some ⟨b2_0, 0, none⟩)]), (3, .pointer (some ⟨b3, 0, none⟩)), (4, .pointer (some ⟨b4, 0, none⟩)), (5, .pointer (some ⟨b5, 0, none⟩)), (10, vi x21), (17, .slice ax16 x16.length ux16), (18, vi (x16.length : Int)), (19, vi v19), (33, .bool p33)] ∧ ∃ κ', Stp [] K20 w19 κ' w') tv ?_ ?_))
  revert h
  cases ht33 : x25
  refine JF fun h => Jd1 R R R R (Jn 2 R (Jd1 R R R R (Jn 2 R ?_)))
  cases h
  exact Jv1 _ tv ⟨R, _, (Jx2 _ _).wk R⟩ (KM R)
  refine JT fun h => Jl tv R R R R (Jc2 I135 R R (hvE ((gb3.stp (S3.tr S21) R R).ld 0 R R))) (Jn 1 R (Ob h fun x30 hx30 h => Jf R (Jf2 f23.rdc hx30 U135 Z4 R R hn24 R) (Jl tv R R R R (Jc2 I4 R R (hvE (f23.rdc.gBool hx30))) (Jn 2 R ?_))))
  cases h
  exact Jv1 _ tv ⟨R, _, (Jx2 _ _).wk R⟩ (KM R)
  rintro _ w35 _ ⟨rfl, K36, S37⟩
  have h := hK32
  refine Jd (Ob h fun q4 h hK38 => Jx1 (fun L w' => ∃ κ' af ae, L = [(0, vi p0), (1, .slice a1 p1.length u1), (2, .func (.func 153) #[] #[.pointer (some ⟨b2_0, 0, none⟩)]), (3, .pointer (some ⟨b3, 0, none⟩)), (4, .pointer (some ⟨b4, 0, none⟩)), (5, .pointer (some ⟨b5, 0, none⟩)), (17, .slice ax16 x16.length ux16), (18, vi (x16.length : Int)), (19, vi v19)] ∧ Stp [2, 3, 4, 7, 8, 9] K36 w35 κ' w' ∧ Oc E6 2 κ' w' 2 af ae q4.1 ∧ Oc Ep.bool 4 κ' w' 3 a3 u3 q4.2 ∧ c0.length = q4.2.length ∧ Bc κ' w' 4 b2_0 40 [.slice af q4.1.length ae]) ?_ ?_)
  revert h
  cases ht46 : p33
  refine JF fun h => Jy R (Js ?_)
  cases h
  exact Jw1 _ ⟨K36, ab, ac, R, (Jx2 _ _).wk R, (f22.stp S37 R R), (f23.stp S37 R R), hn24, (f25.stp S37 R R)⟩ (KM R)
  refine JT fun h => Jx R (Ja [1, 2, 2, 2, 1] R ?_)
  have f47 := gb5.stp (S3.tr (S21.tr S37)) R R
  refine Jl tv R R R R (Jc2 I173 R R (hvE (f47.ld 0 R R))) (Jn 3 R (Ob h fun x38 hx38 h => WO.callV R R R R R R R R C152 (ih (κ := fun b => mp [(2, 2), (3, 3), (4, 4)] 0 (K36 b)) (Jl2 (f6.stp (S21.tr S37) R R) (mp [(2, 2), (3, 3), (4, 4)] 0) R R) ((f22.stp S37 R R).map (mp [(2, 2), (3, 3), (4, 4)] 0) R R) ((f23.stp S37 R R).map (mp [(2, 2), (3, 3), (4, 4)] 0) R R) (Jl2 (f31.stp S37 R R) (mp [(2, 2), (3, 3), (4, 4)] 0) R R) ((f25.stp S37 R R).map (mp [(2, 2), (3, 3), (4, 4)] 0) R R) (Bc.cast ((gb3.stp (S3.tr (S21.tr S37)) R R).map (mp [(2, 2), (3, 3), (4, 4)] 0) R R) (by simp only [hn24])) ((f30.stp S37 R R).map (mp [(2, 2), (3, 3), (4, 4)] 0) R R) (f47.map (mp [(2, 2), (3, 3), (4, 4)] 0) R R) hx38) ?_))
  rintro _ w55 ⟨k56, aj, al, rfl, e57, f58, f59, hn60, f61⟩
  obtain ⟨K62, S63, m64⟩ := Ji e57 5 R
  refine ⟨tv, Jo ?_⟩
  cases h
  exact Jw1 _ ⟨(fun b => ren [(7, 2), (8, 3), (9, 4)] (K62 b)), aj, al, R, (Jy2 (S63.wk R) [(7, 2), (8, 3), (9, 4)] R), ((f58.mx (no_int _) m64 R (R : 5 + 2 = 7)).map (ren [(7, 2), (8, 3), (9, 4)]) R R), ((f59.mx no_bool m64 R (R : 5 + 3 = 8)).map (ren [(7, 2), (8, 3), (9, 4)]) R R), (hn24.trans hn60), ((f61.mx m64 R (R : 5 + 4 = 9)).map (ren [(7, 2), (8, 3), (9, 4)]) R R)⟩ (KM R)
  rintro _ w39 ⟨K40, af, ae, rfl, S41, f42, f43, hn44, f45⟩
  have h := hK38
  refine Jz (Jp (Ja [2, 2] R (Jc 2 R ?_)))
  have hw9 : IntKind.wrap .i64 (v19 + 1) = v19 + 1 := wr1 hj9 (Jm2 hc9) hN9
  rw [hw9]
  have hc9 := Jm2 hc9
  cases h
  exact Jz1 fun a ha => ⟨k, _, Ja3 _, ⟨K40, v19 + 1, ((q4.1 : (List Int)), (q4.2 : (List Bool))), af, ae, R, (S21.tr (S37.tr S41)).wk R, f42, f43, hn44, f45, by omega, by omega, hk28⟩, (ha.mm R)⟩
  rintro _ w12 ⟨K13, s3, ah, ai, rfl, S14, f15, f16, hn17, f18, rfl⟩
  have h := hK10
  dsimp only [aft] at h
  refine Jp (Ja [2, 2, 1] R (Jn 2 R (Ob h fun x42 hx42 h => WO.callV R R R R R R R R C153 (i_loopsIn_2_ok (κ := fun b => mp [(2, 2), (4, 3)] 0 (K13 b)) (f15.map (mp [(2, 2), (4, 3)] 0) R R) (f18.map (mp [(2, 2), (4, 3)] 0) R R) hx42) ?_)))
  rintro _ w72 ⟨k73, ak, am, rfl, e74, f75, f76⟩
  obtain ⟨K77, S78, m79⟩ := Ji e74 5 R
  refine ⟨tv, Jo (DN.end0 V152 ?_)⟩
  cases h
  exact ⟨(fun b => ren [(7, 2), (8, 4)] (K77 b)), ak, am, R, ((hE.stp (S3.tr (S14.tr S78)) R R).map (ren [(7, 2), (8, 4)]) R R), ((f75.mx (no_int _) m79 R (R : 5 + 2 = 7)).map (ren [(7, 2), (8, 4)]) R R), ((f16.stp S78 R R).map (ren [(7, 2), (8, 4)]) R R), hn17, ((f76.mx m79 R (R : 5 + 3 = 8)).map (ren [(7, 2), (8, 4)]) R R)⟩
theorem i_loopsIn_1__i_loopsIn_3__i_loopsIn_1_ok (n : Nat) : ∀ {w : World} {κ : Col} {p0 : Int} {a1 u1} {p1 : (List (List Int))} {ad aa} {c2_0 : (List Int)} {a3 u3} {c0 : (List Bool)} {a4 u4} {c1 : (List Bool)} {b2_0 b3 b4 b5} (g1 : Rd (Rp.sl (Rp.int .i64)) κ w 0 a1 u1 p1) (g2_0 : Oc E6 2 κ w 2 ad aa c2_0) (g3 : Oc Ep.bool 4 κ w 3 a3 u3 c0) (g4 : Rd Rp.bool κ w 0 a4 u4 c1) (gb2_0 : Bc κ w 4 b2_0 40 [.slice ad c2_0.length aa]) (gb3 : Bc κ w 0 b3 135 [.slice a3 c0.length u3]) (gb4 : Bc κ w 0 b4 135 [.slice a4 c1.length u4]) (gb5 : Bc κ w 0 b5 173 [.func (.func 152) #[] #[.pointer (some ⟨b3, 0, none⟩), .pointer (some ⟨b4, 0, none⟩), .pointer (some ⟨b5, 0, none⟩)]]) {r : (List Int) × (List Bool)} (h : i_loopsIn_1__i_loopsIn_3__i_loopsIn_1 n p0 p1 c2_0 c0 c1 = some r), Ret Tryz.prog 152 [vi p0, .slice a1 p1.length u1, .func (.func 154) #[] #[.pointer (some ⟨b2_0, 0, none⟩)], .pointer (some ⟨b3, 0, none⟩), .pointer (some ⟨b4, 0, none⟩), .pointer (some ⟨b5, 0, none⟩)] w (fun v w' => ∃ (κ' : Col) (ma0 : Option Addr) (mu0 : Nat), v = .tuple #[] ∧ Ent κ w κ' w' ∧ Oc E6 2 κ' w' 2 ma0 mu0 r.1 ∧ Oc Ep.bool 4 κ' w' 3 a3 u3 r.2 ∧ c0.length = r.2.length ∧ Bc κ' w' 4 b2_0 40 [.slice ma0 r.1.length mu0]) := by
 induction n with
 | zero =>
  intro w κ p0 a1 u1 p1 ad aa c2_0 a3 u3 c0 a4 u4 c1 b2_0 b3 b4 b5 g1 g2_0 g3 g4 gb2_0 gb3 gb4 gb5 r h
  cases h
 | succ n ih =>
  intro w κ p0 a1 u1 p1 ad aa c2_0 a3 u3 c0 a4 u4 c1 b2_0 b3 b4 b5 g1 g2_0 g3 g4 gb2_0 gb3 gb4 gb5 r h
  have h : i_loopsIn_1__i_loopsIn_3__i_loopsIn_1_s (i_loopsIn_1__i_loopsIn_3__i_loopsIn_1 n) p0 p1 c2_0 c0 c1 = some r := h
  unfold i_loopsIn_1__i_loopsIn_3__i_loopsIn_1_s at h
  refine Ret.enter F152 R N152 R ?_
  dsimp only [envOf]
  have hE := Ent.refl κ w
  refine Je [1, 2, 2, 1] R (Jl tv R R R R (Jc2 I135 R R (hvE (gb3.ld 0 R R))) (Jn 1 R (Ob h fun x13 hx13 h => Jf R (Jf2 g3.rdc hx13 U135 Z4 R R R R) (Ob h fun y245 hy245 h => Jk1 (κ := κ) (E := Ep.bool) 3 [] R R R R R R R R Z4 R R R R g3 hy245 fun w1 K2 S3 f4 => ⟨tv, ?_⟩))))
  have hn5 : c0.length = y245.length := (Jt2 hy245).2.2.2.symm
  refine Jd (Jq (Je [2, 2, 2, 1, 2, 2] R (Jn 2 R (Ob h fun x16 hx16 h => Jf R (Jf2 g1 hx16 U24 Z40 R R R R) ?_))))
  have f6 := g1.stp S3 R R
  obtain ⟨ax16, ux16, f7, hl8⟩ := f6.gSl hx16
  refine Jl tv R R R R (Jc2 I40 R R (hvE hl8)) (Jf R (Je2 U40 R R) (Jb 1 R ?_))
  have hN9 : (x16.length : Int) ≤ 9223372036854775807 := f7.len_le
  refine Ob h fun q2 hq11 hK10 => ?_
  clear h
  refine Jx1 (fun L w' => ∃ κ', ∃ s3 : (List Int) × (List Bool), ∃ ah ai, L = [(0, vi p0), (2, .func (.func 154) #[] #[.pointer (some ⟨b2_0, 0, none⟩)]), (3, .pointer (some ⟨b3, 0, none⟩)), (4, .pointer (some ⟨b4, 0, none⟩)), (5, .pointer (some ⟨b5, 0, none⟩))] ∧ Stp [2, 3, 4, 7, 8, 9] K2 w1 κ' w' ∧ Oc E6 2 κ' w' 2 ah ai s3.1 ∧ Oc Ep.bool 4 κ' w' 3 a3 u3 s3.2 ∧ c0.length = s3.2.length ∧ Bc κ' w' 4 b2_0 40 [.slice ah s3.1.length ai] ∧ q2 = Sum.inr s3) ?_ ?_
  refine Jv (Jy1 (fun k L w' => ∃ κ' v19, ∃ s1 : (List Int) × (List Bool), ∃ ab ac, L = [(0, vi p0), (1, .slice a1 p1.length u1), (2, .func (.func 154) #[] #[.pointer (some ⟨b2_0, 0, none⟩)]), (3, .pointer (some ⟨b3, 0, none⟩)), (4, .pointer (some ⟨b4, 0, none⟩)), (5, .pointer (some ⟨b5, 0, none⟩)), (17, .slice ax16 x16.length ux16), (18, vi (x16.length : Int)), (19, vi v19)] ∧ Stp [2, 3, 4, 7, 8, 9] K2 w1 κ' w' ∧ Oc E6 2 κ' w' 2 ab ac s1.1 ∧ Oc Ep.bool 4 κ' w' 3 a3 u3 s1.2 ∧ c0.length = s1.2.length ∧ Bc κ' w' 4 b2_0 40 [.slice ab s1.1.length ac] ∧ 0 ≤ v19 ∧ Int.toNat ((x16.length : Int) - v19) = k ∧ cntM (i_loopsIn_1__i_loopsIn_3__i_loopsIn_1_b0 (i_loopsIn_1__i_loopsIn_3__i_loopsIn_1 n) p1 c1 x16) k v19 s1 = some q2) ⟨_, _, ⟨K2, 0, ((c2_0 : (List Int)), (y245 : (List Bool))), ad, aa, R, (Jx2 _ _).wk R, (g2_0.stp S3 R R), f4, hn5, (gb2_0.stp S3 R R), (by decide), (by simp), hq11⟩, (KM R)⟩ ?_)
  rintro k _ w19 ⟨K20, v19, s1, ab, ac, rfl, S21, f22, f23, hn24, f25, hj9, hJ9, h⟩
  rcases k with _ | k
  have hk28 := h; obtain ⟨o9, h⟩ := ex_eq (Sum.inr (Sum.inl s1) : ((List Int) × (List Bool)) ⊕ (((List Int) × (List Bool)) ⊕ ((List Int) × (List Bool))))
  have hc9 : decide (v19 < (x16.length : Int)) = false := Jo2 (by omega)
  refine Je [2] R (Jb 1 R (Jq (Jw2 R hc9 (Jc1 (Jt (Jt ?_))))))
  cases h
  have h := hk28
  refine Jb1 ?_
  cases h
  exact Jw1 _ ⟨K20, ((s1.1 : (List Int)), (s1.2 : (List Bool))), ab, ac, R, S21.wk R, f22, f23, hn24, f25, R⟩ (KM R)
  obtain ⟨o9, h, hk28⟩ := BI h; unfold i_loopsIn_1__i_loopsIn_3__i_loopsIn_1_b0 at h
  have hc9 : decide (v19 < (x16.length : Int)) = true := Jn2 (by omega)
  refine Je [2] R (Jb 1 R (Jq (Jv2 R hc9 (Js (Jp (Jq (Jv (Je [2, 1, 2] R (Ob h fun x21 hx21 h => Jf R (Jf2 f7 hx21 U40 Z2 R R R R) (Jl tv R R R R (Jc2 I2 R R (hvE ((f7.stp S21 R R).gInt hx21))) (Jb 1 R (Je [1, 2, 2, 1, 2, 1, 2, 2, 1, 2, 2] R ?_))))))))))))
  have f30 := gb4.stp (S3.tr S21) R R
  refine Jl tv R R R R (Jc2 I135 R R (hvE (f30.ld 0 R R))) (Jn 1 R (Ob h fun x25 hx25 h => Jf R (Jf2 g4 hx25 U135 Z4 R R R R) ?_))
  have f31 := g4.stp (S3.tr S21) R R
  refine Jl tv R R R R (Jc2 I4 R R (hvE (f31.gBool hx25))) (Jn 1 R (Ob h fun p33 h hK32 => Ju1 [(5, 1), (6, 2), (7, 2), (8, 1), (9, 2), (10, 2)] [] (fun L w' => L = [(0, vi p0), (1, .slice a1 p1.length u1), (2, .func (.func 154) #[] #[.pointer (some ⟨b2_0, 0, none⟩)]), (3, .pointer (some ⟨b3, 0, none⟩)), (4, .pointer (some ⟨b4, 0, none⟩)), (5, .pointer (some ⟨b5, 0, none⟩)), (10, vi x21), (17, .slice ax16 x16.length ux16), (18, vi (x16.length : Int)), (19, vi v19), (33, .bool p33)] ∧ ∃ κ', Stp [] K20 w19 κ' w') tv ?_ ?_))
  revert h
  cases ht33 : x25
  refine JF fun h => Jd1 R R R R (Jn 2 R (Jd1 R R R R (Jn 2 R ?_)))
  cases h
  exact Jv1 _ tv ⟨R, _, (Jx2 _ _).wk R⟩ (KM R)
  refine JT fun h => Jl tv R R R R (Jc2 I135 R R (hvE ((gb3.stp (S3.tr S21) R R).ld 0 R R))) (Jn 1 R (Ob h fun x30 hx30 h => Jf R (Jf2 f23.rdc hx30 U135 Z4 R R hn24 R) (Jl tv R R R R (Jc2 I4 R R (hvE (f23.rdc.gBool hx30))) (Jn 2 R ?_))))
  cases h
  exact Jv1 _ tv ⟨R, _, (Jx2 _ _).wk R⟩ (KM R)
  rintro _ w35 _ ⟨rfl, K36, S37⟩
  have h := hK32
  refine Jd (Ob h fun q4 h hK38 => Jx1 (fun L w' => ∃ κ' af ae, L = [(0, vi p0), (1, .slice a1 p1.length u1), (2, .func (.func 154) #[] #[.pointer (some ⟨b2_0, 0, none⟩)]), (3, .pointer (some ⟨b3, 0, none⟩)), (4, .pointer (some ⟨b4, 0, none⟩)), (5, .pointer (some ⟨b5, 0, none⟩)), (17, .slice ax16 x16.length ux16), (18, vi (x16.length : Int)), (19, vi v19)] ∧ Stp [2, 3, 4, 7, 8, 9] K36 w35 κ' w' ∧ Oc E6 2 κ' w' 2 af ae q4.1 ∧ Oc Ep.bool 4 κ' w' 3 a3 u3 q4.2 ∧ c0.length = q4.2.length ∧ Bc κ' w' 4 b2_0 40 [.slice af q4.1.length ae]) ?_ ?_)
  revert h
  cases ht46 : p33
  refine JF fun h => Jy R (Js ?_)
  cases h
  exact Jw1 _ ⟨K36, ab, ac, R, (Jx2 _ _).wk R, (f22.stp S37 R R), (f23.stp S37 R R), hn24, (f25.stp S37 R R)⟩ (KM R)
  refine JT fun h => Jx R (Ja [1, 2, 2, 2, 1] R ?_)
  have f47 := gb5.stp (S3.tr (S21.tr S37)) R R
  refine Jl tv R R R R (Jc2 I173 R R (hvE (f47.ld 0 R R))) (Jn 3 R (Ob h fun x38 hx38 h => WO.callV R R R R R R R R C152 (ih (κ := fun b => mp [(2, 2), (3, 3), (4, 4)] 0 (K36 b)) (Jl2 (f6.stp (S21.tr S37) R R) (mp [(2, 2), (3, 3), (4, 4)] 0) R R) ((f22.stp S37 R R).map (mp [(2, 2), (3, 3), (4, 4)] 0) R R) ((f23.stp S37 R R).map (mp [(2, 2), (3, 3), (4, 4)] 0) R R) (Jl2 (f31.stp S37 R R) (mp [(2, 2), (3, 3), (4, 4)] 0) R R) ((f25.stp S37 R R).map (mp [(2, 2), (3, 3), (4, 4)] 0) R R) (Bc.cast ((gb3.stp (S3.tr (S21.tr S37)) R R).map (mp [(2, 2), (3, 3), (4, 4)] 0) R R) (by simp only [hn24])) ((f30.stp S37 R R).map (mp [(2, 2), (3, 3), (4, 4)] 0) R R) (f47.map (mp [(2, 2), (3, 3), (4, 4)] 0) R R) hx38) ?_))
  rintro _ w55 ⟨k56, aj, al, rfl, e57, f58, f59, hn60, f61⟩
  obtain ⟨K62, S63, m64⟩ := Ji e57 5 R
  refine ⟨tv, Jo ?_⟩
  cases h
  exact Jw1 _ ⟨(fun b => ren [(7, 2), (8, 3), (9, 4)] (K62 b)), aj, al, R, (Jy2 (S63.wk R) [(7, 2), (8, 3), (9, 4)] R), ((f58.mx (no_int _) m64 R (R : 5 + 2 = 7)).map (ren [(7, 2), (8, 3), (9, 4)]) R R), ((f59.mx no_bool m64 R (R : 5 + 3 = 8)).map (ren [(7, 2), (8, 3), (9, 4)]) R R), (hn24.trans hn60), ((f61.mx m64 R (R : 5 + 4 = 9)).map (ren [(7, 2), (8, 3), (9, 4)]) R R)⟩ (KM R)
  rintro _ w39 ⟨K40, af, ae, rfl, S41, f42, f43, hn44, f45⟩
  have h := hK38
  refine Jz (Jp (Ja [2, 2] R (Jc 2 R ?_)))
  have hw9 : IntKind.wrap .i64 (v19 + 1) = v19 + 1 := wr1 hj9 (Jm2 hc9) hN9
  rw [hw9]
  have hc9 := Jm2 hc9
  cases h
  exact Jz1 fun a ha => ⟨k, _, Ja3 _, ⟨K40, v19 + 1, ((q4.1 : (List Int)), (q4.2 : (List Bool))), af, ae, R, (S21.tr (S37.tr S41)).wk R, f42, f43, hn44, f45, by omega, by omega, hk28⟩, (ha.mm R)⟩
  rintro _ w12 ⟨K13, s3, ah, ai, rfl, S14, f15, f16, hn17, f18, rfl⟩
  have h := hK10
  dsimp only [aft] at h
  refine Jp (Ja [2, 2, 1] R (Jn 2 R (Ob h fun x42 hx42 h => WO.callV R R R R R R R R C154 (i_loopsIn_3_ok (κ := fun b => mp [(2, 2), (4, 3)] 0 (K13 b)) (f15.map (mp [(2, 2), (4, 3)] 0) R R) (f18.map (mp [(2, 2), (4, 3)] 0) R R) hx42) ?_)))
  rintro _ w72 ⟨k73, ak, am, rfl, e74, f75, f76⟩
  obtain ⟨K77, S78, m79⟩ := Ji e74 5 R
  refine ⟨tv, Jo (DN.end0 V152 ?_)⟩
  cases h
  exact ⟨(fun b => ren [(7, 2), (8, 4)] (K77 b)), ak, am, R, ((hE.stp (S3.tr (S14.tr S78)) R R).map (ren [(7, 2), (8, 4)]) R R), ((f75.mx (no_int _) m79 R (R : 5 + 2 = 7)).map (ren [(7, 2), (8, 4)]) R R), ((f16.stp S78 R R).map (ren [(7, 2), (8, 4)]) R R), hn17, ((f76.mx m79 R (R : 5 + 3 = 8)).map (ren [(7, 2), (8, 4)]) R R)⟩
theorem l_eqInt64SS_ok {w : World} {κ : Col} {a0 u0} {p0 : (List (List Int))} {a1 u1} {p1 : (List (List Int))} (g0 : Rd (Rp.sl (Rp.int .i64)) κ w 0 a0 u0 p0) (g1 : Rd (Rp.sl (Rp.int .i64)) κ w 0 a1 u1 p1) {r : Bool} (h : l_eqInt64SS p0 p1 = some r) : Ret Tryz.prog 54 [.slice a0 p0.length u0, .slice a1 p1.length u1] w (fun v w' => ∃ (κ' : Col), v = .bool r ∧ Ent κ w κ' w') := by
 unfold l_eqInt64SS at h
 refine Ret.enter F54 R N54 R ?_
 dsimp only [envOf]
 have hE := Ent.refl κ w
 refine Je [2] R (Jb 1 R (Jq (Je [2, 2, 2, 2, 2] R (Jn 1 R (Jf R (Je2 U24 R R) (Jn 1 R (Jf R (Je2 U24 R R) (Jb 1 R ?_))))))))
 revert h
 cases ht1 : ((p0.length : Int) != (p1.length : Int))
 refine JF fun h => Jy R (Js (Jp (Jq (Je [2] R (Jb 1 R ?_)))))
 have hN2 : (p0.length : Int) ≤ 9223372036854775807 := g0.len_le
 refine Ob h fun q2 hq4 hK3 => ?_
 clear h
 refine Jx1 (fun L w' => ∃ κ', L = [] ∧ Stp [] κ w κ' w' ∧ q2 = Sum.inr ()) ?_ ?_
 refine Jv (Jy1 (fun k L w' => ∃ κ' v5, L = [(0, .slice a0 p0.length u0), (1, .slice a1 p1.length u1), (5, vi v5)] ∧ Stp [] κ w κ' w' ∧ 0 ≤ v5 ∧ Int.toNat ((p0.length : Int) - v5) = k ∧ cntM (l_eqInt64SS_b0 p0 p1) k v5 () = some q2) ⟨_, _, ⟨κ, 0, R, (Jx2 _ _).wk R, (by decide), (by simp), hq4⟩, (KM R)⟩ ?_)
 rintro k _ w8 ⟨K9, v5, rfl, S10, hj2, hJ2, h⟩
 rcases k with _ | k
 have hk11 := h; obtain ⟨o2, h⟩ := ex_eq (Sum.inr (Sum.inl ()) : Bool ⊕ ((Unit) ⊕ (Unit)))
 have hc2 : decide (v5 < (p0.length : Int)) = false := Jo2 (by omega)
 refine Jq (Je [2, 2, 2, 2] R (Jn 2 R (Jf R (Je2 U24 R R) (Jb 1 R (Jw2 R hc2 (Jc1 (Jt (Jt ?_))))))))
 cases h
 have h := hk11
 refine Jb1 ?_
 cases h
 exact Jw1 _ ⟨K9, R, S10.wk R, R⟩ KN
 obtain ⟨o2, h, hk11⟩ := BI h; unfold l_eqInt64SS_b0 at h
 have hc2 : decide (v5 < (p0.length : Int)) = true := Jn2 (by omega)
 refine Jq (Je [2, 2, 2, 2] R (Jn 2 R (Jf R (Je2 U24 R R) (Jb 1 R (Jv2 R hc2 (Js (Jp (Jq (Jv (Jq (Js1 (κ := K9) [0] none [(0, 2), (1, 2), (2, 2), (4, 2), (5, 2), (6, 2), (3, 0), (7, 0), (8, 1), (9, 2)] [] (by kernel_rfl) (by kernel_rfl) fun w13 S12 => Jn 2 R (Ob h fun x19 hx19 h => Jf R (Jf2 g0 hx19 U24 Z40 R R R R) (Jn 2 R (Ob h fun x23 hx23 h => Jf R (Jf2 g1 hx23 U24 Z40 R R R R) ?_))))))))))))))
 obtain ⟨ax19, ux19, f15, hl16⟩ := (g0.stp (S10.tr S12) R R).gSl hx19
 refine Jg R (Jc2 I40 R R (hvC hl16 R)) ?_
 obtain ⟨ax23, ux23, f18, hl19⟩ := (g1.stp (S10.tr S12) R R).gSl hx23
 refine Jg R (Jc2 I40 R R (hvC hl19 R)) (Ob h fun x25 hx25 h => Jh R R R C20 (l_eqInt64S_ok (κ := fun b => mp [] 0 (K9 b)) (Jl2 f15 (mp [] 0) R R) (Jl2 f18 (mp [] 0) R R) hx25) ?_)
 rintro _ w20 ⟨k21, rfl, e22⟩
 obtain ⟨K23, S24, m25⟩ := Ji e22 2 R
 refine ⟨(S24.cl R), Jn 1 R (Jt1 (Jd ?_))⟩
 revert h
 cases ht27 : (!x25)
 refine JF fun h => Jy R (Js (Jz (Jp (Ja [2, 2, 2] R (Jc 3 R ?_)))))
 have hw2 : IntKind.wrap .i64 (v5 + 1) = v5 + 1 := wr1 hj2 (Jm2 hc2) hN2
 rw [hw2]
 have hc2 := Jm2 hc2
 cases h
 exact Jz1 fun a ha => ⟨k, _, Ja3 _, ⟨K23, v5 + 1, R, (S10.tr (S12.tr S24)).wk R, by omega, by omega, hk11⟩, (ha.mm R)⟩
 refine JT fun h => Jx R (Je [2] R (Jb 1 R (Ju (Ja1 (Jw (Jw ?_))))))
 cases h
 obtain rfl := Option.some.inj hk11
 have h := hK3
 dsimp only [aft] at h
 refine Ja1 (Jq2 (Jw (Ja2 (l := [.tmp 4]) V54 (Jp2 R R) R ?_)))
 cases h
 exact ⟨K23, R, (hE.stp (S10.tr (S12.tr S24)) R R)⟩
 rintro _ w5 ⟨K6, rfl, S7, rfl⟩
 have h := hK3
 dsimp only [aft] at h
 refine Jp (Je [2] R (Jb 1 R (Ju (Ja2 (l := [.tmp 4]) V54 (Jp2 R R) R ?_))))
 cases h
 exact ⟨K6, R, (hE.stp S7 R R)⟩
 refine JT fun h => Jx R (Je [2] R (Jb 1 R (Ju (Jw (Ja2 (l := [.tmp 4]) V54 (Jp2 R R) R ?_)))))
 cases h
 exact ⟨κ, R, hE⟩
end Go.Proofs.YtcmamhmpoinmnaaGreat
