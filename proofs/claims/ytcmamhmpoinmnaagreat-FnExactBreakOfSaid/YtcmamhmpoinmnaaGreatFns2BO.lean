/- The walks, part 2. By program. -/
import Derived.Test.YtcmamhmpoinmnaaGreatFns0BO
import Derived.Test.YtcmamhmpoinmnaaGreatFns1BO
set_option linter.unusedVariables false
set_option linter.unusedSimpArgs false
namespace Go.Proofs.YtcmamhmpoinmnaaGreat
open Go Go.Wk Go.Proofs
set_option maxRecDepth 100000
set_option maxHeartbeats 1000000
theorem l_toInt64SS_ok {w : World} {κ : Col} {a0 u0} {p0 : (List (List Int))} (g0 : Rd (Rp.sl (Rp.int .i64)) κ w 0 a0 u0 p0) {r : (List (List Int))} (h : l_toInt64SS p0 = some r) : Ret Tryz.prog 50 [.slice a0 p0.length u0] w (fun v w' => ∃ (κ' : Col) (ra0 : Option Addr) (ru0 : Nat), v = .slice ra0 r.length ru0 ∧ Ent κ w κ' w' ∧ Oc (Ep.own E6 2) 40 κ' w' 2 ra0 ru0 r) := by
 unfold l_toInt64SS at h
 refine Ret.enter F50 R N50 R ?_
 dsimp only [envOf]
 have hE := Ent.refl κ w
 refine Je [2] R (Jb 1 R (Je [2, 2, 1, 2] R (Jn 1 R (Jf R (Je2 U24 R R) (Ob h fun x7 hx7 h => Jl1 (κ := κ) (E := (Ep.own E6 2)) (z := (([] : List Int) : (List Int))) 2 R R R R R R R Y24 Tryzinfo40 R R R R R (fun _ _ _ => ⟨none, 0, R, Ow.nil⟩) (Ju2 hx7) fun a7 u7 w1 K2 S3 f4 => ⟨tv, Jb 1 R (Jq (Je [2] R (Jb 1 R ?_)))⟩)))))
 have hN5 : (p0.length : Int) ≤ 9223372036854775807 := g0.len_le
 refine Ob h fun q2 hq7 hK6 => ?_
 clear h
 refine Jx1 (fun L w' => ∃ κ', ∃ s3 : (List (List Int)), L = [(3, .slice a7 x7.length u7)] ∧ Stp [2, 5] K2 w1 κ' w' ∧ Oc (Ep.own E6 2) 40 κ' w' 2 a7 u7 s3 ∧ x7.length = s3.length ∧ q2 = Sum.inr s3) ?_ ?_
 refine Jv (Jy1 (fun k L w' => ∃ κ' v4, ∃ s1 : (List (List Int)), L = [(0, .slice a0 p0.length u0), (3, .slice a7 x7.length u7), (4, vi v4)] ∧ Stp [2, 5] K2 w1 κ' w' ∧ Oc (Ep.own E6 2) 40 κ' w' 2 a7 u7 s1 ∧ x7.length = s1.length ∧ 0 ≤ v4 ∧ Int.toNat ((p0.length : Int) - v4) = k ∧ cntM (l_toInt64SS_b0 p0) k v4 s1 = some q2) ⟨_, _, ⟨K2, 0, (x7 : (List (List Int))), R, (Jx2 _ _).wk R, f4, R, (by decide), (by simp), hq7⟩, (KM R)⟩ ?_)
 rintro k _ w13 ⟨K14, v4, s1, rfl, S15, f16, hn17, hj5, hJ5, h⟩
 rcases k with _ | k
 have hk18 := h; obtain ⟨o5, h⟩ := ex_eq (Sum.inr (Sum.inl s1) : (List (List Int)) ⊕ (((List (List Int))) ⊕ ((List (List Int)))))
 have hc5 : decide (v4 < (p0.length : Int)) = false := Jo2 (by omega)
 refine Jq (Je [2, 2, 2, 2] R (Jn 2 R (Jf R (Je2 U24 R R) (Jb 1 R (Jw2 R hc5 (Jc1 (Jt (Jt ?_))))))))
 cases h
 have h := hk18
 refine Jb1 ?_
 cases h
 exact Jw1 _ ⟨K14, (s1 : (List (List Int))), R, S15.wk R, f16, hn17, R⟩ (KM R)
 obtain ⟨o5, h, hk18⟩ := BI h; unfold l_toInt64SS_b0 at h
 have hc5 : decide (v4 < (p0.length : Int)) = true := Jn2 (by omega)
 refine Jq (Je [2, 2, 2, 2] R (Jn 2 R (Jf R (Je2 U24 R R) (Jb 1 R (Jv2 R hc5 (Js (Jp (Jq (Jv (Ja [2, 2, 2, 2, 2, 1, 1, 2, 1] R (Jn 4 R (Ob h fun x18 hx18 h => Jf R (Jf2 g0 hx18 U24 Z40 R R R R) ?_))))))))))))
 obtain ⟨ax18, ux18, f20, hl21⟩ := (g0.stp (S3.tr S15) R R).gSl hx18
 refine Jl tv R R R R (Jc2 I40 R R (hvE hl21)) (Ob h fun x20 hx20 h => Jh R R R C68 (l_toInt64S_ok (κ := fun b => mp [] 0 (K14 b)) (Jl2 f20 (mp [] 0) R R) hx20) ?_)
 rintro _ w22 ⟨k23, ab, aa, rfl, e24, f25⟩
 obtain ⟨K26, S27, m28⟩ := Ji e24 3 R
 refine ⟨tv, Ob h fun x21 hx21 h => Jf R (Jf2 f16.rdc hx21 U24 Z40 R R hn17 R) (Ob h fun y15 hy15 h => Jk1 (κ := K26) (E := (Ep.own E6 2)) 2 [5] R R R R R R R R Z40 R ⟨_, _, R, (f25.mx (no_int _) m28 R (R : 3 + 2 = 5))⟩ R R (f16.stp S27 R R) hy15 fun w32 K33 S34 f35 => ⟨tv, ?_⟩)⟩
 have hn36 : x7.length = y15.length := hn17.trans (Jt2 hy15).2.2.2.symm
 refine Jo (Jz (Jp (Ja [2, 2, 2] R (Jc 3 R ?_))))
 have hw5 : IntKind.wrap .i64 (v4 + 1) = v4 + 1 := wr1 hj5 (Jm2 hc5) hN5
 rw [hw5]
 have hc5 := Jm2 hc5
 cases h
 exact Jz1 fun a ha => ⟨k, _, Ja3 _, ⟨K33, v4 + 1, (y15 : (List (List Int))), R, (S15.tr (S27.tr S34)).wk R, f35, hn36, by omega, by omega, hk18⟩, (ha.mm R)⟩
 rintro _ w8 ⟨K9, s3, rfl, S10, f11, hn12, rfl⟩
 have h := hK6
 dsimp only [aft] at h
 refine Jp (Je [2, 2] R (Jb 2 R (Ju (Ja2 (l := [.tmp 2]) V50 (Jp2 R R) R ?_))))
 cases h
 exact ⟨K9, a7, u7, (by simp only [hn12]), (hE.stp (S3.tr S10) R R), f11⟩
theorem l_toClause_ok {w : World} {κ : Col} {ai ae af ah} {p0 : Clause} (g0_1 : Rd (Rp.int .i64) κ w 0 ai ae p0.A) (g0_2 : Rd (Rp.int .i64) κ w 0 af ah p0.B) {r : Clause} (h : l_toClause p0 = some r) : Ret Tryz.prog 51 [.agg #[vi p0.Kind, .slice ai p0.A.length ae, .slice af p0.B.length ah]] w (fun v w' => ∃ (κ' : Col) (ra0 : Option Addr) (ru0 : Nat) (ra1 : Option Addr) (ru1 : Nat), v = .agg #[vi r.Kind, .slice ra0 r.A.length ru0, .slice ra1 r.B.length ru1] ∧ Ent κ w κ' w' ∧ Oc E6 2 κ' w' 2 ra0 ru0 r.A ∧ Oc E6 2 κ' w' 3 ra1 ru1 r.B) := by
 unfold l_toClause at h
 refine Ret.enter F51 R N51 R ?_
 dsimp only [envOf]
 have hE := Ent.refl κ w
 refine Je [1, 1] R (Jf1 (κ := κ) 2 R R R R R R R fun b1 w1 K2 S3 f4 => ⟨tv, Jg1 (κ := K2) 3 R R R R R X71 R fun b2 w5 K6 S7 f8 => ⟨tv, Jd (Je [1] R (Jg1 (κ := K6) 4 R R R R R X71 R fun b3 w9 K10 S11 f12 => ⟨tv, Jd (Je [2, 1, 2, 1] R (Jf R (Jb2 U78 R Z2 R R) ?_))⟩))⟩⟩)
 have f13 := f4.stp (S7.tr S11) R R
 refine Jl tv R R R R (Jc2 I2 R R (hvE (f13.ld 0 R R))) (Jf R (Jb2 U71 R Z2 R R) (Ji1 (κ := K10) 4 (off := 0) (vc := [vi p0.Kind]) (cs' := [vi p0.Kind, .slice none 0 0, .slice none 0 0]) R R R R R R R Z2 R R f12 R R fun w14 S15 f16 => ⟨tv, Jd (Je [2, 1, 1, 2, 1] R (Jf R (Jb2 U78 R Z40 R R) ?_))⟩))
 have f17 := f13.stp S15 R R
 refine Jl tv R R R R (Jc2 I40 R R (hvE (f17.ld 1 R R))) (Ob h fun x9 hx9 h => Jh R R R C68 (l_toInt64S_ok (κ := fun b => mp [] 0 (K10 b)) (Jl2 (g0_1.stp (S3.tr (S7.tr (S11.tr S15))) R R) (mp [] 0) R R) hx9) ?_)
 rintro _ w19 ⟨k20, ab, aa, rfl, e21, f22⟩
 obtain ⟨K23, S24, m25⟩ := Ji e21 5 R
 refine ⟨tv, Jf R (Jb2 U71 R Z40 R R) (Ji1 (κ := K23) 4 (off := 1) (vc := [.slice ab x9.length aa]) (cs' := [vi p0.Kind, .slice ab x9.length aa, .slice none 0 0]) R R R R R R R Z40 R R (f16.stp S24 R R) R R fun w29 S30 f31 => ⟨tv, Jd (Je [2, 1, 1, 2, 1] R (Jf R (Jb2 U78 R Z40 R R) (Jl tv R R R R (Jc2 I40 R R (hvE ((f17.stp (S24.tr S30) R R).ld 2 R R))) (Ob h fun x13 hx13 h => Jh R R R C68 (l_toInt64S_ok (κ := fun b => mp [] 0 (K23 b)) (Jl2 (g0_2.stp (S3.tr (S7.tr (S11.tr (S15.tr (S24.tr S30))))) R R) (mp [] 0) R R) hx13) ?_))))⟩)⟩
 rintro _ w34 ⟨k35, ac, ad, rfl, e36, f37⟩
 obtain ⟨K38, S39, m40⟩ := Ji e36 8 R
 refine ⟨tv, Jf R (Jb2 U71 R Z40 R R) (Ji1 (κ := K38) 4 (off := 2) (vc := [.slice ac x13.length ad]) (cs' := [vi p0.Kind, .slice ab x9.length aa, .slice ac x13.length ad]) R R R R R R R Z40 R R (f31.stp S39 R R) R R fun w44 S45 f46 => ⟨tv, Jd (Je [1, 1] R (Jl tv R R R R (Jd2 (cs := [vi p0.Kind, .slice ab x9.length aa, .slice ac x13.length ad]) I71 Z71 R R R (haE f46.cells)) (Jj1 (κ := K38) 3 (vc := [vi p0.Kind, .slice ab x9.length aa, .slice ac x13.length ad]) R R R R R R R Z71 R R (f8.stp (S11.tr (S15.tr (S24.tr (S30.tr (S39.tr S45))))) R R) R fun w48 S49 f50 => ⟨tv, Jd (Ju (Ja2 (l := [.cell 2 71]) V51 (res_cellA R f50 I71 Z71 R R) R ?_))⟩)))⟩)⟩
 cases h
 exact ⟨(fun b => ren [(7, 2), (10, 3)] (K38 b)), ab, aa, ac, ad, R, ((hE.stp (S3.tr (S7.tr (S11.tr (S15.tr (S24.tr (S30.tr (S39.tr (S45.tr S49)))))))) R R).map (ren [(7, 2), (10, 3)]) R R), (((f22.mx (no_int _) m25 R (R : 5 + 2 = 7)).stp (S30.tr (S39.tr (S45.tr S49))) R R).map (ren [(7, 2), (10, 3)]) R R), (((f37.mx (no_int _) m40 R (R : 8 + 2 = 10)).stp (S45.tr S49) R R).map (ren [(7, 2), (10, 3)]) R R)⟩
theorem s_l25Next_ok {w : World} {κ : Col} {ab ac aa ad} {p0 : Clause} {p1 : Int} {p2 : Int} (g0_1 : Rd (Rp.int .i64) κ w 0 ab ac p0.A) (g0_2 : Rd (Rp.int .i64) κ w 0 aa ad p0.B) {r : Int} (h : s_l25Next p0 p1 p2 = some r) : Ret Tryz.prog 142 [.agg #[vi p0.Kind, .slice ab p0.A.length ac, .slice aa p0.B.length ad], vi p1, vi p2] w (fun v w' => ∃ (κ' : Col), v = vi r ∧ Ent κ w κ' w') := by
 unfold s_l25Next at h
 refine Ret.enter F142 R N142 R ?_
 dsimp only [envOf]
 have hE := Ent.refl κ w
 refine Je [1, 2] R (Jf1 (κ := κ) 2 R R R R R R R fun b3 w1 K2 S3 f4 => ⟨tv, Jb 1 R (Je [2, 1, 2, 1, 1, 2] R (Jf R (Jb2 U71 R Z40 R R) (Jl tv R R R R (Jc2 I40 R R (hvE (f4.ld 1 R R))) (Jn 1 R (Ob h fun x12 hx12 h => Jh R R R C117 (s_l1Has_ok (κ := fun b => mp [] 0 (K2 b)) (Jl2 (g0_1.stp S3 R R) (mp [] 0) R R) hx12) ?_)))))⟩)
 rintro _ w6 ⟨k7, rfl, e8⟩
 obtain ⟨K9, S10, m11⟩ := Ji e8 3 R
 refine ⟨tv, Ob h fun x13 hx13 h => Jh R R R C167 (s_l1Flag_ok (κ := fun b => mp [] 0 (K9 b)) hx13) ?_⟩
 rintro _ w13 ⟨k14, rfl, e15⟩
 obtain ⟨K16, S17, m18⟩ := Ji e15 5 R
 refine ⟨tv, Jb 1 R (Je [2, 1, 2, 1, 1, 2] R (Jf R (Jb2 U71 R Z40 R R) ?_))⟩
 have f20 := f4.stp (S10.tr S17) R R
 refine Jl tv R R R R (Jc2 I40 R R (hvE (f20.ld 2 R R))) (Jn 1 R (Ob h fun x17 hx17 h => Jh R R R C117 (s_l1Has_ok (κ := fun b => mp [] 0 (K16 b)) (Jl2 (g0_2.stp (S3.tr (S10.tr S17)) R R) (mp [] 0) R R) hx17) ?_))
 rintro _ w22 ⟨k23, rfl, e24⟩
 obtain ⟨K25, S26, m27⟩ := Ji e24 7 R
 refine ⟨tv, Ob h fun x18 hx18 h => Jh R R R C167 (s_l1Flag_ok (κ := fun b => mp [] 0 (K25 b)) hx18) ?_⟩
 rintro _ w29 ⟨k30, rfl, e31⟩
 obtain ⟨K32, S33, m34⟩ := Ji e31 9 R
 refine ⟨tv, Jb 1 R (Jq (Je [2, 1] R (Jf R (Jb2 U71 R Z2 R R) (Jl tv R R R R (Jc2 I2 R R (hvE ((f20.stp (S26.tr S33) R R).ld 0 R R))) (Jd (Jv (Je [2, 2] R (Jb 2 R ?_))))))))⟩
 revert h
 cases ht37 : (p0.Kind == 1)
 refine JF fun h => Jy R (Je [2, 2] R (Jb 2 R ?_))
 revert h
 cases ht46 : (p0.Kind == 2)
 refine JF fun h => Jy R (Je [2, 2] R (Jb 2 R ?_))
 revert h
 cases ht60 : (p0.Kind == 3)
 refine JF fun h => Jy R (Je [2, 2] R (Jb 2 R ?_))
 revert h
 cases ht71 : (p0.Kind == 4)
 refine JF fun h => Jy R (Je [2, 2] R (Jb 2 R ?_))
 revert h
 cases ht73 : (p0.Kind == 5)
 refine JF fun h => Jy R (Je [2, 2] R (Jb 2 R ?_))
 revert h
 cases ht75 : (p0.Kind == 6)
 refine JF fun h => Jy R (Js (Jz (Jp (Je [2, 2, 2, 2, 2] R (Jb 5 R (Ju (Ja2 (l := [.tmp 6]) V142 (Jp2 R R) R ?_)))))))
 cases h
 exact ⟨K32, R, (hE.stp (S3.tr (S10.tr (S17.tr (S26.tr S33)))) R R)⟩
 refine JT fun h => Jx R (Je [2, 2, 1, 2] R (Jn 2 R (Ob h fun x58 hx58 h => Jh R R R C95 (s_l1Max_ok (κ := fun b => mp [] 0 (K32 b)) hx58) ?_)))
 rintro _ w76 ⟨k77, rfl, e78⟩
 obtain ⟨K79, S80, m81⟩ := Ji e78 11 R
 refine ⟨tv, Jb 1 R (Ju (Ja1 (Jw (Ja2 (l := [.tmp 6]) V142 (Jp2 R R) R ?_))))⟩
 cases h
 exact ⟨K79, R, (hE.stp (S3.tr (S10.tr (S17.tr (S26.tr (S33.tr S80))))) R R)⟩
 refine JT fun h => Jx R (Je [2, 2, 2] R (Jb 3 R (Ju (Ja1 (Jw (Ja2 (l := [.tmp 6]) V142 (Jp2 R R) R ?_))))))
 cases h
 exact ⟨K32, R, (hE.stp (S3.tr (S10.tr (S17.tr (S26.tr S33)))) R R)⟩
 refine JT fun h => Jx R (Je [2, 2] R (Jb 2 R (Ju (Ja1 (Jw (Ja2 (l := [.tmp 6]) V142 (Jp2 R R) R ?_))))))
 cases h
 exact ⟨K32, R, (hE.stp (S3.tr (S10.tr (S17.tr (S26.tr S33)))) R R)⟩
 refine JT fun h => Jx R (Jq (Je [2, 2] R (Jb 2 R ?_)))
 revert h
 cases ht61 : (x18 == 1)
 refine JF fun h => Jy R (Js (Jp (Je [2, 2, 1, 2] R (Jn 2 R (Ob h fun x46 hx46 h => Jh R R R C95 (s_l1Max_ok (κ := fun b => mp [] 0 (K32 b)) hx46) ?_)))))
 rintro _ w63 ⟨k64, rfl, e65⟩
 obtain ⟨K66, S67, m68⟩ := Ji e65 11 R
 refine ⟨tv, Jb 1 R (Ju (Ja1 (Jw (Ja2 (l := [.tmp 6]) V142 (Jp2 R R) R ?_))))⟩
 cases h
 exact ⟨K66, R, (hE.stp (S3.tr (S10.tr (S17.tr (S26.tr (S33.tr S67))))) R R)⟩
 refine JT fun h => Jx R (Je [2] R (Jb 1 R (Ju (Jw (Ja1 (Jw (Ja2 (l := [.tmp 6]) V142 (Jp2 R R) R ?_)))))))
 cases h
 exact ⟨K32, R, (hE.stp (S3.tr (S10.tr (S17.tr (S26.tr S33)))) R R)⟩
 refine JT fun h => Jx R (Jq (Je [2, 2, 2, 2, 2, 2, 2, 2, 2, 2] R (Jn 3 R (Ob h fun p38 h hK47 => Ju1 [(3, 2), (4, 2), (5, 2), (6, 2), (7, 2), (8, 2), (9, 2)] [] (fun L w' => L = [(7, vi x13), (38, .bool p38)] ∧ ∃ κ', Stp [] K32 w29 κ' w') tv ?_ ?_))))
 revert h
 cases ht48 : (p1 == 2)
 refine JF fun h => Jn 3 R (Ob h fun p37 h hK49 => Ju1 [(6, 2), (7, 2), (8, 2)] [(9, 2)] (fun L w' => L = [(7, vi x13), (31, .bool false), (37, .bool p37)] ∧ ∃ κ', Stp [] K32 w29 κ' w') tv ?_ ?_)
 revert h
 cases ht50 : (p1 == 1)
 refine JF fun h => Jn 3 R ?_
 cases h
 exact Jv1 _ tv ⟨R, _, (Jx2 _ _).wk R⟩ (KM R)
 refine JT fun h => Jn 3 R ?_
 cases h
 exact Jv1 _ tv ⟨R, _, (Jx2 _ _).wk R⟩ (KM R)
 rintro _ w51 _ ⟨rfl, K52, S53⟩
 have h := hK49
 refine Jn 1 R ?_
 cases h
 exact Jv1 _ tv ⟨R, _, S53.wk R⟩ (KM R)
 refine JT fun h => Jn 7 R ?_
 cases h
 exact Jv1 _ tv ⟨R, _, (Jx2 _ _).wk R⟩ (KM R)
 rintro _ w54 _ ⟨rfl, K55, S56⟩
 have h := hK47
 refine Jd ?_
 revert h
 cases ht57 : p38
 refine JF fun h => Jy R (Js (Jp (Je [2, 2] R (Jb 2 R (Ju (Ja1 (Jw (Ja2 (l := [.tmp 6]) V142 (Jp2 R R) R ?_))))))))
 cases h
 exact ⟨K55, R, (hE.stp (S3.tr (S10.tr (S17.tr (S26.tr (S33.tr S56))))) R R)⟩
 refine JT fun h => Jx R (Je [2] R (Jb 1 R (Ju (Jw (Ja1 (Jw (Ja2 (l := [.tmp 6]) V142 (Jp2 R R) R ?_)))))))
 cases h
 exact ⟨K55, R, (hE.stp (S3.tr (S10.tr (S17.tr (S26.tr (S33.tr S56))))) R R)⟩
 refine JT fun h => Jx R (Je [2, 2, 2, 1, 2] R (Jn 3 R (Ob h fun x26 hx26 h => Jh R R R C95 (s_l1Max_ok (κ := fun b => mp [] 0 (K32 b)) hx26) ?_)))
 rintro _ w38 ⟨k39, rfl, e40⟩
 obtain ⟨K41, S42, m43⟩ := Ji e40 11 R
 refine ⟨tv, Jb 1 R (Ju (Ja1 (Jw (Ja2 (l := [.tmp 6]) V142 (Jp2 R R) R ?_))))⟩
 cases h
 exact ⟨K41, R, (hE.stp (S3.tr (S10.tr (S17.tr (S26.tr (S33.tr S42))))) R R)⟩
theorem s_l26Pairs_ok {w : World} {κ : Col} {a0 u0} {p0 : (List Pair)} {a1 u1} {p1 : (List (List Int))} {p2 : Int} (g0 : Rd Pair.rp κ w 0 a0 u0 p0) (g1 : Rd (Rp.sl (Rp.int .i64)) κ w 0 a1 u1 p1) {r : (List Pair)} (h : s_l26Pairs p0 p1 p2 = some r) : Ret Tryz.prog 66 [.slice a0 p0.length u0, .slice a1 p1.length u1, vi p2] w (fun v w' => ∃ (κ' : Col) (ra0 : Option Addr) (ru0 : Nat), v = .slice ra0 r.length ru0 ∧ Ent κ w κ' w' ∧ Oc Pair.ep92 92 κ' w' 2 ra0 ru0 r) := by
 unfold s_l26Pairs at h
 refine Ret.enter F66 R N66 R ?_
 dsimp only [envOf]
 have hE := Ent.refl κ w
 refine Je [2] R (Jb 1 R (Je [1, 2] R (Jo1 (κ := κ) (E := Pair.ep92) 2 R R R R R Y79 Tryzinfo92 R fun ax az w1 K2 S3 f4 => ⟨tv, Jb 1 R (Jq (Je [2] R (Jb 1 R ?_)))⟩)))
 have hN5 : (p0.length : Int) ≤ 9223372036854775807 := g0.len_le
 refine Ob h fun q2 hq7 hK6 => ?_
 clear h
 refine Jx1 (fun L w' => ∃ κ', ∃ s3 : (List Pair), ∃ ap aq, L = [(7, .slice ap s3.length aq)] ∧ Stp [2, 3, 4, 5, 6] K2 w1 κ' w' ∧ Oc Pair.ep92 92 κ' w' 2 ap aq s3 ∧ q2 = Sum.inr s3) ?_ ?_
 refine Jv (Jy1 (fun k L w' => ∃ κ' v8, ∃ s1 : (List Pair), ∃ aa ab, L = [(0, .slice a0 p0.length u0), (1, .slice a1 p1.length u1), (2, vi p2), (7, .slice aa s1.length ab), (8, vi v8)] ∧ Stp [2, 3, 4, 5, 6] K2 w1 κ' w' ∧ Oc Pair.ep92 92 κ' w' 2 aa ab s1 ∧ 0 ≤ v8 ∧ Int.toNat ((p0.length : Int) - v8) = k ∧ cntM (s_l26Pairs_b0 p0 p1 p2) k v8 s1 = some q2) ⟨_, _, ⟨K2, 0, (([] : List Pair) : (List Pair)), ax, az, R, (Jx2 _ _).wk R, f4, (by decide), (by simp), hq7⟩, (KM R)⟩ ?_)
 rintro k _ w12 ⟨K13, v8, s1, aa, ab, rfl, S14, f15, hj5, hJ5, h⟩
 rcases k with _ | k
 have hk16 := h; obtain ⟨o5, h⟩ := ex_eq (Sum.inr (Sum.inl s1) : (List Pair) ⊕ (((List Pair)) ⊕ ((List Pair))))
 have hc5 : decide (v8 < (p0.length : Int)) = false := Jo2 (by omega)
 refine Jq (Je [2, 2, 2, 2] R (Jn 2 R (Jf R (Je2 U79 R R) (Jb 1 R (Jw2 R hc5 (Jc1 (Jt (Jt ?_))))))))
 cases h
 have h := hk16
 refine Jb1 ?_
 cases h
 exact Jw1 _ ⟨K13, (s1 : (List Pair)), aa, ab, R, S14.wk R, f15, R⟩ (KM R)
 obtain ⟨o5, h, hk16⟩ := BI h; unfold s_l26Pairs_b0 at h
 have hc5 : decide (v8 < (p0.length : Int)) = true := Jn2 (by omega)
 refine Jq (Je [2, 2, 2, 2] R (Jn 2 R (Jf R (Je2 U79 R R) (Jb 1 R (Jv2 R hc5 (Js (Jp (Jq (Jv (Je [2, 1, 1] R (Jf R (rn_build (parts := []) (cells := [.slice none 0 0, .slice none 0 0]) R R (by kernel_rfl)) (Jg1 (κ := K13) 3 R R R R R X92 R fun b9 w17 K18 S19 f20 => ⟨tv, Jj1 (κ := K18) 3 (vc := [.slice none 0 0, .slice none 0 0]) R R R R R R R Z92 R R f20 R fun w21 S22 f23 => ⟨tv, Jd (Jq (Je [2] R (Jb 1 R ?_)))⟩⟩))))))))))))
 have hN24 : (p1.length : Int) ≤ 9223372036854775807 := g1.len_le
 refine Ob h fun q5 hq26 hK25 => ?_
 clear h
 refine Jx1 (fun L w' => ∃ κ', ∃ s6 : (List Int) × (List Int), ∃ ah ai ad ae, L = [(0, .slice a0 p0.length u0), (1, .slice a1 p1.length u1), (2, vi p2), (7, .slice aa s1.length ab), (8, vi v8), (9, .pointer (some ⟨b9, 0, none⟩))] ∧ Stp [3, 4, 5] K18 w21 κ' w' ∧ Oc E6 2 κ' w' 4 ah ai s6.1 ∧ Oc E6 2 κ' w' 5 ad ae s6.2 ∧ Bc κ' w' 3 b9 92 [.slice ah s6.1.length ai, .slice ad s6.2.length ae] ∧ q5 = Sum.inr s6) ?_ ?_
 refine Jv (Jy1 (fun k L w' => ∃ κ' v10, ∃ s4 : (List Int) × (List Int), ∃ al am ac af, L = [(0, .slice a0 p0.length u0), (1, .slice a1 p1.length u1), (2, vi p2), (7, .slice aa s1.length ab), (8, vi v8), (9, .pointer (some ⟨b9, 0, none⟩)), (10, vi v10)] ∧ Stp [3, 4, 5] K18 w21 κ' w' ∧ Oc E6 2 κ' w' 4 al am s4.1 ∧ Oc E6 2 κ' w' 5 ac af s4.2 ∧ Bc κ' w' 3 b9 92 [.slice al s4.1.length am, .slice ac s4.2.length af] ∧ 0 ≤ v10 ∧ Int.toNat ((p1.length : Int) - v10) = k ∧ cntM (s_l26Pairs_b2 p0 p1 p2 v8) k v10 s4 = some q5) ⟨_, _, ⟨K18, 0, ((([] : List Int) : (List Int)), (([] : List Int) : (List Int))), none, 0, none, 0, R, (Jx2 _ _).wk R, Ow.nil, Ow.nil, f23, (by decide), (by simp), hq26⟩, (KM R)⟩ ?_)
 rintro k _ w33 ⟨K34, v10, s4, al, am, ac, af, rfl, S35, f36, f37, f38, hj24, hJ24, h⟩
 rcases k with _ | k
 have hk39 := h; obtain ⟨o24, h⟩ := ex_eq (Sum.inr (Sum.inl s4) : (List Pair) ⊕ (((List Int) × (List Int)) ⊕ ((List Int) × (List Int))))
 have hc24 : decide (v10 < (p1.length : Int)) = false := Jo2 (by omega)
 refine Jq (Je [2, 2, 2, 2] R (Jn 2 R (Jf R (Je2 U24 R R) (Jb 1 R (Jw2 R hc24 (Jc1 (Jt (Jt ?_))))))))
 cases h
 have h := hk39
 refine Jb1 ?_
 cases h
 exact Jw1 _ ⟨K34, ((s4.1 : (List Int)), (s4.2 : (List Int))), al, am, ac, af, R, S35.wk R, f36, f37, f38, R⟩ (KM R)
 obtain ⟨o24, h, hk39⟩ := BI h; unfold s_l26Pairs_b2 at h
 have hc24 : decide (v10 < (p1.length : Int)) = true := Jn2 (by omega)
 refine Jq (Je [2, 2, 2, 2] R (Jn 2 R (Jf R (Je2 U24 R R) (Jb 1 R (Jv2 R hc24 (Js (Jp (Jq (Jv (Jq (Jq (Js1 (κ := K34) [0] none [(0, 2), (1, 2), (2, 2), (3, 2), (5, 2), (6, 2), (7, 2), (9, 2), (4, 0), (8, 0), (10, 2), (11, 0), (12, 1)] [] (by kernel_rfl) (by kernel_rfl) fun w41 S40 => Jn 2 R (Ob h fun x27 hx27 h => Jf R (Jf2 g0 hx27 U79 Z92 R R R R) (Jf R (Jb2 U92 R Z40 R R) (Jn 2 R (Ob h fun x32 hx32 h => Jf R (Jf2 g1 hx32 U24 Z40 R R R R) (Jn 1 R ?_)))))))))))))))))
 have f42 := g0.stp (S3.tr (S14.tr (S19.tr (S22.tr (S35.tr S40))))) R R
 obtain ⟨cse43, hre43, hle43⟩ := (f42).gSt hx27
 obtain ⟨ae43_0, ue43_0, ae43_1, ue43_1, rfl, fe43_0, fe43_1⟩ := Pair.un hre43
 refine Jg R (Jc2 I40 R R (hvC (fun w' hw' => hle43 w' hw' 0 _ R) R)) ?_
 have f44 := g1.stp (S3.tr (S14.tr (S19.tr (S22.tr (S35.tr S40))))) R R
 obtain ⟨ax32, ux32, f45, hl46⟩ := f44.gSl hx32
 refine Jg R (Jc2 I40 R R (hvC hl46 R)) (Ob h fun x35 hx35 h => Jf R (Jf2 f45 hx35 U40 Z2 R R R R) (Jg R (Jc2 I2 R R (hvC (f45.gInt hx35) R)) (Ob h fun x37 hx37 h => Jh R R R C117 (s_l1Has_ok (κ := fun b => mp [] 0 (K34 b)) (Jl2 fe43_0 (mp [] 0) R R) hx37) ?_)))
 rintro _ w47 ⟨k48, rfl, e49⟩
 obtain ⟨K50, S51, m52⟩ := Ji e49 6 R
 refine ⟨(S51.cl R), Jt1 (Jd (Ob h fun q7 h hK54 => Jx1 (fun L w' => ∃ κ' ak aj, L = [(0, .slice a0 p0.length u0), (1, .slice a1 p1.length u1), (2, vi p2), (7, .slice aa s1.length ab), (8, vi v8), (9, .pointer (some ⟨b9, 0, none⟩)), (10, vi v10)] ∧ Stp [3, 4] K50 w47 κ' w' ∧ Oc E6 2 κ' w' 4 ak aj q7 ∧ Bc κ' w' 3 b9 92 [.slice ak q7.length aj, .slice ac s4.2.length af]) ?_ ?_))⟩
 revert h
 cases ht60 : x37
 refine JF fun h => Jy R (Js ?_)
 cases h
 exact Jw1 _ ⟨K50, al, am, R, (Jx2 _ _).wk R, (f36.stp (S40.tr S51) R R), (f38.stp (S40.tr S51) R R)⟩ (KM R)
 refine JT fun h => Jx R (Ja [2, 1, 2, 1, 1, 2, 1] R (Jf R (Jb2 U92 R Z40 R R) ?_))
 have f61 := f38.stp (S40.tr S51) R R
 refine Jl tv R R R R (Jc2 I40 R R (hvE (f61.ld 0 R R))) (Jn 1 R (Jn1 (κ := K50) (E := E6) 8 [] (parts := [(0, .tmp 40)]) (cells := [vi v10]) (xs := ([v10] : List Int)) R R R R R R Y40 Tryzinfo2 R R R R R R R R R R ⟨[vi v10], [], Zl K50 w47 [], Zl K50 w47 [], R, Zl.sp (l1 := []) (l2 := []) R, Zl.sr (l1 := []) (l2 := []), R, R⟩ fun aC aB w62 K63 S64 f65 => ⟨tv, Ob h fun x42 hx42 h => Jm1 (κ := K63) (E := E6) 4 [] R R R R R R R R R Y40 Tryzinfo2 R R R R (f36.stp (S40.tr (S51.tr S64)) R R) (Sl.srcP (pu_int _) f65.rdc) sy_false hx42 R fun av au w67 K68 S69 f70 => ⟨tv, Jf R (Jb2 U92 R Z40 R R) (Ji1 (κ := K68) 3 (off := 0) (vc := [.slice av x42.length au]) (cs' := [.slice av x42.length au, .slice ac s4.2.length af]) R R R R R R R Z40 R R (f61.stp (S64.tr S69) R R) R R fun w72 S73 f74 => ⟨tv, Jo ?_⟩)⟩⟩))
 cases h
 exact Jw1 _ ⟨K68, av, au, R, (S64.tr (S69.tr S73)).wk R, (f70.stp S73 R R), f74⟩ (KM R)
 rintro _ w55 ⟨K56, ak, aj, rfl, S57, f58, f59⟩
 have h := hK54
 refine Jp (Jq (Js1 (κ := K56) [0] none [(0, 2), (1, 2), (2, 2), (3, 2), (5, 2), (6, 2), (7, 2), (9, 2), (4, 0), (8, 0), (10, 2), (11, 0), (12, 1)] [] (by kernel_rfl) (by kernel_rfl) fun w79 S78 => Jn 2 R (Ob h fun x46 hx46 h => Jf R (Jf2 f42 hx46 U79 Z92 R R R R) (Jf R (Jb2 U92 R Z40 R R) (Jn 2 R (Ob h fun x51 hx51 h => Jf R (Jf2 f44 hx51 U24 Z40 R R R R) (Jn 1 R ?_)))))))
 obtain ⟨cse81, hre81, hle81⟩ := ((f42.stp (S51.tr (S57.tr S78)) R R)).gSt hx46
 obtain ⟨ae81_0, ue81_0, ae81_1, ue81_1, rfl, fe81_0, fe81_1⟩ := Pair.un hre81
 refine Jg R (Jc2 I40 R R (hvC (fun w' hw' => hle81 w' hw' 1 _ R) R)) ?_
 obtain ⟨ax51, ux51, f83, hl84⟩ := (f44.stp (S51.tr (S57.tr S78)) R R).gSl hx51
 refine Jg R (Jc2 I40 R R (hvC hl84 R)) (Ob h fun x54 hx54 h => Jf R (Jf2 f83 hx54 U40 Z2 R R R R) (Jg R (Jc2 I2 R R (hvC (f83.gInt hx54) R)) (Ob h fun x56 hx56 h => Jh R R R C117 (s_l1Has_ok (κ := fun b => mp [] 0 (K56 b)) (Jl2 fe81_1 (mp [] 0) R R) hx56) ?_)))
 rintro _ w85 ⟨k86, rfl, e87⟩
 obtain ⟨K88, S89, m90⟩ := Ji e87 8 R
 refine ⟨(S89.cl R), Jt1 (Jd (Ob h fun q8 h hK92 => Jx1 (fun L w' => ∃ κ' an ao, L = [(0, .slice a0 p0.length u0), (1, .slice a1 p1.length u1), (2, vi p2), (7, .slice aa s1.length ab), (8, vi v8), (9, .pointer (some ⟨b9, 0, none⟩)), (10, vi v10)] ∧ Stp [3, 5] K88 w85 κ' w' ∧ Oc E6 2 κ' w' 5 an ao q8 ∧ Bc κ' w' 3 b9 92 [.slice ak q7.length aj, .slice an q8.length ao]) ?_ ?_))⟩
 revert h
 cases ht98 : x56
 refine JF fun h => Jy R (Js ?_)
 cases h
 exact Jw1 _ ⟨K88, ac, af, R, (Jx2 _ _).wk R, (f37.stp (S40.tr (S51.tr (S57.tr (S78.tr S89)))) R R), (f59.stp (S78.tr S89) R R)⟩ (KM R)
 refine JT fun h => Jx R (Ja [2, 1, 2, 1, 1, 2, 1] R (Jf R (Jb2 U92 R Z40 R R) ?_))
 have f99 := f59.stp (S78.tr S89) R R
 refine Jl tv R R R R (Jc2 I40 R R (hvE (f99.ld 1 R R))) (Jn 1 R (Jn1 (κ := K88) (E := E6) 10 [] (parts := [(0, .tmp 59)]) (cells := [vi v10]) (xs := ([v10] : List Int)) R R R R R R Y40 Tryzinfo2 R R R R R R R R R R ⟨[vi v10], [], Zl K88 w85 [], Zl K88 w85 [], R, Zl.sp (l1 := []) (l2 := []) R, Zl.sr (l1 := []) (l2 := []), R, R⟩ fun aD aG w100 K101 S102 f103 => ⟨tv, Ob h fun x61 hx61 h => Jm1 (κ := K101) (E := E6) 5 [] R R R R R R R R R Y40 Tryzinfo2 R R R R (f37.stp (S40.tr (S51.tr (S57.tr (S78.tr (S89.tr S102))))) R R) (Sl.srcP (pu_int _) f103.rdc) sy_false hx61 R fun aw ar w105 K106 S107 f108 => ⟨tv, Jf R (Jb2 U92 R Z40 R R) (Ji1 (κ := K106) 3 (off := 1) (vc := [.slice aw x61.length ar]) (cs' := [.slice ak q7.length aj, .slice aw x61.length ar]) R R R R R R R Z40 R R (f99.stp (S102.tr S107) R R) R R fun w110 S111 f112 => ⟨tv, Jo ?_⟩)⟩⟩))
 cases h
 exact Jw1 _ ⟨K106, aw, ar, R, (S102.tr (S107.tr S111)).wk R, (f108.stp S111 R R), f112⟩ (KM R)
 rintro _ w93 ⟨K94, an, ao, rfl, S95, f96, f97⟩
 have h := hK92
 refine Jz (Jp (Ja [2, 2, 2] R (Jc 3 R ?_)))
 have hw24 : IntKind.wrap .i64 (v10 + 1) = v10 + 1 := wr1 hj24 (Jm2 hc24) hN24
 rw [hw24]
 have hc24 := Jm2 hc24
 cases h
 exact Jz1 fun a ha => ⟨k, _, Ja3 _, ⟨K94, v10 + 1, ((q7 : (List Int)), (q8 : (List Int))), ak, aj, an, ao, R, (S35.tr (S40.tr (S51.tr (S57.tr (S78.tr (S89.tr S95)))))).wk R, (f58.stp (S78.tr (S89.tr S95)) R R), f96, f97, by omega, by omega, hk39⟩, (ha.mm R)⟩
 rintro _ w27 ⟨K28, s6, ah, ai, ad, ae, rfl, S29, f30, f31, f32, rfl⟩
 have h := hK25
 dsimp only [aft] at h
 refine Jp (Ja [2, 1, 1, 1, 2] R (Jn 1 R (Jl tv R R R R (Jd2 (cs := [.slice ah s6.1.length ai, .slice ad s6.2.length ae]) I92 Z92 R R R (haE f32.cells)) (Jn1 (κ := K28) (E := Pair.ep92) 6 [4, 5] (parts := [(0, .tmp 64)]) (cells := [.slice ah s6.1.length ai, .slice ad s6.2.length ae]) (xs := ([(⟨s6.1, s6.2⟩ : Pair)] : List Pair)) R R R R R R Y79 Tryzinfo92 R R R R R R R R R R ⟨[.slice ah s6.1.length ai, .slice ad s6.2.length ae], [], Zl K28 w27 [4, 5], Zl K28 w27 [], R, Zl.sp (l1 := [4, 5]) (l2 := []) R, Zl.sr (l1 := [4, 5]) (l2 := []), ⟨[.slice ah s6.1.length ai], [.slice ad s6.2.length ae], Zl K28 w27 [4], Zl K28 w27 [5], R, Zl.sp (l1 := [4]) (l2 := [5]) R, Zl.sr (l1 := [4]) (l2 := [5]), ⟨_, _, R, f30⟩, ⟨_, _, R, f31⟩⟩, R⟩ fun aF aE w117 K118 S119 f120 => ⟨tv, Ob h fun x66 hx66 h => Jm1 (κ := K118) (E := Pair.ep92) 2 [6] R R R R R R R R R Y79 Tryzinfo92 R R R R (f15.stp (S19.tr (S22.tr (S29.tr S119))) R R) f120.src (sy_one R) hx66 R fun ay aA w122 K123 S124 f125 => ⟨tv, Jc 1 R (Jz (Jp (Ja [2, 2, 2] R (Jc 3 R ?_))))⟩⟩))))
 have hw5 : IntKind.wrap .i64 (v8 + 1) = v8 + 1 := wr1 hj5 (Jm2 hc5) hN5
 rw [hw5]
 have hc5 := Jm2 hc5
 cases h
 exact Jz1 fun a ha => ⟨k, _, Ja3 _, ⟨K123, v8 + 1, (x66 : (List Pair)), ay, aA, R, (S14.tr (S19.tr (S22.tr (S29.tr (S119.tr S124))))).wk R, f125, by omega, by omega, hk16⟩, (ha.mm R)⟩
 rintro _ w8 ⟨K9, s3, ap, aq, rfl, S10, f11, rfl⟩
 have h := hK6
 dsimp only [aft] at h
 refine Jp (Je [2, 2] R (Jb 2 R (Ju (Ja2 (l := [.tmp 6]) V66 (Jp2 R R) R ?_))))
 cases h
 exact ⟨K9, ap, aq, R, (hE.stp (S3.tr S10) R R), f11⟩
theorem s_l29Ins_ok {w : World} {κ : Col} {p0 : Sig}  {r : Int} (h : s_l29Ins p0 = some r) : Ret Tryz.prog 134 [.agg #[vi p0.In, vi p0.Out]] w (fun v w' => ∃ (κ' : Col), v = vi r ∧ Ent κ w κ' w') := by
 unfold s_l29Ins at h
 refine Ret.enter F134 R N134 R ?_
 dsimp only [envOf]
 have hE := Ent.refl κ w
 refine Je [1, 2] R (Jf1 (κ := κ) 2 R R R R R R R fun b1 w1 K2 S3 f4 => ⟨tv, Jb 1 R (Je [2, 1, 1, 2] R (Jf R (Jb2 U31 R Z2 R R) (Jl tv R R R R (Jc2 I2 R R (hvE (f4.ld 0 R R))) (Ob h fun x5 hx5 h => Jh R R R C93 (s_l23Power_ok (κ := fun b => mp [] 0 (K2 b)) hx5) ?_))))⟩)
 rintro _ w5 ⟨k6, rfl, e7⟩
 obtain ⟨K8, S9, m10⟩ := Ji e7 3 R
 refine ⟨tv, Jb 1 R (Ju (Ja2 (l := [.tmp 2]) V134 (Jp2 R R) R ?_))⟩
 cases h
 exact ⟨K8, R, (hE.stp (S3.tr S9) R R)⟩
theorem s_l30Part_ok {w : World} {κ : Col} {am ah al aj ao ak an ai} {p0 : l30Graph} {a1 u1} {p1 : (List Int)} (g0_0 : Rd (Rp.int .i64) κ w 0 am ah p0.of) (g0_1 : Rd (Rp.int .i64) κ w 0 al aj p0.by0) (g0_2 : Rd (Rp.sl (Rp.int .i64)) κ w 0 ao ak p0.next) (g0_3 : Rd (Rp.sl (Rp.int .i64)) κ w 0 an ai p0.letters) (g1 : Rd (Rp.int .i64) κ w 0 a1 u1 p1) {r : (List Int)} (h : s_l30Part p0 p1 = some r) : Ret Tryz.prog 137 [.agg #[.slice am p0.of.length ah, .slice al p0.by0.length aj, .slice ao p0.next.length ak, .slice an p0.letters.length ai], .slice a1 p1.length u1] w (fun v w' => ∃ (κ' : Col) (ra0 : Option Addr) (ru0 : Nat), v = .slice ra0 r.length ru0 ∧ Ent κ w κ' w' ∧ Oc E6 2 κ' w' 2 ra0 ru0 r) := by
 unfold s_l30Part at h
 refine Ret.enter F137 R N137 R ?_
 dsimp only [envOf]
 have hE := Ent.refl κ w
 refine Je [1, 2] R (Jf1 (κ := κ) 2 R R R R R R R fun b2 w1 K2 S3 f4 => ⟨tv, Jb 1 R (Je [1, 2] R (Jo1 (κ := K2) (E := E6) 3 R R R R R Y40 Tryzinfo2 R fun a7 u7 w5 K6 S7 f8 => ⟨tv, Jb 1 R (Jq (Je [2] R (Jb 1 R ?_)))⟩))⟩)
 have hN9 : (p0.by0.length : Int) ≤ 9223372036854775807 := g0_1.len_le
 refine Ob h fun q2 hq11 hK10 => ?_
 clear h
 refine Jx1 (fun L w' => ∃ κ', ∃ s3 : (List Int), ∃ ae af, L = [(5, .slice ae s3.length af)] ∧ Stp [3] K6 w5 κ' w' ∧ Oc E6 2 κ' w' 3 ae af s3 ∧ q2 = Sum.inr s3) ?_ ?_
 refine Jv (Jy1 (fun k L w' => ∃ κ' v6, ∃ s1 : (List Int), ∃ aa ab, L = [(1, .slice a1 p1.length u1), (2, .pointer (some ⟨b2, 0, none⟩)), (5, .slice aa s1.length ab), (6, vi v6)] ∧ Stp [3] K6 w5 κ' w' ∧ Oc E6 2 κ' w' 3 aa ab s1 ∧ 0 ≤ v6 ∧ Int.toNat ((p0.by0.length : Int) - v6) = k ∧ cntM (s_l30Part_b0 p0 p1) k v6 s1 = some q2) ⟨_, _, ⟨K6, 0, (([] : List Int) : (List Int)), a7, u7, R, (Jx2 _ _).wk R, f8, (by decide), (by simp), hq11⟩, (KM R)⟩ ?_)
 rintro k _ w16 ⟨K17, v6, s1, aa, ab, rfl, S18, f19, hj9, hJ9, h⟩
 rcases k with _ | k
 have hk20 := h; obtain ⟨o9, h⟩ := ex_eq (Sum.inr (Sum.inl s1) : (List Int) ⊕ (((List Int)) ⊕ ((List Int))))
 have hc9 : decide (v6 < (p0.by0.length : Int)) = false := Jo2 (by omega)
 refine Jq (Je [2, 2, 1, 2, 2] R (Jn 1 R (Jf R (Jb2 U158 R Z40 R R) (Jl tv R R R R (Jc2 I40 R R (hvE ((f4.stp (S7.tr S18) R R).ld 1 R R))) (Jf R (Je2 U40 R R) (Jb 1 R (Jw2 R hc9 (Jc1 (Jt (Jt ?_))))))))))
 cases h
 have h := hk20
 refine Jb1 ?_
 cases h
 exact Jw1 _ ⟨K17, (s1 : (List Int)), aa, ab, R, S18.wk R, f19, R⟩ (KM R)
 obtain ⟨o9, h, hk20⟩ := BI h; unfold s_l30Part_b0 at h
 have hc9 : decide (v6 < (p0.by0.length : Int)) = true := Jn2 (by omega)
 refine Jq (Je [2, 2, 1, 2, 2] R (Jn 1 R (Jf R (Jb2 U158 R Z40 R R) ?_)))
 have f22 := f4.stp (S7.tr S18) R R
 refine Jl tv R R R R (Jc2 I40 R R (hvE (f22.ld 1 R R))) (Jf R (Je2 U40 R R) (Jb 1 R (Jv2 R hc9 (Js (Jp (Jq (Jv (Je [2, 2, 1, 2, 2, 1, 1] R (Jn 1 R (Jf R (Jb2 U158 R Z40 R R) (Jl tv R R R R (Jc2 I40 R R (hvE (f22.ld 1 R R))) (Jn 1 R (Ob h fun x19 hx19 h => Jf R (Jf2 g0_1 hx19 U40 Z2 R R R R) (Jl tv R R R R (Jc2 I2 R R (hvE ((g0_1.stp (S3.tr (S7.tr S18)) R R).gInt hx19))) (Ob h fun x21 hx21 h => Jh R R R C117 (s_l1Has_ok (κ := fun b => mp [] 0 (K17 b)) (Jl2 (g1.stp (S3.tr (S7.tr S18)) R R) (mp [] 0) R R) hx21) ?_)))))))))))))))
 rintro _ w25 ⟨k26, rfl, e27⟩
 obtain ⟨K28, S29, m30⟩ := Ji e27 4 R
 refine ⟨tv, Jd (Ob h fun q4 h hK32 => Jx1 (fun L w' => ∃ κ' ac ad, L = [(1, .slice a1 p1.length u1), (2, .pointer (some ⟨b2, 0, none⟩)), (5, .slice ac q4.length ad), (6, vi v6)] ∧ Stp [3] K28 w25 κ' w' ∧ Oc E6 2 κ' w' 3 ac ad q4) ?_ ?_)⟩
 revert h
 cases ht37 : x21
 refine JF fun h => Jy R (Js ?_)
 cases h
 exact Jw1 _ ⟨K28, aa, ab, R, (Jx2 _ _).wk R, (f19.stp S29 R R)⟩ (KM R)
 refine JT fun h => Jx R (Ja [2, 2, 1, 1, 2] R (Jn 2 R (Jn1 (κ := K28) (E := E6) 6 [] (parts := [(0, .tmp 23)]) (cells := [vi v6]) (xs := ([v6] : List Int)) R R R R R R Y40 Tryzinfo2 R R R R R R R R R R ⟨[vi v6], [], Zl K28 w25 [], Zl K28 w25 [], R, Zl.sp (l1 := []) (l2 := []) R, Zl.sr (l1 := []) (l2 := []), R, R⟩ fun ar au w38 K39 S40 f41 => ⟨tv, Ob h fun x25 hx25 h => Jm1 (κ := K39) (E := E6) 3 [] R R R R R R R R R Y40 Tryzinfo2 R R R R (f19.stp (S29.tr S40) R R) (Sl.srcP (pu_int _) f41.rdc) sy_false hx25 R fun ap aq w43 K44 S45 f46 => ⟨tv, Jc 1 R ?_⟩⟩)))
 cases h
 exact Jw1 _ ⟨K44, ap, aq, R, (S40.tr S45).wk R, f46⟩ (KM R)
 rintro _ w33 ⟨K34, ac, ad, rfl, S35, f36⟩
 have h := hK32
 refine Jz (Jp (Ja [2, 2, 2] R (Jc 3 R ?_)))
 have hw9 : IntKind.wrap .i64 (v6 + 1) = v6 + 1 := wr1 hj9 (Jm2 hc9) hN9
 rw [hw9]
 have hc9 := Jm2 hc9
 cases h
 exact Jz1 fun a ha => ⟨k, _, Ja3 _, ⟨K34, v6 + 1, (q4 : (List Int)), ac, ad, R, (S18.tr (S29.tr S35)).wk R, f36, by omega, by omega, hk20⟩, (ha.mm R)⟩
 rintro _ w12 ⟨K13, s3, ae, af, rfl, S14, f15, rfl⟩
 have h := hK10
 dsimp only [aft] at h
 refine Jp (Je [2, 2] R (Jb 2 R (Ju (Ja2 (l := [.tmp 4]) V137 (Jp2 R R) R ?_))))
 cases h
 exact ⟨(fun b => ren [(3, 2)] (K13 b)), ae, af, R, ((hE.stp (S3.tr (S7.tr S14)) R R).map (ren [(3, 2)]) R R), (f15.map (ren [(3, 2)]) R R)⟩
theorem slices_IndexFunc_I_int64__i_areLetters_1_ok {w : World} {κ : Col} {a0 u0} {p0 : (List Int)} {c1_0 : Int} {b1_0} (g0 : Rd (Rp.int .i64) κ w 0 a0 u0 p0) (gb1_0 : Bc κ w 0 b1_0 2 [vi c1_0]) {r : Int} (h : slices_IndexFunc_I_int64__i_areLetters_1 p0 c1_0 = some r) : Ret Tryz.prog 169 [.slice a0 p0.length u0, .func (.func 149) #[] #[.pointer (some ⟨b1_0, 0, none⟩)]] w (fun v w' => ∃ (κ' : Col), v = vi r ∧ Ent κ w κ' w') := by
 unfold slices_IndexFunc_I_int64__i_areLetters_1 at h
 refine Ret.enter F169 R N169 R ?_
 dsimp only [envOf]
 have hE := Ent.refl κ w
 refine Je [2] R (Jb 1 R (Jq (Je [2, 2, 2] R (Jn 1 R (Jf R (Je2 U40 R R) (Jb 1 R ?_))))))
 have hN1 : (p0.length : Int) ≤ 9223372036854775807 := g0.len_le
 refine Ob h fun q2 hq3 hK2 => ?_
 clear h
 refine Jx1 (fun L w' => ∃ κ', L = [(1, .func (.func 149) #[] #[.pointer (some ⟨b1_0, 0, none⟩)])] ∧ Stp [] κ w κ' w' ∧ q2 = Sum.inr ()) ?_ ?_
 refine Jv (Jy1 (fun k L w' => ∃ κ' v8, L = [(0, .slice a0 p0.length u0), (1, .func (.func 149) #[] #[.pointer (some ⟨b1_0, 0, none⟩)]), (7, vi (p0.length : Int)), (8, vi v8)] ∧ Stp [] κ w κ' w' ∧ 0 ≤ v8 ∧ Int.toNat ((p0.length : Int) - v8) = k ∧ cntM (slices_IndexFunc_I_int64__i_areLetters_1_b0 p0 c1_0) k v8 () = some q2) ⟨_, _, ⟨κ, 0, R, (Jx2 _ _).wk R, (by decide), (by simp), hq3⟩, (KM R)⟩ ?_)
 rintro k _ w7 ⟨K8, v8, rfl, S9, hj1, hJ1, h⟩
 rcases k with _ | k
 have hk10 := h; obtain ⟨o1, h⟩ := ex_eq (Sum.inr (Sum.inl ()) : Int ⊕ ((Unit) ⊕ (Unit)))
 have hc1 : decide (v8 < (p0.length : Int)) = false := Jo2 (by omega)
 refine Je [2] R (Jb 1 R (Jq (Jw2 R hc1 (Jc1 (Jt (Jt ?_))))))
 cases h
 have h := hk10
 refine Jb1 ?_
 cases h
 exact Jw1 _ ⟨K8, R, S9.wk R, R⟩ (KM R)
 obtain ⟨o1, h, hk10⟩ := BI h; unfold slices_IndexFunc_I_int64__i_areLetters_1_b0 at h
 have hc1 : decide (v8 < (p0.length : Int)) = true := Jn2 (by omega)
 refine Je [2] R (Jb 1 R (Jq (Jv2 R hc1 (Js (Jp (Jq (Jv (Je [2, 2] R (Jb 2 R (Je [2, 2, 2, 2, 1, 1] R (Jn 3 R (Ob h fun x14 hx14 h => Jf R (Jf2 g0 hx14 U40 Z2 R R R R) (Jl tv R R R R (Jc2 I2 R R (hvE ((g0.stp S9 R R).gInt hx14))) (Ob h fun x16 hx16 h => WO.callV R R R R R R R R C149 (i_areLetters_1_ok (κ := fun b => mp [] 0 (K8 b)) ((gb1_0.stp S9 R R).map (mp [] 0) R R) hx16) ?_))))))))))))))
 rintro _ w13 ⟨k14, rfl, e15⟩
 obtain ⟨K16, S17, m18⟩ := Ji e15 2 R
 refine ⟨tv, Jd ?_⟩
 revert h
 cases ht20 : x16
 refine JF fun h => Jy R (Js (Jz (Jp (Ja [2, 2] R (Jc 2 R ?_)))))
 have hw1 : IntKind.wrap .i64 (v8 + 1) = v8 + 1 := wr1 hj1 (Jm2 hc1) hN1
 rw [hw1]
 have hc1 := Jm2 hc1
 cases h
 exact Jz1 fun a ha => ⟨k, _, Ja3 _, ⟨K16, v8 + 1, R, (S9.tr S17).wk R, by omega, by omega, hk10⟩, (ha.mm R)⟩
 refine JT fun h => Jx R (Je [2, 2] R (Jb 2 R (Ju (Ja1 (Jw (Jw ?_))))))
 cases h
 obtain rfl := Option.some.inj hk10
 have h := hK2
 dsimp only [aft] at h
 refine Ja1 (Jq2 (Jw (Ja2 (l := [.tmp 4]) V169 (Jp2 R R) R ?_)))
 cases h
 exact ⟨K16, R, (hE.stp (S9.tr S17) R R)⟩
 rintro _ w4 ⟨K5, rfl, S6, rfl⟩
 have h := hK2
 dsimp only [aft] at h
 refine Jp (Je [2] R (Jb 1 R (Ju (Ja2 (l := [.tmp 4]) V169 (Jp2 R R) R ?_))))
 cases h
 exact ⟨K5, R, (hE.stp S6 R R)⟩
theorem i_isClause_ok {w : World} {κ : Col} {p0 : Sig} {ad aa ab ac} {p1 : Clause} (g1_1 : Rd (Rp.int .i64) κ w 0 ad aa p1.A) (g1_2 : Rd (Rp.int .i64) κ w 0 ab ac p1.B) {r : Bool} (h : i_isClause p0 p1 = some r) : Ret Tryz.prog 129 [.agg #[vi p0.In, vi p0.Out], .agg #[vi p1.Kind, .slice ad p1.A.length aa, .slice ab p1.B.length ac]] w (fun v w' => ∃ (κ' : Col), v = .bool r ∧ Ent κ w κ' w') := by
 unfold i_isClause at h
 refine Ret.enter F129 R N129 R ?_
 dsimp only [envOf]
 have hE := Ent.refl κ w
 refine Je [1, 1, 2] R (Jf1 (κ := κ) 2 R R R R R R R fun b2 w1 K2 S3 f4 => ⟨tv, Jf1 (κ := K2) 3 R R R R R R R fun b3 w5 K6 S7 f8 => ⟨tv, Jb 1 R (Jq (Jq (Js1 (κ := K6) [2, 3] none [(0, 2), (1, 0), (2, 2), (3, 2), (4, 2), (5, 0), (6, 2), (7, 2), (8, 2), (9, 2), (10, 0), (11, 0), (12, 1), (13, 1), (14, 2), (15, 2), (16, 2), (17, 2), (18, 0), (19, 0), (20, 1), (21, 1), (22, 2), (23, 2)] [] (by kernel_rfl) (by kernel_rfl) fun w10 S9 => Jf R (Jb2 U71 R Z2 R R) ?_)))⟩⟩)
 have f11 := f8.stp S9 R R
 refine Jg R (Jc2 I2 R R (hvC (f11.ld 0 R R) R)) (Jn 2 R (Ob h fun p12 h hK12 => Ju1 [(4, 2), (5, 0), (6, 2), (7, 2)] [(8, 2), (9, 2), (10, 0), (11, 0), (12, 1), (13, 1), (14, 2), (15, 2), (16, 2), (17, 2), (18, 0), (19, 0), (20, 1), (21, 1), (22, 2), (23, 2)] (fun L w' => L = [(2, .pointer (some ⟨b2, 0, none⟩)), (3, .pointer (some ⟨b3, 0, none⟩)), (12, .bool p12)] ∧ ∃ κ', Stp [] K6 w10 κ' w') (Cl.refl _ _ _) ?_ ?_))
 revert h
 cases ht13 : decide (p1.Kind < 1)
 refine JF fun h => Jf R (Jb2 U71 R Z2 R R) (Jg R (Jc2 I2 R R (hvC (f11.ld 0 R R) R)) (Jn 2 R ?_))
 cases h
 exact Jv1 _ (Cl.refl _ _ _) ⟨R, _, (Jx2 _ _).wk R⟩ (KM R)
 refine JT fun h => Jn 1 R (Je1 R R R R (Jn 2 R ?_))
 cases h
 exact Jv1 _ (Cl.refl _ _ _) ⟨R, _, (Jx2 _ _).wk R⟩ (KM R)
 rintro _ w14 _ ⟨rfl, K15, S16⟩
 have h := hK12
 refine Jn 1 R (Ob h fun p20 h hK17 => Ju1 [(9, 2), (10, 0), (11, 0), (12, 1), (13, 1), (14, 2), (15, 2)] [(16, 2), (17, 2), (18, 0), (19, 0), (20, 1), (21, 1), (22, 2), (23, 2)] (fun L w' => L = [(2, .pointer (some ⟨b2, 0, none⟩)), (3, .pointer (some ⟨b3, 0, none⟩)), (20, .bool p20)] ∧ ∃ κ', Stp [] K15 w14 κ' w') (S16.cl R) ?_ ?_)
 revert h
 cases ht18 : p12
 refine JF fun h => Jf R (Jb2 U71 R Z40 R R) (Jg R (Jc2 I40 R R (hvC (f11.ld 1 R R) R)) (Jg R (Jd2 (cs := [vi p0.In, vi p0.Out]) I31 Z31 R R R (haC (f4.stp (S7.tr S9) R R).cells R)) (Ob h fun x17 hx17 h => Jh R R R C119 (i_lettersOf_ok (κ := fun b => mp [] 0 (K15 b)) (p0 := p0) hx17) ?_)))
 rintro _ w20 ⟨k21, rfl, e22⟩
 obtain ⟨K23, S24, m25⟩ := Ji e22 4 R
 refine ⟨((S16.tr S24).cl R), Ob h fun x18 hx18 h => Jh R R R C160 (i_isSet_ok (κ := fun b => mp [] 0 (K23 b)) (Jl2 (g1_1.stp (S3.tr (S7.tr (S9.tr (S16.tr S24)))) R R) (mp [] 0) R R) hx18) ?_⟩
 rintro _ w28 ⟨k29, rfl, e30⟩
 obtain ⟨K31, S32, m33⟩ := Ji e30 6 R
 refine ⟨((S16.tr (S24.tr S32)).cl R), Jn 2 R ?_⟩
 cases h
 exact Jv1 _ ((S16.tr (S24.tr S32)).cl R) ⟨R, _, (S24.tr S32).wk R⟩ (KM R)
 refine JT fun h => Jn 1 R (Je1 R R R R (Je1 R R R R (Jd1 R R R R (Jd1 R R R R (Jn 2 R ?_)))))
 cases h
 exact Jv1 _ (S16.cl R) ⟨R, _, (Jx2 _ _).wk R⟩ (KM R)
 rintro _ w35 _ ⟨rfl, K36, S37⟩
 have h := hK17
 refine Jn 1 R (Ob h fun p28 h hK38 => Ju1 [(17, 2), (18, 0), (19, 0), (20, 1), (21, 1), (22, 2), (23, 2)] [] (fun L w' => L = [(3, .pointer (some ⟨b3, 0, none⟩)), (28, .bool p28)] ∧ ∃ κ', Stp [] K36 w35 κ' w') ((S16.tr S37).cl R) ?_ ?_)
 revert h
 cases ht39 : p20
 refine JF fun h => Jf R (Jb2 U71 R Z40 R R) (Jg R (Jc2 I40 R R (hvC (f11.ld 2 R R) R)) (Jg R (Jd2 (cs := [vi p0.In, vi p0.Out]) I31 Z31 R R R (haC (f4.stp (S7.tr S9) R R).cells R)) (Ob h fun x25 hx25 h => Jh R R R C119 (i_lettersOf_ok (κ := fun b => mp [] 0 (K36 b)) (p0 := p0) hx25) ?_)))
 rintro _ w41 ⟨k42, rfl, e43⟩
 obtain ⟨K44, S45, m46⟩ := Ji e43 4 R
 refine ⟨((S16.tr (S37.tr S45)).cl R), Ob h fun x26 hx26 h => Jh R R R C160 (i_isSet_ok (κ := fun b => mp [] 0 (K44 b)) (Jl2 (g1_2.stp (S3.tr (S7.tr (S9.tr (S16.tr (S37.tr S45))))) R R) (mp [] 0) R R) hx26) ?_⟩
 rintro _ w49 ⟨k50, rfl, e51⟩
 obtain ⟨K52, S53, m54⟩ := Ji e51 6 R
 refine ⟨((S16.tr (S37.tr (S45.tr S53))).cl R), Jn 2 R ?_⟩
 cases h
 exact Jv1 _ ((S16.tr (S37.tr (S45.tr S53))).cl R) ⟨R, _, (S45.tr S53).wk R⟩ (KM R)
 refine JT fun h => Jn 1 R (Je1 R R R R (Je1 R R R R (Jd1 R R R R (Jd1 R R R R (Jn 2 R ?_)))))
 cases h
 exact Jv1 _ ((S16.tr S37).cl R) ⟨R, _, (Jx2 _ _).wk R⟩ (KM R)
 rintro _ w56 _ ⟨rfl, K57, S58⟩
 have h := hK38
 refine Jt1 (Jd ?_)
 revert h
 cases ht59 : p28
 refine JF fun h => Jy R (Js (Jp (Je [2, 1, 1, 2, 2, 1, 2, 2, 2, 2] R (Jf R (Jb2 U71 R Z2 R R) ?_))))
 have f61 := f11.stp (S16.tr (S37.tr S58)) R R
 refine Jl tv R R R R (Jc2 I2 R R (hvE (f61.ld 0 R R))) (Ob h fun x31 hx31 h => Jh R R R C161 (i_hasSecond_ok (κ := fun b => mp [] 0 (K57 b)) hx31) ?_)
 rintro _ w62 ⟨k63, rfl, e64⟩
 obtain ⟨K65, S66, m67⟩ := Ji e64 4 R
 refine ⟨tv, Jn 1 R (Ob h fun p37 h hK69 => Ju1 [(4, 2), (5, 1), (6, 2), (7, 2), (8, 2)] [(9, 2)] (fun L w' => L = [(37, .bool p37)] ∧ ∃ κ', Stp [] K65 w62 κ' w') tv ?_ ?_)⟩
 revert h
 cases ht70 : x31
 refine JF fun h => Jf R (Jb2 U71 R Z40 R R) (Jl tv R R R R (Jc2 I40 R R (hvE ((f61.stp S66 R R).ld 2 R R))) (Jf R (Je2 U40 R R) (Jn 2 R ?_)))
 cases h
 exact Jv1 _ tv ⟨R, _, (Jx2 _ _).wk R⟩ (KM R)
 refine JT fun h => Jn 1 R (Jd1 R R R R (Jn 3 R ?_))
 cases h
 exact Jv1 _ tv ⟨R, _, (Jx2 _ _).wk R⟩ (KM R)
 rintro _ w72 _ ⟨rfl, K73, S74⟩
 have h := hK69
 refine Jb 1 R (Ju (Ja2 (l := [.tmp 4]) V129 (Jp2 R R) R ?_))
 cases h
 exact ⟨K73, R, (hE.stp (S3.tr (S7.tr (S9.tr (S16.tr (S37.tr (S58.tr (S66.tr S74))))))) R R)⟩
 refine JT fun h => Jx R (Je [2] R (Jb 1 R (Ju (Jw (Ja2 (l := [.tmp 4]) V129 (Jp2 R R) R ?_)))))
 cases h
 exact ⟨K57, R, (hE.stp (S3.tr (S7.tr (S9.tr (S16.tr (S37.tr S58))))) R R)⟩
theorem l_eqWord_ok {w : World} {κ : Col} {ah aa af ac} {p0 : Word} {ad ab ai ae} {p1 : Word} (g0_0 : Rd (Rp.int .i64) κ w 0 ah aa p0.Stem) (g0_1 : Rd (Rp.int .i64) κ w 0 af ac p0.Loop) (g1_0 : Rd (Rp.int .i64) κ w 0 ad ab p1.Stem) (g1_1 : Rd (Rp.int .i64) κ w 0 ai ae p1.Loop) {r : Bool} (h : l_eqWord p0 p1 = some r) : Ret Tryz.prog 44 [.agg #[.slice ah p0.Stem.length aa, .slice af p0.Loop.length ac], .agg #[.slice ad p1.Stem.length ab, .slice ai p1.Loop.length ae]] w (fun v w' => ∃ (κ' : Col), v = .bool r ∧ Ent κ w κ' w') := by
 unfold l_eqWord at h
 refine Ret.enter F44 R N44 R ?_
 dsimp only [envOf]
 have hE := Ent.refl κ w
 refine Je [1, 1, 2] R (Jf1 (κ := κ) 2 R R R R R R R fun b2 w1 K2 S3 f4 => ⟨tv, Jf1 (κ := K2) 3 R R R R R R R fun b3 w5 K6 S7 f8 => ⟨tv, Jb 1 R (Jq (Je [2, 1, 2, 1, 1, 2] R (Jf R (Jb2 U65 R Z40 R R) ?_)))⟩⟩)
 have f9 := f4.stp S7 R R
 refine Jl tv R R R R (Jc2 I40 R R (hvE (f9.ld 0 R R))) (Jf R (Jb2 U65 R Z40 R R) (Jl tv R R R R (Jc2 I40 R R (hvE (f8.ld 0 R R))) (Ob h fun x9 hx9 h => Jh R R R C20 (l_eqInt64S_ok (κ := fun b => mp [] 0 (K6 b)) (Jl2 (g0_0.stp (S3.tr S7) R R) (mp [] 0) R R) (Jl2 (g1_0.stp (S3.tr S7) R R) (mp [] 0) R R) hx9) ?_)))
 rintro _ w12 ⟨k13, rfl, e14⟩
 obtain ⟨K15, S16, m17⟩ := Ji e14 4 R
 refine ⟨tv, Jb 1 R ?_⟩
 revert h
 cases ht19 : (!x9)
 refine JF fun h => Jy R (Js (Jp (Jq (Je [2, 1, 2, 1, 1, 2] R (Jf R (Jb2 U65 R Z40 R R) (Jl tv R R R R (Jc2 I40 R R (hvE ((f9.stp S16 R R).ld 1 R R))) (Jf R (Jb2 U65 R Z40 R R) (Jl tv R R R R (Jc2 I40 R R (hvE ((f8.stp S16 R R).ld 1 R R))) (Ob h fun x15 hx15 h => Jh R R R C20 (l_eqInt64S_ok (κ := fun b => mp [] 0 (K15 b)) (Jl2 (g0_1.stp (S3.tr (S7.tr S16)) R R) (mp [] 0) R R) (Jl2 (g1_1.stp (S3.tr (S7.tr S16)) R R) (mp [] 0) R R) hx15) ?_)))))))))
 rintro _ w25 ⟨k26, rfl, e27⟩
 obtain ⟨K28, S29, m30⟩ := Ji e27 6 R
 refine ⟨tv, Jb 1 R ?_⟩
 revert h
 cases ht32 : (!x15)
 refine JF fun h => Jy R (Js (Jp (Je [2] R (Jb 1 R (Ju (Ja2 (l := [.tmp 4]) V44 (Jp2 R R) R ?_))))))
 cases h
 exact ⟨K28, R, (hE.stp (S3.tr (S7.tr (S16.tr S29))) R R)⟩
 refine JT fun h => Jx R (Je [2] R (Jb 1 R (Ju (Jw (Ja2 (l := [.tmp 4]) V44 (Jp2 R R) R ?_)))))
 cases h
 exact ⟨K28, R, (hE.stp (S3.tr (S7.tr (S16.tr S29))) R R)⟩
 refine JT fun h => Jx R (Je [2] R (Jb 1 R (Ju (Jw (Ja2 (l := [.tmp 4]) V44 (Jp2 R R) R ?_)))))
 cases h
 exact ⟨K15, R, (hE.stp (S3.tr (S7.tr S16)) R R)⟩
theorem l_markInt64SS_ok {w : World} {κ : Col} {a0 u0} {p0 : (List (List Int))} {p1 : Int} (g0 : Oc (Ep.own E6 2) 40 κ w 2 a0 u0 p0) {r : Int × (List (List Int))} (h : l_markInt64SS p0 p1 = some r) : Ret Tryz.prog 57 [.slice a0 p0.length u0, vi p1] w (fun v w' => ∃ (κ' : Col), v = vi r.1 ∧ Ent κ w κ' w' ∧ Oc (Ep.own E6 2) 40 κ' w' 2 a0 u0 r.2 ∧ p0.length = r.2.length) := by
 unfold l_markInt64SS at h
 refine Ret.enter F57 R N57 R ?_
 dsimp only [envOf]
 have hE := Ent.refl κ w
 refine Je [2] R (Jb 1 R (Jq (Je [2] R (Jb 1 R ?_))))
 have hN1 : (p0.length : Int) ≤ 9223372036854775807 := g0.len_le
 refine Ob h fun q2 hq3 hK2 => ?_
 clear h
 refine Jx1 (fun L w' => ∃ κ', ∃ s3 : Int × (List (List Int)), L = [(1, vi s3.1)] ∧ Stp [2, 3, 6] κ w κ' w' ∧ Oc (Ep.own E6 2) 40 κ' w' 2 a0 u0 s3.2 ∧ p0.length = s3.2.length ∧ q2 = Sum.inr s3) ?_ ?_
 refine Jv (Jy1 (fun k L w' => ∃ κ' v5, ∃ s1 : Int × (List (List Int)), L = [(0, .slice a0 p0.length u0), (1, vi s1.1), (5, vi v5)] ∧ Stp [2, 3, 6] κ w κ' w' ∧ Oc (Ep.own E6 2) 40 κ' w' 2 a0 u0 s1.2 ∧ p0.length = s1.2.length ∧ 0 ≤ v5 ∧ Int.toNat ((p0.length : Int) - v5) = k ∧ cntM l_markInt64SS_b0 k v5 s1 = some q2) ⟨_, _, ⟨κ, 0, ((p1 : Int), (p0 : (List (List Int)))), R, (Jx2 _ _).wk R, g0, R, (by decide), (by simp), hq3⟩, (KM R)⟩ ?_)
 rintro k _ w9 ⟨K10, v5, s1, rfl, S11, f12, hn13, hj1, hJ1, h⟩
 rcases k with _ | k
 have hk14 := h; obtain ⟨o1, h⟩ := ex_eq (Sum.inr (Sum.inl s1) : (Int × (List (List Int))) ⊕ ((Int × (List (List Int))) ⊕ (Int × (List (List Int)))))
 have hc1 : decide (v5 < (p0.length : Int)) = false := Jo2 (by omega)
 refine Jq (Je [2, 2, 2, 2] R (Jn 2 R (Jf R (Je2 U24 R R) (Jb 1 R (Jw2 R hc1 (Jc1 (Jt (Jt ?_))))))))
 cases h
 have h := hk14
 refine Jb1 ?_
 cases h
 exact Jw1 _ ⟨K10, ((s1.1 : Int), (s1.2 : (List (List Int)))), R, S11.wk R, f12, hn13, R⟩ (KM R)
 obtain ⟨o1, h, hk14⟩ := BI h; unfold l_markInt64SS_b0 at h
 have hc1 : decide (v5 < (p0.length : Int)) = true := Jn2 (by omega)
 refine Jq (Je [2, 2, 2, 2] R (Jn 2 R (Jf R (Je2 U24 R R) (Jb 1 R (Jv2 R hc1 (Js (Jp (Jq (Jv (Ja [2, 2, 2, 1, 2, 1, 2] R (Jn 2 R (Ob h fun x14 hx14 h => Jf R (Jf2 f12.rdc hx14 U24 Z40 R R hn13 R) ?_))))))))))))
 obtain ⟨ax14, ux14, f15, hl16⟩ := f12.rdc.gSl hx14
 refine Jl tv R R R R (Jc2 I40 R R (hvE hl16)) (Jn 1 R ?_)
 obtain ⟨K17, S18, f19, f20⟩ := f12.borrow hx14 (hl16 _ (Ag.refl _ _ _)) 3 R R
 refine Ob h fun x17 hx17 h => Jh R R R C23 (l_markInt64S_ok (κ := fun b => mp [(3, 2)] 0 (K17 b)) (f19.map (mp [(3, 2)] 0) R R) hx17) ?_
 rintro _ w21 ⟨k22, rfl, e23, f24, hn25⟩
 obtain ⟨K26, S27, m28⟩ := Ji e23 4 R
 refine ⟨tv, Ob h fun yb308 hyb308 h => ?_⟩
 obtain ⟨K32, S33, f34⟩ := Ow.unborrow (f20.stp S27 R R) (f24.mx (no_int _) m28 R (R : 4 + 2 = 6)) (hn25) R R hyb308
 have hn35 : p0.length = yb308.length := hn13.trans (Jt2 hyb308).2.2.2.symm
 refine Jc 1 R (Jz (Jp (Ja [2, 2, 2] R (Jc 3 R ?_))))
 have hw1 : IntKind.wrap .i64 (v5 + 1) = v5 + 1 := wr1 hj1 (Jm2 hc1) hN1
 rw [hw1]
 have hc1 := Jm2 hc1
 cases h
 exact Jz1 fun a ha => ⟨k, _, Ja3 _, ⟨K32, v5 + 1, ((x17.1 : Int), (yb308 : (List (List Int)))), R, (S11.tr (S18.tr (S27.tr S33))).wk R, f34, hn35, by omega, by omega, hk14⟩, (ha.mm R)⟩
 rintro _ w4 ⟨K5, s3, rfl, S6, f7, hn8, rfl⟩
 have h := hK2
 dsimp only [aft] at h
 refine Jp (Je [2, 2] R (Jb 2 R (Ju (Ja2 (l := [.tmp 4]) V57 (Jp2 R R) R ?_))))
 cases h
 exact ⟨K5, R, (hE.stp S6 R R), f7, hn8⟩
theorem l_markWord_ok {w : World} {κ : Col} {ad aa ab ac} {p0 : Word} {p1 : Int} (g0_0 : Oc E6 2 κ w 2 ad aa p0.Stem) (g0_1 : Oc E6 2 κ w 3 ab ac p0.Loop) {r : Int × (List Int) × (List Int)} (h : l_markWord p0 p1 = some r) : Ret Tryz.prog 45 [.agg #[.slice ad p0.Stem.length aa, .slice ab p0.Loop.length ac], vi p1] w (fun v w' => ∃ (κ' : Col), v = vi r.1 ∧ Ent κ w κ' w' ∧ Oc E6 2 κ' w' 2 ad aa r.2.1 ∧ p0.Stem.length = r.2.1.length ∧ Oc E6 2 κ' w' 3 ab ac r.2.2 ∧ p0.Loop.length = r.2.2.length) := by
 unfold l_markWord at h
 refine Ret.enter F45 R N45 R ?_
 dsimp only [envOf]
 have hE := Ent.refl κ w
 refine Je [1, 2] R (Jf1 (κ := κ) 4 R R R R R R R fun b2 w1 K2 S3 f4 => ⟨tv, Jb 1 R (Je [2, 1, 2, 1, 2] R (Jf R (Jb2 U65 R Z40 R R) (Jl tv R R R R (Jc2 I40 R R (hvE (f4.ld 0 R R))) (Jn 1 R (Ob h fun x8 hx8 h => Jh R R R C23 (l_markInt64S_ok (κ := fun b => mp [(2, 2)] 0 (K2 b)) ((g0_0.stp S3 R R).map (mp [(2, 2)] 0) R R) hx8) ?_)))))⟩)
 rintro _ w6 ⟨k7, rfl, e8, f9, hn10⟩
 obtain ⟨K11, S12, m13⟩ := Ji e8 5 R
 refine ⟨tv, Jb 1 R (Je [2, 1, 2, 1, 2] R (Jf R (Jb2 U65 R Z40 R R) (Jl tv R R R R (Jc2 I40 R R (hvE ((f4.stp S12 R R).ld 1 R R))) (Jn 1 R (Ob h fun x12 hx12 h => Jh R R R C23 (l_markInt64S_ok (κ := fun b => mp [(3, 2)] 0 (K11 b)) ((g0_1.stp (S3.tr S12) R R).map (mp [(3, 2)] 0) R R) hx12) ?_)))))⟩
 rintro _ w18 ⟨k19, rfl, e20, f21, hn22⟩
 obtain ⟨K23, S24, m25⟩ := Ji e20 8 R
 refine ⟨tv, Jb 1 R (Je [2, 2] R (Jb 2 R (Ju (Ja2 (l := [.tmp 4]) V45 (Jp2 R R) R ?_))))⟩
 cases h
 exact ⟨(fun b => ren [(7, 2), (10, 3)] (K23 b)), R, ((hE.stp (S3.tr (S12.tr S24)) R R).map (ren [(7, 2), (10, 3)]) R R), (((f9.mx (no_int _) m13 R (R : 5 + 2 = 7)).stp S24 R R).map (ren [(7, 2), (10, 3)]) R R), (hn10), ((f21.mx (no_int _) m25 R (R : 8 + 2 = 10)).map (ren [(7, 2), (10, 3)]) R R), (hn22)⟩
theorem l_heldWord_ok {w : World} {κ : Col} {ad aa ab ac} {p0 : Word} {p1 : Int} (g0_0 : Rd (Rp.int .i64) κ w 0 ad aa p0.Stem) (g0_1 : Rd (Rp.int .i64) κ w 0 ab ac p0.Loop) {r : Int} (h : l_heldWord p0 p1 = some r) : Ret Tryz.prog 46 [.agg #[.slice ad p0.Stem.length aa, .slice ab p0.Loop.length ac], vi p1] w (fun v w' => ∃ (κ' : Col), v = vi r ∧ Ent κ w κ' w') := by
 unfold l_heldWord at h
 refine Ret.enter F46 R N46 R ?_
 dsimp only [envOf]
 have hE := Ent.refl κ w
 refine Je [1, 2] R (Jf1 (κ := κ) 2 R R R R R R R fun b2 w1 K2 S3 f4 => ⟨tv, Jb 1 R (Je [2, 1, 2, 1, 2] R (Jf R (Jb2 U65 R Z40 R R) (Jl tv R R R R (Jc2 I40 R R (hvE (f4.ld 0 R R))) (Jn 1 R (Ob h fun x8 hx8 h => Jh R R R C24 (l_heldInt64S_ok (κ := fun b => mp [] 0 (K2 b)) (Jl2 (g0_0.stp S3 R R) (mp [] 0) R R) hx8) ?_)))))⟩)
 rintro _ w6 ⟨k7, rfl, e8⟩
 obtain ⟨K9, S10, m11⟩ := Ji e8 3 R
 refine ⟨tv, Jb 1 R (Jq (Je [2, 2] R (Jb 2 R ?_)))⟩
 revert h
 cases ht13 : decide (x8 < 0)
 refine JF fun h => Jy R (Js (Jp (Je [2, 1, 2, 1, 2] R (Jf R (Jb2 U65 R Z40 R R) (Jl tv R R R R (Jc2 I40 R R (hvE ((f4.stp S10 R R).ld 1 R R))) (Jn 1 R (Ob h fun x14 hx14 h => Jh R R R C24 (l_heldInt64S_ok (κ := fun b => mp [] 0 (K9 b)) (Jl2 (g0_1.stp (S3.tr S10) R R) (mp [] 0) R R) hx14) ?_)))))))
 rintro _ w17 ⟨k18, rfl, e19⟩
 obtain ⟨K20, S21, m22⟩ := Ji e19 5 R
 refine ⟨tv, Jb 1 R (Jq (Je [2, 2] R (Jb 2 R ?_)))⟩
 revert h
 cases ht24 : decide (x14 < 0)
 refine JF fun h => Jy R (Js (Jp (Je [2, 2] R (Jb 2 R (Ju (Ja2 (l := [.tmp 4]) V46 (Jp2 R R) R ?_))))))
 cases h
 exact ⟨K20, R, (hE.stp (S3.tr (S10.tr S21)) R R)⟩
 refine JT fun h => Jx R (Je [2] R (Jb 1 R (Ju (Jw (Ja2 (l := [.tmp 4]) V46 (Jp2 R R) R ?_)))))
 cases h
 exact ⟨K20, R, (hE.stp (S3.tr (S10.tr S21)) R R)⟩
 refine JT fun h => Jx R (Je [2] R (Jb 1 R (Ju (Jw (Ja2 (l := [.tmp 4]) V46 (Jp2 R R) R ?_)))))
 cases h
 exact ⟨K9, R, (hE.stp (S3.tr S10) R R)⟩
end Go.Proofs.YtcmamhmpoinmnaaGreat
