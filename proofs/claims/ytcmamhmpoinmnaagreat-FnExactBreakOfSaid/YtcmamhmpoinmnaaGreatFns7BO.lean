/- The walks, part 7. By program. -/
import Derived.Test.YtcmamhmpoinmnaaGreatFns2BO
import Derived.Test.YtcmamhmpoinmnaaGreatFns3BO
set_option linter.unusedVariables false
set_option linter.unusedSimpArgs false
namespace Go.Proofs.YtcmamhmpoinmnaaGreat
open Go Go.Wk Go.Proofs
set_option maxRecDepth 100000
set_option maxHeartbeats 1000000
theorem l_szMachine_ok {w : World} {κ : Col} {ad aa ab ac} {p0 : Machine} {p1 : Int} (g0_0 : Rd (Rp.sl (Rp.int .i64)) κ w 0 ad aa p0.Next) (g0_1 : Rd (Rp.sl (Rp.int .i64)) κ w 0 ab ac p0.Out) {r : Int} (h : l_szMachine p0 p1 = some r) : Ret Tryz.prog 9 [.agg #[.slice ad p0.Next.length aa, .slice ab p0.Out.length ac], vi p1] w (fun v w' => ∃ (κ' : Col), v = vi r ∧ Ent κ w κ' w') := by
 unfold l_szMachine at h
 refine Ret.enter F9 R N9 R ?_
 dsimp only [envOf]
 have hE := Ent.refl κ w
 refine Je [1, 2] R (Jf1 (κ := κ) 2 R R R R R R R fun b2 w1 K2 S3 f4 => ⟨tv, Jb 1 R (Je [2, 1, 2, 1, 2] R (Jf R (Jb2 U26 R Z24 R R) (Jl tv R R R R (Jc2 I24 R R (hvE (f4.ld 0 R R))) (Jn 1 R (Ob h fun x8 hx8 h => Jh R R R C47 (l_szInt64SS_ok (κ := fun b => mp [] 0 (K2 b)) (Jl2 (g0_0.stp S3 R R) (mp [] 0) R R) hx8) ?_)))))⟩)
 rintro _ w6 ⟨k7, rfl, e8⟩
 obtain ⟨K9, S10, m11⟩ := Ji e8 3 R
 refine ⟨tv, Jb 1 R (Jq (Je [2, 2] R (Jb 2 R ?_)))⟩
 revert h
 cases ht13 : decide (x8 < 0)
 refine JF fun h => Jy R (Js (Jp (Je [2, 1, 2, 1, 2] R (Jf R (Jb2 U26 R Z24 R R) (Jl tv R R R R (Jc2 I24 R R (hvE ((f4.stp S10 R R).ld 1 R R))) (Jn 1 R (Ob h fun x14 hx14 h => Jh R R R C47 (l_szInt64SS_ok (κ := fun b => mp [] 0 (K9 b)) (Jl2 (g0_1.stp (S3.tr S10) R R) (mp [] 0) R R) hx14) ?_)))))))
 rintro _ w17 ⟨k18, rfl, e19⟩
 obtain ⟨K20, S21, m22⟩ := Ji e19 5 R
 refine ⟨tv, Jb 1 R (Jq (Je [2, 2] R (Jb 2 R ?_)))⟩
 revert h
 cases ht24 : decide (x14 < 0)
 refine JF fun h => Jy R (Js (Jp (Je [2, 2] R (Jb 2 R (Ju (Ja2 (l := [.tmp 4]) V9 (Jp2 R R) R ?_))))))
 cases h
 exact ⟨K20, R, (hE.stp (S3.tr (S10.tr S21)) R R)⟩
 refine JT fun h => Jx R (Je [2] R (Jb 1 R (Ju (Jw (Ja2 (l := [.tmp 4]) V9 (Jp2 R R) R ?_)))))
 cases h
 exact ⟨K20, R, (hE.stp (S3.tr (S10.tr S21)) R R)⟩
 refine JT fun h => Jx R (Je [2] R (Jb 1 R (Ju (Jw (Ja2 (l := [.tmp 4]) V9 (Jp2 R R) R ?_)))))
 cases h
 exact ⟨K9, R, (hE.stp (S3.tr S10) R R)⟩
theorem l_szClauseS_ok {w : World} {κ : Col} {a0 u0} {p0 : (List Clause)} {p1 : Int} (g0 : Rd Clause.rp κ w 0 a0 u0 p0) {r : Int} (h : l_szClauseS p0 p1 = some r) : Ret Tryz.prog 10 [.slice a0 p0.length u0, vi p1] w (fun v w' => ∃ (κ' : Col), v = vi r ∧ Ent κ w κ' w') := by
 unfold l_szClauseS at h
 refine Ret.enter F10 R N10 R ?_
 dsimp only [envOf]
 have hE := Ent.refl κ w
 refine Je [2] R (Jb 1 R (Je [2, 2, 2, 2, 2] R (Jn 2 R (Jf R (Je2 U27 R R) (Jb 2 R (Jq (Je [2, 2] R (Jb 2 R ?_))))))))
 revert h
 cases ht1 : decide ((IntKind.i64.wrap (p1 - (p0.length : Int))) < 0)
 refine JF fun h => Jy R (Js (Jp (Jq (Je [2] R (Jb 1 R ?_)))))
 have hN2 : (p0.length : Int) ≤ 9223372036854775807 := g0.len_le
 refine Ob h fun q2 hq4 hK3 => ?_
 clear h
 refine Jx1 (fun L w' => ∃ κ' s3, L = [(1, vi s3)] ∧ Stp [] κ w κ' w' ∧ q2 = Sum.inr s3) ?_ ?_
 refine Jv (Jy1 (fun k L w' => ∃ κ' v5 s1, L = [(0, .slice a0 p0.length u0), (1, vi s1), (5, vi v5)] ∧ Stp [] κ w κ' w' ∧ 0 ≤ v5 ∧ Int.toNat ((p0.length : Int) - v5) = k ∧ cntM (l_szClauseS_b0 p0) k v5 s1 = some q2) ⟨_, _, ⟨κ, 0, ((IntKind.i64.wrap (p1 - (p0.length : Int))) : Int), R, (Jx2 _ _).wk R, (by decide), (by simp), hq4⟩, (KM R)⟩ ?_)
 rintro k _ w8 ⟨K9, v5, s1, rfl, S10, hj2, hJ2, h⟩
 rcases k with _ | k
 have hk11 := h; obtain ⟨o2, h⟩ := ex_eq (Sum.inr (Sum.inl s1) : Int ⊕ ((Int) ⊕ (Int)))
 have hc2 : decide (v5 < (p0.length : Int)) = false := Jo2 (by omega)
 refine Jq (Je [2, 2, 2, 2] R (Jn 2 R (Jf R (Je2 U27 R R) (Jb 1 R (Jw2 R hc2 (Jc1 (Jt (Jt ?_))))))))
 cases h
 have h := hk11
 refine Jb1 ?_
 cases h
 exact Jw1 _ ⟨K9, (s1 : Int), R, S10.wk R, R⟩ (KM R)
 obtain ⟨o2, h, hk11⟩ := BI h; unfold l_szClauseS_b0 at h
 have hc2 : decide (v5 < (p0.length : Int)) = true := Jn2 (by omega)
 refine Jq (Je [2, 2, 2, 2] R (Jn 2 R (Jf R (Je2 U27 R R) (Jb 1 R (Jv2 R hc2 (Js (Jp (Jq (Jv (Je [2, 2, 2, 1, 2, 1, 2] R (Jn 2 R (Ob h fun x20 hx20 h => Jf R (Jf2 g0 hx20 U27 Z78 R R R R) ?_))))))))))))
 obtain ⟨cse13, hre13, hle13⟩ := ((g0.stp S10 R R)).gSt hx20
 obtain ⟨ae13_0, ue13_0, ae13_1, ue13_1, rfl, fe13_0, fe13_1⟩ := Clause.un hre13
 refine Jl tv R R R R (Jd2 (cs := [vi x20.Kind, .slice ae13_0 x20.A.length ue13_0, .slice ae13_1 x20.B.length ue13_1]) I78 Z78 R R R (haE hle13)) (Jn 1 R (Ob h fun x23 hx23 h => Jh R R R C48 (l_szClause_ok (κ := fun b => mp [] 0 (K9 b)) (p0 := x20) (Jl2 fe13_0 (mp [] 0) R R) (Jl2 fe13_1 (mp [] 0) R R) hx23) ?_))
 rintro _ w14 ⟨k15, rfl, e16⟩
 obtain ⟨K17, S18, m19⟩ := Ji e16 2 R
 refine ⟨tv, Jb 1 R (Je [2, 2] R (Jb 2 R ?_))⟩
 revert h
 cases ht21 : decide (x23 < 0)
 refine JF fun h => Jy R (Js (Jz (Jp (Ja [2, 2, 2] R (Jc 3 R ?_)))))
 have hw2 : IntKind.wrap .i64 (v5 + 1) = v5 + 1 := wr1 hj2 (Jm2 hc2) hN2
 rw [hw2]
 have hc2 := Jm2 hc2
 cases h
 exact Jz1 fun a ha => ⟨k, _, Ja3 _, ⟨K17, v5 + 1, (x23 : Int), R, (S10.tr S18).wk R, by omega, by omega, hk11⟩, (ha.mm R)⟩
 refine JT fun h => Jx R (Je [2] R (Jb 1 R (Ju (Ja1 (Jw (Jw ?_))))))
 cases h
 obtain rfl := Option.some.inj hk11
 have h := hK3
 dsimp only [aft] at h
 refine Ja1 (Jq2 (Jw (Ja2 (l := [.tmp 4]) V10 (Jp2 R R) R ?_)))
 cases h
 exact ⟨K17, R, (hE.stp (S10.tr S18) R R)⟩
 rintro _ w5 ⟨K6, s3, rfl, S7, rfl⟩
 have h := hK3
 dsimp only [aft] at h
 refine Jp (Je [2, 2] R (Jb 2 R (Ju (Ja2 (l := [.tmp 4]) V10 (Jp2 R R) R ?_))))
 cases h
 exact ⟨K6, R, (hE.stp S7 R R)⟩
 refine JT fun h => Jx R (Je [2] R (Jb 1 R (Ju (Jw (Ja2 (l := [.tmp 4]) V10 (Jp2 R R) R ?_)))))
 cases h
 exact ⟨κ, R, hE⟩
theorem s_l30Watch_ok {w : World} {κ : Col} {p0 : Sig} {aO aP aS aT} {p1 : Machine} {aU aN aR aQ} {p2 : Det} (g1_0 : Rd (Rp.sl (Rp.int .i64)) κ w 0 aO aP p1.Next) (g1_1 : Rd (Rp.sl (Rp.int .i64)) κ w 0 aS aT p1.Out) (g2_0 : Rd (Rp.sl (Rp.int .i64)) κ w 0 aU aN p2.Next) (g2_1 : Rd Pair.rp κ w 0 aR aQ p2.Pairs) {r : l30Graph × Bool} (h : s_l30Watch p0 p1 p2 = some r) : Ret Tryz.prog 136 [.agg #[vi p0.In, vi p0.Out], .agg #[.slice aO p1.Next.length aP, .slice aS p1.Out.length aT], .agg #[.slice aU p2.Next.length aN, .slice aR p2.Pairs.length aQ]] w (fun v w' => ∃ (κ' : Col) (ra0 : Option Addr) (ru0 : Nat) (ra1 : Option Addr) (ru1 : Nat) (ra2 : Option Addr) (ru2 : Nat) (ra3 : Option Addr) (ru3 : Nat), v = .tuple #[.agg #[.slice ra0 r.1.of.length ru0, .slice ra1 r.1.by0.length ru1, .slice ra2 r.1.next.length ru2, .slice ra3 r.1.letters.length ru3], .bool r.2] ∧ Ent κ w κ' w' ∧ Oc E6 2 κ' w' 2 ra0 ru0 r.1.of ∧ Oc E6 2 κ' w' 3 ra1 ru1 r.1.by0 ∧ Oc (Ep.own E6 2) 40 κ' w' 4 ra2 ru2 r.1.next ∧ Oc (Ep.own E6 2) 40 κ' w' 5 ra3 ru3 r.1.letters) := by
 unfold s_l30Watch at h
 refine Ret.enter F136 R N136 R ?_
 dsimp only [envOf]
 have hE := Ent.refl κ w
 refine Je [1, 1, 1, 1, 2] R (Jf1 (κ := κ) 2 R R R R R R R fun b3 w1 K2 S3 f4 => ⟨tv, Jf1 (κ := K2) 3 R R R R R R R fun b4 w5 K6 S7 f8 => ⟨tv, Jf1 (κ := K6) 4 R R R R R R R fun b5 w9 K10 S11 f12 => ⟨tv, Jg1 (κ := K10) 5 R R R R R X158 R fun b6 w13 K14 S15 f16 => ⟨tv, Jb 1 R (Je [2, 1, 2] R (Jf R (rn_build (parts := []) (cells := [.slice none 0 0, .slice none 0 0, .slice none 0 0, .slice none 0 0]) R R (by kernel_rfl)) (Jf1 (κ := K14) 6 R R R R R R R fun b15 w17 K18 S19 f20 => ⟨tv, Jb 1 R (Je [2, 1] R (Jn 1 R ?_))⟩)))⟩⟩⟩⟩)
 have f21 : Oc E6 2 K18 w17 7 none 0 ([] : List Int) := Ow.nil
 have f22 : Oc E6 2 K18 w17 8 none 0 ([] : List Int) := Ow.nil
 refine Ob h fun x17 hx17 h => Jh R R R C164 (s_l30Find_ok (κ := fun b => mp [(7, 2), (8, 3), (6, 4)] 0 (K18 b)) (p0 := (⟨([] : List Int), ([] : List Int), ([] : List (List Int)), ([] : List (List Int))⟩ : l30Graph)) (f21.map (mp [(7, 2), (8, 3), (6, 4)] 0) R R) (f22.map (mp [(7, 2), (8, 3), (6, 4)] 0) R R) Sl.nil Sl.nil (f20.map (mp [(7, 2), (8, 3), (6, 4)] 0) R R) hx17) ?_
 rintro _ w23 ⟨k24, bi, bf, aY, bh, rfl, e25, f26, f27, f28⟩
 obtain ⟨K29, S30, m31⟩ := Ji e25 9 R
 refine ⟨tv, Jd (Jq (Je [2] R (Jb 1 R (Ob h fun q2 hq38 hK37 => ?_))))⟩
 clear h
 refine Jx1 (fun L w' => ∃ κ', ∃ s3 : Int × (List Int) × (List Int) × (List (List Int)) × (List (List Int)), ∃ aj ak an af ae ad al aq, L = [(6, .pointer (some ⟨b6, 0, none⟩)), (8, .pointer (some ⟨b15, 0, none⟩))] ∧ Stp [11, 12, 13, 14, 15, 16, 17, 18, 19, 24, 25, 26] K29 w23 κ' w' ∧ Oc E6 2 κ' w' 11 aj ak s3.2.1 ∧ Oc E6 2 κ' w' 12 an af s3.2.2.1 ∧ Oc (Ep.own E6 2) 40 κ' w' 14 ae ad s3.2.2.2.1 ∧ Oc (Ep.own E6 2) 40 κ' w' 15 al aq s3.2.2.2.2 ∧ Bc κ' w' 13 b15 158 [.slice aj s3.2.1.length ak, .slice an s3.2.2.1.length af, .slice ae s3.2.2.2.1.length ad, .slice al s3.2.2.2.2.length aq] ∧ q2 = Sum.inr s3) ?_ ?_
 refine Jv (Jy1 (fun k L w' => ∃ κ', ∃ s1 : Int × (List Int) × (List Int) × (List (List Int)) × (List (List Int)), ∃ ax aA az av ao am aa ab, L = [(3, .pointer (some ⟨b3, 0, none⟩)), (4, .pointer (some ⟨b4, 0, none⟩)), (5, .pointer (some ⟨b5, 0, none⟩)), (6, .pointer (some ⟨b6, 0, none⟩)), (8, .pointer (some ⟨b15, 0, none⟩)), (9, vi s1.1)] ∧ Stp [11, 12, 13, 14, 15, 16, 17, 18, 19, 24, 25, 26] K29 w23 κ' w' ∧ Oc E6 2 κ' w' 11 ax aA s1.2.1 ∧ Oc E6 2 κ' w' 12 az av s1.2.2.1 ∧ Oc (Ep.own E6 2) 40 κ' w' 14 ao am s1.2.2.2.1 ∧ Oc (Ep.own E6 2) 40 κ' w' 15 aa ab s1.2.2.2.2 ∧ Bc κ' w' 13 b15 158 [.slice ax s1.2.1.length aA, .slice az s1.2.2.1.length av, .slice ao s1.2.2.2.1.length am, .slice aa s1.2.2.2.2.length ab] ∧ whileM (s_l30Watch_b0 p0 p1 p2) k s1 = some q2) ⟨_, _, ⟨K29, ((0 : Int), (x17.2.1 : (List Int)), (x17.2.2 : (List Int)), (([] : List (List Int)) : (List (List Int))), (([] : List (List Int)) : (List (List Int)))), bi, bf, aY, bh, none, 0, none, 0, R, (Jx2 _ _).wk R, (f26.mx (no_int _) m31 R (R : 9 + 2 = 11)), (f27.mx (no_int _) m31 R (R : 9 + 3 = 12)), Ow.nil, Ow.nil, (f28.mx m31 R (R : 9 + 4 = 13)), hq38⟩, (KM R)⟩ ?_)
 rintro k _ w47 ⟨K48, s1, ax, aA, az, av, ao, am, aa, ab, rfl, S49, f50, f51, f52, f53, f54, h⟩
 rcases k with _ | k
 cases h
 obtain ⟨o36, h, hk55⟩ := BI h; unfold s_l30Watch_b0 at h
 refine Jq (Je [2, 2, 2, 2, 1, 2, 2] R (Jn 2 R (Jf R (rn_nilCheck R R) (Jf R (Jb2 U158 R Z40 R R) (Jl tv R R R R (Jc2 I40 R R (hvE (f54.ld 0 R R))) (Jf R (Je2 U40 R R) (Jb 1 R ?_)))))))
 revert h
 cases ht56 : decide (s1.1 < (s1.2.1.length : Int))
 refine JF fun h => Jy R (Jc1 (Jt (Jt ?_)))
 cases h
 have h := hk55
 refine Jb1 ?_
 cases h
 exact Jw1 _ ⟨K48, ((s1.1 : Int), (s1.2.1 : (List Int)), (s1.2.2.1 : (List Int)), (s1.2.2.2.1 : (List (List Int))), (s1.2.2.2.2 : (List (List Int)))), ax, aA, az, av, ao, am, aa, ab, R, S49.wk R, f50, f51, f52, f53, f54, R⟩ (KM R)
 refine JT fun h => Jx R (Js (Jp (Jq (Jv (Je [1, 2] R (Jo1 (κ := K48) (E := E6) 16 R R R R R Y40 Tryzinfo2 R fun bb aW w57 K58 S59 f60 => ⟨tv, Jb 1 R (Je [1, 2] R (Jo1 (κ := K58) (E := E6) 17 R R R R R Y40 Tryzinfo2 R fun aV ba w61 K62 S63 f64 => ⟨tv, Jb 1 R (Jq (Je [2] R (Jb 1 R (Ob h fun q5 hq67 hK66 => ?_))))⟩))⟩))))))
 clear h
 refine Jx1 (fun L w' => ∃ κ', ∃ s6 : (List Int) × (List Int) × Int × (List Int) × (List Int), ∃ aw ay ar au ap ah ai ac, L = [(3, .pointer (some ⟨b3, 0, none⟩)), (4, .pointer (some ⟨b4, 0, none⟩)), (5, .pointer (some ⟨b5, 0, none⟩)), (6, .pointer (some ⟨b6, 0, none⟩)), (8, .pointer (some ⟨b15, 0, none⟩)), (9, vi s1.1), (10, .slice aw s6.1.length ay), (11, .slice ar s6.2.1.length au)] ∧ Stp [11, 12, 13, 16, 17, 24, 25, 26] K62 w61 κ' w' ∧ Oc E6 2 κ' w' 16 aw ay s6.1 ∧ Oc E6 2 κ' w' 17 ar au s6.2.1 ∧ Oc E6 2 κ' w' 11 ap ah s6.2.2.2.1 ∧ Oc E6 2 κ' w' 12 ai ac s6.2.2.2.2 ∧ Bc κ' w' 13 b15 158 [.slice ap s6.2.2.2.1.length ah, .slice ai s6.2.2.2.2.length ac, .slice ao s1.2.2.2.1.length am, .slice aa s1.2.2.2.2.length ab] ∧ q5 = Sum.inr s6) ?_ ?_
 refine Jv (Jy1 (fun k L w' => ∃ κ', ∃ s4 : (List Int) × (List Int) × Int × (List Int) × (List Int), ∃ aD aG aF aI aH aE aK aJ, L = [(3, .pointer (some ⟨b3, 0, none⟩)), (4, .pointer (some ⟨b4, 0, none⟩)), (5, .pointer (some ⟨b5, 0, none⟩)), (6, .pointer (some ⟨b6, 0, none⟩)), (8, .pointer (some ⟨b15, 0, none⟩)), (9, vi s1.1), (10, .slice aD s4.1.length aG), (11, .slice aF s4.2.1.length aI), (12, vi s4.2.2.1)] ∧ Stp [11, 12, 13, 16, 17, 24, 25, 26] K62 w61 κ' w' ∧ Oc E6 2 κ' w' 16 aD aG s4.1 ∧ Oc E6 2 κ' w' 17 aF aI s4.2.1 ∧ Oc E6 2 κ' w' 11 aH aE s4.2.2.2.1 ∧ Oc E6 2 κ' w' 12 aK aJ s4.2.2.2.2 ∧ Bc κ' w' 13 b15 158 [.slice aH s4.2.2.2.1.length aE, .slice aK s4.2.2.2.2.length aJ, .slice ao s1.2.2.2.1.length am, .slice aa s1.2.2.2.2.length ab] ∧ whileM (s_l30Watch_b2 p0 p1 p2 s1) k s4 = some q5) ⟨_, _, ⟨K62, ((([] : List Int) : (List Int)), (([] : List Int) : (List Int)), (0 : Int), (s1.2.1 : (List Int)), (s1.2.2.1 : (List Int))), bb, aW, aV, ba, ax, aA, az, av, R, (Jx2 _ _).wk R, (f60.stp S63 R R), f64, (f50.stp (S59.tr S63) R R), (f51.stp (S59.tr S63) R R), (f54.stp (S59.tr S63) R R), hq67⟩, (KM R)⟩ ?_)
 rintro k _ w76 ⟨K77, s4, aD, aG, aF, aI, aH, aE, aK, aJ, rfl, S78, f79, f80, f81, f82, f83, h⟩
 rcases k with _ | k
 cases h
 obtain ⟨o65, h, hk88⟩ := BI h; unfold s_l30Watch_b2 at h
 refine Jq (Je [2, 1, 1, 2] R (Jn 1 R ?_))
 have f89 := f4.stp (S7.tr (S11.tr (S15.tr (S19.tr (S30.tr (S49.tr (S59.tr (S63.tr S78)))))))) R R
 refine Jl tv R R R R (Jd2 (cs := [vi p0.In, vi p0.Out]) I31 Z31 R R R (haE f89.cells)) (Ob h fun x31 hx31 h => Jh R R R C134 (s_l29Ins_ok (κ := fun b => mp [] 0 (K77 b)) (p0 := p0) hx31) ?_)
 rintro _ w90 ⟨k91, rfl, e92⟩
 obtain ⟨K93, S94, m95⟩ := Ji e92 18 R
 refine ⟨tv, Jb 1 R ?_⟩
 revert h
 cases ht97 : decide (s4.2.2.1 < x31)
 refine JF fun h => Jy R (Jc1 (Jt (Jt ?_)))
 cases h
 have h := hk88
 refine Jb1 ?_
 cases h
 exact Jw1 _ ⟨K93, ((s4.1 : (List Int)), (s4.2.1 : (List Int)), (s4.2.2.1 : Int), (s4.2.2.2.1 : (List Int)), (s4.2.2.2.2 : (List Int))), aD, aG, aF, aI, aH, aE, aK, aJ, R, (S78.tr S94).wk R, (f79.stp S94 R R), (f80.stp S94 R R), (f81.stp S94 R R), (f82.stp S94 R R), (f83.stp S94 R R), R⟩ (KM R)
 refine JT fun h => Jx R (Js (Jp (Jq (Jv (Jq (Js1 (κ := K93) [0, 2, 3, 11, 13] none [(0, 2), (2, 2), (3, 2), (4, 2), (6, 2), (11, 2), (17, 2), (1, 0), (5, 0), (7, 2), (8, 0), (9, 2), (10, 0), (12, 2), (13, 0), (14, 0), (15, 1), (16, 2), (18, 2), (19, 2)] [] (by kernel_rfl) (by kernel_rfl) fun w99 S98 => Jf R (Jb2 U33 R Z24 R R) (Jn 1 R (Jf R (rn_nilCheck R R) (Jf R (Jb2 U158 R Z40 R R) (Jn 3 R ?_))))))))))
 have f100 := f8.stp (S11.tr (S15.tr (S19.tr (S30.tr (S49.tr (S59.tr (S63.tr (S78.tr (S94.tr S98))))))))) R R
 refine Jg R (Jc2 I24 R R (hvC (f100.ld 1 R R) R)) ?_
 have f101 := f83.stp (S94.tr S98) R R
 refine Jg R (Jc2 I40 R R (hvC (f101.ld 0 R R) R)) (Ob h fun x42 hx42 h => Jf R (Jf2 f81.rdc hx42 U40 Z2 R R R R) ?_)
 have f102 := f81.stp (S94.tr S98) R R
 refine Jg R (Jc2 I2 R R (hvC (f102.rdc.gInt hx42) R)) (Ob h fun x44 hx44 h => Jf R (Jf2 g1_1 hx44 U24 Z40 R R R R) ?_)
 obtain ⟨ax44, ux44, f104, hl105⟩ := (g1_1.stp (S3.tr (S7.tr (S11.tr (S15.tr (S19.tr (S30.tr (S49.tr (S59.tr (S63.tr (S78.tr (S94.tr S98))))))))))) R R).gSl hx44
 refine Jg R (Jc2 I40 R R (hvC hl105 R)) (Ob h fun x47 hx47 h => Jf R (Jf2 f104 hx47 U40 Z2 R R R R) (Jg R (Jc2 I2 R R (hvC (f104.gInt hx47) R)) (Jg R (Jd2 (cs := [vi p0.In, vi p0.Out]) I31 Z31 R R R (haC (f89.stp (S94.tr S98) R R).cells R)) (Ob h fun x50 hx50 h => Jh R R R C134 (s_l29Ins_ok (κ := fun b => mp [] 0 (K93 b)) (p0 := p0) hx50) ?_))))
 rintro _ w107 ⟨k108, rfl, e109⟩
 obtain ⟨K110, S111, m112⟩ := Ji e109 20 R
 refine ⟨(S111.cl R), Jn 3 R (Jt1 (Jd (Jq (Js1 (κ := K110) [0, 3, 4, 11, 12, 13] (some 30) [(0, 2), (1, 2), (2, 2), (4, 2), (5, 2), (6, 2), (8, 2), (13, 2), (16, 2), (18, 2), (19, 2), (20, 2), (22, 2), (27, 2), (3, 0), (7, 0), (9, 2), (10, 0), (11, 2), (12, 0), (14, 2), (15, 0), (17, 0), (21, 0), (23, 2), (24, 0), (25, 2), (26, 0), (28, 2), (29, 0)] [(30, 1), (31, 1), (32, 1), (33, 2)] (by kernel_rfl) (by kernel_rfl) fun w115 S114 => Jn 2 R (Jf R (Jb2 U33 R Z24 R R) (Jn 1 R (Jf R (rn_nilCheck R R) (Jf R (Jb2 U158 R Z40 R R) (Jn 2 R (Jf R (Jb2 U94 R Z24 R R) (Jn 1 R (Jf R (rn_nilCheck R R) (Jf R (Jb2 U158 R Z40 R R) (Jn 2 R (Jg R (Jc2 I24 R R (hvC ((f100.stp (S111.tr S114) R R).ld 0 R R) R)) ?_)))))))))))))))⟩
 have f117 := f101.stp (S111.tr S114) R R
 refine Jg R (Jc2 I40 R R (hvC (f117.ld 0 R R) R)) (Ob h fun x63 hx63 h => Jf R (Jf2 f102.rdc hx63 U40 Z2 R R R R) ?_)
 have f118 := f102.stp (S111.tr S114) R R
 refine Jg R (Jc2 I2 R R (hvC (f118.rdc.gInt hx63) R)) (Ob h fun x65 hx65 h => Jf R (Jf2 g1_0 hx65 U24 Z40 R R R R) ?_)
 obtain ⟨ax65, ux65, f120, hl121⟩ := (g1_0.stp (S3.tr (S7.tr (S11.tr (S15.tr (S19.tr (S30.tr (S49.tr (S59.tr (S63.tr (S78.tr (S94.tr (S98.tr (S111.tr S114))))))))))))) R R).gSl hx65
 refine Jg R (Jc2 I40 R R (hvC hl121 R)) (Ob h fun x68 hx68 h => Jf R (Jf2 f120 hx68 U40 Z2 R R R R) (Jg R (Jc2 I2 R R (hvC (f120.gInt hx68) R)) (Jg R (Jc2 I24 R R (hvC ((f12.stp (S15.tr (S19.tr (S30.tr (S49.tr (S59.tr (S63.tr (S78.tr (S94.tr (S98.tr (S111.tr S114)))))))))) R R).ld 0 R R) R)) (Jg R (Jc2 I40 R R (hvC (f117.ld 1 R R) R)) (Ob h fun x77 hx77 h => Jf R (Jf2 f82.rdc hx77 U40 Z2 R R R R) ?_)))))
 have f123 := f82.stp (S94.tr (S98.tr (S111.tr S114))) R R
 refine Jg R (Jc2 I2 R R (hvC (f123.rdc.gInt hx77) R)) (Ob h fun x79 hx79 h => Jf R (Jf2 g2_0 hx79 U24 Z40 R R R R) ?_)
 obtain ⟨ax79, ux79, f125, hl126⟩ := (g2_0.stp (S3.tr (S7.tr (S11.tr (S15.tr (S19.tr (S30.tr (S49.tr (S59.tr (S63.tr (S78.tr (S94.tr (S98.tr (S111.tr S114))))))))))))) R R).gSl hx79
 have S001 := (S59.tr (S63.tr (S78.tr (S94.tr (S98.tr (S111.tr S114))))))
 refine Jg R (Jc2 I40 R R (hvC hl126 R)) (Ob h fun x82 hx82 h => Jf R (Jf2 f125 hx82 U40 Z2 R R R R) (Jg R (Jc2 I2 R R (hvC (f125.gInt hx82) R)) (Jt1 (Ob h fun x84 hx84 h => Jh R R R C164 (s_l30Find_ok (κ := fun b => mp [(11, 2), (12, 3), (13, 4)] 0 (K110 b)) (p0 := (⟨s4.2.2.2.1, s4.2.2.2.2, s1.2.2.2.1, s1.2.2.2.2⟩ : l30Graph)) (f118.map (mp [(11, 2), (12, 3), (13, 4)] 0) R R) (f123.map (mp [(11, 2), (12, 3), (13, 4)] 0) R R) (Jl2 (f52.stp S001 R R).rdc (mp [(11, 2), (12, 3), (13, 4)] 0) R R) (Jl2 (f53.stp S001 R R).rdc (mp [(11, 2), (12, 3), (13, 4)] 0) R R) (f117.map (mp [(11, 2), (12, 3), (13, 4)] 0) R R) hx84) ?_))))
 rintro _ w129 ⟨k130, bj, bc, bd, aZ, rfl, e131, f132, f133, f134⟩
 obtain ⟨K135, S136, m137⟩ := Ji e131 22 R
 have S002 := (S94.tr (S98.tr (S111.tr (S114.tr S136))))
 refine ⟨tv, Jn1 (κ := K135) (E := E6) 27 [] (parts := [(0, .tmp 84)]) (cells := [vi x84.1]) (xs := ([x84.1] : List Int)) R R R R R R Y40 Tryzinfo2 R R R R R R R R R R ⟨[vi x84.1], [], Zl K135 w129 [], Zl K135 w129 [], R, Zl.sp (l1 := []) (l2 := []) R, Zl.sr (l1 := []) (l2 := []), R, R⟩ fun bo br w142 K143 S144 f145 => ⟨tv, Ob h fun x86 hx86 h => Jm1 (κ := K143) (E := E6) 16 [] R R R R R R R R R Y40 Tryzinfo2 R R R R (f79.stp (S002.tr S144) R R) (Sl.srcP (pu_int _) f145.rdc) sy_false hx86 R fun be bk w147 K148 S149 f150 => ⟨tv, Jb 1 R (Ja [2, 2, 1, 1, 2] R (Jn 2 R (Jn1 (κ := K148) (E := E6) 28 [] (parts := [(0, .tmp 88)]) (cells := [vi (IntKind.i64.wrap ((IntKind.i64.wrap (x47 * x50)) + s4.2.2.1))]) (xs := ([(IntKind.i64.wrap ((IntKind.i64.wrap (x47 * x50)) + s4.2.2.1))] : List Int)) R R R R R R Y40 Tryzinfo2 R R R R R R R R R R ⟨[vi (IntKind.i64.wrap ((IntKind.i64.wrap (x47 * x50)) + s4.2.2.1))], [], Zl K148 w147 [], Zl K148 w147 [], R, Zl.sp (l1 := []) (l2 := []) R, Zl.sr (l1 := []) (l2 := []), R, R⟩ fun bn bl w151 K152 S153 f154 => ⟨tv, Ob h fun x90 hx90 h => Jm1 (κ := K152) (E := E6) 17 [] R R R R R R R R R Y40 Tryzinfo2 R R R R (f80.stp (S002.tr (S144.tr (S149.tr S153))) R R) (Sl.srcP (pu_int _) f154.rdc) sy_false hx90 R fun aX bg w156 K157 S158 f159 => ⟨tv, Jc 1 R (Jz (Jp (Ja [2, 2, 2] R (Jc 3 R ?_))))⟩⟩)))⟩⟩⟩
 cases h
 have S003 := (S144.tr (S149.tr (S153.tr S158)))
 exact Jz1 fun a ha => ⟨k, _, Ja3 _, ⟨(fun b => ren [(24, 11), (25, 12), (26, 13)] (K157 b)), ((x86 : (List Int)), (x90 : (List Int)), ((IntKind.i64.wrap (s4.2.2.1 + 1)) : Int), (x84.2.1 : (List Int)), (x84.2.2 : (List Int))), be, bk, aX, bg, bj, bc, bd, aZ, R, (Jy2 ((S78.tr (S94.tr (S98.tr (S111.tr (S114.tr (S136.tr (S144.tr (S149.tr (S153.tr S158))))))))).wk R) [(24, 11), (25, 12), (26, 13)] R), ((f150.stp (S153.tr S158) R R).map (ren [(24, 11), (25, 12), (26, 13)]) R R), (f159.map (ren [(24, 11), (25, 12), (26, 13)]) R R), (((f132.mx (no_int _) m137 R (R : 22 + 2 = 24)).stp S003 R R).map (ren [(24, 11), (25, 12), (26, 13)]) R R), (((f133.mx (no_int _) m137 R (R : 22 + 3 = 25)).stp S003 R R).map (ren [(24, 11), (25, 12), (26, 13)]) R R), (((f134.mx m137 R (R : 22 + 4 = 26)).stp S003 R R).map (ren [(24, 11), (25, 12), (26, 13)]) R R), hk88⟩, (ha.mm R)⟩
 rintro _ w68 ⟨K69, s6, aw, ay, ar, au, ap, ah, ai, ac, rfl, S70, f71, f72, f73, f74, f75, rfl⟩
 have h := hK66
 dsimp only [aft] at h
 refine Jp (Jq (Je [2, 2, 2, 1, 2, 2] R (Jn 1 R (Jf R (rn_nilCheck R R) (Jf R (Jb2 U158 R Z40 R R) (Jl tv R R R R (Jc2 I40 R R (hvE (f75.ld 0 R R))) (Jf R (Je2 U40 R R) (Jb 1 R ?_))))))))
 revert h
 cases ht169 : decide (256 < (s6.2.2.2.1.length : Int))
 refine JF fun h => Jy R (Js (Jp (Je [2, 2, 2, 2, 1, 2, 1, 1, 2, 2, 1] R (Jn 2 R (Jf R (rn_nilCheck R R) (Jf R (Jb2 U158 R Z24 R R) (Jl tv R R R R (Jc2 I24 R R (hvE (f75.ld 2 R R))) (Jn 1 R (Jn1 (κ := K69) (E := (Ep.own E6 2)) 18 [16] (parts := [(0, .tmp 103)]) (cells := [.slice aw s6.1.length ay]) (xs := ([s6.1] : List (List Int))) R R R R R R Y24 Tryzinfo40 R R R R R R R R R R ⟨[.slice aw s6.1.length ay], [], Zl K69 w68 [16], Zl K69 w68 [], R, Zl.sp (l1 := [16]) (l2 := []) R, Zl.sr (l1 := [16]) (l2 := []), ⟨_, _, R, f71⟩, R⟩ fun bq bs w175 K176 S177 f178 => ⟨tv, Ob h fun x105 hx105 h => Jm1 (κ := K176) (E := (Ep.own E6 2)) 14 [18] R R R R R R R R R Y24 Tryzinfo40 R R R R (f52.stp (S59.tr (S63.tr (S70.tr S177))) R R) f178.src (sy_one R) hx105 R fun aC aB w180 K181 S182 f183 => ⟨tv, Jf R (rn_nilCheck R R) (Jf R (Jb2 U158 R Z24 R R) (Ji1 (κ := K181) 13 (off := 2) (vc := [.slice aC x105.length aB]) (cs' := [.slice ap s6.2.2.2.1.length ah, .slice ai s6.2.2.2.2.length ac, .slice aC x105.length aB, .slice aa s1.2.2.2.2.length ab]) R R R R R R R Z24 R R (f75.stp (S177.tr S182) R R) R R fun w185 S186 f187 => ⟨tv, Jd (Ja [2, 2, 2, 2, 1, 2, 1, 1, 2, 2, 1] R (Jn 2 R (Jf R (rn_nilCheck R R) (Jf R (Jb2 U158 R Z24 R R) (Jl tv R R R R (Jc2 I24 R R (hvE (f187.ld 3 R R))) (Jn 1 R (Jn1 (κ := K181) (E := (Ep.own E6 2)) 19 [17] (parts := [(0, .tmp 113)]) (cells := [.slice ar s6.2.1.length au]) (xs := ([s6.2.1] : List (List Int))) R R R R R R Y24 Tryzinfo40 R R R R R R R R R R ⟨[.slice ar s6.2.1.length au], [], Zl K181 w185 [17], Zl K181 w185 [], R, Zl.sp (l1 := [17]) (l2 := []) R, Zl.sr (l1 := [17]) (l2 := []), ⟨_, _, R, (f72.stp (S177.tr (S182.tr S186)) R R)⟩, R⟩ fun bm bp w189 K190 S191 f192 => ⟨tv, Ob h fun x115 hx115 h => Jm1 (κ := K190) (E := (Ep.own E6 2)) 15 [19] R R R R R R R R R Y24 Tryzinfo40 R R R R (f53.stp (S59.tr (S63.tr (S70.tr (S177.tr (S182.tr (S186.tr S191)))))) R R) f192.src (sy_one R) hx115 R fun aL aM w194 K195 S196 f197 => ⟨tv, Jf R (rn_nilCheck R R) (Jf R (Jb2 U158 R Z24 R R) (Ji1 (κ := K195) 13 (off := 3) (vc := [.slice aL x115.length aM]) (cs' := [.slice ap s6.2.2.2.1.length ah, .slice ai s6.2.2.2.2.length ac, .slice aC x105.length aB, .slice aL x115.length aM]) R R R R R R R Z24 R R (f187.stp (S191.tr S196) R R) R R fun w199 S200 f201 => ⟨tv, Jo (Jz (Jp (Ja [2, 2, 2] R (Jc 3 R ?_))))⟩))⟩⟩)))))))⟩))⟩⟩)))))))))
 cases h
 have S004 := (S177.tr (S182.tr (S186.tr (S191.tr (S196.tr S200)))))
 exact Jz1 fun a ha => ⟨k, _, Ja3 _, ⟨K195, (((IntKind.i64.wrap (s1.1 + 1)) : Int), (s6.2.2.2.1 : (List Int)), (s6.2.2.2.2 : (List Int)), (x105 : (List (List Int))), (x115 : (List (List Int)))), ap, ah, ai, ac, aC, aB, aL, aM, R, (S49.tr (S59.tr (S63.tr (S70.tr (S177.tr (S182.tr (S186.tr (S191.tr (S196.tr S200))))))))).wk R, (f73.stp S004 R R), (f74.stp S004 R R), (f183.stp (S186.tr (S191.tr (S196.tr S200))) R R), (f197.stp S200 R R), f201, hk55⟩, (ha.mm R)⟩
 refine JT fun h => Jx R (Je [2, 1, 2] R (Jf R (rn_build (parts := []) (cells := [.slice none 0 0, .slice none 0 0, .slice none 0 0, .slice none 0 0]) R R (by kernel_rfl)) (Jj1 (κ := K69) 5 (vc := [.slice none 0 0, .slice none 0 0, .slice none 0 0, .slice none 0 0]) R R R R R R R Z158 R R (f16.stp (S19.tr (S30.tr (S49.tr (S59.tr (S63.tr S70))))) R R) R fun w171 S172 f173 => ⟨tv, Jb 1 R (Ju (Jw (Ja1 (Jw (Jw ?_)))))⟩)))
 cases h
 obtain rfl := Option.some.inj hk55
 have h := hK37
 dsimp only [aft] at h
 refine Ja1 (Jq2 (Jw (Ja2 (l := [.cell 6 158, .tmp 7]) V136 (res_cellA R f173 I158 Z158 R (Jp2 R R)) R ?_)))
 cases h
 exact ⟨K69, none, 0, none, 0, none, 0, none, 0, R, (hE.stp (S3.tr (S7.tr (S11.tr (S15.tr (S19.tr (S30.tr (S49.tr (S59.tr (S63.tr (S70.tr S172)))))))))) R R), Ow.nil, Ow.nil, Ow.nil, Ow.nil⟩
 rintro _ w39 ⟨K40, s3, aj, ak, an, af, ae, ad, al, aq, rfl, S41, f42, f43, f44, f45, f46, rfl⟩
 have h := hK37
 dsimp only [aft] at h
 refine Jp (Je [2, 2, 1, 1, 2] R (Jn 1 R (Jf R (rn_nilCheck R R) (Jl tv R R R R (Jd2 (cs := [.slice aj s3.2.1.length ak, .slice an s3.2.2.1.length af, .slice ae s3.2.2.2.1.length ad, .slice al s3.2.2.2.2.length aq]) I158 Z158 R R R (haE f46.cells)) (Jj1 (κ := K40) 5 (vc := [.slice aj s3.2.1.length ak, .slice an s3.2.2.1.length af, .slice ae s3.2.2.2.1.length ad, .slice al s3.2.2.2.2.length aq]) R R R R R R R Z158 R R (f16.stp (S19.tr (S30.tr S41)) R R) R fun w207 S208 f209 => ⟨tv, Jb 1 R (Ju (Ja2 (l := [.cell 6 158, .tmp 7]) V136 (res_cellA R f209 I158 Z158 R (Jp2 R R)) R ?_))⟩)))))
 cases h
 exact ⟨(fun b => ren [(11, 2), (12, 3), (14, 4), (15, 5)] (K40 b)), aj, ak, an, af, ae, ad, al, aq, R, ((hE.stp (S3.tr (S7.tr (S11.tr (S15.tr (S19.tr (S30.tr (S41.tr S208))))))) R R).map (ren [(11, 2), (12, 3), (14, 4), (15, 5)]) R R), ((f42.stp S208 R R).map (ren [(11, 2), (12, 3), (14, 4), (15, 5)]) R R), ((f43.stp S208 R R).map (ren [(11, 2), (12, 3), (14, 4), (15, 5)]) R R), ((f44.stp S208 R R).map (ren [(11, 2), (12, 3), (14, 4), (15, 5)]) R R), ((f45.stp S208 R R).map (ren [(11, 2), (12, 3), (14, 4), (15, 5)]) R R)⟩
theorem s_l29Letters_ok {w : World} {κ : Col} {p0 : Sig} {af ae ai ah} {p1 : Machine} {p2 : Int} {a3 u3} {p3 : (List Int)} (g1_0 : Rd (Rp.sl (Rp.int .i64)) κ w 0 af ae p1.Next) (g1_1 : Rd (Rp.sl (Rp.int .i64)) κ w 0 ai ah p1.Out) (g3 : Rd (Rp.int .i64) κ w 0 a3 u3 p3) {r : (List Int)} (h : s_l29Letters p0 p1 p2 p3 = some r) : Ret Tryz.prog 101 [.agg #[vi p0.In, vi p0.Out], .agg #[.slice af p1.Next.length ae, .slice ai p1.Out.length ah], vi p2, .slice a3 p3.length u3] w (fun v w' => ∃ (κ' : Col) (ra0 : Option Addr) (ru0 : Nat), v = .slice ra0 r.length ru0 ∧ Ent κ w κ' w' ∧ Oc E6 2 κ' w' 2 ra0 ru0 r) := by
 unfold s_l29Letters at h
 refine Ret.enter F101 R N101 R ?_
 dsimp only [envOf]
 have hE := Ent.refl κ w
 refine Je [1, 1, 2] R (Jf1 (κ := κ) 2 R R R R R R R fun b4 w1 K2 S3 f4 => ⟨tv, Jf1 (κ := K2) 3 R R R R R R R fun b5 w5 K6 S7 f8 => ⟨tv, Jb 1 R (Je [1, 2] R (Jo1 (κ := K6) (E := E6) 4 R R R R R Y40 Tryzinfo2 R fun am ak w9 K10 S11 f12 => ⟨tv, Jb 1 R (Jq (Je [2] R (Jb 1 R ?_)))⟩))⟩⟩)
 have hN13 : (p3.length : Int) ≤ 9223372036854775807 := g3.len_le
 refine Ob h fun q2 hq15 hK14 => ?_
 clear h
 refine Jx1 (fun L w' => ∃ κ', ∃ s3 : Int × (List Int), ∃ aa ac, L = [(9, .slice aa s3.2.length ac)] ∧ Stp [4] K10 w9 κ' w' ∧ Oc E6 2 κ' w' 4 aa ac s3.2 ∧ q2 = Sum.inr s3) ?_ ?_
 refine Jv (Jy1 (fun k L w' => ∃ κ' v10, ∃ s1 : Int × (List Int), ∃ ab ad, L = [(2, vi s1.1), (3, .slice a3 p3.length u3), (4, .pointer (some ⟨b4, 0, none⟩)), (5, .pointer (some ⟨b5, 0, none⟩)), (9, .slice ab s1.2.length ad), (10, vi v10)] ∧ Stp [4] K10 w9 κ' w' ∧ Oc E6 2 κ' w' 4 ab ad s1.2 ∧ 0 ≤ v10 ∧ Int.toNat ((p3.length : Int) - v10) = k ∧ cntM (s_l29Letters_b0 p0 p1 p3) k v10 s1 = some q2) ⟨_, _, ⟨K10, 0, ((p2 : Int), (([] : List Int) : (List Int))), am, ak, R, (Jx2 _ _).wk R, f12, (by decide), (by simp), hq15⟩, (KM R)⟩ ?_)
 rintro k _ w20 ⟨K21, v10, s1, ab, ad, rfl, S22, f23, hj13, hJ13, h⟩
 rcases k with _ | k
 have hk24 := h; obtain ⟨o13, h⟩ := ex_eq (Sum.inr (Sum.inl s1) : (List Int) ⊕ ((Int × (List Int)) ⊕ (Int × (List Int))))
 have hc13 : decide (v10 < (p3.length : Int)) = false := Jo2 (by omega)
 refine Jq (Je [2, 2, 2, 2] R (Jn 2 R (Jf R (Je2 U40 R R) (Jb 1 R (Jw2 R hc13 (Jc1 (Jt (Jt ?_))))))))
 cases h
 have h := hk24
 refine Jb1 ?_
 cases h
 exact Jw1 _ ⟨K21, ((s1.1 : Int), (s1.2 : (List Int))), ab, ad, R, S22.wk R, f23, R⟩ (KM R)
 obtain ⟨o13, h, hk24⟩ := BI h; unfold s_l29Letters_b0 at h
 have hc13 : decide (v10 < (p3.length : Int)) = true := Jn2 (by omega)
 refine Jq (Je [2, 2, 2, 2] R (Jn 2 R (Jf R (Je2 U40 R R) (Jb 1 R (Jv2 R hc13 (Js (Jp (Jq (Jv (Jq (Js1 (κ := K21) [0, 2, 3] none [(0, 2), (1, 2), (3, 2), (6, 2), (7, 2), (8, 2), (15, 2), (16, 2), (17, 2), (2, 0), (4, 2), (5, 0), (9, 0), (10, 2), (11, 0), (12, 0), (18, 0), (13, 1), (14, 2), (19, 2), (20, 1), (21, 1), (22, 2)] [] (by kernel_rfl) (by kernel_rfl) fun w26 S25 => Jn 1 R (Jf R (Jb2 U33 R Z24 R R) (Jn 3 R (Ob h fun x26 hx26 h => Jf R (Jf2 g3 hx26 U40 Z2 R R R R) (Jn 2 R (Ob h fun x35 hx35 h => Jf R (Jf2 g3 hx35 U40 Z2 R R R R) ?_))))))))))))))))
 have f27 := f8.stp (S11.tr (S22.tr S25)) R R
 refine Jg R (Jc2 I24 R R (hvC (f27.ld 1 R R) R)) (Ob h fun x22 hx22 h => Jf R (Jf2 g1_1 hx22 U24 Z40 R R R R) ?_)
 obtain ⟨ax22, ux22, f29, hl30⟩ := (g1_1.stp (S3.tr (S7.tr (S11.tr (S22.tr S25)))) R R).gSl hx22
 refine Jg R (Jc2 I40 R R (hvC hl30 R)) ?_
 have f31 := g3.stp (S3.tr (S7.tr (S11.tr (S22.tr S25)))) R R
 refine Jg R (Jc2 I2 R R (hvC (f31.gInt hx26) R)) (Ob h fun x28 hx28 h => Jf R (Jf2 f29 hx28 U40 Z2 R R R R) (Jg R (Jc2 I2 R R (hvC (f29.gInt hx28) R)) (Jg R (Jd2 (cs := [vi p0.In, vi p0.Out]) I31 Z31 R R R (haC (f4.stp (S7.tr (S11.tr (S22.tr S25))) R R).cells R)) (Jg R (Jc2 I2 R R (hvC (f31.gInt hx35) R)) (Ob h fun x31 hx31 h => Jh R R R C134 (s_l29Ins_ok (κ := fun b => mp [] 0 (K21 b)) (p0 := p0) hx31) ?_)))))
 rintro _ w33 ⟨k34, rfl, e35⟩
 obtain ⟨K36, S37, m38⟩ := Ji e35 5 R
 refine ⟨(S37.cl R), Jn 2 R (Jn1 (κ := K36) (E := E6) 7 [] (parts := [(0, .tmp 37)]) (cells := [vi (IntKind.i64.wrap ((IntKind.i64.wrap (x28 * x31)) + x35))]) (xs := ([(IntKind.i64.wrap ((IntKind.i64.wrap (x28 * x31)) + x35))] : List Int)) R R R R R R Y40 Tryzinfo2 R R R R R R R R R R ⟨[vi (IntKind.i64.wrap ((IntKind.i64.wrap (x28 * x31)) + x35))], [], Zl K36 w33 [], Zl K36 w33 [], R, Zl.sp (l1 := []) (l2 := []) R, Zl.sr (l1 := []) (l2 := []), R, R⟩ fun an ao w40 K41 S42 f43 => ⟨((S37.tr S42).cl R), Ob h fun x39 hx39 h => Jm1 (κ := K41) (E := E6) 4 [] R R R R R R R R R Y40 Tryzinfo2 R R R R (f23.stp (S25.tr (S37.tr S42)) R R) (Sl.srcP (pu_int _) f43.rdc) sy_false hx39 R fun aj al w45 K46 S47 f48 => ⟨((S37.tr (S42.tr S47)).cl R), Jn 1 R (Jt1 (Jd (Js1 (κ := K46) [0, 3] none [(0, 2), (2, 2), (5, 2), (6, 2), (7, 2), (1, 0), (3, 2), (4, 0), (8, 0), (9, 2), (10, 0), (11, 2)] [] (by kernel_rfl) (by kernel_rfl) fun w50 S49 => Jf R (Jb2 U33 R Z24 R R) (Jn 3 R (Ob h fun x47 hx47 h => Jf R (Jf2 f31 hx47 U40 Z2 R R R R) (Jg R (Jc2 I24 R R (hvC ((f27.stp (S37.tr (S42.tr (S47.tr S49))) R R).ld 0 R R) R)) (Ob h fun x43 hx43 h => Jf R (Jf2 g1_0 hx43 U24 Z40 R R R R) ?_)))))))⟩⟩)⟩
 obtain ⟨ax43, ux43, f53, hl54⟩ := (g1_0.stp (S3.tr (S7.tr (S11.tr (S22.tr (S25.tr (S37.tr (S42.tr (S47.tr S49)))))))) R R).gSl hx43
 refine Jg R (Jc2 I40 R R (hvC hl54 R)) (Jg R (Jc2 I2 R R (hvC ((f31.stp (S37.tr (S42.tr (S47.tr S49))) R R).gInt hx47) R)) (Ob h fun x49 hx49 h => Jf R (Jf2 f53 hx49 U40 Z2 R R R R) (Jg R (Jc2 I2 R R (hvC (f53.gInt hx49) R)) (Jn 1 R (Jt1 (Jo (Jz (Jp (Ja [2, 2, 2] R (Jc 3 R ?_))))))))))
 have hw13 : IntKind.wrap .i64 (v10 + 1) = v10 + 1 := wr1 hj13 (Jm2 hc13) hN13
 rw [hw13]
 have hc13 := Jm2 hc13
 cases h
 exact Jz1 fun a ha => ⟨k, _, Ja3 _, ⟨K46, v10 + 1, ((x49 : Int), (x39 : (List Int))), aj, al, R, (S22.tr (S25.tr (S37.tr (S42.tr (S47.tr S49))))).wk R, (f48.stp S49 R R), by omega, by omega, hk24⟩, (ha.mm R)⟩
 rintro _ w16 ⟨K17, s3, aa, ac, rfl, S18, f19, rfl⟩
 have h := hK14
 dsimp only [aft] at h
 refine Jp (Je [2, 2] R (Jb 2 R (Ju (Ja2 (l := [.tmp 8]) V101 (Jp2 R R) R ?_))))
 cases h
 exact ⟨(fun b => ren [(4, 2)] (K17 b)), aa, ac, R, ((hE.stp (S3.tr (S7.tr (S11.tr S18))) R R).map (ren [(4, 2)]) R R), (f19.map (ren [(4, 2)]) R R)⟩
theorem i_monitorOf_ok {w : World} {κ : Col} {p0 : Sig} {bc be bb bd} {p1 : Clause} (g1_1 : Rd (Rp.int .i64) κ w 0 bc be p1.A) (g1_2 : Rd (Rp.int .i64) κ w 0 bb bd p1.B) {r : Det} (h : i_monitorOf p0 p1 = some r) : Ret Tryz.prog 121 [.agg #[vi p0.In, vi p0.Out], .agg #[vi p1.Kind, .slice bc p1.A.length be, .slice bb p1.B.length bd]] w (fun v w' => ∃ (κ' : Col) (ra0 : Option Addr) (ru0 : Nat) (ra1 : Option Addr) (ru1 : Nat), v = .agg #[.slice ra0 r.Next.length ru0, .slice ra1 r.Pairs.length ru1] ∧ Ent κ w κ' w' ∧ Oc (Ep.own E6 2) 40 κ' w' 2 ra0 ru0 r.Next ∧ Oc Pair.ep92 92 κ' w' 3 ra1 ru1 r.Pairs) := by
 unfold i_monitorOf at h
 refine Ret.enter F121 R N121 R ?_
 dsimp only [envOf]
 have hE := Ent.refl κ w
 refine Je [1, 1, 1] R (Jf1 (κ := κ) 2 R R R R R R R fun b2 w1 K2 S3 f4 => ⟨tv, Jf1 (κ := K2) 3 R R R R R R R fun b3 w5 K6 S7 f8 => ⟨tv, Jg1 (κ := K6) 4 R R R R R X94 R fun b4 w9 K10 S11 f12 => ⟨tv, Jd (Je [2] R (Jb 1 R (Je [2, 1, 1] R (Jf R (rn_build (parts := []) (cells := [.slice none 0 0, .slice none 0 0]) R R (by kernel_rfl)) (Jg1 (κ := K10) 5 R R R R R X92 R fun b6 w13 K14 S15 f16 => ⟨tv, Jj1 (κ := K14) 5 (vc := [.slice none 0 0, .slice none 0 0]) R R R R R R R Z92 R R f16 R fun w17 S18 f19 => ⟨tv, Jd (Jq (Je [2, 1] R (Jf R (Jb2 U71 R Z2 R R) ?_)))⟩⟩)))))⟩⟩⟩)
 have f20 := f8.stp (S11.tr (S15.tr S18)) R R
 refine Jl tv R R R R (Jc2 I2 R R (hvE (f20.ld 0 R R))) (Jd (Jv (Jq (Je [2, 2] R (Jb 2 R (Ob h fun q1 h hK21 => Jx1 (fun L w' => ∃ κ', L = [(2, .pointer (some ⟨b2, 0, none⟩)), (3, .pointer (some ⟨b3, 0, none⟩)), (4, .pointer (some ⟨b4, 0, none⟩)), (5, vi 2), (6, .pointer (some ⟨b6, 0, none⟩)), (13, vi p1.Kind), (17, .bool q1)] ∧ Stp [] K14 w17 κ' w') ?_ ?_))))))
 revert h
 cases ht25 : (p1.Kind == 1)
 refine JF fun h => Jy R (Ja [2, 2] R (Jc 2 R ?_))
 cases h
 exact Jw1 _ ⟨K14, R, (Jx2 _ _).wk R⟩ (KM R)
 refine JT fun h => Jx R (Js ?_)
 cases h
 exact Jw1 _ ⟨K14, R, (Jx2 _ _).wk R⟩ (KM R)
 rintro _ w22 ⟨K23, rfl, S24⟩
 have h := hK21
 refine Jp (Ob h fun q2 h hK26 => Jx1 (fun L w' => ∃ κ' af ae ad ac, L = [(2, .pointer (some ⟨b2, 0, none⟩)), (3, .pointer (some ⟨b3, 0, none⟩)), (4, .pointer (some ⟨b4, 0, none⟩)), (5, vi q2.1), (6, .pointer (some ⟨b6, 0, none⟩))] ∧ Stp [5] K23 w22 κ' w' ∧ Oc E6 2 κ' w' 6 af ae q2.2.1 ∧ Oc E6 2 κ' w' 7 ad ac q2.2.2 ∧ Bc κ' w' 5 b6 92 [.slice af q2.2.1.length ae, .slice ad q2.2.2.length ac]) ?_ ?_)
 revert h
 cases ht33 : q1
 refine JF fun h => Jy R (Je [2, 2] R (Jb 2 R (Ob h fun q3 h hK43 => Jx1 (fun L w' => ∃ κ' aw aE ar aC, L = [(2, .pointer (some ⟨b2, 0, none⟩)), (3, .pointer (some ⟨b3, 0, none⟩)), (4, .pointer (some ⟨b4, 0, none⟩)), (5, vi q3.1), (6, .pointer (some ⟨b6, 0, none⟩))] ∧ Stp [5] K23 w22 κ' w' ∧ Oc E6 2 κ' w' 6 aw aE q3.2.1 ∧ Oc E6 2 κ' w' 7 ar aC q3.2.2 ∧ Bc κ' w' 5 b6 92 [.slice aw q3.2.1.length aE, .slice ar q3.2.2.length aC]) ?_ ?_)))
 revert h
 cases ht50 : (p1.Kind == 2)
 refine JF fun h => Jy R (Je [2, 2] R (Jb 2 R (Ob h fun q4 h hK60 => Jx1 (fun L w' => ∃ κ' an av aq al, L = [(2, .pointer (some ⟨b2, 0, none⟩)), (3, .pointer (some ⟨b3, 0, none⟩)), (4, .pointer (some ⟨b4, 0, none⟩)), (5, vi q4.1), (6, .pointer (some ⟨b6, 0, none⟩))] ∧ Stp [5] K23 w22 κ' w' ∧ Oc E6 2 κ' w' 6 an av q4.2.1 ∧ Oc E6 2 κ' w' 7 aq al q4.2.2 ∧ Bc κ' w' 5 b6 92 [.slice an q4.2.1.length av, .slice aq q4.2.2.length al]) ?_ ?_)))
 revert h
 cases ht67 : (p1.Kind == 3)
 refine JF fun h => Jy R (Je [2, 2] R (Jb 2 R (Ob h fun q5 h hK82 => Jx1 (fun L w' => ∃ κ' aD am ap ax, L = [(2, .pointer (some ⟨b2, 0, none⟩)), (3, .pointer (some ⟨b3, 0, none⟩)), (4, .pointer (some ⟨b4, 0, none⟩)), (5, vi q5.1), (6, .pointer (some ⟨b6, 0, none⟩))] ∧ Stp [5] K23 w22 κ' w' ∧ Oc E6 2 κ' w' 6 aD am q5.2.1 ∧ Oc E6 2 κ' w' 7 ap ax q5.2.2 ∧ Bc κ' w' 5 b6 92 [.slice aD q5.2.1.length am, .slice ap q5.2.2.length ax]) ?_ ?_)))
 revert h
 cases ht89 : (p1.Kind == 4)
 refine JF fun h => Jy R (Je [2, 2] R (Jb 2 R (Ob h fun q6 h hK104 => Jx1 (fun L w' => ∃ κ' au aA aF ay, L = [(2, .pointer (some ⟨b2, 0, none⟩)), (3, .pointer (some ⟨b3, 0, none⟩)), (4, .pointer (some ⟨b4, 0, none⟩)), (5, vi q6.1), (6, .pointer (some ⟨b6, 0, none⟩))] ∧ Stp [5] K23 w22 κ' w' ∧ Oc E6 2 κ' w' 6 au aA q6.2.1 ∧ Oc E6 2 κ' w' 7 aF ay q6.2.2 ∧ Bc κ' w' 5 b6 92 [.slice au q6.2.1.length aA, .slice aF q6.2.2.length ay]) ?_ ?_)))
 revert h
 cases ht111 : (p1.Kind == 6)
 refine JF fun h => Jy R (Je [2] R (Jb 1 R (Ja [1, 1, 2, 1] R (Jn1 (κ := K23) (E := E6) 6 [] (parts := [(0, .const (vi 2)), (1, .const (vi 3))]) (cells := [vi 2, vi 3]) (xs := ([2, 3] : List Int)) R R R R R R Y40 Tryzinfo2 R R R R R R R R R R ⟨[vi 2], [vi 3], Zl K23 w22 [], Zl K23 w22 [], R, Zl.sp (l1 := []) (l2 := []) R, Zl.sr (l1 := []) (l2 := []), R, ⟨[vi 3], [], Zl K23 w22 [], Zl K23 w22 [], R, Zl.sp (l1 := []) (l2 := []) R, Zl.sr (l1 := []) (l2 := []), R, R⟩⟩ fun aI aK w121 K122 S123 f124 => ⟨tv, Jn1 (κ := K122) (E := E6) 7 [] (parts := [(0, .const (vi 1)), (1, .const (vi 3))]) (cells := [vi 1, vi 3]) (xs := ([1, 3] : List Int)) R R R R R R Y40 Tryzinfo2 R R R R R R R R R R ⟨[vi 1], [vi 3], Zl K122 w121 [], Zl K122 w121 [], R, Zl.sp (l1 := []) (l2 := []) R, Zl.sr (l1 := []) (l2 := []), R, ⟨[vi 3], [], Zl K122 w121 [], Zl K122 w121 [], R, Zl.sp (l1 := []) (l2 := []) R, Zl.sr (l1 := []) (l2 := []), R, R⟩⟩ fun aU aO w125 K126 S127 f128 => ⟨tv, Jf R (rn_build (parts := [(0, .tmp 14), (1, .tmp 15)]) (cells := [.slice aI ([2, 3] : List Int).length aK, .slice aU ([1, 3] : List Int).length aO]) R R (by kernel_rfl)) (Jj1 (κ := K126) 5 (vc := [.slice aI ([2, 3] : List Int).length aK, .slice aU ([1, 3] : List Int).length aO]) R R R R R R R Z92 R R (f19.stp (S24.tr (S123.tr S127)) R R) R fun w130 S131 f132 => ⟨tv, Jo ?_⟩)⟩⟩))))
 cases h
 exact Jw1 _ ⟨K126, aI, aK, aU, aO, R, (S123.tr (S127.tr S131)).wk R, (f124.stp (S127.tr S131) R R), (f128.stp S131 R R), f132⟩ (KM R)
 refine JT fun h => Jx R (Ja [1, 2, 1] R (Jn1 (κ := K23) (E := E6) 6 [] (parts := [(0, .const (vi 0))]) (cells := [vi 0]) (xs := ([0] : List Int)) R R R R R R Y40 Tryzinfo2 R R R R R R R R R R ⟨[vi 0], [], Zl K23 w22 [], Zl K23 w22 [], R, Zl.sp (l1 := []) (l2 := []) R, Zl.sr (l1 := []) (l2 := []), R, R⟩ fun aW ba w112 K113 S114 f115 => ⟨tv, Jf R (Jb2 U92 R Z40 R R) (Ji1 (κ := K113) 5 (off := 0) (vc := [.slice aW ([0] : List Int).length ba]) (cs' := [.slice aW ([0] : List Int).length ba, .slice none 0 0]) R R R R R R R Z40 R R (f19.stp (S24.tr S114) R R) R R fun w117 S118 f119 => ⟨tv, Jo ?_⟩)⟩))
 cases h
 exact Jw1 _ ⟨K113, aW, ba, none, 0, R, (S114.tr S118).wk R, (f115.stp S118 R R), Ow.nil, f119⟩ (KM R)
 rintro _ w105 ⟨K106, au, aA, aF, ay, rfl, S107, f108, f109, f110⟩
 have h := hK104
 cases h
 exact Jw1 _ ⟨K106, au, aA, aF, ay, R, S107.wk R, f108, f109, f110⟩ (KM R)
 refine JT fun h => Jx R (Ja [1, 1, 2, 1] R (Jn1 (κ := K23) (E := E6) 6 [] (parts := [(0, .const (vi 0)), (1, .const (vi 1))]) (cells := [vi 0, vi 1]) (xs := ([0, 1] : List Int)) R R R R R R Y40 Tryzinfo2 R R R R R R R R R R ⟨[vi 0], [vi 1], Zl K23 w22 [], Zl K23 w22 [], R, Zl.sp (l1 := []) (l2 := []) R, Zl.sr (l1 := []) (l2 := []), R, ⟨[vi 1], [], Zl K23 w22 [], Zl K23 w22 [], R, Zl.sp (l1 := []) (l2 := []) R, Zl.sr (l1 := []) (l2 := []), R, R⟩⟩ fun aQ aN w90 K91 S92 f93 => ⟨tv, Jn1 (κ := K91) (E := E6) 7 [] (parts := [(0, .const (vi 1))]) (cells := [vi 1]) (xs := ([1] : List Int)) R R R R R R Y40 Tryzinfo2 R R R R R R R R R R ⟨[vi 1], [], Zl K91 w90 [], Zl K91 w90 [], R, Zl.sp (l1 := []) (l2 := []) R, Zl.sr (l1 := []) (l2 := []), R, R⟩ fun aL aP w94 K95 S96 f97 => ⟨tv, Jf R (rn_build (parts := [(0, .tmp 33), (1, .tmp 34)]) (cells := [.slice aQ ([0, 1] : List Int).length aN, .slice aL ([1] : List Int).length aP]) R R (by kernel_rfl)) (Jj1 (κ := K95) 5 (vc := [.slice aQ ([0, 1] : List Int).length aN, .slice aL ([1] : List Int).length aP]) R R R R R R R Z92 R R (f19.stp (S24.tr (S92.tr S96)) R R) R fun w99 S100 f101 => ⟨tv, Jo ?_⟩)⟩⟩))
 cases h
 exact Jw1 _ ⟨K95, aQ, aN, aL, aP, R, (S92.tr (S96.tr S100)).wk R, (f93.stp (S96.tr S100) R R), (f97.stp S100 R R), f101⟩ (KM R)
 rintro _ w83 ⟨K84, aD, am, ap, ax, rfl, S85, f86, f87, f88⟩
 have h := hK82
 cases h
 exact Jw1 _ ⟨K84, aD, am, ap, ax, R, S85.wk R, f86, f87, f88⟩ (KM R)
 refine JT fun h => Jx R (Ja [1, 1, 2, 1] R (Jn1 (κ := K23) (E := E6) 6 [] (parts := [(0, .const (vi 1))]) (cells := [vi 1]) (xs := ([1] : List Int)) R R R R R R Y40 Tryzinfo2 R R R R R R R R R R ⟨[vi 1], [], Zl K23 w22 [], Zl K23 w22 [], R, Zl.sp (l1 := []) (l2 := []) R, Zl.sr (l1 := []) (l2 := []), R, R⟩ fun aH aS w68 K69 S70 f71 => ⟨tv, Jn1 (κ := K69) (E := E6) 7 [] (parts := [(0, .const (vi 0))]) (cells := [vi 0]) (xs := ([0] : List Int)) R R R R R R Y40 Tryzinfo2 R R R R R R R R R R ⟨[vi 0], [], Zl K69 w68 [], Zl K69 w68 [], R, Zl.sp (l1 := []) (l2 := []) R, Zl.sr (l1 := []) (l2 := []), R, R⟩ fun aM aR w72 K73 S74 f75 => ⟨tv, Jf R (rn_build (parts := [(0, .tmp 28), (1, .tmp 29)]) (cells := [.slice aH ([1] : List Int).length aS, .slice aM ([0] : List Int).length aR]) R R (by kernel_rfl)) (Jj1 (κ := K73) 5 (vc := [.slice aH ([1] : List Int).length aS, .slice aM ([0] : List Int).length aR]) R R R R R R R Z92 R R (f19.stp (S24.tr (S70.tr S74)) R R) R fun w77 S78 f79 => ⟨tv, Jo ?_⟩)⟩⟩))
 cases h
 exact Jw1 _ ⟨K73, aH, aS, aM, aR, R, (S70.tr (S74.tr S78)).wk R, (f71.stp (S74.tr S78) R R), (f75.stp S78 R R), f79⟩ (KM R)
 rintro _ w61 ⟨K62, an, av, aq, al, rfl, S63, f64, f65, f66⟩
 have h := hK60
 cases h
 exact Jw1 _ ⟨K62, an, av, aq, al, R, S63.wk R, f64, f65, f66⟩ (KM R)
 refine JT fun h => Jx R (Je [2] R (Jb 1 R (Ja [1, 2, 1] R (Jn1 (κ := K23) (E := E6) 6 [] (parts := [(0, .const (vi 2))]) (cells := [vi 2]) (xs := ([2] : List Int)) R R R R R R Y40 Tryzinfo2 R R R R R R R R R R ⟨[vi 2], [], Zl K23 w22 [], Zl K23 w22 [], R, Zl.sp (l1 := []) (l2 := []) R, Zl.sr (l1 := []) (l2 := []), R, R⟩ fun aX aZ w51 K52 S53 f54 => ⟨tv, Jf R (Jb2 U92 R Z40 R R) (Ji1 (κ := K52) 5 (off := 0) (vc := [.slice aX ([2] : List Int).length aZ]) (cs' := [.slice aX ([2] : List Int).length aZ, .slice none 0 0]) R R R R R R R Z40 R R (f19.stp (S24.tr S53) R R) R R fun w56 S57 f58 => ⟨tv, Jo ?_⟩)⟩))))
 cases h
 exact Jw1 _ ⟨K52, aX, aZ, none, 0, R, (S53.tr S57).wk R, (f54.stp S57 R R), Ow.nil, f58⟩ (KM R)
 rintro _ w44 ⟨K45, aw, aE, ar, aC, rfl, S46, f47, f48, f49⟩
 have h := hK43
 cases h
 exact Jw1 _ ⟨K45, aw, aE, ar, aC, R, S46.wk R, f47, f48, f49⟩ (KM R)
 refine JT fun h => Jx R (Ja [1, 2, 1] R (Jn1 (κ := K23) (E := E6) 6 [] (parts := [(0, .const (vi 1))]) (cells := [vi 1]) (xs := ([1] : List Int)) R R R R R R Y40 Tryzinfo2 R R R R R R R R R R ⟨[vi 1], [], Zl K23 w22 [], Zl K23 w22 [], R, Zl.sp (l1 := []) (l2 := []) R, Zl.sr (l1 := []) (l2 := []), R, R⟩ fun aT aY w34 K35 S36 f37 => ⟨tv, Jf R (Jb2 U92 R Z40 R R) (Ji1 (κ := K35) 5 (off := 0) (vc := [.slice aT ([1] : List Int).length aY]) (cs' := [.slice aT ([1] : List Int).length aY, .slice none 0 0]) R R R R R R R Z40 R R (f19.stp (S24.tr S36) R R) R R fun w39 S40 f41 => ⟨tv, Jo ?_⟩)⟩))
 cases h
 exact Jw1 _ ⟨K35, aT, aY, none, 0, R, (S36.tr S40).wk R, (f37.stp S40 R R), Ow.nil, f41⟩ (KM R)
 rintro _ w27 ⟨K28, af, ae, ad, ac, rfl, S29, f30, f31, f32⟩
 have h := hK26
 refine Jz (Jp (Je [1, 1, 2, 1, 1] R (Jl tv R R R R (Jd2 (cs := [.slice af q2.2.1.length ae, .slice ad q2.2.2.length ac]) I92 Z92 R R R (haE f32.cells)) (Jn1 (κ := K28) (E := Pair.ep92) 8 [6, 7] (parts := [(0, .tmp 40)]) (cells := [.slice af q2.2.1.length ae, .slice ad q2.2.2.length ac]) (xs := ([(⟨q2.2.1, q2.2.2⟩ : Pair)] : List Pair)) R R R R R R Y79 Tryzinfo92 R R R R R R R R R R ⟨[.slice af q2.2.1.length ae, .slice ad q2.2.2.length ac], [], Zl K28 w27 [6, 7], Zl K28 w27 [], R, Zl.sp (l1 := [6, 7]) (l2 := []) R, Zl.sr (l1 := [6, 7]) (l2 := []), ⟨[.slice af q2.2.1.length ae], [.slice ad q2.2.2.length ac], Zl K28 w27 [6], Zl K28 w27 [7], R, Zl.sp (l1 := [6]) (l2 := [7]) R, Zl.sr (l1 := [6]) (l2 := [7]), ⟨_, _, R, f30⟩, ⟨_, _, R, f31⟩⟩, R⟩ fun ab aa w135 K136 S137 f138 => ⟨tv, Jf R (rn_build (parts := [(1, .tmp 41)]) (cells := [.slice none 0 0, .slice ab ([(⟨q2.2.1, q2.2.2⟩ : Pair)] : List Pair).length aa]) R R (by kernel_rfl)) (Jg1 (κ := K136) 9 R R R R R X94 R fun b7 w139 K140 S141 f142 => ⟨tv, Jj1 (κ := K140) 9 (vc := [.slice none 0 0, .slice ab ([(⟨q2.2.1, q2.2.2⟩ : Pair)] : List Pair).length aa]) R R R R R R R Z94 R R f142 R fun w143 S144 f145 => ⟨tv, Jd (Jq (Je [2, 2] R (Jb 2 R (Ob h fun _ hr146 h => ?_))))⟩⟩)⟩))))
 have hN146 := rng_ok hr146
 refine Ob h fun q8 hq148 hK147 => ?_
 clear h
 refine Jx1 (fun L w' => ∃ κ', ∃ s9 : (List (List Int)), ∃ ah ai, L = [(4, .pointer (some ⟨b4, 0, none⟩)), (7, .pointer (some ⟨b7, 0, none⟩))] ∧ Stp [9, 10, 11, 14] K140 w143 κ' w' ∧ Oc (Ep.own E6 2) 40 κ' w' 10 ah ai s9 ∧ Bc κ' w' 9 b7 94 [.slice ah s9.length ai, .slice ab ([(⟨q2.2.1, q2.2.2⟩ : Pair)] : List Pair).length aa] ∧ q8 = Sum.inr s9) ?_ ?_
 refine Jv (Jy1 (fun k L w' => ∃ κ' v44, ∃ s7 : (List (List Int)), ∃ ao aB, L = [(2, .pointer (some ⟨b2, 0, none⟩)), (3, .pointer (some ⟨b3, 0, none⟩)), (4, .pointer (some ⟨b4, 0, none⟩)), (7, .pointer (some ⟨b7, 0, none⟩)), (43, vi q2.1), (44, vi v44)] ∧ Stp [9, 10, 11, 14] K140 w143 κ' w' ∧ Oc (Ep.own E6 2) 40 κ' w' 10 ao aB s7 ∧ Bc κ' w' 9 b7 94 [.slice ao s7.length aB, .slice ab ([(⟨q2.2.1, q2.2.2⟩ : Pair)] : List Pair).length aa] ∧ 0 ≤ v44 ∧ Int.toNat (q2.1 - v44) = k ∧ cntM (i_monitorOf_b1 p0 p1) k v44 s7 = some q8) ⟨_, _, ⟨K140, 0, (([] : List (List Int)) : (List (List Int))), none, 0, R, (Jx2 _ _).wk R, Ow.nil, f145, (by decide), (by simp), hq148⟩, (KM R)⟩ ?_)
 rintro k _ w154 ⟨K155, v44, s7, ao, aB, rfl, S156, f157, f158, hj146, hJ146, h⟩
 rcases k with _ | k
 have hk159 := h; obtain ⟨o146, h⟩ := ex_eq (Sum.inr (Sum.inl s7) : Det ⊕ (((List (List Int))) ⊕ ((List (List Int)))))
 have hc146 : decide (v44 < q2.1) = false := Jo2 (by omega)
 refine Je [2] R (Jb 1 R (Jq (Jw2 R hc146 (Jc1 (Jt (Jt ?_))))))
 cases h
 have h := hk159
 refine Jb1 ?_
 cases h
 exact Jw1 _ ⟨K155, (s7 : (List (List Int))), ao, aB, R, S156.wk R, f157, f158, R⟩ (KM R)
 obtain ⟨o146, h, hk159⟩ := BI h; unfold i_monitorOf_b1 at h
 have hc146 : decide (v44 < q2.1) = true := Jn2 (by omega)
 refine Je [2] R (Jb 1 R (Jq (Jv2 R hc146 (Js (Jp (Jq (Jv (Je [2, 2] R (Jb 2 R (Je [1, 2] R (Jo1 (κ := K155) (E := E6) 11 R R R R R Y40 Tryzinfo2 R fun bg bi w160 K161 S162 f163 => ⟨tv, Jb 1 R (Jq (Je [1, 1, 2] R (Jl tv R R R R (Jd2 (cs := [vi p0.In, vi p0.Out]) I31 Z31 R R R (haE (f4.stp (S7.tr (S11.tr (S15.tr (S18.tr (S24.tr (S29.tr (S137.tr (S141.tr (S144.tr (S156.tr S162)))))))))) R R).cells)) (Ob h fun x49 hx49 h => Jh R R R C119 (i_lettersOf_ok (κ := fun b => mp [] 0 (K161 b)) (p0 := p0) hx49) ?_))))⟩)))))))))))
 rintro _ w165 ⟨k166, rfl, e167⟩
 obtain ⟨K168, S169, m170⟩ := Ji e167 12 R
 refine ⟨tv, Jb 1 R (Ob h fun _ hr172 h => ?_)⟩
 have hN172 := rng_ok hr172
 refine Ob h fun q11 hq174 hK173 => ?_
 clear h
 refine Jx1 (fun L w' => ∃ κ', ∃ s12 : (List Int), ∃ aj ak, L = [(2, .pointer (some ⟨b2, 0, none⟩)), (3, .pointer (some ⟨b3, 0, none⟩)), (4, .pointer (some ⟨b4, 0, none⟩)), (7, .pointer (some ⟨b7, 0, none⟩)), (9, .slice aj s12.length ak), (43, vi q2.1), (44, vi v44)] ∧ Stp [11] K168 w165 κ' w' ∧ Oc E6 2 κ' w' 11 aj ak s12 ∧ q11 = Sum.inr s12) ?_ ?_
 refine Jv (Jy1 (fun k L w' => ∃ κ' v50, ∃ s10 : (List Int), ∃ aG az, L = [(2, .pointer (some ⟨b2, 0, none⟩)), (3, .pointer (some ⟨b3, 0, none⟩)), (4, .pointer (some ⟨b4, 0, none⟩)), (7, .pointer (some ⟨b7, 0, none⟩)), (8, vi v44), (9, .slice aG s10.length az), (43, vi q2.1), (44, vi v44), (49, vi x49), (50, vi v50)] ∧ Stp [11] K168 w165 κ' w' ∧ Oc E6 2 κ' w' 11 aG az s10 ∧ 0 ≤ v50 ∧ Int.toNat (x49 - v50) = k ∧ cntM (i_monitorOf_b3 p1 v44) k v50 s10 = some q11) ⟨_, _, ⟨K168, 0, (([] : List Int) : (List Int)), bg, bi, R, (Jx2 _ _).wk R, (f163.stp S169 R R), (by decide), (by simp), hq174⟩, (KM R)⟩ ?_)
 rintro k _ w179 ⟨K180, v50, s10, aG, az, rfl, S181, f182, hj172, hJ172, h⟩
 rcases k with _ | k
 have hk184 := h; obtain ⟨o172, h⟩ := ex_eq (Sum.inr (Sum.inl s10) : Det ⊕ (((List Int)) ⊕ ((List Int))))
 have hc172 : decide (v50 < x49) = false := Jo2 (by omega)
 refine Je [2] R (Jb 1 R (Jq (Jw2 R hc172 (Jc1 (Jt (Jt ?_))))))
 cases h
 have h := hk184
 refine Jb1 ?_
 cases h
 exact Jw1 _ ⟨K180, (s10 : (List Int)), aG, az, R, S181.wk R, f182, R⟩ (KM R)
 obtain ⟨o172, h, hk184⟩ := BI h; unfold i_monitorOf_b3 at h
 have hc172 : decide (v50 < x49) = true := Jn2 (by omega)
 refine Je [2] R (Jb 1 R (Jq (Jv2 R hc172 (Js (Jp (Jq (Jv (Je [2, 2] R (Jb 2 R (Js1 (κ := K180) [3] none [(0, 2), (1, 2), (3, 2), (4, 2), (6, 2), (8, 2), (10, 2), (2, 0), (5, 0), (9, 0), (7, 1), (11, 1), (12, 1), (13, 1), (14, 1), (15, 2)] [] (by kernel_rfl) (by kernel_rfl) fun w186 S185 => Jn 1 R (Jf R (Jb2 U71 R Z2 R R) (Jn 1 R (Jf R (Jb2 U71 R Z40 R R) (Jn 1 R (Jf R (Jb2 U71 R Z40 R R) (Jn 1 R ?_))))))))))))))))
 have f187 := f20.stp (S24.tr (S29.tr (S137.tr (S141.tr (S144.tr (S156.tr (S162.tr (S169.tr (S181.tr S185))))))))) R R
 refine Jg R (Jc2 I2 R R (hvC (f187.ld 0 R R) R)) (Jg R (Jc2 I40 R R (hvC (f187.ld 1 R R) R)) (Jg R (Jc2 I40 R R (hvC (f187.ld 2 R R) R)) (Ob h fun x60 hx60 h => Jh R R R C73 (slices_Contains_I_int64_ok (κ := fun b => mp [] 0 (K180 b)) (Jl2 (g1_1.stp (S3.tr (S7.tr (S11.tr (S15.tr (S18.tr (S24.tr (S29.tr (S137.tr (S141.tr (S144.tr (S156.tr (S162.tr (S169.tr (S181.tr S185)))))))))))))) R R) (mp [] 0) R R) hx60) ?_)))
 rintro _ w189 ⟨k190, rfl, e191⟩
 obtain ⟨K192, S193, m194⟩ := Ji e191 14 R
 refine ⟨(S193.cl R), Ob h fun x64 hx64 h => Jh R R R C73 (slices_Contains_I_int64_ok (κ := fun b => mp [] 0 (K192 b)) (Jl2 (g1_2.stp (S3.tr (S7.tr (S11.tr (S15.tr (S18.tr (S24.tr (S29.tr (S137.tr (S141.tr (S144.tr (S156.tr (S162.tr (S169.tr (S181.tr (S185.tr S193))))))))))))))) R R) (mp [] 0) R R) hx64) ?_⟩
 rintro _ w197 ⟨k198, rfl, e199⟩
 obtain ⟨K200, S201, m202⟩ := Ji e199 16 R
 refine ⟨((S193.tr S201).cl R), Ob h fun x65 hx65 h => Jh R R R C151 (i_monitorStep_ok (κ := fun b => mp [] 0 (K200 b)) hx65) ?_⟩
 rintro _ w204 ⟨k205, rfl, e206⟩
 obtain ⟨K207, S208, m209⟩ := Ji e206 18 R
 have S001 := (S193.tr (S201.tr S208))
 refine ⟨(S001.cl R), Jn1 (κ := K207) (E := E6) 20 [] (parts := [(0, .tmp 65)]) (cells := [vi x65]) (xs := ([x65] : List Int)) R R R R R R Y40 Tryzinfo2 R R R R R R R R R R ⟨[vi x65], [], Zl K207 w204 [], Zl K207 w204 [], R, Zl.sp (l1 := []) (l2 := []) R, Zl.sr (l1 := []) (l2 := []), R, R⟩ fun bk bl w211 K212 S213 f214 => ⟨((S001.tr S213).cl R), Ob h fun x67 hx67 h => Jm1 (κ := K212) (E := E6) 11 [] R R R R R R R R R Y40 Tryzinfo2 R R R R (f182.stp (S185.tr (S193.tr (S201.tr (S208.tr S213)))) R R) (Sl.srcP (pu_int _) f214.rdc) sy_false hx67 R fun bf bh w216 K217 S218 f219 => ⟨((S001.tr (S213.tr S218)).cl R), Jn 1 R (Jt1 (Jo (Jz (Jp (Ja [2, 2] R (Jc 2 R ?_))))))⟩⟩⟩
 have hw172 : IntKind.wrap .i64 (v50 + 1) = v50 + 1 := wr1 hj172 (Jm2 hc172) hN172
 rw [hw172]
 have hc172 := Jm2 hc172
 cases h
 exact Jz1 fun a ha => ⟨k, _, Ja3 _, ⟨K217, v50 + 1, (x67 : (List Int)), bf, bh, R, (S181.tr (S185.tr (S193.tr (S201.tr (S208.tr (S213.tr S218)))))).wk R, f219, by omega, by omega, hk184⟩, (ha.mm R)⟩
 rintro _ w175 ⟨K176, s12, aj, ak, rfl, S177, f178, rfl⟩
 have h := hK173
 dsimp only [aft] at h
 refine Jp (Ja [2, 1, 2, 1, 1, 2, 1] R (Jf R (Jb2 U94 R Z24 R R) ?_))
 have f220 := f158.stp (S162.tr (S169.tr S177)) R R
 refine Jl tv R R R R (Jc2 I24 R R (hvE (f220.ld 0 R R))) (Jn 1 R (Jn1 (κ := K176) (E := (Ep.own E6 2)) 14 [11] (parts := [(0, .tmp 71)]) (cells := [.slice aj s12.length ak]) (xs := ([s12] : List (List Int))) R R R R R R Y24 Tryzinfo40 R R R R R R R R R R ⟨[.slice aj s12.length ak], [], Zl K176 w175 [11], Zl K176 w175 [], R, Zl.sp (l1 := [11]) (l2 := []) R, Zl.sr (l1 := [11]) (l2 := []), ⟨_, _, R, f178⟩, R⟩ fun bj bm w221 K222 S223 f224 => ⟨tv, Ob h fun x73 hx73 h => Jm1 (κ := K222) (E := (Ep.own E6 2)) 10 [14] R R R R R R R R R Y24 Tryzinfo40 R R R R (f157.stp (S162.tr (S169.tr (S177.tr S223))) R R) f224.src (sy_one R) hx73 R fun aJ aV w226 K227 S228 f229 => ⟨tv, Jf R (Jb2 U94 R Z24 R R) (Ji1 (κ := K227) 9 (off := 0) (vc := [.slice aJ x73.length aV]) (cs' := [.slice aJ x73.length aV, .slice ab ([(⟨q2.2.1, q2.2.2⟩ : Pair)] : List Pair).length aa]) R R R R R R R Z24 R R (f220.stp (S223.tr S228) R R) R R fun w231 S232 f233 => ⟨tv, Jo (Jz (Jp (Ja [2, 2] R (Jc 2 R ?_))))⟩)⟩⟩))
 have hw146 : IntKind.wrap .i64 (v44 + 1) = v44 + 1 := wr1 hj146 (Jm2 hc146) hN146
 rw [hw146]
 have hc146 := Jm2 hc146
 cases h
 exact Jz1 fun a ha => ⟨k, _, Ja3 _, ⟨K227, v44 + 1, (x73 : (List (List Int))), aJ, aV, R, (S156.tr (S162.tr (S169.tr (S177.tr (S223.tr (S228.tr S232)))))).wk R, (f229.stp S232 R R), f233, by omega, by omega, hk159⟩, (ha.mm R)⟩
 rintro _ w149 ⟨K150, s9, ah, ai, rfl, S151, f152, f153, rfl⟩
 have h := hK147
 dsimp only [aft] at h
 refine Jp (Je [1, 1] R (Jl tv R R R R (Jd2 (cs := [.slice ah s9.length ai, .slice ab ([(⟨q2.2.1, q2.2.2⟩ : Pair)] : List Pair).length aa]) I94 Z94 R R R (haE f153.cells)) (Jj1 (κ := K150) 4 (vc := [.slice ah s9.length ai, .slice ab ([(⟨q2.2.1, q2.2.2⟩ : Pair)] : List Pair).length aa]) R R R R R R R Z94 R R (f12.stp (S15.tr (S18.tr (S24.tr (S29.tr (S137.tr (S141.tr (S144.tr S151))))))) R R) R fun w236 S237 f238 => ⟨tv, Jd (Ju (Ja2 (l := [.cell 4 94]) V121 (res_cellA R f238 I94 Z94 R R) R ?_))⟩)))
 cases h
 exact ⟨(fun b => ren [(10, 2), (8, 3)] (K150 b)), ah, ai, ab, aa, R, ((hE.stp (S3.tr (S7.tr (S11.tr (S15.tr (S18.tr (S24.tr (S29.tr (S137.tr (S141.tr (S144.tr (S151.tr S237))))))))))) R R).map (ren [(10, 2), (8, 3)]) R R), ((f152.stp S237 R R).map (ren [(10, 2), (8, 3)]) R R), ((f138.stp (S141.tr (S144.tr (S151.tr S237))) R R).map (ren [(10, 2), (8, 3)]) R R)⟩
end Go.Proofs.YtcmamhmpoinmnaaGreat
