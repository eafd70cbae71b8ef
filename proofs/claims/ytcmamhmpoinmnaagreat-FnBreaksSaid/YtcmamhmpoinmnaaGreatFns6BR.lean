/- The walks, part 6. By program. -/
import Derived.Test.YtcmamhmpoinmnaaGreatFns2BR
import Derived.Test.YtcmamhmpoinmnaaGreatFns3BR
set_option linter.unusedVariables false
set_option linter.unusedSimpArgs false
namespace Go.Proofs.YtcmamhmpoinmnaaGreat
open Go Go.Wk Go.Proofs
set_option maxRecDepth 100000
set_option maxHeartbeats 1000000
theorem i_loopsIn_ok {w : World} {κ : Col} {a0 u0} {p0 : (List (List Int))} {a1 u1} {p1 : (List Bool)} (g0 : Rd (Rp.sl (Rp.int .i64)) κ w 0 a0 u0 p0) (g1 : Rd Rp.bool κ w 0 a1 u1 p1) {r : (List (List Int))} (h : i_loopsIn p0 p1 = some r) : Ret Tryz.prog 124 [.slice a0 p0.length u0, .slice a1 p1.length u1] w (fun v w' => ∃ (κ' : Col) (ra0 : Option Addr) (ru0 : Nat), v = .slice ra0 r.length ru0 ∧ Ent κ w κ' w' ∧ Oc (Ep.fz (Rp.sl (Rp.int .i64))) 40 κ' w' 2 ra0 ru0 r) := by
 unfold i_loopsIn at h
 refine Ret.enter F124 R N124 R ?_
 dsimp only [envOf]
 have hE := Ent.refl κ w
 refine Je [1, 2] R (Jf1 (κ := κ) 2 R R R R R R R fun b3 w1 K2 S3 f4 => ⟨tv, Jb 1 R (Je [2, 2, 1, 2] R (Jn 1 R (Jf R (Je2 U24 R R) (Ob h fun x20 hx20 h => Jl1 (κ := K2) (E := (Ep.own E6 2)) (z := (([] : List Int) : (List Int))) 3 R R R R R R R Y24 Tryzinfo40 R R R R R (fun _ _ _ => ⟨none, 0, R, Ow.nil⟩) (Ju2 hx20) fun aa ab w5 K6 S7 f8 => ⟨tv, Jb 1 R (Jq (Je [2, 2, 2] R (Jn 1 R (Jf R (Je2 U24 R R) (Jb 1 R ?_)))))⟩))))⟩)
 have hN9 : (p0.length : Int) ≤ 9223372036854775807 := g0.len_le
 refine Ob h fun q2 hq11 hK10 => ?_
 clear h
 refine Jx1 (fun L w' => ∃ κ', ∃ s3 : (List (List Int)), L = [(0, .slice a0 p0.length u0), (3, .pointer (some ⟨b3, 0, none⟩)), (5, .slice aa x20.length ab)] ∧ Stp [3, 5] K6 w5 κ' w' ∧ Oc (Ep.own E6 2) 40 κ' w' 3 aa ab s3 ∧ x20.length = s3.length ∧ q2 = Sum.inr s3) ?_ ?_
 refine Jv (Jy1 (fun k L w' => ∃ κ' v23, ∃ s1 : (List (List Int)), L = [(0, .slice a0 p0.length u0), (3, .pointer (some ⟨b3, 0, none⟩)), (5, .slice aa x20.length ab), (21, .slice a0 p0.length u0), (22, vi (p0.length : Int)), (23, vi v23)] ∧ Stp [3, 5] K6 w5 κ' w' ∧ Oc (Ep.own E6 2) 40 κ' w' 3 aa ab s1 ∧ x20.length = s1.length ∧ 0 ≤ v23 ∧ Int.toNat ((p0.length : Int) - v23) = k ∧ cntM (i_loopsIn_b0 p0 p1) k v23 s1 = some q2) ⟨_, _, ⟨K6, 0, (x20 : (List (List Int))), R, (Jx2 _ _).wk R, f8, R, (by decide), (by simp), hq11⟩, (KM R)⟩ ?_)
 rintro k _ w17 ⟨K18, v23, s1, rfl, S19, f20, hn21, hj9, hJ9, h⟩
 rcases k with _ | k
 have hk22 := h; obtain ⟨o9, h⟩ := ex_eq (Sum.inr (Sum.inl s1) : (List (List Int)) ⊕ (((List (List Int))) ⊕ ((List (List Int)))))
 have hc9 : decide (v23 < (p0.length : Int)) = false := Jo2 (by omega)
 refine Je [2] R (Jb 1 R (Jq (Jw2 R hc9 (Jc1 (Jt (Jt ?_))))))
 cases h
 have h := hk22
 refine Jb1 ?_
 cases h
 exact Jw1 _ ⟨K18, (s1 : (List (List Int))), R, S19.wk R, f20, hn21, R⟩ (KM R)
 obtain ⟨o9, h, hk22⟩ := BI h; unfold i_loopsIn_b0 at h
 have hc9 : decide (v23 < (p0.length : Int)) = true := Jn2 (by omega)
 refine Je [2] R (Jb 1 R (Jq (Jv2 R hc9 (Js (Jp (Jq (Jv (Je [2, 2, 1, 2, 2] R (Jn 1 R (Ob h fun x26 hx26 h => Jf R (Jf2 g0 hx26 U24 Z40 R R R R) ?_))))))))))
 obtain ⟨ax26, ux26, f24, hl25⟩ := (g0.stp (S3.tr (S7.tr S19)) R R).gSl hx26
 refine Jl tv R R R R (Jc2 I40 R R (hvE hl25)) (Jb 2 R (Je [2, 2, 2] R (Jn 1 R (Jf R (Je2 U40 R R) (Jb 1 R ?_)))))
 have hN26 : (x26.length : Int) ≤ 9223372036854775807 := f24.len_le
 refine Ob h fun q5 hq28 hK27 => ?_
 clear h
 refine Jx1 (fun L w' => ∃ κ', ∃ s6 : (List (List Int)), L = [(0, .slice a0 p0.length u0), (3, .pointer (some ⟨b3, 0, none⟩)), (5, .slice aa x20.length ab), (21, .slice a0 p0.length u0), (22, vi (p0.length : Int)), (23, vi v23)] ∧ Stp [3, 5] K18 w17 κ' w' ∧ Oc (Ep.own E6 2) 40 κ' w' 3 aa ab s6 ∧ x20.length = s6.length ∧ q5 = Sum.inr s6) ?_ ?_
 refine Jv (Jy1 (fun k L w' => ∃ κ' v30, ∃ s4 : (List (List Int)), L = [(0, .slice a0 p0.length u0), (3, .pointer (some ⟨b3, 0, none⟩)), (5, .slice aa x20.length ab), (6, vi v23), (21, .slice a0 p0.length u0), (22, vi (p0.length : Int)), (23, vi v23), (28, .slice ax26 x26.length ux26), (29, vi (x26.length : Int)), (30, vi v30)] ∧ Stp [3, 5] K18 w17 κ' w' ∧ Oc (Ep.own E6 2) 40 κ' w' 3 aa ab s4 ∧ x20.length = s4.length ∧ 0 ≤ v30 ∧ Int.toNat ((x26.length : Int) - v30) = k ∧ cntM (i_loopsIn_b2 p1 v23 x26) k v30 s4 = some q5) ⟨_, _, ⟨K18, 0, (s1 : (List (List Int))), R, (Jx2 _ _).wk R, f20, hn21, (by decide), (by simp), hq28⟩, (KM R)⟩ ?_)
 rintro k _ w34 ⟨K35, v30, s4, rfl, S36, f37, hn38, hj26, hJ26, h⟩
 rcases k with _ | k
 have hk39 := h; obtain ⟨o26, h⟩ := ex_eq (Sum.inr (Sum.inl s4) : (List (List Int)) ⊕ (((List (List Int))) ⊕ ((List (List Int)))))
 have hc26 : decide (v30 < (x26.length : Int)) = false := Jo2 (by omega)
 refine Je [2] R (Jb 1 R (Jq (Jw2 R hc26 (Jc1 (Jt (Jt ?_))))))
 cases h
 have h := hk39
 refine Jb1 ?_
 cases h
 exact Jw1 _ ⟨K35, (s4 : (List (List Int))), R, S36.wk R, f37, hn38, R⟩ (KM R)
 obtain ⟨o26, h, hk39⟩ := BI h; unfold i_loopsIn_b2 at h
 have hc26 : decide (v30 < (x26.length : Int)) = true := Jn2 (by omega)
 refine Je [2] R (Jb 1 R (Jq (Jv2 R hc26 (Js (Jp (Jq (Jv (Je [2, 1, 2] R (Ob h fun x32 hx32 h => Jf R (Jf2 f24 hx32 U40 Z2 R R R R) (Jl tv R R R R (Jc2 I2 R R (hvE ((f24.stp S36 R R).gInt hx32))) (Jb 1 R (Je [1, 2, 2, 1, 2, 1, 2, 2, 1, 2] R ?_))))))))))))
 have f41 := f4.stp (S7.tr (S19.tr S36)) R R
 refine Jl tv R R R R (Jc2 I135 R R (hvE (f41.ld 0 R R))) (Jn 1 R (Ob h fun x36 hx36 h => Jf R (Jf2 g1 hx36 U135 Z4 R R R R) ?_))
 have f42 := g1.stp (S3.tr (S7.tr (S19.tr S36))) R R
 refine Jl tv R R R R (Jc2 I4 R R (hvE (f42.gBool hx36))) (Jn 1 R (Ob h fun p43 h hK43 => Ju1 [(5, 1), (6, 2), (7, 2), (8, 1), (9, 2)] [] (fun L w' => L = [(0, .slice a0 p0.length u0), (3, .pointer (some ⟨b3, 0, none⟩)), (5, .slice aa x20.length ab), (6, vi v23), (9, vi x32), (21, .slice a0 p0.length u0), (22, vi (p0.length : Int)), (23, vi v23), (28, .slice ax26 x26.length ux26), (29, vi (x26.length : Int)), (30, vi v30), (43, .bool p43)] ∧ ∃ κ', Stp [] K35 w34 κ' w') tv ?_ ?_))
 revert h
 cases ht44 : x36
 refine JF fun h => Jd1 R R R R (Jn 2 R (Jd1 R R R R (Jn 1 R ?_)))
 cases h
 exact Jv1 _ tv ⟨R, _, (Jx2 _ _).wk R⟩ (KM R)
 refine JT fun h => Jl tv R R R R (Jc2 I135 R R (hvE (f41.ld 0 R R))) (Jn 1 R (Ob h fun x41 hx41 h => Jf R (Jf2 f42 hx41 U135 Z4 R R R R) (Jl tv R R R R (Jc2 I4 R R (hvE (f42.gBool hx41))) (Jn 1 R ?_))))
 cases h
 exact Jv1 _ tv ⟨R, _, (Jx2 _ _).wk R⟩ (KM R)
 rintro _ w45 _ ⟨rfl, K46, S47⟩
 have h := hK43
 refine Jd (Ob h fun q7 h hK48 => Jx1 (fun L w' => ∃ κ', L = [(0, .slice a0 p0.length u0), (3, .pointer (some ⟨b3, 0, none⟩)), (5, .slice aa x20.length ab), (6, vi v23), (21, .slice a0 p0.length u0), (22, vi (p0.length : Int)), (23, vi v23), (28, .slice ax26 x26.length ux26), (29, vi (x26.length : Int)), (30, vi v30)] ∧ Stp [3, 5] K46 w45 κ' w' ∧ Oc (Ep.own E6 2) 40 κ' w' 3 aa ab q7 ∧ x20.length = q7.length) ?_ ?_)
 revert h
 cases ht54 : p43
 refine JF fun h => Jy R (Js ?_)
 cases h
 exact Jw1 _ ⟨K46, R, (Jx2 _ _).wk R, (f37.stp S47 R R), hn38⟩ (KM R)
 refine JT fun h => Jx R (Ja [2, 2, 2, 2, 2, 1, 2, 1, 1, 2, 1] R (Jn 4 R (Ob h fun x48 hx48 h => Jf R (Jf2 f37.rdc hx48 U24 Z40 R R hn38 R) ?_)))
 have f55 := f37.stp S47 R R
 obtain ⟨ax48, ux48, f56, hl57⟩ := f55.rdc.gSl hx48
 refine Jl tv R R R R (Jc2 I40 R R (hvE hl57)) (Jn 1 R (Jn1 (κ := K46) (E := E6) 4 [] (parts := [(0, .tmp 50)]) (cells := [vi v23]) (xs := ([v23] : List Int)) R R R R R R Y40 Tryzinfo2 R R R R R R R R R R ⟨[vi v23], [], Zl K46 w45 [], Zl K46 w45 [], R, Zl.sp (l1 := []) (l2 := []) R, Zl.sr (l1 := []) (l2 := []), R, R⟩ fun aH aL w58 K59 S60 f61 => ⟨tv, ?_⟩))
 have f62 := f55.stp S60 R R
 obtain ⟨K63, S64, f65, f66⟩ := f62.borrow hx48 (hl57 _ (Stp.ag S60 R)) 5 R R
 refine Ob h fun x52 hx52 h => Jm1 (κ := K63) (E := E6) 5 [] R R R R R R R R R Y40 Tryzinfo2 R R R R f65 (Sl.srcP (pu_int _) (f61.stp S64 R R).rdc) sy_false hx52 R fun aJ aM w68 K69 S70 f71 => ⟨tv, Ob h fun x53 hx53 h => Jf R (Jf2 f62.rdc hx53 U24 Z40 R R hn38 R) (Ob h fun y106 hy106 h => WO.stH (κ := K69) (E := (Ep.own E6 2)) 3 [5] R R R R R R R R Z40 R ⟨_, _, R, f71⟩ R R (f66.stp S70 R R) hy106 fun w73 K74 S75 f76 => ⟨tv, ?_⟩)⟩
 have hn77 : x20.length = y106.length := hn38.trans (Jt2 hy106).2.2.2.symm
 refine Jo ?_
 cases h
 exact Jw1 _ ⟨K74, R, (S60.tr (S64.tr (S70.tr S75))).wk R, f76, hn77⟩ (KM R)
 rintro _ w49 ⟨K50, rfl, S51, f52, hn53⟩
 have h := hK48
 refine Jz (Jp (Ja [2, 2] R (Jc 2 R ?_)))
 have hw26 : IntKind.wrap .i64 (v30 + 1) = v30 + 1 := wr1 hj26 (Jm2 hc26) hN26
 rw [hw26]
 have hc26 := Jm2 hc26
 cases h
 exact Jz1 fun a ha => ⟨k, _, Ja3 _, ⟨K50, v30 + 1, (q7 : (List (List Int))), R, (S36.tr (S47.tr S51)).wk R, f52, hn53, by omega, by omega, hk39⟩, (ha.mm R)⟩
 rintro _ w29 ⟨K30, s6, rfl, S31, f32, hn33, rfl⟩
 have h := hK27
 dsimp only [aft] at h
 refine Jz (Jp (Ja [2, 2] R (Jc 2 R ?_)))
 have hw9 : IntKind.wrap .i64 (v23 + 1) = v23 + 1 := wr1 hj9 (Jm2 hc9) hN9
 rw [hw9]
 have hc9 := Jm2 hc9
 cases h
 exact Jz1 fun a ha => ⟨k, _, Ja3 _, ⟨K30, v23 + 1, (s6 : (List (List Int))), R, (S19.tr S31).wk R, f32, hn33, by omega, by omega, hk22⟩, (ha.mm R)⟩
 rintro _ w12 ⟨K13, s3, rfl, S14, f15, hn16, rfl⟩
 have h := hK10
 dsimp only [aft] at h
 refine Jp (Je [2, 2, 1, 1, 1] R (Jn 1 R (Jf R (Je2 U24 R R) (Ob h fun x58 hx58 h => Jl1 (κ := K13) (E := Ep.bool) (z := (false : Bool)) 4 R R R R R R R Y135 Tryzinfo4 R R R R R (fun _ _ _ => R) (Ju2 hx58) fun aj al w79 K80 S81 f82 => ⟨tv, Jg1 (κ := K80) 5 R R R R R X135 R fun b10 w83 K84 S85 f86 => ⟨tv, Jj1 (κ := K84) 5 (vc := [.slice aj x58.length al]) R R R R R R R Z135 R R f86 R fun w87 S88 f89 => ⟨tv, Jd (Je [1, 1, 1] R (Jo1 (κ := K84) (E := E6) 6 R R R R R Y40 Tryzinfo2 R fun ay ax w90 K91 S92 f93 => ⟨tv, Jg1 (κ := K91) 7 R R R R R X40 R fun b11 w94 K95 S96 f97 => ⟨tv, Jj1 (κ := K95) 7 (vc := [.slice ay ([] : List Int).length ax]) R R R R R R R Z40 R R f97 R fun w98 S99 f100 => ⟨tv, Jd (Je [1] R (Jg1 (κ := K95) 8 R R R R R X173 R fun b12 w101 K102 S103 f104 => ⟨tv, Jd (Je [2, 1] R (Jf R (rn_makeFunc (first := []) (captured := [.tmp 10, .tmp 3, .tmp 12]) R R R ⟨_, R⟩) (Jj1 (κ := K102) 8 (vc := [.func (.func 152) #[] #[.pointer (some ⟨b10, 0, none⟩), .pointer (some ⟨b3, 0, none⟩), .pointer (some ⟨b12, 0, none⟩)]]) R R R R R R R Z173 R R f104 R fun w105 S106 f107 => ⟨tv, Jd (Jq (Je [2, 2, 2] R (Jn 1 R (Jf R (Je2 U24 R R) (Jb 1 R ?_)))))⟩)))⟩))⟩⟩⟩))⟩⟩⟩))))
 have hN108 : (p0.length : Int) ≤ 9223372036854775807 := g0.len_le
 refine Ob h fun q9 hq110 hK109 => ?_
 clear h
 refine Jx1 (fun L w' => ∃ κ', ∃ s10 : (List Int) × (List Bool), ∃ ap au, L = [(0, .slice a0 p0.length u0), (5, .slice aa x20.length ab), (10, .pointer (some ⟨b10, 0, none⟩)), (11, .pointer (some ⟨b11, 0, none⟩)), (12, .pointer (some ⟨b12, 0, none⟩))] ∧ Stp [4, 6, 7, 11, 12, 13] K102 w105 κ' w' ∧ Oc E6 2 κ' w' 6 ap au s10.1 ∧ Oc Ep.bool 4 κ' w' 4 aj al s10.2 ∧ x58.length = s10.2.length ∧ Bc κ' w' 7 b11 40 [.slice ap s10.1.length au] ∧ q9 = Sum.inr s10) ?_ ?_
 refine Jv (Jy1 (fun k L w' => ∃ κ' v63, ∃ s8 : (List Int) × (List Bool), ∃ af ae, L = [(0, .slice a0 p0.length u0), (3, .pointer (some ⟨b3, 0, none⟩)), (5, .slice aa x20.length ab), (10, .pointer (some ⟨b10, 0, none⟩)), (11, .pointer (some ⟨b11, 0, none⟩)), (12, .pointer (some ⟨b12, 0, none⟩)), (62, vi (p0.length : Int)), (63, vi v63)] ∧ Stp [4, 6, 7, 11, 12, 13] K102 w105 κ' w' ∧ Oc E6 2 κ' w' 6 af ae s8.1 ∧ Oc Ep.bool 4 κ' w' 4 aj al s8.2 ∧ x58.length = s8.2.length ∧ Bc κ' w' 7 b11 40 [.slice af s8.1.length ae] ∧ 0 ≤ v63 ∧ Int.toNat ((p0.length : Int) - v63) = k ∧ cntM (i_loopsIn_b4 p0 p1) k v63 s8 = some q9) ⟨_, _, ⟨K102, 0, ((([] : List Int) : (List Int)), (x58 : (List Bool))), ay, ax, R, (Jx2 _ _).wk R, (f93.stp (S96.tr (S99.tr (S103.tr S106))) R R), (f82.stp (S85.tr (S88.tr (S92.tr (S96.tr (S99.tr (S103.tr S106)))))) R R), R, (f100.stp (S103.tr S106) R R), (by decide), (by simp), hq110⟩, (KM R)⟩ ?_)
 rintro k _ w118 ⟨K119, v63, s8, af, ae, rfl, S120, f121, f122, hn123, f124, hj108, hJ108, h⟩
 rcases k with _ | k
 have hk128 := h; obtain ⟨o108, h⟩ := ex_eq (Sum.inr (Sum.inl s8) : (List (List Int)) ⊕ (((List Int) × (List Bool)) ⊕ ((List Int) × (List Bool))))
 have hc108 : decide (v63 < (p0.length : Int)) = false := Jo2 (by omega)
 refine Je [2] R (Jb 1 R (Jq (Jw2 R hc108 (Jc1 (Jt (Jt ?_))))))
 cases h
 have h := hk128
 refine Jb1 ?_
 cases h
 exact Jw1 _ ⟨K119, ((s8.1 : (List Int)), (s8.2 : (List Bool))), af, ae, R, S120.wk R, f121, f122, hn123, f124, R⟩ (KM R)
 obtain ⟨o108, h, hk128⟩ := BI h; unfold i_loopsIn_b4 at h
 have hc108 : decide (v63 < (p0.length : Int)) = true := Jn2 (by omega)
 refine Je [2] R (Jb 1 R (Jq (Jv2 R hc108 (Js (Jp (Jq (Jv (Je [2, 2] R (Jb 2 R (Je [1, 2, 2, 1, 2, 1, 2, 2, 1, 2, 2] R ?_))))))))))
 have f129 := f4.stp (S7.tr (S14.tr (S81.tr (S85.tr (S88.tr (S92.tr (S96.tr (S99.tr (S103.tr (S106.tr S120)))))))))) R R
 refine Jl tv R R R R (Jc2 I135 R R (hvE (f129.ld 0 R R))) (Jn 1 R (Ob h fun x68 hx68 h => Jf R (Jf2 g1 hx68 U135 Z4 R R R R) ?_))
 have f130 := g1.stp (S3.tr (S7.tr (S14.tr (S81.tr (S85.tr (S88.tr (S92.tr (S96.tr (S99.tr (S103.tr (S106.tr S120))))))))))) R R
 refine Jl tv R R R R (Jc2 I4 R R (hvE (f130.gBool hx68))) (Jn 1 R (Ob h fun p76 h hK131 => Ju1 [(5, 1), (6, 2), (7, 2), (8, 1), (9, 2), (10, 2)] [] (fun L w' => L = [(0, .slice a0 p0.length u0), (3, .pointer (some ⟨b3, 0, none⟩)), (5, .slice aa x20.length ab), (10, .pointer (some ⟨b10, 0, none⟩)), (11, .pointer (some ⟨b11, 0, none⟩)), (12, .pointer (some ⟨b12, 0, none⟩)), (13, vi v63), (62, vi (p0.length : Int)), (63, vi v63), (76, .bool p76)] ∧ ∃ κ', Stp [] K119 w118 κ' w') tv ?_ ?_))
 revert h
 cases ht132 : x68
 refine JF fun h => Jd1 R R R R (Jn 2 R (Jd1 R R R R (Jn 2 R ?_)))
 cases h
 exact Jv1 _ tv ⟨R, _, (Jx2 _ _).wk R⟩ (KM R)
 refine JT fun h => Jl tv R R R R (Jc2 I135 R R (hvE ((f89.stp (S92.tr (S96.tr (S99.tr (S103.tr (S106.tr S120))))) R R).ld 0 R R))) (Jn 1 R (Ob h fun x73 hx73 h => Jf R (Jf2 f122.rdc hx73 U135 Z4 R R hn123 R) (Jl tv R R R R (Jc2 I4 R R (hvE (f122.rdc.gBool hx73))) (Jn 2 R ?_))))
 cases h
 exact Jv1 _ tv ⟨R, _, (Jx2 _ _).wk R⟩ (KM R)
 rintro _ w134 _ ⟨rfl, K135, S136⟩
 have h := hK131
 refine Jd (Ob h fun q11 h hK137 => Jx1 (fun L w' => ∃ κ' am an, L = [(0, .slice a0 p0.length u0), (3, .pointer (some ⟨b3, 0, none⟩)), (5, .slice aa x20.length ab), (10, .pointer (some ⟨b10, 0, none⟩)), (11, .pointer (some ⟨b11, 0, none⟩)), (12, .pointer (some ⟨b12, 0, none⟩)), (62, vi (p0.length : Int)), (63, vi v63)] ∧ Stp [4, 6, 7, 11, 12, 13] K135 w134 κ' w' ∧ Oc E6 2 κ' w' 6 am an q11.1 ∧ Oc Ep.bool 4 κ' w' 4 aj al q11.2 ∧ x58.length = q11.2.length ∧ Bc κ' w' 7 b11 40 [.slice am q11.1.length an]) ?_ ?_)
 revert h
 cases ht145 : p76
 refine JF fun h => Jy R (Js ?_)
 cases h
 exact Jw1 _ ⟨K135, af, ae, R, (Jx2 _ _).wk R, (f121.stp S136 R R), (f122.stp S136 R R), hn123, (f124.stp S136 R R)⟩ (KM R)
 refine JT fun h => Jx R (Ja [1, 2, 2, 2, 1] R ?_)
 have f146 := f107.stp (S120.tr S136) R R
 refine Jl tv R R R R (Jc2 I173 R R (hvE (f146.ld 0 R R))) (Jn 2 R (Jf R (rn_makeFunc (first := []) (captured := [.tmp 11]) R R R ⟨_, R⟩) (Ob h fun x81 hx81 h => WO.callV R R R R R R R R C152 (i_loopsIn_1__i_loopsIn_2__i_loopsIn_1_ok _ (κ := fun b => mp [(6, 2), (4, 3), (7, 4)] 0 (K135 b)) (Jl2 (g0.stp (S3.tr (S7.tr (S14.tr (S81.tr (S85.tr (S88.tr (S92.tr (S96.tr (S99.tr (S103.tr (S106.tr (S120.tr S136)))))))))))) R R) (mp [(6, 2), (4, 3), (7, 4)] 0) R R) ((f121.stp S136 R R).map (mp [(6, 2), (4, 3), (7, 4)] 0) R R) ((f122.stp S136 R R).map (mp [(6, 2), (4, 3), (7, 4)] 0) R R) (Jl2 (f130.stp S136 R R) (mp [(6, 2), (4, 3), (7, 4)] 0) R R) ((f124.stp S136 R R).map (mp [(6, 2), (4, 3), (7, 4)] 0) R R) (Bc.cast ((f89.stp (S92.tr (S96.tr (S99.tr (S103.tr (S106.tr (S120.tr S136)))))) R R).map (mp [(6, 2), (4, 3), (7, 4)] 0) R R) (by simp only [hn123])) ((f129.stp S136 R R).map (mp [(6, 2), (4, 3), (7, 4)] 0) R R) (f146.map (mp [(6, 2), (4, 3), (7, 4)] 0) R R) hx81) ?_)))
 rintro _ w154 ⟨k155, aB, aC, rfl, e156, f157, f158, hn159, f160⟩
 obtain ⟨K161, S162, m163⟩ := Ji e156 9 R
 refine ⟨tv, Jo ?_⟩
 cases h
 exact Jw1 _ ⟨(fun b => ren [(11, 6), (12, 4), (13, 7)] (K161 b)), aB, aC, R, (Jy2 (S162.wk R) [(11, 6), (12, 4), (13, 7)] R), ((f157.mx (no_int _) m163 R (R : 9 + 2 = 11)).map (ren [(11, 6), (12, 4), (13, 7)]) R R), ((f158.mx no_bool m163 R (R : 9 + 3 = 12)).map (ren [(11, 6), (12, 4), (13, 7)]) R R), (hn123.trans hn159), ((f160.mx m163 R (R : 9 + 4 = 13)).map (ren [(11, 6), (12, 4), (13, 7)]) R R)⟩ (KM R)
 rintro _ w138 ⟨K139, am, an, rfl, S140, f141, f142, hn143, f144⟩
 have h := hK137
 refine Jz (Jp (Ja [2, 2] R (Jc 2 R ?_)))
 have hw108 : IntKind.wrap .i64 (v63 + 1) = v63 + 1 := wr1 hj108 (Jm2 hc108) hN108
 rw [hw108]
 have hc108 := Jm2 hc108
 cases h
 exact Jz1 fun a ha => ⟨k, _, Ja3 _, ⟨K139, v63 + 1, ((q11.1 : (List Int)), (q11.2 : (List Bool))), am, an, R, (S120.tr (S136.tr S140)).wk R, f141, f142, hn143, f144, by omega, by omega, hk128⟩, (ha.mm R)⟩
 rintro _ w111 ⟨K112, s10, ap, au, rfl, S113, f114, f115, hn116, f117, rfl⟩
 have h := hK109
 dsimp only [aft] at h
 refine Jp (Je [2, 2, 1, 1] R (Jn 1 R (Jf R (Je2 U24 R R) (Ob h fun x85 hx85 h => Jl1 (κ := K112) (E := Ep.bool) (z := (false : Bool)) 9 R R R R R R R Y135 Tryzinfo4 R R R R R (fun _ _ _ => R) (Ju2 hx85) fun aq aw w171 K172 S173 f174 => ⟨tv, Jj1 (κ := K172) 5 (vc := [.slice aq x85.length aw]) R R R R R R R Z135 R R (f89.stp (S92.tr (S96.tr (S99.tr (S103.tr (S106.tr (S113.tr S173)))))) R R) R fun w176 S177 f178 => ⟨tv, Jd (Je [1, 2] R (Jo1 (κ := K172) (E := (Ep.fz (Rp.sl (Rp.int .i64)))) 10 R R R R R Y24 Tryzinfo40 R fun aD aG w179 K180 S181 f182 => ⟨tv, Jb 1 R (Jq (Je [1, 2, 2, 2] R ?_))⟩))⟩⟩))))
 have f183 := f117.stp (S173.tr (S177.tr S181)) R R
 refine Jl tv R R R R (Jc2 I40 R R (hvE (f183.ld 0 R R))) (Jf R (Je2 U40 R R) (Jb 2 R (Ob h fun q13 hq186 hK185 => ?_)))
 clear h
 refine Jx1 (fun L w' => ∃ κ', ∃ s14 : (List (List Int)) × Int × (List Bool), ∃ ao ah, L = [(14, .slice ao s14.1.length ah)] ∧ Stp [9, 10, 11, 12, 15, 16, 20, 21] K180 w179 κ' w' ∧ Oc (Ep.fz (Rp.sl (Rp.int .i64))) 40 κ' w' 10 ao ah s14.1 ∧ Oc Ep.bool 4 κ' w' 9 aq aw s14.2.2 ∧ x85.length = s14.2.2.length ∧ q13 = Sum.inr s14) ?_ ?_
 refine Jv (Jy1 (fun k L w' => ∃ κ', ∃ s12 : (List (List Int)) × Int × (List Bool), ∃ ac ad, L = [(0, .slice a0 p0.length u0), (5, .slice aa x20.length ab), (10, .pointer (some ⟨b10, 0, none⟩)), (11, .pointer (some ⟨b11, 0, none⟩)), (12, .pointer (some ⟨b12, 0, none⟩)), (14, .slice ac s12.1.length ad), (15, vi s12.2.1)] ∧ Stp [9, 10, 11, 12, 15, 16, 20, 21] K180 w179 κ' w' ∧ Oc (Ep.fz (Rp.sl (Rp.int .i64))) 40 κ' w' 10 ac ad s12.1 ∧ Oc Ep.bool 4 κ' w' 9 aq aw s12.2.2 ∧ x85.length = s12.2.2.length ∧ whileM (i_loopsIn_b6 p0 p1 s3 s10) k s12 = some q13) ⟨_, _, ⟨K180, ((([] : List (List Int)) : (List (List Int))), ((IntKind.i64.wrap ((s10.1.length : Int) - 1)) : Int), (x85 : (List Bool))), aD, aG, R, (Jx2 _ _).wk R, f182, (f174.stp (S177.tr S181) R R), R, hq186⟩, (KM R)⟩ ?_)
 rintro k _ w193 ⟨K194, s12, ac, ad, rfl, S195, f196, f197, hn198, h⟩
 rcases k with _ | k
 cases h
 obtain ⟨o184, h, hk200⟩ := BI h; unfold i_loopsIn_b6 at h
 refine Jq (Je [2, 2] R (Jb 2 R ?_))
 revert h
 cases ht201 : decide (0 ≤ s12.2.1)
 refine JF fun h => Jy R (Jc1 (Jt (Jt ?_)))
 cases h
 have h := hk200
 refine Jb1 ?_
 cases h
 exact Jw1 _ ⟨K194, ((s12.1 : (List (List Int))), (s12.2.1 : Int), (s12.2.2 : (List Bool))), ac, ad, R, S195.wk R, f196, f197, hn198, R⟩ (KM R)
 refine JT fun h => Jx R (Js (Jp (Jq (Jv (Je [1, 2, 2, 1, 2] R (Jl tv R R R R (Jc2 I40 R R (hvE ((f183.stp S195 R R).ld 0 R R))) (Jn 1 R (Ob h fun x96 hx96 h => Jf R (Jf2 f114.rdc hx96 U40 Z2 R R R R) (Jl tv R R R R (Jc2 I2 R R (hvE ((f114.stp (S173.tr (S177.tr (S181.tr S195))) R R).rdc.gInt hx96))) (Jb 1 R (Jq (Je [1, 2, 2, 1] R ?_))))))))))))
 have f204 := f178.stp (S181.tr S195) R R
 refine Jl tv R R R R (Jc2 I135 R R (hvE (f204.ld 0 R R))) (Jn 1 R (Ob h fun x100 hx100 h => Jf R (Jf2 f197.rdc hx100 U135 Z4 R R hn198 R) (Jl tv R R R R (Jc2 I4 R R (hvE (f197.rdc.gBool hx100))) (Jd ?_))))
 revert h
 cases ht205 : x100
 refine JF fun h => Jy R (Js (Jp (Je [1, 1, 1] R (Jo1 (κ := K194) (E := E6) 11 R R R R R Y40 Tryzinfo2 R fun aE aF w206 K207 S208 f209 => ⟨tv, Jg1 (κ := K207) 12 R R R R R X40 R fun b17 w210 K211 S212 f213 => ⟨tv, Jj1 (κ := K211) 12 (vc := [.slice aE ([] : List Int).length aF]) R R R R R R R Z40 R R f213 R fun w214 S215 f216 => ⟨tv, Jd (Je [1, 2, 2, 2, 1] R ?_)⟩⟩⟩))))
 have f217 := f107.stp (S113.tr (S173.tr (S177.tr (S181.tr (S195.tr (S208.tr (S212.tr S215))))))) R R
 have S001 := (S208.tr (S212.tr S215))
 refine Jl tv R R R R (Jc2 I173 R R (hvE (f217.ld 0 R R))) (Jn 2 R (Jf R (rn_makeFunc (first := []) (captured := [.tmp 17]) R R R ⟨_, R⟩) (Ob h fun x107 hx107 h => WO.callV R R R R R R R R C152 (Ret.cast (by simp only [hn16, List.cons_append, List.nil_append]) (i_loopsIn_1__i_loopsIn_3__i_loopsIn_1_ok _ (κ := fun b => mp [(11, 2), (9, 3), (12, 4)] 0 (K211 b)) (Jl2 (f15.stp (S81.tr (S85.tr (S88.tr (S92.tr (S96.tr (S99.tr (S103.tr (S106.tr (S113.tr (S173.tr (S177.tr (S181.tr (S195.tr (S208.tr (S212.tr S215))))))))))))))) R R).rdc (mp [(11, 2), (9, 3), (12, 4)] 0) R R) ((f209.stp (S212.tr S215) R R).map (mp [(11, 2), (9, 3), (12, 4)] 0) R R) ((f197.stp S001 R R).map (mp [(11, 2), (9, 3), (12, 4)] 0) R R) (Jl2 (g1.stp (S3.tr (S7.tr (S14.tr (S81.tr (S85.tr (S88.tr (S92.tr (S96.tr (S99.tr (S103.tr (S106.tr (S113.tr (S173.tr (S177.tr (S181.tr (S195.tr (S208.tr (S212.tr S215)))))))))))))))))) R R) (mp [(11, 2), (9, 3), (12, 4)] 0) R R) (f216.map (mp [(11, 2), (9, 3), (12, 4)] 0) R R) (Bc.cast ((f204.stp S001 R R).map (mp [(11, 2), (9, 3), (12, 4)] 0) R R) (by simp only [hn198])) ((f4.stp (S7.tr (S14.tr (S81.tr (S85.tr (S88.tr (S92.tr (S96.tr (S99.tr (S103.tr (S106.tr (S113.tr (S173.tr (S177.tr (S181.tr (S195.tr (S208.tr (S212.tr S215))))))))))))))))) R R).map (mp [(11, 2), (9, 3), (12, 4)] 0) R R) (f217.map (mp [(11, 2), (9, 3), (12, 4)] 0) R R) hx107)) ?_)))
 rintro _ w224 ⟨k225, av, ar, rfl, e226, f227, f228, hn229, f230⟩
 obtain ⟨K231, S232, m233⟩ := Ji e226 13 R
 refine ⟨tv, ?_⟩
 have f237 := f230.mx m233 R (R : 13 + 4 = 17)
 refine Jd (Je [1, 1] R (Jl tv R R R R (Jc2 I40 R R (hvE (f237.ld 0 R R))) (Ob h fun x109 hx109 h => Jh R R R C138 (slices_Sort_I_int64_ok (κ := fun b => mp [(15, 2)] 0 (K231 b)) ((f227.mx (no_int _) m233 R (R : 13 + 2 = 15)).map (mp [(15, 2)] 0) R R) hx109) ?_)))
 rintro _ w238 ⟨k239, rfl, e240, f241, hn242⟩
 obtain ⟨K243, S244, m245⟩ := Ji e240 18 R
 refine ⟨tv, Jd (Je [1, 2, 2, 2, 2, 2, 2, 1, 2, 1, 2] R ?_)⟩
 have f248 := f237.stp S244 R R
 refine Jl tv R R R R (Jc2 I40 R R (hvE (f248.ld 0 R R))) (Jf R (Je2 U40 R R) (Jn 2 R (Ob h fun p120 h hK249 => Ju1 [(4, 2), (5, 2), (6, 2), (7, 1), (8, 2), (9, 1), (10, 2)] [] (fun L w' => L = [(0, .slice a0 p0.length u0), (5, .slice aa x20.length ab), (10, .pointer (some ⟨b10, 0, none⟩)), (11, .pointer (some ⟨b11, 0, none⟩)), (12, .pointer (some ⟨b12, 0, none⟩)), (14, .slice ac s12.1.length ad), (15, vi s12.2.1), (17, .pointer (some ⟨b17, 0, none⟩)), (120, .bool p120)] ∧ ∃ κ', Stp [] K243 w238 κ' w') tv ?_ ?_)))
 revert h
 cases ht250 : decide (1 < (x107.1.length : Int))
 refine JF fun h => Jn 2 R (Ob h fun x116 hx116 h => Jf R (Jf2 g0 hx116 U24 Z40 R R R R) ?_)
 obtain ⟨ax116, ux116, f252, hl253⟩ := (g0.stp (S3.tr (S7.tr (S14.tr (S81.tr (S85.tr (S88.tr (S92.tr (S96.tr (S99.tr (S103.tr (S106.tr (S113.tr (S173.tr (S177.tr (S181.tr (S195.tr (S208.tr (S212.tr (S215.tr (S232.tr S244)))))))))))))))))))) R R).gSl hx116
 refine Jl tv R R R R (Jc2 I40 R R (hvE hl253)) (Jn 1 R (Ob h fun x119 hx119 h => Jh R R R C73 (slices_Contains_I_int64_ok (κ := fun b => mp [] 0 (K243 b)) (Jl2 f252 (mp [] 0) R R) hx119) ?_))
 rintro _ w254 ⟨k255, rfl, e256⟩
 obtain ⟨K257, S258, m259⟩ := Ji e256 21 R
 refine ⟨tv, Jn 1 R ?_⟩
 cases h
 exact Jv1 _ tv ⟨R, _, S258.wk R⟩ (KM R)
 refine JT fun h => Jn 3 R (Jd1 R R R R (Jn 1 R (Jd1 R R R R (Jn 1 R ?_))))
 cases h
 exact Jv1 _ tv ⟨R, _, (Jx2 _ _).wk R⟩ (KM R)
 rintro _ w261 _ ⟨rfl, K262, S263⟩
 have h := hK249
 refine Jd (Ob h fun q15 h hK264 => Jx1 (fun L w' => ∃ κ' ai ak, L = [(0, .slice a0 p0.length u0), (5, .slice aa x20.length ab), (10, .pointer (some ⟨b10, 0, none⟩)), (11, .pointer (some ⟨b11, 0, none⟩)), (12, .pointer (some ⟨b12, 0, none⟩)), (14, .slice ai q15.length ak), (15, vi s12.2.1)] ∧ Stp [10, 20, 21] K262 w261 κ' w' ∧ Oc (Ep.fz (Rp.sl (Rp.int .i64))) 40 κ' w' 10 ai ak q15) ?_ ?_)
 revert h
 cases ht269 : p120
 refine JF fun h => Jy R (Js ?_)
 cases h
 exact Jw1 _ ⟨K262, ac, ad, R, (Jx2 _ _).wk R, (f196.stp (S208.tr (S212.tr (S215.tr (S232.tr (S244.tr S263))))) R R)⟩ (KM R)
 refine JT fun h => Jx R (Ja [2, 1, 1, 1, 2] R (Jn 1 R (Jl tv R R R R (Jc2 I40 R R (hvE ((f248.stp S263 R R).ld 0 R R))) ?_)))
 obtain ⟨K272, S273, z274⟩ := fz_ex K262 w261 20
 refine Jn1 (κ := K272) (E := (Ep.fz (Rp.sl (Rp.int .i64)))) 21 [] (parts := [(0, .tmp 122)]) (cells := [.slice av x107.1.length ar]) (xs := ([x109] : List (List Int))) R R R R R R Y24 Tryzinfo40 R R R R R R R R R R ⟨[.slice av x107.1.length ar], [], Zl K272 w261 [], Zl K272 w261 [], R, Zl.sp (l1 := []) (l2 := []) R, Zl.sr (l1 := []) (l2 := []), ⟨_, _, (congrArg (fun n => [Value.slice av n ar]) (hn242)), (Sl.z1 (Sl.st z274 ((f241.mx (no_int _) m245 R (R : 18 + 2 = 20)).stp S263 R R).rdc))⟩, R⟩ fun aI aK w276 K277 S278 f279 => ⟨tv, Ob h fun x124 hx124 h => Jm1 (κ := K277) (E := (Ep.fz (Rp.sl (Rp.int .i64)))) 10 [21] R R R R R R R R R Y24 Tryzinfo40 R R R R (f196.stp (S208.tr (S212.tr (S215.tr (S232.tr (S244.tr (S263.tr (S273.tr S278))))))) R R) f279.src (sy_one R) hx124 R fun aA az w281 K282 S283 f284 => ⟨tv, Jc 1 R ?_⟩⟩
 cases h
 exact Jw1 _ ⟨K282, aA, az, R, (S273.tr (S278.tr S283)).wk R, f284⟩ (KM R)
 rintro _ w265 ⟨K266, ai, ak, rfl, S267, f268⟩
 have h := hK264
 refine Jz (Jp (Ja [2, 2, 2] R (Jc 3 R ?_)))
 cases h
 exact Jz1 fun a ha => ⟨k, _, Ja3 _, ⟨(fun b => ren [(16, 9)] (K266 b)), ((q15 : (List (List Int))), ((IntKind.i64.wrap (s12.2.1 - 1)) : Int), (x107.2 : (List Bool))), ai, ak, R, (Jy2 ((S195.tr (S208.tr (S212.tr (S215.tr (S232.tr (S244.tr (S263.tr S267))))))).wk R) [(16, 9)] R), (f268.map (ren [(16, 9)]) R R), (((f228.mx no_bool m233 R (R : 13 + 3 = 16)).stp (S244.tr (S263.tr S267)) R R).map (ren [(16, 9)]) R R), (hn198.trans hn229), hk200⟩, (ha.mm R)⟩
 refine JT fun h => Jx R (Jc1 (Jt (Jb1 (Jp (Ja [2, 2, 2] R (Jc 3 R ?_))))))
 cases h
 exact Jz1 fun a ha => ⟨k, _, Ja3 _, ⟨K194, ((s12.1 : (List (List Int))), ((IntKind.i64.wrap (s12.2.1 - 1)) : Int), (s12.2.2 : (List Bool))), ac, ad, R, S195.wk R, f196, f197, hn198, hk200⟩, (ha.mm R)⟩
 rintro _ w187 ⟨K188, s14, ao, ah, rfl, S189, f190, f191, hn192, rfl⟩
 have h := hK185
 dsimp only [aft] at h
 refine Jp (Je [2, 1] R (Jn 1 R (Ob h fun x126 hx126 h => Jh R R R C155 (slices_SortFunc_I_I_ok (κ := fun b => mp [(10, 2)] 1 (K188 b)) (f190.map (mp [(10, 2)] 1) R R) hx126) ?_)))
 rintro _ w287 ⟨k288, rfl, e289, f290, hn291⟩
 obtain ⟨K292, S293, m294, z295⟩ := Jj e289 11 R
 refine ⟨tv, Jd (Je [2, 2] R (Jb 2 R (Ju (Ja2 (l := [.tmp 4]) V124 (Jp2 R R) R ?_))))⟩
 cases h
 exact ⟨(fun b => ren [(13, 2)] (K292 b)), ao, ah, (by simp only [(hn291)]), ((hE.stp (S3.tr (S7.tr (S14.tr (S81.tr (S85.tr (S88.tr (S92.tr (S96.tr (S99.tr (S103.tr (S106.tr (S113.tr (S173.tr (S177.tr (S181.tr (S189.tr S293)))))))))))))))) R R).map (ren [(13, 2)]) R R), ((f290.mxz z295 m294 R (R : 11 + 2 = 13)).map (ren [(13, 2)]) R R)⟩
theorem s_LettersOf_ok {w : World} {κ : Col} {p0 : Sig}  {r : Int} (h : s_LettersOf p0 = some r) : Ret Tryz.prog 86 [.agg #[vi p0.In, vi p0.Out]] w (fun v w' => ∃ (κ' : Col), v = vi r ∧ Ent κ w κ' w') := by
 unfold s_LettersOf at h
 refine Ret.enter F86 R N86 R ?_
 dsimp only [envOf]
 have hE := Ent.refl κ w
 refine Je [1, 2] R (Jf1 (κ := κ) 2 R R R R R R R fun b1 w1 K2 S3 f4 => ⟨tv, Jb 1 R (Jq (Je [1, 1, 2] R (Jl tv R R R R (Jd2 (cs := [vi p0.In, vi p0.Out]) I31 Z31 R R R (haE f4.cells)) (Ob h fun x4 hx4 h => Jh R R R C84 (s_SigOk_ok (κ := fun b => mp [] 0 (K2 b)) (p0 := p0) hx4) ?_))))⟩)
 rintro _ w5 ⟨k6, rfl, e7⟩
 obtain ⟨K8, S9, m10⟩ := Ji e7 3 R
 refine ⟨tv, Jb 1 R ?_⟩
 revert h
 cases ht12 : (!x4)
 refine JF fun h => Jy R (Js (Jp (Je [2, 1, 2, 1, 2, 1, 2] R (Jf R (Jb2 U31 R Z2 R R) ?_))))
 have f14 := f4.stp S9 R R
 refine Jl tv R R R R (Jc2 I2 R R (hvE (f14.ld 0 R R))) (Jf R (Jb2 U31 R Z2 R R) (Jl tv R R R R (Jc2 I2 R R (hvE (f14.ld 1 R R))) (Jn 1 R (Ob h fun x11 hx11 h => Jh R R R C93 (s_l23Power_ok (κ := fun b => mp [] 0 (K8 b)) hx11) ?_))))
 rintro _ w15 ⟨k16, rfl, e17⟩
 obtain ⟨K18, S19, m20⟩ := Ji e17 5 R
 refine ⟨tv, Jb 1 R (Ju (Ja2 (l := [.tmp 2]) V86 (Jp2 R R) R ?_))⟩
 cases h
 exact ⟨K18, R, (hE.stp (S3.tr (S9.tr S19)) R R)⟩
 refine JT fun h => Jx R (Je [2] R (Jb 1 R (Ju (Jw (Ja2 (l := [.tmp 2]) V86 (Jp2 R R) R ?_)))))
 cases h
 exact ⟨K8, R, (hE.stp (S3.tr S9) R R)⟩
theorem s_l1Set_ok {w : World} {κ : Col} {a0 u0} {p0 : (List Int)} {p1 : Int} (g0 : Rd (Rp.int .i64) κ w 0 a0 u0 p0) {r : Bool} (h : s_l1Set p0 p1 = some r) : Ret Tryz.prog 132 [.slice a0 p0.length u0, vi p1] w (fun v w' => ∃ (κ' : Col), v = .bool r ∧ Ent κ w κ' w') := by
 unfold s_l1Set at h
 refine Ret.enter F132 R N132 R ?_
 dsimp only [envOf]
 have hE := Ent.refl κ w
 refine Je [2] R (Jb 1 R (Je [2, 2, 2, 2, 2, 2, 2, 1, 2, 2] R (Jn 1 R (Jf R (Je2 U40 R R) (Jn 3 R (Ob h fun p13 h hK1 => Ju1 [(5, 2), (6, 2), (7, 1), (8, 2)] [(9, 2)] (fun L w' => L = [(4, .bool false), (13, .bool p13)] ∧ ∃ κ', Stp [] κ w κ' w') tv ?_ ?_))))))
 revert h
 cases ht2 : decide ((p0.length : Int) ≤ p1)
 refine JF fun h => Jn 2 R (Jd1 R R R R (Jn 1 R ?_))
 cases h
 exact Jv1 _ tv ⟨R, _, (Jx2 _ _).wk R⟩ (KM R)
 refine JT fun h => Jn 2 R (Ob h fun x12 hx12 h => Jh R R R C162 (s_l1Rises_ok (κ := fun b => mp [] 0 (κ b)) (Jl2 g0 (mp [] 0) R R) hx12) ?_)
 rintro _ w3 ⟨k4, rfl, e5⟩
 obtain ⟨K6, S7, m8⟩ := Ji e5 2 R
 refine ⟨tv, Jn 1 R ?_⟩
 cases h
 exact Jv1 _ tv ⟨R, _, S7.wk R⟩ (KM R)
 rintro _ w10 _ ⟨rfl, K11, S12⟩
 have h := hK1
 refine Jb 1 R (Ju (Ja2 (l := [.tmp 4]) V132 (Jp2 R R) R ?_))
 cases h
 exact ⟨K11, R, (hE.stp S12 R R)⟩
theorem s_l26Joined_ok {w : World} {κ : Col} {aA aH aB aC} {p0 : Det} {az aJ aK aI} {p1 : Det} {p2 : Int} (g0_0 : Rd (Rp.sl (Rp.int .i64)) κ w 0 aA aH p0.Next) (g0_1 : Rd Pair.rp κ w 0 aB aC p0.Pairs) (g1_0 : Rd (Rp.sl (Rp.int .i64)) κ w 0 az aJ p1.Next) (g1_1 : Rd Pair.rp κ w 0 aK aI p1.Pairs) {r : Det × Bool} (h : s_l26Joined p0 p1 p2 = some r) : Ret Tryz.prog 139 [.agg #[.slice aA p0.Next.length aH, .slice aB p0.Pairs.length aC], .agg #[.slice az p1.Next.length aJ, .slice aK p1.Pairs.length aI], vi p2] w (fun v w' => ∃ (κ' : Col) (ra0 : Option Addr) (ru0 : Nat) (ra1 : Option Addr) (ru1 : Nat), v = .tuple #[.agg #[.slice ra0 r.1.Next.length ru0, .slice ra1 r.1.Pairs.length ru1], .bool r.2] ∧ Ent κ w κ' w' ∧ Oc (Ep.own E6 2) 40 κ' w' 2 ra0 ru0 r.1.Next ∧ Oc Pair.ep92 92 κ' w' 3 ra1 ru1 r.1.Pairs) := by
 unfold s_l26Joined at h
 refine Ret.enter F139 R N139 R ?_
 dsimp only [envOf]
 have hE := Ent.refl κ w
 refine Je [1, 1, 1, 2] R (Jf1 (κ := κ) 2 R R R R R R R fun b3 w1 K2 S3 f4 => ⟨tv, Jf1 (κ := K2) 3 R R R R R R R fun b4 w5 K6 S7 f8 => ⟨tv, Jg1 (κ := K6) 4 R R R R R X94 R fun b6 w9 K10 S11 f12 => ⟨tv, Jb 1 R (Je [1, 1, 2] R (Jn1 (κ := K10) (E := E6) 5 [] (parts := [(0, .const (vi 0)), (1, .const (vi 0))]) (cells := [vi 0, vi 0]) (xs := ([0, 0] : List Int)) R R R R R R Y40 Tryzinfo2 R R R R R R R R R R ⟨[vi 0], [vi 0], Zl K10 w9 [], Zl K10 w9 [], R, Zl.sp (l1 := []) (l2 := []) R, Zl.sr (l1 := []) (l2 := []), R, ⟨[vi 0], [], Zl K10 w9 [], Zl K10 w9 [], R, Zl.sp (l1 := []) (l2 := []) R, Zl.sr (l1 := []) (l2 := []), R, R⟩⟩ fun aG aF w13 K14 S15 f16 => ⟨tv, Jn1 (κ := K14) (E := (Ep.own E6 2)) 6 [5] (parts := [(0, .tmp 16)]) (cells := [.slice aG ([0, 0] : List Int).length aF]) (xs := ([([0, 0] : List Int)] : List (List Int))) R R R R R R Y24 Tryzinfo40 R R R R R R R R R R ⟨[.slice aG ([0, 0] : List Int).length aF], [], Zl K14 w13 [5], Zl K14 w13 [], R, Zl.sp (l1 := [5]) (l2 := []) R, Zl.sr (l1 := [5]) (l2 := []), ⟨_, _, R, f16⟩, R⟩ fun aP aO w17 K18 S19 f20 => ⟨tv, Jb 1 R (Je [2, 1, 1] R (Jf R (rn_build (parts := []) (cells := [.slice none 0 0, .slice none 0 0]) R R (by kernel_rfl)) (Jg1 (κ := K18) 7 R R R R R X94 R fun b9 w21 K22 S23 f24 => ⟨tv, Jj1 (κ := K22) 7 (vc := [.slice none 0 0, .slice none 0 0]) R R R R R R R Z94 R R f24 R fun w25 S26 f27 => ⟨tv, Jd (Jq (Je [2] R (Jb 1 R (Ob h fun q2 hq30 hK29 => ?_))))⟩⟩)))⟩⟩))⟩⟩⟩)
 clear h
 refine Jx1 (fun L w' => ∃ κ', ∃ s3 : (List (List Int)) × Int × (List (List Int)), ∃ ax ay ab aa, L = [(3, .pointer (some ⟨b3, 0, none⟩)), (4, .pointer (some ⟨b4, 0, none⟩)), (6, .pointer (some ⟨b6, 0, none⟩)), (8, .slice ax s3.1.length ay), (9, .pointer (some ⟨b9, 0, none⟩))] ∧ Stp [6, 7, 8, 9, 10, 12, 13] K22 w25 κ' w' ∧ Oc (Ep.own E6 2) 40 κ' w' 6 ax ay s3.1 ∧ Oc (Ep.own E6 2) 40 κ' w' 8 ab aa s3.2.2 ∧ Bc κ' w' 7 b9 94 [.slice ab s3.2.2.length aa, .slice none 0 0] ∧ q2 = Sum.inr s3) ?_ ?_
 refine Jv (Jy1 (fun k L w' => ∃ κ', ∃ s1 : (List (List Int)) × Int × (List (List Int)), ∃ ai ac au aq, L = [(2, vi p2), (3, .pointer (some ⟨b3, 0, none⟩)), (4, .pointer (some ⟨b4, 0, none⟩)), (6, .pointer (some ⟨b6, 0, none⟩)), (8, .slice ai s1.1.length ac), (9, .pointer (some ⟨b9, 0, none⟩)), (10, vi s1.2.1)] ∧ Stp [6, 7, 8, 9, 10, 12, 13] K22 w25 κ' w' ∧ Oc (Ep.own E6 2) 40 κ' w' 6 ai ac s1.1 ∧ Oc (Ep.own E6 2) 40 κ' w' 8 au aq s1.2.2 ∧ Bc κ' w' 7 b9 94 [.slice au s1.2.2.length aq, .slice none 0 0] ∧ whileM (s_l26Joined_b0 p0 p1 p2) k s1 = some q2) ⟨_, _, ⟨K22, ((([([0, 0] : List Int)] : List (List Int)) : (List (List Int))), (0 : Int), (([] : List (List Int)) : (List (List Int)))), aP, aO, none, 0, R, (Jx2 _ _).wk R, (f20.stp (S23.tr S26) R R), Ow.nil, f27, hq30⟩, (KM R)⟩ ?_)
 rintro k _ w37 ⟨K38, s1, ai, ac, au, aq, rfl, S39, f40, f41, f42, h⟩
 rcases k with _ | k
 cases h
 obtain ⟨o28, h, hk44⟩ := BI h; unfold s_l26Joined_b0 at h
 refine Jq (Je [2, 2, 2, 2] R (Jn 2 R (Jf R (Je2 U24 R R) (Jb 1 R ?_))))
 revert h
 cases ht45 : decide (s1.2.1 < (s1.1.length : Int))
 refine JF fun h => Jy R (Jc1 (Jt (Jt ?_)))
 cases h
 have h := hk44
 refine Jb1 ?_
 cases h
 exact Jw1 _ ⟨K38, ((s1.1 : (List (List Int))), (s1.2.1 : Int), (s1.2.2 : (List (List Int)))), ai, ac, au, aq, R, S39.wk R, f40, f41, f42, R⟩ (KM R)
 refine JT fun h => Jx R (Js (Jp (Jq (Jv (Je [1, 2] R (Jo1 (κ := K38) (E := E6) 9 R R R R R Y40 Tryzinfo2 R fun aR aS w46 K47 S48 f49 => ⟨tv, Jb 1 R (Jq (Je [2] R (Jb 1 R (Ob h fun _ hr50 h => ?_))))⟩))))))
 have hN50 := rng_ok hr50
 refine Ob h fun q5 hq52 hK51 => ?_
 clear h
 refine Jx1 (fun L w' => ∃ κ', ∃ s6 : (List (List Int)) × (List Int), ∃ an ao af am, L = [(2, vi p2), (3, .pointer (some ⟨b3, 0, none⟩)), (4, .pointer (some ⟨b4, 0, none⟩)), (6, .pointer (some ⟨b6, 0, none⟩)), (8, .slice an s6.1.length ao), (9, .pointer (some ⟨b9, 0, none⟩)), (10, vi s1.2.1), (11, .slice af s6.2.length am)] ∧ Stp [6, 9, 12, 13] K47 w46 κ' w' ∧ Oc (Ep.own E6 2) 40 κ' w' 6 an ao s6.1 ∧ Oc E6 2 κ' w' 9 af am s6.2 ∧ q5 = Sum.inr s6) ?_ ?_
 refine Jv (Jy1 (fun k L w' => ∃ κ' v12, ∃ s4 : (List (List Int)) × (List Int), ∃ ah aj ad ak, L = [(2, vi p2), (3, .pointer (some ⟨b3, 0, none⟩)), (4, .pointer (some ⟨b4, 0, none⟩)), (6, .pointer (some ⟨b6, 0, none⟩)), (8, .slice ah s4.1.length aj), (9, .pointer (some ⟨b9, 0, none⟩)), (10, vi s1.2.1), (11, .slice ad s4.2.length ak), (12, vi v12)] ∧ Stp [6, 9, 12, 13] K47 w46 κ' w' ∧ Oc (Ep.own E6 2) 40 κ' w' 6 ah aj s4.1 ∧ Oc E6 2 κ' w' 9 ad ak s4.2 ∧ 0 ≤ v12 ∧ Int.toNat (p2 - v12) = k ∧ cntM (s_l26Joined_b2 p0 p1 s1) k v12 s4 = some q5) ⟨_, _, ⟨K47, 0, ((s1.1 : (List (List Int))), (([] : List Int) : (List Int))), ai, ac, aR, aS, R, (Jx2 _ _).wk R, (f40.stp S48 R R), f49, (by decide), (by simp), hq52⟩, (KM R)⟩ ?_)
 rintro k _ w58 ⟨K59, v12, s4, ah, aj, ad, ak, rfl, S60, f61, f62, hj50, hJ50, h⟩
 rcases k with _ | k
 have hk64 := h; obtain ⟨o50, h⟩ := ex_eq (Sum.inr (Sum.inl s4) : (Det × Bool) ⊕ (((List (List Int)) × (List Int)) ⊕ ((List (List Int)) × (List Int))))
 have hc50 : decide (v12 < p2) = false := Jo2 (by omega)
 refine Jq (Je [2, 2, 2] R (Jb 3 R (Jw2 R hc50 (Jc1 (Jt (Jt ?_))))))
 cases h
 have h := hk64
 refine Jb1 ?_
 cases h
 exact Jw1 _ ⟨K59, ((s4.1 : (List (List Int))), (s4.2 : (List Int))), ah, aj, ad, ak, R, S60.wk R, f61, f62, R⟩ (KM R)
 obtain ⟨o50, h, hk64⟩ := BI h; unfold s_l26Joined_b2 at h
 have hc50 : decide (v12 < p2) = true := Jn2 (by omega)
 refine Jq (Je [2, 2, 2] R (Jb 3 R (Jv2 R hc50 (Js (Jp (Jq (Jv (Jq (Js1 (κ := K59) [0, 2, 6] none [(0, 2), (2, 2), (3, 2), (4, 2), (10, 2), (1, 0), (5, 0), (6, 2), (7, 0), (8, 2), (9, 0), (11, 2), (12, 0), (13, 2)] [] (by kernel_rfl) (by kernel_rfl) fun w66 S65 => Jf R (Jb2 U94 R Z24 R R) (Jn 2 R (Ob h fun x35 hx35 h => Jf R (Jf2 f61.rdc hx35 U24 Z40 R R R R) (Jn 1 R (Jg R (Jc2 I24 R R (hvC ((f4.stp (S7.tr (S11.tr (S15.tr (S19.tr (S23.tr (S26.tr (S39.tr (S48.tr (S60.tr S65))))))))) R R).ld 0 R R) R)) ?_)))))))))))))
 have f68 := f61.stp S65 R R
 obtain ⟨ax35, ux35, f69, hl70⟩ := f68.rdc.gSl hx35
 refine Jg R (Jc2 I40 R R (hvC hl70 R)) (Ob h fun x37 hx37 h => Jf R (Jf2 f69 hx37 U40 Z2 R R R R) (Jg R (Jc2 I2 R R (hvC (f69.gInt hx37) R)) (Ob h fun x39 hx39 h => Jf R (Jf2 g0_0 hx39 U24 Z40 R R R R) ?_)))
 obtain ⟨ax39, ux39, f72, hl73⟩ := (g0_0.stp (S3.tr (S7.tr (S11.tr (S15.tr (S19.tr (S23.tr (S26.tr (S39.tr (S48.tr (S60.tr S65)))))))))) R R).gSl hx39
 refine Jg R (Jc2 I40 R R (hvC hl73 R)) (Ob h fun x42 hx42 h => Jf R (Jf2 f72 hx42 U40 Z2 R R R R) (Jg R (Jc2 I2 R R (hvC (f72.gInt hx42) R)) (Jn 1 R (Jt1 (Jd (Jq (Js1 (κ := K59) [0, 3, 6] none [(0, 2), (2, 2), (3, 2), (4, 2), (10, 2), (1, 0), (5, 0), (6, 2), (7, 0), (8, 2), (9, 0), (11, 2), (12, 0), (13, 2)] [] (by kernel_rfl) (by kernel_rfl) fun w75 S74 => Jf R (Jb2 U94 R Z24 R R) (Jn 2 R (Ob h fun x48 hx48 h => Jf R (Jf2 f68.rdc hx48 U24 Z40 R R R R) (Jn 1 R (Jg R (Jc2 I24 R R (hvC ((f8.stp (S11.tr (S15.tr (S19.tr (S23.tr (S26.tr (S39.tr (S48.tr (S60.tr (S65.tr S74))))))))) R R).ld 0 R R) R)) ?_)))))))))))
 have f77 := f68.stp S74 R R
 obtain ⟨ax48, ux48, f78, hl79⟩ := f77.rdc.gSl hx48
 refine Jg R (Jc2 I40 R R (hvC hl79 R)) (Ob h fun x50 hx50 h => Jf R (Jf2 f78 hx50 U40 Z2 R R R R) (Jg R (Jc2 I2 R R (hvC (f78.gInt hx50) R)) (Ob h fun x52 hx52 h => Jf R (Jf2 g1_0 hx52 U24 Z40 R R R R) ?_)))
 obtain ⟨ax52, ux52, f81, hl82⟩ := (g1_0.stp (S3.tr (S7.tr (S11.tr (S15.tr (S19.tr (S23.tr (S26.tr (S39.tr (S48.tr (S60.tr (S65.tr S74))))))))))) R R).gSl hx52
 refine Jg R (Jc2 I40 R R (hvC hl82 R)) (Ob h fun x55 hx55 h => Jf R (Jf2 f81 hx55 U40 Z2 R R R R) (Jg R (Jc2 I2 R R (hvC (f81.gInt hx55) R)) (Jn 1 R (Jt1 (Jd (Je [2, 2, 2, 1, 2] R (Jn 3 R (Ob h fun x60 hx60 h => Jh R R R C63 (s_l26Place_ok (κ := fun b => mp [] 0 (K59 b)) (Jl2 f77.rdc (mp [] 0) R R) hx60) ?_))))))))
 rintro _ w83 ⟨k84, rfl, e85⟩
 obtain ⟨K86, S87, m88⟩ := Ji e85 10 R
 refine ⟨tv, Jb 1 R (Jq (Je [2, 2] R (Jb 2 R (Ob h fun q7 h hK90 => Jx1 (fun L w' => ∃ κ' ap ar, L = [(2, vi p2), (3, .pointer (some ⟨b3, 0, none⟩)), (4, .pointer (some ⟨b4, 0, none⟩)), (6, .pointer (some ⟨b6, 0, none⟩)), (8, .slice ap q7.1.length ar), (9, .pointer (some ⟨b9, 0, none⟩)), (10, vi s1.2.1), (11, .slice ad s4.2.length ak), (12, vi v12), (15, vi q7.2)] ∧ Stp [6, 12, 13] K86 w83 κ' w' ∧ Oc (Ep.own E6 2) 40 κ' w' 6 ap ar q7.1) ?_ ?_))))⟩
 revert h
 cases ht95 : decide (x60 < 0)
 refine JF fun h => Jy R (Js ?_)
 cases h
 exact Jw1 _ ⟨K86, ah, aj, R, (Jx2 _ _).wk R, (f77.stp S87 R R)⟩ (KM R)
 refine JT fun h => Jx R (Je [2, 2, 2] R (Jn 1 R (Jf R (Je2 U24 R R) (Jb 1 R (Ja [2, 2, 2, 1, 1, 1, 2] R (Jn 3 R (Jn1 (κ := K86) (E := E6) 12 [] (parts := [(0, .tmp 66), (1, .tmp 67)]) (cells := [vi x42, vi x55]) (xs := ([x42, x55] : List Int)) R R R R R R Y40 Tryzinfo2 R R R R R R R R R R ⟨[vi x42], [vi x55], Zl K86 w83 [], Zl K86 w83 [], R, Zl.sp (l1 := []) (l2 := []) R, Zl.sr (l1 := []) (l2 := []), R, ⟨[vi x55], [], Zl K86 w83 [], Zl K86 w83 [], R, Zl.sp (l1 := []) (l2 := []) R, Zl.sr (l1 := []) (l2 := []), R, R⟩⟩ fun aE aD w96 K97 S98 f99 => ⟨tv, Jn1 (κ := K97) (E := (Ep.own E6 2)) 13 [12] (parts := [(0, .tmp 68)]) (cells := [.slice aE ([x42, x55] : List Int).length aD]) (xs := ([([x42, x55] : List Int)] : List (List Int))) R R R R R R Y24 Tryzinfo40 R R R R R R R R R R ⟨[.slice aE ([x42, x55] : List Int).length aD], [], Zl K97 w96 [12], Zl K97 w96 [], R, Zl.sp (l1 := [12]) (l2 := []) R, Zl.sr (l1 := [12]) (l2 := []), ⟨_, _, R, f99⟩, R⟩ fun aT aW w100 K101 S102 f103 => ⟨tv, Ob h fun x70 hx70 h => Jm1 (κ := K101) (E := (Ep.own E6 2)) 6 [13] R R R R R R R R R Y24 Tryzinfo40 R R R R (f77.stp (S87.tr (S98.tr S102)) R R) f103.src (sy_one R) hx70 R fun aN aL w105 K106 S107 f108 => ⟨tv, Jc 1 R ?_⟩⟩⟩)))))))
 cases h
 exact Jw1 _ ⟨K106, aN, aL, R, (S98.tr (S102.tr S107)).wk R, f108⟩ (KM R)
 rintro _ w91 ⟨K92, ap, ar, rfl, S93, f94⟩
 have h := hK90
 refine Jp (Ja [2, 2, 1, 1, 2] R (Jn 2 R (Jn1 (κ := K92) (E := E6) 12 [] (parts := [(0, .tmp 72)]) (cells := [vi q7.2]) (xs := ([q7.2] : List Int)) R R R R R R Y40 Tryzinfo2 R R R R R R R R R R ⟨[vi q7.2], [], Zl K92 w91 [], Zl K92 w91 [], R, Zl.sp (l1 := []) (l2 := []) R, Zl.sr (l1 := []) (l2 := []), R, R⟩ fun ba aU w110 K111 S112 f113 => ⟨tv, Ob h fun x74 hx74 h => Jm1 (κ := K111) (E := E6) 9 [] R R R R R R R R R Y40 Tryzinfo2 R R R R (f62.stp (S65.tr (S74.tr (S87.tr (S93.tr S112)))) R R) (Sl.srcP (pu_int _) f113.rdc) sy_false hx74 R fun aQ aM w115 K116 S117 f118 => ⟨tv, Jc 1 R (Jz (Jp (Ja [2, 2, 2] R (Jc 3 R ?_))))⟩⟩)))
 have hw50 : IntKind.wrap .i64 (v12 + 1) = v12 + 1 := wr1 hj50 (Jm2 hc50) hN50
 rw [hw50]
 have hc50 := Jm2 hc50
 cases h
 exact Jz1 fun a ha => ⟨k, _, Ja3 _, ⟨K116, v12 + 1, ((q7.1 : (List (List Int))), (x74 : (List Int))), ap, ar, aQ, aM, R, (S60.tr (S65.tr (S74.tr (S87.tr (S93.tr (S112.tr S117)))))).wk R, (f94.stp (S112.tr S117) R R), f118, by omega, by omega, hk64⟩, (ha.mm R)⟩
 rintro _ w53 ⟨K54, s6, an, ao, af, am, rfl, S55, f56, f57, rfl⟩
 have h := hK51
 dsimp only [aft] at h
 refine Jp (Jq (Je [2, 2, 2] R (Jn 1 R (Jf R (Je2 U24 R R) (Jb 1 R ?_)))))
 revert h
 cases ht120 : decide (48 < (s6.1.length : Int))
 refine JF fun h => Jy R (Js (Jp (Ja [2, 1, 2, 1, 1, 2, 1] R (Jf R (Jb2 U94 R Z24 R R) ?_))))
 have f126 := f42.stp (S48.tr S55) R R
 refine Jl tv R R R R (Jc2 I24 R R (hvE (f126.ld 0 R R))) (Jn 1 R (Jn1 (κ := K54) (E := (Ep.own E6 2)) 10 [9] (parts := [(0, .tmp 81)]) (cells := [.slice af s6.2.length am]) (xs := ([s6.2] : List (List Int))) R R R R R R Y24 Tryzinfo40 R R R R R R R R R R ⟨[.slice af s6.2.length am], [], Zl K54 w53 [9], Zl K54 w53 [], R, Zl.sp (l1 := [9]) (l2 := []) R, Zl.sr (l1 := [9]) (l2 := []), ⟨_, _, R, f57⟩, R⟩ fun aV bb w127 K128 S129 f130 => ⟨tv, Ob h fun x83 hx83 h => Jm1 (κ := K128) (E := (Ep.own E6 2)) 8 [10] R R R R R R R R R Y24 Tryzinfo40 R R R R (f41.stp (S48.tr (S55.tr S129)) R R) f130.src (sy_one R) hx83 R fun av aw w132 K133 S134 f135 => ⟨tv, Jf R (Jb2 U94 R Z24 R R) (Ji1 (κ := K133) 7 (off := 0) (vc := [.slice av x83.length aw]) (cs' := [.slice av x83.length aw, .slice none 0 0]) R R R R R R R Z24 R R (f126.stp (S129.tr S134) R R) R R fun w137 S138 f139 => ⟨tv, Jo (Jz (Jp (Ja [2, 2, 2] R (Jc 3 R ?_))))⟩)⟩⟩))
 cases h
 exact Jz1 fun a ha => ⟨k, _, Ja3 _, ⟨K133, ((s6.1 : (List (List Int))), ((IntKind.i64.wrap (s1.2.1 + 1)) : Int), (x83 : (List (List Int)))), an, ao, av, aw, R, (S39.tr (S48.tr (S55.tr (S129.tr (S134.tr S138))))).wk R, (f56.stp (S129.tr (S134.tr S138)) R R), (f135.stp S138 R R), f139, hk44⟩, (ha.mm R)⟩
 refine JT fun h => Jx R (Je [2, 1, 2] R (Jf R (rn_build (parts := []) (cells := [.slice none 0 0, .slice none 0 0]) R R (by kernel_rfl)) (Jj1 (κ := K54) 4 (vc := [.slice none 0 0, .slice none 0 0]) R R R R R R R Z94 R R (f12.stp (S15.tr (S19.tr (S23.tr (S26.tr (S39.tr (S48.tr S55)))))) R R) R fun w122 S123 f124 => ⟨tv, Jb 1 R (Ju (Jw (Ja1 (Jw (Jw ?_)))))⟩)))
 cases h
 obtain rfl := Option.some.inj hk44
 have h := hK29
 dsimp only [aft] at h
 refine Ja1 (Jq2 (Jw (Ja2 (l := [.cell 6 94, .tmp 7]) V139 (res_cellA R f124 I94 Z94 R (Jp2 R R)) R ?_)))
 cases h
 exact ⟨K54, none, 0, none, 0, R, (hE.stp (S3.tr (S7.tr (S11.tr (S15.tr (S19.tr (S23.tr (S26.tr (S39.tr (S48.tr (S55.tr S123)))))))))) R R), Ow.nil, Ow.nil⟩
 rintro _ w31 ⟨K32, s3, ax, ay, ab, aa, rfl, S33, f34, f35, f36, rfl⟩
 have h := hK29
 dsimp only [aft] at h
 refine Jp (Jq (Js1 (κ := K32) [2, 3] none [(0, 2), (2, 2), (4, 2), (6, 2), (1, 0), (5, 0), (3, 1), (7, 1), (8, 1), (9, 2), (10, 1)] [] (by kernel_rfl) (by kernel_rfl) fun w143 S142 => Jf R (Jb2 U94 R Z79 R R) (Jn 1 R (Jf R (Jb2 U94 R Z79 R R) (Jn 1 R (Jg R (Jc2 I79 R R (hvC ((f4.stp (S7.tr (S11.tr (S15.tr (S19.tr (S23.tr (S26.tr (S33.tr S142))))))) R R).ld 1 R R) R)) (Jg R (Jc2 I79 R R (hvC ((f8.stp (S11.tr (S15.tr (S19.tr (S23.tr (S26.tr (S33.tr S142)))))) R R).ld 1 R R) R)) (Ob h fun x88 hx88 h => ?_))))))))
 have f147 := f34.stp S142 R R
 refine Jh R R R C66 (s_l26Pairs_ok (κ := fun b => mp [] 0 (K32 b)) (Jl2 (g0_1.stp (S3.tr (S7.tr (S11.tr (S15.tr (S19.tr (S23.tr (S26.tr (S33.tr S142)))))))) R R) (mp [] 0) R R) (Jl2 f147.rdc (mp [] 0) R R) hx88) ?_
 rintro _ w148 ⟨k149, aZ, bc, rfl, e150, f151⟩
 obtain ⟨K152, S153, m154⟩ := Ji e150 9 R
 refine ⟨(S153.cl R), Ob h fun x92 hx92 h => Jh R R R C66 (s_l26Pairs_ok (κ := fun b => mp [] 0 (K152 b)) (Jl2 (g1_1.stp (S3.tr (S7.tr (S11.tr (S15.tr (S19.tr (S23.tr (S26.tr (S33.tr (S142.tr S153))))))))) R R) (mp [] 0) R R) (Jl2 (f147.stp S153 R R).rdc (mp [] 0) R R) hx92) ?_⟩
 rintro _ w159 ⟨k160, aX, aY, rfl, e161, f162⟩
 obtain ⟨K163, S164, m165⟩ := Ji e161 12 R
 have S001 := (S153.tr S164)
 refine ⟨(S001.cl R), Ob h fun x93 hx93 h => Jm1 (κ := K163) (E := Pair.ep92) 11 [14] R R R R R R R R R Y79 Tryzinfo92 R R R R ((f151.mx Pair.no92 m154 R (R : 9 + 2 = 11)).stp S164 R R) (f162.mx Pair.no92 m165 R (R : 12 + 2 = 14)).src (sy_one R) hx93 R fun al ae w169 K170 S171 f172 => ⟨((S001.tr S171).cl R), Jf R (Jb2 U94 R Z79 R R) (Ji1 (κ := K170) 7 (off := 1) (vc := [.slice al x93.length ae]) (cs' := [.slice ab s3.2.2.length aa, .slice al x93.length ae]) R R R R R R R Z79 R R (f36.stp (S142.tr (S153.tr (S164.tr S171))) R R) R R fun w174 S175 f176 => ⟨((S001.tr (S171.tr S175)).cl R), Jt1 (Jd (Je [1, 1, 2] R (Jl tv R R R R (Jd2 (cs := [.slice ab s3.2.2.length aa, .slice al x93.length ae]) I94 Z94 R R R (haE f176.cells)) (Jj1 (κ := K170) 4 (vc := [.slice ab s3.2.2.length aa, .slice al x93.length ae]) R R R R R R R Z94 R R (f12.stp (S15.tr (S19.tr (S23.tr (S26.tr (S33.tr (S142.tr (S153.tr (S164.tr (S171.tr S175))))))))) R R) R fun w178 S179 f180 => ⟨tv, Jb 1 R (Ju (Ja2 (l := [.cell 6 94, .tmp 7]) V139 (res_cellA R f180 I94 Z94 R (Jp2 R R)) R ?_))⟩))))⟩)⟩⟩
 cases h
 exact ⟨(fun b => ren [(8, 2), (11, 3)] (K170 b)), ab, aa, al, ae, R, ((hE.stp (S3.tr (S7.tr (S11.tr (S15.tr (S19.tr (S23.tr (S26.tr (S33.tr (S142.tr (S153.tr (S164.tr (S171.tr (S175.tr S179))))))))))))) R R).map (ren [(8, 2), (11, 3)]) R R), ((f35.stp (S142.tr (S153.tr (S164.tr (S171.tr (S175.tr S179))))) R R).map (ren [(8, 2), (11, 3)]) R R), ((f172.stp (S175.tr S179) R R).map (ren [(8, 2), (11, 3)]) R R)⟩
theorem s_l30Broken_ok {w : World} {κ : Col} {a0 u0} {p0 : (List (List Int))} {ab af aa ae} {p1 : Pair} (g0 : Rd (Rp.sl (Rp.int .i64)) κ w 0 a0 u0 p0) (g1_0 : Rd (Rp.int .i64) κ w 0 ab af p1.Ask) (g1_1 : Rd (Rp.int .i64) κ w 0 aa ae p1.Give) {r : Int} (h : s_l30Broken p0 p1 = some r) : Ret Tryz.prog 56 [.slice a0 p0.length u0, .agg #[.slice ab p1.Ask.length af, .slice aa p1.Give.length ae]] w (fun v w' => ∃ (κ' : Col), v = vi r ∧ Ent κ w κ' w') := by
 unfold s_l30Broken at h
 refine Ret.enter F56 R N56 R ?_
 dsimp only [envOf]
 have hE := Ent.refl κ w
 refine Je [1, 2] R (Jf1 (κ := κ) 2 R R R R R R R fun b3 w1 K2 S3 f4 => ⟨tv, Jb 1 R (Je [2, 2, 2, 1, 1, 2] R (Jn 1 R (Jf R (Je2 U24 R R) (Jf R (Jb2 U92 R Z40 R R) (Jl tv R R R R (Jc2 I40 R R (hvE (f4.ld 1 R R))) (Ob h fun x12 hx12 h => Jh R R R C104 (s_l30May_ok (κ := fun b => mp [] 0 (K2 b)) (Jl2 (g1_1.stp S3 R R) (mp [] 0) R R) hx12) ?_))))))⟩)
 rintro _ w6 ⟨k7, ac, ad, rfl, e8, f9⟩
 obtain ⟨K10, S11, m12⟩ := Ji e8 3 R
 refine ⟨tv, ?_⟩
 have f14 := f9.mx no_bool m12 R (R : 3 + 2 = 5)
 refine Jb 1 R (Jq (Je [2] R (Jb 1 R ?_)))
 have hN15 : (p1.Ask.length : Int) ≤ 9223372036854775807 := g1_0.len_le
 refine Ob h fun q2 hq17 hK16 => ?_
 clear h
 refine Jx1 (fun L w' => ∃ κ', L = [] ∧ Stp [] K10 w6 κ' w' ∧ q2 = Sum.inr ()) ?_ ?_
 refine Jv (Jy1 (fun k L w' => ∃ κ' v6, L = [(0, .slice a0 p0.length u0), (3, .pointer (some ⟨b3, 0, none⟩)), (5, .slice ac x12.length ad), (6, vi v6)] ∧ Stp [] K10 w6 κ' w' ∧ 0 ≤ v6 ∧ Int.toNat ((p1.Ask.length : Int) - v6) = k ∧ cntM (s_l30Broken_b0 p0 p1 x12) k v6 () = some q2) ⟨_, _, ⟨K10, 0, R, (Jx2 _ _).wk R, (by decide), (by simp), hq17⟩, (KM R)⟩ ?_)
 rintro k _ w21 ⟨K22, v6, rfl, S23, hj15, hJ15, h⟩
 rcases k with _ | k
 have hk24 := h; obtain ⟨o15, h⟩ := ex_eq (Sum.inr (Sum.inl ()) : Int ⊕ ((Unit) ⊕ (Unit)))
 have hc15 : decide (v6 < (p1.Ask.length : Int)) = false := Jo2 (by omega)
 refine Jq (Je [2, 2, 1, 2, 2] R (Jn 1 R (Jf R (Jb2 U92 R Z40 R R) (Jl tv R R R R (Jc2 I40 R R (hvE ((f4.stp (S11.tr S23) R R).ld 0 R R))) (Jf R (Je2 U40 R R) (Jb 1 R (Jw2 R hc15 (Jc1 (Jt (Jt ?_))))))))))
 cases h
 have h := hk24
 refine Jb1 ?_
 cases h
 exact Jw1 _ ⟨K22, R, S23.wk R, R⟩ KN
 obtain ⟨o15, h, hk24⟩ := BI h; unfold s_l30Broken_b0 at h
 have hc15 : decide (v6 < (p1.Ask.length : Int)) = true := Jn2 (by omega)
 refine Jq (Je [2, 2, 1, 2, 2] R (Jn 1 R (Jf R (Jb2 U92 R Z40 R R) ?_)))
 have f26 := f4.stp (S11.tr S23) R R
 refine Jl tv R R R R (Jc2 I40 R R (hvE (f26.ld 0 R R))) (Jf R (Je2 U40 R R) (Jb 1 R (Jv2 R hc15 (Js (Jp (Jq (Jv (Je [2, 1, 2, 2, 1, 2] R (Jf R (Jb2 U92 R Z40 R R) (Jl tv R R R R (Jc2 I40 R R (hvE (f26.ld 0 R R))) (Jn 1 R (Ob h fun x23 hx23 h => Jf R (Jf2 g1_0 hx23 U40 Z2 R R R R) (Jl tv R R R R (Jc2 I2 R R (hvE ((g1_0.stp (S3.tr (S11.tr S23)) R R).gInt hx23))) (Jb 1 R (Je [2, 2, 2, 1, 2, 2, 2, 2, 2, 1, 2, 1, 2] R (Jn 2 R (Ob h fun x27 hx27 h => Jf R (Jf2 f14.rdc hx27 U135 Z4 R R R R) ?_)))))))))))))))))
 have f28 := f14.stp S23 R R
 refine Jl tv R R R R (Jc2 I4 R R (hvE (f28.rdc.gBool hx27))) (Jn 1 R (Ob h fun p37 h hK29 => Ju1 [(5, 2), (6, 2), (7, 2), (8, 2), (9, 1), (10, 2), (11, 1), (12, 2)] [] (fun L w' => L = [(0, .slice a0 p0.length u0), (3, .pointer (some ⟨b3, 0, none⟩)), (5, .slice ac x12.length ad), (6, vi v6), (7, vi x23), (37, .bool p37)] ∧ ∃ κ', Stp [] K22 w21 κ' w') tv ?_ ?_))
 revert h
 cases ht30 : x27
 refine JF fun h => Jn 4 R (Jd1 R R R R (Jn 1 R (Jd1 R R R R (Jn 1 R ?_))))
 cases h
 exact Jv1 _ tv ⟨R, _, (Jx2 _ _).wk R⟩ (KM R)
 refine JT fun h => Jn 4 R (Ob h fun x34 hx34 h => ?_)
 have f31 := g0.stp (S3.tr (S11.tr S23)) R R
 refine Jh R R R C103 (s_l30Far_ok (κ := fun b => mp [] 0 (K22 b)) (Jl2 f31 (mp [] 0) R R) (Jl2 f28.rdc (mp [] 0) R R) hx34) ?_
 rintro _ w32 ⟨k33, ai, ah, rfl, e34, f35⟩
 obtain ⟨K36, S37, m38⟩ := Ji e34 6 R
 refine ⟨tv, Jn 1 R (Ob h fun x36 hx36 h => Jh R R R C109 (s_l30Returns_ok (κ := fun b => mp [] 0 (K36 b)) (Jl2 (f31.stp S37 R R) (mp [] 0) R R) (Jl2 (f35.mx (no_int _) m38 R (R : 6 + 2 = 8)).rdc (mp [] 0) R R) hx36) ?_)⟩
 rintro _ w42 ⟨k43, rfl, e44⟩
 obtain ⟨K45, S46, m47⟩ := Ji e44 9 R
 refine ⟨tv, Jn 1 R ?_⟩
 cases h
 exact Jv1 _ tv ⟨R, _, (S37.tr S46).wk R⟩ (KM R)
 rintro _ w49 _ ⟨rfl, K50, S51⟩
 have h := hK29
 refine Jd ?_
 revert h
 cases ht52 : p37
 refine JF fun h => Jy R (Js (Jz (Jp (Ja [2, 2, 2] R (Jc 3 R ?_)))))
 have hw15 : IntKind.wrap .i64 (v6 + 1) = v6 + 1 := wr1 hj15 (Jm2 hc15) hN15
 rw [hw15]
 have hc15 := Jm2 hc15
 cases h
 exact Jz1 fun a ha => ⟨k, _, Ja3 _, ⟨K50, v6 + 1, R, (S23.tr S51).wk R, by omega, by omega, hk24⟩, (ha.mm R)⟩
 refine JT fun h => Jx R (Je [2, 2] R (Jb 2 R (Ju (Ja1 (Jw (Jw ?_))))))
 cases h
 obtain rfl := Option.some.inj hk24
 have h := hK16
 dsimp only [aft] at h
 refine Ja1 (Jq2 (Jw (Ja2 (l := [.tmp 4]) V56 (Jp2 R R) R ?_)))
 cases h
 exact ⟨K50, R, (hE.stp (S3.tr (S11.tr (S23.tr S51))) R R)⟩
 rintro _ w18 ⟨K19, rfl, S20, rfl⟩
 have h := hK16
 dsimp only [aft] at h
 refine Jp (Je [2] R (Jb 1 R (Ju (Ja2 (l := [.tmp 4]) V56 (Jp2 R R) R ?_))))
 cases h
 exact ⟨K19, R, (hE.stp (S3.tr (S11.tr S20)) R R)⟩
end Go.Proofs.YtcmamhmpoinmnaaGreat
