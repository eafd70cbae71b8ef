/- The walks, part 4. By program. -/
import Derived.Test.YtcmamhmpoinmnaaGreatFns1BA
import Derived.Test.YtcmamhmpoinmnaaGreatFns2BA
set_option linter.unusedVariables false
set_option linter.unusedSimpArgs false
namespace Go.Proofs.YtcmamhmpoinmnaaGreat
open Go Go.Wk Go.Proofs
set_option maxRecDepth 100000
set_option maxHeartbeats 1000000
theorem i_areClauses_1_ok {w : World} {κ : Col} {aa ac ab ad} {p0 : Clause} {c0 : Sig} {b1} (g0_1 : Rd (Rp.int .i64) κ w 0 aa ac p0.A) (g0_2 : Rd (Rp.int .i64) κ w 0 ab ad p0.B) (gb1 : Bc κ w 0 b1 31 [vi c0.In, vi c0.Out]) {r : Bool} (h : i_areClauses_1 p0 c0 = some r) : Ret Tryz.prog 128 [.agg #[vi p0.Kind, .slice aa p0.A.length ac, .slice ab p0.B.length ad], .pointer (some ⟨b1, 0, none⟩)] w (fun v w' => ∃ (κ' : Col), v = .bool r ∧ Ent κ w κ' w') := by
 unfold i_areClauses_1 at h
 refine Ret.enter F128 R N128 R ?_
 dsimp only [envOf]
 have hE := Ent.refl κ w
 refine Je [1, 2] R (Jf1 (κ := κ) 2 R R R R R R R fun b2 w1 K2 S3 f4 => ⟨tv, Jb 1 R (Je [1, 1, 1, 2, 2] R (Jl tv R R R R (Jd2 (cs := [vi c0.In, vi c0.Out]) I31 Z31 R R R (haE (gb1.stp S3 R R).cells)) (Jl tv R R R R (Jd2 (cs := [vi p0.Kind, .slice aa p0.A.length ac, .slice ab p0.B.length ad]) I71 Z71 R R R (haE f4.cells)) (Ob h fun x6 hx6 h => Jh R R R C129 (i_isClause_ok (κ := fun b => mp [] 0 (K2 b)) (p0 := c0) (p1 := p0) (Jl2 (g0_1.stp S3 R R) (mp [] 0) R R) (Jl2 (g0_2.stp S3 R R) (mp [] 0) R R) hx6) ?_))))⟩)
 rintro _ w8 ⟨k9, rfl, e10⟩
 obtain ⟨K11, S12, m13⟩ := Ji e10 3 R
 refine ⟨tv, Jb 2 R (Ju (Ja2 (l := [.tmp 3]) V128 (Jp2 R R) R ?_))⟩
 cases h
 exact ⟨K11, R, (hE.stp (S3.tr S12) R R)⟩
theorem i_loopsIn_ok {w : World} {κ : Col} {a0 u0} {p0 : (List (List Int))} {a1 u1} {p1 : (List Bool)} (g0 : Rd (Rp.sl (Rp.int .i64)) κ w 0 a0 u0 p0) (g1 : Rd Rp.bool κ w 0 a1 u1 p1) {r : (List (List Int))} (h : i_loopsIn p0 p1 = some r) : Ret Tryz.prog 124 [.slice a0 p0.length u0, .slice a1 p1.length u1] w (fun v w' => ∃ (κ' : Col) (ra0 : Option Addr) (ru0 : Nat), v = .slice ra0 r.length ru0 ∧ Ent κ w κ' w' ∧ Oc (Ep.fz (Rp.sl (Rp.int .i64))) 40 κ' w' 2 ra0 ru0 r) := by
 unfold i_loopsIn at h
 refine Ret.enter F124 R N124 R ?_
 dsimp only [envOf]
 have hE := Ent.refl κ w
 refine Je [1, 2] R (Jf1 (κ := κ) 2 R R R R R R R fun b3 w1 K2 S3 f4 => ⟨tv, Jb 1 R (Je [2, 2, 1, 2] R (Jn 1 R (Jf R (Je2 U24 R R) (Ob h fun x20 hx20 h => Jl1 (κ := K2) (E := (Ep.own E6 2)) (z := (([] : List Int) : (List Int))) 3 R R R R R R R Y24 Tryzinfo40 R R R R R (fun _ _ _ => ⟨none, 0, R, Ow.nil⟩) (Ju2 hx20) fun ab aa w5 K6 S7 f8 => ⟨tv, Jb 1 R (Jq (Je [2, 2, 2] R (Jn 1 R (Jf R (Je2 U24 R R) (Jb 1 R ?_)))))⟩))))⟩)
 have hN9 : (p0.length : Int) ≤ 9223372036854775807 := g0.len_le
 refine Ob h fun q2 hq11 hK10 => ?_
 clear h
 refine Jx1 (fun L w' => ∃ κ', ∃ s3 : (List (List Int)), L = [(0, .slice a0 p0.length u0), (3, .pointer (some ⟨b3, 0, none⟩)), (5, .slice ab x20.length aa)] ∧ Stp [3, 5] K6 w5 κ' w' ∧ Oc (Ep.own E6 2) 40 κ' w' 3 ab aa s3 ∧ x20.length = s3.length ∧ q2 = Sum.inr s3) ?_ ?_
 refine Jv (Jy1 (fun k L w' => ∃ κ' v23, ∃ s1 : (List (List Int)), L = [(0, .slice a0 p0.length u0), (3, .pointer (some ⟨b3, 0, none⟩)), (5, .slice ab x20.length aa), (21, .slice a0 p0.length u0), (22, vi (p0.length : Int)), (23, vi v23)] ∧ Stp [3, 5] K6 w5 κ' w' ∧ Oc (Ep.own E6 2) 40 κ' w' 3 ab aa s1 ∧ x20.length = s1.length ∧ 0 ≤ v23 ∧ Int.toNat ((p0.length : Int) - v23) = k ∧ cntM (i_loopsIn_b0 p0 p1) k v23 s1 = some q2) ⟨_, _, ⟨K6, 0, (x20 : (List (List Int))), R, (Jx2 _ _).wk R, f8, R, (by decide), (by simp), hq11⟩, (KM R)⟩ ?_)
 rintro k _ w17 ⟨K18, v23, s1, rfl, S19, f20, hn21, hj9, hJ9, h⟩
 rcases k with _ | k
 have hk22 := h; obtain ⟨o9, h⟩ := ex_eq (Sum.inr (Sum.inl s1) : (List (List Int)) ⊕ (((List (List Int))) ⊕ ((List (List Int)))))
 have hc9 : decide (v23 < (p0.length : Int)) = false := Jo2 (by omega)
 refine Je [2] R (Jb 1 R (Jq (Jw2 R hc9 (Jc1 (Jt (Jt ?_))))))
 cases h
 have h := hk22
 refine Jb1 ?_
 cases h
 exact Jw1 _ ⟨K18, (s1 : (List (List Int))), R, S19.wk R, f20, hn21, R⟩ (KM R)
 obtain ⟨o9, h, hk22⟩ := BI h; unfold i_loopsIn_b0 at h
 have hc9 : decide (v23 < (p0.length : Int)) = true := Jn2 (by omega)
 refine Je [2] R (Jb 1 R (Jq (Jv2 R hc9 (Js (Jp (Jq (Jv (Je [2, 2, 1, 2, 2] R (Jn 1 R (Ob h fun x26 hx26 h => Jf R (Jf2 g0 hx26 U24 Z40 R R R R) ?_))))))))))
 obtain ⟨ax26, ux26, f24, hl25⟩ := (g0.stp (S3.tr (S7.tr S19)) R R).gSl hx26
 refine Jl tv R R R R (Jc2 I40 R R (hvE hl25)) (Jb 2 R (Je [2, 2, 2] R (Jn 1 R (Jf R (Je2 U40 R R) (Jb 1 R ?_)))))
 have hN26 : (x26.length : Int) ≤ 9223372036854775807 := f24.len_le
 refine Ob h fun q5 hq28 hK27 => ?_
 clear h
 refine Jx1 (fun L w' => ∃ κ', ∃ s6 : (List (List Int)), L = [(0, .slice a0 p0.length u0), (3, .pointer (some ⟨b3, 0, none⟩)), (5, .slice ab x20.length aa), (21, .slice a0 p0.length u0), (22, vi (p0.length : Int)), (23, vi v23)] ∧ Stp [3, 5] K18 w17 κ' w' ∧ Oc (Ep.own E6 2) 40 κ' w' 3 ab aa s6 ∧ x20.length = s6.length ∧ q5 = Sum.inr s6) ?_ ?_
 refine Jv (Jy1 (fun k L w' => ∃ κ' v30, ∃ s4 : (List (List Int)), L = [(0, .slice a0 p0.length u0), (3, .pointer (some ⟨b3, 0, none⟩)), (5, .slice ab x20.length aa), (6, vi v23), (21, .slice a0 p0.length u0), (22, vi (p0.length : Int)), (23, vi v23), (28, .slice ax26 x26.length ux26), (29, vi (x26.length : Int)), (30, vi v30)] ∧ Stp [3, 5] K18 w17 κ' w' ∧ Oc (Ep.own E6 2) 40 κ' w' 3 ab aa s4 ∧ x20.length = s4.length ∧ 0 ≤ v30 ∧ Int.toNat ((x26.length : Int) - v30) = k ∧ cntM (i_loopsIn_b2 p1 v23 x26) k v30 s4 = some q5) ⟨_, _, ⟨K18, 0, (s1 : (List (List Int))), R, (Jx2 _ _).wk R, f20, hn21, (by decide), (by simp), hq28⟩, (KM R)⟩ ?_)
 rintro k _ w34 ⟨K35, v30, s4, rfl, S36, f37, hn38, hj26, hJ26, h⟩
 rcases k with _ | k
 have hk39 := h; obtain ⟨o26, h⟩ := ex_eq (Sum.inr (Sum.inl s4) : (List (List Int)) ⊕ (((List (List Int))) ⊕ ((List (List Int)))))
 have hc26 : decide (v30 < (x26.length : Int)) = false := Jo2 (by omega)
 refine Je [2] R (Jb 1 R (Jq (Jw2 R hc26 (Jc1 (Jt (Jt ?_))))))
 cases h
 have h := hk39
 refine Jb1 ?_
 cases h
 exact Jw1 _ ⟨K35, (s4 : (List (List Int))), R, S36.wk R, f37, hn38, R⟩ (KM R)
 obtain ⟨o26, h, hk39⟩ := BI h; unfold i_loopsIn_b2 at h
 have hc26 : decide (v30 < (x26.length : Int)) = true := Jn2 (by omega)
 refine Je [2] R (Jb 1 R (Jq (Jv2 R hc26 (Js (Jp (Jq (Jv (Je [2, 1, 2] R (Ob h fun x32 hx32 h => Jf R (Jf2 f24 hx32 U40 Z2 R R R R) (Jl tv R R R R (Jc2 I2 R R (hvE ((f24.stp S36 R R).gInt hx32))) (Jb 1 R (Je [1, 2, 2, 1, 2, 1, 2, 2, 1, 2] R ?_))))))))))))
 have f41 := f4.stp (S7.tr (S19.tr S36)) R R
 refine Jl tv R R R R (Jc2 I135 R R (hvE (f41.ld 0 R R))) (Jn 1 R (Ob h fun x36 hx36 h => Jf R (Jf2 g1 hx36 U135 Z4 R R R R) ?_))
 have f42 := g1.stp (S3.tr (S7.tr (S19.tr S36))) R R
 refine Jl tv R R R R (Jc2 I4 R R (hvE (f42.gBool hx36))) (Jn 1 R (Ob h fun p43 h hK43 => Ju1 [(5, 1), (6, 2), (7, 2), (8, 1), (9, 2)] [] (fun L w' => L = [(0, .slice a0 p0.length u0), (3, .pointer (some ⟨b3, 0, none⟩)), (5, .slice ab x20.length aa), (6, vi v23), (9, vi x32), (21, .slice a0 p0.length u0), (22, vi (p0.length : Int)), (23, vi v23), (28, .slice ax26 x26.length ux26), (29, vi (x26.length : Int)), (30, vi v30), (43, .bool p43)] ∧ ∃ κ', Stp [] K35 w34 κ' w') tv ?_ ?_))
 revert h
 cases ht44 : x36
 refine JF fun h => Jd1 R R R R (Jn 2 R (Jd1 R R R R (Jn 1 R ?_)))
 cases h
 exact Jv1 _ tv ⟨R, _, (Jx2 _ _).wk R⟩ (KM R)
 refine JT fun h => Jl tv R R R R (Jc2 I135 R R (hvE (f41.ld 0 R R))) (Jn 1 R (Ob h fun x41 hx41 h => Jf R (Jf2 f42 hx41 U135 Z4 R R R R) (Jl tv R R R R (Jc2 I4 R R (hvE (f42.gBool hx41))) (Jn 1 R ?_))))
 cases h
 exact Jv1 _ tv ⟨R, _, (Jx2 _ _).wk R⟩ (KM R)
 rintro _ w45 _ ⟨rfl, K46, S47⟩
 have h := hK43
 refine Jd (Ob h fun q7 h hK48 => Jx1 (fun L w' => ∃ κ', L = [(0, .slice a0 p0.length u0), (3, .pointer (some ⟨b3, 0, none⟩)), (5, .slice ab x20.length aa), (6, vi v23), (21, .slice a0 p0.length u0), (22, vi (p0.length : Int)), (23, vi v23), (28, .slice ax26 x26.length ux26), (29, vi (x26.length : Int)), (30, vi v30)] ∧ Stp [3, 5] K46 w45 κ' w' ∧ Oc (Ep.own E6 2) 40 κ' w' 3 ab aa q7 ∧ x20.length = q7.length) ?_ ?_)
 revert h
 cases ht54 : p43
 refine JF fun h => Jy R (Js ?_)
 cases h
 exact Jw1 _ ⟨K46, R, (Jx2 _ _).wk R, (f37.stp S47 R R), hn38⟩ (KM R)
 refine JT fun h => Jx R (Ja [2, 2, 2, 2, 2, 1, 2, 1, 1, 2, 1] R (Jn 4 R (Ob h fun x48 hx48 h => Jf R (Jf2 f37.rdc hx48 U24 Z40 R R hn38 R) ?_)))
 have f55 := f37.stp S47 R R
 obtain ⟨ax48, ux48, f56, hl57⟩ := f55.rdc.gSl hx48
 refine Jl tv R R R R (Jc2 I40 R R (hvE hl57)) (Jn 1 R (Jn1 (κ := K46) (E := E6) 4 [] (parts := [(0, .tmp 50)]) (cells := [vi v23]) (xs := ([v23] : List Int)) R R R R R R Y40 Tryzinfo2 R R R R R R R R R R ⟨[vi v23], [], Zl K46 w45 [], Zl K46 w45 [], R, Zl.sp (l1 := []) (l2 := []) R, Zl.sr (l1 := []) (l2 := []), R, R⟩ fun aK aM w58 K59 S60 f61 => ⟨tv, ?_⟩))
 have f62 := f55.stp S60 R R
 obtain ⟨K63, S64, f65, f66⟩ := f62.borrow hx48 (hl57 _ (Stp.ag S60 R)) 5 R R
 refine Ob h fun x52 hx52 h => Jm1 (κ := K63) (E := E6) 5 [] R R R R R R R R R Y40 Tryzinfo2 R R R R f65 (Sl.srcP (pu_int _) (f61.stp S64 R R).rdc) sy_false hx52 R fun aJ aI w68 K69 S70 f71 => ⟨tv, Ob h fun x53 hx53 h => Jf R (Jf2 f62.rdc hx53 U24 Z40 R R hn38 R) (Ob h fun y260 hy260 h => WO.stH (κ := K69) (E := (Ep.own E6 2)) 3 [5] R R R R R R R R Z40 R ⟨_, _, R, f71⟩ R R (f66.stp S70 R R) hy260 fun w73 K74 S75 f76 => ⟨tv, ?_⟩)⟩
 have hn77 : x20.length = y260.length := hn38.trans (Jt2 hy260).2.2.2.symm
 refine Jo ?_
 cases h
 exact Jw1 _ ⟨K74, R, (S60.tr (S64.tr (S70.tr S75))).wk R, f76, hn77⟩ (KM R)
 rintro _ w49 ⟨K50, rfl, S51, f52, hn53⟩
 have h := hK48
 refine Jz (Jp (Ja [2, 2] R (Jc 2 R ?_)))
 have hw26 : IntKind.wrap .i64 (v30 + 1) = v30 + 1 := wr1 hj26 (Jm2 hc26) hN26
 rw [hw26]
 have hc26 := Jm2 hc26
 cases h
 exact Jz1 fun a ha => ⟨k, _, Ja3 _, ⟨K50, v30 + 1, (q7 : (List (List Int))), R, (S36.tr (S47.tr S51)).wk R, f52, hn53, by omega, by omega, hk39⟩, (ha.mm R)⟩
 rintro _ w29 ⟨K30, s6, rfl, S31, f32, hn33, rfl⟩
 have h := hK27
 dsimp only [aft] at h
 refine Jz (Jp (Ja [2, 2] R (Jc 2 R ?_)))
 have hw9 : IntKind.wrap .i64 (v23 + 1) = v23 + 1 := wr1 hj9 (Jm2 hc9) hN9
 rw [hw9]
 have hc9 := Jm2 hc9
 cases h
 exact Jz1 fun a ha => ⟨k, _, Ja3 _, ⟨K30, v23 + 1, (s6 : (List (List Int))), R, (S19.tr S31).wk R, f32, hn33, by omega, by omega, hk22⟩, (ha.mm R)⟩
 rintro _ w12 ⟨K13, s3, rfl, S14, f15, hn16, rfl⟩
 have h := hK10
 dsimp only [aft] at h
 refine Jp (Je [2, 2, 1, 1, 1] R (Jn 1 R (Jf R (Je2 U24 R R) (Ob h fun x58 hx58 h => Jl1 (κ := K13) (E := Ep.bool) (z := (false : Bool)) 4 R R R R R R R Y135 Tryzinfo4 R R R R R (fun _ _ _ => R) (Ju2 hx58) fun aj am w79 K80 S81 f82 => ⟨tv, Jg1 (κ := K80) 5 R R R R R X135 R fun b10 w83 K84 S85 f86 => ⟨tv, Jj1 (κ := K84) 5 (vc := [.slice aj x58.length am]) R R R R R R R Z135 R R f86 R fun w87 S88 f89 => ⟨tv, Jd (Je [1, 1, 1] R (Jo1 (κ := K84) (E := E6) 6 R R R R R Y40 Tryzinfo2 R fun ax ay w90 K91 S92 f93 => ⟨tv, Jg1 (κ := K91) 7 R R R R R X40 R fun b11 w94 K95 S96 f97 => ⟨tv, Jj1 (κ := K95) 7 (vc := [.slice ax ([] : List Int).length ay]) R R R R R R R Z40 R R f97 R fun w98 S99 f100 => ⟨tv, Jd (Je [1] R (Jg1 (κ := K95) 8 R R R R R X173 R fun b12 w101 K102 S103 f104 => ⟨tv, Jd (Je [2, 1] R (Jf R (rn_makeFunc (first := []) (captured := [.tmp 10, .tmp 3, .tmp 12]) R R R ⟨_, R⟩) (Jj1 (κ := K102) 8 (vc := [.func (.func 152) #[] #[.pointer (some ⟨b10, 0, none⟩), .pointer (some ⟨b3, 0, none⟩), .pointer (some ⟨b12, 0, none⟩)]]) R R R R R R R Z173 R R f104 R fun w105 S106 f107 => ⟨tv, Jd (Jq (Je [2, 2, 2] R (Jn 1 R (Jf R (Je2 U24 R R) (Jb 1 R ?_)))))⟩)))⟩))⟩⟩⟩))⟩⟩⟩))))
 have hN108 : (p0.length : Int) ≤ 9223372036854775807 := g0.len_le
 refine Ob h fun q9 hq110 hK109 => ?_
 clear h
 refine Jx1 (fun L w' => ∃ κ', ∃ s10 : (List Int) × (List Bool), ∃ av ap, L = [(0, .slice a0 p0.length u0), (5, .slice ab x20.length aa), (10, .pointer (some ⟨b10, 0, none⟩)), (11, .pointer (some ⟨b11, 0, none⟩)), (12, .pointer (some ⟨b12, 0, none⟩))] ∧ Stp [4, 6, 7, 11, 12, 13] K102 w105 κ' w' ∧ Oc E6 2 κ' w' 6 av ap s10.1 ∧ Oc Ep.bool 4 κ' w' 4 aj am s10.2 ∧ x58.length = s10.2.length ∧ Bc κ' w' 7 b11 40 [.slice av s10.1.length ap] ∧ q9 = Sum.inr s10) ?_ ?_
 refine Jv (Jy1 (fun k L w' => ∃ κ' v63, ∃ s8 : (List Int) × (List Bool), ∃ af ae, L = [(0, .slice a0 p0.length u0), (3, .pointer (some ⟨b3, 0, none⟩)), (5, .slice ab x20.length aa), (10, .pointer (some ⟨b10, 0, none⟩)), (11, .pointer (some ⟨b11, 0, none⟩)), (12, .pointer (some ⟨b12, 0, none⟩)), (62, vi (p0.length : Int)), (63, vi v63)] ∧ Stp [4, 6, 7, 11, 12, 13] K102 w105 κ' w' ∧ Oc E6 2 κ' w' 6 af ae s8.1 ∧ Oc Ep.bool 4 κ' w' 4 aj am s8.2 ∧ x58.length = s8.2.length ∧ Bc κ' w' 7 b11 40 [.slice af s8.1.length ae] ∧ 0 ≤ v63 ∧ Int.toNat ((p0.length : Int) - v63) = k ∧ cntM (i_loopsIn_b4 p0 p1) k v63 s8 = some q9) ⟨_, _, ⟨K102, 0, ((([] : List Int) : (List Int)), (x58 : (List Bool))), ax, ay, R, (Jx2 _ _).wk R, (f93.stp (S96.tr (S99.tr (S103.tr S106))) R R), (f82.stp (S85.tr (S88.tr (S92.tr (S96.tr (S99.tr (S103.tr S106)))))) R R), R, (f100.stp (S103.tr S106) R R), (by decide), (by simp), hq110⟩, (KM R)⟩ ?_)
 rintro k _ w118 ⟨K119, v63, s8, af, ae, rfl, S120, f121, f122, hn123, f124, hj108, hJ108, h⟩
 rcases k with _ | k
 have hk128 := h; obtain ⟨o108, h⟩ := ex_eq (Sum.inr (Sum.inl s8) : (List (List Int)) ⊕ (((List Int) × (List Bool)) ⊕ ((List Int) × (List Bool))))
 have hc108 : decide (v63 < (p0.length : Int)) = false := Jo2 (by omega)
 refine Je [2] R (Jb 1 R (Jq (Jw2 R hc108 (Jc1 (Jt (Jt ?_))))))
 cases h
 have h := hk128
 refine Jb1 ?_
 cases h
 exact Jw1 _ ⟨K119, ((s8.1 : (List Int)), (s8.2 : (List Bool))), af, ae, R, S120.wk R, f121, f122, hn123, f124, R⟩ (KM R)
 obtain ⟨o108, h, hk128⟩ := BI h; unfold i_loopsIn_b4 at h
 have hc108 : decide (v63 < (p0.length : Int)) = true := Jn2 (by omega)
 refine Je [2] R (Jb 1 R (Jq (Jv2 R hc108 (Js (Jp (Jq (Jv (Je [2, 2] R (Jb 2 R (Je [1, 2, 2, 1, 2, 1, 2, 2, 1, 2, 2] R ?_))))))))))
 have f129 := f4.stp (S7.tr (S14.tr (S81.tr (S85.tr (S88.tr (S92.tr (S96.tr (S99.tr (S103.tr (S106.tr S120)))))))))) R R
 refine Jl tv R R R R (Jc2 I135 R R (hvE (f129.ld 0 R R))) (Jn 1 R (Ob h fun x68 hx68 h => Jf R (Jf2 g1 hx68 U135 Z4 R R R R) ?_))
 have f130 := g1.stp (S3.tr (S7.tr (S14.tr (S81.tr (S85.tr (S88.tr (S92.tr (S96.tr (S99.tr (S103.tr (S106.tr S120))))))))))) R R
 refine Jl tv R R R R (Jc2 I4 R R (hvE (f130.gBool hx68))) (Jn 1 R (Ob h fun p76 h hK131 => Ju1 [(5, 1), (6, 2), (7, 2), (8, 1), (9, 2), (10, 2)] [] (fun L w' => L = [(0, .slice a0 p0.length u0), (3, .pointer (some ⟨b3, 0, none⟩)), (5, .slice ab x20.length aa), (10, .pointer (some ⟨b10, 0, none⟩)), (11, .pointer (some ⟨b11, 0, none⟩)), (12, .pointer (some ⟨b12, 0, none⟩)), (13, vi v63), (62, vi (p0.length : Int)), (63, vi v63), (76, .bool p76)] ∧ ∃ κ', Stp [] K119 w118 κ' w') tv ?_ ?_))
 revert h
 cases ht132 : x68
 refine JF fun h => Jd1 R R R R (Jn 2 R (Jd1 R R R R (Jn 2 R ?_)))
 cases h
 exact Jv1 _ tv ⟨R, _, (Jx2 _ _).wk R⟩ (KM R)
 refine JT fun h => Jl tv R R R R (Jc2 I135 R R (hvE ((f89.stp (S92.tr (S96.tr (S99.tr (S103.tr (S106.tr S120))))) R R).ld 0 R R))) (Jn 1 R (Ob h fun x73 hx73 h => Jf R (Jf2 f122.rdc hx73 U135 Z4 R R hn123 R) (Jl tv R R R R (Jc2 I4 R R (hvE (f122.rdc.gBool hx73))) (Jn 2 R ?_))))
 cases h
 exact Jv1 _ tv ⟨R, _, (Jx2 _ _).wk R⟩ (KM R)
 rintro _ w134 _ ⟨rfl, K135, S136⟩
 have h := hK131
 refine Jd (Ob h fun q11 h hK137 => Jx1 (fun L w' => ∃ κ' ah ao, L = [(0, .slice a0 p0.length u0), (3, .pointer (some ⟨b3, 0, none⟩)), (5, .slice ab x20.length aa), (10, .pointer (some ⟨b10, 0, none⟩)), (11, .pointer (some ⟨b11, 0, none⟩)), (12, .pointer (some ⟨b12, 0, none⟩)), (62, vi (p0.length : Int)), (63, vi v63)] ∧ Stp [4, 6, 7, 11, 12, 13] K135 w134 κ' w' ∧ Oc E6 2 κ' w' 6 ah ao q11.1 ∧ Oc Ep.bool 4 κ' w' 4 aj am q11.2 ∧ x58.length = q11.2.length ∧ Bc κ' w' 7 b11 40 [.slice ah q11.1.length ao]) ?_ ?_)
 revert h
 cases ht145 : p76
 refine JF fun h => Jy R (Js ?_)
 cases h
 exact Jw1 _ ⟨K135, af, ae, R, (Jx2 _ _).wk R, (f121.stp S136 R R), (f122.stp S136 R R), hn123, (f124.stp S136 R R)⟩ (KM R)
 refine JT fun h => Jx R (Ja [1, 2, 2, 2, 1] R ?_)
 have f146 := f107.stp (S120.tr S136) R R
 refine Jl tv R R R R (Jc2 I173 R R (hvE (f146.ld 0 R R))) (Jn 2 R (Jf R (rn_makeFunc (first := []) (captured := [.tmp 11]) R R R ⟨_, R⟩) (Ob h fun x81 hx81 h => WO.callV R R R R R R R R C152 (i_loopsIn_1__i_loopsIn_2__i_loopsIn_1_ok _ (κ := fun b => mp [(6, 2), (4, 3), (7, 4)] 0 (K135 b)) (Jl2 (g0.stp (S3.tr (S7.tr (S14.tr (S81.tr (S85.tr (S88.tr (S92.tr (S96.tr (S99.tr (S103.tr (S106.tr (S120.tr S136)))))))))))) R R) (mp [(6, 2), (4, 3), (7, 4)] 0) R R) ((f121.stp S136 R R).map (mp [(6, 2), (4, 3), (7, 4)] 0) R R) ((f122.stp S136 R R).map (mp [(6, 2), (4, 3), (7, 4)] 0) R R) (Jl2 (f130.stp S136 R R) (mp [(6, 2), (4, 3), (7, 4)] 0) R R) ((f124.stp S136 R R).map (mp [(6, 2), (4, 3), (7, 4)] 0) R R) (Bc.cast ((f89.stp (S92.tr (S96.tr (S99.tr (S103.tr (S106.tr (S120.tr S136)))))) R R).map (mp [(6, 2), (4, 3), (7, 4)] 0) R R) (by simp only [hn123])) ((f129.stp S136 R R).map (mp [(6, 2), (4, 3), (7, 4)] 0) R R) (f146.map (mp [(6, 2), (4, 3), (7, 4)] 0) R R) hx81) ?_)))
 rintro _ w154 ⟨k155, aA, aC, rfl, e156, f157, f158, hn159, f160⟩
 obtain ⟨K161, S162, m163⟩ := Ji e156 9 R
 refine ⟨tv, Jo ?_⟩
 cases h
 exact Jw1 _ ⟨(fun b => ren [(11, 6), (12, 4), (13, 7)] (K161 b)), aA, aC, R, (Jy2 (S162.wk R) [(11, 6), (12, 4), (13, 7)] R), ((f157.mx (no_int _) m163 R (R : 9 + 2 = 11)).map (ren [(11, 6), (12, 4), (13, 7)]) R R), ((f158.mx no_bool m163 R (R : 9 + 3 = 12)).map (ren [(11, 6), (12, 4), (13, 7)]) R R), (hn123.trans hn159), ((f160.mx m163 R (R : 9 + 4 = 13)).map (ren [(11, 6), (12, 4), (13, 7)]) R R)⟩ (KM R)
 rintro _ w138 ⟨K139, ah, ao, rfl, S140, f141, f142, hn143, f144⟩
 have h := hK137
 refine Jz (Jp (Ja [2, 2] R (Jc 2 R ?_)))
 have hw108 : IntKind.wrap .i64 (v63 + 1) = v63 + 1 := wr1 hj108 (Jm2 hc108) hN108
 rw [hw108]
 have hc108 := Jm2 hc108
 cases h
 exact Jz1 fun a ha => ⟨k, _, Ja3 _, ⟨K139, v63 + 1, ((q11.1 : (List Int)), (q11.2 : (List Bool))), ah, ao, R, (S120.tr (S136.tr S140)).wk R, f141, f142, hn143, f144, by omega, by omega, hk128⟩, (ha.mm R)⟩
 rintro _ w111 ⟨K112, s10, av, ap, rfl, S113, f114, f115, hn116, f117, rfl⟩
 have h := hK109
 dsimp only [aft] at h
 refine Jp (Je [2, 2, 1, 1] R (Jn 1 R (Jf R (Je2 U24 R R) (Ob h fun x85 hx85 h => Jl1 (κ := K112) (E := Ep.bool) (z := (false : Bool)) 9 R R R R R R R Y135 Tryzinfo4 R R R R R (fun _ _ _ => R) (Ju2 hx85) fun aq aw w171 K172 S173 f174 => ⟨tv, Jj1 (κ := K172) 5 (vc := [.slice aq x85.length aw]) R R R R R R R Z135 R R (f89.stp (S92.tr (S96.tr (S99.tr (S103.tr (S106.tr (S113.tr S173)))))) R R) R fun w176 S177 f178 => ⟨tv, Jd (Je [1, 2] R (Jo1 (κ := K172) (E := (Ep.fz (Rp.sl (Rp.int .i64)))) 10 R R R R R Y24 Tryzinfo40 R fun aG aD w179 K180 S181 f182 => ⟨tv, Jb 1 R (Jq (Je [1, 2, 2, 2] R ?_))⟩))⟩⟩))))
 have f183 := f117.stp (S173.tr (S177.tr S181)) R R
 refine Jl tv R R R R (Jc2 I40 R R (hvE (f183.ld 0 R R))) (Jf R (Je2 U40 R R) (Jb 2 R (Ob h fun q13 hq186 hK185 => ?_)))
 clear h
 refine Jx1 (fun L w' => ∃ κ', ∃ s14 : (List (List Int)) × Int × (List Bool), ∃ al ai, L = [(14, .slice al s14.1.length ai)] ∧ Stp [9, 10, 11, 12, 15, 16, 20, 21] K180 w179 κ' w' ∧ Oc (Ep.fz (Rp.sl (Rp.int .i64))) 40 κ' w' 10 al ai s14.1 ∧ Oc Ep.bool 4 κ' w' 9 aq aw s14.2.2 ∧ x85.length = s14.2.2.length ∧ q13 = Sum.inr s14) ?_ ?_
 refine Jv (Jy1 (fun k L w' => ∃ κ', ∃ s12 : (List (List Int)) × Int × (List Bool), ∃ ac ad, L = [(0, .slice a0 p0.length u0), (5, .slice ab x20.length aa), (10, .pointer (some ⟨b10, 0, none⟩)), (11, .pointer (some ⟨b11, 0, none⟩)), (12, .pointer (some ⟨b12, 0, none⟩)), (14, .slice ac s12.1.length ad), (15, vi s12.2.1)] ∧ Stp [9, 10, 11, 12, 15, 16, 20, 21] K180 w179 κ' w' ∧ Oc (Ep.fz (Rp.sl (Rp.int .i64))) 40 κ' w' 10 ac ad s12.1 ∧ Oc Ep.bool 4 κ' w' 9 aq aw s12.2.2 ∧ x85.length = s12.2.2.length ∧ whileM (i_loopsIn_b6 p0 p1 s3 s10) k s12 = some q13) ⟨_, _, ⟨K180, ((([] : List (List Int)) : (List (List Int))), ((IntKind.i64.wrap ((s10.1.length : Int) - 1)) : Int), (x85 : (List Bool))), aG, aD, R, (Jx2 _ _).wk R, f182, (f174.stp (S177.tr S181) R R), R, hq186⟩, (KM R)⟩ ?_)
 rintro k _ w193 ⟨K194, s12, ac, ad, rfl, S195, f196, f197, hn198, h⟩
 rcases k with _ | k
 cases h
 obtain ⟨o184, h, hk200⟩ := BI h; unfold i_loopsIn_b6 at h
 refine Jq (Je [2, 2] R (Jb 2 R ?_))
 revert h
 cases ht201 : decide (0 ≤ s12.2.1)
 refine JF fun h => Jy R (Jc1 (Jt (Jt ?_)))
 cases h
 have h := hk200
 refine Jb1 ?_
 cases h
 exact Jw1 _ ⟨K194, ((s12.1 : (List (List Int))), (s12.2.1 : Int), (s12.2.2 : (List Bool))), ac, ad, R, S195.wk R, f196, f197, hn198, R⟩ (KM R)
 refine JT fun h => Jx R (Js (Jp (Jq (Jv (Je [1, 2, 2, 1, 2] R (Jl tv R R R R (Jc2 I40 R R (hvE ((f183.stp S195 R R).ld 0 R R))) (Jn 1 R (Ob h fun x96 hx96 h => Jf R (Jf2 f114.rdc hx96 U40 Z2 R R R R) (Jl tv R R R R (Jc2 I2 R R (hvE ((f114.stp (S173.tr (S177.tr (S181.tr S195))) R R).rdc.gInt hx96))) (Jb 1 R (Jq (Je [1, 2, 2, 1] R ?_))))))))))))
 have f204 := f178.stp (S181.tr S195) R R
 refine Jl tv R R R R (Jc2 I135 R R (hvE (f204.ld 0 R R))) (Jn 1 R (Ob h fun x100 hx100 h => Jf R (Jf2 f197.rdc hx100 U135 Z4 R R hn198 R) (Jl tv R R R R (Jc2 I4 R R (hvE (f197.rdc.gBool hx100))) (Jd ?_))))
 revert h
 cases ht205 : x100
 refine JF fun h => Jy R (Js (Jp (Je [1, 1, 1] R (Jo1 (κ := K194) (E := E6) 11 R R R R R Y40 Tryzinfo2 R fun aE az w206 K207 S208 f209 => ⟨tv, Jg1 (κ := K207) 12 R R R R R X40 R fun b17 w210 K211 S212 f213 => ⟨tv, Jj1 (κ := K211) 12 (vc := [.slice aE ([] : List Int).length az]) R R R R R R R Z40 R R f213 R fun w214 S215 f216 => ⟨tv, Jd (Je [1, 2, 2, 2, 1] R ?_)⟩⟩⟩))))
 have f217 := f107.stp (S113.tr (S173.tr (S177.tr (S181.tr (S195.tr (S208.tr (S212.tr S215))))))) R R
 have S001 := (S208.tr (S212.tr S215))
 refine Jl tv R R R R (Jc2 I173 R R (hvE (f217.ld 0 R R))) (Jn 2 R (Jf R (rn_makeFunc (first := []) (captured := [.tmp 17]) R R R ⟨_, R⟩) (Ob h fun x107 hx107 h => WO.callV R R R R R R R R C152 (Ret.cast (by simp only [hn16, List.cons_append, List.nil_append]) (i_loopsIn_1__i_loopsIn_3__i_loopsIn_1_ok _ (κ := fun b => mp [(11, 2), (9, 3), (12, 4)] 0 (K211 b)) (Jl2 (f15.stp (S81.tr (S85.tr (S88.tr (S92.tr (S96.tr (S99.tr (S103.tr (S106.tr (S113.tr (S173.tr (S177.tr (S181.tr (S195.tr (S208.tr (S212.tr S215))))))))))))))) R R).rdc (mp [(11, 2), (9, 3), (12, 4)] 0) R R) ((f209.stp (S212.tr S215) R R).map (mp [(11, 2), (9, 3), (12, 4)] 0) R R) ((f197.stp S001 R R).map (mp [(11, 2), (9, 3), (12, 4)] 0) R R) (Jl2 (g1.stp (S3.tr (S7.tr (S14.tr (S81.tr (S85.tr (S88.tr (S92.tr (S96.tr (S99.tr (S103.tr (S106.tr (S113.tr (S173.tr (S177.tr (S181.tr (S195.tr (S208.tr (S212.tr S215)))))))))))))))))) R R) (mp [(11, 2), (9, 3), (12, 4)] 0) R R) (f216.map (mp [(11, 2), (9, 3), (12, 4)] 0) R R) (Bc.cast ((f204.stp S001 R R).map (mp [(11, 2), (9, 3), (12, 4)] 0) R R) (by simp only [hn198])) ((f4.stp (S7.tr (S14.tr (S81.tr (S85.tr (S88.tr (S92.tr (S96.tr (S99.tr (S103.tr (S106.tr (S113.tr (S173.tr (S177.tr (S181.tr (S195.tr (S208.tr (S212.tr S215))))))))))))))))) R R).map (mp [(11, 2), (9, 3), (12, 4)] 0) R R) (f217.map (mp [(11, 2), (9, 3), (12, 4)] 0) R R) hx107)) ?_)))
 rintro _ w224 ⟨k225, au, ar, rfl, e226, f227, f228, hn229, f230⟩
 obtain ⟨K231, S232, m233⟩ := Ji e226 13 R
 refine ⟨tv, ?_⟩
 have f237 := f230.mx m233 R (R : 13 + 4 = 17)
 refine Jd (Je [1, 1] R (Jl tv R R R R (Jc2 I40 R R (hvE (f237.ld 0 R R))) (Ob h fun x109 hx109 h => Jh R R R C138 (slices_Sort_I_int64_ok (κ := fun b => mp [(15, 2)] 0 (K231 b)) ((f227.mx (no_int _) m233 R (R : 13 + 2 = 15)).map (mp [(15, 2)] 0) R R) hx109) ?_)))
 rintro _ w238 ⟨k239, rfl, e240, f241, hn242⟩
 obtain ⟨K243, S244, m245⟩ := Ji e240 18 R
 refine ⟨tv, Jd (Je [1, 2, 2, 2, 2, 2, 2, 1, 2, 1, 2] R ?_)⟩
 have f248 := f237.stp S244 R R
 refine Jl tv R R R R (Jc2 I40 R R (hvE (f248.ld 0 R R))) (Jf R (Je2 U40 R R) (Jn 2 R (Ob h fun p120 h hK249 => Ju1 [(4, 2), (5, 2), (6, 2), (7, 1), (8, 2), (9, 1), (10, 2)] [] (fun L w' => L = [(0, .slice a0 p0.length u0), (5, .slice ab x20.length aa), (10, .pointer (some ⟨b10, 0, none⟩)), (11, .pointer (some ⟨b11, 0, none⟩)), (12, .pointer (some ⟨b12, 0, none⟩)), (14, .slice ac s12.1.length ad), (15, vi s12.2.1), (17, .pointer (some ⟨b17, 0, none⟩)), (120, .bool p120)] ∧ ∃ κ', Stp [] K243 w238 κ' w') tv ?_ ?_)))
 revert h
 cases ht250 : decide (1 < (x107.1.length : Int))
 refine JF fun h => Jn 2 R (Ob h fun x116 hx116 h => Jf R (Jf2 g0 hx116 U24 Z40 R R R R) ?_)
 obtain ⟨ax116, ux116, f252, hl253⟩ := (g0.stp (S3.tr (S7.tr (S14.tr (S81.tr (S85.tr (S88.tr (S92.tr (S96.tr (S99.tr (S103.tr (S106.tr (S113.tr (S173.tr (S177.tr (S181.tr (S195.tr (S208.tr (S212.tr (S215.tr (S232.tr S244)))))))))))))))))))) R R).gSl hx116
 refine Jl tv R R R R (Jc2 I40 R R (hvE hl253)) (Jn 1 R (Ob h fun x119 hx119 h => Jh R R R C73 (slices_Contains_I_int64_ok (κ := fun b => mp [] 0 (K243 b)) (Jl2 f252 (mp [] 0) R R) hx119) ?_))
 rintro _ w254 ⟨k255, rfl, e256⟩
 obtain ⟨K257, S258, m259⟩ := Ji e256 21 R
 refine ⟨tv, Jn 1 R ?_⟩
 cases h
 exact Jv1 _ tv ⟨R, _, S258.wk R⟩ (KM R)
 refine JT fun h => Jn 3 R (Jd1 R R R R (Jn 1 R (Jd1 R R R R (Jn 1 R ?_))))
 cases h
 exact Jv1 _ tv ⟨R, _, (Jx2 _ _).wk R⟩ (KM R)
 rintro _ w261 _ ⟨rfl, K262, S263⟩
 have h := hK249
 refine Jd (Ob h fun q15 h hK264 => Jx1 (fun L w' => ∃ κ' ak an, L = [(0, .slice a0 p0.length u0), (5, .slice ab x20.length aa), (10, .pointer (some ⟨b10, 0, none⟩)), (11, .pointer (some ⟨b11, 0, none⟩)), (12, .pointer (some ⟨b12, 0, none⟩)), (14, .slice ak q15.length an), (15, vi s12.2.1)] ∧ Stp [10, 20, 21] K262 w261 κ' w' ∧ Oc (Ep.fz (Rp.sl (Rp.int .i64))) 40 κ' w' 10 ak an q15) ?_ ?_)
 revert h
 cases ht269 : p120
 refine JF fun h => Jy R (Js ?_)
 cases h
 exact Jw1 _ ⟨K262, ac, ad, R, (Jx2 _ _).wk R, (f196.stp (S208.tr (S212.tr (S215.tr (S232.tr (S244.tr S263))))) R R)⟩ (KM R)
 refine JT fun h => Jx R (Ja [2, 1, 1, 1, 2] R (Jn 1 R (Jl tv R R R R (Jc2 I40 R R (hvE ((f248.stp S263 R R).ld 0 R R))) ?_)))
 obtain ⟨K272, S273, z274⟩ := fz_ex K262 w261 20
 refine Jn1 (κ := K272) (E := (Ep.fz (Rp.sl (Rp.int .i64)))) 21 [] (parts := [(0, .tmp 122)]) (cells := [.slice au x107.1.length ar]) (xs := ([x109] : List (List Int))) R R R R R R Y24 Tryzinfo40 R R R R R R R R R R ⟨[.slice au x107.1.length ar], [], Zl K272 w261 [], Zl K272 w261 [], R, Zl.sp (l1 := []) (l2 := []) R, Zl.sr (l1 := []) (l2 := []), ⟨_, _, (congrArg (fun n => [Value.slice au n ar]) (hn242)), (Sl.z1 (Sl.st z274 ((f241.mx (no_int _) m245 R (R : 18 + 2 = 20)).stp S263 R R).rdc))⟩, R⟩ fun aL aH w276 K277 S278 f279 => ⟨tv, Ob h fun x124 hx124 h => Jm1 (κ := K277) (E := (Ep.fz (Rp.sl (Rp.int .i64)))) 10 [21] R R R R R R R R R Y24 Tryzinfo40 R R R R (f196.stp (S208.tr (S212.tr (S215.tr (S232.tr (S244.tr (S263.tr (S273.tr S278))))))) R R) f279.src (sy_one R) hx124 R fun aF aB w281 K282 S283 f284 => ⟨tv, Jc 1 R ?_⟩⟩
 cases h
 exact Jw1 _ ⟨K282, aF, aB, R, (S273.tr (S278.tr S283)).wk R, f284⟩ (KM R)
 rintro _ w265 ⟨K266, ak, an, rfl, S267, f268⟩
 have h := hK264
 refine Jz (Jp (Ja [2, 2, 2] R (Jc 3 R ?_)))
 cases h
 exact Jz1 fun a ha => ⟨k, _, Ja3 _, ⟨(fun b => ren [(16, 9)] (K266 b)), ((q15 : (List (List Int))), ((IntKind.i64.wrap (s12.2.1 - 1)) : Int), (x107.2 : (List Bool))), ak, an, R, (Jy2 ((S195.tr (S208.tr (S212.tr (S215.tr (S232.tr (S244.tr (S263.tr S267))))))).wk R) [(16, 9)] R), (f268.map (ren [(16, 9)]) R R), (((f228.mx no_bool m233 R (R : 13 + 3 = 16)).stp (S244.tr (S263.tr S267)) R R).map (ren [(16, 9)]) R R), (hn198.trans hn229), hk200⟩, (ha.mm R)⟩
 refine JT fun h => Jx R (Jc1 (Jt (Jb1 (Jp (Ja [2, 2, 2] R (Jc 3 R ?_))))))
 cases h
 exact Jz1 fun a ha => ⟨k, _, Ja3 _, ⟨K194, ((s12.1 : (List (List Int))), ((IntKind.i64.wrap (s12.2.1 - 1)) : Int), (s12.2.2 : (List Bool))), ac, ad, R, S195.wk R, f196, f197, hn198, hk200⟩, (ha.mm R)⟩
 rintro _ w187 ⟨K188, s14, al, ai, rfl, S189, f190, f191, hn192, rfl⟩
 have h := hK185
 dsimp only [aft] at h
 refine Jp (Je [2, 1] R (Jn 1 R (Ob h fun x126 hx126 h => Jh R R R C155 (slices_SortFunc_I_I_ok (κ := fun b => mp [(10, 2)] 1 (K188 b)) (f190.map (mp [(10, 2)] 1) R R) hx126) ?_)))
 rintro _ w287 ⟨k288, rfl, e289, f290, hn291⟩
 obtain ⟨K292, S293, m294, z295⟩ := Jj e289 11 R
 refine ⟨tv, Jd (Je [2, 2] R (Jb 2 R (Ju (Ja2 (l := [.tmp 4]) V124 (Jp2 R R) R ?_))))⟩
 cases h
 exact ⟨(fun b => ren [(13, 2)] (K292 b)), al, ai, (by simp only [(hn291)]), ((hE.stp (S3.tr (S7.tr (S14.tr (S81.tr (S85.tr (S88.tr (S92.tr (S96.tr (S99.tr (S103.tr (S106.tr (S113.tr (S173.tr (S177.tr (S181.tr (S189.tr S293)))))))))))))))) R R).map (ren [(13, 2)]) R R), ((f290.mxz z295 m294 R (R : 11 + 2 = 13)).map (ren [(13, 2)]) R R)⟩
theorem slices_BinarySearch_I_int64_ok {w : World} {κ : Col} {a0 u0} {p0 : (List Int)} {p1 : Int} (g0 : Rd (Rp.int .i64) κ w 0 a0 u0 p0) {r : Int × Bool} (h : slices_BinarySearch_I_int64 p0 p1 = some r) : Ret Tryz.prog 158 [.slice a0 p0.length u0, vi p1] w (fun v w' => ∃ (κ' : Col), v = .tuple #[vi r.1, .bool r.2] ∧ Ent κ w κ' w') := by
 unfold slices_BinarySearch_I_int64 at h
 refine Ret.enter F158 R N158 R ?_
 dsimp only [envOf]
 have hE := Ent.refl κ w
 refine Je [2, 2] R (Jb 2 R (Je [2, 2, 2] R (Jn 1 R (Jf R (Je2 U40 R R) (Jb 1 R (Je [2, 2, 2] R (Jb 3 R (Jq (Ob h fun q2 hq3 hK2 => ?_)))))))))
 clear h
 refine Jx1 (fun L w' => ∃ κ', ∃ s3 : Int × Int, L = [(0, .slice a0 p0.length u0), (1, vi p1), (6, vi (p0.length : Int)), (7, vi s3.1)] ∧ Stp [] κ w κ' w' ∧ q2 = Sum.inr s3) ?_ ?_
 refine Jv (Jy1 (fun k L w' => ∃ κ', ∃ s1 : Int × Int, L = [(0, .slice a0 p0.length u0), (1, vi p1), (6, vi (p0.length : Int)), (7, vi s1.1), (8, vi s1.2)] ∧ Stp [] κ w κ' w' ∧ whileM (slices_BinarySearch_I_int64_b0 p0 p1) k s1 = some q2) ⟨_, _, ⟨κ, ((0 : Int), ((p0.length : Int) : Int)), R, (Jx2 _ _).wk R, hq3⟩, (KM R)⟩ ?_)
 rintro k _ w7 ⟨K8, s1, rfl, S9, h⟩
 rcases k with _ | k
 cases h
 obtain ⟨o1, h, hk10⟩ := BI h; unfold slices_BinarySearch_I_int64_b0 at h
 refine Jq (Je [2, 2, 2] R (Jb 3 R ?_))
 revert h
 cases ht11 : decide (s1.1 < s1.2)
 refine JF fun h => Jy R (Jc1 (Jt (Jt ?_)))
 cases h
 have h := hk10
 refine Jb1 ?_
 cases h
 exact Jw1 _ ⟨K8, ((s1.1 : Int), (s1.2 : Int)), R, S9.wk R, R⟩ (KM R)
 refine JT fun h => Jx R (Js (Jp (Jv (Je [2, 2, 2, 2, 2, 2, 2] R (Jn 3 R (Jf R (Jh2 U3 U152 R R) (Jf R (rn_shr R R R (by decide)) (Jf R (Jh2 U152 U3 R R) (Jb 1 R (Je [2, 2, 2, 1, 2, 1] R (Jn 2 R (Ob h fun x24 hx24 h => Jf R (Jf2 g0 hx24 U40 Z2 R R R R) (Jl tv R R R R (Jc2 I2 R R (hvE ((g0.stp S9 R R).gInt hx24))) (Jn 1 R (Ob h fun x27 hx27 h => Jh R R R C172 (cmp_Less_int64_ok (κ := fun b => mp [] 0 (K8 b)) hx27) ?_)))))))))))))))
 rintro _ w13 ⟨k14, rfl, e15⟩
 obtain ⟨K16, S17, m18⟩ := Ji e15 2 R
 refine ⟨tv, Jd (Ob h fun q4 h hK20 => Jx1 (fun L w' => ∃ κ', L = [(0, .slice a0 p0.length u0), (1, vi p1), (6, vi (p0.length : Int)), (7, vi q4.1), (8, vi q4.2)] ∧ Stp [] K16 w13 κ' w') ?_ ?_)⟩
 revert h
 cases ht24 : x27
 refine JF fun h => Jy R (Ja [2, 2] R (Jc 2 R ?_))
 cases h
 exact Jw1 _ ⟨K16, R, (Jx2 _ _).wk R⟩ (KM R)
 refine JT fun h => Jx R (Ja [2, 2, 2] R (Jc 3 R ?_))
 cases h
 exact Jw1 _ ⟨K16, R, (Jx2 _ _).wk R⟩ (KM R)
 rintro _ w21 ⟨K22, rfl, S23⟩
 have h := hK20
 refine Jz ?_
 cases h
 exact Jz1 fun a ha => ⟨k, _, Ja3 _, ⟨K22, ((q4.1 : Int), (q4.2 : Int)), R, (S9.tr (S17.tr S23)).wk R, hk10⟩, (ha.mm R)⟩
 rintro _ w4 ⟨K5, s3, rfl, S6, rfl⟩
 have h := hK2
 dsimp only [aft] at h
 refine Jp (Je [2, 2, 2, 2, 2, 2, 2, 2, 1, 2, 2, 2, 2, 2, 2, 1, 1, 2, 2, 1, 2, 2, 2, 2, 2] R (Jn 5 R (Ob h fun p53 h hK25 => Ju1 [(5, 2), (6, 2), (7, 2), (8, 1), (9, 2), (10, 2), (11, 2), (12, 2), (13, 2), (14, 2), (15, 1), (16, 1), (17, 2), (18, 2), (19, 1), (20, 2), (21, 2), (22, 2)] [(23, 2), (24, 2)] (fun L w' => L = [(31, vi s3.1), (53, .bool p53)] ∧ ∃ κ', Stp [] K5 w4 κ' w') tv ?_ ?_)))
 revert h
 cases ht26 : decide (s3.1 < (p0.length : Int))
 refine JF fun h => Jn 3 R (Jd1 R R R R (Jn 6 R (Jd1 R R R R (Jd1 R R R R (Jn 2 R (Jd1 R R R R (Jn 3 R ?_)))))))
 cases h
 exact Jv1 _ tv ⟨R, _, (Jx2 _ _).wk R⟩ (KM R)
 refine JT fun h => Jn 2 R (Ob h fun x38 hx38 h => Jf R (Jf2 g0 hx38 U40 Z2 R R R R) ?_)
 have f27 := g0.stp S6 R R
 refine Jl tv R R R R (Jc2 I2 R R (hvE (f27.gInt hx38))) (Jn 3 R (Ob h fun p52 h hK28 => Ju1 [(12, 2), (13, 2), (14, 2), (15, 1), (16, 1), (17, 2), (18, 2), (19, 1), (20, 2), (21, 2)] [(22, 2)] (fun L w' => L = [(31, vi s3.1), (35, .bool true), (52, .bool p52)] ∧ ∃ κ', Stp [] K5 w4 κ' w') tv ?_ ?_))
 revert h
 cases ht29 : (x38 == p1)
 refine JF fun h => Jn 2 R (Ob h fun x45 hx45 h => Jf R (Jf2 f27 hx45 U40 Z2 R R R R) (Jl tv R R R R (Jc2 I2 R R (hvE (f27.gInt hx45))) (Ob h fun x47 hx47 h => Jh R R R C173 (slices_isNaN_int64_ok (κ := fun b => mp [] 0 (K5 b)) hx47) ?_)))
 rintro _ w30 ⟨k31, rfl, e32⟩
 obtain ⟨K33, S34, m35⟩ := Ji e32 2 R
 refine ⟨tv, Jn 1 R (Ob h fun p51 h hK37 => Ju1 [(18, 2), (19, 1), (20, 2)] [(21, 2)] (fun L w' => L = [(31, vi s3.1), (35, .bool true), (42, .bool false), (51, .bool p51)] ∧ ∃ κ', Stp [] K33 w30 κ' w') tv ?_ ?_)⟩
 revert h
 cases ht38 : x47
 refine JF fun h => Jn 1 R (Jd1 R R R R (Jn 1 R ?_))
 cases h
 exact Jv1 _ tv ⟨R, _, (Jx2 _ _).wk R⟩ (KM R)
 refine JT fun h => Jn 1 R (Ob h fun x50 hx50 h => Jh R R R C173 (slices_isNaN_int64_ok (κ := fun b => mp [] 0 (K33 b)) hx50) ?_)
 rintro _ w39 ⟨k40, rfl, e41⟩
 obtain ⟨K42, S43, m44⟩ := Ji e41 4 R
 refine ⟨tv, Jn 1 R ?_⟩
 cases h
 exact Jv1 _ tv ⟨R, _, S43.wk R⟩ (KM R)
 rintro _ w46 _ ⟨rfl, K47, S48⟩
 have h := hK37
 refine Jn 1 R ?_
 cases h
 exact Jv1 _ tv ⟨R, _, (S34.tr S48).wk R⟩ (KM R)
 refine JT fun h => Jn 3 R (Jd1 R R R R (Jd1 R R R R (Jn 2 R (Jd1 R R R R (Jn 2 R ?_)))))
 cases h
 exact Jv1 _ tv ⟨R, _, (Jx2 _ _).wk R⟩ (KM R)
 rintro _ w49 _ ⟨rfl, K50, S51⟩
 have h := hK28
 refine Jn 1 R ?_
 cases h
 exact Jv1 _ tv ⟨R, _, S51.wk R⟩ (KM R)
 rintro _ w52 _ ⟨rfl, K53, S54⟩
 have h := hK25
 refine Jb 2 R (Ju (Ja2 (l := [.tmp 4, .tmp 5]) V158 (Jp2 R (Jp2 R R)) R ?_))
 cases h
 exact ⟨K53, R, (hE.stp (S6.tr S54) R R)⟩
theorem l_eqRival_ok {w : World} {κ : Col} {aa af ad ah} {p0 : Rival} {ac ab ae ai} {p1 : Rival} (g0_0 : Rd (Rp.int .i64) κ w 0 aa af p0.In) (g0_1 : Rd (Rp.sl (Rp.int .i64)) κ w 0 ad ah p0.Next) (g1_0 : Rd (Rp.int .i64) κ w 0 ac ab p1.In) (g1_1 : Rd (Rp.sl (Rp.int .i64)) κ w 0 ae ai p1.Next) {r : Bool} (h : l_eqRival p0 p1 = some r) : Ret Tryz.prog 29 [.agg #[.slice aa p0.In.length af, .slice ad p0.Next.length ah], .agg #[.slice ac p1.In.length ab, .slice ae p1.Next.length ai]] w (fun v w' => ∃ (κ' : Col), v = .bool r ∧ Ent κ w κ' w') := by
 unfold l_eqRival at h
 refine Ret.enter F29 R N29 R ?_
 dsimp only [envOf]
 have hE := Ent.refl κ w
 refine Je [1, 1, 2] R (Jf1 (κ := κ) 2 R R R R R R R fun b2 w1 K2 S3 f4 => ⟨tv, Jf1 (κ := K2) 3 R R R R R R R fun b3 w5 K6 S7 f8 => ⟨tv, Jb 1 R (Jq (Je [2, 1, 2, 1, 1, 2] R (Jf R (Jb2 U50 R Z40 R R) ?_)))⟩⟩)
 have f9 := f4.stp S7 R R
 refine Jl tv R R R R (Jc2 I40 R R (hvE (f9.ld 0 R R))) (Jf R (Jb2 U50 R Z40 R R) (Jl tv R R R R (Jc2 I40 R R (hvE (f8.ld 0 R R))) (Ob h fun x9 hx9 h => Jh R R R C20 (l_eqInt64S_ok (κ := fun b => mp [] 0 (K6 b)) (Jl2 (g0_0.stp (S3.tr S7) R R) (mp [] 0) R R) (Jl2 (g1_0.stp (S3.tr S7) R R) (mp [] 0) R R) hx9) ?_)))
 rintro _ w12 ⟨k13, rfl, e14⟩
 obtain ⟨K15, S16, m17⟩ := Ji e14 4 R
 refine ⟨tv, Jb 1 R ?_⟩
 revert h
 cases ht19 : (!x9)
 refine JF fun h => Jy R (Js (Jp (Jq (Je [2, 1, 2, 1, 1, 2] R (Jf R (Jb2 U50 R Z24 R R) (Jl tv R R R R (Jc2 I24 R R (hvE ((f9.stp S16 R R).ld 1 R R))) (Jf R (Jb2 U50 R Z24 R R) (Jl tv R R R R (Jc2 I24 R R (hvE ((f8.stp S16 R R).ld 1 R R))) (Ob h fun x15 hx15 h => Jh R R R C54 (l_eqInt64SS_ok (κ := fun b => mp [] 0 (K15 b)) (Jl2 (g0_1.stp (S3.tr (S7.tr S16)) R R) (mp [] 0) R R) (Jl2 (g1_1.stp (S3.tr (S7.tr S16)) R R) (mp [] 0) R R) hx15) ?_)))))))))
 rintro _ w25 ⟨k26, rfl, e27⟩
 obtain ⟨K28, S29, m30⟩ := Ji e27 6 R
 refine ⟨tv, Jb 1 R ?_⟩
 revert h
 cases ht32 : (!x15)
 refine JF fun h => Jy R (Js (Jp (Je [2] R (Jb 1 R (Ju (Ja2 (l := [.tmp 4]) V29 (Jp2 R R) R ?_))))))
 cases h
 exact ⟨K28, R, (hE.stp (S3.tr (S7.tr (S16.tr S29))) R R)⟩
 refine JT fun h => Jx R (Je [2] R (Jb 1 R (Ju (Jw (Ja2 (l := [.tmp 4]) V29 (Jp2 R R) R ?_)))))
 cases h
 exact ⟨K28, R, (hE.stp (S3.tr (S7.tr (S16.tr S29))) R R)⟩
 refine JT fun h => Jx R (Je [2] R (Jb 1 R (Ju (Jw (Ja2 (l := [.tmp 4]) V29 (Jp2 R R) R ?_)))))
 cases h
 exact ⟨K15, R, (hE.stp (S3.tr (S7.tr S16)) R R)⟩
theorem l_eqClauseS_ok {w : World} {κ : Col} {a0 u0} {p0 : (List Clause)} {a1 u1} {p1 : (List Clause)} (g0 : Rd Clause.rp κ w 0 a0 u0 p0) (g1 : Rd Clause.rp κ w 0 a1 u1 p1) {r : Bool} (h : l_eqClauseS p0 p1 = some r) : Ret Tryz.prog 17 [.slice a0 p0.length u0, .slice a1 p1.length u1] w (fun v w' => ∃ (κ' : Col), v = .bool r ∧ Ent κ w κ' w') := by
 unfold l_eqClauseS at h
 refine Ret.enter F17 R N17 R ?_
 dsimp only [envOf]
 have hE := Ent.refl κ w
 refine Je [2] R (Jb 1 R (Jq (Je [2, 2, 2, 2, 2] R (Jn 1 R (Jf R (Je2 U35 R R) (Jn 1 R (Jf R (Je2 U35 R R) (Jb 1 R ?_))))))))
 revert h
 cases ht1 : ((p0.length : Int) != (p1.length : Int))
 refine JF fun h => Jy R (Js (Jp (Jq (Je [2] R (Jb 1 R ?_)))))
 have hN2 : (p0.length : Int) ≤ 9223372036854775807 := g0.len_le
 refine Ob h fun q2 hq4 hK3 => ?_
 clear h
 refine Jx1 (fun L w' => ∃ κ', L = [] ∧ Stp [] κ w κ' w' ∧ q2 = Sum.inr ()) ?_ ?_
 refine Jv (Jy1 (fun k L w' => ∃ κ' v5, L = [(0, .slice a0 p0.length u0), (1, .slice a1 p1.length u1), (5, vi v5)] ∧ Stp [] κ w κ' w' ∧ 0 ≤ v5 ∧ Int.toNat ((p0.length : Int) - v5) = k ∧ cntM (l_eqClauseS_b0 p0 p1) k v5 () = some q2) ⟨_, _, ⟨κ, 0, R, (Jx2 _ _).wk R, (by decide), (by simp), hq4⟩, (KM R)⟩ ?_)
 rintro k _ w8 ⟨K9, v5, rfl, S10, hj2, hJ2, h⟩
 rcases k with _ | k
 have hk11 := h; obtain ⟨o2, h⟩ := ex_eq (Sum.inr (Sum.inl ()) : Bool ⊕ ((Unit) ⊕ (Unit)))
 have hc2 : decide (v5 < (p0.length : Int)) = false := Jo2 (by omega)
 refine Jq (Je [2, 2, 2, 2] R (Jn 2 R (Jf R (Je2 U35 R R) (Jb 1 R (Jw2 R hc2 (Jc1 (Jt (Jt ?_))))))))
 cases h
 have h := hk11
 refine Jb1 ?_
 cases h
 exact Jw1 _ ⟨K9, R, S10.wk R, R⟩ KN
 obtain ⟨o2, h, hk11⟩ := BI h; unfold l_eqClauseS_b0 at h
 have hc2 : decide (v5 < (p0.length : Int)) = true := Jn2 (by omega)
 refine Jq (Je [2, 2, 2, 2] R (Jn 2 R (Jf R (Je2 U35 R R) (Jb 1 R (Jv2 R hc2 (Js (Jp (Jq (Jv (Jq (Js1 (κ := K9) [0] none [(0, 2), (1, 2), (2, 2), (4, 2), (5, 2), (6, 2), (3, 0), (7, 0), (8, 1), (9, 2)] [] (by kernel_rfl) (by kernel_rfl) fun w13 S12 => Jn 2 R (Ob h fun x19 hx19 h => Jf R (Jf2 g0 hx19 U35 Z71 R R R R) (Jn 2 R (Ob h fun x23 hx23 h => Jf R (Jf2 g1 hx23 U35 Z71 R R R R) ?_))))))))))))))
 obtain ⟨cse15, hre15, hle15⟩ := ((g0.stp (S10.tr S12) R R)).gSt hx19
 obtain ⟨ae15_0, ue15_0, ae15_1, ue15_1, rfl, fe15_0, fe15_1⟩ := Clause.un hre15
 refine Jg R (Jd2 (cs := [vi x19.Kind, .slice ae15_0 x19.A.length ue15_0, .slice ae15_1 x19.B.length ue15_1]) I71 Z71 R R R (haC hle15 R)) ?_
 obtain ⟨cse17, hre17, hle17⟩ := ((g1.stp (S10.tr S12) R R)).gSt hx23
 obtain ⟨ae17_0, ue17_0, ae17_1, ue17_1, rfl, fe17_0, fe17_1⟩ := Clause.un hre17
 refine Jg R (Jd2 (cs := [vi x23.Kind, .slice ae17_0 x23.A.length ue17_0, .slice ae17_1 x23.B.length ue17_1]) I71 Z71 R R R (haC hle17 R)) (Ob h fun x25 hx25 h => Jh R R R C55 (l_eqClause_ok (κ := fun b => mp [] 0 (K9 b)) (p0 := x19) (p1 := x23) (Jl2 fe15_0 (mp [] 0) R R) (Jl2 fe15_1 (mp [] 0) R R) (Jl2 fe17_0 (mp [] 0) R R) (Jl2 fe17_1 (mp [] 0) R R) hx25) ?_)
 rintro _ w18 ⟨k19, rfl, e20⟩
 obtain ⟨K21, S22, m23⟩ := Ji e20 2 R
 refine ⟨(S22.cl R), Jn 1 R (Jt1 (Jd ?_))⟩
 revert h
 cases ht25 : (!x25)
 refine JF fun h => Jy R (Js (Jz (Jp (Ja [2, 2, 2] R (Jc 3 R ?_)))))
 have hw2 : IntKind.wrap .i64 (v5 + 1) = v5 + 1 := wr1 hj2 (Jm2 hc2) hN2
 rw [hw2]
 have hc2 := Jm2 hc2
 cases h
 exact Jz1 fun a ha => ⟨k, _, Ja3 _, ⟨K21, v5 + 1, R, (S10.tr (S12.tr S22)).wk R, by omega, by omega, hk11⟩, (ha.mm R)⟩
 refine JT fun h => Jx R (Je [2] R (Jb 1 R (Ju (Ja1 (Jw (Jw ?_))))))
 cases h
 obtain rfl := Option.some.inj hk11
 have h := hK3
 dsimp only [aft] at h
 refine Ja1 (Jq2 (Jw (Ja2 (l := [.tmp 4]) V17 (Jp2 R R) R ?_)))
 cases h
 exact ⟨K21, R, (hE.stp (S10.tr (S12.tr S22)) R R)⟩
 rintro _ w5 ⟨K6, rfl, S7, rfl⟩
 have h := hK3
 dsimp only [aft] at h
 refine Jp (Je [2] R (Jb 1 R (Ju (Ja2 (l := [.tmp 4]) V17 (Jp2 R R) R ?_))))
 cases h
 exact ⟨K6, R, (hE.stp S7 R R)⟩
 refine JT fun h => Jx R (Je [2] R (Jb 1 R (Ju (Jw (Ja2 (l := [.tmp 4]) V17 (Jp2 R R) R ?_)))))
 cases h
 exact ⟨κ, R, hE⟩
end Go.Proofs.YtcmamhmpoinmnaaGreat
