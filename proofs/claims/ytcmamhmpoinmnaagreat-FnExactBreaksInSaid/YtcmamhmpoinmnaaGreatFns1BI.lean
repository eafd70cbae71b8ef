/- The walks, part 1. By program. -/
import Derived.Test.YtcmamhmpoinmnaaGreatFnsMBI
import Derived.Test.YtcmamhmpoinmnaaGreatAlBI
set_option linter.unusedVariables false
set_option linter.unusedSimpArgs false
namespace Go.Proofs.YtcmamhmpoinmnaaGreat
open Go Go.Wk Go.Proofs
set_option maxRecDepth 100000
set_option maxHeartbeats 1000000
theorem l_toInt64S_ok {w : World} {κ : Col} {a0 u0} {p0 : (List Int)} (g0 : Rd (Rp.int .i64) κ w 0 a0 u0 p0) {r : (List Int)} (h : l_toInt64S p0 = some r) : Ret Tryz.prog 68 [.slice a0 p0.length u0] w (fun v w' => ∃ (κ' : Col) (ra0 : Option Addr) (ru0 : Nat), v = .slice ra0 r.length ru0 ∧ Ent κ w κ' w' ∧ Oc E6 2 κ' w' 2 ra0 ru0 r) := by
 unfold l_toInt64S at h
 refine Ret.enter F68 R N68 R ?_
 dsimp only [envOf]
 have hE := Ent.refl κ w
 refine Je [2] R (Jb 1 R (Je [2, 2, 1, 2] R (Jn 1 R (Jf R (Je2 U40 R R) (Ob h fun x7 hx7 h => Jl1 (κ := κ) (E := E6) (z := (0 : Int)) 2 R R R R R R R Y40 Tryzinfo2 R R R R R (fun _ _ _ => R) (Ju2 hx7) fun a7 u7 w1 K2 S3 f4 => ⟨tv, Jb 1 R (Jq (Je [2] R (Jb 1 R ?_)))⟩)))))
 have hN5 : (p0.length : Int) ≤ 9223372036854775807 := g0.len_le
 refine Ob h fun q2 hq7 hK6 => ?_
 clear h
 refine Jx1 (fun L w' => ∃ κ', ∃ s3 : (List Int), L = [(3, .slice a7 x7.length u7)] ∧ Stp [2] K2 w1 κ' w' ∧ Oc E6 2 κ' w' 2 a7 u7 s3 ∧ x7.length = s3.length ∧ q2 = Sum.inr s3) ?_ ?_
 refine Jv (Jy1 (fun k L w' => ∃ κ' v4, ∃ s1 : (List Int), L = [(0, .slice a0 p0.length u0), (3, .slice a7 x7.length u7), (4, vi v4)] ∧ Stp [2] K2 w1 κ' w' ∧ Oc E6 2 κ' w' 2 a7 u7 s1 ∧ x7.length = s1.length ∧ 0 ≤ v4 ∧ Int.toNat ((p0.length : Int) - v4) = k ∧ cntM (l_toInt64S_b0 p0) k v4 s1 = some q2) ⟨_, _, ⟨K2, 0, (x7 : (List Int)), R, (Jx2 _ _).wk R, f4, R, (by decide), (by simp), hq7⟩, (KM R)⟩ ?_)
 rintro k _ w13 ⟨K14, v4, s1, rfl, S15, f16, hn17, hj5, hJ5, h⟩
 rcases k with _ | k
 have hk18 := h; obtain ⟨o5, h⟩ := ex_eq (Sum.inr (Sum.inl s1) : (List Int) ⊕ (((List Int)) ⊕ ((List Int))))
 have hc5 : decide (v4 < (p0.length : Int)) = false := Jo2 (by omega)
 refine Jq (Je [2, 2, 2, 2] R (Jn 2 R (Jf R (Je2 U40 R R) (Jb 1 R (Jw2 R hc5 (Jc1 (Jt (Jt ?_))))))))
 cases h
 have h := hk18
 refine Jb1 ?_
 cases h
 exact Jw1 _ ⟨K14, (s1 : (List Int)), R, S15.wk R, f16, hn17, R⟩ (KM R)
 obtain ⟨o5, h, hk18⟩ := BI h; unfold l_toInt64S_b0 at h
 have hc5 : decide (v4 < (p0.length : Int)) = true := Jn2 (by omega)
 refine Jq (Je [2, 2, 2, 2] R (Jn 2 R (Jf R (Je2 U40 R R) (Jb 1 R (Jv2 R hc5 (Js (Jp (Jq (Jv (Ja [2, 2, 2, 2, 2, 1, 2, 1] R (Jn 4 R (Ob h fun x18 hx18 h => Jf R (Jf2 g0 hx18 U40 Z2 R R R R) (Jl tv R R R R (Jc2 I2 R R (hvE ((g0.stp (S3.tr S15) R R).gInt hx18))) (Ob h fun x20 hx20 h => Jf R (Jf2 f16.rdc hx20 U40 Z2 R R hn17 R) (Ob h fun y14 hy14 h => Jk1 (κ := K14) (E := E6) 2 [] R R R R R R R R Z2 R R R R f16 hy14 fun w20 K21 S22 f23 => ⟨tv, ?_⟩)))))))))))))))
 have hn24 : x7.length = y14.length := hn17.trans (Jt2 hy14).2.2.2.symm
 refine Jo (Jz (Jp (Ja [2, 2, 2] R (Jc 3 R ?_))))
 have hw5 : IntKind.wrap .i64 (v4 + 1) = v4 + 1 := wr1 hj5 (Jm2 hc5) hN5
 rw [hw5]
 have hc5 := Jm2 hc5
 cases h
 exact Jz1 fun a ha => ⟨k, _, Ja3 _, ⟨K21, v4 + 1, (y14 : (List Int)), R, (S15.tr S22).wk R, f23, hn24, by omega, by omega, hk18⟩, (ha.mm R)⟩
 rintro _ w8 ⟨K9, s3, rfl, S10, f11, hn12, rfl⟩
 have h := hK6
 dsimp only [aft] at h
 refine Jp (Je [2, 2] R (Jb 2 R (Ju (Ja2 (l := [.tmp 2]) V68 (Jp2 R R) R ?_))))
 cases h
 exact ⟨K9, a7, u7, (by simp only [hn12]), (hE.stp (S3.tr S10) R R), f11⟩
theorem s_l25Pair_ok {w : World} {κ : Col} {p0 : Int}  {r : Pair} (h : s_l25Pair p0 = some r) : Ret Tryz.prog 140 [vi p0] w (fun v w' => ∃ (κ' : Col) (ra0 : Option Addr) (ru0 : Nat) (ra1 : Option Addr) (ru1 : Nat), v = .agg #[.slice ra0 r.Ask.length ru0, .slice ra1 r.Give.length ru1] ∧ Ent κ w κ' w' ∧ Oc E6 2 κ' w' 2 ra0 ru0 r.Ask ∧ Oc E6 2 κ' w' 3 ra1 ru1 r.Give) := by
 unfold s_l25Pair at h
 refine Ret.enter F140 R N140 R ?_
 dsimp only [envOf]
 have hE := Ent.refl κ w
 refine Je [1] R (Jg1 (κ := κ) 2 R R R R R X92 R fun b2 w1 K2 S3 f4 => ⟨tv, Jd (Jq (Je [2] R (Jb 1 R (Jv (Jq (Je [2, 2] R (Jb 2 R (Ob h fun q1 h hK5 => Jx1 (fun L w' => ∃ κ', L = [(2, .pointer (some ⟨b2, 0, none⟩)), (3, vi p0), (4, .bool q1)] ∧ Stp [] K2 w1 κ' w') ?_ ?_))))))))⟩)
 revert h
 cases ht9 : (p0 == 1)
 refine JF fun h => Jy R (Ja [2, 2] R (Jc 2 R ?_))
 cases h
 exact Jw1 _ ⟨K2, R, (Jx2 _ _).wk R⟩ (KM R)
 refine JT fun h => Jx R (Js ?_)
 cases h
 exact Jw1 _ ⟨K2, R, (Jx2 _ _).wk R⟩ (KM R)
 rintro _ w6 ⟨K7, rfl, S8⟩
 have h := hK5
 refine Jp ?_
 revert h
 cases ht10 : q1
 refine JF fun h => Jy R (Je [2, 2] R (Jb 2 R ?_))
 revert h
 cases ht21 : (p0 == 2)
 refine JF fun h => Jy R (Je [2, 2] R (Jb 2 R ?_))
 revert h
 cases ht32 : (p0 == 3)
 refine JF fun h => Jy R (Je [2, 2] R (Jb 2 R ?_))
 revert h
 cases ht48 : (p0 == 4)
 refine JF fun h => Jy R (Je [2, 2] R (Jb 2 R ?_))
 revert h
 cases ht64 : (p0 == 6)
 refine JF fun h => Jy R (Js (Jz (Jp (Je [1, 1, 2, 1] R (Jn1 (κ := K7) (E := E6) 3 [] (parts := [(0, .const (vi 2)), (1, .const (vi 3))]) (cells := [vi 2, vi 3]) (xs := ([2, 3] : List Int)) R R R R R R Y40 Tryzinfo2 R R R R R R R R R R ⟨[vi 2], [vi 3], Zl K7 w6 [], Zl K7 w6 [], R, Zl.sp (l1 := []) (l2 := []) R, Zl.sr (l1 := []) (l2 := []), R, ⟨[vi 3], [], Zl K7 w6 [], Zl K7 w6 [], R, Zl.sp (l1 := []) (l2 := []) R, Zl.sr (l1 := []) (l2 := []), R, R⟩⟩ fun ai ab w75 K76 S77 f78 => ⟨tv, Jn1 (κ := K76) (E := E6) 4 [] (parts := [(0, .const (vi 1)), (1, .const (vi 3))]) (cells := [vi 1, vi 3]) (xs := ([1, 3] : List Int)) R R R R R R Y40 Tryzinfo2 R R R R R R R R R R ⟨[vi 1], [vi 3], Zl K76 w75 [], Zl K76 w75 [], R, Zl.sp (l1 := []) (l2 := []) R, Zl.sr (l1 := []) (l2 := []), R, ⟨[vi 3], [], Zl K76 w75 [], Zl K76 w75 [], R, Zl.sp (l1 := []) (l2 := []) R, Zl.sr (l1 := []) (l2 := []), R, R⟩⟩ fun ah aa w79 K80 S81 f82 => ⟨tv, Jf R (rn_build (parts := [(0, .tmp 27), (1, .tmp 28)]) (cells := [.slice ai ([2, 3] : List Int).length ab, .slice ah ([1, 3] : List Int).length aa]) R R (by kernel_rfl)) (Jj1 (κ := K80) 2 (vc := [.slice ai ([2, 3] : List Int).length ab, .slice ah ([1, 3] : List Int).length aa]) R R R R R R R Z92 R R (f4.stp (S8.tr (S77.tr S81)) R R) R fun w84 S85 f86 => ⟨tv, Jd (Ju (Ja2 (l := [.cell 2 92]) V140 (res_cellA R f86 I92 Z92 R R) R ?_))⟩)⟩⟩)))))
 cases h
 exact ⟨(fun b => ren [(3, 2), (4, 3)] (K80 b)), ai, ab, ah, aa, R, ((hE.stp (S3.tr (S8.tr (S77.tr (S81.tr S85)))) R R).map (ren [(3, 2), (4, 3)]) R R), ((f78.stp (S81.tr S85) R R).map (ren [(3, 2), (4, 3)]) R R), ((f82.stp S85 R R).map (ren [(3, 2), (4, 3)]) R R)⟩
 refine JT fun h => Jx R (Je [1, 2, 1] R (Jn1 (κ := K7) (E := E6) 3 [] (parts := [(0, .const (vi 0))]) (cells := [vi 0]) (xs := ([0] : List Int)) R R R R R R Y40 Tryzinfo2 R R R R R R R R R R ⟨[vi 0], [], Zl K7 w6 [], Zl K7 w6 [], R, Zl.sp (l1 := []) (l2 := []) R, Zl.sr (l1 := []) (l2 := []), R, R⟩ fun ao af w65 K66 S67 f68 => ⟨tv, Jf R (rn_build (parts := [(0, .tmp 25)]) (cells := [.slice ao ([0] : List Int).length af, .slice none 0 0]) R R (by kernel_rfl)) (Jj1 (κ := K66) 2 (vc := [.slice ao ([0] : List Int).length af, .slice none 0 0]) R R R R R R R Z92 R R (f4.stp (S8.tr S67) R R) R fun w70 S71 f72 => ⟨tv, Jd (Ju (Ja1 (Jw (Ja2 (l := [.cell 2 92]) V140 (res_cellA R f72 I92 Z92 R R) R ?_))))⟩)⟩))
 cases h
 exact ⟨(fun b => ren [(3, 2)] (K66 b)), ao, af, none, 0, R, ((hE.stp (S3.tr (S8.tr (S67.tr S71))) R R).map (ren [(3, 2)]) R R), ((f68.stp S71 R R).map (ren [(3, 2)]) R R), Ow.nil⟩
 refine JT fun h => Jx R (Je [1, 1, 2, 1] R (Jn1 (κ := K7) (E := E6) 3 [] (parts := [(0, .const (vi 0)), (1, .const (vi 1))]) (cells := [vi 0, vi 1]) (xs := ([0, 1] : List Int)) R R R R R R Y40 Tryzinfo2 R R R R R R R R R R ⟨[vi 0], [vi 1], Zl K7 w6 [], Zl K7 w6 [], R, Zl.sp (l1 := []) (l2 := []) R, Zl.sr (l1 := []) (l2 := []), R, ⟨[vi 1], [], Zl K7 w6 [], Zl K7 w6 [], R, Zl.sp (l1 := []) (l2 := []) R, Zl.sr (l1 := []) (l2 := []), R, R⟩⟩ fun aj ak w49 K50 S51 f52 => ⟨tv, Jn1 (κ := K50) (E := E6) 4 [] (parts := [(0, .const (vi 1))]) (cells := [vi 1]) (xs := ([1] : List Int)) R R R R R R Y40 Tryzinfo2 R R R R R R R R R R ⟨[vi 1], [], Zl K50 w49 [], Zl K50 w49 [], R, Zl.sp (l1 := []) (l2 := []) R, Zl.sr (l1 := []) (l2 := []), R, R⟩ fun an al w53 K54 S55 f56 => ⟨tv, Jf R (rn_build (parts := [(0, .tmp 20), (1, .tmp 21)]) (cells := [.slice aj ([0, 1] : List Int).length ak, .slice an ([1] : List Int).length al]) R R (by kernel_rfl)) (Jj1 (κ := K54) 2 (vc := [.slice aj ([0, 1] : List Int).length ak, .slice an ([1] : List Int).length al]) R R R R R R R Z92 R R (f4.stp (S8.tr (S51.tr S55)) R R) R fun w58 S59 f60 => ⟨tv, Jd (Ju (Ja1 (Jw (Ja2 (l := [.cell 2 92]) V140 (res_cellA R f60 I92 Z92 R R) R ?_))))⟩)⟩⟩))
 cases h
 exact ⟨(fun b => ren [(3, 2), (4, 3)] (K54 b)), aj, ak, an, al, R, ((hE.stp (S3.tr (S8.tr (S51.tr (S55.tr S59)))) R R).map (ren [(3, 2), (4, 3)]) R R), ((f52.stp (S55.tr S59) R R).map (ren [(3, 2), (4, 3)]) R R), ((f56.stp S59 R R).map (ren [(3, 2), (4, 3)]) R R)⟩
 refine JT fun h => Jx R (Je [1, 1, 2, 1] R (Jn1 (κ := K7) (E := E6) 3 [] (parts := [(0, .const (vi 1))]) (cells := [vi 1]) (xs := ([1] : List Int)) R R R R R R Y40 Tryzinfo2 R R R R R R R R R R ⟨[vi 1], [], Zl K7 w6 [], Zl K7 w6 [], R, Zl.sp (l1 := []) (l2 := []) R, Zl.sr (l1 := []) (l2 := []), R, R⟩ fun ae ad w33 K34 S35 f36 => ⟨tv, Jn1 (κ := K34) (E := E6) 4 [] (parts := [(0, .const (vi 0))]) (cells := [vi 0]) (xs := ([0] : List Int)) R R R R R R Y40 Tryzinfo2 R R R R R R R R R R ⟨[vi 0], [], Zl K34 w33 [], Zl K34 w33 [], R, Zl.sp (l1 := []) (l2 := []) R, Zl.sr (l1 := []) (l2 := []), R, R⟩ fun aq ap w37 K38 S39 f40 => ⟨tv, Jf R (rn_build (parts := [(0, .tmp 15), (1, .tmp 16)]) (cells := [.slice ae ([1] : List Int).length ad, .slice aq ([0] : List Int).length ap]) R R (by kernel_rfl)) (Jj1 (κ := K38) 2 (vc := [.slice ae ([1] : List Int).length ad, .slice aq ([0] : List Int).length ap]) R R R R R R R Z92 R R (f4.stp (S8.tr (S35.tr S39)) R R) R fun w42 S43 f44 => ⟨tv, Jd (Ju (Ja1 (Jw (Ja2 (l := [.cell 2 92]) V140 (res_cellA R f44 I92 Z92 R R) R ?_))))⟩)⟩⟩))
 cases h
 exact ⟨(fun b => ren [(3, 2), (4, 3)] (K38 b)), ae, ad, aq, ap, R, ((hE.stp (S3.tr (S8.tr (S35.tr (S39.tr S43)))) R R).map (ren [(3, 2), (4, 3)]) R R), ((f36.stp (S39.tr S43) R R).map (ren [(3, 2), (4, 3)]) R R), ((f40.stp S43 R R).map (ren [(3, 2), (4, 3)]) R R)⟩
 refine JT fun h => Jx R (Je [1, 2, 1] R (Jn1 (κ := K7) (E := E6) 3 [] (parts := [(0, .const (vi 2))]) (cells := [vi 2]) (xs := ([2] : List Int)) R R R R R R Y40 Tryzinfo2 R R R R R R R R R R ⟨[vi 2], [], Zl K7 w6 [], Zl K7 w6 [], R, Zl.sp (l1 := []) (l2 := []) R, Zl.sr (l1 := []) (l2 := []), R, R⟩ fun am ac w22 K23 S24 f25 => ⟨tv, Jf R (rn_build (parts := [(0, .tmp 11)]) (cells := [.slice am ([2] : List Int).length ac, .slice none 0 0]) R R (by kernel_rfl)) (Jj1 (κ := K23) 2 (vc := [.slice am ([2] : List Int).length ac, .slice none 0 0]) R R R R R R R Z92 R R (f4.stp (S8.tr S24) R R) R fun w27 S28 f29 => ⟨tv, Jd (Ju (Ja1 (Jw (Ja2 (l := [.cell 2 92]) V140 (res_cellA R f29 I92 Z92 R R) R ?_))))⟩)⟩))
 cases h
 exact ⟨(fun b => ren [(3, 2)] (K23 b)), am, ac, none, 0, R, ((hE.stp (S3.tr (S8.tr (S24.tr S28))) R R).map (ren [(3, 2)]) R R), ((f25.stp S28 R R).map (ren [(3, 2)]) R R), Ow.nil⟩
 refine JT fun h => Jx R (Je [1, 2, 1] R (Jn1 (κ := K7) (E := E6) 3 [] (parts := [(0, .const (vi 1))]) (cells := [vi 1]) (xs := ([1] : List Int)) R R R R R R Y40 Tryzinfo2 R R R R R R R R R R ⟨[vi 1], [], Zl K7 w6 [], Zl K7 w6 [], R, Zl.sp (l1 := []) (l2 := []) R, Zl.sr (l1 := []) (l2 := []), R, R⟩ fun a7 u7 w11 K12 S13 f14 => ⟨tv, Jf R (rn_build (parts := [(0, .tmp 7)]) (cells := [.slice a7 ([1] : List Int).length u7, .slice none 0 0]) R R (by kernel_rfl)) (Jj1 (κ := K12) 2 (vc := [.slice a7 ([1] : List Int).length u7, .slice none 0 0]) R R R R R R R Z92 R R (f4.stp (S8.tr S13) R R) R fun w16 S17 f18 => ⟨tv, Jd (Ju (Ja1 (Jw (Ja2 (l := [.cell 2 92]) V140 (res_cellA R f18 I92 Z92 R R) R ?_))))⟩)⟩))
 cases h
 exact ⟨(fun b => ren [(3, 2)] (K12 b)), a7, u7, none, 0, R, ((hE.stp (S3.tr (S8.tr (S13.tr S17))) R R).map (ren [(3, 2)]) R R), ((f14.stp S17 R R).map (ren [(3, 2)]) R R), Ow.nil⟩
theorem s_l25States_ok {w : World} {κ : Col} {p0 : Int}  {r : Int} (h : s_l25States p0 = some r) : Ret Tryz.prog 141 [vi p0] w (fun v w' => ∃ (κ' : Col), v = vi r ∧ Ent κ w κ' w') := by
 unfold s_l25States at h
 refine Ret.enter F141 R N141 R ?_
 dsimp only [envOf]
 have hE := Ent.refl κ w
 refine Je [2] R (Jb 1 R (Jq (Je [2] R (Jb 1 R (Jv (Je [2, 2] R (Jb 2 R ?_)))))))
 revert h
 cases ht1 : (p0 == 2)
 refine JF fun h => Jy R (Je [2, 2] R (Jb 2 R ?_))
 revert h
 cases ht2 : (p0 == 7)
 refine JF fun h => Jy R (Js (Jz (Jp (Je [2] R (Jb 1 R (Ju (Ja2 (l := [.tmp 2]) V141 (Jp2 R R) R ?_)))))))
 cases h
 exact ⟨κ, R, hE⟩
 refine JT fun h => Jx R (Je [2] R (Jb 1 R (Ju (Ja1 (Jw (Ja2 (l := [.tmp 2]) V141 (Jp2 R R) R ?_))))))
 cases h
 exact ⟨κ, R, hE⟩
 refine JT fun h => Jx R (Je [2] R (Jb 1 R (Ju (Ja1 (Jw (Ja2 (l := [.tmp 2]) V141 (Jp2 R R) R ?_))))))
 cases h
 exact ⟨κ, R, hE⟩
theorem s_l1Max_ok {w : World} {κ : Col} {p0 : Int} {p1 : Int}  {r : Int} (h : s_l1Max p0 p1 = some r) : Ret Tryz.prog 95 [vi p0, vi p1] w (fun v w' => ∃ (κ' : Col), v = vi r ∧ Ent κ w κ' w') := by
 unfold s_l1Max at h
 refine Ret.enter F95 R N95 R ?_
 dsimp only [envOf]
 have hE := Ent.refl κ w
 refine Je [2] R (Jb 1 R (Jq (Je [2, 2, 2] R (Jb 3 R ?_))))
 revert h
 cases ht1 : decide (p1 < p0)
 refine JF fun h => Jy R (Js (Jp (Je [2, 2] R (Jb 2 R (Ju (Ja2 (l := [.tmp 4]) V95 (Jp2 R R) R ?_))))))
 cases h
 exact ⟨κ, R, hE⟩
 refine JT fun h => Jx R (Je [2, 2] R (Jb 2 R (Ju (Jw (Ja2 (l := [.tmp 4]) V95 (Jp2 R R) R ?_)))))
 cases h
 exact ⟨κ, R, hE⟩
theorem s_l30Find_ok {w : World} {κ : Col} {am ak ai ae ab aa ad ac} {p0 : l30Graph} {p1 : Int} {p2 : Int} {b0} (g0_0 : Oc E6 2 κ w 2 am ak p0.of) (g0_1 : Oc E6 2 κ w 3 ai ae p0.by0) (g0_2 : Rd (Rp.sl (Rp.int .i64)) κ w 0 ab aa p0.next) (g0_3 : Rd (Rp.sl (Rp.int .i64)) κ w 0 ad ac p0.letters) (gb0 : Bc κ w 4 b0 158 [.slice am p0.of.length ak, .slice ai p0.by0.length ae, .slice ab p0.next.length aa, .slice ad p0.letters.length ac]) {r : Int × (List Int) × (List Int)} (h : s_l30Find p0 p1 p2 = some r) : Ret Tryz.prog 164 [.pointer (some ⟨b0, 0, none⟩), vi p1, vi p2] w (fun v w' => ∃ (κ' : Col) (ma0 : Option Addr) (mu0 : Nat) (ma1 : Option Addr) (mu1 : Nat), v = vi r.1 ∧ Ent κ w κ' w' ∧ Oc E6 2 κ' w' 2 ma0 mu0 r.2.1 ∧ Oc E6 2 κ' w' 3 ma1 mu1 r.2.2 ∧ Bc κ' w' 4 b0 158 [.slice ma0 r.2.1.length mu0, .slice ma1 r.2.2.length mu1, .slice ab p0.next.length aa, .slice ad p0.letters.length ac]) := by
 unfold s_l30Find at h
 refine Ret.enter F164 R N164 R ?_
 dsimp only [envOf]
 have hE := Ent.refl κ w
 refine Je [2] R (Jb 1 R (Jq (Je [2] R (Jb 1 R ?_))))
 have hN1 : (p0.of.length : Int) ≤ 9223372036854775807 := g0_0.len_le
 refine Ob h fun q2 hq3 hK2 => ?_
 clear h
 refine Jx1 (fun L w' => ∃ κ', L = [(0, .pointer (some ⟨b0, 0, none⟩)), (1, vi p1), (2, vi p2)] ∧ Stp [] κ w κ' w' ∧ q2 = Sum.inr ()) ?_ ?_
 refine Jv (Jy1 (fun k L w' => ∃ κ' v7, L = [(0, .pointer (some ⟨b0, 0, none⟩)), (1, vi p1), (2, vi p2), (7, vi v7)] ∧ Stp [] κ w κ' w' ∧ 0 ≤ v7 ∧ Int.toNat ((p0.of.length : Int) - v7) = k ∧ cntM (s_l30Find_b0 p0 p1 p2) k v7 () = some q2) ⟨_, _, ⟨κ, 0, R, (Jx2 _ _).wk R, (by decide), (by simp), hq3⟩, (KM R)⟩ ?_)
 rintro k _ w7 ⟨K8, v7, rfl, S9, hj1, hJ1, h⟩
 rcases k with _ | k
 have hk10 := h; obtain ⟨o1, h⟩ := ex_eq (Sum.inr (Sum.inl ()) : (Int × (List Int) × (List Int)) ⊕ ((Unit) ⊕ (Unit)))
 have hc1 : decide (v7 < (p0.of.length : Int)) = false := Jo2 (by omega)
 refine Jq (Je [2, 2, 2, 2, 1, 2, 2] R (Jn 2 R (Jf R (rn_nilCheck R R) (Jf R (Jb2 U158 R Z40 R R) (Jl tv R R R R (Jc2 I40 R R (hvE ((gb0.stp S9 R R).ld 0 R R))) (Jf R (Je2 U40 R R) (Jb 1 R (Jw2 R hc1 (Jc1 (Jt (Jt ?_)))))))))))
 cases h
 have h := hk10
 refine Jb1 ?_
 cases h
 exact Jw1 _ ⟨K8, R, S9.wk R, R⟩ (KM R)
 obtain ⟨o1, h, hk10⟩ := BI h; unfold s_l30Find_b0 at h
 have hc1 : decide (v7 < (p0.of.length : Int)) = true := Jn2 (by omega)
 refine Jq (Je [2, 2, 2, 2, 1, 2, 2] R (Jn 2 R (Jf R (rn_nilCheck R R) (Jf R (Jb2 U158 R Z40 R R) ?_))))
 have f12 := gb0.stp S9 R R
 refine Jl tv R R R R (Jc2 I40 R R (hvE (f12.ld 0 R R))) (Jf R (Je2 U40 R R) (Jb 1 R (Jv2 R hc1 (Js (Jp (Jq (Jv (Je [2, 2, 2, 1, 2, 2, 1, 2, 2, 2, 2, 2, 2, 1, 2, 2, 1, 2, 2, 2] R (Jn 1 R (Jf R (rn_nilCheck R R) (Jf R (Jb2 U158 R Z40 R R) (Jl tv R R R R (Jc2 I40 R R (hvE (f12.ld 0 R R))) (Jn 1 R (Ob h fun x22 hx22 h => Jf R (Jf2 g0_0.rdc hx22 U40 Z2 R R R R) ?_))))))))))))))
 have f13 := g0_0.stp S9 R R
 refine Jl tv R R R R (Jc2 I2 R R (hvE (f13.rdc.gInt hx22))) (Jn 3 R (Ob h fun p36 h hK14 => Ju1 [(10, 2), (11, 2), (12, 2), (13, 1), (14, 2), (15, 2), (16, 1), (17, 2), (18, 2), (19, 2)] [] (fun L w' => L = [(0, .pointer (some ⟨b0, 0, none⟩)), (1, vi p1), (2, vi p2), (7, vi v7), (36, .bool p36)] ∧ ∃ κ', Stp [] K8 w7 κ' w') tv ?_ ?_))
 revert h
 cases ht15 : (x22 == p1)
 refine JF fun h => Jn 3 R (Jd1 R R R R (Jn 2 R (Jd1 R R R R (Jn 3 R ?_))))
 cases h
 exact Jv1 _ tv ⟨R, _, (Jx2 _ _).wk R⟩ (KM R)
 refine JT fun h => Jn 1 R (Jf R (rn_nilCheck R R) (Jf R (Jb2 U158 R Z40 R R) (Jl tv R R R R (Jc2 I40 R R (hvE (f12.ld 1 R R))) (Jn 1 R (Ob h fun x32 hx32 h => Jf R (Jf2 g0_1.rdc hx32 U40 Z2 R R R R) (Jl tv R R R R (Jc2 I2 R R (hvE ((g0_1.stp S9 R R).rdc.gInt hx32))) (Jn 3 R ?_)))))))
 cases h
 exact Jv1 _ tv ⟨R, _, (Jx2 _ _).wk R⟩ (KM R)
 rintro _ w17 _ ⟨rfl, K18, S19⟩
 have h := hK14
 refine Jd ?_
 revert h
 cases ht20 : p36
 refine JF fun h => Jy R (Js (Jz (Jp (Ja [2, 2, 2] R (Jc 3 R ?_)))))
 have hw1 : IntKind.wrap .i64 (v7 + 1) = v7 + 1 := wr1 hj1 (Jm2 hc1) hN1
 rw [hw1]
 have hc1 := Jm2 hc1
 cases h
 exact Jz1 fun a ha => ⟨k, _, Ja3 _, ⟨K18, v7 + 1, R, (S9.tr S19).wk R, by omega, by omega, hk10⟩, (ha.mm R)⟩
 refine JT fun h => Jx R (Je [2, 2] R (Jb 2 R (Ju (Ja1 (Jw (Jw ?_))))))
 cases h
 obtain rfl := Option.some.inj hk10
 have h := hK2
 dsimp only [aft] at h
 refine Ja1 (Jq2 (Jw (Ja2 (l := [.tmp 6]) V164 (Jp2 R R) R ?_)))
 cases h
 exact ⟨K18, am, ak, ai, ae, R, (hE.stp (S9.tr S19) R R), (f13.stp S19 R R), (g0_1.stp (S9.tr S19) R R), (f12.stp S19 R R)⟩
 rintro _ w4 ⟨K5, rfl, S6, rfl⟩
 have h := hK2
 dsimp only [aft] at h
 refine Jp (Je [2, 2, 2, 2, 1, 2, 1, 1, 2, 2, 1] R (Jn 2 R (Jf R (rn_nilCheck R R) (Jf R (Jb2 U158 R Z40 R R) ?_))))
 have f25 := gb0.stp S6 R R
 refine Jl tv R R R R (Jc2 I40 R R (hvE (f25.ld 0 R R))) (Jn 1 R (Jn1 (κ := K5) (E := E6) 5 [] (parts := [(0, .tmp 43)]) (cells := [vi p1]) (xs := ([p1] : List Int)) R R R R R R Y40 Tryzinfo2 R R R R R R R R R R ⟨[vi p1], [], Zl K5 w4 [], Zl K5 w4 [], R, Zl.sp (l1 := []) (l2 := []) R, Zl.sr (l1 := []) (l2 := []), R, R⟩ fun aq ao w26 K27 S28 f29 => ⟨tv, Ob h fun x45 hx45 h => Jm1 (κ := K27) (E := E6) 2 [] R R R R R R R R R Y40 Tryzinfo2 R R R R (g0_0.stp (S6.tr S28) R R) (Sl.srcP (pu_int _) f29.rdc) sy_false hx45 R fun ah af w31 K32 S33 f34 => ⟨tv, Jf R (rn_nilCheck R R) (Jf R (Jb2 U158 R Z40 R R) (Ji1 (κ := K32) 4 (off := 0) (vc := [.slice ah x45.length af]) (cs' := [.slice ah x45.length af, .slice ai p0.by0.length ae, .slice ab p0.next.length aa, .slice ad p0.letters.length ac]) R R R R R R R Z40 R R (f25.stp (S28.tr S33) R R) R R fun w36 S37 f38 => ⟨tv, Jd (Je [2, 2, 2, 2, 1, 2, 1, 1, 2, 2, 1] R (Jn 2 R (Jf R (rn_nilCheck R R) (Jf R (Jb2 U158 R Z40 R R) (Jl tv R R R R (Jc2 I40 R R (hvE (f38.ld 1 R R))) (Jn 1 R (Jn1 (κ := K32) (E := E6) 6 [] (parts := [(0, .tmp 53)]) (cells := [vi p2]) (xs := ([p2] : List Int)) R R R R R R Y40 Tryzinfo2 R R R R R R R R R R ⟨[vi p2], [], Zl K32 w36 [], Zl K32 w36 [], R, Zl.sp (l1 := []) (l2 := []) R, Zl.sr (l1 := []) (l2 := []), R, R⟩ fun ap an w39 K40 S41 f42 => ⟨tv, Ob h fun x55 hx55 h => Jm1 (κ := K40) (E := E6) 3 [] R R R R R R R R R Y40 Tryzinfo2 R R R R (g0_1.stp (S6.tr (S28.tr (S33.tr (S37.tr S41)))) R R) (Sl.srcP (pu_int _) f42.rdc) sy_false hx55 R fun al aj w44 K45 S46 f47 => ⟨tv, Jf R (rn_nilCheck R R) (Jf R (Jb2 U158 R Z40 R R) (Ji1 (κ := K45) 4 (off := 1) (vc := [.slice al x55.length aj]) (cs' := [.slice ah x45.length af, .slice al x55.length aj, .slice ab p0.next.length aa, .slice ad p0.letters.length ac]) R R R R R R R Z40 R R (f38.stp (S41.tr S46) R R) R R fun w49 S50 f51 => ⟨tv, Jd (Je [2, 2, 2, 1, 2, 2, 2] R (Jn 1 R (Jf R (rn_nilCheck R R) (Jf R (Jb2 U158 R Z40 R R) (Jl tv R R R R (Jc2 I40 R R (hvE (f51.ld 0 R R))) (Jf R (Je2 U40 R R) (Jb 2 R (Ju (Ja2 (l := [.tmp 6]) V164 (Jp2 R R) R ?_)))))))))⟩))⟩⟩)))))))⟩))⟩⟩))
 cases h
 exact ⟨K45, ah, af, al, aj, R, (hE.stp (S6.tr (S28.tr (S33.tr (S37.tr (S41.tr (S46.tr S50)))))) R R), (f34.stp (S37.tr (S41.tr (S46.tr S50))) R R), (f47.stp S50 R R), f51⟩
theorem s_l30Returns_ok {w : World} {κ : Col} {a0 u0} {p0 : (List (List Int))} {a1 u1} {p1 : (List Int)} {p2 : Int} (g0 : Rd (Rp.sl (Rp.int .i64)) κ w 0 a0 u0 p0) (g1 : Rd (Rp.int .i64) κ w 0 a1 u1 p1) {r : Bool} (h : s_l30Returns p0 p1 p2 = some r) : Ret Tryz.prog 109 [.slice a0 p0.length u0, .slice a1 p1.length u1, vi p2] w (fun v w' => ∃ (κ' : Col), v = .bool r ∧ Ent κ w κ' w') := by
 unfold s_l30Returns at h
 refine Ret.enter F109 R N109 R ?_
 dsimp only [envOf]
 have hE := Ent.refl κ w
 refine Je [2] R (Jb 1 R (Jq (Je [2] R (Jb 1 R (Ob h fun q2 hq3 hK2 => ?_)))))
 clear h
 refine Jx1 (fun L w' => ∃ κ' s3, L = [] ∧ Stp [] κ w κ' w' ∧ q2 = Sum.inr s3) ?_ ?_
 refine Jv (Jy1 (fun k L w' => ∃ κ' s1, L = [(0, .slice a0 p0.length u0), (1, .slice a1 p1.length u1), (2, vi p2), (7, vi s1)] ∧ Stp [] κ w κ' w' ∧ whileM (s_l30Returns_b0 p0 p1 p2) k s1 = some q2) ⟨_, _, ⟨κ, (0 : Int), R, (Jx2 _ _).wk R, hq3⟩, (KM R)⟩ ?_)
 rintro k _ w7 ⟨K8, s1, rfl, S9, h⟩
 rcases k with _ | k
 cases h
 obtain ⟨o1, h, hk10⟩ := BI h; unfold s_l30Returns_b0 at h
 refine Jq (Je [2, 2, 2, 2, 1, 2, 2] R (Jn 3 R (Ob h fun x11 hx11 h => Jf R (Jf2 g0 hx11 U24 Z40 R R R R) ?_)))
 have f11 := g0.stp S9 R R
 obtain ⟨ax11, ux11, f12, hl13⟩ := f11.gSl hx11
 refine Jl tv R R R R (Jc2 I40 R R (hvE hl13)) (Jf R (Je2 U40 R R) (Jb 1 R ?_))
 revert h
 cases ht14 : decide (s1 < (x11.length : Int))
 refine JF fun h => Jy R (Jc1 (Jt (Jt ?_)))
 cases h
 have h := hk10
 refine Jb1 ?_
 cases h
 exact Jw1 _ ⟨K8, (s1 : Int), R, S9.wk R, R⟩ KN
 refine JT fun h => Jx R (Js (Jp (Jq (Jv (Je [2, 2, 2, 2, 1, 2, 2, 1, 2, 1, 2] R (Jn 3 R (Ob h fun x20 hx20 h => Jf R (Jf2 f11 hx20 U24 Z40 R R R R) ?_)))))))
 obtain ⟨ax20, ux20, f15, hl16⟩ := f11.gSl hx20
 refine Jl tv R R R R (Jc2 I40 R R (hvE hl16)) (Jn 1 R (Ob h fun x23 hx23 h => Jf R (Jf2 f15 hx23 U40 Z2 R R R R) (Jl tv R R R R (Jc2 I2 R R (hvE (f15.gInt hx23))) (Ob h fun x25 hx25 h => Jf R (Jf2 g1 hx25 U40 Z2 R R R R) (Jl tv R R R R (Jc2 I2 R R (hvE ((g1.stp S9 R R).gInt hx25))) (Jb 1 R ?_))))))
 revert h
 cases ht18 : decide (0 ≤ x25)
 refine JF fun h => Jy R (Js (Jz (Jp (Ja [2, 2, 2] R (Jc 3 R ?_)))))
 cases h
 exact Jz1 fun a ha => ⟨k, _, Ja3 _, ⟨K8, ((IntKind.i64.wrap (s1 + 1)) : Int), R, S9.wk R, hk10⟩, (ha.mm R)⟩
 refine JT fun h => Jx R (Je [2] R (Jb 1 R (Ju (Ja1 (Jw (Jw ?_))))))
 cases h
 obtain rfl := Option.some.inj hk10
 have h := hK2
 dsimp only [aft] at h
 refine Ja1 (Jq2 (Jw (Ja2 (l := [.tmp 6]) V109 (Jp2 R R) R ?_)))
 cases h
 exact ⟨K8, R, (hE.stp S9 R R)⟩
 rintro _ w4 ⟨K5, s3, rfl, S6, rfl⟩
 have h := hK2
 dsimp only [aft] at h
 refine Jp (Je [2] R (Jb 1 R (Ju (Ja2 (l := [.tmp 6]) V109 (Jp2 R R) R ?_))))
 cases h
 exact ⟨K5, R, (hE.stp S6 R R)⟩
theorem i_isSig_ok {w : World} {κ : Col} {p0 : Sig}  {r : Bool} (h : i_isSig p0 = some r) : Ret Tryz.prog 69 [.agg #[vi p0.In, vi p0.Out]] w (fun v w' => ∃ (κ' : Col), v = .bool r ∧ Ent κ w κ' w') := by
 unfold i_isSig at h
 refine Ret.enter F69 R N69 R ?_
 dsimp only [envOf]
 have hE := Ent.refl κ w
 refine Je [1, 2] R (Jf1 (κ := κ) 2 R R R R R R R fun b1 w1 K2 S3 f4 => ⟨tv, Jb 1 R (Je [2, 1, 2, 2, 2, 1, 2, 2, 2, 2, 1, 2, 2, 2, 2, 1, 2, 2, 2] R (Jf R (Jb2 U31 R Z2 R R) (Jl tv R R R R (Jc2 I2 R R (hvE (f4.ld 0 R R))) (Jn 2 R (Ob h fun p10 h hK5 => Ju1 [(4, 2), (5, 1), (6, 2), (7, 2)] [(8, 2), (9, 2), (10, 1), (11, 2), (12, 2), (13, 2), (14, 2), (15, 1), (16, 2), (17, 2), (18, 2)] (fun L w' => L = [(1, .pointer (some ⟨b1, 0, none⟩)), (2, .bool false), (10, .bool p10)] ∧ ∃ κ', Stp [] K2 w1 κ' w') tv ?_ ?_)))))⟩)
 revert h
 cases ht6 : decide (1 ≤ p0.In)
 refine JF fun h => Jn 1 R (Jd1 R R R R (Jn 2 R ?_))
 cases h
 exact Jv1 _ tv ⟨R, _, (Jx2 _ _).wk R⟩ (KM R)
 refine JT fun h => Jf R (Jb2 U31 R Z2 R R) (Jl tv R R R R (Jc2 I2 R R (hvE (f4.ld 0 R R))) (Jn 2 R ?_))
 cases h
 exact Jv1 _ tv ⟨R, _, (Jx2 _ _).wk R⟩ (KM R)
 rintro _ w7 _ ⟨rfl, K8, S9⟩
 have h := hK5
 refine Jn 1 R (Ob h fun p15 h hK10 => Ju1 [(9, 2), (10, 1), (11, 2), (12, 2)] [(13, 2), (14, 2), (15, 1), (16, 2), (17, 2), (18, 2)] (fun L w' => L = [(1, .pointer (some ⟨b1, 0, none⟩)), (2, .bool false), (15, .bool p15)] ∧ ∃ κ', Stp [] K8 w7 κ' w') tv ?_ ?_)
 revert h
 cases ht11 : p10
 refine JF fun h => Jn 1 R (Jd1 R R R R (Jn 2 R ?_))
 cases h
 exact Jv1 _ tv ⟨R, _, (Jx2 _ _).wk R⟩ (KM R)
 refine JT fun h => Jf R (Jb2 U31 R Z2 R R) (Jl tv R R R R (Jc2 I2 R R (hvE ((f4.stp S9 R R).ld 1 R R))) (Jn 2 R ?_))
 cases h
 exact Jv1 _ tv ⟨R, _, (Jx2 _ _).wk R⟩ (KM R)
 rintro _ w13 _ ⟨rfl, K14, S15⟩
 have h := hK10
 refine Jn 1 R (Ob h fun p20 h hK16 => Ju1 [(14, 2), (15, 1), (16, 2), (17, 2)] [(18, 2)] (fun L w' => L = [(2, .bool false), (20, .bool p20)] ∧ ∃ κ', Stp [] K14 w13 κ' w') tv ?_ ?_)
 revert h
 cases ht17 : p15
 refine JF fun h => Jn 1 R (Jd1 R R R R (Jn 2 R ?_))
 cases h
 exact Jv1 _ tv ⟨R, _, (Jx2 _ _).wk R⟩ (KM R)
 refine JT fun h => Jf R (Jb2 U31 R Z2 R R) (Jl tv R R R R (Jc2 I2 R R (hvE ((f4.stp (S9.tr S15) R R).ld 1 R R))) (Jn 2 R ?_))
 cases h
 exact Jv1 _ tv ⟨R, _, (Jx2 _ _).wk R⟩ (KM R)
 rintro _ w19 _ ⟨rfl, K20, S21⟩
 have h := hK16
 refine Jb 1 R (Ju (Ja2 (l := [.tmp 2]) V69 (Jp2 R R) R ?_))
 cases h
 exact ⟨K20, R, (hE.stp (S3.tr (S9.tr (S15.tr S21))) R R)⟩
theorem i_areLetters_1_ok {w : World} {κ : Col} {p0 : Int} {c0 : Int} {b1} (gb1 : Bc κ w 0 b1 2 [vi c0]) {r : Bool} (h : i_areLetters_1 p0 c0 = some r) : Ret Tryz.prog 149 [vi p0, .pointer (some ⟨b1, 0, none⟩)] w (fun v w' => ∃ (κ' : Col), v = .bool r ∧ Ent κ w κ' w') := by
 unfold i_areLetters_1 at h
 refine Ret.enter F149 R N149 R ?_
 dsimp only [envOf]
 have hE := Ent.refl κ w
 refine Je [2] R (Jb 1 R (Je [2, 2, 2, 2, 1, 2, 2, 2] R (Jn 3 R (Ob h fun p10 h hK1 => Ju1 [(3, 2), (4, 1), (5, 2), (6, 2)] [(7, 2)] (fun L w' => L = [(1, .pointer (some ⟨b1, 0, none⟩)), (3, .bool false), (10, .bool p10)] ∧ ∃ κ', Stp [] κ w κ' w') tv ?_ ?_))))
 revert h
 cases ht2 : decide (p0 < 0)
 refine JF fun h => Jn 1 R (Jl tv R R R R (Jc2 I2 R R (hvE (gb1.ld 0 R R))) (Jn 2 R ?_))
 cases h
 exact Jv1 _ tv ⟨R, _, (Jx2 _ _).wk R⟩ (KM R)
 refine JT fun h => Jn 1 R (Jd1 R R R R (Jn 2 R ?_))
 cases h
 exact Jv1 _ tv ⟨R, _, (Jx2 _ _).wk R⟩ (KM R)
 rintro _ w3 _ ⟨rfl, K4, S5⟩
 have h := hK1
 refine Jb 1 R (Ju (Ja2 (l := [.tmp 3]) V149 (Jp2 R R) R ?_))
 cases h
 exact ⟨K4, R, (hE.stp S5 R R)⟩
theorem i_hasSecond_ok {w : World} {κ : Col} {p0 : Int}  {r : Bool} (h : i_hasSecond p0 = some r) : Ret Tryz.prog 161 [vi p0] w (fun v w' => ∃ (κ' : Col), v = .bool r ∧ Ent κ w κ' w') := by
 unfold i_hasSecond at h
 refine Ret.enter F161 R N161 R ?_
 dsimp only [envOf]
 have hE := Ent.refl κ w
 refine Je [2] R (Jb 1 R (Je [2, 2, 2, 2, 2, 2, 2, 2, 2, 2, 2] R (Jn 3 R (Ob h fun p8 h hK1 => Ju1 [(3, 2), (4, 2), (5, 2)] [(6, 2), (7, 2), (8, 2), (9, 2), (10, 2)] (fun L w' => L = [(0, vi p0), (2, .bool false), (8, .bool p8)] ∧ ∃ κ', Stp [] κ w κ' w') tv ?_ ?_))))
 revert h
 cases ht2 : (p0 == 2)
 refine JF fun h => Jn 3 R ?_
 cases h
 exact Jv1 _ tv ⟨R, _, (Jx2 _ _).wk R⟩ (KM R)
 refine JT fun h => Jn 3 R ?_
 cases h
 exact Jv1 _ tv ⟨R, _, (Jx2 _ _).wk R⟩ (KM R)
 rintro _ w3 _ ⟨rfl, K4, S5⟩
 have h := hK1
 refine Jn 1 R (Ob h fun p12 h hK6 => Ju1 [(7, 2), (8, 2), (9, 2)] [(10, 2)] (fun L w' => L = [(2, .bool false), (12, .bool p12)] ∧ ∃ κ', Stp [] K4 w3 κ' w') tv ?_ ?_)
 revert h
 cases ht7 : p8
 refine JF fun h => Jn 3 R ?_
 cases h
 exact Jv1 _ tv ⟨R, _, (Jx2 _ _).wk R⟩ (KM R)
 refine JT fun h => Jn 3 R ?_
 cases h
 exact Jv1 _ tv ⟨R, _, (Jx2 _ _).wk R⟩ (KM R)
 rintro _ w8 _ ⟨rfl, K9, S10⟩
 have h := hK6
 refine Jb 1 R (Ju (Ja2 (l := [.tmp 2]) V161 (Jp2 R R) R ?_))
 cases h
 exact ⟨K9, R, (hE.stp (S5.tr S10) R R)⟩
theorem slices_Index_I_int64_ok {w : World} {κ : Col} {a0 u0} {p0 : (List Int)} {p1 : Int} (g0 : Rd (Rp.int .i64) κ w 0 a0 u0 p0) {r : Int} (h : slices_Index_I_int64 p0 p1 = some r) : Ret Tryz.prog 122 [.slice a0 p0.length u0, vi p1] w (fun v w' => ∃ (κ' : Col), v = vi r ∧ Ent κ w κ' w') := by
 unfold slices_Index_I_int64 at h
 refine Ret.enter F122 R N122 R ?_
 dsimp only [envOf]
 have hE := Ent.refl κ w
 refine Je [2] R (Jb 1 R (Jq (Je [2, 2, 2] R (Jn 1 R (Jf R (Je2 U40 R R) (Jb 1 R ?_))))))
 have hN1 : (p0.length : Int) ≤ 9223372036854775807 := g0.len_le
 refine Ob h fun q2 hq3 hK2 => ?_
 clear h
 refine Jx1 (fun L w' => ∃ κ', L = [] ∧ Stp [] κ w κ' w' ∧ q2 = Sum.inr ()) ?_ ?_
 refine Jv (Jy1 (fun k L w' => ∃ κ' v8, L = [(0, .slice a0 p0.length u0), (1, vi p1), (7, vi (p0.length : Int)), (8, vi v8)] ∧ Stp [] κ w κ' w' ∧ 0 ≤ v8 ∧ Int.toNat ((p0.length : Int) - v8) = k ∧ cntM (slices_Index_I_int64_b0 p0 p1) k v8 () = some q2) ⟨_, _, ⟨κ, 0, R, (Jx2 _ _).wk R, (by decide), (by simp), hq3⟩, (KM R)⟩ ?_)
 rintro k _ w7 ⟨K8, v8, rfl, S9, hj1, hJ1, h⟩
 rcases k with _ | k
 have hk10 := h; obtain ⟨o1, h⟩ := ex_eq (Sum.inr (Sum.inl ()) : Int ⊕ ((Unit) ⊕ (Unit)))
 have hc1 : decide (v8 < (p0.length : Int)) = false := Jo2 (by omega)
 refine Je [2] R (Jb 1 R (Jq (Jw2 R hc1 (Jc1 (Jt (Jt ?_))))))
 cases h
 have h := hk10
 refine Jb1 ?_
 cases h
 exact Jw1 _ ⟨K8, R, S9.wk R, R⟩ KN
 obtain ⟨o1, h, hk10⟩ := BI h; unfold slices_Index_I_int64_b0 at h
 have hc1 : decide (v8 < (p0.length : Int)) = true := Jn2 (by omega)
 refine Je [2] R (Jb 1 R (Jq (Jv2 R hc1 (Js (Jp (Jq (Jv (Je [2, 2] R (Jb 2 R (Je [2, 2, 2, 2, 1, 2] R (Jn 3 R (Ob h fun x14 hx14 h => Jf R (Jf2 g0 hx14 U40 Z2 R R R R) (Jl tv R R R R (Jc2 I2 R R (hvE ((g0.stp S9 R R).gInt hx14))) (Jb 1 R ?_))))))))))))))
 revert h
 cases ht12 : (p1 == x14)
 refine JF fun h => Jy R (Js (Jz (Jp (Ja [2, 2] R (Jc 2 R ?_)))))
 have hw1 : IntKind.wrap .i64 (v8 + 1) = v8 + 1 := wr1 hj1 (Jm2 hc1) hN1
 rw [hw1]
 have hc1 := Jm2 hc1
 cases h
 exact Jz1 fun a ha => ⟨k, _, Ja3 _, ⟨K8, v8 + 1, R, S9.wk R, by omega, by omega, hk10⟩, (ha.mm R)⟩
 refine JT fun h => Jx R (Je [2, 2] R (Jb 2 R (Ju (Ja1 (Jw (Jw ?_))))))
 cases h
 obtain rfl := Option.some.inj hk10
 have h := hK2
 dsimp only [aft] at h
 refine Ja1 (Jq2 (Jw (Ja2 (l := [.tmp 4]) V122 (Jp2 R R) R ?_)))
 cases h
 exact ⟨K8, R, (hE.stp S9 R R)⟩
 rintro _ w4 ⟨K5, rfl, S6, rfl⟩
 have h := hK2
 dsimp only [aft] at h
 refine Jp (Je [2] R (Jb 1 R (Ju (Ja2 (l := [.tmp 4]) V122 (Jp2 R R) R ?_))))
 cases h
 exact ⟨K5, R, (hE.stp S6 R R)⟩
theorem i_monitorStep_ok {w : World} {κ : Col} {p0 : Int} {p1 : Int} {p2 : Bool} {p3 : Bool}  {r : Int} (h : i_monitorStep p0 p1 p2 p3 = some r) : Ret Tryz.prog 151 [vi p0, vi p1, .bool p2, .bool p3] w (fun v w' => ∃ (κ' : Col), v = vi r ∧ Ent κ w κ' w') := by
 unfold i_monitorStep at h
 refine Ret.enter F151 R N151 R ?_
 dsimp only [envOf]
 have hE := Ent.refl κ w
 refine Je [2] R (Jb 1 R (Je [2, 2] R (Jb 2 R (Jq (Je [2] R (Jb 1 R (Ob h fun q1 h hK1 => Jx1 (fun L w' => ∃ κ', L = [(0, vi p0), (1, vi p1), (3, .bool p3), (9, vi q1), (10, vi 0)] ∧ Stp [] κ w κ' w') ?_ ?_)))))))
 revert h
 cases ht5 : p2
 refine JF fun h => Jy R (Js ?_)
 cases h
 exact Jw1 _ ⟨κ, R, (Jx2 _ _).wk R⟩ (KM R)
 refine JT fun h => Jx R (Ja [2] R (Jc 1 R ?_))
 cases h
 exact Jw1 _ ⟨κ, R, (Jx2 _ _).wk R⟩ (KM R)
 rintro _ w2 ⟨K3, rfl, S4⟩
 have h := hK1
 refine Jp (Jq (Je [2] R (Jb 1 R (Ob h fun q2 h hK6 => Jx1 (fun L w' => ∃ κ', L = [(0, vi p0), (1, vi p1), (3, .bool q2.1), (9, vi q1), (10, vi q2.2)] ∧ Stp [] K3 w2 κ' w') ?_ ?_))))
 revert h
 cases ht10 : p3
 refine JF fun h => Jy R (Js ?_)
 cases h
 exact Jw1 _ ⟨K3, R, (Jx2 _ _).wk R⟩ (KM R)
 refine JT fun h => Jx R (Ja [2] R (Jc 1 R ?_))
 cases h
 exact Jw1 _ ⟨K3, R, (Jx2 _ _).wk R⟩ (KM R)
 rintro _ w7 ⟨K8, rfl, S9⟩
 have h := hK6
 refine Jp (Jq (Je [2] R (Jb 1 R (Jv (Je [2, 2] R (Jb 2 R ?_))))))
 revert h
 cases ht11 : (p0 == 1)
 refine JF fun h => Jy R (Je [2, 2] R (Jb 2 R ?_))
 revert h
 cases ht13 : (p0 == 2)
 refine JF fun h => Jy R (Je [2, 2] R (Jb 2 R ?_))
 revert h
 cases ht27 : (p0 == 3)
 refine JF fun h => Jy R (Je [2, 2] R (Jb 2 R ?_))
 revert h
 cases ht31 : (p0 == 4)
 refine JF fun h => Jy R (Je [2, 2] R (Jb 2 R ?_))
 revert h
 cases ht33 : (p0 == 5)
 refine JF fun h => Jy R (Je [2, 2] R (Jb 2 R ?_))
 revert h
 cases ht35 : (p0 == 6)
 refine JF fun h => Jy R (Js (Jz (Jp (Je [2, 2, 2, 2, 2] R (Jb 5 R (Ju (Ja2 (l := [.tmp 8]) V151 (Jp2 R R) R ?_)))))))
 cases h
 exact ⟨K8, R, (hE.stp (S4.tr S9) R R)⟩
 refine JT fun h => Jx R (Je [2, 2, 2, 2] R (Jn 2 R (Jf R (rn_max R R R) (Jb 1 R (Ju (Ja1 (Jw (Ja2 (l := [.tmp 8]) V151 (Jp2 R R) R ?_))))))))
 cases h
 exact ⟨K8, R, (hE.stp (S4.tr S9) R R)⟩
 refine JT fun h => Jx R (Je [2, 2, 2] R (Jb 3 R (Ju (Ja1 (Jw (Ja2 (l := [.tmp 8]) V151 (Jp2 R R) R ?_))))))
 cases h
 exact ⟨K8, R, (hE.stp (S4.tr S9) R R)⟩
 refine JT fun h => Jx R (Je [2, 2] R (Jb 2 R (Ju (Ja1 (Jw (Ja2 (l := [.tmp 8]) V151 (Jp2 R R) R ?_))))))
 cases h
 exact ⟨K8, R, (hE.stp (S4.tr S9) R R)⟩
 refine JT fun h => Jx R (Jq (Je [2] R (Jb 1 R ?_)))
 revert h
 cases ht28 : q2.1
 refine JF fun h => Jy R (Js (Jp (Je [2, 2, 2, 2] R (Jn 2 R (Jf R (rn_max R R R) (Jb 1 R (Ju (Ja1 (Jw (Ja2 (l := [.tmp 8]) V151 (Jp2 R R) R ?_))))))))))
 cases h
 exact ⟨K8, R, (hE.stp (S4.tr S9) R R)⟩
 refine JT fun h => Jx R (Je [2] R (Jb 1 R (Ju (Jw (Ja1 (Jw (Ja2 (l := [.tmp 8]) V151 (Jp2 R R) R ?_)))))))
 cases h
 exact ⟨K8, R, (hE.stp (S4.tr S9) R R)⟩
 refine JT fun h => Jx R (Jq (Je [2, 2, 2, 2, 2, 2, 2, 2, 2, 2] R (Jn 3 R (Ob h fun p31 h hK14 => Ju1 [(3, 2), (4, 2), (5, 2), (6, 2), (7, 2), (8, 2), (9, 2)] [] (fun L w' => L = [(9, vi q1), (31, .bool p31)] ∧ ∃ κ', Stp [] K8 w7 κ' w') tv ?_ ?_))))
 revert h
 cases ht15 : (p1 == 2)
 refine JF fun h => Jn 3 R (Ob h fun p30 h hK16 => Ju1 [(6, 2), (7, 2), (8, 2)] [(9, 2)] (fun L w' => L = [(9, vi q1), (24, .bool false), (30, .bool p30)] ∧ ∃ κ', Stp [] K8 w7 κ' w') tv ?_ ?_)
 revert h
 cases ht17 : (p1 == 1)
 refine JF fun h => Jn 3 R ?_
 cases h
 exact Jv1 _ tv ⟨R, _, (Jx2 _ _).wk R⟩ (KM R)
 refine JT fun h => Jn 3 R ?_
 cases h
 exact Jv1 _ tv ⟨R, _, (Jx2 _ _).wk R⟩ (KM R)
 rintro _ w18 _ ⟨rfl, K19, S20⟩
 have h := hK16
 refine Jn 1 R ?_
 cases h
 exact Jv1 _ tv ⟨R, _, S20.wk R⟩ (KM R)
 refine JT fun h => Jn 7 R ?_
 cases h
 exact Jv1 _ tv ⟨R, _, (Jx2 _ _).wk R⟩ (KM R)
 rintro _ w21 _ ⟨rfl, K22, S23⟩
 have h := hK14
 refine Jd ?_
 revert h
 cases ht24 : p31
 refine JF fun h => Jy R (Js (Jp (Je [2, 2] R (Jb 2 R (Ju (Ja1 (Jw (Ja2 (l := [.tmp 8]) V151 (Jp2 R R) R ?_))))))))
 cases h
 exact ⟨K22, R, (hE.stp (S4.tr (S9.tr S23)) R R)⟩
 refine JT fun h => Jx R (Je [2] R (Jb 1 R (Ju (Jw (Ja1 (Jw (Ja2 (l := [.tmp 8]) V151 (Jp2 R R) R ?_)))))))
 cases h
 exact ⟨K22, R, (hE.stp (S4.tr (S9.tr S23)) R R)⟩
 refine JT fun h => Jx R (Je [2, 2, 2, 2, 2] R (Jn 3 R (Jf R (rn_max R R R) (Jb 1 R (Ju (Ja1 (Jw (Ja2 (l := [.tmp 8]) V151 (Jp2 R R) R ?_))))))))
 cases h
 exact ⟨K8, R, (hE.stp (S4.tr S9) R R)⟩
theorem slices_Index_2_int64_2_int64_ok {w : World} {κ : Col} {a0 u0} {p0 : (List (Int × Int))} {p1 : (Int × Int)} (g0 : Rd (Rp.pair (Rp.int .i64) (Rp.int .i64)) κ w 0 a0 u0 p0) {r : Int} (h : slices_Index_2_int64_2_int64 p0 p1 = some r) : Ret Tryz.prog 150 [.slice a0 p0.length u0, .agg #[vi p1.1, vi p1.2]] w (fun v w' => ∃ (κ' : Col), v = vi r ∧ Ent κ w κ' w') := by
 unfold slices_Index_2_int64_2_int64 at h
 refine Ret.enter F150 R N150 R ?_
 dsimp only [envOf]
 have hE := Ent.refl κ w
 refine Je [1, 2] R (Jf1 (κ := κ) 2 R R R R R R R fun b3 w1 K2 S3 f4 => ⟨tv, Jb 1 R (Jq (Je [2, 2, 2] R (Jn 1 R (Jf R (Je2 U108 R R) (Jb 1 R ?_)))))⟩)
 have hN5 : (p0.length : Int) ≤ 9223372036854775807 := g0.len_le
 refine Ob h fun q2 hq7 hK6 => ?_
 clear h
 refine Jx1 (fun L w' => ∃ κ', L = [] ∧ Stp [] K2 w1 κ' w' ∧ q2 = Sum.inr ()) ?_ ?_
 refine Jv (Jy1 (fun k L w' => ∃ κ' v8, L = [(0, .slice a0 p0.length u0), (3, .pointer (some ⟨b3, 0, none⟩)), (7, vi (p0.length : Int)), (8, vi v8)] ∧ Stp [] K2 w1 κ' w' ∧ 0 ≤ v8 ∧ Int.toNat ((p0.length : Int) - v8) = k ∧ cntM (slices_Index_2_int64_2_int64_b0 p0 p1) k v8 () = some q2) ⟨_, _, ⟨K2, 0, R, (Jx2 _ _).wk R, (by decide), (by simp), hq7⟩, (KM R)⟩ ?_)
 rintro k _ w11 ⟨K12, v8, rfl, S13, hj5, hJ5, h⟩
 rcases k with _ | k
 have hk14 := h; obtain ⟨o5, h⟩ := ex_eq (Sum.inr (Sum.inl ()) : Int ⊕ ((Unit) ⊕ (Unit)))
 have hc5 : decide (v8 < (p0.length : Int)) = false := Jo2 (by omega)
 refine Je [2] R (Jb 1 R (Jq (Jw2 R hc5 (Jc1 (Jt (Jt ?_))))))
 cases h
 have h := hk14
 refine Jb1 ?_
 cases h
 exact Jw1 _ ⟨K12, R, S13.wk R, R⟩ KN
 obtain ⟨o5, h, hk14⟩ := BI h; unfold slices_Index_2_int64_2_int64_b0 at h
 have hc5 : decide (v8 < (p0.length : Int)) = true := Jn2 (by omega)
 refine Je [2] R (Jb 1 R (Jq (Jv2 R hc5 (Js (Jp (Jq (Jv (Je [2, 2] R (Jb 2 R (Jq (Js1 (κ := K12) [0, 2] none [(1, 2), (2, 2), (3, 2), (0, 0), (4, 0), (5, 2)] [] (by kernel_rfl) (by kernel_rfl) fun w16 S15 => Jn 2 R (Ob h fun x14 hx14 h => Jf R (Jf2 g0 hx14 U108 Z107 R R R R) (Jg R (Jd2 (cs := [vi p1.1, vi p1.2]) I107 Z107 R R R (haC (f4.stp (S13.tr S15) R R).cells R)) ?_)))))))))))))
 obtain ⟨cse19, hre19, hle19⟩ := ((g0.stp (S3.tr (S13.tr S15)) R R)).gSt hx14
 obtain ⟨_, _, rfl, rfl, rfl⟩ := hre19
 refine Jg R (Jd2 (cs := [vi x14.1, vi x14.2]) I107 Z107 R R R (haC hle19 R)) (Jf R (rn_eqlA2 U107 (by kernel_rfl) I2 U2 Z2 R R R) (Jt1 (Jd ?_)))
 revert h
 cases ht20 : ((p1.1 == x14.1) && (p1.2 == x14.2))
 refine JF fun h => Jy R (Js (Jz (Jp (Ja [2, 2] R (Jc 2 R ?_)))))
 have hw5 : IntKind.wrap .i64 (v8 + 1) = v8 + 1 := wr1 hj5 (Jm2 hc5) hN5
 rw [hw5]
 have hc5 := Jm2 hc5
 cases h
 exact Jz1 fun a ha => ⟨k, _, Ja3 _, ⟨K12, v8 + 1, R, (S13.tr S15).wk R, by omega, by omega, hk14⟩, (ha.mm R)⟩
 refine JT fun h => Jx R (Je [2, 2] R (Jb 2 R (Ju (Ja1 (Jw (Jw ?_))))))
 cases h
 obtain rfl := Option.some.inj hk14
 have h := hK6
 dsimp only [aft] at h
 refine Ja1 (Jq2 (Jw (Ja2 (l := [.tmp 4]) V150 (Jp2 R R) R ?_)))
 cases h
 exact ⟨K12, R, (hE.stp (S3.tr (S13.tr S15)) R R)⟩
 rintro _ w8 ⟨K9, rfl, S10, rfl⟩
 have h := hK6
 dsimp only [aft] at h
 refine Jp (Je [2] R (Jb 1 R (Ju (Ja2 (l := [.tmp 4]) V150 (Jp2 R R) R ?_))))
 cases h
 exact ⟨K9, R, (hE.stp (S3.tr S10) R R)⟩
theorem i_loopsIn_2_ok {w : World} {κ : Col} {p0 : Int} {a1 u1} {c0 : (List Int)} {b1} (g1 : Oc E6 2 κ w 2 a1 u1 c0) (gb1 : Bc κ w 3 b1 40 [.slice a1 c0.length u1]) {r : (List Int)} (h : i_loopsIn_2 p0 c0 = some r) : Ret Tryz.prog 153 [vi p0, .pointer (some ⟨b1, 0, none⟩)] w (fun v w' => ∃ (κ' : Col) (ma0 : Option Addr) (mu0 : Nat), v = .tuple #[] ∧ Ent κ w κ' w' ∧ Oc E6 2 κ' w' 2 ma0 mu0 r ∧ Bc κ' w' 3 b1 40 [.slice ma0 r.length mu0]) := by
 unfold i_loopsIn_2 at h
 refine Ret.enter F153 R N153 R ?_
 dsimp only [envOf]
 have hE := Ent.refl κ w
 refine Ja [1, 2, 1, 1, 1] R (Jl tv R R R R (Jc2 I40 R R (hvE (gb1.ld 0 R R))) (Jn 1 R (Jn1 (κ := κ) (E := E6) 4 [] (parts := [(0, .tmp 4)]) (cells := [vi p0]) (xs := ([p0] : List Int)) R R R R R R Y40 Tryzinfo2 R R R R R R R R R R ⟨[vi p0], [], Zl κ w [], Zl κ w [], R, Zl.sp (l1 := []) (l2 := []) R, Zl.sr (l1 := []) (l2 := []), R, R⟩ fun a5 u5 w1 K2 S3 f4 => ⟨tv, Ob h fun x6 hx6 h => Jm1 (κ := K2) (E := E6) 2 [] R R R R R R R R R Y40 Tryzinfo2 R R R R (g1.stp S3 R R) (Sl.srcP (pu_int _) f4.rdc) sy_false hx6 R fun a6 u6 w6 K7 S8 f9 => ⟨tv, Jj1 (κ := K7) 3 (vc := [.slice a6 x6.length u6]) R R R R R R R Z40 R R (gb1.stp (S3.tr S8) R R) R fun w11 S12 f13 => ⟨tv, Jo (DN.end0 V153 ?_)⟩⟩⟩)))
 cases h
 exact ⟨K7, a6, u6, R, (hE.stp (S3.tr (S8.tr S12)) R R), (f9.stp S12 R R), f13⟩
theorem slices_Sort_I_int64_ok {w : World} {κ : Col} {a0 u0} {p0 : (List Int)} (g0 : Oc E6 2 κ w 2 a0 u0 p0) {r : (List Int)} (h : slices_Sort_I_int64 p0 = some r) : Ret Tryz.prog 138 [.slice a0 p0.length u0] w (fun v w' => ∃ (κ' : Col), v = .tuple #[] ∧ Ent κ w κ' w' ∧ Oc E6 2 κ' w' 2 a0 u0 r ∧ p0.length = r.length) := by
  unfold slices_Sort_I_int64 at h
  split at h
  · rename_i hh
    cases h
    exact sort_ok (fun blk off cap zs w hH hb hz => Tryz.slices_Sort_int blk off cap zs w hH hb hz) g0 hh.1 hh.2
  · split at h
    · rename_i hh
      cases h
      exact sort_nil Tryz.slices_Sort_int_none g0 hh
    · cases h
theorem slices_SortFunc_I_I_ok {w : World} {κ : Col} {a0 u0} {p0 : (List (List Int))} (g0 : Oc (Ep.fz (Rp.sl (Rp.int .i64))) 40 κ w 2 a0 u0 p0) {r : (List (List Int))} (h : slices_SortFunc_I_I p0 = some r) : Ret Tryz.prog 155 [.slice a0 p0.length u0, .func (.func 156) #[] #[]] w (fun v w' => ∃ (κ' : Col), v = .tuple #[] ∧ Ent κ w κ' w' ∧ Oc (Ep.fz (Rp.sl (Rp.int .i64))) 40 κ' w' 2 a0 u0 r ∧ p0.length = r.length) := by
  unfold slices_SortFunc_I_I at h
  split at h
  · rename_i hh
    cases h
    exact sortf_ok Tryz.slices_Compare (Tryz.slices_SortFunc_none (α := Nat)) (@fun α _ enc h1 cf hO blk off cap d w hc hh hb hs => Tryz.slices_SortFunc (α := α) enc h1 cf hO 156 #[] blk off cap d w Tryz.call156 hc hh hb hs) g0 hh.1 (fun l hl => by have := List.all_eq_true.1 hh.2 l hl; cases l <;> simp_all)
  · cases h
end Go.Proofs.YtcmamhmpoinmnaaGreat
