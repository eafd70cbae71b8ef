/- The walks, part 0. By program. -/
import Derived.Test.YtcmamhmpoinmnaaGreatFnsMBA
import Derived.Test.YtcmamhmpoinmnaaGreatAlBA
set_option linter.unusedVariables false
set_option linter.unusedSimpArgs false
namespace Go.Proofs.YtcmamhmpoinmnaaGreat
open Go Go.Wk Go.Proofs
set_option maxRecDepth 100000
set_option maxHeartbeats 1000000
theorem l_szInt64S_ok {w : World} {κ : Col} {a0 u0} {p0 : (List Int)} {p1 : Int} (g0 : Rd (Rp.int .i64) κ w 0 a0 u0 p0) {r : Int} (h : l_szInt64S p0 p1 = some r) : Ret Tryz.prog 58 [.slice a0 p0.length u0, vi p1] w (fun v w' => ∃ (κ' : Col), v = vi r ∧ Ent κ w κ' w') := by
 unfold l_szInt64S at h
 refine Ret.enter F58 R N58 R ?_
 dsimp only [envOf]
 have hE := Ent.refl κ w
 refine Je [2] R (Jb 1 R (Je [2, 2, 2, 2, 2] R (Jn 2 R (Jf R (Je2 U40 R R) (Jb 2 R (Jq (Je [2, 2] R (Jb 2 R ?_))))))))
 revert h
 cases ht1 : decide ((IntKind.i64.wrap (p1 - (p0.length : Int))) < 0)
 refine JF fun h => Jy R (Js (Jp (Je [2, 2] R (Jb 2 R (Ju (Ja2 (l := [.tmp 4]) V58 (Jp2 R R) R ?_))))))
 cases h
 exact ⟨κ, R, hE⟩
 refine JT fun h => Jx R (Je [2] R (Jb 1 R (Ju (Jw (Ja2 (l := [.tmp 4]) V58 (Jp2 R R) R ?_)))))
 cases h
 exact ⟨κ, R, hE⟩
theorem l_toSig_ok {w : World} {κ : Col} {p0 : Sig}  {r : Sig} (h : l_toSig p0 = some r) : Ret Tryz.prog 12 [.agg #[vi p0.In, vi p0.Out]] w (fun v w' => ∃ (κ' : Col), v = .agg #[vi r.In, vi r.Out] ∧ Ent κ w κ' w') := by
 unfold l_toSig at h
 refine Ret.enter F12 R N12 R ?_
 dsimp only [envOf]
 have hE := Ent.refl κ w
 refine Je [1, 1] R (Jf1 (κ := κ) 2 R R R R R R R fun b1 w1 K2 S3 f4 => ⟨tv, Jg1 (κ := K2) 3 R R R R R X31 R fun b2 w5 K6 S7 f8 => ⟨tv, Jd (Je [1] R (Jg1 (κ := K6) 4 R R R R R X31 R fun b3 w9 K10 S11 f12 => ⟨tv, Jd (Je [2, 1, 2, 1] R (Jf R (Jb2 U23 R Z2 R R) ?_))⟩))⟩⟩)
 have f13 := f4.stp (S7.tr S11) R R
 refine Jl tv R R R R (Jc2 I2 R R (hvE (f13.ld 0 R R))) (Jf R (Jb2 U31 R Z2 R R) (Ji1 (κ := K10) 4 (off := 0) (vc := [vi p0.In]) (cs' := [vi p0.In, vi 0]) R R R R R R R Z2 R R f12 R R fun w14 S15 f16 => ⟨tv, Jd (Je [2, 1, 2, 1] R (Jf R (Jb2 U23 R Z2 R R) (Jl tv R R R R (Jc2 I2 R R (hvE ((f13.stp S15 R R).ld 1 R R))) (Jf R (Jb2 U31 R Z2 R R) (Ji1 (κ := K10) 4 (off := 1) (vc := [vi p0.Out]) (cs' := [vi p0.In, vi p0.Out]) R R R R R R R Z2 R R f16 R R fun w18 S19 f20 => ⟨tv, Jd (Je [1, 1] R (Jl tv R R R R (Jd2 (cs := [vi p0.In, vi p0.Out]) I31 Z31 R R R (haE f20.cells)) (Jj1 (κ := K10) 3 (vc := [vi p0.In, vi p0.Out]) R R R R R R R Z31 R R (f8.stp (S11.tr (S15.tr S19)) R R) R fun w22 S23 f24 => ⟨tv, Jd (Ju (Ja2 (l := [.cell 2 31]) V12 (res_cellA R f24 I31 Z31 R R) R ?_))⟩)))⟩)))))⟩))
 cases h
 exact ⟨K10, R, (hE.stp (S3.tr (S7.tr (S11.tr (S15.tr (S19.tr S23))))) R R)⟩
theorem l_toInt64S_ok {w : World} {κ : Col} {a0 u0} {p0 : (List Int)} (g0 : Rd (Rp.int .i64) κ w 0 a0 u0 p0) {r : (List Int)} (h : l_toInt64S p0 = some r) : Ret Tryz.prog 68 [.slice a0 p0.length u0] w (fun v w' => ∃ (κ' : Col) (ra0 : Option Addr) (ru0 : Nat), v = .slice ra0 r.length ru0 ∧ Ent κ w κ' w' ∧ Oc E6 2 κ' w' 2 ra0 ru0 r) := by
 unfold l_toInt64S at h
 refine Ret.enter F68 R N68 R ?_
 dsimp only [envOf]
 have hE := Ent.refl κ w
 refine Je [2] R (Jb 1 R (Je [2, 2, 1, 2] R (Jn 1 R (Jf R (Je2 U40 R R) (Ob h fun x7 hx7 h => Jl1 (κ := κ) (E := E6) (z := (0 : Int)) 2 R R R R R R R Y40 Tryzinfo2 R R R R R (fun _ _ _ => R) (Ju2 hx7) fun a7 u7 w1 K2 S3 f4 => ⟨tv, Jb 1 R (Jq (Je [2] R (Jb 1 R ?_)))⟩)))))
 have hN5 : (p0.length : Int) ≤ 9223372036854775807 := g0.len_le
 refine Ob h fun q2 hq7 hK6 => ?_
 clear h
 refine Jx1 (fun L w' => ∃ κ', ∃ s3 : (List Int), L = [(3, .slice a7 x7.length u7)] ∧ Stp [2] K2 w1 κ' w' ∧ Oc E6 2 κ' w' 2 a7 u7 s3 ∧ x7.length = s3.length ∧ q2 = Sum.inr s3) ?_ ?_
 refine Jv (Jy1 (fun k L w' => ∃ κ' v4, ∃ s1 : (List Int), L = [(0, .slice a0 p0.length u0), (3, .slice a7 x7.length u7), (4, vi v4)] ∧ Stp [2] K2 w1 κ' w' ∧ Oc E6 2 κ' w' 2 a7 u7 s1 ∧ x7.length = s1.length ∧ 0 ≤ v4 ∧ Int.toNat ((p0.length : Int) - v4) = k ∧ cntM (l_toInt64S_b0 p0) k v4 s1 = some q2) ⟨_, _, ⟨K2, 0, (x7 : (List Int)), R, (Jx2 _ _).wk R, f4, R, (by decide), (by simp), hq7⟩, (KM R)⟩ ?_)
 rintro k _ w13 ⟨K14, v4, s1, rfl, S15, f16, hn17, hj5, hJ5, h⟩
 rcases k with _ | k
 have hk18 := h; obtain ⟨o5, h⟩ := ex_eq (Sum.inr (Sum.inl s1) : (List Int) ⊕ (((List Int)) ⊕ ((List Int))))
 have hc5 : decide (v4 < (p0.length : Int)) = false := Jo2 (by omega)
 refine Jq (Je [2, 2, 2, 2] R (Jn 2 R (Jf R (Je2 U40 R R) (Jb 1 R (Jw2 R hc5 (Jc1 (Jt (Jt ?_))))))))
 cases h
 have h := hk18
 refine Jb1 ?_
 cases h
 exact Jw1 _ ⟨K14, (s1 : (List Int)), R, S15.wk R, f16, hn17, R⟩ (KM R)
 obtain ⟨o5, h, hk18⟩ := BI h; unfold l_toInt64S_b0 at h
 have hc5 : decide (v4 < (p0.length : Int)) = true := Jn2 (by omega)
 refine Jq (Je [2, 2, 2, 2] R (Jn 2 R (Jf R (Je2 U40 R R) (Jb 1 R (Jv2 R hc5 (Js (Jp (Jq (Jv (Ja [2, 2, 2, 2, 2, 1, 2, 1] R (Jn 4 R (Ob h fun x18 hx18 h => Jf R (Jf2 g0 hx18 U40 Z2 R R R R) (Jl tv R R R R (Jc2 I2 R R (hvE ((g0.stp (S3.tr S15) R R).gInt hx18))) (Ob h fun x20 hx20 h => Jf R (Jf2 f16.rdc hx20 U40 Z2 R R hn17 R) (Ob h fun y12 hy12 h => Jk1 (κ := K14) (E := E6) 2 [] R R R R R R R R Z2 R R R R f16 hy12 fun w20 K21 S22 f23 => ⟨tv, ?_⟩)))))))))))))))
 have hn24 : x7.length = y12.length := hn17.trans (Jt2 hy12).2.2.2.symm
 refine Jo (Jz (Jp (Ja [2, 2, 2] R (Jc 3 R ?_))))
 have hw5 : IntKind.wrap .i64 (v4 + 1) = v4 + 1 := wr1 hj5 (Jm2 hc5) hN5
 rw [hw5]
 have hc5 := Jm2 hc5
 cases h
 exact Jz1 fun a ha => ⟨k, _, Ja3 _, ⟨K21, v4 + 1, (y12 : (List Int)), R, (S15.tr S22).wk R, f23, hn24, by omega, by omega, hk18⟩, (ha.mm R)⟩
 rintro _ w8 ⟨K9, s3, rfl, S10, f11, hn12, rfl⟩
 have h := hK6
 dsimp only [aft] at h
 refine Jp (Je [2, 2] R (Jb 2 R (Ju (Ja2 (l := [.tmp 2]) V68 (Jp2 R R) R ?_))))
 cases h
 exact ⟨K9, a7, u7, (by simp only [hn12]), (hE.stp (S3.tr S10) R R), f11⟩
theorem s_l1In_ok {w : World} {κ : Col} {p0 : Int} {p1 : Int} {p2 : Int}  {r : Bool} (h : s_l1In p0 p1 p2 = some r) : Ret Tryz.prog 77 [vi p0, vi p1, vi p2] w (fun v w' => ∃ (κ' : Col), v = .bool r ∧ Ent κ w κ' w') := by
 unfold s_l1In at h
 refine Ret.enter F77 R N77 R ?_
 dsimp only [envOf]
 have hE := Ent.refl κ w
 refine Je [2] R (Jb 1 R (Je [2, 2, 2, 2, 2, 2, 2, 2, 2] R (Jn 4 R (Ob h fun p14 h hK1 => Ju1 [(4, 2), (5, 2), (6, 2), (7, 2)] [(8, 2)] (fun L w' => L = [(6, .bool false), (14, .bool p14)] ∧ ∃ κ', Stp [] κ w κ' w') tv ?_ ?_))))
 revert h
 cases ht2 : decide (p1 ≤ p0)
 refine JF fun h => Jn 4 R ?_
 cases h
 exact Jv1 _ tv ⟨R, _, (Jx2 _ _).wk R⟩ (KM R)
 refine JT fun h => Jn 4 R ?_
 cases h
 exact Jv1 _ tv ⟨R, _, (Jx2 _ _).wk R⟩ (KM R)
 rintro _ w3 _ ⟨rfl, K4, S5⟩
 have h := hK1
 refine Jb 1 R (Ju (Ja2 (l := [.tmp 6]) V77 (Jp2 R R) R ?_))
 cases h
 exact ⟨K4, R, (hE.stp S5 R R)⟩
theorem s_l23Power_ok {w : World} {κ : Col} {p0 : Int}  {r : Int} (h : s_l23Power p0 = some r) : Ret Tryz.prog 93 [vi p0] w (fun v w' => ∃ (κ' : Col), v = vi r ∧ Ent κ w κ' w') := by
 unfold s_l23Power at h
 refine Ret.enter F93 R N93 R ?_
 dsimp only [envOf]
 have hE := Ent.refl κ w
 refine Je [2] R (Jb 1 R (Je [2] R (Jb 1 R (Jq (Ob h fun q2 hq3 hK2 => ?_)))))
 clear h
 refine Jx1 (fun L w' => ∃ κ', ∃ s3 : Int × Int, L = [(3, vi s3.2)] ∧ Stp [] κ w κ' w' ∧ q2 = Sum.inr s3) ?_ ?_
 refine Jv (Jy1 (fun k L w' => ∃ κ', ∃ s1 : Int × Int, L = [(0, vi s1.1), (3, vi s1.2)] ∧ Stp [] κ w κ' w' ∧ whileM s_l23Power_b0 k s1 = some q2) ⟨_, _, ⟨κ, ((p0 : Int), (1 : Int)), R, (Jx2 _ _).wk R, hq3⟩, (KM R)⟩ ?_)
 rintro k _ w7 ⟨K8, s1, rfl, S9, h⟩
 rcases k with _ | k
 cases h
 obtain ⟨o1, h, hk10⟩ := BI h; unfold s_l23Power_b0 at h
 refine Jq (Je [2, 2] R (Jb 2 R ?_))
 revert h
 cases ht11 : decide (0 < s1.1)
 refine JF fun h => Jy R (Jc1 (Jt (Jt ?_)))
 cases h
 have h := hk10
 refine Jb1 ?_
 cases h
 exact Jw1 _ ⟨K8, ((s1.1 : Int), (s1.2 : Int)), R, S9.wk R, R⟩ (KM R)
 refine JT fun h => Jx R (Js (Jp (Jq (Jv (Ja [2, 2, 2] R (Jc 3 R (Jz (Jp (Ja [2, 2, 2] R (Jc 3 R ?_))))))))))
 cases h
 exact Jz1 fun a ha => ⟨k, _, Ja3 _, ⟨K8, (((IntKind.i64.wrap (s1.1 - 1)) : Int), ((IntKind.i64.wrap (s1.2 * 2)) : Int)), R, S9.wk R, hk10⟩, (ha.mm R)⟩
 rintro _ w4 ⟨K5, s3, rfl, S6, rfl⟩
 have h := hK2
 dsimp only [aft] at h
 refine Jp (Je [2, 2] R (Jb 2 R (Ju (Ja2 (l := [.tmp 2]) V93 (Jp2 R R) R ?_))))
 cases h
 exact ⟨K5, R, (hE.stp S6 R R)⟩
theorem s_l24Both_ok {w : World} {κ : Col} {p0 : Int}  {r : Bool} (h : s_l24Both p0 = some r) : Ret Tryz.prog 133 [vi p0] w (fun v w' => ∃ (κ' : Col), v = .bool r ∧ Ent κ w κ' w') := by
 unfold s_l24Both at h
 refine Ret.enter F133 R N133 R ?_
 dsimp only [envOf]
 have hE := Ent.refl κ w
 refine Je [2] R (Jb 1 R (Je [2, 2, 2, 2, 2, 2, 2, 2, 2, 2, 2] R (Jn 3 R (Ob h fun p8 h hK1 => Ju1 [(3, 2), (4, 2), (5, 2)] [(6, 2), (7, 2), (8, 2), (9, 2), (10, 2)] (fun L w' => L = [(0, vi p0), (2, .bool false), (8, .bool p8)] ∧ ∃ κ', Stp [] κ w κ' w') tv ?_ ?_))))
 revert h
 cases ht2 : (p0 == 2)
 refine JF fun h => Jn 3 R ?_
 cases h
 exact Jv1 _ tv ⟨R, _, (Jx2 _ _).wk R⟩ (KM R)
 refine JT fun h => Jn 3 R ?_
 cases h
 exact Jv1 _ tv ⟨R, _, (Jx2 _ _).wk R⟩ (KM R)
 rintro _ w3 _ ⟨rfl, K4, S5⟩
 have h := hK1
 refine Jn 1 R (Ob h fun p12 h hK6 => Ju1 [(7, 2), (8, 2), (9, 2)] [(10, 2)] (fun L w' => L = [(2, .bool false), (12, .bool p12)] ∧ ∃ κ', Stp [] K4 w3 κ' w') tv ?_ ?_)
 revert h
 cases ht7 : p8
 refine JF fun h => Jn 3 R ?_
 cases h
 exact Jv1 _ tv ⟨R, _, (Jx2 _ _).wk R⟩ (KM R)
 refine JT fun h => Jn 3 R ?_
 cases h
 exact Jv1 _ tv ⟨R, _, (Jx2 _ _).wk R⟩ (KM R)
 rintro _ w8 _ ⟨rfl, K9, S10⟩
 have h := hK6
 refine Jb 1 R (Ju (Ja2 (l := [.tmp 2]) V133 (Jp2 R R) R ?_))
 cases h
 exact ⟨K9, R, (hE.stp (S5.tr S10) R R)⟩
theorem s_l25Pair_ok {w : World} {κ : Col} {p0 : Int}  {r : Pair} (h : s_l25Pair p0 = some r) : Ret Tryz.prog 140 [vi p0] w (fun v w' => ∃ (κ' : Col) (ra0 : Option Addr) (ru0 : Nat) (ra1 : Option Addr) (ru1 : Nat), v = .agg #[.slice ra0 r.Ask.length ru0, .slice ra1 r.Give.length ru1] ∧ Ent κ w κ' w' ∧ Oc E6 2 κ' w' 2 ra0 ru0 r.Ask ∧ Oc E6 2 κ' w' 3 ra1 ru1 r.Give) := by
 unfold s_l25Pair at h
 refine Ret.enter F140 R N140 R ?_
 dsimp only [envOf]
 have hE := Ent.refl κ w
 refine Je [1] R (Jg1 (κ := κ) 2 R R R R R X92 R fun b2 w1 K2 S3 f4 => ⟨tv, Jd (Jq (Je [2] R (Jb 1 R (Jv (Jq (Je [2, 2] R (Jb 2 R (Ob h fun q1 h hK5 => Jx1 (fun L w' => ∃ κ', L = [(2, .pointer (some ⟨b2, 0, none⟩)), (3, vi p0), (4, .bool q1)] ∧ Stp [] K2 w1 κ' w') ?_ ?_))))))))⟩)
 revert h
 cases ht9 : (p0 == 1)
 refine JF fun h => Jy R (Ja [2, 2] R (Jc 2 R ?_))
 cases h
 exact Jw1 _ ⟨K2, R, (Jx2 _ _).wk R⟩ (KM R)
 refine JT fun h => Jx R (Js ?_)
 cases h
 exact Jw1 _ ⟨K2, R, (Jx2 _ _).wk R⟩ (KM R)
 rintro _ w6 ⟨K7, rfl, S8⟩
 have h := hK5
 refine Jp ?_
 revert h
 cases ht10 : q1
 refine JF fun h => Jy R (Je [2, 2] R (Jb 2 R ?_))
 revert h
 cases ht21 : (p0 == 2)
 refine JF fun h => Jy R (Je [2, 2] R (Jb 2 R ?_))
 revert h
 cases ht32 : (p0 == 3)
 refine JF fun h => Jy R (Je [2, 2] R (Jb 2 R ?_))
 revert h
 cases ht48 : (p0 == 4)
 refine JF fun h => Jy R (Je [2, 2] R (Jb 2 R ?_))
 revert h
 cases ht64 : (p0 == 6)
 refine JF fun h => Jy R (Js (Jz (Jp (Je [1, 1, 2, 1] R (Jn1 (κ := K7) (E := E6) 3 [] (parts := [(0, .const (vi 2)), (1, .const (vi 3))]) (cells := [vi 2, vi 3]) (xs := ([2, 3] : List Int)) R R R R R R Y40 Tryzinfo2 R R R R R R R R R R ⟨[vi 2], [vi 3], Zl K7 w6 [], Zl K7 w6 [], R, Zl.sp (l1 := []) (l2 := []) R, Zl.sr (l1 := []) (l2 := []), R, ⟨[vi 3], [], Zl K7 w6 [], Zl K7 w6 [], R, Zl.sp (l1 := []) (l2 := []) R, Zl.sr (l1 := []) (l2 := []), R, R⟩⟩ fun aa ac w75 K76 S77 f78 => ⟨tv, Jn1 (κ := K76) (E := E6) 4 [] (parts := [(0, .const (vi 1)), (1, .const (vi 3))]) (cells := [vi 1, vi 3]) (xs := ([1, 3] : List Int)) R R R R R R Y40 Tryzinfo2 R R R R R R R R R R ⟨[vi 1], [vi 3], Zl K76 w75 [], Zl K76 w75 [], R, Zl.sp (l1 := []) (l2 := []) R, Zl.sr (l1 := []) (l2 := []), R, ⟨[vi 3], [], Zl K76 w75 [], Zl K76 w75 [], R, Zl.sp (l1 := []) (l2 := []) R, Zl.sr (l1 := []) (l2 := []), R, R⟩⟩ fun ai ab w79 K80 S81 f82 => ⟨tv, Jf R (rn_build (parts := [(0, .tmp 27), (1, .tmp 28)]) (cells := [.slice aa ([2, 3] : List Int).length ac, .slice ai ([1, 3] : List Int).length ab]) R R (by kernel_rfl)) (Jj1 (κ := K80) 2 (vc := [.slice aa ([2, 3] : List Int).length ac, .slice ai ([1, 3] : List Int).length ab]) R R R R R R R Z92 R R (f4.stp (S8.tr (S77.tr S81)) R R) R fun w84 S85 f86 => ⟨tv, Jd (Ju (Ja2 (l := [.cell 2 92]) V140 (res_cellA R f86 I92 Z92 R R) R ?_))⟩)⟩⟩)))))
 cases h
 exact ⟨(fun b => ren [(3, 2), (4, 3)] (K80 b)), aa, ac, ai, ab, R, ((hE.stp (S3.tr (S8.tr (S77.tr (S81.tr S85)))) R R).map (ren [(3, 2), (4, 3)]) R R), ((f78.stp (S81.tr S85) R R).map (ren [(3, 2), (4, 3)]) R R), ((f82.stp S85 R R).map (ren [(3, 2), (4, 3)]) R R)⟩
 refine JT fun h => Jx R (Je [1, 2, 1] R (Jn1 (κ := K7) (E := E6) 3 [] (parts := [(0, .const (vi 0))]) (cells := [vi 0]) (xs := ([0] : List Int)) R R R R R R Y40 Tryzinfo2 R R R R R R R R R R ⟨[vi 0], [], Zl K7 w6 [], Zl K7 w6 [], R, Zl.sp (l1 := []) (l2 := []) R, Zl.sr (l1 := []) (l2 := []), R, R⟩ fun af ap w65 K66 S67 f68 => ⟨tv, Jf R (rn_build (parts := [(0, .tmp 25)]) (cells := [.slice af ([0] : List Int).length ap, .slice none 0 0]) R R (by kernel_rfl)) (Jj1 (κ := K66) 2 (vc := [.slice af ([0] : List Int).length ap, .slice none 0 0]) R R R R R R R Z92 R R (f4.stp (S8.tr S67) R R) R fun w70 S71 f72 => ⟨tv, Jd (Ju (Ja1 (Jw (Ja2 (l := [.cell 2 92]) V140 (res_cellA R f72 I92 Z92 R R) R ?_))))⟩)⟩))
 cases h
 exact ⟨(fun b => ren [(3, 2)] (K66 b)), af, ap, none, 0, R, ((hE.stp (S3.tr (S8.tr (S67.tr S71))) R R).map (ren [(3, 2)]) R R), ((f68.stp S71 R R).map (ren [(3, 2)]) R R), Ow.nil⟩
 refine JT fun h => Jx R (Je [1, 1, 2, 1] R (Jn1 (κ := K7) (E := E6) 3 [] (parts := [(0, .const (vi 0)), (1, .const (vi 1))]) (cells := [vi 0, vi 1]) (xs := ([0, 1] : List Int)) R R R R R R Y40 Tryzinfo2 R R R R R R R R R R ⟨[vi 0], [vi 1], Zl K7 w6 [], Zl K7 w6 [], R, Zl.sp (l1 := []) (l2 := []) R, Zl.sr (l1 := []) (l2 := []), R, ⟨[vi 1], [], Zl K7 w6 [], Zl K7 w6 [], R, Zl.sp (l1 := []) (l2 := []) R, Zl.sr (l1 := []) (l2 := []), R, R⟩⟩ fun ad aq w49 K50 S51 f52 => ⟨tv, Jn1 (κ := K50) (E := E6) 4 [] (parts := [(0, .const (vi 1))]) (cells := [vi 1]) (xs := ([1] : List Int)) R R R R R R Y40 Tryzinfo2 R R R R R R R R R R ⟨[vi 1], [], Zl K50 w49 [], Zl K50 w49 [], R, Zl.sp (l1 := []) (l2 := []) R, Zl.sr (l1 := []) (l2 := []), R, R⟩ fun ak ao w53 K54 S55 f56 => ⟨tv, Jf R (rn_build (parts := [(0, .tmp 20), (1, .tmp 21)]) (cells := [.slice ad ([0, 1] : List Int).length aq, .slice ak ([1] : List Int).length ao]) R R (by kernel_rfl)) (Jj1 (κ := K54) 2 (vc := [.slice ad ([0, 1] : List Int).length aq, .slice ak ([1] : List Int).length ao]) R R R R R R R Z92 R R (f4.stp (S8.tr (S51.tr S55)) R R) R fun w58 S59 f60 => ⟨tv, Jd (Ju (Ja1 (Jw (Ja2 (l := [.cell 2 92]) V140 (res_cellA R f60 I92 Z92 R R) R ?_))))⟩)⟩⟩))
 cases h
 exact ⟨(fun b => ren [(3, 2), (4, 3)] (K54 b)), ad, aq, ak, ao, R, ((hE.stp (S3.tr (S8.tr (S51.tr (S55.tr S59)))) R R).map (ren [(3, 2), (4, 3)]) R R), ((f52.stp (S55.tr S59) R R).map (ren [(3, 2), (4, 3)]) R R), ((f56.stp S59 R R).map (ren [(3, 2), (4, 3)]) R R)⟩
 refine JT fun h => Jx R (Je [1, 1, 2, 1] R (Jn1 (κ := K7) (E := E6) 3 [] (parts := [(0, .const (vi 1))]) (cells := [vi 1]) (xs := ([1] : List Int)) R R R R R R Y40 Tryzinfo2 R R R R R R R R R R ⟨[vi 1], [], Zl K7 w6 [], Zl K7 w6 [], R, Zl.sp (l1 := []) (l2 := []) R, Zl.sr (l1 := []) (l2 := []), R, R⟩ fun aj ah w33 K34 S35 f36 => ⟨tv, Jn1 (κ := K34) (E := E6) 4 [] (parts := [(0, .const (vi 0))]) (cells := [vi 0]) (xs := ([0] : List Int)) R R R R R R Y40 Tryzinfo2 R R R R R R R R R R ⟨[vi 0], [], Zl K34 w33 [], Zl K34 w33 [], R, Zl.sp (l1 := []) (l2 := []) R, Zl.sr (l1 := []) (l2 := []), R, R⟩ fun al an w37 K38 S39 f40 => ⟨tv, Jf R (rn_build (parts := [(0, .tmp 15), (1, .tmp 16)]) (cells := [.slice aj ([1] : List Int).length ah, .slice al ([0] : List Int).length an]) R R (by kernel_rfl)) (Jj1 (κ := K38) 2 (vc := [.slice aj ([1] : List Int).length ah, .slice al ([0] : List Int).length an]) R R R R R R R Z92 R R (f4.stp (S8.tr (S35.tr S39)) R R) R fun w42 S43 f44 => ⟨tv, Jd (Ju (Ja1 (Jw (Ja2 (l := [.cell 2 92]) V140 (res_cellA R f44 I92 Z92 R R) R ?_))))⟩)⟩⟩))
 cases h
 exact ⟨(fun b => ren [(3, 2), (4, 3)] (K38 b)), aj, ah, al, an, R, ((hE.stp (S3.tr (S8.tr (S35.tr (S39.tr S43)))) R R).map (ren [(3, 2), (4, 3)]) R R), ((f36.stp (S39.tr S43) R R).map (ren [(3, 2), (4, 3)]) R R), ((f40.stp S43 R R).map (ren [(3, 2), (4, 3)]) R R)⟩
 refine JT fun h => Jx R (Je [1, 2, 1] R (Jn1 (κ := K7) (E := E6) 3 [] (parts := [(0, .const (vi 2))]) (cells := [vi 2]) (xs := ([2] : List Int)) R R R R R R Y40 Tryzinfo2 R R R R R R R R R R ⟨[vi 2], [], Zl K7 w6 [], Zl K7 w6 [], R, Zl.sp (l1 := []) (l2 := []) R, Zl.sr (l1 := []) (l2 := []), R, R⟩ fun am ae w22 K23 S24 f25 => ⟨tv, Jf R (rn_build (parts := [(0, .tmp 11)]) (cells := [.slice am ([2] : List Int).length ae, .slice none 0 0]) R R (by kernel_rfl)) (Jj1 (κ := K23) 2 (vc := [.slice am ([2] : List Int).length ae, .slice none 0 0]) R R R R R R R Z92 R R (f4.stp (S8.tr S24) R R) R fun w27 S28 f29 => ⟨tv, Jd (Ju (Ja1 (Jw (Ja2 (l := [.cell 2 92]) V140 (res_cellA R f29 I92 Z92 R R) R ?_))))⟩)⟩))
 cases h
 exact ⟨(fun b => ren [(3, 2)] (K23 b)), am, ae, none, 0, R, ((hE.stp (S3.tr (S8.tr (S24.tr S28))) R R).map (ren [(3, 2)]) R R), ((f25.stp S28 R R).map (ren [(3, 2)]) R R), Ow.nil⟩
 refine JT fun h => Jx R (Je [1, 2, 1] R (Jn1 (κ := K7) (E := E6) 3 [] (parts := [(0, .const (vi 1))]) (cells := [vi 1]) (xs := ([1] : List Int)) R R R R R R Y40 Tryzinfo2 R R R R R R R R R R ⟨[vi 1], [], Zl K7 w6 [], Zl K7 w6 [], R, Zl.sp (l1 := []) (l2 := []) R, Zl.sr (l1 := []) (l2 := []), R, R⟩ fun a7 u7 w11 K12 S13 f14 => ⟨tv, Jf R (rn_build (parts := [(0, .tmp 7)]) (cells := [.slice a7 ([1] : List Int).length u7, .slice none 0 0]) R R (by kernel_rfl)) (Jj1 (κ := K12) 2 (vc := [.slice a7 ([1] : List Int).length u7, .slice none 0 0]) R R R R R R R Z92 R R (f4.stp (S8.tr S13) R R) R fun w16 S17 f18 => ⟨tv, Jd (Ju (Ja1 (Jw (Ja2 (l := [.cell 2 92]) V140 (res_cellA R f18 I92 Z92 R R) R ?_))))⟩)⟩))
 cases h
 exact ⟨(fun b => ren [(3, 2)] (K12 b)), a7, u7, none, 0, R, ((hE.stp (S3.tr (S8.tr (S13.tr S17))) R R).map (ren [(3, 2)]) R R), ((f14.stp S17 R R).map (ren [(3, 2)]) R R), Ow.nil⟩
theorem s_l25States_ok {w : World} {κ : Col} {p0 : Int}  {r : Int} (h : s_l25States p0 = some r) : Ret Tryz.prog 141 [vi p0] w (fun v w' => ∃ (κ' : Col), v = vi r ∧ Ent κ w κ' w') := by
 unfold s_l25States at h
 refine Ret.enter F141 R N141 R ?_
 dsimp only [envOf]
 have hE := Ent.refl κ w
 refine Je [2] R (Jb 1 R (Jq (Je [2] R (Jb 1 R (Jv (Je [2, 2] R (Jb 2 R ?_)))))))
 revert h
 cases ht1 : (p0 == 2)
 refine JF fun h => Jy R (Je [2, 2] R (Jb 2 R ?_))
 revert h
 cases ht2 : (p0 == 7)
 refine JF fun h => Jy R (Js (Jz (Jp (Je [2] R (Jb 1 R (Ju (Ja2 (l := [.tmp 2]) V141 (Jp2 R R) R ?_)))))))
 cases h
 exact ⟨κ, R, hE⟩
 refine JT fun h => Jx R (Je [2] R (Jb 1 R (Ju (Ja1 (Jw (Ja2 (l := [.tmp 2]) V141 (Jp2 R R) R ?_))))))
 cases h
 exact ⟨κ, R, hE⟩
 refine JT fun h => Jx R (Je [2] R (Jb 1 R (Ju (Ja1 (Jw (Ja2 (l := [.tmp 2]) V141 (Jp2 R R) R ?_))))))
 cases h
 exact ⟨κ, R, hE⟩
theorem s_l1Has_ok {w : World} {κ : Col} {a0 u0} {p0 : (List Int)} {p1 : Int} (g0 : Rd (Rp.int .i64) κ w 0 a0 u0 p0) {r : Bool} (h : s_l1Has p0 p1 = some r) : Ret Tryz.prog 117 [.slice a0 p0.length u0, vi p1] w (fun v w' => ∃ (κ' : Col), v = .bool r ∧ Ent κ w κ' w') := by
 unfold s_l1Has at h
 refine Ret.enter F117 R N117 R ?_
 dsimp only [envOf]
 have hE := Ent.refl κ w
 refine Je [2] R (Jb 1 R (Jq (Je [2] R (Jb 1 R ?_))))
 have hN1 : (p0.length : Int) ≤ 9223372036854775807 := g0.len_le
 refine Ob h fun q2 hq3 hK2 => ?_
 clear h
 refine Jx1 (fun L w' => ∃ κ', L = [] ∧ Stp [] κ w κ' w' ∧ q2 = Sum.inr ()) ?_ ?_
 refine Jv (Jy1 (fun k L w' => ∃ κ' v5, L = [(0, .slice a0 p0.length u0), (1, vi p1), (5, vi v5)] ∧ Stp [] κ w κ' w' ∧ 0 ≤ v5 ∧ Int.toNat ((p0.length : Int) - v5) = k ∧ cntM (s_l1Has_b0 p0 p1) k v5 () = some q2) ⟨_, _, ⟨κ, 0, R, (Jx2 _ _).wk R, (by decide), (by simp), hq3⟩, (KM R)⟩ ?_)
 rintro k _ w7 ⟨K8, v5, rfl, S9, hj1, hJ1, h⟩
 rcases k with _ | k
 have hk10 := h; obtain ⟨o1, h⟩ := ex_eq (Sum.inr (Sum.inl ()) : Bool ⊕ ((Unit) ⊕ (Unit)))
 have hc1 : decide (v5 < (p0.length : Int)) = false := Jo2 (by omega)
 refine Jq (Je [2, 2, 2, 2] R (Jn 2 R (Jf R (Je2 U40 R R) (Jb 1 R (Jw2 R hc1 (Jc1 (Jt (Jt ?_))))))))
 cases h
 have h := hk10
 refine Jb1 ?_
 cases h
 exact Jw1 _ ⟨K8, R, S9.wk R, R⟩ KN
 obtain ⟨o1, h, hk10⟩ := BI h; unfold s_l1Has_b0 at h
 have hc1 : decide (v5 < (p0.length : Int)) = true := Jn2 (by omega)
 refine Jq (Je [2, 2, 2, 2] R (Jn 2 R (Jf R (Je2 U40 R R) (Jb 1 R (Jv2 R hc1 (Js (Jp (Jq (Jv (Je [2, 2, 2, 1, 2, 2] R (Jn 2 R (Ob h fun x14 hx14 h => Jf R (Jf2 g0 hx14 U40 Z2 R R R R) (Jl tv R R R R (Jc2 I2 R R (hvE ((g0.stp S9 R R).gInt hx14))) (Jb 2 R ?_))))))))))))))
 revert h
 cases ht12 : (x14 == p1)
 refine JF fun h => Jy R (Js (Jz (Jp (Ja [2, 2, 2] R (Jc 3 R ?_)))))
 have hw1 : IntKind.wrap .i64 (v5 + 1) = v5 + 1 := wr1 hj1 (Jm2 hc1) hN1
 rw [hw1]
 have hc1 := Jm2 hc1
 cases h
 exact Jz1 fun a ha => ⟨k, _, Ja3 _, ⟨K8, v5 + 1, R, S9.wk R, by omega, by omega, hk10⟩, (ha.mm R)⟩
 refine JT fun h => Jx R (Je [2] R (Jb 1 R (Ju (Ja1 (Jw (Jw ?_))))))
 cases h
 obtain rfl := Option.some.inj hk10
 have h := hK2
 dsimp only [aft] at h
 refine Ja1 (Jq2 (Jw (Ja2 (l := [.tmp 4]) V117 (Jp2 R R) R ?_)))
 cases h
 exact ⟨K8, R, (hE.stp S9 R R)⟩
 rintro _ w4 ⟨K5, rfl, S6, rfl⟩
 have h := hK2
 dsimp only [aft] at h
 refine Jp (Je [2] R (Jb 1 R (Ju (Ja2 (l := [.tmp 4]) V117 (Jp2 R R) R ?_))))
 cases h
 exact ⟨K5, R, (hE.stp S6 R R)⟩
theorem s_l1Flag_ok {w : World} {κ : Col} {p0 : Bool}  {r : Int} (h : s_l1Flag p0 = some r) : Ret Tryz.prog 167 [.bool p0] w (fun v w' => ∃ (κ' : Col), v = vi r ∧ Ent κ w κ' w') := by
 unfold s_l1Flag at h
 refine Ret.enter F167 R N167 R ?_
 dsimp only [envOf]
 have hE := Ent.refl κ w
 refine Je [2] R (Jb 1 R (Jq (Je [2] R (Jb 1 R ?_))))
 revert h
 cases ht1 : p0
 refine JF fun h => Jy R (Js (Jp (Je [2] R (Jb 1 R (Ju (Ja2 (l := [.tmp 2]) V167 (Jp2 R R) R ?_))))))
 cases h
 exact ⟨κ, R, hE⟩
 refine JT fun h => Jx R (Je [2] R (Jb 1 R (Ju (Jw (Ja2 (l := [.tmp 2]) V167 (Jp2 R R) R ?_)))))
 cases h
 exact ⟨κ, R, hE⟩
theorem s_l1Max_ok {w : World} {κ : Col} {p0 : Int} {p1 : Int}  {r : Int} (h : s_l1Max p0 p1 = some r) : Ret Tryz.prog 95 [vi p0, vi p1] w (fun v w' => ∃ (κ' : Col), v = vi r ∧ Ent κ w κ' w') := by
 unfold s_l1Max at h
 refine Ret.enter F95 R N95 R ?_
 dsimp only [envOf]
 have hE := Ent.refl κ w
 refine Je [2] R (Jb 1 R (Jq (Je [2, 2, 2] R (Jb 3 R ?_))))
 revert h
 cases ht1 : decide (p1 < p0)
 refine JF fun h => Jy R (Js (Jp (Je [2, 2] R (Jb 2 R (Ju (Ja2 (l := [.tmp 4]) V95 (Jp2 R R) R ?_))))))
 cases h
 exact ⟨κ, R, hE⟩
 refine JT fun h => Jx R (Je [2, 2] R (Jb 2 R (Ju (Jw (Ja2 (l := [.tmp 4]) V95 (Jp2 R R) R ?_)))))
 cases h
 exact ⟨κ, R, hE⟩
theorem s_l26Place_ok {w : World} {κ : Col} {a0 u0} {p0 : (List (List Int))} {p1 : Int} {p2 : Int} (g0 : Rd (Rp.sl (Rp.int .i64)) κ w 0 a0 u0 p0) {r : Int} (h : s_l26Place p0 p1 p2 = some r) : Ret Tryz.prog 63 [.slice a0 p0.length u0, vi p1, vi p2] w (fun v w' => ∃ (κ' : Col), v = vi r ∧ Ent κ w κ' w') := by
 unfold s_l26Place at h
 refine Ret.enter F63 R N63 R ?_
 dsimp only [envOf]
 have hE := Ent.refl κ w
 refine Je [2] R (Jb 1 R (Jq (Je [2] R (Jb 1 R ?_))))
 have hN1 : (p0.length : Int) ≤ 9223372036854775807 := g0.len_le
 refine Ob h fun q2 hq3 hK2 => ?_
 clear h
 refine Jx1 (fun L w' => ∃ κ', L = [] ∧ Stp [] κ w κ' w' ∧ q2 = Sum.inr ()) ?_ ?_
 refine Jv (Jy1 (fun k L w' => ∃ κ' v7, L = [(0, .slice a0 p0.length u0), (1, vi p1), (2, vi p2), (7, vi v7)] ∧ Stp [] κ w κ' w' ∧ 0 ≤ v7 ∧ Int.toNat ((p0.length : Int) - v7) = k ∧ cntM (s_l26Place_b0 p0 p1 p2) k v7 () = some q2) ⟨_, _, ⟨κ, 0, R, (Jx2 _ _).wk R, (by decide), (by simp), hq3⟩, (KM R)⟩ ?_)
 rintro k _ w7 ⟨K8, v7, rfl, S9, hj1, hJ1, h⟩
 rcases k with _ | k
 have hk10 := h; obtain ⟨o1, h⟩ := ex_eq (Sum.inr (Sum.inl ()) : Int ⊕ ((Unit) ⊕ (Unit)))
 have hc1 : decide (v7 < (p0.length : Int)) = false := Jo2 (by omega)
 refine Jq (Je [2, 2, 2, 2] R (Jn 2 R (Jf R (Je2 U24 R R) (Jb 1 R (Jw2 R hc1 (Jc1 (Jt (Jt ?_))))))))
 cases h
 have h := hk10
 refine Jb1 ?_
 cases h
 exact Jw1 _ ⟨K8, R, S9.wk R, R⟩ KN
 obtain ⟨o1, h, hk10⟩ := BI h; unfold s_l26Place_b0 at h
 have hc1 : decide (v7 < (p0.length : Int)) = true := Jn2 (by omega)
 refine Jq (Je [2, 2, 2, 2] R (Jn 2 R (Jf R (Je2 U24 R R) (Jb 1 R (Jv2 R hc1 (Js (Jp (Jq (Jv (Je [2, 2, 2, 1, 2, 1, 2, 2, 2, 2, 2, 2, 1, 2, 1, 2, 2, 2] R (Jn 2 R (Ob h fun x16 hx16 h => Jf R (Jf2 g0 hx16 U24 Z40 R R R R) ?_))))))))))))
 have f11 := g0.stp S9 R R
 obtain ⟨ax16, ux16, f12, hl13⟩ := f11.gSl hx16
 refine Jl tv R R R R (Jc2 I40 R R (hvE hl13)) (Ob h fun x18 hx18 h => Jf R (Jf2 f12 hx18 U40 Z2 R R R R) (Jl tv R R R R (Jc2 I2 R R (hvE (f12.gInt hx18))) (Jn 3 R (Ob h fun p31 h hK14 => Ju1 [(9, 2), (10, 2), (11, 2), (12, 1), (13, 2), (14, 1), (15, 2), (16, 2), (17, 2)] [] (fun L w' => L = [(0, .slice a0 p0.length u0), (1, vi p1), (2, vi p2), (7, vi v7), (31, .bool p31)] ∧ ∃ κ', Stp [] K8 w7 κ' w') tv ?_ ?_))))
 revert h
 cases ht15 : (x18 == p1)
 refine JF fun h => Jn 3 R (Jd1 R R R R (Jn 1 R (Jd1 R R R R (Jn 3 R ?_))))
 cases h
 exact Jv1 _ tv ⟨R, _, (Jx2 _ _).wk R⟩ (KM R)
 refine JT fun h => Jn 2 R (Ob h fun x25 hx25 h => Jf R (Jf2 f11 hx25 U24 Z40 R R R R) ?_)
 obtain ⟨ax25, ux25, f16, hl17⟩ := f11.gSl hx25
 refine Jl tv R R R R (Jc2 I40 R R (hvE hl17)) (Ob h fun x27 hx27 h => Jf R (Jf2 f16 hx27 U40 Z2 R R R R) (Jl tv R R R R (Jc2 I2 R R (hvE (f16.gInt hx27))) (Jn 3 R ?_)))
 cases h
 exact Jv1 _ tv ⟨R, _, (Jx2 _ _).wk R⟩ (KM R)
 rintro _ w18 _ ⟨rfl, K19, S20⟩
 have h := hK14
 refine Jd ?_
 revert h
 cases ht21 : p31
 refine JF fun h => Jy R (Js (Jz (Jp (Ja [2, 2, 2] R (Jc 3 R ?_)))))
 have hw1 : IntKind.wrap .i64 (v7 + 1) = v7 + 1 := wr1 hj1 (Jm2 hc1) hN1
 rw [hw1]
 have hc1 := Jm2 hc1
 cases h
 exact Jz1 fun a ha => ⟨k, _, Ja3 _, ⟨K19, v7 + 1, R, (S9.tr S20).wk R, by omega, by omega, hk10⟩, (ha.mm R)⟩
 refine JT fun h => Jx R (Je [2, 2] R (Jb 2 R (Ju (Ja1 (Jw (Jw ?_))))))
 cases h
 obtain rfl := Option.some.inj hk10
 have h := hK2
 dsimp only [aft] at h
 refine Ja1 (Jq2 (Jw (Ja2 (l := [.tmp 6]) V63 (Jp2 R R) R ?_)))
 cases h
 exact ⟨K19, R, (hE.stp (S9.tr S20) R R)⟩
 rintro _ w4 ⟨K5, rfl, S6, rfl⟩
 have h := hK2
 dsimp only [aft] at h
 refine Jp (Je [2] R (Jb 1 R (Ju (Ja2 (l := [.tmp 6]) V63 (Jp2 R R) R ?_))))
 cases h
 exact ⟨K5, R, (hE.stp S6 R R)⟩
theorem s_l1Copy_ok {w : World} {κ : Col} {a0 u0} {p0 : (List Int)} (g0 : Rd (Rp.int .i64) κ w 0 a0 u0 p0) {r : (List Int)} (h : s_l1Copy p0 = some r) : Ret Tryz.prog 88 [.slice a0 p0.length u0] w (fun v w' => ∃ (κ' : Col) (ra0 : Option Addr) (ru0 : Nat), v = .slice ra0 r.length ru0 ∧ Ent κ w κ' w' ∧ Oc E6 2 κ' w' 2 ra0 ru0 r) := by
 unfold s_l1Copy at h
 refine Ret.enter F88 R N88 R ?_
 dsimp only [envOf]
 have hE := Ent.refl κ w
 refine Je [2] R (Jb 1 R (Je [1, 2, 1, 2] R (Jo1 (κ := κ) (E := E6) 2 R R R R R Y40 Tryzinfo2 R fun a3 u3 w1 K2 S3 f4 => ⟨tv, Jn 1 R (Ob h fun x5 hx5 h => Jm1 (κ := K2) (E := E6) 2 [] R R R R R R R R R Y40 Tryzinfo2 R R R R f4 (Sl.srcP (pu_int _) (g0.stp S3 R R)) sy_false hx5 R fun a5 u5 w6 K7 S8 f9 => ⟨tv, Jb 1 R (Ju (Ja2 (l := [.tmp 2]) V88 (Jp2 R R) R ?_))⟩)⟩)))
 cases h
 exact ⟨K7, a5, u5, R, (hE.stp (S3.tr S8) R R), f9⟩
theorem s_AllOf_ok {w : World} {κ : Col} {p0 : Int}  {r : (List Int)} (h : s_AllOf p0 = some r) : Ret Tryz.prog 67 [vi p0] w (fun v w' => ∃ (κ' : Col) (ra0 : Option Addr) (ru0 : Nat), v = .slice ra0 r.length ru0 ∧ Ent κ w κ' w' ∧ Oc E6 2 κ' w' 2 ra0 ru0 r) := by
 unfold s_AllOf at h
 refine Ret.enter F67 R N67 R ?_
 dsimp only [envOf]
 have hE := Ent.refl κ w
 refine Je [2] R (Jb 1 R (Je [1, 2] R (Jo1 (κ := κ) (E := E6) 2 R R R R R Y40 Tryzinfo2 R fun a5 u5 w1 K2 S3 f4 => ⟨tv, Jb 1 R (Jq (Je [2] R (Jb 1 R (Ob h fun q2 hq7 hK6 => ?_))))⟩)))
 clear h
 refine Jx1 (fun L w' => ∃ κ', ∃ s3 : (List Int) × Int, ∃ ad ac, L = [(3, .slice ad s3.1.length ac)] ∧ Stp [2] K2 w1 κ' w' ∧ Oc E6 2 κ' w' 2 ad ac s3.1 ∧ q2 = Sum.inr s3) ?_ ?_
 refine Jv (Jy1 (fun k L w' => ∃ κ', ∃ s1 : (List Int) × Int, ∃ aa ab, L = [(0, vi p0), (3, .slice aa s1.1.length ab), (4, vi s1.2)] ∧ Stp [2] K2 w1 κ' w' ∧ Oc E6 2 κ' w' 2 aa ab s1.1 ∧ whileM (s_AllOf_b0 p0) k s1 = some q2) ⟨_, _, ⟨K2, ((([] : List Int) : (List Int)), (0 : Int)), a5, u5, R, (Jx2 _ _).wk R, f4, hq7⟩, (KM R)⟩ ?_)
 rintro k _ w12 ⟨K13, s1, aa, ab, rfl, S14, f15, h⟩
 rcases k with _ | k
 cases h
 obtain ⟨o5, h, hk16⟩ := BI h; unfold s_AllOf_b0 at h
 refine Jq (Je [2, 2, 2, 2, 2, 2, 2] R (Jn 4 R (Ob h fun p12 h hK17 => Ju1 [(4, 2), (5, 2), (6, 2)] [] (fun L w' => L = [(0, vi p0), (3, .slice aa s1.1.length ab), (4, vi s1.2), (12, .bool p12)] ∧ ∃ κ', Stp [] K13 w12 κ' w') tv ?_ ?_)))
 revert h
 cases ht18 : decide (s1.2 < p0)
 refine JF fun h => Jn 3 R ?_
 cases h
 exact Jv1 _ tv ⟨R, _, (Jx2 _ _).wk R⟩ (KM R)
 refine JT fun h => Jn 3 R ?_
 cases h
 exact Jv1 _ tv ⟨R, _, (Jx2 _ _).wk R⟩ (KM R)
 rintro _ w19 _ ⟨rfl, K20, S21⟩
 have h := hK17
 refine Jd ?_
 revert h
 cases ht22 : p12
 refine JF fun h => Jy R (Jc1 (Jt (Jt ?_)))
 cases h
 have h := hk16
 refine Jb1 ?_
 cases h
 exact Jw1 _ ⟨K20, ((s1.1 : (List Int)), (s1.2 : Int)), aa, ab, R, (S14.tr S21).wk R, (f15.stp S21 R R), R⟩ (KM R)
 refine JT fun h => Jx R (Js (Jp (Jq (Jv (Ja [2, 2, 1, 1, 2] R (Jn 2 R (Jn1 (κ := K20) (E := E6) 3 [] (parts := [(0, .tmp 16)]) (cells := [vi s1.2]) (xs := ([s1.2] : List Int)) R R R R R R Y40 Tryzinfo2 R R R R R R R R R R ⟨[vi s1.2], [], Zl K20 w19 [], Zl K20 w19 [], R, Zl.sp (l1 := []) (l2 := []) R, Zl.sr (l1 := []) (l2 := []), R, R⟩ fun ai ah w23 K24 S25 f26 => ⟨tv, Ob h fun x18 hx18 h => Jm1 (κ := K24) (E := E6) 2 [] R R R R R R R R R Y40 Tryzinfo2 R R R R (f15.stp (S21.tr S25) R R) (Sl.srcP (pu_int _) f26.rdc) sy_false hx18 R fun ae af w28 K29 S30 f31 => ⟨tv, Jc 1 R (Jz (Jp (Ja [2, 2, 2] R (Jc 3 R ?_))))⟩⟩)))))))
 cases h
 exact Jz1 fun a ha => ⟨k, _, Ja3 _, ⟨K29, ((x18 : (List Int)), ((IntKind.i64.wrap (s1.2 + 1)) : Int)), ae, af, R, (S14.tr (S21.tr (S25.tr S30))).wk R, f31, hk16⟩, (ha.mm R)⟩
 rintro _ w8 ⟨K9, s3, ad, ac, rfl, S10, f11, rfl⟩
 have h := hK6
 dsimp only [aft] at h
 refine Jp (Je [2, 2] R (Jb 2 R (Ju (Ja2 (l := [.tmp 2]) V67 (Jp2 R R) R ?_))))
 cases h
 exact ⟨K9, ad, ac, R, (hE.stp (S3.tr S10) R R), f11⟩
theorem s_l1Marks_ok {w : World} {κ : Col} {a0 u0} {p0 : (List Int)} {p1 : Int} (g0 : Rd (Rp.int .i64) κ w 0 a0 u0 p0) {r : (List Bool)} (h : s_l1Marks p0 p1 = some r) : Ret Tryz.prog 143 [.slice a0 p0.length u0, vi p1] w (fun v w' => ∃ (κ' : Col) (ra0 : Option Addr) (ru0 : Nat), v = .slice ra0 r.length ru0 ∧ Ent κ w κ' w' ∧ Oc Ep.bool 4 κ' w' 2 ra0 ru0 r) := by
 unfold s_l1Marks at h
 refine Ret.enter F143 R N143 R ?_
 dsimp only [envOf]
 have hE := Ent.refl κ w
 refine Je [2] R (Jb 1 R (Je [2, 1, 2] R (Jn 1 R (Ob h fun x8 hx8 h => Jl1 (κ := κ) (E := Ep.bool) (z := (false : Bool)) 2 R R R R R R R Y135 Tryzinfo4 R R R R R (fun _ _ _ => R) (Ju2 hx8) fun a8 u8 w1 K2 S3 f4 => ⟨tv, Jb 1 R (Jq (Je [2] R (Jb 1 R ?_)))⟩))))
 have hN5 : (p0.length : Int) ≤ 9223372036854775807 := g0.len_le
 refine Ob h fun q2 hq7 hK6 => ?_
 clear h
 refine Jx1 (fun L w' => ∃ κ', ∃ s3 : (List Bool), L = [(5, .slice a8 x8.length u8)] ∧ Stp [2] K2 w1 κ' w' ∧ Oc Ep.bool 4 κ' w' 2 a8 u8 s3 ∧ x8.length = s3.length ∧ q2 = Sum.inr s3) ?_ ?_
 refine Jv (Jy1 (fun k L w' => ∃ κ' v6, ∃ s1 : (List Bool), L = [(0, .slice a0 p0.length u0), (5, .slice a8 x8.length u8), (6, vi v6)] ∧ Stp [2] K2 w1 κ' w' ∧ Oc Ep.bool 4 κ' w' 2 a8 u8 s1 ∧ x8.length = s1.length ∧ 0 ≤ v6 ∧ Int.toNat ((p0.length : Int) - v6) = k ∧ cntM (s_l1Marks_b0 p0) k v6 s1 = some q2) ⟨_, _, ⟨K2, 0, (x8 : (List Bool)), R, (Jx2 _ _).wk R, f4, R, (by decide), (by simp), hq7⟩, (KM R)⟩ ?_)
 rintro k _ w13 ⟨K14, v6, s1, rfl, S15, f16, hn17, hj5, hJ5, h⟩
 rcases k with _ | k
 have hk18 := h; obtain ⟨o5, h⟩ := ex_eq (Sum.inr (Sum.inl s1) : (List Bool) ⊕ (((List Bool)) ⊕ ((List Bool))))
 have hc5 : decide (v6 < (p0.length : Int)) = false := Jo2 (by omega)
 refine Jq (Je [2, 2, 2, 2] R (Jn 2 R (Jf R (Je2 U40 R R) (Jb 1 R (Jw2 R hc5 (Jc1 (Jt (Jt ?_))))))))
 cases h
 have h := hk18
 refine Jb1 ?_
 cases h
 exact Jw1 _ ⟨K14, (s1 : (List Bool)), R, S15.wk R, f16, hn17, R⟩ (KM R)
 obtain ⟨o5, h, hk18⟩ := BI h; unfold s_l1Marks_b0 at h
 have hc5 : decide (v6 < (p0.length : Int)) = true := Jn2 (by omega)
 refine Jq (Je [2, 2, 2, 2] R (Jn 2 R (Jf R (Je2 U40 R R) (Jb 1 R (Jv2 R hc5 (Js (Jp (Jq (Jv (Ja [2, 2, 2, 2, 1, 2, 1] R (Jn 3 R (Ob h fun x18 hx18 h => Jf R (Jf2 g0 hx18 U40 Z2 R R R R) (Jl tv R R R R (Jc2 I2 R R (hvE ((g0.stp (S3.tr S15) R R).gInt hx18))) (Ob h fun x20 hx20 h => Jf R (Jf2 f16.rdc hx20 U135 Z4 R R hn17 R) (Ob h fun y138 hy138 h => Jk1 (κ := K14) (E := Ep.bool) 2 [] R R R R R R R R Z4 R R R R f16 hy138 fun w20 K21 S22 f23 => ⟨tv, ?_⟩)))))))))))))))
 have hn24 : x8.length = y138.length := hn17.trans (Jt2 hy138).2.2.2.symm
 refine Jo (Jz (Jp (Ja [2, 2, 2] R (Jc 3 R ?_))))
 have hw5 : IntKind.wrap .i64 (v6 + 1) = v6 + 1 := wr1 hj5 (Jm2 hc5) hN5
 rw [hw5]
 have hc5 := Jm2 hc5
 cases h
 exact Jz1 fun a ha => ⟨k, _, Ja3 _, ⟨K21, v6 + 1, (y138 : (List Bool)), R, (S15.tr S22).wk R, f23, hn24, by omega, by omega, hk18⟩, (ha.mm R)⟩
 rintro _ w8 ⟨K9, s3, rfl, S10, f11, hn12, rfl⟩
 have h := hK6
 dsimp only [aft] at h
 refine Jp (Je [2, 2] R (Jb 2 R (Ju (Ja2 (l := [.tmp 4]) V143 (Jp2 R R) R ?_))))
 cases h
 exact ⟨K9, a8, u8, (by simp only [hn12]), (hE.stp (S3.tr S10) R R), f11⟩
theorem i_isSig_ok {w : World} {κ : Col} {p0 : Sig}  {r : Bool} (h : i_isSig p0 = some r) : Ret Tryz.prog 69 [.agg #[vi p0.In, vi p0.Out]] w (fun v w' => ∃ (κ' : Col), v = .bool r ∧ Ent κ w κ' w') := by
 unfold i_isSig at h
 refine Ret.enter F69 R N69 R ?_
 dsimp only [envOf]
 have hE := Ent.refl κ w
 refine Je [1, 2] R (Jf1 (κ := κ) 2 R R R R R R R fun b1 w1 K2 S3 f4 => ⟨tv, Jb 1 R (Je [2, 1, 2, 2, 2, 1, 2, 2, 2, 2, 1, 2, 2, 2, 2, 1, 2, 2, 2] R (Jf R (Jb2 U31 R Z2 R R) (Jl tv R R R R (Jc2 I2 R R (hvE (f4.ld 0 R R))) (Jn 2 R (Ob h fun p10 h hK5 => Ju1 [(4, 2), (5, 1), (6, 2), (7, 2)] [(8, 2), (9, 2), (10, 1), (11, 2), (12, 2), (13, 2), (14, 2), (15, 1), (16, 2), (17, 2), (18, 2)] (fun L w' => L = [(1, .pointer (some ⟨b1, 0, none⟩)), (2, .bool false), (10, .bool p10)] ∧ ∃ κ', Stp [] K2 w1 κ' w') tv ?_ ?_)))))⟩)
 revert h
 cases ht6 : decide (1 ≤ p0.In)
 refine JF fun h => Jn 1 R (Jd1 R R R R (Jn 2 R ?_))
 cases h
 exact Jv1 _ tv ⟨R, _, (Jx2 _ _).wk R⟩ (KM R)
 refine JT fun h => Jf R (Jb2 U31 R Z2 R R) (Jl tv R R R R (Jc2 I2 R R (hvE (f4.ld 0 R R))) (Jn 2 R ?_))
 cases h
 exact Jv1 _ tv ⟨R, _, (Jx2 _ _).wk R⟩ (KM R)
 rintro _ w7 _ ⟨rfl, K8, S9⟩
 have h := hK5
 refine Jn 1 R (Ob h fun p15 h hK10 => Ju1 [(9, 2), (10, 1), (11, 2), (12, 2)] [(13, 2), (14, 2), (15, 1), (16, 2), (17, 2), (18, 2)] (fun L w' => L = [(1, .pointer (some ⟨b1, 0, none⟩)), (2, .bool false), (15, .bool p15)] ∧ ∃ κ', Stp [] K8 w7 κ' w') tv ?_ ?_)
 revert h
 cases ht11 : p10
 refine JF fun h => Jn 1 R (Jd1 R R R R (Jn 2 R ?_))
 cases h
 exact Jv1 _ tv ⟨R, _, (Jx2 _ _).wk R⟩ (KM R)
 refine JT fun h => Jf R (Jb2 U31 R Z2 R R) (Jl tv R R R R (Jc2 I2 R R (hvE ((f4.stp S9 R R).ld 1 R R))) (Jn 2 R ?_))
 cases h
 exact Jv1 _ tv ⟨R, _, (Jx2 _ _).wk R⟩ (KM R)
 rintro _ w13 _ ⟨rfl, K14, S15⟩
 have h := hK10
 refine Jn 1 R (Ob h fun p20 h hK16 => Ju1 [(14, 2), (15, 1), (16, 2), (17, 2)] [(18, 2)] (fun L w' => L = [(2, .bool false), (20, .bool p20)] ∧ ∃ κ', Stp [] K14 w13 κ' w') tv ?_ ?_)
 revert h
 cases ht17 : p15
 refine JF fun h => Jn 1 R (Jd1 R R R R (Jn 2 R ?_))
 cases h
 exact Jv1 _ tv ⟨R, _, (Jx2 _ _).wk R⟩ (KM R)
 refine JT fun h => Jf R (Jb2 U31 R Z2 R R) (Jl tv R R R R (Jc2 I2 R R (hvE ((f4.stp (S9.tr S15) R R).ld 1 R R))) (Jn 2 R ?_))
 cases h
 exact Jv1 _ tv ⟨R, _, (Jx2 _ _).wk R⟩ (KM R)
 rintro _ w19 _ ⟨rfl, K20, S21⟩
 have h := hK16
 refine Jb 1 R (Ju (Ja2 (l := [.tmp 2]) V69 (Jp2 R R) R ?_))
 cases h
 exact ⟨K20, R, (hE.stp (S3.tr (S9.tr (S15.tr S21))) R R)⟩
theorem i_inputsOf_ok {w : World} {κ : Col} {p0 : Sig}  {r : Int} (h : i_inputsOf p0 = some r) : Ret Tryz.prog 72 [.agg #[vi p0.In, vi p0.Out]] w (fun v w' => ∃ (κ' : Col), v = vi r ∧ Ent κ w κ' w') := by
 unfold i_inputsOf at h
 refine Ret.enter F72 R N72 R ?_
 dsimp only [envOf]
 have hE := Ent.refl κ w
 refine Je [1, 2] R (Jf1 (κ := κ) 2 R R R R R R R fun b1 w1 K2 S3 f4 => ⟨tv, Jb 1 R (Je [2, 1, 2, 2] R (Jf R (Jb2 U31 R Z2 R R) (Jl tv R R R R (Jc2 I2 R R (hvE (f4.ld 0 R R))) (Ob h fun _z5 hz5 h => Jf R (rn_shl R R R (nn_ok hz5)) (Jb 1 R (Ju (Ja2 (l := [.tmp 2]) V72 (Jp2 R R) R ?_)))))))⟩)
 cases h
 exact ⟨K2, R, (hE.stp S3 R R)⟩
theorem i_areLetters_1_ok {w : World} {κ : Col} {p0 : Int} {c0 : Int} {b1} (gb1 : Bc κ w 0 b1 2 [vi c0]) {r : Bool} (h : i_areLetters_1 p0 c0 = some r) : Ret Tryz.prog 149 [vi p0, .pointer (some ⟨b1, 0, none⟩)] w (fun v w' => ∃ (κ' : Col), v = .bool r ∧ Ent κ w κ' w') := by
 unfold i_areLetters_1 at h
 refine Ret.enter F149 R N149 R ?_
 dsimp only [envOf]
 have hE := Ent.refl κ w
 refine Je [2] R (Jb 1 R (Je [2, 2, 2, 2, 1, 2, 2, 2] R (Jn 3 R (Ob h fun p10 h hK1 => Ju1 [(3, 2), (4, 1), (5, 2), (6, 2)] [(7, 2)] (fun L w' => L = [(1, .pointer (some ⟨b1, 0, none⟩)), (3, .bool false), (10, .bool p10)] ∧ ∃ κ', Stp [] κ w κ' w') tv ?_ ?_))))
 revert h
 cases ht2 : decide (p0 < 0)
 refine JF fun h => Jn 1 R (Jl tv R R R R (Jc2 I2 R R (hvE (gb1.ld 0 R R))) (Jn 2 R ?_))
 cases h
 exact Jv1 _ tv ⟨R, _, (Jx2 _ _).wk R⟩ (KM R)
 refine JT fun h => Jn 1 R (Jd1 R R R R (Jn 2 R ?_))
 cases h
 exact Jv1 _ tv ⟨R, _, (Jx2 _ _).wk R⟩ (KM R)
 rintro _ w3 _ ⟨rfl, K4, S5⟩
 have h := hK1
 refine Jb 1 R (Ju (Ja2 (l := [.tmp 3]) V149 (Jp2 R R) R ?_))
 cases h
 exact ⟨K4, R, (hE.stp S5 R R)⟩
theorem i_lettersOf_ok {w : World} {κ : Col} {p0 : Sig}  {r : Int} (h : i_lettersOf p0 = some r) : Ret Tryz.prog 119 [.agg #[vi p0.In, vi p0.Out]] w (fun v w' => ∃ (κ' : Col), v = vi r ∧ Ent κ w κ' w') := by
 unfold i_lettersOf at h
 refine Ret.enter F119 R N119 R ?_
 dsimp only [envOf]
 have hE := Ent.refl κ w
 refine Je [1, 2] R (Jf1 (κ := κ) 2 R R R R R R R fun b1 w1 K2 S3 f4 => ⟨tv, Jb 1 R (Je [2, 1, 2, 1, 2, 2, 2] R (Jf R (Jb2 U31 R Z2 R R) (Jl tv R R R R (Jc2 I2 R R (hvE (f4.ld 0 R R))) (Jf R (Jb2 U31 R Z2 R R) (Jl tv R R R R (Jc2 I2 R R (hvE (f4.ld 1 R R))) (Jn 1 R (Ob h fun _z8 hz8 h => Jf R (rn_shl R R R (nn_ok hz8)) (Jb 1 R (Ju (Ja2 (l := [.tmp 2]) V119 (Jp2 R R) R ?_))))))))))⟩)
 cases h
 exact ⟨K2, R, (hE.stp S3 R R)⟩
theorem i_isSet_ok {w : World} {κ : Col} {a0 u0} {p0 : (List Int)} {p1 : Int} (g0 : Rd (Rp.int .i64) κ w 0 a0 u0 p0) {r : Bool} (h : i_isSet p0 p1 = some r) : Ret Tryz.prog 160 [.slice a0 p0.length u0, vi p1] w (fun v w' => ∃ (κ' : Col), v = .bool r ∧ Ent κ w κ' w') := by
 unfold i_isSet at h
 refine Ret.enter F160 R N160 R ?_
 dsimp only [envOf]
 have hE := Ent.refl κ w
 refine Je [2] R (Jb 1 R (Jq (Je [2, 2, 2] R (Jn 1 R (Jf R (Je2 U40 R R) (Jb 1 R ?_))))))
 have hN1 : (p0.length : Int) ≤ 9223372036854775807 := g0.len_le
 refine Ob h fun q2 hq3 hK2 => ?_
 clear h
 refine Jx1 (fun L w' => ∃ κ', L = [] ∧ Stp [] κ w κ' w' ∧ q2 = Sum.inr ()) ?_ ?_
 refine Jv (Jy1 (fun k L w' => ∃ κ' v9, L = [(0, .slice a0 p0.length u0), (1, vi p1), (7, .slice a0 p0.length u0), (8, vi (p0.length : Int)), (9, vi v9)] ∧ Stp [] κ w κ' w' ∧ 0 ≤ v9 ∧ Int.toNat ((p0.length : Int) - v9) = k ∧ cntM (i_isSet_b0 p0 p1) k v9 () = some q2) ⟨_, _, ⟨κ, 0, R, (Jx2 _ _).wk R, (by decide), (by simp), hq3⟩, (KM R)⟩ ?_)
 rintro k _ w7 ⟨K8, v9, rfl, S9, hj1, hJ1, h⟩
 rcases k with _ | k
 have hk10 := h; obtain ⟨o1, h⟩ := ex_eq (Sum.inr (Sum.inl ()) : Bool ⊕ ((Unit) ⊕ (Unit)))
 have hc1 : decide (v9 < (p0.length : Int)) = false := Jo2 (by omega)
 refine Je [2] R (Jb 1 R (Jq (Jw2 R hc1 (Jc1 (Jt (Jt ?_))))))
 cases h
 have h := hk10
 refine Jb1 ?_
 cases h
 exact Jw1 _ ⟨K8, R, S9.wk R, R⟩ KN
 obtain ⟨o1, h, hk10⟩ := BI h; unfold i_isSet_b0 at h
 have hc1 : decide (v9 < (p0.length : Int)) = true := Jn2 (by omega)
 refine Je [2] R (Jb 1 R (Jq (Jv2 R hc1 (Js (Jp (Jq (Jv (Je [2, 2, 1, 2, 2] R (Jn 1 R (Ob h fun x12 hx12 h => Jf R (Jf2 g0 hx12 U40 Z2 R R R R) ?_))))))))))
 have f11 := g0.stp S9 R R
 refine Jl tv R R R R (Jc2 I2 R R (hvE (f11.gInt hx12))) (Jb 2 R (Je [2, 2, 2, 2, 2, 2, 2, 2, 2, 2, 2, 2, 2, 2, 2, 2, 1, 2, 2, 2] R (Jn 3 R (Ob h fun p20 h hK12 => Ju1 [(3, 2), (4, 2), (5, 2), (6, 2)] [(7, 2), (8, 2), (9, 2), (10, 2), (11, 2), (12, 2), (13, 2), (14, 2), (15, 2), (16, 1), (17, 2), (18, 2), (19, 2)] (fun L w' => L = [(0, .slice a0 p0.length u0), (1, vi p1), (5, vi v9), (6, vi x12), (7, .slice a0 p0.length u0), (8, vi (p0.length : Int)), (9, vi v9), (20, .bool p20)] ∧ ∃ κ', Stp [] K8 w7 κ' w') tv ?_ ?_))))
 revert h
 cases ht13 : decide (x12 < 0)
 refine JF fun h => Jn 4 R ?_
 cases h
 exact Jv1 _ tv ⟨R, _, (Jx2 _ _).wk R⟩ (KM R)
 refine JT fun h => Jn 4 R ?_
 cases h
 exact Jv1 _ tv ⟨R, _, (Jx2 _ _).wk R⟩ (KM R)
 rintro _ w14 _ ⟨rfl, K15, S16⟩
 have h := hK12
 refine Jn 1 R (Ob h fun p33 h hK17 => Ju1 [(8, 2), (9, 2), (10, 2), (11, 2), (12, 2), (13, 2), (14, 2), (15, 2), (16, 1), (17, 2), (18, 2), (19, 2)] [] (fun L w' => L = [(0, .slice a0 p0.length u0), (1, vi p1), (7, .slice a0 p0.length u0), (8, vi (p0.length : Int)), (9, vi v9), (33, .bool p33)] ∧ ∃ κ', Stp [] K15 w14 κ' w') tv ?_ ?_)
 revert h
 cases ht18 : p20
 refine JF fun h => Jn 3 R (Ob h fun p32 h hK19 => Ju1 [(11, 2), (12, 2), (13, 2), (14, 2), (15, 2), (16, 1), (17, 2), (18, 2)] [(19, 2)] (fun L w' => L = [(0, .slice a0 p0.length u0), (1, vi p1), (7, .slice a0 p0.length u0), (8, vi (p0.length : Int)), (9, vi v9), (21, .bool false), (22, vi v9), (23, .bool (decide (0 < v9))), (24, .bool (decide (0 < v9))), (32, .bool p32)] ∧ ∃ κ', Stp [] K15 w14 κ' w') tv ?_ ?_)
 revert h
 cases ht20 : decide (0 < v9)
 refine JF fun h => Jn 5 R (Jd1 R R R R (Jn 2 R ?_))
 cases h
 exact Jv1 _ tv ⟨R, _, (Jx2 _ _).wk R⟩ (KM R)
 refine JT fun h => Jn 4 R (Ob h fun x29 hx29 h => Jf R (Jf2 f11 hx29 U40 Z2 R R R R) (Jl tv R R R R (Jc2 I2 R R (hvE ((f11.stp S16 R R).gInt hx29))) (Jn 2 R ?_)))
 cases h
 exact Jv1 _ tv ⟨R, _, (Jx2 _ _).wk R⟩ (KM R)
 rintro _ w22 _ ⟨rfl, K23, S24⟩
 have h := hK19
 refine Jn 1 R ?_
 cases h
 exact Jv1 _ tv ⟨R, _, S24.wk R⟩ (KM R)
 refine JT fun h => Jn 8 R (Jd1 R R R R (Jn 3 R ?_))
 cases h
 exact Jv1 _ tv ⟨R, _, (Jx2 _ _).wk R⟩ (KM R)
 rintro _ w25 _ ⟨rfl, K26, S27⟩
 have h := hK17
 refine Jd ?_
 revert h
 cases ht28 : p33
 refine JF fun h => Jy R (Js (Jz (Jp (Ja [2, 2] R (Jc 2 R ?_)))))
 have hw1 : IntKind.wrap .i64 (v9 + 1) = v9 + 1 := wr1 hj1 (Jm2 hc1) hN1
 rw [hw1]
 have hc1 := Jm2 hc1
 cases h
 exact Jz1 fun a ha => ⟨k, _, Ja3 _, ⟨K26, v9 + 1, R, (S9.tr (S16.tr S27)).wk R, by omega, by omega, hk10⟩, (ha.mm R)⟩
 refine JT fun h => Jx R (Je [2] R (Jb 1 R (Ju (Ja1 (Jw (Jw ?_))))))
 cases h
 obtain rfl := Option.some.inj hk10
 have h := hK2
 dsimp only [aft] at h
 refine Ja1 (Jq2 (Jw (Ja2 (l := [.tmp 4]) V160 (Jp2 R R) R ?_)))
 cases h
 exact ⟨K26, R, (hE.stp (S9.tr (S16.tr S27)) R R)⟩
 rintro _ w4 ⟨K5, rfl, S6, rfl⟩
 have h := hK2
 dsimp only [aft] at h
 refine Jp (Je [2] R (Jb 1 R (Ju (Ja2 (l := [.tmp 4]) V160 (Jp2 R R) R ?_))))
 cases h
 exact ⟨K5, R, (hE.stp S6 R R)⟩
theorem i_hasSecond_ok {w : World} {κ : Col} {p0 : Int}  {r : Bool} (h : i_hasSecond p0 = some r) : Ret Tryz.prog 161 [vi p0] w (fun v w' => ∃ (κ' : Col), v = .bool r ∧ Ent κ w κ' w') := by
 unfold i_hasSecond at h
 refine Ret.enter F161 R N161 R ?_
 dsimp only [envOf]
 have hE := Ent.refl κ w
 refine Je [2] R (Jb 1 R (Je [2, 2, 2, 2, 2, 2, 2, 2, 2, 2, 2] R (Jn 3 R (Ob h fun p8 h hK1 => Ju1 [(3, 2), (4, 2), (5, 2)] [(6, 2), (7, 2), (8, 2), (9, 2), (10, 2)] (fun L w' => L = [(0, vi p0), (2, .bool false), (8, .bool p8)] ∧ ∃ κ', Stp [] κ w κ' w') tv ?_ ?_))))
 revert h
 cases ht2 : (p0 == 2)
 refine JF fun h => Jn 3 R ?_
 cases h
 exact Jv1 _ tv ⟨R, _, (Jx2 _ _).wk R⟩ (KM R)
 refine JT fun h => Jn 3 R ?_
 cases h
 exact Jv1 _ tv ⟨R, _, (Jx2 _ _).wk R⟩ (KM R)
 rintro _ w3 _ ⟨rfl, K4, S5⟩
 have h := hK1
 refine Jn 1 R (Ob h fun p12 h hK6 => Ju1 [(7, 2), (8, 2), (9, 2)] [(10, 2)] (fun L w' => L = [(2, .bool false), (12, .bool p12)] ∧ ∃ κ', Stp [] K4 w3 κ' w') tv ?_ ?_)
 revert h
 cases ht7 : p8
 refine JF fun h => Jn 3 R ?_
 cases h
 exact Jv1 _ tv ⟨R, _, (Jx2 _ _).wk R⟩ (KM R)
 refine JT fun h => Jn 3 R ?_
 cases h
 exact Jv1 _ tv ⟨R, _, (Jx2 _ _).wk R⟩ (KM R)
 rintro _ w8 _ ⟨rfl, K9, S10⟩
 have h := hK6
 refine Jb 1 R (Ju (Ja2 (l := [.tmp 2]) V161 (Jp2 R R) R ?_))
 cases h
 exact ⟨K9, R, (hE.stp (S5.tr S10) R R)⟩
theorem slices_Index_I_int64_ok {w : World} {κ : Col} {a0 u0} {p0 : (List Int)} {p1 : Int} (g0 : Rd (Rp.int .i64) κ w 0 a0 u0 p0) {r : Int} (h : slices_Index_I_int64 p0 p1 = some r) : Ret Tryz.prog 122 [.slice a0 p0.length u0, vi p1] w (fun v w' => ∃ (κ' : Col), v = vi r ∧ Ent κ w κ' w') := by
 unfold slices_Index_I_int64 at h
 refine Ret.enter F122 R N122 R ?_
 dsimp only [envOf]
 have hE := Ent.refl κ w
 refine Je [2] R (Jb 1 R (Jq (Je [2, 2, 2] R (Jn 1 R (Jf R (Je2 U40 R R) (Jb 1 R ?_))))))
 have hN1 : (p0.length : Int) ≤ 9223372036854775807 := g0.len_le
 refine Ob h fun q2 hq3 hK2 => ?_
 clear h
 refine Jx1 (fun L w' => ∃ κ', L = [] ∧ Stp [] κ w κ' w' ∧ q2 = Sum.inr ()) ?_ ?_
 refine Jv (Jy1 (fun k L w' => ∃ κ' v8, L = [(0, .slice a0 p0.length u0), (1, vi p1), (7, vi (p0.length : Int)), (8, vi v8)] ∧ Stp [] κ w κ' w' ∧ 0 ≤ v8 ∧ Int.toNat ((p0.length : Int) - v8) = k ∧ cntM (slices_Index_I_int64_b0 p0 p1) k v8 () = some q2) ⟨_, _, ⟨κ, 0, R, (Jx2 _ _).wk R, (by decide), (by simp), hq3⟩, (KM R)⟩ ?_)
 rintro k _ w7 ⟨K8, v8, rfl, S9, hj1, hJ1, h⟩
 rcases k with _ | k
 have hk10 := h; obtain ⟨o1, h⟩ := ex_eq (Sum.inr (Sum.inl ()) : Int ⊕ ((Unit) ⊕ (Unit)))
 have hc1 : decide (v8 < (p0.length : Int)) = false := Jo2 (by omega)
 refine Je [2] R (Jb 1 R (Jq (Jw2 R hc1 (Jc1 (Jt (Jt ?_))))))
 cases h
 have h := hk10
 refine Jb1 ?_
 cases h
 exact Jw1 _ ⟨K8, R, S9.wk R, R⟩ KN
 obtain ⟨o1, h, hk10⟩ := BI h; unfold slices_Index_I_int64_b0 at h
 have hc1 : decide (v8 < (p0.length : Int)) = true := Jn2 (by omega)
 refine Je [2] R (Jb 1 R (Jq (Jv2 R hc1 (Js (Jp (Jq (Jv (Je [2, 2] R (Jb 2 R (Je [2, 2, 2, 2, 1, 2] R (Jn 3 R (Ob h fun x14 hx14 h => Jf R (Jf2 g0 hx14 U40 Z2 R R R R) (Jl tv R R R R (Jc2 I2 R R (hvE ((g0.stp S9 R R).gInt hx14))) (Jb 1 R ?_))))))))))))))
 revert h
 cases ht12 : (p1 == x14)
 refine JF fun h => Jy R (Js (Jz (Jp (Ja [2, 2] R (Jc 2 R ?_)))))
 have hw1 : IntKind.wrap .i64 (v8 + 1) = v8 + 1 := wr1 hj1 (Jm2 hc1) hN1
 rw [hw1]
 have hc1 := Jm2 hc1
 cases h
 exact Jz1 fun a ha => ⟨k, _, Ja3 _, ⟨K8, v8 + 1, R, S9.wk R, by omega, by omega, hk10⟩, (ha.mm R)⟩
 refine JT fun h => Jx R (Je [2, 2] R (Jb 2 R (Ju (Ja1 (Jw (Jw ?_))))))
 cases h
 obtain rfl := Option.some.inj hk10
 have h := hK2
 dsimp only [aft] at h
 refine Ja1 (Jq2 (Jw (Ja2 (l := [.tmp 4]) V122 (Jp2 R R) R ?_)))
 cases h
 exact ⟨K8, R, (hE.stp S9 R R)⟩
 rintro _ w4 ⟨K5, rfl, S6, rfl⟩
 have h := hK2
 dsimp only [aft] at h
 refine Jp (Je [2] R (Jb 1 R (Ju (Ja2 (l := [.tmp 4]) V122 (Jp2 R R) R ?_))))
 cases h
 exact ⟨K5, R, (hE.stp S6 R R)⟩
theorem i_monitorStep_ok {w : World} {κ : Col} {p0 : Int} {p1 : Int} {p2 : Bool} {p3 : Bool}  {r : Int} (h : i_monitorStep p0 p1 p2 p3 = some r) : Ret Tryz.prog 151 [vi p0, vi p1, .bool p2, .bool p3] w (fun v w' => ∃ (κ' : Col), v = vi r ∧ Ent κ w κ' w') := by
 unfold i_monitorStep at h
 refine Ret.enter F151 R N151 R ?_
 dsimp only [envOf]
 have hE := Ent.refl κ w
 refine Je [2] R (Jb 1 R (Je [2, 2] R (Jb 2 R (Jq (Je [2] R (Jb 1 R (Ob h fun q1 h hK1 => Jx1 (fun L w' => ∃ κ', L = [(0, vi p0), (1, vi p1), (3, .bool p3), (9, vi q1), (10, vi 0)] ∧ Stp [] κ w κ' w') ?_ ?_)))))))
 revert h
 cases ht5 : p2
 refine JF fun h => Jy R (Js ?_)
 cases h
 exact Jw1 _ ⟨κ, R, (Jx2 _ _).wk R⟩ (KM R)
 refine JT fun h => Jx R (Ja [2] R (Jc 1 R ?_))
 cases h
 exact Jw1 _ ⟨κ, R, (Jx2 _ _).wk R⟩ (KM R)
 rintro _ w2 ⟨K3, rfl, S4⟩
 have h := hK1
 refine Jp (Jq (Je [2] R (Jb 1 R (Ob h fun q2 h hK6 => Jx1 (fun L w' => ∃ κ', L = [(0, vi p0), (1, vi p1), (3, .bool q2.1), (9, vi q1), (10, vi q2.2)] ∧ Stp [] K3 w2 κ' w') ?_ ?_))))
 revert h
 cases ht10 : p3
 refine JF fun h => Jy R (Js ?_)
 cases h
 exact Jw1 _ ⟨K3, R, (Jx2 _ _).wk R⟩ (KM R)
 refine JT fun h => Jx R (Ja [2] R (Jc 1 R ?_))
 cases h
 exact Jw1 _ ⟨K3, R, (Jx2 _ _).wk R⟩ (KM R)
 rintro _ w7 ⟨K8, rfl, S9⟩
 have h := hK6
 refine Jp (Jq (Je [2] R (Jb 1 R (Jv (Je [2, 2] R (Jb 2 R ?_))))))
 revert h
 cases ht11 : (p0 == 1)
 refine JF fun h => Jy R (Je [2, 2] R (Jb 2 R ?_))
 revert h
 cases ht13 : (p0 == 2)
 refine JF fun h => Jy R (Je [2, 2] R (Jb 2 R ?_))
 revert h
 cases ht27 : (p0 == 3)
 refine JF fun h => Jy R (Je [2, 2] R (Jb 2 R ?_))
 revert h
 cases ht31 : (p0 == 4)
 refine JF fun h => Jy R (Je [2, 2] R (Jb 2 R ?_))
 revert h
 cases ht33 : (p0 == 5)
 refine JF fun h => Jy R (Je [2, 2] R (Jb 2 R ?_))
 revert h
 cases ht35 : (p0 == 6)
 refine JF fun h => Jy R (Js (Jz (Jp (Je [2, 2, 2, 2, 2] R (Jb 5 R (Ju (Ja2 (l := [.tmp 8]) V151 (Jp2 R R) R ?_)))))))
 cases h
 exact ⟨K8, R, (hE.stp (S4.tr S9) R R)⟩
 refine JT fun h => Jx R (Je [2, 2, 2, 2] R (Jn 2 R (Jf R (rn_max R R R) (Jb 1 R (Ju (Ja1 (Jw (Ja2 (l := [.tmp 8]) V151 (Jp2 R R) R ?_))))))))
 cases h
 exact ⟨K8, R, (hE.stp (S4.tr S9) R R)⟩
 refine JT fun h => Jx R (Je [2, 2, 2] R (Jb 3 R (Ju (Ja1 (Jw (Ja2 (l := [.tmp 8]) V151 (Jp2 R R) R ?_))))))
 cases h
 exact ⟨K8, R, (hE.stp (S4.tr S9) R R)⟩
 refine JT fun h => Jx R (Je [2, 2] R (Jb 2 R (Ju (Ja1 (Jw (Ja2 (l := [.tmp 8]) V151 (Jp2 R R) R ?_))))))
 cases h
 exact ⟨K8, R, (hE.stp (S4.tr S9) R R)⟩
 refine JT fun h => Jx R (Jq (Je [2] R (Jb 1 R ?_)))
 revert h
 cases ht28 : q2.1
 refine JF fun h => Jy R (Js (Jp (Je [2, 2, 2, 2] R (Jn 2 R (Jf R (rn_max R R R) (Jb 1 R (Ju (Ja1 (Jw (Ja2 (l := [.tmp 8]) V151 (Jp2 R R) R ?_))))))))))
 cases h
 exact ⟨K8, R, (hE.stp (S4.tr S9) R R)⟩
 refine JT fun h => Jx R (Je [2] R (Jb 1 R (Ju (Jw (Ja1 (Jw (Ja2 (l := [.tmp 8]) V151 (Jp2 R R) R ?_)))))))
 cases h
 exact ⟨K8, R, (hE.stp (S4.tr S9) R R)⟩
 refine JT fun h => Jx R (Jq (Je [2, 2, 2, 2, 2, 2, 2, 2, 2, 2] R (Jn 3 R (Ob h fun p31 h hK14 => Ju1 [(3, 2), (4, 2), (5, 2), (6, 2), (7, 2), (8, 2), (9, 2)] [] (fun L w' => L = [(9, vi q1), (31, .bool p31)] ∧ ∃ κ', Stp [] K8 w7 κ' w') tv ?_ ?_))))
 revert h
 cases ht15 : (p1 == 2)
 refine JF fun h => Jn 3 R (Ob h fun p30 h hK16 => Ju1 [(6, 2), (7, 2), (8, 2)] [(9, 2)] (fun L w' => L = [(9, vi q1), (24, .bool false), (30, .bool p30)] ∧ ∃ κ', Stp [] K8 w7 κ' w') tv ?_ ?_)
 revert h
 cases ht17 : (p1 == 1)
 refine JF fun h => Jn 3 R ?_
 cases h
 exact Jv1 _ tv ⟨R, _, (Jx2 _ _).wk R⟩ (KM R)
 refine JT fun h => Jn 3 R ?_
 cases h
 exact Jv1 _ tv ⟨R, _, (Jx2 _ _).wk R⟩ (KM R)
 rintro _ w18 _ ⟨rfl, K19, S20⟩
 have h := hK16
 refine Jn 1 R ?_
 cases h
 exact Jv1 _ tv ⟨R, _, S20.wk R⟩ (KM R)
 refine JT fun h => Jn 7 R ?_
 cases h
 exact Jv1 _ tv ⟨R, _, (Jx2 _ _).wk R⟩ (KM R)
 rintro _ w21 _ ⟨rfl, K22, S23⟩
 have h := hK14
 refine Jd ?_
 revert h
 cases ht24 : p31
 refine JF fun h => Jy R (Js (Jp (Je [2, 2] R (Jb 2 R (Ju (Ja1 (Jw (Ja2 (l := [.tmp 8]) V151 (Jp2 R R) R ?_))))))))
 cases h
 exact ⟨K22, R, (hE.stp (S4.tr (S9.tr S23)) R R)⟩
 refine JT fun h => Jx R (Je [2] R (Jb 1 R (Ju (Jw (Ja1 (Jw (Ja2 (l := [.tmp 8]) V151 (Jp2 R R) R ?_)))))))
 cases h
 exact ⟨K22, R, (hE.stp (S4.tr (S9.tr S23)) R R)⟩
 refine JT fun h => Jx R (Je [2, 2, 2, 2, 2] R (Jn 3 R (Jf R (rn_max R R R) (Jb 1 R (Ju (Ja1 (Jw (Ja2 (l := [.tmp 8]) V151 (Jp2 R R) R ?_))))))))
 cases h
 exact ⟨K8, R, (hE.stp (S4.tr S9) R R)⟩
theorem slices_Index_2_int64_2_int64_ok {w : World} {κ : Col} {a0 u0} {p0 : (List (Int × Int))} {p1 : (Int × Int)} (g0 : Rd (Rp.pair (Rp.int .i64) (Rp.int .i64)) κ w 0 a0 u0 p0) {r : Int} (h : slices_Index_2_int64_2_int64 p0 p1 = some r) : Ret Tryz.prog 150 [.slice a0 p0.length u0, .agg #[vi p1.1, vi p1.2]] w (fun v w' => ∃ (κ' : Col), v = vi r ∧ Ent κ w κ' w') := by
 unfold slices_Index_2_int64_2_int64 at h
 refine Ret.enter F150 R N150 R ?_
 dsimp only [envOf]
 have hE := Ent.refl κ w
 refine Je [1, 2] R (Jf1 (κ := κ) 2 R R R R R R R fun b3 w1 K2 S3 f4 => ⟨tv, Jb 1 R (Jq (Je [2, 2, 2] R (Jn 1 R (Jf R (Je2 U108 R R) (Jb 1 R ?_)))))⟩)
 have hN5 : (p0.length : Int) ≤ 9223372036854775807 := g0.len_le
 refine Ob h fun q2 hq7 hK6 => ?_
 clear h
 refine Jx1 (fun L w' => ∃ κ', L = [] ∧ Stp [] K2 w1 κ' w' ∧ q2 = Sum.inr ()) ?_ ?_
 refine Jv (Jy1 (fun k L w' => ∃ κ' v8, L = [(0, .slice a0 p0.length u0), (3, .pointer (some ⟨b3, 0, none⟩)), (7, vi (p0.length : Int)), (8, vi v8)] ∧ Stp [] K2 w1 κ' w' ∧ 0 ≤ v8 ∧ Int.toNat ((p0.length : Int) - v8) = k ∧ cntM (slices_Index_2_int64_2_int64_b0 p0 p1) k v8 () = some q2) ⟨_, _, ⟨K2, 0, R, (Jx2 _ _).wk R, (by decide), (by simp), hq7⟩, (KM R)⟩ ?_)
 rintro k _ w11 ⟨K12, v8, rfl, S13, hj5, hJ5, h⟩
 rcases k with _ | k
 have hk14 := h; obtain ⟨o5, h⟩ := ex_eq (Sum.inr (Sum.inl ()) : Int ⊕ ((Unit) ⊕ (Unit)))
 have hc5 : decide (v8 < (p0.length : Int)) = false := Jo2 (by omega)
 refine Je [2] R (Jb 1 R (Jq (Jw2 R hc5 (Jc1 (Jt (Jt ?_))))))
 cases h
 have h := hk14
 refine Jb1 ?_
 cases h
 exact Jw1 _ ⟨K12, R, S13.wk R, R⟩ KN
 obtain ⟨o5, h, hk14⟩ := BI h; unfold slices_Index_2_int64_2_int64_b0 at h
 have hc5 : decide (v8 < (p0.length : Int)) = true := Jn2 (by omega)
 refine Je [2] R (Jb 1 R (Jq (Jv2 R hc5 (Js (Jp (Jq (Jv (Je [2, 2] R (Jb 2 R (Jq (Js1 (κ := K12) [0, 2] none [(1, 2), (2, 2), (3, 2), (0, 0), (4, 0), (5, 2)] [] (by kernel_rfl) (by kernel_rfl) fun w16 S15 => Jn 2 R (Ob h fun x14 hx14 h => Jf R (Jf2 g0 hx14 U108 Z107 R R R R) (Jg R (Jd2 (cs := [vi p1.1, vi p1.2]) I107 Z107 R R R (haC (f4.stp (S13.tr S15) R R).cells R)) ?_)))))))))))))
 obtain ⟨cse19, hre19, hle19⟩ := ((g0.stp (S3.tr (S13.tr S15)) R R)).gSt hx14
 obtain ⟨_, _, rfl, rfl, rfl⟩ := hre19
 refine Jg R (Jd2 (cs := [vi x14.1, vi x14.2]) I107 Z107 R R R (haC hle19 R)) (Jf R (rn_eqlA2 U107 (by kernel_rfl) I2 U2 Z2 R R R) (Jt1 (Jd ?_)))
 revert h
 cases ht20 : ((p1.1 == x14.1) && (p1.2 == x14.2))
 refine JF fun h => Jy R (Js (Jz (Jp (Ja [2, 2] R (Jc 2 R ?_)))))
 have hw5 : IntKind.wrap .i64 (v8 + 1) = v8 + 1 := wr1 hj5 (Jm2 hc5) hN5
 rw [hw5]
 have hc5 := Jm2 hc5
 cases h
 exact Jz1 fun a ha => ⟨k, _, Ja3 _, ⟨K12, v8 + 1, R, (S13.tr S15).wk R, by omega, by omega, hk14⟩, (ha.mm R)⟩
 refine JT fun h => Jx R (Je [2, 2] R (Jb 2 R (Ju (Ja1 (Jw (Jw ?_))))))
 cases h
 obtain rfl := Option.some.inj hk14
 have h := hK6
 dsimp only [aft] at h
 refine Ja1 (Jq2 (Jw (Ja2 (l := [.tmp 4]) V150 (Jp2 R R) R ?_)))
 cases h
 exact ⟨K12, R, (hE.stp (S3.tr (S13.tr S15)) R R)⟩
 rintro _ w8 ⟨K9, rfl, S10, rfl⟩
 have h := hK6
 dsimp only [aft] at h
 refine Jp (Je [2] R (Jb 1 R (Ju (Ja2 (l := [.tmp 4]) V150 (Jp2 R R) R ?_))))
 cases h
 exact ⟨K9, R, (hE.stp (S3.tr S10) R R)⟩
theorem i_AllOf_ok {w : World} {κ : Col} {p0 : Int}  {r : (List Int)} (h : i_AllOf p0 = some r) : Ret Tryz.prog 75 [vi p0] w (fun v w' => ∃ (κ' : Col) (ra0 : Option Addr) (ru0 : Nat), v = .slice ra0 r.length ru0 ∧ Ent κ w κ' w' ∧ Oc E6 2 κ' w' 2 ra0 ru0 r) := by
 unfold i_AllOf at h
 refine Ret.enter F75 R N75 R ?_
 dsimp only [envOf]
 have hE := Ent.refl κ w
 refine Je [2] R (Jb 1 R (Jq (Je [2, 2, 2, 2, 2, 2] R (Jn 3 R (Ob h fun p10 h hK1 => Ju1 [(3, 2), (4, 2), (5, 2)] [] (fun L w' => L = [(0, vi p0), (10, .bool p10)] ∧ ∃ κ', Stp [] κ w κ' w') tv ?_ ?_)))))
 revert h
 cases ht2 : decide (p0 < 0)
 refine JF fun h => Jn 3 R ?_
 cases h
 exact Jv1 _ tv ⟨R, _, (Jx2 _ _).wk R⟩ (KM R)
 refine JT fun h => Jn 3 R ?_
 cases h
 exact Jv1 _ tv ⟨R, _, (Jx2 _ _).wk R⟩ (KM R)
 rintro _ w3 _ ⟨rfl, K4, S5⟩
 have h := hK1
 refine Jd ?_
 revert h
 cases ht6 : p10
 refine JF fun h => Jy R (Js (Jp (Je [1, 2] R (Jo1 (κ := K4) (E := E6) 2 R R R R R Y40 Tryzinfo2 R fun ah ae w8 K9 S10 f11 => ⟨tv, Jb 1 R (Jq (Je [2] R (Jb 1 R (Ob h fun _ hr12 h => ?_))))⟩))))
 have hN12 := rng_ok hr12
 refine Ob h fun q2 hq14 hK13 => ?_
 clear h
 refine Jx1 (fun L w' => ∃ κ', ∃ s3 : (List Int), ∃ ab aa, L = [(3, .slice ab s3.length aa)] ∧ Stp [2] K9 w8 κ' w' ∧ Oc E6 2 κ' w' 2 ab aa s3 ∧ q2 = Sum.inr s3) ?_ ?_
 refine Jv (Jy1 (fun k L w' => ∃ κ' v4, ∃ s1 : (List Int), ∃ ac ad, L = [(0, vi p0), (3, .slice ac s1.length ad), (4, vi v4)] ∧ Stp [2] K9 w8 κ' w' ∧ Oc E6 2 κ' w' 2 ac ad s1 ∧ 0 ≤ v4 ∧ Int.toNat (p0 - v4) = k ∧ cntM i_AllOf_b0 k v4 s1 = some q2) ⟨_, _, ⟨K9, 0, (([] : List Int) : (List Int)), ah, ae, R, (Jx2 _ _).wk R, f11, (by decide), (by simp), hq14⟩, (KM R)⟩ ?_)
 rintro k _ w19 ⟨K20, v4, s1, ac, ad, rfl, S21, f22, hj12, hJ12, h⟩
 rcases k with _ | k
 have hk23 := h; obtain ⟨o12, h⟩ := ex_eq (Sum.inr (Sum.inl s1) : (List Int) ⊕ (((List Int)) ⊕ ((List Int))))
 have hc12 : decide (v4 < p0) = false := Jo2 (by omega)
 refine Jq (Je [2, 2, 2] R (Jb 3 R (Jw2 R hc12 (Jc1 (Jt (Jt ?_))))))
 cases h
 have h := hk23
 refine Jb1 ?_
 cases h
 exact Jw1 _ ⟨K20, (s1 : (List Int)), ac, ad, R, S21.wk R, f22, R⟩ (KM R)
 obtain ⟨o12, h, hk23⟩ := BI h; unfold i_AllOf_b0 at h
 have hc12 : decide (v4 < p0) = true := Jn2 (by omega)
 refine Jq (Je [2, 2, 2] R (Jb 3 R (Jv2 R hc12 (Js (Jp (Jq (Jv (Ja [2, 2, 1, 1, 2] R (Jn 2 R (Jn1 (κ := K20) (E := E6) 3 [] (parts := [(0, .tmp 18)]) (cells := [vi v4]) (xs := ([v4] : List Int)) R R R R R R Y40 Tryzinfo2 R R R R R R R R R R ⟨[vi v4], [], Zl K20 w19 [], Zl K20 w19 [], R, Zl.sp (l1 := []) (l2 := []) R, Zl.sr (l1 := []) (l2 := []), R, R⟩ fun aj ak w24 K25 S26 f27 => ⟨tv, Ob h fun x20 hx20 h => Jm1 (κ := K25) (E := E6) 2 [] R R R R R R R R R Y40 Tryzinfo2 R R R R (f22.stp S26 R R) (Sl.srcP (pu_int _) f27.rdc) sy_false hx20 R fun af ai w29 K30 S31 f32 => ⟨tv, Jc 1 R (Jz (Jp (Ja [2, 2, 2] R (Jc 3 R ?_))))⟩⟩))))))))))
 have hw12 : IntKind.wrap .i64 (v4 + 1) = v4 + 1 := wr1 hj12 (Jm2 hc12) hN12
 rw [hw12]
 have hc12 := Jm2 hc12
 cases h
 exact Jz1 fun a ha => ⟨k, _, Ja3 _, ⟨K30, v4 + 1, (x20 : (List Int)), af, ai, R, (S21.tr (S26.tr S31)).wk R, f32, by omega, by omega, hk23⟩, (ha.mm R)⟩
 rintro _ w15 ⟨K16, s3, ab, aa, rfl, S17, f18, rfl⟩
 have h := hK13
 dsimp only [aft] at h
 refine Jp (Je [2, 2] R (Jb 2 R (Ju (Ja2 (l := [.tmp 2]) V75 (Jp2 R R) R ?_))))
 cases h
 exact ⟨K16, ab, aa, R, (hE.stp (S5.tr (S10.tr S17)) R R), f18⟩
 refine JT fun h => Jx R (Je [2] R (Jb 1 R (Ju (Jw (Ja2 (l := [.tmp 2]) V75 (Jp2 R R) R ?_)))))
 cases h
 exact ⟨K4, none, 0, R, (hE.stp S5 R R), Ow.nil⟩
theorem i_markAll_ok {w : World} {κ : Col} {a0 u0} {p0 : (List Bool)} {a1 u1} {p1 : (List Int)} (g0 : Oc Ep.bool 4 κ w 2 a0 u0 p0) (g1 : Rd (Rp.int .i64) κ w 0 a1 u1 p1) {r : (List Bool)} (h : i_markAll p0 p1 = some r) : Ret Tryz.prog 123 [.slice a0 p0.length u0, .slice a1 p1.length u1] w (fun v w' => ∃ (κ' : Col), v = .tuple #[] ∧ Ent κ w κ' w' ∧ Oc Ep.bool 4 κ' w' 2 a0 u0 r ∧ p0.length = r.length) := by
 unfold i_markAll at h
 refine Ret.enter F123 R N123 R ?_
 dsimp only [envOf]
 have hE := Ent.refl κ w
 refine Je [2, 2, 2] R (Jn 1 R (Jf R (Je2 U40 R R) (Jb 1 R ?_)))
 have hN1 : (p1.length : Int) ≤ 9223372036854775807 := g1.len_le
 refine Ob h fun q2 hq3 hK2 => ?_
 clear h
 refine Jx1 (fun L w' => ∃ κ', ∃ s3 : (List Bool), L = [] ∧ Stp [2] κ w κ' w' ∧ Oc Ep.bool 4 κ' w' 2 a0 u0 s3 ∧ p0.length = s3.length ∧ q2 = Sum.inr s3) ?_ ?_
 refine Jv (Jy1 (fun k L w' => ∃ κ' v8, ∃ s1 : (List Bool), L = [(0, .slice a0 p0.length u0), (6, .slice a1 p1.length u1), (7, vi (p1.length : Int)), (8, vi v8)] ∧ Stp [2] κ w κ' w' ∧ Oc Ep.bool 4 κ' w' 2 a0 u0 s1 ∧ p0.length = s1.length ∧ 0 ≤ v8 ∧ Int.toNat ((p1.length : Int) - v8) = k ∧ cntM (i_markAll_b0 p1) k v8 s1 = some q2) ⟨_, _, ⟨κ, 0, (p0 : (List Bool)), R, (Jx2 _ _).wk R, g0, R, (by decide), (by simp), hq3⟩, (KM R)⟩ ?_)
 rintro k _ w9 ⟨K10, v8, s1, rfl, S11, f12, hn13, hj1, hJ1, h⟩
 rcases k with _ | k
 have hk14 := h; obtain ⟨o1, h⟩ := ex_eq (Sum.inr (Sum.inl s1) : (List Bool) ⊕ (((List Bool)) ⊕ ((List Bool))))
 have hc1 : decide (v8 < (p1.length : Int)) = false := Jo2 (by omega)
 refine Je [2] R (Jb 1 R (Jq (Jw2 R hc1 (Jc1 (Jt (Jt ?_))))))
 cases h
 have h := hk14
 refine Jb1 ?_
 cases h
 exact Jw1 _ ⟨K10, (s1 : (List Bool)), R, S11.wk R, f12, hn13, R⟩ KN
 obtain ⟨o1, h, hk14⟩ := BI h; unfold i_markAll_b0 at h
 have hc1 : decide (v8 < (p1.length : Int)) = true := Jn2 (by omega)
 refine Je [2] R (Jb 1 R (Jq (Jv2 R hc1 (Js (Jp (Jq (Jv (Je [2, 1, 2] R (Ob h fun x10 hx10 h => Jf R (Jf2 g1 hx10 U40 Z2 R R R R) (Jl tv R R R R (Jc2 I2 R R (hvE ((g1.stp S11 R R).gInt hx10))) (Jb 1 R (Ja [2, 2, 2, 1] R (Jn 2 R (Ob h fun x14 hx14 h => Jf R (Jf2 f12.rdc hx14 U135 Z4 R R hn13 R) (Ob h fun y256 hy256 h => Jk1 (κ := K10) (E := Ep.bool) 2 [] R R R R R R R R Z4 R R R R f12 hy256 fun w16 K17 S18 f19 => ⟨tv, ?_⟩)))))))))))))))
 have hn20 : p0.length = y256.length := hn13.trans (Jt2 hy256).2.2.2.symm
 refine Jo (Jz (Jp (Ja [2, 2] R (Jc 2 R ?_))))
 have hw1 : IntKind.wrap .i64 (v8 + 1) = v8 + 1 := wr1 hj1 (Jm2 hc1) hN1
 rw [hw1]
 have hc1 := Jm2 hc1
 cases h
 exact Jz1 fun a ha => ⟨k, _, Ja3 _, ⟨K17, v8 + 1, (y256 : (List Bool)), R, (S11.tr S18).wk R, f19, hn20, by omega, by omega, hk14⟩, (ha.mm R)⟩
 rintro _ w4 ⟨K5, s3, rfl, S6, f7, hn8, rfl⟩
 have h := hK2
 dsimp only [aft] at h
 refine DN.end0 V123 ?_
 cases h
 exact ⟨K5, R, (hE.stp S6 R R), f7, hn8⟩
theorem i_loopsIn_2_ok {w : World} {κ : Col} {p0 : Int} {a1 u1} {c0 : (List Int)} {b1} (g1 : Oc E6 2 κ w 2 a1 u1 c0) (gb1 : Bc κ w 3 b1 40 [.slice a1 c0.length u1]) {r : (List Int)} (h : i_loopsIn_2 p0 c0 = some r) : Ret Tryz.prog 153 [vi p0, .pointer (some ⟨b1, 0, none⟩)] w (fun v w' => ∃ (κ' : Col) (ma0 : Option Addr) (mu0 : Nat), v = .tuple #[] ∧ Ent κ w κ' w' ∧ Oc E6 2 κ' w' 2 ma0 mu0 r ∧ Bc κ' w' 3 b1 40 [.slice ma0 r.length mu0]) := by
 unfold i_loopsIn_2 at h
 refine Ret.enter F153 R N153 R ?_
 dsimp only [envOf]
 have hE := Ent.refl κ w
 refine Ja [1, 2, 1, 1, 1] R (Jl tv R R R R (Jc2 I40 R R (hvE (gb1.ld 0 R R))) (Jn 1 R (Jn1 (κ := κ) (E := E6) 4 [] (parts := [(0, .tmp 4)]) (cells := [vi p0]) (xs := ([p0] : List Int)) R R R R R R Y40 Tryzinfo2 R R R R R R R R R R ⟨[vi p0], [], Zl κ w [], Zl κ w [], R, Zl.sp (l1 := []) (l2 := []) R, Zl.sr (l1 := []) (l2 := []), R, R⟩ fun a5 u5 w1 K2 S3 f4 => ⟨tv, Ob h fun x6 hx6 h => Jm1 (κ := K2) (E := E6) 2 [] R R R R R R R R R Y40 Tryzinfo2 R R R R (g1.stp S3 R R) (Sl.srcP (pu_int _) f4.rdc) sy_false hx6 R fun a6 u6 w6 K7 S8 f9 => ⟨tv, Jj1 (κ := K7) 3 (vc := [.slice a6 x6.length u6]) R R R R R R R Z40 R R (gb1.stp (S3.tr S8) R R) R fun w11 S12 f13 => ⟨tv, Jo (DN.end0 V153 ?_)⟩⟩⟩)))
 cases h
 exact ⟨K7, a6, u6, R, (hE.stp (S3.tr (S8.tr S12)) R R), (f9.stp S12 R R), f13⟩
theorem i_loopsIn_3_ok {w : World} {κ : Col} {p0 : Int} {a1 u1} {c0 : (List Int)} {b1} (g1 : Oc E6 2 κ w 2 a1 u1 c0) (gb1 : Bc κ w 3 b1 40 [.slice a1 c0.length u1]) {r : (List Int)} (h : i_loopsIn_3 p0 c0 = some r) : Ret Tryz.prog 154 [vi p0, .pointer (some ⟨b1, 0, none⟩)] w (fun v w' => ∃ (κ' : Col) (ma0 : Option Addr) (mu0 : Nat), v = .tuple #[] ∧ Ent κ w κ' w' ∧ Oc E6 2 κ' w' 2 ma0 mu0 r ∧ Bc κ' w' 3 b1 40 [.slice ma0 r.length mu0]) := by
 unfold i_loopsIn_3 at h
 refine Ret.enter F154 R N154 R ?_
 dsimp only [envOf]
 have hE := Ent.refl κ w
 refine Ja [1, 2, 1, 1, 1] R (Jl tv R R R R (Jc2 I40 R R (hvE (gb1.ld 0 R R))) (Jn 1 R (Jn1 (κ := κ) (E := E6) 4 [] (parts := [(0, .tmp 4)]) (cells := [vi p0]) (xs := ([p0] : List Int)) R R R R R R Y40 Tryzinfo2 R R R R R R R R R R ⟨[vi p0], [], Zl κ w [], Zl κ w [], R, Zl.sp (l1 := []) (l2 := []) R, Zl.sr (l1 := []) (l2 := []), R, R⟩ fun a5 u5 w1 K2 S3 f4 => ⟨tv, Ob h fun x6 hx6 h => Jm1 (κ := K2) (E := E6) 2 [] R R R R R R R R R Y40 Tryzinfo2 R R R R (g1.stp S3 R R) (Sl.srcP (pu_int _) f4.rdc) sy_false hx6 R fun a6 u6 w6 K7 S8 f9 => ⟨tv, Jj1 (κ := K7) 3 (vc := [.slice a6 x6.length u6]) R R R R R R R Z40 R R (gb1.stp (S3.tr S8) R R) R fun w11 S12 f13 => ⟨tv, Jo (DN.end0 V154 ?_)⟩⟩⟩)))
 cases h
 exact ⟨K7, a6, u6, R, (hE.stp (S3.tr (S8.tr S12)) R R), (f9.stp S12 R R), f13⟩
theorem slices_Sort_I_int64_ok {w : World} {κ : Col} {a0 u0} {p0 : (List Int)} (g0 : Oc E6 2 κ w 2 a0 u0 p0) {r : (List Int)} (h : slices_Sort_I_int64 p0 = some r) : Ret Tryz.prog 138 [.slice a0 p0.length u0] w (fun v w' => ∃ (κ' : Col), v = .tuple #[] ∧ Ent κ w κ' w' ∧ Oc E6 2 κ' w' 2 a0 u0 r ∧ p0.length = r.length) := by
  unfold slices_Sort_I_int64 at h
  split at h
  · rename_i hh
    cases h
    exact sort_ok (fun blk off cap zs w hH hb hz => Tryz.slices_Sort_int blk off cap zs w hH hb hz) g0 hh.1 hh.2
  · split at h
    · rename_i hh
      cases h
      exact sort_nil Tryz.slices_Sort_int_none g0 hh
    · cases h
theorem slices_SortFunc_I_I_ok {w : World} {κ : Col} {a0 u0} {p0 : (List (List Int))} (g0 : Oc (Ep.fz (Rp.sl (Rp.int .i64))) 40 κ w 2 a0 u0 p0) {r : (List (List Int))} (h : slices_SortFunc_I_I p0 = some r) : Ret Tryz.prog 155 [.slice a0 p0.length u0, .func (.func 156) #[] #[]] w (fun v w' => ∃ (κ' : Col), v = .tuple #[] ∧ Ent κ w κ' w' ∧ Oc (Ep.fz (Rp.sl (Rp.int .i64))) 40 κ' w' 2 a0 u0 r ∧ p0.length = r.length) := by
  unfold slices_SortFunc_I_I at h
  split at h
  · rename_i hh
    cases h
    exact sortf_ok Tryz.slices_Compare (Tryz.slices_SortFunc_none (α := Nat)) (@fun α _ enc h1 cf hO blk off cap d w hc hh hb hs => Tryz.slices_SortFunc (α := α) enc h1 cf hO 156 #[] blk off cap d w Tryz.call156 hc hh hb hs) g0 hh.1 (fun l hl => by have := List.all_eq_true.1 hh.2 l hl; cases l <;> simp_all)
  · cases h
theorem cmp_isNaN_int64_ok {w : World} {κ : Col} {p0 : Int}  {r : Bool} (h : cmp_isNaN_int64 p0 = some r) : Ret Tryz.prog 192 [vi p0] w (fun v w' => ∃ (κ' : Col), v = .bool r ∧ Ent κ w κ' w') := by
 unfold cmp_isNaN_int64 at h
 refine Ret.enter F192 R N192 R ?_
 dsimp only [envOf]
 have hE := Ent.refl κ w
 refine Je [2] R (Jb 1 R (Je [2, 2, 2, 2] R (Jb 4 R (Ju (Ja2 (l := [.tmp 2]) V192 (Jp2 R R) R ?_)))))
 cases h
 exact ⟨κ, R, hE⟩
theorem slices_isNaN_int64_ok {w : World} {κ : Col} {p0 : Int}  {r : Bool} (h : slices_isNaN_int64 p0 = some r) : Ret Tryz.prog 173 [vi p0] w (fun v w' => ∃ (κ' : Col), v = .bool r ∧ Ent κ w κ' w') := by
 unfold slices_isNaN_int64 at h
 refine Ret.enter F173 R N173 R ?_
 dsimp only [envOf]
 have hE := Ent.refl κ w
 refine Je [2] R (Jb 1 R (Je [2, 2, 2, 2] R (Jb 4 R (Ju (Ja2 (l := [.tmp 2]) V173 (Jp2 R R) R ?_)))))
 cases h
 exact ⟨κ, R, hE⟩
theorem l_eqInt64S_ok {w : World} {κ : Col} {a0 u0} {p0 : (List Int)} {a1 u1} {p1 : (List Int)} (g0 : Rd (Rp.int .i64) κ w 0 a0 u0 p0) (g1 : Rd (Rp.int .i64) κ w 0 a1 u1 p1) {r : Bool} (h : l_eqInt64S p0 p1 = some r) : Ret Tryz.prog 20 [.slice a0 p0.length u0, .slice a1 p1.length u1] w (fun v w' => ∃ (κ' : Col), v = .bool r ∧ Ent κ w κ' w') := by
 unfold l_eqInt64S at h
 refine Ret.enter F20 R N20 R ?_
 dsimp only [envOf]
 have hE := Ent.refl κ w
 refine Je [2] R (Jb 1 R (Jq (Je [2, 2, 2, 2, 2] R (Jn 1 R (Jf R (Je2 U40 R R) (Jn 1 R (Jf R (Je2 U40 R R) (Jb 1 R ?_))))))))
 revert h
 cases ht1 : ((p0.length : Int) != (p1.length : Int))
 refine JF fun h => Jy R (Js (Jp (Jq (Je [2] R (Jb 1 R ?_)))))
 have hN2 : (p0.length : Int) ≤ 9223372036854775807 := g0.len_le
 refine Ob h fun q2 hq4 hK3 => ?_
 clear h
 refine Jx1 (fun L w' => ∃ κ', L = [] ∧ Stp [] κ w κ' w' ∧ q2 = Sum.inr ()) ?_ ?_
 refine Jv (Jy1 (fun k L w' => ∃ κ' v5, L = [(0, .slice a0 p0.length u0), (1, .slice a1 p1.length u1), (5, vi v5)] ∧ Stp [] κ w κ' w' ∧ 0 ≤ v5 ∧ Int.toNat ((p0.length : Int) - v5) = k ∧ cntM (l_eqInt64S_b0 p0 p1) k v5 () = some q2) ⟨_, _, ⟨κ, 0, R, (Jx2 _ _).wk R, (by decide), (by simp), hq4⟩, (KM R)⟩ ?_)
 rintro k _ w8 ⟨K9, v5, rfl, S10, hj2, hJ2, h⟩
 rcases k with _ | k
 have hk11 := h; obtain ⟨o2, h⟩ := ex_eq (Sum.inr (Sum.inl ()) : Bool ⊕ ((Unit) ⊕ (Unit)))
 have hc2 : decide (v5 < (p0.length : Int)) = false := Jo2 (by omega)
 refine Jq (Je [2, 2, 2, 2] R (Jn 2 R (Jf R (Je2 U40 R R) (Jb 1 R (Jw2 R hc2 (Jc1 (Jt (Jt ?_))))))))
 cases h
 have h := hk11
 refine Jb1 ?_
 cases h
 exact Jw1 _ ⟨K9, R, S10.wk R, R⟩ KN
 obtain ⟨o2, h, hk11⟩ := BI h; unfold l_eqInt64S_b0 at h
 have hc2 : decide (v5 < (p0.length : Int)) = true := Jn2 (by omega)
 refine Jq (Je [2, 2, 2, 2] R (Jn 2 R (Jf R (Je2 U40 R R) (Jb 1 R (Jv2 R hc2 (Js (Jp (Jq (Jv (Jq (Js1 (κ := K9) [0] none [(0, 2), (1, 2), (2, 2), (4, 2), (5, 2), (6, 2), (3, 0), (7, 0), (8, 2)] [] (by kernel_rfl) (by kernel_rfl) fun w13 S12 => Jn 2 R (Ob h fun x19 hx19 h => Jf R (Jf2 g0 hx19 U40 Z2 R R R R) (Jn 2 R (Ob h fun x23 hx23 h => Jf R (Jf2 g1 hx23 U40 Z2 R R R R) (Jg R (Jc2 I2 R R (hvC ((g0.stp (S10.tr S12) R R).gInt hx19) R)) (Jg R (Jc2 I2 R R (hvC ((g1.stp (S10.tr S12) R R).gInt hx23) R)) (Jn 1 R (Jt1 (Jd ?_)))))))))))))))))))
 revert h
 cases ht16 : (x19 != x23)
 refine JF fun h => Jy R (Js (Jz (Jp (Ja [2, 2, 2] R (Jc 3 R ?_)))))
 have hw2 : IntKind.wrap .i64 (v5 + 1) = v5 + 1 := wr1 hj2 (Jm2 hc2) hN2
 rw [hw2]
 have hc2 := Jm2 hc2
 cases h
 exact Jz1 fun a ha => ⟨k, _, Ja3 _, ⟨K9, v5 + 1, R, (S10.tr S12).wk R, by omega, by omega, hk11⟩, (ha.mm R)⟩
 refine JT fun h => Jx R (Je [2] R (Jb 1 R (Ju (Ja1 (Jw (Jw ?_))))))
 cases h
 obtain rfl := Option.some.inj hk11
 have h := hK3
 dsimp only [aft] at h
 refine Ja1 (Jq2 (Jw (Ja2 (l := [.tmp 4]) V20 (Jp2 R R) R ?_)))
 cases h
 exact ⟨K9, R, (hE.stp (S10.tr S12) R R)⟩
 rintro _ w5 ⟨K6, rfl, S7, rfl⟩
 have h := hK3
 dsimp only [aft] at h
 refine Jp (Je [2] R (Jb 1 R (Ju (Ja2 (l := [.tmp 4]) V20 (Jp2 R R) R ?_))))
 cases h
 exact ⟨K6, R, (hE.stp S7 R R)⟩
 refine JT fun h => Jx R (Je [2] R (Jb 1 R (Ju (Jw (Ja2 (l := [.tmp 4]) V20 (Jp2 R R) R ?_)))))
 cases h
 exact ⟨κ, R, hE⟩
end Go.Proofs.YtcmamhmpoinmnaaGreat
