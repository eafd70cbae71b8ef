/- The walks, part 0. By program. -/
import Derived.Test.YtcmamhmpoinmnaaGreatFnsMBO
import Derived.Test.YtcmamhmpoinmnaaGreatAlBO
set_option linter.unusedVariables false
set_option linter.unusedSimpArgs false
namespace Go.Proofs.YtcmamhmpoinmnaaGreat
open Go Go.Wk Go.Proofs
set_option maxRecDepth 100000
set_option maxHeartbeats 1000000
theorem l_szInt64S_ok {w : World} {κ : Col} {a0 u0} {p0 : (List Int)} {p1 : Int} (g0 : Rd (Rp.int .i64) κ w 0 a0 u0 p0) {r : Int} (h : l_szInt64S p0 p1 = some r) : Ret Tryz.prog 58 [.slice a0 p0.length u0, vi p1] w (fun v w' => ∃ (κ' : Col), v = vi r ∧ Ent κ w κ' w') := by
 unfold l_szInt64S at h
 refine Ret.enter F58 R N58 R ?_
 dsimp only [envOf]
 have hE := Ent.refl κ w
 refine Je [2] R (Jb 1 R (Je [2, 2, 2, 2, 2] R (Jn 2 R (Jf R (Je2 U40 R R) (Jb 2 R (Jq (Je [2, 2] R (Jb 2 R ?_))))))))
 revert h
 cases ht1 : decide ((IntKind.i64.wrap (p1 - (p0.length : Int))) < 0)
 refine JF fun h => Jy R (Js (Jp (Je [2, 2] R (Jb 2 R (Ju (Ja2 (l := [.tmp 4]) V58 (Jp2 R R) R ?_))))))
 cases h
 exact ⟨κ, R, hE⟩
 refine JT fun h => Jx R (Je [2] R (Jb 1 R (Ju (Jw (Ja2 (l := [.tmp 4]) V58 (Jp2 R R) R ?_)))))
 cases h
 exact ⟨κ, R, hE⟩
theorem l_toSig_ok {w : World} {κ : Col} {p0 : Sig}  {r : Sig} (h : l_toSig p0 = some r) : Ret Tryz.prog 12 [.agg #[vi p0.In, vi p0.Out]] w (fun v w' => ∃ (κ' : Col), v = .agg #[vi r.In, vi r.Out] ∧ Ent κ w κ' w') := by
 unfold l_toSig at h
 refine Ret.enter F12 R N12 R ?_
 dsimp only [envOf]
 have hE := Ent.refl κ w
 refine Je [1, 1] R (Jf1 (κ := κ) 2 R R R R R R R fun b1 w1 K2 S3 f4 => ⟨tv, Jg1 (κ := K2) 3 R R R R R X31 R fun b2 w5 K6 S7 f8 => ⟨tv, Jd (Je [1] R (Jg1 (κ := K6) 4 R R R R R X31 R fun b3 w9 K10 S11 f12 => ⟨tv, Jd (Je [2, 1, 2, 1] R (Jf R (Jb2 U23 R Z2 R R) ?_))⟩))⟩⟩)
 have f13 := f4.stp (S7.tr S11) R R
 refine Jl tv R R R R (Jc2 I2 R R (hvE (f13.ld 0 R R))) (Jf R (Jb2 U31 R Z2 R R) (Ji1 (κ := K10) 4 (off := 0) (vc := [vi p0.In]) (cs' := [vi p0.In, vi 0]) R R R R R R R Z2 R R f12 R R fun w14 S15 f16 => ⟨tv, Jd (Je [2, 1, 2, 1] R (Jf R (Jb2 U23 R Z2 R R) (Jl tv R R R R (Jc2 I2 R R (hvE ((f13.stp S15 R R).ld 1 R R))) (Jf R (Jb2 U31 R Z2 R R) (Ji1 (κ := K10) 4 (off := 1) (vc := [vi p0.Out]) (cs' := [vi p0.In, vi p0.Out]) R R R R R R R Z2 R R f16 R R fun w18 S19 f20 => ⟨tv, Jd (Je [1, 1] R (Jl tv R R R R (Jd2 (cs := [vi p0.In, vi p0.Out]) I31 Z31 R R R (haE f20.cells)) (Jj1 (κ := K10) 3 (vc := [vi p0.In, vi p0.Out]) R R R R R R R Z31 R R (f8.stp (S11.tr (S15.tr S19)) R R) R fun w22 S23 f24 => ⟨tv, Jd (Ju (Ja2 (l := [.cell 2 31]) V12 (res_cellA R f24 I31 Z31 R R) R ?_))⟩)))⟩)))))⟩))
 cases h
 exact ⟨K10, R, (hE.stp (S3.tr (S7.tr (S11.tr (S15.tr (S19.tr S23))))) R R)⟩
theorem l_toInt64S_ok {w : World} {κ : Col} {a0 u0} {p0 : (List Int)} (g0 : Rd (Rp.int .i64) κ w 0 a0 u0 p0) {r : (List Int)} (h : l_toInt64S p0 = some r) : Ret Tryz.prog 68 [.slice a0 p0.length u0] w (fun v w' => ∃ (κ' : Col) (ra0 : Option Addr) (ru0 : Nat), v = .slice ra0 r.length ru0 ∧ Ent κ w κ' w' ∧ Oc E6 2 κ' w' 2 ra0 ru0 r) := by
 unfold l_toInt64S at h
 refine Ret.enter F68 R N68 R ?_
 dsimp only [envOf]
 have hE := Ent.refl κ w
 refine Je [2] R (Jb 1 R (Je [2, 2, 1, 2] R (Jn 1 R (Jf R (Je2 U40 R R) (Ob h fun x7 hx7 h => Jl1 (κ := κ) (E := E6) (z := (0 : Int)) 2 R R R R R R R Y40 Tryzinfo2 R R R R R (fun _ _ _ => R) (Ju2 hx7) fun a7 u7 w1 K2 S3 f4 => ⟨tv, Jb 1 R (Jq (Je [2] R (Jb 1 R ?_)))⟩)))))
 have hN5 : (p0.length : Int) ≤ 9223372036854775807 := g0.len_le
 refine Ob h fun q2 hq7 hK6 => ?_
 clear h
 refine Jx1 (fun L w' => ∃ κ', ∃ s3 : (List Int), L = [(3, .slice a7 x7.length u7)] ∧ Stp [2] K2 w1 κ' w' ∧ Oc E6 2 κ' w' 2 a7 u7 s3 ∧ x7.length = s3.length ∧ q2 = Sum.inr s3) ?_ ?_
 refine Jv (Jy1 (fun k L w' => ∃ κ' v4, ∃ s1 : (List Int), L = [(0, .slice a0 p0.length u0), (3, .slice a7 x7.length u7), (4, vi v4)] ∧ Stp [2] K2 w1 κ' w' ∧ Oc E6 2 κ' w' 2 a7 u7 s1 ∧ x7.length = s1.length ∧ 0 ≤ v4 ∧ Int.toNat ((p0.length : Int) - v4) = k ∧ cntM (l_toInt64S_b0 p0) k v4 s1 = some q2) ⟨_, _, ⟨K2, 0, (x7 : (List Int)), R, (Jx2 _ _).wk R, f4, R, (by decide), (by simp), hq7⟩, (KM R)⟩ ?_)
 rintro k _ w13 ⟨K14, v4, s1, rfl, S15, f16, hn17, hj5, hJ5, h⟩
 rcases k with _ | k
 have hk18 := h; obtain ⟨o5, h⟩ := ex_eq (Sum.inr (Sum.inl s1) : (List Int) ⊕ (((List Int)) ⊕ ((List Int))))
 have hc5 : decide (v4 < (p0.length : Int)) = false := Jo2 (by omega)
 refine Jq (Je [2, 2, 2, 2] R (Jn 2 R (Jf R (Je2 U40 R R) (Jb 1 R (Jw2 R hc5 (Jc1 (Jt (Jt ?_))))))))
 cases h
 have h := hk18
 refine Jb1 ?_
 cases h
 exact Jw1 _ ⟨K14, (s1 : (List Int)), R, S15.wk R, f16, hn17, R⟩ (KM R)
 obtain ⟨o5, h, hk18⟩ := BI h; unfold l_toInt64S_b0 at h
 have hc5 : decide (v4 < (p0.length : Int)) = true := Jn2 (by omega)
 refine Jq (Je [2, 2, 2, 2] R (Jn 2 R (Jf R (Je2 U40 R R) (Jb 1 R (Jv2 R hc5 (Js (Jp (Jq (Jv (Ja [2, 2, 2, 2, 2, 1, 2, 1] R (Jn 4 R (Ob h fun x18 hx18 h => Jf R (Jf2 g0 hx18 U40 Z2 R R R R) (Jl tv R R R R (Jc2 I2 R R (hvE ((g0.stp (S3.tr S15) R R).gInt hx18))) (Ob h fun x20 hx20 h => Jf R (Jf2 f16.rdc hx20 U40 Z2 R R hn17 R) (Ob h fun y14 hy14 h => Jk1 (κ := K14) (E := E6) 2 [] R R R R R R R R Z2 R R R R f16 hy14 fun w20 K21 S22 f23 => ⟨tv, ?_⟩)))))))))))))))
 have hn24 : x7.length = y14.length := hn17.trans (Jt2 hy14).2.2.2.symm
 refine Jo (Jz (Jp (Ja [2, 2, 2] R (Jc 3 R ?_))))
 have hw5 : IntKind.wrap .i64 (v4 + 1) = v4 + 1 := wr1 hj5 (Jm2 hc5) hN5
 rw [hw5]
 have hc5 := Jm2 hc5
 cases h
 exact Jz1 fun a ha => ⟨k, _, Ja3 _, ⟨K21, v4 + 1, (y14 : (List Int)), R, (S15.tr S22).wk R, f23, hn24, by omega, by omega, hk18⟩, (ha.mm R)⟩
 rintro _ w8 ⟨K9, s3, rfl, S10, f11, hn12, rfl⟩
 have h := hK6
 dsimp only [aft] at h
 refine Jp (Je [2, 2] R (Jb 2 R (Ju (Ja2 (l := [.tmp 2]) V68 (Jp2 R R) R ?_))))
 cases h
 exact ⟨K9, a7, u7, (by simp only [hn12]), (hE.stp (S3.tr S10) R R), f11⟩
theorem s_l1In_ok {w : World} {κ : Col} {p0 : Int} {p1 : Int} {p2 : Int}  {r : Bool} (h : s_l1In p0 p1 p2 = some r) : Ret Tryz.prog 77 [vi p0, vi p1, vi p2] w (fun v w' => ∃ (κ' : Col), v = .bool r ∧ Ent κ w κ' w') := by
 unfold s_l1In at h
 refine Ret.enter F77 R N77 R ?_
 dsimp only [envOf]
 have hE := Ent.refl κ w
 refine Je [2] R (Jb 1 R (Je [2, 2, 2, 2, 2, 2, 2, 2, 2] R (Jn 4 R (Ob h fun p14 h hK1 => Ju1 [(4, 2), (5, 2), (6, 2), (7, 2)] [(8, 2)] (fun L w' => L = [(6, .bool false), (14, .bool p14)] ∧ ∃ κ', Stp [] κ w κ' w') tv ?_ ?_))))
 revert h
 cases ht2 : decide (p1 ≤ p0)
 refine JF fun h => Jn 4 R ?_
 cases h
 exact Jv1 _ tv ⟨R, _, (Jx2 _ _).wk R⟩ (KM R)
 refine JT fun h => Jn 4 R ?_
 cases h
 exact Jv1 _ tv ⟨R, _, (Jx2 _ _).wk R⟩ (KM R)
 rintro _ w3 _ ⟨rfl, K4, S5⟩
 have h := hK1
 refine Jb 1 R (Ju (Ja2 (l := [.tmp 6]) V77 (Jp2 R R) R ?_))
 cases h
 exact ⟨K4, R, (hE.stp S5 R R)⟩
theorem s_l23Power_ok {w : World} {κ : Col} {p0 : Int}  {r : Int} (h : s_l23Power p0 = some r) : Ret Tryz.prog 93 [vi p0] w (fun v w' => ∃ (κ' : Col), v = vi r ∧ Ent κ w κ' w') := by
 unfold s_l23Power at h
 refine Ret.enter F93 R N93 R ?_
 dsimp only [envOf]
 have hE := Ent.refl κ w
 refine Je [2] R (Jb 1 R (Je [2] R (Jb 1 R (Jq (Ob h fun q2 hq3 hK2 => ?_)))))
 clear h
 refine Jx1 (fun L w' => ∃ κ', ∃ s3 : Int × Int, L = [(3, vi s3.2)] ∧ Stp [] κ w κ' w' ∧ q2 = Sum.inr s3) ?_ ?_
 refine Jv (Jy1 (fun k L w' => ∃ κ', ∃ s1 : Int × Int, L = [(0, vi s1.1), (3, vi s1.2)] ∧ Stp [] κ w κ' w' ∧ whileM s_l23Power_b0 k s1 = some q2) ⟨_, _, ⟨κ, ((p0 : Int), (1 : Int)), R, (Jx2 _ _).wk R, hq3⟩, (KM R)⟩ ?_)
 rintro k _ w7 ⟨K8, s1, rfl, S9, h⟩
 rcases k with _ | k
 cases h
 obtain ⟨o1, h, hk10⟩ := BI h; unfold s_l23Power_b0 at h
 refine Jq (Je [2, 2] R (Jb 2 R ?_))
 revert h
 cases ht11 : decide (0 < s1.1)
 refine JF fun h => Jy R (Jc1 (Jt (Jt ?_)))
 cases h
 have h := hk10
 refine Jb1 ?_
 cases h
 exact Jw1 _ ⟨K8, ((s1.1 : Int), (s1.2 : Int)), R, S9.wk R, R⟩ (KM R)
 refine JT fun h => Jx R (Js (Jp (Jq (Jv (Ja [2, 2, 2] R (Jc 3 R (Jz (Jp (Ja [2, 2, 2] R (Jc 3 R ?_))))))))))
 cases h
 exact Jz1 fun a ha => ⟨k, _, Ja3 _, ⟨K8, (((IntKind.i64.wrap (s1.1 - 1)) : Int), ((IntKind.i64.wrap (s1.2 * 2)) : Int)), R, S9.wk R, hk10⟩, (ha.mm R)⟩
 rintro _ w4 ⟨K5, s3, rfl, S6, rfl⟩
 have h := hK2
 dsimp only [aft] at h
 refine Jp (Je [2, 2] R (Jb 2 R (Ju (Ja2 (l := [.tmp 2]) V93 (Jp2 R R) R ?_))))
 cases h
 exact ⟨K5, R, (hE.stp S6 R R)⟩
theorem s_l24Both_ok {w : World} {κ : Col} {p0 : Int}  {r : Bool} (h : s_l24Both p0 = some r) : Ret Tryz.prog 133 [vi p0] w (fun v w' => ∃ (κ' : Col), v = .bool r ∧ Ent κ w κ' w') := by
 unfold s_l24Both at h
 refine Ret.enter F133 R N133 R ?_
 dsimp only [envOf]
 have hE := Ent.refl κ w
 refine Je [2] R (Jb 1 R (Je [2, 2, 2, 2, 2, 2, 2, 2, 2, 2, 2] R (Jn 3 R (Ob h fun p8 h hK1 => Ju1 [(3, 2), (4, 2), (5, 2)] [(6, 2), (7, 2), (8, 2), (9, 2), (10, 2)] (fun L w' => L = [(0, vi p0), (2, .bool false), (8, .bool p8)] ∧ ∃ κ', Stp [] κ w κ' w') tv ?_ ?_))))
 revert h
 cases ht2 : (p0 == 2)
 refine JF fun h => Jn 3 R ?_
 cases h
 exact Jv1 _ tv ⟨R, _, (Jx2 _ _).wk R⟩ (KM R)
 refine JT fun h => Jn 3 R ?_
 cases h
 exact Jv1 _ tv ⟨R, _, (Jx2 _ _).wk R⟩ (KM R)
 rintro _ w3 _ ⟨rfl, K4, S5⟩
 have h := hK1
 refine Jn 1 R (Ob h fun p12 h hK6 => Ju1 [(7, 2), (8, 2), (9, 2)] [(10, 2)] (fun L w' => L = [(2, .bool false), (12, .bool p12)] ∧ ∃ κ', Stp [] K4 w3 κ' w') tv ?_ ?_)
 revert h
 cases ht7 : p8
 refine JF fun h => Jn 3 R ?_
 cases h
 exact Jv1 _ tv ⟨R, _, (Jx2 _ _).wk R⟩ (KM R)
 refine JT fun h => Jn 3 R ?_
 cases h
 exact Jv1 _ tv ⟨R, _, (Jx2 _ _).wk R⟩ (KM R)
 rintro _ w8 _ ⟨rfl, K9, S10⟩
 have h := hK6
 refine Jb 1 R (Ju (Ja2 (l := [.tmp 2]) V133 (Jp2 R R) R ?_))
 cases h
 exact ⟨K9, R, (hE.stp (S5.tr S10) R R)⟩
theorem s_l25Pair_ok {w : World} {κ : Col} {p0 : Int}  {r : Pair} (h : s_l25Pair p0 = some r) : Ret Tryz.prog 140 [vi p0] w (fun v w' => ∃ (κ' : Col) (ra0 : Option Addr) (ru0 : Nat) (ra1 : Option Addr) (ru1 : Nat), v = .agg #[.slice ra0 r.Ask.length ru0, .slice ra1 r.Give.length ru1] ∧ Ent κ w κ' w' ∧ Oc E6 2 κ' w' 2 ra0 ru0 r.Ask ∧ Oc E6 2 κ' w' 3 ra1 ru1 r.Give) := by
 unfold s_l25Pair at h
 refine Ret.enter F140 R N140 R ?_
 dsimp only [envOf]
 have hE := Ent.refl κ w
 refine Je [1] R (Jg1 (κ := κ) 2 R R R R R X92 R fun b2 w1 K2 S3 f4 => ⟨tv, Jd (Jq (Je [2] R (Jb 1 R (Jv (Jq (Je [2, 2] R (Jb 2 R (Ob h fun q1 h hK5 => Jx1 (fun L w' => ∃ κ', L = [(2, .pointer (some ⟨b2, 0, none⟩)), (3, vi p0), (4, .bool q1)] ∧ Stp [] K2 w1 κ' w') ?_ ?_))))))))⟩)
 revert h
 cases ht9 : (p0 == 1)
 refine JF fun h => Jy R (Ja [2, 2] R (Jc 2 R ?_))
 cases h
 exact Jw1 _ ⟨K2, R, (Jx2 _ _).wk R⟩ (KM R)
 refine JT fun h => Jx R (Js ?_)
 cases h
 exact Jw1 _ ⟨K2, R, (Jx2 _ _).wk R⟩ (KM R)
 rintro _ w6 ⟨K7, rfl, S8⟩
 have h := hK5
 refine Jp ?_
 revert h
 cases ht10 : q1
 refine JF fun h => Jy R (Je [2, 2] R (Jb 2 R ?_))
 revert h
 cases ht21 : (p0 == 2)
 refine JF fun h => Jy R (Je [2, 2] R (Jb 2 R ?_))
 revert h
 cases ht32 : (p0 == 3)
 refine JF fun h => Jy R (Je [2, 2] R (Jb 2 R ?_))
 revert h
 cases ht48 : (p0 == 4)
 refine JF fun h => Jy R (Je [2, 2] R (Jb 2 R ?_))
 revert h
 cases ht64 : (p0 == 6)
 refine JF fun h => Jy R (Js (Jz (Jp (Je [1, 1, 2, 1] R (Jn1 (κ := K7) (E := E6) 3 [] (parts := [(0, .const (vi 2)), (1, .const (vi 3))]) (cells := [vi 2, vi 3]) (xs := ([2, 3] : List Int)) R R R R R R Y40 Tryzinfo2 R R R R R R R R R R ⟨[vi 2], [vi 3], Zl K7 w6 [], Zl K7 w6 [], R, Zl.sp (l1 := []) (l2 := []) R, Zl.sr (l1 := []) (l2 := []), R, ⟨[vi 3], [], Zl K7 w6 [], Zl K7 w6 [], R, Zl.sp (l1 := []) (l2 := []) R, Zl.sr (l1 := []) (l2 := []), R, R⟩⟩ fun aj al w75 K76 S77 f78 => ⟨tv, Jn1 (κ := K76) (E := E6) 4 [] (parts := [(0, .const (vi 1)), (1, .const (vi 3))]) (cells := [vi 1, vi 3]) (xs := ([1, 3] : List Int)) R R R R R R Y40 Tryzinfo2 R R R R R R R R R R ⟨[vi 1], [vi 3], Zl K76 w75 [], Zl K76 w75 [], R, Zl.sp (l1 := []) (l2 := []) R, Zl.sr (l1 := []) (l2 := []), R, ⟨[vi 3], [], Zl K76 w75 [], Zl K76 w75 [], R, Zl.sp (l1 := []) (l2 := []) R, Zl.sr (l1 := []) (l2 := []), R, R⟩⟩ fun ab ao w79 K80 S81 f82 => ⟨tv, Jf R (rn_build (parts := [(0, .tmp 27), (1, .tmp 28)]) (cells := [.slice aj ([2, 3] : List Int).length al, .slice ab ([1, 3] : List Int).length ao]) R R (by kernel_rfl)) (Jj1 (κ := K80) 2 (vc := [.slice aj ([2, 3] : List Int).length al, .slice ab ([1, 3] : List Int).length ao]) R R R R R R R Z92 R R (f4.stp (S8.tr (S77.tr S81)) R R) R fun w84 S85 f86 => ⟨tv, Jd (Ju (Ja2 (l := [.cell 2 92]) V140 (res_cellA R f86 I92 Z92 R R) R ?_))⟩)⟩⟩)))))
 cases h
 exact ⟨(fun b => ren [(3, 2), (4, 3)] (K80 b)), aj, al, ab, ao, R, ((hE.stp (S3.tr (S8.tr (S77.tr (S81.tr S85)))) R R).map (ren [(3, 2), (4, 3)]) R R), ((f78.stp (S81.tr S85) R R).map (ren [(3, 2), (4, 3)]) R R), ((f82.stp S85 R R).map (ren [(3, 2), (4, 3)]) R R)⟩
 refine JT fun h => Jx R (Je [1, 2, 1] R (Jn1 (κ := K7) (E := E6) 3 [] (parts := [(0, .const (vi 0))]) (cells := [vi 0]) (xs := ([0] : List Int)) R R R R R R Y40 Tryzinfo2 R R R R R R R R R R ⟨[vi 0], [], Zl K7 w6 [], Zl K7 w6 [], R, Zl.sp (l1 := []) (l2 := []) R, Zl.sr (l1 := []) (l2 := []), R, R⟩ fun ae ai w65 K66 S67 f68 => ⟨tv, Jf R (rn_build (parts := [(0, .tmp 25)]) (cells := [.slice ae ([0] : List Int).length ai, .slice none 0 0]) R R (by kernel_rfl)) (Jj1 (κ := K66) 2 (vc := [.slice ae ([0] : List Int).length ai, .slice none 0 0]) R R R R R R R Z92 R R (f4.stp (S8.tr S67) R R) R fun w70 S71 f72 => ⟨tv, Jd (Ju (Ja1 (Jw (Ja2 (l := [.cell 2 92]) V140 (res_cellA R f72 I92 Z92 R R) R ?_))))⟩)⟩))
 cases h
 exact ⟨(fun b => ren [(3, 2)] (K66 b)), ae, ai, none, 0, R, ((hE.stp (S3.tr (S8.tr (S67.tr S71))) R R).map (ren [(3, 2)]) R R), ((f68.stp S71 R R).map (ren [(3, 2)]) R R), Ow.nil⟩
 refine JT fun h => Jx R (Je [1, 1, 2, 1] R (Jn1 (κ := K7) (E := E6) 3 [] (parts := [(0, .const (vi 0)), (1, .const (vi 1))]) (cells := [vi 0, vi 1]) (xs := ([0, 1] : List Int)) R R R R R R Y40 Tryzinfo2 R R R R R R R R R R ⟨[vi 0], [vi 1], Zl K7 w6 [], Zl K7 w6 [], R, Zl.sp (l1 := []) (l2 := []) R, Zl.sr (l1 := []) (l2 := []), R, ⟨[vi 1], [], Zl K7 w6 [], Zl K7 w6 [], R, Zl.sp (l1 := []) (l2 := []) R, Zl.sr (l1 := []) (l2 := []), R, R⟩⟩ fun aq an w49 K50 S51 f52 => ⟨tv, Jn1 (κ := K50) (E := E6) 4 [] (parts := [(0, .const (vi 1))]) (cells := [vi 1]) (xs := ([1] : List Int)) R R R R R R Y40 Tryzinfo2 R R R R R R R R R R ⟨[vi 1], [], Zl K50 w49 [], Zl K50 w49 [], R, Zl.sp (l1 := []) (l2 := []) R, Zl.sr (l1 := []) (l2 := []), R, R⟩ fun ac ap w53 K54 S55 f56 => ⟨tv, Jf R (rn_build (parts := [(0, .tmp 20), (1, .tmp 21)]) (cells := [.slice aq ([0, 1] : List Int).length an, .slice ac ([1] : List Int).length ap]) R R (by kernel_rfl)) (Jj1 (κ := K54) 2 (vc := [.slice aq ([0, 1] : List Int).length an, .slice ac ([1] : List Int).length ap]) R R R R R R R Z92 R R (f4.stp (S8.tr (S51.tr S55)) R R) R fun w58 S59 f60 => ⟨tv, Jd (Ju (Ja1 (Jw (Ja2 (l := [.cell 2 92]) V140 (res_cellA R f60 I92 Z92 R R) R ?_))))⟩)⟩⟩))
 cases h
 exact ⟨(fun b => ren [(3, 2), (4, 3)] (K54 b)), aq, an, ac, ap, R, ((hE.stp (S3.tr (S8.tr (S51.tr (S55.tr S59)))) R R).map (ren [(3, 2), (4, 3)]) R R), ((f52.stp (S55.tr S59) R R).map (ren [(3, 2), (4, 3)]) R R), ((f56.stp S59 R R).map (ren [(3, 2), (4, 3)]) R R)⟩
 refine JT fun h => Jx R (Je [1, 1, 2, 1] R (Jn1 (κ := K7) (E := E6) 3 [] (parts := [(0, .const (vi 1))]) (cells := [vi 1]) (xs := ([1] : List Int)) R R R R R R Y40 Tryzinfo2 R R R R R R R R R R ⟨[vi 1], [], Zl K7 w6 [], Zl K7 w6 [], R, Zl.sp (l1 := []) (l2 := []) R, Zl.sr (l1 := []) (l2 := []), R, R⟩ fun aa ak w33 K34 S35 f36 => ⟨tv, Jn1 (κ := K34) (E := E6) 4 [] (parts := [(0, .const (vi 0))]) (cells := [vi 0]) (xs := ([0] : List Int)) R R R R R R Y40 Tryzinfo2 R R R R R R R R R R ⟨[vi 0], [], Zl K34 w33 [], Zl K34 w33 [], R, Zl.sp (l1 := []) (l2 := []) R, Zl.sr (l1 := []) (l2 := []), R, R⟩ fun ah af w37 K38 S39 f40 => ⟨tv, Jf R (rn_build (parts := [(0, .tmp 15), (1, .tmp 16)]) (cells := [.slice aa ([1] : List Int).length ak, .slice ah ([0] : List Int).length af]) R R (by kernel_rfl)) (Jj1 (κ := K38) 2 (vc := [.slice aa ([1] : List Int).length ak, .slice ah ([0] : List Int).length af]) R R R R R R R Z92 R R (f4.stp (S8.tr (S35.tr S39)) R R) R fun w42 S43 f44 => ⟨tv, Jd (Ju (Ja1 (Jw (Ja2 (l := [.cell 2 92]) V140 (res_cellA R f44 I92 Z92 R R) R ?_))))⟩)⟩⟩))
 cases h
 exact ⟨(fun b => ren [(3, 2), (4, 3)] (K38 b)), aa, ak, ah, af, R, ((hE.stp (S3.tr (S8.tr (S35.tr (S39.tr S43)))) R R).map (ren [(3, 2), (4, 3)]) R R), ((f36.stp (S39.tr S43) R R).map (ren [(3, 2), (4, 3)]) R R), ((f40.stp S43 R R).map (ren [(3, 2), (4, 3)]) R R)⟩
 refine JT fun h => Jx R (Je [1, 2, 1] R (Jn1 (κ := K7) (E := E6) 3 [] (parts := [(0, .const (vi 2))]) (cells := [vi 2]) (xs := ([2] : List Int)) R R R R R R Y40 Tryzinfo2 R R R R R R R R R R ⟨[vi 2], [], Zl K7 w6 [], Zl K7 w6 [], R, Zl.sp (l1 := []) (l2 := []) R, Zl.sr (l1 := []) (l2 := []), R, R⟩ fun am ad w22 K23 S24 f25 => ⟨tv, Jf R (rn_build (parts := [(0, .tmp 11)]) (cells := [.slice am ([2] : List Int).length ad, .slice none 0 0]) R R (by kernel_rfl)) (Jj1 (κ := K23) 2 (vc := [.slice am ([2] : List Int).length ad, .slice none 0 0]) R R R R R R R Z92 R R (f4.stp (S8.tr S24) R R) R fun w27 S28 f29 => ⟨tv, Jd (Ju (Ja1 (Jw (Ja2 (l := [.cell 2 92]) V140 (res_cellA R f29 I92 Z92 R R) R ?_))))⟩)⟩))
 cases h
 exact ⟨(fun b => ren [(3, 2)] (K23 b)), am, ad, none, 0, R, ((hE.stp (S3.tr (S8.tr (S24.tr S28))) R R).map (ren [(3, 2)]) R R), ((f25.stp S28 R R).map (ren [(3, 2)]) R R), Ow.nil⟩
 refine JT fun h => Jx R (Je [1, 2, 1] R (Jn1 (κ := K7) (E := E6) 3 [] (parts := [(0, .const (vi 1))]) (cells := [vi 1]) (xs := ([1] : List Int)) R R R R R R Y40 Tryzinfo2 R R R R R R R R R R ⟨[vi 1], [], Zl K7 w6 [], Zl K7 w6 [], R, Zl.sp (l1 := []) (l2 := []) R, Zl.sr (l1 := []) (l2 := []), R, R⟩ fun a7 u7 w11 K12 S13 f14 => ⟨tv, Jf R (rn_build (parts := [(0, .tmp 7)]) (cells := [.slice a7 ([1] : List Int).length u7, .slice none 0 0]) R R (by kernel_rfl)) (Jj1 (κ := K12) 2 (vc := [.slice a7 ([1] : List Int).length u7, .slice none 0 0]) R R R R R R R Z92 R R (f4.stp (S8.tr S13) R R) R fun w16 S17 f18 => ⟨tv, Jd (Ju (Ja1 (Jw (Ja2 (l := [.cell 2 92]) V140 (res_cellA R f18 I92 Z92 R R) R ?_))))⟩)⟩))
 cases h
 exact ⟨(fun b => ren [(3, 2)] (K12 b)), a7, u7, none, 0, R, ((hE.stp (S3.tr (S8.tr (S13.tr S17))) R R).map (ren [(3, 2)]) R R), ((f14.stp S17 R R).map (ren [(3, 2)]) R R), Ow.nil⟩
theorem s_l1Flag_ok {w : World} {κ : Col} {p0 : Bool}  {r : Int} (h : s_l1Flag p0 = some r) : Ret Tryz.prog 167 [.bool p0] w (fun v w' => ∃ (κ' : Col), v = vi r ∧ Ent κ w κ' w') := by
 unfold s_l1Flag at h
 refine Ret.enter F167 R N167 R ?_
 dsimp only [envOf]
 have hE := Ent.refl κ w
 refine Je [2] R (Jb 1 R (Jq (Je [2] R (Jb 1 R ?_))))
 revert h
 cases ht1 : p0
 refine JF fun h => Jy R (Js (Jp (Je [2] R (Jb 1 R (Ju (Ja2 (l := [.tmp 2]) V167 (Jp2 R R) R ?_))))))
 cases h
 exact ⟨κ, R, hE⟩
 refine JT fun h => Jx R (Je [2] R (Jb 1 R (Ju (Jw (Ja2 (l := [.tmp 2]) V167 (Jp2 R R) R ?_)))))
 cases h
 exact ⟨κ, R, hE⟩
theorem s_l26Place_ok {w : World} {κ : Col} {a0 u0} {p0 : (List (List Int))} {p1 : Int} {p2 : Int} (g0 : Rd (Rp.sl (Rp.int .i64)) κ w 0 a0 u0 p0) {r : Int} (h : s_l26Place p0 p1 p2 = some r) : Ret Tryz.prog 63 [.slice a0 p0.length u0, vi p1, vi p2] w (fun v w' => ∃ (κ' : Col), v = vi r ∧ Ent κ w κ' w') := by
 unfold s_l26Place at h
 refine Ret.enter F63 R N63 R ?_
 dsimp only [envOf]
 have hE := Ent.refl κ w
 refine Je [2] R (Jb 1 R (Jq (Je [2] R (Jb 1 R ?_))))
 have hN1 : (p0.length : Int) ≤ 9223372036854775807 := g0.len_le
 refine Ob h fun q2 hq3 hK2 => ?_
 clear h
 refine Jx1 (fun L w' => ∃ κ', L = [] ∧ Stp [] κ w κ' w' ∧ q2 = Sum.inr ()) ?_ ?_
 refine Jv (Jy1 (fun k L w' => ∃ κ' v7, L = [(0, .slice a0 p0.length u0), (1, vi p1), (2, vi p2), (7, vi v7)] ∧ Stp [] κ w κ' w' ∧ 0 ≤ v7 ∧ Int.toNat ((p0.length : Int) - v7) = k ∧ cntM (s_l26Place_b0 p0 p1 p2) k v7 () = some q2) ⟨_, _, ⟨κ, 0, R, (Jx2 _ _).wk R, (by decide), (by simp), hq3⟩, (KM R)⟩ ?_)
 rintro k _ w7 ⟨K8, v7, rfl, S9, hj1, hJ1, h⟩
 rcases k with _ | k
 have hk10 := h; obtain ⟨o1, h⟩ := ex_eq (Sum.inr (Sum.inl ()) : Int ⊕ ((Unit) ⊕ (Unit)))
 have hc1 : decide (v7 < (p0.length : Int)) = false := Jo2 (by omega)
 refine Jq (Je [2, 2, 2, 2] R (Jn 2 R (Jf R (Je2 U24 R R) (Jb 1 R (Jw2 R hc1 (Jc1 (Jt (Jt ?_))))))))
 cases h
 have h := hk10
 refine Jb1 ?_
 cases h
 exact Jw1 _ ⟨K8, R, S9.wk R, R⟩ KN
 obtain ⟨o1, h, hk10⟩ := BI h; unfold s_l26Place_b0 at h
 have hc1 : decide (v7 < (p0.length : Int)) = true := Jn2 (by omega)
 refine Jq (Je [2, 2, 2, 2] R (Jn 2 R (Jf R (Je2 U24 R R) (Jb 1 R (Jv2 R hc1 (Js (Jp (Jq (Jv (Je [2, 2, 2, 1, 2, 1, 2, 2, 2, 2, 2, 2, 1, 2, 1, 2, 2, 2] R (Jn 2 R (Ob h fun x16 hx16 h => Jf R (Jf2 g0 hx16 U24 Z40 R R R R) ?_))))))))))))
 have f11 := g0.stp S9 R R
 obtain ⟨ax16, ux16, f12, hl13⟩ := f11.gSl hx16
 refine Jl tv R R R R (Jc2 I40 R R (hvE hl13)) (Ob h fun x18 hx18 h => Jf R (Jf2 f12 hx18 U40 Z2 R R R R) (Jl tv R R R R (Jc2 I2 R R (hvE (f12.gInt hx18))) (Jn 3 R (Ob h fun p31 h hK14 => Ju1 [(9, 2), (10, 2), (11, 2), (12, 1), (13, 2), (14, 1), (15, 2), (16, 2), (17, 2)] [] (fun L w' => L = [(0, .slice a0 p0.length u0), (1, vi p1), (2, vi p2), (7, vi v7), (31, .bool p31)] ∧ ∃ κ', Stp [] K8 w7 κ' w') tv ?_ ?_))))
 revert h
 cases ht15 : (x18 == p1)
 refine JF fun h => Jn 3 R (Jd1 R R R R (Jn 1 R (Jd1 R R R R (Jn 3 R ?_))))
 cases h
 exact Jv1 _ tv ⟨R, _, (Jx2 _ _).wk R⟩ (KM R)
 refine JT fun h => Jn 2 R (Ob h fun x25 hx25 h => Jf R (Jf2 f11 hx25 U24 Z40 R R R R) ?_)
 obtain ⟨ax25, ux25, f16, hl17⟩ := f11.gSl hx25
 refine Jl tv R R R R (Jc2 I40 R R (hvE hl17)) (Ob h fun x27 hx27 h => Jf R (Jf2 f16 hx27 U40 Z2 R R R R) (Jl tv R R R R (Jc2 I2 R R (hvE (f16.gInt hx27))) (Jn 3 R ?_)))
 cases h
 exact Jv1 _ tv ⟨R, _, (Jx2 _ _).wk R⟩ (KM R)
 rintro _ w18 _ ⟨rfl, K19, S20⟩
 have h := hK14
 refine Jd ?_
 revert h
 cases ht21 : p31
 refine JF fun h => Jy R (Js (Jz (Jp (Ja [2, 2, 2] R (Jc 3 R ?_)))))
 have hw1 : IntKind.wrap .i64 (v7 + 1) = v7 + 1 := wr1 hj1 (Jm2 hc1) hN1
 rw [hw1]
 have hc1 := Jm2 hc1
 cases h
 exact Jz1 fun a ha => ⟨k, _, Ja3 _, ⟨K19, v7 + 1, R, (S9.tr S20).wk R, by omega, by omega, hk10⟩, (ha.mm R)⟩
 refine JT fun h => Jx R (Je [2, 2] R (Jb 2 R (Ju (Ja1 (Jw (Jw ?_))))))
 cases h
 obtain rfl := Option.some.inj hk10
 have h := hK2
 dsimp only [aft] at h
 refine Ja1 (Jq2 (Jw (Ja2 (l := [.tmp 6]) V63 (Jp2 R R) R ?_)))
 cases h
 exact ⟨K19, R, (hE.stp (S9.tr S20) R R)⟩
 rintro _ w4 ⟨K5, rfl, S6, rfl⟩
 have h := hK2
 dsimp only [aft] at h
 refine Jp (Je [2] R (Jb 1 R (Ju (Ja2 (l := [.tmp 6]) V63 (Jp2 R R) R ?_))))
 cases h
 exact ⟨K5, R, (hE.stp S6 R R)⟩
theorem s_l30Returns_ok {w : World} {κ : Col} {a0 u0} {p0 : (List (List Int))} {a1 u1} {p1 : (List Int)} {p2 : Int} (g0 : Rd (Rp.sl (Rp.int .i64)) κ w 0 a0 u0 p0) (g1 : Rd (Rp.int .i64) κ w 0 a1 u1 p1) {r : Bool} (h : s_l30Returns p0 p1 p2 = some r) : Ret Tryz.prog 109 [.slice a0 p0.length u0, .slice a1 p1.length u1, vi p2] w (fun v w' => ∃ (κ' : Col), v = .bool r ∧ Ent κ w κ' w') := by
 unfold s_l30Returns at h
 refine Ret.enter F109 R N109 R ?_
 dsimp only [envOf]
 have hE := Ent.refl κ w
 refine Je [2] R (Jb 1 R (Jq (Je [2] R (Jb 1 R (Ob h fun q2 hq3 hK2 => ?_)))))
 clear h
 refine Jx1 (fun L w' => ∃ κ' s3, L = [] ∧ Stp [] κ w κ' w' ∧ q2 = Sum.inr s3) ?_ ?_
 refine Jv (Jy1 (fun k L w' => ∃ κ' s1, L = [(0, .slice a0 p0.length u0), (1, .slice a1 p1.length u1), (2, vi p2), (7, vi s1)] ∧ Stp [] κ w κ' w' ∧ whileM (s_l30Returns_b0 p0 p1 p2) k s1 = some q2) ⟨_, _, ⟨κ, (0 : Int), R, (Jx2 _ _).wk R, hq3⟩, (KM R)⟩ ?_)
 rintro k _ w7 ⟨K8, s1, rfl, S9, h⟩
 rcases k with _ | k
 cases h
 obtain ⟨o1, h, hk10⟩ := BI h; unfold s_l30Returns_b0 at h
 refine Jq (Je [2, 2, 2, 2, 1, 2, 2] R (Jn 3 R (Ob h fun x11 hx11 h => Jf R (Jf2 g0 hx11 U24 Z40 R R R R) ?_)))
 have f11 := g0.stp S9 R R
 obtain ⟨ax11, ux11, f12, hl13⟩ := f11.gSl hx11
 refine Jl tv R R R R (Jc2 I40 R R (hvE hl13)) (Jf R (Je2 U40 R R) (Jb 1 R ?_))
 revert h
 cases ht14 : decide (s1 < (x11.length : Int))
 refine JF fun h => Jy R (Jc1 (Jt (Jt ?_)))
 cases h
 have h := hk10
 refine Jb1 ?_
 cases h
 exact Jw1 _ ⟨K8, (s1 : Int), R, S9.wk R, R⟩ KN
 refine JT fun h => Jx R (Js (Jp (Jq (Jv (Je [2, 2, 2, 2, 1, 2, 2, 1, 2, 1, 2] R (Jn 3 R (Ob h fun x20 hx20 h => Jf R (Jf2 f11 hx20 U24 Z40 R R R R) ?_)))))))
 obtain ⟨ax20, ux20, f15, hl16⟩ := f11.gSl hx20
 refine Jl tv R R R R (Jc2 I40 R R (hvE hl16)) (Jn 1 R (Ob h fun x23 hx23 h => Jf R (Jf2 f15 hx23 U40 Z2 R R R R) (Jl tv R R R R (Jc2 I2 R R (hvE (f15.gInt hx23))) (Ob h fun x25 hx25 h => Jf R (Jf2 g1 hx25 U40 Z2 R R R R) (Jl tv R R R R (Jc2 I2 R R (hvE ((g1.stp S9 R R).gInt hx25))) (Jb 1 R ?_))))))
 revert h
 cases ht18 : decide (0 ≤ x25)
 refine JF fun h => Jy R (Js (Jz (Jp (Ja [2, 2, 2] R (Jc 3 R ?_)))))
 cases h
 exact Jz1 fun a ha => ⟨k, _, Ja3 _, ⟨K8, ((IntKind.i64.wrap (s1 + 1)) : Int), R, S9.wk R, hk10⟩, (ha.mm R)⟩
 refine JT fun h => Jx R (Je [2] R (Jb 1 R (Ju (Ja1 (Jw (Jw ?_))))))
 cases h
 obtain rfl := Option.some.inj hk10
 have h := hK2
 dsimp only [aft] at h
 refine Ja1 (Jq2 (Jw (Ja2 (l := [.tmp 6]) V109 (Jp2 R R) R ?_)))
 cases h
 exact ⟨K8, R, (hE.stp S9 R R)⟩
 rintro _ w4 ⟨K5, s3, rfl, S6, rfl⟩
 have h := hK2
 dsimp only [aft] at h
 refine Jp (Je [2] R (Jb 1 R (Ju (Ja2 (l := [.tmp 6]) V109 (Jp2 R R) R ?_))))
 cases h
 exact ⟨K5, R, (hE.stp S6 R R)⟩
theorem i_inputsOf_ok {w : World} {κ : Col} {p0 : Sig}  {r : Int} (h : i_inputsOf p0 = some r) : Ret Tryz.prog 72 [.agg #[vi p0.In, vi p0.Out]] w (fun v w' => ∃ (κ' : Col), v = vi r ∧ Ent κ w κ' w') := by
 unfold i_inputsOf at h
 refine Ret.enter F72 R N72 R ?_
 dsimp only [envOf]
 have hE := Ent.refl κ w
 refine Je [1, 2] R (Jf1 (κ := κ) 2 R R R R R R R fun b1 w1 K2 S3 f4 => ⟨tv, Jb 1 R (Je [2, 1, 2, 2] R (Jf R (Jb2 U31 R Z2 R R) (Jl tv R R R R (Jc2 I2 R R (hvE (f4.ld 0 R R))) (Ob h fun _z5 hz5 h => Jf R (rn_shl R R R (nn_ok hz5)) (Jb 1 R (Ju (Ja2 (l := [.tmp 2]) V72 (Jp2 R R) R ?_)))))))⟩)
 cases h
 exact ⟨K2, R, (hE.stp S3 R R)⟩
theorem i_lettersOf_ok {w : World} {κ : Col} {p0 : Sig}  {r : Int} (h : i_lettersOf p0 = some r) : Ret Tryz.prog 119 [.agg #[vi p0.In, vi p0.Out]] w (fun v w' => ∃ (κ' : Col), v = vi r ∧ Ent κ w κ' w') := by
 unfold i_lettersOf at h
 refine Ret.enter F119 R N119 R ?_
 dsimp only [envOf]
 have hE := Ent.refl κ w
 refine Je [1, 2] R (Jf1 (κ := κ) 2 R R R R R R R fun b1 w1 K2 S3 f4 => ⟨tv, Jb 1 R (Je [2, 1, 2, 1, 2, 2, 2] R (Jf R (Jb2 U31 R Z2 R R) (Jl tv R R R R (Jc2 I2 R R (hvE (f4.ld 0 R R))) (Jf R (Jb2 U31 R Z2 R R) (Jl tv R R R R (Jc2 I2 R R (hvE (f4.ld 1 R R))) (Jn 1 R (Ob h fun _z8 hz8 h => Jf R (rn_shl R R R (nn_ok hz8)) (Jb 1 R (Ju (Ja2 (l := [.tmp 2]) V119 (Jp2 R R) R ?_))))))))))⟩)
 cases h
 exact ⟨K2, R, (hE.stp S3 R R)⟩
theorem i_isSet_ok {w : World} {κ : Col} {a0 u0} {p0 : (List Int)} {p1 : Int} (g0 : Rd (Rp.int .i64) κ w 0 a0 u0 p0) {r : Bool} (h : i_isSet p0 p1 = some r) : Ret Tryz.prog 160 [.slice a0 p0.length u0, vi p1] w (fun v w' => ∃ (κ' : Col), v = .bool r ∧ Ent κ w κ' w') := by
 unfold i_isSet at h
 refine Ret.enter F160 R N160 R ?_
 dsimp only [envOf]
 have hE := Ent.refl κ w
 refine Je [2] R (Jb 1 R (Jq (Je [2, 2, 2] R (Jn 1 R (Jf R (Je2 U40 R R) (Jb 1 R ?_))))))
 have hN1 : (p0.length : Int) ≤ 9223372036854775807 := g0.len_le
 refine Ob h fun q2 hq3 hK2 => ?_
 clear h
 refine Jx1 (fun L w' => ∃ κ', L = [] ∧ Stp [] κ w κ' w' ∧ q2 = Sum.inr ()) ?_ ?_
 refine Jv (Jy1 (fun k L w' => ∃ κ' v9, L = [(0, .slice a0 p0.length u0), (1, vi p1), (7, .slice a0 p0.length u0), (8, vi (p0.length : Int)), (9, vi v9)] ∧ Stp [] κ w κ' w' ∧ 0 ≤ v9 ∧ Int.toNat ((p0.length : Int) - v9) = k ∧ cntM (i_isSet_b0 p0 p1) k v9 () = some q2) ⟨_, _, ⟨κ, 0, R, (Jx2 _ _).wk R, (by decide), (by simp), hq3⟩, (KM R)⟩ ?_)
 rintro k _ w7 ⟨K8, v9, rfl, S9, hj1, hJ1, h⟩
 rcases k with _ | k
 have hk10 := h; obtain ⟨o1, h⟩ := ex_eq (Sum.inr (Sum.inl ()) : Bool ⊕ ((Unit) ⊕ (Unit)))
 have hc1 : decide (v9 < (p0.length : Int)) = false := Jo2 (by omega)
 refine Je [2] R (Jb 1 R (Jq (Jw2 R hc1 (Jc1 (Jt (Jt ?_))))))
 cases h
 have h := hk10
 refine Jb1 ?_
 cases h
 exact Jw1 _ ⟨K8, R, S9.wk R, R⟩ KN
 obtain ⟨o1, h, hk10⟩ := BI h; unfold i_isSet_b0 at h
 have hc1 : decide (v9 < (p0.length : Int)) = true := Jn2 (by omega)
 refine Je [2] R (Jb 1 R (Jq (Jv2 R hc1 (Js (Jp (Jq (Jv (Je [2, 2, 1, 2, 2] R (Jn 1 R (Ob h fun x12 hx12 h => Jf R (Jf2 g0 hx12 U40 Z2 R R R R) ?_))))))))))
 have f11 := g0.stp S9 R R
 refine Jl tv R R R R (Jc2 I2 R R (hvE (f11.gInt hx12))) (Jb 2 R (Je [2, 2, 2, 2, 2, 2, 2, 2, 2, 2, 2, 2, 2, 2, 2, 2, 1, 2, 2, 2] R (Jn 3 R (Ob h fun p20 h hK12 => Ju1 [(3, 2), (4, 2), (5, 2), (6, 2)] [(7, 2), (8, 2), (9, 2), (10, 2), (11, 2), (12, 2), (13, 2), (14, 2), (15, 2), (16, 1), (17, 2), (18, 2), (19, 2)] (fun L w' => L = [(0, .slice a0 p0.length u0), (1, vi p1), (5, vi v9), (6, vi x12), (7, .slice a0 p0.length u0), (8, vi (p0.length : Int)), (9, vi v9), (20, .bool p20)] ∧ ∃ κ', Stp [] K8 w7 κ' w') tv ?_ ?_))))
 revert h
 cases ht13 : decide (x12 < 0)
 refine JF fun h => Jn 4 R ?_
 cases h
 exact Jv1 _ tv ⟨R, _, (Jx2 _ _).wk R⟩ (KM R)
 refine JT fun h => Jn 4 R ?_
 cases h
 exact Jv1 _ tv ⟨R, _, (Jx2 _ _).wk R⟩ (KM R)
 rintro _ w14 _ ⟨rfl, K15, S16⟩
 have h := hK12
 refine Jn 1 R (Ob h fun p33 h hK17 => Ju1 [(8, 2), (9, 2), (10, 2), (11, 2), (12, 2), (13, 2), (14, 2), (15, 2), (16, 1), (17, 2), (18, 2), (19, 2)] [] (fun L w' => L = [(0, .slice a0 p0.length u0), (1, vi p1), (7, .slice a0 p0.length u0), (8, vi (p0.length : Int)), (9, vi v9), (33, .bool p33)] ∧ ∃ κ', Stp [] K15 w14 κ' w') tv ?_ ?_)
 revert h
 cases ht18 : p20
 refine JF fun h => Jn 3 R (Ob h fun p32 h hK19 => Ju1 [(11, 2), (12, 2), (13, 2), (14, 2), (15, 2), (16, 1), (17, 2), (18, 2)] [(19, 2)] (fun L w' => L = [(0, .slice a0 p0.length u0), (1, vi p1), (7, .slice a0 p0.length u0), (8, vi (p0.length : Int)), (9, vi v9), (21, .bool false), (22, vi v9), (23, .bool (decide (0 < v9))), (24, .bool (decide (0 < v9))), (32, .bool p32)] ∧ ∃ κ', Stp [] K15 w14 κ' w') tv ?_ ?_)
 revert h
 cases ht20 : decide (0 < v9)
 refine JF fun h => Jn 5 R (Jd1 R R R R (Jn 2 R ?_))
 cases h
 exact Jv1 _ tv ⟨R, _, (Jx2 _ _).wk R⟩ (KM R)
 refine JT fun h => Jn 4 R (Ob h fun x29 hx29 h => Jf R (Jf2 f11 hx29 U40 Z2 R R R R) (Jl tv R R R R (Jc2 I2 R R (hvE ((f11.stp S16 R R).gInt hx29))) (Jn 2 R ?_)))
 cases h
 exact Jv1 _ tv ⟨R, _, (Jx2 _ _).wk R⟩ (KM R)
 rintro _ w22 _ ⟨rfl, K23, S24⟩
 have h := hK19
 refine Jn 1 R ?_
 cases h
 exact Jv1 _ tv ⟨R, _, S24.wk R⟩ (KM R)
 refine JT fun h => Jn 8 R (Jd1 R R R R (Jn 3 R ?_))
 cases h
 exact Jv1 _ tv ⟨R, _, (Jx2 _ _).wk R⟩ (KM R)
 rintro _ w25 _ ⟨rfl, K26, S27⟩
 have h := hK17
 refine Jd ?_
 revert h
 cases ht28 : p33
 refine JF fun h => Jy R (Js (Jz (Jp (Ja [2, 2] R (Jc 2 R ?_)))))
 have hw1 : IntKind.wrap .i64 (v9 + 1) = v9 + 1 := wr1 hj1 (Jm2 hc1) hN1
 rw [hw1]
 have hc1 := Jm2 hc1
 cases h
 exact Jz1 fun a ha => ⟨k, _, Ja3 _, ⟨K26, v9 + 1, R, (S9.tr (S16.tr S27)).wk R, by omega, by omega, hk10⟩, (ha.mm R)⟩
 refine JT fun h => Jx R (Je [2] R (Jb 1 R (Ju (Ja1 (Jw (Jw ?_))))))
 cases h
 obtain rfl := Option.some.inj hk10
 have h := hK2
 dsimp only [aft] at h
 refine Ja1 (Jq2 (Jw (Ja2 (l := [.tmp 4]) V160 (Jp2 R R) R ?_)))
 cases h
 exact ⟨K26, R, (hE.stp (S9.tr (S16.tr S27)) R R)⟩
 rintro _ w4 ⟨K5, rfl, S6, rfl⟩
 have h := hK2
 dsimp only [aft] at h
 refine Jp (Je [2] R (Jb 1 R (Ju (Ja2 (l := [.tmp 4]) V160 (Jp2 R R) R ?_))))
 cases h
 exact ⟨K5, R, (hE.stp S6 R R)⟩
theorem slices_Index_I_int64_ok {w : World} {κ : Col} {a0 u0} {p0 : (List Int)} {p1 : Int} (g0 : Rd (Rp.int .i64) κ w 0 a0 u0 p0) {r : Int} (h : slices_Index_I_int64 p0 p1 = some r) : Ret Tryz.prog 122 [.slice a0 p0.length u0, vi p1] w (fun v w' => ∃ (κ' : Col), v = vi r ∧ Ent κ w κ' w') := by
 unfold slices_Index_I_int64 at h
 refine Ret.enter F122 R N122 R ?_
 dsimp only [envOf]
 have hE := Ent.refl κ w
 refine Je [2] R (Jb 1 R (Jq (Je [2, 2, 2] R (Jn 1 R (Jf R (Je2 U40 R R) (Jb 1 R ?_))))))
 have hN1 : (p0.length : Int) ≤ 9223372036854775807 := g0.len_le
 refine Ob h fun q2 hq3 hK2 => ?_
 clear h
 refine Jx1 (fun L w' => ∃ κ', L = [] ∧ Stp [] κ w κ' w' ∧ q2 = Sum.inr ()) ?_ ?_
 refine Jv (Jy1 (fun k L w' => ∃ κ' v8, L = [(0, .slice a0 p0.length u0), (1, vi p1), (7, vi (p0.length : Int)), (8, vi v8)] ∧ Stp [] κ w κ' w' ∧ 0 ≤ v8 ∧ Int.toNat ((p0.length : Int) - v8) = k ∧ cntM (slices_Index_I_int64_b0 p0 p1) k v8 () = some q2) ⟨_, _, ⟨κ, 0, R, (Jx2 _ _).wk R, (by decide), (by simp), hq3⟩, (KM R)⟩ ?_)
 rintro k _ w7 ⟨K8, v8, rfl, S9, hj1, hJ1, h⟩
 rcases k with _ | k
 have hk10 := h; obtain ⟨o1, h⟩ := ex_eq (Sum.inr (Sum.inl ()) : Int ⊕ ((Unit) ⊕ (Unit)))
 have hc1 : decide (v8 < (p0.length : Int)) = false := Jo2 (by omega)
 refine Je [2] R (Jb 1 R (Jq (Jw2 R hc1 (Jc1 (Jt (Jt ?_))))))
 cases h
 have h := hk10
 refine Jb1 ?_
 cases h
 exact Jw1 _ ⟨K8, R, S9.wk R, R⟩ KN
 obtain ⟨o1, h, hk10⟩ := BI h; unfold slices_Index_I_int64_b0 at h
 have hc1 : decide (v8 < (p0.length : Int)) = true := Jn2 (by omega)
 refine Je [2] R (Jb 1 R (Jq (Jv2 R hc1 (Js (Jp (Jq (Jv (Je [2, 2] R (Jb 2 R (Je [2, 2, 2, 2, 1, 2] R (Jn 3 R (Ob h fun x14 hx14 h => Jf R (Jf2 g0 hx14 U40 Z2 R R R R) (Jl tv R R R R (Jc2 I2 R R (hvE ((g0.stp S9 R R).gInt hx14))) (Jb 1 R ?_))))))))))))))
 revert h
 cases ht12 : (p1 == x14)
 refine JF fun h => Jy R (Js (Jz (Jp (Ja [2, 2] R (Jc 2 R ?_)))))
 have hw1 : IntKind.wrap .i64 (v8 + 1) = v8 + 1 := wr1 hj1 (Jm2 hc1) hN1
 rw [hw1]
 have hc1 := Jm2 hc1
 cases h
 exact Jz1 fun a ha => ⟨k, _, Ja3 _, ⟨K8, v8 + 1, R, S9.wk R, by omega, by omega, hk10⟩, (ha.mm R)⟩
 refine JT fun h => Jx R (Je [2, 2] R (Jb 2 R (Ju (Ja1 (Jw (Jw ?_))))))
 cases h
 obtain rfl := Option.some.inj hk10
 have h := hK2
 dsimp only [aft] at h
 refine Ja1 (Jq2 (Jw (Ja2 (l := [.tmp 4]) V122 (Jp2 R R) R ?_)))
 cases h
 exact ⟨K8, R, (hE.stp S9 R R)⟩
 rintro _ w4 ⟨K5, rfl, S6, rfl⟩
 have h := hK2
 dsimp only [aft] at h
 refine Jp (Je [2] R (Jb 1 R (Ju (Ja2 (l := [.tmp 4]) V122 (Jp2 R R) R ?_))))
 cases h
 exact ⟨K5, R, (hE.stp S6 R R)⟩
theorem i_loopsIn_3_ok {w : World} {κ : Col} {p0 : Int} {a1 u1} {c0 : (List Int)} {b1} (g1 : Oc E6 2 κ w 2 a1 u1 c0) (gb1 : Bc κ w 3 b1 40 [.slice a1 c0.length u1]) {r : (List Int)} (h : i_loopsIn_3 p0 c0 = some r) : Ret Tryz.prog 154 [vi p0, .pointer (some ⟨b1, 0, none⟩)] w (fun v w' => ∃ (κ' : Col) (ma0 : Option Addr) (mu0 : Nat), v = .tuple #[] ∧ Ent κ w κ' w' ∧ Oc E6 2 κ' w' 2 ma0 mu0 r ∧ Bc κ' w' 3 b1 40 [.slice ma0 r.length mu0]) := by
 unfold i_loopsIn_3 at h
 refine Ret.enter F154 R N154 R ?_
 dsimp only [envOf]
 have hE := Ent.refl κ w
 refine Ja [1, 2, 1, 1, 1] R (Jl tv R R R R (Jc2 I40 R R (hvE (gb1.ld 0 R R))) (Jn 1 R (Jn1 (κ := κ) (E := E6) 4 [] (parts := [(0, .tmp 4)]) (cells := [vi p0]) (xs := ([p0] : List Int)) R R R R R R Y40 Tryzinfo2 R R R R R R R R R R ⟨[vi p0], [], Zl κ w [], Zl κ w [], R, Zl.sp (l1 := []) (l2 := []) R, Zl.sr (l1 := []) (l2 := []), R, R⟩ fun a5 u5 w1 K2 S3 f4 => ⟨tv, Ob h fun x6 hx6 h => Jm1 (κ := K2) (E := E6) 2 [] R R R R R R R R R Y40 Tryzinfo2 R R R R (g1.stp S3 R R) (Sl.srcP (pu_int _) f4.rdc) sy_false hx6 R fun a6 u6 w6 K7 S8 f9 => ⟨tv, Jj1 (κ := K7) 3 (vc := [.slice a6 x6.length u6]) R R R R R R R Z40 R R (gb1.stp (S3.tr S8) R R) R fun w11 S12 f13 => ⟨tv, Jo (DN.end0 V154 ?_)⟩⟩⟩)))
 cases h
 exact ⟨K7, a6, u6, R, (hE.stp (S3.tr (S8.tr S12)) R R), (f9.stp S12 R R), f13⟩
theorem i_watch_way_ok {w : World} {κ : Col} {ap al ao am aw an} {p0 : watch} {p1 : Int} {p2 : Int} {a3 u3} {p3 : (List Bool)} {p4 : Bool} {b0} (g0_0 : Rd (Rp.sl (Rp.int .i64)) κ w 0 ap al p0.next) (g0_1 : Rd (Rp.sl (Rp.int .i64)) κ w 0 ao am p0.letters) (g0_2 : Rd Pair.rp κ w 0 aw an p0.pairs) (g3 : Rd Rp.bool κ w 0 a3 u3 p3) (gb0 : Bc κ w 0 b0 120 [.slice ap p0.next.length al, .slice ao p0.letters.length am, .slice aw p0.pairs.length an]) {r : (List Int)} (h : i_watch_way p0 p1 p2 p3 p4 = some r) : Ret Tryz.prog 130 [.pointer (some ⟨b0, 0, none⟩), vi p1, vi p2, .slice a3 p3.length u3, .bool p4] w (fun v w' => ∃ (κ' : Col) (ra0 : Option Addr) (ru0 : Nat), v = .slice ra0 r.length ru0 ∧ Ent κ w κ' w' ∧ Oc E6 2 κ' w' 2 ra0 ru0 r) := by
 unfold i_watch_way at h
 refine Ret.enter F130 R N130 R ?_
 dsimp only [envOf]
 have hE := Ent.refl κ w
 refine Je [2] R (Jb 1 R (Jq (Je [2, 2, 2, 2, 2, 2, 2] R (Jn 4 R (Ob h fun p23 h hK1 => Ju1 [(4, 2), (5, 2), (6, 2)] [] (fun L w' => L = [(0, .pointer (some ⟨b0, 0, none⟩)), (1, vi p1), (2, vi p2), (3, .slice a3 p3.length u3), (23, .bool p23)] ∧ ∃ κ', Stp [] κ w κ' w') tv ?_ ?_)))))
 revert h
 cases ht2 : (p1 == p2)
 refine JF fun h => Jn 3 R ?_
 cases h
 exact Jv1 _ tv ⟨R, _, (Jx2 _ _).wk R⟩ (KM R)
 refine JT fun h => Jn 3 R ?_
 cases h
 exact Jv1 _ tv ⟨R, _, (Jx2 _ _).wk R⟩ (KM R)
 rintro _ w3 _ ⟨rfl, K4, S5⟩
 have h := hK1
 refine Jd ?_
 revert h
 cases ht6 : p23
 refine JF fun h => Jy R (Js (Jp (Je [2, 2, 2, 1, 2, 1, 2] R (Jn 1 R (Jf R (rn_nilCheck R R) (Jf R (Jb2 U120 R Z24 R R) ?_))))))
 have f8 := gb0.stp S5 R R
 refine Jl tv R R R R (Jc2 I24 R R (hvE (f8.ld 0 R R))) (Jf R (Je2 U24 R R) (Ob h fun x29 hx29 h => Jl1 (κ := K4) (E := Ep.bool) (z := (false : Bool)) 2 R R R R R R R Y135 Tryzinfo4 R R R R R (fun _ _ _ => R) (Ju2 hx29) fun ac ad w9 K10 S11 f12 => ⟨tv, Jb 1 R (Je [2, 2, 2, 2, 2, 2, 1] R (Jn 5 R (Ob h fun x35 hx35 h => Jf R (Jf2 f12.rdc hx35 U135 Z4 R R R R) (Ob h fun y283 hy283 h => Jk1 (κ := K10) (E := Ep.bool) 2 [] R R R R R R R R Z4 R R R R f12 hy283 fun w13 K14 S15 f16 => ⟨tv, ?_⟩))))⟩))
 have hn17 : x29.length = y283.length := (Jt2 hy283).2.2.2.symm
 refine Jd (Je [2, 2, 2, 1, 2, 1, 2] R (Jn 1 R (Jf R (rn_nilCheck R R) (Jf R (Jb2 U120 R Z24 R R) ?_))))
 have f18 := f8.stp (S11.tr S15) R R
 refine Jl tv R R R R (Jc2 I24 R R (hvE (f18.ld 0 R R))) (Jf R (Je2 U24 R R) (Ob h fun x41 hx41 h => Jl1 (κ := K14) (E := (Ep.own E6 2)) (z := (([] : List Int) : (List Int))) 3 R R R R R R R Y24 Tryzinfo40 R R R R R (fun _ _ _ => ⟨none, 0, R, Ow.nil⟩) (Ju2 hx41) fun ab aa w19 K20 S21 f22 => ⟨tv, Jb 1 R (Je [2, 1, 2] R (Jn 1 R (Jn1 (κ := K20) (E := E6) 4 [] (parts := [(0, .tmp 42)]) (cells := [vi p1]) (xs := ([p1] : List Int)) R R R R R R Y40 Tryzinfo2 R R R R R R R R R R ⟨[vi p1], [], Zl K20 w19 [], Zl K20 w19 [], R, Zl.sp (l1 := []) (l2 := []) R, Zl.sr (l1 := []) (l2 := []), R, R⟩ fun aE aG w23 K24 S25 f26 => ⟨tv, Jb 1 R (Jq (Ob h fun q2 hq29 hK28 => ?_))⟩)))⟩))
 clear h
 refine Jx1 (fun L w' => ∃ κ', ∃ s3 : (List Int) × (List Bool) × (List (List Int)), ∃ au av, L = [(0, .pointer (some ⟨b0, 0, none⟩))] ∧ Stp [2, 3, 4, 5, 6] K24 w23 κ' w' ∧ Oc E6 2 κ' w' 4 au av s3.1 ∧ Oc Ep.bool 4 κ' w' 2 ac ad s3.2.1 ∧ x29.length = s3.2.1.length ∧ Oc (Ep.own E6 2) 40 κ' w' 3 ab aa s3.2.2 ∧ x41.length = s3.2.2.length ∧ q2 = Sum.inr s3) ?_ ?_
 refine Jv (Jy1 (fun k L w' => ∃ κ', ∃ s1 : (List Int) × (List Bool) × (List (List Int)), ∃ ai ah, L = [(0, .pointer (some ⟨b0, 0, none⟩)), (2, vi p2), (3, .slice a3 p3.length u3), (11, .slice ac x29.length ad), (12, .slice ab x41.length aa), (13, .slice ai s1.1.length ah)] ∧ Stp [2, 3, 4, 5, 6] K24 w23 κ' w' ∧ Oc E6 2 κ' w' 4 ai ah s1.1 ∧ Oc Ep.bool 4 κ' w' 2 ac ad s1.2.1 ∧ x29.length = s1.2.1.length ∧ Oc (Ep.own E6 2) 40 κ' w' 3 ab aa s1.2.2 ∧ x41.length = s1.2.2.length ∧ whileM (i_watch_way_b0 p0 p2 p3) k s1 = some q2) ⟨_, _, ⟨K24, ((([p1] : List Int) : (List Int)), (y283 : (List Bool)), (x41 : (List (List Int)))), aE, aG, R, (Jx2 _ _).wk R, f26, (f16.stp (S21.tr S25) R R), hn17, (f22.stp S25 R R), R, hq29⟩, (KM R)⟩ ?_)
 rintro k _ w38 ⟨K39, s1, ai, ah, rfl, S40, f41, f42, hn43, f44, hn45, h⟩
 rcases k with _ | k
 cases h
 obtain ⟨o27, h, hk48⟩ := BI h; unfold i_watch_way_b0 at h
 refine Jq (Je [2, 2, 2] R (Jn 1 R (Jf R (Je2 U40 R R) (Jb 1 R ?_))))
 revert h
 cases ht49 : decide (0 < (s1.1.length : Int))
 refine JF fun h => Jy R (Jc1 (Jt (Jt ?_)))
 cases h
 have h := hk48
 refine Jb1 ?_
 cases h
 exact Jw1 _ ⟨K39, ((s1.1 : (List Int)), (s1.2.1 : (List Bool)), (s1.2.2 : (List (List Int)))), ai, ah, R, S40.wk R, f41, f42, hn43, f44, hn45, R⟩ (KM R)
 refine JT fun h => Jx R (Js (Jp (Jv (Je [2, 2, 1, 2] R (Jn 1 R (Ob h fun x48 hx48 h => Jf R (Jf2 f41.rdc hx48 U40 Z2 R R R R) (Jl tv R R R R (Jc2 I2 R R (hvE (f41.rdc.gInt hx48))) (Jb 1 R (Je [2, 2, 2] R (Jn 1 R (Ob h fun x51 hx51 h => Jf R (rn_slice (k1 := .i64) (k2 := .i64) U40 Z2 (.inr ⟨_, R, R⟩) (.inl ⟨R, R⟩) hx51 f41.rdc.1 R R R) (Jb 1 R (Je [2, 2, 2, 1, 2, 2, 1, 2, 2] R (Jn 1 R (Jf R (rn_nilCheck R R) (Jf R (Jb2 U120 R Z24 R R) ?_))))))))))))))))
 have f51 := f18.stp (S21.tr (S25.tr S40)) R R
 refine Jl tv R R R R (Jc2 I24 R R (hvE (f51.ld 0 R R))) (Jn 1 R (Ob h fun x57 hx57 h => Jf R (Jf2 g0_0 hx57 U24 Z40 R R R R) ?_))
 obtain ⟨ax57, ux57, f53, hl54⟩ := (g0_0.stp (S5.tr (S11.tr (S15.tr (S21.tr (S25.tr S40))))) R R).gSl hx57
 refine Jl tv R R R R (Jc2 I40 R R (hvE hl54)) (Jf R (Je2 U40 R R) (Jb 1 R ?_))
 have hN55 : (x57.length : Int) ≤ 9223372036854775807 := f53.len_le
 refine Ob h fun q5 hq57 hK56 => ?_
 clear h
 refine Jx1 (fun L w' => ∃ κ', ∃ s6 : (List Int) × (List Bool) × (List (List Int)), ∃ aj ak, L = [(0, .pointer (some ⟨b0, 0, none⟩)), (2, vi p2), (3, .slice a3 p3.length u3), (11, .slice ac x29.length ad), (12, .slice ab x41.length aa), (13, .slice aj s6.1.length ak)] ∧ Stp [2, 3, 4, 5, 6] K39 w38 κ' w' ∧ Oc E6 2 κ' w' 4 aj ak s6.1 ∧ Oc Ep.bool 4 κ' w' 2 ac ad s6.2.1 ∧ x29.length = s6.2.1.length ∧ Oc (Ep.own E6 2) 40 κ' w' 3 ab aa s6.2.2 ∧ x41.length = s6.2.2.length ∧ q5 = Sum.inr s6) ?_ ?_
 refine Jv (Jy1 (fun k L w' => ∃ κ' v60, ∃ s4 : (List Int) × (List Bool) × (List (List Int)), ∃ ae af, L = [(0, .pointer (some ⟨b0, 0, none⟩)), (2, vi p2), (3, .slice a3 p3.length u3), (11, .slice ac x29.length ad), (12, .slice ab x41.length aa), (13, .slice ae s4.1.length af), (14, vi x48), (58, .slice ax57 x57.length ux57), (59, vi (x57.length : Int)), (60, vi v60)] ∧ Stp [2, 3, 4, 5, 6] K39 w38 κ' w' ∧ Oc E6 2 κ' w' 4 ae af s4.1 ∧ Oc Ep.bool 4 κ' w' 2 ac ad s4.2.1 ∧ x29.length = s4.2.1.length ∧ Oc (Ep.own E6 2) 40 κ' w' 3 ab aa s4.2.2 ∧ x41.length = s4.2.2.length ∧ 0 ≤ v60 ∧ Int.toNat ((x57.length : Int) - v60) = k ∧ cntM (i_watch_way_b2 p0 p2 p3 x48 x57) k v60 s4 = some q5) ⟨_, _, ⟨K39, 0, ((x51 : (List Int)), (s1.2.1 : (List Bool)), (s1.2.2 : (List (List Int)))), (subA ai ah (1 : Int).toNat 1), (ah - (1 : Int).toNat), R, (Jx2 _ _).wk R, (f41.sub hx51), f42, hn43, f44, hn45, (by decide), (by simp), hq57⟩, (KM R)⟩ ?_)
 rintro k _ w66 ⟨K67, v60, s4, ae, af, rfl, S68, f69, f70, hn71, f72, hn73, hj55, hJ55, h⟩
 rcases k with _ | k
 have hk74 := h; obtain ⟨o55, h⟩ := ex_eq (Sum.inr (Sum.inl s4) : (List Int) ⊕ (((List Int) × (List Bool) × (List (List Int))) ⊕ ((List Int) × (List Bool) × (List (List Int)))))
 have hc55 : decide (v60 < (x57.length : Int)) = false := Jo2 (by omega)
 refine Je [2] R (Jb 1 R (Jq (Jw2 R hc55 (Jc1 (Jt (Jt ?_))))))
 cases h
 have h := hk74
 refine Jb1 ?_
 cases h
 exact Jw1 _ ⟨K67, ((s4.1 : (List Int)), (s4.2.1 : (List Bool)), (s4.2.2 : (List (List Int)))), ae, af, R, S68.wk R, f69, f70, hn71, f72, hn73, R⟩ (KM R)
 obtain ⟨o55, h, hk74⟩ := BI h; unfold i_watch_way_b2 at h
 have hc55 : decide (v60 < (x57.length : Int)) = true := Jn2 (by omega)
 refine Je [2] R (Jb 1 R (Jq (Jv2 R hc55 (Js (Jp (Jq (Jv (Je [2, 2, 1, 2, 2] R (Jn 1 R (Ob h fun x63 hx63 h => Jf R (Jf2 f53 hx63 U40 Z2 R R R R) (Jl tv R R R R (Jc2 I2 R R (hvE ((f53.stp S68 R R).gInt hx63))) (Jb 2 R (Jq (Je [2, 2, 2, 1, 2, 2, 2, 2, 2, 1, 2] R (Jn 2 R (Ob h fun x67 hx67 h => Jf R (Jf2 g3 hx67 U135 Z4 R R R R) (Jl tv R R R R (Jc2 I4 R R (hvE ((g3.stp (S5.tr (S11.tr (S15.tr (S21.tr (S25.tr (S40.tr S68)))))) R R).gBool hx67))) (Jn 2 R (Ob h fun p75 h hK77 => Ju1 [(6, 2), (7, 2), (8, 2), (9, 1), (10, 2)] [] (fun L w' => L = [(0, .pointer (some ⟨b0, 0, none⟩)), (2, vi p2), (3, .slice a3 p3.length u3), (11, .slice ac x29.length ad), (12, .slice ab x41.length aa), (13, .slice ae s4.1.length af), (14, vi x48), (15, vi v60), (16, vi x63), (58, .slice ax57 x57.length ux57), (59, vi (x57.length : Int)), (60, vi v60), (75, .bool p75)] ∧ ∃ κ', Stp [] K67 w66 κ' w') tv ?_ ?_)))))))))))))))))))
 revert h
 cases ht78 : (!x67)
 refine JF fun h => Jn 2 R (Ob h fun x73 hx73 h => Jf R (Jf2 f70.rdc hx73 U135 Z4 R R hn71 R) (Jl tv R R R R (Jc2 I4 R R (hvE (f70.rdc.gBool hx73))) (Jn 1 R ?_)))
 cases h
 exact Jv1 _ tv ⟨R, _, (Jx2 _ _).wk R⟩ (KM R)
 refine JT fun h => Jn 3 R (Jd1 R R R R (Jn 1 R ?_))
 cases h
 exact Jv1 _ tv ⟨R, _, (Jx2 _ _).wk R⟩ (KM R)
 rintro _ w79 _ ⟨rfl, K80, S81⟩
 have h := hK77
 refine Jd ?_
 revert h
 cases ht82 : p75
 refine JF fun h => Jy R (Js (Jp (Je [2, 2, 2, 1] R (Jn 2 R (Ob h fun x78 hx78 h => Jf R (Jf2 f70.rdc hx78 U135 Z4 R R hn71 R) (Ob h fun y286 hy286 h => Jk1 (κ := K80) (E := Ep.bool) 2 [] R R R R R R R R Z4 R R R R (f70.stp S81 R R) hy286 fun w87 K88 S89 f90 => ⟨tv, ?_⟩))))))
 have hn91 : x29.length = y286.length := hn71.trans (Jt2 hy286).2.2.2.symm
 refine Jd (Jq (Ob h fun x84 hx84 h => Ob h fun x92 hx92 h => Ob h fun x95 hx95 h => Ob h fun x86 hx86 h => Ob h fun x98 hx98 h => Ob h fun x99 hx99 h => Ob h fun y289 hy289 h => Jx1 (fun L w' => ∃ κ', L = [(0, .pointer (some ⟨b0, 0, none⟩)), (2, vi p2), (3, .slice a3 p3.length u3), (11, .slice ac x29.length ad), (12, .slice ab x41.length aa), (13, .slice ae s4.1.length af), (14, vi x48), (16, vi x63), (58, .slice ax57 x57.length ux57), (59, vi (x57.length : Int)), (60, vi v60)] ∧ Stp [3, 5, 6] K88 w87 κ' w' ∧ Oc (Ep.own E6 2) 40 κ' w' 3 ab aa y289 ∧ x41.length = y289.length) ?_ ?_))
 refine WC.rxt (κ := K88) [0, 3] (some 21) (by kernel_rfl) fun w98 S99 => Jq1 (fuel := 6) [(0, 2), (1, 2), (3, 2), (4, 2), (5, 2), (8, 2), (9, 2), (10, 2), (12, 2), (15, 2), (6, 0), (11, 0), (13, 2), (14, 0), (16, 2), (17, 0)] (by kernel_rfl) (by kernel_rfl) R (Jn 4 R (Jf R (Jf2 f72.rdc hx84 U24 Z40 R R hn73 R) (Jn 1 R (Jf R (rn_nilCheck R R) (Jf R (Jb2 U120 R Z24 R R) (Jn 2 R ?_))))))
 have f100 := f72.stp (S81.tr (S89.tr S99)) R R
 obtain ⟨ax84, ux84, f101, hl102⟩ := f100.rdc.gSl hx84
 refine Jg R (Jc2 I40 R R (hvC hl102 R)) (Jg R (Jc2 I24 R R (hvC ((f51.stp (S68.tr (S81.tr (S89.tr S99))) R R).ld 1 R R) R)) (Jf R (Jf2 g0_1 hx92 U24 Z40 R R R R) ?_))
 obtain ⟨ax92, ux92, f105, hl106⟩ := (g0_1.stp (S5.tr (S11.tr (S15.tr (S21.tr (S25.tr (S40.tr (S68.tr (S81.tr (S89.tr S99))))))))) R R).gSl hx92
 refine Jg R (Jc2 I40 R R (hvC hl106 R)) (Jf R (Jf2 f105 hx95 U40 Z2 R R R R) (Jg R (Jc2 I2 R R (hvC (f105.gInt hx95) R)) (Jp1 (WA.fork2 (fuel := 5) 2 18 (by kernel_rfl) R ?_ ?_))))
 refine Jo1 (κ := K88) (E := E6) 5 R R R R R Y40 Tryzinfo2 R fun aB aD w107 K108 S109 f110 => ⟨(S109.cl R), Jp1 (WA.fork2 (fuel := 4) 7 18 (by kernel_rfl) R ?_ ?_)⟩
 refine Jm1 (κ := K108) (E := E6) 5 [] R R R R R R R R R Y40 Tryzinfo2 R R R R f110 (Sl.srcP (pu_int _) (f101.stp S109 R R)) sy_false hx86 R fun ay aA w112 K113 S114 f115 => ⟨((S109.tr S114).cl R), Jp1 (Jq1 (fuel := 1) [(18, 1), (19, 1), (20, 2)] (by kernel_rfl) (by kernel_rfl) R (Jn1 (κ := K113) (E := E6) 6 [] (parts := [(0, .tmp 96)]) (cells := [vi x95]) (xs := ([x95] : List Int)) R R R R R R Y40 Tryzinfo2 R R R R R R R R R R ⟨[vi x95], [], Zl K113 w112 [], Zl K113 w112 [], R, Zl.sp (l1 := []) (l2 := []) R, Zl.sr (l1 := []) (l2 := []), R, R⟩ fun aq ax w116 K117 S118 f119 => ⟨((S109.tr (S114.tr S118)).cl R), Jm1 (κ := K117) (E := E6) 5 [] R R R R R R R R R Y40 Tryzinfo2 R R R R (f115.stp S118 R R) (Sl.srcP (pu_int _) f119.rdc) sy_false hx98 R fun ar az w121 K122 S123 f124 => ⟨((S109.tr (S114.tr (S118.tr S123))).cl R), Jf R (Jf2 f100.rdc hx99 U24 Z40 R R hn73 R) (Jp1 (WA.brk (fuel := 0) 21 (by kernel_rfl) R (by kernel_rfl) (Jk1 (κ := K122) (E := (Ep.own E6 2)) 3 [5] R R R R R R R R Z40 R ⟨_, _, R, f124⟩ R R (f100.stp (S109.tr (S114.tr (S118.tr S123))) R R) hy289 fun w126 K127 S128 f129 => ⟨tv, ?_⟩)))⟩⟩))⟩
 have hn130 : x41.length = y289.length := hn73.trans (Jt2 hy289).2.2.2.symm
 exact Jp1 (Jr1 [] (by kernel_rfl) (by kernel_rfl) R (Jo (Jw1 _ ⟨K127, R, (S99.tr (S109.tr (S114.tr (S118.tr (S123.tr S128))))).wk R, f129, hn130⟩ (KM R))))
 refine Jn1 (κ := K108) (E := E6) 6 [] (parts := [(0, .tmp 96)]) (cells := [vi x95]) (xs := ([x95] : List Int)) R R R R R R Y40 Tryzinfo2 R R R R R R R R R R ⟨[vi x95], [], Zl K108 w107 [], Zl K108 w107 [], R, Zl.sp (l1 := []) (l2 := []) R, Zl.sr (l1 := []) (l2 := []), R, R⟩ fun aq ax w131 K132 S133 f134 => ⟨((S109.tr S133).cl R), Jp1 (Jq1 (fuel := 1) [(7, 1), (19, 1), (20, 2)] (by kernel_rfl) (by kernel_rfl) R (Jm1 (κ := K132) (E := E6) 5 [] R R R R R R R R R Y40 Tryzinfo2 R R R R (f110.stp S133 R R) (Sl.srcP (pu_int _) (f101.stp (S109.tr S133) R R)) sy_false hx86 R fun ay aA w137 K138 S139 f140 => ⟨((S109.tr (S133.tr S139)).cl R), Jm1 (κ := K138) (E := E6) 5 [] R R R R R R R R R Y40 Tryzinfo2 R R R R f140 (Sl.srcP (pu_int _) (f134.stp S139 R R).rdc) sy_false hx98 R fun ar az w142 K143 S144 f145 => ⟨((S109.tr (S133.tr (S139.tr S144))).cl R), Jf R (Jf2 f100.rdc hx99 U24 Z40 R R hn73 R) (Jp1 (WA.brk (fuel := 0) 21 (by kernel_rfl) R (by kernel_rfl) (Jk1 (κ := K143) (E := (Ep.own E6 2)) 3 [5] R R R R R R R R Z40 R ⟨_, _, R, f145⟩ R R (f100.stp (S109.tr (S133.tr (S139.tr S144))) R R) hy289 fun w147 K148 S149 f150 => ⟨tv, ?_⟩)))⟩⟩))⟩
 have hn151 : x41.length = y289.length := hn73.trans (Jt2 hy289).2.2.2.symm
 exact Jp1 (Jr1 [] (by kernel_rfl) (by kernel_rfl) R (Jo (Jw1 _ ⟨K148, R, (S99.tr (S109.tr (S133.tr (S139.tr (S144.tr S149))))).wk R, f150, hn151⟩ (KM R))))
 refine Jn1 (κ := K88) (E := E6) 5 [] (parts := [(0, .tmp 96)]) (cells := [vi x95]) (xs := ([x95] : List Int)) R R R R R R Y40 Tryzinfo2 R R R R R R R R R R ⟨[vi x95], [], Zl K88 w98 [], Zl K88 w98 [], R, Zl.sp (l1 := []) (l2 := []) R, Zl.sr (l1 := []) (l2 := []), R, R⟩ fun aq ax w152 K153 S154 f155 => ⟨(S154.cl R), Jp1 (Jq1 (fuel := 1) [(2, 1), (7, 1), (19, 1), (20, 2)] (by kernel_rfl) (by kernel_rfl) R (Jo1 (κ := K153) (E := E6) 6 R R R R R Y40 Tryzinfo2 R fun aB aD w156 K157 S158 f159 => ⟨((S154.tr S158).cl R), Jm1 (κ := K157) (E := E6) 6 [] R R R R R R R R R Y40 Tryzinfo2 R R R R f159 (Sl.srcP (pu_int _) (f101.stp (S154.tr S158) R R)) sy_false hx86 R fun ay aA w161 K162 S163 f164 => ⟨((S154.tr (S158.tr S163)).cl R), Jm1 (κ := K162) (E := E6) 6 [] R R R R R R R R R Y40 Tryzinfo2 R R R R f164 (Sl.srcP (pu_int _) (f155.stp (S158.tr S163) R R).rdc) sy_false hx98 R fun ar az w166 K167 S168 f169 => ⟨((S154.tr (S158.tr (S163.tr S168))).cl R), Jf R (Jf2 f100.rdc hx99 U24 Z40 R R hn73 R) (Jp1 (WA.brk (fuel := 0) 21 (by kernel_rfl) R (by kernel_rfl) (Jk1 (κ := K167) (E := (Ep.own E6 2)) 3 [6] R R R R R R R R Z40 R ⟨_, _, R, f169⟩ R R (f100.stp (S154.tr (S158.tr (S163.tr S168))) R R) hy289 fun w171 K172 S173 f174 => ⟨tv, ?_⟩)))⟩⟩⟩))⟩
 have hn175 : x41.length = y289.length := hn73.trans (Jt2 hy289).2.2.2.symm
 exact Jp1 (Jr1 [] (by kernel_rfl) (by kernel_rfl) R (Jo (Jw1 _ ⟨K172, R, (S99.tr (S154.tr (S158.tr (S163.tr (S168.tr S173))))).wk R, f174, hn175⟩ (KM R))))
 rintro _ w92 ⟨K93, rfl, S94, f96, hn97⟩
 refine Jp (Jq (Je [2, 2, 2] R (Jb 3 R ?_)))
 revert h
 cases ht176 : (x63 == p2)
 refine JF fun h => Jy R (Js (Jp (Ja [2, 2, 1, 1, 2] R (Jn 2 R (Jn1 (κ := K93) (E := E6) 5 [] (parts := [(0, .tmp 108)]) (cells := [vi x63]) (xs := ([x63] : List Int)) R R R R R R Y40 Tryzinfo2 R R R R R R R R R R ⟨[vi x63], [], Zl K93 w92 [], Zl K93 w92 [], R, Zl.sp (l1 := []) (l2 := []) R, Zl.sr (l1 := []) (l2 := []), R, R⟩ fun aH aI w184 K185 S186 f187 => ⟨tv, Ob h fun x110 hx110 h => Jm1 (κ := K185) (E := E6) 4 [] R R R R R R R R R Y40 Tryzinfo2 R R R R (f69.stp (S81.tr (S89.tr (S94.tr S186))) R R) (Sl.srcP (pu_int _) f187.rdc) sy_false hx110 R fun aC aF w189 K190 S191 f192 => ⟨tv, Jc 1 R (Jz (Jp (Ja [2, 2] R (Jc 2 R ?_))))⟩⟩)))))
 have hw55 : IntKind.wrap .i64 (v60 + 1) = v60 + 1 := wr1 hj55 (Jm2 hc55) hN55
 rw [hw55]
 have hc55 := Jm2 hc55
 cases h
 exact Jz1 fun a ha => ⟨k, _, Ja3 _, ⟨K190, v60 + 1, ((x110 : (List Int)), (y286 : (List Bool)), (y289 : (List (List Int)))), aC, aF, R, (S68.tr (S81.tr (S89.tr (S94.tr (S186.tr S191))))).wk R, f192, (f90.stp (S94.tr (S186.tr S191)) R R), hn91, (f96.stp (S186.tr S191) R R), hn97, by omega, by omega, hk74⟩, (ha.mm R)⟩
 refine JT fun h => Jx R (Je [2, 2, 2, 1, 2] R (Jn 2 R (Ob h fun x105 hx105 h => Jf R (Jf2 f96.rdc hx105 U24 Z40 R R hn97 R) ?_)))
 obtain ⟨ax105, ux105, f177, hl178⟩ := f96.rdc.gSl hx105
 refine Jl tv R R R R (Jc2 I40 R R (hvE hl178)) (Jb 1 R (Ju (Jw (Ja1 (Jw (Jw ?_))))))
 cases h
 obtain rfl := Option.some.inj hk74
 have h := hK56
 dsimp only [aft] at h
 refine Ja1 (Jq2 (Ja1 (Jw ?_)))
 cases h
 obtain rfl := Option.some.inj hk48
 have h := hK28
 dsimp only [aft] at h
 refine Ja1 (Jq2 (Jw ?_))
 obtain ⟨K179, S180, f181, f182⟩ := f96.borrow hx105 (hl178 _ (Ag.refl _ _ _)) 5 R R
 refine Ja2 (l := [.tmp 10]) V130 (Jp2 R R) R ?_
 cases h
 exact ⟨(fun b => ren [(5, 2)] (K179 b)), ax105, ux105, R, ((hE.stp (S5.tr (S11.tr (S15.tr (S21.tr (S25.tr (S40.tr (S68.tr (S81.tr (S89.tr (S94.tr S180)))))))))) R R).map (ren [(5, 2)]) R R), (f181.map (ren [(5, 2)]) R R)⟩
 refine JT fun h => Jx R (Jc1 (Jt (Jb1 (Jp (Ja [2, 2] R (Jc 2 R ?_))))))
 have hw55 : IntKind.wrap .i64 (v60 + 1) = v60 + 1 := wr1 hj55 (Jm2 hc55) hN55
 rw [hw55]
 have hc55 := Jm2 hc55
 cases h
 exact Jz1 fun a ha => ⟨k, _, Ja3 _, ⟨K80, v60 + 1, ((s4.1 : (List Int)), (s4.2.1 : (List Bool)), (s4.2.2 : (List (List Int)))), ae, af, R, (S68.tr S81).wk R, (f69.stp S81 R R), (f70.stp S81 R R), hn71, (f72.stp S81 R R), hn73, by omega, by omega, hk74⟩, (ha.mm R)⟩
 rintro _ w58 ⟨K59, s6, aj, ak, rfl, S60, f61, f62, hn63, f64, hn65, rfl⟩
 have h := hK56
 dsimp only [aft] at h
 refine Jz ?_
 cases h
 exact Jz1 fun a ha => ⟨k, _, Ja3 _, ⟨K59, ((s6.1 : (List Int)), (s6.2.1 : (List Bool)), (s6.2.2 : (List (List Int)))), aj, ak, R, (S40.tr S60).wk R, f61, f62, hn63, f64, hn65, hk48⟩, (ha.mm R)⟩
 rintro _ w30 ⟨K31, s3, au, av, rfl, S32, f33, f34, hn35, f36, hn37, rfl⟩
 have h := hK28
 dsimp only [aft] at h
 refine Jp (Je [2] R (Jb 1 R (Ju (Ja2 (l := [.tmp 10]) V130 (Jp2 R R) R ?_))))
 cases h
 exact ⟨K31, none, 0, R, (hE.stp (S5.tr (S11.tr (S15.tr (S21.tr (S25.tr S32))))) R R), Ow.nil⟩
 refine JT fun h => Jx R (Je [2] R (Jb 1 R (Ju (Jw (Ja2 (l := [.tmp 10]) V130 (Jp2 R R) R ?_)))))
 cases h
 exact ⟨K4, none, 0, R, (hE.stp S5 R R), Ow.nil⟩
theorem l_eqInt64S_ok {w : World} {κ : Col} {a0 u0} {p0 : (List Int)} {a1 u1} {p1 : (List Int)} (g0 : Rd (Rp.int .i64) κ w 0 a0 u0 p0) (g1 : Rd (Rp.int .i64) κ w 0 a1 u1 p1) {r : Bool} (h : l_eqInt64S p0 p1 = some r) : Ret Tryz.prog 20 [.slice a0 p0.length u0, .slice a1 p1.length u1] w (fun v w' => ∃ (κ' : Col), v = .bool r ∧ Ent κ w κ' w') := by
 unfold l_eqInt64S at h
 refine Ret.enter F20 R N20 R ?_
 dsimp only [envOf]
 have hE := Ent.refl κ w
 refine Je [2] R (Jb 1 R (Jq (Je [2, 2, 2, 2, 2] R (Jn 1 R (Jf R (Je2 U40 R R) (Jn 1 R (Jf R (Je2 U40 R R) (Jb 1 R ?_))))))))
 revert h
 cases ht1 : ((p0.length : Int) != (p1.length : Int))
 refine JF fun h => Jy R (Js (Jp (Jq (Je [2] R (Jb 1 R ?_)))))
 have hN2 : (p0.length : Int) ≤ 9223372036854775807 := g0.len_le
 refine Ob h fun q2 hq4 hK3 => ?_
 clear h
 refine Jx1 (fun L w' => ∃ κ', L = [] ∧ Stp [] κ w κ' w' ∧ q2 = Sum.inr ()) ?_ ?_
 refine Jv (Jy1 (fun k L w' => ∃ κ' v5, L = [(0, .slice a0 p0.length u0), (1, .slice a1 p1.length u1), (5, vi v5)] ∧ Stp [] κ w κ' w' ∧ 0 ≤ v5 ∧ Int.toNat ((p0.length : Int) - v5) = k ∧ cntM (l_eqInt64S_b0 p0 p1) k v5 () = some q2) ⟨_, _, ⟨κ, 0, R, (Jx2 _ _).wk R, (by decide), (by simp), hq4⟩, (KM R)⟩ ?_)
 rintro k _ w8 ⟨K9, v5, rfl, S10, hj2, hJ2, h⟩
 rcases k with _ | k
 have hk11 := h; obtain ⟨o2, h⟩ := ex_eq (Sum.inr (Sum.inl ()) : Bool ⊕ ((Unit) ⊕ (Unit)))
 have hc2 : decide (v5 < (p0.length : Int)) = false := Jo2 (by omega)
 refine Jq (Je [2, 2, 2, 2] R (Jn 2 R (Jf R (Je2 U40 R R) (Jb 1 R (Jw2 R hc2 (Jc1 (Jt (Jt ?_))))))))
 cases h
 have h := hk11
 refine Jb1 ?_
 cases h
 exact Jw1 _ ⟨K9, R, S10.wk R, R⟩ KN
 obtain ⟨o2, h, hk11⟩ := BI h; unfold l_eqInt64S_b0 at h
 have hc2 : decide (v5 < (p0.length : Int)) = true := Jn2 (by omega)
 refine Jq (Je [2, 2, 2, 2] R (Jn 2 R (Jf R (Je2 U40 R R) (Jb 1 R (Jv2 R hc2 (Js (Jp (Jq (Jv (Jq (Js1 (κ := K9) [0] none [(0, 2), (1, 2), (2, 2), (4, 2), (5, 2), (6, 2), (3, 0), (7, 0), (8, 2)] [] (by kernel_rfl) (by kernel_rfl) fun w13 S12 => Jn 2 R (Ob h fun x19 hx19 h => Jf R (Jf2 g0 hx19 U40 Z2 R R R R) (Jn 2 R (Ob h fun x23 hx23 h => Jf R (Jf2 g1 hx23 U40 Z2 R R R R) (Jg R (Jc2 I2 R R (hvC ((g0.stp (S10.tr S12) R R).gInt hx19) R)) (Jg R (Jc2 I2 R R (hvC ((g1.stp (S10.tr S12) R R).gInt hx23) R)) (Jn 1 R (Jt1 (Jd ?_)))))))))))))))))))
 revert h
 cases ht16 : (x19 != x23)
 refine JF fun h => Jy R (Js (Jz (Jp (Ja [2, 2, 2] R (Jc 3 R ?_)))))
 have hw2 : IntKind.wrap .i64 (v5 + 1) = v5 + 1 := wr1 hj2 (Jm2 hc2) hN2
 rw [hw2]
 have hc2 := Jm2 hc2
 cases h
 exact Jz1 fun a ha => ⟨k, _, Ja3 _, ⟨K9, v5 + 1, R, (S10.tr S12).wk R, by omega, by omega, hk11⟩, (ha.mm R)⟩
 refine JT fun h => Jx R (Je [2] R (Jb 1 R (Ju (Ja1 (Jw (Jw ?_))))))
 cases h
 obtain rfl := Option.some.inj hk11
 have h := hK3
 dsimp only [aft] at h
 refine Ja1 (Jq2 (Jw (Ja2 (l := [.tmp 4]) V20 (Jp2 R R) R ?_)))
 cases h
 exact ⟨K9, R, (hE.stp (S10.tr S12) R R)⟩
 rintro _ w5 ⟨K6, rfl, S7, rfl⟩
 have h := hK3
 dsimp only [aft] at h
 refine Jp (Je [2] R (Jb 1 R (Ju (Ja2 (l := [.tmp 4]) V20 (Jp2 R R) R ?_))))
 cases h
 exact ⟨K6, R, (hE.stp S7 R R)⟩
 refine JT fun h => Jx R (Je [2] R (Jb 1 R (Ju (Jw (Ja2 (l := [.tmp 4]) V20 (Jp2 R R) R ?_)))))
 cases h
 exact ⟨κ, R, hE⟩
end Go.Proofs.YtcmamhmpoinmnaaGreat
