/- The walks, part 1. By program. -/
import Derived.Test.YtmiilifclnanlaaGreatFnsMRB
import Derived.Test.YtmiilifclnanlaaGreatAlRB
set_option linter.unusedVariables false
set_option linter.unusedSimpArgs false
namespace Go.Proofs.YtmiilifclnanlaaGreat
open Go Go.Wk Go.Proofs
set_option maxRecDepth 100000
set_option maxHeartbeats 1000000
theorem l_toInt64S_ok {w : World} {κ : Col} {a0 u0} {p0 : (List Int)} (g0 : Rd (Rp.int .i64) κ w 0 a0 u0 p0) {r : (List Int)} (h : l_toInt64S p0 = some r) : Ret Tryz.prog 40 [.slice a0 p0.length u0] w (fun v w' => ∃ (κ' : Col) (ra0 : Option Addr) (ru0 : Nat), v = .slice ra0 r.length ru0 ∧ Ent κ w κ' w' ∧ Oc E6 2 κ' w' 2 ra0 ru0 r) := by
 unfold l_toInt64S at h
 refine Ret.enter F40 R N40 R ?_
 dsimp only [envOf]
 have hE := Ent.refl κ w
 refine Je [2] R (Jb 1 R (Je [2, 2, 1, 2] R (Jn 1 R (Jf R (Je2 U22 R R) (Ob h fun x7 hx7 h => Jl1 (κ := κ) (E := E6) (z := (0 : Int)) 2 R R R R R R R Y22 Tryzinfo2 R R R R R (fun _ _ _ => R) (Ju2 hx7) fun a7 u7 w1 K2 S3 f4 => ⟨tv, Jb 1 R (Jq (Je [2] R (Jb 1 R ?_)))⟩)))))
 have hN5 : (p0.length : Int) ≤ 9223372036854775807 := g0.len_le
 refine Ob h fun q2 hq7 hK6 => ?_
 clear h
 refine Jx1 (fun L w' => ∃ κ', ∃ s3 : (List Int), L = [(3, .slice a7 x7.length u7)] ∧ Stp [2] K2 w1 κ' w' ∧ Oc E6 2 κ' w' 2 a7 u7 s3 ∧ x7.length = s3.length ∧ q2 = Sum.inr s3) ?_ ?_
 refine Jv (Jy1 (fun k L w' => ∃ κ' v4, ∃ s1 : (List Int), L = [(0, .slice a0 p0.length u0), (3, .slice a7 x7.length u7), (4, vi v4)] ∧ Stp [2] K2 w1 κ' w' ∧ Oc E6 2 κ' w' 2 a7 u7 s1 ∧ x7.length = s1.length ∧ 0 ≤ v4 ∧ Int.toNat ((p0.length : Int) - v4) = k ∧ cntM (l_toInt64S_b0 p0) k v4 s1 = some q2) ⟨_, _, ⟨K2, 0, (x7 : (List Int)), R, (Jx2 _ _).wk R, f4, R, (by decide), (by simp), hq7⟩, (KM R)⟩ ?_)
 rintro k _ w13 ⟨K14, v4, s1, rfl, S15, f16, hn17, hj5, hJ5, h⟩
 rcases k with _ | k
 have hk18 := h; obtain ⟨o5, h⟩ := ex_eq (Sum.inr (Sum.inl s1) : (List Int) ⊕ (((List Int)) ⊕ ((List Int))))
 have hc5 : decide (v4 < (p0.length : Int)) = false := Jo2 (by omega)
 refine Jq (Je [2, 2, 2, 2] R (Jn 2 R (Jf R (Je2 U22 R R) (Jb 1 R (Jw2 R hc5 (Jc1 (Jt (Jt ?_))))))))
 cases h
 have h := hk18
 refine Jb1 ?_
 cases h
 exact Jw1 _ ⟨K14, (s1 : (List Int)), R, S15.wk R, f16, hn17, R⟩ (KM R)
 obtain ⟨o5, h, hk18⟩ := BI h; unfold l_toInt64S_b0 at h
 have hc5 : decide (v4 < (p0.length : Int)) = true := Jn2 (by omega)
 refine Jq (Je [2, 2, 2, 2] R (Jn 2 R (Jf R (Je2 U22 R R) (Jb 1 R (Jv2 R hc5 (Js (Jp (Jq (Jv (Ja [2, 2, 2, 2, 2, 1, 2, 1] R (Jn 4 R (Ob h fun x18 hx18 h => Jf R (Jf2 g0 hx18 U22 Z2 R R R R) (Jl tv R R R R (Jc2 I2 R R (hvE ((g0.stp (S3.tr S15) R R).gInt hx18))) (Ob h fun x20 hx20 h => Jf R (Jf2 f16.rdc hx20 U22 Z2 R R hn17 R) (Ob h fun y13 hy13 h => Jk1 (κ := K14) (E := E6) 2 [] R R R R R R R R Z2 R R R R f16 hy13 fun w20 K21 S22 f23 => ⟨tv, ?_⟩)))))))))))))))
 have hn24 : x7.length = y13.length := hn17.trans (Jt2 hy13).2.2.2.symm
 refine Jo (Jz (Jp (Ja [2, 2, 2] R (Jc 3 R ?_))))
 have hw5 : IntKind.wrap .i64 (v4 + 1) = v4 + 1 := wr1 hj5 (Jm2 hc5) hN5
 rw [hw5]
 have hc5 := Jm2 hc5
 cases h
 exact Jz1 fun a ha => ⟨k, _, Ja3 _, ⟨K21, v4 + 1, (y13 : (List Int)), R, (S15.tr S22).wk R, f23, hn24, by omega, by omega, hk18⟩, (ha.mm R)⟩
 rintro _ w8 ⟨K9, s3, rfl, S10, f11, hn12, rfl⟩
 have h := hK6
 dsimp only [aft] at h
 refine Jp (Je [2, 2] R (Jb 2 R (Ju (Ja2 (l := [.tmp 2]) V40 (Jp2 R R) R ?_))))
 cases h
 exact ⟨K9, a7, u7, (by simp only [hn12]), (hE.stp (S3.tr S10) R R), f11⟩
theorem l_toEdit_ok {w : World} {κ : Col} {p0 : Edit}  {r : Edit} (h : l_toEdit p0 = some r) : Ret Tryz.prog 11 [.agg #[vi p0.Kind, vi p0.V, vi p0.N]] w (fun v w' => ∃ (κ' : Col), v = .agg #[vi r.Kind, vi r.V, vi r.N] ∧ Ent κ w κ' w') := by
 unfold l_toEdit at h
 refine Ret.enter F11 R N11 R ?_
 dsimp only [envOf]
 have hE := Ent.refl κ w
 refine Je [1, 1] R (Jf1 (κ := κ) 2 R R R R R R R fun b1 w1 K2 S3 f4 => ⟨tv, Jg1 (κ := K2) 3 R R R R R X42 R fun b2 w5 K6 S7 f8 => ⟨tv, Jd (Je [1] R (Jg1 (κ := K6) 4 R R R R R X42 R fun b3 w9 K10 S11 f12 => ⟨tv, Jd (Je [2, 1, 2, 1] R (Jf R (Jb2 U31 R Z2 R R) ?_))⟩))⟩⟩)
 have f13 := f4.stp (S7.tr S11) R R
 refine Jl tv R R R R (Jc2 I2 R R (hvE (f13.ld 0 R R))) (Jf R (Jb2 U42 R Z2 R R) (Ji1 (κ := K10) 4 (off := 0) (vc := [vi p0.Kind]) (cs' := [vi p0.Kind, vi 0, vi 0]) R R R R R R R Z2 R R f12 R R fun w14 S15 f16 => ⟨tv, Jd (Je [2, 1, 2, 1] R (Jf R (Jb2 U31 R Z2 R R) ?_))⟩))
 have f17 := f13.stp S15 R R
 refine Jl tv R R R R (Jc2 I2 R R (hvE (f17.ld 1 R R))) (Jf R (Jb2 U42 R Z2 R R) (Ji1 (κ := K10) 4 (off := 1) (vc := [vi p0.V]) (cs' := [vi p0.Kind, vi p0.V, vi 0]) R R R R R R R Z2 R R f16 R R fun w18 S19 f20 => ⟨tv, Jd (Je [2, 1, 2, 1] R (Jf R (Jb2 U31 R Z2 R R) (Jl tv R R R R (Jc2 I2 R R (hvE ((f17.stp S19 R R).ld 2 R R))) (Jf R (Jb2 U42 R Z2 R R) (Ji1 (κ := K10) 4 (off := 2) (vc := [vi p0.N]) (cs' := [vi p0.Kind, vi p0.V, vi p0.N]) R R R R R R R Z2 R R f20 R R fun w22 S23 f24 => ⟨tv, Jd (Je [1, 1] R (Jl tv R R R R (Jd2 (cs := [vi p0.Kind, vi p0.V, vi p0.N]) I42 Z42 R R R (haE f24.cells)) (Jj1 (κ := K10) 3 (vc := [vi p0.Kind, vi p0.V, vi p0.N]) R R R R R R R Z42 R R (f8.stp (S11.tr (S15.tr (S19.tr S23))) R R) R fun w26 S27 f28 => ⟨tv, Jd (Ju (Ja2 (l := [.cell 2 42]) V11 (res_cellA R f28 I42 Z42 R R) R ?_))⟩)))⟩)))))⟩))
 cases h
 exact ⟨K10, R, (hE.stp (S3.tr (S7.tr (S11.tr (S15.tr (S19.tr (S23.tr S27)))))) R R)⟩
theorem s_l16Has_ok {w : World} {κ : Col} {a0 u0} {p0 : (List Int)} {p1 : Int} (g0 : Rd (Rp.int .i64) κ w 0 a0 u0 p0) {r : Bool} (h : s_l16Has p0 p1 = some r) : Ret Tryz.prog 76 [.slice a0 p0.length u0, vi p1] w (fun v w' => ∃ (κ' : Col), v = .bool r ∧ Ent κ w κ' w') := by
 unfold s_l16Has at h
 refine Ret.enter F76 R N76 R ?_
 dsimp only [envOf]
 have hE := Ent.refl κ w
 refine Je [2] R (Jb 1 R (Jq (Je [2] R (Jb 1 R ?_))))
 have hN1 : (p0.length : Int) ≤ 9223372036854775807 := g0.len_le
 refine Ob h fun q2 hq3 hK2 => ?_
 clear h
 refine Jx1 (fun L w' => ∃ κ', L = [] ∧ Stp [] κ w κ' w' ∧ q2 = Sum.inr ()) ?_ ?_
 refine Jv (Jy1 (fun k L w' => ∃ κ' v5, L = [(0, .slice a0 p0.length u0), (1, vi p1), (5, vi v5)] ∧ Stp [] κ w κ' w' ∧ 0 ≤ v5 ∧ Int.toNat ((p0.length : Int) - v5) = k ∧ cntM (s_l16Has_b0 p0 p1) k v5 () = some q2) ⟨_, _, ⟨κ, 0, R, (Jx2 _ _).wk R, (by decide), (by simp), hq3⟩, (KM R)⟩ ?_)
 rintro k _ w7 ⟨K8, v5, rfl, S9, hj1, hJ1, h⟩
 rcases k with _ | k
 have hk10 := h; obtain ⟨o1, h⟩ := ex_eq (Sum.inr (Sum.inl ()) : Bool ⊕ ((Unit) ⊕ (Unit)))
 have hc1 : decide (v5 < (p0.length : Int)) = false := Jo2 (by omega)
 refine Jq (Je [2, 2, 2, 2] R (Jn 2 R (Jf R (Je2 U22 R R) (Jb 1 R (Jw2 R hc1 (Jc1 (Jt (Jt ?_))))))))
 cases h
 have h := hk10
 refine Jb1 ?_
 cases h
 exact Jw1 _ ⟨K8, R, S9.wk R, R⟩ KN
 obtain ⟨o1, h, hk10⟩ := BI h; unfold s_l16Has_b0 at h
 have hc1 : decide (v5 < (p0.length : Int)) = true := Jn2 (by omega)
 refine Jq (Je [2, 2, 2, 2] R (Jn 2 R (Jf R (Je2 U22 R R) (Jb 1 R (Jv2 R hc1 (Js (Jp (Jq (Jv (Je [2, 2, 2, 1, 2, 2] R (Jn 2 R (Ob h fun x14 hx14 h => Jf R (Jf2 g0 hx14 U22 Z2 R R R R) (Jl tv R R R R (Jc2 I2 R R (hvE ((g0.stp S9 R R).gInt hx14))) (Jb 2 R ?_))))))))))))))
 revert h
 cases ht12 : (x14 == p1)
 refine JF fun h => Jy R (Js (Jz (Jp (Ja [2, 2, 2] R (Jc 3 R ?_)))))
 have hw1 : IntKind.wrap .i64 (v5 + 1) = v5 + 1 := wr1 hj1 (Jm2 hc1) hN1
 rw [hw1]
 have hc1 := Jm2 hc1
 cases h
 exact Jz1 fun a ha => ⟨k, _, Ja3 _, ⟨K8, v5 + 1, R, S9.wk R, by omega, by omega, hk10⟩, (ha.mm R)⟩
 refine JT fun h => Jx R (Je [2] R (Jb 1 R (Ju (Ja1 (Jw (Jw ?_))))))
 cases h
 obtain rfl := Option.some.inj hk10
 have h := hK2
 dsimp only [aft] at h
 refine Ja1 (Jq2 (Jw (Ja2 (l := [.tmp 4]) V76 (Jp2 R R) R ?_)))
 cases h
 exact ⟨K8, R, (hE.stp S9 R R)⟩
 rintro _ w4 ⟨K5, rfl, S6, rfl⟩
 have h := hK2
 dsimp only [aft] at h
 refine Jp (Je [2] R (Jb 1 R (Ju (Ja2 (l := [.tmp 4]) V76 (Jp2 R R) R ?_))))
 cases h
 exact ⟨K5, R, (hE.stp S6 R R)⟩
theorem s_l6Part_ok {w : World} {κ : Col} {ao al ah aq ai an} {p0 : Parity} {am ap aj ak} {p1 : Answer} {p2 : Int} (g0_0_0 : Rd (Rp.int .i64) κ w 0 ao al p0.Arena.Owner) (g0_0_1 : Rd (Rp.sl (Rp.int .i64)) κ w 0 ah aq p0.Arena.Next) (g0_1 : Rd (Rp.int .i64) κ w 0 ai an p0.Prio) (g1_0 : Rd (Rp.int .i64) κ w 0 am ap p1.Won) (g1_1 : Rd (Rp.int .i64) κ w 0 aj ak p1.Plan) {r : (List Int)} (h : s_l6Part p0 p1 p2 = some r) : Ret Tryz.prog 65 [.agg #[.slice ao p0.Arena.Owner.length al, .slice ah p0.Arena.Next.length aq, .slice ai p0.Prio.length an], .agg #[.slice am p1.Won.length ap, .slice aj p1.Plan.length ak], vi p2] w (fun v w' => ∃ (κ' : Col) (ra0 : Option Addr) (ru0 : Nat), v = .slice ra0 r.length ru0 ∧ Ent κ w κ' w' ∧ Oc E6 2 κ' w' 2 ra0 ru0 r) := by
 unfold s_l6Part at h
 refine Ret.enter F65 R N65 R ?_
 dsimp only [envOf]
 have hE := Ent.refl κ w
 refine Je [1, 1, 2] R (Jf1 (κ := κ) 2 R R R R R R R fun b3 w1 K2 S3 f4 => ⟨tv, Jf1 (κ := K2) 3 R R R R R R R fun b4 w5 K6 S7 f8 => ⟨tv, Jb 1 R (Je [1, 2] R (Jo1 (κ := K6) (E := E6) 4 R R R R R Y22 Tryzinfo2 R fun a9 u9 w9 K10 S11 f12 => ⟨tv, Jb 1 R (Jq (Je [2] R (Jb 1 R ?_)))⟩))⟩⟩)
 have hN13 : (p1.Plan.length : Int) ≤ 9223372036854775807 := g1_1.len_le
 refine Ob h fun q2 hq15 hK14 => ?_
 clear h
 refine Jx1 (fun L w' => ∃ κ', ∃ s3 : (List Int), ∃ ae ac, L = [(7, .slice ae s3.length ac)] ∧ Stp [4] K10 w9 κ' w' ∧ Oc E6 2 κ' w' 4 ae ac s3 ∧ q2 = Sum.inr s3) ?_ ?_
 refine Jv (Jy1 (fun k L w' => ∃ κ' v8, ∃ s1 : (List Int), ∃ aa af, L = [(2, vi p2), (3, .pointer (some ⟨b3, 0, none⟩)), (4, .pointer (some ⟨b4, 0, none⟩)), (7, .slice aa s1.length af), (8, vi v8)] ∧ Stp [4] K10 w9 κ' w' ∧ Oc E6 2 κ' w' 4 aa af s1 ∧ 0 ≤ v8 ∧ Int.toNat ((p1.Plan.length : Int) - v8) = k ∧ cntM (s_l6Part_b0 p0 p1 p2) k v8 s1 = some q2) ⟨_, _, ⟨K10, 0, (([] : List Int) : (List Int)), a9, u9, R, (Jx2 _ _).wk R, f12, (by decide), (by simp), hq15⟩, (KM R)⟩ ?_)
 rintro k _ w20 ⟨K21, v8, s1, aa, af, rfl, S22, f23, hj13, hJ13, h⟩
 rcases k with _ | k
 have hk24 := h; obtain ⟨o13, h⟩ := ex_eq (Sum.inr (Sum.inl s1) : (List Int) ⊕ (((List Int)) ⊕ ((List Int))))
 have hc13 : decide (v8 < (p1.Plan.length : Int)) = false := Jo2 (by omega)
 refine Jq (Je [2, 2, 1, 2, 2] R (Jn 1 R (Jf R (Jb2 U34 R Z22 R R) (Jl tv R R R R (Jc2 I22 R R (hvE ((f8.stp (S11.tr S22) R R).ld 1 R R))) (Jf R (Je2 U22 R R) (Jb 1 R (Jw2 R hc13 (Jc1 (Jt (Jt ?_))))))))))
 cases h
 have h := hk24
 refine Jb1 ?_
 cases h
 exact Jw1 _ ⟨K21, (s1 : (List Int)), aa, af, R, S22.wk R, f23, R⟩ (KM R)
 obtain ⟨o13, h, hk24⟩ := BI h; unfold s_l6Part_b0 at h
 have hc13 : decide (v8 < (p1.Plan.length : Int)) = true := Jn2 (by omega)
 refine Jq (Je [2, 2, 1, 2, 2] R (Jn 1 R (Jf R (Jb2 U34 R Z22 R R) ?_)))
 have f26 := f8.stp (S11.tr S22) R R
 refine Jl tv R R R R (Jc2 I22 R R (hvE (f26.ld 1 R R))) (Jf R (Je2 U22 R R) (Jb 1 R (Jv2 R hc13 (Js (Jp (Jq (Jv (Je [2, 2, 1, 2, 2, 1, 2, 2] R (Jf R (Jb2 U39 R Z37 R R) (Jf R (Jb2 U37 R Z22 R R) (Jl tv R R R R (Jc2 I22 R R (hvE ((f4.stp (S7.tr (S11.tr S22)) R R).ld 0 R R))) (Jn 1 R (Ob h fun x21 hx21 h => Jf R (Jf2 g0_0_0 hx21 U22 Z2 R R R R) (Jl tv R R R R (Jc2 I2 R R (hvE ((g0_0_0.stp (S3.tr (S7.tr (S11.tr S22))) R R).gInt hx21))) (Jb 2 R (Ob h fun q4 h hK29 => Jx1 (fun L w' => ∃ κ' ad ab, L = [(2, vi p2), (3, .pointer (some ⟨b3, 0, none⟩)), (4, .pointer (some ⟨b4, 0, none⟩)), (7, .slice ad q4.length ab), (8, vi v8)] ∧ Stp [4] K21 w20 κ' w' ∧ Oc E6 2 κ' w' 4 ad ab q4) ?_ ?_))))))))))))))))
 revert h
 cases ht34 : (x21 == p2)
 refine JF fun h => Jy R (Ja [2, 1, 1, 2] R (Jn 1 R (Jn1 (κ := K21) (E := E6) 5 [] (parts := [(0, .const (vi (-1)))]) (cells := [vi (-1)]) (xs := ([(-1)] : List Int)) R R R R R R Y22 Tryzinfo2 R R R R R R R R R R ⟨[vi (-1)], [], Zl K21 w20 [], Zl K21 w20 [], R, Zl.sp (l1 := []) (l2 := []) R, Zl.sr (l1 := []) (l2 := []), R, R⟩ fun aA ay w45 K46 S47 f48 => ⟨tv, Ob h fun x35 hx35 h => Jm1 (κ := K46) (E := E6) 4 [] R R R R R R R R R Y22 Tryzinfo2 R R R R (f23.stp S47 R R) (Sl.srcP (pu_int _) f48.rdc) sy_false hx35 R fun av ar w50 K51 S52 f53 => ⟨tv, Jc 1 R ?_⟩⟩)))
 cases h
 exact Jw1 _ ⟨K51, av, ar, R, (S47.tr S52).wk R, f53⟩ (KM R)
 refine JT fun h => Jx R (Ja [2, 2, 1, 2, 2, 1, 1, 1, 2] R (Jn 1 R (Jf R (Jb2 U34 R Z22 R R) (Jl tv R R R R (Jc2 I22 R R (hvE (f26.ld 1 R R))) (Jn 1 R (Ob h fun x29 hx29 h => Jf R (Jf2 g1_1 hx29 U22 Z2 R R R R) (Jl tv R R R R (Jc2 I2 R R (hvE ((g1_1.stp (S3.tr (S7.tr (S11.tr S22))) R R).gInt hx29))) (Jn1 (κ := K21) (E := E6) 5 [] (parts := [(0, .tmp 30)]) (cells := [vi x29]) (xs := ([x29] : List Int)) R R R R R R Y22 Tryzinfo2 R R R R R R R R R R ⟨[vi x29], [], Zl K21 w20 [], Zl K21 w20 [], R, Zl.sp (l1 := []) (l2 := []) R, Zl.sr (l1 := []) (l2 := []), R, R⟩ fun az ax w36 K37 S38 f39 => ⟨tv, Ob h fun x32 hx32 h => Jm1 (κ := K37) (E := E6) 4 [] R R R R R R R R R Y22 Tryzinfo2 R R R R (f23.stp S38 R R) (Sl.srcP (pu_int _) f39.rdc) sy_false hx32 R fun au aw w41 K42 S43 f44 => ⟨tv, Jc 1 R ?_⟩⟩))))))))
 cases h
 exact Jw1 _ ⟨K42, au, aw, R, (S38.tr S43).wk R, f44⟩ (KM R)
 rintro _ w30 ⟨K31, ad, ab, rfl, S32, f33⟩
 have h := hK29
 refine Jz (Jp (Ja [2, 2, 2] R (Jc 3 R ?_)))
 have hw13 : IntKind.wrap .i64 (v8 + 1) = v8 + 1 := wr1 hj13 (Jm2 hc13) hN13
 rw [hw13]
 have hc13 := Jm2 hc13
 cases h
 exact Jz1 fun a ha => ⟨k, _, Ja3 _, ⟨K31, v8 + 1, (q4 : (List Int)), ad, ab, R, (S22.tr S32).wk R, f33, by omega, by omega, hk24⟩, (ha.mm R)⟩
 rintro _ w16 ⟨K17, s3, ae, ac, rfl, S18, f19, rfl⟩
 have h := hK14
 dsimp only [aft] at h
 refine Jp (Je [2, 2] R (Jb 2 R (Ju (Ja2 (l := [.tmp 6]) V65 (Jp2 R R) R ?_))))
 cases h
 exact ⟨(fun b => ren [(4, 2)] (K17 b)), ae, ac, R, ((hE.stp (S3.tr (S7.tr (S11.tr S18))) R R).map (ren [(4, 2)]) R R), (f19.map (ren [(4, 2)]) R R)⟩
theorem s_l1Copy_ok {w : World} {κ : Col} {a0 u0} {p0 : (List Int)} (g0 : Rd (Rp.int .i64) κ w 0 a0 u0 p0) {r : (List Int)} (h : s_l1Copy p0 = some r) : Ret Tryz.prog 114 [.slice a0 p0.length u0] w (fun v w' => ∃ (κ' : Col) (ra0 : Option Addr) (ru0 : Nat), v = .slice ra0 r.length ru0 ∧ Ent κ w κ' w' ∧ Oc E6 2 κ' w' 2 ra0 ru0 r) := by
 unfold s_l1Copy at h
 refine Ret.enter F114 R N114 R ?_
 dsimp only [envOf]
 have hE := Ent.refl κ w
 refine Je [2] R (Jb 1 R (Je [1, 2, 1, 2] R (Jo1 (κ := κ) (E := E6) 2 R R R R R Y22 Tryzinfo2 R fun a3 u3 w1 K2 S3 f4 => ⟨tv, Jn 1 R (Ob h fun x5 hx5 h => Jm1 (κ := K2) (E := E6) 2 [] R R R R R R R R R Y22 Tryzinfo2 R R R R f4 (Sl.srcP (pu_int _) (g0.stp S3 R R)) sy_false hx5 R fun a5 u5 w6 K7 S8 f9 => ⟨tv, Jb 1 R (Ju (Ja2 (l := [.tmp 2]) V114 (Jp2 R R) R ?_))⟩)⟩)))
 cases h
 exact ⟨K7, a5, u5, R, (hE.stp (S3.tr S8) R R), f9⟩
theorem s_l16Before_ok {w : World} {κ : Col} {af ad ac ae} {p0 : Arena} {a1 u1} {p1 : (List Bool)} (g0_0 : Rd (Rp.int .i64) κ w 0 af ad p0.Owner) (g0_1 : Rd (Rp.sl (Rp.int .i64)) κ w 0 ac ae p0.Next) (g1 : Rd Rp.bool κ w 0 a1 u1 p1) {r : (List Bool)} (h : s_l16Before p0 p1 = some r) : Ret Tryz.prog 77 [.agg #[.slice af p0.Owner.length ad, .slice ac p0.Next.length ae], .slice a1 p1.length u1] w (fun v w' => ∃ (κ' : Col) (ra0 : Option Addr) (ru0 : Nat), v = .slice ra0 r.length ru0 ∧ Ent κ w κ' w' ∧ Oc Ep.bool 4 κ' w' 2 ra0 ru0 r) := by
 unfold s_l16Before at h
 refine Ret.enter F77 R N77 R ?_
 dsimp only [envOf]
 have hE := Ent.refl κ w
 refine Je [1, 2] R (Jf1 (κ := κ) 2 R R R R R R R fun b2 w1 K2 S3 f4 => ⟨tv, Jb 1 R (Je [1, 2, 1, 2] R (Jo1 (κ := K2) (E := Ep.bool) 3 R R R R R Y70 Tryzinfo4 R fun a9 u9 w5 K6 S7 f8 => ⟨tv, Jn 1 R (Ob h fun x11 hx11 h => Jm1 (κ := K6) (E := Ep.bool) 3 [] R R R R R R R R R Y70 Tryzinfo4 R R R R f8 (Sl.srcP pu_bool (g1.stp (S3.tr S7) R R)) sy_false hx11 R fun aa ab w10 K11 S12 f13 => ⟨tv, Jb 1 R (Jq (Je [2] R (Jb 1 R (Ob h fun q2 hq16 hK15 => ?_))))⟩)⟩))⟩)
 clear h
 refine Jx1 (fun L w' => ∃ κ', ∃ s3 : Bool × (List Bool), L = [(5, .slice aa x11.length ab)] ∧ Stp [3] K11 w10 κ' w' ∧ Oc Ep.bool 4 κ' w' 3 aa ab s3.2 ∧ x11.length = s3.2.length ∧ q2 = Sum.inr s3) ?_ ?_
 refine Jv (Jy1 (fun k L w' => ∃ κ', ∃ s1 : Bool × (List Bool), L = [(2, .pointer (some ⟨b2, 0, none⟩)), (5, .slice aa x11.length ab), (6, .bool s1.1)] ∧ Stp [3] K11 w10 κ' w' ∧ Oc Ep.bool 4 κ' w' 3 aa ab s1.2 ∧ x11.length = s1.2.length ∧ whileM (s_l16Before_b0 p0) k s1 = some q2) ⟨_, _, ⟨K11, ((true : Bool), (x11 : (List Bool))), R, (Jx2 _ _).wk R, f13, R, hq16⟩, (KM R)⟩ ?_)
 rintro k _ w22 ⟨K23, s1, rfl, S24, f25, hn26, h⟩
 rcases k with _ | k
 cases h
 obtain ⟨o14, h, hk27⟩ := BI h; unfold s_l16Before_b0 at h
 refine Jq (Je [2] R (Jb 1 R ?_))
 revert h
 cases ht28 : s1.1
 refine JF fun h => Jy R (Jc1 (Jt (Jt ?_)))
 cases h
 have h := hk27
 refine Jb1 ?_
 cases h
 exact Jw1 _ ⟨K23, ((false : Bool), (s1.2 : (List Bool))), R, S24.wk R, f25, hn26, R⟩ (KM R)
 refine JT fun h => Jx R (Js (Jp (Jv (Je [2] R (Jb 1 R (Je [2] R (Jb 1 R ?_)))))))
 have hN29 : (p0.Next.length : Int) ≤ 9223372036854775807 := g0_1.len_le
 refine Ob h fun q5 hq31 hK30 => ?_
 clear h
 refine Jx1 (fun L w' => ∃ κ', ∃ s6 : Bool × (List Bool), L = [(2, .pointer (some ⟨b2, 0, none⟩)), (5, .slice aa x11.length ab), (6, .bool s6.1)] ∧ Stp [3] K23 w22 κ' w' ∧ Oc Ep.bool 4 κ' w' 3 aa ab s6.2 ∧ x11.length = s6.2.length ∧ q5 = Sum.inr s6) ?_ ?_
 refine Jv (Jy1 (fun k L w' => ∃ κ' v7, ∃ s4 : Bool × (List Bool), L = [(2, .pointer (some ⟨b2, 0, none⟩)), (5, .slice aa x11.length ab), (6, .bool s4.1), (7, vi v7)] ∧ Stp [3] K23 w22 κ' w' ∧ Oc Ep.bool 4 κ' w' 3 aa ab s4.2 ∧ x11.length = s4.2.length ∧ 0 ≤ v7 ∧ Int.toNat ((p0.Next.length : Int) - v7) = k ∧ cntM (s_l16Before_b2 p0) k v7 s4 = some q5) ⟨_, _, ⟨K23, 0, ((false : Bool), (s1.2 : (List Bool))), R, (Jx2 _ _).wk R, f25, hn26, (by decide), (by simp), hq31⟩, (KM R)⟩ ?_)
 rintro k _ w37 ⟨K38, v7, s4, rfl, S39, f40, hn41, hj29, hJ29, h⟩
 rcases k with _ | k
 have hk42 := h; obtain ⟨o29, h⟩ := ex_eq (Sum.inr (Sum.inl s4) : (List Bool) ⊕ ((Bool × (List Bool)) ⊕ (Bool × (List Bool))))
 have hc29 : decide (v7 < (p0.Next.length : Int)) = false := Jo2 (by omega)
 refine Jq (Je [2, 2, 1, 2, 2] R (Jn 1 R (Jf R (Jb2 U37 R Z23 R R) (Jl tv R R R R (Jc2 I23 R R (hvE ((f4.stp (S7.tr (S12.tr (S24.tr S39))) R R).ld 1 R R))) (Jf R (Je2 U23 R R) (Jb 1 R (Jw2 R hc29 (Jc1 (Jt (Jt ?_))))))))))
 cases h
 have h := hk42
 refine Jb1 ?_
 cases h
 exact Jw1 _ ⟨K38, ((s4.1 : Bool), (s4.2 : (List Bool))), R, S39.wk R, f40, hn41, R⟩ (KM R)
 obtain ⟨o29, h, hk42⟩ := BI h; unfold s_l16Before_b2 at h
 have hc29 : decide (v7 < (p0.Next.length : Int)) = true := Jn2 (by omega)
 refine Jq (Je [2, 2, 1, 2, 2] R (Jn 1 R (Jf R (Jb2 U37 R Z23 R R) ?_)))
 have f44 := f4.stp (S7.tr (S12.tr (S24.tr S39))) R R
 refine Jl tv R R R R (Jc2 I23 R R (hvE (f44.ld 1 R R))) (Jf R (Je2 U23 R R) (Jb 1 R (Jv2 R hc29 (Js (Jp (Jq (Jv (Je [2] R (Jb 1 R (Ob h fun q8 hq47 hK46 => ?_))))))))))
 clear h
 refine Jx1 (fun L w' => ∃ κ', ∃ s9 : Bool × Int × (List Bool), L = [(2, .pointer (some ⟨b2, 0, none⟩)), (5, .slice aa x11.length ab), (6, .bool s9.1), (7, vi v7)] ∧ Stp [3] K38 w37 κ' w' ∧ Oc Ep.bool 4 κ' w' 3 aa ab s9.2.2 ∧ x11.length = s9.2.2.length ∧ q8 = Sum.inr s9) ?_ ?_
 refine Jv (Jy1 (fun k L w' => ∃ κ', ∃ s7 : Bool × Int × (List Bool), L = [(2, .pointer (some ⟨b2, 0, none⟩)), (5, .slice aa x11.length ab), (6, .bool s7.1), (7, vi v7), (8, vi s7.2.1)] ∧ Stp [3] K38 w37 κ' w' ∧ Oc Ep.bool 4 κ' w' 3 aa ab s7.2.2 ∧ x11.length = s7.2.2.length ∧ whileM (s_l16Before_b4 p0 v7) k s7 = some q8) ⟨_, _, ⟨K38, ((s4.1 : Bool), (0 : Int), (s4.2 : (List Bool))), R, (Jx2 _ _).wk R, f40, hn41, hq47⟩, (KM R)⟩ ?_)
 rintro k _ w53 ⟨K54, s7, rfl, S55, f56, hn57, h⟩
 rcases k with _ | k
 cases h
 obtain ⟨o45, h, hk58⟩ := BI h; unfold s_l16Before_b4 at h
 refine Jq (Je [2, 2, 1, 2, 2, 1, 2, 2, 2, 2, 2, 2, 1, 2, 2] R (Jn 1 R (Jf R (Jb2 U37 R Z23 R R) ?_)))
 have f59 := f44.stp S55 R R
 refine Jl tv R R R R (Jc2 I23 R R (hvE (f59.ld 1 R R))) (Jn 1 R (Ob h fun x24 hx24 h => Jf R (Jf2 g0_1 hx24 U23 Z22 R R R R) ?_))
 have f60 := g0_1.stp (S3.tr (S7.tr (S12.tr (S24.tr (S39.tr S55))))) R R
 obtain ⟨ax24, ux24, f61, hl62⟩ := f60.gSl hx24
 refine Jl tv R R R R (Jc2 I22 R R (hvE hl62)) (Jf R (Je2 U22 R R) (Jn 2 R (Ob h fun p34 h hK63 => Ju1 [(9, 2), (10, 2), (11, 2), (12, 1), (13, 2), (14, 2)] [] (fun L w' => L = [(2, .pointer (some ⟨b2, 0, none⟩)), (5, .slice aa x11.length ab), (6, .bool s7.1), (7, vi v7), (8, vi s7.2.1), (34, .bool p34)] ∧ ∃ κ', Stp [] K54 w53 κ' w') tv ?_ ?_)))
 revert h
 cases ht64 : decide (s7.2.1 < (x24.length : Int))
 refine JF fun h => Jn 3 R (Jd1 R R R R (Jn 2 R ?_))
 cases h
 exact Jv1 _ tv ⟨R, _, (Jx2 _ _).wk R⟩ (KM R)
 refine JT fun h => Jn 2 R (Ob h fun x31 hx31 h => Jf R (Jf2 f56.rdc hx31 U70 Z4 R R hn57 R) (Jl tv R R R R (Jc2 I4 R R (hvE (f56.rdc.gBool hx31))) (Jn 2 R ?_)))
 cases h
 exact Jv1 _ tv ⟨R, _, (Jx2 _ _).wk R⟩ (KM R)
 rintro _ w65 _ ⟨rfl, K66, S67⟩
 have h := hK63
 refine Jd ?_
 revert h
 cases ht68 : p34
 refine JF fun h => Jy R (Jc1 (Jt (Jt ?_)))
 cases h
 have h := hk58
 refine Jb1 ?_
 cases h
 exact Jw1 _ ⟨K66, ((s7.1 : Bool), (s7.2.1 : Int), (s7.2.2 : (List Bool))), R, (S55.tr S67).wk R, (f56.stp S67 R R), hn57, R⟩ (KM R)
 refine JT fun h => Jx R (Js (Jp (Jq (Jv (Je [2, 2, 1, 2, 2, 1, 2, 2, 1, 2, 1] R (Jn 1 R (Jf R (Jb2 U37 R Z23 R R) (Jl tv R R R R (Jc2 I23 R R (hvE ((f59.stp S67 R R).ld 1 R R))) (Jn 1 R (Ob h fun x41 hx41 h => Jf R (Jf2 f60 hx41 U23 Z22 R R R R) ?_))))))))))
 obtain ⟨ax41, ux41, f71, hl72⟩ := (f60.stp S67 R R).gSl hx41
 refine Jl tv R R R R (Jc2 I22 R R (hvE hl72)) (Jn 1 R (Ob h fun x44 hx44 h => Jf R (Jf2 f71 hx44 U22 Z2 R R R R) (Jl tv R R R R (Jc2 I2 R R (hvE (f71.gInt hx44))) (Ob h fun x46 hx46 h => Jf R (Jf2 f56.rdc hx46 U70 Z4 R R hn57 R) ?_))))
 have f73 := f56.stp S67 R R
 refine Jl tv R R R R (Jc2 I4 R R (hvE (f73.rdc.gBool hx46))) (Jd (Ob h fun q10 h hK74 => Jx1 (fun L w' => ∃ κ', L = [(2, .pointer (some ⟨b2, 0, none⟩)), (5, .slice aa x11.length ab), (6, .bool q10.1), (7, vi v7), (8, vi s7.2.1)] ∧ Stp [3] K66 w65 κ' w' ∧ Oc Ep.bool 4 κ' w' 3 aa ab q10.2 ∧ x11.length = q10.2.length) ?_ ?_))
 revert h
 cases ht80 : x46
 refine JF fun h => Jy R (Js ?_)
 cases h
 exact Jw1 _ ⟨K66, R, (Jx2 _ _).wk R, f73, hn57⟩ (KM R)
 refine JT fun h => Jx R (Je [2, 2, 2, 1] R (Jn 2 R (Ob h fun x50 hx50 h => Jf R (Jf2 f73.rdc hx50 U70 Z4 R R hn57 R) (Ob h fun y94 hy94 h => Jk1 (κ := K66) (E := Ep.bool) 3 [] R R R R R R R R Z4 R R R R f73 hy94 fun w81 K82 S83 f84 => ⟨tv, ?_⟩))))
 have hn85 : x11.length = y94.length := hn57.trans (Jt2 hy94).2.2.2.symm
 refine Jd (Ja [2] R (Jc 1 R ?_))
 cases h
 exact Jw1 _ ⟨K82, R, S83.wk R, f84, hn85⟩ (KM R)
 rintro _ w75 ⟨K76, rfl, S77, f78, hn79⟩
 have h := hK74
 refine Jz (Jp (Ja [2, 2, 2] R (Jc 3 R ?_)))
 cases h
 exact Jz1 fun a ha => ⟨k, _, Ja3 _, ⟨K76, ((q10.1 : Bool), ((IntKind.i64.wrap (s7.2.1 + 1)) : Int), (q10.2 : (List Bool))), R, (S55.tr (S67.tr S77)).wk R, f78, hn79, hk58⟩, (ha.mm R)⟩
 rintro _ w48 ⟨K49, s9, rfl, S50, f51, hn52, rfl⟩
 have h := hK46
 dsimp only [aft] at h
 refine Jz (Jp (Ja [2, 2, 2] R (Jc 3 R ?_)))
 have hw29 : IntKind.wrap .i64 (v7 + 1) = v7 + 1 := wr1 hj29 (Jm2 hc29) hN29
 rw [hw29]
 have hc29 := Jm2 hc29
 cases h
 exact Jz1 fun a ha => ⟨k, _, Ja3 _, ⟨K49, v7 + 1, ((s9.1 : Bool), (s9.2.2 : (List Bool))), R, (S39.tr S50).wk R, f51, hn52, by omega, by omega, hk42⟩, (ha.mm R)⟩
 rintro _ w32 ⟨K33, s6, rfl, S34, f35, hn36, rfl⟩
 have h := hK30
 dsimp only [aft] at h
 refine Jz ?_
 cases h
 exact Jz1 fun a ha => ⟨k, _, Ja3 _, ⟨K33, ((s6.1 : Bool), (s6.2 : (List Bool))), R, (S24.tr S34).wk R, f35, hn36, hk27⟩, (ha.mm R)⟩
 rintro _ w17 ⟨K18, s3, rfl, S19, f20, hn21, rfl⟩
 have h := hK15
 dsimp only [aft] at h
 refine Jp (Je [2, 2] R (Jb 2 R (Ju (Ja2 (l := [.tmp 4]) V77 (Jp2 R R) R ?_))))
 cases h
 exact ⟨(fun b => ren [(3, 2)] (K18 b)), aa, ab, (by simp only [hn21]), ((hE.stp (S3.tr (S7.tr (S12.tr S19))) R R).map (ren [(3, 2)]) R R), (f20.map (ren [(3, 2)]) R R)⟩
theorem i_RegionOf_ok {w : World} {κ : Col} {ai af aj ak} {p0 : Answer} {p1 : Int} (g0_0 : Rd (Rp.int .i64) κ w 0 ai af p0.Won) (g0_1 : Rd (Rp.int .i64) κ w 0 aj ak p0.Plan) {r : (List Int)} (h : i_RegionOf p0 p1 = some r) : Ret Tryz.prog 82 [.agg #[.slice ai p0.Won.length af, .slice aj p0.Plan.length ak], vi p1] w (fun v w' => ∃ (κ' : Col) (ra0 : Option Addr) (ru0 : Nat), v = .slice ra0 r.length ru0 ∧ Ent κ w κ' w' ∧ Oc E6 2 κ' w' 2 ra0 ru0 r) := by
 unfold i_RegionOf at h
 refine Ret.enter F82 R N82 R ?_
 dsimp only [envOf]
 have hE := Ent.refl κ w
 refine Je [1, 2] R (Jf1 (κ := κ) 2 R R R R R R R fun b2 w1 K2 S3 f4 => ⟨tv, Jb 1 R (Jq (Je [2, 1, 2, 2] R (Jf R (Jb2 U34 R Z22 R R) (Jl tv R R R R (Jc2 I22 R R (hvE (f4.ld 0 R R))) (Jf R (Je2 U22 R R) (Jb 1 R ?_))))))⟩)
 revert h
 cases ht5 : decide (256 < (p0.Won.length : Int))
 refine JF fun h => Jy R (Js (Jp (Je [1, 2] R (Jo1 (κ := K2) (E := E6) 3 R R R R R Y22 Tryzinfo2 R fun am an w7 K8 S9 f10 => ⟨tv, Jb 1 R (Jq (Je [2, 1, 2, 2] R (Jf R (Jb2 U34 R Z22 R R) (Jl tv R R R R (Jc2 I22 R R (hvE ((f4.stp S9 R R).ld 0 R R))) (Jf R (Je2 U22 R R) (Jb 1 R ?_))))))⟩))))
 have hN12 : (p0.Won.length : Int) ≤ 9223372036854775807 := g0_0.len_le
 refine Ob h fun q2 hq14 hK13 => ?_
 clear h
 refine Jx1 (fun L w' => ∃ κ', ∃ s3 : (List Int), ∃ ah ad, L = [(5, .slice ah s3.length ad)] ∧ Stp [3] K8 w7 κ' w' ∧ Oc E6 2 κ' w' 3 ah ad s3 ∧ q2 = Sum.inr s3) ?_ ?_
 refine Jv (Jy1 (fun k L w' => ∃ κ' v16, ∃ s1 : (List Int), ∃ ab aa, L = [(1, vi p1), (5, .slice ab s1.length aa), (14, .slice ai p0.Won.length af), (15, vi (p0.Won.length : Int)), (16, vi v16)] ∧ Stp [3] K8 w7 κ' w' ∧ Oc E6 2 κ' w' 3 ab aa s1 ∧ 0 ≤ v16 ∧ Int.toNat ((p0.Won.length : Int) - v16) = k ∧ cntM (i_RegionOf_b0 p0 p1) k v16 s1 = some q2) ⟨_, _, ⟨K8, 0, (([] : List Int) : (List Int)), am, an, R, (Jx2 _ _).wk R, f10, (by decide), (by simp), hq14⟩, (KM R)⟩ ?_)
 rintro k _ w19 ⟨K20, v16, s1, ab, aa, rfl, S21, f22, hj12, hJ12, h⟩
 rcases k with _ | k
 have hk23 := h; obtain ⟨o12, h⟩ := ex_eq (Sum.inr (Sum.inl s1) : (List Int) ⊕ (((List Int)) ⊕ ((List Int))))
 have hc12 : decide (v16 < (p0.Won.length : Int)) = false := Jo2 (by omega)
 refine Je [2] R (Jb 1 R (Jq (Jw2 R hc12 (Jc1 (Jt (Jt ?_))))))
 cases h
 have h := hk23
 refine Jb1 ?_
 cases h
 exact Jw1 _ ⟨K20, (s1 : (List Int)), ab, aa, R, S21.wk R, f22, R⟩ (KM R)
 obtain ⟨o12, h, hk23⟩ := BI h; unfold i_RegionOf_b0 at h
 have hc12 : decide (v16 < (p0.Won.length : Int)) = true := Jn2 (by omega)
 refine Je [2] R (Jb 1 R (Jq (Jv2 R hc12 (Js (Jp (Jq (Jv (Je [2, 2, 1, 2, 2] R (Jn 1 R (Ob h fun x19 hx19 h => Jf R (Jf2 g0_0 hx19 U22 Z2 R R R R) (Jl tv R R R R (Jc2 I2 R R (hvE ((g0_0.stp (S3.tr (S9.tr S21)) R R).gInt hx19))) (Jb 2 R (Je [2, 2, 2] R (Jb 3 R (Ob h fun q4 h hK25 => Jx1 (fun L w' => ∃ κ' ae ac, L = [(1, vi p1), (5, .slice ae q4.length ac), (14, .slice ai p0.Won.length af), (15, vi (p0.Won.length : Int)), (16, vi v16)] ∧ Stp [3] K20 w19 κ' w' ∧ Oc E6 2 κ' w' 3 ae ac q4) ?_ ?_)))))))))))))))
 revert h
 cases ht30 : (x19 == p1)
 refine JF fun h => Jy R (Js ?_)
 cases h
 exact Jw1 _ ⟨K20, ab, aa, R, (Jx2 _ _).wk R, f22⟩ (KM R)
 refine JT fun h => Jx R (Ja [2, 2, 1, 1, 2] R (Jn 2 R (Jn1 (κ := K20) (E := E6) 4 [] (parts := [(0, .tmp 25)]) (cells := [vi v16]) (xs := ([v16] : List Int)) R R R R R R Y22 Tryzinfo2 R R R R R R R R R R ⟨[vi v16], [], Zl K20 w19 [], Zl K20 w19 [], R, Zl.sp (l1 := []) (l2 := []) R, Zl.sr (l1 := []) (l2 := []), R, R⟩ fun aq ap w31 K32 S33 f34 => ⟨tv, Ob h fun x27 hx27 h => Jm1 (κ := K32) (E := E6) 3 [] R R R R R R R R R Y22 Tryzinfo2 R R R R (f22.stp S33 R R) (Sl.srcP (pu_int _) f34.rdc) sy_false hx27 R fun al ao w36 K37 S38 f39 => ⟨tv, Jc 1 R ?_⟩⟩)))
 cases h
 exact Jw1 _ ⟨K37, al, ao, R, (S33.tr S38).wk R, f39⟩ (KM R)
 rintro _ w26 ⟨K27, ae, ac, rfl, S28, f29⟩
 have h := hK25
 refine Jz (Jp (Ja [2, 2] R (Jc 2 R ?_)))
 have hw12 : IntKind.wrap .i64 (v16 + 1) = v16 + 1 := wr1 hj12 (Jm2 hc12) hN12
 rw [hw12]
 have hc12 := Jm2 hc12
 cases h
 exact Jz1 fun a ha => ⟨k, _, Ja3 _, ⟨K27, v16 + 1, (q4 : (List Int)), ae, ac, R, (S21.tr S28).wk R, f29, by omega, by omega, hk23⟩, (ha.mm R)⟩
 rintro _ w15 ⟨K16, s3, ah, ad, rfl, S17, f18, rfl⟩
 have h := hK13
 dsimp only [aft] at h
 refine Jp (Je [2, 2] R (Jb 2 R (Ju (Ja2 (l := [.tmp 4]) V82 (Jp2 R R) R ?_))))
 cases h
 exact ⟨(fun b => ren [(3, 2)] (K16 b)), ah, ad, R, ((hE.stp (S3.tr (S9.tr S17)) R R).map (ren [(3, 2)]) R R), (f18.map (ren [(3, 2)]) R R)⟩
 refine JT fun h => Jx R (Je [2] R (Jb 1 R (Ju (Jw (Ja2 (l := [.tmp 4]) V82 (Jp2 R R) R ?_)))))
 cases h
 exact ⟨K2, none, 0, R, (hE.stp S3 R R), Ow.nil⟩
theorem i_copyLists_ok {w : World} {κ : Col} {a0 u0} {p0 : (List (List Int))} (g0 : Rd (Rp.sl (Rp.int .i64)) κ w 0 a0 u0 p0) {r : (List (List Int))} (h : i_copyLists p0 = some r) : Ret Tryz.prog 140 [.slice a0 p0.length u0] w (fun v w' => ∃ (κ' : Col) (ra0 : Option Addr) (ru0 : Nat), v = .slice ra0 r.length ru0 ∧ Ent κ w κ' w' ∧ Oc (Ep.own E6 2) 22 κ' w' 2 ra0 ru0 r) := by
 unfold i_copyLists at h
 refine Ret.enter F140 R N140 R ?_
 dsimp only [envOf]
 have hE := Ent.refl κ w
 refine Je [2] R (Jb 1 R (Je [1, 2] R (Jo1 (κ := κ) (E := (Ep.own E6 2)) 2 R R R R R Y23 Tryzinfo22 R fun a6 u6 w1 K2 S3 f4 => ⟨tv, Jb 1 R (Jq (Je [2, 2, 2] R (Jn 1 R (Jf R (Je2 U23 R R) (Jb 1 R ?_)))))⟩)))
 have hN5 : (p0.length : Int) ≤ 9223372036854775807 := g0.len_le
 refine Ob h fun q2 hq7 hK6 => ?_
 clear h
 refine Jx1 (fun L w' => ∃ κ', ∃ s3 : (List (List Int)), ∃ ab aa, L = [(3, .slice ab s3.length aa)] ∧ Stp [2, 3, 4] K2 w1 κ' w' ∧ Oc (Ep.own E6 2) 22 κ' w' 2 ab aa s3 ∧ q2 = Sum.inr s3) ?_ ?_
 refine Jv (Jy1 (fun k L w' => ∃ κ' v9, ∃ s1 : (List (List Int)), ∃ ad ac, L = [(3, .slice ad s1.length ac), (7, .slice a0 p0.length u0), (8, vi (p0.length : Int)), (9, vi v9)] ∧ Stp [2, 3, 4] K2 w1 κ' w' ∧ Oc (Ep.own E6 2) 22 κ' w' 2 ad ac s1 ∧ 0 ≤ v9 ∧ Int.toNat ((p0.length : Int) - v9) = k ∧ cntM (i_copyLists_b0 p0) k v9 s1 = some q2) ⟨_, _, ⟨K2, 0, (([] : List (List Int)) : (List (List Int))), a6, u6, R, (Jx2 _ _).wk R, f4, (by decide), (by simp), hq7⟩, (KM R)⟩ ?_)
 rintro k _ w12 ⟨K13, v9, s1, ad, ac, rfl, S14, f15, hj5, hJ5, h⟩
 rcases k with _ | k
 have hk16 := h; obtain ⟨o5, h⟩ := ex_eq (Sum.inr (Sum.inl s1) : (List (List Int)) ⊕ (((List (List Int))) ⊕ ((List (List Int)))))
 have hc5 : decide (v9 < (p0.length : Int)) = false := Jo2 (by omega)
 refine Je [2] R (Jb 1 R (Jq (Jw2 R hc5 (Jc1 (Jt (Jt ?_))))))
 cases h
 have h := hk16
 refine Jb1 ?_
 cases h
 exact Jw1 _ ⟨K13, (s1 : (List (List Int))), ad, ac, R, S14.wk R, f15, R⟩ (KM R)
 obtain ⟨o5, h, hk16⟩ := BI h; unfold i_copyLists_b0 at h
 have hc5 : decide (v9 < (p0.length : Int)) = true := Jn2 (by omega)
 refine Je [2] R (Jb 1 R (Jq (Jv2 R hc5 (Js (Jp (Jq (Jv (Je [2, 1, 2] R (Ob h fun x11 hx11 h => Jf R (Jf2 g0 hx11 U23 Z22 R R R R) ?_)))))))))
 obtain ⟨ax11, ux11, f18, hl19⟩ := (g0.stp (S3.tr S14) R R).gSl hx11
 refine Jl tv R R R R (Jc2 I22 R R (hvE hl19)) (Jb 1 R (Ja [2, 1, 2, 1, 1, 1, 2] R (Jn 1 R (Jo1 (κ := K13) (E := E6) 3 R R R R R Y22 Tryzinfo2 R fun aj am w20 K21 S22 f23 => ⟨tv, Jn 1 R (Ob h fun x16 hx16 h => Jm1 (κ := K21) (E := E6) 3 [] R R R R R R R R R Y22 Tryzinfo2 R R R R f23 (Sl.srcP (pu_int _) (f18.stp S22 R R)) sy_false hx16 R fun ae af w25 K26 S27 f28 => ⟨tv, Jn1 (κ := K26) (E := (Ep.own E6 2)) 4 [3] (parts := [(0, .tmp 16)]) (cells := [.slice ae x16.length af]) (xs := ([x16] : List (List Int))) R R R R R R Y23 Tryzinfo22 R R R R R R R R R R ⟨[.slice ae x16.length af], [], Zl K26 w25 [3], Zl K26 w25 [], R, Zl.sp (l1 := [3]) (l2 := []) R, Zl.sr (l1 := [3]) (l2 := []), ⟨_, _, R, f28⟩, R⟩ fun ak al w29 K30 S31 f32 => ⟨tv, Ob h fun x18 hx18 h => Jm1 (κ := K30) (E := (Ep.own E6 2)) 2 [4] R R R R R R R R R Y23 Tryzinfo22 R R R R (f15.stp (S22.tr (S27.tr S31)) R R) f32.src (sy_one R) hx18 R fun ah ai w34 K35 S36 f37 => ⟨tv, Jc 1 R (Jz (Jp (Ja [2, 2] R (Jc 2 R ?_))))⟩⟩⟩)⟩))))
 have hw5 : IntKind.wrap .i64 (v9 + 1) = v9 + 1 := wr1 hj5 (Jm2 hc5) hN5
 rw [hw5]
 have hc5 := Jm2 hc5
 cases h
 exact Jz1 fun a ha => ⟨k, _, Ja3 _, ⟨K35, v9 + 1, (x18 : (List (List Int))), ah, ai, R, (S14.tr (S22.tr (S27.tr (S31.tr S36)))).wk R, f37, by omega, by omega, hk16⟩, (ha.mm R)⟩
 rintro _ w8 ⟨K9, s3, ab, aa, rfl, S10, f11, rfl⟩
 have h := hK6
 dsimp only [aft] at h
 refine Jp (Je [2, 2] R (Jb 2 R (Ju (Ja2 (l := [.tmp 2]) V140 (Jp2 R R) R ?_))))
 cases h
 exact ⟨K9, ab, aa, R, (hE.stp (S3.tr S10) R R), f11⟩
theorem i_size_ok {w : World} {κ : Col} {ab aa ad ac} {p0 : Arena} (g0_0 : Rd (Rp.int .i64) κ w 0 ab aa p0.Owner) (g0_1 : Rd (Rp.sl (Rp.int .i64)) κ w 0 ad ac p0.Next) {r : Int} (h : i_size p0 = some r) : Ret Tryz.prog 117 [.agg #[.slice ab p0.Owner.length aa, .slice ad p0.Next.length ac]] w (fun v w' => ∃ (κ' : Col), v = vi r ∧ Ent κ w κ' w') := by
 unfold i_size at h
 refine Ret.enter F117 R N117 R ?_
 dsimp only [envOf]
 have hE := Ent.refl κ w
 refine Je [1, 2] R (Jf1 (κ := κ) 2 R R R R R R R fun b1 w1 K2 S3 f4 => ⟨tv, Jb 1 R (Je [2, 1, 2, 2] R (Jf R (Jb2 U37 R Z22 R R) (Jl tv R R R R (Jc2 I22 R R (hvE (f4.ld 0 R R))) (Jf R (Je2 U22 R R) (Jb 1 R (Ju (Ja2 (l := [.tmp 2]) V117 (Jp2 R R) R ?_)))))))⟩)
 cases h
 exact ⟨K2, R, (hE.stp S3 R R)⟩
theorem slices_Sort_I_int64_ok {w : World} {κ : Col} {a0 u0} {p0 : (List Int)} (g0 : Oc E6 2 κ w 2 a0 u0 p0) {r : (List Int)} (h : slices_Sort_I_int64 p0 = some r) : Ret Tryz.prog 120 [.slice a0 p0.length u0] w (fun v w' => ∃ (κ' : Col), v = .tuple #[] ∧ Ent κ w κ' w' ∧ Oc E6 2 κ' w' 2 a0 u0 r ∧ p0.length = r.length) := by
  unfold slices_Sort_I_int64 at h
  split at h
  · rename_i hh
    cases h
    exact sort_ok (fun blk off cap zs w hH hb hz => Tryz.slices_Sort_int blk off cap zs w hH hb hz) g0 hh.1 hh.2
  · cases h
theorem i_AllOf_ok {w : World} {κ : Col} {p0 : Int}  {r : (List Int)} (h : i_AllOf p0 = some r) : Ret Tryz.prog 132 [vi p0] w (fun v w' => ∃ (κ' : Col) (ra0 : Option Addr) (ru0 : Nat), v = .slice ra0 r.length ru0 ∧ Ent κ w κ' w' ∧ Oc E6 2 κ' w' 2 ra0 ru0 r) := by
 unfold i_AllOf at h
 refine Ret.enter F132 R N132 R ?_
 dsimp only [envOf]
 have hE := Ent.refl κ w
 refine Je [2] R (Jb 1 R (Jq (Je [2, 2, 2, 2, 2, 2] R (Jn 3 R (Ob h fun p10 h hK1 => Ju1 [(3, 2), (4, 2), (5, 2)] [] (fun L w' => L = [(0, vi p0), (10, .bool p10)] ∧ ∃ κ', Stp [] κ w κ' w') tv ?_ ?_)))))
 revert h
 cases ht2 : decide (p0 < 0)
 refine JF fun h => Jn 3 R ?_
 cases h
 exact Jv1 _ tv ⟨R, _, (Jx2 _ _).wk R⟩ (KM R)
 refine JT fun h => Jn 3 R ?_
 cases h
 exact Jv1 _ tv ⟨R, _, (Jx2 _ _).wk R⟩ (KM R)
 rintro _ w3 _ ⟨rfl, K4, S5⟩
 have h := hK1
 refine Jd ?_
 revert h
 cases ht6 : p10
 refine JF fun h => Jy R (Js (Jp (Je [1, 2] R (Jo1 (κ := K4) (E := E6) 2 R R R R R Y22 Tryzinfo2 R fun ae ai w8 K9 S10 f11 => ⟨tv, Jb 1 R (Jq (Je [2] R (Jb 1 R (Ob h fun _ hr12 h => ?_))))⟩))))
 have hN12 := rng_ok hr12
 refine Ob h fun q2 hq14 hK13 => ?_
 clear h
 refine Jx1 (fun L w' => ∃ κ', ∃ s3 : (List Int), ∃ ab aa, L = [(3, .slice ab s3.length aa)] ∧ Stp [2] K9 w8 κ' w' ∧ Oc E6 2 κ' w' 2 ab aa s3 ∧ q2 = Sum.inr s3) ?_ ?_
 refine Jv (Jy1 (fun k L w' => ∃ κ' v4, ∃ s1 : (List Int), ∃ ad ac, L = [(0, vi p0), (3, .slice ad s1.length ac), (4, vi v4)] ∧ Stp [2] K9 w8 κ' w' ∧ Oc E6 2 κ' w' 2 ad ac s1 ∧ 0 ≤ v4 ∧ Int.toNat (p0 - v4) = k ∧ cntM i_AllOf_b0 k v4 s1 = some q2) ⟨_, _, ⟨K9, 0, (([] : List Int) : (List Int)), ae, ai, R, (Jx2 _ _).wk R, f11, (by decide), (by simp), hq14⟩, (KM R)⟩ ?_)
 rintro k _ w19 ⟨K20, v4, s1, ad, ac, rfl, S21, f22, hj12, hJ12, h⟩
 rcases k with _ | k
 have hk23 := h; obtain ⟨o12, h⟩ := ex_eq (Sum.inr (Sum.inl s1) : (List Int) ⊕ (((List Int)) ⊕ ((List Int))))
 have hc12 : decide (v4 < p0) = false := Jo2 (by omega)
 refine Jq (Je [2, 2, 2] R (Jb 3 R (Jw2 R hc12 (Jc1 (Jt (Jt ?_))))))
 cases h
 have h := hk23
 refine Jb1 ?_
 cases h
 exact Jw1 _ ⟨K20, (s1 : (List Int)), ad, ac, R, S21.wk R, f22, R⟩ (KM R)
 obtain ⟨o12, h, hk23⟩ := BI h; unfold i_AllOf_b0 at h
 have hc12 : decide (v4 < p0) = true := Jn2 (by omega)
 refine Jq (Je [2, 2, 2] R (Jb 3 R (Jv2 R hc12 (Js (Jp (Jq (Jv (Ja [2, 2, 1, 1, 2] R (Jn 2 R (Jn1 (κ := K20) (E := E6) 3 [] (parts := [(0, .tmp 18)]) (cells := [vi v4]) (xs := ([v4] : List Int)) R R R R R R Y22 Tryzinfo2 R R R R R R R R R R ⟨[vi v4], [], Zl K20 w19 [], Zl K20 w19 [], R, Zl.sp (l1 := []) (l2 := []) R, Zl.sr (l1 := []) (l2 := []), R, R⟩ fun ak aj w24 K25 S26 f27 => ⟨tv, Ob h fun x20 hx20 h => Jm1 (κ := K25) (E := E6) 2 [] R R R R R R R R R Y22 Tryzinfo2 R R R R (f22.stp S26 R R) (Sl.srcP (pu_int _) f27.rdc) sy_false hx20 R fun ah af w29 K30 S31 f32 => ⟨tv, Jc 1 R (Jz (Jp (Ja [2, 2, 2] R (Jc 3 R ?_))))⟩⟩))))))))))
 have hw12 : IntKind.wrap .i64 (v4 + 1) = v4 + 1 := wr1 hj12 (Jm2 hc12) hN12
 rw [hw12]
 have hc12 := Jm2 hc12
 cases h
 exact Jz1 fun a ha => ⟨k, _, Ja3 _, ⟨K30, v4 + 1, (x20 : (List Int)), ah, af, R, (S21.tr (S26.tr S31)).wk R, f32, by omega, by omega, hk23⟩, (ha.mm R)⟩
 rintro _ w15 ⟨K16, s3, ab, aa, rfl, S17, f18, rfl⟩
 have h := hK13
 dsimp only [aft] at h
 refine Jp (Je [2, 2] R (Jb 2 R (Ju (Ja2 (l := [.tmp 2]) V132 (Jp2 R R) R ?_))))
 cases h
 exact ⟨K16, ab, aa, R, (hE.stp (S5.tr (S10.tr S17)) R R), f18⟩
 refine JT fun h => Jx R (Je [2] R (Jb 1 R (Ju (Jw (Ja2 (l := [.tmp 2]) V132 (Jp2 R R) R ?_)))))
 cases h
 exact ⟨K4, none, 0, R, (hE.stp S5 R R), Ow.nil⟩
theorem i_without_ok {w : World} {κ : Col} {a0 u0} {p0 : (List Bool)} {a1 u1} {p1 : (List Bool)} (g0 : Rd Rp.bool κ w 0 a0 u0 p0) (g1 : Rd Rp.bool κ w 0 a1 u1 p1) {r : (List Bool)} (h : i_without p0 p1 = some r) : Ret Tryz.prog 131 [.slice a0 p0.length u0, .slice a1 p1.length u1] w (fun v w' => ∃ (κ' : Col) (ra0 : Option Addr) (ru0 : Nat), v = .slice ra0 r.length ru0 ∧ Ent κ w κ' w' ∧ Oc Ep.bool 4 κ' w' 2 ra0 ru0 r) := by
 unfold i_without at h
 refine Ret.enter F131 R N131 R ?_
 dsimp only [envOf]
 have hE := Ent.refl κ w
 refine Je [2] R (Jb 1 R (Je [2, 2, 1, 2] R (Jn 1 R (Jf R (Je2 U70 R R) (Ob h fun x9 hx9 h => Jl1 (κ := κ) (E := Ep.bool) (z := (false : Bool)) 2 R R R R R R R Y70 Tryzinfo4 R R R R R (fun _ _ _ => R) (Ju2 hx9) fun a9 u9 w1 K2 S3 f4 => ⟨tv, Jb 1 R (Jq (Je [2, 2, 2] R (Jn 1 R (Jf R (Je2 U70 R R) (Jb 1 R ?_)))))⟩)))))
 have hN5 : (p0.length : Int) ≤ 9223372036854775807 := g0.len_le
 refine Ob h fun q2 hq7 hK6 => ?_
 clear h
 refine Jx1 (fun L w' => ∃ κ', ∃ s3 : (List Bool), L = [(5, .slice a9 x9.length u9)] ∧ Stp [2] K2 w1 κ' w' ∧ Oc Ep.bool 4 κ' w' 2 a9 u9 s3 ∧ x9.length = s3.length ∧ q2 = Sum.inr s3) ?_ ?_
 refine Jv (Jy1 (fun k L w' => ∃ κ' v12, ∃ s1 : (List Bool), L = [(0, .slice a0 p0.length u0), (1, .slice a1 p1.length u1), (5, .slice a9 x9.length u9), (11, vi (p0.length : Int)), (12, vi v12)] ∧ Stp [2] K2 w1 κ' w' ∧ Oc Ep.bool 4 κ' w' 2 a9 u9 s1 ∧ x9.length = s1.length ∧ 0 ≤ v12 ∧ Int.toNat ((p0.length : Int) - v12) = k ∧ cntM (i_without_b0 p0 p1) k v12 s1 = some q2) ⟨_, _, ⟨K2, 0, (x9 : (List Bool)), R, (Jx2 _ _).wk R, f4, R, (by decide), (by simp), hq7⟩, (KM R)⟩ ?_)
 rintro k _ w13 ⟨K14, v12, s1, rfl, S15, f16, hn17, hj5, hJ5, h⟩
 rcases k with _ | k
 have hk18 := h; obtain ⟨o5, h⟩ := ex_eq (Sum.inr (Sum.inl s1) : (List Bool) ⊕ (((List Bool)) ⊕ ((List Bool))))
 have hc5 : decide (v12 < (p0.length : Int)) = false := Jo2 (by omega)
 refine Je [2] R (Jb 1 R (Jq (Jw2 R hc5 (Jc1 (Jt (Jt ?_))))))
 cases h
 have h := hk18
 refine Jb1 ?_
 cases h
 exact Jw1 _ ⟨K14, (s1 : (List Bool)), R, S15.wk R, f16, hn17, R⟩ (KM R)
 obtain ⟨o5, h, hk18⟩ := BI h; unfold i_without_b0 at h
 have hc5 : decide (v12 < (p0.length : Int)) = true := Jn2 (by omega)
 refine Je [2] R (Jb 1 R (Jq (Jv2 R hc5 (Js (Jp (Jq (Jv (Je [2, 2] R (Jb 2 R (Ja [2, 2, 2, 2, 2, 1, 2, 2, 2, 2, 1, 2, 2, 2, 1] R (Jn 4 R (Ob h fun x19 hx19 h => Jf R (Jf2 g0 hx19 U70 Z4 R R R R) (Jl tv R R R R (Jc2 I4 R R (hvE ((g0.stp (S3.tr S15) R R).gBool hx19))) (Jn 1 R (Ob h fun p27 h hK20 => Ju1 [(7, 2), (8, 2), (9, 2), (10, 1), (11, 2), (12, 2)] [(13, 2), (14, 1)] (fun L w' => L = [(0, .slice a0 p0.length u0), (1, .slice a1 p1.length u1), (5, .slice a9 x9.length u9), (11, vi (p0.length : Int)), (12, vi v12), (15, .slice a9 x9.length u9), (16, vi v12), (27, .bool p27)] ∧ ∃ κ', Stp [] K14 w13 κ' w') tv ?_ ?_)))))))))))))))
 revert h
 cases ht21 : x19
 refine JF fun h => Jn 3 R (Jd1 R R R R (Jn 2 R ?_))
 cases h
 exact Jv1 _ tv ⟨R, _, (Jx2 _ _).wk R⟩ (KM R)
 refine JT fun h => Jn 2 R (Ob h fun x24 hx24 h => Jf R (Jf2 g1 hx24 U70 Z4 R R R R) (Jl tv R R R R (Jc2 I4 R R (hvE ((g1.stp (S3.tr S15) R R).gBool hx24))) (Jn 2 R ?_)))
 cases h
 exact Jv1 _ tv ⟨R, _, (Jx2 _ _).wk R⟩ (KM R)
 rintro _ w23 _ ⟨rfl, K24, S25⟩
 have h := hK20
 refine Ob h fun x28 hx28 h => Jf R (Jf2 f16.rdc hx28 U70 Z4 R R hn17 R) (Ob h fun y298 hy298 h => Jk1 (κ := K24) (E := Ep.bool) 2 [] R R R R R R R R Z4 R R R R (f16.stp S25 R R) hy298 fun w27 K28 S29 f30 => ⟨tv, ?_⟩)
 have hn31 : x9.length = y298.length := hn17.trans (Jt2 hy298).2.2.2.symm
 refine Jo (Jz (Jp (Ja [2, 2] R (Jc 2 R ?_))))
 have hw5 : IntKind.wrap .i64 (v12 + 1) = v12 + 1 := wr1 hj5 (Jm2 hc5) hN5
 rw [hw5]
 have hc5 := Jm2 hc5
 cases h
 exact Jz1 fun a ha => ⟨k, _, Ja3 _, ⟨K28, v12 + 1, (y298 : (List Bool)), R, (S15.tr (S25.tr S29)).wk R, f30, hn31, by omega, by omega, hk18⟩, (ha.mm R)⟩
 rintro _ w8 ⟨K9, s3, rfl, S10, f11, hn12, rfl⟩
 have h := hK6
 dsimp only [aft] at h
 refine Jp (Je [2, 2] R (Jb 2 R (Ju (Ja2 (l := [.tmp 4]) V131 (Jp2 R R) R ?_))))
 cases h
 exact ⟨K9, a9, u9, (by simp only [hn12]), (hE.stp (S3.tr S10) R R), f11⟩
theorem slices_Index_bool_bool_ok {w : World} {κ : Col} {a0 u0} {p0 : (List Bool)} {p1 : Bool} (g0 : Rd Rp.bool κ w 0 a0 u0 p0) {r : Int} (h : slices_Index_bool_bool p0 p1 = some r) : Ret Tryz.prog 174 [.slice a0 p0.length u0, .bool p1] w (fun v w' => ∃ (κ' : Col), v = vi r ∧ Ent κ w κ' w') := by
 unfold slices_Index_bool_bool at h
 refine Ret.enter F174 R N174 R ?_
 dsimp only [envOf]
 have hE := Ent.refl κ w
 refine Je [2] R (Jb 1 R (Jq (Je [2, 2, 2] R (Jn 1 R (Jf R (Je2 U70 R R) (Jb 1 R ?_))))))
 have hN1 : (p0.length : Int) ≤ 9223372036854775807 := g0.len_le
 refine Ob h fun q2 hq3 hK2 => ?_
 clear h
 refine Jx1 (fun L w' => ∃ κ', L = [] ∧ Stp [] κ w κ' w' ∧ q2 = Sum.inr ()) ?_ ?_
 refine Jv (Jy1 (fun k L w' => ∃ κ' v8, L = [(0, .slice a0 p0.length u0), (1, .bool p1), (7, vi (p0.length : Int)), (8, vi v8)] ∧ Stp [] κ w κ' w' ∧ 0 ≤ v8 ∧ Int.toNat ((p0.length : Int) - v8) = k ∧ cntM (slices_Index_bool_bool_b0 p0 p1) k v8 () = some q2) ⟨_, _, ⟨κ, 0, R, (Jx2 _ _).wk R, (by decide), (by simp), hq3⟩, (KM R)⟩ ?_)
 rintro k _ w7 ⟨K8, v8, rfl, S9, hj1, hJ1, h⟩
 rcases k with _ | k
 have hk10 := h; obtain ⟨o1, h⟩ := ex_eq (Sum.inr (Sum.inl ()) : Int ⊕ ((Unit) ⊕ (Unit)))
 have hc1 : decide (v8 < (p0.length : Int)) = false := Jo2 (by omega)
 refine Je [2] R (Jb 1 R (Jq (Jw2 R hc1 (Jc1 (Jt (Jt ?_))))))
 cases h
 have h := hk10
 refine Jb1 ?_
 cases h
 exact Jw1 _ ⟨K8, R, S9.wk R, R⟩ KN
 obtain ⟨o1, h, hk10⟩ := BI h; unfold slices_Index_bool_bool_b0 at h
 have hc1 : decide (v8 < (p0.length : Int)) = true := Jn2 (by omega)
 refine Je [2] R (Jb 1 R (Jq (Jv2 R hc1 (Js (Jp (Jq (Jv (Je [2, 2] R (Jb 2 R (Je [2, 2, 2, 2, 1, 2] R (Jn 3 R (Ob h fun x14 hx14 h => Jf R (Jf2 g0 hx14 U70 Z4 R R R R) (Jl tv R R R R (Jc2 I4 R R (hvE ((g0.stp S9 R R).gBool hx14))) (Jf R (rn_eqlB R R U4 R) (Jd ?_)))))))))))))))
 revert h
 cases ht12 : (p1 == x14)
 refine JF fun h => Jy R (Js (Jz (Jp (Ja [2, 2] R (Jc 2 R ?_)))))
 have hw1 : IntKind.wrap .i64 (v8 + 1) = v8 + 1 := wr1 hj1 (Jm2 hc1) hN1
 rw [hw1]
 have hc1 := Jm2 hc1
 cases h
 exact Jz1 fun a ha => ⟨k, _, Ja3 _, ⟨K8, v8 + 1, R, S9.wk R, by omega, by omega, hk10⟩, (ha.mm R)⟩
 refine JT fun h => Jx R (Je [2, 2] R (Jb 2 R (Ju (Ja1 (Jw (Jw ?_))))))
 cases h
 obtain rfl := Option.some.inj hk10
 have h := hK2
 dsimp only [aft] at h
 refine Ja1 (Jq2 (Jw (Ja2 (l := [.tmp 4]) V174 (Jp2 R R) R ?_)))
 cases h
 exact ⟨K8, R, (hE.stp S9 R R)⟩
 rintro _ w4 ⟨K5, rfl, S6, rfl⟩
 have h := hK2
 dsimp only [aft] at h
 refine Jp (Je [2] R (Jb 1 R (Ju (Ja2 (l := [.tmp 4]) V174 (Jp2 R R) R ?_))))
 cases h
 exact ⟨K5, R, (hE.stp S6 R R)⟩
theorem l_eqInt64S_ok {w : World} {κ : Col} {a0 u0} {p0 : (List Int)} {a1 u1} {p1 : (List Int)} (g0 : Rd (Rp.int .i64) κ w 0 a0 u0 p0) (g1 : Rd (Rp.int .i64) κ w 0 a1 u1 p1) {r : Bool} (h : l_eqInt64S p0 p1 = some r) : Ret Tryz.prog 47 [.slice a0 p0.length u0, .slice a1 p1.length u1] w (fun v w' => ∃ (κ' : Col), v = .bool r ∧ Ent κ w κ' w') := by
 unfold l_eqInt64S at h
 refine Ret.enter F47 R N47 R ?_
 dsimp only [envOf]
 have hE := Ent.refl κ w
 refine Je [2] R (Jb 1 R (Jq (Je [2, 2, 2, 2, 2] R (Jn 1 R (Jf R (Je2 U22 R R) (Jn 1 R (Jf R (Je2 U22 R R) (Jb 1 R ?_))))))))
 revert h
 cases ht1 : ((p0.length : Int) != (p1.length : Int))
 refine JF fun h => Jy R (Js (Jp (Jq (Je [2] R (Jb 1 R ?_)))))
 have hN2 : (p0.length : Int) ≤ 9223372036854775807 := g0.len_le
 refine Ob h fun q2 hq4 hK3 => ?_
 clear h
 refine Jx1 (fun L w' => ∃ κ', L = [] ∧ Stp [] κ w κ' w' ∧ q2 = Sum.inr ()) ?_ ?_
 refine Jv (Jy1 (fun k L w' => ∃ κ' v5, L = [(0, .slice a0 p0.length u0), (1, .slice a1 p1.length u1), (5, vi v5)] ∧ Stp [] κ w κ' w' ∧ 0 ≤ v5 ∧ Int.toNat ((p0.length : Int) - v5) = k ∧ cntM (l_eqInt64S_b0 p0 p1) k v5 () = some q2) ⟨_, _, ⟨κ, 0, R, (Jx2 _ _).wk R, (by decide), (by simp), hq4⟩, (KM R)⟩ ?_)
 rintro k _ w8 ⟨K9, v5, rfl, S10, hj2, hJ2, h⟩
 rcases k with _ | k
 have hk11 := h; obtain ⟨o2, h⟩ := ex_eq (Sum.inr (Sum.inl ()) : Bool ⊕ ((Unit) ⊕ (Unit)))
 have hc2 : decide (v5 < (p0.length : Int)) = false := Jo2 (by omega)
 refine Jq (Je [2, 2, 2, 2] R (Jn 2 R (Jf R (Je2 U22 R R) (Jb 1 R (Jw2 R hc2 (Jc1 (Jt (Jt ?_))))))))
 cases h
 have h := hk11
 refine Jb1 ?_
 cases h
 exact Jw1 _ ⟨K9, R, S10.wk R, R⟩ KN
 obtain ⟨o2, h, hk11⟩ := BI h; unfold l_eqInt64S_b0 at h
 have hc2 : decide (v5 < (p0.length : Int)) = true := Jn2 (by omega)
 refine Jq (Je [2, 2, 2, 2] R (Jn 2 R (Jf R (Je2 U22 R R) (Jb 1 R (Jv2 R hc2 (Js (Jp (Jq (Jv (Jq (Js1 (κ := K9) [0] none [(0, 2), (1, 2), (2, 2), (4, 2), (5, 2), (6, 2), (3, 0), (7, 0), (8, 2)] [] (by kernel_rfl) (by kernel_rfl) fun w13 S12 => Jn 2 R (Ob h fun x19 hx19 h => Jf R (Jf2 g0 hx19 U22 Z2 R R R R) (Jn 2 R (Ob h fun x23 hx23 h => Jf R (Jf2 g1 hx23 U22 Z2 R R R R) (Jg R (Jc2 I2 R R (hvC ((g0.stp (S10.tr S12) R R).gInt hx19) R)) (Jg R (Jc2 I2 R R (hvC ((g1.stp (S10.tr S12) R R).gInt hx23) R)) (Jn 1 R (Jt1 (Jd ?_)))))))))))))))))))
 revert h
 cases ht16 : (x19 != x23)
 refine JF fun h => Jy R (Js (Jz (Jp (Ja [2, 2, 2] R (Jc 3 R ?_)))))
 have hw2 : IntKind.wrap .i64 (v5 + 1) = v5 + 1 := wr1 hj2 (Jm2 hc2) hN2
 rw [hw2]
 have hc2 := Jm2 hc2
 cases h
 exact Jz1 fun a ha => ⟨k, _, Ja3 _, ⟨K9, v5 + 1, R, (S10.tr S12).wk R, by omega, by omega, hk11⟩, (ha.mm R)⟩
 refine JT fun h => Jx R (Je [2] R (Jb 1 R (Ju (Ja1 (Jw (Jw ?_))))))
 cases h
 obtain rfl := Option.some.inj hk11
 have h := hK3
 dsimp only [aft] at h
 refine Ja1 (Jq2 (Jw (Ja2 (l := [.tmp 4]) V47 (Jp2 R R) R ?_)))
 cases h
 exact ⟨K9, R, (hE.stp (S10.tr S12) R R)⟩
 rintro _ w5 ⟨K6, rfl, S7, rfl⟩
 have h := hK3
 dsimp only [aft] at h
 refine Jp (Je [2] R (Jb 1 R (Ju (Ja2 (l := [.tmp 4]) V47 (Jp2 R R) R ?_))))
 cases h
 exact ⟨K6, R, (hE.stp S7 R R)⟩
 refine JT fun h => Jx R (Je [2] R (Jb 1 R (Ju (Jw (Ja2 (l := [.tmp 4]) V47 (Jp2 R R) R ?_)))))
 cases h
 exact ⟨κ, R, hE⟩
theorem l_markInt64S_ok {w : World} {κ : Col} {a0 u0} {p0 : (List Int)} {p1 : Int} (g0 : Oc E6 2 κ w 2 a0 u0 p0) {r : Int × (List Int)} (h : l_markInt64S p0 p1 = some r) : Ret Tryz.prog 50 [.slice a0 p0.length u0, vi p1] w (fun v w' => ∃ (κ' : Col), v = vi r.1 ∧ Ent κ w κ' w' ∧ Oc E6 2 κ' w' 2 a0 u0 r.2 ∧ p0.length = r.2.length) := by
 unfold l_markInt64S at h
 refine Ret.enter F50 R N50 R ?_
 dsimp only [envOf]
 have hE := Ent.refl κ w
 refine Je [2] R (Jb 1 R (Jq (Je [2] R (Jb 1 R ?_))))
 have hN1 : (p0.length : Int) ≤ 9223372036854775807 := g0.len_le
 refine Ob h fun q2 hq3 hK2 => ?_
 clear h
 refine Jx1 (fun L w' => ∃ κ', ∃ s3 : Int × (List Int), L = [(1, vi s3.1)] ∧ Stp [2] κ w κ' w' ∧ Oc E6 2 κ' w' 2 a0 u0 s3.2 ∧ p0.length = s3.2.length ∧ q2 = Sum.inr s3) ?_ ?_
 refine Jv (Jy1 (fun k L w' => ∃ κ' v5, ∃ s1 : Int × (List Int), L = [(0, .slice a0 p0.length u0), (1, vi s1.1), (5, vi v5)] ∧ Stp [2] κ w κ' w' ∧ Oc E6 2 κ' w' 2 a0 u0 s1.2 ∧ p0.length = s1.2.length ∧ 0 ≤ v5 ∧ Int.toNat ((p0.length : Int) - v5) = k ∧ cntM l_markInt64S_b0 k v5 s1 = some q2) ⟨_, _, ⟨κ, 0, ((p1 : Int), (p0 : (List Int))), R, (Jx2 _ _).wk R, g0, R, (by decide), (by simp), hq3⟩, (KM R)⟩ ?_)
 rintro k _ w9 ⟨K10, v5, s1, rfl, S11, f12, hn13, hj1, hJ1, h⟩
 rcases k with _ | k
 have hk14 := h; obtain ⟨o1, h⟩ := ex_eq (Sum.inr (Sum.inl s1) : (Int × (List Int)) ⊕ ((Int × (List Int)) ⊕ (Int × (List Int))))
 have hc1 : decide (v5 < (p0.length : Int)) = false := Jo2 (by omega)
 refine Jq (Je [2, 2, 2, 2] R (Jn 2 R (Jf R (Je2 U22 R R) (Jb 1 R (Jw2 R hc1 (Jc1 (Jt (Jt ?_))))))))
 cases h
 have h := hk14
 refine Jb1 ?_
 cases h
 exact Jw1 _ ⟨K10, ((s1.1 : Int), (s1.2 : (List Int))), R, S11.wk R, f12, hn13, R⟩ (KM R)
 obtain ⟨o1, h, hk14⟩ := BI h; unfold l_markInt64S_b0 at h
 have hc1 : decide (v5 < (p0.length : Int)) = true := Jn2 (by omega)
 refine Jq (Je [2, 2, 2, 2] R (Jn 2 R (Jf R (Je2 U22 R R) (Jb 1 R (Jv2 R hc1 (Js (Jp (Jq (Jv (Je [2, 2, 2, 2, 1] R (Jn 3 R (Ob h fun x15 hx15 h => Jf R (Jf2 f12.rdc hx15 U22 Z2 R R hn13 R) (Ob h fun y348 hy348 h => Jk1 (κ := K10) (E := E6) 2 [] R R R R R R R R Z2 R R R R f12 hy348 fun w15 K16 S17 f18 => ⟨tv, ?_⟩)))))))))))))
 have hn19 : p0.length = y348.length := hn13.trans (Jt2 hy348).2.2.2.symm
 refine Jd (Ja [2, 2, 2] R (Jc 3 R (Jz (Jp (Ja [2, 2, 2] R (Jc 3 R ?_))))))
 have hw1 : IntKind.wrap .i64 (v5 + 1) = v5 + 1 := wr1 hj1 (Jm2 hc1) hN1
 rw [hw1]
 have hc1 := Jm2 hc1
 cases h
 exact Jz1 fun a ha => ⟨k, _, Ja3 _, ⟨K16, v5 + 1, (((IntKind.i64.wrap (s1.1 + 1)) : Int), (y348 : (List Int))), R, (S11.tr S17).wk R, f18, hn19, by omega, by omega, hk14⟩, (ha.mm R)⟩
 rintro _ w4 ⟨K5, s3, rfl, S6, f7, hn8, rfl⟩
 have h := hK2
 dsimp only [aft] at h
 refine Jp (Je [2, 2] R (Jb 2 R (Ju (Ja2 (l := [.tmp 4]) V50 (Jp2 R R) R ?_))))
 cases h
 exact ⟨K5, R, (hE.stp S6 R R), f7, hn8⟩
end Go.Proofs.YtmiilifclnanlaaGreat
