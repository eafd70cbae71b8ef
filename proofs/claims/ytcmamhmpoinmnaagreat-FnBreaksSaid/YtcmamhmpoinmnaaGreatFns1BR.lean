/- The walks, part 1. By program. -/
import Derived.Test.YtcmamhmpoinmnaaGreatFnsMBR
import Derived.Test.YtcmamhmpoinmnaaGreatAlBR
set_option linter.unusedVariables false
set_option linter.unusedSimpArgs false
namespace Go.Proofs.YtcmamhmpoinmnaaGreat
open Go Go.Wk Go.Proofs
set_option maxRecDepth 100000
set_option maxHeartbeats 1000000
theorem l_big_ok {w : World} {κ : Col} {a0 u0} {p0 : (List Int)} (g0 : Rd (Rp.int .u8) κ w 0 a0 u0 p0) {r : Bool} (h : l_big p0 = some r) : Ret Tryz.prog 33 [.slice a0 p0.length u0] w (fun v w' => ∃ (κ' : Col), v = .bool r ∧ Ent κ w κ' w') := by
 unfold l_big at h
 refine Ret.enter F33 R N33 R ?_
 dsimp only [envOf]
 have hE := Ent.refl κ w
 refine Je [2] R (Jb 1 R (Je [2, 2, 2, 2] R (Jn 1 R (Jf R (Je2 U57 R R) (Jb 2 R (Ju (Ja2 (l := [.tmp 2]) V33 (Jp2 R R) R ?_)))))))
 cases h
 exact ⟨κ, R, hE⟩
theorem i_lettersOf_ok {w : World} {κ : Col} {p0 : Sig}  {r : Int} (h : i_lettersOf p0 = some r) : Ret Tryz.prog 119 [.agg #[vi p0.In, vi p0.Out]] w (fun v w' => ∃ (κ' : Col), v = vi r ∧ Ent κ w κ' w') := by
 unfold i_lettersOf at h
 refine Ret.enter F119 R N119 R ?_
 dsimp only [envOf]
 have hE := Ent.refl κ w
 refine Je [1, 2] R (Jf1 (κ := κ) 2 R R R R R R R fun b1 w1 K2 S3 f4 => ⟨tv, Jb 1 R (Je [2, 1, 2, 1, 2, 2, 2] R (Jf R (Jb2 U31 R Z2 R R) (Jl tv R R R R (Jc2 I2 R R (hvE (f4.ld 0 R R))) (Jf R (Jb2 U31 R Z2 R R) (Jl tv R R R R (Jc2 I2 R R (hvE (f4.ld 1 R R))) (Jn 1 R (Ob h fun _z8 hz8 h => Jf R (rn_shl R R R (nn_ok hz8)) (Jb 1 R (Ju (Ja2 (l := [.tmp 2]) V119 (Jp2 R R) R ?_))))))))))⟩)
 cases h
 exact ⟨K2, R, (hE.stp S3 R R)⟩
theorem i_isSet_ok {w : World} {κ : Col} {a0 u0} {p0 : (List Int)} {p1 : Int} (g0 : Rd (Rp.int .i64) κ w 0 a0 u0 p0) {r : Bool} (h : i_isSet p0 p1 = some r) : Ret Tryz.prog 160 [.slice a0 p0.length u0, vi p1] w (fun v w' => ∃ (κ' : Col), v = .bool r ∧ Ent κ w κ' w') := by
 unfold i_isSet at h
 refine Ret.enter F160 R N160 R ?_
 dsimp only [envOf]
 have hE := Ent.refl κ w
 refine Je [2] R (Jb 1 R (Jq (Je [2, 2, 2] R (Jn 1 R (Jf R (Je2 U40 R R) (Jb 1 R ?_))))))
 have hN1 : (p0.length : Int) ≤ 9223372036854775807 := g0.len_le
 refine Ob h fun q2 hq3 hK2 => ?_
 clear h
 refine Jx1 (fun L w' => ∃ κ', L = [] ∧ Stp [] κ w κ' w' ∧ q2 = Sum.inr ()) ?_ ?_
 refine Jv (Jy1 (fun k L w' => ∃ κ' v9, L = [(0, .slice a0 p0.length u0), (1, vi p1), (7, .slice a0 p0.length u0), (8, vi (p0.length : Int)), (9, vi v9)] ∧ Stp [] κ w κ' w' ∧ 0 ≤ v9 ∧ Int.toNat ((p0.length : Int) - v9) = k ∧ cntM (i_isSet_b0 p0 p1) k v9 () = some q2) ⟨_, _, ⟨κ, 0, R, (Jx2 _ _).wk R, (by decide), (by simp), hq3⟩, (KM R)⟩ ?_)
 rintro k _ w7 ⟨K8, v9, rfl, S9, hj1, hJ1, h⟩
 rcases k with _ | k
 have hk10 := h; obtain ⟨o1, h⟩ := ex_eq (Sum.inr (Sum.inl ()) : Bool ⊕ ((Unit) ⊕ (Unit)))
 have hc1 : decide (v9 < (p0.length : Int)) = false := Jo2 (by omega)
 refine Je [2] R (Jb 1 R (Jq (Jw2 R hc1 (Jc1 (Jt (Jt ?_))))))
 cases h
 have h := hk10
 refine Jb1 ?_
 cases h
 exact Jw1 _ ⟨K8, R, S9.wk R, R⟩ KN
 obtain ⟨o1, h, hk10⟩ := BI h; unfold i_isSet_b0 at h
 have hc1 : decide (v9 < (p0.length : Int)) = true := Jn2 (by omega)
 refine Je [2] R (Jb 1 R (Jq (Jv2 R hc1 (Js (Jp (Jq (Jv (Je [2, 2, 1, 2, 2] R (Jn 1 R (Ob h fun x12 hx12 h => Jf R (Jf2 g0 hx12 U40 Z2 R R R R) ?_))))))))))
 have f11 := g0.stp S9 R R
 refine Jl tv R R R R (Jc2 I2 R R (hvE (f11.gInt hx12))) (Jb 2 R (Je [2, 2, 2, 2, 2, 2, 2, 2, 2, 2, 2, 2, 2, 2, 2, 2, 1, 2, 2, 2] R (Jn 3 R (Ob h fun p20 h hK12 => Ju1 [(3, 2), (4, 2), (5, 2), (6, 2)] [(7, 2), (8, 2), (9, 2), (10, 2), (11, 2), (12, 2), (13, 2), (14, 2), (15, 2), (16, 1), (17, 2), (18, 2), (19, 2)] (fun L w' => L = [(0, .slice a0 p0.length u0), (1, vi p1), (5, vi v9), (6, vi x12), (7, .slice a0 p0.length u0), (8, vi (p0.length : Int)), (9, vi v9), (20, .bool p20)] ∧ ∃ κ', Stp [] K8 w7 κ' w') tv ?_ ?_))))
 revert h
 cases ht13 : decide (x12 < 0)
 refine JF fun h => Jn 4 R ?_
 cases h
 exact Jv1 _ tv ⟨R, _, (Jx2 _ _).wk R⟩ (KM R)
 refine JT fun h => Jn 4 R ?_
 cases h
 exact Jv1 _ tv ⟨R, _, (Jx2 _ _).wk R⟩ (KM R)
 rintro _ w14 _ ⟨rfl, K15, S16⟩
 have h := hK12
 refine Jn 1 R (Ob h fun p33 h hK17 => Ju1 [(8, 2), (9, 2), (10, 2), (11, 2), (12, 2), (13, 2), (14, 2), (15, 2), (16, 1), (17, 2), (18, 2), (19, 2)] [] (fun L w' => L = [(0, .slice a0 p0.length u0), (1, vi p1), (7, .slice a0 p0.length u0), (8, vi (p0.length : Int)), (9, vi v9), (33, .bool p33)] ∧ ∃ κ', Stp [] K15 w14 κ' w') tv ?_ ?_)
 revert h
 cases ht18 : p20
 refine JF fun h => Jn 3 R (Ob h fun p32 h hK19 => Ju1 [(11, 2), (12, 2), (13, 2), (14, 2), (15, 2), (16, 1), (17, 2), (18, 2)] [(19, 2)] (fun L w' => L = [(0, .slice a0 p0.length u0), (1, vi p1), (7, .slice a0 p0.length u0), (8, vi (p0.length : Int)), (9, vi v9), (21, .bool false), (22, vi v9), (23, .bool (decide (0 < v9))), (24, .bool (decide (0 < v9))), (32, .bool p32)] ∧ ∃ κ', Stp [] K15 w14 κ' w') tv ?_ ?_)
 revert h
 cases ht20 : decide (0 < v9)
 refine JF fun h => Jn 5 R (Jd1 R R R R (Jn 2 R ?_))
 cases h
 exact Jv1 _ tv ⟨R, _, (Jx2 _ _).wk R⟩ (KM R)
 refine JT fun h => Jn 4 R (Ob h fun x29 hx29 h => Jf R (Jf2 f11 hx29 U40 Z2 R R R R) (Jl tv R R R R (Jc2 I2 R R (hvE ((f11.stp S16 R R).gInt hx29))) (Jn 2 R ?_)))
 cases h
 exact Jv1 _ tv ⟨R, _, (Jx2 _ _).wk R⟩ (KM R)
 rintro _ w22 _ ⟨rfl, K23, S24⟩
 have h := hK19
 refine Jn 1 R ?_
 cases h
 exact Jv1 _ tv ⟨R, _, S24.wk R⟩ (KM R)
 refine JT fun h => Jn 8 R (Jd1 R R R R (Jn 3 R ?_))
 cases h
 exact Jv1 _ tv ⟨R, _, (Jx2 _ _).wk R⟩ (KM R)
 rintro _ w25 _ ⟨rfl, K26, S27⟩
 have h := hK17
 refine Jd ?_
 revert h
 cases ht28 : p33
 refine JF fun h => Jy R (Js (Jz (Jp (Ja [2, 2] R (Jc 2 R ?_)))))
 have hw1 : IntKind.wrap .i64 (v9 + 1) = v9 + 1 := wr1 hj1 (Jm2 hc1) hN1
 rw [hw1]
 have hc1 := Jm2 hc1
 cases h
 exact Jz1 fun a ha => ⟨k, _, Ja3 _, ⟨K26, v9 + 1, R, (S9.tr (S16.tr S27)).wk R, by omega, by omega, hk10⟩, (ha.mm R)⟩
 refine JT fun h => Jx R (Je [2] R (Jb 1 R (Ju (Ja1 (Jw (Jw ?_))))))
 cases h
 obtain rfl := Option.some.inj hk10
 have h := hK2
 dsimp only [aft] at h
 refine Ja1 (Jq2 (Jw (Ja2 (l := [.tmp 4]) V160 (Jp2 R R) R ?_)))
 cases h
 exact ⟨K26, R, (hE.stp (S9.tr (S16.tr S27)) R R)⟩
 rintro _ w4 ⟨K5, rfl, S6, rfl⟩
 have h := hK2
 dsimp only [aft] at h
 refine Jp (Je [2] R (Jb 1 R (Ju (Ja2 (l := [.tmp 4]) V160 (Jp2 R R) R ?_))))
 cases h
 exact ⟨K5, R, (hE.stp S6 R R)⟩
theorem i_monitorStep_ok {w : World} {κ : Col} {p0 : Int} {p1 : Int} {p2 : Bool} {p3 : Bool}  {r : Int} (h : i_monitorStep p0 p1 p2 p3 = some r) : Ret Tryz.prog 151 [vi p0, vi p1, .bool p2, .bool p3] w (fun v w' => ∃ (κ' : Col), v = vi r ∧ Ent κ w κ' w') := by
 unfold i_monitorStep at h
 refine Ret.enter F151 R N151 R ?_
 dsimp only [envOf]
 have hE := Ent.refl κ w
 refine Je [2] R (Jb 1 R (Je [2, 2] R (Jb 2 R (Jq (Je [2] R (Jb 1 R (Ob h fun q1 h hK1 => Jx1 (fun L w' => ∃ κ', L = [(0, vi p0), (1, vi p1), (3, .bool p3), (9, vi q1), (10, vi 0)] ∧ Stp [] κ w κ' w') ?_ ?_)))))))
 revert h
 cases ht5 : p2
 refine JF fun h => Jy R (Js ?_)
 cases h
 exact Jw1 _ ⟨κ, R, (Jx2 _ _).wk R⟩ (KM R)
 refine JT fun h => Jx R (Ja [2] R (Jc 1 R ?_))
 cases h
 exact Jw1 _ ⟨κ, R, (Jx2 _ _).wk R⟩ (KM R)
 rintro _ w2 ⟨K3, rfl, S4⟩
 have h := hK1
 refine Jp (Jq (Je [2] R (Jb 1 R (Ob h fun q2 h hK6 => Jx1 (fun L w' => ∃ κ', L = [(0, vi p0), (1, vi p1), (3, .bool q2.1), (9, vi q1), (10, vi q2.2)] ∧ Stp [] K3 w2 κ' w') ?_ ?_))))
 revert h
 cases ht10 : p3
 refine JF fun h => Jy R (Js ?_)
 cases h
 exact Jw1 _ ⟨K3, R, (Jx2 _ _).wk R⟩ (KM R)
 refine JT fun h => Jx R (Ja [2] R (Jc 1 R ?_))
 cases h
 exact Jw1 _ ⟨K3, R, (Jx2 _ _).wk R⟩ (KM R)
 rintro _ w7 ⟨K8, rfl, S9⟩
 have h := hK6
 refine Jp (Jq (Je [2] R (Jb 1 R (Jv (Je [2, 2] R (Jb 2 R ?_))))))
 revert h
 cases ht11 : (p0 == 1)
 refine JF fun h => Jy R (Je [2, 2] R (Jb 2 R ?_))
 revert h
 cases ht13 : (p0 == 2)
 refine JF fun h => Jy R (Je [2, 2] R (Jb 2 R ?_))
 revert h
 cases ht27 : (p0 == 3)
 refine JF fun h => Jy R (Je [2, 2] R (Jb 2 R ?_))
 revert h
 cases ht31 : (p0 == 4)
 refine JF fun h => Jy R (Je [2, 2] R (Jb 2 R ?_))
 revert h
 cases ht33 : (p0 == 5)
 refine JF fun h => Jy R (Je [2, 2] R (Jb 2 R ?_))
 revert h
 cases ht35 : (p0 == 6)
 refine JF fun h => Jy R (Js (Jz (Jp (Je [2, 2, 2, 2, 2] R (Jb 5 R (Ju (Ja2 (l := [.tmp 8]) V151 (Jp2 R R) R ?_)))))))
 cases h
 exact ⟨K8, R, (hE.stp (S4.tr S9) R R)⟩
 refine JT fun h => Jx R (Je [2, 2, 2, 2] R (Jn 2 R (Jf R (rn_max R R R) (Jb 1 R (Ju (Ja1 (Jw (Ja2 (l := [.tmp 8]) V151 (Jp2 R R) R ?_))))))))
 cases h
 exact ⟨K8, R, (hE.stp (S4.tr S9) R R)⟩
 refine JT fun h => Jx R (Je [2, 2, 2] R (Jb 3 R (Ju (Ja1 (Jw (Ja2 (l := [.tmp 8]) V151 (Jp2 R R) R ?_))))))
 cases h
 exact ⟨K8, R, (hE.stp (S4.tr S9) R R)⟩
 refine JT fun h => Jx R (Je [2, 2] R (Jb 2 R (Ju (Ja1 (Jw (Ja2 (l := [.tmp 8]) V151 (Jp2 R R) R ?_))))))
 cases h
 exact ⟨K8, R, (hE.stp (S4.tr S9) R R)⟩
 refine JT fun h => Jx R (Jq (Je [2] R (Jb 1 R ?_)))
 revert h
 cases ht28 : q2.1
 refine JF fun h => Jy R (Js (Jp (Je [2, 2, 2, 2] R (Jn 2 R (Jf R (rn_max R R R) (Jb 1 R (Ju (Ja1 (Jw (Ja2 (l := [.tmp 8]) V151 (Jp2 R R) R ?_))))))))))
 cases h
 exact ⟨K8, R, (hE.stp (S4.tr S9) R R)⟩
 refine JT fun h => Jx R (Je [2] R (Jb 1 R (Ju (Jw (Ja1 (Jw (Ja2 (l := [.tmp 8]) V151 (Jp2 R R) R ?_)))))))
 cases h
 exact ⟨K8, R, (hE.stp (S4.tr S9) R R)⟩
 refine JT fun h => Jx R (Jq (Je [2, 2, 2, 2, 2, 2, 2, 2, 2, 2] R (Jn 3 R (Ob h fun p31 h hK14 => Ju1 [(3, 2), (4, 2), (5, 2), (6, 2), (7, 2), (8, 2), (9, 2)] [] (fun L w' => L = [(9, vi q1), (31, .bool p31)] ∧ ∃ κ', Stp [] K8 w7 κ' w') tv ?_ ?_))))
 revert h
 cases ht15 : (p1 == 2)
 refine JF fun h => Jn 3 R (Ob h fun p30 h hK16 => Ju1 [(6, 2), (7, 2), (8, 2)] [(9, 2)] (fun L w' => L = [(9, vi q1), (24, .bool false), (30, .bool p30)] ∧ ∃ κ', Stp [] K8 w7 κ' w') tv ?_ ?_)
 revert h
 cases ht17 : (p1 == 1)
 refine JF fun h => Jn 3 R ?_
 cases h
 exact Jv1 _ tv ⟨R, _, (Jx2 _ _).wk R⟩ (KM R)
 refine JT fun h => Jn 3 R ?_
 cases h
 exact Jv1 _ tv ⟨R, _, (Jx2 _ _).wk R⟩ (KM R)
 rintro _ w18 _ ⟨rfl, K19, S20⟩
 have h := hK16
 refine Jn 1 R ?_
 cases h
 exact Jv1 _ tv ⟨R, _, S20.wk R⟩ (KM R)
 refine JT fun h => Jn 7 R ?_
 cases h
 exact Jv1 _ tv ⟨R, _, (Jx2 _ _).wk R⟩ (KM R)
 rintro _ w21 _ ⟨rfl, K22, S23⟩
 have h := hK14
 refine Jd ?_
 revert h
 cases ht24 : p31
 refine JF fun h => Jy R (Js (Jp (Je [2, 2] R (Jb 2 R (Ju (Ja1 (Jw (Ja2 (l := [.tmp 8]) V151 (Jp2 R R) R ?_))))))))
 cases h
 exact ⟨K22, R, (hE.stp (S4.tr (S9.tr S23)) R R)⟩
 refine JT fun h => Jx R (Je [2] R (Jb 1 R (Ju (Jw (Ja1 (Jw (Ja2 (l := [.tmp 8]) V151 (Jp2 R R) R ?_)))))))
 cases h
 exact ⟨K22, R, (hE.stp (S4.tr (S9.tr S23)) R R)⟩
 refine JT fun h => Jx R (Je [2, 2, 2, 2, 2] R (Jn 3 R (Jf R (rn_max R R R) (Jb 1 R (Ju (Ja1 (Jw (Ja2 (l := [.tmp 8]) V151 (Jp2 R R) R ?_))))))))
 cases h
 exact ⟨K8, R, (hE.stp (S4.tr S9) R R)⟩
theorem i_loopsIn_3_ok {w : World} {κ : Col} {p0 : Int} {a1 u1} {c0 : (List Int)} {b1} (g1 : Oc E6 2 κ w 2 a1 u1 c0) (gb1 : Bc κ w 3 b1 40 [.slice a1 c0.length u1]) {r : (List Int)} (h : i_loopsIn_3 p0 c0 = some r) : Ret Tryz.prog 154 [vi p0, .pointer (some ⟨b1, 0, none⟩)] w (fun v w' => ∃ (κ' : Col) (ma0 : Option Addr) (mu0 : Nat), v = .tuple #[] ∧ Ent κ w κ' w' ∧ Oc E6 2 κ' w' 2 ma0 mu0 r ∧ Bc κ' w' 3 b1 40 [.slice ma0 r.length mu0]) := by
 unfold i_loopsIn_3 at h
 refine Ret.enter F154 R N154 R ?_
 dsimp only [envOf]
 have hE := Ent.refl κ w
 refine Ja [1, 2, 1, 1, 1] R (Jl tv R R R R (Jc2 I40 R R (hvE (gb1.ld 0 R R))) (Jn 1 R (Jn1 (κ := κ) (E := E6) 4 [] (parts := [(0, .tmp 4)]) (cells := [vi p0]) (xs := ([p0] : List Int)) R R R R R R Y40 Tryzinfo2 R R R R R R R R R R ⟨[vi p0], [], Zl κ w [], Zl κ w [], R, Zl.sp (l1 := []) (l2 := []) R, Zl.sr (l1 := []) (l2 := []), R, R⟩ fun a5 u5 w1 K2 S3 f4 => ⟨tv, Ob h fun x6 hx6 h => Jm1 (κ := K2) (E := E6) 2 [] R R R R R R R R R Y40 Tryzinfo2 R R R R (g1.stp S3 R R) (Sl.srcP (pu_int _) f4.rdc) sy_false hx6 R fun a6 u6 w6 K7 S8 f9 => ⟨tv, Jj1 (κ := K7) 3 (vc := [.slice a6 x6.length u6]) R R R R R R R Z40 R R (gb1.stp (S3.tr S8) R R) R fun w11 S12 f13 => ⟨tv, Jo (DN.end0 V154 ?_)⟩⟩⟩)))
 cases h
 exact ⟨K7, a6, u6, R, (hE.stp (S3.tr (S8.tr S12)) R R), (f9.stp S12 R R), f13⟩
theorem slices_Sort_I_int64_ok {w : World} {κ : Col} {a0 u0} {p0 : (List Int)} (g0 : Oc E6 2 κ w 2 a0 u0 p0) {r : (List Int)} (h : slices_Sort_I_int64 p0 = some r) : Ret Tryz.prog 138 [.slice a0 p0.length u0] w (fun v w' => ∃ (κ' : Col), v = .tuple #[] ∧ Ent κ w κ' w' ∧ Oc E6 2 κ' w' 2 a0 u0 r ∧ p0.length = r.length) := by
  unfold slices_Sort_I_int64 at h
  split at h
  · rename_i hh
    cases h
    exact sort_ok (fun blk off cap zs w hH hb hz => Tryz.slices_Sort_int blk off cap zs w hH hb hz) g0 hh.1 hh.2
  · split at h
    · rename_i hh
      cases h
      exact sort_nil Tryz.slices_Sort_int_none g0 hh
    · cases h
theorem s_l1In_ok {w : World} {κ : Col} {p0 : Int} {p1 : Int} {p2 : Int}  {r : Bool} (h : s_l1In p0 p1 p2 = some r) : Ret Tryz.prog 77 [vi p0, vi p1, vi p2] w (fun v w' => ∃ (κ' : Col), v = .bool r ∧ Ent κ w κ' w') := by
 unfold s_l1In at h
 refine Ret.enter F77 R N77 R ?_
 dsimp only [envOf]
 have hE := Ent.refl κ w
 refine Je [2] R (Jb 1 R (Je [2, 2, 2, 2, 2, 2, 2, 2, 2] R (Jn 4 R (Ob h fun p14 h hK1 => Ju1 [(4, 2), (5, 2), (6, 2), (7, 2)] [(8, 2)] (fun L w' => L = [(6, .bool false), (14, .bool p14)] ∧ ∃ κ', Stp [] κ w κ' w') tv ?_ ?_))))
 revert h
 cases ht2 : decide (p1 ≤ p0)
 refine JF fun h => Jn 4 R ?_
 cases h
 exact Jv1 _ tv ⟨R, _, (Jx2 _ _).wk R⟩ (KM R)
 refine JT fun h => Jn 4 R ?_
 cases h
 exact Jv1 _ tv ⟨R, _, (Jx2 _ _).wk R⟩ (KM R)
 rintro _ w3 _ ⟨rfl, K4, S5⟩
 have h := hK1
 refine Jb 1 R (Ju (Ja2 (l := [.tmp 6]) V77 (Jp2 R R) R ?_))
 cases h
 exact ⟨K4, R, (hE.stp S5 R R)⟩
theorem s_l23Power_ok {w : World} {κ : Col} {p0 : Int}  {r : Int} (h : s_l23Power p0 = some r) : Ret Tryz.prog 93 [vi p0] w (fun v w' => ∃ (κ' : Col), v = vi r ∧ Ent κ w κ' w') := by
 unfold s_l23Power at h
 refine Ret.enter F93 R N93 R ?_
 dsimp only [envOf]
 have hE := Ent.refl κ w
 refine Je [2] R (Jb 1 R (Je [2] R (Jb 1 R (Jq (Ob h fun q2 hq3 hK2 => ?_)))))
 clear h
 refine Jx1 (fun L w' => ∃ κ', ∃ s3 : Int × Int, L = [(3, vi s3.2)] ∧ Stp [] κ w κ' w' ∧ q2 = Sum.inr s3) ?_ ?_
 refine Jv (Jy1 (fun k L w' => ∃ κ', ∃ s1 : Int × Int, L = [(0, vi s1.1), (3, vi s1.2)] ∧ Stp [] κ w κ' w' ∧ whileM s_l23Power_b0 k s1 = some q2) ⟨_, _, ⟨κ, ((p0 : Int), (1 : Int)), R, (Jx2 _ _).wk R, hq3⟩, (KM R)⟩ ?_)
 rintro k _ w7 ⟨K8, s1, rfl, S9, h⟩
 rcases k with _ | k
 cases h
 obtain ⟨o1, h, hk10⟩ := BI h; unfold s_l23Power_b0 at h
 refine Jq (Je [2, 2] R (Jb 2 R ?_))
 revert h
 cases ht11 : decide (0 < s1.1)
 refine JF fun h => Jy R (Jc1 (Jt (Jt ?_)))
 cases h
 have h := hk10
 refine Jb1 ?_
 cases h
 exact Jw1 _ ⟨K8, ((s1.1 : Int), (s1.2 : Int)), R, S9.wk R, R⟩ (KM R)
 refine JT fun h => Jx R (Js (Jp (Jq (Jv (Ja [2, 2, 2] R (Jc 3 R (Jz (Jp (Ja [2, 2, 2] R (Jc 3 R ?_))))))))))
 cases h
 exact Jz1 fun a ha => ⟨k, _, Ja3 _, ⟨K8, (((IntKind.i64.wrap (s1.1 - 1)) : Int), ((IntKind.i64.wrap (s1.2 * 2)) : Int)), R, S9.wk R, hk10⟩, (ha.mm R)⟩
 rintro _ w4 ⟨K5, s3, rfl, S6, rfl⟩
 have h := hK2
 dsimp only [aft] at h
 refine Jp (Je [2, 2] R (Jb 2 R (Ju (Ja2 (l := [.tmp 2]) V93 (Jp2 R R) R ?_))))
 cases h
 exact ⟨K5, R, (hE.stp S6 R R)⟩
theorem s_l24Both_ok {w : World} {κ : Col} {p0 : Int}  {r : Bool} (h : s_l24Both p0 = some r) : Ret Tryz.prog 133 [vi p0] w (fun v w' => ∃ (κ' : Col), v = .bool r ∧ Ent κ w κ' w') := by
 unfold s_l24Both at h
 refine Ret.enter F133 R N133 R ?_
 dsimp only [envOf]
 have hE := Ent.refl κ w
 refine Je [2] R (Jb 1 R (Je [2, 2, 2, 2, 2, 2, 2, 2, 2, 2, 2] R (Jn 3 R (Ob h fun p8 h hK1 => Ju1 [(3, 2), (4, 2), (5, 2)] [(6, 2), (7, 2), (8, 2), (9, 2), (10, 2)] (fun L w' => L = [(0, vi p0), (2, .bool false), (8, .bool p8)] ∧ ∃ κ', Stp [] κ w κ' w') tv ?_ ?_))))
 revert h
 cases ht2 : (p0 == 2)
 refine JF fun h => Jn 3 R ?_
 cases h
 exact Jv1 _ tv ⟨R, _, (Jx2 _ _).wk R⟩ (KM R)
 refine JT fun h => Jn 3 R ?_
 cases h
 exact Jv1 _ tv ⟨R, _, (Jx2 _ _).wk R⟩ (KM R)
 rintro _ w3 _ ⟨rfl, K4, S5⟩
 have h := hK1
 refine Jn 1 R (Ob h fun p12 h hK6 => Ju1 [(7, 2), (8, 2), (9, 2)] [(10, 2)] (fun L w' => L = [(2, .bool false), (12, .bool p12)] ∧ ∃ κ', Stp [] K4 w3 κ' w') tv ?_ ?_)
 revert h
 cases ht7 : p8
 refine JF fun h => Jn 3 R ?_
 cases h
 exact Jv1 _ tv ⟨R, _, (Jx2 _ _).wk R⟩ (KM R)
 refine JT fun h => Jn 3 R ?_
 cases h
 exact Jv1 _ tv ⟨R, _, (Jx2 _ _).wk R⟩ (KM R)
 rintro _ w8 _ ⟨rfl, K9, S10⟩
 have h := hK6
 refine Jb 1 R (Ju (Ja2 (l := [.tmp 2]) V133 (Jp2 R R) R ?_))
 cases h
 exact ⟨K9, R, (hE.stp (S5.tr S10) R R)⟩
theorem s_l25Pair_ok {w : World} {κ : Col} {p0 : Int}  {r : Pair} (h : s_l25Pair p0 = some r) : Ret Tryz.prog 140 [vi p0] w (fun v w' => ∃ (κ' : Col) (ra0 : Option Addr) (ru0 : Nat) (ra1 : Option Addr) (ru1 : Nat), v = .agg #[.slice ra0 r.Ask.length ru0, .slice ra1 r.Give.length ru1] ∧ Ent κ w κ' w' ∧ Oc E6 2 κ' w' 2 ra0 ru0 r.Ask ∧ Oc E6 2 κ' w' 3 ra1 ru1 r.Give) := by
 unfold s_l25Pair at h
 refine Ret.enter F140 R N140 R ?_
 dsimp only [envOf]
 have hE := Ent.refl κ w
 refine Je [1] R (Jg1 (κ := κ) 2 R R R R R X92 R fun b2 w1 K2 S3 f4 => ⟨tv, Jd (Jq (Je [2] R (Jb 1 R (Jv (Jq (Je [2, 2] R (Jb 2 R (Ob h fun q1 h hK5 => Jx1 (fun L w' => ∃ κ', L = [(2, .pointer (some ⟨b2, 0, none⟩)), (3, vi p0), (4, .bool q1)] ∧ Stp [] K2 w1 κ' w') ?_ ?_))))))))⟩)
 revert h
 cases ht9 : (p0 == 1)
 refine JF fun h => Jy R (Ja [2, 2] R (Jc 2 R ?_))
 cases h
 exact Jw1 _ ⟨K2, R, (Jx2 _ _).wk R⟩ (KM R)
 refine JT fun h => Jx R (Js ?_)
 cases h
 exact Jw1 _ ⟨K2, R, (Jx2 _ _).wk R⟩ (KM R)
 rintro _ w6 ⟨K7, rfl, S8⟩
 have h := hK5
 refine Jp ?_
 revert h
 cases ht10 : q1
 refine JF fun h => Jy R (Je [2, 2] R (Jb 2 R ?_))
 revert h
 cases ht21 : (p0 == 2)
 refine JF fun h => Jy R (Je [2, 2] R (Jb 2 R ?_))
 revert h
 cases ht32 : (p0 == 3)
 refine JF fun h => Jy R (Je [2, 2] R (Jb 2 R ?_))
 revert h
 cases ht48 : (p0 == 4)
 refine JF fun h => Jy R (Je [2, 2] R (Jb 2 R ?_))
 revert h
 cases ht64 : (p0 == 6)
 refine JF fun h => Jy R (Js (Jz (Jp (Je [1, 1, 2, 1] R (Jn1 (κ := K7) (E := E6) 3 [] (parts := [(0, .const (vi 2)), (1, .const (vi 3))]) (cells := [vi 2, vi 3]) (xs := ([2, 3] : List Int)) R R R R R R Y40 Tryzinfo2 R R R R R R R R R R ⟨[vi 2], [vi 3], Zl K7 w6 [], Zl K7 w6 [], R, Zl.sp (l1 := []) (l2 := []) R, Zl.sr (l1 := []) (l2 := []), R, ⟨[vi 3], [], Zl K7 w6 [], Zl K7 w6 [], R, Zl.sp (l1 := []) (l2 := []) R, Zl.sr (l1 := []) (l2 := []), R, R⟩⟩ fun ap ak w75 K76 S77 f78 => ⟨tv, Jn1 (κ := K76) (E := E6) 4 [] (parts := [(0, .const (vi 1)), (1, .const (vi 3))]) (cells := [vi 1, vi 3]) (xs := ([1, 3] : List Int)) R R R R R R Y40 Tryzinfo2 R R R R R R R R R R ⟨[vi 1], [vi 3], Zl K76 w75 [], Zl K76 w75 [], R, Zl.sp (l1 := []) (l2 := []) R, Zl.sr (l1 := []) (l2 := []), R, ⟨[vi 3], [], Zl K76 w75 [], Zl K76 w75 [], R, Zl.sp (l1 := []) (l2 := []) R, Zl.sr (l1 := []) (l2 := []), R, R⟩⟩ fun aj aq w79 K80 S81 f82 => ⟨tv, Jf R (rn_build (parts := [(0, .tmp 27), (1, .tmp 28)]) (cells := [.slice ap ([2, 3] : List Int).length ak, .slice aj ([1, 3] : List Int).length aq]) R R (by kernel_rfl)) (Jj1 (κ := K80) 2 (vc := [.slice ap ([2, 3] : List Int).length ak, .slice aj ([1, 3] : List Int).length aq]) R R R R R R R Z92 R R (f4.stp (S8.tr (S77.tr S81)) R R) R fun w84 S85 f86 => ⟨tv, Jd (Ju (Ja2 (l := [.cell 2 92]) V140 (res_cellA R f86 I92 Z92 R R) R ?_))⟩)⟩⟩)))))
 cases h
 exact ⟨(fun b => ren [(3, 2), (4, 3)] (K80 b)), ap, ak, aj, aq, R, ((hE.stp (S3.tr (S8.tr (S77.tr (S81.tr S85)))) R R).map (ren [(3, 2), (4, 3)]) R R), ((f78.stp (S81.tr S85) R R).map (ren [(3, 2), (4, 3)]) R R), ((f82.stp S85 R R).map (ren [(3, 2), (4, 3)]) R R)⟩
 refine JT fun h => Jx R (Je [1, 2, 1] R (Jn1 (κ := K7) (E := E6) 3 [] (parts := [(0, .const (vi 0))]) (cells := [vi 0]) (xs := ([0] : List Int)) R R R R R R Y40 Tryzinfo2 R R R R R R R R R R ⟨[vi 0], [], Zl K7 w6 [], Zl K7 w6 [], R, Zl.sp (l1 := []) (l2 := []) R, Zl.sr (l1 := []) (l2 := []), R, R⟩ fun ao ad w65 K66 S67 f68 => ⟨tv, Jf R (rn_build (parts := [(0, .tmp 25)]) (cells := [.slice ao ([0] : List Int).length ad, .slice none 0 0]) R R (by kernel_rfl)) (Jj1 (κ := K66) 2 (vc := [.slice ao ([0] : List Int).length ad, .slice none 0 0]) R R R R R R R Z92 R R (f4.stp (S8.tr S67) R R) R fun w70 S71 f72 => ⟨tv, Jd (Ju (Ja1 (Jw (Ja2 (l := [.cell 2 92]) V140 (res_cellA R f72 I92 Z92 R R) R ?_))))⟩)⟩))
 cases h
 exact ⟨(fun b => ren [(3, 2)] (K66 b)), ao, ad, none, 0, R, ((hE.stp (S3.tr (S8.tr (S67.tr S71))) R R).map (ren [(3, 2)]) R R), ((f68.stp S71 R R).map (ren [(3, 2)]) R R), Ow.nil⟩
 refine JT fun h => Jx R (Je [1, 1, 2, 1] R (Jn1 (κ := K7) (E := E6) 3 [] (parts := [(0, .const (vi 0)), (1, .const (vi 1))]) (cells := [vi 0, vi 1]) (xs := ([0, 1] : List Int)) R R R R R R Y40 Tryzinfo2 R R R R R R R R R R ⟨[vi 0], [vi 1], Zl K7 w6 [], Zl K7 w6 [], R, Zl.sp (l1 := []) (l2 := []) R, Zl.sr (l1 := []) (l2 := []), R, ⟨[vi 1], [], Zl K7 w6 [], Zl K7 w6 [], R, Zl.sp (l1 := []) (l2 := []) R, Zl.sr (l1 := []) (l2 := []), R, R⟩⟩ fun an aa w49 K50 S51 f52 => ⟨tv, Jn1 (κ := K50) (E := E6) 4 [] (parts := [(0, .const (vi 1))]) (cells := [vi 1]) (xs := ([1] : List Int)) R R R R R R Y40 Tryzinfo2 R R R R R R R R R R ⟨[vi 1], [], Zl K50 w49 [], Zl K50 w49 [], R, Zl.sp (l1 := []) (l2 := []) R, Zl.sr (l1 := []) (l2 := []), R, R⟩ fun ai ae w53 K54 S55 f56 => ⟨tv, Jf R (rn_build (parts := [(0, .tmp 20), (1, .tmp 21)]) (cells := [.slice an ([0, 1] : List Int).length aa, .slice ai ([1] : List Int).length ae]) R R (by kernel_rfl)) (Jj1 (κ := K54) 2 (vc := [.slice an ([0, 1] : List Int).length aa, .slice ai ([1] : List Int).length ae]) R R R R R R R Z92 R R (f4.stp (S8.tr (S51.tr S55)) R R) R fun w58 S59 f60 => ⟨tv, Jd (Ju (Ja1 (Jw (Ja2 (l := [.cell 2 92]) V140 (res_cellA R f60 I92 Z92 R R) R ?_))))⟩)⟩⟩))
 cases h
 exact ⟨(fun b => ren [(3, 2), (4, 3)] (K54 b)), an, aa, ai, ae, R, ((hE.stp (S3.tr (S8.tr (S51.tr (S55.tr S59)))) R R).map (ren [(3, 2), (4, 3)]) R R), ((f52.stp (S55.tr S59) R R).map (ren [(3, 2), (4, 3)]) R R), ((f56.stp S59 R R).map (ren [(3, 2), (4, 3)]) R R)⟩
 refine JT fun h => Jx R (Je [1, 1, 2, 1] R (Jn1 (κ := K7) (E := E6) 3 [] (parts := [(0, .const (vi 1))]) (cells := [vi 1]) (xs := ([1] : List Int)) R R R R R R Y40 Tryzinfo2 R R R R R R R R R R ⟨[vi 1], [], Zl K7 w6 [], Zl K7 w6 [], R, Zl.sp (l1 := []) (l2 := []) R, Zl.sr (l1 := []) (l2 := []), R, R⟩ fun af ac w33 K34 S35 f36 => ⟨tv, Jn1 (κ := K34) (E := E6) 4 [] (parts := [(0, .const (vi 0))]) (cells := [vi 0]) (xs := ([0] : List Int)) R R R R R R Y40 Tryzinfo2 R R R R R R R R R R ⟨[vi 0], [], Zl K34 w33 [], Zl K34 w33 [], R, Zl.sp (l1 := []) (l2 := []) R, Zl.sr (l1 := []) (l2 := []), R, R⟩ fun al ah w37 K38 S39 f40 => ⟨tv, Jf R (rn_build (parts := [(0, .tmp 15), (1, .tmp 16)]) (cells := [.slice af ([1] : List Int).length ac, .slice al ([0] : List Int).length ah]) R R (by kernel_rfl)) (Jj1 (κ := K38) 2 (vc := [.slice af ([1] : List Int).length ac, .slice al ([0] : List Int).length ah]) R R R R R R R Z92 R R (f4.stp (S8.tr (S35.tr S39)) R R) R fun w42 S43 f44 => ⟨tv, Jd (Ju (Ja1 (Jw (Ja2 (l := [.cell 2 92]) V140 (res_cellA R f44 I92 Z92 R R) R ?_))))⟩)⟩⟩))
 cases h
 exact ⟨(fun b => ren [(3, 2), (4, 3)] (K38 b)), af, ac, al, ah, R, ((hE.stp (S3.tr (S8.tr (S35.tr (S39.tr S43)))) R R).map (ren [(3, 2), (4, 3)]) R R), ((f36.stp (S39.tr S43) R R).map (ren [(3, 2), (4, 3)]) R R), ((f40.stp S43 R R).map (ren [(3, 2), (4, 3)]) R R)⟩
 refine JT fun h => Jx R (Je [1, 2, 1] R (Jn1 (κ := K7) (E := E6) 3 [] (parts := [(0, .const (vi 2))]) (cells := [vi 2]) (xs := ([2] : List Int)) R R R R R R Y40 Tryzinfo2 R R R R R R R R R R ⟨[vi 2], [], Zl K7 w6 [], Zl K7 w6 [], R, Zl.sp (l1 := []) (l2 := []) R, Zl.sr (l1 := []) (l2 := []), R, R⟩ fun am ab w22 K23 S24 f25 => ⟨tv, Jf R (rn_build (parts := [(0, .tmp 11)]) (cells := [.slice am ([2] : List Int).length ab, .slice none 0 0]) R R (by kernel_rfl)) (Jj1 (κ := K23) 2 (vc := [.slice am ([2] : List Int).length ab, .slice none 0 0]) R R R R R R R Z92 R R (f4.stp (S8.tr S24) R R) R fun w27 S28 f29 => ⟨tv, Jd (Ju (Ja1 (Jw (Ja2 (l := [.cell 2 92]) V140 (res_cellA R f29 I92 Z92 R R) R ?_))))⟩)⟩))
 cases h
 exact ⟨(fun b => ren [(3, 2)] (K23 b)), am, ab, none, 0, R, ((hE.stp (S3.tr (S8.tr (S24.tr S28))) R R).map (ren [(3, 2)]) R R), ((f25.stp S28 R R).map (ren [(3, 2)]) R R), Ow.nil⟩
 refine JT fun h => Jx R (Je [1, 2, 1] R (Jn1 (κ := K7) (E := E6) 3 [] (parts := [(0, .const (vi 1))]) (cells := [vi 1]) (xs := ([1] : List Int)) R R R R R R Y40 Tryzinfo2 R R R R R R R R R R ⟨[vi 1], [], Zl K7 w6 [], Zl K7 w6 [], R, Zl.sp (l1 := []) (l2 := []) R, Zl.sr (l1 := []) (l2 := []), R, R⟩ fun a7 u7 w11 K12 S13 f14 => ⟨tv, Jf R (rn_build (parts := [(0, .tmp 7)]) (cells := [.slice a7 ([1] : List Int).length u7, .slice none 0 0]) R R (by kernel_rfl)) (Jj1 (κ := K12) 2 (vc := [.slice a7 ([1] : List Int).length u7, .slice none 0 0]) R R R R R R R Z92 R R (f4.stp (S8.tr S13) R R) R fun w16 S17 f18 => ⟨tv, Jd (Ju (Ja1 (Jw (Ja2 (l := [.cell 2 92]) V140 (res_cellA R f18 I92 Z92 R R) R ?_))))⟩)⟩))
 cases h
 exact ⟨(fun b => ren [(3, 2)] (K12 b)), a7, u7, none, 0, R, ((hE.stp (S3.tr (S8.tr (S13.tr S17))) R R).map (ren [(3, 2)]) R R), ((f14.stp S17 R R).map (ren [(3, 2)]) R R), Ow.nil⟩
theorem s_l1Has_ok {w : World} {κ : Col} {a0 u0} {p0 : (List Int)} {p1 : Int} (g0 : Rd (Rp.int .i64) κ w 0 a0 u0 p0) {r : Bool} (h : s_l1Has p0 p1 = some r) : Ret Tryz.prog 117 [.slice a0 p0.length u0, vi p1] w (fun v w' => ∃ (κ' : Col), v = .bool r ∧ Ent κ w κ' w') := by
 unfold s_l1Has at h
 refine Ret.enter F117 R N117 R ?_
 dsimp only [envOf]
 have hE := Ent.refl κ w
 refine Je [2] R (Jb 1 R (Jq (Je [2] R (Jb 1 R ?_))))
 have hN1 : (p0.length : Int) ≤ 9223372036854775807 := g0.len_le
 refine Ob h fun q2 hq3 hK2 => ?_
 clear h
 refine Jx1 (fun L w' => ∃ κ', L = [] ∧ Stp [] κ w κ' w' ∧ q2 = Sum.inr ()) ?_ ?_
 refine Jv (Jy1 (fun k L w' => ∃ κ' v5, L = [(0, .slice a0 p0.length u0), (1, vi p1), (5, vi v5)] ∧ Stp [] κ w κ' w' ∧ 0 ≤ v5 ∧ Int.toNat ((p0.length : Int) - v5) = k ∧ cntM (s_l1Has_b0 p0 p1) k v5 () = some q2) ⟨_, _, ⟨κ, 0, R, (Jx2 _ _).wk R, (by decide), (by simp), hq3⟩, (KM R)⟩ ?_)
 rintro k _ w7 ⟨K8, v5, rfl, S9, hj1, hJ1, h⟩
 rcases k with _ | k
 have hk10 := h; obtain ⟨o1, h⟩ := ex_eq (Sum.inr (Sum.inl ()) : Bool ⊕ ((Unit) ⊕ (Unit)))
 have hc1 : decide (v5 < (p0.length : Int)) = false := Jo2 (by omega)
 refine Jq (Je [2, 2, 2, 2] R (Jn 2 R (Jf R (Je2 U40 R R) (Jb 1 R (Jw2 R hc1 (Jc1 (Jt (Jt ?_))))))))
 cases h
 have h := hk10
 refine Jb1 ?_
 cases h
 exact Jw1 _ ⟨K8, R, S9.wk R, R⟩ KN
 obtain ⟨o1, h, hk10⟩ := BI h; unfold s_l1Has_b0 at h
 have hc1 : decide (v5 < (p0.length : Int)) = true := Jn2 (by omega)
 refine Jq (Je [2, 2, 2, 2] R (Jn 2 R (Jf R (Je2 U40 R R) (Jb 1 R (Jv2 R hc1 (Js (Jp (Jq (Jv (Je [2, 2, 2, 1, 2, 2] R (Jn 2 R (Ob h fun x14 hx14 h => Jf R (Jf2 g0 hx14 U40 Z2 R R R R) (Jl tv R R R R (Jc2 I2 R R (hvE ((g0.stp S9 R R).gInt hx14))) (Jb 2 R ?_))))))))))))))
 revert h
 cases ht12 : (x14 == p1)
 refine JF fun h => Jy R (Js (Jz (Jp (Ja [2, 2, 2] R (Jc 3 R ?_)))))
 have hw1 : IntKind.wrap .i64 (v5 + 1) = v5 + 1 := wr1 hj1 (Jm2 hc1) hN1
 rw [hw1]
 have hc1 := Jm2 hc1
 cases h
 exact Jz1 fun a ha => ⟨k, _, Ja3 _, ⟨K8, v5 + 1, R, S9.wk R, by omega, by omega, hk10⟩, (ha.mm R)⟩
 refine JT fun h => Jx R (Je [2] R (Jb 1 R (Ju (Ja1 (Jw (Jw ?_))))))
 cases h
 obtain rfl := Option.some.inj hk10
 have h := hK2
 dsimp only [aft] at h
 refine Ja1 (Jq2 (Jw (Ja2 (l := [.tmp 4]) V117 (Jp2 R R) R ?_)))
 cases h
 exact ⟨K8, R, (hE.stp S9 R R)⟩
 rintro _ w4 ⟨K5, rfl, S6, rfl⟩
 have h := hK2
 dsimp only [aft] at h
 refine Jp (Je [2] R (Jb 1 R (Ju (Ja2 (l := [.tmp 4]) V117 (Jp2 R R) R ?_))))
 cases h
 exact ⟨K5, R, (hE.stp S6 R R)⟩
theorem s_l26Place_ok {w : World} {κ : Col} {a0 u0} {p0 : (List (List Int))} {p1 : Int} {p2 : Int} (g0 : Rd (Rp.sl (Rp.int .i64)) κ w 0 a0 u0 p0) {r : Int} (h : s_l26Place p0 p1 p2 = some r) : Ret Tryz.prog 63 [.slice a0 p0.length u0, vi p1, vi p2] w (fun v w' => ∃ (κ' : Col), v = vi r ∧ Ent κ w κ' w') := by
 unfold s_l26Place at h
 refine Ret.enter F63 R N63 R ?_
 dsimp only [envOf]
 have hE := Ent.refl κ w
 refine Je [2] R (Jb 1 R (Jq (Je [2] R (Jb 1 R ?_))))
 have hN1 : (p0.length : Int) ≤ 9223372036854775807 := g0.len_le
 refine Ob h fun q2 hq3 hK2 => ?_
 clear h
 refine Jx1 (fun L w' => ∃ κ', L = [] ∧ Stp [] κ w κ' w' ∧ q2 = Sum.inr ()) ?_ ?_
 refine Jv (Jy1 (fun k L w' => ∃ κ' v7, L = [(0, .slice a0 p0.length u0), (1, vi p1), (2, vi p2), (7, vi v7)] ∧ Stp [] κ w κ' w' ∧ 0 ≤ v7 ∧ Int.toNat ((p0.length : Int) - v7) = k ∧ cntM (s_l26Place_b0 p0 p1 p2) k v7 () = some q2) ⟨_, _, ⟨κ, 0, R, (Jx2 _ _).wk R, (by decide), (by simp), hq3⟩, (KM R)⟩ ?_)
 rintro k _ w7 ⟨K8, v7, rfl, S9, hj1, hJ1, h⟩
 rcases k with _ | k
 have hk10 := h; obtain ⟨o1, h⟩ := ex_eq (Sum.inr (Sum.inl ()) : Int ⊕ ((Unit) ⊕ (Unit)))
 have hc1 : decide (v7 < (p0.length : Int)) = false := Jo2 (by omega)
 refine Jq (Je [2, 2, 2, 2] R (Jn 2 R (Jf R (Je2 U24 R R) (Jb 1 R (Jw2 R hc1 (Jc1 (Jt (Jt ?_))))))))
 cases h
 have h := hk10
 refine Jb1 ?_
 cases h
 exact Jw1 _ ⟨K8, R, S9.wk R, R⟩ KN
 obtain ⟨o1, h, hk10⟩ := BI h; unfold s_l26Place_b0 at h
 have hc1 : decide (v7 < (p0.length : Int)) = true := Jn2 (by omega)
 refine Jq (Je [2, 2, 2, 2] R (Jn 2 R (Jf R (Je2 U24 R R) (Jb 1 R (Jv2 R hc1 (Js (Jp (Jq (Jv (Je [2, 2, 2, 1, 2, 1, 2, 2, 2, 2, 2, 2, 1, 2, 1, 2, 2, 2] R (Jn 2 R (Ob h fun x16 hx16 h => Jf R (Jf2 g0 hx16 U24 Z40 R R R R) ?_))))))))))))
 have f11 := g0.stp S9 R R
 obtain ⟨ax16, ux16, f12, hl13⟩ := f11.gSl hx16
 refine Jl tv R R R R (Jc2 I40 R R (hvE hl13)) (Ob h fun x18 hx18 h => Jf R (Jf2 f12 hx18 U40 Z2 R R R R) (Jl tv R R R R (Jc2 I2 R R (hvE (f12.gInt hx18))) (Jn 3 R (Ob h fun p31 h hK14 => Ju1 [(9, 2), (10, 2), (11, 2), (12, 1), (13, 2), (14, 1), (15, 2), (16, 2), (17, 2)] [] (fun L w' => L = [(0, .slice a0 p0.length u0), (1, vi p1), (2, vi p2), (7, vi v7), (31, .bool p31)] ∧ ∃ κ', Stp [] K8 w7 κ' w') tv ?_ ?_))))
 revert h
 cases ht15 : (x18 == p1)
 refine JF fun h => Jn 3 R (Jd1 R R R R (Jn 1 R (Jd1 R R R R (Jn 3 R ?_))))
 cases h
 exact Jv1 _ tv ⟨R, _, (Jx2 _ _).wk R⟩ (KM R)
 refine JT fun h => Jn 2 R (Ob h fun x25 hx25 h => Jf R (Jf2 f11 hx25 U24 Z40 R R R R) ?_)
 obtain ⟨ax25, ux25, f16, hl17⟩ := f11.gSl hx25
 refine Jl tv R R R R (Jc2 I40 R R (hvE hl17)) (Ob h fun x27 hx27 h => Jf R (Jf2 f16 hx27 U40 Z2 R R R R) (Jl tv R R R R (Jc2 I2 R R (hvE (f16.gInt hx27))) (Jn 3 R ?_)))
 cases h
 exact Jv1 _ tv ⟨R, _, (Jx2 _ _).wk R⟩ (KM R)
 rintro _ w18 _ ⟨rfl, K19, S20⟩
 have h := hK14
 refine Jd ?_
 revert h
 cases ht21 : p31
 refine JF fun h => Jy R (Js (Jz (Jp (Ja [2, 2, 2] R (Jc 3 R ?_)))))
 have hw1 : IntKind.wrap .i64 (v7 + 1) = v7 + 1 := wr1 hj1 (Jm2 hc1) hN1
 rw [hw1]
 have hc1 := Jm2 hc1
 cases h
 exact Jz1 fun a ha => ⟨k, _, Ja3 _, ⟨K19, v7 + 1, R, (S9.tr S20).wk R, by omega, by omega, hk10⟩, (ha.mm R)⟩
 refine JT fun h => Jx R (Je [2, 2] R (Jb 2 R (Ju (Ja1 (Jw (Jw ?_))))))
 cases h
 obtain rfl := Option.some.inj hk10
 have h := hK2
 dsimp only [aft] at h
 refine Ja1 (Jq2 (Jw (Ja2 (l := [.tmp 6]) V63 (Jp2 R R) R ?_)))
 cases h
 exact ⟨K19, R, (hE.stp (S9.tr S20) R R)⟩
 rintro _ w4 ⟨K5, rfl, S6, rfl⟩
 have h := hK2
 dsimp only [aft] at h
 refine Jp (Je [2] R (Jb 1 R (Ju (Ja2 (l := [.tmp 6]) V63 (Jp2 R R) R ?_))))
 cases h
 exact ⟨K5, R, (hE.stp S6 R R)⟩
theorem s_l30Far_ok {w : World} {κ : Col} {a0 u0} {p0 : (List (List Int))} {a1 u1} {p1 : (List Bool)} {p2 : Int} (g0 : Rd (Rp.sl (Rp.int .i64)) κ w 0 a0 u0 p0) (g1 : Rd Rp.bool κ w 0 a1 u1 p1) {r : (List Int)} (h : s_l30Far p0 p1 p2 = some r) : Ret Tryz.prog 103 [.slice a0 p0.length u0, .slice a1 p1.length u1, vi p2] w (fun v w' => ∃ (κ' : Col) (ra0 : Option Addr) (ru0 : Nat), v = .slice ra0 r.length ru0 ∧ Ent κ w κ' w' ∧ Oc E6 2 κ' w' 2 ra0 ru0 r) := by
 unfold s_l30Far at h
 refine Ret.enter F103 R N103 R ?_
 dsimp only [envOf]
 have hE := Ent.refl κ w
 refine Je [2] R (Jb 1 R (Je [1, 2] R (Jo1 (κ := κ) (E := E6) 2 R R R R R Y40 Tryzinfo2 R fun ae ah w1 K2 S3 f4 => ⟨tv, Jb 1 R (Jq (Je [2] R (Jb 1 R ?_)))⟩)))
 have hN5 : (p0.length : Int) ≤ 9223372036854775807 := g0.len_le
 refine Ob h fun q2 hq7 hK6 => ?_
 clear h
 refine Jx1 (fun L w' => ∃ κ', ∃ s3 : (List Int), ∃ ab aa, L = [(0, .slice a0 p0.length u0), (1, .slice a1 p1.length u1), (2, vi p2), (7, .slice ab s3.length aa)] ∧ Stp [2] K2 w1 κ' w' ∧ Oc E6 2 κ' w' 2 ab aa s3 ∧ q2 = Sum.inr s3) ?_ ?_
 refine Jv (Jy1 (fun k L w' => ∃ κ' v8, ∃ s1 : (List Int), ∃ ac ad, L = [(0, .slice a0 p0.length u0), (1, .slice a1 p1.length u1), (2, vi p2), (7, .slice ac s1.length ad), (8, vi v8)] ∧ Stp [2] K2 w1 κ' w' ∧ Oc E6 2 κ' w' 2 ac ad s1 ∧ 0 ≤ v8 ∧ Int.toNat ((p0.length : Int) - v8) = k ∧ cntM s_l30Far_b0 k v8 s1 = some q2) ⟨_, _, ⟨K2, 0, (([] : List Int) : (List Int)), ae, ah, R, (Jx2 _ _).wk R, f4, (by decide), (by simp), hq7⟩, (KM R)⟩ ?_)
 rintro k _ w12 ⟨K13, v8, s1, ac, ad, rfl, S14, f15, hj5, hJ5, h⟩
 rcases k with _ | k
 have hk16 := h; obtain ⟨o5, h⟩ := ex_eq (Sum.inr (Sum.inl s1) : (List Int) ⊕ (((List Int)) ⊕ ((List Int))))
 have hc5 : decide (v8 < (p0.length : Int)) = false := Jo2 (by omega)
 refine Jq (Je [2, 2, 2, 2] R (Jn 2 R (Jf R (Je2 U24 R R) (Jb 1 R (Jw2 R hc5 (Jc1 (Jt (Jt ?_))))))))
 cases h
 have h := hk16
 refine Jb1 ?_
 cases h
 exact Jw1 _ ⟨K13, (s1 : (List Int)), ac, ad, R, S14.wk R, f15, R⟩ (KM R)
 obtain ⟨o5, h, hk16⟩ := BI h; unfold s_l30Far_b0 at h
 have hc5 : decide (v8 < (p0.length : Int)) = true := Jn2 (by omega)
 refine Jq (Je [2, 2, 2, 2] R (Jn 2 R (Jf R (Je2 U24 R R) (Jb 1 R (Jv2 R hc5 (Js (Jp (Jq (Jv (Ja [2, 1, 1, 2] R (Jn 1 R (Jn1 (κ := K13) (E := E6) 3 [] (parts := [(0, .const (vi (-1)))]) (cells := [vi (-1)]) (xs := ([(-1)] : List Int)) R R R R R R Y40 Tryzinfo2 R R R R R R R R R R ⟨[vi (-1)], [], Zl K13 w12 [], Zl K13 w12 [], R, Zl.sp (l1 := []) (l2 := []) R, Zl.sr (l1 := []) (l2 := []), R, R⟩ fun ak aj w17 K18 S19 f20 => ⟨tv, Ob h fun x21 hx21 h => Jm1 (κ := K18) (E := E6) 2 [] R R R R R R R R R Y40 Tryzinfo2 R R R R (f15.stp S19 R R) (Sl.srcP (pu_int _) f20.rdc) sy_false hx21 R fun ai af w22 K23 S24 f25 => ⟨tv, Jc 1 R (Jz (Jp (Ja [2, 2, 2] R (Jc 3 R ?_))))⟩⟩))))))))))))
 have hw5 : IntKind.wrap .i64 (v8 + 1) = v8 + 1 := wr1 hj5 (Jm2 hc5) hN5
 rw [hw5]
 have hc5 := Jm2 hc5
 cases h
 exact Jz1 fun a ha => ⟨k, _, Ja3 _, ⟨K23, v8 + 1, (x21 : (List Int)), ai, af, R, (S14.tr (S19.tr S24)).wk R, f25, by omega, by omega, hk16⟩, (ha.mm R)⟩
 rintro _ w8 ⟨K9, s3, ab, aa, rfl, S10, f11, rfl⟩
 have h := hK6
 dsimp only [aft] at h
 refine Jp (Je [2, 2, 2, 1] R (Jn 2 R (Ob h fun x24 hx24 h => Jf R (Jf2 f11.rdc hx24 U40 Z2 R R R R) (Ob h fun y266 hy266 h => Jk1 (κ := K9) (E := E6) 2 [] R R R R R R R R Z2 R R R R f11 hy266 fun w26 K27 S28 f29 => ⟨tv, ?_⟩))))
 have hn30 : s3.length = y266.length := (Jt2 hy266).2.2.2.symm
 refine Jd (Jq (Je [2] R (Jb 1 R ?_)))
 have hN31 : (p0.length : Int) ≤ 9223372036854775807 := g0.len_le
 refine Ob h fun q5 hq33 hK32 => ?_
 clear h
 refine Jx1 (fun L w' => ∃ κ', ∃ s6 : (List Int), L = [(7, .slice ab s3.length aa)] ∧ Stp [2] K27 w26 κ' w' ∧ Oc E6 2 κ' w' 2 ab aa s6 ∧ s3.length = s6.length ∧ q5 = Sum.inr s6) ?_ ?_
 refine Jv (Jy1 (fun k L w' => ∃ κ' v9, ∃ s4 : (List Int), L = [(0, .slice a0 p0.length u0), (1, .slice a1 p1.length u1), (7, .slice ab s3.length aa), (9, vi v9)] ∧ Stp [2] K27 w26 κ' w' ∧ Oc E6 2 κ' w' 2 ab aa s4 ∧ s3.length = s4.length ∧ 0 ≤ v9 ∧ Int.toNat ((p0.length : Int) - v9) = k ∧ cntM (s_l30Far_b2 p0 p1) k v9 s4 = some q5) ⟨_, _, ⟨K27, 0, (y266 : (List Int)), R, (Jx2 _ _).wk R, f29, hn30, (by decide), (by simp), hq33⟩, (KM R)⟩ ?_)
 rintro k _ w39 ⟨K40, v9, s4, rfl, S41, f42, hn43, hj31, hJ31, h⟩
 rcases k with _ | k
 have hk44 := h; obtain ⟨o31, h⟩ := ex_eq (Sum.inr (Sum.inl s4) : (List Int) ⊕ (((List Int)) ⊕ ((List Int))))
 have hc31 : decide (v9 < (p0.length : Int)) = false := Jo2 (by omega)
 refine Jq (Je [2, 2, 2, 2] R (Jn 2 R (Jf R (Je2 U24 R R) (Jb 1 R (Jw2 R hc31 (Jc1 (Jt (Jt ?_))))))))
 cases h
 have h := hk44
 refine Jb1 ?_
 cases h
 exact Jw1 _ ⟨K40, (s4 : (List Int)), R, S41.wk R, f42, hn43, R⟩ (KM R)
 obtain ⟨o31, h, hk44⟩ := BI h; unfold s_l30Far_b2 at h
 have hc31 : decide (v9 < (p0.length : Int)) = true := Jn2 (by omega)
 refine Jq (Je [2, 2, 2, 2] R (Jn 2 R (Jf R (Je2 U24 R R) (Jb 1 R (Jv2 R hc31 (Js (Jp (Jq (Jv (Je [2] R (Jb 1 R ?_)))))))))))
 have hN45 : (p0.length : Int) ≤ 9223372036854775807 := g0.len_le
 refine Ob h fun q8 hq47 hK46 => ?_
 clear h
 refine Jx1 (fun L w' => ∃ κ', ∃ s9 : (List Int), L = [(0, .slice a0 p0.length u0), (1, .slice a1 p1.length u1), (7, .slice ab s3.length aa), (9, vi v9)] ∧ Stp [2] K40 w39 κ' w' ∧ Oc E6 2 κ' w' 2 ab aa s9 ∧ s3.length = s9.length ∧ q8 = Sum.inr s9) ?_ ?_
 refine Jv (Jy1 (fun k L w' => ∃ κ' v10, ∃ s7 : (List Int), L = [(0, .slice a0 p0.length u0), (1, .slice a1 p1.length u1), (7, .slice ab s3.length aa), (9, vi v9), (10, vi v10)] ∧ Stp [2] K40 w39 κ' w' ∧ Oc E6 2 κ' w' 2 ab aa s7 ∧ s3.length = s7.length ∧ 0 ≤ v10 ∧ Int.toNat ((p0.length : Int) - v10) = k ∧ cntM (s_l30Far_b4 p0 p1 v9) k v10 s7 = some q8) ⟨_, _, ⟨K40, 0, (s4 : (List Int)), R, (Jx2 _ _).wk R, f42, hn43, (by decide), (by simp), hq47⟩, (KM R)⟩ ?_)
 rintro k _ w53 ⟨K54, v10, s7, rfl, S55, f56, hn57, hj45, hJ45, h⟩
 rcases k with _ | k
 have hk58 := h; obtain ⟨o45, h⟩ := ex_eq (Sum.inr (Sum.inl s7) : (List Int) ⊕ (((List Int)) ⊕ ((List Int))))
 have hc45 : decide (v10 < (p0.length : Int)) = false := Jo2 (by omega)
 refine Jq (Je [2, 2, 2, 2] R (Jn 2 R (Jf R (Je2 U24 R R) (Jb 1 R (Jw2 R hc45 (Jc1 (Jt (Jt ?_))))))))
 cases h
 have h := hk58
 refine Jb1 ?_
 cases h
 exact Jw1 _ ⟨K54, (s7 : (List Int)), R, S55.wk R, f56, hn57, R⟩ (KM R)
 obtain ⟨o45, h, hk58⟩ := BI h; unfold s_l30Far_b4 at h
 have hc45 : decide (v10 < (p0.length : Int)) = true := Jn2 (by omega)
 refine Jq (Je [2, 2, 2, 2] R (Jn 2 R (Jf R (Je2 U24 R R) (Jb 1 R (Jv2 R hc45 (Js (Jp (Jq (Jv (Je [2] R (Jb 1 R (Ob h fun q11 hq61 hK60 => ?_))))))))))))
 clear h
 refine Jx1 (fun L w' => ∃ κ', ∃ s12 : Int × (List Int), L = [(0, .slice a0 p0.length u0), (1, .slice a1 p1.length u1), (7, .slice ab s3.length aa), (9, vi v9), (10, vi v10)] ∧ Stp [2] K54 w53 κ' w' ∧ Oc E6 2 κ' w' 2 ab aa s12.2 ∧ s3.length = s12.2.length ∧ q11 = Sum.inr s12) ?_ ?_
 refine Jv (Jy1 (fun k L w' => ∃ κ', ∃ s10 : Int × (List Int), L = [(0, .slice a0 p0.length u0), (1, .slice a1 p1.length u1), (7, .slice ab s3.length aa), (9, vi v9), (10, vi v10), (11, vi s10.1)] ∧ Stp [2] K54 w53 κ' w' ∧ Oc E6 2 κ' w' 2 ab aa s10.2 ∧ s3.length = s10.2.length ∧ whileM (s_l30Far_b6 p0 p1 v9 v10) k s10 = some q11) ⟨_, _, ⟨K54, ((0 : Int), (s7 : (List Int))), R, (Jx2 _ _).wk R, f56, hn57, hq61⟩, (KM R)⟩ ?_)
 rintro k _ w67 ⟨K68, s10, rfl, S69, f70, hn71, h⟩
 rcases k with _ | k
 cases h
 obtain ⟨o59, h, hk72⟩ := BI h; unfold s_l30Far_b6 at h
 refine Jq (Je [2, 2, 2, 2, 1, 2, 2, 2, 2, 2, 2, 1, 2, 2, 2, 2, 2, 2, 1, 2] R (Jn 3 R (Ob h fun x40 hx40 h => Jf R (Jf2 g0 hx40 U24 Z40 R R R R) ?_)))
 have f73 := g0.stp (S3.tr (S10.tr (S28.tr (S41.tr (S55.tr S69))))) R R
 obtain ⟨ax40, ux40, f74, hl75⟩ := f73.gSl hx40
 refine Jl tv R R R R (Jc2 I40 R R (hvE hl75)) (Jf R (Je2 U40 R R) (Jn 2 R (Ob h fun p50 h hK76 => Ju1 [(8, 2), (9, 2), (10, 2), (11, 1), (12, 2), (13, 2)] [(14, 2), (15, 2), (16, 2), (17, 2), (18, 1), (19, 2)] (fun L w' => L = [(0, .slice a0 p0.length u0), (1, .slice a1 p1.length u1), (7, .slice ab s3.length aa), (9, vi v9), (10, vi v10), (11, vi s10.1), (50, .bool p50)] ∧ ∃ κ', Stp [] K68 w67 κ' w') tv ?_ ?_)))
 revert h
 cases ht77 : decide (s10.1 < (x40.length : Int))
 refine JF fun h => Jn 3 R (Jd1 R R R R (Jn 2 R ?_))
 cases h
 exact Jv1 _ tv ⟨R, _, (Jx2 _ _).wk R⟩ (KM R)
 refine JT fun h => Jn 2 R (Ob h fun x47 hx47 h => Jf R (Jf2 f70.rdc hx47 U40 Z2 R R hn71 R) (Jl tv R R R R (Jc2 I2 R R (hvE (f70.rdc.gInt hx47))) (Jn 2 R ?_)))
 cases h
 exact Jv1 _ tv ⟨R, _, (Jx2 _ _).wk R⟩ (KM R)
 rintro _ w78 _ ⟨rfl, K79, S80⟩
 have h := hK76
 refine Jn 1 R (Ob h fun p56 h hK81 => Ju1 [(15, 2), (16, 2), (17, 2), (18, 1), (19, 2)] [] (fun L w' => L = [(0, .slice a0 p0.length u0), (1, .slice a1 p1.length u1), (7, .slice ab s3.length aa), (9, vi v9), (10, vi v10), (11, vi s10.1), (56, .bool p56)] ∧ ∃ κ', Stp [] K79 w78 κ' w') tv ?_ ?_)
 revert h
 cases ht82 : p50
 refine JF fun h => Jn 3 R (Jd1 R R R R (Jn 1 R ?_))
 cases h
 exact Jv1 _ tv ⟨R, _, (Jx2 _ _).wk R⟩ (KM R)
 refine JT fun h => Jn 2 R (Ob h fun x54 hx54 h => Jf R (Jf2 g1 hx54 U135 Z4 R R R R) (Jl tv R R R R (Jc2 I4 R R (hvE ((g1.stp (S3.tr (S10.tr (S28.tr (S41.tr (S55.tr (S69.tr S80)))))) R R).gBool hx54))) (Jn 1 R ?_)))
 cases h
 exact Jv1 _ tv ⟨R, _, (Jx2 _ _).wk R⟩ (KM R)
 rintro _ w84 _ ⟨rfl, K85, S86⟩
 have h := hK81
 refine Jd ?_
 revert h
 cases ht87 : p56
 refine JF fun h => Jy R (Jc1 (Jt (Jt ?_)))
 cases h
 have h := hk72
 refine Jb1 ?_
 cases h
 exact Jw1 _ ⟨K85, ((s10.1 : Int), (s10.2 : (List Int))), R, (S69.tr (S80.tr S86)).wk R, (f70.stp (S80.tr S86) R R), hn71, R⟩ (KM R)
 refine JT fun h => Jx R (Js (Jp (Jq (Jv (Je [2, 2, 2, 2, 1, 2, 2, 1, 2, 1, 2, 2] R (Jn 3 R (Ob h fun x62 hx62 h => Jf R (Jf2 f73 hx62 U24 Z40 R R R R) ?_)))))))
 obtain ⟨ax62, ux62, f89, hl90⟩ := (f73.stp (S80.tr S86) R R).gSl hx62
 refine Jl tv R R R R (Jc2 I40 R R (hvE hl90)) (Jn 1 R (Ob h fun x65 hx65 h => Jf R (Jf2 f89 hx65 U40 Z2 R R R R) (Jl tv R R R R (Jc2 I2 R R (hvE (f89.gInt hx65))) (Ob h fun x67 hx67 h => Jf R (Jf2 f70.rdc hx67 U40 Z2 R R hn71 R) ?_))))
 have f91 := f70.stp (S80.tr S86) R R
 refine Jl tv R R R R (Jc2 I2 R R (hvE (f91.rdc.gInt hx67))) (Jb 2 R (Ob h fun q13 h hK92 => Jx1 (fun L w' => ∃ κ', L = [(0, .slice a0 p0.length u0), (1, .slice a1 p1.length u1), (7, .slice ab s3.length aa), (9, vi v9), (10, vi v10), (11, vi s10.1)] ∧ Stp [2] K85 w84 κ' w' ∧ Oc E6 2 κ' w' 2 ab aa q13 ∧ s3.length = q13.length) ?_ ?_))
 revert h
 cases ht98 : (x67 == v9)
 refine JF fun h => Jy R (Js ?_)
 cases h
 exact Jw1 _ ⟨K85, R, (Jx2 _ _).wk R, f91, hn71⟩ (KM R)
 refine JT fun h => Jx R (Ja [2, 2, 2, 2, 2, 1] R (Jn 4 R (Ob h fun x75 hx75 h => Jf R (Jf2 f91.rdc hx75 U40 Z2 R R hn71 R) (Ob h fun y267 hy267 h => Jk1 (κ := K85) (E := E6) 2 [] R R R R R R R R Z2 R R R R f91 hy267 fun w99 K100 S101 f102 => ⟨tv, ?_⟩))))
 have hn103 : s3.length = y267.length := hn71.trans (Jt2 hy267).2.2.2.symm
 refine Jo ?_
 cases h
 exact Jw1 _ ⟨K100, R, S101.wk R, f102, hn103⟩ (KM R)
 rintro _ w93 ⟨K94, rfl, S95, f96, hn97⟩
 have h := hK92
 refine Jz (Jp (Ja [2, 2, 2] R (Jc 3 R ?_)))
 cases h
 exact Jz1 fun a ha => ⟨k, _, Ja3 _, ⟨K94, (((IntKind.i64.wrap (s10.1 + 1)) : Int), (q13 : (List Int))), R, (S69.tr (S80.tr (S86.tr S95))).wk R, f96, hn97, hk72⟩, (ha.mm R)⟩
 rintro _ w62 ⟨K63, s12, rfl, S64, f65, hn66, rfl⟩
 have h := hK60
 dsimp only [aft] at h
 refine Jz (Jp (Ja [2, 2, 2] R (Jc 3 R ?_)))
 have hw45 : IntKind.wrap .i64 (v10 + 1) = v10 + 1 := wr1 hj45 (Jm2 hc45) hN45
 rw [hw45]
 have hc45 := Jm2 hc45
 cases h
 exact Jz1 fun a ha => ⟨k, _, Ja3 _, ⟨K63, v10 + 1, (s12.2 : (List Int)), R, (S55.tr S64).wk R, f65, hn66, by omega, by omega, hk58⟩, (ha.mm R)⟩
 rintro _ w48 ⟨K49, s9, rfl, S50, f51, hn52, rfl⟩
 have h := hK46
 dsimp only [aft] at h
 refine Jz (Jp (Ja [2, 2, 2] R (Jc 3 R ?_)))
 have hw31 : IntKind.wrap .i64 (v9 + 1) = v9 + 1 := wr1 hj31 (Jm2 hc31) hN31
 rw [hw31]
 have hc31 := Jm2 hc31
 cases h
 exact Jz1 fun a ha => ⟨k, _, Ja3 _, ⟨K49, v9 + 1, (s9 : (List Int)), R, (S41.tr S50).wk R, f51, hn52, by omega, by omega, hk44⟩, (ha.mm R)⟩
 rintro _ w34 ⟨K35, s6, rfl, S36, f37, hn38, rfl⟩
 have h := hK32
 dsimp only [aft] at h
 refine Jp (Je [2, 2] R (Jb 2 R (Ju (Ja2 (l := [.tmp 6]) V103 (Jp2 R R) R ?_))))
 cases h
 exact ⟨K35, ab, aa, (by simp only [hn38]), (hE.stp (S3.tr (S10.tr (S28.tr S36))) R R), f37⟩
theorem s_l30Returns_ok {w : World} {κ : Col} {a0 u0} {p0 : (List (List Int))} {a1 u1} {p1 : (List Int)} {p2 : Int} (g0 : Rd (Rp.sl (Rp.int .i64)) κ w 0 a0 u0 p0) (g1 : Rd (Rp.int .i64) κ w 0 a1 u1 p1) {r : Bool} (h : s_l30Returns p0 p1 p2 = some r) : Ret Tryz.prog 109 [.slice a0 p0.length u0, .slice a1 p1.length u1, vi p2] w (fun v w' => ∃ (κ' : Col), v = .bool r ∧ Ent κ w κ' w') := by
 unfold s_l30Returns at h
 refine Ret.enter F109 R N109 R ?_
 dsimp only [envOf]
 have hE := Ent.refl κ w
 refine Je [2] R (Jb 1 R (Jq (Je [2] R (Jb 1 R (Ob h fun q2 hq3 hK2 => ?_)))))
 clear h
 refine Jx1 (fun L w' => ∃ κ' s3, L = [] ∧ Stp [] κ w κ' w' ∧ q2 = Sum.inr s3) ?_ ?_
 refine Jv (Jy1 (fun k L w' => ∃ κ' s1, L = [(0, .slice a0 p0.length u0), (1, .slice a1 p1.length u1), (2, vi p2), (7, vi s1)] ∧ Stp [] κ w κ' w' ∧ whileM (s_l30Returns_b0 p0 p1 p2) k s1 = some q2) ⟨_, _, ⟨κ, (0 : Int), R, (Jx2 _ _).wk R, hq3⟩, (KM R)⟩ ?_)
 rintro k _ w7 ⟨K8, s1, rfl, S9, h⟩
 rcases k with _ | k
 cases h
 obtain ⟨o1, h, hk10⟩ := BI h; unfold s_l30Returns_b0 at h
 refine Jq (Je [2, 2, 2, 2, 1, 2, 2] R (Jn 3 R (Ob h fun x11 hx11 h => Jf R (Jf2 g0 hx11 U24 Z40 R R R R) ?_)))
 have f11 := g0.stp S9 R R
 obtain ⟨ax11, ux11, f12, hl13⟩ := f11.gSl hx11
 refine Jl tv R R R R (Jc2 I40 R R (hvE hl13)) (Jf R (Je2 U40 R R) (Jb 1 R ?_))
 revert h
 cases ht14 : decide (s1 < (x11.length : Int))
 refine JF fun h => Jy R (Jc1 (Jt (Jt ?_)))
 cases h
 have h := hk10
 refine Jb1 ?_
 cases h
 exact Jw1 _ ⟨K8, (s1 : Int), R, S9.wk R, R⟩ KN
 refine JT fun h => Jx R (Js (Jp (Jq (Jv (Je [2, 2, 2, 2, 1, 2, 2, 1, 2, 1, 2] R (Jn 3 R (Ob h fun x20 hx20 h => Jf R (Jf2 f11 hx20 U24 Z40 R R R R) ?_)))))))
 obtain ⟨ax20, ux20, f15, hl16⟩ := f11.gSl hx20
 refine Jl tv R R R R (Jc2 I40 R R (hvE hl16)) (Jn 1 R (Ob h fun x23 hx23 h => Jf R (Jf2 f15 hx23 U40 Z2 R R R R) (Jl tv R R R R (Jc2 I2 R R (hvE (f15.gInt hx23))) (Ob h fun x25 hx25 h => Jf R (Jf2 g1 hx25 U40 Z2 R R R R) (Jl tv R R R R (Jc2 I2 R R (hvE ((g1.stp S9 R R).gInt hx25))) (Jb 1 R ?_))))))
 revert h
 cases ht18 : decide (0 ≤ x25)
 refine JF fun h => Jy R (Js (Jz (Jp (Ja [2, 2, 2] R (Jc 3 R ?_)))))
 cases h
 exact Jz1 fun a ha => ⟨k, _, Ja3 _, ⟨K8, ((IntKind.i64.wrap (s1 + 1)) : Int), R, S9.wk R, hk10⟩, (ha.mm R)⟩
 refine JT fun h => Jx R (Je [2] R (Jb 1 R (Ju (Ja1 (Jw (Jw ?_))))))
 cases h
 obtain rfl := Option.some.inj hk10
 have h := hK2
 dsimp only [aft] at h
 refine Ja1 (Jq2 (Jw (Ja2 (l := [.tmp 6]) V109 (Jp2 R R) R ?_)))
 cases h
 exact ⟨K8, R, (hE.stp S9 R R)⟩
 rintro _ w4 ⟨K5, s3, rfl, S6, rfl⟩
 have h := hK2
 dsimp only [aft] at h
 refine Jp (Je [2] R (Jb 1 R (Ju (Ja2 (l := [.tmp 6]) V109 (Jp2 R R) R ?_))))
 cases h
 exact ⟨K5, R, (hE.stp S6 R R)⟩
theorem s_l1Copy_ok {w : World} {κ : Col} {a0 u0} {p0 : (List Int)} (g0 : Rd (Rp.int .i64) κ w 0 a0 u0 p0) {r : (List Int)} (h : s_l1Copy p0 = some r) : Ret Tryz.prog 88 [.slice a0 p0.length u0] w (fun v w' => ∃ (κ' : Col) (ra0 : Option Addr) (ru0 : Nat), v = .slice ra0 r.length ru0 ∧ Ent κ w κ' w' ∧ Oc E6 2 κ' w' 2 ra0 ru0 r) := by
 unfold s_l1Copy at h
 refine Ret.enter F88 R N88 R ?_
 dsimp only [envOf]
 have hE := Ent.refl κ w
 refine Je [2] R (Jb 1 R (Je [1, 2, 1, 2] R (Jo1 (κ := κ) (E := E6) 2 R R R R R Y40 Tryzinfo2 R fun a3 u3 w1 K2 S3 f4 => ⟨tv, Jn 1 R (Ob h fun x5 hx5 h => Jm1 (κ := K2) (E := E6) 2 [] R R R R R R R R R Y40 Tryzinfo2 R R R R f4 (Sl.srcP (pu_int _) (g0.stp S3 R R)) sy_false hx5 R fun a5 u5 w6 K7 S8 f9 => ⟨tv, Jb 1 R (Ju (Ja2 (l := [.tmp 2]) V88 (Jp2 R R) R ?_))⟩)⟩)))
 cases h
 exact ⟨K7, a5, u5, R, (hE.stp (S3.tr S8) R R), f9⟩
theorem s_l29Behind_ok {w : World} {κ : Col} {ab ac aa ad} {p0 : Machine} {p1 : Int} {a2 u2} {p2 : (List Int)} (g0_0 : Rd (Rp.sl (Rp.int .i64)) κ w 0 ab ac p0.Next) (g0_1 : Rd (Rp.sl (Rp.int .i64)) κ w 0 aa ad p0.Out) (g2 : Rd (Rp.int .i64) κ w 0 a2 u2 p2) {r : Int} (h : s_l29Behind p0 p1 p2 = some r) : Ret Tryz.prog 99 [.agg #[.slice ab p0.Next.length ac, .slice aa p0.Out.length ad], vi p1, .slice a2 p2.length u2] w (fun v w' => ∃ (κ' : Col), v = vi r ∧ Ent κ w κ' w') := by
 unfold s_l29Behind at h
 refine Ret.enter F99 R N99 R ?_
 dsimp only [envOf]
 have hE := Ent.refl κ w
 refine Je [1, 2] R (Jf1 (κ := κ) 2 R R R R R R R fun b3 w1 K2 S3 f4 => ⟨tv, Jb 1 R (Jq (Je [2] R (Jb 1 R ?_)))⟩)
 have hN5 : (p2.length : Int) ≤ 9223372036854775807 := g2.len_le
 refine Ob h fun q2 hq7 hK6 => ?_
 clear h
 refine Jx1 (fun L w' => ∃ κ' s3, L = [(1, vi s3)] ∧ Stp [] K2 w1 κ' w' ∧ q2 = Sum.inr s3) ?_ ?_
 refine Jv (Jy1 (fun k L w' => ∃ κ' v7 s1, L = [(1, vi s1), (2, .slice a2 p2.length u2), (3, .pointer (some ⟨b3, 0, none⟩)), (7, vi v7)] ∧ Stp [] K2 w1 κ' w' ∧ 0 ≤ v7 ∧ Int.toNat ((p2.length : Int) - v7) = k ∧ cntM (s_l29Behind_b0 p0 p2) k v7 s1 = some q2) ⟨_, _, ⟨K2, 0, (p1 : Int), R, (Jx2 _ _).wk R, (by decide), (by simp), hq7⟩, (KM R)⟩ ?_)
 rintro k _ w11 ⟨K12, v7, s1, rfl, S13, hj5, hJ5, h⟩
 rcases k with _ | k
 have hk14 := h; obtain ⟨o5, h⟩ := ex_eq (Sum.inr (Sum.inl s1) : Int ⊕ ((Int) ⊕ (Int)))
 have hc5 : decide (v7 < (p2.length : Int)) = false := Jo2 (by omega)
 refine Jq (Je [2, 2, 2, 2] R (Jn 2 R (Jf R (Je2 U40 R R) (Jb 1 R (Jw2 R hc5 (Jc1 (Jt (Jt ?_))))))))
 cases h
 have h := hk14
 refine Jb1 ?_
 cases h
 exact Jw1 _ ⟨K12, (s1 : Int), R, S13.wk R, R⟩ (KM R)
 obtain ⟨o5, h, hk14⟩ := BI h; unfold s_l29Behind_b0 at h
 have hc5 : decide (v7 < (p2.length : Int)) = true := Jn2 (by omega)
 refine Jq (Je [2, 2, 2, 2] R (Jn 2 R (Jf R (Je2 U40 R R) (Jb 1 R (Jv2 R hc5 (Js (Jp (Jq (Jv (Js1 (κ := K12) [0, 2] none [(0, 2), (2, 2), (5, 2), (6, 2), (7, 2), (1, 0), (3, 2), (4, 0), (8, 0), (9, 2), (10, 0), (11, 2)] [] (by kernel_rfl) (by kernel_rfl) fun w16 S15 => Jf R (Jb2 U33 R Z24 R R) (Jn 3 R (Ob h fun x21 hx21 h => Jf R (Jf2 g2 hx21 U40 Z2 R R R R) (Jg R (Jc2 I24 R R (hvC ((f4.stp (S13.tr S15) R R).ld 0 R R) R)) (Ob h fun x17 hx17 h => Jf R (Jf2 g0_0 hx17 U24 Z40 R R R R) ?_))))))))))))))
 obtain ⟨ax17, ux17, f19, hl20⟩ := (g0_0.stp (S3.tr (S13.tr S15)) R R).gSl hx17
 refine Jg R (Jc2 I40 R R (hvC hl20 R)) (Jg R (Jc2 I2 R R (hvC ((g2.stp (S3.tr (S13.tr S15)) R R).gInt hx21) R)) (Ob h fun x23 hx23 h => Jf R (Jf2 f19 hx23 U40 Z2 R R R R) (Jg R (Jc2 I2 R R (hvC (f19.gInt hx23) R)) (Jn 1 R (Jt1 (Jo (Jz (Jp (Ja [2, 2, 2] R (Jc 3 R ?_))))))))))
 have hw5 : IntKind.wrap .i64 (v7 + 1) = v7 + 1 := wr1 hj5 (Jm2 hc5) hN5
 rw [hw5]
 have hc5 := Jm2 hc5
 cases h
 exact Jz1 fun a ha => ⟨k, _, Ja3 _, ⟨K12, v7 + 1, (x23 : Int), R, (S13.tr S15).wk R, by omega, by omega, hk14⟩, (ha.mm R)⟩
 rintro _ w8 ⟨K9, s3, rfl, S10, rfl⟩
 have h := hK6
 dsimp only [aft] at h
 refine Jp (Je [2, 2] R (Jb 2 R (Ju (Ja2 (l := [.tmp 6]) V99 (Jp2 R R) R ?_))))
 cases h
 exact ⟨K9, R, (hE.stp (S3.tr S10) R R)⟩
theorem s_l23At_ok {w : World} {κ : Col} {ab ac ad aa} {p0 : Word} {p1 : Int} (g0_0 : Rd (Rp.int .i64) κ w 0 ab ac p0.Stem) (g0_1 : Rd (Rp.int .i64) κ w 0 ad aa p0.Loop) {r : Int} (h : s_l23At p0 p1 = some r) : Ret Tryz.prog 96 [.agg #[.slice ab p0.Stem.length ac, .slice ad p0.Loop.length aa], vi p1] w (fun v w' => ∃ (κ' : Col), v = vi r ∧ Ent κ w κ' w') := by
 unfold s_l23At at h
 refine Ret.enter F96 R N96 R ?_
 dsimp only [envOf]
 have hE := Ent.refl κ w
 refine Je [1, 2] R (Jf1 (κ := κ) 2 R R R R R R R fun b2 w1 K2 S3 f4 => ⟨tv, Jb 1 R (Je [2, 1, 2, 2] R (Jf R (Jb2 U65 R Z40 R R) (Jl tv R R R R (Jc2 I40 R R (hvE (f4.ld 0 R R))) (Jf R (Je2 U40 R R) (Jb 1 R (Jq (Je [2, 2, 2] R (Jb 3 R ?_))))))))⟩)
 revert h
 cases ht5 : decide (p1 < (p0.Stem.length : Int))
 refine JF fun h => Jy R (Js (Jp (Jq (Js1 (κ := K2) [0, 2] none [(0, 2), (2, 2), (3, 2), (4, 2), (5, 2), (1, 0), (6, 0), (7, 2), (8, 2), (9, 2), (10, 0), (11, 2)] [] (by kernel_rfl) (by kernel_rfl) fun w9 S8 => Jf R (Jb2 U65 R Z40 R R) (Jn 3 R (Jf R (Jb2 U65 R Z40 R R) ?_))))))
 have f10 := f4.stp S8 R R
 refine Jg R (Jc2 I40 R R (hvC (f10.ld 1 R R) R)) (Jg R (Jc2 I40 R R (hvC (f10.ld 1 R R) R)) (Jf R (Je2 U40 R R) (Ob h fun _z25 hz25 h => Jf R (rn_rem R R R (nz_ok hz25)) (Ob h fun x26 hx26 h => Jf R (Jf2 g0_1 hx26 U40 Z2 R R R R) (Jg R (Jc2 I2 R R (hvC ((g0_1.stp (S3.tr S8) R R).gInt hx26) R)) (Jn 1 R (Jt1 (Jd (Ju (Ja2 (l := [.tmp 4]) V96 (Jp2 R R) R ?_))))))))))
 cases h
 exact ⟨K2, R, (hE.stp (S3.tr S8) R R)⟩
 refine JT fun h => Jx R (Je [2, 1, 2, 2, 1, 2] R (Jf R (Jb2 U65 R Z40 R R) (Jl tv R R R R (Jc2 I40 R R (hvE (f4.ld 0 R R))) (Jn 1 R (Ob h fun x15 hx15 h => Jf R (Jf2 g0_0 hx15 U40 Z2 R R R R) (Jl tv R R R R (Jc2 I2 R R (hvE ((g0_0.stp S3 R R).gInt hx15))) (Jb 1 R (Ju (Jw (Ja2 (l := [.tmp 4]) V96 (Jp2 R R) R ?_))))))))))
 cases h
 exact ⟨K2, R, (hE.stp S3 R R)⟩
end Go.Proofs.YtcmamhmpoinmnaaGreat
