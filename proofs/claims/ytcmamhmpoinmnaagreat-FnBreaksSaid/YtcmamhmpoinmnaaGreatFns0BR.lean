/- The walks, part 0. By program. -/
import Derived.Test.YtcmamhmpoinmnaaGreatFnsMBR
import Derived.Test.YtcmamhmpoinmnaaGreatAlBR
set_option linter.unusedVariables false
set_option linter.unusedSimpArgs false
namespace Go.Proofs.YtcmamhmpoinmnaaGreat
open Go Go.Wk Go.Proofs
set_option maxRecDepth 100000
set_option maxHeartbeats 1000000
theorem l_roll_ok {w : World} {κ : Col} {a0 u0} {p0 : (List Int)} {p1 : Int} (g0 : Rd (Rp.int .u8) κ w 0 a0 u0 p0) {r : dice} (h : l_roll p0 p1 = some r) : Ret Tryz.prog 34 [.slice a0 p0.length u0, .int .u64 p1] w (fun v w' => ∃ (κ' : Col) (ra0 : Option Addr) (ru0 : Nat) (rb1 : Nat), v = .pointer (some ⟨rb1, 0, none⟩) ∧ Ent κ w κ' w' ∧ Rd (Rp.int .u8) κ' w' 0 ra0 ru0 r.b ∧ (Bc κ' w' 3 rb1 116 [.slice ra0 r.b.length ru0, vi r.i, .int .u64 r.h])) := by
 unfold l_roll at h
 refine Ret.enter F34 R N34 R ?_
 dsimp only [envOf]
 have hE := Ent.refl κ w
 refine Je [2] R (Jb 1 R (Je [2, 2, 2, 2, 2, 2, 2, 2, 1, 2] R (Jn 4 R (Jf R (Je2 U57 R R) (Jf R (Jh2 U3 U61 R R) (Jn 1 R (Jf R (rn_build (parts := [(0, .tmp 7), (2, .tmp 13)]) (cells := [.slice a0 p0.length u0, vi 0, .int .u64 (IntKind.u64.wrap ((IntKind.u64.wrap (p1 * 7919)) + (IntKind.u64.wrap (p0.length : Int))))]) R R (by kernel_rfl)) (Jf1 (κ := κ) 2 R R R R R R R fun b15 w1 K2 S3 f4 => ⟨tv, Jb 1 R (Jq (Je [2] R (Jb 1 R ?_)))⟩))))))))
 have hN5 : (p0.length : Int) ≤ 9223372036854775807 := g0.len_le
 refine Ob h fun q2 hq7 hK6 => ?_
 clear h
 refine Jx1 (fun L w' => ∃ κ' s3, L = [(5, .pointer (some ⟨b15, 0, none⟩))] ∧ Stp [2] K2 w1 κ' w' ∧ Bc κ' w' 2 b15 116 [.slice a0 p0.length u0, vi 0, .int .u64 s3] ∧ q2 = Sum.inr s3) ?_ ?_
 refine Jv (Jy1 (fun k L w' => ∃ κ' v6 s1, L = [(0, .slice a0 p0.length u0), (5, .pointer (some ⟨b15, 0, none⟩)), (6, vi v6)] ∧ Stp [2] K2 w1 κ' w' ∧ Bc κ' w' 2 b15 116 [.slice a0 p0.length u0, vi 0, .int .u64 s1] ∧ 0 ≤ v6 ∧ Int.toNat ((p0.length : Int) - v6) = k ∧ cntM (l_roll_b0 p0) k v6 s1 = some q2) ⟨_, _, ⟨K2, 0, ((IntKind.u64.wrap ((IntKind.u64.wrap (p1 * 7919)) + (IntKind.u64.wrap (p0.length : Int)))) : Int), R, (Jx2 _ _).wk R, f4, (by decide), (by simp), hq7⟩, (KM R)⟩ ?_)
 rintro k _ w12 ⟨K13, v6, s1, rfl, S14, f15, hj5, hJ5, h⟩
 rcases k with _ | k
 have hk16 := h; obtain ⟨o5, h⟩ := ex_eq (Sum.inr (Sum.inl s1) : dice ⊕ ((Int) ⊕ (Int)))
 have hc5 : decide (v6 < (p0.length : Int)) = false := Jo2 (by omega)
 refine Jq (Je [2, 2, 2, 2] R (Jn 2 R (Jf R (Je2 U57 R R) (Jb 1 R (Jw2 R hc5 (Jc1 (Jt (Jt ?_))))))))
 cases h
 have h := hk16
 refine Jb1 ?_
 cases h
 exact Jw1 _ ⟨K13, (s1 : Int), R, S14.wk R, f15, R⟩ (KM R)
 obtain ⟨o5, h, hk16⟩ := BI h; unfold l_roll_b0 at h
 have hc5 : decide (v6 < (p0.length : Int)) = true := Jn2 (by omega)
 refine Jq (Je [2, 2, 2, 2] R (Jn 2 R (Jf R (Je2 U57 R R) (Jb 1 R (Jv2 R hc5 (Js (Jp (Jq (Jv (Js1 (κ := K13) [0, 2] (some 15) [(0, 2), (1, 2), (2, 2), (3, 2), (6, 2), (7, 2), (8, 2), (4, 0), (5, 2), (9, 0), (10, 2), (11, 2), (12, 2), (13, 2), (14, 2)] [(15, 1)] (by kernel_rfl) (by kernel_rfl) fun w18 S17 => Jn 2 R (Jf R (rn_nilCheck R R) (Jf R (Jb2 U116 R Z61 R R) (Jn 2 R (Ob h fun x30 hx30 h => Jf R (Jf2 g0 hx30 U57 Z5 R R R R) ?_))))))))))))))
 have f19 := f15.stp S17 R R
 refine Jg R (Jc2 I61 R R (hvC (f19.ld 2 R R) R)) (Jn 1 R (Jg R (Jc2 I5 R R (hvC ((g0.stp (S3.tr (S14.tr S17)) R R).gInt hx30) R)) (Jf R (Jh2 U5 U61 R R) (Jn 2 R (Jf R (rn_nilCheck R R) (Jf R (Jb2 U116 R Z61 R R) (Jt1 (Ji1 (κ := K13) 2 (off := 2) (vc := [.int .u64 (IntKind.u64.wrap ((IntKind.u64.wrap ((IntKind.u64.wrap (s1 * 1099511628211)) + (IntKind.u64.wrap x30))) + 3))]) (cs' := [.slice a0 p0.length u0, vi 0, .int .u64 (IntKind.u64.wrap ((IntKind.u64.wrap ((IntKind.u64.wrap (s1 * 1099511628211)) + (IntKind.u64.wrap x30))) + 3))]) R R R R R R R Z61 R R f19 R R fun w21 S22 f23 => ⟨tv, Jo (Jz (Jp (Ja [2, 2, 2] R (Jc 3 R ?_))))⟩))))))))
 have hw5 : IntKind.wrap .i64 (v6 + 1) = v6 + 1 := wr1 hj5 (Jm2 hc5) hN5
 rw [hw5]
 have hc5 := Jm2 hc5
 cases h
 exact Jz1 fun a ha => ⟨k, _, Ja3 _, ⟨K13, v6 + 1, ((IntKind.u64.wrap ((IntKind.u64.wrap ((IntKind.u64.wrap (s1 * 1099511628211)) + (IntKind.u64.wrap x30))) + 3)) : Int), R, (S14.tr (S17.tr S22)).wk R, f23, by omega, by omega, hk16⟩, (ha.mm R)⟩
 rintro _ w8 ⟨K9, s3, rfl, S10, f11, rfl⟩
 have h := hK6
 dsimp only [aft] at h
 refine Jp (Je [2, 2] R (Jb 2 R (Ju (Ja2 (l := [.tmp 4]) V34 (Jp2 R R) R ?_))))
 cases h
 exact ⟨(fun b => ren [(2, 3)] (K9 b)), a0, u0, b15, R, ((hE.stp (S3.tr S10) R R).map (ren [(2, 3)]) R R), ((g0.stp (S3.tr S10) R R).map (ren [(2, 3)]) R R), (f11.map (ren [(2, 3)]) R R)⟩
theorem l_dice_below_ok {w : World} {κ : Col} {aa ab} {p0 : dice} {p1 : Int} {b0} (g0_0 : Rd (Rp.int .u8) κ w 0 aa ab p0.b) (gb0 : Bc κ w 2 b0 116 [.slice aa p0.b.length ab, vi p0.i, .int .u64 p0.h]) {r : Int × Int × Int} (h : l_dice_below p0 p1 = some r) : Ret Tryz.prog 82 [.pointer (some ⟨b0, 0, none⟩), vi p1] w (fun v w' => ∃ (κ' : Col), v = vi r.1 ∧ Ent κ w κ' w' ∧ Bc κ' w' 2 b0 116 [.slice aa p0.b.length ab, vi r.2.1, .int .u64 r.2.2]) := by
 unfold l_dice_below at h
 refine Ret.enter F82 R N82 R ?_
 dsimp only [envOf]
 have hE := Ent.refl κ w
 refine Je [2] R (Jb 1 R (Je [2, 2, 2, 2, 1, 2, 2, 2, 2, 1] R (Jn 2 R (Jf R (rn_nilCheck R R) (Jf R (Jb2 U116 R Z61 R R) (Jl tv R R R R (Jc2 I61 R R (hvE (gb0.ld 2 R R))) (Jn 2 R (Jf R (rn_nilCheck R R) (Jf R (Jb2 U116 R Z61 R R) (Ji1 (κ := κ) 2 (off := 2) (vc := [.int .u64 (IntKind.u64.wrap ((IntKind.u64.wrap (p0.h * 6364136223846793005)) + 1442695040888963407))]) (cs' := [.slice aa p0.b.length ab, vi p0.i, .int .u64 (IntKind.u64.wrap ((IntKind.u64.wrap (p0.h * 6364136223846793005)) + 1442695040888963407))]) R R R R R R R Z61 R R gb0 R R fun w1 S2 f3 => ⟨tv, Jd (Je [2, 2, 2, 1, 2, 2, 2, 2] R (Jn 1 R (Jf R (rn_nilCheck R R) (Jf R (Jb2 U116 R Z61 R R) (Jl tv R R R R (Jc2 I61 R R (hvE (f3.ld 2 R R))) (Jf R (rn_shr R R R (by decide)) (Jn 1 R (Jf R (Jh2 U61 U2 R R) (Jb 1 R (Jq (Jq (Js1 (κ := κ) [2] none [(0, 2), (1, 2), (2, 2), (4, 2), (5, 2), (6, 2), (3, 0), (7, 0), (8, 2), (9, 2)] [] (by kernel_rfl) (by kernel_rfl) fun w5 S4 => Jn 1 R (Jf R (rn_nilCheck R R) (Jf R (Jb2 U116 R Z3 R R) (Jn 1 R (Jf R (rn_nilCheck R R) (Jf R (Jb2 U116 R Z57 R R) ?_)))))))))))))))))⟩))))))))))
 have f6 := f3.stp S4 R R
 refine Jg R (Jc2 I3 R R (hvC (f6.ld 1 R R) R)) (Jg R (Jc2 I57 R R (hvC (f6.ld 0 R R) R)) (Jf R (Je2 U57 R R) (Jn 1 R (Jt1 (Jd (Ob h fun q1 h hK7 => Jx1 (fun L w' => ∃ κ', L = [(0, .pointer (some ⟨b0, 0, none⟩)), (1, vi p1), (5, vi q1.1)] ∧ Stp [2] κ w5 κ' w' ∧ Bc κ' w' 2 b0 116 [.slice aa p0.b.length ab, vi q1.2, .int .u64 (IntKind.u64.wrap ((IntKind.u64.wrap (p0.h * 6364136223846793005)) + 1442695040888963407))]) ?_ ?_))))))
 revert h
 cases ht12 : decide (p0.i < (p0.b.length : Int))
 refine JF fun h => Jy R (Js ?_)
 cases h
 exact Jw1 _ ⟨κ, R, (Jx2 _ _).wk R, f6⟩ (KM R)
 refine JT fun h => Jx R (Jq (Js1 (κ := κ) [0, 2] none [(0, 2), (1, 2), (2, 2), (3, 2), (5, 2), (6, 2), (7, 2), (4, 0), (8, 0), (9, 2), (10, 0), (11, 2), (12, 2), (13, 2)] [] (by kernel_rfl) (by kernel_rfl) fun w14 S13 => Jn 2 R (Jf R (rn_nilCheck R R) (Jf R (Jb2 U116 R Z57 R R) (Jn 1 R (Jf R (rn_nilCheck R R) (Jf R (Jb2 U116 R Z3 R R) ?_)))))))
 have f15 := f6.stp S13 R R
 refine Jg R (Jc2 I57 R R (hvC (f15.ld 0 R R) R)) (Jg R (Jc2 I3 R R (hvC (f15.ld 1 R R) R)) (Ob h fun x41 hx41 h => Jf R (Jf2 g0_0 hx41 U57 Z5 R R R R) (Jg R (Jc2 I5 R R (hvC ((g0_0.stp (S2.tr (S4.tr S13)) R R).gInt hx41) R)) (Jf R (Jh2 U5 U2 R R) (Jn 2 R (Jt1 (Jd (Ja [2, 2, 2, 2, 1, 2, 2, 2, 1] R (Jn 2 R (Jf R (rn_nilCheck R R) (Jf R (Jb2 U116 R Z3 R R) (Jl tv R R R R (Jc2 I3 R R (hvE (f15.ld 1 R R))) (Jn 1 R (Jf R (rn_nilCheck R R) (Jf R (Jb2 U116 R Z3 R R) (Ji1 (κ := κ) 2 (off := 1) (vc := [vi (IntKind.i64.wrap (p0.i + 1))]) (cs' := [.slice aa p0.b.length ab, vi (IntKind.i64.wrap (p0.i + 1)), .int .u64 (IntKind.u64.wrap ((IntKind.u64.wrap (p0.h * 6364136223846793005)) + 1442695040888963407))]) R R R R R R R Z3 R R f15 R R fun w17 S18 f19 => ⟨tv, Jo ?_⟩))))))))))))))))
 cases h
 exact Jw1 _ ⟨κ, R, (S13.tr S18).wk R, f19⟩ (KM R)
 rintro _ w8 ⟨K9, rfl, S10, f11⟩
 have h := hK7
 refine Jp (Je [2, 2, 2, 2] R (Jn 2 R (Ob h fun _z55 hz55 h => Jf R (rn_rem R R R (nz_ok hz55)) (Jb 1 R (Ju (Ja2 (l := [.tmp 4]) V82 (Jp2 R R) R ?_))))))
 cases h
 exact ⟨K9, R, (hE.stp (S2.tr (S4.tr S10)) R R), f11⟩
theorem i_isSig_ok {w : World} {κ : Col} {p0 : Sig}  {r : Bool} (h : i_isSig p0 = some r) : Ret Tryz.prog 69 [.agg #[vi p0.In, vi p0.Out]] w (fun v w' => ∃ (κ' : Col), v = .bool r ∧ Ent κ w κ' w') := by
 unfold i_isSig at h
 refine Ret.enter F69 R N69 R ?_
 dsimp only [envOf]
 have hE := Ent.refl κ w
 refine Je [1, 2] R (Jf1 (κ := κ) 2 R R R R R R R fun b1 w1 K2 S3 f4 => ⟨tv, Jb 1 R (Je [2, 1, 2, 2, 2, 1, 2, 2, 2, 2, 1, 2, 2, 2, 2, 1, 2, 2, 2] R (Jf R (Jb2 U31 R Z2 R R) (Jl tv R R R R (Jc2 I2 R R (hvE (f4.ld 0 R R))) (Jn 2 R (Ob h fun p10 h hK5 => Ju1 [(4, 2), (5, 1), (6, 2), (7, 2)] [(8, 2), (9, 2), (10, 1), (11, 2), (12, 2), (13, 2), (14, 2), (15, 1), (16, 2), (17, 2), (18, 2)] (fun L w' => L = [(1, .pointer (some ⟨b1, 0, none⟩)), (2, .bool false), (10, .bool p10)] ∧ ∃ κ', Stp [] K2 w1 κ' w') tv ?_ ?_)))))⟩)
 revert h
 cases ht6 : decide (1 ≤ p0.In)
 refine JF fun h => Jn 1 R (Jd1 R R R R (Jn 2 R ?_))
 cases h
 exact Jv1 _ tv ⟨R, _, (Jx2 _ _).wk R⟩ (KM R)
 refine JT fun h => Jf R (Jb2 U31 R Z2 R R) (Jl tv R R R R (Jc2 I2 R R (hvE (f4.ld 0 R R))) (Jn 2 R ?_))
 cases h
 exact Jv1 _ tv ⟨R, _, (Jx2 _ _).wk R⟩ (KM R)
 rintro _ w7 _ ⟨rfl, K8, S9⟩
 have h := hK5
 refine Jn 1 R (Ob h fun p15 h hK10 => Ju1 [(9, 2), (10, 1), (11, 2), (12, 2)] [(13, 2), (14, 2), (15, 1), (16, 2), (17, 2), (18, 2)] (fun L w' => L = [(1, .pointer (some ⟨b1, 0, none⟩)), (2, .bool false), (15, .bool p15)] ∧ ∃ κ', Stp [] K8 w7 κ' w') tv ?_ ?_)
 revert h
 cases ht11 : p10
 refine JF fun h => Jn 1 R (Jd1 R R R R (Jn 2 R ?_))
 cases h
 exact Jv1 _ tv ⟨R, _, (Jx2 _ _).wk R⟩ (KM R)
 refine JT fun h => Jf R (Jb2 U31 R Z2 R R) (Jl tv R R R R (Jc2 I2 R R (hvE ((f4.stp S9 R R).ld 1 R R))) (Jn 2 R ?_))
 cases h
 exact Jv1 _ tv ⟨R, _, (Jx2 _ _).wk R⟩ (KM R)
 rintro _ w13 _ ⟨rfl, K14, S15⟩
 have h := hK10
 refine Jn 1 R (Ob h fun p20 h hK16 => Ju1 [(14, 2), (15, 1), (16, 2), (17, 2)] [(18, 2)] (fun L w' => L = [(2, .bool false), (20, .bool p20)] ∧ ∃ κ', Stp [] K14 w13 κ' w') tv ?_ ?_)
 revert h
 cases ht17 : p15
 refine JF fun h => Jn 1 R (Jd1 R R R R (Jn 2 R ?_))
 cases h
 exact Jv1 _ tv ⟨R, _, (Jx2 _ _).wk R⟩ (KM R)
 refine JT fun h => Jf R (Jb2 U31 R Z2 R R) (Jl tv R R R R (Jc2 I2 R R (hvE ((f4.stp (S9.tr S15) R R).ld 1 R R))) (Jn 2 R ?_))
 cases h
 exact Jv1 _ tv ⟨R, _, (Jx2 _ _).wk R⟩ (KM R)
 rintro _ w19 _ ⟨rfl, K20, S21⟩
 have h := hK16
 refine Jb 1 R (Ju (Ja2 (l := [.tmp 2]) V69 (Jp2 R R) R ?_))
 cases h
 exact ⟨K20, R, (hE.stp (S3.tr (S9.tr (S15.tr S21))) R R)⟩
theorem i_inputsOf_ok {w : World} {κ : Col} {p0 : Sig}  {r : Int} (h : i_inputsOf p0 = some r) : Ret Tryz.prog 72 [.agg #[vi p0.In, vi p0.Out]] w (fun v w' => ∃ (κ' : Col), v = vi r ∧ Ent κ w κ' w') := by
 unfold i_inputsOf at h
 refine Ret.enter F72 R N72 R ?_
 dsimp only [envOf]
 have hE := Ent.refl κ w
 refine Je [1, 2] R (Jf1 (κ := κ) 2 R R R R R R R fun b1 w1 K2 S3 f4 => ⟨tv, Jb 1 R (Je [2, 1, 2, 2] R (Jf R (Jb2 U31 R Z2 R R) (Jl tv R R R R (Jc2 I2 R R (hvE (f4.ld 0 R R))) (Ob h fun _z5 hz5 h => Jf R (rn_shl R R R (nn_ok hz5)) (Jb 1 R (Ju (Ja2 (l := [.tmp 2]) V72 (Jp2 R R) R ?_)))))))⟩)
 cases h
 exact ⟨K2, R, (hE.stp S3 R R)⟩
theorem i_areLetters_1_ok {w : World} {κ : Col} {p0 : Int} {c0 : Int} {b1} (gb1 : Bc κ w 0 b1 2 [vi c0]) {r : Bool} (h : i_areLetters_1 p0 c0 = some r) : Ret Tryz.prog 149 [vi p0, .pointer (some ⟨b1, 0, none⟩)] w (fun v w' => ∃ (κ' : Col), v = .bool r ∧ Ent κ w κ' w') := by
 unfold i_areLetters_1 at h
 refine Ret.enter F149 R N149 R ?_
 dsimp only [envOf]
 have hE := Ent.refl κ w
 refine Je [2] R (Jb 1 R (Je [2, 2, 2, 2, 1, 2, 2, 2] R (Jn 3 R (Ob h fun p10 h hK1 => Ju1 [(3, 2), (4, 1), (5, 2), (6, 2)] [(7, 2)] (fun L w' => L = [(1, .pointer (some ⟨b1, 0, none⟩)), (3, .bool false), (10, .bool p10)] ∧ ∃ κ', Stp [] κ w κ' w') tv ?_ ?_))))
 revert h
 cases ht2 : decide (p0 < 0)
 refine JF fun h => Jn 1 R (Jl tv R R R R (Jc2 I2 R R (hvE (gb1.ld 0 R R))) (Jn 2 R ?_))
 cases h
 exact Jv1 _ tv ⟨R, _, (Jx2 _ _).wk R⟩ (KM R)
 refine JT fun h => Jn 1 R (Jd1 R R R R (Jn 2 R ?_))
 cases h
 exact Jv1 _ tv ⟨R, _, (Jx2 _ _).wk R⟩ (KM R)
 rintro _ w3 _ ⟨rfl, K4, S5⟩
 have h := hK1
 refine Jb 1 R (Ju (Ja2 (l := [.tmp 3]) V149 (Jp2 R R) R ?_))
 cases h
 exact ⟨K4, R, (hE.stp S5 R R)⟩
theorem i_hasSecond_ok {w : World} {κ : Col} {p0 : Int}  {r : Bool} (h : i_hasSecond p0 = some r) : Ret Tryz.prog 161 [vi p0] w (fun v w' => ∃ (κ' : Col), v = .bool r ∧ Ent κ w κ' w') := by
 unfold i_hasSecond at h
 refine Ret.enter F161 R N161 R ?_
 dsimp only [envOf]
 have hE := Ent.refl κ w
 refine Je [2] R (Jb 1 R (Je [2, 2, 2, 2, 2, 2, 2, 2, 2, 2, 2] R (Jn 3 R (Ob h fun p8 h hK1 => Ju1 [(3, 2), (4, 2), (5, 2)] [(6, 2), (7, 2), (8, 2), (9, 2), (10, 2)] (fun L w' => L = [(0, vi p0), (2, .bool false), (8, .bool p8)] ∧ ∃ κ', Stp [] κ w κ' w') tv ?_ ?_))))
 revert h
 cases ht2 : (p0 == 2)
 refine JF fun h => Jn 3 R ?_
 cases h
 exact Jv1 _ tv ⟨R, _, (Jx2 _ _).wk R⟩ (KM R)
 refine JT fun h => Jn 3 R ?_
 cases h
 exact Jv1 _ tv ⟨R, _, (Jx2 _ _).wk R⟩ (KM R)
 rintro _ w3 _ ⟨rfl, K4, S5⟩
 have h := hK1
 refine Jn 1 R (Ob h fun p12 h hK6 => Ju1 [(7, 2), (8, 2), (9, 2)] [(10, 2)] (fun L w' => L = [(2, .bool false), (12, .bool p12)] ∧ ∃ κ', Stp [] K4 w3 κ' w') tv ?_ ?_)
 revert h
 cases ht7 : p8
 refine JF fun h => Jn 3 R ?_
 cases h
 exact Jv1 _ tv ⟨R, _, (Jx2 _ _).wk R⟩ (KM R)
 refine JT fun h => Jn 3 R ?_
 cases h
 exact Jv1 _ tv ⟨R, _, (Jx2 _ _).wk R⟩ (KM R)
 rintro _ w8 _ ⟨rfl, K9, S10⟩
 have h := hK6
 refine Jb 1 R (Ju (Ja2 (l := [.tmp 2]) V161 (Jp2 R R) R ?_))
 cases h
 exact ⟨K9, R, (hE.stp (S5.tr S10) R R)⟩
theorem slices_Index_I_int64_ok {w : World} {κ : Col} {a0 u0} {p0 : (List Int)} {p1 : Int} (g0 : Rd (Rp.int .i64) κ w 0 a0 u0 p0) {r : Int} (h : slices_Index_I_int64 p0 p1 = some r) : Ret Tryz.prog 122 [.slice a0 p0.length u0, vi p1] w (fun v w' => ∃ (κ' : Col), v = vi r ∧ Ent κ w κ' w') := by
 unfold slices_Index_I_int64 at h
 refine Ret.enter F122 R N122 R ?_
 dsimp only [envOf]
 have hE := Ent.refl κ w
 refine Je [2] R (Jb 1 R (Jq (Je [2, 2, 2] R (Jn 1 R (Jf R (Je2 U40 R R) (Jb 1 R ?_))))))
 have hN1 : (p0.length : Int) ≤ 9223372036854775807 := g0.len_le
 refine Ob h fun q2 hq3 hK2 => ?_
 clear h
 refine Jx1 (fun L w' => ∃ κ', L = [] ∧ Stp [] κ w κ' w' ∧ q2 = Sum.inr ()) ?_ ?_
 refine Jv (Jy1 (fun k L w' => ∃ κ' v8, L = [(0, .slice a0 p0.length u0), (1, vi p1), (7, vi (p0.length : Int)), (8, vi v8)] ∧ Stp [] κ w κ' w' ∧ 0 ≤ v8 ∧ Int.toNat ((p0.length : Int) - v8) = k ∧ cntM (slices_Index_I_int64_b0 p0 p1) k v8 () = some q2) ⟨_, _, ⟨κ, 0, R, (Jx2 _ _).wk R, (by decide), (by simp), hq3⟩, (KM R)⟩ ?_)
 rintro k _ w7 ⟨K8, v8, rfl, S9, hj1, hJ1, h⟩
 rcases k with _ | k
 have hk10 := h; obtain ⟨o1, h⟩ := ex_eq (Sum.inr (Sum.inl ()) : Int ⊕ ((Unit) ⊕ (Unit)))
 have hc1 : decide (v8 < (p0.length : Int)) = false := Jo2 (by omega)
 refine Je [2] R (Jb 1 R (Jq (Jw2 R hc1 (Jc1 (Jt (Jt ?_))))))
 cases h
 have h := hk10
 refine Jb1 ?_
 cases h
 exact Jw1 _ ⟨K8, R, S9.wk R, R⟩ KN
 obtain ⟨o1, h, hk10⟩ := BI h; unfold slices_Index_I_int64_b0 at h
 have hc1 : decide (v8 < (p0.length : Int)) = true := Jn2 (by omega)
 refine Je [2] R (Jb 1 R (Jq (Jv2 R hc1 (Js (Jp (Jq (Jv (Je [2, 2] R (Jb 2 R (Je [2, 2, 2, 2, 1, 2] R (Jn 3 R (Ob h fun x14 hx14 h => Jf R (Jf2 g0 hx14 U40 Z2 R R R R) (Jl tv R R R R (Jc2 I2 R R (hvE ((g0.stp S9 R R).gInt hx14))) (Jb 1 R ?_))))))))))))))
 revert h
 cases ht12 : (p1 == x14)
 refine JF fun h => Jy R (Js (Jz (Jp (Ja [2, 2] R (Jc 2 R ?_)))))
 have hw1 : IntKind.wrap .i64 (v8 + 1) = v8 + 1 := wr1 hj1 (Jm2 hc1) hN1
 rw [hw1]
 have hc1 := Jm2 hc1
 cases h
 exact Jz1 fun a ha => ⟨k, _, Ja3 _, ⟨K8, v8 + 1, R, S9.wk R, by omega, by omega, hk10⟩, (ha.mm R)⟩
 refine JT fun h => Jx R (Je [2, 2] R (Jb 2 R (Ju (Ja1 (Jw (Jw ?_))))))
 cases h
 obtain rfl := Option.some.inj hk10
 have h := hK2
 dsimp only [aft] at h
 refine Ja1 (Jq2 (Jw (Ja2 (l := [.tmp 4]) V122 (Jp2 R R) R ?_)))
 cases h
 exact ⟨K8, R, (hE.stp S9 R R)⟩
 rintro _ w4 ⟨K5, rfl, S6, rfl⟩
 have h := hK2
 dsimp only [aft] at h
 refine Jp (Je [2] R (Jb 1 R (Ju (Ja2 (l := [.tmp 4]) V122 (Jp2 R R) R ?_))))
 cases h
 exact ⟨K5, R, (hE.stp S6 R R)⟩
theorem slices_Index_2_int64_2_int64_ok {w : World} {κ : Col} {a0 u0} {p0 : (List (Int × Int))} {p1 : (Int × Int)} (g0 : Rd (Rp.pair (Rp.int .i64) (Rp.int .i64)) κ w 0 a0 u0 p0) {r : Int} (h : slices_Index_2_int64_2_int64 p0 p1 = some r) : Ret Tryz.prog 150 [.slice a0 p0.length u0, .agg #[vi p1.1, vi p1.2]] w (fun v w' => ∃ (κ' : Col), v = vi r ∧ Ent κ w κ' w') := by
 unfold slices_Index_2_int64_2_int64 at h
 refine Ret.enter F150 R N150 R ?_
 dsimp only [envOf]
 have hE := Ent.refl κ w
 refine Je [1, 2] R (Jf1 (κ := κ) 2 R R R R R R R fun b3 w1 K2 S3 f4 => ⟨tv, Jb 1 R (Jq (Je [2, 2, 2] R (Jn 1 R (Jf R (Je2 U108 R R) (Jb 1 R ?_)))))⟩)
 have hN5 : (p0.length : Int) ≤ 9223372036854775807 := g0.len_le
 refine Ob h fun q2 hq7 hK6 => ?_
 clear h
 refine Jx1 (fun L w' => ∃ κ', L = [] ∧ Stp [] K2 w1 κ' w' ∧ q2 = Sum.inr ()) ?_ ?_
 refine Jv (Jy1 (fun k L w' => ∃ κ' v8, L = [(0, .slice a0 p0.length u0), (3, .pointer (some ⟨b3, 0, none⟩)), (7, vi (p0.length : Int)), (8, vi v8)] ∧ Stp [] K2 w1 κ' w' ∧ 0 ≤ v8 ∧ Int.toNat ((p0.length : Int) - v8) = k ∧ cntM (slices_Index_2_int64_2_int64_b0 p0 p1) k v8 () = some q2) ⟨_, _, ⟨K2, 0, R, (Jx2 _ _).wk R, (by decide), (by simp), hq7⟩, (KM R)⟩ ?_)
 rintro k _ w11 ⟨K12, v8, rfl, S13, hj5, hJ5, h⟩
 rcases k with _ | k
 have hk14 := h; obtain ⟨o5, h⟩ := ex_eq (Sum.inr (Sum.inl ()) : Int ⊕ ((Unit) ⊕ (Unit)))
 have hc5 : decide (v8 < (p0.length : Int)) = false := Jo2 (by omega)
 refine Je [2] R (Jb 1 R (Jq (Jw2 R hc5 (Jc1 (Jt (Jt ?_))))))
 cases h
 have h := hk14
 refine Jb1 ?_
 cases h
 exact Jw1 _ ⟨K12, R, S13.wk R, R⟩ KN
 obtain ⟨o5, h, hk14⟩ := BI h; unfold slices_Index_2_int64_2_int64_b0 at h
 have hc5 : decide (v8 < (p0.length : Int)) = true := Jn2 (by omega)
 refine Je [2] R (Jb 1 R (Jq (Jv2 R hc5 (Js (Jp (Jq (Jv (Je [2, 2] R (Jb 2 R (Jq (Js1 (κ := K12) [0, 2] none [(1, 2), (2, 2), (3, 2), (0, 0), (4, 0), (5, 2)] [] (by kernel_rfl) (by kernel_rfl) fun w16 S15 => Jn 2 R (Ob h fun x14 hx14 h => Jf R (Jf2 g0 hx14 U108 Z107 R R R R) (Jg R (Jd2 (cs := [vi p1.1, vi p1.2]) I107 Z107 R R R (haC (f4.stp (S13.tr S15) R R).cells R)) ?_)))))))))))))
 obtain ⟨cse19, hre19, hle19⟩ := ((g0.stp (S3.tr (S13.tr S15)) R R)).gSt hx14
 obtain ⟨_, _, rfl, rfl, rfl⟩ := hre19
 refine Jg R (Jd2 (cs := [vi x14.1, vi x14.2]) I107 Z107 R R R (haC hle19 R)) (Jf R (rn_eqlA2 U107 (by kernel_rfl) I2 U2 Z2 R R R) (Jt1 (Jd ?_)))
 revert h
 cases ht20 : ((p1.1 == x14.1) && (p1.2 == x14.2))
 refine JF fun h => Jy R (Js (Jz (Jp (Ja [2, 2] R (Jc 2 R ?_)))))
 have hw5 : IntKind.wrap .i64 (v8 + 1) = v8 + 1 := wr1 hj5 (Jm2 hc5) hN5
 rw [hw5]
 have hc5 := Jm2 hc5
 cases h
 exact Jz1 fun a ha => ⟨k, _, Ja3 _, ⟨K12, v8 + 1, R, (S13.tr S15).wk R, by omega, by omega, hk14⟩, (ha.mm R)⟩
 refine JT fun h => Jx R (Je [2, 2] R (Jb 2 R (Ju (Ja1 (Jw (Jw ?_))))))
 cases h
 obtain rfl := Option.some.inj hk14
 have h := hK6
 dsimp only [aft] at h
 refine Ja1 (Jq2 (Jw (Ja2 (l := [.tmp 4]) V150 (Jp2 R R) R ?_)))
 cases h
 exact ⟨K12, R, (hE.stp (S3.tr (S13.tr S15)) R R)⟩
 rintro _ w8 ⟨K9, rfl, S10, rfl⟩
 have h := hK6
 dsimp only [aft] at h
 refine Jp (Je [2] R (Jb 1 R (Ju (Ja2 (l := [.tmp 4]) V150 (Jp2 R R) R ?_))))
 cases h
 exact ⟨K9, R, (hE.stp (S3.tr S10) R R)⟩
theorem i_loopsIn_2_ok {w : World} {κ : Col} {p0 : Int} {a1 u1} {c0 : (List Int)} {b1} (g1 : Oc E6 2 κ w 2 a1 u1 c0) (gb1 : Bc κ w 3 b1 40 [.slice a1 c0.length u1]) {r : (List Int)} (h : i_loopsIn_2 p0 c0 = some r) : Ret Tryz.prog 153 [vi p0, .pointer (some ⟨b1, 0, none⟩)] w (fun v w' => ∃ (κ' : Col) (ma0 : Option Addr) (mu0 : Nat), v = .tuple #[] ∧ Ent κ w κ' w' ∧ Oc E6 2 κ' w' 2 ma0 mu0 r ∧ Bc κ' w' 3 b1 40 [.slice ma0 r.length mu0]) := by
 unfold i_loopsIn_2 at h
 refine Ret.enter F153 R N153 R ?_
 dsimp only [envOf]
 have hE := Ent.refl κ w
 refine Ja [1, 2, 1, 1, 1] R (Jl tv R R R R (Jc2 I40 R R (hvE (gb1.ld 0 R R))) (Jn 1 R (Jn1 (κ := κ) (E := E6) 4 [] (parts := [(0, .tmp 4)]) (cells := [vi p0]) (xs := ([p0] : List Int)) R R R R R R Y40 Tryzinfo2 R R R R R R R R R R ⟨[vi p0], [], Zl κ w [], Zl κ w [], R, Zl.sp (l1 := []) (l2 := []) R, Zl.sr (l1 := []) (l2 := []), R, R⟩ fun a5 u5 w1 K2 S3 f4 => ⟨tv, Ob h fun x6 hx6 h => Jm1 (κ := K2) (E := E6) 2 [] R R R R R R R R R Y40 Tryzinfo2 R R R R (g1.stp S3 R R) (Sl.srcP (pu_int _) f4.rdc) sy_false hx6 R fun a6 u6 w6 K7 S8 f9 => ⟨tv, Jj1 (κ := K7) 3 (vc := [.slice a6 x6.length u6]) R R R R R R R Z40 R R (gb1.stp (S3.tr S8) R R) R fun w11 S12 f13 => ⟨tv, Jo (DN.end0 V153 ?_)⟩⟩⟩)))
 cases h
 exact ⟨K7, a6, u6, R, (hE.stp (S3.tr (S8.tr S12)) R R), (f9.stp S12 R R), f13⟩
theorem slices_SortFunc_I_I_ok {w : World} {κ : Col} {a0 u0} {p0 : (List (List Int))} (g0 : Oc (Ep.fz (Rp.sl (Rp.int .i64))) 40 κ w 2 a0 u0 p0) {r : (List (List Int))} (h : slices_SortFunc_I_I p0 = some r) : Ret Tryz.prog 155 [.slice a0 p0.length u0, .func (.func 156) #[] #[]] w (fun v w' => ∃ (κ' : Col), v = .tuple #[] ∧ Ent κ w κ' w' ∧ Oc (Ep.fz (Rp.sl (Rp.int .i64))) 40 κ' w' 2 a0 u0 r ∧ p0.length = r.length) := by
  unfold slices_SortFunc_I_I at h
  split at h
  · rename_i hh
    cases h
    exact sortf_ok Tryz.slices_Compare (Tryz.slices_SortFunc_none (α := Nat)) (@fun α _ enc h1 cf hO blk off cap d w hc hh hb hs => Tryz.slices_SortFunc (α := α) enc h1 cf hO 156 #[] blk off cap d w Tryz.call156 hc hh hb hs) g0 hh.1 (fun l hl => by have := List.all_eq_true.1 hh.2 l hl; cases l <;> simp_all)
  · cases h
theorem i_watch_way_ok {w : World} {κ : Col} {al aw ao ap an aq} {p0 : watch} {p1 : Int} {p2 : Int} {a3 u3} {p3 : (List Bool)} {p4 : Bool} {b0} (g0_0 : Rd (Rp.sl (Rp.int .i64)) κ w 0 al aw p0.next) (g0_1 : Rd (Rp.sl (Rp.int .i64)) κ w 0 ao ap p0.letters) (g0_2 : Rd Pair.rp κ w 0 an aq p0.pairs) (g3 : Rd Rp.bool κ w 0 a3 u3 p3) (gb0 : Bc κ w 0 b0 120 [.slice al p0.next.length aw, .slice ao p0.letters.length ap, .slice an p0.pairs.length aq]) {r : (List Int)} (h : i_watch_way p0 p1 p2 p3 p4 = some r) : Ret Tryz.prog 130 [.pointer (some ⟨b0, 0, none⟩), vi p1, vi p2, .slice a3 p3.length u3, .bool p4] w (fun v w' => ∃ (κ' : Col) (ra0 : Option Addr) (ru0 : Nat), v = .slice ra0 r.length ru0 ∧ Ent κ w κ' w' ∧ Oc E6 2 κ' w' 2 ra0 ru0 r) := by
 unfold i_watch_way at h
 refine Ret.enter F130 R N130 R ?_
 dsimp only [envOf]
 have hE := Ent.refl κ w
 refine Je [2] R (Jb 1 R (Jq (Je [2, 2, 2, 2, 2, 2, 2] R (Jn 4 R (Ob h fun p23 h hK1 => Ju1 [(4, 2), (5, 2), (6, 2)] [] (fun L w' => L = [(0, .pointer (some ⟨b0, 0, none⟩)), (1, vi p1), (2, vi p2), (3, .slice a3 p3.length u3), (23, .bool p23)] ∧ ∃ κ', Stp [] κ w κ' w') tv ?_ ?_)))))
 revert h
 cases ht2 : (p1 == p2)
 refine JF fun h => Jn 3 R ?_
 cases h
 exact Jv1 _ tv ⟨R, _, (Jx2 _ _).wk R⟩ (KM R)
 refine JT fun h => Jn 3 R ?_
 cases h
 exact Jv1 _ tv ⟨R, _, (Jx2 _ _).wk R⟩ (KM R)
 rintro _ w3 _ ⟨rfl, K4, S5⟩
 have h := hK1
 refine Jd ?_
 revert h
 cases ht6 : p23
 refine JF fun h => Jy R (Js (Jp (Je [2, 2, 2, 1, 2, 1, 2] R (Jn 1 R (Jf R (rn_nilCheck R R) (Jf R (Jb2 U120 R Z24 R R) ?_))))))
 have f8 := gb0.stp S5 R R
 refine Jl tv R R R R (Jc2 I24 R R (hvE (f8.ld 0 R R))) (Jf R (Je2 U24 R R) (Ob h fun x29 hx29 h => Jl1 (κ := K4) (E := Ep.bool) (z := (false : Bool)) 2 R R R R R R R Y135 Tryzinfo4 R R R R R (fun _ _ _ => R) (Ju2 hx29) fun ad ac w9 K10 S11 f12 => ⟨tv, Jb 1 R (Je [2, 2, 2, 2, 2, 2, 1] R (Jn 5 R (Ob h fun x35 hx35 h => Jf R (Jf2 f12.rdc hx35 U135 Z4 R R R R) (Ob h fun y132 hy132 h => Jk1 (κ := K10) (E := Ep.bool) 2 [] R R R R R R R R Z4 R R R R f12 hy132 fun w13 K14 S15 f16 => ⟨tv, ?_⟩))))⟩))
 have hn17 : x29.length = y132.length := (Jt2 hy132).2.2.2.symm
 refine Jd (Je [2, 2, 2, 1, 2, 1, 2] R (Jn 1 R (Jf R (rn_nilCheck R R) (Jf R (Jb2 U120 R Z24 R R) ?_))))
 have f18 := f8.stp (S11.tr S15) R R
 refine Jl tv R R R R (Jc2 I24 R R (hvE (f18.ld 0 R R))) (Jf R (Je2 U24 R R) (Ob h fun x41 hx41 h => Jl1 (κ := K14) (E := (Ep.own E6 2)) (z := (([] : List Int) : (List Int))) 3 R R R R R R R Y24 Tryzinfo40 R R R R R (fun _ _ _ => ⟨none, 0, R, Ow.nil⟩) (Ju2 hx41) fun aa ab w19 K20 S21 f22 => ⟨tv, Jb 1 R (Je [2, 1, 2] R (Jn 1 R (Jn1 (κ := K20) (E := E6) 4 [] (parts := [(0, .tmp 42)]) (cells := [vi p1]) (xs := ([p1] : List Int)) R R R R R R Y40 Tryzinfo2 R R R R R R R R R R ⟨[vi p1], [], Zl K20 w19 [], Zl K20 w19 [], R, Zl.sp (l1 := []) (l2 := []) R, Zl.sr (l1 := []) (l2 := []), R, R⟩ fun aB aE w23 K24 S25 f26 => ⟨tv, Jb 1 R (Jq (Ob h fun q2 hq29 hK28 => ?_))⟩)))⟩))
 clear h
 refine Jx1 (fun L w' => ∃ κ', ∃ s3 : (List Int) × (List Bool) × (List (List Int)), ∃ ar az, L = [(0, .pointer (some ⟨b0, 0, none⟩))] ∧ Stp [2, 3, 4, 5, 6] K24 w23 κ' w' ∧ Oc E6 2 κ' w' 4 ar az s3.1 ∧ Oc Ep.bool 4 κ' w' 2 ad ac s3.2.1 ∧ x29.length = s3.2.1.length ∧ Oc (Ep.own E6 2) 40 κ' w' 3 aa ab s3.2.2 ∧ x41.length = s3.2.2.length ∧ q2 = Sum.inr s3) ?_ ?_
 refine Jv (Jy1 (fun k L w' => ∃ κ', ∃ s1 : (List Int) × (List Bool) × (List (List Int)), ∃ ai ah, L = [(0, .pointer (some ⟨b0, 0, none⟩)), (2, vi p2), (3, .slice a3 p3.length u3), (11, .slice ad x29.length ac), (12, .slice aa x41.length ab), (13, .slice ai s1.1.length ah)] ∧ Stp [2, 3, 4, 5, 6] K24 w23 κ' w' ∧ Oc E6 2 κ' w' 4 ai ah s1.1 ∧ Oc Ep.bool 4 κ' w' 2 ad ac s1.2.1 ∧ x29.length = s1.2.1.length ∧ Oc (Ep.own E6 2) 40 κ' w' 3 aa ab s1.2.2 ∧ x41.length = s1.2.2.length ∧ whileM (i_watch_way_b0 p0 p2 p3) k s1 = some q2) ⟨_, _, ⟨K24, ((([p1] : List Int) : (List Int)), (y132 : (List Bool)), (x41 : (List (List Int)))), aB, aE, R, (Jx2 _ _).wk R, f26, (f16.stp (S21.tr S25) R R), hn17, (f22.stp S25 R R), R, hq29⟩, (KM R)⟩ ?_)
 rintro k _ w38 ⟨K39, s1, ai, ah, rfl, S40, f41, f42, hn43, f44, hn45, h⟩
 rcases k with _ | k
 cases h
 obtain ⟨o27, h, hk48⟩ := BI h; unfold i_watch_way_b0 at h
 refine Jq (Je [2, 2, 2] R (Jn 1 R (Jf R (Je2 U40 R R) (Jb 1 R ?_))))
 revert h
 cases ht49 : decide (0 < (s1.1.length : Int))
 refine JF fun h => Jy R (Jc1 (Jt (Jt ?_)))
 cases h
 have h := hk48
 refine Jb1 ?_
 cases h
 exact Jw1 _ ⟨K39, ((s1.1 : (List Int)), (s1.2.1 : (List Bool)), (s1.2.2 : (List (List Int)))), ai, ah, R, S40.wk R, f41, f42, hn43, f44, hn45, R⟩ (KM R)
 refine JT fun h => Jx R (Js (Jp (Jv (Je [2, 2, 1, 2] R (Jn 1 R (Ob h fun x48 hx48 h => Jf R (Jf2 f41.rdc hx48 U40 Z2 R R R R) (Jl tv R R R R (Jc2 I2 R R (hvE (f41.rdc.gInt hx48))) (Jb 1 R (Je [2, 2, 2] R (Jn 1 R (Ob h fun x51 hx51 h => Jf R (rn_slice (k1 := .i64) (k2 := .i64) U40 Z2 (.inr ⟨_, R, R⟩) (.inl ⟨R, R⟩) hx51 f41.rdc.1 R R R) (Jb 1 R (Je [2, 2, 2, 1, 2, 2, 1, 2, 2] R (Jn 1 R (Jf R (rn_nilCheck R R) (Jf R (Jb2 U120 R Z24 R R) ?_))))))))))))))))
 have f51 := f18.stp (S21.tr (S25.tr S40)) R R
 refine Jl tv R R R R (Jc2 I24 R R (hvE (f51.ld 0 R R))) (Jn 1 R (Ob h fun x57 hx57 h => Jf R (Jf2 g0_0 hx57 U24 Z40 R R R R) ?_))
 obtain ⟨ax57, ux57, f53, hl54⟩ := (g0_0.stp (S5.tr (S11.tr (S15.tr (S21.tr (S25.tr S40))))) R R).gSl hx57
 refine Jl tv R R R R (Jc2 I40 R R (hvE hl54)) (Jf R (Je2 U40 R R) (Jb 1 R ?_))
 have hN55 : (x57.length : Int) ≤ 9223372036854775807 := f53.len_le
 refine Ob h fun q5 hq57 hK56 => ?_
 clear h
 refine Jx1 (fun L w' => ∃ κ', ∃ s6 : (List Int) × (List Bool) × (List (List Int)), ∃ aj ak, L = [(0, .pointer (some ⟨b0, 0, none⟩)), (2, vi p2), (3, .slice a3 p3.length u3), (11, .slice ad x29.length ac), (12, .slice aa x41.length ab), (13, .slice aj s6.1.length ak)] ∧ Stp [2, 3, 4, 5, 6] K39 w38 κ' w' ∧ Oc E6 2 κ' w' 4 aj ak s6.1 ∧ Oc Ep.bool 4 κ' w' 2 ad ac s6.2.1 ∧ x29.length = s6.2.1.length ∧ Oc (Ep.own E6 2) 40 κ' w' 3 aa ab s6.2.2 ∧ x41.length = s6.2.2.length ∧ q5 = Sum.inr s6) ?_ ?_
 refine Jv (Jy1 (fun k L w' => ∃ κ' v60, ∃ s4 : (List Int) × (List Bool) × (List (List Int)), ∃ ae af, L = [(0, .pointer (some ⟨b0, 0, none⟩)), (2, vi p2), (3, .slice a3 p3.length u3), (11, .slice ad x29.length ac), (12, .slice aa x41.length ab), (13, .slice ae s4.1.length af), (14, vi x48), (58, .slice ax57 x57.length ux57), (59, vi (x57.length : Int)), (60, vi v60)] ∧ Stp [2, 3, 4, 5, 6] K39 w38 κ' w' ∧ Oc E6 2 κ' w' 4 ae af s4.1 ∧ Oc Ep.bool 4 κ' w' 2 ad ac s4.2.1 ∧ x29.length = s4.2.1.length ∧ Oc (Ep.own E6 2) 40 κ' w' 3 aa ab s4.2.2 ∧ x41.length = s4.2.2.length ∧ 0 ≤ v60 ∧ Int.toNat ((x57.length : Int) - v60) = k ∧ cntM (i_watch_way_b2 p0 p2 p3 x48 x57) k v60 s4 = some q5) ⟨_, _, ⟨K39, 0, ((x51 : (List Int)), (s1.2.1 : (List Bool)), (s1.2.2 : (List (List Int)))), (subA ai ah (1 : Int).toNat 1), (ah - (1 : Int).toNat), R, (Jx2 _ _).wk R, (f41.sub hx51), f42, hn43, f44, hn45, (by decide), (by simp), hq57⟩, (KM R)⟩ ?_)
 rintro k _ w66 ⟨K67, v60, s4, ae, af, rfl, S68, f69, f70, hn71, f72, hn73, hj55, hJ55, h⟩
 rcases k with _ | k
 have hk74 := h; obtain ⟨o55, h⟩ := ex_eq (Sum.inr (Sum.inl s4) : (List Int) ⊕ (((List Int) × (List Bool) × (List (List Int))) ⊕ ((List Int) × (List Bool) × (List (List Int)))))
 have hc55 : decide (v60 < (x57.length : Int)) = false := Jo2 (by omega)
 refine Je [2] R (Jb 1 R (Jq (Jw2 R hc55 (Jc1 (Jt (Jt ?_))))))
 cases h
 have h := hk74
 refine Jb1 ?_
 cases h
 exact Jw1 _ ⟨K67, ((s4.1 : (List Int)), (s4.2.1 : (List Bool)), (s4.2.2 : (List (List Int)))), ae, af, R, S68.wk R, f69, f70, hn71, f72, hn73, R⟩ (KM R)
 obtain ⟨o55, h, hk74⟩ := BI h; unfold i_watch_way_b2 at h
 have hc55 : decide (v60 < (x57.length : Int)) = true := Jn2 (by omega)
 refine Je [2] R (Jb 1 R (Jq (Jv2 R hc55 (Js (Jp (Jq (Jv (Je [2, 2, 1, 2, 2] R (Jn 1 R (Ob h fun x63 hx63 h => Jf R (Jf2 f53 hx63 U40 Z2 R R R R) (Jl tv R R R R (Jc2 I2 R R (hvE ((f53.stp S68 R R).gInt hx63))) (Jb 2 R (Jq (Je [2, 2, 2, 1, 2, 2, 2, 2, 2, 1, 2] R (Jn 2 R (Ob h fun x67 hx67 h => Jf R (Jf2 g3 hx67 U135 Z4 R R R R) (Jl tv R R R R (Jc2 I4 R R (hvE ((g3.stp (S5.tr (S11.tr (S15.tr (S21.tr (S25.tr (S40.tr S68)))))) R R).gBool hx67))) (Jn 2 R (Ob h fun p75 h hK77 => Ju1 [(6, 2), (7, 2), (8, 2), (9, 1), (10, 2)] [] (fun L w' => L = [(0, .pointer (some ⟨b0, 0, none⟩)), (2, vi p2), (3, .slice a3 p3.length u3), (11, .slice ad x29.length ac), (12, .slice aa x41.length ab), (13, .slice ae s4.1.length af), (14, vi x48), (15, vi v60), (16, vi x63), (58, .slice ax57 x57.length ux57), (59, vi (x57.length : Int)), (60, vi v60), (75, .bool p75)] ∧ ∃ κ', Stp [] K67 w66 κ' w') tv ?_ ?_)))))))))))))))))))
 revert h
 cases ht78 : (!x67)
 refine JF fun h => Jn 2 R (Ob h fun x73 hx73 h => Jf R (Jf2 f70.rdc hx73 U135 Z4 R R hn71 R) (Jl tv R R R R (Jc2 I4 R R (hvE (f70.rdc.gBool hx73))) (Jn 1 R ?_)))
 cases h
 exact Jv1 _ tv ⟨R, _, (Jx2 _ _).wk R⟩ (KM R)
 refine JT fun h => Jn 3 R (Jd1 R R R R (Jn 1 R ?_))
 cases h
 exact Jv1 _ tv ⟨R, _, (Jx2 _ _).wk R⟩ (KM R)
 rintro _ w79 _ ⟨rfl, K80, S81⟩
 have h := hK77
 refine Jd ?_
 revert h
 cases ht82 : p75
 refine JF fun h => Jy R (Js (Jp (Je [2, 2, 2, 1] R (Jn 2 R (Ob h fun x78 hx78 h => Jf R (Jf2 f70.rdc hx78 U135 Z4 R R hn71 R) (Ob h fun y135 hy135 h => Jk1 (κ := K80) (E := Ep.bool) 2 [] R R R R R R R R Z4 R R R R (f70.stp S81 R R) hy135 fun w87 K88 S89 f90 => ⟨tv, ?_⟩))))))
 have hn91 : x29.length = y135.length := hn71.trans (Jt2 hy135).2.2.2.symm
 refine Jd (Jq (Ob h fun x84 hx84 h => Ob h fun x92 hx92 h => Ob h fun x95 hx95 h => Ob h fun x86 hx86 h => Ob h fun x98 hx98 h => Ob h fun x99 hx99 h => Ob h fun y138 hy138 h => Jx1 (fun L w' => ∃ κ', L = [(0, .pointer (some ⟨b0, 0, none⟩)), (2, vi p2), (3, .slice a3 p3.length u3), (11, .slice ad x29.length ac), (12, .slice aa x41.length ab), (13, .slice ae s4.1.length af), (14, vi x48), (16, vi x63), (58, .slice ax57 x57.length ux57), (59, vi (x57.length : Int)), (60, vi v60)] ∧ Stp [3, 5, 6] K88 w87 κ' w' ∧ Oc (Ep.own E6 2) 40 κ' w' 3 aa ab y138 ∧ x41.length = y138.length) ?_ ?_))
 refine WC.rxt (κ := K88) [0, 3] (some 21) (by kernel_rfl) fun w98 S99 => Jq1 (fuel := 6) [(0, 2), (1, 2), (3, 2), (4, 2), (5, 2), (8, 2), (9, 2), (10, 2), (12, 2), (15, 2), (6, 0), (11, 0), (13, 2), (14, 0), (16, 2), (17, 0)] (by kernel_rfl) (by kernel_rfl) R (Jn 4 R (Jf R (Jf2 f72.rdc hx84 U24 Z40 R R hn73 R) (Jn 1 R (Jf R (rn_nilCheck R R) (Jf R (Jb2 U120 R Z24 R R) (Jn 2 R ?_))))))
 have f100 := f72.stp (S81.tr (S89.tr S99)) R R
 obtain ⟨ax84, ux84, f101, hl102⟩ := f100.rdc.gSl hx84
 refine Jg R (Jc2 I40 R R (hvC hl102 R)) (Jg R (Jc2 I24 R R (hvC ((f51.stp (S68.tr (S81.tr (S89.tr S99))) R R).ld 1 R R) R)) (Jf R (Jf2 g0_1 hx92 U24 Z40 R R R R) ?_))
 obtain ⟨ax92, ux92, f105, hl106⟩ := (g0_1.stp (S5.tr (S11.tr (S15.tr (S21.tr (S25.tr (S40.tr (S68.tr (S81.tr (S89.tr S99))))))))) R R).gSl hx92
 refine Jg R (Jc2 I40 R R (hvC hl106 R)) (Jf R (Jf2 f105 hx95 U40 Z2 R R R R) (Jg R (Jc2 I2 R R (hvC (f105.gInt hx95) R)) (Jp1 (WA.fork2 (fuel := 5) 2 18 (by kernel_rfl) R ?_ ?_))))
 refine Jo1 (κ := K88) (E := E6) 5 R R R R R Y40 Tryzinfo2 R fun aD aC w107 K108 S109 f110 => ⟨(S109.cl R), Jp1 (WA.fork2 (fuel := 4) 7 18 (by kernel_rfl) R ?_ ?_)⟩
 refine Jm1 (κ := K108) (E := E6) 5 [] R R R R R R R R R Y40 Tryzinfo2 R R R R f110 (Sl.srcP (pu_int _) (f101.stp S109 R R)) sy_false hx86 R fun ax aA w112 K113 S114 f115 => ⟨((S109.tr S114).cl R), Jp1 (Jq1 (fuel := 1) [(18, 1), (19, 1), (20, 2)] (by kernel_rfl) (by kernel_rfl) R (Jn1 (κ := K113) (E := E6) 6 [] (parts := [(0, .tmp 96)]) (cells := [vi x95]) (xs := ([x95] : List Int)) R R R R R R Y40 Tryzinfo2 R R R R R R R R R R ⟨[vi x95], [], Zl K113 w112 [], Zl K113 w112 [], R, Zl.sp (l1 := []) (l2 := []) R, Zl.sr (l1 := []) (l2 := []), R, R⟩ fun av ay w116 K117 S118 f119 => ⟨((S109.tr (S114.tr S118)).cl R), Jm1 (κ := K117) (E := E6) 5 [] R R R R R R R R R Y40 Tryzinfo2 R R R R (f115.stp S118 R R) (Sl.srcP (pu_int _) f119.rdc) sy_false hx98 R fun au am w121 K122 S123 f124 => ⟨((S109.tr (S114.tr (S118.tr S123))).cl R), Jf R (Jf2 f100.rdc hx99 U24 Z40 R R hn73 R) (Jp1 (WA.brk (fuel := 0) 21 (by kernel_rfl) R (by kernel_rfl) (Jk1 (κ := K122) (E := (Ep.own E6 2)) 3 [5] R R R R R R R R Z40 R ⟨_, _, R, f124⟩ R R (f100.stp (S109.tr (S114.tr (S118.tr S123))) R R) hy138 fun w126 K127 S128 f129 => ⟨tv, ?_⟩)))⟩⟩))⟩
 have hn130 : x41.length = y138.length := hn73.trans (Jt2 hy138).2.2.2.symm
 exact Jp1 (Jr1 [] (by kernel_rfl) (by kernel_rfl) R (Jo (Jw1 _ ⟨K127, R, (S99.tr (S109.tr (S114.tr (S118.tr (S123.tr S128))))).wk R, f129, hn130⟩ (KM R))))
 refine Jn1 (κ := K108) (E := E6) 6 [] (parts := [(0, .tmp 96)]) (cells := [vi x95]) (xs := ([x95] : List Int)) R R R R R R Y40 Tryzinfo2 R R R R R R R R R R ⟨[vi x95], [], Zl K108 w107 [], Zl K108 w107 [], R, Zl.sp (l1 := []) (l2 := []) R, Zl.sr (l1 := []) (l2 := []), R, R⟩ fun av ay w131 K132 S133 f134 => ⟨((S109.tr S133).cl R), Jp1 (Jq1 (fuel := 1) [(7, 1), (19, 1), (20, 2)] (by kernel_rfl) (by kernel_rfl) R (Jm1 (κ := K132) (E := E6) 5 [] R R R R R R R R R Y40 Tryzinfo2 R R R R (f110.stp S133 R R) (Sl.srcP (pu_int _) (f101.stp (S109.tr S133) R R)) sy_false hx86 R fun ax aA w137 K138 S139 f140 => ⟨((S109.tr (S133.tr S139)).cl R), Jm1 (κ := K138) (E := E6) 5 [] R R R R R R R R R Y40 Tryzinfo2 R R R R f140 (Sl.srcP (pu_int _) (f134.stp S139 R R).rdc) sy_false hx98 R fun au am w142 K143 S144 f145 => ⟨((S109.tr (S133.tr (S139.tr S144))).cl R), Jf R (Jf2 f100.rdc hx99 U24 Z40 R R hn73 R) (Jp1 (WA.brk (fuel := 0) 21 (by kernel_rfl) R (by kernel_rfl) (Jk1 (κ := K143) (E := (Ep.own E6 2)) 3 [5] R R R R R R R R Z40 R ⟨_, _, R, f145⟩ R R (f100.stp (S109.tr (S133.tr (S139.tr S144))) R R) hy138 fun w147 K148 S149 f150 => ⟨tv, ?_⟩)))⟩⟩))⟩
 have hn151 : x41.length = y138.length := hn73.trans (Jt2 hy138).2.2.2.symm
 exact Jp1 (Jr1 [] (by kernel_rfl) (by kernel_rfl) R (Jo (Jw1 _ ⟨K148, R, (S99.tr (S109.tr (S133.tr (S139.tr (S144.tr S149))))).wk R, f150, hn151⟩ (KM R))))
 refine Jn1 (κ := K88) (E := E6) 5 [] (parts := [(0, .tmp 96)]) (cells := [vi x95]) (xs := ([x95] : List Int)) R R R R R R Y40 Tryzinfo2 R R R R R R R R R R ⟨[vi x95], [], Zl K88 w98 [], Zl K88 w98 [], R, Zl.sp (l1 := []) (l2 := []) R, Zl.sr (l1 := []) (l2 := []), R, R⟩ fun av ay w152 K153 S154 f155 => ⟨(S154.cl R), Jp1 (Jq1 (fuel := 1) [(2, 1), (7, 1), (19, 1), (20, 2)] (by kernel_rfl) (by kernel_rfl) R (Jo1 (κ := K153) (E := E6) 6 R R R R R Y40 Tryzinfo2 R fun aD aC w156 K157 S158 f159 => ⟨((S154.tr S158).cl R), Jm1 (κ := K157) (E := E6) 6 [] R R R R R R R R R Y40 Tryzinfo2 R R R R f159 (Sl.srcP (pu_int _) (f101.stp (S154.tr S158) R R)) sy_false hx86 R fun ax aA w161 K162 S163 f164 => ⟨((S154.tr (S158.tr S163)).cl R), Jm1 (κ := K162) (E := E6) 6 [] R R R R R R R R R Y40 Tryzinfo2 R R R R f164 (Sl.srcP (pu_int _) (f155.stp (S158.tr S163) R R).rdc) sy_false hx98 R fun au am w166 K167 S168 f169 => ⟨((S154.tr (S158.tr (S163.tr S168))).cl R), Jf R (Jf2 f100.rdc hx99 U24 Z40 R R hn73 R) (Jp1 (WA.brk (fuel := 0) 21 (by kernel_rfl) R (by kernel_rfl) (Jk1 (κ := K167) (E := (Ep.own E6 2)) 3 [6] R R R R R R R R Z40 R ⟨_, _, R, f169⟩ R R (f100.stp (S154.tr (S158.tr (S163.tr S168))) R R) hy138 fun w171 K172 S173 f174 => ⟨tv, ?_⟩)))⟩⟩⟩))⟩
 have hn175 : x41.length = y138.length := hn73.trans (Jt2 hy138).2.2.2.symm
 exact Jp1 (Jr1 [] (by kernel_rfl) (by kernel_rfl) R (Jo (Jw1 _ ⟨K172, R, (S99.tr (S154.tr (S158.tr (S163.tr (S168.tr S173))))).wk R, f174, hn175⟩ (KM R))))
 rintro _ w92 ⟨K93, rfl, S94, f96, hn97⟩
 refine Jp (Jq (Je [2, 2, 2] R (Jb 3 R ?_)))
 revert h
 cases ht176 : (x63 == p2)
 refine JF fun h => Jy R (Js (Jp (Ja [2, 2, 1, 1, 2] R (Jn 2 R (Jn1 (κ := K93) (E := E6) 5 [] (parts := [(0, .tmp 108)]) (cells := [vi x63]) (xs := ([x63] : List Int)) R R R R R R Y40 Tryzinfo2 R R R R R R R R R R ⟨[vi x63], [], Zl K93 w92 [], Zl K93 w92 [], R, Zl.sp (l1 := []) (l2 := []) R, Zl.sr (l1 := []) (l2 := []), R, R⟩ fun aH aI w184 K185 S186 f187 => ⟨tv, Ob h fun x110 hx110 h => Jm1 (κ := K185) (E := E6) 4 [] R R R R R R R R R Y40 Tryzinfo2 R R R R (f69.stp (S81.tr (S89.tr (S94.tr S186))) R R) (Sl.srcP (pu_int _) f187.rdc) sy_false hx110 R fun aF aG w189 K190 S191 f192 => ⟨tv, Jc 1 R (Jz (Jp (Ja [2, 2] R (Jc 2 R ?_))))⟩⟩)))))
 have hw55 : IntKind.wrap .i64 (v60 + 1) = v60 + 1 := wr1 hj55 (Jm2 hc55) hN55
 rw [hw55]
 have hc55 := Jm2 hc55
 cases h
 exact Jz1 fun a ha => ⟨k, _, Ja3 _, ⟨K190, v60 + 1, ((x110 : (List Int)), (y135 : (List Bool)), (y138 : (List (List Int)))), aF, aG, R, (S68.tr (S81.tr (S89.tr (S94.tr (S186.tr S191))))).wk R, f192, (f90.stp (S94.tr (S186.tr S191)) R R), hn91, (f96.stp (S186.tr S191) R R), hn97, by omega, by omega, hk74⟩, (ha.mm R)⟩
 refine JT fun h => Jx R (Je [2, 2, 2, 1, 2] R (Jn 2 R (Ob h fun x105 hx105 h => Jf R (Jf2 f96.rdc hx105 U24 Z40 R R hn97 R) ?_)))
 obtain ⟨ax105, ux105, f177, hl178⟩ := f96.rdc.gSl hx105
 refine Jl tv R R R R (Jc2 I40 R R (hvE hl178)) (Jb 1 R (Ju (Jw (Ja1 (Jw (Jw ?_))))))
 cases h
 obtain rfl := Option.some.inj hk74
 have h := hK56
 dsimp only [aft] at h
 refine Ja1 (Jq2 (Ja1 (Jw ?_)))
 cases h
 obtain rfl := Option.some.inj hk48
 have h := hK28
 dsimp only [aft] at h
 refine Ja1 (Jq2 (Jw ?_))
 obtain ⟨K179, S180, f181, f182⟩ := f96.borrow hx105 (hl178 _ (Ag.refl _ _ _)) 5 R R
 refine Ja2 (l := [.tmp 10]) V130 (Jp2 R R) R ?_
 cases h
 exact ⟨(fun b => ren [(5, 2)] (K179 b)), ax105, ux105, R, ((hE.stp (S5.tr (S11.tr (S15.tr (S21.tr (S25.tr (S40.tr (S68.tr (S81.tr (S89.tr (S94.tr S180)))))))))) R R).map (ren [(5, 2)]) R R), (f181.map (ren [(5, 2)]) R R)⟩
 refine JT fun h => Jx R (Jc1 (Jt (Jb1 (Jp (Ja [2, 2] R (Jc 2 R ?_))))))
 have hw55 : IntKind.wrap .i64 (v60 + 1) = v60 + 1 := wr1 hj55 (Jm2 hc55) hN55
 rw [hw55]
 have hc55 := Jm2 hc55
 cases h
 exact Jz1 fun a ha => ⟨k, _, Ja3 _, ⟨K80, v60 + 1, ((s4.1 : (List Int)), (s4.2.1 : (List Bool)), (s4.2.2 : (List (List Int)))), ae, af, R, (S68.tr S81).wk R, (f69.stp S81 R R), (f70.stp S81 R R), hn71, (f72.stp S81 R R), hn73, by omega, by omega, hk74⟩, (ha.mm R)⟩
 rintro _ w58 ⟨K59, s6, aj, ak, rfl, S60, f61, f62, hn63, f64, hn65, rfl⟩
 have h := hK56
 dsimp only [aft] at h
 refine Jz ?_
 cases h
 exact Jz1 fun a ha => ⟨k, _, Ja3 _, ⟨K59, ((s6.1 : (List Int)), (s6.2.1 : (List Bool)), (s6.2.2 : (List (List Int)))), aj, ak, R, (S40.tr S60).wk R, f61, f62, hn63, f64, hn65, hk48⟩, (ha.mm R)⟩
 rintro _ w30 ⟨K31, s3, ar, az, rfl, S32, f33, f34, hn35, f36, hn37, rfl⟩
 have h := hK28
 dsimp only [aft] at h
 refine Jp (Je [2] R (Jb 1 R (Ju (Ja2 (l := [.tmp 10]) V130 (Jp2 R R) R ?_))))
 cases h
 exact ⟨K31, none, 0, R, (hE.stp (S5.tr (S11.tr (S15.tr (S21.tr (S25.tr S32))))) R R), Ow.nil⟩
 refine JT fun h => Jx R (Je [2] R (Jb 1 R (Ju (Jw (Ja2 (l := [.tmp 10]) V130 (Jp2 R R) R ?_)))))
 cases h
 exact ⟨K4, none, 0, R, (hE.stp S5 R R), Ow.nil⟩
theorem s_l25States_ok {w : World} {κ : Col} {p0 : Int}  {r : Int} (h : s_l25States p0 = some r) : Ret Tryz.prog 141 [vi p0] w (fun v w' => ∃ (κ' : Col), v = vi r ∧ Ent κ w κ' w') := by
 unfold s_l25States at h
 refine Ret.enter F141 R N141 R ?_
 dsimp only [envOf]
 have hE := Ent.refl κ w
 refine Je [2] R (Jb 1 R (Jq (Je [2] R (Jb 1 R (Jv (Je [2, 2] R (Jb 2 R ?_)))))))
 revert h
 cases ht1 : (p0 == 2)
 refine JF fun h => Jy R (Je [2, 2] R (Jb 2 R ?_))
 revert h
 cases ht2 : (p0 == 7)
 refine JF fun h => Jy R (Js (Jz (Jp (Je [2] R (Jb 1 R (Ju (Ja2 (l := [.tmp 2]) V141 (Jp2 R R) R ?_)))))))
 cases h
 exact ⟨κ, R, hE⟩
 refine JT fun h => Jx R (Je [2] R (Jb 1 R (Ju (Ja1 (Jw (Ja2 (l := [.tmp 2]) V141 (Jp2 R R) R ?_))))))
 cases h
 exact ⟨κ, R, hE⟩
 refine JT fun h => Jx R (Je [2] R (Jb 1 R (Ju (Ja1 (Jw (Ja2 (l := [.tmp 2]) V141 (Jp2 R R) R ?_))))))
 cases h
 exact ⟨κ, R, hE⟩
theorem s_l1Flag_ok {w : World} {κ : Col} {p0 : Bool}  {r : Int} (h : s_l1Flag p0 = some r) : Ret Tryz.prog 167 [.bool p0] w (fun v w' => ∃ (κ' : Col), v = vi r ∧ Ent κ w κ' w') := by
 unfold s_l1Flag at h
 refine Ret.enter F167 R N167 R ?_
 dsimp only [envOf]
 have hE := Ent.refl κ w
 refine Je [2] R (Jb 1 R (Jq (Je [2] R (Jb 1 R ?_))))
 revert h
 cases ht1 : p0
 refine JF fun h => Jy R (Js (Jp (Je [2] R (Jb 1 R (Ju (Ja2 (l := [.tmp 2]) V167 (Jp2 R R) R ?_))))))
 cases h
 exact ⟨κ, R, hE⟩
 refine JT fun h => Jx R (Je [2] R (Jb 1 R (Ju (Jw (Ja2 (l := [.tmp 2]) V167 (Jp2 R R) R ?_)))))
 cases h
 exact ⟨κ, R, hE⟩
theorem s_l1Max_ok {w : World} {κ : Col} {p0 : Int} {p1 : Int}  {r : Int} (h : s_l1Max p0 p1 = some r) : Ret Tryz.prog 95 [vi p0, vi p1] w (fun v w' => ∃ (κ' : Col), v = vi r ∧ Ent κ w κ' w') := by
 unfold s_l1Max at h
 refine Ret.enter F95 R N95 R ?_
 dsimp only [envOf]
 have hE := Ent.refl κ w
 refine Je [2] R (Jb 1 R (Jq (Je [2, 2, 2] R (Jb 3 R ?_))))
 revert h
 cases ht1 : decide (p1 < p0)
 refine JF fun h => Jy R (Js (Jp (Je [2, 2] R (Jb 2 R (Ju (Ja2 (l := [.tmp 4]) V95 (Jp2 R R) R ?_))))))
 cases h
 exact ⟨κ, R, hE⟩
 refine JT fun h => Jx R (Je [2, 2] R (Jb 2 R (Ju (Jw (Ja2 (l := [.tmp 4]) V95 (Jp2 R R) R ?_)))))
 cases h
 exact ⟨κ, R, hE⟩
theorem s_l30Find_ok {w : World} {κ : Col} {aj ak af ah aa ad ab ac} {p0 : l30Graph} {p1 : Int} {p2 : Int} {b0} (g0_0 : Oc E6 2 κ w 2 aj ak p0.of) (g0_1 : Oc E6 2 κ w 3 af ah p0.by0) (g0_2 : Rd (Rp.sl (Rp.int .i64)) κ w 0 aa ad p0.next) (g0_3 : Rd (Rp.sl (Rp.int .i64)) κ w 0 ab ac p0.letters) (gb0 : Bc κ w 4 b0 158 [.slice aj p0.of.length ak, .slice af p0.by0.length ah, .slice aa p0.next.length ad, .slice ab p0.letters.length ac]) {r : Int × (List Int) × (List Int)} (h : s_l30Find p0 p1 p2 = some r) : Ret Tryz.prog 164 [.pointer (some ⟨b0, 0, none⟩), vi p1, vi p2] w (fun v w' => ∃ (κ' : Col) (ma0 : Option Addr) (mu0 : Nat) (ma1 : Option Addr) (mu1 : Nat), v = vi r.1 ∧ Ent κ w κ' w' ∧ Oc E6 2 κ' w' 2 ma0 mu0 r.2.1 ∧ Oc E6 2 κ' w' 3 ma1 mu1 r.2.2 ∧ Bc κ' w' 4 b0 158 [.slice ma0 r.2.1.length mu0, .slice ma1 r.2.2.length mu1, .slice aa p0.next.length ad, .slice ab p0.letters.length ac]) := by
 unfold s_l30Find at h
 refine Ret.enter F164 R N164 R ?_
 dsimp only [envOf]
 have hE := Ent.refl κ w
 refine Je [2] R (Jb 1 R (Jq (Je [2] R (Jb 1 R ?_))))
 have hN1 : (p0.of.length : Int) ≤ 9223372036854775807 := g0_0.len_le
 refine Ob h fun q2 hq3 hK2 => ?_
 clear h
 refine Jx1 (fun L w' => ∃ κ', L = [(0, .pointer (some ⟨b0, 0, none⟩)), (1, vi p1), (2, vi p2)] ∧ Stp [] κ w κ' w' ∧ q2 = Sum.inr ()) ?_ ?_
 refine Jv (Jy1 (fun k L w' => ∃ κ' v7, L = [(0, .pointer (some ⟨b0, 0, none⟩)), (1, vi p1), (2, vi p2), (7, vi v7)] ∧ Stp [] κ w κ' w' ∧ 0 ≤ v7 ∧ Int.toNat ((p0.of.length : Int) - v7) = k ∧ cntM (s_l30Find_b0 p0 p1 p2) k v7 () = some q2) ⟨_, _, ⟨κ, 0, R, (Jx2 _ _).wk R, (by decide), (by simp), hq3⟩, (KM R)⟩ ?_)
 rintro k _ w7 ⟨K8, v7, rfl, S9, hj1, hJ1, h⟩
 rcases k with _ | k
 have hk10 := h; obtain ⟨o1, h⟩ := ex_eq (Sum.inr (Sum.inl ()) : (Int × (List Int) × (List Int)) ⊕ ((Unit) ⊕ (Unit)))
 have hc1 : decide (v7 < (p0.of.length : Int)) = false := Jo2 (by omega)
 refine Jq (Je [2, 2, 2, 2, 1, 2, 2] R (Jn 2 R (Jf R (rn_nilCheck R R) (Jf R (Jb2 U158 R Z40 R R) (Jl tv R R R R (Jc2 I40 R R (hvE ((gb0.stp S9 R R).ld 0 R R))) (Jf R (Je2 U40 R R) (Jb 1 R (Jw2 R hc1 (Jc1 (Jt (Jt ?_)))))))))))
 cases h
 have h := hk10
 refine Jb1 ?_
 cases h
 exact Jw1 _ ⟨K8, R, S9.wk R, R⟩ (KM R)
 obtain ⟨o1, h, hk10⟩ := BI h; unfold s_l30Find_b0 at h
 have hc1 : decide (v7 < (p0.of.length : Int)) = true := Jn2 (by omega)
 refine Jq (Je [2, 2, 2, 2, 1, 2, 2] R (Jn 2 R (Jf R (rn_nilCheck R R) (Jf R (Jb2 U158 R Z40 R R) ?_))))
 have f12 := gb0.stp S9 R R
 refine Jl tv R R R R (Jc2 I40 R R (hvE (f12.ld 0 R R))) (Jf R (Je2 U40 R R) (Jb 1 R (Jv2 R hc1 (Js (Jp (Jq (Jv (Je [2, 2, 2, 1, 2, 2, 1, 2, 2, 2, 2, 2, 2, 1, 2, 2, 1, 2, 2, 2] R (Jn 1 R (Jf R (rn_nilCheck R R) (Jf R (Jb2 U158 R Z40 R R) (Jl tv R R R R (Jc2 I40 R R (hvE (f12.ld 0 R R))) (Jn 1 R (Ob h fun x22 hx22 h => Jf R (Jf2 g0_0.rdc hx22 U40 Z2 R R R R) ?_))))))))))))))
 have f13 := g0_0.stp S9 R R
 refine Jl tv R R R R (Jc2 I2 R R (hvE (f13.rdc.gInt hx22))) (Jn 3 R (Ob h fun p36 h hK14 => Ju1 [(10, 2), (11, 2), (12, 2), (13, 1), (14, 2), (15, 2), (16, 1), (17, 2), (18, 2), (19, 2)] [] (fun L w' => L = [(0, .pointer (some ⟨b0, 0, none⟩)), (1, vi p1), (2, vi p2), (7, vi v7), (36, .bool p36)] ∧ ∃ κ', Stp [] K8 w7 κ' w') tv ?_ ?_))
 revert h
 cases ht15 : (x22 == p1)
 refine JF fun h => Jn 3 R (Jd1 R R R R (Jn 2 R (Jd1 R R R R (Jn 3 R ?_))))
 cases h
 exact Jv1 _ tv ⟨R, _, (Jx2 _ _).wk R⟩ (KM R)
 refine JT fun h => Jn 1 R (Jf R (rn_nilCheck R R) (Jf R (Jb2 U158 R Z40 R R) (Jl tv R R R R (Jc2 I40 R R (hvE (f12.ld 1 R R))) (Jn 1 R (Ob h fun x32 hx32 h => Jf R (Jf2 g0_1.rdc hx32 U40 Z2 R R R R) (Jl tv R R R R (Jc2 I2 R R (hvE ((g0_1.stp S9 R R).rdc.gInt hx32))) (Jn 3 R ?_)))))))
 cases h
 exact Jv1 _ tv ⟨R, _, (Jx2 _ _).wk R⟩ (KM R)
 rintro _ w17 _ ⟨rfl, K18, S19⟩
 have h := hK14
 refine Jd ?_
 revert h
 cases ht20 : p36
 refine JF fun h => Jy R (Js (Jz (Jp (Ja [2, 2, 2] R (Jc 3 R ?_)))))
 have hw1 : IntKind.wrap .i64 (v7 + 1) = v7 + 1 := wr1 hj1 (Jm2 hc1) hN1
 rw [hw1]
 have hc1 := Jm2 hc1
 cases h
 exact Jz1 fun a ha => ⟨k, _, Ja3 _, ⟨K18, v7 + 1, R, (S9.tr S19).wk R, by omega, by omega, hk10⟩, (ha.mm R)⟩
 refine JT fun h => Jx R (Je [2, 2] R (Jb 2 R (Ju (Ja1 (Jw (Jw ?_))))))
 cases h
 obtain rfl := Option.some.inj hk10
 have h := hK2
 dsimp only [aft] at h
 refine Ja1 (Jq2 (Jw (Ja2 (l := [.tmp 6]) V164 (Jp2 R R) R ?_)))
 cases h
 exact ⟨K18, aj, ak, af, ah, R, (hE.stp (S9.tr S19) R R), (f13.stp S19 R R), (g0_1.stp (S9.tr S19) R R), (f12.stp S19 R R)⟩
 rintro _ w4 ⟨K5, rfl, S6, rfl⟩
 have h := hK2
 dsimp only [aft] at h
 refine Jp (Je [2, 2, 2, 2, 1, 2, 1, 1, 2, 2, 1] R (Jn 2 R (Jf R (rn_nilCheck R R) (Jf R (Jb2 U158 R Z40 R R) ?_))))
 have f25 := gb0.stp S6 R R
 refine Jl tv R R R R (Jc2 I40 R R (hvE (f25.ld 0 R R))) (Jn 1 R (Jn1 (κ := K5) (E := E6) 5 [] (parts := [(0, .tmp 43)]) (cells := [vi p1]) (xs := ([p1] : List Int)) R R R R R R Y40 Tryzinfo2 R R R R R R R R R R ⟨[vi p1], [], Zl K5 w4 [], Zl K5 w4 [], R, Zl.sp (l1 := []) (l2 := []) R, Zl.sr (l1 := []) (l2 := []), R, R⟩ fun an ap w26 K27 S28 f29 => ⟨tv, Ob h fun x45 hx45 h => Jm1 (κ := K27) (E := E6) 2 [] R R R R R R R R R Y40 Tryzinfo2 R R R R (g0_0.stp (S6.tr S28) R R) (Sl.srcP (pu_int _) f29.rdc) sy_false hx45 R fun ae ai w31 K32 S33 f34 => ⟨tv, Jf R (rn_nilCheck R R) (Jf R (Jb2 U158 R Z40 R R) (Ji1 (κ := K32) 4 (off := 0) (vc := [.slice ae x45.length ai]) (cs' := [.slice ae x45.length ai, .slice af p0.by0.length ah, .slice aa p0.next.length ad, .slice ab p0.letters.length ac]) R R R R R R R Z40 R R (f25.stp (S28.tr S33) R R) R R fun w36 S37 f38 => ⟨tv, Jd (Je [2, 2, 2, 2, 1, 2, 1, 1, 2, 2, 1] R (Jn 2 R (Jf R (rn_nilCheck R R) (Jf R (Jb2 U158 R Z40 R R) (Jl tv R R R R (Jc2 I40 R R (hvE (f38.ld 1 R R))) (Jn 1 R (Jn1 (κ := K32) (E := E6) 6 [] (parts := [(0, .tmp 53)]) (cells := [vi p2]) (xs := ([p2] : List Int)) R R R R R R Y40 Tryzinfo2 R R R R R R R R R R ⟨[vi p2], [], Zl K32 w36 [], Zl K32 w36 [], R, Zl.sp (l1 := []) (l2 := []) R, Zl.sr (l1 := []) (l2 := []), R, R⟩ fun aq ao w39 K40 S41 f42 => ⟨tv, Ob h fun x55 hx55 h => Jm1 (κ := K40) (E := E6) 3 [] R R R R R R R R R Y40 Tryzinfo2 R R R R (g0_1.stp (S6.tr (S28.tr (S33.tr (S37.tr S41)))) R R) (Sl.srcP (pu_int _) f42.rdc) sy_false hx55 R fun al am w44 K45 S46 f47 => ⟨tv, Jf R (rn_nilCheck R R) (Jf R (Jb2 U158 R Z40 R R) (Ji1 (κ := K45) 4 (off := 1) (vc := [.slice al x55.length am]) (cs' := [.slice ae x45.length ai, .slice al x55.length am, .slice aa p0.next.length ad, .slice ab p0.letters.length ac]) R R R R R R R Z40 R R (f38.stp (S41.tr S46) R R) R R fun w49 S50 f51 => ⟨tv, Jd (Je [2, 2, 2, 1, 2, 2, 2] R (Jn 1 R (Jf R (rn_nilCheck R R) (Jf R (Jb2 U158 R Z40 R R) (Jl tv R R R R (Jc2 I40 R R (hvE (f51.ld 0 R R))) (Jf R (Je2 U40 R R) (Jb 2 R (Ju (Ja2 (l := [.tmp 6]) V164 (Jp2 R R) R ?_)))))))))⟩))⟩⟩)))))))⟩))⟩⟩))
 cases h
 exact ⟨K45, ae, ai, al, am, R, (hE.stp (S6.tr (S28.tr (S33.tr (S37.tr (S41.tr (S46.tr S50)))))) R R), (f34.stp (S37.tr (S41.tr (S46.tr S50))) R R), (f47.stp S50 R R), f51⟩
theorem s_l1Place_ok {w : World} {κ : Col} {a0 u0} {p0 : (List Int)} {p1 : Int} (g0 : Rd (Rp.int .i64) κ w 0 a0 u0 p0) {r : Int} (h : s_l1Place p0 p1 = some r) : Ret Tryz.prog 100 [.slice a0 p0.length u0, vi p1] w (fun v w' => ∃ (κ' : Col), v = vi r ∧ Ent κ w κ' w') := by
 unfold s_l1Place at h
 refine Ret.enter F100 R N100 R ?_
 dsimp only [envOf]
 have hE := Ent.refl κ w
 refine Je [2] R (Jb 1 R (Jq (Je [2] R (Jb 1 R ?_))))
 have hN1 : (p0.length : Int) ≤ 9223372036854775807 := g0.len_le
 refine Ob h fun q2 hq3 hK2 => ?_
 clear h
 refine Jx1 (fun L w' => ∃ κ', L = [] ∧ Stp [] κ w κ' w' ∧ q2 = Sum.inr ()) ?_ ?_
 refine Jv (Jy1 (fun k L w' => ∃ κ' v5, L = [(0, .slice a0 p0.length u0), (1, vi p1), (5, vi v5)] ∧ Stp [] κ w κ' w' ∧ 0 ≤ v5 ∧ Int.toNat ((p0.length : Int) - v5) = k ∧ cntM (s_l1Place_b0 p0 p1) k v5 () = some q2) ⟨_, _, ⟨κ, 0, R, (Jx2 _ _).wk R, (by decide), (by simp), hq3⟩, (KM R)⟩ ?_)
 rintro k _ w7 ⟨K8, v5, rfl, S9, hj1, hJ1, h⟩
 rcases k with _ | k
 have hk10 := h; obtain ⟨o1, h⟩ := ex_eq (Sum.inr (Sum.inl ()) : Int ⊕ ((Unit) ⊕ (Unit)))
 have hc1 : decide (v5 < (p0.length : Int)) = false := Jo2 (by omega)
 refine Jq (Je [2, 2, 2, 2] R (Jn 2 R (Jf R (Je2 U40 R R) (Jb 1 R (Jw2 R hc1 (Jc1 (Jt (Jt ?_))))))))
 cases h
 have h := hk10
 refine Jb1 ?_
 cases h
 exact Jw1 _ ⟨K8, R, S9.wk R, R⟩ KN
 obtain ⟨o1, h, hk10⟩ := BI h; unfold s_l1Place_b0 at h
 have hc1 : decide (v5 < (p0.length : Int)) = true := Jn2 (by omega)
 refine Jq (Je [2, 2, 2, 2] R (Jn 2 R (Jf R (Je2 U40 R R) (Jb 1 R (Jv2 R hc1 (Js (Jp (Jq (Jv (Je [2, 2, 2, 1, 2, 2] R (Jn 2 R (Ob h fun x14 hx14 h => Jf R (Jf2 g0 hx14 U40 Z2 R R R R) (Jl tv R R R R (Jc2 I2 R R (hvE ((g0.stp S9 R R).gInt hx14))) (Jb 2 R ?_))))))))))))))
 revert h
 cases ht12 : (x14 == p1)
 refine JF fun h => Jy R (Js (Jz (Jp (Ja [2, 2, 2] R (Jc 3 R ?_)))))
 have hw1 : IntKind.wrap .i64 (v5 + 1) = v5 + 1 := wr1 hj1 (Jm2 hc1) hN1
 rw [hw1]
 have hc1 := Jm2 hc1
 cases h
 exact Jz1 fun a ha => ⟨k, _, Ja3 _, ⟨K8, v5 + 1, R, S9.wk R, by omega, by omega, hk10⟩, (ha.mm R)⟩
 refine JT fun h => Jx R (Je [2, 2] R (Jb 2 R (Ju (Ja1 (Jw (Jw ?_))))))
 cases h
 obtain rfl := Option.some.inj hk10
 have h := hK2
 dsimp only [aft] at h
 refine Ja1 (Jq2 (Jw (Ja2 (l := [.tmp 4]) V100 (Jp2 R R) R ?_)))
 cases h
 exact ⟨K8, R, (hE.stp S9 R R)⟩
 rintro _ w4 ⟨K5, rfl, S6, rfl⟩
 have h := hK2
 dsimp only [aft] at h
 refine Jp (Je [2] R (Jb 1 R (Ju (Ja2 (l := [.tmp 4]) V100 (Jp2 R R) R ?_))))
 cases h
 exact ⟨K5, R, (hE.stp S6 R R)⟩
end Go.Proofs.YtcmamhmpoinmnaaGreat
