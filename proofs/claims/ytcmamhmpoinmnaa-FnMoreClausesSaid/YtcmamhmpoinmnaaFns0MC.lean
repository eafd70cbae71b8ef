/- The walks, part 0. By program. -/
import Derived.Test.YtcmamhmpoinmnaaFnsMMC
import Derived.Test.YtcmamhmpoinmnaaAlMC
set_option linter.unusedVariables false
set_option linter.unusedSimpArgs false
namespace Go.Proofs.Ytcmamhmpoinmnaa
open Go Go.Wk Go.Proofs
set_option maxRecDepth 100000
set_option maxHeartbeats 1000000
theorem l_big_ok {w : World} {κ : Col} {a0 u0} {p0 : (List Int)} (g0 : Rd (Rp.int .u8) κ w 0 a0 u0 p0) {r : Bool} (h : l_big p0 = some r) : Ret Try.prog 16 [.slice a0 p0.length u0] w (fun v w' => ∃ (κ' : Col), v = .bool r ∧ Ent κ w κ' w') := by
 unfold l_big at h
 refine Ret.enter F16 R N16 R ?_
 dsimp only [envOf]
 have hE := Ent.refl κ w
 refine Je [2] R (Jb 1 R (Je [2, 2, 2, 2] R (Jn 1 R (Jf R (Je2 U36 R R) (Jb 2 R (Ju (Ja2 (l := [.tmp 2]) V16 (Jp2 R R) R ?_)))))))
 cases h
 exact ⟨κ, R, hE⟩
theorem l_roll_ok {w : World} {κ : Col} {a0 u0} {p0 : (List Int)} {p1 : Int} (g0 : Rd (Rp.int .u8) κ w 0 a0 u0 p0) {r : dice} (h : l_roll p0 p1 = some r) : Ret Try.prog 19 [.slice a0 p0.length u0, .int .u64 p1] w (fun v w' => ∃ (κ' : Col) (ra0 : Option Addr) (ru0 : Nat) (rb1 : Nat), v = .pointer (some ⟨rb1, 0, none⟩) ∧ Ent κ w κ' w' ∧ Rd (Rp.int .u8) κ' w' 0 ra0 ru0 r.b ∧ (Bc κ' w' 3 rb1 78 [.slice ra0 r.b.length ru0, vi r.i, .int .u64 r.h])) := by
 unfold l_roll at h
 refine Ret.enter F19 R N19 R ?_
 dsimp only [envOf]
 have hE := Ent.refl κ w
 refine Je [2] R (Jb 1 R (Je [2, 2, 2, 2, 2, 2, 2, 2, 1, 2] R (Jn 4 R (Jf R (Je2 U36 R R) (Jf R (Jh2 U3 U45 R R) (Jn 1 R (Jf R (rn_build (parts := [(0, .tmp 7), (2, .tmp 13)]) (cells := [.slice a0 p0.length u0, vi 0, .int .u64 (IntKind.u64.wrap ((IntKind.u64.wrap (p1 * 7919)) + (IntKind.u64.wrap (p0.length : Int))))]) R R (by kernel_rfl)) (Jf1 (κ := κ) 2 R R R R R R R fun b15 w1 K2 S3 f4 => ⟨tv, Jb 1 R (Jq (Je [2] R (Jb 1 R ?_)))⟩))))))))
 have hN5 : (p0.length : Int) ≤ 9223372036854775807 := g0.len_le
 refine Ob h fun q2 hq7 hK6 => ?_
 clear h
 refine Jx1 (fun L w' => ∃ κ' s3, L = [(5, .pointer (some ⟨b15, 0, none⟩))] ∧ Stp [2] K2 w1 κ' w' ∧ Bc κ' w' 2 b15 78 [.slice a0 p0.length u0, vi 0, .int .u64 s3] ∧ q2 = Sum.inr s3) ?_ ?_
 refine Jv (Jy1 (fun k L w' => ∃ κ' v6 s1, L = [(0, .slice a0 p0.length u0), (5, .pointer (some ⟨b15, 0, none⟩)), (6, vi v6)] ∧ Stp [2] K2 w1 κ' w' ∧ Bc κ' w' 2 b15 78 [.slice a0 p0.length u0, vi 0, .int .u64 s1] ∧ 0 ≤ v6 ∧ Int.toNat ((p0.length : Int) - v6) = k ∧ cntM (l_roll_b0 p0) k v6 s1 = some q2) ⟨_, _, ⟨K2, 0, ((IntKind.u64.wrap ((IntKind.u64.wrap (p1 * 7919)) + (IntKind.u64.wrap (p0.length : Int)))) : Int), R, (Jx2 _ _).wk R, f4, (by decide), (by simp), hq7⟩, (KM R)⟩ ?_)
 rintro k _ w12 ⟨K13, v6, s1, rfl, S14, f15, hj5, hJ5, h⟩
 rcases k with _ | k
 have hk16 := h; obtain ⟨o5, h⟩ := ex_eq (Sum.inr (Sum.inl s1) : dice ⊕ ((Int) ⊕ (Int)))
 have hc5 : decide (v6 < (p0.length : Int)) = false := Jo2 (by omega)
 refine Jq (Je [2, 2, 2, 2] R (Jn 2 R (Jf R (Je2 U36 R R) (Jb 1 R (Jw2 R hc5 (Jc1 (Jt (Jt ?_))))))))
 cases h
 have h := hk16
 refine Jb1 ?_
 cases h
 exact Jw1 _ ⟨K13, (s1 : Int), R, S14.wk R, f15, R⟩ (KM R)
 obtain ⟨o5, h, hk16⟩ := BI h; unfold l_roll_b0 at h
 have hc5 : decide (v6 < (p0.length : Int)) = true := Jn2 (by omega)
 refine Jq (Je [2, 2, 2, 2] R (Jn 2 R (Jf R (Je2 U36 R R) (Jb 1 R (Jv2 R hc5 (Js (Jp (Jq (Jv (Js1 (κ := K13) [0, 2] (some 15) [(0, 2), (1, 2), (2, 2), (3, 2), (6, 2), (7, 2), (8, 2), (4, 0), (5, 2), (9, 0), (10, 2), (11, 2), (12, 2), (13, 2), (14, 2)] [(15, 1)] (by kernel_rfl) (by kernel_rfl) fun w18 S17 => Jn 2 R (Jf R (rn_nilCheck R R) (Jf R (Jb2 U78 R Z45 R R) (Jn 2 R (Ob h fun x30 hx30 h => Jf R (Jf2 g0 hx30 U36 Z5 R R R R) ?_))))))))))))))
 have f19 := f15.stp S17 R R
 refine Jg R (Jc2 I45 R R (hvC (f19.ld 2 R R) R)) (Jn 1 R (Jg R (Jc2 I5 R R (hvC ((g0.stp (S3.tr (S14.tr S17)) R R).gInt hx30) R)) (Jf R (Jh2 U5 U45 R R) (Jn 2 R (Jf R (rn_nilCheck R R) (Jf R (Jb2 U78 R Z45 R R) (Jt1 (Ji1 (κ := K13) 2 (off := 2) (vc := [.int .u64 (IntKind.u64.wrap ((IntKind.u64.wrap ((IntKind.u64.wrap (s1 * 1099511628211)) + (IntKind.u64.wrap x30))) + 3))]) (cs' := [.slice a0 p0.length u0, vi 0, .int .u64 (IntKind.u64.wrap ((IntKind.u64.wrap ((IntKind.u64.wrap (s1 * 1099511628211)) + (IntKind.u64.wrap x30))) + 3))]) R R R R R R R Z45 R R f19 R R fun w21 S22 f23 => ⟨tv, Jo (Jz (Jp (Ja [2, 2, 2] R (Jc 3 R ?_))))⟩))))))))
 have hw5 : IntKind.wrap .i64 (v6 + 1) = v6 + 1 := wr1 hj5 (Jm2 hc5) hN5
 rw [hw5]
 have hc5 := Jm2 hc5
 cases h
 exact Jz1 fun a ha => ⟨k, _, Ja3 _, ⟨K13, v6 + 1, ((IntKind.u64.wrap ((IntKind.u64.wrap ((IntKind.u64.wrap (s1 * 1099511628211)) + (IntKind.u64.wrap x30))) + 3)) : Int), R, (S14.tr (S17.tr S22)).wk R, f23, by omega, by omega, hk16⟩, (ha.mm R)⟩
 rintro _ w8 ⟨K9, s3, rfl, S10, f11, rfl⟩
 have h := hK6
 dsimp only [aft] at h
 refine Jp (Je [2, 2] R (Jb 2 R (Ju (Ja2 (l := [.tmp 4]) V19 (Jp2 R R) R ?_))))
 cases h
 exact ⟨(fun b => ren [(2, 3)] (K9 b)), a0, u0, b15, R, ((hE.stp (S3.tr S10) R R).map (ren [(2, 3)]) R R), ((g0.stp (S3.tr S10) R R).map (ren [(2, 3)]) R R), (f11.map (ren [(2, 3)]) R R)⟩
theorem l_dice_below_ok {w : World} {κ : Col} {ab aa} {p0 : dice} {p1 : Int} {b0} (g0_0 : Rd (Rp.int .u8) κ w 0 ab aa p0.b) (gb0 : Bc κ w 2 b0 78 [.slice ab p0.b.length aa, vi p0.i, .int .u64 p0.h]) {r : Int × Int × Int} (h : l_dice_below p0 p1 = some r) : Ret Try.prog 22 [.pointer (some ⟨b0, 0, none⟩), vi p1] w (fun v w' => ∃ (κ' : Col), v = vi r.1 ∧ Ent κ w κ' w' ∧ Bc κ' w' 2 b0 78 [.slice ab p0.b.length aa, vi r.2.1, .int .u64 r.2.2]) := by
 unfold l_dice_below at h
 refine Ret.enter F22 R N22 R ?_
 dsimp only [envOf]
 have hE := Ent.refl κ w
 refine Je [2] R (Jb 1 R (Je [2, 2, 2, 2, 1, 2, 2, 2, 2, 1] R (Jn 2 R (Jf R (rn_nilCheck R R) (Jf R (Jb2 U78 R Z45 R R) (Jl tv R R R R (Jc2 I45 R R (hvE (gb0.ld 2 R R))) (Jn 2 R (Jf R (rn_nilCheck R R) (Jf R (Jb2 U78 R Z45 R R) (Ji1 (κ := κ) 2 (off := 2) (vc := [.int .u64 (IntKind.u64.wrap ((IntKind.u64.wrap (p0.h * 6364136223846793005)) + 1442695040888963407))]) (cs' := [.slice ab p0.b.length aa, vi p0.i, .int .u64 (IntKind.u64.wrap ((IntKind.u64.wrap (p0.h * 6364136223846793005)) + 1442695040888963407))]) R R R R R R R Z45 R R gb0 R R fun w1 S2 f3 => ⟨tv, Jd (Je [2, 2, 2, 1, 2, 2, 2, 2] R (Jn 1 R (Jf R (rn_nilCheck R R) (Jf R (Jb2 U78 R Z45 R R) (Jl tv R R R R (Jc2 I45 R R (hvE (f3.ld 2 R R))) (Jf R (rn_shr R R R (by decide)) (Jn 1 R (Jf R (Jh2 U45 U2 R R) (Jb 1 R (Jq (Jq (Js1 (κ := κ) [2] none [(0, 2), (1, 2), (2, 2), (4, 2), (5, 2), (6, 2), (3, 0), (7, 0), (8, 2), (9, 2)] [] (by kernel_rfl) (by kernel_rfl) fun w5 S4 => Jn 1 R (Jf R (rn_nilCheck R R) (Jf R (Jb2 U78 R Z3 R R) (Jn 1 R (Jf R (rn_nilCheck R R) (Jf R (Jb2 U78 R Z36 R R) ?_)))))))))))))))))⟩))))))))))
 have f6 := f3.stp S4 R R
 refine Jg R (Jc2 I3 R R (hvC (f6.ld 1 R R) R)) (Jg R (Jc2 I36 R R (hvC (f6.ld 0 R R) R)) (Jf R (Je2 U36 R R) (Jn 1 R (Jt1 (Jd (Ob h fun q1 h hK7 => Jx1 (fun L w' => ∃ κ', L = [(0, .pointer (some ⟨b0, 0, none⟩)), (1, vi p1), (5, vi q1.1)] ∧ Stp [2] κ w5 κ' w' ∧ Bc κ' w' 2 b0 78 [.slice ab p0.b.length aa, vi q1.2, .int .u64 (IntKind.u64.wrap ((IntKind.u64.wrap (p0.h * 6364136223846793005)) + 1442695040888963407))]) ?_ ?_))))))
 revert h
 cases ht12 : decide (p0.i < (p0.b.length : Int))
 refine JF fun h => Jy R (Js ?_)
 cases h
 exact Jw1 _ ⟨κ, R, (Jx2 _ _).wk R, f6⟩ (KM R)
 refine JT fun h => Jx R (Jq (Js1 (κ := κ) [0, 2] none [(0, 2), (1, 2), (2, 2), (3, 2), (5, 2), (6, 2), (7, 2), (4, 0), (8, 0), (9, 2), (10, 0), (11, 2), (12, 2), (13, 2)] [] (by kernel_rfl) (by kernel_rfl) fun w14 S13 => Jn 2 R (Jf R (rn_nilCheck R R) (Jf R (Jb2 U78 R Z36 R R) (Jn 1 R (Jf R (rn_nilCheck R R) (Jf R (Jb2 U78 R Z3 R R) ?_)))))))
 have f15 := f6.stp S13 R R
 refine Jg R (Jc2 I36 R R (hvC (f15.ld 0 R R) R)) (Jg R (Jc2 I3 R R (hvC (f15.ld 1 R R) R)) (Ob h fun x41 hx41 h => Jf R (Jf2 g0_0 hx41 U36 Z5 R R R R) (Jg R (Jc2 I5 R R (hvC ((g0_0.stp (S2.tr (S4.tr S13)) R R).gInt hx41) R)) (Jf R (Jh2 U5 U2 R R) (Jn 2 R (Jt1 (Jd (Ja [2, 2, 2, 2, 1, 2, 2, 2, 1] R (Jn 2 R (Jf R (rn_nilCheck R R) (Jf R (Jb2 U78 R Z3 R R) (Jl tv R R R R (Jc2 I3 R R (hvE (f15.ld 1 R R))) (Jn 1 R (Jf R (rn_nilCheck R R) (Jf R (Jb2 U78 R Z3 R R) (Ji1 (κ := κ) 2 (off := 1) (vc := [vi (IntKind.i64.wrap (p0.i + 1))]) (cs' := [.slice ab p0.b.length aa, vi (IntKind.i64.wrap (p0.i + 1)), .int .u64 (IntKind.u64.wrap ((IntKind.u64.wrap (p0.h * 6364136223846793005)) + 1442695040888963407))]) R R R R R R R Z3 R R f15 R R fun w17 S18 f19 => ⟨tv, Jo ?_⟩))))))))))))))))
 cases h
 exact Jw1 _ ⟨κ, R, (S13.tr S18).wk R, f19⟩ (KM R)
 rintro _ w8 ⟨K9, rfl, S10, f11⟩
 have h := hK7
 refine Jp (Je [2, 2, 2, 2] R (Jn 2 R (Ob h fun _z55 hz55 h => Jf R (rn_rem R R R (nz_ok hz55)) (Jb 1 R (Ju (Ja2 (l := [.tmp 4]) V22 (Jp2 R R) R ?_))))))
 cases h
 exact ⟨K9, R, (hE.stp (S2.tr (S4.tr S10)) R R), f11⟩
theorem i_isSig_ok {w : World} {κ : Col} {p0 : Sig}  {r : Bool} (h : i_isSig p0 = some r) : Ret Try.prog 44 [.agg #[vi p0.In, vi p0.Out]] w (fun v w' => ∃ (κ' : Col), v = .bool r ∧ Ent κ w κ' w') := by
 unfold i_isSig at h
 refine Ret.enter F44 R N44 R ?_
 dsimp only [envOf]
 have hE := Ent.refl κ w
 refine Je [1, 2] R (Jf1 (κ := κ) 2 R R R R R R R fun b1 w1 K2 S3 f4 => ⟨tv, Jb 1 R (Je [2, 1, 2, 2, 2, 1, 2, 2, 2, 2, 1, 2, 2, 2, 2, 1, 2, 2, 2] R (Jf R (Jb2 U47 R Z2 R R) (Jl tv R R R R (Jc2 I2 R R (hvE (f4.ld 0 R R))) (Jn 2 R (Ob h fun p10 h hK5 => Ju1 [(4, 2), (5, 1), (6, 2), (7, 2)] [(8, 2), (9, 2), (10, 1), (11, 2), (12, 2), (13, 2), (14, 2), (15, 1), (16, 2), (17, 2), (18, 2)] (fun L w' => L = [(1, .pointer (some ⟨b1, 0, none⟩)), (2, .bool false), (10, .bool p10)] ∧ ∃ κ', Stp [] K2 w1 κ' w') tv ?_ ?_)))))⟩)
 revert h
 cases ht6 : decide (1 ≤ p0.In)
 refine JF fun h => Jn 1 R (Jd1 R R R R (Jn 2 R ?_))
 cases h
 exact Jv1 _ tv ⟨R, _, (Jx2 _ _).wk R⟩ (KM R)
 refine JT fun h => Jf R (Jb2 U47 R Z2 R R) (Jl tv R R R R (Jc2 I2 R R (hvE (f4.ld 0 R R))) (Jn 2 R ?_))
 cases h
 exact Jv1 _ tv ⟨R, _, (Jx2 _ _).wk R⟩ (KM R)
 rintro _ w7 _ ⟨rfl, K8, S9⟩
 have h := hK5
 refine Jn 1 R (Ob h fun p15 h hK10 => Ju1 [(9, 2), (10, 1), (11, 2), (12, 2)] [(13, 2), (14, 2), (15, 1), (16, 2), (17, 2), (18, 2)] (fun L w' => L = [(1, .pointer (some ⟨b1, 0, none⟩)), (2, .bool false), (15, .bool p15)] ∧ ∃ κ', Stp [] K8 w7 κ' w') tv ?_ ?_)
 revert h
 cases ht11 : p10
 refine JF fun h => Jn 1 R (Jd1 R R R R (Jn 2 R ?_))
 cases h
 exact Jv1 _ tv ⟨R, _, (Jx2 _ _).wk R⟩ (KM R)
 refine JT fun h => Jf R (Jb2 U47 R Z2 R R) (Jl tv R R R R (Jc2 I2 R R (hvE ((f4.stp S9 R R).ld 1 R R))) (Jn 2 R ?_))
 cases h
 exact Jv1 _ tv ⟨R, _, (Jx2 _ _).wk R⟩ (KM R)
 rintro _ w13 _ ⟨rfl, K14, S15⟩
 have h := hK10
 refine Jn 1 R (Ob h fun p20 h hK16 => Ju1 [(14, 2), (15, 1), (16, 2), (17, 2)] [(18, 2)] (fun L w' => L = [(2, .bool false), (20, .bool p20)] ∧ ∃ κ', Stp [] K14 w13 κ' w') tv ?_ ?_)
 revert h
 cases ht17 : p15
 refine JF fun h => Jn 1 R (Jd1 R R R R (Jn 2 R ?_))
 cases h
 exact Jv1 _ tv ⟨R, _, (Jx2 _ _).wk R⟩ (KM R)
 refine JT fun h => Jf R (Jb2 U47 R Z2 R R) (Jl tv R R R R (Jc2 I2 R R (hvE ((f4.stp (S9.tr S15) R R).ld 1 R R))) (Jn 2 R ?_))
 cases h
 exact Jv1 _ tv ⟨R, _, (Jx2 _ _).wk R⟩ (KM R)
 rintro _ w19 _ ⟨rfl, K20, S21⟩
 have h := hK16
 refine Jb 1 R (Ju (Ja2 (l := [.tmp 2]) V44 (Jp2 R R) R ?_))
 cases h
 exact ⟨K20, R, (hE.stp (S3.tr (S9.tr (S15.tr S21))) R R)⟩
theorem i_inputsOf_ok {w : World} {κ : Col} {p0 : Sig}  {r : Int} (h : i_inputsOf p0 = some r) : Ret Try.prog 69 [.agg #[vi p0.In, vi p0.Out]] w (fun v w' => ∃ (κ' : Col), v = vi r ∧ Ent κ w κ' w') := by
 unfold i_inputsOf at h
 refine Ret.enter F69 R N69 R ?_
 dsimp only [envOf]
 have hE := Ent.refl κ w
 refine Je [1, 2] R (Jf1 (κ := κ) 2 R R R R R R R fun b1 w1 K2 S3 f4 => ⟨tv, Jb 1 R (Je [2, 1, 2, 2] R (Jf R (Jb2 U47 R Z2 R R) (Jl tv R R R R (Jc2 I2 R R (hvE (f4.ld 0 R R))) (Ob h fun _z5 hz5 h => Jf R (rn_shl R R R (nn_ok hz5)) (Jb 1 R (Ju (Ja2 (l := [.tmp 2]) V69 (Jp2 R R) R ?_)))))))⟩)
 cases h
 exact ⟨K2, R, (hE.stp S3 R R)⟩
theorem i_areLetters_1_ok {w : World} {κ : Col} {p0 : Int} {c0 : Int} {b1} (gb1 : Bc κ w 0 b1 2 [vi c0]) {r : Bool} (h : i_areLetters_1 p0 c0 = some r) : Ret Try.prog 100 [vi p0, .pointer (some ⟨b1, 0, none⟩)] w (fun v w' => ∃ (κ' : Col), v = .bool r ∧ Ent κ w κ' w') := by
 unfold i_areLetters_1 at h
 refine Ret.enter F100 R N100 R ?_
 dsimp only [envOf]
 have hE := Ent.refl κ w
 refine Je [2] R (Jb 1 R (Je [2, 2, 2, 2, 1, 2, 2, 2] R (Jn 3 R (Ob h fun p10 h hK1 => Ju1 [(3, 2), (4, 1), (5, 2), (6, 2)] [(7, 2)] (fun L w' => L = [(1, .pointer (some ⟨b1, 0, none⟩)), (3, .bool false), (10, .bool p10)] ∧ ∃ κ', Stp [] κ w κ' w') tv ?_ ?_))))
 revert h
 cases ht2 : decide (p0 < 0)
 refine JF fun h => Jn 1 R (Jl tv R R R R (Jc2 I2 R R (hvE (gb1.ld 0 R R))) (Jn 2 R ?_))
 cases h
 exact Jv1 _ tv ⟨R, _, (Jx2 _ _).wk R⟩ (KM R)
 refine JT fun h => Jn 1 R (Jd1 R R R R (Jn 2 R ?_))
 cases h
 exact Jv1 _ tv ⟨R, _, (Jx2 _ _).wk R⟩ (KM R)
 rintro _ w3 _ ⟨rfl, K4, S5⟩
 have h := hK1
 refine Jb 1 R (Ju (Ja2 (l := [.tmp 3]) V100 (Jp2 R R) R ?_))
 cases h
 exact ⟨K4, R, (hE.stp S5 R R)⟩
theorem i_lettersOf_ok {w : World} {κ : Col} {p0 : Sig}  {r : Int} (h : i_lettersOf p0 = some r) : Ret Try.prog 71 [.agg #[vi p0.In, vi p0.Out]] w (fun v w' => ∃ (κ' : Col), v = vi r ∧ Ent κ w κ' w') := by
 unfold i_lettersOf at h
 refine Ret.enter F71 R N71 R ?_
 dsimp only [envOf]
 have hE := Ent.refl κ w
 refine Je [1, 2] R (Jf1 (κ := κ) 2 R R R R R R R fun b1 w1 K2 S3 f4 => ⟨tv, Jb 1 R (Je [2, 1, 2, 1, 2, 2, 2] R (Jf R (Jb2 U47 R Z2 R R) (Jl tv R R R R (Jc2 I2 R R (hvE (f4.ld 0 R R))) (Jf R (Jb2 U47 R Z2 R R) (Jl tv R R R R (Jc2 I2 R R (hvE (f4.ld 1 R R))) (Jn 1 R (Ob h fun _z8 hz8 h => Jf R (rn_shl R R R (nn_ok hz8)) (Jb 1 R (Ju (Ja2 (l := [.tmp 2]) V71 (Jp2 R R) R ?_))))))))))⟩)
 cases h
 exact ⟨K2, R, (hE.stp S3 R R)⟩
theorem i_isSet_ok {w : World} {κ : Col} {a0 u0} {p0 : (List Int)} {p1 : Int} (g0 : Rd (Rp.int .i64) κ w 0 a0 u0 p0) {r : Bool} (h : i_isSet p0 p1 = some r) : Ret Try.prog 33 [.slice a0 p0.length u0, vi p1] w (fun v w' => ∃ (κ' : Col), v = .bool r ∧ Ent κ w κ' w') := by
 unfold i_isSet at h
 refine Ret.enter F33 R N33 R ?_
 dsimp only [envOf]
 have hE := Ent.refl κ w
 refine Je [2] R (Jb 1 R (Jq (Je [2, 2, 2] R (Jn 1 R (Jf R (Je2 U24 R R) (Jb 1 R ?_))))))
 have hN1 : (p0.length : Int) ≤ 9223372036854775807 := g0.len_le
 refine Ob h fun q2 hq3 hK2 => ?_
 clear h
 refine Jx1 (fun L w' => ∃ κ', L = [] ∧ Stp [] κ w κ' w' ∧ q2 = Sum.inr ()) ?_ ?_
 refine Jv (Jy1 (fun k L w' => ∃ κ' v9, L = [(0, .slice a0 p0.length u0), (1, vi p1), (7, .slice a0 p0.length u0), (8, vi (p0.length : Int)), (9, vi v9)] ∧ Stp [] κ w κ' w' ∧ 0 ≤ v9 ∧ Int.toNat ((p0.length : Int) - v9) = k ∧ cntM (i_isSet_b0 p0 p1) k v9 () = some q2) ⟨_, _, ⟨κ, 0, R, (Jx2 _ _).wk R, (by decide), (by simp), hq3⟩, (KM R)⟩ ?_)
 rintro k _ w7 ⟨K8, v9, rfl, S9, hj1, hJ1, h⟩
 rcases k with _ | k
 have hk10 := h; obtain ⟨o1, h⟩ := ex_eq (Sum.inr (Sum.inl ()) : Bool ⊕ ((Unit) ⊕ (Unit)))
 have hc1 : decide (v9 < (p0.length : Int)) = false := Jo2 (by omega)
 refine Je [2] R (Jb 1 R (Jq (Jw2 R hc1 (Jc1 (Jt (Jt ?_))))))
 cases h
 have h := hk10
 refine Jb1 ?_
 cases h
 exact Jw1 _ ⟨K8, R, S9.wk R, R⟩ KN
 obtain ⟨o1, h, hk10⟩ := BI h; unfold i_isSet_b0 at h
 have hc1 : decide (v9 < (p0.length : Int)) = true := Jn2 (by omega)
 refine Je [2] R (Jb 1 R (Jq (Jv2 R hc1 (Js (Jp (Jq (Jv (Je [2, 2, 1, 2, 2] R (Jn 1 R (Ob h fun x12 hx12 h => Jf R (Jf2 g0 hx12 U24 Z2 R R R R) ?_))))))))))
 have f11 := g0.stp S9 R R
 refine Jl tv R R R R (Jc2 I2 R R (hvE (f11.gInt hx12))) (Jb 2 R (Je [2, 2, 2, 2, 2, 2, 2, 2, 2, 2, 2, 2, 2, 2, 2, 2, 1, 2, 2, 2] R (Jn 3 R (Ob h fun p20 h hK12 => Ju1 [(3, 2), (4, 2), (5, 2), (6, 2)] [(7, 2), (8, 2), (9, 2), (10, 2), (11, 2), (12, 2), (13, 2), (14, 2), (15, 2), (16, 1), (17, 2), (18, 2), (19, 2)] (fun L w' => L = [(0, .slice a0 p0.length u0), (1, vi p1), (5, vi v9), (6, vi x12), (7, .slice a0 p0.length u0), (8, vi (p0.length : Int)), (9, vi v9), (20, .bool p20)] ∧ ∃ κ', Stp [] K8 w7 κ' w') tv ?_ ?_))))
 revert h
 cases ht13 : decide (x12 < 0)
 refine JF fun h => Jn 4 R ?_
 cases h
 exact Jv1 _ tv ⟨R, _, (Jx2 _ _).wk R⟩ (KM R)
 refine JT fun h => Jn 4 R ?_
 cases h
 exact Jv1 _ tv ⟨R, _, (Jx2 _ _).wk R⟩ (KM R)
 rintro _ w14 _ ⟨rfl, K15, S16⟩
 have h := hK12
 refine Jn 1 R (Ob h fun p33 h hK17 => Ju1 [(8, 2), (9, 2), (10, 2), (11, 2), (12, 2), (13, 2), (14, 2), (15, 2), (16, 1), (17, 2), (18, 2), (19, 2)] [] (fun L w' => L = [(0, .slice a0 p0.length u0), (1, vi p1), (7, .slice a0 p0.length u0), (8, vi (p0.length : Int)), (9, vi v9), (33, .bool p33)] ∧ ∃ κ', Stp [] K15 w14 κ' w') tv ?_ ?_)
 revert h
 cases ht18 : p20
 refine JF fun h => Jn 3 R (Ob h fun p32 h hK19 => Ju1 [(11, 2), (12, 2), (13, 2), (14, 2), (15, 2), (16, 1), (17, 2), (18, 2)] [(19, 2)] (fun L w' => L = [(0, .slice a0 p0.length u0), (1, vi p1), (7, .slice a0 p0.length u0), (8, vi (p0.length : Int)), (9, vi v9), (21, .bool false), (22, vi v9), (23, .bool (decide (0 < v9))), (24, .bool (decide (0 < v9))), (32, .bool p32)] ∧ ∃ κ', Stp [] K15 w14 κ' w') tv ?_ ?_)
 revert h
 cases ht20 : decide (0 < v9)
 refine JF fun h => Jn 5 R (Jd1 R R R R (Jn 2 R ?_))
 cases h
 exact Jv1 _ tv ⟨R, _, (Jx2 _ _).wk R⟩ (KM R)
 refine JT fun h => Jn 4 R (Ob h fun x29 hx29 h => Jf R (Jf2 f11 hx29 U24 Z2 R R R R) (Jl tv R R R R (Jc2 I2 R R (hvE ((f11.stp S16 R R).gInt hx29))) (Jn 2 R ?_)))
 cases h
 exact Jv1 _ tv ⟨R, _, (Jx2 _ _).wk R⟩ (KM R)
 rintro _ w22 _ ⟨rfl, K23, S24⟩
 have h := hK19
 refine Jn 1 R ?_
 cases h
 exact Jv1 _ tv ⟨R, _, S24.wk R⟩ (KM R)
 refine JT fun h => Jn 8 R (Jd1 R R R R (Jn 3 R ?_))
 cases h
 exact Jv1 _ tv ⟨R, _, (Jx2 _ _).wk R⟩ (KM R)
 rintro _ w25 _ ⟨rfl, K26, S27⟩
 have h := hK17
 refine Jd ?_
 revert h
 cases ht28 : p33
 refine JF fun h => Jy R (Js (Jz (Jp (Ja [2, 2] R (Jc 2 R ?_)))))
 have hw1 : IntKind.wrap .i64 (v9 + 1) = v9 + 1 := wr1 hj1 (Jm2 hc1) hN1
 rw [hw1]
 have hc1 := Jm2 hc1
 cases h
 exact Jz1 fun a ha => ⟨k, _, Ja3 _, ⟨K26, v9 + 1, R, (S9.tr (S16.tr S27)).wk R, by omega, by omega, hk10⟩, (ha.mm R)⟩
 refine JT fun h => Jx R (Je [2] R (Jb 1 R (Ju (Ja1 (Jw (Jw ?_))))))
 cases h
 obtain rfl := Option.some.inj hk10
 have h := hK2
 dsimp only [aft] at h
 refine Ja1 (Jq2 (Jw (Ja2 (l := [.tmp 4]) V33 (Jp2 R R) R ?_)))
 cases h
 exact ⟨K26, R, (hE.stp (S9.tr (S16.tr S27)) R R)⟩
 rintro _ w4 ⟨K5, rfl, S6, rfl⟩
 have h := hK2
 dsimp only [aft] at h
 refine Jp (Je [2] R (Jb 1 R (Ju (Ja2 (l := [.tmp 4]) V33 (Jp2 R R) R ?_))))
 cases h
 exact ⟨K5, R, (hE.stp S6 R R)⟩
theorem i_hasSecond_ok {w : World} {κ : Col} {p0 : Int}  {r : Bool} (h : i_hasSecond p0 = some r) : Ret Try.prog 135 [vi p0] w (fun v w' => ∃ (κ' : Col), v = .bool r ∧ Ent κ w κ' w') := by
 unfold i_hasSecond at h
 refine Ret.enter F135 R N135 R ?_
 dsimp only [envOf]
 have hE := Ent.refl κ w
 refine Je [2] R (Jb 1 R (Je [2, 2, 2, 2, 2, 2, 2, 2, 2, 2, 2] R (Jn 3 R (Ob h fun p8 h hK1 => Ju1 [(3, 2), (4, 2), (5, 2)] [(6, 2), (7, 2), (8, 2), (9, 2), (10, 2)] (fun L w' => L = [(0, vi p0), (2, .bool false), (8, .bool p8)] ∧ ∃ κ', Stp [] κ w κ' w') tv ?_ ?_))))
 revert h
 cases ht2 : (p0 == 2)
 refine JF fun h => Jn 3 R ?_
 cases h
 exact Jv1 _ tv ⟨R, _, (Jx2 _ _).wk R⟩ (KM R)
 refine JT fun h => Jn 3 R ?_
 cases h
 exact Jv1 _ tv ⟨R, _, (Jx2 _ _).wk R⟩ (KM R)
 rintro _ w3 _ ⟨rfl, K4, S5⟩
 have h := hK1
 refine Jn 1 R (Ob h fun p12 h hK6 => Ju1 [(7, 2), (8, 2), (9, 2)] [(10, 2)] (fun L w' => L = [(2, .bool false), (12, .bool p12)] ∧ ∃ κ', Stp [] K4 w3 κ' w') tv ?_ ?_)
 revert h
 cases ht7 : p8
 refine JF fun h => Jn 3 R ?_
 cases h
 exact Jv1 _ tv ⟨R, _, (Jx2 _ _).wk R⟩ (KM R)
 refine JT fun h => Jn 3 R ?_
 cases h
 exact Jv1 _ tv ⟨R, _, (Jx2 _ _).wk R⟩ (KM R)
 rintro _ w8 _ ⟨rfl, K9, S10⟩
 have h := hK6
 refine Jb 1 R (Ju (Ja2 (l := [.tmp 2]) V135 (Jp2 R R) R ?_))
 cases h
 exact ⟨K9, R, (hE.stp (S5.tr S10) R R)⟩
theorem slices_Index_I_int64_ok {w : World} {κ : Col} {a0 u0} {p0 : (List Int)} {p1 : Int} (g0 : Rd (Rp.int .i64) κ w 0 a0 u0 p0) {r : Int} (h : slices_Index_I_int64 p0 p1 = some r) : Ret Try.prog 101 [.slice a0 p0.length u0, vi p1] w (fun v w' => ∃ (κ' : Col), v = vi r ∧ Ent κ w κ' w') := by
 unfold slices_Index_I_int64 at h
 refine Ret.enter F101 R N101 R ?_
 dsimp only [envOf]
 have hE := Ent.refl κ w
 refine Je [2] R (Jb 1 R (Jq (Je [2, 2, 2] R (Jn 1 R (Jf R (Je2 U24 R R) (Jb 1 R ?_))))))
 have hN1 : (p0.length : Int) ≤ 9223372036854775807 := g0.len_le
 refine Ob h fun q2 hq3 hK2 => ?_
 clear h
 refine Jx1 (fun L w' => ∃ κ', L = [] ∧ Stp [] κ w κ' w' ∧ q2 = Sum.inr ()) ?_ ?_
 refine Jv (Jy1 (fun k L w' => ∃ κ' v8, L = [(0, .slice a0 p0.length u0), (1, vi p1), (7, vi (p0.length : Int)), (8, vi v8)] ∧ Stp [] κ w κ' w' ∧ 0 ≤ v8 ∧ Int.toNat ((p0.length : Int) - v8) = k ∧ cntM (slices_Index_I_int64_b0 p0 p1) k v8 () = some q2) ⟨_, _, ⟨κ, 0, R, (Jx2 _ _).wk R, (by decide), (by simp), hq3⟩, (KM R)⟩ ?_)
 rintro k _ w7 ⟨K8, v8, rfl, S9, hj1, hJ1, h⟩
 rcases k with _ | k
 have hk10 := h; obtain ⟨o1, h⟩ := ex_eq (Sum.inr (Sum.inl ()) : Int ⊕ ((Unit) ⊕ (Unit)))
 have hc1 : decide (v8 < (p0.length : Int)) = false := Jo2 (by omega)
 refine Je [2] R (Jb 1 R (Jq (Jw2 R hc1 (Jc1 (Jt (Jt ?_))))))
 cases h
 have h := hk10
 refine Jb1 ?_
 cases h
 exact Jw1 _ ⟨K8, R, S9.wk R, R⟩ KN
 obtain ⟨o1, h, hk10⟩ := BI h; unfold slices_Index_I_int64_b0 at h
 have hc1 : decide (v8 < (p0.length : Int)) = true := Jn2 (by omega)
 refine Je [2] R (Jb 1 R (Jq (Jv2 R hc1 (Js (Jp (Jq (Jv (Je [2, 2] R (Jb 2 R (Je [2, 2, 2, 2, 1, 2] R (Jn 3 R (Ob h fun x14 hx14 h => Jf R (Jf2 g0 hx14 U24 Z2 R R R R) (Jl tv R R R R (Jc2 I2 R R (hvE ((g0.stp S9 R R).gInt hx14))) (Jb 1 R ?_))))))))))))))
 revert h
 cases ht12 : (p1 == x14)
 refine JF fun h => Jy R (Js (Jz (Jp (Ja [2, 2] R (Jc 2 R ?_)))))
 have hw1 : IntKind.wrap .i64 (v8 + 1) = v8 + 1 := wr1 hj1 (Jm2 hc1) hN1
 rw [hw1]
 have hc1 := Jm2 hc1
 cases h
 exact Jz1 fun a ha => ⟨k, _, Ja3 _, ⟨K8, v8 + 1, R, S9.wk R, by omega, by omega, hk10⟩, (ha.mm R)⟩
 refine JT fun h => Jx R (Je [2, 2] R (Jb 2 R (Ju (Ja1 (Jw (Jw ?_))))))
 cases h
 obtain rfl := Option.some.inj hk10
 have h := hK2
 dsimp only [aft] at h
 refine Ja1 (Jq2 (Jw (Ja2 (l := [.tmp 4]) V101 (Jp2 R R) R ?_)))
 cases h
 exact ⟨K8, R, (hE.stp S9 R R)⟩
 rintro _ w4 ⟨K5, rfl, S6, rfl⟩
 have h := hK2
 dsimp only [aft] at h
 refine Jp (Je [2] R (Jb 1 R (Ju (Ja2 (l := [.tmp 4]) V101 (Jp2 R R) R ?_))))
 cases h
 exact ⟨K5, R, (hE.stp S6 R R)⟩
theorem i_monitorStep_ok {w : World} {κ : Col} {p0 : Int} {p1 : Int} {p2 : Bool} {p3 : Bool}  {r : Int} (h : i_monitorStep p0 p1 p2 p3 = some r) : Ret Try.prog 113 [vi p0, vi p1, .bool p2, .bool p3] w (fun v w' => ∃ (κ' : Col), v = vi r ∧ Ent κ w κ' w') := by
 unfold i_monitorStep at h
 refine Ret.enter F113 R N113 R ?_
 dsimp only [envOf]
 have hE := Ent.refl κ w
 refine Je [2] R (Jb 1 R (Je [2, 2] R (Jb 2 R (Jq (Je [2] R (Jb 1 R (Ob h fun q1 h hK1 => Jx1 (fun L w' => ∃ κ', L = [(0, vi p0), (1, vi p1), (3, .bool p3), (9, vi q1), (10, vi 0)] ∧ Stp [] κ w κ' w') ?_ ?_)))))))
 revert h
 cases ht5 : p2
 refine JF fun h => Jy R (Js ?_)
 cases h
 exact Jw1 _ ⟨κ, R, (Jx2 _ _).wk R⟩ (KM R)
 refine JT fun h => Jx R (Ja [2] R (Jc 1 R ?_))
 cases h
 exact Jw1 _ ⟨κ, R, (Jx2 _ _).wk R⟩ (KM R)
 rintro _ w2 ⟨K3, rfl, S4⟩
 have h := hK1
 refine Jp (Jq (Je [2] R (Jb 1 R (Ob h fun q2 h hK6 => Jx1 (fun L w' => ∃ κ', L = [(0, vi p0), (1, vi p1), (3, .bool q2.1), (9, vi q1), (10, vi q2.2)] ∧ Stp [] K3 w2 κ' w') ?_ ?_))))
 revert h
 cases ht10 : p3
 refine JF fun h => Jy R (Js ?_)
 cases h
 exact Jw1 _ ⟨K3, R, (Jx2 _ _).wk R⟩ (KM R)
 refine JT fun h => Jx R (Ja [2] R (Jc 1 R ?_))
 cases h
 exact Jw1 _ ⟨K3, R, (Jx2 _ _).wk R⟩ (KM R)
 rintro _ w7 ⟨K8, rfl, S9⟩
 have h := hK6
 refine Jp (Jq (Je [2] R (Jb 1 R (Jv (Je [2, 2] R (Jb 2 R ?_))))))
 revert h
 cases ht11 : (p0 == 1)
 refine JF fun h => Jy R (Je [2, 2] R (Jb 2 R ?_))
 revert h
 cases ht13 : (p0 == 2)
 refine JF fun h => Jy R (Je [2, 2] R (Jb 2 R ?_))
 revert h
 cases ht27 : (p0 == 3)
 refine JF fun h => Jy R (Je [2, 2] R (Jb 2 R ?_))
 revert h
 cases ht31 : (p0 == 4)
 refine JF fun h => Jy R (Je [2, 2] R (Jb 2 R ?_))
 revert h
 cases ht33 : (p0 == 5)
 refine JF fun h => Jy R (Je [2, 2] R (Jb 2 R ?_))
 revert h
 cases ht35 : (p0 == 6)
 refine JF fun h => Jy R (Js (Jz (Jp (Je [2, 2, 2, 2, 2] R (Jb 5 R (Ju (Ja2 (l := [.tmp 8]) V113 (Jp2 R R) R ?_)))))))
 cases h
 exact ⟨K8, R, (hE.stp (S4.tr S9) R R)⟩
 refine JT fun h => Jx R (Je [2, 2, 2, 2] R (Jn 2 R (Jf R (rn_max R R R) (Jb 1 R (Ju (Ja1 (Jw (Ja2 (l := [.tmp 8]) V113 (Jp2 R R) R ?_))))))))
 cases h
 exact ⟨K8, R, (hE.stp (S4.tr S9) R R)⟩
 refine JT fun h => Jx R (Je [2, 2, 2] R (Jb 3 R (Ju (Ja1 (Jw (Ja2 (l := [.tmp 8]) V113 (Jp2 R R) R ?_))))))
 cases h
 exact ⟨K8, R, (hE.stp (S4.tr S9) R R)⟩
 refine JT fun h => Jx R (Je [2, 2] R (Jb 2 R (Ju (Ja1 (Jw (Ja2 (l := [.tmp 8]) V113 (Jp2 R R) R ?_))))))
 cases h
 exact ⟨K8, R, (hE.stp (S4.tr S9) R R)⟩
 refine JT fun h => Jx R (Jq (Je [2] R (Jb 1 R ?_)))
 revert h
 cases ht28 : q2.1
 refine JF fun h => Jy R (Js (Jp (Je [2, 2, 2, 2] R (Jn 2 R (Jf R (rn_max R R R) (Jb 1 R (Ju (Ja1 (Jw (Ja2 (l := [.tmp 8]) V113 (Jp2 R R) R ?_))))))))))
 cases h
 exact ⟨K8, R, (hE.stp (S4.tr S9) R R)⟩
 refine JT fun h => Jx R (Je [2] R (Jb 1 R (Ju (Jw (Ja1 (Jw (Ja2 (l := [.tmp 8]) V113 (Jp2 R R) R ?_)))))))
 cases h
 exact ⟨K8, R, (hE.stp (S4.tr S9) R R)⟩
 refine JT fun h => Jx R (Jq (Je [2, 2, 2, 2, 2, 2, 2, 2, 2, 2] R (Jn 3 R (Ob h fun p31 h hK14 => Ju1 [(3, 2), (4, 2), (5, 2), (6, 2), (7, 2), (8, 2), (9, 2)] [] (fun L w' => L = [(9, vi q1), (31, .bool p31)] ∧ ∃ κ', Stp [] K8 w7 κ' w') tv ?_ ?_))))
 revert h
 cases ht15 : (p1 == 2)
 refine JF fun h => Jn 3 R (Ob h fun p30 h hK16 => Ju1 [(6, 2), (7, 2), (8, 2)] [(9, 2)] (fun L w' => L = [(9, vi q1), (24, .bool false), (30, .bool p30)] ∧ ∃ κ', Stp [] K8 w7 κ' w') tv ?_ ?_)
 revert h
 cases ht17 : (p1 == 1)
 refine JF fun h => Jn 3 R ?_
 cases h
 exact Jv1 _ tv ⟨R, _, (Jx2 _ _).wk R⟩ (KM R)
 refine JT fun h => Jn 3 R ?_
 cases h
 exact Jv1 _ tv ⟨R, _, (Jx2 _ _).wk R⟩ (KM R)
 rintro _ w18 _ ⟨rfl, K19, S20⟩
 have h := hK16
 refine Jn 1 R ?_
 cases h
 exact Jv1 _ tv ⟨R, _, S20.wk R⟩ (KM R)
 refine JT fun h => Jn 7 R ?_
 cases h
 exact Jv1 _ tv ⟨R, _, (Jx2 _ _).wk R⟩ (KM R)
 rintro _ w21 _ ⟨rfl, K22, S23⟩
 have h := hK14
 refine Jd ?_
 revert h
 cases ht24 : p31
 refine JF fun h => Jy R (Js (Jp (Je [2, 2] R (Jb 2 R (Ju (Ja1 (Jw (Ja2 (l := [.tmp 8]) V113 (Jp2 R R) R ?_))))))))
 cases h
 exact ⟨K22, R, (hE.stp (S4.tr (S9.tr S23)) R R)⟩
 refine JT fun h => Jx R (Je [2] R (Jb 1 R (Ju (Jw (Ja1 (Jw (Ja2 (l := [.tmp 8]) V113 (Jp2 R R) R ?_)))))))
 cases h
 exact ⟨K22, R, (hE.stp (S4.tr (S9.tr S23)) R R)⟩
 refine JT fun h => Jx R (Je [2, 2, 2, 2, 2] R (Jn 3 R (Jf R (rn_max R R R) (Jb 1 R (Ju (Ja1 (Jw (Ja2 (l := [.tmp 8]) V113 (Jp2 R R) R ?_))))))))
 cases h
 exact ⟨K8, R, (hE.stp (S4.tr S9) R R)⟩
theorem slices_Index_2_int64_2_int64_ok {w : World} {κ : Col} {a0 u0} {p0 : (List (Int × Int))} {p1 : (Int × Int)} (g0 : Rd (Rp.pair (Rp.int .i64) (Rp.int .i64)) κ w 0 a0 u0 p0) {r : Int} (h : slices_Index_2_int64_2_int64 p0 p1 = some r) : Ret Try.prog 112 [.slice a0 p0.length u0, .agg #[vi p1.1, vi p1.2]] w (fun v w' => ∃ (κ' : Col), v = vi r ∧ Ent κ w κ' w') := by
 unfold slices_Index_2_int64_2_int64 at h
 refine Ret.enter F112 R N112 R ?_
 dsimp only [envOf]
 have hE := Ent.refl κ w
 refine Je [1, 2] R (Jf1 (κ := κ) 2 R R R R R R R fun b3 w1 K2 S3 f4 => ⟨tv, Jb 1 R (Jq (Je [2, 2, 2] R (Jn 1 R (Jf R (Je2 U109 R R) (Jb 1 R ?_)))))⟩)
 have hN5 : (p0.length : Int) ≤ 9223372036854775807 := g0.len_le
 refine Ob h fun q2 hq7 hK6 => ?_
 clear h
 refine Jx1 (fun L w' => ∃ κ', L = [] ∧ Stp [] K2 w1 κ' w' ∧ q2 = Sum.inr ()) ?_ ?_
 refine Jv (Jy1 (fun k L w' => ∃ κ' v8, L = [(0, .slice a0 p0.length u0), (3, .pointer (some ⟨b3, 0, none⟩)), (7, vi (p0.length : Int)), (8, vi v8)] ∧ Stp [] K2 w1 κ' w' ∧ 0 ≤ v8 ∧ Int.toNat ((p0.length : Int) - v8) = k ∧ cntM (slices_Index_2_int64_2_int64_b0 p0 p1) k v8 () = some q2) ⟨_, _, ⟨K2, 0, R, (Jx2 _ _).wk R, (by decide), (by simp), hq7⟩, (KM R)⟩ ?_)
 rintro k _ w11 ⟨K12, v8, rfl, S13, hj5, hJ5, h⟩
 rcases k with _ | k
 have hk14 := h; obtain ⟨o5, h⟩ := ex_eq (Sum.inr (Sum.inl ()) : Int ⊕ ((Unit) ⊕ (Unit)))
 have hc5 : decide (v8 < (p0.length : Int)) = false := Jo2 (by omega)
 refine Je [2] R (Jb 1 R (Jq (Jw2 R hc5 (Jc1 (Jt (Jt ?_))))))
 cases h
 have h := hk14
 refine Jb1 ?_
 cases h
 exact Jw1 _ ⟨K12, R, S13.wk R, R⟩ KN
 obtain ⟨o5, h, hk14⟩ := BI h; unfold slices_Index_2_int64_2_int64_b0 at h
 have hc5 : decide (v8 < (p0.length : Int)) = true := Jn2 (by omega)
 refine Je [2] R (Jb 1 R (Jq (Jv2 R hc5 (Js (Jp (Jq (Jv (Je [2, 2] R (Jb 2 R (Jq (Js1 (κ := K12) [0, 2] none [(1, 2), (2, 2), (3, 2), (0, 0), (4, 0), (5, 2)] [] (by kernel_rfl) (by kernel_rfl) fun w16 S15 => Jn 2 R (Ob h fun x14 hx14 h => Jf R (Jf2 g0 hx14 U109 Z108 R R R R) (Jg R (Jd2 (cs := [vi p1.1, vi p1.2]) I108 Z108 R R R (haC (f4.stp (S13.tr S15) R R).cells R)) ?_)))))))))))))
 obtain ⟨cse19, hre19, hle19⟩ := ((g0.stp (S3.tr (S13.tr S15)) R R)).gSt hx14
 obtain ⟨_, _, rfl, rfl, rfl⟩ := hre19
 refine Jg R (Jd2 (cs := [vi x14.1, vi x14.2]) I108 Z108 R R R (haC hle19 R)) (Jf R (rn_eqlA2 U108 (by kernel_rfl) I2 U2 Z2 R R R) (Jt1 (Jd ?_)))
 revert h
 cases ht20 : ((p1.1 == x14.1) && (p1.2 == x14.2))
 refine JF fun h => Jy R (Js (Jz (Jp (Ja [2, 2] R (Jc 2 R ?_)))))
 have hw5 : IntKind.wrap .i64 (v8 + 1) = v8 + 1 := wr1 hj5 (Jm2 hc5) hN5
 rw [hw5]
 have hc5 := Jm2 hc5
 cases h
 exact Jz1 fun a ha => ⟨k, _, Ja3 _, ⟨K12, v8 + 1, R, (S13.tr S15).wk R, by omega, by omega, hk14⟩, (ha.mm R)⟩
 refine JT fun h => Jx R (Je [2, 2] R (Jb 2 R (Ju (Ja1 (Jw (Jw ?_))))))
 cases h
 obtain rfl := Option.some.inj hk14
 have h := hK6
 dsimp only [aft] at h
 refine Ja1 (Jq2 (Jw (Ja2 (l := [.tmp 4]) V112 (Jp2 R R) R ?_)))
 cases h
 exact ⟨K12, R, (hE.stp (S3.tr (S13.tr S15)) R R)⟩
 rintro _ w8 ⟨K9, rfl, S10, rfl⟩
 have h := hK6
 dsimp only [aft] at h
 refine Jp (Je [2] R (Jb 1 R (Ju (Ja2 (l := [.tmp 4]) V112 (Jp2 R R) R ?_))))
 cases h
 exact ⟨K9, R, (hE.stp (S3.tr S10) R R)⟩
theorem i_loopsIn_2_ok {w : World} {κ : Col} {p0 : Int} {a1 u1} {c0 : (List Int)} {b1} (g1 : Oc E6 2 κ w 2 a1 u1 c0) (gb1 : Bc κ w 3 b1 24 [.slice a1 c0.length u1]) {r : (List Int)} (h : i_loopsIn_2 p0 c0 = some r) : Ret Try.prog 85 [vi p0, .pointer (some ⟨b1, 0, none⟩)] w (fun v w' => ∃ (κ' : Col) (ma0 : Option Addr) (mu0 : Nat), v = .tuple #[] ∧ Ent κ w κ' w' ∧ Oc E6 2 κ' w' 2 ma0 mu0 r ∧ Bc κ' w' 3 b1 24 [.slice ma0 r.length mu0]) := by
 unfold i_loopsIn_2 at h
 refine Ret.enter F85 R N85 R ?_
 dsimp only [envOf]
 have hE := Ent.refl κ w
 refine Ja [1, 2, 1, 1, 1] R (Jl tv R R R R (Jc2 I24 R R (hvE (gb1.ld 0 R R))) (Jn 1 R (Jn1 (κ := κ) (E := E6) 4 [] (parts := [(0, .tmp 4)]) (cells := [vi p0]) (xs := ([p0] : List Int)) R R R R R R Y24 Tryinfo2 R R R R R R R R R R ⟨[vi p0], [], Zl κ w [], Zl κ w [], R, Zl.sp (l1 := []) (l2 := []) R, Zl.sr (l1 := []) (l2 := []), R, R⟩ fun a5 u5 w1 K2 S3 f4 => ⟨tv, Ob h fun x6 hx6 h => Jm1 (κ := K2) (E := E6) 2 [] R R R R R R R R R Y24 Tryinfo2 R R R R (g1.stp S3 R R) (Sl.srcP (pu_int _) f4.rdc) sy_false hx6 R fun a6 u6 w6 K7 S8 f9 => ⟨tv, Jj1 (κ := K7) 3 (vc := [.slice a6 x6.length u6]) R R R R R R R Z24 R R (gb1.stp (S3.tr S8) R R) R fun w11 S12 f13 => ⟨tv, Jo (DN.end0 V85 ?_)⟩⟩⟩)))
 cases h
 exact ⟨K7, a6, u6, R, (hE.stp (S3.tr (S8.tr S12)) R R), (f9.stp S12 R R), f13⟩
theorem i_loopsIn_3_ok {w : World} {κ : Col} {p0 : Int} {a1 u1} {c0 : (List Int)} {b1} (g1 : Oc E6 2 κ w 2 a1 u1 c0) (gb1 : Bc κ w 3 b1 24 [.slice a1 c0.length u1]) {r : (List Int)} (h : i_loopsIn_3 p0 c0 = some r) : Ret Try.prog 86 [vi p0, .pointer (some ⟨b1, 0, none⟩)] w (fun v w' => ∃ (κ' : Col) (ma0 : Option Addr) (mu0 : Nat), v = .tuple #[] ∧ Ent κ w κ' w' ∧ Oc E6 2 κ' w' 2 ma0 mu0 r ∧ Bc κ' w' 3 b1 24 [.slice ma0 r.length mu0]) := by
 unfold i_loopsIn_3 at h
 refine Ret.enter F86 R N86 R ?_
 dsimp only [envOf]
 have hE := Ent.refl κ w
 refine Ja [1, 2, 1, 1, 1] R (Jl tv R R R R (Jc2 I24 R R (hvE (gb1.ld 0 R R))) (Jn 1 R (Jn1 (κ := κ) (E := E6) 4 [] (parts := [(0, .tmp 4)]) (cells := [vi p0]) (xs := ([p0] : List Int)) R R R R R R Y24 Tryinfo2 R R R R R R R R R R ⟨[vi p0], [], Zl κ w [], Zl κ w [], R, Zl.sp (l1 := []) (l2 := []) R, Zl.sr (l1 := []) (l2 := []), R, R⟩ fun a5 u5 w1 K2 S3 f4 => ⟨tv, Ob h fun x6 hx6 h => Jm1 (κ := K2) (E := E6) 2 [] R R R R R R R R R Y24 Tryinfo2 R R R R (g1.stp S3 R R) (Sl.srcP (pu_int _) f4.rdc) sy_false hx6 R fun a6 u6 w6 K7 S8 f9 => ⟨tv, Jj1 (κ := K7) 3 (vc := [.slice a6 x6.length u6]) R R R R R R R Z24 R R (gb1.stp (S3.tr S8) R R) R fun w11 S12 f13 => ⟨tv, Jo (DN.end0 V86 ?_)⟩⟩⟩)))
 cases h
 exact ⟨K7, a6, u6, R, (hE.stp (S3.tr (S8.tr S12)) R R), (f9.stp S12 R R), f13⟩
theorem slices_Sort_I_int64_ok {w : World} {κ : Col} {a0 u0} {p0 : (List Int)} (g0 : Oc E6 2 κ w 2 a0 u0 p0) {r : (List Int)} (h : slices_Sort_I_int64 p0 = some r) : Ret Try.prog 87 [.slice a0 p0.length u0] w (fun v w' => ∃ (κ' : Col), v = .tuple #[] ∧ Ent κ w κ' w' ∧ Oc E6 2 κ' w' 2 a0 u0 r ∧ p0.length = r.length) := by
  unfold slices_Sort_I_int64 at h
  split at h
  · rename_i hh
    cases h
    exact sort_ok (fun blk off cap zs w hH hb hz => Try.slices_Sort_int blk off cap zs w hH hb hz) g0 hh.1 hh.2
  · split at h
    · rename_i hh
      cases h
      exact sort_nil Try.slices_Sort_int_none g0 hh
    · cases h
theorem slices_SortFunc_I_I_ok {w : World} {κ : Col} {a0 u0} {p0 : (List (List Int))} (g0 : Oc (Ep.fz (Rp.sl (Rp.int .i64))) 24 κ w 2 a0 u0 p0) {r : (List (List Int))} (h : slices_SortFunc_I_I p0 = some r) : Ret Try.prog 88 [.slice a0 p0.length u0, .func (.func 89) #[] #[]] w (fun v w' => ∃ (κ' : Col), v = .tuple #[] ∧ Ent κ w κ' w' ∧ Oc (Ep.fz (Rp.sl (Rp.int .i64))) 24 κ' w' 2 a0 u0 r ∧ p0.length = r.length) := by
  unfold slices_SortFunc_I_I at h
  split at h
  · rename_i hh
    cases h
    exact sortf_ok Try.slices_Compare (Try.slices_SortFunc_none (α := Nat)) (@fun α _ enc h1 cf hO blk off cap d w hc hh hb hs => Try.slices_SortFunc (α := α) enc h1 cf hO 89 #[] blk off cap d w Try.call89 hc hh hb hs) g0 hh.1 (fun l hl => by have := List.all_eq_true.1 hh.2 l hl; cases l <;> simp_all)
  · cases h
theorem s_l1In_ok {w : World} {κ : Col} {p0 : Int} {p1 : Int} {p2 : Int}  {r : Bool} (h : s_l1In p0 p1 p2 = some r) : Ret Try.prog 53 [vi p0, vi p1, vi p2] w (fun v w' => ∃ (κ' : Col), v = .bool r ∧ Ent κ w κ' w') := by
 unfold s_l1In at h
 refine Ret.enter F53 R N53 R ?_
 dsimp only [envOf]
 have hE := Ent.refl κ w
 refine Je [2] R (Jb 1 R (Je [2, 2, 2, 2, 2, 2, 2, 2, 2] R (Jn 4 R (Ob h fun p14 h hK1 => Ju1 [(4, 2), (5, 2), (6, 2), (7, 2)] [(8, 2)] (fun L w' => L = [(6, .bool false), (14, .bool p14)] ∧ ∃ κ', Stp [] κ w κ' w') tv ?_ ?_))))
 revert h
 cases ht2 : decide (p1 ≤ p0)
 refine JF fun h => Jn 4 R ?_
 cases h
 exact Jv1 _ tv ⟨R, _, (Jx2 _ _).wk R⟩ (KM R)
 refine JT fun h => Jn 4 R ?_
 cases h
 exact Jv1 _ tv ⟨R, _, (Jx2 _ _).wk R⟩ (KM R)
 rintro _ w3 _ ⟨rfl, K4, S5⟩
 have h := hK1
 refine Jb 1 R (Ju (Ja2 (l := [.tmp 6]) V53 (Jp2 R R) R ?_))
 cases h
 exact ⟨K4, R, (hE.stp S5 R R)⟩
theorem s_l23Power_ok {w : World} {κ : Col} {p0 : Int}  {r : Int} (h : s_l23Power p0 = some r) : Ret Try.prog 75 [vi p0] w (fun v w' => ∃ (κ' : Col), v = vi r ∧ Ent κ w κ' w') := by
 unfold s_l23Power at h
 refine Ret.enter F75 R N75 R ?_
 dsimp only [envOf]
 have hE := Ent.refl κ w
 refine Je [2] R (Jb 1 R (Je [2] R (Jb 1 R (Jq (Ob h fun q2 hq3 hK2 => ?_)))))
 clear h
 refine Jx1 (fun L w' => ∃ κ', ∃ s3 : Int × Int, L = [(3, vi s3.2)] ∧ Stp [] κ w κ' w' ∧ q2 = Sum.inr s3) ?_ ?_
 refine Jv (Jy1 (fun k L w' => ∃ κ', ∃ s1 : Int × Int, L = [(0, vi s1.1), (3, vi s1.2)] ∧ Stp [] κ w κ' w' ∧ whileM s_l23Power_b0 k s1 = some q2) ⟨_, _, ⟨κ, ((p0 : Int), (1 : Int)), R, (Jx2 _ _).wk R, hq3⟩, (KM R)⟩ ?_)
 rintro k _ w7 ⟨K8, s1, rfl, S9, h⟩
 rcases k with _ | k
 cases h
 obtain ⟨o1, h, hk10⟩ := BI h; unfold s_l23Power_b0 at h
 refine Jq (Je [2, 2] R (Jb 2 R ?_))
 revert h
 cases ht11 : decide (0 < s1.1)
 refine JF fun h => Jy R (Jc1 (Jt (Jt ?_)))
 cases h
 have h := hk10
 refine Jb1 ?_
 cases h
 exact Jw1 _ ⟨K8, ((s1.1 : Int), (s1.2 : Int)), R, S9.wk R, R⟩ (KM R)
 refine JT fun h => Jx R (Js (Jp (Jq (Jv (Ja [2, 2, 2] R (Jc 3 R (Jz (Jp (Ja [2, 2, 2] R (Jc 3 R ?_))))))))))
 cases h
 exact Jz1 fun a ha => ⟨k, _, Ja3 _, ⟨K8, (((IntKind.i64.wrap (s1.1 - 1)) : Int), ((IntKind.i64.wrap (s1.2 * 2)) : Int)), R, S9.wk R, hk10⟩, (ha.mm R)⟩
 rintro _ w4 ⟨K5, s3, rfl, S6, rfl⟩
 have h := hK2
 dsimp only [aft] at h
 refine Jp (Je [2, 2] R (Jb 2 R (Ju (Ja2 (l := [.tmp 2]) V75 (Jp2 R R) R ?_))))
 cases h
 exact ⟨K5, R, (hE.stp S6 R R)⟩
theorem s_l24Both_ok {w : World} {κ : Col} {p0 : Int}  {r : Bool} (h : s_l24Both p0 = some r) : Ret Try.prog 74 [vi p0] w (fun v w' => ∃ (κ' : Col), v = .bool r ∧ Ent κ w κ' w') := by
 unfold s_l24Both at h
 refine Ret.enter F74 R N74 R ?_
 dsimp only [envOf]
 have hE := Ent.refl κ w
 refine Je [2] R (Jb 1 R (Je [2, 2, 2, 2, 2, 2, 2, 2, 2, 2, 2] R (Jn 3 R (Ob h fun p8 h hK1 => Ju1 [(3, 2), (4, 2), (5, 2)] [(6, 2), (7, 2), (8, 2), (9, 2), (10, 2)] (fun L w' => L = [(0, vi p0), (2, .bool false), (8, .bool p8)] ∧ ∃ κ', Stp [] κ w κ' w') tv ?_ ?_))))
 revert h
 cases ht2 : (p0 == 2)
 refine JF fun h => Jn 3 R ?_
 cases h
 exact Jv1 _ tv ⟨R, _, (Jx2 _ _).wk R⟩ (KM R)
 refine JT fun h => Jn 3 R ?_
 cases h
 exact Jv1 _ tv ⟨R, _, (Jx2 _ _).wk R⟩ (KM R)
 rintro _ w3 _ ⟨rfl, K4, S5⟩
 have h := hK1
 refine Jn 1 R (Ob h fun p12 h hK6 => Ju1 [(7, 2), (8, 2), (9, 2)] [(10, 2)] (fun L w' => L = [(2, .bool false), (12, .bool p12)] ∧ ∃ κ', Stp [] K4 w3 κ' w') tv ?_ ?_)
 revert h
 cases ht7 : p8
 refine JF fun h => Jn 3 R ?_
 cases h
 exact Jv1 _ tv ⟨R, _, (Jx2 _ _).wk R⟩ (KM R)
 refine JT fun h => Jn 3 R ?_
 cases h
 exact Jv1 _ tv ⟨R, _, (Jx2 _ _).wk R⟩ (KM R)
 rintro _ w8 _ ⟨rfl, K9, S10⟩
 have h := hK6
 refine Jb 1 R (Ju (Ja2 (l := [.tmp 2]) V74 (Jp2 R R) R ?_))
 cases h
 exact ⟨K9, R, (hE.stp (S5.tr S10) R R)⟩
theorem s_l25Pair_ok {w : World} {κ : Col} {p0 : Int}  {r : Pair} (h : s_l25Pair p0 = some r) : Ret Try.prog 49 [vi p0] w (fun v w' => ∃ (κ' : Col) (ra0 : Option Addr) (ru0 : Nat) (ra1 : Option Addr) (ru1 : Nat), v = .agg #[.slice ra0 r.Ask.length ru0, .slice ra1 r.Give.length ru1] ∧ Ent κ w κ' w' ∧ Oc E6 2 κ' w' 2 ra0 ru0 r.Ask ∧ Oc E6 2 κ' w' 3 ra1 ru1 r.Give) := by
 unfold s_l25Pair at h
 refine Ret.enter F49 R N49 R ?_
 dsimp only [envOf]
 have hE := Ent.refl κ w
 refine Je [1] R (Jg1 (κ := κ) 2 R R R R R X42 R fun b2 w1 K2 S3 f4 => ⟨tv, Jd (Jq (Je [2] R (Jb 1 R (Jv (Jq (Je [2, 2] R (Jb 2 R (Ob h fun q1 h hK5 => Jx1 (fun L w' => ∃ κ', L = [(2, .pointer (some ⟨b2, 0, none⟩)), (3, vi p0), (4, .bool q1)] ∧ Stp [] K2 w1 κ' w') ?_ ?_))))))))⟩)
 revert h
 cases ht9 : (p0 == 1)
 refine JF fun h => Jy R (Ja [2, 2] R (Jc 2 R ?_))
 cases h
 exact Jw1 _ ⟨K2, R, (Jx2 _ _).wk R⟩ (KM R)
 refine JT fun h => Jx R (Js ?_)
 cases h
 exact Jw1 _ ⟨K2, R, (Jx2 _ _).wk R⟩ (KM R)
 rintro _ w6 ⟨K7, rfl, S8⟩
 have h := hK5
 refine Jp ?_
 revert h
 cases ht10 : q1
 refine JF fun h => Jy R (Je [2, 2] R (Jb 2 R ?_))
 revert h
 cases ht21 : (p0 == 2)
 refine JF fun h => Jy R (Je [2, 2] R (Jb 2 R ?_))
 revert h
 cases ht32 : (p0 == 3)
 refine JF fun h => Jy R (Je [2, 2] R (Jb 2 R ?_))
 revert h
 cases ht48 : (p0 == 4)
 refine JF fun h => Jy R (Je [2, 2] R (Jb 2 R ?_))
 revert h
 cases ht64 : (p0 == 6)
 refine JF fun h => Jy R (Js (Jz (Jp (Je [1, 1, 2, 1] R (Jn1 (κ := K7) (E := E6) 3 [] (parts := [(0, .const (vi 2)), (1, .const (vi 3))]) (cells := [vi 2, vi 3]) (xs := ([2, 3] : List Int)) R R R R R R Y24 Tryinfo2 R R R R R R R R R R ⟨[vi 2], [vi 3], Zl K7 w6 [], Zl K7 w6 [], R, Zl.sp (l1 := []) (l2 := []) R, Zl.sr (l1 := []) (l2 := []), R, ⟨[vi 3], [], Zl K7 w6 [], Zl K7 w6 [], R, Zl.sp (l1 := []) (l2 := []) R, Zl.sr (l1 := []) (l2 := []), R, R⟩⟩ fun am ac w75 K76 S77 f78 => ⟨tv, Jn1 (κ := K76) (E := E6) 4 [] (parts := [(0, .const (vi 1)), (1, .const (vi 3))]) (cells := [vi 1, vi 3]) (xs := ([1, 3] : List Int)) R R R R R R Y24 Tryinfo2 R R R R R R R R R R ⟨[vi 1], [vi 3], Zl K76 w75 [], Zl K76 w75 [], R, Zl.sp (l1 := []) (l2 := []) R, Zl.sr (l1 := []) (l2 := []), R, ⟨[vi 3], [], Zl K76 w75 [], Zl K76 w75 [], R, Zl.sp (l1 := []) (l2 := []) R, Zl.sr (l1 := []) (l2 := []), R, R⟩⟩ fun al ai w79 K80 S81 f82 => ⟨tv, Jf R (rn_build (parts := [(0, .tmp 27), (1, .tmp 28)]) (cells := [.slice am ([2, 3] : List Int).length ac, .slice al ([1, 3] : List Int).length ai]) R R (by kernel_rfl)) (Jj1 (κ := K80) 2 (vc := [.slice am ([2, 3] : List Int).length ac, .slice al ([1, 3] : List Int).length ai]) R R R R R R R Z42 R R (f4.stp (S8.tr (S77.tr S81)) R R) R fun w84 S85 f86 => ⟨tv, Jd (Ju (Ja2 (l := [.cell 2 42]) V49 (res_cellA R f86 I42 Z42 R R) R ?_))⟩)⟩⟩)))))
 cases h
 exact ⟨(fun b => ren [(3, 2), (4, 3)] (K80 b)), am, ac, al, ai, R, ((hE.stp (S3.tr (S8.tr (S77.tr (S81.tr S85)))) R R).map (ren [(3, 2), (4, 3)]) R R), ((f78.stp (S81.tr S85) R R).map (ren [(3, 2), (4, 3)]) R R), ((f82.stp S85 R R).map (ren [(3, 2), (4, 3)]) R R)⟩
 refine JT fun h => Jx R (Je [1, 2, 1] R (Jn1 (κ := K7) (E := E6) 3 [] (parts := [(0, .const (vi 0))]) (cells := [vi 0]) (xs := ([0] : List Int)) R R R R R R Y24 Tryinfo2 R R R R R R R R R R ⟨[vi 0], [], Zl K7 w6 [], Zl K7 w6 [], R, Zl.sp (l1 := []) (l2 := []) R, Zl.sr (l1 := []) (l2 := []), R, R⟩ fun aq an w65 K66 S67 f68 => ⟨tv, Jf R (rn_build (parts := [(0, .tmp 25)]) (cells := [.slice aq ([0] : List Int).length an, .slice none 0 0]) R R (by kernel_rfl)) (Jj1 (κ := K66) 2 (vc := [.slice aq ([0] : List Int).length an, .slice none 0 0]) R R R R R R R Z42 R R (f4.stp (S8.tr S67) R R) R fun w70 S71 f72 => ⟨tv, Jd (Ju (Ja1 (Jw (Ja2 (l := [.cell 2 42]) V49 (res_cellA R f72 I42 Z42 R R) R ?_))))⟩)⟩))
 cases h
 exact ⟨(fun b => ren [(3, 2)] (K66 b)), aq, an, none, 0, R, ((hE.stp (S3.tr (S8.tr (S67.tr S71))) R R).map (ren [(3, 2)]) R R), ((f68.stp S71 R R).map (ren [(3, 2)]) R R), Ow.nil⟩
 refine JT fun h => Jx R (Je [1, 1, 2, 1] R (Jn1 (κ := K7) (E := E6) 3 [] (parts := [(0, .const (vi 0)), (1, .const (vi 1))]) (cells := [vi 0, vi 1]) (xs := ([0, 1] : List Int)) R R R R R R Y24 Tryinfo2 R R R R R R R R R R ⟨[vi 0], [vi 1], Zl K7 w6 [], Zl K7 w6 [], R, Zl.sp (l1 := []) (l2 := []) R, Zl.sr (l1 := []) (l2 := []), R, ⟨[vi 1], [], Zl K7 w6 [], Zl K7 w6 [], R, Zl.sp (l1 := []) (l2 := []) R, Zl.sr (l1 := []) (l2 := []), R, R⟩⟩ fun ao aj w49 K50 S51 f52 => ⟨tv, Jn1 (κ := K50) (E := E6) 4 [] (parts := [(0, .const (vi 1))]) (cells := [vi 1]) (xs := ([1] : List Int)) R R R R R R Y24 Tryinfo2 R R R R R R R R R R ⟨[vi 1], [], Zl K50 w49 [], Zl K50 w49 [], R, Zl.sp (l1 := []) (l2 := []) R, Zl.sr (l1 := []) (l2 := []), R, R⟩ fun aa ab w53 K54 S55 f56 => ⟨tv, Jf R (rn_build (parts := [(0, .tmp 20), (1, .tmp 21)]) (cells := [.slice ao ([0, 1] : List Int).length aj, .slice aa ([1] : List Int).length ab]) R R (by kernel_rfl)) (Jj1 (κ := K54) 2 (vc := [.slice ao ([0, 1] : List Int).length aj, .slice aa ([1] : List Int).length ab]) R R R R R R R Z42 R R (f4.stp (S8.tr (S51.tr S55)) R R) R fun w58 S59 f60 => ⟨tv, Jd (Ju (Ja1 (Jw (Ja2 (l := [.cell 2 42]) V49 (res_cellA R f60 I42 Z42 R R) R ?_))))⟩)⟩⟩))
 cases h
 exact ⟨(fun b => ren [(3, 2), (4, 3)] (K54 b)), ao, aj, aa, ab, R, ((hE.stp (S3.tr (S8.tr (S51.tr (S55.tr S59)))) R R).map (ren [(3, 2), (4, 3)]) R R), ((f52.stp (S55.tr S59) R R).map (ren [(3, 2), (4, 3)]) R R), ((f56.stp S59 R R).map (ren [(3, 2), (4, 3)]) R R)⟩
 refine JT fun h => Jx R (Je [1, 1, 2, 1] R (Jn1 (κ := K7) (E := E6) 3 [] (parts := [(0, .const (vi 1))]) (cells := [vi 1]) (xs := ([1] : List Int)) R R R R R R Y24 Tryinfo2 R R R R R R R R R R ⟨[vi 1], [], Zl K7 w6 [], Zl K7 w6 [], R, Zl.sp (l1 := []) (l2 := []) R, Zl.sr (l1 := []) (l2 := []), R, R⟩ fun af ak w33 K34 S35 f36 => ⟨tv, Jn1 (κ := K34) (E := E6) 4 [] (parts := [(0, .const (vi 0))]) (cells := [vi 0]) (xs := ([0] : List Int)) R R R R R R Y24 Tryinfo2 R R R R R R R R R R ⟨[vi 0], [], Zl K34 w33 [], Zl K34 w33 [], R, Zl.sp (l1 := []) (l2 := []) R, Zl.sr (l1 := []) (l2 := []), R, R⟩ fun ap ae w37 K38 S39 f40 => ⟨tv, Jf R (rn_build (parts := [(0, .tmp 15), (1, .tmp 16)]) (cells := [.slice af ([1] : List Int).length ak, .slice ap ([0] : List Int).length ae]) R R (by kernel_rfl)) (Jj1 (κ := K38) 2 (vc := [.slice af ([1] : List Int).length ak, .slice ap ([0] : List Int).length ae]) R R R R R R R Z42 R R (f4.stp (S8.tr (S35.tr S39)) R R) R fun w42 S43 f44 => ⟨tv, Jd (Ju (Ja1 (Jw (Ja2 (l := [.cell 2 42]) V49 (res_cellA R f44 I42 Z42 R R) R ?_))))⟩)⟩⟩))
 cases h
 exact ⟨(fun b => ren [(3, 2), (4, 3)] (K38 b)), af, ak, ap, ae, R, ((hE.stp (S3.tr (S8.tr (S35.tr (S39.tr S43)))) R R).map (ren [(3, 2), (4, 3)]) R R), ((f36.stp (S39.tr S43) R R).map (ren [(3, 2), (4, 3)]) R R), ((f40.stp S43 R R).map (ren [(3, 2), (4, 3)]) R R)⟩
 refine JT fun h => Jx R (Je [1, 2, 1] R (Jn1 (κ := K7) (E := E6) 3 [] (parts := [(0, .const (vi 2))]) (cells := [vi 2]) (xs := ([2] : List Int)) R R R R R R Y24 Tryinfo2 R R R R R R R R R R ⟨[vi 2], [], Zl K7 w6 [], Zl K7 w6 [], R, Zl.sp (l1 := []) (l2 := []) R, Zl.sr (l1 := []) (l2 := []), R, R⟩ fun ad ah w22 K23 S24 f25 => ⟨tv, Jf R (rn_build (parts := [(0, .tmp 11)]) (cells := [.slice ad ([2] : List Int).length ah, .slice none 0 0]) R R (by kernel_rfl)) (Jj1 (κ := K23) 2 (vc := [.slice ad ([2] : List Int).length ah, .slice none 0 0]) R R R R R R R Z42 R R (f4.stp (S8.tr S24) R R) R fun w27 S28 f29 => ⟨tv, Jd (Ju (Ja1 (Jw (Ja2 (l := [.cell 2 42]) V49 (res_cellA R f29 I42 Z42 R R) R ?_))))⟩)⟩))
 cases h
 exact ⟨(fun b => ren [(3, 2)] (K23 b)), ad, ah, none, 0, R, ((hE.stp (S3.tr (S8.tr (S24.tr S28))) R R).map (ren [(3, 2)]) R R), ((f25.stp S28 R R).map (ren [(3, 2)]) R R), Ow.nil⟩
 refine JT fun h => Jx R (Je [1, 2, 1] R (Jn1 (κ := K7) (E := E6) 3 [] (parts := [(0, .const (vi 1))]) (cells := [vi 1]) (xs := ([1] : List Int)) R R R R R R Y24 Tryinfo2 R R R R R R R R R R ⟨[vi 1], [], Zl K7 w6 [], Zl K7 w6 [], R, Zl.sp (l1 := []) (l2 := []) R, Zl.sr (l1 := []) (l2 := []), R, R⟩ fun a7 u7 w11 K12 S13 f14 => ⟨tv, Jf R (rn_build (parts := [(0, .tmp 7)]) (cells := [.slice a7 ([1] : List Int).length u7, .slice none 0 0]) R R (by kernel_rfl)) (Jj1 (κ := K12) 2 (vc := [.slice a7 ([1] : List Int).length u7, .slice none 0 0]) R R R R R R R Z42 R R (f4.stp (S8.tr S13) R R) R fun w16 S17 f18 => ⟨tv, Jd (Ju (Ja1 (Jw (Ja2 (l := [.cell 2 42]) V49 (res_cellA R f18 I42 Z42 R R) R ?_))))⟩)⟩))
 cases h
 exact ⟨(fun b => ren [(3, 2)] (K12 b)), a7, u7, none, 0, R, ((hE.stp (S3.tr (S8.tr (S13.tr S17))) R R).map (ren [(3, 2)]) R R), ((f14.stp S17 R R).map (ren [(3, 2)]) R R), Ow.nil⟩
theorem s_l25States_ok {w : World} {κ : Col} {p0 : Int}  {r : Int} (h : s_l25States p0 = some r) : Ret Try.prog 50 [vi p0] w (fun v w' => ∃ (κ' : Col), v = vi r ∧ Ent κ w κ' w') := by
 unfold s_l25States at h
 refine Ret.enter F50 R N50 R ?_
 dsimp only [envOf]
 have hE := Ent.refl κ w
 refine Je [2] R (Jb 1 R (Jq (Je [2] R (Jb 1 R (Jv (Je [2, 2] R (Jb 2 R ?_)))))))
 revert h
 cases ht1 : (p0 == 2)
 refine JF fun h => Jy R (Je [2, 2] R (Jb 2 R ?_))
 revert h
 cases ht2 : (p0 == 7)
 refine JF fun h => Jy R (Js (Jz (Jp (Je [2] R (Jb 1 R (Ju (Ja2 (l := [.tmp 2]) V50 (Jp2 R R) R ?_)))))))
 cases h
 exact ⟨κ, R, hE⟩
 refine JT fun h => Jx R (Je [2] R (Jb 1 R (Ju (Ja1 (Jw (Ja2 (l := [.tmp 2]) V50 (Jp2 R R) R ?_))))))
 cases h
 exact ⟨κ, R, hE⟩
 refine JT fun h => Jx R (Je [2] R (Jb 1 R (Ju (Ja1 (Jw (Ja2 (l := [.tmp 2]) V50 (Jp2 R R) R ?_))))))
 cases h
 exact ⟨κ, R, hE⟩
theorem s_l1Has_ok {w : World} {κ : Col} {a0 u0} {p0 : (List Int)} {p1 : Int} (g0 : Rd (Rp.int .i64) κ w 0 a0 u0 p0) {r : Bool} (h : s_l1Has p0 p1 = some r) : Ret Try.prog 77 [.slice a0 p0.length u0, vi p1] w (fun v w' => ∃ (κ' : Col), v = .bool r ∧ Ent κ w κ' w') := by
 unfold s_l1Has at h
 refine Ret.enter F77 R N77 R ?_
 dsimp only [envOf]
 have hE := Ent.refl κ w
 refine Je [2] R (Jb 1 R (Jq (Je [2] R (Jb 1 R ?_))))
 have hN1 : (p0.length : Int) ≤ 9223372036854775807 := g0.len_le
 refine Ob h fun q2 hq3 hK2 => ?_
 clear h
 refine Jx1 (fun L w' => ∃ κ', L = [] ∧ Stp [] κ w κ' w' ∧ q2 = Sum.inr ()) ?_ ?_
 refine Jv (Jy1 (fun k L w' => ∃ κ' v5, L = [(0, .slice a0 p0.length u0), (1, vi p1), (5, vi v5)] ∧ Stp [] κ w κ' w' ∧ 0 ≤ v5 ∧ Int.toNat ((p0.length : Int) - v5) = k ∧ cntM (s_l1Has_b0 p0 p1) k v5 () = some q2) ⟨_, _, ⟨κ, 0, R, (Jx2 _ _).wk R, (by decide), (by simp), hq3⟩, (KM R)⟩ ?_)
 rintro k _ w7 ⟨K8, v5, rfl, S9, hj1, hJ1, h⟩
 rcases k with _ | k
 have hk10 := h; obtain ⟨o1, h⟩ := ex_eq (Sum.inr (Sum.inl ()) : Bool ⊕ ((Unit) ⊕ (Unit)))
 have hc1 : decide (v5 < (p0.length : Int)) = false := Jo2 (by omega)
 refine Jq (Je [2, 2, 2, 2] R (Jn 2 R (Jf R (Je2 U24 R R) (Jb 1 R (Jw2 R hc1 (Jc1 (Jt (Jt ?_))))))))
 cases h
 have h := hk10
 refine Jb1 ?_
 cases h
 exact Jw1 _ ⟨K8, R, S9.wk R, R⟩ KN
 obtain ⟨o1, h, hk10⟩ := BI h; unfold s_l1Has_b0 at h
 have hc1 : decide (v5 < (p0.length : Int)) = true := Jn2 (by omega)
 refine Jq (Je [2, 2, 2, 2] R (Jn 2 R (Jf R (Je2 U24 R R) (Jb 1 R (Jv2 R hc1 (Js (Jp (Jq (Jv (Je [2, 2, 2, 1, 2, 2] R (Jn 2 R (Ob h fun x14 hx14 h => Jf R (Jf2 g0 hx14 U24 Z2 R R R R) (Jl tv R R R R (Jc2 I2 R R (hvE ((g0.stp S9 R R).gInt hx14))) (Jb 2 R ?_))))))))))))))
 revert h
 cases ht12 : (x14 == p1)
 refine JF fun h => Jy R (Js (Jz (Jp (Ja [2, 2, 2] R (Jc 3 R ?_)))))
 have hw1 : IntKind.wrap .i64 (v5 + 1) = v5 + 1 := wr1 hj1 (Jm2 hc1) hN1
 rw [hw1]
 have hc1 := Jm2 hc1
 cases h
 exact Jz1 fun a ha => ⟨k, _, Ja3 _, ⟨K8, v5 + 1, R, S9.wk R, by omega, by omega, hk10⟩, (ha.mm R)⟩
 refine JT fun h => Jx R (Je [2] R (Jb 1 R (Ju (Ja1 (Jw (Jw ?_))))))
 cases h
 obtain rfl := Option.some.inj hk10
 have h := hK2
 dsimp only [aft] at h
 refine Ja1 (Jq2 (Jw (Ja2 (l := [.tmp 4]) V77 (Jp2 R R) R ?_)))
 cases h
 exact ⟨K8, R, (hE.stp S9 R R)⟩
 rintro _ w4 ⟨K5, rfl, S6, rfl⟩
 have h := hK2
 dsimp only [aft] at h
 refine Jp (Je [2] R (Jb 1 R (Ju (Ja2 (l := [.tmp 4]) V77 (Jp2 R R) R ?_))))
 cases h
 exact ⟨K5, R, (hE.stp S6 R R)⟩
theorem s_l1Flag_ok {w : World} {κ : Col} {p0 : Bool}  {r : Int} (h : s_l1Flag p0 = some r) : Ret Try.prog 76 [.bool p0] w (fun v w' => ∃ (κ' : Col), v = vi r ∧ Ent κ w κ' w') := by
 unfold s_l1Flag at h
 refine Ret.enter F76 R N76 R ?_
 dsimp only [envOf]
 have hE := Ent.refl κ w
 refine Je [2] R (Jb 1 R (Jq (Je [2] R (Jb 1 R ?_))))
 revert h
 cases ht1 : p0
 refine JF fun h => Jy R (Js (Jp (Je [2] R (Jb 1 R (Ju (Ja2 (l := [.tmp 2]) V76 (Jp2 R R) R ?_))))))
 cases h
 exact ⟨κ, R, hE⟩
 refine JT fun h => Jx R (Je [2] R (Jb 1 R (Ju (Jw (Ja2 (l := [.tmp 2]) V76 (Jp2 R R) R ?_)))))
 cases h
 exact ⟨κ, R, hE⟩
theorem s_l1Max_ok {w : World} {κ : Col} {p0 : Int} {p1 : Int}  {r : Int} (h : s_l1Max p0 p1 = some r) : Ret Try.prog 78 [vi p0, vi p1] w (fun v w' => ∃ (κ' : Col), v = vi r ∧ Ent κ w κ' w') := by
 unfold s_l1Max at h
 refine Ret.enter F78 R N78 R ?_
 dsimp only [envOf]
 have hE := Ent.refl κ w
 refine Je [2] R (Jb 1 R (Jq (Je [2, 2, 2] R (Jb 3 R ?_))))
 revert h
 cases ht1 : decide (p1 < p0)
 refine JF fun h => Jy R (Js (Jp (Je [2, 2] R (Jb 2 R (Ju (Ja2 (l := [.tmp 4]) V78 (Jp2 R R) R ?_))))))
 cases h
 exact ⟨κ, R, hE⟩
 refine JT fun h => Jx R (Je [2, 2] R (Jb 2 R (Ju (Jw (Ja2 (l := [.tmp 4]) V78 (Jp2 R R) R ?_)))))
 cases h
 exact ⟨κ, R, hE⟩
end Go.Proofs.Ytcmamhmpoinmnaa
