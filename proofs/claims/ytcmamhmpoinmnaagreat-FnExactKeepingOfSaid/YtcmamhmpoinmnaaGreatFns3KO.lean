/- The walks, part 3. By program. -/
import Derived.Test.YtcmamhmpoinmnaaGreatFns0KO
import Derived.Test.YtcmamhmpoinmnaaGreatFns1KO
import Derived.Test.YtcmamhmpoinmnaaGreatFns2KO
set_option linter.unusedVariables false
set_option linter.unusedSimpArgs false
namespace Go.Proofs.YtcmamhmpoinmnaaGreat
open Go Go.Wk Go.Proofs
set_option maxRecDepth 100000
set_option maxHeartbeats 1000000
theorem l_szClause_ok {w : World} {κ : Col} {aa ac ad ab} {p0 : Clause} {p1 : Int} (g0_1 : Rd (Rp.int .i64) κ w 0 aa ac p0.A) (g0_2 : Rd (Rp.int .i64) κ w 0 ad ab p0.B) {r : Int} (h : l_szClause p0 p1 = some r) : Ret Tryz.prog 48 [.agg #[vi p0.Kind, .slice aa p0.A.length ac, .slice ad p0.B.length ab], vi p1] w (fun v w' => ∃ (κ' : Col), v = vi r ∧ Ent κ w κ' w') := by
 unfold l_szClause at h
 refine Ret.enter F48 R N48 R ?_
 dsimp only [envOf]
 have hE := Ent.refl κ w
 refine Je [1, 2] R (Jf1 (κ := κ) 2 R R R R R R R fun b2 w1 K2 S3 f4 => ⟨tv, Jb 1 R (Je [2, 1, 2, 1, 2] R (Jf R (Jb2 U78 R Z40 R R) (Jl tv R R R R (Jc2 I40 R R (hvE (f4.ld 1 R R))) (Jn 1 R (Ob h fun x8 hx8 h => Jh R R R C58 (l_szInt64S_ok (κ := fun b => mp [] 0 (K2 b)) (Jl2 (g0_1.stp S3 R R) (mp [] 0) R R) hx8) ?_)))))⟩)
 rintro _ w6 ⟨k7, rfl, e8⟩
 obtain ⟨K9, S10, m11⟩ := Ji e8 3 R
 refine ⟨tv, Jb 1 R (Jq (Je [2, 2] R (Jb 2 R ?_)))⟩
 revert h
 cases ht13 : decide (x8 < 0)
 refine JF fun h => Jy R (Js (Jp (Je [2, 1, 2, 1, 2] R (Jf R (Jb2 U78 R Z40 R R) (Jl tv R R R R (Jc2 I40 R R (hvE ((f4.stp S10 R R).ld 2 R R))) (Jn 1 R (Ob h fun x14 hx14 h => Jh R R R C58 (l_szInt64S_ok (κ := fun b => mp [] 0 (K9 b)) (Jl2 (g0_2.stp (S3.tr S10) R R) (mp [] 0) R R) hx14) ?_)))))))
 rintro _ w17 ⟨k18, rfl, e19⟩
 obtain ⟨K20, S21, m22⟩ := Ji e19 5 R
 refine ⟨tv, Jb 1 R (Jq (Je [2, 2] R (Jb 2 R ?_)))⟩
 revert h
 cases ht24 : decide (x14 < 0)
 refine JF fun h => Jy R (Js (Jp (Je [2, 2] R (Jb 2 R (Ju (Ja2 (l := [.tmp 4]) V48 (Jp2 R R) R ?_))))))
 cases h
 exact ⟨K20, R, (hE.stp (S3.tr (S10.tr S21)) R R)⟩
 refine JT fun h => Jx R (Je [2] R (Jb 1 R (Ju (Jw (Ja2 (l := [.tmp 4]) V48 (Jp2 R R) R ?_)))))
 cases h
 exact ⟨K20, R, (hE.stp (S3.tr (S10.tr S21)) R R)⟩
 refine JT fun h => Jx R (Je [2] R (Jb 1 R (Ju (Jw (Ja2 (l := [.tmp 4]) V48 (Jp2 R R) R ?_)))))
 cases h
 exact ⟨K9, R, (hE.stp (S3.tr S10) R R)⟩
theorem s_l25Next_ok {w : World} {κ : Col} {aa ac ad ab} {p0 : Clause} {p1 : Int} {p2 : Int} (g0_1 : Rd (Rp.int .i64) κ w 0 aa ac p0.A) (g0_2 : Rd (Rp.int .i64) κ w 0 ad ab p0.B) {r : Int} (h : s_l25Next p0 p1 p2 = some r) : Ret Tryz.prog 142 [.agg #[vi p0.Kind, .slice aa p0.A.length ac, .slice ad p0.B.length ab], vi p1, vi p2] w (fun v w' => ∃ (κ' : Col), v = vi r ∧ Ent κ w κ' w') := by
 unfold s_l25Next at h
 refine Ret.enter F142 R N142 R ?_
 dsimp only [envOf]
 have hE := Ent.refl κ w
 refine Je [1, 2] R (Jf1 (κ := κ) 2 R R R R R R R fun b3 w1 K2 S3 f4 => ⟨tv, Jb 1 R (Je [2, 1, 2, 1, 1, 2] R (Jf R (Jb2 U71 R Z40 R R) (Jl tv R R R R (Jc2 I40 R R (hvE (f4.ld 1 R R))) (Jn 1 R (Ob h fun x12 hx12 h => Jh R R R C117 (s_l1Has_ok (κ := fun b => mp [] 0 (K2 b)) (Jl2 (g0_1.stp S3 R R) (mp [] 0) R R) hx12) ?_)))))⟩)
 rintro _ w6 ⟨k7, rfl, e8⟩
 obtain ⟨K9, S10, m11⟩ := Ji e8 3 R
 refine ⟨tv, Ob h fun x13 hx13 h => Jh R R R C167 (s_l1Flag_ok (κ := fun b => mp [] 0 (K9 b)) hx13) ?_⟩
 rintro _ w13 ⟨k14, rfl, e15⟩
 obtain ⟨K16, S17, m18⟩ := Ji e15 5 R
 refine ⟨tv, Jb 1 R (Je [2, 1, 2, 1, 1, 2] R (Jf R (Jb2 U71 R Z40 R R) ?_))⟩
 have f20 := f4.stp (S10.tr S17) R R
 refine Jl tv R R R R (Jc2 I40 R R (hvE (f20.ld 2 R R))) (Jn 1 R (Ob h fun x17 hx17 h => Jh R R R C117 (s_l1Has_ok (κ := fun b => mp [] 0 (K16 b)) (Jl2 (g0_2.stp (S3.tr (S10.tr S17)) R R) (mp [] 0) R R) hx17) ?_))
 rintro _ w22 ⟨k23, rfl, e24⟩
 obtain ⟨K25, S26, m27⟩ := Ji e24 7 R
 refine ⟨tv, Ob h fun x18 hx18 h => Jh R R R C167 (s_l1Flag_ok (κ := fun b => mp [] 0 (K25 b)) hx18) ?_⟩
 rintro _ w29 ⟨k30, rfl, e31⟩
 obtain ⟨K32, S33, m34⟩ := Ji e31 9 R
 refine ⟨tv, Jb 1 R (Jq (Je [2, 1] R (Jf R (Jb2 U71 R Z2 R R) (Jl tv R R R R (Jc2 I2 R R (hvE ((f20.stp (S26.tr S33) R R).ld 0 R R))) (Jd (Jv (Je [2, 2] R (Jb 2 R ?_))))))))⟩
 revert h
 cases ht37 : (p0.Kind == 1)
 refine JF fun h => Jy R (Je [2, 2] R (Jb 2 R ?_))
 revert h
 cases ht46 : (p0.Kind == 2)
 refine JF fun h => Jy R (Je [2, 2] R (Jb 2 R ?_))
 revert h
 cases ht60 : (p0.Kind == 3)
 refine JF fun h => Jy R (Je [2, 2] R (Jb 2 R ?_))
 revert h
 cases ht71 : (p0.Kind == 4)
 refine JF fun h => Jy R (Je [2, 2] R (Jb 2 R ?_))
 revert h
 cases ht73 : (p0.Kind == 5)
 refine JF fun h => Jy R (Je [2, 2] R (Jb 2 R ?_))
 revert h
 cases ht75 : (p0.Kind == 6)
 refine JF fun h => Jy R (Js (Jz (Jp (Je [2, 2, 2, 2, 2] R (Jb 5 R (Ju (Ja2 (l := [.tmp 6]) V142 (Jp2 R R) R ?_)))))))
 cases h
 exact ⟨K32, R, (hE.stp (S3.tr (S10.tr (S17.tr (S26.tr S33)))) R R)⟩
 refine JT fun h => Jx R (Je [2, 2, 1, 2] R (Jn 2 R (Ob h fun x58 hx58 h => Jh R R R C95 (s_l1Max_ok (κ := fun b => mp [] 0 (K32 b)) hx58) ?_)))
 rintro _ w76 ⟨k77, rfl, e78⟩
 obtain ⟨K79, S80, m81⟩ := Ji e78 11 R
 refine ⟨tv, Jb 1 R (Ju (Ja1 (Jw (Ja2 (l := [.tmp 6]) V142 (Jp2 R R) R ?_))))⟩
 cases h
 exact ⟨K79, R, (hE.stp (S3.tr (S10.tr (S17.tr (S26.tr (S33.tr S80))))) R R)⟩
 refine JT fun h => Jx R (Je [2, 2, 2] R (Jb 3 R (Ju (Ja1 (Jw (Ja2 (l := [.tmp 6]) V142 (Jp2 R R) R ?_))))))
 cases h
 exact ⟨K32, R, (hE.stp (S3.tr (S10.tr (S17.tr (S26.tr S33)))) R R)⟩
 refine JT fun h => Jx R (Je [2, 2] R (Jb 2 R (Ju (Ja1 (Jw (Ja2 (l := [.tmp 6]) V142 (Jp2 R R) R ?_))))))
 cases h
 exact ⟨K32, R, (hE.stp (S3.tr (S10.tr (S17.tr (S26.tr S33)))) R R)⟩
 refine JT fun h => Jx R (Jq (Je [2, 2] R (Jb 2 R ?_)))
 revert h
 cases ht61 : (x18 == 1)
 refine JF fun h => Jy R (Js (Jp (Je [2, 2, 1, 2] R (Jn 2 R (Ob h fun x46 hx46 h => Jh R R R C95 (s_l1Max_ok (κ := fun b => mp [] 0 (K32 b)) hx46) ?_)))))
 rintro _ w63 ⟨k64, rfl, e65⟩
 obtain ⟨K66, S67, m68⟩ := Ji e65 11 R
 refine ⟨tv, Jb 1 R (Ju (Ja1 (Jw (Ja2 (l := [.tmp 6]) V142 (Jp2 R R) R ?_))))⟩
 cases h
 exact ⟨K66, R, (hE.stp (S3.tr (S10.tr (S17.tr (S26.tr (S33.tr S67))))) R R)⟩
 refine JT fun h => Jx R (Je [2] R (Jb 1 R (Ju (Jw (Ja1 (Jw (Ja2 (l := [.tmp 6]) V142 (Jp2 R R) R ?_)))))))
 cases h
 exact ⟨K32, R, (hE.stp (S3.tr (S10.tr (S17.tr (S26.tr S33)))) R R)⟩
 refine JT fun h => Jx R (Jq (Je [2, 2, 2, 2, 2, 2, 2, 2, 2, 2] R (Jn 3 R (Ob h fun p38 h hK47 => Ju1 [(3, 2), (4, 2), (5, 2), (6, 2), (7, 2), (8, 2), (9, 2)] [] (fun L w' => L = [(7, vi x13), (38, .bool p38)] ∧ ∃ κ', Stp [] K32 w29 κ' w') tv ?_ ?_))))
 revert h
 cases ht48 : (p1 == 2)
 refine JF fun h => Jn 3 R (Ob h fun p37 h hK49 => Ju1 [(6, 2), (7, 2), (8, 2)] [(9, 2)] (fun L w' => L = [(7, vi x13), (31, .bool false), (37, .bool p37)] ∧ ∃ κ', Stp [] K32 w29 κ' w') tv ?_ ?_)
 revert h
 cases ht50 : (p1 == 1)
 refine JF fun h => Jn 3 R ?_
 cases h
 exact Jv1 _ tv ⟨R, _, (Jx2 _ _).wk R⟩ (KM R)
 refine JT fun h => Jn 3 R ?_
 cases h
 exact Jv1 _ tv ⟨R, _, (Jx2 _ _).wk R⟩ (KM R)
 rintro _ w51 _ ⟨rfl, K52, S53⟩
 have h := hK49
 refine Jn 1 R ?_
 cases h
 exact Jv1 _ tv ⟨R, _, S53.wk R⟩ (KM R)
 refine JT fun h => Jn 7 R ?_
 cases h
 exact Jv1 _ tv ⟨R, _, (Jx2 _ _).wk R⟩ (KM R)
 rintro _ w54 _ ⟨rfl, K55, S56⟩
 have h := hK47
 refine Jd ?_
 revert h
 cases ht57 : p38
 refine JF fun h => Jy R (Js (Jp (Je [2, 2] R (Jb 2 R (Ju (Ja1 (Jw (Ja2 (l := [.tmp 6]) V142 (Jp2 R R) R ?_))))))))
 cases h
 exact ⟨K55, R, (hE.stp (S3.tr (S10.tr (S17.tr (S26.tr (S33.tr S56))))) R R)⟩
 refine JT fun h => Jx R (Je [2] R (Jb 1 R (Ju (Jw (Ja1 (Jw (Ja2 (l := [.tmp 6]) V142 (Jp2 R R) R ?_)))))))
 cases h
 exact ⟨K55, R, (hE.stp (S3.tr (S10.tr (S17.tr (S26.tr (S33.tr S56))))) R R)⟩
 refine JT fun h => Jx R (Je [2, 2, 2, 1, 2] R (Jn 3 R (Ob h fun x26 hx26 h => Jh R R R C95 (s_l1Max_ok (κ := fun b => mp [] 0 (K32 b)) hx26) ?_)))
 rintro _ w38 ⟨k39, rfl, e40⟩
 obtain ⟨K41, S42, m43⟩ := Ji e40 11 R
 refine ⟨tv, Jb 1 R (Ju (Ja1 (Jw (Ja2 (l := [.tmp 6]) V142 (Jp2 R R) R ?_))))⟩
 cases h
 exact ⟨K41, R, (hE.stp (S3.tr (S10.tr (S17.tr (S26.tr (S33.tr S42))))) R R)⟩
theorem s_l23Below_ok {w : World} {κ : Col} {a0 u0} {p0 : (List Int)} {p1 : Int} (g0 : Rd (Rp.int .i64) κ w 0 a0 u0 p0) {r : Bool} (h : s_l23Below p0 p1 = some r) : Ret Tryz.prog 112 [.slice a0 p0.length u0, vi p1] w (fun v w' => ∃ (κ' : Col), v = .bool r ∧ Ent κ w κ' w') := by
 unfold s_l23Below at h
 refine Ret.enter F112 R N112 R ?_
 dsimp only [envOf]
 have hE := Ent.refl κ w
 refine Je [2] R (Jb 1 R (Jq (Je [2] R (Jb 1 R ?_))))
 have hN1 : (p0.length : Int) ≤ 9223372036854775807 := g0.len_le
 refine Ob h fun q2 hq3 hK2 => ?_
 clear h
 refine Jx1 (fun L w' => ∃ κ', L = [] ∧ Stp [] κ w κ' w' ∧ q2 = Sum.inr ()) ?_ ?_
 refine Jv (Jy1 (fun k L w' => ∃ κ' v5, L = [(0, .slice a0 p0.length u0), (1, vi p1), (5, vi v5)] ∧ Stp [] κ w κ' w' ∧ 0 ≤ v5 ∧ Int.toNat ((p0.length : Int) - v5) = k ∧ cntM (s_l23Below_b0 p0 p1) k v5 () = some q2) ⟨_, _, ⟨κ, 0, R, (Jx2 _ _).wk R, (by decide), (by simp), hq3⟩, (KM R)⟩ ?_)
 rintro k _ w7 ⟨K8, v5, rfl, S9, hj1, hJ1, h⟩
 rcases k with _ | k
 have hk10 := h; obtain ⟨o1, h⟩ := ex_eq (Sum.inr (Sum.inl ()) : Bool ⊕ ((Unit) ⊕ (Unit)))
 have hc1 : decide (v5 < (p0.length : Int)) = false := Jo2 (by omega)
 refine Jq (Je [2, 2, 2, 2] R (Jn 2 R (Jf R (Je2 U40 R R) (Jb 1 R (Jw2 R hc1 (Jc1 (Jt (Jt ?_))))))))
 cases h
 have h := hk10
 refine Jb1 ?_
 cases h
 exact Jw1 _ ⟨K8, R, S9.wk R, R⟩ KN
 obtain ⟨o1, h, hk10⟩ := BI h; unfold s_l23Below_b0 at h
 have hc1 : decide (v5 < (p0.length : Int)) = true := Jn2 (by omega)
 refine Jq (Je [2, 2, 2, 2] R (Jn 2 R (Jf R (Je2 U40 R R) (Jb 1 R (Jv2 R hc1 (Js (Jp (Jq (Jv (Je [2, 2, 2, 1, 2, 2, 1, 2] R (Jn 2 R (Ob h fun x14 hx14 h => Jf R (Jf2 g0 hx14 U40 Z2 R R R R) (Jl tv R R R R (Jc2 I2 R R (hvE ((g0.stp S9 R R).gInt hx14))) (Jn 2 R (Ob h fun x18 hx18 h => Jh R R R C77 (s_l1In_ok (κ := fun b => mp [] 0 (K8 b)) hx18) ?_)))))))))))))))
 rintro _ w12 ⟨k13, rfl, e14⟩
 obtain ⟨K15, S16, m17⟩ := Ji e14 2 R
 refine ⟨tv, Jb 1 R ?_⟩
 revert h
 cases ht19 : (!x18)
 refine JF fun h => Jy R (Js (Jz (Jp (Ja [2, 2, 2] R (Jc 3 R ?_)))))
 have hw1 : IntKind.wrap .i64 (v5 + 1) = v5 + 1 := wr1 hj1 (Jm2 hc1) hN1
 rw [hw1]
 have hc1 := Jm2 hc1
 cases h
 exact Jz1 fun a ha => ⟨k, _, Ja3 _, ⟨K15, v5 + 1, R, (S9.tr S16).wk R, by omega, by omega, hk10⟩, (ha.mm R)⟩
 refine JT fun h => Jx R (Je [2] R (Jb 1 R (Ju (Ja1 (Jw (Jw ?_))))))
 cases h
 obtain rfl := Option.some.inj hk10
 have h := hK2
 dsimp only [aft] at h
 refine Ja1 (Jq2 (Jw (Ja2 (l := [.tmp 4]) V112 (Jp2 R R) R ?_)))
 cases h
 exact ⟨K15, R, (hE.stp (S9.tr S16) R R)⟩
 rintro _ w4 ⟨K5, rfl, S6, rfl⟩
 have h := hK2
 dsimp only [aft] at h
 refine Jp (Je [2] R (Jb 1 R (Ju (Ja2 (l := [.tmp 4]) V112 (Jp2 R R) R ?_))))
 cases h
 exact ⟨K5, R, (hE.stp S6 R R)⟩
theorem s_l26Pairs_ok {w : World} {κ : Col} {a0 u0} {p0 : (List Pair)} {a1 u1} {p1 : (List (List Int))} {p2 : Int} (g0 : Rd Pair.rp κ w 0 a0 u0 p0) (g1 : Rd (Rp.sl (Rp.int .i64)) κ w 0 a1 u1 p1) {r : (List Pair)} (h : s_l26Pairs p0 p1 p2 = some r) : Ret Tryz.prog 66 [.slice a0 p0.length u0, .slice a1 p1.length u1, vi p2] w (fun v w' => ∃ (κ' : Col) (ra0 : Option Addr) (ru0 : Nat), v = .slice ra0 r.length ru0 ∧ Ent κ w κ' w' ∧ Oc Pair.ep92 92 κ' w' 2 ra0 ru0 r) := by
 unfold s_l26Pairs at h
 refine Ret.enter F66 R N66 R ?_
 dsimp only [envOf]
 have hE := Ent.refl κ w
 refine Je [2] R (Jb 1 R (Je [1, 2] R (Jo1 (κ := κ) (E := Pair.ep92) 2 R R R R R Y79 Tryzinfo92 R fun aA ax w1 K2 S3 f4 => ⟨tv, Jb 1 R (Jq (Je [2] R (Jb 1 R ?_)))⟩)))
 have hN5 : (p0.length : Int) ≤ 9223372036854775807 := g0.len_le
 refine Ob h fun q2 hq7 hK6 => ?_
 clear h
 refine Jx1 (fun L w' => ∃ κ', ∃ s3 : (List Pair), ∃ an ao, L = [(7, .slice an s3.length ao)] ∧ Stp [2, 3, 4, 5, 6] K2 w1 κ' w' ∧ Oc Pair.ep92 92 κ' w' 2 an ao s3 ∧ q2 = Sum.inr s3) ?_ ?_
 refine Jv (Jy1 (fun k L w' => ∃ κ' v8, ∃ s1 : (List Pair), ∃ aa ab, L = [(0, .slice a0 p0.length u0), (1, .slice a1 p1.length u1), (2, vi p2), (7, .slice aa s1.length ab), (8, vi v8)] ∧ Stp [2, 3, 4, 5, 6] K2 w1 κ' w' ∧ Oc Pair.ep92 92 κ' w' 2 aa ab s1 ∧ 0 ≤ v8 ∧ Int.toNat ((p0.length : Int) - v8) = k ∧ cntM (s_l26Pairs_b0 p0 p1 p2) k v8 s1 = some q2) ⟨_, _, ⟨K2, 0, (([] : List Pair) : (List Pair)), aA, ax, R, (Jx2 _ _).wk R, f4, (by decide), (by simp), hq7⟩, (KM R)⟩ ?_)
 rintro k _ w12 ⟨K13, v8, s1, aa, ab, rfl, S14, f15, hj5, hJ5, h⟩
 rcases k with _ | k
 have hk16 := h; obtain ⟨o5, h⟩ := ex_eq (Sum.inr (Sum.inl s1) : (List Pair) ⊕ (((List Pair)) ⊕ ((List Pair))))
 have hc5 : decide (v8 < (p0.length : Int)) = false := Jo2 (by omega)
 refine Jq (Je [2, 2, 2, 2] R (Jn 2 R (Jf R (Je2 U79 R R) (Jb 1 R (Jw2 R hc5 (Jc1 (Jt (Jt ?_))))))))
 cases h
 have h := hk16
 refine Jb1 ?_
 cases h
 exact Jw1 _ ⟨K13, (s1 : (List Pair)), aa, ab, R, S14.wk R, f15, R⟩ (KM R)
 obtain ⟨o5, h, hk16⟩ := BI h; unfold s_l26Pairs_b0 at h
 have hc5 : decide (v8 < (p0.length : Int)) = true := Jn2 (by omega)
 refine Jq (Je [2, 2, 2, 2] R (Jn 2 R (Jf R (Je2 U79 R R) (Jb 1 R (Jv2 R hc5 (Js (Jp (Jq (Jv (Je [2, 1, 1] R (Jf R (rn_build (parts := []) (cells := [.slice none 0 0, .slice none 0 0]) R R (by kernel_rfl)) (Jg1 (κ := K13) 3 R R R R R X92 R fun b9 w17 K18 S19 f20 => ⟨tv, Jj1 (κ := K18) 3 (vc := [.slice none 0 0, .slice none 0 0]) R R R R R R R Z92 R R f20 R fun w21 S22 f23 => ⟨tv, Jd (Jq (Je [2] R (Jb 1 R ?_)))⟩⟩))))))))))))
 have hN24 : (p1.length : Int) ≤ 9223372036854775807 := g1.len_le
 refine Ob h fun q5 hq26 hK25 => ?_
 clear h
 refine Jx1 (fun L w' => ∃ κ', ∃ s6 : (List Int) × (List Int), ∃ af ad ac ah, L = [(0, .slice a0 p0.length u0), (1, .slice a1 p1.length u1), (2, vi p2), (7, .slice aa s1.length ab), (8, vi v8), (9, .pointer (some ⟨b9, 0, none⟩))] ∧ Stp [3, 4, 5] K18 w21 κ' w' ∧ Oc E6 2 κ' w' 4 af ad s6.1 ∧ Oc E6 2 κ' w' 5 ac ah s6.2 ∧ Bc κ' w' 3 b9 92 [.slice af s6.1.length ad, .slice ac s6.2.length ah] ∧ q5 = Sum.inr s6) ?_ ?_
 refine Jv (Jy1 (fun k L w' => ∃ κ' v10, ∃ s4 : (List Int) × (List Int), ∃ am al ae ai, L = [(0, .slice a0 p0.length u0), (1, .slice a1 p1.length u1), (2, vi p2), (7, .slice aa s1.length ab), (8, vi v8), (9, .pointer (some ⟨b9, 0, none⟩)), (10, vi v10)] ∧ Stp [3, 4, 5] K18 w21 κ' w' ∧ Oc E6 2 κ' w' 4 am al s4.1 ∧ Oc E6 2 κ' w' 5 ae ai s4.2 ∧ Bc κ' w' 3 b9 92 [.slice am s4.1.length al, .slice ae s4.2.length ai] ∧ 0 ≤ v10 ∧ Int.toNat ((p1.length : Int) - v10) = k ∧ cntM (s_l26Pairs_b2 p0 p1 p2 v8) k v10 s4 = some q5) ⟨_, _, ⟨K18, 0, ((([] : List Int) : (List Int)), (([] : List Int) : (List Int))), none, 0, none, 0, R, (Jx2 _ _).wk R, Ow.nil, Ow.nil, f23, (by decide), (by simp), hq26⟩, (KM R)⟩ ?_)
 rintro k _ w33 ⟨K34, v10, s4, am, al, ae, ai, rfl, S35, f36, f37, f38, hj24, hJ24, h⟩
 rcases k with _ | k
 have hk39 := h; obtain ⟨o24, h⟩ := ex_eq (Sum.inr (Sum.inl s4) : (List Pair) ⊕ (((List Int) × (List Int)) ⊕ ((List Int) × (List Int))))
 have hc24 : decide (v10 < (p1.length : Int)) = false := Jo2 (by omega)
 refine Jq (Je [2, 2, 2, 2] R (Jn 2 R (Jf R (Je2 U24 R R) (Jb 1 R (Jw2 R hc24 (Jc1 (Jt (Jt ?_))))))))
 cases h
 have h := hk39
 refine Jb1 ?_
 cases h
 exact Jw1 _ ⟨K34, ((s4.1 : (List Int)), (s4.2 : (List Int))), am, al, ae, ai, R, S35.wk R, f36, f37, f38, R⟩ (KM R)
 obtain ⟨o24, h, hk39⟩ := BI h; unfold s_l26Pairs_b2 at h
 have hc24 : decide (v10 < (p1.length : Int)) = true := Jn2 (by omega)
 refine Jq (Je [2, 2, 2, 2] R (Jn 2 R (Jf R (Je2 U24 R R) (Jb 1 R (Jv2 R hc24 (Js (Jp (Jq (Jv (Jq (Jq (Js1 (κ := K34) [0] none [(0, 2), (1, 2), (2, 2), (3, 2), (5, 2), (6, 2), (7, 2), (9, 2), (4, 0), (8, 0), (10, 2), (11, 0), (12, 1)] [] (by kernel_rfl) (by kernel_rfl) fun w41 S40 => Jn 2 R (Ob h fun x27 hx27 h => Jf R (Jf2 g0 hx27 U79 Z92 R R R R) (Jf R (Jb2 U92 R Z40 R R) (Jn 2 R (Ob h fun x32 hx32 h => Jf R (Jf2 g1 hx32 U24 Z40 R R R R) (Jn 1 R ?_)))))))))))))))))
 have f42 := g0.stp (S3.tr (S14.tr (S19.tr (S22.tr (S35.tr S40))))) R R
 obtain ⟨cse43, hre43, hle43⟩ := (f42).gSt hx27
 obtain ⟨ae43_0, ue43_0, ae43_1, ue43_1, rfl, fe43_0, fe43_1⟩ := Pair.un hre43
 refine Jg R (Jc2 I40 R R (hvC (fun w' hw' => hle43 w' hw' 0 _ R) R)) ?_
 have f44 := g1.stp (S3.tr (S14.tr (S19.tr (S22.tr (S35.tr S40))))) R R
 obtain ⟨ax32, ux32, f45, hl46⟩ := f44.gSl hx32
 refine Jg R (Jc2 I40 R R (hvC hl46 R)) (Ob h fun x35 hx35 h => Jf R (Jf2 f45 hx35 U40 Z2 R R R R) (Jg R (Jc2 I2 R R (hvC (f45.gInt hx35) R)) (Ob h fun x37 hx37 h => Jh R R R C117 (s_l1Has_ok (κ := fun b => mp [] 0 (K34 b)) (Jl2 fe43_0 (mp [] 0) R R) hx37) ?_)))
 rintro _ w47 ⟨k48, rfl, e49⟩
 obtain ⟨K50, S51, m52⟩ := Ji e49 6 R
 refine ⟨(S51.cl R), Jt1 (Jd (Ob h fun q7 h hK54 => Jx1 (fun L w' => ∃ κ' aj ak, L = [(0, .slice a0 p0.length u0), (1, .slice a1 p1.length u1), (2, vi p2), (7, .slice aa s1.length ab), (8, vi v8), (9, .pointer (some ⟨b9, 0, none⟩)), (10, vi v10)] ∧ Stp [3, 4] K50 w47 κ' w' ∧ Oc E6 2 κ' w' 4 aj ak q7 ∧ Bc κ' w' 3 b9 92 [.slice aj q7.length ak, .slice ae s4.2.length ai]) ?_ ?_))⟩
 revert h
 cases ht60 : x37
 refine JF fun h => Jy R (Js ?_)
 cases h
 exact Jw1 _ ⟨K50, am, al, R, (Jx2 _ _).wk R, (f36.stp (S40.tr S51) R R), (f38.stp (S40.tr S51) R R)⟩ (KM R)
 refine JT fun h => Jx R (Ja [2, 1, 2, 1, 1, 2, 1] R (Jf R (Jb2 U92 R Z40 R R) ?_))
 have f61 := f38.stp (S40.tr S51) R R
 refine Jl tv R R R R (Jc2 I40 R R (hvE (f61.ld 0 R R))) (Jn 1 R (Jn1 (κ := K50) (E := E6) 8 [] (parts := [(0, .tmp 40)]) (cells := [vi v10]) (xs := ([v10] : List Int)) R R R R R R Y40 Tryzinfo2 R R R R R R R R R R ⟨[vi v10], [], Zl K50 w47 [], Zl K50 w47 [], R, Zl.sp (l1 := []) (l2 := []) R, Zl.sr (l1 := []) (l2 := []), R, R⟩ fun aG aD w62 K63 S64 f65 => ⟨tv, Ob h fun x42 hx42 h => Jm1 (κ := K63) (E := E6) 4 [] R R R R R R R R R Y40 Tryzinfo2 R R R R (f36.stp (S40.tr (S51.tr S64)) R R) (Sl.srcP (pu_int _) f65.rdc) sy_false hx42 R fun au ar w67 K68 S69 f70 => ⟨tv, Jf R (Jb2 U92 R Z40 R R) (Ji1 (κ := K68) 3 (off := 0) (vc := [.slice au x42.length ar]) (cs' := [.slice au x42.length ar, .slice ae s4.2.length ai]) R R R R R R R Z40 R R (f61.stp (S64.tr S69) R R) R R fun w72 S73 f74 => ⟨tv, Jo ?_⟩)⟩⟩))
 cases h
 exact Jw1 _ ⟨K68, au, ar, R, (S64.tr (S69.tr S73)).wk R, (f70.stp S73 R R), f74⟩ (KM R)
 rintro _ w55 ⟨K56, aj, ak, rfl, S57, f58, f59⟩
 have h := hK54
 refine Jp (Jq (Js1 (κ := K56) [0] none [(0, 2), (1, 2), (2, 2), (3, 2), (5, 2), (6, 2), (7, 2), (9, 2), (4, 0), (8, 0), (10, 2), (11, 0), (12, 1)] [] (by kernel_rfl) (by kernel_rfl) fun w79 S78 => Jn 2 R (Ob h fun x46 hx46 h => Jf R (Jf2 f42 hx46 U79 Z92 R R R R) (Jf R (Jb2 U92 R Z40 R R) (Jn 2 R (Ob h fun x51 hx51 h => Jf R (Jf2 f44 hx51 U24 Z40 R R R R) (Jn 1 R ?_)))))))
 obtain ⟨cse81, hre81, hle81⟩ := ((f42.stp (S51.tr (S57.tr S78)) R R)).gSt hx46
 obtain ⟨ae81_0, ue81_0, ae81_1, ue81_1, rfl, fe81_0, fe81_1⟩ := Pair.un hre81
 refine Jg R (Jc2 I40 R R (hvC (fun w' hw' => hle81 w' hw' 1 _ R) R)) ?_
 obtain ⟨ax51, ux51, f83, hl84⟩ := (f44.stp (S51.tr (S57.tr S78)) R R).gSl hx51
 refine Jg R (Jc2 I40 R R (hvC hl84 R)) (Ob h fun x54 hx54 h => Jf R (Jf2 f83 hx54 U40 Z2 R R R R) (Jg R (Jc2 I2 R R (hvC (f83.gInt hx54) R)) (Ob h fun x56 hx56 h => Jh R R R C117 (s_l1Has_ok (κ := fun b => mp [] 0 (K56 b)) (Jl2 fe81_1 (mp [] 0) R R) hx56) ?_)))
 rintro _ w85 ⟨k86, rfl, e87⟩
 obtain ⟨K88, S89, m90⟩ := Ji e87 8 R
 refine ⟨(S89.cl R), Jt1 (Jd (Ob h fun q8 h hK92 => Jx1 (fun L w' => ∃ κ' aq ap, L = [(0, .slice a0 p0.length u0), (1, .slice a1 p1.length u1), (2, vi p2), (7, .slice aa s1.length ab), (8, vi v8), (9, .pointer (some ⟨b9, 0, none⟩)), (10, vi v10)] ∧ Stp [3, 5] K88 w85 κ' w' ∧ Oc E6 2 κ' w' 5 aq ap q8 ∧ Bc κ' w' 3 b9 92 [.slice aj q7.length ak, .slice aq q8.length ap]) ?_ ?_))⟩
 revert h
 cases ht98 : x56
 refine JF fun h => Jy R (Js ?_)
 cases h
 exact Jw1 _ ⟨K88, ae, ai, R, (Jx2 _ _).wk R, (f37.stp (S40.tr (S51.tr (S57.tr (S78.tr S89)))) R R), (f59.stp (S78.tr S89) R R)⟩ (KM R)
 refine JT fun h => Jx R (Ja [2, 1, 2, 1, 1, 2, 1] R (Jf R (Jb2 U92 R Z40 R R) ?_))
 have f99 := f59.stp (S78.tr S89) R R
 refine Jl tv R R R R (Jc2 I40 R R (hvE (f99.ld 1 R R))) (Jn 1 R (Jn1 (κ := K88) (E := E6) 10 [] (parts := [(0, .tmp 59)]) (cells := [vi v10]) (xs := ([v10] : List Int)) R R R R R R Y40 Tryzinfo2 R R R R R R R R R R ⟨[vi v10], [], Zl K88 w85 [], Zl K88 w85 [], R, Zl.sp (l1 := []) (l2 := []) R, Zl.sr (l1 := []) (l2 := []), R, R⟩ fun aC aE w100 K101 S102 f103 => ⟨tv, Ob h fun x61 hx61 h => Jm1 (κ := K101) (E := E6) 5 [] R R R R R R R R R Y40 Tryzinfo2 R R R R (f37.stp (S40.tr (S51.tr (S57.tr (S78.tr (S89.tr S102))))) R R) (Sl.srcP (pu_int _) f103.rdc) sy_false hx61 R fun av aw w105 K106 S107 f108 => ⟨tv, Jf R (Jb2 U92 R Z40 R R) (Ji1 (κ := K106) 3 (off := 1) (vc := [.slice av x61.length aw]) (cs' := [.slice aj q7.length ak, .slice av x61.length aw]) R R R R R R R Z40 R R (f99.stp (S102.tr S107) R R) R R fun w110 S111 f112 => ⟨tv, Jo ?_⟩)⟩⟩))
 cases h
 exact Jw1 _ ⟨K106, av, aw, R, (S102.tr (S107.tr S111)).wk R, (f108.stp S111 R R), f112⟩ (KM R)
 rintro _ w93 ⟨K94, aq, ap, rfl, S95, f96, f97⟩
 have h := hK92
 refine Jz (Jp (Ja [2, 2, 2] R (Jc 3 R ?_)))
 have hw24 : IntKind.wrap .i64 (v10 + 1) = v10 + 1 := wr1 hj24 (Jm2 hc24) hN24
 rw [hw24]
 have hc24 := Jm2 hc24
 cases h
 exact Jz1 fun a ha => ⟨k, _, Ja3 _, ⟨K94, v10 + 1, ((q7 : (List Int)), (q8 : (List Int))), aj, ak, aq, ap, R, (S35.tr (S40.tr (S51.tr (S57.tr (S78.tr (S89.tr S95)))))).wk R, (f58.stp (S78.tr (S89.tr S95)) R R), f96, f97, by omega, by omega, hk39⟩, (ha.mm R)⟩
 rintro _ w27 ⟨K28, s6, af, ad, ac, ah, rfl, S29, f30, f31, f32, rfl⟩
 have h := hK25
 dsimp only [aft] at h
 refine Jp (Ja [2, 1, 1, 1, 2] R (Jn 1 R (Jl tv R R R R (Jd2 (cs := [.slice af s6.1.length ad, .slice ac s6.2.length ah]) I92 Z92 R R R (haE f32.cells)) (Jn1 (κ := K28) (E := Pair.ep92) 6 [4, 5] (parts := [(0, .tmp 64)]) (cells := [.slice af s6.1.length ad, .slice ac s6.2.length ah]) (xs := ([(⟨s6.1, s6.2⟩ : Pair)] : List Pair)) R R R R R R Y79 Tryzinfo92 R R R R R R R R R R ⟨[.slice af s6.1.length ad, .slice ac s6.2.length ah], [], Zl K28 w27 [4, 5], Zl K28 w27 [], R, Zl.sp (l1 := [4, 5]) (l2 := []) R, Zl.sr (l1 := [4, 5]) (l2 := []), ⟨[.slice af s6.1.length ad], [.slice ac s6.2.length ah], Zl K28 w27 [4], Zl K28 w27 [5], R, Zl.sp (l1 := [4]) (l2 := [5]) R, Zl.sr (l1 := [4]) (l2 := [5]), ⟨_, _, R, f30⟩, ⟨_, _, R, f31⟩⟩, R⟩ fun aF aB w117 K118 S119 f120 => ⟨tv, Ob h fun x66 hx66 h => Jm1 (κ := K118) (E := Pair.ep92) 2 [6] R R R R R R R R R Y79 Tryzinfo92 R R R R (f15.stp (S19.tr (S22.tr (S29.tr S119))) R R) f120.src (sy_one R) hx66 R fun ay az w122 K123 S124 f125 => ⟨tv, Jc 1 R (Jz (Jp (Ja [2, 2, 2] R (Jc 3 R ?_))))⟩⟩))))
 have hw5 : IntKind.wrap .i64 (v8 + 1) = v8 + 1 := wr1 hj5 (Jm2 hc5) hN5
 rw [hw5]
 have hc5 := Jm2 hc5
 cases h
 exact Jz1 fun a ha => ⟨k, _, Ja3 _, ⟨K123, v8 + 1, (x66 : (List Pair)), ay, az, R, (S14.tr (S19.tr (S22.tr (S29.tr (S119.tr S124))))).wk R, f125, by omega, by omega, hk16⟩, (ha.mm R)⟩
 rintro _ w8 ⟨K9, s3, an, ao, rfl, S10, f11, rfl⟩
 have h := hK6
 dsimp only [aft] at h
 refine Jp (Je [2, 2] R (Jb 2 R (Ju (Ja2 (l := [.tmp 6]) V66 (Jp2 R R) R ?_))))
 cases h
 exact ⟨K9, an, ao, R, (hE.stp (S3.tr S10) R R), f11⟩
theorem s_l29Ins_ok {w : World} {κ : Col} {p0 : Sig}  {r : Int} (h : s_l29Ins p0 = some r) : Ret Tryz.prog 134 [.agg #[vi p0.In, vi p0.Out]] w (fun v w' => ∃ (κ' : Col), v = vi r ∧ Ent κ w κ' w') := by
 unfold s_l29Ins at h
 refine Ret.enter F134 R N134 R ?_
 dsimp only [envOf]
 have hE := Ent.refl κ w
 refine Je [1, 2] R (Jf1 (κ := κ) 2 R R R R R R R fun b1 w1 K2 S3 f4 => ⟨tv, Jb 1 R (Je [2, 1, 1, 2] R (Jf R (Jb2 U31 R Z2 R R) (Jl tv R R R R (Jc2 I2 R R (hvE (f4.ld 0 R R))) (Ob h fun x5 hx5 h => Jh R R R C93 (s_l23Power_ok (κ := fun b => mp [] 0 (K2 b)) hx5) ?_))))⟩)
 rintro _ w5 ⟨k6, rfl, e7⟩
 obtain ⟨K8, S9, m10⟩ := Ji e7 3 R
 refine ⟨tv, Jb 1 R (Ju (Ja2 (l := [.tmp 2]) V134 (Jp2 R R) R ?_))⟩
 cases h
 exact ⟨K8, R, (hE.stp (S3.tr S9) R R)⟩
theorem s_l30Part_ok {w : World} {κ : Col} {ak al an aj am ao ah ai} {p0 : l30Graph} {a1 u1} {p1 : (List Int)} (g0_0 : Rd (Rp.int .i64) κ w 0 ak al p0.of) (g0_1 : Rd (Rp.int .i64) κ w 0 an aj p0.by0) (g0_2 : Rd (Rp.sl (Rp.int .i64)) κ w 0 am ao p0.next) (g0_3 : Rd (Rp.sl (Rp.int .i64)) κ w 0 ah ai p0.letters) (g1 : Rd (Rp.int .i64) κ w 0 a1 u1 p1) {r : (List Int)} (h : s_l30Part p0 p1 = some r) : Ret Tryz.prog 137 [.agg #[.slice ak p0.of.length al, .slice an p0.by0.length aj, .slice am p0.next.length ao, .slice ah p0.letters.length ai], .slice a1 p1.length u1] w (fun v w' => ∃ (κ' : Col) (ra0 : Option Addr) (ru0 : Nat), v = .slice ra0 r.length ru0 ∧ Ent κ w κ' w' ∧ Oc E6 2 κ' w' 2 ra0 ru0 r) := by
 unfold s_l30Part at h
 refine Ret.enter F137 R N137 R ?_
 dsimp only [envOf]
 have hE := Ent.refl κ w
 refine Je [1, 2] R (Jf1 (κ := κ) 2 R R R R R R R fun b2 w1 K2 S3 f4 => ⟨tv, Jb 1 R (Je [1, 2] R (Jo1 (κ := K2) (E := E6) 3 R R R R R Y40 Tryzinfo2 R fun a7 u7 w5 K6 S7 f8 => ⟨tv, Jb 1 R (Jq (Je [2] R (Jb 1 R ?_)))⟩))⟩)
 have hN9 : (p0.by0.length : Int) ≤ 9223372036854775807 := g0_1.len_le
 refine Ob h fun q2 hq11 hK10 => ?_
 clear h
 refine Jx1 (fun L w' => ∃ κ', ∃ s3 : (List Int), ∃ ac ad, L = [(5, .slice ac s3.length ad)] ∧ Stp [3] K6 w5 κ' w' ∧ Oc E6 2 κ' w' 3 ac ad s3 ∧ q2 = Sum.inr s3) ?_ ?_
 refine Jv (Jy1 (fun k L w' => ∃ κ' v6, ∃ s1 : (List Int), ∃ aa ab, L = [(1, .slice a1 p1.length u1), (2, .pointer (some ⟨b2, 0, none⟩)), (5, .slice aa s1.length ab), (6, vi v6)] ∧ Stp [3] K6 w5 κ' w' ∧ Oc E6 2 κ' w' 3 aa ab s1 ∧ 0 ≤ v6 ∧ Int.toNat ((p0.by0.length : Int) - v6) = k ∧ cntM (s_l30Part_b0 p0 p1) k v6 s1 = some q2) ⟨_, _, ⟨K6, 0, (([] : List Int) : (List Int)), a7, u7, R, (Jx2 _ _).wk R, f8, (by decide), (by simp), hq11⟩, (KM R)⟩ ?_)
 rintro k _ w16 ⟨K17, v6, s1, aa, ab, rfl, S18, f19, hj9, hJ9, h⟩
 rcases k with _ | k
 have hk20 := h; obtain ⟨o9, h⟩ := ex_eq (Sum.inr (Sum.inl s1) : (List Int) ⊕ (((List Int)) ⊕ ((List Int))))
 have hc9 : decide (v6 < (p0.by0.length : Int)) = false := Jo2 (by omega)
 refine Jq (Je [2, 2, 1, 2, 2] R (Jn 1 R (Jf R (Jb2 U158 R Z40 R R) (Jl tv R R R R (Jc2 I40 R R (hvE ((f4.stp (S7.tr S18) R R).ld 1 R R))) (Jf R (Je2 U40 R R) (Jb 1 R (Jw2 R hc9 (Jc1 (Jt (Jt ?_))))))))))
 cases h
 have h := hk20
 refine Jb1 ?_
 cases h
 exact Jw1 _ ⟨K17, (s1 : (List Int)), aa, ab, R, S18.wk R, f19, R⟩ (KM R)
 obtain ⟨o9, h, hk20⟩ := BI h; unfold s_l30Part_b0 at h
 have hc9 : decide (v6 < (p0.by0.length : Int)) = true := Jn2 (by omega)
 refine Jq (Je [2, 2, 1, 2, 2] R (Jn 1 R (Jf R (Jb2 U158 R Z40 R R) ?_)))
 have f22 := f4.stp (S7.tr S18) R R
 refine Jl tv R R R R (Jc2 I40 R R (hvE (f22.ld 1 R R))) (Jf R (Je2 U40 R R) (Jb 1 R (Jv2 R hc9 (Js (Jp (Jq (Jv (Je [2, 2, 1, 2, 2, 1, 1] R (Jn 1 R (Jf R (Jb2 U158 R Z40 R R) (Jl tv R R R R (Jc2 I40 R R (hvE (f22.ld 1 R R))) (Jn 1 R (Ob h fun x19 hx19 h => Jf R (Jf2 g0_1 hx19 U40 Z2 R R R R) (Jl tv R R R R (Jc2 I2 R R (hvE ((g0_1.stp (S3.tr (S7.tr S18)) R R).gInt hx19))) (Ob h fun x21 hx21 h => Jh R R R C117 (s_l1Has_ok (κ := fun b => mp [] 0 (K17 b)) (Jl2 (g1.stp (S3.tr (S7.tr S18)) R R) (mp [] 0) R R) hx21) ?_)))))))))))))))
 rintro _ w25 ⟨k26, rfl, e27⟩
 obtain ⟨K28, S29, m30⟩ := Ji e27 4 R
 refine ⟨tv, Jd (Ob h fun q4 h hK32 => Jx1 (fun L w' => ∃ κ' ae af, L = [(1, .slice a1 p1.length u1), (2, .pointer (some ⟨b2, 0, none⟩)), (5, .slice ae q4.length af), (6, vi v6)] ∧ Stp [3] K28 w25 κ' w' ∧ Oc E6 2 κ' w' 3 ae af q4) ?_ ?_)⟩
 revert h
 cases ht37 : x21
 refine JF fun h => Jy R (Js ?_)
 cases h
 exact Jw1 _ ⟨K28, aa, ab, R, (Jx2 _ _).wk R, (f19.stp S29 R R)⟩ (KM R)
 refine JT fun h => Jx R (Ja [2, 2, 1, 1, 2] R (Jn 2 R (Jn1 (κ := K28) (E := E6) 6 [] (parts := [(0, .tmp 23)]) (cells := [vi v6]) (xs := ([v6] : List Int)) R R R R R R Y40 Tryzinfo2 R R R R R R R R R R ⟨[vi v6], [], Zl K28 w25 [], Zl K28 w25 [], R, Zl.sp (l1 := []) (l2 := []) R, Zl.sr (l1 := []) (l2 := []), R, R⟩ fun au ar w38 K39 S40 f41 => ⟨tv, Ob h fun x25 hx25 h => Jm1 (κ := K39) (E := E6) 3 [] R R R R R R R R R Y40 Tryzinfo2 R R R R (f19.stp (S29.tr S40) R R) (Sl.srcP (pu_int _) f41.rdc) sy_false hx25 R fun ap aq w43 K44 S45 f46 => ⟨tv, Jc 1 R ?_⟩⟩)))
 cases h
 exact Jw1 _ ⟨K44, ap, aq, R, (S40.tr S45).wk R, f46⟩ (KM R)
 rintro _ w33 ⟨K34, ae, af, rfl, S35, f36⟩
 have h := hK32
 refine Jz (Jp (Ja [2, 2, 2] R (Jc 3 R ?_)))
 have hw9 : IntKind.wrap .i64 (v6 + 1) = v6 + 1 := wr1 hj9 (Jm2 hc9) hN9
 rw [hw9]
 have hc9 := Jm2 hc9
 cases h
 exact Jz1 fun a ha => ⟨k, _, Ja3 _, ⟨K34, v6 + 1, (q4 : (List Int)), ae, af, R, (S18.tr (S29.tr S35)).wk R, f36, by omega, by omega, hk20⟩, (ha.mm R)⟩
 rintro _ w12 ⟨K13, s3, ac, ad, rfl, S14, f15, rfl⟩
 have h := hK10
 dsimp only [aft] at h
 refine Jp (Je [2, 2] R (Jb 2 R (Ju (Ja2 (l := [.tmp 4]) V137 (Jp2 R R) R ?_))))
 cases h
 exact ⟨(fun b => ren [(3, 2)] (K13 b)), ac, ad, R, ((hE.stp (S3.tr (S7.tr S14)) R R).map (ren [(3, 2)]) R R), (f15.map (ren [(3, 2)]) R R)⟩
theorem s_l30May_ok {w : World} {κ : Col} {p0 : Int} {a1 u1} {p1 : (List Int)} (g1 : Rd (Rp.int .i64) κ w 0 a1 u1 p1) {r : (List Bool)} (h : s_l30May p0 p1 = some r) : Ret Tryz.prog 104 [vi p0, .slice a1 p1.length u1] w (fun v w' => ∃ (κ' : Col) (ra0 : Option Addr) (ru0 : Nat), v = .slice ra0 r.length ru0 ∧ Ent κ w κ' w' ∧ Oc Ep.bool 4 κ' w' 2 ra0 ru0 r) := by
 unfold s_l30May at h
 refine Ret.enter F104 R N104 R ?_
 dsimp only [envOf]
 have hE := Ent.refl κ w
 refine Je [2] R (Jb 1 R (Je [1, 2] R (Jo1 (κ := κ) (E := Ep.bool) 2 R R R R R Y135 Tryzinfo4 R fun a7 u7 w1 K2 S3 f4 => ⟨tv, Jb 1 R (Jq (Je [2] R (Jb 1 R (Ob h fun _ hr5 h => ?_))))⟩)))
 have hN5 := rng_ok hr5
 refine Ob h fun q2 hq7 hK6 => ?_
 clear h
 refine Jx1 (fun L w' => ∃ κ', ∃ s3 : (List Bool), ∃ ad ab, L = [(5, .slice ad s3.length ab)] ∧ Stp [2] K2 w1 κ' w' ∧ Oc Ep.bool 4 κ' w' 2 ad ab s3 ∧ q2 = Sum.inr s3) ?_ ?_
 refine Jv (Jy1 (fun k L w' => ∃ κ' v6, ∃ s1 : (List Bool), ∃ aa ac, L = [(0, vi p0), (1, .slice a1 p1.length u1), (5, .slice aa s1.length ac), (6, vi v6)] ∧ Stp [2] K2 w1 κ' w' ∧ Oc Ep.bool 4 κ' w' 2 aa ac s1 ∧ 0 ≤ v6 ∧ Int.toNat (p0 - v6) = k ∧ cntM (s_l30May_b0 p1) k v6 s1 = some q2) ⟨_, _, ⟨K2, 0, (([] : List Bool) : (List Bool)), a7, u7, R, (Jx2 _ _).wk R, f4, (by decide), (by simp), hq7⟩, (KM R)⟩ ?_)
 rintro k _ w12 ⟨K13, v6, s1, aa, ac, rfl, S14, f15, hj5, hJ5, h⟩
 rcases k with _ | k
 have hk16 := h; obtain ⟨o5, h⟩ := ex_eq (Sum.inr (Sum.inl s1) : (List Bool) ⊕ (((List Bool)) ⊕ ((List Bool))))
 have hc5 : decide (v6 < p0) = false := Jo2 (by omega)
 refine Jq (Je [2, 2, 2] R (Jb 3 R (Jw2 R hc5 (Jc1 (Jt (Jt ?_))))))
 cases h
 have h := hk16
 refine Jb1 ?_
 cases h
 exact Jw1 _ ⟨K13, (s1 : (List Bool)), aa, ac, R, S14.wk R, f15, R⟩ (KM R)
 obtain ⟨o5, h, hk16⟩ := BI h; unfold s_l30May_b0 at h
 have hc5 : decide (v6 < p0) = true := Jn2 (by omega)
 refine Jq (Je [2, 2, 2] R (Jb 3 R (Jv2 R hc5 (Js (Jp (Jq (Jv (Ja [2, 2, 2, 1, 2, 1, 1, 2] R (Jn 3 R (Ob h fun x16 hx16 h => Jh R R R C117 (s_l1Has_ok (κ := fun b => mp [] 0 (K13 b)) (Jl2 (g1.stp (S3.tr S14) R R) (mp [] 0) R R) hx16) ?_))))))))))
 rintro _ w18 ⟨k19, rfl, e20⟩
 obtain ⟨K21, S22, m23⟩ := Ji e20 3 R
 refine ⟨tv, Jn 1 R (Jn1 (κ := K21) (E := Ep.bool) 5 [] (parts := [(0, .tmp 17)]) (cells := [.bool (!x16)]) (xs := ([(!x16)] : List Bool)) R R R R R R Y135 Tryzinfo4 R R R R R R R R R R ⟨[.bool (!x16)], [], Zl K21 w18 [], Zl K21 w18 [], R, Zl.sp (l1 := []) (l2 := []) R, Zl.sr (l1 := []) (l2 := []), R, R⟩ fun ai ah w25 K26 S27 f28 => ⟨tv, Ob h fun x19 hx19 h => Jm1 (κ := K26) (E := Ep.bool) 2 [] R R R R R R R R R Y135 Tryzinfo4 R R R R (f15.stp (S22.tr S27) R R) (Sl.srcP pu_bool f28.rdc) sy_false hx19 R fun ae af w30 K31 S32 f33 => ⟨tv, Jc 1 R (Jz (Jp (Ja [2, 2, 2] R (Jc 3 R ?_))))⟩⟩)⟩
 have hw5 : IntKind.wrap .i64 (v6 + 1) = v6 + 1 := wr1 hj5 (Jm2 hc5) hN5
 rw [hw5]
 have hc5 := Jm2 hc5
 cases h
 exact Jz1 fun a ha => ⟨k, _, Ja3 _, ⟨K31, v6 + 1, (x19 : (List Bool)), ae, af, R, (S14.tr (S22.tr (S27.tr S32))).wk R, f33, by omega, by omega, hk16⟩, (ha.mm R)⟩
 rintro _ w8 ⟨K9, s3, ad, ab, rfl, S10, f11, rfl⟩
 have h := hK6
 dsimp only [aft] at h
 refine Jp (Je [2, 2] R (Jb 2 R (Ju (Ja2 (l := [.tmp 4]) V104 (Jp2 R R) R ?_))))
 cases h
 exact ⟨K9, ad, ab, R, (hE.stp (S3.tr S10) R R), f11⟩
theorem i_isClause_ok {w : World} {κ : Col} {p0 : Sig} {aa ad ab ac} {p1 : Clause} (g1_1 : Rd (Rp.int .i64) κ w 0 aa ad p1.A) (g1_2 : Rd (Rp.int .i64) κ w 0 ab ac p1.B) {r : Bool} (h : i_isClause p0 p1 = some r) : Ret Tryz.prog 129 [.agg #[vi p0.In, vi p0.Out], .agg #[vi p1.Kind, .slice aa p1.A.length ad, .slice ab p1.B.length ac]] w (fun v w' => ∃ (κ' : Col), v = .bool r ∧ Ent κ w κ' w') := by
 unfold i_isClause at h
 refine Ret.enter F129 R N129 R ?_
 dsimp only [envOf]
 have hE := Ent.refl κ w
 refine Je [1, 1, 2] R (Jf1 (κ := κ) 2 R R R R R R R fun b2 w1 K2 S3 f4 => ⟨tv, Jf1 (κ := K2) 3 R R R R R R R fun b3 w5 K6 S7 f8 => ⟨tv, Jb 1 R (Jq (Jq (Js1 (κ := K6) [2, 3] none [(0, 2), (1, 0), (2, 2), (3, 2), (4, 2), (5, 0), (6, 2), (7, 2), (8, 2), (9, 2), (10, 0), (11, 0), (12, 1), (13, 1), (14, 2), (15, 2), (16, 2), (17, 2), (18, 0), (19, 0), (20, 1), (21, 1), (22, 2), (23, 2)] [] (by kernel_rfl) (by kernel_rfl) fun w10 S9 => Jf R (Jb2 U71 R Z2 R R) ?_)))⟩⟩)
 have f11 := f8.stp S9 R R
 refine Jg R (Jc2 I2 R R (hvC (f11.ld 0 R R) R)) (Jn 2 R (Ob h fun p12 h hK12 => Ju1 [(4, 2), (5, 0), (6, 2), (7, 2)] [(8, 2), (9, 2), (10, 0), (11, 0), (12, 1), (13, 1), (14, 2), (15, 2), (16, 2), (17, 2), (18, 0), (19, 0), (20, 1), (21, 1), (22, 2), (23, 2)] (fun L w' => L = [(2, .pointer (some ⟨b2, 0, none⟩)), (3, .pointer (some ⟨b3, 0, none⟩)), (12, .bool p12)] ∧ ∃ κ', Stp [] K6 w10 κ' w') (Cl.refl _ _ _) ?_ ?_))
 revert h
 cases ht13 : decide (p1.Kind < 1)
 refine JF fun h => Jf R (Jb2 U71 R Z2 R R) (Jg R (Jc2 I2 R R (hvC (f11.ld 0 R R) R)) (Jn 2 R ?_))
 cases h
 exact Jv1 _ (Cl.refl _ _ _) ⟨R, _, (Jx2 _ _).wk R⟩ (KM R)
 refine JT fun h => Jn 1 R (Je1 R R R R (Jn 2 R ?_))
 cases h
 exact Jv1 _ (Cl.refl _ _ _) ⟨R, _, (Jx2 _ _).wk R⟩ (KM R)
 rintro _ w14 _ ⟨rfl, K15, S16⟩
 have h := hK12
 refine Jn 1 R (Ob h fun p20 h hK17 => Ju1 [(9, 2), (10, 0), (11, 0), (12, 1), (13, 1), (14, 2), (15, 2)] [(16, 2), (17, 2), (18, 0), (19, 0), (20, 1), (21, 1), (22, 2), (23, 2)] (fun L w' => L = [(2, .pointer (some ⟨b2, 0, none⟩)), (3, .pointer (some ⟨b3, 0, none⟩)), (20, .bool p20)] ∧ ∃ κ', Stp [] K15 w14 κ' w') (S16.cl R) ?_ ?_)
 revert h
 cases ht18 : p12
 refine JF fun h => Jf R (Jb2 U71 R Z40 R R) (Jg R (Jc2 I40 R R (hvC (f11.ld 1 R R) R)) (Jg R (Jd2 (cs := [vi p0.In, vi p0.Out]) I31 Z31 R R R (haC (f4.stp (S7.tr S9) R R).cells R)) (Ob h fun x17 hx17 h => Jh R R R C119 (i_lettersOf_ok (κ := fun b => mp [] 0 (K15 b)) (p0 := p0) hx17) ?_)))
 rintro _ w20 ⟨k21, rfl, e22⟩
 obtain ⟨K23, S24, m25⟩ := Ji e22 4 R
 refine ⟨((S16.tr S24).cl R), Ob h fun x18 hx18 h => Jh R R R C160 (i_isSet_ok (κ := fun b => mp [] 0 (K23 b)) (Jl2 (g1_1.stp (S3.tr (S7.tr (S9.tr (S16.tr S24)))) R R) (mp [] 0) R R) hx18) ?_⟩
 rintro _ w28 ⟨k29, rfl, e30⟩
 obtain ⟨K31, S32, m33⟩ := Ji e30 6 R
 refine ⟨((S16.tr (S24.tr S32)).cl R), Jn 2 R ?_⟩
 cases h
 exact Jv1 _ ((S16.tr (S24.tr S32)).cl R) ⟨R, _, (S24.tr S32).wk R⟩ (KM R)
 refine JT fun h => Jn 1 R (Je1 R R R R (Je1 R R R R (Jd1 R R R R (Jd1 R R R R (Jn 2 R ?_)))))
 cases h
 exact Jv1 _ (S16.cl R) ⟨R, _, (Jx2 _ _).wk R⟩ (KM R)
 rintro _ w35 _ ⟨rfl, K36, S37⟩
 have h := hK17
 refine Jn 1 R (Ob h fun p28 h hK38 => Ju1 [(17, 2), (18, 0), (19, 0), (20, 1), (21, 1), (22, 2), (23, 2)] [] (fun L w' => L = [(3, .pointer (some ⟨b3, 0, none⟩)), (28, .bool p28)] ∧ ∃ κ', Stp [] K36 w35 κ' w') ((S16.tr S37).cl R) ?_ ?_)
 revert h
 cases ht39 : p20
 refine JF fun h => Jf R (Jb2 U71 R Z40 R R) (Jg R (Jc2 I40 R R (hvC (f11.ld 2 R R) R)) (Jg R (Jd2 (cs := [vi p0.In, vi p0.Out]) I31 Z31 R R R (haC (f4.stp (S7.tr S9) R R).cells R)) (Ob h fun x25 hx25 h => Jh R R R C119 (i_lettersOf_ok (κ := fun b => mp [] 0 (K36 b)) (p0 := p0) hx25) ?_)))
 rintro _ w41 ⟨k42, rfl, e43⟩
 obtain ⟨K44, S45, m46⟩ := Ji e43 4 R
 refine ⟨((S16.tr (S37.tr S45)).cl R), Ob h fun x26 hx26 h => Jh R R R C160 (i_isSet_ok (κ := fun b => mp [] 0 (K44 b)) (Jl2 (g1_2.stp (S3.tr (S7.tr (S9.tr (S16.tr (S37.tr S45))))) R R) (mp [] 0) R R) hx26) ?_⟩
 rintro _ w49 ⟨k50, rfl, e51⟩
 obtain ⟨K52, S53, m54⟩ := Ji e51 6 R
 refine ⟨((S16.tr (S37.tr (S45.tr S53))).cl R), Jn 2 R ?_⟩
 cases h
 exact Jv1 _ ((S16.tr (S37.tr (S45.tr S53))).cl R) ⟨R, _, (S45.tr S53).wk R⟩ (KM R)
 refine JT fun h => Jn 1 R (Je1 R R R R (Je1 R R R R (Jd1 R R R R (Jd1 R R R R (Jn 2 R ?_)))))
 cases h
 exact Jv1 _ ((S16.tr S37).cl R) ⟨R, _, (Jx2 _ _).wk R⟩ (KM R)
 rintro _ w56 _ ⟨rfl, K57, S58⟩
 have h := hK38
 refine Jt1 (Jd ?_)
 revert h
 cases ht59 : p28
 refine JF fun h => Jy R (Js (Jp (Je [2, 1, 1, 2, 2, 1, 2, 2, 2, 2] R (Jf R (Jb2 U71 R Z2 R R) ?_))))
 have f61 := f11.stp (S16.tr (S37.tr S58)) R R
 refine Jl tv R R R R (Jc2 I2 R R (hvE (f61.ld 0 R R))) (Ob h fun x31 hx31 h => Jh R R R C161 (i_hasSecond_ok (κ := fun b => mp [] 0 (K57 b)) hx31) ?_)
 rintro _ w62 ⟨k63, rfl, e64⟩
 obtain ⟨K65, S66, m67⟩ := Ji e64 4 R
 refine ⟨tv, Jn 1 R (Ob h fun p37 h hK69 => Ju1 [(4, 2), (5, 1), (6, 2), (7, 2), (8, 2)] [(9, 2)] (fun L w' => L = [(37, .bool p37)] ∧ ∃ κ', Stp [] K65 w62 κ' w') tv ?_ ?_)⟩
 revert h
 cases ht70 : x31
 refine JF fun h => Jf R (Jb2 U71 R Z40 R R) (Jl tv R R R R (Jc2 I40 R R (hvE ((f61.stp S66 R R).ld 2 R R))) (Jf R (Je2 U40 R R) (Jn 2 R ?_)))
 cases h
 exact Jv1 _ tv ⟨R, _, (Jx2 _ _).wk R⟩ (KM R)
 refine JT fun h => Jn 1 R (Jd1 R R R R (Jn 3 R ?_))
 cases h
 exact Jv1 _ tv ⟨R, _, (Jx2 _ _).wk R⟩ (KM R)
 rintro _ w72 _ ⟨rfl, K73, S74⟩
 have h := hK69
 refine Jb 1 R (Ju (Ja2 (l := [.tmp 4]) V129 (Jp2 R R) R ?_))
 cases h
 exact ⟨K73, R, (hE.stp (S3.tr (S7.tr (S9.tr (S16.tr (S37.tr (S58.tr (S66.tr S74))))))) R R)⟩
 refine JT fun h => Jx R (Je [2] R (Jb 1 R (Ju (Jw (Ja2 (l := [.tmp 4]) V129 (Jp2 R R) R ?_)))))
 cases h
 exact ⟨K57, R, (hE.stp (S3.tr (S7.tr (S9.tr (S16.tr (S37.tr S58))))) R R)⟩
theorem slices_IndexFunc_I_int64__i_areLetters_1_ok {w : World} {κ : Col} {a0 u0} {p0 : (List Int)} {c1_0 : Int} {b1_0} (g0 : Rd (Rp.int .i64) κ w 0 a0 u0 p0) (gb1_0 : Bc κ w 0 b1_0 2 [vi c1_0]) {r : Int} (h : slices_IndexFunc_I_int64__i_areLetters_1 p0 c1_0 = some r) : Ret Tryz.prog 169 [.slice a0 p0.length u0, .func (.func 149) #[] #[.pointer (some ⟨b1_0, 0, none⟩)]] w (fun v w' => ∃ (κ' : Col), v = vi r ∧ Ent κ w κ' w') := by
 unfold slices_IndexFunc_I_int64__i_areLetters_1 at h
 refine Ret.enter F169 R N169 R ?_
 dsimp only [envOf]
 have hE := Ent.refl κ w
 refine Je [2] R (Jb 1 R (Jq (Je [2, 2, 2] R (Jn 1 R (Jf R (Je2 U40 R R) (Jb 1 R ?_))))))
 have hN1 : (p0.length : Int) ≤ 9223372036854775807 := g0.len_le
 refine Ob h fun q2 hq3 hK2 => ?_
 clear h
 refine Jx1 (fun L w' => ∃ κ', L = [(1, .func (.func 149) #[] #[.pointer (some ⟨b1_0, 0, none⟩)])] ∧ Stp [] κ w κ' w' ∧ q2 = Sum.inr ()) ?_ ?_
 refine Jv (Jy1 (fun k L w' => ∃ κ' v8, L = [(0, .slice a0 p0.length u0), (1, .func (.func 149) #[] #[.pointer (some ⟨b1_0, 0, none⟩)]), (7, vi (p0.length : Int)), (8, vi v8)] ∧ Stp [] κ w κ' w' ∧ 0 ≤ v8 ∧ Int.toNat ((p0.length : Int) - v8) = k ∧ cntM (slices_IndexFunc_I_int64__i_areLetters_1_b0 p0 c1_0) k v8 () = some q2) ⟨_, _, ⟨κ, 0, R, (Jx2 _ _).wk R, (by decide), (by simp), hq3⟩, (KM R)⟩ ?_)
 rintro k _ w7 ⟨K8, v8, rfl, S9, hj1, hJ1, h⟩
 rcases k with _ | k
 have hk10 := h; obtain ⟨o1, h⟩ := ex_eq (Sum.inr (Sum.inl ()) : Int ⊕ ((Unit) ⊕ (Unit)))
 have hc1 : decide (v8 < (p0.length : Int)) = false := Jo2 (by omega)
 refine Je [2] R (Jb 1 R (Jq (Jw2 R hc1 (Jc1 (Jt (Jt ?_))))))
 cases h
 have h := hk10
 refine Jb1 ?_
 cases h
 exact Jw1 _ ⟨K8, R, S9.wk R, R⟩ (KM R)
 obtain ⟨o1, h, hk10⟩ := BI h; unfold slices_IndexFunc_I_int64__i_areLetters_1_b0 at h
 have hc1 : decide (v8 < (p0.length : Int)) = true := Jn2 (by omega)
 refine Je [2] R (Jb 1 R (Jq (Jv2 R hc1 (Js (Jp (Jq (Jv (Je [2, 2] R (Jb 2 R (Je [2, 2, 2, 2, 1, 1] R (Jn 3 R (Ob h fun x14 hx14 h => Jf R (Jf2 g0 hx14 U40 Z2 R R R R) (Jl tv R R R R (Jc2 I2 R R (hvE ((g0.stp S9 R R).gInt hx14))) (Ob h fun x16 hx16 h => WO.callV R R R R R R R R C149 (i_areLetters_1_ok (κ := fun b => mp [] 0 (K8 b)) ((gb1_0.stp S9 R R).map (mp [] 0) R R) hx16) ?_))))))))))))))
 rintro _ w13 ⟨k14, rfl, e15⟩
 obtain ⟨K16, S17, m18⟩ := Ji e15 2 R
 refine ⟨tv, Jd ?_⟩
 revert h
 cases ht20 : x16
 refine JF fun h => Jy R (Js (Jz (Jp (Ja [2, 2] R (Jc 2 R ?_)))))
 have hw1 : IntKind.wrap .i64 (v8 + 1) = v8 + 1 := wr1 hj1 (Jm2 hc1) hN1
 rw [hw1]
 have hc1 := Jm2 hc1
 cases h
 exact Jz1 fun a ha => ⟨k, _, Ja3 _, ⟨K16, v8 + 1, R, (S9.tr S17).wk R, by omega, by omega, hk10⟩, (ha.mm R)⟩
 refine JT fun h => Jx R (Je [2, 2] R (Jb 2 R (Ju (Ja1 (Jw (Jw ?_))))))
 cases h
 obtain rfl := Option.some.inj hk10
 have h := hK2
 dsimp only [aft] at h
 refine Ja1 (Jq2 (Jw (Ja2 (l := [.tmp 4]) V169 (Jp2 R R) R ?_)))
 cases h
 exact ⟨K16, R, (hE.stp (S9.tr S17) R R)⟩
 rintro _ w4 ⟨K5, rfl, S6, rfl⟩
 have h := hK2
 dsimp only [aft] at h
 refine Jp (Je [2] R (Jb 1 R (Ju (Ja2 (l := [.tmp 4]) V169 (Jp2 R R) R ?_))))
 cases h
 exact ⟨K5, R, (hE.stp S6 R R)⟩
theorem l_eqInt64SS_ok {w : World} {κ : Col} {a0 u0} {p0 : (List (List Int))} {a1 u1} {p1 : (List (List Int))} (g0 : Rd (Rp.sl (Rp.int .i64)) κ w 0 a0 u0 p0) (g1 : Rd (Rp.sl (Rp.int .i64)) κ w 0 a1 u1 p1) {r : Bool} (h : l_eqInt64SS p0 p1 = some r) : Ret Tryz.prog 54 [.slice a0 p0.length u0, .slice a1 p1.length u1] w (fun v w' => ∃ (κ' : Col), v = .bool r ∧ Ent κ w κ' w') := by
 unfold l_eqInt64SS at h
 refine Ret.enter F54 R N54 R ?_
 dsimp only [envOf]
 have hE := Ent.refl κ w
 refine Je [2] R (Jb 1 R (Jq (Je [2, 2, 2, 2, 2] R (Jn 1 R (Jf R (Je2 U24 R R) (Jn 1 R (Jf R (Je2 U24 R R) (Jb 1 R ?_))))))))
 revert h
 cases ht1 : ((p0.length : Int) != (p1.length : Int))
 refine JF fun h => Jy R (Js (Jp (Jq (Je [2] R (Jb 1 R ?_)))))
 have hN2 : (p0.length : Int) ≤ 9223372036854775807 := g0.len_le
 refine Ob h fun q2 hq4 hK3 => ?_
 clear h
 refine Jx1 (fun L w' => ∃ κ', L = [] ∧ Stp [] κ w κ' w' ∧ q2 = Sum.inr ()) ?_ ?_
 refine Jv (Jy1 (fun k L w' => ∃ κ' v5, L = [(0, .slice a0 p0.length u0), (1, .slice a1 p1.length u1), (5, vi v5)] ∧ Stp [] κ w κ' w' ∧ 0 ≤ v5 ∧ Int.toNat ((p0.length : Int) - v5) = k ∧ cntM (l_eqInt64SS_b0 p0 p1) k v5 () = some q2) ⟨_, _, ⟨κ, 0, R, (Jx2 _ _).wk R, (by decide), (by simp), hq4⟩, (KM R)⟩ ?_)
 rintro k _ w8 ⟨K9, v5, rfl, S10, hj2, hJ2, h⟩
 rcases k with _ | k
 have hk11 := h; obtain ⟨o2, h⟩ := ex_eq (Sum.inr (Sum.inl ()) : Bool ⊕ ((Unit) ⊕ (Unit)))
 have hc2 : decide (v5 < (p0.length : Int)) = false := Jo2 (by omega)
 refine Jq (Je [2, 2, 2, 2] R (Jn 2 R (Jf R (Je2 U24 R R) (Jb 1 R (Jw2 R hc2 (Jc1 (Jt (Jt ?_))))))))
 cases h
 have h := hk11
 refine Jb1 ?_
 cases h
 exact Jw1 _ ⟨K9, R, S10.wk R, R⟩ KN
 obtain ⟨o2, h, hk11⟩ := BI h; unfold l_eqInt64SS_b0 at h
 have hc2 : decide (v5 < (p0.length : Int)) = true := Jn2 (by omega)
 refine Jq (Je [2, 2, 2, 2] R (Jn 2 R (Jf R (Je2 U24 R R) (Jb 1 R (Jv2 R hc2 (Js (Jp (Jq (Jv (Jq (Js1 (κ := K9) [0] none [(0, 2), (1, 2), (2, 2), (4, 2), (5, 2), (6, 2), (3, 0), (7, 0), (8, 1), (9, 2)] [] (by kernel_rfl) (by kernel_rfl) fun w13 S12 => Jn 2 R (Ob h fun x19 hx19 h => Jf R (Jf2 g0 hx19 U24 Z40 R R R R) (Jn 2 R (Ob h fun x23 hx23 h => Jf R (Jf2 g1 hx23 U24 Z40 R R R R) ?_))))))))))))))
 obtain ⟨ax19, ux19, f15, hl16⟩ := (g0.stp (S10.tr S12) R R).gSl hx19
 refine Jg R (Jc2 I40 R R (hvC hl16 R)) ?_
 obtain ⟨ax23, ux23, f18, hl19⟩ := (g1.stp (S10.tr S12) R R).gSl hx23
 refine Jg R (Jc2 I40 R R (hvC hl19 R)) (Ob h fun x25 hx25 h => Jh R R R C20 (l_eqInt64S_ok (κ := fun b => mp [] 0 (K9 b)) (Jl2 f15 (mp [] 0) R R) (Jl2 f18 (mp [] 0) R R) hx25) ?_)
 rintro _ w20 ⟨k21, rfl, e22⟩
 obtain ⟨K23, S24, m25⟩ := Ji e22 2 R
 refine ⟨(S24.cl R), Jn 1 R (Jt1 (Jd ?_))⟩
 revert h
 cases ht27 : (!x25)
 refine JF fun h => Jy R (Js (Jz (Jp (Ja [2, 2, 2] R (Jc 3 R ?_)))))
 have hw2 : IntKind.wrap .i64 (v5 + 1) = v5 + 1 := wr1 hj2 (Jm2 hc2) hN2
 rw [hw2]
 have hc2 := Jm2 hc2
 cases h
 exact Jz1 fun a ha => ⟨k, _, Ja3 _, ⟨K23, v5 + 1, R, (S10.tr (S12.tr S24)).wk R, by omega, by omega, hk11⟩, (ha.mm R)⟩
 refine JT fun h => Jx R (Je [2] R (Jb 1 R (Ju (Ja1 (Jw (Jw ?_))))))
 cases h
 obtain rfl := Option.some.inj hk11
 have h := hK3
 dsimp only [aft] at h
 refine Ja1 (Jq2 (Jw (Ja2 (l := [.tmp 4]) V54 (Jp2 R R) R ?_)))
 cases h
 exact ⟨K23, R, (hE.stp (S10.tr (S12.tr S24)) R R)⟩
 rintro _ w5 ⟨K6, rfl, S7, rfl⟩
 have h := hK3
 dsimp only [aft] at h
 refine Jp (Je [2] R (Jb 1 R (Ju (Ja2 (l := [.tmp 4]) V54 (Jp2 R R) R ?_))))
 cases h
 exact ⟨K6, R, (hE.stp S7 R R)⟩
 refine JT fun h => Jx R (Je [2] R (Jb 1 R (Ju (Jw (Ja2 (l := [.tmp 4]) V54 (Jp2 R R) R ?_)))))
 cases h
 exact ⟨κ, R, hE⟩
end Go.Proofs.YtcmamhmpoinmnaaGreat
