/- The walks, part 8. By program. -/
import Derived.Test.YtcmamhmpoinmnaaGreatFns4BR
import Derived.Test.YtcmamhmpoinmnaaGreatFns5BR
import Derived.Test.YtcmamhmpoinmnaaGreatFns6BR
import Derived.Test.YtcmamhmpoinmnaaGreatFns7BR
set_option linter.unusedVariables false
set_option linter.unusedSimpArgs false
namespace Go.Proofs.YtcmamhmpoinmnaaGreat
open Go Go.Wk Go.Proofs
set_option maxRecDepth 100000
set_option maxHeartbeats 1000000
theorem i_areLetters_ok {w : World} {κ : Col} {a0 u0} {p0 : (List Int)} {p1 : Int} (g0 : Rd (Rp.int .i64) κ w 0 a0 u0 p0) {r : Bool} (h : i_areLetters p0 p1 = some r) : Ret Tryz.prog 118 [.slice a0 p0.length u0, vi p1] w (fun v w' => ∃ (κ' : Col), v = .bool r ∧ Ent κ w κ' w') := by
 unfold i_areLetters at h
 refine Ret.enter F118 R N118 R ?_
 dsimp only [envOf]
 have hE := Ent.refl κ w
 refine Je [1, 2] R (Jf1 (κ := κ) 2 R R R R R R R fun b3 w1 K2 S3 f4 => ⟨tv, Jb 1 R (Je [2, 2, 1, 2, 2] R (Jn 1 R (Jf R (rn_makeFunc (first := []) (captured := [.tmp 3]) R R R ⟨_, R⟩) (Ob h fun x7 hx7 h => Jh R R R C148 (slices_ContainsFunc_I_int64__i_areLetters_1_ok (κ := fun b => mp [] 0 (K2 b)) (Jl2 (g0.stp S3 R R) (mp [] 0) R R) (f4.map (mp [] 0) R R) hx7) ?_))))⟩)
 rintro _ w6 ⟨k7, rfl, e8⟩
 obtain ⟨K9, S10, m11⟩ := Ji e8 3 R
 refine ⟨tv, Jb 2 R (Ju (Ja2 (l := [.tmp 4]) V118 (Jp2 R R) R ?_))⟩
 cases h
 exact ⟨K9, R, (hE.stp (S3.tr S10) R R)⟩
theorem slices_IndexFunc_i_Clause_i_Clause__i_areClauses_1_ok {w : World} {κ : Col} {a0 u0} {p0 : (List Clause)} {c1_0 : Sig} {b1_0} (g0 : Rd Clause.rp κ w 0 a0 u0 p0) (gb1_0 : Bc κ w 0 b1_0 31 [vi c1_0.In, vi c1_0.Out]) {r : Int} (h : slices_IndexFunc_i_Clause_i_Clause__i_areClauses_1 p0 c1_0 = some r) : Ret Tryz.prog 159 [.slice a0 p0.length u0, .func (.func 128) #[] #[.pointer (some ⟨b1_0, 0, none⟩)]] w (fun v w' => ∃ (κ' : Col), v = vi r ∧ Ent κ w κ' w') := by
 unfold slices_IndexFunc_i_Clause_i_Clause__i_areClauses_1 at h
 refine Ret.enter F159 R N159 R ?_
 dsimp only [envOf]
 have hE := Ent.refl κ w
 refine Je [2] R (Jb 1 R (Jq (Je [2, 2, 2] R (Jn 1 R (Jf R (Je2 U35 R R) (Jb 1 R ?_))))))
 have hN1 : (p0.length : Int) ≤ 9223372036854775807 := g0.len_le
 refine Ob h fun q2 hq3 hK2 => ?_
 clear h
 refine Jx1 (fun L w' => ∃ κ', L = [(1, .func (.func 128) #[] #[.pointer (some ⟨b1_0, 0, none⟩)])] ∧ Stp [] κ w κ' w' ∧ q2 = Sum.inr ()) ?_ ?_
 refine Jv (Jy1 (fun k L w' => ∃ κ' v8, L = [(0, .slice a0 p0.length u0), (1, .func (.func 128) #[] #[.pointer (some ⟨b1_0, 0, none⟩)]), (7, vi (p0.length : Int)), (8, vi v8)] ∧ Stp [] κ w κ' w' ∧ 0 ≤ v8 ∧ Int.toNat ((p0.length : Int) - v8) = k ∧ cntM (slices_IndexFunc_i_Clause_i_Clause__i_areClauses_1_b0 p0 c1_0) k v8 () = some q2) ⟨_, _, ⟨κ, 0, R, (Jx2 _ _).wk R, (by decide), (by simp), hq3⟩, (KM R)⟩ ?_)
 rintro k _ w7 ⟨K8, v8, rfl, S9, hj1, hJ1, h⟩
 rcases k with _ | k
 have hk10 := h; obtain ⟨o1, h⟩ := ex_eq (Sum.inr (Sum.inl ()) : Int ⊕ ((Unit) ⊕ (Unit)))
 have hc1 : decide (v8 < (p0.length : Int)) = false := Jo2 (by omega)
 refine Je [2] R (Jb 1 R (Jq (Jw2 R hc1 (Jc1 (Jt (Jt ?_))))))
 cases h
 have h := hk10
 refine Jb1 ?_
 cases h
 exact Jw1 _ ⟨K8, R, S9.wk R, R⟩ (KM R)
 obtain ⟨o1, h, hk10⟩ := BI h; unfold slices_IndexFunc_i_Clause_i_Clause__i_areClauses_1_b0 at h
 have hc1 : decide (v8 < (p0.length : Int)) = true := Jn2 (by omega)
 refine Je [2] R (Jb 1 R (Jq (Jv2 R hc1 (Js (Jp (Jq (Jv (Je [2, 2] R (Jb 2 R (Je [2, 2, 2, 2, 1, 1] R (Jn 3 R (Ob h fun x14 hx14 h => Jf R (Jf2 g0 hx14 U35 Z71 R R R R) ?_))))))))))))
 obtain ⟨cse12, hre12, hle12⟩ := ((g0.stp S9 R R)).gSt hx14
 obtain ⟨ae12_0, ue12_0, ae12_1, ue12_1, rfl, fe12_0, fe12_1⟩ := Clause.un hre12
 refine Jl tv R R R R (Jd2 (cs := [vi x14.Kind, .slice ae12_0 x14.A.length ue12_0, .slice ae12_1 x14.B.length ue12_1]) I71 Z71 R R R (haE hle12)) (Ob h fun x16 hx16 h => WO.callV R R R R R R R R C128 (i_areClauses_1_ok (κ := fun b => mp [] 0 (K8 b)) (p0 := x14) (c0 := c1_0) (Jl2 fe12_0 (mp [] 0) R R) (Jl2 fe12_1 (mp [] 0) R R) ((gb1_0.stp S9 R R).map (mp [] 0) R R) hx16) ?_)
 rintro _ w14 ⟨k15, rfl, e16⟩
 obtain ⟨K17, S18, m19⟩ := Ji e16 2 R
 refine ⟨tv, Jd ?_⟩
 revert h
 cases ht21 : x16
 refine JF fun h => Jy R (Js (Jz (Jp (Ja [2, 2] R (Jc 2 R ?_)))))
 have hw1 : IntKind.wrap .i64 (v8 + 1) = v8 + 1 := wr1 hj1 (Jm2 hc1) hN1
 rw [hw1]
 have hc1 := Jm2 hc1
 cases h
 exact Jz1 fun a ha => ⟨k, _, Ja3 _, ⟨K17, v8 + 1, R, (S9.tr S18).wk R, by omega, by omega, hk10⟩, (ha.mm R)⟩
 refine JT fun h => Jx R (Je [2, 2] R (Jb 2 R (Ju (Ja1 (Jw (Jw ?_))))))
 cases h
 obtain rfl := Option.some.inj hk10
 have h := hK2
 dsimp only [aft] at h
 refine Ja1 (Jq2 (Jw (Ja2 (l := [.tmp 4]) V159 (Jp2 R R) R ?_)))
 cases h
 exact ⟨K17, R, (hE.stp (S9.tr S18) R R)⟩
 rintro _ w4 ⟨K5, rfl, S6, rfl⟩
 have h := hK2
 dsimp only [aft] at h
 refine Jp (Je [2] R (Jb 1 R (Ju (Ja2 (l := [.tmp 4]) V159 (Jp2 R R) R ?_))))
 cases h
 exact ⟨K5, R, (hE.stp S6 R R)⟩
theorem i_watch_targets_ok {w : World} {κ : Col} {an av aq ar ap au} {p0 : watch} {ao ax ay aw} {p1 : Pair} {b0} (g0_0 : Rd (Rp.sl (Rp.int .i64)) κ w 0 an av p0.next) (g0_1 : Rd (Rp.sl (Rp.int .i64)) κ w 0 aq ar p0.letters) (g0_2 : Rd Pair.rp κ w 0 ap au p0.pairs) (g1_0 : Rd (Rp.int .i64) κ w 0 ao ax p1.Ask) (g1_1 : Rd (Rp.int .i64) κ w 0 ay aw p1.Give) (gb0 : Bc κ w 0 b0 120 [.slice an p0.next.length av, .slice aq p0.letters.length ar, .slice ap p0.pairs.length au]) {r : (List Int)} (h : i_watch_targets p0 p1 = some r) : Ret Tryz.prog 108 [.pointer (some ⟨b0, 0, none⟩), .agg #[.slice ao p1.Ask.length ax, .slice ay p1.Give.length aw]] w (fun v w' => ∃ (κ' : Col) (ra0 : Option Addr) (ru0 : Nat), v = .slice ra0 r.length ru0 ∧ Ent κ w κ' w' ∧ Oc E6 2 κ' w' 2 ra0 ru0 r) := by
 unfold i_watch_targets at h
 refine Ret.enter F108 R N108 R ?_
 dsimp only [envOf]
 have hE := Ent.refl κ w
 refine Je [1, 2] R (Jf1 (κ := κ) 2 R R R R R R R fun b3 w1 K2 S3 f4 => ⟨tv, Jb 1 R (Je [1, 2] R (Jo1 (κ := K2) (E := E6) 3 R R R R R Y40 Tryzinfo2 R fun aC az w5 K6 S7 f8 => ⟨tv, Jb 1 R (Jq (Jq (Js1 (κ := K6) [0, 2] none [(0, 2), (1, 2), (2, 2), (4, 2), (5, 2), (10, 2), (3, 0), (6, 0), (7, 1), (8, 1), (9, 2)] [] (by kernel_rfl) (by kernel_rfl) fun w10 S9 => Jn 1 R (Jf R (rn_nilCheck R R) (Jf R (Jb2 U120 R Z24 R R) (Jn 1 R (Jf R (Jb2 U92 R Z40 R R) (Jn 1 R ?_))))))))⟩))⟩)
 have f11 := gb0.stp (S3.tr (S7.tr S9)) R R
 refine Jg R (Jc2 I24 R R (hvC (f11.ld 0 R R) R)) ?_
 have f12 := f4.stp (S7.tr S9) R R
 refine Jg R (Jc2 I40 R R (hvC (f12.ld 1 R R) R)) (Ob h fun x18 hx18 h => ?_)
 have f13 := g0_0.stp (S3.tr (S7.tr S9)) R R
 have S001 := (S3.tr (S7.tr S9))
 refine Jh R R R C131 (i_watch_outside_ok (κ := fun b => mp [] 0 (K6 b)) (p0 := p0) (Jl2 f13 (mp [] 0) R R) (Jl2 (g0_1.stp S001 R R) (mp [] 0) R R) (Jl2 (g0_2.stp S001 R R) (mp [] 0) R R) (Jl2 (g1_1.stp S001 R R) (mp [] 0) R R) (f11.map (mp [] 0) R R) hx18) ?_
 rintro _ w17 ⟨k18, aF, aD, rfl, e19, f20⟩
 obtain ⟨K21, S22, m23⟩ := Ji e19 4 R
 refine ⟨(S22.cl R), ?_⟩
 obtain ⟨K26, S27, z28⟩ := fz_ex K21 w17 6
 refine Ob h fun x19 hx19 h => Jh R R R C124 (i_loopsIn_ok (κ := fun b => mp [] 1 (K26 b)) (Jl2 (f13.stp (S22.tr S27) R R) (mp [] 1) R R) (Jl2 (Sl.st z28 (f20.mx no_bool m23 R (R : 4 + 2 = 6)).rdc) (mp [] 1) R R) hx19) ?_
 rintro _ w31 ⟨k32, ai, ah, rfl, e33, f34⟩
 obtain ⟨K35, S36, m37, z38⟩ := Jj e33 7 R
 refine ⟨((S22.tr (S27.tr S36)).cl R), ?_⟩
 have f39 := f34.mxz z38 m37 R (R : 7 + 2 = 9)
 refine Jf R (Je2 U24 R R) (Jt1 (Jd ?_))
 have hN40 : (x19.length : Int) ≤ 9223372036854775807 := f39.len_le
 refine Ob h fun q2 hq42 hK41 => ?_
 clear h
 refine Jx1 (fun L w' => ∃ κ', ∃ s3 : (List Int), ∃ aj am, L = [(0, .pointer (some ⟨b0, 0, none⟩)), (5, .slice aj s3.length am)] ∧ Stp [3] K35 w31 κ' w' ∧ Oc E6 2 κ' w' 3 aj am s3 ∧ q2 = Sum.inr s3) ?_ ?_
 refine Jv (Jy1 (fun k L w' => ∃ κ' v21, ∃ s1 : (List Int), ∃ ac aa, L = [(0, .pointer (some ⟨b0, 0, none⟩)), (3, .pointer (some ⟨b3, 0, none⟩)), (5, .slice ac s1.length aa), (19, .slice ai x19.length ah), (20, vi (x19.length : Int)), (21, vi v21)] ∧ Stp [3] K35 w31 κ' w' ∧ Oc E6 2 κ' w' 3 ac aa s1 ∧ 0 ≤ v21 ∧ Int.toNat ((x19.length : Int) - v21) = k ∧ cntM (i_watch_targets_b0 p1 x19) k v21 s1 = some q2) ⟨_, _, ⟨K35, 0, (([] : List Int) : (List Int)), aC, az, R, (Jx2 _ _).wk R, (f8.stp (S9.tr (S22.tr (S27.tr S36))) R R), (by decide), (by simp), hq42⟩, (KM R)⟩ ?_)
 rintro k _ w47 ⟨K48, v21, s1, ac, aa, rfl, S49, f50, hj40, hJ40, h⟩
 rcases k with _ | k
 have hk52 := h; obtain ⟨o40, h⟩ := ex_eq (Sum.inr (Sum.inl s1) : (List Int) ⊕ (((List Int)) ⊕ ((List Int))))
 have hc40 : decide (v21 < (x19.length : Int)) = false := Jo2 (by omega)
 refine Je [2] R (Jb 1 R (Jq (Jw2 R hc40 (Jc1 (Jt (Jt ?_))))))
 cases h
 have h := hk52
 refine Jb1 ?_
 cases h
 exact Jw1 _ ⟨K48, (s1 : (List Int)), ac, aa, R, S49.wk R, f50, R⟩ (KM R)
 obtain ⟨o40, h, hk52⟩ := BI h; unfold i_watch_targets_b0 at h
 have hc40 : decide (v21 < (x19.length : Int)) = true := Jn2 (by omega)
 refine Je [2] R (Jb 1 R (Jq (Jv2 R hc40 (Js (Jp (Jq (Jv (Je [2, 1, 2] R (Ob h fun x23 hx23 h => Jf R (Jf2 f39.rdc hx23 U24 Z40 R R R R) ?_)))))))))
 obtain ⟨ax23, ux23, f54, hl55⟩ := (f39.stp S49 R R).gZ hx23
 refine Jl tv R R R R (Jc2 I40 R R (hvE hl55)) (Jb 1 R (Je [2, 2, 2] R (Jn 1 R (Jf R (Je2 U40 R R) (Jb 1 R ?_)))))
 have hN56 : (x23.length : Int) ≤ 9223372036854775807 := f54.len_le
 refine Ob h fun q5 hq58 hK57 => ?_
 clear h
 refine Jx1 (fun L w' => ∃ κ', ∃ s6 : (List Int), ∃ ae af, L = [(0, .pointer (some ⟨b0, 0, none⟩)), (3, .pointer (some ⟨b3, 0, none⟩)), (5, .slice ae s6.length af), (19, .slice ai x19.length ah), (20, vi (x19.length : Int)), (21, vi v21)] ∧ Stp [3] K48 w47 κ' w' ∧ Oc E6 2 κ' w' 3 ae af s6 ∧ q5 = Sum.inr s6) ?_ ?_
 refine Jv (Jy1 (fun k L w' => ∃ κ' v27, ∃ s4 : (List Int), ∃ ab ad, L = [(0, .pointer (some ⟨b0, 0, none⟩)), (3, .pointer (some ⟨b3, 0, none⟩)), (5, .slice ab s4.length ad), (19, .slice ai x19.length ah), (20, vi (x19.length : Int)), (21, vi v21), (25, .slice ax23 x23.length ux23), (26, vi (x23.length : Int)), (27, vi v27)] ∧ Stp [3] K48 w47 κ' w' ∧ Oc E6 2 κ' w' 3 ab ad s4 ∧ 0 ≤ v27 ∧ Int.toNat ((x23.length : Int) - v27) = k ∧ cntM (i_watch_targets_b2 p1 x23) k v27 s4 = some q5) ⟨_, _, ⟨K48, 0, (s1 : (List Int)), ac, aa, R, (Jx2 _ _).wk R, f50, (by decide), (by simp), hq58⟩, (KM R)⟩ ?_)
 rintro k _ w63 ⟨K64, v27, s4, ab, ad, rfl, S65, f66, hj56, hJ56, h⟩
 rcases k with _ | k
 have hk67 := h; obtain ⟨o56, h⟩ := ex_eq (Sum.inr (Sum.inl s4) : (List Int) ⊕ (((List Int)) ⊕ ((List Int))))
 have hc56 : decide (v27 < (x23.length : Int)) = false := Jo2 (by omega)
 refine Je [2] R (Jb 1 R (Jq (Jw2 R hc56 (Jc1 (Jt (Jt ?_))))))
 cases h
 have h := hk67
 refine Jb1 ?_
 cases h
 exact Jw1 _ ⟨K64, (s4 : (List Int)), ab, ad, R, S65.wk R, f66, R⟩ (KM R)
 obtain ⟨o56, h, hk67⟩ := BI h; unfold i_watch_targets_b2 at h
 have hc56 : decide (v27 < (x23.length : Int)) = true := Jn2 (by omega)
 refine Je [2] R (Jb 1 R (Jq (Jv2 R hc56 (Js (Jp (Jq (Jv (Je [2, 1, 2] R (Ob h fun x29 hx29 h => Jf R (Jf2 f54 hx29 U40 Z2 R R R R) (Jl tv R R R R (Jc2 I2 R R (hvE ((f54.stp S65 R R).gInt hx29))) (Jb 1 R (Je [2, 1, 2, 1] R (Jf R (Jb2 U92 R Z40 R R) (Jl tv R R R R (Jc2 I40 R R (hvE ((f12.stp (S22.tr (S27.tr (S36.tr (S49.tr S65)))) R R).ld 0 R R))) (Jn 1 R (Ob h fun x34 hx34 h => Jh R R R C73 (slices_Contains_I_int64_ok (κ := fun b => mp [] 0 (K64 b)) (Jl2 (g1_0.stp (S3.tr (S7.tr (S9.tr (S22.tr (S27.tr (S36.tr (S49.tr S65))))))) R R) (mp [] 0) R R) hx34) ?_))))))))))))))))
 rintro _ w71 ⟨k72, rfl, e73⟩
 obtain ⟨K74, S75, m76⟩ := Ji e73 10 R
 refine ⟨tv, Jd (Ob h fun q7 h hK78 => Jx1 (fun L w' => ∃ κ' ak al, L = [(0, .pointer (some ⟨b0, 0, none⟩)), (3, .pointer (some ⟨b3, 0, none⟩)), (5, .slice ak q7.length al), (19, .slice ai x19.length ah), (20, vi (x19.length : Int)), (21, vi v21), (25, .slice ax23 x23.length ux23), (26, vi (x23.length : Int)), (27, vi v27)] ∧ Stp [3] K74 w71 κ' w' ∧ Oc E6 2 κ' w' 3 ak al q7) ?_ ?_)⟩
 revert h
 cases ht83 : x34
 refine JF fun h => Jy R (Js ?_)
 cases h
 exact Jw1 _ ⟨K74, ab, ad, R, (Jx2 _ _).wk R, (f66.stp S75 R R)⟩ (KM R)
 refine JT fun h => Jx R (Ja [2, 2, 1, 1, 2] R (Jn 2 R (Jn1 (κ := K74) (E := E6) 12 [] (parts := [(0, .tmp 36)]) (cells := [vi x29]) (xs := ([x29] : List Int)) R R R R R R Y40 Tryzinfo2 R R R R R R R R R R ⟨[vi x29], [], Zl K74 w71 [], Zl K74 w71 [], R, Zl.sp (l1 := []) (l2 := []) R, Zl.sr (l1 := []) (l2 := []), R, R⟩ fun aG aE w84 K85 S86 f87 => ⟨tv, Ob h fun x38 hx38 h => Jm1 (κ := K85) (E := E6) 3 [] R R R R R R R R R Y40 Tryzinfo2 R R R R (f66.stp (S75.tr S86) R R) (Sl.srcP (pu_int _) f87.rdc) sy_false hx38 R fun aA aB w89 K90 S91 f92 => ⟨tv, Jc 1 R ?_⟩⟩)))
 cases h
 exact Jw1 _ ⟨K90, aA, aB, R, (S86.tr S91).wk R, f92⟩ (KM R)
 rintro _ w79 ⟨K80, ak, al, rfl, S81, f82⟩
 have h := hK78
 refine Jz (Jp (Ja [2, 2] R (Jc 2 R ?_)))
 have hw56 : IntKind.wrap .i64 (v27 + 1) = v27 + 1 := wr1 hj56 (Jm2 hc56) hN56
 rw [hw56]
 have hc56 := Jm2 hc56
 cases h
 exact Jz1 fun a ha => ⟨k, _, Ja3 _, ⟨K80, v27 + 1, (q7 : (List Int)), ak, al, R, (S65.tr (S75.tr S81)).wk R, f82, by omega, by omega, hk67⟩, (ha.mm R)⟩
 rintro _ w59 ⟨K60, s6, ae, af, rfl, S61, f62, rfl⟩
 have h := hK57
 dsimp only [aft] at h
 refine Jz (Jp (Ja [2, 2] R (Jc 2 R ?_)))
 have hw40 : IntKind.wrap .i64 (v21 + 1) = v21 + 1 := wr1 hj40 (Jm2 hc40) hN40
 rw [hw40]
 have hc40 := Jm2 hc40
 cases h
 exact Jz1 fun a ha => ⟨k, _, Ja3 _, ⟨K60, v21 + 1, (s6 : (List Int)), ae, af, R, (S49.tr S61).wk R, f62, by omega, by omega, hk52⟩, (ha.mm R)⟩
 rintro _ w43 ⟨K44, s3, aj, am, rfl, S45, f46, rfl⟩
 have h := hK41
 dsimp only [aft] at h
 refine Jp (Je [2, 1] R (Jn 1 R (Ob h fun x42 hx42 h => Jh R R R C138 (slices_Sort_I_int64_ok (κ := fun b => mp [(3, 2)] 0 (K44 b)) (f46.map (mp [(3, 2)] 0) R R) hx42) ?_)))
 rintro _ w94 ⟨k95, rfl, e96, f97, hn98⟩
 obtain ⟨K99, S100, m101⟩ := Ji e96 10 R
 refine ⟨tv, Jd (Je [2, 2] R (Jb 2 R (Ju (Ja2 (l := [.tmp 4]) V108 (Jp2 R R) R ?_))))⟩
 cases h
 exact ⟨(fun b => ren [(12, 2)] (K99 b)), aj, am, (by simp only [(hn98)]), ((hE.stp (S3.tr (S7.tr (S9.tr (S22.tr (S27.tr (S36.tr (S45.tr S100))))))) R R).map (ren [(12, 2)]) R R), ((f97.mx (no_int _) m101 R (R : 10 + 2 = 12)).map (ren [(12, 2)]) R R)⟩
theorem s_ClauseOk_ok {w : World} {κ : Col} {p0 : Sig} {aa ab ad ac} {p1 : Clause} (g1_1 : Rd (Rp.int .i64) κ w 0 aa ab p1.A) (g1_2 : Rd (Rp.int .i64) κ w 0 ad ac p1.B) {r : Bool} (h : s_ClauseOk p0 p1 = some r) : Ret Tryz.prog 87 [.agg #[vi p0.In, vi p0.Out], .agg #[vi p1.Kind, .slice aa p1.A.length ab, .slice ad p1.B.length ac]] w (fun v w' => ∃ (κ' : Col), v = .bool r ∧ Ent κ w κ' w') := by
 unfold s_ClauseOk at h
 refine Ret.enter F87 R N87 R ?_
 dsimp only [envOf]
 have hE := Ent.refl κ w
 refine Je [1, 1, 2] R (Jf1 (κ := κ) 2 R R R R R R R fun b2 w1 K2 S3 f4 => ⟨tv, Jf1 (κ := K2) 3 R R R R R R R fun b3 w5 K6 S7 f8 => ⟨tv, Jb 1 R (Jq (Je [1, 1, 2, 2, 2, 1, 1, 2, 2] R ?_))⟩⟩)
 have f9 := f4.stp S7 R R
 refine Jl tv R R R R (Jd2 (cs := [vi p0.In, vi p0.Out]) I31 Z31 R R R (haE f9.cells)) (Ob h fun x7 hx7 h => Jh R R R C84 (s_SigOk_ok (κ := fun b => mp [] 0 (K6 b)) (p0 := p0) hx7) ?_)
 rintro _ w10 ⟨k11, rfl, e12⟩
 obtain ⟨K13, S14, m15⟩ := Ji e12 4 R
 refine ⟨tv, Jn 2 R (Ob h fun p14 h hK17 => Ju1 [(4, 2), (5, 1), (6, 1), (7, 2), (8, 2)] [] (fun L w' => L = [(2, .pointer (some ⟨b2, 0, none⟩)), (3, .pointer (some ⟨b3, 0, none⟩)), (14, .bool p14)] ∧ ∃ κ', Stp [] K13 w10 κ' w') tv ?_ ?_)⟩
 revert h
 cases ht18 : (!x7)
 refine JF fun h => Jf R (Jb2 U71 R Z2 R R) (Jl tv R R R R (Jc2 I2 R R (hvE ((f8.stp S14 R R).ld 0 R R))) (Ob h fun x12 hx12 h => Jh R R R C77 (s_l1In_ok (κ := fun b => mp [] 0 (K13 b)) hx12) ?_))
 rintro _ w20 ⟨k21, rfl, e22⟩
 obtain ⟨K23, S24, m25⟩ := Ji e22 6 R
 refine ⟨tv, Jn 2 R ?_⟩
 cases h
 exact Jv1 _ tv ⟨R, _, S24.wk R⟩ (KM R)
 refine JT fun h => Jn 1 R (Jd1 R R R R (Jd1 R R R R (Jn 2 R ?_)))
 cases h
 exact Jv1 _ tv ⟨R, _, (Jx2 _ _).wk R⟩ (KM R)
 rintro _ w27 _ ⟨rfl, K28, S29⟩
 have h := hK17
 refine Jd ?_
 revert h
 cases ht30 : p14
 refine JF fun h => Jy R (Js (Jp (Je [1, 1, 2] R (Jl tv R R R R (Jd2 (cs := [vi p0.In, vi p0.Out]) I31 Z31 R R R (haE (f9.stp (S14.tr S29) R R).cells)) (Ob h fun x16 hx16 h => Jh R R R C86 (s_LettersOf_ok (κ := fun b => mp [] 0 (K28 b)) (p0 := p0) hx16) ?_)))))
 rintro _ w33 ⟨k34, rfl, e35⟩
 obtain ⟨K36, S37, m38⟩ := Ji e35 6 R
 refine ⟨tv, Jb 1 R (Je [2, 1, 2, 1, 2, 2, 1, 2, 1, 2, 2, 2, 1, 1, 2, 2, 1, 2, 2, 2, 2, 2] R (Jf R (Jb2 U71 R Z40 R R) ?_))⟩
 have f40 := f8.stp (S14.tr (S29.tr S37)) R R
 refine Jl tv R R R R (Jc2 I40 R R (hvE (f40.ld 1 R R))) (Jn 1 R (Ob h fun x20 hx20 h => Jh R R R C132 (s_l1Set_ok (κ := fun b => mp [] 0 (K36 b)) (Jl2 (g1_1.stp (S3.tr (S7.tr (S14.tr (S29.tr S37)))) R R) (mp [] 0) R R) hx20) ?_))
 rintro _ w42 ⟨k43, rfl, e44⟩
 obtain ⟨K45, S46, m47⟩ := Ji e44 8 R
 refine ⟨tv, Jn 1 R (Ob h fun p26 h hK49 => Ju1 [(5, 2), (6, 1), (7, 2), (8, 1), (9, 2)] [(10, 2), (11, 2), (12, 1), (13, 1), (14, 2), (15, 2), (16, 1), (17, 2), (18, 2), (19, 2), (20, 2), (21, 2)] (fun L w' => L = [(3, .pointer (some ⟨b3, 0, none⟩)), (26, .bool p26)] ∧ ∃ κ', Stp [] K45 w42 κ' w') tv ?_ ?_)⟩
 revert h
 cases ht50 : x20
 refine JF fun h => Jn 1 R (Jd1 R R R R (Jn 1 R (Jd1 R R R R (Jn 1 R ?_))))
 cases h
 exact Jv1 _ tv ⟨R, _, (Jx2 _ _).wk R⟩ (KM R)
 refine JT fun h => Jf R (Jb2 U71 R Z40 R R) (Jl tv R R R R (Jc2 I40 R R (hvE ((f40.stp S46 R R).ld 2 R R))) (Jn 1 R (Ob h fun x25 hx25 h => Jh R R R C132 (s_l1Set_ok (κ := fun b => mp [] 0 (K45 b)) (Jl2 (g1_2.stp (S3.tr (S7.tr (S14.tr (S29.tr (S37.tr S46))))) R R) (mp [] 0) R R) hx25) ?_)))
 rintro _ w53 ⟨k54, rfl, e55⟩
 obtain ⟨K56, S57, m58⟩ := Ji e55 10 R
 refine ⟨tv, Jn 1 R ?_⟩
 cases h
 exact Jv1 _ tv ⟨R, _, S57.wk R⟩ (KM R)
 rintro _ w60 _ ⟨rfl, K61, S62⟩
 have h := hK49
 refine Jn 1 R (Ob h fun p37 h hK63 => Ju1 [(11, 2), (12, 1), (13, 1), (14, 2), (15, 2), (16, 1), (17, 2), (18, 2), (19, 2), (20, 2)] [(21, 2)] (fun L w' => L = [(37, .bool p37)] ∧ ∃ κ', Stp [] K61 w60 κ' w') tv ?_ ?_)
 revert h
 cases ht64 : p26
 refine JF fun h => Jn 1 R (Jd1 R R R R (Jd1 R R R R (Jn 2 R (Jd1 R R R R (Jn 4 R ?_)))))
 cases h
 exact Jv1 _ tv ⟨R, _, (Jx2 _ _).wk R⟩ (KM R)
 refine JT fun h => Jf R (Jb2 U71 R Z2 R R) ?_
 have f65 := f40.stp (S46.tr S62) R R
 refine Jl tv R R R R (Jc2 I2 R R (hvE (f65.ld 0 R R))) (Ob h fun x30 hx30 h => Jh R R R C133 (s_l24Both_ok (κ := fun b => mp [] 0 (K61 b)) hx30) ?_)
 rintro _ w66 ⟨k67, rfl, e68⟩
 obtain ⟨K69, S70, m71⟩ := Ji e68 10 R
 refine ⟨tv, Jn 1 R (Ob h fun p36 h hK73 => Ju1 [(15, 2), (16, 1), (17, 2), (18, 2), (19, 2)] [(20, 2)] (fun L w' => L = [(27, .bool true), (36, .bool p36)] ∧ ∃ κ', Stp [] K69 w66 κ' w') tv ?_ ?_)⟩
 revert h
 cases ht74 : x30
 refine JF fun h => Jf R (Jb2 U71 R Z40 R R) (Jl tv R R R R (Jc2 I40 R R (hvE ((f65.stp S70 R R).ld 2 R R))) (Jf R (Je2 U40 R R) (Jn 2 R ?_)))
 cases h
 exact Jv1 _ tv ⟨R, _, (Jx2 _ _).wk R⟩ (KM R)
 refine JT fun h => Jn 1 R (Jd1 R R R R (Jn 3 R ?_))
 cases h
 exact Jv1 _ tv ⟨R, _, (Jx2 _ _).wk R⟩ (KM R)
 rintro _ w76 _ ⟨rfl, K77, S78⟩
 have h := hK73
 refine Jn 1 R ?_
 cases h
 exact Jv1 _ tv ⟨R, _, (S70.tr S78).wk R⟩ (KM R)
 rintro _ w79 _ ⟨rfl, K80, S81⟩
 have h := hK63
 refine Jb 1 R (Ju (Ja2 (l := [.tmp 4]) V87 (Jp2 R R) R ?_))
 cases h
 exact ⟨K80, R, (hE.stp (S3.tr (S7.tr (S14.tr (S29.tr (S37.tr (S46.tr (S62.tr S81))))))) R R)⟩
 refine JT fun h => Jx R (Je [2] R (Jb 1 R (Ju (Jw (Ja2 (l := [.tmp 4]) V87 (Jp2 R R) R ?_)))))
 cases h
 exact ⟨K28, R, (hE.stp (S3.tr (S7.tr (S14.tr S29))) R R)⟩
theorem s_SetOk_ok {w : World} {κ : Col} {a0 u0} {p0 : (List Int)} {p1 : Int} (g0 : Rd (Rp.int .i64) κ w 0 a0 u0 p0) {r : Bool} (h : s_SetOk p0 p1 = some r) : Ret Tryz.prog 168 [.slice a0 p0.length u0, vi p1] w (fun v w' => ∃ (κ' : Col), v = .bool r ∧ Ent κ w κ' w') := by
 unfold s_SetOk at h
 refine Ret.enter F168 R N168 R ?_
 dsimp only [envOf]
 have hE := Ent.refl κ w
 refine Je [2] R (Jb 1 R (Je [2, 1, 2, 2, 2, 1, 2, 2] R (Jn 1 R (Ob h fun x6 hx6 h => Jh R R R C77 (s_l1In_ok (κ := fun b => mp [] 0 (κ b)) hx6) ?_))))
 rintro _ w1 ⟨k2, rfl, e3⟩
 obtain ⟨K4, S5, m6⟩ := Ji e3 2 R
 refine ⟨tv, Jn 1 R (Ob h fun p11 h hK8 => Ju1 [(3, 2), (4, 2), (5, 1), (6, 2)] [(7, 2)] (fun L w' => L = [(4, .bool false), (11, .bool p11)] ∧ ∃ κ', Stp [] K4 w1 κ' w') tv ?_ ?_)⟩
 revert h
 cases ht9 : x6
 refine JF fun h => Jn 2 R (Jd1 R R R R (Jn 1 R ?_))
 cases h
 exact Jv1 _ tv ⟨R, _, (Jx2 _ _).wk R⟩ (KM R)
 refine JT fun h => Jn 2 R (Ob h fun x10 hx10 h => Jh R R R C132 (s_l1Set_ok (κ := fun b => mp [] 0 (K4 b)) (Jl2 (g0.stp S5 R R) (mp [] 0) R R) hx10) ?_)
 rintro _ w11 ⟨k12, rfl, e13⟩
 obtain ⟨K14, S15, m16⟩ := Ji e13 4 R
 refine ⟨tv, Jn 1 R ?_⟩
 cases h
 exact Jv1 _ tv ⟨R, _, S15.wk R⟩ (KM R)
 rintro _ w18 _ ⟨rfl, K19, S20⟩
 have h := hK8
 refine Jb 1 R (Ju (Ja2 (l := [.tmp 4]) V168 (Jp2 R R) R ?_))
 cases h
 exact ⟨K19, R, (hE.stp (S5.tr S20) R R)⟩
theorem s_WordOk_ok {w : World} {κ : Col} {p0 : Sig} {ab ad aa ac} {p1 : Word} (g1_0 : Rd (Rp.int .i64) κ w 0 ab ad p1.Stem) (g1_1 : Rd (Rp.int .i64) κ w 0 aa ac p1.Loop) {r : Bool} (h : s_WordOk p0 p1 = some r) : Ret Tryz.prog 38 [.agg #[vi p0.In, vi p0.Out], .agg #[.slice ab p1.Stem.length ad, .slice aa p1.Loop.length ac]] w (fun v w' => ∃ (κ' : Col), v = .bool r ∧ Ent κ w κ' w') := by
 unfold s_WordOk at h
 refine Ret.enter F38 R N38 R ?_
 dsimp only [envOf]
 have hE := Ent.refl κ w
 refine Je [1, 1, 2] R (Jf1 (κ := κ) 2 R R R R R R R fun b2 w1 K2 S3 f4 => ⟨tv, Jf1 (κ := K2) 3 R R R R R R R fun b3 w5 K6 S7 f8 => ⟨tv, Jb 1 R (Jq (Js1 (κ := K6) [2, 3] none [(0, 0), (1, 1), (2, 2), (3, 0), (4, 0), (5, 1), (6, 1), (7, 2), (8, 2)] [] (by kernel_rfl) (by kernel_rfl) fun w10 S9 => ?_))⟩⟩)
 have f11 := f4.stp (S7.tr S9) R R
 refine Jg R (Jd2 (cs := [vi p0.In, vi p0.Out]) I31 Z31 R R R (haC f11.cells R)) (Ob h fun x6 hx6 h => Jh R R R C84 (s_SigOk_ok (κ := fun b => mp [] 0 (K6 b)) (p0 := p0) hx6) ?_)
 rintro _ w12 ⟨k13, rfl, e14⟩
 obtain ⟨K15, S16, m17⟩ := Ji e14 4 R
 refine ⟨(S16.cl R), Jn 1 R (Ob h fun p12 h hK19 => Ju1 [(3, 0), (4, 0), (5, 1), (6, 1), (7, 2)] [(8, 2)] (fun L w' => L = [(4, .bool false), (12, .bool p12)] ∧ ∃ κ', Stp [] K15 w12 κ' w') (S16.cl R) ?_ ?_)⟩
 revert h
 cases ht20 : x6
 refine JF fun h => Je1 R R R R (Je1 R R R R (Jd1 R R R R (Jd1 R R R R (Jn 1 R ?_))))
 cases h
 exact Jv1 _ (S16.cl R) ⟨R, _, (Jx2 _ _).wk R⟩ (KM R)
 refine JT fun h => Jg R (Jd2 (cs := [.slice ab p1.Stem.length ad, .slice aa p1.Loop.length ac]) I65 Z65 R R R (haC (f8.stp S9 R R).cells R)) (Jg R (Jd2 (cs := [vi p0.In, vi p0.Out]) I31 Z31 R R R (haC f11.cells R)) (Ob h fun x10 hx10 h => Jh R R R C86 (s_LettersOf_ok (κ := fun b => mp [] 0 (K15 b)) (p0 := p0) hx10) ?_))
 rintro _ w22 ⟨k23, rfl, e24⟩
 obtain ⟨K25, S26, m27⟩ := Ji e24 6 R
 have S001 := (S3.tr (S7.tr (S9.tr (S16.tr S26))))
 refine ⟨((S16.tr S26).cl R), Ob h fun x11 hx11 h => Jh R R R C85 (s_l23Word_ok (κ := fun b => mp [] 0 (K25 b)) (p0 := p1) (Jl2 (g1_0.stp S001 R R) (mp [] 0) R R) (Jl2 (g1_1.stp S001 R R) (mp [] 0) R R) hx11) ?_⟩
 rintro _ w31 ⟨k32, rfl, e33⟩
 obtain ⟨K34, S35, m36⟩ := Ji e33 8 R
 refine ⟨((S16.tr (S26.tr S35)).cl R), Jn 1 R ?_⟩
 cases h
 exact Jv1 _ ((S16.tr (S26.tr S35)).cl R) ⟨R, _, (S26.tr S35).wk R⟩ (KM R)
 rintro _ w38 _ ⟨rfl, K39, S40⟩
 have h := hK19
 refine Jn 1 R (Jt1 (Jd (Ju (Ja2 (l := [.tmp 4]) V38 (Jp2 R R) R ?_))))
 cases h
 exact ⟨K39, R, (hE.stp (S3.tr (S7.tr (S9.tr (S16.tr S40)))) R R)⟩
theorem s_InOf_ok {w : World} {κ : Col} {p0 : Sig} {p1 : Int}  {r : Int} (h : s_InOf p0 p1 = some r) : Ret Tryz.prog 40 [.agg #[vi p0.In, vi p0.Out], vi p1] w (fun v w' => ∃ (κ' : Col), v = vi r ∧ Ent κ w κ' w') := by
 unfold s_InOf at h
 refine Ret.enter F40 R N40 R ?_
 dsimp only [envOf]
 have hE := Ent.refl κ w
 refine Je [1, 2] R (Jf1 (κ := κ) 2 R R R R R R R fun b2 w1 K2 S3 f4 => ⟨tv, Jb 1 R (Jq (Je [2, 1, 1, 2, 1, 2] R (Jn 1 R (Jl tv R R R R (Jd2 (cs := [vi p0.In, vi p0.Out]) I31 Z31 R R R (haE f4.cells)) (Ob h fun x7 hx7 h => Jh R R R C86 (s_LettersOf_ok (κ := fun b => mp [] 0 (K2 b)) (p0 := p0) hx7) ?_)))))⟩)
 rintro _ w5 ⟨k6, rfl, e7⟩
 obtain ⟨K8, S9, m10⟩ := Ji e7 3 R
 refine ⟨tv, Jn 1 R (Ob h fun x9 hx9 h => Jh R R R C77 (s_l1In_ok (κ := fun b => mp [] 0 (K8 b)) hx9) ?_)⟩
 rintro _ w12 ⟨k13, rfl, e14⟩
 obtain ⟨K15, S16, m17⟩ := Ji e14 5 R
 refine ⟨tv, Jb 1 R ?_⟩
 revert h
 cases ht19 : (!x9)
 refine JF fun h => Jy R (Js (Jp (Je [2, 2, 1, 1, 2, 2] R (Jn 1 R (Jf R (Jb2 U31 R Z2 R R) (Jl tv R R R R (Jc2 I2 R R (hvE ((f4.stp (S9.tr S16) R R).ld 0 R R))) (Ob h fun x14 hx14 h => Jh R R R C93 (s_l23Power_ok (κ := fun b => mp [] 0 (K15 b)) hx14) ?_)))))))
 rintro _ w22 ⟨k23, rfl, e24⟩
 obtain ⟨K25, S26, m27⟩ := Ji e24 7 R
 refine ⟨tv, Ob h fun _z15 hz15 h => Jf R (rn_rem R R R (nz_ok hz15)) (Jb 1 R (Ju (Ja2 (l := [.tmp 4]) V40 (Jp2 R R) R ?_)))⟩
 cases h
 exact ⟨K25, R, (hE.stp (S3.tr (S9.tr (S16.tr S26))) R R)⟩
 refine JT fun h => Jx R (Je [2] R (Jb 1 R (Ju (Jw (Ja2 (l := [.tmp 4]) V40 (Jp2 R R) R ?_)))))
 cases h
 exact ⟨K15, R, (hE.stp (S3.tr (S9.tr S16)) R R)⟩
theorem s_RunWord_ok {w : World} {κ : Col} {p0 : Sig} {aa ac ad ab} {p1 : Machine} {aE aD aG aF} {p2 : Word} (g1_0 : Rd (Rp.sl (Rp.int .i64)) κ w 0 aa ac p1.Next) (g1_1 : Rd (Rp.sl (Rp.int .i64)) κ w 0 ad ab p1.Out) (g2_0 : Rd (Rp.int .i64) κ w 0 aE aD p2.Stem) (g2_1 : Rd (Rp.int .i64) κ w 0 aG aF p2.Loop) {r : Word} (h : s_RunWord p0 p1 p2 = some r) : Ret Tryz.prog 42 [.agg #[vi p0.In, vi p0.Out], .agg #[.slice aa p1.Next.length ac, .slice ad p1.Out.length ab], .agg #[.slice aE p2.Stem.length aD, .slice aG p2.Loop.length aF]] w (fun v w' => ∃ (κ' : Col) (ra0 : Option Addr) (ru0 : Nat) (ra1 : Option Addr) (ru1 : Nat), v = .agg #[.slice ra0 r.Stem.length ru0, .slice ra1 r.Loop.length ru1] ∧ Ent κ w κ' w' ∧ Oc E6 2 κ' w' 2 ra0 ru0 r.Stem ∧ Oc E6 2 κ' w' 3 ra1 ru1 r.Loop) := by
 unfold s_RunWord at h
 refine Ret.enter F42 R N42 R ?_
 dsimp only [envOf]
 have hE := Ent.refl κ w
 refine Je [1, 1, 1, 1] R (Jf1 (κ := κ) 2 R R R R R R R fun b3 w1 K2 S3 f4 => ⟨tv, Jf1 (κ := K2) 3 R R R R R R R fun b4 w5 K6 S7 f8 => ⟨tv, Jf1 (κ := K6) 4 R R R R R R R fun b5 w9 K10 S11 f12 => ⟨tv, Jg1 (κ := K10) 5 R R R R R X65 R fun b6 w13 K14 S15 f16 => ⟨tv, Jd (Jq (Je [1, 1, 1, 2, 2, 1, 2, 1, 1, 2, 2, 2, 1, 2, 1, 1, 2, 2, 2, 2, 1, 2, 2, 2] R ?_))⟩⟩⟩⟩)
 have f17 := f4.stp (S7.tr (S11.tr S15)) R R
 refine Jl tv R R R R (Jd2 (cs := [vi p0.In, vi p0.Out]) I31 Z31 R R R (haE f17.cells)) ?_
 have f18 := f8.stp (S11.tr S15) R R
 refine Jl tv R R R R (Jd2 (cs := [.slice aa p1.Next.length ac, .slice ad p1.Out.length ab]) I33 Z33 R R R (haE f18.cells)) (Ob h fun x15 hx15 h => ?_)
 have f19 := g1_0.stp (S3.tr (S7.tr (S11.tr S15))) R R
 have f20 := g1_1.stp (S3.tr (S7.tr (S11.tr S15))) R R
 refine Jh R R R C97 (s_MachineOk_ok (κ := fun b => mp [] 0 (K14 b)) (p0 := p0) (p1 := p1) (Jl2 f19 (mp [] 0) R R) (Jl2 f20 (mp [] 0) R R) hx15) ?_
 rintro _ w21 ⟨k22, rfl, e23⟩
 obtain ⟨K24, S25, m26⟩ := Ji e23 6 R
 refine ⟨tv, Jn 2 R (Ob h fun p23 h hK28 => Ju1 [(5, 1), (6, 2), (7, 1), (8, 1), (9, 2), (10, 2)] [(11, 2), (12, 1), (13, 2), (14, 1), (15, 1), (16, 2), (17, 2), (18, 2), (19, 2), (20, 1), (21, 2), (22, 2), (23, 2)] (fun L w' => L = [(3, .pointer (some ⟨b3, 0, none⟩)), (4, .pointer (some ⟨b4, 0, none⟩)), (5, .pointer (some ⟨b5, 0, none⟩)), (6, .pointer (some ⟨b6, 0, none⟩)), (23, .bool p23)] ∧ ∃ κ', Stp [] K24 w21 κ' w') tv ?_ ?_)⟩
 revert h
 cases ht29 : (!x15)
 refine JF fun h => Jl tv R R R R (Jd2 (cs := [vi p0.In, vi p0.Out]) I31 Z31 R R R (haE (f17.stp S25 R R).cells)) (Jf R (Jb2 U65 R Z40 R R) (Jl tv R R R R (Jc2 I40 R R (hvE ((f12.stp (S15.tr S25) R R).ld 0 R R))) (Ob h fun x21 hx21 h => Jh R R R C98 (s_l29Inputs_ok (κ := fun b => mp [] 0 (K24 b)) (p0 := p0) (Jl2 (g2_0.stp (S3.tr (S7.tr (S11.tr (S15.tr S25)))) R R) (mp [] 0) R R) hx21) ?_)))
 rintro _ w33 ⟨k34, rfl, e35⟩
 obtain ⟨K36, S37, m38⟩ := Ji e35 8 R
 refine ⟨tv, Jn 2 R ?_⟩
 cases h
 exact Jv1 _ tv ⟨R, _, S37.wk R⟩ (KM R)
 refine JT fun h => Jd1 R R R R (Jn 1 R (Jd1 R R R R (Jd1 R R R R (Jn 2 R ?_))))
 cases h
 exact Jv1 _ tv ⟨R, _, (Jx2 _ _).wk R⟩ (KM R)
 rintro _ w40 _ ⟨rfl, K41, S42⟩
 have h := hK28
 refine Jn 1 R (Ob h fun p30 h hK43 => Ju1 [(12, 1), (13, 2), (14, 1), (15, 1), (16, 2), (17, 2)] [(18, 2), (19, 2), (20, 1), (21, 2), (22, 2), (23, 2)] (fun L w' => L = [(3, .pointer (some ⟨b3, 0, none⟩)), (4, .pointer (some ⟨b4, 0, none⟩)), (5, .pointer (some ⟨b5, 0, none⟩)), (6, .pointer (some ⟨b6, 0, none⟩)), (30, .bool p30)] ∧ ∃ κ', Stp [] K41 w40 κ' w') tv ?_ ?_)
 revert h
 cases ht44 : p23
 refine JF fun h => Jl tv R R R R (Jd2 (cs := [vi p0.In, vi p0.Out]) I31 Z31 R R R (haE (f17.stp (S25.tr S42) R R).cells)) (Jf R (Jb2 U65 R Z40 R R) (Jl tv R R R R (Jc2 I40 R R (hvE ((f12.stp (S15.tr (S25.tr S42)) R R).ld 1 R R))) (Ob h fun x28 hx28 h => Jh R R R C98 (s_l29Inputs_ok (κ := fun b => mp [] 0 (K41 b)) (p0 := p0) (Jl2 (g2_1.stp (S3.tr (S7.tr (S11.tr (S15.tr (S25.tr S42))))) R R) (mp [] 0) R R) hx28) ?_)))
 rintro _ w48 ⟨k49, rfl, e50⟩
 obtain ⟨K51, S52, m53⟩ := Ji e50 8 R
 refine ⟨tv, Jn 2 R ?_⟩
 cases h
 exact Jv1 _ tv ⟨R, _, S52.wk R⟩ (KM R)
 refine JT fun h => Jd1 R R R R (Jn 1 R (Jd1 R R R R (Jd1 R R R R (Jn 2 R ?_))))
 cases h
 exact Jv1 _ tv ⟨R, _, (Jx2 _ _).wk R⟩ (KM R)
 rintro _ w55 _ ⟨rfl, K56, S57⟩
 have h := hK43
 refine Jn 1 R (Ob h fun p36 h hK58 => Ju1 [(19, 2), (20, 1), (21, 2), (22, 2), (23, 2)] [] (fun L w' => L = [(3, .pointer (some ⟨b3, 0, none⟩)), (4, .pointer (some ⟨b4, 0, none⟩)), (5, .pointer (some ⟨b5, 0, none⟩)), (6, .pointer (some ⟨b6, 0, none⟩)), (36, .bool p36)] ∧ ∃ κ', Stp [] K56 w55 κ' w') tv ?_ ?_)
 revert h
 cases ht59 : p30
 refine JF fun h => Jf R (Jb2 U65 R Z40 R R) (Jl tv R R R R (Jc2 I40 R R (hvE ((f12.stp (S15.tr (S25.tr (S42.tr S57))) R R).ld 1 R R))) (Jf R (Je2 U40 R R) (Jn 2 R ?_)))
 cases h
 exact Jv1 _ tv ⟨R, _, (Jx2 _ _).wk R⟩ (KM R)
 refine JT fun h => Jn 1 R (Jd1 R R R R (Jn 3 R ?_))
 cases h
 exact Jv1 _ tv ⟨R, _, (Jx2 _ _).wk R⟩ (KM R)
 rintro _ w61 _ ⟨rfl, K62, S63⟩
 have h := hK58
 refine Jd ?_
 revert h
 cases ht64 : p36
 refine JF fun h => Jy R (Js (Jp (Je [1, 2] R (Jo1 (κ := K62) (E := E6) 8 R R R R R Y40 Tryzinfo2 R fun aI aJ w70 K71 S72 f73 => ⟨tv, Jb 1 R (Je [1, 2, 1, 1, 2] R ?_)⟩))))
 have f74 := f18.stp (S25.tr (S42.tr (S57.tr (S63.tr S72)))) R R
 refine Jl tv R R R R (Jd2 (cs := [.slice aa p1.Next.length ac, .slice ad p1.Out.length ab]) I33 Z33 R R R (haE f74.cells)) (Jf R (Jb2 U65 R Z40 R R) ?_)
 have f75 := f12.stp (S15.tr (S25.tr (S42.tr (S57.tr (S63.tr S72))))) R R
 refine Jl tv R R R R (Jc2 I40 R R (hvE (f75.ld 0 R R))) (Ob h fun x42 hx42 h => ?_)
 have f76 := f19.stp (S25.tr (S42.tr (S57.tr (S63.tr S72)))) R R
 have f77 := f20.stp (S25.tr (S42.tr (S57.tr (S63.tr S72)))) R R
 have f78 := g2_0.stp (S3.tr (S7.tr (S11.tr (S15.tr (S25.tr (S42.tr (S57.tr (S63.tr S72)))))))) R R
 refine Jh R R R C99 (s_l29Behind_ok (κ := fun b => mp [] 0 (K71 b)) (p0 := p1) (Jl2 f76 (mp [] 0) R R) (Jl2 f77 (mp [] 0) R R) (Jl2 f78 (mp [] 0) R R) hx42) ?_
 rintro _ w79 ⟨k80, rfl, e81⟩
 obtain ⟨K82, S83, m84⟩ := Ji e81 9 R
 refine ⟨tv, Jb 1 R (Jq (Ob h fun q2 hq88 hK87 => ?_))⟩
 clear h
 refine Jx1 (fun L w' => ∃ κ', ∃ s3 : (List Int) × Int, ∃ an ao, L = [(3, .pointer (some ⟨b3, 0, none⟩)), (4, .pointer (some ⟨b4, 0, none⟩)), (5, .pointer (some ⟨b5, 0, none⟩)), (6, .pointer (some ⟨b6, 0, none⟩)), (7, .slice an s3.1.length ao), (8, vi s3.2)] ∧ Stp [8] K82 w79 κ' w' ∧ Oc E6 2 κ' w' 8 an ao s3.1 ∧ q2 = Sum.inr s3) ?_ ?_
 refine Jv (Jy1 (fun k L w' => ∃ κ', ∃ s1 : (List Int) × Int, ∃ au ap, L = [(3, .pointer (some ⟨b3, 0, none⟩)), (4, .pointer (some ⟨b4, 0, none⟩)), (5, .pointer (some ⟨b5, 0, none⟩)), (6, .pointer (some ⟨b6, 0, none⟩)), (7, .slice au s1.1.length ap), (8, vi s1.2)] ∧ Stp [8] K82 w79 κ' w' ∧ Oc E6 2 κ' w' 8 au ap s1.1 ∧ whileM (s_RunWord_b0 p1 p2) k s1 = some q2) ⟨_, _, ⟨K82, ((([] : List Int) : (List Int)), (x42 : Int)), aI, aJ, R, (Jx2 _ _).wk R, (f73.stp S83 R R), hq88⟩, (KM R)⟩ ?_)
 rintro k _ w93 ⟨K94, s1, au, ap, rfl, S95, f96, h⟩
 rcases k with _ | k
 cases h
 obtain ⟨o86, h, hk98⟩ := BI h; unfold s_RunWord_b0 at h
 refine Jq (Je [2, 2, 1, 2] R (Jn 2 R (Ob h fun x45 hx45 h => Jh R R R C100 (s_l1Place_ok (κ := fun b => mp [] 0 (K94 b)) (Jl2 f96.rdc (mp [] 0) R R) hx45) ?_)))
 rintro _ w99 ⟨k100, rfl, e101⟩
 obtain ⟨K102, S103, m104⟩ := Ji e101 11 R
 refine ⟨tv, Jb 1 R ?_⟩
 revert h
 cases ht106 : decide (x45 < 0)
 refine JF fun h => Jy R (Jc1 (Jt (Jt ?_)))
 cases h
 have h := hk98
 refine Jb1 ?_
 cases h
 exact Jw1 _ ⟨K102, ((s1.1 : (List Int)), (s1.2 : Int)), au, ap, R, (S95.tr S103).wk R, (f96.stp S103 R R), R⟩ (KM R)
 have S001 := (S83.tr (S95.tr S103))
 refine JT fun h => Jx R (Js (Jp (Jv (Je [2, 2, 1, 1, 2] R (Jn 2 R (Jn1 (κ := K102) (E := E6) 13 [] (parts := [(0, .tmp 48)]) (cells := [vi s1.2]) (xs := ([s1.2] : List Int)) R R R R R R Y40 Tryzinfo2 R R R R R R R R R R ⟨[vi s1.2], [], Zl K102 w99 [], Zl K102 w99 [], R, Zl.sp (l1 := []) (l2 := []) R, Zl.sr (l1 := []) (l2 := []), R, R⟩ fun aN aL w107 K108 S109 f110 => ⟨tv, Ob h fun x50 hx50 h => Jm1 (κ := K108) (E := E6) 8 [] R R R R R R R R R Y40 Tryzinfo2 R R R R (f96.stp (S103.tr S109) R R) (Sl.srcP (pu_int _) f110.rdc) sy_false hx50 R fun aH aK w112 K113 S114 f115 => ⟨tv, Jb 1 R (Ja [1, 2, 2, 1, 1, 2] R (Jl tv R R R R (Jd2 (cs := [.slice aa p1.Next.length ac, .slice ad p1.Out.length ab]) I33 Z33 R R R (haE (f74.stp (S001.tr (S109.tr S114)) R R).cells)) (Jn 1 R (Jf R (Jb2 U65 R Z40 R R) (Jl tv R R R R (Jc2 I40 R R (hvE ((f75.stp (S001.tr (S109.tr S114)) R R).ld 1 R R))) (Ob h fun x55 hx55 h => Jh R R R C99 (s_l29Behind_ok (κ := fun b => mp [] 0 (K113 b)) (p0 := p1) (Jl2 (f76.stp (S001.tr (S109.tr S114)) R R) (mp [] 0) R R) (Jl2 (f77.stp (S001.tr (S109.tr S114)) R R) (mp [] 0) R R) (Jl2 (g2_1.stp (S3.tr (S7.tr (S11.tr (S15.tr (S25.tr (S42.tr (S57.tr (S63.tr (S72.tr (S83.tr (S95.tr (S103.tr (S109.tr S114))))))))))))) R R) (mp [] 0) R R) hx55) ?_))))))⟩⟩))))))
 rintro _ w121 ⟨k122, rfl, e123⟩
 obtain ⟨K124, S125, m126⟩ := Ji e123 14 R
 refine ⟨tv, Jc 1 R (Jz ?_)⟩
 cases h
 exact Jz1 fun a ha => ⟨k, _, Ja3 _, ⟨K124, ((x50 : (List Int)), (x55 : Int)), aH, aK, R, (S95.tr (S103.tr (S109.tr (S114.tr S125)))).wk R, (f115.stp S125 R R), hk98⟩, (ha.mm R)⟩
 rintro _ w89 ⟨K90, s3, an, ao, rfl, S91, f92, rfl⟩
 have h := hK87
 dsimp only [aft] at h
 refine Jp (Je [2, 2, 1, 2] R (Jn 2 R (Ob h fun x58 hx58 h => Jh R R R C100 (s_l1Place_ok (κ := fun b => mp [] 0 (K90 b)) (Jl2 f92.rdc (mp [] 0) R R) hx58) ?_)))
 rintro _ w130 ⟨k131, rfl, e132⟩
 obtain ⟨K133, S134, m135⟩ := Ji e132 11 R
 refine ⟨tv, Jb 1 R (Je [1, 1, 2, 1, 1, 2, 1, 1] R ?_)⟩
 have f137 := f17.stp (S25.tr (S42.tr (S57.tr (S63.tr (S72.tr (S83.tr (S91.tr S134))))))) R R
 refine Jl tv R R R R (Jd2 (cs := [vi p0.In, vi p0.Out]) I31 Z31 R R R (haE f137.cells)) ?_
 have f138 := f74.stp (S83.tr (S91.tr S134)) R R
 refine Jl tv R R R R (Jd2 (cs := [.slice aa p1.Next.length ac, .slice ad p1.Out.length ab]) I33 Z33 R R R (haE f138.cells)) (Jf R (Jb2 U65 R Z40 R R) ?_)
 have f139 := f75.stp (S83.tr (S91.tr S134)) R R
 refine Jl tv R R R R (Jc2 I40 R R (hvE (f139.ld 0 R R))) (Ob h fun x63 hx63 h => ?_)
 have f140 := f76.stp (S83.tr (S91.tr S134)) R R
 have f141 := f77.stp (S83.tr (S91.tr S134)) R R
 refine Jh R R R C101 (s_l29Letters_ok (κ := fun b => mp [] 0 (K133 b)) (p0 := p0) (p1 := p1) (Jl2 f140 (mp [] 0) R R) (Jl2 f141 (mp [] 0) R R) (Jl2 (f78.stp (S83.tr (S91.tr S134)) R R) (mp [] 0) R R) hx63) ?_
 rintro _ w143 ⟨k144, aB, ax, rfl, e145, f146⟩
 obtain ⟨K147, S148, m149⟩ := Ji e145 13 R
 refine ⟨tv, Jf R (rn_build (parts := [(0, .tmp 63)]) (cells := [.slice aB x63.length ax, .slice none 0 0]) R R (by kernel_rfl)) (Jg1 (κ := K147) 16 R R R R R X65 R fun b10 w152 K153 S154 f155 => ⟨tv, Jj1 (κ := K153) 16 (vc := [.slice aB x63.length ax, .slice none 0 0]) R R R R R R R Z65 R R f155 R fun w156 S157 f158 => ⟨tv, Jd (Jq (Je [2] R (Jb 1 R ?_)))⟩⟩)⟩
 have hN159 : (s3.1.length : Int) ≤ 9223372036854775807 := f92.len_le
 refine Ob h fun q5 hq161 hK160 => ?_
 clear h
 refine Jx1 (fun L w' => ∃ κ', ∃ s6 : (List Int) × (List Int), ∃ ae ah al am, L = [(6, .pointer (some ⟨b6, 0, none⟩)), (10, .pointer (some ⟨b10, 0, none⟩))] ∧ Stp [15, 16, 17] K153 w156 κ' w' ∧ Oc E6 2 κ' w' 15 ae ah s6.1 ∧ Oc E6 2 κ' w' 17 al am s6.2 ∧ Bc κ' w' 16 b10 65 [.slice ae s6.1.length ah, .slice al s6.2.length am] ∧ q5 = Sum.inr s6) ?_ ?_
 refine Jv (Jy1 (fun k L w' => ∃ κ' v11, ∃ s4 : (List Int) × (List Int), ∃ ai aj af ak, L = [(3, .pointer (some ⟨b3, 0, none⟩)), (4, .pointer (some ⟨b4, 0, none⟩)), (5, .pointer (some ⟨b5, 0, none⟩)), (6, .pointer (some ⟨b6, 0, none⟩)), (7, .slice an s3.1.length ao), (9, vi x58), (10, .pointer (some ⟨b10, 0, none⟩)), (11, vi v11)] ∧ Stp [15, 16, 17] K153 w156 κ' w' ∧ Oc E6 2 κ' w' 15 ai aj s4.1 ∧ Oc E6 2 κ' w' 17 af ak s4.2 ∧ Bc κ' w' 16 b10 65 [.slice ai s4.1.length aj, .slice af s4.2.length ak] ∧ 0 ≤ v11 ∧ Int.toNat ((s3.1.length : Int) - v11) = k ∧ cntM (s_RunWord_b2 p0 p1 p2 s3 x58) k v11 s4 = some q5) ⟨_, _, ⟨K153, 0, ((x63 : (List Int)), (([] : List Int) : (List Int))), aB, ax, none, 0, R, (Jx2 _ _).wk R, ((f146.mx (no_int _) m149 R (R : 13 + 2 = 15)).stp (S154.tr S157) R R), Ow.nil, f158, (by decide), (by simp), hq161⟩, (KM R)⟩ ?_)
 rintro k _ w168 ⟨K169, v11, s4, ai, aj, af, ak, rfl, S170, f171, f172, f173, hj159, hJ159, h⟩
 rcases k with _ | k
 have hk175 := h; obtain ⟨o159, h⟩ := ex_eq (Sum.inr (Sum.inl s4) : Word ⊕ (((List Int) × (List Int)) ⊕ ((List Int) × (List Int))))
 have hc159 : decide (v11 < (s3.1.length : Int)) = false := Jo2 (by omega)
 refine Jq (Je [2, 2, 2, 2] R (Jn 2 R (Jf R (Je2 U40 R R) (Jb 1 R (Jw2 R hc159 (Jc1 (Jt (Jt ?_))))))))
 cases h
 have h := hk175
 refine Jb1 ?_
 cases h
 exact Jw1 _ ⟨K169, ((s4.1 : (List Int)), (s4.2 : (List Int))), ai, aj, af, ak, R, S170.wk R, f171, f172, f173, R⟩ (KM R)
 obtain ⟨o159, h, hk175⟩ := BI h; unfold s_RunWord_b2 at h
 have hc159 : decide (v11 < (s3.1.length : Int)) = true := Jn2 (by omega)
 have S002 := (S148.tr (S154.tr (S157.tr S170)))
 refine Jq (Je [2, 2, 2, 2] R (Jn 2 R (Jf R (Je2 U40 R R) (Jb 1 R (Jv2 R hc159 (Js (Jp (Jq (Jv (Jq (Js1 (κ := K169) [0, 2, 3, 4, 8] none [(2, 2), (3, 2), (4, 2), (6, 2), (0, 0), (1, 0), (5, 0), (7, 0), (8, 1), (9, 2)] [] (by kernel_rfl) (by kernel_rfl) fun w177 S176 => Jn 2 R (Ob h fun x75 hx75 h => Jf R (Jf2 f92.rdc hx75 U40 Z2 R R R R) (Jf R (Jb2 U65 R Z40 R R) (Jg R (Jd2 (cs := [vi p0.In, vi p0.Out]) I31 Z31 R R R (haC (f137.stp (S002.tr S176) R R).cells R)) (Jg R (Jd2 (cs := [.slice aa p1.Next.length ac, .slice ad p1.Out.length ab]) I33 Z33 R R R (haC (f138.stp (S002.tr S176) R R).cells R)) (Jg R (Jc2 I2 R R (hvC ((f92.stp (S134.tr (S148.tr (S154.tr (S157.tr (S170.tr S176))))) R R).rdc.gInt hx75) R)) (Jg R (Jc2 I40 R R (hvC ((f139.stp (S002.tr S176) R R).ld 1 R R) R)) (Ob h fun x79 hx79 h => Jh R R R C101 (s_l29Letters_ok (κ := fun b => mp [] 0 (K169 b)) (p0 := p0) (p1 := p1) (Jl2 (f140.stp (S002.tr S176) R R) (mp [] 0) R R) (Jl2 (f141.stp (S002.tr S176) R R) (mp [] 0) R R) (Jl2 (g2_1.stp (S3.tr (S7.tr (S11.tr (S15.tr (S25.tr (S42.tr (S57.tr (S63.tr (S72.tr (S83.tr (S91.tr (S134.tr (S148.tr (S154.tr (S157.tr (S170.tr S176)))))))))))))))) R R) (mp [] 0) R R) hx79) ?_))))))))))))))))))
 rintro _ w185 ⟨k186, aM, aO, rfl, e187, f188⟩
 obtain ⟨K189, S190, m191⟩ := Ji e187 18 R
 refine ⟨(S190.cl R), ?_⟩
 have f193 := f188.mx (no_int _) m191 R (R : 18 + 2 = 20)
 refine Jn 1 R (Jt1 (Jd (Je [2, 2, 2] R (Jb 3 R (Ob h fun q7 h hK194 => Jx1 (fun L w' => ∃ κ' aq av aw ar, L = [(3, .pointer (some ⟨b3, 0, none⟩)), (4, .pointer (some ⟨b4, 0, none⟩)), (5, .pointer (some ⟨b5, 0, none⟩)), (6, .pointer (some ⟨b6, 0, none⟩)), (7, .slice an s3.1.length ao), (9, vi x58), (10, .pointer (some ⟨b10, 0, none⟩)), (11, vi v11)] ∧ Stp [15, 16, 17] K189 w185 κ' w' ∧ Oc E6 2 κ' w' 15 aq av q7.1 ∧ Oc E6 2 κ' w' 17 aw ar q7.2 ∧ Bc κ' w' 16 b10 65 [.slice aq q7.1.length av, .slice aw q7.2.length ar]) ?_ ?_)))))
 revert h
 cases ht201 : decide (v11 < x58)
 refine JF fun h => Jy R (Ja [2, 1, 2, 1, 2, 1] R (Jf R (Jb2 U65 R Z40 R R) ?_))
 have f214 := f173.stp (S176.tr S190) R R
 refine Jl tv R R R R (Jc2 I40 R R (hvE (f214.ld 1 R R))) (Jn 1 R (Ob h fun x91 hx91 h => Jm1 (κ := K189) (E := E6) 17 [] R R R R R R R R R Y40 Tryzinfo2 R R R R (f172.stp (S176.tr S190) R R) (Sl.srcP (pu_int _) f193.rdc) sy_false hx91 R fun az ay w216 K217 S218 f219 => ⟨tv, Jf R (Jb2 U65 R Z40 R R) (Ji1 (κ := K217) 16 (off := 1) (vc := [.slice az x91.length ay]) (cs' := [.slice ai s4.1.length aj, .slice az x91.length ay]) R R R R R R R Z40 R R (f214.stp S218 R R) R R fun w221 S222 f223 => ⟨tv, Jo ?_⟩)⟩))
 cases h
 exact Jw1 _ ⟨K217, ai, aj, az, ay, R, (S218.tr S222).wk R, (f171.stp (S176.tr (S190.tr (S218.tr S222))) R R), (f219.stp S222 R R), f223⟩ (KM R)
 refine JT fun h => Jx R (Ja [2, 1, 2, 1, 2, 1] R (Jf R (Jb2 U65 R Z40 R R) ?_))
 have f202 := f173.stp (S176.tr S190) R R
 refine Jl tv R R R R (Jc2 I40 R R (hvE (f202.ld 0 R R))) (Jn 1 R (Ob h fun x86 hx86 h => Jm1 (κ := K189) (E := E6) 15 [] R R R R R R R R R Y40 Tryzinfo2 R R R R (f171.stp (S176.tr S190) R R) (Sl.srcP (pu_int _) f193.rdc) sy_false hx86 R fun aA aC w204 K205 S206 f207 => ⟨tv, Jf R (Jb2 U65 R Z40 R R) (Ji1 (κ := K205) 16 (off := 0) (vc := [.slice aA x86.length aC]) (cs' := [.slice aA x86.length aC, .slice af s4.2.length ak]) R R R R R R R Z40 R R (f202.stp S206 R R) R R fun w209 S210 f211 => ⟨tv, Jo ?_⟩)⟩))
 cases h
 exact Jw1 _ ⟨K205, aA, aC, af, ak, R, (S206.tr S210).wk R, (f207.stp S210 R R), (f172.stp (S176.tr (S190.tr (S206.tr S210))) R R), f211⟩ (KM R)
 rintro _ w195 ⟨K196, aq, av, aw, ar, rfl, S197, f198, f199, f200⟩
 have h := hK194
 refine Jz (Jp (Ja [2, 2, 2] R (Jc 3 R ?_)))
 have hw159 : IntKind.wrap .i64 (v11 + 1) = v11 + 1 := wr1 hj159 (Jm2 hc159) hN159
 rw [hw159]
 have hc159 := Jm2 hc159
 cases h
 exact Jz1 fun a ha => ⟨k, _, Ja3 _, ⟨K196, v11 + 1, ((q7.1 : (List Int)), (q7.2 : (List Int))), aq, av, aw, ar, R, (S170.tr (S176.tr (S190.tr S197))).wk R, f198, f199, f200, by omega, by omega, hk175⟩, (ha.mm R)⟩
 rintro _ w162 ⟨K163, s6, ae, ah, al, am, rfl, S164, f165, f166, f167, rfl⟩
 have h := hK160
 dsimp only [aft] at h
 refine Jp (Jq (Je [2, 1, 2, 2, 2, 2, 1, 2, 2, 2] R (Jf R (Jb2 U65 R Z40 R R) (Jl tv R R R R (Jc2 I40 R R (hvE (f167.ld 0 R R))) (Jf R (Je2 U40 R R) (Jn 2 R (Ob h fun p102 h hK226 => Ju1 [(5, 2), (6, 1), (7, 2), (8, 2), (9, 2)] [] (fun L w' => L = [(6, .pointer (some ⟨b6, 0, none⟩)), (10, .pointer (some ⟨b10, 0, none⟩)), (102, .bool p102)] ∧ ∃ κ', Stp [] K163 w162 κ' w') tv ?_ ?_)))))))
 revert h
 cases ht227 : decide (600 < (s6.1.length : Int))
 refine JF fun h => Jf R (Jb2 U65 R Z40 R R) (Jl tv R R R R (Jc2 I40 R R (hvE (f167.ld 1 R R))) (Jf R (Je2 U40 R R) (Jn 2 R ?_)))
 cases h
 exact Jv1 _ tv ⟨R, _, (Jx2 _ _).wk R⟩ (KM R)
 refine JT fun h => Jn 1 R (Jd1 R R R R (Jn 3 R ?_))
 cases h
 exact Jv1 _ tv ⟨R, _, (Jx2 _ _).wk R⟩ (KM R)
 rintro _ w228 _ ⟨rfl, K229, S230⟩
 have h := hK226
 refine Jd ?_
 revert h
 cases ht231 : p102
 refine JF fun h => Jy R (Js (Jp (Je [1, 1] R (Jl tv R R R R (Jd2 (cs := [.slice ae s6.1.length ah, .slice al s6.2.length am]) I65 Z65 R R R (haE (f167.stp S230 R R).cells)) (Jj1 (κ := K229) 5 (vc := [.slice ae s6.1.length ah, .slice al s6.2.length am]) R R R R R R R Z65 R R (f16.stp (S25.tr (S42.tr (S57.tr (S63.tr (S72.tr (S83.tr (S91.tr (S134.tr (S148.tr (S154.tr (S157.tr (S164.tr S230)))))))))))) R R) R fun w239 S240 f241 => ⟨tv, Jd (Ju (Ja2 (l := [.cell 6 65]) V42 (res_cellA R f241 I65 Z65 R R) R ?_))⟩)))))
 cases h
 exact ⟨(fun b => ren [(15, 2), (17, 3)] (K229 b)), ae, ah, al, am, R, ((hE.stp (S3.tr (S7.tr (S11.tr (S15.tr (S25.tr (S42.tr (S57.tr (S63.tr (S72.tr (S83.tr (S91.tr (S134.tr (S148.tr (S154.tr (S157.tr (S164.tr (S230.tr S240))))))))))))))))) R R).map (ren [(15, 2), (17, 3)]) R R), ((f165.stp (S230.tr S240) R R).map (ren [(15, 2), (17, 3)]) R R), ((f166.stp (S230.tr S240) R R).map (ren [(15, 2), (17, 3)]) R R)⟩
 refine JT fun h => Jx R (Je [2, 1] R (Jf R (rn_build (parts := []) (cells := [.slice none 0 0, .slice none 0 0]) R R (by kernel_rfl)) (Jj1 (κ := K229) 5 (vc := [.slice none 0 0, .slice none 0 0]) R R R R R R R Z65 R R (f16.stp (S25.tr (S42.tr (S57.tr (S63.tr (S72.tr (S83.tr (S91.tr (S134.tr (S148.tr (S154.tr (S157.tr (S164.tr S230)))))))))))) R R) R fun w233 S234 f235 => ⟨tv, Jd (Ju (Jw (Ja2 (l := [.cell 6 65]) V42 (res_cellA R f235 I65 Z65 R R) R ?_)))⟩)))
 cases h
 exact ⟨K229, none, 0, none, 0, R, (hE.stp (S3.tr (S7.tr (S11.tr (S15.tr (S25.tr (S42.tr (S57.tr (S63.tr (S72.tr (S83.tr (S91.tr (S134.tr (S148.tr (S154.tr (S157.tr (S164.tr (S230.tr S234))))))))))))))))) R R), Ow.nil, Ow.nil⟩
 refine JT fun h => Jx R (Je [2, 1] R (Jf R (rn_build (parts := []) (cells := [.slice none 0 0, .slice none 0 0]) R R (by kernel_rfl)) (Jj1 (κ := K62) 5 (vc := [.slice none 0 0, .slice none 0 0]) R R R R R R R Z65 R R (f16.stp (S25.tr (S42.tr (S57.tr S63))) R R) R fun w66 S67 f68 => ⟨tv, Jd (Ju (Jw (Ja2 (l := [.cell 6 65]) V42 (res_cellA R f68 I65 Z65 R R) R ?_)))⟩)))
 cases h
 exact ⟨K62, none, 0, none, 0, R, (hE.stp (S3.tr (S7.tr (S11.tr (S15.tr (S25.tr (S42.tr (S57.tr (S63.tr S67)))))))) R R), Ow.nil, Ow.nil⟩
theorem s_l23Fine_ok {w : World} {κ : Col} {ab ac ad aa} {p0 : Word} (g0_0 : Rd (Rp.int .i64) κ w 0 ab ac p0.Stem) (g0_1 : Rd (Rp.int .i64) κ w 0 ad aa p0.Loop) {r : Bool} (h : s_l23Fine p0 = some r) : Ret Tryz.prog 94 [.agg #[.slice ab p0.Stem.length ac, .slice ad p0.Loop.length aa]] w (fun v w' => ∃ (κ' : Col), v = .bool r ∧ Ent κ w κ' w') := by
 unfold s_l23Fine at h
 refine Ret.enter F94 R N94 R ?_
 dsimp only [envOf]
 have hE := Ent.refl κ w
 refine Je [1, 2] R (Jf1 (κ := κ) 2 R R R R R R R fun b1 w1 K2 S3 f4 => ⟨tv, Jb 1 R (Je [1, 1, 2] R (Jl tv R R R R (Jd2 (cs := [.slice ab p0.Stem.length ac, .slice ad p0.Loop.length aa]) I65 Z65 R R R (haE f4.cells)) (Ob h fun x4 hx4 h => Jh R R R C85 (s_l23Word_ok (κ := fun b => mp [] 0 (K2 b)) (p0 := p0) (Jl2 (g0_0.stp S3 R R) (mp [] 0) R R) (Jl2 (g0_1.stp S3 R R) (mp [] 0) R R) hx4) ?_)))⟩)
 rintro _ w7 ⟨k8, rfl, e9⟩
 obtain ⟨K10, S11, m12⟩ := Ji e9 3 R
 refine ⟨tv, Jb 1 R (Ju (Ja2 (l := [.tmp 2]) V94 (Jp2 R R) R ?_))⟩
 cases h
 exact ⟨K10, R, (hE.stp (S3.tr S11) R R)⟩
end Go.Proofs.YtcmamhmpoinmnaaGreat
