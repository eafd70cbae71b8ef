/- The walks, part 4. By program. -/
import Derived.Test.YtcmamhmpoinmnaaGreatFns0KO
import Derived.Test.YtcmamhmpoinmnaaGreatFns1KO
import Derived.Test.YtcmamhmpoinmnaaGreatFns2KO
set_option linter.unusedVariables false
set_option linter.unusedSimpArgs false
namespace Go.Proofs.YtcmamhmpoinmnaaGreat
open Go Go.Wk Go.Proofs
set_option maxRecDepth 100000
set_option maxHeartbeats 1000000
theorem l_toClause_ok {w : World} {κ : Col} {ah af ae ai} {p0 : Clause} (g0_1 : Rd (Rp.int .i64) κ w 0 ah af p0.A) (g0_2 : Rd (Rp.int .i64) κ w 0 ae ai p0.B) {r : Clause} (h : l_toClause p0 = some r) : Ret Tryz.prog 51 [.agg #[vi p0.Kind, .slice ah p0.A.length af, .slice ae p0.B.length ai]] w (fun v w' => ∃ (κ' : Col) (ra0 : Option Addr) (ru0 : Nat) (ra1 : Option Addr) (ru1 : Nat), v = .agg #[vi r.Kind, .slice ra0 r.A.length ru0, .slice ra1 r.B.length ru1] ∧ Ent κ w κ' w' ∧ Oc E6 2 κ' w' 2 ra0 ru0 r.A ∧ Oc E6 2 κ' w' 3 ra1 ru1 r.B) := by
 unfold l_toClause at h
 refine Ret.enter F51 R N51 R ?_
 dsimp only [envOf]
 have hE := Ent.refl κ w
 refine Je [1, 1] R (Jf1 (κ := κ) 2 R R R R R R R fun b1 w1 K2 S3 f4 => ⟨tv, Jg1 (κ := K2) 3 R R R R R X71 R fun b2 w5 K6 S7 f8 => ⟨tv, Jd (Je [1] R (Jg1 (κ := K6) 4 R R R R R X71 R fun b3 w9 K10 S11 f12 => ⟨tv, Jd (Je [2, 1, 2, 1] R (Jf R (Jb2 U78 R Z2 R R) ?_))⟩))⟩⟩)
 have f13 := f4.stp (S7.tr S11) R R
 refine Jl tv R R R R (Jc2 I2 R R (hvE (f13.ld 0 R R))) (Jf R (Jb2 U71 R Z2 R R) (Ji1 (κ := K10) 4 (off := 0) (vc := [vi p0.Kind]) (cs' := [vi p0.Kind, .slice none 0 0, .slice none 0 0]) R R R R R R R Z2 R R f12 R R fun w14 S15 f16 => ⟨tv, Jd (Je [2, 1, 1, 2, 1] R (Jf R (Jb2 U78 R Z40 R R) ?_))⟩))
 have f17 := f13.stp S15 R R
 refine Jl tv R R R R (Jc2 I40 R R (hvE (f17.ld 1 R R))) (Ob h fun x9 hx9 h => Jh R R R C68 (l_toInt64S_ok (κ := fun b => mp [] 0 (K10 b)) (Jl2 (g0_1.stp (S3.tr (S7.tr (S11.tr S15))) R R) (mp [] 0) R R) hx9) ?_)
 rintro _ w19 ⟨k20, ab, aa, rfl, e21, f22⟩
 obtain ⟨K23, S24, m25⟩ := Ji e21 5 R
 refine ⟨tv, Jf R (Jb2 U71 R Z40 R R) (Ji1 (κ := K23) 4 (off := 1) (vc := [.slice ab x9.length aa]) (cs' := [vi p0.Kind, .slice ab x9.length aa, .slice none 0 0]) R R R R R R R Z40 R R (f16.stp S24 R R) R R fun w29 S30 f31 => ⟨tv, Jd (Je [2, 1, 1, 2, 1] R (Jf R (Jb2 U78 R Z40 R R) (Jl tv R R R R (Jc2 I40 R R (hvE ((f17.stp (S24.tr S30) R R).ld 2 R R))) (Ob h fun x13 hx13 h => Jh R R R C68 (l_toInt64S_ok (κ := fun b => mp [] 0 (K23 b)) (Jl2 (g0_2.stp (S3.tr (S7.tr (S11.tr (S15.tr (S24.tr S30))))) R R) (mp [] 0) R R) hx13) ?_))))⟩)⟩
 rintro _ w34 ⟨k35, ac, ad, rfl, e36, f37⟩
 obtain ⟨K38, S39, m40⟩ := Ji e36 8 R
 refine ⟨tv, Jf R (Jb2 U71 R Z40 R R) (Ji1 (κ := K38) 4 (off := 2) (vc := [.slice ac x13.length ad]) (cs' := [vi p0.Kind, .slice ab x9.length aa, .slice ac x13.length ad]) R R R R R R R Z40 R R (f31.stp S39 R R) R R fun w44 S45 f46 => ⟨tv, Jd (Je [1, 1] R (Jl tv R R R R (Jd2 (cs := [vi p0.Kind, .slice ab x9.length aa, .slice ac x13.length ad]) I71 Z71 R R R (haE f46.cells)) (Jj1 (κ := K38) 3 (vc := [vi p0.Kind, .slice ab x9.length aa, .slice ac x13.length ad]) R R R R R R R Z71 R R (f8.stp (S11.tr (S15.tr (S24.tr (S30.tr (S39.tr S45))))) R R) R fun w48 S49 f50 => ⟨tv, Jd (Ju (Ja2 (l := [.cell 2 71]) V51 (res_cellA R f50 I71 Z71 R R) R ?_))⟩)))⟩)⟩
 cases h
 exact ⟨(fun b => ren [(7, 2), (10, 3)] (K38 b)), ab, aa, ac, ad, R, ((hE.stp (S3.tr (S7.tr (S11.tr (S15.tr (S24.tr (S30.tr (S39.tr (S45.tr S49)))))))) R R).map (ren [(7, 2), (10, 3)]) R R), (((f22.mx (no_int _) m25 R (R : 5 + 2 = 7)).stp (S30.tr (S39.tr (S45.tr S49))) R R).map (ren [(7, 2), (10, 3)]) R R), (((f37.mx (no_int _) m40 R (R : 8 + 2 = 10)).stp (S45.tr S49) R R).map (ren [(7, 2), (10, 3)]) R R)⟩
theorem s_SigOk_ok {w : World} {κ : Col} {p0 : Sig}  {r : Bool} (h : s_SigOk p0 = some r) : Ret Tryz.prog 84 [.agg #[vi p0.In, vi p0.Out]] w (fun v w' => ∃ (κ' : Col), v = .bool r ∧ Ent κ w κ' w') := by
 unfold s_SigOk at h
 refine Ret.enter F84 R N84 R ?_
 dsimp only [envOf]
 have hE := Ent.refl κ w
 refine Je [1, 2] R (Jf1 (κ := κ) 2 R R R R R R R fun b1 w1 K2 S3 f4 => ⟨tv, Jb 1 R (Je [2, 1, 1, 2, 2, 1, 1, 2, 2] R (Jf R (Jb2 U31 R Z2 R R) (Jl tv R R R R (Jc2 I2 R R (hvE (f4.ld 0 R R))) (Ob h fun x5 hx5 h => Jh R R R C77 (s_l1In_ok (κ := fun b => mp [] 0 (K2 b)) hx5) ?_))))⟩)
 rintro _ w5 ⟨k6, rfl, e7⟩
 obtain ⟨K8, S9, m10⟩ := Ji e7 3 R
 refine ⟨tv, Jn 1 R (Ob h fun p10 h hK12 => Ju1 [(4, 2), (5, 1), (6, 1), (7, 2)] [(8, 2)] (fun L w' => L = [(2, .bool false), (10, .bool p10)] ∧ ∃ κ', Stp [] K8 w5 κ' w') tv ?_ ?_)⟩
 revert h
 cases ht13 : x5
 refine JF fun h => Jn 1 R (Jd1 R R R R (Jd1 R R R R (Jn 1 R ?_)))
 cases h
 exact Jv1 _ tv ⟨R, _, (Jx2 _ _).wk R⟩ (KM R)
 refine JT fun h => Jf R (Jb2 U31 R Z2 R R) (Jl tv R R R R (Jc2 I2 R R (hvE ((f4.stp S9 R R).ld 1 R R))) (Ob h fun x9 hx9 h => Jh R R R C77 (s_l1In_ok (κ := fun b => mp [] 0 (K8 b)) hx9) ?_))
 rintro _ w15 ⟨k16, rfl, e17⟩
 obtain ⟨K18, S19, m20⟩ := Ji e17 5 R
 refine ⟨tv, Jn 1 R ?_⟩
 cases h
 exact Jv1 _ tv ⟨R, _, S19.wk R⟩ (KM R)
 rintro _ w22 _ ⟨rfl, K23, S24⟩
 have h := hK12
 refine Jb 1 R (Ju (Ja2 (l := [.tmp 2]) V84 (Jp2 R R) R ?_))
 cases h
 exact ⟨K23, R, (hE.stp (S3.tr (S9.tr S24)) R R)⟩
theorem s_l1Rises_ok {w : World} {κ : Col} {a0 u0} {p0 : (List Int)} {p1 : Int} (g0 : Rd (Rp.int .i64) κ w 0 a0 u0 p0) {r : Bool} (h : s_l1Rises p0 p1 = some r) : Ret Tryz.prog 162 [.slice a0 p0.length u0, vi p1] w (fun v w' => ∃ (κ' : Col), v = .bool r ∧ Ent κ w κ' w') := by
 unfold s_l1Rises at h
 refine Ret.enter F162 R N162 R ?_
 dsimp only [envOf]
 have hE := Ent.refl κ w
 refine Je [2] R (Jb 1 R (Jq (Je [2] R (Jb 1 R ?_))))
 have hN1 : (p0.length : Int) ≤ 9223372036854775807 := g0.len_le
 refine Ob h fun q2 hq3 hK2 => ?_
 clear h
 refine Jx1 (fun L w' => ∃ κ', L = [] ∧ Stp [] κ w κ' w' ∧ q2 = Sum.inr ()) ?_ ?_
 refine Jv (Jy1 (fun k L w' => ∃ κ' v5, L = [(0, .slice a0 p0.length u0), (1, vi p1), (5, vi v5)] ∧ Stp [] κ w κ' w' ∧ 0 ≤ v5 ∧ Int.toNat ((p0.length : Int) - v5) = k ∧ cntM (s_l1Rises_b0 p0 p1) k v5 () = some q2) ⟨_, _, ⟨κ, 0, R, (Jx2 _ _).wk R, (by decide), (by simp), hq3⟩, (KM R)⟩ ?_)
 rintro k _ w7 ⟨K8, v5, rfl, S9, hj1, hJ1, h⟩
 rcases k with _ | k
 have hk10 := h; obtain ⟨o1, h⟩ := ex_eq (Sum.inr (Sum.inl ()) : Bool ⊕ ((Unit) ⊕ (Unit)))
 have hc1 : decide (v5 < (p0.length : Int)) = false := Jo2 (by omega)
 refine Jq (Je [2, 2, 2, 2] R (Jn 2 R (Jf R (Je2 U40 R R) (Jb 1 R (Jw2 R hc1 (Jc1 (Jt (Jt ?_))))))))
 cases h
 have h := hk10
 refine Jb1 ?_
 cases h
 exact Jw1 _ ⟨K8, R, S9.wk R, R⟩ KN
 obtain ⟨o1, h, hk10⟩ := BI h; unfold s_l1Rises_b0 at h
 have hc1 : decide (v5 < (p0.length : Int)) = true := Jn2 (by omega)
 refine Jq (Je [2, 2, 2, 2] R (Jn 2 R (Jf R (Je2 U40 R R) (Jb 1 R (Jv2 R hc1 (Js (Jp (Jq (Jv (Jq (Js1 (κ := K8) [0] none [(0, 2), (1, 2), (2, 2), (4, 2), (5, 2), (3, 0), (6, 1), (7, 2), (8, 2), (9, 2), (10, 2), (11, 2), (12, 2), (13, 2), (14, 2), (16, 2), (17, 2), (18, 2), (19, 2), (15, 0), (20, 0), (21, 2), (22, 2), (23, 2)] [] (by kernel_rfl) (by kernel_rfl) fun w12 S11 => Jn 2 R (Ob h fun x14 hx14 h => Jf R (Jf2 g0 hx14 U40 Z2 R R R R) (Jn 2 R ?_)))))))))))))
 have f13 := g0.stp (S9.tr S11) R R
 refine Jg R (Jc2 I2 R R (hvC (f13.gInt hx14) R)) (Ob h fun x18 hx18 h => Jh R R R C77 (s_l1In_ok (κ := fun b => mp [] 0 (K8 b)) hx18) ?_)
 rintro _ w14 ⟨k15, rfl, e16⟩
 obtain ⟨K17, S18, m19⟩ := Ji e16 2 R
 refine ⟨(S18.cl R), Jn 2 R (Ob h fun p35 h hK21 => Ju1 [(9, 2), (10, 2), (11, 2), (12, 2), (13, 2), (14, 2), (16, 2), (17, 2), (18, 2), (19, 2), (15, 0), (20, 0), (21, 2), (22, 2), (23, 2)] [] (fun L w' => L = [(0, .slice a0 p0.length u0), (1, vi p1), (5, vi v5), (35, .bool p35)] ∧ ∃ κ', Stp [] K17 w14 κ' w') (S18.cl R) ?_ ?_)⟩
 revert h
 cases ht22 : (!x18)
 refine JF fun h => Jn 3 R (Ob h fun p34 h hK23 => Ju1 [(12, 2), (13, 2), (14, 2), (16, 2), (17, 2), (18, 2), (19, 2), (15, 0), (20, 0), (21, 2), (22, 2)] [(23, 2)] (fun L w' => L = [(0, .slice a0 p0.length u0), (1, vi p1), (5, vi v5), (20, .bool false), (21, vi v5), (22, .bool (decide (0 < v5))), (23, .bool (decide (0 < v5))), (34, .bool p34)] ∧ ∃ κ', Stp [] K17 w14 κ' w') (S18.cl R) ?_ ?_)
 revert h
 cases ht24 : decide (0 < v5)
 refine JF fun h => Jn 7 R (Je1 R R R R (Je1 R R R R (Jn 2 R ?_)))
 cases h
 exact Jv1 _ (S18.cl R) ⟨R, _, (Jx2 _ _).wk R⟩ (KM R)
 refine JT fun h => Jn 2 R (Ob h fun x26 hx26 h => Jf R (Jf2 f13 hx26 U40 Z2 R R R R) (Jn 3 R (Ob h fun x31 hx31 h => Jf R (Jf2 f13 hx31 U40 Z2 R R R R) (Jg R (Jc2 I2 R R (hvC (f13.gInt hx26) R)) (Jg R (Jc2 I2 R R (hvC (f13.gInt hx31) R)) (Jn 2 R ?_))))))
 cases h
 exact Jv1 _ (S18.cl R) ⟨R, _, (Jx2 _ _).wk R⟩ (KM R)
 rintro _ w25 _ ⟨rfl, K26, S27⟩
 have h := hK23
 refine Jn 1 R ?_
 cases h
 exact Jv1 _ ((S18.tr S27).cl R) ⟨R, _, S27.wk R⟩ (KM R)
 refine JT fun h => Jn 10 R (Je1 R R R R (Je1 R R R R (Jn 3 R ?_)))
 cases h
 exact Jv1 _ (S18.cl R) ⟨R, _, (Jx2 _ _).wk R⟩ (KM R)
 rintro _ w28 _ ⟨rfl, K29, S30⟩
 have h := hK21
 refine Jt1 (Jd ?_)
 revert h
 cases ht31 : p35
 refine JF fun h => Jy R (Js (Jz (Jp (Ja [2, 2, 2] R (Jc 3 R ?_)))))
 have hw1 : IntKind.wrap .i64 (v5 + 1) = v5 + 1 := wr1 hj1 (Jm2 hc1) hN1
 rw [hw1]
 have hc1 := Jm2 hc1
 cases h
 exact Jz1 fun a ha => ⟨k, _, Ja3 _, ⟨K29, v5 + 1, R, (S9.tr (S11.tr (S18.tr S30))).wk R, by omega, by omega, hk10⟩, (ha.mm R)⟩
 refine JT fun h => Jx R (Je [2] R (Jb 1 R (Ju (Ja1 (Jw (Jw ?_))))))
 cases h
 obtain rfl := Option.some.inj hk10
 have h := hK2
 dsimp only [aft] at h
 refine Ja1 (Jq2 (Jw (Ja2 (l := [.tmp 4]) V162 (Jp2 R R) R ?_)))
 cases h
 exact ⟨K29, R, (hE.stp (S9.tr (S11.tr (S18.tr S30))) R R)⟩
 rintro _ w4 ⟨K5, rfl, S6, rfl⟩
 have h := hK2
 dsimp only [aft] at h
 refine Jp (Je [2] R (Jb 1 R (Ju (Ja2 (l := [.tmp 4]) V162 (Jp2 R R) R ?_))))
 cases h
 exact ⟨K5, R, (hE.stp S6 R R)⟩
theorem slices_Contains_I_int64_ok {w : World} {κ : Col} {a0 u0} {p0 : (List Int)} {p1 : Int} (g0 : Rd (Rp.int .i64) κ w 0 a0 u0 p0) {r : Bool} (h : slices_Contains_I_int64 p0 p1 = some r) : Ret Tryz.prog 73 [.slice a0 p0.length u0, vi p1] w (fun v w' => ∃ (κ' : Col), v = .bool r ∧ Ent κ w κ' w') := by
 unfold slices_Contains_I_int64 at h
 refine Ret.enter F73 R N73 R ?_
 dsimp only [envOf]
 have hE := Ent.refl κ w
 refine Je [2] R (Jb 1 R (Je [2, 2, 1, 2, 2] R (Jn 2 R (Ob h fun x7 hx7 h => Jh R R R C122 (slices_Index_I_int64_ok (κ := fun b => mp [] 0 (κ b)) (Jl2 g0 (mp [] 0) R R) hx7) ?_))))
 rintro _ w1 ⟨k2, rfl, e3⟩
 obtain ⟨K4, S5, m6⟩ := Ji e3 2 R
 refine ⟨tv, Jb 2 R (Ju (Ja2 (l := [.tmp 4]) V73 (Jp2 R R) R ?_))⟩
 cases h
 exact ⟨K4, R, (hE.stp S5 R R)⟩
theorem i_loopsIn_1__i_loopsIn_2__i_loopsIn_1_ok (n : Nat) : ∀ {w : World} {κ : Col} {p0 : Int} {a1 u1} {p1 : (List (List Int))} {ab ad} {c2_0 : (List Int)} {a3 u3} {c0 : (List Bool)} {a4 u4} {c1 : (List Bool)} {b2_0 b3 b4 b5} (g1 : Rd (Rp.sl (Rp.int .i64)) κ w 0 a1 u1 p1) (g2_0 : Oc E6 2 κ w 2 ab ad c2_0) (g3 : Oc Ep.bool 4 κ w 3 a3 u3 c0) (g4 : Rd Rp.bool κ w 0 a4 u4 c1) (gb2_0 : Bc κ w 4 b2_0 40 [.slice ab c2_0.length ad]) (gb3 : Bc κ w 0 b3 135 [.slice a3 c0.length u3]) (gb4 : Bc κ w 0 b4 135 [.slice a4 c1.length u4]) (gb5 : Bc κ w 0 b5 173 [.func (.func 152) #[] #[.pointer (some ⟨b3, 0, none⟩), .pointer (some ⟨b4, 0, none⟩), .pointer (some ⟨b5, 0, none⟩)]]) {r : (List Int) × (List Bool)} (h : i_loopsIn_1__i_loopsIn_2__i_loopsIn_1 n p0 p1 c2_0 c0 c1 = some r), Ret Tryz.prog 152 [vi p0, .slice a1 p1.length u1, .func (.func 153) #[] #[.pointer (some ⟨b2_0, 0, none⟩)], .pointer (some ⟨b3, 0, none⟩), .pointer (some ⟨b4, 0, none⟩), .pointer (some ⟨b5, 0, none⟩)] w (fun v w' => ∃ (κ' : Col) (ma0 : Option Addr) (mu0 : Nat), v = .tuple #[] ∧ Ent κ w κ' w' ∧ Oc E6 2 κ' w' 2 ma0 mu0 r.1 ∧ Oc Ep.bool 4 κ' w' 3 a3 u3 r.2 ∧ c0.length = r.2.length ∧ Bc κ' w' 4 b2_0 40 [.slice ma0 r.1.length mu0]) := by
 induction n with
 | zero =>
  intro w κ p0 a1 u1 p1 ab ad c2_0 a3 u3 c0 a4 u4 c1 b2_0 b3 b4 b5 g1 g2_0 g3 g4 gb2_0 gb3 gb4 gb5 r h
  cases h
 | succ n ih =>
  intro w κ p0 a1 u1 p1 ab ad c2_0 a3 u3 c0 a4 u4 c1 b2_0 b3 b4 b5 g1 g2_0 g3 g4 gb2_0 gb3 gb4 gb5 r h
  have h : i_loopsIn_1__i_loopsIn_2__i_loopsIn_1_s (i_loopsIn_1__i_loopsIn_2__i_loopsIn_1 n) p0 p1 c2_0 c0 c1 = some r := h
  unfold i_loopsIn_1__i_loopsIn_2__i_loopsIn_1_s at h
  refine Ret.enter F152 R N152 R ?_
  dsimp only [envOf]
  have hE := Ent.refl κ w
  refine Je [1, 2, 2, 1] R (Jl tv R R R R (Jc2 I135 R R (hvE (gb3.ld 0 R R))) (Jn 1 R (Ob h fun x13 hx13 h => Jf R (Jf2 g3.rdc hx13 U135 Z4 R R R R) (Ob h fun y255 hy255 h => Jk1 (κ := κ) (E := Ep.bool) 3 [] R R R R R R R R Z4 R R R R g3 hy255 fun w1 K2 S3 f4 => ⟨tv, ?_⟩))))
  have hn5 : c0.length = y255.length := (Jt2 hy255).2.2.2.symm
  refine Jd (Jq (Je [2, 2, 2, 1, 2, 2] R (Jn 2 R (Ob h fun x16 hx16 h => Jf R (Jf2 g1 hx16 U24 Z40 R R R R) ?_))))
  have f6 := g1.stp S3 R R
  obtain ⟨ax16, ux16, f7, hl8⟩ := f6.gSl hx16
  refine Jl tv R R R R (Jc2 I40 R R (hvE hl8)) (Jf R (Je2 U40 R R) (Jb 1 R ?_))
  have hN9 : (x16.length : Int) ≤ 9223372036854775807 := f7.len_le
  refine Ob h fun q2 hq11 hK10 => ?_
  clear h
  refine Jx1 (fun L w' => ∃ κ', ∃ s3 : (List Int) × (List Bool), ∃ ai ah, L = [(0, vi p0), (2, .func (.func 153) #[] #[.pointer (some ⟨b2_0, 0, none⟩)]), (3, .pointer (some ⟨b3, 0, none⟩)), (4, .pointer (some ⟨b4, 0, none⟩)), (5, .pointer (some ⟨b5, 0, none⟩))] ∧ Stp [2, 3, 4, 7, 8, 9] K2 w1 κ' w' ∧ Oc E6 2 κ' w' 2 ai ah s3.1 ∧ Oc Ep.bool 4 κ' w' 3 a3 u3 s3.2 ∧ c0.length = s3.2.length ∧ Bc κ' w' 4 b2_0 40 [.slice ai s3.1.length ah] ∧ q2 = Sum.inr s3) ?_ ?_
  refine Jv (Jy1 (fun k L w' => ∃ κ' v19, ∃ s1 : (List Int) × (List Bool), ∃ aa ac, L = [(0, vi p0), (1, .slice a1 p1.length u1), (2, .func (.func 153) #[] #[.pointer (some ⟨b2_0, 0, none⟩)]), (3, .pointer (some ⟨b3, 0, none⟩)), (4, .pointer (some ⟨b4, 0, none⟩)), (5, .pointer (some ⟨b5, 0, none⟩)), (17, .slice ax16 x16.length ux16), (18, vi (x16.length : Int)), (19, vi v19)] ∧ Stp [2, 3, 4, 7, 8, 9] K2 w1 κ' w' ∧ Oc E6 2 κ' w' 2 aa ac s1.1 ∧ Oc Ep.bool 4 κ' w' 3 a3 u3 s1.2 ∧ c0.length = s1.2.length ∧ Bc κ' w' 4 b2_0 40 [.slice aa s1.1.length ac] ∧ 0 ≤ v19 ∧ Int.toNat ((x16.length : Int) - v19) = k ∧ cntM (i_loopsIn_1__i_loopsIn_2__i_loopsIn_1_b0 (i_loopsIn_1__i_loopsIn_2__i_loopsIn_1 n) p1 c1 x16) k v19 s1 = some q2) ⟨_, _, ⟨K2, 0, ((c2_0 : (List Int)), (y255 : (List Bool))), ab, ad, R, (Jx2 _ _).wk R, (g2_0.stp S3 R R), f4, hn5, (gb2_0.stp S3 R R), (by decide), (by simp), hq11⟩, (KM R)⟩ ?_)
  rintro k _ w19 ⟨K20, v19, s1, aa, ac, rfl, S21, f22, f23, hn24, f25, hj9, hJ9, h⟩
  rcases k with _ | k
  have hk28 := h; obtain ⟨o9, h⟩ := ex_eq (Sum.inr (Sum.inl s1) : ((List Int) × (List Bool)) ⊕ (((List Int) × (List Bool)) ⊕ ((List Int) × (List Bool))))
  have hc9 : decide (v19 < (x16.length : Int)) = false := Jo2 (by omega)
  refine Je [2] R (Jb 1 R (Jq (Jw2 R hc9 (Jc1 (Jt (Jt ?_))))))
  cases h
  have h := hk28
  refine Jb1 ?_
  cases h
  exact Jw1 _ ⟨K20, ((s1.1 : (List Int)), (s1.2 : (List Bool))), aa, ac, R, S21.wk R, f22, f23, hn24, f25, R⟩ (KM R)
  obtain ⟨o9, h, hk28⟩ := BI h; unfold i_loopsIn_1__i_loopsIn_2__i_loopsIn_1_b0 at h
  have hc9 : decide (v19 < (x16.length : Int)) = true := Jn2 (by omega)
  refine Je [2] R (Jb 1 R (Jq (Jv2 R hc9 (Js (Jp (Jq (Jv (Je [2, 1, 2] R (Ob h fun x21 hx21 h => Jf R (Jf2 f7 hx21 U40 Z2 R R R R) (Jl tv R R R R (Jc2 I2 R R (hvE ((f7.stp S21 R R).gInt hx21))) (Jb 1 R (Je [1, 2, 2, 1, 2, 1, 2, 2, 1, 2, 2] R ?_))))))))))))
  have f30 := gb4.stp (S3.tr S21) R R
  refine Jl tv R R R R (Jc2 I135 R R (hvE (f30.ld 0 R R))) (Jn 1 R (Ob h fun x25 hx25 h => Jf R (Jf2 g4 hx25 U135 Z4 R R R R) ?_))
  have f31 := g4.stp (S3.tr S21) R R
  refine Jl tv R R R R (Jc2 I4 R R (hvE (f31.gBool hx25))) (Jn 1 R (Ob h fun p33 h hK32 => Ju1 [(5, 1), (6, 2), (7, 2), (8, 1), (9, 2), (10, 2)] [] (fun L w' => L = [(0, vi p0), (1, .slice a1 p1.length u1), (2, .func (.func 153) #[] #[.pointer (some ⟨b2_0, 0, none⟩)]), (3, .pointer (some ⟨b3, 0, none⟩)), (4, .pointer (some ⟨b4, 0, none⟩)), (5, .pointer (some ⟨b5, 0, none⟩)), (10, vi x21), (17, .slice ax16 x16.length ux16), (18, vi (x16.length : Int)), (19, vi v19), (33, .bool p33)] ∧ ∃ κ', Stp [] K20 w19 κ' w') tv ?_ ?_))
  revert h
  cases ht33 : x25
  refine JF fun h => Jd1 R R R R (Jn 2 R (Jd1 R R R R (Jn 2 R ?_)))
  cases h
  exact Jv1 _ tv ⟨R, _, (Jx2 _ _).wk R⟩ (KM R)
  refine JT fun h => Jl tv R R R R (Jc2 I135 R R (hvE ((gb3.stp (S3.tr S21) R R).ld 0 R R))) (Jn 1 R (Ob h fun x30 hx30 h => Jf R (Jf2 f23.rdc hx30 U135 Z4 R R hn24 R) (Jl tv R R R R (Jc2 I4 R R (hvE (f23.rdc.gBool hx30))) (Jn 2 R ?_))))
  cases h
  exact Jv1 _ tv ⟨R, _, (Jx2 _ _).wk R⟩ (KM R)
  rintro _ w35 _ ⟨rfl, K36, S37⟩
  have h := hK32
  refine Jd (Ob h fun q4 h hK38 => Jx1 (fun L w' => ∃ κ' af ae, L = [(0, vi p0), (1, .slice a1 p1.length u1), (2, .func (.func 153) #[] #[.pointer (some ⟨b2_0, 0, none⟩)]), (3, .pointer (some ⟨b3, 0, none⟩)), (4, .pointer (some ⟨b4, 0, none⟩)), (5, .pointer (some ⟨b5, 0, none⟩)), (17, .slice ax16 x16.length ux16), (18, vi (x16.length : Int)), (19, vi v19)] ∧ Stp [2, 3, 4, 7, 8, 9] K36 w35 κ' w' ∧ Oc E6 2 κ' w' 2 af ae q4.1 ∧ Oc Ep.bool 4 κ' w' 3 a3 u3 q4.2 ∧ c0.length = q4.2.length ∧ Bc κ' w' 4 b2_0 40 [.slice af q4.1.length ae]) ?_ ?_)
  revert h
  cases ht46 : p33
  refine JF fun h => Jy R (Js ?_)
  cases h
  exact Jw1 _ ⟨K36, aa, ac, R, (Jx2 _ _).wk R, (f22.stp S37 R R), (f23.stp S37 R R), hn24, (f25.stp S37 R R)⟩ (KM R)
  refine JT fun h => Jx R (Ja [1, 2, 2, 2, 1] R ?_)
  have f47 := gb5.stp (S3.tr (S21.tr S37)) R R
  refine Jl tv R R R R (Jc2 I173 R R (hvE (f47.ld 0 R R))) (Jn 3 R (Ob h fun x38 hx38 h => WO.callV R R R R R R R R C152 (ih (κ := fun b => mp [(2, 2), (3, 3), (4, 4)] 0 (K36 b)) (Jl2 (f6.stp (S21.tr S37) R R) (mp [(2, 2), (3, 3), (4, 4)] 0) R R) ((f22.stp S37 R R).map (mp [(2, 2), (3, 3), (4, 4)] 0) R R) ((f23.stp S37 R R).map (mp [(2, 2), (3, 3), (4, 4)] 0) R R) (Jl2 (f31.stp S37 R R) (mp [(2, 2), (3, 3), (4, 4)] 0) R R) ((f25.stp S37 R R).map (mp [(2, 2), (3, 3), (4, 4)] 0) R R) (Bc.cast ((gb3.stp (S3.tr (S21.tr S37)) R R).map (mp [(2, 2), (3, 3), (4, 4)] 0) R R) (by simp only [hn24])) ((f30.stp S37 R R).map (mp [(2, 2), (3, 3), (4, 4)] 0) R R) (f47.map (mp [(2, 2), (3, 3), (4, 4)] 0) R R) hx38) ?_))
  rintro _ w55 ⟨k56, aj, am, rfl, e57, f58, f59, hn60, f61⟩
  obtain ⟨K62, S63, m64⟩ := Ji e57 5 R
  refine ⟨tv, Jo ?_⟩
  cases h
  exact Jw1 _ ⟨(fun b => ren [(7, 2), (8, 3), (9, 4)] (K62 b)), aj, am, R, (Jy2 (S63.wk R) [(7, 2), (8, 3), (9, 4)] R), ((f58.mx (no_int _) m64 R (R : 5 + 2 = 7)).map (ren [(7, 2), (8, 3), (9, 4)]) R R), ((f59.mx no_bool m64 R (R : 5 + 3 = 8)).map (ren [(7, 2), (8, 3), (9, 4)]) R R), (hn24.trans hn60), ((f61.mx m64 R (R : 5 + 4 = 9)).map (ren [(7, 2), (8, 3), (9, 4)]) R R)⟩ (KM R)
  rintro _ w39 ⟨K40, af, ae, rfl, S41, f42, f43, hn44, f45⟩
  have h := hK38
  refine Jz (Jp (Ja [2, 2] R (Jc 2 R ?_)))
  have hw9 : IntKind.wrap .i64 (v19 + 1) = v19 + 1 := wr1 hj9 (Jm2 hc9) hN9
  rw [hw9]
  have hc9 := Jm2 hc9
  cases h
  exact Jz1 fun a ha => ⟨k, _, Ja3 _, ⟨K40, v19 + 1, ((q4.1 : (List Int)), (q4.2 : (List Bool))), af, ae, R, (S21.tr (S37.tr S41)).wk R, f42, f43, hn44, f45, by omega, by omega, hk28⟩, (ha.mm R)⟩
  rintro _ w12 ⟨K13, s3, ai, ah, rfl, S14, f15, f16, hn17, f18, rfl⟩
  have h := hK10
  dsimp only [aft] at h
  refine Jp (Ja [2, 2, 1] R (Jn 2 R (Ob h fun x42 hx42 h => WO.callV R R R R R R R R C153 (i_loopsIn_2_ok (κ := fun b => mp [(2, 2), (4, 3)] 0 (K13 b)) (f15.map (mp [(2, 2), (4, 3)] 0) R R) (f18.map (mp [(2, 2), (4, 3)] 0) R R) hx42) ?_)))
  rintro _ w72 ⟨k73, ak, al, rfl, e74, f75, f76⟩
  obtain ⟨K77, S78, m79⟩ := Ji e74 5 R
  refine ⟨tv, Jo (DN.end0 V152 ?_)⟩
  cases h
  exact ⟨(fun b => ren [(7, 2), (8, 4)] (K77 b)), ak, al, R, ((hE.stp (S3.tr (S14.tr S78)) R R).map (ren [(7, 2), (8, 4)]) R R), ((f75.mx (no_int _) m79 R (R : 5 + 2 = 7)).map (ren [(7, 2), (8, 4)]) R R), ((f16.stp S78 R R).map (ren [(7, 2), (8, 4)]) R R), hn17, ((f76.mx m79 R (R : 5 + 3 = 8)).map (ren [(7, 2), (8, 4)]) R R)⟩
theorem i_loopsIn_1__i_loopsIn_3__i_loopsIn_1_ok (n : Nat) : ∀ {w : World} {κ : Col} {p0 : Int} {a1 u1} {p1 : (List (List Int))} {ab ad} {c2_0 : (List Int)} {a3 u3} {c0 : (List Bool)} {a4 u4} {c1 : (List Bool)} {b2_0 b3 b4 b5} (g1 : Rd (Rp.sl (Rp.int .i64)) κ w 0 a1 u1 p1) (g2_0 : Oc E6 2 κ w 2 ab ad c2_0) (g3 : Oc Ep.bool 4 κ w 3 a3 u3 c0) (g4 : Rd Rp.bool κ w 0 a4 u4 c1) (gb2_0 : Bc κ w 4 b2_0 40 [.slice ab c2_0.length ad]) (gb3 : Bc κ w 0 b3 135 [.slice a3 c0.length u3]) (gb4 : Bc κ w 0 b4 135 [.slice a4 c1.length u4]) (gb5 : Bc κ w 0 b5 173 [.func (.func 152) #[] #[.pointer (some ⟨b3, 0, none⟩), .pointer (some ⟨b4, 0, none⟩), .pointer (some ⟨b5, 0, none⟩)]]) {r : (List Int) × (List Bool)} (h : i_loopsIn_1__i_loopsIn_3__i_loopsIn_1 n p0 p1 c2_0 c0 c1 = some r), Ret Tryz.prog 152 [vi p0, .slice a1 p1.length u1, .func (.func 154) #[] #[.pointer (some ⟨b2_0, 0, none⟩)], .pointer (some ⟨b3, 0, none⟩), .pointer (some ⟨b4, 0, none⟩), .pointer (some ⟨b5, 0, none⟩)] w (fun v w' => ∃ (κ' : Col) (ma0 : Option Addr) (mu0 : Nat), v = .tuple #[] ∧ Ent κ w κ' w' ∧ Oc E6 2 κ' w' 2 ma0 mu0 r.1 ∧ Oc Ep.bool 4 κ' w' 3 a3 u3 r.2 ∧ c0.length = r.2.length ∧ Bc κ' w' 4 b2_0 40 [.slice ma0 r.1.length mu0]) := by
 induction n with
 | zero =>
  intro w κ p0 a1 u1 p1 ab ad c2_0 a3 u3 c0 a4 u4 c1 b2_0 b3 b4 b5 g1 g2_0 g3 g4 gb2_0 gb3 gb4 gb5 r h
  cases h
 | succ n ih =>
  intro w κ p0 a1 u1 p1 ab ad c2_0 a3 u3 c0 a4 u4 c1 b2_0 b3 b4 b5 g1 g2_0 g3 g4 gb2_0 gb3 gb4 gb5 r h
  have h : i_loopsIn_1__i_loopsIn_3__i_loopsIn_1_s (i_loopsIn_1__i_loopsIn_3__i_loopsIn_1 n) p0 p1 c2_0 c0 c1 = some r := h
  unfold i_loopsIn_1__i_loopsIn_3__i_loopsIn_1_s at h
  refine Ret.enter F152 R N152 R ?_
  dsimp only [envOf]
  have hE := Ent.refl κ w
  refine Je [1, 2, 2, 1] R (Jl tv R R R R (Jc2 I135 R R (hvE (gb3.ld 0 R R))) (Jn 1 R (Ob h fun x13 hx13 h => Jf R (Jf2 g3.rdc hx13 U135 Z4 R R R R) (Ob h fun y255 hy255 h => Jk1 (κ := κ) (E := Ep.bool) 3 [] R R R R R R R R Z4 R R R R g3 hy255 fun w1 K2 S3 f4 => ⟨tv, ?_⟩))))
  have hn5 : c0.length = y255.length := (Jt2 hy255).2.2.2.symm
  refine Jd (Jq (Je [2, 2, 2, 1, 2, 2] R (Jn 2 R (Ob h fun x16 hx16 h => Jf R (Jf2 g1 hx16 U24 Z40 R R R R) ?_))))
  have f6 := g1.stp S3 R R
  obtain ⟨ax16, ux16, f7, hl8⟩ := f6.gSl hx16
  refine Jl tv R R R R (Jc2 I40 R R (hvE hl8)) (Jf R (Je2 U40 R R) (Jb 1 R ?_))
  have hN9 : (x16.length : Int) ≤ 9223372036854775807 := f7.len_le
  refine Ob h fun q2 hq11 hK10 => ?_
  clear h
  refine Jx1 (fun L w' => ∃ κ', ∃ s3 : (List Int) × (List Bool), ∃ ai ah, L = [(0, vi p0), (2, .func (.func 154) #[] #[.pointer (some ⟨b2_0, 0, none⟩)]), (3, .pointer (some ⟨b3, 0, none⟩)), (4, .pointer (some ⟨b4, 0, none⟩)), (5, .pointer (some ⟨b5, 0, none⟩))] ∧ Stp [2, 3, 4, 7, 8, 9] K2 w1 κ' w' ∧ Oc E6 2 κ' w' 2 ai ah s3.1 ∧ Oc Ep.bool 4 κ' w' 3 a3 u3 s3.2 ∧ c0.length = s3.2.length ∧ Bc κ' w' 4 b2_0 40 [.slice ai s3.1.length ah] ∧ q2 = Sum.inr s3) ?_ ?_
  refine Jv (Jy1 (fun k L w' => ∃ κ' v19, ∃ s1 : (List Int) × (List Bool), ∃ aa ac, L = [(0, vi p0), (1, .slice a1 p1.length u1), (2, .func (.func 154) #[] #[.pointer (some ⟨b2_0, 0, none⟩)]), (3, .pointer (some ⟨b3, 0, none⟩)), (4, .pointer (some ⟨b4, 0, none⟩)), (5, .pointer (some ⟨b5, 0, none⟩)), (17, .slice ax16 x16.length ux16), (18, vi (x16.length : Int)), (19, vi v19)] ∧ Stp [2, 3, 4, 7, 8, 9] K2 w1 κ' w' ∧ Oc E6 2 κ' w' 2 aa ac s1.1 ∧ Oc Ep.bool 4 κ' w' 3 a3 u3 s1.2 ∧ c0.length = s1.2.length ∧ Bc κ' w' 4 b2_0 40 [.slice aa s1.1.length ac] ∧ 0 ≤ v19 ∧ Int.toNat ((x16.length : Int) - v19) = k ∧ cntM (i_loopsIn_1__i_loopsIn_3__i_loopsIn_1_b0 (i_loopsIn_1__i_loopsIn_3__i_loopsIn_1 n) p1 c1 x16) k v19 s1 = some q2) ⟨_, _, ⟨K2, 0, ((c2_0 : (List Int)), (y255 : (List Bool))), ab, ad, R, (Jx2 _ _).wk R, (g2_0.stp S3 R R), f4, hn5, (gb2_0.stp S3 R R), (by decide), (by simp), hq11⟩, (KM R)⟩ ?_)
  rintro k _ w19 ⟨K20, v19, s1, aa, ac, rfl, S21, f22, f23, hn24, f25, hj9, hJ9, h⟩
  rcases k with _ | k
  have hk28 := h; obtain ⟨o9, h⟩ := ex_eq (Sum.inr (Sum.inl s1) : ((List Int) × (List Bool)) ⊕ (((List Int) × (List Bool)) ⊕ ((List Int) × (List Bool))))
  have hc9 : decide (v19 < (x16.length : Int)) = false := Jo2 (by omega)
  refine Je [2] R (Jb 1 R (Jq (Jw2 R hc9 (Jc1 (Jt (Jt ?_))))))
  cases h
  have h := hk28
  refine Jb1 ?_
  cases h
  exact Jw1 _ ⟨K20, ((s1.1 : (List Int)), (s1.2 : (List Bool))), aa, ac, R, S21.wk R, f22, f23, hn24, f25, R⟩ (KM R)
  obtain ⟨o9, h, hk28⟩ := BI h; unfold i_loopsIn_1__i_loopsIn_3__i_loopsIn_1_b0 at h
  have hc9 : decide (v19 < (x16.length : Int)) = true := Jn2 (by omega)
  refine Je [2] R (Jb 1 R (Jq (Jv2 R hc9 (Js (Jp (Jq (Jv (Je [2, 1, 2] R (Ob h fun x21 hx21 h => Jf R (Jf2 f7 hx21 U40 Z2 R R R R) (Jl tv R R R R (Jc2 I2 R R (hvE ((f7.stp S21 R R).gInt hx21))) (Jb 1 R (Je [1, 2, 2, 1, 2, 1, 2, 2, 1, 2, 2] R ?_))))))))))))
  have f30 := gb4.stp (S3.tr S21) R R
  refine Jl tv R R R R (Jc2 I135 R R (hvE (f30.ld 0 R R))) (Jn 1 R (Ob h fun x25 hx25 h => Jf R (Jf2 g4 hx25 U135 Z4 R R R R) ?_))
  have f31 := g4.stp (S3.tr S21) R R
  refine Jl tv R R R R (Jc2 I4 R R (hvE (f31.gBool hx25))) (Jn 1 R (Ob h fun p33 h hK32 => Ju1 [(5, 1), (6, 2), (7, 2), (8, 1), (9, 2), (10, 2)] [] (fun L w' => L = [(0, vi p0), (1, .slice a1 p1.length u1), (2, .func (.func 154) #[] #[.pointer (some ⟨b2_0, 0, none⟩)]), (3, .pointer (some ⟨b3, 0, none⟩)), (4, .pointer (some ⟨b4, 0, none⟩)), (5, .pointer (some ⟨b5, 0, none⟩)), (10, vi x21), (17, .slice ax16 x16.length ux16), (18, vi (x16.length : Int)), (19, vi v19), (33, .bool p33)] ∧ ∃ κ', Stp [] K20 w19 κ' w') tv ?_ ?_))
  revert h
  cases ht33 : x25
  refine JF fun h => Jd1 R R R R (Jn 2 R (Jd1 R R R R (Jn 2 R ?_)))
  cases h
  exact Jv1 _ tv ⟨R, _, (Jx2 _ _).wk R⟩ (KM R)
  refine JT fun h => Jl tv R R R R (Jc2 I135 R R (hvE ((gb3.stp (S3.tr S21) R R).ld 0 R R))) (Jn 1 R (Ob h fun x30 hx30 h => Jf R (Jf2 f23.rdc hx30 U135 Z4 R R hn24 R) (Jl tv R R R R (Jc2 I4 R R (hvE (f23.rdc.gBool hx30))) (Jn 2 R ?_))))
  cases h
  exact Jv1 _ tv ⟨R, _, (Jx2 _ _).wk R⟩ (KM R)
  rintro _ w35 _ ⟨rfl, K36, S37⟩
  have h := hK32
  refine Jd (Ob h fun q4 h hK38 => Jx1 (fun L w' => ∃ κ' af ae, L = [(0, vi p0), (1, .slice a1 p1.length u1), (2, .func (.func 154) #[] #[.pointer (some ⟨b2_0, 0, none⟩)]), (3, .pointer (some ⟨b3, 0, none⟩)), (4, .pointer (some ⟨b4, 0, none⟩)), (5, .pointer (some ⟨b5, 0, none⟩)), (17, .slice ax16 x16.length ux16), (18, vi (x16.length : Int)), (19, vi v19)] ∧ Stp [2, 3, 4, 7, 8, 9] K36 w35 κ' w' ∧ Oc E6 2 κ' w' 2 af ae q4.1 ∧ Oc Ep.bool 4 κ' w' 3 a3 u3 q4.2 ∧ c0.length = q4.2.length ∧ Bc κ' w' 4 b2_0 40 [.slice af q4.1.length ae]) ?_ ?_)
  revert h
  cases ht46 : p33
  refine JF fun h => Jy R (Js ?_)
  cases h
  exact Jw1 _ ⟨K36, aa, ac, R, (Jx2 _ _).wk R, (f22.stp S37 R R), (f23.stp S37 R R), hn24, (f25.stp S37 R R)⟩ (KM R)
  refine JT fun h => Jx R (Ja [1, 2, 2, 2, 1] R ?_)
  have f47 := gb5.stp (S3.tr (S21.tr S37)) R R
  refine Jl tv R R R R (Jc2 I173 R R (hvE (f47.ld 0 R R))) (Jn 3 R (Ob h fun x38 hx38 h => WO.callV R R R R R R R R C152 (ih (κ := fun b => mp [(2, 2), (3, 3), (4, 4)] 0 (K36 b)) (Jl2 (f6.stp (S21.tr S37) R R) (mp [(2, 2), (3, 3), (4, 4)] 0) R R) ((f22.stp S37 R R).map (mp [(2, 2), (3, 3), (4, 4)] 0) R R) ((f23.stp S37 R R).map (mp [(2, 2), (3, 3), (4, 4)] 0) R R) (Jl2 (f31.stp S37 R R) (mp [(2, 2), (3, 3), (4, 4)] 0) R R) ((f25.stp S37 R R).map (mp [(2, 2), (3, 3), (4, 4)] 0) R R) (Bc.cast ((gb3.stp (S3.tr (S21.tr S37)) R R).map (mp [(2, 2), (3, 3), (4, 4)] 0) R R) (by simp only [hn24])) ((f30.stp S37 R R).map (mp [(2, 2), (3, 3), (4, 4)] 0) R R) (f47.map (mp [(2, 2), (3, 3), (4, 4)] 0) R R) hx38) ?_))
  rintro _ w55 ⟨k56, aj, am, rfl, e57, f58, f59, hn60, f61⟩
  obtain ⟨K62, S63, m64⟩ := Ji e57 5 R
  refine ⟨tv, Jo ?_⟩
  cases h
  exact Jw1 _ ⟨(fun b => ren [(7, 2), (8, 3), (9, 4)] (K62 b)), aj, am, R, (Jy2 (S63.wk R) [(7, 2), (8, 3), (9, 4)] R), ((f58.mx (no_int _) m64 R (R : 5 + 2 = 7)).map (ren [(7, 2), (8, 3), (9, 4)]) R R), ((f59.mx no_bool m64 R (R : 5 + 3 = 8)).map (ren [(7, 2), (8, 3), (9, 4)]) R R), (hn24.trans hn60), ((f61.mx m64 R (R : 5 + 4 = 9)).map (ren [(7, 2), (8, 3), (9, 4)]) R R)⟩ (KM R)
  rintro _ w39 ⟨K40, af, ae, rfl, S41, f42, f43, hn44, f45⟩
  have h := hK38
  refine Jz (Jp (Ja [2, 2] R (Jc 2 R ?_)))
  have hw9 : IntKind.wrap .i64 (v19 + 1) = v19 + 1 := wr1 hj9 (Jm2 hc9) hN9
  rw [hw9]
  have hc9 := Jm2 hc9
  cases h
  exact Jz1 fun a ha => ⟨k, _, Ja3 _, ⟨K40, v19 + 1, ((q4.1 : (List Int)), (q4.2 : (List Bool))), af, ae, R, (S21.tr (S37.tr S41)).wk R, f42, f43, hn44, f45, by omega, by omega, hk28⟩, (ha.mm R)⟩
  rintro _ w12 ⟨K13, s3, ai, ah, rfl, S14, f15, f16, hn17, f18, rfl⟩
  have h := hK10
  dsimp only [aft] at h
  refine Jp (Ja [2, 2, 1] R (Jn 2 R (Ob h fun x42 hx42 h => WO.callV R R R R R R R R C154 (i_loopsIn_3_ok (κ := fun b => mp [(2, 2), (4, 3)] 0 (K13 b)) (f15.map (mp [(2, 2), (4, 3)] 0) R R) (f18.map (mp [(2, 2), (4, 3)] 0) R R) hx42) ?_)))
  rintro _ w72 ⟨k73, ak, al, rfl, e74, f75, f76⟩
  obtain ⟨K77, S78, m79⟩ := Ji e74 5 R
  refine ⟨tv, Jo (DN.end0 V152 ?_)⟩
  cases h
  exact ⟨(fun b => ren [(7, 2), (8, 4)] (K77 b)), ak, al, R, ((hE.stp (S3.tr (S14.tr S78)) R R).map (ren [(7, 2), (8, 4)]) R R), ((f75.mx (no_int _) m79 R (R : 5 + 2 = 7)).map (ren [(7, 2), (8, 4)]) R R), ((f16.stp S78 R R).map (ren [(7, 2), (8, 4)]) R R), hn17, ((f76.mx m79 R (R : 5 + 3 = 8)).map (ren [(7, 2), (8, 4)]) R R)⟩
theorem l_eqClause_ok {w : World} {κ : Col} {ae ac ab ah} {p0 : Clause} {ad ai aa af} {p1 : Clause} (g0_1 : Rd (Rp.int .i64) κ w 0 ae ac p0.A) (g0_2 : Rd (Rp.int .i64) κ w 0 ab ah p0.B) (g1_1 : Rd (Rp.int .i64) κ w 0 ad ai p1.A) (g1_2 : Rd (Rp.int .i64) κ w 0 aa af p1.B) {r : Bool} (h : l_eqClause p0 p1 = some r) : Ret Tryz.prog 55 [.agg #[vi p0.Kind, .slice ae p0.A.length ac, .slice ab p0.B.length ah], .agg #[vi p1.Kind, .slice ad p1.A.length ai, .slice aa p1.B.length af]] w (fun v w' => ∃ (κ' : Col), v = .bool r ∧ Ent κ w κ' w') := by
 unfold l_eqClause at h
 refine Ret.enter F55 R N55 R ?_
 dsimp only [envOf]
 have hE := Ent.refl κ w
 refine Je [1, 1, 2] R (Jf1 (κ := κ) 2 R R R R R R R fun b2 w1 K2 S3 f4 => ⟨tv, Jf1 (κ := K2) 3 R R R R R R R fun b3 w5 K6 S7 f8 => ⟨tv, Jb 1 R (Jq (Je [2, 1, 2, 1, 2] R (Jf R (Jb2 U71 R Z2 R R) ?_)))⟩⟩)
 have f9 := f4.stp S7 R R
 refine Jl tv R R R R (Jc2 I2 R R (hvE (f9.ld 0 R R))) (Jf R (Jb2 U71 R Z2 R R) (Jl tv R R R R (Jc2 I2 R R (hvE (f8.ld 0 R R))) (Jb 1 R ?_)))
 revert h
 cases ht10 : (p0.Kind != p1.Kind)
 refine JF fun h => Jy R (Js (Jp (Jq (Je [2, 1, 2, 1, 1, 2] R (Jf R (Jb2 U71 R Z40 R R) (Jl tv R R R R (Jc2 I40 R R (hvE (f9.ld 1 R R))) (Jf R (Jb2 U71 R Z40 R R) (Jl tv R R R R (Jc2 I40 R R (hvE (f8.ld 1 R R))) (Ob h fun x14 hx14 h => Jh R R R C20 (l_eqInt64S_ok (κ := fun b => mp [] 0 (K6 b)) (Jl2 (g0_1.stp (S3.tr S7) R R) (mp [] 0) R R) (Jl2 (g1_1.stp (S3.tr S7) R R) (mp [] 0) R R) hx14) ?_)))))))))
 rintro _ w14 ⟨k15, rfl, e16⟩
 obtain ⟨K17, S18, m19⟩ := Ji e16 4 R
 refine ⟨tv, Jb 1 R ?_⟩
 revert h
 cases ht21 : (!x14)
 refine JF fun h => Jy R (Js (Jp (Jq (Je [2, 1, 2, 1, 1, 2] R (Jf R (Jb2 U71 R Z40 R R) (Jl tv R R R R (Jc2 I40 R R (hvE ((f9.stp S18 R R).ld 2 R R))) (Jf R (Jb2 U71 R Z40 R R) (Jl tv R R R R (Jc2 I40 R R (hvE ((f8.stp S18 R R).ld 2 R R))) (Ob h fun x20 hx20 h => Jh R R R C20 (l_eqInt64S_ok (κ := fun b => mp [] 0 (K17 b)) (Jl2 (g0_2.stp (S3.tr (S7.tr S18)) R R) (mp [] 0) R R) (Jl2 (g1_2.stp (S3.tr (S7.tr S18)) R R) (mp [] 0) R R) hx20) ?_)))))))))
 rintro _ w27 ⟨k28, rfl, e29⟩
 obtain ⟨K30, S31, m32⟩ := Ji e29 6 R
 refine ⟨tv, Jb 1 R ?_⟩
 revert h
 cases ht34 : (!x20)
 refine JF fun h => Jy R (Js (Jp (Je [2] R (Jb 1 R (Ju (Ja2 (l := [.tmp 4]) V55 (Jp2 R R) R ?_))))))
 cases h
 exact ⟨K30, R, (hE.stp (S3.tr (S7.tr (S18.tr S31))) R R)⟩
 refine JT fun h => Jx R (Je [2] R (Jb 1 R (Ju (Jw (Ja2 (l := [.tmp 4]) V55 (Jp2 R R) R ?_)))))
 cases h
 exact ⟨K30, R, (hE.stp (S3.tr (S7.tr (S18.tr S31))) R R)⟩
 refine JT fun h => Jx R (Je [2] R (Jb 1 R (Ju (Jw (Ja2 (l := [.tmp 4]) V55 (Jp2 R R) R ?_)))))
 cases h
 exact ⟨K17, R, (hE.stp (S3.tr (S7.tr S18)) R R)⟩
 refine JT fun h => Jx R (Je [2] R (Jb 1 R (Ju (Jw (Ja2 (l := [.tmp 4]) V55 (Jp2 R R) R ?_)))))
 cases h
 exact ⟨K6, R, (hE.stp (S3.tr S7) R R)⟩
theorem l_markClauseS_ok {w : World} {κ : Col} {a0 u0} {p0 : (List Clause)} {p1 : Int} (g0 : Oc Clause.ep71 71 κ w 2 a0 u0 p0) {r : Int × (List Clause)} (h : l_markClauseS p0 p1 = some r) : Ret Tryz.prog 22 [.slice a0 p0.length u0, vi p1] w (fun v w' => ∃ (κ' : Col), v = vi r.1 ∧ Ent κ w κ' w' ∧ Oc Clause.ep71 71 κ' w' 2 a0 u0 r.2 ∧ p0.length = r.2.length) := by
 unfold l_markClauseS at h
 refine Ret.enter F22 R N22 R ?_
 dsimp only [envOf]
 have hE := Ent.refl κ w
 refine Je [2] R (Jb 1 R (Jq (Je [2] R (Jb 1 R ?_))))
 have hN1 : (p0.length : Int) ≤ 9223372036854775807 := g0.len_le
 refine Ob h fun q2 hq3 hK2 => ?_
 clear h
 refine Jx1 (fun L w' => ∃ κ', ∃ s3 : Int × (List Clause), L = [(1, vi s3.1)] ∧ Stp [2, 3, 4, 5, 8, 9, 10, 13] κ w κ' w' ∧ Oc Clause.ep71 71 κ' w' 2 a0 u0 s3.2 ∧ p0.length = s3.2.length ∧ q2 = Sum.inr s3) ?_ ?_
 refine Jv (Jy1 (fun k L w' => ∃ κ' v5, ∃ s1 : Int × (List Clause), L = [(0, .slice a0 p0.length u0), (1, vi s1.1), (5, vi v5)] ∧ Stp [2, 3, 4, 5, 8, 9, 10, 13] κ w κ' w' ∧ Oc Clause.ep71 71 κ' w' 2 a0 u0 s1.2 ∧ p0.length = s1.2.length ∧ 0 ≤ v5 ∧ Int.toNat ((p0.length : Int) - v5) = k ∧ cntM l_markClauseS_b0 k v5 s1 = some q2) ⟨_, _, ⟨κ, 0, ((p1 : Int), (p0 : (List Clause))), R, (Jx2 _ _).wk R, g0, R, (by decide), (by simp), hq3⟩, (KM R)⟩ ?_)
 rintro k _ w9 ⟨K10, v5, s1, rfl, S11, f12, hn13, hj1, hJ1, h⟩
 rcases k with _ | k
 have hk14 := h; obtain ⟨o1, h⟩ := ex_eq (Sum.inr (Sum.inl s1) : (Int × (List Clause)) ⊕ ((Int × (List Clause)) ⊕ (Int × (List Clause))))
 have hc1 : decide (v5 < (p0.length : Int)) = false := Jo2 (by omega)
 refine Jq (Je [2, 2, 2, 2] R (Jn 2 R (Jf R (Je2 U35 R R) (Jb 1 R (Jw2 R hc1 (Jc1 (Jt (Jt ?_))))))))
 cases h
 have h := hk14
 refine Jb1 ?_
 cases h
 exact Jw1 _ ⟨K10, ((s1.1 : Int), (s1.2 : (List Clause))), R, S11.wk R, f12, hn13, R⟩ (KM R)
 obtain ⟨o1, h, hk14⟩ := BI h; unfold l_markClauseS_b0 at h
 have hc1 : decide (v5 < (p0.length : Int)) = true := Jn2 (by omega)
 refine Jq (Je [2, 2, 2, 2] R (Jn 2 R (Jf R (Je2 U35 R R) (Jb 1 R (Jv2 R hc1 (Js (Jp (Jq (Jv (Je [2, 2, 2, 2, 2, 1] R (Jn 3 R (Ob h fun x15 hx15 h => Jf R (Jf2 f12.rdc hx15 U35 Z71 R R hn13 R) (Jf R (Jb2 U71 R Z2 R R) (Ob h fun y282 hy282 h => WO.stG (κ := K10) (E := Clause.ep71) (vc := [vi s1.1]) (e' := ({ x15 with Kind := s1.1 } : Clause)) 2 3 0 R R R R R R R R Z2 R R hx15 (fun h => up_fst h) R R R f12 hy282 fun w15 K16 S17 f18 => ⟨tv, ?_⟩))))))))))))))
 have hn19 : p0.length = y282.length := hn13.trans (Jt2 hy282).2.2.2.symm
 refine Jd (Je [2, 2, 2] R (Jb 3 R (Je [2, 2, 2, 2, 1, 2, 1, 2] R (Jn 2 R (Ob h fun x21 hx21 h => Jf R (Jf2 f18.rdc hx21 U35 Z71 R R hn19 R) (Jf R (Jb2 U71 R Z40 R R) ?_))))))
 obtain ⟨cse20, hre20, hle20⟩ := (f18.rdc).gSt hx21
 obtain ⟨ae20_0, ue20_0, ae20_1, ue20_1, rfl, fe20_0, fe20_1⟩ := Clause.un hre20
 refine Jl tv R R R R (Jc2 I40 R R (hvE (fun w' hw' => hle20 w' hw' 1 _ R))) (Jn 1 R ?_)
 obtain ⟨K21, S22, f23, f24, f25⟩ := Ow.borrowQ (f := (fun x : Clause => (x.A, x.B))) (v0 := vi x21.Kind) (fun h => rel_fst h) R f18 hx21 (hle20 _ (Ag.refl _ _ _)) 4 5 R R R R
 have f26 : Oc E6 2 K21 w15 4 ae20_0 ue20_0 x21.A := f23
 have f27 : Oc E6 2 K21 w15 5 ae20_1 ue20_1 x21.B := f24
 refine Ob h fun x25 hx25 h => Jh R R R C23 (l_markInt64S_ok (κ := fun b => mp [(4, 2)] 0 (K21 b)) (f26.map (mp [(4, 2)] 0) R R) hx25) ?_
 rintro _ w28 ⟨k29, rfl, e30, f31, hn32⟩
 obtain ⟨K33, S34, m35⟩ := Ji e30 6 R
 refine ⟨tv, Ob h fun yb283 hyb283 h => ?_⟩
 obtain ⟨K40, S41, f42⟩ := Ow.unborrowQ (f := (fun x : Clause => (x.A, x.B))) (y := (⟨x21.Kind, x25.2, x21.B⟩ : Clause)) (fun h => mk_fst h) (f25.stp S34 R R) (f31.mx (no_int _) m35 R (R : 6 + 2 = 8)) (f27.stp S34 R R) (hn32) R R R R R R hyb283
 have hn43 : p0.length = yb283.length := hn19.trans (Jt2 hyb283).2.2.2.symm
 refine Jb 1 R (Ja [2, 2, 2, 2, 1, 2, 1, 2] R (Jn 2 R (Ob h fun x28 hx28 h => Jf R (Jf2 f42.rdc hx28 U35 Z71 R R hn43 R) (Jf R (Jb2 U71 R Z40 R R) ?_))))
 obtain ⟨cse44, hre44, hle44⟩ := (f42.rdc).gSt hx28
 obtain ⟨ae44_0, ue44_0, ae44_1, ue44_1, rfl, fe44_0, fe44_1⟩ := Clause.un hre44
 refine Jl tv R R R R (Jc2 I40 R R (hvE (fun w' hw' => hle44 w' hw' 2 _ R))) (Jn 1 R ?_)
 obtain ⟨K45, S46, f47, f48, f49⟩ := Ow.borrowQ (f := (fun x : Clause => (x.A, x.B))) (v0 := vi x28.Kind) (fun h => rel_fst h) R f42 hx28 (hle44 _ (Ag.refl _ _ _)) 9 10 R R R R
 have f50 : Oc E6 2 K45 w28 9 ae44_0 ue44_0 x28.A := f47
 have f51 : Oc E6 2 K45 w28 10 ae44_1 ue44_1 x28.B := f48
 refine Ob h fun x32 hx32 h => Jh R R R C23 (l_markInt64S_ok (κ := fun b => mp [(10, 2)] 0 (K45 b)) (f51.map (mp [(10, 2)] 0) R R) hx32) ?_
 rintro _ w52 ⟨k53, rfl, e54, f55, hn56⟩
 obtain ⟨K57, S58, m59⟩ := Ji e54 11 R
 refine ⟨tv, Ob h fun yb285 hyb285 h => ?_⟩
 obtain ⟨K64, S65, f66⟩ := Ow.unborrowQ (f := (fun x : Clause => (x.A, x.B))) (y := (⟨x28.Kind, x28.A, x32.2⟩ : Clause)) (fun h => mk_fst h) (f49.stp S58 R R) (f50.stp S58 R R) (f55.mx (no_int _) m59 R (R : 11 + 2 = 13)) R (hn56) R R R R R hyb285
 have hn67 : p0.length = yb285.length := hn43.trans (Jt2 hyb285).2.2.2.symm
 refine Jc 1 R (Jz (Jp (Ja [2, 2, 2] R (Jc 3 R ?_))))
 have hw1 : IntKind.wrap .i64 (v5 + 1) = v5 + 1 := wr1 hj1 (Jm2 hc1) hN1
 rw [hw1]
 have hc1 := Jm2 hc1
 cases h
 exact Jz1 fun a ha => ⟨k, _, Ja3 _, ⟨K64, v5 + 1, ((x32.1 : Int), (yb285 : (List Clause))), R, (S11.tr (S17.tr (S22.tr (S34.tr (S41.tr (S46.tr (S58.tr S65))))))).wk R, f66, hn67, by omega, by omega, hk14⟩, (ha.mm R)⟩
 rintro _ w4 ⟨K5, s3, rfl, S6, f7, hn8, rfl⟩
 have h := hK2
 dsimp only [aft] at h
 refine Jp (Je [2, 2] R (Jb 2 R (Ju (Ja2 (l := [.tmp 4]) V22 (Jp2 R R) R ?_))))
 cases h
 exact ⟨K5, R, (hE.stp S6 R R), f7, hn8⟩
theorem l_markInt64SS_ok {w : World} {κ : Col} {a0 u0} {p0 : (List (List Int))} {p1 : Int} (g0 : Oc (Ep.own E6 2) 40 κ w 2 a0 u0 p0) {r : Int × (List (List Int))} (h : l_markInt64SS p0 p1 = some r) : Ret Tryz.prog 57 [.slice a0 p0.length u0, vi p1] w (fun v w' => ∃ (κ' : Col), v = vi r.1 ∧ Ent κ w κ' w' ∧ Oc (Ep.own E6 2) 40 κ' w' 2 a0 u0 r.2 ∧ p0.length = r.2.length) := by
 unfold l_markInt64SS at h
 refine Ret.enter F57 R N57 R ?_
 dsimp only [envOf]
 have hE := Ent.refl κ w
 refine Je [2] R (Jb 1 R (Jq (Je [2] R (Jb 1 R ?_))))
 have hN1 : (p0.length : Int) ≤ 9223372036854775807 := g0.len_le
 refine Ob h fun q2 hq3 hK2 => ?_
 clear h
 refine Jx1 (fun L w' => ∃ κ', ∃ s3 : Int × (List (List Int)), L = [(1, vi s3.1)] ∧ Stp [2, 3, 6] κ w κ' w' ∧ Oc (Ep.own E6 2) 40 κ' w' 2 a0 u0 s3.2 ∧ p0.length = s3.2.length ∧ q2 = Sum.inr s3) ?_ ?_
 refine Jv (Jy1 (fun k L w' => ∃ κ' v5, ∃ s1 : Int × (List (List Int)), L = [(0, .slice a0 p0.length u0), (1, vi s1.1), (5, vi v5)] ∧ Stp [2, 3, 6] κ w κ' w' ∧ Oc (Ep.own E6 2) 40 κ' w' 2 a0 u0 s1.2 ∧ p0.length = s1.2.length ∧ 0 ≤ v5 ∧ Int.toNat ((p0.length : Int) - v5) = k ∧ cntM l_markInt64SS_b0 k v5 s1 = some q2) ⟨_, _, ⟨κ, 0, ((p1 : Int), (p0 : (List (List Int)))), R, (Jx2 _ _).wk R, g0, R, (by decide), (by simp), hq3⟩, (KM R)⟩ ?_)
 rintro k _ w9 ⟨K10, v5, s1, rfl, S11, f12, hn13, hj1, hJ1, h⟩
 rcases k with _ | k
 have hk14 := h; obtain ⟨o1, h⟩ := ex_eq (Sum.inr (Sum.inl s1) : (Int × (List (List Int))) ⊕ ((Int × (List (List Int))) ⊕ (Int × (List (List Int)))))
 have hc1 : decide (v5 < (p0.length : Int)) = false := Jo2 (by omega)
 refine Jq (Je [2, 2, 2, 2] R (Jn 2 R (Jf R (Je2 U24 R R) (Jb 1 R (Jw2 R hc1 (Jc1 (Jt (Jt ?_))))))))
 cases h
 have h := hk14
 refine Jb1 ?_
 cases h
 exact Jw1 _ ⟨K10, ((s1.1 : Int), (s1.2 : (List (List Int)))), R, S11.wk R, f12, hn13, R⟩ (KM R)
 obtain ⟨o1, h, hk14⟩ := BI h; unfold l_markInt64SS_b0 at h
 have hc1 : decide (v5 < (p0.length : Int)) = true := Jn2 (by omega)
 refine Jq (Je [2, 2, 2, 2] R (Jn 2 R (Jf R (Je2 U24 R R) (Jb 1 R (Jv2 R hc1 (Js (Jp (Jq (Jv (Ja [2, 2, 2, 1, 2, 1, 2] R (Jn 2 R (Ob h fun x14 hx14 h => Jf R (Jf2 f12.rdc hx14 U24 Z40 R R hn13 R) ?_))))))))))))
 obtain ⟨ax14, ux14, f15, hl16⟩ := f12.rdc.gSl hx14
 refine Jl tv R R R R (Jc2 I40 R R (hvE hl16)) (Jn 1 R ?_)
 obtain ⟨K17, S18, f19, f20⟩ := f12.borrow hx14 (hl16 _ (Ag.refl _ _ _)) 3 R R
 refine Ob h fun x17 hx17 h => Jh R R R C23 (l_markInt64S_ok (κ := fun b => mp [(3, 2)] 0 (K17 b)) (f19.map (mp [(3, 2)] 0) R R) hx17) ?_
 rintro _ w21 ⟨k22, rfl, e23, f24, hn25⟩
 obtain ⟨K26, S27, m28⟩ := Ji e23 4 R
 refine ⟨tv, Ob h fun yb289 hyb289 h => ?_⟩
 obtain ⟨K32, S33, f34⟩ := Ow.unborrow (f20.stp S27 R R) (f24.mx (no_int _) m28 R (R : 4 + 2 = 6)) (hn25) R R hyb289
 have hn35 : p0.length = yb289.length := hn13.trans (Jt2 hyb289).2.2.2.symm
 refine Jc 1 R (Jz (Jp (Ja [2, 2, 2] R (Jc 3 R ?_))))
 have hw1 : IntKind.wrap .i64 (v5 + 1) = v5 + 1 := wr1 hj1 (Jm2 hc1) hN1
 rw [hw1]
 have hc1 := Jm2 hc1
 cases h
 exact Jz1 fun a ha => ⟨k, _, Ja3 _, ⟨K32, v5 + 1, ((x17.1 : Int), (yb289 : (List (List Int)))), R, (S11.tr (S18.tr (S27.tr S33))).wk R, f34, hn35, by omega, by omega, hk14⟩, (ha.mm R)⟩
 rintro _ w4 ⟨K5, s3, rfl, S6, f7, hn8, rfl⟩
 have h := hK2
 dsimp only [aft] at h
 refine Jp (Je [2, 2] R (Jb 2 R (Ju (Ja2 (l := [.tmp 4]) V57 (Jp2 R R) R ?_))))
 cases h
 exact ⟨K5, R, (hE.stp S6 R R), f7, hn8⟩
theorem l_heldInt64SS_ok {w : World} {κ : Col} {a0 u0} {p0 : (List (List Int))} {p1 : Int} (g0 : Rd (Rp.sl (Rp.int .i64)) κ w 0 a0 u0 p0) {r : Int} (h : l_heldInt64SS p0 p1 = some r) : Ret Tryz.prog 81 [.slice a0 p0.length u0, vi p1] w (fun v w' => ∃ (κ' : Col), v = vi r ∧ Ent κ w κ' w') := by
 unfold l_heldInt64SS at h
 refine Ret.enter F81 R N81 R ?_
 dsimp only [envOf]
 have hE := Ent.refl κ w
 refine Je [2] R (Jb 1 R (Jq (Je [2] R (Jb 1 R ?_))))
 have hN1 : (p0.length : Int) ≤ 9223372036854775807 := g0.len_le
 refine Ob h fun q2 hq3 hK2 => ?_
 clear h
 refine Jx1 (fun L w' => ∃ κ' s3, L = [(1, vi s3)] ∧ Stp [] κ w κ' w' ∧ q2 = Sum.inr s3) ?_ ?_
 refine Jv (Jy1 (fun k L w' => ∃ κ' v5 s1, L = [(0, .slice a0 p0.length u0), (1, vi s1), (5, vi v5)] ∧ Stp [] κ w κ' w' ∧ 0 ≤ v5 ∧ Int.toNat ((p0.length : Int) - v5) = k ∧ cntM (l_heldInt64SS_b0 p0) k v5 s1 = some q2) ⟨_, _, ⟨κ, 0, (p1 : Int), R, (Jx2 _ _).wk R, (by decide), (by simp), hq3⟩, (KM R)⟩ ?_)
 rintro k _ w7 ⟨K8, v5, s1, rfl, S9, hj1, hJ1, h⟩
 rcases k with _ | k
 have hk10 := h; obtain ⟨o1, h⟩ := ex_eq (Sum.inr (Sum.inl s1) : Int ⊕ ((Int) ⊕ (Int)))
 have hc1 : decide (v5 < (p0.length : Int)) = false := Jo2 (by omega)
 refine Jq (Je [2, 2, 2, 2] R (Jn 2 R (Jf R (Je2 U24 R R) (Jb 1 R (Jw2 R hc1 (Jc1 (Jt (Jt ?_))))))))
 cases h
 have h := hk10
 refine Jb1 ?_
 cases h
 exact Jw1 _ ⟨K8, (s1 : Int), R, S9.wk R, R⟩ (KM R)
 obtain ⟨o1, h, hk10⟩ := BI h; unfold l_heldInt64SS_b0 at h
 have hc1 : decide (v5 < (p0.length : Int)) = true := Jn2 (by omega)
 refine Jq (Je [2, 2, 2, 2] R (Jn 2 R (Jf R (Je2 U24 R R) (Jb 1 R (Jv2 R hc1 (Js (Jp (Jq (Jv (Je [2, 2, 2, 1, 2, 1, 2] R (Jn 2 R (Ob h fun x14 hx14 h => Jf R (Jf2 g0 hx14 U24 Z40 R R R R) ?_))))))))))))
 obtain ⟨ax14, ux14, f12, hl13⟩ := (g0.stp S9 R R).gSl hx14
 refine Jl tv R R R R (Jc2 I40 R R (hvE hl13)) (Jn 1 R (Ob h fun x17 hx17 h => Jh R R R C24 (l_heldInt64S_ok (κ := fun b => mp [] 0 (K8 b)) (Jl2 f12 (mp [] 0) R R) hx17) ?_))
 rintro _ w14 ⟨k15, rfl, e16⟩
 obtain ⟨K17, S18, m19⟩ := Ji e16 2 R
 refine ⟨tv, Jb 1 R (Je [2, 2] R (Jb 2 R ?_))⟩
 revert h
 cases ht21 : decide (x17 < 0)
 refine JF fun h => Jy R (Js (Jz (Jp (Ja [2, 2, 2] R (Jc 3 R ?_)))))
 have hw1 : IntKind.wrap .i64 (v5 + 1) = v5 + 1 := wr1 hj1 (Jm2 hc1) hN1
 rw [hw1]
 have hc1 := Jm2 hc1
 cases h
 exact Jz1 fun a ha => ⟨k, _, Ja3 _, ⟨K17, v5 + 1, (x17 : Int), R, (S9.tr S18).wk R, by omega, by omega, hk10⟩, (ha.mm R)⟩
 refine JT fun h => Jx R (Je [2] R (Jb 1 R (Ju (Ja1 (Jw (Jw ?_))))))
 cases h
 obtain rfl := Option.some.inj hk10
 have h := hK2
 dsimp only [aft] at h
 refine Ja1 (Jq2 (Jw (Ja2 (l := [.tmp 4]) V81 (Jp2 R R) R ?_)))
 cases h
 exact ⟨K17, R, (hE.stp (S9.tr S18) R R)⟩
 rintro _ w4 ⟨K5, s3, rfl, S6, rfl⟩
 have h := hK2
 dsimp only [aft] at h
 refine Jp (Je [2, 2] R (Jb 2 R (Ju (Ja2 (l := [.tmp 4]) V81 (Jp2 R R) R ?_))))
 cases h
 exact ⟨K5, R, (hE.stp S6 R R)⟩
end Go.Proofs.YtcmamhmpoinmnaaGreat
