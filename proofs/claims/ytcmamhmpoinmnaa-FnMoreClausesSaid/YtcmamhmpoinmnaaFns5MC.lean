/- The walks, part 5. By program. -/
import Derived.Test.YtcmamhmpoinmnaaFns2MC
import Derived.Test.YtcmamhmpoinmnaaFns3MC
import Derived.Test.YtcmamhmpoinmnaaFns4MC
set_option linter.unusedVariables false
set_option linter.unusedSimpArgs false
namespace Go.Proofs.Ytcmamhmpoinmnaa
open Go Go.Wk Go.Proofs
set_option maxRecDepth 100000
set_option maxHeartbeats 1000000
theorem i_areLetters_ok {w : World} {κ : Col} {a0 u0} {p0 : (List Int)} {p1 : Int} (g0 : Rd (Rp.int .i64) κ w 0 a0 u0 p0) {r : Bool} (h : i_areLetters p0 p1 = some r) : Ret Try.prog 70 [.slice a0 p0.length u0, vi p1] w (fun v w' => ∃ (κ' : Col), v = .bool r ∧ Ent κ w κ' w') := by
 unfold i_areLetters at h
 refine Ret.enter F70 R N70 R ?_
 dsimp only [envOf]
 have hE := Ent.refl κ w
 refine Je [1, 2] R (Jf1 (κ := κ) 2 R R R R R R R fun b3 w1 K2 S3 f4 => ⟨tv, Jb 1 R (Je [2, 2, 1, 2, 2] R (Jn 1 R (Jf R (rn_makeFunc (first := []) (captured := [.tmp 3]) R R R ⟨_, R⟩) (Ob h fun x7 hx7 h => Jh R R R C99 (slices_ContainsFunc_I_int64__i_areLetters_1_ok (κ := fun b => mp [] 0 (K2 b)) (Jl2 (g0.stp S3 R R) (mp [] 0) R R) (f4.map (mp [] 0) R R) hx7) ?_))))⟩)
 rintro _ w6 ⟨k7, rfl, e8⟩
 obtain ⟨K9, S10, m11⟩ := Ji e8 3 R
 refine ⟨tv, Jb 2 R (Ju (Ja2 (l := [.tmp 4]) V70 (Jp2 R R) R ?_))⟩
 cases h
 exact ⟨K9, R, (hE.stp (S3.tr S10) R R)⟩
theorem i_isMachine_ok {w : World} {κ : Col} {p0 : Sig} {aa ab ac ad} {p1 : Machine} (g1_0 : Rd (Rp.sl (Rp.int .i64)) κ w 0 aa ab p1.Next) (g1_1 : Rd (Rp.sl (Rp.int .i64)) κ w 0 ac ad p1.Out) {r : Bool} (h : i_isMachine p0 p1 = some r) : Ret Try.prog 45 [.agg #[vi p0.In, vi p0.Out], .agg #[.slice aa p1.Next.length ab, .slice ac p1.Out.length ad]] w (fun v w' => ∃ (κ' : Col), v = .bool r ∧ Ent κ w κ' w') := by
 unfold i_isMachine at h
 refine Ret.enter F45 R N45 R ?_
 dsimp only [envOf]
 have hE := Ent.refl κ w
 refine Je [1, 1, 2] R (Jf1 (κ := κ) 2 R R R R R R R fun b2 w1 K2 S3 f4 => ⟨tv, Jf1 (κ := K2) 3 R R R R R R R fun b3 w5 K6 S7 f8 => ⟨tv, Jb 1 R (Je [2, 1, 2, 2] R (Jf R (Jb2 U49 R Z22 R R) (Jl tv R R R R (Jc2 I22 R R (hvE (f8.ld 0 R R))) (Jf R (Je2 U22 R R) (Jb 1 R (Jq (Je [2, 2, 2, 2, 2, 2, 2, 2, 1, 2, 2, 1, 2, 2, 2] R (Jn 3 R (Ob h fun p16 h hK9 => Ju1 [(3, 2), (4, 2), (5, 2)] [(6, 2), (7, 2), (8, 1), (9, 2), (10, 2), (11, 1), (12, 2), (13, 2), (14, 2)] (fun L w' => L = [(2, .pointer (some ⟨b2, 0, none⟩)), (3, .pointer (some ⟨b3, 0, none⟩)), (5, vi (p1.Next.length : Int)), (16, .bool p16)] ∧ ∃ κ', Stp [] K6 w5 κ' w') tv ?_ ?_)))))))))⟩⟩)
 revert h
 cases ht10 : decide ((p1.Next.length : Int) < 1)
 refine JF fun h => Jn 3 R ?_
 cases h
 exact Jv1 _ tv ⟨R, _, (Jx2 _ _).wk R⟩ (KM R)
 refine JT fun h => Jn 3 R ?_
 cases h
 exact Jv1 _ tv ⟨R, _, (Jx2 _ _).wk R⟩ (KM R)
 rintro _ w11 _ ⟨rfl, K12, S13⟩
 have h := hK9
 refine Jn 1 R (Ob h fun p25 h hK14 => Ju1 [(7, 2), (8, 1), (9, 2), (10, 2), (11, 1), (12, 2), (13, 2), (14, 2)] [] (fun L w' => L = [(2, .pointer (some ⟨b2, 0, none⟩)), (3, .pointer (some ⟨b3, 0, none⟩)), (5, vi (p1.Next.length : Int)), (25, .bool p25)] ∧ ∃ κ', Stp [] K12 w11 κ' w') tv ?_ ?_)
 revert h
 cases ht15 : p16
 refine JF fun h => Jf R (Jb2 U49 R Z22 R R) ?_
 have f16 := f8.stp S13 R R
 refine Jl tv R R R R (Jc2 I22 R R (hvE (f16.ld 1 R R))) (Jf R (Je2 U22 R R) (Jf R (Jb2 U49 R Z22 R R) (Jl tv R R R R (Jc2 I22 R R (hvE (f16.ld 0 R R))) (Jf R (Je2 U22 R R) (Jn 2 R ?_)))))
 cases h
 exact Jv1 _ tv ⟨R, _, (Jx2 _ _).wk R⟩ (KM R)
 refine JT fun h => Jn 1 R (Jd1 R R R R (Jn 2 R (Jd1 R R R R (Jn 3 R ?_))))
 cases h
 exact Jv1 _ tv ⟨R, _, (Jx2 _ _).wk R⟩ (KM R)
 rintro _ w17 _ ⟨rfl, K18, S19⟩
 have h := hK14
 refine Jd ?_
 revert h
 cases ht20 : p25
 refine JF fun h => Jy R (Js (Jp (Jq (Je [2, 1, 2, 2] R (Jf R (Jb2 U49 R Z22 R R) ?_)))))
 have f22 := f8.stp (S13.tr S19) R R
 refine Jl tv R R R R (Jc2 I22 R R (hvE (f22.ld 0 R R))) (Jf R (Je2 U22 R R) (Jb 1 R ?_))
 have hN23 : (p1.Next.length : Int) ≤ 9223372036854775807 := g1_0.len_le
 refine Ob h fun q2 hq25 hK24 => ?_
 clear h
 refine Jx1 (fun L w' => ∃ κ', L = [] ∧ Stp [] K18 w17 κ' w' ∧ q2 = Sum.inr ()) ?_ ?_
 refine Jv (Jy1 (fun k L w' => ∃ κ' v29, L = [(2, .pointer (some ⟨b2, 0, none⟩)), (3, .pointer (some ⟨b3, 0, none⟩)), (5, vi (p1.Next.length : Int)), (27, .slice aa p1.Next.length ab), (28, vi (p1.Next.length : Int)), (29, vi v29)] ∧ Stp [] K18 w17 κ' w' ∧ 0 ≤ v29 ∧ Int.toNat ((p1.Next.length : Int) - v29) = k ∧ cntM (i_isMachine_b0 p0 p1) k v29 () = some q2) ⟨_, _, ⟨K18, 0, R, (Jx2 _ _).wk R, (by decide), (by simp), hq25⟩, (KM R)⟩ ?_)
 rintro k _ w29 ⟨K30, v29, rfl, S31, hj23, hJ23, h⟩
 rcases k with _ | k
 have hk32 := h; obtain ⟨o23, h⟩ := ex_eq (Sum.inr (Sum.inl ()) : Bool ⊕ ((Unit) ⊕ (Unit)))
 have hc23 : decide (v29 < (p1.Next.length : Int)) = false := Jo2 (by omega)
 refine Je [2] R (Jb 1 R (Jq (Jw2 R hc23 (Jc1 (Jt (Jt ?_))))))
 cases h
 have h := hk32
 refine Jb1 ?_
 cases h
 exact Jw1 _ ⟨K30, R, S31.wk R, R⟩ KN
 obtain ⟨o23, h, hk32⟩ := BI h; unfold i_isMachine_b0 at h
 have hc23 : decide (v29 < (p1.Next.length : Int)) = true := Jn2 (by omega)
 refine Je [2] R (Jb 1 R (Jq (Jv2 R hc23 (Js (Jp (Jq (Jv (Je [2, 2, 1, 2, 2] R (Jn 1 R (Ob h fun x32 hx32 h => Jf R (Jf2 g1_0 hx32 U22 Z24 R R R R) ?_))))))))))
 obtain ⟨ax32, ux32, f34, hl35⟩ := (g1_0.stp (S3.tr (S7.tr (S13.tr (S19.tr S31)))) R R).gSl hx32
 refine Jl tv R R R R (Jc2 I24 R R (hvE hl35)) (Jb 2 R (Jq (Js1 (κ := K30) [0, 2, 3] none [(0, 2), (1, 2), (2, 0), (3, 1), (4, 2), (5, 2), (6, 2), (8, 2), (12, 2), (13, 2), (7, 0), (9, 2), (10, 0), (11, 2), (14, 2), (15, 2), (16, 2), (17, 2), (18, 2), (19, 1), (20, 2), (21, 2), (22, 2), (23, 2), (25, 2), (28, 2), (24, 0), (26, 2), (27, 0), (29, 0), (30, 2), (31, 1), (32, 2), (33, 2)] [] (by kernel_rfl) (by kernel_rfl) fun w37 S36 => Jn 1 R (Jf R (Je2 U24 R R) ?_))))
 have f38 := f4.stp (S7.tr (S13.tr (S19.tr (S31.tr S36)))) R R
 refine Jg R (Jd2 (cs := [vi p0.In, vi p0.Out]) I47 Z47 R R R (haC f38.cells R)) (Ob h fun x37 hx37 h => Jh R R R C69 (i_inputsOf_ok (κ := fun b => mp [] 0 (K30 b)) (p0 := p0) hx37) ?_)
 rintro _ w39 ⟨k40, rfl, e41⟩
 obtain ⟨K42, S43, m44⟩ := Ji e41 4 R
 refine ⟨(S43.cl R), Jn 2 R (Ob h fun p49 h hK46 => Ju1 [(6, 2), (8, 2), (12, 2), (13, 2), (7, 0), (9, 2), (10, 0), (11, 2), (14, 2), (15, 2)] [(16, 2), (17, 2), (18, 2), (19, 1), (20, 2), (21, 2), (22, 2), (23, 2), (25, 2), (28, 2), (24, 0), (26, 2), (27, 0), (29, 0), (30, 2), (31, 1), (32, 2), (33, 2)] (fun L w' => L = [(2, .pointer (some ⟨b2, 0, none⟩)), (3, .pointer (some ⟨b3, 0, none⟩)), (5, vi (p1.Next.length : Int)), (6, vi v29), (7, .slice ax32 x32.length ux32), (27, .slice aa p1.Next.length ab), (28, vi (p1.Next.length : Int)), (29, vi v29), (49, .bool p49)] ∧ ∃ κ', Stp [] K42 w39 κ' w') (S43.cl R) ?_ ?_)⟩
 revert h
 cases ht47 : ((x32.length : Int) != x37)
 refine JF fun h => Jf R (Jb2 U49 R Z22 R R) (Jn 2 R (Jf R (Je2 U24 R R) (Jg R (Jc2 I22 R R (hvC ((f22.stp (S31.tr S36) R R).ld 1 R R) R)) (Ob h fun x43 hx43 h => Jf R (Jf2 g1_1 hx43 U22 Z24 R R R R) ?_))))
 obtain ⟨ax43, ux43, f50, hl51⟩ := (g1_1.stp (S3.tr (S7.tr (S13.tr (S19.tr (S31.tr S36))))) R R).gSl hx43
 refine Jg R (Jc2 I24 R R (hvC hl51 R)) (Jf R (Je2 U24 R R) (Jn 2 R ?_))
 cases h
 exact Jv1 _ (S43.cl R) ⟨R, _, (Jx2 _ _).wk R⟩ (KM R)
 refine JT fun h => Jn 4 R (Je1 R R R R (Jn 1 R (Je1 R R R R (Jn 3 R ?_))))
 cases h
 exact Jv1 _ (S43.cl R) ⟨R, _, (Jx2 _ _).wk R⟩ (KM R)
 rintro _ w52 _ ⟨rfl, K53, S54⟩
 have h := hK46
 refine Jn 1 R (Ob h fun p55 h hK55 => Ju1 [(17, 2), (18, 2), (19, 1), (20, 2), (21, 2)] [(22, 2), (23, 2), (25, 2), (28, 2), (24, 0), (26, 2), (27, 0), (29, 0), (30, 2), (31, 1), (32, 2), (33, 2)] (fun L w' => L = [(2, .pointer (some ⟨b2, 0, none⟩)), (3, .pointer (some ⟨b3, 0, none⟩)), (5, vi (p1.Next.length : Int)), (6, vi v29), (27, .slice aa p1.Next.length ab), (28, vi (p1.Next.length : Int)), (29, vi v29), (55, .bool p55)] ∧ ∃ κ', Stp [] K53 w52 κ' w') ((S43.tr S54).cl R) ?_ ?_)
 revert h
 cases ht56 : p49
 refine JF fun h => Jn 2 R (Ob h fun x53 hx53 h => Jh R R R C70 (i_areLetters_ok (κ := fun b => mp [] 0 (K53 b)) (Jl2 (f34.stp (S36.tr (S43.tr S54)) R R) (mp [] 0) R R) hx53) ?_)
 rintro _ w58 ⟨k59, rfl, e60⟩
 obtain ⟨K61, S62, m63⟩ := Ji e60 6 R
 refine ⟨((S43.tr (S54.tr S62)).cl R), Jn 2 R ?_⟩
 cases h
 exact Jv1 _ ((S43.tr (S54.tr S62)).cl R) ⟨R, _, S62.wk R⟩ (KM R)
 refine JT fun h => Jn 2 R (Jd1 R R R R (Jn 2 R ?_))
 cases h
 exact Jv1 _ ((S43.tr S54).cl R) ⟨R, _, (Jx2 _ _).wk R⟩ (KM R)
 rintro _ w65 _ ⟨rfl, K66, S67⟩
 have h := hK55
 refine Jn 1 R (Ob h fun p67 h hK68 => Ju1 [(23, 2), (25, 2), (28, 2), (24, 0), (26, 2), (27, 0), (29, 0), (30, 2), (31, 1), (32, 2), (33, 2)] [] (fun L w' => L = [(2, .pointer (some ⟨b2, 0, none⟩)), (3, .pointer (some ⟨b3, 0, none⟩)), (5, vi (p1.Next.length : Int)), (27, .slice aa p1.Next.length ab), (28, vi (p1.Next.length : Int)), (29, vi v29), (67, .bool p67)] ∧ ∃ κ', Stp [] K66 w65 κ' w') ((S43.tr (S54.tr S67)).cl R) ?_ ?_)
 revert h
 cases ht69 : p55
 refine JF fun h => Jf R (Jb2 U49 R Z22 R R) (Jn 1 R (Jf R (Jb2 U47 R Z2 R R) (Jg R (Jc2 I22 R R (hvC ((f22.stp (S31.tr S36) R R).ld 1 R R) R)) (Ob h fun x60 hx60 h => Jf R (Jf2 g1_1 hx60 U22 Z24 R R R R) ?_))))
 obtain ⟨ax60, ux60, f72, hl73⟩ := (g1_1.stp (S3.tr (S7.tr (S13.tr (S19.tr (S31.tr S36))))) R R).gSl hx60
 refine Jg R (Jc2 I24 R R (hvC hl73 R)) (Jg R (Jc2 I2 R R (hvC (f38.ld 1 R R) R)) (Ob h fun _z64 hz64 h => Jf R (rn_shl R R R (nn_ok hz64)) (Ob h fun x65 hx65 h => Jh R R R C70 (i_areLetters_ok (κ := fun b => mp [] 0 (K66 b)) (Jl2 (f72.stp (S43.tr (S54.tr S67)) R R) (mp [] 0) R R) hx65) ?_)))
 rintro _ w75 ⟨k76, rfl, e77⟩
 obtain ⟨K78, S79, m80⟩ := Ji e77 6 R
 refine ⟨((S43.tr (S54.tr (S67.tr S79))).cl R), Jn 2 R ?_⟩
 cases h
 exact Jv1 _ ((S43.tr (S54.tr (S67.tr S79))).cl R) ⟨R, _, S79.wk R⟩ (KM R)
 refine JT fun h => Jn 3 R (Je1 R R R R (Jn 1 R (Je1 R R R R (Je1 R R R R (Jn 1 R (Jd1 R R R R (Jn 2 R ?_)))))))
 cases h
 exact Jv1 _ ((S43.tr (S54.tr S67)).cl R) ⟨R, _, (Jx2 _ _).wk R⟩ (KM R)
 rintro _ w82 _ ⟨rfl, K83, S84⟩
 have h := hK68
 refine Jt1 (Jd ?_)
 revert h
 cases ht85 : p67
 refine JF fun h => Jy R (Js (Jz (Jp (Ja [2, 2] R (Jc 2 R ?_)))))
 have hw23 : IntKind.wrap .i64 (v29 + 1) = v29 + 1 := wr1 hj23 (Jm2 hc23) hN23
 rw [hw23]
 have hc23 := Jm2 hc23
 cases h
 exact Jz1 fun a ha => ⟨k, _, Ja3 _, ⟨K83, v29 + 1, R, (S31.tr (S36.tr (S43.tr (S54.tr (S67.tr S84))))).wk R, by omega, by omega, hk32⟩, (ha.mm R)⟩
 refine JT fun h => Jx R (Je [2] R (Jb 1 R (Ju (Ja1 (Jw (Jw ?_))))))
 cases h
 obtain rfl := Option.some.inj hk32
 have h := hK24
 dsimp only [aft] at h
 refine Ja1 (Jq2 (Jw (Ja2 (l := [.tmp 4]) V45 (Jp2 R R) R ?_)))
 cases h
 exact ⟨K83, R, (hE.stp (S3.tr (S7.tr (S13.tr (S19.tr (S31.tr (S36.tr (S43.tr (S54.tr (S67.tr S84))))))))) R R)⟩
 rintro _ w26 ⟨K27, rfl, S28, rfl⟩
 have h := hK24
 dsimp only [aft] at h
 refine Jp (Je [2] R (Jb 1 R (Ju (Ja2 (l := [.tmp 4]) V45 (Jp2 R R) R ?_))))
 cases h
 exact ⟨K27, R, (hE.stp (S3.tr (S7.tr (S13.tr (S19.tr S28)))) R R)⟩
 refine JT fun h => Jx R (Je [2] R (Jb 1 R (Ju (Jw (Ja2 (l := [.tmp 4]) V45 (Jp2 R R) R ?_)))))
 cases h
 exact ⟨K18, R, (hE.stp (S3.tr (S7.tr (S13.tr S19))) R R)⟩
theorem slices_IndexFunc_i_Clause_i_Clause__i_areClauses_1_ok {w : World} {κ : Col} {a0 u0} {p0 : (List Clause)} {c1_0 : Sig} {b1_0} (g0 : Rd Clause.rp κ w 0 a0 u0 p0) (gb1_0 : Bc κ w 0 b1_0 47 [vi c1_0.In, vi c1_0.Out]) {r : Int} (h : slices_IndexFunc_i_Clause_i_Clause__i_areClauses_1 p0 c1_0 = some r) : Ret Try.prog 134 [.slice a0 p0.length u0, .func (.func 110) #[] #[.pointer (some ⟨b1_0, 0, none⟩)]] w (fun v w' => ∃ (κ' : Col), v = vi r ∧ Ent κ w κ' w') := by
 unfold slices_IndexFunc_i_Clause_i_Clause__i_areClauses_1 at h
 refine Ret.enter F134 R N134 R ?_
 dsimp only [envOf]
 have hE := Ent.refl κ w
 refine Je [2] R (Jb 1 R (Jq (Je [2, 2, 2] R (Jn 1 R (Jf R (Je2 U51 R R) (Jb 1 R ?_))))))
 have hN1 : (p0.length : Int) ≤ 9223372036854775807 := g0.len_le
 refine Ob h fun q2 hq3 hK2 => ?_
 clear h
 refine Jx1 (fun L w' => ∃ κ', L = [(1, .func (.func 110) #[] #[.pointer (some ⟨b1_0, 0, none⟩)])] ∧ Stp [] κ w κ' w' ∧ q2 = Sum.inr ()) ?_ ?_
 refine Jv (Jy1 (fun k L w' => ∃ κ' v8, L = [(0, .slice a0 p0.length u0), (1, .func (.func 110) #[] #[.pointer (some ⟨b1_0, 0, none⟩)]), (7, vi (p0.length : Int)), (8, vi v8)] ∧ Stp [] κ w κ' w' ∧ 0 ≤ v8 ∧ Int.toNat ((p0.length : Int) - v8) = k ∧ cntM (slices_IndexFunc_i_Clause_i_Clause__i_areClauses_1_b0 p0 c1_0) k v8 () = some q2) ⟨_, _, ⟨κ, 0, R, (Jx2 _ _).wk R, (by decide), (by simp), hq3⟩, (KM R)⟩ ?_)
 rintro k _ w7 ⟨K8, v8, rfl, S9, hj1, hJ1, h⟩
 rcases k with _ | k
 have hk10 := h; obtain ⟨o1, h⟩ := ex_eq (Sum.inr (Sum.inl ()) : Int ⊕ ((Unit) ⊕ (Unit)))
 have hc1 : decide (v8 < (p0.length : Int)) = false := Jo2 (by omega)
 refine Je [2] R (Jb 1 R (Jq (Jw2 R hc1 (Jc1 (Jt (Jt ?_))))))
 cases h
 have h := hk10
 refine Jb1 ?_
 cases h
 exact Jw1 _ ⟨K8, R, S9.wk R, R⟩ (KM R)
 obtain ⟨o1, h, hk10⟩ := BI h; unfold slices_IndexFunc_i_Clause_i_Clause__i_areClauses_1_b0 at h
 have hc1 : decide (v8 < (p0.length : Int)) = true := Jn2 (by omega)
 refine Je [2] R (Jb 1 R (Jq (Jv2 R hc1 (Js (Jp (Jq (Jv (Je [2, 2] R (Jb 2 R (Je [2, 2, 2, 2, 1, 1] R (Jn 3 R (Ob h fun x14 hx14 h => Jf R (Jf2 g0 hx14 U51 Z61 R R R R) ?_))))))))))))
 obtain ⟨cse12, hre12, hle12⟩ := ((g0.stp S9 R R)).gSt hx14
 obtain ⟨ae12_0, ue12_0, ae12_1, ue12_1, rfl, fe12_0, fe12_1⟩ := Clause.un hre12
 refine Jl tv R R R R (Jd2 (cs := [vi x14.Kind, .slice ae12_0 x14.A.length ue12_0, .slice ae12_1 x14.B.length ue12_1]) I61 Z61 R R R (haE hle12)) (Ob h fun x16 hx16 h => WO.callV R R R R R R R R C110 (i_areClauses_1_ok (κ := fun b => mp [] 0 (K8 b)) (p0 := x14) (c0 := c1_0) (Jl2 fe12_0 (mp [] 0) R R) (Jl2 fe12_1 (mp [] 0) R R) ((gb1_0.stp S9 R R).map (mp [] 0) R R) hx16) ?_)
 rintro _ w14 ⟨k15, rfl, e16⟩
 obtain ⟨K17, S18, m19⟩ := Ji e16 2 R
 refine ⟨tv, Jd ?_⟩
 revert h
 cases ht21 : x16
 refine JF fun h => Jy R (Js (Jz (Jp (Ja [2, 2] R (Jc 2 R ?_)))))
 have hw1 : IntKind.wrap .i64 (v8 + 1) = v8 + 1 := wr1 hj1 (Jm2 hc1) hN1
 rw [hw1]
 have hc1 := Jm2 hc1
 cases h
 exact Jz1 fun a ha => ⟨k, _, Ja3 _, ⟨K17, v8 + 1, R, (S9.tr S18).wk R, by omega, by omega, hk10⟩, (ha.mm R)⟩
 refine JT fun h => Jx R (Je [2, 2] R (Jb 2 R (Ju (Ja1 (Jw (Jw ?_))))))
 cases h
 obtain rfl := Option.some.inj hk10
 have h := hK2
 dsimp only [aft] at h
 refine Ja1 (Jq2 (Jw (Ja2 (l := [.tmp 4]) V134 (Jp2 R R) R ?_)))
 cases h
 exact ⟨K17, R, (hE.stp (S9.tr S18) R R)⟩
 rintro _ w4 ⟨K5, rfl, S6, rfl⟩
 have h := hK2
 dsimp only [aft] at h
 refine Jp (Je [2] R (Jb 1 R (Ju (Ja2 (l := [.tmp 4]) V134 (Jp2 R R) R ?_))))
 cases h
 exact ⟨K5, R, (hE.stp S6 R R)⟩
theorem slices_ContainsFunc_i_Clause_i_Clause__i_areClauses_1_ok {w : World} {κ : Col} {a0 u0} {p0 : (List Clause)} {c1_0 : Sig} {b1_0} (g0 : Rd Clause.rp κ w 0 a0 u0 p0) (gb1_0 : Bc κ w 0 b1_0 47 [vi c1_0.In, vi c1_0.Out]) {r : Bool} (h : slices_ContainsFunc_i_Clause_i_Clause__i_areClauses_1 p0 c1_0 = some r) : Ret Try.prog 109 [.slice a0 p0.length u0, .func (.func 110) #[] #[.pointer (some ⟨b1_0, 0, none⟩)]] w (fun v w' => ∃ (κ' : Col), v = .bool r ∧ Ent κ w κ' w') := by
 unfold slices_ContainsFunc_i_Clause_i_Clause__i_areClauses_1 at h
 refine Ret.enter F109 R N109 R ?_
 dsimp only [envOf]
 have hE := Ent.refl κ w
 refine Je [2] R (Jb 1 R (Je [2, 2, 1, 2, 2] R (Jn 2 R (Ob h fun x7 hx7 h => Jh R R R C134 (slices_IndexFunc_i_Clause_i_Clause__i_areClauses_1_ok (κ := fun b => mp [] 0 (κ b)) (c1_0 := c1_0) (Jl2 g0 (mp [] 0) R R) (gb1_0.map (mp [] 0) R R) hx7) ?_))))
 rintro _ w1 ⟨k2, rfl, e3⟩
 obtain ⟨K4, S5, m6⟩ := Ji e3 2 R
 refine ⟨tv, Jb 2 R (Ju (Ja2 (l := [.tmp 4]) V109 (Jp2 R R) R ?_))⟩
 cases h
 exact ⟨K4, R, (hE.stp S5 R R)⟩
theorem i_areClauses_ok {w : World} {κ : Col} {p0 : Sig} {a1 u1} {p1 : (List Clause)} (g1 : Rd Clause.rp κ w 0 a1 u1 p1) {r : Bool} (h : i_areClauses p0 p1 = some r) : Ret Try.prog 95 [.agg #[vi p0.In, vi p0.Out], .slice a1 p1.length u1] w (fun v w' => ∃ (κ' : Col), v = .bool r ∧ Ent κ w κ' w') := by
 unfold i_areClauses at h
 refine Ret.enter F95 R N95 R ?_
 dsimp only [envOf]
 have hE := Ent.refl κ w
 refine Je [1, 2] R (Jf1 (κ := κ) 2 R R R R R R R fun b2 w1 K2 S3 f4 => ⟨tv, Jb 1 R (Je [2, 2, 2, 2, 2, 2, 1, 2, 2, 2] R (Jn 1 R (Jf R (Je2 U51 R R) (Jn 2 R (Ob h fun p13 h hK5 => Ju1 [(4, 2), (5, 2), (6, 1), (7, 2), (8, 2)] [(9, 2)] (fun L w' => L = [(4, .bool false), (13, .bool p13)] ∧ ∃ κ', Stp [] K2 w1 κ' w') tv ?_ ?_)))))⟩)
 revert h
 cases ht6 : decide ((p1.length : Int) ≤ 3)
 refine JF fun h => Jn 2 R (Jd1 R R R R (Jn 2 R ?_))
 cases h
 exact Jv1 _ tv ⟨R, _, (Jx2 _ _).wk R⟩ (KM R)
 refine JT fun h => Jn 1 R (Jf R (rn_makeFunc (first := []) (captured := [.tmp 2]) R R R ⟨_, R⟩) (Ob h fun x11 hx11 h => Jh R R R C109 (slices_ContainsFunc_i_Clause_i_Clause__i_areClauses_1_ok (κ := fun b => mp [] 0 (K2 b)) (c1_0 := p0) (Jl2 (g1.stp S3 R R) (mp [] 0) R R) (f4.map (mp [] 0) R R) hx11) ?_))
 rintro _ w8 ⟨k9, rfl, e10⟩
 obtain ⟨K11, S12, m13⟩ := Ji e10 3 R
 refine ⟨tv, Jn 2 R ?_⟩
 cases h
 exact Jv1 _ tv ⟨R, _, S12.wk R⟩ (KM R)
 rintro _ w15 _ ⟨rfl, K16, S17⟩
 have h := hK5
 refine Jb 1 R (Ju (Ja2 (l := [.tmp 4]) V95 (Jp2 R R) R ?_))
 cases h
 exact ⟨K16, R, (hE.stp (S3.tr S17) R R)⟩
theorem i_watch_targets_ok {w : World} {κ : Col} {ay ao av an aw ar} {p0 : watch} {ax ap aq au} {p1 : Pair} {b0} (g0_0 : Rd (Rp.sl (Rp.int .i64)) κ w 0 ay ao p0.next) (g0_1 : Rd (Rp.sl (Rp.int .i64)) κ w 0 av an p0.letters) (g0_2 : Rd Pair.rp κ w 0 aw ar p0.pairs) (g1_0 : Rd (Rp.int .i64) κ w 0 ax ap p1.Ask) (g1_1 : Rd (Rp.int .i64) κ w 0 aq au p1.Give) (gb0 : Bc κ w 0 b0 89 [.slice ay p0.next.length ao, .slice av p0.letters.length an, .slice aw p0.pairs.length ar]) {r : (List Int)} (h : i_watch_targets p0 p1 = some r) : Ret Try.prog 68 [.pointer (some ⟨b0, 0, none⟩), .agg #[.slice ax p1.Ask.length ap, .slice aq p1.Give.length au]] w (fun v w' => ∃ (κ' : Col) (ra0 : Option Addr) (ru0 : Nat), v = .slice ra0 r.length ru0 ∧ Ent κ w κ' w' ∧ Oc E6 2 κ' w' 2 ra0 ru0 r) := by
 unfold i_watch_targets at h
 refine Ret.enter F68 R N68 R ?_
 dsimp only [envOf]
 have hE := Ent.refl κ w
 refine Je [1, 2] R (Jf1 (κ := κ) 2 R R R R R R R fun b3 w1 K2 S3 f4 => ⟨tv, Jb 1 R (Je [1, 2] R (Jo1 (κ := K2) (E := E6) 3 R R R R R Y24 Tryinfo2 R fun aB aC w5 K6 S7 f8 => ⟨tv, Jb 1 R (Jq (Jq (Js1 (κ := K6) [0, 2] none [(0, 2), (1, 2), (2, 2), (4, 2), (5, 2), (10, 2), (3, 0), (6, 0), (7, 1), (8, 1), (9, 2)] [] (by kernel_rfl) (by kernel_rfl) fun w10 S9 => Jn 1 R (Jf R (rn_nilCheck R R) (Jf R (Jb2 U89 R Z22 R R) (Jn 1 R (Jf R (Jb2 U42 R Z24 R R) (Jn 1 R ?_))))))))⟩))⟩)
 have f11 := gb0.stp (S3.tr (S7.tr S9)) R R
 refine Jg R (Jc2 I22 R R (hvC (f11.ld 0 R R) R)) ?_
 have f12 := f4.stp (S7.tr S9) R R
 refine Jg R (Jc2 I24 R R (hvC (f12.ld 1 R R) R)) (Ob h fun x18 hx18 h => ?_)
 have f13 := g0_0.stp (S3.tr (S7.tr S9)) R R
 have S001 := (S3.tr (S7.tr S9))
 refine Jh R R R C98 (i_watch_outside_ok (κ := fun b => mp [] 0 (K6 b)) (p0 := p0) (Jl2 f13 (mp [] 0) R R) (Jl2 (g0_1.stp S001 R R) (mp [] 0) R R) (Jl2 (g0_2.stp S001 R R) (mp [] 0) R R) (Jl2 (g1_1.stp S001 R R) (mp [] 0) R R) (f11.map (mp [] 0) R R) hx18) ?_
 rintro _ w17 ⟨k18, aG, aE, rfl, e19, f20⟩
 obtain ⟨K21, S22, m23⟩ := Ji e19 4 R
 refine ⟨(S22.cl R), ?_⟩
 obtain ⟨K26, S27, z28⟩ := fz_ex K21 w17 6
 refine Ob h fun x19 hx19 h => Jh R R R C60 (i_loopsIn_ok (κ := fun b => mp [] 1 (K26 b)) (Jl2 (f13.stp (S22.tr S27) R R) (mp [] 1) R R) (Jl2 (Sl.st z28 (f20.mx no_bool m23 R (R : 4 + 2 = 6)).rdc) (mp [] 1) R R) hx19) ?_
 rintro _ w31 ⟨k32, al, ah, rfl, e33, f34⟩
 obtain ⟨K35, S36, m37, z38⟩ := Jj e33 7 R
 refine ⟨((S22.tr (S27.tr S36)).cl R), ?_⟩
 have f39 := f34.mxz z38 m37 R (R : 7 + 2 = 9)
 refine Jf R (Je2 U22 R R) (Jt1 (Jd ?_))
 have hN40 : (x19.length : Int) ≤ 9223372036854775807 := f39.len_le
 refine Ob h fun q2 hq42 hK41 => ?_
 clear h
 refine Jx1 (fun L w' => ∃ κ', ∃ s3 : (List Int), ∃ aj am, L = [(0, .pointer (some ⟨b0, 0, none⟩)), (5, .slice aj s3.length am)] ∧ Stp [3] K35 w31 κ' w' ∧ Oc E6 2 κ' w' 3 aj am s3 ∧ q2 = Sum.inr s3) ?_ ?_
 refine Jv (Jy1 (fun k L w' => ∃ κ' v21, ∃ s1 : (List Int), ∃ ac ab, L = [(0, .pointer (some ⟨b0, 0, none⟩)), (3, .pointer (some ⟨b3, 0, none⟩)), (5, .slice ac s1.length ab), (19, .slice al x19.length ah), (20, vi (x19.length : Int)), (21, vi v21)] ∧ Stp [3] K35 w31 κ' w' ∧ Oc E6 2 κ' w' 3 ac ab s1 ∧ 0 ≤ v21 ∧ Int.toNat ((x19.length : Int) - v21) = k ∧ cntM (i_watch_targets_b0 p1 x19) k v21 s1 = some q2) ⟨_, _, ⟨K35, 0, (([] : List Int) : (List Int)), aB, aC, R, (Jx2 _ _).wk R, (f8.stp (S9.tr (S22.tr (S27.tr S36))) R R), (by decide), (by simp), hq42⟩, (KM R)⟩ ?_)
 rintro k _ w47 ⟨K48, v21, s1, ac, ab, rfl, S49, f50, hj40, hJ40, h⟩
 rcases k with _ | k
 have hk52 := h; obtain ⟨o40, h⟩ := ex_eq (Sum.inr (Sum.inl s1) : (List Int) ⊕ (((List Int)) ⊕ ((List Int))))
 have hc40 : decide (v21 < (x19.length : Int)) = false := Jo2 (by omega)
 refine Je [2] R (Jb 1 R (Jq (Jw2 R hc40 (Jc1 (Jt (Jt ?_))))))
 cases h
 have h := hk52
 refine Jb1 ?_
 cases h
 exact Jw1 _ ⟨K48, (s1 : (List Int)), ac, ab, R, S49.wk R, f50, R⟩ (KM R)
 obtain ⟨o40, h, hk52⟩ := BI h; unfold i_watch_targets_b0 at h
 have hc40 : decide (v21 < (x19.length : Int)) = true := Jn2 (by omega)
 refine Je [2] R (Jb 1 R (Jq (Jv2 R hc40 (Js (Jp (Jq (Jv (Je [2, 1, 2] R (Ob h fun x23 hx23 h => Jf R (Jf2 f39.rdc hx23 U22 Z24 R R R R) ?_)))))))))
 obtain ⟨ax23, ux23, f54, hl55⟩ := (f39.stp S49 R R).gZ hx23
 refine Jl tv R R R R (Jc2 I24 R R (hvE hl55)) (Jb 1 R (Je [2, 2, 2] R (Jn 1 R (Jf R (Je2 U24 R R) (Jb 1 R ?_)))))
 have hN56 : (x23.length : Int) ≤ 9223372036854775807 := f54.len_le
 refine Ob h fun q5 hq58 hK57 => ?_
 clear h
 refine Jx1 (fun L w' => ∃ κ', ∃ s6 : (List Int), ∃ af ae, L = [(0, .pointer (some ⟨b0, 0, none⟩)), (3, .pointer (some ⟨b3, 0, none⟩)), (5, .slice af s6.length ae), (19, .slice al x19.length ah), (20, vi (x19.length : Int)), (21, vi v21)] ∧ Stp [3] K48 w47 κ' w' ∧ Oc E6 2 κ' w' 3 af ae s6 ∧ q5 = Sum.inr s6) ?_ ?_
 refine Jv (Jy1 (fun k L w' => ∃ κ' v27, ∃ s4 : (List Int), ∃ ad aa, L = [(0, .pointer (some ⟨b0, 0, none⟩)), (3, .pointer (some ⟨b3, 0, none⟩)), (5, .slice ad s4.length aa), (19, .slice al x19.length ah), (20, vi (x19.length : Int)), (21, vi v21), (25, .slice ax23 x23.length ux23), (26, vi (x23.length : Int)), (27, vi v27)] ∧ Stp [3] K48 w47 κ' w' ∧ Oc E6 2 κ' w' 3 ad aa s4 ∧ 0 ≤ v27 ∧ Int.toNat ((x23.length : Int) - v27) = k ∧ cntM (i_watch_targets_b2 p1 x23) k v27 s4 = some q5) ⟨_, _, ⟨K48, 0, (s1 : (List Int)), ac, ab, R, (Jx2 _ _).wk R, f50, (by decide), (by simp), hq58⟩, (KM R)⟩ ?_)
 rintro k _ w63 ⟨K64, v27, s4, ad, aa, rfl, S65, f66, hj56, hJ56, h⟩
 rcases k with _ | k
 have hk67 := h; obtain ⟨o56, h⟩ := ex_eq (Sum.inr (Sum.inl s4) : (List Int) ⊕ (((List Int)) ⊕ ((List Int))))
 have hc56 : decide (v27 < (x23.length : Int)) = false := Jo2 (by omega)
 refine Je [2] R (Jb 1 R (Jq (Jw2 R hc56 (Jc1 (Jt (Jt ?_))))))
 cases h
 have h := hk67
 refine Jb1 ?_
 cases h
 exact Jw1 _ ⟨K64, (s4 : (List Int)), ad, aa, R, S65.wk R, f66, R⟩ (KM R)
 obtain ⟨o56, h, hk67⟩ := BI h; unfold i_watch_targets_b2 at h
 have hc56 : decide (v27 < (x23.length : Int)) = true := Jn2 (by omega)
 refine Je [2] R (Jb 1 R (Jq (Jv2 R hc56 (Js (Jp (Jq (Jv (Je [2, 1, 2] R (Ob h fun x29 hx29 h => Jf R (Jf2 f54 hx29 U24 Z2 R R R R) (Jl tv R R R R (Jc2 I2 R R (hvE ((f54.stp S65 R R).gInt hx29))) (Jb 1 R (Je [2, 1, 2, 1] R (Jf R (Jb2 U42 R Z24 R R) (Jl tv R R R R (Jc2 I24 R R (hvE ((f12.stp (S22.tr (S27.tr (S36.tr (S49.tr S65)))) R R).ld 0 R R))) (Jn 1 R (Ob h fun x34 hx34 h => Jh R R R C72 (slices_Contains_I_int64_ok (κ := fun b => mp [] 0 (K64 b)) (Jl2 (g1_0.stp (S3.tr (S7.tr (S9.tr (S22.tr (S27.tr (S36.tr (S49.tr S65))))))) R R) (mp [] 0) R R) hx34) ?_))))))))))))))))
 rintro _ w71 ⟨k72, rfl, e73⟩
 obtain ⟨K74, S75, m76⟩ := Ji e73 10 R
 refine ⟨tv, Jd (Ob h fun q7 h hK78 => Jx1 (fun L w' => ∃ κ' ai ak, L = [(0, .pointer (some ⟨b0, 0, none⟩)), (3, .pointer (some ⟨b3, 0, none⟩)), (5, .slice ai q7.length ak), (19, .slice al x19.length ah), (20, vi (x19.length : Int)), (21, vi v21), (25, .slice ax23 x23.length ux23), (26, vi (x23.length : Int)), (27, vi v27)] ∧ Stp [3] K74 w71 κ' w' ∧ Oc E6 2 κ' w' 3 ai ak q7) ?_ ?_)⟩
 revert h
 cases ht83 : x34
 refine JF fun h => Jy R (Js ?_)
 cases h
 exact Jw1 _ ⟨K74, ad, aa, R, (Jx2 _ _).wk R, (f66.stp S75 R R)⟩ (KM R)
 refine JT fun h => Jx R (Ja [2, 2, 1, 1, 2] R (Jn 2 R (Jn1 (κ := K74) (E := E6) 12 [] (parts := [(0, .tmp 36)]) (cells := [vi x29]) (xs := ([x29] : List Int)) R R R R R R Y24 Tryinfo2 R R R R R R R R R R ⟨[vi x29], [], Zl K74 w71 [], Zl K74 w71 [], R, Zl.sp (l1 := []) (l2 := []) R, Zl.sr (l1 := []) (l2 := []), R, R⟩ fun aF aD w84 K85 S86 f87 => ⟨tv, Ob h fun x38 hx38 h => Jm1 (κ := K85) (E := E6) 3 [] R R R R R R R R R Y24 Tryinfo2 R R R R (f66.stp (S75.tr S86) R R) (Sl.srcP (pu_int _) f87.rdc) sy_false hx38 R fun aA az w89 K90 S91 f92 => ⟨tv, Jc 1 R ?_⟩⟩)))
 cases h
 exact Jw1 _ ⟨K90, aA, az, R, (S86.tr S91).wk R, f92⟩ (KM R)
 rintro _ w79 ⟨K80, ai, ak, rfl, S81, f82⟩
 have h := hK78
 refine Jz (Jp (Ja [2, 2] R (Jc 2 R ?_)))
 have hw56 : IntKind.wrap .i64 (v27 + 1) = v27 + 1 := wr1 hj56 (Jm2 hc56) hN56
 rw [hw56]
 have hc56 := Jm2 hc56
 cases h
 exact Jz1 fun a ha => ⟨k, _, Ja3 _, ⟨K80, v27 + 1, (q7 : (List Int)), ai, ak, R, (S65.tr (S75.tr S81)).wk R, f82, by omega, by omega, hk67⟩, (ha.mm R)⟩
 rintro _ w59 ⟨K60, s6, af, ae, rfl, S61, f62, rfl⟩
 have h := hK57
 dsimp only [aft] at h
 refine Jz (Jp (Ja [2, 2] R (Jc 2 R ?_)))
 have hw40 : IntKind.wrap .i64 (v21 + 1) = v21 + 1 := wr1 hj40 (Jm2 hc40) hN40
 rw [hw40]
 have hc40 := Jm2 hc40
 cases h
 exact Jz1 fun a ha => ⟨k, _, Ja3 _, ⟨K60, v21 + 1, (s6 : (List Int)), af, ae, R, (S49.tr S61).wk R, f62, by omega, by omega, hk52⟩, (ha.mm R)⟩
 rintro _ w43 ⟨K44, s3, aj, am, rfl, S45, f46, rfl⟩
 have h := hK41
 dsimp only [aft] at h
 refine Jp (Je [2, 1] R (Jn 1 R (Ob h fun x42 hx42 h => Jh R R R C87 (slices_Sort_I_int64_ok (κ := fun b => mp [(3, 2)] 0 (K44 b)) (f46.map (mp [(3, 2)] 0) R R) hx42) ?_)))
 rintro _ w94 ⟨k95, rfl, e96, f97, hn98⟩
 obtain ⟨K99, S100, m101⟩ := Ji e96 10 R
 refine ⟨tv, Jd (Je [2, 2] R (Jb 2 R (Ju (Ja2 (l := [.tmp 4]) V68 (Jp2 R R) R ?_))))⟩
 cases h
 exact ⟨(fun b => ren [(12, 2)] (K99 b)), aj, am, (by simp only [(hn98)]), ((hE.stp (S3.tr (S7.tr (S9.tr (S22.tr (S27.tr (S36.tr (S45.tr S100))))))) R R).map (ren [(12, 2)]) R R), ((f97.mx (no_int _) m101 R (R : 10 + 2 = 12)).map (ren [(12, 2)]) R R)⟩
theorem i_watch_broken_ok {w : World} {κ : Col} {am ak al aj af ad} {p0 : watch} {b0} (g0_0 : Rd (Rp.sl (Rp.int .i64)) κ w 0 am ak p0.next) (g0_1 : Rd (Rp.sl (Rp.int .i64)) κ w 0 al aj p0.letters) (g0_2 : Rd Pair.rp κ w 0 af ad p0.pairs) (gb0 : Bc κ w 0 b0 89 [.slice am p0.next.length ak, .slice al p0.letters.length aj, .slice af p0.pairs.length ad]) {r : (List Int)} (h : i_watch_broken p0 = some r) : Ret Try.prog 43 [.pointer (some ⟨b0, 0, none⟩)] w (fun v w' => ∃ (κ' : Col) (ra0 : Option Addr) (ru0 : Nat), v = .slice ra0 r.length ru0 ∧ Ent κ w κ' w' ∧ Oc E6 2 κ' w' 2 ra0 ru0 r) := by
 unfold i_watch_broken at h
 refine Ret.enter F43 R N43 R ?_
 dsimp only [envOf]
 have hE := Ent.refl κ w
 refine Je [2] R (Jb 1 R (Je [1, 2] R (Jo1 (κ := κ) (E := E6) 2 R R R R R Y24 Tryinfo2 R fun a6 u6 w1 K2 S3 f4 => ⟨tv, Jb 1 R (Jq (Je [2, 2, 2, 1, 2, 2] R (Jn 1 R (Jf R (rn_nilCheck R R) (Jf R (Jb2 U89 R Z29 R R) ?_)))))⟩)))
 have f5 := gb0.stp S3 R R
 refine Jl tv R R R R (Jc2 I29 R R (hvE (f5.ld 2 R R))) (Jf R (Je2 U29 R R) (Jb 1 R ?_))
 have hN6 : (p0.pairs.length : Int) ≤ 9223372036854775807 := g0_2.len_le
 refine Ob h fun q2 hq8 hK7 => ?_
 clear h
 refine Jx1 (fun L w' => ∃ κ', ∃ s3 : (List Int), ∃ ae ai, L = [(0, .pointer (some ⟨b0, 0, none⟩)), (3, .slice ae s3.length ai)] ∧ Stp [2, 3] K2 w1 κ' w' ∧ Oc E6 2 κ' w' 2 ae ai s3 ∧ q2 = Sum.inr s3) ?_ ?_
 refine Jv (Jy1 (fun k L w' => ∃ κ' v12, ∃ s1 : (List Int), ∃ ab aa, L = [(0, .pointer (some ⟨b0, 0, none⟩)), (3, .slice ab s1.length aa), (10, .slice af p0.pairs.length ad), (11, vi (p0.pairs.length : Int)), (12, vi v12)] ∧ Stp [2, 3] K2 w1 κ' w' ∧ Oc E6 2 κ' w' 2 ab aa s1 ∧ 0 ≤ v12 ∧ Int.toNat ((p0.pairs.length : Int) - v12) = k ∧ cntM (i_watch_broken_b0 p0) k v12 s1 = some q2) ⟨_, _, ⟨K2, 0, (([] : List Int) : (List Int)), a6, u6, R, (Jx2 _ _).wk R, f4, (by decide), (by simp), hq8⟩, (KM R)⟩ ?_)
 rintro k _ w13 ⟨K14, v12, s1, ab, aa, rfl, S15, f16, hj6, hJ6, h⟩
 rcases k with _ | k
 have hk17 := h; obtain ⟨o6, h⟩ := ex_eq (Sum.inr (Sum.inl s1) : (List Int) ⊕ (((List Int)) ⊕ ((List Int))))
 have hc6 : decide (v12 < (p0.pairs.length : Int)) = false := Jo2 (by omega)
 refine Je [2] R (Jb 1 R (Jq (Jw2 R hc6 (Jc1 (Jt (Jt ?_))))))
 cases h
 have h := hk17
 refine Jb1 ?_
 cases h
 exact Jw1 _ ⟨K14, (s1 : (List Int)), ab, aa, R, S15.wk R, f16, R⟩ (KM R)
 obtain ⟨o6, h, hk17⟩ := BI h; unfold i_watch_broken_b0 at h
 have hc6 : decide (v12 < (p0.pairs.length : Int)) = true := Jn2 (by omega)
 refine Je [2] R (Jb 1 R (Jq (Jv2 R hc6 (Js (Jp (Jq (Jv (Je [2, 2, 1, 1, 2, 1] R (Jn 1 R (Ob h fun x15 hx15 h => Jf R (Jf2 g0_2 hx15 U29 Z42 R R R R) ?_))))))))))
 have f18 := g0_2.stp (S3.tr S15) R R
 obtain ⟨cse19, hre19, hle19⟩ := (f18).gSt hx15
 obtain ⟨ae19_0, ue19_0, ae19_1, ue19_1, rfl, fe19_0, fe19_1⟩ := Pair.un hre19
 refine Jl tv R R R R (Jd2 (cs := [.slice ae19_0 x15.Ask.length ue19_0, .slice ae19_1 x15.Give.length ue19_1]) I42 Z42 R R R (haE hle19)) (Jg1 (κ := K14) 3 R R R R R X42 R fun b5 w20 K21 S22 f23 => ⟨tv, Jn 1 R (Jj1 (κ := K21) 3 (vc := [.slice ae19_0 x15.Ask.length ue19_0, .slice ae19_1 x15.Give.length ue19_1]) R R R R R R R Z42 R R f23 R fun w24 S25 f26 => ⟨tv, Jd (Je [2, 1, 1, 2, 2] R (Jn 1 R (Jl tv R R R R (Jd2 (cs := [.slice ae19_0 x15.Ask.length ue19_0, .slice ae19_1 x15.Give.length ue19_1]) I42 Z42 R R R (haE f26.cells)) (Ob h fun x19 hx19 h => Jh R R R C68 (i_watch_targets_ok (κ := fun b => mp [] 0 (K21 b)) (p1 := x15) (p0 := p0) (Jl2 (g0_0.stp (S3.tr (S15.tr (S22.tr S25))) R R) (mp [] 0) R R) (Jl2 (g0_1.stp (S3.tr (S15.tr (S22.tr S25))) R R) (mp [] 0) R R) (Jl2 (f18.stp (S22.tr S25) R R) (mp [] 0) R R) (Jl2 (fe19_0.stp (S22.tr S25) R R) (mp [] 0) R R) (Jl2 (fe19_1.stp (S22.tr S25) R R) (mp [] 0) R R) ((f5.stp (S15.tr (S22.tr S25)) R R).map (mp [] 0) R R) hx19) ?_))))⟩)⟩)
 rintro _ w33 ⟨k34, au, ap, rfl, e35, f36⟩
 obtain ⟨K37, S38, m39⟩ := Ji e35 4 R
 refine ⟨tv, Jf R (Je2 U24 R R) (Jb 1 R (Ob h fun q4 h hK42 => Jx1 (fun L w' => ∃ κ' ac ah, L = [(0, .pointer (some ⟨b0, 0, none⟩)), (3, .slice ac q4.length ah), (10, .slice af p0.pairs.length ad), (11, vi (p0.pairs.length : Int)), (12, vi v12)] ∧ Stp [2] K37 w33 κ' w' ∧ Oc E6 2 κ' w' 2 ac ah q4) ?_ ?_))⟩
 revert h
 cases ht47 : decide (0 < (x19.length : Int))
 refine JF fun h => Jy R (Js ?_)
 cases h
 exact Jw1 _ ⟨K37, ab, aa, R, (Jx2 _ _).wk R, (f16.stp (S22.tr (S25.tr S38)) R R)⟩ (KM R)
 refine JT fun h => Jx R (Ja [2, 2, 1, 1, 2] R (Jn 2 R (Jn1 (κ := K37) (E := E6) 7 [] (parts := [(0, .tmp 23)]) (cells := [vi v12]) (xs := ([v12] : List Int)) R R R R R R Y24 Tryinfo2 R R R R R R R R R R ⟨[vi v12], [], Zl K37 w33 [], Zl K37 w33 [], R, Zl.sp (l1 := []) (l2 := []) R, Zl.sr (l1 := []) (l2 := []), R, R⟩ fun ar aq w48 K49 S50 f51 => ⟨tv, Ob h fun x25 hx25 h => Jm1 (κ := K49) (E := E6) 2 [] R R R R R R R R R Y24 Tryinfo2 R R R R (f16.stp (S22.tr (S25.tr (S38.tr S50))) R R) (Sl.srcP (pu_int _) f51.rdc) sy_false hx25 R fun ao an w53 K54 S55 f56 => ⟨tv, Jc 1 R ?_⟩⟩)))
 cases h
 exact Jw1 _ ⟨K54, ao, an, R, (S50.tr S55).wk R, f56⟩ (KM R)
 rintro _ w43 ⟨K44, ac, ah, rfl, S45, f46⟩
 have h := hK42
 refine Jz (Jp (Ja [2, 2] R (Jc 2 R ?_)))
 have hw6 : IntKind.wrap .i64 (v12 + 1) = v12 + 1 := wr1 hj6 (Jm2 hc6) hN6
 rw [hw6]
 have hc6 := Jm2 hc6
 cases h
 exact Jz1 fun a ha => ⟨k, _, Ja3 _, ⟨K44, v12 + 1, (q4 : (List Int)), ac, ah, R, (S15.tr (S22.tr (S25.tr (S38.tr S45)))).wk R, f46, by omega, by omega, hk17⟩, (ha.mm R)⟩
 rintro _ w9 ⟨K10, s3, ae, ai, rfl, S11, f12, rfl⟩
 have h := hK7
 dsimp only [aft] at h
 refine Jp (Je [2, 2] R (Jb 2 R (Ju (Ja2 (l := [.tmp 2]) V43 (Jp2 R R) R ?_))))
 cases h
 exact ⟨K10, ae, ai, R, (hE.stp (S3.tr S11) R R), f12⟩
theorem s_ClauseOk_ok {w : World} {κ : Col} {p0 : Sig} {ac ad aa ab} {p1 : Clause} (g1_1 : Rd (Rp.int .i64) κ w 0 ac ad p1.A) (g1_2 : Rd (Rp.int .i64) κ w 0 aa ab p1.B) {r : Bool} (h : s_ClauseOk p0 p1 = some r) : Ret Try.prog 48 [.agg #[vi p0.In, vi p0.Out], .agg #[vi p1.Kind, .slice ac p1.A.length ad, .slice aa p1.B.length ab]] w (fun v w' => ∃ (κ' : Col), v = .bool r ∧ Ent κ w κ' w') := by
 unfold s_ClauseOk at h
 refine Ret.enter F48 R N48 R ?_
 dsimp only [envOf]
 have hE := Ent.refl κ w
 refine Je [1, 1, 2] R (Jf1 (κ := κ) 2 R R R R R R R fun b2 w1 K2 S3 f4 => ⟨tv, Jf1 (κ := K2) 3 R R R R R R R fun b3 w5 K6 S7 f8 => ⟨tv, Jb 1 R (Jq (Je [1, 1, 2, 2, 2, 1, 1, 2, 2] R ?_))⟩⟩)
 have f9 := f4.stp S7 R R
 refine Jl tv R R R R (Jd2 (cs := [vi p0.In, vi p0.Out]) I47 Z47 R R R (haE f9.cells)) (Ob h fun x7 hx7 h => Jh R R R C73 (s_SigOk_ok (κ := fun b => mp [] 0 (K6 b)) (p0 := p0) hx7) ?_)
 rintro _ w10 ⟨k11, rfl, e12⟩
 obtain ⟨K13, S14, m15⟩ := Ji e12 4 R
 refine ⟨tv, Jn 2 R (Ob h fun p14 h hK17 => Ju1 [(4, 2), (5, 1), (6, 1), (7, 2), (8, 2)] [] (fun L w' => L = [(2, .pointer (some ⟨b2, 0, none⟩)), (3, .pointer (some ⟨b3, 0, none⟩)), (14, .bool p14)] ∧ ∃ κ', Stp [] K13 w10 κ' w') tv ?_ ?_)⟩
 revert h
 cases ht18 : (!x7)
 refine JF fun h => Jf R (Jb2 U61 R Z2 R R) (Jl tv R R R R (Jc2 I2 R R (hvE ((f8.stp S14 R R).ld 0 R R))) (Ob h fun x12 hx12 h => Jh R R R C53 (s_l1In_ok (κ := fun b => mp [] 0 (K13 b)) hx12) ?_))
 rintro _ w20 ⟨k21, rfl, e22⟩
 obtain ⟨K23, S24, m25⟩ := Ji e22 6 R
 refine ⟨tv, Jn 2 R ?_⟩
 cases h
 exact Jv1 _ tv ⟨R, _, S24.wk R⟩ (KM R)
 refine JT fun h => Jn 1 R (Jd1 R R R R (Jd1 R R R R (Jn 2 R ?_)))
 cases h
 exact Jv1 _ tv ⟨R, _, (Jx2 _ _).wk R⟩ (KM R)
 rintro _ w27 _ ⟨rfl, K28, S29⟩
 have h := hK17
 refine Jd ?_
 revert h
 cases ht30 : p14
 refine JF fun h => Jy R (Js (Jp (Je [1, 1, 2] R (Jl tv R R R R (Jd2 (cs := [vi p0.In, vi p0.Out]) I47 Z47 R R R (haE (f9.stp (S14.tr S29) R R).cells)) (Ob h fun x16 hx16 h => Jh R R R C51 (s_LettersOf_ok (κ := fun b => mp [] 0 (K28 b)) (p0 := p0) hx16) ?_)))))
 rintro _ w33 ⟨k34, rfl, e35⟩
 obtain ⟨K36, S37, m38⟩ := Ji e35 6 R
 refine ⟨tv, Jb 1 R (Je [2, 1, 2, 1, 2, 2, 1, 2, 1, 2, 2, 2, 1, 1, 2, 2, 1, 2, 2, 2, 2, 2] R (Jf R (Jb2 U61 R Z24 R R) ?_))⟩
 have f40 := f8.stp (S14.tr (S29.tr S37)) R R
 refine Jl tv R R R R (Jc2 I24 R R (hvE (f40.ld 1 R R))) (Jn 1 R (Ob h fun x20 hx20 h => Jh R R R C29 (s_l1Set_ok (κ := fun b => mp [] 0 (K36 b)) (Jl2 (g1_1.stp (S3.tr (S7.tr (S14.tr (S29.tr S37)))) R R) (mp [] 0) R R) hx20) ?_))
 rintro _ w42 ⟨k43, rfl, e44⟩
 obtain ⟨K45, S46, m47⟩ := Ji e44 8 R
 refine ⟨tv, Jn 1 R (Ob h fun p26 h hK49 => Ju1 [(5, 2), (6, 1), (7, 2), (8, 1), (9, 2)] [(10, 2), (11, 2), (12, 1), (13, 1), (14, 2), (15, 2), (16, 1), (17, 2), (18, 2), (19, 2), (20, 2), (21, 2)] (fun L w' => L = [(3, .pointer (some ⟨b3, 0, none⟩)), (26, .bool p26)] ∧ ∃ κ', Stp [] K45 w42 κ' w') tv ?_ ?_)⟩
 revert h
 cases ht50 : x20
 refine JF fun h => Jn 1 R (Jd1 R R R R (Jn 1 R (Jd1 R R R R (Jn 1 R ?_))))
 cases h
 exact Jv1 _ tv ⟨R, _, (Jx2 _ _).wk R⟩ (KM R)
 refine JT fun h => Jf R (Jb2 U61 R Z24 R R) (Jl tv R R R R (Jc2 I24 R R (hvE ((f40.stp S46 R R).ld 2 R R))) (Jn 1 R (Ob h fun x25 hx25 h => Jh R R R C29 (s_l1Set_ok (κ := fun b => mp [] 0 (K45 b)) (Jl2 (g1_2.stp (S3.tr (S7.tr (S14.tr (S29.tr (S37.tr S46))))) R R) (mp [] 0) R R) hx25) ?_)))
 rintro _ w53 ⟨k54, rfl, e55⟩
 obtain ⟨K56, S57, m58⟩ := Ji e55 10 R
 refine ⟨tv, Jn 1 R ?_⟩
 cases h
 exact Jv1 _ tv ⟨R, _, S57.wk R⟩ (KM R)
 rintro _ w60 _ ⟨rfl, K61, S62⟩
 have h := hK49
 refine Jn 1 R (Ob h fun p37 h hK63 => Ju1 [(11, 2), (12, 1), (13, 1), (14, 2), (15, 2), (16, 1), (17, 2), (18, 2), (19, 2), (20, 2)] [(21, 2)] (fun L w' => L = [(37, .bool p37)] ∧ ∃ κ', Stp [] K61 w60 κ' w') tv ?_ ?_)
 revert h
 cases ht64 : p26
 refine JF fun h => Jn 1 R (Jd1 R R R R (Jd1 R R R R (Jn 2 R (Jd1 R R R R (Jn 4 R ?_)))))
 cases h
 exact Jv1 _ tv ⟨R, _, (Jx2 _ _).wk R⟩ (KM R)
 refine JT fun h => Jf R (Jb2 U61 R Z2 R R) ?_
 have f65 := f40.stp (S46.tr S62) R R
 refine Jl tv R R R R (Jc2 I2 R R (hvE (f65.ld 0 R R))) (Ob h fun x30 hx30 h => Jh R R R C74 (s_l24Both_ok (κ := fun b => mp [] 0 (K61 b)) hx30) ?_)
 rintro _ w66 ⟨k67, rfl, e68⟩
 obtain ⟨K69, S70, m71⟩ := Ji e68 10 R
 refine ⟨tv, Jn 1 R (Ob h fun p36 h hK73 => Ju1 [(15, 2), (16, 1), (17, 2), (18, 2), (19, 2)] [(20, 2)] (fun L w' => L = [(27, .bool true), (36, .bool p36)] ∧ ∃ κ', Stp [] K69 w66 κ' w') tv ?_ ?_)⟩
 revert h
 cases ht74 : x30
 refine JF fun h => Jf R (Jb2 U61 R Z24 R R) (Jl tv R R R R (Jc2 I24 R R (hvE ((f65.stp S70 R R).ld 2 R R))) (Jf R (Je2 U24 R R) (Jn 2 R ?_)))
 cases h
 exact Jv1 _ tv ⟨R, _, (Jx2 _ _).wk R⟩ (KM R)
 refine JT fun h => Jn 1 R (Jd1 R R R R (Jn 3 R ?_))
 cases h
 exact Jv1 _ tv ⟨R, _, (Jx2 _ _).wk R⟩ (KM R)
 rintro _ w76 _ ⟨rfl, K77, S78⟩
 have h := hK73
 refine Jn 1 R ?_
 cases h
 exact Jv1 _ tv ⟨R, _, (S70.tr S78).wk R⟩ (KM R)
 rintro _ w79 _ ⟨rfl, K80, S81⟩
 have h := hK63
 refine Jb 1 R (Ju (Ja2 (l := [.tmp 4]) V48 (Jp2 R R) R ?_))
 cases h
 exact ⟨K80, R, (hE.stp (S3.tr (S7.tr (S14.tr (S29.tr (S37.tr (S46.tr (S62.tr S81))))))) R R)⟩
 refine JT fun h => Jx R (Je [2] R (Jb 1 R (Ju (Jw (Ja2 (l := [.tmp 4]) V48 (Jp2 R R) R ?_)))))
 cases h
 exact ⟨K28, R, (hE.stp (S3.tr (S7.tr (S14.tr S29))) R R)⟩
theorem s_MonitorOf_ok {w : World} {κ : Col} {p0 : Sig} {aj ak am ao} {p1 : Clause} (g1_1 : Rd (Rp.int .i64) κ w 0 aj ak p1.A) (g1_2 : Rd (Rp.int .i64) κ w 0 am ao p1.B) {r : Det} (h : s_MonitorOf p0 p1 = some r) : Ret Try.prog 25 [.agg #[vi p0.In, vi p0.Out], .agg #[vi p1.Kind, .slice aj p1.A.length ak, .slice am p1.B.length ao]] w (fun v w' => ∃ (κ' : Col) (ra0 : Option Addr) (ru0 : Nat) (ra1 : Option Addr) (ru1 : Nat), v = .agg #[.slice ra0 r.Next.length ru0, .slice ra1 r.Pairs.length ru1] ∧ Ent κ w κ' w' ∧ Oc (Ep.own E6 2) 24 κ' w' 2 ra0 ru0 r.Next ∧ Oc Pair.ep42 42 κ' w' 3 ra1 ru1 r.Pairs) := by
 unfold s_MonitorOf at h
 refine Ret.enter F25 R N25 R ?_
 dsimp only [envOf]
 have hE := Ent.refl κ w
 refine Je [1, 1, 1] R (Jf1 (κ := κ) 2 R R R R R R R fun b2 w1 K2 S3 f4 => ⟨tv, Jf1 (κ := K2) 3 R R R R R R R fun b3 w5 K6 S7 f8 => ⟨tv, Jg1 (κ := K6) 4 R R R R R X58 R fun b4 w9 K10 S11 f12 => ⟨tv, Jd (Jq (Je [1, 1, 1, 2] R ?_))⟩⟩⟩)
 have f13 := f4.stp (S7.tr S11) R R
 refine Jl tv R R R R (Jd2 (cs := [vi p0.In, vi p0.Out]) I47 Z47 R R R (haE f13.cells)) ?_
 have f14 := f8.stp S11 R R
 refine Jl tv R R R R (Jd2 (cs := [vi p1.Kind, .slice aj p1.A.length ak, .slice am p1.B.length ao]) I61 Z61 R R R (haE f14.cells)) (Ob h fun x11 hx11 h => ?_)
 have f15 := g1_1.stp (S3.tr (S7.tr S11)) R R
 have f16 := g1_2.stp (S3.tr (S7.tr S11)) R R
 refine Jh R R R C48 (s_ClauseOk_ok (κ := fun b => mp [] 0 (K10 b)) (p0 := p0) (p1 := p1) (Jl2 f15 (mp [] 0) R R) (Jl2 f16 (mp [] 0) R R) hx11) ?_
 rintro _ w17 ⟨k18, rfl, e19⟩
 obtain ⟨K20, S21, m22⟩ := Ji e19 5 R
 refine ⟨tv, Jb 1 R ?_⟩
 revert h
 cases ht24 : (!x11)
 refine JF fun h => Jy R (Js (Jp (Je [2, 1, 1, 1, 2, 1, 1] R (Jf R (Jb2 U61 R Z2 R R) ?_))))
 have f30 := f14.stp S21 R R
 refine Jl tv R R R R (Jc2 I2 R R (hvE (f30.ld 0 R R))) (Ob h fun x16 hx16 h => Jh R R R C49 (s_l25Pair_ok (κ := fun b => mp [] 0 (K20 b)) hx16) ?_)
 rintro _ w31 ⟨k32, aw, ap, av, ar, rfl, e33, f34, f35⟩
 obtain ⟨K36, S37, m38⟩ := Ji e33 7 R
 refine ⟨tv, Jn1 (κ := K36) (E := Pair.ep42) 11 [9, 10] (parts := [(0, .tmp 16)]) (cells := [.slice aw x16.Ask.length ap, .slice av x16.Give.length ar]) (xs := ([x16] : List Pair)) R R R R R R Y29 Tryinfo42 R R R R R R R R R R ⟨[.slice aw x16.Ask.length ap, .slice av x16.Give.length ar], [], Zl K36 w31 [9, 10], Zl K36 w31 [], R, Zl.sp (l1 := [9, 10]) (l2 := []) R, Zl.sr (l1 := [9, 10]) (l2 := []), ⟨[.slice aw x16.Ask.length ap], [.slice av x16.Give.length ar], Zl K36 w31 [9], Zl K36 w31 [10], R, Zl.sp (l1 := [9]) (l2 := [10]) R, Zl.sr (l1 := [9]) (l2 := [10]), ⟨_, _, R, (f34.mx (no_int _) m38 R (R : 7 + 2 = 9))⟩, ⟨_, _, R, (f35.mx (no_int _) m38 R (R : 7 + 3 = 10))⟩⟩, R⟩ fun ab aa w42 K43 S44 f45 => ⟨tv, Jf R (rn_build (parts := [(1, .tmp 17)]) (cells := [.slice none 0 0, .slice ab ([x16] : List Pair).length aa]) R R (by kernel_rfl)) (Jg1 (κ := K43) 12 R R R R R X58 R fun b5 w46 K47 S48 f49 => ⟨tv, Jj1 (κ := K47) 12 (vc := [.slice none 0 0, .slice ab ([x16] : List Pair).length aa]) R R R R R R R Z58 R R f49 R fun w50 S51 f52 => ⟨tv, Jd (Jq (Je [2] R (Jb 1 R (Ob h fun q2 hq55 hK54 => ?_))))⟩⟩)⟩⟩
 clear h
 refine Jx1 (fun L w' => ∃ κ', ∃ s3 : Int × (List (List Int)), ∃ ac ad, L = [(4, .pointer (some ⟨b4, 0, none⟩)), (5, .pointer (some ⟨b5, 0, none⟩))] ∧ Stp [12, 13, 16, 17] K47 w50 κ' w' ∧ Oc (Ep.own E6 2) 24 κ' w' 13 ac ad s3.2 ∧ Bc κ' w' 12 b5 58 [.slice ac s3.2.length ad, .slice ab ([x16] : List Pair).length aa] ∧ q2 = Sum.inr s3) ?_ ?_
 refine Jv (Jy1 (fun k L w' => ∃ κ', ∃ s1 : Int × (List (List Int)), ∃ al ai, L = [(2, .pointer (some ⟨b2, 0, none⟩)), (3, .pointer (some ⟨b3, 0, none⟩)), (4, .pointer (some ⟨b4, 0, none⟩)), (5, .pointer (some ⟨b5, 0, none⟩)), (6, vi s1.1)] ∧ Stp [12, 13, 16, 17] K47 w50 κ' w' ∧ Oc (Ep.own E6 2) 24 κ' w' 13 al ai s1.2 ∧ Bc κ' w' 12 b5 58 [.slice al s1.2.length ai, .slice ab ([x16] : List Pair).length aa] ∧ whileM (s_MonitorOf_b0 p0 p1) k s1 = some q2) ⟨_, _, ⟨K47, ((0 : Int), (([] : List (List Int)) : (List (List Int)))), none, 0, R, (Jx2 _ _).wk R, Ow.nil, f52, hq55⟩, (KM R)⟩ ?_)
 rintro k _ w61 ⟨K62, s1, al, ai, rfl, S63, f64, f65, h⟩
 rcases k with _ | k
 cases h
 obtain ⟨o53, h, hk66⟩ := BI h; unfold s_MonitorOf_b0 at h
 refine Jq (Je [2, 2, 1, 1, 2] R (Jn 1 R (Jf R (Jb2 U61 R Z2 R R) ?_)))
 have f67 := f30.stp (S37.tr (S44.tr (S48.tr (S51.tr S63)))) R R
 refine Jl tv R R R R (Jc2 I2 R R (hvE (f67.ld 0 R R))) (Ob h fun x22 hx22 h => Jh R R R C50 (s_l25States_ok (κ := fun b => mp [] 0 (K62 b)) hx22) ?_)
 rintro _ w68 ⟨k69, rfl, e70⟩
 obtain ⟨K71, S72, m73⟩ := Ji e70 14 R
 refine ⟨tv, Jb 1 R ?_⟩
 revert h
 cases ht75 : decide (s1.1 < x22)
 refine JF fun h => Jy R (Jc1 (Jt (Jt ?_)))
 cases h
 have h := hk66
 refine Jb1 ?_
 cases h
 exact Jw1 _ ⟨K71, ((s1.1 : Int), (s1.2 : (List (List Int)))), al, ai, R, (S63.tr S72).wk R, (f64.stp S72 R R), (f65.stp S72 R R), R⟩ (KM R)
 refine JT fun h => Jx R (Js (Jp (Jq (Jv (Je [1, 2] R (Jo1 (κ := K71) (E := E6) 16 R R R R R Y24 Tryinfo2 R fun aA az w76 K77 S78 f79 => ⟨tv, Jb 1 R (Jq (Je [2] R (Jb 1 R (Ob h fun q5 hq82 hK81 => ?_))))⟩))))))
 clear h
 refine Jx1 (fun L w' => ∃ κ', ∃ s6 : (List Int) × Int, ∃ af ae, L = [(2, .pointer (some ⟨b2, 0, none⟩)), (3, .pointer (some ⟨b3, 0, none⟩)), (4, .pointer (some ⟨b4, 0, none⟩)), (5, .pointer (some ⟨b5, 0, none⟩)), (6, vi s1.1), (7, .slice af s6.1.length ae)] ∧ Stp [16] K77 w76 κ' w' ∧ Oc E6 2 κ' w' 16 af ae s6.1 ∧ q5 = Sum.inr s6) ?_ ?_
 refine Jv (Jy1 (fun k L w' => ∃ κ', ∃ s4 : (List Int) × Int, ∃ an ah, L = [(2, .pointer (some ⟨b2, 0, none⟩)), (3, .pointer (some ⟨b3, 0, none⟩)), (4, .pointer (some ⟨b4, 0, none⟩)), (5, .pointer (some ⟨b5, 0, none⟩)), (6, vi s1.1), (7, .slice an s4.1.length ah), (8, vi s4.2)] ∧ Stp [16] K77 w76 κ' w' ∧ Oc E6 2 κ' w' 16 an ah s4.1 ∧ whileM (s_MonitorOf_b2 p0 p1 s1) k s4 = some q5) ⟨_, _, ⟨K77, ((([] : List Int) : (List Int)), (0 : Int)), aA, az, R, (Jx2 _ _).wk R, f79, hq82⟩, (KM R)⟩ ?_)
 rintro k _ w87 ⟨K88, s4, an, ah, rfl, S89, f90, h⟩
 rcases k with _ | k
 cases h
 obtain ⟨o80, h, hk91⟩ := BI h; unfold s_MonitorOf_b2 at h
 refine Jq (Je [2, 1, 1, 2] R (Jn 1 R (Jl tv R R R R (Jd2 (cs := [vi p0.In, vi p0.Out]) I47 Z47 R R R (haE (f13.stp (S21.tr (S37.tr (S44.tr (S48.tr (S51.tr (S63.tr (S72.tr (S78.tr S89)))))))) R R).cells)) (Ob h fun x29 hx29 h => Jh R R R C51 (s_LettersOf_ok (κ := fun b => mp [] 0 (K88 b)) (p0 := p0) hx29) ?_))))
 rintro _ w93 ⟨k94, rfl, e95⟩
 obtain ⟨K96, S97, m98⟩ := Ji e95 17 R
 refine ⟨tv, Jb 1 R ?_⟩
 revert h
 cases ht100 : decide (s4.2 < x29)
 refine JF fun h => Jy R (Jc1 (Jt (Jt ?_)))
 cases h
 have h := hk91
 refine Jb1 ?_
 cases h
 exact Jw1 _ ⟨K96, ((s4.1 : (List Int)), (s4.2 : Int)), an, ah, R, (S89.tr S97).wk R, (f90.stp S97 R R), R⟩ (KM R)
 have S001 := (S21.tr (S37.tr (S44.tr (S48.tr (S51.tr (S63.tr (S72.tr (S78.tr (S89.tr S97)))))))))
 refine JT fun h => Jx R (Js (Jp (Jq (Jv (Ja [2, 1, 2, 2, 1, 1, 1, 2] R (Jn 1 R (Jl tv R R R R (Jd2 (cs := [vi p1.Kind, .slice aj p1.A.length ak, .slice am p1.B.length ao]) I61 Z61 R R R (haE (f67.stp (S72.tr (S78.tr (S89.tr S97))) R R).cells)) (Jn 2 R (Ob h fun x37 hx37 h => Jh R R R C52 (s_l25Next_ok (κ := fun b => mp [] 0 (K96 b)) (p0 := p1) (Jl2 (f15.stp S001 R R) (mp [] 0) R R) (Jl2 (f16.stp S001 R R) (mp [] 0) R R) hx37) ?_)))))))))
 rintro _ w104 ⟨k105, rfl, e106⟩
 obtain ⟨K107, S108, m109⟩ := Ji e106 19 R
 refine ⟨tv, Jn1 (κ := K107) (E := E6) 21 [] (parts := [(0, .tmp 37)]) (cells := [vi x37]) (xs := ([x37] : List Int)) R R R R R R Y24 Tryinfo2 R R R R R R R R R R ⟨[vi x37], [], Zl K107 w104 [], Zl K107 w104 [], R, Zl.sp (l1 := []) (l2 := []) R, Zl.sr (l1 := []) (l2 := []), R, R⟩ fun aC aB w111 K112 S113 f114 => ⟨tv, Ob h fun x39 hx39 h => Jm1 (κ := K112) (E := E6) 16 [] R R R R R R R R R Y24 Tryinfo2 R R R R (f90.stp (S97.tr (S108.tr S113)) R R) (Sl.srcP (pu_int _) f114.rdc) sy_false hx39 R fun ay ax w116 K117 S118 f119 => ⟨tv, Jc 1 R (Jz (Jp (Ja [2, 2, 2] R (Jc 3 R ?_))))⟩⟩⟩
 cases h
 exact Jz1 fun a ha => ⟨k, _, Ja3 _, ⟨K117, ((x39 : (List Int)), ((IntKind.i64.wrap (s4.2 + 1)) : Int)), ay, ax, R, (S89.tr (S97.tr (S108.tr (S113.tr S118)))).wk R, f119, hk91⟩, (ha.mm R)⟩
 rintro _ w83 ⟨K84, s6, af, ae, rfl, S85, f86, rfl⟩
 have h := hK81
 dsimp only [aft] at h
 refine Jp (Ja [2, 1, 2, 1, 1, 2, 1] R (Jf R (Jb2 U58 R Z22 R R) ?_))
 have f121 := f65.stp (S72.tr (S78.tr S85)) R R
 refine Jl tv R R R R (Jc2 I22 R R (hvE (f121.ld 0 R R))) (Jn 1 R (Jn1 (κ := K84) (E := (Ep.own E6 2)) 17 [16] (parts := [(0, .tmp 42)]) (cells := [.slice af s6.1.length ae]) (xs := ([s6.1] : List (List Int))) R R R R R R Y22 Tryinfo24 R R R R R R R R R R ⟨[.slice af s6.1.length ae], [], Zl K84 w83 [16], Zl K84 w83 [], R, Zl.sp (l1 := [16]) (l2 := []) R, Zl.sr (l1 := [16]) (l2 := []), ⟨_, _, R, f86⟩, R⟩ fun aE aD w122 K123 S124 f125 => ⟨tv, Ob h fun x44 hx44 h => Jm1 (κ := K123) (E := (Ep.own E6 2)) 13 [17] R R R R R R R R R Y22 Tryinfo24 R R R R (f64.stp (S72.tr (S78.tr (S85.tr S124))) R R) f125.src (sy_one R) hx44 R fun au aq w127 K128 S129 f130 => ⟨tv, Jf R (Jb2 U58 R Z22 R R) (Ji1 (κ := K128) 12 (off := 0) (vc := [.slice au x44.length aq]) (cs' := [.slice au x44.length aq, .slice ab ([x16] : List Pair).length aa]) R R R R R R R Z22 R R (f121.stp (S124.tr S129) R R) R R fun w132 S133 f134 => ⟨tv, Jo (Jz (Jp (Ja [2, 2, 2] R (Jc 3 R ?_))))⟩)⟩⟩))
 cases h
 exact Jz1 fun a ha => ⟨k, _, Ja3 _, ⟨K128, (((IntKind.i64.wrap (s1.1 + 1)) : Int), (x44 : (List (List Int)))), au, aq, R, (S63.tr (S72.tr (S78.tr (S85.tr (S124.tr (S129.tr S133)))))).wk R, (f130.stp S133 R R), f134, hk66⟩, (ha.mm R)⟩
 rintro _ w56 ⟨K57, s3, ac, ad, rfl, S58, f59, f60, rfl⟩
 have h := hK54
 dsimp only [aft] at h
 refine Jp (Je [1, 1] R (Jl tv R R R R (Jd2 (cs := [.slice ac s3.2.length ad, .slice ab ([x16] : List Pair).length aa]) I58 Z58 R R R (haE f60.cells)) (Jj1 (κ := K57) 4 (vc := [.slice ac s3.2.length ad, .slice ab ([x16] : List Pair).length aa]) R R R R R R R Z58 R R (f12.stp (S21.tr (S37.tr (S44.tr (S48.tr (S51.tr S58))))) R R) R fun w139 S140 f141 => ⟨tv, Jd (Ju (Ja2 (l := [.cell 4 58]) V25 (res_cellA R f141 I58 Z58 R R) R ?_))⟩)))
 cases h
 exact ⟨(fun b => ren [(13, 2), (11, 3)] (K57 b)), ac, ad, ab, aa, R, ((hE.stp (S3.tr (S7.tr (S11.tr (S21.tr (S37.tr (S44.tr (S48.tr (S51.tr (S58.tr S140))))))))) R R).map (ren [(13, 2), (11, 3)]) R R), ((f59.stp S140 R R).map (ren [(13, 2), (11, 3)]) R R), ((f45.stp (S48.tr (S51.tr (S58.tr S140))) R R).map (ren [(13, 2), (11, 3)]) R R)⟩
 refine JT fun h => Jx R (Je [2, 1] R (Jf R (rn_build (parts := []) (cells := [.slice none 0 0, .slice none 0 0]) R R (by kernel_rfl)) (Jj1 (κ := K20) 4 (vc := [.slice none 0 0, .slice none 0 0]) R R R R R R R Z58 R R (f12.stp S21 R R) R fun w26 S27 f28 => ⟨tv, Jd (Ju (Jw (Ja2 (l := [.cell 4 58]) V25 (res_cellA R f28 I58 Z58 R R) R ?_)))⟩)))
 cases h
 exact ⟨K20, none, 0, none, 0, R, (hE.stp (S3.tr (S7.tr (S11.tr (S21.tr S27)))) R R), Ow.nil, Ow.nil⟩
theorem i_isDet_ok {w : World} {κ : Col} {p0 : Sig} {aa ab ac ad} {p1 : Det} (g1_0 : Rd (Rp.sl (Rp.int .i64)) κ w 0 aa ab p1.Next) (g1_1 : Rd Pair.rp κ w 0 ac ad p1.Pairs) {r : Bool} (h : i_isDet p0 p1 = some r) : Ret Try.prog 46 [.agg #[vi p0.In, vi p0.Out], .agg #[.slice aa p1.Next.length ab, .slice ac p1.Pairs.length ad]] w (fun v w' => ∃ (κ' : Col), v = .bool r ∧ Ent κ w κ' w') := by
 unfold i_isDet at h
 refine Ret.enter F46 R N46 R ?_
 dsimp only [envOf]
 have hE := Ent.refl κ w
 refine Je [1, 1, 2] R (Jf1 (κ := κ) 2 R R R R R R R fun b2 w1 K2 S3 f4 => ⟨tv, Jf1 (κ := K2) 3 R R R R R R R fun b3 w5 K6 S7 f8 => ⟨tv, Jb 1 R (Je [2, 1, 2, 2] R (Jf R (Jb2 U58 R Z22 R R) (Jl tv R R R R (Jc2 I22 R R (hvE (f8.ld 0 R R))) (Jf R (Je2 U22 R R) (Jb 1 R (Jq (Je [2, 2, 2, 2, 2, 2, 2, 2, 1, 2, 1, 2, 2] R (Jn 3 R (Ob h fun p16 h hK9 => Ju1 [(3, 2), (4, 2), (5, 2)] [(6, 2), (7, 2), (8, 1), (9, 2), (10, 1), (11, 2), (12, 2)] (fun L w' => L = [(2, .pointer (some ⟨b2, 0, none⟩)), (3, .pointer (some ⟨b3, 0, none⟩)), (5, vi (p1.Next.length : Int)), (16, .bool p16)] ∧ ∃ κ', Stp [] K6 w5 κ' w') tv ?_ ?_)))))))))⟩⟩)
 revert h
 cases ht10 : decide ((p1.Next.length : Int) < 1)
 refine JF fun h => Jn 3 R ?_
 cases h
 exact Jv1 _ tv ⟨R, _, (Jx2 _ _).wk R⟩ (KM R)
 refine JT fun h => Jn 3 R ?_
 cases h
 exact Jv1 _ tv ⟨R, _, (Jx2 _ _).wk R⟩ (KM R)
 rintro _ w11 _ ⟨rfl, K12, S13⟩
 have h := hK9
 refine Jn 1 R (Ob h fun p23 h hK14 => Ju1 [(7, 2), (8, 1), (9, 2), (10, 1), (11, 2), (12, 2)] [] (fun L w' => L = [(2, .pointer (some ⟨b2, 0, none⟩)), (3, .pointer (some ⟨b3, 0, none⟩)), (5, vi (p1.Next.length : Int)), (23, .bool p23)] ∧ ∃ κ', Stp [] K12 w11 κ' w') tv ?_ ?_)
 revert h
 cases ht15 : p16
 refine JF fun h => Jf R (Jb2 U58 R Z29 R R) (Jl tv R R R R (Jc2 I29 R R (hvE ((f8.stp S13 R R).ld 1 R R))) (Jn 1 R (Ob h fun x21 hx21 h => Jh R R R C32 (i_arePairs_ok (κ := fun b => mp [] 0 (K12 b)) (Jl2 (g1_1.stp (S3.tr (S7.tr S13)) R R) (mp [] 0) R R) hx21) ?_)))
 rintro _ w18 ⟨k19, rfl, e20⟩
 obtain ⟨K21, S22, m23⟩ := Ji e20 4 R
 refine ⟨tv, Jn 2 R ?_⟩
 cases h
 exact Jv1 _ tv ⟨R, _, S22.wk R⟩ (KM R)
 refine JT fun h => Jn 1 R (Jd1 R R R R (Jn 1 R (Jd1 R R R R (Jn 2 R ?_))))
 cases h
 exact Jv1 _ tv ⟨R, _, (Jx2 _ _).wk R⟩ (KM R)
 rintro _ w25 _ ⟨rfl, K26, S27⟩
 have h := hK14
 refine Jd ?_
 revert h
 cases ht28 : p23
 refine JF fun h => Jy R (Js (Jp (Jq (Je [2, 1, 2, 2] R (Jf R (Jb2 U58 R Z22 R R) (Jl tv R R R R (Jc2 I22 R R (hvE ((f8.stp (S13.tr S27) R R).ld 0 R R))) (Jf R (Je2 U22 R R) (Jb 1 R ?_))))))))
 have hN31 : (p1.Next.length : Int) ≤ 9223372036854775807 := g1_0.len_le
 refine Ob h fun q2 hq33 hK32 => ?_
 clear h
 refine Jx1 (fun L w' => ∃ κ', L = [] ∧ Stp [] K26 w25 κ' w' ∧ q2 = Sum.inr ()) ?_ ?_
 refine Jv (Jy1 (fun k L w' => ∃ κ' v27, L = [(2, .pointer (some ⟨b2, 0, none⟩)), (5, vi (p1.Next.length : Int)), (25, .slice aa p1.Next.length ab), (26, vi (p1.Next.length : Int)), (27, vi v27)] ∧ Stp [] K26 w25 κ' w' ∧ 0 ≤ v27 ∧ Int.toNat ((p1.Next.length : Int) - v27) = k ∧ cntM (i_isDet_b0 p0 p1) k v27 () = some q2) ⟨_, _, ⟨K26, 0, R, (Jx2 _ _).wk R, (by decide), (by simp), hq33⟩, (KM R)⟩ ?_)
 rintro k _ w37 ⟨K38, v27, rfl, S39, hj31, hJ31, h⟩
 rcases k with _ | k
 have hk40 := h; obtain ⟨o31, h⟩ := ex_eq (Sum.inr (Sum.inl ()) : Bool ⊕ ((Unit) ⊕ (Unit)))
 have hc31 : decide (v27 < (p1.Next.length : Int)) = false := Jo2 (by omega)
 refine Je [2] R (Jb 1 R (Jq (Jw2 R hc31 (Jc1 (Jt (Jt ?_))))))
 cases h
 have h := hk40
 refine Jb1 ?_
 cases h
 exact Jw1 _ ⟨K38, R, S39.wk R, R⟩ KN
 obtain ⟨o31, h, hk40⟩ := BI h; unfold i_isDet_b0 at h
 have hc31 : decide (v27 < (p1.Next.length : Int)) = true := Jn2 (by omega)
 refine Je [2] R (Jb 1 R (Jq (Jv2 R hc31 (Js (Jp (Jq (Jv (Je [2, 1, 2] R (Ob h fun x29 hx29 h => Jf R (Jf2 g1_0 hx29 U22 Z24 R R R R) ?_)))))))))
 obtain ⟨ax29, ux29, f42, hl43⟩ := (g1_0.stp (S3.tr (S7.tr (S13.tr (S27.tr S39)))) R R).gSl hx29
 refine Jl tv R R R R (Jc2 I24 R R (hvE hl43)) (Jb 1 R (Je [2, 2, 1, 1, 2, 2, 2, 2, 1, 2, 2] R (Jn 1 R (Jf R (Je2 U24 R R) (Jl tv R R R R (Jd2 (cs := [vi p0.In, vi p0.Out]) I47 Z47 R R R (haE (f4.stp (S7.tr (S13.tr (S27.tr S39))) R R).cells)) (Ob h fun x34 hx34 h => Jh R R R C71 (i_lettersOf_ok (κ := fun b => mp [] 0 (K38 b)) (p0 := p0) hx34) ?_))))))
 rintro _ w45 ⟨k46, rfl, e47⟩
 obtain ⟨K48, S49, m50⟩ := Ji e47 4 R
 refine ⟨tv, Jn 2 R (Ob h fun p41 h hK52 => Ju1 [(6, 2), (7, 2), (8, 1), (9, 2), (10, 2)] [] (fun L w' => L = [(2, .pointer (some ⟨b2, 0, none⟩)), (5, vi (p1.Next.length : Int)), (25, .slice aa p1.Next.length ab), (26, vi (p1.Next.length : Int)), (27, vi v27), (41, .bool p41)] ∧ ∃ κ', Stp [] K48 w45 κ' w') tv ?_ ?_)⟩
 revert h
 cases ht53 : ((x29.length : Int) != x34)
 refine JF fun h => Jn 2 R (Ob h fun x39 hx39 h => Jh R R R C70 (i_areLetters_ok (κ := fun b => mp [] 0 (K48 b)) (Jl2 (f42.stp S49 R R) (mp [] 0) R R) hx39) ?_)
 rintro _ w55 ⟨k56, rfl, e57⟩
 obtain ⟨K58, S59, m60⟩ := Ji e57 6 R
 refine ⟨tv, Jn 2 R ?_⟩
 cases h
 exact Jv1 _ tv ⟨R, _, S59.wk R⟩ (KM R)
 refine JT fun h => Jn 2 R (Jd1 R R R R (Jn 2 R ?_))
 cases h
 exact Jv1 _ tv ⟨R, _, (Jx2 _ _).wk R⟩ (KM R)
 rintro _ w62 _ ⟨rfl, K63, S64⟩
 have h := hK52
 refine Jd ?_
 revert h
 cases ht65 : p41
 refine JF fun h => Jy R (Js (Jz (Jp (Ja [2, 2] R (Jc 2 R ?_)))))
 have hw31 : IntKind.wrap .i64 (v27 + 1) = v27 + 1 := wr1 hj31 (Jm2 hc31) hN31
 rw [hw31]
 have hc31 := Jm2 hc31
 cases h
 exact Jz1 fun a ha => ⟨k, _, Ja3 _, ⟨K63, v27 + 1, R, (S39.tr (S49.tr S64)).wk R, by omega, by omega, hk40⟩, (ha.mm R)⟩
 refine JT fun h => Jx R (Je [2] R (Jb 1 R (Ju (Ja1 (Jw (Jw ?_))))))
 cases h
 obtain rfl := Option.some.inj hk40
 have h := hK32
 dsimp only [aft] at h
 refine Ja1 (Jq2 (Jw (Ja2 (l := [.tmp 4]) V46 (Jp2 R R) R ?_)))
 cases h
 exact ⟨K63, R, (hE.stp (S3.tr (S7.tr (S13.tr (S27.tr (S39.tr (S49.tr S64)))))) R R)⟩
 rintro _ w34 ⟨K35, rfl, S36, rfl⟩
 have h := hK32
 dsimp only [aft] at h
 refine Jp (Je [2] R (Jb 1 R (Ju (Ja2 (l := [.tmp 4]) V46 (Jp2 R R) R ?_))))
 cases h
 exact ⟨K35, R, (hE.stp (S3.tr (S7.tr (S13.tr (S27.tr S36)))) R R)⟩
 refine JT fun h => Jx R (Je [2] R (Jb 1 R (Ju (Jw (Ja2 (l := [.tmp 4]) V46 (Jp2 R R) R ?_)))))
 cases h
 exact ⟨K26, R, (hE.stp (S3.tr (S7.tr (S13.tr S27))) R R)⟩
theorem i_WatchOf_ok {w : World} {κ : Col} {p0 : Sig} {ah ad ae ab} {p1 : Machine} {aa ai ac af} {p2 : Det} (g1_0 : Rd (Rp.sl (Rp.int .i64)) κ w 0 ah ad p1.Next) (g1_1 : Rd (Rp.sl (Rp.int .i64)) κ w 0 ae ab p1.Out) (g2_0 : Rd (Rp.sl (Rp.int .i64)) κ w 0 aa ai p2.Next) (g2_1 : Rd Pair.rp κ w 0 ac af p2.Pairs) {r : (List (List Int)) × (List Pair) × Bool} (h : i_WatchOf p0 p1 p2 = some r) : Ret Try.prog 24 [.agg #[vi p0.In, vi p0.Out], .agg #[.slice ah p1.Next.length ad, .slice ae p1.Out.length ab], .agg #[.slice aa p2.Next.length ai, .slice ac p2.Pairs.length af]] w (fun v w' => ∃ (κ' : Col) (ra0 : Option Addr) (ru0 : Nat) (ra1 : Option Addr) (ru1 : Nat), v = .tuple #[.slice ra0 r.1.length ru0, .slice ra1 r.2.1.length ru1, .bool r.2.2] ∧ Ent κ w κ' w' ∧ Oc (Ep.own E6 2) 24 κ' w' 2 ra0 ru0 r.1 ∧ Oc Pair.ep42 42 κ' w' 3 ra1 ru1 r.2.1) := by
 unfold i_WatchOf at h
 refine Ret.enter F24 R N24 R ?_
 dsimp only [envOf]
 have hE := Ent.refl κ w
 refine Je [1, 1, 1, 2, 2, 2] R (Jf1 (κ := κ) 2 R R R R R R R fun b3 w1 K2 S3 f4 => ⟨tv, Jf1 (κ := K2) 3 R R R R R R R fun b4 w5 K6 S7 f8 => ⟨tv, Jf1 (κ := K6) 4 R R R R R R R fun b5 w9 K10 S11 f12 => ⟨tv, Jb 3 R (Jq (Je [1, 1, 2, 2, 1, 1, 1, 2, 2, 2, 1, 1, 1, 2, 2] R ?_))⟩⟩⟩)
 have f13 := f4.stp (S7.tr S11) R R
 refine Jl tv R R R R (Jd2 (cs := [vi p0.In, vi p0.Out]) I47 Z47 R R R (haE f13.cells)) (Ob h fun x12 hx12 h => Jh R R R C44 (i_isSig_ok (κ := fun b => mp [] 0 (K10 b)) (p0 := p0) hx12) ?_)
 rintro _ w14 ⟨k15, rfl, e16⟩
 obtain ⟨K17, S18, m19⟩ := Ji e16 5 R
 refine ⟨tv, Jn 2 R (Ob h fun p19 h hK21 => Ju1 [(4, 1), (5, 1), (6, 1), (7, 2), (8, 2)] [(9, 2), (10, 1), (11, 1), (12, 1), (13, 2), (14, 2)] (fun L w' => L = [(3, .pointer (some ⟨b3, 0, none⟩)), (4, .pointer (some ⟨b4, 0, none⟩)), (5, .pointer (some ⟨b5, 0, none⟩)), (19, .bool p19)] ∧ ∃ κ', Stp [] K17 w14 κ' w') tv ?_ ?_)⟩
 revert h
 cases ht22 : (!x12)
 have S001 := (S3.tr (S7.tr (S11.tr S18)))
 refine JF fun h => Jl tv R R R R (Jd2 (cs := [vi p0.In, vi p0.Out]) I47 Z47 R R R (haE (f13.stp S18 R R).cells)) (Jl tv R R R R (Jd2 (cs := [.slice ah p1.Next.length ad, .slice ae p1.Out.length ab]) I49 Z49 R R R (haE (f8.stp (S11.tr S18) R R).cells)) (Ob h fun x17 hx17 h => Jh R R R C45 (i_isMachine_ok (κ := fun b => mp [] 0 (K17 b)) (p0 := p0) (p1 := p1) (Jl2 (g1_0.stp S001 R R) (mp [] 0) R R) (Jl2 (g1_1.stp S001 R R) (mp [] 0) R R) hx17) ?_))
 rintro _ w27 ⟨k28, rfl, e29⟩
 obtain ⟨K30, S31, m32⟩ := Ji e29 7 R
 refine ⟨tv, Jn 2 R ?_⟩
 cases h
 exact Jv1 _ tv ⟨R, _, S31.wk R⟩ (KM R)
 refine JT fun h => Jd1 R R R R (Jd1 R R R R (Jd1 R R R R (Jn 2 R ?_)))
 cases h
 exact Jv1 _ tv ⟨R, _, (Jx2 _ _).wk R⟩ (KM R)
 rintro _ w34 _ ⟨rfl, K35, S36⟩
 have h := hK21
 refine Jn 1 R (Ob h fun p25 h hK37 => Ju1 [(10, 1), (11, 1), (12, 1), (13, 2), (14, 2)] [] (fun L w' => L = [(3, .pointer (some ⟨b3, 0, none⟩)), (4, .pointer (some ⟨b4, 0, none⟩)), (5, .pointer (some ⟨b5, 0, none⟩)), (25, .bool p25)] ∧ ∃ κ', Stp [] K35 w34 κ' w') tv ?_ ?_)
 revert h
 cases ht38 : p19
 have S002 := (S3.tr (S7.tr (S11.tr (S18.tr S36))))
 refine JF fun h => Jl tv R R R R (Jd2 (cs := [vi p0.In, vi p0.Out]) I47 Z47 R R R (haE (f13.stp (S18.tr S36) R R).cells)) (Jl tv R R R R (Jd2 (cs := [.slice aa p2.Next.length ai, .slice ac p2.Pairs.length af]) I58 Z58 R R R (haE (f12.stp (S18.tr S36) R R).cells)) (Ob h fun x23 hx23 h => Jh R R R C46 (i_isDet_ok (κ := fun b => mp [] 0 (K35 b)) (p0 := p0) (p1 := p2) (Jl2 (g2_0.stp S002 R R) (mp [] 0) R R) (Jl2 (g2_1.stp S002 R R) (mp [] 0) R R) hx23) ?_))
 rintro _ w43 ⟨k44, rfl, e45⟩
 obtain ⟨K46, S47, m48⟩ := Ji e45 7 R
 refine ⟨tv, Jn 2 R ?_⟩
 cases h
 exact Jv1 _ tv ⟨R, _, S47.wk R⟩ (KM R)
 refine JT fun h => Jd1 R R R R (Jd1 R R R R (Jd1 R R R R (Jn 2 R ?_)))
 cases h
 exact Jv1 _ tv ⟨R, _, (Jx2 _ _).wk R⟩ (KM R)
 rintro _ w50 _ ⟨rfl, K51, S52⟩
 have h := hK37
 refine Jd ?_
 revert h
 cases ht53 : p25
 have S003 := (S3.tr (S7.tr (S11.tr (S18.tr (S36.tr S52)))))
 refine JF fun h => Jy R (Js (Jp (Je [1, 1, 1, 1, 2, 2, 2, 2, 2] R (Jl tv R R R R (Jd2 (cs := [vi p0.In, vi p0.Out]) I47 Z47 R R R (haE (f13.stp (S18.tr (S36.tr S52)) R R).cells)) (Jl tv R R R R (Jd2 (cs := [.slice ah p1.Next.length ad, .slice ae p1.Out.length ab]) I49 Z49 R R R (haE (f8.stp (S11.tr (S18.tr (S36.tr S52))) R R).cells)) (Jl tv R R R R (Jd2 (cs := [.slice aa p2.Next.length ai, .slice ac p2.Pairs.length af]) I58 Z58 R R R (haE (f12.stp (S18.tr (S36.tr S52)) R R).cells)) (Ob h fun x30 hx30 h => Jh R R R C47 (i_watchOf_ok (κ := fun b => mp [] 0 (K51 b)) (p0 := p0) (p1 := p1) (p2 := p2) (Jl2 (g1_0.stp S003 R R) (mp [] 0) R R) (Jl2 (g1_1.stp S003 R R) (mp [] 0) R R) (Jl2 (g2_0.stp S003 R R) (mp [] 0) R R) (Jl2 (g2_1.stp S003 R R) (mp [] 0) R R) hx30) ?_)))))))
 rintro _ w62 ⟨k63, aj, al, ao, an, am, ak, b30, rfl, e64, f65, f66, f67, f68⟩
 obtain ⟨K69, S70, m71⟩ := Ji e64 7 R
 refine ⟨tv, Jb 5 R (Jq (Je [2, 2] R (Jb 2 R ?_)))⟩
 revert h
 cases ht77 : (!x30.2)
 refine JF fun h => Jy R (Js (Jp (Jq (Js1 (κ := K69) [12] none [(0, 2), (1, 2), (2, 2), (4, 2), (5, 2), (6, 2), (3, 0), (8, 2), (7, 0), (9, 2), (10, 2)] [] (by kernel_rfl) (by kernel_rfl) fun w80 S79 => Jn 1 R (Ob h fun _g178 hg178 h => ?_)))))
 have hs81 := guardS_ok hg178
 simp only [hs81, cond_true]
 refine Jf R (rn_nilCheck R R) (Jf R (Jb2 U89 R Z22 R R) (Jn 1 R (Jf R (rn_nilCheck R R) (Jf R (Jb2 U89 R Z29 R R) ?_))))
 have f83 := ((fun hs => (f68 hs).mx m71 R (R : 7 + 5 = 12)) hs81).stp S79 R R
 refine Jg R (Jc2 I22 R R (hvC (f83.ld 0 R R) R)) (Jn 1 R (Jg R (Jc2 I29 R R (hvC (f83.ld 2 R R) R)) (Jn 2 R (Jt1 (Jd (Ju (Ja2 (l := [.tmp 6, .tmp 7, .tmp 8]) V24 (Jp2 R (Jp2 R (Jp2 R R))) R ?_)))))))
 cases h
 exact ⟨(fun b => ren [(9, 2), (11, 3)] (K69 b)), aj, al, am, ak, R, ((hE.stp (S3.tr (S7.tr (S11.tr (S18.tr (S36.tr (S52.tr (S70.tr S79))))))) R R).map (ren [(9, 2), (11, 3)]) R R), (((f65.mx (no_own (no_int _) _) m71 R (R : 7 + 2 = 9)).stp S79 R R).map (ren [(9, 2), (11, 3)]) R R), (((f67.mx Pair.no42 m71 R (R : 7 + 4 = 11)).stp S79 R R).map (ren [(9, 2), (11, 3)]) R R)⟩
 refine JT fun h => Jx R (Je [2, 2, 2] R (Jb 3 R (Ju (Jw (Ja2 (l := [.tmp 6, .tmp 7, .tmp 8]) V24 (Jp2 R (Jp2 R (Jp2 R R))) R ?_)))))
 cases h
 exact ⟨K69, none, 0, none, 0, R, (hE.stp (S3.tr (S7.tr (S11.tr (S18.tr (S36.tr (S52.tr S70)))))) R R), Ow.nil, Ow.nil⟩
 refine JT fun h => Jx R (Je [2, 2, 2] R (Jb 3 R (Ju (Jw (Ja2 (l := [.tmp 6, .tmp 7, .tmp 8]) V24 (Jp2 R (Jp2 R (Jp2 R R))) R ?_)))))
 cases h
 exact ⟨K51, none, 0, none, 0, R, (hE.stp (S3.tr (S7.tr (S11.tr (S18.tr (S36.tr S52))))) R R), Ow.nil, Ow.nil⟩
end Go.Proofs.Ytcmamhmpoinmnaa
