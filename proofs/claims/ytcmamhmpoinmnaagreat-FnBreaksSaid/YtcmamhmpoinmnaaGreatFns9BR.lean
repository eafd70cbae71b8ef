/- The walks, part 9. By program. -/
import Derived.Test.YtcmamhmpoinmnaaGreatFns8BR
set_option linter.unusedVariables false
set_option linter.unusedSimpArgs false
namespace Go.Proofs.YtcmamhmpoinmnaaGreat
open Go Go.Wk Go.Proofs
set_option maxRecDepth 100000
set_option maxHeartbeats 1000000
theorem i_isMachine_ok {w : World} {κ : Col} {p0 : Sig} {aa ab ac ad} {p1 : Machine} (g1_0 : Rd (Rp.sl (Rp.int .i64)) κ w 0 aa ab p1.Next) (g1_1 : Rd (Rp.sl (Rp.int .i64)) κ w 0 ac ad p1.Out) {r : Bool} (h : i_isMachine p0 p1 = some r) : Ret Tryz.prog 106 [.agg #[vi p0.In, vi p0.Out], .agg #[.slice aa p1.Next.length ab, .slice ac p1.Out.length ad]] w (fun v w' => ∃ (κ' : Col), v = .bool r ∧ Ent κ w κ' w') := by
 unfold i_isMachine at h
 refine Ret.enter F106 R N106 R ?_
 dsimp only [envOf]
 have hE := Ent.refl κ w
 refine Je [1, 1, 2] R (Jf1 (κ := κ) 2 R R R R R R R fun b2 w1 K2 S3 f4 => ⟨tv, Jf1 (κ := K2) 3 R R R R R R R fun b3 w5 K6 S7 f8 => ⟨tv, Jb 1 R (Je [2, 1, 2, 2] R (Jf R (Jb2 U33 R Z24 R R) (Jl tv R R R R (Jc2 I24 R R (hvE (f8.ld 0 R R))) (Jf R (Je2 U24 R R) (Jb 1 R (Jq (Je [2, 2, 2, 2, 2, 2, 2, 2, 1, 2, 2, 1, 2, 2, 2] R (Jn 3 R (Ob h fun p16 h hK9 => Ju1 [(3, 2), (4, 2), (5, 2)] [(6, 2), (7, 2), (8, 1), (9, 2), (10, 2), (11, 1), (12, 2), (13, 2), (14, 2)] (fun L w' => L = [(2, .pointer (some ⟨b2, 0, none⟩)), (3, .pointer (some ⟨b3, 0, none⟩)), (5, vi (p1.Next.length : Int)), (16, .bool p16)] ∧ ∃ κ', Stp [] K6 w5 κ' w') tv ?_ ?_)))))))))⟩⟩)
 revert h
 cases ht10 : decide ((p1.Next.length : Int) < 1)
 refine JF fun h => Jn 3 R ?_
 cases h
 exact Jv1 _ tv ⟨R, _, (Jx2 _ _).wk R⟩ (KM R)
 refine JT fun h => Jn 3 R ?_
 cases h
 exact Jv1 _ tv ⟨R, _, (Jx2 _ _).wk R⟩ (KM R)
 rintro _ w11 _ ⟨rfl, K12, S13⟩
 have h := hK9
 refine Jn 1 R (Ob h fun p25 h hK14 => Ju1 [(7, 2), (8, 1), (9, 2), (10, 2), (11, 1), (12, 2), (13, 2), (14, 2)] [] (fun L w' => L = [(2, .pointer (some ⟨b2, 0, none⟩)), (3, .pointer (some ⟨b3, 0, none⟩)), (5, vi (p1.Next.length : Int)), (25, .bool p25)] ∧ ∃ κ', Stp [] K12 w11 κ' w') tv ?_ ?_)
 revert h
 cases ht15 : p16
 refine JF fun h => Jf R (Jb2 U33 R Z24 R R) ?_
 have f16 := f8.stp S13 R R
 refine Jl tv R R R R (Jc2 I24 R R (hvE (f16.ld 1 R R))) (Jf R (Je2 U24 R R) (Jf R (Jb2 U33 R Z24 R R) (Jl tv R R R R (Jc2 I24 R R (hvE (f16.ld 0 R R))) (Jf R (Je2 U24 R R) (Jn 2 R ?_)))))
 cases h
 exact Jv1 _ tv ⟨R, _, (Jx2 _ _).wk R⟩ (KM R)
 refine JT fun h => Jn 1 R (Jd1 R R R R (Jn 2 R (Jd1 R R R R (Jn 3 R ?_))))
 cases h
 exact Jv1 _ tv ⟨R, _, (Jx2 _ _).wk R⟩ (KM R)
 rintro _ w17 _ ⟨rfl, K18, S19⟩
 have h := hK14
 refine Jd ?_
 revert h
 cases ht20 : p25
 refine JF fun h => Jy R (Js (Jp (Jq (Je [2, 1, 2, 2] R (Jf R (Jb2 U33 R Z24 R R) ?_)))))
 have f22 := f8.stp (S13.tr S19) R R
 refine Jl tv R R R R (Jc2 I24 R R (hvE (f22.ld 0 R R))) (Jf R (Je2 U24 R R) (Jb 1 R ?_))
 have hN23 : (p1.Next.length : Int) ≤ 9223372036854775807 := g1_0.len_le
 refine Ob h fun q2 hq25 hK24 => ?_
 clear h
 refine Jx1 (fun L w' => ∃ κ', L = [] ∧ Stp [] K18 w17 κ' w' ∧ q2 = Sum.inr ()) ?_ ?_
 refine Jv (Jy1 (fun k L w' => ∃ κ' v29, L = [(2, .pointer (some ⟨b2, 0, none⟩)), (3, .pointer (some ⟨b3, 0, none⟩)), (5, vi (p1.Next.length : Int)), (27, .slice aa p1.Next.length ab), (28, vi (p1.Next.length : Int)), (29, vi v29)] ∧ Stp [] K18 w17 κ' w' ∧ 0 ≤ v29 ∧ Int.toNat ((p1.Next.length : Int) - v29) = k ∧ cntM (i_isMachine_b0 p0 p1) k v29 () = some q2) ⟨_, _, ⟨K18, 0, R, (Jx2 _ _).wk R, (by decide), (by simp), hq25⟩, (KM R)⟩ ?_)
 rintro k _ w29 ⟨K30, v29, rfl, S31, hj23, hJ23, h⟩
 rcases k with _ | k
 have hk32 := h; obtain ⟨o23, h⟩ := ex_eq (Sum.inr (Sum.inl ()) : Bool ⊕ ((Unit) ⊕ (Unit)))
 have hc23 : decide (v29 < (p1.Next.length : Int)) = false := Jo2 (by omega)
 refine Je [2] R (Jb 1 R (Jq (Jw2 R hc23 (Jc1 (Jt (Jt ?_))))))
 cases h
 have h := hk32
 refine Jb1 ?_
 cases h
 exact Jw1 _ ⟨K30, R, S31.wk R, R⟩ KN
 obtain ⟨o23, h, hk32⟩ := BI h; unfold i_isMachine_b0 at h
 have hc23 : decide (v29 < (p1.Next.length : Int)) = true := Jn2 (by omega)
 refine Je [2] R (Jb 1 R (Jq (Jv2 R hc23 (Js (Jp (Jq (Jv (Je [2, 2, 1, 2, 2] R (Jn 1 R (Ob h fun x32 hx32 h => Jf R (Jf2 g1_0 hx32 U24 Z40 R R R R) ?_))))))))))
 obtain ⟨ax32, ux32, f34, hl35⟩ := (g1_0.stp (S3.tr (S7.tr (S13.tr (S19.tr S31)))) R R).gSl hx32
 refine Jl tv R R R R (Jc2 I40 R R (hvE hl35)) (Jb 2 R (Jq (Js1 (κ := K30) [0, 2, 3] none [(0, 2), (1, 2), (2, 0), (3, 1), (4, 2), (5, 2), (6, 2), (8, 2), (12, 2), (13, 2), (7, 0), (9, 2), (10, 0), (11, 2), (14, 2), (15, 2), (16, 2), (17, 2), (18, 2), (19, 1), (20, 2), (21, 2), (22, 2), (23, 2), (25, 2), (28, 2), (24, 0), (26, 2), (27, 0), (29, 0), (30, 2), (31, 1), (32, 2), (33, 2)] [] (by kernel_rfl) (by kernel_rfl) fun w37 S36 => Jn 1 R (Jf R (Je2 U40 R R) ?_))))
 have f38 := f4.stp (S7.tr (S13.tr (S19.tr (S31.tr S36)))) R R
 refine Jg R (Jd2 (cs := [vi p0.In, vi p0.Out]) I31 Z31 R R R (haC f38.cells R)) (Ob h fun x37 hx37 h => Jh R R R C72 (i_inputsOf_ok (κ := fun b => mp [] 0 (K30 b)) (p0 := p0) hx37) ?_)
 rintro _ w39 ⟨k40, rfl, e41⟩
 obtain ⟨K42, S43, m44⟩ := Ji e41 4 R
 refine ⟨(S43.cl R), Jn 2 R (Ob h fun p49 h hK46 => Ju1 [(6, 2), (8, 2), (12, 2), (13, 2), (7, 0), (9, 2), (10, 0), (11, 2), (14, 2), (15, 2)] [(16, 2), (17, 2), (18, 2), (19, 1), (20, 2), (21, 2), (22, 2), (23, 2), (25, 2), (28, 2), (24, 0), (26, 2), (27, 0), (29, 0), (30, 2), (31, 1), (32, 2), (33, 2)] (fun L w' => L = [(2, .pointer (some ⟨b2, 0, none⟩)), (3, .pointer (some ⟨b3, 0, none⟩)), (5, vi (p1.Next.length : Int)), (6, vi v29), (7, .slice ax32 x32.length ux32), (27, .slice aa p1.Next.length ab), (28, vi (p1.Next.length : Int)), (29, vi v29), (49, .bool p49)] ∧ ∃ κ', Stp [] K42 w39 κ' w') (S43.cl R) ?_ ?_)⟩
 revert h
 cases ht47 : ((x32.length : Int) != x37)
 refine JF fun h => Jf R (Jb2 U33 R Z24 R R) (Jn 2 R (Jf R (Je2 U40 R R) (Jg R (Jc2 I24 R R (hvC ((f22.stp (S31.tr S36) R R).ld 1 R R) R)) (Ob h fun x43 hx43 h => Jf R (Jf2 g1_1 hx43 U24 Z40 R R R R) ?_))))
 obtain ⟨ax43, ux43, f50, hl51⟩ := (g1_1.stp (S3.tr (S7.tr (S13.tr (S19.tr (S31.tr S36))))) R R).gSl hx43
 refine Jg R (Jc2 I40 R R (hvC hl51 R)) (Jf R (Je2 U40 R R) (Jn 2 R ?_))
 cases h
 exact Jv1 _ (S43.cl R) ⟨R, _, (Jx2 _ _).wk R⟩ (KM R)
 refine JT fun h => Jn 4 R (Je1 R R R R (Jn 1 R (Je1 R R R R (Jn 3 R ?_))))
 cases h
 exact Jv1 _ (S43.cl R) ⟨R, _, (Jx2 _ _).wk R⟩ (KM R)
 rintro _ w52 _ ⟨rfl, K53, S54⟩
 have h := hK46
 refine Jn 1 R (Ob h fun p55 h hK55 => Ju1 [(17, 2), (18, 2), (19, 1), (20, 2), (21, 2)] [(22, 2), (23, 2), (25, 2), (28, 2), (24, 0), (26, 2), (27, 0), (29, 0), (30, 2), (31, 1), (32, 2), (33, 2)] (fun L w' => L = [(2, .pointer (some ⟨b2, 0, none⟩)), (3, .pointer (some ⟨b3, 0, none⟩)), (5, vi (p1.Next.length : Int)), (6, vi v29), (27, .slice aa p1.Next.length ab), (28, vi (p1.Next.length : Int)), (29, vi v29), (55, .bool p55)] ∧ ∃ κ', Stp [] K53 w52 κ' w') ((S43.tr S54).cl R) ?_ ?_)
 revert h
 cases ht56 : p49
 refine JF fun h => Jn 2 R (Ob h fun x53 hx53 h => Jh R R R C118 (i_areLetters_ok (κ := fun b => mp [] 0 (K53 b)) (Jl2 (f34.stp (S36.tr (S43.tr S54)) R R) (mp [] 0) R R) hx53) ?_)
 rintro _ w58 ⟨k59, rfl, e60⟩
 obtain ⟨K61, S62, m63⟩ := Ji e60 6 R
 refine ⟨((S43.tr (S54.tr S62)).cl R), Jn 2 R ?_⟩
 cases h
 exact Jv1 _ ((S43.tr (S54.tr S62)).cl R) ⟨R, _, S62.wk R⟩ (KM R)
 refine JT fun h => Jn 2 R (Jd1 R R R R (Jn 2 R ?_))
 cases h
 exact Jv1 _ ((S43.tr S54).cl R) ⟨R, _, (Jx2 _ _).wk R⟩ (KM R)
 rintro _ w65 _ ⟨rfl, K66, S67⟩
 have h := hK55
 refine Jn 1 R (Ob h fun p67 h hK68 => Ju1 [(23, 2), (25, 2), (28, 2), (24, 0), (26, 2), (27, 0), (29, 0), (30, 2), (31, 1), (32, 2), (33, 2)] [] (fun L w' => L = [(2, .pointer (some ⟨b2, 0, none⟩)), (3, .pointer (some ⟨b3, 0, none⟩)), (5, vi (p1.Next.length : Int)), (27, .slice aa p1.Next.length ab), (28, vi (p1.Next.length : Int)), (29, vi v29), (67, .bool p67)] ∧ ∃ κ', Stp [] K66 w65 κ' w') ((S43.tr (S54.tr S67)).cl R) ?_ ?_)
 revert h
 cases ht69 : p55
 refine JF fun h => Jf R (Jb2 U33 R Z24 R R) (Jn 1 R (Jf R (Jb2 U31 R Z2 R R) (Jg R (Jc2 I24 R R (hvC ((f22.stp (S31.tr S36) R R).ld 1 R R) R)) (Ob h fun x60 hx60 h => Jf R (Jf2 g1_1 hx60 U24 Z40 R R R R) ?_))))
 obtain ⟨ax60, ux60, f72, hl73⟩ := (g1_1.stp (S3.tr (S7.tr (S13.tr (S19.tr (S31.tr S36))))) R R).gSl hx60
 refine Jg R (Jc2 I40 R R (hvC hl73 R)) (Jg R (Jc2 I2 R R (hvC (f38.ld 1 R R) R)) (Ob h fun _z64 hz64 h => Jf R (rn_shl R R R (nn_ok hz64)) (Ob h fun x65 hx65 h => Jh R R R C118 (i_areLetters_ok (κ := fun b => mp [] 0 (K66 b)) (Jl2 (f72.stp (S43.tr (S54.tr S67)) R R) (mp [] 0) R R) hx65) ?_)))
 rintro _ w75 ⟨k76, rfl, e77⟩
 obtain ⟨K78, S79, m80⟩ := Ji e77 6 R
 refine ⟨((S43.tr (S54.tr (S67.tr S79))).cl R), Jn 2 R ?_⟩
 cases h
 exact Jv1 _ ((S43.tr (S54.tr (S67.tr S79))).cl R) ⟨R, _, S79.wk R⟩ (KM R)
 refine JT fun h => Jn 3 R (Je1 R R R R (Jn 1 R (Je1 R R R R (Je1 R R R R (Jn 1 R (Jd1 R R R R (Jn 2 R ?_)))))))
 cases h
 exact Jv1 _ ((S43.tr (S54.tr S67)).cl R) ⟨R, _, (Jx2 _ _).wk R⟩ (KM R)
 rintro _ w82 _ ⟨rfl, K83, S84⟩
 have h := hK68
 refine Jt1 (Jd ?_)
 revert h
 cases ht85 : p67
 refine JF fun h => Jy R (Js (Jz (Jp (Ja [2, 2] R (Jc 2 R ?_)))))
 have hw23 : IntKind.wrap .i64 (v29 + 1) = v29 + 1 := wr1 hj23 (Jm2 hc23) hN23
 rw [hw23]
 have hc23 := Jm2 hc23
 cases h
 exact Jz1 fun a ha => ⟨k, _, Ja3 _, ⟨K83, v29 + 1, R, (S31.tr (S36.tr (S43.tr (S54.tr (S67.tr S84))))).wk R, by omega, by omega, hk32⟩, (ha.mm R)⟩
 refine JT fun h => Jx R (Je [2] R (Jb 1 R (Ju (Ja1 (Jw (Jw ?_))))))
 cases h
 obtain rfl := Option.some.inj hk32
 have h := hK24
 dsimp only [aft] at h
 refine Ja1 (Jq2 (Jw (Ja2 (l := [.tmp 4]) V106 (Jp2 R R) R ?_)))
 cases h
 exact ⟨K83, R, (hE.stp (S3.tr (S7.tr (S13.tr (S19.tr (S31.tr (S36.tr (S43.tr (S54.tr (S67.tr S84))))))))) R R)⟩
 rintro _ w26 ⟨K27, rfl, S28, rfl⟩
 have h := hK24
 dsimp only [aft] at h
 refine Jp (Je [2] R (Jb 1 R (Ju (Ja2 (l := [.tmp 4]) V106 (Jp2 R R) R ?_))))
 cases h
 exact ⟨K27, R, (hE.stp (S3.tr (S7.tr (S13.tr (S19.tr S28)))) R R)⟩
 refine JT fun h => Jx R (Je [2] R (Jb 1 R (Ju (Jw (Ja2 (l := [.tmp 4]) V106 (Jp2 R R) R ?_)))))
 cases h
 exact ⟨K18, R, (hE.stp (S3.tr (S7.tr (S13.tr S19))) R R)⟩
theorem slices_ContainsFunc_i_Clause_i_Clause__i_areClauses_1_ok {w : World} {κ : Col} {a0 u0} {p0 : (List Clause)} {c1_0 : Sig} {b1_0} (g0 : Rd Clause.rp κ w 0 a0 u0 p0) (gb1_0 : Bc κ w 0 b1_0 31 [vi c1_0.In, vi c1_0.Out]) {r : Bool} (h : slices_ContainsFunc_i_Clause_i_Clause__i_areClauses_1 p0 c1_0 = some r) : Ret Tryz.prog 127 [.slice a0 p0.length u0, .func (.func 128) #[] #[.pointer (some ⟨b1_0, 0, none⟩)]] w (fun v w' => ∃ (κ' : Col), v = .bool r ∧ Ent κ w κ' w') := by
 unfold slices_ContainsFunc_i_Clause_i_Clause__i_areClauses_1 at h
 refine Ret.enter F127 R N127 R ?_
 dsimp only [envOf]
 have hE := Ent.refl κ w
 refine Je [2] R (Jb 1 R (Je [2, 2, 1, 2, 2] R (Jn 2 R (Ob h fun x7 hx7 h => Jh R R R C159 (slices_IndexFunc_i_Clause_i_Clause__i_areClauses_1_ok (κ := fun b => mp [] 0 (κ b)) (c1_0 := c1_0) (Jl2 g0 (mp [] 0) R R) (gb1_0.map (mp [] 0) R R) hx7) ?_))))
 rintro _ w1 ⟨k2, rfl, e3⟩
 obtain ⟨K4, S5, m6⟩ := Ji e3 2 R
 refine ⟨tv, Jb 2 R (Ju (Ja2 (l := [.tmp 4]) V127 (Jp2 R R) R ?_))⟩
 cases h
 exact ⟨K4, R, (hE.stp S5 R R)⟩
theorem i_watch_broken_ok {w : World} {κ : Col} {aj am ak al ac ad} {p0 : watch} {b0} (g0_0 : Rd (Rp.sl (Rp.int .i64)) κ w 0 aj am p0.next) (g0_1 : Rd (Rp.sl (Rp.int .i64)) κ w 0 ak al p0.letters) (g0_2 : Rd Pair.rp κ w 0 ac ad p0.pairs) (gb0 : Bc κ w 0 b0 120 [.slice aj p0.next.length am, .slice ak p0.letters.length al, .slice ac p0.pairs.length ad]) {r : (List Int)} (h : i_watch_broken p0 = some r) : Ret Tryz.prog 53 [.pointer (some ⟨b0, 0, none⟩)] w (fun v w' => ∃ (κ' : Col) (ra0 : Option Addr) (ru0 : Nat), v = .slice ra0 r.length ru0 ∧ Ent κ w κ' w' ∧ Oc E6 2 κ' w' 2 ra0 ru0 r) := by
 unfold i_watch_broken at h
 refine Ret.enter F53 R N53 R ?_
 dsimp only [envOf]
 have hE := Ent.refl κ w
 refine Je [2] R (Jb 1 R (Je [1, 2] R (Jo1 (κ := κ) (E := E6) 2 R R R R R Y40 Tryzinfo2 R fun a6 u6 w1 K2 S3 f4 => ⟨tv, Jb 1 R (Jq (Je [2, 2, 2, 1, 2, 2] R (Jn 1 R (Jf R (rn_nilCheck R R) (Jf R (Jb2 U120 R Z79 R R) ?_)))))⟩)))
 have f5 := gb0.stp S3 R R
 refine Jl tv R R R R (Jc2 I79 R R (hvE (f5.ld 2 R R))) (Jf R (Je2 U79 R R) (Jb 1 R ?_))
 have hN6 : (p0.pairs.length : Int) ≤ 9223372036854775807 := g0_2.len_le
 refine Ob h fun q2 hq8 hK7 => ?_
 clear h
 refine Jx1 (fun L w' => ∃ κ', ∃ s3 : (List Int), ∃ ae ai, L = [(0, .pointer (some ⟨b0, 0, none⟩)), (3, .slice ae s3.length ai)] ∧ Stp [2, 3] K2 w1 κ' w' ∧ Oc E6 2 κ' w' 2 ae ai s3 ∧ q2 = Sum.inr s3) ?_ ?_
 refine Jv (Jy1 (fun k L w' => ∃ κ' v12, ∃ s1 : (List Int), ∃ ab aa, L = [(0, .pointer (some ⟨b0, 0, none⟩)), (3, .slice ab s1.length aa), (10, .slice ac p0.pairs.length ad), (11, vi (p0.pairs.length : Int)), (12, vi v12)] ∧ Stp [2, 3] K2 w1 κ' w' ∧ Oc E6 2 κ' w' 2 ab aa s1 ∧ 0 ≤ v12 ∧ Int.toNat ((p0.pairs.length : Int) - v12) = k ∧ cntM (i_watch_broken_b0 p0) k v12 s1 = some q2) ⟨_, _, ⟨K2, 0, (([] : List Int) : (List Int)), a6, u6, R, (Jx2 _ _).wk R, f4, (by decide), (by simp), hq8⟩, (KM R)⟩ ?_)
 rintro k _ w13 ⟨K14, v12, s1, ab, aa, rfl, S15, f16, hj6, hJ6, h⟩
 rcases k with _ | k
 have hk17 := h; obtain ⟨o6, h⟩ := ex_eq (Sum.inr (Sum.inl s1) : (List Int) ⊕ (((List Int)) ⊕ ((List Int))))
 have hc6 : decide (v12 < (p0.pairs.length : Int)) = false := Jo2 (by omega)
 refine Je [2] R (Jb 1 R (Jq (Jw2 R hc6 (Jc1 (Jt (Jt ?_))))))
 cases h
 have h := hk17
 refine Jb1 ?_
 cases h
 exact Jw1 _ ⟨K14, (s1 : (List Int)), ab, aa, R, S15.wk R, f16, R⟩ (KM R)
 obtain ⟨o6, h, hk17⟩ := BI h; unfold i_watch_broken_b0 at h
 have hc6 : decide (v12 < (p0.pairs.length : Int)) = true := Jn2 (by omega)
 refine Je [2] R (Jb 1 R (Jq (Jv2 R hc6 (Js (Jp (Jq (Jv (Je [2, 2, 1, 1, 2, 1] R (Jn 1 R (Ob h fun x15 hx15 h => Jf R (Jf2 g0_2 hx15 U79 Z92 R R R R) ?_))))))))))
 have f18 := g0_2.stp (S3.tr S15) R R
 obtain ⟨cse19, hre19, hle19⟩ := (f18).gSt hx15
 obtain ⟨ae19_0, ue19_0, ae19_1, ue19_1, rfl, fe19_0, fe19_1⟩ := Pair.un hre19
 refine Jl tv R R R R (Jd2 (cs := [.slice ae19_0 x15.Ask.length ue19_0, .slice ae19_1 x15.Give.length ue19_1]) I92 Z92 R R R (haE hle19)) (Jg1 (κ := K14) 3 R R R R R X92 R fun b5 w20 K21 S22 f23 => ⟨tv, Jn 1 R (Jj1 (κ := K21) 3 (vc := [.slice ae19_0 x15.Ask.length ue19_0, .slice ae19_1 x15.Give.length ue19_1]) R R R R R R R Z92 R R f23 R fun w24 S25 f26 => ⟨tv, Jd (Je [2, 1, 1, 2, 2] R (Jn 1 R (Jl tv R R R R (Jd2 (cs := [.slice ae19_0 x15.Ask.length ue19_0, .slice ae19_1 x15.Give.length ue19_1]) I92 Z92 R R R (haE f26.cells)) (Ob h fun x19 hx19 h => Jh R R R C108 (i_watch_targets_ok (κ := fun b => mp [] 0 (K21 b)) (p1 := x15) (p0 := p0) (Jl2 (g0_0.stp (S3.tr (S15.tr (S22.tr S25))) R R) (mp [] 0) R R) (Jl2 (g0_1.stp (S3.tr (S15.tr (S22.tr S25))) R R) (mp [] 0) R R) (Jl2 (f18.stp (S22.tr S25) R R) (mp [] 0) R R) (Jl2 (fe19_0.stp (S22.tr S25) R R) (mp [] 0) R R) (Jl2 (fe19_1.stp (S22.tr S25) R R) (mp [] 0) R R) ((f5.stp (S15.tr (S22.tr S25)) R R).map (mp [] 0) R R) hx19) ?_))))⟩)⟩)
 rintro _ w33 ⟨k34, ar, aq, rfl, e35, f36⟩
 obtain ⟨K37, S38, m39⟩ := Ji e35 4 R
 refine ⟨tv, Jf R (Je2 U40 R R) (Jb 1 R (Ob h fun q4 h hK42 => Jx1 (fun L w' => ∃ κ' ah af, L = [(0, .pointer (some ⟨b0, 0, none⟩)), (3, .slice ah q4.length af), (10, .slice ac p0.pairs.length ad), (11, vi (p0.pairs.length : Int)), (12, vi v12)] ∧ Stp [2] K37 w33 κ' w' ∧ Oc E6 2 κ' w' 2 ah af q4) ?_ ?_))⟩
 revert h
 cases ht47 : decide (0 < (x19.length : Int))
 refine JF fun h => Jy R (Js ?_)
 cases h
 exact Jw1 _ ⟨K37, ab, aa, R, (Jx2 _ _).wk R, (f16.stp (S22.tr (S25.tr S38)) R R)⟩ (KM R)
 refine JT fun h => Jx R (Ja [2, 2, 1, 1, 2] R (Jn 2 R (Jn1 (κ := K37) (E := E6) 7 [] (parts := [(0, .tmp 23)]) (cells := [vi v12]) (xs := ([v12] : List Int)) R R R R R R Y40 Tryzinfo2 R R R R R R R R R R ⟨[vi v12], [], Zl K37 w33 [], Zl K37 w33 [], R, Zl.sp (l1 := []) (l2 := []) R, Zl.sr (l1 := []) (l2 := []), R, R⟩ fun ap au w48 K49 S50 f51 => ⟨tv, Ob h fun x25 hx25 h => Jm1 (κ := K49) (E := E6) 2 [] R R R R R R R R R Y40 Tryzinfo2 R R R R (f16.stp (S22.tr (S25.tr (S38.tr S50))) R R) (Sl.srcP (pu_int _) f51.rdc) sy_false hx25 R fun an ao w53 K54 S55 f56 => ⟨tv, Jc 1 R ?_⟩⟩)))
 cases h
 exact Jw1 _ ⟨K54, an, ao, R, (S50.tr S55).wk R, f56⟩ (KM R)
 rintro _ w43 ⟨K44, ah, af, rfl, S45, f46⟩
 have h := hK42
 refine Jz (Jp (Ja [2, 2] R (Jc 2 R ?_)))
 have hw6 : IntKind.wrap .i64 (v12 + 1) = v12 + 1 := wr1 hj6 (Jm2 hc6) hN6
 rw [hw6]
 have hc6 := Jm2 hc6
 cases h
 exact Jz1 fun a ha => ⟨k, _, Ja3 _, ⟨K44, v12 + 1, (q4 : (List Int)), ah, af, R, (S15.tr (S22.tr (S25.tr (S38.tr S45)))).wk R, f46, by omega, by omega, hk17⟩, (ha.mm R)⟩
 rintro _ w9 ⟨K10, s3, ae, ai, rfl, S11, f12, rfl⟩
 have h := hK7
 dsimp only [aft] at h
 refine Jp (Je [2, 2] R (Jb 2 R (Ju (Ja2 (l := [.tmp 2]) V53 (Jp2 R R) R ?_))))
 cases h
 exact ⟨K10, ae, ai, R, (hE.stp (S3.tr S11) R R), f12⟩
theorem i_watch_counterexample_ok {w : World} {κ : Col} {aj ao al am ak an} {p0 : watch} {aa ah ai af} {p1 : Pair} {b0} (g0_0 : Rd (Rp.sl (Rp.int .i64)) κ w 0 aj ao p0.next) (g0_1 : Rd (Rp.sl (Rp.int .i64)) κ w 0 al am p0.letters) (g0_2 : Rd Pair.rp κ w 0 ak an p0.pairs) (g1_0 : Rd (Rp.int .i64) κ w 0 aa ah p1.Ask) (g1_1 : Rd (Rp.int .i64) κ w 0 ai af p1.Give) (gb0 : Bc κ w 0 b0 120 [.slice aj p0.next.length ao, .slice al p0.letters.length am, .slice ak p0.pairs.length an]) {r : Word} (h : i_watch_counterexample p0 p1 = some r) : Ret Tryz.prog 83 [.pointer (some ⟨b0, 0, none⟩), .agg #[.slice aa p1.Ask.length ah, .slice ai p1.Give.length af]] w (fun v w' => ∃ (κ' : Col) (ra0 : Option Addr) (ru0 : Nat) (ra1 : Option Addr) (ru1 : Nat), v = .agg #[.slice ra0 r.Stem.length ru0, .slice ra1 r.Loop.length ru1] ∧ Ent κ w κ' w' ∧ Oc E6 2 κ' w' 2 ra0 ru0 r.Stem ∧ Oc E6 2 κ' w' 3 ra1 ru1 r.Loop) := by
 unfold i_watch_counterexample at h
 refine Ret.enter F83 R N83 R ?_
 dsimp only [envOf]
 have hE := Ent.refl κ w
 refine Je [1, 1] R (Jf1 (κ := κ) 2 R R R R R R R fun b3 w1 K2 S3 f4 => ⟨tv, Jg1 (κ := K2) 3 R R R R R X65 R fun b4 w5 K6 S7 f8 => ⟨tv, Jd (Je [2, 1, 1, 2, 1, 2] R (Jn 1 R ?_))⟩⟩)
 have f9 := f4.stp S7 R R
 refine Jl tv R R R R (Jd2 (cs := [.slice aa p1.Ask.length ah, .slice ai p1.Give.length af]) I92 Z92 R R R (haE f9.cells)) (Ob h fun x8 hx8 h => ?_)
 have f10 := g0_0.stp (S3.tr S7) R R
 have f11 := g0_1.stp (S3.tr S7) R R
 have f12 := g0_2.stp (S3.tr S7) R R
 have f14 := g1_1.stp (S3.tr S7) R R
 have f15 := gb0.stp (S3.tr S7) R R
 refine Jh R R R C108 (i_watch_targets_ok (κ := fun b => mp [] 0 (K6 b)) (p1 := p1) (p0 := p0) (Jl2 f10 (mp [] 0) R R) (Jl2 f11 (mp [] 0) R R) (Jl2 f12 (mp [] 0) R R) (Jl2 (g1_0.stp (S3.tr S7) R R) (mp [] 0) R R) (Jl2 f14 (mp [] 0) R R) (f15.map (mp [] 0) R R) hx8) ?_
 rintro _ w16 ⟨k17, ap, aq, rfl, e18, f19⟩
 obtain ⟨K20, S21, m22⟩ := Ji e18 4 R
 refine ⟨tv, ?_⟩
 have f24 := f19.mx (no_int _) m22 R (R : 4 + 2 = 6)
 refine Ob h fun x9 hx9 h => Jf R (Jf2 f24.rdc hx9 U40 Z2 R R R R) (Jl tv R R R R (Jc2 I2 R R (hvE (f24.rdc.gInt hx9))) (Jb 1 R (Jq (Js1 (κ := K20) [2] none [(0, 2), (1, 2), (2, 2), (5, 2), (6, 2), (7, 2), (8, 2), (9, 2), (10, 0), (3, 1), (4, 1), (11, 1), (12, 1), (13, 2), (14, 1)] [] (by kernel_rfl) (by kernel_rfl) fun w26 S25 => Jn 7 R (Jf R (Jb2 U92 R Z40 R R) (Jg R (Jc2 I40 R R (hvC ((f9.stp (S21.tr S25) R R).ld 1 R R) R)) (Ob h fun x14 hx14 h => ?_)))))))
 have f28 := f10.stp (S21.tr S25) R R
 have f29 := f11.stp (S21.tr S25) R R
 have f30 := f12.stp (S21.tr S25) R R
 have f31 := f15.stp (S21.tr S25) R R
 refine Jh R R R C131 (i_watch_outside_ok (κ := fun b => mp [] 0 (K20 b)) (p0 := p0) (Jl2 f28 (mp [] 0) R R) (Jl2 f29 (mp [] 0) R R) (Jl2 f30 (mp [] 0) R R) Sl.nil (f31.map (mp [] 0) R R) hx14) ?_
 rintro _ w32 ⟨k33, aw, au, rfl, e34, f35⟩
 obtain ⟨K36, S37, m38⟩ := Ji e34 7 R
 refine ⟨(S37.cl R), Ob h fun x15 hx15 h => ?_⟩
 have f41 := f28.stp S37 R R
 have f42 := f29.stp S37 R R
 have f43 := f30.stp S37 R R
 have f44 := f31.stp S37 R R
 refine Jh R R R C130 (i_watch_way_ok (κ := fun b => mp [] 0 (K36 b)) (p0 := p0) (Jl2 f41 (mp [] 0) R R) (Jl2 f42 (mp [] 0) R R) (Jl2 f43 (mp [] 0) R R) (Jl2 (f35.mx no_bool m38 R (R : 7 + 2 = 9)).rdc (mp [] 0) R R) (f44.map (mp [] 0) R R) hx15) ?_
 rintro _ w45 ⟨k46, ae, ad, rfl, e47, f48⟩
 obtain ⟨K49, S50, m51⟩ := Ji e47 10 R
 refine ⟨((S37.tr S50).cl R), Ob h fun x22 hx22 h => ?_⟩
 have f54 := f41.stp S50 R R
 have f55 := f42.stp S50 R R
 have f56 := f43.stp S50 R R
 have f58 := f44.stp S50 R R
 refine Jh R R R C131 (i_watch_outside_ok (κ := fun b => mp [] 0 (K49 b)) (p0 := p0) (Jl2 f54 (mp [] 0) R R) (Jl2 f55 (mp [] 0) R R) (Jl2 f56 (mp [] 0) R R) (Jl2 (f14.stp (S21.tr (S25.tr (S37.tr S50))) R R) (mp [] 0) R R) (f58.map (mp [] 0) R R) hx22) ?_
 rintro _ w59 ⟨k60, ar, av, rfl, e61, f62⟩
 obtain ⟨K63, S64, m65⟩ := Ji e61 13 R
 refine ⟨((S37.tr (S50.tr S64)).cl R), Ob h fun x23 hx23 h => Jh R R R C130 (i_watch_way_ok (κ := fun b => mp [] 0 (K63 b)) (p0 := p0) (Jl2 (f54.stp S64 R R) (mp [] 0) R R) (Jl2 (f55.stp S64 R R) (mp [] 0) R R) (Jl2 (f56.stp S64 R R) (mp [] 0) R R) (Jl2 (f62.mx no_bool m65 R (R : 13 + 2 = 15)).rdc (mp [] 0) R R) ((f58.stp S64 R R).map (mp [] 0) R R) hx23) ?_⟩
 rintro _ w72 ⟨k73, ac, ab, rfl, e74, f75⟩
 obtain ⟨K76, S77, m78⟩ := Ji e74 16 R
 have S001 := (S37.tr (S50.tr (S64.tr S77)))
 refine ⟨(S001.cl R), Jf R (rn_build (parts := [(0, .tmp 15), (1, .tmp 23)]) (cells := [.slice ae x15.length ad, .slice ac x23.length ab]) R R (by kernel_rfl)) (Jj1 (κ := K76) 3 (vc := [.slice ae x15.length ad, .slice ac x23.length ab]) R R R R R R R Z65 R R (f8.stp (S21.tr (S25.tr (S37.tr (S50.tr (S64.tr S77))))) R R) R fun w82 S83 f84 => ⟨((S001.tr S83).cl R), Jt1 (Jd (Ju (Ja2 (l := [.cell 4 65]) V83 (res_cellA R f84 I65 Z65 R R) R ?_)))⟩)⟩
 cases h
 exact ⟨(fun b => ren [(12, 2), (18, 3)] (K76 b)), ae, ad, ac, ab, R, ((hE.stp (S3.tr (S7.tr (S21.tr (S25.tr (S37.tr (S50.tr (S64.tr (S77.tr S83)))))))) R R).map (ren [(12, 2), (18, 3)]) R R), (((f48.mx (no_int _) m51 R (R : 10 + 2 = 12)).stp (S64.tr (S77.tr S83)) R R).map (ren [(12, 2), (18, 3)]) R R), (((f75.mx (no_int _) m78 R (R : 16 + 2 = 18)).stp S83 R R).map (ren [(12, 2), (18, 3)]) R R)⟩
theorem s_ClausesOk_ok {w : World} {κ : Col} {p0 : Sig} {a1 u1} {p1 : (List Clause)} (g1 : Rd Clause.rp κ w 0 a1 u1 p1) {r : Bool} (h : s_ClausesOk p0 p1 = some r) : Ret Tryz.prog 76 [.agg #[vi p0.In, vi p0.Out], .slice a1 p1.length u1] w (fun v w' => ∃ (κ' : Col), v = .bool r ∧ Ent κ w κ' w') := by
 unfold s_ClausesOk at h
 refine Ret.enter F76 R N76 R ?_
 dsimp only [envOf]
 have hE := Ent.refl κ w
 refine Je [1, 2] R (Jf1 (κ := κ) 2 R R R R R R R fun b2 w1 K2 S3 f4 => ⟨tv, Jb 1 R (Jq (Je [1, 1, 2, 2, 2, 2, 2, 2] R (Jl tv R R R R (Jd2 (cs := [vi p0.In, vi p0.Out]) I31 Z31 R R R (haE f4.cells)) (Ob h fun x7 hx7 h => Jh R R R C84 (s_SigOk_ok (κ := fun b => mp [] 0 (K2 b)) (p0 := p0) hx7) ?_))))⟩)
 rintro _ w5 ⟨k6, rfl, e7⟩
 obtain ⟨K8, S9, m10⟩ := Ji e7 3 R
 refine ⟨tv, Jn 2 R (Ob h fun p13 h hK12 => Ju1 [(4, 2), (5, 2), (6, 2), (7, 2)] [] (fun L w' => L = [(1, .slice a1 p1.length u1), (2, .pointer (some ⟨b2, 0, none⟩)), (13, .bool p13)] ∧ ∃ κ', Stp [] K8 w5 κ' w') tv ?_ ?_)⟩
 revert h
 cases ht13 : (!x7)
 refine JF fun h => Jn 1 R (Jf R (Je2 U35 R R) (Jn 2 R ?_))
 cases h
 exact Jv1 _ tv ⟨R, _, (Jx2 _ _).wk R⟩ (KM R)
 refine JT fun h => Jn 4 R ?_
 cases h
 exact Jv1 _ tv ⟨R, _, (Jx2 _ _).wk R⟩ (KM R)
 rintro _ w14 _ ⟨rfl, K15, S16⟩
 have h := hK12
 refine Jd ?_
 revert h
 cases ht17 : p13
 refine JF fun h => Jy R (Js (Jp (Jq (Je [2] R (Jb 1 R ?_)))))
 have hN19 : (p1.length : Int) ≤ 9223372036854775807 := g1.len_le
 refine Ob h fun q2 hq21 hK20 => ?_
 clear h
 refine Jx1 (fun L w' => ∃ κ', L = [] ∧ Stp [] K15 w14 κ' w' ∧ q2 = Sum.inr ()) ?_ ?_
 refine Jv (Jy1 (fun k L w' => ∃ κ' v5, L = [(1, .slice a1 p1.length u1), (2, .pointer (some ⟨b2, 0, none⟩)), (5, vi v5)] ∧ Stp [] K15 w14 κ' w' ∧ 0 ≤ v5 ∧ Int.toNat ((p1.length : Int) - v5) = k ∧ cntM (s_ClausesOk_b0 p0 p1) k v5 () = some q2) ⟨_, _, ⟨K15, 0, R, (Jx2 _ _).wk R, (by decide), (by simp), hq21⟩, (KM R)⟩ ?_)
 rintro k _ w25 ⟨K26, v5, rfl, S27, hj19, hJ19, h⟩
 rcases k with _ | k
 have hk28 := h; obtain ⟨o19, h⟩ := ex_eq (Sum.inr (Sum.inl ()) : Bool ⊕ ((Unit) ⊕ (Unit)))
 have hc19 : decide (v5 < (p1.length : Int)) = false := Jo2 (by omega)
 refine Jq (Je [2, 2, 2, 2] R (Jn 2 R (Jf R (Je2 U35 R R) (Jb 1 R (Jw2 R hc19 (Jc1 (Jt (Jt ?_))))))))
 cases h
 have h := hk28
 refine Jb1 ?_
 cases h
 exact Jw1 _ ⟨K26, R, S27.wk R, R⟩ KN
 obtain ⟨o19, h, hk28⟩ := BI h; unfold s_ClausesOk_b0 at h
 have hc19 : decide (v5 < (p1.length : Int)) = true := Jn2 (by omega)
 refine Jq (Je [2, 2, 2, 2] R (Jn 2 R (Jf R (Je2 U35 R R) (Jb 1 R (Jv2 R hc19 (Js (Jp (Jq (Jv (Jq (Js1 (κ := K26) [0, 2] none [(1, 2), (2, 2), (3, 2), (0, 0), (4, 0), (5, 1), (6, 2)] [] (by kernel_rfl) (by kernel_rfl) fun w30 S29 => Jn 2 R (Ob h fun x23 hx23 h => Jf R (Jf2 g1 hx23 U35 Z71 R R R R) (Jg R (Jd2 (cs := [vi p0.In, vi p0.Out]) I31 Z31 R R R (haC (f4.stp (S9.tr (S16.tr (S27.tr S29))) R R).cells R)) ?_)))))))))))))
 obtain ⟨cse33, hre33, hle33⟩ := ((g1.stp (S3.tr (S9.tr (S16.tr (S27.tr S29)))) R R)).gSt hx23
 obtain ⟨ae33_0, ue33_0, ae33_1, ue33_1, rfl, fe33_0, fe33_1⟩ := Clause.un hre33
 refine Jg R (Jd2 (cs := [vi x23.Kind, .slice ae33_0 x23.A.length ue33_0, .slice ae33_1 x23.B.length ue33_1]) I71 Z71 R R R (haC hle33 R)) (Ob h fun x25 hx25 h => Jh R R R C87 (s_ClauseOk_ok (κ := fun b => mp [] 0 (K26 b)) (p0 := p0) (p1 := x23) (Jl2 fe33_0 (mp [] 0) R R) (Jl2 fe33_1 (mp [] 0) R R) hx25) ?_)
 rintro _ w34 ⟨k35, rfl, e36⟩
 obtain ⟨K37, S38, m39⟩ := Ji e36 5 R
 refine ⟨(S38.cl R), Jn 1 R (Jt1 (Jd ?_))⟩
 revert h
 cases ht41 : (!x25)
 refine JF fun h => Jy R (Js (Jz (Jp (Ja [2, 2, 2] R (Jc 3 R ?_)))))
 have hw19 : IntKind.wrap .i64 (v5 + 1) = v5 + 1 := wr1 hj19 (Jm2 hc19) hN19
 rw [hw19]
 have hc19 := Jm2 hc19
 cases h
 exact Jz1 fun a ha => ⟨k, _, Ja3 _, ⟨K37, v5 + 1, R, (S27.tr (S29.tr S38)).wk R, by omega, by omega, hk28⟩, (ha.mm R)⟩
 refine JT fun h => Jx R (Je [2] R (Jb 1 R (Ju (Ja1 (Jw (Jw ?_))))))
 cases h
 obtain rfl := Option.some.inj hk28
 have h := hK20
 dsimp only [aft] at h
 refine Ja1 (Jq2 (Jw (Ja2 (l := [.tmp 4]) V76 (Jp2 R R) R ?_)))
 cases h
 exact ⟨K37, R, (hE.stp (S3.tr (S9.tr (S16.tr (S27.tr (S29.tr S38))))) R R)⟩
 rintro _ w22 ⟨K23, rfl, S24, rfl⟩
 have h := hK20
 dsimp only [aft] at h
 refine Jp (Je [2] R (Jb 1 R (Ju (Ja2 (l := [.tmp 4]) V76 (Jp2 R R) R ?_))))
 cases h
 exact ⟨K23, R, (hE.stp (S3.tr (S9.tr (S16.tr S24))) R R)⟩
 refine JT fun h => Jx R (Je [2] R (Jb 1 R (Ju (Jw (Ja2 (l := [.tmp 4]) V76 (Jp2 R R) R ?_)))))
 cases h
 exact ⟨K15, R, (hE.stp (S3.tr (S9.tr S16)) R R)⟩
theorem s_MonitorOf_ok {w : World} {κ : Col} {p0 : Sig} {ao al ai aj} {p1 : Clause} (g1_1 : Rd (Rp.int .i64) κ w 0 ao al p1.A) (g1_2 : Rd (Rp.int .i64) κ w 0 ai aj p1.B) {r : Det} (h : s_MonitorOf p0 p1 = some r) : Ret Tryz.prog 111 [.agg #[vi p0.In, vi p0.Out], .agg #[vi p1.Kind, .slice ao p1.A.length al, .slice ai p1.B.length aj]] w (fun v w' => ∃ (κ' : Col) (ra0 : Option Addr) (ru0 : Nat) (ra1 : Option Addr) (ru1 : Nat), v = .agg #[.slice ra0 r.Next.length ru0, .slice ra1 r.Pairs.length ru1] ∧ Ent κ w κ' w' ∧ Oc (Ep.own E6 2) 40 κ' w' 2 ra0 ru0 r.Next ∧ Oc Pair.ep92 92 κ' w' 3 ra1 ru1 r.Pairs) := by
 unfold s_MonitorOf at h
 refine Ret.enter F111 R N111 R ?_
 dsimp only [envOf]
 have hE := Ent.refl κ w
 refine Je [1, 1, 1] R (Jf1 (κ := κ) 2 R R R R R R R fun b2 w1 K2 S3 f4 => ⟨tv, Jf1 (κ := K2) 3 R R R R R R R fun b3 w5 K6 S7 f8 => ⟨tv, Jg1 (κ := K6) 4 R R R R R X94 R fun b4 w9 K10 S11 f12 => ⟨tv, Jd (Jq (Je [1, 1, 1, 2] R ?_))⟩⟩⟩)
 have f13 := f4.stp (S7.tr S11) R R
 refine Jl tv R R R R (Jd2 (cs := [vi p0.In, vi p0.Out]) I31 Z31 R R R (haE f13.cells)) ?_
 have f14 := f8.stp S11 R R
 refine Jl tv R R R R (Jd2 (cs := [vi p1.Kind, .slice ao p1.A.length al, .slice ai p1.B.length aj]) I71 Z71 R R R (haE f14.cells)) (Ob h fun x11 hx11 h => ?_)
 have f15 := g1_1.stp (S3.tr (S7.tr S11)) R R
 have f16 := g1_2.stp (S3.tr (S7.tr S11)) R R
 refine Jh R R R C87 (s_ClauseOk_ok (κ := fun b => mp [] 0 (K10 b)) (p0 := p0) (p1 := p1) (Jl2 f15 (mp [] 0) R R) (Jl2 f16 (mp [] 0) R R) hx11) ?_
 rintro _ w17 ⟨k18, rfl, e19⟩
 obtain ⟨K20, S21, m22⟩ := Ji e19 5 R
 refine ⟨tv, Jb 1 R ?_⟩
 revert h
 cases ht24 : (!x11)
 refine JF fun h => Jy R (Js (Jp (Je [2, 1, 1, 1, 2, 1, 1] R (Jf R (Jb2 U71 R Z2 R R) ?_))))
 have f30 := f14.stp S21 R R
 refine Jl tv R R R R (Jc2 I2 R R (hvE (f30.ld 0 R R))) (Ob h fun x16 hx16 h => Jh R R R C140 (s_l25Pair_ok (κ := fun b => mp [] 0 (K20 b)) hx16) ?_)
 rintro _ w31 ⟨k32, av, au, ar, ap, rfl, e33, f34, f35⟩
 obtain ⟨K36, S37, m38⟩ := Ji e33 7 R
 refine ⟨tv, Jn1 (κ := K36) (E := Pair.ep92) 11 [9, 10] (parts := [(0, .tmp 16)]) (cells := [.slice av x16.Ask.length au, .slice ar x16.Give.length ap]) (xs := ([x16] : List Pair)) R R R R R R Y79 Tryzinfo92 R R R R R R R R R R ⟨[.slice av x16.Ask.length au, .slice ar x16.Give.length ap], [], Zl K36 w31 [9, 10], Zl K36 w31 [], R, Zl.sp (l1 := [9, 10]) (l2 := []) R, Zl.sr (l1 := [9, 10]) (l2 := []), ⟨[.slice av x16.Ask.length au], [.slice ar x16.Give.length ap], Zl K36 w31 [9], Zl K36 w31 [10], R, Zl.sp (l1 := [9]) (l2 := [10]) R, Zl.sr (l1 := [9]) (l2 := [10]), ⟨_, _, R, (f34.mx (no_int _) m38 R (R : 7 + 2 = 9))⟩, ⟨_, _, R, (f35.mx (no_int _) m38 R (R : 7 + 3 = 10))⟩⟩, R⟩ fun ab aa w42 K43 S44 f45 => ⟨tv, Jf R (rn_build (parts := [(1, .tmp 17)]) (cells := [.slice none 0 0, .slice ab ([x16] : List Pair).length aa]) R R (by kernel_rfl)) (Jg1 (κ := K43) 12 R R R R R X94 R fun b5 w46 K47 S48 f49 => ⟨tv, Jj1 (κ := K47) 12 (vc := [.slice none 0 0, .slice ab ([x16] : List Pair).length aa]) R R R R R R R Z94 R R f49 R fun w50 S51 f52 => ⟨tv, Jd (Jq (Je [2] R (Jb 1 R (Ob h fun q2 hq55 hK54 => ?_))))⟩⟩)⟩⟩
 clear h
 refine Jx1 (fun L w' => ∃ κ', ∃ s3 : Int × (List (List Int)), ∃ ac ad, L = [(4, .pointer (some ⟨b4, 0, none⟩)), (5, .pointer (some ⟨b5, 0, none⟩))] ∧ Stp [12, 13, 16, 17] K47 w50 κ' w' ∧ Oc (Ep.own E6 2) 40 κ' w' 13 ac ad s3.2 ∧ Bc κ' w' 12 b5 94 [.slice ac s3.2.length ad, .slice ab ([x16] : List Pair).length aa] ∧ q2 = Sum.inr s3) ?_ ?_
 refine Jv (Jy1 (fun k L w' => ∃ κ', ∃ s1 : Int × (List (List Int)), ∃ am ah, L = [(2, .pointer (some ⟨b2, 0, none⟩)), (3, .pointer (some ⟨b3, 0, none⟩)), (4, .pointer (some ⟨b4, 0, none⟩)), (5, .pointer (some ⟨b5, 0, none⟩)), (6, vi s1.1)] ∧ Stp [12, 13, 16, 17] K47 w50 κ' w' ∧ Oc (Ep.own E6 2) 40 κ' w' 13 am ah s1.2 ∧ Bc κ' w' 12 b5 94 [.slice am s1.2.length ah, .slice ab ([x16] : List Pair).length aa] ∧ whileM (s_MonitorOf_b0 p0 p1) k s1 = some q2) ⟨_, _, ⟨K47, ((0 : Int), (([] : List (List Int)) : (List (List Int)))), none, 0, R, (Jx2 _ _).wk R, Ow.nil, f52, hq55⟩, (KM R)⟩ ?_)
 rintro k _ w61 ⟨K62, s1, am, ah, rfl, S63, f64, f65, h⟩
 rcases k with _ | k
 cases h
 obtain ⟨o53, h, hk66⟩ := BI h; unfold s_MonitorOf_b0 at h
 refine Jq (Je [2, 2, 1, 1, 2] R (Jn 1 R (Jf R (Jb2 U71 R Z2 R R) ?_)))
 have f67 := f30.stp (S37.tr (S44.tr (S48.tr (S51.tr S63)))) R R
 refine Jl tv R R R R (Jc2 I2 R R (hvE (f67.ld 0 R R))) (Ob h fun x22 hx22 h => Jh R R R C141 (s_l25States_ok (κ := fun b => mp [] 0 (K62 b)) hx22) ?_)
 rintro _ w68 ⟨k69, rfl, e70⟩
 obtain ⟨K71, S72, m73⟩ := Ji e70 14 R
 refine ⟨tv, Jb 1 R ?_⟩
 revert h
 cases ht75 : decide (s1.1 < x22)
 refine JF fun h => Jy R (Jc1 (Jt (Jt ?_)))
 cases h
 have h := hk66
 refine Jb1 ?_
 cases h
 exact Jw1 _ ⟨K71, ((s1.1 : Int), (s1.2 : (List (List Int)))), am, ah, R, (S63.tr S72).wk R, (f64.stp S72 R R), (f65.stp S72 R R), R⟩ (KM R)
 refine JT fun h => Jx R (Js (Jp (Jq (Jv (Je [1, 2] R (Jo1 (κ := K71) (E := E6) 16 R R R R R Y40 Tryzinfo2 R fun az aA w76 K77 S78 f79 => ⟨tv, Jb 1 R (Jq (Je [2] R (Jb 1 R (Ob h fun q5 hq82 hK81 => ?_))))⟩))))))
 clear h
 refine Jx1 (fun L w' => ∃ κ', ∃ s6 : (List Int) × Int, ∃ ae af, L = [(2, .pointer (some ⟨b2, 0, none⟩)), (3, .pointer (some ⟨b3, 0, none⟩)), (4, .pointer (some ⟨b4, 0, none⟩)), (5, .pointer (some ⟨b5, 0, none⟩)), (6, vi s1.1), (7, .slice ae s6.1.length af)] ∧ Stp [16] K77 w76 κ' w' ∧ Oc E6 2 κ' w' 16 ae af s6.1 ∧ q5 = Sum.inr s6) ?_ ?_
 refine Jv (Jy1 (fun k L w' => ∃ κ', ∃ s4 : (List Int) × Int, ∃ ak an, L = [(2, .pointer (some ⟨b2, 0, none⟩)), (3, .pointer (some ⟨b3, 0, none⟩)), (4, .pointer (some ⟨b4, 0, none⟩)), (5, .pointer (some ⟨b5, 0, none⟩)), (6, vi s1.1), (7, .slice ak s4.1.length an), (8, vi s4.2)] ∧ Stp [16] K77 w76 κ' w' ∧ Oc E6 2 κ' w' 16 ak an s4.1 ∧ whileM (s_MonitorOf_b2 p0 p1 s1) k s4 = some q5) ⟨_, _, ⟨K77, ((([] : List Int) : (List Int)), (0 : Int)), az, aA, R, (Jx2 _ _).wk R, f79, hq82⟩, (KM R)⟩ ?_)
 rintro k _ w87 ⟨K88, s4, ak, an, rfl, S89, f90, h⟩
 rcases k with _ | k
 cases h
 obtain ⟨o80, h, hk91⟩ := BI h; unfold s_MonitorOf_b2 at h
 refine Jq (Je [2, 1, 1, 2] R (Jn 1 R (Jl tv R R R R (Jd2 (cs := [vi p0.In, vi p0.Out]) I31 Z31 R R R (haE (f13.stp (S21.tr (S37.tr (S44.tr (S48.tr (S51.tr (S63.tr (S72.tr (S78.tr S89)))))))) R R).cells)) (Ob h fun x29 hx29 h => Jh R R R C86 (s_LettersOf_ok (κ := fun b => mp [] 0 (K88 b)) (p0 := p0) hx29) ?_))))
 rintro _ w93 ⟨k94, rfl, e95⟩
 obtain ⟨K96, S97, m98⟩ := Ji e95 17 R
 refine ⟨tv, Jb 1 R ?_⟩
 revert h
 cases ht100 : decide (s4.2 < x29)
 refine JF fun h => Jy R (Jc1 (Jt (Jt ?_)))
 cases h
 have h := hk91
 refine Jb1 ?_
 cases h
 exact Jw1 _ ⟨K96, ((s4.1 : (List Int)), (s4.2 : Int)), ak, an, R, (S89.tr S97).wk R, (f90.stp S97 R R), R⟩ (KM R)
 have S001 := (S21.tr (S37.tr (S44.tr (S48.tr (S51.tr (S63.tr (S72.tr (S78.tr (S89.tr S97)))))))))
 refine JT fun h => Jx R (Js (Jp (Jq (Jv (Ja [2, 1, 2, 2, 1, 1, 1, 2] R (Jn 1 R (Jl tv R R R R (Jd2 (cs := [vi p1.Kind, .slice ao p1.A.length al, .slice ai p1.B.length aj]) I71 Z71 R R R (haE (f67.stp (S72.tr (S78.tr (S89.tr S97))) R R).cells)) (Jn 2 R (Ob h fun x37 hx37 h => Jh R R R C142 (s_l25Next_ok (κ := fun b => mp [] 0 (K96 b)) (p0 := p1) (Jl2 (f15.stp S001 R R) (mp [] 0) R R) (Jl2 (f16.stp S001 R R) (mp [] 0) R R) hx37) ?_)))))))))
 rintro _ w104 ⟨k105, rfl, e106⟩
 obtain ⟨K107, S108, m109⟩ := Ji e106 19 R
 refine ⟨tv, Jn1 (κ := K107) (E := E6) 21 [] (parts := [(0, .tmp 37)]) (cells := [vi x37]) (xs := ([x37] : List Int)) R R R R R R Y40 Tryzinfo2 R R R R R R R R R R ⟨[vi x37], [], Zl K107 w104 [], Zl K107 w104 [], R, Zl.sp (l1 := []) (l2 := []) R, Zl.sr (l1 := []) (l2 := []), R, R⟩ fun aC aD w111 K112 S113 f114 => ⟨tv, Ob h fun x39 hx39 h => Jm1 (κ := K112) (E := E6) 16 [] R R R R R R R R R Y40 Tryzinfo2 R R R R (f90.stp (S97.tr (S108.tr S113)) R R) (Sl.srcP (pu_int _) f114.rdc) sy_false hx39 R fun ax ay w116 K117 S118 f119 => ⟨tv, Jc 1 R (Jz (Jp (Ja [2, 2, 2] R (Jc 3 R ?_))))⟩⟩⟩
 cases h
 exact Jz1 fun a ha => ⟨k, _, Ja3 _, ⟨K117, ((x39 : (List Int)), ((IntKind.i64.wrap (s4.2 + 1)) : Int)), ax, ay, R, (S89.tr (S97.tr (S108.tr (S113.tr S118)))).wk R, f119, hk91⟩, (ha.mm R)⟩
 rintro _ w83 ⟨K84, s6, ae, af, rfl, S85, f86, rfl⟩
 have h := hK81
 dsimp only [aft] at h
 refine Jp (Ja [2, 1, 2, 1, 1, 2, 1] R (Jf R (Jb2 U94 R Z24 R R) ?_))
 have f121 := f65.stp (S72.tr (S78.tr S85)) R R
 refine Jl tv R R R R (Jc2 I24 R R (hvE (f121.ld 0 R R))) (Jn 1 R (Jn1 (κ := K84) (E := (Ep.own E6 2)) 17 [16] (parts := [(0, .tmp 42)]) (cells := [.slice ae s6.1.length af]) (xs := ([s6.1] : List (List Int))) R R R R R R Y24 Tryzinfo40 R R R R R R R R R R ⟨[.slice ae s6.1.length af], [], Zl K84 w83 [16], Zl K84 w83 [], R, Zl.sp (l1 := [16]) (l2 := []) R, Zl.sr (l1 := [16]) (l2 := []), ⟨_, _, R, f86⟩, R⟩ fun aB aE w122 K123 S124 f125 => ⟨tv, Ob h fun x44 hx44 h => Jm1 (κ := K123) (E := (Ep.own E6 2)) 13 [17] R R R R R R R R R Y24 Tryzinfo40 R R R R (f64.stp (S72.tr (S78.tr (S85.tr S124))) R R) f125.src (sy_one R) hx44 R fun aq aw w127 K128 S129 f130 => ⟨tv, Jf R (Jb2 U94 R Z24 R R) (Ji1 (κ := K128) 12 (off := 0) (vc := [.slice aq x44.length aw]) (cs' := [.slice aq x44.length aw, .slice ab ([x16] : List Pair).length aa]) R R R R R R R Z24 R R (f121.stp (S124.tr S129) R R) R R fun w132 S133 f134 => ⟨tv, Jo (Jz (Jp (Ja [2, 2, 2] R (Jc 3 R ?_))))⟩)⟩⟩))
 cases h
 exact Jz1 fun a ha => ⟨k, _, Ja3 _, ⟨K128, (((IntKind.i64.wrap (s1.1 + 1)) : Int), (x44 : (List (List Int)))), aq, aw, R, (S63.tr (S72.tr (S78.tr (S85.tr (S124.tr (S129.tr S133)))))).wk R, (f130.stp S133 R R), f134, hk66⟩, (ha.mm R)⟩
 rintro _ w56 ⟨K57, s3, ac, ad, rfl, S58, f59, f60, rfl⟩
 have h := hK54
 dsimp only [aft] at h
 refine Jp (Je [1, 1] R (Jl tv R R R R (Jd2 (cs := [.slice ac s3.2.length ad, .slice ab ([x16] : List Pair).length aa]) I94 Z94 R R R (haE f60.cells)) (Jj1 (κ := K57) 4 (vc := [.slice ac s3.2.length ad, .slice ab ([x16] : List Pair).length aa]) R R R R R R R Z94 R R (f12.stp (S21.tr (S37.tr (S44.tr (S48.tr (S51.tr S58))))) R R) R fun w139 S140 f141 => ⟨tv, Jd (Ju (Ja2 (l := [.cell 4 94]) V111 (res_cellA R f141 I94 Z94 R R) R ?_))⟩)))
 cases h
 exact ⟨(fun b => ren [(13, 2), (11, 3)] (K57 b)), ac, ad, ab, aa, R, ((hE.stp (S3.tr (S7.tr (S11.tr (S21.tr (S37.tr (S44.tr (S48.tr (S51.tr (S58.tr S140))))))))) R R).map (ren [(13, 2), (11, 3)]) R R), ((f59.stp S140 R R).map (ren [(13, 2), (11, 3)]) R R), ((f45.stp (S48.tr (S51.tr (S58.tr S140))) R R).map (ren [(13, 2), (11, 3)]) R R)⟩
 refine JT fun h => Jx R (Je [2, 1] R (Jf R (rn_build (parts := []) (cells := [.slice none 0 0, .slice none 0 0]) R R (by kernel_rfl)) (Jj1 (κ := K20) 4 (vc := [.slice none 0 0, .slice none 0 0]) R R R R R R R Z94 R R (f12.stp S21 R R) R fun w26 S27 f28 => ⟨tv, Jd (Ju (Jw (Ja2 (l := [.cell 4 94]) V111 (res_cellA R f28 I94 Z94 R R) R ?_)))⟩)))
 cases h
 exact ⟨K20, none, 0, none, 0, R, (hE.stp (S3.tr (S7.tr (S11.tr (S21.tr S27)))) R R), Ow.nil, Ow.nil⟩
theorem s_PairsOk_ok {w : World} {κ : Col} {a0 u0} {p0 : (List Pair)} {p1 : Int} (g0 : Rd Pair.rp κ w 0 a0 u0 p0) {r : Bool} (h : s_PairsOk p0 p1 = some r) : Ret Tryz.prog 163 [.slice a0 p0.length u0, vi p1] w (fun v w' => ∃ (κ' : Col), v = .bool r ∧ Ent κ w κ' w') := by
 unfold s_PairsOk at h
 refine Ret.enter F163 R N163 R ?_
 dsimp only [envOf]
 have hE := Ent.refl κ w
 refine Je [2] R (Jb 1 R (Jq (Je [2, 1, 2, 2, 2, 2, 2, 2] R (Jn 1 R (Ob h fun x7 hx7 h => Jh R R R C77 (s_l1In_ok (κ := fun b => mp [] 0 (κ b)) hx7) ?_)))))
 rintro _ w1 ⟨k2, rfl, e3⟩
 obtain ⟨K4, S5, m6⟩ := Ji e3 2 R
 refine ⟨tv, Jn 2 R (Ob h fun p13 h hK8 => Ju1 [(4, 2), (5, 2), (6, 2), (7, 2)] [] (fun L w' => L = [(0, .slice a0 p0.length u0), (1, vi p1), (13, .bool p13)] ∧ ∃ κ', Stp [] K4 w1 κ' w') tv ?_ ?_)⟩
 revert h
 cases ht9 : (!x7)
 refine JF fun h => Jn 1 R (Jf R (Je2 U79 R R) (Jn 2 R ?_))
 cases h
 exact Jv1 _ tv ⟨R, _, (Jx2 _ _).wk R⟩ (KM R)
 refine JT fun h => Jn 4 R ?_
 cases h
 exact Jv1 _ tv ⟨R, _, (Jx2 _ _).wk R⟩ (KM R)
 rintro _ w10 _ ⟨rfl, K11, S12⟩
 have h := hK8
 refine Jd ?_
 revert h
 cases ht13 : p13
 refine JF fun h => Jy R (Js (Jp (Jq (Je [2] R (Jb 1 R ?_)))))
 have hN15 : (p0.length : Int) ≤ 9223372036854775807 := g0.len_le
 refine Ob h fun q2 hq17 hK16 => ?_
 clear h
 refine Jx1 (fun L w' => ∃ κ', L = [] ∧ Stp [] K11 w10 κ' w' ∧ q2 = Sum.inr ()) ?_ ?_
 refine Jv (Jy1 (fun k L w' => ∃ κ' v5, L = [(0, .slice a0 p0.length u0), (1, vi p1), (5, vi v5)] ∧ Stp [] K11 w10 κ' w' ∧ 0 ≤ v5 ∧ Int.toNat ((p0.length : Int) - v5) = k ∧ cntM (s_PairsOk_b0 p0 p1) k v5 () = some q2) ⟨_, _, ⟨K11, 0, R, (Jx2 _ _).wk R, (by decide), (by simp), hq17⟩, (KM R)⟩ ?_)
 rintro k _ w21 ⟨K22, v5, rfl, S23, hj15, hJ15, h⟩
 rcases k with _ | k
 have hk24 := h; obtain ⟨o15, h⟩ := ex_eq (Sum.inr (Sum.inl ()) : Bool ⊕ ((Unit) ⊕ (Unit)))
 have hc15 : decide (v5 < (p0.length : Int)) = false := Jo2 (by omega)
 refine Jq (Je [2, 2, 2, 2] R (Jn 2 R (Jf R (Je2 U79 R R) (Jb 1 R (Jw2 R hc15 (Jc1 (Jt (Jt ?_))))))))
 cases h
 have h := hk24
 refine Jb1 ?_
 cases h
 exact Jw1 _ ⟨K22, R, S23.wk R, R⟩ KN
 obtain ⟨o15, h, hk24⟩ := BI h; unfold s_PairsOk_b0 at h
 have hc15 : decide (v5 < (p0.length : Int)) = true := Jn2 (by omega)
 refine Jq (Je [2, 2, 2, 2] R (Jn 2 R (Jf R (Je2 U79 R R) (Jb 1 R (Jv2 R hc15 (Js (Jp (Jq (Jv (Je [2, 2, 2, 2, 1, 2, 1, 2, 2, 2, 2, 2, 2, 1, 2, 1, 2, 2] R (Jn 2 R (Ob h fun x22 hx22 h => Jf R (Jf2 g0 hx22 U79 Z92 R R R R) (Jf R (Jb2 U92 R Z40 R R) ?_)))))))))))))
 have f25 := g0.stp (S5.tr (S12.tr S23)) R R
 obtain ⟨cse26, hre26, hle26⟩ := (f25).gSt hx22
 obtain ⟨ae26_0, ue26_0, ae26_1, ue26_1, rfl, fe26_0, fe26_1⟩ := Pair.un hre26
 refine Jl tv R R R R (Jc2 I40 R R (hvE (fun w' hw' => hle26 w' hw' 0 _ R))) (Jn 1 R (Ob h fun x26 hx26 h => Jh R R R C168 (s_SetOk_ok (κ := fun b => mp [] 0 (K22 b)) (Jl2 fe26_0 (mp [] 0) R R) hx26) ?_))
 rintro _ w27 ⟨k28, rfl, e29⟩
 obtain ⟨K30, S31, m32⟩ := Ji e29 4 R
 refine ⟨tv, Jn 2 R (Ob h fun p37 h hK34 => Ju1 [(9, 2), (10, 2), (11, 2), (12, 2), (13, 1), (14, 2), (15, 1), (16, 2), (17, 2)] [] (fun L w' => L = [(0, .slice a0 p0.length u0), (1, vi p1), (5, vi v5), (37, .bool p37)] ∧ ∃ κ', Stp [] K30 w27 κ' w') tv ?_ ?_)⟩
 revert h
 cases ht35 : (!x26)
 refine JF fun h => Jn 2 R (Ob h fun x31 hx31 h => Jf R (Jf2 f25 hx31 U79 Z92 R R R R) (Jf R (Jb2 U92 R Z40 R R) ?_))
 obtain ⟨cse37, hre37, hle37⟩ := ((f25.stp S31 R R)).gSt hx31
 obtain ⟨ae37_0, ue37_0, ae37_1, ue37_1, rfl, fe37_0, fe37_1⟩ := Pair.un hre37
 refine Jl tv R R R R (Jc2 I40 R R (hvE (fun w' hw' => hle37 w' hw' 1 _ R))) (Jn 1 R (Ob h fun x35 hx35 h => Jh R R R C168 (s_SetOk_ok (κ := fun b => mp [] 0 (K30 b)) (Jl2 fe37_1 (mp [] 0) R R) hx35) ?_))
 rintro _ w38 ⟨k39, rfl, e40⟩
 obtain ⟨K41, S42, m43⟩ := Ji e40 6 R
 refine ⟨tv, Jn 2 R ?_⟩
 cases h
 exact Jv1 _ tv ⟨R, _, S42.wk R⟩ (KM R)
 refine JT fun h => Jn 4 R (Jd1 R R R R (Jn 1 R (Jd1 R R R R (Jn 2 R ?_))))
 cases h
 exact Jv1 _ tv ⟨R, _, (Jx2 _ _).wk R⟩ (KM R)
 rintro _ w45 _ ⟨rfl, K46, S47⟩
 have h := hK34
 refine Jd ?_
 revert h
 cases ht48 : p37
 refine JF fun h => Jy R (Js (Jz (Jp (Ja [2, 2, 2] R (Jc 3 R ?_)))))
 have hw15 : IntKind.wrap .i64 (v5 + 1) = v5 + 1 := wr1 hj15 (Jm2 hc15) hN15
 rw [hw15]
 have hc15 := Jm2 hc15
 cases h
 exact Jz1 fun a ha => ⟨k, _, Ja3 _, ⟨K46, v5 + 1, R, (S23.tr (S31.tr S47)).wk R, by omega, by omega, hk24⟩, (ha.mm R)⟩
 refine JT fun h => Jx R (Je [2] R (Jb 1 R (Ju (Ja1 (Jw (Jw ?_))))))
 cases h
 obtain rfl := Option.some.inj hk24
 have h := hK16
 dsimp only [aft] at h
 refine Ja1 (Jq2 (Jw (Ja2 (l := [.tmp 4]) V163 (Jp2 R R) R ?_)))
 cases h
 exact ⟨K46, R, (hE.stp (S5.tr (S12.tr (S23.tr (S31.tr S47)))) R R)⟩
 rintro _ w18 ⟨K19, rfl, S20, rfl⟩
 have h := hK16
 dsimp only [aft] at h
 refine Jp (Je [2] R (Jb 1 R (Ju (Ja2 (l := [.tmp 4]) V163 (Jp2 R R) R ?_))))
 cases h
 exact ⟨K19, R, (hE.stp (S5.tr (S12.tr S20)) R R)⟩
 refine JT fun h => Jx R (Je [2] R (Jb 1 R (Ju (Jw (Ja2 (l := [.tmp 4]) V163 (Jp2 R R) R ?_)))))
 cases h
 exact ⟨K11, R, (hE.stp (S5.tr S12) R R)⟩
theorem s_HoldsOn_ok {w : World} {κ : Col} {p0 : Sig} {ac ad aa ab} {p1 : Clause} {ae ah ai af} {p2 : Word} (g1_1 : Rd (Rp.int .i64) κ w 0 ac ad p1.A) (g1_2 : Rd (Rp.int .i64) κ w 0 aa ab p1.B) (g2_0 : Rd (Rp.int .i64) κ w 0 ae ah p2.Stem) (g2_1 : Rd (Rp.int .i64) κ w 0 ai af p2.Loop) {r : Bool} (h : s_HoldsOn p0 p1 p2 = some r) : Ret Tryz.prog 39 [.agg #[vi p0.In, vi p0.Out], .agg #[vi p1.Kind, .slice ac p1.A.length ad, .slice aa p1.B.length ab], .agg #[.slice ae p2.Stem.length ah, .slice ai p2.Loop.length af]] w (fun v w' => ∃ (κ' : Col), v = .bool r ∧ Ent κ w κ' w') := by
 unfold s_HoldsOn at h
 refine Ret.enter F39 R N39 R ?_
 dsimp only [envOf]
 have hE := Ent.refl κ w
 refine Je [1, 1, 1, 2] R (Jf1 (κ := κ) 2 R R R R R R R fun b3 w1 K2 S3 f4 => ⟨tv, Jf1 (κ := K2) 3 R R R R R R R fun b4 w5 K6 S7 f8 => ⟨tv, Jf1 (κ := K6) 4 R R R R R R R fun b5 w9 K10 S11 f12 => ⟨tv, Jb 1 R (Jq (Je [1, 1, 1, 2, 2, 1, 1, 1, 2, 2] R ?_))⟩⟩⟩)
 have f13 := f4.stp (S7.tr S11) R R
 refine Jl tv R R R R (Jd2 (cs := [vi p0.In, vi p0.Out]) I31 Z31 R R R (haE f13.cells)) ?_
 have f14 := f8.stp S11 R R
 refine Jl tv R R R R (Jd2 (cs := [vi p1.Kind, .slice ac p1.A.length ad, .slice aa p1.B.length ab]) I71 Z71 R R R (haE f14.cells)) (Ob h fun x10 hx10 h => ?_)
 have f15 := g1_1.stp (S3.tr (S7.tr S11)) R R
 have f16 := g1_2.stp (S3.tr (S7.tr S11)) R R
 refine Jh R R R C87 (s_ClauseOk_ok (κ := fun b => mp [] 0 (K10 b)) (p0 := p0) (p1 := p1) (Jl2 f15 (mp [] 0) R R) (Jl2 f16 (mp [] 0) R R) hx10) ?_
 rintro _ w17 ⟨k18, rfl, e19⟩
 obtain ⟨K20, S21, m22⟩ := Ji e19 5 R
 refine ⟨tv, Jn 2 R (Ob h fun p17 h hK24 => Ju1 [(5, 1), (6, 1), (7, 1), (8, 2), (9, 2)] [] (fun L w' => L = [(4, .pointer (some ⟨b4, 0, none⟩)), (5, .pointer (some ⟨b5, 0, none⟩)), (17, .bool p17)] ∧ ∃ κ', Stp [] K20 w17 κ' w') tv ?_ ?_)⟩
 revert h
 cases ht25 : (!x10)
 have S001 := (S3.tr (S7.tr (S11.tr S21)))
 refine JF fun h => Jl tv R R R R (Jd2 (cs := [vi p0.In, vi p0.Out]) I31 Z31 R R R (haE (f13.stp S21 R R).cells)) (Jl tv R R R R (Jd2 (cs := [.slice ae p2.Stem.length ah, .slice ai p2.Loop.length af]) I65 Z65 R R R (haE (f12.stp S21 R R).cells)) (Ob h fun x15 hx15 h => Jh R R R C38 (s_WordOk_ok (κ := fun b => mp [] 0 (K20 b)) (p0 := p0) (p1 := p2) (Jl2 (g2_0.stp S001 R R) (mp [] 0) R R) (Jl2 (g2_1.stp S001 R R) (mp [] 0) R R) hx15) ?_))
 rintro _ w30 ⟨k31, rfl, e32⟩
 obtain ⟨K33, S34, m35⟩ := Ji e32 7 R
 refine ⟨tv, Jn 2 R ?_⟩
 cases h
 exact Jv1 _ tv ⟨R, _, S34.wk R⟩ (KM R)
 refine JT fun h => Jd1 R R R R (Jd1 R R R R (Jd1 R R R R (Jn 2 R ?_)))
 cases h
 exact Jv1 _ tv ⟨R, _, (Jx2 _ _).wk R⟩ (KM R)
 rintro _ w37 _ ⟨rfl, K38, S39⟩
 have h := hK24
 refine Jd ?_
 revert h
 cases ht40 : p17
 refine JF fun h => Jy R (Js (Jp (Jq (Js1 (κ := K38) [4] none [(0, 2), (3, 2), (1, 0), (4, 0), (2, 1), (5, 1), (6, 2)] [] (by kernel_rfl) (by kernel_rfl) fun w43 S42 => Jf R (Jb2 U65 R Z40 R R) (Jf R (Jb2 U65 R Z40 R R) ?_)))))
 have f44 := f12.stp (S21.tr (S39.tr S42)) R R
 refine Jg R (Jc2 I40 R R (hvC (f44.ld 0 R R) R)) (Jg R (Jc2 I40 R R (hvC (f44.ld 1 R R) R)) (Ob h fun x20 hx20 h => ?_))
 have f45 := g2_0.stp (S3.tr (S7.tr (S11.tr (S21.tr (S39.tr S42))))) R R
 refine Jh R R R C88 (s_l1Copy_ok (κ := fun b => mp [] 0 (K38 b)) (Jl2 f45 (mp [] 0) R R) hx20) ?_
 rintro _ w46 ⟨k47, am, al, rfl, e48, f49⟩
 obtain ⟨K50, S51, m52⟩ := Ji e48 7 R
 refine ⟨(S51.cl R), Ob h fun x23 hx23 h => ?_⟩
 have f55 := g2_1.stp (S3.tr (S7.tr (S11.tr (S21.tr (S39.tr (S42.tr S51)))))) R R
 refine Jm1 (κ := K50) (E := E6) 9 [] R R R R R R R R R Y40 Tryzinfo2 R R R R (f49.mx (no_int _) m52 R (R : 7 + 2 = 9)) (Sl.srcP (pu_int _) f55) sy_false hx23 R fun ak aj w56 K57 S58 f59 => ⟨((S51.tr S58).cl R), Jn 1 R (Jt1 (Jd (Jq (Je [2, 1] R (Jf R (Jb2 U71 R Z2 R R) ?_)))))⟩
 have f60 := f14.stp (S21.tr (S39.tr (S42.tr (S51.tr S58)))) R R
 refine Jl tv R R R R (Jc2 I2 R R (hvE (f60.ld 0 R R))) (Jd (Jv (Je [2, 2] R (Jb 2 R ?_))))
 revert h
 cases ht61 : (p1.Kind == 1)
 refine JF fun h => Jy R (Je [2, 2] R (Jb 2 R ?_))
 revert h
 cases ht71 : (p1.Kind == 2)
 refine JF fun h => Jy R (Je [2, 2] R (Jb 2 R ?_))
 revert h
 cases ht83 : (p1.Kind == 3)
 refine JF fun h => Jy R (Je [2, 2] R (Jb 2 R ?_))
 revert h
 cases ht97 : (p1.Kind == 4)
 refine JF fun h => Jy R (Je [2, 2] R (Jb 2 R ?_))
 revert h
 cases ht109 : (p1.Kind == 5)
 refine JF fun h => Jy R (Je [2, 2] R (Jb 2 R ?_))
 revert h
 cases ht121 : (p1.Kind == 6)
 refine JF fun h => Jy R (Js (Jz (Jp (Je [2, 1, 2, 1, 1, 2, 2, 2, 1, 2, 1, 1, 2, 2] R (Jf R (Jb2 U65 R Z40 R R) ?_)))))
 have f131 := f44.stp (S51.tr S58) R R
 refine Jl tv R R R R (Jc2 I40 R R (hvE (f131.ld 1 R R))) (Jf R (Jb2 U71 R Z40 R R) (Jl tv R R R R (Jc2 I40 R R (hvE (f60.ld 1 R R))) (Ob h fun x70 hx70 h => ?_)))
 have f132 := f55.stp S58 R R
 refine Jh R R R C92 (s_l24Some_ok (κ := fun b => mp [] 0 (K57 b)) (Jl2 f132 (mp [] 0) R R) (Jl2 (f15.stp (S21.tr (S39.tr (S42.tr (S51.tr S58)))) R R) (mp [] 0) R R) hx70) ?_
 rintro _ w134 ⟨k135, rfl, e136⟩
 obtain ⟨K137, S138, m139⟩ := Ji e136 10 R
 refine ⟨tv, Jn 2 R (Ob h fun p78 h hK141 => Ju1 [(7, 2), (8, 1), (9, 2), (10, 1), (11, 1), (12, 2)] [(13, 2)] (fun L w' => L = [(78, .bool p78)] ∧ ∃ κ', Stp [] K137 w134 κ' w') tv ?_ ?_)⟩
 revert h
 cases ht142 : (!x70)
 refine JF fun h => Jf R (Jb2 U65 R Z40 R R) (Jl tv R R R R (Jc2 I40 R R (hvE ((f131.stp S138 R R).ld 1 R R))) (Jf R (Jb2 U71 R Z40 R R) (Jl tv R R R R (Jc2 I40 R R (hvE ((f60.stp S138 R R).ld 2 R R))) (Ob h fun x77 hx77 h => Jh R R R C92 (s_l24Some_ok (κ := fun b => mp [] 0 (K137 b)) (Jl2 (f132.stp S138 R R) (mp [] 0) R R) (Jl2 (f16.stp (S21.tr (S39.tr (S42.tr (S51.tr (S58.tr S138))))) R R) (mp [] 0) R R) hx77) ?_))))
 rintro _ w147 ⟨k148, rfl, e149⟩
 obtain ⟨K150, S151, m152⟩ := Ji e149 12 R
 refine ⟨tv, Jn 1 R ?_⟩
 cases h
 exact Jv1 _ tv ⟨R, _, S151.wk R⟩ (KM R)
 refine JT fun h => Jn 1 R (Jd1 R R R R (Jn 1 R (Jd1 R R R R (Jd1 R R R R (Jn 1 R ?_)))))
 cases h
 exact Jv1 _ tv ⟨R, _, (Jx2 _ _).wk R⟩ (KM R)
 rintro _ w154 _ ⟨rfl, K155, S156⟩
 have h := hK141
 refine Jb 1 R (Ju (Ja2 (l := [.tmp 6]) V39 (Jp2 R R) R ?_))
 cases h
 exact ⟨K155, R, (hE.stp (S3.tr (S7.tr (S11.tr (S21.tr (S39.tr (S42.tr (S51.tr (S58.tr (S138.tr S156))))))))) R R)⟩
 refine JT fun h => Jx R (Je [2, 2, 1, 1, 2] R (Jn 1 R (Jf R (Jb2 U71 R Z40 R R) (Jl tv R R R R (Jc2 I40 R R (hvE (f60.ld 1 R R))) (Ob h fun x65 hx65 h => Jh R R R C92 (s_l24Some_ok (κ := fun b => mp [] 0 (K57 b)) (Jl2 f59.rdc (mp [] 0) R R) (Jl2 (f15.stp (S21.tr (S39.tr (S42.tr (S51.tr S58)))) R R) (mp [] 0) R R) hx65) ?_)))))
 rintro _ w123 ⟨k124, rfl, e125⟩
 obtain ⟨K126, S127, m128⟩ := Ji e125 10 R
 refine ⟨tv, Jb 1 R (Ju (Ja1 (Jw (Ja2 (l := [.tmp 6]) V39 (Jp2 R R) R ?_))))⟩
 cases h
 exact ⟨K126, R, (hE.stp (S3.tr (S7.tr (S11.tr (S21.tr (S39.tr (S42.tr (S51.tr (S58.tr S127)))))))) R R)⟩
 refine JT fun h => Jx R (Je [2, 1, 2, 1, 1, 2] R (Jf R (Jb2 U65 R Z40 R R) (Jl tv R R R R (Jc2 I40 R R (hvE ((f44.stp (S51.tr S58) R R).ld 1 R R))) (Jf R (Jb2 U71 R Z40 R R) (Jl tv R R R R (Jc2 I40 R R (hvE (f60.ld 1 R R))) (Ob h fun x59 hx59 h => Jh R R R C89 (s_l24Each_ok (κ := fun b => mp [] 0 (K57 b)) (Jl2 (f55.stp S58 R R) (mp [] 0) R R) (Jl2 (f15.stp (S21.tr (S39.tr (S42.tr (S51.tr S58)))) R R) (mp [] 0) R R) hx59) ?_))))))
 rintro _ w113 ⟨k114, rfl, e115⟩
 obtain ⟨K116, S117, m118⟩ := Ji e115 10 R
 refine ⟨tv, Jb 1 R (Ju (Ja1 (Jw (Ja2 (l := [.tmp 6]) V39 (Jp2 R R) R ?_))))⟩
 cases h
 exact ⟨K116, R, (hE.stp (S3.tr (S7.tr (S11.tr (S21.tr (S39.tr (S42.tr (S51.tr (S58.tr S117)))))))) R R)⟩
 refine JT fun h => Jx R (Je [2, 1, 2, 1, 1, 2] R (Jf R (Jb2 U65 R Z40 R R) (Jl tv R R R R (Jc2 I40 R R (hvE ((f44.stp (S51.tr S58) R R).ld 1 R R))) (Jf R (Jb2 U71 R Z40 R R) (Jl tv R R R R (Jc2 I40 R R (hvE (f60.ld 1 R R))) (Ob h fun x52 hx52 h => Jh R R R C92 (s_l24Some_ok (κ := fun b => mp [] 0 (K57 b)) (Jl2 (f55.stp S58 R R) (mp [] 0) R R) (Jl2 (f15.stp (S21.tr (S39.tr (S42.tr (S51.tr S58)))) R R) (mp [] 0) R R) hx52) ?_))))))
 rintro _ w101 ⟨k102, rfl, e103⟩
 obtain ⟨K104, S105, m106⟩ := Ji e103 10 R
 refine ⟨tv, Jb 1 R (Ju (Ja1 (Jw (Ja2 (l := [.tmp 6]) V39 (Jp2 R R) R ?_))))⟩
 cases h
 exact ⟨K104, R, (hE.stp (S3.tr (S7.tr (S11.tr (S21.tr (S39.tr (S42.tr (S51.tr (S58.tr S105)))))))) R R)⟩
 have S002 := (S21.tr (S39.tr (S42.tr (S51.tr S58))))
 refine JT fun h => Jx R (Je [1, 1, 2, 1, 2] R (Jl tv R R R R (Jd2 (cs := [vi p1.Kind, .slice ac p1.A.length ad, .slice aa p1.B.length ab]) I71 Z71 R R R (haE f60.cells)) (Jl tv R R R R (Jd2 (cs := [.slice ae p2.Stem.length ah, .slice ai p2.Loop.length af]) I65 Z65 R R R (haE (f44.stp (S51.tr S58) R R).cells)) (Jn 1 R (Ob h fun x45 hx45 h => Jh R R R C91 (s_l24Answer_ok (κ := fun b => mp [] 0 (K57 b)) (p0 := p1) (p1 := p2) (Jl2 (f15.stp S002 R R) (mp [] 0) R R) (Jl2 (f16.stp S002 R R) (mp [] 0) R R) (Jl2 (f45.stp (S51.tr S58) R R) (mp [] 0) R R) (Jl2 (f55.stp S58 R R) (mp [] 0) R R) (Jl2 f59.rdc (mp [] 0) R R) hx45) ?_)))))
 rintro _ w89 ⟨k90, rfl, e91⟩
 obtain ⟨K92, S93, m94⟩ := Ji e91 10 R
 refine ⟨tv, Jb 1 R (Ju (Ja1 (Jw (Ja2 (l := [.tmp 6]) V39 (Jp2 R R) R ?_))))⟩
 cases h
 exact ⟨K92, R, (hE.stp (S3.tr (S7.tr (S11.tr (S21.tr (S39.tr (S42.tr (S51.tr (S58.tr S93)))))))) R R)⟩
 have S003 := (S21.tr (S39.tr (S42.tr (S51.tr S58))))
 refine JT fun h => Jx R (Je [1, 2, 2, 1, 2, 1, 2] R (Jl tv R R R R (Jd2 (cs := [vi p1.Kind, .slice ac p1.A.length ad, .slice aa p1.B.length ab]) I71 Z71 R R R (haE f60.cells)) (Jn 1 R (Jf R (Jb2 U65 R Z40 R R) (Jl tv R R R R (Jc2 I40 R R (hvE ((f44.stp (S51.tr S58) R R).ld 0 R R))) (Jf R (Je2 U40 R R) (Ob h fun x39 hx39 h => Jh R R R C90 (s_l24Next_ok (κ := fun b => mp [] 0 (K57 b)) (p0 := p1) (Jl2 (f15.stp S003 R R) (mp [] 0) R R) (Jl2 (f16.stp S003 R R) (mp [] 0) R R) (Jl2 f59.rdc (mp [] 0) R R) hx39) ?_)))))))
 rintro _ w75 ⟨k76, rfl, e77⟩
 obtain ⟨K78, S79, m80⟩ := Ji e77 10 R
 refine ⟨tv, Jb 1 R (Ju (Ja1 (Jw (Ja2 (l := [.tmp 6]) V39 (Jp2 R R) R ?_))))⟩
 cases h
 exact ⟨K78, R, (hE.stp (S3.tr (S7.tr (S11.tr (S21.tr (S39.tr (S42.tr (S51.tr (S58.tr S79)))))))) R R)⟩
 refine JT fun h => Jx R (Je [2, 2, 1, 1, 2] R (Jn 1 R (Jf R (Jb2 U71 R Z40 R R) (Jl tv R R R R (Jc2 I40 R R (hvE (f60.ld 1 R R))) (Ob h fun x31 hx31 h => Jh R R R C89 (s_l24Each_ok (κ := fun b => mp [] 0 (K57 b)) (Jl2 f59.rdc (mp [] 0) R R) (Jl2 (f15.stp (S21.tr (S39.tr (S42.tr (S51.tr S58)))) R R) (mp [] 0) R R) hx31) ?_)))))
 rintro _ w63 ⟨k64, rfl, e65⟩
 obtain ⟨K66, S67, m68⟩ := Ji e65 10 R
 refine ⟨tv, Jb 1 R (Ju (Ja1 (Jw (Ja2 (l := [.tmp 6]) V39 (Jp2 R R) R ?_))))⟩
 cases h
 exact ⟨K66, R, (hE.stp (S3.tr (S7.tr (S11.tr (S21.tr (S39.tr (S42.tr (S51.tr (S58.tr S67)))))))) R R)⟩
 refine JT fun h => Jx R (Je [2] R (Jb 1 R (Ju (Jw (Ja2 (l := [.tmp 6]) V39 (Jp2 R R) R ?_)))))
 cases h
 exact ⟨K38, R, (hE.stp (S3.tr (S7.tr (S11.tr (S21.tr S39)))) R R)⟩
theorem s_SameWord_ok {w : World} {κ : Col} {ad ae aa af} {p0 : Word} {ac ai ab ah} {p1 : Word} (g0_0 : Rd (Rp.int .i64) κ w 0 ad ae p0.Stem) (g0_1 : Rd (Rp.int .i64) κ w 0 aa af p0.Loop) (g1_0 : Rd (Rp.int .i64) κ w 0 ac ai p1.Stem) (g1_1 : Rd (Rp.int .i64) κ w 0 ab ah p1.Loop) {r : Bool} (h : s_SameWord p0 p1 = some r) : Ret Tryz.prog 41 [.agg #[.slice ad p0.Stem.length ae, .slice aa p0.Loop.length af], .agg #[.slice ac p1.Stem.length ai, .slice ab p1.Loop.length ah]] w (fun v w' => ∃ (κ' : Col), v = .bool r ∧ Ent κ w κ' w') := by
 unfold s_SameWord at h
 refine Ret.enter F41 R N41 R ?_
 dsimp only [envOf]
 have hE := Ent.refl κ w
 refine Je [1, 1, 2] R (Jf1 (κ := κ) 2 R R R R R R R fun b2 w1 K2 S3 f4 => ⟨tv, Jf1 (κ := K2) 3 R R R R R R R fun b3 w5 K6 S7 f8 => ⟨tv, Jb 1 R (Jq (Je [1, 1, 2, 2, 1, 1, 2, 2] R ?_))⟩⟩)
 have f9 := f4.stp S7 R R
 refine Jl tv R R R R (Jd2 (cs := [.slice ad p0.Stem.length ae, .slice aa p0.Loop.length af]) I65 Z65 R R R (haE f9.cells)) (Ob h fun x8 hx8 h => ?_)
 have f10 := g0_0.stp (S3.tr S7) R R
 have f11 := g0_1.stp (S3.tr S7) R R
 refine Jh R R R C94 (s_l23Fine_ok (κ := fun b => mp [] 0 (K6 b)) (p0 := p0) (Jl2 f10 (mp [] 0) R R) (Jl2 f11 (mp [] 0) R R) hx8) ?_
 rintro _ w12 ⟨k13, rfl, e14⟩
 obtain ⟨K15, S16, m17⟩ := Ji e14 4 R
 refine ⟨tv, Jn 2 R (Ob h fun p14 h hK19 => Ju1 [(4, 1), (5, 1), (6, 2), (7, 2)] [] (fun L w' => L = [(2, .pointer (some ⟨b2, 0, none⟩)), (3, .pointer (some ⟨b3, 0, none⟩)), (14, .bool p14)] ∧ ∃ κ', Stp [] K15 w12 κ' w') tv ?_ ?_)⟩
 revert h
 cases ht20 : (!x8)
 refine JF fun h => Jl tv R R R R (Jd2 (cs := [.slice ac p1.Stem.length ai, .slice ab p1.Loop.length ah]) I65 Z65 R R R (haE (f8.stp S16 R R).cells)) (Ob h fun x12 hx12 h => Jh R R R C94 (s_l23Fine_ok (κ := fun b => mp [] 0 (K15 b)) (p0 := p1) (Jl2 (g1_0.stp (S3.tr (S7.tr S16)) R R) (mp [] 0) R R) (Jl2 (g1_1.stp (S3.tr (S7.tr S16)) R R) (mp [] 0) R R) hx12) ?_)
 rintro _ w24 ⟨k25, rfl, e26⟩
 obtain ⟨K27, S28, m29⟩ := Ji e26 6 R
 refine ⟨tv, Jn 2 R ?_⟩
 cases h
 exact Jv1 _ tv ⟨R, _, S28.wk R⟩ (KM R)
 refine JT fun h => Jd1 R R R R (Jd1 R R R R (Jn 2 R ?_))
 cases h
 exact Jv1 _ tv ⟨R, _, (Jx2 _ _).wk R⟩ (KM R)
 rintro _ w31 _ ⟨rfl, K32, S33⟩
 have h := hK19
 refine Jd ?_
 revert h
 cases ht34 : p14
 refine JF fun h => Jy R (Js (Jp (Jq (Js1 (κ := K32) [2, 3] none [(0, 2), (3, 2), (7, 2), (11, 2), (1, 0), (2, 2), (4, 0), (5, 2), (8, 0), (9, 2), (12, 0), (13, 2), (6, 1), (10, 2), (14, 2), (15, 2)] [] (by kernel_rfl) (by kernel_rfl) fun w37 S36 => Jf R (Jb2 U65 R Z40 R R) (Jf R (Jb2 U65 R Z40 R R) (Jf R (Jb2 U65 R Z40 R R) (Jf R (Jb2 U65 R Z40 R R) ?_)))))))
 have f38 := f9.stp (S16.tr (S33.tr S36)) R R
 refine Jg R (Jc2 I40 R R (hvC (f38.ld 0 R R) R)) (Jf R (Je2 U40 R R) ?_)
 have f39 := f8.stp (S16.tr (S33.tr S36)) R R
 refine Jg R (Jc2 I40 R R (hvC (f39.ld 0 R R) R)) (Jf R (Je2 U40 R R) (Jg R (Jc2 I40 R R (hvC (f38.ld 1 R R) R)) (Jf R (Je2 U40 R R) (Jg R (Jc2 I40 R R (hvC (f39.ld 1 R R) R)) (Jf R (Je2 U40 R R) (Ob h fun x21 hx21 h => Jh R R R C95 (s_l1Max_ok (κ := fun b => mp [] 0 (K32 b)) hx21) ?_))))))
 rintro _ w40 ⟨k41, rfl, e42⟩
 obtain ⟨K43, S44, m45⟩ := Ji e42 6 R
 refine ⟨(S44.cl R), Jn 3 R (Jt1 (Jd (Jq (Je [2] R (Jb 1 R (Ob h fun _ hr47 h => ?_))))))⟩
 have hN47 := rng_ok hr47
 refine Ob h fun q2 hq49 hK48 => ?_
 clear h
 refine Jx1 (fun L w' => ∃ κ', L = [] ∧ Stp [] K43 w40 κ' w' ∧ q2 = Sum.inr ()) ?_ ?_
 refine Jv (Jy1 (fun k L w' => ∃ κ' v6, L = [(2, .pointer (some ⟨b2, 0, none⟩)), (3, .pointer (some ⟨b3, 0, none⟩)), (5, vi (IntKind.i64.wrap ((IntKind.i64.wrap (x21 + (p0.Loop.length : Int))) + (p1.Loop.length : Int)))), (6, vi v6)] ∧ Stp [] K43 w40 κ' w' ∧ 0 ≤ v6 ∧ Int.toNat ((IntKind.i64.wrap ((IntKind.i64.wrap (x21 + (p0.Loop.length : Int))) + (p1.Loop.length : Int))) - v6) = k ∧ cntM (s_SameWord_b0 p0 p1) k v6 () = some q2) ⟨_, _, ⟨K43, 0, R, (Jx2 _ _).wk R, (by decide), (by simp), hq49⟩, (KM R)⟩ ?_)
 rintro k _ w53 ⟨K54, v6, rfl, S55, hj47, hJ47, h⟩
 rcases k with _ | k
 have hk56 := h; obtain ⟨o47, h⟩ := ex_eq (Sum.inr (Sum.inl ()) : Bool ⊕ ((Unit) ⊕ (Unit)))
 have hc47 : decide (v6 < (IntKind.i64.wrap ((IntKind.i64.wrap (x21 + (p0.Loop.length : Int))) + (p1.Loop.length : Int)))) = false := Jo2 (by omega)
 refine Jq (Je [2, 2, 2] R (Jb 3 R (Jw2 R hc47 (Jc1 (Jt (Jt ?_))))))
 cases h
 have h := hk56
 refine Jb1 ?_
 cases h
 exact Jw1 _ ⟨K54, R, S55.wk R, R⟩ KN
 obtain ⟨o47, h, hk56⟩ := BI h; unfold s_SameWord_b0 at h
 have hc47 : decide (v6 < (IntKind.i64.wrap ((IntKind.i64.wrap (x21 + (p0.Loop.length : Int))) + (p1.Loop.length : Int)))) = true := Jn2 (by omega)
 have S001 := (S16.tr (S33.tr (S36.tr (S44.tr S55))))
 refine Jq (Je [2, 2, 2] R (Jb 3 R (Jv2 R hc47 (Js (Jp (Jq (Jv (Jq (Js1 (κ := K54) [2, 3] none [(1, 2), (4, 2), (0, 0), (3, 0), (2, 1), (5, 1), (6, 2)] [] (by kernel_rfl) (by kernel_rfl) fun w58 S57 => Jn 2 R (Jg R (Jd2 (cs := [.slice ad p0.Stem.length ae, .slice aa p0.Loop.length af]) I65 Z65 R R R (haC (f38.stp (S44.tr (S55.tr S57)) R R).cells R)) (Jg R (Jd2 (cs := [.slice ac p1.Stem.length ai, .slice ab p1.Loop.length ah]) I65 Z65 R R R (haC (f39.stp (S44.tr (S55.tr S57)) R R).cells R)) (Ob h fun x37 hx37 h => Jh R R R C96 (s_l23At_ok (κ := fun b => mp [] 0 (K54 b)) (p0 := p0) (Jl2 (f10.stp (S001.tr S57) R R) (mp [] 0) R R) (Jl2 (f11.stp (S001.tr S57) R R) (mp [] 0) R R) hx37) ?_))))))))))))
 rintro _ w63 ⟨k64, rfl, e65⟩
 obtain ⟨K66, S67, m68⟩ := Ji e65 8 R
 have S002 := (S3.tr (S7.tr (S16.tr (S33.tr (S36.tr (S44.tr (S55.tr (S57.tr S67))))))))
 refine ⟨(S67.cl R), Ob h fun x40 hx40 h => Jh R R R C96 (s_l23At_ok (κ := fun b => mp [] 0 (K66 b)) (p0 := p1) (Jl2 (g1_0.stp S002 R R) (mp [] 0) R R) (Jl2 (g1_1.stp S002 R R) (mp [] 0) R R) hx40) ?_⟩
 rintro _ w72 ⟨k73, rfl, e74⟩
 obtain ⟨K75, S76, m77⟩ := Ji e74 10 R
 refine ⟨((S67.tr S76).cl R), Jn 1 R (Jt1 (Jd ?_))⟩
 revert h
 cases ht79 : (x37 != x40)
 refine JF fun h => Jy R (Js (Jz (Jp (Ja [2, 2, 2] R (Jc 3 R ?_)))))
 have hw47 : IntKind.wrap .i64 (v6 + 1) = v6 + 1 := wr1 hj47 (Jm2 hc47) hN47
 rw [hw47]
 have hc47 := Jm2 hc47
 cases h
 exact Jz1 fun a ha => ⟨k, _, Ja3 _, ⟨K75, v6 + 1, R, (S55.tr (S57.tr (S67.tr S76))).wk R, by omega, by omega, hk56⟩, (ha.mm R)⟩
 refine JT fun h => Jx R (Je [2] R (Jb 1 R (Ju (Ja1 (Jw (Jw ?_))))))
 cases h
 obtain rfl := Option.some.inj hk56
 have h := hK48
 dsimp only [aft] at h
 refine Ja1 (Jq2 (Jw (Ja2 (l := [.tmp 4]) V41 (Jp2 R R) R ?_)))
 cases h
 exact ⟨K75, R, (hE.stp (S3.tr (S7.tr (S16.tr (S33.tr (S36.tr (S44.tr (S55.tr (S57.tr (S67.tr S76))))))))) R R)⟩
 rintro _ w50 ⟨K51, rfl, S52, rfl⟩
 have h := hK48
 dsimp only [aft] at h
 refine Jp (Je [2] R (Jb 1 R (Ju (Ja2 (l := [.tmp 4]) V41 (Jp2 R R) R ?_))))
 cases h
 exact ⟨K51, R, (hE.stp (S3.tr (S7.tr (S16.tr (S33.tr (S36.tr (S44.tr S52)))))) R R)⟩
 refine JT fun h => Jx R (Je [2] R (Jb 1 R (Ju (Jw (Ja2 (l := [.tmp 4]) V41 (Jp2 R R) R ?_)))))
 cases h
 exact ⟨K32, R, (hE.stp (S3.tr (S7.tr (S16.tr S33))) R R)⟩
end Go.Proofs.YtcmamhmpoinmnaaGreat
