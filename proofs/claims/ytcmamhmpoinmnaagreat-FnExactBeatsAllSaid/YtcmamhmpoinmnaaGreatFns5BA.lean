/- The walks, part 5. By program. -/
import Derived.Test.YtcmamhmpoinmnaaGreatFns1BA
import Derived.Test.YtcmamhmpoinmnaaGreatFns2BA
set_option linter.unusedVariables false
set_option linter.unusedSimpArgs false
namespace Go.Proofs.YtcmamhmpoinmnaaGreat
open Go Go.Wk Go.Proofs
set_option maxRecDepth 100000
set_option maxHeartbeats 1000000
theorem l_toRival_ok {w : World} {κ : Col} {ae ah af ai} {p0 : Rival} (g0_0 : Rd (Rp.int .i64) κ w 0 ae ah p0.In) (g0_1 : Rd (Rp.sl (Rp.int .i64)) κ w 0 af ai p0.Next) {r : Rival} (h : l_toRival p0 = some r) : Ret Tryz.prog 27 [.agg #[.slice ae p0.In.length ah, .slice af p0.Next.length ai]] w (fun v w' => ∃ (κ' : Col) (ra0 : Option Addr) (ru0 : Nat) (ra1 : Option Addr) (ru1 : Nat), v = .agg #[.slice ra0 r.In.length ru0, .slice ra1 r.Next.length ru1] ∧ Ent κ w κ' w' ∧ Oc E6 2 κ' w' 2 ra0 ru0 r.In ∧ Oc (Ep.own E6 2) 40 κ' w' 3 ra1 ru1 r.Next) := by
 unfold l_toRival at h
 refine Ret.enter F27 R N27 R ?_
 dsimp only [envOf]
 have hE := Ent.refl κ w
 refine Je [1, 1] R (Jf1 (κ := κ) 2 R R R R R R R fun b1 w1 K2 S3 f4 => ⟨tv, Jg1 (κ := K2) 3 R R R R R X50 R fun b2 w5 K6 S7 f8 => ⟨tv, Jd (Je [1] R (Jg1 (κ := K6) 4 R R R R R X50 R fun b3 w9 K10 S11 f12 => ⟨tv, Jd (Je [2, 1, 1, 2, 1] R (Jf R (Jb2 U47 R Z40 R R) ?_))⟩))⟩⟩)
 have f13 := f4.stp (S7.tr S11) R R
 refine Jl tv R R R R (Jc2 I40 R R (hvE (f13.ld 0 R R))) (Ob h fun x6 hx6 h => Jh R R R C68 (l_toInt64S_ok (κ := fun b => mp [] 0 (K10 b)) (Jl2 (g0_0.stp (S3.tr (S7.tr S11)) R R) (mp [] 0) R R) hx6) ?_)
 rintro _ w15 ⟨k16, aa, ab, rfl, e17, f18⟩
 obtain ⟨K19, S20, m21⟩ := Ji e17 5 R
 refine ⟨tv, Jf R (Jb2 U50 R Z40 R R) (Ji1 (κ := K19) 4 (off := 0) (vc := [.slice aa x6.length ab]) (cs' := [.slice aa x6.length ab, .slice none 0 0]) R R R R R R R Z40 R R (f12.stp S20 R R) R R fun w25 S26 f27 => ⟨tv, Jd (Je [2, 1, 1, 2, 1] R (Jf R (Jb2 U47 R Z24 R R) (Jl tv R R R R (Jc2 I24 R R (hvE ((f13.stp (S20.tr S26) R R).ld 1 R R))) (Ob h fun x10 hx10 h => Jh R R R C50 (l_toInt64SS_ok (κ := fun b => mp [] 0 (K19 b)) (Jl2 (g0_1.stp (S3.tr (S7.tr (S11.tr (S20.tr S26)))) R R) (mp [] 0) R R) hx10) ?_))))⟩)⟩
 rintro _ w30 ⟨k31, ad, ac, rfl, e32, f33⟩
 obtain ⟨K34, S35, m36⟩ := Ji e32 8 R
 refine ⟨tv, Jf R (Jb2 U50 R Z24 R R) (Ji1 (κ := K34) 4 (off := 1) (vc := [.slice ad x10.length ac]) (cs' := [.slice aa x6.length ab, .slice ad x10.length ac]) R R R R R R R Z24 R R (f27.stp S35 R R) R R fun w40 S41 f42 => ⟨tv, Jd (Je [1, 1] R (Jl tv R R R R (Jd2 (cs := [.slice aa x6.length ab, .slice ad x10.length ac]) I50 Z50 R R R (haE f42.cells)) (Jj1 (κ := K34) 3 (vc := [.slice aa x6.length ab, .slice ad x10.length ac]) R R R R R R R Z50 R R (f8.stp (S11.tr (S20.tr (S26.tr (S35.tr S41)))) R R) R fun w44 S45 f46 => ⟨tv, Jd (Ju (Ja2 (l := [.cell 2 50]) V27 (res_cellA R f46 I50 Z50 R R) R ?_))⟩)))⟩)⟩
 cases h
 exact ⟨(fun b => ren [(7, 2), (10, 3)] (K34 b)), aa, ab, ad, ac, R, ((hE.stp (S3.tr (S7.tr (S11.tr (S20.tr (S26.tr (S35.tr (S41.tr S45))))))) R R).map (ren [(7, 2), (10, 3)]) R R), (((f18.mx (no_int _) m21 R (R : 5 + 2 = 7)).stp (S26.tr (S35.tr (S41.tr S45))) R R).map (ren [(7, 2), (10, 3)]) R R), (((f33.mx (no_own (no_int _) _) m36 R (R : 8 + 2 = 10)).stp (S41.tr S45) R R).map (ren [(7, 2), (10, 3)]) R R)⟩
theorem l_toClauseS_ok {w : World} {κ : Col} {a0 u0} {p0 : (List Clause)} (g0 : Rd Clause.rp κ w 0 a0 u0 p0) {r : (List Clause)} (h : l_toClauseS p0 = some r) : Ret Tryz.prog 14 [.slice a0 p0.length u0] w (fun v w' => ∃ (κ' : Col) (ra0 : Option Addr) (ru0 : Nat), v = .slice ra0 r.length ru0 ∧ Ent κ w κ' w' ∧ Oc Clause.ep71 71 κ' w' 2 ra0 ru0 r) := by
 unfold l_toClauseS at h
 refine Ret.enter F14 R N14 R ?_
 dsimp only [envOf]
 have hE := Ent.refl κ w
 refine Je [2] R (Jb 1 R (Je [2, 2, 1, 2] R (Jn 1 R (Jf R (Je2 U27 R R) (Ob h fun x7 hx7 h => Jl1 (κ := κ) (E := Clause.ep71) (z := ((⟨0, ([] : List Int), ([] : List Int)⟩ : Clause) : Clause)) 2 R R R R R R R Y35 Tryzinfo71 R R R R R (fun _ _ _ => ⟨[vi 0], [.slice none 0 0, .slice none 0 0], fun _ => False, fun _ => False, R, fun _ h => h.elim, fun _ h => h.elim, R, ⟨[.slice none 0 0], [.slice none 0 0], fun _ => False, fun _ => False, R, fun _ h => h.elim, fun _ h => h.elim, ⟨none, 0, R, Ow.nil⟩, ⟨none, 0, R, Ow.nil⟩⟩⟩) (Ju2 hx7) fun a7 u7 w1 K2 S3 f4 => ⟨tv, Jb 1 R (Jq (Je [2] R (Jb 1 R ?_)))⟩)))))
 have hN5 : (p0.length : Int) ≤ 9223372036854775807 := g0.len_le
 refine Ob h fun q2 hq7 hK6 => ?_
 clear h
 refine Jx1 (fun L w' => ∃ κ', ∃ s3 : (List Clause), L = [(3, .slice a7 x7.length u7)] ∧ Stp [2, 5, 6] K2 w1 κ' w' ∧ Oc Clause.ep71 71 κ' w' 2 a7 u7 s3 ∧ x7.length = s3.length ∧ q2 = Sum.inr s3) ?_ ?_
 refine Jv (Jy1 (fun k L w' => ∃ κ' v4, ∃ s1 : (List Clause), L = [(0, .slice a0 p0.length u0), (3, .slice a7 x7.length u7), (4, vi v4)] ∧ Stp [2, 5, 6] K2 w1 κ' w' ∧ Oc Clause.ep71 71 κ' w' 2 a7 u7 s1 ∧ x7.length = s1.length ∧ 0 ≤ v4 ∧ Int.toNat ((p0.length : Int) - v4) = k ∧ cntM (l_toClauseS_b0 p0) k v4 s1 = some q2) ⟨_, _, ⟨K2, 0, (x7 : (List Clause)), R, (Jx2 _ _).wk R, f4, R, (by decide), (by simp), hq7⟩, (KM R)⟩ ?_)
 rintro k _ w13 ⟨K14, v4, s1, rfl, S15, f16, hn17, hj5, hJ5, h⟩
 rcases k with _ | k
 have hk18 := h; obtain ⟨o5, h⟩ := ex_eq (Sum.inr (Sum.inl s1) : (List Clause) ⊕ (((List Clause)) ⊕ ((List Clause))))
 have hc5 : decide (v4 < (p0.length : Int)) = false := Jo2 (by omega)
 refine Jq (Je [2, 2, 2, 2] R (Jn 2 R (Jf R (Je2 U27 R R) (Jb 1 R (Jw2 R hc5 (Jc1 (Jt (Jt ?_))))))))
 cases h
 have h := hk18
 refine Jb1 ?_
 cases h
 exact Jw1 _ ⟨K14, (s1 : (List Clause)), R, S15.wk R, f16, hn17, R⟩ (KM R)
 obtain ⟨o5, h, hk18⟩ := BI h; unfold l_toClauseS_b0 at h
 have hc5 : decide (v4 < (p0.length : Int)) = true := Jn2 (by omega)
 refine Jq (Je [2, 2, 2, 2] R (Jn 2 R (Jf R (Je2 U27 R R) (Jb 1 R (Jv2 R hc5 (Js (Jp (Jq (Jv (Ja [2, 2, 2, 2, 2, 1, 1, 2, 1] R (Jn 4 R (Ob h fun x18 hx18 h => Jf R (Jf2 g0 hx18 U27 Z78 R R R R) ?_))))))))))))
 obtain ⟨cse20, hre20, hle20⟩ := ((g0.stp (S3.tr S15) R R)).gSt hx18
 obtain ⟨ae20_0, ue20_0, ae20_1, ue20_1, rfl, fe20_0, fe20_1⟩ := Clause.un hre20
 refine Jl tv R R R R (Jd2 (cs := [vi x18.Kind, .slice ae20_0 x18.A.length ue20_0, .slice ae20_1 x18.B.length ue20_1]) I78 Z78 R R R (haE hle20)) (Ob h fun x20 hx20 h => Jh R R R C51 (l_toClause_ok (κ := fun b => mp [] 0 (K14 b)) (p0 := x18) (Jl2 fe20_0 (mp [] 0) R R) (Jl2 fe20_1 (mp [] 0) R R) hx20) ?_)
 rintro _ w21 ⟨k22, ad, ab, ac, aa, rfl, e23, f24, f25⟩
 obtain ⟨K26, S27, m28⟩ := Ji e23 3 R
 refine ⟨tv, Ob h fun x21 hx21 h => Jf R (Jf2 f16.rdc hx21 U35 Z71 R R hn17 R) (Ob h fun y22 hy22 h => Jk1 (κ := K26) (E := Clause.ep71) 2 [5, 6] R R R R R R R R Z71 R ⟨[vi x20.Kind], [.slice ad x20.A.length ab, .slice ac x20.B.length aa], Zl K26 w21 [], Zl K26 w21 [5, 6], R, Zl.sp (l1 := []) (l2 := [5, 6]) R, Zl.sr (l1 := []) (l2 := [5, 6]), R, ⟨[.slice ad x20.A.length ab], [.slice ac x20.B.length aa], Zl K26 w21 [5], Zl K26 w21 [6], R, Zl.sp (l1 := [5]) (l2 := [6]) R, Zl.sr (l1 := [5]) (l2 := [6]), ⟨_, _, R, (f24.mx (no_int _) m28 R (R : 3 + 2 = 5))⟩, ⟨_, _, R, (f25.mx (no_int _) m28 R (R : 3 + 3 = 6))⟩⟩⟩ R R (f16.stp S27 R R) hy22 fun w33 K34 S35 f36 => ⟨tv, ?_⟩)⟩
 have hn37 : x7.length = y22.length := hn17.trans (Jt2 hy22).2.2.2.symm
 refine Jo (Jz (Jp (Ja [2, 2, 2] R (Jc 3 R ?_))))
 have hw5 : IntKind.wrap .i64 (v4 + 1) = v4 + 1 := wr1 hj5 (Jm2 hc5) hN5
 rw [hw5]
 have hc5 := Jm2 hc5
 cases h
 exact Jz1 fun a ha => ⟨k, _, Ja3 _, ⟨K34, v4 + 1, (y22 : (List Clause)), R, (S15.tr (S27.tr S35)).wk R, f36, hn37, by omega, by omega, hk18⟩, (ha.mm R)⟩
 rintro _ w8 ⟨K9, s3, rfl, S10, f11, hn12, rfl⟩
 have h := hK6
 dsimp only [aft] at h
 refine Jp (Je [2, 2] R (Jb 2 R (Ju (Ja2 (l := [.tmp 2]) V14 (Jp2 R R) R ?_))))
 cases h
 exact ⟨K9, a7, u7, (by simp only [hn12]), (hE.stp (S3.tr S10) R R), f11⟩
theorem s_LettersOf_ok {w : World} {κ : Col} {p0 : Sig}  {r : Int} (h : s_LettersOf p0 = some r) : Ret Tryz.prog 86 [.agg #[vi p0.In, vi p0.Out]] w (fun v w' => ∃ (κ' : Col), v = vi r ∧ Ent κ w κ' w') := by
 unfold s_LettersOf at h
 refine Ret.enter F86 R N86 R ?_
 dsimp only [envOf]
 have hE := Ent.refl κ w
 refine Je [1, 2] R (Jf1 (κ := κ) 2 R R R R R R R fun b1 w1 K2 S3 f4 => ⟨tv, Jb 1 R (Jq (Je [1, 1, 2] R (Jl tv R R R R (Jd2 (cs := [vi p0.In, vi p0.Out]) I31 Z31 R R R (haE f4.cells)) (Ob h fun x4 hx4 h => Jh R R R C84 (s_SigOk_ok (κ := fun b => mp [] 0 (K2 b)) (p0 := p0) hx4) ?_))))⟩)
 rintro _ w5 ⟨k6, rfl, e7⟩
 obtain ⟨K8, S9, m10⟩ := Ji e7 3 R
 refine ⟨tv, Jb 1 R ?_⟩
 revert h
 cases ht12 : (!x4)
 refine JF fun h => Jy R (Js (Jp (Je [2, 1, 2, 1, 2, 1, 2] R (Jf R (Jb2 U31 R Z2 R R) ?_))))
 have f14 := f4.stp S9 R R
 refine Jl tv R R R R (Jc2 I2 R R (hvE (f14.ld 0 R R))) (Jf R (Jb2 U31 R Z2 R R) (Jl tv R R R R (Jc2 I2 R R (hvE (f14.ld 1 R R))) (Jn 1 R (Ob h fun x11 hx11 h => Jh R R R C93 (s_l23Power_ok (κ := fun b => mp [] 0 (K8 b)) hx11) ?_))))
 rintro _ w15 ⟨k16, rfl, e17⟩
 obtain ⟨K18, S19, m20⟩ := Ji e17 5 R
 refine ⟨tv, Jb 1 R (Ju (Ja2 (l := [.tmp 2]) V86 (Jp2 R R) R ?_))⟩
 cases h
 exact ⟨K18, R, (hE.stp (S3.tr (S9.tr S19)) R R)⟩
 refine JT fun h => Jx R (Je [2] R (Jb 1 R (Ju (Jw (Ja2 (l := [.tmp 2]) V86 (Jp2 R R) R ?_)))))
 cases h
 exact ⟨K8, R, (hE.stp (S3.tr S9) R R)⟩
theorem s_RivalOk_ok {w : World} {κ : Col} {p0 : Sig} {ad ac aa ab} {p1 : Rival} (g1_0 : Rd (Rp.int .i64) κ w 0 ad ac p1.In) (g1_1 : Rd (Rp.sl (Rp.int .i64)) κ w 0 aa ab p1.Next) {r : Bool} (h : s_RivalOk p0 p1 = some r) : Ret Tryz.prog 60 [.agg #[vi p0.In, vi p0.Out], .agg #[.slice ad p1.In.length ac, .slice aa p1.Next.length ab]] w (fun v w' => ∃ (κ' : Col), v = .bool r ∧ Ent κ w κ' w') := by
 unfold s_RivalOk at h
 refine Ret.enter F60 R N60 R ?_
 dsimp only [envOf]
 have hE := Ent.refl κ w
 refine Je [1, 1, 2] R (Jf1 (κ := κ) 2 R R R R R R R fun b2 w1 K2 S3 f4 => ⟨tv, Jf1 (κ := K2) 3 R R R R R R R fun b3 w5 K6 S7 f8 => ⟨tv, Jb 1 R (Je [2, 1, 2, 2] R (Jf R (Jb2 U50 R Z40 R R) (Jl tv R R R R (Jc2 I40 R R (hvE (f8.ld 0 R R))) (Jf R (Je2 U40 R R) (Jb 1 R (Jq (Jq (Js1 (κ := K6) [2, 3] none [(0, 0), (1, 1), (2, 2), (3, 2), (4, 2), (5, 1), (6, 2), (7, 2), (8, 2), (9, 2), (12, 2), (10, 0), (11, 2), (13, 0), (14, 2), (15, 2), (16, 2), (17, 2), (18, 2), (19, 0), (20, 0), (21, 1), (22, 1), (23, 2), (24, 2)] [] (by kernel_rfl) (by kernel_rfl) fun w10 S9 => ?_))))))))⟩⟩)
 have f11 := f4.stp (S7.tr S9) R R
 refine Jg R (Jd2 (cs := [vi p0.In, vi p0.Out]) I31 Z31 R R R (haC f11.cells R)) (Ob h fun x11 hx11 h => Jh R R R C84 (s_SigOk_ok (κ := fun b => mp [] 0 (K6 b)) (p0 := p0) hx11) ?_)
 rintro _ w12 ⟨k13, rfl, e14⟩
 obtain ⟨K15, S16, m17⟩ := Ji e14 4 R
 refine ⟨(S16.cl R), Jn 2 R (Ob h fun p17 h hK19 => Ju1 [(4, 2), (5, 1), (6, 2), (7, 2)] [(8, 2), (9, 2), (12, 2), (10, 0), (11, 2), (13, 0), (14, 2), (15, 2), (16, 2), (17, 2), (18, 2), (19, 0), (20, 0), (21, 1), (22, 1), (23, 2), (24, 2)] (fun L w' => L = [(2, .pointer (some ⟨b2, 0, none⟩)), (3, .pointer (some ⟨b3, 0, none⟩)), (5, vi (p1.In.length : Int)), (17, .bool p17)] ∧ ∃ κ', Stp [] K15 w12 κ' w') (S16.cl R) ?_ ?_)⟩
 revert h
 cases ht20 : (!x11)
 refine JF fun h => Jn 1 R (Ob h fun x15 hx15 h => Jh R R R C77 (s_l1In_ok (κ := fun b => mp [] 0 (K15 b)) hx15) ?_)
 rintro _ w21 ⟨k22, rfl, e23⟩
 obtain ⟨K24, S25, m26⟩ := Ji e23 6 R
 refine ⟨((S16.tr S25).cl R), Jn 2 R ?_⟩
 cases h
 exact Jv1 _ ((S16.tr S25).cl R) ⟨R, _, S25.wk R⟩ (KM R)
 refine JT fun h => Jn 1 R (Jd1 R R R R (Jn 2 R ?_))
 cases h
 exact Jv1 _ (S16.cl R) ⟨R, _, (Jx2 _ _).wk R⟩ (KM R)
 rintro _ w28 _ ⟨rfl, K29, S30⟩
 have h := hK19
 refine Jn 1 R (Ob h fun p26 h hK31 => Ju1 [(9, 2), (12, 2), (10, 0), (11, 2), (13, 0), (14, 2), (15, 2), (16, 2)] [(17, 2), (18, 2), (19, 0), (20, 0), (21, 1), (22, 1), (23, 2), (24, 2)] (fun L w' => L = [(2, .pointer (some ⟨b2, 0, none⟩)), (3, .pointer (some ⟨b3, 0, none⟩)), (5, vi (p1.In.length : Int)), (26, .bool p26)] ∧ ∃ κ', Stp [] K29 w28 κ' w') ((S16.tr S30).cl R) ?_ ?_)
 revert h
 cases ht32 : p17
 refine JF fun h => Jf R (Jb2 U50 R Z24 R R) (Jf R (Jb2 U50 R Z40 R R) ?_)
 have f33 := f8.stp S9 R R
 refine Jg R (Jc2 I24 R R (hvC (f33.ld 1 R R) R)) (Jf R (Je2 U24 R R) (Jg R (Jc2 I40 R R (hvC (f33.ld 0 R R) R)) (Jf R (Je2 U40 R R) (Jn 2 R ?_))))
 cases h
 exact Jv1 _ ((S16.tr S30).cl R) ⟨R, _, (Jx2 _ _).wk R⟩ (KM R)
 refine JT fun h => Jn 2 R (Je1 R R R R (Jn 1 R (Je1 R R R R (Jn 3 R ?_))))
 cases h
 exact Jv1 _ ((S16.tr S30).cl R) ⟨R, _, (Jx2 _ _).wk R⟩ (KM R)
 rintro _ w34 _ ⟨rfl, K35, S36⟩
 have h := hK31
 refine Jn 1 R (Ob h fun p34 h hK37 => Ju1 [(18, 2), (19, 0), (20, 0), (21, 1), (22, 1), (23, 2), (24, 2)] [] (fun L w' => L = [(2, .pointer (some ⟨b2, 0, none⟩)), (3, .pointer (some ⟨b3, 0, none⟩)), (5, vi (p1.In.length : Int)), (34, .bool p34)] ∧ ∃ κ', Stp [] K35 w34 κ' w') ((S16.tr (S30.tr S36)).cl R) ?_ ?_)
 revert h
 cases ht38 : p26
 refine JF fun h => Jf R (Jb2 U50 R Z40 R R) (Jg R (Jc2 I40 R R (hvC ((f8.stp S9 R R).ld 0 R R) R)) (Jg R (Jd2 (cs := [vi p0.In, vi p0.Out]) I31 Z31 R R R (haC f11.cells R)) (Ob h fun x31 hx31 h => Jh R R R C113 (s_l27Inputs_ok (κ := fun b => mp [] 0 (K35 b)) (p0 := p0) hx31) ?_)))
 rintro _ w40 ⟨k41, rfl, e42⟩
 obtain ⟨K43, S44, m45⟩ := Ji e42 6 R
 refine ⟨((S16.tr (S30.tr (S36.tr S44))).cl R), Ob h fun x32 hx32 h => Jh R R R C112 (s_l23Below_ok (κ := fun b => mp [] 0 (K43 b)) (Jl2 (g1_0.stp (S3.tr (S7.tr (S9.tr (S16.tr (S30.tr (S36.tr S44)))))) R R) (mp [] 0) R R) hx32) ?_⟩
 rintro _ w48 ⟨k49, rfl, e50⟩
 obtain ⟨K51, S52, m53⟩ := Ji e50 8 R
 refine ⟨((S16.tr (S30.tr (S36.tr (S44.tr S52)))).cl R), Jn 2 R ?_⟩
 cases h
 exact Jv1 _ ((S16.tr (S30.tr (S36.tr (S44.tr S52)))).cl R) ⟨R, _, (S44.tr S52).wk R⟩ (KM R)
 refine JT fun h => Jn 1 R (Je1 R R R R (Je1 R R R R (Jd1 R R R R (Jd1 R R R R (Jn 2 R ?_)))))
 cases h
 exact Jv1 _ ((S16.tr (S30.tr S36)).cl R) ⟨R, _, (Jx2 _ _).wk R⟩ (KM R)
 rintro _ w55 _ ⟨rfl, K56, S57⟩
 have h := hK37
 refine Jt1 (Jd ?_)
 revert h
 cases ht58 : p34
 refine JF fun h => Jy R (Js (Jp (Jq (Je [2] R (Jb 1 R ?_)))))
 have hN60 : (p1.Next.length : Int) ≤ 9223372036854775807 := g1_1.len_le
 refine Ob h fun q2 hq62 hK61 => ?_
 clear h
 refine Jx1 (fun L w' => ∃ κ', L = [] ∧ Stp [] K56 w55 κ' w' ∧ q2 = Sum.inr ()) ?_ ?_
 refine Jv (Jy1 (fun k L w' => ∃ κ' v6, L = [(2, .pointer (some ⟨b2, 0, none⟩)), (3, .pointer (some ⟨b3, 0, none⟩)), (5, vi (p1.In.length : Int)), (6, vi v6)] ∧ Stp [] K56 w55 κ' w' ∧ 0 ≤ v6 ∧ Int.toNat ((p1.Next.length : Int) - v6) = k ∧ cntM (s_RivalOk_b0 p0 p1) k v6 () = some q2) ⟨_, _, ⟨K56, 0, R, (Jx2 _ _).wk R, (by decide), (by simp), hq62⟩, (KM R)⟩ ?_)
 rintro k _ w66 ⟨K67, v6, rfl, S68, hj60, hJ60, h⟩
 rcases k with _ | k
 have hk69 := h; obtain ⟨o60, h⟩ := ex_eq (Sum.inr (Sum.inl ()) : Bool ⊕ ((Unit) ⊕ (Unit)))
 have hc60 : decide (v6 < (p1.Next.length : Int)) = false := Jo2 (by omega)
 refine Jq (Je [2, 2, 1, 2, 2] R (Jn 1 R (Jf R (Jb2 U50 R Z24 R R) (Jl tv R R R R (Jc2 I24 R R (hvE ((f8.stp (S9.tr (S16.tr (S30.tr (S36.tr (S57.tr S68))))) R R).ld 1 R R))) (Jf R (Je2 U24 R R) (Jb 1 R (Jw2 R hc60 (Jc1 (Jt (Jt ?_))))))))))
 cases h
 have h := hk69
 refine Jb1 ?_
 cases h
 exact Jw1 _ ⟨K67, R, S68.wk R, R⟩ KN
 obtain ⟨o60, h, hk69⟩ := BI h; unfold s_RivalOk_b0 at h
 have hc60 : decide (v6 < (p1.Next.length : Int)) = true := Jn2 (by omega)
 refine Jq (Je [2, 2, 1, 2, 2] R (Jn 1 R (Jf R (Jb2 U50 R Z24 R R) ?_)))
 have f71 := f8.stp (S9.tr (S16.tr (S30.tr (S36.tr (S57.tr S68))))) R R
 refine Jl tv R R R R (Jc2 I24 R R (hvE (f71.ld 1 R R))) (Jf R (Je2 U24 R R) (Jb 1 R (Jv2 R hc60 (Js (Jp (Jq (Jv (Jq (Js1 (κ := K67) [0, 2, 3] none [(0, 2), (2, 2), (1, 0), (3, 2), (4, 0), (5, 2), (6, 0), (7, 1), (8, 2), (9, 2), (10, 2), (12, 2), (15, 2), (11, 0), (13, 2), (14, 0), (16, 1), (17, 2), (18, 2)] [] (by kernel_rfl) (by kernel_rfl) fun w73 S72 => Jf R (Jb2 U50 R Z24 R R) (Jn 1 R ?_))))))))))
 have f74 := f71.stp S72 R R
 refine Jg R (Jc2 I24 R R (hvC (f74.ld 1 R R) R)) (Ob h fun x45 hx45 h => Jf R (Jf2 g1_1 hx45 U24 Z40 R R R R) ?_)
 have f75 := g1_1.stp (S3.tr (S7.tr (S9.tr (S16.tr (S30.tr (S36.tr (S57.tr (S68.tr S72)))))))) R R
 obtain ⟨ax45, ux45, f76, hl77⟩ := f75.gSl hx45
 refine Jg R (Jc2 I40 R R (hvC hl77 R)) (Jf R (Je2 U40 R R) (Jg R (Jd2 (cs := [vi p0.In, vi p0.Out]) I31 Z31 R R R (haC (f11.stp (S16.tr (S30.tr (S36.tr (S57.tr (S68.tr S72))))) R R).cells R)) (Ob h fun x49 hx49 h => Jh R R R C61 (s_l33Outputs_ok (κ := fun b => mp [] 0 (K67 b)) (p0 := p0) hx49) ?_)))
 rintro _ w79 ⟨k80, rfl, e81⟩
 obtain ⟨K82, S83, m84⟩ := Ji e81 6 R
 refine ⟨(S83.cl R), Jn 2 R (Ob h fun p60 h hK86 => Ju1 [(10, 2), (12, 2), (15, 2), (11, 0), (13, 2), (14, 0), (16, 1), (17, 2), (18, 2)] [] (fun L w' => L = [(2, .pointer (some ⟨b2, 0, none⟩)), (3, .pointer (some ⟨b3, 0, none⟩)), (5, vi (p1.In.length : Int)), (6, vi v6), (60, .bool p60)] ∧ ∃ κ', Stp [] K82 w79 κ' w') (S83.cl R) ?_ ?_)⟩
 revert h
 cases ht87 : ((x45.length : Int) != x49)
 refine JF fun h => Jf R (Jb2 U50 R Z24 R R) (Jn 2 R (Jg R (Jc2 I24 R R (hvC (f74.ld 1 R R) R)) (Ob h fun x55 hx55 h => Jf R (Jf2 f75 hx55 U24 Z40 R R R R) ?_)))
 obtain ⟨ax55, ux55, f88, hl89⟩ := f75.gSl hx55
 refine Jg R (Jc2 I40 R R (hvC hl89 R)) (Ob h fun x58 hx58 h => Jh R R R C112 (s_l23Below_ok (κ := fun b => mp [] 0 (K82 b)) (Jl2 (f88.stp S83 R R) (mp [] 0) R R) hx58) ?_)
 rintro _ w91 ⟨k92, rfl, e93⟩
 obtain ⟨K94, S95, m96⟩ := Ji e93 8 R
 refine ⟨((S83.tr S95).cl R), Jn 2 R ?_⟩
 cases h
 exact Jv1 _ ((S83.tr S95).cl R) ⟨R, _, S95.wk R⟩ (KM R)
 refine JT fun h => Jn 3 R (Je1 R R R R (Jn 1 R (Je1 R R R R (Jd1 R R R R (Jn 2 R ?_)))))
 cases h
 exact Jv1 _ (S83.cl R) ⟨R, _, (Jx2 _ _).wk R⟩ (KM R)
 rintro _ w98 _ ⟨rfl, K99, S100⟩
 have h := hK86
 refine Jt1 (Jd ?_)
 revert h
 cases ht101 : p60
 refine JF fun h => Jy R (Js (Jz (Jp (Ja [2, 2, 2] R (Jc 3 R ?_)))))
 have hw60 : IntKind.wrap .i64 (v6 + 1) = v6 + 1 := wr1 hj60 (Jm2 hc60) hN60
 rw [hw60]
 have hc60 := Jm2 hc60
 cases h
 exact Jz1 fun a ha => ⟨k, _, Ja3 _, ⟨K99, v6 + 1, R, (S68.tr (S72.tr (S83.tr S100))).wk R, by omega, by omega, hk69⟩, (ha.mm R)⟩
 refine JT fun h => Jx R (Je [2] R (Jb 1 R (Ju (Ja1 (Jw (Jw ?_))))))
 cases h
 obtain rfl := Option.some.inj hk69
 have h := hK61
 dsimp only [aft] at h
 refine Ja1 (Jq2 (Jw (Ja2 (l := [.tmp 4]) V60 (Jp2 R R) R ?_)))
 cases h
 exact ⟨K99, R, (hE.stp (S3.tr (S7.tr (S9.tr (S16.tr (S30.tr (S36.tr (S57.tr (S68.tr (S72.tr (S83.tr S100)))))))))) R R)⟩
 rintro _ w63 ⟨K64, rfl, S65, rfl⟩
 have h := hK61
 dsimp only [aft] at h
 refine Jp (Je [2] R (Jb 1 R (Ju (Ja2 (l := [.tmp 4]) V60 (Jp2 R R) R ?_))))
 cases h
 exact ⟨K64, R, (hE.stp (S3.tr (S7.tr (S9.tr (S16.tr (S30.tr (S36.tr (S57.tr S65))))))) R R)⟩
 refine JT fun h => Jx R (Je [2] R (Jb 1 R (Ju (Jw (Ja2 (l := [.tmp 4]) V60 (Jp2 R R) R ?_)))))
 cases h
 exact ⟨K56, R, (hE.stp (S3.tr (S7.tr (S9.tr (S16.tr (S30.tr (S36.tr S57)))))) R R)⟩
theorem slices_ContainsFunc_I_int64__i_areLetters_1_ok {w : World} {κ : Col} {a0 u0} {p0 : (List Int)} {c1_0 : Int} {b1_0} (g0 : Rd (Rp.int .i64) κ w 0 a0 u0 p0) (gb1_0 : Bc κ w 0 b1_0 2 [vi c1_0]) {r : Bool} (h : slices_ContainsFunc_I_int64__i_areLetters_1 p0 c1_0 = some r) : Ret Tryz.prog 148 [.slice a0 p0.length u0, .func (.func 149) #[] #[.pointer (some ⟨b1_0, 0, none⟩)]] w (fun v w' => ∃ (κ' : Col), v = .bool r ∧ Ent κ w κ' w') := by
 unfold slices_ContainsFunc_I_int64__i_areLetters_1 at h
 refine Ret.enter F148 R N148 R ?_
 dsimp only [envOf]
 have hE := Ent.refl κ w
 refine Je [2] R (Jb 1 R (Je [2, 2, 1, 2, 2] R (Jn 2 R (Ob h fun x7 hx7 h => Jh R R R C169 (slices_IndexFunc_I_int64__i_areLetters_1_ok (κ := fun b => mp [] 0 (κ b)) (Jl2 g0 (mp [] 0) R R) (gb1_0.map (mp [] 0) R R) hx7) ?_))))
 rintro _ w1 ⟨k2, rfl, e3⟩
 obtain ⟨K4, S5, m6⟩ := Ji e3 2 R
 refine ⟨tv, Jb 2 R (Ju (Ja2 (l := [.tmp 4]) V148 (Jp2 R R) R ?_))⟩
 cases h
 exact ⟨K4, R, (hE.stp S5 R R)⟩
theorem i_monitorOf_ok {w : World} {κ : Col} {p0 : Sig} {bd be bc bb} {p1 : Clause} (g1_1 : Rd (Rp.int .i64) κ w 0 bd be p1.A) (g1_2 : Rd (Rp.int .i64) κ w 0 bc bb p1.B) {r : Det} (h : i_monitorOf p0 p1 = some r) : Ret Tryz.prog 121 [.agg #[vi p0.In, vi p0.Out], .agg #[vi p1.Kind, .slice bd p1.A.length be, .slice bc p1.B.length bb]] w (fun v w' => ∃ (κ' : Col) (ra0 : Option Addr) (ru0 : Nat) (ra1 : Option Addr) (ru1 : Nat), v = .agg #[.slice ra0 r.Next.length ru0, .slice ra1 r.Pairs.length ru1] ∧ Ent κ w κ' w' ∧ Oc (Ep.own E6 2) 40 κ' w' 2 ra0 ru0 r.Next ∧ Oc Pair.ep92 92 κ' w' 3 ra1 ru1 r.Pairs) := by
 unfold i_monitorOf at h
 refine Ret.enter F121 R N121 R ?_
 dsimp only [envOf]
 have hE := Ent.refl κ w
 refine Je [1, 1, 1] R (Jf1 (κ := κ) 2 R R R R R R R fun b2 w1 K2 S3 f4 => ⟨tv, Jf1 (κ := K2) 3 R R R R R R R fun b3 w5 K6 S7 f8 => ⟨tv, Jg1 (κ := K6) 4 R R R R R X94 R fun b4 w9 K10 S11 f12 => ⟨tv, Jd (Je [2] R (Jb 1 R (Je [2, 1, 1] R (Jf R (rn_build (parts := []) (cells := [.slice none 0 0, .slice none 0 0]) R R (by kernel_rfl)) (Jg1 (κ := K10) 5 R R R R R X92 R fun b6 w13 K14 S15 f16 => ⟨tv, Jj1 (κ := K14) 5 (vc := [.slice none 0 0, .slice none 0 0]) R R R R R R R Z92 R R f16 R fun w17 S18 f19 => ⟨tv, Jd (Jq (Je [2, 1] R (Jf R (Jb2 U71 R Z2 R R) ?_)))⟩⟩)))))⟩⟩⟩)
 have f20 := f8.stp (S11.tr (S15.tr S18)) R R
 refine Jl tv R R R R (Jc2 I2 R R (hvE (f20.ld 0 R R))) (Jd (Jv (Jq (Je [2, 2] R (Jb 2 R (Ob h fun q1 h hK21 => Jx1 (fun L w' => ∃ κ', L = [(2, .pointer (some ⟨b2, 0, none⟩)), (3, .pointer (some ⟨b3, 0, none⟩)), (4, .pointer (some ⟨b4, 0, none⟩)), (5, vi 2), (6, .pointer (some ⟨b6, 0, none⟩)), (13, vi p1.Kind), (17, .bool q1)] ∧ Stp [] K14 w17 κ' w') ?_ ?_))))))
 revert h
 cases ht25 : (p1.Kind == 1)
 refine JF fun h => Jy R (Ja [2, 2] R (Jc 2 R ?_))
 cases h
 exact Jw1 _ ⟨K14, R, (Jx2 _ _).wk R⟩ (KM R)
 refine JT fun h => Jx R (Js ?_)
 cases h
 exact Jw1 _ ⟨K14, R, (Jx2 _ _).wk R⟩ (KM R)
 rintro _ w22 ⟨K23, rfl, S24⟩
 have h := hK21
 refine Jp (Ob h fun q2 h hK26 => Jx1 (fun L w' => ∃ κ' af ae ac ad, L = [(2, .pointer (some ⟨b2, 0, none⟩)), (3, .pointer (some ⟨b3, 0, none⟩)), (4, .pointer (some ⟨b4, 0, none⟩)), (5, vi q2.1), (6, .pointer (some ⟨b6, 0, none⟩))] ∧ Stp [5] K23 w22 κ' w' ∧ Oc E6 2 κ' w' 6 af ae q2.2.1 ∧ Oc E6 2 κ' w' 7 ac ad q2.2.2 ∧ Bc κ' w' 5 b6 92 [.slice af q2.2.1.length ae, .slice ac q2.2.2.length ad]) ?_ ?_)
 revert h
 cases ht33 : q1
 refine JF fun h => Jy R (Je [2, 2] R (Jb 2 R (Ob h fun q3 h hK43 => Jx1 (fun L w' => ∃ κ' al aD ao am, L = [(2, .pointer (some ⟨b2, 0, none⟩)), (3, .pointer (some ⟨b3, 0, none⟩)), (4, .pointer (some ⟨b4, 0, none⟩)), (5, vi q3.1), (6, .pointer (some ⟨b6, 0, none⟩))] ∧ Stp [5] K23 w22 κ' w' ∧ Oc E6 2 κ' w' 6 al aD q3.2.1 ∧ Oc E6 2 κ' w' 7 ao am q3.2.2 ∧ Bc κ' w' 5 b6 92 [.slice al q3.2.1.length aD, .slice ao q3.2.2.length am]) ?_ ?_)))
 revert h
 cases ht50 : (p1.Kind == 2)
 refine JF fun h => Jy R (Je [2, 2] R (Jb 2 R (Ob h fun q4 h hK60 => Jx1 (fun L w' => ∃ κ' aw aA aF aq, L = [(2, .pointer (some ⟨b2, 0, none⟩)), (3, .pointer (some ⟨b3, 0, none⟩)), (4, .pointer (some ⟨b4, 0, none⟩)), (5, vi q4.1), (6, .pointer (some ⟨b6, 0, none⟩))] ∧ Stp [5] K23 w22 κ' w' ∧ Oc E6 2 κ' w' 6 aw aA q4.2.1 ∧ Oc E6 2 κ' w' 7 aF aq q4.2.2 ∧ Bc κ' w' 5 b6 92 [.slice aw q4.2.1.length aA, .slice aF q4.2.2.length aq]) ?_ ?_)))
 revert h
 cases ht67 : (p1.Kind == 3)
 refine JF fun h => Jy R (Je [2, 2] R (Jb 2 R (Ob h fun q5 h hK82 => Jx1 (fun L w' => ∃ κ' an av ap aB, L = [(2, .pointer (some ⟨b2, 0, none⟩)), (3, .pointer (some ⟨b3, 0, none⟩)), (4, .pointer (some ⟨b4, 0, none⟩)), (5, vi q5.1), (6, .pointer (some ⟨b6, 0, none⟩))] ∧ Stp [5] K23 w22 κ' w' ∧ Oc E6 2 κ' w' 6 an av q5.2.1 ∧ Oc E6 2 κ' w' 7 ap aB q5.2.2 ∧ Bc κ' w' 5 b6 92 [.slice an q5.2.1.length av, .slice ap q5.2.2.length aB]) ?_ ?_)))
 revert h
 cases ht89 : (p1.Kind == 4)
 refine JF fun h => Jy R (Je [2, 2] R (Jb 2 R (Ob h fun q6 h hK104 => Jx1 (fun L w' => ∃ κ' aE ar az au, L = [(2, .pointer (some ⟨b2, 0, none⟩)), (3, .pointer (some ⟨b3, 0, none⟩)), (4, .pointer (some ⟨b4, 0, none⟩)), (5, vi q6.1), (6, .pointer (some ⟨b6, 0, none⟩))] ∧ Stp [5] K23 w22 κ' w' ∧ Oc E6 2 κ' w' 6 aE ar q6.2.1 ∧ Oc E6 2 κ' w' 7 az au q6.2.2 ∧ Bc κ' w' 5 b6 92 [.slice aE q6.2.1.length ar, .slice az q6.2.2.length au]) ?_ ?_)))
 revert h
 cases ht111 : (p1.Kind == 6)
 refine JF fun h => Jy R (Je [2] R (Jb 1 R (Ja [1, 1, 2, 1] R (Jn1 (κ := K23) (E := E6) 6 [] (parts := [(0, .const (vi 2)), (1, .const (vi 3))]) (cells := [vi 2, vi 3]) (xs := ([2, 3] : List Int)) R R R R R R Y40 Tryzinfo2 R R R R R R R R R R ⟨[vi 2], [vi 3], Zl K23 w22 [], Zl K23 w22 [], R, Zl.sp (l1 := []) (l2 := []) R, Zl.sr (l1 := []) (l2 := []), R, ⟨[vi 3], [], Zl K23 w22 [], Zl K23 w22 [], R, Zl.sp (l1 := []) (l2 := []) R, Zl.sr (l1 := []) (l2 := []), R, R⟩⟩ fun aT aI w121 K122 S123 f124 => ⟨tv, Jn1 (κ := K122) (E := E6) 7 [] (parts := [(0, .const (vi 1)), (1, .const (vi 3))]) (cells := [vi 1, vi 3]) (xs := ([1, 3] : List Int)) R R R R R R Y40 Tryzinfo2 R R R R R R R R R R ⟨[vi 1], [vi 3], Zl K122 w121 [], Zl K122 w121 [], R, Zl.sp (l1 := []) (l2 := []) R, Zl.sr (l1 := []) (l2 := []), R, ⟨[vi 3], [], Zl K122 w121 [], Zl K122 w121 [], R, Zl.sp (l1 := []) (l2 := []) R, Zl.sr (l1 := []) (l2 := []), R, R⟩⟩ fun aR aV w125 K126 S127 f128 => ⟨tv, Jf R (rn_build (parts := [(0, .tmp 14), (1, .tmp 15)]) (cells := [.slice aT ([2, 3] : List Int).length aI, .slice aR ([1, 3] : List Int).length aV]) R R (by kernel_rfl)) (Jj1 (κ := K126) 5 (vc := [.slice aT ([2, 3] : List Int).length aI, .slice aR ([1, 3] : List Int).length aV]) R R R R R R R Z92 R R (f19.stp (S24.tr (S123.tr S127)) R R) R fun w130 S131 f132 => ⟨tv, Jo ?_⟩)⟩⟩))))
 cases h
 exact Jw1 _ ⟨K126, aT, aI, aR, aV, R, (S123.tr (S127.tr S131)).wk R, (f124.stp (S127.tr S131) R R), (f128.stp S131 R R), f132⟩ (KM R)
 refine JT fun h => Jx R (Ja [1, 2, 1] R (Jn1 (κ := K23) (E := E6) 6 [] (parts := [(0, .const (vi 0))]) (cells := [vi 0]) (xs := ([0] : List Int)) R R R R R R Y40 Tryzinfo2 R R R R R R R R R R ⟨[vi 0], [], Zl K23 w22 [], Zl K23 w22 [], R, Zl.sp (l1 := []) (l2 := []) R, Zl.sr (l1 := []) (l2 := []), R, R⟩ fun ba aX w112 K113 S114 f115 => ⟨tv, Jf R (Jb2 U92 R Z40 R R) (Ji1 (κ := K113) 5 (off := 0) (vc := [.slice ba ([0] : List Int).length aX]) (cs' := [.slice ba ([0] : List Int).length aX, .slice none 0 0]) R R R R R R R Z40 R R (f19.stp (S24.tr S114) R R) R R fun w117 S118 f119 => ⟨tv, Jo ?_⟩)⟩))
 cases h
 exact Jw1 _ ⟨K113, ba, aX, none, 0, R, (S114.tr S118).wk R, (f115.stp S118 R R), Ow.nil, f119⟩ (KM R)
 rintro _ w105 ⟨K106, aE, ar, az, au, rfl, S107, f108, f109, f110⟩
 have h := hK104
 cases h
 exact Jw1 _ ⟨K106, aE, ar, az, au, R, S107.wk R, f108, f109, f110⟩ (KM R)
 refine JT fun h => Jx R (Ja [1, 1, 2, 1] R (Jn1 (κ := K23) (E := E6) 6 [] (parts := [(0, .const (vi 0)), (1, .const (vi 1))]) (cells := [vi 0, vi 1]) (xs := ([0, 1] : List Int)) R R R R R R Y40 Tryzinfo2 R R R R R R R R R R ⟨[vi 0], [vi 1], Zl K23 w22 [], Zl K23 w22 [], R, Zl.sp (l1 := []) (l2 := []) R, Zl.sr (l1 := []) (l2 := []), R, ⟨[vi 1], [], Zl K23 w22 [], Zl K23 w22 [], R, Zl.sp (l1 := []) (l2 := []) R, Zl.sr (l1 := []) (l2 := []), R, R⟩⟩ fun aL aQ w90 K91 S92 f93 => ⟨tv, Jn1 (κ := K91) (E := E6) 7 [] (parts := [(0, .const (vi 1))]) (cells := [vi 1]) (xs := ([1] : List Int)) R R R R R R Y40 Tryzinfo2 R R R R R R R R R R ⟨[vi 1], [], Zl K91 w90 [], Zl K91 w90 [], R, Zl.sp (l1 := []) (l2 := []) R, Zl.sr (l1 := []) (l2 := []), R, R⟩ fun aZ aW w94 K95 S96 f97 => ⟨tv, Jf R (rn_build (parts := [(0, .tmp 33), (1, .tmp 34)]) (cells := [.slice aL ([0, 1] : List Int).length aQ, .slice aZ ([1] : List Int).length aW]) R R (by kernel_rfl)) (Jj1 (κ := K95) 5 (vc := [.slice aL ([0, 1] : List Int).length aQ, .slice aZ ([1] : List Int).length aW]) R R R R R R R Z92 R R (f19.stp (S24.tr (S92.tr S96)) R R) R fun w99 S100 f101 => ⟨tv, Jo ?_⟩)⟩⟩))
 cases h
 exact Jw1 _ ⟨K95, aL, aQ, aZ, aW, R, (S92.tr (S96.tr S100)).wk R, (f93.stp (S96.tr S100) R R), (f97.stp S100 R R), f101⟩ (KM R)
 rintro _ w83 ⟨K84, an, av, ap, aB, rfl, S85, f86, f87, f88⟩
 have h := hK82
 cases h
 exact Jw1 _ ⟨K84, an, av, ap, aB, R, S85.wk R, f86, f87, f88⟩ (KM R)
 refine JT fun h => Jx R (Ja [1, 1, 2, 1] R (Jn1 (κ := K23) (E := E6) 6 [] (parts := [(0, .const (vi 1))]) (cells := [vi 1]) (xs := ([1] : List Int)) R R R R R R Y40 Tryzinfo2 R R R R R R R R R R ⟨[vi 1], [], Zl K23 w22 [], Zl K23 w22 [], R, Zl.sp (l1 := []) (l2 := []) R, Zl.sr (l1 := []) (l2 := []), R, R⟩ fun aO aH w68 K69 S70 f71 => ⟨tv, Jn1 (κ := K69) (E := E6) 7 [] (parts := [(0, .const (vi 0))]) (cells := [vi 0]) (xs := ([0] : List Int)) R R R R R R Y40 Tryzinfo2 R R R R R R R R R R ⟨[vi 0], [], Zl K69 w68 [], Zl K69 w68 [], R, Zl.sp (l1 := []) (l2 := []) R, Zl.sr (l1 := []) (l2 := []), R, R⟩ fun aK aM w72 K73 S74 f75 => ⟨tv, Jf R (rn_build (parts := [(0, .tmp 28), (1, .tmp 29)]) (cells := [.slice aO ([1] : List Int).length aH, .slice aK ([0] : List Int).length aM]) R R (by kernel_rfl)) (Jj1 (κ := K73) 5 (vc := [.slice aO ([1] : List Int).length aH, .slice aK ([0] : List Int).length aM]) R R R R R R R Z92 R R (f19.stp (S24.tr (S70.tr S74)) R R) R fun w77 S78 f79 => ⟨tv, Jo ?_⟩)⟩⟩))
 cases h
 exact Jw1 _ ⟨K73, aO, aH, aK, aM, R, (S70.tr (S74.tr S78)).wk R, (f71.stp (S74.tr S78) R R), (f75.stp S78 R R), f79⟩ (KM R)
 rintro _ w61 ⟨K62, aw, aA, aF, aq, rfl, S63, f64, f65, f66⟩
 have h := hK60
 cases h
 exact Jw1 _ ⟨K62, aw, aA, aF, aq, R, S63.wk R, f64, f65, f66⟩ (KM R)
 refine JT fun h => Jx R (Je [2] R (Jb 1 R (Ja [1, 2, 1] R (Jn1 (κ := K23) (E := E6) 6 [] (parts := [(0, .const (vi 2))]) (cells := [vi 2]) (xs := ([2] : List Int)) R R R R R R Y40 Tryzinfo2 R R R R R R R R R R ⟨[vi 2], [], Zl K23 w22 [], Zl K23 w22 [], R, Zl.sp (l1 := []) (l2 := []) R, Zl.sr (l1 := []) (l2 := []), R, R⟩ fun aY aJ w51 K52 S53 f54 => ⟨tv, Jf R (Jb2 U92 R Z40 R R) (Ji1 (κ := K52) 5 (off := 0) (vc := [.slice aY ([2] : List Int).length aJ]) (cs' := [.slice aY ([2] : List Int).length aJ, .slice none 0 0]) R R R R R R R Z40 R R (f19.stp (S24.tr S53) R R) R R fun w56 S57 f58 => ⟨tv, Jo ?_⟩)⟩))))
 cases h
 exact Jw1 _ ⟨K52, aY, aJ, none, 0, R, (S53.tr S57).wk R, (f54.stp S57 R R), Ow.nil, f58⟩ (KM R)
 rintro _ w44 ⟨K45, al, aD, ao, am, rfl, S46, f47, f48, f49⟩
 have h := hK43
 cases h
 exact Jw1 _ ⟨K45, al, aD, ao, am, R, S46.wk R, f47, f48, f49⟩ (KM R)
 refine JT fun h => Jx R (Ja [1, 2, 1] R (Jn1 (κ := K23) (E := E6) 6 [] (parts := [(0, .const (vi 1))]) (cells := [vi 1]) (xs := ([1] : List Int)) R R R R R R Y40 Tryzinfo2 R R R R R R R R R R ⟨[vi 1], [], Zl K23 w22 [], Zl K23 w22 [], R, Zl.sp (l1 := []) (l2 := []) R, Zl.sr (l1 := []) (l2 := []), R, R⟩ fun aU aS w34 K35 S36 f37 => ⟨tv, Jf R (Jb2 U92 R Z40 R R) (Ji1 (κ := K35) 5 (off := 0) (vc := [.slice aU ([1] : List Int).length aS]) (cs' := [.slice aU ([1] : List Int).length aS, .slice none 0 0]) R R R R R R R Z40 R R (f19.stp (S24.tr S36) R R) R R fun w39 S40 f41 => ⟨tv, Jo ?_⟩)⟩))
 cases h
 exact Jw1 _ ⟨K35, aU, aS, none, 0, R, (S36.tr S40).wk R, (f37.stp S40 R R), Ow.nil, f41⟩ (KM R)
 rintro _ w27 ⟨K28, af, ae, ac, ad, rfl, S29, f30, f31, f32⟩
 have h := hK26
 refine Jz (Jp (Je [1, 1, 2, 1, 1] R (Jl tv R R R R (Jd2 (cs := [.slice af q2.2.1.length ae, .slice ac q2.2.2.length ad]) I92 Z92 R R R (haE f32.cells)) (Jn1 (κ := K28) (E := Pair.ep92) 8 [6, 7] (parts := [(0, .tmp 40)]) (cells := [.slice af q2.2.1.length ae, .slice ac q2.2.2.length ad]) (xs := ([(⟨q2.2.1, q2.2.2⟩ : Pair)] : List Pair)) R R R R R R Y79 Tryzinfo92 R R R R R R R R R R ⟨[.slice af q2.2.1.length ae, .slice ac q2.2.2.length ad], [], Zl K28 w27 [6, 7], Zl K28 w27 [], R, Zl.sp (l1 := [6, 7]) (l2 := []) R, Zl.sr (l1 := [6, 7]) (l2 := []), ⟨[.slice af q2.2.1.length ae], [.slice ac q2.2.2.length ad], Zl K28 w27 [6], Zl K28 w27 [7], R, Zl.sp (l1 := [6]) (l2 := [7]) R, Zl.sr (l1 := [6]) (l2 := [7]), ⟨_, _, R, f30⟩, ⟨_, _, R, f31⟩⟩, R⟩ fun aa ab w135 K136 S137 f138 => ⟨tv, Jf R (rn_build (parts := [(1, .tmp 41)]) (cells := [.slice none 0 0, .slice aa ([(⟨q2.2.1, q2.2.2⟩ : Pair)] : List Pair).length ab]) R R (by kernel_rfl)) (Jg1 (κ := K136) 9 R R R R R X94 R fun b7 w139 K140 S141 f142 => ⟨tv, Jj1 (κ := K140) 9 (vc := [.slice none 0 0, .slice aa ([(⟨q2.2.1, q2.2.2⟩ : Pair)] : List Pair).length ab]) R R R R R R R Z94 R R f142 R fun w143 S144 f145 => ⟨tv, Jd (Jq (Je [2, 2] R (Jb 2 R (Ob h fun _ hr146 h => ?_))))⟩⟩)⟩))))
 have hN146 := rng_ok hr146
 refine Ob h fun q8 hq148 hK147 => ?_
 clear h
 refine Jx1 (fun L w' => ∃ κ', ∃ s9 : (List (List Int)), ∃ ah ai, L = [(4, .pointer (some ⟨b4, 0, none⟩)), (7, .pointer (some ⟨b7, 0, none⟩))] ∧ Stp [9, 10, 11, 14] K140 w143 κ' w' ∧ Oc (Ep.own E6 2) 40 κ' w' 10 ah ai s9 ∧ Bc κ' w' 9 b7 94 [.slice ah s9.length ai, .slice aa ([(⟨q2.2.1, q2.2.2⟩ : Pair)] : List Pair).length ab] ∧ q8 = Sum.inr s9) ?_ ?_
 refine Jv (Jy1 (fun k L w' => ∃ κ' v44, ∃ s7 : (List (List Int)), ∃ ax ay, L = [(2, .pointer (some ⟨b2, 0, none⟩)), (3, .pointer (some ⟨b3, 0, none⟩)), (4, .pointer (some ⟨b4, 0, none⟩)), (7, .pointer (some ⟨b7, 0, none⟩)), (43, vi q2.1), (44, vi v44)] ∧ Stp [9, 10, 11, 14] K140 w143 κ' w' ∧ Oc (Ep.own E6 2) 40 κ' w' 10 ax ay s7 ∧ Bc κ' w' 9 b7 94 [.slice ax s7.length ay, .slice aa ([(⟨q2.2.1, q2.2.2⟩ : Pair)] : List Pair).length ab] ∧ 0 ≤ v44 ∧ Int.toNat (q2.1 - v44) = k ∧ cntM (i_monitorOf_b1 p0 p1) k v44 s7 = some q8) ⟨_, _, ⟨K140, 0, (([] : List (List Int)) : (List (List Int))), none, 0, R, (Jx2 _ _).wk R, Ow.nil, f145, (by decide), (by simp), hq148⟩, (KM R)⟩ ?_)
 rintro k _ w154 ⟨K155, v44, s7, ax, ay, rfl, S156, f157, f158, hj146, hJ146, h⟩
 rcases k with _ | k
 have hk159 := h; obtain ⟨o146, h⟩ := ex_eq (Sum.inr (Sum.inl s7) : Det ⊕ (((List (List Int))) ⊕ ((List (List Int)))))
 have hc146 : decide (v44 < q2.1) = false := Jo2 (by omega)
 refine Je [2] R (Jb 1 R (Jq (Jw2 R hc146 (Jc1 (Jt (Jt ?_))))))
 cases h
 have h := hk159
 refine Jb1 ?_
 cases h
 exact Jw1 _ ⟨K155, (s7 : (List (List Int))), ax, ay, R, S156.wk R, f157, f158, R⟩ (KM R)
 obtain ⟨o146, h, hk159⟩ := BI h; unfold i_monitorOf_b1 at h
 have hc146 : decide (v44 < q2.1) = true := Jn2 (by omega)
 refine Je [2] R (Jb 1 R (Jq (Jv2 R hc146 (Js (Jp (Jq (Jv (Je [2, 2] R (Jb 2 R (Je [1, 2] R (Jo1 (κ := K155) (E := E6) 11 R R R R R Y40 Tryzinfo2 R fun bg bi w160 K161 S162 f163 => ⟨tv, Jb 1 R (Jq (Je [1, 1, 2] R (Jl tv R R R R (Jd2 (cs := [vi p0.In, vi p0.Out]) I31 Z31 R R R (haE (f4.stp (S7.tr (S11.tr (S15.tr (S18.tr (S24.tr (S29.tr (S137.tr (S141.tr (S144.tr (S156.tr S162)))))))))) R R).cells)) (Ob h fun x49 hx49 h => Jh R R R C119 (i_lettersOf_ok (κ := fun b => mp [] 0 (K161 b)) (p0 := p0) hx49) ?_))))⟩)))))))))))
 rintro _ w165 ⟨k166, rfl, e167⟩
 obtain ⟨K168, S169, m170⟩ := Ji e167 12 R
 refine ⟨tv, Jb 1 R (Ob h fun _ hr172 h => ?_)⟩
 have hN172 := rng_ok hr172
 refine Ob h fun q11 hq174 hK173 => ?_
 clear h
 refine Jx1 (fun L w' => ∃ κ', ∃ s12 : (List Int), ∃ aj ak, L = [(2, .pointer (some ⟨b2, 0, none⟩)), (3, .pointer (some ⟨b3, 0, none⟩)), (4, .pointer (some ⟨b4, 0, none⟩)), (7, .pointer (some ⟨b7, 0, none⟩)), (9, .slice aj s12.length ak), (43, vi q2.1), (44, vi v44)] ∧ Stp [11] K168 w165 κ' w' ∧ Oc E6 2 κ' w' 11 aj ak s12 ∧ q11 = Sum.inr s12) ?_ ?_
 refine Jv (Jy1 (fun k L w' => ∃ κ' v50, ∃ s10 : (List Int), ∃ aC aG, L = [(2, .pointer (some ⟨b2, 0, none⟩)), (3, .pointer (some ⟨b3, 0, none⟩)), (4, .pointer (some ⟨b4, 0, none⟩)), (7, .pointer (some ⟨b7, 0, none⟩)), (8, vi v44), (9, .slice aC s10.length aG), (43, vi q2.1), (44, vi v44), (49, vi x49), (50, vi v50)] ∧ Stp [11] K168 w165 κ' w' ∧ Oc E6 2 κ' w' 11 aC aG s10 ∧ 0 ≤ v50 ∧ Int.toNat (x49 - v50) = k ∧ cntM (i_monitorOf_b3 p1 v44) k v50 s10 = some q11) ⟨_, _, ⟨K168, 0, (([] : List Int) : (List Int)), bg, bi, R, (Jx2 _ _).wk R, (f163.stp S169 R R), (by decide), (by simp), hq174⟩, (KM R)⟩ ?_)
 rintro k _ w179 ⟨K180, v50, s10, aC, aG, rfl, S181, f182, hj172, hJ172, h⟩
 rcases k with _ | k
 have hk184 := h; obtain ⟨o172, h⟩ := ex_eq (Sum.inr (Sum.inl s10) : Det ⊕ (((List Int)) ⊕ ((List Int))))
 have hc172 : decide (v50 < x49) = false := Jo2 (by omega)
 refine Je [2] R (Jb 1 R (Jq (Jw2 R hc172 (Jc1 (Jt (Jt ?_))))))
 cases h
 have h := hk184
 refine Jb1 ?_
 cases h
 exact Jw1 _ ⟨K180, (s10 : (List Int)), aC, aG, R, S181.wk R, f182, R⟩ (KM R)
 obtain ⟨o172, h, hk184⟩ := BI h; unfold i_monitorOf_b3 at h
 have hc172 : decide (v50 < x49) = true := Jn2 (by omega)
 refine Je [2] R (Jb 1 R (Jq (Jv2 R hc172 (Js (Jp (Jq (Jv (Je [2, 2] R (Jb 2 R (Js1 (κ := K180) [3] none [(0, 2), (1, 2), (3, 2), (4, 2), (6, 2), (8, 2), (10, 2), (2, 0), (5, 0), (9, 0), (7, 1), (11, 1), (12, 1), (13, 1), (14, 1), (15, 2)] [] (by kernel_rfl) (by kernel_rfl) fun w186 S185 => Jn 1 R (Jf R (Jb2 U71 R Z2 R R) (Jn 1 R (Jf R (Jb2 U71 R Z40 R R) (Jn 1 R (Jf R (Jb2 U71 R Z40 R R) (Jn 1 R ?_))))))))))))))))
 have f187 := f20.stp (S24.tr (S29.tr (S137.tr (S141.tr (S144.tr (S156.tr (S162.tr (S169.tr (S181.tr S185))))))))) R R
 refine Jg R (Jc2 I2 R R (hvC (f187.ld 0 R R) R)) (Jg R (Jc2 I40 R R (hvC (f187.ld 1 R R) R)) (Jg R (Jc2 I40 R R (hvC (f187.ld 2 R R) R)) (Ob h fun x60 hx60 h => Jh R R R C73 (slices_Contains_I_int64_ok (κ := fun b => mp [] 0 (K180 b)) (Jl2 (g1_1.stp (S3.tr (S7.tr (S11.tr (S15.tr (S18.tr (S24.tr (S29.tr (S137.tr (S141.tr (S144.tr (S156.tr (S162.tr (S169.tr (S181.tr S185)))))))))))))) R R) (mp [] 0) R R) hx60) ?_)))
 rintro _ w189 ⟨k190, rfl, e191⟩
 obtain ⟨K192, S193, m194⟩ := Ji e191 14 R
 refine ⟨(S193.cl R), Ob h fun x64 hx64 h => Jh R R R C73 (slices_Contains_I_int64_ok (κ := fun b => mp [] 0 (K192 b)) (Jl2 (g1_2.stp (S3.tr (S7.tr (S11.tr (S15.tr (S18.tr (S24.tr (S29.tr (S137.tr (S141.tr (S144.tr (S156.tr (S162.tr (S169.tr (S181.tr (S185.tr S193))))))))))))))) R R) (mp [] 0) R R) hx64) ?_⟩
 rintro _ w197 ⟨k198, rfl, e199⟩
 obtain ⟨K200, S201, m202⟩ := Ji e199 16 R
 refine ⟨((S193.tr S201).cl R), Ob h fun x65 hx65 h => Jh R R R C151 (i_monitorStep_ok (κ := fun b => mp [] 0 (K200 b)) hx65) ?_⟩
 rintro _ w204 ⟨k205, rfl, e206⟩
 obtain ⟨K207, S208, m209⟩ := Ji e206 18 R
 have S001 := (S193.tr (S201.tr S208))
 refine ⟨(S001.cl R), Jn1 (κ := K207) (E := E6) 20 [] (parts := [(0, .tmp 65)]) (cells := [vi x65]) (xs := ([x65] : List Int)) R R R R R R Y40 Tryzinfo2 R R R R R R R R R R ⟨[vi x65], [], Zl K207 w204 [], Zl K207 w204 [], R, Zl.sp (l1 := []) (l2 := []) R, Zl.sr (l1 := []) (l2 := []), R, R⟩ fun bl bm w211 K212 S213 f214 => ⟨((S001.tr S213).cl R), Ob h fun x67 hx67 h => Jm1 (κ := K212) (E := E6) 11 [] R R R R R R R R R Y40 Tryzinfo2 R R R R (f182.stp (S185.tr (S193.tr (S201.tr (S208.tr S213)))) R R) (Sl.srcP (pu_int _) f214.rdc) sy_false hx67 R fun bh bf w216 K217 S218 f219 => ⟨((S001.tr (S213.tr S218)).cl R), Jn 1 R (Jt1 (Jo (Jz (Jp (Ja [2, 2] R (Jc 2 R ?_))))))⟩⟩⟩
 have hw172 : IntKind.wrap .i64 (v50 + 1) = v50 + 1 := wr1 hj172 (Jm2 hc172) hN172
 rw [hw172]
 have hc172 := Jm2 hc172
 cases h
 exact Jz1 fun a ha => ⟨k, _, Ja3 _, ⟨K217, v50 + 1, (x67 : (List Int)), bh, bf, R, (S181.tr (S185.tr (S193.tr (S201.tr (S208.tr (S213.tr S218)))))).wk R, f219, by omega, by omega, hk184⟩, (ha.mm R)⟩
 rintro _ w175 ⟨K176, s12, aj, ak, rfl, S177, f178, rfl⟩
 have h := hK173
 dsimp only [aft] at h
 refine Jp (Ja [2, 1, 2, 1, 1, 2, 1] R (Jf R (Jb2 U94 R Z24 R R) ?_))
 have f220 := f158.stp (S162.tr (S169.tr S177)) R R
 refine Jl tv R R R R (Jc2 I24 R R (hvE (f220.ld 0 R R))) (Jn 1 R (Jn1 (κ := K176) (E := (Ep.own E6 2)) 14 [11] (parts := [(0, .tmp 71)]) (cells := [.slice aj s12.length ak]) (xs := ([s12] : List (List Int))) R R R R R R Y24 Tryzinfo40 R R R R R R R R R R ⟨[.slice aj s12.length ak], [], Zl K176 w175 [11], Zl K176 w175 [], R, Zl.sp (l1 := [11]) (l2 := []) R, Zl.sr (l1 := [11]) (l2 := []), ⟨_, _, R, f178⟩, R⟩ fun bj bk w221 K222 S223 f224 => ⟨tv, Ob h fun x73 hx73 h => Jm1 (κ := K222) (E := (Ep.own E6 2)) 10 [14] R R R R R R R R R Y24 Tryzinfo40 R R R R (f157.stp (S162.tr (S169.tr (S177.tr S223))) R R) f224.src (sy_one R) hx73 R fun aP aN w226 K227 S228 f229 => ⟨tv, Jf R (Jb2 U94 R Z24 R R) (Ji1 (κ := K227) 9 (off := 0) (vc := [.slice aP x73.length aN]) (cs' := [.slice aP x73.length aN, .slice aa ([(⟨q2.2.1, q2.2.2⟩ : Pair)] : List Pair).length ab]) R R R R R R R Z24 R R (f220.stp (S223.tr S228) R R) R R fun w231 S232 f233 => ⟨tv, Jo (Jz (Jp (Ja [2, 2] R (Jc 2 R ?_))))⟩)⟩⟩))
 have hw146 : IntKind.wrap .i64 (v44 + 1) = v44 + 1 := wr1 hj146 (Jm2 hc146) hN146
 rw [hw146]
 have hc146 := Jm2 hc146
 cases h
 exact Jz1 fun a ha => ⟨k, _, Ja3 _, ⟨K227, v44 + 1, (x73 : (List (List Int))), aP, aN, R, (S156.tr (S162.tr (S169.tr (S177.tr (S223.tr (S228.tr S232)))))).wk R, (f229.stp S232 R R), f233, by omega, by omega, hk159⟩, (ha.mm R)⟩
 rintro _ w149 ⟨K150, s9, ah, ai, rfl, S151, f152, f153, rfl⟩
 have h := hK147
 dsimp only [aft] at h
 refine Jp (Je [1, 1] R (Jl tv R R R R (Jd2 (cs := [.slice ah s9.length ai, .slice aa ([(⟨q2.2.1, q2.2.2⟩ : Pair)] : List Pair).length ab]) I94 Z94 R R R (haE f153.cells)) (Jj1 (κ := K150) 4 (vc := [.slice ah s9.length ai, .slice aa ([(⟨q2.2.1, q2.2.2⟩ : Pair)] : List Pair).length ab]) R R R R R R R Z94 R R (f12.stp (S15.tr (S18.tr (S24.tr (S29.tr (S137.tr (S141.tr (S144.tr S151))))))) R R) R fun w236 S237 f238 => ⟨tv, Jd (Ju (Ja2 (l := [.cell 4 94]) V121 (res_cellA R f238 I94 Z94 R R) R ?_))⟩)))
 cases h
 exact ⟨(fun b => ren [(10, 2), (8, 3)] (K150 b)), ah, ai, aa, ab, R, ((hE.stp (S3.tr (S7.tr (S11.tr (S15.tr (S18.tr (S24.tr (S29.tr (S137.tr (S141.tr (S144.tr (S151.tr S237))))))))))) R R).map (ren [(10, 2), (8, 3)]) R R), ((f152.stp S237 R R).map (ren [(10, 2), (8, 3)]) R R), ((f138.stp (S141.tr (S144.tr (S151.tr S237))) R R).map (ren [(10, 2), (8, 3)]) R R)⟩
end Go.Proofs.YtcmamhmpoinmnaaGreat
