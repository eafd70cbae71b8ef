/- The walks, part 3. By program. -/
import Derived.Test.YtcmamhmpoinmnaaFns2FF
set_option linter.unusedVariables false
set_option linter.unusedSimpArgs false
namespace Go.Proofs.Ytcmamhmpoinmnaa
open Go Go.Wk Go.Proofs
set_option maxRecDepth 100000
set_option maxHeartbeats 1000000
theorem s_l1Num_ok {w : World} {κ : Col} {aa ab} {p0 : l1Cur} {p1 : Int} {b0} (g0_0 : Rd (Rp.int .u8) κ w 0 aa ab p0.b) (gb0 : Bc κ w 2 b0 102 [.slice aa p0.b.length ab, vi p0.i, vi p0.h]) {r : Int × Int × Int} (h : s_l1Num p0 p1 = some r) : Ret Try.prog 65 [.pointer (some ⟨b0, 0, none⟩), vi p1] w (fun v w' => ∃ (κ' : Col), v = vi r.1 ∧ Ent κ w κ' w' ∧ Bc κ' w' 2 b0 102 [.slice aa p0.b.length ab, vi r.2.1, vi r.2.2]) := by
 unfold s_l1Num at h
 refine Ret.enter F65 R N65 R ?_
 dsimp only [envOf]
 have hE := Ent.refl κ w
 refine Je [2] R (Jb 1 R (Jq (Je [2, 1] R (Jn 1 R (Ob h fun x6 hx6 h => Jh R R R C40 (s_l1Once_ok (κ := fun b => mp [(2, 2)] 0 (κ b)) (p0 := p0) (Jl2 g0_0 (mp [(2, 2)] 0) R R) (gb0.map (mp [(2, 2)] 0) R R) hx6) ?_)))))
 rintro _ w1 ⟨k2, rfl, e3, f4⟩
 obtain ⟨K5, S6, m7⟩ := Ji e3 3 R
 refine ⟨tv, ?_⟩
 have f9 := f4.mx m7 R (R : 3 + 2 = 5)
 refine Jd ?_
 revert h
 cases ht10 : x6.1
 refine JF fun h => Jy R (Js (Jp (Jq (Je [2, 1] R (Jn 1 R (Ob h fun x18 hx18 h => ?_))))))
 have f38 := g0_0.stp S6 R R
 refine Jh R R R C40 (s_l1Once_ok (κ := fun b => mp [(5, 2)] 0 (K5 b)) (p0 := (⟨p0.b, x6.2.1, x6.2.2⟩ : l1Cur)) (Jl2 f38 (mp [(5, 2)] 0) R R) (f9.map (mp [(5, 2)] 0) R R) hx18) ?_
 rintro _ w39 ⟨k40, rfl, e41, f42⟩
 obtain ⟨K43, S44, m45⟩ := Ji e41 6 R
 refine ⟨tv, ?_⟩
 have f47 := f42.mx m45 R (R : 6 + 2 = 8)
 refine Jd ?_
 revert h
 cases ht48 : x18.1
 refine JF fun h => Jy R (Js (Jp (Je [2, 2, 2, 1, 2] R (Jn 3 R (Ob h fun x27 hx27 h => Jh R R R C38 (s_l1Below_ok (κ := fun b => mp [(8, 2)] 0 (K43 b)) (p0 := (⟨p0.b, x18.2.1, x18.2.2⟩ : l1Cur)) (Jl2 (f38.stp S44 R R) (mp [(8, 2)] 0) R R) (f47.map (mp [(8, 2)] 0) R R) hx27) ?_)))))
 rintro _ w69 ⟨k70, rfl, e71, f72⟩
 obtain ⟨K73, S74, m75⟩ := Ji e71 9 R
 refine ⟨tv, Jb 1 R (Ju (Ja2 (l := [.tmp 4]) V65 (Jp2 R R) R ?_))⟩
 cases h
 exact ⟨(fun b => ren [(11, 2)] (K73 b)), R, ((hE.stp (S6.tr (S44.tr S74)) R R).map (ren [(11, 2)]) R R), ((f72.mx m75 R (R : 9 + 2 = 11)).map (ren [(11, 2)]) R R)⟩
 refine JT fun h => Jx R (Je [2, 2, 1, 2, 1, 2] R (Jn 2 R (Ob h fun x21 hx21 h => Jh R R R C94 (s_l1Min_ok (κ := fun b => mp [] 0 (K43 b)) hx21) ?_)))
 rintro _ w49 ⟨k50, rfl, e51⟩
 obtain ⟨K52, S53, m54⟩ := Ji e51 9 R
 refine ⟨tv, Jn 1 R (Ob h fun x23 hx23 h => Jh R R R C38 (s_l1Below_ok (κ := fun b => mp [(8, 2)] 0 (K52 b)) (p0 := (⟨p0.b, x18.2.1, x18.2.2⟩ : l1Cur)) (Jl2 (f38.stp (S44.tr S53) R R) (mp [(8, 2)] 0) R R) ((f47.stp S53 R R).map (mp [(8, 2)] 0) R R) hx23) ?_)⟩
 rintro _ w58 ⟨k59, rfl, e60, f61⟩
 obtain ⟨K62, S63, m64⟩ := Ji e60 11 R
 refine ⟨tv, Jb 1 R (Ju (Jw (Ja2 (l := [.tmp 4]) V65 (Jp2 R R) R ?_)))⟩
 cases h
 exact ⟨(fun b => ren [(13, 2)] (K62 b)), R, ((hE.stp (S6.tr (S44.tr (S53.tr S63))) R R).map (ren [(13, 2)]) R R), ((f61.mx m64 R (R : 11 + 2 = 13)).map (ren [(13, 2)]) R R)⟩
 refine JT fun h => Jx R (Je [2, 2, 2, 2, 1, 1, 2, 1, 2, 1, 2] R (Jn 4 R (Ob h fun x11 hx11 h => ?_)))
 have f11 := g0_0.stp S6 R R
 refine Jh R R R C93 (s_l1Odd_ok (κ := fun b => mp [(5, 2)] 0 (K5 b)) (p0 := (⟨p0.b, x6.2.1, x6.2.2⟩ : l1Cur)) (Jl2 f11 (mp [(5, 2)] 0) R R) (f9.map (mp [(5, 2)] 0) R R) hx11) ?_
 rintro _ w12 ⟨k13, rfl, e14, f15⟩
 obtain ⟨K16, S17, m18⟩ := Ji e14 6 R
 refine ⟨tv, Jn1 (κ := K16) (E := E6) 9 [] (parts := [(0, .const (vi (-1))), (1, .tmp 7), (2, .tmp 9), (3, .tmp 11)]) (cells := [vi (-1), vi p1, vi (IntKind.i64.wrap (p1 + 1)), vi x11.1]) (xs := ([(-1), p1, (IntKind.i64.wrap (p1 + 1)), x11.1] : List Int)) R R R R R R Y24 Tryinfo2 R R R R R R R R R R ⟨[vi (-1)], [vi p1, vi (IntKind.i64.wrap (p1 + 1)), vi x11.1], Zl K16 w12 [], Zl K16 w12 [], R, Zl.sp (l1 := []) (l2 := []) R, Zl.sr (l1 := []) (l2 := []), R, ⟨[vi p1], [vi (IntKind.i64.wrap (p1 + 1)), vi x11.1], Zl K16 w12 [], Zl K16 w12 [], R, Zl.sp (l1 := []) (l2 := []) R, Zl.sr (l1 := []) (l2 := []), R, ⟨[vi (IntKind.i64.wrap (p1 + 1))], [vi x11.1], Zl K16 w12 [], Zl K16 w12 [], R, Zl.sp (l1 := []) (l2 := []) R, Zl.sr (l1 := []) (l2 := []), R, ⟨[vi x11.1], [], Zl K16 w12 [], Zl K16 w12 [], R, Zl.sp (l1 := []) (l2 := []) R, Zl.sr (l1 := []) (l2 := []), R, R⟩⟩⟩⟩ fun ac ad w21 K22 S23 f24 => ⟨tv, Jn 1 R (Ob h fun x14 hx14 h => Jh R R R C38 (s_l1Below_ok (κ := fun b => mp [(8, 2)] 0 (K22 b)) (p0 := (⟨p0.b, x11.2.1, x11.2.2⟩ : l1Cur)) (Jl2 (f11.stp (S17.tr S23) R R) (mp [(8, 2)] 0) R R) (((f15.mx m18 R (R : 6 + 2 = 8)).stp S23 R R).map (mp [(8, 2)] 0) R R) hx14) ?_)⟩⟩
 rintro _ w27 ⟨k28, rfl, e29, f30⟩
 obtain ⟨K31, S32, m33⟩ := Ji e29 10 R
 refine ⟨tv, Ob h fun x15 hx15 h => Jf R (Jf2 f24.rdc hx15 U24 Z2 R R R R) (Jl tv R R R R (Jc2 I2 R R (hvE ((f24.stp S32 R R).rdc.gInt hx15))) (Jb 1 R (Ju (Jw (Ja2 (l := [.tmp 4]) V65 (Jp2 R R) R ?_)))))⟩
 cases h
 exact ⟨(fun b => ren [(12, 2)] (K31 b)), R, ((hE.stp (S6.tr (S17.tr (S23.tr S32))) R R).map (ren [(12, 2)]) R R), ((f30.mx m33 R (R : 10 + 2 = 12)).map (ren [(12, 2)]) R R)⟩
theorem s_l1DrawAny_ok {w : World} {κ : Col} {ab aa} {p0 : l1Cur} {b0} (g0_0 : Rd (Rp.int .u8) κ w 0 ab aa p0.b) (gb0 : Bc κ w 2 b0 102 [.slice ab p0.b.length aa, vi p0.i, vi p0.h]) {r : Arena × Int × Int} (h : s_l1DrawAny p0 = some r) : Ret Try.prog 37 [.pointer (some ⟨b0, 0, none⟩)] w (fun v w' => ∃ (κ' : Col) (ra0 : Option Addr) (ru0 : Nat) (ra1 : Option Addr) (ru1 : Nat), v = .agg #[.slice ra0 r.1.Owner.length ru0, .slice ra1 r.1.Next.length ru1] ∧ Ent κ w κ' w' ∧ Oc E6 2 κ' w' 3 ra0 ru0 r.1.Owner ∧ Oc (Ep.own E6 2) 24 κ' w' 4 ra1 ru1 r.1.Next ∧ Bc κ' w' 2 b0 102 [.slice ab p0.b.length aa, vi r.2.1, vi r.2.2]) := by
 unfold s_l1DrawAny at h
 refine Ret.enter F37 R N37 R ?_
 dsimp only [envOf]
 have hE := Ent.refl κ w
 refine Je [1] R (Jg1 (κ := κ) 3 R R R R R X72 R fun b2 w1 K2 S3 f4 => ⟨tv, Jd (Je [2, 1, 1, 1] R (Jn 1 R (Ob h fun x7 hx7 h => ?_)))⟩)
 have f5 := g0_0.stp S3 R R
 refine Jh R R R C63 (s_l1Draw_ok (κ := fun b => mp [(2, 2)] 0 (K2 b)) (p0 := p0) (Jl2 f5 (mp [(2, 2)] 0) R R) ((gb0.stp S3 R R).map (mp [(2, 2)] 0) R R) hx7) ?_
 rintro _ w7 ⟨k8, aj, ah, ac, ad, rfl, e9, f10, f11, f12⟩
 obtain ⟨K13, S14, m15⟩ := Ji e9 4 R
 refine ⟨tv, ?_⟩
 have f17 := f10.mx (no_int _) m15 R (R : 4 + 3 = 7)
 have f18 := f11.mx (no_own (no_int _) _) m15 R (R : 4 + 4 = 8)
 refine Jg1 (κ := K13) 9 R R R R R X72 R fun b3 w20 K21 S22 f23 => ⟨tv, Jj1 (κ := K21) 9 (vc := [.slice aj x7.1.Owner.length ah, .slice ac x7.1.Next.length ad]) R R R R R R R Z72 R R f23 R fun w24 S25 f26 => ⟨tv, Jd (Jq (Je [2, 1] R (Jn 1 R (Ob h fun x9 hx9 h => ?_))))⟩⟩
 have f27 := f5.stp (S14.tr (S22.tr S25)) R R
 refine Jh R R R C40 (s_l1Once_ok (κ := fun b => mp [(6, 2)] 0 (K21 b)) (p0 := (⟨p0.b, x7.2.1, x7.2.2⟩ : l1Cur)) (Jl2 f27 (mp [(6, 2)] 0) R R) (((f12.mx m15 R (R : 4 + 2 = 6)).stp (S22.tr S25) R R).map (mp [(6, 2)] 0) R R) hx9) ?_
 rintro _ w29 ⟨k30, rfl, e31, f32⟩
 obtain ⟨K33, S34, m35⟩ := Ji e31 10 R
 refine ⟨tv, ?_⟩
 have f37 := f32.mx m35 R (R : 10 + 2 = 12)
 refine Jd (Ob h fun q1 h hK38 => Jx1 (fun L w' => ∃ κ' af ae ak ai, L = [(0, .pointer (some ⟨b0, 0, none⟩)), (2, .pointer (some ⟨b2, 0, none⟩)), (3, .pointer (some ⟨b3, 0, none⟩))] ∧ Stp [7, 8, 9, 12, 15, 18, 19, 20, 21, 23, 25, 26] K33 w29 κ' w' ∧ Oc E6 2 κ' w' 7 af ae q1.2.2.1 ∧ Oc (Ep.own E6 2) 24 κ' w' 8 ak ai q1.2.2.2 ∧ Bc κ' w' 12 b0 102 [.slice ab p0.b.length aa, vi q1.1, vi q1.2.1] ∧ Bc κ' w' 9 b3 72 [.slice af q1.2.2.1.length ae, .slice ak q1.2.2.2.length ai]) ?_ ?_)
 revert h
 cases ht46 : x9.1
 refine JF fun h => Jy R (Js ?_)
 cases h
 exact Jw1 _ ⟨K33, aj, ah, ac, ad, R, (Jx2 _ _).wk R, (f17.stp (S22.tr (S25.tr S34)) R R), (f18.stp (S22.tr (S25.tr S34)) R R), f37, (f26.stp S34 R R)⟩ (KM R)
 refine JT fun h => Jx R (Je [2, 2, 1, 2, 1, 2] R (Jn 1 R (Jf R (Jb2 U72 R Z24 R R) ?_)))
 have f47 := f26.stp S34 R R
 refine Jl tv R R R R (Jc2 I24 R R (hvE (f47.ld 0 R R))) (Jf R (Je2 U24 R R) (Ob h fun x14 hx14 h => ?_))
 have f48 := f27.stp S34 R R
 refine Jh R R R C38 (s_l1Below_ok (κ := fun b => mp [(12, 2)] 0 (K33 b)) (p0 := (⟨p0.b, x9.2.1, x9.2.2⟩ : l1Cur)) (Jl2 f48 (mp [(12, 2)] 0) R R) (f37.map (mp [(12, 2)] 0) R R) hx14) ?_
 rintro _ w49 ⟨k50, rfl, e51, f52⟩
 obtain ⟨K53, S54, m55⟩ := Ji e51 13 R
 refine ⟨tv, Jb 1 R (Je [2, 1] R (Jn 1 R (Ob h fun x16 hx16 h => ?_)))⟩
 have f58 := f48.stp S54 R R
 refine Jh R R R C38 (s_l1Below_ok (κ := fun b => mp [(15, 2)] 0 (K53 b)) (p0 := (⟨p0.b, x14.2.1, x14.2.2⟩ : l1Cur)) (Jl2 f58 (mp [(15, 2)] 0) R R) ((f52.mx m55 R (R : 13 + 2 = 15)).map (mp [(15, 2)] 0) R R) hx16) ?_
 rintro _ w59 ⟨k60, rfl, e61, f62⟩
 obtain ⟨K63, S64, m65⟩ := Ji e61 16 R
 refine ⟨tv, ?_⟩
 have f67 := f62.mx m65 R (R : 16 + 2 = 18)
 refine Jd (Jv (Je [2, 2] R (Jb 2 R (Ob h fun q2 h hK68 => Jx1 (fun L w' => ∃ κ' ax ar aO aH, L = [(0, .pointer (some ⟨b0, 0, none⟩)), (2, .pointer (some ⟨b2, 0, none⟩)), (3, .pointer (some ⟨b3, 0, none⟩))] ∧ Stp [7, 8, 9, 18, 19, 20, 21, 23, 25, 26] K63 w59 κ' w' ∧ Oc E6 2 κ' w' 7 ax ar q2.2.2.1 ∧ Oc (Ep.own E6 2) 24 κ' w' 8 aO aH q2.2.2.2 ∧ Bc κ' w' 18 b0 102 [.slice ab p0.b.length aa, vi q2.1, vi q2.2.1] ∧ Bc κ' w' 9 b3 72 [.slice ax q2.2.2.1.length ar, .slice aO q2.2.2.2.length aH]) ?_ ?_))))
 revert h
 cases ht76 : (x16.1 == 0)
 refine JF fun h => Jy R (Je [2, 2] R (Jb 2 R (Ob h fun q3 h hK100 => Jx1 (fun L w' => ∃ κ' ay aQ aL az, L = [(0, .pointer (some ⟨b0, 0, none⟩)), (2, .pointer (some ⟨b2, 0, none⟩)), (3, .pointer (some ⟨b3, 0, none⟩))] ∧ Stp [7, 8, 9, 18, 19, 20, 21, 23, 25, 26] K63 w59 κ' w' ∧ Oc E6 2 κ' w' 7 ay aQ q3.2.2.1 ∧ Oc (Ep.own E6 2) 24 κ' w' 8 aL az q3.2.2.2 ∧ Bc κ' w' 18 b0 102 [.slice ab p0.b.length aa, vi q3.1, vi q3.2.1] ∧ Bc κ' w' 9 b3 72 [.slice ay q3.2.2.1.length aQ, .slice aL q3.2.2.2.length az]) ?_ ?_)))
 revert h
 cases ht108 : (x16.1 == 1)
 refine JF fun h => Jy R (Je [2, 2] R (Jb 2 R (Ob h fun q4 h hK229 => Jx1 (fun L w' => ∃ κ' aw ao aM ap, L = [(0, .pointer (some ⟨b0, 0, none⟩)), (2, .pointer (some ⟨b2, 0, none⟩)), (3, .pointer (some ⟨b3, 0, none⟩))] ∧ Stp [7, 8, 9, 18, 19, 20, 23, 25, 26] K63 w59 κ' w' ∧ Oc E6 2 κ' w' 7 aw ao q4.2.2.1 ∧ Oc (Ep.own E6 2) 24 κ' w' 8 aM ap q4.2.2.2 ∧ Bc κ' w' 18 b0 102 [.slice ab p0.b.length aa, vi q4.1, vi q4.2.1] ∧ Bc κ' w' 9 b3 72 [.slice aw q4.2.2.1.length ao, .slice aM q4.2.2.2.length ap]) ?_ ?_)))
 revert h
 cases ht237 : (x16.1 == 2)
 refine JF fun h => Jy R (Je [2, 2] R (Jb 2 R (Ob h fun q5 h hK252 => Jx1 (fun L w' => ∃ κ' aI aq aF aC, L = [(0, .pointer (some ⟨b0, 0, none⟩)), (2, .pointer (some ⟨b2, 0, none⟩)), (3, .pointer (some ⟨b3, 0, none⟩))] ∧ Stp [7, 8, 9, 18, 19, 20, 23, 25, 26] K63 w59 κ' w' ∧ Oc E6 2 κ' w' 7 aI aq q5.2.2.1 ∧ Oc (Ep.own E6 2) 24 κ' w' 8 aF aC q5.2.2.2 ∧ Bc κ' w' 18 b0 102 [.slice ab p0.b.length aa, vi q5.1, vi q5.2.1] ∧ Bc κ' w' 9 b3 72 [.slice aI q5.2.2.1.length aq, .slice aF q5.2.2.2.length aC]) ?_ ?_)))
 revert h
 cases ht260 : (x16.1 == 3)
 refine JF fun h => Jy R (Je [2, 2] R (Jb 2 R (Ob h fun q6 h hK278 => Jx1 (fun L w' => ∃ κ' au av an aP, L = [(0, .pointer (some ⟨b0, 0, none⟩)), (2, .pointer (some ⟨b2, 0, none⟩)), (3, .pointer (some ⟨b3, 0, none⟩))] ∧ Stp [8, 9, 18, 19, 20, 23, 25, 26] K63 w59 κ' w' ∧ Oc E6 2 κ' w' 7 au av q6.2.2.1 ∧ Oc (Ep.own E6 2) 24 κ' w' 8 an aP q6.2.2.2 ∧ Bc κ' w' 18 b0 102 [.slice ab p0.b.length aa, vi q6.1, vi q6.2.1] ∧ Bc κ' w' 9 b3 72 [.slice au q6.2.2.1.length av, .slice an q6.2.2.2.length aP]) ?_ ?_)))
 revert h
 cases ht286 : (x16.1 == 4)
 refine JF fun h => Jy R (Je [2, 2] R (Jb 2 R (Ob h fun q10 h hK358 => Jx1 (fun L w' => ∃ κ', L = [(0, .pointer (some ⟨b0, 0, none⟩)), (2, .pointer (some ⟨b2, 0, none⟩)), (3, .pointer (some ⟨b3, 0, none⟩))] ∧ Stp [8, 19] K63 w59 κ' w' ∧ Oc (Ep.own E6 2) 24 κ' w' 8 ac ad q10 ∧ x7.1.Next.length = q10.length) ?_ ?_)))
 revert h
 cases ht364 : (x16.1 == 5)
 refine JF fun h => Jy R (Js ?_)
 cases h
 exact Jw1 _ ⟨K63, R, (Jx2 _ _).wk R, (f18.stp (S22.tr (S25.tr (S34.tr (S54.tr S64)))) R R), R⟩ (KM R)
 refine JT fun h => Jx R (Js1 (κ := K63) [9] none [(0, 2), (2, 2), (1, 0), (3, 1), (4, 2), (5, 1)] [] (by kernel_rfl) (by kernel_rfl) fun w366 S365 => Jf R (Jb2 U72 R Z22 R R) (Jn 1 R (Jg R (Jc2 I22 R R (hvC ((f47.stp (S54.tr (S64.tr S365)) R R).ld 1 R R) R)) (Ob h fun x84 hx84 h => Jl1 (κ := K63) (E := E6) (z := (0 : Int)) 19 R R R R R R R Y24 Tryinfo2 R R R R R (fun _ _ _ => R) (Ju2 hx84) fun bg bd w368 K369 S370 f371 => ⟨(S370.cl R), Ob h fun x85 hx85 h => Jf R (Jf2 f18.rdc hx85 U22 Z24 R R R R) (Ob h fun y49 hy49 h => Jk1 (κ := K369) (E := (Ep.own E6 2)) 8 [19] R R R R R R R R Z24 R ⟨_, _, R, f371⟩ R R (f18.stp (S22.tr (S25.tr (S34.tr (S54.tr (S64.tr (S365.tr S370)))))) R R) hy49 fun w373 K374 S375 f376 => ⟨((S370.tr S375).cl R), ?_⟩)⟩))))
 have hn377 : x7.1.Next.length = y49.length := (Jt2 hy49).2.2.2.symm
 refine Jt1 (Jo ?_)
 cases h
 exact Jw1 _ ⟨K374, R, (S365.tr (S370.tr S375)).wk R, f376, hn377⟩ (KM R)
 rintro _ w359 ⟨K360, rfl, S361, f362, hn363⟩
 have h := hK358
 cases h
 exact Jw1 _ ⟨K360, aj, ah, ac, ad, R, S361.wk R, (f17.stp (S22.tr (S25.tr (S34.tr (S54.tr (S64.tr S361))))) R R), f362, (f67.stp S361 R R), (Bc.cast (f47.stp (S54.tr (S64.tr S361)) R R) (by simp only [hn363]))⟩ (KM R)
 refine JT fun h => Jx R (Je [2, 1] R (Jf R (rn_build (parts := []) (cells := [.slice none 0 0, .slice none 0 0]) R R (by kernel_rfl)) (Jj1 (κ := K63) 9 (vc := [.slice none 0 0, .slice none 0 0]) R R R R R R R Z72 R R (f47.stp (S54.tr S64) R R) R fun w288 S289 f290 => ⟨tv, Jd (Je [2] R (Jb 1 R (Ob h fun q8 hq293 hK292 => ?_)))⟩)))
 clear h
 refine Jx1 (fun L w' => ∃ κ', ∃ s9 : Int × Int × Int × (List Int) × (List (List Int)), ∃ aN aA aD aJ, L = [(0, .pointer (some ⟨b0, 0, none⟩)), (2, .pointer (some ⟨b2, 0, none⟩)), (3, .pointer (some ⟨b3, 0, none⟩))] ∧ Stp [9, 18, 19, 20, 23, 25, 26] K63 w288 κ' w' ∧ Oc E6 2 κ' w' 19 aN aA s9.2.2.2.1 ∧ Oc (Ep.own E6 2) 24 κ' w' 20 aD aJ s9.2.2.2.2 ∧ Bc κ' w' 18 b0 102 [.slice ab p0.b.length aa, vi s9.2.1, vi s9.2.2.1] ∧ Bc κ' w' 9 b3 72 [.slice aN s9.2.2.2.1.length aA, .slice aD s9.2.2.2.2.length aJ] ∧ q8 = Sum.inr s9) ?_ ?_
 refine Jv (Jy1 (fun k L w' => ∃ κ', ∃ s7 : Int × Int × Int × (List Int) × (List (List Int)), ∃ aE aB al am, L = [(0, .pointer (some ⟨b0, 0, none⟩)), (2, .pointer (some ⟨b2, 0, none⟩)), (3, .pointer (some ⟨b3, 0, none⟩)), (5, vi s7.1)] ∧ Stp [9, 18, 19, 20, 23, 25, 26] K63 w288 κ' w' ∧ Oc E6 2 κ' w' 19 aE aB s7.2.2.2.1 ∧ Oc (Ep.own E6 2) 24 κ' w' 20 al am s7.2.2.2.2 ∧ Bc κ' w' 18 b0 102 [.slice ab p0.b.length aa, vi s7.2.1, vi s7.2.2.1] ∧ Bc κ' w' 9 b3 72 [.slice aE s7.2.2.2.1.length aB, .slice al s7.2.2.2.2.length am] ∧ whileM (s_l1DrawAny_b1 p0) k s7 = some q8) ⟨_, _, ⟨K63, ((0 : Int), (x16.2.1 : Int), (x16.2.2 : Int), (([] : List Int) : (List Int)), (([] : List (List Int)) : (List (List Int)))), none, 0, none, 0, R, (Jx2 _ _).wk R, Ow.nil, Ow.nil, (f67.stp S289 R R), f290, hq293⟩, (KM R)⟩ ?_)
 rintro k _ w301 ⟨K302, s7, aE, aB, al, am, rfl, S303, f304, f305, f306, f307, h⟩
 rcases k with _ | k
 cases h
 obtain ⟨o291, h, hk309⟩ := BI h; unfold s_l1DrawAny_b1 at h
 refine Jq (Je [2, 2, 1, 2, 2] R (Jn 2 R (Ob h fun x59 hx59 h => Jh R R R C38 (s_l1Below_ok (κ := fun b => mp [(18, 2)] 0 (K302 b)) (p0 := (⟨p0.b, s7.2.1, s7.2.2.1⟩ : l1Cur)) (Jl2 (f58.stp (S64.tr (S289.tr S303)) R R) (mp [(18, 2)] 0) R R) (f306.map (mp [(18, 2)] 0) R R) hx59) ?_)))
 rintro _ w311 ⟨k312, rfl, e313, f314⟩
 obtain ⟨K315, S316, m317⟩ := Ji e313 21 R
 refine ⟨tv, ?_⟩
 have f319 := f314.mx m317 R (R : 21 + 2 = 23)
 refine Jb 2 R ?_
 revert h
 cases ht320 : decide (s7.1 < (IntKind.i64.wrap (256 + x59.1)))
 refine JF fun h => Jy R (Jc1 (Jt (Jt ?_)))
 cases h
 have h := hk309
 refine Jb1 ?_
 cases h
 exact Jw1 _ ⟨(fun b => ren [(23, 18)] (K315 b)), ((s7.1 : Int), (x59.2.1 : Int), (x59.2.2 : Int), (s7.2.2.2.1 : (List Int)), (s7.2.2.2.2 : (List (List Int)))), aE, aB, al, am, R, (Jy2 ((S303.tr S316).wk R) [(23, 18)] R), ((f304.stp S316 R R).map (ren [(23, 18)]) R R), ((f305.stp S316 R R).map (ren [(23, 18)]) R R), (f319.map (ren [(23, 18)]) R R), ((f307.stp S316 R R).map (ren [(23, 18)]) R R), R⟩ (KM R)
 refine JT fun h => Jx R (Js (Jp (Jq (Jv (Je [2, 1, 2, 2, 1, 1, 2, 1] R (Jf R (Jb2 U72 R Z24 R R) ?_))))))
 have f321 := f307.stp S316 R R
 refine Jl tv R R R R (Jc2 I24 R R (hvE (f321.ld 0 R R))) (Jn 1 R (Jf R (rn_rem R R R (by decide)) (Jn1 (κ := K315) (E := E6) 24 [] (parts := [(0, .tmp 67)]) (cells := [vi (Int.tmod s7.1 2)]) (xs := ([(Int.tmod s7.1 2)] : List Int)) R R R R R R Y24 Tryinfo2 R R R R R R R R R R ⟨[vi (Int.tmod s7.1 2)], [], Zl K315 w311 [], Zl K315 w311 [], R, Zl.sp (l1 := []) (l2 := []) R, Zl.sr (l1 := []) (l2 := []), R, R⟩ fun bb bc w322 K323 S324 f325 => ⟨tv, Ob h fun x69 hx69 h => Jm1 (κ := K323) (E := E6) 19 [] R R R R R R R R R Y24 Tryinfo2 R R R R (f304.stp (S316.tr S324) R R) (Sl.srcP (pu_int _) f325.rdc) sy_false hx69 R fun aG aK w327 K328 S329 f330 => ⟨tv, Jf R (Jb2 U72 R Z24 R R) (Ji1 (κ := K328) 9 (off := 0) (vc := [.slice aG x69.length aK]) (cs' := [.slice aG x69.length aK, .slice al s7.2.2.2.2.length am]) R R R R R R R Z24 R R (f321.stp (S324.tr S329) R R) R R fun w332 S333 f334 => ⟨tv, Jd (Ja [2, 1, 2, 2, 1, 1, 1, 2, 1] R (Jf R (Jb2 U72 R Z22 R R) (Jl tv R R R R (Jc2 I22 R R (hvE (f334.ld 1 R R))) (Jn 1 R (Jf R (rn_quo R R R (by decide)) (Jn1 (κ := K328) (E := E6) 25 [] (parts := [(0, .tmp 74)]) (cells := [vi (IntKind.i64.wrap (Int.tdiv s7.1 2))]) (xs := ([(IntKind.i64.wrap (Int.tdiv s7.1 2))] : List Int)) R R R R R R Y24 Tryinfo2 R R R R R R R R R R ⟨[vi (IntKind.i64.wrap (Int.tdiv s7.1 2))], [], Zl K328 w332 [], Zl K328 w332 [], R, Zl.sp (l1 := []) (l2 := []) R, Zl.sr (l1 := []) (l2 := []), R, R⟩ fun ba aY w335 K336 S337 f338 => ⟨tv, Jn1 (κ := K336) (E := (Ep.own E6 2)) 26 [25] (parts := [(0, .tmp 75)]) (cells := [.slice ba ([(IntKind.i64.wrap (Int.tdiv s7.1 2))] : List Int).length aY]) (xs := ([([(IntKind.i64.wrap (Int.tdiv s7.1 2))] : List Int)] : List (List Int))) R R R R R R Y22 Tryinfo24 R R R R R R R R R R ⟨[.slice ba ([(IntKind.i64.wrap (Int.tdiv s7.1 2))] : List Int).length aY], [], Zl K336 w335 [25], Zl K336 w335 [], R, Zl.sp (l1 := [25]) (l2 := []) R, Zl.sr (l1 := [25]) (l2 := []), ⟨_, _, R, f338⟩, R⟩ fun bi bh w339 K340 S341 f342 => ⟨tv, Ob h fun x77 hx77 h => Jm1 (κ := K340) (E := (Ep.own E6 2)) 20 [26] R R R R R R R R R Y22 Tryinfo24 R R R R (f305.stp (S316.tr (S324.tr (S329.tr (S333.tr (S337.tr S341))))) R R) f342.src (sy_one R) hx77 R fun aW aR w344 K345 S346 f347 => ⟨tv, Jf R (Jb2 U72 R Z22 R R) (Ji1 (κ := K345) 9 (off := 1) (vc := [.slice aW x77.length aR]) (cs' := [.slice aG x69.length aK, .slice aW x77.length aR]) R R R R R R R Z22 R R (f334.stp (S337.tr (S341.tr S346)) R R) R R fun w349 S350 f351 => ⟨tv, Jo (Jz (Jp (Ja [2, 2, 2] R (Jc 3 R ?_))))⟩)⟩⟩⟩))))))⟩)⟩⟩)))
 cases h
 exact Jz1 fun a ha => ⟨k, _, Ja3 _, ⟨(fun b => ren [(23, 18)] (K345 b)), (((IntKind.i64.wrap (s7.1 + 1)) : Int), (x59.2.1 : Int), (x59.2.2 : Int), (x69 : (List Int)), (x77 : (List (List Int)))), aG, aK, aW, aR, R, (Jy2 ((S303.tr (S316.tr (S324.tr (S329.tr (S333.tr (S337.tr (S341.tr (S346.tr S350)))))))).wk R) [(23, 18)] R), ((f330.stp (S333.tr (S337.tr (S341.tr (S346.tr S350)))) R R).map (ren [(23, 18)]) R R), ((f347.stp S350 R R).map (ren [(23, 18)]) R R), ((f319.stp (S324.tr (S329.tr (S333.tr (S337.tr (S341.tr (S346.tr S350)))))) R R).map (ren [(23, 18)]) R R), (f351.map (ren [(23, 18)]) R R), hk309⟩, (ha.mm R)⟩
 rintro _ w294 ⟨K295, s9, aN, aA, aD, aJ, rfl, S296, f297, f298, f299, f300, rfl⟩
 have h := hK292
 dsimp only [aft] at h
 cases h
 exact Jw1 _ ⟨(fun b => ren [(19, 7), (20, 8)] (K295 b)), aN, aA, aD, aJ, R, (Jy2 ((S289.tr S296).wk R) [(19, 7), (20, 8)] R), (f297.map (ren [(19, 7), (20, 8)]) R R), (f298.map (ren [(19, 7), (20, 8)]) R R), (f299.map (ren [(19, 7), (20, 8)]) R R), (f300.map (ren [(19, 7), (20, 8)]) R R)⟩ (KM R)
 rintro _ w279 ⟨K280, au, av, an, aP, rfl, S281, f282, f283, f284, f285⟩
 have h := hK278
 cases h
 exact Jw1 _ ⟨K280, au, av, an, aP, R, S281.wk R, f282, f283, f284, f285⟩ (KM R)
 refine JT fun h => Jx R (Ja [2, 1, 1, 1, 2, 1] R (Jf R (Jb2 U72 R Z24 R R) ?_))
 have f261 := f47.stp (S54.tr S64) R R
 refine Jl tv R R R R (Jc2 I24 R R (hvE (f261.ld 0 R R))) (Jn1 (κ := K63) (E := E6) 19 [] (parts := [(0, .const (vi 0))]) (cells := [vi 0]) (xs := ([0] : List Int)) R R R R R R Y24 Tryinfo2 R R R R R R R R R R ⟨[vi 0], [], Zl K63 w59 [], Zl K63 w59 [], R, Zl.sp (l1 := []) (l2 := []) R, Zl.sr (l1 := []) (l2 := []), R, R⟩ fun bk bj w262 K263 S264 f265 => ⟨tv, Ob h fun x52 hx52 h => Jm1 (κ := K263) (E := E6) 7 [] R R R R R R R R R Y24 Tryinfo2 R R R R (f17.stp (S22.tr (S25.tr (S34.tr (S54.tr (S64.tr S264))))) R R) (Sl.srcP (pu_int _) f265.rdc) sy_false hx52 R fun aV aT w267 K268 S269 f270 => ⟨tv, Jf R (Jb2 U72 R Z24 R R) (Ji1 (κ := K268) 9 (off := 0) (vc := [.slice aV x52.length aT]) (cs' := [.slice aV x52.length aT, .slice ac x7.1.Next.length ad]) R R R R R R R Z24 R R (f261.stp (S264.tr S269) R R) R R fun w272 S273 f274 => ⟨tv, Jo ?_⟩)⟩⟩)
 cases h
 have S001 := (S264.tr (S269.tr S273))
 exact Jw1 _ ⟨K268, aV, aT, ac, ad, R, S001.wk R, (f270.stp S273 R R), (f18.stp (S22.tr (S25.tr (S34.tr (S54.tr (S64.tr (S264.tr (S269.tr S273))))))) R R), (f67.stp S001 R R), f274⟩ (KM R)
 rintro _ w253 ⟨K254, aI, aq, aF, aC, rfl, S255, f256, f257, f258, f259⟩
 have h := hK252
 cases h
 exact Jw1 _ ⟨K254, aI, aq, aF, aC, R, S255.wk R, f256, f257, f258, f259⟩ (KM R)
 refine JT fun h => Jx R (Ja [2, 1, 2, 1, 2, 1] R (Jf R (Jb2 U72 R Z22 R R) ?_))
 have f238 := f47.stp (S54.tr S64) R R
 refine Jl tv R R R R (Jc2 I22 R R (hvE (f238.ld 1 R R))) (Jn 1 R (Jo1 (κ := K63) (E := E6) 19 R R R R R Y24 Tryinfo2 R fun bf be w239 K240 S241 f242 => ⟨tv, Ob h fun x46 hx46 h => Jf R (Jf2 f18.rdc hx46 U22 Z24 R R R R) (Ob h fun y42 hy42 h => Jk1 (κ := K240) (E := (Ep.own E6 2)) 8 [19] R R R R R R R R Z24 R ⟨_, _, R, f242⟩ R R (f18.stp (S22.tr (S25.tr (S34.tr (S54.tr (S64.tr S241))))) R R) hy42 fun w244 K245 S246 f247 => ⟨tv, ?_⟩)⟩))
 have hn248 : x7.1.Next.length = y42.length := (Jt2 hy42).2.2.2.symm
 refine Jo ?_
 cases h
 have S002 := (S241.tr S246)
 exact Jw1 _ ⟨K245, aj, ah, ac, ad, R, S002.wk R, (f17.stp (S22.tr (S25.tr (S34.tr (S54.tr (S64.tr (S241.tr S246)))))) R R), f247, (f67.stp S002 R R), (Bc.cast (f238.stp S002 R R) (by simp only [hn248]))⟩ (KM R)
 rintro _ w230 ⟨K231, aw, ao, aM, ap, rfl, S232, f233, f234, f235, f236⟩
 have h := hK229
 cases h
 exact Jw1 _ ⟨K231, aw, ao, aM, ap, R, S232.wk R, f233, f234, f235, f236⟩ (KM R)
 refine JT fun h => Jx R (Ob h fun x33 hx33 h => Ob h fun x36 hx36 h => Ob h fun x38 hx38 h => Ob h fun x39 hx39 h => Ob h fun y40 hy40 h => Jx1 (fun L w' => ∃ κ', L = [(0, .pointer (some ⟨b0, 0, none⟩)), (2, .pointer (some ⟨b2, 0, none⟩)), (3, .pointer (some ⟨b3, 0, none⟩))] ∧ Stp [8, 18, 21, 23] K63 w59 κ' w' ∧ Oc (Ep.own E6 2) 24 κ' w' 8 ac ad y40 ∧ x7.1.Next.length = y40.length ∧ Bc κ' w' 18 b0 102 [.slice ab p0.b.length aa, vi x36.2.1, vi x36.2.2]) ?_ ?_)
 refine WC.rxt (κ := K63) [0, 8, 9] (some 11) (by kernel_rfl) fun w116 S117 => Jq1 (fuel := 6) [(0, 2), (2, 2), (3, 2), (5, 2), (8, 2), (4, 0), (6, 2), (7, 0)] (by kernel_rfl) (by kernel_rfl) R (Jf R (Jb2 U72 R Z22 R R) (Jn 1 R (Jf R (Jb2 U72 R Z22 R R) (Jn 2 R ?_))))
 have f118 := f47.stp (S54.tr (S64.tr S117)) R R
 refine Jg R (Jc2 I22 R R (hvC (f118.ld 1 R R) R)) (Jf R (Jf2 f18.rdc hx33 U22 Z24 R R R R) ?_)
 have f119 := f18.stp (S22.tr (S25.tr (S34.tr (S54.tr (S64.tr S117))))) R R
 obtain ⟨ax33, ux33, f120, hl121⟩ := f119.rdc.gSl hx33
 refine Jg R (Jc2 I24 R R (hvC hl121 R)) (Jp1 (WA.fork2 (fuel := 5) 1 9 (by kernel_rfl) R ?_ ?_))
 refine Jl (Cl.refl _ _ _) R R R R (Jc2 I22 R R (hvE (f118.ld 1 R R))) (Jp1 (Jq1 (fuel := 3) [(9, 1), (10, 1)] (by kernel_rfl) (by kernel_rfl) R (Jh R R R C65 (s_l1Num_ok (κ := fun b => mp [(18, 2)] 0 (K63 b)) (p0 := (⟨p0.b, x16.2.1, x16.2.2⟩ : l1Cur)) (Jl2 (f58.stp (S64.tr S117) R R) (mp [(18, 2)] 0) R R) ((f67.stp S117 R R).map (mp [(18, 2)] 0) R R) hx36) ?_)))
 rintro _ w124 ⟨k125, rfl, e126, f127⟩
 obtain ⟨K128, S129, m130⟩ := Ji e126 19 R
 refine ⟨(S129.cl R), Jn1 (κ := K128) (E := E6) 22 [] (parts := [(0, .tmp 36)]) (cells := [vi x36.1]) (xs := ([x36.1] : List Int)) R R R R R R Y24 Tryinfo2 R R R R R R R R R R ⟨[vi x36.1], [], Zl K128 w124 [], Zl K128 w124 [], R, Zl.sp (l1 := []) (l2 := []) R, Zl.sr (l1 := []) (l2 := []), R, R⟩ fun aZ aX w133 K134 S135 f136 => ⟨((S129.tr S135).cl R), Jp1 (WA.brk (fuel := 2) 11 (by kernel_rfl) R (by kernel_rfl) ?_)⟩⟩
 have f137 := f119.stp (S129.tr S135) R R
 obtain ⟨K138, S139, f140, f141⟩ := f137.borrow hx33 (hl121 _ (Stp.ag (S129.tr S135) R)) 23 R R
 refine Jm1 (κ := K138) (E := E6) 23 [] R R R R R R R R R Y24 Tryinfo2 R R R R f140 (Sl.srcP (pu_int _) (f136.stp S139 R R).rdc) sy_false hx38 R fun aS aU w143 K144 S145 f146 => ⟨tv, Jp1 (Jq1 (fuel := 0) [(12, 2), (13, 1)] (by kernel_rfl) (by kernel_rfl) R (Jf R (Jf2 f137.rdc hx39 U22 Z24 R R R R) (WO.stH (κ := K144) (E := (Ep.own E6 2)) 8 [23] R R R R R R R R Z24 R ⟨_, _, R, f146⟩ R R (f141.stp S145 R R) hy40 fun w148 K149 S150 f151 => ⟨tv, ?_⟩)))⟩
 have hn152 : x7.1.Next.length = y40.length := (Jt2 hy40).2.2.2.symm
 exact Jp1 (Jr1 [] (by kernel_rfl) (by kernel_rfl) R (Jo (Jw1 _ ⟨(fun b => ren [(21, 18)] (K149 b)), R, (Jy2 ((S117.tr (S129.tr (S135.tr (S139.tr (S145.tr S150))))).wk R) [(21, 18)] R), (f151.map (ren [(21, 18)]) R R), hn152, (((f127.mx m130 R (R : 19 + 2 = 21)).stp (S135.tr (S139.tr (S145.tr S150))) R R).map (ren [(21, 18)]) R R)⟩ (KM R))))
 refine Jh R R R C65 (s_l1Num_ok (κ := fun b => mp [(18, 2)] 0 (K63 b)) (p0 := (⟨p0.b, x16.2.1, x16.2.2⟩ : l1Cur)) (Jl2 (f58.stp (S64.tr S117) R R) (mp [(18, 2)] 0) R R) ((f67.stp S117 R R).map (mp [(18, 2)] 0) R R) hx36) ?_
 rintro _ w156 ⟨k157, rfl, e158, f159⟩
 obtain ⟨K160, S161, m162⟩ := Ji e158 19 R
 refine ⟨(S161.cl R), ?_⟩
 have f164 := f159.mx m162 R (R : 19 + 2 = 21)
 refine Jp1 (WA.fork2 (fuel := 4) 1 10 (by kernel_rfl) R ?_ ?_)
 refine Jl (S161.cl R) R R R R (Jc2 I22 R R (hvE ((f118.stp S161 R R).ld 1 R R))) (Jp1 (Jq1 (fuel := 3) [(10, 1)] (by kernel_rfl) (by kernel_rfl) R (Jn1 (κ := K160) (E := E6) 22 [] (parts := [(0, .tmp 36)]) (cells := [vi x36.1]) (xs := ([x36.1] : List Int)) R R R R R R Y24 Tryinfo2 R R R R R R R R R R ⟨[vi x36.1], [], Zl K160 w156 [], Zl K160 w156 [], R, Zl.sp (l1 := []) (l2 := []) R, Zl.sr (l1 := []) (l2 := []), R, R⟩ fun aZ aX w166 K167 S168 f169 => ⟨((S161.tr S168).cl R), Jp1 (WA.brk (fuel := 2) 11 (by kernel_rfl) R (by kernel_rfl) ?_)⟩)))
 have f170 := f119.stp (S161.tr S168) R R
 obtain ⟨K171, S172, f173, f174⟩ := f170.borrow hx33 (hl121 _ (Stp.ag (S161.tr S168) R)) 23 R R
 refine Jm1 (κ := K171) (E := E6) 23 [] R R R R R R R R R Y24 Tryinfo2 R R R R f173 (Sl.srcP (pu_int _) (f169.stp S172 R R).rdc) sy_false hx38 R fun aS aU w176 K177 S178 f179 => ⟨tv, Jp1 (Jq1 (fuel := 0) [(12, 2), (13, 1)] (by kernel_rfl) (by kernel_rfl) R (Jf R (Jf2 f170.rdc hx39 U22 Z24 R R R R) (WO.stH (κ := K177) (E := (Ep.own E6 2)) 8 [23] R R R R R R R R Z24 R ⟨_, _, R, f179⟩ R R (f174.stp S178 R R) hy40 fun w181 K182 S183 f184 => ⟨tv, ?_⟩)))⟩
 have hn185 : x7.1.Next.length = y40.length := (Jt2 hy40).2.2.2.symm
 exact Jp1 (Jr1 [] (by kernel_rfl) (by kernel_rfl) R (Jo (Jw1 _ ⟨(fun b => ren [(21, 18)] (K182 b)), R, (Jy2 ((S117.tr (S161.tr (S168.tr (S172.tr (S178.tr S183))))).wk R) [(21, 18)] R), (f184.map (ren [(21, 18)]) R R), hn185, ((f164.stp (S168.tr (S172.tr (S178.tr S183))) R R).map (ren [(21, 18)]) R R)⟩ (KM R))))
 refine Jn1 (κ := K160) (E := E6) 22 [] (parts := [(0, .tmp 36)]) (cells := [vi x36.1]) (xs := ([x36.1] : List Int)) R R R R R R Y24 Tryinfo2 R R R R R R R R R R ⟨[vi x36.1], [], Zl K160 w156 [], Zl K160 w156 [], R, Zl.sp (l1 := []) (l2 := []) R, Zl.sr (l1 := []) (l2 := []), R, R⟩ fun aZ aX w187 K188 S189 f190 => ⟨((S161.tr S189).cl R), Jp1 (WA.forkB2r (fuel := 3) 1 11 (by kernel_rfl) R (by kernel_rfl) ?_ ?_)⟩
 refine Jl ((S161.tr S189).cl R) R R R R (Jc2 I22 R R (hvE ((f118.stp (S161.tr S189) R R).ld 1 R R))) (Jp1 (WA.brk (fuel := 2) 11 (by kernel_rfl) R (by kernel_rfl) ?_))
 have f192 := f119.stp (S161.tr S189) R R
 obtain ⟨K193, S194, f195, f196⟩ := f192.borrow hx33 (hl121 _ (Stp.ag (S161.tr S189) R)) 23 R R
 refine Jm1 (κ := K193) (E := E6) 23 [] R R R R R R R R R Y24 Tryinfo2 R R R R f195 (Sl.srcP (pu_int _) (f190.stp S194 R R).rdc) sy_false hx38 R fun aS aU w198 K199 S200 f201 => ⟨tv, Jp1 (Jq1 (fuel := 0) [(12, 2), (13, 1)] (by kernel_rfl) (by kernel_rfl) R (Jf R (Jf2 f192.rdc hx39 U22 Z24 R R R R) (WO.stH (κ := K199) (E := (Ep.own E6 2)) 8 [23] R R R R R R R R Z24 R ⟨_, _, R, f201⟩ R R (f196.stp S200 R R) hy40 fun w203 K204 S205 f206 => ⟨tv, ?_⟩)))⟩
 have hn207 : x7.1.Next.length = y40.length := (Jt2 hy40).2.2.2.symm
 exact Jp1 (Jr1 [] (by kernel_rfl) (by kernel_rfl) R (Jo (Jw1 _ ⟨(fun b => ren [(21, 18)] (K204 b)), R, (Jy2 ((S117.tr (S161.tr (S189.tr (S194.tr (S200.tr S205))))).wk R) [(21, 18)] R), (f206.map (ren [(21, 18)]) R R), hn207, ((f164.stp (S189.tr (S194.tr (S200.tr S205))) R R).map (ren [(21, 18)]) R R)⟩ (KM R))))
 have f209 := f119.stp (S161.tr S189) R R
 obtain ⟨K210, S211, f212, f213⟩ := f209.borrow hx33 (hl121 _ (Stp.ag (S161.tr S189) R)) 23 R R
 refine Jm1 (κ := K210) (E := E6) 23 [] R R R R R R R R R Y24 Tryinfo2 R R R R f212 (Sl.srcP (pu_int _) (f190.stp S211 R R).rdc) sy_false hx38 R fun aS aU w215 K216 S217 f218 => ⟨tv, Jp1 (Jq1 (fuel := 0) [(1, 1), (12, 2), (13, 1)] (by kernel_rfl) (by kernel_rfl) R (Jl tv R R R R (Jc2 I22 R R (hvE ((f118.stp (S161.tr (S189.tr (S211.tr S217))) R R).ld 1 R R))) (Jf R (Jf2 f209.rdc hx39 U22 Z24 R R R R) (WO.stH (κ := K216) (E := (Ep.own E6 2)) 8 [23] R R R R R R R R Z24 R ⟨_, _, R, f218⟩ R R (f213.stp S217 R R) hy40 fun w221 K222 S223 f224 => ⟨tv, ?_⟩))))⟩
 have hn225 : x7.1.Next.length = y40.length := (Jt2 hy40).2.2.2.symm
 exact Jp1 (Jr1 [] (by kernel_rfl) (by kernel_rfl) R (Jo (Jw1 _ ⟨(fun b => ren [(21, 18)] (K222 b)), R, (Jy2 ((S117.tr (S161.tr (S189.tr (S211.tr (S217.tr S223))))).wk R) [(21, 18)] R), (f224.map (ren [(21, 18)]) R R), hn225, ((f164.stp (S189.tr (S211.tr (S217.tr S223))) R R).map (ren [(21, 18)]) R R)⟩ (KM R))))
 rintro _ w109 ⟨K110, rfl, S111, f113, hn114, f115⟩
 cases h
 exact Jw1 _ ⟨K110, aj, ah, ac, ad, R, S111.wk R, (f17.stp (S22.tr (S25.tr (S34.tr (S54.tr (S64.tr S111))))) R R), f113, f115, (Bc.cast (f47.stp (S54.tr (S64.tr S111)) R R) (by simp only [hn114]))⟩ (KM R)
 rintro _ w101 ⟨K102, ay, aQ, aL, az, rfl, S103, f104, f105, f106, f107⟩
 have h := hK100
 cases h
 exact Jw1 _ ⟨K102, ay, aQ, aL, az, R, S103.wk R, f104, f105, f106, f107⟩ (KM R)
 refine JT fun h => Jx R (Js1 (κ := K63) [9] none [(0, 2), (2, 2), (3, 2), (1, 0), (4, 1), (5, 2), (6, 1)] [] (by kernel_rfl) (by kernel_rfl) fun w78 S77 => Jf R (Jb2 U72 R Z24 R R) (Jn 2 R ?_))
 have f79 := f47.stp (S54.tr (S64.tr S77)) R R
 refine Jg R (Jc2 I24 R R (hvC (f79.ld 0 R R) R)) (Ob h fun x23 hx23 h => Jh R R R C64 (s_l1From_ok (κ := fun b => mp [(18, 2)] 0 (K63 b)) (p0 := (⟨p0.b, x16.2.1, x16.2.2⟩ : l1Cur)) (Jl2 (f58.stp (S64.tr S77) R R) (mp [(18, 2)] 0) R R) ((f67.stp S77 R R).map (mp [(18, 2)] 0) R R) hx23) ?_)
 rintro _ w82 ⟨k83, rfl, e84, f85⟩
 obtain ⟨K86, S87, m88⟩ := Ji e84 19 R
 refine ⟨(S87.cl R), Ob h fun x24 hx24 h => Jf R (Jf2 f17.rdc hx24 U24 Z2 R R R R) (Ob h fun y27 hy27 h => Jk1 (κ := K86) (E := E6) 7 [] R R R R R R R R Z2 R R R R (f17.stp (S22.tr (S25.tr (S34.tr (S54.tr (S64.tr (S77.tr S87)))))) R R) hy27 fun w92 K93 S94 f95 => ⟨((S87.tr S94).cl R), ?_⟩)⟩
 have hn96 : x7.1.Owner.length = y27.length := (Jt2 hy27).2.2.2.symm
 refine Jt1 (Jo ?_)
 cases h
 exact Jw1 _ ⟨(fun b => ren [(21, 18)] (K93 b)), aj, ah, ac, ad, R, (Jy2 ((S77.tr (S87.tr S94)).wk R) [(21, 18)] R), (f95.map (ren [(21, 18)]) R R), ((f18.stp (S22.tr (S25.tr (S34.tr (S54.tr (S64.tr (S77.tr (S87.tr S94))))))) R R).map (ren [(21, 18)]) R R), (((f85.mx m88 R (R : 19 + 2 = 21)).stp S94 R R).map (ren [(21, 18)]) R R), (Bc.cast ((f79.stp (S87.tr S94) R R).map (ren [(21, 18)]) R R) (by simp only [hn96]))⟩ (KM R)
 rintro _ w69 ⟨K70, ax, ar, aO, aH, rfl, S71, f72, f73, f74, f75⟩
 have h := hK68
 refine Jz ?_
 cases h
 exact Jw1 _ ⟨(fun b => ren [(18, 12)] (K70 b)), ax, ar, aO, aH, R, (Jy2 ((S54.tr (S64.tr S71)).wk R) [(18, 12)] R), (f72.map (ren [(18, 12)]) R R), (f73.map (ren [(18, 12)]) R R), (f74.map (ren [(18, 12)]) R R), (f75.map (ren [(18, 12)]) R R)⟩ (KM R)
 rintro _ w39 ⟨K40, af, ae, ak, ai, rfl, S41, f42, f43, f44, f45⟩
 have h := hK38
 refine Jp (Je [1, 1] R (Jl tv R R R R (Jd2 (cs := [.slice af q1.2.2.1.length ae, .slice ak q1.2.2.2.length ai]) I72 Z72 R R R (haE f45.cells)) (Jj1 (κ := K40) 3 (vc := [.slice af q1.2.2.1.length ae, .slice ak q1.2.2.2.length ai]) R R R R R R R Z72 R R (f4.stp (S14.tr (S22.tr (S25.tr (S34.tr S41)))) R R) R fun w386 S387 f388 => ⟨tv, Jd (Ju (Ja2 (l := [.cell 2 72]) V37 (res_cellA R f388 I72 Z72 R R) R ?_))⟩)))
 cases h
 exact ⟨(fun b => ren [(7, 3), (8, 4), (12, 2)] (K40 b)), af, ae, ak, ai, R, ((hE.stp (S3.tr (S14.tr (S22.tr (S25.tr (S34.tr (S41.tr S387)))))) R R).map (ren [(7, 3), (8, 4), (12, 2)]) R R), ((f42.stp S387 R R).map (ren [(7, 3), (8, 4), (12, 2)]) R R), ((f43.stp S387 R R).map (ren [(7, 3), (8, 4), (12, 2)]) R R), ((f44.stp S387 R R).map (ren [(7, 3), (8, 4), (12, 2)]) R R)⟩
theorem s_l24DrawSet_ok {w : World} {κ : Col} {ac ab} {p0 : l1Cur} {p1 : Int} {b0} (g0_0 : Rd (Rp.int .u8) κ w 0 ac ab p0.b) (gb0 : Bc κ w 2 b0 102 [.slice ac p0.b.length ab, vi p0.i, vi p0.h]) {r : (List Int) × Int × Int} (h : s_l24DrawSet p0 p1 = some r) : Ret Try.prog 39 [.pointer (some ⟨b0, 0, none⟩), vi p1] w (fun v w' => ∃ (κ' : Col) (ra0 : Option Addr) (ru0 : Nat), v = .slice ra0 r.1.length ru0 ∧ Ent κ w κ' w' ∧ Oc E6 2 κ' w' 3 ra0 ru0 r.1 ∧ Bc κ' w' 2 b0 102 [.slice ac p0.b.length ab, vi r.2.1, vi r.2.2]) := by
 unfold s_l24DrawSet at h
 refine Ret.enter F39 R N39 R ?_
 dsimp only [envOf]
 have hE := Ent.refl κ w
 refine Je [2] R (Jb 1 R (Je [1, 2] R (Jo1 (κ := κ) (E := E6) 3 R R R R R Y24 Tryinfo2 R fun a7 u7 w1 K2 S3 f4 => ⟨tv, Jb 1 R (Jq (Je [2] R (Jb 1 R (Ob h fun _ hr5 h => ?_))))⟩)))
 have hN5 := rng_ok hr5
 refine Ob h fun q2 hq7 hK6 => ?_
 clear h
 refine Jx1 (fun L w' => ∃ κ', ∃ s3 : (List Int) × Int × Int, ∃ af ae, L = [(0, .pointer (some ⟨b0, 0, none⟩)), (5, .slice af s3.1.length ae)] ∧ Stp [2, 3, 6] K2 w1 κ' w' ∧ Oc E6 2 κ' w' 3 af ae s3.1 ∧ Bc κ' w' 2 b0 102 [.slice ac p0.b.length ab, vi s3.2.1, vi s3.2.2] ∧ q2 = Sum.inr s3) ?_ ?_
 refine Jv (Jy1 (fun k L w' => ∃ κ' v6, ∃ s1 : (List Int) × Int × Int, ∃ aa ad, L = [(0, .pointer (some ⟨b0, 0, none⟩)), (1, vi p1), (5, .slice aa s1.1.length ad), (6, vi v6)] ∧ Stp [2, 3, 6] K2 w1 κ' w' ∧ Oc E6 2 κ' w' 3 aa ad s1.1 ∧ Bc κ' w' 2 b0 102 [.slice ac p0.b.length ab, vi s1.2.1, vi s1.2.2] ∧ 0 ≤ v6 ∧ Int.toNat (p1 - v6) = k ∧ cntM (s_l24DrawSet_b0 p0) k v6 s1 = some q2) ⟨_, _, ⟨K2, 0, ((([] : List Int) : (List Int)), (p0.i : Int), (p0.h : Int)), a7, u7, R, (Jx2 _ _).wk R, f4, (gb0.stp S3 R R), (by decide), (by simp), hq7⟩, (KM R)⟩ ?_)
 rintro k _ w13 ⟨K14, v6, s1, aa, ad, rfl, S15, f16, f17, hj5, hJ5, h⟩
 rcases k with _ | k
 have hk19 := h; obtain ⟨o5, h⟩ := ex_eq (Sum.inr (Sum.inl s1) : ((List Int) × Int × Int) ⊕ (((List Int) × Int × Int) ⊕ ((List Int) × Int × Int)))
 have hc5 : decide (v6 < p1) = false := Jo2 (by omega)
 refine Jq (Je [2, 2, 2] R (Jb 3 R (Jw2 R hc5 (Jc1 (Jt (Jt ?_))))))
 cases h
 have h := hk19
 refine Jb1 ?_
 cases h
 exact Jw1 _ ⟨K14, ((s1.1 : (List Int)), (s1.2.1 : Int), (s1.2.2 : Int)), aa, ad, R, S15.wk R, f16, f17, R⟩ (KM R)
 obtain ⟨o5, h, hk19⟩ := BI h; unfold s_l24DrawSet_b0 at h
 have hc5 : decide (v6 < p1) = true := Jn2 (by omega)
 refine Jq (Je [2, 2, 2] R (Jb 3 R (Jv2 R hc5 (Js (Jp (Jq (Jv (Je [2, 1] R (Jn 1 R (Ob h fun x14 hx14 h => Jh R R R C40 (s_l1Once_ok (κ := fun b => mp [(2, 2)] 0 (K14 b)) (p0 := (⟨p0.b, s1.2.1, s1.2.2⟩ : l1Cur)) (Jl2 (g0_0.stp (S3.tr S15) R R) (mp [(2, 2)] 0) R R) (f17.map (mp [(2, 2)] 0) R R) hx14) ?_))))))))))
 rintro _ w21 ⟨k22, rfl, e23, f24⟩
 obtain ⟨K25, S26, m27⟩ := Ji e23 4 R
 refine ⟨tv, Jd (Ob h fun q4 h hK30 => Jx1 (fun L w' => ∃ κ' ah ai, L = [(0, .pointer (some ⟨b0, 0, none⟩)), (1, vi p1), (5, .slice ah q4.length ai), (6, vi v6)] ∧ Stp [3] K25 w21 κ' w' ∧ Oc E6 2 κ' w' 3 ah ai q4) ?_ ?_)⟩
 revert h
 cases ht35 : x14.1
 refine JF fun h => Jy R (Js ?_)
 cases h
 exact Jw1 _ ⟨K25, aa, ad, R, (Jx2 _ _).wk R, (f16.stp S26 R R)⟩ (KM R)
 refine JT fun h => Jx R (Ja [2, 2, 1, 1, 2] R (Jn 2 R (Jn1 (κ := K25) (E := E6) 7 [] (parts := [(0, .tmp 16)]) (cells := [vi v6]) (xs := ([v6] : List Int)) R R R R R R Y24 Tryinfo2 R R R R R R R R R R ⟨[vi v6], [], Zl K25 w21 [], Zl K25 w21 [], R, Zl.sp (l1 := []) (l2 := []) R, Zl.sr (l1 := []) (l2 := []), R, R⟩ fun am al w36 K37 S38 f39 => ⟨tv, Ob h fun x18 hx18 h => Jm1 (κ := K37) (E := E6) 3 [] R R R R R R R R R Y24 Tryinfo2 R R R R (f16.stp (S26.tr S38) R R) (Sl.srcP (pu_int _) f39.rdc) sy_false hx18 R fun ak aj w41 K42 S43 f44 => ⟨tv, Jc 1 R ?_⟩⟩)))
 cases h
 exact Jw1 _ ⟨K42, ak, aj, R, (S38.tr S43).wk R, f44⟩ (KM R)
 rintro _ w31 ⟨K32, ah, ai, rfl, S33, f34⟩
 have h := hK30
 refine Jz (Jp (Ja [2, 2, 2] R (Jc 3 R ?_)))
 have hw5 : IntKind.wrap .i64 (v6 + 1) = v6 + 1 := wr1 hj5 (Jm2 hc5) hN5
 rw [hw5]
 have hc5 := Jm2 hc5
 cases h
 exact Jz1 fun a ha => ⟨k, _, Ja3 _, ⟨(fun b => ren [(6, 2)] (K32 b)), v6 + 1, ((q4 : (List Int)), (x14.2.1 : Int), (x14.2.2 : Int)), ah, ai, R, (Jy2 ((S15.tr (S26.tr S33)).wk R) [(6, 2)] R), (f34.map (ren [(6, 2)]) R R), (((f24.mx m27 R (R : 4 + 2 = 6)).stp S33 R R).map (ren [(6, 2)]) R R), by omega, by omega, hk19⟩, (ha.mm R)⟩
 rintro _ w8 ⟨K9, s3, af, ae, rfl, S10, f11, f12, rfl⟩
 have h := hK6
 dsimp only [aft] at h
 refine Jp (Je [2, 2] R (Jb 2 R (Ju (Ja2 (l := [.tmp 4]) V39 (Jp2 R R) R ?_))))
 cases h
 exact ⟨K9, af, ae, R, (hE.stp (S3.tr S10) R R), f11, f12⟩
theorem s_l1DrawSet_ok {w : World} {κ : Col} {ab aa} {p0 : l1Cur} {p1 : Int} {b0} (g0_0 : Rd (Rp.int .u8) κ w 0 ab aa p0.b) (gb0 : Bc κ w 2 b0 102 [.slice ab p0.b.length aa, vi p0.i, vi p0.h]) {r : (List Int) × Int × Int} (h : s_l1DrawSet p0 p1 = some r) : Ret Try.prog 41 [.pointer (some ⟨b0, 0, none⟩), vi p1] w (fun v w' => ∃ (κ' : Col) (ra0 : Option Addr) (ru0 : Nat), v = .slice ra0 r.1.length ru0 ∧ Ent κ w κ' w' ∧ Oc E6 2 κ' w' 3 ra0 ru0 r.1 ∧ Bc κ' w' 2 b0 102 [.slice ab p0.b.length aa, vi r.2.1, vi r.2.2]) := by
 unfold s_l1DrawSet at h
 refine Ret.enter F41 R N41 R ?_
 dsimp only [envOf]
 have hE := Ent.refl κ w
 refine Je [2] R (Jb 1 R (Je [1, 2] R (Jo1 (κ := κ) (E := E6) 3 R R R R R Y24 Tryinfo2 R fun a7 u7 w1 K2 S3 f4 => ⟨tv, Jb 1 R (Jq (Je [2] R (Jb 1 R (Ob h fun _ hr5 h => ?_))))⟩)))
 have hN5 := rng_ok hr5
 refine Ob h fun q2 hq7 hK6 => ?_
 clear h
 refine Jx1 (fun L w' => ∃ κ', ∃ s3 : (List Int) × Int × Int, ∃ af ae, L = [(0, .pointer (some ⟨b0, 0, none⟩)), (1, vi p1), (5, .slice af s3.1.length ae)] ∧ Stp [2, 3, 6] K2 w1 κ' w' ∧ Oc E6 2 κ' w' 3 af ae s3.1 ∧ Bc κ' w' 2 b0 102 [.slice ab p0.b.length aa, vi s3.2.1, vi s3.2.2] ∧ q2 = Sum.inr s3) ?_ ?_
 refine Jv (Jy1 (fun k L w' => ∃ κ' v6, ∃ s1 : (List Int) × Int × Int, ∃ ac ad, L = [(0, .pointer (some ⟨b0, 0, none⟩)), (1, vi p1), (5, .slice ac s1.1.length ad), (6, vi v6)] ∧ Stp [2, 3, 6] K2 w1 κ' w' ∧ Oc E6 2 κ' w' 3 ac ad s1.1 ∧ Bc κ' w' 2 b0 102 [.slice ab p0.b.length aa, vi s1.2.1, vi s1.2.2] ∧ 0 ≤ v6 ∧ Int.toNat (p1 - v6) = k ∧ cntM (s_l1DrawSet_b0 p0) k v6 s1 = some q2) ⟨_, _, ⟨K2, 0, ((([] : List Int) : (List Int)), (p0.i : Int), (p0.h : Int)), a7, u7, R, (Jx2 _ _).wk R, f4, (gb0.stp S3 R R), (by decide), (by simp), hq7⟩, (KM R)⟩ ?_)
 rintro k _ w13 ⟨K14, v6, s1, ac, ad, rfl, S15, f16, f17, hj5, hJ5, h⟩
 rcases k with _ | k
 have hk19 := h; obtain ⟨o5, h⟩ := ex_eq (Sum.inr (Sum.inl s1) : ((List Int) × Int × Int) ⊕ (((List Int) × Int × Int) ⊕ ((List Int) × Int × Int)))
 have hc5 : decide (v6 < p1) = false := Jo2 (by omega)
 refine Jq (Je [2, 2, 2] R (Jb 3 R (Jw2 R hc5 (Jc1 (Jt (Jt ?_))))))
 cases h
 have h := hk19
 refine Jb1 ?_
 cases h
 exact Jw1 _ ⟨K14, ((s1.1 : (List Int)), (s1.2.1 : Int), (s1.2.2 : Int)), ac, ad, R, S15.wk R, f16, f17, R⟩ (KM R)
 obtain ⟨o5, h, hk19⟩ := BI h; unfold s_l1DrawSet_b0 at h
 have hc5 : decide (v6 < p1) = true := Jn2 (by omega)
 refine Jq (Je [2, 2, 2] R (Jb 3 R (Jv2 R hc5 (Js (Jp (Jq (Jv (Je [2, 1] R (Jn 1 R (Ob h fun x14 hx14 h => Jh R R R C40 (s_l1Once_ok (κ := fun b => mp [(2, 2)] 0 (K14 b)) (p0 := (⟨p0.b, s1.2.1, s1.2.2⟩ : l1Cur)) (Jl2 (g0_0.stp (S3.tr S15) R R) (mp [(2, 2)] 0) R R) (f17.map (mp [(2, 2)] 0) R R) hx14) ?_))))))))))
 rintro _ w21 ⟨k22, rfl, e23, f24⟩
 obtain ⟨K25, S26, m27⟩ := Ji e23 4 R
 refine ⟨tv, Jd (Ob h fun q4 h hK30 => Jx1 (fun L w' => ∃ κ' aj ah, L = [(0, .pointer (some ⟨b0, 0, none⟩)), (1, vi p1), (5, .slice aj q4.length ah), (6, vi v6)] ∧ Stp [3] K25 w21 κ' w' ∧ Oc E6 2 κ' w' 3 aj ah q4) ?_ ?_)⟩
 revert h
 cases ht35 : x14.1
 refine JF fun h => Jy R (Js ?_)
 cases h
 exact Jw1 _ ⟨K25, ac, ad, R, (Jx2 _ _).wk R, (f16.stp S26 R R)⟩ (KM R)
 refine JT fun h => Jx R (Ja [2, 2, 1, 1, 2] R (Jn 2 R (Jn1 (κ := K25) (E := E6) 7 [] (parts := [(0, .tmp 16)]) (cells := [vi v6]) (xs := ([v6] : List Int)) R R R R R R Y24 Tryinfo2 R R R R R R R R R R ⟨[vi v6], [], Zl K25 w21 [], Zl K25 w21 [], R, Zl.sp (l1 := []) (l2 := []) R, Zl.sr (l1 := []) (l2 := []), R, R⟩ fun ar au w36 K37 S38 f39 => ⟨tv, Ob h fun x18 hx18 h => Jm1 (κ := K37) (E := E6) 3 [] R R R R R R R R R Y24 Tryinfo2 R R R R (f16.stp (S26.tr S38) R R) (Sl.srcP (pu_int _) f39.rdc) sy_false hx18 R fun al am w41 K42 S43 f44 => ⟨tv, Jc 1 R ?_⟩⟩)))
 cases h
 exact Jw1 _ ⟨K42, al, am, R, (S38.tr S43).wk R, f44⟩ (KM R)
 rintro _ w31 ⟨K32, aj, ah, rfl, S33, f34⟩
 have h := hK30
 refine Jz (Jp (Ja [2, 2, 2] R (Jc 3 R ?_)))
 have hw5 : IntKind.wrap .i64 (v6 + 1) = v6 + 1 := wr1 hj5 (Jm2 hc5) hN5
 rw [hw5]
 have hc5 := Jm2 hc5
 cases h
 exact Jz1 fun a ha => ⟨k, _, Ja3 _, ⟨(fun b => ren [(6, 2)] (K32 b)), v6 + 1, ((q4 : (List Int)), (x14.2.1 : Int), (x14.2.2 : Int)), aj, ah, R, (Jy2 ((S15.tr (S26.tr S33)).wk R) [(6, 2)] R), (f34.map (ren [(6, 2)]) R R), (((f24.mx m27 R (R : 4 + 2 = 6)).stp S33 R R).map (ren [(6, 2)]) R R), by omega, by omega, hk19⟩, (ha.mm R)⟩
 rintro _ w8 ⟨K9, s3, af, ae, rfl, S10, f11, f12, rfl⟩
 have h := hK6
 dsimp only [aft] at h
 refine Jp (Jq (Je [2, 1] R (Jn 1 R (Ob h fun x20 hx20 h => ?_))))
 have f47 := g0_0.stp (S3.tr S10) R R
 refine Jh R R R C40 (s_l1Once_ok (κ := fun b => mp [(2, 2)] 0 (K9 b)) (p0 := (⟨p0.b, s3.2.1, s3.2.2⟩ : l1Cur)) (Jl2 f47 (mp [(2, 2)] 0) R R) (f12.map (mp [(2, 2)] 0) R R) hx20) ?_
 rintro _ w48 ⟨k49, rfl, e50, f51⟩
 obtain ⟨K52, S53, m54⟩ := Ji e50 4 R
 refine ⟨tv, ?_⟩
 have f56 := f51.mx m54 R (R : 4 + 2 = 6)
 refine Jd (Ob h fun q5 h hK57 => Jx1 (fun L w' => ∃ κ' ak ai, L = [(0, .pointer (some ⟨b0, 0, none⟩)), (5, .slice ak q5.1.length ai)] ∧ Stp [3, 6, 9] K52 w48 κ' w' ∧ Oc E6 2 κ' w' 3 ak ai q5.1 ∧ Bc κ' w' 6 b0 102 [.slice ab p0.b.length aa, vi q5.2.1, vi q5.2.2]) ?_ ?_)
 revert h
 cases ht63 : x20.1
 refine JF fun h => Jy R (Js ?_)
 cases h
 exact Jw1 _ ⟨K52, af, ae, R, (Jx2 _ _).wk R, (f11.stp S53 R R), f56⟩ (KM R)
 refine JT fun h => Jx R (Ja [2, 2, 2, 1, 1, 1, 2] R (Jn 3 R (Ob h fun x24 hx24 h => Jh R R R C65 (s_l1Num_ok (κ := fun b => mp [(6, 2)] 0 (K52 b)) (p0 := (⟨p0.b, x20.2.1, x20.2.2⟩ : l1Cur)) (Jl2 (f47.stp S53 R R) (mp [(6, 2)] 0) R R) (f56.map (mp [(6, 2)] 0) R R) hx24) ?_)))
 rintro _ w65 ⟨k66, rfl, e67, f68⟩
 obtain ⟨K69, S70, m71⟩ := Ji e67 7 R
 refine ⟨tv, Jn1 (κ := K69) (E := E6) 10 [] (parts := [(0, .tmp 24)]) (cells := [vi x24.1]) (xs := ([x24.1] : List Int)) R R R R R R Y24 Tryinfo2 R R R R R R R R R R ⟨[vi x24.1], [], Zl K69 w65 [], Zl K69 w65 [], R, Zl.sp (l1 := []) (l2 := []) R, Zl.sr (l1 := []) (l2 := []), R, R⟩ fun ap aq w74 K75 S76 f77 => ⟨tv, Ob h fun x26 hx26 h => Jm1 (κ := K75) (E := E6) 3 [] R R R R R R R R R Y24 Tryinfo2 R R R R (f11.stp (S53.tr (S70.tr S76)) R R) (Sl.srcP (pu_int _) f77.rdc) sy_false hx26 R fun an ao w79 K80 S81 f82 => ⟨tv, Jc 1 R ?_⟩⟩⟩
 cases h
 exact Jw1 _ ⟨(fun b => ren [(9, 6)] (K80 b)), an, ao, R, (Jy2 ((S70.tr (S76.tr S81)).wk R) [(9, 6)] R), (f82.map (ren [(9, 6)]) R R), (((f68.mx m71 R (R : 7 + 2 = 9)).stp (S76.tr S81) R R).map (ren [(9, 6)]) R R)⟩ (KM R)
 rintro _ w58 ⟨K59, ak, ai, rfl, S60, f61, f62⟩
 have h := hK57
 refine Jp (Je [2, 2] R (Jb 2 R (Ju (Ja2 (l := [.tmp 4]) V41 (Jp2 R R) R ?_))))
 cases h
 exact ⟨(fun b => ren [(6, 2)] (K59 b)), ak, ai, R, ((hE.stp (S3.tr (S10.tr (S53.tr S60))) R R).map (ren [(6, 2)]) R R), (f61.map (ren [(6, 2)]) R R), (f62.map (ren [(6, 2)]) R R)⟩
theorem i_lessOf_ok {w : World} {κ : Col} {a0 u0} {p0 : (List Int)} {a1 u1} {p1 : (List Int)} (g0 : Rd (Rp.int .i64) κ w 0 a0 u0 p0) (g1 : Rd (Rp.int .i64) κ w 0 a1 u1 p1) {r : (List Int)} (h : i_lessOf p0 p1 = some r) : Ret Try.prog 62 [.slice a0 p0.length u0, .slice a1 p1.length u1] w (fun v w' => ∃ (κ' : Col) (ra0 : Option Addr) (ru0 : Nat), v = .slice ra0 r.length ru0 ∧ Ent κ w κ' w' ∧ Oc E6 2 κ' w' 2 ra0 ru0 r) := by
 unfold i_lessOf at h
 refine Ret.enter F62 R N62 R ?_
 dsimp only [envOf]
 have hE := Ent.refl κ w
 refine Je [2] R (Jb 1 R (Je [1, 2] R (Jo1 (κ := κ) (E := E6) 2 R R R R R Y24 Tryinfo2 R fun aj ah w1 K2 S3 f4 => ⟨tv, Jb 1 R (Jq (Je [2, 2, 2] R (Jn 1 R (Jf R (Je2 U24 R R) (Jb 1 R ?_)))))⟩)))
 have hN5 : (p0.length : Int) ≤ 9223372036854775807 := g0.len_le
 refine Ob h fun q2 hq7 hK6 => ?_
 clear h
 refine Jx1 (fun L w' => ∃ κ', ∃ s3 : (List Int), ∃ ad ac, L = [(5, .slice ad s3.length ac)] ∧ Stp [2] K2 w1 κ' w' ∧ Oc E6 2 κ' w' 2 ad ac s3 ∧ q2 = Sum.inr s3) ?_ ?_
 refine Jv (Jy1 (fun k L w' => ∃ κ' v13, ∃ s1 : (List Int), ∃ aa ab, L = [(1, .slice a1 p1.length u1), (5, .slice aa s1.length ab), (11, .slice a0 p0.length u0), (12, vi (p0.length : Int)), (13, vi v13)] ∧ Stp [2] K2 w1 κ' w' ∧ Oc E6 2 κ' w' 2 aa ab s1 ∧ 0 ≤ v13 ∧ Int.toNat ((p0.length : Int) - v13) = k ∧ cntM (i_lessOf_b0 p0 p1) k v13 s1 = some q2) ⟨_, _, ⟨K2, 0, (([] : List Int) : (List Int)), aj, ah, R, (Jx2 _ _).wk R, f4, (by decide), (by simp), hq7⟩, (KM R)⟩ ?_)
 rintro k _ w12 ⟨K13, v13, s1, aa, ab, rfl, S14, f15, hj5, hJ5, h⟩
 rcases k with _ | k
 have hk16 := h; obtain ⟨o5, h⟩ := ex_eq (Sum.inr (Sum.inl s1) : (List Int) ⊕ (((List Int)) ⊕ ((List Int))))
 have hc5 : decide (v13 < (p0.length : Int)) = false := Jo2 (by omega)
 refine Je [2] R (Jb 1 R (Jq (Jw2 R hc5 (Jc1 (Jt (Jt ?_))))))
 cases h
 have h := hk16
 refine Jb1 ?_
 cases h
 exact Jw1 _ ⟨K13, (s1 : (List Int)), aa, ab, R, S14.wk R, f15, R⟩ (KM R)
 obtain ⟨o5, h, hk16⟩ := BI h; unfold i_lessOf_b0 at h
 have hc5 : decide (v13 < (p0.length : Int)) = true := Jn2 (by omega)
 refine Je [2] R (Jb 1 R (Jq (Jv2 R hc5 (Js (Jp (Jq (Jv (Je [2, 1, 2] R (Ob h fun x15 hx15 h => Jf R (Jf2 g0 hx15 U24 Z2 R R R R) (Jl tv R R R R (Jc2 I2 R R (hvE ((g0.stp (S3.tr S14) R R).gInt hx15))) (Jb 1 R (Je [2, 2, 1, 2, 2, 2, 2, 2] R (Jn 2 R (Ob h fun x20 hx20 h => Jh R R R C91 (slices_BinarySearch_I_int64_ok (κ := fun b => mp [] 0 (K13 b)) (Jl2 (g1.stp (S3.tr S14) R R) (mp [] 0) R R) hx20) ?_))))))))))))))
 rintro _ w19 ⟨k20, rfl, e21⟩
 obtain ⟨K22, S23, m24⟩ := Ji e21 3 R
 refine ⟨tv, Jb 5 R (Je [2, 2] R (Jb 2 R (Ob h fun q4 h hK26 => Jx1 (fun L w' => ∃ κ' ae af, L = [(1, .slice a1 p1.length u1), (5, .slice ae q4.length af), (11, .slice a0 p0.length u0), (12, vi (p0.length : Int)), (13, vi v13)] ∧ Stp [2] K22 w19 κ' w' ∧ Oc E6 2 κ' w' 2 ae af q4) ?_ ?_)))⟩
 revert h
 cases ht31 : (!x20.2)
 refine JF fun h => Jy R (Js ?_)
 cases h
 exact Jw1 _ ⟨K22, aa, ab, R, (Jx2 _ _).wk R, (f15.stp S23 R R)⟩ (KM R)
 refine JT fun h => Jx R (Ja [2, 2, 1, 1, 2] R (Jn 2 R (Jn1 (κ := K22) (E := E6) 5 [] (parts := [(0, .tmp 26)]) (cells := [vi x15]) (xs := ([x15] : List Int)) R R R R R R Y24 Tryinfo2 R R R R R R R R R R ⟨[vi x15], [], Zl K22 w19 [], Zl K22 w19 [], R, Zl.sp (l1 := []) (l2 := []) R, Zl.sr (l1 := []) (l2 := []), R, R⟩ fun am al w32 K33 S34 f35 => ⟨tv, Ob h fun x28 hx28 h => Jm1 (κ := K33) (E := E6) 2 [] R R R R R R R R R Y24 Tryinfo2 R R R R (f15.stp (S23.tr S34) R R) (Sl.srcP (pu_int _) f35.rdc) sy_false hx28 R fun ak ai w37 K38 S39 f40 => ⟨tv, Jc 1 R ?_⟩⟩)))
 cases h
 exact Jw1 _ ⟨K38, ak, ai, R, (S34.tr S39).wk R, f40⟩ (KM R)
 rintro _ w27 ⟨K28, ae, af, rfl, S29, f30⟩
 have h := hK26
 refine Jz (Jp (Ja [2, 2] R (Jc 2 R ?_)))
 have hw5 : IntKind.wrap .i64 (v13 + 1) = v13 + 1 := wr1 hj5 (Jm2 hc5) hN5
 rw [hw5]
 have hc5 := Jm2 hc5
 cases h
 exact Jz1 fun a ha => ⟨k, _, Ja3 _, ⟨K28, v13 + 1, (q4 : (List Int)), ae, af, R, (S14.tr (S23.tr S29)).wk R, f30, by omega, by omega, hk16⟩, (ha.mm R)⟩
 rintro _ w8 ⟨K9, s3, ad, ac, rfl, S10, f11, rfl⟩
 have h := hK6
 dsimp only [aft] at h
 refine Jp (Je [2, 2] R (Jb 2 R (Ju (Ja2 (l := [.tmp 4]) V62 (Jp2 R R) R ?_))))
 cases h
 exact ⟨K9, ad, ac, R, (hE.stp (S3.tr S10) R R), f11⟩
theorem i_meets_ok {w : World} {κ : Col} {a0 u0} {p0 : (List Int)} {a1 u1} {p1 : (List Int)} (g0 : Rd (Rp.int .i64) κ w 0 a0 u0 p0) (g1 : Rd (Rp.int .i64) κ w 0 a1 u1 p1) {r : Bool} (h : i_meets p0 p1 = some r) : Ret Try.prog 90 [.slice a0 p0.length u0, .slice a1 p1.length u1] w (fun v w' => ∃ (κ' : Col), v = .bool r ∧ Ent κ w κ' w') := by
 unfold i_meets at h
 refine Ret.enter F90 R N90 R ?_
 dsimp only [envOf]
 have hE := Ent.refl κ w
 refine Je [2] R (Jb 1 R (Je [2, 2, 1, 2, 2, 2, 2, 2] R (Jn 2 R (Ob h fun x7 hx7 h => Jh R R R C62 (i_lessOf_ok (κ := fun b => mp [] 0 (κ b)) (Jl2 g0 (mp [] 0) R R) (Jl2 g1 (mp [] 0) R R) hx7) ?_))))
 rintro _ w1 ⟨k2, ab, aa, rfl, e3, f4⟩
 obtain ⟨K5, S6, m7⟩ := Ji e3 2 R
 refine ⟨tv, Jf R (Je2 U24 R R) (Jn 1 R (Jf R (Je2 U24 R R) (Jb 2 R (Ju (Ja2 (l := [.tmp 4]) V90 (Jp2 R R) R ?_)))))⟩
 cases h
 exact ⟨K5, R, (hE.stp S6 R R)⟩
theorem s_SetOk_ok {w : World} {κ : Col} {a0 u0} {p0 : (List Int)} {p1 : Int} (g0 : Rd (Rp.int .i64) κ w 0 a0 u0 p0) {r : Bool} (h : s_SetOk p0 p1 = some r) : Ret Try.prog 54 [.slice a0 p0.length u0, vi p1] w (fun v w' => ∃ (κ' : Col), v = .bool r ∧ Ent κ w κ' w') := by
 unfold s_SetOk at h
 refine Ret.enter F54 R N54 R ?_
 dsimp only [envOf]
 have hE := Ent.refl κ w
 refine Je [2] R (Jb 1 R (Je [2, 1, 2, 2, 2, 1, 2, 2] R (Jn 1 R (Ob h fun x6 hx6 h => Jh R R R C53 (s_l1In_ok (κ := fun b => mp [] 0 (κ b)) hx6) ?_))))
 rintro _ w1 ⟨k2, rfl, e3⟩
 obtain ⟨K4, S5, m6⟩ := Ji e3 2 R
 refine ⟨tv, Jn 1 R (Ob h fun p11 h hK8 => Ju1 [(3, 2), (4, 2), (5, 1), (6, 2)] [(7, 2)] (fun L w' => L = [(4, .bool false), (11, .bool p11)] ∧ ∃ κ', Stp [] K4 w1 κ' w') tv ?_ ?_)⟩
 revert h
 cases ht9 : x6
 refine JF fun h => Jn 2 R (Jd1 R R R R (Jn 1 R ?_))
 cases h
 exact Jv1 _ tv ⟨R, _, (Jx2 _ _).wk R⟩ (KM R)
 refine JT fun h => Jn 2 R (Ob h fun x10 hx10 h => Jh R R R C29 (s_l1Set_ok (κ := fun b => mp [] 0 (K4 b)) (Jl2 (g0.stp S5 R R) (mp [] 0) R R) hx10) ?_)
 rintro _ w11 ⟨k12, rfl, e13⟩
 obtain ⟨K14, S15, m16⟩ := Ji e13 4 R
 refine ⟨tv, Jn 1 R ?_⟩
 cases h
 exact Jv1 _ tv ⟨R, _, S15.wk R⟩ (KM R)
 rintro _ w18 _ ⟨rfl, K19, S20⟩
 have h := hK8
 refine Jb 1 R (Ju (Ja2 (l := [.tmp 4]) V54 (Jp2 R R) R ?_))
 cases h
 exact ⟨K19, R, (hE.stp (S5.tr S20) R R)⟩
theorem s_PairsOk_ok {w : World} {κ : Col} {a0 u0} {p0 : (List Pair)} {p1 : Int} (g0 : Rd Pair.rp κ w 0 a0 u0 p0) {r : Bool} (h : s_PairsOk p0 p1 = some r) : Ret Try.prog 28 [.slice a0 p0.length u0, vi p1] w (fun v w' => ∃ (κ' : Col), v = .bool r ∧ Ent κ w κ' w') := by
 unfold s_PairsOk at h
 refine Ret.enter F28 R N28 R ?_
 dsimp only [envOf]
 have hE := Ent.refl κ w
 refine Je [2] R (Jb 1 R (Jq (Je [2, 1, 2, 2, 2, 2, 2, 2] R (Jn 1 R (Ob h fun x7 hx7 h => Jh R R R C53 (s_l1In_ok (κ := fun b => mp [] 0 (κ b)) hx7) ?_)))))
 rintro _ w1 ⟨k2, rfl, e3⟩
 obtain ⟨K4, S5, m6⟩ := Ji e3 2 R
 refine ⟨tv, Jn 2 R (Ob h fun p13 h hK8 => Ju1 [(4, 2), (5, 2), (6, 2), (7, 2)] [] (fun L w' => L = [(0, .slice a0 p0.length u0), (1, vi p1), (13, .bool p13)] ∧ ∃ κ', Stp [] K4 w1 κ' w') tv ?_ ?_)⟩
 revert h
 cases ht9 : (!x7)
 refine JF fun h => Jn 1 R (Jf R (Je2 U29 R R) (Jn 2 R ?_))
 cases h
 exact Jv1 _ tv ⟨R, _, (Jx2 _ _).wk R⟩ (KM R)
 refine JT fun h => Jn 4 R ?_
 cases h
 exact Jv1 _ tv ⟨R, _, (Jx2 _ _).wk R⟩ (KM R)
 rintro _ w10 _ ⟨rfl, K11, S12⟩
 have h := hK8
 refine Jd ?_
 revert h
 cases ht13 : p13
 refine JF fun h => Jy R (Js (Jp (Jq (Je [2] R (Jb 1 R ?_)))))
 have hN15 : (p0.length : Int) ≤ 9223372036854775807 := g0.len_le
 refine Ob h fun q2 hq17 hK16 => ?_
 clear h
 refine Jx1 (fun L w' => ∃ κ', L = [] ∧ Stp [] K11 w10 κ' w' ∧ q2 = Sum.inr ()) ?_ ?_
 refine Jv (Jy1 (fun k L w' => ∃ κ' v5, L = [(0, .slice a0 p0.length u0), (1, vi p1), (5, vi v5)] ∧ Stp [] K11 w10 κ' w' ∧ 0 ≤ v5 ∧ Int.toNat ((p0.length : Int) - v5) = k ∧ cntM (s_PairsOk_b0 p0 p1) k v5 () = some q2) ⟨_, _, ⟨K11, 0, R, (Jx2 _ _).wk R, (by decide), (by simp), hq17⟩, (KM R)⟩ ?_)
 rintro k _ w21 ⟨K22, v5, rfl, S23, hj15, hJ15, h⟩
 rcases k with _ | k
 have hk24 := h; obtain ⟨o15, h⟩ := ex_eq (Sum.inr (Sum.inl ()) : Bool ⊕ ((Unit) ⊕ (Unit)))
 have hc15 : decide (v5 < (p0.length : Int)) = false := Jo2 (by omega)
 refine Jq (Je [2, 2, 2, 2] R (Jn 2 R (Jf R (Je2 U29 R R) (Jb 1 R (Jw2 R hc15 (Jc1 (Jt (Jt ?_))))))))
 cases h
 have h := hk24
 refine Jb1 ?_
 cases h
 exact Jw1 _ ⟨K22, R, S23.wk R, R⟩ KN
 obtain ⟨o15, h, hk24⟩ := BI h; unfold s_PairsOk_b0 at h
 have hc15 : decide (v5 < (p0.length : Int)) = true := Jn2 (by omega)
 refine Jq (Je [2, 2, 2, 2] R (Jn 2 R (Jf R (Je2 U29 R R) (Jb 1 R (Jv2 R hc15 (Js (Jp (Jq (Jv (Je [2, 2, 2, 2, 1, 2, 1, 2, 2, 2, 2, 2, 2, 1, 2, 1, 2, 2] R (Jn 2 R (Ob h fun x22 hx22 h => Jf R (Jf2 g0 hx22 U29 Z42 R R R R) (Jf R (Jb2 U42 R Z24 R R) ?_)))))))))))))
 have f25 := g0.stp (S5.tr (S12.tr S23)) R R
 obtain ⟨cse26, hre26, hle26⟩ := (f25).gSt hx22
 obtain ⟨ae26_0, ue26_0, ae26_1, ue26_1, rfl, fe26_0, fe26_1⟩ := Pair.un hre26
 refine Jl tv R R R R (Jc2 I24 R R (hvE (fun w' hw' => hle26 w' hw' 0 _ R))) (Jn 1 R (Ob h fun x26 hx26 h => Jh R R R C54 (s_SetOk_ok (κ := fun b => mp [] 0 (K22 b)) (Jl2 fe26_0 (mp [] 0) R R) hx26) ?_))
 rintro _ w27 ⟨k28, rfl, e29⟩
 obtain ⟨K30, S31, m32⟩ := Ji e29 4 R
 refine ⟨tv, Jn 2 R (Ob h fun p37 h hK34 => Ju1 [(9, 2), (10, 2), (11, 2), (12, 2), (13, 1), (14, 2), (15, 1), (16, 2), (17, 2)] [] (fun L w' => L = [(0, .slice a0 p0.length u0), (1, vi p1), (5, vi v5), (37, .bool p37)] ∧ ∃ κ', Stp [] K30 w27 κ' w') tv ?_ ?_)⟩
 revert h
 cases ht35 : (!x26)
 refine JF fun h => Jn 2 R (Ob h fun x31 hx31 h => Jf R (Jf2 f25 hx31 U29 Z42 R R R R) (Jf R (Jb2 U42 R Z24 R R) ?_))
 obtain ⟨cse37, hre37, hle37⟩ := ((f25.stp S31 R R)).gSt hx31
 obtain ⟨ae37_0, ue37_0, ae37_1, ue37_1, rfl, fe37_0, fe37_1⟩ := Pair.un hre37
 refine Jl tv R R R R (Jc2 I24 R R (hvE (fun w' hw' => hle37 w' hw' 1 _ R))) (Jn 1 R (Ob h fun x35 hx35 h => Jh R R R C54 (s_SetOk_ok (κ := fun b => mp [] 0 (K30 b)) (Jl2 fe37_1 (mp [] 0) R R) hx35) ?_))
 rintro _ w38 ⟨k39, rfl, e40⟩
 obtain ⟨K41, S42, m43⟩ := Ji e40 6 R
 refine ⟨tv, Jn 2 R ?_⟩
 cases h
 exact Jv1 _ tv ⟨R, _, S42.wk R⟩ (KM R)
 refine JT fun h => Jn 4 R (Jd1 R R R R (Jn 1 R (Jd1 R R R R (Jn 2 R ?_))))
 cases h
 exact Jv1 _ tv ⟨R, _, (Jx2 _ _).wk R⟩ (KM R)
 rintro _ w45 _ ⟨rfl, K46, S47⟩
 have h := hK34
 refine Jd ?_
 revert h
 cases ht48 : p37
 refine JF fun h => Jy R (Js (Jz (Jp (Ja [2, 2, 2] R (Jc 3 R ?_)))))
 have hw15 : IntKind.wrap .i64 (v5 + 1) = v5 + 1 := wr1 hj15 (Jm2 hc15) hN15
 rw [hw15]
 have hc15 := Jm2 hc15
 cases h
 exact Jz1 fun a ha => ⟨k, _, Ja3 _, ⟨K46, v5 + 1, R, (S23.tr (S31.tr S47)).wk R, by omega, by omega, hk24⟩, (ha.mm R)⟩
 refine JT fun h => Jx R (Je [2] R (Jb 1 R (Ju (Ja1 (Jw (Jw ?_))))))
 cases h
 obtain rfl := Option.some.inj hk24
 have h := hK16
 dsimp only [aft] at h
 refine Ja1 (Jq2 (Jw (Ja2 (l := [.tmp 4]) V28 (Jp2 R R) R ?_)))
 cases h
 exact ⟨K46, R, (hE.stp (S5.tr (S12.tr (S23.tr (S31.tr S47)))) R R)⟩
 rintro _ w18 ⟨K19, rfl, S20, rfl⟩
 have h := hK16
 dsimp only [aft] at h
 refine Jp (Je [2] R (Jb 1 R (Ju (Ja2 (l := [.tmp 4]) V28 (Jp2 R R) R ?_))))
 cases h
 exact ⟨K19, R, (hE.stp (S5.tr (S12.tr S20)) R R)⟩
 refine JT fun h => Jx R (Je [2] R (Jb 1 R (Ju (Jw (Ja2 (l := [.tmp 4]) V28 (Jp2 R R) R ?_)))))
 cases h
 exact ⟨K11, R, (hE.stp (S5.tr S12) R R)⟩
theorem s_l2Both_ok {w : World} {κ : Col} {a0 u0} {p0 : (List Int)} {a1 u1} {p1 : (List Int)} (g0 : Rd (Rp.int .i64) κ w 0 a0 u0 p0) (g1 : Rd (Rp.int .i64) κ w 0 a1 u1 p1) {r : Bool} (h : s_l2Both p0 p1 = some r) : Ret Try.prog 83 [.slice a0 p0.length u0, .slice a1 p1.length u1] w (fun v w' => ∃ (κ' : Col), v = .bool r ∧ Ent κ w κ' w') := by
 unfold s_l2Both at h
 refine Ret.enter F83 R N83 R ?_
 dsimp only [envOf]
 have hE := Ent.refl κ w
 refine Je [2] R (Jb 1 R (Je [2, 1, 2, 2, 1, 2, 2] R (Jn 1 R (Ob h fun x6 hx6 h => Jh R R R C54 (s_SetOk_ok (κ := fun b => mp [] 0 (κ b)) (Jl2 g0 (mp [] 0) R R) hx6) ?_))))
 rintro _ w1 ⟨k2, rfl, e3⟩
 obtain ⟨K4, S5, m6⟩ := Ji e3 2 R
 refine ⟨tv, Jn 1 R (Ob h fun p10 h hK8 => Ju1 [(3, 2), (4, 1), (5, 2)] [(6, 2)] (fun L w' => L = [(4, .bool false), (10, .bool p10)] ∧ ∃ κ', Stp [] K4 w1 κ' w') tv ?_ ?_)⟩
 revert h
 cases ht9 : x6
 refine JF fun h => Jn 1 R (Jd1 R R R R (Jn 1 R ?_))
 cases h
 exact Jv1 _ tv ⟨R, _, (Jx2 _ _).wk R⟩ (KM R)
 refine JT fun h => Jn 1 R (Ob h fun x9 hx9 h => Jh R R R C54 (s_SetOk_ok (κ := fun b => mp [] 0 (K4 b)) (Jl2 (g1.stp S5 R R) (mp [] 0) R R) hx9) ?_)
 rintro _ w11 ⟨k12, rfl, e13⟩
 obtain ⟨K14, S15, m16⟩ := Ji e13 4 R
 refine ⟨tv, Jn 1 R ?_⟩
 cases h
 exact Jv1 _ tv ⟨R, _, S15.wk R⟩ (KM R)
 rintro _ w18 _ ⟨rfl, K19, S20⟩
 have h := hK8
 refine Jb 1 R (Ju (Ja2 (l := [.tmp 4]) V83 (Jp2 R R) R ?_))
 cases h
 exact ⟨K19, R, (hE.stp (S5.tr S20) R R)⟩
end Go.Proofs.Ytcmamhmpoinmnaa
