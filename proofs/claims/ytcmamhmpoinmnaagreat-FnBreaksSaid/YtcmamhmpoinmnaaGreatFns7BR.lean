/- The walks, part 7. By program. -/
import Derived.Test.YtcmamhmpoinmnaaGreatFns2BR
import Derived.Test.YtcmamhmpoinmnaaGreatFns3BR
set_option linter.unusedVariables false
set_option linter.unusedSimpArgs false
namespace Go.Proofs.YtcmamhmpoinmnaaGreat
open Go Go.Wk Go.Proofs
set_option maxRecDepth 100000
set_option maxHeartbeats 1000000
theorem i_areClauses_1_ok {w : World} {κ : Col} {ad ac ab aa} {p0 : Clause} {c0 : Sig} {b1} (g0_1 : Rd (Rp.int .i64) κ w 0 ad ac p0.A) (g0_2 : Rd (Rp.int .i64) κ w 0 ab aa p0.B) (gb1 : Bc κ w 0 b1 31 [vi c0.In, vi c0.Out]) {r : Bool} (h : i_areClauses_1 p0 c0 = some r) : Ret Tryz.prog 128 [.agg #[vi p0.Kind, .slice ad p0.A.length ac, .slice ab p0.B.length aa], .pointer (some ⟨b1, 0, none⟩)] w (fun v w' => ∃ (κ' : Col), v = .bool r ∧ Ent κ w κ' w') := by
 unfold i_areClauses_1 at h
 refine Ret.enter F128 R N128 R ?_
 dsimp only [envOf]
 have hE := Ent.refl κ w
 refine Je [1, 2] R (Jf1 (κ := κ) 2 R R R R R R R fun b2 w1 K2 S3 f4 => ⟨tv, Jb 1 R (Je [1, 1, 1, 2, 2] R (Jl tv R R R R (Jd2 (cs := [vi c0.In, vi c0.Out]) I31 Z31 R R R (haE (gb1.stp S3 R R).cells)) (Jl tv R R R R (Jd2 (cs := [vi p0.Kind, .slice ad p0.A.length ac, .slice ab p0.B.length aa]) I71 Z71 R R R (haE f4.cells)) (Ob h fun x6 hx6 h => Jh R R R C129 (i_isClause_ok (κ := fun b => mp [] 0 (K2 b)) (p0 := c0) (p1 := p0) (Jl2 (g0_1.stp S3 R R) (mp [] 0) R R) (Jl2 (g0_2.stp S3 R R) (mp [] 0) R R) hx6) ?_))))⟩)
 rintro _ w8 ⟨k9, rfl, e10⟩
 obtain ⟨K11, S12, m13⟩ := Ji e10 3 R
 refine ⟨tv, Jb 2 R (Ju (Ja2 (l := [.tmp 3]) V128 (Jp2 R R) R ?_))⟩
 cases h
 exact ⟨K11, R, (hE.stp (S3.tr S12) R R)⟩
theorem i_monitorOf_ok {w : World} {κ : Col} {p0 : Sig} {be bd bb bc} {p1 : Clause} (g1_1 : Rd (Rp.int .i64) κ w 0 be bd p1.A) (g1_2 : Rd (Rp.int .i64) κ w 0 bb bc p1.B) {r : Det} (h : i_monitorOf p0 p1 = some r) : Ret Tryz.prog 121 [.agg #[vi p0.In, vi p0.Out], .agg #[vi p1.Kind, .slice be p1.A.length bd, .slice bb p1.B.length bc]] w (fun v w' => ∃ (κ' : Col) (ra0 : Option Addr) (ru0 : Nat) (ra1 : Option Addr) (ru1 : Nat), v = .agg #[.slice ra0 r.Next.length ru0, .slice ra1 r.Pairs.length ru1] ∧ Ent κ w κ' w' ∧ Oc (Ep.own E6 2) 40 κ' w' 2 ra0 ru0 r.Next ∧ Oc Pair.ep92 92 κ' w' 3 ra1 ru1 r.Pairs) := by
 unfold i_monitorOf at h
 refine Ret.enter F121 R N121 R ?_
 dsimp only [envOf]
 have hE := Ent.refl κ w
 refine Je [1, 1, 1] R (Jf1 (κ := κ) 2 R R R R R R R fun b2 w1 K2 S3 f4 => ⟨tv, Jf1 (κ := K2) 3 R R R R R R R fun b3 w5 K6 S7 f8 => ⟨tv, Jg1 (κ := K6) 4 R R R R R X94 R fun b4 w9 K10 S11 f12 => ⟨tv, Jd (Je [2] R (Jb 1 R (Je [2, 1, 1] R (Jf R (rn_build (parts := []) (cells := [.slice none 0 0, .slice none 0 0]) R R (by kernel_rfl)) (Jg1 (κ := K10) 5 R R R R R X92 R fun b6 w13 K14 S15 f16 => ⟨tv, Jj1 (κ := K14) 5 (vc := [.slice none 0 0, .slice none 0 0]) R R R R R R R Z92 R R f16 R fun w17 S18 f19 => ⟨tv, Jd (Jq (Je [2, 1] R (Jf R (Jb2 U71 R Z2 R R) ?_)))⟩⟩)))))⟩⟩⟩)
 have f20 := f8.stp (S11.tr (S15.tr S18)) R R
 refine Jl tv R R R R (Jc2 I2 R R (hvE (f20.ld 0 R R))) (Jd (Jv (Jq (Je [2, 2] R (Jb 2 R (Ob h fun q1 h hK21 => Jx1 (fun L w' => ∃ κ', L = [(2, .pointer (some ⟨b2, 0, none⟩)), (3, .pointer (some ⟨b3, 0, none⟩)), (4, .pointer (some ⟨b4, 0, none⟩)), (5, vi 2), (6, .pointer (some ⟨b6, 0, none⟩)), (13, vi p1.Kind), (17, .bool q1)] ∧ Stp [] K14 w17 κ' w') ?_ ?_))))))
 revert h
 cases ht25 : (p1.Kind == 1)
 refine JF fun h => Jy R (Ja [2, 2] R (Jc 2 R ?_))
 cases h
 exact Jw1 _ ⟨K14, R, (Jx2 _ _).wk R⟩ (KM R)
 refine JT fun h => Jx R (Js ?_)
 cases h
 exact Jw1 _ ⟨K14, R, (Jx2 _ _).wk R⟩ (KM R)
 rintro _ w22 ⟨K23, rfl, S24⟩
 have h := hK21
 refine Jp (Ob h fun q2 h hK26 => Jx1 (fun L w' => ∃ κ' af ae ad ac, L = [(2, .pointer (some ⟨b2, 0, none⟩)), (3, .pointer (some ⟨b3, 0, none⟩)), (4, .pointer (some ⟨b4, 0, none⟩)), (5, vi q2.1), (6, .pointer (some ⟨b6, 0, none⟩))] ∧ Stp [5] K23 w22 κ' w' ∧ Oc E6 2 κ' w' 6 af ae q2.2.1 ∧ Oc E6 2 κ' w' 7 ad ac q2.2.2 ∧ Bc κ' w' 5 b6 92 [.slice af q2.2.1.length ae, .slice ad q2.2.2.length ac]) ?_ ?_)
 revert h
 cases ht33 : q1
 refine JF fun h => Jy R (Je [2, 2] R (Jb 2 R (Ob h fun q3 h hK43 => Jx1 (fun L w' => ∃ κ' ax ao aF aC, L = [(2, .pointer (some ⟨b2, 0, none⟩)), (3, .pointer (some ⟨b3, 0, none⟩)), (4, .pointer (some ⟨b4, 0, none⟩)), (5, vi q3.1), (6, .pointer (some ⟨b6, 0, none⟩))] ∧ Stp [5] K23 w22 κ' w' ∧ Oc E6 2 κ' w' 6 ax ao q3.2.1 ∧ Oc E6 2 κ' w' 7 aF aC q3.2.2 ∧ Bc κ' w' 5 b6 92 [.slice ax q3.2.1.length ao, .slice aF q3.2.2.length aC]) ?_ ?_)))
 revert h
 cases ht50 : (p1.Kind == 2)
 refine JF fun h => Jy R (Je [2, 2] R (Jb 2 R (Ob h fun q4 h hK60 => Jx1 (fun L w' => ∃ κ' aw av az aE, L = [(2, .pointer (some ⟨b2, 0, none⟩)), (3, .pointer (some ⟨b3, 0, none⟩)), (4, .pointer (some ⟨b4, 0, none⟩)), (5, vi q4.1), (6, .pointer (some ⟨b6, 0, none⟩))] ∧ Stp [5] K23 w22 κ' w' ∧ Oc E6 2 κ' w' 6 aw av q4.2.1 ∧ Oc E6 2 κ' w' 7 az aE q4.2.2 ∧ Bc κ' w' 5 b6 92 [.slice aw q4.2.1.length av, .slice az q4.2.2.length aE]) ?_ ?_)))
 revert h
 cases ht67 : (p1.Kind == 3)
 refine JF fun h => Jy R (Je [2, 2] R (Jb 2 R (Ob h fun q5 h hK82 => Jx1 (fun L w' => ∃ κ' aB ar aG ap, L = [(2, .pointer (some ⟨b2, 0, none⟩)), (3, .pointer (some ⟨b3, 0, none⟩)), (4, .pointer (some ⟨b4, 0, none⟩)), (5, vi q5.1), (6, .pointer (some ⟨b6, 0, none⟩))] ∧ Stp [5] K23 w22 κ' w' ∧ Oc E6 2 κ' w' 6 aB ar q5.2.1 ∧ Oc E6 2 κ' w' 7 aG ap q5.2.2 ∧ Bc κ' w' 5 b6 92 [.slice aB q5.2.1.length ar, .slice aG q5.2.2.length ap]) ?_ ?_)))
 revert h
 cases ht89 : (p1.Kind == 4)
 refine JF fun h => Jy R (Je [2, 2] R (Jb 2 R (Ob h fun q6 h hK104 => Jx1 (fun L w' => ∃ κ' an am aD au, L = [(2, .pointer (some ⟨b2, 0, none⟩)), (3, .pointer (some ⟨b3, 0, none⟩)), (4, .pointer (some ⟨b4, 0, none⟩)), (5, vi q6.1), (6, .pointer (some ⟨b6, 0, none⟩))] ∧ Stp [5] K23 w22 κ' w' ∧ Oc E6 2 κ' w' 6 an am q6.2.1 ∧ Oc E6 2 κ' w' 7 aD au q6.2.2 ∧ Bc κ' w' 5 b6 92 [.slice an q6.2.1.length am, .slice aD q6.2.2.length au]) ?_ ?_)))
 revert h
 cases ht111 : (p1.Kind == 6)
 refine JF fun h => Jy R (Je [2] R (Jb 1 R (Ja [1, 1, 2, 1] R (Jn1 (κ := K23) (E := E6) 6 [] (parts := [(0, .const (vi 2)), (1, .const (vi 3))]) (cells := [vi 2, vi 3]) (xs := ([2, 3] : List Int)) R R R R R R Y40 Tryzinfo2 R R R R R R R R R R ⟨[vi 2], [vi 3], Zl K23 w22 [], Zl K23 w22 [], R, Zl.sp (l1 := []) (l2 := []) R, Zl.sr (l1 := []) (l2 := []), R, ⟨[vi 3], [], Zl K23 w22 [], Zl K23 w22 [], R, Zl.sp (l1 := []) (l2 := []) R, Zl.sr (l1 := []) (l2 := []), R, R⟩⟩ fun aV aJ w121 K122 S123 f124 => ⟨tv, Jn1 (κ := K122) (E := E6) 7 [] (parts := [(0, .const (vi 1)), (1, .const (vi 3))]) (cells := [vi 1, vi 3]) (xs := ([1, 3] : List Int)) R R R R R R Y40 Tryzinfo2 R R R R R R R R R R ⟨[vi 1], [vi 3], Zl K122 w121 [], Zl K122 w121 [], R, Zl.sp (l1 := []) (l2 := []) R, Zl.sr (l1 := []) (l2 := []), R, ⟨[vi 3], [], Zl K122 w121 [], Zl K122 w121 [], R, Zl.sp (l1 := []) (l2 := []) R, Zl.sr (l1 := []) (l2 := []), R, R⟩⟩ fun aR aW w125 K126 S127 f128 => ⟨tv, Jf R (rn_build (parts := [(0, .tmp 14), (1, .tmp 15)]) (cells := [.slice aV ([2, 3] : List Int).length aJ, .slice aR ([1, 3] : List Int).length aW]) R R (by kernel_rfl)) (Jj1 (κ := K126) 5 (vc := [.slice aV ([2, 3] : List Int).length aJ, .slice aR ([1, 3] : List Int).length aW]) R R R R R R R Z92 R R (f19.stp (S24.tr (S123.tr S127)) R R) R fun w130 S131 f132 => ⟨tv, Jo ?_⟩)⟩⟩))))
 cases h
 exact Jw1 _ ⟨K126, aV, aJ, aR, aW, R, (S123.tr (S127.tr S131)).wk R, (f124.stp (S127.tr S131) R R), (f128.stp S131 R R), f132⟩ (KM R)
 refine JT fun h => Jx R (Ja [1, 2, 1] R (Jn1 (κ := K23) (E := E6) 6 [] (parts := [(0, .const (vi 0))]) (cells := [vi 0]) (xs := ([0] : List Int)) R R R R R R Y40 Tryzinfo2 R R R R R R R R R R ⟨[vi 0], [], Zl K23 w22 [], Zl K23 w22 [], R, Zl.sp (l1 := []) (l2 := []) R, Zl.sr (l1 := []) (l2 := []), R, R⟩ fun aK aQ w112 K113 S114 f115 => ⟨tv, Jf R (Jb2 U92 R Z40 R R) (Ji1 (κ := K113) 5 (off := 0) (vc := [.slice aK ([0] : List Int).length aQ]) (cs' := [.slice aK ([0] : List Int).length aQ, .slice none 0 0]) R R R R R R R Z40 R R (f19.stp (S24.tr S114) R R) R R fun w117 S118 f119 => ⟨tv, Jo ?_⟩)⟩))
 cases h
 exact Jw1 _ ⟨K113, aK, aQ, none, 0, R, (S114.tr S118).wk R, (f115.stp S118 R R), Ow.nil, f119⟩ (KM R)
 rintro _ w105 ⟨K106, an, am, aD, au, rfl, S107, f108, f109, f110⟩
 have h := hK104
 cases h
 exact Jw1 _ ⟨K106, an, am, aD, au, R, S107.wk R, f108, f109, f110⟩ (KM R)
 refine JT fun h => Jx R (Ja [1, 1, 2, 1] R (Jn1 (κ := K23) (E := E6) 6 [] (parts := [(0, .const (vi 0)), (1, .const (vi 1))]) (cells := [vi 0, vi 1]) (xs := ([0, 1] : List Int)) R R R R R R Y40 Tryzinfo2 R R R R R R R R R R ⟨[vi 0], [vi 1], Zl K23 w22 [], Zl K23 w22 [], R, Zl.sp (l1 := []) (l2 := []) R, Zl.sr (l1 := []) (l2 := []), R, ⟨[vi 1], [], Zl K23 w22 [], Zl K23 w22 [], R, Zl.sp (l1 := []) (l2 := []) R, Zl.sr (l1 := []) (l2 := []), R, R⟩⟩ fun aO aM w90 K91 S92 f93 => ⟨tv, Jn1 (κ := K91) (E := E6) 7 [] (parts := [(0, .const (vi 1))]) (cells := [vi 1]) (xs := ([1] : List Int)) R R R R R R Y40 Tryzinfo2 R R R R R R R R R R ⟨[vi 1], [], Zl K91 w90 [], Zl K91 w90 [], R, Zl.sp (l1 := []) (l2 := []) R, Zl.sr (l1 := []) (l2 := []), R, R⟩ fun aX aI w94 K95 S96 f97 => ⟨tv, Jf R (rn_build (parts := [(0, .tmp 33), (1, .tmp 34)]) (cells := [.slice aO ([0, 1] : List Int).length aM, .slice aX ([1] : List Int).length aI]) R R (by kernel_rfl)) (Jj1 (κ := K95) 5 (vc := [.slice aO ([0, 1] : List Int).length aM, .slice aX ([1] : List Int).length aI]) R R R R R R R Z92 R R (f19.stp (S24.tr (S92.tr S96)) R R) R fun w99 S100 f101 => ⟨tv, Jo ?_⟩)⟩⟩))
 cases h
 exact Jw1 _ ⟨K95, aO, aM, aX, aI, R, (S92.tr (S96.tr S100)).wk R, (f93.stp (S96.tr S100) R R), (f97.stp S100 R R), f101⟩ (KM R)
 rintro _ w83 ⟨K84, aB, ar, aG, ap, rfl, S85, f86, f87, f88⟩
 have h := hK82
 cases h
 exact Jw1 _ ⟨K84, aB, ar, aG, ap, R, S85.wk R, f86, f87, f88⟩ (KM R)
 refine JT fun h => Jx R (Ja [1, 1, 2, 1] R (Jn1 (κ := K23) (E := E6) 6 [] (parts := [(0, .const (vi 1))]) (cells := [vi 1]) (xs := ([1] : List Int)) R R R R R R Y40 Tryzinfo2 R R R R R R R R R R ⟨[vi 1], [], Zl K23 w22 [], Zl K23 w22 [], R, Zl.sp (l1 := []) (l2 := []) R, Zl.sr (l1 := []) (l2 := []), R, R⟩ fun aY aT w68 K69 S70 f71 => ⟨tv, Jn1 (κ := K69) (E := E6) 7 [] (parts := [(0, .const (vi 0))]) (cells := [vi 0]) (xs := ([0] : List Int)) R R R R R R Y40 Tryzinfo2 R R R R R R R R R R ⟨[vi 0], [], Zl K69 w68 [], Zl K69 w68 [], R, Zl.sp (l1 := []) (l2 := []) R, Zl.sr (l1 := []) (l2 := []), R, R⟩ fun aS aL w72 K73 S74 f75 => ⟨tv, Jf R (rn_build (parts := [(0, .tmp 28), (1, .tmp 29)]) (cells := [.slice aY ([1] : List Int).length aT, .slice aS ([0] : List Int).length aL]) R R (by kernel_rfl)) (Jj1 (κ := K73) 5 (vc := [.slice aY ([1] : List Int).length aT, .slice aS ([0] : List Int).length aL]) R R R R R R R Z92 R R (f19.stp (S24.tr (S70.tr S74)) R R) R fun w77 S78 f79 => ⟨tv, Jo ?_⟩)⟩⟩))
 cases h
 exact Jw1 _ ⟨K73, aY, aT, aS, aL, R, (S70.tr (S74.tr S78)).wk R, (f71.stp (S74.tr S78) R R), (f75.stp S78 R R), f79⟩ (KM R)
 rintro _ w61 ⟨K62, aw, av, az, aE, rfl, S63, f64, f65, f66⟩
 have h := hK60
 cases h
 exact Jw1 _ ⟨K62, aw, av, az, aE, R, S63.wk R, f64, f65, f66⟩ (KM R)
 refine JT fun h => Jx R (Je [2] R (Jb 1 R (Ja [1, 2, 1] R (Jn1 (κ := K23) (E := E6) 6 [] (parts := [(0, .const (vi 2))]) (cells := [vi 2]) (xs := ([2] : List Int)) R R R R R R Y40 Tryzinfo2 R R R R R R R R R R ⟨[vi 2], [], Zl K23 w22 [], Zl K23 w22 [], R, Zl.sp (l1 := []) (l2 := []) R, Zl.sr (l1 := []) (l2 := []), R, R⟩ fun aH ba w51 K52 S53 f54 => ⟨tv, Jf R (Jb2 U92 R Z40 R R) (Ji1 (κ := K52) 5 (off := 0) (vc := [.slice aH ([2] : List Int).length ba]) (cs' := [.slice aH ([2] : List Int).length ba, .slice none 0 0]) R R R R R R R Z40 R R (f19.stp (S24.tr S53) R R) R R fun w56 S57 f58 => ⟨tv, Jo ?_⟩)⟩))))
 cases h
 exact Jw1 _ ⟨K52, aH, ba, none, 0, R, (S53.tr S57).wk R, (f54.stp S57 R R), Ow.nil, f58⟩ (KM R)
 rintro _ w44 ⟨K45, ax, ao, aF, aC, rfl, S46, f47, f48, f49⟩
 have h := hK43
 cases h
 exact Jw1 _ ⟨K45, ax, ao, aF, aC, R, S46.wk R, f47, f48, f49⟩ (KM R)
 refine JT fun h => Jx R (Ja [1, 2, 1] R (Jn1 (κ := K23) (E := E6) 6 [] (parts := [(0, .const (vi 1))]) (cells := [vi 1]) (xs := ([1] : List Int)) R R R R R R Y40 Tryzinfo2 R R R R R R R R R R ⟨[vi 1], [], Zl K23 w22 [], Zl K23 w22 [], R, Zl.sp (l1 := []) (l2 := []) R, Zl.sr (l1 := []) (l2 := []), R, R⟩ fun aP aZ w34 K35 S36 f37 => ⟨tv, Jf R (Jb2 U92 R Z40 R R) (Ji1 (κ := K35) 5 (off := 0) (vc := [.slice aP ([1] : List Int).length aZ]) (cs' := [.slice aP ([1] : List Int).length aZ, .slice none 0 0]) R R R R R R R Z40 R R (f19.stp (S24.tr S36) R R) R R fun w39 S40 f41 => ⟨tv, Jo ?_⟩)⟩))
 cases h
 exact Jw1 _ ⟨K35, aP, aZ, none, 0, R, (S36.tr S40).wk R, (f37.stp S40 R R), Ow.nil, f41⟩ (KM R)
 rintro _ w27 ⟨K28, af, ae, ad, ac, rfl, S29, f30, f31, f32⟩
 have h := hK26
 refine Jz (Jp (Je [1, 1, 2, 1, 1] R (Jl tv R R R R (Jd2 (cs := [.slice af q2.2.1.length ae, .slice ad q2.2.2.length ac]) I92 Z92 R R R (haE f32.cells)) (Jn1 (κ := K28) (E := Pair.ep92) 8 [6, 7] (parts := [(0, .tmp 40)]) (cells := [.slice af q2.2.1.length ae, .slice ad q2.2.2.length ac]) (xs := ([(⟨q2.2.1, q2.2.2⟩ : Pair)] : List Pair)) R R R R R R Y79 Tryzinfo92 R R R R R R R R R R ⟨[.slice af q2.2.1.length ae, .slice ad q2.2.2.length ac], [], Zl K28 w27 [6, 7], Zl K28 w27 [], R, Zl.sp (l1 := [6, 7]) (l2 := []) R, Zl.sr (l1 := [6, 7]) (l2 := []), ⟨[.slice af q2.2.1.length ae], [.slice ad q2.2.2.length ac], Zl K28 w27 [6], Zl K28 w27 [7], R, Zl.sp (l1 := [6]) (l2 := [7]) R, Zl.sr (l1 := [6]) (l2 := [7]), ⟨_, _, R, f30⟩, ⟨_, _, R, f31⟩⟩, R⟩ fun aa ab w135 K136 S137 f138 => ⟨tv, Jf R (rn_build (parts := [(1, .tmp 41)]) (cells := [.slice none 0 0, .slice aa ([(⟨q2.2.1, q2.2.2⟩ : Pair)] : List Pair).length ab]) R R (by kernel_rfl)) (Jg1 (κ := K136) 9 R R R R R X94 R fun b7 w139 K140 S141 f142 => ⟨tv, Jj1 (κ := K140) 9 (vc := [.slice none 0 0, .slice aa ([(⟨q2.2.1, q2.2.2⟩ : Pair)] : List Pair).length ab]) R R R R R R R Z94 R R f142 R fun w143 S144 f145 => ⟨tv, Jd (Jq (Je [2, 2] R (Jb 2 R (Ob h fun _ hr146 h => ?_))))⟩⟩)⟩))))
 have hN146 := rng_ok hr146
 refine Ob h fun q8 hq148 hK147 => ?_
 clear h
 refine Jx1 (fun L w' => ∃ κ', ∃ s9 : (List (List Int)), ∃ ai ah, L = [(4, .pointer (some ⟨b4, 0, none⟩)), (7, .pointer (some ⟨b7, 0, none⟩))] ∧ Stp [9, 10, 11, 14] K140 w143 κ' w' ∧ Oc (Ep.own E6 2) 40 κ' w' 10 ai ah s9 ∧ Bc κ' w' 9 b7 94 [.slice ai s9.length ah, .slice aa ([(⟨q2.2.1, q2.2.2⟩ : Pair)] : List Pair).length ab] ∧ q8 = Sum.inr s9) ?_ ?_
 refine Jv (Jy1 (fun k L w' => ∃ κ' v44, ∃ s7 : (List (List Int)), ∃ aA al, L = [(2, .pointer (some ⟨b2, 0, none⟩)), (3, .pointer (some ⟨b3, 0, none⟩)), (4, .pointer (some ⟨b4, 0, none⟩)), (7, .pointer (some ⟨b7, 0, none⟩)), (43, vi q2.1), (44, vi v44)] ∧ Stp [9, 10, 11, 14] K140 w143 κ' w' ∧ Oc (Ep.own E6 2) 40 κ' w' 10 aA al s7 ∧ Bc κ' w' 9 b7 94 [.slice aA s7.length al, .slice aa ([(⟨q2.2.1, q2.2.2⟩ : Pair)] : List Pair).length ab] ∧ 0 ≤ v44 ∧ Int.toNat (q2.1 - v44) = k ∧ cntM (i_monitorOf_b1 p0 p1) k v44 s7 = some q8) ⟨_, _, ⟨K140, 0, (([] : List (List Int)) : (List (List Int))), none, 0, R, (Jx2 _ _).wk R, Ow.nil, f145, (by decide), (by simp), hq148⟩, (KM R)⟩ ?_)
 rintro k _ w154 ⟨K155, v44, s7, aA, al, rfl, S156, f157, f158, hj146, hJ146, h⟩
 rcases k with _ | k
 have hk159 := h; obtain ⟨o146, h⟩ := ex_eq (Sum.inr (Sum.inl s7) : Det ⊕ (((List (List Int))) ⊕ ((List (List Int)))))
 have hc146 : decide (v44 < q2.1) = false := Jo2 (by omega)
 refine Je [2] R (Jb 1 R (Jq (Jw2 R hc146 (Jc1 (Jt (Jt ?_))))))
 cases h
 have h := hk159
 refine Jb1 ?_
 cases h
 exact Jw1 _ ⟨K155, (s7 : (List (List Int))), aA, al, R, S156.wk R, f157, f158, R⟩ (KM R)
 obtain ⟨o146, h, hk159⟩ := BI h; unfold i_monitorOf_b1 at h
 have hc146 : decide (v44 < q2.1) = true := Jn2 (by omega)
 refine Je [2] R (Jb 1 R (Jq (Jv2 R hc146 (Js (Jp (Jq (Jv (Je [2, 2] R (Jb 2 R (Je [1, 2] R (Jo1 (κ := K155) (E := E6) 11 R R R R R Y40 Tryzinfo2 R fun bh bi w160 K161 S162 f163 => ⟨tv, Jb 1 R (Jq (Je [1, 1, 2] R (Jl tv R R R R (Jd2 (cs := [vi p0.In, vi p0.Out]) I31 Z31 R R R (haE (f4.stp (S7.tr (S11.tr (S15.tr (S18.tr (S24.tr (S29.tr (S137.tr (S141.tr (S144.tr (S156.tr S162)))))))))) R R).cells)) (Ob h fun x49 hx49 h => Jh R R R C119 (i_lettersOf_ok (κ := fun b => mp [] 0 (K161 b)) (p0 := p0) hx49) ?_))))⟩)))))))))))
 rintro _ w165 ⟨k166, rfl, e167⟩
 obtain ⟨K168, S169, m170⟩ := Ji e167 12 R
 refine ⟨tv, Jb 1 R (Ob h fun _ hr172 h => ?_)⟩
 have hN172 := rng_ok hr172
 refine Ob h fun q11 hq174 hK173 => ?_
 clear h
 refine Jx1 (fun L w' => ∃ κ', ∃ s12 : (List Int), ∃ aj ak, L = [(2, .pointer (some ⟨b2, 0, none⟩)), (3, .pointer (some ⟨b3, 0, none⟩)), (4, .pointer (some ⟨b4, 0, none⟩)), (7, .pointer (some ⟨b7, 0, none⟩)), (9, .slice aj s12.length ak), (43, vi q2.1), (44, vi v44)] ∧ Stp [11] K168 w165 κ' w' ∧ Oc E6 2 κ' w' 11 aj ak s12 ∧ q11 = Sum.inr s12) ?_ ?_
 refine Jv (Jy1 (fun k L w' => ∃ κ' v50, ∃ s10 : (List Int), ∃ aq ay, L = [(2, .pointer (some ⟨b2, 0, none⟩)), (3, .pointer (some ⟨b3, 0, none⟩)), (4, .pointer (some ⟨b4, 0, none⟩)), (7, .pointer (some ⟨b7, 0, none⟩)), (8, vi v44), (9, .slice aq s10.length ay), (43, vi q2.1), (44, vi v44), (49, vi x49), (50, vi v50)] ∧ Stp [11] K168 w165 κ' w' ∧ Oc E6 2 κ' w' 11 aq ay s10 ∧ 0 ≤ v50 ∧ Int.toNat (x49 - v50) = k ∧ cntM (i_monitorOf_b3 p1 v44) k v50 s10 = some q11) ⟨_, _, ⟨K168, 0, (([] : List Int) : (List Int)), bh, bi, R, (Jx2 _ _).wk R, (f163.stp S169 R R), (by decide), (by simp), hq174⟩, (KM R)⟩ ?_)
 rintro k _ w179 ⟨K180, v50, s10, aq, ay, rfl, S181, f182, hj172, hJ172, h⟩
 rcases k with _ | k
 have hk184 := h; obtain ⟨o172, h⟩ := ex_eq (Sum.inr (Sum.inl s10) : Det ⊕ (((List Int)) ⊕ ((List Int))))
 have hc172 : decide (v50 < x49) = false := Jo2 (by omega)
 refine Je [2] R (Jb 1 R (Jq (Jw2 R hc172 (Jc1 (Jt (Jt ?_))))))
 cases h
 have h := hk184
 refine Jb1 ?_
 cases h
 exact Jw1 _ ⟨K180, (s10 : (List Int)), aq, ay, R, S181.wk R, f182, R⟩ (KM R)
 obtain ⟨o172, h, hk184⟩ := BI h; unfold i_monitorOf_b3 at h
 have hc172 : decide (v50 < x49) = true := Jn2 (by omega)
 refine Je [2] R (Jb 1 R (Jq (Jv2 R hc172 (Js (Jp (Jq (Jv (Je [2, 2] R (Jb 2 R (Js1 (κ := K180) [3] none [(0, 2), (1, 2), (3, 2), (4, 2), (6, 2), (8, 2), (10, 2), (2, 0), (5, 0), (9, 0), (7, 1), (11, 1), (12, 1), (13, 1), (14, 1), (15, 2)] [] (by kernel_rfl) (by kernel_rfl) fun w186 S185 => Jn 1 R (Jf R (Jb2 U71 R Z2 R R) (Jn 1 R (Jf R (Jb2 U71 R Z40 R R) (Jn 1 R (Jf R (Jb2 U71 R Z40 R R) (Jn 1 R ?_))))))))))))))))
 have f187 := f20.stp (S24.tr (S29.tr (S137.tr (S141.tr (S144.tr (S156.tr (S162.tr (S169.tr (S181.tr S185))))))))) R R
 refine Jg R (Jc2 I2 R R (hvC (f187.ld 0 R R) R)) (Jg R (Jc2 I40 R R (hvC (f187.ld 1 R R) R)) (Jg R (Jc2 I40 R R (hvC (f187.ld 2 R R) R)) (Ob h fun x60 hx60 h => Jh R R R C73 (slices_Contains_I_int64_ok (κ := fun b => mp [] 0 (K180 b)) (Jl2 (g1_1.stp (S3.tr (S7.tr (S11.tr (S15.tr (S18.tr (S24.tr (S29.tr (S137.tr (S141.tr (S144.tr (S156.tr (S162.tr (S169.tr (S181.tr S185)))))))))))))) R R) (mp [] 0) R R) hx60) ?_)))
 rintro _ w189 ⟨k190, rfl, e191⟩
 obtain ⟨K192, S193, m194⟩ := Ji e191 14 R
 refine ⟨(S193.cl R), Ob h fun x64 hx64 h => Jh R R R C73 (slices_Contains_I_int64_ok (κ := fun b => mp [] 0 (K192 b)) (Jl2 (g1_2.stp (S3.tr (S7.tr (S11.tr (S15.tr (S18.tr (S24.tr (S29.tr (S137.tr (S141.tr (S144.tr (S156.tr (S162.tr (S169.tr (S181.tr (S185.tr S193))))))))))))))) R R) (mp [] 0) R R) hx64) ?_⟩
 rintro _ w197 ⟨k198, rfl, e199⟩
 obtain ⟨K200, S201, m202⟩ := Ji e199 16 R
 refine ⟨((S193.tr S201).cl R), Ob h fun x65 hx65 h => Jh R R R C151 (i_monitorStep_ok (κ := fun b => mp [] 0 (K200 b)) hx65) ?_⟩
 rintro _ w204 ⟨k205, rfl, e206⟩
 obtain ⟨K207, S208, m209⟩ := Ji e206 18 R
 have S001 := (S193.tr (S201.tr S208))
 refine ⟨(S001.cl R), Jn1 (κ := K207) (E := E6) 20 [] (parts := [(0, .tmp 65)]) (cells := [vi x65]) (xs := ([x65] : List Int)) R R R R R R Y40 Tryzinfo2 R R R R R R R R R R ⟨[vi x65], [], Zl K207 w204 [], Zl K207 w204 [], R, Zl.sp (l1 := []) (l2 := []) R, Zl.sr (l1 := []) (l2 := []), R, R⟩ fun bm bl w211 K212 S213 f214 => ⟨((S001.tr S213).cl R), Ob h fun x67 hx67 h => Jm1 (κ := K212) (E := E6) 11 [] R R R R R R R R R Y40 Tryzinfo2 R R R R (f182.stp (S185.tr (S193.tr (S201.tr (S208.tr S213)))) R R) (Sl.srcP (pu_int _) f214.rdc) sy_false hx67 R fun bf bg w216 K217 S218 f219 => ⟨((S001.tr (S213.tr S218)).cl R), Jn 1 R (Jt1 (Jo (Jz (Jp (Ja [2, 2] R (Jc 2 R ?_))))))⟩⟩⟩
 have hw172 : IntKind.wrap .i64 (v50 + 1) = v50 + 1 := wr1 hj172 (Jm2 hc172) hN172
 rw [hw172]
 have hc172 := Jm2 hc172
 cases h
 exact Jz1 fun a ha => ⟨k, _, Ja3 _, ⟨K217, v50 + 1, (x67 : (List Int)), bf, bg, R, (S181.tr (S185.tr (S193.tr (S201.tr (S208.tr (S213.tr S218)))))).wk R, f219, by omega, by omega, hk184⟩, (ha.mm R)⟩
 rintro _ w175 ⟨K176, s12, aj, ak, rfl, S177, f178, rfl⟩
 have h := hK173
 dsimp only [aft] at h
 refine Jp (Ja [2, 1, 2, 1, 1, 2, 1] R (Jf R (Jb2 U94 R Z24 R R) ?_))
 have f220 := f158.stp (S162.tr (S169.tr S177)) R R
 refine Jl tv R R R R (Jc2 I24 R R (hvE (f220.ld 0 R R))) (Jn 1 R (Jn1 (κ := K176) (E := (Ep.own E6 2)) 14 [11] (parts := [(0, .tmp 71)]) (cells := [.slice aj s12.length ak]) (xs := ([s12] : List (List Int))) R R R R R R Y24 Tryzinfo40 R R R R R R R R R R ⟨[.slice aj s12.length ak], [], Zl K176 w175 [11], Zl K176 w175 [], R, Zl.sp (l1 := [11]) (l2 := []) R, Zl.sr (l1 := [11]) (l2 := []), ⟨_, _, R, f178⟩, R⟩ fun bk bj w221 K222 S223 f224 => ⟨tv, Ob h fun x73 hx73 h => Jm1 (κ := K222) (E := (Ep.own E6 2)) 10 [14] R R R R R R R R R Y24 Tryzinfo40 R R R R (f157.stp (S162.tr (S169.tr (S177.tr S223))) R R) f224.src (sy_one R) hx73 R fun aU aN w226 K227 S228 f229 => ⟨tv, Jf R (Jb2 U94 R Z24 R R) (Ji1 (κ := K227) 9 (off := 0) (vc := [.slice aU x73.length aN]) (cs' := [.slice aU x73.length aN, .slice aa ([(⟨q2.2.1, q2.2.2⟩ : Pair)] : List Pair).length ab]) R R R R R R R Z24 R R (f220.stp (S223.tr S228) R R) R R fun w231 S232 f233 => ⟨tv, Jo (Jz (Jp (Ja [2, 2] R (Jc 2 R ?_))))⟩)⟩⟩))
 have hw146 : IntKind.wrap .i64 (v44 + 1) = v44 + 1 := wr1 hj146 (Jm2 hc146) hN146
 rw [hw146]
 have hc146 := Jm2 hc146
 cases h
 exact Jz1 fun a ha => ⟨k, _, Ja3 _, ⟨K227, v44 + 1, (x73 : (List (List Int))), aU, aN, R, (S156.tr (S162.tr (S169.tr (S177.tr (S223.tr (S228.tr S232)))))).wk R, (f229.stp S232 R R), f233, by omega, by omega, hk159⟩, (ha.mm R)⟩
 rintro _ w149 ⟨K150, s9, ai, ah, rfl, S151, f152, f153, rfl⟩
 have h := hK147
 dsimp only [aft] at h
 refine Jp (Je [1, 1] R (Jl tv R R R R (Jd2 (cs := [.slice ai s9.length ah, .slice aa ([(⟨q2.2.1, q2.2.2⟩ : Pair)] : List Pair).length ab]) I94 Z94 R R R (haE f153.cells)) (Jj1 (κ := K150) 4 (vc := [.slice ai s9.length ah, .slice aa ([(⟨q2.2.1, q2.2.2⟩ : Pair)] : List Pair).length ab]) R R R R R R R Z94 R R (f12.stp (S15.tr (S18.tr (S24.tr (S29.tr (S137.tr (S141.tr (S144.tr S151))))))) R R) R fun w236 S237 f238 => ⟨tv, Jd (Ju (Ja2 (l := [.cell 4 94]) V121 (res_cellA R f238 I94 Z94 R R) R ?_))⟩)))
 cases h
 exact ⟨(fun b => ren [(10, 2), (8, 3)] (K150 b)), ai, ah, aa, ab, R, ((hE.stp (S3.tr (S7.tr (S11.tr (S15.tr (S18.tr (S24.tr (S29.tr (S137.tr (S141.tr (S144.tr (S151.tr S237))))))))))) R R).map (ren [(10, 2), (8, 3)]) R R), ((f152.stp S237 R R).map (ren [(10, 2), (8, 3)]) R R), ((f138.stp (S141.tr (S144.tr (S151.tr S237))) R R).map (ren [(10, 2), (8, 3)]) R R)⟩
theorem s_l30Watch_ok {w : World} {κ : Col} {p0 : Sig} {aN aT aU aS} {p1 : Machine} {aP aO aR aQ} {p2 : Det} (g1_0 : Rd (Rp.sl (Rp.int .i64)) κ w 0 aN aT p1.Next) (g1_1 : Rd (Rp.sl (Rp.int .i64)) κ w 0 aU aS p1.Out) (g2_0 : Rd (Rp.sl (Rp.int .i64)) κ w 0 aP aO p2.Next) (g2_1 : Rd Pair.rp κ w 0 aR aQ p2.Pairs) {r : l30Graph × Bool} (h : s_l30Watch p0 p1 p2 = some r) : Ret Tryz.prog 136 [.agg #[vi p0.In, vi p0.Out], .agg #[.slice aN p1.Next.length aT, .slice aU p1.Out.length aS], .agg #[.slice aP p2.Next.length aO, .slice aR p2.Pairs.length aQ]] w (fun v w' => ∃ (κ' : Col) (ra0 : Option Addr) (ru0 : Nat) (ra1 : Option Addr) (ru1 : Nat) (ra2 : Option Addr) (ru2 : Nat) (ra3 : Option Addr) (ru3 : Nat), v = .tuple #[.agg #[.slice ra0 r.1.of.length ru0, .slice ra1 r.1.by0.length ru1, .slice ra2 r.1.next.length ru2, .slice ra3 r.1.letters.length ru3], .bool r.2] ∧ Ent κ w κ' w' ∧ Oc E6 2 κ' w' 2 ra0 ru0 r.1.of ∧ Oc E6 2 κ' w' 3 ra1 ru1 r.1.by0 ∧ Oc (Ep.own E6 2) 40 κ' w' 4 ra2 ru2 r.1.next ∧ Oc (Ep.own E6 2) 40 κ' w' 5 ra3 ru3 r.1.letters) := by
 unfold s_l30Watch at h
 refine Ret.enter F136 R N136 R ?_
 dsimp only [envOf]
 have hE := Ent.refl κ w
 refine Je [1, 1, 1, 1, 2] R (Jf1 (κ := κ) 2 R R R R R R R fun b3 w1 K2 S3 f4 => ⟨tv, Jf1 (κ := K2) 3 R R R R R R R fun b4 w5 K6 S7 f8 => ⟨tv, Jf1 (κ := K6) 4 R R R R R R R fun b5 w9 K10 S11 f12 => ⟨tv, Jg1 (κ := K10) 5 R R R R R X158 R fun b6 w13 K14 S15 f16 => ⟨tv, Jb 1 R (Je [2, 1, 2] R (Jf R (rn_build (parts := []) (cells := [.slice none 0 0, .slice none 0 0, .slice none 0 0, .slice none 0 0]) R R (by kernel_rfl)) (Jf1 (κ := K14) 6 R R R R R R R fun b15 w17 K18 S19 f20 => ⟨tv, Jb 1 R (Je [2, 1] R (Jn 1 R ?_))⟩)))⟩⟩⟩⟩)
 have f21 : Oc E6 2 K18 w17 7 none 0 ([] : List Int) := Ow.nil
 have f22 : Oc E6 2 K18 w17 8 none 0 ([] : List Int) := Ow.nil
 refine Ob h fun x17 hx17 h => Jh R R R C164 (s_l30Find_ok (κ := fun b => mp [(7, 2), (8, 3), (6, 4)] 0 (K18 b)) (p0 := (⟨([] : List Int), ([] : List Int), ([] : List (List Int)), ([] : List (List Int))⟩ : l30Graph)) (f21.map (mp [(7, 2), (8, 3), (6, 4)] 0) R R) (f22.map (mp [(7, 2), (8, 3), (6, 4)] 0) R R) Sl.nil Sl.nil (f20.map (mp [(7, 2), (8, 3), (6, 4)] 0) R R) hx17) ?_
 rintro _ w23 ⟨k24, bj, aZ, ba, bb, rfl, e25, f26, f27, f28⟩
 obtain ⟨K29, S30, m31⟩ := Ji e25 9 R
 refine ⟨tv, Jd (Jq (Je [2] R (Jb 1 R (Ob h fun q2 hq38 hK37 => ?_))))⟩
 clear h
 refine Jx1 (fun L w' => ∃ κ', ∃ s3 : Int × (List Int) × (List Int) × (List (List Int)) × (List (List Int)), ∃ ah aq am aj ad ai ap an, L = [(6, .pointer (some ⟨b6, 0, none⟩)), (8, .pointer (some ⟨b15, 0, none⟩))] ∧ Stp [11, 12, 13, 14, 15, 16, 17, 18, 19, 24, 25, 26] K29 w23 κ' w' ∧ Oc E6 2 κ' w' 11 ah aq s3.2.1 ∧ Oc E6 2 κ' w' 12 am aj s3.2.2.1 ∧ Oc (Ep.own E6 2) 40 κ' w' 14 ad ai s3.2.2.2.1 ∧ Oc (Ep.own E6 2) 40 κ' w' 15 ap an s3.2.2.2.2 ∧ Bc κ' w' 13 b15 158 [.slice ah s3.2.1.length aq, .slice am s3.2.2.1.length aj, .slice ad s3.2.2.2.1.length ai, .slice ap s3.2.2.2.2.length an] ∧ q2 = Sum.inr s3) ?_ ?_
 refine Jv (Jy1 (fun k L w' => ∃ κ', ∃ s1 : Int × (List Int) × (List Int) × (List (List Int)) × (List (List Int)), ∃ aw au az ax ac ao aa ab, L = [(3, .pointer (some ⟨b3, 0, none⟩)), (4, .pointer (some ⟨b4, 0, none⟩)), (5, .pointer (some ⟨b5, 0, none⟩)), (6, .pointer (some ⟨b6, 0, none⟩)), (8, .pointer (some ⟨b15, 0, none⟩)), (9, vi s1.1)] ∧ Stp [11, 12, 13, 14, 15, 16, 17, 18, 19, 24, 25, 26] K29 w23 κ' w' ∧ Oc E6 2 κ' w' 11 aw au s1.2.1 ∧ Oc E6 2 κ' w' 12 az ax s1.2.2.1 ∧ Oc (Ep.own E6 2) 40 κ' w' 14 ac ao s1.2.2.2.1 ∧ Oc (Ep.own E6 2) 40 κ' w' 15 aa ab s1.2.2.2.2 ∧ Bc κ' w' 13 b15 158 [.slice aw s1.2.1.length au, .slice az s1.2.2.1.length ax, .slice ac s1.2.2.2.1.length ao, .slice aa s1.2.2.2.2.length ab] ∧ whileM (s_l30Watch_b0 p0 p1 p2) k s1 = some q2) ⟨_, _, ⟨K29, ((0 : Int), (x17.2.1 : (List Int)), (x17.2.2 : (List Int)), (([] : List (List Int)) : (List (List Int))), (([] : List (List Int)) : (List (List Int)))), bj, aZ, ba, bb, none, 0, none, 0, R, (Jx2 _ _).wk R, (f26.mx (no_int _) m31 R (R : 9 + 2 = 11)), (f27.mx (no_int _) m31 R (R : 9 + 3 = 12)), Ow.nil, Ow.nil, (f28.mx m31 R (R : 9 + 4 = 13)), hq38⟩, (KM R)⟩ ?_)
 rintro k _ w47 ⟨K48, s1, aw, au, az, ax, ac, ao, aa, ab, rfl, S49, f50, f51, f52, f53, f54, h⟩
 rcases k with _ | k
 cases h
 obtain ⟨o36, h, hk55⟩ := BI h; unfold s_l30Watch_b0 at h
 refine Jq (Je [2, 2, 2, 2, 1, 2, 2] R (Jn 2 R (Jf R (rn_nilCheck R R) (Jf R (Jb2 U158 R Z40 R R) (Jl tv R R R R (Jc2 I40 R R (hvE (f54.ld 0 R R))) (Jf R (Je2 U40 R R) (Jb 1 R ?_)))))))
 revert h
 cases ht56 : decide (s1.1 < (s1.2.1.length : Int))
 refine JF fun h => Jy R (Jc1 (Jt (Jt ?_)))
 cases h
 have h := hk55
 refine Jb1 ?_
 cases h
 exact Jw1 _ ⟨K48, ((s1.1 : Int), (s1.2.1 : (List Int)), (s1.2.2.1 : (List Int)), (s1.2.2.2.1 : (List (List Int))), (s1.2.2.2.2 : (List (List Int)))), aw, au, az, ax, ac, ao, aa, ab, R, S49.wk R, f50, f51, f52, f53, f54, R⟩ (KM R)
 refine JT fun h => Jx R (Js (Jp (Jq (Jv (Je [1, 2] R (Jo1 (κ := K48) (E := E6) 16 R R R R R Y40 Tryzinfo2 R fun be bc w57 K58 S59 f60 => ⟨tv, Jb 1 R (Je [1, 2] R (Jo1 (κ := K58) (E := E6) 17 R R R R R Y40 Tryzinfo2 R fun bh bd w61 K62 S63 f64 => ⟨tv, Jb 1 R (Jq (Je [2] R (Jb 1 R (Ob h fun q5 hq67 hK66 => ?_))))⟩))⟩))))))
 clear h
 refine Jx1 (fun L w' => ∃ κ', ∃ s6 : (List Int) × (List Int) × Int × (List Int) × (List Int), ∃ ar av ay aA af al ae ak, L = [(3, .pointer (some ⟨b3, 0, none⟩)), (4, .pointer (some ⟨b4, 0, none⟩)), (5, .pointer (some ⟨b5, 0, none⟩)), (6, .pointer (some ⟨b6, 0, none⟩)), (8, .pointer (some ⟨b15, 0, none⟩)), (9, vi s1.1), (10, .slice ar s6.1.length av), (11, .slice ay s6.2.1.length aA)] ∧ Stp [11, 12, 13, 16, 17, 24, 25, 26] K62 w61 κ' w' ∧ Oc E6 2 κ' w' 16 ar av s6.1 ∧ Oc E6 2 κ' w' 17 ay aA s6.2.1 ∧ Oc E6 2 κ' w' 11 af al s6.2.2.2.1 ∧ Oc E6 2 κ' w' 12 ae ak s6.2.2.2.2 ∧ Bc κ' w' 13 b15 158 [.slice af s6.2.2.2.1.length al, .slice ae s6.2.2.2.2.length ak, .slice ac s1.2.2.2.1.length ao, .slice aa s1.2.2.2.2.length ab] ∧ q5 = Sum.inr s6) ?_ ?_
 refine Jv (Jy1 (fun k L w' => ∃ κ', ∃ s4 : (List Int) × (List Int) × Int × (List Int) × (List Int), ∃ aH aI aD aJ aC aE aB aK, L = [(3, .pointer (some ⟨b3, 0, none⟩)), (4, .pointer (some ⟨b4, 0, none⟩)), (5, .pointer (some ⟨b5, 0, none⟩)), (6, .pointer (some ⟨b6, 0, none⟩)), (8, .pointer (some ⟨b15, 0, none⟩)), (9, vi s1.1), (10, .slice aH s4.1.length aI), (11, .slice aD s4.2.1.length aJ), (12, vi s4.2.2.1)] ∧ Stp [11, 12, 13, 16, 17, 24, 25, 26] K62 w61 κ' w' ∧ Oc E6 2 κ' w' 16 aH aI s4.1 ∧ Oc E6 2 κ' w' 17 aD aJ s4.2.1 ∧ Oc E6 2 κ' w' 11 aC aE s4.2.2.2.1 ∧ Oc E6 2 κ' w' 12 aB aK s4.2.2.2.2 ∧ Bc κ' w' 13 b15 158 [.slice aC s4.2.2.2.1.length aE, .slice aB s4.2.2.2.2.length aK, .slice ac s1.2.2.2.1.length ao, .slice aa s1.2.2.2.2.length ab] ∧ whileM (s_l30Watch_b2 p0 p1 p2 s1) k s4 = some q5) ⟨_, _, ⟨K62, ((([] : List Int) : (List Int)), (([] : List Int) : (List Int)), (0 : Int), (s1.2.1 : (List Int)), (s1.2.2.1 : (List Int))), be, bc, bh, bd, aw, au, az, ax, R, (Jx2 _ _).wk R, (f60.stp S63 R R), f64, (f50.stp (S59.tr S63) R R), (f51.stp (S59.tr S63) R R), (f54.stp (S59.tr S63) R R), hq67⟩, (KM R)⟩ ?_)
 rintro k _ w76 ⟨K77, s4, aH, aI, aD, aJ, aC, aE, aB, aK, rfl, S78, f79, f80, f81, f82, f83, h⟩
 rcases k with _ | k
 cases h
 obtain ⟨o65, h, hk88⟩ := BI h; unfold s_l30Watch_b2 at h
 refine Jq (Je [2, 1, 1, 2] R (Jn 1 R ?_))
 have f89 := f4.stp (S7.tr (S11.tr (S15.tr (S19.tr (S30.tr (S49.tr (S59.tr (S63.tr S78)))))))) R R
 refine Jl tv R R R R (Jd2 (cs := [vi p0.In, vi p0.Out]) I31 Z31 R R R (haE f89.cells)) (Ob h fun x31 hx31 h => Jh R R R C134 (s_l29Ins_ok (κ := fun b => mp [] 0 (K77 b)) (p0 := p0) hx31) ?_)
 rintro _ w90 ⟨k91, rfl, e92⟩
 obtain ⟨K93, S94, m95⟩ := Ji e92 18 R
 refine ⟨tv, Jb 1 R ?_⟩
 revert h
 cases ht97 : decide (s4.2.2.1 < x31)
 refine JF fun h => Jy R (Jc1 (Jt (Jt ?_)))
 cases h
 have h := hk88
 refine Jb1 ?_
 cases h
 exact Jw1 _ ⟨K93, ((s4.1 : (List Int)), (s4.2.1 : (List Int)), (s4.2.2.1 : Int), (s4.2.2.2.1 : (List Int)), (s4.2.2.2.2 : (List Int))), aH, aI, aD, aJ, aC, aE, aB, aK, R, (S78.tr S94).wk R, (f79.stp S94 R R), (f80.stp S94 R R), (f81.stp S94 R R), (f82.stp S94 R R), (f83.stp S94 R R), R⟩ (KM R)
 refine JT fun h => Jx R (Js (Jp (Jq (Jv (Jq (Js1 (κ := K93) [0, 2, 3, 11, 13] none [(0, 2), (2, 2), (3, 2), (4, 2), (6, 2), (11, 2), (17, 2), (1, 0), (5, 0), (7, 2), (8, 0), (9, 2), (10, 0), (12, 2), (13, 0), (14, 0), (15, 1), (16, 2), (18, 2), (19, 2)] [] (by kernel_rfl) (by kernel_rfl) fun w99 S98 => Jf R (Jb2 U33 R Z24 R R) (Jn 1 R (Jf R (rn_nilCheck R R) (Jf R (Jb2 U158 R Z40 R R) (Jn 3 R ?_))))))))))
 have f100 := f8.stp (S11.tr (S15.tr (S19.tr (S30.tr (S49.tr (S59.tr (S63.tr (S78.tr (S94.tr S98))))))))) R R
 refine Jg R (Jc2 I24 R R (hvC (f100.ld 1 R R) R)) ?_
 have f101 := f83.stp (S94.tr S98) R R
 refine Jg R (Jc2 I40 R R (hvC (f101.ld 0 R R) R)) (Ob h fun x42 hx42 h => Jf R (Jf2 f81.rdc hx42 U40 Z2 R R R R) ?_)
 have f102 := f81.stp (S94.tr S98) R R
 refine Jg R (Jc2 I2 R R (hvC (f102.rdc.gInt hx42) R)) (Ob h fun x44 hx44 h => Jf R (Jf2 g1_1 hx44 U24 Z40 R R R R) ?_)
 obtain ⟨ax44, ux44, f104, hl105⟩ := (g1_1.stp (S3.tr (S7.tr (S11.tr (S15.tr (S19.tr (S30.tr (S49.tr (S59.tr (S63.tr (S78.tr (S94.tr S98))))))))))) R R).gSl hx44
 refine Jg R (Jc2 I40 R R (hvC hl105 R)) (Ob h fun x47 hx47 h => Jf R (Jf2 f104 hx47 U40 Z2 R R R R) (Jg R (Jc2 I2 R R (hvC (f104.gInt hx47) R)) (Jg R (Jd2 (cs := [vi p0.In, vi p0.Out]) I31 Z31 R R R (haC (f89.stp (S94.tr S98) R R).cells R)) (Ob h fun x50 hx50 h => Jh R R R C134 (s_l29Ins_ok (κ := fun b => mp [] 0 (K93 b)) (p0 := p0) hx50) ?_))))
 rintro _ w107 ⟨k108, rfl, e109⟩
 obtain ⟨K110, S111, m112⟩ := Ji e109 20 R
 refine ⟨(S111.cl R), Jn 3 R (Jt1 (Jd (Jq (Js1 (κ := K110) [0, 3, 4, 11, 12, 13] (some 30) [(0, 2), (1, 2), (2, 2), (4, 2), (5, 2), (6, 2), (8, 2), (13, 2), (16, 2), (18, 2), (19, 2), (20, 2), (22, 2), (27, 2), (3, 0), (7, 0), (9, 2), (10, 0), (11, 2), (12, 0), (14, 2), (15, 0), (17, 0), (21, 0), (23, 2), (24, 0), (25, 2), (26, 0), (28, 2), (29, 0)] [(30, 1), (31, 1), (32, 1), (33, 2)] (by kernel_rfl) (by kernel_rfl) fun w115 S114 => Jn 2 R (Jf R (Jb2 U33 R Z24 R R) (Jn 1 R (Jf R (rn_nilCheck R R) (Jf R (Jb2 U158 R Z40 R R) (Jn 2 R (Jf R (Jb2 U94 R Z24 R R) (Jn 1 R (Jf R (rn_nilCheck R R) (Jf R (Jb2 U158 R Z40 R R) (Jn 2 R (Jg R (Jc2 I24 R R (hvC ((f100.stp (S111.tr S114) R R).ld 0 R R) R)) ?_)))))))))))))))⟩
 have f117 := f101.stp (S111.tr S114) R R
 refine Jg R (Jc2 I40 R R (hvC (f117.ld 0 R R) R)) (Ob h fun x63 hx63 h => Jf R (Jf2 f102.rdc hx63 U40 Z2 R R R R) ?_)
 have f118 := f102.stp (S111.tr S114) R R
 refine Jg R (Jc2 I2 R R (hvC (f118.rdc.gInt hx63) R)) (Ob h fun x65 hx65 h => Jf R (Jf2 g1_0 hx65 U24 Z40 R R R R) ?_)
 obtain ⟨ax65, ux65, f120, hl121⟩ := (g1_0.stp (S3.tr (S7.tr (S11.tr (S15.tr (S19.tr (S30.tr (S49.tr (S59.tr (S63.tr (S78.tr (S94.tr (S98.tr (S111.tr S114))))))))))))) R R).gSl hx65
 refine Jg R (Jc2 I40 R R (hvC hl121 R)) (Ob h fun x68 hx68 h => Jf R (Jf2 f120 hx68 U40 Z2 R R R R) (Jg R (Jc2 I2 R R (hvC (f120.gInt hx68) R)) (Jg R (Jc2 I24 R R (hvC ((f12.stp (S15.tr (S19.tr (S30.tr (S49.tr (S59.tr (S63.tr (S78.tr (S94.tr (S98.tr (S111.tr S114)))))))))) R R).ld 0 R R) R)) (Jg R (Jc2 I40 R R (hvC (f117.ld 1 R R) R)) (Ob h fun x77 hx77 h => Jf R (Jf2 f82.rdc hx77 U40 Z2 R R R R) ?_)))))
 have f123 := f82.stp (S94.tr (S98.tr (S111.tr S114))) R R
 refine Jg R (Jc2 I2 R R (hvC (f123.rdc.gInt hx77) R)) (Ob h fun x79 hx79 h => Jf R (Jf2 g2_0 hx79 U24 Z40 R R R R) ?_)
 obtain ⟨ax79, ux79, f125, hl126⟩ := (g2_0.stp (S3.tr (S7.tr (S11.tr (S15.tr (S19.tr (S30.tr (S49.tr (S59.tr (S63.tr (S78.tr (S94.tr (S98.tr (S111.tr S114))))))))))))) R R).gSl hx79
 have S001 := (S59.tr (S63.tr (S78.tr (S94.tr (S98.tr (S111.tr S114))))))
 refine Jg R (Jc2 I40 R R (hvC hl126 R)) (Ob h fun x82 hx82 h => Jf R (Jf2 f125 hx82 U40 Z2 R R R R) (Jg R (Jc2 I2 R R (hvC (f125.gInt hx82) R)) (Jt1 (Ob h fun x84 hx84 h => Jh R R R C164 (s_l30Find_ok (κ := fun b => mp [(11, 2), (12, 3), (13, 4)] 0 (K110 b)) (p0 := (⟨s4.2.2.2.1, s4.2.2.2.2, s1.2.2.2.1, s1.2.2.2.2⟩ : l30Graph)) (f118.map (mp [(11, 2), (12, 3), (13, 4)] 0) R R) (f123.map (mp [(11, 2), (12, 3), (13, 4)] 0) R R) (Jl2 (f52.stp S001 R R).rdc (mp [(11, 2), (12, 3), (13, 4)] 0) R R) (Jl2 (f53.stp S001 R R).rdc (mp [(11, 2), (12, 3), (13, 4)] 0) R R) (f117.map (mp [(11, 2), (12, 3), (13, 4)] 0) R R) hx84) ?_))))
 rintro _ w129 ⟨k130, bi, bf, aY, aV, rfl, e131, f132, f133, f134⟩
 obtain ⟨K135, S136, m137⟩ := Ji e131 22 R
 have S002 := (S94.tr (S98.tr (S111.tr (S114.tr S136))))
 refine ⟨tv, Jn1 (κ := K135) (E := E6) 27 [] (parts := [(0, .tmp 84)]) (cells := [vi x84.1]) (xs := ([x84.1] : List Int)) R R R R R R Y40 Tryzinfo2 R R R R R R R R R R ⟨[vi x84.1], [], Zl K135 w129 [], Zl K135 w129 [], R, Zl.sp (l1 := []) (l2 := []) R, Zl.sr (l1 := []) (l2 := []), R, R⟩ fun bn bs w142 K143 S144 f145 => ⟨tv, Ob h fun x86 hx86 h => Jm1 (κ := K143) (E := E6) 16 [] R R R R R R R R R Y40 Tryzinfo2 R R R R (f79.stp (S002.tr S144) R R) (Sl.srcP (pu_int _) f145.rdc) sy_false hx86 R fun bg bk w147 K148 S149 f150 => ⟨tv, Jb 1 R (Ja [2, 2, 1, 1, 2] R (Jn 2 R (Jn1 (κ := K148) (E := E6) 28 [] (parts := [(0, .tmp 88)]) (cells := [vi (IntKind.i64.wrap ((IntKind.i64.wrap (x47 * x50)) + s4.2.2.1))]) (xs := ([(IntKind.i64.wrap ((IntKind.i64.wrap (x47 * x50)) + s4.2.2.1))] : List Int)) R R R R R R Y40 Tryzinfo2 R R R R R R R R R R ⟨[vi (IntKind.i64.wrap ((IntKind.i64.wrap (x47 * x50)) + s4.2.2.1))], [], Zl K148 w147 [], Zl K148 w147 [], R, Zl.sp (l1 := []) (l2 := []) R, Zl.sr (l1 := []) (l2 := []), R, R⟩ fun bo bm w151 K152 S153 f154 => ⟨tv, Ob h fun x90 hx90 h => Jm1 (κ := K152) (E := E6) 17 [] R R R R R R R R R Y40 Tryzinfo2 R R R R (f80.stp (S002.tr (S144.tr (S149.tr S153))) R R) (Sl.srcP (pu_int _) f154.rdc) sy_false hx90 R fun aW aX w156 K157 S158 f159 => ⟨tv, Jc 1 R (Jz (Jp (Ja [2, 2, 2] R (Jc 3 R ?_))))⟩⟩)))⟩⟩⟩
 cases h
 have S003 := (S144.tr (S149.tr (S153.tr S158)))
 exact Jz1 fun a ha => ⟨k, _, Ja3 _, ⟨(fun b => ren [(24, 11), (25, 12), (26, 13)] (K157 b)), ((x86 : (List Int)), (x90 : (List Int)), ((IntKind.i64.wrap (s4.2.2.1 + 1)) : Int), (x84.2.1 : (List Int)), (x84.2.2 : (List Int))), bg, bk, aW, aX, bi, bf, aY, aV, R, (Jy2 ((S78.tr (S94.tr (S98.tr (S111.tr (S114.tr (S136.tr (S144.tr (S149.tr (S153.tr S158))))))))).wk R) [(24, 11), (25, 12), (26, 13)] R), ((f150.stp (S153.tr S158) R R).map (ren [(24, 11), (25, 12), (26, 13)]) R R), (f159.map (ren [(24, 11), (25, 12), (26, 13)]) R R), (((f132.mx (no_int _) m137 R (R : 22 + 2 = 24)).stp S003 R R).map (ren [(24, 11), (25, 12), (26, 13)]) R R), (((f133.mx (no_int _) m137 R (R : 22 + 3 = 25)).stp S003 R R).map (ren [(24, 11), (25, 12), (26, 13)]) R R), (((f134.mx m137 R (R : 22 + 4 = 26)).stp S003 R R).map (ren [(24, 11), (25, 12), (26, 13)]) R R), hk88⟩, (ha.mm R)⟩
 rintro _ w68 ⟨K69, s6, ar, av, ay, aA, af, al, ae, ak, rfl, S70, f71, f72, f73, f74, f75, rfl⟩
 have h := hK66
 dsimp only [aft] at h
 refine Jp (Jq (Je [2, 2, 2, 1, 2, 2] R (Jn 1 R (Jf R (rn_nilCheck R R) (Jf R (Jb2 U158 R Z40 R R) (Jl tv R R R R (Jc2 I40 R R (hvE (f75.ld 0 R R))) (Jf R (Je2 U40 R R) (Jb 1 R ?_))))))))
 revert h
 cases ht169 : decide (256 < (s6.2.2.2.1.length : Int))
 refine JF fun h => Jy R (Js (Jp (Je [2, 2, 2, 2, 1, 2, 1, 1, 2, 2, 1] R (Jn 2 R (Jf R (rn_nilCheck R R) (Jf R (Jb2 U158 R Z24 R R) (Jl tv R R R R (Jc2 I24 R R (hvE (f75.ld 2 R R))) (Jn 1 R (Jn1 (κ := K69) (E := (Ep.own E6 2)) 18 [16] (parts := [(0, .tmp 103)]) (cells := [.slice ar s6.1.length av]) (xs := ([s6.1] : List (List Int))) R R R R R R Y24 Tryzinfo40 R R R R R R R R R R ⟨[.slice ar s6.1.length av], [], Zl K69 w68 [16], Zl K69 w68 [], R, Zl.sp (l1 := [16]) (l2 := []) R, Zl.sr (l1 := [16]) (l2 := []), ⟨_, _, R, f71⟩, R⟩ fun bp br w175 K176 S177 f178 => ⟨tv, Ob h fun x105 hx105 h => Jm1 (κ := K176) (E := (Ep.own E6 2)) 14 [18] R R R R R R R R R Y24 Tryzinfo40 R R R R (f52.stp (S59.tr (S63.tr (S70.tr S177))) R R) f178.src (sy_one R) hx105 R fun aG aF w180 K181 S182 f183 => ⟨tv, Jf R (rn_nilCheck R R) (Jf R (Jb2 U158 R Z24 R R) (Ji1 (κ := K181) 13 (off := 2) (vc := [.slice aG x105.length aF]) (cs' := [.slice af s6.2.2.2.1.length al, .slice ae s6.2.2.2.2.length ak, .slice aG x105.length aF, .slice aa s1.2.2.2.2.length ab]) R R R R R R R Z24 R R (f75.stp (S177.tr S182) R R) R R fun w185 S186 f187 => ⟨tv, Jd (Ja [2, 2, 2, 2, 1, 2, 1, 1, 2, 2, 1] R (Jn 2 R (Jf R (rn_nilCheck R R) (Jf R (Jb2 U158 R Z24 R R) (Jl tv R R R R (Jc2 I24 R R (hvE (f187.ld 3 R R))) (Jn 1 R (Jn1 (κ := K181) (E := (Ep.own E6 2)) 19 [17] (parts := [(0, .tmp 113)]) (cells := [.slice ay s6.2.1.length aA]) (xs := ([s6.2.1] : List (List Int))) R R R R R R Y24 Tryzinfo40 R R R R R R R R R R ⟨[.slice ay s6.2.1.length aA], [], Zl K181 w185 [17], Zl K181 w185 [], R, Zl.sp (l1 := [17]) (l2 := []) R, Zl.sr (l1 := [17]) (l2 := []), ⟨_, _, R, (f72.stp (S177.tr (S182.tr S186)) R R)⟩, R⟩ fun bq bl w189 K190 S191 f192 => ⟨tv, Ob h fun x115 hx115 h => Jm1 (κ := K190) (E := (Ep.own E6 2)) 15 [19] R R R R R R R R R Y24 Tryzinfo40 R R R R (f53.stp (S59.tr (S63.tr (S70.tr (S177.tr (S182.tr (S186.tr S191)))))) R R) f192.src (sy_one R) hx115 R fun aL aM w194 K195 S196 f197 => ⟨tv, Jf R (rn_nilCheck R R) (Jf R (Jb2 U158 R Z24 R R) (Ji1 (κ := K195) 13 (off := 3) (vc := [.slice aL x115.length aM]) (cs' := [.slice af s6.2.2.2.1.length al, .slice ae s6.2.2.2.2.length ak, .slice aG x105.length aF, .slice aL x115.length aM]) R R R R R R R Z24 R R (f187.stp (S191.tr S196) R R) R R fun w199 S200 f201 => ⟨tv, Jo (Jz (Jp (Ja [2, 2, 2] R (Jc 3 R ?_))))⟩))⟩⟩)))))))⟩))⟩⟩)))))))))
 cases h
 have S004 := (S177.tr (S182.tr (S186.tr (S191.tr (S196.tr S200)))))
 exact Jz1 fun a ha => ⟨k, _, Ja3 _, ⟨K195, (((IntKind.i64.wrap (s1.1 + 1)) : Int), (s6.2.2.2.1 : (List Int)), (s6.2.2.2.2 : (List Int)), (x105 : (List (List Int))), (x115 : (List (List Int)))), af, al, ae, ak, aG, aF, aL, aM, R, (S49.tr (S59.tr (S63.tr (S70.tr (S177.tr (S182.tr (S186.tr (S191.tr (S196.tr S200))))))))).wk R, (f73.stp S004 R R), (f74.stp S004 R R), (f183.stp (S186.tr (S191.tr (S196.tr S200))) R R), (f197.stp S200 R R), f201, hk55⟩, (ha.mm R)⟩
 refine JT fun h => Jx R (Je [2, 1, 2] R (Jf R (rn_build (parts := []) (cells := [.slice none 0 0, .slice none 0 0, .slice none 0 0, .slice none 0 0]) R R (by kernel_rfl)) (Jj1 (κ := K69) 5 (vc := [.slice none 0 0, .slice none 0 0, .slice none 0 0, .slice none 0 0]) R R R R R R R Z158 R R (f16.stp (S19.tr (S30.tr (S49.tr (S59.tr (S63.tr S70))))) R R) R fun w171 S172 f173 => ⟨tv, Jb 1 R (Ju (Jw (Ja1 (Jw (Jw ?_)))))⟩)))
 cases h
 obtain rfl := Option.some.inj hk55
 have h := hK37
 dsimp only [aft] at h
 refine Ja1 (Jq2 (Jw (Ja2 (l := [.cell 6 158, .tmp 7]) V136 (res_cellA R f173 I158 Z158 R (Jp2 R R)) R ?_)))
 cases h
 exact ⟨K69, none, 0, none, 0, none, 0, none, 0, R, (hE.stp (S3.tr (S7.tr (S11.tr (S15.tr (S19.tr (S30.tr (S49.tr (S59.tr (S63.tr (S70.tr S172)))))))))) R R), Ow.nil, Ow.nil, Ow.nil, Ow.nil⟩
 rintro _ w39 ⟨K40, s3, ah, aq, am, aj, ad, ai, ap, an, rfl, S41, f42, f43, f44, f45, f46, rfl⟩
 have h := hK37
 dsimp only [aft] at h
 refine Jp (Je [2, 2, 1, 1, 2] R (Jn 1 R (Jf R (rn_nilCheck R R) (Jl tv R R R R (Jd2 (cs := [.slice ah s3.2.1.length aq, .slice am s3.2.2.1.length aj, .slice ad s3.2.2.2.1.length ai, .slice ap s3.2.2.2.2.length an]) I158 Z158 R R R (haE f46.cells)) (Jj1 (κ := K40) 5 (vc := [.slice ah s3.2.1.length aq, .slice am s3.2.2.1.length aj, .slice ad s3.2.2.2.1.length ai, .slice ap s3.2.2.2.2.length an]) R R R R R R R Z158 R R (f16.stp (S19.tr (S30.tr S41)) R R) R fun w207 S208 f209 => ⟨tv, Jb 1 R (Ju (Ja2 (l := [.cell 6 158, .tmp 7]) V136 (res_cellA R f209 I158 Z158 R (Jp2 R R)) R ?_))⟩)))))
 cases h
 exact ⟨(fun b => ren [(11, 2), (12, 3), (14, 4), (15, 5)] (K40 b)), ah, aq, am, aj, ad, ai, ap, an, R, ((hE.stp (S3.tr (S7.tr (S11.tr (S15.tr (S19.tr (S30.tr (S41.tr S208))))))) R R).map (ren [(11, 2), (12, 3), (14, 4), (15, 5)]) R R), ((f42.stp S208 R R).map (ren [(11, 2), (12, 3), (14, 4), (15, 5)]) R R), ((f43.stp S208 R R).map (ren [(11, 2), (12, 3), (14, 4), (15, 5)]) R R), ((f44.stp S208 R R).map (ren [(11, 2), (12, 3), (14, 4), (15, 5)]) R R), ((f45.stp S208 R R).map (ren [(11, 2), (12, 3), (14, 4), (15, 5)]) R R)⟩
theorem s_l29Inputs_ok {w : World} {κ : Col} {p0 : Sig} {a1 u1} {p1 : (List Int)} (g1 : Rd (Rp.int .i64) κ w 0 a1 u1 p1) {r : Bool} (h : s_l29Inputs p0 p1 = some r) : Ret Tryz.prog 98 [.agg #[vi p0.In, vi p0.Out], .slice a1 p1.length u1] w (fun v w' => ∃ (κ' : Col), v = .bool r ∧ Ent κ w κ' w') := by
 unfold s_l29Inputs at h
 refine Ret.enter F98 R N98 R ?_
 dsimp only [envOf]
 have hE := Ent.refl κ w
 refine Je [1, 2] R (Jf1 (κ := κ) 2 R R R R R R R fun b2 w1 K2 S3 f4 => ⟨tv, Jb 1 R (Je [2, 2, 2, 2, 2, 1, 1, 1, 2, 2] R (Jn 1 R (Jf R (Je2 U40 R R) (Jn 2 R (Ob h fun p13 h hK5 => Ju1 [(4, 2), (5, 1), (6, 1), (7, 1), (8, 2)] [(9, 2)] (fun L w' => L = [(4, .bool false), (13, .bool p13)] ∧ ∃ κ', Stp [] K2 w1 κ' w') tv ?_ ?_)))))⟩)
 revert h
 cases ht6 : decide ((p1.length : Int) ≤ 600)
 refine JF fun h => Jn 1 R (Jd1 R R R R (Jd1 R R R R (Jd1 R R R R (Jn 1 R ?_))))
 cases h
 exact Jv1 _ tv ⟨R, _, (Jx2 _ _).wk R⟩ (KM R)
 refine JT fun h => Jn 1 R (Jl tv R R R R (Jd2 (cs := [vi p0.In, vi p0.Out]) I31 Z31 R R R (haE f4.cells)) (Ob h fun x11 hx11 h => Jh R R R C134 (s_l29Ins_ok (κ := fun b => mp [] 0 (K2 b)) (p0 := p0) hx11) ?_))
 rintro _ w7 ⟨k8, rfl, e9⟩
 obtain ⟨K10, S11, m12⟩ := Ji e9 3 R
 refine ⟨tv, Ob h fun x12 hx12 h => Jh R R R C112 (s_l23Below_ok (κ := fun b => mp [] 0 (K10 b)) (Jl2 (g1.stp (S3.tr S11) R R) (mp [] 0) R R) hx12) ?_⟩
 rintro _ w15 ⟨k16, rfl, e17⟩
 obtain ⟨K18, S19, m20⟩ := Ji e17 5 R
 refine ⟨tv, Jn 1 R ?_⟩
 cases h
 exact Jv1 _ tv ⟨R, _, (S11.tr S19).wk R⟩ (KM R)
 rintro _ w22 _ ⟨rfl, K23, S24⟩
 have h := hK5
 refine Jb 1 R (Ju (Ja2 (l := [.tmp 4]) V98 (Jp2 R R) R ?_))
 cases h
 exact ⟨K23, R, (hE.stp (S3.tr S24) R R)⟩
theorem s_l29Letters_ok {w : World} {κ : Col} {p0 : Sig} {af ai ae ah} {p1 : Machine} {p2 : Int} {a3 u3} {p3 : (List Int)} (g1_0 : Rd (Rp.sl (Rp.int .i64)) κ w 0 af ai p1.Next) (g1_1 : Rd (Rp.sl (Rp.int .i64)) κ w 0 ae ah p1.Out) (g3 : Rd (Rp.int .i64) κ w 0 a3 u3 p3) {r : (List Int)} (h : s_l29Letters p0 p1 p2 p3 = some r) : Ret Tryz.prog 101 [.agg #[vi p0.In, vi p0.Out], .agg #[.slice af p1.Next.length ai, .slice ae p1.Out.length ah], vi p2, .slice a3 p3.length u3] w (fun v w' => ∃ (κ' : Col) (ra0 : Option Addr) (ru0 : Nat), v = .slice ra0 r.length ru0 ∧ Ent κ w κ' w' ∧ Oc E6 2 κ' w' 2 ra0 ru0 r) := by
 unfold s_l29Letters at h
 refine Ret.enter F101 R N101 R ?_
 dsimp only [envOf]
 have hE := Ent.refl κ w
 refine Je [1, 1, 2] R (Jf1 (κ := κ) 2 R R R R R R R fun b4 w1 K2 S3 f4 => ⟨tv, Jf1 (κ := K2) 3 R R R R R R R fun b5 w5 K6 S7 f8 => ⟨tv, Jb 1 R (Je [1, 2] R (Jo1 (κ := K6) (E := E6) 4 R R R R R Y40 Tryzinfo2 R fun am ak w9 K10 S11 f12 => ⟨tv, Jb 1 R (Jq (Je [2] R (Jb 1 R ?_)))⟩))⟩⟩)
 have hN13 : (p3.length : Int) ≤ 9223372036854775807 := g3.len_le
 refine Ob h fun q2 hq15 hK14 => ?_
 clear h
 refine Jx1 (fun L w' => ∃ κ', ∃ s3 : Int × (List Int), ∃ ac aa, L = [(9, .slice ac s3.2.length aa)] ∧ Stp [4] K10 w9 κ' w' ∧ Oc E6 2 κ' w' 4 ac aa s3.2 ∧ q2 = Sum.inr s3) ?_ ?_
 refine Jv (Jy1 (fun k L w' => ∃ κ' v10, ∃ s1 : Int × (List Int), ∃ ad ab, L = [(2, vi s1.1), (3, .slice a3 p3.length u3), (4, .pointer (some ⟨b4, 0, none⟩)), (5, .pointer (some ⟨b5, 0, none⟩)), (9, .slice ad s1.2.length ab), (10, vi v10)] ∧ Stp [4] K10 w9 κ' w' ∧ Oc E6 2 κ' w' 4 ad ab s1.2 ∧ 0 ≤ v10 ∧ Int.toNat ((p3.length : Int) - v10) = k ∧ cntM (s_l29Letters_b0 p0 p1 p3) k v10 s1 = some q2) ⟨_, _, ⟨K10, 0, ((p2 : Int), (([] : List Int) : (List Int))), am, ak, R, (Jx2 _ _).wk R, f12, (by decide), (by simp), hq15⟩, (KM R)⟩ ?_)
 rintro k _ w20 ⟨K21, v10, s1, ad, ab, rfl, S22, f23, hj13, hJ13, h⟩
 rcases k with _ | k
 have hk24 := h; obtain ⟨o13, h⟩ := ex_eq (Sum.inr (Sum.inl s1) : (List Int) ⊕ ((Int × (List Int)) ⊕ (Int × (List Int))))
 have hc13 : decide (v10 < (p3.length : Int)) = false := Jo2 (by omega)
 refine Jq (Je [2, 2, 2, 2] R (Jn 2 R (Jf R (Je2 U40 R R) (Jb 1 R (Jw2 R hc13 (Jc1 (Jt (Jt ?_))))))))
 cases h
 have h := hk24
 refine Jb1 ?_
 cases h
 exact Jw1 _ ⟨K21, ((s1.1 : Int), (s1.2 : (List Int))), ad, ab, R, S22.wk R, f23, R⟩ (KM R)
 obtain ⟨o13, h, hk24⟩ := BI h; unfold s_l29Letters_b0 at h
 have hc13 : decide (v10 < (p3.length : Int)) = true := Jn2 (by omega)
 refine Jq (Je [2, 2, 2, 2] R (Jn 2 R (Jf R (Je2 U40 R R) (Jb 1 R (Jv2 R hc13 (Js (Jp (Jq (Jv (Jq (Js1 (κ := K21) [0, 2, 3] none [(0, 2), (1, 2), (3, 2), (6, 2), (7, 2), (8, 2), (15, 2), (16, 2), (17, 2), (2, 0), (4, 2), (5, 0), (9, 0), (10, 2), (11, 0), (12, 0), (18, 0), (13, 1), (14, 2), (19, 2), (20, 1), (21, 1), (22, 2)] [] (by kernel_rfl) (by kernel_rfl) fun w26 S25 => Jn 1 R (Jf R (Jb2 U33 R Z24 R R) (Jn 3 R (Ob h fun x26 hx26 h => Jf R (Jf2 g3 hx26 U40 Z2 R R R R) (Jn 2 R (Ob h fun x35 hx35 h => Jf R (Jf2 g3 hx35 U40 Z2 R R R R) ?_))))))))))))))))
 have f27 := f8.stp (S11.tr (S22.tr S25)) R R
 refine Jg R (Jc2 I24 R R (hvC (f27.ld 1 R R) R)) (Ob h fun x22 hx22 h => Jf R (Jf2 g1_1 hx22 U24 Z40 R R R R) ?_)
 obtain ⟨ax22, ux22, f29, hl30⟩ := (g1_1.stp (S3.tr (S7.tr (S11.tr (S22.tr S25)))) R R).gSl hx22
 refine Jg R (Jc2 I40 R R (hvC hl30 R)) ?_
 have f31 := g3.stp (S3.tr (S7.tr (S11.tr (S22.tr S25)))) R R
 refine Jg R (Jc2 I2 R R (hvC (f31.gInt hx26) R)) (Ob h fun x28 hx28 h => Jf R (Jf2 f29 hx28 U40 Z2 R R R R) (Jg R (Jc2 I2 R R (hvC (f29.gInt hx28) R)) (Jg R (Jd2 (cs := [vi p0.In, vi p0.Out]) I31 Z31 R R R (haC (f4.stp (S7.tr (S11.tr (S22.tr S25))) R R).cells R)) (Jg R (Jc2 I2 R R (hvC (f31.gInt hx35) R)) (Ob h fun x31 hx31 h => Jh R R R C134 (s_l29Ins_ok (κ := fun b => mp [] 0 (K21 b)) (p0 := p0) hx31) ?_)))))
 rintro _ w33 ⟨k34, rfl, e35⟩
 obtain ⟨K36, S37, m38⟩ := Ji e35 5 R
 refine ⟨(S37.cl R), Jn 2 R (Jn1 (κ := K36) (E := E6) 7 [] (parts := [(0, .tmp 37)]) (cells := [vi (IntKind.i64.wrap ((IntKind.i64.wrap (x28 * x31)) + x35))]) (xs := ([(IntKind.i64.wrap ((IntKind.i64.wrap (x28 * x31)) + x35))] : List Int)) R R R R R R Y40 Tryzinfo2 R R R R R R R R R R ⟨[vi (IntKind.i64.wrap ((IntKind.i64.wrap (x28 * x31)) + x35))], [], Zl K36 w33 [], Zl K36 w33 [], R, Zl.sp (l1 := []) (l2 := []) R, Zl.sr (l1 := []) (l2 := []), R, R⟩ fun ao an w40 K41 S42 f43 => ⟨((S37.tr S42).cl R), Ob h fun x39 hx39 h => Jm1 (κ := K41) (E := E6) 4 [] R R R R R R R R R Y40 Tryzinfo2 R R R R (f23.stp (S25.tr (S37.tr S42)) R R) (Sl.srcP (pu_int _) f43.rdc) sy_false hx39 R fun al aj w45 K46 S47 f48 => ⟨((S37.tr (S42.tr S47)).cl R), Jn 1 R (Jt1 (Jd (Js1 (κ := K46) [0, 3] none [(0, 2), (2, 2), (5, 2), (6, 2), (7, 2), (1, 0), (3, 2), (4, 0), (8, 0), (9, 2), (10, 0), (11, 2)] [] (by kernel_rfl) (by kernel_rfl) fun w50 S49 => Jf R (Jb2 U33 R Z24 R R) (Jn 3 R (Ob h fun x47 hx47 h => Jf R (Jf2 f31 hx47 U40 Z2 R R R R) (Jg R (Jc2 I24 R R (hvC ((f27.stp (S37.tr (S42.tr (S47.tr S49))) R R).ld 0 R R) R)) (Ob h fun x43 hx43 h => Jf R (Jf2 g1_0 hx43 U24 Z40 R R R R) ?_)))))))⟩⟩)⟩
 obtain ⟨ax43, ux43, f53, hl54⟩ := (g1_0.stp (S3.tr (S7.tr (S11.tr (S22.tr (S25.tr (S37.tr (S42.tr (S47.tr S49)))))))) R R).gSl hx43
 refine Jg R (Jc2 I40 R R (hvC hl54 R)) (Jg R (Jc2 I2 R R (hvC ((f31.stp (S37.tr (S42.tr (S47.tr S49))) R R).gInt hx47) R)) (Ob h fun x49 hx49 h => Jf R (Jf2 f53 hx49 U40 Z2 R R R R) (Jg R (Jc2 I2 R R (hvC (f53.gInt hx49) R)) (Jn 1 R (Jt1 (Jo (Jz (Jp (Ja [2, 2, 2] R (Jc 3 R ?_))))))))))
 have hw13 : IntKind.wrap .i64 (v10 + 1) = v10 + 1 := wr1 hj13 (Jm2 hc13) hN13
 rw [hw13]
 have hc13 := Jm2 hc13
 cases h
 exact Jz1 fun a ha => ⟨k, _, Ja3 _, ⟨K46, v10 + 1, ((x49 : Int), (x39 : (List Int))), al, aj, R, (S22.tr (S25.tr (S37.tr (S42.tr (S47.tr S49))))).wk R, (f48.stp S49 R R), by omega, by omega, hk24⟩, (ha.mm R)⟩
 rintro _ w16 ⟨K17, s3, ac, aa, rfl, S18, f19, rfl⟩
 have h := hK14
 dsimp only [aft] at h
 refine Jp (Je [2, 2] R (Jb 2 R (Ju (Ja2 (l := [.tmp 8]) V101 (Jp2 R R) R ?_))))
 cases h
 exact ⟨(fun b => ren [(4, 2)] (K17 b)), ac, aa, R, ((hE.stp (S3.tr (S7.tr (S11.tr S18))) R R).map (ren [(4, 2)]) R R), (f19.map (ren [(4, 2)]) R R)⟩
end Go.Proofs.YtcmamhmpoinmnaaGreat
