/- The walks, part 4. By program. -/
import Derived.Test.YtcmamhmpoinmnaaFns1MC
set_option linter.unusedVariables false
set_option linter.unusedSimpArgs false
namespace Go.Proofs.Ytcmamhmpoinmnaa
open Go Go.Wk Go.Proofs
set_option maxRecDepth 100000
set_option maxHeartbeats 1000000
theorem i_monitorOf_ok {w : World} {κ : Col} {p0 : Sig} {bb bc bd be} {p1 : Clause} (g1_1 : Rd (Rp.int .i64) κ w 0 bb bc p1.A) (g1_2 : Rd (Rp.int .i64) κ w 0 bd be p1.B) {r : Det} (h : i_monitorOf p0 p1 = some r) : Ret Try.prog 97 [.agg #[vi p0.In, vi p0.Out], .agg #[vi p1.Kind, .slice bb p1.A.length bc, .slice bd p1.B.length be]] w (fun v w' => ∃ (κ' : Col) (ra0 : Option Addr) (ru0 : Nat) (ra1 : Option Addr) (ru1 : Nat), v = .agg #[.slice ra0 r.Next.length ru0, .slice ra1 r.Pairs.length ru1] ∧ Ent κ w κ' w' ∧ Oc (Ep.own E6 2) 24 κ' w' 2 ra0 ru0 r.Next ∧ Oc Pair.ep42 42 κ' w' 3 ra1 ru1 r.Pairs) := by
 unfold i_monitorOf at h
 refine Ret.enter F97 R N97 R ?_
 dsimp only [envOf]
 have hE := Ent.refl κ w
 refine Je [1, 1, 1] R (Jf1 (κ := κ) 2 R R R R R R R fun b2 w1 K2 S3 f4 => ⟨tv, Jf1 (κ := K2) 3 R R R R R R R fun b3 w5 K6 S7 f8 => ⟨tv, Jg1 (κ := K6) 4 R R R R R X58 R fun b4 w9 K10 S11 f12 => ⟨tv, Jd (Je [2] R (Jb 1 R (Je [2, 1, 1] R (Jf R (rn_build (parts := []) (cells := [.slice none 0 0, .slice none 0 0]) R R (by kernel_rfl)) (Jg1 (κ := K10) 5 R R R R R X42 R fun b6 w13 K14 S15 f16 => ⟨tv, Jj1 (κ := K14) 5 (vc := [.slice none 0 0, .slice none 0 0]) R R R R R R R Z42 R R f16 R fun w17 S18 f19 => ⟨tv, Jd (Jq (Je [2, 1] R (Jf R (Jb2 U61 R Z2 R R) ?_)))⟩⟩)))))⟩⟩⟩)
 have f20 := f8.stp (S11.tr (S15.tr S18)) R R
 refine Jl tv R R R R (Jc2 I2 R R (hvE (f20.ld 0 R R))) (Jd (Jv (Jq (Je [2, 2] R (Jb 2 R (Ob h fun q1 h hK21 => Jx1 (fun L w' => ∃ κ', L = [(2, .pointer (some ⟨b2, 0, none⟩)), (3, .pointer (some ⟨b3, 0, none⟩)), (4, .pointer (some ⟨b4, 0, none⟩)), (5, vi 2), (6, .pointer (some ⟨b6, 0, none⟩)), (13, vi p1.Kind), (17, .bool q1)] ∧ Stp [] K14 w17 κ' w') ?_ ?_))))))
 revert h
 cases ht25 : (p1.Kind == 1)
 refine JF fun h => Jy R (Ja [2, 2] R (Jc 2 R ?_))
 cases h
 exact Jw1 _ ⟨K14, R, (Jx2 _ _).wk R⟩ (KM R)
 refine JT fun h => Jx R (Js ?_)
 cases h
 exact Jw1 _ ⟨K14, R, (Jx2 _ _).wk R⟩ (KM R)
 rintro _ w22 ⟨K23, rfl, S24⟩
 have h := hK21
 refine Jp (Ob h fun q2 h hK26 => Jx1 (fun L w' => ∃ κ' ae ac af ad, L = [(2, .pointer (some ⟨b2, 0, none⟩)), (3, .pointer (some ⟨b3, 0, none⟩)), (4, .pointer (some ⟨b4, 0, none⟩)), (5, vi q2.1), (6, .pointer (some ⟨b6, 0, none⟩))] ∧ Stp [5] K23 w22 κ' w' ∧ Oc E6 2 κ' w' 6 ae ac q2.2.1 ∧ Oc E6 2 κ' w' 7 af ad q2.2.2 ∧ Bc κ' w' 5 b6 42 [.slice ae q2.2.1.length ac, .slice af q2.2.2.length ad]) ?_ ?_)
 revert h
 cases ht33 : q1
 refine JF fun h => Jy R (Je [2, 2] R (Jb 2 R (Ob h fun q3 h hK43 => Jx1 (fun L w' => ∃ κ' ap al au aC, L = [(2, .pointer (some ⟨b2, 0, none⟩)), (3, .pointer (some ⟨b3, 0, none⟩)), (4, .pointer (some ⟨b4, 0, none⟩)), (5, vi q3.1), (6, .pointer (some ⟨b6, 0, none⟩))] ∧ Stp [5] K23 w22 κ' w' ∧ Oc E6 2 κ' w' 6 ap al q3.2.1 ∧ Oc E6 2 κ' w' 7 au aC q3.2.2 ∧ Bc κ' w' 5 b6 42 [.slice ap q3.2.1.length al, .slice au q3.2.2.length aC]) ?_ ?_)))
 revert h
 cases ht50 : (p1.Kind == 2)
 refine JF fun h => Jy R (Je [2, 2] R (Jb 2 R (Ob h fun q4 h hK60 => Jx1 (fun L w' => ∃ κ' am aD ax aG, L = [(2, .pointer (some ⟨b2, 0, none⟩)), (3, .pointer (some ⟨b3, 0, none⟩)), (4, .pointer (some ⟨b4, 0, none⟩)), (5, vi q4.1), (6, .pointer (some ⟨b6, 0, none⟩))] ∧ Stp [5] K23 w22 κ' w' ∧ Oc E6 2 κ' w' 6 am aD q4.2.1 ∧ Oc E6 2 κ' w' 7 ax aG q4.2.2 ∧ Bc κ' w' 5 b6 42 [.slice am q4.2.1.length aD, .slice ax q4.2.2.length aG]) ?_ ?_)))
 revert h
 cases ht67 : (p1.Kind == 3)
 refine JF fun h => Jy R (Je [2, 2] R (Jb 2 R (Ob h fun q5 h hK82 => Jx1 (fun L w' => ∃ κ' aB aA aF aq, L = [(2, .pointer (some ⟨b2, 0, none⟩)), (3, .pointer (some ⟨b3, 0, none⟩)), (4, .pointer (some ⟨b4, 0, none⟩)), (5, vi q5.1), (6, .pointer (some ⟨b6, 0, none⟩))] ∧ Stp [5] K23 w22 κ' w' ∧ Oc E6 2 κ' w' 6 aB aA q5.2.1 ∧ Oc E6 2 κ' w' 7 aF aq q5.2.2 ∧ Bc κ' w' 5 b6 42 [.slice aB q5.2.1.length aA, .slice aF q5.2.2.length aq]) ?_ ?_)))
 revert h
 cases ht89 : (p1.Kind == 4)
 refine JF fun h => Jy R (Je [2, 2] R (Jb 2 R (Ob h fun q6 h hK104 => Jx1 (fun L w' => ∃ κ' ay ao av aE, L = [(2, .pointer (some ⟨b2, 0, none⟩)), (3, .pointer (some ⟨b3, 0, none⟩)), (4, .pointer (some ⟨b4, 0, none⟩)), (5, vi q6.1), (6, .pointer (some ⟨b6, 0, none⟩))] ∧ Stp [5] K23 w22 κ' w' ∧ Oc E6 2 κ' w' 6 ay ao q6.2.1 ∧ Oc E6 2 κ' w' 7 av aE q6.2.2 ∧ Bc κ' w' 5 b6 42 [.slice ay q6.2.1.length ao, .slice av q6.2.2.length aE]) ?_ ?_)))
 revert h
 cases ht111 : (p1.Kind == 6)
 refine JF fun h => Jy R (Je [2] R (Jb 1 R (Ja [1, 1, 2, 1] R (Jn1 (κ := K23) (E := E6) 6 [] (parts := [(0, .const (vi 2)), (1, .const (vi 3))]) (cells := [vi 2, vi 3]) (xs := ([2, 3] : List Int)) R R R R R R Y24 Tryinfo2 R R R R R R R R R R ⟨[vi 2], [vi 3], Zl K23 w22 [], Zl K23 w22 [], R, Zl.sp (l1 := []) (l2 := []) R, Zl.sr (l1 := []) (l2 := []), R, ⟨[vi 3], [], Zl K23 w22 [], Zl K23 w22 [], R, Zl.sp (l1 := []) (l2 := []) R, Zl.sr (l1 := []) (l2 := []), R, R⟩⟩ fun aJ aS w121 K122 S123 f124 => ⟨tv, Jn1 (κ := K122) (E := E6) 7 [] (parts := [(0, .const (vi 1)), (1, .const (vi 3))]) (cells := [vi 1, vi 3]) (xs := ([1, 3] : List Int)) R R R R R R Y24 Tryinfo2 R R R R R R R R R R ⟨[vi 1], [vi 3], Zl K122 w121 [], Zl K122 w121 [], R, Zl.sp (l1 := []) (l2 := []) R, Zl.sr (l1 := []) (l2 := []), R, ⟨[vi 3], [], Zl K122 w121 [], Zl K122 w121 [], R, Zl.sp (l1 := []) (l2 := []) R, Zl.sr (l1 := []) (l2 := []), R, R⟩⟩ fun aK aN w125 K126 S127 f128 => ⟨tv, Jf R (rn_build (parts := [(0, .tmp 14), (1, .tmp 15)]) (cells := [.slice aJ ([2, 3] : List Int).length aS, .slice aK ([1, 3] : List Int).length aN]) R R (by kernel_rfl)) (Jj1 (κ := K126) 5 (vc := [.slice aJ ([2, 3] : List Int).length aS, .slice aK ([1, 3] : List Int).length aN]) R R R R R R R Z42 R R (f19.stp (S24.tr (S123.tr S127)) R R) R fun w130 S131 f132 => ⟨tv, Jo ?_⟩)⟩⟩))))
 cases h
 exact Jw1 _ ⟨K126, aJ, aS, aK, aN, R, (S123.tr (S127.tr S131)).wk R, (f124.stp (S127.tr S131) R R), (f128.stp S131 R R), f132⟩ (KM R)
 refine JT fun h => Jx R (Ja [1, 2, 1] R (Jn1 (κ := K23) (E := E6) 6 [] (parts := [(0, .const (vi 0))]) (cells := [vi 0]) (xs := ([0] : List Int)) R R R R R R Y24 Tryinfo2 R R R R R R R R R R ⟨[vi 0], [], Zl K23 w22 [], Zl K23 w22 [], R, Zl.sp (l1 := []) (l2 := []) R, Zl.sr (l1 := []) (l2 := []), R, R⟩ fun aR aQ w112 K113 S114 f115 => ⟨tv, Jf R (Jb2 U42 R Z24 R R) (Ji1 (κ := K113) 5 (off := 0) (vc := [.slice aR ([0] : List Int).length aQ]) (cs' := [.slice aR ([0] : List Int).length aQ, .slice none 0 0]) R R R R R R R Z24 R R (f19.stp (S24.tr S114) R R) R R fun w117 S118 f119 => ⟨tv, Jo ?_⟩)⟩))
 cases h
 exact Jw1 _ ⟨K113, aR, aQ, none, 0, R, (S114.tr S118).wk R, (f115.stp S118 R R), Ow.nil, f119⟩ (KM R)
 rintro _ w105 ⟨K106, ay, ao, av, aE, rfl, S107, f108, f109, f110⟩
 have h := hK104
 cases h
 exact Jw1 _ ⟨K106, ay, ao, av, aE, R, S107.wk R, f108, f109, f110⟩ (KM R)
 refine JT fun h => Jx R (Ja [1, 1, 2, 1] R (Jn1 (κ := K23) (E := E6) 6 [] (parts := [(0, .const (vi 0)), (1, .const (vi 1))]) (cells := [vi 0, vi 1]) (xs := ([0, 1] : List Int)) R R R R R R Y24 Tryinfo2 R R R R R R R R R R ⟨[vi 0], [vi 1], Zl K23 w22 [], Zl K23 w22 [], R, Zl.sp (l1 := []) (l2 := []) R, Zl.sr (l1 := []) (l2 := []), R, ⟨[vi 1], [], Zl K23 w22 [], Zl K23 w22 [], R, Zl.sp (l1 := []) (l2 := []) R, Zl.sr (l1 := []) (l2 := []), R, R⟩⟩ fun aY aH w90 K91 S92 f93 => ⟨tv, Jn1 (κ := K91) (E := E6) 7 [] (parts := [(0, .const (vi 1))]) (cells := [vi 1]) (xs := ([1] : List Int)) R R R R R R Y24 Tryinfo2 R R R R R R R R R R ⟨[vi 1], [], Zl K91 w90 [], Zl K91 w90 [], R, Zl.sp (l1 := []) (l2 := []) R, Zl.sr (l1 := []) (l2 := []), R, R⟩ fun aW aZ w94 K95 S96 f97 => ⟨tv, Jf R (rn_build (parts := [(0, .tmp 33), (1, .tmp 34)]) (cells := [.slice aY ([0, 1] : List Int).length aH, .slice aW ([1] : List Int).length aZ]) R R (by kernel_rfl)) (Jj1 (κ := K95) 5 (vc := [.slice aY ([0, 1] : List Int).length aH, .slice aW ([1] : List Int).length aZ]) R R R R R R R Z42 R R (f19.stp (S24.tr (S92.tr S96)) R R) R fun w99 S100 f101 => ⟨tv, Jo ?_⟩)⟩⟩))
 cases h
 exact Jw1 _ ⟨K95, aY, aH, aW, aZ, R, (S92.tr (S96.tr S100)).wk R, (f93.stp (S96.tr S100) R R), (f97.stp S100 R R), f101⟩ (KM R)
 rintro _ w83 ⟨K84, aB, aA, aF, aq, rfl, S85, f86, f87, f88⟩
 have h := hK82
 cases h
 exact Jw1 _ ⟨K84, aB, aA, aF, aq, R, S85.wk R, f86, f87, f88⟩ (KM R)
 refine JT fun h => Jx R (Ja [1, 1, 2, 1] R (Jn1 (κ := K23) (E := E6) 6 [] (parts := [(0, .const (vi 1))]) (cells := [vi 1]) (xs := ([1] : List Int)) R R R R R R Y24 Tryinfo2 R R R R R R R R R R ⟨[vi 1], [], Zl K23 w22 [], Zl K23 w22 [], R, Zl.sp (l1 := []) (l2 := []) R, Zl.sr (l1 := []) (l2 := []), R, R⟩ fun ba aT w68 K69 S70 f71 => ⟨tv, Jn1 (κ := K69) (E := E6) 7 [] (parts := [(0, .const (vi 0))]) (cells := [vi 0]) (xs := ([0] : List Int)) R R R R R R Y24 Tryinfo2 R R R R R R R R R R ⟨[vi 0], [], Zl K69 w68 [], Zl K69 w68 [], R, Zl.sp (l1 := []) (l2 := []) R, Zl.sr (l1 := []) (l2 := []), R, R⟩ fun aL aX w72 K73 S74 f75 => ⟨tv, Jf R (rn_build (parts := [(0, .tmp 28), (1, .tmp 29)]) (cells := [.slice ba ([1] : List Int).length aT, .slice aL ([0] : List Int).length aX]) R R (by kernel_rfl)) (Jj1 (κ := K73) 5 (vc := [.slice ba ([1] : List Int).length aT, .slice aL ([0] : List Int).length aX]) R R R R R R R Z42 R R (f19.stp (S24.tr (S70.tr S74)) R R) R fun w77 S78 f79 => ⟨tv, Jo ?_⟩)⟩⟩))
 cases h
 exact Jw1 _ ⟨K73, ba, aT, aL, aX, R, (S70.tr (S74.tr S78)).wk R, (f71.stp (S74.tr S78) R R), (f75.stp S78 R R), f79⟩ (KM R)
 rintro _ w61 ⟨K62, am, aD, ax, aG, rfl, S63, f64, f65, f66⟩
 have h := hK60
 cases h
 exact Jw1 _ ⟨K62, am, aD, ax, aG, R, S63.wk R, f64, f65, f66⟩ (KM R)
 refine JT fun h => Jx R (Je [2] R (Jb 1 R (Ja [1, 2, 1] R (Jn1 (κ := K23) (E := E6) 6 [] (parts := [(0, .const (vi 2))]) (cells := [vi 2]) (xs := ([2] : List Int)) R R R R R R Y24 Tryinfo2 R R R R R R R R R R ⟨[vi 2], [], Zl K23 w22 [], Zl K23 w22 [], R, Zl.sp (l1 := []) (l2 := []) R, Zl.sr (l1 := []) (l2 := []), R, R⟩ fun aP aM w51 K52 S53 f54 => ⟨tv, Jf R (Jb2 U42 R Z24 R R) (Ji1 (κ := K52) 5 (off := 0) (vc := [.slice aP ([2] : List Int).length aM]) (cs' := [.slice aP ([2] : List Int).length aM, .slice none 0 0]) R R R R R R R Z24 R R (f19.stp (S24.tr S53) R R) R R fun w56 S57 f58 => ⟨tv, Jo ?_⟩)⟩))))
 cases h
 exact Jw1 _ ⟨K52, aP, aM, none, 0, R, (S53.tr S57).wk R, (f54.stp S57 R R), Ow.nil, f58⟩ (KM R)
 rintro _ w44 ⟨K45, ap, al, au, aC, rfl, S46, f47, f48, f49⟩
 have h := hK43
 cases h
 exact Jw1 _ ⟨K45, ap, al, au, aC, R, S46.wk R, f47, f48, f49⟩ (KM R)
 refine JT fun h => Jx R (Ja [1, 2, 1] R (Jn1 (κ := K23) (E := E6) 6 [] (parts := [(0, .const (vi 1))]) (cells := [vi 1]) (xs := ([1] : List Int)) R R R R R R Y24 Tryinfo2 R R R R R R R R R R ⟨[vi 1], [], Zl K23 w22 [], Zl K23 w22 [], R, Zl.sp (l1 := []) (l2 := []) R, Zl.sr (l1 := []) (l2 := []), R, R⟩ fun aU aO w34 K35 S36 f37 => ⟨tv, Jf R (Jb2 U42 R Z24 R R) (Ji1 (κ := K35) 5 (off := 0) (vc := [.slice aU ([1] : List Int).length aO]) (cs' := [.slice aU ([1] : List Int).length aO, .slice none 0 0]) R R R R R R R Z24 R R (f19.stp (S24.tr S36) R R) R R fun w39 S40 f41 => ⟨tv, Jo ?_⟩)⟩))
 cases h
 exact Jw1 _ ⟨K35, aU, aO, none, 0, R, (S36.tr S40).wk R, (f37.stp S40 R R), Ow.nil, f41⟩ (KM R)
 rintro _ w27 ⟨K28, ae, ac, af, ad, rfl, S29, f30, f31, f32⟩
 have h := hK26
 refine Jz (Jp (Je [1, 1, 2, 1, 1] R (Jl tv R R R R (Jd2 (cs := [.slice ae q2.2.1.length ac, .slice af q2.2.2.length ad]) I42 Z42 R R R (haE f32.cells)) (Jn1 (κ := K28) (E := Pair.ep42) 8 [6, 7] (parts := [(0, .tmp 40)]) (cells := [.slice ae q2.2.1.length ac, .slice af q2.2.2.length ad]) (xs := ([(⟨q2.2.1, q2.2.2⟩ : Pair)] : List Pair)) R R R R R R Y29 Tryinfo42 R R R R R R R R R R ⟨[.slice ae q2.2.1.length ac, .slice af q2.2.2.length ad], [], Zl K28 w27 [6, 7], Zl K28 w27 [], R, Zl.sp (l1 := [6, 7]) (l2 := []) R, Zl.sr (l1 := [6, 7]) (l2 := []), ⟨[.slice ae q2.2.1.length ac], [.slice af q2.2.2.length ad], Zl K28 w27 [6], Zl K28 w27 [7], R, Zl.sp (l1 := [6]) (l2 := [7]) R, Zl.sr (l1 := [6]) (l2 := [7]), ⟨_, _, R, f30⟩, ⟨_, _, R, f31⟩⟩, R⟩ fun aa ab w135 K136 S137 f138 => ⟨tv, Jf R (rn_build (parts := [(1, .tmp 41)]) (cells := [.slice none 0 0, .slice aa ([(⟨q2.2.1, q2.2.2⟩ : Pair)] : List Pair).length ab]) R R (by kernel_rfl)) (Jg1 (κ := K136) 9 R R R R R X58 R fun b7 w139 K140 S141 f142 => ⟨tv, Jj1 (κ := K140) 9 (vc := [.slice none 0 0, .slice aa ([(⟨q2.2.1, q2.2.2⟩ : Pair)] : List Pair).length ab]) R R R R R R R Z58 R R f142 R fun w143 S144 f145 => ⟨tv, Jd (Jq (Je [2, 2] R (Jb 2 R (Ob h fun _ hr146 h => ?_))))⟩⟩)⟩))))
 have hN146 := rng_ok hr146
 refine Ob h fun q8 hq148 hK147 => ?_
 clear h
 refine Jx1 (fun L w' => ∃ κ', ∃ s9 : (List (List Int)), ∃ ai ah, L = [(4, .pointer (some ⟨b4, 0, none⟩)), (7, .pointer (some ⟨b7, 0, none⟩))] ∧ Stp [9, 10, 11, 14] K140 w143 κ' w' ∧ Oc (Ep.own E6 2) 24 κ' w' 10 ai ah s9 ∧ Bc κ' w' 9 b7 58 [.slice ai s9.length ah, .slice aa ([(⟨q2.2.1, q2.2.2⟩ : Pair)] : List Pair).length ab] ∧ q8 = Sum.inr s9) ?_ ?_
 refine Jv (Jy1 (fun k L w' => ∃ κ' v44, ∃ s7 : (List (List Int)), ∃ an ar, L = [(2, .pointer (some ⟨b2, 0, none⟩)), (3, .pointer (some ⟨b3, 0, none⟩)), (4, .pointer (some ⟨b4, 0, none⟩)), (7, .pointer (some ⟨b7, 0, none⟩)), (43, vi q2.1), (44, vi v44)] ∧ Stp [9, 10, 11, 14] K140 w143 κ' w' ∧ Oc (Ep.own E6 2) 24 κ' w' 10 an ar s7 ∧ Bc κ' w' 9 b7 58 [.slice an s7.length ar, .slice aa ([(⟨q2.2.1, q2.2.2⟩ : Pair)] : List Pair).length ab] ∧ 0 ≤ v44 ∧ Int.toNat (q2.1 - v44) = k ∧ cntM (i_monitorOf_b1 p0 p1) k v44 s7 = some q8) ⟨_, _, ⟨K140, 0, (([] : List (List Int)) : (List (List Int))), none, 0, R, (Jx2 _ _).wk R, Ow.nil, f145, (by decide), (by simp), hq148⟩, (KM R)⟩ ?_)
 rintro k _ w154 ⟨K155, v44, s7, an, ar, rfl, S156, f157, f158, hj146, hJ146, h⟩
 rcases k with _ | k
 have hk159 := h; obtain ⟨o146, h⟩ := ex_eq (Sum.inr (Sum.inl s7) : Det ⊕ (((List (List Int))) ⊕ ((List (List Int)))))
 have hc146 : decide (v44 < q2.1) = false := Jo2 (by omega)
 refine Je [2] R (Jb 1 R (Jq (Jw2 R hc146 (Jc1 (Jt (Jt ?_))))))
 cases h
 have h := hk159
 refine Jb1 ?_
 cases h
 exact Jw1 _ ⟨K155, (s7 : (List (List Int))), an, ar, R, S156.wk R, f157, f158, R⟩ (KM R)
 obtain ⟨o146, h, hk159⟩ := BI h; unfold i_monitorOf_b1 at h
 have hc146 : decide (v44 < q2.1) = true := Jn2 (by omega)
 refine Je [2] R (Jb 1 R (Jq (Jv2 R hc146 (Js (Jp (Jq (Jv (Je [2, 2] R (Jb 2 R (Je [1, 2] R (Jo1 (κ := K155) (E := E6) 11 R R R R R Y24 Tryinfo2 R fun bi bg w160 K161 S162 f163 => ⟨tv, Jb 1 R (Jq (Je [1, 1, 2] R (Jl tv R R R R (Jd2 (cs := [vi p0.In, vi p0.Out]) I47 Z47 R R R (haE (f4.stp (S7.tr (S11.tr (S15.tr (S18.tr (S24.tr (S29.tr (S137.tr (S141.tr (S144.tr (S156.tr S162)))))))))) R R).cells)) (Ob h fun x49 hx49 h => Jh R R R C71 (i_lettersOf_ok (κ := fun b => mp [] 0 (K161 b)) (p0 := p0) hx49) ?_))))⟩)))))))))))
 rintro _ w165 ⟨k166, rfl, e167⟩
 obtain ⟨K168, S169, m170⟩ := Ji e167 12 R
 refine ⟨tv, Jb 1 R (Ob h fun _ hr172 h => ?_)⟩
 have hN172 := rng_ok hr172
 refine Ob h fun q11 hq174 hK173 => ?_
 clear h
 refine Jx1 (fun L w' => ∃ κ', ∃ s12 : (List Int), ∃ aj ak, L = [(2, .pointer (some ⟨b2, 0, none⟩)), (3, .pointer (some ⟨b3, 0, none⟩)), (4, .pointer (some ⟨b4, 0, none⟩)), (7, .pointer (some ⟨b7, 0, none⟩)), (9, .slice aj s12.length ak), (43, vi q2.1), (44, vi v44)] ∧ Stp [11] K168 w165 κ' w' ∧ Oc E6 2 κ' w' 11 aj ak s12 ∧ q11 = Sum.inr s12) ?_ ?_
 refine Jv (Jy1 (fun k L w' => ∃ κ' v50, ∃ s10 : (List Int), ∃ az aw, L = [(2, .pointer (some ⟨b2, 0, none⟩)), (3, .pointer (some ⟨b3, 0, none⟩)), (4, .pointer (some ⟨b4, 0, none⟩)), (7, .pointer (some ⟨b7, 0, none⟩)), (8, vi v44), (9, .slice az s10.length aw), (43, vi q2.1), (44, vi v44), (49, vi x49), (50, vi v50)] ∧ Stp [11] K168 w165 κ' w' ∧ Oc E6 2 κ' w' 11 az aw s10 ∧ 0 ≤ v50 ∧ Int.toNat (x49 - v50) = k ∧ cntM (i_monitorOf_b3 p1 v44) k v50 s10 = some q11) ⟨_, _, ⟨K168, 0, (([] : List Int) : (List Int)), bi, bg, R, (Jx2 _ _).wk R, (f163.stp S169 R R), (by decide), (by simp), hq174⟩, (KM R)⟩ ?_)
 rintro k _ w179 ⟨K180, v50, s10, az, aw, rfl, S181, f182, hj172, hJ172, h⟩
 rcases k with _ | k
 have hk184 := h; obtain ⟨o172, h⟩ := ex_eq (Sum.inr (Sum.inl s10) : Det ⊕ (((List Int)) ⊕ ((List Int))))
 have hc172 : decide (v50 < x49) = false := Jo2 (by omega)
 refine Je [2] R (Jb 1 R (Jq (Jw2 R hc172 (Jc1 (Jt (Jt ?_))))))
 cases h
 have h := hk184
 refine Jb1 ?_
 cases h
 exact Jw1 _ ⟨K180, (s10 : (List Int)), az, aw, R, S181.wk R, f182, R⟩ (KM R)
 obtain ⟨o172, h, hk184⟩ := BI h; unfold i_monitorOf_b3 at h
 have hc172 : decide (v50 < x49) = true := Jn2 (by omega)
 refine Je [2] R (Jb 1 R (Jq (Jv2 R hc172 (Js (Jp (Jq (Jv (Je [2, 2] R (Jb 2 R (Js1 (κ := K180) [3] none [(0, 2), (1, 2), (3, 2), (4, 2), (6, 2), (8, 2), (10, 2), (2, 0), (5, 0), (9, 0), (7, 1), (11, 1), (12, 1), (13, 1), (14, 1), (15, 2)] [] (by kernel_rfl) (by kernel_rfl) fun w186 S185 => Jn 1 R (Jf R (Jb2 U61 R Z2 R R) (Jn 1 R (Jf R (Jb2 U61 R Z24 R R) (Jn 1 R (Jf R (Jb2 U61 R Z24 R R) (Jn 1 R ?_))))))))))))))))
 have f187 := f20.stp (S24.tr (S29.tr (S137.tr (S141.tr (S144.tr (S156.tr (S162.tr (S169.tr (S181.tr S185))))))))) R R
 refine Jg R (Jc2 I2 R R (hvC (f187.ld 0 R R) R)) (Jg R (Jc2 I24 R R (hvC (f187.ld 1 R R) R)) (Jg R (Jc2 I24 R R (hvC (f187.ld 2 R R) R)) (Ob h fun x60 hx60 h => Jh R R R C72 (slices_Contains_I_int64_ok (κ := fun b => mp [] 0 (K180 b)) (Jl2 (g1_1.stp (S3.tr (S7.tr (S11.tr (S15.tr (S18.tr (S24.tr (S29.tr (S137.tr (S141.tr (S144.tr (S156.tr (S162.tr (S169.tr (S181.tr S185)))))))))))))) R R) (mp [] 0) R R) hx60) ?_)))
 rintro _ w189 ⟨k190, rfl, e191⟩
 obtain ⟨K192, S193, m194⟩ := Ji e191 14 R
 refine ⟨(S193.cl R), Ob h fun x64 hx64 h => Jh R R R C72 (slices_Contains_I_int64_ok (κ := fun b => mp [] 0 (K192 b)) (Jl2 (g1_2.stp (S3.tr (S7.tr (S11.tr (S15.tr (S18.tr (S24.tr (S29.tr (S137.tr (S141.tr (S144.tr (S156.tr (S162.tr (S169.tr (S181.tr (S185.tr S193))))))))))))))) R R) (mp [] 0) R R) hx64) ?_⟩
 rintro _ w197 ⟨k198, rfl, e199⟩
 obtain ⟨K200, S201, m202⟩ := Ji e199 16 R
 refine ⟨((S193.tr S201).cl R), Ob h fun x65 hx65 h => Jh R R R C113 (i_monitorStep_ok (κ := fun b => mp [] 0 (K200 b)) hx65) ?_⟩
 rintro _ w204 ⟨k205, rfl, e206⟩
 obtain ⟨K207, S208, m209⟩ := Ji e206 18 R
 have S001 := (S193.tr (S201.tr S208))
 refine ⟨(S001.cl R), Jn1 (κ := K207) (E := E6) 20 [] (parts := [(0, .tmp 65)]) (cells := [vi x65]) (xs := ([x65] : List Int)) R R R R R R Y24 Tryinfo2 R R R R R R R R R R ⟨[vi x65], [], Zl K207 w204 [], Zl K207 w204 [], R, Zl.sp (l1 := []) (l2 := []) R, Zl.sr (l1 := []) (l2 := []), R, R⟩ fun bm bk w211 K212 S213 f214 => ⟨((S001.tr S213).cl R), Ob h fun x67 hx67 h => Jm1 (κ := K212) (E := E6) 11 [] R R R R R R R R R Y24 Tryinfo2 R R R R (f182.stp (S185.tr (S193.tr (S201.tr (S208.tr S213)))) R R) (Sl.srcP (pu_int _) f214.rdc) sy_false hx67 R fun bf bh w216 K217 S218 f219 => ⟨((S001.tr (S213.tr S218)).cl R), Jn 1 R (Jt1 (Jo (Jz (Jp (Ja [2, 2] R (Jc 2 R ?_))))))⟩⟩⟩
 have hw172 : IntKind.wrap .i64 (v50 + 1) = v50 + 1 := wr1 hj172 (Jm2 hc172) hN172
 rw [hw172]
 have hc172 := Jm2 hc172
 cases h
 exact Jz1 fun a ha => ⟨k, _, Ja3 _, ⟨K217, v50 + 1, (x67 : (List Int)), bf, bh, R, (S181.tr (S185.tr (S193.tr (S201.tr (S208.tr (S213.tr S218)))))).wk R, f219, by omega, by omega, hk184⟩, (ha.mm R)⟩
 rintro _ w175 ⟨K176, s12, aj, ak, rfl, S177, f178, rfl⟩
 have h := hK173
 dsimp only [aft] at h
 refine Jp (Ja [2, 1, 2, 1, 1, 2, 1] R (Jf R (Jb2 U58 R Z22 R R) ?_))
 have f220 := f158.stp (S162.tr (S169.tr S177)) R R
 refine Jl tv R R R R (Jc2 I22 R R (hvE (f220.ld 0 R R))) (Jn 1 R (Jn1 (κ := K176) (E := (Ep.own E6 2)) 14 [11] (parts := [(0, .tmp 71)]) (cells := [.slice aj s12.length ak]) (xs := ([s12] : List (List Int))) R R R R R R Y22 Tryinfo24 R R R R R R R R R R ⟨[.slice aj s12.length ak], [], Zl K176 w175 [11], Zl K176 w175 [], R, Zl.sp (l1 := [11]) (l2 := []) R, Zl.sr (l1 := [11]) (l2 := []), ⟨_, _, R, f178⟩, R⟩ fun bl bj w221 K222 S223 f224 => ⟨tv, Ob h fun x73 hx73 h => Jm1 (κ := K222) (E := (Ep.own E6 2)) 10 [14] R R R R R R R R R Y22 Tryinfo24 R R R R (f157.stp (S162.tr (S169.tr (S177.tr S223))) R R) f224.src (sy_one R) hx73 R fun aV aI w226 K227 S228 f229 => ⟨tv, Jf R (Jb2 U58 R Z22 R R) (Ji1 (κ := K227) 9 (off := 0) (vc := [.slice aV x73.length aI]) (cs' := [.slice aV x73.length aI, .slice aa ([(⟨q2.2.1, q2.2.2⟩ : Pair)] : List Pair).length ab]) R R R R R R R Z22 R R (f220.stp (S223.tr S228) R R) R R fun w231 S232 f233 => ⟨tv, Jo (Jz (Jp (Ja [2, 2] R (Jc 2 R ?_))))⟩)⟩⟩))
 have hw146 : IntKind.wrap .i64 (v44 + 1) = v44 + 1 := wr1 hj146 (Jm2 hc146) hN146
 rw [hw146]
 have hc146 := Jm2 hc146
 cases h
 exact Jz1 fun a ha => ⟨k, _, Ja3 _, ⟨K227, v44 + 1, (x73 : (List (List Int))), aV, aI, R, (S156.tr (S162.tr (S169.tr (S177.tr (S223.tr (S228.tr S232)))))).wk R, (f229.stp S232 R R), f233, by omega, by omega, hk159⟩, (ha.mm R)⟩
 rintro _ w149 ⟨K150, s9, ai, ah, rfl, S151, f152, f153, rfl⟩
 have h := hK147
 dsimp only [aft] at h
 refine Jp (Je [1, 1] R (Jl tv R R R R (Jd2 (cs := [.slice ai s9.length ah, .slice aa ([(⟨q2.2.1, q2.2.2⟩ : Pair)] : List Pair).length ab]) I58 Z58 R R R (haE f153.cells)) (Jj1 (κ := K150) 4 (vc := [.slice ai s9.length ah, .slice aa ([(⟨q2.2.1, q2.2.2⟩ : Pair)] : List Pair).length ab]) R R R R R R R Z58 R R (f12.stp (S15.tr (S18.tr (S24.tr (S29.tr (S137.tr (S141.tr (S144.tr S151))))))) R R) R fun w236 S237 f238 => ⟨tv, Jd (Ju (Ja2 (l := [.cell 4 58]) V97 (res_cellA R f238 I58 Z58 R R) R ?_))⟩)))
 cases h
 exact ⟨(fun b => ren [(10, 2), (8, 3)] (K150 b)), ai, ah, aa, ab, R, ((hE.stp (S3.tr (S7.tr (S11.tr (S15.tr (S18.tr (S24.tr (S29.tr (S137.tr (S141.tr (S144.tr (S151.tr S237))))))))))) R R).map (ren [(10, 2), (8, 3)]) R R), ((f152.stp S237 R R).map (ren [(10, 2), (8, 3)]) R R), ((f138.stp (S141.tr (S144.tr (S151.tr S237))) R R).map (ren [(10, 2), (8, 3)]) R R)⟩
theorem i_loopsIn_ok {w : World} {κ : Col} {a0 u0} {p0 : (List (List Int))} {a1 u1} {p1 : (List Bool)} (g0 : Rd (Rp.sl (Rp.int .i64)) κ w 0 a0 u0 p0) (g1 : Rd Rp.bool κ w 0 a1 u1 p1) {r : (List (List Int))} (h : i_loopsIn p0 p1 = some r) : Ret Try.prog 60 [.slice a0 p0.length u0, .slice a1 p1.length u1] w (fun v w' => ∃ (κ' : Col) (ra0 : Option Addr) (ru0 : Nat), v = .slice ra0 r.length ru0 ∧ Ent κ w κ' w' ∧ Oc (Ep.fz (Rp.sl (Rp.int .i64))) 24 κ' w' 2 ra0 ru0 r) := by
 unfold i_loopsIn at h
 refine Ret.enter F60 R N60 R ?_
 dsimp only [envOf]
 have hE := Ent.refl κ w
 refine Je [1, 2] R (Jf1 (κ := κ) 2 R R R R R R R fun b3 w1 K2 S3 f4 => ⟨tv, Jb 1 R (Je [2, 2, 1, 2] R (Jn 1 R (Jf R (Je2 U22 R R) (Ob h fun x20 hx20 h => Jl1 (κ := K2) (E := (Ep.own E6 2)) (z := (([] : List Int) : (List Int))) 3 R R R R R R R Y22 Tryinfo24 R R R R R (fun _ _ _ => ⟨none, 0, R, Ow.nil⟩) (Ju2 hx20) fun ab aa w5 K6 S7 f8 => ⟨tv, Jb 1 R (Jq (Je [2, 2, 2] R (Jn 1 R (Jf R (Je2 U22 R R) (Jb 1 R ?_)))))⟩))))⟩)
 have hN9 : (p0.length : Int) ≤ 9223372036854775807 := g0.len_le
 refine Ob h fun q2 hq11 hK10 => ?_
 clear h
 refine Jx1 (fun L w' => ∃ κ', ∃ s3 : (List (List Int)), L = [(0, .slice a0 p0.length u0), (3, .pointer (some ⟨b3, 0, none⟩)), (5, .slice ab x20.length aa)] ∧ Stp [3, 5] K6 w5 κ' w' ∧ Oc (Ep.own E6 2) 24 κ' w' 3 ab aa s3 ∧ x20.length = s3.length ∧ q2 = Sum.inr s3) ?_ ?_
 refine Jv (Jy1 (fun k L w' => ∃ κ' v23, ∃ s1 : (List (List Int)), L = [(0, .slice a0 p0.length u0), (3, .pointer (some ⟨b3, 0, none⟩)), (5, .slice ab x20.length aa), (21, .slice a0 p0.length u0), (22, vi (p0.length : Int)), (23, vi v23)] ∧ Stp [3, 5] K6 w5 κ' w' ∧ Oc (Ep.own E6 2) 24 κ' w' 3 ab aa s1 ∧ x20.length = s1.length ∧ 0 ≤ v23 ∧ Int.toNat ((p0.length : Int) - v23) = k ∧ cntM (i_loopsIn_b0 p0 p1) k v23 s1 = some q2) ⟨_, _, ⟨K6, 0, (x20 : (List (List Int))), R, (Jx2 _ _).wk R, f8, R, (by decide), (by simp), hq11⟩, (KM R)⟩ ?_)
 rintro k _ w17 ⟨K18, v23, s1, rfl, S19, f20, hn21, hj9, hJ9, h⟩
 rcases k with _ | k
 have hk22 := h; obtain ⟨o9, h⟩ := ex_eq (Sum.inr (Sum.inl s1) : (List (List Int)) ⊕ (((List (List Int))) ⊕ ((List (List Int)))))
 have hc9 : decide (v23 < (p0.length : Int)) = false := Jo2 (by omega)
 refine Je [2] R (Jb 1 R (Jq (Jw2 R hc9 (Jc1 (Jt (Jt ?_))))))
 cases h
 have h := hk22
 refine Jb1 ?_
 cases h
 exact Jw1 _ ⟨K18, (s1 : (List (List Int))), R, S19.wk R, f20, hn21, R⟩ (KM R)
 obtain ⟨o9, h, hk22⟩ := BI h; unfold i_loopsIn_b0 at h
 have hc9 : decide (v23 < (p0.length : Int)) = true := Jn2 (by omega)
 refine Je [2] R (Jb 1 R (Jq (Jv2 R hc9 (Js (Jp (Jq (Jv (Je [2, 2, 1, 2, 2] R (Jn 1 R (Ob h fun x26 hx26 h => Jf R (Jf2 g0 hx26 U22 Z24 R R R R) ?_))))))))))
 obtain ⟨ax26, ux26, f24, hl25⟩ := (g0.stp (S3.tr (S7.tr S19)) R R).gSl hx26
 refine Jl tv R R R R (Jc2 I24 R R (hvE hl25)) (Jb 2 R (Je [2, 2, 2] R (Jn 1 R (Jf R (Je2 U24 R R) (Jb 1 R ?_)))))
 have hN26 : (x26.length : Int) ≤ 9223372036854775807 := f24.len_le
 refine Ob h fun q5 hq28 hK27 => ?_
 clear h
 refine Jx1 (fun L w' => ∃ κ', ∃ s6 : (List (List Int)), L = [(0, .slice a0 p0.length u0), (3, .pointer (some ⟨b3, 0, none⟩)), (5, .slice ab x20.length aa), (21, .slice a0 p0.length u0), (22, vi (p0.length : Int)), (23, vi v23)] ∧ Stp [3, 5] K18 w17 κ' w' ∧ Oc (Ep.own E6 2) 24 κ' w' 3 ab aa s6 ∧ x20.length = s6.length ∧ q5 = Sum.inr s6) ?_ ?_
 refine Jv (Jy1 (fun k L w' => ∃ κ' v30, ∃ s4 : (List (List Int)), L = [(0, .slice a0 p0.length u0), (3, .pointer (some ⟨b3, 0, none⟩)), (5, .slice ab x20.length aa), (6, vi v23), (21, .slice a0 p0.length u0), (22, vi (p0.length : Int)), (23, vi v23), (28, .slice ax26 x26.length ux26), (29, vi (x26.length : Int)), (30, vi v30)] ∧ Stp [3, 5] K18 w17 κ' w' ∧ Oc (Ep.own E6 2) 24 κ' w' 3 ab aa s4 ∧ x20.length = s4.length ∧ 0 ≤ v30 ∧ Int.toNat ((x26.length : Int) - v30) = k ∧ cntM (i_loopsIn_b2 p1 v23 x26) k v30 s4 = some q5) ⟨_, _, ⟨K18, 0, (s1 : (List (List Int))), R, (Jx2 _ _).wk R, f20, hn21, (by decide), (by simp), hq28⟩, (KM R)⟩ ?_)
 rintro k _ w34 ⟨K35, v30, s4, rfl, S36, f37, hn38, hj26, hJ26, h⟩
 rcases k with _ | k
 have hk39 := h; obtain ⟨o26, h⟩ := ex_eq (Sum.inr (Sum.inl s4) : (List (List Int)) ⊕ (((List (List Int))) ⊕ ((List (List Int)))))
 have hc26 : decide (v30 < (x26.length : Int)) = false := Jo2 (by omega)
 refine Je [2] R (Jb 1 R (Jq (Jw2 R hc26 (Jc1 (Jt (Jt ?_))))))
 cases h
 have h := hk39
 refine Jb1 ?_
 cases h
 exact Jw1 _ ⟨K35, (s4 : (List (List Int))), R, S36.wk R, f37, hn38, R⟩ (KM R)
 obtain ⟨o26, h, hk39⟩ := BI h; unfold i_loopsIn_b2 at h
 have hc26 : decide (v30 < (x26.length : Int)) = true := Jn2 (by omega)
 refine Je [2] R (Jb 1 R (Jq (Jv2 R hc26 (Js (Jp (Jq (Jv (Je [2, 1, 2] R (Ob h fun x32 hx32 h => Jf R (Jf2 f24 hx32 U24 Z2 R R R R) (Jl tv R R R R (Jc2 I2 R R (hvE ((f24.stp S36 R R).gInt hx32))) (Jb 1 R (Je [1, 2, 2, 1, 2, 1, 2, 2, 1, 2] R ?_))))))))))))
 have f41 := f4.stp (S7.tr (S19.tr S36)) R R
 refine Jl tv R R R R (Jc2 I98 R R (hvE (f41.ld 0 R R))) (Jn 1 R (Ob h fun x36 hx36 h => Jf R (Jf2 g1 hx36 U98 Z4 R R R R) ?_))
 have f42 := g1.stp (S3.tr (S7.tr (S19.tr S36))) R R
 refine Jl tv R R R R (Jc2 I4 R R (hvE (f42.gBool hx36))) (Jn 1 R (Ob h fun p43 h hK43 => Ju1 [(5, 1), (6, 2), (7, 2), (8, 1), (9, 2)] [] (fun L w' => L = [(0, .slice a0 p0.length u0), (3, .pointer (some ⟨b3, 0, none⟩)), (5, .slice ab x20.length aa), (6, vi v23), (9, vi x32), (21, .slice a0 p0.length u0), (22, vi (p0.length : Int)), (23, vi v23), (28, .slice ax26 x26.length ux26), (29, vi (x26.length : Int)), (30, vi v30), (43, .bool p43)] ∧ ∃ κ', Stp [] K35 w34 κ' w') tv ?_ ?_))
 revert h
 cases ht44 : x36
 refine JF fun h => Jd1 R R R R (Jn 2 R (Jd1 R R R R (Jn 1 R ?_)))
 cases h
 exact Jv1 _ tv ⟨R, _, (Jx2 _ _).wk R⟩ (KM R)
 refine JT fun h => Jl tv R R R R (Jc2 I98 R R (hvE (f41.ld 0 R R))) (Jn 1 R (Ob h fun x41 hx41 h => Jf R (Jf2 f42 hx41 U98 Z4 R R R R) (Jl tv R R R R (Jc2 I4 R R (hvE (f42.gBool hx41))) (Jn 1 R ?_))))
 cases h
 exact Jv1 _ tv ⟨R, _, (Jx2 _ _).wk R⟩ (KM R)
 rintro _ w45 _ ⟨rfl, K46, S47⟩
 have h := hK43
 refine Jd (Ob h fun q7 h hK48 => Jx1 (fun L w' => ∃ κ', L = [(0, .slice a0 p0.length u0), (3, .pointer (some ⟨b3, 0, none⟩)), (5, .slice ab x20.length aa), (6, vi v23), (21, .slice a0 p0.length u0), (22, vi (p0.length : Int)), (23, vi v23), (28, .slice ax26 x26.length ux26), (29, vi (x26.length : Int)), (30, vi v30)] ∧ Stp [3, 5] K46 w45 κ' w' ∧ Oc (Ep.own E6 2) 24 κ' w' 3 ab aa q7 ∧ x20.length = q7.length) ?_ ?_)
 revert h
 cases ht54 : p43
 refine JF fun h => Jy R (Js ?_)
 cases h
 exact Jw1 _ ⟨K46, R, (Jx2 _ _).wk R, (f37.stp S47 R R), hn38⟩ (KM R)
 refine JT fun h => Jx R (Ja [2, 2, 2, 2, 2, 1, 2, 1, 1, 2, 1] R (Jn 4 R (Ob h fun x48 hx48 h => Jf R (Jf2 f37.rdc hx48 U22 Z24 R R hn38 R) ?_)))
 have f55 := f37.stp S47 R R
 obtain ⟨ax48, ux48, f56, hl57⟩ := f55.rdc.gSl hx48
 refine Jl tv R R R R (Jc2 I24 R R (hvE hl57)) (Jn 1 R (Jn1 (κ := K46) (E := E6) 4 [] (parts := [(0, .tmp 50)]) (cells := [vi v23]) (xs := ([v23] : List Int)) R R R R R R Y24 Tryinfo2 R R R R R R R R R R ⟨[vi v23], [], Zl K46 w45 [], Zl K46 w45 [], R, Zl.sp (l1 := []) (l2 := []) R, Zl.sr (l1 := []) (l2 := []), R, R⟩ fun aL aM w58 K59 S60 f61 => ⟨tv, ?_⟩))
 have f62 := f55.stp S60 R R
 obtain ⟨K63, S64, f65, f66⟩ := f62.borrow hx48 (hl57 _ (Stp.ag S60 R)) 5 R R
 refine Ob h fun x52 hx52 h => Jm1 (κ := K63) (E := E6) 5 [] R R R R R R R R R Y24 Tryinfo2 R R R R f65 (Sl.srcP (pu_int _) (f61.stp S64 R R).rdc) sy_false hx52 R fun aI aK w68 K69 S70 f71 => ⟨tv, Ob h fun x53 hx53 h => Jf R (Jf2 f62.rdc hx53 U22 Z24 R R hn38 R) (Ob h fun y107 hy107 h => WO.stH (κ := K69) (E := (Ep.own E6 2)) 3 [5] R R R R R R R R Z24 R ⟨_, _, R, f71⟩ R R (f66.stp S70 R R) hy107 fun w73 K74 S75 f76 => ⟨tv, ?_⟩)⟩
 have hn77 : x20.length = y107.length := hn38.trans (Jt2 hy107).2.2.2.symm
 refine Jo ?_
 cases h
 exact Jw1 _ ⟨K74, R, (S60.tr (S64.tr (S70.tr S75))).wk R, f76, hn77⟩ (KM R)
 rintro _ w49 ⟨K50, rfl, S51, f52, hn53⟩
 have h := hK48
 refine Jz (Jp (Ja [2, 2] R (Jc 2 R ?_)))
 have hw26 : IntKind.wrap .i64 (v30 + 1) = v30 + 1 := wr1 hj26 (Jm2 hc26) hN26
 rw [hw26]
 have hc26 := Jm2 hc26
 cases h
 exact Jz1 fun a ha => ⟨k, _, Ja3 _, ⟨K50, v30 + 1, (q7 : (List (List Int))), R, (S36.tr (S47.tr S51)).wk R, f52, hn53, by omega, by omega, hk39⟩, (ha.mm R)⟩
 rintro _ w29 ⟨K30, s6, rfl, S31, f32, hn33, rfl⟩
 have h := hK27
 dsimp only [aft] at h
 refine Jz (Jp (Ja [2, 2] R (Jc 2 R ?_)))
 have hw9 : IntKind.wrap .i64 (v23 + 1) = v23 + 1 := wr1 hj9 (Jm2 hc9) hN9
 rw [hw9]
 have hc9 := Jm2 hc9
 cases h
 exact Jz1 fun a ha => ⟨k, _, Ja3 _, ⟨K30, v23 + 1, (s6 : (List (List Int))), R, (S19.tr S31).wk R, f32, hn33, by omega, by omega, hk22⟩, (ha.mm R)⟩
 rintro _ w12 ⟨K13, s3, rfl, S14, f15, hn16, rfl⟩
 have h := hK10
 dsimp only [aft] at h
 refine Jp (Je [2, 2, 1, 1, 1] R (Jn 1 R (Jf R (Je2 U22 R R) (Ob h fun x58 hx58 h => Jl1 (κ := K13) (E := Ep.bool) (z := (false : Bool)) 4 R R R R R R R Y98 Tryinfo4 R R R R R (fun _ _ _ => R) (Ju2 hx58) fun am aj w79 K80 S81 f82 => ⟨tv, Jg1 (κ := K80) 5 R R R R R X98 R fun b10 w83 K84 S85 f86 => ⟨tv, Jj1 (κ := K84) 5 (vc := [.slice am x58.length aj]) R R R R R R R Z98 R R f86 R fun w87 S88 f89 => ⟨tv, Jd (Je [1, 1, 1] R (Jo1 (κ := K84) (E := E6) 6 R R R R R Y24 Tryinfo2 R fun ax ay w90 K91 S92 f93 => ⟨tv, Jg1 (κ := K91) 7 R R R R R X24 R fun b11 w94 K95 S96 f97 => ⟨tv, Jj1 (κ := K95) 7 (vc := [.slice ax ([] : List Int).length ay]) R R R R R R R Z24 R R f97 R fun w98 S99 f100 => ⟨tv, Jd (Je [1] R (Jg1 (κ := K95) 8 R R R R R X118 R fun b12 w101 K102 S103 f104 => ⟨tv, Jd (Je [2, 1] R (Jf R (rn_makeFunc (first := []) (captured := [.tmp 10, .tmp 3, .tmp 12]) R R R ⟨_, R⟩) (Jj1 (κ := K102) 8 (vc := [.func (.func 84) #[] #[.pointer (some ⟨b10, 0, none⟩), .pointer (some ⟨b3, 0, none⟩), .pointer (some ⟨b12, 0, none⟩)]]) R R R R R R R Z118 R R f104 R fun w105 S106 f107 => ⟨tv, Jd (Jq (Je [2, 2, 2] R (Jn 1 R (Jf R (Je2 U22 R R) (Jb 1 R ?_)))))⟩)))⟩))⟩⟩⟩))⟩⟩⟩))))
 have hN108 : (p0.length : Int) ≤ 9223372036854775807 := g0.len_le
 refine Ob h fun q9 hq110 hK109 => ?_
 clear h
 refine Jx1 (fun L w' => ∃ κ', ∃ s10 : (List Int) × (List Bool), ∃ au ar, L = [(0, .slice a0 p0.length u0), (5, .slice ab x20.length aa), (10, .pointer (some ⟨b10, 0, none⟩)), (11, .pointer (some ⟨b11, 0, none⟩)), (12, .pointer (some ⟨b12, 0, none⟩))] ∧ Stp [4, 6, 7, 11, 12, 13] K102 w105 κ' w' ∧ Oc E6 2 κ' w' 6 au ar s10.1 ∧ Oc Ep.bool 4 κ' w' 4 am aj s10.2 ∧ x58.length = s10.2.length ∧ Bc κ' w' 7 b11 24 [.slice au s10.1.length ar] ∧ q9 = Sum.inr s10) ?_ ?_
 refine Jv (Jy1 (fun k L w' => ∃ κ' v63, ∃ s8 : (List Int) × (List Bool), ∃ af ae, L = [(0, .slice a0 p0.length u0), (3, .pointer (some ⟨b3, 0, none⟩)), (5, .slice ab x20.length aa), (10, .pointer (some ⟨b10, 0, none⟩)), (11, .pointer (some ⟨b11, 0, none⟩)), (12, .pointer (some ⟨b12, 0, none⟩)), (62, vi (p0.length : Int)), (63, vi v63)] ∧ Stp [4, 6, 7, 11, 12, 13] K102 w105 κ' w' ∧ Oc E6 2 κ' w' 6 af ae s8.1 ∧ Oc Ep.bool 4 κ' w' 4 am aj s8.2 ∧ x58.length = s8.2.length ∧ Bc κ' w' 7 b11 24 [.slice af s8.1.length ae] ∧ 0 ≤ v63 ∧ Int.toNat ((p0.length : Int) - v63) = k ∧ cntM (i_loopsIn_b4 p0 p1) k v63 s8 = some q9) ⟨_, _, ⟨K102, 0, ((([] : List Int) : (List Int)), (x58 : (List Bool))), ax, ay, R, (Jx2 _ _).wk R, (f93.stp (S96.tr (S99.tr (S103.tr S106))) R R), (f82.stp (S85.tr (S88.tr (S92.tr (S96.tr (S99.tr (S103.tr S106)))))) R R), R, (f100.stp (S103.tr S106) R R), (by decide), (by simp), hq110⟩, (KM R)⟩ ?_)
 rintro k _ w118 ⟨K119, v63, s8, af, ae, rfl, S120, f121, f122, hn123, f124, hj108, hJ108, h⟩
 rcases k with _ | k
 have hk128 := h; obtain ⟨o108, h⟩ := ex_eq (Sum.inr (Sum.inl s8) : (List (List Int)) ⊕ (((List Int) × (List Bool)) ⊕ ((List Int) × (List Bool))))
 have hc108 : decide (v63 < (p0.length : Int)) = false := Jo2 (by omega)
 refine Je [2] R (Jb 1 R (Jq (Jw2 R hc108 (Jc1 (Jt (Jt ?_))))))
 cases h
 have h := hk128
 refine Jb1 ?_
 cases h
 exact Jw1 _ ⟨K119, ((s8.1 : (List Int)), (s8.2 : (List Bool))), af, ae, R, S120.wk R, f121, f122, hn123, f124, R⟩ (KM R)
 obtain ⟨o108, h, hk128⟩ := BI h; unfold i_loopsIn_b4 at h
 have hc108 : decide (v63 < (p0.length : Int)) = true := Jn2 (by omega)
 refine Je [2] R (Jb 1 R (Jq (Jv2 R hc108 (Js (Jp (Jq (Jv (Je [2, 2] R (Jb 2 R (Je [1, 2, 2, 1, 2, 1, 2, 2, 1, 2, 2] R ?_))))))))))
 have f129 := f4.stp (S7.tr (S14.tr (S81.tr (S85.tr (S88.tr (S92.tr (S96.tr (S99.tr (S103.tr (S106.tr S120)))))))))) R R
 refine Jl tv R R R R (Jc2 I98 R R (hvE (f129.ld 0 R R))) (Jn 1 R (Ob h fun x68 hx68 h => Jf R (Jf2 g1 hx68 U98 Z4 R R R R) ?_))
 have f130 := g1.stp (S3.tr (S7.tr (S14.tr (S81.tr (S85.tr (S88.tr (S92.tr (S96.tr (S99.tr (S103.tr (S106.tr S120))))))))))) R R
 refine Jl tv R R R R (Jc2 I4 R R (hvE (f130.gBool hx68))) (Jn 1 R (Ob h fun p76 h hK131 => Ju1 [(5, 1), (6, 2), (7, 2), (8, 1), (9, 2), (10, 2)] [] (fun L w' => L = [(0, .slice a0 p0.length u0), (3, .pointer (some ⟨b3, 0, none⟩)), (5, .slice ab x20.length aa), (10, .pointer (some ⟨b10, 0, none⟩)), (11, .pointer (some ⟨b11, 0, none⟩)), (12, .pointer (some ⟨b12, 0, none⟩)), (13, vi v63), (62, vi (p0.length : Int)), (63, vi v63), (76, .bool p76)] ∧ ∃ κ', Stp [] K119 w118 κ' w') tv ?_ ?_))
 revert h
 cases ht132 : x68
 refine JF fun h => Jd1 R R R R (Jn 2 R (Jd1 R R R R (Jn 2 R ?_)))
 cases h
 exact Jv1 _ tv ⟨R, _, (Jx2 _ _).wk R⟩ (KM R)
 refine JT fun h => Jl tv R R R R (Jc2 I98 R R (hvE ((f89.stp (S92.tr (S96.tr (S99.tr (S103.tr (S106.tr S120))))) R R).ld 0 R R))) (Jn 1 R (Ob h fun x73 hx73 h => Jf R (Jf2 f122.rdc hx73 U98 Z4 R R hn123 R) (Jl tv R R R R (Jc2 I4 R R (hvE (f122.rdc.gBool hx73))) (Jn 2 R ?_))))
 cases h
 exact Jv1 _ tv ⟨R, _, (Jx2 _ _).wk R⟩ (KM R)
 rintro _ w134 _ ⟨rfl, K135, S136⟩
 have h := hK131
 refine Jd (Ob h fun q11 h hK137 => Jx1 (fun L w' => ∃ κ' al ak, L = [(0, .slice a0 p0.length u0), (3, .pointer (some ⟨b3, 0, none⟩)), (5, .slice ab x20.length aa), (10, .pointer (some ⟨b10, 0, none⟩)), (11, .pointer (some ⟨b11, 0, none⟩)), (12, .pointer (some ⟨b12, 0, none⟩)), (62, vi (p0.length : Int)), (63, vi v63)] ∧ Stp [4, 6, 7, 11, 12, 13] K135 w134 κ' w' ∧ Oc E6 2 κ' w' 6 al ak q11.1 ∧ Oc Ep.bool 4 κ' w' 4 am aj q11.2 ∧ x58.length = q11.2.length ∧ Bc κ' w' 7 b11 24 [.slice al q11.1.length ak]) ?_ ?_)
 revert h
 cases ht145 : p76
 refine JF fun h => Jy R (Js ?_)
 cases h
 exact Jw1 _ ⟨K135, af, ae, R, (Jx2 _ _).wk R, (f121.stp S136 R R), (f122.stp S136 R R), hn123, (f124.stp S136 R R)⟩ (KM R)
 refine JT fun h => Jx R (Ja [1, 2, 2, 2, 1] R ?_)
 have f146 := f107.stp (S120.tr S136) R R
 refine Jl tv R R R R (Jc2 I118 R R (hvE (f146.ld 0 R R))) (Jn 2 R (Jf R (rn_makeFunc (first := []) (captured := [.tmp 11]) R R R ⟨_, R⟩) (Ob h fun x81 hx81 h => WO.callV R R R R R R R R C84 (i_loopsIn_1__i_loopsIn_2__i_loopsIn_1_ok _ (κ := fun b => mp [(6, 2), (4, 3), (7, 4)] 0 (K135 b)) (Jl2 (g0.stp (S3.tr (S7.tr (S14.tr (S81.tr (S85.tr (S88.tr (S92.tr (S96.tr (S99.tr (S103.tr (S106.tr (S120.tr S136)))))))))))) R R) (mp [(6, 2), (4, 3), (7, 4)] 0) R R) ((f121.stp S136 R R).map (mp [(6, 2), (4, 3), (7, 4)] 0) R R) ((f122.stp S136 R R).map (mp [(6, 2), (4, 3), (7, 4)] 0) R R) (Jl2 (f130.stp S136 R R) (mp [(6, 2), (4, 3), (7, 4)] 0) R R) ((f124.stp S136 R R).map (mp [(6, 2), (4, 3), (7, 4)] 0) R R) (Bc.cast ((f89.stp (S92.tr (S96.tr (S99.tr (S103.tr (S106.tr (S120.tr S136)))))) R R).map (mp [(6, 2), (4, 3), (7, 4)] 0) R R) (by simp only [hn123])) ((f129.stp S136 R R).map (mp [(6, 2), (4, 3), (7, 4)] 0) R R) (f146.map (mp [(6, 2), (4, 3), (7, 4)] 0) R R) hx81) ?_)))
 rintro _ w154 ⟨k155, aA, aB, rfl, e156, f157, f158, hn159, f160⟩
 obtain ⟨K161, S162, m163⟩ := Ji e156 9 R
 refine ⟨tv, Jo ?_⟩
 cases h
 exact Jw1 _ ⟨(fun b => ren [(11, 6), (12, 4), (13, 7)] (K161 b)), aA, aB, R, (Jy2 (S162.wk R) [(11, 6), (12, 4), (13, 7)] R), ((f157.mx (no_int _) m163 R (R : 9 + 2 = 11)).map (ren [(11, 6), (12, 4), (13, 7)]) R R), ((f158.mx no_bool m163 R (R : 9 + 3 = 12)).map (ren [(11, 6), (12, 4), (13, 7)]) R R), (hn123.trans hn159), ((f160.mx m163 R (R : 9 + 4 = 13)).map (ren [(11, 6), (12, 4), (13, 7)]) R R)⟩ (KM R)
 rintro _ w138 ⟨K139, al, ak, rfl, S140, f141, f142, hn143, f144⟩
 have h := hK137
 refine Jz (Jp (Ja [2, 2] R (Jc 2 R ?_)))
 have hw108 : IntKind.wrap .i64 (v63 + 1) = v63 + 1 := wr1 hj108 (Jm2 hc108) hN108
 rw [hw108]
 have hc108 := Jm2 hc108
 cases h
 exact Jz1 fun a ha => ⟨k, _, Ja3 _, ⟨K139, v63 + 1, ((q11.1 : (List Int)), (q11.2 : (List Bool))), al, ak, R, (S120.tr (S136.tr S140)).wk R, f141, f142, hn143, f144, by omega, by omega, hk128⟩, (ha.mm R)⟩
 rintro _ w111 ⟨K112, s10, au, ar, rfl, S113, f114, f115, hn116, f117, rfl⟩
 have h := hK109
 dsimp only [aft] at h
 refine Jp (Je [2, 2, 1, 1] R (Jn 1 R (Jf R (Je2 U22 R R) (Ob h fun x85 hx85 h => Jl1 (κ := K112) (E := Ep.bool) (z := (false : Bool)) 9 R R R R R R R Y98 Tryinfo4 R R R R R (fun _ _ _ => R) (Ju2 hx85) fun av aw w171 K172 S173 f174 => ⟨tv, Jj1 (κ := K172) 5 (vc := [.slice av x85.length aw]) R R R R R R R Z98 R R (f89.stp (S92.tr (S96.tr (S99.tr (S103.tr (S106.tr (S113.tr S173)))))) R R) R fun w176 S177 f178 => ⟨tv, Jd (Je [1, 2] R (Jo1 (κ := K172) (E := (Ep.fz (Rp.sl (Rp.int .i64)))) 10 R R R R R Y22 Tryinfo24 R fun aD az w179 K180 S181 f182 => ⟨tv, Jb 1 R (Jq (Je [1, 2, 2, 2] R ?_))⟩))⟩⟩))))
 have f183 := f117.stp (S173.tr (S177.tr S181)) R R
 refine Jl tv R R R R (Jc2 I24 R R (hvE (f183.ld 0 R R))) (Jf R (Je2 U24 R R) (Jb 2 R (Ob h fun q13 hq186 hK185 => ?_)))
 clear h
 refine Jx1 (fun L w' => ∃ κ', ∃ s14 : (List (List Int)) × Int × (List Bool), ∃ an ai, L = [(14, .slice an s14.1.length ai)] ∧ Stp [9, 10, 11, 12, 15, 16, 20, 21] K180 w179 κ' w' ∧ Oc (Ep.fz (Rp.sl (Rp.int .i64))) 24 κ' w' 10 an ai s14.1 ∧ Oc Ep.bool 4 κ' w' 9 av aw s14.2.2 ∧ x85.length = s14.2.2.length ∧ q13 = Sum.inr s14) ?_ ?_
 refine Jv (Jy1 (fun k L w' => ∃ κ', ∃ s12 : (List (List Int)) × Int × (List Bool), ∃ ac ad, L = [(0, .slice a0 p0.length u0), (5, .slice ab x20.length aa), (10, .pointer (some ⟨b10, 0, none⟩)), (11, .pointer (some ⟨b11, 0, none⟩)), (12, .pointer (some ⟨b12, 0, none⟩)), (14, .slice ac s12.1.length ad), (15, vi s12.2.1)] ∧ Stp [9, 10, 11, 12, 15, 16, 20, 21] K180 w179 κ' w' ∧ Oc (Ep.fz (Rp.sl (Rp.int .i64))) 24 κ' w' 10 ac ad s12.1 ∧ Oc Ep.bool 4 κ' w' 9 av aw s12.2.2 ∧ x85.length = s12.2.2.length ∧ whileM (i_loopsIn_b6 p0 p1 s3 s10) k s12 = some q13) ⟨_, _, ⟨K180, ((([] : List (List Int)) : (List (List Int))), ((IntKind.i64.wrap ((s10.1.length : Int) - 1)) : Int), (x85 : (List Bool))), aD, az, R, (Jx2 _ _).wk R, f182, (f174.stp (S177.tr S181) R R), R, hq186⟩, (KM R)⟩ ?_)
 rintro k _ w193 ⟨K194, s12, ac, ad, rfl, S195, f196, f197, hn198, h⟩
 rcases k with _ | k
 cases h
 obtain ⟨o184, h, hk200⟩ := BI h; unfold i_loopsIn_b6 at h
 refine Jq (Je [2, 2] R (Jb 2 R ?_))
 revert h
 cases ht201 : decide (0 ≤ s12.2.1)
 refine JF fun h => Jy R (Jc1 (Jt (Jt ?_)))
 cases h
 have h := hk200
 refine Jb1 ?_
 cases h
 exact Jw1 _ ⟨K194, ((s12.1 : (List (List Int))), (s12.2.1 : Int), (s12.2.2 : (List Bool))), ac, ad, R, S195.wk R, f196, f197, hn198, R⟩ (KM R)
 refine JT fun h => Jx R (Js (Jp (Jq (Jv (Je [1, 2, 2, 1, 2] R (Jl tv R R R R (Jc2 I24 R R (hvE ((f183.stp S195 R R).ld 0 R R))) (Jn 1 R (Ob h fun x96 hx96 h => Jf R (Jf2 f114.rdc hx96 U24 Z2 R R R R) (Jl tv R R R R (Jc2 I2 R R (hvE ((f114.stp (S173.tr (S177.tr (S181.tr S195))) R R).rdc.gInt hx96))) (Jb 1 R (Jq (Je [1, 2, 2, 1] R ?_))))))))))))
 have f204 := f178.stp (S181.tr S195) R R
 refine Jl tv R R R R (Jc2 I98 R R (hvE (f204.ld 0 R R))) (Jn 1 R (Ob h fun x100 hx100 h => Jf R (Jf2 f197.rdc hx100 U98 Z4 R R hn198 R) (Jl tv R R R R (Jc2 I4 R R (hvE (f197.rdc.gBool hx100))) (Jd ?_))))
 revert h
 cases ht205 : x100
 refine JF fun h => Jy R (Js (Jp (Je [1, 1, 1] R (Jo1 (κ := K194) (E := E6) 11 R R R R R Y24 Tryinfo2 R fun aC aF w206 K207 S208 f209 => ⟨tv, Jg1 (κ := K207) 12 R R R R R X24 R fun b17 w210 K211 S212 f213 => ⟨tv, Jj1 (κ := K211) 12 (vc := [.slice aC ([] : List Int).length aF]) R R R R R R R Z24 R R f213 R fun w214 S215 f216 => ⟨tv, Jd (Je [1, 2, 2, 2, 1] R ?_)⟩⟩⟩))))
 have f217 := f107.stp (S113.tr (S173.tr (S177.tr (S181.tr (S195.tr (S208.tr (S212.tr S215))))))) R R
 have S001 := (S208.tr (S212.tr S215))
 refine Jl tv R R R R (Jc2 I118 R R (hvE (f217.ld 0 R R))) (Jn 2 R (Jf R (rn_makeFunc (first := []) (captured := [.tmp 17]) R R R ⟨_, R⟩) (Ob h fun x107 hx107 h => WO.callV R R R R R R R R C84 (Ret.cast (by simp only [hn16, List.cons_append, List.nil_append]) (i_loopsIn_1__i_loopsIn_3__i_loopsIn_1_ok _ (κ := fun b => mp [(11, 2), (9, 3), (12, 4)] 0 (K211 b)) (Jl2 (f15.stp (S81.tr (S85.tr (S88.tr (S92.tr (S96.tr (S99.tr (S103.tr (S106.tr (S113.tr (S173.tr (S177.tr (S181.tr (S195.tr (S208.tr (S212.tr S215))))))))))))))) R R).rdc (mp [(11, 2), (9, 3), (12, 4)] 0) R R) ((f209.stp (S212.tr S215) R R).map (mp [(11, 2), (9, 3), (12, 4)] 0) R R) ((f197.stp S001 R R).map (mp [(11, 2), (9, 3), (12, 4)] 0) R R) (Jl2 (g1.stp (S3.tr (S7.tr (S14.tr (S81.tr (S85.tr (S88.tr (S92.tr (S96.tr (S99.tr (S103.tr (S106.tr (S113.tr (S173.tr (S177.tr (S181.tr (S195.tr (S208.tr (S212.tr S215)))))))))))))))))) R R) (mp [(11, 2), (9, 3), (12, 4)] 0) R R) (f216.map (mp [(11, 2), (9, 3), (12, 4)] 0) R R) (Bc.cast ((f204.stp S001 R R).map (mp [(11, 2), (9, 3), (12, 4)] 0) R R) (by simp only [hn198])) ((f4.stp (S7.tr (S14.tr (S81.tr (S85.tr (S88.tr (S92.tr (S96.tr (S99.tr (S103.tr (S106.tr (S113.tr (S173.tr (S177.tr (S181.tr (S195.tr (S208.tr (S212.tr S215))))))))))))))))) R R).map (mp [(11, 2), (9, 3), (12, 4)] 0) R R) (f217.map (mp [(11, 2), (9, 3), (12, 4)] 0) R R) hx107)) ?_)))
 rintro _ w224 ⟨k225, aq, ap, rfl, e226, f227, f228, hn229, f230⟩
 obtain ⟨K231, S232, m233⟩ := Ji e226 13 R
 refine ⟨tv, ?_⟩
 have f237 := f230.mx m233 R (R : 13 + 4 = 17)
 refine Jd (Je [1, 1] R (Jl tv R R R R (Jc2 I24 R R (hvE (f237.ld 0 R R))) (Ob h fun x109 hx109 h => Jh R R R C87 (slices_Sort_I_int64_ok (κ := fun b => mp [(15, 2)] 0 (K231 b)) ((f227.mx (no_int _) m233 R (R : 13 + 2 = 15)).map (mp [(15, 2)] 0) R R) hx109) ?_)))
 rintro _ w238 ⟨k239, rfl, e240, f241, hn242⟩
 obtain ⟨K243, S244, m245⟩ := Ji e240 18 R
 refine ⟨tv, Jd (Je [1, 2, 2, 2, 2, 2, 2, 1, 2, 1, 2] R ?_)⟩
 have f248 := f237.stp S244 R R
 refine Jl tv R R R R (Jc2 I24 R R (hvE (f248.ld 0 R R))) (Jf R (Je2 U24 R R) (Jn 2 R (Ob h fun p120 h hK249 => Ju1 [(4, 2), (5, 2), (6, 2), (7, 1), (8, 2), (9, 1), (10, 2)] [] (fun L w' => L = [(0, .slice a0 p0.length u0), (5, .slice ab x20.length aa), (10, .pointer (some ⟨b10, 0, none⟩)), (11, .pointer (some ⟨b11, 0, none⟩)), (12, .pointer (some ⟨b12, 0, none⟩)), (14, .slice ac s12.1.length ad), (15, vi s12.2.1), (17, .pointer (some ⟨b17, 0, none⟩)), (120, .bool p120)] ∧ ∃ κ', Stp [] K243 w238 κ' w') tv ?_ ?_)))
 revert h
 cases ht250 : decide (1 < (x107.1.length : Int))
 refine JF fun h => Jn 2 R (Ob h fun x116 hx116 h => Jf R (Jf2 g0 hx116 U22 Z24 R R R R) ?_)
 obtain ⟨ax116, ux116, f252, hl253⟩ := (g0.stp (S3.tr (S7.tr (S14.tr (S81.tr (S85.tr (S88.tr (S92.tr (S96.tr (S99.tr (S103.tr (S106.tr (S113.tr (S173.tr (S177.tr (S181.tr (S195.tr (S208.tr (S212.tr (S215.tr (S232.tr S244)))))))))))))))))))) R R).gSl hx116
 refine Jl tv R R R R (Jc2 I24 R R (hvE hl253)) (Jn 1 R (Ob h fun x119 hx119 h => Jh R R R C72 (slices_Contains_I_int64_ok (κ := fun b => mp [] 0 (K243 b)) (Jl2 f252 (mp [] 0) R R) hx119) ?_))
 rintro _ w254 ⟨k255, rfl, e256⟩
 obtain ⟨K257, S258, m259⟩ := Ji e256 21 R
 refine ⟨tv, Jn 1 R ?_⟩
 cases h
 exact Jv1 _ tv ⟨R, _, S258.wk R⟩ (KM R)
 refine JT fun h => Jn 3 R (Jd1 R R R R (Jn 1 R (Jd1 R R R R (Jn 1 R ?_))))
 cases h
 exact Jv1 _ tv ⟨R, _, (Jx2 _ _).wk R⟩ (KM R)
 rintro _ w261 _ ⟨rfl, K262, S263⟩
 have h := hK249
 refine Jd (Ob h fun q15 h hK264 => Jx1 (fun L w' => ∃ κ' ao ah, L = [(0, .slice a0 p0.length u0), (5, .slice ab x20.length aa), (10, .pointer (some ⟨b10, 0, none⟩)), (11, .pointer (some ⟨b11, 0, none⟩)), (12, .pointer (some ⟨b12, 0, none⟩)), (14, .slice ao q15.length ah), (15, vi s12.2.1)] ∧ Stp [10, 20, 21] K262 w261 κ' w' ∧ Oc (Ep.fz (Rp.sl (Rp.int .i64))) 24 κ' w' 10 ao ah q15) ?_ ?_)
 revert h
 cases ht269 : p120
 refine JF fun h => Jy R (Js ?_)
 cases h
 exact Jw1 _ ⟨K262, ac, ad, R, (Jx2 _ _).wk R, (f196.stp (S208.tr (S212.tr (S215.tr (S232.tr (S244.tr S263))))) R R)⟩ (KM R)
 refine JT fun h => Jx R (Ja [2, 1, 1, 1, 2] R (Jn 1 R (Jl tv R R R R (Jc2 I24 R R (hvE ((f248.stp S263 R R).ld 0 R R))) ?_)))
 obtain ⟨K272, S273, z274⟩ := fz_ex K262 w261 20
 refine Jn1 (κ := K272) (E := (Ep.fz (Rp.sl (Rp.int .i64)))) 21 [] (parts := [(0, .tmp 122)]) (cells := [.slice aq x107.1.length ap]) (xs := ([x109] : List (List Int))) R R R R R R Y22 Tryinfo24 R R R R R R R R R R ⟨[.slice aq x107.1.length ap], [], Zl K272 w261 [], Zl K272 w261 [], R, Zl.sp (l1 := []) (l2 := []) R, Zl.sr (l1 := []) (l2 := []), ⟨_, _, (congrArg (fun n => [Value.slice aq n ap]) (hn242)), (Sl.z1 (Sl.st z274 ((f241.mx (no_int _) m245 R (R : 18 + 2 = 20)).stp S263 R R).rdc))⟩, R⟩ fun aH aJ w276 K277 S278 f279 => ⟨tv, Ob h fun x124 hx124 h => Jm1 (κ := K277) (E := (Ep.fz (Rp.sl (Rp.int .i64)))) 10 [21] R R R R R R R R R Y22 Tryinfo24 R R R R (f196.stp (S208.tr (S212.tr (S215.tr (S232.tr (S244.tr (S263.tr (S273.tr S278))))))) R R) f279.src (sy_one R) hx124 R fun aE aG w281 K282 S283 f284 => ⟨tv, Jc 1 R ?_⟩⟩
 cases h
 exact Jw1 _ ⟨K282, aE, aG, R, (S273.tr (S278.tr S283)).wk R, f284⟩ (KM R)
 rintro _ w265 ⟨K266, ao, ah, rfl, S267, f268⟩
 have h := hK264
 refine Jz (Jp (Ja [2, 2, 2] R (Jc 3 R ?_)))
 cases h
 exact Jz1 fun a ha => ⟨k, _, Ja3 _, ⟨(fun b => ren [(16, 9)] (K266 b)), ((q15 : (List (List Int))), ((IntKind.i64.wrap (s12.2.1 - 1)) : Int), (x107.2 : (List Bool))), ao, ah, R, (Jy2 ((S195.tr (S208.tr (S212.tr (S215.tr (S232.tr (S244.tr (S263.tr S267))))))).wk R) [(16, 9)] R), (f268.map (ren [(16, 9)]) R R), (((f228.mx no_bool m233 R (R : 13 + 3 = 16)).stp (S244.tr (S263.tr S267)) R R).map (ren [(16, 9)]) R R), (hn198.trans hn229), hk200⟩, (ha.mm R)⟩
 refine JT fun h => Jx R (Jc1 (Jt (Jb1 (Jp (Ja [2, 2, 2] R (Jc 3 R ?_))))))
 cases h
 exact Jz1 fun a ha => ⟨k, _, Ja3 _, ⟨K194, ((s12.1 : (List (List Int))), ((IntKind.i64.wrap (s12.2.1 - 1)) : Int), (s12.2.2 : (List Bool))), ac, ad, R, S195.wk R, f196, f197, hn198, hk200⟩, (ha.mm R)⟩
 rintro _ w187 ⟨K188, s14, an, ai, rfl, S189, f190, f191, hn192, rfl⟩
 have h := hK185
 dsimp only [aft] at h
 refine Jp (Je [2, 1] R (Jn 1 R (Ob h fun x126 hx126 h => Jh R R R C88 (slices_SortFunc_I_I_ok (κ := fun b => mp [(10, 2)] 1 (K188 b)) (f190.map (mp [(10, 2)] 1) R R) hx126) ?_)))
 rintro _ w287 ⟨k288, rfl, e289, f290, hn291⟩
 obtain ⟨K292, S293, m294, z295⟩ := Jj e289 11 R
 refine ⟨tv, Jd (Je [2, 2] R (Jb 2 R (Ju (Ja2 (l := [.tmp 4]) V60 (Jp2 R R) R ?_))))⟩
 cases h
 exact ⟨(fun b => ren [(13, 2)] (K292 b)), an, ai, (by simp only [(hn291)]), ((hE.stp (S3.tr (S7.tr (S14.tr (S81.tr (S85.tr (S88.tr (S92.tr (S96.tr (S99.tr (S103.tr (S106.tr (S113.tr (S173.tr (S177.tr (S181.tr (S189.tr S293)))))))))))))))) R R).map (ren [(13, 2)]) R R), ((f290.mxz z295 m294 R (R : 11 + 2 = 13)).map (ren [(13, 2)]) R R)⟩
end Go.Proofs.Ytcmamhmpoinmnaa
