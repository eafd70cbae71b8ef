/- The walks, part 10. By program. -/
import Derived.Test.YtcmamhmpoinmnaaGreatFns9BA
set_option linter.unusedVariables false
set_option linter.unusedSimpArgs false
namespace Go.Proofs.YtcmamhmpoinmnaaGreat
open Go Go.Wk Go.Proofs
set_option maxRecDepth 100000
set_option maxHeartbeats 1000000
theorem s_BeatsAll_ok {w : World} {κ : Col} {p0 : Sig} {aq ap aw au} {p1 : Rival} {a2 u2} {p2 : (List Clause)} (g1_0 : Rd (Rp.int .i64) κ w 0 aq ap p1.In) (g1_1 : Rd (Rp.sl (Rp.int .i64)) κ w 0 aw au p1.Next) (g2 : Rd Clause.rp κ w 0 a2 u2 p2) {r : Bool} (h : s_BeatsAll p0 p1 p2 = some r) : Ret Tryz.prog 26 [.agg #[vi p0.In, vi p0.Out], .agg #[.slice aq p1.In.length ap, .slice aw p1.Next.length au], .slice a2 p2.length u2] w (fun v w' => ∃ (κ' : Col), v = .bool r ∧ Ent κ w κ' w') := by
 unfold s_BeatsAll at h
 refine Ret.enter F26 R N26 R ?_
 dsimp only [envOf]
 have hE := Ent.refl κ w
 refine Je [1, 1, 2] R (Jf1 (κ := κ) 2 R R R R R R R fun b3 w1 K2 S3 f4 => ⟨tv, Jf1 (κ := K2) 3 R R R R R R R fun b4 w5 K6 S7 f8 => ⟨tv, Jb 1 R (Je [1, 2, 1, 2, 2, 2, 1, 1, 2] R ?_)⟩⟩)
 have f9 := f4.stp S7 R R
 refine Jl tv R R R R (Jd2 (cs := [vi p0.In, vi p0.Out]) I31 Z31 R R R (haE f9.cells)) (Jn 1 R (Ob h fun x20 hx20 h => Jh R R R C59 (s_ProductOf_ok (κ := fun b => mp [] 0 (K6 b)) (p0 := p0) (Jl2 (g2.stp (S3.tr S7) R R) (mp [] 0) R R) hx20) ?_))
 rintro _ w11 ⟨k12, aH, aI, aP, aO, rfl, e13, f14, f15⟩
 obtain ⟨K16, S17, m18⟩ := Ji e13 4 R
 refine ⟨tv, ?_⟩
 have f20 := f14.mx (no_own (no_int _) _) m18 R (R : 4 + 2 = 6)
 refine Jn 3 R (Jg1 (κ := K16) 8 R R R R R X94 R fun b7 w22 K23 S24 f25 => ⟨tv, Jj1 (κ := K23) 8 (vc := [.slice aH x20.1.Next.length aI, .slice aP x20.1.Pairs.length aO]) R R R R R R R Z94 R R f25 R fun w26 S27 f28 => ⟨tv, Jb 1 R (Jq (Je [2, 2, 2, 1, 1, 1, 2, 2] R (Jn 3 R (Ob h fun p30 h hK29 => Ju1 [(3, 1), (4, 1), (5, 1), (6, 2), (7, 2)] [] (fun L w' => L = [(3, .pointer (some ⟨b3, 0, none⟩)), (4, .pointer (some ⟨b4, 0, none⟩)), (7, .pointer (some ⟨b7, 0, none⟩)), (30, .bool p30)] ∧ ∃ κ', Stp [] K23 w26 κ' w') tv ?_ ?_))))⟩⟩)
 revert h
 cases ht30 : (!x20.2)
 have S001 := (S3.tr (S7.tr (S17.tr (S24.tr S27))))
 refine JF fun h => Jl tv R R R R (Jd2 (cs := [vi p0.In, vi p0.Out]) I31 Z31 R R R (haE (f9.stp (S17.tr (S24.tr S27)) R R).cells)) (Jl tv R R R R (Jd2 (cs := [.slice aq p1.In.length ap, .slice aw p1.Next.length au]) I50 Z50 R R R (haE (f8.stp (S17.tr (S24.tr S27)) R R).cells)) (Ob h fun x28 hx28 h => Jh R R R C60 (s_RivalOk_ok (κ := fun b => mp [] 0 (K23 b)) (p0 := p0) (p1 := p1) (Jl2 (g1_0.stp S001 R R) (mp [] 0) R R) (Jl2 (g1_1.stp S001 R R) (mp [] 0) R R) hx28) ?_))
 rintro _ w35 ⟨k36, rfl, e37⟩
 obtain ⟨K38, S39, m40⟩ := Ji e37 9 R
 refine ⟨tv, Jn 2 R ?_⟩
 cases h
 exact Jv1 _ tv ⟨R, _, S39.wk R⟩ (KM R)
 refine JT fun h => Jd1 R R R R (Jd1 R R R R (Jd1 R R R R (Jn 2 R ?_)))
 cases h
 exact Jv1 _ tv ⟨R, _, (Jx2 _ _).wk R⟩ (KM R)
 rintro _ w42 _ ⟨rfl, K43, S44⟩
 have h := hK29
 refine Jd ?_
 revert h
 cases ht45 : p30
 refine JF fun h => Jy R (Js (Jp (Je [1, 1, 2] R (Jn1 (κ := K43) (E := E6) 9 [] (parts := [(0, .const (vi 0)), (1, .const (vi 0))]) (cells := [vi 0, vi 0]) (xs := ([0, 0] : List Int)) R R R R R R Y40 Tryzinfo2 R R R R R R R R R R ⟨[vi 0], [vi 0], Zl K43 w42 [], Zl K43 w42 [], R, Zl.sp (l1 := []) (l2 := []) R, Zl.sr (l1 := []) (l2 := []), R, ⟨[vi 0], [], Zl K43 w42 [], Zl K43 w42 [], R, Zl.sp (l1 := []) (l2 := []) R, Zl.sr (l1 := []) (l2 := []), R, R⟩⟩ fun az aB w47 K48 S49 f50 => ⟨tv, Jn1 (κ := K48) (E := (Ep.own E6 2)) 10 [9] (parts := [(0, .tmp 31)]) (cells := [.slice az ([0, 0] : List Int).length aB]) (xs := ([([0, 0] : List Int)] : List (List Int))) R R R R R R Y24 Tryzinfo40 R R R R R R R R R R ⟨[.slice az ([0, 0] : List Int).length aB], [], Zl K48 w47 [9], Zl K48 w47 [], R, Zl.sp (l1 := [9]) (l2 := []) R, Zl.sr (l1 := [9]) (l2 := []), ⟨_, _, R, f50⟩, R⟩ fun aQ aF w51 K52 S53 f54 => ⟨tv, Jb 1 R (Je [1, 2] R (Jo1 (κ := K52) (E := (Ep.fz (Rp.sl (Rp.int .i64)))) 11 R R R R R Y24 Tryzinfo40 R fun aD aJ w55 K56 S57 f58 => ⟨tv, Jb 1 R (Jq (Je [2] R (Jb 1 R (Ob h fun q2 hq61 hK60 => ?_))))⟩))⟩⟩))))
 clear h
 refine Jx1 (fun L w' => ∃ κ', ∃ s3 : (List (List Int)) × (List (List Int)) × Int, ∃ ax ar av ay, L = [(7, .pointer (some ⟨b7, 0, none⟩)), (9, .slice ax s3.1.length ar), (10, .slice av s3.2.1.length ay)] ∧ Stp [10, 11, 12, 13, 19, 20] K56 w55 κ' w' ∧ Oc (Ep.own E6 2) 40 κ' w' 10 ax ar s3.1 ∧ Oc (Ep.fz (Rp.sl (Rp.int .i64))) 40 κ' w' 11 av ay s3.2.1 ∧ q2 = Sum.inr s3) ?_ ?_
 refine Jv (Jy1 (fun k L w' => ∃ κ', ∃ s1 : (List (List Int)) × (List (List Int)) × Int, ∃ ak ah ab aa, L = [(3, .pointer (some ⟨b3, 0, none⟩)), (4, .pointer (some ⟨b4, 0, none⟩)), (7, .pointer (some ⟨b7, 0, none⟩)), (9, .slice ak s1.1.length ah), (10, .slice ab s1.2.1.length aa), (11, vi s1.2.2)] ∧ Stp [10, 11, 12, 13, 19, 20] K56 w55 κ' w' ∧ Oc (Ep.own E6 2) 40 κ' w' 10 ak ah s1.1 ∧ Oc (Ep.fz (Rp.sl (Rp.int .i64))) 40 κ' w' 11 ab aa s1.2.1 ∧ whileM (s_BeatsAll_b0 p0 p1 x20) k s1 = some q2) ⟨_, _, ⟨K56, ((([([0, 0] : List Int)] : List (List Int)) : (List (List Int))), (([] : List (List Int)) : (List (List Int))), (0 : Int)), aQ, aF, aD, aJ, R, (Jx2 _ _).wk R, (f54.stp S57 R R), f58, hq61⟩, (KM R)⟩ ?_)
 rintro k _ w67 ⟨K68, s1, ak, ah, ab, aa, rfl, S69, f70, f71, h⟩
 rcases k with _ | k
 cases h
 obtain ⟨o59, h, hk73⟩ := BI h; unfold s_BeatsAll_b0 at h
 refine Jq (Je [2, 2, 2, 2] R (Jn 2 R (Jf R (Je2 U24 R R) (Jb 1 R ?_))))
 revert h
 cases ht74 : decide (s1.2.2 < (s1.1.length : Int))
 refine JF fun h => Jy R (Jc1 (Jt (Jt ?_)))
 cases h
 have h := hk73
 refine Jb1 ?_
 cases h
 exact Jw1 _ ⟨K68, ((s1.1 : (List (List Int))), (s1.2.1 : (List (List Int))), (s1.2.2 : Int)), ak, ah, ab, aa, R, S69.wk R, f70, f71, R⟩ (KM R)
 refine JT fun h => Jx R (Js (Jp (Jq (Jv (Je [1, 2] R (Jo1 (κ := K68) (E := E6) 12 R R R R R Y40 Tryzinfo2 R fun aS aE w75 K76 S77 f78 => ⟨tv, Jb 1 R (Jq (Je [2] R (Jb 1 R (Ob h fun q5 hq81 hK80 => ?_))))⟩))))))
 clear h
 obtain ⟨K82, S83, z84⟩ := fz_ex K76 w75 12
 refine Jx1 (fun L w' => ∃ κ', ∃ s6 : (List (List Int)) × (List Int) × Int, ∃ ao an ae ad, L = [(3, .pointer (some ⟨b3, 0, none⟩)), (4, .pointer (some ⟨b4, 0, none⟩)), (7, .pointer (some ⟨b7, 0, none⟩)), (9, .slice ao s6.1.length an), (10, .slice ab s1.2.1.length aa), (11, vi s1.2.2), (12, .slice ae s6.2.1.length ad)] ∧ Stp [10, 19, 20] K82 w75 κ' w' ∧ Oc (Ep.own E6 2) 40 κ' w' 10 ao an s6.1 ∧ Rd (Rp.int .i64) κ' w' 0 ae ad s6.2.1 ∧ q5 = Sum.inr s6) ?_ ?_
 refine Jv (Jy1 (fun k L w' => ∃ κ', ∃ s4 : (List (List Int)) × (List Int) × Int, ∃ af aj ai ac, L = [(3, .pointer (some ⟨b3, 0, none⟩)), (4, .pointer (some ⟨b4, 0, none⟩)), (7, .pointer (some ⟨b7, 0, none⟩)), (9, .slice af s4.1.length aj), (10, .slice ab s1.2.1.length aa), (11, vi s1.2.2), (12, .slice ai s4.2.1.length ac), (13, vi s4.2.2)] ∧ Stp [10, 19, 20] K82 w75 κ' w' ∧ Oc (Ep.own E6 2) 40 κ' w' 10 af aj s4.1 ∧ Rd (Rp.int .i64) κ' w' 0 ai ac s4.2.1 ∧ whileM (s_BeatsAll_b2 p0 p1 x20 s1) k s4 = some q5) ⟨_, _, ⟨K82, ((s1.1 : (List (List Int))), (([] : List Int) : (List Int)), (0 : Int)), ak, ah, aS, aE, R, (Jx2 _ _).wk R, (f70.stp (S77.tr S83) R R), (Sl.st z84 f78.rdc), hq81⟩, (KM R)⟩ ?_)
 rintro k _ w91 ⟨K92, s4, af, aj, ai, ac, rfl, S93, f94, f95, h⟩
 rcases k with _ | k
 cases h
 obtain ⟨o79, h, hk97⟩ := BI h; unfold s_BeatsAll_b2 at h
 refine Jq (Je [2, 1, 1, 2] R (Jn 1 R ?_))
 have f98 := f9.stp (S17.tr (S24.tr (S27.tr (S44.tr (S49.tr (S53.tr (S57.tr (S69.tr (S77.tr (S83.tr S93)))))))))) R R
 refine Jl tv R R R R (Jd2 (cs := [vi p0.In, vi p0.Out]) I31 Z31 R R R (haE f98.cells)) (Ob h fun x43 hx43 h => Jh R R R C61 (s_l33Outputs_ok (κ := fun b => mp [] 0 (K92 b)) (p0 := p0) hx43) ?_)
 rintro _ w99 ⟨k100, rfl, e101⟩
 obtain ⟨K102, S103, m104⟩ := Ji e101 13 R
 refine ⟨tv, Jb 1 R ?_⟩
 revert h
 cases ht106 : decide (s4.2.2 < x43)
 refine JF fun h => Jy R (Jc1 (Jt (Jt ?_)))
 cases h
 have h := hk97
 refine Jb1 ?_
 cases h
 exact Jw1 _ ⟨K102, ((s4.1 : (List (List Int))), (s4.2.1 : (List Int)), (s4.2.2 : Int)), af, aj, ai, ac, R, (S93.tr S103).wk R, (f94.stp S103 R R), (f95.stp S103 R R), R⟩ (KM R)
 refine JT fun h => Jx R (Js (Jp (Jq (Jv (Jq (Js1 (κ := K102) [0, 2, 3, 6, 8, 10] none [(0, 2), (2, 2), (3, 2), (4, 2), (11, 2), (13, 2), (14, 2), (15, 2), (21, 2), (1, 0), (5, 0), (6, 2), (7, 0), (8, 2), (9, 0), (10, 0), (12, 0), (16, 0), (17, 2), (18, 0), (19, 2), (20, 0), (22, 1), (23, 2), (24, 0), (25, 2)] [] (by kernel_rfl) (by kernel_rfl) fun w108 S107 => Jf R (Jb2 U94 R Z24 R R) (Jn 2 R (Ob h fun x51 hx51 h => Jf R (Jf2 f94.rdc hx51 U24 Z40 R R R R) (Jf R (Jb2 U50 R Z40 R R) (Jn 2 R (Ob h fun x62 hx62 h => Jf R (Jf2 f94.rdc hx62 U24 Z40 R R R R) (Jn 1 R (Jg R (Jc2 I24 R R (hvC ((f28.stp (S44.tr (S49.tr (S53.tr (S57.tr (S69.tr (S77.tr (S83.tr (S93.tr (S103.tr S107))))))))) R R).ld 0 R R) R)) ?_)))))))))))))
 have f110 := f94.stp (S103.tr S107) R R
 obtain ⟨ax51, ux51, f111, hl112⟩ := f110.rdc.gSl hx51
 refine Jg R (Jc2 I40 R R (hvC hl112 R)) (Ob h fun x53 hx53 h => Jf R (Jf2 f111 hx53 U40 Z2 R R R R) (Jg R (Jc2 I2 R R (hvC (f111.gInt hx53) R)) (Ob h fun x55 hx55 h => Jf R (Jf2 f20.rdc hx55 U24 Z40 R R R R) ?_)))
 obtain ⟨ax55, ux55, f114, hl115⟩ := (f20.stp (S24.tr (S27.tr (S44.tr (S49.tr (S53.tr (S57.tr (S69.tr (S77.tr (S83.tr (S93.tr (S103.tr S107))))))))))) R R).rdc.gSl hx55
 refine Jg R (Jc2 I40 R R (hvC hl115 R)) (Jg R (Jd2 (cs := [vi p0.In, vi p0.Out]) I31 Z31 R R R (haC (f98.stp (S103.tr S107) R R).cells R)) ?_)
 have f117 := f8.stp (S17.tr (S24.tr (S27.tr (S44.tr (S49.tr (S53.tr (S57.tr (S69.tr (S77.tr (S83.tr (S93.tr (S103.tr S107)))))))))))) R R
 refine Jg R (Jc2 I40 R R (hvC (f117.ld 0 R R) R)) ?_
 obtain ⟨ax62, ux62, f118, hl119⟩ := f110.rdc.gSl hx62
 refine Jg R (Jc2 I40 R R (hvC hl119 R)) (Ob h fun x64 hx64 h => Jf R (Jf2 f118 hx64 U40 Z2 R R R R) (Jg R (Jc2 I2 R R (hvC (f118.gInt hx64) R)) (Ob h fun x66 hx66 h => Jf R (Jf2 g1_0 hx66 U40 Z2 R R R R) (Jg R (Jc2 I2 R R (hvC ((g1_0.stp (S3.tr (S7.tr (S17.tr (S24.tr (S27.tr (S44.tr (S49.tr (S53.tr (S57.tr (S69.tr (S77.tr (S83.tr (S93.tr (S103.tr S107)))))))))))))) R R).gInt hx66) R)) (Ob h fun x69 hx69 h => Jh R R R C62 (s_LetterOf_ok (κ := fun b => mp [] 0 (K102 b)) (p0 := p0) hx69) ?_)))))
 rintro _ w121 ⟨k122, rfl, e123⟩
 obtain ⟨K124, S125, m126⟩ := Ji e123 15 R
 refine ⟨(S125.cl R), Ob h fun x70 hx70 h => Jf R (Jf2 f114 hx70 U40 Z2 R R R R) (Jg R (Jc2 I2 R R (hvC (f114.gInt hx70) R)) (Jn 1 R (Jt1 (Jd (Jq (Js1 (κ := K124) [0, 3, 10] none [(0, 2), (2, 2), (3, 2), (4, 2), (10, 2), (1, 0), (5, 0), (6, 2), (7, 0), (8, 2), (9, 0), (11, 2), (12, 0), (13, 2)] [] (by kernel_rfl) (by kernel_rfl) fun w129 S128 => Jf R (Jb2 U50 R Z24 R R) (Jn 2 R (Ob h fun x76 hx76 h => Jf R (Jf2 f110.rdc hx76 U24 Z40 R R R R) (Jn 1 R (Jg R (Jc2 I24 R R (hvC ((f117.stp (S125.tr S128) R R).ld 1 R R) R)) ?_))))))))))⟩
 have f131 := f110.stp (S125.tr S128) R R
 obtain ⟨ax76, ux76, f132, hl133⟩ := f131.rdc.gSl hx76
 refine Jg R (Jc2 I40 R R (hvC hl133 R)) (Ob h fun x78 hx78 h => Jf R (Jf2 f132 hx78 U40 Z2 R R R R) (Jg R (Jc2 I2 R R (hvC (f132.gInt hx78) R)) (Ob h fun x80 hx80 h => Jf R (Jf2 g1_1 hx80 U24 Z40 R R R R) ?_)))
 obtain ⟨ax80, ux80, f135, hl136⟩ := (g1_1.stp (S3.tr (S7.tr (S17.tr (S24.tr (S27.tr (S44.tr (S49.tr (S53.tr (S57.tr (S69.tr (S77.tr (S83.tr (S93.tr (S103.tr (S107.tr (S125.tr S128)))))))))))))))) R R).gSl hx80
 refine Jg R (Jc2 I40 R R (hvC hl136 R)) (Ob h fun x83 hx83 h => Jf R (Jf2 f135 hx83 U40 Z2 R R R R) (Jg R (Jc2 I2 R R (hvC (f135.gInt hx83) R)) (Jn 1 R (Jt1 (Jd (Je [2, 2, 2, 1, 2] R (Jn 3 R (Ob h fun x88 hx88 h => Jh R R R C63 (s_l26Place_ok (κ := fun b => mp [] 0 (K124 b)) (Jl2 f131.rdc (mp [] 0) R R) hx88) ?_))))))))
 rintro _ w137 ⟨k138, rfl, e139⟩
 obtain ⟨K140, S141, m142⟩ := Ji e139 17 R
 refine ⟨tv, Jb 1 R (Jq (Je [2, 2] R (Jb 2 R (Ob h fun q7 h hK144 => Jx1 (fun L w' => ∃ κ' am al, L = [(3, .pointer (some ⟨b3, 0, none⟩)), (4, .pointer (some ⟨b4, 0, none⟩)), (7, .pointer (some ⟨b7, 0, none⟩)), (9, .slice am q7.1.length al), (10, .slice ab s1.2.1.length aa), (11, vi s1.2.2), (12, .slice ai s4.2.1.length ac), (13, vi s4.2.2), (16, vi q7.2)] ∧ Stp [10, 19, 20] K140 w137 κ' w' ∧ Oc (Ep.own E6 2) 40 κ' w' 10 am al q7.1) ?_ ?_))))⟩
 revert h
 cases ht149 : decide (x88 < 0)
 refine JF fun h => Jy R (Js ?_)
 cases h
 exact Jw1 _ ⟨K140, af, aj, R, (Jx2 _ _).wk R, (f131.stp S141 R R)⟩ (KM R)
 refine JT fun h => Jx R (Je [2, 2, 2] R (Jn 1 R (Jf R (Je2 U24 R R) (Jb 1 R (Ja [2, 2, 2, 1, 1, 1, 2] R (Jn 3 R (Jn1 (κ := K140) (E := E6) 19 [] (parts := [(0, .tmp 94), (1, .tmp 95)]) (cells := [vi x70, vi x83]) (xs := ([x70, x83] : List Int)) R R R R R R Y40 Tryzinfo2 R R R R R R R R R R ⟨[vi x70], [vi x83], Zl K140 w137 [], Zl K140 w137 [], R, Zl.sp (l1 := []) (l2 := []) R, Zl.sr (l1 := []) (l2 := []), R, ⟨[vi x83], [], Zl K140 w137 [], Zl K140 w137 [], R, Zl.sp (l1 := []) (l2 := []) R, Zl.sr (l1 := []) (l2 := []), R, R⟩⟩ fun aC aA w150 K151 S152 f153 => ⟨tv, Jn1 (κ := K151) (E := (Ep.own E6 2)) 20 [19] (parts := [(0, .tmp 96)]) (cells := [.slice aC ([x70, x83] : List Int).length aA]) (xs := ([([x70, x83] : List Int)] : List (List Int))) R R R R R R Y24 Tryzinfo40 R R R R R R R R R R ⟨[.slice aC ([x70, x83] : List Int).length aA], [], Zl K151 w150 [19], Zl K151 w150 [], R, Zl.sp (l1 := [19]) (l2 := []) R, Zl.sr (l1 := [19]) (l2 := []), ⟨_, _, R, f153⟩, R⟩ fun aU aX w154 K155 S156 f157 => ⟨tv, Ob h fun x98 hx98 h => Jm1 (κ := K155) (E := (Ep.own E6 2)) 10 [20] R R R R R R R R R Y24 Tryzinfo40 R R R R (f131.stp (S141.tr (S152.tr S156)) R R) f157.src (sy_one R) hx98 R fun aL aM w159 K160 S161 f162 => ⟨tv, Jc 1 R ?_⟩⟩⟩)))))))
 cases h
 exact Jw1 _ ⟨K160, aL, aM, R, (S152.tr (S156.tr S161)).wk R, f162⟩ (KM R)
 rintro _ w145 ⟨K146, am, al, rfl, S147, f148⟩
 have h := hK144
 refine Jp (Ja [2, 2, 1, 2] R (Jn 2 R (Ob h fun x101 hx101 h => Jh R R R C64 (s_l1Into_ok (κ := fun b => mp [] 1 (K146 b)) (Jl2 (f95.stp (S103.tr (S107.tr (S125.tr (S128.tr (S141.tr S147))))) R R) (mp [] 1) R R) hx101) ?_)))
 rintro _ w165 ⟨k166, aG, aK, rfl, e167, f168⟩
 obtain ⟨K169, S170, m171, z172⟩ := Jj e167 19 R
 refine ⟨tv, Jc 1 R (Jz (Jp (Ja [2, 2, 2] R (Jc 3 R ?_))))⟩
 cases h
 exact Jz1 fun a ha => ⟨k, _, Ja3 _, ⟨K169, ((q7.1 : (List (List Int))), (x101 : (List Int)), ((IntKind.i64.wrap (s4.2.2 + 1)) : Int)), am, al, aG, aK, R, (S93.tr (S103.tr (S107.tr (S125.tr (S128.tr (S141.tr (S147.tr S170))))))).wk R, (f148.stp S170 R R), (f168.mx z172), hk97⟩, (ha.mm R)⟩
 rintro _ w86 ⟨K87, s6, ao, an, ae, ad, rfl, S88, f89, f90, rfl⟩
 have h := hK80
 dsimp only [aft] at h
 refine Jp (Jq (Je [2, 2, 2] R (Jn 1 R (Jf R (Je2 U24 R R) (Jb 1 R ?_)))))
 revert h
 cases ht177 : decide (256 < (s6.1.length : Int))
 refine JF fun h => Jy R (Js (Jp (Ja [2, 2, 1, 1, 2] R (Jn 2 R (Jn1 (κ := K87) (E := (Ep.fz (Rp.sl (Rp.int .i64)))) 13 [] (parts := [(0, .tmp 106)]) (cells := [.slice ae s6.2.1.length ad]) (xs := ([s6.2.1] : List (List Int))) R R R R R R Y24 Tryzinfo40 R R R R R R R R R R ⟨[.slice ae s6.2.1.length ad], [], Zl K87 w86 [], Zl K87 w86 [], R, Zl.sp (l1 := []) (l2 := []) R, Zl.sr (l1 := []) (l2 := []), ⟨_, _, R, (Sl.z1 f90)⟩, R⟩ fun aZ aW w179 K180 S181 f182 => ⟨tv, Ob h fun x108 hx108 h => Jm1 (κ := K180) (E := (Ep.fz (Rp.sl (Rp.int .i64)))) 11 [13] R R R R R R R R R Y24 Tryzinfo40 R R R R (f71.stp (S77.tr (S83.tr (S88.tr S181))) R R) f182.src (sy_one R) hx108 R fun aR aN w184 K185 S186 f187 => ⟨tv, Jc 1 R (Jz (Jp (Ja [2, 2, 2] R (Jc 3 R ?_))))⟩⟩)))))
 cases h
 exact Jz1 fun a ha => ⟨k, _, Ja3 _, ⟨K185, ((s6.1 : (List (List Int))), (x108 : (List (List Int))), ((IntKind.i64.wrap (s1.2.2 + 1)) : Int)), ao, an, aR, aN, R, (S69.tr (S77.tr (S83.tr (S88.tr (S181.tr S186))))).wk R, (f89.stp (S181.tr S186) R R), f187, hk73⟩, (ha.mm R)⟩
 refine JT fun h => Jx R (Je [2] R (Jb 1 R (Ju (Jw (Ja1 (Jw (Jw ?_)))))))
 cases h
 obtain rfl := Option.some.inj hk73
 have h := hK60
 dsimp only [aft] at h
 refine Ja1 (Jq2 (Jw (Ja2 (l := [.tmp 6]) V26 (Jp2 R R) R ?_)))
 cases h
 exact ⟨K87, R, (hE.stp (S3.tr (S7.tr (S17.tr (S24.tr (S27.tr (S44.tr (S49.tr (S53.tr (S57.tr (S69.tr (S77.tr (S83.tr S88)))))))))))) R R)⟩
 rintro _ w62 ⟨K63, s3, ax, ar, av, ay, rfl, S64, f65, f66, rfl⟩
 have h := hK60
 dsimp only [aft] at h
 refine Jp (Je [2, 2, 1, 2, 1, 2, 2, 1, 1, 2, 2] R (Jn 1 R (Jf R (Jb2 U94 R Z79 R R) (Jl tv R R R R (Jc2 I79 R R (hvE ((f28.stp (S44.tr (S49.tr (S53.tr (S57.tr S64)))) R R).ld 1 R R))) (Jn 1 R (Ob h fun x113 hx113 h => Jh R R R C66 (s_l26Pairs_ok (κ := fun b => mp [] 0 (K63 b)) (Jl2 ((f15.mx Pair.no92 m18 R (R : 4 + 3 = 7)).stp (S24.tr (S27.tr (S44.tr (S49.tr (S53.tr (S57.tr S64)))))) R R).rdc (mp [] 0) R R) (Jl2 f65.rdc (mp [] 0) R R) hx113) ?_))))))
 rintro _ w191 ⟨k192, aV, aT, rfl, e193, f194⟩
 obtain ⟨K195, S196, m197⟩ := Ji e193 12 R
 refine ⟨tv, Jn 1 R (Jf R (Je2 U24 R R) (Ob h fun x116 hx116 h => Jh R R R C67 (s_AllOf_ok (κ := fun b => mp [] 0 (K195 b)) hx116) ?_))⟩
 rintro _ w200 ⟨k201, aY, ba, rfl, e202, f203⟩
 obtain ⟨K204, S205, m206⟩ := Ji e202 15 R
 refine ⟨tv, Ob h fun x117 hx117 h => Jh R R R C65 (s_l33Fair_ok _ (κ := fun b => mp [] 0 (K204 b)) (Jl2 (f66.stp (S196.tr S205) R R).rdc (mp [] 0) R R) (Jl2 ((f194.mx Pair.no92 m197 R (R : 12 + 2 = 14)).stp S205 R R).rdc (mp [] 0) R R) (Jl2 (f203.mx (no_int _) m206 R (R : 15 + 2 = 17)).rdc (mp [] 0) R R) hx117) ?_⟩
 rintro _ w211 ⟨k212, rfl, e213⟩
 obtain ⟨K214, S215, m216⟩ := Ji e213 18 R
 refine ⟨tv, Jb 2 R (Ju (Ja2 (l := [.tmp 6]) V26 (Jp2 R R) R ?_))⟩
 cases h
 exact ⟨K214, R, (hE.stp (S3.tr (S7.tr (S17.tr (S24.tr (S27.tr (S44.tr (S49.tr (S53.tr (S57.tr (S64.tr (S196.tr (S205.tr S215)))))))))))) R R)⟩
 refine JT fun h => Jx R (Je [2] R (Jb 1 R (Ju (Jw (Ja2 (l := [.tmp 6]) V26 (Jp2 R R) R ?_)))))
 cases h
 exact ⟨K43, R, (hE.stp (S3.tr (S7.tr (S17.tr (S24.tr (S27.tr S44))))) R R)⟩
theorem l_FnExactBeatsAll_ok {w : World} {κ : Col} {p0 : Sig} {ab aa ad ac} {p1 : Rival} {a2 u2} {p2 : (List Clause)} (g1_0 : Rd (Rp.int .i64) κ w 0 ab aa p1.In) (g1_1 : Rd (Rp.sl (Rp.int .i64)) κ w 0 ad ac p1.Next) (g2 : Rd Clause.rp κ w 0 a2 u2 p2) {r : Bool} (h : l_FnExactBeatsAll p0 p1 p2 = some r) : Ret Tryz.prog 5 [.agg #[vi p0.In, vi p0.Out], .agg #[.slice ab p1.In.length aa, .slice ad p1.Next.length ac], .slice a2 p2.length u2] w (fun v w' => ∃ (κ' : Col), v = .bool r ∧ Ent κ w κ' w') := by
 unfold l_FnExactBeatsAll at h
 refine Ret.enter F5 R N5 R ?_
 dsimp only [envOf]
 have hE := Ent.refl κ w
 refine Je [1, 1, 2] R (Jf1 (κ := κ) 2 R R R R R R R fun b3 w1 K2 S3 f4 => ⟨tv, Jf1 (κ := K2) 3 R R R R R R R fun b4 w5 K6 S7 f8 => ⟨tv, Jb 1 R (Je [2] R (Jb 1 R (Je [1, 2, 1, 2] R (Jl tv R R R R (Jd2 (cs := [.slice ab p1.In.length aa, .slice ad p1.Next.length ac]) I47 Z47 R R R (haE f8.cells)) (Jn 1 R (Ob h fun x14 hx14 h => ?_))))))⟩⟩)
 have f9 := g1_0.stp (S3.tr S7) R R
 have f10 := g1_1.stp (S3.tr S7) R R
 refine Jh R R R C25 (l_szRival_ok (κ := fun b => mp [] 0 (K6 b)) (p0 := p1) (Jl2 f9 (mp [] 0) R R) (Jl2 f10 (mp [] 0) R R) hx14) ?_
 rintro _ w11 ⟨k12, rfl, e13⟩
 obtain ⟨K14, S15, m16⟩ := Ji e13 4 R
 refine ⟨tv, Jb 1 R (Jq (Je [2, 2] R (Jb 2 R ?_)))⟩
 revert h
 cases ht18 : decide (x14 < 0)
 refine JF fun h => Jy R (Js (Jp (Je [2, 2, 1, 2] R (Jn 2 R (Ob h fun x19 hx19 h => ?_)))))
 have f20 := g2.stp (S3.tr (S7.tr S15)) R R
 refine Jh R R R C10 (l_szClauseS_ok (κ := fun b => mp [] 0 (K14 b)) (Jl2 f20 (mp [] 0) R R) hx19) ?_
 rintro _ w21 ⟨k22, rfl, e23⟩
 obtain ⟨K24, S25, m26⟩ := Ji e23 6 R
 refine ⟨tv, Jb 1 R (Jq (Je [2, 2] R (Jb 2 R ?_)))⟩
 revert h
 cases ht28 : decide (x19 < 0)
 refine JF fun h => Jy R (Js (Jp (Jq (Js1 (κ := K24) [2, 3] none [(4, 2), (0, 0), (2, 0), (1, 1), (3, 1), (5, 1), (6, 1), (7, 2)] [] (by kernel_rfl) (by kernel_rfl) fun w31 S30 => Jn 1 R ?_))))
 have f32 := f4.stp (S7.tr (S15.tr (S25.tr S30))) R R
 refine Jg R (Jd2 (cs := [vi p0.In, vi p0.Out]) I23 Z23 R R R (haC f32.cells R)) ?_
 have f33 := f8.stp (S15.tr (S25.tr S30)) R R
 refine Jg R (Jd2 (cs := [.slice ab p1.In.length aa, .slice ad p1.Next.length ac]) I47 Z47 R R R (haC f33.cells R)) (Ob h fun x23 hx23 h => Jh R R R C12 (l_toSig_ok (κ := fun b => mp [] 0 (K24 b)) (p0 := p0) hx23) ?_)
 rintro _ w34 ⟨k35, rfl, e36⟩
 obtain ⟨K37, S38, m39⟩ := Ji e36 8 R
 refine ⟨(S38.cl R), Ob h fun x25 hx25 h => ?_⟩
 have f41 := f9.stp (S15.tr (S25.tr (S30.tr S38))) R R
 have f42 := f10.stp (S15.tr (S25.tr (S30.tr S38))) R R
 refine Jh R R R C27 (l_toRival_ok (κ := fun b => mp [] 0 (K37 b)) (p0 := p1) (Jl2 f41 (mp [] 0) R R) (Jl2 f42 (mp [] 0) R R) hx25) ?_
 rintro _ w43 ⟨k44, an, aj, ap, ao, rfl, e45, f46, f47⟩
 obtain ⟨K48, S49, m50⟩ := Ji e45 10 R
 refine ⟨((S38.tr S49).cl R), Ob h fun x27 hx27 h => ?_⟩
 have f54 := f20.stp (S25.tr (S30.tr (S38.tr S49))) R R
 refine Jh R R R C14 (l_toClauseS_ok (κ := fun b => mp [] 0 (K48 b)) (Jl2 f54 (mp [] 0) R R) hx27) ?_
 rintro _ w55 ⟨k56, am, ar, rfl, e57, f58⟩
 obtain ⟨K59, S60, m61⟩ := Ji e57 14 R
 refine ⟨((S38.tr (S49.tr S60)).cl R), Ob h fun x28 hx28 h => Jh R R R C26 (s_BeatsAll_ok (κ := fun b => mp [] 0 (K59 b)) (p0 := x23) (p1 := x25) (Jl2 ((f46.mx (no_int _) m50 R (R : 10 + 2 = 12)).stp S60 R R).rdc (mp [] 0) R R) (Jl2 ((f47.mx (no_own (no_int _) _) m50 R (R : 10 + 3 = 13)).stp S60 R R).rdc (mp [] 0) R R) (Jl2 (f58.mx Clause.no71 m61 R (R : 14 + 2 = 16)).rdc (mp [] 0) R R) hx28) ?_⟩
 rintro _ w66 ⟨k67, rfl, e68⟩
 obtain ⟨K69, S70, m71⟩ := Ji e68 17 R
 refine ⟨((S38.tr (S49.tr (S60.tr S70))).cl R), Jn 1 R (Jt1 (Jd (Je [1, 1, 1, 1] R ?_)))⟩
 have f73 := f33.stp (S38.tr (S49.tr (S60.tr S70))) R R
 refine Jl tv R R R R (Jd2 (cs := [.slice ab p1.In.length aa, .slice ad p1.Next.length ac]) I47 Z47 R R R (haE f73.cells)) (Ob h fun x30 hx30 h => ?_)
 have f74 := f41.stp (S49.tr (S60.tr S70)) R R
 have f75 := f42.stp (S49.tr (S60.tr S70)) R R
 refine Jh R R R C27 (l_toRival_ok (κ := fun b => mp [] 0 (K69 b)) (p0 := p1) (Jl2 f74 (mp [] 0) R R) (Jl2 f75 (mp [] 0) R R) hx30) ?_
 rintro _ w76 ⟨k77, ah, ae, af, ai, rfl, e78, f79, f80⟩
 obtain ⟨K81, S82, m83⟩ := Ji e78 19 R
 refine ⟨tv, Jg1 (κ := K81) 23 R R R R R X50 R fun b9 w87 K88 S89 f90 => ⟨tv, Jj1 (κ := K88) 23 (vc := [.slice ah x30.In.length ae, .slice af x30.Next.length ai]) R R R R R R R Z50 R R f90 R fun w91 S92 f93 => ⟨tv, Jd (Je [2, 1, 2] R (Jn 1 R (Ob h fun x32 hx32 h => ?_)))⟩⟩⟩
 have f94 := f54.stp (S60.tr (S70.tr (S82.tr (S89.tr S92)))) R R
 refine Jh R R R C14 (l_toClauseS_ok (κ := fun b => mp [] 0 (K88 b)) (Jl2 f94 (mp [] 0) R R) hx32) ?_
 rintro _ w95 ⟨k96, ay, aq, rfl, e97, f98⟩
 obtain ⟨K99, S100, m101⟩ := Ji e97 24 R
 refine ⟨tv, Jb 1 R (Jq (Js1 (κ := K99) [2, 23] none [(3, 2), (0, 0), (2, 0), (1, 1), (4, 1), (5, 2)] [] (by kernel_rfl) (by kernel_rfl) fun w105 S104 => Jn 1 R (Jg R (Jd2 (cs := [vi p0.In, vi p0.Out]) I23 Z23 R R R (haC (f32.stp (S38.tr (S49.tr (S60.tr (S70.tr (S82.tr (S89.tr (S92.tr (S100.tr S104)))))))) R R).cells R)) ?_)))⟩
 have f107 := f93.stp (S100.tr S104) R R
 refine Jg R (Jd2 (cs := [.slice ah x30.In.length ae, .slice af x30.Next.length ai]) I50 Z50 R R R (haC f107.cells R)) (Ob h fun x34 hx34 h => Jh R R R C12 (l_toSig_ok (κ := fun b => mp [] 0 (K99 b)) (p0 := p0) hx34) ?_)
 rintro _ w108 ⟨k109, rfl, e110⟩
 obtain ⟨K111, S112, m113⟩ := Ji e110 27 R
 refine ⟨(S112.cl R), Ob h fun x37 hx37 h => ?_⟩
 have f115 := (f79.mx (no_int _) m83 R (R : 19 + 2 = 21)).stp (S89.tr (S92.tr (S100.tr (S104.tr S112)))) R R
 have f116 := (f80.mx (no_own (no_int _) _) m83 R (R : 19 + 3 = 22)).stp (S89.tr (S92.tr (S100.tr (S104.tr S112)))) R R
 have f117 := (f98.mx Clause.no71 m101 R (R : 24 + 2 = 26)).stp (S104.tr S112) R R
 refine Jh R R R C28 (i_BeatsAll_ok (κ := fun b => mp [] 0 (K111 b)) (p0 := x34) (p1 := x30) (Jl2 f115.rdc (mp [] 0) R R) (Jl2 f116.rdc (mp [] 0) R R) (Jl2 f117.rdc (mp [] 0) R R) hx37) ?_
 rintro _ w118 ⟨k119, rfl, e120⟩
 obtain ⟨K121, S122, m123⟩ := Ji e120 29 R
 refine ⟨((S112.tr S122).cl R), Jn 1 R (Jt1 (Jd (Jq (Je [2, 2, 2] R (Jn 2 R (Jf R (rn_neqB R R U4 R) (Jd ?_)))))))⟩
 revert h
 cases ht125 : (x37 != x28)
 have S001 := (S82.tr (S89.tr (S92.tr (S100.tr (S104.tr (S112.tr S122))))))
 refine JF fun h => Jy R (Js (Jp (Jq (Jq (Js1 (κ := K121) [3, 23] none [(0, 0), (1, 0), (2, 1), (3, 1), (4, 2)] [] (by kernel_rfl) (by kernel_rfl) fun w128 S127 => Jg R (Jd2 (cs := [.slice ah x30.In.length ae, .slice af x30.Next.length ai]) I50 Z50 R R R (haC (f107.stp (S112.tr (S122.tr S127)) R R).cells R)) (Jg R (Jd2 (cs := [.slice ab p1.In.length aa, .slice ad p1.Next.length ac]) I47 Z47 R R R (haC (f73.stp (S001.tr S127) R R).cells R)) (Ob h fun x43 hx43 h => Jh R R R C27 (l_toRival_ok (κ := fun b => mp [] 0 (K121 b)) (p0 := p1) (Jl2 (f74.stp (S001.tr S127) R R) (mp [] 0) R R) (Jl2 (f75.stp (S001.tr S127) R R) (mp [] 0) R R) hx43) ?_)))))))
 rintro _ w133 ⟨k134, av, al, ak, ax, rfl, e135, f136, f137⟩
 obtain ⟨K138, S139, m140⟩ := Ji e135 31 R
 have S002 := (S122.tr (S127.tr S139))
 refine ⟨(S139.cl R), Ob h fun x44 hx44 h => Jh R R R C29 (l_eqRival_ok (κ := fun b => mp [] 0 (K138 b)) (p0 := x30) (p1 := x43) (Jl2 (f115.stp S002 R R).rdc (mp [] 0) R R) (Jl2 (f116.stp S002 R R).rdc (mp [] 0) R R) (Jl2 (f136.mx (no_int _) m140 R (R : 31 + 2 = 33)).rdc (mp [] 0) R R) (Jl2 (f137.mx (no_own (no_int _) _) m140 R (R : 31 + 3 = 34)).rdc (mp [] 0) R R) hx44) ?_⟩
 rintro _ w146 ⟨k147, rfl, e148⟩
 obtain ⟨K149, S150, m151⟩ := Ji e148 35 R
 refine ⟨((S139.tr S150).cl R), Jn 1 R (Jt1 (Jd ?_))⟩
 revert h
 cases ht153 : (!x44)
 refine JF fun h => Jy R (Js (Jp (Jq (Je [2, 2, 1, 1, 2] R (Jn 2 R (Ob h fun x48 hx48 h => Jh R R R C14 (l_toClauseS_ok (κ := fun b => mp [] 0 (K149 b)) (Jl2 (f94.stp (S100.tr (S104.tr (S112.tr (S122.tr (S127.tr (S139.tr S150)))))) R R) (mp [] 0) R R) hx48) ?_))))))
 rintro _ w156 ⟨k157, au, aw, rfl, e158, f159⟩
 obtain ⟨K160, S161, m162⟩ := Ji e158 37 R
 refine ⟨tv, Ob h fun x49 hx49 h => Jh R R R C17 (l_eqClauseS_ok (κ := fun b => mp [] 0 (K160 b)) (Jl2 (f117.stp (S122.tr (S127.tr (S139.tr (S150.tr S161)))) R R).rdc (mp [] 0) R R) (Jl2 (f159.mx Clause.no71 m162 R (R : 37 + 2 = 39)).rdc (mp [] 0) R R) hx49) ?_⟩
 rintro _ w166 ⟨k167, rfl, e168⟩
 obtain ⟨K169, S170, m171⟩ := Ji e168 40 R
 refine ⟨tv, Jb 1 R ?_⟩
 revert h
 cases ht173 : (!x49)
 refine JF fun h => Jy R (Js (Jp (Je [2] R (Jb 1 R (Ju (Ja2 (l := [.tmp 6]) V5 (Jp2 R R) R ?_))))))
 cases h
 exact ⟨K169, R, (hE.stp (S3.tr (S7.tr (S15.tr (S25.tr (S30.tr (S38.tr (S49.tr (S60.tr (S70.tr (S82.tr (S89.tr (S92.tr (S100.tr (S104.tr (S112.tr (S122.tr (S127.tr (S139.tr (S150.tr (S161.tr S170)))))))))))))))))))) R R)⟩
 refine JT fun h => Jx R (Je [2] R (Jb 1 R (Ju (Jw (Ja2 (l := [.tmp 6]) V5 (Jp2 R R) R ?_)))))
 cases h
 exact ⟨K169, R, (hE.stp (S3.tr (S7.tr (S15.tr (S25.tr (S30.tr (S38.tr (S49.tr (S60.tr (S70.tr (S82.tr (S89.tr (S92.tr (S100.tr (S104.tr (S112.tr (S122.tr (S127.tr (S139.tr (S150.tr (S161.tr S170)))))))))))))))))))) R R)⟩
 refine JT fun h => Jx R (Je [2] R (Jb 1 R (Ju (Jw (Ja2 (l := [.tmp 6]) V5 (Jp2 R R) R ?_)))))
 cases h
 exact ⟨K149, R, (hE.stp (S3.tr (S7.tr (S15.tr (S25.tr (S30.tr (S38.tr (S49.tr (S60.tr (S70.tr (S82.tr (S89.tr (S92.tr (S100.tr (S104.tr (S112.tr (S122.tr (S127.tr (S139.tr S150)))))))))))))))))) R R)⟩
 refine JT fun h => Jx R (Je [2] R (Jb 1 R (Ju (Jw (Ja2 (l := [.tmp 6]) V5 (Jp2 R R) R ?_)))))
 cases h
 exact ⟨K121, R, (hE.stp (S3.tr (S7.tr (S15.tr (S25.tr (S30.tr (S38.tr (S49.tr (S60.tr (S70.tr (S82.tr (S89.tr (S92.tr (S100.tr (S104.tr (S112.tr S122))))))))))))))) R R)⟩
 refine JT fun h => Jx R (Je [2] R (Jb 1 R (Ju (Jw (Ja2 (l := [.tmp 6]) V5 (Jp2 R R) R ?_)))))
 cases h
 exact ⟨K24, R, (hE.stp (S3.tr (S7.tr (S15.tr S25))) R R)⟩
 refine JT fun h => Jx R (Je [2] R (Jb 1 R (Ju (Jw (Ja2 (l := [.tmp 6]) V5 (Jp2 R R) R ?_)))))
 cases h
 exact ⟨K14, R, (hE.stp (S3.tr (S7.tr S15)) R R)⟩
end Go.Proofs.YtcmamhmpoinmnaaGreat
