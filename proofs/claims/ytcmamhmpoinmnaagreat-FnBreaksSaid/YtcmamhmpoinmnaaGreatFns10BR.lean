/- The walks, part 10. By program. -/
import Derived.Test.YtcmamhmpoinmnaaGreatFns9BR
set_option linter.unusedVariables false
set_option linter.unusedSimpArgs false
namespace Go.Proofs.YtcmamhmpoinmnaaGreat
open Go Go.Wk Go.Proofs
set_option maxRecDepth 100000
set_option maxHeartbeats 1000000
theorem i_areClauses_ok {w : World} {κ : Col} {p0 : Sig} {a1 u1} {p1 : (List Clause)} (g1 : Rd Clause.rp κ w 0 a1 u1 p1) {r : Bool} (h : i_areClauses p0 p1 = some r) : Ret Tryz.prog 79 [.agg #[vi p0.In, vi p0.Out], .slice a1 p1.length u1] w (fun v w' => ∃ (κ' : Col), v = .bool r ∧ Ent κ w κ' w') := by
 unfold i_areClauses at h
 refine Ret.enter F79 R N79 R ?_
 dsimp only [envOf]
 have hE := Ent.refl κ w
 refine Je [1, 2] R (Jf1 (κ := κ) 2 R R R R R R R fun b2 w1 K2 S3 f4 => ⟨tv, Jb 1 R (Je [2, 2, 2, 2, 2, 2, 1, 2, 2, 2] R (Jn 1 R (Jf R (Je2 U35 R R) (Jn 2 R (Ob h fun p13 h hK5 => Ju1 [(4, 2), (5, 2), (6, 1), (7, 2), (8, 2)] [(9, 2)] (fun L w' => L = [(4, .bool false), (13, .bool p13)] ∧ ∃ κ', Stp [] K2 w1 κ' w') tv ?_ ?_)))))⟩)
 revert h
 cases ht6 : decide ((p1.length : Int) ≤ 3)
 refine JF fun h => Jn 2 R (Jd1 R R R R (Jn 2 R ?_))
 cases h
 exact Jv1 _ tv ⟨R, _, (Jx2 _ _).wk R⟩ (KM R)
 refine JT fun h => Jn 1 R (Jf R (rn_makeFunc (first := []) (captured := [.tmp 2]) R R R ⟨_, R⟩) (Ob h fun x11 hx11 h => Jh R R R C127 (slices_ContainsFunc_i_Clause_i_Clause__i_areClauses_1_ok (κ := fun b => mp [] 0 (K2 b)) (c1_0 := p0) (Jl2 (g1.stp S3 R R) (mp [] 0) R R) (f4.map (mp [] 0) R R) hx11) ?_))
 rintro _ w8 ⟨k9, rfl, e10⟩
 obtain ⟨K11, S12, m13⟩ := Ji e10 3 R
 refine ⟨tv, Jn 2 R ?_⟩
 cases h
 exact Jv1 _ tv ⟨R, _, S12.wk R⟩ (KM R)
 rintro _ w15 _ ⟨rfl, K16, S17⟩
 have h := hK5
 refine Jb 1 R (Ju (Ja2 (l := [.tmp 4]) V79 (Jp2 R R) R ?_))
 cases h
 exact ⟨K16, R, (hE.stp (S3.tr S17) R R)⟩
theorem i_ProductOf_ok {w : World} {κ : Col} {p0 : Sig} {a1 u1} {p1 : (List Clause)} (g1 : Rd Clause.rp κ w 0 a1 u1 p1) {r : Det × Bool} (h : i_ProductOf p0 p1 = some r) : Ret Tryz.prog 71 [.agg #[vi p0.In, vi p0.Out], .slice a1 p1.length u1] w (fun v w' => ∃ (κ' : Col) (ra0 : Option Addr) (ru0 : Nat) (ra1 : Option Addr) (ru1 : Nat), v = .tuple #[.agg #[.slice ra0 r.1.Next.length ru0, .slice ra1 r.1.Pairs.length ru1], .bool r.2] ∧ Ent κ w κ' w' ∧ Oc (Ep.own E6 2) 40 κ' w' 2 ra0 ru0 r.1.Next ∧ Oc Pair.ep92 92 κ' w' 3 ra1 ru1 r.1.Pairs) := by
 unfold i_ProductOf at h
 refine Ret.enter F71 R N71 R ?_
 dsimp only [envOf]
 have hE := Ent.refl κ w
 refine Je [1, 1, 2] R (Jf1 (κ := κ) 2 R R R R R R R fun b2 w1 K2 S3 f4 => ⟨tv, Jg1 (κ := K2) 3 R R R R R X94 R fun b4 w5 K6 S7 f8 => ⟨tv, Jb 1 R (Jq (Je [1, 1, 2, 2, 1, 2, 1, 2, 2] R ?_))⟩⟩)
 have f9 := f4.stp S7 R R
 refine Jl tv R R R R (Jd2 (cs := [vi p0.In, vi p0.Out]) I31 Z31 R R R (haE f9.cells)) (Ob h fun x12 hx12 h => Jh R R R C69 (i_isSig_ok (κ := fun b => mp [] 0 (K6 b)) (p0 := p0) hx12) ?_)
 rintro _ w10 ⟨k11, rfl, e12⟩
 obtain ⟨K13, S14, m15⟩ := Ji e12 4 R
 refine ⟨tv, Jn 2 R (Ob h fun p19 h hK17 => Ju1 [(4, 1), (5, 2), (6, 1), (7, 2), (8, 2)] [] (fun L w' => L = [(1, .slice a1 p1.length u1), (2, .pointer (some ⟨b2, 0, none⟩)), (4, .pointer (some ⟨b4, 0, none⟩)), (19, .bool p19)] ∧ ∃ κ', Stp [] K13 w10 κ' w') tv ?_ ?_)⟩
 revert h
 cases ht18 : (!x12)
 refine JF fun h => Jl tv R R R R (Jd2 (cs := [vi p0.In, vi p0.Out]) I31 Z31 R R R (haE (f9.stp S14 R R).cells)) (Jn 1 R (Ob h fun x17 hx17 h => Jh R R R C79 (i_areClauses_ok (κ := fun b => mp [] 0 (K13 b)) (p0 := p0) (Jl2 (g1.stp (S3.tr (S7.tr S14)) R R) (mp [] 0) R R) hx17) ?_))
 rintro _ w21 ⟨k22, rfl, e23⟩
 obtain ⟨K24, S25, m26⟩ := Ji e23 6 R
 refine ⟨tv, Jn 2 R ?_⟩
 cases h
 exact Jv1 _ tv ⟨R, _, S25.wk R⟩ (KM R)
 refine JT fun h => Jd1 R R R R (Jn 1 R (Jd1 R R R R (Jn 2 R ?_)))
 cases h
 exact Jv1 _ tv ⟨R, _, (Jx2 _ _).wk R⟩ (KM R)
 rintro _ w28 _ ⟨rfl, K29, S30⟩
 have h := hK17
 refine Jd ?_
 revert h
 cases ht31 : p19
 refine JF fun h => Jy R (Js (Jp (Je [1, 1, 1, 1, 2, 1, 1] R ?_)))
 have f37 := f9.stp (S14.tr S30) R R
 refine Jl tv R R R R (Jd2 (cs := [vi p0.In, vi p0.Out]) I31 Z31 R R R (haE f37.cells)) (Ob h fun x22 hx22 h => Jh R R R C119 (i_lettersOf_ok (κ := fun b => mp [] 0 (K29 b)) (p0 := p0) hx22) ?_)
 rintro _ w38 ⟨k39, rfl, e40⟩
 obtain ⟨K41, S42, m43⟩ := Ji e40 6 R
 refine ⟨tv, Ob h fun x23 hx23 h => Jl1 (κ := K41) (E := E6) (z := (0 : Int)) 8 R R R R R R R Y40 Tryzinfo2 R R R R R (fun _ _ _ => R) (Ju2 hx23) fun aw av w45 K46 S47 f48 => ⟨tv, Jn1 (κ := K46) (E := (Ep.own E6 2)) 9 [8] (parts := [(0, .tmp 23)]) (cells := [.slice aw x23.length av]) (xs := ([x23] : List (List Int))) R R R R R R Y24 Tryzinfo40 R R R R R R R R R R ⟨[.slice aw x23.length av], [], Zl K46 w45 [8], Zl K46 w45 [], R, Zl.sp (l1 := [8]) (l2 := []) R, Zl.sr (l1 := [8]) (l2 := []), ⟨_, _, R, f48⟩, R⟩ fun ar au w49 K50 S51 f52 => ⟨tv, Jf R (rn_build (parts := [(0, .tmp 24)]) (cells := [.slice ar ([x23] : List (List Int)).length au, .slice none 0 0]) R R (by kernel_rfl)) (Jg1 (κ := K50) 10 R R R R R X94 R fun b6 w53 K54 S55 f56 => ⟨tv, Jj1 (κ := K54) 10 (vc := [.slice ar ([x23] : List (List Int)).length au, .slice none 0 0]) R R R R R R R Z94 R R f56 R fun w57 S58 f59 => ⟨tv, Jd (Jq (Je [2, 2, 2] R (Jn 1 R (Jf R (Je2 U35 R R) (Jb 1 R ?_)))))⟩⟩)⟩⟩⟩
 have hN60 : (p1.length : Int) ≤ 9223372036854775807 := g1.len_le
 refine Ob h fun q2 hq62 hK61 => ?_
 clear h
 refine Jx1 (fun L w' => ∃ κ', ∃ s3 : (List (List Int)) × (List Pair), ∃ ae al aj af, L = [(4, .pointer (some ⟨b4, 0, none⟩)), (6, .pointer (some ⟨b6, 0, none⟩))] ∧ Stp [10, 12, 13, 14, 17, 19, 20, 21] K54 w57 κ' w' ∧ Oc (Ep.own E6 2) 40 κ' w' 9 ae al s3.1 ∧ Oc Pair.ep92 92 κ' w' 11 aj af s3.2 ∧ Bc κ' w' 10 b6 94 [.slice ae s3.1.length al, .slice aj s3.2.length af] ∧ q2 = Sum.inr s3) ?_ ?_
 refine Jv (Jy1 (fun k L w' => ∃ κ' v28, ∃ s1 : (List (List Int)) × (List Pair), ∃ ao an aq ap, L = [(2, .pointer (some ⟨b2, 0, none⟩)), (4, .pointer (some ⟨b4, 0, none⟩)), (6, .pointer (some ⟨b6, 0, none⟩)), (26, .slice a1 p1.length u1), (27, vi (p1.length : Int)), (28, vi v28)] ∧ Stp [10, 12, 13, 14, 17, 19, 20, 21] K54 w57 κ' w' ∧ Oc (Ep.own E6 2) 40 κ' w' 9 ao an s1.1 ∧ Oc Pair.ep92 92 κ' w' 11 aq ap s1.2 ∧ Bc κ' w' 10 b6 94 [.slice ao s1.1.length an, .slice aq s1.2.length ap] ∧ 0 ≤ v28 ∧ Int.toNat ((p1.length : Int) - v28) = k ∧ cntM (i_ProductOf_b0 p0 p1) k v28 s1 = some q2) ⟨_, _, ⟨K54, 0, ((([x23] : List (List Int)) : (List (List Int))), (([] : List Pair) : (List Pair))), ar, au, none, 0, R, (Jx2 _ _).wk R, (f52.stp (S55.tr S58) R R), Ow.nil, f59, (by decide), (by simp), hq62⟩, (KM R)⟩ ?_)
 rintro k _ w69 ⟨K70, v28, s1, ao, an, aq, ap, rfl, S71, f72, f73, f74, hj60, hJ60, h⟩
 rcases k with _ | k
 have hk76 := h; obtain ⟨o60, h⟩ := ex_eq (Sum.inr (Sum.inl s1) : (Det × Bool) ⊕ (((List (List Int)) × (List Pair)) ⊕ ((List (List Int)) × (List Pair))))
 have hc60 : decide (v28 < (p1.length : Int)) = false := Jo2 (by omega)
 refine Je [2] R (Jb 1 R (Jq (Jw2 R hc60 (Jc1 (Jt (Jt ?_))))))
 cases h
 have h := hk76
 refine Jb1 ?_
 cases h
 exact Jw1 _ ⟨K70, ((s1.1 : (List (List Int))), (s1.2 : (List Pair))), ao, an, aq, ap, R, S71.wk R, f72, f73, f74, R⟩ (KM R)
 obtain ⟨o60, h, hk76⟩ := BI h; unfold i_ProductOf_b0 at h
 have hc60 : decide (v28 < (p1.length : Int)) = true := Jn2 (by omega)
 refine Je [2] R (Jb 1 R (Jq (Jv2 R hc60 (Js (Jp (Jq (Jv (Je [2, 1, 1, 1] R (Ob h fun x30 hx30 h => Jf R (Jf2 g1 hx30 U35 Z71 R R R R) ?_)))))))))
 obtain ⟨cse78, hre78, hle78⟩ := ((g1.stp (S3.tr (S7.tr (S14.tr (S30.tr (S42.tr (S47.tr (S51.tr (S55.tr (S58.tr S71))))))))) R R)).gSt hx30
 obtain ⟨ae78_0, ue78_0, ae78_1, ue78_1, rfl, fe78_0, fe78_1⟩ := Clause.un hre78
 refine Jl tv R R R R (Jd2 (cs := [vi x30.Kind, .slice ae78_0 x30.A.length ue78_0, .slice ae78_1 x30.B.length ue78_1]) I71 Z71 R R R (haE hle78)) (Jg1 (κ := K70) 12 R R R R R X71 R fun b8 w79 K80 S81 f82 => ⟨tv, Jj1 (κ := K80) 12 (vc := [vi x30.Kind, .slice ae78_0 x30.A.length ue78_0, .slice ae78_1 x30.B.length ue78_1]) R R R R R R R Z71 R R f82 R fun w83 S84 f85 => ⟨tv, Jd (Jq (Ob h fun x36 hx36 h => Ob h fun x37 hx37 h => Jx1 (fun L w' => ∃ κ' b9 am ak ai ah, L = [(2, .pointer (some ⟨b2, 0, none⟩)), (4, .pointer (some ⟨b4, 0, none⟩)), (6, .pointer (some ⟨b6, 0, none⟩)), (9, .pointer (some ⟨b9, 0, none⟩)), (10, .bool x37.2), (26, .slice a1 p1.length u1), (27, vi (p1.length : Int)), (28, vi v28)] ∧ Stp [13, 17, 19, 20, 21] K80 w83 κ' w' ∧ Oc (Ep.own E6 2) 40 κ' w' 13 am ak x37.1.Next ∧ Oc Pair.ep92 92 κ' w' 14 ai ah x37.1.Pairs ∧ Bc κ' w' 15 b9 94 [.slice am x37.1.Next.length ak, .slice ai x37.1.Pairs.length ah]) ?_ ?_))⟩⟩)
 refine WC.rxt (κ := K80) [2, 10, 12] none (by kernel_rfl) fun w93 S94 => Jq1 (fuel := 8) [(0, 0), (1, 0), (2, 0)] (by kernel_rfl) (by kernel_rfl) R (Jg R (Jd2 (cs := [.slice ao s1.1.length an, .slice aq s1.2.length ap]) I94 Z94 R R R (haC (f74.stp (S81.tr (S84.tr S94)) R R).cells R)) (Jg R (Jd2 (cs := [vi p0.In, vi p0.Out]) I31 Z31 R R R (haC (f37.stp (S42.tr (S47.tr (S51.tr (S55.tr (S58.tr (S71.tr (S81.tr (S84.tr S94)))))))) R R).cells R)) (Jg R (Jd2 (cs := [vi x30.Kind, .slice ae78_0 x30.A.length ue78_0, .slice ae78_1 x30.B.length ue78_1]) I71 Z71 R R R (haC (f85.stp S94 R R).cells R)) (Jp1 (WA.fork2 (fuel := 7) 3 8 (by kernel_rfl) R ?_ ?_)))))
 refine Jh R R R C121 (i_monitorOf_ok (κ := fun b => mp [] 0 (K80 b)) (p0 := p0) (p1 := x30) (Jl2 (fe78_0.stp (S81.tr (S84.tr S94)) R R) (mp [] 0) R R) (Jl2 (fe78_1.stp (S81.tr (S84.tr S94)) R R) (mp [] 0) R R) hx36) ?_
 rintro _ w100 ⟨k101, ay, aA, ax, az, rfl, e102, f103, f104⟩
 obtain ⟨K105, S106, m107⟩ := Ji e102 13 R
 refine ⟨(S106.cl R), ?_⟩
 have f109 := f103.mx (no_own (no_int _) _) m107 R (R : 13 + 2 = 15)
 have f110 := f104.mx Pair.no92 m107 R (R : 13 + 3 = 16)
 refine Jp1 (WA.fork2 (fuel := 6) 4 8 (by kernel_rfl) R ?_ ?_)
 have S001 := (S81.tr (S84.tr (S94.tr S106)))
 refine Jh R R R C120 (i_joinedDet_ok (κ := fun b => mp [] 0 (K105 b)) (p0 := (⟨s1.1, s1.2⟩ : Det)) (p1 := x36) (Jl2 (f72.stp S001 R R).rdc (mp [] 0) R R) (Jl2 (f73.stp S001 R R).rdc (mp [] 0) R R) (Jl2 f109.rdc (mp [] 0) R R) (Jl2 f110.rdc (mp [] 0) R R) hx37) ?_
 rintro _ w113 ⟨k114, aa, ab, ac, ad, rfl, e115, f116, f117⟩
 obtain ⟨K118, S119, m120⟩ := Ji e115 17 R
 have S002 := (S106.tr S119)
 exact ⟨(S002.cl R), Jp1 (Jq1 (fuel := 0) [(5, 2), (6, 2), (7, 2), (8, 1), (9, 1), (10, 2)] (by kernel_rfl) (by kernel_rfl) R (Jn 3 R (Jg1 (κ := K118) 21 R R R R R X94 R fun b9 w124 K125 S126 f127 => ⟨((S002.tr S126).cl R), Jj1 (κ := K125) 21 (vc := [.slice aa x37.1.Next.length ab, .slice ac x37.1.Pairs.length ad]) R R R R R R R Z94 R R f127 R fun w128 S129 f130 => ⟨((S002.tr (S126.tr S129)).cl R), Jn 1 R (Jp1 (Jr1 [] (by kernel_rfl) (by kernel_rfl) R (Jo (Jw1 _ ⟨(fun b => ren [(19, 13), (20, 14), (21, 15)] (K125 b)), b9, aa, ab, ac, ad, R, (Jy2 ((S94.tr (S106.tr (S119.tr (S126.tr S129)))).wk R) [(19, 13), (20, 14), (21, 15)] R), (((f116.mx (no_own (no_int _) _) m120 R (R : 17 + 2 = 19)).stp (S126.tr S129) R R).map (ren [(19, 13), (20, 14), (21, 15)]) R R), (((f117.mx Pair.no92 m120 R (R : 17 + 3 = 20)).stp (S126.tr S129) R R).map (ren [(19, 13), (20, 14), (21, 15)]) R R), (f130.map (ren [(19, 13), (20, 14), (21, 15)]) R R)⟩ (KM R)))))⟩⟩)))⟩
 have S003 := (S81.tr (S84.tr (S94.tr S106)))
 refine Jg1 (κ := K105) 17 R R R R R X94 R fun b9 w133 K134 S135 f136 => ⟨((S106.tr S135).cl R), Jp1 (Jq1 (fuel := 0) [(4, 1), (5, 2), (6, 2), (7, 2), (9, 1), (10, 2)] (by kernel_rfl) (by kernel_rfl) R (Jh R R R C120 (i_joinedDet_ok (κ := fun b => mp [] 0 (K134 b)) (p0 := (⟨s1.1, s1.2⟩ : Det)) (p1 := x36) (Jl2 (f72.stp (S003.tr S135) R R).rdc (mp [] 0) R R) (Jl2 (f73.stp (S003.tr S135) R R).rdc (mp [] 0) R R) (Jl2 (f109.stp S135 R R).rdc (mp [] 0) R R) (Jl2 (f110.stp S135 R R).rdc (mp [] 0) R R) hx37) ?_))⟩
 rintro _ w141 ⟨k142, aa, ab, ac, ad, rfl, e143, f144, f145⟩
 obtain ⟨K146, S147, m148⟩ := Ji e143 18 R
 have S004 := (S106.tr (S135.tr S147))
 exact ⟨(S004.cl R), Jn 3 R (Jj1 (κ := K146) 17 (vc := [.slice aa x37.1.Next.length ab, .slice ac x37.1.Pairs.length ad]) R R R R R R R Z94 R R (f136.stp S147 R R) R fun w153 S154 f155 => ⟨((S004.tr S154).cl R), Jn 1 R (Jp1 (Jr1 [] (by kernel_rfl) (by kernel_rfl) R (Jo (Jw1 _ ⟨(fun b => ren [(20, 13), (21, 14), (17, 15)] (K146 b)), b9, aa, ab, ac, ad, R, (Jy2 ((S94.tr (S106.tr (S135.tr (S147.tr S154)))).wk R) [(20, 13), (21, 14), (17, 15)] R), (((f144.mx (no_own (no_int _) _) m148 R (R : 18 + 2 = 20)).stp S154 R R).map (ren [(20, 13), (21, 14), (17, 15)]) R R), (((f145.mx Pair.no92 m148 R (R : 18 + 3 = 21)).stp S154 R R).map (ren [(20, 13), (21, 14), (17, 15)]) R R), (f155.map (ren [(20, 13), (21, 14), (17, 15)]) R R)⟩ (KM R)))))⟩)⟩
 refine Jg1 (κ := K80) 13 R R R R R X94 R fun b9 w158 K159 S160 f161 => ⟨(S160.cl R), Jp1 (Jq1 (fuel := 0) [(3, 1), (4, 1), (5, 2), (6, 2), (7, 2), (9, 1), (10, 2)] (by kernel_rfl) (by kernel_rfl) R (Jh R R R C121 (i_monitorOf_ok (κ := fun b => mp [] 0 (K159 b)) (p0 := p0) (p1 := x30) (Jl2 (fe78_0.stp (S81.tr (S84.tr (S94.tr S160))) R R) (mp [] 0) R R) (Jl2 (fe78_1.stp (S81.tr (S84.tr (S94.tr S160))) R R) (mp [] 0) R R) hx36) ?_))⟩
 rintro _ w164 ⟨k165, ay, aA, ax, az, rfl, e166, f167, f168⟩
 obtain ⟨K169, S170, m171⟩ := Ji e166 14 R
 have S005 := (S81.tr (S84.tr (S94.tr (S160.tr S170))))
 refine ⟨((S160.tr S170).cl R), Jh R R R C120 (i_joinedDet_ok (κ := fun b => mp [] 0 (K169 b)) (p0 := (⟨s1.1, s1.2⟩ : Det)) (p1 := x36) (Jl2 (f72.stp S005 R R).rdc (mp [] 0) R R) (Jl2 (f73.stp S005 R R).rdc (mp [] 0) R R) (Jl2 (f167.mx (no_own (no_int _) _) m171 R (R : 14 + 2 = 16)).rdc (mp [] 0) R R) (Jl2 (f168.mx Pair.no92 m171 R (R : 14 + 3 = 17)).rdc (mp [] 0) R R) hx37) ?_⟩
 rintro _ w177 ⟨k178, aa, ab, ac, ad, rfl, e179, f180, f181⟩
 obtain ⟨K182, S183, m184⟩ := Ji e179 18 R
 have S006 := (S160.tr (S170.tr S183))
 exact ⟨(S006.cl R), Jn 3 R (Jj1 (κ := K182) 13 (vc := [.slice aa x37.1.Next.length ab, .slice ac x37.1.Pairs.length ad]) R R R R R R R Z94 R R (f161.stp (S170.tr S183) R R) R fun w189 S190 f191 => ⟨((S006.tr S190).cl R), Jn 1 R (Jp1 (Jr1 [] (by kernel_rfl) (by kernel_rfl) R (Jo (Jw1 _ ⟨(fun b => ren [(20, 13), (21, 14), (13, 15)] (K182 b)), b9, aa, ab, ac, ad, R, (Jy2 ((S94.tr (S160.tr (S170.tr (S183.tr S190)))).wk R) [(20, 13), (21, 14), (13, 15)] R), (((f180.mx (no_own (no_int _) _) m184 R (R : 18 + 2 = 20)).stp S190 R R).map (ren [(20, 13), (21, 14), (13, 15)]) R R), (((f181.mx Pair.no92 m184 R (R : 18 + 3 = 21)).stp S190 R R).map (ren [(20, 13), (21, 14), (13, 15)]) R R), (f191.map (ren [(20, 13), (21, 14), (13, 15)]) R R)⟩ (KM R)))))⟩)⟩
 rintro _ w86 ⟨K87, b9, am, ak, ai, ah, rfl, S88, f90, f91, f92⟩
 refine Jp (Jq (Je [2, 2] R (Jb 2 R ?_)))
 revert h
 cases ht194 : (!x37.2)
 refine JF fun h => Jy R (Js (Jp (Ja [1, 1] R (Jl tv R R R R (Jd2 (cs := [.slice am x37.1.Next.length ak, .slice ai x37.1.Pairs.length ah]) I94 Z94 R R R (haE f92.cells)) (Jj1 (κ := K87) 10 (vc := [.slice am x37.1.Next.length ak, .slice ai x37.1.Pairs.length ah]) R R R R R R R Z94 R R (f74.stp (S81.tr (S84.tr S88)) R R) R fun w201 S202 f203 => ⟨tv, Jo (Jz (Jp (Ja [2, 2] R (Jc 2 R ?_))))⟩)))))
 have hw60 : IntKind.wrap .i64 (v28 + 1) = v28 + 1 := wr1 hj60 (Jm2 hc60) hN60
 rw [hw60]
 have hc60 := Jm2 hc60
 cases h
 exact Jz1 fun a ha => ⟨k, _, Ja3 _, ⟨(fun b => ren [(13, 9), (14, 11)] (K87 b)), v28 + 1, ((x37.1.Next : (List (List Int))), (x37.1.Pairs : (List Pair))), am, ak, ai, ah, R, (Jy2 ((S71.tr (S81.tr (S84.tr (S88.tr S202)))).wk R) [(13, 9), (14, 11)] R), ((f90.stp S202 R R).map (ren [(13, 9), (14, 11)]) R R), ((f91.stp S202 R R).map (ren [(13, 9), (14, 11)]) R R), (f203.map (ren [(13, 9), (14, 11)]) R R), by omega, by omega, hk76⟩, (ha.mm R)⟩
 refine JT fun h => Jx R (Je [2, 1, 2] R (Jf R (rn_build (parts := []) (cells := [.slice none 0 0, .slice none 0 0]) R R (by kernel_rfl)) (Jj1 (κ := K87) 3 (vc := [.slice none 0 0, .slice none 0 0]) R R R R R R R Z94 R R (f8.stp (S14.tr (S30.tr (S42.tr (S47.tr (S51.tr (S55.tr (S58.tr (S71.tr (S81.tr (S84.tr S88)))))))))) R R) R fun w196 S197 f198 => ⟨tv, Jb 1 R (Ju (Jw (Ja1 (Jw (Jw ?_)))))⟩)))
 cases h
 obtain rfl := Option.some.inj hk76
 have h := hK61
 dsimp only [aft] at h
 refine Ja1 (Jq2 (Jw (Ja2 (l := [.cell 4 94, .tmp 5]) V71 (res_cellA R f198 I94 Z94 R (Jp2 R R)) R ?_)))
 cases h
 exact ⟨K87, none, 0, none, 0, R, (hE.stp (S3.tr (S7.tr (S14.tr (S30.tr (S42.tr (S47.tr (S51.tr (S55.tr (S58.tr (S71.tr (S81.tr (S84.tr (S88.tr S197))))))))))))) R R), Ow.nil, Ow.nil⟩
 rintro _ w63 ⟨K64, s3, ae, al, aj, af, rfl, S65, f66, f67, f68, rfl⟩
 have h := hK61
 dsimp only [aft] at h
 refine Jp (Je [1, 1, 2] R (Jl tv R R R R (Jd2 (cs := [.slice ae s3.1.length al, .slice aj s3.2.length af]) I94 Z94 R R R (haE f68.cells)) (Jj1 (κ := K64) 3 (vc := [.slice ae s3.1.length al, .slice aj s3.2.length af]) R R R R R R R Z94 R R (f8.stp (S14.tr (S30.tr (S42.tr (S47.tr (S51.tr (S55.tr (S58.tr S65))))))) R R) R fun w207 S208 f209 => ⟨tv, Jb 1 R (Ju (Ja2 (l := [.cell 4 94, .tmp 5]) V71 (res_cellA R f209 I94 Z94 R (Jp2 R R)) R ?_))⟩)))
 cases h
 exact ⟨(fun b => ren [(9, 2), (11, 3)] (K64 b)), ae, al, aj, af, R, ((hE.stp (S3.tr (S7.tr (S14.tr (S30.tr (S42.tr (S47.tr (S51.tr (S55.tr (S58.tr (S65.tr S208)))))))))) R R).map (ren [(9, 2), (11, 3)]) R R), ((f66.stp S208 R R).map (ren [(9, 2), (11, 3)]) R R), ((f67.stp S208 R R).map (ren [(9, 2), (11, 3)]) R R)⟩
 refine JT fun h => Jx R (Je [2, 1, 2] R (Jf R (rn_build (parts := []) (cells := [.slice none 0 0, .slice none 0 0]) R R (by kernel_rfl)) (Jj1 (κ := K29) 3 (vc := [.slice none 0 0, .slice none 0 0]) R R R R R R R Z94 R R (f8.stp (S14.tr S30) R R) R fun w33 S34 f35 => ⟨tv, Jb 1 R (Ju (Jw (Ja2 (l := [.cell 4 94, .tmp 5]) V71 (res_cellA R f35 I94 Z94 R (Jp2 R R)) R ?_)))⟩)))
 cases h
 exact ⟨K29, none, 0, none, 0, R, (hE.stp (S3.tr (S7.tr (S14.tr (S30.tr S34)))) R R), Ow.nil, Ow.nil⟩
theorem i_watchAll_ok {w : World} {κ : Col} {p0 : Sig} {ab ad aa ac} {p1 : Machine} {a2 u2} {p2 : (List Clause)} (g1_0 : Rd (Rp.sl (Rp.int .i64)) κ w 0 ab ad p1.Next) (g1_1 : Rd (Rp.sl (Rp.int .i64)) κ w 0 aa ac p1.Out) (g2 : Rd Clause.rp κ w 0 a2 u2 p2) {r : (Option watch) × Bool} (h : i_watchAll p0 p1 p2 = some r) : Ret Tryz.prog 52 [.agg #[vi p0.In, vi p0.Out], .agg #[.slice ab p1.Next.length ad, .slice aa p1.Out.length ac], .slice a2 p2.length u2] w (fun v w' => ∃ (κ' : Col) (ra0 : Option Addr) (ru0 : Nat) (ra1 : Option Addr) (ru1 : Nat) (ra2 : Option Addr) (ru2 : Nat) (rb3 : Nat), v = .tuple #[.pointer (bif r.1.isSome then some ⟨rb3, 0, none⟩ else none), .bool r.2] ∧ Ent κ w κ' w' ∧ Oc (Ep.own E6 2) 40 κ' w' 2 ra0 ru0 ((r.1.getD (⟨([] : List (List Int)), ([] : List (List Int)), ([] : List Pair)⟩ : watch)).next) ∧ Oc (Ep.own E6 2) 40 κ' w' 3 ra1 ru1 ((r.1.getD (⟨([] : List (List Int)), ([] : List (List Int)), ([] : List Pair)⟩ : watch)).letters) ∧ Oc Pair.ep92 92 κ' w' 4 ra2 ru2 ((r.1.getD (⟨([] : List (List Int)), ([] : List (List Int)), ([] : List Pair)⟩ : watch)).pairs) ∧ (r.1.isSome = true → Bc κ' w' 5 rb3 120 [.slice ra0 ((r.1.getD (⟨([] : List (List Int)), ([] : List (List Int)), ([] : List Pair)⟩ : watch)).next).length ru0, .slice ra1 ((r.1.getD (⟨([] : List (List Int)), ([] : List (List Int)), ([] : List Pair)⟩ : watch)).letters).length ru1, .slice ra2 ((r.1.getD (⟨([] : List (List Int)), ([] : List (List Int)), ([] : List Pair)⟩ : watch)).pairs).length ru2])) := by
 unfold i_watchAll at h
 refine Ret.enter F52 R N52 R ?_
 dsimp only [envOf]
 have hE := Ent.refl κ w
 refine Je [1, 1, 2, 2] R (Jf1 (κ := κ) 2 R R R R R R R fun b3 w1 K2 S3 f4 => ⟨tv, Jf1 (κ := K2) 3 R R R R R R R fun b4 w5 K6 S7 f8 => ⟨tv, Jb 2 R (Jq (Je [1, 1, 2, 2, 1, 1, 1, 2, 2] R ?_))⟩⟩)
 have f9 := f4.stp S7 R R
 refine Jl tv R R R R (Jd2 (cs := [vi p0.In, vi p0.Out]) I31 Z31 R R R (haE f9.cells)) (Ob h fun x11 hx11 h => Jh R R R C69 (i_isSig_ok (κ := fun b => mp [] 0 (K6 b)) (p0 := p0) hx11) ?_)
 rintro _ w10 ⟨k11, rfl, e12⟩
 obtain ⟨K13, S14, m15⟩ := Ji e12 4 R
 refine ⟨tv, Jn 2 R (Ob h fun p18 h hK17 => Ju1 [(4, 1), (5, 1), (6, 1), (7, 2), (8, 2)] [] (fun L w' => L = [(2, .slice a2 p2.length u2), (3, .pointer (some ⟨b3, 0, none⟩)), (4, .pointer (some ⟨b4, 0, none⟩)), (18, .bool p18)] ∧ ∃ κ', Stp [] K13 w10 κ' w') tv ?_ ?_)⟩
 revert h
 cases ht18 : (!x11)
 refine JF fun h => Jl tv R R R R (Jd2 (cs := [vi p0.In, vi p0.Out]) I31 Z31 R R R (haE (f9.stp S14 R R).cells)) (Jl tv R R R R (Jd2 (cs := [.slice ab p1.Next.length ad, .slice aa p1.Out.length ac]) I33 Z33 R R R (haE (f8.stp S14 R R).cells)) (Ob h fun x16 hx16 h => Jh R R R C106 (i_isMachine_ok (κ := fun b => mp [] 0 (K13 b)) (p0 := p0) (p1 := p1) (Jl2 (g1_0.stp (S3.tr (S7.tr S14)) R R) (mp [] 0) R R) (Jl2 (g1_1.stp (S3.tr (S7.tr S14)) R R) (mp [] 0) R R) hx16) ?_))
 rintro _ w23 ⟨k24, rfl, e25⟩
 obtain ⟨K26, S27, m28⟩ := Ji e25 6 R
 refine ⟨tv, Jn 2 R ?_⟩
 cases h
 exact Jv1 _ tv ⟨R, _, S27.wk R⟩ (KM R)
 refine JT fun h => Jd1 R R R R (Jd1 R R R R (Jd1 R R R R (Jn 2 R ?_)))
 cases h
 exact Jv1 _ tv ⟨R, _, (Jx2 _ _).wk R⟩ (KM R)
 rintro _ w30 _ ⟨rfl, K31, S32⟩
 have h := hK17
 refine Jd ?_
 revert h
 cases ht33 : p18
 refine JF fun h => Jy R (Js (Jp (Je [1, 2, 1, 2, 2, 2, 1, 1, 2] R ?_)))
 have f35 := f9.stp (S14.tr S32) R R
 refine Jl tv R R R R (Jd2 (cs := [vi p0.In, vi p0.Out]) I31 Z31 R R R (haE f35.cells)) (Jn 1 R (Ob h fun x22 hx22 h => Jh R R R C71 (i_ProductOf_ok (κ := fun b => mp [] 0 (K31 b)) (p0 := p0) (Jl2 (g2.stp (S3.tr (S7.tr (S14.tr S32))) R R) (mp [] 0) R R) hx22) ?_))
 rintro _ w37 ⟨k38, ah, af, ae, ai, rfl, e39, f40, f41⟩
 obtain ⟨K42, S43, m44⟩ := Ji e39 6 R
 refine ⟨tv, Jn 3 R (Jg1 (κ := K42) 10 R R R R R X94 R fun b8 w48 K49 S50 f51 => ⟨tv, Jj1 (κ := K49) 10 (vc := [.slice ah x22.1.Next.length af, .slice ae x22.1.Pairs.length ai]) R R R R R R R Z94 R R f51 R fun w52 S53 f54 => ⟨tv, Jb 1 R (Jq (Je [2, 2] R (Jb 2 R ?_)))⟩⟩)⟩
 revert h
 cases ht55 : (!x22.2)
 have S001 := (S3.tr (S7.tr (S14.tr (S32.tr (S43.tr (S50.tr S53))))))
 refine JF fun h => Jy R (Js (Jp (Je [1, 1, 1, 1, 2, 2, 2, 2] R (Jl tv R R R R (Jd2 (cs := [vi p0.In, vi p0.Out]) I31 Z31 R R R (haE (f35.stp (S43.tr (S50.tr S53)) R R).cells)) (Jl tv R R R R (Jd2 (cs := [.slice ab p1.Next.length ad, .slice aa p1.Out.length ac]) I33 Z33 R R R (haE (f8.stp (S14.tr (S32.tr (S43.tr (S50.tr S53)))) R R).cells)) (Jl tv R R R R (Jd2 (cs := [.slice ah x22.1.Next.length af, .slice ae x22.1.Pairs.length ai]) I94 Z94 R R R (haE f54.cells)) (Ob h fun x30 hx30 h => Jh R R R C107 (i_watchOf_ok (κ := fun b => mp [] 0 (K49 b)) (p0 := p0) (p1 := p1) (p2 := x22.1) (Jl2 (g1_0.stp S001 R R) (mp [] 0) R R) (Jl2 (g1_1.stp S001 R R) (mp [] 0) R R) (Jl2 ((f40.mx (no_own (no_int _) _) m44 R (R : 6 + 2 = 8)).stp (S50.tr S53) R R).rdc (mp [] 0) R R) (Jl2 ((f41.mx Pair.no92 m44 R (R : 6 + 3 = 9)).stp (S50.tr S53) R R).rdc (mp [] 0) R R) hx30) ?_)))))))
 rintro _ w63 ⟨k64, al, ak, an, am, ao, aj, b30, rfl, e65, f66, f67, f68, f69⟩
 obtain ⟨K70, S71, m72⟩ := Ji e65 11 R
 refine ⟨tv, Jb 4 R (Ju (Ja2 (l := [.tmp 6, .tmp 7]) V52 (Jp2 R (Jp2 R R)) R ?_))⟩
 cases h
 exact ⟨(fun b => ren [(13, 2), (14, 3), (15, 4), (16, 5)] (K70 b)), al, ak, an, am, ao, aj, b30, R, ((hE.stp (S3.tr (S7.tr (S14.tr (S32.tr (S43.tr (S50.tr (S53.tr S71))))))) R R).map (ren [(13, 2), (14, 3), (15, 4), (16, 5)]) R R), ((f66.mx (no_own (no_int _) _) m72 R (R : 11 + 2 = 13)).map (ren [(13, 2), (14, 3), (15, 4), (16, 5)]) R R), ((f67.mx (no_own (no_int _) _) m72 R (R : 11 + 3 = 14)).map (ren [(13, 2), (14, 3), (15, 4), (16, 5)]) R R), ((f68.mx Pair.no92 m72 R (R : 11 + 4 = 15)).map (ren [(13, 2), (14, 3), (15, 4), (16, 5)]) R R), (fun hs => (((fun hs => (f69 hs).mx m72 R (R : 11 + 5 = 16)) hs).map (ren [(13, 2), (14, 3), (15, 4), (16, 5)]) R R))⟩
 refine JT fun h => Jx R (Je [2, 2] R (Jb 2 R (Ju (Jw (Ja2 (l := [.tmp 6, .tmp 7]) V52 (Jp2 R (Jp2 R R)) R ?_)))))
 cases h
 exact ⟨K49, none, 0, none, 0, none, 0, 0, R, (hE.stp (S3.tr (S7.tr (S14.tr (S32.tr (S43.tr (S50.tr S53)))))) R R), Ow.nil, Ow.nil, Ow.nil, (fun h => absurd h Bool.false_ne_true)⟩
 refine JT fun h => Jx R (Je [2, 2] R (Jb 2 R (Ju (Jw (Ja2 (l := [.tmp 6, .tmp 7]) V52 (Jp2 R (Jp2 R R)) R ?_)))))
 cases h
 exact ⟨K31, none, 0, none, 0, none, 0, 0, R, (hE.stp (S3.tr (S7.tr (S14.tr S32))) R R), Ow.nil, Ow.nil, Ow.nil, (fun h => absurd h Bool.false_ne_true)⟩
theorem s_DetOk_ok {w : World} {κ : Col} {p0 : Sig} {ab ad aa ac} {p1 : Det} (g1_0 : Rd (Rp.sl (Rp.int .i64)) κ w 0 ab ad p1.Next) (g1_1 : Rd Pair.rp κ w 0 aa ac p1.Pairs) {r : Bool} (h : s_DetOk p0 p1 = some r) : Ret Tryz.prog 135 [.agg #[vi p0.In, vi p0.Out], .agg #[.slice ab p1.Next.length ad, .slice aa p1.Pairs.length ac]] w (fun v w' => ∃ (κ' : Col), v = .bool r ∧ Ent κ w κ' w') := by
 unfold s_DetOk at h
 refine Ret.enter F135 R N135 R ?_
 dsimp only [envOf]
 have hE := Ent.refl κ w
 refine Je [1, 1, 2] R (Jf1 (κ := κ) 2 R R R R R R R fun b2 w1 K2 S3 f4 => ⟨tv, Jf1 (κ := K2) 3 R R R R R R R fun b3 w5 K6 S7 f8 => ⟨tv, Jb 1 R (Je [2, 1, 2, 2] R (Jf R (Jb2 U94 R Z24 R R) (Jl tv R R R R (Jc2 I24 R R (hvE (f8.ld 0 R R))) (Jf R (Je2 U24 R R) (Jb 1 R (Jq (Je [1, 1, 2, 2, 2, 1, 2, 2] R ?_)))))))⟩⟩)
 have f9 := f4.stp S7 R R
 refine Jl tv R R R R (Jd2 (cs := [vi p0.In, vi p0.Out]) I31 Z31 R R R (haE f9.cells)) (Ob h fun x11 hx11 h => Jh R R R C84 (s_SigOk_ok (κ := fun b => mp [] 0 (K6 b)) (p0 := p0) hx11) ?_)
 rintro _ w10 ⟨k11, rfl, e12⟩
 obtain ⟨K13, S14, m15⟩ := Ji e12 4 R
 refine ⟨tv, Jn 2 R (Ob h fun p17 h hK17 => Ju1 [(4, 2), (5, 1), (6, 2), (7, 2)] [] (fun L w' => L = [(2, .pointer (some ⟨b2, 0, none⟩)), (3, .pointer (some ⟨b3, 0, none⟩)), (5, vi (p1.Next.length : Int)), (17, .bool p17)] ∧ ∃ κ', Stp [] K13 w10 κ' w') tv ?_ ?_)⟩
 revert h
 cases ht18 : (!x11)
 refine JF fun h => Jn 1 R (Ob h fun x15 hx15 h => Jh R R R C77 (s_l1In_ok (κ := fun b => mp [] 0 (K13 b)) hx15) ?_)
 rintro _ w19 ⟨k20, rfl, e21⟩
 obtain ⟨K22, S23, m24⟩ := Ji e21 6 R
 refine ⟨tv, Jn 2 R ?_⟩
 cases h
 exact Jv1 _ tv ⟨R, _, S23.wk R⟩ (KM R)
 refine JT fun h => Jn 1 R (Jd1 R R R R (Jn 2 R ?_))
 cases h
 exact Jv1 _ tv ⟨R, _, (Jx2 _ _).wk R⟩ (KM R)
 rintro _ w26 _ ⟨rfl, K27, S28⟩
 have h := hK17
 refine Jd ?_
 revert h
 cases ht29 : p17
 refine JF fun h => Jy R (Js (Jp (Jq (Je [2] R (Jb 1 R ?_)))))
 have hN31 : (p1.Next.length : Int) ≤ 9223372036854775807 := g1_0.len_le
 refine Ob h fun q2 hq33 hK32 => ?_
 clear h
 refine Jx1 (fun L w' => ∃ κ', L = [(3, .pointer (some ⟨b3, 0, none⟩)), (5, vi (p1.Next.length : Int))] ∧ Stp [] K27 w26 κ' w' ∧ q2 = Sum.inr ()) ?_ ?_
 refine Jv (Jy1 (fun k L w' => ∃ κ' v6, L = [(2, .pointer (some ⟨b2, 0, none⟩)), (3, .pointer (some ⟨b3, 0, none⟩)), (5, vi (p1.Next.length : Int)), (6, vi v6)] ∧ Stp [] K27 w26 κ' w' ∧ 0 ≤ v6 ∧ Int.toNat ((p1.Next.length : Int) - v6) = k ∧ cntM (s_DetOk_b0 p0 p1) k v6 () = some q2) ⟨_, _, ⟨K27, 0, R, (Jx2 _ _).wk R, (by decide), (by simp), hq33⟩, (KM R)⟩ ?_)
 rintro k _ w37 ⟨K38, v6, rfl, S39, hj31, hJ31, h⟩
 rcases k with _ | k
 have hk40 := h; obtain ⟨o31, h⟩ := ex_eq (Sum.inr (Sum.inl ()) : Bool ⊕ ((Unit) ⊕ (Unit)))
 have hc31 : decide (v6 < (p1.Next.length : Int)) = false := Jo2 (by omega)
 refine Jq (Je [2, 2, 1, 2, 2] R (Jn 1 R (Jf R (Jb2 U94 R Z24 R R) (Jl tv R R R R (Jc2 I24 R R (hvE ((f8.stp (S14.tr (S28.tr S39)) R R).ld 0 R R))) (Jf R (Je2 U24 R R) (Jb 1 R (Jw2 R hc31 (Jc1 (Jt (Jt ?_))))))))))
 cases h
 have h := hk40
 refine Jb1 ?_
 cases h
 exact Jw1 _ ⟨K38, R, S39.wk R, R⟩ (KM R)
 obtain ⟨o31, h, hk40⟩ := BI h; unfold s_DetOk_b0 at h
 have hc31 : decide (v6 < (p1.Next.length : Int)) = true := Jn2 (by omega)
 refine Jq (Je [2, 2, 1, 2, 2] R (Jn 1 R (Jf R (Jb2 U94 R Z24 R R) ?_)))
 have f42 := f8.stp (S14.tr (S28.tr S39)) R R
 refine Jl tv R R R R (Jc2 I24 R R (hvE (f42.ld 0 R R))) (Jf R (Je2 U24 R R) (Jb 1 R (Jv2 R hc31 (Js (Jp (Jq (Jv (Jq (Js1 (κ := K38) [0, 2, 3] none [(0, 2), (2, 2), (1, 0), (3, 2), (4, 0), (5, 2), (6, 0), (7, 1), (8, 2), (9, 2), (10, 2), (12, 2), (15, 2), (11, 0), (13, 2), (14, 0), (16, 1), (17, 2), (18, 2)] [] (by kernel_rfl) (by kernel_rfl) fun w44 S43 => Jf R (Jb2 U94 R Z24 R R) (Jn 1 R ?_))))))))))
 have f45 := f42.stp S43 R R
 refine Jg R (Jc2 I24 R R (hvC (f45.ld 0 R R) R)) (Ob h fun x28 hx28 h => Jf R (Jf2 g1_0 hx28 U24 Z40 R R R R) ?_)
 have f46 := g1_0.stp (S3.tr (S7.tr (S14.tr (S28.tr (S39.tr S43))))) R R
 obtain ⟨ax28, ux28, f47, hl48⟩ := f46.gSl hx28
 refine Jg R (Jc2 I40 R R (hvC hl48 R)) (Jf R (Je2 U40 R R) (Jg R (Jd2 (cs := [vi p0.In, vi p0.Out]) I31 Z31 R R R (haC (f9.stp (S14.tr (S28.tr (S39.tr S43))) R R).cells R)) (Ob h fun x32 hx32 h => Jh R R R C86 (s_LettersOf_ok (κ := fun b => mp [] 0 (K38 b)) (p0 := p0) hx32) ?_)))
 rintro _ w50 ⟨k51, rfl, e52⟩
 obtain ⟨K53, S54, m55⟩ := Ji e52 6 R
 refine ⟨(S54.cl R), Jn 2 R (Ob h fun p43 h hK57 => Ju1 [(10, 2), (12, 2), (15, 2), (11, 0), (13, 2), (14, 0), (16, 1), (17, 2), (18, 2)] [] (fun L w' => L = [(2, .pointer (some ⟨b2, 0, none⟩)), (3, .pointer (some ⟨b3, 0, none⟩)), (5, vi (p1.Next.length : Int)), (6, vi v6), (43, .bool p43)] ∧ ∃ κ', Stp [] K53 w50 κ' w') (S54.cl R) ?_ ?_)⟩
 revert h
 cases ht58 : ((x28.length : Int) != x32)
 refine JF fun h => Jf R (Jb2 U94 R Z24 R R) (Jn 2 R (Jg R (Jc2 I24 R R (hvC (f45.ld 0 R R) R)) (Ob h fun x38 hx38 h => Jf R (Jf2 f46 hx38 U24 Z40 R R R R) ?_)))
 obtain ⟨ax38, ux38, f59, hl60⟩ := f46.gSl hx38
 refine Jg R (Jc2 I40 R R (hvC hl60 R)) (Ob h fun x41 hx41 h => Jh R R R C112 (s_l23Below_ok (κ := fun b => mp [] 0 (K53 b)) (Jl2 (f59.stp S54 R R) (mp [] 0) R R) hx41) ?_)
 rintro _ w62 ⟨k63, rfl, e64⟩
 obtain ⟨K65, S66, m67⟩ := Ji e64 8 R
 refine ⟨((S54.tr S66).cl R), Jn 2 R ?_⟩
 cases h
 exact Jv1 _ ((S54.tr S66).cl R) ⟨R, _, S66.wk R⟩ (KM R)
 refine JT fun h => Jn 3 R (Je1 R R R R (Jn 1 R (Je1 R R R R (Jd1 R R R R (Jn 2 R ?_)))))
 cases h
 exact Jv1 _ (S54.cl R) ⟨R, _, (Jx2 _ _).wk R⟩ (KM R)
 rintro _ w69 _ ⟨rfl, K70, S71⟩
 have h := hK57
 refine Jt1 (Jd ?_)
 revert h
 cases ht72 : p43
 refine JF fun h => Jy R (Js (Jz (Jp (Ja [2, 2, 2] R (Jc 3 R ?_)))))
 have hw31 : IntKind.wrap .i64 (v6 + 1) = v6 + 1 := wr1 hj31 (Jm2 hc31) hN31
 rw [hw31]
 have hc31 := Jm2 hc31
 cases h
 exact Jz1 fun a ha => ⟨k, _, Ja3 _, ⟨K70, v6 + 1, R, (S39.tr (S43.tr (S54.tr S71))).wk R, by omega, by omega, hk40⟩, (ha.mm R)⟩
 refine JT fun h => Jx R (Je [2] R (Jb 1 R (Ju (Ja1 (Jw (Jw ?_))))))
 cases h
 obtain rfl := Option.some.inj hk40
 have h := hK32
 dsimp only [aft] at h
 refine Ja1 (Jq2 (Jw (Ja2 (l := [.tmp 4]) V135 (Jp2 R R) R ?_)))
 cases h
 exact ⟨K70, R, (hE.stp (S3.tr (S7.tr (S14.tr (S28.tr (S39.tr (S43.tr (S54.tr S71))))))) R R)⟩
 rintro _ w34 ⟨K35, rfl, S36, rfl⟩
 have h := hK32
 dsimp only [aft] at h
 refine Jp (Je [2, 1, 2, 1, 2] R (Jf R (Jb2 U94 R Z79 R R) (Jl tv R R R R (Jc2 I79 R R (hvE ((f8.stp (S14.tr (S28.tr S36)) R R).ld 1 R R))) (Jn 1 R (Ob h fun x47 hx47 h => Jh R R R C163 (s_PairsOk_ok (κ := fun b => mp [] 0 (K35 b)) (Jl2 (g1_1.stp (S3.tr (S7.tr (S14.tr (S28.tr S36)))) R R) (mp [] 0) R R) hx47) ?_)))))
 rintro _ w76 ⟨k77, rfl, e78⟩
 obtain ⟨K79, S80, m81⟩ := Ji e78 6 R
 refine ⟨tv, Jb 1 R (Ju (Ja2 (l := [.tmp 4]) V135 (Jp2 R R) R ?_))⟩
 cases h
 exact ⟨K79, R, (hE.stp (S3.tr (S7.tr (S14.tr (S28.tr (S36.tr S80))))) R R)⟩
 refine JT fun h => Jx R (Je [2] R (Jb 1 R (Ju (Jw (Ja2 (l := [.tmp 4]) V135 (Jp2 R R) R ?_)))))
 cases h
 exact ⟨K27, R, (hE.stp (S3.tr (S7.tr (S14.tr S28))) R R)⟩
theorem s_JoinedDet_ok {w : World} {κ : Col} {p0 : Sig} {ae ai ad ah} {p1 : Det} {aa ac af ab} {p2 : Det} (g1_0 : Rd (Rp.sl (Rp.int .i64)) κ w 0 ae ai p1.Next) (g1_1 : Rd Pair.rp κ w 0 ad ah p1.Pairs) (g2_0 : Rd (Rp.sl (Rp.int .i64)) κ w 0 aa ac p2.Next) (g2_1 : Rd Pair.rp κ w 0 af ab p2.Pairs) {r : Det × Bool} (h : s_JoinedDet p0 p1 p2 = some r) : Ret Tryz.prog 110 [.agg #[vi p0.In, vi p0.Out], .agg #[.slice ae p1.Next.length ai, .slice ad p1.Pairs.length ah], .agg #[.slice aa p2.Next.length ac, .slice af p2.Pairs.length ab]] w (fun v w' => ∃ (κ' : Col) (ra0 : Option Addr) (ru0 : Nat) (ra1 : Option Addr) (ru1 : Nat), v = .tuple #[.agg #[.slice ra0 r.1.Next.length ru0, .slice ra1 r.1.Pairs.length ru1], .bool r.2] ∧ Ent κ w κ' w' ∧ Oc (Ep.own E6 2) 40 κ' w' 2 ra0 ru0 r.1.Next ∧ Oc Pair.ep92 92 κ' w' 3 ra1 ru1 r.1.Pairs) := by
 unfold s_JoinedDet at h
 refine Ret.enter F110 R N110 R ?_
 dsimp only [envOf]
 have hE := Ent.refl κ w
 refine Je [1, 1, 1, 1, 2] R (Jf1 (κ := κ) 2 R R R R R R R fun b3 w1 K2 S3 f4 => ⟨tv, Jf1 (κ := K2) 3 R R R R R R R fun b4 w5 K6 S7 f8 => ⟨tv, Jf1 (κ := K6) 4 R R R R R R R fun b5 w9 K10 S11 f12 => ⟨tv, Jg1 (κ := K10) 5 R R R R R X94 R fun b6 w13 K14 S15 f16 => ⟨tv, Jb 1 R (Jq (Je [1, 1, 1, 2, 2, 1, 1, 1, 2, 2, 2, 2, 1, 2, 2, 1, 2, 2, 2, 2] R ?_))⟩⟩⟩⟩)
 have f17 := f4.stp (S7.tr (S11.tr S15)) R R
 refine Jl tv R R R R (Jd2 (cs := [vi p0.In, vi p0.Out]) I31 Z31 R R R (haE f17.cells)) ?_
 have f18 := f8.stp (S11.tr S15) R R
 refine Jl tv R R R R (Jd2 (cs := [.slice ae p1.Next.length ai, .slice ad p1.Pairs.length ah]) I94 Z94 R R R (haE f18.cells)) (Ob h fun x10 hx10 h => ?_)
 have f19 := g1_0.stp (S3.tr (S7.tr (S11.tr S15))) R R
 have f20 := g1_1.stp (S3.tr (S7.tr (S11.tr S15))) R R
 refine Jh R R R C135 (s_DetOk_ok (κ := fun b => mp [] 0 (K14 b)) (p0 := p0) (p1 := p1) (Jl2 f19 (mp [] 0) R R) (Jl2 f20 (mp [] 0) R R) hx10) ?_
 rintro _ w21 ⟨k22, rfl, e23⟩
 obtain ⟨K24, S25, m26⟩ := Ji e23 6 R
 refine ⟨tv, Jn 2 R (Ob h fun p17 h hK28 => Ju1 [(5, 1), (6, 1), (7, 1), (8, 2), (9, 2)] [(10, 2), (11, 2), (12, 1), (13, 2), (14, 2), (15, 1), (16, 2), (17, 2), (18, 2), (19, 2)] (fun L w' => L = [(3, .pointer (some ⟨b3, 0, none⟩)), (4, .pointer (some ⟨b4, 0, none⟩)), (5, .pointer (some ⟨b5, 0, none⟩)), (6, .pointer (some ⟨b6, 0, none⟩)), (17, .bool p17)] ∧ ∃ κ', Stp [] K24 w21 κ' w') tv ?_ ?_)⟩
 revert h
 cases ht29 : (!x10)
 have S001 := (S3.tr (S7.tr (S11.tr (S15.tr S25))))
 refine JF fun h => Jl tv R R R R (Jd2 (cs := [vi p0.In, vi p0.Out]) I31 Z31 R R R (haE (f17.stp S25 R R).cells)) (Jl tv R R R R (Jd2 (cs := [.slice aa p2.Next.length ac, .slice af p2.Pairs.length ab]) I94 Z94 R R R (haE (f12.stp (S15.tr S25) R R).cells)) (Ob h fun x15 hx15 h => Jh R R R C135 (s_DetOk_ok (κ := fun b => mp [] 0 (K24 b)) (p0 := p0) (p1 := p2) (Jl2 (g2_0.stp S001 R R) (mp [] 0) R R) (Jl2 (g2_1.stp S001 R R) (mp [] 0) R R) hx15) ?_))
 rintro _ w34 ⟨k35, rfl, e36⟩
 obtain ⟨K37, S38, m39⟩ := Ji e36 8 R
 refine ⟨tv, Jn 2 R ?_⟩
 cases h
 exact Jv1 _ tv ⟨R, _, S38.wk R⟩ (KM R)
 refine JT fun h => Jd1 R R R R (Jd1 R R R R (Jd1 R R R R (Jn 2 R ?_)))
 cases h
 exact Jv1 _ tv ⟨R, _, (Jx2 _ _).wk R⟩ (KM R)
 rintro _ w41 _ ⟨rfl, K42, S43⟩
 have h := hK28
 refine Jn 1 R (Ob h fun p27 h hK44 => Ju1 [(11, 2), (12, 1), (13, 2), (14, 2), (15, 1), (16, 2), (17, 2), (18, 2), (19, 2)] [] (fun L w' => L = [(3, .pointer (some ⟨b3, 0, none⟩)), (4, .pointer (some ⟨b4, 0, none⟩)), (5, .pointer (some ⟨b5, 0, none⟩)), (6, .pointer (some ⟨b6, 0, none⟩)), (27, .bool p27)] ∧ ∃ κ', Stp [] K42 w41 κ' w') tv ?_ ?_)
 revert h
 cases ht45 : p17
 refine JF fun h => Jf R (Jb2 U94 R Z79 R R) (Jl tv R R R R (Jc2 I79 R R (hvE ((f18.stp (S25.tr S43) R R).ld 1 R R))) (Jf R (Je2 U79 R R) (Jf R (Jb2 U94 R Z79 R R) (Jl tv R R R R (Jc2 I79 R R (hvE ((f12.stp (S15.tr (S25.tr S43)) R R).ld 1 R R))) (Jf R (Je2 U79 R R) (Jn 3 R ?_))))))
 cases h
 exact Jv1 _ tv ⟨R, _, (Jx2 _ _).wk R⟩ (KM R)
 refine JT fun h => Jn 1 R (Jd1 R R R R (Jn 2 R (Jd1 R R R R (Jn 4 R ?_))))
 cases h
 exact Jv1 _ tv ⟨R, _, (Jx2 _ _).wk R⟩ (KM R)
 rintro _ w48 _ ⟨rfl, K49, S50⟩
 have h := hK44
 refine Jd ?_
 revert h
 cases ht51 : p27
 refine JF fun h => Jy R (Js (Jp (Jq (Js1 (κ := K49) [2, 3, 4] none [(0, 0), (1, 0), (2, 0), (3, 1), (4, 1), (5, 2), (6, 2), (7, 1), (8, 2)] [] (by kernel_rfl) (by kernel_rfl) fun w58 S57 => Jg R (Jd2 (cs := [.slice ae p1.Next.length ai, .slice ad p1.Pairs.length ah]) I94 Z94 R R R (haC (f18.stp (S25.tr (S43.tr (S50.tr S57))) R R).cells R)) (Jg R (Jd2 (cs := [.slice aa p2.Next.length ac, .slice af p2.Pairs.length ab]) I94 Z94 R R R (haC (f12.stp (S15.tr (S25.tr (S43.tr (S50.tr S57)))) R R).cells R)) (Jg R (Jd2 (cs := [vi p0.In, vi p0.Out]) I31 Z31 R R R (haC (f17.stp (S25.tr (S43.tr (S50.tr S57))) R R).cells R)) (Ob h fun x32 hx32 h => Jh R R R C86 (s_LettersOf_ok (κ := fun b => mp [] 0 (K49 b)) (p0 := p0) hx32) ?_)))))))
 rintro _ w62 ⟨k63, rfl, e64⟩
 obtain ⟨K65, S66, m67⟩ := Ji e64 8 R
 have S002 := (S3.tr (S7.tr (S11.tr (S15.tr (S25.tr (S43.tr (S50.tr (S57.tr S66))))))))
 have S003 := (S25.tr (S43.tr (S50.tr (S57.tr S66))))
 refine ⟨(S66.cl R), Ob h fun x33 hx33 h => Jh R R R C139 (s_l26Joined_ok (κ := fun b => mp [] 0 (K65 b)) (p0 := p1) (p1 := p2) (Jl2 (f19.stp S003 R R) (mp [] 0) R R) (Jl2 (f20.stp S003 R R) (mp [] 0) R R) (Jl2 (g2_0.stp S002 R R) (mp [] 0) R R) (Jl2 (g2_1.stp S002 R R) (mp [] 0) R R) hx33) ?_⟩
 rintro _ w73 ⟨k74, ak, aj, am, al, rfl, e75, f76, f77⟩
 obtain ⟨K78, S79, m80⟩ := Ji e75 10 R
 refine ⟨((S66.tr S79).cl R), Jn 2 R (Jj1 (κ := K78) 5 (vc := [.slice ak x33.1.Next.length aj, .slice am x33.1.Pairs.length al]) R R R R R R R Z94 R R (f16.stp (S25.tr (S43.tr (S50.tr (S57.tr (S66.tr S79))))) R R) R fun w85 S86 f87 => ⟨((S66.tr (S79.tr S86)).cl R), Jn 1 R (Jt1 (Jd (Ju (Ja2 (l := [.cell 6 94, .tmp 7]) V110 (res_cellA R f87 I94 Z94 R (Jp2 R R)) R ?_))))⟩)⟩
 cases h
 exact ⟨(fun b => ren [(12, 2), (13, 3)] (K78 b)), ak, aj, am, al, R, ((hE.stp (S3.tr (S7.tr (S11.tr (S15.tr (S25.tr (S43.tr (S50.tr (S57.tr (S66.tr (S79.tr S86)))))))))) R R).map (ren [(12, 2), (13, 3)]) R R), (((f76.mx (no_own (no_int _) _) m80 R (R : 10 + 2 = 12)).stp S86 R R).map (ren [(12, 2), (13, 3)]) R R), (((f77.mx Pair.no92 m80 R (R : 10 + 3 = 13)).stp S86 R R).map (ren [(12, 2), (13, 3)]) R R)⟩
 refine JT fun h => Jx R (Je [2, 1, 2] R (Jf R (rn_build (parts := []) (cells := [.slice none 0 0, .slice none 0 0]) R R (by kernel_rfl)) (Jj1 (κ := K49) 5 (vc := [.slice none 0 0, .slice none 0 0]) R R R R R R R Z94 R R (f16.stp (S25.tr (S43.tr S50)) R R) R fun w53 S54 f55 => ⟨tv, Jb 1 R (Ju (Jw (Ja2 (l := [.cell 6 94, .tmp 7]) V110 (res_cellA R f55 I94 Z94 R (Jp2 R R)) R ?_)))⟩)))
 cases h
 exact ⟨K49, none, 0, none, 0, R, (hE.stp (S3.tr (S7.tr (S11.tr (S15.tr (S25.tr (S43.tr (S50.tr S54))))))) R R), Ow.nil, Ow.nil⟩
theorem s_ProductOf_ok {w : World} {κ : Col} {p0 : Sig} {a1 u1} {p1 : (List Clause)} (g1 : Rd Clause.rp κ w 0 a1 u1 p1) {r : Det × Bool} (h : s_ProductOf p0 p1 = some r) : Ret Tryz.prog 59 [.agg #[vi p0.In, vi p0.Out], .slice a1 p1.length u1] w (fun v w' => ∃ (κ' : Col) (ra0 : Option Addr) (ru0 : Nat) (ra1 : Option Addr) (ru1 : Nat), v = .tuple #[.agg #[.slice ra0 r.1.Next.length ru0, .slice ra1 r.1.Pairs.length ru1], .bool r.2] ∧ Ent κ w κ' w' ∧ Oc (Ep.own E6 2) 40 κ' w' 2 ra0 ru0 r.1.Next ∧ Oc Pair.ep92 92 κ' w' 3 ra1 ru1 r.1.Pairs) := by
 unfold s_ProductOf at h
 refine Ret.enter F59 R N59 R ?_
 dsimp only [envOf]
 have hE := Ent.refl κ w
 refine Je [1, 1, 2] R (Jf1 (κ := κ) 2 R R R R R R R fun b2 w1 K2 S3 f4 => ⟨tv, Jg1 (κ := K2) 3 R R R R R X94 R fun b4 w5 K6 S7 f8 => ⟨tv, Jb 1 R (Jq (Je [1, 2, 1, 2] R ?_))⟩⟩)
 have f9 := f4.stp S7 R R
 refine Jl tv R R R R (Jd2 (cs := [vi p0.In, vi p0.Out]) I31 Z31 R R R (haE f9.cells)) (Jn 1 R (Ob h fun x12 hx12 h => ?_))
 have f10 := g1.stp (S3.tr S7) R R
 refine Jh R R R C76 (s_ClausesOk_ok (κ := fun b => mp [] 0 (K6 b)) (p0 := p0) (Jl2 f10 (mp [] 0) R R) hx12) ?_
 rintro _ w11 ⟨k12, rfl, e13⟩
 obtain ⟨K14, S15, m16⟩ := Ji e13 4 R
 refine ⟨tv, Jb 1 R ?_⟩
 revert h
 cases ht18 : (!x12)
 refine JF fun h => Jy R (Js (Jp (Je [1, 1, 1, 1, 2, 1, 1] R ?_)))
 have f24 := f9.stp S15 R R
 refine Jl tv R R R R (Jd2 (cs := [vi p0.In, vi p0.Out]) I31 Z31 R R R (haE f24.cells)) (Ob h fun x16 hx16 h => Jh R R R C86 (s_LettersOf_ok (κ := fun b => mp [] 0 (K14 b)) (p0 := p0) hx16) ?_)
 rintro _ w25 ⟨k26, rfl, e27⟩
 obtain ⟨K28, S29, m30⟩ := Ji e27 6 R
 refine ⟨tv, Ob h fun x17 hx17 h => Jl1 (κ := K28) (E := E6) (z := (0 : Int)) 8 R R R R R R R Y40 Tryzinfo2 R R R R R (fun _ _ _ => R) (Ju2 hx17) fun aw av w32 K33 S34 f35 => ⟨tv, Jn1 (κ := K33) (E := (Ep.own E6 2)) 9 [8] (parts := [(0, .tmp 17)]) (cells := [.slice aw x17.length av]) (xs := ([x17] : List (List Int))) R R R R R R Y24 Tryzinfo40 R R R R R R R R R R ⟨[.slice aw x17.length av], [], Zl K33 w32 [8], Zl K33 w32 [], R, Zl.sp (l1 := [8]) (l2 := []) R, Zl.sr (l1 := [8]) (l2 := []), ⟨_, _, R, f35⟩, R⟩ fun au ar w36 K37 S38 f39 => ⟨tv, Jf R (rn_build (parts := [(0, .tmp 18)]) (cells := [.slice au ([x17] : List (List Int)).length ar, .slice none 0 0]) R R (by kernel_rfl)) (Jg1 (κ := K37) 10 R R R R R X94 R fun b6 w40 K41 S42 f43 => ⟨tv, Jj1 (κ := K41) 10 (vc := [.slice au ([x17] : List (List Int)).length ar, .slice none 0 0]) R R R R R R R Z94 R R f43 R fun w44 S45 f46 => ⟨tv, Jd (Jq (Je [2] R (Jb 1 R ?_)))⟩⟩)⟩⟩⟩
 have hN47 : (p1.length : Int) ≤ 9223372036854775807 := f10.len_le
 refine Ob h fun q2 hq49 hK48 => ?_
 clear h
 refine Jx1 (fun L w' => ∃ κ', ∃ s3 : (List (List Int)) × (List Pair), ∃ af al aj ah, L = [(4, .pointer (some ⟨b4, 0, none⟩)), (6, .pointer (some ⟨b6, 0, none⟩))] ∧ Stp [10, 12, 13, 16, 18, 19, 20] K41 w44 κ' w' ∧ Oc (Ep.own E6 2) 40 κ' w' 9 af al s3.1 ∧ Oc Pair.ep92 92 κ' w' 11 aj ah s3.2 ∧ Bc κ' w' 10 b6 94 [.slice af s3.1.length al, .slice aj s3.2.length ah] ∧ q2 = Sum.inr s3) ?_ ?_
 refine Jv (Jy1 (fun k L w' => ∃ κ' v7, ∃ s1 : (List (List Int)) × (List Pair), ∃ ao an aq ap, L = [(1, .slice a1 p1.length u1), (2, .pointer (some ⟨b2, 0, none⟩)), (4, .pointer (some ⟨b4, 0, none⟩)), (6, .pointer (some ⟨b6, 0, none⟩)), (7, vi v7)] ∧ Stp [10, 12, 13, 16, 18, 19, 20] K41 w44 κ' w' ∧ Oc (Ep.own E6 2) 40 κ' w' 9 ao an s1.1 ∧ Oc Pair.ep92 92 κ' w' 11 aq ap s1.2 ∧ Bc κ' w' 10 b6 94 [.slice ao s1.1.length an, .slice aq s1.2.length ap] ∧ 0 ≤ v7 ∧ Int.toNat ((p1.length : Int) - v7) = k ∧ cntM (s_ProductOf_b0 p0 p1) k v7 s1 = some q2) ⟨_, _, ⟨K41, 0, ((([x17] : List (List Int)) : (List (List Int))), (([] : List Pair) : (List Pair))), au, ar, none, 0, R, (Jx2 _ _).wk R, (f39.stp (S42.tr S45) R R), Ow.nil, f46, (by decide), (by simp), hq49⟩, (KM R)⟩ ?_)
 rintro k _ w56 ⟨K57, v7, s1, ao, an, aq, ap, rfl, S58, f59, f60, f61, hj47, hJ47, h⟩
 rcases k with _ | k
 have hk63 := h; obtain ⟨o47, h⟩ := ex_eq (Sum.inr (Sum.inl s1) : (Det × Bool) ⊕ (((List (List Int)) × (List Pair)) ⊕ ((List (List Int)) × (List Pair))))
 have hc47 : decide (v7 < (p1.length : Int)) = false := Jo2 (by omega)
 refine Jq (Je [2, 2, 2, 2] R (Jn 2 R (Jf R (Je2 U35 R R) (Jb 1 R (Jw2 R hc47 (Jc1 (Jt (Jt ?_))))))))
 cases h
 have h := hk63
 refine Jb1 ?_
 cases h
 exact Jw1 _ ⟨K57, ((s1.1 : (List (List Int))), (s1.2 : (List Pair))), ao, an, aq, ap, R, S58.wk R, f59, f60, f61, R⟩ (KM R)
 obtain ⟨o47, h, hk63⟩ := BI h; unfold s_ProductOf_b0 at h
 have hc47 : decide (v7 < (p1.length : Int)) = true := Jn2 (by omega)
 refine Jq (Je [2, 2, 2, 2] R (Jn 2 R (Jf R (Je2 U35 R R) (Jb 1 R (Jv2 R hc47 (Js (Jp (Jq (Jv (Jq (Ob h fun x32 hx32 h => Ob h fun x34 hx34 h => Ob h fun x35 hx35 h => Jx1 (fun L w' => ∃ κ' b8 ae ai am ak, L = [(1, .slice a1 p1.length u1), (2, .pointer (some ⟨b2, 0, none⟩)), (4, .pointer (some ⟨b4, 0, none⟩)), (6, .pointer (some ⟨b6, 0, none⟩)), (7, vi v7), (8, .pointer (some ⟨b8, 0, none⟩)), (9, .bool x35.2)] ∧ Stp [12, 16, 18, 19, 20] K57 w56 κ' w' ∧ Oc (Ep.own E6 2) 40 κ' w' 12 ae ai x35.1.Next ∧ Oc Pair.ep92 92 κ' w' 13 am ak x35.1.Pairs ∧ Bc κ' w' 14 b8 94 [.slice ae x35.1.Next.length ai, .slice am x35.1.Pairs.length ak]) ?_ ?_)))))))))))
 refine WC.rxt (κ := K57) [0, 2, 10] none (by kernel_rfl) fun w71 S72 => Jq1 (fuel := 8) [(3, 2), (4, 2), (5, 2), (0, 0), (1, 0), (2, 0), (6, 0)] (by kernel_rfl) (by kernel_rfl) R (Jn 2 R (Jf R (Jf2 f10 hx32 U35 Z71 R R R R) ?_))
 have f73 := f24.stp (S29.tr (S34.tr (S38.tr (S42.tr (S45.tr (S58.tr S72)))))) R R
 refine Jg R (Jd2 (cs := [vi p0.In, vi p0.Out]) I31 Z31 R R R (haC f73.cells R)) (Jg R (Jd2 (cs := [.slice ao s1.1.length an, .slice aq s1.2.length ap]) I94 Z94 R R R (haC (f61.stp S72 R R).cells R)) (Jg R (Jd2 (cs := [vi p0.In, vi p0.Out]) I31 Z31 R R R (haC f73.cells R)) ?_))
 obtain ⟨cse76, hre76, hle76⟩ := ((f10.stp (S15.tr (S29.tr (S34.tr (S38.tr (S42.tr (S45.tr (S58.tr S72))))))) R R)).gSt hx32
 obtain ⟨ae76_0, ue76_0, ae76_1, ue76_1, rfl, fe76_0, fe76_1⟩ := Clause.un hre76
 refine Jg R (Jd2 (cs := [vi x32.Kind, .slice ae76_0 x32.A.length ue76_0, .slice ae76_1 x32.B.length ue76_1]) I71 Z71 R R R (haC hle76 R)) (Jp1 (WA.fork2 (fuel := 7) 7 12 (by kernel_rfl) R ?_ ?_))
 refine Jh R R R C111 (s_MonitorOf_ok (κ := fun b => mp [] 0 (K57 b)) (p0 := p0) (p1 := x32) (Jl2 fe76_0 (mp [] 0) R R) (Jl2 fe76_1 (mp [] 0) R R) hx34) ?_
 rintro _ w77 ⟨k78, ay, az, ax, aA, rfl, e79, f80, f81⟩
 obtain ⟨K82, S83, m84⟩ := Ji e79 12 R
 refine ⟨(S83.cl R), ?_⟩
 have f86 := f80.mx (no_own (no_int _) _) m84 R (R : 12 + 2 = 14)
 have f87 := f81.mx Pair.no92 m84 R (R : 12 + 3 = 15)
 refine Jp1 (WA.fork2 (fuel := 6) 8 12 (by kernel_rfl) R ?_ ?_)
 refine Jh R R R C110 (s_JoinedDet_ok (κ := fun b => mp [] 0 (K82 b)) (p0 := p0) (p1 := (⟨s1.1, s1.2⟩ : Det)) (p2 := x34) (Jl2 (f59.stp (S72.tr S83) R R).rdc (mp [] 0) R R) (Jl2 (f60.stp (S72.tr S83) R R).rdc (mp [] 0) R R) (Jl2 f86.rdc (mp [] 0) R R) (Jl2 f87.rdc (mp [] 0) R R) hx35) ?_
 rintro _ w90 ⟨k91, ab, ad, ac, aa, rfl, e92, f93, f94⟩
 obtain ⟨K95, S96, m97⟩ := Ji e92 16 R
 exact ⟨((S83.tr S96).cl R), Jp1 (Jq1 (fuel := 0) [(9, 2), (10, 2), (11, 2), (12, 1), (13, 1), (14, 2)] (by kernel_rfl) (by kernel_rfl) R (Jn 3 R (Jg1 (κ := K95) 20 R R R R R X94 R fun b8 w101 K102 S103 f104 => ⟨((S83.tr (S96.tr S103)).cl R), Jj1 (κ := K102) 20 (vc := [.slice ab x35.1.Next.length ad, .slice ac x35.1.Pairs.length aa]) R R R R R R R Z94 R R f104 R fun w105 S106 f107 => ⟨((S83.tr (S96.tr (S103.tr S106))).cl R), Jn 1 R (Jp1 (Jr1 [] (by kernel_rfl) (by kernel_rfl) R (Jo (Jw1 _ ⟨(fun b => ren [(18, 12), (19, 13), (20, 14)] (K102 b)), b8, ab, ad, ac, aa, R, (Jy2 ((S72.tr (S83.tr (S96.tr (S103.tr S106)))).wk R) [(18, 12), (19, 13), (20, 14)] R), (((f93.mx (no_own (no_int _) _) m97 R (R : 16 + 2 = 18)).stp (S103.tr S106) R R).map (ren [(18, 12), (19, 13), (20, 14)]) R R), (((f94.mx Pair.no92 m97 R (R : 16 + 3 = 19)).stp (S103.tr S106) R R).map (ren [(18, 12), (19, 13), (20, 14)]) R R), (f107.map (ren [(18, 12), (19, 13), (20, 14)]) R R)⟩ (KM R)))))⟩⟩)))⟩
 refine Jg1 (κ := K82) 16 R R R R R X94 R fun b8 w110 K111 S112 f113 => ⟨((S83.tr S112).cl R), Jp1 (Jq1 (fuel := 0) [(8, 1), (9, 2), (10, 2), (11, 2), (13, 1), (14, 2)] (by kernel_rfl) (by kernel_rfl) R (Jh R R R C110 (s_JoinedDet_ok (κ := fun b => mp [] 0 (K111 b)) (p0 := p0) (p1 := (⟨s1.1, s1.2⟩ : Det)) (p2 := x34) (Jl2 (f59.stp (S72.tr (S83.tr S112)) R R).rdc (mp [] 0) R R) (Jl2 (f60.stp (S72.tr (S83.tr S112)) R R).rdc (mp [] 0) R R) (Jl2 (f86.stp S112 R R).rdc (mp [] 0) R R) (Jl2 (f87.stp S112 R R).rdc (mp [] 0) R R) hx35) ?_))⟩
 rintro _ w118 ⟨k119, ab, ad, ac, aa, rfl, e120, f121, f122⟩
 obtain ⟨K123, S124, m125⟩ := Ji e120 17 R
 exact ⟨((S83.tr (S112.tr S124)).cl R), Jn 3 R (Jj1 (κ := K123) 16 (vc := [.slice ab x35.1.Next.length ad, .slice ac x35.1.Pairs.length aa]) R R R R R R R Z94 R R (f113.stp S124 R R) R fun w130 S131 f132 => ⟨((S83.tr (S112.tr (S124.tr S131))).cl R), Jn 1 R (Jp1 (Jr1 [] (by kernel_rfl) (by kernel_rfl) R (Jo (Jw1 _ ⟨(fun b => ren [(19, 12), (20, 13), (16, 14)] (K123 b)), b8, ab, ad, ac, aa, R, (Jy2 ((S72.tr (S83.tr (S112.tr (S124.tr S131)))).wk R) [(19, 12), (20, 13), (16, 14)] R), (((f121.mx (no_own (no_int _) _) m125 R (R : 17 + 2 = 19)).stp S131 R R).map (ren [(19, 12), (20, 13), (16, 14)]) R R), (((f122.mx Pair.no92 m125 R (R : 17 + 3 = 20)).stp S131 R R).map (ren [(19, 12), (20, 13), (16, 14)]) R R), (f132.map (ren [(19, 12), (20, 13), (16, 14)]) R R)⟩ (KM R)))))⟩)⟩
 refine Jg1 (κ := K57) 12 R R R R R X94 R fun b8 w135 K136 S137 f138 => ⟨(S137.cl R), Jp1 (Jq1 (fuel := 0) [(7, 1), (8, 1), (9, 2), (10, 2), (11, 2), (13, 1), (14, 2)] (by kernel_rfl) (by kernel_rfl) R (Jh R R R C111 (s_MonitorOf_ok (κ := fun b => mp [] 0 (K136 b)) (p0 := p0) (p1 := x32) (Jl2 (fe76_0.stp S137 R R) (mp [] 0) R R) (Jl2 (fe76_1.stp S137 R R) (mp [] 0) R R) hx34) ?_))⟩
 rintro _ w141 ⟨k142, ay, az, ax, aA, rfl, e143, f144, f145⟩
 obtain ⟨K146, S147, m148⟩ := Ji e143 13 R
 refine ⟨((S137.tr S147).cl R), Jh R R R C110 (s_JoinedDet_ok (κ := fun b => mp [] 0 (K146 b)) (p0 := p0) (p1 := (⟨s1.1, s1.2⟩ : Det)) (p2 := x34) (Jl2 (f59.stp (S72.tr (S137.tr S147)) R R).rdc (mp [] 0) R R) (Jl2 (f60.stp (S72.tr (S137.tr S147)) R R).rdc (mp [] 0) R R) (Jl2 (f144.mx (no_own (no_int _) _) m148 R (R : 13 + 2 = 15)).rdc (mp [] 0) R R) (Jl2 (f145.mx Pair.no92 m148 R (R : 13 + 3 = 16)).rdc (mp [] 0) R R) hx35) ?_⟩
 rintro _ w154 ⟨k155, ab, ad, ac, aa, rfl, e156, f157, f158⟩
 obtain ⟨K159, S160, m161⟩ := Ji e156 17 R
 have S001 := (S137.tr (S147.tr S160))
 exact ⟨(S001.cl R), Jn 3 R (Jj1 (κ := K159) 12 (vc := [.slice ab x35.1.Next.length ad, .slice ac x35.1.Pairs.length aa]) R R R R R R R Z94 R R (f138.stp (S147.tr S160) R R) R fun w166 S167 f168 => ⟨((S001.tr S167).cl R), Jn 1 R (Jp1 (Jr1 [] (by kernel_rfl) (by kernel_rfl) R (Jo (Jw1 _ ⟨(fun b => ren [(19, 12), (20, 13), (12, 14)] (K159 b)), b8, ab, ad, ac, aa, R, (Jy2 ((S72.tr (S137.tr (S147.tr (S160.tr S167)))).wk R) [(19, 12), (20, 13), (12, 14)] R), (((f157.mx (no_own (no_int _) _) m161 R (R : 17 + 2 = 19)).stp S167 R R).map (ren [(19, 12), (20, 13), (12, 14)]) R R), (((f158.mx Pair.no92 m161 R (R : 17 + 3 = 20)).stp S167 R R).map (ren [(19, 12), (20, 13), (12, 14)]) R R), (f168.map (ren [(19, 12), (20, 13), (12, 14)]) R R)⟩ (KM R)))))⟩)⟩
 rintro _ w64 ⟨K65, b8, ae, ai, am, ak, rfl, S66, f68, f69, f70⟩
 refine Jp (Jq (Je [2, 2] R (Jb 2 R ?_)))
 revert h
 cases ht171 : (!x35.2)
 refine JF fun h => Jy R (Js (Jp (Ja [1, 1] R (Jl tv R R R R (Jd2 (cs := [.slice ae x35.1.Next.length ai, .slice am x35.1.Pairs.length ak]) I94 Z94 R R R (haE f70.cells)) (Jj1 (κ := K65) 10 (vc := [.slice ae x35.1.Next.length ai, .slice am x35.1.Pairs.length ak]) R R R R R R R Z94 R R (f61.stp S66 R R) R fun w178 S179 f180 => ⟨tv, Jo (Jz (Jp (Ja [2, 2, 2] R (Jc 3 R ?_))))⟩)))))
 have hw47 : IntKind.wrap .i64 (v7 + 1) = v7 + 1 := wr1 hj47 (Jm2 hc47) hN47
 rw [hw47]
 have hc47 := Jm2 hc47
 cases h
 exact Jz1 fun a ha => ⟨k, _, Ja3 _, ⟨(fun b => ren [(12, 9), (13, 11)] (K65 b)), v7 + 1, ((x35.1.Next : (List (List Int))), (x35.1.Pairs : (List Pair))), ae, ai, am, ak, R, (Jy2 ((S58.tr (S66.tr S179)).wk R) [(12, 9), (13, 11)] R), ((f68.stp S179 R R).map (ren [(12, 9), (13, 11)]) R R), ((f69.stp S179 R R).map (ren [(12, 9), (13, 11)]) R R), (f180.map (ren [(12, 9), (13, 11)]) R R), by omega, by omega, hk63⟩, (ha.mm R)⟩
 refine JT fun h => Jx R (Je [2, 1, 2] R (Jf R (rn_build (parts := []) (cells := [.slice none 0 0, .slice none 0 0]) R R (by kernel_rfl)) (Jj1 (κ := K65) 3 (vc := [.slice none 0 0, .slice none 0 0]) R R R R R R R Z94 R R (f8.stp (S15.tr (S29.tr (S34.tr (S38.tr (S42.tr (S45.tr (S58.tr S66))))))) R R) R fun w173 S174 f175 => ⟨tv, Jb 1 R (Ju (Jw (Ja1 (Jw (Jw ?_)))))⟩)))
 cases h
 obtain rfl := Option.some.inj hk63
 have h := hK48
 dsimp only [aft] at h
 refine Ja1 (Jq2 (Jw (Ja2 (l := [.cell 4 94, .tmp 5]) V59 (res_cellA R f175 I94 Z94 R (Jp2 R R)) R ?_)))
 cases h
 exact ⟨K65, none, 0, none, 0, R, (hE.stp (S3.tr (S7.tr (S15.tr (S29.tr (S34.tr (S38.tr (S42.tr (S45.tr (S58.tr (S66.tr S174)))))))))) R R), Ow.nil, Ow.nil⟩
 rintro _ w50 ⟨K51, s3, af, al, aj, ah, rfl, S52, f53, f54, f55, rfl⟩
 have h := hK48
 dsimp only [aft] at h
 refine Jp (Je [1, 1, 2] R (Jl tv R R R R (Jd2 (cs := [.slice af s3.1.length al, .slice aj s3.2.length ah]) I94 Z94 R R R (haE f55.cells)) (Jj1 (κ := K51) 3 (vc := [.slice af s3.1.length al, .slice aj s3.2.length ah]) R R R R R R R Z94 R R (f8.stp (S15.tr (S29.tr (S34.tr (S38.tr (S42.tr (S45.tr S52)))))) R R) R fun w184 S185 f186 => ⟨tv, Jb 1 R (Ju (Ja2 (l := [.cell 4 94, .tmp 5]) V59 (res_cellA R f186 I94 Z94 R (Jp2 R R)) R ?_))⟩)))
 cases h
 exact ⟨(fun b => ren [(9, 2), (11, 3)] (K51 b)), af, al, aj, ah, R, ((hE.stp (S3.tr (S7.tr (S15.tr (S29.tr (S34.tr (S38.tr (S42.tr (S45.tr (S52.tr S185))))))))) R R).map (ren [(9, 2), (11, 3)]) R R), ((f53.stp S185 R R).map (ren [(9, 2), (11, 3)]) R R), ((f54.stp S185 R R).map (ren [(9, 2), (11, 3)]) R R)⟩
 refine JT fun h => Jx R (Je [2, 1, 2] R (Jf R (rn_build (parts := []) (cells := [.slice none 0 0, .slice none 0 0]) R R (by kernel_rfl)) (Jj1 (κ := K14) 3 (vc := [.slice none 0 0, .slice none 0 0]) R R R R R R R Z94 R R (f8.stp S15 R R) R fun w20 S21 f22 => ⟨tv, Jb 1 R (Ju (Jw (Ja2 (l := [.cell 4 94, .tmp 5]) V59 (res_cellA R f22 I94 Z94 R (Jp2 R R)) R ?_)))⟩)))
 cases h
 exact ⟨K14, none, 0, none, 0, R, (hE.stp (S3.tr (S7.tr (S15.tr S21))) R R), Ow.nil, Ow.nil⟩
theorem s_WatchOf_ok {w : World} {κ : Col} {p0 : Sig} {ac ao ar an} {p1 : Machine} {ak ah am al} {p2 : Det} (g1_0 : Rd (Rp.sl (Rp.int .i64)) κ w 0 ac ao p1.Next) (g1_1 : Rd (Rp.sl (Rp.int .i64)) κ w 0 ar an p1.Out) (g2_0 : Rd (Rp.sl (Rp.int .i64)) κ w 0 ak ah p2.Next) (g2_1 : Rd Pair.rp κ w 0 am al p2.Pairs) {r : (List (List Int)) × (List Pair) × Bool} (h : s_WatchOf p0 p1 p2 = some r) : Ret Tryz.prog 105 [.agg #[vi p0.In, vi p0.Out], .agg #[.slice ac p1.Next.length ao, .slice ar p1.Out.length an], .agg #[.slice ak p2.Next.length ah, .slice am p2.Pairs.length al]] w (fun v w' => ∃ (κ' : Col) (ra0 : Option Addr) (ru0 : Nat) (ra1 : Option Addr) (ru1 : Nat), v = .tuple #[.slice ra0 r.1.length ru0, .slice ra1 r.2.1.length ru1, .bool r.2.2] ∧ Ent κ w κ' w' ∧ Oc (Ep.own E6 2) 40 κ' w' 2 ra0 ru0 r.1 ∧ Oc Pair.ep92 92 κ' w' 3 ra1 ru1 r.2.1) := by
 unfold s_WatchOf at h
 refine Ret.enter F105 R N105 R ?_
 dsimp only [envOf]
 have hE := Ent.refl κ w
 refine Je [1, 1, 1, 2, 2, 2] R (Jf1 (κ := κ) 2 R R R R R R R fun b3 w1 K2 S3 f4 => ⟨tv, Jf1 (κ := K2) 3 R R R R R R R fun b4 w5 K6 S7 f8 => ⟨tv, Jf1 (κ := K6) 4 R R R R R R R fun b5 w9 K10 S11 f12 => ⟨tv, Jb 3 R (Jq (Je [1, 1, 1, 2, 2, 1, 1, 1, 2, 2] R ?_))⟩⟩⟩)
 have f13 := f4.stp (S7.tr S11) R R
 refine Jl tv R R R R (Jd2 (cs := [vi p0.In, vi p0.Out]) I31 Z31 R R R (haE f13.cells)) ?_
 have f14 := f8.stp S11 R R
 refine Jl tv R R R R (Jd2 (cs := [.slice ac p1.Next.length ao, .slice ar p1.Out.length an]) I33 Z33 R R R (haE f14.cells)) (Ob h fun x15 hx15 h => ?_)
 have f15 := g1_0.stp (S3.tr (S7.tr S11)) R R
 have f16 := g1_1.stp (S3.tr (S7.tr S11)) R R
 refine Jh R R R C97 (s_MachineOk_ok (κ := fun b => mp [] 0 (K10 b)) (p0 := p0) (p1 := p1) (Jl2 f15 (mp [] 0) R R) (Jl2 f16 (mp [] 0) R R) hx15) ?_
 rintro _ w17 ⟨k18, rfl, e19⟩
 obtain ⟨K20, S21, m22⟩ := Ji e19 5 R
 refine ⟨tv, Jn 2 R (Ob h fun p22 h hK24 => Ju1 [(5, 1), (6, 1), (7, 1), (8, 2), (9, 2)] [] (fun L w' => L = [(3, .pointer (some ⟨b3, 0, none⟩)), (4, .pointer (some ⟨b4, 0, none⟩)), (5, .pointer (some ⟨b5, 0, none⟩)), (22, .bool p22)] ∧ ∃ κ', Stp [] K20 w17 κ' w') tv ?_ ?_)⟩
 revert h
 cases ht25 : (!x15)
 have S001 := (S3.tr (S7.tr (S11.tr S21)))
 refine JF fun h => Jl tv R R R R (Jd2 (cs := [vi p0.In, vi p0.Out]) I31 Z31 R R R (haE (f13.stp S21 R R).cells)) (Jl tv R R R R (Jd2 (cs := [.slice ak p2.Next.length ah, .slice am p2.Pairs.length al]) I94 Z94 R R R (haE (f12.stp S21 R R).cells)) (Ob h fun x20 hx20 h => Jh R R R C135 (s_DetOk_ok (κ := fun b => mp [] 0 (K20 b)) (p0 := p0) (p1 := p2) (Jl2 (g2_0.stp S001 R R) (mp [] 0) R R) (Jl2 (g2_1.stp S001 R R) (mp [] 0) R R) hx20) ?_))
 rintro _ w30 ⟨k31, rfl, e32⟩
 obtain ⟨K33, S34, m35⟩ := Ji e32 7 R
 refine ⟨tv, Jn 2 R ?_⟩
 cases h
 exact Jv1 _ tv ⟨R, _, S34.wk R⟩ (KM R)
 refine JT fun h => Jd1 R R R R (Jd1 R R R R (Jd1 R R R R (Jn 2 R ?_)))
 cases h
 exact Jv1 _ tv ⟨R, _, (Jx2 _ _).wk R⟩ (KM R)
 rintro _ w37 _ ⟨rfl, K38, S39⟩
 have h := hK24
 refine Jd ?_
 revert h
 cases ht40 : p22
 refine JF fun h => Jy R (Js (Jp (Je [1, 1, 1, 1, 2, 2, 2, 1, 1, 2] R (Jl tv R R R R (Jd2 (cs := [vi p0.In, vi p0.Out]) I31 Z31 R R R (haE (f13.stp (S21.tr S39) R R).cells)) (Jl tv R R R R (Jd2 (cs := [.slice ac p1.Next.length ao, .slice ar p1.Out.length an]) I33 Z33 R R R (haE (f14.stp (S21.tr S39) R R).cells)) ?_)))))
 have f53 := f12.stp (S21.tr S39) R R
 refine Jl tv R R R R (Jd2 (cs := [.slice ak p2.Next.length ah, .slice am p2.Pairs.length al]) I94 Z94 R R R (haE f53.cells)) (Ob h fun x29 hx29 h => ?_)
 have f57 := g2_1.stp (S3.tr (S7.tr (S11.tr (S21.tr S39)))) R R
 refine Jh R R R C136 (s_l30Watch_ok (κ := fun b => mp [] 0 (K38 b)) (p0 := p0) (p1 := p1) (p2 := p2) (Jl2 (f15.stp (S21.tr S39) R R) (mp [] 0) R R) (Jl2 (f16.stp (S21.tr S39) R R) (mp [] 0) R R) (Jl2 (g2_0.stp (S3.tr (S7.tr (S11.tr (S21.tr S39)))) R R) (mp [] 0) R R) (Jl2 f57 (mp [] 0) R R) hx29) ?_
 rintro _ w58 ⟨k59, ay, az, aA, ax, aj, ab, aw, av, rfl, e60, f61, f62, f63, f64⟩
 obtain ⟨K65, S66, m67⟩ := Ji e60 7 R
 refine ⟨tv, ?_⟩
 have f71 := f63.mx (no_own (no_int _) _) m67 R (R : 7 + 4 = 11)
 refine Jn 3 R (Jg1 (κ := K65) 13 R R R R R X158 R fun b9 w73 K74 S75 f76 => ⟨tv, Jj1 (κ := K74) 13 (vc := [.slice ay x29.1.of.length az, .slice aA x29.1.by0.length ax, .slice aj x29.1.next.length ab, .slice aw x29.1.letters.length av]) R R R R R R R Z158 R R f76 R fun w77 S78 f79 => ⟨tv, Jb 1 R (Jq (Je [2, 2] R (Jb 2 R ?_)))⟩⟩)
 revert h
 cases ht80 : (!x29.2)
 refine JF fun h => Jy R (Js (Jp (Je [1, 2] R (Jo1 (κ := K74) (E := Pair.ep92) 14 R R R R R Y79 Tryzinfo92 R fun aH aI w91 K92 S93 f94 => ⟨tv, Jb 1 R (Jq (Je [2] R (Jb 1 R ?_)))⟩))))
 have hN95 : (p2.Pairs.length : Int) ≤ 9223372036854775807 := f57.len_le
 refine Ob h fun q2 hq97 hK96 => ?_
 clear h
 refine Jx1 (fun L w' => ∃ κ', ∃ s3 : (List Pair), ∃ ai au, L = [(9, .pointer (some ⟨b9, 0, none⟩)), (11, .slice ai s3.length au)] ∧ Stp [14, 17, 20, 21] K92 w91 κ' w' ∧ Oc Pair.ep92 92 κ' w' 14 ai au s3 ∧ q2 = Sum.inr s3) ?_ ?_
 refine Jv (Jy1 (fun k L w' => ∃ κ' v12, ∃ s1 : (List Pair), ∃ ap ae, L = [(5, .pointer (some ⟨b5, 0, none⟩)), (9, .pointer (some ⟨b9, 0, none⟩)), (11, .slice ap s1.length ae), (12, vi v12)] ∧ Stp [14, 17, 20, 21] K92 w91 κ' w' ∧ Oc Pair.ep92 92 κ' w' 14 ap ae s1 ∧ 0 ≤ v12 ∧ Int.toNat ((p2.Pairs.length : Int) - v12) = k ∧ cntM (s_WatchOf_b0 p2 x29) k v12 s1 = some q2) ⟨_, _, ⟨K92, 0, (([] : List Pair) : (List Pair)), aH, aI, R, (Jx2 _ _).wk R, f94, (by decide), (by simp), hq97⟩, (KM R)⟩ ?_)
 rintro k _ w102 ⟨K103, v12, s1, ap, ae, rfl, S104, f105, hj95, hJ95, h⟩
 rcases k with _ | k
 have hk106 := h; obtain ⟨o95, h⟩ := ex_eq (Sum.inr (Sum.inl s1) : ((List (List Int)) × (List Pair) × Bool) ⊕ (((List Pair)) ⊕ ((List Pair))))
 have hc95 : decide (v12 < (p2.Pairs.length : Int)) = false := Jo2 (by omega)
 refine Jq (Je [2, 2, 1, 2, 2] R (Jn 1 R (Jf R (Jb2 U94 R Z79 R R) (Jl tv R R R R (Jc2 I79 R R (hvE ((f53.stp (S66.tr (S75.tr (S78.tr (S93.tr S104)))) R R).ld 1 R R))) (Jf R (Je2 U79 R R) (Jb 1 R (Jw2 R hc95 (Jc1 (Jt (Jt ?_))))))))))
 cases h
 have h := hk106
 refine Jb1 ?_
 cases h
 exact Jw1 _ ⟨K103, (s1 : (List Pair)), ap, ae, R, S104.wk R, f105, R⟩ (KM R)
 obtain ⟨o95, h, hk106⟩ := BI h; unfold s_WatchOf_b0 at h
 have hc95 : decide (v12 < (p2.Pairs.length : Int)) = true := Jn2 (by omega)
 refine Jq (Je [2, 2, 1, 2, 2] R (Jn 1 R (Jf R (Jb2 U94 R Z79 R R) ?_)))
 have f108 := f53.stp (S66.tr (S75.tr (S78.tr (S93.tr S104)))) R R
 refine Jl tv R R R R (Jc2 I79 R R (hvE (f108.ld 1 R R))) (Jf R (Je2 U79 R R) (Jb 1 R (Jv2 R hc95 (Js (Jp (Jq (Jv (Js1 (κ := K103) [0, 4, 13] none [(0, 2), (2, 2), (4, 2), (10, 2), (12, 2), (1, 0), (3, 0), (5, 2), (6, 2), (7, 0), (9, 0), (11, 0), (13, 2), (14, 2), (15, 0), (8, 1), (16, 1), (17, 2), (18, 1), (19, 1), (20, 2)] [] (by kernel_rfl) (by kernel_rfl) fun w110 S109 => Jn 1 R (Jf R (Jb2 U94 R Z79 R R) (Jn 1 R (Jf R (Jb2 U94 R Z79 R R) (Jn 1 R ?_))))))))))))
 have f111 := f79.stp (S93.tr (S104.tr S109)) R R
 refine Jg R (Jd2 (cs := [.slice ay x29.1.of.length az, .slice aA x29.1.by0.length ax, .slice aj x29.1.next.length ab, .slice aw x29.1.letters.length av]) I158 Z158 R R R (haC f111.cells R)) ?_
 have f112 := f108.stp S109 R R
 refine Jg R (Jc2 I79 R R (hvC (f112.ld 1 R R) R)) (Ob h fun x49 hx49 h => Jf R (Jf2 f57 hx49 U79 Z92 R R R R) (Jf R (Jb2 U92 R Z40 R R) ?_))
 have f113 := f57.stp (S66.tr (S75.tr (S78.tr (S93.tr (S104.tr S109))))) R R
 obtain ⟨cse114, hre114, hle114⟩ := (f113).gSt hx49
 obtain ⟨ae114_0, ue114_0, ae114_1, ue114_1, rfl, fe114_0, fe114_1⟩ := Pair.un hre114
 refine Jg R (Jc2 I40 R R (hvC (fun w' hw' => hle114 w' hw' 0 _ R) R)) (Jg R (Jd2 (cs := [.slice ay x29.1.of.length az, .slice aA x29.1.by0.length ax, .slice aj x29.1.next.length ab, .slice aw x29.1.letters.length av]) I158 Z158 R R R (haC f111.cells R)) (Jg R (Jc2 I79 R R (hvC (f112.ld 1 R R) R)) (Ob h fun x57 hx57 h => Jf R (Jf2 f113 hx57 U79 Z92 R R R R) (Jf R (Jb2 U92 R Z40 R R) ?_))))
 obtain ⟨cse115, hre115, hle115⟩ := (f113).gSt hx57
 obtain ⟨ae115_0, ue115_0, ae115_1, ue115_1, rfl, fe115_0, fe115_1⟩ := Pair.un hre115
 refine Jg R (Jc2 I40 R R (hvC (fun w' hw' => hle115 w' hw' 1 _ R) R)) (Ob h fun x52 hx52 h => ?_)
 have f116 := (f61.mx (no_int _) m67 R (R : 7 + 2 = 9)).stp (S75.tr (S78.tr (S93.tr (S104.tr S109)))) R R
 have f117 := (f62.mx (no_int _) m67 R (R : 7 + 3 = 10)).stp (S75.tr (S78.tr (S93.tr (S104.tr S109)))) R R
 have f118 := f71.stp (S75.tr (S78.tr (S93.tr (S104.tr S109)))) R R
 have f119 := (f64.mx (no_own (no_int _) _) m67 R (R : 7 + 5 = 12)).stp (S75.tr (S78.tr (S93.tr (S104.tr S109)))) R R
 refine Jh R R R C137 (s_l30Part_ok (κ := fun b => mp [] 0 (K103 b)) (p0 := x29.1) (Jl2 f116.rdc (mp [] 0) R R) (Jl2 f117.rdc (mp [] 0) R R) (Jl2 f118.rdc (mp [] 0) R R) (Jl2 f119.rdc (mp [] 0) R R) (Jl2 fe114_0 (mp [] 0) R R) hx52) ?_
 rintro _ w120 ⟨k121, ad, af, rfl, e122, f123⟩
 obtain ⟨K124, S125, m126⟩ := Ji e122 15 R
 refine ⟨(S125.cl R), Ob h fun x60 hx60 h => Jh R R R C137 (s_l30Part_ok (κ := fun b => mp [] 0 (K124 b)) (p0 := x29.1) (Jl2 (f116.stp S125 R R).rdc (mp [] 0) R R) (Jl2 (f117.stp S125 R R).rdc (mp [] 0) R R) (Jl2 (f118.stp S125 R R).rdc (mp [] 0) R R) (Jl2 (f119.stp S125 R R).rdc (mp [] 0) R R) (Jl2 (fe115_1.stp S125 R R) (mp [] 0) R R) hx60) ?_⟩
 rintro _ w134 ⟨k135, aa, aq, rfl, e136, f137⟩
 obtain ⟨K138, S139, m140⟩ := Ji e136 18 R
 have S002 := (S125.tr S139)
 refine ⟨(S002.cl R), Jf R (rn_build (parts := [(0, .tmp 52), (1, .tmp 60)]) (cells := [.slice ad x52.length af, .slice aa x60.length aq]) R R (by kernel_rfl)) (Jn1 (κ := K138) (E := Pair.ep92) 21 [17, 20] (parts := [(0, .tmp 61)]) (cells := [.slice ad x52.length af, .slice aa x60.length aq]) (xs := ([(⟨x52, x60⟩ : Pair)] : List Pair)) R R R R R R Y79 Tryzinfo92 R R R R R R R R R R ⟨[.slice ad x52.length af, .slice aa x60.length aq], [], Zl K138 w134 [17, 20], Zl K138 w134 [], R, Zl.sp (l1 := [17, 20]) (l2 := []) R, Zl.sr (l1 := [17, 20]) (l2 := []), ⟨[.slice ad x52.length af], [.slice aa x60.length aq], Zl K138 w134 [17], Zl K138 w134 [20], R, Zl.sp (l1 := [17]) (l2 := [20]) R, Zl.sr (l1 := [17]) (l2 := [20]), ⟨_, _, R, ((f123.mx (no_int _) m126 R (R : 15 + 2 = 17)).stp S139 R R)⟩, ⟨_, _, R, (f137.mx (no_int _) m140 R (R : 18 + 2 = 20))⟩⟩, R⟩ fun aN aO w144 K145 S146 f147 => ⟨((S002.tr S146).cl R), Ob h fun x63 hx63 h => Jm1 (κ := K145) (E := Pair.ep92) 14 [21] R R R R R R R R R Y79 Tryzinfo92 R R R R (f105.stp (S109.tr (S125.tr (S139.tr S146))) R R) f147.src (sy_one R) hx63 R fun aK aM w149 K150 S151 f152 => ⟨((S002.tr (S146.tr S151)).cl R), Jn 1 R (Jt1 (Jo (Jz (Jp (Ja [2, 2, 2] R (Jc 3 R ?_))))))⟩⟩)⟩
 have hw95 : IntKind.wrap .i64 (v12 + 1) = v12 + 1 := wr1 hj95 (Jm2 hc95) hN95
 rw [hw95]
 have hc95 := Jm2 hc95
 cases h
 exact Jz1 fun a ha => ⟨k, _, Ja3 _, ⟨K150, v12 + 1, (x63 : (List Pair)), aK, aM, R, (S104.tr (S109.tr (S125.tr (S139.tr (S146.tr S151))))).wk R, f152, by omega, by omega, hk106⟩, (ha.mm R)⟩
 rintro _ w98 ⟨K99, s3, ai, au, rfl, S100, f101, rfl⟩
 have h := hK96
 dsimp only [aft] at h
 refine Jp (Je [2, 1, 2, 2, 2, 2] R (Jf R (Jb2 U158 R Z24 R R) (Jl tv R R R R (Jc2 I24 R R (hvE ((f79.stp (S93.tr S100) R R).ld 2 R R))) (Jb 4 R (Ju (Ja2 (l := [.tmp 6, .tmp 7, .tmp 8]) V105 (Jp2 R (Jp2 R (Jp2 R R))) R ?_))))))
 cases h
 exact ⟨(fun b => ren [(11, 2), (14, 3)] (K99 b)), aj, ab, ai, au, R, ((hE.stp (S3.tr (S7.tr (S11.tr (S21.tr (S39.tr (S66.tr (S75.tr (S78.tr (S93.tr S100))))))))) R R).map (ren [(11, 2), (14, 3)]) R R), ((f71.stp (S75.tr (S78.tr (S93.tr S100))) R R).map (ren [(11, 2), (14, 3)]) R R), (f101.map (ren [(11, 2), (14, 3)]) R R)⟩
 refine JT fun h => Jx R (Je [1, 1, 2, 2, 2] R (Jo1 (κ := K74) (E := (Ep.own E6 2)) 14 R R R R R Y24 Tryzinfo40 R fun aJ aC w81 K82 S83 f84 => ⟨tv, Jo1 (κ := K82) (E := Pair.ep92) 15 R R R R R Y79 Tryzinfo92 R fun aF aG w85 K86 S87 f88 => ⟨tv, Jb 3 R (Ju (Jw (Ja2 (l := [.tmp 6, .tmp 7, .tmp 8]) V105 (Jp2 R (Jp2 R (Jp2 R R))) R ?_)))⟩⟩))
 cases h
 exact ⟨(fun b => ren [(14, 2), (15, 3)] (K86 b)), aJ, aC, aF, aG, R, ((hE.stp (S3.tr (S7.tr (S11.tr (S21.tr (S39.tr (S66.tr (S75.tr (S78.tr (S83.tr S87))))))))) R R).map (ren [(14, 2), (15, 3)]) R R), ((f84.stp S87 R R).map (ren [(14, 2), (15, 3)]) R R), (f88.map (ren [(14, 2), (15, 3)]) R R)⟩
 refine JT fun h => Jx R (Je [1, 1, 2, 2, 2] R (Jo1 (κ := K38) (E := (Ep.own E6 2)) 7 R R R R R Y24 Tryzinfo40 R fun aE aD w41 K42 S43 f44 => ⟨tv, Jo1 (κ := K42) (E := Pair.ep92) 8 R R R R R Y79 Tryzinfo92 R fun aB aL w45 K46 S47 f48 => ⟨tv, Jb 3 R (Ju (Jw (Ja2 (l := [.tmp 6, .tmp 7, .tmp 8]) V105 (Jp2 R (Jp2 R (Jp2 R R))) R ?_)))⟩⟩))
 cases h
 exact ⟨(fun b => ren [(7, 2), (8, 3)] (K46 b)), aE, aD, aB, aL, R, ((hE.stp (S3.tr (S7.tr (S11.tr (S21.tr (S39.tr (S43.tr S47)))))) R R).map (ren [(7, 2), (8, 3)]) R R), ((f44.stp S47 R R).map (ren [(7, 2), (8, 3)]) R R), (f48.map (ren [(7, 2), (8, 3)]) R R)⟩
end Go.Proofs.YtcmamhmpoinmnaaGreat
