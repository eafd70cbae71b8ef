/- The walks, part 6. By program. -/
import Derived.Test.YtcmamhmpoinmnaaFns5MC
set_option linter.unusedVariables false
set_option linter.unusedSimpArgs false
namespace Go.Proofs.Ytcmamhmpoinmnaa
open Go Go.Wk Go.Proofs
set_option maxRecDepth 100000
set_option maxHeartbeats 1000000
theorem i_ProductOf_ok {w : World} {κ : Col} {p0 : Sig} {a1 u1} {p1 : (List Clause)} (g1 : Rd Clause.rp κ w 0 a1 u1 p1) {r : Det × Bool} (h : i_ProductOf p0 p1 = some r) : Ret Try.prog 67 [.agg #[vi p0.In, vi p0.Out], .slice a1 p1.length u1] w (fun v w' => ∃ (κ' : Col) (ra0 : Option Addr) (ru0 : Nat) (ra1 : Option Addr) (ru1 : Nat), v = .tuple #[.agg #[.slice ra0 r.1.Next.length ru0, .slice ra1 r.1.Pairs.length ru1], .bool r.2] ∧ Ent κ w κ' w' ∧ Oc (Ep.own E6 2) 24 κ' w' 2 ra0 ru0 r.1.Next ∧ Oc Pair.ep42 42 κ' w' 3 ra1 ru1 r.1.Pairs) := by
 unfold i_ProductOf at h
 refine Ret.enter F67 R N67 R ?_
 dsimp only [envOf]
 have hE := Ent.refl κ w
 refine Je [1, 1, 2] R (Jf1 (κ := κ) 2 R R R R R R R fun b2 w1 K2 S3 f4 => ⟨tv, Jg1 (κ := K2) 3 R R R R R X58 R fun b4 w5 K6 S7 f8 => ⟨tv, Jb 1 R (Jq (Je [1, 1, 2, 2, 1, 2, 1, 2, 2] R ?_))⟩⟩)
 have f9 := f4.stp S7 R R
 refine Jl tv R R R R (Jd2 (cs := [vi p0.In, vi p0.Out]) I47 Z47 R R R (haE f9.cells)) (Ob h fun x12 hx12 h => Jh R R R C44 (i_isSig_ok (κ := fun b => mp [] 0 (K6 b)) (p0 := p0) hx12) ?_)
 rintro _ w10 ⟨k11, rfl, e12⟩
 obtain ⟨K13, S14, m15⟩ := Ji e12 4 R
 refine ⟨tv, Jn 2 R (Ob h fun p19 h hK17 => Ju1 [(4, 1), (5, 2), (6, 1), (7, 2), (8, 2)] [] (fun L w' => L = [(1, .slice a1 p1.length u1), (2, .pointer (some ⟨b2, 0, none⟩)), (4, .pointer (some ⟨b4, 0, none⟩)), (19, .bool p19)] ∧ ∃ κ', Stp [] K13 w10 κ' w') tv ?_ ?_)⟩
 revert h
 cases ht18 : (!x12)
 refine JF fun h => Jl tv R R R R (Jd2 (cs := [vi p0.In, vi p0.Out]) I47 Z47 R R R (haE (f9.stp S14 R R).cells)) (Jn 1 R (Ob h fun x17 hx17 h => Jh R R R C95 (i_areClauses_ok (κ := fun b => mp [] 0 (K13 b)) (p0 := p0) (Jl2 (g1.stp (S3.tr (S7.tr S14)) R R) (mp [] 0) R R) hx17) ?_))
 rintro _ w21 ⟨k22, rfl, e23⟩
 obtain ⟨K24, S25, m26⟩ := Ji e23 6 R
 refine ⟨tv, Jn 2 R ?_⟩
 cases h
 exact Jv1 _ tv ⟨R, _, S25.wk R⟩ (KM R)
 refine JT fun h => Jd1 R R R R (Jn 1 R (Jd1 R R R R (Jn 2 R ?_)))
 cases h
 exact Jv1 _ tv ⟨R, _, (Jx2 _ _).wk R⟩ (KM R)
 rintro _ w28 _ ⟨rfl, K29, S30⟩
 have h := hK17
 refine Jd ?_
 revert h
 cases ht31 : p19
 refine JF fun h => Jy R (Js (Jp (Je [1, 1, 1, 1, 2, 1, 1] R ?_)))
 have f37 := f9.stp (S14.tr S30) R R
 refine Jl tv R R R R (Jd2 (cs := [vi p0.In, vi p0.Out]) I47 Z47 R R R (haE f37.cells)) (Ob h fun x22 hx22 h => Jh R R R C71 (i_lettersOf_ok (κ := fun b => mp [] 0 (K29 b)) (p0 := p0) hx22) ?_)
 rintro _ w38 ⟨k39, rfl, e40⟩
 obtain ⟨K41, S42, m43⟩ := Ji e40 6 R
 refine ⟨tv, Ob h fun x23 hx23 h => Jl1 (κ := K41) (E := E6) (z := (0 : Int)) 8 R R R R R R R Y24 Tryinfo2 R R R R R (fun _ _ _ => R) (Ju2 hx23) fun av aw w45 K46 S47 f48 => ⟨tv, Jn1 (κ := K46) (E := (Ep.own E6 2)) 9 [8] (parts := [(0, .tmp 23)]) (cells := [.slice av x23.length aw]) (xs := ([x23] : List (List Int))) R R R R R R Y22 Tryinfo24 R R R R R R R R R R ⟨[.slice av x23.length aw], [], Zl K46 w45 [8], Zl K46 w45 [], R, Zl.sp (l1 := [8]) (l2 := []) R, Zl.sr (l1 := [8]) (l2 := []), ⟨_, _, R, f48⟩, R⟩ fun au ar w49 K50 S51 f52 => ⟨tv, Jf R (rn_build (parts := [(0, .tmp 24)]) (cells := [.slice au ([x23] : List (List Int)).length ar, .slice none 0 0]) R R (by kernel_rfl)) (Jg1 (κ := K50) 10 R R R R R X58 R fun b6 w53 K54 S55 f56 => ⟨tv, Jj1 (κ := K54) 10 (vc := [.slice au ([x23] : List (List Int)).length ar, .slice none 0 0]) R R R R R R R Z58 R R f56 R fun w57 S58 f59 => ⟨tv, Jd (Jq (Je [2, 2, 2] R (Jn 1 R (Jf R (Je2 U51 R R) (Jb 1 R ?_)))))⟩⟩)⟩⟩⟩
 have hN60 : (p1.length : Int) ≤ 9223372036854775807 := g1.len_le
 refine Ob h fun q2 hq62 hK61 => ?_
 clear h
 refine Jx1 (fun L w' => ∃ κ', ∃ s3 : (List (List Int)) × (List Pair), ∃ ai ak al aj, L = [(4, .pointer (some ⟨b4, 0, none⟩)), (6, .pointer (some ⟨b6, 0, none⟩))] ∧ Stp [10, 12, 13, 14, 17, 19, 20, 21] K54 w57 κ' w' ∧ Oc (Ep.own E6 2) 24 κ' w' 9 ai ak s3.1 ∧ Oc Pair.ep42 42 κ' w' 11 al aj s3.2 ∧ Bc κ' w' 10 b6 58 [.slice ai s3.1.length ak, .slice al s3.2.length aj] ∧ q2 = Sum.inr s3) ?_ ?_
 refine Jv (Jy1 (fun k L w' => ∃ κ' v28, ∃ s1 : (List (List Int)) × (List Pair), ∃ aq ao an ap, L = [(2, .pointer (some ⟨b2, 0, none⟩)), (4, .pointer (some ⟨b4, 0, none⟩)), (6, .pointer (some ⟨b6, 0, none⟩)), (26, .slice a1 p1.length u1), (27, vi (p1.length : Int)), (28, vi v28)] ∧ Stp [10, 12, 13, 14, 17, 19, 20, 21] K54 w57 κ' w' ∧ Oc (Ep.own E6 2) 24 κ' w' 9 aq ao s1.1 ∧ Oc Pair.ep42 42 κ' w' 11 an ap s1.2 ∧ Bc κ' w' 10 b6 58 [.slice aq s1.1.length ao, .slice an s1.2.length ap] ∧ 0 ≤ v28 ∧ Int.toNat ((p1.length : Int) - v28) = k ∧ cntM (i_ProductOf_b0 p0 p1) k v28 s1 = some q2) ⟨_, _, ⟨K54, 0, ((([x23] : List (List Int)) : (List (List Int))), (([] : List Pair) : (List Pair))), au, ar, none, 0, R, (Jx2 _ _).wk R, (f52.stp (S55.tr S58) R R), Ow.nil, f59, (by decide), (by simp), hq62⟩, (KM R)⟩ ?_)
 rintro k _ w69 ⟨K70, v28, s1, aq, ao, an, ap, rfl, S71, f72, f73, f74, hj60, hJ60, h⟩
 rcases k with _ | k
 have hk76 := h; obtain ⟨o60, h⟩ := ex_eq (Sum.inr (Sum.inl s1) : (Det × Bool) ⊕ (((List (List Int)) × (List Pair)) ⊕ ((List (List Int)) × (List Pair))))
 have hc60 : decide (v28 < (p1.length : Int)) = false := Jo2 (by omega)
 refine Je [2] R (Jb 1 R (Jq (Jw2 R hc60 (Jc1 (Jt (Jt ?_))))))
 cases h
 have h := hk76
 refine Jb1 ?_
 cases h
 exact Jw1 _ ⟨K70, ((s1.1 : (List (List Int))), (s1.2 : (List Pair))), aq, ao, an, ap, R, S71.wk R, f72, f73, f74, R⟩ (KM R)
 obtain ⟨o60, h, hk76⟩ := BI h; unfold i_ProductOf_b0 at h
 have hc60 : decide (v28 < (p1.length : Int)) = true := Jn2 (by omega)
 refine Je [2] R (Jb 1 R (Jq (Jv2 R hc60 (Js (Jp (Jq (Jv (Je [2, 1, 1, 1] R (Ob h fun x30 hx30 h => Jf R (Jf2 g1 hx30 U51 Z61 R R R R) ?_)))))))))
 obtain ⟨cse78, hre78, hle78⟩ := ((g1.stp (S3.tr (S7.tr (S14.tr (S30.tr (S42.tr (S47.tr (S51.tr (S55.tr (S58.tr S71))))))))) R R)).gSt hx30
 obtain ⟨ae78_0, ue78_0, ae78_1, ue78_1, rfl, fe78_0, fe78_1⟩ := Clause.un hre78
 refine Jl tv R R R R (Jd2 (cs := [vi x30.Kind, .slice ae78_0 x30.A.length ue78_0, .slice ae78_1 x30.B.length ue78_1]) I61 Z61 R R R (haE hle78)) (Jg1 (κ := K70) 12 R R R R R X61 R fun b8 w79 K80 S81 f82 => ⟨tv, Jj1 (κ := K80) 12 (vc := [vi x30.Kind, .slice ae78_0 x30.A.length ue78_0, .slice ae78_1 x30.B.length ue78_1]) R R R R R R R Z61 R R f82 R fun w83 S84 f85 => ⟨tv, Jd (Jq (Ob h fun x36 hx36 h => Ob h fun x37 hx37 h => Jx1 (fun L w' => ∃ κ' b9 af am ah ae, L = [(2, .pointer (some ⟨b2, 0, none⟩)), (4, .pointer (some ⟨b4, 0, none⟩)), (6, .pointer (some ⟨b6, 0, none⟩)), (9, .pointer (some ⟨b9, 0, none⟩)), (10, .bool x37.2), (26, .slice a1 p1.length u1), (27, vi (p1.length : Int)), (28, vi v28)] ∧ Stp [13, 17, 19, 20, 21] K80 w83 κ' w' ∧ Oc (Ep.own E6 2) 24 κ' w' 13 af am x37.1.Next ∧ Oc Pair.ep42 42 κ' w' 14 ah ae x37.1.Pairs ∧ Bc κ' w' 15 b9 58 [.slice af x37.1.Next.length am, .slice ah x37.1.Pairs.length ae]) ?_ ?_))⟩⟩)
 refine WC.rxt (κ := K80) [2, 10, 12] none (by kernel_rfl) fun w93 S94 => Jq1 (fuel := 8) [(0, 0), (1, 0), (2, 0)] (by kernel_rfl) (by kernel_rfl) R (Jg R (Jd2 (cs := [.slice aq s1.1.length ao, .slice an s1.2.length ap]) I58 Z58 R R R (haC (f74.stp (S81.tr (S84.tr S94)) R R).cells R)) (Jg R (Jd2 (cs := [vi p0.In, vi p0.Out]) I47 Z47 R R R (haC (f37.stp (S42.tr (S47.tr (S51.tr (S55.tr (S58.tr (S71.tr (S81.tr (S84.tr S94)))))))) R R).cells R)) (Jg R (Jd2 (cs := [vi x30.Kind, .slice ae78_0 x30.A.length ue78_0, .slice ae78_1 x30.B.length ue78_1]) I61 Z61 R R R (haC (f85.stp S94 R R).cells R)) (Jp1 (WA.fork2 (fuel := 7) 3 8 (by kernel_rfl) R ?_ ?_)))))
 refine Jh R R R C97 (i_monitorOf_ok (κ := fun b => mp [] 0 (K80 b)) (p0 := p0) (p1 := x30) (Jl2 (fe78_0.stp (S81.tr (S84.tr S94)) R R) (mp [] 0) R R) (Jl2 (fe78_1.stp (S81.tr (S84.tr S94)) R R) (mp [] 0) R R) hx36) ?_
 rintro _ w100 ⟨k101, ax, ay, az, aA, rfl, e102, f103, f104⟩
 obtain ⟨K105, S106, m107⟩ := Ji e102 13 R
 refine ⟨(S106.cl R), ?_⟩
 have f109 := f103.mx (no_own (no_int _) _) m107 R (R : 13 + 2 = 15)
 have f110 := f104.mx Pair.no42 m107 R (R : 13 + 3 = 16)
 refine Jp1 (WA.fork2 (fuel := 6) 4 8 (by kernel_rfl) R ?_ ?_)
 have S001 := (S81.tr (S84.tr (S94.tr S106)))
 refine Jh R R R C96 (i_joinedDet_ok (κ := fun b => mp [] 0 (K105 b)) (p0 := (⟨s1.1, s1.2⟩ : Det)) (p1 := x36) (Jl2 (f72.stp S001 R R).rdc (mp [] 0) R R) (Jl2 (f73.stp S001 R R).rdc (mp [] 0) R R) (Jl2 f109.rdc (mp [] 0) R R) (Jl2 f110.rdc (mp [] 0) R R) hx37) ?_
 rintro _ w113 ⟨k114, ab, aa, ac, ad, rfl, e115, f116, f117⟩
 obtain ⟨K118, S119, m120⟩ := Ji e115 17 R
 have S002 := (S106.tr S119)
 exact ⟨(S002.cl R), Jp1 (Jq1 (fuel := 0) [(5, 2), (6, 2), (7, 2), (8, 1), (9, 1), (10, 2)] (by kernel_rfl) (by kernel_rfl) R (Jn 3 R (Jg1 (κ := K118) 21 R R R R R X58 R fun b9 w124 K125 S126 f127 => ⟨((S002.tr S126).cl R), Jj1 (κ := K125) 21 (vc := [.slice ab x37.1.Next.length aa, .slice ac x37.1.Pairs.length ad]) R R R R R R R Z58 R R f127 R fun w128 S129 f130 => ⟨((S002.tr (S126.tr S129)).cl R), Jn 1 R (Jp1 (Jr1 [] (by kernel_rfl) (by kernel_rfl) R (Jo (Jw1 _ ⟨(fun b => ren [(19, 13), (20, 14), (21, 15)] (K125 b)), b9, ab, aa, ac, ad, R, (Jy2 ((S94.tr (S106.tr (S119.tr (S126.tr S129)))).wk R) [(19, 13), (20, 14), (21, 15)] R), (((f116.mx (no_own (no_int _) _) m120 R (R : 17 + 2 = 19)).stp (S126.tr S129) R R).map (ren [(19, 13), (20, 14), (21, 15)]) R R), (((f117.mx Pair.no42 m120 R (R : 17 + 3 = 20)).stp (S126.tr S129) R R).map (ren [(19, 13), (20, 14), (21, 15)]) R R), (f130.map (ren [(19, 13), (20, 14), (21, 15)]) R R)⟩ (KM R)))))⟩⟩)))⟩
 have S003 := (S81.tr (S84.tr (S94.tr S106)))
 refine Jg1 (κ := K105) 17 R R R R R X58 R fun b9 w133 K134 S135 f136 => ⟨((S106.tr S135).cl R), Jp1 (Jq1 (fuel := 0) [(4, 1), (5, 2), (6, 2), (7, 2), (9, 1), (10, 2)] (by kernel_rfl) (by kernel_rfl) R (Jh R R R C96 (i_joinedDet_ok (κ := fun b => mp [] 0 (K134 b)) (p0 := (⟨s1.1, s1.2⟩ : Det)) (p1 := x36) (Jl2 (f72.stp (S003.tr S135) R R).rdc (mp [] 0) R R) (Jl2 (f73.stp (S003.tr S135) R R).rdc (mp [] 0) R R) (Jl2 (f109.stp S135 R R).rdc (mp [] 0) R R) (Jl2 (f110.stp S135 R R).rdc (mp [] 0) R R) hx37) ?_))⟩
 rintro _ w141 ⟨k142, ab, aa, ac, ad, rfl, e143, f144, f145⟩
 obtain ⟨K146, S147, m148⟩ := Ji e143 18 R
 have S004 := (S106.tr (S135.tr S147))
 exact ⟨(S004.cl R), Jn 3 R (Jj1 (κ := K146) 17 (vc := [.slice ab x37.1.Next.length aa, .slice ac x37.1.Pairs.length ad]) R R R R R R R Z58 R R (f136.stp S147 R R) R fun w153 S154 f155 => ⟨((S004.tr S154).cl R), Jn 1 R (Jp1 (Jr1 [] (by kernel_rfl) (by kernel_rfl) R (Jo (Jw1 _ ⟨(fun b => ren [(20, 13), (21, 14), (17, 15)] (K146 b)), b9, ab, aa, ac, ad, R, (Jy2 ((S94.tr (S106.tr (S135.tr (S147.tr S154)))).wk R) [(20, 13), (21, 14), (17, 15)] R), (((f144.mx (no_own (no_int _) _) m148 R (R : 18 + 2 = 20)).stp S154 R R).map (ren [(20, 13), (21, 14), (17, 15)]) R R), (((f145.mx Pair.no42 m148 R (R : 18 + 3 = 21)).stp S154 R R).map (ren [(20, 13), (21, 14), (17, 15)]) R R), (f155.map (ren [(20, 13), (21, 14), (17, 15)]) R R)⟩ (KM R)))))⟩)⟩
 refine Jg1 (κ := K80) 13 R R R R R X58 R fun b9 w158 K159 S160 f161 => ⟨(S160.cl R), Jp1 (Jq1 (fuel := 0) [(3, 1), (4, 1), (5, 2), (6, 2), (7, 2), (9, 1), (10, 2)] (by kernel_rfl) (by kernel_rfl) R (Jh R R R C97 (i_monitorOf_ok (κ := fun b => mp [] 0 (K159 b)) (p0 := p0) (p1 := x30) (Jl2 (fe78_0.stp (S81.tr (S84.tr (S94.tr S160))) R R) (mp [] 0) R R) (Jl2 (fe78_1.stp (S81.tr (S84.tr (S94.tr S160))) R R) (mp [] 0) R R) hx36) ?_))⟩
 rintro _ w164 ⟨k165, ax, ay, az, aA, rfl, e166, f167, f168⟩
 obtain ⟨K169, S170, m171⟩ := Ji e166 14 R
 have S005 := (S81.tr (S84.tr (S94.tr (S160.tr S170))))
 refine ⟨((S160.tr S170).cl R), Jh R R R C96 (i_joinedDet_ok (κ := fun b => mp [] 0 (K169 b)) (p0 := (⟨s1.1, s1.2⟩ : Det)) (p1 := x36) (Jl2 (f72.stp S005 R R).rdc (mp [] 0) R R) (Jl2 (f73.stp S005 R R).rdc (mp [] 0) R R) (Jl2 (f167.mx (no_own (no_int _) _) m171 R (R : 14 + 2 = 16)).rdc (mp [] 0) R R) (Jl2 (f168.mx Pair.no42 m171 R (R : 14 + 3 = 17)).rdc (mp [] 0) R R) hx37) ?_⟩
 rintro _ w177 ⟨k178, ab, aa, ac, ad, rfl, e179, f180, f181⟩
 obtain ⟨K182, S183, m184⟩ := Ji e179 18 R
 have S006 := (S160.tr (S170.tr S183))
 exact ⟨(S006.cl R), Jn 3 R (Jj1 (κ := K182) 13 (vc := [.slice ab x37.1.Next.length aa, .slice ac x37.1.Pairs.length ad]) R R R R R R R Z58 R R (f161.stp (S170.tr S183) R R) R fun w189 S190 f191 => ⟨((S006.tr S190).cl R), Jn 1 R (Jp1 (Jr1 [] (by kernel_rfl) (by kernel_rfl) R (Jo (Jw1 _ ⟨(fun b => ren [(20, 13), (21, 14), (13, 15)] (K182 b)), b9, ab, aa, ac, ad, R, (Jy2 ((S94.tr (S160.tr (S170.tr (S183.tr S190)))).wk R) [(20, 13), (21, 14), (13, 15)] R), (((f180.mx (no_own (no_int _) _) m184 R (R : 18 + 2 = 20)).stp S190 R R).map (ren [(20, 13), (21, 14), (13, 15)]) R R), (((f181.mx Pair.no42 m184 R (R : 18 + 3 = 21)).stp S190 R R).map (ren [(20, 13), (21, 14), (13, 15)]) R R), (f191.map (ren [(20, 13), (21, 14), (13, 15)]) R R)⟩ (KM R)))))⟩)⟩
 rintro _ w86 ⟨K87, b9, af, am, ah, ae, rfl, S88, f90, f91, f92⟩
 refine Jp (Jq (Je [2, 2] R (Jb 2 R ?_)))
 revert h
 cases ht194 : (!x37.2)
 refine JF fun h => Jy R (Js (Jp (Ja [1, 1] R (Jl tv R R R R (Jd2 (cs := [.slice af x37.1.Next.length am, .slice ah x37.1.Pairs.length ae]) I58 Z58 R R R (haE f92.cells)) (Jj1 (κ := K87) 10 (vc := [.slice af x37.1.Next.length am, .slice ah x37.1.Pairs.length ae]) R R R R R R R Z58 R R (f74.stp (S81.tr (S84.tr S88)) R R) R fun w201 S202 f203 => ⟨tv, Jo (Jz (Jp (Ja [2, 2] R (Jc 2 R ?_))))⟩)))))
 have hw60 : IntKind.wrap .i64 (v28 + 1) = v28 + 1 := wr1 hj60 (Jm2 hc60) hN60
 rw [hw60]
 have hc60 := Jm2 hc60
 cases h
 exact Jz1 fun a ha => ⟨k, _, Ja3 _, ⟨(fun b => ren [(13, 9), (14, 11)] (K87 b)), v28 + 1, ((x37.1.Next : (List (List Int))), (x37.1.Pairs : (List Pair))), af, am, ah, ae, R, (Jy2 ((S71.tr (S81.tr (S84.tr (S88.tr S202)))).wk R) [(13, 9), (14, 11)] R), ((f90.stp S202 R R).map (ren [(13, 9), (14, 11)]) R R), ((f91.stp S202 R R).map (ren [(13, 9), (14, 11)]) R R), (f203.map (ren [(13, 9), (14, 11)]) R R), by omega, by omega, hk76⟩, (ha.mm R)⟩
 refine JT fun h => Jx R (Je [2, 1, 2] R (Jf R (rn_build (parts := []) (cells := [.slice none 0 0, .slice none 0 0]) R R (by kernel_rfl)) (Jj1 (κ := K87) 3 (vc := [.slice none 0 0, .slice none 0 0]) R R R R R R R Z58 R R (f8.stp (S14.tr (S30.tr (S42.tr (S47.tr (S51.tr (S55.tr (S58.tr (S71.tr (S81.tr (S84.tr S88)))))))))) R R) R fun w196 S197 f198 => ⟨tv, Jb 1 R (Ju (Jw (Ja1 (Jw (Jw ?_)))))⟩)))
 cases h
 obtain rfl := Option.some.inj hk76
 have h := hK61
 dsimp only [aft] at h
 refine Ja1 (Jq2 (Jw (Ja2 (l := [.cell 4 58, .tmp 5]) V67 (res_cellA R f198 I58 Z58 R (Jp2 R R)) R ?_)))
 cases h
 exact ⟨K87, none, 0, none, 0, R, (hE.stp (S3.tr (S7.tr (S14.tr (S30.tr (S42.tr (S47.tr (S51.tr (S55.tr (S58.tr (S71.tr (S81.tr (S84.tr (S88.tr S197))))))))))))) R R), Ow.nil, Ow.nil⟩
 rintro _ w63 ⟨K64, s3, ai, ak, al, aj, rfl, S65, f66, f67, f68, rfl⟩
 have h := hK61
 dsimp only [aft] at h
 refine Jp (Je [1, 1, 2] R (Jl tv R R R R (Jd2 (cs := [.slice ai s3.1.length ak, .slice al s3.2.length aj]) I58 Z58 R R R (haE f68.cells)) (Jj1 (κ := K64) 3 (vc := [.slice ai s3.1.length ak, .slice al s3.2.length aj]) R R R R R R R Z58 R R (f8.stp (S14.tr (S30.tr (S42.tr (S47.tr (S51.tr (S55.tr (S58.tr S65))))))) R R) R fun w207 S208 f209 => ⟨tv, Jb 1 R (Ju (Ja2 (l := [.cell 4 58, .tmp 5]) V67 (res_cellA R f209 I58 Z58 R (Jp2 R R)) R ?_))⟩)))
 cases h
 exact ⟨(fun b => ren [(9, 2), (11, 3)] (K64 b)), ai, ak, al, aj, R, ((hE.stp (S3.tr (S7.tr (S14.tr (S30.tr (S42.tr (S47.tr (S51.tr (S55.tr (S58.tr (S65.tr S208)))))))))) R R).map (ren [(9, 2), (11, 3)]) R R), ((f66.stp S208 R R).map (ren [(9, 2), (11, 3)]) R R), ((f67.stp S208 R R).map (ren [(9, 2), (11, 3)]) R R)⟩
 refine JT fun h => Jx R (Je [2, 1, 2] R (Jf R (rn_build (parts := []) (cells := [.slice none 0 0, .slice none 0 0]) R R (by kernel_rfl)) (Jj1 (κ := K29) 3 (vc := [.slice none 0 0, .slice none 0 0]) R R R R R R R Z58 R R (f8.stp (S14.tr S30) R R) R fun w33 S34 f35 => ⟨tv, Jb 1 R (Ju (Jw (Ja2 (l := [.cell 4 58, .tmp 5]) V67 (res_cellA R f35 I58 Z58 R (Jp2 R R)) R ?_)))⟩)))
 cases h
 exact ⟨K29, none, 0, none, 0, R, (hE.stp (S3.tr (S7.tr (S14.tr (S30.tr S34)))) R R), Ow.nil, Ow.nil⟩
theorem i_watchAll_ok {w : World} {κ : Col} {p0 : Sig} {ad ab ac aa} {p1 : Machine} {a2 u2} {p2 : (List Clause)} (g1_0 : Rd (Rp.sl (Rp.int .i64)) κ w 0 ad ab p1.Next) (g1_1 : Rd (Rp.sl (Rp.int .i64)) κ w 0 ac aa p1.Out) (g2 : Rd Clause.rp κ w 0 a2 u2 p2) {r : (Option watch) × Bool} (h : i_watchAll p0 p1 p2 = some r) : Ret Try.prog 42 [.agg #[vi p0.In, vi p0.Out], .agg #[.slice ad p1.Next.length ab, .slice ac p1.Out.length aa], .slice a2 p2.length u2] w (fun v w' => ∃ (κ' : Col) (ra0 : Option Addr) (ru0 : Nat) (ra1 : Option Addr) (ru1 : Nat) (ra2 : Option Addr) (ru2 : Nat) (rb3 : Nat), v = .tuple #[.pointer (bif r.1.isSome then some ⟨rb3, 0, none⟩ else none), .bool r.2] ∧ Ent κ w κ' w' ∧ Oc (Ep.own E6 2) 24 κ' w' 2 ra0 ru0 ((r.1.getD (⟨([] : List (List Int)), ([] : List (List Int)), ([] : List Pair)⟩ : watch)).next) ∧ Oc (Ep.own E6 2) 24 κ' w' 3 ra1 ru1 ((r.1.getD (⟨([] : List (List Int)), ([] : List (List Int)), ([] : List Pair)⟩ : watch)).letters) ∧ Oc Pair.ep42 42 κ' w' 4 ra2 ru2 ((r.1.getD (⟨([] : List (List Int)), ([] : List (List Int)), ([] : List Pair)⟩ : watch)).pairs) ∧ (r.1.isSome = true → Bc κ' w' 5 rb3 89 [.slice ra0 ((r.1.getD (⟨([] : List (List Int)), ([] : List (List Int)), ([] : List Pair)⟩ : watch)).next).length ru0, .slice ra1 ((r.1.getD (⟨([] : List (List Int)), ([] : List (List Int)), ([] : List Pair)⟩ : watch)).letters).length ru1, .slice ra2 ((r.1.getD (⟨([] : List (List Int)), ([] : List (List Int)), ([] : List Pair)⟩ : watch)).pairs).length ru2])) := by
 unfold i_watchAll at h
 refine Ret.enter F42 R N42 R ?_
 dsimp only [envOf]
 have hE := Ent.refl κ w
 refine Je [1, 1, 2, 2] R (Jf1 (κ := κ) 2 R R R R R R R fun b3 w1 K2 S3 f4 => ⟨tv, Jf1 (κ := K2) 3 R R R R R R R fun b4 w5 K6 S7 f8 => ⟨tv, Jb 2 R (Jq (Je [1, 1, 2, 2, 1, 1, 1, 2, 2] R ?_))⟩⟩)
 have f9 := f4.stp S7 R R
 refine Jl tv R R R R (Jd2 (cs := [vi p0.In, vi p0.Out]) I47 Z47 R R R (haE f9.cells)) (Ob h fun x11 hx11 h => Jh R R R C44 (i_isSig_ok (κ := fun b => mp [] 0 (K6 b)) (p0 := p0) hx11) ?_)
 rintro _ w10 ⟨k11, rfl, e12⟩
 obtain ⟨K13, S14, m15⟩ := Ji e12 4 R
 refine ⟨tv, Jn 2 R (Ob h fun p18 h hK17 => Ju1 [(4, 1), (5, 1), (6, 1), (7, 2), (8, 2)] [] (fun L w' => L = [(2, .slice a2 p2.length u2), (3, .pointer (some ⟨b3, 0, none⟩)), (4, .pointer (some ⟨b4, 0, none⟩)), (18, .bool p18)] ∧ ∃ κ', Stp [] K13 w10 κ' w') tv ?_ ?_)⟩
 revert h
 cases ht18 : (!x11)
 refine JF fun h => Jl tv R R R R (Jd2 (cs := [vi p0.In, vi p0.Out]) I47 Z47 R R R (haE (f9.stp S14 R R).cells)) (Jl tv R R R R (Jd2 (cs := [.slice ad p1.Next.length ab, .slice ac p1.Out.length aa]) I49 Z49 R R R (haE (f8.stp S14 R R).cells)) (Ob h fun x16 hx16 h => Jh R R R C45 (i_isMachine_ok (κ := fun b => mp [] 0 (K13 b)) (p0 := p0) (p1 := p1) (Jl2 (g1_0.stp (S3.tr (S7.tr S14)) R R) (mp [] 0) R R) (Jl2 (g1_1.stp (S3.tr (S7.tr S14)) R R) (mp [] 0) R R) hx16) ?_))
 rintro _ w23 ⟨k24, rfl, e25⟩
 obtain ⟨K26, S27, m28⟩ := Ji e25 6 R
 refine ⟨tv, Jn 2 R ?_⟩
 cases h
 exact Jv1 _ tv ⟨R, _, S27.wk R⟩ (KM R)
 refine JT fun h => Jd1 R R R R (Jd1 R R R R (Jd1 R R R R (Jn 2 R ?_)))
 cases h
 exact Jv1 _ tv ⟨R, _, (Jx2 _ _).wk R⟩ (KM R)
 rintro _ w30 _ ⟨rfl, K31, S32⟩
 have h := hK17
 refine Jd ?_
 revert h
 cases ht33 : p18
 refine JF fun h => Jy R (Js (Jp (Je [1, 2, 1, 2, 2, 2, 1, 1, 2] R ?_)))
 have f35 := f9.stp (S14.tr S32) R R
 refine Jl tv R R R R (Jd2 (cs := [vi p0.In, vi p0.Out]) I47 Z47 R R R (haE f35.cells)) (Jn 1 R (Ob h fun x22 hx22 h => Jh R R R C67 (i_ProductOf_ok (κ := fun b => mp [] 0 (K31 b)) (p0 := p0) (Jl2 (g2.stp (S3.tr (S7.tr (S14.tr S32))) R R) (mp [] 0) R R) hx22) ?_))
 rintro _ w37 ⟨k38, af, ae, ai, ah, rfl, e39, f40, f41⟩
 obtain ⟨K42, S43, m44⟩ := Ji e39 6 R
 refine ⟨tv, Jn 3 R (Jg1 (κ := K42) 10 R R R R R X58 R fun b8 w48 K49 S50 f51 => ⟨tv, Jj1 (κ := K49) 10 (vc := [.slice af x22.1.Next.length ae, .slice ai x22.1.Pairs.length ah]) R R R R R R R Z58 R R f51 R fun w52 S53 f54 => ⟨tv, Jb 1 R (Jq (Je [2, 2] R (Jb 2 R ?_)))⟩⟩)⟩
 revert h
 cases ht55 : (!x22.2)
 have S001 := (S3.tr (S7.tr (S14.tr (S32.tr (S43.tr (S50.tr S53))))))
 refine JF fun h => Jy R (Js (Jp (Je [1, 1, 1, 1, 2, 2, 2, 2] R (Jl tv R R R R (Jd2 (cs := [vi p0.In, vi p0.Out]) I47 Z47 R R R (haE (f35.stp (S43.tr (S50.tr S53)) R R).cells)) (Jl tv R R R R (Jd2 (cs := [.slice ad p1.Next.length ab, .slice ac p1.Out.length aa]) I49 Z49 R R R (haE (f8.stp (S14.tr (S32.tr (S43.tr (S50.tr S53)))) R R).cells)) (Jl tv R R R R (Jd2 (cs := [.slice af x22.1.Next.length ae, .slice ai x22.1.Pairs.length ah]) I58 Z58 R R R (haE f54.cells)) (Ob h fun x30 hx30 h => Jh R R R C47 (i_watchOf_ok (κ := fun b => mp [] 0 (K49 b)) (p0 := p0) (p1 := p1) (p2 := x22.1) (Jl2 (g1_0.stp S001 R R) (mp [] 0) R R) (Jl2 (g1_1.stp S001 R R) (mp [] 0) R R) (Jl2 ((f40.mx (no_own (no_int _) _) m44 R (R : 6 + 2 = 8)).stp (S50.tr S53) R R).rdc (mp [] 0) R R) (Jl2 ((f41.mx Pair.no42 m44 R (R : 6 + 3 = 9)).stp (S50.tr S53) R R).rdc (mp [] 0) R R) hx30) ?_)))))))
 rintro _ w63 ⟨k64, aj, al, ao, am, an, ak, b30, rfl, e65, f66, f67, f68, f69⟩
 obtain ⟨K70, S71, m72⟩ := Ji e65 11 R
 refine ⟨tv, Jb 4 R (Ju (Ja2 (l := [.tmp 6, .tmp 7]) V42 (Jp2 R (Jp2 R R)) R ?_))⟩
 cases h
 exact ⟨(fun b => ren [(13, 2), (14, 3), (15, 4), (16, 5)] (K70 b)), aj, al, ao, am, an, ak, b30, R, ((hE.stp (S3.tr (S7.tr (S14.tr (S32.tr (S43.tr (S50.tr (S53.tr S71))))))) R R).map (ren [(13, 2), (14, 3), (15, 4), (16, 5)]) R R), ((f66.mx (no_own (no_int _) _) m72 R (R : 11 + 2 = 13)).map (ren [(13, 2), (14, 3), (15, 4), (16, 5)]) R R), ((f67.mx (no_own (no_int _) _) m72 R (R : 11 + 3 = 14)).map (ren [(13, 2), (14, 3), (15, 4), (16, 5)]) R R), ((f68.mx Pair.no42 m72 R (R : 11 + 4 = 15)).map (ren [(13, 2), (14, 3), (15, 4), (16, 5)]) R R), (fun hs => (((fun hs => (f69 hs).mx m72 R (R : 11 + 5 = 16)) hs).map (ren [(13, 2), (14, 3), (15, 4), (16, 5)]) R R))⟩
 refine JT fun h => Jx R (Je [2, 2] R (Jb 2 R (Ju (Jw (Ja2 (l := [.tmp 6, .tmp 7]) V42 (Jp2 R (Jp2 R R)) R ?_)))))
 cases h
 exact ⟨K49, none, 0, none, 0, none, 0, 0, R, (hE.stp (S3.tr (S7.tr (S14.tr (S32.tr (S43.tr (S50.tr S53)))))) R R), Ow.nil, Ow.nil, Ow.nil, (fun h => absurd h Bool.false_ne_true)⟩
 refine JT fun h => Jx R (Je [2, 2] R (Jb 2 R (Ju (Jw (Ja2 (l := [.tmp 6, .tmp 7]) V42 (Jp2 R (Jp2 R R)) R ?_)))))
 cases h
 exact ⟨K31, none, 0, none, 0, none, 0, 0, R, (hE.stp (S3.tr (S7.tr (S14.tr S32))) R R), Ow.nil, Ow.nil, Ow.nil, (fun h => absurd h Bool.false_ne_true)⟩
theorem i_BreaksIn_ok {w : World} {κ : Col} {p0 : Sig} {ad ab ac aa} {p1 : Machine} {a2 u2} {p2 : (List Clause)} (g1_0 : Rd (Rp.sl (Rp.int .i64)) κ w 0 ad ab p1.Next) (g1_1 : Rd (Rp.sl (Rp.int .i64)) κ w 0 ac aa p1.Out) (g2 : Rd Clause.rp κ w 0 a2 u2 p2) {r : (List Int)} (h : i_BreaksIn p0 p1 p2 = some r) : Ret Try.prog 23 [.agg #[vi p0.In, vi p0.Out], .agg #[.slice ad p1.Next.length ab, .slice ac p1.Out.length aa], .slice a2 p2.length u2] w (fun v w' => ∃ (κ' : Col) (ra0 : Option Addr) (ru0 : Nat), v = .slice ra0 r.length ru0 ∧ Ent κ w κ' w' ∧ Oc E6 2 κ' w' 2 ra0 ru0 r) := by
 unfold i_BreaksIn at h
 refine Ret.enter F23 R N23 R ?_
 dsimp only [envOf]
 have hE := Ent.refl κ w
 refine Je [1, 1, 2] R (Jf1 (κ := κ) 2 R R R R R R R fun b3 w1 K2 S3 f4 => ⟨tv, Jf1 (κ := K2) 3 R R R R R R R fun b4 w5 K6 S7 f8 => ⟨tv, Jb 1 R (Je [1, 1, 2, 1, 2, 2, 2, 2, 2] R (Jl tv R R R R (Jd2 (cs := [vi p0.In, vi p0.Out]) I47 Z47 R R R (haE (f4.stp S7 R R).cells)) (Jl tv R R R R (Jd2 (cs := [.slice ad p1.Next.length ab, .slice ac p1.Out.length aa]) I49 Z49 R R R (haE f8.cells)) (Jn 1 R (Ob h fun x13 hx13 h => Jh R R R C42 (i_watchAll_ok (κ := fun b => mp [] 0 (K6 b)) (p0 := p0) (p1 := p1) (Jl2 (g1_0.stp (S3.tr S7) R R) (mp [] 0) R R) (Jl2 (g1_1.stp (S3.tr S7) R R) (mp [] 0) R R) (Jl2 (g2.stp (S3.tr S7) R R) (mp [] 0) R R) hx13) ?_)))))⟩⟩)
 rintro _ w13 ⟨k14, aj, ai, am, ak, al, ah, b13, rfl, e15, f16, f17, f18, f19⟩
 obtain ⟨K20, S21, m22⟩ := Ji e15 4 R
 refine ⟨tv, Jb 5 R (Jq (Je [2, 2] R (Jb 2 R ?_)))⟩
 revert h
 cases ht28 : (!x13.2)
 refine JF fun h => Jy R (Js (Jp (Je [2, 1, 2] R (Jn 1 R (Ob h fun _g96 hg96 h => ?_)))))
 have hs30 := guardS_ok hg96
 simp only [hs30, cond_true]
 refine Ob h fun x19 hx19 h => Jh R R R C43 (i_watch_broken_ok (κ := fun b => mp [] 0 (K20 b)) (p0 := (x13.1.getD (⟨([] : List (List Int)), ([] : List (List Int)), ([] : List Pair)⟩ : watch))) (Jl2 (f16.mx (no_own (no_int _) _) m22 R (R : 4 + 2 = 6)).rdc (mp [] 0) R R) (Jl2 (f17.mx (no_own (no_int _) _) m22 R (R : 4 + 3 = 7)).rdc (mp [] 0) R R) (Jl2 (f18.mx Pair.no42 m22 R (R : 4 + 4 = 8)).rdc (mp [] 0) R R) (((fun hs => (f19 hs).mx m22 R (R : 4 + 5 = 9)) hs30).map (mp [] 0) R R) hx19) ?_
 rintro _ w32 ⟨k33, ae, af, rfl, e34, f35⟩
 obtain ⟨K36, S37, m38⟩ := Ji e34 10 R
 refine ⟨tv, Jb 1 R (Ju (Ja2 (l := [.tmp 6]) V23 (Jp2 R R) R ?_))⟩
 cases h
 exact ⟨(fun b => ren [(12, 2)] (K36 b)), ae, af, R, ((hE.stp (S3.tr (S7.tr (S21.tr S37))) R R).map (ren [(12, 2)]) R R), ((f35.mx (no_int _) m38 R (R : 10 + 2 = 12)).map (ren [(12, 2)]) R R)⟩
 refine JT fun h => Jx R (Je [2] R (Jb 1 R (Ju (Jw (Ja2 (l := [.tmp 6]) V23 (Jp2 R R) R ?_)))))
 cases h
 exact ⟨K20, none, 0, R, (hE.stp (S3.tr (S7.tr S21)) R R), Ow.nil⟩
theorem l_FnMoreClauses_ok {w : World} {κ : Col} {a0 u0} {p0 : (List Int)} (g0 : Rd (Rp.int .u8) κ w 0 a0 u0 p0) {r : Bool} (h : l_FnMoreClauses p0 = some r) : Ret Try.prog 5 [.slice a0 p0.length u0] w (fun v w' => ∃ (κ' : Col), v = .bool r ∧ Ent κ w κ' w') := by
 unfold l_FnMoreClauses at h
 refine Ret.enter F5 R N5 R ?_
 dsimp only [envOf]
 have hE := Ent.refl κ w
 refine Je [2] R (Jb 1 R (Jq (Je [2, 1] R (Jn 1 R (Ob h fun x16 hx16 h => Jh R R R C16 (l_big_ok (κ := fun b => mp [] 0 (κ b)) (Jl2 g0 (mp [] 0) R R) hx16) ?_)))))
 rintro _ w1 ⟨k2, rfl, e3⟩
 obtain ⟨K4, S5, m6⟩ := Ji e3 2 R
 refine ⟨tv, Jd ?_⟩
 revert h
 cases ht8 : x16
 refine JF fun h => Jy R (Js (Jp (Je [2, 1, 2] R (Jn 1 R (Ob h fun x18 hx18 h => Jh R R R C19 (l_roll_ok (κ := fun b => mp [] 1 (K4 b)) (Jl2 (g0.stp S5 R R) (mp [] 1) R R) hx18) ?_)))))
 rintro _ w11 ⟨k12, av, ar, b18, rfl, e13, f14, f15⟩
 obtain ⟨K16, S17, m18, z19⟩ := Jj e13 4 R
 refine ⟨tv, Jb 1 R (Je [2, 1, 1] R (Jf R (rn_build (parts := [(0, .const (vi 1)), (1, .const (vi 1))]) (cells := [vi 1, vi 1]) R R (by kernel_rfl)) (Jg1 (κ := K16) 8 R R R R R X47 R fun b4 w22 K23 S24 f25 => ⟨tv, Jj1 (κ := K23) 8 (vc := [vi 1, vi 1]) R R R R R R R Z47 R R f25 R fun w26 S27 f28 => ⟨tv, Jd (Je [2, 1, 1, 1, 1] R (Jn 1 R (Jl tv R R R R (Jd2 (cs := [vi 1, vi 1]) I47 Z47 R R R (haE f28.cells)) (Ob h fun x22 hx22 h => ?_))))⟩⟩)))⟩
 have f29 := (f14.mx z19).stp (S24.tr S27) R R
 refine Jh R R R C20 (l_w9Machine_ok (κ := fun b => mp [(7, 2)] 0 (K23 b)) (p1 := (⟨1, 1⟩ : Sig)) (p0 := x18) (Jl2 f29 (mp [(7, 2)] 0) R R) (((f15.mx m18 R (R : 4 + 3 = 7)).stp (S24.tr S27) R R).map (mp [(7, 2)] 0) R R) hx22) ?_
 rintro _ w31 ⟨k32, aa, ab, af, ac, rfl, e33, f34, f35, f36⟩
 obtain ⟨K37, S38, m39⟩ := Ji e33 9 R
 refine ⟨tv, Jg1 (κ := K37) 14 R R R R R X49 R fun b5 w44 K45 S46 f47 => ⟨tv, Jj1 (κ := K45) 14 (vc := [.slice aa x22.1.Next.length ab, .slice af x22.1.Out.length ac]) R R R R R R R Z49 R R f47 R fun w48 S49 f50 => ⟨tv, Jd (Je [2, 1, 2] R (Jn 1 R (Ob h fun x24 hx24 h => ?_)))⟩⟩⟩
 have f51 := f29.stp (S38.tr (S46.tr S49)) R R
 refine Jh R R R C21 (l_w9Clauses_ok (κ := fun b => mp [(11, 2)] 0 (K45 b)) (p0 := (⟨x18.b, x22.2.1, x22.2.2⟩ : dice)) (Jl2 f51 (mp [(11, 2)] 0) R R) (((f36.mx m39 R (R : 9 + 2 = 11)).stp (S46.tr S49) R R).map (mp [(11, 2)] 0) R R) hx24) ?_
 rintro _ w53 ⟨k54, aw, aq, rfl, e55, f56, f57⟩
 obtain ⟨K58, S59, m60⟩ := Ji e55 15 R
 refine ⟨tv, Jb 1 R (Je [2, 2, 2, 2, 1, 2] R (Jn 2 R (Jf R (Je2 U51 R R) (Jn 1 R (Ob h fun x29 hx29 h => Jh R R R C22 (l_dice_below_ok (κ := fun b => mp [(17, 2)] 0 (K58 b)) (p0 := (⟨x18.b, x24.2.1, x24.2.2⟩ : dice)) (Jl2 (f51.stp S59 R R) (mp [(17, 2)] 0) R R) ((f57.mx m60 R (R : 15 + 2 = 17)).map (mp [(17, 2)] 0) R R) hx29) ?_)))))⟩
 rintro _ w65 ⟨k66, rfl, e67, f68⟩
 obtain ⟨K69, S70, m71⟩ := Ji e67 19 R
 refine ⟨tv, Jb 1 R (Je [1, 1, 2, 1, 2] R ?_)⟩
 have f74 := f28.stp (S38.tr (S46.tr (S49.tr (S59.tr S70)))) R R
 refine Jl tv R R R R (Jd2 (cs := [vi 1, vi 1]) I47 Z47 R R R (haE f74.cells)) ?_
 have f75 := f50.stp (S59.tr S70) R R
 refine Jl tv R R R R (Jd2 (cs := [.slice aa x22.1.Next.length ab, .slice af x22.1.Out.length ac]) I49 Z49 R R R (haE f75.cells)) (Jn 1 R (Ob h fun x33 hx33 h => ?_))
 have f76 := (f34.mx (no_own (no_int _) _) m39 R (R : 9 + 3 = 12)).stp (S46.tr (S49.tr (S59.tr S70))) R R
 have f77 := (f35.mx (no_own (no_int _) _) m39 R (R : 9 + 4 = 13)).stp (S46.tr (S49.tr (S59.tr S70))) R R
 have f78 := (f56.mx Clause.no61 m60 R (R : 15 + 3 = 18)).stp S70 R R
 refine Jh R R R C23 (i_BreaksIn_ok (κ := fun b => mp [] 0 (K69 b)) (p0 := (⟨1, 1⟩ : Sig)) (p1 := x22.1) (Jl2 f76.rdc (mp [] 0) R R) (Jl2 f77.rdc (mp [] 0) R R) (Jl2 f78.rdc (mp [] 0) R R) hx33) ?_
 rintro _ w79 ⟨k80, ai, ah, rfl, e81, f82⟩
 obtain ⟨K83, S84, m85⟩ := Ji e81 22 R
 refine ⟨tv, ?_⟩
 have f87 := f82.mx (no_int _) m85 R (R : 22 + 2 = 24)
 refine Jb 1 R (Jq (Js1 (κ := K83) [8, 14] none [(2, 2), (3, 2), (4, 2), (0, 0), (1, 0), (5, 1), (6, 2)] [] (by kernel_rfl) (by kernel_rfl) fun w89 S88 => Jn 2 R (Ob h fun x38 hx38 h => Jf R (rn_slice (k1 := .i64) (k2 := .i64) U51 Z61 (.inl ⟨R, R⟩) (.inr ⟨_, R, R⟩) hx38 f78.rdc.1 R R R) ?_)))
 have f92 := f74.stp (S84.tr S88) R R
 refine Jg R (Jd2 (cs := [vi 1, vi 1]) I47 Z47 R R R (haC f92.cells R)) ?_
 have f93 := f75.stp (S84.tr S88) R R
 refine Jg R (Jd2 (cs := [.slice aa x22.1.Next.length ab, .slice af x22.1.Out.length ac]) I49 Z49 R R R (haC f93.cells R)) (Ob h fun x39 hx39 h => ?_)
 have f94 := f76.stp (S84.tr S88) R R
 have f95 := f77.stp (S84.tr S88) R R
 refine Jh R R R C23 (i_BreaksIn_ok (κ := fun b => mp [] 0 (K83 b)) (p0 := (⟨1, 1⟩ : Sig)) (p1 := x22.1) (Jl2 f94.rdc (mp [] 0) R R) (Jl2 f95.rdc (mp [] 0) R R) (Jl2 ((f78.stp (S84.tr S88) R R).rdc.sub hx38) (mp [] 0) R R) hx39) ?_
 rintro _ w96 ⟨k97, ae, ad, rfl, e98, f99⟩
 obtain ⟨K100, S101, m102⟩ := Ji e98 25 R
 refine ⟨(S101.cl R), ?_⟩
 have f104 := f99.mx (no_int _) m102 R (R : 25 + 2 = 27)
 refine Jn 1 R (Jt1 (Jd (Je [2] R (Jb 1 R (Jq (Je [2] R (Jb 1 R ?_)))))))
 have hN105 : (x33.length : Int) ≤ 9223372036854775807 := f87.len_le
 refine Ob h fun q2 hq107 hK106 => ?_
 clear h
 refine Jx1 (fun L w' => ∃ κ' s3, L = [(4, .pointer (some ⟨b4, 0, none⟩)), (5, .pointer (some ⟨b5, 0, none⟩)), (9, .slice ae x39.length ad), (10, vi s3)] ∧ Stp [] K100 w96 κ' w' ∧ q2 = Sum.inr s3) ?_ ?_
 refine Jv (Jy1 (fun k L w' => ∃ κ' v11 s1, L = [(4, .pointer (some ⟨b4, 0, none⟩)), (5, .pointer (some ⟨b5, 0, none⟩)), (7, vi x29.1), (8, .slice ai x33.length ah), (9, .slice ae x39.length ad), (10, vi s1), (11, vi v11)] ∧ Stp [] K100 w96 κ' w' ∧ 0 ≤ v11 ∧ Int.toNat ((x33.length : Int) - v11) = k ∧ cntM (l_FnMoreClauses_b0 x29 x33 x39) k v11 s1 = some q2) ⟨_, _, ⟨K100, 0, (0 : Int), R, (Jx2 _ _).wk R, (by decide), (by simp), hq107⟩, (KM R)⟩ ?_)
 rintro k _ w111 ⟨K112, v11, s1, rfl, S113, hj105, hJ105, h⟩
 rcases k with _ | k
 have hk114 := h; obtain ⟨o105, h⟩ := ex_eq (Sum.inr (Sum.inl s1) : Bool ⊕ ((Int) ⊕ (Int)))
 have hc105 : decide (v11 < (x33.length : Int)) = false := Jo2 (by omega)
 refine Jq (Je [2, 2, 2, 2] R (Jn 2 R (Jf R (Je2 U24 R R) (Jb 1 R (Jw2 R hc105 (Jc1 (Jt (Jt ?_))))))))
 cases h
 have h := hk114
 refine Jb1 ?_
 cases h
 exact Jw1 _ ⟨K112, (s1 : Int), R, S113.wk R, R⟩ (KM R)
 obtain ⟨o105, h, hk114⟩ := BI h; unfold l_FnMoreClauses_b0 at h
 have hc105 : decide (v11 < (x33.length : Int)) = true := Jn2 (by omega)
 refine Jq (Je [2, 2, 2, 2] R (Jn 2 R (Jf R (Je2 U24 R R) (Jb 1 R (Jv2 R hc105 (Js (Jp (Jq (Jv (Je [2, 2, 2, 1, 2, 2] R (Jn 2 R (Ob h fun x48 hx48 h => Jf R (Jf2 f87.rdc hx48 U24 Z2 R R R R) ?_))))))))))))
 have f115 := f87.stp (S88.tr (S101.tr S113)) R R
 refine Jl tv R R R R (Jc2 I2 R R (hvE (f115.rdc.gInt hx48))) (Jb 2 R (Ob h fun q4 h hK116 => Jx1 (fun L w' => ∃ κ' z4, L = [(4, .pointer (some ⟨b4, 0, none⟩)), (5, .pointer (some ⟨b5, 0, none⟩)), (7, vi x29.1), (8, .slice ai x33.length ah), (9, .slice ae x39.length ad), (10, vi z4), (11, vi v11)] ∧ Stp [] K112 w111 κ' w' ∧ q4 = Sum.inr z4) ?_ ?_))
 revert h
 cases ht120 : decide (x48 < x29.1)
 refine JF fun h => Jy R (Js ?_)
 cases h
 exact Jw1 _ ⟨K112, (s1 : Int), R, (Jx2 _ _).wk R, R⟩ (KM R)
 refine JT fun h => Jx R (Jq (Jq (Js1 (κ := K112) [0, 24, 27] none [(0, 2), (1, 2), (2, 2), (3, 2), (4, 2), (5, 2), (6, 2), (7, 2), (9, 2), (10, 2), (11, 2), (8, 0), (12, 0), (13, 2), (14, 2)] [] (by kernel_rfl) (by kernel_rfl) fun w122 S121 => Jn 2 R (Jf R (Je2 U24 R R) (Jn 2 R (Ob h fun p66 h hK123 => Ju1 [(5, 2), (6, 2), (7, 2), (9, 2), (10, 2), (11, 2), (8, 0), (12, 0), (13, 2), (14, 2)] [] (fun L w' => L = [(4, .pointer (some ⟨b4, 0, none⟩)), (5, .pointer (some ⟨b5, 0, none⟩)), (7, vi x29.1), (8, .slice ai x33.length ah), (9, .slice ae x39.length ad), (10, vi s1), (11, vi v11), (66, .bool p66)] ∧ ∃ κ', Stp [] K112 w122 κ' w') (Cl.refl _ _ _) ?_ ?_))))))
 revert h
 cases ht124 : decide ((x39.length : Int) ≤ s1)
 refine JF fun h => Jn 2 R (Ob h fun x59 hx59 h => Jf R (Jf2 f104.rdc hx59 U24 Z2 R R R R) (Jn 2 R (Ob h fun x63 hx63 h => Jf R (Jf2 f115.rdc hx63 U24 Z2 R R R R) (Jg R (Jc2 I2 R R (hvC ((f104.stp (S113.tr S121) R R).rdc.gInt hx59) R)) (Jg R (Jc2 I2 R R (hvC ((f115.stp S121 R R).rdc.gInt hx63) R)) (Jn 2 R ?_))))))
 cases h
 exact Jv1 _ (Cl.refl _ _ _) ⟨R, _, (Jx2 _ _).wk R⟩ (KM R)
 refine JT fun h => Jn 6 R (Je1 R R R R (Je1 R R R R (Jn 2 R ?_)))
 cases h
 exact Jv1 _ (Cl.refl _ _ _) ⟨R, _, (Jx2 _ _).wk R⟩ (KM R)
 rintro _ w127 _ ⟨rfl, K128, S129⟩
 have h := hK123
 refine Jt1 (Jd ?_)
 revert h
 cases ht130 : p66
 refine JF fun h => Jy R (Js (Jp (Ja [2, 2, 2] R (Jc 3 R ?_))))
 cases h
 exact Jw1 _ ⟨K128, ((IntKind.i64.wrap (s1 + 1)) : Int), R, (S121.tr S129).wk R, R⟩ (KM R)
 refine JT fun h => Jx R (Je [2] R (Jb 1 R (Ju (Jw (Jq2 ?_)))))
 cases h
 have h := hK116
 dsimp only [aft] at h
 refine Ja1 (Jw (Jw ?_))
 cases h
 obtain rfl := Option.some.inj hk114
 have h := hK106
 dsimp only [aft] at h
 refine Ja1 (Jq2 (Jw (Ja2 (l := [.tmp 2]) V5 (Jp2 R R) R ?_)))
 cases h
 exact ⟨K128, R, (hE.stp (S5.tr (S17.tr (S24.tr (S27.tr (S38.tr (S46.tr (S49.tr (S59.tr (S70.tr (S84.tr (S88.tr (S101.tr (S113.tr (S121.tr S129)))))))))))))) R R)⟩
 rintro _ w117 ⟨K118, z4, rfl, S119, rfl⟩
 have h := hK116
 dsimp only [aft] at h
 refine Jz (Jp (Ja [2, 2, 2] R (Jc 3 R ?_)))
 have hw105 : IntKind.wrap .i64 (v11 + 1) = v11 + 1 := wr1 hj105 (Jm2 hc105) hN105
 rw [hw105]
 have hc105 := Jm2 hc105
 cases h
 exact Jz1 fun a ha => ⟨k, _, Ja3 _, ⟨K118, v11 + 1, (z4 : Int), R, (S113.tr S119).wk R, by omega, by omega, hk114⟩, (ha.mm R)⟩
 rintro _ w108 ⟨K109, s3, rfl, S110, rfl⟩
 have h := hK106
 dsimp only [aft] at h
 refine Jp (Jq (Js1 (κ := K109) [8, 14] none [(0, 0), (1, 0), (2, 0), (3, 1), (4, 2), (5, 1), (6, 1), (7, 2), (8, 2), (9, 2), (10, 2), (11, 2), (12, 2), (13, 2)] [] (by kernel_rfl) (by kernel_rfl) fun w133 S132 => ?_))
 have f134 := f92.stp (S101.tr (S110.tr S132)) R R
 refine Jg R (Jd2 (cs := [vi 1, vi 1]) I47 Z47 R R R (haC f134.cells R)) (Jg R (Jd2 (cs := [.slice aa x22.1.Next.length ab, .slice af x22.1.Out.length ac]) I49 Z49 R R R (haC (f93.stp (S101.tr (S110.tr S132)) R R).cells R)) (Jg R (Jd2 (cs := [vi 1, vi 1]) I47 Z47 R R R (haC f134.cells R)) (Jn1 (κ := K109) (E := E6) 28 [] (parts := [(0, .const (vi 0)), (1, .const (vi 1)), (2, .const (vi 2)), (3, .const (vi 3))]) (cells := [vi 0, vi 1, vi 2, vi 3]) (xs := ([0, 1, 2, 3] : List Int)) R R R R R R Y24 Tryinfo2 R R R R R R R R R R ⟨[vi 0], [vi 1, vi 2, vi 3], Zl K109 w133 [], Zl K109 w133 [], R, Zl.sp (l1 := []) (l2 := []) R, Zl.sr (l1 := []) (l2 := []), R, ⟨[vi 1], [vi 2, vi 3], Zl K109 w133 [], Zl K109 w133 [], R, Zl.sp (l1 := []) (l2 := []) R, Zl.sr (l1 := []) (l2 := []), R, ⟨[vi 2], [vi 3], Zl K109 w133 [], Zl K109 w133 [], R, Zl.sp (l1 := []) (l2 := []) R, Zl.sr (l1 := []) (l2 := []), R, ⟨[vi 3], [], Zl K109 w133 [], Zl K109 w133 [], R, Zl.sp (l1 := []) (l2 := []) R, Zl.sr (l1 := []) (l2 := []), R, R⟩⟩⟩⟩ fun ao al w136 K137 S138 f139 => ⟨(S138.cl R), Jf R (rn_build (parts := [(0, .const (vi 4)), (1, .tmp 73)]) (cells := [vi 4, .slice ao ([0, 1, 2, 3] : List Int).length al, .slice none 0 0]) R R (by kernel_rfl)) (Ob h fun x75 hx75 h => Jh R R R C25 (s_MonitorOf_ok (κ := fun b => mp [] 0 (K137 b)) (p0 := (⟨1, 1⟩ : Sig)) (p1 := (⟨4, ([0, 1, 2, 3] : List Int), ([] : List Int)⟩ : Clause)) (Jl2 f139.rdc (mp [] 0) R R) Sl.nil hx75) ?_)⟩)))
 rintro _ w140 ⟨k141, ay, au, ap, ax, rfl, e142, f143, f144⟩
 obtain ⟨K145, S146, m147⟩ := Ji e142 29 R
 have S001 := (S101.tr (S110.tr (S132.tr (S138.tr S146))))
 refine ⟨((S138.tr S146).cl R), Ob h fun x76 hx76 h => Jh R R R C24 (i_WatchOf_ok (κ := fun b => mp [] 0 (K145 b)) (p0 := (⟨1, 1⟩ : Sig)) (p1 := x22.1) (p2 := x75) (Jl2 (f94.stp S001 R R).rdc (mp [] 0) R R) (Jl2 (f95.stp S001 R R).rdc (mp [] 0) R R) (Jl2 (f143.mx (no_own (no_int _) _) m147 R (R : 29 + 2 = 31)).rdc (mp [] 0) R R) (Jl2 (f144.mx Pair.no42 m147 R (R : 29 + 3 = 32)).rdc (mp [] 0) R R) hx76) ?_⟩
 rintro _ w153 ⟨k154, am, an, aj, ak, rfl, e155, f156, f157⟩
 obtain ⟨K158, S159, m160⟩ := Ji e155 33 R
 refine ⟨((S138.tr (S146.tr S159)).cl R), Jn 7 R (Jt1 (Jd (Je [2, 2, 2, 2, 2, 2, 2, 2, 2, 2, 2, 2, 2, 2, 2, 2, 2, 2] R (Jn 2 R (Jf R (Je2 U24 R R) (Jn 2 R (Ob h fun p86 h hK164 => Ju1 [(5, 2), (6, 2)] [(7, 2), (8, 2), (9, 2), (10, 2), (11, 2), (12, 2), (13, 2), (14, 2), (15, 2), (16, 2), (17, 2)] (fun L w' => L = [(12, .slice am x76.1.length an), (13, .slice aj x76.2.1.length ak), (86, .bool p86)] ∧ ∃ κ', Stp [] K158 w153 κ' w') tv ?_ ?_)))))))⟩
 revert h
 cases ht165 : (s3 == (x39.length : Int))
 refine JF fun h => Jn 2 R ?_
 cases h
 exact Jv1 _ tv ⟨R, _, (Jx2 _ _).wk R⟩ (KM R)
 refine JT fun h => Jn 2 R ?_
 cases h
 exact Jv1 _ tv ⟨R, _, (Jx2 _ _).wk R⟩ (KM R)
 rintro _ w166 _ ⟨rfl, K167, S168⟩
 have h := hK164
 refine Jn 1 R (Ob h fun p91 h hK169 => Ju1 [(8, 2), (9, 2), (10, 2), (11, 2)] [(12, 2), (13, 2), (14, 2), (15, 2), (16, 2), (17, 2)] (fun L w' => L = [(13, .slice aj x76.2.1.length ak), (91, .bool p91)] ∧ ∃ κ', Stp [] K167 w166 κ' w') tv ?_ ?_)
 revert h
 cases ht170 : p86
 refine JF fun h => Jn 4 R ?_
 cases h
 exact Jv1 _ tv ⟨R, _, (Jx2 _ _).wk R⟩ (KM R)
 refine JT fun h => Jn 1 R (Jf R (Je2 U22 R R) (Jn 2 R ?_))
 cases h
 exact Jv1 _ tv ⟨R, _, (Jx2 _ _).wk R⟩ (KM R)
 rintro _ w171 _ ⟨rfl, K172, S173⟩
 have h := hK169
 refine Jn 1 R (Ob h fun p96 h hK174 => Ju1 [(13, 2), (14, 2), (15, 2), (16, 2)] [(17, 2)] (fun L w' => L = [(96, .bool p96)] ∧ ∃ κ', Stp [] K172 w171 κ' w') tv ?_ ?_)
 revert h
 cases ht175 : p91
 refine JF fun h => Jn 4 R ?_
 cases h
 exact Jv1 _ tv ⟨R, _, (Jx2 _ _).wk R⟩ (KM R)
 refine JT fun h => Jn 1 R (Jf R (Je2 U29 R R) (Jn 2 R ?_))
 cases h
 exact Jv1 _ tv ⟨R, _, (Jx2 _ _).wk R⟩ (KM R)
 rintro _ w176 _ ⟨rfl, K177, S178⟩
 have h := hK174
 refine Jb 1 R (Ju (Ja2 (l := [.tmp 2]) V5 (Jp2 R R) R ?_))
 cases h
 exact ⟨K177, R, (hE.stp (S5.tr (S17.tr (S24.tr (S27.tr (S38.tr (S46.tr (S49.tr (S59.tr (S70.tr (S84.tr (S88.tr (S101.tr (S110.tr (S132.tr (S138.tr (S146.tr (S159.tr (S168.tr (S173.tr S178))))))))))))))))))) R R)⟩
 refine JT fun h => Jx R (Je [2] R (Jb 1 R (Ju (Jw (Ja2 (l := [.tmp 2]) V5 (Jp2 R R) R ?_)))))
 cases h
 exact ⟨K4, R, (hE.stp S5 R R)⟩
end Go.Proofs.Ytcmamhmpoinmnaa
