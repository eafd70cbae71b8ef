/- The walks, part 9. By program. -/
import Derived.Test.YtcmamhmpoinmnaaGreatFns8BA
set_option linter.unusedVariables false
set_option linter.unusedSimpArgs false
namespace Go.Proofs.YtcmamhmpoinmnaaGreat
open Go Go.Wk Go.Proofs
set_option maxRecDepth 100000
set_option maxHeartbeats 1000000
theorem s_ProductOf_ok {w : World} {κ : Col} {p0 : Sig} {a1 u1} {p1 : (List Clause)} (g1 : Rd Clause.rp κ w 0 a1 u1 p1) {r : Det × Bool} (h : s_ProductOf p0 p1 = some r) : Ret Tryz.prog 59 [.agg #[vi p0.In, vi p0.Out], .slice a1 p1.length u1] w (fun v w' => ∃ (κ' : Col) (ra0 : Option Addr) (ru0 : Nat) (ra1 : Option Addr) (ru1 : Nat), v = .tuple #[.agg #[.slice ra0 r.1.Next.length ru0, .slice ra1 r.1.Pairs.length ru1], .bool r.2] ∧ Ent κ w κ' w' ∧ Oc (Ep.own E6 2) 40 κ' w' 2 ra0 ru0 r.1.Next ∧ Oc Pair.ep92 92 κ' w' 3 ra1 ru1 r.1.Pairs) := by
 unfold s_ProductOf at h
 refine Ret.enter F59 R N59 R ?_
 dsimp only [envOf]
 have hE := Ent.refl κ w
 refine Je [1, 1, 2] R (Jf1 (κ := κ) 2 R R R R R R R fun b2 w1 K2 S3 f4 => ⟨tv, Jg1 (κ := K2) 3 R R R R R X94 R fun b4 w5 K6 S7 f8 => ⟨tv, Jb 1 R (Jq (Je [1, 2, 1, 2] R ?_))⟩⟩)
 have f9 := f4.stp S7 R R
 refine Jl tv R R R R (Jd2 (cs := [vi p0.In, vi p0.Out]) I31 Z31 R R R (haE f9.cells)) (Jn 1 R (Ob h fun x12 hx12 h => ?_))
 have f10 := g1.stp (S3.tr S7) R R
 refine Jh R R R C76 (s_ClausesOk_ok (κ := fun b => mp [] 0 (K6 b)) (p0 := p0) (Jl2 f10 (mp [] 0) R R) hx12) ?_
 rintro _ w11 ⟨k12, rfl, e13⟩
 obtain ⟨K14, S15, m16⟩ := Ji e13 4 R
 refine ⟨tv, Jb 1 R ?_⟩
 revert h
 cases ht18 : (!x12)
 refine JF fun h => Jy R (Js (Jp (Je [1, 1, 1, 1, 2, 1, 1] R ?_)))
 have f24 := f9.stp S15 R R
 refine Jl tv R R R R (Jd2 (cs := [vi p0.In, vi p0.Out]) I31 Z31 R R R (haE f24.cells)) (Ob h fun x16 hx16 h => Jh R R R C86 (s_LettersOf_ok (κ := fun b => mp [] 0 (K14 b)) (p0 := p0) hx16) ?_)
 rintro _ w25 ⟨k26, rfl, e27⟩
 obtain ⟨K28, S29, m30⟩ := Ji e27 6 R
 refine ⟨tv, Ob h fun x17 hx17 h => Jl1 (κ := K28) (E := E6) (z := (0 : Int)) 8 R R R R R R R Y40 Tryzinfo2 R R R R R (fun _ _ _ => R) (Ju2 hx17) fun aw av w32 K33 S34 f35 => ⟨tv, Jn1 (κ := K33) (E := (Ep.own E6 2)) 9 [8] (parts := [(0, .tmp 17)]) (cells := [.slice aw x17.length av]) (xs := ([x17] : List (List Int))) R R R R R R Y24 Tryzinfo40 R R R R R R R R R R ⟨[.slice aw x17.length av], [], Zl K33 w32 [8], Zl K33 w32 [], R, Zl.sp (l1 := [8]) (l2 := []) R, Zl.sr (l1 := [8]) (l2 := []), ⟨_, _, R, f35⟩, R⟩ fun au ar w36 K37 S38 f39 => ⟨tv, Jf R (rn_build (parts := [(0, .tmp 18)]) (cells := [.slice au ([x17] : List (List Int)).length ar, .slice none 0 0]) R R (by kernel_rfl)) (Jg1 (κ := K37) 10 R R R R R X94 R fun b6 w40 K41 S42 f43 => ⟨tv, Jj1 (κ := K41) 10 (vc := [.slice au ([x17] : List (List Int)).length ar, .slice none 0 0]) R R R R R R R Z94 R R f43 R fun w44 S45 f46 => ⟨tv, Jd (Jq (Je [2] R (Jb 1 R ?_)))⟩⟩)⟩⟩⟩
 have hN47 : (p1.length : Int) ≤ 9223372036854775807 := f10.len_le
 refine Ob h fun q2 hq49 hK48 => ?_
 clear h
 refine Jx1 (fun L w' => ∃ κ', ∃ s3 : (List (List Int)) × (List Pair), ∃ al af aj am, L = [(4, .pointer (some ⟨b4, 0, none⟩)), (6, .pointer (some ⟨b6, 0, none⟩))] ∧ Stp [10, 12, 13, 16, 18, 19, 20] K41 w44 κ' w' ∧ Oc (Ep.own E6 2) 40 κ' w' 9 al af s3.1 ∧ Oc Pair.ep92 92 κ' w' 11 aj am s3.2 ∧ Bc κ' w' 10 b6 94 [.slice al s3.1.length af, .slice aj s3.2.length am] ∧ q2 = Sum.inr s3) ?_ ?_
 refine Jv (Jy1 (fun k L w' => ∃ κ' v7, ∃ s1 : (List (List Int)) × (List Pair), ∃ ap an aq ao, L = [(1, .slice a1 p1.length u1), (2, .pointer (some ⟨b2, 0, none⟩)), (4, .pointer (some ⟨b4, 0, none⟩)), (6, .pointer (some ⟨b6, 0, none⟩)), (7, vi v7)] ∧ Stp [10, 12, 13, 16, 18, 19, 20] K41 w44 κ' w' ∧ Oc (Ep.own E6 2) 40 κ' w' 9 ap an s1.1 ∧ Oc Pair.ep92 92 κ' w' 11 aq ao s1.2 ∧ Bc κ' w' 10 b6 94 [.slice ap s1.1.length an, .slice aq s1.2.length ao] ∧ 0 ≤ v7 ∧ Int.toNat ((p1.length : Int) - v7) = k ∧ cntM (s_ProductOf_b0 p0 p1) k v7 s1 = some q2) ⟨_, _, ⟨K41, 0, ((([x17] : List (List Int)) : (List (List Int))), (([] : List Pair) : (List Pair))), au, ar, none, 0, R, (Jx2 _ _).wk R, (f39.stp (S42.tr S45) R R), Ow.nil, f46, (by decide), (by simp), hq49⟩, (KM R)⟩ ?_)
 rintro k _ w56 ⟨K57, v7, s1, ap, an, aq, ao, rfl, S58, f59, f60, f61, hj47, hJ47, h⟩
 rcases k with _ | k
 have hk63 := h; obtain ⟨o47, h⟩ := ex_eq (Sum.inr (Sum.inl s1) : (Det × Bool) ⊕ (((List (List Int)) × (List Pair)) ⊕ ((List (List Int)) × (List Pair))))
 have hc47 : decide (v7 < (p1.length : Int)) = false := Jo2 (by omega)
 refine Jq (Je [2, 2, 2, 2] R (Jn 2 R (Jf R (Je2 U35 R R) (Jb 1 R (Jw2 R hc47 (Jc1 (Jt (Jt ?_))))))))
 cases h
 have h := hk63
 refine Jb1 ?_
 cases h
 exact Jw1 _ ⟨K57, ((s1.1 : (List (List Int))), (s1.2 : (List Pair))), ap, an, aq, ao, R, S58.wk R, f59, f60, f61, R⟩ (KM R)
 obtain ⟨o47, h, hk63⟩ := BI h; unfold s_ProductOf_b0 at h
 have hc47 : decide (v7 < (p1.length : Int)) = true := Jn2 (by omega)
 refine Jq (Je [2, 2, 2, 2] R (Jn 2 R (Jf R (Je2 U35 R R) (Jb 1 R (Jv2 R hc47 (Js (Jp (Jq (Jv (Jq (Ob h fun x32 hx32 h => Ob h fun x34 hx34 h => Ob h fun x35 hx35 h => Jx1 (fun L w' => ∃ κ' b8 ah ak ai ae, L = [(1, .slice a1 p1.length u1), (2, .pointer (some ⟨b2, 0, none⟩)), (4, .pointer (some ⟨b4, 0, none⟩)), (6, .pointer (some ⟨b6, 0, none⟩)), (7, vi v7), (8, .pointer (some ⟨b8, 0, none⟩)), (9, .bool x35.2)] ∧ Stp [12, 16, 18, 19, 20] K57 w56 κ' w' ∧ Oc (Ep.own E6 2) 40 κ' w' 12 ah ak x35.1.Next ∧ Oc Pair.ep92 92 κ' w' 13 ai ae x35.1.Pairs ∧ Bc κ' w' 14 b8 94 [.slice ah x35.1.Next.length ak, .slice ai x35.1.Pairs.length ae]) ?_ ?_)))))))))))
 refine WC.rxt (κ := K57) [0, 2, 10] none (by kernel_rfl) fun w71 S72 => Jq1 (fuel := 8) [(3, 2), (4, 2), (5, 2), (0, 0), (1, 0), (2, 0), (6, 0)] (by kernel_rfl) (by kernel_rfl) R (Jn 2 R (Jf R (Jf2 f10 hx32 U35 Z71 R R R R) ?_))
 have f73 := f24.stp (S29.tr (S34.tr (S38.tr (S42.tr (S45.tr (S58.tr S72)))))) R R
 refine Jg R (Jd2 (cs := [vi p0.In, vi p0.Out]) I31 Z31 R R R (haC f73.cells R)) (Jg R (Jd2 (cs := [.slice ap s1.1.length an, .slice aq s1.2.length ao]) I94 Z94 R R R (haC (f61.stp S72 R R).cells R)) (Jg R (Jd2 (cs := [vi p0.In, vi p0.Out]) I31 Z31 R R R (haC f73.cells R)) ?_))
 obtain ⟨cse76, hre76, hle76⟩ := ((f10.stp (S15.tr (S29.tr (S34.tr (S38.tr (S42.tr (S45.tr (S58.tr S72))))))) R R)).gSt hx32
 obtain ⟨ae76_0, ue76_0, ae76_1, ue76_1, rfl, fe76_0, fe76_1⟩ := Clause.un hre76
 refine Jg R (Jd2 (cs := [vi x32.Kind, .slice ae76_0 x32.A.length ue76_0, .slice ae76_1 x32.B.length ue76_1]) I71 Z71 R R R (haC hle76 R)) (Jp1 (WA.fork2 (fuel := 7) 7 12 (by kernel_rfl) R ?_ ?_))
 refine Jh R R R C111 (s_MonitorOf_ok (κ := fun b => mp [] 0 (K57 b)) (p0 := p0) (p1 := x32) (Jl2 fe76_0 (mp [] 0) R R) (Jl2 fe76_1 (mp [] 0) R R) hx34) ?_
 rintro _ w77 ⟨k78, az, ay, aA, ax, rfl, e79, f80, f81⟩
 obtain ⟨K82, S83, m84⟩ := Ji e79 12 R
 refine ⟨(S83.cl R), ?_⟩
 have f86 := f80.mx (no_own (no_int _) _) m84 R (R : 12 + 2 = 14)
 have f87 := f81.mx Pair.no92 m84 R (R : 12 + 3 = 15)
 refine Jp1 (WA.fork2 (fuel := 6) 8 12 (by kernel_rfl) R ?_ ?_)
 refine Jh R R R C110 (s_JoinedDet_ok (κ := fun b => mp [] 0 (K82 b)) (p0 := p0) (p1 := (⟨s1.1, s1.2⟩ : Det)) (p2 := x34) (Jl2 (f59.stp (S72.tr S83) R R).rdc (mp [] 0) R R) (Jl2 (f60.stp (S72.tr S83) R R).rdc (mp [] 0) R R) (Jl2 f86.rdc (mp [] 0) R R) (Jl2 f87.rdc (mp [] 0) R R) hx35) ?_
 rintro _ w90 ⟨k91, ac, ab, ad, aa, rfl, e92, f93, f94⟩
 obtain ⟨K95, S96, m97⟩ := Ji e92 16 R
 exact ⟨((S83.tr S96).cl R), Jp1 (Jq1 (fuel := 0) [(9, 2), (10, 2), (11, 2), (12, 1), (13, 1), (14, 2)] (by kernel_rfl) (by kernel_rfl) R (Jn 3 R (Jg1 (κ := K95) 20 R R R R R X94 R fun b8 w101 K102 S103 f104 => ⟨((S83.tr (S96.tr S103)).cl R), Jj1 (κ := K102) 20 (vc := [.slice ac x35.1.Next.length ab, .slice ad x35.1.Pairs.length aa]) R R R R R R R Z94 R R f104 R fun w105 S106 f107 => ⟨((S83.tr (S96.tr (S103.tr S106))).cl R), Jn 1 R (Jp1 (Jr1 [] (by kernel_rfl) (by kernel_rfl) R (Jo (Jw1 _ ⟨(fun b => ren [(18, 12), (19, 13), (20, 14)] (K102 b)), b8, ac, ab, ad, aa, R, (Jy2 ((S72.tr (S83.tr (S96.tr (S103.tr S106)))).wk R) [(18, 12), (19, 13), (20, 14)] R), (((f93.mx (no_own (no_int _) _) m97 R (R : 16 + 2 = 18)).stp (S103.tr S106) R R).map (ren [(18, 12), (19, 13), (20, 14)]) R R), (((f94.mx Pair.no92 m97 R (R : 16 + 3 = 19)).stp (S103.tr S106) R R).map (ren [(18, 12), (19, 13), (20, 14)]) R R), (f107.map (ren [(18, 12), (19, 13), (20, 14)]) R R)⟩ (KM R)))))⟩⟩)))⟩
 refine Jg1 (κ := K82) 16 R R R R R X94 R fun b8 w110 K111 S112 f113 => ⟨((S83.tr S112).cl R), Jp1 (Jq1 (fuel := 0) [(8, 1), (9, 2), (10, 2), (11, 2), (13, 1), (14, 2)] (by kernel_rfl) (by kernel_rfl) R (Jh R R R C110 (s_JoinedDet_ok (κ := fun b => mp [] 0 (K111 b)) (p0 := p0) (p1 := (⟨s1.1, s1.2⟩ : Det)) (p2 := x34) (Jl2 (f59.stp (S72.tr (S83.tr S112)) R R).rdc (mp [] 0) R R) (Jl2 (f60.stp (S72.tr (S83.tr S112)) R R).rdc (mp [] 0) R R) (Jl2 (f86.stp S112 R R).rdc (mp [] 0) R R) (Jl2 (f87.stp S112 R R).rdc (mp [] 0) R R) hx35) ?_))⟩
 rintro _ w118 ⟨k119, ac, ab, ad, aa, rfl, e120, f121, f122⟩
 obtain ⟨K123, S124, m125⟩ := Ji e120 17 R
 exact ⟨((S83.tr (S112.tr S124)).cl R), Jn 3 R (Jj1 (κ := K123) 16 (vc := [.slice ac x35.1.Next.length ab, .slice ad x35.1.Pairs.length aa]) R R R R R R R Z94 R R (f113.stp S124 R R) R fun w130 S131 f132 => ⟨((S83.tr (S112.tr (S124.tr S131))).cl R), Jn 1 R (Jp1 (Jr1 [] (by kernel_rfl) (by kernel_rfl) R (Jo (Jw1 _ ⟨(fun b => ren [(19, 12), (20, 13), (16, 14)] (K123 b)), b8, ac, ab, ad, aa, R, (Jy2 ((S72.tr (S83.tr (S112.tr (S124.tr S131)))).wk R) [(19, 12), (20, 13), (16, 14)] R), (((f121.mx (no_own (no_int _) _) m125 R (R : 17 + 2 = 19)).stp S131 R R).map (ren [(19, 12), (20, 13), (16, 14)]) R R), (((f122.mx Pair.no92 m125 R (R : 17 + 3 = 20)).stp S131 R R).map (ren [(19, 12), (20, 13), (16, 14)]) R R), (f132.map (ren [(19, 12), (20, 13), (16, 14)]) R R)⟩ (KM R)))))⟩)⟩
 refine Jg1 (κ := K57) 12 R R R R R X94 R fun b8 w135 K136 S137 f138 => ⟨(S137.cl R), Jp1 (Jq1 (fuel := 0) [(7, 1), (8, 1), (9, 2), (10, 2), (11, 2), (13, 1), (14, 2)] (by kernel_rfl) (by kernel_rfl) R (Jh R R R C111 (s_MonitorOf_ok (κ := fun b => mp [] 0 (K136 b)) (p0 := p0) (p1 := x32) (Jl2 (fe76_0.stp S137 R R) (mp [] 0) R R) (Jl2 (fe76_1.stp S137 R R) (mp [] 0) R R) hx34) ?_))⟩
 rintro _ w141 ⟨k142, az, ay, aA, ax, rfl, e143, f144, f145⟩
 obtain ⟨K146, S147, m148⟩ := Ji e143 13 R
 refine ⟨((S137.tr S147).cl R), Jh R R R C110 (s_JoinedDet_ok (κ := fun b => mp [] 0 (K146 b)) (p0 := p0) (p1 := (⟨s1.1, s1.2⟩ : Det)) (p2 := x34) (Jl2 (f59.stp (S72.tr (S137.tr S147)) R R).rdc (mp [] 0) R R) (Jl2 (f60.stp (S72.tr (S137.tr S147)) R R).rdc (mp [] 0) R R) (Jl2 (f144.mx (no_own (no_int _) _) m148 R (R : 13 + 2 = 15)).rdc (mp [] 0) R R) (Jl2 (f145.mx Pair.no92 m148 R (R : 13 + 3 = 16)).rdc (mp [] 0) R R) hx35) ?_⟩
 rintro _ w154 ⟨k155, ac, ab, ad, aa, rfl, e156, f157, f158⟩
 obtain ⟨K159, S160, m161⟩ := Ji e156 17 R
 have S001 := (S137.tr (S147.tr S160))
 exact ⟨(S001.cl R), Jn 3 R (Jj1 (κ := K159) 12 (vc := [.slice ac x35.1.Next.length ab, .slice ad x35.1.Pairs.length aa]) R R R R R R R Z94 R R (f138.stp (S147.tr S160) R R) R fun w166 S167 f168 => ⟨((S001.tr S167).cl R), Jn 1 R (Jp1 (Jr1 [] (by kernel_rfl) (by kernel_rfl) R (Jo (Jw1 _ ⟨(fun b => ren [(19, 12), (20, 13), (12, 14)] (K159 b)), b8, ac, ab, ad, aa, R, (Jy2 ((S72.tr (S137.tr (S147.tr (S160.tr S167)))).wk R) [(19, 12), (20, 13), (12, 14)] R), (((f157.mx (no_own (no_int _) _) m161 R (R : 17 + 2 = 19)).stp S167 R R).map (ren [(19, 12), (20, 13), (12, 14)]) R R), (((f158.mx Pair.no92 m161 R (R : 17 + 3 = 20)).stp S167 R R).map (ren [(19, 12), (20, 13), (12, 14)]) R R), (f168.map (ren [(19, 12), (20, 13), (12, 14)]) R R)⟩ (KM R)))))⟩)⟩
 rintro _ w64 ⟨K65, b8, ah, ak, ai, ae, rfl, S66, f68, f69, f70⟩
 refine Jp (Jq (Je [2, 2] R (Jb 2 R ?_)))
 revert h
 cases ht171 : (!x35.2)
 refine JF fun h => Jy R (Js (Jp (Ja [1, 1] R (Jl tv R R R R (Jd2 (cs := [.slice ah x35.1.Next.length ak, .slice ai x35.1.Pairs.length ae]) I94 Z94 R R R (haE f70.cells)) (Jj1 (κ := K65) 10 (vc := [.slice ah x35.1.Next.length ak, .slice ai x35.1.Pairs.length ae]) R R R R R R R Z94 R R (f61.stp S66 R R) R fun w178 S179 f180 => ⟨tv, Jo (Jz (Jp (Ja [2, 2, 2] R (Jc 3 R ?_))))⟩)))))
 have hw47 : IntKind.wrap .i64 (v7 + 1) = v7 + 1 := wr1 hj47 (Jm2 hc47) hN47
 rw [hw47]
 have hc47 := Jm2 hc47
 cases h
 exact Jz1 fun a ha => ⟨k, _, Ja3 _, ⟨(fun b => ren [(12, 9), (13, 11)] (K65 b)), v7 + 1, ((x35.1.Next : (List (List Int))), (x35.1.Pairs : (List Pair))), ah, ak, ai, ae, R, (Jy2 ((S58.tr (S66.tr S179)).wk R) [(12, 9), (13, 11)] R), ((f68.stp S179 R R).map (ren [(12, 9), (13, 11)]) R R), ((f69.stp S179 R R).map (ren [(12, 9), (13, 11)]) R R), (f180.map (ren [(12, 9), (13, 11)]) R R), by omega, by omega, hk63⟩, (ha.mm R)⟩
 refine JT fun h => Jx R (Je [2, 1, 2] R (Jf R (rn_build (parts := []) (cells := [.slice none 0 0, .slice none 0 0]) R R (by kernel_rfl)) (Jj1 (κ := K65) 3 (vc := [.slice none 0 0, .slice none 0 0]) R R R R R R R Z94 R R (f8.stp (S15.tr (S29.tr (S34.tr (S38.tr (S42.tr (S45.tr (S58.tr S66))))))) R R) R fun w173 S174 f175 => ⟨tv, Jb 1 R (Ju (Jw (Ja1 (Jw (Jw ?_)))))⟩)))
 cases h
 obtain rfl := Option.some.inj hk63
 have h := hK48
 dsimp only [aft] at h
 refine Ja1 (Jq2 (Jw (Ja2 (l := [.cell 4 94, .tmp 5]) V59 (res_cellA R f175 I94 Z94 R (Jp2 R R)) R ?_)))
 cases h
 exact ⟨K65, none, 0, none, 0, R, (hE.stp (S3.tr (S7.tr (S15.tr (S29.tr (S34.tr (S38.tr (S42.tr (S45.tr (S58.tr (S66.tr S174)))))))))) R R), Ow.nil, Ow.nil⟩
 rintro _ w50 ⟨K51, s3, al, af, aj, am, rfl, S52, f53, f54, f55, rfl⟩
 have h := hK48
 dsimp only [aft] at h
 refine Jp (Je [1, 1, 2] R (Jl tv R R R R (Jd2 (cs := [.slice al s3.1.length af, .slice aj s3.2.length am]) I94 Z94 R R R (haE f55.cells)) (Jj1 (κ := K51) 3 (vc := [.slice al s3.1.length af, .slice aj s3.2.length am]) R R R R R R R Z94 R R (f8.stp (S15.tr (S29.tr (S34.tr (S38.tr (S42.tr (S45.tr S52)))))) R R) R fun w184 S185 f186 => ⟨tv, Jb 1 R (Ju (Ja2 (l := [.cell 4 94, .tmp 5]) V59 (res_cellA R f186 I94 Z94 R (Jp2 R R)) R ?_))⟩)))
 cases h
 exact ⟨(fun b => ren [(9, 2), (11, 3)] (K51 b)), al, af, aj, am, R, ((hE.stp (S3.tr (S7.tr (S15.tr (S29.tr (S34.tr (S38.tr (S42.tr (S45.tr (S52.tr S185))))))))) R R).map (ren [(9, 2), (11, 3)]) R R), ((f53.stp S185 R R).map (ren [(9, 2), (11, 3)]) R R), ((f54.stp S185 R R).map (ren [(9, 2), (11, 3)]) R R)⟩
 refine JT fun h => Jx R (Je [2, 1, 2] R (Jf R (rn_build (parts := []) (cells := [.slice none 0 0, .slice none 0 0]) R R (by kernel_rfl)) (Jj1 (κ := K14) 3 (vc := [.slice none 0 0, .slice none 0 0]) R R R R R R R Z94 R R (f8.stp S15 R R) R fun w20 S21 f22 => ⟨tv, Jb 1 R (Ju (Jw (Ja2 (l := [.cell 4 94, .tmp 5]) V59 (res_cellA R f22 I94 Z94 R (Jp2 R R)) R ?_)))⟩)))
 cases h
 exact ⟨K14, none, 0, none, 0, R, (hE.stp (S3.tr (S7.tr (S15.tr S21))) R R), Ow.nil, Ow.nil⟩
theorem s_l33Fair_ok (n : Nat) : ∀ {w : World} {κ : Col} {a0 u0} {p0 : (List (List Int))} {a1 u1} {p1 : (List Pair)} {a2 u2} {p2 : (List Int)} (g0 : Rd (Rp.sl (Rp.int .i64)) κ w 0 a0 u0 p0) (g1 : Rd Pair.rp κ w 0 a1 u1 p1) (g2 : Rd (Rp.int .i64) κ w 0 a2 u2 p2) {r : Bool} (h : s_l33Fair n p0 p1 p2 = some r), Ret Tryz.prog 65 [.slice a0 p0.length u0, .slice a1 p1.length u1, .slice a2 p2.length u2] w (fun v w' => ∃ (κ' : Col), v = .bool r ∧ Ent κ w κ' w') := by
 induction n with
 | zero =>
  intro w κ a0 u0 p0 a1 u1 p1 a2 u2 p2 g0 g1 g2 r h
  cases h
 | succ n ih =>
  intro w κ a0 u0 p0 a1 u1 p1 a2 u2 p2 g0 g1 g2 r h
  have h : s_l33Fair_s (s_l33Fair n) p0 p1 p2 = some r := h
  unfold s_l33Fair_s at h
  refine Ret.enter F65 R N65 R ?_
  dsimp only [envOf]
  have hE := Ent.refl κ w
  refine Je [2] R (Jb 1 R (Je [2, 2, 1, 2] R (Jn 2 R (Ob h fun x12 hx12 h => Jh R R R C114 (s_l1Loops_ok (κ := fun b => mp [] 1 (κ b)) (Jl2 g0 (mp [] 1) R R) (Jl2 g2 (mp [] 1) R R) hx12) ?_))))
  rintro _ w1 ⟨k2, aa, ab, rfl, e3, f4⟩
  obtain ⟨K5, S6, m7, z8⟩ := Jj e3 2 R
  refine ⟨tv, ?_⟩
  have f9 := f4.mxz z8 m7 R (R : 2 + 2 = 4)
  refine Jb 1 R (Jq (Je [2] R (Jb 1 R ?_)))
  have hN10 : (x12.length : Int) ≤ 9223372036854775807 := f9.len_le
  refine Ob h fun q2 hq12 hK11 => ?_
  clear h
  refine Jx1 (fun L w' => ∃ κ', L = [] ∧ Stp [] K5 w1 κ' w' ∧ q2 = Sum.inr ()) ?_ ?_
  refine Jv (Jy1 (fun k L w' => ∃ κ' v8, L = [(0, .slice a0 p0.length u0), (1, .slice a1 p1.length u1), (7, .slice aa x12.length ab), (8, vi v8)] ∧ Stp [] K5 w1 κ' w' ∧ 0 ≤ v8 ∧ Int.toNat ((x12.length : Int) - v8) = k ∧ cntM (s_l33Fair_b0 (s_l33Fair n) p0 p1 x12) k v8 () = some q2) ⟨_, _, ⟨K5, 0, R, (Jx2 _ _).wk R, (by decide), (by simp), hq12⟩, (KM R)⟩ ?_)
  rintro k _ w16 ⟨K17, v8, rfl, S18, hj10, hJ10, h⟩
  rcases k with _ | k
  have hk19 := h; obtain ⟨o10, h⟩ := ex_eq (Sum.inr (Sum.inl ()) : Bool ⊕ ((Unit) ⊕ (Unit)))
  have hc10 : decide (v8 < (x12.length : Int)) = false := Jo2 (by omega)
  refine Jq (Je [2, 2, 2, 2] R (Jn 2 R (Jf R (Je2 U24 R R) (Jb 1 R (Jw2 R hc10 (Jc1 (Jt (Jt ?_))))))))
  cases h
  have h := hk19
  refine Jb1 ?_
  cases h
  exact Jw1 _ ⟨K17, R, S18.wk R, R⟩ KN
  obtain ⟨o10, h, hk19⟩ := BI h; unfold s_l33Fair_b0 at h
  have hc10 : decide (v8 < (x12.length : Int)) = true := Jn2 (by omega)
  refine Jq (Je [2, 2, 2, 2] R (Jn 2 R (Jf R (Je2 U24 R R) (Jb 1 R (Jv2 R hc10 (Js (Jp (Jq (Jv (Je [2, 2, 2, 2, 1, 1, 2] R (Jn 3 R (Ob h fun x22 hx22 h => Jf R (Jf2 f9.rdc hx22 U24 Z40 R R R R) ?_))))))))))))
  have f20 := f9.stp S18 R R
  obtain ⟨ax22, ux22, f21, hl22⟩ := f20.gZ hx22
  refine Jl tv R R R R (Jc2 I40 R R (hvE hl22)) (Ob h fun x24 hx24 h => ?_)
  have f23 := g1.stp (S6.tr S18) R R
  refine Jh R R R C115 (s_l33Vain_ok (κ := fun b => mp [] 1 (K17 b)) (Jl2 f23 (mp [] 1) R R) (Jl2 f21 (mp [] 1) R R) hx24) ?_
  rintro _ w24 ⟨k25, ad, ae, rfl, e26, f27⟩
  obtain ⟨K28, S29, m30, z31⟩ := Jj e26 5 R
  refine ⟨tv, Jb 1 R (Je [2, 2, 2, 2, 2, 2, 2, 2, 2, 1, 2, 1, 1, 2] R (Jn 1 R (Jf R (Je2 U40 R R) (Jn 2 R (Ob h fun p38 h hK33 => Ju1 [(4, 2), (5, 2), (6, 2), (7, 2), (8, 2), (9, 1), (10, 2), (11, 1), (12, 1), (13, 2)] [] (fun L w' => L = [(0, .slice a0 p0.length u0), (1, .slice a1 p1.length u1), (7, .slice aa x12.length ab), (8, vi v8), (38, .bool p38)] ∧ ∃ κ', Stp [] K28 w24 κ' w') tv ?_ ?_)))))⟩
  revert h
  cases ht34 : ((x24.length : Int) == 0)
  refine JF fun h => Jn 4 R (Ob h fun x33 hx33 h => Jf R (Jf2 f20.rdc hx33 U24 Z40 R R R R) ?_)
  obtain ⟨ax33, ux33, f36, hl37⟩ := (f20.stp S29 R R).gZ hx33
  refine Jl tv R R R R (Jc2 I40 R R (hvE hl37)) (Jn 1 R (Ob h fun x36 hx36 h => Jh R R R C116 (s_LessOf_ok (κ := fun b => mp [] 0 (K28 b)) (Jl2 f36 (mp [] 0) R R) (Jl2 (f27.mx z31) (mp [] 0) R R) hx36) ?_))
  rintro _ w38 ⟨k39, ac, af, rfl, e40, f41⟩
  obtain ⟨K42, S43, m44⟩ := Ji e40 8 R
  refine ⟨tv, Ob h fun x37 hx37 h => Jh R R R C65 (ih (κ := fun b => mp [] 0 (K42 b)) (Jl2 (g0.stp (S6.tr (S18.tr (S29.tr S43))) R R) (mp [] 0) R R) (Jl2 (f23.stp (S29.tr S43) R R) (mp [] 0) R R) (Jl2 (f41.mx (no_int _) m44 R (R : 8 + 2 = 10)).rdc (mp [] 0) R R) hx37) ?_⟩
  rintro _ w49 ⟨k50, rfl, e51⟩
  obtain ⟨K52, S53, m54⟩ := Ji e51 11 R
  refine ⟨tv, Jn 1 R ?_⟩
  cases h
  exact Jv1 _ tv ⟨R, _, (S43.tr S53).wk R⟩ (KM R)
  refine JT fun h => Jn 5 R (Jd1 R R R R (Jn 1 R (Jd1 R R R R (Jd1 R R R R (Jn 1 R ?_)))))
  cases h
  exact Jv1 _ tv ⟨R, _, (Jx2 _ _).wk R⟩ (KM R)
  rintro _ w56 _ ⟨rfl, K57, S58⟩
  have h := hK33
  refine Jd ?_
  revert h
  cases ht59 : p38
  refine JF fun h => Jy R (Js (Jz (Jp (Ja [2, 2, 2] R (Jc 3 R ?_)))))
  have hw10 : IntKind.wrap .i64 (v8 + 1) = v8 + 1 := wr1 hj10 (Jm2 hc10) hN10
  rw [hw10]
  have hc10 := Jm2 hc10
  cases h
  exact Jz1 fun a ha => ⟨k, _, Ja3 _, ⟨K57, v8 + 1, R, (S18.tr (S29.tr S58)).wk R, by omega, by omega, hk19⟩, (ha.mm R)⟩
  refine JT fun h => Jx R (Je [2] R (Jb 1 R (Ju (Ja1 (Jw (Jw ?_))))))
  cases h
  obtain rfl := Option.some.inj hk19
  have h := hK11
  dsimp only [aft] at h
  refine Ja1 (Jq2 (Jw (Ja2 (l := [.tmp 6]) V65 (Jp2 R R) R ?_)))
  cases h
  exact ⟨K57, R, (hE.stp (S6.tr (S18.tr (S29.tr S58))) R R)⟩
  rintro _ w13 ⟨K14, rfl, S15, rfl⟩
  have h := hK11
  dsimp only [aft] at h
  refine Jp (Je [2] R (Jb 1 R (Ju (Ja2 (l := [.tmp 6]) V65 (Jp2 R R) R ?_))))
  cases h
  exact ⟨K14, R, (hE.stp (S6.tr S15) R R)⟩
theorem i_BeatsAll_ok {w : World} {κ : Col} {p0 : Sig} {aQ aP aN aL} {p1 : Rival} {a2 u2} {p2 : (List Clause)} (g1_0 : Rd (Rp.int .i64) κ w 0 aQ aP p1.In) (g1_1 : Rd (Rp.sl (Rp.int .i64)) κ w 0 aN aL p1.Next) (g2 : Rd Clause.rp κ w 0 a2 u2 p2) {r : Bool} (h : i_BeatsAll p0 p1 p2 = some r) : Ret Tryz.prog 28 [.agg #[vi p0.In, vi p0.Out], .agg #[.slice aQ p1.In.length aP, .slice aN p1.Next.length aL], .slice a2 p2.length u2] w (fun v w' => ∃ (κ' : Col), v = .bool r ∧ Ent κ w κ' w') := by
 unfold i_BeatsAll at h
 refine Ret.enter F28 R N28 R ?_
 dsimp only [envOf]
 have hE := Ent.refl κ w
 refine Je [1, 1, 2] R (Jf1 (κ := κ) 2 R R R R R R R fun b3 w1 K2 S3 f4 => ⟨tv, Jf1 (κ := K2) 3 R R R R R R R fun b4 w5 K6 S7 f8 => ⟨tv, Jb 1 R (Jq (Je [1, 1, 2, 2, 1, 1, 1, 2, 2] R ?_))⟩⟩)
 have f9 := f4.stp S7 R R
 refine Jl tv R R R R (Jd2 (cs := [vi p0.In, vi p0.Out]) I31 Z31 R R R (haE f9.cells)) (Ob h fun x28 hx28 h => Jh R R R C69 (i_isSig_ok (κ := fun b => mp [] 0 (K6 b)) (p0 := p0) hx28) ?_)
 rintro _ w10 ⟨k11, rfl, e12⟩
 obtain ⟨K13, S14, m15⟩ := Ji e12 4 R
 refine ⟨tv, Jn 2 R (Ob h fun p35 h hK17 => Ju1 [(4, 1), (5, 1), (6, 1), (7, 2), (8, 2)] [] (fun L w' => L = [(2, .slice a2 p2.length u2), (3, .pointer (some ⟨b3, 0, none⟩)), (4, .pointer (some ⟨b4, 0, none⟩)), (35, .bool p35)] ∧ ∃ κ', Stp [] K13 w10 κ' w') tv ?_ ?_)⟩
 revert h
 cases ht18 : (!x28)
 refine JF fun h => Jl tv R R R R (Jd2 (cs := [vi p0.In, vi p0.Out]) I31 Z31 R R R (haE (f9.stp S14 R R).cells)) (Jl tv R R R R (Jd2 (cs := [.slice aQ p1.In.length aP, .slice aN p1.Next.length aL]) I50 Z50 R R R (haE (f8.stp S14 R R).cells)) (Ob h fun x33 hx33 h => Jh R R R C70 (i_isRival_ok (κ := fun b => mp [] 0 (K13 b)) (p0 := p0) (p1 := p1) (Jl2 (g1_0.stp (S3.tr (S7.tr S14)) R R) (mp [] 0) R R) (Jl2 (g1_1.stp (S3.tr (S7.tr S14)) R R) (mp [] 0) R R) hx33) ?_))
 rintro _ w23 ⟨k24, rfl, e25⟩
 obtain ⟨K26, S27, m28⟩ := Ji e25 6 R
 refine ⟨tv, Jn 2 R ?_⟩
 cases h
 exact Jv1 _ tv ⟨R, _, S27.wk R⟩ (KM R)
 refine JT fun h => Jd1 R R R R (Jd1 R R R R (Jd1 R R R R (Jn 2 R ?_)))
 cases h
 exact Jv1 _ tv ⟨R, _, (Jx2 _ _).wk R⟩ (KM R)
 rintro _ w30 _ ⟨rfl, K31, S32⟩
 have h := hK17
 refine Jd ?_
 revert h
 cases ht33 : p35
 refine JF fun h => Jy R (Js (Jp (Je [1, 2, 1, 2, 2, 2, 1, 1, 2] R ?_)))
 have f35 := f9.stp (S14.tr S32) R R
 refine Jl tv R R R R (Jd2 (cs := [vi p0.In, vi p0.Out]) I31 Z31 R R R (haE f35.cells)) (Jn 1 R (Ob h fun x39 hx39 h => Jh R R R C71 (i_ProductOf_ok (κ := fun b => mp [] 0 (K31 b)) (p0 := p0) (Jl2 (g2.stp (S3.tr (S7.tr (S14.tr S32))) R R) (mp [] 0) R R) hx39) ?_))
 rintro _ w37 ⟨k38, aW, bl, ap, aq, rfl, e39, f40, f41⟩
 obtain ⟨K42, S43, m44⟩ := Ji e39 6 R
 refine ⟨tv, ?_⟩
 have f46 := f40.mx (no_own (no_int _) _) m44 R (R : 6 + 2 = 8)
 have f47 := f41.mx Pair.no92 m44 R (R : 6 + 3 = 9)
 refine Jn 3 R (Jg1 (κ := K42) 10 R R R R R X94 R fun b7 w48 K49 S50 f51 => ⟨tv, Jj1 (κ := K49) 10 (vc := [.slice aW x39.1.Next.length bl, .slice ap x39.1.Pairs.length aq]) R R R R R R R Z94 R R f51 R fun w52 S53 f54 => ⟨tv, Jb 1 R (Jq (Je [2, 2] R (Jb 2 R ?_)))⟩⟩)
 revert h
 cases ht55 : (!x39.2)
 refine JF fun h => Jy R (Js (Jp (Je [2, 1, 2] R (Jf R (rn_build (parts := [(0, .const (vi 0)), (1, .const (vi 0))]) (cells := [vi 0, vi 0]) R R (by kernel_rfl)) (Jn1 (κ := K49) (E := (Ep.pair E6 E6)) 11 [] (parts := [(0, .tmp 44)]) (cells := [vi 0, vi 0]) (xs := ([(0, 0)] : List (Int × Int))) R R R R R R Y108 Tryzinfo107 R R R R R R R R R R ⟨[vi 0, vi 0], [], Zl K49 w52 [], Zl K49 w52 [], R, Zl.sp (l1 := []) (l2 := []) R, Zl.sr (l1 := []) (l2 := []), ⟨[vi 0], [vi 0], Zl K49 w52 [], Zl K49 w52 [], R, Zl.sp (l1 := []) (l2 := []) R, Zl.sr (l1 := []) (l2 := []), R, R⟩, R⟩ fun aX bd w57 K58 S59 f60 => ⟨tv, Jb 1 R (Je [1, 2, 1, 2, 2] R (WO.mkmap (κ := K58) 12 R R R R R kwI2 kvI2 (fun v : Int => vi v) fun mb46 w61 K62 S63 f64 => ⟨tv, Jf R (rn_build (parts := [(0, .const (vi 0)), (1, .const (vi 0))]) (cells := [vi 0, vi 0]) R R (by kernel_rfl)) (Ob h fun y236 hy236 h => WO.mapin (κ := K62) (kf := kvI2) (vf := (fun v : Int => vi v)) (v := 0) 12 R R R R R R R keyEI2 U109 f64 hy236 fun w65 S66 f67 => ⟨tv, Jb 2 R (Je [1, 2] R (Jo1 (κ := K62) (E := (Ep.own E6 2)) 13 R R R R R Y24 Tryzinfo40 R fun be bg w68 K69 S70 f71 => ⟨tv, Jb 1 R (Jq (Je [2] R (Jb 1 R (Ob h fun q2 hq74 hK73 => ?_))))⟩))⟩)⟩))⟩)))))
 clear h
 refine Jx1 (fun L w' => ∃ (κ' : Col) (s3 : (List (Int × Int)) × (List (List Int)) × Int × (List ((Int × Int) × Int))) (aa : Option Addr) (ab : Nat) (ad : Option Addr) (ac : Nat), L = [(7, .pointer (some ⟨b7, 0, none⟩)), (9, .slice aa s3.1.length ab), (11, .slice ad s3.2.1.length ac)] ∧ Stp [11, 12, 13, 14, 15, 17] K69 w68 κ' w' ∧ Oc (Ep.pair E6 E6) 107 κ' w' 11 aa ab s3.1 ∧ Oc (Ep.own E6 2) 40 κ' w' 13 ad ac s3.2.1 ∧ Mc kwI2 kvI2 (fun v : Int => vi v) κ' w' 12 mb46 s3.2.2.2 ∧ q2 = Sum.inr s3) ?_ ?_
 refine Jv (Jy1 (fun k L w' => ∃ (κ' : Col) (s1 : (List (Int × Int)) × (List (List Int)) × Int × (List ((Int × Int) × Int))) (aC : Option Addr) (aA : Nat) (ai : Option Addr) (af : Nat), L = [(3, .pointer (some ⟨b3, 0, none⟩)), (4, .pointer (some ⟨b4, 0, none⟩)), (7, .pointer (some ⟨b7, 0, none⟩)), (9, .slice aC s1.1.length aA), (10, .map (some mb46)), (11, .slice ai s1.2.1.length af), (12, vi s1.2.2.1)] ∧ Stp [11, 12, 13, 14, 15, 17] K69 w68 κ' w' ∧ Oc (Ep.pair E6 E6) 107 κ' w' 11 aC aA s1.1 ∧ Oc (Ep.own E6 2) 40 κ' w' 13 ai af s1.2.1 ∧ Mc kwI2 kvI2 (fun v : Int => vi v) κ' w' 12 mb46 s1.2.2.2 ∧ whileM (i_BeatsAll_b0 p0 p1 x39) k s1 = some q2) ⟨_, _, ⟨K69, ((([(0, 0)] : List (Int × Int)) : (List (Int × Int))), (([] : List (List Int)) : (List (List Int))), (0 : Int), (y236 : (List ((Int × Int) × Int)))), aX, bd, be, bg, R, (Jx2 _ _).wk R, (f60.stp (S63.tr (S66.tr S70)) R R), f71, (f67.stp S70 R R), hq74⟩, (KM R)⟩ ?_)
 rintro k _ w82 ⟨K83, s1, aC, aA, ai, af, rfl, S84, f85, f86, f87, h⟩
 rcases k with _ | k
 cases h
 obtain ⟨o72, h, hk91⟩ := BI h; unfold i_BeatsAll_b0 at h
 refine Jq (Je [2, 2, 2, 2] R (Jn 2 R (Jf R (Je2 U108 R R) (Jb 1 R ?_))))
 revert h
 cases ht92 : decide (s1.2.2.1 < (s1.1.length : Int))
 refine JF fun h => Jy R (Jc1 (Jt (Jt ?_)))
 cases h
 have h := hk91
 refine Jb1 ?_
 cases h
 exact Jw1 _ ⟨K83, ((s1.1 : (List (Int × Int))), (s1.2.1 : (List (List Int))), (s1.2.2.1 : Int), (s1.2.2.2 : (List ((Int × Int) × Int)))), aC, aA, ai, af, R, S84.wk R, f85, f86, f87, R⟩ (KM R)
 refine JT fun h => Jx R (Js (Jp (Jq (Jv (Jq (Js1 (κ := K83) [0, 11] none [(0, 2), (1, 2), (2, 2), (3, 2), (5, 2), (6, 2), (7, 2), (8, 2), (4, 0), (10, 2), (9, 0), (11, 2)] [] (by kernel_rfl) (by kernel_rfl) fun w94 S93 => Jn 2 R (Ob h fun x58 hx58 h => Jf R (Jf2 f85.rdc hx58 U108 Z107 R R R R) (Jf R (rn_indexA U107 Z2 R R R R) (Jn 2 R (Ob h fun x63 hx63 h => Jf R (Jf2 f85.rdc hx63 U108 Z107 R R R R) (Jf R (rn_indexA U107 Z2 R R R R) ?_)))))))))))
 have f95 := f85.stp S93 R R
 obtain ⟨cse96, hre96, hle96⟩ := (f95.rdc).gSt hx58
 obtain ⟨_, _, rfl, rfl, rfl⟩ := hre96
 refine Jg R (Jc2 I2 R R (hvC (fun w' hw' => hle96 w' hw' 0 _ R) R)) (Jn 1 R ?_)
 obtain ⟨cse97, hre97, hle97⟩ := (f95.rdc).gSt hx63
 obtain ⟨_, _, rfl, rfl, rfl⟩ := hre97
 refine Jg R (Jc2 I2 R R (hvC (fun w' hw' => hle97 w' hw' 1 _ R) R)) (Jn 1 R (Jt1 (Jd (Je [1, 2] R (Jo1 (κ := K83) (E := E6) 14 R R R R R Y40 Tryzinfo2 R fun bf bi w98 K99 S100 f101 => ⟨tv, Jb 1 R (Jq (Je [2, 1, 2, 2, 1, 2, 2] R (Jf R (Jb2 U50 R Z24 R R) ?_)))⟩)))))
 have f102 := f8.stp (S14.tr (S32.tr (S43.tr (S50.tr (S53.tr (S59.tr (S63.tr (S66.tr (S70.tr (S84.tr (S93.tr S100))))))))))) R R
 refine Jl tv R R R R (Jc2 I24 R R (hvE (f102.ld 1 R R))) (Jn 1 R (Ob h fun x70 hx70 h => Jf R (Jf2 g1_1 hx70 U24 Z40 R R R R) ?_))
 obtain ⟨ax70, ux70, f104, hl105⟩ := (g1_1.stp (S3.tr (S7.tr (S14.tr (S32.tr (S43.tr (S50.tr (S53.tr (S59.tr (S63.tr (S66.tr (S70.tr (S84.tr (S93.tr S100))))))))))))) R R).gSl hx70
 refine Jl tv R R R R (Jc2 I40 R R (hvE hl105)) (Jf R (Je2 U40 R R) (Jb 1 R ?_))
 have hN106 : (x70.length : Int) ≤ 9223372036854775807 := f104.len_le
 refine Ob h fun q5 hq108 hK107 => ?_
 clear h
 refine Jx1 (fun L w' => ∃ (κ' : Col) (s6 : (List (Int × Int)) × (List Int) × (List ((Int × Int) × Int))) (aH : Option Addr) (aK : Nat) (az : Option Addr) (aD : Nat), L = [(3, .pointer (some ⟨b3, 0, none⟩)), (4, .pointer (some ⟨b4, 0, none⟩)), (7, .pointer (some ⟨b7, 0, none⟩)), (9, .slice aH s6.1.length aK), (10, .map (some mb46)), (11, .slice ai s1.2.1.length af), (12, vi s1.2.2.1), (15, .slice az s6.2.1.length aD)] ∧ Stp [11, 12, 14, 15, 17] K99 w98 κ' w' ∧ Oc (Ep.pair E6 E6) 107 κ' w' 11 aH aK s6.1 ∧ Oc E6 2 κ' w' 14 az aD s6.2.1 ∧ Mc kwI2 kvI2 (fun v : Int => vi v) κ' w' 12 mb46 s6.2.2 ∧ q5 = Sum.inr s6) ?_ ?_
 refine Jv (Jy1 (fun k L w' => ∃ (κ' : Col) (v73 : Int) (s4 : (List (Int × Int)) × (List Int) × (List ((Int × Int) × Int))) (aw : Option Addr) (au : Nat) (ar : Option Addr) (ax : Nat), L = [(3, .pointer (some ⟨b3, 0, none⟩)), (4, .pointer (some ⟨b4, 0, none⟩)), (7, .pointer (some ⟨b7, 0, none⟩)), (9, .slice aw s4.1.length au), (10, .map (some mb46)), (11, .slice ai s1.2.1.length af), (12, vi s1.2.2.1), (13, vi x58.1), (14, vi x63.2), (15, .slice ar s4.2.1.length ax), (71, .slice ax70 x70.length ux70), (72, vi (x70.length : Int)), (73, vi v73)] ∧ Stp [11, 12, 14, 15, 17] K99 w98 κ' w' ∧ Oc (Ep.pair E6 E6) 107 κ' w' 11 aw au s4.1 ∧ Oc E6 2 κ' w' 14 ar ax s4.2.1 ∧ Mc kwI2 kvI2 (fun v : Int => vi v) κ' w' 12 mb46 s4.2.2 ∧ 0 ≤ v73 ∧ Int.toNat ((x70.length : Int) - v73) = k ∧ cntM (i_BeatsAll_b2 p0 p1 x39 x58 x63 x70) k v73 s4 = some q5) ⟨_, _, ⟨K99, 0, ((s1.1 : (List (Int × Int))), (([] : List Int) : (List Int)), (s1.2.2.2 : (List ((Int × Int) × Int)))), aC, aA, bf, bi, R, (Jx2 _ _).wk R, (f95.stp S100 R R), f101, (f87.stp (S93.tr S100) R R), (by decide), (by simp), hq108⟩, (KM R)⟩ ?_)
 rintro k _ w116 ⟨K117, v73, s4, aw, au, ar, ax, rfl, S118, f119, f120, f121, hj106, hJ106, h⟩
 rcases k with _ | k
 have hk125 := h; obtain ⟨o106, h⟩ := ex_eq (Sum.inr (Sum.inl s4) : Bool ⊕ (((List (Int × Int)) × (List Int) × (List ((Int × Int) × Int))) ⊕ ((List (Int × Int)) × (List Int) × (List ((Int × Int) × Int)))))
 have hc106 : decide (v73 < (x70.length : Int)) = false := Jo2 (by omega)
 refine Je [2] R (Jb 1 R (Jq (Jw2 R hc106 (Jc1 (Jt (Jt ?_))))))
 cases h
 have h := hk125
 refine Jb1 ?_
 cases h
 exact Jw1 _ ⟨K117, ((s4.1 : (List (Int × Int))), (s4.2.1 : (List Int)), (s4.2.2 : (List ((Int × Int) × Int)))), aw, au, ar, ax, R, S118.wk R, f119, f120, f121, R⟩ (KM R)
 obtain ⟨o106, h, hk125⟩ := BI h; unfold i_BeatsAll_b2 at h
 have hc106 : decide (v73 < (x70.length : Int)) = true := Jn2 (by omega)
 refine Je [2] R (Jb 1 R (Jq (Jv2 R hc106 (Js (Jp (Jq (Jv (Je [2, 2, 1, 2, 2] R (Jn 1 R (Ob h fun x76 hx76 h => Jf R (Jf2 f104 hx76 U40 Z2 R R R R) (Jl tv R R R R (Jc2 I2 R R (hvE ((f104.stp S118 R R).gInt hx76))) (Jb 2 R (Jq (Ob h fun x82 hx82 h => Ob h fun x91 hx91 h => Ob h fun x86 hx86 h => Ob h fun x94 hx94 h => Jx1 (fun L w' => ∃ κ' b18, L = [(3, .pointer (some ⟨b3, 0, none⟩)), (4, .pointer (some ⟨b4, 0, none⟩)), (7, .pointer (some ⟨b7, 0, none⟩)), (9, .slice aw s4.1.length au), (10, .map (some mb46)), (11, .slice ai s1.2.1.length af), (12, vi s1.2.2.1), (13, vi x58.1), (14, vi x63.2), (15, .slice ar s4.2.1.length ax), (18, .pointer (some ⟨b18, 0, none⟩)), (71, .slice ax70 x70.length ux70), (72, vi (x70.length : Int)), (73, vi v73)] ∧ Stp [15, 17] K117 w116 κ' w' ∧ Bc κ' w' 15 b18 107 [vi ((x76, x94).1), vi ((x76, x94).2)]) ?_ ?_))))))))))))))
 refine WC.rxt (κ := K117) [0, 2, 3, 8, 10] none (by kernel_rfl) fun w132 S133 => Jq1 (fuel := 8) [(0, 2), (1, 2), (3, 2), (6, 2), (10, 2), (12, 2), (2, 0), (4, 2), (5, 0), (7, 0), (11, 0), (13, 2), (14, 0)] (by kernel_rfl) (by kernel_rfl) R (Jn 1 R (Jf R (Jb2 U94 R Z24 R R) (Jn 2 R (Jf R (Jb2 U50 R Z40 R R) (Jn 1 R (Jg R (Jc2 I24 R R (hvC ((f54.stp (S59.tr (S63.tr (S66.tr (S70.tr (S84.tr (S93.tr (S100.tr (S118.tr S133)))))))) R R).ld 0 R R) R)) (Jf R (Jf2 f46.rdc hx82 U24 Z40 R R R R) ?_)))))))
 obtain ⟨ax82, ux82, f136, hl137⟩ := (f46.stp (S50.tr (S53.tr (S59.tr (S63.tr (S66.tr (S70.tr (S84.tr (S93.tr (S100.tr (S118.tr S133)))))))))) R R).rdc.gSl hx82
 refine Jg R (Jc2 I40 R R (hvC hl137 R)) (Jg R (Jd2 (cs := [vi p0.In, vi p0.Out]) I31 Z31 R R R (haC (f35.stp (S43.tr (S50.tr (S53.tr (S59.tr (S63.tr (S66.tr (S70.tr (S84.tr (S93.tr (S100.tr (S118.tr S133))))))))))) R R).cells R)) (Jg R (Jc2 I40 R R (hvC ((f102.stp (S118.tr S133) R R).ld 0 R R) R)) (Jf R (Jf2 g1_0 hx91 U40 Z2 R R R R) (Jg R (Jc2 I2 R R (hvC ((g1_0.stp (S3.tr (S7.tr (S14.tr (S32.tr (S43.tr (S50.tr (S53.tr (S59.tr (S63.tr (S66.tr (S70.tr (S84.tr (S93.tr (S100.tr (S118.tr S133))))))))))))))) R R).gInt hx91) R)) (Jp1 (WA.fork2 (fuel := 7) 8 19 (by kernel_rfl) R ?_ ?_))))))
 refine Jh R R R C72 (i_inputsOf_ok (κ := fun b => mp [] 0 (K117 b)) (p0 := p0) hx86) ?_
 rintro _ w141 ⟨k142, rfl, e143⟩
 obtain ⟨K144, S145, m146⟩ := Ji e143 15 R
 exact ⟨(S145.cl R), Jp1 (Jq1 (fuel := 0) [(9, 2), (15, 2), (16, 2), (17, 0), (18, 2), (19, 1), (20, 1)] (by kernel_rfl) (by kernel_rfl) R (Jn 2 R (Jf R (Jf2 f136 hx94 U40 Z2 R R R R) (Jg R (Jc2 I2 R R (hvC (f136.gInt hx94) R)) (Jf R (rn_build (parts := [(0, .tmp 78), (1, .tmp 95)]) (cells := [vi x76, vi x94]) R R (by kernel_rfl)) (Jg1 (κ := K144) 17 R R R R R X107 R fun b18 w148 K149 S150 f151 => ⟨((S145.tr S150).cl R), Jj1 (κ := K149) 17 (vc := [vi x76, vi x94]) R R R R R R R Z107 R R f151 R fun w152 S153 f154 => ⟨((S145.tr (S150.tr S153)).cl R), Jp1 (Jr1 [] (by kernel_rfl) (by kernel_rfl) R (Jo (Jw1 _ ⟨(fun b => ren [(17, 15)] (K149 b)), b18, R, (Jy2 ((S133.tr (S145.tr (S150.tr S153))).wk R) [(17, 15)] R), (f154.map (ren [(17, 15)]) R R)⟩ (KM R))))⟩⟩))))))⟩
 refine Jg1 (κ := K117) 15 R R R R R X107 R fun b18 w155 K156 S157 f158 => ⟨(S157.cl R), Jp1 (Jq1 (fuel := 0) [(8, 1), (9, 2), (15, 2), (16, 2), (17, 0), (18, 2), (20, 1)] (by kernel_rfl) (by kernel_rfl) R (Jh R R R C72 (i_inputsOf_ok (κ := fun b => mp [] 0 (K156 b)) (p0 := p0) hx86) ?_))⟩
 rintro _ w159 ⟨k160, rfl, e161⟩
 obtain ⟨K162, S163, m164⟩ := Ji e161 16 R
 exact ⟨((S157.tr S163).cl R), Jn 2 R (Jf R (Jf2 f136 hx94 U40 Z2 R R R R) (Jg R (Jc2 I2 R R (hvC (f136.gInt hx94) R)) (Jf R (rn_build (parts := [(0, .tmp 78), (1, .tmp 95)]) (cells := [vi x76, vi x94]) R R (by kernel_rfl)) (Jj1 (κ := K162) 15 (vc := [vi x76, vi x94]) R R R R R R R Z107 R R (f158.stp S163 R R) R fun w167 S168 f169 => ⟨((S157.tr (S163.tr S168)).cl R), Jp1 (Jr1 [] (by kernel_rfl) (by kernel_rfl) R (Jo (Jw1 _ ⟨K162, b18, R, (S133.tr (S157.tr (S163.tr S168))).wk R, f169⟩ (KM R))))⟩))))⟩
 rintro _ w127 ⟨K128, b18, rfl, S129, f131⟩
 refine Jp (Je [2, 1, 1, 2, 2, 2, 2, 2] R (Jn 1 R (Jl tv R R R R (Jd2 (cs := [vi ((x76, x94).1), vi ((x76, x94).2)]) I107 Z107 R R R (haE f131.cells)) ?_)))
 have f170 := f121.stp S129 R R
 refine Ob h fun x100 hx100 h => Jl tv R R R R (rn_lookup (kf := kvI2) (vf := (fun v : Int => vi v)) keyEI2 U109 X2 R R R (mvE f170) hx100) (Jb 5 R (Jq (Je [2, 2] R (Jb 2 R (Ob h fun q7 h hK171 => Jx1 (fun L w' => ∃ κ' aJ aI, L = [(3, .pointer (some ⟨b3, 0, none⟩)), (4, .pointer (some ⟨b4, 0, none⟩)), (7, .pointer (some ⟨b7, 0, none⟩)), (9, .slice aJ q7.1.length aI), (10, .map (some mb46)), (11, .slice ai s1.2.1.length af), (12, vi s1.2.2.1), (13, vi x58.1), (14, vi x63.2), (15, .slice ar s4.2.1.length ax), (19, vi q7.2.1), (71, .slice ax70 x70.length ux70), (72, vi (x70.length : Int)), (73, vi v73)] ∧ Stp [11, 12] K128 w127 κ' w' ∧ Oc (Ep.pair E6 E6) 107 κ' w' 11 aJ aI q7.1 ∧ Mc kwI2 kvI2 (fun v : Int => vi v) κ' w' 12 mb46 q7.2.2) ?_ ?_)))))
 revert h
 cases ht178 : (!x100.2)
 refine JF fun h => Jy R (Js ?_)
 cases h
 exact Jw1 _ ⟨K128, aw, au, R, (Jx2 _ _).wk R, (f119.stp S129 R R), f170⟩ (KM R)
 refine JT fun h => Jx R (Je [2, 2, 2] R (Jn 1 R (Jf R (Je2 U108 R R) (Jb 1 R (Je [2, 1, 2, 1] R (Jn 1 R (Jl tv R R R R (Jd2 (cs := [vi ((x76, x94).1), vi ((x76, x94).2)]) I107 Z107 R R R (haE f131.cells)) (Jn 1 R (Ob h fun y240 hy240 h => WO.mapup (κ := K128) (kf := kvI2) (vf := (fun v : Int => vi v)) (v := (s4.1.length : Int)) 12 R R R R R R R keyEI2 U109 f170 hy240 fun w179 S180 f181 => ⟨tv, Jd (Ja [2, 1, 1, 1, 2] R (Jn 1 R (Jl tv R R R R (Jd2 (cs := [vi ((x76, x94).1), vi ((x76, x94).2)]) I107 Z107 R R R (haE (f131.stp S180 R R).cells)) (Jn1 (κ := K128) (E := (Ep.pair E6 E6)) 16 [] (parts := [(0, .tmp 111)]) (cells := [vi ((x76, x94).1), vi ((x76, x94).2)]) (xs := ([(x76, x94)] : List (Int × Int))) R R R R R R Y108 Tryzinfo107 R R R R R R R R R R ⟨[vi ((x76, x94).1), vi ((x76, x94).2)], [], Zl K128 w179 [], Zl K128 w179 [], R, Zl.sp (l1 := []) (l2 := []) R, Zl.sr (l1 := []) (l2 := []), ⟨[vi ((x76, x94).1)], [vi ((x76, x94).2)], Zl K128 w179 [], Zl K128 w179 [], R, Zl.sp (l1 := []) (l2 := []) R, Zl.sr (l1 := []) (l2 := []), R, R⟩, R⟩ fun bv bt w183 K184 S185 f186 => ⟨tv, Ob h fun x113 hx113 h => Jm1 (κ := K184) (E := (Ep.pair E6 E6)) 11 [] R R R R R R R R R Y108 Tryzinfo107 R R R R (f119.stp (S129.tr (S180.tr S185)) R R) (Sl.srcP (pu_pair (pu_int _) (pu_int _)) f186.rdc) sy_false hx113 R fun aY bh w188 K189 S190 f191 => ⟨tv, Jc 1 R ?_⟩⟩))))⟩)))))))))
 cases h
 exact Jw1 _ ⟨K189, aY, bh, R, (S180.tr (S185.tr S190)).wk R, f191, (f181.stp (S185.tr S190) R R)⟩ (KM R)
 rintro _ w172 ⟨K173, aJ, aI, rfl, S174, f175, f176⟩
 have h := hK171
 refine Jp (Ja [2, 2, 1, 1, 2] R (Jn 2 R (Jn1 (κ := K173) (E := E6) 16 [] (parts := [(0, .tmp 115)]) (cells := [vi q7.2.1]) (xs := ([q7.2.1] : List Int)) R R R R R R Y40 Tryzinfo2 R R R R R R R R R R ⟨[vi q7.2.1], [], Zl K173 w172 [], Zl K173 w172 [], R, Zl.sp (l1 := []) (l2 := []) R, Zl.sr (l1 := []) (l2 := []), R, R⟩ fun bu bA w194 K195 S196 f197 => ⟨tv, Ob h fun x117 hx117 h => Jm1 (κ := K195) (E := E6) 14 [] R R R R R R R R R Y40 Tryzinfo2 R R R R (f120.stp (S129.tr (S174.tr S196)) R R) (Sl.srcP (pu_int _) f197.rdc) sy_false hx117 R fun bj bk w199 K200 S201 f202 => ⟨tv, Jc 1 R (Jz (Jp (Ja [2, 2] R (Jc 2 R ?_))))⟩⟩)))
 have hw106 : IntKind.wrap .i64 (v73 + 1) = v73 + 1 := wr1 hj106 (Jm2 hc106) hN106
 rw [hw106]
 have hc106 := Jm2 hc106
 cases h
 exact Jz1 fun a ha => ⟨k, _, Ja3 _, ⟨K200, v73 + 1, ((q7.1 : (List (Int × Int))), (x117 : (List Int)), (q7.2.2 : (List ((Int × Int) × Int)))), aJ, aI, bj, bk, R, (S118.tr (S129.tr (S174.tr (S196.tr S201)))).wk R, (f175.stp (S196.tr S201) R R), f202, (f176.stp (S196.tr S201) R R), by omega, by omega, hk125⟩, (ha.mm R)⟩
 rintro _ w109 ⟨K110, s6, aH, aK, az, aD, rfl, S111, f112, f113, f114, rfl⟩
 have h := hK107
 dsimp only [aft] at h
 refine Jp (Jq (Je [2, 2, 2] R (Jn 1 R (Jf R (Je2 U108 R R) (Jb 1 R ?_)))))
 revert h
 cases ht205 : decide (256 < (s6.1.length : Int))
 refine JF fun h => Jy R (Js (Jp (Ja [2, 2, 1, 1, 2] R (Jn 2 R (Jn1 (κ := K110) (E := (Ep.own E6 2)) 15 [14] (parts := [(0, .tmp 123)]) (cells := [.slice az s6.2.1.length aD]) (xs := ([s6.2.1] : List (List Int))) R R R R R R Y24 Tryzinfo40 R R R R R R R R R R ⟨[.slice az s6.2.1.length aD], [], Zl K110 w109 [14], Zl K110 w109 [], R, Zl.sp (l1 := [14]) (l2 := []) R, Zl.sr (l1 := [14]) (l2 := []), ⟨_, _, R, f113⟩, R⟩ fun bB bn w207 K208 S209 f210 => ⟨tv, Ob h fun x125 hx125 h => Jm1 (κ := K208) (E := (Ep.own E6 2)) 13 [15] R R R R R R R R R Y24 Tryzinfo40 R R R R (f86.stp (S93.tr (S100.tr (S111.tr S209))) R R) f210.src (sy_one R) hx125 R fun bb bc w212 K213 S214 f215 => ⟨tv, Jc 1 R (Jz (Jp (Ja [2, 2, 2] R (Jc 3 R ?_))))⟩⟩)))))
 cases h
 exact Jz1 fun a ha => ⟨k, _, Ja3 _, ⟨K213, ((s6.1 : (List (Int × Int))), (x125 : (List (List Int))), ((IntKind.i64.wrap (s1.2.2.1 + 1)) : Int), (s6.2.2 : (List ((Int × Int) × Int)))), aH, aK, bb, bc, R, (S84.tr (S93.tr (S100.tr (S111.tr (S209.tr S214))))).wk R, (f112.stp (S209.tr S214) R R), f215, (f114.stp (S209.tr S214) R R), hk91⟩, (ha.mm R)⟩
 refine JT fun h => Jx R (Je [2] R (Jb 1 R (Ju (Jw (Ja1 (Jw (Jw ?_)))))))
 cases h
 obtain rfl := Option.some.inj hk91
 have h := hK73
 dsimp only [aft] at h
 refine Ja1 (Jq2 (Jw (Ja2 (l := [.tmp 6]) V28 (Jp2 R R) R ?_)))
 cases h
 exact ⟨K110, R, (hE.stp (S3.tr (S7.tr (S14.tr (S32.tr (S43.tr (S50.tr (S53.tr (S59.tr (S63.tr (S66.tr (S70.tr (S84.tr (S93.tr (S100.tr S111)))))))))))))) R R)⟩
 rintro _ w75 ⟨K76, s3, aa, ab, ad, ac, rfl, S77, f78, f79, f80, rfl⟩
 have h := hK73
 dsimp only [aft] at h
 refine Jp (Je [1, 2] R (Jo1 (κ := K76) (E := Pair.ep92) 14 R R R R R Y79 Tryzinfo92 R fun aZ ba w218 K219 S220 f221 => ⟨tv, Jb 1 R (Jq (Je [2, 1, 2, 2] R (Jf R (Jb2 U94 R Z79 R R) (Jl tv R R R R (Jc2 I79 R R (hvE ((f54.stp (S59.tr (S63.tr (S66.tr (S70.tr (S77.tr S220))))) R R).ld 1 R R))) (Jf R (Je2 U79 R R) (Jb 1 R ?_))))))⟩))
 have hN223 : (x39.1.Pairs.length : Int) ≤ 9223372036854775807 := f47.len_le
 refine Ob h fun q9 hq225 hK224 => ?_
 clear h
 refine Jx1 (fun L w' => ∃ κ', ∃ s10 : (List Pair), ∃ aO aR, L = [(11, .slice ad s3.2.1.length ac), (21, .slice aO s10.length aR)] ∧ Stp [14, 15, 16, 17, 18, 19] K219 w218 κ' w' ∧ Oc Pair.ep92 92 κ' w' 14 aO aR s10 ∧ q9 = Sum.inr s10) ?_ ?_
 refine Jv (Jy1 (fun k L w' => ∃ κ' v130, ∃ s8 : (List Pair), ∃ ah ae, L = [(9, .slice aa s3.1.length ab), (11, .slice ad s3.2.1.length ac), (21, .slice ah s8.length ae), (128, .slice ap x39.1.Pairs.length aq), (129, vi (x39.1.Pairs.length : Int)), (130, vi v130)] ∧ Stp [14, 15, 16, 17, 18, 19] K219 w218 κ' w' ∧ Oc Pair.ep92 92 κ' w' 14 ah ae s8 ∧ 0 ≤ v130 ∧ Int.toNat ((x39.1.Pairs.length : Int) - v130) = k ∧ cntM (i_BeatsAll_b4 x39 s3) k v130 s8 = some q9) ⟨_, _, ⟨K219, 0, (([] : List Pair) : (List Pair)), aZ, ba, R, (Jx2 _ _).wk R, f221, (by decide), (by simp), hq225⟩, (KM R)⟩ ?_)
 rintro k _ w230 ⟨K231, v130, s8, ah, ae, rfl, S232, f233, hj223, hJ223, h⟩
 rcases k with _ | k
 have hk234 := h; obtain ⟨o223, h⟩ := ex_eq (Sum.inr (Sum.inl s8) : Bool ⊕ (((List Pair)) ⊕ ((List Pair))))
 have hc223 : decide (v130 < (x39.1.Pairs.length : Int)) = false := Jo2 (by omega)
 refine Je [2] R (Jb 1 R (Jq (Jw2 R hc223 (Jc1 (Jt (Jt ?_))))))
 cases h
 have h := hk234
 refine Jb1 ?_
 cases h
 exact Jw1 _ ⟨K231, (s8 : (List Pair)), ah, ae, R, S232.wk R, f233, R⟩ (KM R)
 obtain ⟨o223, h, hk234⟩ := BI h; unfold i_BeatsAll_b4 at h
 have hc223 : decide (v130 < (x39.1.Pairs.length : Int)) = true := Jn2 (by omega)
 refine Je [2] R (Jb 1 R (Jq (Jv2 R hc223 (Js (Jp (Jq (Jv (Je [2, 1, 1, 1] R (Ob h fun x132 hx132 h => Jf R (Jf2 f47.rdc hx132 U79 Z92 R R R R) ?_)))))))))
 obtain ⟨cse236, hre236, hle236⟩ := ((f47.stp (S50.tr (S53.tr (S59.tr (S63.tr (S66.tr (S70.tr (S77.tr (S220.tr S232)))))))) R R).rdc).gSt hx132
 obtain ⟨ae236_0, ue236_0, ae236_1, ue236_1, rfl, fe236_0, fe236_1⟩ := Pair.un hre236
 refine Jl tv R R R R (Jd2 (cs := [.slice ae236_0 x132.Ask.length ue236_0, .slice ae236_1 x132.Give.length ue236_1]) I92 Z92 R R R (haE hle236)) (Jg1 (κ := K231) 15 R R R R R X92 R fun b23 w237 K238 S239 f240 => ⟨tv, Jj1 (κ := K238) 15 (vc := [.slice ae236_0 x132.Ask.length ue236_0, .slice ae236_1 x132.Give.length ue236_1]) R R R R R R R Z92 R R f240 R fun w241 S242 f243 => ⟨tv, Jd (Je [2, 1, 1] R (Jf R (rn_build (parts := []) (cells := [.slice none 0 0, .slice none 0 0]) R R (by kernel_rfl)) (Jg1 (κ := K238) 16 R R R R R X92 R fun b24 w244 K245 S246 f247 => ⟨tv, Jj1 (κ := K245) 16 (vc := [.slice none 0 0, .slice none 0 0]) R R R R R R R Z92 R R f247 R fun w248 S249 f250 => ⟨tv, Jd (Jq (Je [2, 2, 2] R (Jn 1 R (Jf R (Je2 U108 R R) (Jb 1 R ?_)))))⟩⟩)))⟩⟩)
 have hN251 : (s3.1.length : Int) ≤ 9223372036854775807 := f78.len_le
 refine Ob h fun q12 hq253 hK252 => ?_
 clear h
 refine Jx1 (fun L w' => ∃ κ', ∃ s13 : (List Int) × (List Int), ∃ ao an ak aj, L = [(9, .slice aa s3.1.length ab), (11, .slice ad s3.2.1.length ac), (21, .slice ah s8.length ae), (24, .pointer (some ⟨b24, 0, none⟩)), (128, .slice ap x39.1.Pairs.length aq), (129, vi (x39.1.Pairs.length : Int)), (130, vi v130)] ∧ Stp [16, 17, 18, 19] K245 w248 κ' w' ∧ Oc E6 2 κ' w' 17 ao an s13.1 ∧ Oc E6 2 κ' w' 18 ak aj s13.2 ∧ Bc κ' w' 16 b24 92 [.slice ao s13.1.length an, .slice ak s13.2.length aj] ∧ q12 = Sum.inr s13) ?_ ?_
 refine Jv (Jy1 (fun k L w' => ∃ κ' v137, ∃ s11 : (List Int) × (List Int), ∃ aE aB am al, L = [(9, .slice aa s3.1.length ab), (11, .slice ad s3.2.1.length ac), (21, .slice ah s8.length ae), (23, .pointer (some ⟨b23, 0, none⟩)), (24, .pointer (some ⟨b24, 0, none⟩)), (128, .slice ap x39.1.Pairs.length aq), (129, vi (x39.1.Pairs.length : Int)), (130, vi v130), (135, .slice aa s3.1.length ab), (136, vi (s3.1.length : Int)), (137, vi v137)] ∧ Stp [16, 17, 18, 19] K245 w248 κ' w' ∧ Oc E6 2 κ' w' 17 aE aB s11.1 ∧ Oc E6 2 κ' w' 18 am al s11.2 ∧ Bc κ' w' 16 b24 92 [.slice aE s11.1.length aB, .slice am s11.2.length al] ∧ 0 ≤ v137 ∧ Int.toNat ((s3.1.length : Int) - v137) = k ∧ cntM (i_BeatsAll_b6 s3 x132) k v137 s11 = some q12) ⟨_, _, ⟨K245, 0, ((([] : List Int) : (List Int)), (([] : List Int) : (List Int))), none, 0, none, 0, R, (Jx2 _ _).wk R, Ow.nil, Ow.nil, f250, (by decide), (by simp), hq253⟩, (KM R)⟩ ?_)
 rintro k _ w260 ⟨K261, v137, s11, aE, aB, am, al, rfl, S262, f263, f264, f265, hj251, hJ251, h⟩
 rcases k with _ | k
 have hk266 := h; obtain ⟨o251, h⟩ := ex_eq (Sum.inr (Sum.inl s11) : Bool ⊕ (((List Int) × (List Int)) ⊕ ((List Int) × (List Int))))
 have hc251 : decide (v137 < (s3.1.length : Int)) = false := Jo2 (by omega)
 refine Je [2] R (Jb 1 R (Jq (Jw2 R hc251 (Jc1 (Jt (Jt ?_))))))
 cases h
 have h := hk266
 refine Jb1 ?_
 cases h
 exact Jw1 _ ⟨K261, ((s11.1 : (List Int)), (s11.2 : (List Int))), aE, aB, am, al, R, S262.wk R, f263, f264, f265, R⟩ (KM R)
 obtain ⟨o251, h, hk266⟩ := BI h; unfold i_BeatsAll_b6 at h
 have hc251 : decide (v137 < (s3.1.length : Int)) = true := Jn2 (by omega)
 refine Je [2] R (Jb 1 R (Jq (Jv2 R hc251 (Js (Jp (Jq (Jv (Je [2, 2, 1, 1, 2, 1] R (Jn 1 R (Ob h fun x140 hx140 h => Jf R (Jf2 f78.rdc hx140 U108 Z107 R R R R) ?_))))))))))
 obtain ⟨cse268, hre268, hle268⟩ := ((f78.stp (S220.tr (S232.tr (S239.tr (S242.tr (S246.tr (S249.tr S262)))))) R R).rdc).gSt hx140
 obtain ⟨_, _, rfl, rfl, rfl⟩ := hre268
 refine Jl tv R R R R (Jd2 (cs := [vi x140.1, vi x140.2]) I107 Z107 R R R (haE hle268)) (Jg1 (κ := K261) 19 R R R R R X107 R fun b26 w269 K270 S271 f272 => ⟨tv, Jn 1 R (Jj1 (κ := K270) 19 (vc := [vi x140.1, vi x140.2]) R R R R R R R Z107 R R f272 R fun w273 S274 f275 => ⟨tv, Jd (Jq (Je [2, 1, 2, 1, 1] R (Jf R (Jb2 U92 R Z40 R R) ?_)))⟩)⟩)
 have f276 := f243.stp (S246.tr (S249.tr (S262.tr (S271.tr S274)))) R R
 refine Jl tv R R R R (Jc2 I40 R R (hvE (f276.ld 0 R R))) (Jf R (rn_indexA U107 Z2 R R R R) (Jl tv R R R R (Jc2 I2 R R (hvE (f275.ld 1 R R))) (Ob h fun x146 hx146 h => Jh R R R C73 (slices_Contains_I_int64_ok (κ := fun b => mp [] 0 (K270 b)) (Jl2 (fe236_0.stp (S239.tr (S242.tr (S246.tr (S249.tr (S262.tr (S271.tr S274)))))) R R) (mp [] 0) R R) hx146) ?_)))
 rintro _ w278 ⟨k279, rfl, e280⟩
 obtain ⟨K281, S282, m283⟩ := Ji e280 20 R
 refine ⟨tv, Jd (Ob h fun q14 h hK285 => Jx1 (fun L w' => ∃ κ' ay av, L = [(9, .slice aa s3.1.length ab), (11, .slice ad s3.2.1.length ac), (21, .slice ah s8.length ae), (23, .pointer (some ⟨b23, 0, none⟩)), (24, .pointer (some ⟨b24, 0, none⟩)), (25, vi v137), (26, .pointer (some ⟨b26, 0, none⟩)), (128, .slice ap x39.1.Pairs.length aq), (129, vi (x39.1.Pairs.length : Int)), (130, vi v130), (135, .slice aa s3.1.length ab), (136, vi (s3.1.length : Int)), (137, vi v137)] ∧ Stp [16, 17] K281 w278 κ' w' ∧ Oc E6 2 κ' w' 17 ay av q14 ∧ Bc κ' w' 16 b24 92 [.slice ay q14.length av, .slice am s11.2.length al]) ?_ ?_)⟩
 revert h
 cases ht291 : x146
 refine JF fun h => Jy R (Js ?_)
 cases h
 have S001 := (S271.tr (S274.tr S282))
 exact Jw1 _ ⟨K281, aE, aB, R, (Jx2 _ _).wk R, (f263.stp S001 R R), (f265.stp S001 R R)⟩ (KM R)
 refine JT fun h => Jx R (Ja [2, 1, 2, 1, 1, 2, 1] R (Jf R (Jb2 U92 R Z40 R R) ?_))
 have f292 := f265.stp (S271.tr (S274.tr S282)) R R
 refine Jl tv R R R R (Jc2 I40 R R (hvE (f292.ld 0 R R))) (Jn 1 R (Jn1 (κ := K281) (E := E6) 22 [] (parts := [(0, .tmp 149)]) (cells := [vi v137]) (xs := ([v137] : List Int)) R R R R R R Y40 Tryzinfo2 R R R R R R R R R R ⟨[vi v137], [], Zl K281 w278 [], Zl K281 w278 [], R, Zl.sp (l1 := []) (l2 := []) R, Zl.sr (l1 := []) (l2 := []), R, R⟩ fun bz bs w293 K294 S295 f296 => ⟨tv, Ob h fun x151 hx151 h => Jm1 (κ := K294) (E := E6) 17 [] R R R R R R R R R Y40 Tryzinfo2 R R R R (f263.stp (S271.tr (S274.tr (S282.tr S295))) R R) (Sl.srcP (pu_int _) f296.rdc) sy_false hx151 R fun aU aM w298 K299 S300 f301 => ⟨tv, Jf R (Jb2 U92 R Z40 R R) (Ji1 (κ := K299) 16 (off := 0) (vc := [.slice aU x151.length aM]) (cs' := [.slice aU x151.length aM, .slice am s11.2.length al]) R R R R R R R Z40 R R (f292.stp (S295.tr S300) R R) R R fun w303 S304 f305 => ⟨tv, Jo ?_⟩)⟩⟩))
 cases h
 exact Jw1 _ ⟨K299, aU, aM, R, (S295.tr (S300.tr S304)).wk R, (f301.stp S304 R R), f305⟩ (KM R)
 rintro _ w286 ⟨K287, ay, av, rfl, S288, f289, f290⟩
 have h := hK285
 refine Jp (Je [2, 1, 2, 1, 1] R (Jf R (Jb2 U92 R Z40 R R) (Jl tv R R R R (Jc2 I40 R R (hvE ((f276.stp (S282.tr S288) R R).ld 1 R R))) (Jf R (rn_indexA U107 Z2 R R R R) (Jl tv R R R R (Jc2 I2 R R (hvE ((f275.stp (S282.tr S288) R R).ld 1 R R))) (Ob h fun x157 hx157 h => Jh R R R C73 (slices_Contains_I_int64_ok (κ := fun b => mp [] 0 (K287 b)) (Jl2 (fe236_1.stp (S239.tr (S242.tr (S246.tr (S249.tr (S262.tr (S271.tr (S274.tr (S282.tr S288)))))))) R R) (mp [] 0) R R) hx157) ?_))))))
 rintro _ w312 ⟨k313, rfl, e314⟩
 obtain ⟨K315, S316, m317⟩ := Ji e314 22 R
 refine ⟨tv, Jd (Ob h fun q15 h hK319 => Jx1 (fun L w' => ∃ κ' aG aF, L = [(9, .slice aa s3.1.length ab), (11, .slice ad s3.2.1.length ac), (21, .slice ah s8.length ae), (23, .pointer (some ⟨b23, 0, none⟩)), (24, .pointer (some ⟨b24, 0, none⟩)), (128, .slice ap x39.1.Pairs.length aq), (129, vi (x39.1.Pairs.length : Int)), (130, vi v130), (135, .slice aa s3.1.length ab), (136, vi (s3.1.length : Int)), (137, vi v137)] ∧ Stp [16, 18] K315 w312 κ' w' ∧ Oc E6 2 κ' w' 18 aG aF q15 ∧ Bc κ' w' 16 b24 92 [.slice ay q14.length av, .slice aG q15.length aF]) ?_ ?_)⟩
 revert h
 cases ht325 : x157
 refine JF fun h => Jy R (Js ?_)
 cases h
 exact Jw1 _ ⟨K315, am, al, R, (Jx2 _ _).wk R, (f264.stp (S271.tr (S274.tr (S282.tr (S288.tr S316)))) R R), (f290.stp S316 R R)⟩ (KM R)
 refine JT fun h => Jx R (Ja [2, 1, 2, 1, 1, 2, 1] R (Jf R (Jb2 U92 R Z40 R R) ?_))
 have f326 := f290.stp S316 R R
 refine Jl tv R R R R (Jc2 I40 R R (hvE (f326.ld 1 R R))) (Jn 1 R (Jn1 (κ := K315) (E := E6) 24 [] (parts := [(0, .tmp 160)]) (cells := [vi v137]) (xs := ([v137] : List Int)) R R R R R R Y40 Tryzinfo2 R R R R R R R R R R ⟨[vi v137], [], Zl K315 w312 [], Zl K315 w312 [], R, Zl.sp (l1 := []) (l2 := []) R, Zl.sr (l1 := []) (l2 := []), R, R⟩ fun br bp w327 K328 S329 f330 => ⟨tv, Ob h fun x162 hx162 h => Jm1 (κ := K328) (E := E6) 18 [] R R R R R R R R R Y40 Tryzinfo2 R R R R (f264.stp (S271.tr (S274.tr (S282.tr (S288.tr (S316.tr S329))))) R R) (Sl.srcP (pu_int _) f330.rdc) sy_false hx162 R fun aT aS w332 K333 S334 f335 => ⟨tv, Jf R (Jb2 U92 R Z40 R R) (Ji1 (κ := K333) 16 (off := 1) (vc := [.slice aT x162.length aS]) (cs' := [.slice ay q14.length av, .slice aT x162.length aS]) R R R R R R R Z40 R R (f326.stp (S329.tr S334) R R) R R fun w337 S338 f339 => ⟨tv, Jo ?_⟩)⟩⟩))
 cases h
 exact Jw1 _ ⟨K333, aT, aS, R, (S329.tr (S334.tr S338)).wk R, (f335.stp S338 R R), f339⟩ (KM R)
 rintro _ w320 ⟨K321, aG, aF, rfl, S322, f323, f324⟩
 have h := hK319
 refine Jz (Jp (Ja [2, 2] R (Jc 2 R ?_)))
 have hw251 : IntKind.wrap .i64 (v137 + 1) = v137 + 1 := wr1 hj251 (Jm2 hc251) hN251
 rw [hw251]
 have hc251 := Jm2 hc251
 cases h
 exact Jz1 fun a ha => ⟨k, _, Ja3 _, ⟨K321, v137 + 1, ((q14 : (List Int)), (q15 : (List Int))), ay, av, aG, aF, R, (S262.tr (S271.tr (S274.tr (S282.tr (S288.tr (S316.tr S322)))))).wk R, (f289.stp (S316.tr S322) R R), f323, f324, by omega, by omega, hk266⟩, (ha.mm R)⟩
 rintro _ w254 ⟨K255, s13, ao, an, ak, aj, rfl, S256, f257, f258, f259, rfl⟩
 have h := hK252
 dsimp only [aft] at h
 refine Jp (Ja [2, 1, 1, 1, 2] R (Jn 1 R (Jl tv R R R R (Jd2 (cs := [.slice ao s13.1.length an, .slice ak s13.2.length aj]) I92 Z92 R R R (haE f259.cells)) (Jn1 (κ := K255) (E := Pair.ep92) 19 [17, 18] (parts := [(0, .tmp 166)]) (cells := [.slice ao s13.1.length an, .slice ak s13.2.length aj]) (xs := ([(⟨s13.1, s13.2⟩ : Pair)] : List Pair)) R R R R R R Y79 Tryzinfo92 R R R R R R R R R R ⟨[.slice ao s13.1.length an, .slice ak s13.2.length aj], [], Zl K255 w254 [17, 18], Zl K255 w254 [], R, Zl.sp (l1 := [17, 18]) (l2 := []) R, Zl.sr (l1 := [17, 18]) (l2 := []), ⟨[.slice ao s13.1.length an], [.slice ak s13.2.length aj], Zl K255 w254 [17], Zl K255 w254 [18], R, Zl.sp (l1 := [17]) (l2 := [18]) R, Zl.sr (l1 := [17]) (l2 := [18]), ⟨_, _, R, f257⟩, ⟨_, _, R, f258⟩⟩, R⟩ fun bx bw w344 K345 S346 f347 => ⟨tv, Ob h fun x168 hx168 h => Jm1 (κ := K345) (E := Pair.ep92) 14 [19] R R R R R R R R R Y79 Tryzinfo92 R R R R (f233.stp (S239.tr (S242.tr (S246.tr (S249.tr (S256.tr S346))))) R R) f347.src (sy_one R) hx168 R fun aV bm w349 K350 S351 f352 => ⟨tv, Jc 1 R (Jz (Jp (Ja [2, 2] R (Jc 2 R ?_))))⟩⟩))))
 have hw223 : IntKind.wrap .i64 (v130 + 1) = v130 + 1 := wr1 hj223 (Jm2 hc223) hN223
 rw [hw223]
 have hc223 := Jm2 hc223
 cases h
 exact Jz1 fun a ha => ⟨k, _, Ja3 _, ⟨K350, v130 + 1, (x168 : (List Pair)), aV, bm, R, (S232.tr (S239.tr (S242.tr (S246.tr (S249.tr (S256.tr (S346.tr S351))))))).wk R, f352, by omega, by omega, hk234⟩, (ha.mm R)⟩
 rintro _ w226 ⟨K227, s10, aO, aR, rfl, S228, f229, rfl⟩
 have h := hK224
 dsimp only [aft] at h
 refine Jp (Je [2, 2, 2, 2, 1, 1, 2, 2] R (Jn 3 R (Jf R (Je2 U24 R R) (Ob h fun x174 hx174 h => Jh R R R C75 (i_AllOf_ok (κ := fun b => mp [] 0 (K227 b)) hx174) ?_))))
 rintro _ w353 ⟨k354, bo, bq, rfl, e355, f356⟩
 obtain ⟨K357, S358, m359⟩ := Ji e355 15 R
 refine ⟨tv, Ob h fun x175 hx175 h => Jh R R R C74 (i_fairIn_ok _ (κ := fun b => mp [] 0 (K357 b)) (Jl2 (f79.stp (S220.tr (S228.tr S358)) R R).rdc (mp [] 0) R R) (Jl2 (f229.stp S358 R R).rdc (mp [] 0) R R) (Jl2 (f356.mx (no_int _) m359 R (R : 15 + 2 = 17)).rdc (mp [] 0) R R) hx175) ?_⟩
 rintro _ w364 ⟨k365, rfl, e366⟩
 obtain ⟨K367, S368, m369⟩ := Ji e366 18 R
 refine ⟨tv, Jb 2 R (Ju (Ja2 (l := [.tmp 6]) V28 (Jp2 R R) R ?_))⟩
 cases h
 exact ⟨K367, R, (hE.stp (S3.tr (S7.tr (S14.tr (S32.tr (S43.tr (S50.tr (S53.tr (S59.tr (S63.tr (S66.tr (S70.tr (S77.tr (S220.tr (S228.tr (S358.tr S368))))))))))))))) R R)⟩
 refine JT fun h => Jx R (Je [2] R (Jb 1 R (Ju (Jw (Ja2 (l := [.tmp 6]) V28 (Jp2 R R) R ?_)))))
 cases h
 exact ⟨K49, R, (hE.stp (S3.tr (S7.tr (S14.tr (S32.tr (S43.tr (S50.tr S53)))))) R R)⟩
 refine JT fun h => Jx R (Je [2] R (Jb 1 R (Ju (Jw (Ja2 (l := [.tmp 6]) V28 (Jp2 R R) R ?_)))))
 cases h
 exact ⟨K31, R, (hE.stp (S3.tr (S7.tr (S14.tr S32))) R R)⟩
end Go.Proofs.YtcmamhmpoinmnaaGreat
