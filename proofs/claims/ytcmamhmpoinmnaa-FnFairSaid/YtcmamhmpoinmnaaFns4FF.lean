/- The walks, part 4. By program. -/
import Derived.Test.YtcmamhmpoinmnaaFns3FF
set_option linter.unusedVariables false
set_option linter.unusedSimpArgs false
namespace Go.Proofs.Ytcmamhmpoinmnaa
open Go Go.Wk Go.Proofs
set_option maxRecDepth 100000
set_option maxHeartbeats 1000000
theorem s_DrawFairIn_ok {w : World} {κ : Col} {a0 u0} {p0 : (List Int)} (g0 : Rd (Rp.int .u8) κ w 0 a0 u0 p0) {r : (List (List Int)) × (List Pair) × (List Int)} (h : s_DrawFairIn p0 = some r) : Ret Try.prog 17 [.slice a0 p0.length u0] w (fun v w' => ∃ (κ' : Col) (ra0 : Option Addr) (ru0 : Nat) (ra1 : Option Addr) (ru1 : Nat) (ra2 : Option Addr) (ru2 : Nat), v = .tuple #[.slice ra0 r.1.length ru0, .slice ra1 r.2.1.length ru1, .slice ra2 r.2.2.length ru2] ∧ Ent κ w κ' w' ∧ Oc (Ep.own E6 2) 24 κ' w' 2 ra0 ru0 r.1 ∧ Oc Pair.ep42 42 κ' w' 3 ra1 ru1 r.2.1 ∧ Oc E6 2 κ' w' 4 ra2 ru2 r.2.2) := by
 unfold s_DrawFairIn at h
 refine Ret.enter F17 R N17 R ?_
 dsimp only [envOf]
 have hE := Ent.refl κ w
 refine Je [2, 2, 2] R (Jb 3 R (Je [2, 1, 2] R (Jn 1 R (Ob h fun x11 hx11 h => Jh R R R C36 (s_l1New_ok (κ := fun b => mp [] 1 (κ b)) (Jl2 g0 (mp [] 1) R R) hx11) ?_))))
 rintro _ w1 ⟨k2, am, al, b11, rfl, e3, f4, f5⟩
 obtain ⟨K6, S7, m8, z9⟩ := Jj e3 2 R
 refine ⟨tv, ?_⟩
 have f10 := f4.mx z9
 refine Jb 1 R (Je [2, 1, 1, 1] R (Jn 1 R (Ob h fun x13 hx13 h => Jh R R R C37 (s_l1DrawAny_ok (κ := fun b => mp [(5, 2)] 0 (K6 b)) (p0 := x11) (Jl2 f10 (mp [(5, 2)] 0) R R) ((f5.mx m8 R (R : 2 + 3 = 5)).map (mp [(5, 2)] 0) R R) hx13) ?_)))
 rintro _ w12 ⟨k13, av, ap, ak, aj, rfl, e14, f15, f16, f17⟩
 obtain ⟨K18, S19, m20⟩ := Ji e14 6 R
 refine ⟨tv, ?_⟩
 have f23 := f16.mx (no_own (no_int _) _) m20 R (R : 6 + 4 = 10)
 refine Jg1 (κ := K18) 11 R R R R R X72 R fun b6 w25 K26 S27 f28 => ⟨tv, Jj1 (κ := K26) 11 (vc := [.slice av x13.1.Owner.length ap, .slice ak x13.1.Next.length aj]) R R R R R R R Z72 R R f28 R fun w29 S30 f31 => ⟨tv, Jd (Je [2, 1, 2, 2] R (Jf R (Jb2 U72 R Z24 R R) (Jl tv R R R R (Jc2 I24 R R (hvE (f31.ld 0 R R))) (Jf R (Je2 U24 R R) (Jb 1 R (Je [1, 2] R (Jo1 (κ := K26) (E := Pair.ep42) 12 R R R R R Y29 Tryinfo42 R fun ao ar w32 K33 S34 f35 => ⟨tv, Jb 1 R (Jq (Je [2, 1, 2] R (Jn 1 R (Ob h fun x19 hx19 h => ?_))))⟩)))))))⟩⟩
 have f36 := f10.stp (S19.tr (S27.tr (S30.tr S34))) R R
 refine Jh R R R C38 (s_l1Below_ok (κ := fun b => mp [(8, 2)] 0 (K33 b)) (p0 := (⟨x11.b, x13.2.1, x13.2.2⟩ : l1Cur)) (Jl2 f36 (mp [(8, 2)] 0) R R) (((f17.mx m20 R (R : 6 + 2 = 8)).stp (S27.tr (S30.tr S34)) R R).map (mp [(8, 2)] 0) R R) hx19) ?_
 rintro _ w38 ⟨k39, rfl, e40, f41⟩
 obtain ⟨K42, S43, m44⟩ := Ji e40 13 R
 refine ⟨tv, Jb 1 R (Ob h fun q2 hq49 hK48 => ?_)⟩
 clear h
 refine Jx1 (fun L w' => ∃ κ', ∃ s3 : (List Pair) × Int × Int × Int, ∃ ab aa, L = [(5, .pointer (some ⟨b11, 0, none⟩)), (6, .pointer (some ⟨b6, 0, none⟩)), (7, vi (x13.1.Owner.length : Int)), (8, .slice ab s3.1.length aa)] ∧ Stp [12, 15, 18, 19, 22, 23, 24] K42 w38 κ' w' ∧ Oc Pair.ep42 42 κ' w' 12 ab aa s3.1 ∧ Bc κ' w' 15 b11 102 [.slice am x11.b.length al, vi s3.2.2.1, vi s3.2.2.2] ∧ q2 = Sum.inr s3) ?_ ?_
 refine Jv (Jy1 (fun k L w' => ∃ κ', ∃ s1 : (List Pair) × Int × Int × Int, ∃ ad ae, L = [(5, .pointer (some ⟨b11, 0, none⟩)), (6, .pointer (some ⟨b6, 0, none⟩)), (7, vi (x13.1.Owner.length : Int)), (8, .slice ad s1.1.length ae), (9, vi s1.2.1)] ∧ Stp [12, 15, 18, 19, 22, 23, 24] K42 w38 κ' w' ∧ Oc Pair.ep42 42 κ' w' 12 ad ae s1.1 ∧ Bc κ' w' 15 b11 102 [.slice am x11.b.length al, vi s1.2.2.1, vi s1.2.2.2] ∧ whileM (s_DrawFairIn_b0 x11 x13) k s1 = some q2) ⟨_, _, ⟨K42, ((([] : List Pair) : (List Pair)), (x19.1 : Int), (x19.2.1 : Int), (x19.2.2 : Int)), ao, ar, R, (Jx2 _ _).wk R, (f35.stp S43 R R), (f41.mx m44 R (R : 13 + 2 = 15)), hq49⟩, (KM R)⟩ ?_)
 rintro k _ w55 ⟨K56, s1, ad, ae, rfl, S57, f58, f59, h⟩
 rcases k with _ | k
 cases h
 obtain ⟨o47, h, hk61⟩ := BI h; unfold s_DrawFairIn_b0 at h
 refine Jq (Je [2, 2] R (Jb 2 R ?_))
 revert h
 cases ht62 : decide (0 < s1.2.1)
 refine JF fun h => Jy R (Jc1 (Jt (Jt ?_)))
 cases h
 have h := hk61
 refine Jb1 ?_
 cases h
 exact Jw1 _ ⟨K56, ((s1.1 : (List Pair)), (s1.2.1 : Int), (s1.2.2.1 : Int), (s1.2.2.2 : Int)), ad, ae, R, S57.wk R, f58, f59, R⟩ (KM R)
 refine JT fun h => Jx R (Js (Jp (Jq (Jv (Ja [2, 2, 2, 1, 2, 2, 1, 2, 1, 1, 2] R (Jn 3 R (Ob h fun x27 hx27 h => ?_)))))))
 have f63 := f36.stp (S43.tr S57) R R
 refine Jh R R R C39 (s_l24DrawSet_ok (κ := fun b => mp [(15, 2)] 0 (K56 b)) (p0 := (⟨x11.b, s1.2.2.1, s1.2.2.2⟩ : l1Cur)) (Jl2 f63 (mp [(15, 2)] 0) R R) (f59.map (mp [(15, 2)] 0) R R) hx27) ?_
 rintro _ w64 ⟨k65, ac, af, rfl, e66, f67, f68⟩
 obtain ⟨K69, S70, m71⟩ := Ji e66 16 R
 refine ⟨tv, Jn 2 R (Ob h fun x30 hx30 h => Jh R R R C39 (s_l24DrawSet_ok (κ := fun b => mp [(18, 2)] 0 (K69 b)) (p0 := (⟨x11.b, x27.2.1, x27.2.2⟩ : l1Cur)) (Jl2 (f63.stp S70 R R) (mp [(18, 2)] 0) R R) ((f68.mx m71 R (R : 16 + 2 = 18)).map (mp [(18, 2)] 0) R R) hx30) ?_)⟩
 rintro _ w76 ⟨k77, ai, ah, rfl, e78, f79, f80⟩
 obtain ⟨K81, S82, m83⟩ := Ji e78 20 R
 refine ⟨tv, Jf R (rn_build (parts := [(0, .tmp 27), (1, .tmp 30)]) (cells := [.slice ac x27.1.length af, .slice ai x30.1.length ah]) R R (by kernel_rfl)) (Jn1 (κ := K81) (E := Pair.ep42) 24 [19, 23] (parts := [(0, .tmp 31)]) (cells := [.slice ac x27.1.length af, .slice ai x30.1.length ah]) (xs := ([(⟨x27.1, x30.1⟩ : Pair)] : List Pair)) R R R R R R Y29 Tryinfo42 R R R R R R R R R R ⟨[.slice ac x27.1.length af, .slice ai x30.1.length ah], [], Zl K81 w76 [19, 23], Zl K81 w76 [], R, Zl.sp (l1 := [19, 23]) (l2 := []) R, Zl.sr (l1 := [19, 23]) (l2 := []), ⟨[.slice ac x27.1.length af], [.slice ai x30.1.length ah], Zl K81 w76 [19], Zl K81 w76 [23], R, Zl.sp (l1 := [19]) (l2 := [23]) R, Zl.sr (l1 := [19]) (l2 := [23]), ⟨_, _, R, ((f67.mx (no_int _) m71 R (R : 16 + 3 = 19)).stp S82 R R)⟩, ⟨_, _, R, (f79.mx (no_int _) m83 R (R : 20 + 3 = 23))⟩⟩, R⟩ fun aA az w88 K89 S90 f91 => ⟨tv, Ob h fun x33 hx33 h => Jm1 (κ := K89) (E := Pair.ep42) 12 [24] R R R R R R R R R Y29 Tryinfo42 R R R R (f58.stp (S70.tr (S82.tr S90)) R R) f91.src (sy_one R) hx33 R fun ay aq w93 K94 S95 f96 => ⟨tv, Jc 1 R (Jz (Jp (Ja [2, 2, 2] R (Jc 3 R ?_))))⟩⟩)⟩
 cases h
 exact Jz1 fun a ha => ⟨k, _, Ja3 _, ⟨(fun b => ren [(22, 15)] (K94 b)), ((x33 : (List Pair)), ((IntKind.i64.wrap (s1.2.1 - 1)) : Int), (x30.2.1 : Int), (x30.2.2 : Int)), ay, aq, R, (Jy2 ((S57.tr (S70.tr (S82.tr (S90.tr S95)))).wk R) [(22, 15)] R), (f96.map (ren [(22, 15)]) R R), (((f80.mx m83 R (R : 20 + 2 = 22)).stp (S90.tr S95) R R).map (ren [(22, 15)]) R R), hk61⟩, (ha.mm R)⟩
 rintro _ w50 ⟨K51, s3, ab, aa, rfl, S52, f53, f54, rfl⟩
 have h := hK48
 dsimp only [aft] at h
 refine Jp (Jq (Je [2, 1] R (Jn 1 R (Ob h fun x35 hx35 h => ?_))))
 have f98 := f36.stp (S43.tr S52) R R
 refine Jh R R R C40 (s_l1Once_ok (κ := fun b => mp [(15, 2)] 0 (K51 b)) (p0 := (⟨x11.b, s3.2.2.1, s3.2.2.2⟩ : l1Cur)) (Jl2 f98 (mp [(15, 2)] 0) R R) (f54.map (mp [(15, 2)] 0) R R) hx35) ?_
 rintro _ w99 ⟨k100, rfl, e101, f102⟩
 obtain ⟨K103, S104, m105⟩ := Ji e101 16 R
 refine ⟨tv, Jd ?_⟩
 revert h
 cases ht108 : x35.1
 refine JF fun h => Jy R (Js (Jp (Jq (Js1 (κ := K103) [11] none [(0, 2), (2, 2), (3, 2), (4, 2), (1, 0), (5, 1), (6, 2), (7, 2), (8, 2)] [] (by kernel_rfl) (by kernel_rfl) fun w125 S124 => Jf R (Jb2 U72 R Z22 R R) (Jn 3 R (Jg R (Jc2 I22 R R (hvC ((f31.stp (S34.tr (S43.tr (S52.tr (S104.tr S124)))) R R).ld 1 R R) R)) (Ob h fun x46 hx46 h => Jh R R R C41 (s_l1DrawSet_ok (κ := fun b => mp [(18, 2)] 0 (K103 b)) (p0 := (⟨x11.b, x35.2.1, x35.2.2⟩ : l1Cur)) (Jl2 (f98.stp (S104.tr S124) R R) (mp [(18, 2)] 0) R R) (((f102.mx m105 R (R : 16 + 2 = 18)).stp S124 R R).map (mp [(18, 2)] 0) R R) hx46) ?_)))))))
 rintro _ w129 ⟨k130, aw, an, rfl, e131, f132, f133⟩
 obtain ⟨K134, S135, m136⟩ := Ji e131 19 R
 refine ⟨(S135.cl R), Jn 3 R (Jt1 (Jd (Ju (Ja2 (l := [.tmp 2, .tmp 3, .tmp 4]) V17 (Jp2 R (Jp2 R (Jp2 R R))) R ?_))))⟩
 cases h
 exact ⟨(fun b => ren [(10, 2), (12, 3), (22, 4)] (K134 b)), ak, aj, ab, aa, aw, an, R, ((hE.stp (S7.tr (S19.tr (S27.tr (S30.tr (S34.tr (S43.tr (S52.tr (S104.tr (S124.tr S135))))))))) R R).map (ren [(10, 2), (12, 3), (22, 4)]) R R), ((f23.stp (S27.tr (S30.tr (S34.tr (S43.tr (S52.tr (S104.tr (S124.tr S135))))))) R R).map (ren [(10, 2), (12, 3), (22, 4)]) R R), ((f53.stp (S104.tr (S124.tr S135)) R R).map (ren [(10, 2), (12, 3), (22, 4)]) R R), ((f132.mx (no_int _) m136 R (R : 19 + 3 = 22)).map (ren [(10, 2), (12, 3), (22, 4)]) R R)⟩
 refine JT fun h => Jx R (Jq (Js1 (κ := K103) [11] none [(0, 2), (2, 2), (3, 2), (1, 0), (4, 1), (5, 2), (6, 2), (7, 2)] [] (by kernel_rfl) (by kernel_rfl) fun w110 S109 => Jf R (Jb2 U72 R Z22 R R) (Jn 2 R (Jg R (Jc2 I22 R R (hvC ((f31.stp (S34.tr (S43.tr (S52.tr (S104.tr S109)))) R R).ld 1 R R) R)) (Ob h fun x40 hx40 h => Jh R R R C18 (s_AllOf_ok (κ := fun b => mp [] 0 (K103 b)) hx40) ?_)))))
 rintro _ w112 ⟨k113, au, ax, rfl, e114, f115⟩
 obtain ⟨K116, S117, m118⟩ := Ji e114 19 R
 refine ⟨(S117.cl R), Jn 3 R (Jt1 (Jd (Ju (Jw (Ja2 (l := [.tmp 2, .tmp 3, .tmp 4]) V17 (Jp2 R (Jp2 R (Jp2 R R))) R ?_)))))⟩
 cases h
 exact ⟨(fun b => ren [(10, 2), (12, 3), (21, 4)] (K116 b)), ak, aj, ab, aa, au, ax, R, ((hE.stp (S7.tr (S19.tr (S27.tr (S30.tr (S34.tr (S43.tr (S52.tr (S104.tr (S109.tr S117))))))))) R R).map (ren [(10, 2), (12, 3), (21, 4)]) R R), ((f23.stp (S27.tr (S30.tr (S34.tr (S43.tr (S52.tr (S104.tr (S109.tr S117))))))) R R).map (ren [(10, 2), (12, 3), (21, 4)]) R R), ((f53.stp (S104.tr (S109.tr S117)) R R).map (ren [(10, 2), (12, 3), (21, 4)]) R R), ((f115.mx (no_int _) m118 R (R : 19 + 2 = 21)).map (ren [(10, 2), (12, 3), (21, 4)]) R R)⟩
theorem i_brokenBy_ok {w : World} {κ : Col} {a0 u0} {p0 : (List Pair)} {a1 u1} {p1 : (List Int)} (g0 : Rd Pair.rp κ w 0 a0 u0 p0) (g1 : Rd (Rp.int .i64) κ w 0 a1 u1 p1) {r : (List Int)} (h : i_brokenBy p0 p1 = some r) : Ret Try.prog 61 [.slice a0 p0.length u0, .slice a1 p1.length u1] w (fun v w' => ∃ (κ' : Col) (ra0 : Option Addr) (ru0 : Nat), v = .slice ra0 r.length ru0 ∧ Ent κ w κ' w' ∧ Oc E6 2 κ' w' 2 ra0 ru0 r) := by
 unfold i_brokenBy at h
 refine Ret.enter F61 R N61 R ?_
 dsimp only [envOf]
 have hE := Ent.refl κ w
 refine Je [2] R (Jb 1 R (Je [1, 2] R (Jo1 (κ := κ) (E := E6) 2 R R R R R Y24 Tryinfo2 R fun a8 u8 w1 K2 S3 f4 => ⟨tv, Jb 1 R (Jq (Je [2, 2, 2] R (Jn 1 R (Jf R (Je2 U29 R R) (Jb 1 R ?_)))))⟩)))
 have hN5 : (p0.length : Int) ≤ 9223372036854775807 := g0.len_le
 refine Ob h fun q2 hq7 hK6 => ?_
 clear h
 refine Jx1 (fun L w' => ∃ κ', ∃ s3 : (List Int), ∃ ad ac, L = [(5, .slice ad s3.length ac)] ∧ Stp [2, 3] K2 w1 κ' w' ∧ Oc E6 2 κ' w' 2 ad ac s3 ∧ q2 = Sum.inr s3) ?_ ?_
 refine Jv (Jy1 (fun k L w' => ∃ κ' v11, ∃ s1 : (List Int), ∃ aa ab, L = [(1, .slice a1 p1.length u1), (5, .slice aa s1.length ab), (9, .slice a0 p0.length u0), (10, vi (p0.length : Int)), (11, vi v11)] ∧ Stp [2, 3] K2 w1 κ' w' ∧ Oc E6 2 κ' w' 2 aa ab s1 ∧ 0 ≤ v11 ∧ Int.toNat ((p0.length : Int) - v11) = k ∧ cntM (i_brokenBy_b0 p0 p1) k v11 s1 = some q2) ⟨_, _, ⟨K2, 0, (([] : List Int) : (List Int)), a8, u8, R, (Jx2 _ _).wk R, f4, (by decide), (by simp), hq7⟩, (KM R)⟩ ?_)
 rintro k _ w12 ⟨K13, v11, s1, aa, ab, rfl, S14, f15, hj5, hJ5, h⟩
 rcases k with _ | k
 have hk16 := h; obtain ⟨o5, h⟩ := ex_eq (Sum.inr (Sum.inl s1) : (List Int) ⊕ (((List Int)) ⊕ ((List Int))))
 have hc5 : decide (v11 < (p0.length : Int)) = false := Jo2 (by omega)
 refine Je [2] R (Jb 1 R (Jq (Jw2 R hc5 (Jc1 (Jt (Jt ?_))))))
 cases h
 have h := hk16
 refine Jb1 ?_
 cases h
 exact Jw1 _ ⟨K13, (s1 : (List Int)), aa, ab, R, S14.wk R, f15, R⟩ (KM R)
 obtain ⟨o5, h, hk16⟩ := BI h; unfold i_brokenBy_b0 at h
 have hc5 : decide (v11 < (p0.length : Int)) = true := Jn2 (by omega)
 refine Je [2] R (Jb 1 R (Jq (Jv2 R hc5 (Js (Jp (Jq (Jv (Je [2, 2, 1, 1, 2, 1] R (Jn 1 R (Ob h fun x14 hx14 h => Jf R (Jf2 g0 hx14 U29 Z42 R R R R) ?_))))))))))
 obtain ⟨cse18, hre18, hle18⟩ := ((g0.stp (S3.tr S14) R R)).gSt hx14
 obtain ⟨ae18_0, ue18_0, ae18_1, ue18_1, rfl, fe18_0, fe18_1⟩ := Pair.un hre18
 refine Jl tv R R R R (Jd2 (cs := [.slice ae18_0 x14.Ask.length ue18_0, .slice ae18_1 x14.Give.length ue18_1]) I42 Z42 R R R (haE hle18)) (Jg1 (κ := K13) 3 R R R R R X42 R fun b7 w19 K20 S21 f22 => ⟨tv, Jn 1 R (Jj1 (κ := K20) 3 (vc := [.slice ae18_0 x14.Ask.length ue18_0, .slice ae18_1 x14.Give.length ue18_1]) R R R R R R R Z42 R R f22 R fun w23 S24 f25 => ⟨tv, Jd (Je [2, 2, 1, 1, 2, 2, 2, 1, 1, 2, 2] R (Jn 1 R (Jf R (Jb2 U42 R Z24 R R) (Jl tv R R R R (Jc2 I24 R R (hvE (f25.ld 0 R R))) (Ob h fun x19 hx19 h => ?_)))))⟩)⟩)
 have f26 := g1.stp (S3.tr (S14.tr (S21.tr S24))) R R
 refine Jh R R R C90 (i_meets_ok (κ := fun b => mp [] 0 (K20 b)) (Jl2 f26 (mp [] 0) R R) (Jl2 (fe18_0.stp (S21.tr S24) R R) (mp [] 0) R R) hx19) ?_
 rintro _ w28 ⟨k29, rfl, e30⟩
 obtain ⟨K31, S32, m33⟩ := Ji e30 4 R
 refine ⟨tv, Jn 1 R (Ob h fun p26 h hK35 => Ju1 [(5, 2), (6, 2), (7, 1), (8, 1), (9, 2), (10, 2)] [] (fun L w' => L = [(1, .slice a1 p1.length u1), (5, .slice aa s1.length ab), (6, vi v11), (9, .slice a0 p0.length u0), (10, vi (p0.length : Int)), (11, vi v11), (26, .bool p26)] ∧ ∃ κ', Stp [] K31 w28 κ' w') tv ?_ ?_)⟩
 revert h
 cases ht36 : x19
 refine JF fun h => Jn 2 R (Jd1 R R R R (Jd1 R R R R (Jn 2 R ?_)))
 cases h
 exact Jv1 _ tv ⟨R, _, (Jx2 _ _).wk R⟩ (KM R)
 refine JT fun h => Jn 1 R (Jf R (Jb2 U42 R Z24 R R) (Jl tv R R R R (Jc2 I24 R R (hvE ((f25.stp S32 R R).ld 1 R R))) (Ob h fun x24 hx24 h => Jh R R R C90 (i_meets_ok (κ := fun b => mp [] 0 (K31 b)) (Jl2 (f26.stp S32 R R) (mp [] 0) R R) (Jl2 (fe18_1.stp (S21.tr (S24.tr S32)) R R) (mp [] 0) R R) hx24) ?_)))
 rintro _ w40 ⟨k41, rfl, e42⟩
 obtain ⟨K43, S44, m45⟩ := Ji e42 6 R
 refine ⟨tv, Jn 2 R ?_⟩
 cases h
 exact Jv1 _ tv ⟨R, _, S44.wk R⟩ (KM R)
 rintro _ w47 _ ⟨rfl, K48, S49⟩
 have h := hK35
 refine Jd (Ob h fun q4 h hK50 => Jx1 (fun L w' => ∃ κ' ae af, L = [(1, .slice a1 p1.length u1), (5, .slice ae q4.length af), (9, .slice a0 p0.length u0), (10, vi (p0.length : Int)), (11, vi v11)] ∧ Stp [2] K48 w47 κ' w' ∧ Oc E6 2 κ' w' 2 ae af q4) ?_ ?_)
 revert h
 cases ht55 : p26
 refine JF fun h => Jy R (Js ?_)
 cases h
 exact Jw1 _ ⟨K48, aa, ab, R, (Jx2 _ _).wk R, (f15.stp (S21.tr (S24.tr (S32.tr S49))) R R)⟩ (KM R)
 refine JT fun h => Jx R (Ja [2, 2, 1, 1, 2] R (Jn 2 R (Jn1 (κ := K48) (E := E6) 6 [] (parts := [(0, .tmp 28)]) (cells := [vi v11]) (xs := ([v11] : List Int)) R R R R R R Y24 Tryinfo2 R R R R R R R R R R ⟨[vi v11], [], Zl K48 w47 [], Zl K48 w47 [], R, Zl.sp (l1 := []) (l2 := []) R, Zl.sr (l1 := []) (l2 := []), R, R⟩ fun ak aj w56 K57 S58 f59 => ⟨tv, Ob h fun x30 hx30 h => Jm1 (κ := K57) (E := E6) 2 [] R R R R R R R R R Y24 Tryinfo2 R R R R (f15.stp (S21.tr (S24.tr (S32.tr (S49.tr S58)))) R R) (Sl.srcP (pu_int _) f59.rdc) sy_false hx30 R fun ai ah w61 K62 S63 f64 => ⟨tv, Jc 1 R ?_⟩⟩)))
 cases h
 exact Jw1 _ ⟨K62, ai, ah, R, (S58.tr S63).wk R, f64⟩ (KM R)
 rintro _ w51 ⟨K52, ae, af, rfl, S53, f54⟩
 have h := hK50
 refine Jz (Jp (Ja [2, 2] R (Jc 2 R ?_)))
 have hw5 : IntKind.wrap .i64 (v11 + 1) = v11 + 1 := wr1 hj5 (Jm2 hc5) hN5
 rw [hw5]
 have hc5 := Jm2 hc5
 cases h
 exact Jz1 fun a ha => ⟨k, _, Ja3 _, ⟨K52, v11 + 1, (q4 : (List Int)), ae, af, R, (S14.tr (S21.tr (S24.tr (S32.tr (S49.tr S53))))).wk R, f54, by omega, by omega, hk16⟩, (ha.mm R)⟩
 rintro _ w8 ⟨K9, s3, ad, ac, rfl, S10, f11, rfl⟩
 have h := hK6
 dsimp only [aft] at h
 refine Jp (Je [2, 2] R (Jb 2 R (Ju (Ja2 (l := [.tmp 4]) V61 (Jp2 R R) R ?_))))
 cases h
 exact ⟨K9, ad, ac, R, (hE.stp (S3.tr S10) R R), f11⟩
theorem i_fairIn_ok (n : Nat) : ∀ {w : World} {κ : Col} {a0 u0} {p0 : (List (List Int))} {a1 u1} {p1 : (List Pair)} {a2 u2} {p2 : (List Int)} (g0 : Rd (Rp.sl (Rp.int .i64)) κ w 0 a0 u0 p0) (g1 : Rd Pair.rp κ w 0 a1 u1 p1) (g2 : Rd (Rp.int .i64) κ w 0 a2 u2 p2) {r : Bool} (h : i_fairIn n p0 p1 p2 = some r), Ret Try.prog 34 [.slice a0 p0.length u0, .slice a1 p1.length u1, .slice a2 p2.length u2] w (fun v w' => ∃ (κ' : Col), v = .bool r ∧ Ent κ w κ' w') := by
 induction n with
 | zero =>
  intro w κ a0 u0 p0 a1 u1 p1 a2 u2 p2 g0 g1 g2 r h
  cases h
 | succ n ih =>
  intro w κ a0 u0 p0 a1 u1 p1 a2 u2 p2 g0 g1 g2 r h
  have h : i_fairIn_s (i_fairIn n) p0 p1 p2 = some r := h
  unfold i_fairIn_s at h
  refine Ret.enter F34 R N34 R ?_
  dsimp only [envOf]
  have hE := Ent.refl κ w
  refine Je [2] R (Jb 1 R (Je [2, 2, 1, 2] R (Jn 1 R (Jf R (Je2 U22 R R) (Ob h fun x15 hx15 h => Jl1 (κ := κ) (E := Ep.bool) (z := (false : Bool)) 2 R R R R R R R Y98 Tryinfo4 R R R R R (fun _ _ _ => R) (Ju2 hx15) fun al am w1 K2 S3 f4 => ⟨tv, Jb 1 R (Je [2, 2, 1] R (Jn 2 R (Ob h fun x18 hx18 h => Jh R R R C59 (i_markAll_ok (κ := fun b => mp [(2, 2)] 0 (K2 b)) (f4.map (mp [(2, 2)] 0) R R) (Jl2 (g2.stp S3 R R) (mp [(2, 2)] 0) R R) hx18) ?_)))⟩)))))
  rintro _ w6 ⟨k7, rfl, e8, f9, hn10⟩
  obtain ⟨K11, S12, m13⟩ := Ji e8 3 R
  refine ⟨tv, Jd (Jq (Je [2, 2, 1, 2, 2] R (Jn 2 R ?_)))⟩
  obtain ⟨K16, S17, z18⟩ := fz_ex K11 w6 5
  refine Ob h fun x21 hx21 h => ?_
  have f20 := g0.stp (S3.tr (S12.tr S17)) R R
  refine Jh R R R C60 (Ret.cast (by simp only [(hn10), List.cons_append, List.nil_append]) (i_loopsIn_ok (κ := fun b => mp [] 1 (K16 b)) (Jl2 f20 (mp [] 1) R R) (Jl2 (Sl.st z18 (f9.mx no_bool m13 R (R : 3 + 2 = 5)).rdc) (mp [] 1) R R) hx21)) ?_
  rintro _ w21 ⟨k22, ac, aa, rfl, e23, f24⟩
  obtain ⟨K25, S26, m27, z28⟩ := Jj e23 6 R
  refine ⟨tv, ?_⟩
  have f29 := f24.mxz z28 m27 R (R : 6 + 2 = 8)
  refine Jf R (Je2 U22 R R) (Jb 1 R ?_)
  have hN30 : (x21.length : Int) ≤ 9223372036854775807 := f29.len_le
  refine Ob h fun q2 hq32 hK31 => ?_
  clear h
  refine Jx1 (fun L w' => ∃ κ', L = [] ∧ Stp [14] K25 w21 κ' w' ∧ q2 = Sum.inr ()) ?_ ?_
  refine Jv (Jy1 (fun k L w' => ∃ κ' v23, L = [(0, .slice a0 p0.length u0), (1, .slice a1 p1.length u1), (21, .slice ac x21.length aa), (22, vi (x21.length : Int)), (23, vi v23)] ∧ Stp [14] K25 w21 κ' w' ∧ 0 ≤ v23 ∧ Int.toNat ((x21.length : Int) - v23) = k ∧ cntM (i_fairIn_b0 (i_fairIn n) p0 p1 x21) k v23 () = some q2) ⟨_, _, ⟨K25, 0, R, (Jx2 _ _).wk R, (by decide), (by simp), hq32⟩, (KM R)⟩ ?_)
  rintro k _ w36 ⟨K37, v23, rfl, S38, hj30, hJ30, h⟩
  rcases k with _ | k
  have hk39 := h; obtain ⟨o30, h⟩ := ex_eq (Sum.inr (Sum.inl ()) : Bool ⊕ ((Unit) ⊕ (Unit)))
  have hc30 : decide (v23 < (x21.length : Int)) = false := Jo2 (by omega)
  refine Je [2] R (Jb 1 R (Jq (Jw2 R hc30 (Jc1 (Jt (Jt ?_))))))
  cases h
  have h := hk39
  refine Jb1 ?_
  cases h
  exact Jw1 _ ⟨K37, R, S38.wk R, R⟩ KN
  obtain ⟨o30, h, hk39⟩ := BI h; unfold i_fairIn_b0 at h
  have hc30 : decide (v23 < (x21.length : Int)) = true := Jn2 (by omega)
  refine Je [2] R (Jb 1 R (Jq (Jv2 R hc30 (Js (Jp (Jq (Jv (Je [2, 1, 2] R (Ob h fun x25 hx25 h => Jf R (Jf2 f29.rdc hx25 U22 Z24 R R R R) ?_)))))))))
  obtain ⟨ax25, ux25, f41, hl42⟩ := (f29.stp S38 R R).gZ hx25
  refine Jl tv R R R R (Jc2 I24 R R (hvE hl42)) (Jb 1 R (Je [2, 2] R (Jb 2 R (Jq (Je [2, 2, 1, 2, 2] R (Jn 2 R (Ob h fun x30 hx30 h => ?_)))))))
  have f43 := g1.stp (S3.tr (S12.tr (S17.tr (S26.tr S38)))) R R
  refine Jh R R R C61 (i_brokenBy_ok (κ := fun b => mp [] 0 (K37 b)) (Jl2 f43 (mp [] 0) R R) (Jl2 f41 (mp [] 0) R R) hx30) ?_
  rintro _ w44 ⟨k45, ai, aj, rfl, e46, f47⟩
  obtain ⟨K48, S49, m50⟩ := Ji e46 9 R
  refine ⟨tv, ?_⟩
  have f52 := f47.mx (no_int _) m50 R (R : 9 + 2 = 11)
  refine Jf R (Je2 U24 R R) (Jb 1 R ?_)
  have hN53 : (x30.length : Int) ≤ 9223372036854775807 := f52.len_le
  refine Ob h fun q5 hq55 hK54 => ?_
  clear h
  refine Jx1 (fun L w' => ∃ κ', ∃ s6 : (List Int), ∃ af ae, L = [(0, .slice a0 p0.length u0), (1, .slice a1 p1.length u1), (9, .slice ax25 x25.length ux25), (10, .slice af s6.length ae), (21, .slice ac x21.length aa), (22, vi (x21.length : Int)), (23, vi v23)] ∧ Stp [14] K48 w44 κ' w' ∧ Rd (Rp.int .i64) κ' w' 0 af ae s6 ∧ q5 = Sum.inr s6) ?_ ?_
  refine Jv (Jy1 (fun k L w' => ∃ κ' v32, ∃ s4 : (List Int), ∃ ab ad, L = [(0, .slice a0 p0.length u0), (1, .slice a1 p1.length u1), (9, .slice ax25 x25.length ux25), (10, .slice ab s4.length ad), (21, .slice ac x21.length aa), (22, vi (x21.length : Int)), (23, vi v23), (30, .slice ai x30.length aj), (31, vi (x30.length : Int)), (32, vi v32)] ∧ Stp [14] K48 w44 κ' w' ∧ Rd (Rp.int .i64) κ' w' 0 ab ad s4 ∧ 0 ≤ v32 ∧ Int.toNat ((x30.length : Int) - v32) = k ∧ cntM (i_fairIn_b2 p1 x30) k v32 s4 = some q5) ⟨_, _, ⟨K48, 0, (x25 : (List Int)), ax25, ux25, R, (Jx2 _ _).wk R, (f41.stp S49 R R), (by decide), (by simp), hq55⟩, (KM R)⟩ ?_)
  rintro k _ w60 ⟨K61, v32, s4, ab, ad, rfl, S62, f63, hj53, hJ53, h⟩
  rcases k with _ | k
  have hk65 := h; obtain ⟨o53, h⟩ := ex_eq (Sum.inr (Sum.inl s4) : Bool ⊕ (((List Int)) ⊕ ((List Int))))
  have hc53 : decide (v32 < (x30.length : Int)) = false := Jo2 (by omega)
  refine Je [2] R (Jb 1 R (Jq (Jw2 R hc53 (Jc1 (Jt (Jt ?_))))))
  cases h
  have h := hk65
  refine Jb1 ?_
  cases h
  exact Jw1 _ ⟨K61, (s4 : (List Int)), ab, ad, R, S62.wk R, f63, R⟩ (KM R)
  obtain ⟨o53, h, hk65⟩ := BI h; unfold i_fairIn_b2 at h
  have hc53 : decide (v32 < (x30.length : Int)) = true := Jn2 (by omega)
  refine Je [2] R (Jb 1 R (Jq (Jv2 R hc53 (Js (Jp (Jq (Jv (Je [2, 1, 2] R (Ob h fun x34 hx34 h => Jf R (Jf2 f52.rdc hx34 U24 Z2 R R R R) (Jl tv R R R R (Jc2 I2 R R (hvE ((f52.stp S62 R R).rdc.gInt hx34))) (Jb 1 R (Ja [2, 2, 2, 2, 2, 1, 1, 2] R (Jn 3 R (Ob h fun x39 hx39 h => Jf R (Jf2 f43 hx39 U29 Z42 R R R R) (Jf R (Jb2 U42 R Z24 R R) ?_)))))))))))))))
  obtain ⟨cse68, hre68, hle68⟩ := ((f43.stp (S49.tr S62) R R)).gSt hx39
  obtain ⟨ae68_0, ue68_0, ae68_1, ue68_1, rfl, fe68_0, fe68_1⟩ := Pair.un hre68
  refine Jl tv R R R R (Jc2 I24 R R (hvE (fun w' hw' => hle68 w' hw' 0 _ R))) (Ob h fun x42 hx42 h => Jh R R R C62 (i_lessOf_ok (κ := fun b => mp [] 0 (K61 b)) (Jl2 f63 (mp [] 0) R R) (Jl2 fe68_0 (mp [] 0) R R) hx42) ?_)
  rintro _ w69 ⟨k70, ak, ah, rfl, e71, f72⟩
  obtain ⟨K73, S74, m75⟩ := Ji e71 12 R
  refine ⟨tv, Jc 1 R (Jz (Jp (Ja [2, 2] R (Jc 2 R ?_))))⟩
  have hw53 : IntKind.wrap .i64 (v32 + 1) = v32 + 1 := wr1 hj53 (Jm2 hc53) hN53
  rw [hw53]
  have hc53 := Jm2 hc53
  obtain ⟨K78, S79, z80⟩ := fz_ex K73 w69 14
  cases h
  exact Jz1 fun a ha => ⟨k, _, Ja3 _, ⟨K78, v32 + 1, (x42 : (List Int)), ak, ah, R, (S62.tr (S74.tr S79)).wk R, (Sl.st z80 (f72.mx (no_int _) m75 R (R : 12 + 2 = 14)).rdc), by omega, by omega, hk65⟩, (ha.mm R)⟩
  rintro _ w56 ⟨K57, s6, af, ae, rfl, S58, f59, rfl⟩
  have h := hK54
  dsimp only [aft] at h
  refine Jp (Je [2, 2, 2, 2, 2, 2, 2, 2, 2, 1, 2] R (Jn 1 R (Jf R (Je2 U24 R R) (Jn 1 R (Jf R (Je2 U24 R R) (Jn 2 R (Ob h fun p54 h hK82 => Ju1 [(6, 2), (7, 2), (8, 2), (9, 1), (10, 2)] [] (fun L w' => L = [(0, .slice a0 p0.length u0), (1, .slice a1 p1.length u1), (21, .slice ac x21.length aa), (22, vi (x21.length : Int)), (23, vi v23), (54, .bool p54)] ∧ ∃ κ', Stp [] K57 w56 κ' w') tv ?_ ?_)))))))
  revert h
  cases ht83 : ((s6.length : Int) == (x25.length : Int))
  refine JF fun h => Jn 3 R (Ob h fun x53 hx53 h => Jh R R R C34 (ih (κ := fun b => mp [] 0 (K57 b)) (Jl2 (f20.stp (S26.tr (S38.tr (S49.tr S58))) R R) (mp [] 0) R R) (Jl2 (f43.stp (S49.tr S58) R R) (mp [] 0) R R) (Jl2 f59 (mp [] 0) R R) hx53) ?_)
  rintro _ w86 ⟨k87, rfl, e88⟩
  obtain ⟨K89, S90, m91⟩ := Ji e88 12 R
  refine ⟨tv, Jn 1 R ?_⟩
  cases h
  exact Jv1 _ tv ⟨R, _, S90.wk R⟩ (KM R)
  refine JT fun h => Jn 3 R (Jd1 R R R R (Jn 1 R ?_))
  cases h
  exact Jv1 _ tv ⟨R, _, (Jx2 _ _).wk R⟩ (KM R)
  rintro _ w93 _ ⟨rfl, K94, S95⟩
  have h := hK82
  refine Jd ?_
  revert h
  cases ht96 : p54
  refine JF fun h => Jy R (Js (Jz (Jp (Ja [2, 2] R (Jc 2 R ?_)))))
  have hw30 : IntKind.wrap .i64 (v23 + 1) = v23 + 1 := wr1 hj30 (Jm2 hc30) hN30
  rw [hw30]
  have hc30 := Jm2 hc30
  cases h
  exact Jz1 fun a ha => ⟨k, _, Ja3 _, ⟨K94, v23 + 1, R, (S38.tr (S49.tr (S58.tr S95))).wk R, by omega, by omega, hk39⟩, (ha.mm R)⟩
  refine JT fun h => Jx R (Je [2] R (Jb 1 R (Ju (Ja1 (Jw (Jw ?_))))))
  cases h
  obtain rfl := Option.some.inj hk39
  have h := hK31
  dsimp only [aft] at h
  refine Ja1 (Jq2 (Jw (Ja2 (l := [.tmp 6]) V34 (Jp2 R R) R ?_)))
  cases h
  exact ⟨K94, R, (hE.stp (S3.tr (S12.tr (S17.tr (S26.tr (S38.tr (S49.tr (S58.tr S95))))))) R R)⟩
  rintro _ w33 ⟨K34, rfl, S35, rfl⟩
  have h := hK31
  dsimp only [aft] at h
  refine Jp (Je [2] R (Jb 1 R (Ju (Ja2 (l := [.tmp 6]) V34 (Jp2 R R) R ?_))))
  cases h
  exact ⟨K34, R, (hE.stp (S3.tr (S12.tr (S17.tr (S26.tr S35)))) R R)⟩
theorem i_FairIn_ok {w : World} {κ : Col} {a0 u0} {p0 : (List (List Int))} {a1 u1} {p1 : (List Pair)} {a2 u2} {p2 : (List Int)} (g0 : Rd (Rp.sl (Rp.int .i64)) κ w 0 a0 u0 p0) (g1 : Rd Pair.rp κ w 0 a1 u1 p1) (g2 : Rd (Rp.int .i64) κ w 0 a2 u2 p2) {r : Bool} (h : i_FairIn p0 p1 p2 = some r) : Ret Try.prog 12 [.slice a0 p0.length u0, .slice a1 p1.length u1, .slice a2 p2.length u2] w (fun v w' => ∃ (κ' : Col), v = .bool r ∧ Ent κ w κ' w') := by
 unfold i_FairIn at h
 refine Ret.enter F12 R N12 R ?_
 dsimp only [envOf]
 have hE := Ent.refl κ w
 refine Je [2] R (Jb 1 R (Je [2, 2, 2] R (Jn 1 R (Jf R (Je2 U22 R R) (Jb 1 R (Jq (Je [2, 2, 2, 2, 2, 1, 2, 2, 2, 2, 2, 1, 2, 2] R (Jn 3 R (Ob h fun p19 h hK1 => Ju1 [(3, 2), (4, 2), (5, 1), (6, 2), (7, 2)] [(8, 2), (9, 2), (10, 2), (11, 1), (12, 2), (13, 2)] (fun L w' => L = [(0, .slice a0 p0.length u0), (1, .slice a1 p1.length u1), (2, .slice a2 p2.length u2), (7, vi (p0.length : Int)), (19, .bool p19)] ∧ ∃ κ', Stp [] κ w κ' w') tv ?_ ?_)))))))))
 revert h
 cases ht2 : decide (256 < (p0.length : Int))
 refine JF fun h => Jn 2 R (Ob h fun x17 hx17 h => Jh R R R C32 (i_arePairs_ok (κ := fun b => mp [] 0 (κ b)) (Jl2 g1 (mp [] 0) R R) hx17) ?_)
 rintro _ w3 ⟨k4, rfl, e5⟩
 obtain ⟨K6, S7, m8⟩ := Ji e5 2 R
 refine ⟨tv, Jn 2 R ?_⟩
 cases h
 exact Jv1 _ tv ⟨R, _, S7.wk R⟩ (KM R)
 refine JT fun h => Jn 2 R (Jd1 R R R R (Jn 2 R ?_))
 cases h
 exact Jv1 _ tv ⟨R, _, (Jx2 _ _).wk R⟩ (KM R)
 rintro _ w10 _ ⟨rfl, K11, S12⟩
 have h := hK1
 refine Jn 1 R (Ob h fun p25 h hK13 => Ju1 [(9, 2), (10, 2), (11, 1), (12, 2), (13, 2)] [] (fun L w' => L = [(0, .slice a0 p0.length u0), (1, .slice a1 p1.length u1), (2, .slice a2 p2.length u2), (7, vi (p0.length : Int)), (25, .bool p25)] ∧ ∃ κ', Stp [] K11 w10 κ' w') tv ?_ ?_)
 revert h
 cases ht14 : p19
 refine JF fun h => Jn 2 R (Ob h fun x23 hx23 h => Jh R R R C33 (i_isSet_ok (κ := fun b => mp [] 0 (K11 b)) (Jl2 (g2.stp S12 R R) (mp [] 0) R R) hx23) ?_)
 rintro _ w16 ⟨k17, rfl, e18⟩
 obtain ⟨K19, S20, m21⟩ := Ji e18 2 R
 refine ⟨tv, Jn 2 R ?_⟩
 cases h
 exact Jv1 _ tv ⟨R, _, S20.wk R⟩ (KM R)
 refine JT fun h => Jn 2 R (Jd1 R R R R (Jn 2 R ?_))
 cases h
 exact Jv1 _ tv ⟨R, _, (Jx2 _ _).wk R⟩ (KM R)
 rintro _ w23 _ ⟨rfl, K24, S25⟩
 have h := hK13
 refine Jd ?_
 revert h
 cases ht26 : p25
 refine JF fun h => Jy R (Js (Jp (Jq (Je [2, 2, 2] R (Jn 1 R (Jf R (Je2 U22 R R) (Jb 1 R ?_)))))))
 have hN28 : (p0.length : Int) ≤ 9223372036854775807 := g0.len_le
 refine Ob h fun q2 hq30 hK29 => ?_
 clear h
 refine Jx1 (fun L w' => ∃ κ', L = [(0, .slice a0 p0.length u0), (1, .slice a1 p1.length u1), (2, .slice a2 p2.length u2)] ∧ Stp [] K24 w23 κ' w' ∧ q2 = Sum.inr ()) ?_ ?_
 refine Jv (Jy1 (fun k L w' => ∃ κ' v28, L = [(0, .slice a0 p0.length u0), (1, .slice a1 p1.length u1), (2, .slice a2 p2.length u2), (7, vi (p0.length : Int)), (26, .slice a0 p0.length u0), (27, vi (p0.length : Int)), (28, vi v28)] ∧ Stp [] K24 w23 κ' w' ∧ 0 ≤ v28 ∧ Int.toNat ((p0.length : Int) - v28) = k ∧ cntM (i_FairIn_b0 p0) k v28 () = some q2) ⟨_, _, ⟨K24, 0, R, (Jx2 _ _).wk R, (by decide), (by simp), hq30⟩, (KM R)⟩ ?_)
 rintro k _ w34 ⟨K35, v28, rfl, S36, hj28, hJ28, h⟩
 rcases k with _ | k
 have hk37 := h; obtain ⟨o28, h⟩ := ex_eq (Sum.inr (Sum.inl ()) : Bool ⊕ ((Unit) ⊕ (Unit)))
 have hc28 : decide (v28 < (p0.length : Int)) = false := Jo2 (by omega)
 refine Je [2] R (Jb 1 R (Jq (Jw2 R hc28 (Jc1 (Jt (Jt ?_))))))
 cases h
 have h := hk37
 refine Jb1 ?_
 cases h
 exact Jw1 _ ⟨K35, R, S36.wk R, R⟩ (KM R)
 obtain ⟨o28, h, hk37⟩ := BI h; unfold i_FairIn_b0 at h
 have hc28 : decide (v28 < (p0.length : Int)) = true := Jn2 (by omega)
 refine Je [2] R (Jb 1 R (Jq (Jv2 R hc28 (Js (Jp (Jq (Jv (Je [2, 1, 2] R (Ob h fun x30 hx30 h => Jf R (Jf2 g0 hx30 U22 Z24 R R R R) ?_)))))))))
 obtain ⟨ax30, ux30, f39, hl40⟩ := (g0.stp (S12.tr (S25.tr S36)) R R).gSl hx30
 refine Jl tv R R R R (Jc2 I24 R R (hvE hl40)) (Jb 1 R (Je [2, 2, 1, 2] R (Jn 2 R (Ob h fun x34 hx34 h => Jh R R R C33 (i_isSet_ok (κ := fun b => mp [] 0 (K35 b)) (Jl2 f39 (mp [] 0) R R) hx34) ?_))))
 rintro _ w41 ⟨k42, rfl, e43⟩
 obtain ⟨K44, S45, m46⟩ := Ji e43 2 R
 refine ⟨tv, Jb 1 R ?_⟩
 revert h
 cases ht48 : (!x34)
 refine JF fun h => Jy R (Js (Jz (Jp (Ja [2, 2] R (Jc 2 R ?_)))))
 have hw28 : IntKind.wrap .i64 (v28 + 1) = v28 + 1 := wr1 hj28 (Jm2 hc28) hN28
 rw [hw28]
 have hc28 := Jm2 hc28
 cases h
 exact Jz1 fun a ha => ⟨k, _, Ja3 _, ⟨K44, v28 + 1, R, (S36.tr S45).wk R, by omega, by omega, hk37⟩, (ha.mm R)⟩
 refine JT fun h => Jx R (Je [2] R (Jb 1 R (Ju (Ja1 (Jw (Jw ?_))))))
 cases h
 obtain rfl := Option.some.inj hk37
 have h := hK29
 dsimp only [aft] at h
 refine Ja1 (Jq2 (Jw (Ja2 (l := [.tmp 6]) V12 (Jp2 R R) R ?_)))
 cases h
 exact ⟨K44, R, (hE.stp (S12.tr (S25.tr (S36.tr S45))) R R)⟩
 rintro _ w31 ⟨K32, rfl, S33, rfl⟩
 have h := hK29
 dsimp only [aft] at h
 have S001 := (S12.tr (S25.tr S33))
 refine Jp (Je [2, 2, 2, 1, 2] R (Jn 3 R (Ob h fun x40 hx40 h => Jh R R R C34 (i_fairIn_ok _ (κ := fun b => mp [] 0 (K32 b)) (Jl2 (g0.stp S001 R R) (mp [] 0) R R) (Jl2 (g1.stp S001 R R) (mp [] 0) R R) (Jl2 (g2.stp S001 R R) (mp [] 0) R R) hx40) ?_)))
 rintro _ w53 ⟨k54, rfl, e55⟩
 obtain ⟨K56, S57, m58⟩ := Ji e55 2 R
 refine ⟨tv, Jb 1 R (Ju (Ja2 (l := [.tmp 6]) V12 (Jp2 R R) R ?_))⟩
 cases h
 exact ⟨K56, R, (hE.stp (S12.tr (S25.tr (S33.tr S57))) R R)⟩
 refine JT fun h => Jx R (Je [2] R (Jb 1 R (Ju (Jw (Ja2 (l := [.tmp 6]) V12 (Jp2 R R) R ?_)))))
 cases h
 exact ⟨K24, R, (hE.stp (S12.tr S25) R R)⟩
theorem s_MeetOf_ok {w : World} {κ : Col} {a0 u0} {p0 : (List Int)} {a1 u1} {p1 : (List Int)} (g0 : Rd (Rp.int .i64) κ w 0 a0 u0 p0) (g1 : Rd (Rp.int .i64) κ w 0 a1 u1 p1) {r : (List Int)} (h : s_MeetOf p0 p1 = some r) : Ret Try.prog 81 [.slice a0 p0.length u0, .slice a1 p1.length u1] w (fun v w' => ∃ (κ' : Col) (ra0 : Option Addr) (ru0 : Nat), v = .slice ra0 r.length ru0 ∧ Ent κ w κ' w' ∧ Oc E6 2 κ' w' 2 ra0 ru0 r) := by
 unfold s_MeetOf at h
 refine Ret.enter F81 R N81 R ?_
 dsimp only [envOf]
 have hE := Ent.refl κ w
 refine Je [2] R (Jb 1 R (Je [1, 2] R (Jo1 (κ := κ) (E := E6) 2 R R R R R Y24 Tryinfo2 R fun a7 u7 w1 K2 S3 f4 => ⟨tv, Jb 1 R (Jq (Je [2, 2, 1, 2] R (Jn 2 R (Ob h fun x10 hx10 h => ?_))))⟩)))
 have f5 := g0.stp S3 R R
 have f6 := g1.stp S3 R R
 refine Jh R R R C83 (s_l2Both_ok (κ := fun b => mp [] 0 (K2 b)) (Jl2 f5 (mp [] 0) R R) (Jl2 f6 (mp [] 0) R R) hx10) ?_
 rintro _ w7 ⟨k8, rfl, e9⟩
 obtain ⟨K10, S11, m12⟩ := Ji e9 3 R
 refine ⟨tv, Jb 1 R ?_⟩
 revert h
 cases ht14 : (!x10)
 refine JF fun h => Jy R (Js (Jp (Jq (Je [2] R (Jb 1 R ?_)))))
 have hN17 : (p0.length : Int) ≤ 9223372036854775807 := f5.len_le
 refine Ob h fun q2 hq19 hK18 => ?_
 clear h
 refine Jx1 (fun L w' => ∃ κ', ∃ s3 : (List Int), ∃ ad ac, L = [(5, .slice ad s3.length ac)] ∧ Stp [2] K10 w7 κ' w' ∧ Oc E6 2 κ' w' 2 ad ac s3 ∧ q2 = Sum.inr s3) ?_ ?_
 refine Jv (Jy1 (fun k L w' => ∃ κ' v6, ∃ s1 : (List Int), ∃ aa ab, L = [(0, .slice a0 p0.length u0), (1, .slice a1 p1.length u1), (5, .slice aa s1.length ab), (6, vi v6)] ∧ Stp [2] K10 w7 κ' w' ∧ Oc E6 2 κ' w' 2 aa ab s1 ∧ 0 ≤ v6 ∧ Int.toNat ((p0.length : Int) - v6) = k ∧ cntM (s_MeetOf_b0 p0 p1) k v6 s1 = some q2) ⟨_, _, ⟨K10, 0, (([] : List Int) : (List Int)), a7, u7, R, (Jx2 _ _).wk R, (f4.stp S11 R R), (by decide), (by simp), hq19⟩, (KM R)⟩ ?_)
 rintro k _ w24 ⟨K25, v6, s1, aa, ab, rfl, S26, f27, hj17, hJ17, h⟩
 rcases k with _ | k
 have hk29 := h; obtain ⟨o17, h⟩ := ex_eq (Sum.inr (Sum.inl s1) : (List Int) ⊕ (((List Int)) ⊕ ((List Int))))
 have hc17 : decide (v6 < (p0.length : Int)) = false := Jo2 (by omega)
 refine Jq (Je [2, 2, 2, 2] R (Jn 2 R (Jf R (Je2 U24 R R) (Jb 1 R (Jw2 R hc17 (Jc1 (Jt (Jt ?_))))))))
 cases h
 have h := hk29
 refine Jb1 ?_
 cases h
 exact Jw1 _ ⟨K25, (s1 : (List Int)), aa, ab, R, S26.wk R, f27, R⟩ (KM R)
 obtain ⟨o17, h, hk29⟩ := BI h; unfold s_MeetOf_b0 at h
 have hc17 : decide (v6 < (p0.length : Int)) = true := Jn2 (by omega)
 refine Jq (Je [2, 2, 2, 2] R (Jn 2 R (Jf R (Je2 U24 R R) (Jb 1 R (Jv2 R hc17 (Js (Jp (Jq (Jv (Je [2, 2, 2, 2, 1, 1] R (Jn 3 R (Ob h fun x22 hx22 h => Jf R (Jf2 f5 hx22 U24 Z2 R R R R) ?_))))))))))))
 have f30 := f5.stp (S11.tr S26) R R
 refine Jl tv R R R R (Jc2 I2 R R (hvE (f30.gInt hx22))) (Ob h fun x24 hx24 h => Jh R R R C77 (s_l1Has_ok (κ := fun b => mp [] 0 (K25 b)) (Jl2 (f6.stp (S11.tr S26) R R) (mp [] 0) R R) hx24) ?_)
 rintro _ w32 ⟨k33, rfl, e34⟩
 obtain ⟨K35, S36, m37⟩ := Ji e34 5 R
 refine ⟨tv, Jd (Ob h fun q4 h hK39 => Jx1 (fun L w' => ∃ κ' ae af, L = [(0, .slice a0 p0.length u0), (1, .slice a1 p1.length u1), (5, .slice ae q4.length af), (6, vi v6)] ∧ Stp [2] K35 w32 κ' w' ∧ Oc E6 2 κ' w' 2 ae af q4) ?_ ?_)⟩
 revert h
 cases ht44 : x24
 refine JF fun h => Jy R (Js ?_)
 cases h
 exact Jw1 _ ⟨K35, aa, ab, R, (Jx2 _ _).wk R, (f27.stp S36 R R)⟩ (KM R)
 refine JT fun h => Jx R (Ja [2, 2, 2, 2, 1, 1, 1, 2] R (Jn 3 R (Ob h fun x28 hx28 h => Jf R (Jf2 f30 hx28 U24 Z2 R R R R) (Jl tv R R R R (Jc2 I2 R R (hvE ((f30.stp S36 R R).gInt hx28))) (Jn1 (κ := K35) (E := E6) 7 [] (parts := [(0, .tmp 29)]) (cells := [vi x28]) (xs := ([x28] : List Int)) R R R R R R Y24 Tryinfo2 R R R R R R R R R R ⟨[vi x28], [], Zl K35 w32 [], Zl K35 w32 [], R, Zl.sp (l1 := []) (l2 := []) R, Zl.sr (l1 := []) (l2 := []), R, R⟩ fun ak aj w46 K47 S48 f49 => ⟨tv, Ob h fun x31 hx31 h => Jm1 (κ := K47) (E := E6) 2 [] R R R R R R R R R Y24 Tryinfo2 R R R R (f27.stp (S36.tr S48) R R) (Sl.srcP (pu_int _) f49.rdc) sy_false hx31 R fun ah ai w51 K52 S53 f54 => ⟨tv, Jc 1 R ?_⟩⟩)))))
 cases h
 exact Jw1 _ ⟨K52, ah, ai, R, (S48.tr S53).wk R, f54⟩ (KM R)
 rintro _ w40 ⟨K41, ae, af, rfl, S42, f43⟩
 have h := hK39
 refine Jz (Jp (Ja [2, 2, 2] R (Jc 3 R ?_)))
 have hw17 : IntKind.wrap .i64 (v6 + 1) = v6 + 1 := wr1 hj17 (Jm2 hc17) hN17
 rw [hw17]
 have hc17 := Jm2 hc17
 cases h
 exact Jz1 fun a ha => ⟨k, _, Ja3 _, ⟨K41, v6 + 1, (q4 : (List Int)), ae, af, R, (S26.tr (S36.tr S42)).wk R, f43, by omega, by omega, hk29⟩, (ha.mm R)⟩
 rintro _ w20 ⟨K21, s3, ad, ac, rfl, S22, f23, rfl⟩
 have h := hK18
 dsimp only [aft] at h
 refine Jp (Je [2, 2] R (Jb 2 R (Ju (Ja2 (l := [.tmp 4]) V81 (Jp2 R R) R ?_))))
 cases h
 exact ⟨K21, ad, ac, R, (hE.stp (S3.tr (S11.tr S22)) R R), f23⟩
 refine JT fun h => Jx R (Je [2, 2] R (Jb 2 R (Ju (Jw (Ja2 (l := [.tmp 4]) V81 (Jp2 R R) R ?_)))))
 cases h
 exact ⟨K10, a7, u7, R, (hE.stp (S3.tr S11) R R), (f4.stp S11 R R)⟩
theorem s_BothOf_ok {w : World} {κ : Col} {a0 u0} {p0 : (List Int)} {a1 u1} {p1 : (List Int)} (g0 : Rd (Rp.int .i64) κ w 0 a0 u0 p0) (g1 : Rd (Rp.int .i64) κ w 0 a1 u1 p1) {r : (List Int)} (h : s_BothOf p0 p1 = some r) : Ret Try.prog 82 [.slice a0 p0.length u0, .slice a1 p1.length u1] w (fun v w' => ∃ (κ' : Col) (ra0 : Option Addr) (ru0 : Nat), v = .slice ra0 r.length ru0 ∧ Ent κ w κ' w' ∧ Rd (Rp.int .i64) κ' w' 0 ra0 ru0 r) := by
 unfold s_BothOf at h
 refine Ret.enter F82 R N82 R ?_
 dsimp only [envOf]
 have hE := Ent.refl κ w
 refine Je [2] R (Jb 1 R (Jq (Je [2, 2, 1, 2] R (Jn 2 R (Ob h fun x9 hx9 h => Jh R R R C83 (s_l2Both_ok (κ := fun b => mp [] 0 (κ b)) (Jl2 g0 (mp [] 0) R R) (Jl2 g1 (mp [] 0) R R) hx9) ?_)))))
 rintro _ w1 ⟨k2, rfl, e3⟩
 obtain ⟨K4, S5, m6⟩ := Ji e3 2 R
 refine ⟨tv, Jb 1 R ?_⟩
 revert h
 cases ht8 : (!x9)
 refine JF fun h => Jy R (Js (Jp (Je [2, 1, 2] R (Jn 1 R (Ob h fun x13 hx13 h => Jh R R R C102 (s_l1Copy_ok (κ := fun b => mp [] 0 (K4 b)) (Jl2 (g0.stp S5 R R) (mp [] 0) R R) hx13) ?_)))))
 rintro _ w19 ⟨k20, aj, ak, rfl, e21, f22⟩
 obtain ⟨K23, S24, m25⟩ := Ji e21 4 R
 refine ⟨tv, Jb 1 R (Jq (Je [2] R (Jb 1 R ?_)))⟩
 have hN28 : (p1.length : Int) ≤ 9223372036854775807 := g1.len_le
 refine Ob h fun q2 hq30 hK29 => ?_
 clear h
 obtain ⟨K31, S32, z33⟩ := fz_ex K23 w19 6
 refine Jx1 (fun L w' => ∃ κ', ∃ s3 : (List Int), ∃ ab aa, L = [(5, .slice ab s3.length aa)] ∧ Stp [] K31 w19 κ' w' ∧ Rd (Rp.int .i64) κ' w' 0 ab aa s3 ∧ q2 = Sum.inr s3) ?_ ?_
 refine Jv (Jy1 (fun k L w' => ∃ κ' v6, ∃ s1 : (List Int), ∃ ac ad, L = [(1, .slice a1 p1.length u1), (5, .slice ac s1.length ad), (6, vi v6)] ∧ Stp [] K31 w19 κ' w' ∧ Rd (Rp.int .i64) κ' w' 0 ac ad s1 ∧ 0 ≤ v6 ∧ Int.toNat ((p1.length : Int) - v6) = k ∧ cntM (s_BothOf_b0 p1) k v6 s1 = some q2) ⟨_, _, ⟨K31, 0, (x13 : (List Int)), aj, ak, R, (Jx2 _ _).wk R, (Sl.st z33 (f22.mx (no_int _) m25 R (R : 4 + 2 = 6)).rdc), (by decide), (by simp), hq30⟩, (KM R)⟩ ?_)
 rintro k _ w39 ⟨K40, v6, s1, ac, ad, rfl, S41, f42, hj28, hJ28, h⟩
 rcases k with _ | k
 have hk43 := h; obtain ⟨o28, h⟩ := ex_eq (Sum.inr (Sum.inl s1) : (List Int) ⊕ (((List Int)) ⊕ ((List Int))))
 have hc28 : decide (v6 < (p1.length : Int)) = false := Jo2 (by omega)
 refine Jq (Je [2, 2, 2, 2] R (Jn 2 R (Jf R (Je2 U24 R R) (Jb 1 R (Jw2 R hc28 (Jc1 (Jt (Jt ?_))))))))
 cases h
 have h := hk43
 refine Jb1 ?_
 cases h
 exact Jw1 _ ⟨K40, (s1 : (List Int)), ac, ad, R, S41.wk R, f42, R⟩ (KM R)
 obtain ⟨o28, h, hk43⟩ := BI h; unfold s_BothOf_b0 at h
 have hc28 : decide (v6 < (p1.length : Int)) = true := Jn2 (by omega)
 refine Jq (Je [2, 2, 2, 2] R (Jn 2 R (Jf R (Je2 U24 R R) (Jb 1 R (Jv2 R hc28 (Js (Jp (Jq (Jv (Ja [2, 2, 2, 2, 1, 1, 2] R (Jn 3 R (Ob h fun x23 hx23 h => Jf R (Jf2 g1 hx23 U24 Z2 R R R R) (Jl tv R R R R (Jc2 I2 R R (hvE ((g1.stp (S5.tr (S24.tr (S32.tr S41))) R R).gInt hx23))) (Ob h fun x25 hx25 h => Jh R R R C92 (s_l1Into_ok (κ := fun b => mp [] 1 (K40 b)) (Jl2 f42 (mp [] 1) R R) hx25) ?_))))))))))))))
 rintro _ w45 ⟨k46, ai, af, rfl, e47, f48⟩
 obtain ⟨K49, S50, m51, z52⟩ := Jj e47 7 R
 refine ⟨tv, Jc 1 R (Jz (Jp (Ja [2, 2, 2] R (Jc 3 R ?_))))⟩
 have hw28 : IntKind.wrap .i64 (v6 + 1) = v6 + 1 := wr1 hj28 (Jm2 hc28) hN28
 rw [hw28]
 have hc28 := Jm2 hc28
 cases h
 exact Jz1 fun a ha => ⟨k, _, Ja3 _, ⟨K49, v6 + 1, (x25 : (List Int)), ai, af, R, (S41.tr S50).wk R, (f48.mx z52), by omega, by omega, hk43⟩, (ha.mm R)⟩
 rintro _ w35 ⟨K36, s3, ab, aa, rfl, S37, f38, rfl⟩
 have h := hK29
 dsimp only [aft] at h
 refine Jp (Je [2, 2] R (Jb 2 R (Ju (Ja2 (l := [.tmp 4]) V82 (Jp2 R R) R ?_))))
 cases h
 exact ⟨K36, ab, aa, R, (hE.stp (S5.tr (S24.tr (S32.tr S37))) R R), f38⟩
 refine JT fun h => Jx R (Je [1, 2] R (Jo1 (κ := K4) (E := E6) 4 R R R R R Y24 Tryinfo2 R fun ah ae w9 K10 S11 f12 => ⟨tv, Jb 1 R (Ju (Jw ?_))⟩))
 obtain ⟨K13, S14, z15⟩ := fz_ex K10 w9 4
 refine Ja2 (l := [.tmp 4]) V82 (Jp2 R R) R ?_
 cases h
 exact ⟨K13, ah, ae, R, (hE.stp (S5.tr (S11.tr S14)) R R), (Sl.st z15 f12.rdc)⟩
theorem s_l33Vain_ok {w : World} {κ : Col} {a0 u0} {p0 : (List Pair)} {a1 u1} {p1 : (List Int)} (g0 : Rd Pair.rp κ w 0 a0 u0 p0) (g1 : Rd (Rp.int .i64) κ w 0 a1 u1 p1) {r : (List Int)} (h : s_l33Vain p0 p1 = some r) : Ret Try.prog 57 [.slice a0 p0.length u0, .slice a1 p1.length u1] w (fun v w' => ∃ (κ' : Col) (ra0 : Option Addr) (ru0 : Nat), v = .slice ra0 r.length ru0 ∧ Ent κ w κ' w' ∧ Rd (Rp.int .i64) κ' w' 0 ra0 ru0 r) := by
 unfold s_l33Vain at h
 refine Ret.enter F57 R N57 R ?_
 dsimp only [envOf]
 have hE := Ent.refl κ w
 refine Je [2] R (Jb 1 R (Je [1, 2] R (Jo1 (κ := κ) (E := E6) 2 R R R R R Y24 Tryinfo2 R fun a8 u8 w1 K2 S3 f4 => ⟨tv, Jb 1 R (Jq (Je [2] R (Jb 1 R ?_)))⟩)))
 have hN5 : (p0.length : Int) ≤ 9223372036854775807 := g0.len_le
 refine Ob h fun q2 hq7 hK6 => ?_
 clear h
 obtain ⟨K8, S9, z10⟩ := fz_ex K2 w1 2
 refine Jx1 (fun L w' => ∃ κ', ∃ s3 : (List Int), ∃ ad ac, L = [(5, .slice ad s3.length ac)] ∧ Stp [5] K8 w1 κ' w' ∧ Rd (Rp.int .i64) κ' w' 0 ad ac s3 ∧ q2 = Sum.inr s3) ?_ ?_
 refine Jv (Jy1 (fun k L w' => ∃ κ' v6, ∃ s1 : (List Int), ∃ aa ab, L = [(0, .slice a0 p0.length u0), (1, .slice a1 p1.length u1), (5, .slice aa s1.length ab), (6, vi v6)] ∧ Stp [5] K8 w1 κ' w' ∧ Rd (Rp.int .i64) κ' w' 0 aa ab s1 ∧ 0 ≤ v6 ∧ Int.toNat ((p0.length : Int) - v6) = k ∧ cntM (s_l33Vain_b0 p0 p1) k v6 s1 = some q2) ⟨_, _, ⟨K8, 0, (([] : List Int) : (List Int)), a8, u8, R, (Jx2 _ _).wk R, (Sl.st z10 f4.rdc), (by decide), (by simp), hq7⟩, (KM R)⟩ ?_)
 rintro k _ w16 ⟨K17, v6, s1, aa, ab, rfl, S18, f19, hj5, hJ5, h⟩
 rcases k with _ | k
 have hk20 := h; obtain ⟨o5, h⟩ := ex_eq (Sum.inr (Sum.inl s1) : (List Int) ⊕ (((List Int)) ⊕ ((List Int))))
 have hc5 : decide (v6 < (p0.length : Int)) = false := Jo2 (by omega)
 refine Jq (Je [2, 2, 2, 2] R (Jn 2 R (Jf R (Je2 U29 R R) (Jb 1 R (Jw2 R hc5 (Jc1 (Jt (Jt ?_))))))))
 cases h
 have h := hk20
 refine Jb1 ?_
 cases h
 exact Jw1 _ ⟨K17, (s1 : (List Int)), aa, ab, R, S18.wk R, f19, R⟩ (KM R)
 obtain ⟨o5, h, hk20⟩ := BI h; unfold s_l33Vain_b0 at h
 have hc5 : decide (v6 < (p0.length : Int)) = true := Jn2 (by omega)
 refine Jq (Je [2, 2, 2, 2] R (Jn 2 R (Jf R (Je2 U29 R R) (Jb 1 R (Jv2 R hc5 (Js (Jp (Jq (Jv (Je [2, 2, 2, 2, 2, 1, 1, 2] R (Jn 3 R (Ob h fun x18 hx18 h => Jf R (Jf2 g0 hx18 U29 Z42 R R R R) (Jf R (Jb2 U42 R Z24 R R) ?_)))))))))))))
 have f21 := g0.stp (S3.tr (S9.tr S18)) R R
 obtain ⟨cse22, hre22, hle22⟩ := (f21).gSt hx18
 obtain ⟨ae22_0, ue22_0, ae22_1, ue22_1, rfl, fe22_0, fe22_1⟩ := Pair.un hre22
 refine Jl tv R R R R (Jc2 I24 R R (hvE (fun w' hw' => hle22 w' hw' 0 _ R))) (Ob h fun x21 hx21 h => ?_)
 have f23 := g1.stp (S3.tr (S9.tr S18)) R R
 refine Jh R R R C81 (s_MeetOf_ok (κ := fun b => mp [] 0 (K17 b)) (Jl2 f23 (mp [] 0) R R) (Jl2 fe22_0 (mp [] 0) R R) hx21) ?_
 rintro _ w24 ⟨k25, ak, ai, rfl, e26, f27⟩
 obtain ⟨K28, S29, m30⟩ := Ji e26 3 R
 refine ⟨tv, Jb 1 R (Je [2, 2, 2, 2, 2, 2, 2, 2, 2, 1, 1, 2, 2, 2] R (Jn 1 R (Jf R (Je2 U24 R R) (Jn 2 R (Ob h fun p35 h hK33 => Ju1 [(4, 2), (5, 2), (6, 2), (7, 2), (8, 2), (9, 1), (10, 1), (11, 2), (12, 2), (13, 2)] [] (fun L w' => L = [(0, .slice a0 p0.length u0), (1, .slice a1 p1.length u1), (5, .slice aa s1.length ab), (6, vi v6), (7, .slice ak x21.length ai), (35, .bool p35)] ∧ ∃ κ', Stp [] K28 w24 κ' w') tv ?_ ?_)))))⟩
 revert h
 cases ht34 : decide (0 < (x21.length : Int))
 refine JF fun h => Jn 5 R (Jd1 R R R R (Jd1 R R R R (Jn 3 R ?_)))
 cases h
 exact Jv1 _ tv ⟨R, _, (Jx2 _ _).wk R⟩ (KM R)
 refine JT fun h => Jn 3 R (Ob h fun x29 hx29 h => Jf R (Jf2 f21 hx29 U29 Z42 R R R R) (Jf R (Jb2 U42 R Z24 R R) ?_))
 obtain ⟨cse36, hre36, hle36⟩ := ((f21.stp S29 R R)).gSt hx29
 obtain ⟨ae36_0, ue36_0, ae36_1, ue36_1, rfl, fe36_0, fe36_1⟩ := Pair.un hre36
 refine Jl tv R R R R (Jc2 I24 R R (hvE (fun w' hw' => hle36 w' hw' 1 _ R))) (Ob h fun x32 hx32 h => Jh R R R C81 (s_MeetOf_ok (κ := fun b => mp [] 0 (K28 b)) (Jl2 (f23.stp S29 R R) (mp [] 0) R R) (Jl2 fe36_1 (mp [] 0) R R) hx32) ?_)
 rintro _ w38 ⟨k39, am, al, rfl, e40, f41⟩
 obtain ⟨K42, S43, m44⟩ := Ji e40 6 R
 refine ⟨tv, Jf R (Je2 U24 R R) (Jn 2 R ?_)⟩
 cases h
 exact Jv1 _ tv ⟨R, _, S43.wk R⟩ (KM R)
 rintro _ w47 _ ⟨rfl, K48, S49⟩
 have h := hK33
 refine Jd (Ob h fun q4 h hK50 => Jx1 (fun L w' => ∃ κ' ae af, L = [(0, .slice a0 p0.length u0), (1, .slice a1 p1.length u1), (5, .slice ae q4.length af), (6, vi v6)] ∧ Stp [5] K48 w47 κ' w' ∧ Rd (Rp.int .i64) κ' w' 0 ae af q4) ?_ ?_)
 revert h
 cases ht55 : p35
 refine JF fun h => Jy R (Js ?_)
 cases h
 exact Jw1 _ ⟨K48, aa, ab, R, (Jx2 _ _).wk R, (f19.stp (S29.tr S49) R R)⟩ (KM R)
 refine JT fun h => Jx R (Ja [2, 2, 1, 2] R (Jn 2 R ?_))
 obtain ⟨K57, S58, z59⟩ := fz_ex K48 w47 5
 refine Ob h fun x38 hx38 h => Jh R R R C82 (s_BothOf_ok (κ := fun b => mp [] 1 (K57 b)) (Jl2 (f19.stp (S29.tr (S49.tr S58)) R R) (mp [] 1) R R) (Jl2 (Sl.st z59 ((f27.mx (no_int _) m30 R (R : 3 + 2 = 5)).stp S49 R R).rdc) (mp [] 1) R R) hx38) ?_
 rintro _ w62 ⟨k63, ah, aj, rfl, e64, f65⟩
 obtain ⟨K66, S67, m68, z69⟩ := Jj e64 6 R
 refine ⟨tv, Jc 1 R ?_⟩
 cases h
 exact Jw1 _ ⟨K66, ah, aj, R, (S58.tr S67).wk R, (f65.mx z69)⟩ (KM R)
 rintro _ w51 ⟨K52, ae, af, rfl, S53, f54⟩
 have h := hK50
 refine Jz (Jp (Ja [2, 2, 2] R (Jc 3 R ?_)))
 have hw5 : IntKind.wrap .i64 (v6 + 1) = v6 + 1 := wr1 hj5 (Jm2 hc5) hN5
 rw [hw5]
 have hc5 := Jm2 hc5
 cases h
 exact Jz1 fun a ha => ⟨k, _, Ja3 _, ⟨K52, v6 + 1, (q4 : (List Int)), ae, af, R, (S18.tr (S29.tr (S49.tr S53))).wk R, f54, by omega, by omega, hk20⟩, (ha.mm R)⟩
 rintro _ w12 ⟨K13, s3, ad, ac, rfl, S14, f15, rfl⟩
 have h := hK6
 dsimp only [aft] at h
 refine Jp (Je [2, 2] R (Jb 2 R (Ju (Ja2 (l := [.tmp 4]) V57 (Jp2 R R) R ?_))))
 cases h
 exact ⟨K13, ad, ac, R, (hE.stp (S3.tr (S9.tr S14)) R R), f15⟩
theorem s_LessOf_ok {w : World} {κ : Col} {a0 u0} {p0 : (List Int)} {a1 u1} {p1 : (List Int)} (g0 : Rd (Rp.int .i64) κ w 0 a0 u0 p0) (g1 : Rd (Rp.int .i64) κ w 0 a1 u1 p1) {r : (List Int)} (h : s_LessOf p0 p1 = some r) : Ret Try.prog 58 [.slice a0 p0.length u0, .slice a1 p1.length u1] w (fun v w' => ∃ (κ' : Col) (ra0 : Option Addr) (ru0 : Nat), v = .slice ra0 r.length ru0 ∧ Ent κ w κ' w' ∧ Oc E6 2 κ' w' 2 ra0 ru0 r) := by
 unfold s_LessOf at h
 refine Ret.enter F58 R N58 R ?_
 dsimp only [envOf]
 have hE := Ent.refl κ w
 refine Je [2] R (Jb 1 R (Je [1, 2] R (Jo1 (κ := κ) (E := E6) 2 R R R R R Y24 Tryinfo2 R fun a7 u7 w1 K2 S3 f4 => ⟨tv, Jb 1 R (Jq (Je [2, 2, 1, 2] R (Jn 2 R (Ob h fun x10 hx10 h => ?_))))⟩)))
 have f5 := g0.stp S3 R R
 have f6 := g1.stp S3 R R
 refine Jh R R R C83 (s_l2Both_ok (κ := fun b => mp [] 0 (K2 b)) (Jl2 f5 (mp [] 0) R R) (Jl2 f6 (mp [] 0) R R) hx10) ?_
 rintro _ w7 ⟨k8, rfl, e9⟩
 obtain ⟨K10, S11, m12⟩ := Ji e9 3 R
 refine ⟨tv, Jb 1 R ?_⟩
 revert h
 cases ht14 : (!x10)
 refine JF fun h => Jy R (Js (Jp (Jq (Je [2] R (Jb 1 R ?_)))))
 have hN17 : (p0.length : Int) ≤ 9223372036854775807 := f5.len_le
 refine Ob h fun q2 hq19 hK18 => ?_
 clear h
 refine Jx1 (fun L w' => ∃ κ', ∃ s3 : (List Int), ∃ ad ac, L = [(5, .slice ad s3.length ac)] ∧ Stp [2] K10 w7 κ' w' ∧ Oc E6 2 κ' w' 2 ad ac s3 ∧ q2 = Sum.inr s3) ?_ ?_
 refine Jv (Jy1 (fun k L w' => ∃ κ' v6, ∃ s1 : (List Int), ∃ aa ab, L = [(0, .slice a0 p0.length u0), (1, .slice a1 p1.length u1), (5, .slice aa s1.length ab), (6, vi v6)] ∧ Stp [2] K10 w7 κ' w' ∧ Oc E6 2 κ' w' 2 aa ab s1 ∧ 0 ≤ v6 ∧ Int.toNat ((p0.length : Int) - v6) = k ∧ cntM (s_LessOf_b0 p0 p1) k v6 s1 = some q2) ⟨_, _, ⟨K10, 0, (([] : List Int) : (List Int)), a7, u7, R, (Jx2 _ _).wk R, (f4.stp S11 R R), (by decide), (by simp), hq19⟩, (KM R)⟩ ?_)
 rintro k _ w24 ⟨K25, v6, s1, aa, ab, rfl, S26, f27, hj17, hJ17, h⟩
 rcases k with _ | k
 have hk29 := h; obtain ⟨o17, h⟩ := ex_eq (Sum.inr (Sum.inl s1) : (List Int) ⊕ (((List Int)) ⊕ ((List Int))))
 have hc17 : decide (v6 < (p0.length : Int)) = false := Jo2 (by omega)
 refine Jq (Je [2, 2, 2, 2] R (Jn 2 R (Jf R (Je2 U24 R R) (Jb 1 R (Jw2 R hc17 (Jc1 (Jt (Jt ?_))))))))
 cases h
 have h := hk29
 refine Jb1 ?_
 cases h
 exact Jw1 _ ⟨K25, (s1 : (List Int)), aa, ab, R, S26.wk R, f27, R⟩ (KM R)
 obtain ⟨o17, h, hk29⟩ := BI h; unfold s_LessOf_b0 at h
 have hc17 : decide (v6 < (p0.length : Int)) = true := Jn2 (by omega)
 refine Jq (Je [2, 2, 2, 2] R (Jn 2 R (Jf R (Je2 U24 R R) (Jb 1 R (Jv2 R hc17 (Js (Jp (Jq (Jv (Je [2, 2, 2, 2, 1, 1, 2] R (Jn 3 R (Ob h fun x22 hx22 h => Jf R (Jf2 f5 hx22 U24 Z2 R R R R) ?_))))))))))))
 have f30 := f5.stp (S11.tr S26) R R
 refine Jl tv R R R R (Jc2 I2 R R (hvE (f30.gInt hx22))) (Ob h fun x24 hx24 h => Jh R R R C77 (s_l1Has_ok (κ := fun b => mp [] 0 (K25 b)) (Jl2 (f6.stp (S11.tr S26) R R) (mp [] 0) R R) hx24) ?_)
 rintro _ w32 ⟨k33, rfl, e34⟩
 obtain ⟨K35, S36, m37⟩ := Ji e34 5 R
 refine ⟨tv, Jb 1 R (Ob h fun q4 h hK39 => Jx1 (fun L w' => ∃ κ' ae af, L = [(0, .slice a0 p0.length u0), (1, .slice a1 p1.length u1), (5, .slice ae q4.length af), (6, vi v6)] ∧ Stp [2] K35 w32 κ' w' ∧ Oc E6 2 κ' w' 2 ae af q4) ?_ ?_)⟩
 revert h
 cases ht44 : (!x24)
 refine JF fun h => Jy R (Js ?_)
 cases h
 exact Jw1 _ ⟨K35, aa, ab, R, (Jx2 _ _).wk R, (f27.stp S36 R R)⟩ (KM R)
 refine JT fun h => Jx R (Ja [2, 2, 2, 2, 1, 1, 1, 2] R (Jn 3 R (Ob h fun x29 hx29 h => Jf R (Jf2 f30 hx29 U24 Z2 R R R R) (Jl tv R R R R (Jc2 I2 R R (hvE ((f30.stp S36 R R).gInt hx29))) (Jn1 (κ := K35) (E := E6) 7 [] (parts := [(0, .tmp 30)]) (cells := [vi x29]) (xs := ([x29] : List Int)) R R R R R R Y24 Tryinfo2 R R R R R R R R R R ⟨[vi x29], [], Zl K35 w32 [], Zl K35 w32 [], R, Zl.sp (l1 := []) (l2 := []) R, Zl.sr (l1 := []) (l2 := []), R, R⟩ fun aj ak w46 K47 S48 f49 => ⟨tv, Ob h fun x32 hx32 h => Jm1 (κ := K47) (E := E6) 2 [] R R R R R R R R R Y24 Tryinfo2 R R R R (f27.stp (S36.tr S48) R R) (Sl.srcP (pu_int _) f49.rdc) sy_false hx32 R fun ai ah w51 K52 S53 f54 => ⟨tv, Jc 1 R ?_⟩⟩)))))
 cases h
 exact Jw1 _ ⟨K52, ai, ah, R, (S48.tr S53).wk R, f54⟩ (KM R)
 rintro _ w40 ⟨K41, ae, af, rfl, S42, f43⟩
 have h := hK39
 refine Jz (Jp (Ja [2, 2, 2] R (Jc 3 R ?_)))
 have hw17 : IntKind.wrap .i64 (v6 + 1) = v6 + 1 := wr1 hj17 (Jm2 hc17) hN17
 rw [hw17]
 have hc17 := Jm2 hc17
 cases h
 exact Jz1 fun a ha => ⟨k, _, Ja3 _, ⟨K41, v6 + 1, (q4 : (List Int)), ae, af, R, (S26.tr (S36.tr S42)).wk R, f43, by omega, by omega, hk29⟩, (ha.mm R)⟩
 rintro _ w20 ⟨K21, s3, ad, ac, rfl, S22, f23, rfl⟩
 have h := hK18
 dsimp only [aft] at h
 refine Jp (Je [2, 2] R (Jb 2 R (Ju (Ja2 (l := [.tmp 4]) V58 (Jp2 R R) R ?_))))
 cases h
 exact ⟨K21, ad, ac, R, (hE.stp (S3.tr (S11.tr S22)) R R), f23⟩
 refine JT fun h => Jx R (Je [2, 2] R (Jb 2 R (Ju (Jw (Ja2 (l := [.tmp 4]) V58 (Jp2 R R) R ?_)))))
 cases h
 exact ⟨K10, a7, u7, R, (hE.stp (S3.tr S11) R R), (f4.stp S11 R R)⟩
theorem s_l33Fair_ok (n : Nat) : ∀ {w : World} {κ : Col} {a0 u0} {p0 : (List (List Int))} {a1 u1} {p1 : (List Pair)} {a2 u2} {p2 : (List Int)} (g0 : Rd (Rp.sl (Rp.int .i64)) κ w 0 a0 u0 p0) (g1 : Rd Pair.rp κ w 0 a1 u1 p1) (g2 : Rd (Rp.int .i64) κ w 0 a2 u2 p2) {r : Bool} (h : s_l33Fair n p0 p1 p2 = some r), Ret Try.prog 30 [.slice a0 p0.length u0, .slice a1 p1.length u1, .slice a2 p2.length u2] w (fun v w' => ∃ (κ' : Col), v = .bool r ∧ Ent κ w κ' w') := by
 induction n with
 | zero =>
  intro w κ a0 u0 p0 a1 u1 p1 a2 u2 p2 g0 g1 g2 r h
  cases h
 | succ n ih =>
  intro w κ a0 u0 p0 a1 u1 p1 a2 u2 p2 g0 g1 g2 r h
  have h : s_l33Fair_s (s_l33Fair n) p0 p1 p2 = some r := h
  unfold s_l33Fair_s at h
  refine Ret.enter F30 R N30 R ?_
  dsimp only [envOf]
  have hE := Ent.refl κ w
  refine Je [2] R (Jb 1 R (Je [2, 2, 1, 2] R (Jn 2 R (Ob h fun x12 hx12 h => Jh R R R C56 (s_l1Loops_ok (κ := fun b => mp [] 1 (κ b)) (Jl2 g0 (mp [] 1) R R) (Jl2 g2 (mp [] 1) R R) hx12) ?_))))
  rintro _ w1 ⟨k2, ab, aa, rfl, e3, f4⟩
  obtain ⟨K5, S6, m7, z8⟩ := Jj e3 2 R
  refine ⟨tv, ?_⟩
  have f9 := f4.mxz z8 m7 R (R : 2 + 2 = 4)
  refine Jb 1 R (Jq (Je [2] R (Jb 1 R ?_)))
  have hN10 : (x12.length : Int) ≤ 9223372036854775807 := f9.len_le
  refine Ob h fun q2 hq12 hK11 => ?_
  clear h
  refine Jx1 (fun L w' => ∃ κ', L = [] ∧ Stp [] K5 w1 κ' w' ∧ q2 = Sum.inr ()) ?_ ?_
  refine Jv (Jy1 (fun k L w' => ∃ κ' v8, L = [(0, .slice a0 p0.length u0), (1, .slice a1 p1.length u1), (7, .slice ab x12.length aa), (8, vi v8)] ∧ Stp [] K5 w1 κ' w' ∧ 0 ≤ v8 ∧ Int.toNat ((x12.length : Int) - v8) = k ∧ cntM (s_l33Fair_b0 (s_l33Fair n) p0 p1 x12) k v8 () = some q2) ⟨_, _, ⟨K5, 0, R, (Jx2 _ _).wk R, (by decide), (by simp), hq12⟩, (KM R)⟩ ?_)
  rintro k _ w16 ⟨K17, v8, rfl, S18, hj10, hJ10, h⟩
  rcases k with _ | k
  have hk19 := h; obtain ⟨o10, h⟩ := ex_eq (Sum.inr (Sum.inl ()) : Bool ⊕ ((Unit) ⊕ (Unit)))
  have hc10 : decide (v8 < (x12.length : Int)) = false := Jo2 (by omega)
  refine Jq (Je [2, 2, 2, 2] R (Jn 2 R (Jf R (Je2 U22 R R) (Jb 1 R (Jw2 R hc10 (Jc1 (Jt (Jt ?_))))))))
  cases h
  have h := hk19
  refine Jb1 ?_
  cases h
  exact Jw1 _ ⟨K17, R, S18.wk R, R⟩ KN
  obtain ⟨o10, h, hk19⟩ := BI h; unfold s_l33Fair_b0 at h
  have hc10 : decide (v8 < (x12.length : Int)) = true := Jn2 (by omega)
  refine Jq (Je [2, 2, 2, 2] R (Jn 2 R (Jf R (Je2 U22 R R) (Jb 1 R (Jv2 R hc10 (Js (Jp (Jq (Jv (Je [2, 2, 2, 2, 1, 1, 2] R (Jn 3 R (Ob h fun x22 hx22 h => Jf R (Jf2 f9.rdc hx22 U22 Z24 R R R R) ?_))))))))))))
  have f20 := f9.stp S18 R R
  obtain ⟨ax22, ux22, f21, hl22⟩ := f20.gZ hx22
  refine Jl tv R R R R (Jc2 I24 R R (hvE hl22)) (Ob h fun x24 hx24 h => ?_)
  have f23 := g1.stp (S6.tr S18) R R
  refine Jh R R R C57 (s_l33Vain_ok (κ := fun b => mp [] 1 (K17 b)) (Jl2 f23 (mp [] 1) R R) (Jl2 f21 (mp [] 1) R R) hx24) ?_
  rintro _ w24 ⟨k25, af, ae, rfl, e26, f27⟩
  obtain ⟨K28, S29, m30, z31⟩ := Jj e26 5 R
  refine ⟨tv, Jb 1 R (Je [2, 2, 2, 2, 2, 2, 2, 2, 2, 1, 2, 1, 1, 2] R (Jn 1 R (Jf R (Je2 U24 R R) (Jn 2 R (Ob h fun p38 h hK33 => Ju1 [(4, 2), (5, 2), (6, 2), (7, 2), (8, 2), (9, 1), (10, 2), (11, 1), (12, 1), (13, 2)] [] (fun L w' => L = [(0, .slice a0 p0.length u0), (1, .slice a1 p1.length u1), (7, .slice ab x12.length aa), (8, vi v8), (38, .bool p38)] ∧ ∃ κ', Stp [] K28 w24 κ' w') tv ?_ ?_)))))⟩
  revert h
  cases ht34 : ((x24.length : Int) == 0)
  refine JF fun h => Jn 4 R (Ob h fun x33 hx33 h => Jf R (Jf2 f20.rdc hx33 U22 Z24 R R R R) ?_)
  obtain ⟨ax33, ux33, f36, hl37⟩ := (f20.stp S29 R R).gZ hx33
  refine Jl tv R R R R (Jc2 I24 R R (hvE hl37)) (Jn 1 R (Ob h fun x36 hx36 h => Jh R R R C58 (s_LessOf_ok (κ := fun b => mp [] 0 (K28 b)) (Jl2 f36 (mp [] 0) R R) (Jl2 (f27.mx z31) (mp [] 0) R R) hx36) ?_))
  rintro _ w38 ⟨k39, ac, ad, rfl, e40, f41⟩
  obtain ⟨K42, S43, m44⟩ := Ji e40 8 R
  refine ⟨tv, Ob h fun x37 hx37 h => Jh R R R C30 (ih (κ := fun b => mp [] 0 (K42 b)) (Jl2 (g0.stp (S6.tr (S18.tr (S29.tr S43))) R R) (mp [] 0) R R) (Jl2 (f23.stp (S29.tr S43) R R) (mp [] 0) R R) (Jl2 (f41.mx (no_int _) m44 R (R : 8 + 2 = 10)).rdc (mp [] 0) R R) hx37) ?_⟩
  rintro _ w49 ⟨k50, rfl, e51⟩
  obtain ⟨K52, S53, m54⟩ := Ji e51 11 R
  refine ⟨tv, Jn 1 R ?_⟩
  cases h
  exact Jv1 _ tv ⟨R, _, (S43.tr S53).wk R⟩ (KM R)
  refine JT fun h => Jn 5 R (Jd1 R R R R (Jn 1 R (Jd1 R R R R (Jd1 R R R R (Jn 1 R ?_)))))
  cases h
  exact Jv1 _ tv ⟨R, _, (Jx2 _ _).wk R⟩ (KM R)
  rintro _ w56 _ ⟨rfl, K57, S58⟩
  have h := hK33
  refine Jd ?_
  revert h
  cases ht59 : p38
  refine JF fun h => Jy R (Js (Jz (Jp (Ja [2, 2, 2] R (Jc 3 R ?_)))))
  have hw10 : IntKind.wrap .i64 (v8 + 1) = v8 + 1 := wr1 hj10 (Jm2 hc10) hN10
  rw [hw10]
  have hc10 := Jm2 hc10
  cases h
  exact Jz1 fun a ha => ⟨k, _, Ja3 _, ⟨K57, v8 + 1, R, (S18.tr (S29.tr S58)).wk R, by omega, by omega, hk19⟩, (ha.mm R)⟩
  refine JT fun h => Jx R (Je [2] R (Jb 1 R (Ju (Ja1 (Jw (Jw ?_))))))
  cases h
  obtain rfl := Option.some.inj hk19
  have h := hK11
  dsimp only [aft] at h
  refine Ja1 (Jq2 (Jw (Ja2 (l := [.tmp 6]) V30 (Jp2 R R) R ?_)))
  cases h
  exact ⟨K57, R, (hE.stp (S6.tr (S18.tr (S29.tr S58))) R R)⟩
  rintro _ w13 ⟨K14, rfl, S15, rfl⟩
  have h := hK11
  dsimp only [aft] at h
  refine Jp (Je [2] R (Jb 1 R (Ju (Ja2 (l := [.tmp 6]) V30 (Jp2 R R) R ?_))))
  cases h
  exact ⟨K14, R, (hE.stp (S6.tr S15) R R)⟩
theorem s_FairIn_ok {w : World} {κ : Col} {a0 u0} {p0 : (List (List Int))} {a1 u1} {p1 : (List Pair)} {a2 u2} {p2 : (List Int)} (g0 : Rd (Rp.sl (Rp.int .i64)) κ w 0 a0 u0 p0) (g1 : Rd Pair.rp κ w 0 a1 u1 p1) (g2 : Rd (Rp.int .i64) κ w 0 a2 u2 p2) {r : Bool} (h : s_FairIn p0 p1 p2 = some r) : Ret Try.prog 8 [.slice a0 p0.length u0, .slice a1 p1.length u1, .slice a2 p2.length u2] w (fun v w' => ∃ (κ' : Col), v = .bool r ∧ Ent κ w κ' w') := by
 unfold s_FairIn at h
 refine Ret.enter F8 R N8 R ?_
 dsimp only [envOf]
 have hE := Ent.refl κ w
 refine Je [2] R (Jb 1 R (Je [2, 2, 2] R (Jn 1 R (Jf R (Je2 U22 R R) (Jb 1 R (Jq (Je [2, 2, 2, 2, 2, 1, 2, 2, 2, 2, 2, 1, 2, 2] R (Jn 3 R (Ob h fun p18 h hK1 => Ju1 [(3, 2), (4, 2), (5, 1), (6, 2), (7, 2)] [(8, 2), (9, 2), (10, 2), (11, 1), (12, 2), (13, 2)] (fun L w' => L = [(0, .slice a0 p0.length u0), (1, .slice a1 p1.length u1), (2, .slice a2 p2.length u2), (7, vi (p0.length : Int)), (18, .bool p18)] ∧ ∃ κ', Stp [] κ w κ' w') tv ?_ ?_)))))))))
 revert h
 cases ht2 : decide (256 < (p0.length : Int))
 refine JF fun h => Jn 2 R (Ob h fun x16 hx16 h => Jh R R R C28 (s_PairsOk_ok (κ := fun b => mp [] 0 (κ b)) (Jl2 g1 (mp [] 0) R R) hx16) ?_)
 rintro _ w3 ⟨k4, rfl, e5⟩
 obtain ⟨K6, S7, m8⟩ := Ji e5 2 R
 refine ⟨tv, Jn 2 R ?_⟩
 cases h
 exact Jv1 _ tv ⟨R, _, S7.wk R⟩ (KM R)
 refine JT fun h => Jn 2 R (Jd1 R R R R (Jn 2 R ?_))
 cases h
 exact Jv1 _ tv ⟨R, _, (Jx2 _ _).wk R⟩ (KM R)
 rintro _ w10 _ ⟨rfl, K11, S12⟩
 have h := hK1
 refine Jn 1 R (Ob h fun p24 h hK13 => Ju1 [(9, 2), (10, 2), (11, 1), (12, 2), (13, 2)] [] (fun L w' => L = [(0, .slice a0 p0.length u0), (1, .slice a1 p1.length u1), (2, .slice a2 p2.length u2), (7, vi (p0.length : Int)), (24, .bool p24)] ∧ ∃ κ', Stp [] K11 w10 κ' w') tv ?_ ?_)
 revert h
 cases ht14 : p18
 refine JF fun h => Jn 2 R (Ob h fun x22 hx22 h => Jh R R R C29 (s_l1Set_ok (κ := fun b => mp [] 0 (K11 b)) (Jl2 (g2.stp S12 R R) (mp [] 0) R R) hx22) ?_)
 rintro _ w16 ⟨k17, rfl, e18⟩
 obtain ⟨K19, S20, m21⟩ := Ji e18 2 R
 refine ⟨tv, Jn 2 R ?_⟩
 cases h
 exact Jv1 _ tv ⟨R, _, S20.wk R⟩ (KM R)
 refine JT fun h => Jn 2 R (Jd1 R R R R (Jn 2 R ?_))
 cases h
 exact Jv1 _ tv ⟨R, _, (Jx2 _ _).wk R⟩ (KM R)
 rintro _ w23 _ ⟨rfl, K24, S25⟩
 have h := hK13
 refine Jd ?_
 revert h
 cases ht26 : p24
 refine JF fun h => Jy R (Js (Jp (Jq (Je [2] R (Jb 1 R ?_)))))
 have hN28 : (p0.length : Int) ≤ 9223372036854775807 := g0.len_le
 refine Ob h fun q2 hq30 hK29 => ?_
 clear h
 refine Jx1 (fun L w' => ∃ κ', L = [(0, .slice a0 p0.length u0), (1, .slice a1 p1.length u1), (2, .slice a2 p2.length u2)] ∧ Stp [] K24 w23 κ' w' ∧ q2 = Sum.inr ()) ?_ ?_
 refine Jv (Jy1 (fun k L w' => ∃ κ' v8, L = [(0, .slice a0 p0.length u0), (1, .slice a1 p1.length u1), (2, .slice a2 p2.length u2), (7, vi (p0.length : Int)), (8, vi v8)] ∧ Stp [] K24 w23 κ' w' ∧ 0 ≤ v8 ∧ Int.toNat ((p0.length : Int) - v8) = k ∧ cntM (s_FairIn_b0 p0) k v8 () = some q2) ⟨_, _, ⟨K24, 0, R, (Jx2 _ _).wk R, (by decide), (by simp), hq30⟩, (KM R)⟩ ?_)
 rintro k _ w34 ⟨K35, v8, rfl, S36, hj28, hJ28, h⟩
 rcases k with _ | k
 have hk37 := h; obtain ⟨o28, h⟩ := ex_eq (Sum.inr (Sum.inl ()) : Bool ⊕ ((Unit) ⊕ (Unit)))
 have hc28 : decide (v8 < (p0.length : Int)) = false := Jo2 (by omega)
 refine Jq (Je [2, 2, 2, 2] R (Jn 2 R (Jf R (Je2 U22 R R) (Jb 1 R (Jw2 R hc28 (Jc1 (Jt (Jt ?_))))))))
 cases h
 have h := hk37
 refine Jb1 ?_
 cases h
 exact Jw1 _ ⟨K35, R, S36.wk R, R⟩ (KM R)
 obtain ⟨o28, h, hk37⟩ := BI h; unfold s_FairIn_b0 at h
 have hc28 : decide (v8 < (p0.length : Int)) = true := Jn2 (by omega)
 refine Jq (Je [2, 2, 2, 2] R (Jn 2 R (Jf R (Je2 U22 R R) (Jb 1 R (Jv2 R hc28 (Js (Jp (Jq (Jv (Je [2, 2, 2, 1, 2, 1, 2] R (Jn 2 R (Ob h fun x33 hx33 h => Jf R (Jf2 g0 hx33 U22 Z24 R R R R) ?_))))))))))))
 obtain ⟨ax33, ux33, f39, hl40⟩ := (g0.stp (S12.tr (S25.tr S36)) R R).gSl hx33
 refine Jl tv R R R R (Jc2 I24 R R (hvE hl40)) (Jn 1 R (Ob h fun x36 hx36 h => Jh R R R C29 (s_l1Set_ok (κ := fun b => mp [] 0 (K35 b)) (Jl2 f39 (mp [] 0) R R) hx36) ?_))
 rintro _ w41 ⟨k42, rfl, e43⟩
 obtain ⟨K44, S45, m46⟩ := Ji e43 2 R
 refine ⟨tv, Jb 1 R ?_⟩
 revert h
 cases ht48 : (!x36)
 refine JF fun h => Jy R (Js (Jz (Jp (Ja [2, 2, 2] R (Jc 3 R ?_)))))
 have hw28 : IntKind.wrap .i64 (v8 + 1) = v8 + 1 := wr1 hj28 (Jm2 hc28) hN28
 rw [hw28]
 have hc28 := Jm2 hc28
 cases h
 exact Jz1 fun a ha => ⟨k, _, Ja3 _, ⟨K44, v8 + 1, R, (S36.tr S45).wk R, by omega, by omega, hk37⟩, (ha.mm R)⟩
 refine JT fun h => Jx R (Je [2] R (Jb 1 R (Ju (Ja1 (Jw (Jw ?_))))))
 cases h
 obtain rfl := Option.some.inj hk37
 have h := hK29
 dsimp only [aft] at h
 refine Ja1 (Jq2 (Jw (Ja2 (l := [.tmp 6]) V8 (Jp2 R R) R ?_)))
 cases h
 exact ⟨K44, R, (hE.stp (S12.tr (S25.tr (S36.tr S45))) R R)⟩
 rintro _ w31 ⟨K32, rfl, S33, rfl⟩
 have h := hK29
 dsimp only [aft] at h
 have S001 := (S12.tr (S25.tr S33))
 refine Jp (Je [2, 2, 2, 1, 2] R (Jn 3 R (Ob h fun x41 hx41 h => Jh R R R C30 (s_l33Fair_ok _ (κ := fun b => mp [] 0 (K32 b)) (Jl2 (g0.stp S001 R R) (mp [] 0) R R) (Jl2 (g1.stp S001 R R) (mp [] 0) R R) (Jl2 (g2.stp S001 R R) (mp [] 0) R R) hx41) ?_)))
 rintro _ w53 ⟨k54, rfl, e55⟩
 obtain ⟨K56, S57, m58⟩ := Ji e55 2 R
 refine ⟨tv, Jb 1 R (Ju (Ja2 (l := [.tmp 6]) V8 (Jp2 R R) R ?_))⟩
 cases h
 exact ⟨K56, R, (hE.stp (S12.tr (S25.tr (S33.tr S57))) R R)⟩
 refine JT fun h => Jx R (Je [2] R (Jb 1 R (Ju (Jw (Ja2 (l := [.tmp 6]) V8 (Jp2 R R) R ?_)))))
 cases h
 exact ⟨K24, R, (hE.stp (S12.tr S25) R R)⟩
end Go.Proofs.Ytcmamhmpoinmnaa
