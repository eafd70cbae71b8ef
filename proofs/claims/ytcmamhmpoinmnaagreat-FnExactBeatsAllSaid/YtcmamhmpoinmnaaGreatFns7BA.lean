/- The walks, part 7. By program. -/
import Derived.Test.YtcmamhmpoinmnaaGreatFns3BA
import Derived.Test.YtcmamhmpoinmnaaGreatFns4BA
import Derived.Test.YtcmamhmpoinmnaaGreatFns5BA
import Derived.Test.YtcmamhmpoinmnaaGreatFns6BA
set_option linter.unusedVariables false
set_option linter.unusedSimpArgs false
namespace Go.Proofs.YtcmamhmpoinmnaaGreat
open Go Go.Wk Go.Proofs
set_option maxRecDepth 100000
set_option maxHeartbeats 1000000
theorem s_ClauseOk_ok {w : World} {κ : Col} {p0 : Sig} {ab ac ad aa} {p1 : Clause} (g1_1 : Rd (Rp.int .i64) κ w 0 ab ac p1.A) (g1_2 : Rd (Rp.int .i64) κ w 0 ad aa p1.B) {r : Bool} (h : s_ClauseOk p0 p1 = some r) : Ret Tryz.prog 87 [.agg #[vi p0.In, vi p0.Out], .agg #[vi p1.Kind, .slice ab p1.A.length ac, .slice ad p1.B.length aa]] w (fun v w' => ∃ (κ' : Col), v = .bool r ∧ Ent κ w κ' w') := by
 unfold s_ClauseOk at h
 refine Ret.enter F87 R N87 R ?_
 dsimp only [envOf]
 have hE := Ent.refl κ w
 refine Je [1, 1, 2] R (Jf1 (κ := κ) 2 R R R R R R R fun b2 w1 K2 S3 f4 => ⟨tv, Jf1 (κ := K2) 3 R R R R R R R fun b3 w5 K6 S7 f8 => ⟨tv, Jb 1 R (Jq (Je [1, 1, 2, 2, 2, 1, 1, 2, 2] R ?_))⟩⟩)
 have f9 := f4.stp S7 R R
 refine Jl tv R R R R (Jd2 (cs := [vi p0.In, vi p0.Out]) I31 Z31 R R R (haE f9.cells)) (Ob h fun x7 hx7 h => Jh R R R C84 (s_SigOk_ok (κ := fun b => mp [] 0 (K6 b)) (p0 := p0) hx7) ?_)
 rintro _ w10 ⟨k11, rfl, e12⟩
 obtain ⟨K13, S14, m15⟩ := Ji e12 4 R
 refine ⟨tv, Jn 2 R (Ob h fun p14 h hK17 => Ju1 [(4, 2), (5, 1), (6, 1), (7, 2), (8, 2)] [] (fun L w' => L = [(2, .pointer (some ⟨b2, 0, none⟩)), (3, .pointer (some ⟨b3, 0, none⟩)), (14, .bool p14)] ∧ ∃ κ', Stp [] K13 w10 κ' w') tv ?_ ?_)⟩
 revert h
 cases ht18 : (!x7)
 refine JF fun h => Jf R (Jb2 U71 R Z2 R R) (Jl tv R R R R (Jc2 I2 R R (hvE ((f8.stp S14 R R).ld 0 R R))) (Ob h fun x12 hx12 h => Jh R R R C77 (s_l1In_ok (κ := fun b => mp [] 0 (K13 b)) hx12) ?_))
 rintro _ w20 ⟨k21, rfl, e22⟩
 obtain ⟨K23, S24, m25⟩ := Ji e22 6 R
 refine ⟨tv, Jn 2 R ?_⟩
 cases h
 exact Jv1 _ tv ⟨R, _, S24.wk R⟩ (KM R)
 refine JT fun h => Jn 1 R (Jd1 R R R R (Jd1 R R R R (Jn 2 R ?_)))
 cases h
 exact Jv1 _ tv ⟨R, _, (Jx2 _ _).wk R⟩ (KM R)
 rintro _ w27 _ ⟨rfl, K28, S29⟩
 have h := hK17
 refine Jd ?_
 revert h
 cases ht30 : p14
 refine JF fun h => Jy R (Js (Jp (Je [1, 1, 2] R (Jl tv R R R R (Jd2 (cs := [vi p0.In, vi p0.Out]) I31 Z31 R R R (haE (f9.stp (S14.tr S29) R R).cells)) (Ob h fun x16 hx16 h => Jh R R R C86 (s_LettersOf_ok (κ := fun b => mp [] 0 (K28 b)) (p0 := p0) hx16) ?_)))))
 rintro _ w33 ⟨k34, rfl, e35⟩
 obtain ⟨K36, S37, m38⟩ := Ji e35 6 R
 refine ⟨tv, Jb 1 R (Je [2, 1, 2, 1, 2, 2, 1, 2, 1, 2, 2, 2, 1, 1, 2, 2, 1, 2, 2, 2, 2, 2] R (Jf R (Jb2 U71 R Z40 R R) ?_))⟩
 have f40 := f8.stp (S14.tr (S29.tr S37)) R R
 refine Jl tv R R R R (Jc2 I40 R R (hvE (f40.ld 1 R R))) (Jn 1 R (Ob h fun x20 hx20 h => Jh R R R C132 (s_l1Set_ok (κ := fun b => mp [] 0 (K36 b)) (Jl2 (g1_1.stp (S3.tr (S7.tr (S14.tr (S29.tr S37)))) R R) (mp [] 0) R R) hx20) ?_))
 rintro _ w42 ⟨k43, rfl, e44⟩
 obtain ⟨K45, S46, m47⟩ := Ji e44 8 R
 refine ⟨tv, Jn 1 R (Ob h fun p26 h hK49 => Ju1 [(5, 2), (6, 1), (7, 2), (8, 1), (9, 2)] [(10, 2), (11, 2), (12, 1), (13, 1), (14, 2), (15, 2), (16, 1), (17, 2), (18, 2), (19, 2), (20, 2), (21, 2)] (fun L w' => L = [(3, .pointer (some ⟨b3, 0, none⟩)), (26, .bool p26)] ∧ ∃ κ', Stp [] K45 w42 κ' w') tv ?_ ?_)⟩
 revert h
 cases ht50 : x20
 refine JF fun h => Jn 1 R (Jd1 R R R R (Jn 1 R (Jd1 R R R R (Jn 1 R ?_))))
 cases h
 exact Jv1 _ tv ⟨R, _, (Jx2 _ _).wk R⟩ (KM R)
 refine JT fun h => Jf R (Jb2 U71 R Z40 R R) (Jl tv R R R R (Jc2 I40 R R (hvE ((f40.stp S46 R R).ld 2 R R))) (Jn 1 R (Ob h fun x25 hx25 h => Jh R R R C132 (s_l1Set_ok (κ := fun b => mp [] 0 (K45 b)) (Jl2 (g1_2.stp (S3.tr (S7.tr (S14.tr (S29.tr (S37.tr S46))))) R R) (mp [] 0) R R) hx25) ?_)))
 rintro _ w53 ⟨k54, rfl, e55⟩
 obtain ⟨K56, S57, m58⟩ := Ji e55 10 R
 refine ⟨tv, Jn 1 R ?_⟩
 cases h
 exact Jv1 _ tv ⟨R, _, S57.wk R⟩ (KM R)
 rintro _ w60 _ ⟨rfl, K61, S62⟩
 have h := hK49
 refine Jn 1 R (Ob h fun p37 h hK63 => Ju1 [(11, 2), (12, 1), (13, 1), (14, 2), (15, 2), (16, 1), (17, 2), (18, 2), (19, 2), (20, 2)] [(21, 2)] (fun L w' => L = [(37, .bool p37)] ∧ ∃ κ', Stp [] K61 w60 κ' w') tv ?_ ?_)
 revert h
 cases ht64 : p26
 refine JF fun h => Jn 1 R (Jd1 R R R R (Jd1 R R R R (Jn 2 R (Jd1 R R R R (Jn 4 R ?_)))))
 cases h
 exact Jv1 _ tv ⟨R, _, (Jx2 _ _).wk R⟩ (KM R)
 refine JT fun h => Jf R (Jb2 U71 R Z2 R R) ?_
 have f65 := f40.stp (S46.tr S62) R R
 refine Jl tv R R R R (Jc2 I2 R R (hvE (f65.ld 0 R R))) (Ob h fun x30 hx30 h => Jh R R R C133 (s_l24Both_ok (κ := fun b => mp [] 0 (K61 b)) hx30) ?_)
 rintro _ w66 ⟨k67, rfl, e68⟩
 obtain ⟨K69, S70, m71⟩ := Ji e68 10 R
 refine ⟨tv, Jn 1 R (Ob h fun p36 h hK73 => Ju1 [(15, 2), (16, 1), (17, 2), (18, 2), (19, 2)] [(20, 2)] (fun L w' => L = [(27, .bool true), (36, .bool p36)] ∧ ∃ κ', Stp [] K69 w66 κ' w') tv ?_ ?_)⟩
 revert h
 cases ht74 : x30
 refine JF fun h => Jf R (Jb2 U71 R Z40 R R) (Jl tv R R R R (Jc2 I40 R R (hvE ((f65.stp S70 R R).ld 2 R R))) (Jf R (Je2 U40 R R) (Jn 2 R ?_)))
 cases h
 exact Jv1 _ tv ⟨R, _, (Jx2 _ _).wk R⟩ (KM R)
 refine JT fun h => Jn 1 R (Jd1 R R R R (Jn 3 R ?_))
 cases h
 exact Jv1 _ tv ⟨R, _, (Jx2 _ _).wk R⟩ (KM R)
 rintro _ w76 _ ⟨rfl, K77, S78⟩
 have h := hK73
 refine Jn 1 R ?_
 cases h
 exact Jv1 _ tv ⟨R, _, (S70.tr S78).wk R⟩ (KM R)
 rintro _ w79 _ ⟨rfl, K80, S81⟩
 have h := hK63
 refine Jb 1 R (Ju (Ja2 (l := [.tmp 4]) V87 (Jp2 R R) R ?_))
 cases h
 exact ⟨K80, R, (hE.stp (S3.tr (S7.tr (S14.tr (S29.tr (S37.tr (S46.tr (S62.tr S81))))))) R R)⟩
 refine JT fun h => Jx R (Je [2] R (Jb 1 R (Ju (Jw (Ja2 (l := [.tmp 4]) V87 (Jp2 R R) R ?_)))))
 cases h
 exact ⟨K28, R, (hE.stp (S3.tr (S7.tr (S14.tr S29))) R R)⟩
theorem s_ClausesOk_ok {w : World} {κ : Col} {p0 : Sig} {a1 u1} {p1 : (List Clause)} (g1 : Rd Clause.rp κ w 0 a1 u1 p1) {r : Bool} (h : s_ClausesOk p0 p1 = some r) : Ret Tryz.prog 76 [.agg #[vi p0.In, vi p0.Out], .slice a1 p1.length u1] w (fun v w' => ∃ (κ' : Col), v = .bool r ∧ Ent κ w κ' w') := by
 unfold s_ClausesOk at h
 refine Ret.enter F76 R N76 R ?_
 dsimp only [envOf]
 have hE := Ent.refl κ w
 refine Je [1, 2] R (Jf1 (κ := κ) 2 R R R R R R R fun b2 w1 K2 S3 f4 => ⟨tv, Jb 1 R (Jq (Je [1, 1, 2, 2, 2, 2, 2, 2] R (Jl tv R R R R (Jd2 (cs := [vi p0.In, vi p0.Out]) I31 Z31 R R R (haE f4.cells)) (Ob h fun x7 hx7 h => Jh R R R C84 (s_SigOk_ok (κ := fun b => mp [] 0 (K2 b)) (p0 := p0) hx7) ?_))))⟩)
 rintro _ w5 ⟨k6, rfl, e7⟩
 obtain ⟨K8, S9, m10⟩ := Ji e7 3 R
 refine ⟨tv, Jn 2 R (Ob h fun p13 h hK12 => Ju1 [(4, 2), (5, 2), (6, 2), (7, 2)] [] (fun L w' => L = [(1, .slice a1 p1.length u1), (2, .pointer (some ⟨b2, 0, none⟩)), (13, .bool p13)] ∧ ∃ κ', Stp [] K8 w5 κ' w') tv ?_ ?_)⟩
 revert h
 cases ht13 : (!x7)
 refine JF fun h => Jn 1 R (Jf R (Je2 U35 R R) (Jn 2 R ?_))
 cases h
 exact Jv1 _ tv ⟨R, _, (Jx2 _ _).wk R⟩ (KM R)
 refine JT fun h => Jn 4 R ?_
 cases h
 exact Jv1 _ tv ⟨R, _, (Jx2 _ _).wk R⟩ (KM R)
 rintro _ w14 _ ⟨rfl, K15, S16⟩
 have h := hK12
 refine Jd ?_
 revert h
 cases ht17 : p13
 refine JF fun h => Jy R (Js (Jp (Jq (Je [2] R (Jb 1 R ?_)))))
 have hN19 : (p1.length : Int) ≤ 9223372036854775807 := g1.len_le
 refine Ob h fun q2 hq21 hK20 => ?_
 clear h
 refine Jx1 (fun L w' => ∃ κ', L = [] ∧ Stp [] K15 w14 κ' w' ∧ q2 = Sum.inr ()) ?_ ?_
 refine Jv (Jy1 (fun k L w' => ∃ κ' v5, L = [(1, .slice a1 p1.length u1), (2, .pointer (some ⟨b2, 0, none⟩)), (5, vi v5)] ∧ Stp [] K15 w14 κ' w' ∧ 0 ≤ v5 ∧ Int.toNat ((p1.length : Int) - v5) = k ∧ cntM (s_ClausesOk_b0 p0 p1) k v5 () = some q2) ⟨_, _, ⟨K15, 0, R, (Jx2 _ _).wk R, (by decide), (by simp), hq21⟩, (KM R)⟩ ?_)
 rintro k _ w25 ⟨K26, v5, rfl, S27, hj19, hJ19, h⟩
 rcases k with _ | k
 have hk28 := h; obtain ⟨o19, h⟩ := ex_eq (Sum.inr (Sum.inl ()) : Bool ⊕ ((Unit) ⊕ (Unit)))
 have hc19 : decide (v5 < (p1.length : Int)) = false := Jo2 (by omega)
 refine Jq (Je [2, 2, 2, 2] R (Jn 2 R (Jf R (Je2 U35 R R) (Jb 1 R (Jw2 R hc19 (Jc1 (Jt (Jt ?_))))))))
 cases h
 have h := hk28
 refine Jb1 ?_
 cases h
 exact Jw1 _ ⟨K26, R, S27.wk R, R⟩ KN
 obtain ⟨o19, h, hk28⟩ := BI h; unfold s_ClausesOk_b0 at h
 have hc19 : decide (v5 < (p1.length : Int)) = true := Jn2 (by omega)
 refine Jq (Je [2, 2, 2, 2] R (Jn 2 R (Jf R (Je2 U35 R R) (Jb 1 R (Jv2 R hc19 (Js (Jp (Jq (Jv (Jq (Js1 (κ := K26) [0, 2] none [(1, 2), (2, 2), (3, 2), (0, 0), (4, 0), (5, 1), (6, 2)] [] (by kernel_rfl) (by kernel_rfl) fun w30 S29 => Jn 2 R (Ob h fun x23 hx23 h => Jf R (Jf2 g1 hx23 U35 Z71 R R R R) (Jg R (Jd2 (cs := [vi p0.In, vi p0.Out]) I31 Z31 R R R (haC (f4.stp (S9.tr (S16.tr (S27.tr S29))) R R).cells R)) ?_)))))))))))))
 obtain ⟨cse33, hre33, hle33⟩ := ((g1.stp (S3.tr (S9.tr (S16.tr (S27.tr S29)))) R R)).gSt hx23
 obtain ⟨ae33_0, ue33_0, ae33_1, ue33_1, rfl, fe33_0, fe33_1⟩ := Clause.un hre33
 refine Jg R (Jd2 (cs := [vi x23.Kind, .slice ae33_0 x23.A.length ue33_0, .slice ae33_1 x23.B.length ue33_1]) I71 Z71 R R R (haC hle33 R)) (Ob h fun x25 hx25 h => Jh R R R C87 (s_ClauseOk_ok (κ := fun b => mp [] 0 (K26 b)) (p0 := p0) (p1 := x23) (Jl2 fe33_0 (mp [] 0) R R) (Jl2 fe33_1 (mp [] 0) R R) hx25) ?_)
 rintro _ w34 ⟨k35, rfl, e36⟩
 obtain ⟨K37, S38, m39⟩ := Ji e36 5 R
 refine ⟨(S38.cl R), Jn 1 R (Jt1 (Jd ?_))⟩
 revert h
 cases ht41 : (!x25)
 refine JF fun h => Jy R (Js (Jz (Jp (Ja [2, 2, 2] R (Jc 3 R ?_)))))
 have hw19 : IntKind.wrap .i64 (v5 + 1) = v5 + 1 := wr1 hj19 (Jm2 hc19) hN19
 rw [hw19]
 have hc19 := Jm2 hc19
 cases h
 exact Jz1 fun a ha => ⟨k, _, Ja3 _, ⟨K37, v5 + 1, R, (S27.tr (S29.tr S38)).wk R, by omega, by omega, hk28⟩, (ha.mm R)⟩
 refine JT fun h => Jx R (Je [2] R (Jb 1 R (Ju (Ja1 (Jw (Jw ?_))))))
 cases h
 obtain rfl := Option.some.inj hk28
 have h := hK20
 dsimp only [aft] at h
 refine Ja1 (Jq2 (Jw (Ja2 (l := [.tmp 4]) V76 (Jp2 R R) R ?_)))
 cases h
 exact ⟨K37, R, (hE.stp (S3.tr (S9.tr (S16.tr (S27.tr (S29.tr S38))))) R R)⟩
 rintro _ w22 ⟨K23, rfl, S24, rfl⟩
 have h := hK20
 dsimp only [aft] at h
 refine Jp (Je [2] R (Jb 1 R (Ju (Ja2 (l := [.tmp 4]) V76 (Jp2 R R) R ?_))))
 cases h
 exact ⟨K23, R, (hE.stp (S3.tr (S9.tr (S16.tr S24))) R R)⟩
 refine JT fun h => Jx R (Je [2] R (Jb 1 R (Ju (Jw (Ja2 (l := [.tmp 4]) V76 (Jp2 R R) R ?_)))))
 cases h
 exact ⟨K15, R, (hE.stp (S3.tr (S9.tr S16)) R R)⟩
theorem s_MonitorOf_ok {w : World} {κ : Col} {p0 : Sig} {al ao ai ah} {p1 : Clause} (g1_1 : Rd (Rp.int .i64) κ w 0 al ao p1.A) (g1_2 : Rd (Rp.int .i64) κ w 0 ai ah p1.B) {r : Det} (h : s_MonitorOf p0 p1 = some r) : Ret Tryz.prog 111 [.agg #[vi p0.In, vi p0.Out], .agg #[vi p1.Kind, .slice al p1.A.length ao, .slice ai p1.B.length ah]] w (fun v w' => ∃ (κ' : Col) (ra0 : Option Addr) (ru0 : Nat) (ra1 : Option Addr) (ru1 : Nat), v = .agg #[.slice ra0 r.Next.length ru0, .slice ra1 r.Pairs.length ru1] ∧ Ent κ w κ' w' ∧ Oc (Ep.own E6 2) 40 κ' w' 2 ra0 ru0 r.Next ∧ Oc Pair.ep92 92 κ' w' 3 ra1 ru1 r.Pairs) := by
 unfold s_MonitorOf at h
 refine Ret.enter F111 R N111 R ?_
 dsimp only [envOf]
 have hE := Ent.refl κ w
 refine Je [1, 1, 1] R (Jf1 (κ := κ) 2 R R R R R R R fun b2 w1 K2 S3 f4 => ⟨tv, Jf1 (κ := K2) 3 R R R R R R R fun b3 w5 K6 S7 f8 => ⟨tv, Jg1 (κ := K6) 4 R R R R R X94 R fun b4 w9 K10 S11 f12 => ⟨tv, Jd (Jq (Je [1, 1, 1, 2] R ?_))⟩⟩⟩)
 have f13 := f4.stp (S7.tr S11) R R
 refine Jl tv R R R R (Jd2 (cs := [vi p0.In, vi p0.Out]) I31 Z31 R R R (haE f13.cells)) ?_
 have f14 := f8.stp S11 R R
 refine Jl tv R R R R (Jd2 (cs := [vi p1.Kind, .slice al p1.A.length ao, .slice ai p1.B.length ah]) I71 Z71 R R R (haE f14.cells)) (Ob h fun x11 hx11 h => ?_)
 have f15 := g1_1.stp (S3.tr (S7.tr S11)) R R
 have f16 := g1_2.stp (S3.tr (S7.tr S11)) R R
 refine Jh R R R C87 (s_ClauseOk_ok (κ := fun b => mp [] 0 (K10 b)) (p0 := p0) (p1 := p1) (Jl2 f15 (mp [] 0) R R) (Jl2 f16 (mp [] 0) R R) hx11) ?_
 rintro _ w17 ⟨k18, rfl, e19⟩
 obtain ⟨K20, S21, m22⟩ := Ji e19 5 R
 refine ⟨tv, Jb 1 R ?_⟩
 revert h
 cases ht24 : (!x11)
 refine JF fun h => Jy R (Js (Jp (Je [2, 1, 1, 1, 2, 1, 1] R (Jf R (Jb2 U71 R Z2 R R) ?_))))
 have f30 := f14.stp S21 R R
 refine Jl tv R R R R (Jc2 I2 R R (hvE (f30.ld 0 R R))) (Ob h fun x16 hx16 h => Jh R R R C140 (s_l25Pair_ok (κ := fun b => mp [] 0 (K20 b)) hx16) ?_)
 rintro _ w31 ⟨k32, av, aq, au, aw, rfl, e33, f34, f35⟩
 obtain ⟨K36, S37, m38⟩ := Ji e33 7 R
 refine ⟨tv, Jn1 (κ := K36) (E := Pair.ep92) 11 [9, 10] (parts := [(0, .tmp 16)]) (cells := [.slice av x16.Ask.length aq, .slice au x16.Give.length aw]) (xs := ([x16] : List Pair)) R R R R R R Y79 Tryzinfo92 R R R R R R R R R R ⟨[.slice av x16.Ask.length aq, .slice au x16.Give.length aw], [], Zl K36 w31 [9, 10], Zl K36 w31 [], R, Zl.sp (l1 := [9, 10]) (l2 := []) R, Zl.sr (l1 := [9, 10]) (l2 := []), ⟨[.slice av x16.Ask.length aq], [.slice au x16.Give.length aw], Zl K36 w31 [9], Zl K36 w31 [10], R, Zl.sp (l1 := [9]) (l2 := [10]) R, Zl.sr (l1 := [9]) (l2 := [10]), ⟨_, _, R, (f34.mx (no_int _) m38 R (R : 7 + 2 = 9))⟩, ⟨_, _, R, (f35.mx (no_int _) m38 R (R : 7 + 3 = 10))⟩⟩, R⟩ fun ab aa w42 K43 S44 f45 => ⟨tv, Jf R (rn_build (parts := [(1, .tmp 17)]) (cells := [.slice none 0 0, .slice ab ([x16] : List Pair).length aa]) R R (by kernel_rfl)) (Jg1 (κ := K43) 12 R R R R R X94 R fun b5 w46 K47 S48 f49 => ⟨tv, Jj1 (κ := K47) 12 (vc := [.slice none 0 0, .slice ab ([x16] : List Pair).length aa]) R R R R R R R Z94 R R f49 R fun w50 S51 f52 => ⟨tv, Jd (Jq (Je [2] R (Jb 1 R (Ob h fun q2 hq55 hK54 => ?_))))⟩⟩)⟩⟩
 clear h
 refine Jx1 (fun L w' => ∃ κ', ∃ s3 : Int × (List (List Int)), ∃ ad ac, L = [(4, .pointer (some ⟨b4, 0, none⟩)), (5, .pointer (some ⟨b5, 0, none⟩))] ∧ Stp [12, 13, 16, 17] K47 w50 κ' w' ∧ Oc (Ep.own E6 2) 40 κ' w' 13 ad ac s3.2 ∧ Bc κ' w' 12 b5 94 [.slice ad s3.2.length ac, .slice ab ([x16] : List Pair).length aa] ∧ q2 = Sum.inr s3) ?_ ?_
 refine Jv (Jy1 (fun k L w' => ∃ κ', ∃ s1 : Int × (List (List Int)), ∃ an ak, L = [(2, .pointer (some ⟨b2, 0, none⟩)), (3, .pointer (some ⟨b3, 0, none⟩)), (4, .pointer (some ⟨b4, 0, none⟩)), (5, .pointer (some ⟨b5, 0, none⟩)), (6, vi s1.1)] ∧ Stp [12, 13, 16, 17] K47 w50 κ' w' ∧ Oc (Ep.own E6 2) 40 κ' w' 13 an ak s1.2 ∧ Bc κ' w' 12 b5 94 [.slice an s1.2.length ak, .slice ab ([x16] : List Pair).length aa] ∧ whileM (s_MonitorOf_b0 p0 p1) k s1 = some q2) ⟨_, _, ⟨K47, ((0 : Int), (([] : List (List Int)) : (List (List Int)))), none, 0, R, (Jx2 _ _).wk R, Ow.nil, f52, hq55⟩, (KM R)⟩ ?_)
 rintro k _ w61 ⟨K62, s1, an, ak, rfl, S63, f64, f65, h⟩
 rcases k with _ | k
 cases h
 obtain ⟨o53, h, hk66⟩ := BI h; unfold s_MonitorOf_b0 at h
 refine Jq (Je [2, 2, 1, 1, 2] R (Jn 1 R (Jf R (Jb2 U71 R Z2 R R) ?_)))
 have f67 := f30.stp (S37.tr (S44.tr (S48.tr (S51.tr S63)))) R R
 refine Jl tv R R R R (Jc2 I2 R R (hvE (f67.ld 0 R R))) (Ob h fun x22 hx22 h => Jh R R R C141 (s_l25States_ok (κ := fun b => mp [] 0 (K62 b)) hx22) ?_)
 rintro _ w68 ⟨k69, rfl, e70⟩
 obtain ⟨K71, S72, m73⟩ := Ji e70 14 R
 refine ⟨tv, Jb 1 R ?_⟩
 revert h
 cases ht75 : decide (s1.1 < x22)
 refine JF fun h => Jy R (Jc1 (Jt (Jt ?_)))
 cases h
 have h := hk66
 refine Jb1 ?_
 cases h
 exact Jw1 _ ⟨K71, ((s1.1 : Int), (s1.2 : (List (List Int)))), an, ak, R, (S63.tr S72).wk R, (f64.stp S72 R R), (f65.stp S72 R R), R⟩ (KM R)
 refine JT fun h => Jx R (Js (Jp (Jq (Jv (Je [1, 2] R (Jo1 (κ := K71) (E := E6) 16 R R R R R Y40 Tryzinfo2 R fun ax ay w76 K77 S78 f79 => ⟨tv, Jb 1 R (Jq (Je [2] R (Jb 1 R (Ob h fun q5 hq82 hK81 => ?_))))⟩))))))
 clear h
 refine Jx1 (fun L w' => ∃ κ', ∃ s6 : (List Int) × Int, ∃ af ae, L = [(2, .pointer (some ⟨b2, 0, none⟩)), (3, .pointer (some ⟨b3, 0, none⟩)), (4, .pointer (some ⟨b4, 0, none⟩)), (5, .pointer (some ⟨b5, 0, none⟩)), (6, vi s1.1), (7, .slice af s6.1.length ae)] ∧ Stp [16] K77 w76 κ' w' ∧ Oc E6 2 κ' w' 16 af ae s6.1 ∧ q5 = Sum.inr s6) ?_ ?_
 refine Jv (Jy1 (fun k L w' => ∃ κ', ∃ s4 : (List Int) × Int, ∃ aj am, L = [(2, .pointer (some ⟨b2, 0, none⟩)), (3, .pointer (some ⟨b3, 0, none⟩)), (4, .pointer (some ⟨b4, 0, none⟩)), (5, .pointer (some ⟨b5, 0, none⟩)), (6, vi s1.1), (7, .slice aj s4.1.length am), (8, vi s4.2)] ∧ Stp [16] K77 w76 κ' w' ∧ Oc E6 2 κ' w' 16 aj am s4.1 ∧ whileM (s_MonitorOf_b2 p0 p1 s1) k s4 = some q5) ⟨_, _, ⟨K77, ((([] : List Int) : (List Int)), (0 : Int)), ax, ay, R, (Jx2 _ _).wk R, f79, hq82⟩, (KM R)⟩ ?_)
 rintro k _ w87 ⟨K88, s4, aj, am, rfl, S89, f90, h⟩
 rcases k with _ | k
 cases h
 obtain ⟨o80, h, hk91⟩ := BI h; unfold s_MonitorOf_b2 at h
 refine Jq (Je [2, 1, 1, 2] R (Jn 1 R (Jl tv R R R R (Jd2 (cs := [vi p0.In, vi p0.Out]) I31 Z31 R R R (haE (f13.stp (S21.tr (S37.tr (S44.tr (S48.tr (S51.tr (S63.tr (S72.tr (S78.tr S89)))))))) R R).cells)) (Ob h fun x29 hx29 h => Jh R R R C86 (s_LettersOf_ok (κ := fun b => mp [] 0 (K88 b)) (p0 := p0) hx29) ?_))))
 rintro _ w93 ⟨k94, rfl, e95⟩
 obtain ⟨K96, S97, m98⟩ := Ji e95 17 R
 refine ⟨tv, Jb 1 R ?_⟩
 revert h
 cases ht100 : decide (s4.2 < x29)
 refine JF fun h => Jy R (Jc1 (Jt (Jt ?_)))
 cases h
 have h := hk91
 refine Jb1 ?_
 cases h
 exact Jw1 _ ⟨K96, ((s4.1 : (List Int)), (s4.2 : Int)), aj, am, R, (S89.tr S97).wk R, (f90.stp S97 R R), R⟩ (KM R)
 have S001 := (S21.tr (S37.tr (S44.tr (S48.tr (S51.tr (S63.tr (S72.tr (S78.tr (S89.tr S97)))))))))
 refine JT fun h => Jx R (Js (Jp (Jq (Jv (Ja [2, 1, 2, 2, 1, 1, 1, 2] R (Jn 1 R (Jl tv R R R R (Jd2 (cs := [vi p1.Kind, .slice al p1.A.length ao, .slice ai p1.B.length ah]) I71 Z71 R R R (haE (f67.stp (S72.tr (S78.tr (S89.tr S97))) R R).cells)) (Jn 2 R (Ob h fun x37 hx37 h => Jh R R R C142 (s_l25Next_ok (κ := fun b => mp [] 0 (K96 b)) (p0 := p1) (Jl2 (f15.stp S001 R R) (mp [] 0) R R) (Jl2 (f16.stp S001 R R) (mp [] 0) R R) hx37) ?_)))))))))
 rintro _ w104 ⟨k105, rfl, e106⟩
 obtain ⟨K107, S108, m109⟩ := Ji e106 19 R
 refine ⟨tv, Jn1 (κ := K107) (E := E6) 21 [] (parts := [(0, .tmp 37)]) (cells := [vi x37]) (xs := ([x37] : List Int)) R R R R R R Y40 Tryzinfo2 R R R R R R R R R R ⟨[vi x37], [], Zl K107 w104 [], Zl K107 w104 [], R, Zl.sp (l1 := []) (l2 := []) R, Zl.sr (l1 := []) (l2 := []), R, R⟩ fun aE aD w111 K112 S113 f114 => ⟨tv, Ob h fun x39 hx39 h => Jm1 (κ := K112) (E := E6) 16 [] R R R R R R R R R Y40 Tryzinfo2 R R R R (f90.stp (S97.tr (S108.tr S113)) R R) (Sl.srcP (pu_int _) f114.rdc) sy_false hx39 R fun aA az w116 K117 S118 f119 => ⟨tv, Jc 1 R (Jz (Jp (Ja [2, 2, 2] R (Jc 3 R ?_))))⟩⟩⟩
 cases h
 exact Jz1 fun a ha => ⟨k, _, Ja3 _, ⟨K117, ((x39 : (List Int)), ((IntKind.i64.wrap (s4.2 + 1)) : Int)), aA, az, R, (S89.tr (S97.tr (S108.tr (S113.tr S118)))).wk R, f119, hk91⟩, (ha.mm R)⟩
 rintro _ w83 ⟨K84, s6, af, ae, rfl, S85, f86, rfl⟩
 have h := hK81
 dsimp only [aft] at h
 refine Jp (Ja [2, 1, 2, 1, 1, 2, 1] R (Jf R (Jb2 U94 R Z24 R R) ?_))
 have f121 := f65.stp (S72.tr (S78.tr S85)) R R
 refine Jl tv R R R R (Jc2 I24 R R (hvE (f121.ld 0 R R))) (Jn 1 R (Jn1 (κ := K84) (E := (Ep.own E6 2)) 17 [16] (parts := [(0, .tmp 42)]) (cells := [.slice af s6.1.length ae]) (xs := ([s6.1] : List (List Int))) R R R R R R Y24 Tryzinfo40 R R R R R R R R R R ⟨[.slice af s6.1.length ae], [], Zl K84 w83 [16], Zl K84 w83 [], R, Zl.sp (l1 := [16]) (l2 := []) R, Zl.sr (l1 := [16]) (l2 := []), ⟨_, _, R, f86⟩, R⟩ fun aC aB w122 K123 S124 f125 => ⟨tv, Ob h fun x44 hx44 h => Jm1 (κ := K123) (E := (Ep.own E6 2)) 13 [17] R R R R R R R R R Y24 Tryzinfo40 R R R R (f64.stp (S72.tr (S78.tr (S85.tr S124))) R R) f125.src (sy_one R) hx44 R fun ap ar w127 K128 S129 f130 => ⟨tv, Jf R (Jb2 U94 R Z24 R R) (Ji1 (κ := K128) 12 (off := 0) (vc := [.slice ap x44.length ar]) (cs' := [.slice ap x44.length ar, .slice ab ([x16] : List Pair).length aa]) R R R R R R R Z24 R R (f121.stp (S124.tr S129) R R) R R fun w132 S133 f134 => ⟨tv, Jo (Jz (Jp (Ja [2, 2, 2] R (Jc 3 R ?_))))⟩)⟩⟩))
 cases h
 exact Jz1 fun a ha => ⟨k, _, Ja3 _, ⟨K128, (((IntKind.i64.wrap (s1.1 + 1)) : Int), (x44 : (List (List Int)))), ap, ar, R, (S63.tr (S72.tr (S78.tr (S85.tr (S124.tr (S129.tr S133)))))).wk R, (f130.stp S133 R R), f134, hk66⟩, (ha.mm R)⟩
 rintro _ w56 ⟨K57, s3, ad, ac, rfl, S58, f59, f60, rfl⟩
 have h := hK54
 dsimp only [aft] at h
 refine Jp (Je [1, 1] R (Jl tv R R R R (Jd2 (cs := [.slice ad s3.2.length ac, .slice ab ([x16] : List Pair).length aa]) I94 Z94 R R R (haE f60.cells)) (Jj1 (κ := K57) 4 (vc := [.slice ad s3.2.length ac, .slice ab ([x16] : List Pair).length aa]) R R R R R R R Z94 R R (f12.stp (S21.tr (S37.tr (S44.tr (S48.tr (S51.tr S58))))) R R) R fun w139 S140 f141 => ⟨tv, Jd (Ju (Ja2 (l := [.cell 4 94]) V111 (res_cellA R f141 I94 Z94 R R) R ?_))⟩)))
 cases h
 exact ⟨(fun b => ren [(13, 2), (11, 3)] (K57 b)), ad, ac, ab, aa, R, ((hE.stp (S3.tr (S7.tr (S11.tr (S21.tr (S37.tr (S44.tr (S48.tr (S51.tr (S58.tr S140))))))))) R R).map (ren [(13, 2), (11, 3)]) R R), ((f59.stp S140 R R).map (ren [(13, 2), (11, 3)]) R R), ((f45.stp (S48.tr (S51.tr (S58.tr S140))) R R).map (ren [(13, 2), (11, 3)]) R R)⟩
 refine JT fun h => Jx R (Je [2, 1] R (Jf R (rn_build (parts := []) (cells := [.slice none 0 0, .slice none 0 0]) R R (by kernel_rfl)) (Jj1 (κ := K20) 4 (vc := [.slice none 0 0, .slice none 0 0]) R R R R R R R Z94 R R (f12.stp S21 R R) R fun w26 S27 f28 => ⟨tv, Jd (Ju (Jw (Ja2 (l := [.cell 4 94]) V111 (res_cellA R f28 I94 Z94 R R) R ?_)))⟩)))
 cases h
 exact ⟨K20, none, 0, none, 0, R, (hE.stp (S3.tr (S7.tr (S11.tr (S21.tr S27)))) R R), Ow.nil, Ow.nil⟩
theorem s_SetOk_ok {w : World} {κ : Col} {a0 u0} {p0 : (List Int)} {p1 : Int} (g0 : Rd (Rp.int .i64) κ w 0 a0 u0 p0) {r : Bool} (h : s_SetOk p0 p1 = some r) : Ret Tryz.prog 168 [.slice a0 p0.length u0, vi p1] w (fun v w' => ∃ (κ' : Col), v = .bool r ∧ Ent κ w κ' w') := by
 unfold s_SetOk at h
 refine Ret.enter F168 R N168 R ?_
 dsimp only [envOf]
 have hE := Ent.refl κ w
 refine Je [2] R (Jb 1 R (Je [2, 1, 2, 2, 2, 1, 2, 2] R (Jn 1 R (Ob h fun x6 hx6 h => Jh R R R C77 (s_l1In_ok (κ := fun b => mp [] 0 (κ b)) hx6) ?_))))
 rintro _ w1 ⟨k2, rfl, e3⟩
 obtain ⟨K4, S5, m6⟩ := Ji e3 2 R
 refine ⟨tv, Jn 1 R (Ob h fun p11 h hK8 => Ju1 [(3, 2), (4, 2), (5, 1), (6, 2)] [(7, 2)] (fun L w' => L = [(4, .bool false), (11, .bool p11)] ∧ ∃ κ', Stp [] K4 w1 κ' w') tv ?_ ?_)⟩
 revert h
 cases ht9 : x6
 refine JF fun h => Jn 2 R (Jd1 R R R R (Jn 1 R ?_))
 cases h
 exact Jv1 _ tv ⟨R, _, (Jx2 _ _).wk R⟩ (KM R)
 refine JT fun h => Jn 2 R (Ob h fun x10 hx10 h => Jh R R R C132 (s_l1Set_ok (κ := fun b => mp [] 0 (K4 b)) (Jl2 (g0.stp S5 R R) (mp [] 0) R R) hx10) ?_)
 rintro _ w11 ⟨k12, rfl, e13⟩
 obtain ⟨K14, S15, m16⟩ := Ji e13 4 R
 refine ⟨tv, Jn 1 R ?_⟩
 cases h
 exact Jv1 _ tv ⟨R, _, S15.wk R⟩ (KM R)
 rintro _ w18 _ ⟨rfl, K19, S20⟩
 have h := hK8
 refine Jb 1 R (Ju (Ja2 (l := [.tmp 4]) V168 (Jp2 R R) R ?_))
 cases h
 exact ⟨K19, R, (hE.stp (S5.tr S20) R R)⟩
theorem s_PairsOk_ok {w : World} {κ : Col} {a0 u0} {p0 : (List Pair)} {p1 : Int} (g0 : Rd Pair.rp κ w 0 a0 u0 p0) {r : Bool} (h : s_PairsOk p0 p1 = some r) : Ret Tryz.prog 163 [.slice a0 p0.length u0, vi p1] w (fun v w' => ∃ (κ' : Col), v = .bool r ∧ Ent κ w κ' w') := by
 unfold s_PairsOk at h
 refine Ret.enter F163 R N163 R ?_
 dsimp only [envOf]
 have hE := Ent.refl κ w
 refine Je [2] R (Jb 1 R (Jq (Je [2, 1, 2, 2, 2, 2, 2, 2] R (Jn 1 R (Ob h fun x7 hx7 h => Jh R R R C77 (s_l1In_ok (κ := fun b => mp [] 0 (κ b)) hx7) ?_)))))
 rintro _ w1 ⟨k2, rfl, e3⟩
 obtain ⟨K4, S5, m6⟩ := Ji e3 2 R
 refine ⟨tv, Jn 2 R (Ob h fun p13 h hK8 => Ju1 [(4, 2), (5, 2), (6, 2), (7, 2)] [] (fun L w' => L = [(0, .slice a0 p0.length u0), (1, vi p1), (13, .bool p13)] ∧ ∃ κ', Stp [] K4 w1 κ' w') tv ?_ ?_)⟩
 revert h
 cases ht9 : (!x7)
 refine JF fun h => Jn 1 R (Jf R (Je2 U79 R R) (Jn 2 R ?_))
 cases h
 exact Jv1 _ tv ⟨R, _, (Jx2 _ _).wk R⟩ (KM R)
 refine JT fun h => Jn 4 R ?_
 cases h
 exact Jv1 _ tv ⟨R, _, (Jx2 _ _).wk R⟩ (KM R)
 rintro _ w10 _ ⟨rfl, K11, S12⟩
 have h := hK8
 refine Jd ?_
 revert h
 cases ht13 : p13
 refine JF fun h => Jy R (Js (Jp (Jq (Je [2] R (Jb 1 R ?_)))))
 have hN15 : (p0.length : Int) ≤ 9223372036854775807 := g0.len_le
 refine Ob h fun q2 hq17 hK16 => ?_
 clear h
 refine Jx1 (fun L w' => ∃ κ', L = [] ∧ Stp [] K11 w10 κ' w' ∧ q2 = Sum.inr ()) ?_ ?_
 refine Jv (Jy1 (fun k L w' => ∃ κ' v5, L = [(0, .slice a0 p0.length u0), (1, vi p1), (5, vi v5)] ∧ Stp [] K11 w10 κ' w' ∧ 0 ≤ v5 ∧ Int.toNat ((p0.length : Int) - v5) = k ∧ cntM (s_PairsOk_b0 p0 p1) k v5 () = some q2) ⟨_, _, ⟨K11, 0, R, (Jx2 _ _).wk R, (by decide), (by simp), hq17⟩, (KM R)⟩ ?_)
 rintro k _ w21 ⟨K22, v5, rfl, S23, hj15, hJ15, h⟩
 rcases k with _ | k
 have hk24 := h; obtain ⟨o15, h⟩ := ex_eq (Sum.inr (Sum.inl ()) : Bool ⊕ ((Unit) ⊕ (Unit)))
 have hc15 : decide (v5 < (p0.length : Int)) = false := Jo2 (by omega)
 refine Jq (Je [2, 2, 2, 2] R (Jn 2 R (Jf R (Je2 U79 R R) (Jb 1 R (Jw2 R hc15 (Jc1 (Jt (Jt ?_))))))))
 cases h
 have h := hk24
 refine Jb1 ?_
 cases h
 exact Jw1 _ ⟨K22, R, S23.wk R, R⟩ KN
 obtain ⟨o15, h, hk24⟩ := BI h; unfold s_PairsOk_b0 at h
 have hc15 : decide (v5 < (p0.length : Int)) = true := Jn2 (by omega)
 refine Jq (Je [2, 2, 2, 2] R (Jn 2 R (Jf R (Je2 U79 R R) (Jb 1 R (Jv2 R hc15 (Js (Jp (Jq (Jv (Je [2, 2, 2, 2, 1, 2, 1, 2, 2, 2, 2, 2, 2, 1, 2, 1, 2, 2] R (Jn 2 R (Ob h fun x22 hx22 h => Jf R (Jf2 g0 hx22 U79 Z92 R R R R) (Jf R (Jb2 U92 R Z40 R R) ?_)))))))))))))
 have f25 := g0.stp (S5.tr (S12.tr S23)) R R
 obtain ⟨cse26, hre26, hle26⟩ := (f25).gSt hx22
 obtain ⟨ae26_0, ue26_0, ae26_1, ue26_1, rfl, fe26_0, fe26_1⟩ := Pair.un hre26
 refine Jl tv R R R R (Jc2 I40 R R (hvE (fun w' hw' => hle26 w' hw' 0 _ R))) (Jn 1 R (Ob h fun x26 hx26 h => Jh R R R C168 (s_SetOk_ok (κ := fun b => mp [] 0 (K22 b)) (Jl2 fe26_0 (mp [] 0) R R) hx26) ?_))
 rintro _ w27 ⟨k28, rfl, e29⟩
 obtain ⟨K30, S31, m32⟩ := Ji e29 4 R
 refine ⟨tv, Jn 2 R (Ob h fun p37 h hK34 => Ju1 [(9, 2), (10, 2), (11, 2), (12, 2), (13, 1), (14, 2), (15, 1), (16, 2), (17, 2)] [] (fun L w' => L = [(0, .slice a0 p0.length u0), (1, vi p1), (5, vi v5), (37, .bool p37)] ∧ ∃ κ', Stp [] K30 w27 κ' w') tv ?_ ?_)⟩
 revert h
 cases ht35 : (!x26)
 refine JF fun h => Jn 2 R (Ob h fun x31 hx31 h => Jf R (Jf2 f25 hx31 U79 Z92 R R R R) (Jf R (Jb2 U92 R Z40 R R) ?_))
 obtain ⟨cse37, hre37, hle37⟩ := ((f25.stp S31 R R)).gSt hx31
 obtain ⟨ae37_0, ue37_0, ae37_1, ue37_1, rfl, fe37_0, fe37_1⟩ := Pair.un hre37
 refine Jl tv R R R R (Jc2 I40 R R (hvE (fun w' hw' => hle37 w' hw' 1 _ R))) (Jn 1 R (Ob h fun x35 hx35 h => Jh R R R C168 (s_SetOk_ok (κ := fun b => mp [] 0 (K30 b)) (Jl2 fe37_1 (mp [] 0) R R) hx35) ?_))
 rintro _ w38 ⟨k39, rfl, e40⟩
 obtain ⟨K41, S42, m43⟩ := Ji e40 6 R
 refine ⟨tv, Jn 2 R ?_⟩
 cases h
 exact Jv1 _ tv ⟨R, _, S42.wk R⟩ (KM R)
 refine JT fun h => Jn 4 R (Jd1 R R R R (Jn 1 R (Jd1 R R R R (Jn 2 R ?_))))
 cases h
 exact Jv1 _ tv ⟨R, _, (Jx2 _ _).wk R⟩ (KM R)
 rintro _ w45 _ ⟨rfl, K46, S47⟩
 have h := hK34
 refine Jd ?_
 revert h
 cases ht48 : p37
 refine JF fun h => Jy R (Js (Jz (Jp (Ja [2, 2, 2] R (Jc 3 R ?_)))))
 have hw15 : IntKind.wrap .i64 (v5 + 1) = v5 + 1 := wr1 hj15 (Jm2 hc15) hN15
 rw [hw15]
 have hc15 := Jm2 hc15
 cases h
 exact Jz1 fun a ha => ⟨k, _, Ja3 _, ⟨K46, v5 + 1, R, (S23.tr (S31.tr S47)).wk R, by omega, by omega, hk24⟩, (ha.mm R)⟩
 refine JT fun h => Jx R (Je [2] R (Jb 1 R (Ju (Ja1 (Jw (Jw ?_))))))
 cases h
 obtain rfl := Option.some.inj hk24
 have h := hK16
 dsimp only [aft] at h
 refine Ja1 (Jq2 (Jw (Ja2 (l := [.tmp 4]) V163 (Jp2 R R) R ?_)))
 cases h
 exact ⟨K46, R, (hE.stp (S5.tr (S12.tr (S23.tr (S31.tr S47)))) R R)⟩
 rintro _ w18 ⟨K19, rfl, S20, rfl⟩
 have h := hK16
 dsimp only [aft] at h
 refine Jp (Je [2] R (Jb 1 R (Ju (Ja2 (l := [.tmp 4]) V163 (Jp2 R R) R ?_))))
 cases h
 exact ⟨K19, R, (hE.stp (S5.tr (S12.tr S20)) R R)⟩
 refine JT fun h => Jx R (Je [2] R (Jb 1 R (Ju (Jw (Ja2 (l := [.tmp 4]) V163 (Jp2 R R) R ?_)))))
 cases h
 exact ⟨K11, R, (hE.stp (S5.tr S12) R R)⟩
theorem s_l2Both_ok {w : World} {κ : Col} {a0 u0} {p0 : (List Int)} {a1 u1} {p1 : (List Int)} (g0 : Rd (Rp.int .i64) κ w 0 a0 u0 p0) (g1 : Rd (Rp.int .i64) κ w 0 a1 u1 p1) {r : Bool} (h : s_l2Both p0 p1 = some r) : Ret Tryz.prog 147 [.slice a0 p0.length u0, .slice a1 p1.length u1] w (fun v w' => ∃ (κ' : Col), v = .bool r ∧ Ent κ w κ' w') := by
 unfold s_l2Both at h
 refine Ret.enter F147 R N147 R ?_
 dsimp only [envOf]
 have hE := Ent.refl κ w
 refine Je [2] R (Jb 1 R (Je [2, 1, 2, 2, 1, 2, 2] R (Jn 1 R (Ob h fun x6 hx6 h => Jh R R R C168 (s_SetOk_ok (κ := fun b => mp [] 0 (κ b)) (Jl2 g0 (mp [] 0) R R) hx6) ?_))))
 rintro _ w1 ⟨k2, rfl, e3⟩
 obtain ⟨K4, S5, m6⟩ := Ji e3 2 R
 refine ⟨tv, Jn 1 R (Ob h fun p10 h hK8 => Ju1 [(3, 2), (4, 1), (5, 2)] [(6, 2)] (fun L w' => L = [(4, .bool false), (10, .bool p10)] ∧ ∃ κ', Stp [] K4 w1 κ' w') tv ?_ ?_)⟩
 revert h
 cases ht9 : x6
 refine JF fun h => Jn 1 R (Jd1 R R R R (Jn 1 R ?_))
 cases h
 exact Jv1 _ tv ⟨R, _, (Jx2 _ _).wk R⟩ (KM R)
 refine JT fun h => Jn 1 R (Ob h fun x9 hx9 h => Jh R R R C168 (s_SetOk_ok (κ := fun b => mp [] 0 (K4 b)) (Jl2 (g1.stp S5 R R) (mp [] 0) R R) hx9) ?_)
 rintro _ w11 ⟨k12, rfl, e13⟩
 obtain ⟨K14, S15, m16⟩ := Ji e13 4 R
 refine ⟨tv, Jn 1 R ?_⟩
 cases h
 exact Jv1 _ tv ⟨R, _, S15.wk R⟩ (KM R)
 rintro _ w18 _ ⟨rfl, K19, S20⟩
 have h := hK8
 refine Jb 1 R (Ju (Ja2 (l := [.tmp 4]) V147 (Jp2 R R) R ?_))
 cases h
 exact ⟨K19, R, (hE.stp (S5.tr S20) R R)⟩
theorem i_areLetters_ok {w : World} {κ : Col} {a0 u0} {p0 : (List Int)} {p1 : Int} (g0 : Rd (Rp.int .i64) κ w 0 a0 u0 p0) {r : Bool} (h : i_areLetters p0 p1 = some r) : Ret Tryz.prog 118 [.slice a0 p0.length u0, vi p1] w (fun v w' => ∃ (κ' : Col), v = .bool r ∧ Ent κ w κ' w') := by
 unfold i_areLetters at h
 refine Ret.enter F118 R N118 R ?_
 dsimp only [envOf]
 have hE := Ent.refl κ w
 refine Je [1, 2] R (Jf1 (κ := κ) 2 R R R R R R R fun b3 w1 K2 S3 f4 => ⟨tv, Jb 1 R (Je [2, 2, 1, 2, 2] R (Jn 1 R (Jf R (rn_makeFunc (first := []) (captured := [.tmp 3]) R R R ⟨_, R⟩) (Ob h fun x7 hx7 h => Jh R R R C148 (slices_ContainsFunc_I_int64__i_areLetters_1_ok (κ := fun b => mp [] 0 (K2 b)) (Jl2 (g0.stp S3 R R) (mp [] 0) R R) (f4.map (mp [] 0) R R) hx7) ?_))))⟩)
 rintro _ w6 ⟨k7, rfl, e8⟩
 obtain ⟨K9, S10, m11⟩ := Ji e8 3 R
 refine ⟨tv, Jb 2 R (Ju (Ja2 (l := [.tmp 4]) V118 (Jp2 R R) R ?_))⟩
 cases h
 exact ⟨K9, R, (hE.stp (S3.tr S10) R R)⟩
theorem i_isRival_ok {w : World} {κ : Col} {p0 : Sig} {ad ac aa ab} {p1 : Rival} (g1_0 : Rd (Rp.int .i64) κ w 0 ad ac p1.In) (g1_1 : Rd (Rp.sl (Rp.int .i64)) κ w 0 aa ab p1.Next) {r : Bool} (h : i_isRival p0 p1 = some r) : Ret Tryz.prog 70 [.agg #[vi p0.In, vi p0.Out], .agg #[.slice ad p1.In.length ac, .slice aa p1.Next.length ab]] w (fun v w' => ∃ (κ' : Col), v = .bool r ∧ Ent κ w κ' w') := by
 unfold i_isRival at h
 refine Ret.enter F70 R N70 R ?_
 dsimp only [envOf]
 have hE := Ent.refl κ w
 refine Je [1, 1, 2] R (Jf1 (κ := κ) 2 R R R R R R R fun b2 w1 K2 S3 f4 => ⟨tv, Jf1 (κ := K2) 3 R R R R R R R fun b3 w5 K6 S7 f8 => ⟨tv, Jb 1 R (Je [2, 1, 2, 2] R (Jf R (Jb2 U50 R Z40 R R) (Jl tv R R R R (Jc2 I40 R R (hvE (f8.ld 0 R R))) (Jf R (Je2 U40 R R) (Jb 1 R (Jq (Jq (Js1 (κ := K6) [2, 3] none [(0, 2), (1, 2), (2, 2), (3, 2), (4, 2), (5, 2), (6, 2), (7, 2), (10, 2), (8, 0), (9, 2), (11, 0), (12, 2), (13, 2), (14, 2), (15, 2), (16, 2), (17, 0), (18, 0), (19, 1), (20, 1), (21, 2), (22, 2)] [] (by kernel_rfl) (by kernel_rfl) fun w10 S9 => Jn 3 R (Ob h fun p16 h hK11 => Ju1 [(3, 2), (4, 2), (5, 2)] [(6, 2), (7, 2), (10, 2), (8, 0), (9, 2), (11, 0), (12, 2), (13, 2), (14, 2), (15, 2), (16, 2), (17, 0), (18, 0), (19, 1), (20, 1), (21, 2), (22, 2)] (fun L w' => L = [(2, .pointer (some ⟨b2, 0, none⟩)), (3, .pointer (some ⟨b3, 0, none⟩)), (5, vi (p1.In.length : Int)), (16, .bool p16)] ∧ ∃ κ', Stp [] K6 w10 κ' w') (Cl.refl _ _ _) ?_ ?_)))))))))⟩⟩)
 revert h
 cases ht12 : decide ((p1.In.length : Int) < 1)
 refine JF fun h => Jn 3 R ?_
 cases h
 exact Jv1 _ (Cl.refl _ _ _) ⟨R, _, (Jx2 _ _).wk R⟩ (KM R)
 refine JT fun h => Jn 3 R ?_
 cases h
 exact Jv1 _ (Cl.refl _ _ _) ⟨R, _, (Jx2 _ _).wk R⟩ (KM R)
 rintro _ w13 _ ⟨rfl, K14, S15⟩
 have h := hK11
 refine Jn 1 R (Ob h fun p25 h hK16 => Ju1 [(7, 2), (10, 2), (8, 0), (9, 2), (11, 0), (12, 2), (13, 2), (14, 2)] [(15, 2), (16, 2), (17, 0), (18, 0), (19, 1), (20, 1), (21, 2), (22, 2)] (fun L w' => L = [(2, .pointer (some ⟨b2, 0, none⟩)), (3, .pointer (some ⟨b3, 0, none⟩)), (5, vi (p1.In.length : Int)), (25, .bool p25)] ∧ ∃ κ', Stp [] K14 w13 κ' w') (S15.cl R) ?_ ?_)
 revert h
 cases ht17 : p16
 refine JF fun h => Jf R (Jb2 U50 R Z24 R R) (Jf R (Jb2 U50 R Z40 R R) ?_)
 have f18 := f8.stp S9 R R
 refine Jg R (Jc2 I24 R R (hvC (f18.ld 1 R R) R)) (Jf R (Je2 U24 R R) (Jg R (Jc2 I40 R R (hvC (f18.ld 0 R R) R)) (Jf R (Je2 U40 R R) (Jn 2 R ?_))))
 cases h
 exact Jv1 _ (S15.cl R) ⟨R, _, (Jx2 _ _).wk R⟩ (KM R)
 refine JT fun h => Jn 2 R (Je1 R R R R (Jn 1 R (Je1 R R R R (Jn 3 R ?_))))
 cases h
 exact Jv1 _ (S15.cl R) ⟨R, _, (Jx2 _ _).wk R⟩ (KM R)
 rintro _ w19 _ ⟨rfl, K20, S21⟩
 have h := hK16
 refine Jn 1 R (Ob h fun p33 h hK22 => Ju1 [(16, 2), (17, 0), (18, 0), (19, 1), (20, 1), (21, 2), (22, 2)] [] (fun L w' => L = [(2, .pointer (some ⟨b2, 0, none⟩)), (3, .pointer (some ⟨b3, 0, none⟩)), (5, vi (p1.In.length : Int)), (33, .bool p33)] ∧ ∃ κ', Stp [] K20 w19 κ' w') ((S15.tr S21).cl R) ?_ ?_)
 revert h
 cases ht23 : p25
 refine JF fun h => Jf R (Jb2 U50 R Z40 R R) (Jg R (Jc2 I40 R R (hvC ((f8.stp S9 R R).ld 0 R R) R)) (Jg R (Jd2 (cs := [vi p0.In, vi p0.Out]) I31 Z31 R R R (haC (f4.stp (S7.tr S9) R R).cells R)) (Ob h fun x30 hx30 h => Jh R R R C72 (i_inputsOf_ok (κ := fun b => mp [] 0 (K20 b)) (p0 := p0) hx30) ?_)))
 rintro _ w26 ⟨k27, rfl, e28⟩
 obtain ⟨K29, S30, m31⟩ := Ji e28 4 R
 refine ⟨((S15.tr (S21.tr S30)).cl R), Ob h fun x31 hx31 h => Jh R R R C118 (i_areLetters_ok (κ := fun b => mp [] 0 (K29 b)) (Jl2 (g1_0.stp (S3.tr (S7.tr (S9.tr (S15.tr (S21.tr S30))))) R R) (mp [] 0) R R) hx31) ?_⟩
 rintro _ w34 ⟨k35, rfl, e36⟩
 obtain ⟨K37, S38, m39⟩ := Ji e36 6 R
 refine ⟨((S15.tr (S21.tr (S30.tr S38))).cl R), Jn 2 R ?_⟩
 cases h
 exact Jv1 _ ((S15.tr (S21.tr (S30.tr S38))).cl R) ⟨R, _, (S30.tr S38).wk R⟩ (KM R)
 refine JT fun h => Jn 1 R (Je1 R R R R (Je1 R R R R (Jd1 R R R R (Jd1 R R R R (Jn 2 R ?_)))))
 cases h
 exact Jv1 _ ((S15.tr S21).cl R) ⟨R, _, (Jx2 _ _).wk R⟩ (KM R)
 rintro _ w41 _ ⟨rfl, K42, S43⟩
 have h := hK22
 refine Jt1 (Jd ?_)
 revert h
 cases ht44 : p33
 refine JF fun h => Jy R (Js (Jp (Jq (Je [2, 1, 2, 2] R (Jf R (Jb2 U50 R Z24 R R) (Jl tv R R R R (Jc2 I24 R R (hvE ((f8.stp (S9.tr (S15.tr (S21.tr S43))) R R).ld 1 R R))) (Jf R (Je2 U24 R R) (Jb 1 R ?_))))))))
 have hN47 : (p1.Next.length : Int) ≤ 9223372036854775807 := g1_1.len_le
 refine Ob h fun q2 hq49 hK48 => ?_
 clear h
 refine Jx1 (fun L w' => ∃ κ', L = [] ∧ Stp [] K42 w41 κ' w' ∧ q2 = Sum.inr ()) ?_ ?_
 refine Jv (Jy1 (fun k L w' => ∃ κ' v37, L = [(2, .pointer (some ⟨b2, 0, none⟩)), (5, vi (p1.In.length : Int)), (35, .slice aa p1.Next.length ab), (36, vi (p1.Next.length : Int)), (37, vi v37)] ∧ Stp [] K42 w41 κ' w' ∧ 0 ≤ v37 ∧ Int.toNat ((p1.Next.length : Int) - v37) = k ∧ cntM (i_isRival_b0 p0 p1) k v37 () = some q2) ⟨_, _, ⟨K42, 0, R, (Jx2 _ _).wk R, (by decide), (by simp), hq49⟩, (KM R)⟩ ?_)
 rintro k _ w53 ⟨K54, v37, rfl, S55, hj47, hJ47, h⟩
 rcases k with _ | k
 have hk56 := h; obtain ⟨o47, h⟩ := ex_eq (Sum.inr (Sum.inl ()) : Bool ⊕ ((Unit) ⊕ (Unit)))
 have hc47 : decide (v37 < (p1.Next.length : Int)) = false := Jo2 (by omega)
 refine Je [2] R (Jb 1 R (Jq (Jw2 R hc47 (Jc1 (Jt (Jt ?_))))))
 cases h
 have h := hk56
 refine Jb1 ?_
 cases h
 exact Jw1 _ ⟨K54, R, S55.wk R, R⟩ KN
 obtain ⟨o47, h, hk56⟩ := BI h; unfold i_isRival_b0 at h
 have hc47 : decide (v37 < (p1.Next.length : Int)) = true := Jn2 (by omega)
 refine Je [2] R (Jb 1 R (Jq (Jv2 R hc47 (Js (Jp (Jq (Jv (Je [2, 1, 2] R (Ob h fun x39 hx39 h => Jf R (Jf2 g1_1 hx39 U24 Z40 R R R R) ?_)))))))))
 obtain ⟨ax39, ux39, f58, hl59⟩ := (g1_1.stp (S3.tr (S7.tr (S9.tr (S15.tr (S21.tr (S43.tr S55)))))) R R).gSl hx39
 refine Jl tv R R R R (Jc2 I40 R R (hvE hl59)) (Jb 1 R (Je [2, 2, 2, 1, 2, 2, 2, 2, 2, 1, 2, 2] R (Jn 1 R (Jf R (Je2 U40 R R) (Jf R (Jb2 U31 R Z2 R R) (Jl tv R R R R (Jc2 I2 R R (hvE ((f4.stp (S7.tr (S9.tr (S15.tr (S21.tr (S43.tr S55))))) R R).ld 1 R R))) (Ob h fun _z45 hz45 h => Jf R (rn_shl R R R (nn_ok hz45)) (Jn 2 R (Ob h fun p52 h hK61 => Ju1 [(7, 2), (8, 2), (9, 1), (10, 2), (11, 2)] [] (fun L w' => L = [(2, .pointer (some ⟨b2, 0, none⟩)), (5, vi (p1.In.length : Int)), (35, .slice aa p1.Next.length ab), (36, vi (p1.Next.length : Int)), (37, vi v37), (52, .bool p52)] ∧ ∃ κ', Stp [] K54 w53 κ' w') tv ?_ ?_)))))))))
 revert h
 cases ht62 : ((x39.length : Int) != (IntKind.i64.wrap (1 * 2 ^ (min (Int.toNat p0.Out) (IntKind.bits IntKind.i64)))))
 refine JF fun h => Jn 2 R (Ob h fun x50 hx50 h => Jh R R R C118 (i_areLetters_ok (κ := fun b => mp [] 0 (K54 b)) (Jl2 f58 (mp [] 0) R R) hx50) ?_)
 rintro _ w63 ⟨k64, rfl, e65⟩
 obtain ⟨K66, S67, m68⟩ := Ji e65 4 R
 refine ⟨tv, Jn 2 R ?_⟩
 cases h
 exact Jv1 _ tv ⟨R, _, S67.wk R⟩ (KM R)
 refine JT fun h => Jn 2 R (Jd1 R R R R (Jn 2 R ?_))
 cases h
 exact Jv1 _ tv ⟨R, _, (Jx2 _ _).wk R⟩ (KM R)
 rintro _ w70 _ ⟨rfl, K71, S72⟩
 have h := hK61
 refine Jd ?_
 revert h
 cases ht73 : p52
 refine JF fun h => Jy R (Js (Jz (Jp (Ja [2, 2] R (Jc 2 R ?_)))))
 have hw47 : IntKind.wrap .i64 (v37 + 1) = v37 + 1 := wr1 hj47 (Jm2 hc47) hN47
 rw [hw47]
 have hc47 := Jm2 hc47
 cases h
 exact Jz1 fun a ha => ⟨k, _, Ja3 _, ⟨K71, v37 + 1, R, (S55.tr S72).wk R, by omega, by omega, hk56⟩, (ha.mm R)⟩
 refine JT fun h => Jx R (Je [2] R (Jb 1 R (Ju (Ja1 (Jw (Jw ?_))))))
 cases h
 obtain rfl := Option.some.inj hk56
 have h := hK48
 dsimp only [aft] at h
 refine Ja1 (Jq2 (Jw (Ja2 (l := [.tmp 4]) V70 (Jp2 R R) R ?_)))
 cases h
 exact ⟨K71, R, (hE.stp (S3.tr (S7.tr (S9.tr (S15.tr (S21.tr (S43.tr (S55.tr S72))))))) R R)⟩
 rintro _ w50 ⟨K51, rfl, S52, rfl⟩
 have h := hK48
 dsimp only [aft] at h
 refine Jp (Je [2] R (Jb 1 R (Ju (Ja2 (l := [.tmp 4]) V70 (Jp2 R R) R ?_))))
 cases h
 exact ⟨K51, R, (hE.stp (S3.tr (S7.tr (S9.tr (S15.tr (S21.tr (S43.tr S52)))))) R R)⟩
 refine JT fun h => Jx R (Je [2] R (Jb 1 R (Ju (Jw (Ja2 (l := [.tmp 4]) V70 (Jp2 R R) R ?_)))))
 cases h
 exact ⟨K42, R, (hE.stp (S3.tr (S7.tr (S9.tr (S15.tr (S21.tr S43))))) R R)⟩
theorem slices_IndexFunc_i_Clause_i_Clause__i_areClauses_1_ok {w : World} {κ : Col} {a0 u0} {p0 : (List Clause)} {c1_0 : Sig} {b1_0} (g0 : Rd Clause.rp κ w 0 a0 u0 p0) (gb1_0 : Bc κ w 0 b1_0 31 [vi c1_0.In, vi c1_0.Out]) {r : Int} (h : slices_IndexFunc_i_Clause_i_Clause__i_areClauses_1 p0 c1_0 = some r) : Ret Tryz.prog 159 [.slice a0 p0.length u0, .func (.func 128) #[] #[.pointer (some ⟨b1_0, 0, none⟩)]] w (fun v w' => ∃ (κ' : Col), v = vi r ∧ Ent κ w κ' w') := by
 unfold slices_IndexFunc_i_Clause_i_Clause__i_areClauses_1 at h
 refine Ret.enter F159 R N159 R ?_
 dsimp only [envOf]
 have hE := Ent.refl κ w
 refine Je [2] R (Jb 1 R (Jq (Je [2, 2, 2] R (Jn 1 R (Jf R (Je2 U35 R R) (Jb 1 R ?_))))))
 have hN1 : (p0.length : Int) ≤ 9223372036854775807 := g0.len_le
 refine Ob h fun q2 hq3 hK2 => ?_
 clear h
 refine Jx1 (fun L w' => ∃ κ', L = [(1, .func (.func 128) #[] #[.pointer (some ⟨b1_0, 0, none⟩)])] ∧ Stp [] κ w κ' w' ∧ q2 = Sum.inr ()) ?_ ?_
 refine Jv (Jy1 (fun k L w' => ∃ κ' v8, L = [(0, .slice a0 p0.length u0), (1, .func (.func 128) #[] #[.pointer (some ⟨b1_0, 0, none⟩)]), (7, vi (p0.length : Int)), (8, vi v8)] ∧ Stp [] κ w κ' w' ∧ 0 ≤ v8 ∧ Int.toNat ((p0.length : Int) - v8) = k ∧ cntM (slices_IndexFunc_i_Clause_i_Clause__i_areClauses_1_b0 p0 c1_0) k v8 () = some q2) ⟨_, _, ⟨κ, 0, R, (Jx2 _ _).wk R, (by decide), (by simp), hq3⟩, (KM R)⟩ ?_)
 rintro k _ w7 ⟨K8, v8, rfl, S9, hj1, hJ1, h⟩
 rcases k with _ | k
 have hk10 := h; obtain ⟨o1, h⟩ := ex_eq (Sum.inr (Sum.inl ()) : Int ⊕ ((Unit) ⊕ (Unit)))
 have hc1 : decide (v8 < (p0.length : Int)) = false := Jo2 (by omega)
 refine Je [2] R (Jb 1 R (Jq (Jw2 R hc1 (Jc1 (Jt (Jt ?_))))))
 cases h
 have h := hk10
 refine Jb1 ?_
 cases h
 exact Jw1 _ ⟨K8, R, S9.wk R, R⟩ (KM R)
 obtain ⟨o1, h, hk10⟩ := BI h; unfold slices_IndexFunc_i_Clause_i_Clause__i_areClauses_1_b0 at h
 have hc1 : decide (v8 < (p0.length : Int)) = true := Jn2 (by omega)
 refine Je [2] R (Jb 1 R (Jq (Jv2 R hc1 (Js (Jp (Jq (Jv (Je [2, 2] R (Jb 2 R (Je [2, 2, 2, 2, 1, 1] R (Jn 3 R (Ob h fun x14 hx14 h => Jf R (Jf2 g0 hx14 U35 Z71 R R R R) ?_))))))))))))
 obtain ⟨cse12, hre12, hle12⟩ := ((g0.stp S9 R R)).gSt hx14
 obtain ⟨ae12_0, ue12_0, ae12_1, ue12_1, rfl, fe12_0, fe12_1⟩ := Clause.un hre12
 refine Jl tv R R R R (Jd2 (cs := [vi x14.Kind, .slice ae12_0 x14.A.length ue12_0, .slice ae12_1 x14.B.length ue12_1]) I71 Z71 R R R (haE hle12)) (Ob h fun x16 hx16 h => WO.callV R R R R R R R R C128 (i_areClauses_1_ok (κ := fun b => mp [] 0 (K8 b)) (p0 := x14) (c0 := c1_0) (Jl2 fe12_0 (mp [] 0) R R) (Jl2 fe12_1 (mp [] 0) R R) ((gb1_0.stp S9 R R).map (mp [] 0) R R) hx16) ?_)
 rintro _ w14 ⟨k15, rfl, e16⟩
 obtain ⟨K17, S18, m19⟩ := Ji e16 2 R
 refine ⟨tv, Jd ?_⟩
 revert h
 cases ht21 : x16
 refine JF fun h => Jy R (Js (Jz (Jp (Ja [2, 2] R (Jc 2 R ?_)))))
 have hw1 : IntKind.wrap .i64 (v8 + 1) = v8 + 1 := wr1 hj1 (Jm2 hc1) hN1
 rw [hw1]
 have hc1 := Jm2 hc1
 cases h
 exact Jz1 fun a ha => ⟨k, _, Ja3 _, ⟨K17, v8 + 1, R, (S9.tr S18).wk R, by omega, by omega, hk10⟩, (ha.mm R)⟩
 refine JT fun h => Jx R (Je [2, 2] R (Jb 2 R (Ju (Ja1 (Jw (Jw ?_))))))
 cases h
 obtain rfl := Option.some.inj hk10
 have h := hK2
 dsimp only [aft] at h
 refine Ja1 (Jq2 (Jw (Ja2 (l := [.tmp 4]) V159 (Jp2 R R) R ?_)))
 cases h
 exact ⟨K17, R, (hE.stp (S9.tr S18) R R)⟩
 rintro _ w4 ⟨K5, rfl, S6, rfl⟩
 have h := hK2
 dsimp only [aft] at h
 refine Jp (Je [2] R (Jb 1 R (Ju (Ja2 (l := [.tmp 4]) V159 (Jp2 R R) R ?_))))
 cases h
 exact ⟨K5, R, (hE.stp S6 R R)⟩
theorem slices_ContainsFunc_i_Clause_i_Clause__i_areClauses_1_ok {w : World} {κ : Col} {a0 u0} {p0 : (List Clause)} {c1_0 : Sig} {b1_0} (g0 : Rd Clause.rp κ w 0 a0 u0 p0) (gb1_0 : Bc κ w 0 b1_0 31 [vi c1_0.In, vi c1_0.Out]) {r : Bool} (h : slices_ContainsFunc_i_Clause_i_Clause__i_areClauses_1 p0 c1_0 = some r) : Ret Tryz.prog 127 [.slice a0 p0.length u0, .func (.func 128) #[] #[.pointer (some ⟨b1_0, 0, none⟩)]] w (fun v w' => ∃ (κ' : Col), v = .bool r ∧ Ent κ w κ' w') := by
 unfold slices_ContainsFunc_i_Clause_i_Clause__i_areClauses_1 at h
 refine Ret.enter F127 R N127 R ?_
 dsimp only [envOf]
 have hE := Ent.refl κ w
 refine Je [2] R (Jb 1 R (Je [2, 2, 1, 2, 2] R (Jn 2 R (Ob h fun x7 hx7 h => Jh R R R C159 (slices_IndexFunc_i_Clause_i_Clause__i_areClauses_1_ok (κ := fun b => mp [] 0 (κ b)) (c1_0 := c1_0) (Jl2 g0 (mp [] 0) R R) (gb1_0.map (mp [] 0) R R) hx7) ?_))))
 rintro _ w1 ⟨k2, rfl, e3⟩
 obtain ⟨K4, S5, m6⟩ := Ji e3 2 R
 refine ⟨tv, Jb 2 R (Ju (Ja2 (l := [.tmp 4]) V127 (Jp2 R R) R ?_))⟩
 cases h
 exact ⟨K4, R, (hE.stp S5 R R)⟩
theorem i_lessOf_ok {w : World} {κ : Col} {a0 u0} {p0 : (List Int)} {a1 u1} {p1 : (List Int)} (g0 : Rd (Rp.int .i64) κ w 0 a0 u0 p0) (g1 : Rd (Rp.int .i64) κ w 0 a1 u1 p1) {r : (List Int)} (h : i_lessOf p0 p1 = some r) : Ret Tryz.prog 126 [.slice a0 p0.length u0, .slice a1 p1.length u1] w (fun v w' => ∃ (κ' : Col) (ra0 : Option Addr) (ru0 : Nat), v = .slice ra0 r.length ru0 ∧ Ent κ w κ' w' ∧ Oc E6 2 κ' w' 2 ra0 ru0 r) := by
 unfold i_lessOf at h
 refine Ret.enter F126 R N126 R ?_
 dsimp only [envOf]
 have hE := Ent.refl κ w
 refine Je [2] R (Jb 1 R (Je [1, 2] R (Jo1 (κ := κ) (E := E6) 2 R R R R R Y40 Tryzinfo2 R fun ah ak w1 K2 S3 f4 => ⟨tv, Jb 1 R (Jq (Je [2, 2, 2] R (Jn 1 R (Jf R (Je2 U40 R R) (Jb 1 R ?_)))))⟩)))
 have hN5 : (p0.length : Int) ≤ 9223372036854775807 := g0.len_le
 refine Ob h fun q2 hq7 hK6 => ?_
 clear h
 refine Jx1 (fun L w' => ∃ κ', ∃ s3 : (List Int), ∃ af ac, L = [(5, .slice af s3.length ac)] ∧ Stp [2] K2 w1 κ' w' ∧ Oc E6 2 κ' w' 2 af ac s3 ∧ q2 = Sum.inr s3) ?_ ?_
 refine Jv (Jy1 (fun k L w' => ∃ κ' v13, ∃ s1 : (List Int), ∃ aa ab, L = [(1, .slice a1 p1.length u1), (5, .slice aa s1.length ab), (11, .slice a0 p0.length u0), (12, vi (p0.length : Int)), (13, vi v13)] ∧ Stp [2] K2 w1 κ' w' ∧ Oc E6 2 κ' w' 2 aa ab s1 ∧ 0 ≤ v13 ∧ Int.toNat ((p0.length : Int) - v13) = k ∧ cntM (i_lessOf_b0 p0 p1) k v13 s1 = some q2) ⟨_, _, ⟨K2, 0, (([] : List Int) : (List Int)), ah, ak, R, (Jx2 _ _).wk R, f4, (by decide), (by simp), hq7⟩, (KM R)⟩ ?_)
 rintro k _ w12 ⟨K13, v13, s1, aa, ab, rfl, S14, f15, hj5, hJ5, h⟩
 rcases k with _ | k
 have hk16 := h; obtain ⟨o5, h⟩ := ex_eq (Sum.inr (Sum.inl s1) : (List Int) ⊕ (((List Int)) ⊕ ((List Int))))
 have hc5 : decide (v13 < (p0.length : Int)) = false := Jo2 (by omega)
 refine Je [2] R (Jb 1 R (Jq (Jw2 R hc5 (Jc1 (Jt (Jt ?_))))))
 cases h
 have h := hk16
 refine Jb1 ?_
 cases h
 exact Jw1 _ ⟨K13, (s1 : (List Int)), aa, ab, R, S14.wk R, f15, R⟩ (KM R)
 obtain ⟨o5, h, hk16⟩ := BI h; unfold i_lessOf_b0 at h
 have hc5 : decide (v13 < (p0.length : Int)) = true := Jn2 (by omega)
 refine Je [2] R (Jb 1 R (Jq (Jv2 R hc5 (Js (Jp (Jq (Jv (Je [2, 1, 2] R (Ob h fun x15 hx15 h => Jf R (Jf2 g0 hx15 U40 Z2 R R R R) (Jl tv R R R R (Jc2 I2 R R (hvE ((g0.stp (S3.tr S14) R R).gInt hx15))) (Jb 1 R (Je [2, 2, 1, 2, 2, 2, 2, 2] R (Jn 2 R (Ob h fun x20 hx20 h => Jh R R R C158 (slices_BinarySearch_I_int64_ok (κ := fun b => mp [] 0 (K13 b)) (Jl2 (g1.stp (S3.tr S14) R R) (mp [] 0) R R) hx20) ?_))))))))))))))
 rintro _ w19 ⟨k20, rfl, e21⟩
 obtain ⟨K22, S23, m24⟩ := Ji e21 3 R
 refine ⟨tv, Jb 5 R (Je [2, 2] R (Jb 2 R (Ob h fun q4 h hK26 => Jx1 (fun L w' => ∃ κ' ae ad, L = [(1, .slice a1 p1.length u1), (5, .slice ae q4.length ad), (11, .slice a0 p0.length u0), (12, vi (p0.length : Int)), (13, vi v13)] ∧ Stp [2] K22 w19 κ' w' ∧ Oc E6 2 κ' w' 2 ae ad q4) ?_ ?_)))⟩
 revert h
 cases ht31 : (!x20.2)
 refine JF fun h => Jy R (Js ?_)
 cases h
 exact Jw1 _ ⟨K22, aa, ab, R, (Jx2 _ _).wk R, (f15.stp S23 R R)⟩ (KM R)
 refine JT fun h => Jx R (Ja [2, 2, 1, 1, 2] R (Jn 2 R (Jn1 (κ := K22) (E := E6) 5 [] (parts := [(0, .tmp 26)]) (cells := [vi x15]) (xs := ([x15] : List Int)) R R R R R R Y40 Tryzinfo2 R R R R R R R R R R ⟨[vi x15], [], Zl K22 w19 [], Zl K22 w19 [], R, Zl.sp (l1 := []) (l2 := []) R, Zl.sr (l1 := []) (l2 := []), R, R⟩ fun al am w32 K33 S34 f35 => ⟨tv, Ob h fun x28 hx28 h => Jm1 (κ := K33) (E := E6) 2 [] R R R R R R R R R Y40 Tryzinfo2 R R R R (f15.stp (S23.tr S34) R R) (Sl.srcP (pu_int _) f35.rdc) sy_false hx28 R fun aj ai w37 K38 S39 f40 => ⟨tv, Jc 1 R ?_⟩⟩)))
 cases h
 exact Jw1 _ ⟨K38, aj, ai, R, (S34.tr S39).wk R, f40⟩ (KM R)
 rintro _ w27 ⟨K28, ae, ad, rfl, S29, f30⟩
 have h := hK26
 refine Jz (Jp (Ja [2, 2] R (Jc 2 R ?_)))
 have hw5 : IntKind.wrap .i64 (v13 + 1) = v13 + 1 := wr1 hj5 (Jm2 hc5) hN5
 rw [hw5]
 have hc5 := Jm2 hc5
 cases h
 exact Jz1 fun a ha => ⟨k, _, Ja3 _, ⟨K28, v13 + 1, (q4 : (List Int)), ae, ad, R, (S14.tr (S23.tr S29)).wk R, f30, by omega, by omega, hk16⟩, (ha.mm R)⟩
 rintro _ w8 ⟨K9, s3, af, ac, rfl, S10, f11, rfl⟩
 have h := hK6
 dsimp only [aft] at h
 refine Jp (Je [2, 2] R (Jb 2 R (Ju (Ja2 (l := [.tmp 4]) V126 (Jp2 R R) R ?_))))
 cases h
 exact ⟨K9, af, ac, R, (hE.stp (S3.tr S10) R R), f11⟩
theorem i_meets_ok {w : World} {κ : Col} {a0 u0} {p0 : (List Int)} {a1 u1} {p1 : (List Int)} (g0 : Rd (Rp.int .i64) κ w 0 a0 u0 p0) (g1 : Rd (Rp.int .i64) κ w 0 a1 u1 p1) {r : Bool} (h : i_meets p0 p1 = some r) : Ret Tryz.prog 157 [.slice a0 p0.length u0, .slice a1 p1.length u1] w (fun v w' => ∃ (κ' : Col), v = .bool r ∧ Ent κ w κ' w') := by
 unfold i_meets at h
 refine Ret.enter F157 R N157 R ?_
 dsimp only [envOf]
 have hE := Ent.refl κ w
 refine Je [2] R (Jb 1 R (Je [2, 2, 1, 2, 2, 2, 2, 2] R (Jn 2 R (Ob h fun x7 hx7 h => Jh R R R C126 (i_lessOf_ok (κ := fun b => mp [] 0 (κ b)) (Jl2 g0 (mp [] 0) R R) (Jl2 g1 (mp [] 0) R R) hx7) ?_))))
 rintro _ w1 ⟨k2, ab, aa, rfl, e3, f4⟩
 obtain ⟨K5, S6, m7⟩ := Ji e3 2 R
 refine ⟨tv, Jf R (Je2 U40 R R) (Jn 1 R (Jf R (Je2 U40 R R) (Jb 2 R (Ju (Ja2 (l := [.tmp 4]) V157 (Jp2 R R) R ?_)))))⟩
 cases h
 exact ⟨K5, R, (hE.stp S6 R R)⟩
end Go.Proofs.YtcmamhmpoinmnaaGreat
