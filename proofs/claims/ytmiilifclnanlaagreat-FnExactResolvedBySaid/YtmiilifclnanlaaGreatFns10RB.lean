/- The walks, part 10. By program. -/
import Derived.Test.YtmiilifclnanlaaGreatFns8RB
import Derived.Test.YtmiilifclnanlaaGreatFns9RB
set_option linter.unusedVariables false
set_option linter.unusedSimpArgs false
namespace Go.Proofs.YtmiilifclnanlaaGreat
open Go Go.Wk Go.Proofs
set_option maxRecDepth 100000
set_option maxHeartbeats 1000000
theorem s_ParityOk_ok {w : World} {κ : Col} {ac ab aa ad ae af} {p0 : Parity} (g0_0_0 : Rd (Rp.int .i64) κ w 0 ac ab p0.Arena.Owner) (g0_0_1 : Rd (Rp.sl (Rp.int .i64)) κ w 0 aa ad p0.Arena.Next) (g0_1 : Rd (Rp.int .i64) κ w 0 ae af p0.Prio) {r : Bool} (h : s_ParityOk p0 = some r) : Ret Tryz.prog 55 [.agg #[.slice ac p0.Arena.Owner.length ab, .slice aa p0.Arena.Next.length ad, .slice ae p0.Prio.length af]] w (fun v w' => ∃ (κ' : Col), v = .bool r ∧ Ent κ w κ' w') := by
 unfold s_ParityOk at h
 refine Ret.enter F55 R N55 R ?_
 dsimp only [envOf]
 have hE := Ent.refl κ w
 refine Je [1, 2] R (Jf1 (κ := κ) 2 R R R R R R R fun b1 w1 K2 S3 f4 => ⟨tv, Jb 1 R (Jq (Je [2, 1, 1, 2, 2, 2, 1, 2, 2, 2, 1, 2, 2, 2] R (Jf R (Jb2 U39 R Z37 R R) (Jl tv R R R R (Jd2 (cs := [.slice ac p0.Arena.Owner.length ab, .slice aa p0.Arena.Next.length ad]) I37 Z37 R R R (haE (f4.lds 0 2 R))) (Ob h fun x6 hx6 h => Jh R R R C95 (s_ArenaOk_ok (κ := fun b => mp [] 0 (K2 b)) (p0 := p0.Arena) (Jl2 (g0_0_0.stp S3 R R) (mp [] 0) R R) (Jl2 (g0_0_1.stp S3 R R) (mp [] 0) R R) hx6) ?_)))))⟩)
 rintro _ w7 ⟨k8, rfl, e9⟩
 obtain ⟨K10, S11, m12⟩ := Ji e9 3 R
 refine ⟨tv, Jn 2 R (Ob h fun p17 h hK14 => Ju1 [(5, 2), (6, 1), (7, 2), (8, 2), (9, 2), (10, 1), (11, 2), (12, 2), (13, 2)] [] (fun L w' => L = [(1, .pointer (some ⟨b1, 0, none⟩)), (17, .bool p17)] ∧ ∃ κ', Stp [] K10 w7 κ' w') tv ?_ ?_)⟩
 revert h
 cases ht15 : (!x6)
 refine JF fun h => Jf R (Jb2 U39 R Z22 R R) ?_
 have f16 := f4.stp S11 R R
 refine Jl tv R R R R (Jc2 I22 R R (hvE (f16.ld 2 R R))) (Jf R (Je2 U22 R R) (Jf R (Jb2 U39 R Z37 R R) (Jf R (Jb2 U37 R Z22 R R) (Jl tv R R R R (Jc2 I22 R R (hvE (f16.ld 0 R R))) (Jf R (Je2 U22 R R) (Jn 2 R ?_))))))
 cases h
 exact Jv1 _ tv ⟨R, _, (Jx2 _ _).wk R⟩ (KM R)
 refine JT fun h => Jn 1 R (Jd1 R R R R (Jn 3 R (Jd1 R R R R (Jn 3 R ?_))))
 cases h
 exact Jv1 _ tv ⟨R, _, (Jx2 _ _).wk R⟩ (KM R)
 rintro _ w17 _ ⟨rfl, K18, S19⟩
 have h := hK14
 refine Jd ?_
 revert h
 cases ht20 : p17
 refine JF fun h => Jy R (Js (Jp (Jq (Je [2] R (Jb 1 R ?_)))))
 have hN22 : (p0.Prio.length : Int) ≤ 9223372036854775807 := g0_1.len_le
 refine Ob h fun q2 hq24 hK23 => ?_
 clear h
 refine Jx1 (fun L w' => ∃ κ', L = [] ∧ Stp [] K18 w17 κ' w' ∧ q2 = Sum.inr ()) ?_ ?_
 refine Jv (Jy1 (fun k L w' => ∃ κ' v3, L = [(1, .pointer (some ⟨b1, 0, none⟩)), (3, vi v3)] ∧ Stp [] K18 w17 κ' w' ∧ 0 ≤ v3 ∧ Int.toNat ((p0.Prio.length : Int) - v3) = k ∧ cntM (s_ParityOk_b0 p0) k v3 () = some q2) ⟨_, _, ⟨K18, 0, R, (Jx2 _ _).wk R, (by decide), (by simp), hq24⟩, (KM R)⟩ ?_)
 rintro k _ w28 ⟨K29, v3, rfl, S30, hj22, hJ22, h⟩
 rcases k with _ | k
 have hk31 := h; obtain ⟨o22, h⟩ := ex_eq (Sum.inr (Sum.inl ()) : Bool ⊕ ((Unit) ⊕ (Unit)))
 have hc22 : decide (v3 < (p0.Prio.length : Int)) = false := Jo2 (by omega)
 refine Jq (Je [2, 2, 1, 2, 2] R (Jn 1 R (Jf R (Jb2 U39 R Z22 R R) (Jl tv R R R R (Jc2 I22 R R (hvE ((f4.stp (S11.tr (S19.tr S30)) R R).ld 2 R R))) (Jf R (Je2 U22 R R) (Jb 1 R (Jw2 R hc22 (Jc1 (Jt (Jt ?_))))))))))
 cases h
 have h := hk31
 refine Jb1 ?_
 cases h
 exact Jw1 _ ⟨K29, R, S30.wk R, R⟩ KN
 obtain ⟨o22, h, hk31⟩ := BI h; unfold s_ParityOk_b0 at h
 have hc22 : decide (v3 < (p0.Prio.length : Int)) = true := Jn2 (by omega)
 refine Jq (Je [2, 2, 1, 2, 2] R (Jn 1 R (Jf R (Jb2 U39 R Z22 R R) ?_)))
 have f33 := f4.stp (S11.tr (S19.tr S30)) R R
 refine Jl tv R R R R (Jc2 I22 R R (hvE (f33.ld 2 R R))) (Jf R (Je2 U22 R R) (Jb 1 R (Jv2 R hc22 (Js (Jp (Jq (Jv (Je [2, 1, 2, 2, 1, 1, 2] R (Jf R (Jb2 U39 R Z22 R R) (Jl tv R R R R (Jc2 I22 R R (hvE (f33.ld 2 R R))) (Jn 1 R (Ob h fun x28 hx28 h => Jf R (Jf2 g0_1 hx28 U22 Z2 R R R R) (Jl tv R R R R (Jc2 I2 R R (hvE ((g0_1.stp (S3.tr (S11.tr (S19.tr S30))) R R).gInt hx28))) (Ob h fun x30 hx30 h => Jh R R R C75 (s_l1In_ok (κ := fun b => mp [] 0 (K29 b)) hx30) ?_))))))))))))))
 rintro _ w35 ⟨k36, rfl, e37⟩
 obtain ⟨K38, S39, m40⟩ := Ji e37 5 R
 refine ⟨tv, Jb 1 R ?_⟩
 revert h
 cases ht42 : (!x30)
 refine JF fun h => Jy R (Js (Jz (Jp (Ja [2, 2, 2] R (Jc 3 R ?_)))))
 have hw22 : IntKind.wrap .i64 (v3 + 1) = v3 + 1 := wr1 hj22 (Jm2 hc22) hN22
 rw [hw22]
 have hc22 := Jm2 hc22
 cases h
 exact Jz1 fun a ha => ⟨k, _, Ja3 _, ⟨K38, v3 + 1, R, (S30.tr S39).wk R, by omega, by omega, hk31⟩, (ha.mm R)⟩
 refine JT fun h => Jx R (Je [2] R (Jb 1 R (Ju (Ja1 (Jw (Jw ?_))))))
 cases h
 obtain rfl := Option.some.inj hk31
 have h := hK23
 dsimp only [aft] at h
 refine Ja1 (Jq2 (Jw (Ja2 (l := [.tmp 2]) V55 (Jp2 R R) R ?_)))
 cases h
 exact ⟨K38, R, (hE.stp (S3.tr (S11.tr (S19.tr (S30.tr S39)))) R R)⟩
 rintro _ w25 ⟨K26, rfl, S27, rfl⟩
 have h := hK23
 dsimp only [aft] at h
 refine Jp (Je [2] R (Jb 1 R (Ju (Ja2 (l := [.tmp 2]) V55 (Jp2 R R) R ?_))))
 cases h
 exact ⟨K26, R, (hE.stp (S3.tr (S11.tr (S19.tr S27))) R R)⟩
 refine JT fun h => Jx R (Je [2] R (Jb 1 R (Ju (Jw (Ja2 (l := [.tmp 2]) V55 (Jp2 R R) R ?_)))))
 cases h
 exact ⟨K18, R, (hE.stp (S3.tr (S11.tr S19)) R R)⟩
theorem s_PlanOk_ok {w : World} {κ : Col} {ad ab aa ac} {p0 : Arena} {p1 : Int} {a2 u2} {p2 : (List Int)} (g0_0 : Rd (Rp.int .i64) κ w 0 ad ab p0.Owner) (g0_1 : Rd (Rp.sl (Rp.int .i64)) κ w 0 aa ac p0.Next) (g2 : Rd (Rp.int .i64) κ w 0 a2 u2 p2) {r : Bool} (h : s_PlanOk p0 p1 p2 = some r) : Ret Tryz.prog 135 [.agg #[.slice ad p0.Owner.length ab, .slice aa p0.Next.length ac], vi p1, .slice a2 p2.length u2] w (fun v w' => ∃ (κ' : Col), v = .bool r ∧ Ent κ w κ' w') := by
 unfold s_PlanOk at h
 refine Ret.enter F135 R N135 R ?_
 dsimp only [envOf]
 have hE := Ent.refl κ w
 refine Je [1, 2] R (Jf1 (κ := κ) 2 R R R R R R R fun b3 w1 K2 S3 f4 => ⟨tv, Jb 1 R (Je [1, 1, 2, 2, 1, 2, 2, 1, 2, 2, 1, 2, 2] R (Jl tv R R R R (Jd2 (cs := [.slice ad p0.Owner.length ab, .slice aa p0.Next.length ac]) I37 Z37 R R R (haE f4.cells)) (Ob h fun x8 hx8 h => ?_)))⟩)
 have f5 := g0_0.stp S3 R R
 have f6 := g0_1.stp S3 R R
 refine Jh R R R C95 (s_ArenaOk_ok (κ := fun b => mp [] 0 (K2 b)) (p0 := p0) (Jl2 f5 (mp [] 0) R R) (Jl2 f6 (mp [] 0) R R) hx8) ?_
 rintro _ w7 ⟨k8, rfl, e9⟩
 obtain ⟨K10, S11, m12⟩ := Ji e9 3 R
 refine ⟨tv, Jn 1 R (Ob h fun p12 h hK14 => Ju1 [(3, 2), (4, 1), (5, 2)] [(6, 2), (7, 1), (8, 2), (9, 2), (10, 1), (11, 2), (12, 2)] (fun L w' => L = [(1, vi p1), (2, .slice a2 p2.length u2), (3, .pointer (some ⟨b3, 0, none⟩)), (6, .bool false), (12, .bool p12)] ∧ ∃ κ', Stp [] K10 w7 κ' w') tv ?_ ?_)⟩
 revert h
 cases ht15 : x8
 refine JF fun h => Jn 1 R (Jd1 R R R R (Jn 1 R ?_))
 cases h
 exact Jv1 _ tv ⟨R, _, (Jx2 _ _).wk R⟩ (KM R)
 refine JT fun h => Jn 1 R (Ob h fun x11 hx11 h => Jh R R R C75 (s_l1In_ok (κ := fun b => mp [] 0 (K10 b)) hx11) ?_)
 rintro _ w16 ⟨k17, rfl, e18⟩
 obtain ⟨K19, S20, m21⟩ := Ji e18 5 R
 refine ⟨tv, Jn 1 R ?_⟩
 cases h
 exact Jv1 _ tv ⟨R, _, S20.wk R⟩ (KM R)
 rintro _ w23 _ ⟨rfl, K24, S25⟩
 have h := hK14
 refine Jn 1 R (Ob h fun p18 h hK26 => Ju1 [(7, 1), (8, 2), (9, 2), (10, 1), (11, 2)] [(12, 2)] (fun L w' => L = [(6, .bool false), (18, .bool p18)] ∧ ∃ κ', Stp [] K24 w23 κ' w') tv ?_ ?_)
 revert h
 cases ht27 : p12
 refine JF fun h => Jd1 R R R R (Jn 2 R (Jd1 R R R R (Jn 1 R ?_)))
 cases h
 exact Jv1 _ tv ⟨R, _, (Jx2 _ _).wk R⟩ (KM R)
 refine JT fun h => Jl tv R R R R (Jd2 (cs := [.slice ad p0.Owner.length ab, .slice aa p0.Next.length ac]) I37 Z37 R R R (haE (f4.stp (S11.tr S25) R R).cells)) (Jn 2 R (Ob h fun x17 hx17 h => Jh R R R C158 (s_l5Plan_ok (κ := fun b => mp [] 0 (K24 b)) (p0 := p0) (Jl2 (f5.stp (S11.tr S25) R R) (mp [] 0) R R) (Jl2 (f6.stp (S11.tr S25) R R) (mp [] 0) R R) (Jl2 (g2.stp (S3.tr (S11.tr S25)) R R) (mp [] 0) R R) hx17) ?_))
 rintro _ w32 ⟨k33, rfl, e34⟩
 obtain ⟨K35, S36, m37⟩ := Ji e34 5 R
 refine ⟨tv, Jn 1 R ?_⟩
 cases h
 exact Jv1 _ tv ⟨R, _, S36.wk R⟩ (KM R)
 rintro _ w39 _ ⟨rfl, K40, S41⟩
 have h := hK26
 refine Jb 1 R (Ju (Ja2 (l := [.tmp 6]) V135 (Jp2 R R) R ?_))
 cases h
 exact ⟨K40, R, (hE.stp (S3.tr (S11.tr (S25.tr S41))) R R)⟩
theorem s_l7Won_ok {w : World} {κ : Col} {aj ah ae ak af ai} {p0 : Parity} (g0_0_0 : Rd (Rp.int .i64) κ w 0 aj ah p0.Arena.Owner) (g0_0_1 : Rd (Rp.sl (Rp.int .i64)) κ w 0 ae ak p0.Arena.Next) (g0_1 : Rd (Rp.int .i64) κ w 0 af ai p0.Prio) {r : (List Int)} (h : s_l7Won p0 = some r) : Ret Tryz.prog 97 [.agg #[.slice aj p0.Arena.Owner.length ah, .slice ae p0.Arena.Next.length ak, .slice af p0.Prio.length ai]] w (fun v w' => ∃ (κ' : Col) (ra0 : Option Addr) (ru0 : Nat), v = .slice ra0 r.length ru0 ∧ Ent κ w κ' w' ∧ Oc E6 2 κ' w' 2 ra0 ru0 r) := by
 unfold s_l7Won at h
 refine Ret.enter F97 R N97 R ?_
 dsimp only [envOf]
 have hE := Ent.refl κ w
 refine Je [1, 2] R (Jf1 (κ := κ) 2 R R R R R R R fun b1 w1 K2 S3 f4 => ⟨tv, Jb 1 R (Jq (Js1 (κ := K2) [2] none [(2, 2), (0, 0), (3, 0), (4, 2), (1, 1), (5, 1), (6, 1), (7, 2)] [] (by kernel_rfl) (by kernel_rfl) fun w6 S5 => Jf R (Jb2 U39 R Z22 R R) ?_))⟩)
 have f7 := f4.stp S5 R R
 refine Jg R (Jd2 (cs := [.slice aj p0.Arena.Owner.length ah, .slice ae p0.Arena.Next.length ak, .slice af p0.Prio.length ai]) I39 Z39 R R R (haC f7.cells R)) (Jg R (Jc2 I22 R R (hvC (f7.ld 2 R R) R)) (Jf R (Je2 U22 R R) (Ob h fun x7 hx7 h => Jh R R R C98 (s_l7Of_ok (κ := fun b => mp [] 1 (K2 b)) (p0 := p0) (Jl2 (g0_0_0.stp (S3.tr S5) R R) (mp [] 1) R R) (Jl2 (g0_0_1.stp (S3.tr S5) R R) (mp [] 1) R R) (Jl2 (g0_1.stp (S3.tr S5) R R) (mp [] 1) R R) hx7) ?_)))
 rintro _ w11 ⟨k12, ar, aA, ay, aw, aG, au, aB, ax, aF, aE, rfl, e13, f14, f15, f16, f17, f18⟩
 obtain ⟨K19, S20, m21, z22⟩ := Jj e13 3 R
 refine ⟨(S20.cl R), Ob h fun x11 hx11 h => Jh R R R C127 (s_l7All_ok (κ := fun b => mp [] 0 (K19 b)) hx11) ?_⟩
 rintro _ w28 ⟨k29, az, aD, rfl, e30, f31⟩
 obtain ⟨K32, S33, m34⟩ := Ji e30 10 R
 refine ⟨((S20.tr S33).cl R), Ob h fun x12 hx12 h => Jh R R R C126 (s_l7Win_ok _ (κ := fun b => mp [] 0 (K32 b)) (p0 := x7) (Jl2 ((f14.mx z22).stp S33 R R) (mp [] 0) R R) (Jl2 ((f15.mx z22).stp S33 R R) (mp [] 0) R R) (Jl2 ((f16.mx z22).stp S33 R R) (mp [] 0) R R) (Jl2 ((f17.mx (no_own (no_int _) _) m21 R (R : 3 + 5 = 8)).stp S33 R R).rdc (mp [] 0) R R) (Jl2 ((f18.mx (no_int _) m21 R (R : 3 + 6 = 9)).stp S33 R R).rdc (mp [] 0) R R) (Jl2 (f31.mx no_bool m34 R (R : 10 + 2 = 12)).rdc (mp [] 0) R R) hx12) ?_⟩
 rintro _ w42 ⟨k43, ap, aq, rfl, e44, f45⟩
 obtain ⟨K46, S47, m48⟩ := Ji e44 13 R
 refine ⟨((S20.tr (S33.tr S47)).cl R), ?_⟩
 have f50 := f45.mx no_bool m48 R (R : 13 + 2 = 15)
 refine Jn 1 R (Jt1 (Jd (Je [1, 2] R (Jo1 (κ := K46) (E := E6) 16 R R R R R Y22 Tryzinfo2 R fun an al w51 K52 S53 f54 => ⟨tv, Jb 1 R (Jq (Je [2] R (Jb 1 R ?_)))⟩))))
 have hN55 : (x12.length : Int) ≤ 9223372036854775807 := f50.len_le
 refine Ob h fun q2 hq57 hK56 => ?_
 clear h
 refine Jx1 (fun L w' => ∃ κ', ∃ s3 : (List Int), ∃ ac ab, L = [(4, .slice ac s3.length ab)] ∧ Stp [16] K52 w51 κ' w' ∧ Oc E6 2 κ' w' 16 ac ab s3 ∧ q2 = Sum.inr s3) ?_ ?_
 refine Jv (Jy1 (fun k L w' => ∃ κ' v5, ∃ s1 : (List Int), ∃ aa ad, L = [(3, .slice ap x12.length aq), (4, .slice aa s1.length ad), (5, vi v5)] ∧ Stp [16] K52 w51 κ' w' ∧ Oc E6 2 κ' w' 16 aa ad s1 ∧ 0 ≤ v5 ∧ Int.toNat ((x12.length : Int) - v5) = k ∧ cntM (s_l7Won_b0 x12) k v5 s1 = some q2) ⟨_, _, ⟨K52, 0, (([] : List Int) : (List Int)), an, al, R, (Jx2 _ _).wk R, f54, (by decide), (by simp), hq57⟩, (KM R)⟩ ?_)
 rintro k _ w62 ⟨K63, v5, s1, aa, ad, rfl, S64, f65, hj55, hJ55, h⟩
 rcases k with _ | k
 have hk66 := h; obtain ⟨o55, h⟩ := ex_eq (Sum.inr (Sum.inl s1) : (List Int) ⊕ (((List Int)) ⊕ ((List Int))))
 have hc55 : decide (v5 < (x12.length : Int)) = false := Jo2 (by omega)
 refine Jq (Je [2, 2, 2, 2] R (Jn 2 R (Jf R (Je2 U70 R R) (Jb 1 R (Jw2 R hc55 (Jc1 (Jt (Jt ?_))))))))
 cases h
 have h := hk66
 refine Jb1 ?_
 cases h
 exact Jw1 _ ⟨K63, (s1 : (List Int)), aa, ad, R, S64.wk R, f65, R⟩ (KM R)
 obtain ⟨o55, h, hk66⟩ := BI h; unfold s_l7Won_b0 at h
 have hc55 : decide (v5 < (x12.length : Int)) = true := Jn2 (by omega)
 refine Jq (Je [2, 2, 2, 2] R (Jn 2 R (Jf R (Je2 U70 R R) (Jb 1 R (Jv2 R hc55 (Js (Jp (Jq (Jv (Ja [2, 2, 2, 2, 1, 1, 2, 1, 1, 2] R (Jn 3 R (Ob h fun x23 hx23 h => Jf R (Jf2 f50.rdc hx23 U70 Z4 R R R R) (Jl tv R R R R (Jc2 I4 R R (hvE ((f50.stp (S53.tr S64) R R).rdc.gBool hx23))) (Ob h fun x25 hx25 h => Jh R R R C128 (s_l1Flag_ok (κ := fun b => mp [] 0 (K63 b)) hx25) ?_))))))))))))))
 rintro _ w68 ⟨k69, rfl, e70⟩
 obtain ⟨K71, S72, m73⟩ := Ji e70 17 R
 refine ⟨tv, Jn 1 R (Jn1 (κ := K71) (E := E6) 19 [] (parts := [(0, .tmp 26)]) (cells := [vi (IntKind.i64.wrap (1 - x25))]) (xs := ([(IntKind.i64.wrap (1 - x25))] : List Int)) R R R R R R Y22 Tryzinfo2 R R R R R R R R R R ⟨[vi (IntKind.i64.wrap (1 - x25))], [], Zl K71 w68 [], Zl K71 w68 [], R, Zl.sp (l1 := []) (l2 := []) R, Zl.sr (l1 := []) (l2 := []), R, R⟩ fun av aC w75 K76 S77 f78 => ⟨tv, Ob h fun x28 hx28 h => Jm1 (κ := K76) (E := E6) 16 [] R R R R R R R R R Y22 Tryzinfo2 R R R R (f65.stp (S72.tr S77) R R) (Sl.srcP (pu_int _) f78.rdc) sy_false hx28 R fun ao am w80 K81 S82 f83 => ⟨tv, Jc 1 R (Jz (Jp (Ja [2, 2, 2] R (Jc 3 R ?_))))⟩⟩)⟩
 have hw55 : IntKind.wrap .i64 (v5 + 1) = v5 + 1 := wr1 hj55 (Jm2 hc55) hN55
 rw [hw55]
 have hc55 := Jm2 hc55
 cases h
 exact Jz1 fun a ha => ⟨k, _, Ja3 _, ⟨K81, v5 + 1, (x28 : (List Int)), ao, am, R, (S64.tr (S72.tr (S77.tr S82))).wk R, f83, by omega, by omega, hk66⟩, (ha.mm R)⟩
 rintro _ w58 ⟨K59, s3, ac, ab, rfl, S60, f61, rfl⟩
 have h := hK56
 dsimp only [aft] at h
 refine Jp (Je [2, 2] R (Jb 2 R (Ju (Ja2 (l := [.tmp 2]) V97 (Jp2 R R) R ?_))))
 cases h
 exact ⟨(fun b => ren [(16, 2)] (K59 b)), ac, ab, R, ((hE.stp (S3.tr (S5.tr (S20.tr (S33.tr (S47.tr (S53.tr S60)))))) R R).map (ren [(16, 2)]) R R), (f61.map (ren [(16, 2)]) R R)⟩
theorem s_l7Holds_ok {w : World} {κ : Col} {ak ab aa ad af aj ac ah ae ai} {p0 : l7Game} {a1 u1} {p1 : (List Bool)} {p2 : Int} (g0_0 : Rd (Rp.int .i64) κ w 0 ak ab p0.owner) (g0_1 : Rd (Rp.int .i64) κ w 0 aa ad p0.prio) (g0_2 : Rd (Rp.sl (Rp.int .i64)) κ w 0 af aj p0.next) (g0_3 : Rd (Rp.sl (Rp.int .i64)) κ w 0 ac ah p0.prev) (g0_4 : Rd (Rp.int .i64) κ w 0 ae ai p0.pick) (g1 : Rd Rp.bool κ w 0 a1 u1 p1) {r : Bool} (h : s_l7Holds p0 p1 p2 = some r) : Ret Tryz.prog 129 [.agg #[.slice ak p0.owner.length ab, .slice aa p0.prio.length ad, .slice af p0.next.length aj, .slice ac p0.prev.length ah, .slice ae p0.pick.length ai], .slice a1 p1.length u1, vi p2] w (fun v w' => ∃ (κ' : Col), v = .bool r ∧ Ent κ w κ' w') := by
 unfold s_l7Holds at h
 refine Ret.enter F129 R N129 R ?_
 dsimp only [envOf]
 have hE := Ent.refl κ w
 refine Je [1, 2] R (Jf1 (κ := κ) 2 R R R R R R R fun b3 w1 K2 S3 f4 => ⟨tv, Jb 1 R (Je [1, 2, 1, 2] R (Jl tv R R R R (Jd2 (cs := [.slice ak p0.owner.length ab, .slice aa p0.prio.length ad, .slice af p0.next.length aj, .slice ac p0.prev.length ah, .slice ae p0.pick.length ai]) I111 Z111 R R R (haE f4.cells)) (Jn 1 R (Ob h fun x11 hx11 h => ?_))))⟩)
 have f10 := g1.stp S3 R R
 refine Jh R R R C126 (s_l7Win_ok _ (κ := fun b => mp [] 0 (K2 b)) (p0 := p0) (Jl2 (g0_0.stp S3 R R) (mp [] 0) R R) (Jl2 (g0_1.stp S3 R R) (mp [] 0) R R) (Jl2 (g0_2.stp S3 R R) (mp [] 0) R R) (Jl2 (g0_3.stp S3 R R) (mp [] 0) R R) (Jl2 (g0_4.stp S3 R R) (mp [] 0) R R) (Jl2 f10 (mp [] 0) R R) hx11) ?_
 rintro _ w11 ⟨k12, al, am, rfl, e13, f14⟩
 obtain ⟨K15, S16, m17⟩ := Ji e13 3 R
 refine ⟨tv, ?_⟩
 have f19 := f14.mx no_bool m17 R (R : 3 + 2 = 5)
 refine Jb 1 R (Jq (Je [2] R (Jb 1 R ?_)))
 have hN20 : (p1.length : Int) ≤ 9223372036854775807 := f10.len_le
 refine Ob h fun q2 hq22 hK21 => ?_
 clear h
 refine Jx1 (fun L w' => ∃ κ', L = [] ∧ Stp [] K15 w11 κ' w' ∧ q2 = Sum.inr ()) ?_ ?_
 refine Jv (Jy1 (fun k L w' => ∃ κ' v8, L = [(1, .slice a1 p1.length u1), (2, vi p2), (7, .slice al x11.length am), (8, vi v8)] ∧ Stp [] K15 w11 κ' w' ∧ 0 ≤ v8 ∧ Int.toNat ((p1.length : Int) - v8) = k ∧ cntM (s_l7Holds_b0 p1 p2 x11) k v8 () = some q2) ⟨_, _, ⟨K15, 0, R, (Jx2 _ _).wk R, (by decide), (by simp), hq22⟩, (KM R)⟩ ?_)
 rintro k _ w26 ⟨K27, v8, rfl, S28, hj20, hJ20, h⟩
 rcases k with _ | k
 have hk29 := h; obtain ⟨o20, h⟩ := ex_eq (Sum.inr (Sum.inl ()) : Bool ⊕ ((Unit) ⊕ (Unit)))
 have hc20 : decide (v8 < (p1.length : Int)) = false := Jo2 (by omega)
 refine Jq (Je [2, 2, 2, 2] R (Jn 2 R (Jf R (Je2 U70 R R) (Jb 1 R (Jw2 R hc20 (Jc1 (Jt (Jt ?_))))))))
 cases h
 have h := hk29
 refine Jb1 ?_
 cases h
 exact Jw1 _ ⟨K27, R, S28.wk R, R⟩ KN
 obtain ⟨o20, h, hk29⟩ := BI h; unfold s_l7Holds_b0 at h
 have hc20 : decide (v8 < (p1.length : Int)) = true := Jn2 (by omega)
 refine Jq (Je [2, 2, 2, 2] R (Jn 2 R (Jf R (Je2 U70 R R) (Jb 1 R (Jv2 R hc20 (Js (Jp (Jq (Jv (Je [2, 2, 2, 1, 2, 2, 2, 2, 1, 2, 2, 2, 2] R (Jn 2 R (Ob h fun x20 hx20 h => Jf R (Jf2 f10 hx20 U70 Z4 R R R R) (Jl tv R R R R (Jc2 I4 R R (hvE ((f10.stp (S16.tr S28) R R).gBool hx20))) (Jn 1 R (Ob h fun p30 h hK31 => Ju1 [(5, 2), (6, 2), (7, 2), (8, 1), (9, 2), (10, 2), (11, 2), (12, 2)] [] (fun L w' => L = [(1, .slice a1 p1.length u1), (2, vi p2), (7, .slice al x11.length am), (8, vi v8), (30, .bool p30)] ∧ ∃ κ', Stp [] K27 w26 κ' w') tv ?_ ?_)))))))))))))))
 revert h
 cases ht32 : x20
 refine JF fun h => Jn 3 R (Jd1 R R R R (Jn 4 R ?_))
 cases h
 exact Jv1 _ tv ⟨R, _, (Jx2 _ _).wk R⟩ (KM R)
 refine JT fun h => Jn 2 R (Ob h fun x25 hx25 h => Jf R (Jf2 f19.rdc hx25 U70 Z4 R R R R) (Jl tv R R R R (Jc2 I4 R R (hvE ((f19.stp S28 R R).rdc.gBool hx25))) (Jn 2 R (Jf R (rn_neqB R R U4 R) (Jn 1 R ?_)))))
 cases h
 exact Jv1 _ tv ⟨R, _, (Jx2 _ _).wk R⟩ (KM R)
 rintro _ w34 _ ⟨rfl, K35, S36⟩
 have h := hK31
 refine Jd ?_
 revert h
 cases ht37 : p30
 refine JF fun h => Jy R (Js (Jz (Jp (Ja [2, 2, 2] R (Jc 3 R ?_)))))
 have hw20 : IntKind.wrap .i64 (v8 + 1) = v8 + 1 := wr1 hj20 (Jm2 hc20) hN20
 rw [hw20]
 have hc20 := Jm2 hc20
 cases h
 exact Jz1 fun a ha => ⟨k, _, Ja3 _, ⟨K35, v8 + 1, R, (S28.tr S36).wk R, by omega, by omega, hk29⟩, (ha.mm R)⟩
 refine JT fun h => Jx R (Je [2] R (Jb 1 R (Ju (Ja1 (Jw (Jw ?_))))))
 cases h
 obtain rfl := Option.some.inj hk29
 have h := hK21
 dsimp only [aft] at h
 refine Ja1 (Jq2 (Jw (Ja2 (l := [.tmp 6]) V129 (Jp2 R R) R ?_)))
 cases h
 exact ⟨K35, R, (hE.stp (S3.tr (S16.tr (S28.tr S36))) R R)⟩
 rintro _ w23 ⟨K24, rfl, S25, rfl⟩
 have h := hK21
 dsimp only [aft] at h
 refine Jp (Je [2] R (Jb 1 R (Ju (Ja2 (l := [.tmp 6]) V129 (Jp2 R R) R ?_))))
 cases h
 exact ⟨K24, R, (hE.stp (S3.tr (S16.tr S25)) R R)⟩
theorem i_winsBy_ok {w : World} {κ : Col} {ac ab aa ad ae af} {p0 : Parity} {p1 : Int} {a2 u2} {p2 : (List Int)} {a3 u3} {p3 : (List Int)} (g0_0_0 : Rd (Rp.int .i64) κ w 0 ac ab p0.Arena.Owner) (g0_0_1 : Rd (Rp.sl (Rp.int .i64)) κ w 0 aa ad p0.Arena.Next) (g0_1 : Rd (Rp.int .i64) κ w 0 ae af p0.Prio) (g2 : Rd (Rp.int .i64) κ w 0 a2 u2 p2) (g3 : Rd (Rp.int .i64) κ w 0 a3 u3 p3) {r : Bool} (h : i_winsBy p0 p1 p2 p3 = some r) : Ret Tryz.prog 81 [.agg #[.slice ac p0.Arena.Owner.length ab, .slice aa p0.Arena.Next.length ad, .slice ae p0.Prio.length af], vi p1, .slice a2 p2.length u2, .slice a3 p3.length u3] w (fun v w' => ∃ (κ' : Col), v = .bool r ∧ Ent κ w κ' w') := by
 unfold i_winsBy at h
 refine Ret.enter F81 R N81 R ?_
 dsimp only [envOf]
 have hE := Ent.refl κ w
 refine Je [1, 2] R (Jf1 (κ := κ) 2 R R R R R R R fun b4 w1 K2 S3 f4 => ⟨tv, Jb 1 R (Je [2, 1, 2, 2, 2, 1, 2, 1, 2, 2, 2, 1, 2, 2, 2, 2] R (Jf R (Jb2 U39 R Z37 R R) (Jl tv R R R R (Jd2 (cs := [.slice ac p0.Arena.Owner.length ab, .slice aa p0.Arena.Next.length ad]) I37 Z37 R R R (haE (f4.lds 0 2 R))) (Jn 3 R (Ob h fun x14 hx14 h => ?_)))))⟩)
 have f5 := g0_0_0.stp S3 R R
 have f6 := g0_0_1.stp S3 R R
 have f7 := g2.stp S3 R R
 have f8 := g3.stp S3 R R
 refine Jh R R R C115 (i_closedIn_ok (κ := fun b => mp [] 0 (K2 b)) (p0 := p0.Arena) (Jl2 f5 (mp [] 0) R R) (Jl2 f6 (mp [] 0) R R) (Jl2 f7 (mp [] 0) R R) (Jl2 f8 (mp [] 0) R R) hx14) ?_
 rintro _ w9 ⟨k10, rfl, e11⟩
 obtain ⟨K12, S13, m14⟩ := Ji e11 3 R
 refine ⟨tv, Jn 1 R (Ob h fun p23 h hK16 => Ju1 [(7, 1), (8, 2), (9, 2), (10, 2), (11, 1), (12, 2), (13, 2), (14, 2)] [(15, 2)] (fun L w' => L = [(8, .bool false), (23, .bool p23)] ∧ ∃ κ', Stp [] K12 w9 κ' w') tv ?_ ?_)⟩
 revert h
 cases ht17 : x14
 refine JF fun h => Jd1 R R R R (Jn 3 R (Jd1 R R R R (Jn 3 R ?_)))
 cases h
 exact Jv1 _ tv ⟨R, _, (Jx2 _ _).wk R⟩ (KM R)
 refine JT fun h => Jl tv R R R R (Jd2 (cs := [.slice ac p0.Arena.Owner.length ab, .slice aa p0.Arena.Next.length ad, .slice ae p0.Prio.length af]) I39 Z39 R R R (haE (f4.stp S13 R R).cells)) (Jn 3 R (Ob h fun x20 hx20 h => Jh R R R C116 (i_badLoops_ok (κ := fun b => mp [] 0 (K12 b)) (p0 := p0) (Jl2 (f5.stp S13 R R) (mp [] 0) R R) (Jl2 (f6.stp S13 R R) (mp [] 0) R R) (Jl2 (g0_1.stp (S3.tr S13) R R) (mp [] 0) R R) (Jl2 (f7.stp S13 R R) (mp [] 0) R R) (Jl2 (f8.stp S13 R R) (mp [] 0) R R) hx20) ?_))
 rintro _ w24 ⟨k25, ah, ai, rfl, e26, f27⟩
 obtain ⟨K28, S29, m30⟩ := Ji e26 5 R
 refine ⟨tv, Jf R (Je2 U22 R R) (Jn 2 R ?_)⟩
 cases h
 exact Jv1 _ tv ⟨R, _, S29.wk R⟩ (KM R)
 rintro _ w33 _ ⟨rfl, K34, S35⟩
 have h := hK16
 refine Jb 1 R (Ju (Ja2 (l := [.tmp 8]) V81 (Jp2 R R) R ?_))
 cases h
 exact ⟨K34, R, (hE.stp (S3.tr (S13.tr S35)) R R)⟩
theorem i_bothOf_ok {w : World} {κ : Col} {a0 u0} {p0 : (List Int)} {a1 u1} {p1 : (List Int)} (g0 : Rd (Rp.int .i64) κ w 0 a0 u0 p0) (g1 : Rd (Rp.int .i64) κ w 0 a1 u1 p1) {r : (List Int)} (h : i_bothOf p0 p1 = some r) : Ret Tryz.prog 89 [.slice a0 p0.length u0, .slice a1 p1.length u1] w (fun v w' => ∃ (κ' : Col) (ra0 : Option Addr) (ru0 : Nat), v = .slice ra0 r.length ru0 ∧ Ent κ w κ' w' ∧ Oc E6 2 κ' w' 2 ra0 ru0 r) := by
 unfold i_bothOf at h
 refine Ret.enter F89 R N89 R ?_
 dsimp only [envOf]
 have hE := Ent.refl κ w
 refine Je [2] R (Jb 1 R (Je [1, 2, 1, 2, 2, 1, 1, 2] R (Jo1 (κ := κ) (E := E6) 2 R R R R R Y22 Tryzinfo2 R fun a6 u6 w1 K2 S3 f4 => ⟨tv, Jn 1 R (Ob h fun x8 hx8 h => ?_)⟩)))
 have f5 := g0.stp S3 R R
 refine Jm1 (κ := K2) (E := E6) 2 [] R R R R R R R R R Y22 Tryzinfo2 R R R R f4 (Sl.srcP (pu_int _) f5) sy_false hx8 R fun a8 u8 w6 K7 S8 f9 => ⟨tv, Jn 2 R (Ob h fun x11 hx11 h => Jh R R R C90 (i_lessOf_ok (κ := fun b => mp [] 0 (K7 b)) (Jl2 (g1.stp (S3.tr S8) R R) (mp [] 0) R R) (Jl2 (f5.stp S8 R R) (mp [] 0) R R) hx11) ?_)⟩
 rintro _ w12 ⟨k13, ad, ac, rfl, e14, f15⟩
 obtain ⟨K16, S17, m18⟩ := Ji e14 3 R
 refine ⟨tv, Ob h fun x12 hx12 h => Jm1 (κ := K16) (E := E6) 2 [] R R R R R R R R R Y22 Tryzinfo2 R R R R (f9.stp S17 R R) (Sl.srcP (pu_int _) (f15.mx (no_int _) m18 R (R : 3 + 2 = 5)).rdc) sy_false hx12 R fun aa ab w22 K23 S24 f25 => ⟨tv, Jb 1 R (Je [2, 1] R (Jn 1 R (Ob h fun x14 hx14 h => Jh R R R C120 (slices_Sort_I_int64_ok (κ := fun b => mp [(2, 2)] 0 (K23 b)) (f25.map (mp [(2, 2)] 0) R R) hx14) ?_)))⟩⟩
 rintro _ w26 ⟨k27, rfl, e28, f29, hn30⟩
 obtain ⟨K31, S32, m33⟩ := Ji e28 6 R
 refine ⟨tv, Jd (Je [2, 2] R (Jb 2 R (Ju (Ja2 (l := [.tmp 4]) V89 (Jp2 R R) R ?_))))⟩
 cases h
 exact ⟨(fun b => ren [(8, 2)] (K31 b)), aa, ab, (by simp only [(hn30)]), ((hE.stp (S3.tr (S8.tr (S17.tr (S24.tr S32)))) R R).map (ren [(8, 2)]) R R), ((f29.mx (no_int _) m33 R (R : 6 + 2 = 8)).map (ren [(8, 2)]) R R)⟩
theorem i_winners_ok {w : World} {κ : Col} {ae ad ac af ah ai} {p0 : Parity} (g0_0_0 : Rd (Rp.int .i64) κ w 0 ae ad p0.Arena.Owner) (g0_0_1 : Rd (Rp.sl (Rp.int .i64)) κ w 0 ac af p0.Arena.Next) (g0_1 : Rd (Rp.int .i64) κ w 0 ah ai p0.Prio) {r : (List Int)} (h : i_winners p0 = some r) : Ret Tryz.prog 61 [.agg #[.slice ae p0.Arena.Owner.length ad, .slice ac p0.Arena.Next.length af, .slice ah p0.Prio.length ai]] w (fun v w' => ∃ (κ' : Col) (ra0 : Option Addr) (ru0 : Nat), v = .slice ra0 r.length ru0 ∧ Ent κ w κ' w' ∧ Oc E6 2 κ' w' 2 ra0 ru0 r) := by
 unfold i_winners at h
 refine Ret.enter F61 R N61 R ?_
 dsimp only [envOf]
 have hE := Ent.refl κ w
 refine Je [1, 2] R (Jf1 (κ := κ) 2 R R R R R R R fun b1 w1 K2 S3 f4 => ⟨tv, Jb 1 R (Je [2, 1, 2, 1, 2] R (Jf R (Jb2 U39 R Z22 R R) (Jl tv R R R R (Jc2 I22 R R (hvE (f4.ld 2 R R))) (Jf R (Je2 U22 R R) (Ob h fun x11 hx11 h => Jl1 (κ := K2) (E := E6) (z := (0 : Int)) 3 R R R R R R R Y22 Tryzinfo2 R R R R R (fun _ _ _ => R) (Ju2 hx11) fun aa ab w5 K6 S7 f8 => ⟨tv, Jb 1 R (Jq (Js1 (κ := K6) [2] none [(1, 2), (0, 0), (2, 0), (3, 1), (4, 1), (5, 2), (6, 2), (7, 2), (8, 2), (9, 2)] [] (by kernel_rfl) (by kernel_rfl) fun w10 S9 => Jf R (Jb2 U39 R Z37 R R) ?_))⟩)))))⟩)
 have f11 := f4.stp (S7.tr S9) R R
 refine Jg R (Jd2 (cs := [.slice ae p0.Arena.Owner.length ad, .slice ac p0.Arena.Next.length af, .slice ah p0.Prio.length ai]) I39 Z39 R R R (haC f11.cells R)) (Jg R (Jd2 (cs := [.slice ae p0.Arena.Owner.length ad, .slice ac p0.Arena.Next.length af]) I37 Z37 R R R (haC (f11.lds 0 2 R) R)) (Ob h fun x16 hx16 h => ?_))
 have f12 := g0_0_0.stp (S3.tr (S7.tr S9)) R R
 have f13 := g0_0_1.stp (S3.tr (S7.tr S9)) R R
 refine Jh R R R C102 (i_allOf_ok (κ := fun b => mp [] 0 (K6 b)) (p0 := p0.Arena) (Jl2 f12 (mp [] 0) R R) (Jl2 f13 (mp [] 0) R R) hx16) ?_
 rintro _ w14 ⟨k15, al, an, rfl, e16, f17⟩
 obtain ⟨K18, S19, m20⟩ := Ji e16 4 R
 refine ⟨(S19.cl R), Ob h fun x17 hx17 h => Jh R R R C101 (i_wonIn_ok (κ := fun b => mp [] 0 (K18 b)) (p0 := p0) (Jl2 (f12.stp S19 R R) (mp [] 0) R R) (Jl2 (f13.stp S19 R R) (mp [] 0) R R) (Jl2 (g0_1.stp (S3.tr (S7.tr (S9.tr S19))) R R) (mp [] 0) R R) (Jl2 (f17.mx (no_int _) m20 R (R : 4 + 2 = 6)).rdc (mp [] 0) R R) hx17) ?_⟩
 rintro _ w26 ⟨k27, ao, am, ak, aj, rfl, e28, f29, f30⟩
 obtain ⟨K31, S32, m33⟩ := Ji e28 7 R
 refine ⟨((S19.tr S32).cl R), ?_⟩
 have f36 := f30.mx (no_int _) m33 R (R : 7 + 3 = 10)
 refine Jn 5 R (Jt1 (Jd (Jq (Je [2, 2, 2] R (Jn 1 R (Jf R (Je2 U22 R R) (Jb 1 R ?_)))))))
 have hN37 : (x17.2.length : Int) ≤ 9223372036854775807 := f36.len_le
 refine Ob h fun q2 hq39 hK38 => ?_
 clear h
 refine Jx1 (fun L w' => ∃ κ', ∃ s3 : (List Int), L = [(3, .slice aa x11.length ab)] ∧ Stp [3] K31 w26 κ' w' ∧ Oc E6 2 κ' w' 3 aa ab s3 ∧ x11.length = s3.length ∧ q2 = Sum.inr s3) ?_ ?_
 refine Jv (Jy1 (fun k L w' => ∃ κ' v22, ∃ s1 : (List Int), L = [(3, .slice aa x11.length ab), (20, .slice ak x17.2.length aj), (21, vi (x17.2.length : Int)), (22, vi v22)] ∧ Stp [3] K31 w26 κ' w' ∧ Oc E6 2 κ' w' 3 aa ab s1 ∧ x11.length = s1.length ∧ 0 ≤ v22 ∧ Int.toNat ((x17.2.length : Int) - v22) = k ∧ cntM (i_winners_b0 x17) k v22 s1 = some q2) ⟨_, _, ⟨K31, 0, (x11 : (List Int)), R, (Jx2 _ _).wk R, (f8.stp (S9.tr (S19.tr S32)) R R), R, (by decide), (by simp), hq39⟩, (KM R)⟩ ?_)
 rintro k _ w45 ⟨K46, v22, s1, rfl, S47, f48, hn49, hj37, hJ37, h⟩
 rcases k with _ | k
 have hk51 := h; obtain ⟨o37, h⟩ := ex_eq (Sum.inr (Sum.inl s1) : (List Int) ⊕ (((List Int)) ⊕ ((List Int))))
 have hc37 : decide (v22 < (x17.2.length : Int)) = false := Jo2 (by omega)
 refine Je [2] R (Jb 1 R (Jq (Jw2 R hc37 (Jc1 (Jt (Jt ?_))))))
 cases h
 have h := hk51
 refine Jb1 ?_
 cases h
 exact Jw1 _ ⟨K46, (s1 : (List Int)), R, S47.wk R, f48, hn49, R⟩ (KM R)
 obtain ⟨o37, h, hk51⟩ := BI h; unfold i_winners_b0 at h
 have hc37 : decide (v22 < (x17.2.length : Int)) = true := Jn2 (by omega)
 refine Je [2] R (Jb 1 R (Jq (Jv2 R hc37 (Js (Jp (Jq (Jv (Je [2, 1, 2] R (Ob h fun x24 hx24 h => Jf R (Jf2 f36.rdc hx24 U22 Z2 R R R R) (Jl tv R R R R (Jc2 I2 R R (hvE ((f36.stp S47 R R).rdc.gInt hx24))) (Jb 1 R (Ja [2, 2, 2, 1] R (Jn 2 R (Ob h fun x28 hx28 h => Jf R (Jf2 f48.rdc hx28 U22 Z2 R R hn49 R) (Ob h fun y312 hy312 h => Jk1 (κ := K46) (E := E6) 3 [] R R R R R R R R Z2 R R R R f48 hy312 fun w53 K54 S55 f56 => ⟨tv, ?_⟩)))))))))))))))
 have hn57 : x11.length = y312.length := hn49.trans (Jt2 hy312).2.2.2.symm
 refine Jo (Jz (Jp (Ja [2, 2] R (Jc 2 R ?_))))
 have hw37 : IntKind.wrap .i64 (v22 + 1) = v22 + 1 := wr1 hj37 (Jm2 hc37) hN37
 rw [hw37]
 have hc37 := Jm2 hc37
 cases h
 exact Jz1 fun a ha => ⟨k, _, Ja3 _, ⟨K54, v22 + 1, (y312 : (List Int)), R, (S47.tr S55).wk R, f56, hn57, by omega, by omega, hk51⟩, (ha.mm R)⟩
 rintro _ w40 ⟨K41, s3, rfl, S42, f43, hn44, rfl⟩
 have h := hK38
 dsimp only [aft] at h
 refine Jp (Je [2, 2] R (Jb 2 R (Ju (Ja2 (l := [.tmp 2]) V61 (Jp2 R R) R ?_))))
 cases h
 exact ⟨(fun b => ren [(3, 2)] (K41 b)), aa, ab, (by simp only [hn44]), ((hE.stp (S3.tr (S7.tr (S9.tr (S19.tr (S32.tr S42))))) R R).map (ren [(3, 2)]) R R), (f43.map (ren [(3, 2)]) R R)⟩
theorem i_planFrom_ok {w : World} {κ : Col} {al aj ah ae ai ak} {p0 : Parity} {a1 u1} {p1 : (List Int)} {a2 u2} {p2 : (List Int)} (g0_0_0 : Rd (Rp.int .i64) κ w 0 al aj p0.Arena.Owner) (g0_0_1 : Rd (Rp.sl (Rp.int .i64)) κ w 0 ah ae p0.Arena.Next) (g0_1 : Rd (Rp.int .i64) κ w 0 ai ak p0.Prio) (g1 : Rd (Rp.int .i64) κ w 0 a1 u1 p1) (g2 : Rd (Rp.int .i64) κ w 0 a2 u2 p2) {r : Answer} (h : i_planFrom p0 p1 p2 = some r) : Ret Tryz.prog 87 [.agg #[.slice al p0.Arena.Owner.length aj, .slice ah p0.Arena.Next.length ae, .slice ai p0.Prio.length ak], .slice a1 p1.length u1, .slice a2 p2.length u2] w (fun v w' => ∃ (κ' : Col) (ra0 : Option Addr) (ru0 : Nat) (ra1 : Option Addr) (ru1 : Nat), v = .agg #[.slice ra0 r.Won.length ru0, .slice ra1 r.Plan.length ru1] ∧ Ent κ w κ' w' ∧ Oc E6 2 κ' w' 2 ra0 ru0 r.Won ∧ Oc E6 2 κ' w' 3 ra1 ru1 r.Plan) := by
 unfold i_planFrom at h
 refine Ret.enter F87 R N87 R ?_
 dsimp only [envOf]
 have hE := Ent.refl κ w
 refine Je [1, 1] R (Jf1 (κ := κ) 2 R R R R R R R fun b3 w1 K2 S3 f4 => ⟨tv, Jg1 (κ := K2) 3 R R R R R X34 R fun b6 w5 K6 S7 f8 => ⟨tv, Jd (Je [1, 2, 1, 2] R (Jo1 (κ := K6) (E := E6) 4 R R R R R Y22 Tryzinfo2 R fun aq ar w9 K10 S11 f12 => ⟨tv, Jn 1 R (Ob h fun x16 hx16 h => Jm1 (κ := K10) (E := E6) 4 [] R R R R R R R R R Y22 Tryzinfo2 R R R R f12 (Sl.srcP (pu_int _) (g1.stp (S3.tr (S7.tr S11)) R R)) sy_false hx16 R fun aa ab w14 K15 S16 f17 => ⟨tv, Jb 1 R (Jq (Je [2, 2, 2] R (Jn 1 R (Jf R (Je2 U22 R R) (Jb 1 R ?_)))))⟩)⟩))⟩⟩)
 have hN18 : (x16.length : Int) ≤ 9223372036854775807 := f17.len_le
 refine Ob h fun q2 hq20 hK19 => ?_
 clear h
 refine Jx1 (fun L w' => ∃ κ', ∃ s3 : (List Int), L = [(2, .slice a2 p2.length u2), (6, .pointer (some ⟨b6, 0, none⟩)), (7, .slice aa x16.length ab)] ∧ Stp [4] K15 w14 κ' w' ∧ Oc E6 2 κ' w' 4 aa ab s3 ∧ x16.length = s3.length ∧ q2 = Sum.inr s3) ?_ ?_
 refine Jv (Jy1 (fun k L w' => ∃ κ' v19, ∃ s1 : (List Int), L = [(2, .slice a2 p2.length u2), (3, .pointer (some ⟨b3, 0, none⟩)), (6, .pointer (some ⟨b6, 0, none⟩)), (7, .slice aa x16.length ab), (18, vi (x16.length : Int)), (19, vi v19)] ∧ Stp [4] K15 w14 κ' w' ∧ Oc E6 2 κ' w' 4 aa ab s1 ∧ x16.length = s1.length ∧ 0 ≤ v19 ∧ Int.toNat ((x16.length : Int) - v19) = k ∧ cntM (i_planFrom_b0 p0 p2) k v19 s1 = some q2) ⟨_, _, ⟨K15, 0, (x16 : (List Int)), R, (Jx2 _ _).wk R, f17, R, (by decide), (by simp), hq20⟩, (KM R)⟩ ?_)
 rintro k _ w26 ⟨K27, v19, s1, rfl, S28, f29, hn30, hj18, hJ18, h⟩
 rcases k with _ | k
 have hk31 := h; obtain ⟨o18, h⟩ := ex_eq (Sum.inr (Sum.inl s1) : Answer ⊕ (((List Int)) ⊕ ((List Int))))
 have hc18 : decide (v19 < (x16.length : Int)) = false := Jo2 (by omega)
 refine Je [2] R (Jb 1 R (Jq (Jw2 R hc18 (Jc1 (Jt (Jt ?_))))))
 cases h
 have h := hk31
 refine Jb1 ?_
 cases h
 exact Jw1 _ ⟨K27, (s1 : (List Int)), R, S28.wk R, f29, hn30, R⟩ (KM R)
 obtain ⟨o18, h, hk31⟩ := BI h; unfold i_planFrom_b0 at h
 have hc18 : decide (v19 < (x16.length : Int)) = true := Jn2 (by omega)
 refine Je [2] R (Jb 1 R (Jq (Jv2 R hc18 (Js (Jp (Jq (Jv (Je [2, 2] R (Jb 2 R (Jq (Jq (Js1 (κ := K27) [0, 2, 4] none [(0, 2), (1, 2), (3, 2), (6, 2), (7, 2), (8, 2), (2, 0), (4, 2), (5, 0), (9, 0), (10, 2), (11, 2), (12, 2), (13, 2), (14, 2), (15, 0), (16, 2), (17, 2)] [] (by kernel_rfl) (by kernel_rfl) fun w33 S32 => Jf R (Jb2 U39 R Z37 R R) (Jf R (Jb2 U37 R Z22 R R) (Jn 3 R (Ob h fun x30 hx30 h => Jf R (Jf2 g2 hx30 U22 Z2 R R R R) ?_)))))))))))))))
 have f34 := f4.stp (S7.tr (S11.tr (S16.tr (S28.tr S32)))) R R
 refine Jg R (Jc2 I22 R R (hvC (f34.ld 0 R R) R)) (Ob h fun x26 hx26 h => Jf R (Jf2 g0_0_0 hx26 U22 Z2 R R R R) ?_)
 have f35 := g0_0_0.stp (S3.tr (S7.tr (S11.tr (S16.tr (S28.tr S32))))) R R
 refine Jg R (Jc2 I2 R R (hvC (f35.gInt hx26) R)) ?_
 have f36 := g2.stp (S3.tr (S7.tr (S11.tr (S16.tr (S28.tr S32))))) R R
 refine Jg R (Jc2 I2 R R (hvC (f36.gInt hx30) R)) (Jn 2 R (Ob h fun p39 h hK37 => Ju1 [(12, 2), (13, 2), (14, 2), (15, 0), (16, 2), (17, 2)] [] (fun L w' => L = [(2, .slice a2 p2.length u2), (3, .pointer (some ⟨b3, 0, none⟩)), (6, .pointer (some ⟨b6, 0, none⟩)), (7, .slice aa x16.length ab), (8, vi v19), (18, vi (x16.length : Int)), (19, vi v19), (39, .bool p39)] ∧ ∃ κ', Stp [] K27 w33 κ' w') (Cl.refl _ _ _) ?_ ?_))
 revert h
 cases ht38 : (x26 != x30)
 refine JF fun h => Jn 2 R (Ob h fun x36 hx36 h => Jf R (Jf2 f29.rdc hx36 U22 Z2 R R hn30 R) (Jg R (Jc2 I2 R R (hvC ((f29.stp S32 R R).rdc.gInt hx36) R)) (Jn 2 R ?_)))
 cases h
 exact Jv1 _ (Cl.refl _ _ _) ⟨R, _, (Jx2 _ _).wk R⟩ (KM R)
 refine JT fun h => Jn 3 R (Je1 R R R R (Jn 2 R ?_))
 cases h
 exact Jv1 _ (Cl.refl _ _ _) ⟨R, _, (Jx2 _ _).wk R⟩ (KM R)
 rintro _ w40 _ ⟨rfl, K41, S42⟩
 have h := hK37
 refine Jt1 (Jd ?_)
 revert h
 cases ht43 : p39
 refine JF fun h => Jy R (Js (Jp (Je [2, 2, 2, 2, 2, 1, 1, 2] R (Jn 1 R (Jf R (rn_build (parts := [(0, .tmp 40)]) (cells := [.slice a2 p2.length u2, .slice none 0 0]) R R (by kernel_rfl)) (Jn 2 R (Ob h fun x44 hx44 h => Jf R (Jf2 f36 hx44 U22 Z2 R R R R) ?_)))))))
 have f45 := f36.stp S42 R R
 refine Jl tv R R R R (Jc2 I2 R R (hvE (f45.gInt hx44))) (Ob h fun x46 hx46 h => Jh R R R C82 (i_RegionOf_ok (κ := fun b => mp [] 0 (K41 b)) (p0 := (⟨p2, ([] : List Int)⟩ : Answer)) (Jl2 f45 (mp [] 0) R R) Sl.nil hx46) ?_)
 rintro _ w46 ⟨k47, ad, ac, rfl, e48, f49⟩
 obtain ⟨K50, S51, m52⟩ := Ji e48 5 R
 refine ⟨tv, Jb 1 R (Je [2, 2, 1, 2, 2, 1, 2, 2] R (Jf R (Jb2 U39 R Z37 R R) (Jf R (Jb2 U37 R Z23 R R) ?_)))⟩
 have f55 := f34.stp (S42.tr S51) R R
 refine Jl tv R R R R (Jc2 I23 R R (hvE (f55.ld 1 R R))) (Jn 1 R (Ob h fun x51 hx51 h => Jf R (Jf2 g0_0_1 hx51 U23 Z22 R R R R) ?_))
 have f56 := g0_0_1.stp (S3.tr (S7.tr (S11.tr (S16.tr (S28.tr (S32.tr (S42.tr S51))))))) R R
 obtain ⟨ax51, ux51, f57, hl58⟩ := f56.gSl hx51
 refine Jl tv R R R R (Jc2 I22 R R (hvE hl58)) (Jf R (Je2 U22 R R) (Jb 1 R ?_))
 have hN59 : (x51.length : Int) ≤ 9223372036854775807 := f57.len_le
 refine Ob h fun q5 hq61 hK60 => ?_
 clear h
 refine Jx1 (fun L w' => ∃ κ', ∃ s6 : (List Int), L = [(2, .slice a2 p2.length u2), (3, .pointer (some ⟨b3, 0, none⟩)), (6, .pointer (some ⟨b6, 0, none⟩)), (7, .slice aa x16.length ab), (18, vi (x16.length : Int)), (19, vi v19)] ∧ Stp [4] K50 w46 κ' w' ∧ Oc E6 2 κ' w' 4 aa ab s6 ∧ x16.length = s6.length ∧ q5 = Sum.inr s6) ?_ ?_
 refine Jv (Jy1 (fun k L w' => ∃ κ' v54, ∃ s4 : (List Int), L = [(2, .slice a2 p2.length u2), (3, .pointer (some ⟨b3, 0, none⟩)), (6, .pointer (some ⟨b6, 0, none⟩)), (7, .slice aa x16.length ab), (8, vi v19), (9, .slice ad x46.length ac), (18, vi (x16.length : Int)), (19, vi v19), (52, .slice ax51 x51.length ux51), (53, vi (x51.length : Int)), (54, vi v54)] ∧ Stp [4] K50 w46 κ' w' ∧ Oc E6 2 κ' w' 4 aa ab s4 ∧ x16.length = s4.length ∧ 0 ≤ v54 ∧ Int.toNat ((x51.length : Int) - v54) = k ∧ cntM (i_planFrom_b2 p0 p2 v19 x46 x51) k v54 s4 = some q5) ⟨_, _, ⟨K50, 0, (s1 : (List Int)), R, (Jx2 _ _).wk R, (f29.stp (S32.tr (S42.tr S51)) R R), hn30, (by decide), (by simp), hq61⟩, (KM R)⟩ ?_)
 rintro k _ w67 ⟨K68, v54, s4, rfl, S69, f70, hn71, hj59, hJ59, h⟩
 rcases k with _ | k
 have hk73 := h; obtain ⟨o59, h⟩ := ex_eq (Sum.inr (Sum.inl s4) : Answer ⊕ (((List Int)) ⊕ ((List Int))))
 have hc59 : decide (v54 < (x51.length : Int)) = false := Jo2 (by omega)
 refine Je [2] R (Jb 1 R (Jq (Jw2 R hc59 (Jc1 (Jt (Jt ?_))))))
 cases h
 have h := hk73
 refine Jb1 ?_
 cases h
 exact Jw1 _ ⟨K68, (s4 : (List Int)), R, S69.wk R, f70, hn71, R⟩ (KM R)
 obtain ⟨o59, h, hk73⟩ := BI h; unfold i_planFrom_b2 at h
 have hc59 : decide (v54 < (x51.length : Int)) = true := Jn2 (by omega)
 refine Je [2] R (Jb 1 R (Jq (Jv2 R hc59 (Js (Jp (Jq (Jv (Je [2, 1, 2] R (Ob h fun x56 hx56 h => Jf R (Jf2 f57 hx56 U22 Z2 R R R R) (Jl tv R R R R (Jc2 I2 R R (hvE ((f57.stp S69 R R).gInt hx56))) (Jb 1 R (Jq (Jq (Js1 (κ := K68) [0] none [(0, 2), (1, 2), (2, 2), (4, 2), (5, 2), (6, 2), (3, 0), (7, 0), (8, 2)] [] (by kernel_rfl) (by kernel_rfl) fun w76 S75 => Jn 2 R (Ob h fun x60 hx60 h => Jf R (Jf2 f45 hx60 U22 Z2 R R R R) (Jn 2 R (Ob h fun x64 hx64 h => Jf R (Jf2 f45 hx64 U22 Z2 R R R R) ?_)))))))))))))))))
 have f77 := f45.stp (S51.tr (S69.tr S75)) R R
 refine Jg R (Jc2 I2 R R (hvC (f77.gInt hx60) R)) (Jg R (Jc2 I2 R R (hvC (f77.gInt hx64) R)) (Jn 1 R (Jt1 (Jd ?_))))
 revert h
 cases ht78 : (x60 != x64)
 refine JF fun h => Jy R (Js (Jp (Je [2, 2, 2, 2, 1] R (Jn 3 R (Ob h fun x70 hx70 h => Jf R (Jf2 f70.rdc hx70 U22 Z2 R R hn71 R) (Ob h fun y316 hy316 h => Jk1 (κ := K68) (E := E6) 4 [] R R R R R R R R Z2 R R R R (f70.stp S75 R R) hy316 fun w81 K82 S83 f84 => ⟨tv, ?_⟩))))))
 have hn85 : x16.length = y316.length := hn71.trans (Jt2 hy316).2.2.2.symm
 refine Jd (Je [1, 2, 1, 2, 1, 2, 2, 2, 2, 2] R (Jl tv R R R R (Jd2 (cs := [.slice al p0.Arena.Owner.length aj, .slice ah p0.Arena.Next.length ae, .slice ai p0.Prio.length ak]) I39 Z39 R R R (haE (f55.stp (S69.tr (S75.tr S83)) R R).cells)) (Jn 1 R (Ob h fun x74 hx74 h => Jh R R R C119 (Ret.cast (by simp only [hn85, List.cons_append, List.nil_append]) (i_onlyBy_ok (κ := fun b => mp [] 0 (K82 b)) (p0 := p0) (Jl2 (f35.stp (S42.tr (S51.tr (S69.tr (S75.tr S83)))) R R) (mp [] 0) R R) (Jl2 (f56.stp (S69.tr (S75.tr S83)) R R) (mp [] 0) R R) (Jl2 (g0_1.stp (S3.tr (S7.tr (S11.tr (S16.tr (S28.tr (S32.tr (S42.tr (S51.tr (S69.tr (S75.tr S83)))))))))) R R) (mp [] 0) R R) (Jl2 f84.rdc (mp [] 0) R R) hx74)) ?_))))
 rintro _ w90 ⟨k91, aB, ap, ay, au, ax, aA, rfl, e92, f93, f94, f95⟩
 obtain ⟨K96, S97, m98⟩ := Ji e92 8 R
 refine ⟨tv, Jn 1 R (Ob h fun x76 hx76 h => Jh R R R C101 (i_wonIn_ok (κ := fun b => mp [] 0 (K96 b)) (p0 := x74) (Jl2 (f93.mx (no_int _) m98 R (R : 8 + 2 = 10)).rdc (mp [] 0) R R) (Jl2 (f94.mx (no_own (no_int _) _) m98 R (R : 8 + 3 = 11)).rdc (mp [] 0) R R) (Jl2 (f95.mx (no_int _) m98 R (R : 8 + 4 = 12)).rdc (mp [] 0) R R) (Jl2 ((f49.mx (no_int _) m52 R (R : 5 + 2 = 7)).stp (S69.tr (S75.tr (S83.tr S97))) R R).rdc (mp [] 0) R R) hx76) ?_)⟩
 rintro _ w104 ⟨k105, ao, an, av, az, rfl, e106, f107, f108⟩
 obtain ⟨K109, S110, m111⟩ := Ji e106 13 R
 refine ⟨tv, Jb 5 R (Jq (Je [2, 2, 2, 1, 2, 2, 2, 2, 2, 2, 2, 2, 2, 2, 1, 2, 2, 2, 2, 2, 2, 2] R (Jn 2 R (Ob h fun x81 hx81 h => Jf R (Jf2 f77 hx81 U22 Z2 R R R R) ?_))))⟩
 have f115 := f77.stp (S83.tr (S97.tr S110)) R R
 refine Jl tv R R R R (Jc2 I2 R R (hvE (f115.gInt hx81))) (Jn 2 R (Ob h fun p88 h hK116 => Ju1 [(6, 2), (7, 2), (8, 2), (9, 2)] [(10, 2), (11, 2), (12, 2), (13, 2), (14, 1), (15, 2), (16, 2), (17, 2), (18, 2), (19, 2), (20, 2), (21, 2)] (fun L w' => L = [(2, .slice a2 p2.length u2), (3, .pointer (some ⟨b3, 0, none⟩)), (6, .pointer (some ⟨b6, 0, none⟩)), (7, .slice aa x16.length ab), (8, vi v19), (9, .slice ad x46.length ac), (12, .slice ao x76.1.length an), (18, vi (x16.length : Int)), (19, vi v19), (52, .slice ax51 x51.length ux51), (53, vi (x51.length : Int)), (54, vi v54), (88, .bool p88)] ∧ ∃ κ', Stp [] K109 w104 κ' w') tv ?_ ?_))
 revert h
 cases ht117 : (x81 == 0)
 refine JF fun h => Jn 4 R ?_
 cases h
 exact Jv1 _ tv ⟨R, _, (Jx2 _ _).wk R⟩ (KM R)
 refine JT fun h => Jn 1 R (Jf R (Je2 U22 R R) (Jn 2 R ?_))
 cases h
 exact Jv1 _ tv ⟨R, _, (Jx2 _ _).wk R⟩ (KM R)
 rintro _ w118 _ ⟨rfl, K119, S120⟩
 have h := hK116
 refine Jn 1 R (Ob h fun p100 h hK121 => Ju1 [(11, 2), (12, 2), (13, 2), (14, 1), (15, 2), (16, 2), (17, 2), (18, 2), (19, 2), (20, 2), (21, 2)] [] (fun L w' => L = [(2, .slice a2 p2.length u2), (3, .pointer (some ⟨b3, 0, none⟩)), (6, .pointer (some ⟨b6, 0, none⟩)), (7, .slice aa x16.length ab), (8, vi v19), (9, .slice ad x46.length ac), (18, vi (x16.length : Int)), (19, vi v19), (52, .slice ax51 x51.length ux51), (53, vi (x51.length : Int)), (54, vi v54), (100, .bool p100)] ∧ ∃ κ', Stp [] K119 w118 κ' w') tv ?_ ?_)
 revert h
 cases ht122 : p88
 refine JF fun h => Jn 2 R (Ob h fun x92 hx92 h => Jf R (Jf2 f115 hx92 U22 Z2 R R R R) (Jl tv R R R R (Jc2 I2 R R (hvE ((f115.stp S120 R R).gInt hx92))) (Jn 2 R (Ob h fun p99 h hK124 => Ju1 [(17, 2), (18, 2), (19, 2), (20, 2)] [(21, 2)] (fun L w' => L = [(2, .slice a2 p2.length u2), (3, .pointer (some ⟨b3, 0, none⟩)), (6, .pointer (some ⟨b6, 0, none⟩)), (7, .slice aa x16.length ab), (8, vi v19), (9, .slice ad x46.length ac), (18, vi (x16.length : Int)), (19, vi v19), (52, .slice ax51 x51.length ux51), (53, vi (x51.length : Int)), (54, vi v54), (89, .bool false), (90, .slice a2 p2.length u2), (91, vi v19), (92, .pointer (some (aAt a2 (v19.toNat * 1)))), (93, vi x92), (94, .bool (x92 == 1)), (95, .bool (x92 == 1)), (99, .bool p99)] ∧ ∃ κ', Stp [] K119 w118 κ' w') tv ?_ ?_))))
 revert h
 cases ht125 : (x92 == 1)
 refine JF fun h => Jn 4 R ?_
 cases h
 exact Jv1 _ tv ⟨R, _, (Jx2 _ _).wk R⟩ (KM R)
 refine JT fun h => Jn 1 R (Jf R (Je2 U22 R R) (Jn 2 R ?_))
 cases h
 exact Jv1 _ tv ⟨R, _, (Jx2 _ _).wk R⟩ (KM R)
 rintro _ w126 _ ⟨rfl, K127, S128⟩
 have h := hK124
 refine Jn 1 R ?_
 cases h
 exact Jv1 _ tv ⟨R, _, S128.wk R⟩ (KM R)
 refine JT fun h => Jn 3 R (Jd1 R R R R (Jn 7 R ?_))
 cases h
 exact Jv1 _ tv ⟨R, _, (Jx2 _ _).wk R⟩ (KM R)
 rintro _ w129 _ ⟨rfl, K130, S131⟩
 have h := hK121
 refine Jd ?_
 revert h
 cases ht132 : p100
 refine JF fun h => Jy R (Js (Jp (Ja [2, 2, 2, 1] R (Jn 2 R (Ob h fun x103 hx103 h => Jf R (Jf2 f84.rdc hx103 U22 Z2 R R hn85 R) (Ob h fun y321 hy321 h => Jk1 (κ := K130) (E := E6) 4 [] R R R R R R R R Z2 R R R R (f84.stp (S97.tr (S110.tr (S120.tr S131))) R R) hy321 fun w135 K136 S137 f138 => ⟨tv, ?_⟩))))))
 have hn139 : x16.length = y321.length := hn85.trans (Jt2 hy321).2.2.2.symm
 refine Jo (Jz (Jp (Ja [2, 2] R (Jc 2 R ?_))))
 have hw59 : IntKind.wrap .i64 (v54 + 1) = v54 + 1 := wr1 hj59 (Jm2 hc59) hN59
 rw [hw59]
 have hc59 := Jm2 hc59
 cases h
 exact Jz1 fun a ha => ⟨k, _, Ja3 _, ⟨K136, v54 + 1, (y321 : (List Int)), R, (S69.tr (S75.tr (S83.tr (S97.tr (S110.tr (S120.tr (S131.tr S137))))))).wk R, f138, hn139, by omega, by omega, hk73⟩, (ha.mm R)⟩
 refine JT fun h => Jx R (Jc1 (Jt (Jz2 R (Jt (Jt ?_)))))
 cases h
 have h := hk73
 refine Jb1 ?_
 cases h
 exact Jw1 _ ⟨K130, (y316 : (List Int)), R, (S69.tr (S75.tr (S83.tr (S97.tr (S110.tr (S120.tr S131)))))).wk R, (f84.stp (S97.tr (S110.tr (S120.tr S131))) R R), hn85, R⟩ (KM R)
 refine JT fun h => Jx R (Jc1 (Jt (Jb1 (Jp (Ja [2, 2] R (Jc 2 R ?_))))))
 have hw59 : IntKind.wrap .i64 (v54 + 1) = v54 + 1 := wr1 hj59 (Jm2 hc59) hN59
 rw [hw59]
 have hc59 := Jm2 hc59
 cases h
 exact Jz1 fun a ha => ⟨k, _, Ja3 _, ⟨K68, v54 + 1, (s4 : (List Int)), R, (S69.tr S75).wk R, (f70.stp S75 R R), hn71, by omega, by omega, hk73⟩, (ha.mm R)⟩
 rintro _ w62 ⟨K63, s6, rfl, S64, f65, hn66, rfl⟩
 have h := hK60
 dsimp only [aft] at h
 refine Jz (Jp (Ja [2, 2] R (Jc 2 R ?_)))
 have hw18 : IntKind.wrap .i64 (v19 + 1) = v19 + 1 := wr1 hj18 (Jm2 hc18) hN18
 rw [hw18]
 have hc18 := Jm2 hc18
 cases h
 exact Jz1 fun a ha => ⟨k, _, Ja3 _, ⟨K63, v19 + 1, (s6 : (List Int)), R, (S28.tr (S32.tr (S42.tr (S51.tr S64)))).wk R, f65, hn66, by omega, by omega, hk31⟩, (ha.mm R)⟩
 refine JT fun h => Jx R (Jc1 (Jt (Jb1 (Jp (Ja [2, 2] R (Jc 2 R ?_))))))
 have hw18 : IntKind.wrap .i64 (v19 + 1) = v19 + 1 := wr1 hj18 (Jm2 hc18) hN18
 rw [hw18]
 have hc18 := Jm2 hc18
 cases h
 exact Jz1 fun a ha => ⟨k, _, Ja3 _, ⟨K41, v19 + 1, (s1 : (List Int)), R, (S28.tr (S32.tr S42)).wk R, (f29.stp (S32.tr S42) R R), hn30, by omega, by omega, hk31⟩, (ha.mm R)⟩
 rintro _ w21 ⟨K22, s3, rfl, S23, f24, hn25, rfl⟩
 have h := hK19
 dsimp only [aft] at h
 refine Jp (Je [1, 2, 1, 2, 2, 1] R (Jo1 (κ := K22) (E := E6) 5 R R R R R Y22 Tryzinfo2 R fun aw aC w140 K141 S142 f143 => ⟨tv, Jn 1 R (Ob h fun x108 hx108 h => Jm1 (κ := K141) (E := E6) 5 [] R R R R R R R R R Y22 Tryzinfo2 R R R R f143 (Sl.srcP (pu_int _) (g2.stp (S3.tr (S7.tr (S11.tr (S16.tr (S23.tr S142))))) R R)) sy_false hx108 R fun am af w145 K146 S147 f148 => ⟨tv, Jn 1 R (Jf R (rn_build (parts := [(0, .tmp 108), (1, .tmp 109)]) (cells := [.slice am x108.length af, .slice aa x16.length ab]) R R (by kernel_rfl)) (Jj1 (κ := K146) 3 (vc := [.slice am x108.length af, .slice aa x16.length ab]) R R R R R R R Z34 R R (f8.stp (S11.tr (S16.tr (S23.tr (S142.tr S147)))) R R) R fun w150 S151 f152 => ⟨tv, Jd (Ju (Ja2 (l := [.cell 6 34]) V87 (res_cellA R f152 I34 Z34 R R) R ?_))⟩))⟩)⟩))
 cases h
 exact ⟨(fun b => ren [(5, 2), (4, 3)] (K146 b)), am, af, aa, ab, (by simp only [hn25]), ((hE.stp (S3.tr (S7.tr (S11.tr (S16.tr (S23.tr (S142.tr (S147.tr S151))))))) R R).map (ren [(5, 2), (4, 3)]) R R), ((f148.stp S151 R R).map (ren [(5, 2), (4, 3)]) R R), ((f24.stp (S142.tr (S147.tr S151)) R R).map (ren [(5, 2), (4, 3)]) R R)⟩
end Go.Proofs.YtmiilifclnanlaaGreat
