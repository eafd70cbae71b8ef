/- The walks, part 0. By program. -/
import Derived.Test.YtcmamhmpoinmnaaGreatFnsMKO
import Derived.Test.YtcmamhmpoinmnaaGreatAlKO
set_option linter.unusedVariables false
set_option linter.unusedSimpArgs false
namespace Go.Proofs.YtcmamhmpoinmnaaGreat
open Go Go.Wk Go.Proofs
set_option maxRecDepth 100000
set_option maxHeartbeats 1000000
theorem l_toInt64S_ok {w : World} {κ : Col} {a0 u0} {p0 : (List Int)} (g0 : Rd (Rp.int .i64) κ w 0 a0 u0 p0) {r : (List Int)} (h : l_toInt64S p0 = some r) : Ret Tryz.prog 68 [.slice a0 p0.length u0] w (fun v w' => ∃ (κ' : Col) (ra0 : Option Addr) (ru0 : Nat), v = .slice ra0 r.length ru0 ∧ Ent κ w κ' w' ∧ Oc E6 2 κ' w' 2 ra0 ru0 r) := by
 unfold l_toInt64S at h
 refine Ret.enter F68 R N68 R ?_
 dsimp only [envOf]
 have hE := Ent.refl κ w
 refine Je [2] R (Jb 1 R (Je [2, 2, 1, 2] R (Jn 1 R (Jf R (Je2 U40 R R) (Ob h fun x7 hx7 h => Jl1 (κ := κ) (E := E6) (z := (0 : Int)) 2 R R R R R R R Y40 Tryzinfo2 R R R R R (fun _ _ _ => R) (Ju2 hx7) fun a7 u7 w1 K2 S3 f4 => ⟨tv, Jb 1 R (Jq (Je [2] R (Jb 1 R ?_)))⟩)))))
 have hN5 : (p0.length : Int) ≤ 9223372036854775807 := g0.len_le
 refine Ob h fun q2 hq7 hK6 => ?_
 clear h
 refine Jx1 (fun L w' => ∃ κ', ∃ s3 : (List Int), L = [(3, .slice a7 x7.length u7)] ∧ Stp [2] K2 w1 κ' w' ∧ Oc E6 2 κ' w' 2 a7 u7 s3 ∧ x7.length = s3.length ∧ q2 = Sum.inr s3) ?_ ?_
 refine Jv (Jy1 (fun k L w' => ∃ κ' v4, ∃ s1 : (List Int), L = [(0, .slice a0 p0.length u0), (3, .slice a7 x7.length u7), (4, vi v4)] ∧ Stp [2] K2 w1 κ' w' ∧ Oc E6 2 κ' w' 2 a7 u7 s1 ∧ x7.length = s1.length ∧ 0 ≤ v4 ∧ Int.toNat ((p0.length : Int) - v4) = k ∧ cntM (l_toInt64S_b0 p0) k v4 s1 = some q2) ⟨_, _, ⟨K2, 0, (x7 : (List Int)), R, (Jx2 _ _).wk R, f4, R, (by decide), (by simp), hq7⟩, (KM R)⟩ ?_)
 rintro k _ w13 ⟨K14, v4, s1, rfl, S15, f16, hn17, hj5, hJ5, h⟩
 rcases k with _ | k
 have hk18 := h; obtain ⟨o5, h⟩ := ex_eq (Sum.inr (Sum.inl s1) : (List Int) ⊕ (((List Int)) ⊕ ((List Int))))
 have hc5 : decide (v4 < (p0.length : Int)) = false := Jo2 (by omega)
 refine Jq (Je [2, 2, 2, 2] R (Jn 2 R (Jf R (Je2 U40 R R) (Jb 1 R (Jw2 R hc5 (Jc1 (Jt (Jt ?_))))))))
 cases h
 have h := hk18
 refine Jb1 ?_
 cases h
 exact Jw1 _ ⟨K14, (s1 : (List Int)), R, S15.wk R, f16, hn17, R⟩ (KM R)
 obtain ⟨o5, h, hk18⟩ := BI h; unfold l_toInt64S_b0 at h
 have hc5 : decide (v4 < (p0.length : Int)) = true := Jn2 (by omega)
 refine Jq (Je [2, 2, 2, 2] R (Jn 2 R (Jf R (Je2 U40 R R) (Jb 1 R (Jv2 R hc5 (Js (Jp (Jq (Jv (Ja [2, 2, 2, 2, 2, 1, 2, 1] R (Jn 4 R (Ob h fun x18 hx18 h => Jf R (Jf2 g0 hx18 U40 Z2 R R R R) (Jl tv R R R R (Jc2 I2 R R (hvE ((g0.stp (S3.tr S15) R R).gInt hx18))) (Ob h fun x20 hx20 h => Jf R (Jf2 f16.rdc hx20 U40 Z2 R R hn17 R) (Ob h fun y9 hy9 h => Jk1 (κ := K14) (E := E6) 2 [] R R R R R R R R Z2 R R R R f16 hy9 fun w20 K21 S22 f23 => ⟨tv, ?_⟩)))))))))))))))
 have hn24 : x7.length = y9.length := hn17.trans (Jt2 hy9).2.2.2.symm
 refine Jo (Jz (Jp (Ja [2, 2, 2] R (Jc 3 R ?_))))
 have hw5 : IntKind.wrap .i64 (v4 + 1) = v4 + 1 := wr1 hj5 (Jm2 hc5) hN5
 rw [hw5]
 have hc5 := Jm2 hc5
 cases h
 exact Jz1 fun a ha => ⟨k, _, Ja3 _, ⟨K21, v4 + 1, (y9 : (List Int)), R, (S15.tr S22).wk R, f23, hn24, by omega, by omega, hk18⟩, (ha.mm R)⟩
 rintro _ w8 ⟨K9, s3, rfl, S10, f11, hn12, rfl⟩
 have h := hK6
 dsimp only [aft] at h
 refine Jp (Je [2, 2] R (Jb 2 R (Ju (Ja2 (l := [.tmp 2]) V68 (Jp2 R R) R ?_))))
 cases h
 exact ⟨K9, a7, u7, (by simp only [hn12]), (hE.stp (S3.tr S10) R R), f11⟩
theorem s_l25States_ok {w : World} {κ : Col} {p0 : Int}  {r : Int} (h : s_l25States p0 = some r) : Ret Tryz.prog 141 [vi p0] w (fun v w' => ∃ (κ' : Col), v = vi r ∧ Ent κ w κ' w') := by
 unfold s_l25States at h
 refine Ret.enter F141 R N141 R ?_
 dsimp only [envOf]
 have hE := Ent.refl κ w
 refine Je [2] R (Jb 1 R (Jq (Je [2] R (Jb 1 R (Jv (Je [2, 2] R (Jb 2 R ?_)))))))
 revert h
 cases ht1 : (p0 == 2)
 refine JF fun h => Jy R (Je [2, 2] R (Jb 2 R ?_))
 revert h
 cases ht2 : (p0 == 7)
 refine JF fun h => Jy R (Js (Jz (Jp (Je [2] R (Jb 1 R (Ju (Ja2 (l := [.tmp 2]) V141 (Jp2 R R) R ?_)))))))
 cases h
 exact ⟨κ, R, hE⟩
 refine JT fun h => Jx R (Je [2] R (Jb 1 R (Ju (Ja1 (Jw (Ja2 (l := [.tmp 2]) V141 (Jp2 R R) R ?_))))))
 cases h
 exact ⟨κ, R, hE⟩
 refine JT fun h => Jx R (Je [2] R (Jb 1 R (Ju (Ja1 (Jw (Ja2 (l := [.tmp 2]) V141 (Jp2 R R) R ?_))))))
 cases h
 exact ⟨κ, R, hE⟩
theorem s_l1Max_ok {w : World} {κ : Col} {p0 : Int} {p1 : Int}  {r : Int} (h : s_l1Max p0 p1 = some r) : Ret Tryz.prog 95 [vi p0, vi p1] w (fun v w' => ∃ (κ' : Col), v = vi r ∧ Ent κ w κ' w') := by
 unfold s_l1Max at h
 refine Ret.enter F95 R N95 R ?_
 dsimp only [envOf]
 have hE := Ent.refl κ w
 refine Je [2] R (Jb 1 R (Jq (Je [2, 2, 2] R (Jb 3 R ?_))))
 revert h
 cases ht1 : decide (p1 < p0)
 refine JF fun h => Jy R (Js (Jp (Je [2, 2] R (Jb 2 R (Ju (Ja2 (l := [.tmp 4]) V95 (Jp2 R R) R ?_))))))
 cases h
 exact ⟨κ, R, hE⟩
 refine JT fun h => Jx R (Je [2, 2] R (Jb 2 R (Ju (Jw (Ja2 (l := [.tmp 4]) V95 (Jp2 R R) R ?_)))))
 cases h
 exact ⟨κ, R, hE⟩
theorem s_l26Place_ok {w : World} {κ : Col} {a0 u0} {p0 : (List (List Int))} {p1 : Int} {p2 : Int} (g0 : Rd (Rp.sl (Rp.int .i64)) κ w 0 a0 u0 p0) {r : Int} (h : s_l26Place p0 p1 p2 = some r) : Ret Tryz.prog 63 [.slice a0 p0.length u0, vi p1, vi p2] w (fun v w' => ∃ (κ' : Col), v = vi r ∧ Ent κ w κ' w') := by
 unfold s_l26Place at h
 refine Ret.enter F63 R N63 R ?_
 dsimp only [envOf]
 have hE := Ent.refl κ w
 refine Je [2] R (Jb 1 R (Jq (Je [2] R (Jb 1 R ?_))))
 have hN1 : (p0.length : Int) ≤ 9223372036854775807 := g0.len_le
 refine Ob h fun q2 hq3 hK2 => ?_
 clear h
 refine Jx1 (fun L w' => ∃ κ', L = [] ∧ Stp [] κ w κ' w' ∧ q2 = Sum.inr ()) ?_ ?_
 refine Jv (Jy1 (fun k L w' => ∃ κ' v7, L = [(0, .slice a0 p0.length u0), (1, vi p1), (2, vi p2), (7, vi v7)] ∧ Stp [] κ w κ' w' ∧ 0 ≤ v7 ∧ Int.toNat ((p0.length : Int) - v7) = k ∧ cntM (s_l26Place_b0 p0 p1 p2) k v7 () = some q2) ⟨_, _, ⟨κ, 0, R, (Jx2 _ _).wk R, (by decide), (by simp), hq3⟩, (KM R)⟩ ?_)
 rintro k _ w7 ⟨K8, v7, rfl, S9, hj1, hJ1, h⟩
 rcases k with _ | k
 have hk10 := h; obtain ⟨o1, h⟩ := ex_eq (Sum.inr (Sum.inl ()) : Int ⊕ ((Unit) ⊕ (Unit)))
 have hc1 : decide (v7 < (p0.length : Int)) = false := Jo2 (by omega)
 refine Jq (Je [2, 2, 2, 2] R (Jn 2 R (Jf R (Je2 U24 R R) (Jb 1 R (Jw2 R hc1 (Jc1 (Jt (Jt ?_))))))))
 cases h
 have h := hk10
 refine Jb1 ?_
 cases h
 exact Jw1 _ ⟨K8, R, S9.wk R, R⟩ KN
 obtain ⟨o1, h, hk10⟩ := BI h; unfold s_l26Place_b0 at h
 have hc1 : decide (v7 < (p0.length : Int)) = true := Jn2 (by omega)
 refine Jq (Je [2, 2, 2, 2] R (Jn 2 R (Jf R (Je2 U24 R R) (Jb 1 R (Jv2 R hc1 (Js (Jp (Jq (Jv (Je [2, 2, 2, 1, 2, 1, 2, 2, 2, 2, 2, 2, 1, 2, 1, 2, 2, 2] R (Jn 2 R (Ob h fun x16 hx16 h => Jf R (Jf2 g0 hx16 U24 Z40 R R R R) ?_))))))))))))
 have f11 := g0.stp S9 R R
 obtain ⟨ax16, ux16, f12, hl13⟩ := f11.gSl hx16
 refine Jl tv R R R R (Jc2 I40 R R (hvE hl13)) (Ob h fun x18 hx18 h => Jf R (Jf2 f12 hx18 U40 Z2 R R R R) (Jl tv R R R R (Jc2 I2 R R (hvE (f12.gInt hx18))) (Jn 3 R (Ob h fun p31 h hK14 => Ju1 [(9, 2), (10, 2), (11, 2), (12, 1), (13, 2), (14, 1), (15, 2), (16, 2), (17, 2)] [] (fun L w' => L = [(0, .slice a0 p0.length u0), (1, vi p1), (2, vi p2), (7, vi v7), (31, .bool p31)] ∧ ∃ κ', Stp [] K8 w7 κ' w') tv ?_ ?_))))
 revert h
 cases ht15 : (x18 == p1)
 refine JF fun h => Jn 3 R (Jd1 R R R R (Jn 1 R (Jd1 R R R R (Jn 3 R ?_))))
 cases h
 exact Jv1 _ tv ⟨R, _, (Jx2 _ _).wk R⟩ (KM R)
 refine JT fun h => Jn 2 R (Ob h fun x25 hx25 h => Jf R (Jf2 f11 hx25 U24 Z40 R R R R) ?_)
 obtain ⟨ax25, ux25, f16, hl17⟩ := f11.gSl hx25
 refine Jl tv R R R R (Jc2 I40 R R (hvE hl17)) (Ob h fun x27 hx27 h => Jf R (Jf2 f16 hx27 U40 Z2 R R R R) (Jl tv R R R R (Jc2 I2 R R (hvE (f16.gInt hx27))) (Jn 3 R ?_)))
 cases h
 exact Jv1 _ tv ⟨R, _, (Jx2 _ _).wk R⟩ (KM R)
 rintro _ w18 _ ⟨rfl, K19, S20⟩
 have h := hK14
 refine Jd ?_
 revert h
 cases ht21 : p31
 refine JF fun h => Jy R (Js (Jz (Jp (Ja [2, 2, 2] R (Jc 3 R ?_)))))
 have hw1 : IntKind.wrap .i64 (v7 + 1) = v7 + 1 := wr1 hj1 (Jm2 hc1) hN1
 rw [hw1]
 have hc1 := Jm2 hc1
 cases h
 exact Jz1 fun a ha => ⟨k, _, Ja3 _, ⟨K19, v7 + 1, R, (S9.tr S20).wk R, by omega, by omega, hk10⟩, (ha.mm R)⟩
 refine JT fun h => Jx R (Je [2, 2] R (Jb 2 R (Ju (Ja1 (Jw (Jw ?_))))))
 cases h
 obtain rfl := Option.some.inj hk10
 have h := hK2
 dsimp only [aft] at h
 refine Ja1 (Jq2 (Jw (Ja2 (l := [.tmp 6]) V63 (Jp2 R R) R ?_)))
 cases h
 exact ⟨K19, R, (hE.stp (S9.tr S20) R R)⟩
 rintro _ w4 ⟨K5, rfl, S6, rfl⟩
 have h := hK2
 dsimp only [aft] at h
 refine Jp (Je [2] R (Jb 1 R (Ju (Ja2 (l := [.tmp 6]) V63 (Jp2 R R) R ?_))))
 cases h
 exact ⟨K5, R, (hE.stp S6 R R)⟩
theorem i_machineOf_ok {w : World} {κ : Col} {p0 : Int} {p1 : Int}  {r : Machine} (h : i_machineOf p0 p1 = some r) : Ret Tryz.prog 80 [vi p0, vi p1] w (fun v w' => ∃ (κ' : Col) (ra0 : Option Addr) (ru0 : Nat) (ra1 : Option Addr) (ru1 : Nat), v = .agg #[.slice ra0 r.Next.length ru0, .slice ra1 r.Out.length ru1] ∧ Ent κ w κ' w' ∧ Oc (Ep.own E6 2) 40 κ' w' 2 ra0 ru0 r.Next ∧ Oc (Ep.own E6 2) 40 κ' w' 3 ra1 ru1 r.Out) := by
 unfold i_machineOf at h
 refine Ret.enter F80 R N80 R ?_
 dsimp only [envOf]
 have hE := Ent.refl κ w
 refine Je [1] R (Jg1 (κ := κ) 2 R R R R R X33 R fun b4 w1 K2 S3 f4 => ⟨tv, Jd (Jq (Ob h fun x10 hx10 h => Ob h fun x12 hx12 h => Jx1 (fun L w' => ∃ κ' b5 af ah ai ae, L = [(0, vi p0), (1, vi p1), (4, .pointer (some ⟨b4, 0, none⟩)), (5, .pointer (some ⟨b5, 0, none⟩))] ∧ Stp [3, 4, 5] K2 w1 κ' w' ∧ Oc (Ep.own E6 2) 40 κ' w' 3 af ah ((⟨x10, x12⟩ : Machine).Next) ∧ Oc (Ep.own E6 2) 40 κ' w' 4 ai ae ((⟨x10, x12⟩ : Machine).Out) ∧ Bc κ' w' 5 b5 33 [.slice af ((⟨x10, x12⟩ : Machine).Next).length ah, .slice ai ((⟨x10, x12⟩ : Machine).Out).length ae]) ?_ ?_))⟩)
 refine WC.rxt (κ := K2) [] none (by kernel_rfl) fun w12 S13 => Jq1 (fuel := 5) [(0, 2), (2, 2)] (by kernel_rfl) (by kernel_rfl) R (Jn 2 R (Jp1 (WA.fork3 (fuel := 4) 1 3 5 (by kernel_rfl) R ?_ ?_ ?_)))
 refine Jl1 (κ := K2) (E := (Ep.own E6 2)) (z := (([] : List Int) : (List Int))) 3 R R R R R R R Y24 Tryzinfo40 R R R R R (fun _ _ _ => ⟨none, 0, R, Ow.nil⟩) (Ju2 hx10) fun aa ad w14 K15 S16 f17 => ⟨(S16.cl R), Jp1 (WA.fork2 (fuel := 3) 3 5 (by kernel_rfl) R ?_ ?_)⟩
 exact Jl1 (κ := K15) (E := (Ep.own E6 2)) (z := (([] : List Int) : (List Int))) 4 R R R R R R R Y24 Tryzinfo40 R R R R R (fun _ _ _ => ⟨none, 0, R, Ow.nil⟩) (Ju2 hx12) fun ac ab w18 K19 S20 f21 => ⟨((S16.tr S20).cl R), Jp1 (Jq1 (fuel := 0) [(4, 2), (5, 1), (6, 1)] (by kernel_rfl) (by kernel_rfl) R (Jf R (rn_build (parts := [(0, .tmp 10), (1, .tmp 12)]) (cells := [.slice aa x10.length ad, .slice ac x12.length ab]) R R (by kernel_rfl)) (Jg1 (κ := K19) 5 R R R R R X33 R fun b5 w22 K23 S24 f25 => ⟨((S16.tr (S20.tr S24)).cl R), Jj1 (κ := K23) 5 (vc := [.slice aa x10.length ad, .slice ac x12.length ab]) R R R R R R R Z33 R R f25 R fun w26 S27 f28 => ⟨((S16.tr (S20.tr (S24.tr S27))).cl R), Jp1 (Jr1 [] (by kernel_rfl) (by kernel_rfl) R (Jo (Jw1 _ ⟨K23, b5, aa, ad, ac, ab, R, (S13.tr (S16.tr (S20.tr (S24.tr S27)))).wk R, (f17.stp (S20.tr (S24.tr S27)) R R), (f21.stp (S24.tr S27) R R), f28⟩ (KM R))))⟩⟩)))⟩
 exact Jg1 (κ := K15) 4 R R R R R X33 R fun b5 w31 K32 S33 f34 => ⟨((S16.tr S33).cl R), Jp1 (Jq1 (fuel := 0) [(3, 1), (4, 2), (6, 1)] (by kernel_rfl) (by kernel_rfl) R (Jl1 (κ := K32) (E := (Ep.own E6 2)) (z := (([] : List Int) : (List Int))) 5 R R R R R R R Y24 Tryzinfo40 R R R R R (fun _ _ _ => ⟨none, 0, R, Ow.nil⟩) (Ju2 hx12) fun ac ab w35 K36 S37 f38 => ⟨((S16.tr (S33.tr S37)).cl R), Jf R (rn_build (parts := [(0, .tmp 10), (1, .tmp 12)]) (cells := [.slice aa x10.length ad, .slice ac x12.length ab]) R R (by kernel_rfl)) (Jj1 (κ := K36) 4 (vc := [.slice aa x10.length ad, .slice ac x12.length ab]) R R R R R R R Z33 R R (f34.stp S37 R R) R fun w40 S41 f42 => ⟨((S16.tr (S33.tr (S37.tr S41))).cl R), Jp1 (Jr1 [] (by kernel_rfl) (by kernel_rfl) R (Jo (Jw1 _ ⟨(fun b => ren [(5, 4), (4, 5)] (K36 b)), b5, aa, ad, ac, ab, R, (Jy2 ((S13.tr (S16.tr (S33.tr (S37.tr S41)))).wk R) [(5, 4), (4, 5)] R), ((f17.stp (S33.tr (S37.tr S41)) R R).map (ren [(5, 4), (4, 5)]) R R), ((f38.stp S41 R R).map (ren [(5, 4), (4, 5)]) R R), (f42.map (ren [(5, 4), (4, 5)]) R R)⟩ (KM R))))⟩)⟩))⟩
 refine Jl1 (κ := K2) (E := (Ep.own E6 2)) (z := (([] : List Int) : (List Int))) 3 R R R R R R R Y24 Tryzinfo40 R R R R R (fun _ _ _ => ⟨none, 0, R, Ow.nil⟩) (Ju2 hx12) fun ac ab w45 K46 S47 f48 => ⟨(S47.cl R), Jp1 (WA.fork2 (fuel := 3) 1 5 (by kernel_rfl) R ?_ ?_)⟩
 exact Jl1 (κ := K46) (E := (Ep.own E6 2)) (z := (([] : List Int) : (List Int))) 4 R R R R R R R Y24 Tryzinfo40 R R R R R (fun _ _ _ => ⟨none, 0, R, Ow.nil⟩) (Ju2 hx10) fun aa ad w49 K50 S51 f52 => ⟨((S47.tr S51).cl R), Jp1 (Jq1 (fuel := 0) [(4, 2), (5, 1), (6, 1)] (by kernel_rfl) (by kernel_rfl) R (Jf R (rn_build (parts := [(0, .tmp 10), (1, .tmp 12)]) (cells := [.slice aa x10.length ad, .slice ac x12.length ab]) R R (by kernel_rfl)) (Jg1 (κ := K50) 5 R R R R R X33 R fun b5 w53 K54 S55 f56 => ⟨((S47.tr (S51.tr S55)).cl R), Jj1 (κ := K54) 5 (vc := [.slice aa x10.length ad, .slice ac x12.length ab]) R R R R R R R Z33 R R f56 R fun w57 S58 f59 => ⟨((S47.tr (S51.tr (S55.tr S58))).cl R), Jp1 (Jr1 [] (by kernel_rfl) (by kernel_rfl) R (Jo (Jw1 _ ⟨(fun b => ren [(4, 3), (3, 4)] (K54 b)), b5, aa, ad, ac, ab, R, (Jy2 ((S13.tr (S47.tr (S51.tr (S55.tr S58)))).wk R) [(4, 3), (3, 4)] R), ((f52.stp (S55.tr S58) R R).map (ren [(4, 3), (3, 4)]) R R), ((f48.stp (S51.tr (S55.tr S58)) R R).map (ren [(4, 3), (3, 4)]) R R), (f59.map (ren [(4, 3), (3, 4)]) R R)⟩ (KM R))))⟩⟩)))⟩
 exact Jg1 (κ := K46) 4 R R R R R X33 R fun b5 w62 K63 S64 f65 => ⟨((S47.tr S64).cl R), Jp1 (Jq1 (fuel := 0) [(1, 1), (4, 2), (6, 1)] (by kernel_rfl) (by kernel_rfl) R (Jl1 (κ := K63) (E := (Ep.own E6 2)) (z := (([] : List Int) : (List Int))) 5 R R R R R R R Y24 Tryzinfo40 R R R R R (fun _ _ _ => ⟨none, 0, R, Ow.nil⟩) (Ju2 hx10) fun aa ad w66 K67 S68 f69 => ⟨((S47.tr (S64.tr S68)).cl R), Jf R (rn_build (parts := [(0, .tmp 10), (1, .tmp 12)]) (cells := [.slice aa x10.length ad, .slice ac x12.length ab]) R R (by kernel_rfl)) (Jj1 (κ := K67) 4 (vc := [.slice aa x10.length ad, .slice ac x12.length ab]) R R R R R R R Z33 R R (f65.stp S68 R R) R fun w71 S72 f73 => ⟨((S47.tr (S64.tr (S68.tr S72))).cl R), Jp1 (Jr1 [] (by kernel_rfl) (by kernel_rfl) R (Jo (Jw1 _ ⟨(fun b => ren [(5, 3), (3, 4), (4, 5)] (K67 b)), b5, aa, ad, ac, ab, R, (Jy2 ((S13.tr (S47.tr (S64.tr (S68.tr S72)))).wk R) [(5, 3), (3, 4), (4, 5)] R), ((f69.stp S72 R R).map (ren [(5, 3), (3, 4), (4, 5)]) R R), ((f48.stp (S64.tr (S68.tr S72)) R R).map (ren [(5, 3), (3, 4), (4, 5)]) R R), (f73.map (ren [(5, 3), (3, 4), (4, 5)]) R R)⟩ (KM R))))⟩)⟩))⟩
 refine Jg1 (κ := K2) 3 R R R R R X33 R fun b5 w76 K77 S78 f79 => ⟨(S78.cl R), Jp1 (WA.fork2 (fuel := 3) 1 3 (by kernel_rfl) R ?_ ?_)⟩
 exact Jl1 (κ := K77) (E := (Ep.own E6 2)) (z := (([] : List Int) : (List Int))) 4 R R R R R R R Y24 Tryzinfo40 R R R R R (fun _ _ _ => ⟨none, 0, R, Ow.nil⟩) (Ju2 hx10) fun aa ad w80 K81 S82 f83 => ⟨((S78.tr S82).cl R), Jp1 (Jq1 (fuel := 0) [(3, 1), (4, 2), (6, 1)] (by kernel_rfl) (by kernel_rfl) R (Jl1 (κ := K81) (E := (Ep.own E6 2)) (z := (([] : List Int) : (List Int))) 5 R R R R R R R Y24 Tryzinfo40 R R R R R (fun _ _ _ => ⟨none, 0, R, Ow.nil⟩) (Ju2 hx12) fun ac ab w84 K85 S86 f87 => ⟨((S78.tr (S82.tr S86)).cl R), Jf R (rn_build (parts := [(0, .tmp 10), (1, .tmp 12)]) (cells := [.slice aa x10.length ad, .slice ac x12.length ab]) R R (by kernel_rfl)) (Jj1 (κ := K85) 3 (vc := [.slice aa x10.length ad, .slice ac x12.length ab]) R R R R R R R Z33 R R (f79.stp (S82.tr S86) R R) R fun w89 S90 f91 => ⟨((S78.tr (S82.tr (S86.tr S90))).cl R), Jp1 (Jr1 [] (by kernel_rfl) (by kernel_rfl) R (Jo (Jw1 _ ⟨(fun b => ren [(4, 3), (5, 4), (3, 5)] (K85 b)), b5, aa, ad, ac, ab, R, (Jy2 ((S13.tr (S78.tr (S82.tr (S86.tr S90)))).wk R) [(4, 3), (5, 4), (3, 5)] R), ((f83.stp (S86.tr S90) R R).map (ren [(4, 3), (5, 4), (3, 5)]) R R), ((f87.stp S90 R R).map (ren [(4, 3), (5, 4), (3, 5)]) R R), (f91.map (ren [(4, 3), (5, 4), (3, 5)]) R R)⟩ (KM R))))⟩)⟩))⟩
 exact Jl1 (κ := K77) (E := (Ep.own E6 2)) (z := (([] : List Int) : (List Int))) 4 R R R R R R R Y24 Tryzinfo40 R R R R R (fun _ _ _ => ⟨none, 0, R, Ow.nil⟩) (Ju2 hx12) fun ac ab w94 K95 S96 f97 => ⟨((S78.tr S96).cl R), Jp1 (Jq1 (fuel := 0) [(1, 1), (4, 2), (6, 1)] (by kernel_rfl) (by kernel_rfl) R (Jl1 (κ := K95) (E := (Ep.own E6 2)) (z := (([] : List Int) : (List Int))) 5 R R R R R R R Y24 Tryzinfo40 R R R R R (fun _ _ _ => ⟨none, 0, R, Ow.nil⟩) (Ju2 hx10) fun aa ad w98 K99 S100 f101 => ⟨((S78.tr (S96.tr S100)).cl R), Jf R (rn_build (parts := [(0, .tmp 10), (1, .tmp 12)]) (cells := [.slice aa x10.length ad, .slice ac x12.length ab]) R R (by kernel_rfl)) (Jj1 (κ := K99) 3 (vc := [.slice aa x10.length ad, .slice ac x12.length ab]) R R R R R R R Z33 R R (f79.stp (S96.tr S100) R R) R fun w103 S104 f105 => ⟨((S78.tr (S96.tr (S100.tr S104))).cl R), Jp1 (Jr1 [] (by kernel_rfl) (by kernel_rfl) R (Jo (Jw1 _ ⟨(fun b => ren [(5, 3), (3, 5)] (K99 b)), b5, aa, ad, ac, ab, R, (Jy2 ((S13.tr (S78.tr (S96.tr (S100.tr S104)))).wk R) [(5, 3), (3, 5)] R), ((f101.stp S104 R R).map (ren [(5, 3), (3, 5)]) R R), ((f97.stp (S100.tr S104) R R).map (ren [(5, 3), (3, 5)]) R R), (f105.map (ren [(5, 3), (3, 5)]) R R)⟩ (KM R))))⟩)⟩))⟩
 rintro _ w5 ⟨K6, b5, af, ah, ai, ae, rfl, S7, f9, f10, f11⟩
 refine Jp (Jq (Je [2, 2, 2] R (Jb 3 R (Ob h fun q2 hq110 hK109 => ?_))))
 clear h
 refine Jx1 (fun L w' => ∃ κ', ∃ s3 : Int × Int × (List (List Int)) × (List (List Int)), L = [(4, .pointer (some ⟨b4, 0, none⟩)), (5, .pointer (some ⟨b5, 0, none⟩))] ∧ Stp [3, 4, 6, 7] K6 w5 κ' w' ∧ Oc (Ep.own E6 2) 40 κ' w' 3 af ah s3.2.2.1 ∧ ((⟨x10, x12⟩ : Machine).Next).length = s3.2.2.1.length ∧ Oc (Ep.own E6 2) 40 κ' w' 4 ai ae s3.2.2.2 ∧ ((⟨x10, x12⟩ : Machine).Out).length = s3.2.2.2.length ∧ q2 = Sum.inr s3) ?_ ?_
 refine Jv (Jy1 (fun k L w' => ∃ κ', ∃ s1 : Int × Int × (List (List Int)) × (List (List Int)), L = [(0, vi s1.1), (1, vi p1), (4, .pointer (some ⟨b4, 0, none⟩)), (5, .pointer (some ⟨b5, 0, none⟩)), (6, vi s1.2.1)] ∧ Stp [3, 4, 6, 7] K6 w5 κ' w' ∧ Oc (Ep.own E6 2) 40 κ' w' 3 af ah s1.2.2.1 ∧ ((⟨x10, x12⟩ : Machine).Next).length = s1.2.2.1.length ∧ Oc (Ep.own E6 2) 40 κ' w' 4 ai ae s1.2.2.2 ∧ ((⟨x10, x12⟩ : Machine).Out).length = s1.2.2.2.length ∧ whileM (i_machineOf_b0 p1) k s1 = some q2) ⟨_, _, ⟨K6, ((p0 : Int), ((IntKind.i64.wrap (p1 - 1)) : Int), ((⟨x10, x12⟩ : Machine).Next : (List (List Int))), ((⟨x10, x12⟩ : Machine).Out : (List (List Int)))), R, (Jx2 _ _).wk R, f9, R, f10, R, hq110⟩, (KM R)⟩ ?_)
 rintro k _ w118 ⟨K119, s1, rfl, S120, f121, hn122, f123, hn124, h⟩
 rcases k with _ | k
 cases h
 obtain ⟨o108, h, hk125⟩ := BI h; unfold i_machineOf_b0 at h
 refine Jq (Je [2, 2] R (Jb 2 R ?_))
 revert h
 cases ht126 : decide (0 ≤ s1.2.1)
 refine JF fun h => Jy R (Jc1 (Jt (Jt ?_)))
 cases h
 have h := hk125
 refine Jb1 ?_
 cases h
 exact Jw1 _ ⟨K119, ((s1.1 : Int), (s1.2.1 : Int), (s1.2.2.1 : (List (List Int))), (s1.2.2.2 : (List (List Int)))), R, S120.wk R, f121, hn122, f123, hn124, R⟩ (KM R)
 refine JT fun h => Jx R (Js (Jp (Jq (Jv (Jq (Ob h fun x26 hx26 h => Ob h fun x28 hx28 h => Ob h fun x27 hx27 h => Ob h fun y171 hy171 h => Ob h fun x29 hx29 h => Ob h fun y172 hy172 h => Jx1 (fun L w' => ∃ κ', L = [(0, vi s1.1), (1, vi p1), (4, .pointer (some ⟨b4, 0, none⟩)), (5, .pointer (some ⟨b5, 0, none⟩)), (6, vi s1.2.1)] ∧ Stp [3, 4, 6, 7] K119 w118 κ' w' ∧ Oc (Ep.own E6 2) 40 κ' w' 3 af ah y171 ∧ ((⟨x10, x12⟩ : Machine).Next).length = y171.length ∧ Oc (Ep.own E6 2) 40 κ' w' 4 ai ae y172 ∧ ((⟨x10, x12⟩ : Machine).Out).length = y172.length) ?_ ?_))))))
 refine WC.rxt (κ := K119) [5] none (by kernel_rfl) fun w135 S136 => Jq1 (fuel := 6) [(0, 2), (2, 2), (3, 2), (5, 2), (1, 0), (4, 0)] (by kernel_rfl) (by kernel_rfl) R (Jf R (Jb2 U33 R Z24 R R) (Jn 1 R (Jf R (Jb2 U33 R Z24 R R) (Jn 1 R ?_))))
 have f137 := f11.stp (S120.tr S136) R R
 refine Jg R (Jc2 I24 R R (hvC (f137.ld 0 R R) R)) (Jg R (Jc2 I24 R R (hvC (f137.ld 1 R R) R)) (Jp1 (WA.fork2 (fuel := 5) 6 7 (by kernel_rfl) R ?_ ?_)))
 refine Jl1 (κ := K119) (E := E6) (z := (0 : Int)) 6 R R R R R R R Y40 Tryzinfo2 R R R R R (fun _ _ _ => R) (Ju2 hx26) fun am al w138 K139 S140 f141 => ⟨(S140.cl R), Jp1 (Jq1 (fuel := 4) [(8, 2)] (by kernel_rfl) (by kernel_rfl) R (Jf R (Jf2 f121.rdc hx28 U24 Z40 R R hn122 R) (Jp1 (WA.fork2 (fuel := 3) 7 9 (by kernel_rfl) R ?_ ?_))))⟩
 refine Jl1 (κ := K139) (E := E6) (z := (0 : Int)) 7 R R R R R R R Y40 Tryzinfo2 R R R R R (fun _ _ _ => R) (Ju2 hx27) fun aj ak w142 K143 S144 f145 => ⟨((S140.tr S144).cl R), Jp1 (Jq1 (fuel := 0) [(9, 1), (10, 2), (11, 1)] (by kernel_rfl) (by kernel_rfl) R (Jk1 (κ := K143) (E := (Ep.own E6 2)) 3 [6] R R R R R R R R Z40 R ⟨_, _, R, (f141.stp S144 R R)⟩ R R (f121.stp (S136.tr (S140.tr S144)) R R) hy171 fun w148 K149 S150 f151 => ⟨((S140.tr (S144.tr S150)).cl R), ?_⟩))⟩
 have hn152 : ((⟨x10, x12⟩ : Machine).Next).length = y171.length := hn122.trans (Jt2 hy171).2.2.2.symm
 refine Jf R (Jf2 f123.rdc hx29 U24 Z40 R R hn124 R) (Jk1 (κ := K149) (E := (Ep.own E6 2)) 4 [7] R R R R R R R R Z40 R ⟨_, _, R, (f145.stp S150 R R)⟩ R R (f123.stp (S136.tr (S140.tr (S144.tr S150))) R R) hy172 fun w155 K156 S157 f158 => ⟨((S140.tr (S144.tr (S150.tr S157))).cl R), ?_⟩)
 have hn159 : ((⟨x10, x12⟩ : Machine).Out).length = y172.length := hn124.trans (Jt2 hy172).2.2.2.symm
 exact Jp1 (Jr1 [] (by kernel_rfl) (by kernel_rfl) R (Jo (Jw1 _ ⟨K156, R, (S136.tr (S140.tr (S144.tr (S150.tr S157)))).wk R, (f151.stp S157 R R), hn152, f158, hn159⟩ (KM R))))
 refine Jk1 (κ := K139) (E := (Ep.own E6 2)) 3 [6] R R R R R R R R Z40 R ⟨_, _, R, f141⟩ R R (f121.stp (S136.tr S140) R R) hy171 fun w162 K163 S164 f165 => ⟨((S140.tr S164).cl R), ?_⟩
 have hn166 : ((⟨x10, x12⟩ : Machine).Next).length = y171.length := hn122.trans (Jt2 hy171).2.2.2.symm
 refine Jp1 (Jq1 (fuel := 0) [(7, 1), (10, 2), (11, 1)] (by kernel_rfl) (by kernel_rfl) R (Jl1 (κ := K163) (E := E6) (z := (0 : Int)) 7 R R R R R R R Y40 Tryzinfo2 R R R R R (fun _ _ _ => R) (Ju2 hx27) fun aj ak w167 K168 S169 f170 => ⟨((S140.tr (S164.tr S169)).cl R), Jf R (Jf2 f123.rdc hx29 U24 Z40 R R hn124 R) (Jk1 (κ := K168) (E := (Ep.own E6 2)) 4 [7] R R R R R R R R Z40 R ⟨_, _, R, f170⟩ R R (f123.stp (S136.tr (S140.tr (S164.tr S169))) R R) hy172 fun w172 K173 S174 f175 => ⟨((S140.tr (S164.tr (S169.tr S174))).cl R), ?_⟩)⟩))
 have hn176 : ((⟨x10, x12⟩ : Machine).Out).length = y172.length := hn124.trans (Jt2 hy172).2.2.2.symm
 exact Jp1 (Jr1 [] (by kernel_rfl) (by kernel_rfl) R (Jo (Jw1 _ ⟨K173, R, (S136.tr (S140.tr (S164.tr (S169.tr S174)))).wk R, (f165.stp (S169.tr S174) R R), hn166, f175, hn176⟩ (KM R))))
 refine Jl1 (κ := K119) (E := E6) (z := (0 : Int)) 6 R R R R R R R Y40 Tryzinfo2 R R R R R (fun _ _ _ => R) (Ju2 hx27) fun aj ak w178 K179 S180 f181 => ⟨(S180.cl R), Jp1 (Jq1 (fuel := 0) [(6, 1), (8, 2), (9, 1), (10, 2), (11, 1)] (by kernel_rfl) (by kernel_rfl) R (Jl1 (κ := K179) (E := E6) (z := (0 : Int)) 7 R R R R R R R Y40 Tryzinfo2 R R R R R (fun _ _ _ => R) (Ju2 hx26) fun am al w182 K183 S184 f185 => ⟨((S180.tr S184).cl R), Jf R (Jf2 f121.rdc hx28 U24 Z40 R R hn122 R) (Jk1 (κ := K183) (E := (Ep.own E6 2)) 3 [7] R R R R R R R R Z40 R ⟨_, _, R, f185⟩ R R (f121.stp (S136.tr (S180.tr S184)) R R) hy171 fun w187 K188 S189 f190 => ⟨((S180.tr (S184.tr S189)).cl R), ?_⟩)⟩))⟩
 have hn191 : ((⟨x10, x12⟩ : Machine).Next).length = y171.length := hn122.trans (Jt2 hy171).2.2.2.symm
 refine Jf R (Jf2 f123.rdc hx29 U24 Z40 R R hn124 R) (Jk1 (κ := K188) (E := (Ep.own E6 2)) 4 [6] R R R R R R R R Z40 R ⟨_, _, R, (f181.stp (S184.tr S189) R R)⟩ R R (f123.stp (S136.tr (S180.tr (S184.tr S189))) R R) hy172 fun w194 K195 S196 f197 => ⟨((S180.tr (S184.tr (S189.tr S196))).cl R), ?_⟩)
 have hn198 : ((⟨x10, x12⟩ : Machine).Out).length = y172.length := hn124.trans (Jt2 hy172).2.2.2.symm
 exact Jp1 (Jr1 [] (by kernel_rfl) (by kernel_rfl) R (Jo (Jw1 _ ⟨K195, R, (S136.tr (S180.tr (S184.tr (S189.tr S196)))).wk R, (f190.stp S196 R R), hn191, f197, hn198⟩ (KM R))))
 rintro _ w127 ⟨K128, rfl, S129, f131, hn132, f133, hn134⟩
 refine Jp (Jq (Je [2] R (Jb 1 R (Ob h fun q5 hq202 hK201 => ?_))))
 clear h
 refine Jx1 (fun L w' => ∃ κ', ∃ s6 : Int × Int × (List (List Int)), L = [(0, vi s6.1), (1, vi p1), (4, .pointer (some ⟨b4, 0, none⟩)), (5, .pointer (some ⟨b5, 0, none⟩)), (6, vi s1.2.1)] ∧ Stp [4, 6] K128 w127 κ' w' ∧ Oc (Ep.own E6 2) 40 κ' w' 4 ai ae s6.2.2 ∧ ((⟨x10, x12⟩ : Machine).Out).length = s6.2.2.length ∧ q5 = Sum.inr s6) ?_ ?_
 refine Jv (Jy1 (fun k L w' => ∃ κ', ∃ s4 : Int × Int × (List (List Int)), L = [(0, vi s4.1), (1, vi p1), (4, .pointer (some ⟨b4, 0, none⟩)), (5, .pointer (some ⟨b5, 0, none⟩)), (6, vi s1.2.1), (7, vi s4.2.1)] ∧ Stp [4, 6] K128 w127 κ' w' ∧ Oc (Ep.own E6 2) 40 κ' w' 4 ai ae s4.2.2 ∧ ((⟨x10, x12⟩ : Machine).Out).length = s4.2.2.length ∧ whileM (i_machineOf_b2 s1) k s4 = some q5) ⟨_, _, ⟨K128, ((s1.1 : Int), (1 : Int), (y172 : (List (List Int)))), R, (Jx2 _ _).wk R, f133, hn134, hq202⟩, (KM R)⟩ ?_)
 rintro k _ w208 ⟨K209, s4, rfl, S210, f211, hn212, h⟩
 rcases k with _ | k
 cases h
 obtain ⟨o200, h, hk213⟩ := BI h; unfold i_machineOf_b2 at h
 refine Jq (Je [2, 2] R (Jb 2 R ?_))
 revert h
 cases ht214 : decide (0 ≤ s4.2.1)
 refine JF fun h => Jy R (Jc1 (Jt (Jt ?_)))
 cases h
 have h := hk213
 refine Jb1 ?_
 cases h
 exact Jw1 _ ⟨K209, ((s4.1 : Int), (s4.2.1 : Int), (s4.2.2 : (List (List Int)))), R, S210.wk R, f211, hn212, R⟩ (KM R)
 refine JT fun h => Jx R (Js (Jp (Jq (Jv (Je [2, 1, 2, 2, 1, 2, 2, 2, 2, 1] R (Jf R (Jb2 U33 R Z24 R R) (Jl tv R R R R (Jc2 I24 R R (hvE ((f11.stp (S120.tr (S129.tr S210)) R R).ld 1 R R))) (Jn 1 R (Ob h fun x37 hx37 h => Jf R (Jf2 f211.rdc hx37 U24 Z40 R R hn212 R) ?_)))))))))
 obtain ⟨ax37, ux37, f216, hl217⟩ := f211.rdc.gSl hx37
 refine Jl tv R R R R (Jc2 I40 R R (hvE hl217)) (Jn 2 R (Jf R (rn_rem R R R (by decide)) (Ob h fun x42 hx42 h => Jf R (Jf2 f216 hx42 U40 Z2 R R R R) ?_)))
 obtain ⟨K218, S219, f220, f221⟩ := f211.borrow hx37 (hl217 _ (Ag.refl _ _ _)) 6 R R
 refine Ob h fun y173 hy173 h => Jk1 (κ := K218) (E := E6) 6 [] R R R R R R R R Z2 R R R R f220 hy173 fun w222 K223 S224 f225 => ⟨tv, ?_⟩
 have hn226 : x37.length = y173.length := (Jt2 hy173).2.2.2.symm
 refine Ob h fun yb173 hyb173 h => ?_
 obtain ⟨K228, S229, f230⟩ := Ow.unborrow (f221.stp S224 R R) f225 hn226 R R hyb173
 have hn231 : ((⟨x10, x12⟩ : Machine).Out).length = yb173.length := hn212.trans (Jt2 hyb173).2.2.2.symm
 refine Jd (Ja [2, 2, 2] R (Jn 1 R (Jf R (rn_quo R R R (by decide)) (Jc 1 R (Jz (Jp (Ja [2, 2, 2] R (Jc 3 R ?_))))))))
 cases h
 exact Jz1 fun a ha => ⟨k, _, Ja3 _, ⟨K228, (((IntKind.i64.wrap (Int.tdiv s4.1 2)) : Int), ((IntKind.i64.wrap (s4.2.1 - 1)) : Int), (yb173 : (List (List Int)))), R, (S210.tr (S219.tr (S224.tr S229))).wk R, f230, hn231, hk213⟩, (ha.mm R)⟩
 rintro _ w203 ⟨K204, s6, rfl, S205, f206, hn207, rfl⟩
 have h := hK201
 dsimp only [aft] at h
 refine Jp (Je [2] R (Jb 1 R (Ob h fun q8 hq234 hK233 => ?_)))
 clear h
 refine Jx1 (fun L w' => ∃ κ', ∃ s9 : Int × Int × (List (List Int)), L = [(0, vi s9.1), (1, vi p1), (4, .pointer (some ⟨b4, 0, none⟩)), (5, .pointer (some ⟨b5, 0, none⟩)), (6, vi s1.2.1)] ∧ Stp [3, 6] K204 w203 κ' w' ∧ Oc (Ep.own E6 2) 40 κ' w' 3 af ah s9.2.2 ∧ ((⟨x10, x12⟩ : Machine).Next).length = s9.2.2.length ∧ q8 = Sum.inr s9) ?_ ?_
 refine Jv (Jy1 (fun k L w' => ∃ κ', ∃ s7 : Int × Int × (List (List Int)), L = [(0, vi s7.1), (1, vi p1), (4, .pointer (some ⟨b4, 0, none⟩)), (5, .pointer (some ⟨b5, 0, none⟩)), (6, vi s1.2.1), (8, vi s7.2.1)] ∧ Stp [3, 6] K204 w203 κ' w' ∧ Oc (Ep.own E6 2) 40 κ' w' 3 af ah s7.2.2 ∧ ((⟨x10, x12⟩ : Machine).Next).length = s7.2.2.length ∧ whileM (i_machineOf_b4 p1 s1) k s7 = some q8) ⟨_, _, ⟨K204, ((s6.1 : Int), (1 : Int), (y171 : (List (List Int)))), R, (Jx2 _ _).wk R, (f131.stp S205 R R), hn132, hq234⟩, (KM R)⟩ ?_)
 rintro k _ w240 ⟨K241, s7, rfl, S242, f243, hn244, h⟩
 rcases k with _ | k
 cases h
 obtain ⟨o232, h, hk246⟩ := BI h; unfold i_machineOf_b4 at h
 refine Jq (Je [2, 2] R (Jb 2 R ?_))
 revert h
 cases ht247 : decide (0 ≤ s7.2.1)
 refine JF fun h => Jy R (Jc1 (Jt (Jt ?_)))
 cases h
 have h := hk246
 refine Jb1 ?_
 cases h
 exact Jw1 _ ⟨K241, ((s7.1 : Int), (s7.2.1 : Int), (s7.2.2 : (List (List Int)))), R, S242.wk R, f243, hn244, R⟩ (KM R)
 refine JT fun h => Jx R (Js (Jp (Jq (Jv (Jq (Js1 (κ := K241) [0, 3, 5] (some 10) [(0, 2), (2, 2), (5, 2), (6, 2), (7, 2), (8, 2), (1, 0), (3, 2), (4, 0), (9, 2)] [(10, 1)] (by kernel_rfl) (by kernel_rfl) fun w249 S248 => Jf R (Jb2 U33 R Z24 R R) (Jn 4 R (Ob h fun _z57 hz57 h => Jf R (rn_rem R R R (nz_ok hz57)) (Jg R (Jc2 I24 R R (hvC ((f11.stp (S120.tr (S129.tr (S205.tr (S242.tr S248)))) R R).ld 0 R R) R)) (Ob h fun x52 hx52 h => Jf R (Jf2 f243.rdc hx52 U24 Z40 R R hn244 R) ?_))))))))))
 have f251 := f243.stp S248 R R
 obtain ⟨ax52, ux52, f252, hl253⟩ := f251.rdc.gSl hx52
 refine Jg R (Jc2 I40 R R (hvC hl253 R)) (Ob h fun x58 hx58 h => Jf R (Jf2 f252 hx58 U40 Z2 R R R R) (Jt1 ?_))
 obtain ⟨K254, S255, f256, f257⟩ := f251.borrow hx52 (hl253 _ (Ag.refl _ _ _)) 6 R R
 refine Ob h fun y174 hy174 h => Jk1 (κ := K254) (E := E6) 6 [] R R R R R R R R Z2 R R R R f256 hy174 fun w258 K259 S260 f261 => ⟨tv, ?_⟩
 have hn262 : x52.length = y174.length := (Jt2 hy174).2.2.2.symm
 refine Ob h fun yb174 hyb174 h => ?_
 obtain ⟨K264, S265, f266⟩ := Ow.unborrow (f257.stp S260 R R) f261 hn262 R R hyb174
 have hn267 : ((⟨x10, x12⟩ : Machine).Next).length = yb174.length := hn244.trans (Jt2 hyb174).2.2.2.symm
 refine Jd (Ja [2, 2, 2, 2] R (Jn 2 R (Ob h fun _z61 hz61 h => Jf R (rn_quo R R R (nz_ok hz61)) (Jc 1 R (Jz (Jp (Ja [2, 2, 2] R (Jc 3 R ?_))))))))
 cases h
 exact Jz1 fun a ha => ⟨k, _, Ja3 _, ⟨K264, (((IntKind.i64.wrap (Int.tdiv s7.1 p1)) : Int), ((IntKind.i64.wrap (s7.2.1 - 1)) : Int), (yb174 : (List (List Int)))), R, (S242.tr (S248.tr (S255.tr (S260.tr S265)))).wk R, f266, hn267, hk246⟩, (ha.mm R)⟩
 rintro _ w235 ⟨K236, s9, rfl, S237, f238, hn239, rfl⟩
 have h := hK233
 dsimp only [aft] at h
 refine Jz (Jp (Ja [2, 2, 2] R (Jc 3 R ?_)))
 cases h
 exact Jz1 fun a ha => ⟨k, _, Ja3 _, ⟨K236, ((s9.1 : Int), ((IntKind.i64.wrap (s1.2.1 - 1)) : Int), (s9.2.2 : (List (List Int))), (s6.2.2 : (List (List Int)))), R, (S120.tr (S129.tr (S205.tr S237))).wk R, f238, hn239, (f206.stp S237 R R), hn207, hk125⟩, (ha.mm R)⟩
 rintro _ w111 ⟨K112, s3, rfl, S113, f114, hn115, f116, hn117, rfl⟩
 have h := hK109
 dsimp only [aft] at h
 refine Jp (Je [1, 1] R (Jl tv R R R R (Jd2 (cs := [.slice af ((⟨x10, x12⟩ : Machine).Next).length ah, .slice ai ((⟨x10, x12⟩ : Machine).Out).length ae]) I33 Z33 R R R (haE (f11.stp S113 R R).cells)) (Jj1 (κ := K112) 2 (vc := [.slice af ((⟨x10, x12⟩ : Machine).Next).length ah, .slice ai ((⟨x10, x12⟩ : Machine).Out).length ae]) R R R R R R R Z33 R R (f4.stp (S7.tr S113) R R) R fun w271 S272 f273 => ⟨tv, Jd (Ju (Ja2 (l := [.cell 4 33]) V80 (res_cellA R f273 I33 Z33 R R) R ?_))⟩)))
 cases h
 exact ⟨(fun b => ren [(3, 2), (4, 3)] (K112 b)), af, ah, ai, ae, (by simp only [hn115, hn117]), ((hE.stp (S3.tr (S7.tr (S113.tr S272))) R R).map (ren [(3, 2), (4, 3)]) R R), ((f114.stp S272 R R).map (ren [(3, 2), (4, 3)]) R R), ((f116.stp S272 R R).map (ren [(3, 2), (4, 3)]) R R)⟩
theorem i_isSig_ok {w : World} {κ : Col} {p0 : Sig}  {r : Bool} (h : i_isSig p0 = some r) : Ret Tryz.prog 69 [.agg #[vi p0.In, vi p0.Out]] w (fun v w' => ∃ (κ' : Col), v = .bool r ∧ Ent κ w κ' w') := by
 unfold i_isSig at h
 refine Ret.enter F69 R N69 R ?_
 dsimp only [envOf]
 have hE := Ent.refl κ w
 refine Je [1, 2] R (Jf1 (κ := κ) 2 R R R R R R R fun b1 w1 K2 S3 f4 => ⟨tv, Jb 1 R (Je [2, 1, 2, 2, 2, 1, 2, 2, 2, 2, 1, 2, 2, 2, 2, 1, 2, 2, 2] R (Jf R (Jb2 U31 R Z2 R R) (Jl tv R R R R (Jc2 I2 R R (hvE (f4.ld 0 R R))) (Jn 2 R (Ob h fun p10 h hK5 => Ju1 [(4, 2), (5, 1), (6, 2), (7, 2)] [(8, 2), (9, 2), (10, 1), (11, 2), (12, 2), (13, 2), (14, 2), (15, 1), (16, 2), (17, 2), (18, 2)] (fun L w' => L = [(1, .pointer (some ⟨b1, 0, none⟩)), (2, .bool false), (10, .bool p10)] ∧ ∃ κ', Stp [] K2 w1 κ' w') tv ?_ ?_)))))⟩)
 revert h
 cases ht6 : decide (1 ≤ p0.In)
 refine JF fun h => Jn 1 R (Jd1 R R R R (Jn 2 R ?_))
 cases h
 exact Jv1 _ tv ⟨R, _, (Jx2 _ _).wk R⟩ (KM R)
 refine JT fun h => Jf R (Jb2 U31 R Z2 R R) (Jl tv R R R R (Jc2 I2 R R (hvE (f4.ld 0 R R))) (Jn 2 R ?_))
 cases h
 exact Jv1 _ tv ⟨R, _, (Jx2 _ _).wk R⟩ (KM R)
 rintro _ w7 _ ⟨rfl, K8, S9⟩
 have h := hK5
 refine Jn 1 R (Ob h fun p15 h hK10 => Ju1 [(9, 2), (10, 1), (11, 2), (12, 2)] [(13, 2), (14, 2), (15, 1), (16, 2), (17, 2), (18, 2)] (fun L w' => L = [(1, .pointer (some ⟨b1, 0, none⟩)), (2, .bool false), (15, .bool p15)] ∧ ∃ κ', Stp [] K8 w7 κ' w') tv ?_ ?_)
 revert h
 cases ht11 : p10
 refine JF fun h => Jn 1 R (Jd1 R R R R (Jn 2 R ?_))
 cases h
 exact Jv1 _ tv ⟨R, _, (Jx2 _ _).wk R⟩ (KM R)
 refine JT fun h => Jf R (Jb2 U31 R Z2 R R) (Jl tv R R R R (Jc2 I2 R R (hvE ((f4.stp S9 R R).ld 1 R R))) (Jn 2 R ?_))
 cases h
 exact Jv1 _ tv ⟨R, _, (Jx2 _ _).wk R⟩ (KM R)
 rintro _ w13 _ ⟨rfl, K14, S15⟩
 have h := hK10
 refine Jn 1 R (Ob h fun p20 h hK16 => Ju1 [(14, 2), (15, 1), (16, 2), (17, 2)] [(18, 2)] (fun L w' => L = [(2, .bool false), (20, .bool p20)] ∧ ∃ κ', Stp [] K14 w13 κ' w') tv ?_ ?_)
 revert h
 cases ht17 : p15
 refine JF fun h => Jn 1 R (Jd1 R R R R (Jn 2 R ?_))
 cases h
 exact Jv1 _ tv ⟨R, _, (Jx2 _ _).wk R⟩ (KM R)
 refine JT fun h => Jf R (Jb2 U31 R Z2 R R) (Jl tv R R R R (Jc2 I2 R R (hvE ((f4.stp (S9.tr S15) R R).ld 1 R R))) (Jn 2 R ?_))
 cases h
 exact Jv1 _ tv ⟨R, _, (Jx2 _ _).wk R⟩ (KM R)
 rintro _ w19 _ ⟨rfl, K20, S21⟩
 have h := hK16
 refine Jb 1 R (Ju (Ja2 (l := [.tmp 2]) V69 (Jp2 R R) R ?_))
 cases h
 exact ⟨K20, R, (hE.stp (S3.tr (S9.tr (S15.tr S21))) R R)⟩
theorem i_inputsOf_ok {w : World} {κ : Col} {p0 : Sig}  {r : Int} (h : i_inputsOf p0 = some r) : Ret Tryz.prog 72 [.agg #[vi p0.In, vi p0.Out]] w (fun v w' => ∃ (κ' : Col), v = vi r ∧ Ent κ w κ' w') := by
 unfold i_inputsOf at h
 refine Ret.enter F72 R N72 R ?_
 dsimp only [envOf]
 have hE := Ent.refl κ w
 refine Je [1, 2] R (Jf1 (κ := κ) 2 R R R R R R R fun b1 w1 K2 S3 f4 => ⟨tv, Jb 1 R (Je [2, 1, 2, 2] R (Jf R (Jb2 U31 R Z2 R R) (Jl tv R R R R (Jc2 I2 R R (hvE (f4.ld 0 R R))) (Ob h fun _z5 hz5 h => Jf R (rn_shl R R R (nn_ok hz5)) (Jb 1 R (Ju (Ja2 (l := [.tmp 2]) V72 (Jp2 R R) R ?_)))))))⟩)
 cases h
 exact ⟨K2, R, (hE.stp S3 R R)⟩
theorem i_areLetters_1_ok {w : World} {κ : Col} {p0 : Int} {c0 : Int} {b1} (gb1 : Bc κ w 0 b1 2 [vi c0]) {r : Bool} (h : i_areLetters_1 p0 c0 = some r) : Ret Tryz.prog 149 [vi p0, .pointer (some ⟨b1, 0, none⟩)] w (fun v w' => ∃ (κ' : Col), v = .bool r ∧ Ent κ w κ' w') := by
 unfold i_areLetters_1 at h
 refine Ret.enter F149 R N149 R ?_
 dsimp only [envOf]
 have hE := Ent.refl κ w
 refine Je [2] R (Jb 1 R (Je [2, 2, 2, 2, 1, 2, 2, 2] R (Jn 3 R (Ob h fun p10 h hK1 => Ju1 [(3, 2), (4, 1), (5, 2), (6, 2)] [(7, 2)] (fun L w' => L = [(1, .pointer (some ⟨b1, 0, none⟩)), (3, .bool false), (10, .bool p10)] ∧ ∃ κ', Stp [] κ w κ' w') tv ?_ ?_))))
 revert h
 cases ht2 : decide (p0 < 0)
 refine JF fun h => Jn 1 R (Jl tv R R R R (Jc2 I2 R R (hvE (gb1.ld 0 R R))) (Jn 2 R ?_))
 cases h
 exact Jv1 _ tv ⟨R, _, (Jx2 _ _).wk R⟩ (KM R)
 refine JT fun h => Jn 1 R (Jd1 R R R R (Jn 2 R ?_))
 cases h
 exact Jv1 _ tv ⟨R, _, (Jx2 _ _).wk R⟩ (KM R)
 rintro _ w3 _ ⟨rfl, K4, S5⟩
 have h := hK1
 refine Jb 1 R (Ju (Ja2 (l := [.tmp 3]) V149 (Jp2 R R) R ?_))
 cases h
 exact ⟨K4, R, (hE.stp S5 R R)⟩
theorem i_loopsIn_3_ok {w : World} {κ : Col} {p0 : Int} {a1 u1} {c0 : (List Int)} {b1} (g1 : Oc E6 2 κ w 2 a1 u1 c0) (gb1 : Bc κ w 3 b1 40 [.slice a1 c0.length u1]) {r : (List Int)} (h : i_loopsIn_3 p0 c0 = some r) : Ret Tryz.prog 154 [vi p0, .pointer (some ⟨b1, 0, none⟩)] w (fun v w' => ∃ (κ' : Col) (ma0 : Option Addr) (mu0 : Nat), v = .tuple #[] ∧ Ent κ w κ' w' ∧ Oc E6 2 κ' w' 2 ma0 mu0 r ∧ Bc κ' w' 3 b1 40 [.slice ma0 r.length mu0]) := by
 unfold i_loopsIn_3 at h
 refine Ret.enter F154 R N154 R ?_
 dsimp only [envOf]
 have hE := Ent.refl κ w
 refine Ja [1, 2, 1, 1, 1] R (Jl tv R R R R (Jc2 I40 R R (hvE (gb1.ld 0 R R))) (Jn 1 R (Jn1 (κ := κ) (E := E6) 4 [] (parts := [(0, .tmp 4)]) (cells := [vi p0]) (xs := ([p0] : List Int)) R R R R R R Y40 Tryzinfo2 R R R R R R R R R R ⟨[vi p0], [], Zl κ w [], Zl κ w [], R, Zl.sp (l1 := []) (l2 := []) R, Zl.sr (l1 := []) (l2 := []), R, R⟩ fun a5 u5 w1 K2 S3 f4 => ⟨tv, Ob h fun x6 hx6 h => Jm1 (κ := K2) (E := E6) 2 [] R R R R R R R R R Y40 Tryzinfo2 R R R R (g1.stp S3 R R) (Sl.srcP (pu_int _) f4.rdc) sy_false hx6 R fun a6 u6 w6 K7 S8 f9 => ⟨tv, Jj1 (κ := K7) 3 (vc := [.slice a6 x6.length u6]) R R R R R R R Z40 R R (gb1.stp (S3.tr S8) R R) R fun w11 S12 f13 => ⟨tv, Jo (DN.end0 V154 ?_)⟩⟩⟩)))
 cases h
 exact ⟨K7, a6, u6, R, (hE.stp (S3.tr (S8.tr S12)) R R), (f9.stp S12 R R), f13⟩
theorem l_heldInt64S_ok {w : World} {κ : Col} {a0 u0} {p0 : (List Int)} {p1 : Int} (g0 : Rd (Rp.int .i64) κ w 0 a0 u0 p0) {r : Int} (h : l_heldInt64S p0 p1 = some r) : Ret Tryz.prog 24 [.slice a0 p0.length u0, vi p1] w (fun v w' => ∃ (κ' : Col), v = vi r ∧ Ent κ w κ' w') := by
 unfold l_heldInt64S at h
 refine Ret.enter F24 R N24 R ?_
 dsimp only [envOf]
 have hE := Ent.refl κ w
 refine Je [2] R (Jb 1 R (Jq (Je [2] R (Jb 1 R ?_))))
 have hN1 : (p0.length : Int) ≤ 9223372036854775807 := g0.len_le
 refine Ob h fun q2 hq3 hK2 => ?_
 clear h
 refine Jx1 (fun L w' => ∃ κ' s3, L = [(1, vi s3)] ∧ Stp [] κ w κ' w' ∧ q2 = Sum.inr s3) ?_ ?_
 refine Jv (Jy1 (fun k L w' => ∃ κ' v5 s1, L = [(0, .slice a0 p0.length u0), (1, vi s1), (5, vi v5)] ∧ Stp [] κ w κ' w' ∧ 0 ≤ v5 ∧ Int.toNat ((p0.length : Int) - v5) = k ∧ cntM (l_heldInt64S_b0 p0) k v5 s1 = some q2) ⟨_, _, ⟨κ, 0, (p1 : Int), R, (Jx2 _ _).wk R, (by decide), (by simp), hq3⟩, (KM R)⟩ ?_)
 rintro k _ w7 ⟨K8, v5, s1, rfl, S9, hj1, hJ1, h⟩
 rcases k with _ | k
 have hk10 := h; obtain ⟨o1, h⟩ := ex_eq (Sum.inr (Sum.inl s1) : Int ⊕ ((Int) ⊕ (Int)))
 have hc1 : decide (v5 < (p0.length : Int)) = false := Jo2 (by omega)
 refine Jq (Je [2, 2, 2, 2] R (Jn 2 R (Jf R (Je2 U40 R R) (Jb 1 R (Jw2 R hc1 (Jc1 (Jt (Jt ?_))))))))
 cases h
 have h := hk10
 refine Jb1 ?_
 cases h
 exact Jw1 _ ⟨K8, (s1 : Int), R, S9.wk R, R⟩ (KM R)
 obtain ⟨o1, h, hk10⟩ := BI h; unfold l_heldInt64S_b0 at h
 have hc1 : decide (v5 < (p0.length : Int)) = true := Jn2 (by omega)
 refine Jq (Je [2, 2, 2, 2] R (Jn 2 R (Jf R (Je2 U40 R R) (Jb 1 R (Jv2 R hc1 (Js (Jp (Jq (Jv (Jq (Je [2, 2, 2, 1, 2, 2] R (Jn 2 R (Ob h fun x14 hx14 h => Jf R (Jf2 g0 hx14 U40 Z2 R R R R) (Jl tv R R R R (Jc2 I2 R R (hvE ((g0.stp S9 R R).gInt hx14))) (Jb 2 R ?_)))))))))))))))
 revert h
 cases ht12 : (x14 != s1)
 refine JF fun h => Jy R (Js (Jp (Ja [2, 2, 2] R (Jc 3 R (Jz (Jp (Ja [2, 2, 2] R (Jc 3 R ?_))))))))
 have hw1 : IntKind.wrap .i64 (v5 + 1) = v5 + 1 := wr1 hj1 (Jm2 hc1) hN1
 rw [hw1]
 have hc1 := Jm2 hc1
 cases h
 exact Jz1 fun a ha => ⟨k, _, Ja3 _, ⟨K8, v5 + 1, ((IntKind.i64.wrap (s1 + 1)) : Int), R, S9.wk R, by omega, by omega, hk10⟩, (ha.mm R)⟩
 refine JT fun h => Jx R (Je [2] R (Jb 1 R (Ju (Jw (Ja1 (Jw (Jw ?_)))))))
 cases h
 obtain rfl := Option.some.inj hk10
 have h := hK2
 dsimp only [aft] at h
 refine Ja1 (Jq2 (Jw (Ja2 (l := [.tmp 4]) V24 (Jp2 R R) R ?_)))
 cases h
 exact ⟨K8, R, (hE.stp S9 R R)⟩
 rintro _ w4 ⟨K5, s3, rfl, S6, rfl⟩
 have h := hK2
 dsimp only [aft] at h
 refine Jp (Je [2, 2] R (Jb 2 R (Ju (Ja2 (l := [.tmp 4]) V24 (Jp2 R R) R ?_))))
 cases h
 exact ⟨K5, R, (hE.stp S6 R R)⟩
end Go.Proofs.YtcmamhmpoinmnaaGreat
