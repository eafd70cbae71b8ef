/- The walks, part 1. By program. -/
import Derived.Test.YtcmamhmpoinmnaaGreatFnsMBO
import Derived.Test.YtcmamhmpoinmnaaGreatAlBO
set_option linter.unusedVariables false
set_option linter.unusedSimpArgs false
namespace Go.Proofs.YtcmamhmpoinmnaaGreat
open Go Go.Wk Go.Proofs
set_option maxRecDepth 100000
set_option maxHeartbeats 1000000
theorem s_l25States_ok {w : World} {κ : Col} {p0 : Int}  {r : Int} (h : s_l25States p0 = some r) : Ret Tryz.prog 141 [vi p0] w (fun v w' => ∃ (κ' : Col), v = vi r ∧ Ent κ w κ' w') := by
 unfold s_l25States at h
 refine Ret.enter F141 R N141 R ?_
 dsimp only [envOf]
 have hE := Ent.refl κ w
 refine Je [2] R (Jb 1 R (Jq (Je [2] R (Jb 1 R (Jv (Je [2, 2] R (Jb 2 R ?_)))))))
 revert h
 cases ht1 : (p0 == 2)
 refine JF fun h => Jy R (Je [2, 2] R (Jb 2 R ?_))
 revert h
 cases ht2 : (p0 == 7)
 refine JF fun h => Jy R (Js (Jz (Jp (Je [2] R (Jb 1 R (Ju (Ja2 (l := [.tmp 2]) V141 (Jp2 R R) R ?_)))))))
 cases h
 exact ⟨κ, R, hE⟩
 refine JT fun h => Jx R (Je [2] R (Jb 1 R (Ju (Ja1 (Jw (Ja2 (l := [.tmp 2]) V141 (Jp2 R R) R ?_))))))
 cases h
 exact ⟨κ, R, hE⟩
 refine JT fun h => Jx R (Je [2] R (Jb 1 R (Ju (Ja1 (Jw (Ja2 (l := [.tmp 2]) V141 (Jp2 R R) R ?_))))))
 cases h
 exact ⟨κ, R, hE⟩
theorem s_l1Has_ok {w : World} {κ : Col} {a0 u0} {p0 : (List Int)} {p1 : Int} (g0 : Rd (Rp.int .i64) κ w 0 a0 u0 p0) {r : Bool} (h : s_l1Has p0 p1 = some r) : Ret Tryz.prog 117 [.slice a0 p0.length u0, vi p1] w (fun v w' => ∃ (κ' : Col), v = .bool r ∧ Ent κ w κ' w') := by
 unfold s_l1Has at h
 refine Ret.enter F117 R N117 R ?_
 dsimp only [envOf]
 have hE := Ent.refl κ w
 refine Je [2] R (Jb 1 R (Jq (Je [2] R (Jb 1 R ?_))))
 have hN1 : (p0.length : Int) ≤ 9223372036854775807 := g0.len_le
 refine Ob h fun q2 hq3 hK2 => ?_
 clear h
 refine Jx1 (fun L w' => ∃ κ', L = [] ∧ Stp [] κ w κ' w' ∧ q2 = Sum.inr ()) ?_ ?_
 refine Jv (Jy1 (fun k L w' => ∃ κ' v5, L = [(0, .slice a0 p0.length u0), (1, vi p1), (5, vi v5)] ∧ Stp [] κ w κ' w' ∧ 0 ≤ v5 ∧ Int.toNat ((p0.length : Int) - v5) = k ∧ cntM (s_l1Has_b0 p0 p1) k v5 () = some q2) ⟨_, _, ⟨κ, 0, R, (Jx2 _ _).wk R, (by decide), (by simp), hq3⟩, (KM R)⟩ ?_)
 rintro k _ w7 ⟨K8, v5, rfl, S9, hj1, hJ1, h⟩
 rcases k with _ | k
 have hk10 := h; obtain ⟨o1, h⟩ := ex_eq (Sum.inr (Sum.inl ()) : Bool ⊕ ((Unit) ⊕ (Unit)))
 have hc1 : decide (v5 < (p0.length : Int)) = false := Jo2 (by omega)
 refine Jq (Je [2, 2, 2, 2] R (Jn 2 R (Jf R (Je2 U40 R R) (Jb 1 R (Jw2 R hc1 (Jc1 (Jt (Jt ?_))))))))
 cases h
 have h := hk10
 refine Jb1 ?_
 cases h
 exact Jw1 _ ⟨K8, R, S9.wk R, R⟩ KN
 obtain ⟨o1, h, hk10⟩ := BI h; unfold s_l1Has_b0 at h
 have hc1 : decide (v5 < (p0.length : Int)) = true := Jn2 (by omega)
 refine Jq (Je [2, 2, 2, 2] R (Jn 2 R (Jf R (Je2 U40 R R) (Jb 1 R (Jv2 R hc1 (Js (Jp (Jq (Jv (Je [2, 2, 2, 1, 2, 2] R (Jn 2 R (Ob h fun x14 hx14 h => Jf R (Jf2 g0 hx14 U40 Z2 R R R R) (Jl tv R R R R (Jc2 I2 R R (hvE ((g0.stp S9 R R).gInt hx14))) (Jb 2 R ?_))))))))))))))
 revert h
 cases ht12 : (x14 == p1)
 refine JF fun h => Jy R (Js (Jz (Jp (Ja [2, 2, 2] R (Jc 3 R ?_)))))
 have hw1 : IntKind.wrap .i64 (v5 + 1) = v5 + 1 := wr1 hj1 (Jm2 hc1) hN1
 rw [hw1]
 have hc1 := Jm2 hc1
 cases h
 exact Jz1 fun a ha => ⟨k, _, Ja3 _, ⟨K8, v5 + 1, R, S9.wk R, by omega, by omega, hk10⟩, (ha.mm R)⟩
 refine JT fun h => Jx R (Je [2] R (Jb 1 R (Ju (Ja1 (Jw (Jw ?_))))))
 cases h
 obtain rfl := Option.some.inj hk10
 have h := hK2
 dsimp only [aft] at h
 refine Ja1 (Jq2 (Jw (Ja2 (l := [.tmp 4]) V117 (Jp2 R R) R ?_)))
 cases h
 exact ⟨K8, R, (hE.stp S9 R R)⟩
 rintro _ w4 ⟨K5, rfl, S6, rfl⟩
 have h := hK2
 dsimp only [aft] at h
 refine Jp (Je [2] R (Jb 1 R (Ju (Ja2 (l := [.tmp 4]) V117 (Jp2 R R) R ?_))))
 cases h
 exact ⟨K5, R, (hE.stp S6 R R)⟩
theorem s_l1Max_ok {w : World} {κ : Col} {p0 : Int} {p1 : Int}  {r : Int} (h : s_l1Max p0 p1 = some r) : Ret Tryz.prog 95 [vi p0, vi p1] w (fun v w' => ∃ (κ' : Col), v = vi r ∧ Ent κ w κ' w') := by
 unfold s_l1Max at h
 refine Ret.enter F95 R N95 R ?_
 dsimp only [envOf]
 have hE := Ent.refl κ w
 refine Je [2] R (Jb 1 R (Jq (Je [2, 2, 2] R (Jb 3 R ?_))))
 revert h
 cases ht1 : decide (p1 < p0)
 refine JF fun h => Jy R (Js (Jp (Je [2, 2] R (Jb 2 R (Ju (Ja2 (l := [.tmp 4]) V95 (Jp2 R R) R ?_))))))
 cases h
 exact ⟨κ, R, hE⟩
 refine JT fun h => Jx R (Je [2, 2] R (Jb 2 R (Ju (Jw (Ja2 (l := [.tmp 4]) V95 (Jp2 R R) R ?_)))))
 cases h
 exact ⟨κ, R, hE⟩
theorem s_l30Find_ok {w : World} {κ : Col} {am aj ah ae ac ad ab aa} {p0 : l30Graph} {p1 : Int} {p2 : Int} {b0} (g0_0 : Oc E6 2 κ w 2 am aj p0.of) (g0_1 : Oc E6 2 κ w 3 ah ae p0.by0) (g0_2 : Rd (Rp.sl (Rp.int .i64)) κ w 0 ac ad p0.next) (g0_3 : Rd (Rp.sl (Rp.int .i64)) κ w 0 ab aa p0.letters) (gb0 : Bc κ w 4 b0 158 [.slice am p0.of.length aj, .slice ah p0.by0.length ae, .slice ac p0.next.length ad, .slice ab p0.letters.length aa]) {r : Int × (List Int) × (List Int)} (h : s_l30Find p0 p1 p2 = some r) : Ret Tryz.prog 164 [.pointer (some ⟨b0, 0, none⟩), vi p1, vi p2] w (fun v w' => ∃ (κ' : Col) (ma0 : Option Addr) (mu0 : Nat) (ma1 : Option Addr) (mu1 : Nat), v = vi r.1 ∧ Ent κ w κ' w' ∧ Oc E6 2 κ' w' 2 ma0 mu0 r.2.1 ∧ Oc E6 2 κ' w' 3 ma1 mu1 r.2.2 ∧ Bc κ' w' 4 b0 158 [.slice ma0 r.2.1.length mu0, .slice ma1 r.2.2.length mu1, .slice ac p0.next.length ad, .slice ab p0.letters.length aa]) := by
 unfold s_l30Find at h
 refine Ret.enter F164 R N164 R ?_
 dsimp only [envOf]
 have hE := Ent.refl κ w
 refine Je [2] R (Jb 1 R (Jq (Je [2] R (Jb 1 R ?_))))
 have hN1 : (p0.of.length : Int) ≤ 9223372036854775807 := g0_0.len_le
 refine Ob h fun q2 hq3 hK2 => ?_
 clear h
 refine Jx1 (fun L w' => ∃ κ', L = [(0, .pointer (some ⟨b0, 0, none⟩)), (1, vi p1), (2, vi p2)] ∧ Stp [] κ w κ' w' ∧ q2 = Sum.inr ()) ?_ ?_
 refine Jv (Jy1 (fun k L w' => ∃ κ' v7, L = [(0, .pointer (some ⟨b0, 0, none⟩)), (1, vi p1), (2, vi p2), (7, vi v7)] ∧ Stp [] κ w κ' w' ∧ 0 ≤ v7 ∧ Int.toNat ((p0.of.length : Int) - v7) = k ∧ cntM (s_l30Find_b0 p0 p1 p2) k v7 () = some q2) ⟨_, _, ⟨κ, 0, R, (Jx2 _ _).wk R, (by decide), (by simp), hq3⟩, (KM R)⟩ ?_)
 rintro k _ w7 ⟨K8, v7, rfl, S9, hj1, hJ1, h⟩
 rcases k with _ | k
 have hk10 := h; obtain ⟨o1, h⟩ := ex_eq (Sum.inr (Sum.inl ()) : (Int × (List Int) × (List Int)) ⊕ ((Unit) ⊕ (Unit)))
 have hc1 : decide (v7 < (p0.of.length : Int)) = false := Jo2 (by omega)
 refine Jq (Je [2, 2, 2, 2, 1, 2, 2] R (Jn 2 R (Jf R (rn_nilCheck R R) (Jf R (Jb2 U158 R Z40 R R) (Jl tv R R R R (Jc2 I40 R R (hvE ((gb0.stp S9 R R).ld 0 R R))) (Jf R (Je2 U40 R R) (Jb 1 R (Jw2 R hc1 (Jc1 (Jt (Jt ?_)))))))))))
 cases h
 have h := hk10
 refine Jb1 ?_
 cases h
 exact Jw1 _ ⟨K8, R, S9.wk R, R⟩ (KM R)
 obtain ⟨o1, h, hk10⟩ := BI h; unfold s_l30Find_b0 at h
 have hc1 : decide (v7 < (p0.of.length : Int)) = true := Jn2 (by omega)
 refine Jq (Je [2, 2, 2, 2, 1, 2, 2] R (Jn 2 R (Jf R (rn_nilCheck R R) (Jf R (Jb2 U158 R Z40 R R) ?_))))
 have f12 := gb0.stp S9 R R
 refine Jl tv R R R R (Jc2 I40 R R (hvE (f12.ld 0 R R))) (Jf R (Je2 U40 R R) (Jb 1 R (Jv2 R hc1 (Js (Jp (Jq (Jv (Je [2, 2, 2, 1, 2, 2, 1, 2, 2, 2, 2, 2, 2, 1, 2, 2, 1, 2, 2, 2] R (Jn 1 R (Jf R (rn_nilCheck R R) (Jf R (Jb2 U158 R Z40 R R) (Jl tv R R R R (Jc2 I40 R R (hvE (f12.ld 0 R R))) (Jn 1 R (Ob h fun x22 hx22 h => Jf R (Jf2 g0_0.rdc hx22 U40 Z2 R R R R) ?_))))))))))))))
 have f13 := g0_0.stp S9 R R
 refine Jl tv R R R R (Jc2 I2 R R (hvE (f13.rdc.gInt hx22))) (Jn 3 R (Ob h fun p36 h hK14 => Ju1 [(10, 2), (11, 2), (12, 2), (13, 1), (14, 2), (15, 2), (16, 1), (17, 2), (18, 2), (19, 2)] [] (fun L w' => L = [(0, .pointer (some ⟨b0, 0, none⟩)), (1, vi p1), (2, vi p2), (7, vi v7), (36, .bool p36)] ∧ ∃ κ', Stp [] K8 w7 κ' w') tv ?_ ?_))
 revert h
 cases ht15 : (x22 == p1)
 refine JF fun h => Jn 3 R (Jd1 R R R R (Jn 2 R (Jd1 R R R R (Jn 3 R ?_))))
 cases h
 exact Jv1 _ tv ⟨R, _, (Jx2 _ _).wk R⟩ (KM R)
 refine JT fun h => Jn 1 R (Jf R (rn_nilCheck R R) (Jf R (Jb2 U158 R Z40 R R) (Jl tv R R R R (Jc2 I40 R R (hvE (f12.ld 1 R R))) (Jn 1 R (Ob h fun x32 hx32 h => Jf R (Jf2 g0_1.rdc hx32 U40 Z2 R R R R) (Jl tv R R R R (Jc2 I2 R R (hvE ((g0_1.stp S9 R R).rdc.gInt hx32))) (Jn 3 R ?_)))))))
 cases h
 exact Jv1 _ tv ⟨R, _, (Jx2 _ _).wk R⟩ (KM R)
 rintro _ w17 _ ⟨rfl, K18, S19⟩
 have h := hK14
 refine Jd ?_
 revert h
 cases ht20 : p36
 refine JF fun h => Jy R (Js (Jz (Jp (Ja [2, 2, 2] R (Jc 3 R ?_)))))
 have hw1 : IntKind.wrap .i64 (v7 + 1) = v7 + 1 := wr1 hj1 (Jm2 hc1) hN1
 rw [hw1]
 have hc1 := Jm2 hc1
 cases h
 exact Jz1 fun a ha => ⟨k, _, Ja3 _, ⟨K18, v7 + 1, R, (S9.tr S19).wk R, by omega, by omega, hk10⟩, (ha.mm R)⟩
 refine JT fun h => Jx R (Je [2, 2] R (Jb 2 R (Ju (Ja1 (Jw (Jw ?_))))))
 cases h
 obtain rfl := Option.some.inj hk10
 have h := hK2
 dsimp only [aft] at h
 refine Ja1 (Jq2 (Jw (Ja2 (l := [.tmp 6]) V164 (Jp2 R R) R ?_)))
 cases h
 exact ⟨K18, am, aj, ah, ae, R, (hE.stp (S9.tr S19) R R), (f13.stp S19 R R), (g0_1.stp (S9.tr S19) R R), (f12.stp S19 R R)⟩
 rintro _ w4 ⟨K5, rfl, S6, rfl⟩
 have h := hK2
 dsimp only [aft] at h
 refine Jp (Je [2, 2, 2, 2, 1, 2, 1, 1, 2, 2, 1] R (Jn 2 R (Jf R (rn_nilCheck R R) (Jf R (Jb2 U158 R Z40 R R) ?_))))
 have f25 := gb0.stp S6 R R
 refine Jl tv R R R R (Jc2 I40 R R (hvE (f25.ld 0 R R))) (Jn 1 R (Jn1 (κ := K5) (E := E6) 5 [] (parts := [(0, .tmp 43)]) (cells := [vi p1]) (xs := ([p1] : List Int)) R R R R R R Y40 Tryzinfo2 R R R R R R R R R R ⟨[vi p1], [], Zl K5 w4 [], Zl K5 w4 [], R, Zl.sp (l1 := []) (l2 := []) R, Zl.sr (l1 := []) (l2 := []), R, R⟩ fun ap aq w26 K27 S28 f29 => ⟨tv, Ob h fun x45 hx45 h => Jm1 (κ := K27) (E := E6) 2 [] R R R R R R R R R Y40 Tryzinfo2 R R R R (g0_0.stp (S6.tr S28) R R) (Sl.srcP (pu_int _) f29.rdc) sy_false hx45 R fun ai af w31 K32 S33 f34 => ⟨tv, Jf R (rn_nilCheck R R) (Jf R (Jb2 U158 R Z40 R R) (Ji1 (κ := K32) 4 (off := 0) (vc := [.slice ai x45.length af]) (cs' := [.slice ai x45.length af, .slice ah p0.by0.length ae, .slice ac p0.next.length ad, .slice ab p0.letters.length aa]) R R R R R R R Z40 R R (f25.stp (S28.tr S33) R R) R R fun w36 S37 f38 => ⟨tv, Jd (Je [2, 2, 2, 2, 1, 2, 1, 1, 2, 2, 1] R (Jn 2 R (Jf R (rn_nilCheck R R) (Jf R (Jb2 U158 R Z40 R R) (Jl tv R R R R (Jc2 I40 R R (hvE (f38.ld 1 R R))) (Jn 1 R (Jn1 (κ := K32) (E := E6) 6 [] (parts := [(0, .tmp 53)]) (cells := [vi p2]) (xs := ([p2] : List Int)) R R R R R R Y40 Tryzinfo2 R R R R R R R R R R ⟨[vi p2], [], Zl K32 w36 [], Zl K32 w36 [], R, Zl.sp (l1 := []) (l2 := []) R, Zl.sr (l1 := []) (l2 := []), R, R⟩ fun an ao w39 K40 S41 f42 => ⟨tv, Ob h fun x55 hx55 h => Jm1 (κ := K40) (E := E6) 3 [] R R R R R R R R R Y40 Tryzinfo2 R R R R (g0_1.stp (S6.tr (S28.tr (S33.tr (S37.tr S41)))) R R) (Sl.srcP (pu_int _) f42.rdc) sy_false hx55 R fun ak al w44 K45 S46 f47 => ⟨tv, Jf R (rn_nilCheck R R) (Jf R (Jb2 U158 R Z40 R R) (Ji1 (κ := K45) 4 (off := 1) (vc := [.slice ak x55.length al]) (cs' := [.slice ai x45.length af, .slice ak x55.length al, .slice ac p0.next.length ad, .slice ab p0.letters.length aa]) R R R R R R R Z40 R R (f38.stp (S41.tr S46) R R) R R fun w49 S50 f51 => ⟨tv, Jd (Je [2, 2, 2, 1, 2, 2, 2] R (Jn 1 R (Jf R (rn_nilCheck R R) (Jf R (Jb2 U158 R Z40 R R) (Jl tv R R R R (Jc2 I40 R R (hvE (f51.ld 0 R R))) (Jf R (Je2 U40 R R) (Jb 2 R (Ju (Ja2 (l := [.tmp 6]) V164 (Jp2 R R) R ?_)))))))))⟩))⟩⟩)))))))⟩))⟩⟩))
 cases h
 exact ⟨K45, ai, af, ak, al, R, (hE.stp (S6.tr (S28.tr (S33.tr (S37.tr (S41.tr (S46.tr S50)))))) R R), (f34.stp (S37.tr (S41.tr (S46.tr S50))) R R), (f47.stp S50 R R), f51⟩
theorem s_l30Far_ok {w : World} {κ : Col} {a0 u0} {p0 : (List (List Int))} {a1 u1} {p1 : (List Bool)} {p2 : Int} (g0 : Rd (Rp.sl (Rp.int .i64)) κ w 0 a0 u0 p0) (g1 : Rd Rp.bool κ w 0 a1 u1 p1) {r : (List Int)} (h : s_l30Far p0 p1 p2 = some r) : Ret Tryz.prog 103 [.slice a0 p0.length u0, .slice a1 p1.length u1, vi p2] w (fun v w' => ∃ (κ' : Col) (ra0 : Option Addr) (ru0 : Nat), v = .slice ra0 r.length ru0 ∧ Ent κ w κ' w' ∧ Oc E6 2 κ' w' 2 ra0 ru0 r) := by
 unfold s_l30Far at h
 refine Ret.enter F103 R N103 R ?_
 dsimp only [envOf]
 have hE := Ent.refl κ w
 refine Je [2] R (Jb 1 R (Je [1, 2] R (Jo1 (κ := κ) (E := E6) 2 R R R R R Y40 Tryzinfo2 R fun ah ae w1 K2 S3 f4 => ⟨tv, Jb 1 R (Jq (Je [2] R (Jb 1 R ?_)))⟩)))
 have hN5 : (p0.length : Int) ≤ 9223372036854775807 := g0.len_le
 refine Ob h fun q2 hq7 hK6 => ?_
 clear h
 refine Jx1 (fun L w' => ∃ κ', ∃ s3 : (List Int), ∃ aa ab, L = [(0, .slice a0 p0.length u0), (1, .slice a1 p1.length u1), (2, vi p2), (7, .slice aa s3.length ab)] ∧ Stp [2] K2 w1 κ' w' ∧ Oc E6 2 κ' w' 2 aa ab s3 ∧ q2 = Sum.inr s3) ?_ ?_
 refine Jv (Jy1 (fun k L w' => ∃ κ' v8, ∃ s1 : (List Int), ∃ ac ad, L = [(0, .slice a0 p0.length u0), (1, .slice a1 p1.length u1), (2, vi p2), (7, .slice ac s1.length ad), (8, vi v8)] ∧ Stp [2] K2 w1 κ' w' ∧ Oc E6 2 κ' w' 2 ac ad s1 ∧ 0 ≤ v8 ∧ Int.toNat ((p0.length : Int) - v8) = k ∧ cntM s_l30Far_b0 k v8 s1 = some q2) ⟨_, _, ⟨K2, 0, (([] : List Int) : (List Int)), ah, ae, R, (Jx2 _ _).wk R, f4, (by decide), (by simp), hq7⟩, (KM R)⟩ ?_)
 rintro k _ w12 ⟨K13, v8, s1, ac, ad, rfl, S14, f15, hj5, hJ5, h⟩
 rcases k with _ | k
 have hk16 := h; obtain ⟨o5, h⟩ := ex_eq (Sum.inr (Sum.inl s1) : (List Int) ⊕ (((List Int)) ⊕ ((List Int))))
 have hc5 : decide (v8 < (p0.length : Int)) = false := Jo2 (by omega)
 refine Jq (Je [2, 2, 2, 2] R (Jn 2 R (Jf R (Je2 U24 R R) (Jb 1 R (Jw2 R hc5 (Jc1 (Jt (Jt ?_))))))))
 cases h
 have h := hk16
 refine Jb1 ?_
 cases h
 exact Jw1 _ ⟨K13, (s1 : (List Int)), ac, ad, R, S14.wk R, f15, R⟩ (KM R)
 obtain ⟨o5, h, hk16⟩ := BI h; unfold s_l30Far_b0 at h
 have hc5 : decide (v8 < (p0.length : Int)) = true := Jn2 (by omega)
 refine Jq (Je [2, 2, 2, 2] R (Jn 2 R (Jf R (Je2 U24 R R) (Jb 1 R (Jv2 R hc5 (Js (Jp (Jq (Jv (Ja [2, 1, 1, 2] R (Jn 1 R (Jn1 (κ := K13) (E := E6) 3 [] (parts := [(0, .const (vi (-1)))]) (cells := [vi (-1)]) (xs := ([(-1)] : List Int)) R R R R R R Y40 Tryzinfo2 R R R R R R R R R R ⟨[vi (-1)], [], Zl K13 w12 [], Zl K13 w12 [], R, Zl.sp (l1 := []) (l2 := []) R, Zl.sr (l1 := []) (l2 := []), R, R⟩ fun ak aj w17 K18 S19 f20 => ⟨tv, Ob h fun x21 hx21 h => Jm1 (κ := K18) (E := E6) 2 [] R R R R R R R R R Y40 Tryzinfo2 R R R R (f15.stp S19 R R) (Sl.srcP (pu_int _) f20.rdc) sy_false hx21 R fun af ai w22 K23 S24 f25 => ⟨tv, Jc 1 R (Jz (Jp (Ja [2, 2, 2] R (Jc 3 R ?_))))⟩⟩))))))))))))
 have hw5 : IntKind.wrap .i64 (v8 + 1) = v8 + 1 := wr1 hj5 (Jm2 hc5) hN5
 rw [hw5]
 have hc5 := Jm2 hc5
 cases h
 exact Jz1 fun a ha => ⟨k, _, Ja3 _, ⟨K23, v8 + 1, (x21 : (List Int)), af, ai, R, (S14.tr (S19.tr S24)).wk R, f25, by omega, by omega, hk16⟩, (ha.mm R)⟩
 rintro _ w8 ⟨K9, s3, aa, ab, rfl, S10, f11, rfl⟩
 have h := hK6
 dsimp only [aft] at h
 refine Jp (Je [2, 2, 2, 1] R (Jn 2 R (Ob h fun x24 hx24 h => Jf R (Jf2 f11.rdc hx24 U40 Z2 R R R R) (Ob h fun y148 hy148 h => Jk1 (κ := K9) (E := E6) 2 [] R R R R R R R R Z2 R R R R f11 hy148 fun w26 K27 S28 f29 => ⟨tv, ?_⟩))))
 have hn30 : s3.length = y148.length := (Jt2 hy148).2.2.2.symm
 refine Jd (Jq (Je [2] R (Jb 1 R ?_)))
 have hN31 : (p0.length : Int) ≤ 9223372036854775807 := g0.len_le
 refine Ob h fun q5 hq33 hK32 => ?_
 clear h
 refine Jx1 (fun L w' => ∃ κ', ∃ s6 : (List Int), L = [(7, .slice aa s3.length ab)] ∧ Stp [2] K27 w26 κ' w' ∧ Oc E6 2 κ' w' 2 aa ab s6 ∧ s3.length = s6.length ∧ q5 = Sum.inr s6) ?_ ?_
 refine Jv (Jy1 (fun k L w' => ∃ κ' v9, ∃ s4 : (List Int), L = [(0, .slice a0 p0.length u0), (1, .slice a1 p1.length u1), (7, .slice aa s3.length ab), (9, vi v9)] ∧ Stp [2] K27 w26 κ' w' ∧ Oc E6 2 κ' w' 2 aa ab s4 ∧ s3.length = s4.length ∧ 0 ≤ v9 ∧ Int.toNat ((p0.length : Int) - v9) = k ∧ cntM (s_l30Far_b2 p0 p1) k v9 s4 = some q5) ⟨_, _, ⟨K27, 0, (y148 : (List Int)), R, (Jx2 _ _).wk R, f29, hn30, (by decide), (by simp), hq33⟩, (KM R)⟩ ?_)
 rintro k _ w39 ⟨K40, v9, s4, rfl, S41, f42, hn43, hj31, hJ31, h⟩
 rcases k with _ | k
 have hk44 := h; obtain ⟨o31, h⟩ := ex_eq (Sum.inr (Sum.inl s4) : (List Int) ⊕ (((List Int)) ⊕ ((List Int))))
 have hc31 : decide (v9 < (p0.length : Int)) = false := Jo2 (by omega)
 refine Jq (Je [2, 2, 2, 2] R (Jn 2 R (Jf R (Je2 U24 R R) (Jb 1 R (Jw2 R hc31 (Jc1 (Jt (Jt ?_))))))))
 cases h
 have h := hk44
 refine Jb1 ?_
 cases h
 exact Jw1 _ ⟨K40, (s4 : (List Int)), R, S41.wk R, f42, hn43, R⟩ (KM R)
 obtain ⟨o31, h, hk44⟩ := BI h; unfold s_l30Far_b2 at h
 have hc31 : decide (v9 < (p0.length : Int)) = true := Jn2 (by omega)
 refine Jq (Je [2, 2, 2, 2] R (Jn 2 R (Jf R (Je2 U24 R R) (Jb 1 R (Jv2 R hc31 (Js (Jp (Jq (Jv (Je [2] R (Jb 1 R ?_)))))))))))
 have hN45 : (p0.length : Int) ≤ 9223372036854775807 := g0.len_le
 refine Ob h fun q8 hq47 hK46 => ?_
 clear h
 refine Jx1 (fun L w' => ∃ κ', ∃ s9 : (List Int), L = [(0, .slice a0 p0.length u0), (1, .slice a1 p1.length u1), (7, .slice aa s3.length ab), (9, vi v9)] ∧ Stp [2] K40 w39 κ' w' ∧ Oc E6 2 κ' w' 2 aa ab s9 ∧ s3.length = s9.length ∧ q8 = Sum.inr s9) ?_ ?_
 refine Jv (Jy1 (fun k L w' => ∃ κ' v10, ∃ s7 : (List Int), L = [(0, .slice a0 p0.length u0), (1, .slice a1 p1.length u1), (7, .slice aa s3.length ab), (9, vi v9), (10, vi v10)] ∧ Stp [2] K40 w39 κ' w' ∧ Oc E6 2 κ' w' 2 aa ab s7 ∧ s3.length = s7.length ∧ 0 ≤ v10 ∧ Int.toNat ((p0.length : Int) - v10) = k ∧ cntM (s_l30Far_b4 p0 p1 v9) k v10 s7 = some q8) ⟨_, _, ⟨K40, 0, (s4 : (List Int)), R, (Jx2 _ _).wk R, f42, hn43, (by decide), (by simp), hq47⟩, (KM R)⟩ ?_)
 rintro k _ w53 ⟨K54, v10, s7, rfl, S55, f56, hn57, hj45, hJ45, h⟩
 rcases k with _ | k
 have hk58 := h; obtain ⟨o45, h⟩ := ex_eq (Sum.inr (Sum.inl s7) : (List Int) ⊕ (((List Int)) ⊕ ((List Int))))
 have hc45 : decide (v10 < (p0.length : Int)) = false := Jo2 (by omega)
 refine Jq (Je [2, 2, 2, 2] R (Jn 2 R (Jf R (Je2 U24 R R) (Jb 1 R (Jw2 R hc45 (Jc1 (Jt (Jt ?_))))))))
 cases h
 have h := hk58
 refine Jb1 ?_
 cases h
 exact Jw1 _ ⟨K54, (s7 : (List Int)), R, S55.wk R, f56, hn57, R⟩ (KM R)
 obtain ⟨o45, h, hk58⟩ := BI h; unfold s_l30Far_b4 at h
 have hc45 : decide (v10 < (p0.length : Int)) = true := Jn2 (by omega)
 refine Jq (Je [2, 2, 2, 2] R (Jn 2 R (Jf R (Je2 U24 R R) (Jb 1 R (Jv2 R hc45 (Js (Jp (Jq (Jv (Je [2] R (Jb 1 R (Ob h fun q11 hq61 hK60 => ?_))))))))))))
 clear h
 refine Jx1 (fun L w' => ∃ κ', ∃ s12 : Int × (List Int), L = [(0, .slice a0 p0.length u0), (1, .slice a1 p1.length u1), (7, .slice aa s3.length ab), (9, vi v9), (10, vi v10)] ∧ Stp [2] K54 w53 κ' w' ∧ Oc E6 2 κ' w' 2 aa ab s12.2 ∧ s3.length = s12.2.length ∧ q11 = Sum.inr s12) ?_ ?_
 refine Jv (Jy1 (fun k L w' => ∃ κ', ∃ s10 : Int × (List Int), L = [(0, .slice a0 p0.length u0), (1, .slice a1 p1.length u1), (7, .slice aa s3.length ab), (9, vi v9), (10, vi v10), (11, vi s10.1)] ∧ Stp [2] K54 w53 κ' w' ∧ Oc E6 2 κ' w' 2 aa ab s10.2 ∧ s3.length = s10.2.length ∧ whileM (s_l30Far_b6 p0 p1 v9 v10) k s10 = some q11) ⟨_, _, ⟨K54, ((0 : Int), (s7 : (List Int))), R, (Jx2 _ _).wk R, f56, hn57, hq61⟩, (KM R)⟩ ?_)
 rintro k _ w67 ⟨K68, s10, rfl, S69, f70, hn71, h⟩
 rcases k with _ | k
 cases h
 obtain ⟨o59, h, hk72⟩ := BI h; unfold s_l30Far_b6 at h
 refine Jq (Je [2, 2, 2, 2, 1, 2, 2, 2, 2, 2, 2, 1, 2, 2, 2, 2, 2, 2, 1, 2] R (Jn 3 R (Ob h fun x40 hx40 h => Jf R (Jf2 g0 hx40 U24 Z40 R R R R) ?_)))
 have f73 := g0.stp (S3.tr (S10.tr (S28.tr (S41.tr (S55.tr S69))))) R R
 obtain ⟨ax40, ux40, f74, hl75⟩ := f73.gSl hx40
 refine Jl tv R R R R (Jc2 I40 R R (hvE hl75)) (Jf R (Je2 U40 R R) (Jn 2 R (Ob h fun p50 h hK76 => Ju1 [(8, 2), (9, 2), (10, 2), (11, 1), (12, 2), (13, 2)] [(14, 2), (15, 2), (16, 2), (17, 2), (18, 1), (19, 2)] (fun L w' => L = [(0, .slice a0 p0.length u0), (1, .slice a1 p1.length u1), (7, .slice aa s3.length ab), (9, vi v9), (10, vi v10), (11, vi s10.1), (50, .bool p50)] ∧ ∃ κ', Stp [] K68 w67 κ' w') tv ?_ ?_)))
 revert h
 cases ht77 : decide (s10.1 < (x40.length : Int))
 refine JF fun h => Jn 3 R (Jd1 R R R R (Jn 2 R ?_))
 cases h
 exact Jv1 _ tv ⟨R, _, (Jx2 _ _).wk R⟩ (KM R)
 refine JT fun h => Jn 2 R (Ob h fun x47 hx47 h => Jf R (Jf2 f70.rdc hx47 U40 Z2 R R hn71 R) (Jl tv R R R R (Jc2 I2 R R (hvE (f70.rdc.gInt hx47))) (Jn 2 R ?_)))
 cases h
 exact Jv1 _ tv ⟨R, _, (Jx2 _ _).wk R⟩ (KM R)
 rintro _ w78 _ ⟨rfl, K79, S80⟩
 have h := hK76
 refine Jn 1 R (Ob h fun p56 h hK81 => Ju1 [(15, 2), (16, 2), (17, 2), (18, 1), (19, 2)] [] (fun L w' => L = [(0, .slice a0 p0.length u0), (1, .slice a1 p1.length u1), (7, .slice aa s3.length ab), (9, vi v9), (10, vi v10), (11, vi s10.1), (56, .bool p56)] ∧ ∃ κ', Stp [] K79 w78 κ' w') tv ?_ ?_)
 revert h
 cases ht82 : p50
 refine JF fun h => Jn 3 R (Jd1 R R R R (Jn 1 R ?_))
 cases h
 exact Jv1 _ tv ⟨R, _, (Jx2 _ _).wk R⟩ (KM R)
 refine JT fun h => Jn 2 R (Ob h fun x54 hx54 h => Jf R (Jf2 g1 hx54 U135 Z4 R R R R) (Jl tv R R R R (Jc2 I4 R R (hvE ((g1.stp (S3.tr (S10.tr (S28.tr (S41.tr (S55.tr (S69.tr S80)))))) R R).gBool hx54))) (Jn 1 R ?_)))
 cases h
 exact Jv1 _ tv ⟨R, _, (Jx2 _ _).wk R⟩ (KM R)
 rintro _ w84 _ ⟨rfl, K85, S86⟩
 have h := hK81
 refine Jd ?_
 revert h
 cases ht87 : p56
 refine JF fun h => Jy R (Jc1 (Jt (Jt ?_)))
 cases h
 have h := hk72
 refine Jb1 ?_
 cases h
 exact Jw1 _ ⟨K85, ((s10.1 : Int), (s10.2 : (List Int))), R, (S69.tr (S80.tr S86)).wk R, (f70.stp (S80.tr S86) R R), hn71, R⟩ (KM R)
 refine JT fun h => Jx R (Js (Jp (Jq (Jv (Je [2, 2, 2, 2, 1, 2, 2, 1, 2, 1, 2, 2] R (Jn 3 R (Ob h fun x62 hx62 h => Jf R (Jf2 f73 hx62 U24 Z40 R R R R) ?_)))))))
 obtain ⟨ax62, ux62, f89, hl90⟩ := (f73.stp (S80.tr S86) R R).gSl hx62
 refine Jl tv R R R R (Jc2 I40 R R (hvE hl90)) (Jn 1 R (Ob h fun x65 hx65 h => Jf R (Jf2 f89 hx65 U40 Z2 R R R R) (Jl tv R R R R (Jc2 I2 R R (hvE (f89.gInt hx65))) (Ob h fun x67 hx67 h => Jf R (Jf2 f70.rdc hx67 U40 Z2 R R hn71 R) ?_))))
 have f91 := f70.stp (S80.tr S86) R R
 refine Jl tv R R R R (Jc2 I2 R R (hvE (f91.rdc.gInt hx67))) (Jb 2 R (Ob h fun q13 h hK92 => Jx1 (fun L w' => ∃ κ', L = [(0, .slice a0 p0.length u0), (1, .slice a1 p1.length u1), (7, .slice aa s3.length ab), (9, vi v9), (10, vi v10), (11, vi s10.1)] ∧ Stp [2] K85 w84 κ' w' ∧ Oc E6 2 κ' w' 2 aa ab q13 ∧ s3.length = q13.length) ?_ ?_))
 revert h
 cases ht98 : (x67 == v9)
 refine JF fun h => Jy R (Js ?_)
 cases h
 exact Jw1 _ ⟨K85, R, (Jx2 _ _).wk R, f91, hn71⟩ (KM R)
 refine JT fun h => Jx R (Ja [2, 2, 2, 2, 2, 1] R (Jn 4 R (Ob h fun x75 hx75 h => Jf R (Jf2 f91.rdc hx75 U40 Z2 R R hn71 R) (Ob h fun y149 hy149 h => Jk1 (κ := K85) (E := E6) 2 [] R R R R R R R R Z2 R R R R f91 hy149 fun w99 K100 S101 f102 => ⟨tv, ?_⟩))))
 have hn103 : s3.length = y149.length := hn71.trans (Jt2 hy149).2.2.2.symm
 refine Jo ?_
 cases h
 exact Jw1 _ ⟨K100, R, S101.wk R, f102, hn103⟩ (KM R)
 rintro _ w93 ⟨K94, rfl, S95, f96, hn97⟩
 have h := hK92
 refine Jz (Jp (Ja [2, 2, 2] R (Jc 3 R ?_)))
 cases h
 exact Jz1 fun a ha => ⟨k, _, Ja3 _, ⟨K94, (((IntKind.i64.wrap (s10.1 + 1)) : Int), (q13 : (List Int))), R, (S69.tr (S80.tr (S86.tr S95))).wk R, f96, hn97, hk72⟩, (ha.mm R)⟩
 rintro _ w62 ⟨K63, s12, rfl, S64, f65, hn66, rfl⟩
 have h := hK60
 dsimp only [aft] at h
 refine Jz (Jp (Ja [2, 2, 2] R (Jc 3 R ?_)))
 have hw45 : IntKind.wrap .i64 (v10 + 1) = v10 + 1 := wr1 hj45 (Jm2 hc45) hN45
 rw [hw45]
 have hc45 := Jm2 hc45
 cases h
 exact Jz1 fun a ha => ⟨k, _, Ja3 _, ⟨K63, v10 + 1, (s12.2 : (List Int)), R, (S55.tr S64).wk R, f65, hn66, by omega, by omega, hk58⟩, (ha.mm R)⟩
 rintro _ w48 ⟨K49, s9, rfl, S50, f51, hn52, rfl⟩
 have h := hK46
 dsimp only [aft] at h
 refine Jz (Jp (Ja [2, 2, 2] R (Jc 3 R ?_)))
 have hw31 : IntKind.wrap .i64 (v9 + 1) = v9 + 1 := wr1 hj31 (Jm2 hc31) hN31
 rw [hw31]
 have hc31 := Jm2 hc31
 cases h
 exact Jz1 fun a ha => ⟨k, _, Ja3 _, ⟨K49, v9 + 1, (s9 : (List Int)), R, (S41.tr S50).wk R, f51, hn52, by omega, by omega, hk44⟩, (ha.mm R)⟩
 rintro _ w34 ⟨K35, s6, rfl, S36, f37, hn38, rfl⟩
 have h := hK32
 dsimp only [aft] at h
 refine Jp (Je [2, 2] R (Jb 2 R (Ju (Ja2 (l := [.tmp 6]) V103 (Jp2 R R) R ?_))))
 cases h
 exact ⟨K35, aa, ab, (by simp only [hn38]), (hE.stp (S3.tr (S10.tr (S28.tr S36))) R R), f37⟩
theorem s_l30Way_ok {w : World} {κ : Col} {a0 u0} {p0 : (List (List Int))} {a1 u1} {p1 : (List Int)} {p2 : Int} {p3 : Bool} (g0 : Rd (Rp.sl (Rp.int .i64)) κ w 0 a0 u0 p0) (g1 : Rd (Rp.int .i64) κ w 0 a1 u1 p1) {r : (List Int)} (h : s_l30Way p0 p1 p2 p3 = some r) : Ret Tryz.prog 102 [.slice a0 p0.length u0, .slice a1 p1.length u1, vi p2, .bool p3] w (fun v w' => ∃ (κ' : Col) (ra0 : Option Addr) (ru0 : Nat), v = .slice ra0 r.length ru0 ∧ Ent κ w κ' w' ∧ Oc E6 2 κ' w' 2 ra0 ru0 r) := by
 unfold s_l30Way at h
 refine Ret.enter F102 R N102 R ?_
 dsimp only [envOf]
 have hE := Ent.refl κ w
 refine Je [2] R (Jb 1 R (Je [1, 2] R (Jo1 (κ := κ) (E := E6) 2 R R R R R Y40 Tryzinfo2 R fun af ah w1 K2 S3 f4 => ⟨tv, Jb 1 R (Je [2, 2] R (Jb 2 R (Jq (Ob h fun q2 hq7 hK6 => ?_))))⟩)))
 clear h
 refine Jx1 (fun L w' => ∃ κ', ∃ s3 : Bool × (List Int) × Int, ∃ ac ad, L = [(9, .slice ac s3.2.1.length ad)] ∧ Stp [2] K2 w1 κ' w' ∧ Oc E6 2 κ' w' 2 ac ad s3.2.1 ∧ q2 = Sum.inr s3) ?_ ?_
 refine Jv (Jy1 (fun k L w' => ∃ κ', ∃ s1 : Bool × (List Int) × Int, ∃ aa ab, L = [(0, .slice a0 p0.length u0), (1, .slice a1 p1.length u1), (3, .bool s1.1), (9, .slice aa s1.2.1.length ab), (10, vi s1.2.2)] ∧ Stp [2] K2 w1 κ' w' ∧ Oc E6 2 κ' w' 2 aa ab s1.2.1 ∧ whileM (s_l30Way_b0 p0 p1) k s1 = some q2) ⟨_, _, ⟨K2, ((p3 : Bool), (([] : List Int) : (List Int)), (p2 : Int)), af, ah, R, (Jx2 _ _).wk R, f4, hq7⟩, (KM R)⟩ ?_)
 rintro k _ w12 ⟨K13, s1, aa, ab, rfl, S14, f15, h⟩
 rcases k with _ | k
 cases h
 obtain ⟨o5, h, hk16⟩ := BI h; unfold s_l30Way_b0 at h
 refine Jq (Je [2, 2, 2, 2, 2, 1, 2, 2] R (Jn 2 R (Ob h fun p23 h hK17 => Ju1 [(2, 2), (3, 2), (4, 2), (5, 1), (6, 2), (7, 2)] [] (fun L w' => L = [(0, .slice a0 p0.length u0), (1, .slice a1 p1.length u1), (9, .slice aa s1.2.1.length ab), (10, vi s1.2.2), (23, .bool p23)] ∧ ∃ κ', Stp [] K13 w12 κ' w') tv ?_ ?_)))
 revert h
 cases ht18 : s1.1
 refine JF fun h => Jn 2 R (Ob h fun x20 hx20 h => Jf R (Jf2 g1 hx20 U40 Z2 R R R R) (Jl tv R R R R (Jc2 I2 R R (hvE ((g1.stp (S3.tr S14) R R).gInt hx20))) (Jn 2 R ?_)))
 cases h
 exact Jv1 _ tv ⟨R, _, (Jx2 _ _).wk R⟩ (KM R)
 refine JT fun h => Jn 3 R (Jd1 R R R R (Jn 2 R ?_))
 cases h
 exact Jv1 _ tv ⟨R, _, (Jx2 _ _).wk R⟩ (KM R)
 rintro _ w20 _ ⟨rfl, K21, S22⟩
 have h := hK17
 refine Jd ?_
 revert h
 cases ht23 : p23
 refine JF fun h => Jy R (Jc1 (Jt (Jt ?_)))
 cases h
 have h := hk16
 refine Jb1 ?_
 cases h
 exact Jw1 _ ⟨K21, ((false : Bool), (s1.2.1 : (List Int)), (s1.2.2 : Int)), aa, ab, R, (S14.tr S22).wk R, (f15.stp S22 R R), R⟩ (KM R)
 refine JT fun h => Jx R (Js (Jp (Jv (Je [2] R (Jb 1 R (Je [2] R (Jb 1 R (Jq (Je [2] R (Jb 1 R (Ob h fun q5 hq26 hK25 => ?_)))))))))))
 clear h
 refine Jx1 (fun L w' => ∃ κ', ∃ s6 : Int × Int, L = [(0, .slice a0 p0.length u0), (1, .slice a1 p1.length u1), (3, .bool false), (9, .slice aa s1.2.1.length ab), (10, vi s1.2.2), (11, vi s6.1)] ∧ Stp [] K21 w20 κ' w' ∧ q5 = Sum.inr s6) ?_ ?_
 refine Jv (Jy1 (fun k L w' => ∃ κ', ∃ s4 : Int × Int, L = [(0, .slice a0 p0.length u0), (1, .slice a1 p1.length u1), (3, .bool false), (9, .slice aa s1.2.1.length ab), (10, vi s1.2.2), (11, vi s4.1), (12, vi s4.2)] ∧ Stp [] K21 w20 κ' w' ∧ whileM (s_l30Way_b2 p0 p1 s1) k s4 = some q5) ⟨_, _, ⟨K21, (((-1) : Int), (0 : Int)), R, (Jx2 _ _).wk R, hq26⟩, (KM R)⟩ ?_)
 rintro k _ w30 ⟨K31, s4, rfl, S32, h⟩
 rcases k with _ | k
 cases h
 obtain ⟨o24, h, hk33⟩ := BI h; unfold s_l30Way_b2 at h
 refine Jq (Je [2, 2, 2, 2, 1, 2, 2] R (Jn 3 R (Ob h fun x27 hx27 h => Jf R (Jf2 g0 hx27 U24 Z40 R R R R) ?_)))
 have f34 := g0.stp (S3.tr (S14.tr (S22.tr S32))) R R
 obtain ⟨ax27, ux27, f35, hl36⟩ := f34.gSl hx27
 refine Jl tv R R R R (Jc2 I40 R R (hvE hl36)) (Jf R (Je2 U40 R R) (Jb 1 R ?_))
 revert h
 cases ht37 : decide (s4.2 < (x27.length : Int))
 refine JF fun h => Jy R (Jc1 (Jt (Jt ?_)))
 cases h
 have h := hk33
 refine Jb1 ?_
 cases h
 exact Jw1 _ ⟨K31, ((s4.1 : Int), (s4.2 : Int)), R, S32.wk R, R⟩ (KM R)
 refine JT fun h => Jx R (Js (Jp (Jq (Jv (Je [2, 2, 2, 1, 2, 2, 1, 2] R (Jn 2 R (Ob h fun x35 hx35 h => Jf R (Jf2 f34 hx35 U24 Z40 R R R R) ?_)))))))
 obtain ⟨ax35, ux35, f38, hl39⟩ := f34.gSl hx35
 refine Jl tv R R R R (Jc2 I40 R R (hvE hl39)) (Jn 1 R (Ob h fun x38 hx38 h => Jf R (Jf2 f38 hx38 U40 Z2 R R R R) (Jl tv R R R R (Jc2 I2 R R (hvE (f38.gInt hx38))) (Jb 1 R (Jq (Js1 (κ := K31) [0] none [(0, 2), (1, 2), (2, 2), (3, 0), (4, 2), (5, 2), (6, 2), (7, 2), (8, 2), (9, 2), (10, 2), (11, 2), (13, 2), (14, 2), (15, 2), (16, 2), (18, 2), (12, 0), (17, 0), (19, 2), (20, 0), (21, 2), (22, 0), (23, 2), (24, 2), (25, 2)] [] (by kernel_rfl) (by kernel_rfl) fun w41 S40 => Jn 2 R (Ob h fun x42 hx42 h => Jf R (Jf2 g1 hx42 U40 Z2 R R R R) ?_)))))))
 have f42 := g1.stp (S3.tr (S14.tr (S22.tr (S32.tr S40)))) R R
 refine Jg R (Jc2 I2 R R (hvC (f42.gInt hx42) R)) (Jn 2 R (Ob h fun p65 h hK43 => Ju1 [(6, 2), (7, 2), (8, 2), (9, 2), (10, 2), (11, 2), (13, 2), (14, 2), (15, 2), (16, 2), (18, 2), (12, 0), (17, 0), (19, 2), (20, 0), (21, 2), (22, 0), (23, 2), (24, 2), (25, 2)] [] (fun L w' => L = [(0, .slice a0 p0.length u0), (1, .slice a1 p1.length u1), (3, .bool false), (9, .slice aa s1.2.1.length ab), (10, vi s1.2.2), (11, vi s4.1), (12, vi s4.2), (65, .bool p65)] ∧ ∃ κ', Stp [] K31 w41 κ' w') (Cl.refl _ _ _) ?_ ?_))
 revert h
 cases ht44 : decide (0 ≤ x42)
 refine JF fun h => Jn 11 R (Je1 R R R R (Je1 R R R R (Jn 1 R (Je1 R R R R (Jn 1 R (Je1 R R R R (Jn 3 R ?_)))))))
 cases h
 exact Jv1 _ (Cl.refl _ _ _) ⟨R, _, (Jx2 _ _).wk R⟩ (KM R)
 refine JT fun h => Jn 3 R (Ob h fun p64 h hK45 => Ju1 [(9, 2), (10, 2), (11, 2), (13, 2), (14, 2), (15, 2), (16, 2), (18, 2), (12, 0), (17, 0), (19, 2), (20, 0), (21, 2), (22, 0), (23, 2), (24, 2)] [(25, 2)] (fun L w' => L = [(0, .slice a0 p0.length u0), (1, .slice a1 p1.length u1), (3, .bool false), (9, .slice aa s1.2.1.length ab), (10, vi s1.2.2), (11, vi s4.1), (12, vi s4.2), (45, .bool true), (46, vi s4.1), (47, .bool (decide (s4.1 < 0))), (48, .bool (decide (s4.1 < 0))), (64, .bool p64)] ∧ ∃ κ', Stp [] K31 w41 κ' w') (Cl.refl _ _ _) ?_ ?_)
 revert h
 cases ht46 : decide (s4.1 < 0)
 refine JF fun h => Jn 2 R (Ob h fun x51 hx51 h => Jf R (Jf2 f42 hx51 U40 Z2 R R R R) (Jn 3 R (Ob h fun x56 hx56 h => Jf R (Jf2 f34 hx56 U24 Z40 R R R R) (Jn 1 R (Jg R (Jc2 I2 R R (hvC (f42.gInt hx51) R)) ?_)))))
 obtain ⟨ax56, ux56, f48, hl49⟩ := (f34.stp S40 R R).gSl hx56
 refine Jg R (Jc2 I40 R R (hvC hl49 R)) (Ob h fun x59 hx59 h => Jf R (Jf2 f48 hx59 U40 Z2 R R R R) (Jg R (Jc2 I2 R R (hvC (f48.gInt hx59) R)) (Ob h fun x61 hx61 h => Jf R (Jf2 f42 hx61 U40 Z2 R R R R) (Jg R (Jc2 I2 R R (hvC (f42.gInt hx61) R)) (Jn 2 R ?_)))))
 cases h
 exact Jv1 _ (Cl.refl _ _ _) ⟨R, _, (Jx2 _ _).wk R⟩ (KM R)
 refine JT fun h => Jn 8 R (Je1 R R R R (Je1 R R R R (Jn 1 R (Je1 R R R R (Jn 1 R (Je1 R R R R (Jn 2 R ?_)))))))
 cases h
 exact Jv1 _ (Cl.refl _ _ _) ⟨R, _, (Jx2 _ _).wk R⟩ (KM R)
 rintro _ w50 _ ⟨rfl, K51, S52⟩
 have h := hK45
 refine Jn 1 R ?_
 cases h
 exact Jv1 _ (S52.cl R) ⟨R, _, S52.wk R⟩ (KM R)
 rintro _ w53 _ ⟨rfl, K54, S55⟩
 have h := hK43
 refine Jt1 (Jd (Ob h fun q7 h hK56 => Jx1 (fun L w' => ∃ κ', L = [(0, .slice a0 p0.length u0), (1, .slice a1 p1.length u1), (3, .bool false), (9, .slice aa s1.2.1.length ab), (10, vi s1.2.2), (11, vi q7), (12, vi s4.2)] ∧ Stp [] K54 w53 κ' w') ?_ ?_))
 revert h
 cases ht60 : p65
 refine JF fun h => Jy R (Js ?_)
 cases h
 exact Jw1 _ ⟨K54, R, (Jx2 _ _).wk R⟩ (KM R)
 refine JT fun h => Jx R (Ja [2, 2] R (Jc 2 R ?_))
 cases h
 exact Jw1 _ ⟨K54, R, (Jx2 _ _).wk R⟩ (KM R)
 rintro _ w57 ⟨K58, rfl, S59⟩
 have h := hK56
 refine Jz (Jp (Ja [2, 2, 2] R (Jc 3 R ?_)))
 cases h
 exact Jz1 fun a ha => ⟨k, _, Ja3 _, ⟨K58, ((q7 : Int), ((IntKind.i64.wrap (s4.2 + 1)) : Int)), R, (S32.tr (S40.tr (S55.tr S59))).wk R, hk33⟩, (ha.mm R)⟩
 rintro _ w27 ⟨K28, s6, rfl, S29, rfl⟩
 have h := hK25
 dsimp only [aft] at h
 refine Jp (Je [2, 2, 1, 1, 2] R (Jn 2 R (Jn1 (κ := K28) (E := E6) 3 [] (parts := [(0, .tmp 68)]) (cells := [vi s6.1]) (xs := ([s6.1] : List Int)) R R R R R R Y40 Tryzinfo2 R R R R R R R R R R ⟨[vi s6.1], [], Zl K28 w27 [], Zl K28 w27 [], R, Zl.sp (l1 := []) (l2 := []) R, Zl.sr (l1 := []) (l2 := []), R, R⟩ fun ak aj w61 K62 S63 f64 => ⟨tv, Ob h fun x70 hx70 h => Jm1 (κ := K62) (E := E6) 2 [] R R R R R R R R R Y40 Tryzinfo2 R R R R (f15.stp (S22.tr (S29.tr S63)) R R) (Sl.srcP (pu_int _) f64.rdc) sy_false hx70 R fun ai ae w66 K67 S68 f69 => ⟨tv, Jb 1 R (Ja [2, 2, 2, 1, 2, 2, 1, 2] R (Jn 2 R (Ob h fun x73 hx73 h => Jf R (Jf2 g0 hx73 U24 Z40 R R R R) ?_)))⟩⟩)))
 obtain ⟨ax73, ux73, f71, hl72⟩ := (g0.stp (S3.tr (S14.tr (S22.tr (S29.tr (S63.tr S68))))) R R).gSl hx73
 refine Jl tv R R R R (Jc2 I40 R R (hvE hl72)) (Jn 1 R (Ob h fun x76 hx76 h => Jf R (Jf2 f71 hx76 U40 Z2 R R R R) (Jl tv R R R R (Jc2 I2 R R (hvE (f71.gInt hx76))) (Jc 1 R (Jz ?_)))))
 cases h
 exact Jz1 fun a ha => ⟨k, _, Ja3 _, ⟨K67, ((false : Bool), (x70 : (List Int)), (x76 : Int)), ai, ae, R, (S14.tr (S22.tr (S29.tr (S63.tr S68)))).wk R, f69, hk16⟩, (ha.mm R)⟩
 rintro _ w8 ⟨K9, s3, ac, ad, rfl, S10, f11, rfl⟩
 have h := hK6
 dsimp only [aft] at h
 refine Jp (Je [2, 2] R (Jb 2 R (Ju (Ja2 (l := [.tmp 8]) V102 (Jp2 R R) R ?_))))
 cases h
 exact ⟨K9, ac, ad, R, (hE.stp (S3.tr S10) R R), f11⟩
theorem s_l29Behind_ok {w : World} {κ : Col} {ad aa ac ab} {p0 : Machine} {p1 : Int} {a2 u2} {p2 : (List Int)} (g0_0 : Rd (Rp.sl (Rp.int .i64)) κ w 0 ad aa p0.Next) (g0_1 : Rd (Rp.sl (Rp.int .i64)) κ w 0 ac ab p0.Out) (g2 : Rd (Rp.int .i64) κ w 0 a2 u2 p2) {r : Int} (h : s_l29Behind p0 p1 p2 = some r) : Ret Tryz.prog 99 [.agg #[.slice ad p0.Next.length aa, .slice ac p0.Out.length ab], vi p1, .slice a2 p2.length u2] w (fun v w' => ∃ (κ' : Col), v = vi r ∧ Ent κ w κ' w') := by
 unfold s_l29Behind at h
 refine Ret.enter F99 R N99 R ?_
 dsimp only [envOf]
 have hE := Ent.refl κ w
 refine Je [1, 2] R (Jf1 (κ := κ) 2 R R R R R R R fun b3 w1 K2 S3 f4 => ⟨tv, Jb 1 R (Jq (Je [2] R (Jb 1 R ?_)))⟩)
 have hN5 : (p2.length : Int) ≤ 9223372036854775807 := g2.len_le
 refine Ob h fun q2 hq7 hK6 => ?_
 clear h
 refine Jx1 (fun L w' => ∃ κ' s3, L = [(1, vi s3)] ∧ Stp [] K2 w1 κ' w' ∧ q2 = Sum.inr s3) ?_ ?_
 refine Jv (Jy1 (fun k L w' => ∃ κ' v7 s1, L = [(1, vi s1), (2, .slice a2 p2.length u2), (3, .pointer (some ⟨b3, 0, none⟩)), (7, vi v7)] ∧ Stp [] K2 w1 κ' w' ∧ 0 ≤ v7 ∧ Int.toNat ((p2.length : Int) - v7) = k ∧ cntM (s_l29Behind_b0 p0 p2) k v7 s1 = some q2) ⟨_, _, ⟨K2, 0, (p1 : Int), R, (Jx2 _ _).wk R, (by decide), (by simp), hq7⟩, (KM R)⟩ ?_)
 rintro k _ w11 ⟨K12, v7, s1, rfl, S13, hj5, hJ5, h⟩
 rcases k with _ | k
 have hk14 := h; obtain ⟨o5, h⟩ := ex_eq (Sum.inr (Sum.inl s1) : Int ⊕ ((Int) ⊕ (Int)))
 have hc5 : decide (v7 < (p2.length : Int)) = false := Jo2 (by omega)
 refine Jq (Je [2, 2, 2, 2] R (Jn 2 R (Jf R (Je2 U40 R R) (Jb 1 R (Jw2 R hc5 (Jc1 (Jt (Jt ?_))))))))
 cases h
 have h := hk14
 refine Jb1 ?_
 cases h
 exact Jw1 _ ⟨K12, (s1 : Int), R, S13.wk R, R⟩ (KM R)
 obtain ⟨o5, h, hk14⟩ := BI h; unfold s_l29Behind_b0 at h
 have hc5 : decide (v7 < (p2.length : Int)) = true := Jn2 (by omega)
 refine Jq (Je [2, 2, 2, 2] R (Jn 2 R (Jf R (Je2 U40 R R) (Jb 1 R (Jv2 R hc5 (Js (Jp (Jq (Jv (Js1 (κ := K12) [0, 2] none [(0, 2), (2, 2), (5, 2), (6, 2), (7, 2), (1, 0), (3, 2), (4, 0), (8, 0), (9, 2), (10, 0), (11, 2)] [] (by kernel_rfl) (by kernel_rfl) fun w16 S15 => Jf R (Jb2 U33 R Z24 R R) (Jn 3 R (Ob h fun x21 hx21 h => Jf R (Jf2 g2 hx21 U40 Z2 R R R R) (Jg R (Jc2 I24 R R (hvC ((f4.stp (S13.tr S15) R R).ld 0 R R) R)) (Ob h fun x17 hx17 h => Jf R (Jf2 g0_0 hx17 U24 Z40 R R R R) ?_))))))))))))))
 obtain ⟨ax17, ux17, f19, hl20⟩ := (g0_0.stp (S3.tr (S13.tr S15)) R R).gSl hx17
 refine Jg R (Jc2 I40 R R (hvC hl20 R)) (Jg R (Jc2 I2 R R (hvC ((g2.stp (S3.tr (S13.tr S15)) R R).gInt hx21) R)) (Ob h fun x23 hx23 h => Jf R (Jf2 f19 hx23 U40 Z2 R R R R) (Jg R (Jc2 I2 R R (hvC (f19.gInt hx23) R)) (Jn 1 R (Jt1 (Jo (Jz (Jp (Ja [2, 2, 2] R (Jc 3 R ?_))))))))))
 have hw5 : IntKind.wrap .i64 (v7 + 1) = v7 + 1 := wr1 hj5 (Jm2 hc5) hN5
 rw [hw5]
 have hc5 := Jm2 hc5
 cases h
 exact Jz1 fun a ha => ⟨k, _, Ja3 _, ⟨K12, v7 + 1, (x23 : Int), R, (S13.tr S15).wk R, by omega, by omega, hk14⟩, (ha.mm R)⟩
 rintro _ w8 ⟨K9, s3, rfl, S10, rfl⟩
 have h := hK6
 dsimp only [aft] at h
 refine Jp (Je [2, 2] R (Jb 2 R (Ju (Ja2 (l := [.tmp 6]) V99 (Jp2 R R) R ?_))))
 cases h
 exact ⟨K9, R, (hE.stp (S3.tr S10) R R)⟩
theorem i_isSig_ok {w : World} {κ : Col} {p0 : Sig}  {r : Bool} (h : i_isSig p0 = some r) : Ret Tryz.prog 69 [.agg #[vi p0.In, vi p0.Out]] w (fun v w' => ∃ (κ' : Col), v = .bool r ∧ Ent κ w κ' w') := by
 unfold i_isSig at h
 refine Ret.enter F69 R N69 R ?_
 dsimp only [envOf]
 have hE := Ent.refl κ w
 refine Je [1, 2] R (Jf1 (κ := κ) 2 R R R R R R R fun b1 w1 K2 S3 f4 => ⟨tv, Jb 1 R (Je [2, 1, 2, 2, 2, 1, 2, 2, 2, 2, 1, 2, 2, 2, 2, 1, 2, 2, 2] R (Jf R (Jb2 U31 R Z2 R R) (Jl tv R R R R (Jc2 I2 R R (hvE (f4.ld 0 R R))) (Jn 2 R (Ob h fun p10 h hK5 => Ju1 [(4, 2), (5, 1), (6, 2), (7, 2)] [(8, 2), (9, 2), (10, 1), (11, 2), (12, 2), (13, 2), (14, 2), (15, 1), (16, 2), (17, 2), (18, 2)] (fun L w' => L = [(1, .pointer (some ⟨b1, 0, none⟩)), (2, .bool false), (10, .bool p10)] ∧ ∃ κ', Stp [] K2 w1 κ' w') tv ?_ ?_)))))⟩)
 revert h
 cases ht6 : decide (1 ≤ p0.In)
 refine JF fun h => Jn 1 R (Jd1 R R R R (Jn 2 R ?_))
 cases h
 exact Jv1 _ tv ⟨R, _, (Jx2 _ _).wk R⟩ (KM R)
 refine JT fun h => Jf R (Jb2 U31 R Z2 R R) (Jl tv R R R R (Jc2 I2 R R (hvE (f4.ld 0 R R))) (Jn 2 R ?_))
 cases h
 exact Jv1 _ tv ⟨R, _, (Jx2 _ _).wk R⟩ (KM R)
 rintro _ w7 _ ⟨rfl, K8, S9⟩
 have h := hK5
 refine Jn 1 R (Ob h fun p15 h hK10 => Ju1 [(9, 2), (10, 1), (11, 2), (12, 2)] [(13, 2), (14, 2), (15, 1), (16, 2), (17, 2), (18, 2)] (fun L w' => L = [(1, .pointer (some ⟨b1, 0, none⟩)), (2, .bool false), (15, .bool p15)] ∧ ∃ κ', Stp [] K8 w7 κ' w') tv ?_ ?_)
 revert h
 cases ht11 : p10
 refine JF fun h => Jn 1 R (Jd1 R R R R (Jn 2 R ?_))
 cases h
 exact Jv1 _ tv ⟨R, _, (Jx2 _ _).wk R⟩ (KM R)
 refine JT fun h => Jf R (Jb2 U31 R Z2 R R) (Jl tv R R R R (Jc2 I2 R R (hvE ((f4.stp S9 R R).ld 1 R R))) (Jn 2 R ?_))
 cases h
 exact Jv1 _ tv ⟨R, _, (Jx2 _ _).wk R⟩ (KM R)
 rintro _ w13 _ ⟨rfl, K14, S15⟩
 have h := hK10
 refine Jn 1 R (Ob h fun p20 h hK16 => Ju1 [(14, 2), (15, 1), (16, 2), (17, 2)] [(18, 2)] (fun L w' => L = [(2, .bool false), (20, .bool p20)] ∧ ∃ κ', Stp [] K14 w13 κ' w') tv ?_ ?_)
 revert h
 cases ht17 : p15
 refine JF fun h => Jn 1 R (Jd1 R R R R (Jn 2 R ?_))
 cases h
 exact Jv1 _ tv ⟨R, _, (Jx2 _ _).wk R⟩ (KM R)
 refine JT fun h => Jf R (Jb2 U31 R Z2 R R) (Jl tv R R R R (Jc2 I2 R R (hvE ((f4.stp (S9.tr S15) R R).ld 1 R R))) (Jn 2 R ?_))
 cases h
 exact Jv1 _ tv ⟨R, _, (Jx2 _ _).wk R⟩ (KM R)
 rintro _ w19 _ ⟨rfl, K20, S21⟩
 have h := hK16
 refine Jb 1 R (Ju (Ja2 (l := [.tmp 2]) V69 (Jp2 R R) R ?_))
 cases h
 exact ⟨K20, R, (hE.stp (S3.tr (S9.tr (S15.tr S21))) R R)⟩
theorem i_areLetters_1_ok {w : World} {κ : Col} {p0 : Int} {c0 : Int} {b1} (gb1 : Bc κ w 0 b1 2 [vi c0]) {r : Bool} (h : i_areLetters_1 p0 c0 = some r) : Ret Tryz.prog 149 [vi p0, .pointer (some ⟨b1, 0, none⟩)] w (fun v w' => ∃ (κ' : Col), v = .bool r ∧ Ent κ w κ' w') := by
 unfold i_areLetters_1 at h
 refine Ret.enter F149 R N149 R ?_
 dsimp only [envOf]
 have hE := Ent.refl κ w
 refine Je [2] R (Jb 1 R (Je [2, 2, 2, 2, 1, 2, 2, 2] R (Jn 3 R (Ob h fun p10 h hK1 => Ju1 [(3, 2), (4, 1), (5, 2), (6, 2)] [(7, 2)] (fun L w' => L = [(1, .pointer (some ⟨b1, 0, none⟩)), (3, .bool false), (10, .bool p10)] ∧ ∃ κ', Stp [] κ w κ' w') tv ?_ ?_))))
 revert h
 cases ht2 : decide (p0 < 0)
 refine JF fun h => Jn 1 R (Jl tv R R R R (Jc2 I2 R R (hvE (gb1.ld 0 R R))) (Jn 2 R ?_))
 cases h
 exact Jv1 _ tv ⟨R, _, (Jx2 _ _).wk R⟩ (KM R)
 refine JT fun h => Jn 1 R (Jd1 R R R R (Jn 2 R ?_))
 cases h
 exact Jv1 _ tv ⟨R, _, (Jx2 _ _).wk R⟩ (KM R)
 rintro _ w3 _ ⟨rfl, K4, S5⟩
 have h := hK1
 refine Jb 1 R (Ju (Ja2 (l := [.tmp 3]) V149 (Jp2 R R) R ?_))
 cases h
 exact ⟨K4, R, (hE.stp S5 R R)⟩
theorem i_hasSecond_ok {w : World} {κ : Col} {p0 : Int}  {r : Bool} (h : i_hasSecond p0 = some r) : Ret Tryz.prog 161 [vi p0] w (fun v w' => ∃ (κ' : Col), v = .bool r ∧ Ent κ w κ' w') := by
 unfold i_hasSecond at h
 refine Ret.enter F161 R N161 R ?_
 dsimp only [envOf]
 have hE := Ent.refl κ w
 refine Je [2] R (Jb 1 R (Je [2, 2, 2, 2, 2, 2, 2, 2, 2, 2, 2] R (Jn 3 R (Ob h fun p8 h hK1 => Ju1 [(3, 2), (4, 2), (5, 2)] [(6, 2), (7, 2), (8, 2), (9, 2), (10, 2)] (fun L w' => L = [(0, vi p0), (2, .bool false), (8, .bool p8)] ∧ ∃ κ', Stp [] κ w κ' w') tv ?_ ?_))))
 revert h
 cases ht2 : (p0 == 2)
 refine JF fun h => Jn 3 R ?_
 cases h
 exact Jv1 _ tv ⟨R, _, (Jx2 _ _).wk R⟩ (KM R)
 refine JT fun h => Jn 3 R ?_
 cases h
 exact Jv1 _ tv ⟨R, _, (Jx2 _ _).wk R⟩ (KM R)
 rintro _ w3 _ ⟨rfl, K4, S5⟩
 have h := hK1
 refine Jn 1 R (Ob h fun p12 h hK6 => Ju1 [(7, 2), (8, 2), (9, 2)] [(10, 2)] (fun L w' => L = [(2, .bool false), (12, .bool p12)] ∧ ∃ κ', Stp [] K4 w3 κ' w') tv ?_ ?_)
 revert h
 cases ht7 : p8
 refine JF fun h => Jn 3 R ?_
 cases h
 exact Jv1 _ tv ⟨R, _, (Jx2 _ _).wk R⟩ (KM R)
 refine JT fun h => Jn 3 R ?_
 cases h
 exact Jv1 _ tv ⟨R, _, (Jx2 _ _).wk R⟩ (KM R)
 rintro _ w8 _ ⟨rfl, K9, S10⟩
 have h := hK6
 refine Jb 1 R (Ju (Ja2 (l := [.tmp 2]) V161 (Jp2 R R) R ?_))
 cases h
 exact ⟨K9, R, (hE.stp (S5.tr S10) R R)⟩
theorem i_monitorStep_ok {w : World} {κ : Col} {p0 : Int} {p1 : Int} {p2 : Bool} {p3 : Bool}  {r : Int} (h : i_monitorStep p0 p1 p2 p3 = some r) : Ret Tryz.prog 151 [vi p0, vi p1, .bool p2, .bool p3] w (fun v w' => ∃ (κ' : Col), v = vi r ∧ Ent κ w κ' w') := by
 unfold i_monitorStep at h
 refine Ret.enter F151 R N151 R ?_
 dsimp only [envOf]
 have hE := Ent.refl κ w
 refine Je [2] R (Jb 1 R (Je [2, 2] R (Jb 2 R (Jq (Je [2] R (Jb 1 R (Ob h fun q1 h hK1 => Jx1 (fun L w' => ∃ κ', L = [(0, vi p0), (1, vi p1), (3, .bool p3), (9, vi q1), (10, vi 0)] ∧ Stp [] κ w κ' w') ?_ ?_)))))))
 revert h
 cases ht5 : p2
 refine JF fun h => Jy R (Js ?_)
 cases h
 exact Jw1 _ ⟨κ, R, (Jx2 _ _).wk R⟩ (KM R)
 refine JT fun h => Jx R (Ja [2] R (Jc 1 R ?_))
 cases h
 exact Jw1 _ ⟨κ, R, (Jx2 _ _).wk R⟩ (KM R)
 rintro _ w2 ⟨K3, rfl, S4⟩
 have h := hK1
 refine Jp (Jq (Je [2] R (Jb 1 R (Ob h fun q2 h hK6 => Jx1 (fun L w' => ∃ κ', L = [(0, vi p0), (1, vi p1), (3, .bool q2.1), (9, vi q1), (10, vi q2.2)] ∧ Stp [] K3 w2 κ' w') ?_ ?_))))
 revert h
 cases ht10 : p3
 refine JF fun h => Jy R (Js ?_)
 cases h
 exact Jw1 _ ⟨K3, R, (Jx2 _ _).wk R⟩ (KM R)
 refine JT fun h => Jx R (Ja [2] R (Jc 1 R ?_))
 cases h
 exact Jw1 _ ⟨K3, R, (Jx2 _ _).wk R⟩ (KM R)
 rintro _ w7 ⟨K8, rfl, S9⟩
 have h := hK6
 refine Jp (Jq (Je [2] R (Jb 1 R (Jv (Je [2, 2] R (Jb 2 R ?_))))))
 revert h
 cases ht11 : (p0 == 1)
 refine JF fun h => Jy R (Je [2, 2] R (Jb 2 R ?_))
 revert h
 cases ht13 : (p0 == 2)
 refine JF fun h => Jy R (Je [2, 2] R (Jb 2 R ?_))
 revert h
 cases ht27 : (p0 == 3)
 refine JF fun h => Jy R (Je [2, 2] R (Jb 2 R ?_))
 revert h
 cases ht31 : (p0 == 4)
 refine JF fun h => Jy R (Je [2, 2] R (Jb 2 R ?_))
 revert h
 cases ht33 : (p0 == 5)
 refine JF fun h => Jy R (Je [2, 2] R (Jb 2 R ?_))
 revert h
 cases ht35 : (p0 == 6)
 refine JF fun h => Jy R (Js (Jz (Jp (Je [2, 2, 2, 2, 2] R (Jb 5 R (Ju (Ja2 (l := [.tmp 8]) V151 (Jp2 R R) R ?_)))))))
 cases h
 exact ⟨K8, R, (hE.stp (S4.tr S9) R R)⟩
 refine JT fun h => Jx R (Je [2, 2, 2, 2] R (Jn 2 R (Jf R (rn_max R R R) (Jb 1 R (Ju (Ja1 (Jw (Ja2 (l := [.tmp 8]) V151 (Jp2 R R) R ?_))))))))
 cases h
 exact ⟨K8, R, (hE.stp (S4.tr S9) R R)⟩
 refine JT fun h => Jx R (Je [2, 2, 2] R (Jb 3 R (Ju (Ja1 (Jw (Ja2 (l := [.tmp 8]) V151 (Jp2 R R) R ?_))))))
 cases h
 exact ⟨K8, R, (hE.stp (S4.tr S9) R R)⟩
 refine JT fun h => Jx R (Je [2, 2] R (Jb 2 R (Ju (Ja1 (Jw (Ja2 (l := [.tmp 8]) V151 (Jp2 R R) R ?_))))))
 cases h
 exact ⟨K8, R, (hE.stp (S4.tr S9) R R)⟩
 refine JT fun h => Jx R (Jq (Je [2] R (Jb 1 R ?_)))
 revert h
 cases ht28 : q2.1
 refine JF fun h => Jy R (Js (Jp (Je [2, 2, 2, 2] R (Jn 2 R (Jf R (rn_max R R R) (Jb 1 R (Ju (Ja1 (Jw (Ja2 (l := [.tmp 8]) V151 (Jp2 R R) R ?_))))))))))
 cases h
 exact ⟨K8, R, (hE.stp (S4.tr S9) R R)⟩
 refine JT fun h => Jx R (Je [2] R (Jb 1 R (Ju (Jw (Ja1 (Jw (Ja2 (l := [.tmp 8]) V151 (Jp2 R R) R ?_)))))))
 cases h
 exact ⟨K8, R, (hE.stp (S4.tr S9) R R)⟩
 refine JT fun h => Jx R (Jq (Je [2, 2, 2, 2, 2, 2, 2, 2, 2, 2] R (Jn 3 R (Ob h fun p31 h hK14 => Ju1 [(3, 2), (4, 2), (5, 2), (6, 2), (7, 2), (8, 2), (9, 2)] [] (fun L w' => L = [(9, vi q1), (31, .bool p31)] ∧ ∃ κ', Stp [] K8 w7 κ' w') tv ?_ ?_))))
 revert h
 cases ht15 : (p1 == 2)
 refine JF fun h => Jn 3 R (Ob h fun p30 h hK16 => Ju1 [(6, 2), (7, 2), (8, 2)] [(9, 2)] (fun L w' => L = [(9, vi q1), (24, .bool false), (30, .bool p30)] ∧ ∃ κ', Stp [] K8 w7 κ' w') tv ?_ ?_)
 revert h
 cases ht17 : (p1 == 1)
 refine JF fun h => Jn 3 R ?_
 cases h
 exact Jv1 _ tv ⟨R, _, (Jx2 _ _).wk R⟩ (KM R)
 refine JT fun h => Jn 3 R ?_
 cases h
 exact Jv1 _ tv ⟨R, _, (Jx2 _ _).wk R⟩ (KM R)
 rintro _ w18 _ ⟨rfl, K19, S20⟩
 have h := hK16
 refine Jn 1 R ?_
 cases h
 exact Jv1 _ tv ⟨R, _, S20.wk R⟩ (KM R)
 refine JT fun h => Jn 7 R ?_
 cases h
 exact Jv1 _ tv ⟨R, _, (Jx2 _ _).wk R⟩ (KM R)
 rintro _ w21 _ ⟨rfl, K22, S23⟩
 have h := hK14
 refine Jd ?_
 revert h
 cases ht24 : p31
 refine JF fun h => Jy R (Js (Jp (Je [2, 2] R (Jb 2 R (Ju (Ja1 (Jw (Ja2 (l := [.tmp 8]) V151 (Jp2 R R) R ?_))))))))
 cases h
 exact ⟨K22, R, (hE.stp (S4.tr (S9.tr S23)) R R)⟩
 refine JT fun h => Jx R (Je [2] R (Jb 1 R (Ju (Jw (Ja1 (Jw (Ja2 (l := [.tmp 8]) V151 (Jp2 R R) R ?_)))))))
 cases h
 exact ⟨K22, R, (hE.stp (S4.tr (S9.tr S23)) R R)⟩
 refine JT fun h => Jx R (Je [2, 2, 2, 2, 2] R (Jn 3 R (Jf R (rn_max R R R) (Jb 1 R (Ju (Ja1 (Jw (Ja2 (l := [.tmp 8]) V151 (Jp2 R R) R ?_))))))))
 cases h
 exact ⟨K8, R, (hE.stp (S4.tr S9) R R)⟩
theorem slices_Index_2_int64_2_int64_ok {w : World} {κ : Col} {a0 u0} {p0 : (List (Int × Int))} {p1 : (Int × Int)} (g0 : Rd (Rp.pair (Rp.int .i64) (Rp.int .i64)) κ w 0 a0 u0 p0) {r : Int} (h : slices_Index_2_int64_2_int64 p0 p1 = some r) : Ret Tryz.prog 150 [.slice a0 p0.length u0, .agg #[vi p1.1, vi p1.2]] w (fun v w' => ∃ (κ' : Col), v = vi r ∧ Ent κ w κ' w') := by
 unfold slices_Index_2_int64_2_int64 at h
 refine Ret.enter F150 R N150 R ?_
 dsimp only [envOf]
 have hE := Ent.refl κ w
 refine Je [1, 2] R (Jf1 (κ := κ) 2 R R R R R R R fun b3 w1 K2 S3 f4 => ⟨tv, Jb 1 R (Jq (Je [2, 2, 2] R (Jn 1 R (Jf R (Je2 U108 R R) (Jb 1 R ?_)))))⟩)
 have hN5 : (p0.length : Int) ≤ 9223372036854775807 := g0.len_le
 refine Ob h fun q2 hq7 hK6 => ?_
 clear h
 refine Jx1 (fun L w' => ∃ κ', L = [] ∧ Stp [] K2 w1 κ' w' ∧ q2 = Sum.inr ()) ?_ ?_
 refine Jv (Jy1 (fun k L w' => ∃ κ' v8, L = [(0, .slice a0 p0.length u0), (3, .pointer (some ⟨b3, 0, none⟩)), (7, vi (p0.length : Int)), (8, vi v8)] ∧ Stp [] K2 w1 κ' w' ∧ 0 ≤ v8 ∧ Int.toNat ((p0.length : Int) - v8) = k ∧ cntM (slices_Index_2_int64_2_int64_b0 p0 p1) k v8 () = some q2) ⟨_, _, ⟨K2, 0, R, (Jx2 _ _).wk R, (by decide), (by simp), hq7⟩, (KM R)⟩ ?_)
 rintro k _ w11 ⟨K12, v8, rfl, S13, hj5, hJ5, h⟩
 rcases k with _ | k
 have hk14 := h; obtain ⟨o5, h⟩ := ex_eq (Sum.inr (Sum.inl ()) : Int ⊕ ((Unit) ⊕ (Unit)))
 have hc5 : decide (v8 < (p0.length : Int)) = false := Jo2 (by omega)
 refine Je [2] R (Jb 1 R (Jq (Jw2 R hc5 (Jc1 (Jt (Jt ?_))))))
 cases h
 have h := hk14
 refine Jb1 ?_
 cases h
 exact Jw1 _ ⟨K12, R, S13.wk R, R⟩ KN
 obtain ⟨o5, h, hk14⟩ := BI h; unfold slices_Index_2_int64_2_int64_b0 at h
 have hc5 : decide (v8 < (p0.length : Int)) = true := Jn2 (by omega)
 refine Je [2] R (Jb 1 R (Jq (Jv2 R hc5 (Js (Jp (Jq (Jv (Je [2, 2] R (Jb 2 R (Jq (Js1 (κ := K12) [0, 2] none [(1, 2), (2, 2), (3, 2), (0, 0), (4, 0), (5, 2)] [] (by kernel_rfl) (by kernel_rfl) fun w16 S15 => Jn 2 R (Ob h fun x14 hx14 h => Jf R (Jf2 g0 hx14 U108 Z107 R R R R) (Jg R (Jd2 (cs := [vi p1.1, vi p1.2]) I107 Z107 R R R (haC (f4.stp (S13.tr S15) R R).cells R)) ?_)))))))))))))
 obtain ⟨cse19, hre19, hle19⟩ := ((g0.stp (S3.tr (S13.tr S15)) R R)).gSt hx14
 obtain ⟨_, _, rfl, rfl, rfl⟩ := hre19
 refine Jg R (Jd2 (cs := [vi x14.1, vi x14.2]) I107 Z107 R R R (haC hle19 R)) (Jf R (rn_eqlA2 U107 (by kernel_rfl) I2 U2 Z2 R R R) (Jt1 (Jd ?_)))
 revert h
 cases ht20 : ((p1.1 == x14.1) && (p1.2 == x14.2))
 refine JF fun h => Jy R (Js (Jz (Jp (Ja [2, 2] R (Jc 2 R ?_)))))
 have hw5 : IntKind.wrap .i64 (v8 + 1) = v8 + 1 := wr1 hj5 (Jm2 hc5) hN5
 rw [hw5]
 have hc5 := Jm2 hc5
 cases h
 exact Jz1 fun a ha => ⟨k, _, Ja3 _, ⟨K12, v8 + 1, R, (S13.tr S15).wk R, by omega, by omega, hk14⟩, (ha.mm R)⟩
 refine JT fun h => Jx R (Je [2, 2] R (Jb 2 R (Ju (Ja1 (Jw (Jw ?_))))))
 cases h
 obtain rfl := Option.some.inj hk14
 have h := hK6
 dsimp only [aft] at h
 refine Ja1 (Jq2 (Jw (Ja2 (l := [.tmp 4]) V150 (Jp2 R R) R ?_)))
 cases h
 exact ⟨K12, R, (hE.stp (S3.tr (S13.tr S15)) R R)⟩
 rintro _ w8 ⟨K9, rfl, S10, rfl⟩
 have h := hK6
 dsimp only [aft] at h
 refine Jp (Je [2] R (Jb 1 R (Ju (Ja2 (l := [.tmp 4]) V150 (Jp2 R R) R ?_))))
 cases h
 exact ⟨K9, R, (hE.stp (S3.tr S10) R R)⟩
theorem i_loopsIn_2_ok {w : World} {κ : Col} {p0 : Int} {a1 u1} {c0 : (List Int)} {b1} (g1 : Oc E6 2 κ w 2 a1 u1 c0) (gb1 : Bc κ w 3 b1 40 [.slice a1 c0.length u1]) {r : (List Int)} (h : i_loopsIn_2 p0 c0 = some r) : Ret Tryz.prog 153 [vi p0, .pointer (some ⟨b1, 0, none⟩)] w (fun v w' => ∃ (κ' : Col) (ma0 : Option Addr) (mu0 : Nat), v = .tuple #[] ∧ Ent κ w κ' w' ∧ Oc E6 2 κ' w' 2 ma0 mu0 r ∧ Bc κ' w' 3 b1 40 [.slice ma0 r.length mu0]) := by
 unfold i_loopsIn_2 at h
 refine Ret.enter F153 R N153 R ?_
 dsimp only [envOf]
 have hE := Ent.refl κ w
 refine Ja [1, 2, 1, 1, 1] R (Jl tv R R R R (Jc2 I40 R R (hvE (gb1.ld 0 R R))) (Jn 1 R (Jn1 (κ := κ) (E := E6) 4 [] (parts := [(0, .tmp 4)]) (cells := [vi p0]) (xs := ([p0] : List Int)) R R R R R R Y40 Tryzinfo2 R R R R R R R R R R ⟨[vi p0], [], Zl κ w [], Zl κ w [], R, Zl.sp (l1 := []) (l2 := []) R, Zl.sr (l1 := []) (l2 := []), R, R⟩ fun a5 u5 w1 K2 S3 f4 => ⟨tv, Ob h fun x6 hx6 h => Jm1 (κ := K2) (E := E6) 2 [] R R R R R R R R R Y40 Tryzinfo2 R R R R (g1.stp S3 R R) (Sl.srcP (pu_int _) f4.rdc) sy_false hx6 R fun a6 u6 w6 K7 S8 f9 => ⟨tv, Jj1 (κ := K7) 3 (vc := [.slice a6 x6.length u6]) R R R R R R R Z40 R R (gb1.stp (S3.tr S8) R R) R fun w11 S12 f13 => ⟨tv, Jo (DN.end0 V153 ?_)⟩⟩⟩)))
 cases h
 exact ⟨K7, a6, u6, R, (hE.stp (S3.tr (S8.tr S12)) R R), (f9.stp S12 R R), f13⟩
theorem slices_Sort_I_int64_ok {w : World} {κ : Col} {a0 u0} {p0 : (List Int)} (g0 : Oc E6 2 κ w 2 a0 u0 p0) {r : (List Int)} (h : slices_Sort_I_int64 p0 = some r) : Ret Tryz.prog 138 [.slice a0 p0.length u0] w (fun v w' => ∃ (κ' : Col), v = .tuple #[] ∧ Ent κ w κ' w' ∧ Oc E6 2 κ' w' 2 a0 u0 r ∧ p0.length = r.length) := by
  unfold slices_Sort_I_int64 at h
  split at h
  · rename_i hh
    cases h
    exact sort_ok (fun blk off cap zs w hH hb hz => Tryz.slices_Sort_int blk off cap zs w hH hb hz) g0 hh.1 hh.2
  · split at h
    · rename_i hh
      cases h
      exact sort_nil Tryz.slices_Sort_int_none g0 hh
    · cases h
theorem slices_SortFunc_I_I_ok {w : World} {κ : Col} {a0 u0} {p0 : (List (List Int))} (g0 : Oc (Ep.fz (Rp.sl (Rp.int .i64))) 40 κ w 2 a0 u0 p0) {r : (List (List Int))} (h : slices_SortFunc_I_I p0 = some r) : Ret Tryz.prog 155 [.slice a0 p0.length u0, .func (.func 156) #[] #[]] w (fun v w' => ∃ (κ' : Col), v = .tuple #[] ∧ Ent κ w κ' w' ∧ Oc (Ep.fz (Rp.sl (Rp.int .i64))) 40 κ' w' 2 a0 u0 r ∧ p0.length = r.length) := by
  unfold slices_SortFunc_I_I at h
  split at h
  · rename_i hh
    cases h
    exact sortf_ok Tryz.slices_Compare (Tryz.slices_SortFunc_none (α := Nat)) (@fun α _ enc h1 cf hO blk off cap d w hc hh hb hs => Tryz.slices_SortFunc (α := α) enc h1 cf hO 156 #[] blk off cap d w Tryz.call156 hc hh hb hs) g0 hh.1 (fun l hl => by have := List.all_eq_true.1 hh.2 l hl; cases l <;> simp_all)
  · cases h
theorem l_markInt64S_ok {w : World} {κ : Col} {a0 u0} {p0 : (List Int)} {p1 : Int} (g0 : Oc E6 2 κ w 2 a0 u0 p0) {r : Int × (List Int)} (h : l_markInt64S p0 p1 = some r) : Ret Tryz.prog 23 [.slice a0 p0.length u0, vi p1] w (fun v w' => ∃ (κ' : Col), v = vi r.1 ∧ Ent κ w κ' w' ∧ Oc E6 2 κ' w' 2 a0 u0 r.2 ∧ p0.length = r.2.length) := by
 unfold l_markInt64S at h
 refine Ret.enter F23 R N23 R ?_
 dsimp only [envOf]
 have hE := Ent.refl κ w
 refine Je [2] R (Jb 1 R (Jq (Je [2] R (Jb 1 R ?_))))
 have hN1 : (p0.length : Int) ≤ 9223372036854775807 := g0.len_le
 refine Ob h fun q2 hq3 hK2 => ?_
 clear h
 refine Jx1 (fun L w' => ∃ κ', ∃ s3 : Int × (List Int), L = [(1, vi s3.1)] ∧ Stp [2] κ w κ' w' ∧ Oc E6 2 κ' w' 2 a0 u0 s3.2 ∧ p0.length = s3.2.length ∧ q2 = Sum.inr s3) ?_ ?_
 refine Jv (Jy1 (fun k L w' => ∃ κ' v5, ∃ s1 : Int × (List Int), L = [(0, .slice a0 p0.length u0), (1, vi s1.1), (5, vi v5)] ∧ Stp [2] κ w κ' w' ∧ Oc E6 2 κ' w' 2 a0 u0 s1.2 ∧ p0.length = s1.2.length ∧ 0 ≤ v5 ∧ Int.toNat ((p0.length : Int) - v5) = k ∧ cntM l_markInt64S_b0 k v5 s1 = some q2) ⟨_, _, ⟨κ, 0, ((p1 : Int), (p0 : (List Int))), R, (Jx2 _ _).wk R, g0, R, (by decide), (by simp), hq3⟩, (KM R)⟩ ?_)
 rintro k _ w9 ⟨K10, v5, s1, rfl, S11, f12, hn13, hj1, hJ1, h⟩
 rcases k with _ | k
 have hk14 := h; obtain ⟨o1, h⟩ := ex_eq (Sum.inr (Sum.inl s1) : (Int × (List Int)) ⊕ ((Int × (List Int)) ⊕ (Int × (List Int))))
 have hc1 : decide (v5 < (p0.length : Int)) = false := Jo2 (by omega)
 refine Jq (Je [2, 2, 2, 2] R (Jn 2 R (Jf R (Je2 U40 R R) (Jb 1 R (Jw2 R hc1 (Jc1 (Jt (Jt ?_))))))))
 cases h
 have h := hk14
 refine Jb1 ?_
 cases h
 exact Jw1 _ ⟨K10, ((s1.1 : Int), (s1.2 : (List Int))), R, S11.wk R, f12, hn13, R⟩ (KM R)
 obtain ⟨o1, h, hk14⟩ := BI h; unfold l_markInt64S_b0 at h
 have hc1 : decide (v5 < (p0.length : Int)) = true := Jn2 (by omega)
 refine Jq (Je [2, 2, 2, 2] R (Jn 2 R (Jf R (Je2 U40 R R) (Jb 1 R (Jv2 R hc1 (Js (Jp (Jq (Jv (Je [2, 2, 2, 2, 1] R (Jn 3 R (Ob h fun x15 hx15 h => Jf R (Jf2 f12.rdc hx15 U40 Z2 R R hn13 R) (Ob h fun y309 hy309 h => Jk1 (κ := K10) (E := E6) 2 [] R R R R R R R R Z2 R R R R f12 hy309 fun w15 K16 S17 f18 => ⟨tv, ?_⟩)))))))))))))
 have hn19 : p0.length = y309.length := hn13.trans (Jt2 hy309).2.2.2.symm
 refine Jd (Ja [2, 2, 2] R (Jc 3 R (Jz (Jp (Ja [2, 2, 2] R (Jc 3 R ?_))))))
 have hw1 : IntKind.wrap .i64 (v5 + 1) = v5 + 1 := wr1 hj1 (Jm2 hc1) hN1
 rw [hw1]
 have hc1 := Jm2 hc1
 cases h
 exact Jz1 fun a ha => ⟨k, _, Ja3 _, ⟨K16, v5 + 1, (((IntKind.i64.wrap (s1.1 + 1)) : Int), (y309 : (List Int))), R, (S11.tr S17).wk R, f18, hn19, by omega, by omega, hk14⟩, (ha.mm R)⟩
 rintro _ w4 ⟨K5, s3, rfl, S6, f7, hn8, rfl⟩
 have h := hK2
 dsimp only [aft] at h
 refine Jp (Je [2, 2] R (Jb 2 R (Ju (Ja2 (l := [.tmp 4]) V23 (Jp2 R R) R ?_))))
 cases h
 exact ⟨K5, R, (hE.stp S6 R R), f7, hn8⟩
theorem l_heldInt64S_ok {w : World} {κ : Col} {a0 u0} {p0 : (List Int)} {p1 : Int} (g0 : Rd (Rp.int .i64) κ w 0 a0 u0 p0) {r : Int} (h : l_heldInt64S p0 p1 = some r) : Ret Tryz.prog 24 [.slice a0 p0.length u0, vi p1] w (fun v w' => ∃ (κ' : Col), v = vi r ∧ Ent κ w κ' w') := by
 unfold l_heldInt64S at h
 refine Ret.enter F24 R N24 R ?_
 dsimp only [envOf]
 have hE := Ent.refl κ w
 refine Je [2] R (Jb 1 R (Jq (Je [2] R (Jb 1 R ?_))))
 have hN1 : (p0.length : Int) ≤ 9223372036854775807 := g0.len_le
 refine Ob h fun q2 hq3 hK2 => ?_
 clear h
 refine Jx1 (fun L w' => ∃ κ' s3, L = [(1, vi s3)] ∧ Stp [] κ w κ' w' ∧ q2 = Sum.inr s3) ?_ ?_
 refine Jv (Jy1 (fun k L w' => ∃ κ' v5 s1, L = [(0, .slice a0 p0.length u0), (1, vi s1), (5, vi v5)] ∧ Stp [] κ w κ' w' ∧ 0 ≤ v5 ∧ Int.toNat ((p0.length : Int) - v5) = k ∧ cntM (l_heldInt64S_b0 p0) k v5 s1 = some q2) ⟨_, _, ⟨κ, 0, (p1 : Int), R, (Jx2 _ _).wk R, (by decide), (by simp), hq3⟩, (KM R)⟩ ?_)
 rintro k _ w7 ⟨K8, v5, s1, rfl, S9, hj1, hJ1, h⟩
 rcases k with _ | k
 have hk10 := h; obtain ⟨o1, h⟩ := ex_eq (Sum.inr (Sum.inl s1) : Int ⊕ ((Int) ⊕ (Int)))
 have hc1 : decide (v5 < (p0.length : Int)) = false := Jo2 (by omega)
 refine Jq (Je [2, 2, 2, 2] R (Jn 2 R (Jf R (Je2 U40 R R) (Jb 1 R (Jw2 R hc1 (Jc1 (Jt (Jt ?_))))))))
 cases h
 have h := hk10
 refine Jb1 ?_
 cases h
 exact Jw1 _ ⟨K8, (s1 : Int), R, S9.wk R, R⟩ (KM R)
 obtain ⟨o1, h, hk10⟩ := BI h; unfold l_heldInt64S_b0 at h
 have hc1 : decide (v5 < (p0.length : Int)) = true := Jn2 (by omega)
 refine Jq (Je [2, 2, 2, 2] R (Jn 2 R (Jf R (Je2 U40 R R) (Jb 1 R (Jv2 R hc1 (Js (Jp (Jq (Jv (Jq (Je [2, 2, 2, 1, 2, 2] R (Jn 2 R (Ob h fun x14 hx14 h => Jf R (Jf2 g0 hx14 U40 Z2 R R R R) (Jl tv R R R R (Jc2 I2 R R (hvE ((g0.stp S9 R R).gInt hx14))) (Jb 2 R ?_)))))))))))))))
 revert h
 cases ht12 : (x14 != s1)
 refine JF fun h => Jy R (Js (Jp (Ja [2, 2, 2] R (Jc 3 R (Jz (Jp (Ja [2, 2, 2] R (Jc 3 R ?_))))))))
 have hw1 : IntKind.wrap .i64 (v5 + 1) = v5 + 1 := wr1 hj1 (Jm2 hc1) hN1
 rw [hw1]
 have hc1 := Jm2 hc1
 cases h
 exact Jz1 fun a ha => ⟨k, _, Ja3 _, ⟨K8, v5 + 1, ((IntKind.i64.wrap (s1 + 1)) : Int), R, S9.wk R, by omega, by omega, hk10⟩, (ha.mm R)⟩
 refine JT fun h => Jx R (Je [2] R (Jb 1 R (Ju (Jw (Ja1 (Jw (Jw ?_)))))))
 cases h
 obtain rfl := Option.some.inj hk10
 have h := hK2
 dsimp only [aft] at h
 refine Ja1 (Jq2 (Jw (Ja2 (l := [.tmp 4]) V24 (Jp2 R R) R ?_)))
 cases h
 exact ⟨K8, R, (hE.stp S9 R R)⟩
 rintro _ w4 ⟨K5, s3, rfl, S6, rfl⟩
 have h := hK2
 dsimp only [aft] at h
 refine Jp (Je [2, 2] R (Jb 2 R (Ju (Ja2 (l := [.tmp 4]) V24 (Jp2 R R) R ?_))))
 cases h
 exact ⟨K5, R, (hE.stp S6 R R)⟩
end Go.Proofs.YtcmamhmpoinmnaaGreat
