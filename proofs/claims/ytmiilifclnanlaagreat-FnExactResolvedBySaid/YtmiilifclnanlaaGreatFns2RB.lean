/- The walks, part 2. By program. -/
import Derived.Test.YtmiilifclnanlaaGreatFnsMRB
import Derived.Test.YtmiilifclnanlaaGreatAlRB
set_option linter.unusedVariables false
set_option linter.unusedSimpArgs false
namespace Go.Proofs.YtmiilifclnanlaaGreat
open Go Go.Wk Go.Proofs
set_option maxRecDepth 100000
set_option maxHeartbeats 1000000
theorem s_l1Has_ok {w : World} {κ : Col} {a0 u0} {p0 : (List Int)} {p1 : Int} (g0 : Rd (Rp.int .i64) κ w 0 a0 u0 p0) {r : Bool} (h : s_l1Has p0 p1 = some r) : Ret Tryz.prog 103 [.slice a0 p0.length u0, vi p1] w (fun v w' => ∃ (κ' : Col), v = .bool r ∧ Ent κ w κ' w') := by
 unfold s_l1Has at h
 refine Ret.enter F103 R N103 R ?_
 dsimp only [envOf]
 have hE := Ent.refl κ w
 refine Je [2] R (Jb 1 R (Jq (Je [2] R (Jb 1 R ?_))))
 have hN1 : (p0.length : Int) ≤ 9223372036854775807 := g0.len_le
 refine Ob h fun q2 hq3 hK2 => ?_
 clear h
 refine Jx1 (fun L w' => ∃ κ', L = [] ∧ Stp [] κ w κ' w' ∧ q2 = Sum.inr ()) ?_ ?_
 refine Jv (Jy1 (fun k L w' => ∃ κ' v5, L = [(0, .slice a0 p0.length u0), (1, vi p1), (5, vi v5)] ∧ Stp [] κ w κ' w' ∧ 0 ≤ v5 ∧ Int.toNat ((p0.length : Int) - v5) = k ∧ cntM (s_l1Has_b0 p0 p1) k v5 () = some q2) ⟨_, _, ⟨κ, 0, R, (Jx2 _ _).wk R, (by decide), (by simp), hq3⟩, (KM R)⟩ ?_)
 rintro k _ w7 ⟨K8, v5, rfl, S9, hj1, hJ1, h⟩
 rcases k with _ | k
 have hk10 := h; obtain ⟨o1, h⟩ := ex_eq (Sum.inr (Sum.inl ()) : Bool ⊕ ((Unit) ⊕ (Unit)))
 have hc1 : decide (v5 < (p0.length : Int)) = false := Jo2 (by omega)
 refine Jq (Je [2, 2, 2, 2] R (Jn 2 R (Jf R (Je2 U22 R R) (Jb 1 R (Jw2 R hc1 (Jc1 (Jt (Jt ?_))))))))
 cases h
 have h := hk10
 refine Jb1 ?_
 cases h
 exact Jw1 _ ⟨K8, R, S9.wk R, R⟩ KN
 obtain ⟨o1, h, hk10⟩ := BI h; unfold s_l1Has_b0 at h
 have hc1 : decide (v5 < (p0.length : Int)) = true := Jn2 (by omega)
 refine Jq (Je [2, 2, 2, 2] R (Jn 2 R (Jf R (Je2 U22 R R) (Jb 1 R (Jv2 R hc1 (Js (Jp (Jq (Jv (Je [2, 2, 2, 1, 2, 2] R (Jn 2 R (Ob h fun x14 hx14 h => Jf R (Jf2 g0 hx14 U22 Z2 R R R R) (Jl tv R R R R (Jc2 I2 R R (hvE ((g0.stp S9 R R).gInt hx14))) (Jb 2 R ?_))))))))))))))
 revert h
 cases ht12 : (x14 == p1)
 refine JF fun h => Jy R (Js (Jz (Jp (Ja [2, 2, 2] R (Jc 3 R ?_)))))
 have hw1 : IntKind.wrap .i64 (v5 + 1) = v5 + 1 := wr1 hj1 (Jm2 hc1) hN1
 rw [hw1]
 have hc1 := Jm2 hc1
 cases h
 exact Jz1 fun a ha => ⟨k, _, Ja3 _, ⟨K8, v5 + 1, R, S9.wk R, by omega, by omega, hk10⟩, (ha.mm R)⟩
 refine JT fun h => Jx R (Je [2] R (Jb 1 R (Ju (Ja1 (Jw (Jw ?_))))))
 cases h
 obtain rfl := Option.some.inj hk10
 have h := hK2
 dsimp only [aft] at h
 refine Ja1 (Jq2 (Jw (Ja2 (l := [.tmp 4]) V103 (Jp2 R R) R ?_)))
 cases h
 exact ⟨K8, R, (hE.stp S9 R R)⟩
 rintro _ w4 ⟨K5, rfl, S6, rfl⟩
 have h := hK2
 dsimp only [aft] at h
 refine Jp (Je [2] R (Jb 1 R (Ju (Ja2 (l := [.tmp 4]) V103 (Jp2 R R) R ?_))))
 cases h
 exact ⟨K5, R, (hE.stp S6 R R)⟩
theorem s_RegionOf_ok {w : World} {κ : Col} {ak ai ah aj} {p0 : Answer} {p1 : Int} (g0_0 : Rd (Rp.int .i64) κ w 0 ak ai p0.Won) (g0_1 : Rd (Rp.int .i64) κ w 0 ah aj p0.Plan) {r : (List Int)} (h : s_RegionOf p0 p1 = some r) : Ret Tryz.prog 64 [.agg #[.slice ak p0.Won.length ai, .slice ah p0.Plan.length aj], vi p1] w (fun v w' => ∃ (κ' : Col) (ra0 : Option Addr) (ru0 : Nat), v = .slice ra0 r.length ru0 ∧ Ent κ w κ' w' ∧ Oc E6 2 κ' w' 2 ra0 ru0 r) := by
 unfold s_RegionOf at h
 refine Ret.enter F64 R N64 R ?_
 dsimp only [envOf]
 have hE := Ent.refl κ w
 refine Je [1, 2] R (Jf1 (κ := κ) 2 R R R R R R R fun b2 w1 K2 S3 f4 => ⟨tv, Jb 1 R (Je [1, 2] R (Jo1 (κ := K2) (E := E6) 3 R R R R R Y22 Tryzinfo2 R fun a7 u7 w5 K6 S7 f8 => ⟨tv, Jb 1 R (Jq (Je [2] R (Jb 1 R (Ob h fun q2 hq11 hK10 => ?_))))⟩))⟩)
 clear h
 refine Jx1 (fun L w' => ∃ κ', ∃ s3 : (List Int) × Int, ∃ af ad, L = [(5, .slice af s3.1.length ad)] ∧ Stp [3] K6 w5 κ' w' ∧ Oc E6 2 κ' w' 3 af ad s3.1 ∧ q2 = Sum.inr s3) ?_ ?_
 refine Jv (Jy1 (fun k L w' => ∃ κ', ∃ s1 : (List Int) × Int, ∃ ab aa, L = [(1, vi p1), (2, .pointer (some ⟨b2, 0, none⟩)), (5, .slice ab s1.1.length aa), (6, vi s1.2)] ∧ Stp [3] K6 w5 κ' w' ∧ Oc E6 2 κ' w' 3 ab aa s1.1 ∧ whileM (s_RegionOf_b0 p0 p1) k s1 = some q2) ⟨_, _, ⟨K6, ((([] : List Int) : (List Int)), (0 : Int)), a7, u7, R, (Jx2 _ _).wk R, f8, hq11⟩, (KM R)⟩ ?_)
 rintro k _ w16 ⟨K17, s1, ab, aa, rfl, S18, f19, h⟩
 rcases k with _ | k
 cases h
 obtain ⟨o9, h, hk20⟩ := BI h; unfold s_RegionOf_b0 at h
 refine Jq (Je [2, 2, 1, 2, 2, 2, 2, 1, 2, 2, 2] R (Jn 1 R (Jf R (Jb2 U34 R Z22 R R) ?_)))
 have f21 := f4.stp (S7.tr S18) R R
 refine Jl tv R R R R (Jc2 I22 R R (hvE (f21.ld 0 R R))) (Jf R (Je2 U22 R R) (Jn 2 R (Ob h fun p18 h hK22 => Ju1 [(6, 2), (7, 1), (8, 2), (9, 2), (10, 2)] [] (fun L w' => L = [(1, vi p1), (2, .pointer (some ⟨b2, 0, none⟩)), (5, .slice ab s1.1.length aa), (6, vi s1.2), (18, .bool p18)] ∧ ∃ κ', Stp [] K17 w16 κ' w') tv ?_ ?_)))
 revert h
 cases ht23 : decide (s1.2 < (p0.Won.length : Int))
 refine JF fun h => Jn 1 R (Jd1 R R R R (Jn 3 R ?_))
 cases h
 exact Jv1 _ tv ⟨R, _, (Jx2 _ _).wk R⟩ (KM R)
 refine JT fun h => Jf R (Jb2 U34 R Z22 R R) (Jl tv R R R R (Jc2 I22 R R (hvE (f21.ld 0 R R))) (Jf R (Je2 U22 R R) (Jn 2 R ?_)))
 cases h
 exact Jv1 _ tv ⟨R, _, (Jx2 _ _).wk R⟩ (KM R)
 rintro _ w24 _ ⟨rfl, K25, S26⟩
 have h := hK22
 refine Jd ?_
 revert h
 cases ht27 : p18
 refine JF fun h => Jy R (Jc1 (Jt (Jt ?_)))
 cases h
 have h := hk20
 refine Jb1 ?_
 cases h
 exact Jw1 _ ⟨K25, ((s1.1 : (List Int)), (s1.2 : Int)), ab, aa, R, (S18.tr S26).wk R, (f19.stp S26 R R), R⟩ (KM R)
 refine JT fun h => Jx R (Js (Jp (Jq (Jv (Je [2, 1, 2, 2, 1, 2, 2] R (Jf R (Jb2 U34 R Z22 R R) (Jl tv R R R R (Jc2 I22 R R (hvE ((f21.stp S26 R R).ld 0 R R))) (Jn 1 R (Ob h fun x24 hx24 h => Jf R (Jf2 g0_0 hx24 U22 Z2 R R R R) (Jl tv R R R R (Jc2 I2 R R (hvE ((g0_0.stp (S3.tr (S7.tr (S18.tr S26))) R R).gInt hx24))) (Jb 2 R (Ob h fun q4 h hK30 => Jx1 (fun L w' => ∃ κ' ae ac, L = [(1, vi p1), (2, .pointer (some ⟨b2, 0, none⟩)), (5, .slice ae q4.length ac), (6, vi s1.2)] ∧ Stp [3] K25 w24 κ' w' ∧ Oc E6 2 κ' w' 3 ae ac q4) ?_ ?_))))))))))))
 revert h
 cases ht35 : (x24 == p1)
 refine JF fun h => Jy R (Js ?_)
 cases h
 exact Jw1 _ ⟨K25, ab, aa, R, (Jx2 _ _).wk R, (f19.stp S26 R R)⟩ (KM R)
 refine JT fun h => Jx R (Ja [2, 2, 1, 1, 2] R (Jn 2 R (Jn1 (κ := K25) (E := E6) 4 [] (parts := [(0, .tmp 29)]) (cells := [vi s1.2]) (xs := ([s1.2] : List Int)) R R R R R R Y22 Tryzinfo2 R R R R R R R R R R ⟨[vi s1.2], [], Zl K25 w24 [], Zl K25 w24 [], R, Zl.sp (l1 := []) (l2 := []) R, Zl.sr (l1 := []) (l2 := []), R, R⟩ fun an ao w36 K37 S38 f39 => ⟨tv, Ob h fun x31 hx31 h => Jm1 (κ := K37) (E := E6) 3 [] R R R R R R R R R Y22 Tryzinfo2 R R R R (f19.stp (S26.tr S38) R R) (Sl.srcP (pu_int _) f39.rdc) sy_false hx31 R fun al am w41 K42 S43 f44 => ⟨tv, Jc 1 R ?_⟩⟩)))
 cases h
 exact Jw1 _ ⟨K42, al, am, R, (S38.tr S43).wk R, f44⟩ (KM R)
 rintro _ w31 ⟨K32, ae, ac, rfl, S33, f34⟩
 have h := hK30
 refine Jz (Jp (Ja [2, 2, 2] R (Jc 3 R ?_)))
 cases h
 exact Jz1 fun a ha => ⟨k, _, Ja3 _, ⟨K32, ((q4 : (List Int)), ((IntKind.i64.wrap (s1.2 + 1)) : Int)), ae, ac, R, (S18.tr (S26.tr S33)).wk R, f34, hk20⟩, (ha.mm R)⟩
 rintro _ w12 ⟨K13, s3, af, ad, rfl, S14, f15, rfl⟩
 have h := hK10
 dsimp only [aft] at h
 refine Jp (Je [2, 2] R (Jb 2 R (Ju (Ja2 (l := [.tmp 4]) V64 (Jp2 R R) R ?_))))
 cases h
 exact ⟨(fun b => ren [(3, 2)] (K13 b)), af, ad, R, ((hE.stp (S3.tr (S7.tr S14)) R R).map (ren [(3, 2)]) R R), (f15.map (ren [(3, 2)]) R R)⟩
theorem s_l6Edges_ok {w : World} {κ : Col} {ak al ah aj} {p0 : Arena} {a1 u1} {p1 : (List Int)} (g0_0 : Rd (Rp.int .i64) κ w 0 ak al p0.Owner) (g0_1 : Rd (Rp.sl (Rp.int .i64)) κ w 0 ah aj p0.Next) (g1 : Rd (Rp.int .i64) κ w 0 a1 u1 p1) {r : (List (List Int))} (h : s_l6Edges p0 p1 = some r) : Ret Tryz.prog 156 [.agg #[.slice ak p0.Owner.length al, .slice ah p0.Next.length aj], .slice a1 p1.length u1] w (fun v w' => ∃ (κ' : Col) (ra0 : Option Addr) (ru0 : Nat), v = .slice ra0 r.length ru0 ∧ Ent κ w κ' w' ∧ Oc (Ep.fz (Rp.sl (Rp.int .i64))) 22 κ' w' 2 ra0 ru0 r) := by
 unfold s_l6Edges at h
 refine Ret.enter F156 R N156 R ?_
 dsimp only [envOf]
 have hE := Ent.refl κ w
 refine Je [1, 2] R (Jf1 (κ := κ) 2 R R R R R R R fun b2 w1 K2 S3 f4 => ⟨tv, Jb 1 R (Je [1, 2] R (Jo1 (κ := K2) (E := (Ep.fz (Rp.sl (Rp.int .i64)))) 3 R R R R R Y23 Tryzinfo22 R fun a7 u7 w5 K6 S7 f8 => ⟨tv, Jb 1 R (Jq (Je [2] R (Jb 1 R ?_)))⟩))⟩)
 have hN9 : (p0.Next.length : Int) ≤ 9223372036854775807 := g0_1.len_le
 refine Ob h fun q2 hq11 hK10 => ?_
 clear h
 refine Jx1 (fun L w' => ∃ κ', ∃ s3 : (List (List Int)), ∃ ae ac, L = [(5, .slice ae s3.length ac)] ∧ Stp [3, 4, 5] K6 w5 κ' w' ∧ Oc (Ep.fz (Rp.sl (Rp.int .i64))) 22 κ' w' 3 ae ac s3 ∧ q2 = Sum.inr s3) ?_ ?_
 refine Jv (Jy1 (fun k L w' => ∃ κ' v6, ∃ s1 : (List (List Int)), ∃ aa af, L = [(1, .slice a1 p1.length u1), (2, .pointer (some ⟨b2, 0, none⟩)), (5, .slice aa s1.length af), (6, vi v6)] ∧ Stp [3, 4, 5] K6 w5 κ' w' ∧ Oc (Ep.fz (Rp.sl (Rp.int .i64))) 22 κ' w' 3 aa af s1 ∧ 0 ≤ v6 ∧ Int.toNat ((p0.Next.length : Int) - v6) = k ∧ cntM (s_l6Edges_b0 p0 p1) k v6 s1 = some q2) ⟨_, _, ⟨K6, 0, (([] : List (List Int)) : (List (List Int))), a7, u7, R, (Jx2 _ _).wk R, f8, (by decide), (by simp), hq11⟩, (KM R)⟩ ?_)
 rintro k _ w16 ⟨K17, v6, s1, aa, af, rfl, S18, f19, hj9, hJ9, h⟩
 rcases k with _ | k
 have hk20 := h; obtain ⟨o9, h⟩ := ex_eq (Sum.inr (Sum.inl s1) : (List (List Int)) ⊕ (((List (List Int))) ⊕ ((List (List Int)))))
 have hc9 : decide (v6 < (p0.Next.length : Int)) = false := Jo2 (by omega)
 refine Jq (Je [2, 2, 1, 2, 2] R (Jn 1 R (Jf R (Jb2 U37 R Z23 R R) (Jl tv R R R R (Jc2 I23 R R (hvE ((f4.stp (S7.tr S18) R R).ld 1 R R))) (Jf R (Je2 U23 R R) (Jb 1 R (Jw2 R hc9 (Jc1 (Jt (Jt ?_))))))))))
 cases h
 have h := hk20
 refine Jb1 ?_
 cases h
 exact Jw1 _ ⟨K17, (s1 : (List (List Int))), aa, af, R, S18.wk R, f19, R⟩ (KM R)
 obtain ⟨o9, h, hk20⟩ := BI h; unfold s_l6Edges_b0 at h
 have hc9 : decide (v6 < (p0.Next.length : Int)) = true := Jn2 (by omega)
 refine Jq (Je [2, 2, 1, 2, 2] R (Jn 1 R (Jf R (Jb2 U37 R Z23 R R) ?_)))
 have f22 := f4.stp (S7.tr S18) R R
 refine Jl tv R R R R (Jc2 I23 R R (hvE (f22.ld 1 R R))) (Jf R (Je2 U23 R R) (Jb 1 R (Jv2 R hc9 (Js (Jp (Jq (Jv (Je [2, 2, 2, 1, 2] R (Jn 2 R (Ob h fun x17 hx17 h => Jf R (Jf2 g1 hx17 U22 Z2 R R R R) ?_))))))))))
 have f23 := g1.stp (S3.tr (S7.tr S18)) R R
 refine Jl tv R R R R (Jc2 I2 R R (hvE (f23.gInt hx17))) (Jb 1 R (Ob h fun q4 h hK24 => Jx1 (fun L w' => ∃ κ' ad ab, L = [(1, .slice a1 p1.length u1), (2, .pointer (some ⟨b2, 0, none⟩)), (5, .slice ad q4.length ab), (6, vi v6)] ∧ Stp [3, 4, 5] K17 w16 κ' w' ∧ Oc (Ep.fz (Rp.sl (Rp.int .i64))) 22 κ' w' 3 ad ab q4) ?_ ?_))
 revert h
 cases ht29 : decide (0 ≤ x17)
 refine JF fun h => Jy R (Ja [2, 2, 1, 2, 2, 1, 1, 1, 2] R (Jn 1 R (Jf R (Jb2 U37 R Z23 R R) (Jl tv R R R R (Jc2 I23 R R (hvE (f22.ld 1 R R))) (Jn 1 R (Ob h fun x32 hx32 h => Jf R (Jf2 g0_1 hx32 U23 Z22 R R R R) ?_))))))
 obtain ⟨ax32, ux32, f48, hl49⟩ := (g0_1.stp (S3.tr (S7.tr S18)) R R).gSl hx32
 refine Jl tv R R R R (Jc2 I22 R R (hvE hl49)) (Jn1 (κ := K17) (E := (Ep.fz (Rp.sl (Rp.int .i64)))) 4 [] (parts := [(0, .tmp 33)]) (cells := [.slice ax32 x32.length ux32]) (xs := ([x32] : List (List Int))) R R R R R R Y23 Tryzinfo22 R R R R R R R R R R ⟨[.slice ax32 x32.length ux32], [], Zl K17 w16 [], Zl K17 w16 [], R, Zl.sp (l1 := []) (l2 := []) R, Zl.sr (l1 := []) (l2 := []), ⟨_, _, R, (Sl.z1 f48)⟩, R⟩ fun aw av w50 K51 S52 f53 => ⟨tv, Ob h fun x35 hx35 h => Jm1 (κ := K51) (E := (Ep.fz (Rp.sl (Rp.int .i64)))) 3 [4] R R R R R R R R R Y23 Tryzinfo22 R R R R (f19.stp S52 R R) f53.src (sy_one R) hx35 R fun ap an w55 K56 S57 f58 => ⟨tv, Jc 1 R ?_⟩⟩)
 cases h
 exact Jw1 _ ⟨K56, ap, an, R, (S52.tr S57).wk R, f58⟩ (KM R)
 refine JT fun h => Jx R (Ja [2, 2, 2, 2, 1, 1, 1, 1, 2] R (Jn 3 R (Ob h fun x23 hx23 h => Jf R (Jf2 f23 hx23 U22 Z2 R R R R) (Jl tv R R R R (Jc2 I2 R R (hvE (f23.gInt hx23))) (Jn1 (κ := K17) (E := E6) 4 [] (parts := [(0, .tmp 24)]) (cells := [vi x23]) (xs := ([x23] : List Int)) R R R R R R Y22 Tryzinfo2 R R R R R R R R R R ⟨[vi x23], [], Zl K17 w16 [], Zl K17 w16 [], R, Zl.sp (l1 := []) (l2 := []) R, Zl.sr (l1 := []) (l2 := []), R, R⟩ fun am ai w30 K31 S32 f33 => ⟨tv, ?_⟩)))))
 obtain ⟨K34, S35, z36⟩ := fz_ex K31 w30 4
 refine Jn1 (κ := K34) (E := (Ep.fz (Rp.sl (Rp.int .i64)))) 5 [] (parts := [(0, .tmp 25)]) (cells := [.slice am ([x23] : List Int).length ai]) (xs := ([([x23] : List Int)] : List (List Int))) R R R R R R Y23 Tryzinfo22 R R R R R R R R R R ⟨[.slice am ([x23] : List Int).length ai], [], Zl K34 w30 [], Zl K34 w30 [], R, Zl.sp (l1 := []) (l2 := []) R, Zl.sr (l1 := []) (l2 := []), ⟨_, _, R, (Sl.z1 (Sl.st z36 f33.rdc))⟩, R⟩ fun au ar w38 K39 S40 f41 => ⟨tv, Ob h fun x27 hx27 h => Jm1 (κ := K39) (E := (Ep.fz (Rp.sl (Rp.int .i64)))) 3 [5] R R R R R R R R R Y23 Tryzinfo22 R R R R (f19.stp (S32.tr (S35.tr S40)) R R) f41.src (sy_one R) hx27 R fun ao aq w43 K44 S45 f46 => ⟨tv, Jc 1 R ?_⟩⟩
 cases h
 exact Jw1 _ ⟨K44, ao, aq, R, (S32.tr (S35.tr (S40.tr S45))).wk R, f46⟩ (KM R)
 rintro _ w25 ⟨K26, ad, ab, rfl, S27, f28⟩
 have h := hK24
 refine Jz (Jp (Ja [2, 2, 2] R (Jc 3 R ?_)))
 have hw9 : IntKind.wrap .i64 (v6 + 1) = v6 + 1 := wr1 hj9 (Jm2 hc9) hN9
 rw [hw9]
 have hc9 := Jm2 hc9
 cases h
 exact Jz1 fun a ha => ⟨k, _, Ja3 _, ⟨K26, v6 + 1, (q4 : (List (List Int))), ad, ab, R, (S18.tr S27).wk R, f28, by omega, by omega, hk20⟩, (ha.mm R)⟩
 rintro _ w12 ⟨K13, s3, ae, ac, rfl, S14, f15, rfl⟩
 have h := hK10
 dsimp only [aft] at h
 refine Jp (Je [2, 2] R (Jb 2 R (Ju (Ja2 (l := [.tmp 4]) V156 (Jp2 R R) R ?_))))
 cases h
 exact ⟨(fun b => ren [(3, 2)] (K13 b)), ae, ac, R, ((hE.stp (S3.tr (S7.tr S14)) R R).map (ren [(3, 2)]) R R), (f15.map (ren [(3, 2)]) R R)⟩
theorem s_l1Marks_ok {w : World} {κ : Col} {a0 u0} {p0 : (List Int)} {p1 : Int} (g0 : Rd (Rp.int .i64) κ w 0 a0 u0 p0) {r : (List Bool)} (h : s_l1Marks p0 p1 = some r) : Ret Tryz.prog 136 [.slice a0 p0.length u0, vi p1] w (fun v w' => ∃ (κ' : Col) (ra0 : Option Addr) (ru0 : Nat), v = .slice ra0 r.length ru0 ∧ Ent κ w κ' w' ∧ Oc Ep.bool 4 κ' w' 2 ra0 ru0 r) := by
 unfold s_l1Marks at h
 refine Ret.enter F136 R N136 R ?_
 dsimp only [envOf]
 have hE := Ent.refl κ w
 refine Je [2] R (Jb 1 R (Je [2, 1, 2] R (Jn 1 R (Ob h fun x8 hx8 h => Jl1 (κ := κ) (E := Ep.bool) (z := (false : Bool)) 2 R R R R R R R Y70 Tryzinfo4 R R R R R (fun _ _ _ => R) (Ju2 hx8) fun a8 u8 w1 K2 S3 f4 => ⟨tv, Jb 1 R (Jq (Je [2] R (Jb 1 R ?_)))⟩))))
 have hN5 : (p0.length : Int) ≤ 9223372036854775807 := g0.len_le
 refine Ob h fun q2 hq7 hK6 => ?_
 clear h
 refine Jx1 (fun L w' => ∃ κ', ∃ s3 : (List Bool), L = [(5, .slice a8 x8.length u8)] ∧ Stp [2] K2 w1 κ' w' ∧ Oc Ep.bool 4 κ' w' 2 a8 u8 s3 ∧ x8.length = s3.length ∧ q2 = Sum.inr s3) ?_ ?_
 refine Jv (Jy1 (fun k L w' => ∃ κ' v6, ∃ s1 : (List Bool), L = [(0, .slice a0 p0.length u0), (5, .slice a8 x8.length u8), (6, vi v6)] ∧ Stp [2] K2 w1 κ' w' ∧ Oc Ep.bool 4 κ' w' 2 a8 u8 s1 ∧ x8.length = s1.length ∧ 0 ≤ v6 ∧ Int.toNat ((p0.length : Int) - v6) = k ∧ cntM (s_l1Marks_b0 p0) k v6 s1 = some q2) ⟨_, _, ⟨K2, 0, (x8 : (List Bool)), R, (Jx2 _ _).wk R, f4, R, (by decide), (by simp), hq7⟩, (KM R)⟩ ?_)
 rintro k _ w13 ⟨K14, v6, s1, rfl, S15, f16, hn17, hj5, hJ5, h⟩
 rcases k with _ | k
 have hk18 := h; obtain ⟨o5, h⟩ := ex_eq (Sum.inr (Sum.inl s1) : (List Bool) ⊕ (((List Bool)) ⊕ ((List Bool))))
 have hc5 : decide (v6 < (p0.length : Int)) = false := Jo2 (by omega)
 refine Jq (Je [2, 2, 2, 2] R (Jn 2 R (Jf R (Je2 U22 R R) (Jb 1 R (Jw2 R hc5 (Jc1 (Jt (Jt ?_))))))))
 cases h
 have h := hk18
 refine Jb1 ?_
 cases h
 exact Jw1 _ ⟨K14, (s1 : (List Bool)), R, S15.wk R, f16, hn17, R⟩ (KM R)
 obtain ⟨o5, h, hk18⟩ := BI h; unfold s_l1Marks_b0 at h
 have hc5 : decide (v6 < (p0.length : Int)) = true := Jn2 (by omega)
 refine Jq (Je [2, 2, 2, 2] R (Jn 2 R (Jf R (Je2 U22 R R) (Jb 1 R (Jv2 R hc5 (Js (Jp (Jq (Jv (Ja [2, 2, 2, 2, 1, 2, 1] R (Jn 3 R (Ob h fun x18 hx18 h => Jf R (Jf2 g0 hx18 U22 Z2 R R R R) (Jl tv R R R R (Jc2 I2 R R (hvE ((g0.stp (S3.tr S15) R R).gInt hx18))) (Ob h fun x20 hx20 h => Jf R (Jf2 f16.rdc hx20 U70 Z4 R R hn17 R) (Ob h fun y85 hy85 h => Jk1 (κ := K14) (E := Ep.bool) 2 [] R R R R R R R R Z4 R R R R f16 hy85 fun w20 K21 S22 f23 => ⟨tv, ?_⟩)))))))))))))))
 have hn24 : x8.length = y85.length := hn17.trans (Jt2 hy85).2.2.2.symm
 refine Jo (Jz (Jp (Ja [2, 2, 2] R (Jc 3 R ?_))))
 have hw5 : IntKind.wrap .i64 (v6 + 1) = v6 + 1 := wr1 hj5 (Jm2 hc5) hN5
 rw [hw5]
 have hc5 := Jm2 hc5
 cases h
 exact Jz1 fun a ha => ⟨k, _, Ja3 _, ⟨K21, v6 + 1, (y85 : (List Bool)), R, (S15.tr S22).wk R, f23, hn24, by omega, by omega, hk18⟩, (ha.mm R)⟩
 rintro _ w8 ⟨K9, s3, rfl, S10, f11, hn12, rfl⟩
 have h := hK6
 dsimp only [aft] at h
 refine Jp (Je [2, 2] R (Jb 2 R (Ju (Ja2 (l := [.tmp 4]) V136 (Jp2 R R) R ?_))))
 cases h
 exact ⟨K9, a8, u8, (by simp only [hn12]), (hE.stp (S3.tr S10) R R), f11⟩
theorem s_l7None_ok {w : World} {κ : Col} {p0 : Int}  {r : (List Int)} (h : s_l7None p0 = some r) : Ret Tryz.prog 59 [vi p0] w (fun v w' => ∃ (κ' : Col) (ra0 : Option Addr) (ru0 : Nat), v = .slice ra0 r.length ru0 ∧ Ent κ w κ' w' ∧ Oc E6 2 κ' w' 2 ra0 ru0 r) := by
 unfold s_l7None at h
 refine Ret.enter F59 R N59 R ?_
 dsimp only [envOf]
 have hE := Ent.refl κ w
 refine Je [2] R (Jb 1 R (Je [1, 2] R (Jo1 (κ := κ) (E := E6) 2 R R R R R Y22 Tryzinfo2 R fun a5 u5 w1 K2 S3 f4 => ⟨tv, Jb 1 R (Jq (Je [2] R (Jb 1 R (Ob h fun _ hr5 h => ?_))))⟩)))
 have hN5 := rng_ok hr5
 refine Ob h fun q2 hq7 hK6 => ?_
 clear h
 refine Jx1 (fun L w' => ∃ κ', ∃ s3 : (List Int), ∃ ab aa, L = [(3, .slice ab s3.length aa)] ∧ Stp [2] K2 w1 κ' w' ∧ Oc E6 2 κ' w' 2 ab aa s3 ∧ q2 = Sum.inr s3) ?_ ?_
 refine Jv (Jy1 (fun k L w' => ∃ κ' v4, ∃ s1 : (List Int), ∃ ad ac, L = [(0, vi p0), (3, .slice ad s1.length ac), (4, vi v4)] ∧ Stp [2] K2 w1 κ' w' ∧ Oc E6 2 κ' w' 2 ad ac s1 ∧ 0 ≤ v4 ∧ Int.toNat (p0 - v4) = k ∧ cntM s_l7None_b0 k v4 s1 = some q2) ⟨_, _, ⟨K2, 0, (([] : List Int) : (List Int)), a5, u5, R, (Jx2 _ _).wk R, f4, (by decide), (by simp), hq7⟩, (KM R)⟩ ?_)
 rintro k _ w12 ⟨K13, v4, s1, ad, ac, rfl, S14, f15, hj5, hJ5, h⟩
 rcases k with _ | k
 have hk16 := h; obtain ⟨o5, h⟩ := ex_eq (Sum.inr (Sum.inl s1) : (List Int) ⊕ (((List Int)) ⊕ ((List Int))))
 have hc5 : decide (v4 < p0) = false := Jo2 (by omega)
 refine Jq (Je [2, 2, 2] R (Jb 3 R (Jw2 R hc5 (Jc1 (Jt (Jt ?_))))))
 cases h
 have h := hk16
 refine Jb1 ?_
 cases h
 exact Jw1 _ ⟨K13, (s1 : (List Int)), ad, ac, R, S14.wk R, f15, R⟩ (KM R)
 obtain ⟨o5, h, hk16⟩ := BI h; unfold s_l7None_b0 at h
 have hc5 : decide (v4 < p0) = true := Jn2 (by omega)
 refine Jq (Je [2, 2, 2] R (Jb 3 R (Jv2 R hc5 (Js (Jp (Jq (Jv (Ja [2, 1, 1, 2] R (Jn 1 R (Jn1 (κ := K13) (E := E6) 3 [] (parts := [(0, .const (vi (-1)))]) (cells := [vi (-1)]) (xs := ([(-1)] : List Int)) R R R R R R Y22 Tryzinfo2 R R R R R R R R R R ⟨[vi (-1)], [], Zl K13 w12 [], Zl K13 w12 [], R, Zl.sp (l1 := []) (l2 := []) R, Zl.sr (l1 := []) (l2 := []), R, R⟩ fun ah ai w17 K18 S19 f20 => ⟨tv, Ob h fun x13 hx13 h => Jm1 (κ := K18) (E := E6) 2 [] R R R R R R R R R Y22 Tryzinfo2 R R R R (f15.stp S19 R R) (Sl.srcP (pu_int _) f20.rdc) sy_false hx13 R fun af ae w22 K23 S24 f25 => ⟨tv, Jc 1 R (Jz (Jp (Ja [2, 2, 2] R (Jc 3 R ?_))))⟩⟩))))))))))
 have hw5 : IntKind.wrap .i64 (v4 + 1) = v4 + 1 := wr1 hj5 (Jm2 hc5) hN5
 rw [hw5]
 have hc5 := Jm2 hc5
 cases h
 exact Jz1 fun a ha => ⟨k, _, Ja3 _, ⟨K23, v4 + 1, (x13 : (List Int)), af, ae, R, (S14.tr (S19.tr S24)).wk R, f25, by omega, by omega, hk16⟩, (ha.mm R)⟩
 rintro _ w8 ⟨K9, s3, ab, aa, rfl, S10, f11, rfl⟩
 have h := hK6
 dsimp only [aft] at h
 refine Jp (Je [2, 2] R (Jb 2 R (Ju (Ja2 (l := [.tmp 2]) V59 (Jp2 R R) R ?_))))
 cases h
 exact ⟨K9, ab, aa, R, (hE.stp (S3.tr S10) R R), f11⟩
theorem s_l7HasIn_ok {w : World} {κ : Col} {a0 u0} {p0 : (List Int)} {p1 : Int} (g0 : Rd (Rp.int .i64) κ w 0 a0 u0 p0) {r : Bool} (h : s_l7HasIn p0 p1 = some r) : Ret Tryz.prog 170 [.slice a0 p0.length u0, vi p1] w (fun v w' => ∃ (κ' : Col), v = .bool r ∧ Ent κ w κ' w') := by
 unfold s_l7HasIn at h
 refine Ret.enter F170 R N170 R ?_
 dsimp only [envOf]
 have hE := Ent.refl κ w
 refine Je [2] R (Jb 1 R (Jq (Je [2] R (Jb 1 R ?_))))
 have hN1 : (p0.length : Int) ≤ 9223372036854775807 := g0.len_le
 refine Ob h fun q2 hq3 hK2 => ?_
 clear h
 refine Jx1 (fun L w' => ∃ κ', L = [] ∧ Stp [] κ w κ' w' ∧ q2 = Sum.inr ()) ?_ ?_
 refine Jv (Jy1 (fun k L w' => ∃ κ' v5, L = [(0, .slice a0 p0.length u0), (1, vi p1), (5, vi v5)] ∧ Stp [] κ w κ' w' ∧ 0 ≤ v5 ∧ Int.toNat ((p0.length : Int) - v5) = k ∧ cntM (s_l7HasIn_b0 p0 p1) k v5 () = some q2) ⟨_, _, ⟨κ, 0, R, (Jx2 _ _).wk R, (by decide), (by simp), hq3⟩, (KM R)⟩ ?_)
 rintro k _ w7 ⟨K8, v5, rfl, S9, hj1, hJ1, h⟩
 rcases k with _ | k
 have hk10 := h; obtain ⟨o1, h⟩ := ex_eq (Sum.inr (Sum.inl ()) : Bool ⊕ ((Unit) ⊕ (Unit)))
 have hc1 : decide (v5 < (p0.length : Int)) = false := Jo2 (by omega)
 refine Jq (Je [2, 2, 2, 2] R (Jn 2 R (Jf R (Je2 U22 R R) (Jb 1 R (Jw2 R hc1 (Jc1 (Jt (Jt ?_))))))))
 cases h
 have h := hk10
 refine Jb1 ?_
 cases h
 exact Jw1 _ ⟨K8, R, S9.wk R, R⟩ KN
 obtain ⟨o1, h, hk10⟩ := BI h; unfold s_l7HasIn_b0 at h
 have hc1 : decide (v5 < (p0.length : Int)) = true := Jn2 (by omega)
 refine Jq (Je [2, 2, 2, 2] R (Jn 2 R (Jf R (Je2 U22 R R) (Jb 1 R (Jv2 R hc1 (Js (Jp (Jq (Jv (Je [2, 2, 2, 1, 2, 2] R (Jn 2 R (Ob h fun x14 hx14 h => Jf R (Jf2 g0 hx14 U22 Z2 R R R R) (Jl tv R R R R (Jc2 I2 R R (hvE ((g0.stp S9 R R).gInt hx14))) (Jb 2 R ?_))))))))))))))
 revert h
 cases ht12 : (x14 == p1)
 refine JF fun h => Jy R (Js (Jz (Jp (Ja [2, 2, 2] R (Jc 3 R ?_)))))
 have hw1 : IntKind.wrap .i64 (v5 + 1) = v5 + 1 := wr1 hj1 (Jm2 hc1) hN1
 rw [hw1]
 have hc1 := Jm2 hc1
 cases h
 exact Jz1 fun a ha => ⟨k, _, Ja3 _, ⟨K8, v5 + 1, R, S9.wk R, by omega, by omega, hk10⟩, (ha.mm R)⟩
 refine JT fun h => Jx R (Je [2] R (Jb 1 R (Ju (Ja1 (Jw (Jw ?_))))))
 cases h
 obtain rfl := Option.some.inj hk10
 have h := hK2
 dsimp only [aft] at h
 refine Ja1 (Jq2 (Jw (Ja2 (l := [.tmp 4]) V170 (Jp2 R R) R ?_)))
 cases h
 exact ⟨K8, R, (hE.stp S9 R R)⟩
 rintro _ w4 ⟨K5, rfl, S6, rfl⟩
 have h := hK2
 dsimp only [aft] at h
 refine Jp (Je [2] R (Jb 1 R (Ju (Ja2 (l := [.tmp 4]) V170 (Jp2 R R) R ?_))))
 cases h
 exact ⟨K5, R, (hE.stp S6 R R)⟩
theorem s_l7All_ok {w : World} {κ : Col} {p0 : Int}  {r : (List Bool)} (h : s_l7All p0 = some r) : Ret Tryz.prog 127 [vi p0] w (fun v w' => ∃ (κ' : Col) (ra0 : Option Addr) (ru0 : Nat), v = .slice ra0 r.length ru0 ∧ Ent κ w κ' w' ∧ Oc Ep.bool 4 κ' w' 2 ra0 ru0 r) := by
 unfold s_l7All at h
 refine Ret.enter F127 R N127 R ?_
 dsimp only [envOf]
 have hE := Ent.refl κ w
 refine Je [2] R (Jb 1 R (Je [2, 1, 2] R (Jn 1 R (Ob h fun x6 hx6 h => Jl1 (κ := κ) (E := Ep.bool) (z := (false : Bool)) 2 R R R R R R R Y70 Tryzinfo4 R R R R R (fun _ _ _ => R) (Ju2 hx6) fun a6 u6 w1 K2 S3 f4 => ⟨tv, Jb 1 R (Jq (Je [2] R (Jb 1 R (Ob h fun _ hr5 h => ?_))))⟩))))
 have hN5 := rng_ok hr5
 refine Ob h fun q2 hq7 hK6 => ?_
 clear h
 refine Jx1 (fun L w' => ∃ κ', ∃ s3 : (List Bool), L = [(3, .slice a6 x6.length u6)] ∧ Stp [2] K2 w1 κ' w' ∧ Oc Ep.bool 4 κ' w' 2 a6 u6 s3 ∧ x6.length = s3.length ∧ q2 = Sum.inr s3) ?_ ?_
 refine Jv (Jy1 (fun k L w' => ∃ κ' v4, ∃ s1 : (List Bool), L = [(0, vi p0), (3, .slice a6 x6.length u6), (4, vi v4)] ∧ Stp [2] K2 w1 κ' w' ∧ Oc Ep.bool 4 κ' w' 2 a6 u6 s1 ∧ x6.length = s1.length ∧ 0 ≤ v4 ∧ Int.toNat (p0 - v4) = k ∧ cntM s_l7All_b0 k v4 s1 = some q2) ⟨_, _, ⟨K2, 0, (x6 : (List Bool)), R, (Jx2 _ _).wk R, f4, R, (by decide), (by simp), hq7⟩, (KM R)⟩ ?_)
 rintro k _ w13 ⟨K14, v4, s1, rfl, S15, f16, hn17, hj5, hJ5, h⟩
 rcases k with _ | k
 have hk18 := h; obtain ⟨o5, h⟩ := ex_eq (Sum.inr (Sum.inl s1) : (List Bool) ⊕ (((List Bool)) ⊕ ((List Bool))))
 have hc5 : decide (v4 < p0) = false := Jo2 (by omega)
 refine Jq (Je [2, 2, 2] R (Jb 3 R (Jw2 R hc5 (Jc1 (Jt (Jt ?_))))))
 cases h
 have h := hk18
 refine Jb1 ?_
 cases h
 exact Jw1 _ ⟨K14, (s1 : (List Bool)), R, S15.wk R, f16, hn17, R⟩ (KM R)
 obtain ⟨o5, h, hk18⟩ := BI h; unfold s_l7All_b0 at h
 have hc5 : decide (v4 < p0) = true := Jn2 (by omega)
 refine Jq (Je [2, 2, 2] R (Jb 3 R (Jv2 R hc5 (Js (Jp (Jq (Jv (Ja [2, 2, 2, 1] R (Jn 2 R (Ob h fun x14 hx14 h => Jf R (Jf2 f16.rdc hx14 U70 Z4 R R hn17 R) (Ob h fun y136 hy136 h => Jk1 (κ := K14) (E := Ep.bool) 2 [] R R R R R R R R Z4 R R R R f16 hy136 fun w19 K20 S21 f22 => ⟨tv, ?_⟩)))))))))))
 have hn23 : x6.length = y136.length := hn17.trans (Jt2 hy136).2.2.2.symm
 refine Jo (Jz (Jp (Ja [2, 2, 2] R (Jc 3 R ?_))))
 have hw5 : IntKind.wrap .i64 (v4 + 1) = v4 + 1 := wr1 hj5 (Jm2 hc5) hN5
 rw [hw5]
 have hc5 := Jm2 hc5
 cases h
 exact Jz1 fun a ha => ⟨k, _, Ja3 _, ⟨K20, v4 + 1, (y136 : (List Bool)), R, (S15.tr S21).wk R, f22, hn23, by omega, by omega, hk18⟩, (ha.mm R)⟩
 rintro _ w8 ⟨K9, s3, rfl, S10, f11, hn12, rfl⟩
 have h := hK6
 dsimp only [aft] at h
 refine Jp (Je [2, 2] R (Jb 2 R (Ju (Ja2 (l := [.tmp 2]) V127 (Jp2 R R) R ?_))))
 cases h
 exact ⟨K9, a6, u6, (by simp only [hn12]), (hE.stp (S3.tr S10) R R), f11⟩
theorem s_l1Max_ok {w : World} {κ : Col} {p0 : Int} {p1 : Int}  {r : Int} (h : s_l1Max p0 p1 = some r) : Ret Tryz.prog 171 [vi p0, vi p1] w (fun v w' => ∃ (κ' : Col), v = vi r ∧ Ent κ w κ' w') := by
 unfold s_l1Max at h
 refine Ret.enter F171 R N171 R ?_
 dsimp only [envOf]
 have hE := Ent.refl κ w
 refine Je [2] R (Jb 1 R (Jq (Je [2, 2, 2] R (Jb 3 R ?_))))
 revert h
 cases ht1 : decide (p1 < p0)
 refine JF fun h => Jy R (Js (Jp (Je [2, 2] R (Jb 2 R (Ju (Ja2 (l := [.tmp 4]) V171 (Jp2 R R) R ?_))))))
 cases h
 exact ⟨κ, R, hE⟩
 refine JT fun h => Jx R (Je [2, 2] R (Jb 2 R (Ju (Jw (Ja2 (l := [.tmp 4]) V171 (Jp2 R R) R ?_)))))
 cases h
 exact ⟨κ, R, hE⟩
theorem s_l7Less_ok {w : World} {κ : Col} {a0 u0} {p0 : (List Bool)} {a1 u1} {p1 : (List Bool)} (g0 : Rd Rp.bool κ w 0 a0 u0 p0) (g1 : Rd Rp.bool κ w 0 a1 u1 p1) {r : (List Bool)} (h : s_l7Less p0 p1 = some r) : Ret Tryz.prog 150 [.slice a0 p0.length u0, .slice a1 p1.length u1] w (fun v w' => ∃ (κ' : Col) (ra0 : Option Addr) (ru0 : Nat), v = .slice ra0 r.length ru0 ∧ Ent κ w κ' w' ∧ Oc Ep.bool 4 κ' w' 2 ra0 ru0 r) := by
 unfold s_l7Less at h
 refine Ret.enter F150 R N150 R ?_
 dsimp only [envOf]
 have hE := Ent.refl κ w
 refine Je [2] R (Jb 1 R (Je [2, 2, 1, 2] R (Jn 1 R (Jf R (Je2 U70 R R) (Ob h fun x9 hx9 h => Jl1 (κ := κ) (E := Ep.bool) (z := (false : Bool)) 2 R R R R R R R Y70 Tryzinfo4 R R R R R (fun _ _ _ => R) (Ju2 hx9) fun a9 u9 w1 K2 S3 f4 => ⟨tv, Jb 1 R (Jq (Je [2] R (Jb 1 R ?_)))⟩)))))
 have hN5 : (p0.length : Int) ≤ 9223372036854775807 := g0.len_le
 refine Ob h fun q2 hq7 hK6 => ?_
 clear h
 refine Jx1 (fun L w' => ∃ κ', ∃ s3 : (List Bool), L = [(5, .slice a9 x9.length u9)] ∧ Stp [2] K2 w1 κ' w' ∧ Oc Ep.bool 4 κ' w' 2 a9 u9 s3 ∧ x9.length = s3.length ∧ q2 = Sum.inr s3) ?_ ?_
 refine Jv (Jy1 (fun k L w' => ∃ κ' v6, ∃ s1 : (List Bool), L = [(0, .slice a0 p0.length u0), (1, .slice a1 p1.length u1), (5, .slice a9 x9.length u9), (6, vi v6)] ∧ Stp [2] K2 w1 κ' w' ∧ Oc Ep.bool 4 κ' w' 2 a9 u9 s1 ∧ x9.length = s1.length ∧ 0 ≤ v6 ∧ Int.toNat ((p0.length : Int) - v6) = k ∧ cntM (s_l7Less_b0 p0 p1) k v6 s1 = some q2) ⟨_, _, ⟨K2, 0, (x9 : (List Bool)), R, (Jx2 _ _).wk R, f4, R, (by decide), (by simp), hq7⟩, (KM R)⟩ ?_)
 rintro k _ w13 ⟨K14, v6, s1, rfl, S15, f16, hn17, hj5, hJ5, h⟩
 rcases k with _ | k
 have hk18 := h; obtain ⟨o5, h⟩ := ex_eq (Sum.inr (Sum.inl s1) : (List Bool) ⊕ (((List Bool)) ⊕ ((List Bool))))
 have hc5 : decide (v6 < (p0.length : Int)) = false := Jo2 (by omega)
 refine Jq (Je [2, 2, 2, 2] R (Jn 2 R (Jf R (Je2 U70 R R) (Jb 1 R (Jw2 R hc5 (Jc1 (Jt (Jt ?_))))))))
 cases h
 have h := hk18
 refine Jb1 ?_
 cases h
 exact Jw1 _ ⟨K14, (s1 : (List Bool)), R, S15.wk R, f16, hn17, R⟩ (KM R)
 obtain ⟨o5, h, hk18⟩ := BI h; unfold s_l7Less_b0 at h
 have hc5 : decide (v6 < (p0.length : Int)) = true := Jn2 (by omega)
 refine Jq (Je [2, 2, 2, 2] R (Jn 2 R (Jf R (Je2 U70 R R) (Jb 1 R (Jv2 R hc5 (Js (Jp (Jq (Jv (Ja [2, 2, 2, 2, 2, 1, 2, 2, 2, 2, 1, 2, 2, 2, 1] R (Jn 4 R (Ob h fun x20 hx20 h => Jf R (Jf2 g0 hx20 U70 Z4 R R R R) (Jl tv R R R R (Jc2 I4 R R (hvE ((g0.stp (S3.tr S15) R R).gBool hx20))) (Jn 1 R (Ob h fun p28 h hK20 => Ju1 [(7, 2), (8, 2), (9, 2), (10, 1), (11, 2), (12, 2)] [(13, 2), (14, 1)] (fun L w' => L = [(0, .slice a0 p0.length u0), (1, .slice a1 p1.length u1), (5, .slice a9 x9.length u9), (6, vi v6), (16, .slice a9 x9.length u9), (17, vi v6), (28, .bool p28)] ∧ ∃ κ', Stp [] K14 w13 κ' w') tv ?_ ?_)))))))))))))))
 revert h
 cases ht21 : x20
 refine JF fun h => Jn 3 R (Jd1 R R R R (Jn 2 R ?_))
 cases h
 exact Jv1 _ tv ⟨R, _, (Jx2 _ _).wk R⟩ (KM R)
 refine JT fun h => Jn 2 R (Ob h fun x25 hx25 h => Jf R (Jf2 g1 hx25 U70 Z4 R R R R) (Jl tv R R R R (Jc2 I4 R R (hvE ((g1.stp (S3.tr S15) R R).gBool hx25))) (Jn 2 R ?_)))
 cases h
 exact Jv1 _ tv ⟨R, _, (Jx2 _ _).wk R⟩ (KM R)
 rintro _ w23 _ ⟨rfl, K24, S25⟩
 have h := hK20
 refine Ob h fun x29 hx29 h => Jf R (Jf2 f16.rdc hx29 U70 Z4 R R hn17 R) (Ob h fun y158 hy158 h => Jk1 (κ := K24) (E := Ep.bool) 2 [] R R R R R R R R Z4 R R R R (f16.stp S25 R R) hy158 fun w27 K28 S29 f30 => ⟨tv, ?_⟩)
 have hn31 : x9.length = y158.length := hn17.trans (Jt2 hy158).2.2.2.symm
 refine Jo (Jz (Jp (Ja [2, 2, 2] R (Jc 3 R ?_))))
 have hw5 : IntKind.wrap .i64 (v6 + 1) = v6 + 1 := wr1 hj5 (Jm2 hc5) hN5
 rw [hw5]
 have hc5 := Jm2 hc5
 cases h
 exact Jz1 fun a ha => ⟨k, _, Ja3 _, ⟨K28, v6 + 1, (y158 : (List Bool)), R, (S15.tr (S25.tr S29)).wk R, f30, hn31, by omega, by omega, hk18⟩, (ha.mm R)⟩
 rintro _ w8 ⟨K9, s3, rfl, S10, f11, hn12, rfl⟩
 have h := hK6
 dsimp only [aft] at h
 refine Jp (Je [2, 2] R (Jb 2 R (Ju (Ja2 (l := [.tmp 4]) V150 (Jp2 R R) R ?_))))
 cases h
 exact ⟨K9, a9, u9, (by simp only [hn12]), (hE.stp (S3.tr S10) R R), f11⟩
theorem i_isSet_ok {w : World} {κ : Col} {a0 u0} {p0 : (List Int)} {p1 : Int} (g0 : Rd (Rp.int .i64) κ w 0 a0 u0 p0) {r : Bool} (h : i_isSet p0 p1 = some r) : Ret Tryz.prog 122 [.slice a0 p0.length u0, vi p1] w (fun v w' => ∃ (κ' : Col), v = .bool r ∧ Ent κ w κ' w') := by
 unfold i_isSet at h
 refine Ret.enter F122 R N122 R ?_
 dsimp only [envOf]
 have hE := Ent.refl κ w
 refine Je [2] R (Jb 1 R (Jq (Je [2, 2, 2] R (Jn 1 R (Jf R (Je2 U22 R R) (Jb 1 R ?_))))))
 have hN1 : (p0.length : Int) ≤ 9223372036854775807 := g0.len_le
 refine Ob h fun q2 hq3 hK2 => ?_
 clear h
 refine Jx1 (fun L w' => ∃ κ', L = [] ∧ Stp [] κ w κ' w' ∧ q2 = Sum.inr ()) ?_ ?_
 refine Jv (Jy1 (fun k L w' => ∃ κ' v9, L = [(0, .slice a0 p0.length u0), (1, vi p1), (7, .slice a0 p0.length u0), (8, vi (p0.length : Int)), (9, vi v9)] ∧ Stp [] κ w κ' w' ∧ 0 ≤ v9 ∧ Int.toNat ((p0.length : Int) - v9) = k ∧ cntM (i_isSet_b0 p0 p1) k v9 () = some q2) ⟨_, _, ⟨κ, 0, R, (Jx2 _ _).wk R, (by decide), (by simp), hq3⟩, (KM R)⟩ ?_)
 rintro k _ w7 ⟨K8, v9, rfl, S9, hj1, hJ1, h⟩
 rcases k with _ | k
 have hk10 := h; obtain ⟨o1, h⟩ := ex_eq (Sum.inr (Sum.inl ()) : Bool ⊕ ((Unit) ⊕ (Unit)))
 have hc1 : decide (v9 < (p0.length : Int)) = false := Jo2 (by omega)
 refine Je [2] R (Jb 1 R (Jq (Jw2 R hc1 (Jc1 (Jt (Jt ?_))))))
 cases h
 have h := hk10
 refine Jb1 ?_
 cases h
 exact Jw1 _ ⟨K8, R, S9.wk R, R⟩ KN
 obtain ⟨o1, h, hk10⟩ := BI h; unfold i_isSet_b0 at h
 have hc1 : decide (v9 < (p0.length : Int)) = true := Jn2 (by omega)
 refine Je [2] R (Jb 1 R (Jq (Jv2 R hc1 (Js (Jp (Jq (Jv (Je [2, 2, 1, 2, 2] R (Jn 1 R (Ob h fun x12 hx12 h => Jf R (Jf2 g0 hx12 U22 Z2 R R R R) ?_))))))))))
 have f11 := g0.stp S9 R R
 refine Jl tv R R R R (Jc2 I2 R R (hvE (f11.gInt hx12))) (Jb 2 R (Je [2, 2, 2, 2, 2, 2, 2, 2, 2, 2, 2, 2, 2, 2, 2, 2, 1, 2, 2, 2] R (Jn 3 R (Ob h fun p20 h hK12 => Ju1 [(3, 2), (4, 2), (5, 2), (6, 2)] [(7, 2), (8, 2), (9, 2), (10, 2), (11, 2), (12, 2), (13, 2), (14, 2), (15, 2), (16, 1), (17, 2), (18, 2), (19, 2)] (fun L w' => L = [(0, .slice a0 p0.length u0), (1, vi p1), (5, vi v9), (6, vi x12), (7, .slice a0 p0.length u0), (8, vi (p0.length : Int)), (9, vi v9), (20, .bool p20)] ∧ ∃ κ', Stp [] K8 w7 κ' w') tv ?_ ?_))))
 revert h
 cases ht13 : decide (x12 < 0)
 refine JF fun h => Jn 4 R ?_
 cases h
 exact Jv1 _ tv ⟨R, _, (Jx2 _ _).wk R⟩ (KM R)
 refine JT fun h => Jn 4 R ?_
 cases h
 exact Jv1 _ tv ⟨R, _, (Jx2 _ _).wk R⟩ (KM R)
 rintro _ w14 _ ⟨rfl, K15, S16⟩
 have h := hK12
 refine Jn 1 R (Ob h fun p33 h hK17 => Ju1 [(8, 2), (9, 2), (10, 2), (11, 2), (12, 2), (13, 2), (14, 2), (15, 2), (16, 1), (17, 2), (18, 2), (19, 2)] [] (fun L w' => L = [(0, .slice a0 p0.length u0), (1, vi p1), (7, .slice a0 p0.length u0), (8, vi (p0.length : Int)), (9, vi v9), (33, .bool p33)] ∧ ∃ κ', Stp [] K15 w14 κ' w') tv ?_ ?_)
 revert h
 cases ht18 : p20
 refine JF fun h => Jn 3 R (Ob h fun p32 h hK19 => Ju1 [(11, 2), (12, 2), (13, 2), (14, 2), (15, 2), (16, 1), (17, 2), (18, 2)] [(19, 2)] (fun L w' => L = [(0, .slice a0 p0.length u0), (1, vi p1), (7, .slice a0 p0.length u0), (8, vi (p0.length : Int)), (9, vi v9), (21, .bool false), (22, vi v9), (23, .bool (decide (0 < v9))), (24, .bool (decide (0 < v9))), (32, .bool p32)] ∧ ∃ κ', Stp [] K15 w14 κ' w') tv ?_ ?_)
 revert h
 cases ht20 : decide (0 < v9)
 refine JF fun h => Jn 5 R (Jd1 R R R R (Jn 2 R ?_))
 cases h
 exact Jv1 _ tv ⟨R, _, (Jx2 _ _).wk R⟩ (KM R)
 refine JT fun h => Jn 4 R (Ob h fun x29 hx29 h => Jf R (Jf2 f11 hx29 U22 Z2 R R R R) (Jl tv R R R R (Jc2 I2 R R (hvE ((f11.stp S16 R R).gInt hx29))) (Jn 2 R ?_)))
 cases h
 exact Jv1 _ tv ⟨R, _, (Jx2 _ _).wk R⟩ (KM R)
 rintro _ w22 _ ⟨rfl, K23, S24⟩
 have h := hK19
 refine Jn 1 R ?_
 cases h
 exact Jv1 _ tv ⟨R, _, S24.wk R⟩ (KM R)
 refine JT fun h => Jn 8 R (Jd1 R R R R (Jn 3 R ?_))
 cases h
 exact Jv1 _ tv ⟨R, _, (Jx2 _ _).wk R⟩ (KM R)
 rintro _ w25 _ ⟨rfl, K26, S27⟩
 have h := hK17
 refine Jd ?_
 revert h
 cases ht28 : p33
 refine JF fun h => Jy R (Js (Jz (Jp (Ja [2, 2] R (Jc 2 R ?_)))))
 have hw1 : IntKind.wrap .i64 (v9 + 1) = v9 + 1 := wr1 hj1 (Jm2 hc1) hN1
 rw [hw1]
 have hc1 := Jm2 hc1
 cases h
 exact Jz1 fun a ha => ⟨k, _, Ja3 _, ⟨K26, v9 + 1, R, (S9.tr (S16.tr S27)).wk R, by omega, by omega, hk10⟩, (ha.mm R)⟩
 refine JT fun h => Jx R (Je [2] R (Jb 1 R (Ju (Ja1 (Jw (Jw ?_))))))
 cases h
 obtain rfl := Option.some.inj hk10
 have h := hK2
 dsimp only [aft] at h
 refine Ja1 (Jq2 (Jw (Ja2 (l := [.tmp 4]) V122 (Jp2 R R) R ?_)))
 cases h
 exact ⟨K26, R, (hE.stp (S9.tr (S16.tr S27)) R R)⟩
 rintro _ w4 ⟨K5, rfl, S6, rfl⟩
 have h := hK2
 dsimp only [aft] at h
 refine Jp (Je [2] R (Jb 1 R (Ju (Ja2 (l := [.tmp 4]) V122 (Jp2 R R) R ?_))))
 cases h
 exact ⟨K5, R, (hE.stp S6 R R)⟩
theorem i_isPlayer_ok {w : World} {κ : Col} {p0 : Int}  {r : Bool} (h : i_isPlayer p0 = some r) : Ret Tryz.prog 85 [vi p0] w (fun v w' => ∃ (κ' : Col), v = .bool r ∧ Ent κ w κ' w') := by
 unfold i_isPlayer at h
 refine Ret.enter F85 R N85 R ?_
 dsimp only [envOf]
 have hE := Ent.refl κ w
 refine Je [2] R (Jb 1 R (Je [2, 2, 2, 2, 2, 2, 2] R (Jn 3 R (Ob h fun p8 h hK1 => Ju1 [(3, 2), (4, 2), (5, 2)] [(6, 2)] (fun L w' => L = [(2, .bool false), (8, .bool p8)] ∧ ∃ κ', Stp [] κ w κ' w') tv ?_ ?_))))
 revert h
 cases ht2 : (p0 == 0)
 refine JF fun h => Jn 3 R ?_
 cases h
 exact Jv1 _ tv ⟨R, _, (Jx2 _ _).wk R⟩ (KM R)
 refine JT fun h => Jn 3 R ?_
 cases h
 exact Jv1 _ tv ⟨R, _, (Jx2 _ _).wk R⟩ (KM R)
 rintro _ w3 _ ⟨rfl, K4, S5⟩
 have h := hK1
 refine Jb 1 R (Ju (Ja2 (l := [.tmp 2]) V85 (Jp2 R R) R ?_))
 cases h
 exact ⟨K4, R, (hE.stp S5 R R)⟩
theorem i_noPlan_ok {w : World} {κ : Col} {ad ab aa ac} {p0 : Arena} (g0_0 : Rd (Rp.int .i64) κ w 0 ad ab p0.Owner) (g0_1 : Rd (Rp.sl (Rp.int .i64)) κ w 0 aa ac p0.Next) {r : (List Int)} (h : i_noPlan p0 = some r) : Ret Tryz.prog 88 [.agg #[.slice ad p0.Owner.length ab, .slice aa p0.Next.length ac]] w (fun v w' => ∃ (κ' : Col) (ra0 : Option Addr) (ru0 : Nat), v = .slice ra0 r.length ru0 ∧ Ent κ w κ' w' ∧ Oc E6 2 κ' w' 2 ra0 ru0 r) := by
 unfold i_noPlan at h
 refine Ret.enter F88 R N88 R ?_
 dsimp only [envOf]
 have hE := Ent.refl κ w
 refine Je [1, 2] R (Jf1 (κ := κ) 2 R R R R R R R fun b1 w1 K2 S3 f4 => ⟨tv, Jb 1 R (Je [2, 1, 2, 1, 2] R (Jf R (Jb2 U37 R Z22 R R) (Jl tv R R R R (Jc2 I22 R R (hvE (f4.ld 0 R R))) (Jf R (Je2 U22 R R) (Ob h fun x8 hx8 h => Jl1 (κ := K2) (E := E6) (z := (0 : Int)) 3 R R R R R R R Y22 Tryzinfo2 R R R R R (fun _ _ _ => R) (Ju2 hx8) fun a8 u8 w5 K6 S7 f8 => ⟨tv, Jb 1 R (Jq (Je [2, 2, 2] R (Jn 1 R (Jf R (Je2 U22 R R) (Jb 1 R ?_)))))⟩)))))⟩)
 have hN9 : (x8.length : Int) ≤ 9223372036854775807 := f8.len_le
 refine Ob h fun q2 hq11 hK10 => ?_
 clear h
 refine Jx1 (fun L w' => ∃ κ', ∃ s3 : (List Int), L = [(3, .slice a8 x8.length u8)] ∧ Stp [3] K6 w5 κ' w' ∧ Oc E6 2 κ' w' 3 a8 u8 s3 ∧ x8.length = s3.length ∧ q2 = Sum.inr s3) ?_ ?_
 refine Jv (Jy1 (fun k L w' => ∃ κ' v11, ∃ s1 : (List Int), L = [(3, .slice a8 x8.length u8), (10, vi (x8.length : Int)), (11, vi v11)] ∧ Stp [3] K6 w5 κ' w' ∧ Oc E6 2 κ' w' 3 a8 u8 s1 ∧ x8.length = s1.length ∧ 0 ≤ v11 ∧ Int.toNat ((x8.length : Int) - v11) = k ∧ cntM i_noPlan_b0 k v11 s1 = some q2) ⟨_, _, ⟨K6, 0, (x8 : (List Int)), R, (Jx2 _ _).wk R, f8, R, (by decide), (by simp), hq11⟩, (KM R)⟩ ?_)
 rintro k _ w17 ⟨K18, v11, s1, rfl, S19, f20, hn21, hj9, hJ9, h⟩
 rcases k with _ | k
 have hk22 := h; obtain ⟨o9, h⟩ := ex_eq (Sum.inr (Sum.inl s1) : (List Int) ⊕ (((List Int)) ⊕ ((List Int))))
 have hc9 : decide (v11 < (x8.length : Int)) = false := Jo2 (by omega)
 refine Je [2] R (Jb 1 R (Jq (Jw2 R hc9 (Jc1 (Jt (Jt ?_))))))
 cases h
 have h := hk22
 refine Jb1 ?_
 cases h
 exact Jw1 _ ⟨K18, (s1 : (List Int)), R, S19.wk R, f20, hn21, R⟩ (KM R)
 obtain ⟨o9, h, hk22⟩ := BI h; unfold i_noPlan_b0 at h
 have hc9 : decide (v11 < (x8.length : Int)) = true := Jn2 (by omega)
 refine Je [2] R (Jb 1 R (Jq (Jv2 R hc9 (Js (Jp (Jq (Jv (Je [2, 2] R (Jb 2 R (Ja [2, 2, 2, 1] R (Jn 2 R (Ob h fun x16 hx16 h => Jf R (Jf2 f20.rdc hx16 U22 Z2 R R hn21 R) (Ob h fun y206 hy206 h => Jk1 (κ := K18) (E := E6) 3 [] R R R R R R R R Z2 R R R R f20 hy206 fun w23 K24 S25 f26 => ⟨tv, ?_⟩)))))))))))))
 have hn27 : x8.length = y206.length := hn21.trans (Jt2 hy206).2.2.2.symm
 refine Jo (Jz (Jp (Ja [2, 2] R (Jc 2 R ?_))))
 have hw9 : IntKind.wrap .i64 (v11 + 1) = v11 + 1 := wr1 hj9 (Jm2 hc9) hN9
 rw [hw9]
 have hc9 := Jm2 hc9
 cases h
 exact Jz1 fun a ha => ⟨k, _, Ja3 _, ⟨K24, v11 + 1, (y206 : (List Int)), R, (S19.tr S25).wk R, f26, hn27, by omega, by omega, hk22⟩, (ha.mm R)⟩
 rintro _ w12 ⟨K13, s3, rfl, S14, f15, hn16, rfl⟩
 have h := hK10
 dsimp only [aft] at h
 refine Jp (Je [2, 2] R (Jb 2 R (Ju (Ja2 (l := [.tmp 2]) V88 (Jp2 R R) R ?_))))
 cases h
 exact ⟨(fun b => ren [(3, 2)] (K13 b)), a8, u8, (by simp only [hn16]), ((hE.stp (S3.tr (S7.tr S14)) R R).map (ren [(3, 2)]) R R), (f15.map (ren [(3, 2)]) R R)⟩
theorem i_markOf_ok {w : World} {κ : Col} {af ad ac ae} {p0 : Arena} {a1 u1} {p1 : (List Int)} (g0_0 : Rd (Rp.int .i64) κ w 0 af ad p0.Owner) (g0_1 : Rd (Rp.sl (Rp.int .i64)) κ w 0 ac ae p0.Next) (g1 : Rd (Rp.int .i64) κ w 0 a1 u1 p1) {r : (List Bool)} (h : i_markOf p0 p1 = some r) : Ret Tryz.prog 46 [.agg #[.slice af p0.Owner.length ad, .slice ac p0.Next.length ae], .slice a1 p1.length u1] w (fun v w' => ∃ (κ' : Col) (ra0 : Option Addr) (ru0 : Nat), v = .slice ra0 r.length ru0 ∧ Ent κ w κ' w' ∧ Oc Ep.bool 4 κ' w' 2 ra0 ru0 r) := by
 unfold i_markOf at h
 refine Ret.enter F46 R N46 R ?_
 dsimp only [envOf]
 have hE := Ent.refl κ w
 refine Je [1, 2] R (Jf1 (κ := κ) 2 R R R R R R R fun b2 w1 K2 S3 f4 => ⟨tv, Jb 1 R (Je [2, 1, 2, 1, 2] R (Jf R (Jb2 U37 R Z22 R R) (Jl tv R R R R (Jc2 I22 R R (hvE (f4.ld 0 R R))) (Jf R (Je2 U22 R R) (Ob h fun x11 hx11 h => Jl1 (κ := K2) (E := Ep.bool) (z := (false : Bool)) 3 R R R R R R R Y70 Tryzinfo4 R R R R R (fun _ _ _ => R) (Ju2 hx11) fun aa ab w5 K6 S7 f8 => ⟨tv, Jb 1 R (Jq (Je [2, 2, 2] R (Jn 1 R (Jf R (Je2 U22 R R) (Jb 1 R ?_)))))⟩)))))⟩)
 have hN9 : (p1.length : Int) ≤ 9223372036854775807 := g1.len_le
 refine Ob h fun q2 hq11 hK10 => ?_
 clear h
 refine Jx1 (fun L w' => ∃ κ', ∃ s3 : (List Bool), L = [(5, .slice aa x11.length ab)] ∧ Stp [3] K6 w5 κ' w' ∧ Oc Ep.bool 4 κ' w' 3 aa ab s3 ∧ x11.length = s3.length ∧ q2 = Sum.inr s3) ?_ ?_
 refine Jv (Jy1 (fun k L w' => ∃ κ' v14, ∃ s1 : (List Bool), L = [(5, .slice aa x11.length ab), (12, .slice a1 p1.length u1), (13, vi (p1.length : Int)), (14, vi v14)] ∧ Stp [3] K6 w5 κ' w' ∧ Oc Ep.bool 4 κ' w' 3 aa ab s1 ∧ x11.length = s1.length ∧ 0 ≤ v14 ∧ Int.toNat ((p1.length : Int) - v14) = k ∧ cntM (i_markOf_b0 p1) k v14 s1 = some q2) ⟨_, _, ⟨K6, 0, (x11 : (List Bool)), R, (Jx2 _ _).wk R, f8, R, (by decide), (by simp), hq11⟩, (KM R)⟩ ?_)
 rintro k _ w17 ⟨K18, v14, s1, rfl, S19, f20, hn21, hj9, hJ9, h⟩
 rcases k with _ | k
 have hk22 := h; obtain ⟨o9, h⟩ := ex_eq (Sum.inr (Sum.inl s1) : (List Bool) ⊕ (((List Bool)) ⊕ ((List Bool))))
 have hc9 : decide (v14 < (p1.length : Int)) = false := Jo2 (by omega)
 refine Je [2] R (Jb 1 R (Jq (Jw2 R hc9 (Jc1 (Jt (Jt ?_))))))
 cases h
 have h := hk22
 refine Jb1 ?_
 cases h
 exact Jw1 _ ⟨K18, (s1 : (List Bool)), R, S19.wk R, f20, hn21, R⟩ (KM R)
 obtain ⟨o9, h, hk22⟩ := BI h; unfold i_markOf_b0 at h
 have hc9 : decide (v14 < (p1.length : Int)) = true := Jn2 (by omega)
 refine Je [2] R (Jb 1 R (Jq (Jv2 R hc9 (Js (Jp (Jq (Jv (Je [2, 1, 2] R (Ob h fun x16 hx16 h => Jf R (Jf2 g1 hx16 U22 Z2 R R R R) (Jl tv R R R R (Jc2 I2 R R (hvE ((g1.stp (S3.tr (S7.tr S19)) R R).gInt hx16))) (Jb 1 R (Ja [2, 2, 2, 1] R (Jn 2 R (Ob h fun x20 hx20 h => Jf R (Jf2 f20.rdc hx20 U70 Z4 R R hn21 R) (Ob h fun y212 hy212 h => Jk1 (κ := K18) (E := Ep.bool) 3 [] R R R R R R R R Z4 R R R R f20 hy212 fun w24 K25 S26 f27 => ⟨tv, ?_⟩)))))))))))))))
 have hn28 : x11.length = y212.length := hn21.trans (Jt2 hy212).2.2.2.symm
 refine Jo (Jz (Jp (Ja [2, 2] R (Jc 2 R ?_))))
 have hw9 : IntKind.wrap .i64 (v14 + 1) = v14 + 1 := wr1 hj9 (Jm2 hc9) hN9
 rw [hw9]
 have hc9 := Jm2 hc9
 cases h
 exact Jz1 fun a ha => ⟨k, _, Ja3 _, ⟨K25, v14 + 1, (y212 : (List Bool)), R, (S19.tr S26).wk R, f27, hn28, by omega, by omega, hk22⟩, (ha.mm R)⟩
 rintro _ w12 ⟨K13, s3, rfl, S14, f15, hn16, rfl⟩
 have h := hK10
 dsimp only [aft] at h
 refine Jp (Je [2, 2] R (Jb 2 R (Ju (Ja2 (l := [.tmp 4]) V46 (Jp2 R R) R ?_))))
 cases h
 exact ⟨(fun b => ren [(3, 2)] (K13 b)), aa, ab, (by simp only [hn16]), ((hE.stp (S3.tr (S7.tr S14)) R R).map (ren [(3, 2)]) R R), (f15.map (ren [(3, 2)]) R R)⟩
theorem slices_isNaN_int64_ok {w : World} {κ : Col} {p0 : Int}  {r : Bool} (h : slices_isNaN_int64 p0 = some r) : Ret Tryz.prog 146 [vi p0] w (fun v w' => ∃ (κ' : Col), v = .bool r ∧ Ent κ w κ' w') := by
 unfold slices_isNaN_int64 at h
 refine Ret.enter F146 R N146 R ?_
 dsimp only [envOf]
 have hE := Ent.refl κ w
 refine Je [2] R (Jb 1 R (Je [2, 2, 2, 2] R (Jb 4 R (Ju (Ja2 (l := [.tmp 2]) V146 (Jp2 R R) R ?_)))))
 cases h
 exact ⟨κ, R, hE⟩
theorem i_predsOf_ok {w : World} {κ : Col} {af ae ac ad} {p0 : Arena} (g0_0 : Rd (Rp.int .i64) κ w 0 af ae p0.Owner) (g0_1 : Rd (Rp.sl (Rp.int .i64)) κ w 0 ac ad p0.Next) {r : (List (List Int))} (h : i_predsOf p0 = some r) : Ret Tryz.prog 91 [.agg #[.slice af p0.Owner.length ae, .slice ac p0.Next.length ad]] w (fun v w' => ∃ (κ' : Col) (ra0 : Option Addr) (ru0 : Nat), v = .slice ra0 r.length ru0 ∧ Ent κ w κ' w' ∧ Oc (Ep.own E6 2) 22 κ' w' 2 ra0 ru0 r) := by
 unfold i_predsOf at h
 refine Ret.enter F91 R N91 R ?_
 dsimp only [envOf]
 have hE := Ent.refl κ w
 refine Je [1, 2] R (Jf1 (κ := κ) 2 R R R R R R R fun b1 w1 K2 S3 f4 => ⟨tv, Jb 1 R (Je [2, 1, 2, 1, 2] R (Jf R (Jb2 U37 R Z22 R R) (Jl tv R R R R (Jc2 I22 R R (hvE (f4.ld 0 R R))) (Jf R (Je2 U22 R R) (Ob h fun x11 hx11 h => Jl1 (κ := K2) (E := (Ep.own E6 2)) (z := (([] : List Int) : (List Int))) 3 R R R R R R R Y23 Tryzinfo22 R R R R R (fun _ _ _ => ⟨none, 0, R, Ow.nil⟩) (Ju2 hx11) fun aa ab w5 K6 S7 f8 => ⟨tv, Jb 1 R (Jq (Je [2, 1, 2, 2] R (Jf R (Jb2 U37 R Z23 R R) (Jl tv R R R R (Jc2 I23 R R (hvE ((f4.stp S7 R R).ld 1 R R))) (Jf R (Je2 U23 R R) (Jb 1 R ?_))))))⟩)))))⟩)
 have hN10 : (p0.Next.length : Int) ≤ 9223372036854775807 := g0_1.len_le
 refine Ob h fun q2 hq12 hK11 => ?_
 clear h
 refine Jx1 (fun L w' => ∃ κ', ∃ s3 : (List (List Int)), L = [(3, .slice aa x11.length ab)] ∧ Stp [3, 5] K6 w5 κ' w' ∧ Oc (Ep.own E6 2) 22 κ' w' 3 aa ab s3 ∧ x11.length = s3.length ∧ q2 = Sum.inr s3) ?_ ?_
 refine Jv (Jy1 (fun k L w' => ∃ κ' v15, ∃ s1 : (List (List Int)), L = [(3, .slice aa x11.length ab), (13, .slice ac p0.Next.length ad), (14, vi (p0.Next.length : Int)), (15, vi v15)] ∧ Stp [3, 5] K6 w5 κ' w' ∧ Oc (Ep.own E6 2) 22 κ' w' 3 aa ab s1 ∧ x11.length = s1.length ∧ 0 ≤ v15 ∧ Int.toNat ((p0.Next.length : Int) - v15) = k ∧ cntM (i_predsOf_b0 p0) k v15 s1 = some q2) ⟨_, _, ⟨K6, 0, (x11 : (List (List Int))), R, (Jx2 _ _).wk R, f8, R, (by decide), (by simp), hq12⟩, (KM R)⟩ ?_)
 rintro k _ w18 ⟨K19, v15, s1, rfl, S20, f21, hn22, hj10, hJ10, h⟩
 rcases k with _ | k
 have hk23 := h; obtain ⟨o10, h⟩ := ex_eq (Sum.inr (Sum.inl s1) : (List (List Int)) ⊕ (((List (List Int))) ⊕ ((List (List Int)))))
 have hc10 : decide (v15 < (p0.Next.length : Int)) = false := Jo2 (by omega)
 refine Je [2] R (Jb 1 R (Jq (Jw2 R hc10 (Jc1 (Jt (Jt ?_))))))
 cases h
 have h := hk23
 refine Jb1 ?_
 cases h
 exact Jw1 _ ⟨K19, (s1 : (List (List Int))), R, S20.wk R, f21, hn22, R⟩ (KM R)
 obtain ⟨o10, h, hk23⟩ := BI h; unfold i_predsOf_b0 at h
 have hc10 : decide (v15 < (p0.Next.length : Int)) = true := Jn2 (by omega)
 refine Je [2] R (Jb 1 R (Jq (Jv2 R hc10 (Js (Jp (Jq (Jv (Je [2, 2, 1, 2, 2] R (Jn 1 R (Ob h fun x18 hx18 h => Jf R (Jf2 g0_1 hx18 U23 Z22 R R R R) ?_))))))))))
 obtain ⟨ax18, ux18, f25, hl26⟩ := (g0_1.stp (S3.tr (S7.tr S20)) R R).gSl hx18
 refine Jl tv R R R R (Jc2 I22 R R (hvE hl26)) (Jb 2 R (Je [2, 2, 2] R (Jn 1 R (Jf R (Je2 U22 R R) (Jb 1 R ?_)))))
 have hN27 : (x18.length : Int) ≤ 9223372036854775807 := f25.len_le
 refine Ob h fun q5 hq29 hK28 => ?_
 clear h
 refine Jx1 (fun L w' => ∃ κ', ∃ s6 : (List (List Int)), L = [(3, .slice aa x11.length ab), (13, .slice ac p0.Next.length ad), (14, vi (p0.Next.length : Int)), (15, vi v15)] ∧ Stp [3, 5] K19 w18 κ' w' ∧ Oc (Ep.own E6 2) 22 κ' w' 3 aa ab s6 ∧ x11.length = s6.length ∧ q5 = Sum.inr s6) ?_ ?_
 refine Jv (Jy1 (fun k L w' => ∃ κ' v22, ∃ s4 : (List (List Int)), L = [(3, .slice aa x11.length ab), (4, vi v15), (13, .slice ac p0.Next.length ad), (14, vi (p0.Next.length : Int)), (15, vi v15), (20, .slice ax18 x18.length ux18), (21, vi (x18.length : Int)), (22, vi v22)] ∧ Stp [3, 5] K19 w18 κ' w' ∧ Oc (Ep.own E6 2) 22 κ' w' 3 aa ab s4 ∧ x11.length = s4.length ∧ 0 ≤ v22 ∧ Int.toNat ((x18.length : Int) - v22) = k ∧ cntM (i_predsOf_b2 v15 x18) k v22 s4 = some q5) ⟨_, _, ⟨K19, 0, (s1 : (List (List Int))), R, (Jx2 _ _).wk R, f21, hn22, (by decide), (by simp), hq29⟩, (KM R)⟩ ?_)
 rintro k _ w35 ⟨K36, v22, s4, rfl, S37, f38, hn39, hj27, hJ27, h⟩
 rcases k with _ | k
 have hk40 := h; obtain ⟨o27, h⟩ := ex_eq (Sum.inr (Sum.inl s4) : (List (List Int)) ⊕ (((List (List Int))) ⊕ ((List (List Int)))))
 have hc27 : decide (v22 < (x18.length : Int)) = false := Jo2 (by omega)
 refine Je [2] R (Jb 1 R (Jq (Jw2 R hc27 (Jc1 (Jt (Jt ?_))))))
 cases h
 have h := hk40
 refine Jb1 ?_
 cases h
 exact Jw1 _ ⟨K36, (s4 : (List (List Int))), R, S37.wk R, f38, hn39, R⟩ (KM R)
 obtain ⟨o27, h, hk40⟩ := BI h; unfold i_predsOf_b2 at h
 have hc27 : decide (v22 < (x18.length : Int)) = true := Jn2 (by omega)
 refine Je [2] R (Jb 1 R (Jq (Jv2 R hc27 (Js (Jp (Jq (Jv (Je [2, 1, 2] R (Ob h fun x24 hx24 h => Jf R (Jf2 f25 hx24 U22 Z2 R R R R) (Jl tv R R R R (Jc2 I2 R R (hvE ((f25.stp S37 R R).gInt hx24))) (Jb 1 R (Ja [2, 2, 2, 2, 2, 1, 2, 1, 1, 2, 1] R (Jn 4 R (Ob h fun x30 hx30 h => Jf R (Jf2 f38.rdc hx30 U23 Z22 R R hn39 R) ?_))))))))))))))
 obtain ⟨ax30, ux30, f42, hl43⟩ := f38.rdc.gSl hx30
 refine Jl tv R R R R (Jc2 I22 R R (hvE hl43)) (Jn 1 R (Jn1 (κ := K36) (E := E6) 4 [] (parts := [(0, .tmp 32)]) (cells := [vi v15]) (xs := ([v15] : List Int)) R R R R R R Y22 Tryzinfo2 R R R R R R R R R R ⟨[vi v15], [], Zl K36 w35 [], Zl K36 w35 [], R, Zl.sp (l1 := []) (l2 := []) R, Zl.sr (l1 := []) (l2 := []), R, R⟩ fun ak ah w44 K45 S46 f47 => ⟨tv, ?_⟩))
 have f48 := f38.stp S46 R R
 obtain ⟨K49, S50, f51, f52⟩ := f48.borrow hx30 (hl43 _ (Stp.ag S46 R)) 5 R R
 refine Ob h fun x34 hx34 h => Jm1 (κ := K49) (E := E6) 5 [] R R R R R R R R R Y22 Tryzinfo2 R R R R f51 (Sl.srcP (pu_int _) (f47.stp S50 R R).rdc) sy_false hx34 R fun aj ai w54 K55 S56 f57 => ⟨tv, Ob h fun x35 hx35 h => Jf R (Jf2 f48.rdc hx35 U23 Z22 R R hn39 R) (Ob h fun y280 hy280 h => WO.stH (κ := K55) (E := (Ep.own E6 2)) 3 [5] R R R R R R R R Z22 R ⟨_, _, R, f57⟩ R R (f52.stp S56 R R) hy280 fun w59 K60 S61 f62 => ⟨tv, ?_⟩)⟩
 have hn63 : x11.length = y280.length := hn39.trans (Jt2 hy280).2.2.2.symm
 refine Jo (Jz (Jp (Ja [2, 2] R (Jc 2 R ?_))))
 have hw27 : IntKind.wrap .i64 (v22 + 1) = v22 + 1 := wr1 hj27 (Jm2 hc27) hN27
 rw [hw27]
 have hc27 := Jm2 hc27
 cases h
 exact Jz1 fun a ha => ⟨k, _, Ja3 _, ⟨K60, v22 + 1, (y280 : (List (List Int))), R, (S37.tr (S46.tr (S50.tr (S56.tr S61)))).wk R, f62, hn63, by omega, by omega, hk40⟩, (ha.mm R)⟩
 rintro _ w30 ⟨K31, s6, rfl, S32, f33, hn34, rfl⟩
 have h := hK28
 dsimp only [aft] at h
 refine Jz (Jp (Ja [2, 2] R (Jc 2 R ?_)))
 have hw10 : IntKind.wrap .i64 (v15 + 1) = v15 + 1 := wr1 hj10 (Jm2 hc10) hN10
 rw [hw10]
 have hc10 := Jm2 hc10
 cases h
 exact Jz1 fun a ha => ⟨k, _, Ja3 _, ⟨K31, v15 + 1, (s6 : (List (List Int))), R, (S20.tr S32).wk R, f33, hn34, by omega, by omega, hk23⟩, (ha.mm R)⟩
 rintro _ w13 ⟨K14, s3, rfl, S15, f16, hn17, rfl⟩
 have h := hK11
 dsimp only [aft] at h
 refine Jp (Je [2, 2] R (Jb 2 R (Ju (Ja2 (l := [.tmp 2]) V91 (Jp2 R R) R ?_))))
 cases h
 exact ⟨(fun b => ren [(3, 2)] (K14 b)), aa, ab, (by simp only [hn17]), ((hE.stp (S3.tr (S7.tr S15)) R R).map (ren [(3, 2)]) R R), (f16.map (ren [(3, 2)]) R R)⟩
end Go.Proofs.YtmiilifclnanlaaGreat
