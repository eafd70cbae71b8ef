/- The walks, part 6. By program. -/
import Derived.Test.YtcmamhmpoinmnaaGreatFns1BA
import Derived.Test.YtcmamhmpoinmnaaGreatFns2BA
set_option linter.unusedVariables false
set_option linter.unusedSimpArgs false
namespace Go.Proofs.YtcmamhmpoinmnaaGreat
open Go Go.Wk Go.Proofs
set_option maxRecDepth 100000
set_option maxHeartbeats 1000000
theorem l_szRival_ok {w : World} {κ : Col} {ac aa ab ad} {p0 : Rival} {p1 : Int} (g0_0 : Rd (Rp.int .i64) κ w 0 ac aa p0.In) (g0_1 : Rd (Rp.sl (Rp.int .i64)) κ w 0 ab ad p0.Next) {r : Int} (h : l_szRival p0 p1 = some r) : Ret Tryz.prog 25 [.agg #[.slice ac p0.In.length aa, .slice ab p0.Next.length ad], vi p1] w (fun v w' => ∃ (κ' : Col), v = vi r ∧ Ent κ w κ' w') := by
 unfold l_szRival at h
 refine Ret.enter F25 R N25 R ?_
 dsimp only [envOf]
 have hE := Ent.refl κ w
 refine Je [1, 2] R (Jf1 (κ := κ) 2 R R R R R R R fun b2 w1 K2 S3 f4 => ⟨tv, Jb 1 R (Je [2, 1, 2, 1, 2] R (Jf R (Jb2 U47 R Z40 R R) (Jl tv R R R R (Jc2 I40 R R (hvE (f4.ld 0 R R))) (Jn 1 R (Ob h fun x8 hx8 h => Jh R R R C58 (l_szInt64S_ok (κ := fun b => mp [] 0 (K2 b)) (Jl2 (g0_0.stp S3 R R) (mp [] 0) R R) hx8) ?_)))))⟩)
 rintro _ w6 ⟨k7, rfl, e8⟩
 obtain ⟨K9, S10, m11⟩ := Ji e8 3 R
 refine ⟨tv, Jb 1 R (Jq (Je [2, 2] R (Jb 2 R ?_)))⟩
 revert h
 cases ht13 : decide (x8 < 0)
 refine JF fun h => Jy R (Js (Jp (Je [2, 1, 2, 1, 2] R (Jf R (Jb2 U47 R Z24 R R) (Jl tv R R R R (Jc2 I24 R R (hvE ((f4.stp S10 R R).ld 1 R R))) (Jn 1 R (Ob h fun x14 hx14 h => Jh R R R C47 (l_szInt64SS_ok (κ := fun b => mp [] 0 (K9 b)) (Jl2 (g0_1.stp (S3.tr S10) R R) (mp [] 0) R R) hx14) ?_)))))))
 rintro _ w17 ⟨k18, rfl, e19⟩
 obtain ⟨K20, S21, m22⟩ := Ji e19 5 R
 refine ⟨tv, Jb 1 R (Jq (Je [2, 2] R (Jb 2 R ?_)))⟩
 revert h
 cases ht24 : decide (x14 < 0)
 refine JF fun h => Jy R (Js (Jp (Je [2, 2] R (Jb 2 R (Ju (Ja2 (l := [.tmp 4]) V25 (Jp2 R R) R ?_))))))
 cases h
 exact ⟨K20, R, (hE.stp (S3.tr (S10.tr S21)) R R)⟩
 refine JT fun h => Jx R (Je [2] R (Jb 1 R (Ju (Jw (Ja2 (l := [.tmp 4]) V25 (Jp2 R R) R ?_)))))
 cases h
 exact ⟨K20, R, (hE.stp (S3.tr (S10.tr S21)) R R)⟩
 refine JT fun h => Jx R (Je [2] R (Jb 1 R (Ju (Jw (Ja2 (l := [.tmp 4]) V25 (Jp2 R R) R ?_)))))
 cases h
 exact ⟨K9, R, (hE.stp (S3.tr S10) R R)⟩
theorem s_l26Joined_ok {w : World} {κ : Col} {az aJ aE aG} {p0 : Det} {aB aA aH aK} {p1 : Det} {p2 : Int} (g0_0 : Rd (Rp.sl (Rp.int .i64)) κ w 0 az aJ p0.Next) (g0_1 : Rd Pair.rp κ w 0 aE aG p0.Pairs) (g1_0 : Rd (Rp.sl (Rp.int .i64)) κ w 0 aB aA p1.Next) (g1_1 : Rd Pair.rp κ w 0 aH aK p1.Pairs) {r : Det × Bool} (h : s_l26Joined p0 p1 p2 = some r) : Ret Tryz.prog 139 [.agg #[.slice az p0.Next.length aJ, .slice aE p0.Pairs.length aG], .agg #[.slice aB p1.Next.length aA, .slice aH p1.Pairs.length aK], vi p2] w (fun v w' => ∃ (κ' : Col) (ra0 : Option Addr) (ru0 : Nat) (ra1 : Option Addr) (ru1 : Nat), v = .tuple #[.agg #[.slice ra0 r.1.Next.length ru0, .slice ra1 r.1.Pairs.length ru1], .bool r.2] ∧ Ent κ w κ' w' ∧ Oc (Ep.own E6 2) 40 κ' w' 2 ra0 ru0 r.1.Next ∧ Oc Pair.ep92 92 κ' w' 3 ra1 ru1 r.1.Pairs) := by
 unfold s_l26Joined at h
 refine Ret.enter F139 R N139 R ?_
 dsimp only [envOf]
 have hE := Ent.refl κ w
 refine Je [1, 1, 1, 2] R (Jf1 (κ := κ) 2 R R R R R R R fun b3 w1 K2 S3 f4 => ⟨tv, Jf1 (κ := K2) 3 R R R R R R R fun b4 w5 K6 S7 f8 => ⟨tv, Jg1 (κ := K6) 4 R R R R R X94 R fun b6 w9 K10 S11 f12 => ⟨tv, Jb 1 R (Je [1, 1, 2] R (Jn1 (κ := K10) (E := E6) 5 [] (parts := [(0, .const (vi 0)), (1, .const (vi 0))]) (cells := [vi 0, vi 0]) (xs := ([0, 0] : List Int)) R R R R R R Y40 Tryzinfo2 R R R R R R R R R R ⟨[vi 0], [vi 0], Zl K10 w9 [], Zl K10 w9 [], R, Zl.sp (l1 := []) (l2 := []) R, Zl.sr (l1 := []) (l2 := []), R, ⟨[vi 0], [], Zl K10 w9 [], Zl K10 w9 [], R, Zl.sp (l1 := []) (l2 := []) R, Zl.sr (l1 := []) (l2 := []), R, R⟩⟩ fun aI aF w13 K14 S15 f16 => ⟨tv, Jn1 (κ := K14) (E := (Ep.own E6 2)) 6 [5] (parts := [(0, .tmp 16)]) (cells := [.slice aI ([0, 0] : List Int).length aF]) (xs := ([([0, 0] : List Int)] : List (List Int))) R R R R R R Y24 Tryzinfo40 R R R R R R R R R R ⟨[.slice aI ([0, 0] : List Int).length aF], [], Zl K14 w13 [5], Zl K14 w13 [], R, Zl.sp (l1 := [5]) (l2 := []) R, Zl.sr (l1 := [5]) (l2 := []), ⟨_, _, R, f16⟩, R⟩ fun aS aP w17 K18 S19 f20 => ⟨tv, Jb 1 R (Je [2, 1, 1] R (Jf R (rn_build (parts := []) (cells := [.slice none 0 0, .slice none 0 0]) R R (by kernel_rfl)) (Jg1 (κ := K18) 7 R R R R R X94 R fun b9 w21 K22 S23 f24 => ⟨tv, Jj1 (κ := K22) 7 (vc := [.slice none 0 0, .slice none 0 0]) R R R R R R R Z94 R R f24 R fun w25 S26 f27 => ⟨tv, Jd (Jq (Je [2] R (Jb 1 R (Ob h fun q2 hq30 hK29 => ?_))))⟩⟩)))⟩⟩))⟩⟩⟩)
 clear h
 refine Jx1 (fun L w' => ∃ κ', ∃ s3 : (List (List Int)) × Int × (List (List Int)), ∃ ay av aa ab, L = [(3, .pointer (some ⟨b3, 0, none⟩)), (4, .pointer (some ⟨b4, 0, none⟩)), (6, .pointer (some ⟨b6, 0, none⟩)), (8, .slice ay s3.1.length av), (9, .pointer (some ⟨b9, 0, none⟩))] ∧ Stp [6, 7, 8, 9, 10, 12, 13] K22 w25 κ' w' ∧ Oc (Ep.own E6 2) 40 κ' w' 6 ay av s3.1 ∧ Oc (Ep.own E6 2) 40 κ' w' 8 aa ab s3.2.2 ∧ Bc κ' w' 7 b9 94 [.slice aa s3.2.2.length ab, .slice none 0 0] ∧ q2 = Sum.inr s3) ?_ ?_
 refine Jv (Jy1 (fun k L w' => ∃ κ', ∃ s1 : (List (List Int)) × Int × (List (List Int)), ∃ al ai au ar, L = [(2, vi p2), (3, .pointer (some ⟨b3, 0, none⟩)), (4, .pointer (some ⟨b4, 0, none⟩)), (6, .pointer (some ⟨b6, 0, none⟩)), (8, .slice al s1.1.length ai), (9, .pointer (some ⟨b9, 0, none⟩)), (10, vi s1.2.1)] ∧ Stp [6, 7, 8, 9, 10, 12, 13] K22 w25 κ' w' ∧ Oc (Ep.own E6 2) 40 κ' w' 6 al ai s1.1 ∧ Oc (Ep.own E6 2) 40 κ' w' 8 au ar s1.2.2 ∧ Bc κ' w' 7 b9 94 [.slice au s1.2.2.length ar, .slice none 0 0] ∧ whileM (s_l26Joined_b0 p0 p1 p2) k s1 = some q2) ⟨_, _, ⟨K22, ((([([0, 0] : List Int)] : List (List Int)) : (List (List Int))), (0 : Int), (([] : List (List Int)) : (List (List Int)))), aS, aP, none, 0, R, (Jx2 _ _).wk R, (f20.stp (S23.tr S26) R R), Ow.nil, f27, hq30⟩, (KM R)⟩ ?_)
 rintro k _ w37 ⟨K38, s1, al, ai, au, ar, rfl, S39, f40, f41, f42, h⟩
 rcases k with _ | k
 cases h
 obtain ⟨o28, h, hk44⟩ := BI h; unfold s_l26Joined_b0 at h
 refine Jq (Je [2, 2, 2, 2] R (Jn 2 R (Jf R (Je2 U24 R R) (Jb 1 R ?_))))
 revert h
 cases ht45 : decide (s1.2.1 < (s1.1.length : Int))
 refine JF fun h => Jy R (Jc1 (Jt (Jt ?_)))
 cases h
 have h := hk44
 refine Jb1 ?_
 cases h
 exact Jw1 _ ⟨K38, ((s1.1 : (List (List Int))), (s1.2.1 : Int), (s1.2.2 : (List (List Int)))), al, ai, au, ar, R, S39.wk R, f40, f41, f42, R⟩ (KM R)
 refine JT fun h => Jx R (Js (Jp (Jq (Jv (Je [1, 2] R (Jo1 (κ := K38) (E := E6) 9 R R R R R Y40 Tryzinfo2 R fun aQ aR w46 K47 S48 f49 => ⟨tv, Jb 1 R (Jq (Je [2] R (Jb 1 R (Ob h fun _ hr50 h => ?_))))⟩))))))
 have hN50 := rng_ok hr50
 refine Ob h fun q5 hq52 hK51 => ?_
 clear h
 refine Jx1 (fun L w' => ∃ κ', ∃ s6 : (List (List Int)) × (List Int), ∃ aq ap af ad, L = [(2, vi p2), (3, .pointer (some ⟨b3, 0, none⟩)), (4, .pointer (some ⟨b4, 0, none⟩)), (6, .pointer (some ⟨b6, 0, none⟩)), (8, .slice aq s6.1.length ap), (9, .pointer (some ⟨b9, 0, none⟩)), (10, vi s1.2.1), (11, .slice af s6.2.length ad)] ∧ Stp [6, 9, 12, 13] K47 w46 κ' w' ∧ Oc (Ep.own E6 2) 40 κ' w' 6 aq ap s6.1 ∧ Oc E6 2 κ' w' 9 af ad s6.2 ∧ q5 = Sum.inr s6) ?_ ?_
 refine Jv (Jy1 (fun k L w' => ∃ κ' v12, ∃ s4 : (List (List Int)) × (List Int), ∃ ah ak aj ac, L = [(2, vi p2), (3, .pointer (some ⟨b3, 0, none⟩)), (4, .pointer (some ⟨b4, 0, none⟩)), (6, .pointer (some ⟨b6, 0, none⟩)), (8, .slice ah s4.1.length ak), (9, .pointer (some ⟨b9, 0, none⟩)), (10, vi s1.2.1), (11, .slice aj s4.2.length ac), (12, vi v12)] ∧ Stp [6, 9, 12, 13] K47 w46 κ' w' ∧ Oc (Ep.own E6 2) 40 κ' w' 6 ah ak s4.1 ∧ Oc E6 2 κ' w' 9 aj ac s4.2 ∧ 0 ≤ v12 ∧ Int.toNat (p2 - v12) = k ∧ cntM (s_l26Joined_b2 p0 p1 s1) k v12 s4 = some q5) ⟨_, _, ⟨K47, 0, ((s1.1 : (List (List Int))), (([] : List Int) : (List Int))), al, ai, aQ, aR, R, (Jx2 _ _).wk R, (f40.stp S48 R R), f49, (by decide), (by simp), hq52⟩, (KM R)⟩ ?_)
 rintro k _ w58 ⟨K59, v12, s4, ah, ak, aj, ac, rfl, S60, f61, f62, hj50, hJ50, h⟩
 rcases k with _ | k
 have hk64 := h; obtain ⟨o50, h⟩ := ex_eq (Sum.inr (Sum.inl s4) : (Det × Bool) ⊕ (((List (List Int)) × (List Int)) ⊕ ((List (List Int)) × (List Int))))
 have hc50 : decide (v12 < p2) = false := Jo2 (by omega)
 refine Jq (Je [2, 2, 2] R (Jb 3 R (Jw2 R hc50 (Jc1 (Jt (Jt ?_))))))
 cases h
 have h := hk64
 refine Jb1 ?_
 cases h
 exact Jw1 _ ⟨K59, ((s4.1 : (List (List Int))), (s4.2 : (List Int))), ah, ak, aj, ac, R, S60.wk R, f61, f62, R⟩ (KM R)
 obtain ⟨o50, h, hk64⟩ := BI h; unfold s_l26Joined_b2 at h
 have hc50 : decide (v12 < p2) = true := Jn2 (by omega)
 refine Jq (Je [2, 2, 2] R (Jb 3 R (Jv2 R hc50 (Js (Jp (Jq (Jv (Jq (Js1 (κ := K59) [0, 2, 6] none [(0, 2), (2, 2), (3, 2), (4, 2), (10, 2), (1, 0), (5, 0), (6, 2), (7, 0), (8, 2), (9, 0), (11, 2), (12, 0), (13, 2)] [] (by kernel_rfl) (by kernel_rfl) fun w66 S65 => Jf R (Jb2 U94 R Z24 R R) (Jn 2 R (Ob h fun x35 hx35 h => Jf R (Jf2 f61.rdc hx35 U24 Z40 R R R R) (Jn 1 R (Jg R (Jc2 I24 R R (hvC ((f4.stp (S7.tr (S11.tr (S15.tr (S19.tr (S23.tr (S26.tr (S39.tr (S48.tr (S60.tr S65))))))))) R R).ld 0 R R) R)) ?_)))))))))))))
 have f68 := f61.stp S65 R R
 obtain ⟨ax35, ux35, f69, hl70⟩ := f68.rdc.gSl hx35
 refine Jg R (Jc2 I40 R R (hvC hl70 R)) (Ob h fun x37 hx37 h => Jf R (Jf2 f69 hx37 U40 Z2 R R R R) (Jg R (Jc2 I2 R R (hvC (f69.gInt hx37) R)) (Ob h fun x39 hx39 h => Jf R (Jf2 g0_0 hx39 U24 Z40 R R R R) ?_)))
 obtain ⟨ax39, ux39, f72, hl73⟩ := (g0_0.stp (S3.tr (S7.tr (S11.tr (S15.tr (S19.tr (S23.tr (S26.tr (S39.tr (S48.tr (S60.tr S65)))))))))) R R).gSl hx39
 refine Jg R (Jc2 I40 R R (hvC hl73 R)) (Ob h fun x42 hx42 h => Jf R (Jf2 f72 hx42 U40 Z2 R R R R) (Jg R (Jc2 I2 R R (hvC (f72.gInt hx42) R)) (Jn 1 R (Jt1 (Jd (Jq (Js1 (κ := K59) [0, 3, 6] none [(0, 2), (2, 2), (3, 2), (4, 2), (10, 2), (1, 0), (5, 0), (6, 2), (7, 0), (8, 2), (9, 0), (11, 2), (12, 0), (13, 2)] [] (by kernel_rfl) (by kernel_rfl) fun w75 S74 => Jf R (Jb2 U94 R Z24 R R) (Jn 2 R (Ob h fun x48 hx48 h => Jf R (Jf2 f68.rdc hx48 U24 Z40 R R R R) (Jn 1 R (Jg R (Jc2 I24 R R (hvC ((f8.stp (S11.tr (S15.tr (S19.tr (S23.tr (S26.tr (S39.tr (S48.tr (S60.tr (S65.tr S74))))))))) R R).ld 0 R R) R)) ?_)))))))))))
 have f77 := f68.stp S74 R R
 obtain ⟨ax48, ux48, f78, hl79⟩ := f77.rdc.gSl hx48
 refine Jg R (Jc2 I40 R R (hvC hl79 R)) (Ob h fun x50 hx50 h => Jf R (Jf2 f78 hx50 U40 Z2 R R R R) (Jg R (Jc2 I2 R R (hvC (f78.gInt hx50) R)) (Ob h fun x52 hx52 h => Jf R (Jf2 g1_0 hx52 U24 Z40 R R R R) ?_)))
 obtain ⟨ax52, ux52, f81, hl82⟩ := (g1_0.stp (S3.tr (S7.tr (S11.tr (S15.tr (S19.tr (S23.tr (S26.tr (S39.tr (S48.tr (S60.tr (S65.tr S74))))))))))) R R).gSl hx52
 refine Jg R (Jc2 I40 R R (hvC hl82 R)) (Ob h fun x55 hx55 h => Jf R (Jf2 f81 hx55 U40 Z2 R R R R) (Jg R (Jc2 I2 R R (hvC (f81.gInt hx55) R)) (Jn 1 R (Jt1 (Jd (Je [2, 2, 2, 1, 2] R (Jn 3 R (Ob h fun x60 hx60 h => Jh R R R C63 (s_l26Place_ok (κ := fun b => mp [] 0 (K59 b)) (Jl2 f77.rdc (mp [] 0) R R) hx60) ?_))))))))
 rintro _ w83 ⟨k84, rfl, e85⟩
 obtain ⟨K86, S87, m88⟩ := Ji e85 10 R
 refine ⟨tv, Jb 1 R (Jq (Je [2, 2] R (Jb 2 R (Ob h fun q7 h hK90 => Jx1 (fun L w' => ∃ κ' ao an, L = [(2, vi p2), (3, .pointer (some ⟨b3, 0, none⟩)), (4, .pointer (some ⟨b4, 0, none⟩)), (6, .pointer (some ⟨b6, 0, none⟩)), (8, .slice ao q7.1.length an), (9, .pointer (some ⟨b9, 0, none⟩)), (10, vi s1.2.1), (11, .slice aj s4.2.length ac), (12, vi v12), (15, vi q7.2)] ∧ Stp [6, 12, 13] K86 w83 κ' w' ∧ Oc (Ep.own E6 2) 40 κ' w' 6 ao an q7.1) ?_ ?_))))⟩
 revert h
 cases ht95 : decide (x60 < 0)
 refine JF fun h => Jy R (Js ?_)
 cases h
 exact Jw1 _ ⟨K86, ah, ak, R, (Jx2 _ _).wk R, (f77.stp S87 R R)⟩ (KM R)
 refine JT fun h => Jx R (Je [2, 2, 2] R (Jn 1 R (Jf R (Je2 U24 R R) (Jb 1 R (Ja [2, 2, 2, 1, 1, 1, 2] R (Jn 3 R (Jn1 (κ := K86) (E := E6) 12 [] (parts := [(0, .tmp 66), (1, .tmp 67)]) (cells := [vi x42, vi x55]) (xs := ([x42, x55] : List Int)) R R R R R R Y40 Tryzinfo2 R R R R R R R R R R ⟨[vi x42], [vi x55], Zl K86 w83 [], Zl K86 w83 [], R, Zl.sp (l1 := []) (l2 := []) R, Zl.sr (l1 := []) (l2 := []), R, ⟨[vi x55], [], Zl K86 w83 [], Zl K86 w83 [], R, Zl.sp (l1 := []) (l2 := []) R, Zl.sr (l1 := []) (l2 := []), R, R⟩⟩ fun aD aC w96 K97 S98 f99 => ⟨tv, Jn1 (κ := K97) (E := (Ep.own E6 2)) 13 [12] (parts := [(0, .tmp 68)]) (cells := [.slice aD ([x42, x55] : List Int).length aC]) (xs := ([([x42, x55] : List Int)] : List (List Int))) R R R R R R Y24 Tryzinfo40 R R R R R R R R R R ⟨[.slice aD ([x42, x55] : List Int).length aC], [], Zl K97 w96 [12], Zl K97 w96 [], R, Zl.sp (l1 := [12]) (l2 := []) R, Zl.sr (l1 := [12]) (l2 := []), ⟨_, _, R, f99⟩, R⟩ fun aY aU w100 K101 S102 f103 => ⟨tv, Ob h fun x70 hx70 h => Jm1 (κ := K101) (E := (Ep.own E6 2)) 6 [13] R R R R R R R R R Y24 Tryzinfo40 R R R R (f77.stp (S87.tr (S98.tr S102)) R R) f103.src (sy_one R) hx70 R fun aN aO w105 K106 S107 f108 => ⟨tv, Jc 1 R ?_⟩⟩⟩)))))))
 cases h
 exact Jw1 _ ⟨K106, aN, aO, R, (S98.tr (S102.tr S107)).wk R, f108⟩ (KM R)
 rintro _ w91 ⟨K92, ao, an, rfl, S93, f94⟩
 have h := hK90
 refine Jp (Ja [2, 2, 1, 1, 2] R (Jn 2 R (Jn1 (κ := K92) (E := E6) 12 [] (parts := [(0, .tmp 72)]) (cells := [vi q7.2]) (xs := ([q7.2] : List Int)) R R R R R R Y40 Tryzinfo2 R R R R R R R R R R ⟨[vi q7.2], [], Zl K92 w91 [], Zl K92 w91 [], R, Zl.sp (l1 := []) (l2 := []) R, Zl.sr (l1 := []) (l2 := []), R, R⟩ fun ba aV w110 K111 S112 f113 => ⟨tv, Ob h fun x74 hx74 h => Jm1 (κ := K111) (E := E6) 9 [] R R R R R R R R R Y40 Tryzinfo2 R R R R (f62.stp (S65.tr (S74.tr (S87.tr (S93.tr S112)))) R R) (Sl.srcP (pu_int _) f113.rdc) sy_false hx74 R fun aL aM w115 K116 S117 f118 => ⟨tv, Jc 1 R (Jz (Jp (Ja [2, 2, 2] R (Jc 3 R ?_))))⟩⟩)))
 have hw50 : IntKind.wrap .i64 (v12 + 1) = v12 + 1 := wr1 hj50 (Jm2 hc50) hN50
 rw [hw50]
 have hc50 := Jm2 hc50
 cases h
 exact Jz1 fun a ha => ⟨k, _, Ja3 _, ⟨K116, v12 + 1, ((q7.1 : (List (List Int))), (x74 : (List Int))), ao, an, aL, aM, R, (S60.tr (S65.tr (S74.tr (S87.tr (S93.tr (S112.tr S117)))))).wk R, (f94.stp (S112.tr S117) R R), f118, by omega, by omega, hk64⟩, (ha.mm R)⟩
 rintro _ w53 ⟨K54, s6, aq, ap, af, ad, rfl, S55, f56, f57, rfl⟩
 have h := hK51
 dsimp only [aft] at h
 refine Jp (Jq (Je [2, 2, 2] R (Jn 1 R (Jf R (Je2 U24 R R) (Jb 1 R ?_)))))
 revert h
 cases ht120 : decide (48 < (s6.1.length : Int))
 refine JF fun h => Jy R (Js (Jp (Ja [2, 1, 2, 1, 1, 2, 1] R (Jf R (Jb2 U94 R Z24 R R) ?_))))
 have f126 := f42.stp (S48.tr S55) R R
 refine Jl tv R R R R (Jc2 I24 R R (hvE (f126.ld 0 R R))) (Jn 1 R (Jn1 (κ := K54) (E := (Ep.own E6 2)) 10 [9] (parts := [(0, .tmp 81)]) (cells := [.slice af s6.2.length ad]) (xs := ([s6.2] : List (List Int))) R R R R R R Y24 Tryzinfo40 R R R R R R R R R R ⟨[.slice af s6.2.length ad], [], Zl K54 w53 [9], Zl K54 w53 [], R, Zl.sp (l1 := [9]) (l2 := []) R, Zl.sr (l1 := [9]) (l2 := []), ⟨_, _, R, f57⟩, R⟩ fun aT bc w127 K128 S129 f130 => ⟨tv, Ob h fun x83 hx83 h => Jm1 (κ := K128) (E := (Ep.own E6 2)) 8 [10] R R R R R R R R R Y24 Tryzinfo40 R R R R (f41.stp (S48.tr (S55.tr S129)) R R) f130.src (sy_one R) hx83 R fun ax aw w132 K133 S134 f135 => ⟨tv, Jf R (Jb2 U94 R Z24 R R) (Ji1 (κ := K133) 7 (off := 0) (vc := [.slice ax x83.length aw]) (cs' := [.slice ax x83.length aw, .slice none 0 0]) R R R R R R R Z24 R R (f126.stp (S129.tr S134) R R) R R fun w137 S138 f139 => ⟨tv, Jo (Jz (Jp (Ja [2, 2, 2] R (Jc 3 R ?_))))⟩)⟩⟩))
 cases h
 exact Jz1 fun a ha => ⟨k, _, Ja3 _, ⟨K133, ((s6.1 : (List (List Int))), ((IntKind.i64.wrap (s1.2.1 + 1)) : Int), (x83 : (List (List Int)))), aq, ap, ax, aw, R, (S39.tr (S48.tr (S55.tr (S129.tr (S134.tr S138))))).wk R, (f56.stp (S129.tr (S134.tr S138)) R R), (f135.stp S138 R R), f139, hk44⟩, (ha.mm R)⟩
 refine JT fun h => Jx R (Je [2, 1, 2] R (Jf R (rn_build (parts := []) (cells := [.slice none 0 0, .slice none 0 0]) R R (by kernel_rfl)) (Jj1 (κ := K54) 4 (vc := [.slice none 0 0, .slice none 0 0]) R R R R R R R Z94 R R (f12.stp (S15.tr (S19.tr (S23.tr (S26.tr (S39.tr (S48.tr S55)))))) R R) R fun w122 S123 f124 => ⟨tv, Jb 1 R (Ju (Jw (Ja1 (Jw (Jw ?_)))))⟩)))
 cases h
 obtain rfl := Option.some.inj hk44
 have h := hK29
 dsimp only [aft] at h
 refine Ja1 (Jq2 (Jw (Ja2 (l := [.cell 6 94, .tmp 7]) V139 (res_cellA R f124 I94 Z94 R (Jp2 R R)) R ?_)))
 cases h
 exact ⟨K54, none, 0, none, 0, R, (hE.stp (S3.tr (S7.tr (S11.tr (S15.tr (S19.tr (S23.tr (S26.tr (S39.tr (S48.tr (S55.tr S123)))))))))) R R), Ow.nil, Ow.nil⟩
 rintro _ w31 ⟨K32, s3, ay, av, aa, ab, rfl, S33, f34, f35, f36, rfl⟩
 have h := hK29
 dsimp only [aft] at h
 refine Jp (Jq (Js1 (κ := K32) [2, 3] none [(0, 2), (2, 2), (4, 2), (6, 2), (1, 0), (5, 0), (3, 1), (7, 1), (8, 1), (9, 2), (10, 1)] [] (by kernel_rfl) (by kernel_rfl) fun w143 S142 => Jf R (Jb2 U94 R Z79 R R) (Jn 1 R (Jf R (Jb2 U94 R Z79 R R) (Jn 1 R (Jg R (Jc2 I79 R R (hvC ((f4.stp (S7.tr (S11.tr (S15.tr (S19.tr (S23.tr (S26.tr (S33.tr S142))))))) R R).ld 1 R R) R)) (Jg R (Jc2 I79 R R (hvC ((f8.stp (S11.tr (S15.tr (S19.tr (S23.tr (S26.tr (S33.tr S142)))))) R R).ld 1 R R) R)) (Ob h fun x88 hx88 h => ?_))))))))
 have f147 := f34.stp S142 R R
 refine Jh R R R C66 (s_l26Pairs_ok (κ := fun b => mp [] 0 (K32 b)) (Jl2 (g0_1.stp (S3.tr (S7.tr (S11.tr (S15.tr (S19.tr (S23.tr (S26.tr (S33.tr S142)))))))) R R) (mp [] 0) R R) (Jl2 f147.rdc (mp [] 0) R R) hx88) ?_
 rintro _ w148 ⟨k149, aW, aZ, rfl, e150, f151⟩
 obtain ⟨K152, S153, m154⟩ := Ji e150 9 R
 refine ⟨(S153.cl R), Ob h fun x92 hx92 h => Jh R R R C66 (s_l26Pairs_ok (κ := fun b => mp [] 0 (K152 b)) (Jl2 (g1_1.stp (S3.tr (S7.tr (S11.tr (S15.tr (S19.tr (S23.tr (S26.tr (S33.tr (S142.tr S153))))))))) R R) (mp [] 0) R R) (Jl2 (f147.stp S153 R R).rdc (mp [] 0) R R) hx92) ?_⟩
 rintro _ w159 ⟨k160, aX, bb, rfl, e161, f162⟩
 obtain ⟨K163, S164, m165⟩ := Ji e161 12 R
 have S001 := (S153.tr S164)
 refine ⟨(S001.cl R), Ob h fun x93 hx93 h => Jm1 (κ := K163) (E := Pair.ep92) 11 [14] R R R R R R R R R Y79 Tryzinfo92 R R R R ((f151.mx Pair.no92 m154 R (R : 9 + 2 = 11)).stp S164 R R) (f162.mx Pair.no92 m165 R (R : 12 + 2 = 14)).src (sy_one R) hx93 R fun am ae w169 K170 S171 f172 => ⟨((S001.tr S171).cl R), Jf R (Jb2 U94 R Z79 R R) (Ji1 (κ := K170) 7 (off := 1) (vc := [.slice am x93.length ae]) (cs' := [.slice aa s3.2.2.length ab, .slice am x93.length ae]) R R R R R R R Z79 R R (f36.stp (S142.tr (S153.tr (S164.tr S171))) R R) R R fun w174 S175 f176 => ⟨((S001.tr (S171.tr S175)).cl R), Jt1 (Jd (Je [1, 1, 2] R (Jl tv R R R R (Jd2 (cs := [.slice aa s3.2.2.length ab, .slice am x93.length ae]) I94 Z94 R R R (haE f176.cells)) (Jj1 (κ := K170) 4 (vc := [.slice aa s3.2.2.length ab, .slice am x93.length ae]) R R R R R R R Z94 R R (f12.stp (S15.tr (S19.tr (S23.tr (S26.tr (S33.tr (S142.tr (S153.tr (S164.tr (S171.tr S175))))))))) R R) R fun w178 S179 f180 => ⟨tv, Jb 1 R (Ju (Ja2 (l := [.cell 6 94, .tmp 7]) V139 (res_cellA R f180 I94 Z94 R (Jp2 R R)) R ?_))⟩))))⟩)⟩⟩
 cases h
 exact ⟨(fun b => ren [(8, 2), (11, 3)] (K170 b)), aa, ab, am, ae, R, ((hE.stp (S3.tr (S7.tr (S11.tr (S15.tr (S19.tr (S23.tr (S26.tr (S33.tr (S142.tr (S153.tr (S164.tr (S171.tr (S175.tr S179))))))))))))) R R).map (ren [(8, 2), (11, 3)]) R R), ((f35.stp (S142.tr (S153.tr (S164.tr (S171.tr (S175.tr S179))))) R R).map (ren [(8, 2), (11, 3)]) R R), ((f172.stp (S175.tr S179) R R).map (ren [(8, 2), (11, 3)]) R R)⟩
theorem s_LetterOf_ok {w : World} {κ : Col} {p0 : Sig} {p1 : Int} {p2 : Int}  {r : Int} (h : s_LetterOf p0 p1 p2 = some r) : Ret Tryz.prog 62 [.agg #[vi p0.In, vi p0.Out], vi p1, vi p2] w (fun v w' => ∃ (κ' : Col), v = vi r ∧ Ent κ w κ' w') := by
 unfold s_LetterOf at h
 refine Ret.enter F62 R N62 R ?_
 dsimp only [envOf]
 have hE := Ent.refl κ w
 refine Je [1, 2] R (Jf1 (κ := κ) 2 R R R R R R R fun b3 w1 K2 S3 f4 => ⟨tv, Jb 1 R (Jq (Je [1, 1, 2, 2, 2, 2, 1, 1, 2, 1, 2, 2, 2, 2, 2, 1, 1, 2, 1, 2, 2] R (Jl tv R R R R (Jd2 (cs := [vi p0.In, vi p0.Out]) I31 Z31 R R R (haE f4.cells)) (Ob h fun x8 hx8 h => Jh R R R C84 (s_SigOk_ok (κ := fun b => mp [] 0 (K2 b)) (p0 := p0) hx8) ?_))))⟩)
 rintro _ w5 ⟨k6, rfl, e7⟩
 obtain ⟨K8, S9, m10⟩ := Ji e7 3 R
 refine ⟨tv, Jn 2 R (Ob h fun p18 h hK12 => Ju1 [(4, 2), (5, 2), (6, 1), (7, 1), (8, 2), (9, 1), (10, 2), (11, 2)] [(12, 2), (13, 2), (14, 2), (15, 1), (16, 1), (17, 2), (18, 1), (19, 2), (20, 2)] (fun L w' => L = [(1, vi p1), (2, vi p2), (3, .pointer (some ⟨b3, 0, none⟩)), (18, .bool p18)] ∧ ∃ κ', Stp [] K8 w5 κ' w') tv ?_ ?_)⟩
 revert h
 cases ht13 : (!x8)
 refine JF fun h => Jn 1 R (Jf R (Jb2 U31 R Z2 R R) (Jl tv R R R R (Jc2 I2 R R (hvE ((f4.stp S9 R R).ld 0 R R))) (Ob h fun x14 hx14 h => Jh R R R C93 (s_l23Power_ok (κ := fun b => mp [] 0 (K8 b)) hx14) ?_)))
 rintro _ w15 ⟨k16, rfl, e17⟩
 obtain ⟨K18, S19, m20⟩ := Ji e17 5 R
 refine ⟨tv, Jn 1 R (Ob h fun x16 hx16 h => Jh R R R C77 (s_l1In_ok (κ := fun b => mp [] 0 (K18 b)) hx16) ?_)⟩
 rintro _ w22 ⟨k23, rfl, e24⟩
 obtain ⟨K25, S26, m27⟩ := Ji e24 7 R
 refine ⟨tv, Jn 2 R ?_⟩
 cases h
 exact Jv1 _ tv ⟨R, _, (S19.tr S26).wk R⟩ (KM R)
 refine JT fun h => Jn 2 R (Jd1 R R R R (Jd1 R R R R (Jn 1 R (Jd1 R R R R (Jn 2 R ?_)))))
 cases h
 exact Jv1 _ tv ⟨R, _, (Jx2 _ _).wk R⟩ (KM R)
 rintro _ w29 _ ⟨rfl, K30, S31⟩
 have h := hK12
 refine Jn 1 R (Ob h fun p27 h hK32 => Ju1 [(13, 2), (14, 2), (15, 1), (16, 1), (17, 2), (18, 1), (19, 2), (20, 2)] [] (fun L w' => L = [(1, vi p1), (2, vi p2), (3, .pointer (some ⟨b3, 0, none⟩)), (27, .bool p27)] ∧ ∃ κ', Stp [] K30 w29 κ' w') tv ?_ ?_)
 revert h
 cases ht33 : p18
 refine JF fun h => Jn 1 R (Jf R (Jb2 U31 R Z2 R R) (Jl tv R R R R (Jc2 I2 R R (hvE ((f4.stp (S9.tr S31) R R).ld 1 R R))) (Ob h fun x23 hx23 h => Jh R R R C93 (s_l23Power_ok (κ := fun b => mp [] 0 (K30 b)) hx23) ?_)))
 rintro _ w35 ⟨k36, rfl, e37⟩
 obtain ⟨K38, S39, m40⟩ := Ji e37 5 R
 refine ⟨tv, Jn 1 R (Ob h fun x25 hx25 h => Jh R R R C77 (s_l1In_ok (κ := fun b => mp [] 0 (K38 b)) hx25) ?_)⟩
 rintro _ w42 ⟨k43, rfl, e44⟩
 obtain ⟨K45, S46, m47⟩ := Ji e44 7 R
 refine ⟨tv, Jn 2 R ?_⟩
 cases h
 exact Jv1 _ tv ⟨R, _, (S39.tr S46).wk R⟩ (KM R)
 refine JT fun h => Jn 2 R (Jd1 R R R R (Jd1 R R R R (Jn 1 R (Jd1 R R R R (Jn 2 R ?_)))))
 cases h
 exact Jv1 _ tv ⟨R, _, (Jx2 _ _).wk R⟩ (KM R)
 rintro _ w49 _ ⟨rfl, K50, S51⟩
 have h := hK32
 refine Jd ?_
 revert h
 cases ht52 : p27
 refine JF fun h => Jy R (Js (Jp (Je [2, 2, 1, 1, 2, 2, 2, 2] R (Jn 1 R (Jf R (Jb2 U31 R Z2 R R) (Jl tv R R R R (Jc2 I2 R R (hvE ((f4.stp (S9.tr (S31.tr S51)) R R).ld 0 R R))) (Ob h fun x31 hx31 h => Jh R R R C93 (s_l23Power_ok (κ := fun b => mp [] 0 (K50 b)) hx31) ?_)))))))
 rintro _ w55 ⟨k56, rfl, e57⟩
 obtain ⟨K58, S59, m60⟩ := Ji e57 5 R
 refine ⟨tv, Jb 4 R (Ju (Ja2 (l := [.tmp 6]) V62 (Jp2 R R) R ?_))⟩
 cases h
 exact ⟨K58, R, (hE.stp (S3.tr (S9.tr (S31.tr (S51.tr S59)))) R R)⟩
 refine JT fun h => Jx R (Je [2] R (Jb 1 R (Ju (Jw (Ja2 (l := [.tmp 6]) V62 (Jp2 R R) R ?_)))))
 cases h
 exact ⟨K50, R, (hE.stp (S3.tr (S9.tr (S31.tr S51))) R R)⟩
theorem s_l1Loops_ok {w : World} {κ : Col} {a0 u0} {p0 : (List (List Int))} {a1 u1} {p1 : (List Int)} (g0 : Rd (Rp.sl (Rp.int .i64)) κ w 0 a0 u0 p0) (g1 : Rd (Rp.int .i64) κ w 0 a1 u1 p1) {r : (List (List Int))} (h : s_l1Loops p0 p1 = some r) : Ret Tryz.prog 114 [.slice a0 p0.length u0, .slice a1 p1.length u1] w (fun v w' => ∃ (κ' : Col) (ra0 : Option Addr) (ru0 : Nat), v = .slice ra0 r.length ru0 ∧ Ent κ w κ' w' ∧ Oc (Ep.fz (Rp.sl (Rp.int .i64))) 40 κ' w' 2 ra0 ru0 r) := by
 unfold s_l1Loops at h
 refine Ret.enter F114 R N114 R ?_
 dsimp only [envOf]
 have hE := Ent.refl κ w
 refine Je [2] R (Jb 1 R (Je [2, 2, 2, 1, 2] R (Jn 2 R (Jf R (Je2 U24 R R) (Ob h fun x18 hx18 h => Jh R R R C143 (s_l1Marks_ok (κ := fun b => mp [] 0 (κ b)) (Jl2 g1 (mp [] 0) R R) hx18) ?_)))))
 rintro _ w1 ⟨k2, av, ay, rfl, e3, f4⟩
 obtain ⟨K5, S6, m7⟩ := Ji e3 2 R
 refine ⟨tv, ?_⟩
 have f9 := f4.mx no_bool m7 R (R : 2 + 2 = 4)
 refine Jb 1 R (Je [1, 2] R (Jo1 (κ := K5) (E := (Ep.own Ep.bool 4)) 5 R R R R R Y167 Tryzinfo135 R fun aB aN w10 K11 S12 f13 => ⟨tv, Jb 1 R (Jq (Je [2] R (Jb 1 R ?_)))⟩))
 have hN14 : (p0.length : Int) ≤ 9223372036854775807 := g0.len_le
 refine Ob h fun q2 hq16 hK15 => ?_
 clear h
 refine Jx1 (fun L w' => ∃ κ', ∃ s3 : (List (List Bool)), ∃ af ae, L = [(0, .slice a0 p0.length u0), (1, .slice a1 p1.length u1), (6, .slice af s3.length ae)] ∧ Stp [5, 6, 7, 9, 10] K11 w10 κ' w' ∧ Oc (Ep.own Ep.bool 4) 135 κ' w' 5 af ae s3 ∧ q2 = Sum.inr s3) ?_ ?_
 refine Jv (Jy1 (fun k L w' => ∃ κ' v7, ∃ s1 : (List (List Bool)), ∃ au ap, L = [(0, .slice a0 p0.length u0), (1, .slice a1 p1.length u1), (5, .slice av x18.length ay), (6, .slice au s1.length ap), (7, vi v7)] ∧ Stp [5, 6, 7, 9, 10] K11 w10 κ' w' ∧ Oc (Ep.own Ep.bool 4) 135 κ' w' 5 au ap s1 ∧ 0 ≤ v7 ∧ Int.toNat ((p0.length : Int) - v7) = k ∧ cntM (s_l1Loops_b0 p0 x18) k v7 s1 = some q2) ⟨_, _, ⟨K11, 0, (([] : List (List Bool)) : (List (List Bool))), aB, aN, R, (Jx2 _ _).wk R, f13, (by decide), (by simp), hq16⟩, (KM R)⟩ ?_)
 rintro k _ w21 ⟨K22, v7, s1, au, ap, rfl, S23, f24, hj14, hJ14, h⟩
 rcases k with _ | k
 have hk25 := h; obtain ⟨o14, h⟩ := ex_eq (Sum.inr (Sum.inl s1) : (List (List Int)) ⊕ (((List (List Bool))) ⊕ ((List (List Bool)))))
 have hc14 : decide (v7 < (p0.length : Int)) = false := Jo2 (by omega)
 refine Jq (Je [2, 2, 2, 2] R (Jn 2 R (Jf R (Je2 U24 R R) (Jb 1 R (Jw2 R hc14 (Jc1 (Jt (Jt ?_))))))))
 cases h
 have h := hk25
 refine Jb1 ?_
 cases h
 exact Jw1 _ ⟨K22, (s1 : (List (List Bool))), au, ap, R, S23.wk R, f24, R⟩ (KM R)
 obtain ⟨o14, h, hk25⟩ := BI h; unfold s_l1Loops_b0 at h
 have hc14 : decide (v7 < (p0.length : Int)) = true := Jn2 (by omega)
 refine Jq (Je [2, 2, 2, 2] R (Jn 2 R (Jf R (Je2 U24 R R) (Jb 1 R (Jv2 R hc14 (Js (Jp (Jq (Jv (Je [2, 2, 2, 1] R (Jn 2 R (Ob h fun x28 hx28 h => Jf R (Jf2 f9.rdc hx28 U135 Z4 R R R R) ?_))))))))))))
 have f26 := f9.stp (S12.tr S23) R R
 refine Jl tv R R R R (Jc2 I4 R R (hvE (f26.rdc.gBool hx28))) (Jd (Ob h fun q4 h hK27 => Jx1 (fun L w' => ∃ κ' am aq, L = [(0, .slice a0 p0.length u0), (1, .slice a1 p1.length u1), (5, .slice av x18.length ay), (6, .slice am q4.length aq), (7, vi v7)] ∧ Stp [5, 6, 7, 9, 10] K22 w21 κ' w' ∧ Oc (Ep.own Ep.bool 4) 135 κ' w' 5 am aq q4) ?_ ?_))
 revert h
 cases ht32 : x28
 refine JF fun h => Jy R (Ja [2, 1, 1, 1, 2] R (Jn 1 R (Jo1 (κ := K22) (E := Ep.bool) 6 R R R R R Y135 Tryzinfo4 R fun aA az w57 K58 S59 f60 => ⟨tv, Jn1 (κ := K58) (E := (Ep.own Ep.bool 4)) 7 [6] (parts := [(0, .tmp 39)]) (cells := [.slice aA ([] : List Bool).length az]) (xs := ([([] : List Bool)] : List (List Bool))) R R R R R R Y167 Tryzinfo135 R R R R R R R R R R ⟨[.slice aA ([] : List Bool).length az], [], Zl K58 w57 [6], Zl K58 w57 [], R, Zl.sp (l1 := [6]) (l2 := []) R, Zl.sr (l1 := [6]) (l2 := []), ⟨_, _, R, f60⟩, R⟩ fun aY aP w61 K62 S63 f64 => ⟨tv, Ob h fun x41 hx41 h => Jm1 (κ := K62) (E := (Ep.own Ep.bool 4)) 5 [7] R R R R R R R R R Y167 Tryzinfo135 R R R R (f24.stp (S59.tr S63) R R) f64.src (sy_one R) hx41 R fun aC aM w66 K67 S68 f69 => ⟨tv, Jc 1 R ?_⟩⟩⟩)))
 cases h
 exact Jw1 _ ⟨K67, aC, aM, R, (S59.tr (S63.tr S68)).wk R, f69⟩ (KM R)
 refine JT fun h => Jx R (Ja [2, 2, 2, 2, 1, 1, 1, 1, 2] R (Jn 4 R (Jn1 (κ := K22) (E := E6) 6 [] (parts := [(0, .tmp 33)]) (cells := [vi v7]) (xs := ([v7] : List Int)) R R R R R R Y40 Tryzinfo2 R R R R R R R R R R ⟨[vi v7], [], Zl K22 w21 [], Zl K22 w21 [], R, Zl.sp (l1 := []) (l2 := []) R, Zl.sr (l1 := []) (l2 := []), R, R⟩ fun aX aU w33 K34 S35 f36 => ⟨tv, Ob h fun x35 hx35 h => Jh R R R C144 (s_l1Beyond_ok (κ := fun b => mp [] 0 (K34 b)) (Jl2 (g0.stp (S6.tr (S12.tr (S23.tr S35))) R R) (mp [] 0) R R) (Jl2 (f26.stp S35 R R).rdc (mp [] 0) R R) (Jl2 f36.rdc (mp [] 0) R R) hx35) ?_⟩)))
 rintro _ w39 ⟨k40, ax, aw, rfl, e41, f42⟩
 obtain ⟨K43, S44, m45⟩ := Ji e41 7 R
 refine ⟨tv, Jn1 (κ := K43) (E := (Ep.own Ep.bool 4)) 10 [9] (parts := [(0, .tmp 35)]) (cells := [.slice ax x35.length aw]) (xs := ([x35] : List (List Bool))) R R R R R R Y167 Tryzinfo135 R R R R R R R R R R ⟨[.slice ax x35.length aw], [], Zl K43 w39 [9], Zl K43 w39 [], R, Zl.sp (l1 := [9]) (l2 := []) R, Zl.sr (l1 := [9]) (l2 := []), ⟨_, _, R, (f42.mx no_bool m45 R (R : 7 + 2 = 9))⟩, R⟩ fun aW aR w48 K49 S50 f51 => ⟨tv, Ob h fun x37 hx37 h => Jm1 (κ := K49) (E := (Ep.own Ep.bool 4)) 5 [10] R R R R R R R R R Y167 Tryzinfo135 R R R R (f24.stp (S35.tr (S44.tr S50)) R R) f51.src (sy_one R) hx37 R fun aI aG w53 K54 S55 f56 => ⟨tv, Jc 1 R ?_⟩⟩⟩
 cases h
 exact Jw1 _ ⟨K54, aI, aG, R, (S35.tr (S44.tr (S50.tr S55))).wk R, f56⟩ (KM R)
 rintro _ w28 ⟨K29, am, aq, rfl, S30, f31⟩
 have h := hK27
 refine Jz (Jp (Ja [2, 2, 2] R (Jc 3 R ?_)))
 have hw14 : IntKind.wrap .i64 (v7 + 1) = v7 + 1 := wr1 hj14 (Jm2 hc14) hN14
 rw [hw14]
 have hc14 := Jm2 hc14
 cases h
 exact Jz1 fun a ha => ⟨k, _, Ja3 _, ⟨K29, v7 + 1, (q4 : (List (List Bool))), am, aq, R, (S23.tr S30).wk R, f31, by omega, by omega, hk25⟩, (ha.mm R)⟩
 rintro _ w17 ⟨K18, s3, af, ae, rfl, S19, f20, rfl⟩
 have h := hK15
 dsimp only [aft] at h
 refine Jp (Je [1, 2] R (Jo1 (κ := K18) (E := (Ep.fz (Rp.sl (Rp.int .i64)))) 6 R R R R R Y24 Tryzinfo40 R fun aH aE w70 K71 S72 f73 => ⟨tv, Jb 1 R (Je [2, 2, 1, 2] R (Jn 1 R (Jf R (Je2 U24 R R) (Ob h fun x45 hx45 h => Jl1 (κ := K71) (E := Ep.bool) (z := (false : Bool)) 7 R R R R R R R Y135 Tryzinfo4 R R R R R (fun _ _ _ => R) (Ju2 hx45) fun ab aa w74 K75 S76 f77 => ⟨tv, Jb 1 R (Jq (Je [2] R (Jb 1 R ?_)))⟩))))⟩))
 have hN78 : (p1.length : Int) ≤ 9223372036854775807 := g1.len_le
 refine Ob h fun q6 hq80 hK79 => ?_
 clear h
 refine Jx1 (fun L w' => ∃ κ', ∃ s7 : (List (List Int)) × (List Bool), ∃ an ao, L = [(8, .slice an s7.1.length ao)] ∧ Stp [6, 7, 8, 9] K75 w74 κ' w' ∧ Oc (Ep.fz (Rp.sl (Rp.int .i64))) 40 κ' w' 6 an ao s7.1 ∧ Oc Ep.bool 4 κ' w' 7 ab aa s7.2 ∧ x45.length = s7.2.length ∧ q6 = Sum.inr s7) ?_ ?_
 refine Jv (Jy1 (fun k L w' => ∃ κ' v10, ∃ s5 : (List (List Int)) × (List Bool), ∃ ad ac, L = [(1, .slice a1 p1.length u1), (6, .slice af s3.length ae), (8, .slice ad s5.1.length ac), (9, .slice ab x45.length aa), (10, vi v10)] ∧ Stp [6, 7, 8, 9] K75 w74 κ' w' ∧ Oc (Ep.fz (Rp.sl (Rp.int .i64))) 40 κ' w' 6 ad ac s5.1 ∧ Oc Ep.bool 4 κ' w' 7 ab aa s5.2 ∧ x45.length = s5.2.length ∧ 0 ≤ v10 ∧ Int.toNat ((p1.length : Int) - v10) = k ∧ cntM (s_l1Loops_b2 p1 s3) k v10 s5 = some q6) ⟨_, _, ⟨K75, 0, ((([] : List (List Int)) : (List (List Int))), (x45 : (List Bool))), aH, aE, R, (Jx2 _ _).wk R, (f73.stp S76 R R), f77, R, (by decide), (by simp), hq80⟩, (KM R)⟩ ?_)
 rintro k _ w87 ⟨K88, v10, s5, ad, ac, rfl, S89, f90, f91, hn92, hj78, hJ78, h⟩
 rcases k with _ | k
 have hk94 := h; obtain ⟨o78, h⟩ := ex_eq (Sum.inr (Sum.inl s5) : (List (List Int)) ⊕ (((List (List Int)) × (List Bool)) ⊕ ((List (List Int)) × (List Bool))))
 have hc78 : decide (v10 < (p1.length : Int)) = false := Jo2 (by omega)
 refine Jq (Je [2, 2, 2, 2] R (Jn 2 R (Jf R (Je2 U40 R R) (Jb 1 R (Jw2 R hc78 (Jc1 (Jt (Jt ?_))))))))
 cases h
 have h := hk94
 refine Jb1 ?_
 cases h
 exact Jw1 _ ⟨K88, ((s5.1 : (List (List Int))), (s5.2 : (List Bool))), ad, ac, R, S89.wk R, f90, f91, hn92, R⟩ (KM R)
 obtain ⟨o78, h, hk94⟩ := BI h; unfold s_l1Loops_b2 at h
 have hc78 : decide (v10 < (p1.length : Int)) = true := Jn2 (by omega)
 refine Jq (Je [2, 2, 2, 2] R (Jn 2 R (Jf R (Je2 U40 R R) (Jb 1 R (Jv2 R hc78 (Js (Jp (Jq (Jv (Je [2, 2, 2, 1, 2] R (Jn 2 R (Ob h fun x54 hx54 h => Jf R (Jf2 g1 hx54 U40 Z2 R R R R) ?_))))))))))))
 have f95 := g1.stp (S6.tr (S12.tr (S19.tr (S72.tr (S76.tr S89))))) R R
 refine Jl tv R R R R (Jc2 I2 R R (hvE (f95.gInt hx54))) (Jb 1 R (Jq (Je [2, 2, 2, 1, 2, 2, 2, 2, 1, 2, 2, 1, 2, 2] R (Jn 2 R (Ob h fun x58 hx58 h => Jf R (Jf2 f91.rdc hx58 U135 Z4 R R hn92 R) (Jl tv R R R R (Jc2 I4 R R (hvE (f91.rdc.gBool hx58))) (Jn 1 R (Ob h fun p69 h hK96 => Ju1 [(5, 2), (6, 2), (7, 2), (8, 1), (9, 2), (10, 2), (11, 1), (12, 2), (13, 2)] [] (fun L w' => L = [(1, .slice a1 p1.length u1), (6, .slice af s3.length ae), (8, .slice ad s5.1.length ac), (9, .slice ab x45.length aa), (10, vi v10), (11, vi x54), (69, .bool p69)] ∧ ∃ κ', Stp [] K88 w87 κ' w') tv ?_ ?_))))))))
 revert h
 cases ht97 : x58
 refine JF fun h => Jn 2 R (Ob h fun x63 hx63 h => Jf R (Jf2 f20.rdc hx63 U167 Z135 R R R R) ?_)
 obtain ⟨ax63, ux63, f99, hl100⟩ := (f20.stp (S72.tr (S76.tr S89)) R R).rdc.gSl hx63
 refine Jl tv R R R R (Jc2 I135 R R (hvE hl100)) (Jn 1 R (Ob h fun x66 hx66 h => Jf R (Jf2 f99 hx66 U135 Z4 R R R R) (Jl tv R R R R (Jc2 I4 R R (hvE (f99.gBool hx66))) (Jn 2 R ?_))))
 cases h
 exact Jv1 _ tv ⟨R, _, (Jx2 _ _).wk R⟩ (KM R)
 refine JT fun h => Jn 3 R (Jd1 R R R R (Jn 2 R (Jd1 R R R R (Jn 2 R ?_))))
 cases h
 exact Jv1 _ tv ⟨R, _, (Jx2 _ _).wk R⟩ (KM R)
 rintro _ w101 _ ⟨rfl, K102, S103⟩
 have h := hK96
 refine Jd ?_
 revert h
 cases ht104 : p69
 refine JF fun h => Jy R (Js (Jp (Je [1, 2] R (Jo1 (κ := K102) (E := E6) 8 R R R R R Y40 Tryzinfo2 R fun aK aL w107 K108 S109 f110 => ⟨tv, Jb 1 R (Jq (Je [2] R (Jb 1 R ?_)))⟩))))
 have hN111 : (p1.length : Int) ≤ 9223372036854775807 := f95.len_le
 refine Ob h fun q9 hq113 hK112 => ?_
 clear h
 refine Jx1 (fun L w' => ∃ κ', ∃ s10 : (List Int) × (List Bool), ∃ aj ak, L = [(1, .slice a1 p1.length u1), (6, .slice af s3.length ae), (8, .slice ad s5.1.length ac), (9, .slice ab x45.length aa), (10, vi v10), (12, .slice aj s10.1.length ak)] ∧ Stp [7, 8] K108 w107 κ' w' ∧ Oc E6 2 κ' w' 8 aj ak s10.1 ∧ Oc Ep.bool 4 κ' w' 7 ab aa s10.2 ∧ x45.length = s10.2.length ∧ q9 = Sum.inr s10) ?_ ?_
 refine Jv (Jy1 (fun k L w' => ∃ κ' v13, ∃ s8 : (List Int) × (List Bool), ∃ ai ah, L = [(1, .slice a1 p1.length u1), (6, .slice af s3.length ae), (8, .slice ad s5.1.length ac), (9, .slice ab x45.length aa), (10, vi v10), (11, vi x54), (12, .slice ai s8.1.length ah), (13, vi v13)] ∧ Stp [7, 8] K108 w107 κ' w' ∧ Oc E6 2 κ' w' 8 ai ah s8.1 ∧ Oc Ep.bool 4 κ' w' 7 ab aa s8.2 ∧ x45.length = s8.2.length ∧ 0 ≤ v13 ∧ Int.toNat ((p1.length : Int) - v13) = k ∧ cntM (s_l1Loops_b4 p1 s3 x54) k v13 s8 = some q9) ⟨_, _, ⟨K108, 0, ((([] : List Int) : (List Int)), (s5.2 : (List Bool))), aK, aL, R, (Jx2 _ _).wk R, f110, (f91.stp (S103.tr S109) R R), hn92, (by decide), (by simp), hq113⟩, (KM R)⟩ ?_)
 rintro k _ w120 ⟨K121, v13, s8, ai, ah, rfl, S122, f123, f124, hn125, hj111, hJ111, h⟩
 rcases k with _ | k
 have hk127 := h; obtain ⟨o111, h⟩ := ex_eq (Sum.inr (Sum.inl s8) : (List (List Int)) ⊕ (((List Int) × (List Bool)) ⊕ ((List Int) × (List Bool))))
 have hc111 : decide (v13 < (p1.length : Int)) = false := Jo2 (by omega)
 refine Jq (Je [2, 2, 2, 2] R (Jn 2 R (Jf R (Je2 U40 R R) (Jb 1 R (Jw2 R hc111 (Jc1 (Jt (Jt ?_))))))))
 cases h
 have h := hk127
 refine Jb1 ?_
 cases h
 exact Jw1 _ ⟨K121, ((s8.1 : (List Int)), (s8.2 : (List Bool))), ai, ah, R, S122.wk R, f123, f124, hn125, R⟩ (KM R)
 obtain ⟨o111, h, hk127⟩ := BI h; unfold s_l1Loops_b4 at h
 have hc111 : decide (v13 < (p1.length : Int)) = true := Jn2 (by omega)
 refine Jq (Je [2, 2, 2, 2] R (Jn 2 R (Jf R (Je2 U40 R R) (Jb 1 R (Jv2 R hc111 (Js (Jp (Jq (Jv (Je [2, 2, 2, 1, 2] R (Jn 2 R (Ob h fun x79 hx79 h => Jf R (Jf2 f95 hx79 U40 Z2 R R R R) (Jl tv R R R R (Jc2 I2 R R (hvE ((f95.stp (S103.tr (S109.tr S122)) R R).gInt hx79))) (Jb 1 R (Je [2, 2, 2, 1, 2, 2, 1, 2, 2, 2, 2, 1, 2, 2, 1, 2] R (Jn 2 R (Ob h fun x83 hx83 h => Jf R (Jf2 f20.rdc hx83 U167 Z135 R R R R) ?_)))))))))))))))))
 have f129 := f20.stp (S72.tr (S76.tr (S89.tr (S103.tr (S109.tr S122))))) R R
 obtain ⟨ax83, ux83, f130, hl131⟩ := f129.rdc.gSl hx83
 refine Jl tv R R R R (Jc2 I135 R R (hvE hl131)) (Jn 1 R (Ob h fun x86 hx86 h => Jf R (Jf2 f130 hx86 U135 Z4 R R R R) (Jl tv R R R R (Jc2 I4 R R (hvE (f130.gBool hx86))) (Jn 1 R (Ob h fun p96 h hK132 => Ju1 [(8, 2), (9, 2), (10, 2), (11, 1), (12, 2), (13, 2), (14, 1), (15, 2)] [] (fun L w' => L = [(1, .slice a1 p1.length u1), (6, .slice af s3.length ae), (8, .slice ad s5.1.length ac), (9, .slice ab x45.length aa), (10, vi v10), (11, vi x54), (12, .slice ai s8.1.length ah), (13, vi v13), (14, vi x79), (96, .bool p96)] ∧ ∃ κ', Stp [] K121 w120 κ' w') tv ?_ ?_)))))
 revert h
 cases ht133 : x86
 refine JF fun h => Jn 3 R (Jd1 R R R R (Jn 2 R (Jd1 R R R R (Jn 1 R ?_))))
 cases h
 exact Jv1 _ tv ⟨R, _, (Jx2 _ _).wk R⟩ (KM R)
 refine JT fun h => Jn 2 R (Ob h fun x91 hx91 h => Jf R (Jf2 f129.rdc hx91 U167 Z135 R R R R) ?_)
 obtain ⟨ax91, ux91, f134, hl135⟩ := f129.rdc.gSl hx91
 refine Jl tv R R R R (Jc2 I135 R R (hvE hl135)) (Jn 1 R (Ob h fun x94 hx94 h => Jf R (Jf2 f134 hx94 U135 Z4 R R R R) (Jl tv R R R R (Jc2 I4 R R (hvE (f134.gBool hx94))) (Jn 1 R ?_))))
 cases h
 exact Jv1 _ tv ⟨R, _, (Jx2 _ _).wk R⟩ (KM R)
 rintro _ w136 _ ⟨rfl, K137, S138⟩
 have h := hK132
 refine Jd (Ob h fun q11 h hK139 => Jx1 (fun L w' => ∃ κ' al ar, L = [(1, .slice a1 p1.length u1), (6, .slice af s3.length ae), (8, .slice ad s5.1.length ac), (9, .slice ab x45.length aa), (10, vi v10), (11, vi x54), (12, .slice al q11.1.length ar), (13, vi v13)] ∧ Stp [7, 8] K137 w136 κ' w' ∧ Oc E6 2 κ' w' 8 al ar q11.1 ∧ Oc Ep.bool 4 κ' w' 7 ab aa q11.2 ∧ x45.length = q11.2.length) ?_ ?_)
 revert h
 cases ht146 : p96
 refine JF fun h => Jy R (Js ?_)
 cases h
 exact Jw1 _ ⟨K137, ai, ah, R, (Jx2 _ _).wk R, (f123.stp S138 R R), (f124.stp S138 R R), hn125⟩ (KM R)
 refine JT fun h => Jx R (Je [2, 2, 1, 1, 2] R (Jn 2 R (Jn1 (κ := K137) (E := E6) 9 [] (parts := [(0, .tmp 98)]) (cells := [vi x79]) (xs := ([x79] : List Int)) R R R R R R Y40 Tryzinfo2 R R R R R R R R R R ⟨[vi x79], [], Zl K137 w136 [], Zl K137 w136 [], R, Zl.sp (l1 := []) (l2 := []) R, Zl.sr (l1 := []) (l2 := []), R, R⟩ fun aS aT w147 K148 S149 f150 => ⟨tv, Ob h fun x100 hx100 h => Jm1 (κ := K148) (E := E6) 8 [] R R R R R R R R R Y40 Tryzinfo2 R R R R (f123.stp (S138.tr S149) R R) (Sl.srcP (pu_int _) f150.rdc) sy_false hx100 R fun aF aD w152 K153 S154 f155 => ⟨tv, Jb 1 R (Ja [2, 2, 2, 1] R (Jn 2 R (Ob h fun x103 hx103 h => Jf R (Jf2 f124.rdc hx103 U135 Z4 R R hn125 R) (Ob h fun y153 hy153 h => Jk1 (κ := K153) (E := Ep.bool) 7 [] R R R R R R R R Z4 R R R R (f124.stp (S138.tr (S149.tr S154)) R R) hy153 fun w157 K158 S159 f160 => ⟨tv, ?_⟩))))⟩⟩)))
 have hn161 : x45.length = y153.length := hn125.trans (Jt2 hy153).2.2.2.symm
 refine Jo ?_
 cases h
 exact Jw1 _ ⟨K158, aF, aD, R, (S149.tr (S154.tr S159)).wk R, (f155.stp S159 R R), f160, hn161⟩ (KM R)
 rintro _ w140 ⟨K141, al, ar, rfl, S142, f143, f144, hn145⟩
 have h := hK139
 refine Jz (Jp (Ja [2, 2, 2] R (Jc 3 R ?_)))
 have hw111 : IntKind.wrap .i64 (v13 + 1) = v13 + 1 := wr1 hj111 (Jm2 hc111) hN111
 rw [hw111]
 have hc111 := Jm2 hc111
 cases h
 exact Jz1 fun a ha => ⟨k, _, Ja3 _, ⟨K141, v13 + 1, ((q11.1 : (List Int)), (q11.2 : (List Bool))), al, ar, R, (S122.tr (S138.tr S142)).wk R, f143, f144, hn145, by omega, by omega, hk127⟩, (ha.mm R)⟩
 rintro _ w114 ⟨K115, s10, aj, ak, rfl, S116, f117, f118, hn119, rfl⟩
 have h := hK112
 dsimp only [aft] at h
 refine Jp (Ja [2, 2, 1, 1, 2] R (Jn 2 R ?_))
 obtain ⟨K165, S166, z167⟩ := fz_ex K115 w114 8
 refine Jn1 (κ := K165) (E := (Ep.fz (Rp.sl (Rp.int .i64)))) 9 [] (parts := [(0, .tmp 105)]) (cells := [.slice aj s10.1.length ak]) (xs := ([s10.1] : List (List Int))) R R R R R R Y24 Tryzinfo40 R R R R R R R R R R ⟨[.slice aj s10.1.length ak], [], Zl K165 w114 [], Zl K165 w114 [], R, Zl.sp (l1 := []) (l2 := []) R, Zl.sr (l1 := []) (l2 := []), ⟨_, _, R, (Sl.z1 (Sl.st z167 f117.rdc))⟩, R⟩ fun aQ aV w169 K170 S171 f172 => ⟨tv, Ob h fun x107 hx107 h => Jm1 (κ := K170) (E := (Ep.fz (Rp.sl (Rp.int .i64)))) 6 [9] R R R R R R R R R Y24 Tryzinfo40 R R R R (f90.stp (S103.tr (S109.tr (S116.tr (S166.tr S171)))) R R) f172.src (sy_one R) hx107 R fun aO aJ w174 K175 S176 f177 => ⟨tv, Jc 1 R (Jz (Jp (Ja [2, 2, 2] R (Jc 3 R ?_))))⟩⟩
 have hw78 : IntKind.wrap .i64 (v10 + 1) = v10 + 1 := wr1 hj78 (Jm2 hc78) hN78
 rw [hw78]
 have hc78 := Jm2 hc78
 cases h
 exact Jz1 fun a ha => ⟨k, _, Ja3 _, ⟨K175, v10 + 1, ((x107 : (List (List Int))), (s10.2 : (List Bool))), aO, aJ, R, (S89.tr (S103.tr (S109.tr (S116.tr (S166.tr (S171.tr S176)))))).wk R, f177, (f118.stp (S166.tr (S171.tr S176)) R R), hn119, by omega, by omega, hk94⟩, (ha.mm R)⟩
 refine JT fun h => Jx R (Jc1 (Jt (Jb1 (Jp (Ja [2, 2, 2] R (Jc 3 R ?_))))))
 have hw78 : IntKind.wrap .i64 (v10 + 1) = v10 + 1 := wr1 hj78 (Jm2 hc78) hN78
 rw [hw78]
 have hc78 := Jm2 hc78
 cases h
 exact Jz1 fun a ha => ⟨k, _, Ja3 _, ⟨K102, v10 + 1, ((s5.1 : (List (List Int))), (s5.2 : (List Bool))), ad, ac, R, (S89.tr S103).wk R, (f90.stp S103 R R), (f91.stp S103 R R), hn92, by omega, by omega, hk94⟩, (ha.mm R)⟩
 rintro _ w81 ⟨K82, s7, an, ao, rfl, S83, f84, f85, hn86, rfl⟩
 have h := hK79
 dsimp only [aft] at h
 refine Jp (Je [2, 2] R (Jb 2 R (Ju (Ja2 (l := [.tmp 4]) V114 (Jp2 R R) R ?_))))
 cases h
 exact ⟨(fun b => ren [(6, 2)] (K82 b)), an, ao, R, ((hE.stp (S6.tr (S12.tr (S19.tr (S72.tr (S76.tr S83))))) R R).map (ren [(6, 2)]) R R), (f84.map (ren [(6, 2)]) R R)⟩
end Go.Proofs.YtcmamhmpoinmnaaGreat
