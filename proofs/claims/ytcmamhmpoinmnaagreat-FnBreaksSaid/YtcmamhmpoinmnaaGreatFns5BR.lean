/- The walks, part 5. By program. -/
import Derived.Test.YtcmamhmpoinmnaaGreatFns2BR
import Derived.Test.YtcmamhmpoinmnaaGreatFns3BR
set_option linter.unusedVariables false
set_option linter.unusedSimpArgs false
namespace Go.Proofs.YtcmamhmpoinmnaaGreat
open Go Go.Wk Go.Proofs
set_option maxRecDepth 100000
set_option maxHeartbeats 1000000
theorem slices_ContainsFunc_I_int64__i_areLetters_1_ok {w : World} {κ : Col} {a0 u0} {p0 : (List Int)} {c1_0 : Int} {b1_0} (g0 : Rd (Rp.int .i64) κ w 0 a0 u0 p0) (gb1_0 : Bc κ w 0 b1_0 2 [vi c1_0]) {r : Bool} (h : slices_ContainsFunc_I_int64__i_areLetters_1 p0 c1_0 = some r) : Ret Tryz.prog 148 [.slice a0 p0.length u0, .func (.func 149) #[] #[.pointer (some ⟨b1_0, 0, none⟩)]] w (fun v w' => ∃ (κ' : Col), v = .bool r ∧ Ent κ w κ' w') := by
 unfold slices_ContainsFunc_I_int64__i_areLetters_1 at h
 refine Ret.enter F148 R N148 R ?_
 dsimp only [envOf]
 have hE := Ent.refl κ w
 refine Je [2] R (Jb 1 R (Je [2, 2, 1, 2, 2] R (Jn 2 R (Ob h fun x7 hx7 h => Jh R R R C169 (slices_IndexFunc_I_int64__i_areLetters_1_ok (κ := fun b => mp [] 0 (κ b)) (Jl2 g0 (mp [] 0) R R) (gb1_0.map (mp [] 0) R R) hx7) ?_))))
 rintro _ w1 ⟨k2, rfl, e3⟩
 obtain ⟨K4, S5, m6⟩ := Ji e3 2 R
 refine ⟨tv, Jb 2 R (Ju (Ja2 (l := [.tmp 4]) V148 (Jp2 R R) R ?_))⟩
 cases h
 exact ⟨K4, R, (hE.stp S5 R R)⟩
theorem i_joinedDet_ok {w : World} {κ : Col} {ay aF aC aD} {p0 : Det} {an au aw ar} {p1 : Det} (g0_0 : Rd (Rp.sl (Rp.int .i64)) κ w 0 ay aF p0.Next) (g0_1 : Rd Pair.rp κ w 0 aC aD p0.Pairs) (g1_0 : Rd (Rp.sl (Rp.int .i64)) κ w 0 an au p1.Next) (g1_1 : Rd Pair.rp κ w 0 aw ar p1.Pairs) {r : Det × Bool} (h : i_joinedDet p0 p1 = some r) : Ret Tryz.prog 120 [.agg #[.slice ay p0.Next.length aF, .slice aC p0.Pairs.length aD], .agg #[.slice an p1.Next.length au, .slice aw p1.Pairs.length ar]] w (fun v w' => ∃ (κ' : Col) (ra0 : Option Addr) (ru0 : Nat) (ra1 : Option Addr) (ru1 : Nat), v = .tuple #[.agg #[.slice ra0 r.1.Next.length ru0, .slice ra1 r.1.Pairs.length ru1], .bool r.2] ∧ Ent κ w κ' w' ∧ Oc (Ep.own E6 2) 40 κ' w' 2 ra0 ru0 r.1.Next ∧ Oc Pair.ep92 92 κ' w' 3 ra1 ru1 r.1.Pairs) := by
 unfold i_joinedDet at h
 refine Ret.enter F120 R N120 R ?_
 dsimp only [envOf]
 have hE := Ent.refl κ w
 refine Je [1, 1, 1, 2] R (Jf1 (κ := κ) 2 R R R R R R R fun b2 w1 K2 S3 f4 => ⟨tv, Jf1 (κ := K2) 3 R R R R R R R fun b3 w5 K6 S7 f8 => ⟨tv, Jg1 (κ := K6) 4 R R R R R X94 R fun b4 w9 K10 S11 f12 => ⟨tv, Jb 1 R (Jq (Je [2, 1, 2, 2, 1, 2, 2, 2] R (Jf R (Jb2 U94 R Z79 R R) ?_)))⟩⟩⟩)
 have f13 := f4.stp (S7.tr S11) R R
 refine Jl tv R R R R (Jc2 I79 R R (hvE (f13.ld 1 R R))) (Jf R (Je2 U79 R R) (Jf R (Jb2 U94 R Z79 R R) ?_))
 have f14 := f8.stp S11 R R
 refine Jl tv R R R R (Jc2 I79 R R (hvE (f14.ld 1 R R))) (Jf R (Je2 U79 R R) (Jb 2 R ?_))
 revert h
 cases ht15 : decide (4 < (IntKind.i64.wrap ((p0.Pairs.length : Int) + (p1.Pairs.length : Int))))
 refine JF fun h => Jy R (Js (Jp (Je [2, 1, 2] R (Jf R (rn_build (parts := [(0, .const (vi 0)), (1, .const (vi 0))]) (cells := [vi 0, vi 0]) R R (by kernel_rfl)) (Jn1 (κ := K10) (E := (Ep.pair E6 E6)) 5 [] (parts := [(0, .tmp 30)]) (cells := [vi 0, vi 0]) (xs := ([(0, 0)] : List (Int × Int))) R R R R R R Y108 Tryzinfo107 R R R R R R R R R R ⟨[vi 0, vi 0], [], Zl K10 w9 [], Zl K10 w9 [], R, Zl.sp (l1 := []) (l2 := []) R, Zl.sr (l1 := []) (l2 := []), ⟨[vi 0], [vi 0], Zl K10 w9 [], Zl K10 w9 [], R, Zl.sp (l1 := []) (l2 := []) R, Zl.sr (l1 := []) (l2 := []), R, R⟩, R⟩ fun bm bo w20 K21 S22 f23 => ⟨tv, Jb 1 R (Je [2, 1, 1] R (Jf R (rn_build (parts := []) (cells := [.slice none 0 0, .slice none 0 0]) R R (by kernel_rfl)) (Jg1 (κ := K21) 6 R R R R R X94 R fun b7 w24 K25 S26 f27 => ⟨tv, Jj1 (κ := K25) 6 (vc := [.slice none 0 0, .slice none 0 0]) R R R R R R R Z94 R R f27 R fun w28 S29 f30 => ⟨tv, Jd (Jq (Je [2] R (Jb 1 R (Ob h fun q2 hq33 hK32 => ?_))))⟩⟩)))⟩)))))
 clear h
 refine Jx1 (fun L w' => ∃ κ', ∃ s3 : (List (Int × Int)) × Int × (List (List Int)), ∃ aa ab ad ac, L = [(2, .pointer (some ⟨b2, 0, none⟩)), (3, .pointer (some ⟨b3, 0, none⟩)), (4, .pointer (some ⟨b4, 0, none⟩)), (6, .slice aa s3.1.length ab), (7, .pointer (some ⟨b7, 0, none⟩))] ∧ Stp [5, 6, 7, 8, 9] K25 w28 κ' w' ∧ Oc (Ep.pair E6 E6) 107 κ' w' 5 aa ab s3.1 ∧ Oc (Ep.own E6 2) 40 κ' w' 7 ad ac s3.2.2 ∧ Bc κ' w' 6 b7 94 [.slice ad s3.2.2.length ac, .slice none 0 0] ∧ q2 = Sum.inr s3) ?_ ?_
 refine Jv (Jy1 (fun k L w' => ∃ κ', ∃ s1 : (List (Int × Int)) × Int × (List (List Int)), ∃ aI az aY aT, L = [(2, .pointer (some ⟨b2, 0, none⟩)), (3, .pointer (some ⟨b3, 0, none⟩)), (4, .pointer (some ⟨b4, 0, none⟩)), (6, .slice aI s1.1.length az), (7, .pointer (some ⟨b7, 0, none⟩)), (8, vi s1.2.1)] ∧ Stp [5, 6, 7, 8, 9] K25 w28 κ' w' ∧ Oc (Ep.pair E6 E6) 107 κ' w' 5 aI az s1.1 ∧ Oc (Ep.own E6 2) 40 κ' w' 7 aY aT s1.2.2 ∧ Bc κ' w' 6 b7 94 [.slice aY s1.2.2.length aT, .slice none 0 0] ∧ whileM (i_joinedDet_b0 p0 p1) k s1 = some q2) ⟨_, _, ⟨K25, ((([(0, 0)] : List (Int × Int)) : (List (Int × Int))), (0 : Int), (([] : List (List Int)) : (List (List Int)))), bm, bo, none, 0, R, (Jx2 _ _).wk R, (f23.stp (S26.tr S29) R R), Ow.nil, f30, hq33⟩, (KM R)⟩ ?_)
 rintro k _ w40 ⟨K41, s1, aI, az, aY, aT, rfl, S42, f43, f44, f45, h⟩
 rcases k with _ | k
 cases h
 obtain ⟨o31, h, hk47⟩ := BI h; unfold i_joinedDet_b0 at h
 refine Jq (Je [2, 2, 2, 2] R (Jn 2 R (Jf R (Je2 U108 R R) (Jb 1 R ?_))))
 revert h
 cases ht48 : decide (s1.2.1 < (s1.1.length : Int))
 refine JF fun h => Jy R (Jc1 (Jt (Jt ?_)))
 cases h
 have h := hk47
 refine Jb1 ?_
 cases h
 exact Jw1 _ ⟨K41, ((s1.1 : (List (Int × Int))), (s1.2.1 : Int), (s1.2.2 : (List (List Int)))), aI, az, aY, aT, R, S42.wk R, f43, f44, f45, R⟩ (KM R)
 refine JT fun h => Jx R (Js (Jp (Jq (Jv (Je [1, 2] R (Jo1 (κ := K41) (E := E6) 8 R R R R R Y40 Tryzinfo2 R fun bk bn w49 K50 S51 f52 => ⟨tv, Jb 1 R (Jq (Jq (Js1 (κ := K50) [0, 2, 5] none [(0, 2), (2, 2), (3, 2), (4, 2), (5, 2), (10, 2), (1, 0), (6, 0), (7, 2), (8, 0), (9, 2)] [] (by kernel_rfl) (by kernel_rfl) fun w54 S53 => Jf R (Jb2 U94 R Z24 R R) (Jn 2 R (Ob h fun x44 hx44 h => Jf R (Jf2 f43.rdc hx44 U108 Z107 R R R R) (Jf R (rn_indexA U107 Z2 R R R R) (Jn 1 R (Jg R (Jc2 I24 R R (hvC ((f13.stp (S22.tr (S26.tr (S29.tr (S42.tr (S51.tr S53))))) R R).ld 0 R R) R)) ?_))))))))⟩))))))
 have f56 := f43.stp (S51.tr S53) R R
 obtain ⟨cse57, hre57, hle57⟩ := (f56.rdc).gSt hx44
 obtain ⟨_, _, rfl, rfl, rfl⟩ := hre57
 refine Jg R (Jc2 I2 R R (hvC (fun w' hw' => hle57 w' hw' 0 _ R) R)) (Ob h fun x47 hx47 h => Jf R (Jf2 g0_0 hx47 U24 Z40 R R R R) ?_)
 obtain ⟨ax47, ux47, f59, hl60⟩ := (g0_0.stp (S3.tr (S7.tr (S11.tr (S22.tr (S26.tr (S29.tr (S42.tr (S51.tr S53)))))))) R R).gSl hx47
 refine Jg R (Jc2 I40 R R (hvC hl60 R)) (Jf R (Je2 U40 R R) (Jt1 (Jd ?_)))
 have hN61 : (x47.length : Int) ≤ 9223372036854775807 := f59.len_le
 refine Ob h fun q5 hq63 hK62 => ?_
 clear h
 refine Jx1 (fun L w' => ∃ κ', ∃ s6 : (List (Int × Int)) × (List Int), ∃ aN aO aL aM, L = [(2, .pointer (some ⟨b2, 0, none⟩)), (3, .pointer (some ⟨b3, 0, none⟩)), (4, .pointer (some ⟨b4, 0, none⟩)), (6, .slice aN s6.1.length aO), (7, .pointer (some ⟨b7, 0, none⟩)), (8, vi s1.2.1), (9, .slice aL s6.2.length aM)] ∧ Stp [5, 8, 9] K50 w54 κ' w' ∧ Oc (Ep.pair E6 E6) 107 κ' w' 5 aN aO s6.1 ∧ Oc E6 2 κ' w' 8 aL aM s6.2 ∧ q5 = Sum.inr s6) ?_ ?_
 refine Jv (Jy1 (fun k L w' => ∃ κ' v50, ∃ s4 : (List (Int × Int)) × (List Int), ∃ aH aJ aB aK, L = [(2, .pointer (some ⟨b2, 0, none⟩)), (3, .pointer (some ⟨b3, 0, none⟩)), (4, .pointer (some ⟨b4, 0, none⟩)), (6, .slice aH s4.1.length aJ), (7, .pointer (some ⟨b7, 0, none⟩)), (8, vi s1.2.1), (9, .slice aB s4.2.length aK), (48, .slice ax47 x47.length ux47), (49, vi (x47.length : Int)), (50, vi v50)] ∧ Stp [5, 8, 9] K50 w54 κ' w' ∧ Oc (Ep.pair E6 E6) 107 κ' w' 5 aH aJ s4.1 ∧ Oc E6 2 κ' w' 8 aB aK s4.2 ∧ 0 ≤ v50 ∧ Int.toNat ((x47.length : Int) - v50) = k ∧ cntM (i_joinedDet_b2 p1 s1 x47) k v50 s4 = some q5) ⟨_, _, ⟨K50, 0, ((s1.1 : (List (Int × Int))), (([] : List Int) : (List Int))), aI, az, bk, bn, R, (Jx2 _ _).wk R, f56, (f52.stp S53 R R), (by decide), (by simp), hq63⟩, (KM R)⟩ ?_)
 rintro k _ w69 ⟨K70, v50, s4, aH, aJ, aB, aK, rfl, S71, f72, f73, hj61, hJ61, h⟩
 rcases k with _ | k
 have hk75 := h; obtain ⟨o61, h⟩ := ex_eq (Sum.inr (Sum.inl s4) : (Det × Bool) ⊕ (((List (Int × Int)) × (List Int)) ⊕ ((List (Int × Int)) × (List Int))))
 have hc61 : decide (v50 < (x47.length : Int)) = false := Jo2 (by omega)
 refine Je [2] R (Jb 1 R (Jq (Jw2 R hc61 (Jc1 (Jt (Jt ?_))))))
 cases h
 have h := hk75
 refine Jb1 ?_
 cases h
 exact Jw1 _ ⟨K70, ((s4.1 : (List (Int × Int))), (s4.2 : (List Int))), aH, aJ, aB, aK, R, S71.wk R, f72, f73, R⟩ (KM R)
 obtain ⟨o61, h, hk75⟩ := BI h; unfold i_joinedDet_b2 at h
 have hc61 : decide (v50 < (x47.length : Int)) = true := Jn2 (by omega)
 refine Je [2] R (Jb 1 R (Jq (Jv2 R hc61 (Js (Jp (Jq (Jv (Je [2, 2, 1, 2, 2] R (Jn 1 R (Ob h fun x53 hx53 h => Jf R (Jf2 f59 hx53 U40 Z2 R R R R) (Jl tv R R R R (Jc2 I2 R R (hvE ((f59.stp S71 R R).gInt hx53))) (Jb 2 R (Jq (Js1 (κ := K70) [0, 3, 5] none [(0, 2), (1, 2), (3, 2), (4, 2), (5, 2), (6, 2), (10, 2), (2, 0), (7, 0), (8, 2), (9, 0), (11, 2), (12, 0), (13, 2), (14, 1), (15, 1)] [] (by kernel_rfl) (by kernel_rfl) fun w78 S77 => Jn 1 R (Jf R (Jb2 U94 R Z24 R R) (Jn 2 R (Ob h fun x60 hx60 h => Jf R (Jf2 f72.rdc hx60 U108 Z107 R R R R) (Jf R (rn_indexA U107 Z2 R R R R) (Jn 1 R (Jg R (Jc2 I24 R R (hvC ((f14.stp (S22.tr (S26.tr (S29.tr (S42.tr (S51.tr (S53.tr (S71.tr S77))))))) R R).ld 0 R R) R)) ?_))))))))))))))))))))
 have f80 := f72.stp S77 R R
 obtain ⟨cse81, hre81, hle81⟩ := (f80.rdc).gSt hx60
 obtain ⟨_, _, rfl, rfl, rfl⟩ := hre81
 refine Jg R (Jc2 I2 R R (hvC (fun w' hw' => hle81 w' hw' 1 _ R) R)) (Ob h fun x63 hx63 h => Jf R (Jf2 g1_0 hx63 U24 Z40 R R R R) ?_)
 obtain ⟨ax63, ux63, f83, hl84⟩ := (g1_0.stp (S3.tr (S7.tr (S11.tr (S22.tr (S26.tr (S29.tr (S42.tr (S51.tr (S53.tr (S71.tr S77)))))))))) R R).gSl hx63
 refine Jg R (Jc2 I40 R R (hvC hl84 R)) (Ob h fun x66 hx66 h => Jf R (Jf2 f83 hx66 U40 Z2 R R R R) (Jg R (Jc2 I2 R R (hvC (f83.gInt hx66) R)) (Jf R (rn_build (parts := [(0, .tmp 55), (1, .tmp 67)]) (cells := [vi x53, vi x66]) R R (by kernel_rfl)) (Jg1 (κ := K70) 9 R R R R R X107 R fun b12 w85 K86 S87 f88 => ⟨(S87.cl R), Jj1 (κ := K86) 9 (vc := [vi x53, vi x66]) R R R R R R R Z107 R R f88 R fun w89 S90 f91 => ⟨((S87.tr S90).cl R), Jt1 (Jd (Je [2, 1, 1, 2] R (Jn 1 R (Jl tv R R R R (Jd2 (cs := [vi x53, vi x66]) I107 Z107 R R R (haE f91.cells)) (Ob h fun x71 hx71 h => ?_)))))⟩⟩))))
 have f92 := f80.stp (S87.tr S90) R R
 refine Jh R R R C150 (slices_Index_2_int64_2_int64_ok (κ := fun b => mp [] 0 (K86 b)) (p1 := (x53, x66)) (Jl2 f92.rdc (mp [] 0) R R) hx71) ?_
 rintro _ w93 ⟨k94, rfl, e95⟩
 obtain ⟨K96, S97, m98⟩ := Ji e95 10 R
 refine ⟨tv, Jb 1 R (Jq (Je [2, 2] R (Jb 2 R (Ob h fun q7 h hK100 => Jx1 (fun L w' => ∃ κ' aQ aU, L = [(2, .pointer (some ⟨b2, 0, none⟩)), (3, .pointer (some ⟨b3, 0, none⟩)), (4, .pointer (some ⟨b4, 0, none⟩)), (6, .slice aQ q7.1.length aU), (7, .pointer (some ⟨b7, 0, none⟩)), (8, vi s1.2.1), (9, .slice aB s4.2.length aK), (13, vi q7.2), (48, .slice ax47 x47.length ux47), (49, vi (x47.length : Int)), (50, vi v50)] ∧ Stp [5] K96 w93 κ' w' ∧ Oc (Ep.pair E6 E6) 107 κ' w' 5 aQ aU q7.1) ?_ ?_))))⟩
 revert h
 cases ht105 : decide (x71 < 0)
 refine JF fun h => Jy R (Js ?_)
 cases h
 exact Jw1 _ ⟨K96, aH, aJ, R, (Jx2 _ _).wk R, (f92.stp S97 R R)⟩ (KM R)
 refine JT fun h => Jx R (Je [2, 2, 2] R (Jn 1 R (Jf R (Je2 U108 R R) (Jb 1 R (Ja [2, 1, 1, 1, 2] R (Jn 1 R (Jl tv R R R R (Jd2 (cs := [vi x53, vi x66]) I107 Z107 R R R (haE (f91.stp S97 R R).cells)) (Jn1 (κ := K96) (E := (Ep.pair E6 E6)) 12 [] (parts := [(0, .tmp 77)]) (cells := [vi x53, vi x66]) (xs := ([(x53, x66)] : List (Int × Int))) R R R R R R Y108 Tryzinfo107 R R R R R R R R R R ⟨[vi x53, vi x66], [], Zl K96 w93 [], Zl K96 w93 [], R, Zl.sp (l1 := []) (l2 := []) R, Zl.sr (l1 := []) (l2 := []), ⟨[vi x53], [vi x66], Zl K96 w93 [], Zl K96 w93 [], R, Zl.sp (l1 := []) (l2 := []) R, Zl.sr (l1 := []) (l2 := []), R, R⟩, R⟩ fun bx br w107 K108 S109 f110 => ⟨tv, Ob h fun x79 hx79 h => Jm1 (κ := K108) (E := (Ep.pair E6 E6)) 5 [] R R R R R R R R R Y108 Tryzinfo107 R R R R (f92.stp (S97.tr S109) R R) (Sl.srcP (pu_pair (pu_int _) (pu_int _)) f110.rdc) sy_false hx79 R fun bi bj w112 K113 S114 f115 => ⟨tv, Jc 1 R ?_⟩⟩))))))))
 cases h
 exact Jw1 _ ⟨K113, bi, bj, R, (S109.tr S114).wk R, f115⟩ (KM R)
 rintro _ w101 ⟨K102, aQ, aU, rfl, S103, f104⟩
 have h := hK100
 refine Jp (Ja [2, 2, 1, 1, 2] R (Jn 2 R (Jn1 (κ := K102) (E := E6) 12 [] (parts := [(0, .tmp 81)]) (cells := [vi q7.2]) (xs := ([q7.2] : List Int)) R R R R R R Y40 Tryzinfo2 R R R R R R R R R R ⟨[vi q7.2], [], Zl K102 w101 [], Zl K102 w101 [], R, Zl.sp (l1 := []) (l2 := []) R, Zl.sr (l1 := []) (l2 := []), R, R⟩ fun bu bz w117 K118 S119 f120 => ⟨tv, Ob h fun x83 hx83 h => Jm1 (κ := K118) (E := E6) 8 [] R R R R R R R R R Y40 Tryzinfo2 R R R R (f73.stp (S77.tr (S87.tr (S90.tr (S97.tr (S103.tr S119))))) R R) (Sl.srcP (pu_int _) f120.rdc) sy_false hx83 R fun bh bl w122 K123 S124 f125 => ⟨tv, Jc 1 R (Jz (Jp (Ja [2, 2] R (Jc 2 R ?_))))⟩⟩)))
 have hw61 : IntKind.wrap .i64 (v50 + 1) = v50 + 1 := wr1 hj61 (Jm2 hc61) hN61
 rw [hw61]
 have hc61 := Jm2 hc61
 cases h
 exact Jz1 fun a ha => ⟨k, _, Ja3 _, ⟨K123, v50 + 1, ((q7.1 : (List (Int × Int))), (x83 : (List Int))), aQ, aU, bh, bl, R, (S71.tr (S77.tr (S87.tr (S90.tr (S97.tr (S103.tr (S119.tr S124))))))).wk R, (f104.stp (S119.tr S124) R R), f125, by omega, by omega, hk75⟩, (ha.mm R)⟩
 rintro _ w64 ⟨K65, s6, aN, aO, aL, aM, rfl, S66, f67, f68, rfl⟩
 have h := hK62
 dsimp only [aft] at h
 refine Jp (Jq (Je [2, 2, 2] R (Jn 1 R (Jf R (Je2 U108 R R) (Jb 1 R ?_)))))
 revert h
 cases ht127 : decide (48 < (s6.1.length : Int))
 refine JF fun h => Jy R (Js (Jp (Ja [2, 1, 2, 1, 1, 2, 1] R (Jf R (Jb2 U94 R Z24 R R) ?_))))
 have f133 := f45.stp (S51.tr (S53.tr S66)) R R
 refine Jl tv R R R R (Jc2 I24 R R (hvE (f133.ld 0 R R))) (Jn 1 R (Jn1 (κ := K65) (E := (Ep.own E6 2)) 9 [8] (parts := [(0, .tmp 91)]) (cells := [.slice aL s6.2.length aM]) (xs := ([s6.2] : List (List Int))) R R R R R R Y24 Tryzinfo40 R R R R R R R R R R ⟨[.slice aL s6.2.length aM], [], Zl K65 w64 [8], Zl K65 w64 [], R, Zl.sp (l1 := [8]) (l2 := []) R, Zl.sr (l1 := [8]) (l2 := []), ⟨_, _, R, f68⟩, R⟩ fun bq bB w134 K135 S136 f137 => ⟨tv, Ob h fun x93 hx93 h => Jm1 (κ := K135) (E := (Ep.own E6 2)) 7 [9] R R R R R R R R R Y24 Tryzinfo40 R R R R (f44.stp (S51.tr (S53.tr (S66.tr S136))) R R) f137.src (sy_one R) hx93 R fun bf bg w139 K140 S141 f142 => ⟨tv, Jf R (Jb2 U94 R Z24 R R) (Ji1 (κ := K140) 6 (off := 0) (vc := [.slice bf x93.length bg]) (cs' := [.slice bf x93.length bg, .slice none 0 0]) R R R R R R R Z24 R R (f133.stp (S136.tr S141) R R) R R fun w144 S145 f146 => ⟨tv, Jo (Jz (Jp (Ja [2, 2, 2] R (Jc 3 R ?_))))⟩)⟩⟩))
 cases h
 exact Jz1 fun a ha => ⟨k, _, Ja3 _, ⟨K140, ((s6.1 : (List (Int × Int))), ((IntKind.i64.wrap (s1.2.1 + 1)) : Int), (x93 : (List (List Int)))), aN, aO, bf, bg, R, (S42.tr (S51.tr (S53.tr (S66.tr (S136.tr (S141.tr S145)))))).wk R, (f67.stp (S136.tr (S141.tr S145)) R R), (f142.stp S145 R R), f146, hk47⟩, (ha.mm R)⟩
 refine JT fun h => Jx R (Je [2, 1, 2] R (Jf R (rn_build (parts := []) (cells := [.slice none 0 0, .slice none 0 0]) R R (by kernel_rfl)) (Jj1 (κ := K65) 4 (vc := [.slice none 0 0, .slice none 0 0]) R R R R R R R Z94 R R (f12.stp (S22.tr (S26.tr (S29.tr (S42.tr (S51.tr (S53.tr S66)))))) R R) R fun w129 S130 f131 => ⟨tv, Jb 1 R (Ju (Jw (Ja1 (Jw (Jw ?_)))))⟩)))
 cases h
 obtain rfl := Option.some.inj hk47
 have h := hK32
 dsimp only [aft] at h
 refine Ja1 (Jq2 (Jw (Ja2 (l := [.cell 4 94, .tmp 5]) V120 (res_cellA R f131 I94 Z94 R (Jp2 R R)) R ?_)))
 cases h
 exact ⟨K65, none, 0, none, 0, R, (hE.stp (S3.tr (S7.tr (S11.tr (S22.tr (S26.tr (S29.tr (S42.tr (S51.tr (S53.tr (S66.tr S130)))))))))) R R), Ow.nil, Ow.nil⟩
 rintro _ w34 ⟨K35, s3, aa, ab, ad, ac, rfl, S36, f37, f38, f39, rfl⟩
 have h := hK32
 dsimp only [aft] at h
 have S001 := (S3.tr (S7.tr (S11.tr (S22.tr (S26.tr (S29.tr S36))))))
 have S002 := (S22.tr (S26.tr (S29.tr S36)))
 refine Jp (Jq (Je [1, 1, 1, 2, 2] R (Jl tv R R R R (Jd2 (cs := [.slice ay p0.Next.length aF, .slice aC p0.Pairs.length aD]) I94 Z94 R R R (haE (f13.stp S002 R R).cells)) (Jl tv R R R R (Jd2 (cs := [.slice an p1.Next.length au, .slice aw p1.Pairs.length ar]) I94 Z94 R R R (haE (f14.stp S002 R R).cells)) (Jn1 (κ := K35) (E := (Ep.fz Det.rp)) 8 [] (parts := [(0, .tmp 95), (1, .tmp 96)]) (cells := [.slice ay p0.Next.length aF, .slice aC p0.Pairs.length aD, .slice an p1.Next.length au, .slice aw p1.Pairs.length ar]) (xs := ([p0, p1] : List Det)) R R R R R R Y171 Tryzinfo94 R R R R R R R R R R ⟨[.slice ay p0.Next.length aF, .slice aC p0.Pairs.length aD], [.slice an p1.Next.length au, .slice aw p1.Pairs.length ar], Zl K35 w34 [], Zl K35 w34 [], R, Zl.sp (l1 := []) (l2 := []) R, Zl.sr (l1 := []) (l2 := []), (Det.mk_rel (Sl.z1 (g0_0.stp S001 R R)) (Sl.z1 (g0_1.stp S001 R R))), ⟨[.slice an p1.Next.length au, .slice aw p1.Pairs.length ar], [], Zl K35 w34 [], Zl K35 w34 [], R, Zl.sp (l1 := []) (l2 := []) R, Zl.sr (l1 := []) (l2 := []), (Det.mk_rel (Sl.z1 (g1_0.stp S001 R R)) (Sl.z1 (g1_1.stp S001 R R))), R⟩⟩ fun ah al w155 K156 S157 f158 => ⟨tv, Jf R (Je2 U171 R R) (Jb 1 R ?_)⟩)))))
 have hN159 : (([p0, p1] : List Det).length : Int) ≤ 9223372036854775807 := f158.len_le
 refine Ob h fun q9 hq161 hK160 => ?_
 clear h
 refine Jx1 (fun L w' => ∃ κ', ∃ s10 : (List Pair), ∃ ap aq, L = [(4, .pointer (some ⟨b4, 0, none⟩)), (7, .pointer (some ⟨b7, 0, none⟩))] ∧ Stp [6, 9, 10, 11, 12, 13, 14, 15] K156 w155 κ' w' ∧ Oc Pair.ep92 92 κ' w' 9 ap aq s10 ∧ Bc κ' w' 6 b7 94 [.slice ad s3.2.2.length ac, .slice ap s10.length aq] ∧ q9 = Sum.inr s10) ?_ ?_
 refine Jv (Jy1 (fun k L w' => ∃ κ' v99, ∃ s8 : (List Pair), ∃ aG aE, L = [(4, .pointer (some ⟨b4, 0, none⟩)), (6, .slice aa s3.1.length ab), (7, .pointer (some ⟨b7, 0, none⟩)), (97, .slice ah ([p0, p1] : List Det).length al), (98, vi (([p0, p1] : List Det).length : Int)), (99, vi v99)] ∧ Stp [6, 9, 10, 11, 12, 13, 14, 15] K156 w155 κ' w' ∧ Oc Pair.ep92 92 κ' w' 9 aG aE s8 ∧ Bc κ' w' 6 b7 94 [.slice ad s3.2.2.length ac, .slice aG s8.length aE] ∧ 0 ≤ v99 ∧ Int.toNat ((([p0, p1] : List Det).length : Int) - v99) = k ∧ cntM (i_joinedDet_b4 p0 p1 s3) k v99 s8 = some q9) ⟨_, _, ⟨K156, 0, (([] : List Pair) : (List Pair)), none, 0, R, (Jx2 _ _).wk R, Ow.nil, (f39.stp S157 R R), (by decide), (by simp), hq161⟩, (KM R)⟩ ?_)
 rintro k _ w167 ⟨K168, v99, s8, aG, aE, rfl, S169, f170, f171, hj159, hJ159, h⟩
 rcases k with _ | k
 have hk173 := h; obtain ⟨o159, h⟩ := ex_eq (Sum.inr (Sum.inl s8) : (Det × Bool) ⊕ (((List Pair)) ⊕ ((List Pair))))
 have hc159 : decide (v99 < (([p0, p1] : List Det).length : Int)) = false := Jo2 (by omega)
 refine Je [2] R (Jb 1 R (Jq (Jw2 R hc159 (Jc1 (Jt (Jt ?_))))))
 cases h
 have h := hk173
 refine Jb1 ?_
 cases h
 exact Jw1 _ ⟨K168, (s8 : (List Pair)), aG, aE, R, S169.wk R, f170, f171, R⟩ (KM R)
 obtain ⟨o159, h, hk173⟩ := BI h; unfold i_joinedDet_b4 at h
 have hc159 : decide (v99 < (([p0, p1] : List Det).length : Int)) = true := Jn2 (by omega)
 refine Je [2] R (Jb 1 R (Jq (Jv2 R hc159 (Js (Jp (Jq (Jv (Je [2, 2, 1, 1, 2, 1] R (Jn 1 R (Ob h fun x102 hx102 h => Jf R (Jf2 f158.rdc hx102 U171 Z94 R R R R) ?_))))))))))
 obtain ⟨cse175, hre175, hle175⟩ := ((f158.stp S169 R R).rdc).gSt hx102
 obtain ⟨ae175_0, ue175_0, ae175_1, ue175_1, rfl, fe175_0, fe175_1⟩ := Det.un hre175
 refine Jl tv R R R R (Jd2 (cs := [.slice ae175_0 x102.Next.length ue175_0, .slice ae175_1 x102.Pairs.length ue175_1]) I94 Z94 R R R (haE hle175)) (Jg1 (κ := K168) 10 R R R R R X94 R fun b15 w176 K177 S178 f179 => ⟨tv, Jn 1 R (Jj1 (κ := K177) 10 (vc := [.slice ae175_0 x102.Next.length ue175_0, .slice ae175_1 x102.Pairs.length ue175_1]) R R R R R R R Z94 R R f179 R fun w180 S181 f182 => ⟨tv, Jd (Je [2, 1, 2, 2] R (Jf R (Jb2 U94 R Z79 R R) (Jl tv R R R R (Jc2 I79 R R (hvE (f182.ld 1 R R))) (Jf R (Je2 U79 R R) (Jb 1 R ?_)))))⟩)⟩)
 have hN183 : (x102.Pairs.length : Int) ≤ 9223372036854775807 := fe175_1.len_le
 refine Ob h fun q12 hq185 hK184 => ?_
 clear h
 refine Jx1 (fun L w' => ∃ κ', ∃ s13 : (List Pair), ∃ aV aX, L = [(4, .pointer (some ⟨b4, 0, none⟩)), (6, .slice aa s3.1.length ab), (7, .pointer (some ⟨b7, 0, none⟩)), (97, .slice ah ([p0, p1] : List Det).length al), (98, vi (([p0, p1] : List Det).length : Int)), (99, vi v99)] ∧ Stp [6, 9, 11, 12, 13, 14, 15] K177 w180 κ' w' ∧ Oc Pair.ep92 92 κ' w' 9 aV aX s13 ∧ Bc κ' w' 6 b7 94 [.slice ad s3.2.2.length ac, .slice aV s13.length aX] ∧ q12 = Sum.inr s13) ?_ ?_
 refine Jv (Jy1 (fun k L w' => ∃ κ' v107, ∃ s11 : (List Pair), ∃ aP aS, L = [(4, .pointer (some ⟨b4, 0, none⟩)), (6, .slice aa s3.1.length ab), (7, .pointer (some ⟨b7, 0, none⟩)), (14, vi v99), (97, .slice ah ([p0, p1] : List Det).length al), (98, vi (([p0, p1] : List Det).length : Int)), (99, vi v99), (105, .slice ae175_1 x102.Pairs.length ue175_1), (106, vi (x102.Pairs.length : Int)), (107, vi v107)] ∧ Stp [6, 9, 11, 12, 13, 14, 15] K177 w180 κ' w' ∧ Oc Pair.ep92 92 κ' w' 9 aP aS s11 ∧ Bc κ' w' 6 b7 94 [.slice ad s3.2.2.length ac, .slice aP s11.length aS] ∧ 0 ≤ v107 ∧ Int.toNat ((x102.Pairs.length : Int) - v107) = k ∧ cntM (i_joinedDet_b6 s3 v99 x102) k v107 s11 = some q12) ⟨_, _, ⟨K177, 0, (s8 : (List Pair)), aG, aE, R, (Jx2 _ _).wk R, (f170.stp (S178.tr S181) R R), (f171.stp (S178.tr S181) R R), (by decide), (by simp), hq185⟩, (KM R)⟩ ?_)
 rintro k _ w191 ⟨K192, v107, s11, aP, aS, rfl, S193, f194, f195, hj183, hJ183, h⟩
 rcases k with _ | k
 have hk198 := h; obtain ⟨o183, h⟩ := ex_eq (Sum.inr (Sum.inl s11) : (Det × Bool) ⊕ (((List Pair)) ⊕ ((List Pair))))
 have hc183 : decide (v107 < (x102.Pairs.length : Int)) = false := Jo2 (by omega)
 refine Je [2] R (Jb 1 R (Jq (Jw2 R hc183 (Jc1 (Jt (Jt ?_))))))
 cases h
 have h := hk198
 refine Jb1 ?_
 cases h
 exact Jw1 _ ⟨K192, (s11 : (List Pair)), aP, aS, R, S193.wk R, f194, f195, R⟩ (KM R)
 obtain ⟨o183, h, hk198⟩ := BI h; unfold i_joinedDet_b6 at h
 have hc183 : decide (v107 < (x102.Pairs.length : Int)) = true := Jn2 (by omega)
 refine Je [2] R (Jb 1 R (Jq (Jv2 R hc183 (Js (Jp (Jq (Jv (Je [2, 1, 1, 1] R (Ob h fun x109 hx109 h => Jf R (Jf2 fe175_1 hx109 U79 Z92 R R R R) ?_)))))))))
 obtain ⟨cse200, hre200, hle200⟩ := ((fe175_1.stp (S178.tr (S181.tr S193)) R R)).gSt hx109
 obtain ⟨ae200_0, ue200_0, ae200_1, ue200_1, rfl, fe200_0, fe200_1⟩ := Pair.un hre200
 refine Jl tv R R R R (Jd2 (cs := [.slice ae200_0 x109.Ask.length ue200_0, .slice ae200_1 x109.Give.length ue200_1]) I92 Z92 R R R (haE hle200)) (Jg1 (κ := K192) 11 R R R R R X92 R fun b17 w201 K202 S203 f204 => ⟨tv, Jj1 (κ := K202) 11 (vc := [.slice ae200_0 x109.Ask.length ue200_0, .slice ae200_1 x109.Give.length ue200_1]) R R R R R R R Z92 R R f204 R fun w205 S206 f207 => ⟨tv, Jd (Je [2, 1, 1] R (Jf R (rn_build (parts := []) (cells := [.slice none 0 0, .slice none 0 0]) R R (by kernel_rfl)) (Jg1 (κ := K202) 12 R R R R R X92 R fun b18 w208 K209 S210 f211 => ⟨tv, Jj1 (κ := K209) 12 (vc := [.slice none 0 0, .slice none 0 0]) R R R R R R R Z92 R R f211 R fun w212 S213 f214 => ⟨tv, Jd (Jq (Je [2, 2, 2] R (Jn 1 R (Jf R (Je2 U108 R R) (Jb 1 R ?_)))))⟩⟩)))⟩⟩)
 have hN215 : (s3.1.length : Int) ≤ 9223372036854775807 := f37.len_le
 refine Ob h fun q15 hq217 hK216 => ?_
 clear h
 refine Jx1 (fun L w' => ∃ κ', ∃ s16 : (List Int) × (List Int), ∃ af ak aj ai, L = [(4, .pointer (some ⟨b4, 0, none⟩)), (6, .slice aa s3.1.length ab), (7, .pointer (some ⟨b7, 0, none⟩)), (14, vi v99), (18, .pointer (some ⟨b18, 0, none⟩)), (97, .slice ah ([p0, p1] : List Det).length al), (98, vi (([p0, p1] : List Det).length : Int)), (99, vi v99), (105, .slice ae175_1 x102.Pairs.length ue175_1), (106, vi (x102.Pairs.length : Int)), (107, vi v107)] ∧ Stp [12, 13, 14, 15] K209 w212 κ' w' ∧ Oc E6 2 κ' w' 13 af ak s16.1 ∧ Oc E6 2 κ' w' 14 aj ai s16.2 ∧ Bc κ' w' 12 b18 92 [.slice af s16.1.length ak, .slice aj s16.2.length ai] ∧ q15 = Sum.inr s16) ?_ ?_
 refine Jv (Jy1 (fun k L w' => ∃ κ' v114, ∃ s14 : (List Int) × (List Int), ∃ aA ax am ae, L = [(4, .pointer (some ⟨b4, 0, none⟩)), (6, .slice aa s3.1.length ab), (7, .pointer (some ⟨b7, 0, none⟩)), (14, vi v99), (17, .pointer (some ⟨b17, 0, none⟩)), (18, .pointer (some ⟨b18, 0, none⟩)), (97, .slice ah ([p0, p1] : List Det).length al), (98, vi (([p0, p1] : List Det).length : Int)), (99, vi v99), (105, .slice ae175_1 x102.Pairs.length ue175_1), (106, vi (x102.Pairs.length : Int)), (107, vi v107), (112, .slice aa s3.1.length ab), (113, vi (s3.1.length : Int)), (114, vi v114)] ∧ Stp [12, 13, 14, 15] K209 w212 κ' w' ∧ Oc E6 2 κ' w' 13 aA ax s14.1 ∧ Oc E6 2 κ' w' 14 am ae s14.2 ∧ Bc κ' w' 12 b18 92 [.slice aA s14.1.length ax, .slice am s14.2.length ae] ∧ 0 ≤ v114 ∧ Int.toNat ((s3.1.length : Int) - v114) = k ∧ cntM (i_joinedDet_b8 s3 v99 x109) k v114 s14 = some q15) ⟨_, _, ⟨K209, 0, ((([] : List Int) : (List Int)), (([] : List Int) : (List Int))), none, 0, none, 0, R, (Jx2 _ _).wk R, Ow.nil, Ow.nil, f214, (by decide), (by simp), hq217⟩, (KM R)⟩ ?_)
 rintro k _ w224 ⟨K225, v114, s14, aA, ax, am, ae, rfl, S226, f227, f228, f229, hj215, hJ215, h⟩
 rcases k with _ | k
 have hk230 := h; obtain ⟨o215, h⟩ := ex_eq (Sum.inr (Sum.inl s14) : (Det × Bool) ⊕ (((List Int) × (List Int)) ⊕ ((List Int) × (List Int))))
 have hc215 : decide (v114 < (s3.1.length : Int)) = false := Jo2 (by omega)
 refine Je [2] R (Jb 1 R (Jq (Jw2 R hc215 (Jc1 (Jt (Jt ?_))))))
 cases h
 have h := hk230
 refine Jb1 ?_
 cases h
 exact Jw1 _ ⟨K225, ((s14.1 : (List Int)), (s14.2 : (List Int))), aA, ax, am, ae, R, S226.wk R, f227, f228, f229, R⟩ (KM R)
 obtain ⟨o215, h, hk230⟩ := BI h; unfold i_joinedDet_b8 at h
 have hc215 : decide (v114 < (s3.1.length : Int)) = true := Jn2 (by omega)
 refine Je [2] R (Jb 1 R (Jq (Jv2 R hc215 (Js (Jp (Jq (Jv (Je [2, 2, 1, 1, 2, 1] R (Jn 1 R (Ob h fun x117 hx117 h => Jf R (Jf2 f37.rdc hx117 U108 Z107 R R R R) ?_))))))))))
 obtain ⟨cse232, hre232, hle232⟩ := ((f37.stp (S157.tr (S169.tr (S178.tr (S181.tr (S193.tr (S203.tr (S206.tr (S210.tr (S213.tr S226))))))))) R R).rdc).gSt hx117
 obtain ⟨_, _, rfl, rfl, rfl⟩ := hre232
 refine Jl tv R R R R (Jd2 (cs := [vi x117.1, vi x117.2]) I107 Z107 R R R (haE hle232)) (Jg1 (κ := K225) 15 R R R R R X107 R fun b20 w233 K234 S235 f236 => ⟨tv, Jn 1 R (Jj1 (κ := K234) 15 (vc := [vi x117.1, vi x117.2]) R R R R R R R Z107 R R f236 R fun w237 S238 f239 => ⟨tv, Jd (Jq (Jq (Js1 (κ := K234) [11, 15] none [(0, 2), (2, 2), (3, 2), (1, 0), (4, 0), (5, 1)] [] (by kernel_rfl) (by kernel_rfl) fun w241 S240 => Jf R (Jb2 U92 R Z40 R R) (Jn 1 R (Ob h fun x122 hx122 h => Jf R (rn_indexD (xs := ([x117.1, x117.2] : List Int)) (p := ⟨b20, 0, none⟩) hx122 R U107 Z2 R R R) ?_)))))⟩)⟩)
 have f242 := f207.stp (S210.tr (S213.tr (S226.tr (S235.tr (S238.tr S240))))) R R
 refine Jg R (Jc2 I40 R R (hvC (f242.ld 0 R R) R)) ?_
 have f243 := f239.stp S240 R R
 refine Jg R (Jc2 I2 R R (hvC (f243.ldD (xs := ([x117.1, x117.2] : List Int)) 0 R hx122 R) R)) (Ob h fun x124 hx124 h => Jh R R R C73 (slices_Contains_I_int64_ok (κ := fun b => mp [] 0 (K234 b)) (Jl2 (fe200_0.stp (S203.tr (S206.tr (S210.tr (S213.tr (S226.tr (S235.tr (S238.tr S240))))))) R R) (mp [] 0) R R) hx124) ?_)
 rintro _ w245 ⟨k246, rfl, e247⟩
 obtain ⟨K248, S249, m250⟩ := Ji e247 16 R
 refine ⟨(S249.cl R), Jt1 (Jd (Ob h fun q17 h hK252 => Jx1 (fun L w' => ∃ κ' av ao, L = [(4, .pointer (some ⟨b4, 0, none⟩)), (6, .slice aa s3.1.length ab), (7, .pointer (some ⟨b7, 0, none⟩)), (14, vi v99), (17, .pointer (some ⟨b17, 0, none⟩)), (18, .pointer (some ⟨b18, 0, none⟩)), (19, vi v114), (20, .pointer (some ⟨b20, 0, none⟩)), (97, .slice ah ([p0, p1] : List Det).length al), (98, vi (([p0, p1] : List Det).length : Int)), (99, vi v99), (105, .slice ae175_1 x102.Pairs.length ue175_1), (106, vi (x102.Pairs.length : Int)), (107, vi v107), (112, .slice aa s3.1.length ab), (113, vi (s3.1.length : Int)), (114, vi v114)] ∧ Stp [12, 13] K248 w245 κ' w' ∧ Oc E6 2 κ' w' 13 av ao q17 ∧ Bc κ' w' 12 b18 92 [.slice av q17.length ao, .slice am s14.2.length ae]) ?_ ?_))⟩
 revert h
 cases ht258 : x124
 refine JF fun h => Jy R (Js ?_)
 cases h
 have S003 := (S235.tr (S238.tr (S240.tr S249)))
 exact Jw1 _ ⟨K248, aA, ax, R, (Jx2 _ _).wk R, (f227.stp S003 R R), (f229.stp S003 R R)⟩ (KM R)
 refine JT fun h => Jx R (Ja [2, 1, 2, 1, 1, 2, 1] R (Jf R (Jb2 U92 R Z40 R R) ?_))
 have f259 := f229.stp (S235.tr (S238.tr (S240.tr S249))) R R
 refine Jl tv R R R R (Jc2 I40 R R (hvE (f259.ld 0 R R))) (Jn 1 R (Jn1 (κ := K248) (E := E6) 18 [] (parts := [(0, .tmp 127)]) (cells := [vi v114]) (xs := ([v114] : List Int)) R R R R R R Y40 Tryzinfo2 R R R R R R R R R R ⟨[vi v114], [], Zl K248 w245 [], Zl K248 w245 [], R, Zl.sp (l1 := []) (l2 := []) R, Zl.sr (l1 := []) (l2 := []), R, R⟩ fun bv bw w260 K261 S262 f263 => ⟨tv, Ob h fun x129 hx129 h => Jm1 (κ := K261) (E := E6) 13 [] R R R R R R R R R Y40 Tryzinfo2 R R R R (f227.stp (S235.tr (S238.tr (S240.tr (S249.tr S262)))) R R) (Sl.srcP (pu_int _) f263.rdc) sy_false hx129 R fun bc bd w265 K266 S267 f268 => ⟨tv, Jf R (Jb2 U92 R Z40 R R) (Ji1 (κ := K266) 12 (off := 0) (vc := [.slice bc x129.length bd]) (cs' := [.slice bc x129.length bd, .slice am s14.2.length ae]) R R R R R R R Z40 R R (f259.stp (S262.tr S267) R R) R R fun w270 S271 f272 => ⟨tv, Jo ?_⟩)⟩⟩))
 cases h
 exact Jw1 _ ⟨K266, bc, bd, R, (S262.tr (S267.tr S271)).wk R, (f268.stp S271 R R), f272⟩ (KM R)
 rintro _ w253 ⟨K254, av, ao, rfl, S255, f256, f257⟩
 have h := hK252
 refine Jp (Jq (Js1 (κ := K254) [11, 15] none [(0, 2), (2, 2), (3, 2), (1, 0), (4, 0), (5, 1)] [] (by kernel_rfl) (by kernel_rfl) fun w277 S276 => Jf R (Jb2 U92 R Z40 R R) (Jn 1 R (Ob h fun x134 hx134 h => Jf R (rn_indexD (xs := ([x117.1, x117.2] : List Int)) (p := ⟨b20, 0, none⟩) hx134 R U107 Z2 R R R) (Jg R (Jc2 I40 R R (hvC ((f242.stp (S249.tr (S255.tr S276)) R R).ld 1 R R) R)) (Jg R (Jc2 I2 R R (hvC ((f243.stp (S249.tr (S255.tr S276)) R R).ldD (xs := ([x117.1, x117.2] : List Int)) 0 R hx134 R) R)) (Ob h fun x136 hx136 h => Jh R R R C73 (slices_Contains_I_int64_ok (κ := fun b => mp [] 0 (K254 b)) (Jl2 (fe200_1.stp (S203.tr (S206.tr (S210.tr (S213.tr (S226.tr (S235.tr (S238.tr (S240.tr (S249.tr (S255.tr S276)))))))))) R R) (mp [] 0) R R) hx136) ?_)))))))
 rintro _ w281 ⟨k282, rfl, e283⟩
 obtain ⟨K284, S285, m286⟩ := Ji e283 18 R
 refine ⟨(S285.cl R), Jt1 (Jd (Ob h fun q18 h hK288 => Jx1 (fun L w' => ∃ κ' aW aR, L = [(4, .pointer (some ⟨b4, 0, none⟩)), (6, .slice aa s3.1.length ab), (7, .pointer (some ⟨b7, 0, none⟩)), (14, vi v99), (17, .pointer (some ⟨b17, 0, none⟩)), (18, .pointer (some ⟨b18, 0, none⟩)), (97, .slice ah ([p0, p1] : List Det).length al), (98, vi (([p0, p1] : List Det).length : Int)), (99, vi v99), (105, .slice ae175_1 x102.Pairs.length ue175_1), (106, vi (x102.Pairs.length : Int)), (107, vi v107), (112, .slice aa s3.1.length ab), (113, vi (s3.1.length : Int)), (114, vi v114)] ∧ Stp [12, 14] K284 w281 κ' w' ∧ Oc E6 2 κ' w' 14 aW aR q18 ∧ Bc κ' w' 12 b18 92 [.slice av q17.length ao, .slice aW q18.length aR]) ?_ ?_))⟩
 revert h
 cases ht294 : x136
 refine JF fun h => Jy R (Js ?_)
 cases h
 exact Jw1 _ ⟨K284, am, ae, R, (Jx2 _ _).wk R, (f228.stp (S235.tr (S238.tr (S240.tr (S249.tr (S255.tr (S276.tr S285)))))) R R), (f257.stp (S276.tr S285) R R)⟩ (KM R)
 refine JT fun h => Jx R (Ja [2, 1, 2, 1, 1, 2, 1] R (Jf R (Jb2 U92 R Z40 R R) ?_))
 have f295 := f257.stp (S276.tr S285) R R
 refine Jl tv R R R R (Jc2 I40 R R (hvE (f295.ld 1 R R))) (Jn 1 R (Jn1 (κ := K284) (E := E6) 20 [] (parts := [(0, .tmp 139)]) (cells := [vi v114]) (xs := ([v114] : List Int)) R R R R R R Y40 Tryzinfo2 R R R R R R R R R R ⟨[vi v114], [], Zl K284 w281 [], Zl K284 w281 [], R, Zl.sp (l1 := []) (l2 := []) R, Zl.sr (l1 := []) (l2 := []), R, R⟩ fun bs bt w296 K297 S298 f299 => ⟨tv, Ob h fun x141 hx141 h => Jm1 (κ := K297) (E := E6) 14 [] R R R R R R R R R Y40 Tryzinfo2 R R R R (f228.stp (S235.tr (S238.tr (S240.tr (S249.tr (S255.tr (S276.tr (S285.tr S298))))))) R R) (Sl.srcP (pu_int _) f299.rdc) sy_false hx141 R fun aZ be w301 K302 S303 f304 => ⟨tv, Jf R (Jb2 U92 R Z40 R R) (Ji1 (κ := K302) 12 (off := 1) (vc := [.slice aZ x141.length be]) (cs' := [.slice av q17.length ao, .slice aZ x141.length be]) R R R R R R R Z40 R R (f295.stp (S298.tr S303) R R) R R fun w306 S307 f308 => ⟨tv, Jo ?_⟩)⟩⟩))
 cases h
 exact Jw1 _ ⟨K302, aZ, be, R, (S298.tr (S303.tr S307)).wk R, (f304.stp S307 R R), f308⟩ (KM R)
 rintro _ w289 ⟨K290, aW, aR, rfl, S291, f292, f293⟩
 have h := hK288
 refine Jz (Jp (Ja [2, 2] R (Jc 2 R ?_)))
 have hw215 : IntKind.wrap .i64 (v114 + 1) = v114 + 1 := wr1 hj215 (Jm2 hc215) hN215
 rw [hw215]
 have hc215 := Jm2 hc215
 cases h
 exact Jz1 fun a ha => ⟨k, _, Ja3 _, ⟨K290, v114 + 1, ((q17 : (List Int)), (q18 : (List Int))), av, ao, aW, aR, R, (S226.tr (S235.tr (S238.tr (S240.tr (S249.tr (S255.tr (S276.tr (S285.tr S291)))))))).wk R, (f256.stp (S276.tr (S285.tr S291)) R R), f292, f293, by omega, by omega, hk230⟩, (ha.mm R)⟩
 rintro _ w218 ⟨K219, s16, af, ak, aj, ai, rfl, S220, f221, f222, f223, rfl⟩
 have h := hK216
 dsimp only [aft] at h
 refine Jp (Ja [2, 1, 1, 1, 1, 2, 1] R (Jf R (Jb2 U94 R Z79 R R) ?_))
 have f313 := f195.stp (S203.tr (S206.tr (S210.tr (S213.tr S220)))) R R
 refine Jl tv R R R R (Jc2 I79 R R (hvE (f313.ld 1 R R))) (Jl tv R R R R (Jd2 (cs := [.slice af s16.1.length ak, .slice aj s16.2.length ai]) I92 Z92 R R R (haE f223.cells)) (Jn1 (κ := K219) (E := Pair.ep92) 15 [13, 14] (parts := [(0, .tmp 146)]) (cells := [.slice af s16.1.length ak, .slice aj s16.2.length ai]) (xs := ([(⟨s16.1, s16.2⟩ : Pair)] : List Pair)) R R R R R R Y79 Tryzinfo92 R R R R R R R R R R ⟨[.slice af s16.1.length ak, .slice aj s16.2.length ai], [], Zl K219 w218 [13, 14], Zl K219 w218 [], R, Zl.sp (l1 := [13, 14]) (l2 := []) R, Zl.sr (l1 := [13, 14]) (l2 := []), ⟨[.slice af s16.1.length ak], [.slice aj s16.2.length ai], Zl K219 w218 [13], Zl K219 w218 [14], R, Zl.sp (l1 := [13]) (l2 := [14]) R, Zl.sr (l1 := [13]) (l2 := [14]), ⟨_, _, R, f221⟩, ⟨_, _, R, f222⟩⟩, R⟩ fun bA bp w314 K315 S316 f317 => ⟨tv, Ob h fun x148 hx148 h => Jm1 (κ := K315) (E := Pair.ep92) 9 [15] R R R R R R R R R Y79 Tryzinfo92 R R R R (f194.stp (S203.tr (S206.tr (S210.tr (S213.tr (S220.tr S316))))) R R) f317.src (sy_one R) hx148 R fun bb ba w319 K320 S321 f322 => ⟨tv, Jf R (Jb2 U94 R Z79 R R) (Ji1 (κ := K320) 6 (off := 1) (vc := [.slice bb x148.length ba]) (cs' := [.slice ad s3.2.2.length ac, .slice bb x148.length ba]) R R R R R R R Z79 R R (f313.stp (S316.tr S321) R R) R R fun w324 S325 f326 => ⟨tv, Jo (Jz (Jp (Ja [2, 2] R (Jc 2 R ?_))))⟩)⟩⟩))
 have hw183 : IntKind.wrap .i64 (v107 + 1) = v107 + 1 := wr1 hj183 (Jm2 hc183) hN183
 rw [hw183]
 have hc183 := Jm2 hc183
 cases h
 exact Jz1 fun a ha => ⟨k, _, Ja3 _, ⟨K320, v107 + 1, (x148 : (List Pair)), bb, ba, R, (S193.tr (S203.tr (S206.tr (S210.tr (S213.tr (S220.tr (S316.tr (S321.tr S325)))))))).wk R, (f322.stp S325 R R), f326, by omega, by omega, hk198⟩, (ha.mm R)⟩
 rintro _ w186 ⟨K187, s13, aV, aX, rfl, S188, f189, f190, rfl⟩
 have h := hK184
 dsimp only [aft] at h
 refine Jz (Jp (Ja [2, 2] R (Jc 2 R ?_)))
 have hw159 : IntKind.wrap .i64 (v99 + 1) = v99 + 1 := wr1 hj159 (Jm2 hc159) hN159
 rw [hw159]
 have hc159 := Jm2 hc159
 cases h
 exact Jz1 fun a ha => ⟨k, _, Ja3 _, ⟨K187, v99 + 1, (s13 : (List Pair)), aV, aX, R, (S169.tr (S178.tr (S181.tr S188))).wk R, f189, f190, by omega, by omega, hk173⟩, (ha.mm R)⟩
 rintro _ w162 ⟨K163, s10, ap, aq, rfl, S164, f165, f166, rfl⟩
 have h := hK160
 dsimp only [aft] at h
 refine Jp (Je [1, 1, 2] R (Jl tv R R R R (Jd2 (cs := [.slice ad s3.2.2.length ac, .slice ap s10.length aq]) I94 Z94 R R R (haE f166.cells)) (Jj1 (κ := K163) 4 (vc := [.slice ad s3.2.2.length ac, .slice ap s10.length aq]) R R R R R R R Z94 R R (f12.stp (S22.tr (S26.tr (S29.tr (S36.tr (S157.tr S164))))) R R) R fun w329 S330 f331 => ⟨tv, Jb 1 R (Ju (Ja2 (l := [.cell 4 94, .tmp 5]) V120 (res_cellA R f331 I94 Z94 R (Jp2 R R)) R ?_))⟩)))
 cases h
 exact ⟨(fun b => ren [(7, 2), (9, 3)] (K163 b)), ad, ac, ap, aq, R, ((hE.stp (S3.tr (S7.tr (S11.tr (S22.tr (S26.tr (S29.tr (S36.tr (S157.tr (S164.tr S330))))))))) R R).map (ren [(7, 2), (9, 3)]) R R), ((f38.stp (S157.tr (S164.tr S330)) R R).map (ren [(7, 2), (9, 3)]) R R), ((f165.stp S330 R R).map (ren [(7, 2), (9, 3)]) R R)⟩
 refine JT fun h => Jx R (Je [2, 1, 2] R (Jf R (rn_build (parts := []) (cells := [.slice none 0 0, .slice none 0 0]) R R (by kernel_rfl)) (Jj1 (κ := K10) 4 (vc := [.slice none 0 0, .slice none 0 0]) R R R R R R R Z94 R R f12 R fun w16 S17 f18 => ⟨tv, Jb 1 R (Ju (Jw (Ja2 (l := [.cell 4 94, .tmp 5]) V120 (res_cellA R f18 I94 Z94 R (Jp2 R R)) R ?_)))⟩)))
 cases h
 exact ⟨K10, none, 0, none, 0, R, (hE.stp (S3.tr (S7.tr (S11.tr S17))) R R), Ow.nil, Ow.nil⟩
theorem i_watch_outside_ok {w : World} {κ : Col} {ae af ad ah ac ai} {p0 : watch} {a1 u1} {p1 : (List Int)} {b0} (g0_0 : Rd (Rp.sl (Rp.int .i64)) κ w 0 ae af p0.next) (g0_1 : Rd (Rp.sl (Rp.int .i64)) κ w 0 ad ah p0.letters) (g0_2 : Rd Pair.rp κ w 0 ac ai p0.pairs) (g1 : Rd (Rp.int .i64) κ w 0 a1 u1 p1) (gb0 : Bc κ w 0 b0 120 [.slice ae p0.next.length af, .slice ad p0.letters.length ah, .slice ac p0.pairs.length ai]) {r : (List Bool)} (h : i_watch_outside p0 p1 = some r) : Ret Tryz.prog 131 [.pointer (some ⟨b0, 0, none⟩), .slice a1 p1.length u1] w (fun v w' => ∃ (κ' : Col) (ra0 : Option Addr) (ru0 : Nat), v = .slice ra0 r.length ru0 ∧ Ent κ w κ' w' ∧ Oc Ep.bool 4 κ' w' 2 ra0 ru0 r) := by
 unfold i_watch_outside at h
 refine Ret.enter F131 R N131 R ?_
 dsimp only [envOf]
 have hE := Ent.refl κ w
 refine Je [2] R (Jb 1 R (Je [2, 2, 2, 1, 2, 1, 2] R (Jn 1 R (Jf R (rn_nilCheck R R) (Jf R (Jb2 U120 R Z24 R R) (Jl tv R R R R (Jc2 I24 R R (hvE (gb0.ld 0 R R))) (Jf R (Je2 U24 R R) (Ob h fun x12 hx12 h => Jl1 (κ := κ) (E := Ep.bool) (z := (false : Bool)) 2 R R R R R R R Y135 Tryzinfo4 R R R R R (fun _ _ _ => R) (Ju2 hx12) fun aa ab w1 K2 S3 f4 => ⟨tv, Jb 1 R (Jq (Je [2, 2, 2] R (Jn 1 R (Jf R (Je2 U135 R R) (Jb 1 R ?_)))))⟩))))))))
 have hN5 : (x12.length : Int) ≤ 9223372036854775807 := f4.len_le
 refine Ob h fun q2 hq7 hK6 => ?_
 clear h
 refine Jx1 (fun L w' => ∃ κ', ∃ s3 : (List Bool), L = [(0, .pointer (some ⟨b0, 0, none⟩)), (5, .slice aa x12.length ab)] ∧ Stp [2] K2 w1 κ' w' ∧ Oc Ep.bool 4 κ' w' 2 aa ab s3 ∧ x12.length = s3.length ∧ q2 = Sum.inr s3) ?_ ?_
 refine Jv (Jy1 (fun k L w' => ∃ κ' v15, ∃ s1 : (List Bool), L = [(0, .pointer (some ⟨b0, 0, none⟩)), (1, .slice a1 p1.length u1), (5, .slice aa x12.length ab), (14, vi (x12.length : Int)), (15, vi v15)] ∧ Stp [2] K2 w1 κ' w' ∧ Oc Ep.bool 4 κ' w' 2 aa ab s1 ∧ x12.length = s1.length ∧ 0 ≤ v15 ∧ Int.toNat ((x12.length : Int) - v15) = k ∧ cntM (i_watch_outside_b0 p1) k v15 s1 = some q2) ⟨_, _, ⟨K2, 0, (x12 : (List Bool)), R, (Jx2 _ _).wk R, f4, R, (by decide), (by simp), hq7⟩, (KM R)⟩ ?_)
 rintro k _ w13 ⟨K14, v15, s1, rfl, S15, f16, hn17, hj5, hJ5, h⟩
 rcases k with _ | k
 have hk18 := h; obtain ⟨o5, h⟩ := ex_eq (Sum.inr (Sum.inl s1) : (List Bool) ⊕ (((List Bool)) ⊕ ((List Bool))))
 have hc5 : decide (v15 < (x12.length : Int)) = false := Jo2 (by omega)
 refine Je [2] R (Jb 1 R (Jq (Jw2 R hc5 (Jc1 (Jt (Jt ?_))))))
 cases h
 have h := hk18
 refine Jb1 ?_
 cases h
 exact Jw1 _ ⟨K14, (s1 : (List Bool)), R, S15.wk R, f16, hn17, R⟩ (KM R)
 obtain ⟨o5, h, hk18⟩ := BI h; unfold i_watch_outside_b0 at h
 have hc5 : decide (v15 < (x12.length : Int)) = true := Jn2 (by omega)
 refine Je [2] R (Jb 1 R (Jq (Jv2 R hc5 (Js (Jp (Jq (Jv (Je [2, 2] R (Jb 2 R (Ja [2, 2, 2, 2, 1, 2, 2, 1] R (Jn 4 R (Ob h fun x22 hx22 h => Jh R R R C73 (slices_Contains_I_int64_ok (κ := fun b => mp [] 0 (K14 b)) (Jl2 (g1.stp (S3.tr S15) R R) (mp [] 0) R R) hx22) ?_))))))))))))
 rintro _ w20 ⟨k21, rfl, e22⟩
 obtain ⟨K23, S24, m25⟩ := Ji e22 3 R
 refine ⟨tv, Jn 1 R (Ob h fun x24 hx24 h => Jf R (Jf2 f16.rdc hx24 U135 Z4 R R hn17 R) (Ob h fun y102 hy102 h => Jk1 (κ := K23) (E := Ep.bool) 2 [] R R R R R R R R Z4 R R R R (f16.stp S24 R R) hy102 fun w28 K29 S30 f31 => ⟨tv, ?_⟩))⟩
 have hn32 : x12.length = y102.length := hn17.trans (Jt2 hy102).2.2.2.symm
 refine Jo (Jz (Jp (Ja [2, 2] R (Jc 2 R ?_))))
 have hw5 : IntKind.wrap .i64 (v15 + 1) = v15 + 1 := wr1 hj5 (Jm2 hc5) hN5
 rw [hw5]
 have hc5 := Jm2 hc5
 cases h
 exact Jz1 fun a ha => ⟨k, _, Ja3 _, ⟨K29, v15 + 1, (y102 : (List Bool)), R, (S15.tr (S24.tr S30)).wk R, f31, hn32, by omega, by omega, hk18⟩, (ha.mm R)⟩
 rintro _ w8 ⟨K9, s3, rfl, S10, f11, hn12, rfl⟩
 have h := hK6
 dsimp only [aft] at h
 refine Jp (Je [2, 2] R (Jb 2 R (Ju (Ja2 (l := [.tmp 4]) V131 (Jp2 R R) R ?_))))
 cases h
 exact ⟨K9, aa, ab, (by simp only [hn12]), (hE.stp (S3.tr S10) R R), f11⟩
theorem s_MachineOk_ok {w : World} {κ : Col} {p0 : Sig} {ab ad aa ac} {p1 : Machine} (g1_0 : Rd (Rp.sl (Rp.int .i64)) κ w 0 ab ad p1.Next) (g1_1 : Rd (Rp.sl (Rp.int .i64)) κ w 0 aa ac p1.Out) {r : Bool} (h : s_MachineOk p0 p1 = some r) : Ret Tryz.prog 97 [.agg #[vi p0.In, vi p0.Out], .agg #[.slice ab p1.Next.length ad, .slice aa p1.Out.length ac]] w (fun v w' => ∃ (κ' : Col), v = .bool r ∧ Ent κ w κ' w') := by
 unfold s_MachineOk at h
 refine Ret.enter F97 R N97 R ?_
 dsimp only [envOf]
 have hE := Ent.refl κ w
 refine Je [1, 1, 2] R (Jf1 (κ := κ) 2 R R R R R R R fun b2 w1 K2 S3 f4 => ⟨tv, Jf1 (κ := K2) 3 R R R R R R R fun b3 w5 K6 S7 f8 => ⟨tv, Jb 1 R (Je [2, 1, 2, 2] R (Jf R (Jb2 U33 R Z24 R R) (Jl tv R R R R (Jc2 I24 R R (hvE (f8.ld 0 R R))) (Jf R (Je2 U24 R R) (Jb 1 R (Jq (Je [1, 1, 2, 2, 2, 1, 2, 2, 2, 2, 1, 2, 2, 1, 2, 2, 2] R ?_)))))))⟩⟩)
 have f9 := f4.stp S7 R R
 refine Jl tv R R R R (Jd2 (cs := [vi p0.In, vi p0.Out]) I31 Z31 R R R (haE f9.cells)) (Ob h fun x11 hx11 h => Jh R R R C84 (s_SigOk_ok (κ := fun b => mp [] 0 (K6 b)) (p0 := p0) hx11) ?_)
 rintro _ w10 ⟨k11, rfl, e12⟩
 obtain ⟨K13, S14, m15⟩ := Ji e12 4 R
 refine ⟨tv, Jn 2 R (Ob h fun p17 h hK17 => Ju1 [(4, 2), (5, 1), (6, 2), (7, 2)] [(8, 2), (9, 2), (10, 1), (11, 2), (12, 2), (13, 1), (14, 2), (15, 2), (16, 2)] (fun L w' => L = [(2, .pointer (some ⟨b2, 0, none⟩)), (3, .pointer (some ⟨b3, 0, none⟩)), (5, vi (p1.Next.length : Int)), (17, .bool p17)] ∧ ∃ κ', Stp [] K13 w10 κ' w') tv ?_ ?_)⟩
 revert h
 cases ht18 : (!x11)
 refine JF fun h => Jn 1 R (Ob h fun x15 hx15 h => Jh R R R C77 (s_l1In_ok (κ := fun b => mp [] 0 (K13 b)) hx15) ?_)
 rintro _ w19 ⟨k20, rfl, e21⟩
 obtain ⟨K22, S23, m24⟩ := Ji e21 6 R
 refine ⟨tv, Jn 2 R ?_⟩
 cases h
 exact Jv1 _ tv ⟨R, _, S23.wk R⟩ (KM R)
 refine JT fun h => Jn 1 R (Jd1 R R R R (Jn 2 R ?_))
 cases h
 exact Jv1 _ tv ⟨R, _, (Jx2 _ _).wk R⟩ (KM R)
 rintro _ w26 _ ⟨rfl, K27, S28⟩
 have h := hK17
 refine Jn 1 R (Ob h fun p26 h hK29 => Ju1 [(9, 2), (10, 1), (11, 2), (12, 2), (13, 1), (14, 2), (15, 2), (16, 2)] [] (fun L w' => L = [(2, .pointer (some ⟨b2, 0, none⟩)), (3, .pointer (some ⟨b3, 0, none⟩)), (5, vi (p1.Next.length : Int)), (26, .bool p26)] ∧ ∃ κ', Stp [] K27 w26 κ' w') tv ?_ ?_)
 revert h
 cases ht30 : p17
 refine JF fun h => Jf R (Jb2 U33 R Z24 R R) ?_
 have f31 := f8.stp (S14.tr S28) R R
 refine Jl tv R R R R (Jc2 I24 R R (hvE (f31.ld 1 R R))) (Jf R (Je2 U24 R R) (Jf R (Jb2 U33 R Z24 R R) (Jl tv R R R R (Jc2 I24 R R (hvE (f31.ld 0 R R))) (Jf R (Je2 U24 R R) (Jn 2 R ?_)))))
 cases h
 exact Jv1 _ tv ⟨R, _, (Jx2 _ _).wk R⟩ (KM R)
 refine JT fun h => Jn 1 R (Jd1 R R R R (Jn 2 R (Jd1 R R R R (Jn 3 R ?_))))
 cases h
 exact Jv1 _ tv ⟨R, _, (Jx2 _ _).wk R⟩ (KM R)
 rintro _ w32 _ ⟨rfl, K33, S34⟩
 have h := hK29
 refine Jd ?_
 revert h
 cases ht35 : p26
 refine JF fun h => Jy R (Js (Jp (Jq (Je [2] R (Jb 1 R ?_)))))
 have hN37 : (p1.Next.length : Int) ≤ 9223372036854775807 := g1_0.len_le
 refine Ob h fun q2 hq39 hK38 => ?_
 clear h
 refine Jx1 (fun L w' => ∃ κ', L = [] ∧ Stp [] K33 w32 κ' w' ∧ q2 = Sum.inr ()) ?_ ?_
 refine Jv (Jy1 (fun k L w' => ∃ κ' v6, L = [(2, .pointer (some ⟨b2, 0, none⟩)), (3, .pointer (some ⟨b3, 0, none⟩)), (5, vi (p1.Next.length : Int)), (6, vi v6)] ∧ Stp [] K33 w32 κ' w' ∧ 0 ≤ v6 ∧ Int.toNat ((p1.Next.length : Int) - v6) = k ∧ cntM (s_MachineOk_b0 p0 p1) k v6 () = some q2) ⟨_, _, ⟨K33, 0, R, (Jx2 _ _).wk R, (by decide), (by simp), hq39⟩, (KM R)⟩ ?_)
 rintro k _ w43 ⟨K44, v6, rfl, S45, hj37, hJ37, h⟩
 rcases k with _ | k
 have hk46 := h; obtain ⟨o37, h⟩ := ex_eq (Sum.inr (Sum.inl ()) : Bool ⊕ ((Unit) ⊕ (Unit)))
 have hc37 : decide (v6 < (p1.Next.length : Int)) = false := Jo2 (by omega)
 refine Jq (Je [2, 2, 1, 2, 2] R (Jn 1 R (Jf R (Jb2 U33 R Z24 R R) (Jl tv R R R R (Jc2 I24 R R (hvE ((f8.stp (S14.tr (S28.tr (S34.tr S45))) R R).ld 0 R R))) (Jf R (Je2 U24 R R) (Jb 1 R (Jw2 R hc37 (Jc1 (Jt (Jt ?_))))))))))
 cases h
 have h := hk46
 refine Jb1 ?_
 cases h
 exact Jw1 _ ⟨K44, R, S45.wk R, R⟩ KN
 obtain ⟨o37, h, hk46⟩ := BI h; unfold s_MachineOk_b0 at h
 have hc37 : decide (v6 < (p1.Next.length : Int)) = true := Jn2 (by omega)
 refine Jq (Je [2, 2, 1, 2, 2] R (Jn 1 R (Jf R (Jb2 U33 R Z24 R R) ?_)))
 have f48 := f8.stp (S14.tr (S28.tr (S34.tr S45))) R R
 refine Jl tv R R R R (Jc2 I24 R R (hvE (f48.ld 0 R R))) (Jf R (Je2 U24 R R) (Jb 1 R (Jv2 R hc37 (Js (Jp (Jq (Jv (Jq (Js1 (κ := K44) [0, 2, 3] none [(0, 2), (2, 2), (1, 0), (3, 2), (4, 0), (5, 2), (6, 0), (7, 1), (8, 2), (9, 2), (10, 2), (12, 2), (16, 2), (18, 2), (11, 0), (13, 2), (14, 0), (15, 2), (17, 0), (19, 2), (20, 0), (21, 2), (22, 2), (23, 2), (24, 2), (25, 2), (27, 2), (30, 2), (26, 0), (28, 2), (29, 0), (31, 1), (32, 2), (33, 2), (34, 2), (35, 2), (37, 2), (40, 2), (36, 0), (38, 2), (39, 0), (41, 0), (42, 1), (43, 1), (44, 2), (45, 2)] [] (by kernel_rfl) (by kernel_rfl) fun w50 S49 => Jf R (Jb2 U33 R Z24 R R) (Jn 1 R ?_))))))))))
 have f51 := f48.stp S49 R R
 refine Jg R (Jc2 I24 R R (hvC (f51.ld 0 R R) R)) (Ob h fun x37 hx37 h => Jf R (Jf2 g1_0 hx37 U24 Z40 R R R R) ?_)
 have f52 := g1_0.stp (S3.tr (S7.tr (S14.tr (S28.tr (S34.tr (S45.tr S49)))))) R R
 obtain ⟨ax37, ux37, f53, hl54⟩ := f52.gSl hx37
 refine Jg R (Jc2 I40 R R (hvC hl54 R)) (Jf R (Je2 U40 R R) ?_)
 have f55 := f9.stp (S14.tr (S28.tr (S34.tr (S45.tr S49)))) R R
 refine Jg R (Jd2 (cs := [vi p0.In, vi p0.Out]) I31 Z31 R R R (haC f55.cells R)) (Ob h fun x41 hx41 h => Jh R R R C134 (s_l29Ins_ok (κ := fun b => mp [] 0 (K44 b)) (p0 := p0) hx41) ?_)
 rintro _ w56 ⟨k57, rfl, e58⟩
 obtain ⟨K59, S60, m61⟩ := Ji e58 6 R
 refine ⟨(S60.cl R), Jn 2 R (Ob h fun p57 h hK63 => Ju1 [(10, 2), (12, 2), (16, 2), (18, 2), (11, 0), (13, 2), (14, 0), (15, 2), (17, 0), (19, 2), (20, 0), (21, 2), (22, 2), (23, 2)] [(24, 2), (25, 2), (27, 2), (30, 2), (26, 0), (28, 2), (29, 0), (31, 1), (32, 2), (33, 2), (34, 2), (35, 2), (37, 2), (40, 2), (36, 0), (38, 2), (39, 0), (41, 0), (42, 1), (43, 1), (44, 2), (45, 2)] (fun L w' => L = [(2, .pointer (some ⟨b2, 0, none⟩)), (3, .pointer (some ⟨b3, 0, none⟩)), (5, vi (p1.Next.length : Int)), (6, vi v6), (57, .bool p57)] ∧ ∃ κ', Stp [] K59 w56 κ' w') (S60.cl R) ?_ ?_)⟩
 revert h
 cases ht64 : ((x37.length : Int) != x41)
 refine JF fun h => Jf R (Jb2 U33 R Z24 R R) (Jn 1 R (Jf R (Jb2 U33 R Z24 R R) (Jn 1 R (Jg R (Jc2 I24 R R (hvC (f51.ld 1 R R) R)) (Ob h fun x47 hx47 h => Jf R (Jf2 g1_1 hx47 U24 Z40 R R R R) ?_)))))
 obtain ⟨ax47, ux47, f66, hl67⟩ := (g1_1.stp (S3.tr (S7.tr (S14.tr (S28.tr (S34.tr (S45.tr S49)))))) R R).gSl hx47
 refine Jg R (Jc2 I40 R R (hvC hl67 R)) (Jf R (Je2 U40 R R) (Jg R (Jc2 I24 R R (hvC (f51.ld 0 R R) R)) (Ob h fun x53 hx53 h => Jf R (Jf2 f52 hx53 U24 Z40 R R R R) ?_)))
 obtain ⟨ax53, ux53, f68, hl69⟩ := f52.gSl hx53
 refine Jg R (Jc2 I40 R R (hvC hl69 R)) (Jf R (Je2 U40 R R) (Jn 2 R ?_))
 cases h
 exact Jv1 _ (S60.cl R) ⟨R, _, (Jx2 _ _).wk R⟩ (KM R)
 refine JT fun h => Jn 4 R (Je1 R R R R (Jn 1 R (Je1 R R R R (Jn 1 R (Je1 R R R R (Jn 1 R (Je1 R R R R (Jn 3 R ?_))))))))
 cases h
 exact Jv1 _ (S60.cl R) ⟨R, _, (Jx2 _ _).wk R⟩ (KM R)
 rintro _ w70 _ ⟨rfl, K71, S72⟩
 have h := hK63
 refine Jn 1 R (Ob h fun p67 h hK73 => Ju1 [(25, 2), (27, 2), (30, 2), (26, 0), (28, 2), (29, 0), (31, 1), (32, 2), (33, 2)] [(34, 2), (35, 2), (37, 2), (40, 2), (36, 0), (38, 2), (39, 0), (41, 0), (42, 1), (43, 1), (44, 2), (45, 2)] (fun L w' => L = [(2, .pointer (some ⟨b2, 0, none⟩)), (3, .pointer (some ⟨b3, 0, none⟩)), (5, vi (p1.Next.length : Int)), (6, vi v6), (67, .bool p67)] ∧ ∃ κ', Stp [] K71 w70 κ' w') ((S60.tr S72).cl R) ?_ ?_)
 revert h
 cases ht74 : p57
 refine JF fun h => Jf R (Jb2 U33 R Z24 R R) (Jn 2 R (Jg R (Jc2 I24 R R (hvC (f51.ld 0 R R) R)) (Ob h fun x62 hx62 h => Jf R (Jf2 f52 hx62 U24 Z40 R R R R) ?_)))
 obtain ⟨ax62, ux62, f75, hl76⟩ := f52.gSl hx62
 refine Jg R (Jc2 I40 R R (hvC hl76 R)) (Ob h fun x65 hx65 h => Jh R R R C112 (s_l23Below_ok (κ := fun b => mp [] 0 (K71 b)) (Jl2 (f75.stp (S60.tr S72) R R) (mp [] 0) R R) hx65) ?_)
 rintro _ w78 ⟨k79, rfl, e80⟩
 obtain ⟨K81, S82, m83⟩ := Ji e80 8 R
 refine ⟨((S60.tr (S72.tr S82)).cl R), Jn 2 R ?_⟩
 cases h
 exact Jv1 _ ((S60.tr (S72.tr S82)).cl R) ⟨R, _, S82.wk R⟩ (KM R)
 refine JT fun h => Jn 3 R (Je1 R R R R (Jn 1 R (Je1 R R R R (Jd1 R R R R (Jn 2 R ?_)))))
 cases h
 exact Jv1 _ ((S60.tr S72).cl R) ⟨R, _, (Jx2 _ _).wk R⟩ (KM R)
 rintro _ w85 _ ⟨rfl, K86, S87⟩
 have h := hK73
 refine Jn 1 R (Ob h fun p79 h hK88 => Ju1 [(35, 2), (37, 2), (40, 2), (36, 0), (38, 2), (39, 0), (41, 0), (42, 1), (43, 1), (44, 2), (45, 2)] [] (fun L w' => L = [(2, .pointer (some ⟨b2, 0, none⟩)), (3, .pointer (some ⟨b3, 0, none⟩)), (5, vi (p1.Next.length : Int)), (6, vi v6), (79, .bool p79)] ∧ ∃ κ', Stp [] K86 w85 κ' w') ((S60.tr (S72.tr S87)).cl R) ?_ ?_)
 revert h
 cases ht89 : p67
 refine JF fun h => Jf R (Jb2 U33 R Z24 R R) (Jn 1 R (Jf R (Jb2 U31 R Z2 R R) (Jg R (Jc2 I24 R R (hvC (f51.ld 1 R R) R)) (Ob h fun x72 hx72 h => Jf R (Jf2 g1_1 hx72 U24 Z40 R R R R) ?_))))
 obtain ⟨ax72, ux72, f91, hl92⟩ := (g1_1.stp (S3.tr (S7.tr (S14.tr (S28.tr (S34.tr (S45.tr S49)))))) R R).gSl hx72
 refine Jg R (Jc2 I40 R R (hvC hl92 R)) (Jg R (Jc2 I2 R R (hvC (f55.ld 1 R R) R)) (Ob h fun x76 hx76 h => Jh R R R C93 (s_l23Power_ok (κ := fun b => mp [] 0 (K86 b)) hx76) ?_))
 rintro _ w93 ⟨k94, rfl, e95⟩
 obtain ⟨K96, S97, m98⟩ := Ji e95 8 R
 have S001 := (S60.tr (S72.tr (S87.tr S97)))
 refine ⟨(S001.cl R), Ob h fun x77 hx77 h => Jh R R R C112 (s_l23Below_ok (κ := fun b => mp [] 0 (K96 b)) (Jl2 (f91.stp S001 R R) (mp [] 0) R R) hx77) ?_⟩
 rintro _ w101 ⟨k102, rfl, e103⟩
 obtain ⟨K104, S105, m106⟩ := Ji e103 10 R
 refine ⟨((S60.tr (S72.tr (S87.tr (S97.tr S105)))).cl R), Jn 2 R ?_⟩
 cases h
 exact Jv1 _ ((S60.tr (S72.tr (S87.tr (S97.tr S105)))).cl R) ⟨R, _, (S97.tr S105).wk R⟩ (KM R)
 refine JT fun h => Jn 3 R (Je1 R R R R (Jn 1 R (Je1 R R R R (Je1 R R R R (Jd1 R R R R (Jd1 R R R R (Jn 2 R ?_)))))))
 cases h
 exact Jv1 _ ((S60.tr (S72.tr S87)).cl R) ⟨R, _, (Jx2 _ _).wk R⟩ (KM R)
 rintro _ w108 _ ⟨rfl, K109, S110⟩
 have h := hK88
 refine Jt1 (Jd ?_)
 revert h
 cases ht111 : p79
 refine JF fun h => Jy R (Js (Jz (Jp (Ja [2, 2, 2] R (Jc 3 R ?_)))))
 have hw37 : IntKind.wrap .i64 (v6 + 1) = v6 + 1 := wr1 hj37 (Jm2 hc37) hN37
 rw [hw37]
 have hc37 := Jm2 hc37
 cases h
 exact Jz1 fun a ha => ⟨k, _, Ja3 _, ⟨K109, v6 + 1, R, (S45.tr (S49.tr (S60.tr (S72.tr (S87.tr S110))))).wk R, by omega, by omega, hk46⟩, (ha.mm R)⟩
 refine JT fun h => Jx R (Je [2] R (Jb 1 R (Ju (Ja1 (Jw (Jw ?_))))))
 cases h
 obtain rfl := Option.some.inj hk46
 have h := hK38
 dsimp only [aft] at h
 refine Ja1 (Jq2 (Jw (Ja2 (l := [.tmp 4]) V97 (Jp2 R R) R ?_)))
 cases h
 exact ⟨K109, R, (hE.stp (S3.tr (S7.tr (S14.tr (S28.tr (S34.tr (S45.tr (S49.tr (S60.tr (S72.tr (S87.tr S110)))))))))) R R)⟩
 rintro _ w40 ⟨K41, rfl, S42, rfl⟩
 have h := hK38
 dsimp only [aft] at h
 refine Jp (Je [2] R (Jb 1 R (Ju (Ja2 (l := [.tmp 4]) V97 (Jp2 R R) R ?_))))
 cases h
 exact ⟨K41, R, (hE.stp (S3.tr (S7.tr (S14.tr (S28.tr (S34.tr S42))))) R R)⟩
 refine JT fun h => Jx R (Je [2] R (Jb 1 R (Ju (Jw (Ja2 (l := [.tmp 4]) V97 (Jp2 R R) R ?_)))))
 cases h
 exact ⟨K33, R, (hE.stp (S3.tr (S7.tr (S14.tr (S28.tr S34)))) R R)⟩
end Go.Proofs.YtcmamhmpoinmnaaGreat
