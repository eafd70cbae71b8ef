/- The walks, part 3. By program. -/
import Derived.Test.YtcmamhmpoinmnaaFns1MC
set_option linter.unusedVariables false
set_option linter.unusedSimpArgs false
namespace Go.Proofs.Ytcmamhmpoinmnaa
open Go Go.Wk Go.Proofs
set_option maxRecDepth 100000
set_option maxHeartbeats 1000000
theorem i_areClauses_1_ok {w : World} {κ : Col} {ad aa ab ac} {p0 : Clause} {c0 : Sig} {b1} (g0_1 : Rd (Rp.int .i64) κ w 0 ad aa p0.A) (g0_2 : Rd (Rp.int .i64) κ w 0 ab ac p0.B) (gb1 : Bc κ w 0 b1 47 [vi c0.In, vi c0.Out]) {r : Bool} (h : i_areClauses_1 p0 c0 = some r) : Ret Try.prog 110 [.agg #[vi p0.Kind, .slice ad p0.A.length aa, .slice ab p0.B.length ac], .pointer (some ⟨b1, 0, none⟩)] w (fun v w' => ∃ (κ' : Col), v = .bool r ∧ Ent κ w κ' w') := by
 unfold i_areClauses_1 at h
 refine Ret.enter F110 R N110 R ?_
 dsimp only [envOf]
 have hE := Ent.refl κ w
 refine Je [1, 2] R (Jf1 (κ := κ) 2 R R R R R R R fun b2 w1 K2 S3 f4 => ⟨tv, Jb 1 R (Je [1, 1, 1, 2, 2] R (Jl tv R R R R (Jd2 (cs := [vi c0.In, vi c0.Out]) I47 Z47 R R R (haE (gb1.stp S3 R R).cells)) (Jl tv R R R R (Jd2 (cs := [vi p0.Kind, .slice ad p0.A.length aa, .slice ab p0.B.length ac]) I61 Z61 R R R (haE f4.cells)) (Ob h fun x6 hx6 h => Jh R R R C111 (i_isClause_ok (κ := fun b => mp [] 0 (K2 b)) (p0 := c0) (p1 := p0) (Jl2 (g0_1.stp S3 R R) (mp [] 0) R R) (Jl2 (g0_2.stp S3 R R) (mp [] 0) R R) hx6) ?_))))⟩)
 rintro _ w8 ⟨k9, rfl, e10⟩
 obtain ⟨K11, S12, m13⟩ := Ji e10 3 R
 refine ⟨tv, Jb 2 R (Ju (Ja2 (l := [.tmp 3]) V110 (Jp2 R R) R ?_))⟩
 cases h
 exact ⟨K11, R, (hE.stp (S3.tr S12) R R)⟩
theorem i_joinedDet_ok {w : World} {κ : Col} {aM aC aH ax} {p0 : Det} {av ao ap au} {p1 : Det} (g0_0 : Rd (Rp.sl (Rp.int .i64)) κ w 0 aM aC p0.Next) (g0_1 : Rd Pair.rp κ w 0 aH ax p0.Pairs) (g1_0 : Rd (Rp.sl (Rp.int .i64)) κ w 0 av ao p1.Next) (g1_1 : Rd Pair.rp κ w 0 ap au p1.Pairs) {r : Det × Bool} (h : i_joinedDet p0 p1 = some r) : Ret Try.prog 96 [.agg #[.slice aM p0.Next.length aC, .slice aH p0.Pairs.length ax], .agg #[.slice av p1.Next.length ao, .slice ap p1.Pairs.length au]] w (fun v w' => ∃ (κ' : Col) (ra0 : Option Addr) (ru0 : Nat) (ra1 : Option Addr) (ru1 : Nat), v = .tuple #[.agg #[.slice ra0 r.1.Next.length ru0, .slice ra1 r.1.Pairs.length ru1], .bool r.2] ∧ Ent κ w κ' w' ∧ Oc (Ep.own E6 2) 24 κ' w' 2 ra0 ru0 r.1.Next ∧ Oc Pair.ep42 42 κ' w' 3 ra1 ru1 r.1.Pairs) := by
 unfold i_joinedDet at h
 refine Ret.enter F96 R N96 R ?_
 dsimp only [envOf]
 have hE := Ent.refl κ w
 refine Je [1, 1, 1, 2] R (Jf1 (κ := κ) 2 R R R R R R R fun b2 w1 K2 S3 f4 => ⟨tv, Jf1 (κ := K2) 3 R R R R R R R fun b3 w5 K6 S7 f8 => ⟨tv, Jg1 (κ := K6) 4 R R R R R X58 R fun b4 w9 K10 S11 f12 => ⟨tv, Jb 1 R (Jq (Je [2, 1, 2, 2, 1, 2, 2, 2] R (Jf R (Jb2 U58 R Z29 R R) ?_)))⟩⟩⟩)
 have f13 := f4.stp (S7.tr S11) R R
 refine Jl tv R R R R (Jc2 I29 R R (hvE (f13.ld 1 R R))) (Jf R (Je2 U29 R R) (Jf R (Jb2 U58 R Z29 R R) ?_))
 have f14 := f8.stp S11 R R
 refine Jl tv R R R R (Jc2 I29 R R (hvE (f14.ld 1 R R))) (Jf R (Je2 U29 R R) (Jb 2 R ?_))
 revert h
 cases ht15 : decide (4 < (IntKind.i64.wrap ((p0.Pairs.length : Int) + (p1.Pairs.length : Int))))
 refine JF fun h => Jy R (Js (Jp (Je [2, 1, 2] R (Jf R (rn_build (parts := [(0, .const (vi 0)), (1, .const (vi 0))]) (cells := [vi 0, vi 0]) R R (by kernel_rfl)) (Jn1 (κ := K10) (E := (Ep.pair E6 E6)) 5 [] (parts := [(0, .tmp 30)]) (cells := [vi 0, vi 0]) (xs := ([(0, 0)] : List (Int × Int))) R R R R R R Y109 Tryinfo108 R R R R R R R R R R ⟨[vi 0, vi 0], [], Zl K10 w9 [], Zl K10 w9 [], R, Zl.sp (l1 := []) (l2 := []) R, Zl.sr (l1 := []) (l2 := []), ⟨[vi 0], [vi 0], Zl K10 w9 [], Zl K10 w9 [], R, Zl.sp (l1 := []) (l2 := []) R, Zl.sr (l1 := []) (l2 := []), R, R⟩, R⟩ fun bh bl w20 K21 S22 f23 => ⟨tv, Jb 1 R (Je [2, 1, 1] R (Jf R (rn_build (parts := []) (cells := [.slice none 0 0, .slice none 0 0]) R R (by kernel_rfl)) (Jg1 (κ := K21) 6 R R R R R X58 R fun b7 w24 K25 S26 f27 => ⟨tv, Jj1 (κ := K25) 6 (vc := [.slice none 0 0, .slice none 0 0]) R R R R R R R Z58 R R f27 R fun w28 S29 f30 => ⟨tv, Jd (Jq (Je [2] R (Jb 1 R (Ob h fun q2 hq33 hK32 => ?_))))⟩⟩)))⟩)))))
 clear h
 refine Jx1 (fun L w' => ∃ κ', ∃ s3 : (List (Int × Int)) × Int × (List (List Int)), ∃ aa ab ad ac, L = [(2, .pointer (some ⟨b2, 0, none⟩)), (3, .pointer (some ⟨b3, 0, none⟩)), (4, .pointer (some ⟨b4, 0, none⟩)), (6, .slice aa s3.1.length ab), (7, .pointer (some ⟨b7, 0, none⟩))] ∧ Stp [5, 6, 7, 8, 9] K25 w28 κ' w' ∧ Oc (Ep.pair E6 E6) 108 κ' w' 5 aa ab s3.1 ∧ Oc (Ep.own E6 2) 24 κ' w' 7 ad ac s3.2.2 ∧ Bc κ' w' 6 b7 58 [.slice ad s3.2.2.length ac, .slice none 0 0] ∧ q2 = Sum.inr s3) ?_ ?_
 refine Jv (Jy1 (fun k L w' => ∃ κ', ∃ s1 : (List (Int × Int)) × Int × (List (List Int)), ∃ aG aA aO aU, L = [(2, .pointer (some ⟨b2, 0, none⟩)), (3, .pointer (some ⟨b3, 0, none⟩)), (4, .pointer (some ⟨b4, 0, none⟩)), (6, .slice aG s1.1.length aA), (7, .pointer (some ⟨b7, 0, none⟩)), (8, vi s1.2.1)] ∧ Stp [5, 6, 7, 8, 9] K25 w28 κ' w' ∧ Oc (Ep.pair E6 E6) 108 κ' w' 5 aG aA s1.1 ∧ Oc (Ep.own E6 2) 24 κ' w' 7 aO aU s1.2.2 ∧ Bc κ' w' 6 b7 58 [.slice aO s1.2.2.length aU, .slice none 0 0] ∧ whileM (i_joinedDet_b0 p0 p1) k s1 = some q2) ⟨_, _, ⟨K25, ((([(0, 0)] : List (Int × Int)) : (List (Int × Int))), (0 : Int), (([] : List (List Int)) : (List (List Int)))), bh, bl, none, 0, R, (Jx2 _ _).wk R, (f23.stp (S26.tr S29) R R), Ow.nil, f30, hq33⟩, (KM R)⟩ ?_)
 rintro k _ w40 ⟨K41, s1, aG, aA, aO, aU, rfl, S42, f43, f44, f45, h⟩
 rcases k with _ | k
 cases h
 obtain ⟨o31, h, hk47⟩ := BI h; unfold i_joinedDet_b0 at h
 refine Jq (Je [2, 2, 2, 2] R (Jn 2 R (Jf R (Je2 U109 R R) (Jb 1 R ?_))))
 revert h
 cases ht48 : decide (s1.2.1 < (s1.1.length : Int))
 refine JF fun h => Jy R (Jc1 (Jt (Jt ?_)))
 cases h
 have h := hk47
 refine Jb1 ?_
 cases h
 exact Jw1 _ ⟨K41, ((s1.1 : (List (Int × Int))), (s1.2.1 : Int), (s1.2.2 : (List (List Int)))), aG, aA, aO, aU, R, S42.wk R, f43, f44, f45, R⟩ (KM R)
 refine JT fun h => Jx R (Js (Jp (Jq (Jv (Je [1, 2] R (Jo1 (κ := K41) (E := E6) 8 R R R R R Y24 Tryinfo2 R fun bk bi w49 K50 S51 f52 => ⟨tv, Jb 1 R (Jq (Jq (Js1 (κ := K50) [0, 2, 5] none [(0, 2), (2, 2), (3, 2), (4, 2), (5, 2), (10, 2), (1, 0), (6, 0), (7, 2), (8, 0), (9, 2)] [] (by kernel_rfl) (by kernel_rfl) fun w54 S53 => Jf R (Jb2 U58 R Z22 R R) (Jn 2 R (Ob h fun x44 hx44 h => Jf R (Jf2 f43.rdc hx44 U109 Z108 R R R R) (Jf R (rn_indexA U108 Z2 R R R R) (Jn 1 R (Jg R (Jc2 I22 R R (hvC ((f13.stp (S22.tr (S26.tr (S29.tr (S42.tr (S51.tr S53))))) R R).ld 0 R R) R)) ?_))))))))⟩))))))
 have f56 := f43.stp (S51.tr S53) R R
 obtain ⟨cse57, hre57, hle57⟩ := (f56.rdc).gSt hx44
 obtain ⟨_, _, rfl, rfl, rfl⟩ := hre57
 refine Jg R (Jc2 I2 R R (hvC (fun w' hw' => hle57 w' hw' 0 _ R) R)) (Ob h fun x47 hx47 h => Jf R (Jf2 g0_0 hx47 U22 Z24 R R R R) ?_)
 obtain ⟨ax47, ux47, f59, hl60⟩ := (g0_0.stp (S3.tr (S7.tr (S11.tr (S22.tr (S26.tr (S29.tr (S42.tr (S51.tr S53)))))))) R R).gSl hx47
 refine Jg R (Jc2 I24 R R (hvC hl60 R)) (Jf R (Je2 U24 R R) (Jt1 (Jd ?_)))
 have hN61 : (x47.length : Int) ≤ 9223372036854775807 := f59.len_le
 refine Ob h fun q5 hq63 hK62 => ?_
 clear h
 refine Jx1 (fun L w' => ∃ κ', ∃ s6 : (List (Int × Int)) × (List Int), ∃ aT aQ aI aE, L = [(2, .pointer (some ⟨b2, 0, none⟩)), (3, .pointer (some ⟨b3, 0, none⟩)), (4, .pointer (some ⟨b4, 0, none⟩)), (6, .slice aT s6.1.length aQ), (7, .pointer (some ⟨b7, 0, none⟩)), (8, vi s1.2.1), (9, .slice aI s6.2.length aE)] ∧ Stp [5, 8, 9] K50 w54 κ' w' ∧ Oc (Ep.pair E6 E6) 108 κ' w' 5 aT aQ s6.1 ∧ Oc E6 2 κ' w' 8 aI aE s6.2 ∧ q5 = Sum.inr s6) ?_ ?_
 refine Jv (Jy1 (fun k L w' => ∃ κ' v50, ∃ s4 : (List (Int × Int)) × (List Int), ∃ aJ ay aF aL, L = [(2, .pointer (some ⟨b2, 0, none⟩)), (3, .pointer (some ⟨b3, 0, none⟩)), (4, .pointer (some ⟨b4, 0, none⟩)), (6, .slice aJ s4.1.length ay), (7, .pointer (some ⟨b7, 0, none⟩)), (8, vi s1.2.1), (9, .slice aF s4.2.length aL), (48, .slice ax47 x47.length ux47), (49, vi (x47.length : Int)), (50, vi v50)] ∧ Stp [5, 8, 9] K50 w54 κ' w' ∧ Oc (Ep.pair E6 E6) 108 κ' w' 5 aJ ay s4.1 ∧ Oc E6 2 κ' w' 8 aF aL s4.2 ∧ 0 ≤ v50 ∧ Int.toNat ((x47.length : Int) - v50) = k ∧ cntM (i_joinedDet_b2 p1 s1 x47) k v50 s4 = some q5) ⟨_, _, ⟨K50, 0, ((s1.1 : (List (Int × Int))), (([] : List Int) : (List Int))), aG, aA, bk, bi, R, (Jx2 _ _).wk R, f56, (f52.stp S53 R R), (by decide), (by simp), hq63⟩, (KM R)⟩ ?_)
 rintro k _ w69 ⟨K70, v50, s4, aJ, ay, aF, aL, rfl, S71, f72, f73, hj61, hJ61, h⟩
 rcases k with _ | k
 have hk75 := h; obtain ⟨o61, h⟩ := ex_eq (Sum.inr (Sum.inl s4) : (Det × Bool) ⊕ (((List (Int × Int)) × (List Int)) ⊕ ((List (Int × Int)) × (List Int))))
 have hc61 : decide (v50 < (x47.length : Int)) = false := Jo2 (by omega)
 refine Je [2] R (Jb 1 R (Jq (Jw2 R hc61 (Jc1 (Jt (Jt ?_))))))
 cases h
 have h := hk75
 refine Jb1 ?_
 cases h
 exact Jw1 _ ⟨K70, ((s4.1 : (List (Int × Int))), (s4.2 : (List Int))), aJ, ay, aF, aL, R, S71.wk R, f72, f73, R⟩ (KM R)
 obtain ⟨o61, h, hk75⟩ := BI h; unfold i_joinedDet_b2 at h
 have hc61 : decide (v50 < (x47.length : Int)) = true := Jn2 (by omega)
 refine Je [2] R (Jb 1 R (Jq (Jv2 R hc61 (Js (Jp (Jq (Jv (Je [2, 2, 1, 2, 2] R (Jn 1 R (Ob h fun x53 hx53 h => Jf R (Jf2 f59 hx53 U24 Z2 R R R R) (Jl tv R R R R (Jc2 I2 R R (hvE ((f59.stp S71 R R).gInt hx53))) (Jb 2 R (Jq (Js1 (κ := K70) [0, 3, 5] none [(0, 2), (1, 2), (3, 2), (4, 2), (5, 2), (6, 2), (10, 2), (2, 0), (7, 0), (8, 2), (9, 0), (11, 2), (12, 0), (13, 2), (14, 1), (15, 1)] [] (by kernel_rfl) (by kernel_rfl) fun w78 S77 => Jn 1 R (Jf R (Jb2 U58 R Z22 R R) (Jn 2 R (Ob h fun x60 hx60 h => Jf R (Jf2 f72.rdc hx60 U109 Z108 R R R R) (Jf R (rn_indexA U108 Z2 R R R R) (Jn 1 R (Jg R (Jc2 I22 R R (hvC ((f14.stp (S22.tr (S26.tr (S29.tr (S42.tr (S51.tr (S53.tr (S71.tr S77))))))) R R).ld 0 R R) R)) ?_))))))))))))))))))))
 have f80 := f72.stp S77 R R
 obtain ⟨cse81, hre81, hle81⟩ := (f80.rdc).gSt hx60
 obtain ⟨_, _, rfl, rfl, rfl⟩ := hre81
 refine Jg R (Jc2 I2 R R (hvC (fun w' hw' => hle81 w' hw' 1 _ R) R)) (Ob h fun x63 hx63 h => Jf R (Jf2 g1_0 hx63 U22 Z24 R R R R) ?_)
 obtain ⟨ax63, ux63, f83, hl84⟩ := (g1_0.stp (S3.tr (S7.tr (S11.tr (S22.tr (S26.tr (S29.tr (S42.tr (S51.tr (S53.tr (S71.tr S77)))))))))) R R).gSl hx63
 refine Jg R (Jc2 I24 R R (hvC hl84 R)) (Ob h fun x66 hx66 h => Jf R (Jf2 f83 hx66 U24 Z2 R R R R) (Jg R (Jc2 I2 R R (hvC (f83.gInt hx66) R)) (Jf R (rn_build (parts := [(0, .tmp 55), (1, .tmp 67)]) (cells := [vi x53, vi x66]) R R (by kernel_rfl)) (Jg1 (κ := K70) 9 R R R R R X108 R fun b12 w85 K86 S87 f88 => ⟨(S87.cl R), Jj1 (κ := K86) 9 (vc := [vi x53, vi x66]) R R R R R R R Z108 R R f88 R fun w89 S90 f91 => ⟨((S87.tr S90).cl R), Jt1 (Jd (Je [2, 1, 1, 2] R (Jn 1 R (Jl tv R R R R (Jd2 (cs := [vi x53, vi x66]) I108 Z108 R R R (haE f91.cells)) (Ob h fun x71 hx71 h => ?_)))))⟩⟩))))
 have f92 := f80.stp (S87.tr S90) R R
 refine Jh R R R C112 (slices_Index_2_int64_2_int64_ok (κ := fun b => mp [] 0 (K86 b)) (p1 := (x53, x66)) (Jl2 f92.rdc (mp [] 0) R R) hx71) ?_
 rintro _ w93 ⟨k94, rfl, e95⟩
 obtain ⟨K96, S97, m98⟩ := Ji e95 10 R
 refine ⟨tv, Jb 1 R (Jq (Je [2, 2] R (Jb 2 R (Ob h fun q7 h hK100 => Jx1 (fun L w' => ∃ κ' aV aY, L = [(2, .pointer (some ⟨b2, 0, none⟩)), (3, .pointer (some ⟨b3, 0, none⟩)), (4, .pointer (some ⟨b4, 0, none⟩)), (6, .slice aV q7.1.length aY), (7, .pointer (some ⟨b7, 0, none⟩)), (8, vi s1.2.1), (9, .slice aF s4.2.length aL), (13, vi q7.2), (48, .slice ax47 x47.length ux47), (49, vi (x47.length : Int)), (50, vi v50)] ∧ Stp [5] K96 w93 κ' w' ∧ Oc (Ep.pair E6 E6) 108 κ' w' 5 aV aY q7.1) ?_ ?_))))⟩
 revert h
 cases ht105 : decide (x71 < 0)
 refine JF fun h => Jy R (Js ?_)
 cases h
 exact Jw1 _ ⟨K96, aJ, ay, R, (Jx2 _ _).wk R, (f92.stp S97 R R)⟩ (KM R)
 refine JT fun h => Jx R (Je [2, 2, 2] R (Jn 1 R (Jf R (Je2 U109 R R) (Jb 1 R (Ja [2, 1, 1, 1, 2] R (Jn 1 R (Jl tv R R R R (Jd2 (cs := [vi x53, vi x66]) I108 Z108 R R R (haE (f91.stp S97 R R).cells)) (Jn1 (κ := K96) (E := (Ep.pair E6 E6)) 12 [] (parts := [(0, .tmp 77)]) (cells := [vi x53, vi x66]) (xs := ([(x53, x66)] : List (Int × Int))) R R R R R R Y109 Tryinfo108 R R R R R R R R R R ⟨[vi x53, vi x66], [], Zl K96 w93 [], Zl K96 w93 [], R, Zl.sp (l1 := []) (l2 := []) R, Zl.sr (l1 := []) (l2 := []), ⟨[vi x53], [vi x66], Zl K96 w93 [], Zl K96 w93 [], R, Zl.sp (l1 := []) (l2 := []) R, Zl.sr (l1 := []) (l2 := []), R, R⟩, R⟩ fun bu bx w107 K108 S109 f110 => ⟨tv, Ob h fun x79 hx79 h => Jm1 (κ := K108) (E := (Ep.pair E6 E6)) 5 [] R R R R R R R R R Y109 Tryinfo108 R R R R (f92.stp (S97.tr S109) R R) (Sl.srcP (pu_pair (pu_int _) (pu_int _)) f110.rdc) sy_false hx79 R fun bj bn w112 K113 S114 f115 => ⟨tv, Jc 1 R ?_⟩⟩))))))))
 cases h
 exact Jw1 _ ⟨K113, bj, bn, R, (S109.tr S114).wk R, f115⟩ (KM R)
 rintro _ w101 ⟨K102, aV, aY, rfl, S103, f104⟩
 have h := hK100
 refine Jp (Ja [2, 2, 1, 1, 2] R (Jn 2 R (Jn1 (κ := K102) (E := E6) 12 [] (parts := [(0, .tmp 81)]) (cells := [vi q7.2]) (xs := ([q7.2] : List Int)) R R R R R R Y24 Tryinfo2 R R R R R R R R R R ⟨[vi q7.2], [], Zl K102 w101 [], Zl K102 w101 [], R, Zl.sp (l1 := []) (l2 := []) R, Zl.sr (l1 := []) (l2 := []), R, R⟩ fun bq bt w117 K118 S119 f120 => ⟨tv, Ob h fun x83 hx83 h => Jm1 (κ := K118) (E := E6) 8 [] R R R R R R R R R Y24 Tryinfo2 R R R R (f73.stp (S77.tr (S87.tr (S90.tr (S97.tr (S103.tr S119))))) R R) (Sl.srcP (pu_int _) f120.rdc) sy_false hx83 R fun bm bo w122 K123 S124 f125 => ⟨tv, Jc 1 R (Jz (Jp (Ja [2, 2] R (Jc 2 R ?_))))⟩⟩)))
 have hw61 : IntKind.wrap .i64 (v50 + 1) = v50 + 1 := wr1 hj61 (Jm2 hc61) hN61
 rw [hw61]
 have hc61 := Jm2 hc61
 cases h
 exact Jz1 fun a ha => ⟨k, _, Ja3 _, ⟨K123, v50 + 1, ((q7.1 : (List (Int × Int))), (x83 : (List Int))), aV, aY, bm, bo, R, (S71.tr (S77.tr (S87.tr (S90.tr (S97.tr (S103.tr (S119.tr S124))))))).wk R, (f104.stp (S119.tr S124) R R), f125, by omega, by omega, hk75⟩, (ha.mm R)⟩
 rintro _ w64 ⟨K65, s6, aT, aQ, aI, aE, rfl, S66, f67, f68, rfl⟩
 have h := hK62
 dsimp only [aft] at h
 refine Jp (Jq (Je [2, 2, 2] R (Jn 1 R (Jf R (Je2 U109 R R) (Jb 1 R ?_)))))
 revert h
 cases ht127 : decide (48 < (s6.1.length : Int))
 refine JF fun h => Jy R (Js (Jp (Ja [2, 1, 2, 1, 1, 2, 1] R (Jf R (Jb2 U58 R Z22 R R) ?_))))
 have f133 := f45.stp (S51.tr (S53.tr S66)) R R
 refine Jl tv R R R R (Jc2 I22 R R (hvE (f133.ld 0 R R))) (Jn 1 R (Jn1 (κ := K65) (E := (Ep.own E6 2)) 9 [8] (parts := [(0, .tmp 91)]) (cells := [.slice aI s6.2.length aE]) (xs := ([s6.2] : List (List Int))) R R R R R R Y22 Tryinfo24 R R R R R R R R R R ⟨[.slice aI s6.2.length aE], [], Zl K65 w64 [8], Zl K65 w64 [], R, Zl.sp (l1 := [8]) (l2 := []) R, Zl.sr (l1 := [8]) (l2 := []), ⟨_, _, R, f68⟩, R⟩ fun bB bs w134 K135 S136 f137 => ⟨tv, Ob h fun x93 hx93 h => Jm1 (κ := K135) (E := (Ep.own E6 2)) 7 [9] R R R R R R R R R Y22 Tryinfo24 R R R R (f44.stp (S51.tr (S53.tr (S66.tr S136))) R R) f137.src (sy_one R) hx93 R fun bb be w139 K140 S141 f142 => ⟨tv, Jf R (Jb2 U58 R Z22 R R) (Ji1 (κ := K140) 6 (off := 0) (vc := [.slice bb x93.length be]) (cs' := [.slice bb x93.length be, .slice none 0 0]) R R R R R R R Z22 R R (f133.stp (S136.tr S141) R R) R R fun w144 S145 f146 => ⟨tv, Jo (Jz (Jp (Ja [2, 2, 2] R (Jc 3 R ?_))))⟩)⟩⟩))
 cases h
 exact Jz1 fun a ha => ⟨k, _, Ja3 _, ⟨K140, ((s6.1 : (List (Int × Int))), ((IntKind.i64.wrap (s1.2.1 + 1)) : Int), (x93 : (List (List Int)))), aT, aQ, bb, be, R, (S42.tr (S51.tr (S53.tr (S66.tr (S136.tr (S141.tr S145)))))).wk R, (f67.stp (S136.tr (S141.tr S145)) R R), (f142.stp S145 R R), f146, hk47⟩, (ha.mm R)⟩
 refine JT fun h => Jx R (Je [2, 1, 2] R (Jf R (rn_build (parts := []) (cells := [.slice none 0 0, .slice none 0 0]) R R (by kernel_rfl)) (Jj1 (κ := K65) 4 (vc := [.slice none 0 0, .slice none 0 0]) R R R R R R R Z58 R R (f12.stp (S22.tr (S26.tr (S29.tr (S42.tr (S51.tr (S53.tr S66)))))) R R) R fun w129 S130 f131 => ⟨tv, Jb 1 R (Ju (Jw (Ja1 (Jw (Jw ?_)))))⟩)))
 cases h
 obtain rfl := Option.some.inj hk47
 have h := hK32
 dsimp only [aft] at h
 refine Ja1 (Jq2 (Jw (Ja2 (l := [.cell 4 58, .tmp 5]) V96 (res_cellA R f131 I58 Z58 R (Jp2 R R)) R ?_)))
 cases h
 exact ⟨K65, none, 0, none, 0, R, (hE.stp (S3.tr (S7.tr (S11.tr (S22.tr (S26.tr (S29.tr (S42.tr (S51.tr (S53.tr (S66.tr S130)))))))))) R R), Ow.nil, Ow.nil⟩
 rintro _ w34 ⟨K35, s3, aa, ab, ad, ac, rfl, S36, f37, f38, f39, rfl⟩
 have h := hK32
 dsimp only [aft] at h
 have S001 := (S3.tr (S7.tr (S11.tr (S22.tr (S26.tr (S29.tr S36))))))
 have S002 := (S22.tr (S26.tr (S29.tr S36)))
 refine Jp (Jq (Je [1, 1, 1, 2, 2] R (Jl tv R R R R (Jd2 (cs := [.slice aM p0.Next.length aC, .slice aH p0.Pairs.length ax]) I58 Z58 R R R (haE (f13.stp S002 R R).cells)) (Jl tv R R R R (Jd2 (cs := [.slice av p1.Next.length ao, .slice ap p1.Pairs.length au]) I58 Z58 R R R (haE (f14.stp S002 R R).cells)) (Jn1 (κ := K35) (E := (Ep.fz Det.rp)) 8 [] (parts := [(0, .tmp 95), (1, .tmp 96)]) (cells := [.slice aM p0.Next.length aC, .slice aH p0.Pairs.length ax, .slice av p1.Next.length ao, .slice ap p1.Pairs.length au]) (xs := ([p0, p1] : List Det)) R R R R R R Y139 Tryinfo58 R R R R R R R R R R ⟨[.slice aM p0.Next.length aC, .slice aH p0.Pairs.length ax], [.slice av p1.Next.length ao, .slice ap p1.Pairs.length au], Zl K35 w34 [], Zl K35 w34 [], R, Zl.sp (l1 := []) (l2 := []) R, Zl.sr (l1 := []) (l2 := []), (Det.mk_rel (Sl.z1 (g0_0.stp S001 R R)) (Sl.z1 (g0_1.stp S001 R R))), ⟨[.slice av p1.Next.length ao, .slice ap p1.Pairs.length au], [], Zl K35 w34 [], Zl K35 w34 [], R, Zl.sp (l1 := []) (l2 := []) R, Zl.sr (l1 := []) (l2 := []), (Det.mk_rel (Sl.z1 (g1_0.stp S001 R R)) (Sl.z1 (g1_1.stp S001 R R))), R⟩⟩ fun aj al w155 K156 S157 f158 => ⟨tv, Jf R (Je2 U139 R R) (Jb 1 R ?_)⟩)))))
 have hN159 : (([p0, p1] : List Det).length : Int) ≤ 9223372036854775807 := f158.len_le
 refine Ob h fun q9 hq161 hK160 => ?_
 clear h
 refine Jx1 (fun L w' => ∃ κ', ∃ s10 : (List Pair), ∃ aq ar, L = [(4, .pointer (some ⟨b4, 0, none⟩)), (7, .pointer (some ⟨b7, 0, none⟩))] ∧ Stp [6, 9, 10, 11, 12, 13, 14, 15] K156 w155 κ' w' ∧ Oc Pair.ep42 42 κ' w' 9 aq ar s10 ∧ Bc κ' w' 6 b7 58 [.slice ad s3.2.2.length ac, .slice aq s10.length ar] ∧ q9 = Sum.inr s10) ?_ ?_
 refine Jv (Jy1 (fun k L w' => ∃ κ' v99, ∃ s8 : (List Pair), ∃ aD az, L = [(4, .pointer (some ⟨b4, 0, none⟩)), (6, .slice aa s3.1.length ab), (7, .pointer (some ⟨b7, 0, none⟩)), (97, .slice aj ([p0, p1] : List Det).length al), (98, vi (([p0, p1] : List Det).length : Int)), (99, vi v99)] ∧ Stp [6, 9, 10, 11, 12, 13, 14, 15] K156 w155 κ' w' ∧ Oc Pair.ep42 42 κ' w' 9 aD az s8 ∧ Bc κ' w' 6 b7 58 [.slice ad s3.2.2.length ac, .slice aD s8.length az] ∧ 0 ≤ v99 ∧ Int.toNat ((([p0, p1] : List Det).length : Int) - v99) = k ∧ cntM (i_joinedDet_b4 p0 p1 s3) k v99 s8 = some q9) ⟨_, _, ⟨K156, 0, (([] : List Pair) : (List Pair)), none, 0, R, (Jx2 _ _).wk R, Ow.nil, (f39.stp S157 R R), (by decide), (by simp), hq161⟩, (KM R)⟩ ?_)
 rintro k _ w167 ⟨K168, v99, s8, aD, az, rfl, S169, f170, f171, hj159, hJ159, h⟩
 rcases k with _ | k
 have hk173 := h; obtain ⟨o159, h⟩ := ex_eq (Sum.inr (Sum.inl s8) : (Det × Bool) ⊕ (((List Pair)) ⊕ ((List Pair))))
 have hc159 : decide (v99 < (([p0, p1] : List Det).length : Int)) = false := Jo2 (by omega)
 refine Je [2] R (Jb 1 R (Jq (Jw2 R hc159 (Jc1 (Jt (Jt ?_))))))
 cases h
 have h := hk173
 refine Jb1 ?_
 cases h
 exact Jw1 _ ⟨K168, (s8 : (List Pair)), aD, az, R, S169.wk R, f170, f171, R⟩ (KM R)
 obtain ⟨o159, h, hk173⟩ := BI h; unfold i_joinedDet_b4 at h
 have hc159 : decide (v99 < (([p0, p1] : List Det).length : Int)) = true := Jn2 (by omega)
 refine Je [2] R (Jb 1 R (Jq (Jv2 R hc159 (Js (Jp (Jq (Jv (Je [2, 2, 1, 1, 2, 1] R (Jn 1 R (Ob h fun x102 hx102 h => Jf R (Jf2 f158.rdc hx102 U139 Z58 R R R R) ?_))))))))))
 obtain ⟨cse175, hre175, hle175⟩ := ((f158.stp S169 R R).rdc).gSt hx102
 obtain ⟨ae175_0, ue175_0, ae175_1, ue175_1, rfl, fe175_0, fe175_1⟩ := Det.un hre175
 refine Jl tv R R R R (Jd2 (cs := [.slice ae175_0 x102.Next.length ue175_0, .slice ae175_1 x102.Pairs.length ue175_1]) I58 Z58 R R R (haE hle175)) (Jg1 (κ := K168) 10 R R R R R X58 R fun b15 w176 K177 S178 f179 => ⟨tv, Jn 1 R (Jj1 (κ := K177) 10 (vc := [.slice ae175_0 x102.Next.length ue175_0, .slice ae175_1 x102.Pairs.length ue175_1]) R R R R R R R Z58 R R f179 R fun w180 S181 f182 => ⟨tv, Jd (Je [2, 1, 2, 2] R (Jf R (Jb2 U58 R Z29 R R) (Jl tv R R R R (Jc2 I29 R R (hvE (f182.ld 1 R R))) (Jf R (Je2 U29 R R) (Jb 1 R ?_)))))⟩)⟩)
 have hN183 : (x102.Pairs.length : Int) ≤ 9223372036854775807 := fe175_1.len_le
 refine Ob h fun q12 hq185 hK184 => ?_
 clear h
 refine Jx1 (fun L w' => ∃ κ', ∃ s13 : (List Pair), ∃ aS aW, L = [(4, .pointer (some ⟨b4, 0, none⟩)), (6, .slice aa s3.1.length ab), (7, .pointer (some ⟨b7, 0, none⟩)), (97, .slice aj ([p0, p1] : List Det).length al), (98, vi (([p0, p1] : List Det).length : Int)), (99, vi v99)] ∧ Stp [6, 9, 11, 12, 13, 14, 15] K177 w180 κ' w' ∧ Oc Pair.ep42 42 κ' w' 9 aS aW s13 ∧ Bc κ' w' 6 b7 58 [.slice ad s3.2.2.length ac, .slice aS s13.length aW] ∧ q12 = Sum.inr s13) ?_ ?_
 refine Jv (Jy1 (fun k L w' => ∃ κ' v107, ∃ s11 : (List Pair), ∃ aR aX, L = [(4, .pointer (some ⟨b4, 0, none⟩)), (6, .slice aa s3.1.length ab), (7, .pointer (some ⟨b7, 0, none⟩)), (14, vi v99), (97, .slice aj ([p0, p1] : List Det).length al), (98, vi (([p0, p1] : List Det).length : Int)), (99, vi v99), (105, .slice ae175_1 x102.Pairs.length ue175_1), (106, vi (x102.Pairs.length : Int)), (107, vi v107)] ∧ Stp [6, 9, 11, 12, 13, 14, 15] K177 w180 κ' w' ∧ Oc Pair.ep42 42 κ' w' 9 aR aX s11 ∧ Bc κ' w' 6 b7 58 [.slice ad s3.2.2.length ac, .slice aR s11.length aX] ∧ 0 ≤ v107 ∧ Int.toNat ((x102.Pairs.length : Int) - v107) = k ∧ cntM (i_joinedDet_b6 s3 v99 x102) k v107 s11 = some q12) ⟨_, _, ⟨K177, 0, (s8 : (List Pair)), aD, az, R, (Jx2 _ _).wk R, (f170.stp (S178.tr S181) R R), (f171.stp (S178.tr S181) R R), (by decide), (by simp), hq185⟩, (KM R)⟩ ?_)
 rintro k _ w191 ⟨K192, v107, s11, aR, aX, rfl, S193, f194, f195, hj183, hJ183, h⟩
 rcases k with _ | k
 have hk198 := h; obtain ⟨o183, h⟩ := ex_eq (Sum.inr (Sum.inl s11) : (Det × Bool) ⊕ (((List Pair)) ⊕ ((List Pair))))
 have hc183 : decide (v107 < (x102.Pairs.length : Int)) = false := Jo2 (by omega)
 refine Je [2] R (Jb 1 R (Jq (Jw2 R hc183 (Jc1 (Jt (Jt ?_))))))
 cases h
 have h := hk198
 refine Jb1 ?_
 cases h
 exact Jw1 _ ⟨K192, (s11 : (List Pair)), aR, aX, R, S193.wk R, f194, f195, R⟩ (KM R)
 obtain ⟨o183, h, hk198⟩ := BI h; unfold i_joinedDet_b6 at h
 have hc183 : decide (v107 < (x102.Pairs.length : Int)) = true := Jn2 (by omega)
 refine Je [2] R (Jb 1 R (Jq (Jv2 R hc183 (Js (Jp (Jq (Jv (Je [2, 1, 1, 1] R (Ob h fun x109 hx109 h => Jf R (Jf2 fe175_1 hx109 U29 Z42 R R R R) ?_)))))))))
 obtain ⟨cse200, hre200, hle200⟩ := ((fe175_1.stp (S178.tr (S181.tr S193)) R R)).gSt hx109
 obtain ⟨ae200_0, ue200_0, ae200_1, ue200_1, rfl, fe200_0, fe200_1⟩ := Pair.un hre200
 refine Jl tv R R R R (Jd2 (cs := [.slice ae200_0 x109.Ask.length ue200_0, .slice ae200_1 x109.Give.length ue200_1]) I42 Z42 R R R (haE hle200)) (Jg1 (κ := K192) 11 R R R R R X42 R fun b17 w201 K202 S203 f204 => ⟨tv, Jj1 (κ := K202) 11 (vc := [.slice ae200_0 x109.Ask.length ue200_0, .slice ae200_1 x109.Give.length ue200_1]) R R R R R R R Z42 R R f204 R fun w205 S206 f207 => ⟨tv, Jd (Je [2, 1, 1] R (Jf R (rn_build (parts := []) (cells := [.slice none 0 0, .slice none 0 0]) R R (by kernel_rfl)) (Jg1 (κ := K202) 12 R R R R R X42 R fun b18 w208 K209 S210 f211 => ⟨tv, Jj1 (κ := K209) 12 (vc := [.slice none 0 0, .slice none 0 0]) R R R R R R R Z42 R R f211 R fun w212 S213 f214 => ⟨tv, Jd (Jq (Je [2, 2, 2] R (Jn 1 R (Jf R (Je2 U109 R R) (Jb 1 R ?_)))))⟩⟩)))⟩⟩)
 have hN215 : (s3.1.length : Int) ≤ 9223372036854775807 := f37.len_le
 refine Ob h fun q15 hq217 hK216 => ?_
 clear h
 refine Jx1 (fun L w' => ∃ κ', ∃ s16 : (List Int) × (List Int), ∃ ai ah ak ae, L = [(4, .pointer (some ⟨b4, 0, none⟩)), (6, .slice aa s3.1.length ab), (7, .pointer (some ⟨b7, 0, none⟩)), (14, vi v99), (18, .pointer (some ⟨b18, 0, none⟩)), (97, .slice aj ([p0, p1] : List Det).length al), (98, vi (([p0, p1] : List Det).length : Int)), (99, vi v99), (105, .slice ae175_1 x102.Pairs.length ue175_1), (106, vi (x102.Pairs.length : Int)), (107, vi v107)] ∧ Stp [12, 13, 14, 15] K209 w212 κ' w' ∧ Oc E6 2 κ' w' 13 ai ah s16.1 ∧ Oc E6 2 κ' w' 14 ak ae s16.2 ∧ Bc κ' w' 12 b18 42 [.slice ai s16.1.length ah, .slice ak s16.2.length ae] ∧ q15 = Sum.inr s16) ?_ ?_
 refine Jv (Jy1 (fun k L w' => ∃ κ' v114, ∃ s14 : (List Int) × (List Int), ∃ aK aB af am, L = [(4, .pointer (some ⟨b4, 0, none⟩)), (6, .slice aa s3.1.length ab), (7, .pointer (some ⟨b7, 0, none⟩)), (14, vi v99), (17, .pointer (some ⟨b17, 0, none⟩)), (18, .pointer (some ⟨b18, 0, none⟩)), (97, .slice aj ([p0, p1] : List Det).length al), (98, vi (([p0, p1] : List Det).length : Int)), (99, vi v99), (105, .slice ae175_1 x102.Pairs.length ue175_1), (106, vi (x102.Pairs.length : Int)), (107, vi v107), (112, .slice aa s3.1.length ab), (113, vi (s3.1.length : Int)), (114, vi v114)] ∧ Stp [12, 13, 14, 15] K209 w212 κ' w' ∧ Oc E6 2 κ' w' 13 aK aB s14.1 ∧ Oc E6 2 κ' w' 14 af am s14.2 ∧ Bc κ' w' 12 b18 42 [.slice aK s14.1.length aB, .slice af s14.2.length am] ∧ 0 ≤ v114 ∧ Int.toNat ((s3.1.length : Int) - v114) = k ∧ cntM (i_joinedDet_b8 s3 v99 x109) k v114 s14 = some q15) ⟨_, _, ⟨K209, 0, ((([] : List Int) : (List Int)), (([] : List Int) : (List Int))), none, 0, none, 0, R, (Jx2 _ _).wk R, Ow.nil, Ow.nil, f214, (by decide), (by simp), hq217⟩, (KM R)⟩ ?_)
 rintro k _ w224 ⟨K225, v114, s14, aK, aB, af, am, rfl, S226, f227, f228, f229, hj215, hJ215, h⟩
 rcases k with _ | k
 have hk230 := h; obtain ⟨o215, h⟩ := ex_eq (Sum.inr (Sum.inl s14) : (Det × Bool) ⊕ (((List Int) × (List Int)) ⊕ ((List Int) × (List Int))))
 have hc215 : decide (v114 < (s3.1.length : Int)) = false := Jo2 (by omega)
 refine Je [2] R (Jb 1 R (Jq (Jw2 R hc215 (Jc1 (Jt (Jt ?_))))))
 cases h
 have h := hk230
 refine Jb1 ?_
 cases h
 exact Jw1 _ ⟨K225, ((s14.1 : (List Int)), (s14.2 : (List Int))), aK, aB, af, am, R, S226.wk R, f227, f228, f229, R⟩ (KM R)
 obtain ⟨o215, h, hk230⟩ := BI h; unfold i_joinedDet_b8 at h
 have hc215 : decide (v114 < (s3.1.length : Int)) = true := Jn2 (by omega)
 refine Je [2] R (Jb 1 R (Jq (Jv2 R hc215 (Js (Jp (Jq (Jv (Je [2, 2, 1, 1, 2, 1] R (Jn 1 R (Ob h fun x117 hx117 h => Jf R (Jf2 f37.rdc hx117 U109 Z108 R R R R) ?_))))))))))
 obtain ⟨cse232, hre232, hle232⟩ := ((f37.stp (S157.tr (S169.tr (S178.tr (S181.tr (S193.tr (S203.tr (S206.tr (S210.tr (S213.tr S226))))))))) R R).rdc).gSt hx117
 obtain ⟨_, _, rfl, rfl, rfl⟩ := hre232
 refine Jl tv R R R R (Jd2 (cs := [vi x117.1, vi x117.2]) I108 Z108 R R R (haE hle232)) (Jg1 (κ := K225) 15 R R R R R X108 R fun b20 w233 K234 S235 f236 => ⟨tv, Jn 1 R (Jj1 (κ := K234) 15 (vc := [vi x117.1, vi x117.2]) R R R R R R R Z108 R R f236 R fun w237 S238 f239 => ⟨tv, Jd (Jq (Jq (Js1 (κ := K234) [11, 15] none [(0, 2), (2, 2), (3, 2), (1, 0), (4, 0), (5, 1)] [] (by kernel_rfl) (by kernel_rfl) fun w241 S240 => Jf R (Jb2 U42 R Z24 R R) (Jn 1 R (Ob h fun x122 hx122 h => Jf R (rn_indexD (xs := ([x117.1, x117.2] : List Int)) (p := ⟨b20, 0, none⟩) hx122 R U108 Z2 R R R) ?_)))))⟩)⟩)
 have f242 := f207.stp (S210.tr (S213.tr (S226.tr (S235.tr (S238.tr S240))))) R R
 refine Jg R (Jc2 I24 R R (hvC (f242.ld 0 R R) R)) ?_
 have f243 := f239.stp S240 R R
 refine Jg R (Jc2 I2 R R (hvC (f243.ldD (xs := ([x117.1, x117.2] : List Int)) 0 R hx122 R) R)) (Ob h fun x124 hx124 h => Jh R R R C72 (slices_Contains_I_int64_ok (κ := fun b => mp [] 0 (K234 b)) (Jl2 (fe200_0.stp (S203.tr (S206.tr (S210.tr (S213.tr (S226.tr (S235.tr (S238.tr S240))))))) R R) (mp [] 0) R R) hx124) ?_)
 rintro _ w245 ⟨k246, rfl, e247⟩
 obtain ⟨K248, S249, m250⟩ := Ji e247 16 R
 refine ⟨(S249.cl R), Jt1 (Jd (Ob h fun q17 h hK252 => Jx1 (fun L w' => ∃ κ' aw an, L = [(4, .pointer (some ⟨b4, 0, none⟩)), (6, .slice aa s3.1.length ab), (7, .pointer (some ⟨b7, 0, none⟩)), (14, vi v99), (17, .pointer (some ⟨b17, 0, none⟩)), (18, .pointer (some ⟨b18, 0, none⟩)), (19, vi v114), (20, .pointer (some ⟨b20, 0, none⟩)), (97, .slice aj ([p0, p1] : List Det).length al), (98, vi (([p0, p1] : List Det).length : Int)), (99, vi v99), (105, .slice ae175_1 x102.Pairs.length ue175_1), (106, vi (x102.Pairs.length : Int)), (107, vi v107), (112, .slice aa s3.1.length ab), (113, vi (s3.1.length : Int)), (114, vi v114)] ∧ Stp [12, 13] K248 w245 κ' w' ∧ Oc E6 2 κ' w' 13 aw an q17 ∧ Bc κ' w' 12 b18 42 [.slice aw q17.length an, .slice af s14.2.length am]) ?_ ?_))⟩
 revert h
 cases ht258 : x124
 refine JF fun h => Jy R (Js ?_)
 cases h
 have S003 := (S235.tr (S238.tr (S240.tr S249)))
 exact Jw1 _ ⟨K248, aK, aB, R, (Jx2 _ _).wk R, (f227.stp S003 R R), (f229.stp S003 R R)⟩ (KM R)
 refine JT fun h => Jx R (Ja [2, 1, 2, 1, 1, 2, 1] R (Jf R (Jb2 U42 R Z24 R R) ?_))
 have f259 := f229.stp (S235.tr (S238.tr (S240.tr S249))) R R
 refine Jl tv R R R R (Jc2 I24 R R (hvE (f259.ld 0 R R))) (Jn 1 R (Jn1 (κ := K248) (E := E6) 18 [] (parts := [(0, .tmp 127)]) (cells := [vi v114]) (xs := ([v114] : List Int)) R R R R R R Y24 Tryinfo2 R R R R R R R R R R ⟨[vi v114], [], Zl K248 w245 [], Zl K248 w245 [], R, Zl.sp (l1 := []) (l2 := []) R, Zl.sr (l1 := []) (l2 := []), R, R⟩ fun bp bA w260 K261 S262 f263 => ⟨tv, Ob h fun x129 hx129 h => Jm1 (κ := K261) (E := E6) 13 [] R R R R R R R R R Y24 Tryinfo2 R R R R (f227.stp (S235.tr (S238.tr (S240.tr (S249.tr S262)))) R R) (Sl.srcP (pu_int _) f263.rdc) sy_false hx129 R fun aZ bf w265 K266 S267 f268 => ⟨tv, Jf R (Jb2 U42 R Z24 R R) (Ji1 (κ := K266) 12 (off := 0) (vc := [.slice aZ x129.length bf]) (cs' := [.slice aZ x129.length bf, .slice af s14.2.length am]) R R R R R R R Z24 R R (f259.stp (S262.tr S267) R R) R R fun w270 S271 f272 => ⟨tv, Jo ?_⟩)⟩⟩))
 cases h
 exact Jw1 _ ⟨K266, aZ, bf, R, (S262.tr (S267.tr S271)).wk R, (f268.stp S271 R R), f272⟩ (KM R)
 rintro _ w253 ⟨K254, aw, an, rfl, S255, f256, f257⟩
 have h := hK252
 refine Jp (Jq (Js1 (κ := K254) [11, 15] none [(0, 2), (2, 2), (3, 2), (1, 0), (4, 0), (5, 1)] [] (by kernel_rfl) (by kernel_rfl) fun w277 S276 => Jf R (Jb2 U42 R Z24 R R) (Jn 1 R (Ob h fun x134 hx134 h => Jf R (rn_indexD (xs := ([x117.1, x117.2] : List Int)) (p := ⟨b20, 0, none⟩) hx134 R U108 Z2 R R R) (Jg R (Jc2 I24 R R (hvC ((f242.stp (S249.tr (S255.tr S276)) R R).ld 1 R R) R)) (Jg R (Jc2 I2 R R (hvC ((f243.stp (S249.tr (S255.tr S276)) R R).ldD (xs := ([x117.1, x117.2] : List Int)) 0 R hx134 R) R)) (Ob h fun x136 hx136 h => Jh R R R C72 (slices_Contains_I_int64_ok (κ := fun b => mp [] 0 (K254 b)) (Jl2 (fe200_1.stp (S203.tr (S206.tr (S210.tr (S213.tr (S226.tr (S235.tr (S238.tr (S240.tr (S249.tr (S255.tr S276)))))))))) R R) (mp [] 0) R R) hx136) ?_)))))))
 rintro _ w281 ⟨k282, rfl, e283⟩
 obtain ⟨K284, S285, m286⟩ := Ji e283 18 R
 refine ⟨(S285.cl R), Jt1 (Jd (Ob h fun q18 h hK288 => Jx1 (fun L w' => ∃ κ' aP aN, L = [(4, .pointer (some ⟨b4, 0, none⟩)), (6, .slice aa s3.1.length ab), (7, .pointer (some ⟨b7, 0, none⟩)), (14, vi v99), (17, .pointer (some ⟨b17, 0, none⟩)), (18, .pointer (some ⟨b18, 0, none⟩)), (97, .slice aj ([p0, p1] : List Det).length al), (98, vi (([p0, p1] : List Det).length : Int)), (99, vi v99), (105, .slice ae175_1 x102.Pairs.length ue175_1), (106, vi (x102.Pairs.length : Int)), (107, vi v107), (112, .slice aa s3.1.length ab), (113, vi (s3.1.length : Int)), (114, vi v114)] ∧ Stp [12, 14] K284 w281 κ' w' ∧ Oc E6 2 κ' w' 14 aP aN q18 ∧ Bc κ' w' 12 b18 42 [.slice aw q17.length an, .slice aP q18.length aN]) ?_ ?_))⟩
 revert h
 cases ht294 : x136
 refine JF fun h => Jy R (Js ?_)
 cases h
 exact Jw1 _ ⟨K284, af, am, R, (Jx2 _ _).wk R, (f228.stp (S235.tr (S238.tr (S240.tr (S249.tr (S255.tr (S276.tr S285)))))) R R), (f257.stp (S276.tr S285) R R)⟩ (KM R)
 refine JT fun h => Jx R (Ja [2, 1, 2, 1, 1, 2, 1] R (Jf R (Jb2 U42 R Z24 R R) ?_))
 have f295 := f257.stp (S276.tr S285) R R
 refine Jl tv R R R R (Jc2 I24 R R (hvE (f295.ld 1 R R))) (Jn 1 R (Jn1 (κ := K284) (E := E6) 20 [] (parts := [(0, .tmp 139)]) (cells := [vi v114]) (xs := ([v114] : List Int)) R R R R R R Y24 Tryinfo2 R R R R R R R R R R ⟨[vi v114], [], Zl K284 w281 [], Zl K284 w281 [], R, Zl.sp (l1 := []) (l2 := []) R, Zl.sr (l1 := []) (l2 := []), R, R⟩ fun br bz w296 K297 S298 f299 => ⟨tv, Ob h fun x141 hx141 h => Jm1 (κ := K297) (E := E6) 14 [] R R R R R R R R R Y24 Tryinfo2 R R R R (f228.stp (S235.tr (S238.tr (S240.tr (S249.tr (S255.tr (S276.tr (S285.tr S298))))))) R R) (Sl.srcP (pu_int _) f299.rdc) sy_false hx141 R fun bc bd w301 K302 S303 f304 => ⟨tv, Jf R (Jb2 U42 R Z24 R R) (Ji1 (κ := K302) 12 (off := 1) (vc := [.slice bc x141.length bd]) (cs' := [.slice aw q17.length an, .slice bc x141.length bd]) R R R R R R R Z24 R R (f295.stp (S298.tr S303) R R) R R fun w306 S307 f308 => ⟨tv, Jo ?_⟩)⟩⟩))
 cases h
 exact Jw1 _ ⟨K302, bc, bd, R, (S298.tr (S303.tr S307)).wk R, (f304.stp S307 R R), f308⟩ (KM R)
 rintro _ w289 ⟨K290, aP, aN, rfl, S291, f292, f293⟩
 have h := hK288
 refine Jz (Jp (Ja [2, 2] R (Jc 2 R ?_)))
 have hw215 : IntKind.wrap .i64 (v114 + 1) = v114 + 1 := wr1 hj215 (Jm2 hc215) hN215
 rw [hw215]
 have hc215 := Jm2 hc215
 cases h
 exact Jz1 fun a ha => ⟨k, _, Ja3 _, ⟨K290, v114 + 1, ((q17 : (List Int)), (q18 : (List Int))), aw, an, aP, aN, R, (S226.tr (S235.tr (S238.tr (S240.tr (S249.tr (S255.tr (S276.tr (S285.tr S291)))))))).wk R, (f256.stp (S276.tr (S285.tr S291)) R R), f292, f293, by omega, by omega, hk230⟩, (ha.mm R)⟩
 rintro _ w218 ⟨K219, s16, ai, ah, ak, ae, rfl, S220, f221, f222, f223, rfl⟩
 have h := hK216
 dsimp only [aft] at h
 refine Jp (Ja [2, 1, 1, 1, 1, 2, 1] R (Jf R (Jb2 U58 R Z29 R R) ?_))
 have f313 := f195.stp (S203.tr (S206.tr (S210.tr (S213.tr S220)))) R R
 refine Jl tv R R R R (Jc2 I29 R R (hvE (f313.ld 1 R R))) (Jl tv R R R R (Jd2 (cs := [.slice ai s16.1.length ah, .slice ak s16.2.length ae]) I42 Z42 R R R (haE f223.cells)) (Jn1 (κ := K219) (E := Pair.ep42) 15 [13, 14] (parts := [(0, .tmp 146)]) (cells := [.slice ai s16.1.length ah, .slice ak s16.2.length ae]) (xs := ([(⟨s16.1, s16.2⟩ : Pair)] : List Pair)) R R R R R R Y29 Tryinfo42 R R R R R R R R R R ⟨[.slice ai s16.1.length ah, .slice ak s16.2.length ae], [], Zl K219 w218 [13, 14], Zl K219 w218 [], R, Zl.sp (l1 := [13, 14]) (l2 := []) R, Zl.sr (l1 := [13, 14]) (l2 := []), ⟨[.slice ai s16.1.length ah], [.slice ak s16.2.length ae], Zl K219 w218 [13], Zl K219 w218 [14], R, Zl.sp (l1 := [13]) (l2 := [14]) R, Zl.sr (l1 := [13]) (l2 := [14]), ⟨_, _, R, f221⟩, ⟨_, _, R, f222⟩⟩, R⟩ fun bw bv w314 K315 S316 f317 => ⟨tv, Ob h fun x148 hx148 h => Jm1 (κ := K315) (E := Pair.ep42) 9 [15] R R R R R R R R R Y29 Tryinfo42 R R R R (f194.stp (S203.tr (S206.tr (S210.tr (S213.tr (S220.tr S316))))) R R) f317.src (sy_one R) hx148 R fun ba bg w319 K320 S321 f322 => ⟨tv, Jf R (Jb2 U58 R Z29 R R) (Ji1 (κ := K320) 6 (off := 1) (vc := [.slice ba x148.length bg]) (cs' := [.slice ad s3.2.2.length ac, .slice ba x148.length bg]) R R R R R R R Z29 R R (f313.stp (S316.tr S321) R R) R R fun w324 S325 f326 => ⟨tv, Jo (Jz (Jp (Ja [2, 2] R (Jc 2 R ?_))))⟩)⟩⟩))
 have hw183 : IntKind.wrap .i64 (v107 + 1) = v107 + 1 := wr1 hj183 (Jm2 hc183) hN183
 rw [hw183]
 have hc183 := Jm2 hc183
 cases h
 exact Jz1 fun a ha => ⟨k, _, Ja3 _, ⟨K320, v107 + 1, (x148 : (List Pair)), ba, bg, R, (S193.tr (S203.tr (S206.tr (S210.tr (S213.tr (S220.tr (S316.tr (S321.tr S325)))))))).wk R, (f322.stp S325 R R), f326, by omega, by omega, hk198⟩, (ha.mm R)⟩
 rintro _ w186 ⟨K187, s13, aS, aW, rfl, S188, f189, f190, rfl⟩
 have h := hK184
 dsimp only [aft] at h
 refine Jz (Jp (Ja [2, 2] R (Jc 2 R ?_)))
 have hw159 : IntKind.wrap .i64 (v99 + 1) = v99 + 1 := wr1 hj159 (Jm2 hc159) hN159
 rw [hw159]
 have hc159 := Jm2 hc159
 cases h
 exact Jz1 fun a ha => ⟨k, _, Ja3 _, ⟨K187, v99 + 1, (s13 : (List Pair)), aS, aW, R, (S169.tr (S178.tr (S181.tr S188))).wk R, f189, f190, by omega, by omega, hk173⟩, (ha.mm R)⟩
 rintro _ w162 ⟨K163, s10, aq, ar, rfl, S164, f165, f166, rfl⟩
 have h := hK160
 dsimp only [aft] at h
 refine Jp (Je [1, 1, 2] R (Jl tv R R R R (Jd2 (cs := [.slice ad s3.2.2.length ac, .slice aq s10.length ar]) I58 Z58 R R R (haE f166.cells)) (Jj1 (κ := K163) 4 (vc := [.slice ad s3.2.2.length ac, .slice aq s10.length ar]) R R R R R R R Z58 R R (f12.stp (S22.tr (S26.tr (S29.tr (S36.tr (S157.tr S164))))) R R) R fun w329 S330 f331 => ⟨tv, Jb 1 R (Ju (Ja2 (l := [.cell 4 58, .tmp 5]) V96 (res_cellA R f331 I58 Z58 R (Jp2 R R)) R ?_))⟩)))
 cases h
 exact ⟨(fun b => ren [(7, 2), (9, 3)] (K163 b)), ad, ac, aq, ar, R, ((hE.stp (S3.tr (S7.tr (S11.tr (S22.tr (S26.tr (S29.tr (S36.tr (S157.tr (S164.tr S330))))))))) R R).map (ren [(7, 2), (9, 3)]) R R), ((f38.stp (S157.tr (S164.tr S330)) R R).map (ren [(7, 2), (9, 3)]) R R), ((f165.stp S330 R R).map (ren [(7, 2), (9, 3)]) R R)⟩
 refine JT fun h => Jx R (Je [2, 1, 2] R (Jf R (rn_build (parts := []) (cells := [.slice none 0 0, .slice none 0 0]) R R (by kernel_rfl)) (Jj1 (κ := K10) 4 (vc := [.slice none 0 0, .slice none 0 0]) R R R R R R R Z58 R R f12 R fun w16 S17 f18 => ⟨tv, Jb 1 R (Ju (Jw (Ja2 (l := [.cell 4 58, .tmp 5]) V96 (res_cellA R f18 I58 Z58 R (Jp2 R R)) R ?_)))⟩)))
 cases h
 exact ⟨K10, none, 0, none, 0, R, (hE.stp (S3.tr (S7.tr (S11.tr S17))) R R), Ow.nil, Ow.nil⟩
theorem i_watch_outside_ok {w : World} {κ : Col} {ah ai ad ac af ae} {p0 : watch} {a1 u1} {p1 : (List Int)} {b0} (g0_0 : Rd (Rp.sl (Rp.int .i64)) κ w 0 ah ai p0.next) (g0_1 : Rd (Rp.sl (Rp.int .i64)) κ w 0 ad ac p0.letters) (g0_2 : Rd Pair.rp κ w 0 af ae p0.pairs) (g1 : Rd (Rp.int .i64) κ w 0 a1 u1 p1) (gb0 : Bc κ w 0 b0 89 [.slice ah p0.next.length ai, .slice ad p0.letters.length ac, .slice af p0.pairs.length ae]) {r : (List Bool)} (h : i_watch_outside p0 p1 = some r) : Ret Try.prog 98 [.pointer (some ⟨b0, 0, none⟩), .slice a1 p1.length u1] w (fun v w' => ∃ (κ' : Col) (ra0 : Option Addr) (ru0 : Nat), v = .slice ra0 r.length ru0 ∧ Ent κ w κ' w' ∧ Oc Ep.bool 4 κ' w' 2 ra0 ru0 r) := by
 unfold i_watch_outside at h
 refine Ret.enter F98 R N98 R ?_
 dsimp only [envOf]
 have hE := Ent.refl κ w
 refine Je [2] R (Jb 1 R (Je [2, 2, 2, 1, 2, 1, 2] R (Jn 1 R (Jf R (rn_nilCheck R R) (Jf R (Jb2 U89 R Z22 R R) (Jl tv R R R R (Jc2 I22 R R (hvE (gb0.ld 0 R R))) (Jf R (Je2 U22 R R) (Ob h fun x12 hx12 h => Jl1 (κ := κ) (E := Ep.bool) (z := (false : Bool)) 2 R R R R R R R Y98 Tryinfo4 R R R R R (fun _ _ _ => R) (Ju2 hx12) fun ab aa w1 K2 S3 f4 => ⟨tv, Jb 1 R (Jq (Je [2, 2, 2] R (Jn 1 R (Jf R (Je2 U98 R R) (Jb 1 R ?_)))))⟩))))))))
 have hN5 : (x12.length : Int) ≤ 9223372036854775807 := f4.len_le
 refine Ob h fun q2 hq7 hK6 => ?_
 clear h
 refine Jx1 (fun L w' => ∃ κ', ∃ s3 : (List Bool), L = [(0, .pointer (some ⟨b0, 0, none⟩)), (5, .slice ab x12.length aa)] ∧ Stp [2] K2 w1 κ' w' ∧ Oc Ep.bool 4 κ' w' 2 ab aa s3 ∧ x12.length = s3.length ∧ q2 = Sum.inr s3) ?_ ?_
 refine Jv (Jy1 (fun k L w' => ∃ κ' v15, ∃ s1 : (List Bool), L = [(0, .pointer (some ⟨b0, 0, none⟩)), (1, .slice a1 p1.length u1), (5, .slice ab x12.length aa), (14, vi (x12.length : Int)), (15, vi v15)] ∧ Stp [2] K2 w1 κ' w' ∧ Oc Ep.bool 4 κ' w' 2 ab aa s1 ∧ x12.length = s1.length ∧ 0 ≤ v15 ∧ Int.toNat ((x12.length : Int) - v15) = k ∧ cntM (i_watch_outside_b0 p1) k v15 s1 = some q2) ⟨_, _, ⟨K2, 0, (x12 : (List Bool)), R, (Jx2 _ _).wk R, f4, R, (by decide), (by simp), hq7⟩, (KM R)⟩ ?_)
 rintro k _ w13 ⟨K14, v15, s1, rfl, S15, f16, hn17, hj5, hJ5, h⟩
 rcases k with _ | k
 have hk18 := h; obtain ⟨o5, h⟩ := ex_eq (Sum.inr (Sum.inl s1) : (List Bool) ⊕ (((List Bool)) ⊕ ((List Bool))))
 have hc5 : decide (v15 < (x12.length : Int)) = false := Jo2 (by omega)
 refine Je [2] R (Jb 1 R (Jq (Jw2 R hc5 (Jc1 (Jt (Jt ?_))))))
 cases h
 have h := hk18
 refine Jb1 ?_
 cases h
 exact Jw1 _ ⟨K14, (s1 : (List Bool)), R, S15.wk R, f16, hn17, R⟩ (KM R)
 obtain ⟨o5, h, hk18⟩ := BI h; unfold i_watch_outside_b0 at h
 have hc5 : decide (v15 < (x12.length : Int)) = true := Jn2 (by omega)
 refine Je [2] R (Jb 1 R (Jq (Jv2 R hc5 (Js (Jp (Jq (Jv (Je [2, 2] R (Jb 2 R (Ja [2, 2, 2, 2, 1, 2, 2, 1] R (Jn 4 R (Ob h fun x22 hx22 h => Jh R R R C72 (slices_Contains_I_int64_ok (κ := fun b => mp [] 0 (K14 b)) (Jl2 (g1.stp (S3.tr S15) R R) (mp [] 0) R R) hx22) ?_))))))))))))
 rintro _ w20 ⟨k21, rfl, e22⟩
 obtain ⟨K23, S24, m25⟩ := Ji e22 3 R
 refine ⟨tv, Jn 1 R (Ob h fun x24 hx24 h => Jf R (Jf2 f16.rdc hx24 U98 Z4 R R hn17 R) (Ob h fun y103 hy103 h => Jk1 (κ := K23) (E := Ep.bool) 2 [] R R R R R R R R Z4 R R R R (f16.stp S24 R R) hy103 fun w28 K29 S30 f31 => ⟨tv, ?_⟩))⟩
 have hn32 : x12.length = y103.length := hn17.trans (Jt2 hy103).2.2.2.symm
 refine Jo (Jz (Jp (Ja [2, 2] R (Jc 2 R ?_))))
 have hw5 : IntKind.wrap .i64 (v15 + 1) = v15 + 1 := wr1 hj5 (Jm2 hc5) hN5
 rw [hw5]
 have hc5 := Jm2 hc5
 cases h
 exact Jz1 fun a ha => ⟨k, _, Ja3 _, ⟨K29, v15 + 1, (y103 : (List Bool)), R, (S15.tr (S24.tr S30)).wk R, f31, hn32, by omega, by omega, hk18⟩, (ha.mm R)⟩
 rintro _ w8 ⟨K9, s3, rfl, S10, f11, hn12, rfl⟩
 have h := hK6
 dsimp only [aft] at h
 refine Jp (Je [2, 2] R (Jb 2 R (Ju (Ja2 (l := [.tmp 4]) V98 (Jp2 R R) R ?_))))
 cases h
 exact ⟨K9, ab, aa, (by simp only [hn12]), (hE.stp (S3.tr S10) R R), f11⟩
theorem s_LettersOf_ok {w : World} {κ : Col} {p0 : Sig}  {r : Int} (h : s_LettersOf p0 = some r) : Ret Try.prog 51 [.agg #[vi p0.In, vi p0.Out]] w (fun v w' => ∃ (κ' : Col), v = vi r ∧ Ent κ w κ' w') := by
 unfold s_LettersOf at h
 refine Ret.enter F51 R N51 R ?_
 dsimp only [envOf]
 have hE := Ent.refl κ w
 refine Je [1, 2] R (Jf1 (κ := κ) 2 R R R R R R R fun b1 w1 K2 S3 f4 => ⟨tv, Jb 1 R (Jq (Je [1, 1, 2] R (Jl tv R R R R (Jd2 (cs := [vi p0.In, vi p0.Out]) I47 Z47 R R R (haE f4.cells)) (Ob h fun x4 hx4 h => Jh R R R C73 (s_SigOk_ok (κ := fun b => mp [] 0 (K2 b)) (p0 := p0) hx4) ?_))))⟩)
 rintro _ w5 ⟨k6, rfl, e7⟩
 obtain ⟨K8, S9, m10⟩ := Ji e7 3 R
 refine ⟨tv, Jb 1 R ?_⟩
 revert h
 cases ht12 : (!x4)
 refine JF fun h => Jy R (Js (Jp (Je [2, 1, 2, 1, 2, 1, 2] R (Jf R (Jb2 U47 R Z2 R R) ?_))))
 have f14 := f4.stp S9 R R
 refine Jl tv R R R R (Jc2 I2 R R (hvE (f14.ld 0 R R))) (Jf R (Jb2 U47 R Z2 R R) (Jl tv R R R R (Jc2 I2 R R (hvE (f14.ld 1 R R))) (Jn 1 R (Ob h fun x11 hx11 h => Jh R R R C75 (s_l23Power_ok (κ := fun b => mp [] 0 (K8 b)) hx11) ?_))))
 rintro _ w15 ⟨k16, rfl, e17⟩
 obtain ⟨K18, S19, m20⟩ := Ji e17 5 R
 refine ⟨tv, Jb 1 R (Ju (Ja2 (l := [.tmp 2]) V51 (Jp2 R R) R ?_))⟩
 cases h
 exact ⟨K18, R, (hE.stp (S3.tr (S9.tr S19)) R R)⟩
 refine JT fun h => Jx R (Je [2] R (Jb 1 R (Ju (Jw (Ja2 (l := [.tmp 2]) V51 (Jp2 R R) R ?_)))))
 cases h
 exact ⟨K8, R, (hE.stp (S3.tr S9) R R)⟩
theorem s_l1Set_ok {w : World} {κ : Col} {a0 u0} {p0 : (List Int)} {p1 : Int} (g0 : Rd (Rp.int .i64) κ w 0 a0 u0 p0) {r : Bool} (h : s_l1Set p0 p1 = some r) : Ret Try.prog 29 [.slice a0 p0.length u0, vi p1] w (fun v w' => ∃ (κ' : Col), v = .bool r ∧ Ent κ w κ' w') := by
 unfold s_l1Set at h
 refine Ret.enter F29 R N29 R ?_
 dsimp only [envOf]
 have hE := Ent.refl κ w
 refine Je [2] R (Jb 1 R (Je [2, 2, 2, 2, 2, 2, 2, 1, 2, 2] R (Jn 1 R (Jf R (Je2 U24 R R) (Jn 3 R (Ob h fun p13 h hK1 => Ju1 [(5, 2), (6, 2), (7, 1), (8, 2)] [(9, 2)] (fun L w' => L = [(4, .bool false), (13, .bool p13)] ∧ ∃ κ', Stp [] κ w κ' w') tv ?_ ?_))))))
 revert h
 cases ht2 : decide ((p0.length : Int) ≤ p1)
 refine JF fun h => Jn 2 R (Jd1 R R R R (Jn 1 R ?_))
 cases h
 exact Jv1 _ tv ⟨R, _, (Jx2 _ _).wk R⟩ (KM R)
 refine JT fun h => Jn 2 R (Ob h fun x12 hx12 h => Jh R R R C55 (s_l1Rises_ok (κ := fun b => mp [] 0 (κ b)) (Jl2 g0 (mp [] 0) R R) hx12) ?_)
 rintro _ w3 ⟨k4, rfl, e5⟩
 obtain ⟨K6, S7, m8⟩ := Ji e5 2 R
 refine ⟨tv, Jn 1 R ?_⟩
 cases h
 exact Jv1 _ tv ⟨R, _, S7.wk R⟩ (KM R)
 rintro _ w10 _ ⟨rfl, K11, S12⟩
 have h := hK1
 refine Jb 1 R (Ju (Ja2 (l := [.tmp 4]) V29 (Jp2 R R) R ?_))
 cases h
 exact ⟨K11, R, (hE.stp S12 R R)⟩
end Go.Proofs.Ytcmamhmpoinmnaa
