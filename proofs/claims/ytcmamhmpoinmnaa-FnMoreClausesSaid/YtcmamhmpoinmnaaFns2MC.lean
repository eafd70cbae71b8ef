/- The walks, part 2. By program. -/
import Derived.Test.YtcmamhmpoinmnaaFns1MC
set_option linter.unusedVariables false
set_option linter.unusedSimpArgs false
namespace Go.Proofs.Ytcmamhmpoinmnaa
open Go Go.Wk Go.Proofs
set_option maxRecDepth 100000
set_option maxHeartbeats 1000000
theorem slices_ContainsFunc_I_int64__i_areLetters_1_ok {w : World} {κ : Col} {a0 u0} {p0 : (List Int)} {c1_0 : Int} {b1_0} (g0 : Rd (Rp.int .i64) κ w 0 a0 u0 p0) (gb1_0 : Bc κ w 0 b1_0 2 [vi c1_0]) {r : Bool} (h : slices_ContainsFunc_I_int64__i_areLetters_1 p0 c1_0 = some r) : Ret Try.prog 99 [.slice a0 p0.length u0, .func (.func 100) #[] #[.pointer (some ⟨b1_0, 0, none⟩)]] w (fun v w' => ∃ (κ' : Col), v = .bool r ∧ Ent κ w κ' w') := by
 unfold slices_ContainsFunc_I_int64__i_areLetters_1 at h
 refine Ret.enter F99 R N99 R ?_
 dsimp only [envOf]
 have hE := Ent.refl κ w
 refine Je [2] R (Jb 1 R (Je [2, 2, 1, 2, 2] R (Jn 2 R (Ob h fun x7 hx7 h => Jh R R R C114 (slices_IndexFunc_I_int64__i_areLetters_1_ok (κ := fun b => mp [] 0 (κ b)) (Jl2 g0 (mp [] 0) R R) (gb1_0.map (mp [] 0) R R) hx7) ?_))))
 rintro _ w1 ⟨k2, rfl, e3⟩
 obtain ⟨K4, S5, m6⟩ := Ji e3 2 R
 refine ⟨tv, Jb 2 R (Ju (Ja2 (l := [.tmp 4]) V99 (Jp2 R R) R ?_))⟩
 cases h
 exact ⟨K4, R, (hE.stp S5 R R)⟩
theorem i_watchOf_ok {w : World} {κ : Col} {p0 : Sig} {bn bj bp bm} {p1 : Machine} {bl bq an aw} {p2 : Det} (g1_0 : Rd (Rp.sl (Rp.int .i64)) κ w 0 bn bj p1.Next) (g1_1 : Rd (Rp.sl (Rp.int .i64)) κ w 0 bp bm p1.Out) (g2_0 : Rd (Rp.sl (Rp.int .i64)) κ w 0 bl bq p2.Next) (g2_1 : Rd Pair.rp κ w 0 an aw p2.Pairs) {r : (Option watch) × Bool} (h : i_watchOf p0 p1 p2 = some r) : Ret Try.prog 47 [.agg #[vi p0.In, vi p0.Out], .agg #[.slice bn p1.Next.length bj, .slice bp p1.Out.length bm], .agg #[.slice bl p2.Next.length bq, .slice an p2.Pairs.length aw]] w (fun v w' => ∃ (κ' : Col) (ra0 : Option Addr) (ru0 : Nat) (ra1 : Option Addr) (ru1 : Nat) (ra2 : Option Addr) (ru2 : Nat) (rb3 : Nat), v = .tuple #[.pointer (bif r.1.isSome then some ⟨rb3, 0, none⟩ else none), .bool r.2] ∧ Ent κ w κ' w' ∧ Oc (Ep.own E6 2) 24 κ' w' 2 ra0 ru0 ((r.1.getD (⟨([] : List (List Int)), ([] : List (List Int)), ([] : List Pair)⟩ : watch)).next) ∧ Oc (Ep.own E6 2) 24 κ' w' 3 ra1 ru1 ((r.1.getD (⟨([] : List (List Int)), ([] : List (List Int)), ([] : List Pair)⟩ : watch)).letters) ∧ Oc Pair.ep42 42 κ' w' 4 ra2 ru2 ((r.1.getD (⟨([] : List (List Int)), ([] : List (List Int)), ([] : List Pair)⟩ : watch)).pairs) ∧ (r.1.isSome = true → Bc κ' w' 5 rb3 89 [.slice ra0 ((r.1.getD (⟨([] : List (List Int)), ([] : List (List Int)), ([] : List Pair)⟩ : watch)).next).length ru0, .slice ra1 ((r.1.getD (⟨([] : List (List Int)), ([] : List (List Int)), ([] : List Pair)⟩ : watch)).letters).length ru1, .slice ra2 ((r.1.getD (⟨([] : List (List Int)), ([] : List (List Int)), ([] : List Pair)⟩ : watch)).pairs).length ru2])) := by
 unfold i_watchOf at h
 refine Ret.enter F47 R N47 R ?_
 dsimp only [envOf]
 have hE := Ent.refl κ w
 refine Je [1, 1, 1, 2, 2] R (Jf1 (κ := κ) 2 R R R R R R R fun b3 w1 K2 S3 f4 => ⟨tv, Jf1 (κ := K2) 3 R R R R R R R fun b4 w5 K6 S7 f8 => ⟨tv, Jf1 (κ := K6) 4 R R R R R R R fun b5 w9 K10 S11 f12 => ⟨tv, Jb 2 R (Je [2, 1, 2] R (Jf R (rn_build (parts := [(0, .const (vi 0)), (1, .const (vi 0))]) (cells := [vi 0, vi 0]) R R (by kernel_rfl)) (Jn1 (κ := K10) (E := (Ep.pair E6 E6)) 5 [] (parts := [(0, .tmp 27)]) (cells := [vi 0, vi 0]) (xs := ([(0, 0)] : List (Int × Int))) R R R R R R Y109 Tryinfo108 R R R R R R R R R R ⟨[vi 0, vi 0], [], Zl K10 w9 [], Zl K10 w9 [], R, Zl.sp (l1 := []) (l2 := []) R, Zl.sr (l1 := []) (l2 := []), ⟨[vi 0], [vi 0], Zl K10 w9 [], Zl K10 w9 [], R, Zl.sp (l1 := []) (l2 := []) R, Zl.sr (l1 := []) (l2 := []), R, R⟩, R⟩ fun bw bt w13 K14 S15 f16 => ⟨tv, Jb 1 R (Je [1, 2, 1, 2, 2] R (WO.mkmap (κ := K14) 6 R R R R R kwI2 kvI2 (fun v : Int => vi v) fun mb29 w17 K18 S19 f20 => ⟨tv, Jf R (rn_build (parts := [(0, .const (vi 0)), (1, .const (vi 0))]) (cells := [vi 0, vi 0]) R R (by kernel_rfl)) (Ob h fun y81 hy81 h => WO.mapin (κ := K18) (kf := kvI2) (vf := (fun v : Int => vi v)) (v := 0) 6 R R R R R R R keyEI2 U110 f20 hy81 fun w21 S22 f23 => ⟨tv, Jb 2 R (Je [2, 1, 2] R (Jf R (rn_build (parts := []) (cells := [.slice none 0 0, .slice none 0 0, .slice none 0 0]) R R (by kernel_rfl)) (Jf1 (κ := K18) 7 R R R R R R R fun b33 w24 K25 S26 f27 => ⟨tv, Jb 1 R (Jq (Je [2] R (Jb 1 R (Ob h fun q2 hq30 hK29 => ?_))))⟩)))⟩)⟩))⟩)))⟩⟩⟩)
 clear h
 refine Jx1 (fun L w' => ∃ (κ' : Col) (s3 : (List (Int × Int)) × Int × (List (List Int)) × (List (List Int)) × (List ((Int × Int) × Int))) (ac : Option Addr) (af : Nat) (al : Option Addr) (ap : Nat) (aj : Option Addr) (ar : Nat), L = [(5, .pointer (some ⟨b5, 0, none⟩)), (8, .slice ac s3.1.length af), (10, .pointer (some ⟨b33, 0, none⟩))] ∧ Stp [5, 6, 7, 8, 9, 10, 11, 12, 13, 14] K25 w24 κ' w' ∧ Oc (Ep.pair E6 E6) 108 κ' w' 5 ac af s3.1 ∧ Oc (Ep.own E6 2) 24 κ' w' 8 al ap s3.2.2.1 ∧ Oc (Ep.own E6 2) 24 κ' w' 9 aj ar s3.2.2.2.1 ∧ Mc kwI2 kvI2 (fun v : Int => vi v) κ' w' 6 mb29 s3.2.2.2.2 ∧ Bc κ' w' 7 b33 89 [.slice al s3.2.2.1.length ap, .slice aj s3.2.2.2.1.length ar, .slice none 0 0] ∧ q2 = Sum.inr s3) ?_ ?_
 refine Jv (Jy1 (fun k L w' => ∃ (κ' : Col) (s1 : (List (Int × Int)) × Int × (List (List Int)) × (List (List Int)) × (List ((Int × Int) × Int))) (aN : Option Addr) (aD : Nat) (aX : Option Addr) (bc : Nat) (ax : Option Addr) (aA : Nat), L = [(3, .pointer (some ⟨b3, 0, none⟩)), (4, .pointer (some ⟨b4, 0, none⟩)), (5, .pointer (some ⟨b5, 0, none⟩)), (8, .slice aN s1.1.length aD), (9, .map (some mb29)), (10, .pointer (some ⟨b33, 0, none⟩)), (11, vi s1.2.1)] ∧ Stp [5, 6, 7, 8, 9, 10, 11, 12, 13, 14] K25 w24 κ' w' ∧ Oc (Ep.pair E6 E6) 108 κ' w' 5 aN aD s1.1 ∧ Oc (Ep.own E6 2) 24 κ' w' 8 aX bc s1.2.2.1 ∧ Oc (Ep.own E6 2) 24 κ' w' 9 ax aA s1.2.2.2.1 ∧ Mc kwI2 kvI2 (fun v : Int => vi v) κ' w' 6 mb29 s1.2.2.2.2 ∧ Bc κ' w' 7 b33 89 [.slice aX s1.2.2.1.length bc, .slice ax s1.2.2.2.1.length aA, .slice none 0 0] ∧ whileM (i_watchOf_b0 p0 p1 p2) k s1 = some q2) ⟨_, _, ⟨K25, ((([(0, 0)] : List (Int × Int)) : (List (Int × Int))), (0 : Int), (([] : List (List Int)) : (List (List Int))), (([] : List (List Int)) : (List (List Int))), (y81 : (List ((Int × Int) × Int)))), bw, bt, none, 0, none, 0, R, (Jx2 _ _).wk R, (f16.stp (S19.tr (S22.tr S26)) R R), Ow.nil, Ow.nil, (f23.stp S26 R R), f27, hq30⟩, (KM R)⟩ ?_)
 rintro k _ w40 ⟨K41, s1, aN, aD, aX, bc, ax, aA, rfl, S42, f43, f44, f45, f46, f48, h⟩
 rcases k with _ | k
 cases h
 obtain ⟨o28, h, hk51⟩ := BI h; unfold i_watchOf_b0 at h
 refine Jq (Je [2, 2, 2, 2] R (Jn 2 R (Jf R (Je2 U109 R R) (Jb 1 R ?_))))
 revert h
 cases ht52 : decide (s1.2.1 < (s1.1.length : Int))
 refine JF fun h => Jy R (Jc1 (Jt (Jt ?_)))
 cases h
 have h := hk51
 refine Jb1 ?_
 cases h
 exact Jw1 _ ⟨K41, ((s1.1 : (List (Int × Int))), (s1.2.1 : Int), (s1.2.2.1 : (List (List Int))), (s1.2.2.2.1 : (List (List Int))), (s1.2.2.2.2 : (List ((Int × Int) × Int)))), aN, aD, aX, bc, ax, aA, R, S42.wk R, f43, f44, f45, f46, f48, R⟩ (KM R)
 refine JT fun h => Jx R (Js (Jp (Jq (Jv (Jq (Js1 (κ := K41) [0, 5] none [(0, 2), (1, 2), (2, 2), (3, 2), (5, 2), (6, 2), (7, 2), (8, 2), (4, 0), (10, 2), (9, 0), (11, 2)] [] (by kernel_rfl) (by kernel_rfl) fun w54 S53 => Jn 2 R (Ob h fun x42 hx42 h => Jf R (Jf2 f43.rdc hx42 U109 Z108 R R R R) (Jf R (rn_indexA U108 Z2 R R R R) (Jn 2 R (Ob h fun x47 hx47 h => Jf R (Jf2 f43.rdc hx47 U109 Z108 R R R R) (Jf R (rn_indexA U108 Z2 R R R R) ?_)))))))))))
 have f55 := f43.stp S53 R R
 obtain ⟨cse56, hre56, hle56⟩ := (f55.rdc).gSt hx42
 obtain ⟨_, _, rfl, rfl, rfl⟩ := hre56
 refine Jg R (Jc2 I2 R R (hvC (fun w' hw' => hle56 w' hw' 0 _ R) R)) (Jn 1 R ?_)
 obtain ⟨cse57, hre57, hle57⟩ := (f55.rdc).gSt hx47
 obtain ⟨_, _, rfl, rfl, rfl⟩ := hre57
 refine Jg R (Jc2 I2 R R (hvC (fun w' hw' => hle57 w' hw' 1 _ R) R)) (Jn 1 R (Jt1 (Jd (Je [1, 1, 2, 2] R (Jo1 (κ := K41) (E := E6) 10 R R R R R Y24 Tryinfo2 R fun bE bB w58 K59 S60 f61 => ⟨tv, Jo1 (κ := K59) (E := E6) 11 R R R R R Y24 Tryinfo2 R fun bx bF w62 K63 S64 f65 => ⟨tv, Jb 2 R (Jq (Je [2, 1, 2, 2, 1, 2, 2] R (Jf R (Jb2 U49 R Z22 R R) ?_)))⟩⟩)))))
 have f66 := f8.stp (S11.tr (S15.tr (S19.tr (S22.tr (S26.tr (S42.tr (S53.tr (S60.tr S64)))))))) R R
 refine Jl tv R R R R (Jc2 I22 R R (hvE (f66.ld 0 R R))) (Jn 1 R (Ob h fun x55 hx55 h => Jf R (Jf2 g1_0 hx55 U22 Z24 R R R R) ?_))
 obtain ⟨ax55, ux55, f68, hl69⟩ := (g1_0.stp (S3.tr (S7.tr (S11.tr (S15.tr (S19.tr (S22.tr (S26.tr (S42.tr (S53.tr (S60.tr S64)))))))))) R R).gSl hx55
 refine Jl tv R R R R (Jc2 I24 R R (hvE hl69)) (Jf R (Je2 U24 R R) (Jb 1 R ?_))
 have hN70 : (x55.length : Int) ≤ 9223372036854775807 := f68.len_le
 refine Ob h fun q5 hq72 hK71 => ?_
 clear h
 refine Jx1 (fun L w' => ∃ (κ' : Col) (s6 : (List (Int × Int)) × (List Int) × (List Int) × (List ((Int × Int) × Int))) (aI : Option Addr) (aE : Nat) (ao : Option Addr) (az : Nat) (ai : Option Addr) (ah : Nat), L = [(3, .pointer (some ⟨b3, 0, none⟩)), (4, .pointer (some ⟨b4, 0, none⟩)), (5, .pointer (some ⟨b5, 0, none⟩)), (8, .slice aI s6.1.length aE), (9, .map (some mb29)), (10, .pointer (some ⟨b33, 0, none⟩)), (11, vi s1.2.1), (14, .slice ao s6.2.1.length az), (15, .slice ai s6.2.2.1.length ah)] ∧ Stp [5, 6, 10, 11, 14] K63 w62 κ' w' ∧ Oc (Ep.pair E6 E6) 108 κ' w' 5 aI aE s6.1 ∧ Oc E6 2 κ' w' 10 ao az s6.2.1 ∧ Oc E6 2 κ' w' 11 ai ah s6.2.2.1 ∧ Mc kwI2 kvI2 (fun v : Int => vi v) κ' w' 6 mb29 s6.2.2.2 ∧ q5 = Sum.inr s6) ?_ ?_
 refine Jv (Jy1 (fun k L w' => ∃ (κ' : Col) (v58 : Int) (s4 : (List (Int × Int)) × (List Int) × (List Int) × (List ((Int × Int) × Int))) (aK : Option Addr) (aL : Nat) (aM : Option Addr) (aH : Nat) (aJ : Option Addr) (aO : Nat), L = [(3, .pointer (some ⟨b3, 0, none⟩)), (4, .pointer (some ⟨b4, 0, none⟩)), (5, .pointer (some ⟨b5, 0, none⟩)), (8, .slice aK s4.1.length aL), (9, .map (some mb29)), (10, .pointer (some ⟨b33, 0, none⟩)), (11, vi s1.2.1), (12, vi x42.1), (13, vi x47.2), (14, .slice aM s4.2.1.length aH), (15, .slice aJ s4.2.2.1.length aO), (56, .slice ax55 x55.length ux55), (57, vi (x55.length : Int)), (58, vi v58)] ∧ Stp [5, 6, 10, 11, 14] K63 w62 κ' w' ∧ Oc (Ep.pair E6 E6) 108 κ' w' 5 aK aL s4.1 ∧ Oc E6 2 κ' w' 10 aM aH s4.2.1 ∧ Oc E6 2 κ' w' 11 aJ aO s4.2.2.1 ∧ Mc kwI2 kvI2 (fun v : Int => vi v) κ' w' 6 mb29 s4.2.2.2 ∧ 0 ≤ v58 ∧ Int.toNat ((x55.length : Int) - v58) = k ∧ cntM (i_watchOf_b2 p0 p1 p2 x42 x47 x55) k v58 s4 = some q5) ⟨_, _, ⟨K63, 0, ((s1.1 : (List (Int × Int))), (([] : List Int) : (List Int)), (([] : List Int) : (List Int)), (s1.2.2.2.2 : (List ((Int × Int) × Int)))), aN, aD, bE, bB, bx, bF, R, (Jx2 _ _).wk R, (f55.stp (S60.tr S64) R R), (f61.stp S64 R R), f65, (f46.stp (S53.tr (S60.tr S64)) R R), (by decide), (by simp), hq72⟩, (KM R)⟩ ?_)
 rintro k _ w81 ⟨K82, v58, s4, aK, aL, aM, aH, aJ, aO, rfl, S83, f84, f85, f86, f87, hj70, hJ70, h⟩
 rcases k with _ | k
 have hk92 := h; obtain ⟨o70, h⟩ := ex_eq (Sum.inr (Sum.inl s4) : ((Option watch) × Bool) ⊕ (((List (Int × Int)) × (List Int) × (List Int) × (List ((Int × Int) × Int))) ⊕ ((List (Int × Int)) × (List Int) × (List Int) × (List ((Int × Int) × Int)))))
 have hc70 : decide (v58 < (x55.length : Int)) = false := Jo2 (by omega)
 refine Je [2] R (Jb 1 R (Jq (Jw2 R hc70 (Jc1 (Jt (Jt ?_))))))
 cases h
 have h := hk92
 refine Jb1 ?_
 cases h
 exact Jw1 _ ⟨K82, ((s4.1 : (List (Int × Int))), (s4.2.1 : (List Int)), (s4.2.2.1 : (List Int)), (s4.2.2.2 : (List ((Int × Int) × Int)))), aK, aL, aM, aH, aJ, aO, R, S83.wk R, f84, f85, f86, f87, R⟩ (KM R)
 obtain ⟨o70, h, hk92⟩ := BI h; unfold i_watchOf_b2 at h
 have hc70 : decide (v58 < (x55.length : Int)) = true := Jn2 (by omega)
 refine Je [2] R (Jb 1 R (Jq (Jv2 R hc70 (Js (Jp (Jq (Jv (Je [2, 2, 1, 2, 2] R (Jn 1 R (Ob h fun x61 hx61 h => Jf R (Jf2 f68 hx61 U24 Z2 R R R R) (Jl tv R R R R (Jc2 I2 R R (hvE ((f68.stp S83 R R).gInt hx61))) (Jb 2 R (Jq (Js1 (κ := K82) [0, 2, 3] none [(0, 2), (2, 2), (5, 2), (11, 2), (1, 0), (3, 2), (4, 0), (6, 2), (7, 0), (8, 0), (9, 1), (10, 2), (12, 2), (13, 2)] [] (by kernel_rfl) (by kernel_rfl) fun w95 S94 => Jf R (Jb2 U49 R Z22 R R) (Jn 3 R (Jg R (Jc2 I22 R R (hvC ((f66.stp (S83.tr S94) R R).ld 1 R R) R)) (Ob h fun x66 hx66 h => Jf R (Jf2 g1_1 hx66 U22 Z24 R R R R) ?_)))))))))))))))))
 obtain ⟨ax66, ux66, f98, hl99⟩ := (g1_1.stp (S3.tr (S7.tr (S11.tr (S15.tr (S19.tr (S22.tr (S26.tr (S42.tr (S53.tr (S60.tr (S64.tr (S83.tr S94)))))))))))) R R).gSl hx66
 refine Jg R (Jc2 I24 R R (hvC hl99 R)) (Ob h fun x69 hx69 h => Jf R (Jf2 f98 hx69 U24 Z2 R R R R) (Jg R (Jc2 I2 R R (hvC (f98.gInt hx69) R)) (Jg R (Jd2 (cs := [vi p0.In, vi p0.Out]) I47 Z47 R R R (haC (f4.stp (S7.tr (S11.tr (S15.tr (S19.tr (S22.tr (S26.tr (S42.tr (S53.tr (S60.tr (S64.tr (S83.tr S94))))))))))) R R).cells R)) (Ob h fun x72 hx72 h => Jh R R R C69 (i_inputsOf_ok (κ := fun b => mp [] 0 (K82 b)) (p0 := p0) hx72) ?_))))
 rintro _ w101 ⟨k102, rfl, e103⟩
 obtain ⟨K104, S105, m106⟩ := Ji e103 12 R
 refine ⟨(S105.cl R), Jn 3 R (Jt1 (Jd (Je [2, 2, 1, 2, 2, 1, 2, 2, 1, 2, 1, 1] R (Jn 1 R (Jf R (Jb2 U58 R Z22 R R) (Jl tv R R R R (Jc2 I22 R R (hvE ((f12.stp (S15.tr (S19.tr (S22.tr (S26.tr (S42.tr (S53.tr (S60.tr (S64.tr (S83.tr (S94.tr S105)))))))))) R R).ld 0 R R))) (Jn 1 R (Ob h fun x80 hx80 h => Jf R (Jf2 g2_0 hx80 U22 Z24 R R R R) ?_))))))))⟩
 obtain ⟨ax80, ux80, f110, hl111⟩ := (g2_0.stp (S3.tr (S7.tr (S11.tr (S15.tr (S19.tr (S22.tr (S26.tr (S42.tr (S53.tr (S60.tr (S64.tr (S83.tr (S94.tr S105))))))))))))) R R).gSl hx80
 refine Jl tv R R R R (Jc2 I24 R R (hvE hl111)) (Jn 1 R (Ob h fun x83 hx83 h => Jf R (Jf2 f110 hx83 U24 Z2 R R R R) (Jl tv R R R R (Jc2 I2 R R (hvE (f110.gInt hx83))) (Jf R (rn_build (parts := [(0, .tmp 76), (1, .tmp 84)]) (cells := [vi x61, vi x83]) R R (by kernel_rfl)) (Jg1 (κ := K104) 14 R R R R R X108 R fun b19 w112 K113 S114 f115 => ⟨tv, Jj1 (κ := K113) 14 (vc := [vi x61, vi x83]) R R R R R R R Z108 R R f115 R fun w116 S117 f118 => ⟨tv, Jd (Je [2, 1, 1, 2, 2, 2, 2, 2] R (Jn 1 R (Jl tv R R R R (Jd2 (cs := [vi x61, vi x83]) I108 Z108 R R R (haE f118.cells)) ?_)))⟩⟩)))))
 have f119 := f87.stp (S94.tr (S105.tr (S114.tr S117))) R R
 refine Ob h fun x89 hx89 h => Jl tv R R R R (rn_lookup (kf := kvI2) (vf := (fun v : Int => vi v)) keyEI2 U110 X2 R R R (mvE f119) hx89) (Jb 5 R (Jq (Je [2, 2] R (Jb 2 R (Ob h fun q7 h hK120 => Jx1 (fun L w' => ∃ κ' aZ aS, L = [(3, .pointer (some ⟨b3, 0, none⟩)), (4, .pointer (some ⟨b4, 0, none⟩)), (5, .pointer (some ⟨b5, 0, none⟩)), (8, .slice aZ q7.1.length aS), (9, .map (some mb29)), (10, .pointer (some ⟨b33, 0, none⟩)), (11, vi s1.2.1), (12, vi x42.1), (13, vi x47.2), (14, .slice aM s4.2.1.length aH), (15, .slice aJ s4.2.2.1.length aO), (18, vi (IntKind.i64.wrap ((IntKind.i64.wrap (x69 * x72)) + v58))), (20, vi q7.2.1), (56, .slice ax55 x55.length ux55), (57, vi (x55.length : Int)), (58, vi v58)] ∧ Stp [5, 6] K113 w116 κ' w' ∧ Oc (Ep.pair E6 E6) 108 κ' w' 5 aZ aS q7.1 ∧ Mc kwI2 kvI2 (fun v : Int => vi v) κ' w' 6 mb29 q7.2.2) ?_ ?_)))))
 revert h
 cases ht127 : (!x89.2)
 refine JF fun h => Jy R (Js ?_)
 cases h
 exact Jw1 _ ⟨K113, aK, aL, R, (Jx2 _ _).wk R, (f84.stp (S94.tr (S105.tr (S114.tr S117))) R R), f119⟩ (KM R)
 refine JT fun h => Jx R (Je [2, 2, 2] R (Jn 1 R (Jf R (Je2 U109 R R) (Jb 1 R (Je [2, 1, 2, 1] R (Jn 1 R (Jl tv R R R R (Jd2 (cs := [vi x61, vi x83]) I108 Z108 R R R (haE f118.cells)) (Jn 1 R (Ob h fun y85 hy85 h => WO.mapup (κ := K113) (kf := kvI2) (vf := (fun v : Int => vi v)) (v := (s4.1.length : Int)) 6 R R R R R R R keyEI2 U110 f119 hy85 fun w128 S129 f130 => ⟨tv, Jd (Ja [2, 1, 1, 1, 2] R (Jn 1 R (Jl tv R R R R (Jd2 (cs := [vi x61, vi x83]) I108 Z108 R R R (haE (f118.stp S129 R R).cells)) (Jn1 (κ := K113) (E := (Ep.pair E6 E6)) 15 [] (parts := [(0, .tmp 100)]) (cells := [vi x61, vi x83]) (xs := ([(x61, x83)] : List (Int × Int))) R R R R R R Y109 Tryinfo108 R R R R R R R R R R ⟨[vi x61, vi x83], [], Zl K113 w128 [], Zl K113 w128 [], R, Zl.sp (l1 := []) (l2 := []) R, Zl.sr (l1 := []) (l2 := []), ⟨[vi x61], [vi x83], Zl K113 w128 [], Zl K113 w128 [], R, Zl.sp (l1 := []) (l2 := []) R, Zl.sr (l1 := []) (l2 := []), R, R⟩, R⟩ fun bN bH w132 K133 S134 f135 => ⟨tv, Ob h fun x102 hx102 h => Jm1 (κ := K133) (E := (Ep.pair E6 E6)) 5 [] R R R R R R R R R Y109 Tryinfo108 R R R R (f84.stp (S94.tr (S105.tr (S114.tr (S117.tr (S129.tr S134))))) R R) (Sl.srcP (pu_pair (pu_int _) (pu_int _)) f135.rdc) sy_false hx102 R fun bD bz w137 K138 S139 f140 => ⟨tv, Jc 1 R ?_⟩⟩))))⟩)))))))))
 cases h
 exact Jw1 _ ⟨K138, bD, bz, R, (S129.tr (S134.tr S139)).wk R, f140, (f130.stp (S134.tr S139) R R)⟩ (KM R)
 rintro _ w121 ⟨K122, aZ, aS, rfl, S123, f124, f125⟩
 have h := hK120
 have S001 := (S94.tr (S105.tr (S114.tr (S117.tr S123))))
 refine Jp (Ja [2, 2, 1, 1, 2, 2, 1, 1, 2, 2] R (Jn 2 R (Jn1 (κ := K122) (E := E6) 15 [] (parts := [(0, .tmp 104)]) (cells := [vi q7.2.1]) (xs := ([q7.2.1] : List Int)) R R R R R R Y24 Tryinfo2 R R R R R R R R R R ⟨[vi q7.2.1], [], Zl K122 w121 [], Zl K122 w121 [], R, Zl.sp (l1 := []) (l2 := []) R, Zl.sr (l1 := []) (l2 := []), R, R⟩ fun bQ bP w143 K144 S145 f146 => ⟨tv, Ob h fun x106 hx106 h => Jm1 (κ := K144) (E := E6) 10 [] R R R R R R R R R Y24 Tryinfo2 R R R R (f85.stp (S001.tr S145) R R) (Sl.srcP (pu_int _) f146.rdc) sy_false hx106 R fun bC bv w148 K149 S150 f151 => ⟨tv, Jn 2 R (Jn1 (κ := K149) (E := E6) 16 [] (parts := [(0, .tmp 108)]) (cells := [vi (IntKind.i64.wrap ((IntKind.i64.wrap (x69 * x72)) + v58))]) (xs := ([(IntKind.i64.wrap ((IntKind.i64.wrap (x69 * x72)) + v58))] : List Int)) R R R R R R Y24 Tryinfo2 R R R R R R R R R R ⟨[vi (IntKind.i64.wrap ((IntKind.i64.wrap (x69 * x72)) + v58))], [], Zl K149 w148 [], Zl K149 w148 [], R, Zl.sp (l1 := []) (l2 := []) R, Zl.sr (l1 := []) (l2 := []), R, R⟩ fun bI bL w152 K153 S154 f155 => ⟨tv, Ob h fun x110 hx110 h => Jm1 (κ := K153) (E := E6) 11 [] R R R R R R R R R Y24 Tryinfo2 R R R R (f86.stp (S001.tr (S145.tr (S150.tr S154))) R R) (Sl.srcP (pu_int _) f155.rdc) sy_false hx110 R fun bs br w157 K158 S159 f160 => ⟨tv, Jc 2 R (Jz (Jp (Ja [2, 2] R (Jc 2 R ?_))))⟩⟩)⟩⟩)))
 have hw70 : IntKind.wrap .i64 (v58 + 1) = v58 + 1 := wr1 hj70 (Jm2 hc70) hN70
 rw [hw70]
 have hc70 := Jm2 hc70
 cases h
 have S002 := (S145.tr (S150.tr (S154.tr S159)))
 exact Jz1 fun a ha => ⟨k, _, Ja3 _, ⟨K158, v58 + 1, ((q7.1 : (List (Int × Int))), (x106 : (List Int)), (x110 : (List Int)), (q7.2.2 : (List ((Int × Int) × Int)))), aZ, aS, bC, bv, bs, br, R, (S83.tr (S94.tr (S105.tr (S114.tr (S117.tr (S123.tr (S145.tr (S150.tr (S154.tr S159))))))))).wk R, (f124.stp S002 R R), (f151.stp (S154.tr S159) R R), f160, (f125.stp S002 R R), by omega, by omega, hk92⟩, (ha.mm R)⟩
 rintro _ w73 ⟨K74, s6, aI, aE, ao, az, ai, ah, rfl, S75, f76, f77, f78, f79, rfl⟩
 have h := hK71
 dsimp only [aft] at h
 refine Jp (Jq (Je [2, 2, 2] R (Jn 1 R (Jf R (Je2 U109 R R) (Jb 1 R ?_)))))
 revert h
 cases ht164 : decide (256 < (s6.1.length : Int))
 refine JF fun h => Jy R (Js (Jp (Ob h fun x123 hx123 h => Ob h fun x130 hx130 h => Jx1 (fun L w' => ∃ κ' ba aY aQ aT, L = [(3, .pointer (some ⟨b3, 0, none⟩)), (4, .pointer (some ⟨b4, 0, none⟩)), (5, .pointer (some ⟨b5, 0, none⟩)), (8, .slice aI s6.1.length aE), (9, .map (some mb29)), (10, .pointer (some ⟨b33, 0, none⟩)), (11, vi s1.2.1)] ∧ Stp [7, 8, 9, 10, 11, 12, 13] K74 w73 κ' w' ∧ Oc (Ep.own E6 2) 24 κ' w' 12 ba aY x123 ∧ Oc (Ep.own E6 2) 24 κ' w' 13 aQ aT x130 ∧ Bc κ' w' 7 b33 89 [.slice ba x123.length aY, .slice aQ x130.length aT, .slice none 0 0]) ?_ ?_)))
 refine WC.rxt (κ := K74) [7] (some 18) (by kernel_rfl) fun w173 S174 => Jq1 (fuel := 10) [(0, 2), (1, 2), (2, 2), (3, 2), (4, 2), (6, 2), (9, 2), (10, 2), (11, 2), (13, 2), (5, 0), (12, 0)] (by kernel_rfl) (by kernel_rfl) R (Jn 3 R (Jf R (rn_nilCheck R R) (Jf R (Jb2 U89 R Z22 R R) (Jn 2 R (Jf R (rn_nilCheck R R) (Jf R (Jb2 U89 R Z22 R R) (Jn 1 R ?_)))))))
 have f175 := f48.stp (S53.tr (S60.tr (S64.tr (S75.tr S174)))) R R
 refine Jg R (Jc2 I22 R R (hvC (f175.ld 0 R R) R)) (Jg R (Jc2 I22 R R (hvC (f175.ld 1 R R) R)) (Jp1 (WA.fork2 (fuel := 9) 7 14 (by kernel_rfl) R ?_ ?_)))
 refine Jn1 (κ := K74) (E := (Ep.own E6 2)) 12 [10] (parts := [(0, .tmp 121)]) (cells := [.slice ao s6.2.1.length az]) (xs := ([s6.2.1] : List (List Int))) R R R R R R Y22 Tryinfo24 R R R R R R R R R R ⟨[.slice ao s6.2.1.length az], [], Zl K74 w173 [10], Zl K74 w173 [], R, Zl.sp (l1 := [10]) (l2 := []) R, Zl.sr (l1 := [10]) (l2 := []), ⟨_, _, R, (f77.stp S174 R R)⟩, R⟩ fun bA bu w177 K178 S179 f180 => ⟨(S179.cl R), Jp1 (WA.fork2 (fuel := 8) 8 14 (by kernel_rfl) R ?_ ?_)⟩
 have S003 := (S53.tr (S60.tr (S64.tr (S75.tr (S174.tr S179)))))
 exact Jm1 (κ := K178) (E := (Ep.own E6 2)) 8 [12] R R R R R R R R R Y22 Tryinfo24 R R R R (f44.stp S003 R R) f180.src (sy_one R) hx123 R fun aa ab w182 K183 S184 f185 => ⟨((S179.tr S184).cl R), Jp1 (Jq1 (fuel := 4) [(14, 1), (15, 1), (16, 2), (17, 2)] (by kernel_rfl) (by kernel_rfl) R (Jn1 (κ := K183) (E := (Ep.own E6 2)) 13 [11] (parts := [(0, .tmp 128)]) (cells := [.slice ai s6.2.2.1.length ah]) (xs := ([s6.2.2.1] : List (List Int))) R R R R R R Y22 Tryinfo24 R R R R R R R R R R ⟨[.slice ai s6.2.2.1.length ah], [], Zl K183 w182 [11], Zl K183 w182 [], R, Zl.sp (l1 := [11]) (l2 := []) R, Zl.sr (l1 := [11]) (l2 := []), ⟨_, _, R, (f78.stp (S174.tr (S179.tr S184)) R R)⟩, R⟩ fun bo bk w187 K188 S189 f190 => ⟨((S179.tr (S184.tr S189)).cl R), Jm1 (κ := K188) (E := (Ep.own E6 2)) 9 [13] R R R R R R R R R Y22 Tryinfo24 R R R R (f45.stp (S003.tr (S184.tr S189)) R R) f190.src (sy_one R) hx130 R fun ad ae w192 K193 S194 f195 => ⟨((S179.tr (S184.tr (S189.tr S194))).cl R), Jf R (rn_nilCheck R R) (Jf R (Jb2 U89 R Z22 R R) (Jp1 (WA.brk (fuel := 3) 18 (by kernel_rfl) R (by kernel_rfl) (Ji1 (κ := K193) 7 (off := 0) (vc := [.slice aa x123.length ab]) (cs' := [.slice aa x123.length ab, .slice ax s1.2.2.2.1.length aA, .slice none 0 0]) R R R R R R R Z22 R R (f175.stp (S179.tr (S184.tr (S189.tr S194))) R R) R R fun w197 S198 f199 => ⟨tv, Jp1 (Jq1 (fuel := 0) [(19, 2), (20, 2), (21, 1)] (by kernel_rfl) (by kernel_rfl) R (Jf R (rn_nilCheck R R) (Jf R (Jb2 U89 R Z22 R R) (Ji1 (κ := K193) 7 (off := 1) (vc := [.slice ad x130.length ae]) (cs' := [.slice aa x123.length ab, .slice ad x130.length ae, .slice none 0 0]) R R R R R R R Z22 R R f199 R R fun w200 S201 f202 => ⟨tv, Jp1 (Jr1 [] (by kernel_rfl) (by kernel_rfl) R (Jo (Jw1 _ ⟨(fun b => ren [(8, 12), (9, 13)] (K193 b)), aa, ab, ad, ae, R, (Jy2 ((S174.tr (S179.tr (S184.tr (S189.tr (S194.tr (S198.tr S201)))))).wk R) [(8, 12), (9, 13)] R), ((f185.stp (S189.tr (S194.tr (S198.tr S201))) R R).map (ren [(8, 12), (9, 13)]) R R), ((f195.stp (S198.tr S201) R R).map (ren [(8, 12), (9, 13)]) R R), (f202.map (ren [(8, 12), (9, 13)]) R R)⟩ (KM R))))⟩))))⟩))))⟩⟩))⟩
 have S004 := (S53.tr (S60.tr (S64.tr (S75.tr (S174.tr S179)))))
 exact Jn1 (κ := K178) (E := (Ep.own E6 2)) 13 [11] (parts := [(0, .tmp 128)]) (cells := [.slice ai s6.2.2.1.length ah]) (xs := ([s6.2.2.1] : List (List Int))) R R R R R R Y22 Tryinfo24 R R R R R R R R R R ⟨[.slice ai s6.2.2.1.length ah], [], Zl K178 w177 [11], Zl K178 w177 [], R, Zl.sp (l1 := [11]) (l2 := []) R, Zl.sr (l1 := [11]) (l2 := []), ⟨_, _, R, (f78.stp (S174.tr S179) R R)⟩, R⟩ fun bo bk w206 K207 S208 f209 => ⟨((S179.tr S208).cl R), Jp1 (Jq1 (fuel := 4) [(8, 1), (15, 1), (16, 2), (17, 2)] (by kernel_rfl) (by kernel_rfl) R (Jm1 (κ := K207) (E := (Ep.own E6 2)) 8 [12] R R R R R R R R R Y22 Tryinfo24 R R R R (f44.stp (S004.tr S208) R R) (f180.stp S208 R R).src (sy_one R) hx123 R fun aa ab w212 K213 S214 f215 => ⟨((S179.tr (S208.tr S214)).cl R), Jm1 (κ := K213) (E := (Ep.own E6 2)) 9 [13] R R R R R R R R R Y22 Tryinfo24 R R R R (f45.stp (S004.tr (S208.tr S214)) R R) (f209.stp S214 R R).src (sy_one R) hx130 R fun ad ae w218 K219 S220 f221 => ⟨((S179.tr (S208.tr (S214.tr S220))).cl R), Jf R (rn_nilCheck R R) (Jf R (Jb2 U89 R Z22 R R) (Jp1 (WA.brk (fuel := 3) 18 (by kernel_rfl) R (by kernel_rfl) (Ji1 (κ := K219) 7 (off := 0) (vc := [.slice aa x123.length ab]) (cs' := [.slice aa x123.length ab, .slice ax s1.2.2.2.1.length aA, .slice none 0 0]) R R R R R R R Z22 R R (f175.stp (S179.tr (S208.tr (S214.tr S220))) R R) R R fun w223 S224 f225 => ⟨tv, Jp1 (Jq1 (fuel := 0) [(19, 2), (20, 2), (21, 1)] (by kernel_rfl) (by kernel_rfl) R (Jf R (rn_nilCheck R R) (Jf R (Jb2 U89 R Z22 R R) (Ji1 (κ := K219) 7 (off := 1) (vc := [.slice ad x130.length ae]) (cs' := [.slice aa x123.length ab, .slice ad x130.length ae, .slice none 0 0]) R R R R R R R Z22 R R f225 R R fun w226 S227 f228 => ⟨tv, Jp1 (Jr1 [] (by kernel_rfl) (by kernel_rfl) R (Jo (Jw1 _ ⟨(fun b => ren [(8, 12), (9, 13)] (K219 b)), aa, ab, ad, ae, R, (Jy2 ((S174.tr (S179.tr (S208.tr (S214.tr (S220.tr (S224.tr S227)))))).wk R) [(8, 12), (9, 13)] R), ((f215.stp (S220.tr (S224.tr S227)) R R).map (ren [(8, 12), (9, 13)]) R R), ((f221.stp (S224.tr S227) R R).map (ren [(8, 12), (9, 13)]) R R), (f228.map (ren [(8, 12), (9, 13)]) R R)⟩ (KM R))))⟩))))⟩))))⟩⟩))⟩
 have S005 := (S53.tr (S60.tr (S64.tr (S75.tr S174))))
 exact Jn1 (κ := K74) (E := (Ep.own E6 2)) 12 [11] (parts := [(0, .tmp 128)]) (cells := [.slice ai s6.2.2.1.length ah]) (xs := ([s6.2.2.1] : List (List Int))) R R R R R R Y22 Tryinfo24 R R R R R R R R R R ⟨[.slice ai s6.2.2.1.length ah], [], Zl K74 w173 [11], Zl K74 w173 [], R, Zl.sp (l1 := [11]) (l2 := []) R, Zl.sr (l1 := [11]) (l2 := []), ⟨_, _, R, (f78.stp S174 R R)⟩, R⟩ fun bo bk w232 K233 S234 f235 => ⟨(S234.cl R), Jp1 (Jq1 (fuel := 4) [(7, 1), (8, 1), (15, 1), (16, 2), (17, 2)] (by kernel_rfl) (by kernel_rfl) R (Jn1 (κ := K233) (E := (Ep.own E6 2)) 13 [10] (parts := [(0, .tmp 121)]) (cells := [.slice ao s6.2.1.length az]) (xs := ([s6.2.1] : List (List Int))) R R R R R R Y22 Tryinfo24 R R R R R R R R R R ⟨[.slice ao s6.2.1.length az], [], Zl K233 w232 [10], Zl K233 w232 [], R, Zl.sp (l1 := [10]) (l2 := []) R, Zl.sr (l1 := [10]) (l2 := []), ⟨_, _, R, (f77.stp (S174.tr S234) R R)⟩, R⟩ fun bA bu w237 K238 S239 f240 => ⟨((S234.tr S239).cl R), Jm1 (κ := K238) (E := (Ep.own E6 2)) 8 [13] R R R R R R R R R Y22 Tryinfo24 R R R R (f44.stp (S005.tr (S234.tr S239)) R R) f240.src (sy_one R) hx123 R fun aa ab w242 K243 S244 f245 => ⟨((S234.tr (S239.tr S244)).cl R), Jm1 (κ := K243) (E := (Ep.own E6 2)) 9 [12] R R R R R R R R R Y22 Tryinfo24 R R R R (f45.stp (S005.tr (S234.tr (S239.tr S244))) R R) (f235.stp (S239.tr S244) R R).src (sy_one R) hx130 R fun ad ae w248 K249 S250 f251 => ⟨((S234.tr (S239.tr (S244.tr S250))).cl R), Jf R (rn_nilCheck R R) (Jf R (Jb2 U89 R Z22 R R) (Jp1 (WA.brk (fuel := 3) 18 (by kernel_rfl) R (by kernel_rfl) (Ji1 (κ := K249) 7 (off := 0) (vc := [.slice aa x123.length ab]) (cs' := [.slice aa x123.length ab, .slice ax s1.2.2.2.1.length aA, .slice none 0 0]) R R R R R R R Z22 R R (f175.stp (S234.tr (S239.tr (S244.tr S250))) R R) R R fun w253 S254 f255 => ⟨tv, Jp1 (Jq1 (fuel := 0) [(19, 2), (20, 2), (21, 1)] (by kernel_rfl) (by kernel_rfl) R (Jf R (rn_nilCheck R R) (Jf R (Jb2 U89 R Z22 R R) (Ji1 (κ := K249) 7 (off := 1) (vc := [.slice ad x130.length ae]) (cs' := [.slice aa x123.length ab, .slice ad x130.length ae, .slice none 0 0]) R R R R R R R Z22 R R f255 R R fun w256 S257 f258 => ⟨tv, Jp1 (Jr1 [] (by kernel_rfl) (by kernel_rfl) R (Jo (Jw1 _ ⟨(fun b => ren [(8, 12), (9, 13)] (K249 b)), aa, ab, ad, ae, R, (Jy2 ((S174.tr (S234.tr (S239.tr (S244.tr (S250.tr (S254.tr S257)))))).wk R) [(8, 12), (9, 13)] R), ((f245.stp (S250.tr (S254.tr S257)) R R).map (ren [(8, 12), (9, 13)]) R R), ((f251.stp (S254.tr S257) R R).map (ren [(8, 12), (9, 13)]) R R), (f258.map (ren [(8, 12), (9, 13)]) R R)⟩ (KM R))))⟩))))⟩))))⟩⟩⟩))⟩
 rintro _ w166 ⟨K167, ba, aY, aQ, aT, rfl, S168, f170, f171, f172⟩
 refine Jz (Jp (Ja [2, 2, 2] R (Jc 3 R ?_)))
 cases h
 exact Jz1 fun a ha => ⟨k, _, Ja3 _, ⟨(fun b => ren [(12, 8), (13, 9)] (K167 b)), ((s6.1 : (List (Int × Int))), ((IntKind.i64.wrap (s1.2.1 + 1)) : Int), (x123 : (List (List Int))), (x130 : (List (List Int))), (s6.2.2.2 : (List ((Int × Int) × Int)))), aI, aE, ba, aY, aQ, aT, R, (Jy2 ((S42.tr (S53.tr (S60.tr (S64.tr (S75.tr S168))))).wk R) [(12, 8), (13, 9)] R), ((f76.stp S168 R R).map (ren [(12, 8), (13, 9)]) R R), (f170.map (ren [(12, 8), (13, 9)]) R R), (f171.map (ren [(12, 8), (13, 9)]) R R), ((f79.stp S168 R R).map (ren [(12, 8), (13, 9)]) R R), (f172.map (ren [(12, 8), (13, 9)]) R R), hk51⟩, (ha.mm R)⟩
 refine JT fun h => Jx R (Je [2, 2] R (Jb 2 R (Ju (Jw (Ja1 (Jw (Jw ?_)))))))
 cases h
 obtain rfl := Option.some.inj hk51
 have h := hK29
 dsimp only [aft] at h
 refine Ja1 (Jq2 (Jw (Ja2 (l := [.tmp 6, .tmp 7]) V47 (Jp2 R (Jp2 R R)) R ?_)))
 cases h
 exact ⟨K74, none, 0, none, 0, none, 0, 0, R, (hE.stp (S3.tr (S7.tr (S11.tr (S15.tr (S19.tr (S22.tr (S26.tr (S42.tr (S53.tr (S60.tr (S64.tr S75))))))))))) R R), Ow.nil, Ow.nil, Ow.nil, (fun h => absurd h Bool.false_ne_true)⟩
 rintro _ w31 ⟨K32, s3, ac, af, al, ap, aj, ar, rfl, S33, f34, f35, f36, f37, f39, rfl⟩
 have h := hK29
 dsimp only [aft] at h
 refine Jp (Jq (Je [2, 1, 2, 2] R (Jf R (Jb2 U58 R Z29 R R) (Jl tv R R R R (Jc2 I29 R R (hvE ((f12.stp (S15.tr (S19.tr (S22.tr (S26.tr S33)))) R R).ld 1 R R))) (Jf R (Je2 U29 R R) (Jb 1 R ?_))))))
 have hN264 : (p2.Pairs.length : Int) ≤ 9223372036854775807 := g2_1.len_le
 refine Ob h fun q9 hq266 hK265 => ?_
 clear h
 refine Jx1 (fun L w' => ∃ κ', ∃ s10 : (List Pair), ∃ aW aV, L = [(10, .pointer (some ⟨b33, 0, none⟩))] ∧ Stp [7, 10, 11, 12, 13, 14, 15] K32 w31 κ' w' ∧ Oc Pair.ep42 42 κ' w' 10 aW aV s10 ∧ Bc κ' w' 7 b33 89 [.slice al s3.2.2.1.length ap, .slice aj s3.2.2.2.1.length ar, .slice aW s10.length aV] ∧ q9 = Sum.inr s10) ?_ ?_
 refine Jv (Jy1 (fun k L w' => ∃ κ' v138, ∃ s8 : (List Pair), ∃ aR aP, L = [(8, .slice ac s3.1.length af), (10, .pointer (some ⟨b33, 0, none⟩)), (136, .slice an p2.Pairs.length aw), (137, vi (p2.Pairs.length : Int)), (138, vi v138)] ∧ Stp [7, 10, 11, 12, 13, 14, 15] K32 w31 κ' w' ∧ Oc Pair.ep42 42 κ' w' 10 aR aP s8 ∧ Bc κ' w' 7 b33 89 [.slice al s3.2.2.1.length ap, .slice aj s3.2.2.2.1.length ar, .slice aR s8.length aP] ∧ 0 ≤ v138 ∧ Int.toNat ((p2.Pairs.length : Int) - v138) = k ∧ cntM (i_watchOf_b4 p2 s3) k v138 s8 = some q9) ⟨_, _, ⟨K32, 0, (([] : List Pair) : (List Pair)), none, 0, R, (Jx2 _ _).wk R, Ow.nil, f39, (by decide), (by simp), hq266⟩, (KM R)⟩ ?_)
 rintro k _ w272 ⟨K273, v138, s8, aR, aP, rfl, S274, f275, f276, hj264, hJ264, h⟩
 rcases k with _ | k
 have hk277 := h; obtain ⟨o264, h⟩ := ex_eq (Sum.inr (Sum.inl s8) : ((Option watch) × Bool) ⊕ (((List Pair)) ⊕ ((List Pair))))
 have hc264 : decide (v138 < (p2.Pairs.length : Int)) = false := Jo2 (by omega)
 refine Je [2] R (Jb 1 R (Jq (Jw2 R hc264 (Jc1 (Jt (Jt ?_))))))
 cases h
 have h := hk277
 refine Jb1 ?_
 cases h
 exact Jw1 _ ⟨K273, (s8 : (List Pair)), aR, aP, R, S274.wk R, f275, f276, R⟩ (KM R)
 obtain ⟨o264, h, hk277⟩ := BI h; unfold i_watchOf_b4 at h
 have hc264 : decide (v138 < (p2.Pairs.length : Int)) = true := Jn2 (by omega)
 refine Je [2] R (Jb 1 R (Jq (Jv2 R hc264 (Js (Jp (Jq (Jv (Je [2, 1, 1, 1] R (Ob h fun x140 hx140 h => Jf R (Jf2 g2_1 hx140 U29 Z42 R R R R) ?_)))))))))
 obtain ⟨cse279, hre279, hle279⟩ := ((g2_1.stp (S3.tr (S7.tr (S11.tr (S15.tr (S19.tr (S22.tr (S26.tr (S33.tr S274)))))))) R R)).gSt hx140
 obtain ⟨ae279_0, ue279_0, ae279_1, ue279_1, rfl, fe279_0, fe279_1⟩ := Pair.un hre279
 refine Jl tv R R R R (Jd2 (cs := [.slice ae279_0 x140.Ask.length ue279_0, .slice ae279_1 x140.Give.length ue279_1]) I42 Z42 R R R (haE hle279)) (Jg1 (κ := K273) 11 R R R R R X42 R fun b23 w280 K281 S282 f283 => ⟨tv, Jj1 (κ := K281) 11 (vc := [.slice ae279_0 x140.Ask.length ue279_0, .slice ae279_1 x140.Give.length ue279_1]) R R R R R R R Z42 R R f283 R fun w284 S285 f286 => ⟨tv, Jd (Je [2, 1, 1] R (Jf R (rn_build (parts := []) (cells := [.slice none 0 0, .slice none 0 0]) R R (by kernel_rfl)) (Jg1 (κ := K281) 12 R R R R R X42 R fun b24 w287 K288 S289 f290 => ⟨tv, Jj1 (κ := K288) 12 (vc := [.slice none 0 0, .slice none 0 0]) R R R R R R R Z42 R R f290 R fun w291 S292 f293 => ⟨tv, Jd (Jq (Je [2, 2, 2] R (Jn 1 R (Jf R (Je2 U109 R R) (Jb 1 R ?_)))))⟩⟩)))⟩⟩)
 have hN294 : (s3.1.length : Int) ≤ 9223372036854775807 := f34.len_le
 refine Ob h fun q12 hq296 hK295 => ?_
 clear h
 refine Jx1 (fun L w' => ∃ κ', ∃ s13 : (List Int) × (List Int), ∃ am au aq av, L = [(8, .slice ac s3.1.length af), (10, .pointer (some ⟨b33, 0, none⟩)), (24, .pointer (some ⟨b24, 0, none⟩)), (136, .slice an p2.Pairs.length aw), (137, vi (p2.Pairs.length : Int)), (138, vi v138)] ∧ Stp [12, 13, 14, 15] K288 w291 κ' w' ∧ Oc E6 2 κ' w' 13 am au s13.1 ∧ Oc E6 2 κ' w' 14 aq av s13.2 ∧ Bc κ' w' 12 b24 42 [.slice am s13.1.length au, .slice aq s13.2.length av] ∧ q12 = Sum.inr s13) ?_ ?_
 refine Jv (Jy1 (fun k L w' => ∃ κ' v145, ∃ s11 : (List Int) × (List Int), ∃ aF aG ak ay, L = [(8, .slice ac s3.1.length af), (10, .pointer (some ⟨b33, 0, none⟩)), (23, .pointer (some ⟨b23, 0, none⟩)), (24, .pointer (some ⟨b24, 0, none⟩)), (136, .slice an p2.Pairs.length aw), (137, vi (p2.Pairs.length : Int)), (138, vi v138), (143, .slice ac s3.1.length af), (144, vi (s3.1.length : Int)), (145, vi v145)] ∧ Stp [12, 13, 14, 15] K288 w291 κ' w' ∧ Oc E6 2 κ' w' 13 aF aG s11.1 ∧ Oc E6 2 κ' w' 14 ak ay s11.2 ∧ Bc κ' w' 12 b24 42 [.slice aF s11.1.length aG, .slice ak s11.2.length ay] ∧ 0 ≤ v145 ∧ Int.toNat ((s3.1.length : Int) - v145) = k ∧ cntM (i_watchOf_b6 s3 x140) k v145 s11 = some q12) ⟨_, _, ⟨K288, 0, ((([] : List Int) : (List Int)), (([] : List Int) : (List Int))), none, 0, none, 0, R, (Jx2 _ _).wk R, Ow.nil, Ow.nil, f293, (by decide), (by simp), hq296⟩, (KM R)⟩ ?_)
 rintro k _ w303 ⟨K304, v145, s11, aF, aG, ak, ay, rfl, S305, f306, f307, f308, hj294, hJ294, h⟩
 rcases k with _ | k
 have hk309 := h; obtain ⟨o294, h⟩ := ex_eq (Sum.inr (Sum.inl s11) : ((Option watch) × Bool) ⊕ (((List Int) × (List Int)) ⊕ ((List Int) × (List Int))))
 have hc294 : decide (v145 < (s3.1.length : Int)) = false := Jo2 (by omega)
 refine Je [2] R (Jb 1 R (Jq (Jw2 R hc294 (Jc1 (Jt (Jt ?_))))))
 cases h
 have h := hk309
 refine Jb1 ?_
 cases h
 exact Jw1 _ ⟨K304, ((s11.1 : (List Int)), (s11.2 : (List Int))), aF, aG, ak, ay, R, S305.wk R, f306, f307, f308, R⟩ (KM R)
 obtain ⟨o294, h, hk309⟩ := BI h; unfold i_watchOf_b6 at h
 have hc294 : decide (v145 < (s3.1.length : Int)) = true := Jn2 (by omega)
 refine Je [2] R (Jb 1 R (Jq (Jv2 R hc294 (Js (Jp (Jq (Jv (Je [2, 2, 1, 1, 2, 1] R (Jn 1 R (Ob h fun x148 hx148 h => Jf R (Jf2 f34.rdc hx148 U109 Z108 R R R R) ?_))))))))))
 obtain ⟨cse311, hre311, hle311⟩ := ((f34.stp (S274.tr (S282.tr (S285.tr (S289.tr (S292.tr S305))))) R R).rdc).gSt hx148
 obtain ⟨_, _, rfl, rfl, rfl⟩ := hre311
 refine Jl tv R R R R (Jd2 (cs := [vi x148.1, vi x148.2]) I108 Z108 R R R (haE hle311)) (Jg1 (κ := K304) 15 R R R R R X108 R fun b26 w312 K313 S314 f315 => ⟨tv, Jn 1 R (Jj1 (κ := K313) 15 (vc := [vi x148.1, vi x148.2]) R R R R R R R Z108 R R f315 R fun w316 S317 f318 => ⟨tv, Jd (Jq (Je [2, 1, 2, 1, 1] R (Jf R (Jb2 U42 R Z24 R R) ?_)))⟩)⟩)
 have f319 := f286.stp (S289.tr (S292.tr (S305.tr (S314.tr S317)))) R R
 refine Jl tv R R R R (Jc2 I24 R R (hvE (f319.ld 0 R R))) (Jf R (rn_indexA U108 Z2 R R R R) (Jl tv R R R R (Jc2 I2 R R (hvE (f318.ld 1 R R))) (Ob h fun x154 hx154 h => Jh R R R C72 (slices_Contains_I_int64_ok (κ := fun b => mp [] 0 (K313 b)) (Jl2 (fe279_0.stp (S282.tr (S285.tr (S289.tr (S292.tr (S305.tr (S314.tr S317)))))) R R) (mp [] 0) R R) hx154) ?_)))
 rintro _ w321 ⟨k322, rfl, e323⟩
 obtain ⟨K324, S325, m326⟩ := Ji e323 16 R
 refine ⟨tv, Jd (Ob h fun q14 h hK328 => Jx1 (fun L w' => ∃ κ' aB aC, L = [(8, .slice ac s3.1.length af), (10, .pointer (some ⟨b33, 0, none⟩)), (23, .pointer (some ⟨b23, 0, none⟩)), (24, .pointer (some ⟨b24, 0, none⟩)), (25, vi v145), (26, .pointer (some ⟨b26, 0, none⟩)), (136, .slice an p2.Pairs.length aw), (137, vi (p2.Pairs.length : Int)), (138, vi v138), (143, .slice ac s3.1.length af), (144, vi (s3.1.length : Int)), (145, vi v145)] ∧ Stp [12, 13] K324 w321 κ' w' ∧ Oc E6 2 κ' w' 13 aB aC q14 ∧ Bc κ' w' 12 b24 42 [.slice aB q14.length aC, .slice ak s11.2.length ay]) ?_ ?_)⟩
 revert h
 cases ht334 : x154
 refine JF fun h => Jy R (Js ?_)
 cases h
 have S006 := (S314.tr (S317.tr S325))
 exact Jw1 _ ⟨K324, aF, aG, R, (Jx2 _ _).wk R, (f306.stp S006 R R), (f308.stp S006 R R)⟩ (KM R)
 refine JT fun h => Jx R (Ja [2, 1, 2, 1, 1, 2, 1] R (Jf R (Jb2 U42 R Z24 R R) ?_))
 have f335 := f308.stp (S314.tr (S317.tr S325)) R R
 refine Jl tv R R R R (Jc2 I24 R R (hvE (f335.ld 0 R R))) (Jn 1 R (Jn1 (κ := K324) (E := E6) 18 [] (parts := [(0, .tmp 157)]) (cells := [vi v145]) (xs := ([v145] : List Int)) R R R R R R Y24 Tryinfo2 R R R R R R R R R R ⟨[vi v145], [], Zl K324 w321 [], Zl K324 w321 [], R, Zl.sp (l1 := []) (l2 := []) R, Zl.sr (l1 := []) (l2 := []), R, R⟩ fun bK bR w336 K337 S338 f339 => ⟨tv, Ob h fun x159 hx159 h => Jm1 (κ := K337) (E := E6) 13 [] R R R R R R R R R Y24 Tryinfo2 R R R R (f306.stp (S314.tr (S317.tr (S325.tr S338))) R R) (Sl.srcP (pu_int _) f339.rdc) sy_false hx159 R fun bf bg w341 K342 S343 f344 => ⟨tv, Jf R (Jb2 U42 R Z24 R R) (Ji1 (κ := K342) 12 (off := 0) (vc := [.slice bf x159.length bg]) (cs' := [.slice bf x159.length bg, .slice ak s11.2.length ay]) R R R R R R R Z24 R R (f335.stp (S338.tr S343) R R) R R fun w346 S347 f348 => ⟨tv, Jo ?_⟩)⟩⟩))
 cases h
 exact Jw1 _ ⟨K342, bf, bg, R, (S338.tr (S343.tr S347)).wk R, (f344.stp S347 R R), f348⟩ (KM R)
 rintro _ w329 ⟨K330, aB, aC, rfl, S331, f332, f333⟩
 have h := hK328
 refine Jp (Je [2, 1, 2, 1, 1] R (Jf R (Jb2 U42 R Z24 R R) (Jl tv R R R R (Jc2 I24 R R (hvE ((f319.stp (S325.tr S331) R R).ld 1 R R))) (Jf R (rn_indexA U108 Z2 R R R R) (Jl tv R R R R (Jc2 I2 R R (hvE ((f318.stp (S325.tr S331) R R).ld 1 R R))) (Ob h fun x165 hx165 h => Jh R R R C72 (slices_Contains_I_int64_ok (κ := fun b => mp [] 0 (K330 b)) (Jl2 (fe279_1.stp (S282.tr (S285.tr (S289.tr (S292.tr (S305.tr (S314.tr (S317.tr (S325.tr S331)))))))) R R) (mp [] 0) R R) hx165) ?_))))))
 rintro _ w355 ⟨k356, rfl, e357⟩
 obtain ⟨K358, S359, m360⟩ := Ji e357 18 R
 refine ⟨tv, Jd (Ob h fun q15 h hK362 => Jx1 (fun L w' => ∃ κ' aU bb, L = [(8, .slice ac s3.1.length af), (10, .pointer (some ⟨b33, 0, none⟩)), (23, .pointer (some ⟨b23, 0, none⟩)), (24, .pointer (some ⟨b24, 0, none⟩)), (136, .slice an p2.Pairs.length aw), (137, vi (p2.Pairs.length : Int)), (138, vi v138), (143, .slice ac s3.1.length af), (144, vi (s3.1.length : Int)), (145, vi v145)] ∧ Stp [12, 14] K358 w355 κ' w' ∧ Oc E6 2 κ' w' 14 aU bb q15 ∧ Bc κ' w' 12 b24 42 [.slice aB q14.length aC, .slice aU q15.length bb]) ?_ ?_)⟩
 revert h
 cases ht368 : x165
 refine JF fun h => Jy R (Js ?_)
 cases h
 exact Jw1 _ ⟨K358, ak, ay, R, (Jx2 _ _).wk R, (f307.stp (S314.tr (S317.tr (S325.tr (S331.tr S359)))) R R), (f333.stp S359 R R)⟩ (KM R)
 refine JT fun h => Jx R (Ja [2, 1, 2, 1, 1, 2, 1] R (Jf R (Jb2 U42 R Z24 R R) ?_))
 have f369 := f333.stp S359 R R
 refine Jl tv R R R R (Jc2 I24 R R (hvE (f369.ld 1 R R))) (Jn 1 R (Jn1 (κ := K358) (E := E6) 20 [] (parts := [(0, .tmp 168)]) (cells := [vi v145]) (xs := ([v145] : List Int)) R R R R R R Y24 Tryinfo2 R R R R R R R R R R ⟨[vi v145], [], Zl K358 w355 [], Zl K358 w355 [], R, Zl.sp (l1 := []) (l2 := []) R, Zl.sr (l1 := []) (l2 := []), R, R⟩ fun bO bG w370 K371 S372 f373 => ⟨tv, Ob h fun x170 hx170 h => Jm1 (κ := K371) (E := E6) 14 [] R R R R R R R R R Y24 Tryinfo2 R R R R (f307.stp (S314.tr (S317.tr (S325.tr (S331.tr (S359.tr S372))))) R R) (Sl.srcP (pu_int _) f373.rdc) sy_false hx170 R fun bd bi w375 K376 S377 f378 => ⟨tv, Jf R (Jb2 U42 R Z24 R R) (Ji1 (κ := K376) 12 (off := 1) (vc := [.slice bd x170.length bi]) (cs' := [.slice aB q14.length aC, .slice bd x170.length bi]) R R R R R R R Z24 R R (f369.stp (S372.tr S377) R R) R R fun w380 S381 f382 => ⟨tv, Jo ?_⟩)⟩⟩))
 cases h
 exact Jw1 _ ⟨K376, bd, bi, R, (S372.tr (S377.tr S381)).wk R, (f378.stp S381 R R), f382⟩ (KM R)
 rintro _ w363 ⟨K364, aU, bb, rfl, S365, f366, f367⟩
 have h := hK362
 refine Jz (Jp (Ja [2, 2] R (Jc 2 R ?_)))
 have hw294 : IntKind.wrap .i64 (v145 + 1) = v145 + 1 := wr1 hj294 (Jm2 hc294) hN294
 rw [hw294]
 have hc294 := Jm2 hc294
 cases h
 exact Jz1 fun a ha => ⟨k, _, Ja3 _, ⟨K364, v145 + 1, ((q14 : (List Int)), (q15 : (List Int))), aB, aC, aU, bb, R, (S305.tr (S314.tr (S317.tr (S325.tr (S331.tr (S359.tr S365)))))).wk R, (f332.stp (S359.tr S365) R R), f366, f367, by omega, by omega, hk309⟩, (ha.mm R)⟩
 rintro _ w297 ⟨K298, s13, am, au, aq, av, rfl, S299, f300, f301, f302, rfl⟩
 have h := hK295
 dsimp only [aft] at h
 refine Jp (Js1 (κ := K298) [7, 12] (some 10) [(0, 2), (1, 2), (2, 2), (3, 2), (4, 0), (5, 0), (6, 1), (7, 1), (8, 2), (9, 2)] [(10, 1)] (by kernel_rfl) (by kernel_rfl) fun w388 S387 => Jn 2 R (Jf R (rn_nilCheck R R) (Jf R (Jb2 U89 R Z29 R R) ?_)))
 have f389 := f276.stp (S282.tr (S285.tr (S289.tr (S292.tr (S299.tr S387))))) R R
 refine Jg R (Jc2 I29 R R (hvC (f389.ld 2 R R) R)) (Jg R (Jd2 (cs := [.slice am s13.1.length au, .slice aq s13.2.length av]) I42 Z42 R R R (haC (f302.stp S387 R R).cells R)) (Jn1 (κ := K298) (E := Pair.ep42) 15 [13, 14] (parts := [(0, .tmp 178)]) (cells := [.slice am s13.1.length au, .slice aq s13.2.length av]) (xs := ([(⟨s13.1, s13.2⟩ : Pair)] : List Pair)) R R R R R R Y29 Tryinfo42 R R R R R R R R R R ⟨[.slice am s13.1.length au, .slice aq s13.2.length av], [], Zl K298 w388 [13, 14], Zl K298 w388 [], R, Zl.sp (l1 := [13, 14]) (l2 := []) R, Zl.sr (l1 := [13, 14]) (l2 := []), ⟨[.slice am s13.1.length au], [.slice aq s13.2.length av], Zl K298 w388 [13], Zl K298 w388 [14], R, Zl.sp (l1 := [13]) (l2 := [14]) R, Zl.sr (l1 := [13]) (l2 := [14]), ⟨_, _, R, (f300.stp S387 R R)⟩, ⟨_, _, R, (f301.stp S387 R R)⟩⟩, R⟩ fun bJ bM w393 K394 S395 f396 => ⟨(S395.cl R), Ob h fun x180 hx180 h => Jm1 (κ := K394) (E := Pair.ep42) 10 [15] R R R R R R R R R Y29 Tryinfo42 R R R R (f275.stp (S282.tr (S285.tr (S289.tr (S292.tr (S299.tr (S387.tr S395)))))) R R) f396.src (sy_one R) hx180 R fun be bh w398 K399 S400 f401 => ⟨((S395.tr S400).cl R), Jf R (rn_nilCheck R R) (Jf R (Jb2 U89 R Z29 R R) (Jt1 (Ji1 (κ := K399) 7 (off := 2) (vc := [.slice be x180.length bh]) (cs' := [.slice al s3.2.2.1.length ap, .slice aj s3.2.2.2.1.length ar, .slice be x180.length bh]) R R R R R R R Z29 R R (f389.stp (S395.tr S400) R R) R R fun w403 S404 f405 => ⟨tv, Jo (Jz (Jp (Ja [2, 2] R (Jc 2 R ?_))))⟩)))⟩⟩))
 have hw264 : IntKind.wrap .i64 (v138 + 1) = v138 + 1 := wr1 hj264 (Jm2 hc264) hN264
 rw [hw264]
 have hc264 := Jm2 hc264
 cases h
 exact Jz1 fun a ha => ⟨k, _, Ja3 _, ⟨K399, v138 + 1, (x180 : (List Pair)), be, bh, R, (S274.tr (S282.tr (S285.tr (S289.tr (S292.tr (S299.tr (S387.tr (S395.tr (S400.tr S404))))))))).wk R, (f401.stp S404 R R), f405, by omega, by omega, hk277⟩, (ha.mm R)⟩
 rintro _ w267 ⟨K268, s10, aW, aV, rfl, S269, f270, f271, rfl⟩
 have h := hK265
 dsimp only [aft] at h
 refine Jp (Je [2, 2, 2] R (Jb 3 R (Ju (Ja2 (l := [.tmp 6, .tmp 7]) V47 (Jp2 R (Jp2 R R)) R ?_))))
 cases h
 exact ⟨(fun b => ren [(8, 2), (9, 3), (10, 4), (7, 5)] (K268 b)), al, ap, aj, ar, aW, aV, b33, R, ((hE.stp (S3.tr (S7.tr (S11.tr (S15.tr (S19.tr (S22.tr (S26.tr (S33.tr S269)))))))) R R).map (ren [(8, 2), (9, 3), (10, 4), (7, 5)]) R R), ((f35.stp S269 R R).map (ren [(8, 2), (9, 3), (10, 4), (7, 5)]) R R), ((f36.stp S269 R R).map (ren [(8, 2), (9, 3), (10, 4), (7, 5)]) R R), (f270.map (ren [(8, 2), (9, 3), (10, 4), (7, 5)]) R R), (fun _ => (f271.map (ren [(8, 2), (9, 3), (10, 4), (7, 5)]) R R))⟩
end Go.Proofs.Ytcmamhmpoinmnaa
