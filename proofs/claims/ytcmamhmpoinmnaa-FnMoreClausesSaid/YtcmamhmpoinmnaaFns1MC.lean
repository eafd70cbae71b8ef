/- The walks, part 1. By program. -/
import Derived.Test.YtcmamhmpoinmnaaFns0MC
set_option linter.unusedVariables false
set_option linter.unusedSimpArgs false
namespace Go.Proofs.Ytcmamhmpoinmnaa
open Go Go.Wk Go.Proofs
set_option maxRecDepth 100000
set_option maxHeartbeats 1000000
theorem l_w9Machine_ok {w : World} {κ : Col} {ab aa} {p0 : dice} {p1 : Sig} {p2 : Int} {b0} (g0_0 : Rd (Rp.int .u8) κ w 0 ab aa p0.b) (gb0 : Bc κ w 2 b0 78 [.slice ab p0.b.length aa, vi p0.i, .int .u64 p0.h]) {r : Machine × Int × Int} (h : l_w9Machine p0 p1 p2 = some r) : Ret Try.prog 20 [.pointer (some ⟨b0, 0, none⟩), .agg #[vi p1.In, vi p1.Out], vi p2] w (fun v w' => ∃ (κ' : Col) (ra0 : Option Addr) (ru0 : Nat) (ra1 : Option Addr) (ru1 : Nat), v = .agg #[.slice ra0 r.1.Next.length ru0, .slice ra1 r.1.Out.length ru1] ∧ Ent κ w κ' w' ∧ Oc (Ep.own E6 2) 24 κ' w' 3 ra0 ru0 r.1.Next ∧ Oc (Ep.own E6 2) 24 κ' w' 4 ra1 ru1 r.1.Out ∧ Bc κ' w' 2 b0 78 [.slice ab p0.b.length aa, vi r.2.1, .int .u64 r.2.2]) := by
 unfold l_w9Machine at h
 refine Ret.enter F20 R N20 R ?_
 dsimp only [envOf]
 have hE := Ent.refl κ w
 refine Je [1, 1] R (Jf1 (κ := κ) 3 R R R R R R R fun b4 w1 K2 S3 f4 => ⟨tv, Jg1 (κ := K2) 4 R R R R R X49 R fun b6 w5 K6 S7 f8 => ⟨tv, Jd (Je [2, 2, 1, 2, 2] R (Jn 2 R (Ob h fun x17 hx17 h => ?_)))⟩⟩)
 have f9 := g0_0.stp (S3.tr S7) R R
 refine Jh R R R C22 (l_dice_below_ok (κ := fun b => mp [(2, 2)] 0 (K6 b)) (p0 := p0) (Jl2 f9 (mp [(2, 2)] 0) R R) ((gb0.stp (S3.tr S7) R R).map (mp [(2, 2)] 0) R R) hx17) ?_
 rintro _ w11 ⟨k12, rfl, e13, f14⟩
 obtain ⟨K15, S16, m17⟩ := Ji e13 5 R
 refine ⟨tv, Jb 2 R (Je [2, 1, 1] R (Jf R (rn_build (parts := []) (cells := [.slice none 0 0, .slice none 0 0]) R R (by kernel_rfl)) (Jg1 (κ := K15) 8 R R R R R X49 R fun b8 w20 K21 S22 f23 => ⟨tv, Jj1 (κ := K21) 8 (vc := [.slice none 0 0, .slice none 0 0]) R R R R R R R Z49 R R f23 R fun w24 S25 f26 => ⟨tv, Jd (Je [2] R (Jb 1 R (Je [2] R (Jb 1 R (Jq (Je [2, 1, 2] R (Jf R (Jb2 U47 R Z2 R R) ?_)))))))⟩⟩)))⟩
 have f27 := f4.stp (S7.tr (S16.tr (S22.tr S25))) R R
 refine Jl tv R R R R (Jc2 I2 R R (hvE (f27.ld 0 R R))) (Jb 1 R (Ob h fun q1 h hK28 => Jx1 (fun L w' => ∃ κ', L = [(0, .pointer (some ⟨b0, 0, none⟩)), (4, .pointer (some ⟨b4, 0, none⟩)), (6, .pointer (some ⟨b6, 0, none⟩)), (7, vi (IntKind.i64.wrap (1 + x17.1))), (8, .pointer (some ⟨b8, 0, none⟩)), (9, vi q1), (10, vi 2)] ∧ Stp [] K21 w24 κ' w') ?_ ?_))
 revert h
 cases ht32 : (p1.In == 2)
 refine JF fun h => Jy R (Js ?_)
 cases h
 exact Jw1 _ ⟨K21, R, (Jx2 _ _).wk R⟩ (KM R)
 refine JT fun h => Jx R (Ja [2] R (Jc 1 R ?_))
 cases h
 exact Jw1 _ ⟨K21, R, (Jx2 _ _).wk R⟩ (KM R)
 rintro _ w29 ⟨K30, rfl, S31⟩
 have h := hK28
 refine Jp (Jq (Je [2, 1, 2] R (Jf R (Jb2 U47 R Z2 R R) (Jl tv R R R R (Jc2 I2 R R (hvE ((f27.stp S31 R R).ld 1 R R))) (Jb 1 R (Ob h fun q2 h hK34 => Jx1 (fun L w' => ∃ κ', L = [(0, .pointer (some ⟨b0, 0, none⟩)), (6, .pointer (some ⟨b6, 0, none⟩)), (7, vi (IntKind.i64.wrap (1 + x17.1))), (8, .pointer (some ⟨b8, 0, none⟩)), (9, vi q1), (10, vi q2)] ∧ Stp [] K30 w29 κ' w') ?_ ?_))))))
 revert h
 cases ht38 : (p1.Out == 2)
 refine JF fun h => Jy R (Js ?_)
 cases h
 exact Jw1 _ ⟨K30, R, (Jx2 _ _).wk R⟩ (KM R)
 refine JT fun h => Jx R (Ja [2] R (Jc 1 R ?_))
 cases h
 exact Jw1 _ ⟨K30, R, (Jx2 _ _).wk R⟩ (KM R)
 rintro _ w35 ⟨K36, rfl, S37⟩
 have h := hK34
 refine Jp (Jq (Je [2] R (Jb 1 R (Ob h fun _ hr39 h => ?_))))
 have hN39 := rng_ok hr39
 refine Ob h fun q4 hq41 hK40 => ?_
 clear h
 refine Jx1 (fun L w' => ∃ κ', ∃ s5 : Int × Int × (List (List Int)) × (List (List Int)), ∃ ae ad af ac, L = [(0, .pointer (some ⟨b0, 0, none⟩)), (6, .pointer (some ⟨b6, 0, none⟩)), (8, .pointer (some ⟨b8, 0, none⟩))] ∧ Stp [7, 8, 9, 10, 11, 12, 13, 14, 15, 19] K36 w35 κ' w' ∧ Oc (Ep.own E6 2) 24 κ' w' 9 ae ad s5.2.2.1 ∧ Oc (Ep.own E6 2) 24 κ' w' 10 af ac s5.2.2.2 ∧ Bc κ' w' 7 b0 78 [.slice ab p0.b.length aa, vi s5.1, .int .u64 s5.2.1] ∧ Bc κ' w' 8 b8 49 [.slice ae s5.2.2.1.length ad, .slice af s5.2.2.2.length ac] ∧ q4 = Sum.inr s5) ?_ ?_
 refine Jv (Jy1 (fun k L w' => ∃ κ' v11, ∃ s3 : Int × Int × (List (List Int)) × (List (List Int)), ∃ ar av aj al, L = [(0, .pointer (some ⟨b0, 0, none⟩)), (6, .pointer (some ⟨b6, 0, none⟩)), (7, vi (IntKind.i64.wrap (1 + x17.1))), (8, .pointer (some ⟨b8, 0, none⟩)), (9, vi q1), (10, vi q2), (11, vi v11)] ∧ Stp [7, 8, 9, 10, 11, 12, 13, 14, 15, 19] K36 w35 κ' w' ∧ Oc (Ep.own E6 2) 24 κ' w' 9 ar av s3.2.2.1 ∧ Oc (Ep.own E6 2) 24 κ' w' 10 aj al s3.2.2.2 ∧ Bc κ' w' 7 b0 78 [.slice ab p0.b.length aa, vi s3.1, .int .u64 s3.2.1] ∧ Bc κ' w' 8 b8 49 [.slice ar s3.2.2.1.length av, .slice aj s3.2.2.2.length al] ∧ 0 ≤ v11 ∧ Int.toNat ((IntKind.i64.wrap (1 + x17.1)) - v11) = k ∧ cntM (l_w9Machine_b0 p0 x17 q1 q2) k v11 s3 = some q4) ⟨_, _, ⟨K36, 0, ((x17.2.1 : Int), (x17.2.2 : Int), (([] : List (List Int)) : (List (List Int))), (([] : List (List Int)) : (List (List Int)))), none, 0, none, 0, R, (Jx2 _ _).wk R, Ow.nil, Ow.nil, ((f14.mx m17 R (R : 5 + 2 = 7)).stp (S22.tr (S25.tr (S31.tr S37))) R R), (f26.stp (S31.tr S37) R R), (by decide), (by simp), hq41⟩, (KM R)⟩ ?_)
 rintro k _ w49 ⟨K50, v11, s3, ar, av, aj, al, rfl, S51, f52, f53, f54, f55, hj39, hJ39, h⟩
 rcases k with _ | k
 have hk58 := h; obtain ⟨o39, h⟩ := ex_eq (Sum.inr (Sum.inl s3) : (Machine × Int × Int) ⊕ ((Int × Int × (List (List Int)) × (List (List Int))) ⊕ (Int × Int × (List (List Int)) × (List (List Int)))))
 have hc39 : decide (v11 < (IntKind.i64.wrap (1 + x17.1))) = false := Jo2 (by omega)
 refine Jq (Je [2, 2, 2] R (Jb 3 R (Jw2 R hc39 (Jc1 (Jt (Jt ?_))))))
 cases h
 have h := hk58
 refine Jb1 ?_
 cases h
 exact Jw1 _ ⟨K50, ((s3.1 : Int), (s3.2.1 : Int), (s3.2.2.1 : (List (List Int))), (s3.2.2.2 : (List (List Int)))), ar, av, aj, al, R, S51.wk R, f52, f53, f54, f55, R⟩ (KM R)
 obtain ⟨o39, h, hk58⟩ := BI h; unfold l_w9Machine_b0 at h
 have hc39 : decide (v11 < (IntKind.i64.wrap (1 + x17.1))) = true := Jn2 (by omega)
 refine Jq (Je [2, 2, 2] R (Jb 3 R (Jv2 R hc39 (Js (Jp (Jq (Jv (Je [1, 2] R (Jo1 (κ := K50) (E := E6) 11 R R R R R Y24 Tryinfo2 R fun az aC w59 K60 S61 f62 => ⟨tv, Jb 1 R (Je [1, 2] R (Jo1 (κ := K60) (E := E6) 12 R R R R R Y24 Tryinfo2 R fun aB aA w63 K64 S65 f66 => ⟨tv, Jb 1 R (Jq (Je [2] R (Jb 1 R (Ob h fun _ hr67 h => ?_))))⟩))⟩)))))))))
 have hN67 := rng_ok hr67
 refine Ob h fun q7 hq69 hK68 => ?_
 clear h
 refine Jx1 (fun L w' => ∃ κ', ∃ s8 : (List Int) × (List Int) × Int × Int, ∃ ak ai am ah, L = [(0, .pointer (some ⟨b0, 0, none⟩)), (6, .pointer (some ⟨b6, 0, none⟩)), (7, vi (IntKind.i64.wrap (1 + x17.1))), (8, .pointer (some ⟨b8, 0, none⟩)), (9, vi q1), (10, vi q2), (11, vi v11), (12, .slice ak s8.1.length ai), (13, .slice am s8.2.1.length ah)] ∧ Stp [7, 11, 12, 15, 19] K64 w63 κ' w' ∧ Oc E6 2 κ' w' 11 ak ai s8.1 ∧ Oc E6 2 κ' w' 12 am ah s8.2.1 ∧ Bc κ' w' 7 b0 78 [.slice ab p0.b.length aa, vi s8.2.2.1, .int .u64 s8.2.2.2] ∧ q7 = Sum.inr s8) ?_ ?_
 refine Jv (Jy1 (fun k L w' => ∃ κ' v14, ∃ s6 : (List Int) × (List Int) × Int × Int, ∃ ap ao au aq, L = [(0, .pointer (some ⟨b0, 0, none⟩)), (6, .pointer (some ⟨b6, 0, none⟩)), (7, vi (IntKind.i64.wrap (1 + x17.1))), (8, .pointer (some ⟨b8, 0, none⟩)), (9, vi q1), (10, vi q2), (11, vi v11), (12, .slice ap s6.1.length ao), (13, .slice au s6.2.1.length aq), (14, vi v14)] ∧ Stp [7, 11, 12, 15, 19] K64 w63 κ' w' ∧ Oc E6 2 κ' w' 11 ap ao s6.1 ∧ Oc E6 2 κ' w' 12 au aq s6.2.1 ∧ Bc κ' w' 7 b0 78 [.slice ab p0.b.length aa, vi s6.2.2.1, .int .u64 s6.2.2.2] ∧ 0 ≤ v14 ∧ Int.toNat (q1 - v14) = k ∧ cntM (l_w9Machine_b2 p0 x17 q2) k v14 s6 = some q7) ⟨_, _, ⟨K64, 0, ((([] : List Int) : (List Int)), (([] : List Int) : (List Int)), (s3.1 : Int), (s3.2.1 : Int)), az, aC, aB, aA, R, (Jx2 _ _).wk R, (f62.stp S65 R R), f66, (f54.stp (S61.tr S65) R R), (by decide), (by simp), hq69⟩, (KM R)⟩ ?_)
 rintro k _ w76 ⟨K77, v14, s6, ap, ao, au, aq, rfl, S78, f79, f80, f81, hj67, hJ67, h⟩
 rcases k with _ | k
 have hk84 := h; obtain ⟨o67, h⟩ := ex_eq (Sum.inr (Sum.inl s6) : (Machine × Int × Int) ⊕ (((List Int) × (List Int) × Int × Int) ⊕ ((List Int) × (List Int) × Int × Int)))
 have hc67 : decide (v14 < q1) = false := Jo2 (by omega)
 refine Jq (Je [2, 2, 2] R (Jb 3 R (Jw2 R hc67 (Jc1 (Jt (Jt ?_))))))
 cases h
 have h := hk84
 refine Jb1 ?_
 cases h
 exact Jw1 _ ⟨K77, ((s6.1 : (List Int)), (s6.2.1 : (List Int)), (s6.2.2.1 : Int), (s6.2.2.2 : Int)), ap, ao, au, aq, R, S78.wk R, f79, f80, f81, R⟩ (KM R)
 obtain ⟨o67, h, hk84⟩ := BI h; unfold l_w9Machine_b2 at h
 have hc67 : decide (v14 < q1) = true := Jn2 (by omega)
 refine Jq (Je [2, 2, 2] R (Jb 3 R (Jv2 R hc67 (Js (Jp (Jq (Jv (Je [2, 2, 2, 1, 1, 1, 2] R (Jn 3 R (Ob h fun x41 hx41 h => ?_))))))))))
 have f85 := f9.stp (S16.tr (S22.tr (S25.tr (S31.tr (S37.tr (S51.tr (S61.tr (S65.tr S78)))))))) R R
 refine Jh R R R C22 (l_dice_below_ok (κ := fun b => mp [(7, 2)] 0 (K77 b)) (p0 := (⟨p0.b, s6.2.2.1, s6.2.2.2⟩ : dice)) (Jl2 f85 (mp [(7, 2)] 0) R R) (f81.map (mp [(7, 2)] 0) R R) hx41) ?_
 rintro _ w86 ⟨k87, rfl, e88, f89⟩
 obtain ⟨K90, S91, m92⟩ := Ji e88 13 R
 refine ⟨tv, Jn1 (κ := K90) (E := E6) 16 [] (parts := [(0, .tmp 41)]) (cells := [vi x41.1]) (xs := ([x41.1] : List Int)) R R R R R R Y24 Tryinfo2 R R R R R R R R R R ⟨[vi x41.1], [], Zl K90 w86 [], Zl K90 w86 [], R, Zl.sp (l1 := []) (l2 := []) R, Zl.sr (l1 := []) (l2 := []), R, R⟩ fun aH aL w95 K96 S97 f98 => ⟨tv, Ob h fun x43 hx43 h => Jm1 (κ := K96) (E := E6) 11 [] R R R R R R R R R Y24 Tryinfo2 R R R R (f79.stp (S91.tr S97) R R) (Sl.srcP (pu_int _) f98.rdc) sy_false hx43 R fun aE aD w100 K101 S102 f103 => ⟨tv, Jb 1 R (Ja [2, 2, 2, 1, 1, 1, 2] R (Jn 3 R (Ob h fun x47 hx47 h => Jh R R R C22 (l_dice_below_ok (κ := fun b => mp [(15, 2)] 0 (K101 b)) (p0 := (⟨p0.b, x41.2.1, x41.2.2⟩ : dice)) (Jl2 (f85.stp (S91.tr (S97.tr S102)) R R) (mp [(15, 2)] 0) R R) (((f89.mx m92 R (R : 13 + 2 = 15)).stp (S97.tr S102) R R).map (mp [(15, 2)] 0) R R) hx47) ?_)))⟩⟩⟩
 rintro _ w106 ⟨k107, rfl, e108, f109⟩
 obtain ⟨K110, S111, m112⟩ := Ji e108 17 R
 refine ⟨tv, Jn1 (κ := K110) (E := E6) 20 [] (parts := [(0, .tmp 47)]) (cells := [vi x47.1]) (xs := ([x47.1] : List Int)) R R R R R R Y24 Tryinfo2 R R R R R R R R R R ⟨[vi x47.1], [], Zl K110 w106 [], Zl K110 w106 [], R, Zl.sp (l1 := []) (l2 := []) R, Zl.sr (l1 := []) (l2 := []), R, R⟩ fun aK aM w115 K116 S117 f118 => ⟨tv, Ob h fun x49 hx49 h => Jm1 (κ := K116) (E := E6) 12 [] R R R R R R R R R Y24 Tryinfo2 R R R R (f80.stp (S91.tr (S97.tr (S102.tr (S111.tr S117)))) R R) (Sl.srcP (pu_int _) f118.rdc) sy_false hx49 R fun aF aG w120 K121 S122 f123 => ⟨tv, Jc 1 R (Jz (Jp (Ja [2, 2, 2] R (Jc 3 R ?_))))⟩⟩⟩
 have hw67 : IntKind.wrap .i64 (v14 + 1) = v14 + 1 := wr1 hj67 (Jm2 hc67) hN67
 rw [hw67]
 have hc67 := Jm2 hc67
 cases h
 exact Jz1 fun a ha => ⟨k, _, Ja3 _, ⟨(fun b => ren [(19, 7)] (K121 b)), v14 + 1, ((x43 : (List Int)), (x49 : (List Int)), (x47.2.1 : Int), (x47.2.2 : Int)), aE, aD, aF, aG, R, (Jy2 ((S78.tr (S91.tr (S97.tr (S102.tr (S111.tr (S117.tr S122)))))).wk R) [(19, 7)] R), ((f103.stp (S111.tr (S117.tr S122)) R R).map (ren [(19, 7)]) R R), (f123.map (ren [(19, 7)]) R R), (((f109.mx m112 R (R : 17 + 2 = 19)).stp (S117.tr S122) R R).map (ren [(19, 7)]) R R), by omega, by omega, hk84⟩, (ha.mm R)⟩
 rintro _ w70 ⟨K71, s8, ak, ai, am, ah, rfl, S72, f73, f74, f75, rfl⟩
 have h := hK68
 dsimp only [aft] at h
 refine Jp (Je [2, 1, 2, 1, 1, 2, 1] R (Jf R (Jb2 U49 R Z22 R R) ?_))
 have f126 := f55.stp (S61.tr (S65.tr S72)) R R
 refine Jl tv R R R R (Jc2 I22 R R (hvE (f126.ld 0 R R))) (Jn 1 R (Jn1 (κ := K71) (E := (Ep.own E6 2)) 13 [11] (parts := [(0, .tmp 52)]) (cells := [.slice ak s8.1.length ai]) (xs := ([s8.1] : List (List Int))) R R R R R R Y22 Tryinfo24 R R R R R R R R R R ⟨[.slice ak s8.1.length ai], [], Zl K71 w70 [11], Zl K71 w70 [], R, Zl.sp (l1 := [11]) (l2 := []) R, Zl.sr (l1 := [11]) (l2 := []), ⟨_, _, R, f73⟩, R⟩ fun aN aI w127 K128 S129 f130 => ⟨tv, Ob h fun x54 hx54 h => Jm1 (κ := K128) (E := (Ep.own E6 2)) 9 [13] R R R R R R R R R Y22 Tryinfo24 R R R R (f52.stp (S61.tr (S65.tr (S72.tr S129))) R R) f130.src (sy_one R) hx54 R fun aw an w132 K133 S134 f135 => ⟨tv, Jf R (Jb2 U49 R Z22 R R) (Ji1 (κ := K133) 8 (off := 0) (vc := [.slice aw x54.length an]) (cs' := [.slice aw x54.length an, .slice aj s3.2.2.2.length al]) R R R R R R R Z22 R R (f126.stp (S129.tr S134) R R) R R fun w137 S138 f139 => ⟨tv, Jd (Ja [2, 1, 2, 1, 1, 2, 1] R (Jf R (Jb2 U49 R Z22 R R) (Jl tv R R R R (Jc2 I22 R R (hvE (f139.ld 1 R R))) (Jn 1 R (Jn1 (κ := K133) (E := (Ep.own E6 2)) 14 [12] (parts := [(0, .tmp 58)]) (cells := [.slice am s8.2.1.length ah]) (xs := ([s8.2.1] : List (List Int))) R R R R R R Y22 Tryinfo24 R R R R R R R R R R ⟨[.slice am s8.2.1.length ah], [], Zl K133 w137 [12], Zl K133 w137 [], R, Zl.sp (l1 := [12]) (l2 := []) R, Zl.sr (l1 := [12]) (l2 := []), ⟨_, _, R, (f74.stp (S129.tr (S134.tr S138)) R R)⟩, R⟩ fun aJ aO w141 K142 S143 f144 => ⟨tv, Ob h fun x60 hx60 h => Jm1 (κ := K142) (E := (Ep.own E6 2)) 10 [14] R R R R R R R R R Y22 Tryinfo24 R R R R (f53.stp (S61.tr (S65.tr (S72.tr (S129.tr (S134.tr (S138.tr S143)))))) R R) f144.src (sy_one R) hx60 R fun ax ay w146 K147 S148 f149 => ⟨tv, Jf R (Jb2 U49 R Z22 R R) (Ji1 (κ := K147) 8 (off := 1) (vc := [.slice ax x60.length ay]) (cs' := [.slice aw x54.length an, .slice ax x60.length ay]) R R R R R R R Z22 R R (f139.stp (S143.tr S148) R R) R R fun w151 S152 f153 => ⟨tv, Jo (Jz (Jp (Ja [2, 2, 2] R (Jc 3 R ?_))))⟩)⟩⟩)))))⟩)⟩⟩))
 have hw39 : IntKind.wrap .i64 (v11 + 1) = v11 + 1 := wr1 hj39 (Jm2 hc39) hN39
 rw [hw39]
 have hc39 := Jm2 hc39
 cases h
 exact Jz1 fun a ha => ⟨k, _, Ja3 _, ⟨K147, v11 + 1, ((s8.2.2.1 : Int), (s8.2.2.2 : Int), (x54 : (List (List Int))), (x60 : (List (List Int)))), aw, an, ax, ay, R, (S51.tr (S61.tr (S65.tr (S72.tr (S129.tr (S134.tr (S138.tr (S143.tr (S148.tr S152))))))))).wk R, (f135.stp (S138.tr (S143.tr (S148.tr S152))) R R), (f149.stp S152 R R), (f75.stp (S129.tr (S134.tr (S138.tr (S143.tr (S148.tr S152))))) R R), f153, by omega, by omega, hk58⟩, (ha.mm R)⟩
 rintro _ w42 ⟨K43, s5, ae, ad, af, ac, rfl, S44, f45, f46, f47, f48, rfl⟩
 have h := hK40
 dsimp only [aft] at h
 refine Jp (Je [1, 1] R (Jl tv R R R R (Jd2 (cs := [.slice ae s5.2.2.1.length ad, .slice af s5.2.2.2.length ac]) I49 Z49 R R R (haE f48.cells)) (Jj1 (κ := K43) 4 (vc := [.slice ae s5.2.2.1.length ad, .slice af s5.2.2.2.length ac]) R R R R R R R Z49 R R (f8.stp (S16.tr (S22.tr (S25.tr (S31.tr (S37.tr S44))))) R R) R fun w158 S159 f160 => ⟨tv, Jd (Ju (Ja2 (l := [.cell 6 49]) V20 (res_cellA R f160 I49 Z49 R R) R ?_))⟩)))
 cases h
 exact ⟨(fun b => ren [(9, 3), (10, 4), (7, 2)] (K43 b)), ae, ad, af, ac, R, ((hE.stp (S3.tr (S7.tr (S16.tr (S22.tr (S25.tr (S31.tr (S37.tr (S44.tr S159)))))))) R R).map (ren [(9, 3), (10, 4), (7, 2)]) R R), ((f45.stp S159 R R).map (ren [(9, 3), (10, 4), (7, 2)]) R R), ((f46.stp S159 R R).map (ren [(9, 3), (10, 4), (7, 2)]) R R), ((f47.stp S159 R R).map (ren [(9, 3), (10, 4), (7, 2)]) R R)⟩
theorem l_w9Clauses_ok {w : World} {κ : Col} {ak ah} {p0 : dice} {p1 : Int} {b0} (g0_0 : Rd (Rp.int .u8) κ w 0 ak ah p0.b) (gb0 : Bc κ w 2 b0 78 [.slice ak p0.b.length ah, vi p0.i, .int .u64 p0.h]) {r : (List Clause) × Int × Int} (h : l_w9Clauses p0 p1 = some r) : Ret Try.prog 21 [.pointer (some ⟨b0, 0, none⟩), vi p1] w (fun v w' => ∃ (κ' : Col) (ra0 : Option Addr) (ru0 : Nat), v = .slice ra0 r.1.length ru0 ∧ Ent κ w κ' w' ∧ Oc Clause.ep61 61 κ' w' 3 ra0 ru0 r.1 ∧ Bc κ' w' 2 b0 78 [.slice ak p0.b.length ah, vi r.2.1, .int .u64 r.2.2]) := by
 unfold l_w9Clauses at h
 refine Ret.enter F21 R N21 R ?_
 dsimp only [envOf]
 have hE := Ent.refl κ w
 refine Je [2] R (Jb 1 R (Je [1, 2] R (Jo1 (κ := κ) (E := Clause.ep61) 3 R R R R R Y51 Tryinfo61 R fun a9 u9 w1 K2 S3 f4 => ⟨tv, Jb 1 R (Jq (Je [2, 2, 2, 1, 2] R (Jn 3 R (Ob h fun x13 hx13 h => ?_))))⟩)))
 have f5 := g0_0.stp S3 R R
 refine Jh R R R C22 (l_dice_below_ok (κ := fun b => mp [(2, 2)] 0 (K2 b)) (p0 := p0) (Jl2 f5 (mp [(2, 2)] 0) R R) ((gb0.stp S3 R R).map (mp [(2, 2)] 0) R R) hx13) ?_
 rintro _ w7 ⟨k8, rfl, e9, f10⟩
 obtain ⟨K11, S12, m13⟩ := Ji e9 4 R
 refine ⟨tv, Jb 1 R (Ob h fun q2 hq18 hK17 => ?_)⟩
 clear h
 refine Jx1 (fun L w' => ∃ κ', ∃ s3 : (List Clause) × Int × Int × Int, ∃ aq au, L = [(0, .pointer (some ⟨b0, 0, none⟩)), (5, .slice aq s3.1.length au)] ∧ Stp [3, 6, 9, 10, 11, 12, 13, 15, 18] K11 w7 κ' w' ∧ Oc Clause.ep61 61 κ' w' 3 aq au s3.1 ∧ Bc κ' w' 6 b0 78 [.slice ak p0.b.length ah, vi s3.2.2.1, .int .u64 s3.2.2.2] ∧ q2 = Sum.inr s3) ?_ ?_
 refine Jv (Jy1 (fun k L w' => ∃ κ', ∃ s1 : (List Clause) × Int × Int × Int, ∃ ab aa, L = [(0, .pointer (some ⟨b0, 0, none⟩)), (5, .slice ab s1.1.length aa), (6, vi s1.2.1)] ∧ Stp [3, 6, 9, 10, 11, 12, 13, 15, 18] K11 w7 κ' w' ∧ Oc Clause.ep61 61 κ' w' 3 ab aa s1.1 ∧ Bc κ' w' 6 b0 78 [.slice ak p0.b.length ah, vi s1.2.2.1, .int .u64 s1.2.2.2] ∧ whileM (l_w9Clauses_b0 p0) k s1 = some q2) ⟨_, _, ⟨K11, ((([] : List Clause) : (List Clause)), (x13.1 : Int), (x13.2.1 : Int), (x13.2.2 : Int)), a9, u9, R, (Jx2 _ _).wk R, (f4.stp S12 R R), (f10.mx m13 R (R : 4 + 2 = 6)), hq18⟩, (KM R)⟩ ?_)
 rintro k _ w24 ⟨K25, s1, ab, aa, rfl, S26, f27, f28, h⟩
 rcases k with _ | k
 cases h
 obtain ⟨o16, h, hk30⟩ := BI h; unfold l_w9Clauses_b0 at h
 refine Jq (Je [2, 2] R (Jb 2 R ?_))
 revert h
 cases ht31 : decide (0 < s1.2.1)
 refine JF fun h => Jy R (Jc1 (Jt (Jt ?_)))
 cases h
 have h := hk30
 refine Jb1 ?_
 cases h
 exact Jw1 _ ⟨K25, ((s1.1 : (List Clause)), (s1.2.1 : Int), (s1.2.2.1 : Int), (s1.2.2.2 : Int)), ab, aa, R, S26.wk R, f27, f28, R⟩ (KM R)
 refine JT fun h => Jx R (Js (Jp (Jq (Jv (Je [2, 1, 2, 2, 1, 1] R (Jn 1 R (Ob h fun x19 hx19 h => ?_)))))))
 have f32 := f5.stp (S12.tr S26) R R
 refine Jh R R R C22 (l_dice_below_ok (κ := fun b => mp [(6, 2)] 0 (K25 b)) (p0 := (⟨p0.b, s1.2.2.1, s1.2.2.2⟩ : dice)) (Jl2 f32 (mp [(6, 2)] 0) R R) (f28.map (mp [(6, 2)] 0) R R) hx19) ?_
 rintro _ w33 ⟨k34, rfl, e35, f36⟩
 obtain ⟨K37, S38, m39⟩ := Ji e35 7 R
 refine ⟨tv, Jn 1 R (Jf R (rn_build (parts := [(0, .tmp 20)]) (cells := [vi (IntKind.i64.wrap (1 + x19.1)), .slice none 0 0, .slice none 0 0]) R R (by kernel_rfl)) (Jg1 (κ := K37) 10 R R R R R X61 R fun b7 w42 K43 S44 f45 => ⟨tv, Jj1 (κ := K43) 10 (vc := [vi (IntKind.i64.wrap (1 + x19.1)), .slice none 0 0, .slice none 0 0]) R R R R R R R Z61 R R f45 R fun w46 S47 f48 => ⟨tv, Jd (Jq (Je [2] R (Jb 1 R (Ob h fun q5 hq51 hK50 => ?_))))⟩⟩))⟩
 clear h
 refine Jx1 (fun L w' => ∃ κ', ∃ s6 : Int × Int × (List Int) × (List Int), ∃ ad ac af ae, L = [(0, .pointer (some ⟨b0, 0, none⟩)), (5, .slice ab s1.1.length aa), (6, vi s1.2.1), (7, .pointer (some ⟨b7, 0, none⟩))] ∧ Stp [9, 10, 11, 12, 15, 18] K43 w46 κ' w' ∧ Oc E6 2 κ' w' 11 ad ac s6.2.2.1 ∧ Oc E6 2 κ' w' 12 af ae s6.2.2.2 ∧ Bc κ' w' 9 b0 78 [.slice ak p0.b.length ah, vi s6.1, .int .u64 s6.2.1] ∧ Bc κ' w' 10 b7 61 [vi (IntKind.i64.wrap (1 + x19.1)), .slice ad s6.2.2.1.length ac, .slice af s6.2.2.2.length ae] ∧ q5 = Sum.inr s6) ?_ ?_
 refine Jv (Jy1 (fun k L w' => ∃ κ' v8, ∃ s4 : Int × Int × (List Int) × (List Int), ∃ ao an ai aj, L = [(0, .pointer (some ⟨b0, 0, none⟩)), (5, .slice ab s1.1.length aa), (6, vi s1.2.1), (7, .pointer (some ⟨b7, 0, none⟩)), (8, vi v8)] ∧ Stp [9, 10, 11, 12, 15, 18] K43 w46 κ' w' ∧ Oc E6 2 κ' w' 11 ao an s4.2.2.1 ∧ Oc E6 2 κ' w' 12 ai aj s4.2.2.2 ∧ Bc κ' w' 9 b0 78 [.slice ak p0.b.length ah, vi s4.1, .int .u64 s4.2.1] ∧ Bc κ' w' 10 b7 61 [vi (IntKind.i64.wrap (1 + x19.1)), .slice ao s4.2.2.1.length an, .slice ai s4.2.2.2.length aj] ∧ 0 ≤ v8 ∧ Int.toNat (4 - v8) = k ∧ cntM (l_w9Clauses_b2 p0 x19) k v8 s4 = some q5) ⟨_, _, ⟨K43, 0, ((x19.2.1 : Int), (x19.2.2 : Int), (([] : List Int) : (List Int)), (([] : List Int) : (List Int))), none, 0, none, 0, R, (Jx2 _ _).wk R, Ow.nil, Ow.nil, ((f36.mx m39 R (R : 7 + 2 = 9)).stp (S44.tr S47) R R), f48, (by decide), (by simp), hq51⟩, (KM R)⟩ ?_)
 rintro k _ w59 ⟨K60, v8, s4, ao, an, ai, aj, rfl, S61, f62, f63, f64, f65, hj49, hJ49, h⟩
 rcases k with _ | k
 have hk67 := h; obtain ⟨o49, h⟩ := ex_eq (Sum.inr (Sum.inl s4) : ((List Clause) × Int × Int) ⊕ ((Int × Int × (List Int) × (List Int)) ⊕ (Int × Int × (List Int) × (List Int))))
 have hc49 : decide (v8 < 4) = false := Jo2 (by omega)
 refine Jq (Je [2, 2] R (Jb 2 R (Jw2 R hc49 (Jc1 (Jt (Jt ?_))))))
 cases h
 have h := hk67
 refine Jb1 ?_
 cases h
 exact Jw1 _ ⟨K60, ((s4.1 : Int), (s4.2.1 : Int), (s4.2.2.1 : (List Int)), (s4.2.2.2 : (List Int))), ao, an, ai, aj, R, S61.wk R, f62, f63, f64, f65, R⟩ (KM R)
 obtain ⟨o49, h, hk67⟩ := BI h; unfold l_w9Clauses_b2 at h
 have hc49 : decide (v8 < 4) = true := Jn2 (by omega)
 refine Jq (Je [2, 2] R (Jb 2 R (Jv2 R hc49 (Js (Jp (Jq (Jv (Jq (Je [2, 1, 2] R (Jn 1 R (Ob h fun x27 hx27 h => ?_)))))))))))
 have f68 := f32.stp (S38.tr (S44.tr (S47.tr S61))) R R
 refine Jh R R R C22 (l_dice_below_ok (κ := fun b => mp [(9, 2)] 0 (K60 b)) (p0 := (⟨p0.b, s4.1, s4.2.1⟩ : dice)) (Jl2 f68 (mp [(9, 2)] 0) R R) (f64.map (mp [(9, 2)] 0) R R) hx27) ?_
 rintro _ w69 ⟨k70, rfl, e71, f72⟩
 obtain ⟨K73, S74, m75⟩ := Ji e71 13 R
 refine ⟨tv, Jb 1 R (Ob h fun q7 h hK78 => Jx1 (fun L w' => ∃ κ' al am, L = [(0, .pointer (some ⟨b0, 0, none⟩)), (5, .slice ab s1.1.length aa), (6, vi s1.2.1), (7, .pointer (some ⟨b7, 0, none⟩)), (8, vi v8)] ∧ Stp [10, 11] K73 w69 κ' w' ∧ Oc E6 2 κ' w' 11 al am q7 ∧ Bc κ' w' 10 b7 61 [vi (IntKind.i64.wrap (1 + x19.1)), .slice al q7.length am, .slice ai s4.2.2.2.length aj]) ?_ ?_)⟩
 revert h
 cases ht84 : (x27.1 == 0)
 refine JF fun h => Jy R (Js ?_)
 cases h
 exact Jw1 _ ⟨K73, ao, an, R, (Jx2 _ _).wk R, (f62.stp S74 R R), (f65.stp S74 R R)⟩ (KM R)
 refine JT fun h => Jx R (Ja [2, 1, 2, 1, 1, 2, 1] R (Jf R (Jb2 U61 R Z24 R R) ?_))
 have f85 := f65.stp S74 R R
 refine Jl tv R R R R (Jc2 I24 R R (hvE (f85.ld 1 R R))) (Jn 1 R (Jn1 (κ := K73) (E := E6) 16 [] (parts := [(0, .tmp 31)]) (cells := [vi v8]) (xs := ([v8] : List Int)) R R R R R R Y24 Tryinfo2 R R R R R R R R R R ⟨[vi v8], [], Zl K73 w69 [], Zl K73 w69 [], R, Zl.sp (l1 := []) (l2 := []) R, Zl.sr (l1 := []) (l2 := []), R, R⟩ fun aC aB w86 K87 S88 f89 => ⟨tv, Ob h fun x33 hx33 h => Jm1 (κ := K87) (E := E6) 11 [] R R R R R R R R R Y24 Tryinfo2 R R R R (f62.stp (S74.tr S88) R R) (Sl.srcP (pu_int _) f89.rdc) sy_false hx33 R fun ay aw w91 K92 S93 f94 => ⟨tv, Jf R (Jb2 U61 R Z24 R R) (Ji1 (κ := K92) 10 (off := 1) (vc := [.slice ay x33.length aw]) (cs' := [vi (IntKind.i64.wrap (1 + x19.1)), .slice ay x33.length aw, .slice ai s4.2.2.2.length aj]) R R R R R R R Z24 R R (f85.stp (S88.tr S93) R R) R R fun w96 S97 f98 => ⟨tv, Jo ?_⟩)⟩⟩))
 cases h
 exact Jw1 _ ⟨K92, ay, aw, R, (S88.tr (S93.tr S97)).wk R, (f94.stp S97 R R), f98⟩ (KM R)
 rintro _ w79 ⟨K80, al, am, rfl, S81, f82, f83⟩
 have h := hK78
 refine Jp (Je [2, 1, 2, 2, 2, 1, 2, 2, 2, 1, 2, 2, 2, 2, 1, 2, 2, 2] R (Jn 1 R (Ob h fun x36 hx36 h => Jh R R R C22 (l_dice_below_ok (κ := fun b => mp [(15, 2)] 0 (K80 b)) (p0 := (⟨p0.b, x27.2.1, x27.2.2⟩ : dice)) (Jl2 (f68.stp (S74.tr S81) R R) (mp [(15, 2)] 0) R R) (((f72.mx m75 R (R : 13 + 2 = 15)).stp S81 R R).map (mp [(15, 2)] 0) R R) hx36) ?_)))
 rintro _ w104 ⟨k105, rfl, e106, f107⟩
 obtain ⟨K108, S109, m110⟩ := Ji e106 16 R
 refine ⟨tv, Jn 2 R (Ob h fun p52 h hK113 => Ju1 [(4, 2), (5, 1), (6, 2), (7, 2), (8, 2), (9, 1), (10, 2), (11, 2), (12, 2), (13, 2), (14, 1), (15, 2), (16, 2), (17, 2)] [] (fun L w' => L = [(0, .pointer (some ⟨b0, 0, none⟩)), (5, .slice ab s1.1.length aa), (6, vi s1.2.1), (7, .pointer (some ⟨b7, 0, none⟩)), (8, vi v8), (52, .bool p52)] ∧ ∃ κ', Stp [] K108 w104 κ' w') tv ?_ ?_)⟩
 revert h
 cases ht114 : (x36.1 == 0)
 refine JF fun h => Jn 1 R (Jd1 R R R R (Jn 3 R (Jd1 R R R R (Jn 4 R (Jd1 R R R R (Jn 3 R ?_))))))
 cases h
 exact Jv1 _ tv ⟨R, _, (Jx2 _ _).wk R⟩ (KM R)
 refine JT fun h => Jf R (Jb2 U61 R Z2 R R) ?_
 have f115 := f83.stp S109 R R
 refine Jl tv R R R R (Jc2 I2 R R (hvE (f115.ld 0 R R))) (Jn 2 R (Ob h fun p46 h hK116 => Ju1 [(8, 2), (9, 1), (10, 2), (11, 2)] [(12, 2), (13, 2), (14, 1), (15, 2), (16, 2), (17, 2)] (fun L w' => L = [(0, .pointer (some ⟨b0, 0, none⟩)), (5, .slice ab s1.1.length aa), (6, vi s1.2.1), (7, .pointer (some ⟨b7, 0, none⟩)), (8, vi v8), (38, .bool true), (39, .pointer (some ((⟨b7, 0, none⟩ : Addr).add 0))), (40, vi (IntKind.i64.wrap (1 + x19.1))), (41, .bool ((IntKind.i64.wrap (1 + x19.1)) == 2)), (42, .bool ((IntKind.i64.wrap (1 + x19.1)) == 2)), (46, .bool p46)] ∧ ∃ κ', Stp [] K108 w104 κ' w') tv ?_ ?_))
 revert h
 cases ht117 : ((IntKind.i64.wrap (1 + x19.1)) == 2)
 refine JF fun h => Jf R (Jb2 U61 R Z2 R R) (Jl tv R R R R (Jc2 I2 R R (hvE (f115.ld 0 R R))) (Jn 2 R ?_))
 cases h
 exact Jv1 _ tv ⟨R, _, (Jx2 _ _).wk R⟩ (KM R)
 refine JT fun h => Jn 1 R (Jd1 R R R R (Jn 2 R ?_))
 cases h
 exact Jv1 _ tv ⟨R, _, (Jx2 _ _).wk R⟩ (KM R)
 rintro _ w118 _ ⟨rfl, K119, S120⟩
 have h := hK116
 refine Jn 1 R (Ob h fun p51 h hK121 => Ju1 [(13, 2), (14, 1), (15, 2), (16, 2)] [(17, 2)] (fun L w' => L = [(0, .pointer (some ⟨b0, 0, none⟩)), (5, .slice ab s1.1.length aa), (6, vi s1.2.1), (7, .pointer (some ⟨b7, 0, none⟩)), (8, vi v8), (38, .bool true), (39, .pointer (some ((⟨b7, 0, none⟩ : Addr).add 0))), (40, vi (IntKind.i64.wrap (1 + x19.1))), (41, .bool ((IntKind.i64.wrap (1 + x19.1)) == 2)), (42, .bool ((IntKind.i64.wrap (1 + x19.1)) == 2)), (46, .bool p46), (47, .bool p46), (51, .bool p51)] ∧ ∃ κ', Stp [] K119 w118 κ' w') tv ?_ ?_)
 revert h
 cases ht122 : p46
 refine JF fun h => Jf R (Jb2 U61 R Z2 R R) (Jl tv R R R R (Jc2 I2 R R (hvE ((f115.stp S120 R R).ld 0 R R))) (Jn 2 R ?_))
 cases h
 exact Jv1 _ tv ⟨R, _, (Jx2 _ _).wk R⟩ (KM R)
 refine JT fun h => Jn 1 R (Jd1 R R R R (Jn 2 R ?_))
 cases h
 exact Jv1 _ tv ⟨R, _, (Jx2 _ _).wk R⟩ (KM R)
 rintro _ w124 _ ⟨rfl, K125, S126⟩
 have h := hK121
 refine Jn 1 R ?_
 cases h
 exact Jv1 _ tv ⟨R, _, (S120.tr S126).wk R⟩ (KM R)
 rintro _ w127 _ ⟨rfl, K128, S129⟩
 have h := hK113
 refine Jd (Ob h fun q8 h hK130 => Jx1 (fun L w' => ∃ κ' ar ap, L = [(0, .pointer (some ⟨b0, 0, none⟩)), (5, .slice ab s1.1.length aa), (6, vi s1.2.1), (7, .pointer (some ⟨b7, 0, none⟩)), (8, vi v8)] ∧ Stp [10, 12] K128 w127 κ' w' ∧ Oc E6 2 κ' w' 12 ar ap q8 ∧ Bc κ' w' 10 b7 61 [vi (IntKind.i64.wrap (1 + x19.1)), .slice al q7.length am, .slice ar q8.length ap]) ?_ ?_)
 revert h
 cases ht136 : p52
 refine JF fun h => Jy R (Js ?_)
 cases h
 exact Jw1 _ ⟨K128, ai, aj, R, (Jx2 _ _).wk R, (f63.stp (S74.tr (S81.tr (S109.tr S129))) R R), (f83.stp (S109.tr S129) R R)⟩ (KM R)
 refine JT fun h => Jx R (Ja [2, 1, 2, 1, 1, 2, 1] R (Jf R (Jb2 U61 R Z24 R R) ?_))
 have f137 := f83.stp (S109.tr S129) R R
 refine Jl tv R R R R (Jc2 I24 R R (hvE (f137.ld 2 R R))) (Jn 1 R (Jn1 (κ := K128) (E := E6) 19 [] (parts := [(0, .tmp 55)]) (cells := [vi v8]) (xs := ([v8] : List Int)) R R R R R R Y24 Tryinfo2 R R R R R R R R R R ⟨[vi v8], [], Zl K128 w127 [], Zl K128 w127 [], R, Zl.sp (l1 := []) (l2 := []) R, Zl.sr (l1 := []) (l2 := []), R, R⟩ fun aD aF w138 K139 S140 f141 => ⟨tv, Ob h fun x57 hx57 h => Jm1 (κ := K139) (E := E6) 12 [] R R R R R R R R R Y24 Tryinfo2 R R R R (f63.stp (S74.tr (S81.tr (S109.tr (S129.tr S140)))) R R) (Sl.srcP (pu_int _) f141.rdc) sy_false hx57 R fun av ax w143 K144 S145 f146 => ⟨tv, Jf R (Jb2 U61 R Z24 R R) (Ji1 (κ := K144) 10 (off := 2) (vc := [.slice av x57.length ax]) (cs' := [vi (IntKind.i64.wrap (1 + x19.1)), .slice al q7.length am, .slice av x57.length ax]) R R R R R R R Z24 R R (f137.stp (S140.tr S145) R R) R R fun w148 S149 f150 => ⟨tv, Jo ?_⟩)⟩⟩))
 cases h
 exact Jw1 _ ⟨K144, av, ax, R, (S140.tr (S145.tr S149)).wk R, (f146.stp S149 R R), f150⟩ (KM R)
 rintro _ w131 ⟨K132, ar, ap, rfl, S133, f134, f135⟩
 have h := hK130
 refine Jz (Jp (Ja [2, 2, 2] R (Jc 3 R ?_)))
 have hw49 : IntKind.wrap .i64 (v8 + 1) = v8 + 1 := wr1 hj49 (Jm2 hc49) (by decide)
 rw [hw49]
 have hc49 := Jm2 hc49
 cases h
 exact Jz1 fun a ha => ⟨k, _, Ja3 _, ⟨(fun b => ren [(18, 9)] (K132 b)), v8 + 1, ((x36.2.1 : Int), (x36.2.2 : Int), (q7 : (List Int)), (q8 : (List Int))), al, am, ar, ap, R, (Jy2 ((S61.tr (S74.tr (S81.tr (S109.tr (S129.tr S133))))).wk R) [(18, 9)] R), ((f82.stp (S109.tr (S129.tr S133)) R R).map (ren [(18, 9)]) R R), (f134.map (ren [(18, 9)]) R R), (((f107.mx m110 R (R : 16 + 2 = 18)).stp (S129.tr S133) R R).map (ren [(18, 9)]) R R), (f135.map (ren [(18, 9)]) R R), by omega, by omega, hk67⟩, (ha.mm R)⟩
 rintro _ w52 ⟨K53, s6, ad, ac, af, ae, rfl, S54, f55, f56, f57, f58, rfl⟩
 have h := hK50
 dsimp only [aft] at h
 refine Jp (Ja [2, 1, 1, 1, 2] R (Jn 1 R (Jl tv R R R R (Jd2 (cs := [vi (IntKind.i64.wrap (1 + x19.1)), .slice ad s6.2.2.1.length ac, .slice af s6.2.2.2.length ae]) I61 Z61 R R R (haE f58.cells)) (Jn1 (κ := K53) (E := Clause.ep61) 13 [11, 12] (parts := [(0, .tmp 60)]) (cells := [vi (IntKind.i64.wrap (1 + x19.1)), .slice ad s6.2.2.1.length ac, .slice af s6.2.2.2.length ae]) (xs := ([(⟨(IntKind.i64.wrap (1 + x19.1)), s6.2.2.1, s6.2.2.2⟩ : Clause)] : List Clause)) R R R R R R Y51 Tryinfo61 R R R R R R R R R R ⟨[vi (IntKind.i64.wrap (1 + x19.1)), .slice ad s6.2.2.1.length ac, .slice af s6.2.2.2.length ae], [], Zl K53 w52 [11, 12], Zl K53 w52 [], R, Zl.sp (l1 := [11, 12]) (l2 := []) R, Zl.sr (l1 := [11, 12]) (l2 := []), ⟨[vi (IntKind.i64.wrap (1 + x19.1))], [.slice ad s6.2.2.1.length ac, .slice af s6.2.2.2.length ae], Zl K53 w52 [], Zl K53 w52 [11, 12], R, Zl.sp (l1 := []) (l2 := [11, 12]) R, Zl.sr (l1 := []) (l2 := [11, 12]), R, ⟨[.slice ad s6.2.2.1.length ac], [.slice af s6.2.2.2.length ae], Zl K53 w52 [11], Zl K53 w52 [12], R, Zl.sp (l1 := [11]) (l2 := [12]) R, Zl.sr (l1 := [11]) (l2 := [12]), ⟨_, _, R, f55⟩, ⟨_, _, R, f56⟩⟩⟩, R⟩ fun aG aE w156 K157 S158 f159 => ⟨tv, Ob h fun x62 hx62 h => Jm1 (κ := K157) (E := Clause.ep61) 3 [13] R R R R R R R R R Y51 Tryinfo61 R R R R (f27.stp (S38.tr (S44.tr (S47.tr (S54.tr S158)))) R R) f159.src (sy_one R) hx62 R fun az aA w161 K162 S163 f164 => ⟨tv, Jc 1 R (Jz (Jp (Ja [2, 2, 2] R (Jc 3 R ?_))))⟩⟩))))
 cases h
 exact Jz1 fun a ha => ⟨k, _, Ja3 _, ⟨(fun b => ren [(9, 6)] (K162 b)), ((x62 : (List Clause)), ((IntKind.i64.wrap (s1.2.1 - 1)) : Int), (s6.1 : Int), (s6.2.1 : Int)), az, aA, R, (Jy2 ((S26.tr (S38.tr (S44.tr (S47.tr (S54.tr (S158.tr S163)))))).wk R) [(9, 6)] R), (f164.map (ren [(9, 6)]) R R), ((f57.stp (S158.tr S163) R R).map (ren [(9, 6)]) R R), hk30⟩, (ha.mm R)⟩
 rintro _ w19 ⟨K20, s3, aq, au, rfl, S21, f22, f23, rfl⟩
 have h := hK17
 dsimp only [aft] at h
 refine Jp (Je [2, 2] R (Jb 2 R (Ju (Ja2 (l := [.tmp 4]) V21 (Jp2 R R) R ?_))))
 cases h
 exact ⟨(fun b => ren [(6, 2)] (K20 b)), aq, au, R, ((hE.stp (S3.tr (S12.tr S21)) R R).map (ren [(6, 2)]) R R), (f22.map (ren [(6, 2)]) R R), (f23.map (ren [(6, 2)]) R R)⟩
theorem slices_IndexFunc_I_int64__i_areLetters_1_ok {w : World} {κ : Col} {a0 u0} {p0 : (List Int)} {c1_0 : Int} {b1_0} (g0 : Rd (Rp.int .i64) κ w 0 a0 u0 p0) (gb1_0 : Bc κ w 0 b1_0 2 [vi c1_0]) {r : Int} (h : slices_IndexFunc_I_int64__i_areLetters_1 p0 c1_0 = some r) : Ret Try.prog 114 [.slice a0 p0.length u0, .func (.func 100) #[] #[.pointer (some ⟨b1_0, 0, none⟩)]] w (fun v w' => ∃ (κ' : Col), v = vi r ∧ Ent κ w κ' w') := by
 unfold slices_IndexFunc_I_int64__i_areLetters_1 at h
 refine Ret.enter F114 R N114 R ?_
 dsimp only [envOf]
 have hE := Ent.refl κ w
 refine Je [2] R (Jb 1 R (Jq (Je [2, 2, 2] R (Jn 1 R (Jf R (Je2 U24 R R) (Jb 1 R ?_))))))
 have hN1 : (p0.length : Int) ≤ 9223372036854775807 := g0.len_le
 refine Ob h fun q2 hq3 hK2 => ?_
 clear h
 refine Jx1 (fun L w' => ∃ κ', L = [(1, .func (.func 100) #[] #[.pointer (some ⟨b1_0, 0, none⟩)])] ∧ Stp [] κ w κ' w' ∧ q2 = Sum.inr ()) ?_ ?_
 refine Jv (Jy1 (fun k L w' => ∃ κ' v8, L = [(0, .slice a0 p0.length u0), (1, .func (.func 100) #[] #[.pointer (some ⟨b1_0, 0, none⟩)]), (7, vi (p0.length : Int)), (8, vi v8)] ∧ Stp [] κ w κ' w' ∧ 0 ≤ v8 ∧ Int.toNat ((p0.length : Int) - v8) = k ∧ cntM (slices_IndexFunc_I_int64__i_areLetters_1_b0 p0 c1_0) k v8 () = some q2) ⟨_, _, ⟨κ, 0, R, (Jx2 _ _).wk R, (by decide), (by simp), hq3⟩, (KM R)⟩ ?_)
 rintro k _ w7 ⟨K8, v8, rfl, S9, hj1, hJ1, h⟩
 rcases k with _ | k
 have hk10 := h; obtain ⟨o1, h⟩ := ex_eq (Sum.inr (Sum.inl ()) : Int ⊕ ((Unit) ⊕ (Unit)))
 have hc1 : decide (v8 < (p0.length : Int)) = false := Jo2 (by omega)
 refine Je [2] R (Jb 1 R (Jq (Jw2 R hc1 (Jc1 (Jt (Jt ?_))))))
 cases h
 have h := hk10
 refine Jb1 ?_
 cases h
 exact Jw1 _ ⟨K8, R, S9.wk R, R⟩ (KM R)
 obtain ⟨o1, h, hk10⟩ := BI h; unfold slices_IndexFunc_I_int64__i_areLetters_1_b0 at h
 have hc1 : decide (v8 < (p0.length : Int)) = true := Jn2 (by omega)
 refine Je [2] R (Jb 1 R (Jq (Jv2 R hc1 (Js (Jp (Jq (Jv (Je [2, 2] R (Jb 2 R (Je [2, 2, 2, 2, 1, 1] R (Jn 3 R (Ob h fun x14 hx14 h => Jf R (Jf2 g0 hx14 U24 Z2 R R R R) (Jl tv R R R R (Jc2 I2 R R (hvE ((g0.stp S9 R R).gInt hx14))) (Ob h fun x16 hx16 h => WO.callV R R R R R R R R C100 (i_areLetters_1_ok (κ := fun b => mp [] 0 (K8 b)) ((gb1_0.stp S9 R R).map (mp [] 0) R R) hx16) ?_))))))))))))))
 rintro _ w13 ⟨k14, rfl, e15⟩
 obtain ⟨K16, S17, m18⟩ := Ji e15 2 R
 refine ⟨tv, Jd ?_⟩
 revert h
 cases ht20 : x16
 refine JF fun h => Jy R (Js (Jz (Jp (Ja [2, 2] R (Jc 2 R ?_)))))
 have hw1 : IntKind.wrap .i64 (v8 + 1) = v8 + 1 := wr1 hj1 (Jm2 hc1) hN1
 rw [hw1]
 have hc1 := Jm2 hc1
 cases h
 exact Jz1 fun a ha => ⟨k, _, Ja3 _, ⟨K16, v8 + 1, R, (S9.tr S17).wk R, by omega, by omega, hk10⟩, (ha.mm R)⟩
 refine JT fun h => Jx R (Je [2, 2] R (Jb 2 R (Ju (Ja1 (Jw (Jw ?_))))))
 cases h
 obtain rfl := Option.some.inj hk10
 have h := hK2
 dsimp only [aft] at h
 refine Ja1 (Jq2 (Jw (Ja2 (l := [.tmp 4]) V114 (Jp2 R R) R ?_)))
 cases h
 exact ⟨K16, R, (hE.stp (S9.tr S17) R R)⟩
 rintro _ w4 ⟨K5, rfl, S6, rfl⟩
 have h := hK2
 dsimp only [aft] at h
 refine Jp (Je [2] R (Jb 1 R (Ju (Ja2 (l := [.tmp 4]) V114 (Jp2 R R) R ?_))))
 cases h
 exact ⟨K5, R, (hE.stp S6 R R)⟩
theorem i_isClause_ok {w : World} {κ : Col} {p0 : Sig} {ac ad aa ab} {p1 : Clause} (g1_1 : Rd (Rp.int .i64) κ w 0 ac ad p1.A) (g1_2 : Rd (Rp.int .i64) κ w 0 aa ab p1.B) {r : Bool} (h : i_isClause p0 p1 = some r) : Ret Try.prog 111 [.agg #[vi p0.In, vi p0.Out], .agg #[vi p1.Kind, .slice ac p1.A.length ad, .slice aa p1.B.length ab]] w (fun v w' => ∃ (κ' : Col), v = .bool r ∧ Ent κ w κ' w') := by
 unfold i_isClause at h
 refine Ret.enter F111 R N111 R ?_
 dsimp only [envOf]
 have hE := Ent.refl κ w
 refine Je [1, 1, 2] R (Jf1 (κ := κ) 2 R R R R R R R fun b2 w1 K2 S3 f4 => ⟨tv, Jf1 (κ := K2) 3 R R R R R R R fun b3 w5 K6 S7 f8 => ⟨tv, Jb 1 R (Jq (Jq (Js1 (κ := K6) [2, 3] none [(0, 2), (1, 0), (2, 2), (3, 2), (4, 2), (5, 0), (6, 2), (7, 2), (8, 2), (9, 2), (10, 0), (11, 0), (12, 1), (13, 1), (14, 2), (15, 2), (16, 2), (17, 2), (18, 0), (19, 0), (20, 1), (21, 1), (22, 2), (23, 2)] [] (by kernel_rfl) (by kernel_rfl) fun w10 S9 => Jf R (Jb2 U61 R Z2 R R) ?_)))⟩⟩)
 have f11 := f8.stp S9 R R
 refine Jg R (Jc2 I2 R R (hvC (f11.ld 0 R R) R)) (Jn 2 R (Ob h fun p12 h hK12 => Ju1 [(4, 2), (5, 0), (6, 2), (7, 2)] [(8, 2), (9, 2), (10, 0), (11, 0), (12, 1), (13, 1), (14, 2), (15, 2), (16, 2), (17, 2), (18, 0), (19, 0), (20, 1), (21, 1), (22, 2), (23, 2)] (fun L w' => L = [(2, .pointer (some ⟨b2, 0, none⟩)), (3, .pointer (some ⟨b3, 0, none⟩)), (12, .bool p12)] ∧ ∃ κ', Stp [] K6 w10 κ' w') (Cl.refl _ _ _) ?_ ?_))
 revert h
 cases ht13 : decide (p1.Kind < 1)
 refine JF fun h => Jf R (Jb2 U61 R Z2 R R) (Jg R (Jc2 I2 R R (hvC (f11.ld 0 R R) R)) (Jn 2 R ?_))
 cases h
 exact Jv1 _ (Cl.refl _ _ _) ⟨R, _, (Jx2 _ _).wk R⟩ (KM R)
 refine JT fun h => Jn 1 R (Je1 R R R R (Jn 2 R ?_))
 cases h
 exact Jv1 _ (Cl.refl _ _ _) ⟨R, _, (Jx2 _ _).wk R⟩ (KM R)
 rintro _ w14 _ ⟨rfl, K15, S16⟩
 have h := hK12
 refine Jn 1 R (Ob h fun p20 h hK17 => Ju1 [(9, 2), (10, 0), (11, 0), (12, 1), (13, 1), (14, 2), (15, 2)] [(16, 2), (17, 2), (18, 0), (19, 0), (20, 1), (21, 1), (22, 2), (23, 2)] (fun L w' => L = [(2, .pointer (some ⟨b2, 0, none⟩)), (3, .pointer (some ⟨b3, 0, none⟩)), (20, .bool p20)] ∧ ∃ κ', Stp [] K15 w14 κ' w') (S16.cl R) ?_ ?_)
 revert h
 cases ht18 : p12
 refine JF fun h => Jf R (Jb2 U61 R Z24 R R) (Jg R (Jc2 I24 R R (hvC (f11.ld 1 R R) R)) (Jg R (Jd2 (cs := [vi p0.In, vi p0.Out]) I47 Z47 R R R (haC (f4.stp (S7.tr S9) R R).cells R)) (Ob h fun x17 hx17 h => Jh R R R C71 (i_lettersOf_ok (κ := fun b => mp [] 0 (K15 b)) (p0 := p0) hx17) ?_)))
 rintro _ w20 ⟨k21, rfl, e22⟩
 obtain ⟨K23, S24, m25⟩ := Ji e22 4 R
 refine ⟨((S16.tr S24).cl R), Ob h fun x18 hx18 h => Jh R R R C33 (i_isSet_ok (κ := fun b => mp [] 0 (K23 b)) (Jl2 (g1_1.stp (S3.tr (S7.tr (S9.tr (S16.tr S24)))) R R) (mp [] 0) R R) hx18) ?_⟩
 rintro _ w28 ⟨k29, rfl, e30⟩
 obtain ⟨K31, S32, m33⟩ := Ji e30 6 R
 refine ⟨((S16.tr (S24.tr S32)).cl R), Jn 2 R ?_⟩
 cases h
 exact Jv1 _ ((S16.tr (S24.tr S32)).cl R) ⟨R, _, (S24.tr S32).wk R⟩ (KM R)
 refine JT fun h => Jn 1 R (Je1 R R R R (Je1 R R R R (Jd1 R R R R (Jd1 R R R R (Jn 2 R ?_)))))
 cases h
 exact Jv1 _ (S16.cl R) ⟨R, _, (Jx2 _ _).wk R⟩ (KM R)
 rintro _ w35 _ ⟨rfl, K36, S37⟩
 have h := hK17
 refine Jn 1 R (Ob h fun p28 h hK38 => Ju1 [(17, 2), (18, 0), (19, 0), (20, 1), (21, 1), (22, 2), (23, 2)] [] (fun L w' => L = [(3, .pointer (some ⟨b3, 0, none⟩)), (28, .bool p28)] ∧ ∃ κ', Stp [] K36 w35 κ' w') ((S16.tr S37).cl R) ?_ ?_)
 revert h
 cases ht39 : p20
 refine JF fun h => Jf R (Jb2 U61 R Z24 R R) (Jg R (Jc2 I24 R R (hvC (f11.ld 2 R R) R)) (Jg R (Jd2 (cs := [vi p0.In, vi p0.Out]) I47 Z47 R R R (haC (f4.stp (S7.tr S9) R R).cells R)) (Ob h fun x25 hx25 h => Jh R R R C71 (i_lettersOf_ok (κ := fun b => mp [] 0 (K36 b)) (p0 := p0) hx25) ?_)))
 rintro _ w41 ⟨k42, rfl, e43⟩
 obtain ⟨K44, S45, m46⟩ := Ji e43 4 R
 refine ⟨((S16.tr (S37.tr S45)).cl R), Ob h fun x26 hx26 h => Jh R R R C33 (i_isSet_ok (κ := fun b => mp [] 0 (K44 b)) (Jl2 (g1_2.stp (S3.tr (S7.tr (S9.tr (S16.tr (S37.tr S45))))) R R) (mp [] 0) R R) hx26) ?_⟩
 rintro _ w49 ⟨k50, rfl, e51⟩
 obtain ⟨K52, S53, m54⟩ := Ji e51 6 R
 refine ⟨((S16.tr (S37.tr (S45.tr S53))).cl R), Jn 2 R ?_⟩
 cases h
 exact Jv1 _ ((S16.tr (S37.tr (S45.tr S53))).cl R) ⟨R, _, (S45.tr S53).wk R⟩ (KM R)
 refine JT fun h => Jn 1 R (Je1 R R R R (Je1 R R R R (Jd1 R R R R (Jd1 R R R R (Jn 2 R ?_)))))
 cases h
 exact Jv1 _ ((S16.tr S37).cl R) ⟨R, _, (Jx2 _ _).wk R⟩ (KM R)
 rintro _ w56 _ ⟨rfl, K57, S58⟩
 have h := hK38
 refine Jt1 (Jd ?_)
 revert h
 cases ht59 : p28
 refine JF fun h => Jy R (Js (Jp (Je [2, 1, 1, 2, 2, 1, 2, 2, 2, 2] R (Jf R (Jb2 U61 R Z2 R R) ?_))))
 have f61 := f11.stp (S16.tr (S37.tr S58)) R R
 refine Jl tv R R R R (Jc2 I2 R R (hvE (f61.ld 0 R R))) (Ob h fun x31 hx31 h => Jh R R R C135 (i_hasSecond_ok (κ := fun b => mp [] 0 (K57 b)) hx31) ?_)
 rintro _ w62 ⟨k63, rfl, e64⟩
 obtain ⟨K65, S66, m67⟩ := Ji e64 4 R
 refine ⟨tv, Jn 1 R (Ob h fun p37 h hK69 => Ju1 [(4, 2), (5, 1), (6, 2), (7, 2), (8, 2)] [(9, 2)] (fun L w' => L = [(37, .bool p37)] ∧ ∃ κ', Stp [] K65 w62 κ' w') tv ?_ ?_)⟩
 revert h
 cases ht70 : x31
 refine JF fun h => Jf R (Jb2 U61 R Z24 R R) (Jl tv R R R R (Jc2 I24 R R (hvE ((f61.stp S66 R R).ld 2 R R))) (Jf R (Je2 U24 R R) (Jn 2 R ?_)))
 cases h
 exact Jv1 _ tv ⟨R, _, (Jx2 _ _).wk R⟩ (KM R)
 refine JT fun h => Jn 1 R (Jd1 R R R R (Jn 3 R ?_))
 cases h
 exact Jv1 _ tv ⟨R, _, (Jx2 _ _).wk R⟩ (KM R)
 rintro _ w72 _ ⟨rfl, K73, S74⟩
 have h := hK69
 refine Jb 1 R (Ju (Ja2 (l := [.tmp 4]) V111 (Jp2 R R) R ?_))
 cases h
 exact ⟨K73, R, (hE.stp (S3.tr (S7.tr (S9.tr (S16.tr (S37.tr (S58.tr (S66.tr S74))))))) R R)⟩
 refine JT fun h => Jx R (Je [2] R (Jb 1 R (Ju (Jw (Ja2 (l := [.tmp 4]) V111 (Jp2 R R) R ?_)))))
 cases h
 exact ⟨K57, R, (hE.stp (S3.tr (S7.tr (S9.tr (S16.tr (S37.tr S58))))) R R)⟩
theorem slices_Contains_I_int64_ok {w : World} {κ : Col} {a0 u0} {p0 : (List Int)} {p1 : Int} (g0 : Rd (Rp.int .i64) κ w 0 a0 u0 p0) {r : Bool} (h : slices_Contains_I_int64 p0 p1 = some r) : Ret Try.prog 72 [.slice a0 p0.length u0, vi p1] w (fun v w' => ∃ (κ' : Col), v = .bool r ∧ Ent κ w κ' w') := by
 unfold slices_Contains_I_int64 at h
 refine Ret.enter F72 R N72 R ?_
 dsimp only [envOf]
 have hE := Ent.refl κ w
 refine Je [2] R (Jb 1 R (Je [2, 2, 1, 2, 2] R (Jn 2 R (Ob h fun x7 hx7 h => Jh R R R C101 (slices_Index_I_int64_ok (κ := fun b => mp [] 0 (κ b)) (Jl2 g0 (mp [] 0) R R) hx7) ?_))))
 rintro _ w1 ⟨k2, rfl, e3⟩
 obtain ⟨K4, S5, m6⟩ := Ji e3 2 R
 refine ⟨tv, Jb 2 R (Ju (Ja2 (l := [.tmp 4]) V72 (Jp2 R R) R ?_))⟩
 cases h
 exact ⟨K4, R, (hE.stp S5 R R)⟩
theorem i_loopsIn_1__i_loopsIn_2__i_loopsIn_1_ok (n : Nat) : ∀ {w : World} {κ : Col} {p0 : Int} {a1 u1} {p1 : (List (List Int))} {aa ad} {c2_0 : (List Int)} {a3 u3} {c0 : (List Bool)} {a4 u4} {c1 : (List Bool)} {b2_0 b3 b4 b5} (g1 : Rd (Rp.sl (Rp.int .i64)) κ w 0 a1 u1 p1) (g2_0 : Oc E6 2 κ w 2 aa ad c2_0) (g3 : Oc Ep.bool 4 κ w 3 a3 u3 c0) (g4 : Rd Rp.bool κ w 0 a4 u4 c1) (gb2_0 : Bc κ w 4 b2_0 24 [.slice aa c2_0.length ad]) (gb3 : Bc κ w 0 b3 98 [.slice a3 c0.length u3]) (gb4 : Bc κ w 0 b4 98 [.slice a4 c1.length u4]) (gb5 : Bc κ w 0 b5 118 [.func (.func 84) #[] #[.pointer (some ⟨b3, 0, none⟩), .pointer (some ⟨b4, 0, none⟩), .pointer (some ⟨b5, 0, none⟩)]]) {r : (List Int) × (List Bool)} (h : i_loopsIn_1__i_loopsIn_2__i_loopsIn_1 n p0 p1 c2_0 c0 c1 = some r), Ret Try.prog 84 [vi p0, .slice a1 p1.length u1, .func (.func 85) #[] #[.pointer (some ⟨b2_0, 0, none⟩)], .pointer (some ⟨b3, 0, none⟩), .pointer (some ⟨b4, 0, none⟩), .pointer (some ⟨b5, 0, none⟩)] w (fun v w' => ∃ (κ' : Col) (ma0 : Option Addr) (mu0 : Nat), v = .tuple #[] ∧ Ent κ w κ' w' ∧ Oc E6 2 κ' w' 2 ma0 mu0 r.1 ∧ Oc Ep.bool 4 κ' w' 3 a3 u3 r.2 ∧ c0.length = r.2.length ∧ Bc κ' w' 4 b2_0 24 [.slice ma0 r.1.length mu0]) := by
 induction n with
 | zero =>
  intro w κ p0 a1 u1 p1 aa ad c2_0 a3 u3 c0 a4 u4 c1 b2_0 b3 b4 b5 g1 g2_0 g3 g4 gb2_0 gb3 gb4 gb5 r h
  cases h
 | succ n ih =>
  intro w κ p0 a1 u1 p1 aa ad c2_0 a3 u3 c0 a4 u4 c1 b2_0 b3 b4 b5 g1 g2_0 g3 g4 gb2_0 gb3 gb4 gb5 r h
  have h : i_loopsIn_1__i_loopsIn_2__i_loopsIn_1_s (i_loopsIn_1__i_loopsIn_2__i_loopsIn_1 n) p0 p1 c2_0 c0 c1 = some r := h
  unfold i_loopsIn_1__i_loopsIn_2__i_loopsIn_1_s at h
  refine Ret.enter F84 R N84 R ?_
  dsimp only [envOf]
  have hE := Ent.refl κ w
  refine Je [1, 2, 2, 1] R (Jl tv R R R R (Jc2 I98 R R (hvE (gb3.ld 0 R R))) (Jn 1 R (Ob h fun x13 hx13 h => Jf R (Jf2 g3.rdc hx13 U98 Z4 R R R R) (Ob h fun y111 hy111 h => Jk1 (κ := κ) (E := Ep.bool) 3 [] R R R R R R R R Z4 R R R R g3 hy111 fun w1 K2 S3 f4 => ⟨tv, ?_⟩))))
  have hn5 : c0.length = y111.length := (Jt2 hy111).2.2.2.symm
  refine Jd (Jq (Je [2, 2, 2, 1, 2, 2] R (Jn 2 R (Ob h fun x16 hx16 h => Jf R (Jf2 g1 hx16 U22 Z24 R R R R) ?_))))
  have f6 := g1.stp S3 R R
  obtain ⟨ax16, ux16, f7, hl8⟩ := f6.gSl hx16
  refine Jl tv R R R R (Jc2 I24 R R (hvE hl8)) (Jf R (Je2 U24 R R) (Jb 1 R ?_))
  have hN9 : (x16.length : Int) ≤ 9223372036854775807 := f7.len_le
  refine Ob h fun q2 hq11 hK10 => ?_
  clear h
  refine Jx1 (fun L w' => ∃ κ', ∃ s3 : (List Int) × (List Bool), ∃ ai ah, L = [(0, vi p0), (2, .func (.func 85) #[] #[.pointer (some ⟨b2_0, 0, none⟩)]), (3, .pointer (some ⟨b3, 0, none⟩)), (4, .pointer (some ⟨b4, 0, none⟩)), (5, .pointer (some ⟨b5, 0, none⟩))] ∧ Stp [2, 3, 4, 7, 8, 9] K2 w1 κ' w' ∧ Oc E6 2 κ' w' 2 ai ah s3.1 ∧ Oc Ep.bool 4 κ' w' 3 a3 u3 s3.2 ∧ c0.length = s3.2.length ∧ Bc κ' w' 4 b2_0 24 [.slice ai s3.1.length ah] ∧ q2 = Sum.inr s3) ?_ ?_
  refine Jv (Jy1 (fun k L w' => ∃ κ' v19, ∃ s1 : (List Int) × (List Bool), ∃ ab ac, L = [(0, vi p0), (1, .slice a1 p1.length u1), (2, .func (.func 85) #[] #[.pointer (some ⟨b2_0, 0, none⟩)]), (3, .pointer (some ⟨b3, 0, none⟩)), (4, .pointer (some ⟨b4, 0, none⟩)), (5, .pointer (some ⟨b5, 0, none⟩)), (17, .slice ax16 x16.length ux16), (18, vi (x16.length : Int)), (19, vi v19)] ∧ Stp [2, 3, 4, 7, 8, 9] K2 w1 κ' w' ∧ Oc E6 2 κ' w' 2 ab ac s1.1 ∧ Oc Ep.bool 4 κ' w' 3 a3 u3 s1.2 ∧ c0.length = s1.2.length ∧ Bc κ' w' 4 b2_0 24 [.slice ab s1.1.length ac] ∧ 0 ≤ v19 ∧ Int.toNat ((x16.length : Int) - v19) = k ∧ cntM (i_loopsIn_1__i_loopsIn_2__i_loopsIn_1_b0 (i_loopsIn_1__i_loopsIn_2__i_loopsIn_1 n) p1 c1 x16) k v19 s1 = some q2) ⟨_, _, ⟨K2, 0, ((c2_0 : (List Int)), (y111 : (List Bool))), aa, ad, R, (Jx2 _ _).wk R, (g2_0.stp S3 R R), f4, hn5, (gb2_0.stp S3 R R), (by decide), (by simp), hq11⟩, (KM R)⟩ ?_)
  rintro k _ w19 ⟨K20, v19, s1, ab, ac, rfl, S21, f22, f23, hn24, f25, hj9, hJ9, h⟩
  rcases k with _ | k
  have hk28 := h; obtain ⟨o9, h⟩ := ex_eq (Sum.inr (Sum.inl s1) : ((List Int) × (List Bool)) ⊕ (((List Int) × (List Bool)) ⊕ ((List Int) × (List Bool))))
  have hc9 : decide (v19 < (x16.length : Int)) = false := Jo2 (by omega)
  refine Je [2] R (Jb 1 R (Jq (Jw2 R hc9 (Jc1 (Jt (Jt ?_))))))
  cases h
  have h := hk28
  refine Jb1 ?_
  cases h
  exact Jw1 _ ⟨K20, ((s1.1 : (List Int)), (s1.2 : (List Bool))), ab, ac, R, S21.wk R, f22, f23, hn24, f25, R⟩ (KM R)
  obtain ⟨o9, h, hk28⟩ := BI h; unfold i_loopsIn_1__i_loopsIn_2__i_loopsIn_1_b0 at h
  have hc9 : decide (v19 < (x16.length : Int)) = true := Jn2 (by omega)
  refine Je [2] R (Jb 1 R (Jq (Jv2 R hc9 (Js (Jp (Jq (Jv (Je [2, 1, 2] R (Ob h fun x21 hx21 h => Jf R (Jf2 f7 hx21 U24 Z2 R R R R) (Jl tv R R R R (Jc2 I2 R R (hvE ((f7.stp S21 R R).gInt hx21))) (Jb 1 R (Je [1, 2, 2, 1, 2, 1, 2, 2, 1, 2, 2] R ?_))))))))))))
  have f30 := gb4.stp (S3.tr S21) R R
  refine Jl tv R R R R (Jc2 I98 R R (hvE (f30.ld 0 R R))) (Jn 1 R (Ob h fun x25 hx25 h => Jf R (Jf2 g4 hx25 U98 Z4 R R R R) ?_))
  have f31 := g4.stp (S3.tr S21) R R
  refine Jl tv R R R R (Jc2 I4 R R (hvE (f31.gBool hx25))) (Jn 1 R (Ob h fun p33 h hK32 => Ju1 [(5, 1), (6, 2), (7, 2), (8, 1), (9, 2), (10, 2)] [] (fun L w' => L = [(0, vi p0), (1, .slice a1 p1.length u1), (2, .func (.func 85) #[] #[.pointer (some ⟨b2_0, 0, none⟩)]), (3, .pointer (some ⟨b3, 0, none⟩)), (4, .pointer (some ⟨b4, 0, none⟩)), (5, .pointer (some ⟨b5, 0, none⟩)), (10, vi x21), (17, .slice ax16 x16.length ux16), (18, vi (x16.length : Int)), (19, vi v19), (33, .bool p33)] ∧ ∃ κ', Stp [] K20 w19 κ' w') tv ?_ ?_))
  revert h
  cases ht33 : x25
  refine JF fun h => Jd1 R R R R (Jn 2 R (Jd1 R R R R (Jn 2 R ?_)))
  cases h
  exact Jv1 _ tv ⟨R, _, (Jx2 _ _).wk R⟩ (KM R)
  refine JT fun h => Jl tv R R R R (Jc2 I98 R R (hvE ((gb3.stp (S3.tr S21) R R).ld 0 R R))) (Jn 1 R (Ob h fun x30 hx30 h => Jf R (Jf2 f23.rdc hx30 U98 Z4 R R hn24 R) (Jl tv R R R R (Jc2 I4 R R (hvE (f23.rdc.gBool hx30))) (Jn 2 R ?_))))
  cases h
  exact Jv1 _ tv ⟨R, _, (Jx2 _ _).wk R⟩ (KM R)
  rintro _ w35 _ ⟨rfl, K36, S37⟩
  have h := hK32
  refine Jd (Ob h fun q4 h hK38 => Jx1 (fun L w' => ∃ κ' af ae, L = [(0, vi p0), (1, .slice a1 p1.length u1), (2, .func (.func 85) #[] #[.pointer (some ⟨b2_0, 0, none⟩)]), (3, .pointer (some ⟨b3, 0, none⟩)), (4, .pointer (some ⟨b4, 0, none⟩)), (5, .pointer (some ⟨b5, 0, none⟩)), (17, .slice ax16 x16.length ux16), (18, vi (x16.length : Int)), (19, vi v19)] ∧ Stp [2, 3, 4, 7, 8, 9] K36 w35 κ' w' ∧ Oc E6 2 κ' w' 2 af ae q4.1 ∧ Oc Ep.bool 4 κ' w' 3 a3 u3 q4.2 ∧ c0.length = q4.2.length ∧ Bc κ' w' 4 b2_0 24 [.slice af q4.1.length ae]) ?_ ?_)
  revert h
  cases ht46 : p33
  refine JF fun h => Jy R (Js ?_)
  cases h
  exact Jw1 _ ⟨K36, ab, ac, R, (Jx2 _ _).wk R, (f22.stp S37 R R), (f23.stp S37 R R), hn24, (f25.stp S37 R R)⟩ (KM R)
  refine JT fun h => Jx R (Ja [1, 2, 2, 2, 1] R ?_)
  have f47 := gb5.stp (S3.tr (S21.tr S37)) R R
  refine Jl tv R R R R (Jc2 I118 R R (hvE (f47.ld 0 R R))) (Jn 3 R (Ob h fun x38 hx38 h => WO.callV R R R R R R R R C84 (ih (κ := fun b => mp [(2, 2), (3, 3), (4, 4)] 0 (K36 b)) (Jl2 (f6.stp (S21.tr S37) R R) (mp [(2, 2), (3, 3), (4, 4)] 0) R R) ((f22.stp S37 R R).map (mp [(2, 2), (3, 3), (4, 4)] 0) R R) ((f23.stp S37 R R).map (mp [(2, 2), (3, 3), (4, 4)] 0) R R) (Jl2 (f31.stp S37 R R) (mp [(2, 2), (3, 3), (4, 4)] 0) R R) ((f25.stp S37 R R).map (mp [(2, 2), (3, 3), (4, 4)] 0) R R) (Bc.cast ((gb3.stp (S3.tr (S21.tr S37)) R R).map (mp [(2, 2), (3, 3), (4, 4)] 0) R R) (by simp only [hn24])) ((f30.stp S37 R R).map (mp [(2, 2), (3, 3), (4, 4)] 0) R R) (f47.map (mp [(2, 2), (3, 3), (4, 4)] 0) R R) hx38) ?_))
  rintro _ w55 ⟨k56, al, aj, rfl, e57, f58, f59, hn60, f61⟩
  obtain ⟨K62, S63, m64⟩ := Ji e57 5 R
  refine ⟨tv, Jo ?_⟩
  cases h
  exact Jw1 _ ⟨(fun b => ren [(7, 2), (8, 3), (9, 4)] (K62 b)), al, aj, R, (Jy2 (S63.wk R) [(7, 2), (8, 3), (9, 4)] R), ((f58.mx (no_int _) m64 R (R : 5 + 2 = 7)).map (ren [(7, 2), (8, 3), (9, 4)]) R R), ((f59.mx no_bool m64 R (R : 5 + 3 = 8)).map (ren [(7, 2), (8, 3), (9, 4)]) R R), (hn24.trans hn60), ((f61.mx m64 R (R : 5 + 4 = 9)).map (ren [(7, 2), (8, 3), (9, 4)]) R R)⟩ (KM R)
  rintro _ w39 ⟨K40, af, ae, rfl, S41, f42, f43, hn44, f45⟩
  have h := hK38
  refine Jz (Jp (Ja [2, 2] R (Jc 2 R ?_)))
  have hw9 : IntKind.wrap .i64 (v19 + 1) = v19 + 1 := wr1 hj9 (Jm2 hc9) hN9
  rw [hw9]
  have hc9 := Jm2 hc9
  cases h
  exact Jz1 fun a ha => ⟨k, _, Ja3 _, ⟨K40, v19 + 1, ((q4.1 : (List Int)), (q4.2 : (List Bool))), af, ae, R, (S21.tr (S37.tr S41)).wk R, f42, f43, hn44, f45, by omega, by omega, hk28⟩, (ha.mm R)⟩
  rintro _ w12 ⟨K13, s3, ai, ah, rfl, S14, f15, f16, hn17, f18, rfl⟩
  have h := hK10
  dsimp only [aft] at h
  refine Jp (Ja [2, 2, 1] R (Jn 2 R (Ob h fun x42 hx42 h => WO.callV R R R R R R R R C85 (i_loopsIn_2_ok (κ := fun b => mp [(2, 2), (4, 3)] 0 (K13 b)) (f15.map (mp [(2, 2), (4, 3)] 0) R R) (f18.map (mp [(2, 2), (4, 3)] 0) R R) hx42) ?_)))
  rintro _ w72 ⟨k73, ak, am, rfl, e74, f75, f76⟩
  obtain ⟨K77, S78, m79⟩ := Ji e74 5 R
  refine ⟨tv, Jo (DN.end0 V84 ?_)⟩
  cases h
  exact ⟨(fun b => ren [(7, 2), (8, 4)] (K77 b)), ak, am, R, ((hE.stp (S3.tr (S14.tr S78)) R R).map (ren [(7, 2), (8, 4)]) R R), ((f75.mx (no_int _) m79 R (R : 5 + 2 = 7)).map (ren [(7, 2), (8, 4)]) R R), ((f16.stp S78 R R).map (ren [(7, 2), (8, 4)]) R R), hn17, ((f76.mx m79 R (R : 5 + 3 = 8)).map (ren [(7, 2), (8, 4)]) R R)⟩
theorem i_loopsIn_1__i_loopsIn_3__i_loopsIn_1_ok (n : Nat) : ∀ {w : World} {κ : Col} {p0 : Int} {a1 u1} {p1 : (List (List Int))} {aa ad} {c2_0 : (List Int)} {a3 u3} {c0 : (List Bool)} {a4 u4} {c1 : (List Bool)} {b2_0 b3 b4 b5} (g1 : Rd (Rp.sl (Rp.int .i64)) κ w 0 a1 u1 p1) (g2_0 : Oc E6 2 κ w 2 aa ad c2_0) (g3 : Oc Ep.bool 4 κ w 3 a3 u3 c0) (g4 : Rd Rp.bool κ w 0 a4 u4 c1) (gb2_0 : Bc κ w 4 b2_0 24 [.slice aa c2_0.length ad]) (gb3 : Bc κ w 0 b3 98 [.slice a3 c0.length u3]) (gb4 : Bc κ w 0 b4 98 [.slice a4 c1.length u4]) (gb5 : Bc κ w 0 b5 118 [.func (.func 84) #[] #[.pointer (some ⟨b3, 0, none⟩), .pointer (some ⟨b4, 0, none⟩), .pointer (some ⟨b5, 0, none⟩)]]) {r : (List Int) × (List Bool)} (h : i_loopsIn_1__i_loopsIn_3__i_loopsIn_1 n p0 p1 c2_0 c0 c1 = some r), Ret Try.prog 84 [vi p0, .slice a1 p1.length u1, .func (.func 86) #[] #[.pointer (some ⟨b2_0, 0, none⟩)], .pointer (some ⟨b3, 0, none⟩), .pointer (some ⟨b4, 0, none⟩), .pointer (some ⟨b5, 0, none⟩)] w (fun v w' => ∃ (κ' : Col) (ma0 : Option Addr) (mu0 : Nat), v = .tuple #[] ∧ Ent κ w κ' w' ∧ Oc E6 2 κ' w' 2 ma0 mu0 r.1 ∧ Oc Ep.bool 4 κ' w' 3 a3 u3 r.2 ∧ c0.length = r.2.length ∧ Bc κ' w' 4 b2_0 24 [.slice ma0 r.1.length mu0]) := by
 induction n with
 | zero =>
  intro w κ p0 a1 u1 p1 aa ad c2_0 a3 u3 c0 a4 u4 c1 b2_0 b3 b4 b5 g1 g2_0 g3 g4 gb2_0 gb3 gb4 gb5 r h
  cases h
 | succ n ih =>
  intro w κ p0 a1 u1 p1 aa ad c2_0 a3 u3 c0 a4 u4 c1 b2_0 b3 b4 b5 g1 g2_0 g3 g4 gb2_0 gb3 gb4 gb5 r h
  have h : i_loopsIn_1__i_loopsIn_3__i_loopsIn_1_s (i_loopsIn_1__i_loopsIn_3__i_loopsIn_1 n) p0 p1 c2_0 c0 c1 = some r := h
  unfold i_loopsIn_1__i_loopsIn_3__i_loopsIn_1_s at h
  refine Ret.enter F84 R N84 R ?_
  dsimp only [envOf]
  have hE := Ent.refl κ w
  refine Je [1, 2, 2, 1] R (Jl tv R R R R (Jc2 I98 R R (hvE (gb3.ld 0 R R))) (Jn 1 R (Ob h fun x13 hx13 h => Jf R (Jf2 g3.rdc hx13 U98 Z4 R R R R) (Ob h fun y111 hy111 h => Jk1 (κ := κ) (E := Ep.bool) 3 [] R R R R R R R R Z4 R R R R g3 hy111 fun w1 K2 S3 f4 => ⟨tv, ?_⟩))))
  have hn5 : c0.length = y111.length := (Jt2 hy111).2.2.2.symm
  refine Jd (Jq (Je [2, 2, 2, 1, 2, 2] R (Jn 2 R (Ob h fun x16 hx16 h => Jf R (Jf2 g1 hx16 U22 Z24 R R R R) ?_))))
  have f6 := g1.stp S3 R R
  obtain ⟨ax16, ux16, f7, hl8⟩ := f6.gSl hx16
  refine Jl tv R R R R (Jc2 I24 R R (hvE hl8)) (Jf R (Je2 U24 R R) (Jb 1 R ?_))
  have hN9 : (x16.length : Int) ≤ 9223372036854775807 := f7.len_le
  refine Ob h fun q2 hq11 hK10 => ?_
  clear h
  refine Jx1 (fun L w' => ∃ κ', ∃ s3 : (List Int) × (List Bool), ∃ ai ah, L = [(0, vi p0), (2, .func (.func 86) #[] #[.pointer (some ⟨b2_0, 0, none⟩)]), (3, .pointer (some ⟨b3, 0, none⟩)), (4, .pointer (some ⟨b4, 0, none⟩)), (5, .pointer (some ⟨b5, 0, none⟩))] ∧ Stp [2, 3, 4, 7, 8, 9] K2 w1 κ' w' ∧ Oc E6 2 κ' w' 2 ai ah s3.1 ∧ Oc Ep.bool 4 κ' w' 3 a3 u3 s3.2 ∧ c0.length = s3.2.length ∧ Bc κ' w' 4 b2_0 24 [.slice ai s3.1.length ah] ∧ q2 = Sum.inr s3) ?_ ?_
  refine Jv (Jy1 (fun k L w' => ∃ κ' v19, ∃ s1 : (List Int) × (List Bool), ∃ ab ac, L = [(0, vi p0), (1, .slice a1 p1.length u1), (2, .func (.func 86) #[] #[.pointer (some ⟨b2_0, 0, none⟩)]), (3, .pointer (some ⟨b3, 0, none⟩)), (4, .pointer (some ⟨b4, 0, none⟩)), (5, .pointer (some ⟨b5, 0, none⟩)), (17, .slice ax16 x16.length ux16), (18, vi (x16.length : Int)), (19, vi v19)] ∧ Stp [2, 3, 4, 7, 8, 9] K2 w1 κ' w' ∧ Oc E6 2 κ' w' 2 ab ac s1.1 ∧ Oc Ep.bool 4 κ' w' 3 a3 u3 s1.2 ∧ c0.length = s1.2.length ∧ Bc κ' w' 4 b2_0 24 [.slice ab s1.1.length ac] ∧ 0 ≤ v19 ∧ Int.toNat ((x16.length : Int) - v19) = k ∧ cntM (i_loopsIn_1__i_loopsIn_3__i_loopsIn_1_b0 (i_loopsIn_1__i_loopsIn_3__i_loopsIn_1 n) p1 c1 x16) k v19 s1 = some q2) ⟨_, _, ⟨K2, 0, ((c2_0 : (List Int)), (y111 : (List Bool))), aa, ad, R, (Jx2 _ _).wk R, (g2_0.stp S3 R R), f4, hn5, (gb2_0.stp S3 R R), (by decide), (by simp), hq11⟩, (KM R)⟩ ?_)
  rintro k _ w19 ⟨K20, v19, s1, ab, ac, rfl, S21, f22, f23, hn24, f25, hj9, hJ9, h⟩
  rcases k with _ | k
  have hk28 := h; obtain ⟨o9, h⟩ := ex_eq (Sum.inr (Sum.inl s1) : ((List Int) × (List Bool)) ⊕ (((List Int) × (List Bool)) ⊕ ((List Int) × (List Bool))))
  have hc9 : decide (v19 < (x16.length : Int)) = false := Jo2 (by omega)
  refine Je [2] R (Jb 1 R (Jq (Jw2 R hc9 (Jc1 (Jt (Jt ?_))))))
  cases h
  have h := hk28
  refine Jb1 ?_
  cases h
  exact Jw1 _ ⟨K20, ((s1.1 : (List Int)), (s1.2 : (List Bool))), ab, ac, R, S21.wk R, f22, f23, hn24, f25, R⟩ (KM R)
  obtain ⟨o9, h, hk28⟩ := BI h; unfold i_loopsIn_1__i_loopsIn_3__i_loopsIn_1_b0 at h
  have hc9 : decide (v19 < (x16.length : Int)) = true := Jn2 (by omega)
  refine Je [2] R (Jb 1 R (Jq (Jv2 R hc9 (Js (Jp (Jq (Jv (Je [2, 1, 2] R (Ob h fun x21 hx21 h => Jf R (Jf2 f7 hx21 U24 Z2 R R R R) (Jl tv R R R R (Jc2 I2 R R (hvE ((f7.stp S21 R R).gInt hx21))) (Jb 1 R (Je [1, 2, 2, 1, 2, 1, 2, 2, 1, 2, 2] R ?_))))))))))))
  have f30 := gb4.stp (S3.tr S21) R R
  refine Jl tv R R R R (Jc2 I98 R R (hvE (f30.ld 0 R R))) (Jn 1 R (Ob h fun x25 hx25 h => Jf R (Jf2 g4 hx25 U98 Z4 R R R R) ?_))
  have f31 := g4.stp (S3.tr S21) R R
  refine Jl tv R R R R (Jc2 I4 R R (hvE (f31.gBool hx25))) (Jn 1 R (Ob h fun p33 h hK32 => Ju1 [(5, 1), (6, 2), (7, 2), (8, 1), (9, 2), (10, 2)] [] (fun L w' => L = [(0, vi p0), (1, .slice a1 p1.length u1), (2, .func (.func 86) #[] #[.pointer (some ⟨b2_0, 0, none⟩)]), (3, .pointer (some ⟨b3, 0, none⟩)), (4, .pointer (some ⟨b4, 0, none⟩)), (5, .pointer (some ⟨b5, 0, none⟩)), (10, vi x21), (17, .slice ax16 x16.length ux16), (18, vi (x16.length : Int)), (19, vi v19), (33, .bool p33)] ∧ ∃ κ', Stp [] K20 w19 κ' w') tv ?_ ?_))
  revert h
  cases ht33 : x25
  refine JF fun h => Jd1 R R R R (Jn 2 R (Jd1 R R R R (Jn 2 R ?_)))
  cases h
  exact Jv1 _ tv ⟨R, _, (Jx2 _ _).wk R⟩ (KM R)
  refine JT fun h => Jl tv R R R R (Jc2 I98 R R (hvE ((gb3.stp (S3.tr S21) R R).ld 0 R R))) (Jn 1 R (Ob h fun x30 hx30 h => Jf R (Jf2 f23.rdc hx30 U98 Z4 R R hn24 R) (Jl tv R R R R (Jc2 I4 R R (hvE (f23.rdc.gBool hx30))) (Jn 2 R ?_))))
  cases h
  exact Jv1 _ tv ⟨R, _, (Jx2 _ _).wk R⟩ (KM R)
  rintro _ w35 _ ⟨rfl, K36, S37⟩
  have h := hK32
  refine Jd (Ob h fun q4 h hK38 => Jx1 (fun L w' => ∃ κ' af ae, L = [(0, vi p0), (1, .slice a1 p1.length u1), (2, .func (.func 86) #[] #[.pointer (some ⟨b2_0, 0, none⟩)]), (3, .pointer (some ⟨b3, 0, none⟩)), (4, .pointer (some ⟨b4, 0, none⟩)), (5, .pointer (some ⟨b5, 0, none⟩)), (17, .slice ax16 x16.length ux16), (18, vi (x16.length : Int)), (19, vi v19)] ∧ Stp [2, 3, 4, 7, 8, 9] K36 w35 κ' w' ∧ Oc E6 2 κ' w' 2 af ae q4.1 ∧ Oc Ep.bool 4 κ' w' 3 a3 u3 q4.2 ∧ c0.length = q4.2.length ∧ Bc κ' w' 4 b2_0 24 [.slice af q4.1.length ae]) ?_ ?_)
  revert h
  cases ht46 : p33
  refine JF fun h => Jy R (Js ?_)
  cases h
  exact Jw1 _ ⟨K36, ab, ac, R, (Jx2 _ _).wk R, (f22.stp S37 R R), (f23.stp S37 R R), hn24, (f25.stp S37 R R)⟩ (KM R)
  refine JT fun h => Jx R (Ja [1, 2, 2, 2, 1] R ?_)
  have f47 := gb5.stp (S3.tr (S21.tr S37)) R R
  refine Jl tv R R R R (Jc2 I118 R R (hvE (f47.ld 0 R R))) (Jn 3 R (Ob h fun x38 hx38 h => WO.callV R R R R R R R R C84 (ih (κ := fun b => mp [(2, 2), (3, 3), (4, 4)] 0 (K36 b)) (Jl2 (f6.stp (S21.tr S37) R R) (mp [(2, 2), (3, 3), (4, 4)] 0) R R) ((f22.stp S37 R R).map (mp [(2, 2), (3, 3), (4, 4)] 0) R R) ((f23.stp S37 R R).map (mp [(2, 2), (3, 3), (4, 4)] 0) R R) (Jl2 (f31.stp S37 R R) (mp [(2, 2), (3, 3), (4, 4)] 0) R R) ((f25.stp S37 R R).map (mp [(2, 2), (3, 3), (4, 4)] 0) R R) (Bc.cast ((gb3.stp (S3.tr (S21.tr S37)) R R).map (mp [(2, 2), (3, 3), (4, 4)] 0) R R) (by simp only [hn24])) ((f30.stp S37 R R).map (mp [(2, 2), (3, 3), (4, 4)] 0) R R) (f47.map (mp [(2, 2), (3, 3), (4, 4)] 0) R R) hx38) ?_))
  rintro _ w55 ⟨k56, al, aj, rfl, e57, f58, f59, hn60, f61⟩
  obtain ⟨K62, S63, m64⟩ := Ji e57 5 R
  refine ⟨tv, Jo ?_⟩
  cases h
  exact Jw1 _ ⟨(fun b => ren [(7, 2), (8, 3), (9, 4)] (K62 b)), al, aj, R, (Jy2 (S63.wk R) [(7, 2), (8, 3), (9, 4)] R), ((f58.mx (no_int _) m64 R (R : 5 + 2 = 7)).map (ren [(7, 2), (8, 3), (9, 4)]) R R), ((f59.mx no_bool m64 R (R : 5 + 3 = 8)).map (ren [(7, 2), (8, 3), (9, 4)]) R R), (hn24.trans hn60), ((f61.mx m64 R (R : 5 + 4 = 9)).map (ren [(7, 2), (8, 3), (9, 4)]) R R)⟩ (KM R)
  rintro _ w39 ⟨K40, af, ae, rfl, S41, f42, f43, hn44, f45⟩
  have h := hK38
  refine Jz (Jp (Ja [2, 2] R (Jc 2 R ?_)))
  have hw9 : IntKind.wrap .i64 (v19 + 1) = v19 + 1 := wr1 hj9 (Jm2 hc9) hN9
  rw [hw9]
  have hc9 := Jm2 hc9
  cases h
  exact Jz1 fun a ha => ⟨k, _, Ja3 _, ⟨K40, v19 + 1, ((q4.1 : (List Int)), (q4.2 : (List Bool))), af, ae, R, (S21.tr (S37.tr S41)).wk R, f42, f43, hn44, f45, by omega, by omega, hk28⟩, (ha.mm R)⟩
  rintro _ w12 ⟨K13, s3, ai, ah, rfl, S14, f15, f16, hn17, f18, rfl⟩
  have h := hK10
  dsimp only [aft] at h
  refine Jp (Ja [2, 2, 1] R (Jn 2 R (Ob h fun x42 hx42 h => WO.callV R R R R R R R R C86 (i_loopsIn_3_ok (κ := fun b => mp [(2, 2), (4, 3)] 0 (K13 b)) (f15.map (mp [(2, 2), (4, 3)] 0) R R) (f18.map (mp [(2, 2), (4, 3)] 0) R R) hx42) ?_)))
  rintro _ w72 ⟨k73, ak, am, rfl, e74, f75, f76⟩
  obtain ⟨K77, S78, m79⟩ := Ji e74 5 R
  refine ⟨tv, Jo (DN.end0 V84 ?_)⟩
  cases h
  exact ⟨(fun b => ren [(7, 2), (8, 4)] (K77 b)), ak, am, R, ((hE.stp (S3.tr (S14.tr S78)) R R).map (ren [(7, 2), (8, 4)]) R R), ((f75.mx (no_int _) m79 R (R : 5 + 2 = 7)).map (ren [(7, 2), (8, 4)]) R R), ((f16.stp S78 R R).map (ren [(7, 2), (8, 4)]) R R), hn17, ((f76.mx m79 R (R : 5 + 3 = 8)).map (ren [(7, 2), (8, 4)]) R R)⟩
theorem s_SigOk_ok {w : World} {κ : Col} {p0 : Sig}  {r : Bool} (h : s_SigOk p0 = some r) : Ret Try.prog 73 [.agg #[vi p0.In, vi p0.Out]] w (fun v w' => ∃ (κ' : Col), v = .bool r ∧ Ent κ w κ' w') := by
 unfold s_SigOk at h
 refine Ret.enter F73 R N73 R ?_
 dsimp only [envOf]
 have hE := Ent.refl κ w
 refine Je [1, 2] R (Jf1 (κ := κ) 2 R R R R R R R fun b1 w1 K2 S3 f4 => ⟨tv, Jb 1 R (Je [2, 1, 1, 2, 2, 1, 1, 2, 2] R (Jf R (Jb2 U47 R Z2 R R) (Jl tv R R R R (Jc2 I2 R R (hvE (f4.ld 0 R R))) (Ob h fun x5 hx5 h => Jh R R R C53 (s_l1In_ok (κ := fun b => mp [] 0 (K2 b)) hx5) ?_))))⟩)
 rintro _ w5 ⟨k6, rfl, e7⟩
 obtain ⟨K8, S9, m10⟩ := Ji e7 3 R
 refine ⟨tv, Jn 1 R (Ob h fun p10 h hK12 => Ju1 [(4, 2), (5, 1), (6, 1), (7, 2)] [(8, 2)] (fun L w' => L = [(2, .bool false), (10, .bool p10)] ∧ ∃ κ', Stp [] K8 w5 κ' w') tv ?_ ?_)⟩
 revert h
 cases ht13 : x5
 refine JF fun h => Jn 1 R (Jd1 R R R R (Jd1 R R R R (Jn 1 R ?_)))
 cases h
 exact Jv1 _ tv ⟨R, _, (Jx2 _ _).wk R⟩ (KM R)
 refine JT fun h => Jf R (Jb2 U47 R Z2 R R) (Jl tv R R R R (Jc2 I2 R R (hvE ((f4.stp S9 R R).ld 1 R R))) (Ob h fun x9 hx9 h => Jh R R R C53 (s_l1In_ok (κ := fun b => mp [] 0 (K8 b)) hx9) ?_))
 rintro _ w15 ⟨k16, rfl, e17⟩
 obtain ⟨K18, S19, m20⟩ := Ji e17 5 R
 refine ⟨tv, Jn 1 R ?_⟩
 cases h
 exact Jv1 _ tv ⟨R, _, S19.wk R⟩ (KM R)
 rintro _ w22 _ ⟨rfl, K23, S24⟩
 have h := hK12
 refine Jb 1 R (Ju (Ja2 (l := [.tmp 2]) V73 (Jp2 R R) R ?_))
 cases h
 exact ⟨K23, R, (hE.stp (S3.tr (S9.tr S24)) R R)⟩
theorem s_l1Rises_ok {w : World} {κ : Col} {a0 u0} {p0 : (List Int)} {p1 : Int} (g0 : Rd (Rp.int .i64) κ w 0 a0 u0 p0) {r : Bool} (h : s_l1Rises p0 p1 = some r) : Ret Try.prog 55 [.slice a0 p0.length u0, vi p1] w (fun v w' => ∃ (κ' : Col), v = .bool r ∧ Ent κ w κ' w') := by
 unfold s_l1Rises at h
 refine Ret.enter F55 R N55 R ?_
 dsimp only [envOf]
 have hE := Ent.refl κ w
 refine Je [2] R (Jb 1 R (Jq (Je [2] R (Jb 1 R ?_))))
 have hN1 : (p0.length : Int) ≤ 9223372036854775807 := g0.len_le
 refine Ob h fun q2 hq3 hK2 => ?_
 clear h
 refine Jx1 (fun L w' => ∃ κ', L = [] ∧ Stp [] κ w κ' w' ∧ q2 = Sum.inr ()) ?_ ?_
 refine Jv (Jy1 (fun k L w' => ∃ κ' v5, L = [(0, .slice a0 p0.length u0), (1, vi p1), (5, vi v5)] ∧ Stp [] κ w κ' w' ∧ 0 ≤ v5 ∧ Int.toNat ((p0.length : Int) - v5) = k ∧ cntM (s_l1Rises_b0 p0 p1) k v5 () = some q2) ⟨_, _, ⟨κ, 0, R, (Jx2 _ _).wk R, (by decide), (by simp), hq3⟩, (KM R)⟩ ?_)
 rintro k _ w7 ⟨K8, v5, rfl, S9, hj1, hJ1, h⟩
 rcases k with _ | k
 have hk10 := h; obtain ⟨o1, h⟩ := ex_eq (Sum.inr (Sum.inl ()) : Bool ⊕ ((Unit) ⊕ (Unit)))
 have hc1 : decide (v5 < (p0.length : Int)) = false := Jo2 (by omega)
 refine Jq (Je [2, 2, 2, 2] R (Jn 2 R (Jf R (Je2 U24 R R) (Jb 1 R (Jw2 R hc1 (Jc1 (Jt (Jt ?_))))))))
 cases h
 have h := hk10
 refine Jb1 ?_
 cases h
 exact Jw1 _ ⟨K8, R, S9.wk R, R⟩ KN
 obtain ⟨o1, h, hk10⟩ := BI h; unfold s_l1Rises_b0 at h
 have hc1 : decide (v5 < (p0.length : Int)) = true := Jn2 (by omega)
 refine Jq (Je [2, 2, 2, 2] R (Jn 2 R (Jf R (Je2 U24 R R) (Jb 1 R (Jv2 R hc1 (Js (Jp (Jq (Jv (Jq (Js1 (κ := K8) [0] none [(0, 2), (1, 2), (2, 2), (4, 2), (5, 2), (3, 0), (6, 1), (7, 2), (8, 2), (9, 2), (10, 2), (11, 2), (12, 2), (13, 2), (14, 2), (16, 2), (17, 2), (18, 2), (19, 2), (15, 0), (20, 0), (21, 2), (22, 2), (23, 2)] [] (by kernel_rfl) (by kernel_rfl) fun w12 S11 => Jn 2 R (Ob h fun x14 hx14 h => Jf R (Jf2 g0 hx14 U24 Z2 R R R R) (Jn 2 R ?_)))))))))))))
 have f13 := g0.stp (S9.tr S11) R R
 refine Jg R (Jc2 I2 R R (hvC (f13.gInt hx14) R)) (Ob h fun x18 hx18 h => Jh R R R C53 (s_l1In_ok (κ := fun b => mp [] 0 (K8 b)) hx18) ?_)
 rintro _ w14 ⟨k15, rfl, e16⟩
 obtain ⟨K17, S18, m19⟩ := Ji e16 2 R
 refine ⟨(S18.cl R), Jn 2 R (Ob h fun p35 h hK21 => Ju1 [(9, 2), (10, 2), (11, 2), (12, 2), (13, 2), (14, 2), (16, 2), (17, 2), (18, 2), (19, 2), (15, 0), (20, 0), (21, 2), (22, 2), (23, 2)] [] (fun L w' => L = [(0, .slice a0 p0.length u0), (1, vi p1), (5, vi v5), (35, .bool p35)] ∧ ∃ κ', Stp [] K17 w14 κ' w') (S18.cl R) ?_ ?_)⟩
 revert h
 cases ht22 : (!x18)
 refine JF fun h => Jn 3 R (Ob h fun p34 h hK23 => Ju1 [(12, 2), (13, 2), (14, 2), (16, 2), (17, 2), (18, 2), (19, 2), (15, 0), (20, 0), (21, 2), (22, 2)] [(23, 2)] (fun L w' => L = [(0, .slice a0 p0.length u0), (1, vi p1), (5, vi v5), (20, .bool false), (21, vi v5), (22, .bool (decide (0 < v5))), (23, .bool (decide (0 < v5))), (34, .bool p34)] ∧ ∃ κ', Stp [] K17 w14 κ' w') (S18.cl R) ?_ ?_)
 revert h
 cases ht24 : decide (0 < v5)
 refine JF fun h => Jn 7 R (Je1 R R R R (Je1 R R R R (Jn 2 R ?_)))
 cases h
 exact Jv1 _ (S18.cl R) ⟨R, _, (Jx2 _ _).wk R⟩ (KM R)
 refine JT fun h => Jn 2 R (Ob h fun x26 hx26 h => Jf R (Jf2 f13 hx26 U24 Z2 R R R R) (Jn 3 R (Ob h fun x31 hx31 h => Jf R (Jf2 f13 hx31 U24 Z2 R R R R) (Jg R (Jc2 I2 R R (hvC (f13.gInt hx26) R)) (Jg R (Jc2 I2 R R (hvC (f13.gInt hx31) R)) (Jn 2 R ?_))))))
 cases h
 exact Jv1 _ (S18.cl R) ⟨R, _, (Jx2 _ _).wk R⟩ (KM R)
 rintro _ w25 _ ⟨rfl, K26, S27⟩
 have h := hK23
 refine Jn 1 R ?_
 cases h
 exact Jv1 _ ((S18.tr S27).cl R) ⟨R, _, S27.wk R⟩ (KM R)
 refine JT fun h => Jn 10 R (Je1 R R R R (Je1 R R R R (Jn 3 R ?_)))
 cases h
 exact Jv1 _ (S18.cl R) ⟨R, _, (Jx2 _ _).wk R⟩ (KM R)
 rintro _ w28 _ ⟨rfl, K29, S30⟩
 have h := hK21
 refine Jt1 (Jd ?_)
 revert h
 cases ht31 : p35
 refine JF fun h => Jy R (Js (Jz (Jp (Ja [2, 2, 2] R (Jc 3 R ?_)))))
 have hw1 : IntKind.wrap .i64 (v5 + 1) = v5 + 1 := wr1 hj1 (Jm2 hc1) hN1
 rw [hw1]
 have hc1 := Jm2 hc1
 cases h
 exact Jz1 fun a ha => ⟨k, _, Ja3 _, ⟨K29, v5 + 1, R, (S9.tr (S11.tr (S18.tr S30))).wk R, by omega, by omega, hk10⟩, (ha.mm R)⟩
 refine JT fun h => Jx R (Je [2] R (Jb 1 R (Ju (Ja1 (Jw (Jw ?_))))))
 cases h
 obtain rfl := Option.some.inj hk10
 have h := hK2
 dsimp only [aft] at h
 refine Ja1 (Jq2 (Jw (Ja2 (l := [.tmp 4]) V55 (Jp2 R R) R ?_)))
 cases h
 exact ⟨K29, R, (hE.stp (S9.tr (S11.tr (S18.tr S30))) R R)⟩
 rintro _ w4 ⟨K5, rfl, S6, rfl⟩
 have h := hK2
 dsimp only [aft] at h
 refine Jp (Je [2] R (Jb 1 R (Ju (Ja2 (l := [.tmp 4]) V55 (Jp2 R R) R ?_))))
 cases h
 exact ⟨K5, R, (hE.stp S6 R R)⟩
theorem s_l25Next_ok {w : World} {κ : Col} {ad aa ab ac} {p0 : Clause} {p1 : Int} {p2 : Int} (g0_1 : Rd (Rp.int .i64) κ w 0 ad aa p0.A) (g0_2 : Rd (Rp.int .i64) κ w 0 ab ac p0.B) {r : Int} (h : s_l25Next p0 p1 p2 = some r) : Ret Try.prog 52 [.agg #[vi p0.Kind, .slice ad p0.A.length aa, .slice ab p0.B.length ac], vi p1, vi p2] w (fun v w' => ∃ (κ' : Col), v = vi r ∧ Ent κ w κ' w') := by
 unfold s_l25Next at h
 refine Ret.enter F52 R N52 R ?_
 dsimp only [envOf]
 have hE := Ent.refl κ w
 refine Je [1, 2] R (Jf1 (κ := κ) 2 R R R R R R R fun b3 w1 K2 S3 f4 => ⟨tv, Jb 1 R (Je [2, 1, 2, 1, 1, 2] R (Jf R (Jb2 U61 R Z24 R R) (Jl tv R R R R (Jc2 I24 R R (hvE (f4.ld 1 R R))) (Jn 1 R (Ob h fun x12 hx12 h => Jh R R R C77 (s_l1Has_ok (κ := fun b => mp [] 0 (K2 b)) (Jl2 (g0_1.stp S3 R R) (mp [] 0) R R) hx12) ?_)))))⟩)
 rintro _ w6 ⟨k7, rfl, e8⟩
 obtain ⟨K9, S10, m11⟩ := Ji e8 3 R
 refine ⟨tv, Ob h fun x13 hx13 h => Jh R R R C76 (s_l1Flag_ok (κ := fun b => mp [] 0 (K9 b)) hx13) ?_⟩
 rintro _ w13 ⟨k14, rfl, e15⟩
 obtain ⟨K16, S17, m18⟩ := Ji e15 5 R
 refine ⟨tv, Jb 1 R (Je [2, 1, 2, 1, 1, 2] R (Jf R (Jb2 U61 R Z24 R R) ?_))⟩
 have f20 := f4.stp (S10.tr S17) R R
 refine Jl tv R R R R (Jc2 I24 R R (hvE (f20.ld 2 R R))) (Jn 1 R (Ob h fun x17 hx17 h => Jh R R R C77 (s_l1Has_ok (κ := fun b => mp [] 0 (K16 b)) (Jl2 (g0_2.stp (S3.tr (S10.tr S17)) R R) (mp [] 0) R R) hx17) ?_))
 rintro _ w22 ⟨k23, rfl, e24⟩
 obtain ⟨K25, S26, m27⟩ := Ji e24 7 R
 refine ⟨tv, Ob h fun x18 hx18 h => Jh R R R C76 (s_l1Flag_ok (κ := fun b => mp [] 0 (K25 b)) hx18) ?_⟩
 rintro _ w29 ⟨k30, rfl, e31⟩
 obtain ⟨K32, S33, m34⟩ := Ji e31 9 R
 refine ⟨tv, Jb 1 R (Jq (Je [2, 1] R (Jf R (Jb2 U61 R Z2 R R) (Jl tv R R R R (Jc2 I2 R R (hvE ((f20.stp (S26.tr S33) R R).ld 0 R R))) (Jd (Jv (Je [2, 2] R (Jb 2 R ?_))))))))⟩
 revert h
 cases ht37 : (p0.Kind == 1)
 refine JF fun h => Jy R (Je [2, 2] R (Jb 2 R ?_))
 revert h
 cases ht46 : (p0.Kind == 2)
 refine JF fun h => Jy R (Je [2, 2] R (Jb 2 R ?_))
 revert h
 cases ht60 : (p0.Kind == 3)
 refine JF fun h => Jy R (Je [2, 2] R (Jb 2 R ?_))
 revert h
 cases ht71 : (p0.Kind == 4)
 refine JF fun h => Jy R (Je [2, 2] R (Jb 2 R ?_))
 revert h
 cases ht73 : (p0.Kind == 5)
 refine JF fun h => Jy R (Je [2, 2] R (Jb 2 R ?_))
 revert h
 cases ht75 : (p0.Kind == 6)
 refine JF fun h => Jy R (Js (Jz (Jp (Je [2, 2, 2, 2, 2] R (Jb 5 R (Ju (Ja2 (l := [.tmp 6]) V52 (Jp2 R R) R ?_)))))))
 cases h
 exact ⟨K32, R, (hE.stp (S3.tr (S10.tr (S17.tr (S26.tr S33)))) R R)⟩
 refine JT fun h => Jx R (Je [2, 2, 1, 2] R (Jn 2 R (Ob h fun x58 hx58 h => Jh R R R C78 (s_l1Max_ok (κ := fun b => mp [] 0 (K32 b)) hx58) ?_)))
 rintro _ w76 ⟨k77, rfl, e78⟩
 obtain ⟨K79, S80, m81⟩ := Ji e78 11 R
 refine ⟨tv, Jb 1 R (Ju (Ja1 (Jw (Ja2 (l := [.tmp 6]) V52 (Jp2 R R) R ?_))))⟩
 cases h
 exact ⟨K79, R, (hE.stp (S3.tr (S10.tr (S17.tr (S26.tr (S33.tr S80))))) R R)⟩
 refine JT fun h => Jx R (Je [2, 2, 2] R (Jb 3 R (Ju (Ja1 (Jw (Ja2 (l := [.tmp 6]) V52 (Jp2 R R) R ?_))))))
 cases h
 exact ⟨K32, R, (hE.stp (S3.tr (S10.tr (S17.tr (S26.tr S33)))) R R)⟩
 refine JT fun h => Jx R (Je [2, 2] R (Jb 2 R (Ju (Ja1 (Jw (Ja2 (l := [.tmp 6]) V52 (Jp2 R R) R ?_))))))
 cases h
 exact ⟨K32, R, (hE.stp (S3.tr (S10.tr (S17.tr (S26.tr S33)))) R R)⟩
 refine JT fun h => Jx R (Jq (Je [2, 2] R (Jb 2 R ?_)))
 revert h
 cases ht61 : (x18 == 1)
 refine JF fun h => Jy R (Js (Jp (Je [2, 2, 1, 2] R (Jn 2 R (Ob h fun x46 hx46 h => Jh R R R C78 (s_l1Max_ok (κ := fun b => mp [] 0 (K32 b)) hx46) ?_)))))
 rintro _ w63 ⟨k64, rfl, e65⟩
 obtain ⟨K66, S67, m68⟩ := Ji e65 11 R
 refine ⟨tv, Jb 1 R (Ju (Ja1 (Jw (Ja2 (l := [.tmp 6]) V52 (Jp2 R R) R ?_))))⟩
 cases h
 exact ⟨K66, R, (hE.stp (S3.tr (S10.tr (S17.tr (S26.tr (S33.tr S67))))) R R)⟩
 refine JT fun h => Jx R (Je [2] R (Jb 1 R (Ju (Jw (Ja1 (Jw (Ja2 (l := [.tmp 6]) V52 (Jp2 R R) R ?_)))))))
 cases h
 exact ⟨K32, R, (hE.stp (S3.tr (S10.tr (S17.tr (S26.tr S33)))) R R)⟩
 refine JT fun h => Jx R (Jq (Je [2, 2, 2, 2, 2, 2, 2, 2, 2, 2] R (Jn 3 R (Ob h fun p38 h hK47 => Ju1 [(3, 2), (4, 2), (5, 2), (6, 2), (7, 2), (8, 2), (9, 2)] [] (fun L w' => L = [(7, vi x13), (38, .bool p38)] ∧ ∃ κ', Stp [] K32 w29 κ' w') tv ?_ ?_))))
 revert h
 cases ht48 : (p1 == 2)
 refine JF fun h => Jn 3 R (Ob h fun p37 h hK49 => Ju1 [(6, 2), (7, 2), (8, 2)] [(9, 2)] (fun L w' => L = [(7, vi x13), (31, .bool false), (37, .bool p37)] ∧ ∃ κ', Stp [] K32 w29 κ' w') tv ?_ ?_)
 revert h
 cases ht50 : (p1 == 1)
 refine JF fun h => Jn 3 R ?_
 cases h
 exact Jv1 _ tv ⟨R, _, (Jx2 _ _).wk R⟩ (KM R)
 refine JT fun h => Jn 3 R ?_
 cases h
 exact Jv1 _ tv ⟨R, _, (Jx2 _ _).wk R⟩ (KM R)
 rintro _ w51 _ ⟨rfl, K52, S53⟩
 have h := hK49
 refine Jn 1 R ?_
 cases h
 exact Jv1 _ tv ⟨R, _, S53.wk R⟩ (KM R)
 refine JT fun h => Jn 7 R ?_
 cases h
 exact Jv1 _ tv ⟨R, _, (Jx2 _ _).wk R⟩ (KM R)
 rintro _ w54 _ ⟨rfl, K55, S56⟩
 have h := hK47
 refine Jd ?_
 revert h
 cases ht57 : p38
 refine JF fun h => Jy R (Js (Jp (Je [2, 2] R (Jb 2 R (Ju (Ja1 (Jw (Ja2 (l := [.tmp 6]) V52 (Jp2 R R) R ?_))))))))
 cases h
 exact ⟨K55, R, (hE.stp (S3.tr (S10.tr (S17.tr (S26.tr (S33.tr S56))))) R R)⟩
 refine JT fun h => Jx R (Je [2] R (Jb 1 R (Ju (Jw (Ja1 (Jw (Ja2 (l := [.tmp 6]) V52 (Jp2 R R) R ?_)))))))
 cases h
 exact ⟨K55, R, (hE.stp (S3.tr (S10.tr (S17.tr (S26.tr (S33.tr S56))))) R R)⟩
 refine JT fun h => Jx R (Je [2, 2, 2, 1, 2] R (Jn 3 R (Ob h fun x26 hx26 h => Jh R R R C78 (s_l1Max_ok (κ := fun b => mp [] 0 (K32 b)) hx26) ?_)))
 rintro _ w38 ⟨k39, rfl, e40⟩
 obtain ⟨K41, S42, m43⟩ := Ji e40 11 R
 refine ⟨tv, Jb 1 R (Ju (Ja1 (Jw (Ja2 (l := [.tmp 6]) V52 (Jp2 R R) R ?_))))⟩
 cases h
 exact ⟨K41, R, (hE.stp (S3.tr (S10.tr (S17.tr (S26.tr (S33.tr S42))))) R R)⟩
theorem i_arePairs_ok {w : World} {κ : Col} {a0 u0} {p0 : (List Pair)} {p1 : Int} (g0 : Rd Pair.rp κ w 0 a0 u0 p0) {r : Bool} (h : i_arePairs p0 p1 = some r) : Ret Try.prog 32 [.slice a0 p0.length u0, vi p1] w (fun v w' => ∃ (κ' : Col), v = .bool r ∧ Ent κ w κ' w') := by
 unfold i_arePairs at h
 refine Ret.enter F32 R N32 R ?_
 dsimp only [envOf]
 have hE := Ent.refl κ w
 refine Je [2] R (Jb 1 R (Jq (Je [2, 2, 2] R (Jn 1 R (Jf R (Je2 U29 R R) (Jb 1 R ?_))))))
 have hN1 : (p0.length : Int) ≤ 9223372036854775807 := g0.len_le
 refine Ob h fun q2 hq3 hK2 => ?_
 clear h
 refine Jx1 (fun L w' => ∃ κ', L = [(0, .slice a0 p0.length u0)] ∧ Stp [2] κ w κ' w' ∧ q2 = Sum.inr ()) ?_ ?_
 refine Jv (Jy1 (fun k L w' => ∃ κ' v9, L = [(0, .slice a0 p0.length u0), (1, vi p1), (7, .slice a0 p0.length u0), (8, vi (p0.length : Int)), (9, vi v9)] ∧ Stp [2] κ w κ' w' ∧ 0 ≤ v9 ∧ Int.toNat ((p0.length : Int) - v9) = k ∧ cntM (i_arePairs_b0 p0 p1) k v9 () = some q2) ⟨_, _, ⟨κ, 0, R, (Jx2 _ _).wk R, (by decide), (by simp), hq3⟩, (KM R)⟩ ?_)
 rintro k _ w7 ⟨K8, v9, rfl, S9, hj1, hJ1, h⟩
 rcases k with _ | k
 have hk10 := h; obtain ⟨o1, h⟩ := ex_eq (Sum.inr (Sum.inl ()) : Bool ⊕ ((Unit) ⊕ (Unit)))
 have hc1 : decide (v9 < (p0.length : Int)) = false := Jo2 (by omega)
 refine Je [2] R (Jb 1 R (Jq (Jw2 R hc1 (Jc1 (Jt (Jt ?_))))))
 cases h
 have h := hk10
 refine Jb1 ?_
 cases h
 exact Jw1 _ ⟨K8, R, S9.wk R, R⟩ (KM R)
 obtain ⟨o1, h, hk10⟩ := BI h; unfold i_arePairs_b0 at h
 have hc1 : decide (v9 < (p0.length : Int)) = true := Jn2 (by omega)
 refine Je [2] R (Jb 1 R (Jq (Jv2 R hc1 (Js (Jp (Jq (Jv (Je [2, 1, 1, 1] R (Ob h fun x11 hx11 h => Jf R (Jf2 g0 hx11 U29 Z42 R R R R) ?_)))))))))
 obtain ⟨cse12, hre12, hle12⟩ := ((g0.stp S9 R R)).gSt hx11
 obtain ⟨ae12_0, ue12_0, ae12_1, ue12_1, rfl, fe12_0, fe12_1⟩ := Pair.un hre12
 refine Jl tv R R R R (Jd2 (cs := [.slice ae12_0 x11.Ask.length ue12_0, .slice ae12_1 x11.Give.length ue12_1]) I42 Z42 R R R (haE hle12)) (Jg1 (κ := K8) 2 R R R R R X42 R fun b6 w13 K14 S15 f16 => ⟨tv, Jj1 (κ := K14) 2 (vc := [.slice ae12_0 x11.Ask.length ue12_0, .slice ae12_1 x11.Give.length ue12_1]) R R R R R R R Z42 R R f16 R fun w17 S18 f19 => ⟨tv, Jd (Je [2, 1, 2, 1, 2, 2, 2, 1, 2, 1, 2, 2] R (Jf R (Jb2 U42 R Z24 R R) (Jl tv R R R R (Jc2 I24 R R (hvE (f19.ld 0 R R))) (Jn 1 R (Ob h fun x16 hx16 h => Jh R R R C33 (i_isSet_ok (κ := fun b => mp [] 0 (K14 b)) (Jl2 (fe12_0.stp (S15.tr S18) R R) (mp [] 0) R R) hx16) ?_)))))⟩⟩)
 rintro _ w21 ⟨k22, rfl, e23⟩
 obtain ⟨K24, S25, m26⟩ := Ji e23 3 R
 refine ⟨tv, Jn 2 R (Ob h fun p24 h hK28 => Ju1 [(6, 2), (7, 1), (8, 2), (9, 1), (10, 2), (11, 2)] [] (fun L w' => L = [(0, .slice a0 p0.length u0), (1, vi p1), (7, .slice a0 p0.length u0), (8, vi (p0.length : Int)), (9, vi v9), (24, .bool p24)] ∧ ∃ κ', Stp [] K24 w21 κ' w') tv ?_ ?_)⟩
 revert h
 cases ht29 : (!x16)
 refine JF fun h => Jf R (Jb2 U42 R Z24 R R) (Jl tv R R R R (Jc2 I24 R R (hvE ((f19.stp S25 R R).ld 1 R R))) (Jn 1 R (Ob h fun x22 hx22 h => Jh R R R C33 (i_isSet_ok (κ := fun b => mp [] 0 (K24 b)) (Jl2 (fe12_1.stp (S15.tr (S18.tr S25)) R R) (mp [] 0) R R) hx22) ?_)))
 rintro _ w32 ⟨k33, rfl, e34⟩
 obtain ⟨K35, S36, m37⟩ := Ji e34 5 R
 refine ⟨tv, Jn 2 R ?_⟩
 cases h
 exact Jv1 _ tv ⟨R, _, S36.wk R⟩ (KM R)
 refine JT fun h => Jn 1 R (Jd1 R R R R (Jn 1 R (Jd1 R R R R (Jn 2 R ?_))))
 cases h
 exact Jv1 _ tv ⟨R, _, (Jx2 _ _).wk R⟩ (KM R)
 rintro _ w39 _ ⟨rfl, K40, S41⟩
 have h := hK28
 refine Jd ?_
 revert h
 cases ht42 : p24
 refine JF fun h => Jy R (Js (Jz (Jp (Ja [2, 2] R (Jc 2 R ?_)))))
 have hw1 : IntKind.wrap .i64 (v9 + 1) = v9 + 1 := wr1 hj1 (Jm2 hc1) hN1
 rw [hw1]
 have hc1 := Jm2 hc1
 cases h
 exact Jz1 fun a ha => ⟨k, _, Ja3 _, ⟨K40, v9 + 1, R, (S9.tr (S15.tr (S18.tr (S25.tr S41)))).wk R, by omega, by omega, hk10⟩, (ha.mm R)⟩
 refine JT fun h => Jx R (Je [2] R (Jb 1 R (Ju (Ja1 (Jw (Jw ?_))))))
 cases h
 obtain rfl := Option.some.inj hk10
 have h := hK2
 dsimp only [aft] at h
 refine Ja1 (Jq2 (Jw (Ja2 (l := [.tmp 4]) V32 (Jp2 R R) R ?_)))
 cases h
 exact ⟨K40, R, (hE.stp (S9.tr (S15.tr (S18.tr (S25.tr S41)))) R R)⟩
 rintro _ w4 ⟨K5, rfl, S6, rfl⟩
 have h := hK2
 dsimp only [aft] at h
 refine Jp (Je [2, 2, 2, 2] R (Jn 1 R (Jf R (Je2 U29 R R) (Jb 2 R (Ju (Ja2 (l := [.tmp 4]) V32 (Jp2 R R) R ?_))))))
 cases h
 exact ⟨K5, R, (hE.stp S6 R R)⟩
end Go.Proofs.Ytcmamhmpoinmnaa
