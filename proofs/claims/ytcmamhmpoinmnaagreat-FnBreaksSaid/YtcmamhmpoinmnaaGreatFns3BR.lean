/- The walks, part 3. By program. -/
import Derived.Test.YtcmamhmpoinmnaaGreatFns0BR
import Derived.Test.YtcmamhmpoinmnaaGreatFns1BR
set_option linter.unusedVariables false
set_option linter.unusedSimpArgs false
namespace Go.Proofs.YtcmamhmpoinmnaaGreat
open Go Go.Wk Go.Proofs
set_option maxRecDepth 100000
set_option maxHeartbeats 1000000
theorem l_w9Machine_ok {w : World} {κ : Col} {aa ab} {p0 : dice} {p1 : Sig} {p2 : Int} {b0} (g0_0 : Rd (Rp.int .u8) κ w 0 aa ab p0.b) (gb0 : Bc κ w 2 b0 116 [.slice aa p0.b.length ab, vi p0.i, .int .u64 p0.h]) {r : Machine × Int × Int} (h : l_w9Machine p0 p1 p2 = some r) : Ret Tryz.prog 35 [.pointer (some ⟨b0, 0, none⟩), .agg #[vi p1.In, vi p1.Out], vi p2] w (fun v w' => ∃ (κ' : Col) (ra0 : Option Addr) (ru0 : Nat) (ra1 : Option Addr) (ru1 : Nat), v = .agg #[.slice ra0 r.1.Next.length ru0, .slice ra1 r.1.Out.length ru1] ∧ Ent κ w κ' w' ∧ Oc (Ep.own E6 2) 40 κ' w' 3 ra0 ru0 r.1.Next ∧ Oc (Ep.own E6 2) 40 κ' w' 4 ra1 ru1 r.1.Out ∧ Bc κ' w' 2 b0 116 [.slice aa p0.b.length ab, vi r.2.1, .int .u64 r.2.2]) := by
 unfold l_w9Machine at h
 refine Ret.enter F35 R N35 R ?_
 dsimp only [envOf]
 have hE := Ent.refl κ w
 refine Je [1, 1] R (Jf1 (κ := κ) 3 R R R R R R R fun b4 w1 K2 S3 f4 => ⟨tv, Jg1 (κ := K2) 4 R R R R R X33 R fun b6 w5 K6 S7 f8 => ⟨tv, Jd (Je [2, 2, 1, 2, 2] R (Jn 2 R (Ob h fun x17 hx17 h => ?_)))⟩⟩)
 have f9 := g0_0.stp (S3.tr S7) R R
 refine Jh R R R C82 (l_dice_below_ok (κ := fun b => mp [(2, 2)] 0 (K6 b)) (p0 := p0) (Jl2 f9 (mp [(2, 2)] 0) R R) ((gb0.stp (S3.tr S7) R R).map (mp [(2, 2)] 0) R R) hx17) ?_
 rintro _ w11 ⟨k12, rfl, e13, f14⟩
 obtain ⟨K15, S16, m17⟩ := Ji e13 5 R
 refine ⟨tv, Jb 2 R (Je [2, 1, 1] R (Jf R (rn_build (parts := []) (cells := [.slice none 0 0, .slice none 0 0]) R R (by kernel_rfl)) (Jg1 (κ := K15) 8 R R R R R X33 R fun b8 w20 K21 S22 f23 => ⟨tv, Jj1 (κ := K21) 8 (vc := [.slice none 0 0, .slice none 0 0]) R R R R R R R Z33 R R f23 R fun w24 S25 f26 => ⟨tv, Jd (Je [2] R (Jb 1 R (Je [2] R (Jb 1 R (Jq (Je [2, 1, 2] R (Jf R (Jb2 U31 R Z2 R R) ?_)))))))⟩⟩)))⟩
 have f27 := f4.stp (S7.tr (S16.tr (S22.tr S25))) R R
 refine Jl tv R R R R (Jc2 I2 R R (hvE (f27.ld 0 R R))) (Jb 1 R (Ob h fun q1 h hK28 => Jx1 (fun L w' => ∃ κ', L = [(0, .pointer (some ⟨b0, 0, none⟩)), (4, .pointer (some ⟨b4, 0, none⟩)), (6, .pointer (some ⟨b6, 0, none⟩)), (7, vi (IntKind.i64.wrap (1 + x17.1))), (8, .pointer (some ⟨b8, 0, none⟩)), (9, vi q1), (10, vi 2)] ∧ Stp [] K21 w24 κ' w') ?_ ?_))
 revert h
 cases ht32 : (p1.In == 2)
 refine JF fun h => Jy R (Js ?_)
 cases h
 exact Jw1 _ ⟨K21, R, (Jx2 _ _).wk R⟩ (KM R)
 refine JT fun h => Jx R (Ja [2] R (Jc 1 R ?_))
 cases h
 exact Jw1 _ ⟨K21, R, (Jx2 _ _).wk R⟩ (KM R)
 rintro _ w29 ⟨K30, rfl, S31⟩
 have h := hK28
 refine Jp (Jq (Je [2, 1, 2] R (Jf R (Jb2 U31 R Z2 R R) (Jl tv R R R R (Jc2 I2 R R (hvE ((f27.stp S31 R R).ld 1 R R))) (Jb 1 R (Ob h fun q2 h hK34 => Jx1 (fun L w' => ∃ κ', L = [(0, .pointer (some ⟨b0, 0, none⟩)), (6, .pointer (some ⟨b6, 0, none⟩)), (7, vi (IntKind.i64.wrap (1 + x17.1))), (8, .pointer (some ⟨b8, 0, none⟩)), (9, vi q1), (10, vi q2)] ∧ Stp [] K30 w29 κ' w') ?_ ?_))))))
 revert h
 cases ht38 : (p1.Out == 2)
 refine JF fun h => Jy R (Js ?_)
 cases h
 exact Jw1 _ ⟨K30, R, (Jx2 _ _).wk R⟩ (KM R)
 refine JT fun h => Jx R (Ja [2] R (Jc 1 R ?_))
 cases h
 exact Jw1 _ ⟨K30, R, (Jx2 _ _).wk R⟩ (KM R)
 rintro _ w35 ⟨K36, rfl, S37⟩
 have h := hK34
 refine Jp (Jq (Je [2] R (Jb 1 R (Ob h fun _ hr39 h => ?_))))
 have hN39 := rng_ok hr39
 refine Ob h fun q4 hq41 hK40 => ?_
 clear h
 refine Jx1 (fun L w' => ∃ κ', ∃ s5 : Int × Int × (List (List Int)) × (List (List Int)), ∃ ac ad af ae, L = [(0, .pointer (some ⟨b0, 0, none⟩)), (6, .pointer (some ⟨b6, 0, none⟩)), (8, .pointer (some ⟨b8, 0, none⟩))] ∧ Stp [7, 8, 9, 10, 11, 12, 13, 14, 15, 19] K36 w35 κ' w' ∧ Oc (Ep.own E6 2) 40 κ' w' 9 ac ad s5.2.2.1 ∧ Oc (Ep.own E6 2) 40 κ' w' 10 af ae s5.2.2.2 ∧ Bc κ' w' 7 b0 116 [.slice aa p0.b.length ab, vi s5.1, .int .u64 s5.2.1] ∧ Bc κ' w' 8 b8 33 [.slice ac s5.2.2.1.length ad, .slice af s5.2.2.2.length ae] ∧ q4 = Sum.inr s5) ?_ ?_
 refine Jv (Jy1 (fun k L w' => ∃ κ' v11, ∃ s3 : Int × Int × (List (List Int)) × (List (List Int)), ∃ ap ar al ai, L = [(0, .pointer (some ⟨b0, 0, none⟩)), (6, .pointer (some ⟨b6, 0, none⟩)), (7, vi (IntKind.i64.wrap (1 + x17.1))), (8, .pointer (some ⟨b8, 0, none⟩)), (9, vi q1), (10, vi q2), (11, vi v11)] ∧ Stp [7, 8, 9, 10, 11, 12, 13, 14, 15, 19] K36 w35 κ' w' ∧ Oc (Ep.own E6 2) 40 κ' w' 9 ap ar s3.2.2.1 ∧ Oc (Ep.own E6 2) 40 κ' w' 10 al ai s3.2.2.2 ∧ Bc κ' w' 7 b0 116 [.slice aa p0.b.length ab, vi s3.1, .int .u64 s3.2.1] ∧ Bc κ' w' 8 b8 33 [.slice ap s3.2.2.1.length ar, .slice al s3.2.2.2.length ai] ∧ 0 ≤ v11 ∧ Int.toNat ((IntKind.i64.wrap (1 + x17.1)) - v11) = k ∧ cntM (l_w9Machine_b0 p0 x17 q1 q2) k v11 s3 = some q4) ⟨_, _, ⟨K36, 0, ((x17.2.1 : Int), (x17.2.2 : Int), (([] : List (List Int)) : (List (List Int))), (([] : List (List Int)) : (List (List Int)))), none, 0, none, 0, R, (Jx2 _ _).wk R, Ow.nil, Ow.nil, ((f14.mx m17 R (R : 5 + 2 = 7)).stp (S22.tr (S25.tr (S31.tr S37))) R R), (f26.stp (S31.tr S37) R R), (by decide), (by simp), hq41⟩, (KM R)⟩ ?_)
 rintro k _ w49 ⟨K50, v11, s3, ap, ar, al, ai, rfl, S51, f52, f53, f54, f55, hj39, hJ39, h⟩
 rcases k with _ | k
 have hk58 := h; obtain ⟨o39, h⟩ := ex_eq (Sum.inr (Sum.inl s3) : (Machine × Int × Int) ⊕ ((Int × Int × (List (List Int)) × (List (List Int))) ⊕ (Int × Int × (List (List Int)) × (List (List Int)))))
 have hc39 : decide (v11 < (IntKind.i64.wrap (1 + x17.1))) = false := Jo2 (by omega)
 refine Jq (Je [2, 2, 2] R (Jb 3 R (Jw2 R hc39 (Jc1 (Jt (Jt ?_))))))
 cases h
 have h := hk58
 refine Jb1 ?_
 cases h
 exact Jw1 _ ⟨K50, ((s3.1 : Int), (s3.2.1 : Int), (s3.2.2.1 : (List (List Int))), (s3.2.2.2 : (List (List Int)))), ap, ar, al, ai, R, S51.wk R, f52, f53, f54, f55, R⟩ (KM R)
 obtain ⟨o39, h, hk58⟩ := BI h; unfold l_w9Machine_b0 at h
 have hc39 : decide (v11 < (IntKind.i64.wrap (1 + x17.1))) = true := Jn2 (by omega)
 refine Jq (Je [2, 2, 2] R (Jb 3 R (Jv2 R hc39 (Js (Jp (Jq (Jv (Je [1, 2] R (Jo1 (κ := K50) (E := E6) 11 R R R R R Y40 Tryzinfo2 R fun aB aC w59 K60 S61 f62 => ⟨tv, Jb 1 R (Je [1, 2] R (Jo1 (κ := K60) (E := E6) 12 R R R R R Y40 Tryzinfo2 R fun aG aD w63 K64 S65 f66 => ⟨tv, Jb 1 R (Jq (Je [2] R (Jb 1 R (Ob h fun _ hr67 h => ?_))))⟩))⟩)))))))))
 have hN67 := rng_ok hr67
 refine Ob h fun q7 hq69 hK68 => ?_
 clear h
 refine Jx1 (fun L w' => ∃ κ', ∃ s8 : (List Int) × (List Int) × Int × Int, ∃ ak aj ah am, L = [(0, .pointer (some ⟨b0, 0, none⟩)), (6, .pointer (some ⟨b6, 0, none⟩)), (7, vi (IntKind.i64.wrap (1 + x17.1))), (8, .pointer (some ⟨b8, 0, none⟩)), (9, vi q1), (10, vi q2), (11, vi v11), (12, .slice ak s8.1.length aj), (13, .slice ah s8.2.1.length am)] ∧ Stp [7, 11, 12, 15, 19] K64 w63 κ' w' ∧ Oc E6 2 κ' w' 11 ak aj s8.1 ∧ Oc E6 2 κ' w' 12 ah am s8.2.1 ∧ Bc κ' w' 7 b0 116 [.slice aa p0.b.length ab, vi s8.2.2.1, .int .u64 s8.2.2.2] ∧ q7 = Sum.inr s8) ?_ ?_
 refine Jv (Jy1 (fun k L w' => ∃ κ' v14, ∃ s6 : (List Int) × (List Int) × Int × Int, ∃ an ao au av, L = [(0, .pointer (some ⟨b0, 0, none⟩)), (6, .pointer (some ⟨b6, 0, none⟩)), (7, vi (IntKind.i64.wrap (1 + x17.1))), (8, .pointer (some ⟨b8, 0, none⟩)), (9, vi q1), (10, vi q2), (11, vi v11), (12, .slice an s6.1.length ao), (13, .slice au s6.2.1.length av), (14, vi v14)] ∧ Stp [7, 11, 12, 15, 19] K64 w63 κ' w' ∧ Oc E6 2 κ' w' 11 an ao s6.1 ∧ Oc E6 2 κ' w' 12 au av s6.2.1 ∧ Bc κ' w' 7 b0 116 [.slice aa p0.b.length ab, vi s6.2.2.1, .int .u64 s6.2.2.2] ∧ 0 ≤ v14 ∧ Int.toNat (q1 - v14) = k ∧ cntM (l_w9Machine_b2 p0 x17 q2) k v14 s6 = some q7) ⟨_, _, ⟨K64, 0, ((([] : List Int) : (List Int)), (([] : List Int) : (List Int)), (s3.1 : Int), (s3.2.1 : Int)), aB, aC, aG, aD, R, (Jx2 _ _).wk R, (f62.stp S65 R R), f66, (f54.stp (S61.tr S65) R R), (by decide), (by simp), hq69⟩, (KM R)⟩ ?_)
 rintro k _ w76 ⟨K77, v14, s6, an, ao, au, av, rfl, S78, f79, f80, f81, hj67, hJ67, h⟩
 rcases k with _ | k
 have hk84 := h; obtain ⟨o67, h⟩ := ex_eq (Sum.inr (Sum.inl s6) : (Machine × Int × Int) ⊕ (((List Int) × (List Int) × Int × Int) ⊕ ((List Int) × (List Int) × Int × Int)))
 have hc67 : decide (v14 < q1) = false := Jo2 (by omega)
 refine Jq (Je [2, 2, 2] R (Jb 3 R (Jw2 R hc67 (Jc1 (Jt (Jt ?_))))))
 cases h
 have h := hk84
 refine Jb1 ?_
 cases h
 exact Jw1 _ ⟨K77, ((s6.1 : (List Int)), (s6.2.1 : (List Int)), (s6.2.2.1 : Int), (s6.2.2.2 : Int)), an, ao, au, av, R, S78.wk R, f79, f80, f81, R⟩ (KM R)
 obtain ⟨o67, h, hk84⟩ := BI h; unfold l_w9Machine_b2 at h
 have hc67 : decide (v14 < q1) = true := Jn2 (by omega)
 refine Jq (Je [2, 2, 2] R (Jb 3 R (Jv2 R hc67 (Js (Jp (Jq (Jv (Je [2, 2, 2, 1, 1, 1, 2] R (Jn 3 R (Ob h fun x41 hx41 h => ?_))))))))))
 have f85 := f9.stp (S16.tr (S22.tr (S25.tr (S31.tr (S37.tr (S51.tr (S61.tr (S65.tr S78)))))))) R R
 refine Jh R R R C82 (l_dice_below_ok (κ := fun b => mp [(7, 2)] 0 (K77 b)) (p0 := (⟨p0.b, s6.2.2.1, s6.2.2.2⟩ : dice)) (Jl2 f85 (mp [(7, 2)] 0) R R) (f81.map (mp [(7, 2)] 0) R R) hx41) ?_
 rintro _ w86 ⟨k87, rfl, e88, f89⟩
 obtain ⟨K90, S91, m92⟩ := Ji e88 13 R
 refine ⟨tv, Jn1 (κ := K90) (E := E6) 16 [] (parts := [(0, .tmp 41)]) (cells := [vi x41.1]) (xs := ([x41.1] : List Int)) R R R R R R Y40 Tryzinfo2 R R R R R R R R R R ⟨[vi x41.1], [], Zl K90 w86 [], Zl K90 w86 [], R, Zl.sp (l1 := []) (l2 := []) R, Zl.sr (l1 := []) (l2 := []), R, R⟩ fun aL aH w95 K96 S97 f98 => ⟨tv, Ob h fun x43 hx43 h => Jm1 (κ := K96) (E := E6) 11 [] R R R R R R R R R Y40 Tryzinfo2 R R R R (f79.stp (S91.tr S97) R R) (Sl.srcP (pu_int _) f98.rdc) sy_false hx43 R fun az aF w100 K101 S102 f103 => ⟨tv, Jb 1 R (Ja [2, 2, 2, 1, 1, 1, 2] R (Jn 3 R (Ob h fun x47 hx47 h => Jh R R R C82 (l_dice_below_ok (κ := fun b => mp [(15, 2)] 0 (K101 b)) (p0 := (⟨p0.b, x41.2.1, x41.2.2⟩ : dice)) (Jl2 (f85.stp (S91.tr (S97.tr S102)) R R) (mp [(15, 2)] 0) R R) (((f89.mx m92 R (R : 13 + 2 = 15)).stp (S97.tr S102) R R).map (mp [(15, 2)] 0) R R) hx47) ?_)))⟩⟩⟩
 rintro _ w106 ⟨k107, rfl, e108, f109⟩
 obtain ⟨K110, S111, m112⟩ := Ji e108 17 R
 refine ⟨tv, Jn1 (κ := K110) (E := E6) 20 [] (parts := [(0, .tmp 47)]) (cells := [vi x47.1]) (xs := ([x47.1] : List Int)) R R R R R R Y40 Tryzinfo2 R R R R R R R R R R ⟨[vi x47.1], [], Zl K110 w106 [], Zl K110 w106 [], R, Zl.sp (l1 := []) (l2 := []) R, Zl.sr (l1 := []) (l2 := []), R, R⟩ fun aI aO w115 K116 S117 f118 => ⟨tv, Ob h fun x49 hx49 h => Jm1 (κ := K116) (E := E6) 12 [] R R R R R R R R R Y40 Tryzinfo2 R R R R (f80.stp (S91.tr (S97.tr (S102.tr (S111.tr S117)))) R R) (Sl.srcP (pu_int _) f118.rdc) sy_false hx49 R fun aE aA w120 K121 S122 f123 => ⟨tv, Jc 1 R (Jz (Jp (Ja [2, 2, 2] R (Jc 3 R ?_))))⟩⟩⟩
 have hw67 : IntKind.wrap .i64 (v14 + 1) = v14 + 1 := wr1 hj67 (Jm2 hc67) hN67
 rw [hw67]
 have hc67 := Jm2 hc67
 cases h
 exact Jz1 fun a ha => ⟨k, _, Ja3 _, ⟨(fun b => ren [(19, 7)] (K121 b)), v14 + 1, ((x43 : (List Int)), (x49 : (List Int)), (x47.2.1 : Int), (x47.2.2 : Int)), az, aF, aE, aA, R, (Jy2 ((S78.tr (S91.tr (S97.tr (S102.tr (S111.tr (S117.tr S122)))))).wk R) [(19, 7)] R), ((f103.stp (S111.tr (S117.tr S122)) R R).map (ren [(19, 7)]) R R), (f123.map (ren [(19, 7)]) R R), (((f109.mx m112 R (R : 17 + 2 = 19)).stp (S117.tr S122) R R).map (ren [(19, 7)]) R R), by omega, by omega, hk84⟩, (ha.mm R)⟩
 rintro _ w70 ⟨K71, s8, ak, aj, ah, am, rfl, S72, f73, f74, f75, rfl⟩
 have h := hK68
 dsimp only [aft] at h
 refine Jp (Je [2, 1, 2, 1, 1, 2, 1] R (Jf R (Jb2 U33 R Z24 R R) ?_))
 have f126 := f55.stp (S61.tr (S65.tr S72)) R R
 refine Jl tv R R R R (Jc2 I24 R R (hvE (f126.ld 0 R R))) (Jn 1 R (Jn1 (κ := K71) (E := (Ep.own E6 2)) 13 [11] (parts := [(0, .tmp 52)]) (cells := [.slice ak s8.1.length aj]) (xs := ([s8.1] : List (List Int))) R R R R R R Y24 Tryzinfo40 R R R R R R R R R R ⟨[.slice ak s8.1.length aj], [], Zl K71 w70 [11], Zl K71 w70 [], R, Zl.sp (l1 := [11]) (l2 := []) R, Zl.sr (l1 := [11]) (l2 := []), ⟨_, _, R, f73⟩, R⟩ fun aJ aN w127 K128 S129 f130 => ⟨tv, Ob h fun x54 hx54 h => Jm1 (κ := K128) (E := (Ep.own E6 2)) 9 [13] R R R R R R R R R Y24 Tryzinfo40 R R R R (f52.stp (S61.tr (S65.tr (S72.tr S129))) R R) f130.src (sy_one R) hx54 R fun aw aq w132 K133 S134 f135 => ⟨tv, Jf R (Jb2 U33 R Z24 R R) (Ji1 (κ := K133) 8 (off := 0) (vc := [.slice aw x54.length aq]) (cs' := [.slice aw x54.length aq, .slice al s3.2.2.2.length ai]) R R R R R R R Z24 R R (f126.stp (S129.tr S134) R R) R R fun w137 S138 f139 => ⟨tv, Jd (Ja [2, 1, 2, 1, 1, 2, 1] R (Jf R (Jb2 U33 R Z24 R R) (Jl tv R R R R (Jc2 I24 R R (hvE (f139.ld 1 R R))) (Jn 1 R (Jn1 (κ := K133) (E := (Ep.own E6 2)) 14 [12] (parts := [(0, .tmp 58)]) (cells := [.slice ah s8.2.1.length am]) (xs := ([s8.2.1] : List (List Int))) R R R R R R Y24 Tryzinfo40 R R R R R R R R R R ⟨[.slice ah s8.2.1.length am], [], Zl K133 w137 [12], Zl K133 w137 [], R, Zl.sp (l1 := [12]) (l2 := []) R, Zl.sr (l1 := [12]) (l2 := []), ⟨_, _, R, (f74.stp (S129.tr (S134.tr S138)) R R)⟩, R⟩ fun aM aK w141 K142 S143 f144 => ⟨tv, Ob h fun x60 hx60 h => Jm1 (κ := K142) (E := (Ep.own E6 2)) 10 [14] R R R R R R R R R Y24 Tryzinfo40 R R R R (f53.stp (S61.tr (S65.tr (S72.tr (S129.tr (S134.tr (S138.tr S143)))))) R R) f144.src (sy_one R) hx60 R fun ax ay w146 K147 S148 f149 => ⟨tv, Jf R (Jb2 U33 R Z24 R R) (Ji1 (κ := K147) 8 (off := 1) (vc := [.slice ax x60.length ay]) (cs' := [.slice aw x54.length aq, .slice ax x60.length ay]) R R R R R R R Z24 R R (f139.stp (S143.tr S148) R R) R R fun w151 S152 f153 => ⟨tv, Jo (Jz (Jp (Ja [2, 2, 2] R (Jc 3 R ?_))))⟩)⟩⟩)))))⟩)⟩⟩))
 have hw39 : IntKind.wrap .i64 (v11 + 1) = v11 + 1 := wr1 hj39 (Jm2 hc39) hN39
 rw [hw39]
 have hc39 := Jm2 hc39
 cases h
 exact Jz1 fun a ha => ⟨k, _, Ja3 _, ⟨K147, v11 + 1, ((s8.2.2.1 : Int), (s8.2.2.2 : Int), (x54 : (List (List Int))), (x60 : (List (List Int)))), aw, aq, ax, ay, R, (S51.tr (S61.tr (S65.tr (S72.tr (S129.tr (S134.tr (S138.tr (S143.tr (S148.tr S152))))))))).wk R, (f135.stp (S138.tr (S143.tr (S148.tr S152))) R R), (f149.stp S152 R R), (f75.stp (S129.tr (S134.tr (S138.tr (S143.tr (S148.tr S152))))) R R), f153, by omega, by omega, hk58⟩, (ha.mm R)⟩
 rintro _ w42 ⟨K43, s5, ac, ad, af, ae, rfl, S44, f45, f46, f47, f48, rfl⟩
 have h := hK40
 dsimp only [aft] at h
 refine Jp (Je [1, 1] R (Jl tv R R R R (Jd2 (cs := [.slice ac s5.2.2.1.length ad, .slice af s5.2.2.2.length ae]) I33 Z33 R R R (haE f48.cells)) (Jj1 (κ := K43) 4 (vc := [.slice ac s5.2.2.1.length ad, .slice af s5.2.2.2.length ae]) R R R R R R R Z33 R R (f8.stp (S16.tr (S22.tr (S25.tr (S31.tr (S37.tr S44))))) R R) R fun w158 S159 f160 => ⟨tv, Jd (Ju (Ja2 (l := [.cell 6 33]) V35 (res_cellA R f160 I33 Z33 R R) R ?_))⟩)))
 cases h
 exact ⟨(fun b => ren [(9, 3), (10, 4), (7, 2)] (K43 b)), ac, ad, af, ae, R, ((hE.stp (S3.tr (S7.tr (S16.tr (S22.tr (S25.tr (S31.tr (S37.tr (S44.tr S159)))))))) R R).map (ren [(9, 3), (10, 4), (7, 2)]) R R), ((f45.stp S159 R R).map (ren [(9, 3), (10, 4), (7, 2)]) R R), ((f46.stp S159 R R).map (ren [(9, 3), (10, 4), (7, 2)]) R R), ((f47.stp S159 R R).map (ren [(9, 3), (10, 4), (7, 2)]) R R)⟩
theorem i_isClause_ok {w : World} {κ : Col} {p0 : Sig} {aa ab ad ac} {p1 : Clause} (g1_1 : Rd (Rp.int .i64) κ w 0 aa ab p1.A) (g1_2 : Rd (Rp.int .i64) κ w 0 ad ac p1.B) {r : Bool} (h : i_isClause p0 p1 = some r) : Ret Tryz.prog 129 [.agg #[vi p0.In, vi p0.Out], .agg #[vi p1.Kind, .slice aa p1.A.length ab, .slice ad p1.B.length ac]] w (fun v w' => ∃ (κ' : Col), v = .bool r ∧ Ent κ w κ' w') := by
 unfold i_isClause at h
 refine Ret.enter F129 R N129 R ?_
 dsimp only [envOf]
 have hE := Ent.refl κ w
 refine Je [1, 1, 2] R (Jf1 (κ := κ) 2 R R R R R R R fun b2 w1 K2 S3 f4 => ⟨tv, Jf1 (κ := K2) 3 R R R R R R R fun b3 w5 K6 S7 f8 => ⟨tv, Jb 1 R (Jq (Jq (Js1 (κ := K6) [2, 3] none [(0, 2), (1, 0), (2, 2), (3, 2), (4, 2), (5, 0), (6, 2), (7, 2), (8, 2), (9, 2), (10, 0), (11, 0), (12, 1), (13, 1), (14, 2), (15, 2), (16, 2), (17, 2), (18, 0), (19, 0), (20, 1), (21, 1), (22, 2), (23, 2)] [] (by kernel_rfl) (by kernel_rfl) fun w10 S9 => Jf R (Jb2 U71 R Z2 R R) ?_)))⟩⟩)
 have f11 := f8.stp S9 R R
 refine Jg R (Jc2 I2 R R (hvC (f11.ld 0 R R) R)) (Jn 2 R (Ob h fun p12 h hK12 => Ju1 [(4, 2), (5, 0), (6, 2), (7, 2)] [(8, 2), (9, 2), (10, 0), (11, 0), (12, 1), (13, 1), (14, 2), (15, 2), (16, 2), (17, 2), (18, 0), (19, 0), (20, 1), (21, 1), (22, 2), (23, 2)] (fun L w' => L = [(2, .pointer (some ⟨b2, 0, none⟩)), (3, .pointer (some ⟨b3, 0, none⟩)), (12, .bool p12)] ∧ ∃ κ', Stp [] K6 w10 κ' w') (Cl.refl _ _ _) ?_ ?_))
 revert h
 cases ht13 : decide (p1.Kind < 1)
 refine JF fun h => Jf R (Jb2 U71 R Z2 R R) (Jg R (Jc2 I2 R R (hvC (f11.ld 0 R R) R)) (Jn 2 R ?_))
 cases h
 exact Jv1 _ (Cl.refl _ _ _) ⟨R, _, (Jx2 _ _).wk R⟩ (KM R)
 refine JT fun h => Jn 1 R (Je1 R R R R (Jn 2 R ?_))
 cases h
 exact Jv1 _ (Cl.refl _ _ _) ⟨R, _, (Jx2 _ _).wk R⟩ (KM R)
 rintro _ w14 _ ⟨rfl, K15, S16⟩
 have h := hK12
 refine Jn 1 R (Ob h fun p20 h hK17 => Ju1 [(9, 2), (10, 0), (11, 0), (12, 1), (13, 1), (14, 2), (15, 2)] [(16, 2), (17, 2), (18, 0), (19, 0), (20, 1), (21, 1), (22, 2), (23, 2)] (fun L w' => L = [(2, .pointer (some ⟨b2, 0, none⟩)), (3, .pointer (some ⟨b3, 0, none⟩)), (20, .bool p20)] ∧ ∃ κ', Stp [] K15 w14 κ' w') (S16.cl R) ?_ ?_)
 revert h
 cases ht18 : p12
 refine JF fun h => Jf R (Jb2 U71 R Z40 R R) (Jg R (Jc2 I40 R R (hvC (f11.ld 1 R R) R)) (Jg R (Jd2 (cs := [vi p0.In, vi p0.Out]) I31 Z31 R R R (haC (f4.stp (S7.tr S9) R R).cells R)) (Ob h fun x17 hx17 h => Jh R R R C119 (i_lettersOf_ok (κ := fun b => mp [] 0 (K15 b)) (p0 := p0) hx17) ?_)))
 rintro _ w20 ⟨k21, rfl, e22⟩
 obtain ⟨K23, S24, m25⟩ := Ji e22 4 R
 refine ⟨((S16.tr S24).cl R), Ob h fun x18 hx18 h => Jh R R R C160 (i_isSet_ok (κ := fun b => mp [] 0 (K23 b)) (Jl2 (g1_1.stp (S3.tr (S7.tr (S9.tr (S16.tr S24)))) R R) (mp [] 0) R R) hx18) ?_⟩
 rintro _ w28 ⟨k29, rfl, e30⟩
 obtain ⟨K31, S32, m33⟩ := Ji e30 6 R
 refine ⟨((S16.tr (S24.tr S32)).cl R), Jn 2 R ?_⟩
 cases h
 exact Jv1 _ ((S16.tr (S24.tr S32)).cl R) ⟨R, _, (S24.tr S32).wk R⟩ (KM R)
 refine JT fun h => Jn 1 R (Je1 R R R R (Je1 R R R R (Jd1 R R R R (Jd1 R R R R (Jn 2 R ?_)))))
 cases h
 exact Jv1 _ (S16.cl R) ⟨R, _, (Jx2 _ _).wk R⟩ (KM R)
 rintro _ w35 _ ⟨rfl, K36, S37⟩
 have h := hK17
 refine Jn 1 R (Ob h fun p28 h hK38 => Ju1 [(17, 2), (18, 0), (19, 0), (20, 1), (21, 1), (22, 2), (23, 2)] [] (fun L w' => L = [(3, .pointer (some ⟨b3, 0, none⟩)), (28, .bool p28)] ∧ ∃ κ', Stp [] K36 w35 κ' w') ((S16.tr S37).cl R) ?_ ?_)
 revert h
 cases ht39 : p20
 refine JF fun h => Jf R (Jb2 U71 R Z40 R R) (Jg R (Jc2 I40 R R (hvC (f11.ld 2 R R) R)) (Jg R (Jd2 (cs := [vi p0.In, vi p0.Out]) I31 Z31 R R R (haC (f4.stp (S7.tr S9) R R).cells R)) (Ob h fun x25 hx25 h => Jh R R R C119 (i_lettersOf_ok (κ := fun b => mp [] 0 (K36 b)) (p0 := p0) hx25) ?_)))
 rintro _ w41 ⟨k42, rfl, e43⟩
 obtain ⟨K44, S45, m46⟩ := Ji e43 4 R
 refine ⟨((S16.tr (S37.tr S45)).cl R), Ob h fun x26 hx26 h => Jh R R R C160 (i_isSet_ok (κ := fun b => mp [] 0 (K44 b)) (Jl2 (g1_2.stp (S3.tr (S7.tr (S9.tr (S16.tr (S37.tr S45))))) R R) (mp [] 0) R R) hx26) ?_⟩
 rintro _ w49 ⟨k50, rfl, e51⟩
 obtain ⟨K52, S53, m54⟩ := Ji e51 6 R
 refine ⟨((S16.tr (S37.tr (S45.tr S53))).cl R), Jn 2 R ?_⟩
 cases h
 exact Jv1 _ ((S16.tr (S37.tr (S45.tr S53))).cl R) ⟨R, _, (S45.tr S53).wk R⟩ (KM R)
 refine JT fun h => Jn 1 R (Je1 R R R R (Je1 R R R R (Jd1 R R R R (Jd1 R R R R (Jn 2 R ?_)))))
 cases h
 exact Jv1 _ ((S16.tr S37).cl R) ⟨R, _, (Jx2 _ _).wk R⟩ (KM R)
 rintro _ w56 _ ⟨rfl, K57, S58⟩
 have h := hK38
 refine Jt1 (Jd ?_)
 revert h
 cases ht59 : p28
 refine JF fun h => Jy R (Js (Jp (Je [2, 1, 1, 2, 2, 1, 2, 2, 2, 2] R (Jf R (Jb2 U71 R Z2 R R) ?_))))
 have f61 := f11.stp (S16.tr (S37.tr S58)) R R
 refine Jl tv R R R R (Jc2 I2 R R (hvE (f61.ld 0 R R))) (Ob h fun x31 hx31 h => Jh R R R C161 (i_hasSecond_ok (κ := fun b => mp [] 0 (K57 b)) hx31) ?_)
 rintro _ w62 ⟨k63, rfl, e64⟩
 obtain ⟨K65, S66, m67⟩ := Ji e64 4 R
 refine ⟨tv, Jn 1 R (Ob h fun p37 h hK69 => Ju1 [(4, 2), (5, 1), (6, 2), (7, 2), (8, 2)] [(9, 2)] (fun L w' => L = [(37, .bool p37)] ∧ ∃ κ', Stp [] K65 w62 κ' w') tv ?_ ?_)⟩
 revert h
 cases ht70 : x31
 refine JF fun h => Jf R (Jb2 U71 R Z40 R R) (Jl tv R R R R (Jc2 I40 R R (hvE ((f61.stp S66 R R).ld 2 R R))) (Jf R (Je2 U40 R R) (Jn 2 R ?_)))
 cases h
 exact Jv1 _ tv ⟨R, _, (Jx2 _ _).wk R⟩ (KM R)
 refine JT fun h => Jn 1 R (Jd1 R R R R (Jn 3 R ?_))
 cases h
 exact Jv1 _ tv ⟨R, _, (Jx2 _ _).wk R⟩ (KM R)
 rintro _ w72 _ ⟨rfl, K73, S74⟩
 have h := hK69
 refine Jb 1 R (Ju (Ja2 (l := [.tmp 4]) V129 (Jp2 R R) R ?_))
 cases h
 exact ⟨K73, R, (hE.stp (S3.tr (S7.tr (S9.tr (S16.tr (S37.tr (S58.tr (S66.tr S74))))))) R R)⟩
 refine JT fun h => Jx R (Je [2] R (Jb 1 R (Ju (Jw (Ja2 (l := [.tmp 4]) V129 (Jp2 R R) R ?_)))))
 cases h
 exact ⟨K57, R, (hE.stp (S3.tr (S7.tr (S9.tr (S16.tr (S37.tr S58))))) R R)⟩
theorem s_l25Next_ok {w : World} {κ : Col} {ad ac ab aa} {p0 : Clause} {p1 : Int} {p2 : Int} (g0_1 : Rd (Rp.int .i64) κ w 0 ad ac p0.A) (g0_2 : Rd (Rp.int .i64) κ w 0 ab aa p0.B) {r : Int} (h : s_l25Next p0 p1 p2 = some r) : Ret Tryz.prog 142 [.agg #[vi p0.Kind, .slice ad p0.A.length ac, .slice ab p0.B.length aa], vi p1, vi p2] w (fun v w' => ∃ (κ' : Col), v = vi r ∧ Ent κ w κ' w') := by
 unfold s_l25Next at h
 refine Ret.enter F142 R N142 R ?_
 dsimp only [envOf]
 have hE := Ent.refl κ w
 refine Je [1, 2] R (Jf1 (κ := κ) 2 R R R R R R R fun b3 w1 K2 S3 f4 => ⟨tv, Jb 1 R (Je [2, 1, 2, 1, 1, 2] R (Jf R (Jb2 U71 R Z40 R R) (Jl tv R R R R (Jc2 I40 R R (hvE (f4.ld 1 R R))) (Jn 1 R (Ob h fun x12 hx12 h => Jh R R R C117 (s_l1Has_ok (κ := fun b => mp [] 0 (K2 b)) (Jl2 (g0_1.stp S3 R R) (mp [] 0) R R) hx12) ?_)))))⟩)
 rintro _ w6 ⟨k7, rfl, e8⟩
 obtain ⟨K9, S10, m11⟩ := Ji e8 3 R
 refine ⟨tv, Ob h fun x13 hx13 h => Jh R R R C167 (s_l1Flag_ok (κ := fun b => mp [] 0 (K9 b)) hx13) ?_⟩
 rintro _ w13 ⟨k14, rfl, e15⟩
 obtain ⟨K16, S17, m18⟩ := Ji e15 5 R
 refine ⟨tv, Jb 1 R (Je [2, 1, 2, 1, 1, 2] R (Jf R (Jb2 U71 R Z40 R R) ?_))⟩
 have f20 := f4.stp (S10.tr S17) R R
 refine Jl tv R R R R (Jc2 I40 R R (hvE (f20.ld 2 R R))) (Jn 1 R (Ob h fun x17 hx17 h => Jh R R R C117 (s_l1Has_ok (κ := fun b => mp [] 0 (K16 b)) (Jl2 (g0_2.stp (S3.tr (S10.tr S17)) R R) (mp [] 0) R R) hx17) ?_))
 rintro _ w22 ⟨k23, rfl, e24⟩
 obtain ⟨K25, S26, m27⟩ := Ji e24 7 R
 refine ⟨tv, Ob h fun x18 hx18 h => Jh R R R C167 (s_l1Flag_ok (κ := fun b => mp [] 0 (K25 b)) hx18) ?_⟩
 rintro _ w29 ⟨k30, rfl, e31⟩
 obtain ⟨K32, S33, m34⟩ := Ji e31 9 R
 refine ⟨tv, Jb 1 R (Jq (Je [2, 1] R (Jf R (Jb2 U71 R Z2 R R) (Jl tv R R R R (Jc2 I2 R R (hvE ((f20.stp (S26.tr S33) R R).ld 0 R R))) (Jd (Jv (Je [2, 2] R (Jb 2 R ?_))))))))⟩
 revert h
 cases ht37 : (p0.Kind == 1)
 refine JF fun h => Jy R (Je [2, 2] R (Jb 2 R ?_))
 revert h
 cases ht46 : (p0.Kind == 2)
 refine JF fun h => Jy R (Je [2, 2] R (Jb 2 R ?_))
 revert h
 cases ht60 : (p0.Kind == 3)
 refine JF fun h => Jy R (Je [2, 2] R (Jb 2 R ?_))
 revert h
 cases ht71 : (p0.Kind == 4)
 refine JF fun h => Jy R (Je [2, 2] R (Jb 2 R ?_))
 revert h
 cases ht73 : (p0.Kind == 5)
 refine JF fun h => Jy R (Je [2, 2] R (Jb 2 R ?_))
 revert h
 cases ht75 : (p0.Kind == 6)
 refine JF fun h => Jy R (Js (Jz (Jp (Je [2, 2, 2, 2, 2] R (Jb 5 R (Ju (Ja2 (l := [.tmp 6]) V142 (Jp2 R R) R ?_)))))))
 cases h
 exact ⟨K32, R, (hE.stp (S3.tr (S10.tr (S17.tr (S26.tr S33)))) R R)⟩
 refine JT fun h => Jx R (Je [2, 2, 1, 2] R (Jn 2 R (Ob h fun x58 hx58 h => Jh R R R C95 (s_l1Max_ok (κ := fun b => mp [] 0 (K32 b)) hx58) ?_)))
 rintro _ w76 ⟨k77, rfl, e78⟩
 obtain ⟨K79, S80, m81⟩ := Ji e78 11 R
 refine ⟨tv, Jb 1 R (Ju (Ja1 (Jw (Ja2 (l := [.tmp 6]) V142 (Jp2 R R) R ?_))))⟩
 cases h
 exact ⟨K79, R, (hE.stp (S3.tr (S10.tr (S17.tr (S26.tr (S33.tr S80))))) R R)⟩
 refine JT fun h => Jx R (Je [2, 2, 2] R (Jb 3 R (Ju (Ja1 (Jw (Ja2 (l := [.tmp 6]) V142 (Jp2 R R) R ?_))))))
 cases h
 exact ⟨K32, R, (hE.stp (S3.tr (S10.tr (S17.tr (S26.tr S33)))) R R)⟩
 refine JT fun h => Jx R (Je [2, 2] R (Jb 2 R (Ju (Ja1 (Jw (Ja2 (l := [.tmp 6]) V142 (Jp2 R R) R ?_))))))
 cases h
 exact ⟨K32, R, (hE.stp (S3.tr (S10.tr (S17.tr (S26.tr S33)))) R R)⟩
 refine JT fun h => Jx R (Jq (Je [2, 2] R (Jb 2 R ?_)))
 revert h
 cases ht61 : (x18 == 1)
 refine JF fun h => Jy R (Js (Jp (Je [2, 2, 1, 2] R (Jn 2 R (Ob h fun x46 hx46 h => Jh R R R C95 (s_l1Max_ok (κ := fun b => mp [] 0 (K32 b)) hx46) ?_)))))
 rintro _ w63 ⟨k64, rfl, e65⟩
 obtain ⟨K66, S67, m68⟩ := Ji e65 11 R
 refine ⟨tv, Jb 1 R (Ju (Ja1 (Jw (Ja2 (l := [.tmp 6]) V142 (Jp2 R R) R ?_))))⟩
 cases h
 exact ⟨K66, R, (hE.stp (S3.tr (S10.tr (S17.tr (S26.tr (S33.tr S67))))) R R)⟩
 refine JT fun h => Jx R (Je [2] R (Jb 1 R (Ju (Jw (Ja1 (Jw (Ja2 (l := [.tmp 6]) V142 (Jp2 R R) R ?_)))))))
 cases h
 exact ⟨K32, R, (hE.stp (S3.tr (S10.tr (S17.tr (S26.tr S33)))) R R)⟩
 refine JT fun h => Jx R (Jq (Je [2, 2, 2, 2, 2, 2, 2, 2, 2, 2] R (Jn 3 R (Ob h fun p38 h hK47 => Ju1 [(3, 2), (4, 2), (5, 2), (6, 2), (7, 2), (8, 2), (9, 2)] [] (fun L w' => L = [(7, vi x13), (38, .bool p38)] ∧ ∃ κ', Stp [] K32 w29 κ' w') tv ?_ ?_))))
 revert h
 cases ht48 : (p1 == 2)
 refine JF fun h => Jn 3 R (Ob h fun p37 h hK49 => Ju1 [(6, 2), (7, 2), (8, 2)] [(9, 2)] (fun L w' => L = [(7, vi x13), (31, .bool false), (37, .bool p37)] ∧ ∃ κ', Stp [] K32 w29 κ' w') tv ?_ ?_)
 revert h
 cases ht50 : (p1 == 1)
 refine JF fun h => Jn 3 R ?_
 cases h
 exact Jv1 _ tv ⟨R, _, (Jx2 _ _).wk R⟩ (KM R)
 refine JT fun h => Jn 3 R ?_
 cases h
 exact Jv1 _ tv ⟨R, _, (Jx2 _ _).wk R⟩ (KM R)
 rintro _ w51 _ ⟨rfl, K52, S53⟩
 have h := hK49
 refine Jn 1 R ?_
 cases h
 exact Jv1 _ tv ⟨R, _, S53.wk R⟩ (KM R)
 refine JT fun h => Jn 7 R ?_
 cases h
 exact Jv1 _ tv ⟨R, _, (Jx2 _ _).wk R⟩ (KM R)
 rintro _ w54 _ ⟨rfl, K55, S56⟩
 have h := hK47
 refine Jd ?_
 revert h
 cases ht57 : p38
 refine JF fun h => Jy R (Js (Jp (Je [2, 2] R (Jb 2 R (Ju (Ja1 (Jw (Ja2 (l := [.tmp 6]) V142 (Jp2 R R) R ?_))))))))
 cases h
 exact ⟨K55, R, (hE.stp (S3.tr (S10.tr (S17.tr (S26.tr (S33.tr S56))))) R R)⟩
 refine JT fun h => Jx R (Je [2] R (Jb 1 R (Ju (Jw (Ja1 (Jw (Ja2 (l := [.tmp 6]) V142 (Jp2 R R) R ?_)))))))
 cases h
 exact ⟨K55, R, (hE.stp (S3.tr (S10.tr (S17.tr (S26.tr (S33.tr S56))))) R R)⟩
 refine JT fun h => Jx R (Je [2, 2, 2, 1, 2] R (Jn 3 R (Ob h fun x26 hx26 h => Jh R R R C95 (s_l1Max_ok (κ := fun b => mp [] 0 (K32 b)) hx26) ?_)))
 rintro _ w38 ⟨k39, rfl, e40⟩
 obtain ⟨K41, S42, m43⟩ := Ji e40 11 R
 refine ⟨tv, Jb 1 R (Ju (Ja1 (Jw (Ja2 (l := [.tmp 6]) V142 (Jp2 R R) R ?_))))⟩
 cases h
 exact ⟨K41, R, (hE.stp (S3.tr (S10.tr (S17.tr (S26.tr (S33.tr S42))))) R R)⟩
theorem s_l23Below_ok {w : World} {κ : Col} {a0 u0} {p0 : (List Int)} {p1 : Int} (g0 : Rd (Rp.int .i64) κ w 0 a0 u0 p0) {r : Bool} (h : s_l23Below p0 p1 = some r) : Ret Tryz.prog 112 [.slice a0 p0.length u0, vi p1] w (fun v w' => ∃ (κ' : Col), v = .bool r ∧ Ent κ w κ' w') := by
 unfold s_l23Below at h
 refine Ret.enter F112 R N112 R ?_
 dsimp only [envOf]
 have hE := Ent.refl κ w
 refine Je [2] R (Jb 1 R (Jq (Je [2] R (Jb 1 R ?_))))
 have hN1 : (p0.length : Int) ≤ 9223372036854775807 := g0.len_le
 refine Ob h fun q2 hq3 hK2 => ?_
 clear h
 refine Jx1 (fun L w' => ∃ κ', L = [] ∧ Stp [] κ w κ' w' ∧ q2 = Sum.inr ()) ?_ ?_
 refine Jv (Jy1 (fun k L w' => ∃ κ' v5, L = [(0, .slice a0 p0.length u0), (1, vi p1), (5, vi v5)] ∧ Stp [] κ w κ' w' ∧ 0 ≤ v5 ∧ Int.toNat ((p0.length : Int) - v5) = k ∧ cntM (s_l23Below_b0 p0 p1) k v5 () = some q2) ⟨_, _, ⟨κ, 0, R, (Jx2 _ _).wk R, (by decide), (by simp), hq3⟩, (KM R)⟩ ?_)
 rintro k _ w7 ⟨K8, v5, rfl, S9, hj1, hJ1, h⟩
 rcases k with _ | k
 have hk10 := h; obtain ⟨o1, h⟩ := ex_eq (Sum.inr (Sum.inl ()) : Bool ⊕ ((Unit) ⊕ (Unit)))
 have hc1 : decide (v5 < (p0.length : Int)) = false := Jo2 (by omega)
 refine Jq (Je [2, 2, 2, 2] R (Jn 2 R (Jf R (Je2 U40 R R) (Jb 1 R (Jw2 R hc1 (Jc1 (Jt (Jt ?_))))))))
 cases h
 have h := hk10
 refine Jb1 ?_
 cases h
 exact Jw1 _ ⟨K8, R, S9.wk R, R⟩ KN
 obtain ⟨o1, h, hk10⟩ := BI h; unfold s_l23Below_b0 at h
 have hc1 : decide (v5 < (p0.length : Int)) = true := Jn2 (by omega)
 refine Jq (Je [2, 2, 2, 2] R (Jn 2 R (Jf R (Je2 U40 R R) (Jb 1 R (Jv2 R hc1 (Js (Jp (Jq (Jv (Je [2, 2, 2, 1, 2, 2, 1, 2] R (Jn 2 R (Ob h fun x14 hx14 h => Jf R (Jf2 g0 hx14 U40 Z2 R R R R) (Jl tv R R R R (Jc2 I2 R R (hvE ((g0.stp S9 R R).gInt hx14))) (Jn 2 R (Ob h fun x18 hx18 h => Jh R R R C77 (s_l1In_ok (κ := fun b => mp [] 0 (K8 b)) hx18) ?_)))))))))))))))
 rintro _ w12 ⟨k13, rfl, e14⟩
 obtain ⟨K15, S16, m17⟩ := Ji e14 2 R
 refine ⟨tv, Jb 1 R ?_⟩
 revert h
 cases ht19 : (!x18)
 refine JF fun h => Jy R (Js (Jz (Jp (Ja [2, 2, 2] R (Jc 3 R ?_)))))
 have hw1 : IntKind.wrap .i64 (v5 + 1) = v5 + 1 := wr1 hj1 (Jm2 hc1) hN1
 rw [hw1]
 have hc1 := Jm2 hc1
 cases h
 exact Jz1 fun a ha => ⟨k, _, Ja3 _, ⟨K15, v5 + 1, R, (S9.tr S16).wk R, by omega, by omega, hk10⟩, (ha.mm R)⟩
 refine JT fun h => Jx R (Je [2] R (Jb 1 R (Ju (Ja1 (Jw (Jw ?_))))))
 cases h
 obtain rfl := Option.some.inj hk10
 have h := hK2
 dsimp only [aft] at h
 refine Ja1 (Jq2 (Jw (Ja2 (l := [.tmp 4]) V112 (Jp2 R R) R ?_)))
 cases h
 exact ⟨K15, R, (hE.stp (S9.tr S16) R R)⟩
 rintro _ w4 ⟨K5, rfl, S6, rfl⟩
 have h := hK2
 dsimp only [aft] at h
 refine Jp (Je [2] R (Jb 1 R (Ju (Ja2 (l := [.tmp 4]) V112 (Jp2 R R) R ?_))))
 cases h
 exact ⟨K5, R, (hE.stp S6 R R)⟩
theorem s_l26Pairs_ok {w : World} {κ : Col} {a0 u0} {p0 : (List Pair)} {a1 u1} {p1 : (List (List Int))} {p2 : Int} (g0 : Rd Pair.rp κ w 0 a0 u0 p0) (g1 : Rd (Rp.sl (Rp.int .i64)) κ w 0 a1 u1 p1) {r : (List Pair)} (h : s_l26Pairs p0 p1 p2 = some r) : Ret Tryz.prog 66 [.slice a0 p0.length u0, .slice a1 p1.length u1, vi p2] w (fun v w' => ∃ (κ' : Col) (ra0 : Option Addr) (ru0 : Nat), v = .slice ra0 r.length ru0 ∧ Ent κ w κ' w' ∧ Oc Pair.ep92 92 κ' w' 2 ra0 ru0 r) := by
 unfold s_l26Pairs at h
 refine Ret.enter F66 R N66 R ?_
 dsimp only [envOf]
 have hE := Ent.refl κ w
 refine Je [2] R (Jb 1 R (Je [1, 2] R (Jo1 (κ := κ) (E := Pair.ep92) 2 R R R R R Y79 Tryzinfo92 R fun ay ax w1 K2 S3 f4 => ⟨tv, Jb 1 R (Jq (Je [2] R (Jb 1 R ?_)))⟩)))
 have hN5 : (p0.length : Int) ≤ 9223372036854775807 := g0.len_le
 refine Ob h fun q2 hq7 hK6 => ?_
 clear h
 refine Jx1 (fun L w' => ∃ κ', ∃ s3 : (List Pair), ∃ ao aq, L = [(7, .slice ao s3.length aq)] ∧ Stp [2, 3, 4, 5, 6] K2 w1 κ' w' ∧ Oc Pair.ep92 92 κ' w' 2 ao aq s3 ∧ q2 = Sum.inr s3) ?_ ?_
 refine Jv (Jy1 (fun k L w' => ∃ κ' v8, ∃ s1 : (List Pair), ∃ ab aa, L = [(0, .slice a0 p0.length u0), (1, .slice a1 p1.length u1), (2, vi p2), (7, .slice ab s1.length aa), (8, vi v8)] ∧ Stp [2, 3, 4, 5, 6] K2 w1 κ' w' ∧ Oc Pair.ep92 92 κ' w' 2 ab aa s1 ∧ 0 ≤ v8 ∧ Int.toNat ((p0.length : Int) - v8) = k ∧ cntM (s_l26Pairs_b0 p0 p1 p2) k v8 s1 = some q2) ⟨_, _, ⟨K2, 0, (([] : List Pair) : (List Pair)), ay, ax, R, (Jx2 _ _).wk R, f4, (by decide), (by simp), hq7⟩, (KM R)⟩ ?_)
 rintro k _ w12 ⟨K13, v8, s1, ab, aa, rfl, S14, f15, hj5, hJ5, h⟩
 rcases k with _ | k
 have hk16 := h; obtain ⟨o5, h⟩ := ex_eq (Sum.inr (Sum.inl s1) : (List Pair) ⊕ (((List Pair)) ⊕ ((List Pair))))
 have hc5 : decide (v8 < (p0.length : Int)) = false := Jo2 (by omega)
 refine Jq (Je [2, 2, 2, 2] R (Jn 2 R (Jf R (Je2 U79 R R) (Jb 1 R (Jw2 R hc5 (Jc1 (Jt (Jt ?_))))))))
 cases h
 have h := hk16
 refine Jb1 ?_
 cases h
 exact Jw1 _ ⟨K13, (s1 : (List Pair)), ab, aa, R, S14.wk R, f15, R⟩ (KM R)
 obtain ⟨o5, h, hk16⟩ := BI h; unfold s_l26Pairs_b0 at h
 have hc5 : decide (v8 < (p0.length : Int)) = true := Jn2 (by omega)
 refine Jq (Je [2, 2, 2, 2] R (Jn 2 R (Jf R (Je2 U79 R R) (Jb 1 R (Jv2 R hc5 (Js (Jp (Jq (Jv (Je [2, 1, 1] R (Jf R (rn_build (parts := []) (cells := [.slice none 0 0, .slice none 0 0]) R R (by kernel_rfl)) (Jg1 (κ := K13) 3 R R R R R X92 R fun b9 w17 K18 S19 f20 => ⟨tv, Jj1 (κ := K18) 3 (vc := [.slice none 0 0, .slice none 0 0]) R R R R R R R Z92 R R f20 R fun w21 S22 f23 => ⟨tv, Jd (Jq (Je [2] R (Jb 1 R ?_)))⟩⟩))))))))))))
 have hN24 : (p1.length : Int) ≤ 9223372036854775807 := g1.len_le
 refine Ob h fun q5 hq26 hK25 => ?_
 clear h
 refine Jx1 (fun L w' => ∃ κ', ∃ s6 : (List Int) × (List Int), ∃ ac ae ah ai, L = [(0, .slice a0 p0.length u0), (1, .slice a1 p1.length u1), (2, vi p2), (7, .slice ab s1.length aa), (8, vi v8), (9, .pointer (some ⟨b9, 0, none⟩))] ∧ Stp [3, 4, 5] K18 w21 κ' w' ∧ Oc E6 2 κ' w' 4 ac ae s6.1 ∧ Oc E6 2 κ' w' 5 ah ai s6.2 ∧ Bc κ' w' 3 b9 92 [.slice ac s6.1.length ae, .slice ah s6.2.length ai] ∧ q5 = Sum.inr s6) ?_ ?_
 refine Jv (Jy1 (fun k L w' => ∃ κ' v10, ∃ s4 : (List Int) × (List Int), ∃ al am ad af, L = [(0, .slice a0 p0.length u0), (1, .slice a1 p1.length u1), (2, vi p2), (7, .slice ab s1.length aa), (8, vi v8), (9, .pointer (some ⟨b9, 0, none⟩)), (10, vi v10)] ∧ Stp [3, 4, 5] K18 w21 κ' w' ∧ Oc E6 2 κ' w' 4 al am s4.1 ∧ Oc E6 2 κ' w' 5 ad af s4.2 ∧ Bc κ' w' 3 b9 92 [.slice al s4.1.length am, .slice ad s4.2.length af] ∧ 0 ≤ v10 ∧ Int.toNat ((p1.length : Int) - v10) = k ∧ cntM (s_l26Pairs_b2 p0 p1 p2 v8) k v10 s4 = some q5) ⟨_, _, ⟨K18, 0, ((([] : List Int) : (List Int)), (([] : List Int) : (List Int))), none, 0, none, 0, R, (Jx2 _ _).wk R, Ow.nil, Ow.nil, f23, (by decide), (by simp), hq26⟩, (KM R)⟩ ?_)
 rintro k _ w33 ⟨K34, v10, s4, al, am, ad, af, rfl, S35, f36, f37, f38, hj24, hJ24, h⟩
 rcases k with _ | k
 have hk39 := h; obtain ⟨o24, h⟩ := ex_eq (Sum.inr (Sum.inl s4) : (List Pair) ⊕ (((List Int) × (List Int)) ⊕ ((List Int) × (List Int))))
 have hc24 : decide (v10 < (p1.length : Int)) = false := Jo2 (by omega)
 refine Jq (Je [2, 2, 2, 2] R (Jn 2 R (Jf R (Je2 U24 R R) (Jb 1 R (Jw2 R hc24 (Jc1 (Jt (Jt ?_))))))))
 cases h
 have h := hk39
 refine Jb1 ?_
 cases h
 exact Jw1 _ ⟨K34, ((s4.1 : (List Int)), (s4.2 : (List Int))), al, am, ad, af, R, S35.wk R, f36, f37, f38, R⟩ (KM R)
 obtain ⟨o24, h, hk39⟩ := BI h; unfold s_l26Pairs_b2 at h
 have hc24 : decide (v10 < (p1.length : Int)) = true := Jn2 (by omega)
 refine Jq (Je [2, 2, 2, 2] R (Jn 2 R (Jf R (Je2 U24 R R) (Jb 1 R (Jv2 R hc24 (Js (Jp (Jq (Jv (Jq (Jq (Js1 (κ := K34) [0] none [(0, 2), (1, 2), (2, 2), (3, 2), (5, 2), (6, 2), (7, 2), (9, 2), (4, 0), (8, 0), (10, 2), (11, 0), (12, 1)] [] (by kernel_rfl) (by kernel_rfl) fun w41 S40 => Jn 2 R (Ob h fun x27 hx27 h => Jf R (Jf2 g0 hx27 U79 Z92 R R R R) (Jf R (Jb2 U92 R Z40 R R) (Jn 2 R (Ob h fun x32 hx32 h => Jf R (Jf2 g1 hx32 U24 Z40 R R R R) (Jn 1 R ?_)))))))))))))))))
 have f42 := g0.stp (S3.tr (S14.tr (S19.tr (S22.tr (S35.tr S40))))) R R
 obtain ⟨cse43, hre43, hle43⟩ := (f42).gSt hx27
 obtain ⟨ae43_0, ue43_0, ae43_1, ue43_1, rfl, fe43_0, fe43_1⟩ := Pair.un hre43
 refine Jg R (Jc2 I40 R R (hvC (fun w' hw' => hle43 w' hw' 0 _ R) R)) ?_
 have f44 := g1.stp (S3.tr (S14.tr (S19.tr (S22.tr (S35.tr S40))))) R R
 obtain ⟨ax32, ux32, f45, hl46⟩ := f44.gSl hx32
 refine Jg R (Jc2 I40 R R (hvC hl46 R)) (Ob h fun x35 hx35 h => Jf R (Jf2 f45 hx35 U40 Z2 R R R R) (Jg R (Jc2 I2 R R (hvC (f45.gInt hx35) R)) (Ob h fun x37 hx37 h => Jh R R R C117 (s_l1Has_ok (κ := fun b => mp [] 0 (K34 b)) (Jl2 fe43_0 (mp [] 0) R R) hx37) ?_)))
 rintro _ w47 ⟨k48, rfl, e49⟩
 obtain ⟨K50, S51, m52⟩ := Ji e49 6 R
 refine ⟨(S51.cl R), Jt1 (Jd (Ob h fun q7 h hK54 => Jx1 (fun L w' => ∃ κ' aj ak, L = [(0, .slice a0 p0.length u0), (1, .slice a1 p1.length u1), (2, vi p2), (7, .slice ab s1.length aa), (8, vi v8), (9, .pointer (some ⟨b9, 0, none⟩)), (10, vi v10)] ∧ Stp [3, 4] K50 w47 κ' w' ∧ Oc E6 2 κ' w' 4 aj ak q7 ∧ Bc κ' w' 3 b9 92 [.slice aj q7.length ak, .slice ad s4.2.length af]) ?_ ?_))⟩
 revert h
 cases ht60 : x37
 refine JF fun h => Jy R (Js ?_)
 cases h
 exact Jw1 _ ⟨K50, al, am, R, (Jx2 _ _).wk R, (f36.stp (S40.tr S51) R R), (f38.stp (S40.tr S51) R R)⟩ (KM R)
 refine JT fun h => Jx R (Ja [2, 1, 2, 1, 1, 2, 1] R (Jf R (Jb2 U92 R Z40 R R) ?_))
 have f61 := f38.stp (S40.tr S51) R R
 refine Jl tv R R R R (Jc2 I40 R R (hvE (f61.ld 0 R R))) (Jn 1 R (Jn1 (κ := K50) (E := E6) 8 [] (parts := [(0, .tmp 40)]) (cells := [vi v10]) (xs := ([v10] : List Int)) R R R R R R Y40 Tryzinfo2 R R R R R R R R R R ⟨[vi v10], [], Zl K50 w47 [], Zl K50 w47 [], R, Zl.sp (l1 := []) (l2 := []) R, Zl.sr (l1 := []) (l2 := []), R, R⟩ fun aB aE w62 K63 S64 f65 => ⟨tv, Ob h fun x42 hx42 h => Jm1 (κ := K63) (E := E6) 4 [] R R R R R R R R R Y40 Tryzinfo2 R R R R (f36.stp (S40.tr (S51.tr S64)) R R) (Sl.srcP (pu_int _) f65.rdc) sy_false hx42 R fun au ar w67 K68 S69 f70 => ⟨tv, Jf R (Jb2 U92 R Z40 R R) (Ji1 (κ := K68) 3 (off := 0) (vc := [.slice au x42.length ar]) (cs' := [.slice au x42.length ar, .slice ad s4.2.length af]) R R R R R R R Z40 R R (f61.stp (S64.tr S69) R R) R R fun w72 S73 f74 => ⟨tv, Jo ?_⟩)⟩⟩))
 cases h
 exact Jw1 _ ⟨K68, au, ar, R, (S64.tr (S69.tr S73)).wk R, (f70.stp S73 R R), f74⟩ (KM R)
 rintro _ w55 ⟨K56, aj, ak, rfl, S57, f58, f59⟩
 have h := hK54
 refine Jp (Jq (Js1 (κ := K56) [0] none [(0, 2), (1, 2), (2, 2), (3, 2), (5, 2), (6, 2), (7, 2), (9, 2), (4, 0), (8, 0), (10, 2), (11, 0), (12, 1)] [] (by kernel_rfl) (by kernel_rfl) fun w79 S78 => Jn 2 R (Ob h fun x46 hx46 h => Jf R (Jf2 f42 hx46 U79 Z92 R R R R) (Jf R (Jb2 U92 R Z40 R R) (Jn 2 R (Ob h fun x51 hx51 h => Jf R (Jf2 f44 hx51 U24 Z40 R R R R) (Jn 1 R ?_)))))))
 obtain ⟨cse81, hre81, hle81⟩ := ((f42.stp (S51.tr (S57.tr S78)) R R)).gSt hx46
 obtain ⟨ae81_0, ue81_0, ae81_1, ue81_1, rfl, fe81_0, fe81_1⟩ := Pair.un hre81
 refine Jg R (Jc2 I40 R R (hvC (fun w' hw' => hle81 w' hw' 1 _ R) R)) ?_
 obtain ⟨ax51, ux51, f83, hl84⟩ := (f44.stp (S51.tr (S57.tr S78)) R R).gSl hx51
 refine Jg R (Jc2 I40 R R (hvC hl84 R)) (Ob h fun x54 hx54 h => Jf R (Jf2 f83 hx54 U40 Z2 R R R R) (Jg R (Jc2 I2 R R (hvC (f83.gInt hx54) R)) (Ob h fun x56 hx56 h => Jh R R R C117 (s_l1Has_ok (κ := fun b => mp [] 0 (K56 b)) (Jl2 fe81_1 (mp [] 0) R R) hx56) ?_)))
 rintro _ w85 ⟨k86, rfl, e87⟩
 obtain ⟨K88, S89, m90⟩ := Ji e87 8 R
 refine ⟨(S89.cl R), Jt1 (Jd (Ob h fun q8 h hK92 => Jx1 (fun L w' => ∃ κ' ap an, L = [(0, .slice a0 p0.length u0), (1, .slice a1 p1.length u1), (2, vi p2), (7, .slice ab s1.length aa), (8, vi v8), (9, .pointer (some ⟨b9, 0, none⟩)), (10, vi v10)] ∧ Stp [3, 5] K88 w85 κ' w' ∧ Oc E6 2 κ' w' 5 ap an q8 ∧ Bc κ' w' 3 b9 92 [.slice aj q7.length ak, .slice ap q8.length an]) ?_ ?_))⟩
 revert h
 cases ht98 : x56
 refine JF fun h => Jy R (Js ?_)
 cases h
 exact Jw1 _ ⟨K88, ad, af, R, (Jx2 _ _).wk R, (f37.stp (S40.tr (S51.tr (S57.tr (S78.tr S89)))) R R), (f59.stp (S78.tr S89) R R)⟩ (KM R)
 refine JT fun h => Jx R (Ja [2, 1, 2, 1, 1, 2, 1] R (Jf R (Jb2 U92 R Z40 R R) ?_))
 have f99 := f59.stp (S78.tr S89) R R
 refine Jl tv R R R R (Jc2 I40 R R (hvE (f99.ld 1 R R))) (Jn 1 R (Jn1 (κ := K88) (E := E6) 10 [] (parts := [(0, .tmp 59)]) (cells := [vi v10]) (xs := ([v10] : List Int)) R R R R R R Y40 Tryzinfo2 R R R R R R R R R R ⟨[vi v10], [], Zl K88 w85 [], Zl K88 w85 [], R, Zl.sp (l1 := []) (l2 := []) R, Zl.sr (l1 := []) (l2 := []), R, R⟩ fun aC aF w100 K101 S102 f103 => ⟨tv, Ob h fun x61 hx61 h => Jm1 (κ := K101) (E := E6) 5 [] R R R R R R R R R Y40 Tryzinfo2 R R R R (f37.stp (S40.tr (S51.tr (S57.tr (S78.tr (S89.tr S102))))) R R) (Sl.srcP (pu_int _) f103.rdc) sy_false hx61 R fun av aw w105 K106 S107 f108 => ⟨tv, Jf R (Jb2 U92 R Z40 R R) (Ji1 (κ := K106) 3 (off := 1) (vc := [.slice av x61.length aw]) (cs' := [.slice aj q7.length ak, .slice av x61.length aw]) R R R R R R R Z40 R R (f99.stp (S102.tr S107) R R) R R fun w110 S111 f112 => ⟨tv, Jo ?_⟩)⟩⟩))
 cases h
 exact Jw1 _ ⟨K106, av, aw, R, (S102.tr (S107.tr S111)).wk R, (f108.stp S111 R R), f112⟩ (KM R)
 rintro _ w93 ⟨K94, ap, an, rfl, S95, f96, f97⟩
 have h := hK92
 refine Jz (Jp (Ja [2, 2, 2] R (Jc 3 R ?_)))
 have hw24 : IntKind.wrap .i64 (v10 + 1) = v10 + 1 := wr1 hj24 (Jm2 hc24) hN24
 rw [hw24]
 have hc24 := Jm2 hc24
 cases h
 exact Jz1 fun a ha => ⟨k, _, Ja3 _, ⟨K94, v10 + 1, ((q7 : (List Int)), (q8 : (List Int))), aj, ak, ap, an, R, (S35.tr (S40.tr (S51.tr (S57.tr (S78.tr (S89.tr S95)))))).wk R, (f58.stp (S78.tr (S89.tr S95)) R R), f96, f97, by omega, by omega, hk39⟩, (ha.mm R)⟩
 rintro _ w27 ⟨K28, s6, ac, ae, ah, ai, rfl, S29, f30, f31, f32, rfl⟩
 have h := hK25
 dsimp only [aft] at h
 refine Jp (Ja [2, 1, 1, 1, 2] R (Jn 1 R (Jl tv R R R R (Jd2 (cs := [.slice ac s6.1.length ae, .slice ah s6.2.length ai]) I92 Z92 R R R (haE f32.cells)) (Jn1 (κ := K28) (E := Pair.ep92) 6 [4, 5] (parts := [(0, .tmp 64)]) (cells := [.slice ac s6.1.length ae, .slice ah s6.2.length ai]) (xs := ([(⟨s6.1, s6.2⟩ : Pair)] : List Pair)) R R R R R R Y79 Tryzinfo92 R R R R R R R R R R ⟨[.slice ac s6.1.length ae, .slice ah s6.2.length ai], [], Zl K28 w27 [4, 5], Zl K28 w27 [], R, Zl.sp (l1 := [4, 5]) (l2 := []) R, Zl.sr (l1 := [4, 5]) (l2 := []), ⟨[.slice ac s6.1.length ae], [.slice ah s6.2.length ai], Zl K28 w27 [4], Zl K28 w27 [5], R, Zl.sp (l1 := [4]) (l2 := [5]) R, Zl.sr (l1 := [4]) (l2 := [5]), ⟨_, _, R, f30⟩, ⟨_, _, R, f31⟩⟩, R⟩ fun aD aG w117 K118 S119 f120 => ⟨tv, Ob h fun x66 hx66 h => Jm1 (κ := K118) (E := Pair.ep92) 2 [6] R R R R R R R R R Y79 Tryzinfo92 R R R R (f15.stp (S19.tr (S22.tr (S29.tr S119))) R R) f120.src (sy_one R) hx66 R fun aA az w122 K123 S124 f125 => ⟨tv, Jc 1 R (Jz (Jp (Ja [2, 2, 2] R (Jc 3 R ?_))))⟩⟩))))
 have hw5 : IntKind.wrap .i64 (v8 + 1) = v8 + 1 := wr1 hj5 (Jm2 hc5) hN5
 rw [hw5]
 have hc5 := Jm2 hc5
 cases h
 exact Jz1 fun a ha => ⟨k, _, Ja3 _, ⟨K123, v8 + 1, (x66 : (List Pair)), aA, az, R, (S14.tr (S19.tr (S22.tr (S29.tr (S119.tr S124))))).wk R, f125, by omega, by omega, hk16⟩, (ha.mm R)⟩
 rintro _ w8 ⟨K9, s3, ao, aq, rfl, S10, f11, rfl⟩
 have h := hK6
 dsimp only [aft] at h
 refine Jp (Je [2, 2] R (Jb 2 R (Ju (Ja2 (l := [.tmp 6]) V66 (Jp2 R R) R ?_))))
 cases h
 exact ⟨K9, ao, aq, R, (hE.stp (S3.tr S10) R R), f11⟩
theorem s_l29Ins_ok {w : World} {κ : Col} {p0 : Sig}  {r : Int} (h : s_l29Ins p0 = some r) : Ret Tryz.prog 134 [.agg #[vi p0.In, vi p0.Out]] w (fun v w' => ∃ (κ' : Col), v = vi r ∧ Ent κ w κ' w') := by
 unfold s_l29Ins at h
 refine Ret.enter F134 R N134 R ?_
 dsimp only [envOf]
 have hE := Ent.refl κ w
 refine Je [1, 2] R (Jf1 (κ := κ) 2 R R R R R R R fun b1 w1 K2 S3 f4 => ⟨tv, Jb 1 R (Je [2, 1, 1, 2] R (Jf R (Jb2 U31 R Z2 R R) (Jl tv R R R R (Jc2 I2 R R (hvE (f4.ld 0 R R))) (Ob h fun x5 hx5 h => Jh R R R C93 (s_l23Power_ok (κ := fun b => mp [] 0 (K2 b)) hx5) ?_))))⟩)
 rintro _ w5 ⟨k6, rfl, e7⟩
 obtain ⟨K8, S9, m10⟩ := Ji e7 3 R
 refine ⟨tv, Jb 1 R (Ju (Ja2 (l := [.tmp 2]) V134 (Jp2 R R) R ?_))⟩
 cases h
 exact ⟨K8, R, (hE.stp (S3.tr S9) R R)⟩
theorem s_l30Part_ok {w : World} {κ : Col} {aj ao al am ak an ah ai} {p0 : l30Graph} {a1 u1} {p1 : (List Int)} (g0_0 : Rd (Rp.int .i64) κ w 0 aj ao p0.of) (g0_1 : Rd (Rp.int .i64) κ w 0 al am p0.by0) (g0_2 : Rd (Rp.sl (Rp.int .i64)) κ w 0 ak an p0.next) (g0_3 : Rd (Rp.sl (Rp.int .i64)) κ w 0 ah ai p0.letters) (g1 : Rd (Rp.int .i64) κ w 0 a1 u1 p1) {r : (List Int)} (h : s_l30Part p0 p1 = some r) : Ret Tryz.prog 137 [.agg #[.slice aj p0.of.length ao, .slice al p0.by0.length am, .slice ak p0.next.length an, .slice ah p0.letters.length ai], .slice a1 p1.length u1] w (fun v w' => ∃ (κ' : Col) (ra0 : Option Addr) (ru0 : Nat), v = .slice ra0 r.length ru0 ∧ Ent κ w κ' w' ∧ Oc E6 2 κ' w' 2 ra0 ru0 r) := by
 unfold s_l30Part at h
 refine Ret.enter F137 R N137 R ?_
 dsimp only [envOf]
 have hE := Ent.refl κ w
 refine Je [1, 2] R (Jf1 (κ := κ) 2 R R R R R R R fun b2 w1 K2 S3 f4 => ⟨tv, Jb 1 R (Je [1, 2] R (Jo1 (κ := K2) (E := E6) 3 R R R R R Y40 Tryzinfo2 R fun a7 u7 w5 K6 S7 f8 => ⟨tv, Jb 1 R (Jq (Je [2] R (Jb 1 R ?_)))⟩))⟩)
 have hN9 : (p0.by0.length : Int) ≤ 9223372036854775807 := g0_1.len_le
 refine Ob h fun q2 hq11 hK10 => ?_
 clear h
 refine Jx1 (fun L w' => ∃ κ', ∃ s3 : (List Int), ∃ ac af, L = [(5, .slice ac s3.length af)] ∧ Stp [3] K6 w5 κ' w' ∧ Oc E6 2 κ' w' 3 ac af s3 ∧ q2 = Sum.inr s3) ?_ ?_
 refine Jv (Jy1 (fun k L w' => ∃ κ' v6, ∃ s1 : (List Int), ∃ ab aa, L = [(1, .slice a1 p1.length u1), (2, .pointer (some ⟨b2, 0, none⟩)), (5, .slice ab s1.length aa), (6, vi v6)] ∧ Stp [3] K6 w5 κ' w' ∧ Oc E6 2 κ' w' 3 ab aa s1 ∧ 0 ≤ v6 ∧ Int.toNat ((p0.by0.length : Int) - v6) = k ∧ cntM (s_l30Part_b0 p0 p1) k v6 s1 = some q2) ⟨_, _, ⟨K6, 0, (([] : List Int) : (List Int)), a7, u7, R, (Jx2 _ _).wk R, f8, (by decide), (by simp), hq11⟩, (KM R)⟩ ?_)
 rintro k _ w16 ⟨K17, v6, s1, ab, aa, rfl, S18, f19, hj9, hJ9, h⟩
 rcases k with _ | k
 have hk20 := h; obtain ⟨o9, h⟩ := ex_eq (Sum.inr (Sum.inl s1) : (List Int) ⊕ (((List Int)) ⊕ ((List Int))))
 have hc9 : decide (v6 < (p0.by0.length : Int)) = false := Jo2 (by omega)
 refine Jq (Je [2, 2, 1, 2, 2] R (Jn 1 R (Jf R (Jb2 U158 R Z40 R R) (Jl tv R R R R (Jc2 I40 R R (hvE ((f4.stp (S7.tr S18) R R).ld 1 R R))) (Jf R (Je2 U40 R R) (Jb 1 R (Jw2 R hc9 (Jc1 (Jt (Jt ?_))))))))))
 cases h
 have h := hk20
 refine Jb1 ?_
 cases h
 exact Jw1 _ ⟨K17, (s1 : (List Int)), ab, aa, R, S18.wk R, f19, R⟩ (KM R)
 obtain ⟨o9, h, hk20⟩ := BI h; unfold s_l30Part_b0 at h
 have hc9 : decide (v6 < (p0.by0.length : Int)) = true := Jn2 (by omega)
 refine Jq (Je [2, 2, 1, 2, 2] R (Jn 1 R (Jf R (Jb2 U158 R Z40 R R) ?_)))
 have f22 := f4.stp (S7.tr S18) R R
 refine Jl tv R R R R (Jc2 I40 R R (hvE (f22.ld 1 R R))) (Jf R (Je2 U40 R R) (Jb 1 R (Jv2 R hc9 (Js (Jp (Jq (Jv (Je [2, 2, 1, 2, 2, 1, 1] R (Jn 1 R (Jf R (Jb2 U158 R Z40 R R) (Jl tv R R R R (Jc2 I40 R R (hvE (f22.ld 1 R R))) (Jn 1 R (Ob h fun x19 hx19 h => Jf R (Jf2 g0_1 hx19 U40 Z2 R R R R) (Jl tv R R R R (Jc2 I2 R R (hvE ((g0_1.stp (S3.tr (S7.tr S18)) R R).gInt hx19))) (Ob h fun x21 hx21 h => Jh R R R C117 (s_l1Has_ok (κ := fun b => mp [] 0 (K17 b)) (Jl2 (g1.stp (S3.tr (S7.tr S18)) R R) (mp [] 0) R R) hx21) ?_)))))))))))))))
 rintro _ w25 ⟨k26, rfl, e27⟩
 obtain ⟨K28, S29, m30⟩ := Ji e27 4 R
 refine ⟨tv, Jd (Ob h fun q4 h hK32 => Jx1 (fun L w' => ∃ κ' ae ad, L = [(1, .slice a1 p1.length u1), (2, .pointer (some ⟨b2, 0, none⟩)), (5, .slice ae q4.length ad), (6, vi v6)] ∧ Stp [3] K28 w25 κ' w' ∧ Oc E6 2 κ' w' 3 ae ad q4) ?_ ?_)⟩
 revert h
 cases ht37 : x21
 refine JF fun h => Jy R (Js ?_)
 cases h
 exact Jw1 _ ⟨K28, ab, aa, R, (Jx2 _ _).wk R, (f19.stp S29 R R)⟩ (KM R)
 refine JT fun h => Jx R (Ja [2, 2, 1, 1, 2] R (Jn 2 R (Jn1 (κ := K28) (E := E6) 6 [] (parts := [(0, .tmp 23)]) (cells := [vi v6]) (xs := ([v6] : List Int)) R R R R R R Y40 Tryzinfo2 R R R R R R R R R R ⟨[vi v6], [], Zl K28 w25 [], Zl K28 w25 [], R, Zl.sp (l1 := []) (l2 := []) R, Zl.sr (l1 := []) (l2 := []), R, R⟩ fun ar au w38 K39 S40 f41 => ⟨tv, Ob h fun x25 hx25 h => Jm1 (κ := K39) (E := E6) 3 [] R R R R R R R R R Y40 Tryzinfo2 R R R R (f19.stp (S29.tr S40) R R) (Sl.srcP (pu_int _) f41.rdc) sy_false hx25 R fun ap aq w43 K44 S45 f46 => ⟨tv, Jc 1 R ?_⟩⟩)))
 cases h
 exact Jw1 _ ⟨K44, ap, aq, R, (S40.tr S45).wk R, f46⟩ (KM R)
 rintro _ w33 ⟨K34, ae, ad, rfl, S35, f36⟩
 have h := hK32
 refine Jz (Jp (Ja [2, 2, 2] R (Jc 3 R ?_)))
 have hw9 : IntKind.wrap .i64 (v6 + 1) = v6 + 1 := wr1 hj9 (Jm2 hc9) hN9
 rw [hw9]
 have hc9 := Jm2 hc9
 cases h
 exact Jz1 fun a ha => ⟨k, _, Ja3 _, ⟨K34, v6 + 1, (q4 : (List Int)), ae, ad, R, (S18.tr (S29.tr S35)).wk R, f36, by omega, by omega, hk20⟩, (ha.mm R)⟩
 rintro _ w12 ⟨K13, s3, ac, af, rfl, S14, f15, rfl⟩
 have h := hK10
 dsimp only [aft] at h
 refine Jp (Je [2, 2] R (Jb 2 R (Ju (Ja2 (l := [.tmp 4]) V137 (Jp2 R R) R ?_))))
 cases h
 exact ⟨(fun b => ren [(3, 2)] (K13 b)), ac, af, R, ((hE.stp (S3.tr (S7.tr S14)) R R).map (ren [(3, 2)]) R R), (f15.map (ren [(3, 2)]) R R)⟩
theorem s_l30May_ok {w : World} {κ : Col} {p0 : Int} {a1 u1} {p1 : (List Int)} (g1 : Rd (Rp.int .i64) κ w 0 a1 u1 p1) {r : (List Bool)} (h : s_l30May p0 p1 = some r) : Ret Tryz.prog 104 [vi p0, .slice a1 p1.length u1] w (fun v w' => ∃ (κ' : Col) (ra0 : Option Addr) (ru0 : Nat), v = .slice ra0 r.length ru0 ∧ Ent κ w κ' w' ∧ Oc Ep.bool 4 κ' w' 2 ra0 ru0 r) := by
 unfold s_l30May at h
 refine Ret.enter F104 R N104 R ?_
 dsimp only [envOf]
 have hE := Ent.refl κ w
 refine Je [2] R (Jb 1 R (Je [1, 2] R (Jo1 (κ := κ) (E := Ep.bool) 2 R R R R R Y135 Tryzinfo4 R fun a7 u7 w1 K2 S3 f4 => ⟨tv, Jb 1 R (Jq (Je [2] R (Jb 1 R (Ob h fun _ hr5 h => ?_))))⟩)))
 have hN5 := rng_ok hr5
 refine Ob h fun q2 hq7 hK6 => ?_
 clear h
 refine Jx1 (fun L w' => ∃ κ', ∃ s3 : (List Bool), ∃ ac aa, L = [(5, .slice ac s3.length aa)] ∧ Stp [2] K2 w1 κ' w' ∧ Oc Ep.bool 4 κ' w' 2 ac aa s3 ∧ q2 = Sum.inr s3) ?_ ?_
 refine Jv (Jy1 (fun k L w' => ∃ κ' v6, ∃ s1 : (List Bool), ∃ ad ab, L = [(0, vi p0), (1, .slice a1 p1.length u1), (5, .slice ad s1.length ab), (6, vi v6)] ∧ Stp [2] K2 w1 κ' w' ∧ Oc Ep.bool 4 κ' w' 2 ad ab s1 ∧ 0 ≤ v6 ∧ Int.toNat (p0 - v6) = k ∧ cntM (s_l30May_b0 p1) k v6 s1 = some q2) ⟨_, _, ⟨K2, 0, (([] : List Bool) : (List Bool)), a7, u7, R, (Jx2 _ _).wk R, f4, (by decide), (by simp), hq7⟩, (KM R)⟩ ?_)
 rintro k _ w12 ⟨K13, v6, s1, ad, ab, rfl, S14, f15, hj5, hJ5, h⟩
 rcases k with _ | k
 have hk16 := h; obtain ⟨o5, h⟩ := ex_eq (Sum.inr (Sum.inl s1) : (List Bool) ⊕ (((List Bool)) ⊕ ((List Bool))))
 have hc5 : decide (v6 < p0) = false := Jo2 (by omega)
 refine Jq (Je [2, 2, 2] R (Jb 3 R (Jw2 R hc5 (Jc1 (Jt (Jt ?_))))))
 cases h
 have h := hk16
 refine Jb1 ?_
 cases h
 exact Jw1 _ ⟨K13, (s1 : (List Bool)), ad, ab, R, S14.wk R, f15, R⟩ (KM R)
 obtain ⟨o5, h, hk16⟩ := BI h; unfold s_l30May_b0 at h
 have hc5 : decide (v6 < p0) = true := Jn2 (by omega)
 refine Jq (Je [2, 2, 2] R (Jb 3 R (Jv2 R hc5 (Js (Jp (Jq (Jv (Ja [2, 2, 2, 1, 2, 1, 1, 2] R (Jn 3 R (Ob h fun x16 hx16 h => Jh R R R C117 (s_l1Has_ok (κ := fun b => mp [] 0 (K13 b)) (Jl2 (g1.stp (S3.tr S14) R R) (mp [] 0) R R) hx16) ?_))))))))))
 rintro _ w18 ⟨k19, rfl, e20⟩
 obtain ⟨K21, S22, m23⟩ := Ji e20 3 R
 refine ⟨tv, Jn 1 R (Jn1 (κ := K21) (E := Ep.bool) 5 [] (parts := [(0, .tmp 17)]) (cells := [.bool (!x16)]) (xs := ([(!x16)] : List Bool)) R R R R R R Y135 Tryzinfo4 R R R R R R R R R R ⟨[.bool (!x16)], [], Zl K21 w18 [], Zl K21 w18 [], R, Zl.sp (l1 := []) (l2 := []) R, Zl.sr (l1 := []) (l2 := []), R, R⟩ fun ai ah w25 K26 S27 f28 => ⟨tv, Ob h fun x19 hx19 h => Jm1 (κ := K26) (E := Ep.bool) 2 [] R R R R R R R R R Y135 Tryzinfo4 R R R R (f15.stp (S22.tr S27) R R) (Sl.srcP pu_bool f28.rdc) sy_false hx19 R fun af ae w30 K31 S32 f33 => ⟨tv, Jc 1 R (Jz (Jp (Ja [2, 2, 2] R (Jc 3 R ?_))))⟩⟩)⟩
 have hw5 : IntKind.wrap .i64 (v6 + 1) = v6 + 1 := wr1 hj5 (Jm2 hc5) hN5
 rw [hw5]
 have hc5 := Jm2 hc5
 cases h
 exact Jz1 fun a ha => ⟨k, _, Ja3 _, ⟨K31, v6 + 1, (x19 : (List Bool)), af, ae, R, (S14.tr (S22.tr (S27.tr S32))).wk R, f33, by omega, by omega, hk16⟩, (ha.mm R)⟩
 rintro _ w8 ⟨K9, s3, ac, aa, rfl, S10, f11, rfl⟩
 have h := hK6
 dsimp only [aft] at h
 refine Jp (Je [2, 2] R (Jb 2 R (Ju (Ja2 (l := [.tmp 4]) V104 (Jp2 R R) R ?_))))
 cases h
 exact ⟨K9, ac, aa, R, (hE.stp (S3.tr S10) R R), f11⟩
theorem s_l24Each_ok {w : World} {κ : Col} {a0 u0} {p0 : (List Int)} {a1 u1} {p1 : (List Int)} (g0 : Rd (Rp.int .i64) κ w 0 a0 u0 p0) (g1 : Rd (Rp.int .i64) κ w 0 a1 u1 p1) {r : Bool} (h : s_l24Each p0 p1 = some r) : Ret Tryz.prog 89 [.slice a0 p0.length u0, .slice a1 p1.length u1] w (fun v w' => ∃ (κ' : Col), v = .bool r ∧ Ent κ w κ' w') := by
 unfold s_l24Each at h
 refine Ret.enter F89 R N89 R ?_
 dsimp only [envOf]
 have hE := Ent.refl κ w
 refine Je [2] R (Jb 1 R (Jq (Je [2] R (Jb 1 R ?_))))
 have hN1 : (p0.length : Int) ≤ 9223372036854775807 := g0.len_le
 refine Ob h fun q2 hq3 hK2 => ?_
 clear h
 refine Jx1 (fun L w' => ∃ κ', L = [] ∧ Stp [] κ w κ' w' ∧ q2 = Sum.inr ()) ?_ ?_
 refine Jv (Jy1 (fun k L w' => ∃ κ' v5, L = [(0, .slice a0 p0.length u0), (1, .slice a1 p1.length u1), (5, vi v5)] ∧ Stp [] κ w κ' w' ∧ 0 ≤ v5 ∧ Int.toNat ((p0.length : Int) - v5) = k ∧ cntM (s_l24Each_b0 p0 p1) k v5 () = some q2) ⟨_, _, ⟨κ, 0, R, (Jx2 _ _).wk R, (by decide), (by simp), hq3⟩, (KM R)⟩ ?_)
 rintro k _ w7 ⟨K8, v5, rfl, S9, hj1, hJ1, h⟩
 rcases k with _ | k
 have hk10 := h; obtain ⟨o1, h⟩ := ex_eq (Sum.inr (Sum.inl ()) : Bool ⊕ ((Unit) ⊕ (Unit)))
 have hc1 : decide (v5 < (p0.length : Int)) = false := Jo2 (by omega)
 refine Jq (Je [2, 2, 2, 2] R (Jn 2 R (Jf R (Je2 U40 R R) (Jb 1 R (Jw2 R hc1 (Jc1 (Jt (Jt ?_))))))))
 cases h
 have h := hk10
 refine Jb1 ?_
 cases h
 exact Jw1 _ ⟨K8, R, S9.wk R, R⟩ KN
 obtain ⟨o1, h, hk10⟩ := BI h; unfold s_l24Each_b0 at h
 have hc1 : decide (v5 < (p0.length : Int)) = true := Jn2 (by omega)
 refine Jq (Je [2, 2, 2, 2] R (Jn 2 R (Jf R (Je2 U40 R R) (Jb 1 R (Jv2 R hc1 (Js (Jp (Jq (Jv (Je [2, 2, 2, 2, 1, 1, 2] R (Jn 3 R (Ob h fun x15 hx15 h => Jf R (Jf2 g0 hx15 U40 Z2 R R R R) (Jl tv R R R R (Jc2 I2 R R (hvE ((g0.stp S9 R R).gInt hx15))) (Ob h fun x17 hx17 h => Jh R R R C117 (s_l1Has_ok (κ := fun b => mp [] 0 (K8 b)) (Jl2 (g1.stp S9 R R) (mp [] 0) R R) hx17) ?_))))))))))))))
 rintro _ w13 ⟨k14, rfl, e15⟩
 obtain ⟨K16, S17, m18⟩ := Ji e15 2 R
 refine ⟨tv, Jb 1 R ?_⟩
 revert h
 cases ht20 : (!x17)
 refine JF fun h => Jy R (Js (Jz (Jp (Ja [2, 2, 2] R (Jc 3 R ?_)))))
 have hw1 : IntKind.wrap .i64 (v5 + 1) = v5 + 1 := wr1 hj1 (Jm2 hc1) hN1
 rw [hw1]
 have hc1 := Jm2 hc1
 cases h
 exact Jz1 fun a ha => ⟨k, _, Ja3 _, ⟨K16, v5 + 1, R, (S9.tr S17).wk R, by omega, by omega, hk10⟩, (ha.mm R)⟩
 refine JT fun h => Jx R (Je [2] R (Jb 1 R (Ju (Ja1 (Jw (Jw ?_))))))
 cases h
 obtain rfl := Option.some.inj hk10
 have h := hK2
 dsimp only [aft] at h
 refine Ja1 (Jq2 (Jw (Ja2 (l := [.tmp 4]) V89 (Jp2 R R) R ?_)))
 cases h
 exact ⟨K16, R, (hE.stp (S9.tr S17) R R)⟩
 rintro _ w4 ⟨K5, rfl, S6, rfl⟩
 have h := hK2
 dsimp only [aft] at h
 refine Jp (Je [2] R (Jb 1 R (Ju (Ja2 (l := [.tmp 4]) V89 (Jp2 R R) R ?_))))
 cases h
 exact ⟨K5, R, (hE.stp S6 R R)⟩
end Go.Proofs.YtcmamhmpoinmnaaGreat
