/- The walks, part 8. By program. -/
import Derived.Test.YtcmamhmpoinmnaaGreatFns3KO
import Derived.Test.YtcmamhmpoinmnaaGreatFns4KO
set_option linter.unusedVariables false
set_option linter.unusedSimpArgs false
namespace Go.Proofs.YtcmamhmpoinmnaaGreat
open Go Go.Wk Go.Proofs
set_option maxRecDepth 100000
set_option maxHeartbeats 1000000
theorem s_l30Watch_ok {w : World} {κ : Col} {p0 : Sig} {aS aP aO aR} {p1 : Machine} {aQ aT aN aU} {p2 : Det} (g1_0 : Rd (Rp.sl (Rp.int .i64)) κ w 0 aS aP p1.Next) (g1_1 : Rd (Rp.sl (Rp.int .i64)) κ w 0 aO aR p1.Out) (g2_0 : Rd (Rp.sl (Rp.int .i64)) κ w 0 aQ aT p2.Next) (g2_1 : Rd Pair.rp κ w 0 aN aU p2.Pairs) {r : l30Graph × Bool} (h : s_l30Watch p0 p1 p2 = some r) : Ret Tryz.prog 136 [.agg #[vi p0.In, vi p0.Out], .agg #[.slice aS p1.Next.length aP, .slice aO p1.Out.length aR], .agg #[.slice aQ p2.Next.length aT, .slice aN p2.Pairs.length aU]] w (fun v w' => ∃ (κ' : Col) (ra0 : Option Addr) (ru0 : Nat) (ra1 : Option Addr) (ru1 : Nat) (ra2 : Option Addr) (ru2 : Nat) (ra3 : Option Addr) (ru3 : Nat), v = .tuple #[.agg #[.slice ra0 r.1.of.length ru0, .slice ra1 r.1.by0.length ru1, .slice ra2 r.1.next.length ru2, .slice ra3 r.1.letters.length ru3], .bool r.2] ∧ Ent κ w κ' w' ∧ Oc E6 2 κ' w' 2 ra0 ru0 r.1.of ∧ Oc E6 2 κ' w' 3 ra1 ru1 r.1.by0 ∧ Oc (Ep.own E6 2) 40 κ' w' 4 ra2 ru2 r.1.next ∧ Oc (Ep.own E6 2) 40 κ' w' 5 ra3 ru3 r.1.letters) := by
 unfold s_l30Watch at h
 refine Ret.enter F136 R N136 R ?_
 dsimp only [envOf]
 have hE := Ent.refl κ w
 refine Je [1, 1, 1, 1, 2] R (Jf1 (κ := κ) 2 R R R R R R R fun b3 w1 K2 S3 f4 => ⟨tv, Jf1 (κ := K2) 3 R R R R R R R fun b4 w5 K6 S7 f8 => ⟨tv, Jf1 (κ := K6) 4 R R R R R R R fun b5 w9 K10 S11 f12 => ⟨tv, Jg1 (κ := K10) 5 R R R R R X158 R fun b6 w13 K14 S15 f16 => ⟨tv, Jb 1 R (Je [2, 1, 2] R (Jf R (rn_build (parts := []) (cells := [.slice none 0 0, .slice none 0 0, .slice none 0 0, .slice none 0 0]) R R (by kernel_rfl)) (Jf1 (κ := K14) 6 R R R R R R R fun b15 w17 K18 S19 f20 => ⟨tv, Jb 1 R (Je [2, 1] R (Jn 1 R ?_))⟩)))⟩⟩⟩⟩)
 have f21 : Oc E6 2 K18 w17 7 none 0 ([] : List Int) := Ow.nil
 have f22 : Oc E6 2 K18 w17 8 none 0 ([] : List Int) := Ow.nil
 refine Ob h fun x17 hx17 h => Jh R R R C164 (s_l30Find_ok (κ := fun b => mp [(7, 2), (8, 3), (6, 4)] 0 (K18 b)) (p0 := (⟨([] : List Int), ([] : List Int), ([] : List (List Int)), ([] : List (List Int))⟩ : l30Graph)) (f21.map (mp [(7, 2), (8, 3), (6, 4)] 0) R R) (f22.map (mp [(7, 2), (8, 3), (6, 4)] 0) R R) Sl.nil Sl.nil (f20.map (mp [(7, 2), (8, 3), (6, 4)] 0) R R) hx17) ?_
 rintro _ w23 ⟨k24, bi, bb, bh, ba, rfl, e25, f26, f27, f28⟩
 obtain ⟨K29, S30, m31⟩ := Ji e25 9 R
 refine ⟨tv, Jd (Jq (Je [2] R (Jb 1 R (Ob h fun q2 hq38 hK37 => ?_))))⟩
 clear h
 refine Jx1 (fun L w' => ∃ κ', ∃ s3 : Int × (List Int) × (List Int) × (List (List Int)) × (List (List Int)), ∃ ah aj ae ad al an ac af, L = [(6, .pointer (some ⟨b6, 0, none⟩)), (8, .pointer (some ⟨b15, 0, none⟩))] ∧ Stp [11, 12, 13, 14, 15, 16, 17, 18, 19, 24, 25, 26] K29 w23 κ' w' ∧ Oc E6 2 κ' w' 11 ah aj s3.2.1 ∧ Oc E6 2 κ' w' 12 ae ad s3.2.2.1 ∧ Oc (Ep.own E6 2) 40 κ' w' 14 al an s3.2.2.2.1 ∧ Oc (Ep.own E6 2) 40 κ' w' 15 ac af s3.2.2.2.2 ∧ Bc κ' w' 13 b15 158 [.slice ah s3.2.1.length aj, .slice ae s3.2.2.1.length ad, .slice al s3.2.2.2.1.length an, .slice ac s3.2.2.2.2.length af] ∧ q2 = Sum.inr s3) ?_ ?_
 refine Jv (Jy1 (fun k L w' => ∃ κ', ∃ s1 : Int × (List Int) × (List Int) × (List (List Int)) × (List (List Int)), ∃ au aw ar ay ai ap aa ab, L = [(3, .pointer (some ⟨b3, 0, none⟩)), (4, .pointer (some ⟨b4, 0, none⟩)), (5, .pointer (some ⟨b5, 0, none⟩)), (6, .pointer (some ⟨b6, 0, none⟩)), (8, .pointer (some ⟨b15, 0, none⟩)), (9, vi s1.1)] ∧ Stp [11, 12, 13, 14, 15, 16, 17, 18, 19, 24, 25, 26] K29 w23 κ' w' ∧ Oc E6 2 κ' w' 11 au aw s1.2.1 ∧ Oc E6 2 κ' w' 12 ar ay s1.2.2.1 ∧ Oc (Ep.own E6 2) 40 κ' w' 14 ai ap s1.2.2.2.1 ∧ Oc (Ep.own E6 2) 40 κ' w' 15 aa ab s1.2.2.2.2 ∧ Bc κ' w' 13 b15 158 [.slice au s1.2.1.length aw, .slice ar s1.2.2.1.length ay, .slice ai s1.2.2.2.1.length ap, .slice aa s1.2.2.2.2.length ab] ∧ whileM (s_l30Watch_b0 p0 p1 p2) k s1 = some q2) ⟨_, _, ⟨K29, ((0 : Int), (x17.2.1 : (List Int)), (x17.2.2 : (List Int)), (([] : List (List Int)) : (List (List Int))), (([] : List (List Int)) : (List (List Int)))), bi, bb, bh, ba, none, 0, none, 0, R, (Jx2 _ _).wk R, (f26.mx (no_int _) m31 R (R : 9 + 2 = 11)), (f27.mx (no_int _) m31 R (R : 9 + 3 = 12)), Ow.nil, Ow.nil, (f28.mx m31 R (R : 9 + 4 = 13)), hq38⟩, (KM R)⟩ ?_)
 rintro k _ w47 ⟨K48, s1, au, aw, ar, ay, ai, ap, aa, ab, rfl, S49, f50, f51, f52, f53, f54, h⟩
 rcases k with _ | k
 cases h
 obtain ⟨o36, h, hk55⟩ := BI h; unfold s_l30Watch_b0 at h
 refine Jq (Je [2, 2, 2, 2, 1, 2, 2] R (Jn 2 R (Jf R (rn_nilCheck R R) (Jf R (Jb2 U158 R Z40 R R) (Jl tv R R R R (Jc2 I40 R R (hvE (f54.ld 0 R R))) (Jf R (Je2 U40 R R) (Jb 1 R ?_)))))))
 revert h
 cases ht56 : decide (s1.1 < (s1.2.1.length : Int))
 refine JF fun h => Jy R (Jc1 (Jt (Jt ?_)))
 cases h
 have h := hk55
 refine Jb1 ?_
 cases h
 exact Jw1 _ ⟨K48, ((s1.1 : Int), (s1.2.1 : (List Int)), (s1.2.2.1 : (List Int)), (s1.2.2.2.1 : (List (List Int))), (s1.2.2.2.2 : (List (List Int)))), au, aw, ar, ay, ai, ap, aa, ab, R, S49.wk R, f50, f51, f52, f53, f54, R⟩ (KM R)
 refine JT fun h => Jx R (Js (Jp (Jq (Jv (Je [1, 2] R (Jo1 (κ := K48) (E := E6) 16 R R R R R Y40 Tryzinfo2 R fun bj be w57 K58 S59 f60 => ⟨tv, Jb 1 R (Je [1, 2] R (Jo1 (κ := K58) (E := E6) 17 R R R R R Y40 Tryzinfo2 R fun aV aX w61 K62 S63 f64 => ⟨tv, Jb 1 R (Jq (Je [2] R (Jb 1 R (Ob h fun q5 hq67 hK66 => ?_))))⟩))⟩))))))
 clear h
 refine Jx1 (fun L w' => ∃ κ', ∃ s6 : (List Int) × (List Int) × Int × (List Int) × (List Int), ∃ az ax av aA ak aq am ao, L = [(3, .pointer (some ⟨b3, 0, none⟩)), (4, .pointer (some ⟨b4, 0, none⟩)), (5, .pointer (some ⟨b5, 0, none⟩)), (6, .pointer (some ⟨b6, 0, none⟩)), (8, .pointer (some ⟨b15, 0, none⟩)), (9, vi s1.1), (10, .slice az s6.1.length ax), (11, .slice av s6.2.1.length aA)] ∧ Stp [11, 12, 13, 16, 17, 24, 25, 26] K62 w61 κ' w' ∧ Oc E6 2 κ' w' 16 az ax s6.1 ∧ Oc E6 2 κ' w' 17 av aA s6.2.1 ∧ Oc E6 2 κ' w' 11 ak aq s6.2.2.2.1 ∧ Oc E6 2 κ' w' 12 am ao s6.2.2.2.2 ∧ Bc κ' w' 13 b15 158 [.slice ak s6.2.2.2.1.length aq, .slice am s6.2.2.2.2.length ao, .slice ai s1.2.2.2.1.length ap, .slice aa s1.2.2.2.2.length ab] ∧ q5 = Sum.inr s6) ?_ ?_
 refine Jv (Jy1 (fun k L w' => ∃ κ', ∃ s4 : (List Int) × (List Int) × Int × (List Int) × (List Int), ∃ aD aB aF aK aI aG aC aE, L = [(3, .pointer (some ⟨b3, 0, none⟩)), (4, .pointer (some ⟨b4, 0, none⟩)), (5, .pointer (some ⟨b5, 0, none⟩)), (6, .pointer (some ⟨b6, 0, none⟩)), (8, .pointer (some ⟨b15, 0, none⟩)), (9, vi s1.1), (10, .slice aD s4.1.length aB), (11, .slice aF s4.2.1.length aK), (12, vi s4.2.2.1)] ∧ Stp [11, 12, 13, 16, 17, 24, 25, 26] K62 w61 κ' w' ∧ Oc E6 2 κ' w' 16 aD aB s4.1 ∧ Oc E6 2 κ' w' 17 aF aK s4.2.1 ∧ Oc E6 2 κ' w' 11 aI aG s4.2.2.2.1 ∧ Oc E6 2 κ' w' 12 aC aE s4.2.2.2.2 ∧ Bc κ' w' 13 b15 158 [.slice aI s4.2.2.2.1.length aG, .slice aC s4.2.2.2.2.length aE, .slice ai s1.2.2.2.1.length ap, .slice aa s1.2.2.2.2.length ab] ∧ whileM (s_l30Watch_b2 p0 p1 p2 s1) k s4 = some q5) ⟨_, _, ⟨K62, ((([] : List Int) : (List Int)), (([] : List Int) : (List Int)), (0 : Int), (s1.2.1 : (List Int)), (s1.2.2.1 : (List Int))), bj, be, aV, aX, au, aw, ar, ay, R, (Jx2 _ _).wk R, (f60.stp S63 R R), f64, (f50.stp (S59.tr S63) R R), (f51.stp (S59.tr S63) R R), (f54.stp (S59.tr S63) R R), hq67⟩, (KM R)⟩ ?_)
 rintro k _ w76 ⟨K77, s4, aD, aB, aF, aK, aI, aG, aC, aE, rfl, S78, f79, f80, f81, f82, f83, h⟩
 rcases k with _ | k
 cases h
 obtain ⟨o65, h, hk88⟩ := BI h; unfold s_l30Watch_b2 at h
 refine Jq (Je [2, 1, 1, 2] R (Jn 1 R ?_))
 have f89 := f4.stp (S7.tr (S11.tr (S15.tr (S19.tr (S30.tr (S49.tr (S59.tr (S63.tr S78)))))))) R R
 refine Jl tv R R R R (Jd2 (cs := [vi p0.In, vi p0.Out]) I31 Z31 R R R (haE f89.cells)) (Ob h fun x31 hx31 h => Jh R R R C134 (s_l29Ins_ok (κ := fun b => mp [] 0 (K77 b)) (p0 := p0) hx31) ?_)
 rintro _ w90 ⟨k91, rfl, e92⟩
 obtain ⟨K93, S94, m95⟩ := Ji e92 18 R
 refine ⟨tv, Jb 1 R ?_⟩
 revert h
 cases ht97 : decide (s4.2.2.1 < x31)
 refine JF fun h => Jy R (Jc1 (Jt (Jt ?_)))
 cases h
 have h := hk88
 refine Jb1 ?_
 cases h
 exact Jw1 _ ⟨K93, ((s4.1 : (List Int)), (s4.2.1 : (List Int)), (s4.2.2.1 : Int), (s4.2.2.2.1 : (List Int)), (s4.2.2.2.2 : (List Int))), aD, aB, aF, aK, aI, aG, aC, aE, R, (S78.tr S94).wk R, (f79.stp S94 R R), (f80.stp S94 R R), (f81.stp S94 R R), (f82.stp S94 R R), (f83.stp S94 R R), R⟩ (KM R)
 refine JT fun h => Jx R (Js (Jp (Jq (Jv (Jq (Js1 (κ := K93) [0, 2, 3, 11, 13] none [(0, 2), (2, 2), (3, 2), (4, 2), (6, 2), (11, 2), (17, 2), (1, 0), (5, 0), (7, 2), (8, 0), (9, 2), (10, 0), (12, 2), (13, 0), (14, 0), (15, 1), (16, 2), (18, 2), (19, 2)] [] (by kernel_rfl) (by kernel_rfl) fun w99 S98 => Jf R (Jb2 U33 R Z24 R R) (Jn 1 R (Jf R (rn_nilCheck R R) (Jf R (Jb2 U158 R Z40 R R) (Jn 3 R ?_))))))))))
 have f100 := f8.stp (S11.tr (S15.tr (S19.tr (S30.tr (S49.tr (S59.tr (S63.tr (S78.tr (S94.tr S98))))))))) R R
 refine Jg R (Jc2 I24 R R (hvC (f100.ld 1 R R) R)) ?_
 have f101 := f83.stp (S94.tr S98) R R
 refine Jg R (Jc2 I40 R R (hvC (f101.ld 0 R R) R)) (Ob h fun x42 hx42 h => Jf R (Jf2 f81.rdc hx42 U40 Z2 R R R R) ?_)
 have f102 := f81.stp (S94.tr S98) R R
 refine Jg R (Jc2 I2 R R (hvC (f102.rdc.gInt hx42) R)) (Ob h fun x44 hx44 h => Jf R (Jf2 g1_1 hx44 U24 Z40 R R R R) ?_)
 obtain ⟨ax44, ux44, f104, hl105⟩ := (g1_1.stp (S3.tr (S7.tr (S11.tr (S15.tr (S19.tr (S30.tr (S49.tr (S59.tr (S63.tr (S78.tr (S94.tr S98))))))))))) R R).gSl hx44
 refine Jg R (Jc2 I40 R R (hvC hl105 R)) (Ob h fun x47 hx47 h => Jf R (Jf2 f104 hx47 U40 Z2 R R R R) (Jg R (Jc2 I2 R R (hvC (f104.gInt hx47) R)) (Jg R (Jd2 (cs := [vi p0.In, vi p0.Out]) I31 Z31 R R R (haC (f89.stp (S94.tr S98) R R).cells R)) (Ob h fun x50 hx50 h => Jh R R R C134 (s_l29Ins_ok (κ := fun b => mp [] 0 (K93 b)) (p0 := p0) hx50) ?_))))
 rintro _ w107 ⟨k108, rfl, e109⟩
 obtain ⟨K110, S111, m112⟩ := Ji e109 20 R
 refine ⟨(S111.cl R), Jn 3 R (Jt1 (Jd (Jq (Js1 (κ := K110) [0, 3, 4, 11, 12, 13] (some 30) [(0, 2), (1, 2), (2, 2), (4, 2), (5, 2), (6, 2), (8, 2), (13, 2), (16, 2), (18, 2), (19, 2), (20, 2), (22, 2), (27, 2), (3, 0), (7, 0), (9, 2), (10, 0), (11, 2), (12, 0), (14, 2), (15, 0), (17, 0), (21, 0), (23, 2), (24, 0), (25, 2), (26, 0), (28, 2), (29, 0)] [(30, 1), (31, 1), (32, 1), (33, 2)] (by kernel_rfl) (by kernel_rfl) fun w115 S114 => Jn 2 R (Jf R (Jb2 U33 R Z24 R R) (Jn 1 R (Jf R (rn_nilCheck R R) (Jf R (Jb2 U158 R Z40 R R) (Jn 2 R (Jf R (Jb2 U94 R Z24 R R) (Jn 1 R (Jf R (rn_nilCheck R R) (Jf R (Jb2 U158 R Z40 R R) (Jn 2 R (Jg R (Jc2 I24 R R (hvC ((f100.stp (S111.tr S114) R R).ld 0 R R) R)) ?_)))))))))))))))⟩
 have f117 := f101.stp (S111.tr S114) R R
 refine Jg R (Jc2 I40 R R (hvC (f117.ld 0 R R) R)) (Ob h fun x63 hx63 h => Jf R (Jf2 f102.rdc hx63 U40 Z2 R R R R) ?_)
 have f118 := f102.stp (S111.tr S114) R R
 refine Jg R (Jc2 I2 R R (hvC (f118.rdc.gInt hx63) R)) (Ob h fun x65 hx65 h => Jf R (Jf2 g1_0 hx65 U24 Z40 R R R R) ?_)
 obtain ⟨ax65, ux65, f120, hl121⟩ := (g1_0.stp (S3.tr (S7.tr (S11.tr (S15.tr (S19.tr (S30.tr (S49.tr (S59.tr (S63.tr (S78.tr (S94.tr (S98.tr (S111.tr S114))))))))))))) R R).gSl hx65
 refine Jg R (Jc2 I40 R R (hvC hl121 R)) (Ob h fun x68 hx68 h => Jf R (Jf2 f120 hx68 U40 Z2 R R R R) (Jg R (Jc2 I2 R R (hvC (f120.gInt hx68) R)) (Jg R (Jc2 I24 R R (hvC ((f12.stp (S15.tr (S19.tr (S30.tr (S49.tr (S59.tr (S63.tr (S78.tr (S94.tr (S98.tr (S111.tr S114)))))))))) R R).ld 0 R R) R)) (Jg R (Jc2 I40 R R (hvC (f117.ld 1 R R) R)) (Ob h fun x77 hx77 h => Jf R (Jf2 f82.rdc hx77 U40 Z2 R R R R) ?_)))))
 have f123 := f82.stp (S94.tr (S98.tr (S111.tr S114))) R R
 refine Jg R (Jc2 I2 R R (hvC (f123.rdc.gInt hx77) R)) (Ob h fun x79 hx79 h => Jf R (Jf2 g2_0 hx79 U24 Z40 R R R R) ?_)
 obtain ⟨ax79, ux79, f125, hl126⟩ := (g2_0.stp (S3.tr (S7.tr (S11.tr (S15.tr (S19.tr (S30.tr (S49.tr (S59.tr (S63.tr (S78.tr (S94.tr (S98.tr (S111.tr S114))))))))))))) R R).gSl hx79
 have S001 := (S59.tr (S63.tr (S78.tr (S94.tr (S98.tr (S111.tr S114))))))
 refine Jg R (Jc2 I40 R R (hvC hl126 R)) (Ob h fun x82 hx82 h => Jf R (Jf2 f125 hx82 U40 Z2 R R R R) (Jg R (Jc2 I2 R R (hvC (f125.gInt hx82) R)) (Jt1 (Ob h fun x84 hx84 h => Jh R R R C164 (s_l30Find_ok (κ := fun b => mp [(11, 2), (12, 3), (13, 4)] 0 (K110 b)) (p0 := (⟨s4.2.2.2.1, s4.2.2.2.2, s1.2.2.2.1, s1.2.2.2.2⟩ : l30Graph)) (f118.map (mp [(11, 2), (12, 3), (13, 4)] 0) R R) (f123.map (mp [(11, 2), (12, 3), (13, 4)] 0) R R) (Jl2 (f52.stp S001 R R).rdc (mp [(11, 2), (12, 3), (13, 4)] 0) R R) (Jl2 (f53.stp S001 R R).rdc (mp [(11, 2), (12, 3), (13, 4)] 0) R R) (f117.map (mp [(11, 2), (12, 3), (13, 4)] 0) R R) hx84) ?_))))
 rintro _ w129 ⟨k130, aW, bg, bc, bk, rfl, e131, f132, f133, f134⟩
 obtain ⟨K135, S136, m137⟩ := Ji e131 22 R
 have S002 := (S94.tr (S98.tr (S111.tr (S114.tr S136))))
 refine ⟨tv, Jn1 (κ := K135) (E := E6) 27 [] (parts := [(0, .tmp 84)]) (cells := [vi x84.1]) (xs := ([x84.1] : List Int)) R R R R R R Y40 Tryzinfo2 R R R R R R R R R R ⟨[vi x84.1], [], Zl K135 w129 [], Zl K135 w129 [], R, Zl.sp (l1 := []) (l2 := []) R, Zl.sr (l1 := []) (l2 := []), R, R⟩ fun bq bl w142 K143 S144 f145 => ⟨tv, Ob h fun x86 hx86 h => Jm1 (κ := K143) (E := E6) 16 [] R R R R R R R R R Y40 Tryzinfo2 R R R R (f79.stp (S002.tr S144) R R) (Sl.srcP (pu_int _) f145.rdc) sy_false hx86 R fun bd bf w147 K148 S149 f150 => ⟨tv, Jb 1 R (Ja [2, 2, 1, 1, 2] R (Jn 2 R (Jn1 (κ := K148) (E := E6) 28 [] (parts := [(0, .tmp 88)]) (cells := [vi (IntKind.i64.wrap ((IntKind.i64.wrap (x47 * x50)) + s4.2.2.1))]) (xs := ([(IntKind.i64.wrap ((IntKind.i64.wrap (x47 * x50)) + s4.2.2.1))] : List Int)) R R R R R R Y40 Tryzinfo2 R R R R R R R R R R ⟨[vi (IntKind.i64.wrap ((IntKind.i64.wrap (x47 * x50)) + s4.2.2.1))], [], Zl K148 w147 [], Zl K148 w147 [], R, Zl.sp (l1 := []) (l2 := []) R, Zl.sr (l1 := []) (l2 := []), R, R⟩ fun bs bo w151 K152 S153 f154 => ⟨tv, Ob h fun x90 hx90 h => Jm1 (κ := K152) (E := E6) 17 [] R R R R R R R R R Y40 Tryzinfo2 R R R R (f80.stp (S002.tr (S144.tr (S149.tr S153))) R R) (Sl.srcP (pu_int _) f154.rdc) sy_false hx90 R fun aY aZ w156 K157 S158 f159 => ⟨tv, Jc 1 R (Jz (Jp (Ja [2, 2, 2] R (Jc 3 R ?_))))⟩⟩)))⟩⟩⟩
 cases h
 have S003 := (S144.tr (S149.tr (S153.tr S158)))
 exact Jz1 fun a ha => ⟨k, _, Ja3 _, ⟨(fun b => ren [(24, 11), (25, 12), (26, 13)] (K157 b)), ((x86 : (List Int)), (x90 : (List Int)), ((IntKind.i64.wrap (s4.2.2.1 + 1)) : Int), (x84.2.1 : (List Int)), (x84.2.2 : (List Int))), bd, bf, aY, aZ, aW, bg, bc, bk, R, (Jy2 ((S78.tr (S94.tr (S98.tr (S111.tr (S114.tr (S136.tr (S144.tr (S149.tr (S153.tr S158))))))))).wk R) [(24, 11), (25, 12), (26, 13)] R), ((f150.stp (S153.tr S158) R R).map (ren [(24, 11), (25, 12), (26, 13)]) R R), (f159.map (ren [(24, 11), (25, 12), (26, 13)]) R R), (((f132.mx (no_int _) m137 R (R : 22 + 2 = 24)).stp S003 R R).map (ren [(24, 11), (25, 12), (26, 13)]) R R), (((f133.mx (no_int _) m137 R (R : 22 + 3 = 25)).stp S003 R R).map (ren [(24, 11), (25, 12), (26, 13)]) R R), (((f134.mx m137 R (R : 22 + 4 = 26)).stp S003 R R).map (ren [(24, 11), (25, 12), (26, 13)]) R R), hk88⟩, (ha.mm R)⟩
 rintro _ w68 ⟨K69, s6, az, ax, av, aA, ak, aq, am, ao, rfl, S70, f71, f72, f73, f74, f75, rfl⟩
 have h := hK66
 dsimp only [aft] at h
 refine Jp (Jq (Je [2, 2, 2, 1, 2, 2] R (Jn 1 R (Jf R (rn_nilCheck R R) (Jf R (Jb2 U158 R Z40 R R) (Jl tv R R R R (Jc2 I40 R R (hvE (f75.ld 0 R R))) (Jf R (Je2 U40 R R) (Jb 1 R ?_))))))))
 revert h
 cases ht169 : decide (256 < (s6.2.2.2.1.length : Int))
 refine JF fun h => Jy R (Js (Jp (Je [2, 2, 2, 2, 1, 2, 1, 1, 2, 2, 1] R (Jn 2 R (Jf R (rn_nilCheck R R) (Jf R (Jb2 U158 R Z24 R R) (Jl tv R R R R (Jc2 I24 R R (hvE (f75.ld 2 R R))) (Jn 1 R (Jn1 (κ := K69) (E := (Ep.own E6 2)) 18 [16] (parts := [(0, .tmp 103)]) (cells := [.slice az s6.1.length ax]) (xs := ([s6.1] : List (List Int))) R R R R R R Y24 Tryzinfo40 R R R R R R R R R R ⟨[.slice az s6.1.length ax], [], Zl K69 w68 [16], Zl K69 w68 [], R, Zl.sp (l1 := [16]) (l2 := []) R, Zl.sr (l1 := [16]) (l2 := []), ⟨_, _, R, f71⟩, R⟩ fun bm bp w175 K176 S177 f178 => ⟨tv, Ob h fun x105 hx105 h => Jm1 (κ := K176) (E := (Ep.own E6 2)) 14 [18] R R R R R R R R R Y24 Tryzinfo40 R R R R (f52.stp (S59.tr (S63.tr (S70.tr S177))) R R) f178.src (sy_one R) hx105 R fun aJ aH w180 K181 S182 f183 => ⟨tv, Jf R (rn_nilCheck R R) (Jf R (Jb2 U158 R Z24 R R) (Ji1 (κ := K181) 13 (off := 2) (vc := [.slice aJ x105.length aH]) (cs' := [.slice ak s6.2.2.2.1.length aq, .slice am s6.2.2.2.2.length ao, .slice aJ x105.length aH, .slice aa s1.2.2.2.2.length ab]) R R R R R R R Z24 R R (f75.stp (S177.tr S182) R R) R R fun w185 S186 f187 => ⟨tv, Jd (Ja [2, 2, 2, 2, 1, 2, 1, 1, 2, 2, 1] R (Jn 2 R (Jf R (rn_nilCheck R R) (Jf R (Jb2 U158 R Z24 R R) (Jl tv R R R R (Jc2 I24 R R (hvE (f187.ld 3 R R))) (Jn 1 R (Jn1 (κ := K181) (E := (Ep.own E6 2)) 19 [17] (parts := [(0, .tmp 113)]) (cells := [.slice av s6.2.1.length aA]) (xs := ([s6.2.1] : List (List Int))) R R R R R R Y24 Tryzinfo40 R R R R R R R R R R ⟨[.slice av s6.2.1.length aA], [], Zl K181 w185 [17], Zl K181 w185 [], R, Zl.sp (l1 := [17]) (l2 := []) R, Zl.sr (l1 := [17]) (l2 := []), ⟨_, _, R, (f72.stp (S177.tr (S182.tr S186)) R R)⟩, R⟩ fun bn br w189 K190 S191 f192 => ⟨tv, Ob h fun x115 hx115 h => Jm1 (κ := K190) (E := (Ep.own E6 2)) 15 [19] R R R R R R R R R Y24 Tryzinfo40 R R R R (f53.stp (S59.tr (S63.tr (S70.tr (S177.tr (S182.tr (S186.tr S191)))))) R R) f192.src (sy_one R) hx115 R fun aM aL w194 K195 S196 f197 => ⟨tv, Jf R (rn_nilCheck R R) (Jf R (Jb2 U158 R Z24 R R) (Ji1 (κ := K195) 13 (off := 3) (vc := [.slice aM x115.length aL]) (cs' := [.slice ak s6.2.2.2.1.length aq, .slice am s6.2.2.2.2.length ao, .slice aJ x105.length aH, .slice aM x115.length aL]) R R R R R R R Z24 R R (f187.stp (S191.tr S196) R R) R R fun w199 S200 f201 => ⟨tv, Jo (Jz (Jp (Ja [2, 2, 2] R (Jc 3 R ?_))))⟩))⟩⟩)))))))⟩))⟩⟩)))))))))
 cases h
 have S004 := (S177.tr (S182.tr (S186.tr (S191.tr (S196.tr S200)))))
 exact Jz1 fun a ha => ⟨k, _, Ja3 _, ⟨K195, (((IntKind.i64.wrap (s1.1 + 1)) : Int), (s6.2.2.2.1 : (List Int)), (s6.2.2.2.2 : (List Int)), (x105 : (List (List Int))), (x115 : (List (List Int)))), ak, aq, am, ao, aJ, aH, aM, aL, R, (S49.tr (S59.tr (S63.tr (S70.tr (S177.tr (S182.tr (S186.tr (S191.tr (S196.tr S200))))))))).wk R, (f73.stp S004 R R), (f74.stp S004 R R), (f183.stp (S186.tr (S191.tr (S196.tr S200))) R R), (f197.stp S200 R R), f201, hk55⟩, (ha.mm R)⟩
 refine JT fun h => Jx R (Je [2, 1, 2] R (Jf R (rn_build (parts := []) (cells := [.slice none 0 0, .slice none 0 0, .slice none 0 0, .slice none 0 0]) R R (by kernel_rfl)) (Jj1 (κ := K69) 5 (vc := [.slice none 0 0, .slice none 0 0, .slice none 0 0, .slice none 0 0]) R R R R R R R Z158 R R (f16.stp (S19.tr (S30.tr (S49.tr (S59.tr (S63.tr S70))))) R R) R fun w171 S172 f173 => ⟨tv, Jb 1 R (Ju (Jw (Ja1 (Jw (Jw ?_)))))⟩)))
 cases h
 obtain rfl := Option.some.inj hk55
 have h := hK37
 dsimp only [aft] at h
 refine Ja1 (Jq2 (Jw (Ja2 (l := [.cell 6 158, .tmp 7]) V136 (res_cellA R f173 I158 Z158 R (Jp2 R R)) R ?_)))
 cases h
 exact ⟨K69, none, 0, none, 0, none, 0, none, 0, R, (hE.stp (S3.tr (S7.tr (S11.tr (S15.tr (S19.tr (S30.tr (S49.tr (S59.tr (S63.tr (S70.tr S172)))))))))) R R), Ow.nil, Ow.nil, Ow.nil, Ow.nil⟩
 rintro _ w39 ⟨K40, s3, ah, aj, ae, ad, al, an, ac, af, rfl, S41, f42, f43, f44, f45, f46, rfl⟩
 have h := hK37
 dsimp only [aft] at h
 refine Jp (Je [2, 2, 1, 1, 2] R (Jn 1 R (Jf R (rn_nilCheck R R) (Jl tv R R R R (Jd2 (cs := [.slice ah s3.2.1.length aj, .slice ae s3.2.2.1.length ad, .slice al s3.2.2.2.1.length an, .slice ac s3.2.2.2.2.length af]) I158 Z158 R R R (haE f46.cells)) (Jj1 (κ := K40) 5 (vc := [.slice ah s3.2.1.length aj, .slice ae s3.2.2.1.length ad, .slice al s3.2.2.2.1.length an, .slice ac s3.2.2.2.2.length af]) R R R R R R R Z158 R R (f16.stp (S19.tr (S30.tr S41)) R R) R fun w207 S208 f209 => ⟨tv, Jb 1 R (Ju (Ja2 (l := [.cell 6 158, .tmp 7]) V136 (res_cellA R f209 I158 Z158 R (Jp2 R R)) R ?_))⟩)))))
 cases h
 exact ⟨(fun b => ren [(11, 2), (12, 3), (14, 4), (15, 5)] (K40 b)), ah, aj, ae, ad, al, an, ac, af, R, ((hE.stp (S3.tr (S7.tr (S11.tr (S15.tr (S19.tr (S30.tr (S41.tr S208))))))) R R).map (ren [(11, 2), (12, 3), (14, 4), (15, 5)]) R R), ((f42.stp S208 R R).map (ren [(11, 2), (12, 3), (14, 4), (15, 5)]) R R), ((f43.stp S208 R R).map (ren [(11, 2), (12, 3), (14, 4), (15, 5)]) R R), ((f44.stp S208 R R).map (ren [(11, 2), (12, 3), (14, 4), (15, 5)]) R R), ((f45.stp S208 R R).map (ren [(11, 2), (12, 3), (14, 4), (15, 5)]) R R)⟩
theorem s_l30Broken_ok {w : World} {κ : Col} {a0 u0} {p0 : (List (List Int))} {ab ae aa af} {p1 : Pair} (g0 : Rd (Rp.sl (Rp.int .i64)) κ w 0 a0 u0 p0) (g1_0 : Rd (Rp.int .i64) κ w 0 ab ae p1.Ask) (g1_1 : Rd (Rp.int .i64) κ w 0 aa af p1.Give) {r : Int} (h : s_l30Broken p0 p1 = some r) : Ret Tryz.prog 56 [.slice a0 p0.length u0, .agg #[.slice ab p1.Ask.length ae, .slice aa p1.Give.length af]] w (fun v w' => ∃ (κ' : Col), v = vi r ∧ Ent κ w κ' w') := by
 unfold s_l30Broken at h
 refine Ret.enter F56 R N56 R ?_
 dsimp only [envOf]
 have hE := Ent.refl κ w
 refine Je [1, 2] R (Jf1 (κ := κ) 2 R R R R R R R fun b3 w1 K2 S3 f4 => ⟨tv, Jb 1 R (Je [2, 2, 2, 1, 1, 2] R (Jn 1 R (Jf R (Je2 U24 R R) (Jf R (Jb2 U92 R Z40 R R) (Jl tv R R R R (Jc2 I40 R R (hvE (f4.ld 1 R R))) (Ob h fun x12 hx12 h => Jh R R R C104 (s_l30May_ok (κ := fun b => mp [] 0 (K2 b)) (Jl2 (g1_1.stp S3 R R) (mp [] 0) R R) hx12) ?_))))))⟩)
 rintro _ w6 ⟨k7, ac, ad, rfl, e8, f9⟩
 obtain ⟨K10, S11, m12⟩ := Ji e8 3 R
 refine ⟨tv, ?_⟩
 have f14 := f9.mx no_bool m12 R (R : 3 + 2 = 5)
 refine Jb 1 R (Jq (Je [2] R (Jb 1 R ?_)))
 have hN15 : (p1.Ask.length : Int) ≤ 9223372036854775807 := g1_0.len_le
 refine Ob h fun q2 hq17 hK16 => ?_
 clear h
 refine Jx1 (fun L w' => ∃ κ', L = [] ∧ Stp [] K10 w6 κ' w' ∧ q2 = Sum.inr ()) ?_ ?_
 refine Jv (Jy1 (fun k L w' => ∃ κ' v6, L = [(0, .slice a0 p0.length u0), (3, .pointer (some ⟨b3, 0, none⟩)), (5, .slice ac x12.length ad), (6, vi v6)] ∧ Stp [] K10 w6 κ' w' ∧ 0 ≤ v6 ∧ Int.toNat ((p1.Ask.length : Int) - v6) = k ∧ cntM (s_l30Broken_b0 p0 p1 x12) k v6 () = some q2) ⟨_, _, ⟨K10, 0, R, (Jx2 _ _).wk R, (by decide), (by simp), hq17⟩, (KM R)⟩ ?_)
 rintro k _ w21 ⟨K22, v6, rfl, S23, hj15, hJ15, h⟩
 rcases k with _ | k
 have hk24 := h; obtain ⟨o15, h⟩ := ex_eq (Sum.inr (Sum.inl ()) : Int ⊕ ((Unit) ⊕ (Unit)))
 have hc15 : decide (v6 < (p1.Ask.length : Int)) = false := Jo2 (by omega)
 refine Jq (Je [2, 2, 1, 2, 2] R (Jn 1 R (Jf R (Jb2 U92 R Z40 R R) (Jl tv R R R R (Jc2 I40 R R (hvE ((f4.stp (S11.tr S23) R R).ld 0 R R))) (Jf R (Je2 U40 R R) (Jb 1 R (Jw2 R hc15 (Jc1 (Jt (Jt ?_))))))))))
 cases h
 have h := hk24
 refine Jb1 ?_
 cases h
 exact Jw1 _ ⟨K22, R, S23.wk R, R⟩ KN
 obtain ⟨o15, h, hk24⟩ := BI h; unfold s_l30Broken_b0 at h
 have hc15 : decide (v6 < (p1.Ask.length : Int)) = true := Jn2 (by omega)
 refine Jq (Je [2, 2, 1, 2, 2] R (Jn 1 R (Jf R (Jb2 U92 R Z40 R R) ?_)))
 have f26 := f4.stp (S11.tr S23) R R
 refine Jl tv R R R R (Jc2 I40 R R (hvE (f26.ld 0 R R))) (Jf R (Je2 U40 R R) (Jb 1 R (Jv2 R hc15 (Js (Jp (Jq (Jv (Je [2, 1, 2, 2, 1, 2] R (Jf R (Jb2 U92 R Z40 R R) (Jl tv R R R R (Jc2 I40 R R (hvE (f26.ld 0 R R))) (Jn 1 R (Ob h fun x23 hx23 h => Jf R (Jf2 g1_0 hx23 U40 Z2 R R R R) (Jl tv R R R R (Jc2 I2 R R (hvE ((g1_0.stp (S3.tr (S11.tr S23)) R R).gInt hx23))) (Jb 1 R (Je [2, 2, 2, 1, 2, 2, 2, 2, 2, 1, 2, 1, 2] R (Jn 2 R (Ob h fun x27 hx27 h => Jf R (Jf2 f14.rdc hx27 U135 Z4 R R R R) ?_)))))))))))))))))
 have f28 := f14.stp S23 R R
 refine Jl tv R R R R (Jc2 I4 R R (hvE (f28.rdc.gBool hx27))) (Jn 1 R (Ob h fun p37 h hK29 => Ju1 [(5, 2), (6, 2), (7, 2), (8, 2), (9, 1), (10, 2), (11, 1), (12, 2)] [] (fun L w' => L = [(0, .slice a0 p0.length u0), (3, .pointer (some ⟨b3, 0, none⟩)), (5, .slice ac x12.length ad), (6, vi v6), (7, vi x23), (37, .bool p37)] ∧ ∃ κ', Stp [] K22 w21 κ' w') tv ?_ ?_))
 revert h
 cases ht30 : x27
 refine JF fun h => Jn 4 R (Jd1 R R R R (Jn 1 R (Jd1 R R R R (Jn 1 R ?_))))
 cases h
 exact Jv1 _ tv ⟨R, _, (Jx2 _ _).wk R⟩ (KM R)
 refine JT fun h => Jn 4 R (Ob h fun x34 hx34 h => ?_)
 have f31 := g0.stp (S3.tr (S11.tr S23)) R R
 refine Jh R R R C103 (s_l30Far_ok (κ := fun b => mp [] 0 (K22 b)) (Jl2 f31 (mp [] 0) R R) (Jl2 f28.rdc (mp [] 0) R R) hx34) ?_
 rintro _ w32 ⟨k33, ai, ah, rfl, e34, f35⟩
 obtain ⟨K36, S37, m38⟩ := Ji e34 6 R
 refine ⟨tv, Jn 1 R (Ob h fun x36 hx36 h => Jh R R R C109 (s_l30Returns_ok (κ := fun b => mp [] 0 (K36 b)) (Jl2 (f31.stp S37 R R) (mp [] 0) R R) (Jl2 (f35.mx (no_int _) m38 R (R : 6 + 2 = 8)).rdc (mp [] 0) R R) hx36) ?_)⟩
 rintro _ w42 ⟨k43, rfl, e44⟩
 obtain ⟨K45, S46, m47⟩ := Ji e44 9 R
 refine ⟨tv, Jn 1 R ?_⟩
 cases h
 exact Jv1 _ tv ⟨R, _, (S37.tr S46).wk R⟩ (KM R)
 rintro _ w49 _ ⟨rfl, K50, S51⟩
 have h := hK29
 refine Jd ?_
 revert h
 cases ht52 : p37
 refine JF fun h => Jy R (Js (Jz (Jp (Ja [2, 2, 2] R (Jc 3 R ?_)))))
 have hw15 : IntKind.wrap .i64 (v6 + 1) = v6 + 1 := wr1 hj15 (Jm2 hc15) hN15
 rw [hw15]
 have hc15 := Jm2 hc15
 cases h
 exact Jz1 fun a ha => ⟨k, _, Ja3 _, ⟨K50, v6 + 1, R, (S23.tr S51).wk R, by omega, by omega, hk24⟩, (ha.mm R)⟩
 refine JT fun h => Jx R (Je [2, 2] R (Jb 2 R (Ju (Ja1 (Jw (Jw ?_))))))
 cases h
 obtain rfl := Option.some.inj hk24
 have h := hK16
 dsimp only [aft] at h
 refine Ja1 (Jq2 (Jw (Ja2 (l := [.tmp 4]) V56 (Jp2 R R) R ?_)))
 cases h
 exact ⟨K50, R, (hE.stp (S3.tr (S11.tr (S23.tr S51))) R R)⟩
 rintro _ w18 ⟨K19, rfl, S20, rfl⟩
 have h := hK16
 dsimp only [aft] at h
 refine Jp (Je [2] R (Jb 1 R (Ju (Ja2 (l := [.tmp 4]) V56 (Jp2 R R) R ?_))))
 cases h
 exact ⟨K19, R, (hE.stp (S3.tr (S11.tr S20)) R R)⟩
theorem slices_ContainsFunc_I_int64__i_areLetters_1_ok {w : World} {κ : Col} {a0 u0} {p0 : (List Int)} {c1_0 : Int} {b1_0} (g0 : Rd (Rp.int .i64) κ w 0 a0 u0 p0) (gb1_0 : Bc κ w 0 b1_0 2 [vi c1_0]) {r : Bool} (h : slices_ContainsFunc_I_int64__i_areLetters_1 p0 c1_0 = some r) : Ret Tryz.prog 148 [.slice a0 p0.length u0, .func (.func 149) #[] #[.pointer (some ⟨b1_0, 0, none⟩)]] w (fun v w' => ∃ (κ' : Col), v = .bool r ∧ Ent κ w κ' w') := by
 unfold slices_ContainsFunc_I_int64__i_areLetters_1 at h
 refine Ret.enter F148 R N148 R ?_
 dsimp only [envOf]
 have hE := Ent.refl κ w
 refine Je [2] R (Jb 1 R (Je [2, 2, 1, 2, 2] R (Jn 2 R (Ob h fun x7 hx7 h => Jh R R R C169 (slices_IndexFunc_I_int64__i_areLetters_1_ok (κ := fun b => mp [] 0 (κ b)) (Jl2 g0 (mp [] 0) R R) (gb1_0.map (mp [] 0) R R) hx7) ?_))))
 rintro _ w1 ⟨k2, rfl, e3⟩
 obtain ⟨K4, S5, m6⟩ := Ji e3 2 R
 refine ⟨tv, Jb 2 R (Ju (Ja2 (l := [.tmp 4]) V148 (Jp2 R R) R ?_))⟩
 cases h
 exact ⟨K4, R, (hE.stp S5 R R)⟩
theorem i_monitorOf_ok {w : World} {κ : Col} {p0 : Sig} {bb bd bc be} {p1 : Clause} (g1_1 : Rd (Rp.int .i64) κ w 0 bb bd p1.A) (g1_2 : Rd (Rp.int .i64) κ w 0 bc be p1.B) {r : Det} (h : i_monitorOf p0 p1 = some r) : Ret Tryz.prog 121 [.agg #[vi p0.In, vi p0.Out], .agg #[vi p1.Kind, .slice bb p1.A.length bd, .slice bc p1.B.length be]] w (fun v w' => ∃ (κ' : Col) (ra0 : Option Addr) (ru0 : Nat) (ra1 : Option Addr) (ru1 : Nat), v = .agg #[.slice ra0 r.Next.length ru0, .slice ra1 r.Pairs.length ru1] ∧ Ent κ w κ' w' ∧ Oc (Ep.own E6 2) 40 κ' w' 2 ra0 ru0 r.Next ∧ Oc Pair.ep92 92 κ' w' 3 ra1 ru1 r.Pairs) := by
 unfold i_monitorOf at h
 refine Ret.enter F121 R N121 R ?_
 dsimp only [envOf]
 have hE := Ent.refl κ w
 refine Je [1, 1, 1] R (Jf1 (κ := κ) 2 R R R R R R R fun b2 w1 K2 S3 f4 => ⟨tv, Jf1 (κ := K2) 3 R R R R R R R fun b3 w5 K6 S7 f8 => ⟨tv, Jg1 (κ := K6) 4 R R R R R X94 R fun b4 w9 K10 S11 f12 => ⟨tv, Jd (Je [2] R (Jb 1 R (Je [2, 1, 1] R (Jf R (rn_build (parts := []) (cells := [.slice none 0 0, .slice none 0 0]) R R (by kernel_rfl)) (Jg1 (κ := K10) 5 R R R R R X92 R fun b6 w13 K14 S15 f16 => ⟨tv, Jj1 (κ := K14) 5 (vc := [.slice none 0 0, .slice none 0 0]) R R R R R R R Z92 R R f16 R fun w17 S18 f19 => ⟨tv, Jd (Jq (Je [2, 1] R (Jf R (Jb2 U71 R Z2 R R) ?_)))⟩⟩)))))⟩⟩⟩)
 have f20 := f8.stp (S11.tr (S15.tr S18)) R R
 refine Jl tv R R R R (Jc2 I2 R R (hvE (f20.ld 0 R R))) (Jd (Jv (Jq (Je [2, 2] R (Jb 2 R (Ob h fun q1 h hK21 => Jx1 (fun L w' => ∃ κ', L = [(2, .pointer (some ⟨b2, 0, none⟩)), (3, .pointer (some ⟨b3, 0, none⟩)), (4, .pointer (some ⟨b4, 0, none⟩)), (5, vi 2), (6, .pointer (some ⟨b6, 0, none⟩)), (13, vi p1.Kind), (17, .bool q1)] ∧ Stp [] K14 w17 κ' w') ?_ ?_))))))
 revert h
 cases ht25 : (p1.Kind == 1)
 refine JF fun h => Jy R (Ja [2, 2] R (Jc 2 R ?_))
 cases h
 exact Jw1 _ ⟨K14, R, (Jx2 _ _).wk R⟩ (KM R)
 refine JT fun h => Jx R (Js ?_)
 cases h
 exact Jw1 _ ⟨K14, R, (Jx2 _ _).wk R⟩ (KM R)
 rintro _ w22 ⟨K23, rfl, S24⟩
 have h := hK21
 refine Jp (Ob h fun q2 h hK26 => Jx1 (fun L w' => ∃ κ' af ad ae ac, L = [(2, .pointer (some ⟨b2, 0, none⟩)), (3, .pointer (some ⟨b3, 0, none⟩)), (4, .pointer (some ⟨b4, 0, none⟩)), (5, vi q2.1), (6, .pointer (some ⟨b6, 0, none⟩))] ∧ Stp [5] K23 w22 κ' w' ∧ Oc E6 2 κ' w' 6 af ad q2.2.1 ∧ Oc E6 2 κ' w' 7 ae ac q2.2.2 ∧ Bc κ' w' 5 b6 92 [.slice af q2.2.1.length ad, .slice ae q2.2.2.length ac]) ?_ ?_)
 revert h
 cases ht33 : q1
 refine JF fun h => Jy R (Je [2, 2] R (Jb 2 R (Ob h fun q3 h hK43 => Jx1 (fun L w' => ∃ κ' au ar aw an, L = [(2, .pointer (some ⟨b2, 0, none⟩)), (3, .pointer (some ⟨b3, 0, none⟩)), (4, .pointer (some ⟨b4, 0, none⟩)), (5, vi q3.1), (6, .pointer (some ⟨b6, 0, none⟩))] ∧ Stp [5] K23 w22 κ' w' ∧ Oc E6 2 κ' w' 6 au ar q3.2.1 ∧ Oc E6 2 κ' w' 7 aw an q3.2.2 ∧ Bc κ' w' 5 b6 92 [.slice au q3.2.1.length ar, .slice aw q3.2.2.length an]) ?_ ?_)))
 revert h
 cases ht50 : (p1.Kind == 2)
 refine JF fun h => Jy R (Je [2, 2] R (Jb 2 R (Ob h fun q4 h hK60 => Jx1 (fun L w' => ∃ κ' av aE aC aA, L = [(2, .pointer (some ⟨b2, 0, none⟩)), (3, .pointer (some ⟨b3, 0, none⟩)), (4, .pointer (some ⟨b4, 0, none⟩)), (5, vi q4.1), (6, .pointer (some ⟨b6, 0, none⟩))] ∧ Stp [5] K23 w22 κ' w' ∧ Oc E6 2 κ' w' 6 av aE q4.2.1 ∧ Oc E6 2 κ' w' 7 aC aA q4.2.2 ∧ Bc κ' w' 5 b6 92 [.slice av q4.2.1.length aE, .slice aC q4.2.2.length aA]) ?_ ?_)))
 revert h
 cases ht67 : (p1.Kind == 3)
 refine JF fun h => Jy R (Je [2, 2] R (Jb 2 R (Ob h fun q5 h hK82 => Jx1 (fun L w' => ∃ κ' al aF aD ay, L = [(2, .pointer (some ⟨b2, 0, none⟩)), (3, .pointer (some ⟨b3, 0, none⟩)), (4, .pointer (some ⟨b4, 0, none⟩)), (5, vi q5.1), (6, .pointer (some ⟨b6, 0, none⟩))] ∧ Stp [5] K23 w22 κ' w' ∧ Oc E6 2 κ' w' 6 al aF q5.2.1 ∧ Oc E6 2 κ' w' 7 aD ay q5.2.2 ∧ Bc κ' w' 5 b6 92 [.slice al q5.2.1.length aF, .slice aD q5.2.2.length ay]) ?_ ?_)))
 revert h
 cases ht89 : (p1.Kind == 4)
 refine JF fun h => Jy R (Je [2, 2] R (Jb 2 R (Ob h fun q6 h hK104 => Jx1 (fun L w' => ∃ κ' aB az ap ax, L = [(2, .pointer (some ⟨b2, 0, none⟩)), (3, .pointer (some ⟨b3, 0, none⟩)), (4, .pointer (some ⟨b4, 0, none⟩)), (5, vi q6.1), (6, .pointer (some ⟨b6, 0, none⟩))] ∧ Stp [5] K23 w22 κ' w' ∧ Oc E6 2 κ' w' 6 aB az q6.2.1 ∧ Oc E6 2 κ' w' 7 ap ax q6.2.2 ∧ Bc κ' w' 5 b6 92 [.slice aB q6.2.1.length az, .slice ap q6.2.2.length ax]) ?_ ?_)))
 revert h
 cases ht111 : (p1.Kind == 6)
 refine JF fun h => Jy R (Je [2] R (Jb 1 R (Ja [1, 1, 2, 1] R (Jn1 (κ := K23) (E := E6) 6 [] (parts := [(0, .const (vi 2)), (1, .const (vi 3))]) (cells := [vi 2, vi 3]) (xs := ([2, 3] : List Int)) R R R R R R Y40 Tryzinfo2 R R R R R R R R R R ⟨[vi 2], [vi 3], Zl K23 w22 [], Zl K23 w22 [], R, Zl.sp (l1 := []) (l2 := []) R, Zl.sr (l1 := []) (l2 := []), R, ⟨[vi 3], [], Zl K23 w22 [], Zl K23 w22 [], R, Zl.sp (l1 := []) (l2 := []) R, Zl.sr (l1 := []) (l2 := []), R, R⟩⟩ fun ba aU w121 K122 S123 f124 => ⟨tv, Jn1 (κ := K122) (E := E6) 7 [] (parts := [(0, .const (vi 1)), (1, .const (vi 3))]) (cells := [vi 1, vi 3]) (xs := ([1, 3] : List Int)) R R R R R R Y40 Tryzinfo2 R R R R R R R R R R ⟨[vi 1], [vi 3], Zl K122 w121 [], Zl K122 w121 [], R, Zl.sp (l1 := []) (l2 := []) R, Zl.sr (l1 := []) (l2 := []), R, ⟨[vi 3], [], Zl K122 w121 [], Zl K122 w121 [], R, Zl.sp (l1 := []) (l2 := []) R, Zl.sr (l1 := []) (l2 := []), R, R⟩⟩ fun aQ aT w125 K126 S127 f128 => ⟨tv, Jf R (rn_build (parts := [(0, .tmp 14), (1, .tmp 15)]) (cells := [.slice ba ([2, 3] : List Int).length aU, .slice aQ ([1, 3] : List Int).length aT]) R R (by kernel_rfl)) (Jj1 (κ := K126) 5 (vc := [.slice ba ([2, 3] : List Int).length aU, .slice aQ ([1, 3] : List Int).length aT]) R R R R R R R Z92 R R (f19.stp (S24.tr (S123.tr S127)) R R) R fun w130 S131 f132 => ⟨tv, Jo ?_⟩)⟩⟩))))
 cases h
 exact Jw1 _ ⟨K126, ba, aU, aQ, aT, R, (S123.tr (S127.tr S131)).wk R, (f124.stp (S127.tr S131) R R), (f128.stp S131 R R), f132⟩ (KM R)
 refine JT fun h => Jx R (Ja [1, 2, 1] R (Jn1 (κ := K23) (E := E6) 6 [] (parts := [(0, .const (vi 0))]) (cells := [vi 0]) (xs := ([0] : List Int)) R R R R R R Y40 Tryzinfo2 R R R R R R R R R R ⟨[vi 0], [], Zl K23 w22 [], Zl K23 w22 [], R, Zl.sp (l1 := []) (l2 := []) R, Zl.sr (l1 := []) (l2 := []), R, R⟩ fun aX aS w112 K113 S114 f115 => ⟨tv, Jf R (Jb2 U92 R Z40 R R) (Ji1 (κ := K113) 5 (off := 0) (vc := [.slice aX ([0] : List Int).length aS]) (cs' := [.slice aX ([0] : List Int).length aS, .slice none 0 0]) R R R R R R R Z40 R R (f19.stp (S24.tr S114) R R) R R fun w117 S118 f119 => ⟨tv, Jo ?_⟩)⟩))
 cases h
 exact Jw1 _ ⟨K113, aX, aS, none, 0, R, (S114.tr S118).wk R, (f115.stp S118 R R), Ow.nil, f119⟩ (KM R)
 rintro _ w105 ⟨K106, aB, az, ap, ax, rfl, S107, f108, f109, f110⟩
 have h := hK104
 cases h
 exact Jw1 _ ⟨K106, aB, az, ap, ax, R, S107.wk R, f108, f109, f110⟩ (KM R)
 refine JT fun h => Jx R (Ja [1, 1, 2, 1] R (Jn1 (κ := K23) (E := E6) 6 [] (parts := [(0, .const (vi 0)), (1, .const (vi 1))]) (cells := [vi 0, vi 1]) (xs := ([0, 1] : List Int)) R R R R R R Y40 Tryzinfo2 R R R R R R R R R R ⟨[vi 0], [vi 1], Zl K23 w22 [], Zl K23 w22 [], R, Zl.sp (l1 := []) (l2 := []) R, Zl.sr (l1 := []) (l2 := []), R, ⟨[vi 1], [], Zl K23 w22 [], Zl K23 w22 [], R, Zl.sp (l1 := []) (l2 := []) R, Zl.sr (l1 := []) (l2 := []), R, R⟩⟩ fun aZ aL w90 K91 S92 f93 => ⟨tv, Jn1 (κ := K91) (E := E6) 7 [] (parts := [(0, .const (vi 1))]) (cells := [vi 1]) (xs := ([1] : List Int)) R R R R R R Y40 Tryzinfo2 R R R R R R R R R R ⟨[vi 1], [], Zl K91 w90 [], Zl K91 w90 [], R, Zl.sp (l1 := []) (l2 := []) R, Zl.sr (l1 := []) (l2 := []), R, R⟩ fun aV aR w94 K95 S96 f97 => ⟨tv, Jf R (rn_build (parts := [(0, .tmp 33), (1, .tmp 34)]) (cells := [.slice aZ ([0, 1] : List Int).length aL, .slice aV ([1] : List Int).length aR]) R R (by kernel_rfl)) (Jj1 (κ := K95) 5 (vc := [.slice aZ ([0, 1] : List Int).length aL, .slice aV ([1] : List Int).length aR]) R R R R R R R Z92 R R (f19.stp (S24.tr (S92.tr S96)) R R) R fun w99 S100 f101 => ⟨tv, Jo ?_⟩)⟩⟩))
 cases h
 exact Jw1 _ ⟨K95, aZ, aL, aV, aR, R, (S92.tr (S96.tr S100)).wk R, (f93.stp (S96.tr S100) R R), (f97.stp S100 R R), f101⟩ (KM R)
 rintro _ w83 ⟨K84, al, aF, aD, ay, rfl, S85, f86, f87, f88⟩
 have h := hK82
 cases h
 exact Jw1 _ ⟨K84, al, aF, aD, ay, R, S85.wk R, f86, f87, f88⟩ (KM R)
 refine JT fun h => Jx R (Ja [1, 1, 2, 1] R (Jn1 (κ := K23) (E := E6) 6 [] (parts := [(0, .const (vi 1))]) (cells := [vi 1]) (xs := ([1] : List Int)) R R R R R R Y40 Tryzinfo2 R R R R R R R R R R ⟨[vi 1], [], Zl K23 w22 [], Zl K23 w22 [], R, Zl.sp (l1 := []) (l2 := []) R, Zl.sr (l1 := []) (l2 := []), R, R⟩ fun aH aI w68 K69 S70 f71 => ⟨tv, Jn1 (κ := K69) (E := E6) 7 [] (parts := [(0, .const (vi 0))]) (cells := [vi 0]) (xs := ([0] : List Int)) R R R R R R Y40 Tryzinfo2 R R R R R R R R R R ⟨[vi 0], [], Zl K69 w68 [], Zl K69 w68 [], R, Zl.sp (l1 := []) (l2 := []) R, Zl.sr (l1 := []) (l2 := []), R, R⟩ fun aW aY w72 K73 S74 f75 => ⟨tv, Jf R (rn_build (parts := [(0, .tmp 28), (1, .tmp 29)]) (cells := [.slice aH ([1] : List Int).length aI, .slice aW ([0] : List Int).length aY]) R R (by kernel_rfl)) (Jj1 (κ := K73) 5 (vc := [.slice aH ([1] : List Int).length aI, .slice aW ([0] : List Int).length aY]) R R R R R R R Z92 R R (f19.stp (S24.tr (S70.tr S74)) R R) R fun w77 S78 f79 => ⟨tv, Jo ?_⟩)⟩⟩))
 cases h
 exact Jw1 _ ⟨K73, aH, aI, aW, aY, R, (S70.tr (S74.tr S78)).wk R, (f71.stp (S74.tr S78) R R), (f75.stp S78 R R), f79⟩ (KM R)
 rintro _ w61 ⟨K62, av, aE, aC, aA, rfl, S63, f64, f65, f66⟩
 have h := hK60
 cases h
 exact Jw1 _ ⟨K62, av, aE, aC, aA, R, S63.wk R, f64, f65, f66⟩ (KM R)
 refine JT fun h => Jx R (Je [2] R (Jb 1 R (Ja [1, 2, 1] R (Jn1 (κ := K23) (E := E6) 6 [] (parts := [(0, .const (vi 2))]) (cells := [vi 2]) (xs := ([2] : List Int)) R R R R R R Y40 Tryzinfo2 R R R R R R R R R R ⟨[vi 2], [], Zl K23 w22 [], Zl K23 w22 [], R, Zl.sp (l1 := []) (l2 := []) R, Zl.sr (l1 := []) (l2 := []), R, R⟩ fun aP aM w51 K52 S53 f54 => ⟨tv, Jf R (Jb2 U92 R Z40 R R) (Ji1 (κ := K52) 5 (off := 0) (vc := [.slice aP ([2] : List Int).length aM]) (cs' := [.slice aP ([2] : List Int).length aM, .slice none 0 0]) R R R R R R R Z40 R R (f19.stp (S24.tr S53) R R) R R fun w56 S57 f58 => ⟨tv, Jo ?_⟩)⟩))))
 cases h
 exact Jw1 _ ⟨K52, aP, aM, none, 0, R, (S53.tr S57).wk R, (f54.stp S57 R R), Ow.nil, f58⟩ (KM R)
 rintro _ w44 ⟨K45, au, ar, aw, an, rfl, S46, f47, f48, f49⟩
 have h := hK43
 cases h
 exact Jw1 _ ⟨K45, au, ar, aw, an, R, S46.wk R, f47, f48, f49⟩ (KM R)
 refine JT fun h => Jx R (Ja [1, 2, 1] R (Jn1 (κ := K23) (E := E6) 6 [] (parts := [(0, .const (vi 1))]) (cells := [vi 1]) (xs := ([1] : List Int)) R R R R R R Y40 Tryzinfo2 R R R R R R R R R R ⟨[vi 1], [], Zl K23 w22 [], Zl K23 w22 [], R, Zl.sp (l1 := []) (l2 := []) R, Zl.sr (l1 := []) (l2 := []), R, R⟩ fun aJ aN w34 K35 S36 f37 => ⟨tv, Jf R (Jb2 U92 R Z40 R R) (Ji1 (κ := K35) 5 (off := 0) (vc := [.slice aJ ([1] : List Int).length aN]) (cs' := [.slice aJ ([1] : List Int).length aN, .slice none 0 0]) R R R R R R R Z40 R R (f19.stp (S24.tr S36) R R) R R fun w39 S40 f41 => ⟨tv, Jo ?_⟩)⟩))
 cases h
 exact Jw1 _ ⟨K35, aJ, aN, none, 0, R, (S36.tr S40).wk R, (f37.stp S40 R R), Ow.nil, f41⟩ (KM R)
 rintro _ w27 ⟨K28, af, ad, ae, ac, rfl, S29, f30, f31, f32⟩
 have h := hK26
 refine Jz (Jp (Je [1, 1, 2, 1, 1] R (Jl tv R R R R (Jd2 (cs := [.slice af q2.2.1.length ad, .slice ae q2.2.2.length ac]) I92 Z92 R R R (haE f32.cells)) (Jn1 (κ := K28) (E := Pair.ep92) 8 [6, 7] (parts := [(0, .tmp 40)]) (cells := [.slice af q2.2.1.length ad, .slice ae q2.2.2.length ac]) (xs := ([(⟨q2.2.1, q2.2.2⟩ : Pair)] : List Pair)) R R R R R R Y79 Tryzinfo92 R R R R R R R R R R ⟨[.slice af q2.2.1.length ad, .slice ae q2.2.2.length ac], [], Zl K28 w27 [6, 7], Zl K28 w27 [], R, Zl.sp (l1 := [6, 7]) (l2 := []) R, Zl.sr (l1 := [6, 7]) (l2 := []), ⟨[.slice af q2.2.1.length ad], [.slice ae q2.2.2.length ac], Zl K28 w27 [6], Zl K28 w27 [7], R, Zl.sp (l1 := [6]) (l2 := [7]) R, Zl.sr (l1 := [6]) (l2 := [7]), ⟨_, _, R, f30⟩, ⟨_, _, R, f31⟩⟩, R⟩ fun ab aa w135 K136 S137 f138 => ⟨tv, Jf R (rn_build (parts := [(1, .tmp 41)]) (cells := [.slice none 0 0, .slice ab ([(⟨q2.2.1, q2.2.2⟩ : Pair)] : List Pair).length aa]) R R (by kernel_rfl)) (Jg1 (κ := K136) 9 R R R R R X94 R fun b7 w139 K140 S141 f142 => ⟨tv, Jj1 (κ := K140) 9 (vc := [.slice none 0 0, .slice ab ([(⟨q2.2.1, q2.2.2⟩ : Pair)] : List Pair).length aa]) R R R R R R R Z94 R R f142 R fun w143 S144 f145 => ⟨tv, Jd (Jq (Je [2, 2] R (Jb 2 R (Ob h fun _ hr146 h => ?_))))⟩⟩)⟩))))
 have hN146 := rng_ok hr146
 refine Ob h fun q8 hq148 hK147 => ?_
 clear h
 refine Jx1 (fun L w' => ∃ κ', ∃ s9 : (List (List Int)), ∃ ah ai, L = [(4, .pointer (some ⟨b4, 0, none⟩)), (7, .pointer (some ⟨b7, 0, none⟩))] ∧ Stp [9, 10, 11, 14] K140 w143 κ' w' ∧ Oc (Ep.own E6 2) 40 κ' w' 10 ah ai s9 ∧ Bc κ' w' 9 b7 94 [.slice ah s9.length ai, .slice ab ([(⟨q2.2.1, q2.2.2⟩ : Pair)] : List Pair).length aa] ∧ q8 = Sum.inr s9) ?_ ?_
 refine Jv (Jy1 (fun k L w' => ∃ κ' v44, ∃ s7 : (List (List Int)), ∃ aq ao, L = [(2, .pointer (some ⟨b2, 0, none⟩)), (3, .pointer (some ⟨b3, 0, none⟩)), (4, .pointer (some ⟨b4, 0, none⟩)), (7, .pointer (some ⟨b7, 0, none⟩)), (43, vi q2.1), (44, vi v44)] ∧ Stp [9, 10, 11, 14] K140 w143 κ' w' ∧ Oc (Ep.own E6 2) 40 κ' w' 10 aq ao s7 ∧ Bc κ' w' 9 b7 94 [.slice aq s7.length ao, .slice ab ([(⟨q2.2.1, q2.2.2⟩ : Pair)] : List Pair).length aa] ∧ 0 ≤ v44 ∧ Int.toNat (q2.1 - v44) = k ∧ cntM (i_monitorOf_b1 p0 p1) k v44 s7 = some q8) ⟨_, _, ⟨K140, 0, (([] : List (List Int)) : (List (List Int))), none, 0, R, (Jx2 _ _).wk R, Ow.nil, f145, (by decide), (by simp), hq148⟩, (KM R)⟩ ?_)
 rintro k _ w154 ⟨K155, v44, s7, aq, ao, rfl, S156, f157, f158, hj146, hJ146, h⟩
 rcases k with _ | k
 have hk159 := h; obtain ⟨o146, h⟩ := ex_eq (Sum.inr (Sum.inl s7) : Det ⊕ (((List (List Int))) ⊕ ((List (List Int)))))
 have hc146 : decide (v44 < q2.1) = false := Jo2 (by omega)
 refine Je [2] R (Jb 1 R (Jq (Jw2 R hc146 (Jc1 (Jt (Jt ?_))))))
 cases h
 have h := hk159
 refine Jb1 ?_
 cases h
 exact Jw1 _ ⟨K155, (s7 : (List (List Int))), aq, ao, R, S156.wk R, f157, f158, R⟩ (KM R)
 obtain ⟨o146, h, hk159⟩ := BI h; unfold i_monitorOf_b1 at h
 have hc146 : decide (v44 < q2.1) = true := Jn2 (by omega)
 refine Je [2] R (Jb 1 R (Jq (Jv2 R hc146 (Js (Jp (Jq (Jv (Je [2, 2] R (Jb 2 R (Je [1, 2] R (Jo1 (κ := K155) (E := E6) 11 R R R R R Y40 Tryzinfo2 R fun bi bf w160 K161 S162 f163 => ⟨tv, Jb 1 R (Jq (Je [1, 1, 2] R (Jl tv R R R R (Jd2 (cs := [vi p0.In, vi p0.Out]) I31 Z31 R R R (haE (f4.stp (S7.tr (S11.tr (S15.tr (S18.tr (S24.tr (S29.tr (S137.tr (S141.tr (S144.tr (S156.tr S162)))))))))) R R).cells)) (Ob h fun x49 hx49 h => Jh R R R C119 (i_lettersOf_ok (κ := fun b => mp [] 0 (K161 b)) (p0 := p0) hx49) ?_))))⟩)))))))))))
 rintro _ w165 ⟨k166, rfl, e167⟩
 obtain ⟨K168, S169, m170⟩ := Ji e167 12 R
 refine ⟨tv, Jb 1 R (Ob h fun _ hr172 h => ?_)⟩
 have hN172 := rng_ok hr172
 refine Ob h fun q11 hq174 hK173 => ?_
 clear h
 refine Jx1 (fun L w' => ∃ κ', ∃ s12 : (List Int), ∃ ak aj, L = [(2, .pointer (some ⟨b2, 0, none⟩)), (3, .pointer (some ⟨b3, 0, none⟩)), (4, .pointer (some ⟨b4, 0, none⟩)), (7, .pointer (some ⟨b7, 0, none⟩)), (9, .slice ak s12.length aj), (43, vi q2.1), (44, vi v44)] ∧ Stp [11] K168 w165 κ' w' ∧ Oc E6 2 κ' w' 11 ak aj s12 ∧ q11 = Sum.inr s12) ?_ ?_
 refine Jv (Jy1 (fun k L w' => ∃ κ' v50, ∃ s10 : (List Int), ∃ am aG, L = [(2, .pointer (some ⟨b2, 0, none⟩)), (3, .pointer (some ⟨b3, 0, none⟩)), (4, .pointer (some ⟨b4, 0, none⟩)), (7, .pointer (some ⟨b7, 0, none⟩)), (8, vi v44), (9, .slice am s10.length aG), (43, vi q2.1), (44, vi v44), (49, vi x49), (50, vi v50)] ∧ Stp [11] K168 w165 κ' w' ∧ Oc E6 2 κ' w' 11 am aG s10 ∧ 0 ≤ v50 ∧ Int.toNat (x49 - v50) = k ∧ cntM (i_monitorOf_b3 p1 v44) k v50 s10 = some q11) ⟨_, _, ⟨K168, 0, (([] : List Int) : (List Int)), bi, bf, R, (Jx2 _ _).wk R, (f163.stp S169 R R), (by decide), (by simp), hq174⟩, (KM R)⟩ ?_)
 rintro k _ w179 ⟨K180, v50, s10, am, aG, rfl, S181, f182, hj172, hJ172, h⟩
 rcases k with _ | k
 have hk184 := h; obtain ⟨o172, h⟩ := ex_eq (Sum.inr (Sum.inl s10) : Det ⊕ (((List Int)) ⊕ ((List Int))))
 have hc172 : decide (v50 < x49) = false := Jo2 (by omega)
 refine Je [2] R (Jb 1 R (Jq (Jw2 R hc172 (Jc1 (Jt (Jt ?_))))))
 cases h
 have h := hk184
 refine Jb1 ?_
 cases h
 exact Jw1 _ ⟨K180, (s10 : (List Int)), am, aG, R, S181.wk R, f182, R⟩ (KM R)
 obtain ⟨o172, h, hk184⟩ := BI h; unfold i_monitorOf_b3 at h
 have hc172 : decide (v50 < x49) = true := Jn2 (by omega)
 refine Je [2] R (Jb 1 R (Jq (Jv2 R hc172 (Js (Jp (Jq (Jv (Je [2, 2] R (Jb 2 R (Js1 (κ := K180) [3] none [(0, 2), (1, 2), (3, 2), (4, 2), (6, 2), (8, 2), (10, 2), (2, 0), (5, 0), (9, 0), (7, 1), (11, 1), (12, 1), (13, 1), (14, 1), (15, 2)] [] (by kernel_rfl) (by kernel_rfl) fun w186 S185 => Jn 1 R (Jf R (Jb2 U71 R Z2 R R) (Jn 1 R (Jf R (Jb2 U71 R Z40 R R) (Jn 1 R (Jf R (Jb2 U71 R Z40 R R) (Jn 1 R ?_))))))))))))))))
 have f187 := f20.stp (S24.tr (S29.tr (S137.tr (S141.tr (S144.tr (S156.tr (S162.tr (S169.tr (S181.tr S185))))))))) R R
 refine Jg R (Jc2 I2 R R (hvC (f187.ld 0 R R) R)) (Jg R (Jc2 I40 R R (hvC (f187.ld 1 R R) R)) (Jg R (Jc2 I40 R R (hvC (f187.ld 2 R R) R)) (Ob h fun x60 hx60 h => Jh R R R C73 (slices_Contains_I_int64_ok (κ := fun b => mp [] 0 (K180 b)) (Jl2 (g1_1.stp (S3.tr (S7.tr (S11.tr (S15.tr (S18.tr (S24.tr (S29.tr (S137.tr (S141.tr (S144.tr (S156.tr (S162.tr (S169.tr (S181.tr S185)))))))))))))) R R) (mp [] 0) R R) hx60) ?_)))
 rintro _ w189 ⟨k190, rfl, e191⟩
 obtain ⟨K192, S193, m194⟩ := Ji e191 14 R
 refine ⟨(S193.cl R), Ob h fun x64 hx64 h => Jh R R R C73 (slices_Contains_I_int64_ok (κ := fun b => mp [] 0 (K192 b)) (Jl2 (g1_2.stp (S3.tr (S7.tr (S11.tr (S15.tr (S18.tr (S24.tr (S29.tr (S137.tr (S141.tr (S144.tr (S156.tr (S162.tr (S169.tr (S181.tr (S185.tr S193))))))))))))))) R R) (mp [] 0) R R) hx64) ?_⟩
 rintro _ w197 ⟨k198, rfl, e199⟩
 obtain ⟨K200, S201, m202⟩ := Ji e199 16 R
 refine ⟨((S193.tr S201).cl R), Ob h fun x65 hx65 h => Jh R R R C151 (i_monitorStep_ok (κ := fun b => mp [] 0 (K200 b)) hx65) ?_⟩
 rintro _ w204 ⟨k205, rfl, e206⟩
 obtain ⟨K207, S208, m209⟩ := Ji e206 18 R
 have S001 := (S193.tr (S201.tr S208))
 refine ⟨(S001.cl R), Jn1 (κ := K207) (E := E6) 20 [] (parts := [(0, .tmp 65)]) (cells := [vi x65]) (xs := ([x65] : List Int)) R R R R R R Y40 Tryzinfo2 R R R R R R R R R R ⟨[vi x65], [], Zl K207 w204 [], Zl K207 w204 [], R, Zl.sp (l1 := []) (l2 := []) R, Zl.sr (l1 := []) (l2 := []), R, R⟩ fun bj bk w211 K212 S213 f214 => ⟨((S001.tr S213).cl R), Ob h fun x67 hx67 h => Jm1 (κ := K212) (E := E6) 11 [] R R R R R R R R R Y40 Tryzinfo2 R R R R (f182.stp (S185.tr (S193.tr (S201.tr (S208.tr S213)))) R R) (Sl.srcP (pu_int _) f214.rdc) sy_false hx67 R fun bh bg w216 K217 S218 f219 => ⟨((S001.tr (S213.tr S218)).cl R), Jn 1 R (Jt1 (Jo (Jz (Jp (Ja [2, 2] R (Jc 2 R ?_))))))⟩⟩⟩
 have hw172 : IntKind.wrap .i64 (v50 + 1) = v50 + 1 := wr1 hj172 (Jm2 hc172) hN172
 rw [hw172]
 have hc172 := Jm2 hc172
 cases h
 exact Jz1 fun a ha => ⟨k, _, Ja3 _, ⟨K217, v50 + 1, (x67 : (List Int)), bh, bg, R, (S181.tr (S185.tr (S193.tr (S201.tr (S208.tr (S213.tr S218)))))).wk R, f219, by omega, by omega, hk184⟩, (ha.mm R)⟩
 rintro _ w175 ⟨K176, s12, ak, aj, rfl, S177, f178, rfl⟩
 have h := hK173
 dsimp only [aft] at h
 refine Jp (Ja [2, 1, 2, 1, 1, 2, 1] R (Jf R (Jb2 U94 R Z24 R R) ?_))
 have f220 := f158.stp (S162.tr (S169.tr S177)) R R
 refine Jl tv R R R R (Jc2 I24 R R (hvE (f220.ld 0 R R))) (Jn 1 R (Jn1 (κ := K176) (E := (Ep.own E6 2)) 14 [11] (parts := [(0, .tmp 71)]) (cells := [.slice ak s12.length aj]) (xs := ([s12] : List (List Int))) R R R R R R Y24 Tryzinfo40 R R R R R R R R R R ⟨[.slice ak s12.length aj], [], Zl K176 w175 [11], Zl K176 w175 [], R, Zl.sp (l1 := [11]) (l2 := []) R, Zl.sr (l1 := [11]) (l2 := []), ⟨_, _, R, f178⟩, R⟩ fun bm bl w221 K222 S223 f224 => ⟨tv, Ob h fun x73 hx73 h => Jm1 (κ := K222) (E := (Ep.own E6 2)) 10 [14] R R R R R R R R R Y24 Tryzinfo40 R R R R (f157.stp (S162.tr (S169.tr (S177.tr S223))) R R) f224.src (sy_one R) hx73 R fun aK aO w226 K227 S228 f229 => ⟨tv, Jf R (Jb2 U94 R Z24 R R) (Ji1 (κ := K227) 9 (off := 0) (vc := [.slice aK x73.length aO]) (cs' := [.slice aK x73.length aO, .slice ab ([(⟨q2.2.1, q2.2.2⟩ : Pair)] : List Pair).length aa]) R R R R R R R Z24 R R (f220.stp (S223.tr S228) R R) R R fun w231 S232 f233 => ⟨tv, Jo (Jz (Jp (Ja [2, 2] R (Jc 2 R ?_))))⟩)⟩⟩))
 have hw146 : IntKind.wrap .i64 (v44 + 1) = v44 + 1 := wr1 hj146 (Jm2 hc146) hN146
 rw [hw146]
 have hc146 := Jm2 hc146
 cases h
 exact Jz1 fun a ha => ⟨k, _, Ja3 _, ⟨K227, v44 + 1, (x73 : (List (List Int))), aK, aO, R, (S156.tr (S162.tr (S169.tr (S177.tr (S223.tr (S228.tr S232)))))).wk R, (f229.stp S232 R R), f233, by omega, by omega, hk159⟩, (ha.mm R)⟩
 rintro _ w149 ⟨K150, s9, ah, ai, rfl, S151, f152, f153, rfl⟩
 have h := hK147
 dsimp only [aft] at h
 refine Jp (Je [1, 1] R (Jl tv R R R R (Jd2 (cs := [.slice ah s9.length ai, .slice ab ([(⟨q2.2.1, q2.2.2⟩ : Pair)] : List Pair).length aa]) I94 Z94 R R R (haE f153.cells)) (Jj1 (κ := K150) 4 (vc := [.slice ah s9.length ai, .slice ab ([(⟨q2.2.1, q2.2.2⟩ : Pair)] : List Pair).length aa]) R R R R R R R Z94 R R (f12.stp (S15.tr (S18.tr (S24.tr (S29.tr (S137.tr (S141.tr (S144.tr S151))))))) R R) R fun w236 S237 f238 => ⟨tv, Jd (Ju (Ja2 (l := [.cell 4 94]) V121 (res_cellA R f238 I94 Z94 R R) R ?_))⟩)))
 cases h
 exact ⟨(fun b => ren [(10, 2), (8, 3)] (K150 b)), ah, ai, ab, aa, R, ((hE.stp (S3.tr (S7.tr (S11.tr (S15.tr (S18.tr (S24.tr (S29.tr (S137.tr (S141.tr (S144.tr (S151.tr S237))))))))))) R R).map (ren [(10, 2), (8, 3)]) R R), ((f152.stp S237 R R).map (ren [(10, 2), (8, 3)]) R R), ((f138.stp (S141.tr (S144.tr (S151.tr S237))) R R).map (ren [(10, 2), (8, 3)]) R R)⟩
theorem l_eqMachine_ok {w : World} {κ : Col} {ad ae aa ah} {p0 : Machine} {ac af ab ai} {p1 : Machine} (g0_0 : Rd (Rp.sl (Rp.int .i64)) κ w 0 ad ae p0.Next) (g0_1 : Rd (Rp.sl (Rp.int .i64)) κ w 0 aa ah p0.Out) (g1_0 : Rd (Rp.sl (Rp.int .i64)) κ w 0 ac af p1.Next) (g1_1 : Rd (Rp.sl (Rp.int .i64)) κ w 0 ab ai p1.Out) {r : Bool} (h : l_eqMachine p0 p1 = some r) : Ret Tryz.prog 16 [.agg #[.slice ad p0.Next.length ae, .slice aa p0.Out.length ah], .agg #[.slice ac p1.Next.length af, .slice ab p1.Out.length ai]] w (fun v w' => ∃ (κ' : Col), v = .bool r ∧ Ent κ w κ' w') := by
 unfold l_eqMachine at h
 refine Ret.enter F16 R N16 R ?_
 dsimp only [envOf]
 have hE := Ent.refl κ w
 refine Je [1, 1, 2] R (Jf1 (κ := κ) 2 R R R R R R R fun b2 w1 K2 S3 f4 => ⟨tv, Jf1 (κ := K2) 3 R R R R R R R fun b3 w5 K6 S7 f8 => ⟨tv, Jb 1 R (Jq (Je [2, 1, 2, 1, 1, 2] R (Jf R (Jb2 U33 R Z24 R R) ?_)))⟩⟩)
 have f9 := f4.stp S7 R R
 refine Jl tv R R R R (Jc2 I24 R R (hvE (f9.ld 0 R R))) (Jf R (Jb2 U33 R Z24 R R) (Jl tv R R R R (Jc2 I24 R R (hvE (f8.ld 0 R R))) (Ob h fun x9 hx9 h => Jh R R R C54 (l_eqInt64SS_ok (κ := fun b => mp [] 0 (K6 b)) (Jl2 (g0_0.stp (S3.tr S7) R R) (mp [] 0) R R) (Jl2 (g1_0.stp (S3.tr S7) R R) (mp [] 0) R R) hx9) ?_)))
 rintro _ w12 ⟨k13, rfl, e14⟩
 obtain ⟨K15, S16, m17⟩ := Ji e14 4 R
 refine ⟨tv, Jb 1 R ?_⟩
 revert h
 cases ht19 : (!x9)
 refine JF fun h => Jy R (Js (Jp (Jq (Je [2, 1, 2, 1, 1, 2] R (Jf R (Jb2 U33 R Z24 R R) (Jl tv R R R R (Jc2 I24 R R (hvE ((f9.stp S16 R R).ld 1 R R))) (Jf R (Jb2 U33 R Z24 R R) (Jl tv R R R R (Jc2 I24 R R (hvE ((f8.stp S16 R R).ld 1 R R))) (Ob h fun x15 hx15 h => Jh R R R C54 (l_eqInt64SS_ok (κ := fun b => mp [] 0 (K15 b)) (Jl2 (g0_1.stp (S3.tr (S7.tr S16)) R R) (mp [] 0) R R) (Jl2 (g1_1.stp (S3.tr (S7.tr S16)) R R) (mp [] 0) R R) hx15) ?_)))))))))
 rintro _ w25 ⟨k26, rfl, e27⟩
 obtain ⟨K28, S29, m30⟩ := Ji e27 6 R
 refine ⟨tv, Jb 1 R ?_⟩
 revert h
 cases ht32 : (!x15)
 refine JF fun h => Jy R (Js (Jp (Je [2] R (Jb 1 R (Ju (Ja2 (l := [.tmp 4]) V16 (Jp2 R R) R ?_))))))
 cases h
 exact ⟨K28, R, (hE.stp (S3.tr (S7.tr (S16.tr S29))) R R)⟩
 refine JT fun h => Jx R (Je [2] R (Jb 1 R (Ju (Jw (Ja2 (l := [.tmp 4]) V16 (Jp2 R R) R ?_)))))
 cases h
 exact ⟨K28, R, (hE.stp (S3.tr (S7.tr (S16.tr S29))) R R)⟩
 refine JT fun h => Jx R (Je [2] R (Jb 1 R (Ju (Jw (Ja2 (l := [.tmp 4]) V16 (Jp2 R R) R ?_)))))
 cases h
 exact ⟨K15, R, (hE.stp (S3.tr (S7.tr S16)) R R)⟩
theorem l_markMachine_ok {w : World} {κ : Col} {ac ad aa ab} {p0 : Machine} {p1 : Int} (g0_0 : Oc (Ep.own E6 2) 40 κ w 2 ac ad p0.Next) (g0_1 : Oc (Ep.own E6 2) 40 κ w 3 aa ab p0.Out) {r : Int × (List (List Int)) × (List (List Int))} (h : l_markMachine p0 p1 = some r) : Ret Tryz.prog 21 [.agg #[.slice ac p0.Next.length ad, .slice aa p0.Out.length ab], vi p1] w (fun v w' => ∃ (κ' : Col), v = vi r.1 ∧ Ent κ w κ' w' ∧ Oc (Ep.own E6 2) 40 κ' w' 2 ac ad r.2.1 ∧ p0.Next.length = r.2.1.length ∧ Oc (Ep.own E6 2) 40 κ' w' 3 aa ab r.2.2 ∧ p0.Out.length = r.2.2.length) := by
 unfold l_markMachine at h
 refine Ret.enter F21 R N21 R ?_
 dsimp only [envOf]
 have hE := Ent.refl κ w
 refine Je [1, 2] R (Jf1 (κ := κ) 4 R R R R R R R fun b2 w1 K2 S3 f4 => ⟨tv, Jb 1 R (Je [2, 1, 2, 1, 2] R (Jf R (Jb2 U33 R Z24 R R) (Jl tv R R R R (Jc2 I24 R R (hvE (f4.ld 0 R R))) (Jn 1 R (Ob h fun x8 hx8 h => Jh R R R C57 (l_markInt64SS_ok (κ := fun b => mp [(2, 2)] 0 (K2 b)) ((g0_0.stp S3 R R).map (mp [(2, 2)] 0) R R) hx8) ?_)))))⟩)
 rintro _ w6 ⟨k7, rfl, e8, f9, hn10⟩
 obtain ⟨K11, S12, m13⟩ := Ji e8 5 R
 refine ⟨tv, Jb 1 R (Je [2, 1, 2, 1, 2] R (Jf R (Jb2 U33 R Z24 R R) (Jl tv R R R R (Jc2 I24 R R (hvE ((f4.stp S12 R R).ld 1 R R))) (Jn 1 R (Ob h fun x12 hx12 h => Jh R R R C57 (l_markInt64SS_ok (κ := fun b => mp [(3, 2)] 0 (K11 b)) ((g0_1.stp (S3.tr S12) R R).map (mp [(3, 2)] 0) R R) hx12) ?_)))))⟩
 rintro _ w18 ⟨k19, rfl, e20, f21, hn22⟩
 obtain ⟨K23, S24, m25⟩ := Ji e20 8 R
 refine ⟨tv, Jb 1 R (Je [2, 2] R (Jb 2 R (Ju (Ja2 (l := [.tmp 4]) V21 (Jp2 R R) R ?_))))⟩
 cases h
 exact ⟨(fun b => ren [(7, 2), (10, 3)] (K23 b)), R, ((hE.stp (S3.tr (S12.tr S24)) R R).map (ren [(7, 2), (10, 3)]) R R), (((f9.mx (no_own (no_int _) _) m13 R (R : 5 + 2 = 7)).stp S24 R R).map (ren [(7, 2), (10, 3)]) R R), (hn10), ((f21.mx (no_own (no_int _) _) m25 R (R : 8 + 2 = 10)).map (ren [(7, 2), (10, 3)]) R R), (hn22)⟩
end Go.Proofs.YtcmamhmpoinmnaaGreat
