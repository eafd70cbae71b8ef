/- The walks, part 2. By program. -/
import Derived.Test.YtcmamhmpoinmnaaGreatFns0BR
import Derived.Test.YtcmamhmpoinmnaaGreatFns1BR
set_option linter.unusedVariables false
set_option linter.unusedSimpArgs false
namespace Go.Proofs.YtcmamhmpoinmnaaGreat
open Go Go.Wk Go.Proofs
set_option maxRecDepth 100000
set_option maxHeartbeats 1000000
theorem l_w9Clauses_ok {w : World} {κ : Col} {ah aj} {p0 : dice} {p1 : Int} {b0} (g0_0 : Rd (Rp.int .u8) κ w 0 ah aj p0.b) (gb0 : Bc κ w 2 b0 116 [.slice ah p0.b.length aj, vi p0.i, .int .u64 p0.h]) {r : (List Clause) × Int × Int} (h : l_w9Clauses p0 p1 = some r) : Ret Tryz.prog 36 [.pointer (some ⟨b0, 0, none⟩), vi p1] w (fun v w' => ∃ (κ' : Col) (ra0 : Option Addr) (ru0 : Nat), v = .slice ra0 r.1.length ru0 ∧ Ent κ w κ' w' ∧ Oc Clause.ep71 71 κ' w' 3 ra0 ru0 r.1 ∧ Bc κ' w' 2 b0 116 [.slice ah p0.b.length aj, vi r.2.1, .int .u64 r.2.2]) := by
 unfold l_w9Clauses at h
 refine Ret.enter F36 R N36 R ?_
 dsimp only [envOf]
 have hE := Ent.refl κ w
 refine Je [2] R (Jb 1 R (Je [1, 2] R (Jo1 (κ := κ) (E := Clause.ep71) 3 R R R R R Y35 Tryzinfo71 R fun a9 u9 w1 K2 S3 f4 => ⟨tv, Jb 1 R (Jq (Je [2, 2, 2, 1, 2] R (Jn 3 R (Ob h fun x13 hx13 h => ?_))))⟩)))
 have f5 := g0_0.stp S3 R R
 refine Jh R R R C82 (l_dice_below_ok (κ := fun b => mp [(2, 2)] 0 (K2 b)) (p0 := p0) (Jl2 f5 (mp [(2, 2)] 0) R R) ((gb0.stp S3 R R).map (mp [(2, 2)] 0) R R) hx13) ?_
 rintro _ w7 ⟨k8, rfl, e9, f10⟩
 obtain ⟨K11, S12, m13⟩ := Ji e9 4 R
 refine ⟨tv, Jb 1 R (Ob h fun q2 hq18 hK17 => ?_)⟩
 clear h
 refine Jx1 (fun L w' => ∃ κ', ∃ s3 : (List Clause) × Int × Int × Int, ∃ aq au, L = [(0, .pointer (some ⟨b0, 0, none⟩)), (5, .slice aq s3.1.length au)] ∧ Stp [3, 6, 9, 10, 11, 12, 13, 15, 18] K11 w7 κ' w' ∧ Oc Clause.ep71 71 κ' w' 3 aq au s3.1 ∧ Bc κ' w' 6 b0 116 [.slice ah p0.b.length aj, vi s3.2.2.1, .int .u64 s3.2.2.2] ∧ q2 = Sum.inr s3) ?_ ?_
 refine Jv (Jy1 (fun k L w' => ∃ κ', ∃ s1 : (List Clause) × Int × Int × Int, ∃ ab aa, L = [(0, .pointer (some ⟨b0, 0, none⟩)), (5, .slice ab s1.1.length aa), (6, vi s1.2.1)] ∧ Stp [3, 6, 9, 10, 11, 12, 13, 15, 18] K11 w7 κ' w' ∧ Oc Clause.ep71 71 κ' w' 3 ab aa s1.1 ∧ Bc κ' w' 6 b0 116 [.slice ah p0.b.length aj, vi s1.2.2.1, .int .u64 s1.2.2.2] ∧ whileM (l_w9Clauses_b0 p0) k s1 = some q2) ⟨_, _, ⟨K11, ((([] : List Clause) : (List Clause)), (x13.1 : Int), (x13.2.1 : Int), (x13.2.2 : Int)), a9, u9, R, (Jx2 _ _).wk R, (f4.stp S12 R R), (f10.mx m13 R (R : 4 + 2 = 6)), hq18⟩, (KM R)⟩ ?_)
 rintro k _ w24 ⟨K25, s1, ab, aa, rfl, S26, f27, f28, h⟩
 rcases k with _ | k
 cases h
 obtain ⟨o16, h, hk30⟩ := BI h; unfold l_w9Clauses_b0 at h
 refine Jq (Je [2, 2] R (Jb 2 R ?_))
 revert h
 cases ht31 : decide (0 < s1.2.1)
 refine JF fun h => Jy R (Jc1 (Jt (Jt ?_)))
 cases h
 have h := hk30
 refine Jb1 ?_
 cases h
 exact Jw1 _ ⟨K25, ((s1.1 : (List Clause)), (s1.2.1 : Int), (s1.2.2.1 : Int), (s1.2.2.2 : Int)), ab, aa, R, S26.wk R, f27, f28, R⟩ (KM R)
 refine JT fun h => Jx R (Js (Jp (Jq (Jv (Je [2, 1, 2, 2, 1, 1] R (Jn 1 R (Ob h fun x19 hx19 h => ?_)))))))
 have f32 := f5.stp (S12.tr S26) R R
 refine Jh R R R C82 (l_dice_below_ok (κ := fun b => mp [(6, 2)] 0 (K25 b)) (p0 := (⟨p0.b, s1.2.2.1, s1.2.2.2⟩ : dice)) (Jl2 f32 (mp [(6, 2)] 0) R R) (f28.map (mp [(6, 2)] 0) R R) hx19) ?_
 rintro _ w33 ⟨k34, rfl, e35, f36⟩
 obtain ⟨K37, S38, m39⟩ := Ji e35 7 R
 refine ⟨tv, Jn 1 R (Jf R (rn_build (parts := [(0, .tmp 20)]) (cells := [vi (IntKind.i64.wrap (1 + x19.1)), .slice none 0 0, .slice none 0 0]) R R (by kernel_rfl)) (Jg1 (κ := K37) 10 R R R R R X71 R fun b7 w42 K43 S44 f45 => ⟨tv, Jj1 (κ := K43) 10 (vc := [vi (IntKind.i64.wrap (1 + x19.1)), .slice none 0 0, .slice none 0 0]) R R R R R R R Z71 R R f45 R fun w46 S47 f48 => ⟨tv, Jd (Jq (Je [2] R (Jb 1 R (Ob h fun q5 hq51 hK50 => ?_))))⟩⟩))⟩
 clear h
 refine Jx1 (fun L w' => ∃ κ', ∃ s6 : Int × Int × (List Int) × (List Int), ∃ ac ad ae af, L = [(0, .pointer (some ⟨b0, 0, none⟩)), (5, .slice ab s1.1.length aa), (6, vi s1.2.1), (7, .pointer (some ⟨b7, 0, none⟩))] ∧ Stp [9, 10, 11, 12, 15, 18] K43 w46 κ' w' ∧ Oc E6 2 κ' w' 11 ac ad s6.2.2.1 ∧ Oc E6 2 κ' w' 12 ae af s6.2.2.2 ∧ Bc κ' w' 9 b0 116 [.slice ah p0.b.length aj, vi s6.1, .int .u64 s6.2.1] ∧ Bc κ' w' 10 b7 71 [vi (IntKind.i64.wrap (1 + x19.1)), .slice ac s6.2.2.1.length ad, .slice ae s6.2.2.2.length af] ∧ q5 = Sum.inr s6) ?_ ?_
 refine Jv (Jy1 (fun k L w' => ∃ κ' v8, ∃ s4 : Int × Int × (List Int) × (List Int), ∃ an ao ai ak, L = [(0, .pointer (some ⟨b0, 0, none⟩)), (5, .slice ab s1.1.length aa), (6, vi s1.2.1), (7, .pointer (some ⟨b7, 0, none⟩)), (8, vi v8)] ∧ Stp [9, 10, 11, 12, 15, 18] K43 w46 κ' w' ∧ Oc E6 2 κ' w' 11 an ao s4.2.2.1 ∧ Oc E6 2 κ' w' 12 ai ak s4.2.2.2 ∧ Bc κ' w' 9 b0 116 [.slice ah p0.b.length aj, vi s4.1, .int .u64 s4.2.1] ∧ Bc κ' w' 10 b7 71 [vi (IntKind.i64.wrap (1 + x19.1)), .slice an s4.2.2.1.length ao, .slice ai s4.2.2.2.length ak] ∧ 0 ≤ v8 ∧ Int.toNat (4 - v8) = k ∧ cntM (l_w9Clauses_b2 p0 x19) k v8 s4 = some q5) ⟨_, _, ⟨K43, 0, ((x19.2.1 : Int), (x19.2.2 : Int), (([] : List Int) : (List Int)), (([] : List Int) : (List Int))), none, 0, none, 0, R, (Jx2 _ _).wk R, Ow.nil, Ow.nil, ((f36.mx m39 R (R : 7 + 2 = 9)).stp (S44.tr S47) R R), f48, (by decide), (by simp), hq51⟩, (KM R)⟩ ?_)
 rintro k _ w59 ⟨K60, v8, s4, an, ao, ai, ak, rfl, S61, f62, f63, f64, f65, hj49, hJ49, h⟩
 rcases k with _ | k
 have hk67 := h; obtain ⟨o49, h⟩ := ex_eq (Sum.inr (Sum.inl s4) : ((List Clause) × Int × Int) ⊕ ((Int × Int × (List Int) × (List Int)) ⊕ (Int × Int × (List Int) × (List Int))))
 have hc49 : decide (v8 < 4) = false := Jo2 (by omega)
 refine Jq (Je [2, 2] R (Jb 2 R (Jw2 R hc49 (Jc1 (Jt (Jt ?_))))))
 cases h
 have h := hk67
 refine Jb1 ?_
 cases h
 exact Jw1 _ ⟨K60, ((s4.1 : Int), (s4.2.1 : Int), (s4.2.2.1 : (List Int)), (s4.2.2.2 : (List Int))), an, ao, ai, ak, R, S61.wk R, f62, f63, f64, f65, R⟩ (KM R)
 obtain ⟨o49, h, hk67⟩ := BI h; unfold l_w9Clauses_b2 at h
 have hc49 : decide (v8 < 4) = true := Jn2 (by omega)
 refine Jq (Je [2, 2] R (Jb 2 R (Jv2 R hc49 (Js (Jp (Jq (Jv (Jq (Je [2, 1, 2] R (Jn 1 R (Ob h fun x27 hx27 h => ?_)))))))))))
 have f68 := f32.stp (S38.tr (S44.tr (S47.tr S61))) R R
 refine Jh R R R C82 (l_dice_below_ok (κ := fun b => mp [(9, 2)] 0 (K60 b)) (p0 := (⟨p0.b, s4.1, s4.2.1⟩ : dice)) (Jl2 f68 (mp [(9, 2)] 0) R R) (f64.map (mp [(9, 2)] 0) R R) hx27) ?_
 rintro _ w69 ⟨k70, rfl, e71, f72⟩
 obtain ⟨K73, S74, m75⟩ := Ji e71 13 R
 refine ⟨tv, Jb 1 R (Ob h fun q7 h hK78 => Jx1 (fun L w' => ∃ κ' al am, L = [(0, .pointer (some ⟨b0, 0, none⟩)), (5, .slice ab s1.1.length aa), (6, vi s1.2.1), (7, .pointer (some ⟨b7, 0, none⟩)), (8, vi v8)] ∧ Stp [10, 11] K73 w69 κ' w' ∧ Oc E6 2 κ' w' 11 al am q7 ∧ Bc κ' w' 10 b7 71 [vi (IntKind.i64.wrap (1 + x19.1)), .slice al q7.length am, .slice ai s4.2.2.2.length ak]) ?_ ?_)⟩
 revert h
 cases ht84 : (x27.1 == 0)
 refine JF fun h => Jy R (Js ?_)
 cases h
 exact Jw1 _ ⟨K73, an, ao, R, (Jx2 _ _).wk R, (f62.stp S74 R R), (f65.stp S74 R R)⟩ (KM R)
 refine JT fun h => Jx R (Ja [2, 1, 2, 1, 1, 2, 1] R (Jf R (Jb2 U71 R Z40 R R) ?_))
 have f85 := f65.stp S74 R R
 refine Jl tv R R R R (Jc2 I40 R R (hvE (f85.ld 1 R R))) (Jn 1 R (Jn1 (κ := K73) (E := E6) 16 [] (parts := [(0, .tmp 31)]) (cells := [vi v8]) (xs := ([v8] : List Int)) R R R R R R Y40 Tryzinfo2 R R R R R R R R R R ⟨[vi v8], [], Zl K73 w69 [], Zl K73 w69 [], R, Zl.sp (l1 := []) (l2 := []) R, Zl.sr (l1 := []) (l2 := []), R, R⟩ fun aF aD w86 K87 S88 f89 => ⟨tv, Ob h fun x33 hx33 h => Jm1 (κ := K87) (E := E6) 11 [] R R R R R R R R R Y40 Tryzinfo2 R R R R (f62.stp (S74.tr S88) R R) (Sl.srcP (pu_int _) f89.rdc) sy_false hx33 R fun ax aw w91 K92 S93 f94 => ⟨tv, Jf R (Jb2 U71 R Z40 R R) (Ji1 (κ := K92) 10 (off := 1) (vc := [.slice ax x33.length aw]) (cs' := [vi (IntKind.i64.wrap (1 + x19.1)), .slice ax x33.length aw, .slice ai s4.2.2.2.length ak]) R R R R R R R Z40 R R (f85.stp (S88.tr S93) R R) R R fun w96 S97 f98 => ⟨tv, Jo ?_⟩)⟩⟩))
 cases h
 exact Jw1 _ ⟨K92, ax, aw, R, (S88.tr (S93.tr S97)).wk R, (f94.stp S97 R R), f98⟩ (KM R)
 rintro _ w79 ⟨K80, al, am, rfl, S81, f82, f83⟩
 have h := hK78
 refine Jp (Je [2, 1, 2, 2, 2, 1, 2, 2, 2, 1, 2, 2, 2, 2, 1, 2, 2, 2] R (Jn 1 R (Ob h fun x36 hx36 h => Jh R R R C82 (l_dice_below_ok (κ := fun b => mp [(15, 2)] 0 (K80 b)) (p0 := (⟨p0.b, x27.2.1, x27.2.2⟩ : dice)) (Jl2 (f68.stp (S74.tr S81) R R) (mp [(15, 2)] 0) R R) (((f72.mx m75 R (R : 13 + 2 = 15)).stp S81 R R).map (mp [(15, 2)] 0) R R) hx36) ?_)))
 rintro _ w104 ⟨k105, rfl, e106, f107⟩
 obtain ⟨K108, S109, m110⟩ := Ji e106 16 R
 refine ⟨tv, Jn 2 R (Ob h fun p52 h hK113 => Ju1 [(4, 2), (5, 1), (6, 2), (7, 2), (8, 2), (9, 1), (10, 2), (11, 2), (12, 2), (13, 2), (14, 1), (15, 2), (16, 2), (17, 2)] [] (fun L w' => L = [(0, .pointer (some ⟨b0, 0, none⟩)), (5, .slice ab s1.1.length aa), (6, vi s1.2.1), (7, .pointer (some ⟨b7, 0, none⟩)), (8, vi v8), (52, .bool p52)] ∧ ∃ κ', Stp [] K108 w104 κ' w') tv ?_ ?_)⟩
 revert h
 cases ht114 : (x36.1 == 0)
 refine JF fun h => Jn 1 R (Jd1 R R R R (Jn 3 R (Jd1 R R R R (Jn 4 R (Jd1 R R R R (Jn 3 R ?_))))))
 cases h
 exact Jv1 _ tv ⟨R, _, (Jx2 _ _).wk R⟩ (KM R)
 refine JT fun h => Jf R (Jb2 U71 R Z2 R R) ?_
 have f115 := f83.stp S109 R R
 refine Jl tv R R R R (Jc2 I2 R R (hvE (f115.ld 0 R R))) (Jn 2 R (Ob h fun p46 h hK116 => Ju1 [(8, 2), (9, 1), (10, 2), (11, 2)] [(12, 2), (13, 2), (14, 1), (15, 2), (16, 2), (17, 2)] (fun L w' => L = [(0, .pointer (some ⟨b0, 0, none⟩)), (5, .slice ab s1.1.length aa), (6, vi s1.2.1), (7, .pointer (some ⟨b7, 0, none⟩)), (8, vi v8), (38, .bool true), (39, .pointer (some ((⟨b7, 0, none⟩ : Addr).add 0))), (40, vi (IntKind.i64.wrap (1 + x19.1))), (41, .bool ((IntKind.i64.wrap (1 + x19.1)) == 2)), (42, .bool ((IntKind.i64.wrap (1 + x19.1)) == 2)), (46, .bool p46)] ∧ ∃ κ', Stp [] K108 w104 κ' w') tv ?_ ?_))
 revert h
 cases ht117 : ((IntKind.i64.wrap (1 + x19.1)) == 2)
 refine JF fun h => Jf R (Jb2 U71 R Z2 R R) (Jl tv R R R R (Jc2 I2 R R (hvE (f115.ld 0 R R))) (Jn 2 R ?_))
 cases h
 exact Jv1 _ tv ⟨R, _, (Jx2 _ _).wk R⟩ (KM R)
 refine JT fun h => Jn 1 R (Jd1 R R R R (Jn 2 R ?_))
 cases h
 exact Jv1 _ tv ⟨R, _, (Jx2 _ _).wk R⟩ (KM R)
 rintro _ w118 _ ⟨rfl, K119, S120⟩
 have h := hK116
 refine Jn 1 R (Ob h fun p51 h hK121 => Ju1 [(13, 2), (14, 1), (15, 2), (16, 2)] [(17, 2)] (fun L w' => L = [(0, .pointer (some ⟨b0, 0, none⟩)), (5, .slice ab s1.1.length aa), (6, vi s1.2.1), (7, .pointer (some ⟨b7, 0, none⟩)), (8, vi v8), (38, .bool true), (39, .pointer (some ((⟨b7, 0, none⟩ : Addr).add 0))), (40, vi (IntKind.i64.wrap (1 + x19.1))), (41, .bool ((IntKind.i64.wrap (1 + x19.1)) == 2)), (42, .bool ((IntKind.i64.wrap (1 + x19.1)) == 2)), (46, .bool p46), (47, .bool p46), (51, .bool p51)] ∧ ∃ κ', Stp [] K119 w118 κ' w') tv ?_ ?_)
 revert h
 cases ht122 : p46
 refine JF fun h => Jf R (Jb2 U71 R Z2 R R) (Jl tv R R R R (Jc2 I2 R R (hvE ((f115.stp S120 R R).ld 0 R R))) (Jn 2 R ?_))
 cases h
 exact Jv1 _ tv ⟨R, _, (Jx2 _ _).wk R⟩ (KM R)
 refine JT fun h => Jn 1 R (Jd1 R R R R (Jn 2 R ?_))
 cases h
 exact Jv1 _ tv ⟨R, _, (Jx2 _ _).wk R⟩ (KM R)
 rintro _ w124 _ ⟨rfl, K125, S126⟩
 have h := hK121
 refine Jn 1 R ?_
 cases h
 exact Jv1 _ tv ⟨R, _, (S120.tr S126).wk R⟩ (KM R)
 rintro _ w127 _ ⟨rfl, K128, S129⟩
 have h := hK113
 refine Jd (Ob h fun q8 h hK130 => Jx1 (fun L w' => ∃ κ' ar ap, L = [(0, .pointer (some ⟨b0, 0, none⟩)), (5, .slice ab s1.1.length aa), (6, vi s1.2.1), (7, .pointer (some ⟨b7, 0, none⟩)), (8, vi v8)] ∧ Stp [10, 12] K128 w127 κ' w' ∧ Oc E6 2 κ' w' 12 ar ap q8 ∧ Bc κ' w' 10 b7 71 [vi (IntKind.i64.wrap (1 + x19.1)), .slice al q7.length am, .slice ar q8.length ap]) ?_ ?_)
 revert h
 cases ht136 : p52
 refine JF fun h => Jy R (Js ?_)
 cases h
 exact Jw1 _ ⟨K128, ai, ak, R, (Jx2 _ _).wk R, (f63.stp (S74.tr (S81.tr (S109.tr S129))) R R), (f83.stp (S109.tr S129) R R)⟩ (KM R)
 refine JT fun h => Jx R (Ja [2, 1, 2, 1, 1, 2, 1] R (Jf R (Jb2 U71 R Z40 R R) ?_))
 have f137 := f83.stp (S109.tr S129) R R
 refine Jl tv R R R R (Jc2 I40 R R (hvE (f137.ld 2 R R))) (Jn 1 R (Jn1 (κ := K128) (E := E6) 19 [] (parts := [(0, .tmp 55)]) (cells := [vi v8]) (xs := ([v8] : List Int)) R R R R R R Y40 Tryzinfo2 R R R R R R R R R R ⟨[vi v8], [], Zl K128 w127 [], Zl K128 w127 [], R, Zl.sp (l1 := []) (l2 := []) R, Zl.sr (l1 := []) (l2 := []), R, R⟩ fun aB aG w138 K139 S140 f141 => ⟨tv, Ob h fun x57 hx57 h => Jm1 (κ := K139) (E := E6) 12 [] R R R R R R R R R Y40 Tryzinfo2 R R R R (f63.stp (S74.tr (S81.tr (S109.tr (S129.tr S140)))) R R) (Sl.srcP (pu_int _) f141.rdc) sy_false hx57 R fun ay av w143 K144 S145 f146 => ⟨tv, Jf R (Jb2 U71 R Z40 R R) (Ji1 (κ := K144) 10 (off := 2) (vc := [.slice ay x57.length av]) (cs' := [vi (IntKind.i64.wrap (1 + x19.1)), .slice al q7.length am, .slice ay x57.length av]) R R R R R R R Z40 R R (f137.stp (S140.tr S145) R R) R R fun w148 S149 f150 => ⟨tv, Jo ?_⟩)⟩⟩))
 cases h
 exact Jw1 _ ⟨K144, ay, av, R, (S140.tr (S145.tr S149)).wk R, (f146.stp S149 R R), f150⟩ (KM R)
 rintro _ w131 ⟨K132, ar, ap, rfl, S133, f134, f135⟩
 have h := hK130
 refine Jz (Jp (Ja [2, 2, 2] R (Jc 3 R ?_)))
 have hw49 : IntKind.wrap .i64 (v8 + 1) = v8 + 1 := wr1 hj49 (Jm2 hc49) (by decide)
 rw [hw49]
 have hc49 := Jm2 hc49
 cases h
 exact Jz1 fun a ha => ⟨k, _, Ja3 _, ⟨(fun b => ren [(18, 9)] (K132 b)), v8 + 1, ((x36.2.1 : Int), (x36.2.2 : Int), (q7 : (List Int)), (q8 : (List Int))), al, am, ar, ap, R, (Jy2 ((S61.tr (S74.tr (S81.tr (S109.tr (S129.tr S133))))).wk R) [(18, 9)] R), ((f82.stp (S109.tr (S129.tr S133)) R R).map (ren [(18, 9)]) R R), (f134.map (ren [(18, 9)]) R R), (((f107.mx m110 R (R : 16 + 2 = 18)).stp (S129.tr S133) R R).map (ren [(18, 9)]) R R), (f135.map (ren [(18, 9)]) R R), by omega, by omega, hk67⟩, (ha.mm R)⟩
 rintro _ w52 ⟨K53, s6, ac, ad, ae, af, rfl, S54, f55, f56, f57, f58, rfl⟩
 have h := hK50
 dsimp only [aft] at h
 refine Jp (Ja [2, 1, 1, 1, 2] R (Jn 1 R (Jl tv R R R R (Jd2 (cs := [vi (IntKind.i64.wrap (1 + x19.1)), .slice ac s6.2.2.1.length ad, .slice ae s6.2.2.2.length af]) I71 Z71 R R R (haE f58.cells)) (Jn1 (κ := K53) (E := Clause.ep71) 13 [11, 12] (parts := [(0, .tmp 60)]) (cells := [vi (IntKind.i64.wrap (1 + x19.1)), .slice ac s6.2.2.1.length ad, .slice ae s6.2.2.2.length af]) (xs := ([(⟨(IntKind.i64.wrap (1 + x19.1)), s6.2.2.1, s6.2.2.2⟩ : Clause)] : List Clause)) R R R R R R Y35 Tryzinfo71 R R R R R R R R R R ⟨[vi (IntKind.i64.wrap (1 + x19.1)), .slice ac s6.2.2.1.length ad, .slice ae s6.2.2.2.length af], [], Zl K53 w52 [11, 12], Zl K53 w52 [], R, Zl.sp (l1 := [11, 12]) (l2 := []) R, Zl.sr (l1 := [11, 12]) (l2 := []), ⟨[vi (IntKind.i64.wrap (1 + x19.1))], [.slice ac s6.2.2.1.length ad, .slice ae s6.2.2.2.length af], Zl K53 w52 [], Zl K53 w52 [11, 12], R, Zl.sp (l1 := []) (l2 := [11, 12]) R, Zl.sr (l1 := []) (l2 := [11, 12]), R, ⟨[.slice ac s6.2.2.1.length ad], [.slice ae s6.2.2.2.length af], Zl K53 w52 [11], Zl K53 w52 [12], R, Zl.sp (l1 := [11]) (l2 := [12]) R, Zl.sr (l1 := [11]) (l2 := [12]), ⟨_, _, R, f55⟩, ⟨_, _, R, f56⟩⟩⟩, R⟩ fun aC aE w156 K157 S158 f159 => ⟨tv, Ob h fun x62 hx62 h => Jm1 (κ := K157) (E := Clause.ep71) 3 [13] R R R R R R R R R Y35 Tryzinfo71 R R R R (f27.stp (S38.tr (S44.tr (S47.tr (S54.tr S158)))) R R) f159.src (sy_one R) hx62 R fun az aA w161 K162 S163 f164 => ⟨tv, Jc 1 R (Jz (Jp (Ja [2, 2, 2] R (Jc 3 R ?_))))⟩⟩))))
 cases h
 exact Jz1 fun a ha => ⟨k, _, Ja3 _, ⟨(fun b => ren [(9, 6)] (K162 b)), ((x62 : (List Clause)), ((IntKind.i64.wrap (s1.2.1 - 1)) : Int), (s6.1 : Int), (s6.2.1 : Int)), az, aA, R, (Jy2 ((S26.tr (S38.tr (S44.tr (S47.tr (S54.tr (S158.tr S163)))))).wk R) [(9, 6)] R), (f164.map (ren [(9, 6)]) R R), ((f57.stp (S158.tr S163) R R).map (ren [(9, 6)]) R R), hk30⟩, (ha.mm R)⟩
 rintro _ w19 ⟨K20, s3, aq, au, rfl, S21, f22, f23, rfl⟩
 have h := hK17
 dsimp only [aft] at h
 refine Jp (Je [2, 2] R (Jb 2 R (Ju (Ja2 (l := [.tmp 4]) V36 (Jp2 R R) R ?_))))
 cases h
 exact ⟨(fun b => ren [(6, 2)] (K20 b)), aq, au, R, ((hE.stp (S3.tr (S12.tr S21)) R R).map (ren [(6, 2)]) R R), (f22.map (ren [(6, 2)]) R R), (f23.map (ren [(6, 2)]) R R)⟩
theorem slices_IndexFunc_I_int64__i_areLetters_1_ok {w : World} {κ : Col} {a0 u0} {p0 : (List Int)} {c1_0 : Int} {b1_0} (g0 : Rd (Rp.int .i64) κ w 0 a0 u0 p0) (gb1_0 : Bc κ w 0 b1_0 2 [vi c1_0]) {r : Int} (h : slices_IndexFunc_I_int64__i_areLetters_1 p0 c1_0 = some r) : Ret Tryz.prog 169 [.slice a0 p0.length u0, .func (.func 149) #[] #[.pointer (some ⟨b1_0, 0, none⟩)]] w (fun v w' => ∃ (κ' : Col), v = vi r ∧ Ent κ w κ' w') := by
 unfold slices_IndexFunc_I_int64__i_areLetters_1 at h
 refine Ret.enter F169 R N169 R ?_
 dsimp only [envOf]
 have hE := Ent.refl κ w
 refine Je [2] R (Jb 1 R (Jq (Je [2, 2, 2] R (Jn 1 R (Jf R (Je2 U40 R R) (Jb 1 R ?_))))))
 have hN1 : (p0.length : Int) ≤ 9223372036854775807 := g0.len_le
 refine Ob h fun q2 hq3 hK2 => ?_
 clear h
 refine Jx1 (fun L w' => ∃ κ', L = [(1, .func (.func 149) #[] #[.pointer (some ⟨b1_0, 0, none⟩)])] ∧ Stp [] κ w κ' w' ∧ q2 = Sum.inr ()) ?_ ?_
 refine Jv (Jy1 (fun k L w' => ∃ κ' v8, L = [(0, .slice a0 p0.length u0), (1, .func (.func 149) #[] #[.pointer (some ⟨b1_0, 0, none⟩)]), (7, vi (p0.length : Int)), (8, vi v8)] ∧ Stp [] κ w κ' w' ∧ 0 ≤ v8 ∧ Int.toNat ((p0.length : Int) - v8) = k ∧ cntM (slices_IndexFunc_I_int64__i_areLetters_1_b0 p0 c1_0) k v8 () = some q2) ⟨_, _, ⟨κ, 0, R, (Jx2 _ _).wk R, (by decide), (by simp), hq3⟩, (KM R)⟩ ?_)
 rintro k _ w7 ⟨K8, v8, rfl, S9, hj1, hJ1, h⟩
 rcases k with _ | k
 have hk10 := h; obtain ⟨o1, h⟩ := ex_eq (Sum.inr (Sum.inl ()) : Int ⊕ ((Unit) ⊕ (Unit)))
 have hc1 : decide (v8 < (p0.length : Int)) = false := Jo2 (by omega)
 refine Je [2] R (Jb 1 R (Jq (Jw2 R hc1 (Jc1 (Jt (Jt ?_))))))
 cases h
 have h := hk10
 refine Jb1 ?_
 cases h
 exact Jw1 _ ⟨K8, R, S9.wk R, R⟩ (KM R)
 obtain ⟨o1, h, hk10⟩ := BI h; unfold slices_IndexFunc_I_int64__i_areLetters_1_b0 at h
 have hc1 : decide (v8 < (p0.length : Int)) = true := Jn2 (by omega)
 refine Je [2] R (Jb 1 R (Jq (Jv2 R hc1 (Js (Jp (Jq (Jv (Je [2, 2] R (Jb 2 R (Je [2, 2, 2, 2, 1, 1] R (Jn 3 R (Ob h fun x14 hx14 h => Jf R (Jf2 g0 hx14 U40 Z2 R R R R) (Jl tv R R R R (Jc2 I2 R R (hvE ((g0.stp S9 R R).gInt hx14))) (Ob h fun x16 hx16 h => WO.callV R R R R R R R R C149 (i_areLetters_1_ok (κ := fun b => mp [] 0 (K8 b)) ((gb1_0.stp S9 R R).map (mp [] 0) R R) hx16) ?_))))))))))))))
 rintro _ w13 ⟨k14, rfl, e15⟩
 obtain ⟨K16, S17, m18⟩ := Ji e15 2 R
 refine ⟨tv, Jd ?_⟩
 revert h
 cases ht20 : x16
 refine JF fun h => Jy R (Js (Jz (Jp (Ja [2, 2] R (Jc 2 R ?_)))))
 have hw1 : IntKind.wrap .i64 (v8 + 1) = v8 + 1 := wr1 hj1 (Jm2 hc1) hN1
 rw [hw1]
 have hc1 := Jm2 hc1
 cases h
 exact Jz1 fun a ha => ⟨k, _, Ja3 _, ⟨K16, v8 + 1, R, (S9.tr S17).wk R, by omega, by omega, hk10⟩, (ha.mm R)⟩
 refine JT fun h => Jx R (Je [2, 2] R (Jb 2 R (Ju (Ja1 (Jw (Jw ?_))))))
 cases h
 obtain rfl := Option.some.inj hk10
 have h := hK2
 dsimp only [aft] at h
 refine Ja1 (Jq2 (Jw (Ja2 (l := [.tmp 4]) V169 (Jp2 R R) R ?_)))
 cases h
 exact ⟨K16, R, (hE.stp (S9.tr S17) R R)⟩
 rintro _ w4 ⟨K5, rfl, S6, rfl⟩
 have h := hK2
 dsimp only [aft] at h
 refine Jp (Je [2] R (Jb 1 R (Ju (Ja2 (l := [.tmp 4]) V169 (Jp2 R R) R ?_))))
 cases h
 exact ⟨K5, R, (hE.stp S6 R R)⟩
theorem slices_Contains_I_int64_ok {w : World} {κ : Col} {a0 u0} {p0 : (List Int)} {p1 : Int} (g0 : Rd (Rp.int .i64) κ w 0 a0 u0 p0) {r : Bool} (h : slices_Contains_I_int64 p0 p1 = some r) : Ret Tryz.prog 73 [.slice a0 p0.length u0, vi p1] w (fun v w' => ∃ (κ' : Col), v = .bool r ∧ Ent κ w κ' w') := by
 unfold slices_Contains_I_int64 at h
 refine Ret.enter F73 R N73 R ?_
 dsimp only [envOf]
 have hE := Ent.refl κ w
 refine Je [2] R (Jb 1 R (Je [2, 2, 1, 2, 2] R (Jn 2 R (Ob h fun x7 hx7 h => Jh R R R C122 (slices_Index_I_int64_ok (κ := fun b => mp [] 0 (κ b)) (Jl2 g0 (mp [] 0) R R) hx7) ?_))))
 rintro _ w1 ⟨k2, rfl, e3⟩
 obtain ⟨K4, S5, m6⟩ := Ji e3 2 R
 refine ⟨tv, Jb 2 R (Ju (Ja2 (l := [.tmp 4]) V73 (Jp2 R R) R ?_))⟩
 cases h
 exact ⟨K4, R, (hE.stp S5 R R)⟩
theorem i_loopsIn_1__i_loopsIn_2__i_loopsIn_1_ok (n : Nat) : ∀ {w : World} {κ : Col} {p0 : Int} {a1 u1} {p1 : (List (List Int))} {aa ab} {c2_0 : (List Int)} {a3 u3} {c0 : (List Bool)} {a4 u4} {c1 : (List Bool)} {b2_0 b3 b4 b5} (g1 : Rd (Rp.sl (Rp.int .i64)) κ w 0 a1 u1 p1) (g2_0 : Oc E6 2 κ w 2 aa ab c2_0) (g3 : Oc Ep.bool 4 κ w 3 a3 u3 c0) (g4 : Rd Rp.bool κ w 0 a4 u4 c1) (gb2_0 : Bc κ w 4 b2_0 40 [.slice aa c2_0.length ab]) (gb3 : Bc κ w 0 b3 135 [.slice a3 c0.length u3]) (gb4 : Bc κ w 0 b4 135 [.slice a4 c1.length u4]) (gb5 : Bc κ w 0 b5 173 [.func (.func 152) #[] #[.pointer (some ⟨b3, 0, none⟩), .pointer (some ⟨b4, 0, none⟩), .pointer (some ⟨b5, 0, none⟩)]]) {r : (List Int) × (List Bool)} (h : i_loopsIn_1__i_loopsIn_2__i_loopsIn_1 n p0 p1 c2_0 c0 c1 = some r), Ret Tryz.prog 152 [vi p0, .slice a1 p1.length u1, .func (.func 153) #[] #[.pointer (some ⟨b2_0, 0, none⟩)], .pointer (some ⟨b3, 0, none⟩), .pointer (some ⟨b4, 0, none⟩), .pointer (some ⟨b5, 0, none⟩)] w (fun v w' => ∃ (κ' : Col) (ma0 : Option Addr) (mu0 : Nat), v = .tuple #[] ∧ Ent κ w κ' w' ∧ Oc E6 2 κ' w' 2 ma0 mu0 r.1 ∧ Oc Ep.bool 4 κ' w' 3 a3 u3 r.2 ∧ c0.length = r.2.length ∧ Bc κ' w' 4 b2_0 40 [.slice ma0 r.1.length mu0]) := by
 induction n with
 | zero =>
  intro w κ p0 a1 u1 p1 aa ab c2_0 a3 u3 c0 a4 u4 c1 b2_0 b3 b4 b5 g1 g2_0 g3 g4 gb2_0 gb3 gb4 gb5 r h
  cases h
 | succ n ih =>
  intro w κ p0 a1 u1 p1 aa ab c2_0 a3 u3 c0 a4 u4 c1 b2_0 b3 b4 b5 g1 g2_0 g3 g4 gb2_0 gb3 gb4 gb5 r h
  have h : i_loopsIn_1__i_loopsIn_2__i_loopsIn_1_s (i_loopsIn_1__i_loopsIn_2__i_loopsIn_1 n) p0 p1 c2_0 c0 c1 = some r := h
  unfold i_loopsIn_1__i_loopsIn_2__i_loopsIn_1_s at h
  refine Ret.enter F152 R N152 R ?_
  dsimp only [envOf]
  have hE := Ent.refl κ w
  refine Je [1, 2, 2, 1] R (Jl tv R R R R (Jc2 I135 R R (hvE (gb3.ld 0 R R))) (Jn 1 R (Ob h fun x13 hx13 h => Jf R (Jf2 g3.rdc hx13 U135 Z4 R R R R) (Ob h fun y110 hy110 h => Jk1 (κ := κ) (E := Ep.bool) 3 [] R R R R R R R R Z4 R R R R g3 hy110 fun w1 K2 S3 f4 => ⟨tv, ?_⟩))))
  have hn5 : c0.length = y110.length := (Jt2 hy110).2.2.2.symm
  refine Jd (Jq (Je [2, 2, 2, 1, 2, 2] R (Jn 2 R (Ob h fun x16 hx16 h => Jf R (Jf2 g1 hx16 U24 Z40 R R R R) ?_))))
  have f6 := g1.stp S3 R R
  obtain ⟨ax16, ux16, f7, hl8⟩ := f6.gSl hx16
  refine Jl tv R R R R (Jc2 I40 R R (hvE hl8)) (Jf R (Je2 U40 R R) (Jb 1 R ?_))
  have hN9 : (x16.length : Int) ≤ 9223372036854775807 := f7.len_le
  refine Ob h fun q2 hq11 hK10 => ?_
  clear h
  refine Jx1 (fun L w' => ∃ κ', ∃ s3 : (List Int) × (List Bool), ∃ ai ah, L = [(0, vi p0), (2, .func (.func 153) #[] #[.pointer (some ⟨b2_0, 0, none⟩)]), (3, .pointer (some ⟨b3, 0, none⟩)), (4, .pointer (some ⟨b4, 0, none⟩)), (5, .pointer (some ⟨b5, 0, none⟩))] ∧ Stp [2, 3, 4, 7, 8, 9] K2 w1 κ' w' ∧ Oc E6 2 κ' w' 2 ai ah s3.1 ∧ Oc Ep.bool 4 κ' w' 3 a3 u3 s3.2 ∧ c0.length = s3.2.length ∧ Bc κ' w' 4 b2_0 40 [.slice ai s3.1.length ah] ∧ q2 = Sum.inr s3) ?_ ?_
  refine Jv (Jy1 (fun k L w' => ∃ κ' v19, ∃ s1 : (List Int) × (List Bool), ∃ ad ac, L = [(0, vi p0), (1, .slice a1 p1.length u1), (2, .func (.func 153) #[] #[.pointer (some ⟨b2_0, 0, none⟩)]), (3, .pointer (some ⟨b3, 0, none⟩)), (4, .pointer (some ⟨b4, 0, none⟩)), (5, .pointer (some ⟨b5, 0, none⟩)), (17, .slice ax16 x16.length ux16), (18, vi (x16.length : Int)), (19, vi v19)] ∧ Stp [2, 3, 4, 7, 8, 9] K2 w1 κ' w' ∧ Oc E6 2 κ' w' 2 ad ac s1.1 ∧ Oc Ep.bool 4 κ' w' 3 a3 u3 s1.2 ∧ c0.length = s1.2.length ∧ Bc κ' w' 4 b2_0 40 [.slice ad s1.1.length ac] ∧ 0 ≤ v19 ∧ Int.toNat ((x16.length : Int) - v19) = k ∧ cntM (i_loopsIn_1__i_loopsIn_2__i_loopsIn_1_b0 (i_loopsIn_1__i_loopsIn_2__i_loopsIn_1 n) p1 c1 x16) k v19 s1 = some q2) ⟨_, _, ⟨K2, 0, ((c2_0 : (List Int)), (y110 : (List Bool))), aa, ab, R, (Jx2 _ _).wk R, (g2_0.stp S3 R R), f4, hn5, (gb2_0.stp S3 R R), (by decide), (by simp), hq11⟩, (KM R)⟩ ?_)
  rintro k _ w19 ⟨K20, v19, s1, ad, ac, rfl, S21, f22, f23, hn24, f25, hj9, hJ9, h⟩
  rcases k with _ | k
  have hk28 := h; obtain ⟨o9, h⟩ := ex_eq (Sum.inr (Sum.inl s1) : ((List Int) × (List Bool)) ⊕ (((List Int) × (List Bool)) ⊕ ((List Int) × (List Bool))))
  have hc9 : decide (v19 < (x16.length : Int)) = false := Jo2 (by omega)
  refine Je [2] R (Jb 1 R (Jq (Jw2 R hc9 (Jc1 (Jt (Jt ?_))))))
  cases h
  have h := hk28
  refine Jb1 ?_
  cases h
  exact Jw1 _ ⟨K20, ((s1.1 : (List Int)), (s1.2 : (List Bool))), ad, ac, R, S21.wk R, f22, f23, hn24, f25, R⟩ (KM R)
  obtain ⟨o9, h, hk28⟩ := BI h; unfold i_loopsIn_1__i_loopsIn_2__i_loopsIn_1_b0 at h
  have hc9 : decide (v19 < (x16.length : Int)) = true := Jn2 (by omega)
  refine Je [2] R (Jb 1 R (Jq (Jv2 R hc9 (Js (Jp (Jq (Jv (Je [2, 1, 2] R (Ob h fun x21 hx21 h => Jf R (Jf2 f7 hx21 U40 Z2 R R R R) (Jl tv R R R R (Jc2 I2 R R (hvE ((f7.stp S21 R R).gInt hx21))) (Jb 1 R (Je [1, 2, 2, 1, 2, 1, 2, 2, 1, 2, 2] R ?_))))))))))))
  have f30 := gb4.stp (S3.tr S21) R R
  refine Jl tv R R R R (Jc2 I135 R R (hvE (f30.ld 0 R R))) (Jn 1 R (Ob h fun x25 hx25 h => Jf R (Jf2 g4 hx25 U135 Z4 R R R R) ?_))
  have f31 := g4.stp (S3.tr S21) R R
  refine Jl tv R R R R (Jc2 I4 R R (hvE (f31.gBool hx25))) (Jn 1 R (Ob h fun p33 h hK32 => Ju1 [(5, 1), (6, 2), (7, 2), (8, 1), (9, 2), (10, 2)] [] (fun L w' => L = [(0, vi p0), (1, .slice a1 p1.length u1), (2, .func (.func 153) #[] #[.pointer (some ⟨b2_0, 0, none⟩)]), (3, .pointer (some ⟨b3, 0, none⟩)), (4, .pointer (some ⟨b4, 0, none⟩)), (5, .pointer (some ⟨b5, 0, none⟩)), (10, vi x21), (17, .slice ax16 x16.length ux16), (18, vi (x16.length : Int)), (19, vi v19), (33, .bool p33)] ∧ ∃ κ', Stp [] K20 w19 κ' w') tv ?_ ?_))
  revert h
  cases ht33 : x25
  refine JF fun h => Jd1 R R R R (Jn 2 R (Jd1 R R R R (Jn 2 R ?_)))
  cases h
  exact Jv1 _ tv ⟨R, _, (Jx2 _ _).wk R⟩ (KM R)
  refine JT fun h => Jl tv R R R R (Jc2 I135 R R (hvE ((gb3.stp (S3.tr S21) R R).ld 0 R R))) (Jn 1 R (Ob h fun x30 hx30 h => Jf R (Jf2 f23.rdc hx30 U135 Z4 R R hn24 R) (Jl tv R R R R (Jc2 I4 R R (hvE (f23.rdc.gBool hx30))) (Jn 2 R ?_))))
  cases h
  exact Jv1 _ tv ⟨R, _, (Jx2 _ _).wk R⟩ (KM R)
  rintro _ w35 _ ⟨rfl, K36, S37⟩
  have h := hK32
  refine Jd (Ob h fun q4 h hK38 => Jx1 (fun L w' => ∃ κ' af ae, L = [(0, vi p0), (1, .slice a1 p1.length u1), (2, .func (.func 153) #[] #[.pointer (some ⟨b2_0, 0, none⟩)]), (3, .pointer (some ⟨b3, 0, none⟩)), (4, .pointer (some ⟨b4, 0, none⟩)), (5, .pointer (some ⟨b5, 0, none⟩)), (17, .slice ax16 x16.length ux16), (18, vi (x16.length : Int)), (19, vi v19)] ∧ Stp [2, 3, 4, 7, 8, 9] K36 w35 κ' w' ∧ Oc E6 2 κ' w' 2 af ae q4.1 ∧ Oc Ep.bool 4 κ' w' 3 a3 u3 q4.2 ∧ c0.length = q4.2.length ∧ Bc κ' w' 4 b2_0 40 [.slice af q4.1.length ae]) ?_ ?_)
  revert h
  cases ht46 : p33
  refine JF fun h => Jy R (Js ?_)
  cases h
  exact Jw1 _ ⟨K36, ad, ac, R, (Jx2 _ _).wk R, (f22.stp S37 R R), (f23.stp S37 R R), hn24, (f25.stp S37 R R)⟩ (KM R)
  refine JT fun h => Jx R (Ja [1, 2, 2, 2, 1] R ?_)
  have f47 := gb5.stp (S3.tr (S21.tr S37)) R R
  refine Jl tv R R R R (Jc2 I173 R R (hvE (f47.ld 0 R R))) (Jn 3 R (Ob h fun x38 hx38 h => WO.callV R R R R R R R R C152 (ih (κ := fun b => mp [(2, 2), (3, 3), (4, 4)] 0 (K36 b)) (Jl2 (f6.stp (S21.tr S37) R R) (mp [(2, 2), (3, 3), (4, 4)] 0) R R) ((f22.stp S37 R R).map (mp [(2, 2), (3, 3), (4, 4)] 0) R R) ((f23.stp S37 R R).map (mp [(2, 2), (3, 3), (4, 4)] 0) R R) (Jl2 (f31.stp S37 R R) (mp [(2, 2), (3, 3), (4, 4)] 0) R R) ((f25.stp S37 R R).map (mp [(2, 2), (3, 3), (4, 4)] 0) R R) (Bc.cast ((gb3.stp (S3.tr (S21.tr S37)) R R).map (mp [(2, 2), (3, 3), (4, 4)] 0) R R) (by simp only [hn24])) ((f30.stp S37 R R).map (mp [(2, 2), (3, 3), (4, 4)] 0) R R) (f47.map (mp [(2, 2), (3, 3), (4, 4)] 0) R R) hx38) ?_))
  rintro _ w55 ⟨k56, ak, aj, rfl, e57, f58, f59, hn60, f61⟩
  obtain ⟨K62, S63, m64⟩ := Ji e57 5 R
  refine ⟨tv, Jo ?_⟩
  cases h
  exact Jw1 _ ⟨(fun b => ren [(7, 2), (8, 3), (9, 4)] (K62 b)), ak, aj, R, (Jy2 (S63.wk R) [(7, 2), (8, 3), (9, 4)] R), ((f58.mx (no_int _) m64 R (R : 5 + 2 = 7)).map (ren [(7, 2), (8, 3), (9, 4)]) R R), ((f59.mx no_bool m64 R (R : 5 + 3 = 8)).map (ren [(7, 2), (8, 3), (9, 4)]) R R), (hn24.trans hn60), ((f61.mx m64 R (R : 5 + 4 = 9)).map (ren [(7, 2), (8, 3), (9, 4)]) R R)⟩ (KM R)
  rintro _ w39 ⟨K40, af, ae, rfl, S41, f42, f43, hn44, f45⟩
  have h := hK38
  refine Jz (Jp (Ja [2, 2] R (Jc 2 R ?_)))
  have hw9 : IntKind.wrap .i64 (v19 + 1) = v19 + 1 := wr1 hj9 (Jm2 hc9) hN9
  rw [hw9]
  have hc9 := Jm2 hc9
  cases h
  exact Jz1 fun a ha => ⟨k, _, Ja3 _, ⟨K40, v19 + 1, ((q4.1 : (List Int)), (q4.2 : (List Bool))), af, ae, R, (S21.tr (S37.tr S41)).wk R, f42, f43, hn44, f45, by omega, by omega, hk28⟩, (ha.mm R)⟩
  rintro _ w12 ⟨K13, s3, ai, ah, rfl, S14, f15, f16, hn17, f18, rfl⟩
  have h := hK10
  dsimp only [aft] at h
  refine Jp (Ja [2, 2, 1] R (Jn 2 R (Ob h fun x42 hx42 h => WO.callV R R R R R R R R C153 (i_loopsIn_2_ok (κ := fun b => mp [(2, 2), (4, 3)] 0 (K13 b)) (f15.map (mp [(2, 2), (4, 3)] 0) R R) (f18.map (mp [(2, 2), (4, 3)] 0) R R) hx42) ?_)))
  rintro _ w72 ⟨k73, al, am, rfl, e74, f75, f76⟩
  obtain ⟨K77, S78, m79⟩ := Ji e74 5 R
  refine ⟨tv, Jo (DN.end0 V152 ?_)⟩
  cases h
  exact ⟨(fun b => ren [(7, 2), (8, 4)] (K77 b)), al, am, R, ((hE.stp (S3.tr (S14.tr S78)) R R).map (ren [(7, 2), (8, 4)]) R R), ((f75.mx (no_int _) m79 R (R : 5 + 2 = 7)).map (ren [(7, 2), (8, 4)]) R R), ((f16.stp S78 R R).map (ren [(7, 2), (8, 4)]) R R), hn17, ((f76.mx m79 R (R : 5 + 3 = 8)).map (ren [(7, 2), (8, 4)]) R R)⟩
theorem i_loopsIn_1__i_loopsIn_3__i_loopsIn_1_ok (n : Nat) : ∀ {w : World} {κ : Col} {p0 : Int} {a1 u1} {p1 : (List (List Int))} {aa ab} {c2_0 : (List Int)} {a3 u3} {c0 : (List Bool)} {a4 u4} {c1 : (List Bool)} {b2_0 b3 b4 b5} (g1 : Rd (Rp.sl (Rp.int .i64)) κ w 0 a1 u1 p1) (g2_0 : Oc E6 2 κ w 2 aa ab c2_0) (g3 : Oc Ep.bool 4 κ w 3 a3 u3 c0) (g4 : Rd Rp.bool κ w 0 a4 u4 c1) (gb2_0 : Bc κ w 4 b2_0 40 [.slice aa c2_0.length ab]) (gb3 : Bc κ w 0 b3 135 [.slice a3 c0.length u3]) (gb4 : Bc κ w 0 b4 135 [.slice a4 c1.length u4]) (gb5 : Bc κ w 0 b5 173 [.func (.func 152) #[] #[.pointer (some ⟨b3, 0, none⟩), .pointer (some ⟨b4, 0, none⟩), .pointer (some ⟨b5, 0, none⟩)]]) {r : (List Int) × (List Bool)} (h : i_loopsIn_1__i_loopsIn_3__i_loopsIn_1 n p0 p1 c2_0 c0 c1 = some r), Ret Tryz.prog 152 [vi p0, .slice a1 p1.length u1, .func (.func 154) #[] #[.pointer (some ⟨b2_0, 0, none⟩)], .pointer (some ⟨b3, 0, none⟩), .pointer (some ⟨b4, 0, none⟩), .pointer (some ⟨b5, 0, none⟩)] w (fun v w' => ∃ (κ' : Col) (ma0 : Option Addr) (mu0 : Nat), v = .tuple #[] ∧ Ent κ w κ' w' ∧ Oc E6 2 κ' w' 2 ma0 mu0 r.1 ∧ Oc Ep.bool 4 κ' w' 3 a3 u3 r.2 ∧ c0.length = r.2.length ∧ Bc κ' w' 4 b2_0 40 [.slice ma0 r.1.length mu0]) := by
 induction n with
 | zero =>
  intro w κ p0 a1 u1 p1 aa ab c2_0 a3 u3 c0 a4 u4 c1 b2_0 b3 b4 b5 g1 g2_0 g3 g4 gb2_0 gb3 gb4 gb5 r h
  cases h
 | succ n ih =>
  intro w κ p0 a1 u1 p1 aa ab c2_0 a3 u3 c0 a4 u4 c1 b2_0 b3 b4 b5 g1 g2_0 g3 g4 gb2_0 gb3 gb4 gb5 r h
  have h : i_loopsIn_1__i_loopsIn_3__i_loopsIn_1_s (i_loopsIn_1__i_loopsIn_3__i_loopsIn_1 n) p0 p1 c2_0 c0 c1 = some r := h
  unfold i_loopsIn_1__i_loopsIn_3__i_loopsIn_1_s at h
  refine Ret.enter F152 R N152 R ?_
  dsimp only [envOf]
  have hE := Ent.refl κ w
  refine Je [1, 2, 2, 1] R (Jl tv R R R R (Jc2 I135 R R (hvE (gb3.ld 0 R R))) (Jn 1 R (Ob h fun x13 hx13 h => Jf R (Jf2 g3.rdc hx13 U135 Z4 R R R R) (Ob h fun y110 hy110 h => Jk1 (κ := κ) (E := Ep.bool) 3 [] R R R R R R R R Z4 R R R R g3 hy110 fun w1 K2 S3 f4 => ⟨tv, ?_⟩))))
  have hn5 : c0.length = y110.length := (Jt2 hy110).2.2.2.symm
  refine Jd (Jq (Je [2, 2, 2, 1, 2, 2] R (Jn 2 R (Ob h fun x16 hx16 h => Jf R (Jf2 g1 hx16 U24 Z40 R R R R) ?_))))
  have f6 := g1.stp S3 R R
  obtain ⟨ax16, ux16, f7, hl8⟩ := f6.gSl hx16
  refine Jl tv R R R R (Jc2 I40 R R (hvE hl8)) (Jf R (Je2 U40 R R) (Jb 1 R ?_))
  have hN9 : (x16.length : Int) ≤ 9223372036854775807 := f7.len_le
  refine Ob h fun q2 hq11 hK10 => ?_
  clear h
  refine Jx1 (fun L w' => ∃ κ', ∃ s3 : (List Int) × (List Bool), ∃ ai ah, L = [(0, vi p0), (2, .func (.func 154) #[] #[.pointer (some ⟨b2_0, 0, none⟩)]), (3, .pointer (some ⟨b3, 0, none⟩)), (4, .pointer (some ⟨b4, 0, none⟩)), (5, .pointer (some ⟨b5, 0, none⟩))] ∧ Stp [2, 3, 4, 7, 8, 9] K2 w1 κ' w' ∧ Oc E6 2 κ' w' 2 ai ah s3.1 ∧ Oc Ep.bool 4 κ' w' 3 a3 u3 s3.2 ∧ c0.length = s3.2.length ∧ Bc κ' w' 4 b2_0 40 [.slice ai s3.1.length ah] ∧ q2 = Sum.inr s3) ?_ ?_
  refine Jv (Jy1 (fun k L w' => ∃ κ' v19, ∃ s1 : (List Int) × (List Bool), ∃ ad ac, L = [(0, vi p0), (1, .slice a1 p1.length u1), (2, .func (.func 154) #[] #[.pointer (some ⟨b2_0, 0, none⟩)]), (3, .pointer (some ⟨b3, 0, none⟩)), (4, .pointer (some ⟨b4, 0, none⟩)), (5, .pointer (some ⟨b5, 0, none⟩)), (17, .slice ax16 x16.length ux16), (18, vi (x16.length : Int)), (19, vi v19)] ∧ Stp [2, 3, 4, 7, 8, 9] K2 w1 κ' w' ∧ Oc E6 2 κ' w' 2 ad ac s1.1 ∧ Oc Ep.bool 4 κ' w' 3 a3 u3 s1.2 ∧ c0.length = s1.2.length ∧ Bc κ' w' 4 b2_0 40 [.slice ad s1.1.length ac] ∧ 0 ≤ v19 ∧ Int.toNat ((x16.length : Int) - v19) = k ∧ cntM (i_loopsIn_1__i_loopsIn_3__i_loopsIn_1_b0 (i_loopsIn_1__i_loopsIn_3__i_loopsIn_1 n) p1 c1 x16) k v19 s1 = some q2) ⟨_, _, ⟨K2, 0, ((c2_0 : (List Int)), (y110 : (List Bool))), aa, ab, R, (Jx2 _ _).wk R, (g2_0.stp S3 R R), f4, hn5, (gb2_0.stp S3 R R), (by decide), (by simp), hq11⟩, (KM R)⟩ ?_)
  rintro k _ w19 ⟨K20, v19, s1, ad, ac, rfl, S21, f22, f23, hn24, f25, hj9, hJ9, h⟩
  rcases k with _ | k
  have hk28 := h; obtain ⟨o9, h⟩ := ex_eq (Sum.inr (Sum.inl s1) : ((List Int) × (List Bool)) ⊕ (((List Int) × (List Bool)) ⊕ ((List Int) × (List Bool))))
  have hc9 : decide (v19 < (x16.length : Int)) = false := Jo2 (by omega)
  refine Je [2] R (Jb 1 R (Jq (Jw2 R hc9 (Jc1 (Jt (Jt ?_))))))
  cases h
  have h := hk28
  refine Jb1 ?_
  cases h
  exact Jw1 _ ⟨K20, ((s1.1 : (List Int)), (s1.2 : (List Bool))), ad, ac, R, S21.wk R, f22, f23, hn24, f25, R⟩ (KM R)
  obtain ⟨o9, h, hk28⟩ := BI h; unfold i_loopsIn_1__i_loopsIn_3__i_loopsIn_1_b0 at h
  have hc9 : decide (v19 < (x16.length : Int)) = true := Jn2 (by omega)
  refine Je [2] R (Jb 1 R (Jq (Jv2 R hc9 (Js (Jp (Jq (Jv (Je [2, 1, 2] R (Ob h fun x21 hx21 h => Jf R (Jf2 f7 hx21 U40 Z2 R R R R) (Jl tv R R R R (Jc2 I2 R R (hvE ((f7.stp S21 R R).gInt hx21))) (Jb 1 R (Je [1, 2, 2, 1, 2, 1, 2, 2, 1, 2, 2] R ?_))))))))))))
  have f30 := gb4.stp (S3.tr S21) R R
  refine Jl tv R R R R (Jc2 I135 R R (hvE (f30.ld 0 R R))) (Jn 1 R (Ob h fun x25 hx25 h => Jf R (Jf2 g4 hx25 U135 Z4 R R R R) ?_))
  have f31 := g4.stp (S3.tr S21) R R
  refine Jl tv R R R R (Jc2 I4 R R (hvE (f31.gBool hx25))) (Jn 1 R (Ob h fun p33 h hK32 => Ju1 [(5, 1), (6, 2), (7, 2), (8, 1), (9, 2), (10, 2)] [] (fun L w' => L = [(0, vi p0), (1, .slice a1 p1.length u1), (2, .func (.func 154) #[] #[.pointer (some ⟨b2_0, 0, none⟩)]), (3, .pointer (some ⟨b3, 0, none⟩)), (4, .pointer (some ⟨b4, 0, none⟩)), (5, .pointer (some ⟨b5, 0, none⟩)), (10, vi x21), (17, .slice ax16 x16.length ux16), (18, vi (x16.length : Int)), (19, vi v19), (33, .bool p33)] ∧ ∃ κ', Stp [] K20 w19 κ' w') tv ?_ ?_))
  revert h
  cases ht33 : x25
  refine JF fun h => Jd1 R R R R (Jn 2 R (Jd1 R R R R (Jn 2 R ?_)))
  cases h
  exact Jv1 _ tv ⟨R, _, (Jx2 _ _).wk R⟩ (KM R)
  refine JT fun h => Jl tv R R R R (Jc2 I135 R R (hvE ((gb3.stp (S3.tr S21) R R).ld 0 R R))) (Jn 1 R (Ob h fun x30 hx30 h => Jf R (Jf2 f23.rdc hx30 U135 Z4 R R hn24 R) (Jl tv R R R R (Jc2 I4 R R (hvE (f23.rdc.gBool hx30))) (Jn 2 R ?_))))
  cases h
  exact Jv1 _ tv ⟨R, _, (Jx2 _ _).wk R⟩ (KM R)
  rintro _ w35 _ ⟨rfl, K36, S37⟩
  have h := hK32
  refine Jd (Ob h fun q4 h hK38 => Jx1 (fun L w' => ∃ κ' af ae, L = [(0, vi p0), (1, .slice a1 p1.length u1), (2, .func (.func 154) #[] #[.pointer (some ⟨b2_0, 0, none⟩)]), (3, .pointer (some ⟨b3, 0, none⟩)), (4, .pointer (some ⟨b4, 0, none⟩)), (5, .pointer (some ⟨b5, 0, none⟩)), (17, .slice ax16 x16.length ux16), (18, vi (x16.length : Int)), (19, vi v19)] ∧ Stp [2, 3, 4, 7, 8, 9] K36 w35 κ' w' ∧ Oc E6 2 κ' w' 2 af ae q4.1 ∧ Oc Ep.bool 4 κ' w' 3 a3 u3 q4.2 ∧ c0.length = q4.2.length ∧ Bc κ' w' 4 b2_0 40 [.slice af q4.1.length ae]) ?_ ?_)
  revert h
  cases ht46 : p33
  refine JF fun h => Jy R (Js ?_)
  cases h
  exact Jw1 _ ⟨K36, ad, ac, R, (Jx2 _ _).wk R, (f22.stp S37 R R), (f23.stp S37 R R), hn24, (f25.stp S37 R R)⟩ (KM R)
  refine JT fun h => Jx R (Ja [1, 2, 2, 2, 1] R ?_)
  have f47 := gb5.stp (S3.tr (S21.tr S37)) R R
  refine Jl tv R R R R (Jc2 I173 R R (hvE (f47.ld 0 R R))) (Jn 3 R (Ob h fun x38 hx38 h => WO.callV R R R R R R R R C152 (ih (κ := fun b => mp [(2, 2), (3, 3), (4, 4)] 0 (K36 b)) (Jl2 (f6.stp (S21.tr S37) R R) (mp [(2, 2), (3, 3), (4, 4)] 0) R R) ((f22.stp S37 R R).map (mp [(2, 2), (3, 3), (4, 4)] 0) R R) ((f23.stp S37 R R).map (mp [(2, 2), (3, 3), (4, 4)] 0) R R) (Jl2 (f31.stp S37 R R) (mp [(2, 2), (3, 3), (4, 4)] 0) R R) ((f25.stp S37 R R).map (mp [(2, 2), (3, 3), (4, 4)] 0) R R) (Bc.cast ((gb3.stp (S3.tr (S21.tr S37)) R R).map (mp [(2, 2), (3, 3), (4, 4)] 0) R R) (by simp only [hn24])) ((f30.stp S37 R R).map (mp [(2, 2), (3, 3), (4, 4)] 0) R R) (f47.map (mp [(2, 2), (3, 3), (4, 4)] 0) R R) hx38) ?_))
  rintro _ w55 ⟨k56, ak, aj, rfl, e57, f58, f59, hn60, f61⟩
  obtain ⟨K62, S63, m64⟩ := Ji e57 5 R
  refine ⟨tv, Jo ?_⟩
  cases h
  exact Jw1 _ ⟨(fun b => ren [(7, 2), (8, 3), (9, 4)] (K62 b)), ak, aj, R, (Jy2 (S63.wk R) [(7, 2), (8, 3), (9, 4)] R), ((f58.mx (no_int _) m64 R (R : 5 + 2 = 7)).map (ren [(7, 2), (8, 3), (9, 4)]) R R), ((f59.mx no_bool m64 R (R : 5 + 3 = 8)).map (ren [(7, 2), (8, 3), (9, 4)]) R R), (hn24.trans hn60), ((f61.mx m64 R (R : 5 + 4 = 9)).map (ren [(7, 2), (8, 3), (9, 4)]) R R)⟩ (KM R)
  rintro _ w39 ⟨K40, af, ae, rfl, S41, f42, f43, hn44, f45⟩
  have h := hK38
  refine Jz (Jp (Ja [2, 2] R (Jc 2 R ?_)))
  have hw9 : IntKind.wrap .i64 (v19 + 1) = v19 + 1 := wr1 hj9 (Jm2 hc9) hN9
  rw [hw9]
  have hc9 := Jm2 hc9
  cases h
  exact Jz1 fun a ha => ⟨k, _, Ja3 _, ⟨K40, v19 + 1, ((q4.1 : (List Int)), (q4.2 : (List Bool))), af, ae, R, (S21.tr (S37.tr S41)).wk R, f42, f43, hn44, f45, by omega, by omega, hk28⟩, (ha.mm R)⟩
  rintro _ w12 ⟨K13, s3, ai, ah, rfl, S14, f15, f16, hn17, f18, rfl⟩
  have h := hK10
  dsimp only [aft] at h
  refine Jp (Ja [2, 2, 1] R (Jn 2 R (Ob h fun x42 hx42 h => WO.callV R R R R R R R R C154 (i_loopsIn_3_ok (κ := fun b => mp [(2, 2), (4, 3)] 0 (K13 b)) (f15.map (mp [(2, 2), (4, 3)] 0) R R) (f18.map (mp [(2, 2), (4, 3)] 0) R R) hx42) ?_)))
  rintro _ w72 ⟨k73, al, am, rfl, e74, f75, f76⟩
  obtain ⟨K77, S78, m79⟩ := Ji e74 5 R
  refine ⟨tv, Jo (DN.end0 V152 ?_)⟩
  cases h
  exact ⟨(fun b => ren [(7, 2), (8, 4)] (K77 b)), al, am, R, ((hE.stp (S3.tr (S14.tr S78)) R R).map (ren [(7, 2), (8, 4)]) R R), ((f75.mx (no_int _) m79 R (R : 5 + 2 = 7)).map (ren [(7, 2), (8, 4)]) R R), ((f16.stp S78 R R).map (ren [(7, 2), (8, 4)]) R R), hn17, ((f76.mx m79 R (R : 5 + 3 = 8)).map (ren [(7, 2), (8, 4)]) R R)⟩
theorem s_SigOk_ok {w : World} {κ : Col} {p0 : Sig}  {r : Bool} (h : s_SigOk p0 = some r) : Ret Tryz.prog 84 [.agg #[vi p0.In, vi p0.Out]] w (fun v w' => ∃ (κ' : Col), v = .bool r ∧ Ent κ w κ' w') := by
 unfold s_SigOk at h
 refine Ret.enter F84 R N84 R ?_
 dsimp only [envOf]
 have hE := Ent.refl κ w
 refine Je [1, 2] R (Jf1 (κ := κ) 2 R R R R R R R fun b1 w1 K2 S3 f4 => ⟨tv, Jb 1 R (Je [2, 1, 1, 2, 2, 1, 1, 2, 2] R (Jf R (Jb2 U31 R Z2 R R) (Jl tv R R R R (Jc2 I2 R R (hvE (f4.ld 0 R R))) (Ob h fun x5 hx5 h => Jh R R R C77 (s_l1In_ok (κ := fun b => mp [] 0 (K2 b)) hx5) ?_))))⟩)
 rintro _ w5 ⟨k6, rfl, e7⟩
 obtain ⟨K8, S9, m10⟩ := Ji e7 3 R
 refine ⟨tv, Jn 1 R (Ob h fun p10 h hK12 => Ju1 [(4, 2), (5, 1), (6, 1), (7, 2)] [(8, 2)] (fun L w' => L = [(2, .bool false), (10, .bool p10)] ∧ ∃ κ', Stp [] K8 w5 κ' w') tv ?_ ?_)⟩
 revert h
 cases ht13 : x5
 refine JF fun h => Jn 1 R (Jd1 R R R R (Jd1 R R R R (Jn 1 R ?_)))
 cases h
 exact Jv1 _ tv ⟨R, _, (Jx2 _ _).wk R⟩ (KM R)
 refine JT fun h => Jf R (Jb2 U31 R Z2 R R) (Jl tv R R R R (Jc2 I2 R R (hvE ((f4.stp S9 R R).ld 1 R R))) (Ob h fun x9 hx9 h => Jh R R R C77 (s_l1In_ok (κ := fun b => mp [] 0 (K8 b)) hx9) ?_))
 rintro _ w15 ⟨k16, rfl, e17⟩
 obtain ⟨K18, S19, m20⟩ := Ji e17 5 R
 refine ⟨tv, Jn 1 R ?_⟩
 cases h
 exact Jv1 _ tv ⟨R, _, S19.wk R⟩ (KM R)
 rintro _ w22 _ ⟨rfl, K23, S24⟩
 have h := hK12
 refine Jb 1 R (Ju (Ja2 (l := [.tmp 2]) V84 (Jp2 R R) R ?_))
 cases h
 exact ⟨K23, R, (hE.stp (S3.tr (S9.tr S24)) R R)⟩
theorem s_l1Rises_ok {w : World} {κ : Col} {a0 u0} {p0 : (List Int)} {p1 : Int} (g0 : Rd (Rp.int .i64) κ w 0 a0 u0 p0) {r : Bool} (h : s_l1Rises p0 p1 = some r) : Ret Tryz.prog 162 [.slice a0 p0.length u0, vi p1] w (fun v w' => ∃ (κ' : Col), v = .bool r ∧ Ent κ w κ' w') := by
 unfold s_l1Rises at h
 refine Ret.enter F162 R N162 R ?_
 dsimp only [envOf]
 have hE := Ent.refl κ w
 refine Je [2] R (Jb 1 R (Jq (Je [2] R (Jb 1 R ?_))))
 have hN1 : (p0.length : Int) ≤ 9223372036854775807 := g0.len_le
 refine Ob h fun q2 hq3 hK2 => ?_
 clear h
 refine Jx1 (fun L w' => ∃ κ', L = [] ∧ Stp [] κ w κ' w' ∧ q2 = Sum.inr ()) ?_ ?_
 refine Jv (Jy1 (fun k L w' => ∃ κ' v5, L = [(0, .slice a0 p0.length u0), (1, vi p1), (5, vi v5)] ∧ Stp [] κ w κ' w' ∧ 0 ≤ v5 ∧ Int.toNat ((p0.length : Int) - v5) = k ∧ cntM (s_l1Rises_b0 p0 p1) k v5 () = some q2) ⟨_, _, ⟨κ, 0, R, (Jx2 _ _).wk R, (by decide), (by simp), hq3⟩, (KM R)⟩ ?_)
 rintro k _ w7 ⟨K8, v5, rfl, S9, hj1, hJ1, h⟩
 rcases k with _ | k
 have hk10 := h; obtain ⟨o1, h⟩ := ex_eq (Sum.inr (Sum.inl ()) : Bool ⊕ ((Unit) ⊕ (Unit)))
 have hc1 : decide (v5 < (p0.length : Int)) = false := Jo2 (by omega)
 refine Jq (Je [2, 2, 2, 2] R (Jn 2 R (Jf R (Je2 U40 R R) (Jb 1 R (Jw2 R hc1 (Jc1 (Jt (Jt ?_))))))))
 cases h
 have h := hk10
 refine Jb1 ?_
 cases h
 exact Jw1 _ ⟨K8, R, S9.wk R, R⟩ KN
 obtain ⟨o1, h, hk10⟩ := BI h; unfold s_l1Rises_b0 at h
 have hc1 : decide (v5 < (p0.length : Int)) = true := Jn2 (by omega)
 refine Jq (Je [2, 2, 2, 2] R (Jn 2 R (Jf R (Je2 U40 R R) (Jb 1 R (Jv2 R hc1 (Js (Jp (Jq (Jv (Jq (Js1 (κ := K8) [0] none [(0, 2), (1, 2), (2, 2), (4, 2), (5, 2), (3, 0), (6, 1), (7, 2), (8, 2), (9, 2), (10, 2), (11, 2), (12, 2), (13, 2), (14, 2), (16, 2), (17, 2), (18, 2), (19, 2), (15, 0), (20, 0), (21, 2), (22, 2), (23, 2)] [] (by kernel_rfl) (by kernel_rfl) fun w12 S11 => Jn 2 R (Ob h fun x14 hx14 h => Jf R (Jf2 g0 hx14 U40 Z2 R R R R) (Jn 2 R ?_)))))))))))))
 have f13 := g0.stp (S9.tr S11) R R
 refine Jg R (Jc2 I2 R R (hvC (f13.gInt hx14) R)) (Ob h fun x18 hx18 h => Jh R R R C77 (s_l1In_ok (κ := fun b => mp [] 0 (K8 b)) hx18) ?_)
 rintro _ w14 ⟨k15, rfl, e16⟩
 obtain ⟨K17, S18, m19⟩ := Ji e16 2 R
 refine ⟨(S18.cl R), Jn 2 R (Ob h fun p35 h hK21 => Ju1 [(9, 2), (10, 2), (11, 2), (12, 2), (13, 2), (14, 2), (16, 2), (17, 2), (18, 2), (19, 2), (15, 0), (20, 0), (21, 2), (22, 2), (23, 2)] [] (fun L w' => L = [(0, .slice a0 p0.length u0), (1, vi p1), (5, vi v5), (35, .bool p35)] ∧ ∃ κ', Stp [] K17 w14 κ' w') (S18.cl R) ?_ ?_)⟩
 revert h
 cases ht22 : (!x18)
 refine JF fun h => Jn 3 R (Ob h fun p34 h hK23 => Ju1 [(12, 2), (13, 2), (14, 2), (16, 2), (17, 2), (18, 2), (19, 2), (15, 0), (20, 0), (21, 2), (22, 2)] [(23, 2)] (fun L w' => L = [(0, .slice a0 p0.length u0), (1, vi p1), (5, vi v5), (20, .bool false), (21, vi v5), (22, .bool (decide (0 < v5))), (23, .bool (decide (0 < v5))), (34, .bool p34)] ∧ ∃ κ', Stp [] K17 w14 κ' w') (S18.cl R) ?_ ?_)
 revert h
 cases ht24 : decide (0 < v5)
 refine JF fun h => Jn 7 R (Je1 R R R R (Je1 R R R R (Jn 2 R ?_)))
 cases h
 exact Jv1 _ (S18.cl R) ⟨R, _, (Jx2 _ _).wk R⟩ (KM R)
 refine JT fun h => Jn 2 R (Ob h fun x26 hx26 h => Jf R (Jf2 f13 hx26 U40 Z2 R R R R) (Jn 3 R (Ob h fun x31 hx31 h => Jf R (Jf2 f13 hx31 U40 Z2 R R R R) (Jg R (Jc2 I2 R R (hvC (f13.gInt hx26) R)) (Jg R (Jc2 I2 R R (hvC (f13.gInt hx31) R)) (Jn 2 R ?_))))))
 cases h
 exact Jv1 _ (S18.cl R) ⟨R, _, (Jx2 _ _).wk R⟩ (KM R)
 rintro _ w25 _ ⟨rfl, K26, S27⟩
 have h := hK23
 refine Jn 1 R ?_
 cases h
 exact Jv1 _ ((S18.tr S27).cl R) ⟨R, _, S27.wk R⟩ (KM R)
 refine JT fun h => Jn 10 R (Je1 R R R R (Je1 R R R R (Jn 3 R ?_)))
 cases h
 exact Jv1 _ (S18.cl R) ⟨R, _, (Jx2 _ _).wk R⟩ (KM R)
 rintro _ w28 _ ⟨rfl, K29, S30⟩
 have h := hK21
 refine Jt1 (Jd ?_)
 revert h
 cases ht31 : p35
 refine JF fun h => Jy R (Js (Jz (Jp (Ja [2, 2, 2] R (Jc 3 R ?_)))))
 have hw1 : IntKind.wrap .i64 (v5 + 1) = v5 + 1 := wr1 hj1 (Jm2 hc1) hN1
 rw [hw1]
 have hc1 := Jm2 hc1
 cases h
 exact Jz1 fun a ha => ⟨k, _, Ja3 _, ⟨K29, v5 + 1, R, (S9.tr (S11.tr (S18.tr S30))).wk R, by omega, by omega, hk10⟩, (ha.mm R)⟩
 refine JT fun h => Jx R (Je [2] R (Jb 1 R (Ju (Ja1 (Jw (Jw ?_))))))
 cases h
 obtain rfl := Option.some.inj hk10
 have h := hK2
 dsimp only [aft] at h
 refine Ja1 (Jq2 (Jw (Ja2 (l := [.tmp 4]) V162 (Jp2 R R) R ?_)))
 cases h
 exact ⟨K29, R, (hE.stp (S9.tr (S11.tr (S18.tr S30))) R R)⟩
 rintro _ w4 ⟨K5, rfl, S6, rfl⟩
 have h := hK2
 dsimp only [aft] at h
 refine Jp (Je [2] R (Jb 1 R (Ju (Ja2 (l := [.tmp 4]) V162 (Jp2 R R) R ?_))))
 cases h
 exact ⟨K5, R, (hE.stp S6 R R)⟩
theorem s_l24Next_ok {w : World} {κ : Col} {ab ad aa ac} {p0 : Clause} {a1 u1} {p1 : (List Int)} {p2 : Int} (g0_1 : Rd (Rp.int .i64) κ w 0 ab ad p0.A) (g0_2 : Rd (Rp.int .i64) κ w 0 aa ac p0.B) (g1 : Rd (Rp.int .i64) κ w 0 a1 u1 p1) {r : Bool} (h : s_l24Next p0 p1 p2 = some r) : Ret Tryz.prog 90 [.agg #[vi p0.Kind, .slice ab p0.A.length ad, .slice aa p0.B.length ac], .slice a1 p1.length u1, vi p2] w (fun v w' => ∃ (κ' : Col), v = .bool r ∧ Ent κ w κ' w') := by
 unfold s_l24Next at h
 refine Ret.enter F90 R N90 R ?_
 dsimp only [envOf]
 have hE := Ent.refl κ w
 refine Je [1, 2] R (Jf1 (κ := κ) 2 R R R R R R R fun b3 w1 K2 S3 f4 => ⟨tv, Jb 1 R (Jq (Je [2] R (Jb 1 R ?_)))⟩)
 have hN5 : (p1.length : Int) ≤ 9223372036854775807 := g1.len_le
 refine Ob h fun q2 hq7 hK6 => ?_
 clear h
 refine Jx1 (fun L w' => ∃ κ', L = [] ∧ Stp [] K2 w1 κ' w' ∧ q2 = Sum.inr ()) ?_ ?_
 refine Jv (Jy1 (fun k L w' => ∃ κ' v7, L = [(1, .slice a1 p1.length u1), (2, vi p2), (3, .pointer (some ⟨b3, 0, none⟩)), (7, vi v7)] ∧ Stp [] K2 w1 κ' w' ∧ 0 ≤ v7 ∧ Int.toNat ((p1.length : Int) - v7) = k ∧ cntM (s_l24Next_b0 p0 p1 p2) k v7 () = some q2) ⟨_, _, ⟨K2, 0, R, (Jx2 _ _).wk R, (by decide), (by simp), hq7⟩, (KM R)⟩ ?_)
 rintro k _ w11 ⟨K12, v7, rfl, S13, hj5, hJ5, h⟩
 rcases k with _ | k
 have hk14 := h; obtain ⟨o5, h⟩ := ex_eq (Sum.inr (Sum.inl ()) : Bool ⊕ ((Unit) ⊕ (Unit)))
 have hc5 : decide (v7 < (p1.length : Int)) = false := Jo2 (by omega)
 refine Jq (Je [2, 2, 2, 2] R (Jn 2 R (Jf R (Je2 U40 R R) (Jb 1 R (Jw2 R hc5 (Jc1 (Jt (Jt ?_))))))))
 cases h
 have h := hk14
 refine Jb1 ?_
 cases h
 exact Jw1 _ ⟨K12, R, S13.wk R, R⟩ KN
 obtain ⟨o5, h, hk14⟩ := BI h; unfold s_l24Next_b0 at h
 have hc5 : decide (v7 < (p1.length : Int)) = true := Jn2 (by omega)
 refine Jq (Je [2, 2, 2, 2] R (Jn 2 R (Jf R (Je2 U40 R R) (Jb 1 R (Jv2 R hc5 (Js (Jp (Jq (Jv (Je [2, 2] R (Jb 2 R (Jq (Je [2, 2, 2, 2, 2] R (Jn 3 R (Jf R (Je2 U40 R R) (Jb 1 R (Ob h fun q4 h hK15 => Jx1 (fun L w' => ∃ κ', L = [(1, .slice a1 p1.length u1), (2, vi p2), (3, .pointer (some ⟨b3, 0, none⟩)), (7, vi v7), (8, vi q4)] ∧ Stp [] K12 w11 κ' w') ?_ ?_)))))))))))))))))
 revert h
 cases ht19 : decide ((IntKind.i64.wrap (v7 + 1)) < (p1.length : Int))
 refine JF fun h => Jy R (Js ?_)
 cases h
 exact Jw1 _ ⟨K12, R, (Jx2 _ _).wk R⟩ (KM R)
 refine JT fun h => Jx R (Ja [2, 2, 2] R (Jc 3 R ?_))
 cases h
 exact Jw1 _ ⟨K12, R, (Jx2 _ _).wk R⟩ (KM R)
 rintro _ w16 ⟨K17, rfl, S18⟩
 have h := hK15
 refine Jp (Jq (Js1 (κ := K17) [0, 2] none [(0, 2), (2, 2), (3, 2), (4, 2), (1, 0), (5, 0), (6, 1), (7, 2), (8, 2), (10, 2), (11, 2), (12, 2), (9, 0), (13, 0), (14, 1), (15, 2), (16, 2)] [] (by kernel_rfl) (by kernel_rfl) fun w21 S20 => Jf R (Jb2 U71 R Z40 R R) (Jn 2 R (Ob h fun x27 hx27 h => Jf R (Jf2 g1 hx27 U40 Z2 R R R R) ?_))))
 have f22 := f4.stp (S13.tr (S18.tr S20)) R R
 refine Jg R (Jc2 I40 R R (hvC (f22.ld 1 R R) R)) ?_
 have f23 := g1.stp (S3.tr (S13.tr (S18.tr S20))) R R
 refine Jg R (Jc2 I2 R R (hvC (f23.gInt hx27) R)) (Ob h fun x29 hx29 h => Jh R R R C117 (s_l1Has_ok (κ := fun b => mp [] 0 (K17 b)) (Jl2 (g0_1.stp (S3.tr (S13.tr (S18.tr S20))) R R) (mp [] 0) R R) hx29) ?_)
 rintro _ w25 ⟨k26, rfl, e27⟩
 obtain ⟨K28, S29, m30⟩ := Ji e27 3 R
 refine ⟨(S29.cl R), Jn 1 R (Ob h fun p39 h hK32 => Ju1 [(8, 2), (10, 2), (11, 2), (12, 2), (9, 0), (13, 0), (14, 1), (15, 2), (16, 2)] [] (fun L w' => L = [(1, .slice a1 p1.length u1), (2, vi p2), (3, .pointer (some ⟨b3, 0, none⟩)), (7, vi v7), (39, .bool p39)] ∧ ∃ κ', Stp [] K28 w25 κ' w') (S29.cl R) ?_ ?_)⟩
 revert h
 cases ht33 : x29
 refine JF fun h => Jn 4 R (Je1 R R R R (Je1 R R R R (Jd1 R R R R (Jn 2 R ?_))))
 cases h
 exact Jv1 _ (S29.cl R) ⟨R, _, (Jx2 _ _).wk R⟩ (KM R)
 refine JT fun h => Jf R (Jb2 U71 R Z40 R R) (Jn 2 R (Ob h fun x35 hx35 h => Jf R (Jf2 f23 hx35 U40 Z2 R R R R) (Jg R (Jc2 I40 R R (hvC (f22.ld 2 R R) R)) (Jg R (Jc2 I2 R R (hvC (f23.gInt hx35) R)) (Ob h fun x37 hx37 h => Jh R R R C117 (s_l1Has_ok (κ := fun b => mp [] 0 (K28 b)) (Jl2 (g0_2.stp (S3.tr (S13.tr (S18.tr (S20.tr S29)))) R R) (mp [] 0) R R) hx37) ?_)))))
 rintro _ w35 ⟨k36, rfl, e37⟩
 obtain ⟨K38, S39, m40⟩ := Ji e37 5 R
 refine ⟨((S29.tr S39).cl R), Jn 2 R ?_⟩
 cases h
 exact Jv1 _ ((S29.tr S39).cl R) ⟨R, _, S39.wk R⟩ (KM R)
 rintro _ w42 _ ⟨rfl, K43, S44⟩
 have h := hK32
 refine Jt1 (Jd ?_)
 revert h
 cases ht45 : p39
 refine JF fun h => Jy R (Js (Jz (Jp (Ja [2, 2, 2] R (Jc 3 R ?_)))))
 have hw5 : IntKind.wrap .i64 (v7 + 1) = v7 + 1 := wr1 hj5 (Jm2 hc5) hN5
 rw [hw5]
 have hc5 := Jm2 hc5
 cases h
 exact Jz1 fun a ha => ⟨k, _, Ja3 _, ⟨K43, v7 + 1, R, (S13.tr (S18.tr (S20.tr (S29.tr S44)))).wk R, by omega, by omega, hk14⟩, (ha.mm R)⟩
 refine JT fun h => Jx R (Je [2] R (Jb 1 R (Ju (Ja1 (Jw (Jw ?_))))))
 cases h
 obtain rfl := Option.some.inj hk14
 have h := hK6
 dsimp only [aft] at h
 refine Ja1 (Jq2 (Jw (Ja2 (l := [.tmp 6]) V90 (Jp2 R R) R ?_)))
 cases h
 exact ⟨K43, R, (hE.stp (S3.tr (S13.tr (S18.tr (S20.tr (S29.tr S44))))) R R)⟩
 rintro _ w8 ⟨K9, rfl, S10, rfl⟩
 have h := hK6
 dsimp only [aft] at h
 refine Jp (Je [2] R (Jb 1 R (Ju (Ja2 (l := [.tmp 6]) V90 (Jp2 R R) R ?_))))
 cases h
 exact ⟨K9, R, (hE.stp (S3.tr S10) R R)⟩
theorem s_l24Some_ok {w : World} {κ : Col} {a0 u0} {p0 : (List Int)} {a1 u1} {p1 : (List Int)} (g0 : Rd (Rp.int .i64) κ w 0 a0 u0 p0) (g1 : Rd (Rp.int .i64) κ w 0 a1 u1 p1) {r : Bool} (h : s_l24Some p0 p1 = some r) : Ret Tryz.prog 92 [.slice a0 p0.length u0, .slice a1 p1.length u1] w (fun v w' => ∃ (κ' : Col), v = .bool r ∧ Ent κ w κ' w') := by
 unfold s_l24Some at h
 refine Ret.enter F92 R N92 R ?_
 dsimp only [envOf]
 have hE := Ent.refl κ w
 refine Je [2] R (Jb 1 R (Jq (Je [2] R (Jb 1 R ?_))))
 have hN1 : (p0.length : Int) ≤ 9223372036854775807 := g0.len_le
 refine Ob h fun q2 hq3 hK2 => ?_
 clear h
 refine Jx1 (fun L w' => ∃ κ', L = [] ∧ Stp [] κ w κ' w' ∧ q2 = Sum.inr ()) ?_ ?_
 refine Jv (Jy1 (fun k L w' => ∃ κ' v5, L = [(0, .slice a0 p0.length u0), (1, .slice a1 p1.length u1), (5, vi v5)] ∧ Stp [] κ w κ' w' ∧ 0 ≤ v5 ∧ Int.toNat ((p0.length : Int) - v5) = k ∧ cntM (s_l24Some_b0 p0 p1) k v5 () = some q2) ⟨_, _, ⟨κ, 0, R, (Jx2 _ _).wk R, (by decide), (by simp), hq3⟩, (KM R)⟩ ?_)
 rintro k _ w7 ⟨K8, v5, rfl, S9, hj1, hJ1, h⟩
 rcases k with _ | k
 have hk10 := h; obtain ⟨o1, h⟩ := ex_eq (Sum.inr (Sum.inl ()) : Bool ⊕ ((Unit) ⊕ (Unit)))
 have hc1 : decide (v5 < (p0.length : Int)) = false := Jo2 (by omega)
 refine Jq (Je [2, 2, 2, 2] R (Jn 2 R (Jf R (Je2 U40 R R) (Jb 1 R (Jw2 R hc1 (Jc1 (Jt (Jt ?_))))))))
 cases h
 have h := hk10
 refine Jb1 ?_
 cases h
 exact Jw1 _ ⟨K8, R, S9.wk R, R⟩ KN
 obtain ⟨o1, h, hk10⟩ := BI h; unfold s_l24Some_b0 at h
 have hc1 : decide (v5 < (p0.length : Int)) = true := Jn2 (by omega)
 refine Jq (Je [2, 2, 2, 2] R (Jn 2 R (Jf R (Je2 U40 R R) (Jb 1 R (Jv2 R hc1 (Js (Jp (Jq (Jv (Je [2, 2, 2, 2, 1, 1] R (Jn 3 R (Ob h fun x15 hx15 h => Jf R (Jf2 g0 hx15 U40 Z2 R R R R) (Jl tv R R R R (Jc2 I2 R R (hvE ((g0.stp S9 R R).gInt hx15))) (Ob h fun x17 hx17 h => Jh R R R C117 (s_l1Has_ok (κ := fun b => mp [] 0 (K8 b)) (Jl2 (g1.stp S9 R R) (mp [] 0) R R) hx17) ?_))))))))))))))
 rintro _ w13 ⟨k14, rfl, e15⟩
 obtain ⟨K16, S17, m18⟩ := Ji e15 2 R
 refine ⟨tv, Jd ?_⟩
 revert h
 cases ht20 : x17
 refine JF fun h => Jy R (Js (Jz (Jp (Ja [2, 2, 2] R (Jc 3 R ?_)))))
 have hw1 : IntKind.wrap .i64 (v5 + 1) = v5 + 1 := wr1 hj1 (Jm2 hc1) hN1
 rw [hw1]
 have hc1 := Jm2 hc1
 cases h
 exact Jz1 fun a ha => ⟨k, _, Ja3 _, ⟨K16, v5 + 1, R, (S9.tr S17).wk R, by omega, by omega, hk10⟩, (ha.mm R)⟩
 refine JT fun h => Jx R (Je [2] R (Jb 1 R (Ju (Ja1 (Jw (Jw ?_))))))
 cases h
 obtain rfl := Option.some.inj hk10
 have h := hK2
 dsimp only [aft] at h
 refine Ja1 (Jq2 (Jw (Ja2 (l := [.tmp 4]) V92 (Jp2 R R) R ?_)))
 cases h
 exact ⟨K16, R, (hE.stp (S9.tr S17) R R)⟩
 rintro _ w4 ⟨K5, rfl, S6, rfl⟩
 have h := hK2
 dsimp only [aft] at h
 refine Jp (Je [2] R (Jb 1 R (Ju (Ja2 (l := [.tmp 4]) V92 (Jp2 R R) R ?_))))
 cases h
 exact ⟨K5, R, (hE.stp S6 R R)⟩
end Go.Proofs.YtcmamhmpoinmnaaGreat
