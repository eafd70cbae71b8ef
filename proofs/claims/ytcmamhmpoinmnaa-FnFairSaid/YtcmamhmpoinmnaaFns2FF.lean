/- The walks, part 2. By program. -/
import Derived.Test.YtcmamhmpoinmnaaFns1FF
set_option linter.unusedVariables false
set_option linter.unusedSimpArgs false
namespace Go.Proofs.Ytcmamhmpoinmnaa
open Go Go.Wk Go.Proofs
set_option maxRecDepth 100000
set_option maxHeartbeats 1000000
theorem s_l1Once_ok {w : World} {κ : Col} {aa ab} {p0 : l1Cur} {p1 : Int} {b0} (g0_0 : Rd (Rp.int .u8) κ w 0 aa ab p0.b) (gb0 : Bc κ w 2 b0 102 [.slice aa p0.b.length ab, vi p0.i, vi p0.h]) {r : Bool × Int × Int} (h : s_l1Once p0 p1 = some r) : Ret Try.prog 40 [.pointer (some ⟨b0, 0, none⟩), vi p1] w (fun v w' => ∃ (κ' : Col), v = .bool r.1 ∧ Ent κ w κ' w' ∧ Bc κ' w' 2 b0 102 [.slice aa p0.b.length ab, vi r.2.1, vi r.2.2]) := by
 unfold s_l1Once at h
 refine Ret.enter F40 R N40 R ?_
 dsimp only [envOf]
 have hE := Ent.refl κ w
 refine Je [2] R (Jb 1 R (Je [2, 2, 1, 2, 2] R (Jn 2 R (Ob h fun x7 hx7 h => Jh R R R C38 (s_l1Below_ok (κ := fun b => mp [(2, 2)] 0 (κ b)) (p0 := p0) (Jl2 g0_0 (mp [(2, 2)] 0) R R) (gb0.map (mp [(2, 2)] 0) R R) hx7) ?_))))
 rintro _ w1 ⟨k2, rfl, e3, f4⟩
 obtain ⟨K5, S6, m7⟩ := Ji e3 3 R
 refine ⟨tv, Jb 2 R (Ju (Ja2 (l := [.tmp 4]) V40 (Jp2 R R) R ?_))⟩
 cases h
 exact ⟨(fun b => ren [(5, 2)] (K5 b)), R, ((hE.stp S6 R R).map (ren [(5, 2)]) R R), ((f4.mx m7 R (R : 3 + 2 = 5)).map (ren [(5, 2)]) R R)⟩
theorem s_l1From_ok {w : World} {κ : Col} {aa ab} {p0 : l1Cur} {p1 : Int} {p2 : Int} {b0} (g0_0 : Rd (Rp.int .u8) κ w 0 aa ab p0.b) (gb0 : Bc κ w 2 b0 102 [.slice aa p0.b.length ab, vi p0.i, vi p0.h]) {r : Int × Int × Int} (h : s_l1From p0 p1 p2 = some r) : Ret Try.prog 64 [.pointer (some ⟨b0, 0, none⟩), vi p1, vi p2] w (fun v w' => ∃ (κ' : Col), v = vi r.1 ∧ Ent κ w κ' w' ∧ Bc κ' w' 2 b0 102 [.slice aa p0.b.length ab, vi r.2.1, vi r.2.2]) := by
 unfold s_l1From at h
 refine Ret.enter F64 R N64 R ?_
 dsimp only [envOf]
 have hE := Ent.refl κ w
 refine Je [2] R (Jb 1 R (Je [2, 2, 2, 2, 2, 2, 1, 2, 2] R (Jn 6 R (Ob h fun x13 hx13 h => Jh R R R C38 (s_l1Below_ok (κ := fun b => mp [(2, 2)] 0 (κ b)) (p0 := p0) (Jl2 g0_0 (mp [(2, 2)] 0) R R) (gb0.map (mp [(2, 2)] 0) R R) hx13) ?_))))
 rintro _ w1 ⟨k2, rfl, e3, f4⟩
 obtain ⟨K5, S6, m7⟩ := Ji e3 3 R
 refine ⟨tv, Jb 2 R (Ju (Ja2 (l := [.tmp 6]) V64 (Jp2 R R) R ?_))⟩
 cases h
 exact ⟨(fun b => ren [(5, 2)] (K5 b)), R, ((hE.stp S6 R R).map (ren [(5, 2)]) R R), ((f4.mx m7 R (R : 3 + 2 = 5)).map (ren [(5, 2)]) R R)⟩
theorem s_l1Odd_ok {w : World} {κ : Col} {aa ab} {p0 : l1Cur} {b0} (g0_0 : Rd (Rp.int .u8) κ w 0 aa ab p0.b) (gb0 : Bc κ w 2 b0 102 [.slice aa p0.b.length ab, vi p0.i, vi p0.h]) {r : Int × Int × Int} (h : s_l1Odd p0 = some r) : Ret Try.prog 93 [.pointer (some ⟨b0, 0, none⟩)] w (fun v w' => ∃ (κ' : Col), v = vi r.1 ∧ Ent κ w κ' w' ∧ Bc κ' w' 2 b0 102 [.slice aa p0.b.length ab, vi r.2.1, vi r.2.2]) := by
 unfold s_l1Odd at h
 refine Ret.enter F93 R N93 R ?_
 dsimp only [envOf]
 have hE := Ent.refl κ w
 refine Je [2] R (Jb 1 R (Je [1, 2, 1, 2, 1, 2] R ?_))
 refine Jn1 (κ := κ) (E := E6) 3 [] (parts := [(0, .const (vi (-1))), (1, .const (vi 0)), (2, .const (vi 1)), (3, .const (vi 2147483648)), (4, .const (vi (-2147483648))), (5, .const (vi 1099511627776)), (6, .const (vi 4611686018427387904)), (7, .const (vi (-4611686018427387904))), (8, .const (vi 9223372036854775807)), (9, .const (vi (-9223372036854775808)))]) (cells := [vi (-1), vi 0, vi 1, vi 2147483648, vi (-2147483648), vi 1099511627776, vi 4611686018427387904, vi (-4611686018427387904), vi 9223372036854775807, vi (-9223372036854775808)]) (xs := ([(-1), 0, 1, 2147483648, (-2147483648), 1099511627776, 4611686018427387904, (-4611686018427387904), 9223372036854775807, (-9223372036854775808)] : List Int)) R R R R R R Y24 Tryinfo2 R R R R R R R R R R ⟨[vi (-1)], [vi 0, vi 1, vi 2147483648, vi (-2147483648), vi 1099511627776, vi 4611686018427387904, vi (-4611686018427387904), vi 9223372036854775807, vi (-9223372036854775808)], Zl κ w [], Zl κ w [], R, Zl.sp (l1 := []) (l2 := []) R, Zl.sr (l1 := []) (l2 := []), R, ⟨[vi 0], [vi 1, vi 2147483648, vi (-2147483648), vi 1099511627776, vi 4611686018427387904, vi (-4611686018427387904), vi 9223372036854775807, vi (-9223372036854775808)], Zl κ w [], Zl κ w [], R, Zl.sp (l1 := []) (l2 := []) R, Zl.sr (l1 := []) (l2 := []), R, ⟨[vi 1], [vi 2147483648, vi (-2147483648), vi 1099511627776, vi 4611686018427387904, vi (-4611686018427387904), vi 9223372036854775807, vi (-9223372036854775808)], Zl κ w [], Zl κ w [], R, Zl.sp (l1 := []) (l2 := []) R, Zl.sr (l1 := []) (l2 := []), R, ⟨[vi 2147483648], [vi (-2147483648), vi 1099511627776, vi 4611686018427387904, vi (-4611686018427387904), vi 9223372036854775807, vi (-9223372036854775808)], Zl κ w [], Zl κ w [], R, Zl.sp (l1 := []) (l2 := []) R, Zl.sr (l1 := []) (l2 := []), R, ⟨[vi (-2147483648)], [vi 1099511627776, vi 4611686018427387904, vi (-4611686018427387904), vi 9223372036854775807, vi (-9223372036854775808)], Zl κ w [], Zl κ w [], R, Zl.sp (l1 := []) (l2 := []) R, Zl.sr (l1 := []) (l2 := []), R, ⟨[vi 1099511627776], [vi 4611686018427387904, vi (-4611686018427387904), vi 9223372036854775807, vi (-9223372036854775808)], Zl κ w [], Zl κ w [], R, Zl.sp (l1 := []) (l2 := []) R, Zl.sr (l1 := []) (l2 := []), R, ⟨[vi 4611686018427387904], [vi (-4611686018427387904), vi 9223372036854775807, vi (-9223372036854775808)], Zl κ w [], Zl κ w [], R, Zl.sp (l1 := []) (l2 := []) R, Zl.sr (l1 := []) (l2 := []), R, ⟨[vi (-4611686018427387904)], [vi 9223372036854775807, vi (-9223372036854775808)], Zl κ w [], Zl κ w [], R, Zl.sp (l1 := []) (l2 := []) R, Zl.sr (l1 := []) (l2 := []), R, ⟨[vi 9223372036854775807], [vi (-9223372036854775808)], Zl κ w [], Zl κ w [], R, Zl.sp (l1 := []) (l2 := []) R, Zl.sr (l1 := []) (l2 := []), R, ⟨[vi (-9223372036854775808)], [], Zl κ w [], Zl κ w [], R, Zl.sp (l1 := []) (l2 := []) R, Zl.sr (l1 := []) (l2 := []), R, R⟩⟩⟩⟩⟩⟩⟩⟩⟩⟩ fun a3 u3 w1 K2 S3 f4 => ⟨tv, ?_⟩
 refine Jn 1 R (Ob h fun x5 hx5 h => Jh R R R C38 (s_l1Below_ok (κ := fun b => mp [(2, 2)] 0 (K2 b)) (p0 := p0) (Jl2 (g0_0.stp S3 R R) (mp [(2, 2)] 0) R R) ((gb0.stp S3 R R).map (mp [(2, 2)] 0) R R) hx5) ?_)
 rintro _ w7 ⟨k8, rfl, e9, f10⟩
 obtain ⟨K11, S12, m13⟩ := Ji e9 4 R
 refine ⟨tv, Ob h fun x6 hx6 h => Jf R (Jf2 f4.rdc hx6 U24 Z2 R R R R) (Jl tv R R R R (Jc2 I2 R R (hvE ((f4.stp S12 R R).rdc.gInt hx6))) (Jb 1 R (Ju (Ja2 (l := [.tmp 2]) V93 (Jp2 R R) R ?_))))⟩
 cases h
 exact ⟨(fun b => ren [(6, 2)] (K11 b)), R, ((hE.stp (S3.tr S12) R R).map (ren [(6, 2)]) R R), ((f10.mx m13 R (R : 4 + 2 = 6)).map (ren [(6, 2)]) R R)⟩
theorem s_l1Draw_ok {w : World} {κ : Col} {ab aa} {p0 : l1Cur} {b0} (g0_0 : Rd (Rp.int .u8) κ w 0 ab aa p0.b) (gb0 : Bc κ w 2 b0 102 [.slice ab p0.b.length aa, vi p0.i, vi p0.h]) {r : Arena × Int × Int} (h : s_l1Draw p0 = some r) : Ret Try.prog 63 [.pointer (some ⟨b0, 0, none⟩)] w (fun v w' => ∃ (κ' : Col) (ra0 : Option Addr) (ru0 : Nat) (ra1 : Option Addr) (ru1 : Nat), v = .agg #[.slice ra0 r.1.Owner.length ru0, .slice ra1 r.1.Next.length ru1] ∧ Ent κ w κ' w' ∧ Oc E6 2 κ' w' 3 ra0 ru0 r.1.Owner ∧ Oc (Ep.own E6 2) 24 κ' w' 4 ra1 ru1 r.1.Next ∧ Bc κ' w' 2 b0 102 [.slice ab p0.b.length aa, vi r.2.1, vi r.2.2]) := by
 unfold s_l1Draw at h
 refine Ret.enter F63 R N63 R ?_
 dsimp only [envOf]
 have hE := Ent.refl κ w
 refine Je [1] R (Jg1 (κ := κ) 3 R R R R R X72 R fun b2 w1 K2 S3 f4 => ⟨tv, Jd (Je [2, 1, 2, 2] R (Jn 1 R (Ob h fun x9 hx9 h => ?_)))⟩)
 have f5 := g0_0.stp S3 R R
 refine Jh R R R C38 (s_l1Below_ok (κ := fun b => mp [(2, 2)] 0 (K2 b)) (p0 := p0) (Jl2 f5 (mp [(2, 2)] 0) R R) ((gb0.stp S3 R R).map (mp [(2, 2)] 0) R R) hx9) ?_
 rintro _ w7 ⟨k8, rfl, e9, f10⟩
 obtain ⟨K11, S12, m13⟩ := Ji e9 4 R
 refine ⟨tv, Jb 2 R (Je [2, 1, 1] R (Jf R (rn_build (parts := []) (cells := [.slice none 0 0, .slice none 0 0]) R R (by kernel_rfl)) (Jg1 (κ := K11) 7 R R R R R X72 R fun b4 w16 K17 S18 f19 => ⟨tv, Jj1 (κ := K17) 7 (vc := [.slice none 0 0, .slice none 0 0]) R R R R R R R Z72 R R f19 R fun w20 S21 f22 => ⟨tv, Jd (Jq (Je [2] R (Jb 1 R (Ob h fun _ hr23 h => ?_))))⟩⟩)))⟩
 have hN23 := rng_ok hr23
 refine Ob h fun q2 hq25 hK24 => ?_
 clear h
 refine Jx1 (fun L w' => ∃ κ', ∃ s3 : Int × Int × (List Int) × (List (List Int)), ∃ ad ac ae af, L = [(0, .pointer (some ⟨b0, 0, none⟩)), (2, .pointer (some ⟨b2, 0, none⟩)), (4, .pointer (some ⟨b4, 0, none⟩))] ∧ Stp [6, 7, 8, 9, 10, 13, 16, 18, 20] K17 w20 κ' w' ∧ Oc E6 2 κ' w' 8 ad ac s3.2.2.1 ∧ Oc (Ep.own E6 2) 24 κ' w' 9 ae af s3.2.2.2 ∧ Bc κ' w' 6 b0 102 [.slice ab p0.b.length aa, vi s3.1, vi s3.2.1] ∧ Bc κ' w' 7 b4 72 [.slice ad s3.2.2.1.length ac, .slice ae s3.2.2.2.length af] ∧ q2 = Sum.inr s3) ?_ ?_
 refine Jv (Jy1 (fun k L w' => ∃ κ' v5, ∃ s1 : Int × Int × (List Int) × (List (List Int)), ∃ an ao ai ah, L = [(0, .pointer (some ⟨b0, 0, none⟩)), (2, .pointer (some ⟨b2, 0, none⟩)), (3, vi (IntKind.i64.wrap (1 + x9.1))), (4, .pointer (some ⟨b4, 0, none⟩)), (5, vi v5)] ∧ Stp [6, 7, 8, 9, 10, 13, 16, 18, 20] K17 w20 κ' w' ∧ Oc E6 2 κ' w' 8 an ao s1.2.2.1 ∧ Oc (Ep.own E6 2) 24 κ' w' 9 ai ah s1.2.2.2 ∧ Bc κ' w' 6 b0 102 [.slice ab p0.b.length aa, vi s1.1, vi s1.2.1] ∧ Bc κ' w' 7 b4 72 [.slice an s1.2.2.1.length ao, .slice ai s1.2.2.2.length ah] ∧ 0 ≤ v5 ∧ Int.toNat ((IntKind.i64.wrap (1 + x9.1)) - v5) = k ∧ cntM (s_l1Draw_b0 p0 x9) k v5 s1 = some q2) ⟨_, _, ⟨K17, 0, ((x9.2.1 : Int), (x9.2.2 : Int), (([] : List Int) : (List Int)), (([] : List (List Int)) : (List (List Int)))), none, 0, none, 0, R, (Jx2 _ _).wk R, Ow.nil, Ow.nil, ((f10.mx m13 R (R : 4 + 2 = 6)).stp (S18.tr S21) R R), f22, (by decide), (by simp), hq25⟩, (KM R)⟩ ?_)
 rintro k _ w33 ⟨K34, v5, s1, an, ao, ai, ah, rfl, S35, f36, f37, f38, f39, hj23, hJ23, h⟩
 rcases k with _ | k
 have hk41 := h; obtain ⟨o23, h⟩ := ex_eq (Sum.inr (Sum.inl s1) : (Arena × Int × Int) ⊕ ((Int × Int × (List Int) × (List (List Int))) ⊕ (Int × Int × (List Int) × (List (List Int)))))
 have hc23 : decide (v5 < (IntKind.i64.wrap (1 + x9.1))) = false := Jo2 (by omega)
 refine Jq (Je [2, 2, 2] R (Jb 3 R (Jw2 R hc23 (Jc1 (Jt (Jt ?_))))))
 cases h
 have h := hk41
 refine Jb1 ?_
 cases h
 exact Jw1 _ ⟨K34, ((s1.1 : Int), (s1.2.1 : Int), (s1.2.2.1 : (List Int)), (s1.2.2.2 : (List (List Int)))), an, ao, ai, ah, R, S35.wk R, f36, f37, f38, f39, R⟩ (KM R)
 obtain ⟨o23, h, hk41⟩ := BI h; unfold s_l1Draw_b0 at h
 have hc23 : decide (v5 < (IntKind.i64.wrap (1 + x9.1))) = true := Jn2 (by omega)
 refine Jq (Je [2, 2, 2] R (Jb 3 R (Jv2 R hc23 (Js (Jp (Jq (Jv (Je [1, 2] R (Jo1 (κ := K34) (E := E6) 10 R R R R R Y24 Tryinfo2 R fun aw ay w42 K43 S44 f45 => ⟨tv, Jb 1 R (Jq (Je [2, 1, 2, 2] R (Jn 1 R (Ob h fun x19 hx19 h => ?_))))⟩)))))))))
 have f46 := f5.stp (S12.tr (S18.tr (S21.tr (S35.tr S44)))) R R
 refine Jh R R R C38 (s_l1Below_ok (κ := fun b => mp [(6, 2)] 0 (K43 b)) (p0 := (⟨p0.b, s1.1, s1.2.1⟩ : l1Cur)) (Jl2 f46 (mp [(6, 2)] 0) R R) ((f38.stp S44 R R).map (mp [(6, 2)] 0) R R) hx19) ?_
 rintro _ w48 ⟨k49, rfl, e50, f51⟩
 obtain ⟨K52, S53, m54⟩ := Ji e50 11 R
 refine ⟨tv, Jb 2 R (Ob h fun q5 hq59 hK58 => ?_)⟩
 clear h
 refine Jx1 (fun L w' => ∃ κ', ∃ s6 : (List Int) × Int × Int × Int, ∃ ak aj, L = [(0, .pointer (some ⟨b0, 0, none⟩)), (2, .pointer (some ⟨b2, 0, none⟩)), (3, vi (IntKind.i64.wrap (1 + x9.1))), (4, .pointer (some ⟨b4, 0, none⟩)), (5, vi v5), (6, .slice ak s6.1.length aj)] ∧ Stp [10, 13, 16, 20] K52 w48 κ' w' ∧ Oc E6 2 κ' w' 10 ak aj s6.1 ∧ Bc κ' w' 13 b0 102 [.slice ab p0.b.length aa, vi s6.2.2.1, vi s6.2.2.2] ∧ q5 = Sum.inr s6) ?_ ?_
 refine Jv (Jy1 (fun k L w' => ∃ κ', ∃ s4 : (List Int) × Int × Int × Int, ∃ ap al, L = [(0, .pointer (some ⟨b0, 0, none⟩)), (2, .pointer (some ⟨b2, 0, none⟩)), (3, vi (IntKind.i64.wrap (1 + x9.1))), (4, .pointer (some ⟨b4, 0, none⟩)), (5, vi v5), (6, .slice ap s4.1.length al), (7, vi s4.2.1)] ∧ Stp [10, 13, 16, 20] K52 w48 κ' w' ∧ Oc E6 2 κ' w' 10 ap al s4.1 ∧ Bc κ' w' 13 b0 102 [.slice ab p0.b.length aa, vi s4.2.2.1, vi s4.2.2.2] ∧ whileM (s_l1Draw_b2 p0 x9) k s4 = some q5) ⟨_, _, ⟨K52, ((([] : List Int) : (List Int)), ((IntKind.i64.wrap (1 + x19.1)) : Int), (x19.2.1 : Int), (x19.2.2 : Int)), aw, ay, R, (Jx2 _ _).wk R, (f45.stp S53 R R), (f51.mx m54 R (R : 11 + 2 = 13)), hq59⟩, (KM R)⟩ ?_)
 rintro k _ w65 ⟨K66, s4, ap, al, rfl, S67, f68, f69, h⟩
 rcases k with _ | k
 cases h
 obtain ⟨o57, h, hk71⟩ := BI h; unfold s_l1Draw_b2 at h
 refine Jq (Je [2, 2] R (Jb 2 R ?_))
 revert h
 cases ht72 : decide (0 < s4.2.1)
 refine JF fun h => Jy R (Jc1 (Jt (Jt ?_)))
 cases h
 have h := hk71
 refine Jb1 ?_
 cases h
 exact Jw1 _ ⟨K66, ((s4.1 : (List Int)), (s4.2.1 : Int), (s4.2.2.1 : Int), (s4.2.2.2 : Int)), ap, al, R, S67.wk R, f68, f69, R⟩ (KM R)
 refine JT fun h => Jx R (Js (Jp (Jq (Jv (Ja [2, 2, 2, 1, 1, 2] R (Jn 3 R (Ob h fun x28 hx28 h => Jh R R R C38 (s_l1Below_ok (κ := fun b => mp [(13, 2)] 0 (K66 b)) (p0 := (⟨p0.b, s4.2.2.1, s4.2.2.2⟩ : l1Cur)) (Jl2 (f46.stp (S53.tr S67) R R) (mp [(13, 2)] 0) R R) (f69.map (mp [(13, 2)] 0) R R) hx28) ?_)))))))
 rintro _ w74 ⟨k75, rfl, e76, f77⟩
 obtain ⟨K78, S79, m80⟩ := Ji e76 14 R
 refine ⟨tv, Ob h fun x29 hx29 h => Jh R R R C92 (s_l1Into__own0_ok (κ := fun b => mp [(10, 2)] 0 (K78 b)) ((f68.stp S79 R R).map (mp [(10, 2)] 0) R R) hx29) ?_⟩
 rintro _ w84 ⟨k85, ax, av, rfl, e86, f87⟩
 obtain ⟨K88, S89, m90⟩ := Ji e86 17 R
 refine ⟨tv, Jc 1 R (Jz (Jp (Ja [2, 2, 2] R (Jc 3 R ?_))))⟩
 cases h
 exact Jz1 fun a ha => ⟨k, _, Ja3 _, ⟨(fun b => ren [(20, 10), (16, 13)] (K88 b)), ((x29 : (List Int)), ((IntKind.i64.wrap (s4.2.1 - 1)) : Int), (x28.2.1 : Int), (x28.2.2 : Int)), ax, av, R, (Jy2 ((S67.tr (S79.tr S89)).wk R) [(20, 10), (16, 13)] R), ((f87.mx (no_int _) m90 R (R : 17 + 3 = 20)).map (ren [(20, 10), (16, 13)]) R R), (((f77.mx m80 R (R : 14 + 2 = 16)).stp S89 R R).map (ren [(20, 10), (16, 13)]) R R), hk71⟩, (ha.mm R)⟩
 rintro _ w60 ⟨K61, s6, ak, aj, rfl, S62, f63, f64, rfl⟩
 have h := hK58
 dsimp only [aft] at h
 refine Jp (Jq (Js1 (κ := K61) [7] (some 7) [(0, 2), (2, 2), (1, 0), (3, 1), (4, 1), (5, 1), (6, 2)] [(7, 1)] (by kernel_rfl) (by kernel_rfl) fun w95 S94 => Jf R (Jb2 U72 R Z24 R R) (Jn 1 R ?_)))
 have f96 := f39.stp (S44.tr (S53.tr (S62.tr S94))) R R
 refine Jg R (Jc2 I24 R R (hvC (f96.ld 0 R R) R)) (Ob h fun x33 hx33 h => Jh R R R C38 (s_l1Below_ok (κ := fun b => mp [(13, 2)] 0 (K61 b)) (p0 := (⟨p0.b, s6.2.2.1, s6.2.2.2⟩ : l1Cur)) (Jl2 (f46.stp (S53.tr (S62.tr S94)) R R) (mp [(13, 2)] 0) R R) ((f64.stp S94 R R).map (mp [(13, 2)] 0) R R) hx33) ?_)
 rintro _ w99 ⟨k100, rfl, e101, f102⟩
 obtain ⟨K103, S104, m105⟩ := Ji e101 14 R
 have S001 := (S44.tr (S53.tr (S62.tr (S94.tr S104))))
 refine ⟨(S104.cl R), Jn1 (κ := K103) (E := E6) 17 [] (parts := [(0, .tmp 33)]) (cells := [vi x33.1]) (xs := ([x33.1] : List Int)) R R R R R R Y24 Tryinfo2 R R R R R R R R R R ⟨[vi x33.1], [], Zl K103 w99 [], Zl K103 w99 [], R, Zl.sp (l1 := []) (l2 := []) R, Zl.sr (l1 := []) (l2 := []), R, R⟩ fun aB az w108 K109 S110 f111 => ⟨((S104.tr S110).cl R), Ob h fun x35 hx35 h => Jm1 (κ := K109) (E := E6) 8 [] R R R R R R R R R Y24 Tryinfo2 R R R R (f36.stp (S001.tr S110) R R) (Sl.srcP (pu_int _) f111.rdc) sy_false hx35 R fun am aq w113 K114 S115 f116 => ⟨((S104.tr (S110.tr S115)).cl R), Jf R (Jb2 U72 R Z24 R R) (Jt1 (Ji1 (κ := K114) 7 (off := 0) (vc := [.slice am x35.length aq]) (cs' := [.slice am x35.length aq, .slice ai s1.2.2.2.length ah]) R R R R R R R Z24 R R (f96.stp (S104.tr (S110.tr S115)) R R) R R fun w118 S119 f120 => ⟨tv, Jd (Ja [2, 1, 2, 1, 1, 2, 1] R (Jf R (Jb2 U72 R Z22 R R) (Jl tv R R R R (Jc2 I22 R R (hvE (f120.ld 1 R R))) (Jn 1 R (Jn1 (κ := K114) (E := (Ep.own E6 2)) 18 [10] (parts := [(0, .tmp 39)]) (cells := [.slice ak s6.1.length aj]) (xs := ([s6.1] : List (List Int))) R R R R R R Y22 Tryinfo24 R R R R R R R R R R ⟨[.slice ak s6.1.length aj], [], Zl K114 w118 [10], Zl K114 w118 [], R, Zl.sp (l1 := [10]) (l2 := []) R, Zl.sr (l1 := [10]) (l2 := []), ⟨_, _, R, (f63.stp (S94.tr (S104.tr (S110.tr (S115.tr S119)))) R R)⟩, R⟩ fun aA aC w122 K123 S124 f125 => ⟨tv, Ob h fun x41 hx41 h => Jm1 (κ := K123) (E := (Ep.own E6 2)) 9 [18] R R R R R R R R R Y22 Tryinfo24 R R R R (f37.stp (S001.tr (S110.tr (S115.tr (S119.tr S124)))) R R) f125.src (sy_one R) hx41 R fun ar au w127 K128 S129 f130 => ⟨tv, Jf R (Jb2 U72 R Z22 R R) (Ji1 (κ := K128) 7 (off := 1) (vc := [.slice ar x41.length au]) (cs' := [.slice am x35.length aq, .slice ar x41.length au]) R R R R R R R Z22 R R (f120.stp (S124.tr S129) R R) R R fun w132 S133 f134 => ⟨tv, Jo (Jz (Jp (Ja [2, 2, 2] R (Jc 3 R ?_))))⟩)⟩⟩)))))⟩))⟩⟩⟩
 have hw23 : IntKind.wrap .i64 (v5 + 1) = v5 + 1 := wr1 hj23 (Jm2 hc23) hN23
 rw [hw23]
 have hc23 := Jm2 hc23
 cases h
 exact Jz1 fun a ha => ⟨k, _, Ja3 _, ⟨(fun b => ren [(16, 6)] (K128 b)), v5 + 1, ((x33.2.1 : Int), (x33.2.2 : Int), (x35 : (List Int)), (x41 : (List (List Int)))), am, aq, ar, au, R, (Jy2 ((S35.tr (S44.tr (S53.tr (S62.tr (S94.tr (S104.tr (S110.tr (S115.tr (S119.tr (S124.tr (S129.tr S133))))))))))).wk R) [(16, 6)] R), ((f116.stp (S119.tr (S124.tr (S129.tr S133))) R R).map (ren [(16, 6)]) R R), ((f130.stp S133 R R).map (ren [(16, 6)]) R R), (((f102.mx m105 R (R : 14 + 2 = 16)).stp (S110.tr (S115.tr (S119.tr (S124.tr (S129.tr S133))))) R R).map (ren [(16, 6)]) R R), (f134.map (ren [(16, 6)]) R R), by omega, by omega, hk41⟩, (ha.mm R)⟩
 rintro _ w26 ⟨K27, s3, ad, ac, ae, af, rfl, S28, f29, f30, f31, f32, rfl⟩
 have h := hK24
 dsimp only [aft] at h
 refine Jp (Je [1, 1] R (Jl tv R R R R (Jd2 (cs := [.slice ad s3.2.2.1.length ac, .slice ae s3.2.2.2.length af]) I72 Z72 R R R (haE f32.cells)) (Jj1 (κ := K27) 3 (vc := [.slice ad s3.2.2.1.length ac, .slice ae s3.2.2.2.length af]) R R R R R R R Z72 R R (f4.stp (S12.tr (S18.tr (S21.tr S28))) R R) R fun w139 S140 f141 => ⟨tv, Jd (Ju (Ja2 (l := [.cell 2 72]) V63 (res_cellA R f141 I72 Z72 R R) R ?_))⟩)))
 cases h
 exact ⟨(fun b => ren [(8, 3), (9, 4), (6, 2)] (K27 b)), ad, ac, ae, af, R, ((hE.stp (S3.tr (S12.tr (S18.tr (S21.tr (S28.tr S140))))) R R).map (ren [(8, 3), (9, 4), (6, 2)]) R R), ((f29.stp S140 R R).map (ren [(8, 3), (9, 4), (6, 2)]) R R), ((f30.stp S140 R R).map (ren [(8, 3), (9, 4), (6, 2)]) R R), ((f31.stp S140 R R).map (ren [(8, 3), (9, 4), (6, 2)]) R R)⟩
theorem i_loopsIn_ok {w : World} {κ : Col} {a0 u0} {p0 : (List (List Int))} {a1 u1} {p1 : (List Bool)} (g0 : Rd (Rp.sl (Rp.int .i64)) κ w 0 a0 u0 p0) (g1 : Rd Rp.bool κ w 0 a1 u1 p1) {r : (List (List Int))} (h : i_loopsIn p0 p1 = some r) : Ret Try.prog 60 [.slice a0 p0.length u0, .slice a1 p1.length u1] w (fun v w' => ∃ (κ' : Col) (ra0 : Option Addr) (ru0 : Nat), v = .slice ra0 r.length ru0 ∧ Ent κ w κ' w' ∧ Oc (Ep.fz (Rp.sl (Rp.int .i64))) 24 κ' w' 2 ra0 ru0 r) := by
 unfold i_loopsIn at h
 refine Ret.enter F60 R N60 R ?_
 dsimp only [envOf]
 have hE := Ent.refl κ w
 refine Je [1, 2] R (Jf1 (κ := κ) 2 R R R R R R R fun b3 w1 K2 S3 f4 => ⟨tv, Jb 1 R (Je [2, 2, 1, 2] R (Jn 1 R (Jf R (Je2 U22 R R) (Ob h fun x20 hx20 h => Jl1 (κ := K2) (E := (Ep.own E6 2)) (z := (([] : List Int) : (List Int))) 3 R R R R R R R Y22 Tryinfo24 R R R R R (fun _ _ _ => ⟨none, 0, R, Ow.nil⟩) (Ju2 hx20) fun aa ab w5 K6 S7 f8 => ⟨tv, Jb 1 R (Jq (Je [2, 2, 2] R (Jn 1 R (Jf R (Je2 U22 R R) (Jb 1 R ?_)))))⟩))))⟩)
 have hN9 : (p0.length : Int) ≤ 9223372036854775807 := g0.len_le
 refine Ob h fun q2 hq11 hK10 => ?_
 clear h
 refine Jx1 (fun L w' => ∃ κ', ∃ s3 : (List (List Int)), L = [(0, .slice a0 p0.length u0), (3, .pointer (some ⟨b3, 0, none⟩)), (5, .slice aa x20.length ab)] ∧ Stp [3, 5] K6 w5 κ' w' ∧ Oc (Ep.own E6 2) 24 κ' w' 3 aa ab s3 ∧ x20.length = s3.length ∧ q2 = Sum.inr s3) ?_ ?_
 refine Jv (Jy1 (fun k L w' => ∃ κ' v23, ∃ s1 : (List (List Int)), L = [(0, .slice a0 p0.length u0), (3, .pointer (some ⟨b3, 0, none⟩)), (5, .slice aa x20.length ab), (21, .slice a0 p0.length u0), (22, vi (p0.length : Int)), (23, vi v23)] ∧ Stp [3, 5] K6 w5 κ' w' ∧ Oc (Ep.own E6 2) 24 κ' w' 3 aa ab s1 ∧ x20.length = s1.length ∧ 0 ≤ v23 ∧ Int.toNat ((p0.length : Int) - v23) = k ∧ cntM (i_loopsIn_b0 p0 p1) k v23 s1 = some q2) ⟨_, _, ⟨K6, 0, (x20 : (List (List Int))), R, (Jx2 _ _).wk R, f8, R, (by decide), (by simp), hq11⟩, (KM R)⟩ ?_)
 rintro k _ w17 ⟨K18, v23, s1, rfl, S19, f20, hn21, hj9, hJ9, h⟩
 rcases k with _ | k
 have hk22 := h; obtain ⟨o9, h⟩ := ex_eq (Sum.inr (Sum.inl s1) : (List (List Int)) ⊕ (((List (List Int))) ⊕ ((List (List Int)))))
 have hc9 : decide (v23 < (p0.length : Int)) = false := Jo2 (by omega)
 refine Je [2] R (Jb 1 R (Jq (Jw2 R hc9 (Jc1 (Jt (Jt ?_))))))
 cases h
 have h := hk22
 refine Jb1 ?_
 cases h
 exact Jw1 _ ⟨K18, (s1 : (List (List Int))), R, S19.wk R, f20, hn21, R⟩ (KM R)
 obtain ⟨o9, h, hk22⟩ := BI h; unfold i_loopsIn_b0 at h
 have hc9 : decide (v23 < (p0.length : Int)) = true := Jn2 (by omega)
 refine Je [2] R (Jb 1 R (Jq (Jv2 R hc9 (Js (Jp (Jq (Jv (Je [2, 2, 1, 2, 2] R (Jn 1 R (Ob h fun x26 hx26 h => Jf R (Jf2 g0 hx26 U22 Z24 R R R R) ?_))))))))))
 obtain ⟨ax26, ux26, f24, hl25⟩ := (g0.stp (S3.tr (S7.tr S19)) R R).gSl hx26
 refine Jl tv R R R R (Jc2 I24 R R (hvE hl25)) (Jb 2 R (Je [2, 2, 2] R (Jn 1 R (Jf R (Je2 U24 R R) (Jb 1 R ?_)))))
 have hN26 : (x26.length : Int) ≤ 9223372036854775807 := f24.len_le
 refine Ob h fun q5 hq28 hK27 => ?_
 clear h
 refine Jx1 (fun L w' => ∃ κ', ∃ s6 : (List (List Int)), L = [(0, .slice a0 p0.length u0), (3, .pointer (some ⟨b3, 0, none⟩)), (5, .slice aa x20.length ab), (21, .slice a0 p0.length u0), (22, vi (p0.length : Int)), (23, vi v23)] ∧ Stp [3, 5] K18 w17 κ' w' ∧ Oc (Ep.own E6 2) 24 κ' w' 3 aa ab s6 ∧ x20.length = s6.length ∧ q5 = Sum.inr s6) ?_ ?_
 refine Jv (Jy1 (fun k L w' => ∃ κ' v30, ∃ s4 : (List (List Int)), L = [(0, .slice a0 p0.length u0), (3, .pointer (some ⟨b3, 0, none⟩)), (5, .slice aa x20.length ab), (6, vi v23), (21, .slice a0 p0.length u0), (22, vi (p0.length : Int)), (23, vi v23), (28, .slice ax26 x26.length ux26), (29, vi (x26.length : Int)), (30, vi v30)] ∧ Stp [3, 5] K18 w17 κ' w' ∧ Oc (Ep.own E6 2) 24 κ' w' 3 aa ab s4 ∧ x20.length = s4.length ∧ 0 ≤ v30 ∧ Int.toNat ((x26.length : Int) - v30) = k ∧ cntM (i_loopsIn_b2 p1 v23 x26) k v30 s4 = some q5) ⟨_, _, ⟨K18, 0, (s1 : (List (List Int))), R, (Jx2 _ _).wk R, f20, hn21, (by decide), (by simp), hq28⟩, (KM R)⟩ ?_)
 rintro k _ w34 ⟨K35, v30, s4, rfl, S36, f37, hn38, hj26, hJ26, h⟩
 rcases k with _ | k
 have hk39 := h; obtain ⟨o26, h⟩ := ex_eq (Sum.inr (Sum.inl s4) : (List (List Int)) ⊕ (((List (List Int))) ⊕ ((List (List Int)))))
 have hc26 : decide (v30 < (x26.length : Int)) = false := Jo2 (by omega)
 refine Je [2] R (Jb 1 R (Jq (Jw2 R hc26 (Jc1 (Jt (Jt ?_))))))
 cases h
 have h := hk39
 refine Jb1 ?_
 cases h
 exact Jw1 _ ⟨K35, (s4 : (List (List Int))), R, S36.wk R, f37, hn38, R⟩ (KM R)
 obtain ⟨o26, h, hk39⟩ := BI h; unfold i_loopsIn_b2 at h
 have hc26 : decide (v30 < (x26.length : Int)) = true := Jn2 (by omega)
 refine Je [2] R (Jb 1 R (Jq (Jv2 R hc26 (Js (Jp (Jq (Jv (Je [2, 1, 2] R (Ob h fun x32 hx32 h => Jf R (Jf2 f24 hx32 U24 Z2 R R R R) (Jl tv R R R R (Jc2 I2 R R (hvE ((f24.stp S36 R R).gInt hx32))) (Jb 1 R (Je [1, 2, 2, 1, 2, 1, 2, 2, 1, 2] R ?_))))))))))))
 have f41 := f4.stp (S7.tr (S19.tr S36)) R R
 refine Jl tv R R R R (Jc2 I98 R R (hvE (f41.ld 0 R R))) (Jn 1 R (Ob h fun x36 hx36 h => Jf R (Jf2 g1 hx36 U98 Z4 R R R R) ?_))
 have f42 := g1.stp (S3.tr (S7.tr (S19.tr S36))) R R
 refine Jl tv R R R R (Jc2 I4 R R (hvE (f42.gBool hx36))) (Jn 1 R (Ob h fun p43 h hK43 => Ju1 [(5, 1), (6, 2), (7, 2), (8, 1), (9, 2)] [] (fun L w' => L = [(0, .slice a0 p0.length u0), (3, .pointer (some ⟨b3, 0, none⟩)), (5, .slice aa x20.length ab), (6, vi v23), (9, vi x32), (21, .slice a0 p0.length u0), (22, vi (p0.length : Int)), (23, vi v23), (28, .slice ax26 x26.length ux26), (29, vi (x26.length : Int)), (30, vi v30), (43, .bool p43)] ∧ ∃ κ', Stp [] K35 w34 κ' w') tv ?_ ?_))
 revert h
 cases ht44 : x36
 refine JF fun h => Jd1 R R R R (Jn 2 R (Jd1 R R R R (Jn 1 R ?_)))
 cases h
 exact Jv1 _ tv ⟨R, _, (Jx2 _ _).wk R⟩ (KM R)
 refine JT fun h => Jl tv R R R R (Jc2 I98 R R (hvE (f41.ld 0 R R))) (Jn 1 R (Ob h fun x41 hx41 h => Jf R (Jf2 f42 hx41 U98 Z4 R R R R) (Jl tv R R R R (Jc2 I4 R R (hvE (f42.gBool hx41))) (Jn 1 R ?_))))
 cases h
 exact Jv1 _ tv ⟨R, _, (Jx2 _ _).wk R⟩ (KM R)
 rintro _ w45 _ ⟨rfl, K46, S47⟩
 have h := hK43
 refine Jd (Ob h fun q7 h hK48 => Jx1 (fun L w' => ∃ κ', L = [(0, .slice a0 p0.length u0), (3, .pointer (some ⟨b3, 0, none⟩)), (5, .slice aa x20.length ab), (6, vi v23), (21, .slice a0 p0.length u0), (22, vi (p0.length : Int)), (23, vi v23), (28, .slice ax26 x26.length ux26), (29, vi (x26.length : Int)), (30, vi v30)] ∧ Stp [3, 5] K46 w45 κ' w' ∧ Oc (Ep.own E6 2) 24 κ' w' 3 aa ab q7 ∧ x20.length = q7.length) ?_ ?_)
 revert h
 cases ht54 : p43
 refine JF fun h => Jy R (Js ?_)
 cases h
 exact Jw1 _ ⟨K46, R, (Jx2 _ _).wk R, (f37.stp S47 R R), hn38⟩ (KM R)
 refine JT fun h => Jx R (Ja [2, 2, 2, 2, 2, 1, 2, 1, 1, 2, 1] R (Jn 4 R (Ob h fun x48 hx48 h => Jf R (Jf2 f37.rdc hx48 U22 Z24 R R hn38 R) ?_)))
 have f55 := f37.stp S47 R R
 obtain ⟨ax48, ux48, f56, hl57⟩ := f55.rdc.gSl hx48
 refine Jl tv R R R R (Jc2 I24 R R (hvE hl57)) (Jn 1 R (Jn1 (κ := K46) (E := E6) 4 [] (parts := [(0, .tmp 50)]) (cells := [vi v23]) (xs := ([v23] : List Int)) R R R R R R Y24 Tryinfo2 R R R R R R R R R R ⟨[vi v23], [], Zl K46 w45 [], Zl K46 w45 [], R, Zl.sp (l1 := []) (l2 := []) R, Zl.sr (l1 := []) (l2 := []), R, R⟩ fun aM aL w58 K59 S60 f61 => ⟨tv, ?_⟩))
 have f62 := f55.stp S60 R R
 obtain ⟨K63, S64, f65, f66⟩ := f62.borrow hx48 (hl57 _ (Stp.ag S60 R)) 5 R R
 refine Ob h fun x52 hx52 h => Jm1 (κ := K63) (E := E6) 5 [] R R R R R R R R R Y24 Tryinfo2 R R R R f65 (Sl.srcP (pu_int _) (f61.stp S64 R R).rdc) sy_false hx52 R fun aK aI w68 K69 S70 f71 => ⟨tv, Ob h fun x53 hx53 h => Jf R (Jf2 f62.rdc hx53 U22 Z24 R R hn38 R) (Ob h fun y82 hy82 h => WO.stH (κ := K69) (E := (Ep.own E6 2)) 3 [5] R R R R R R R R Z24 R ⟨_, _, R, f71⟩ R R (f66.stp S70 R R) hy82 fun w73 K74 S75 f76 => ⟨tv, ?_⟩)⟩
 have hn77 : x20.length = y82.length := hn38.trans (Jt2 hy82).2.2.2.symm
 refine Jo ?_
 cases h
 exact Jw1 _ ⟨K74, R, (S60.tr (S64.tr (S70.tr S75))).wk R, f76, hn77⟩ (KM R)
 rintro _ w49 ⟨K50, rfl, S51, f52, hn53⟩
 have h := hK48
 refine Jz (Jp (Ja [2, 2] R (Jc 2 R ?_)))
 have hw26 : IntKind.wrap .i64 (v30 + 1) = v30 + 1 := wr1 hj26 (Jm2 hc26) hN26
 rw [hw26]
 have hc26 := Jm2 hc26
 cases h
 exact Jz1 fun a ha => ⟨k, _, Ja3 _, ⟨K50, v30 + 1, (q7 : (List (List Int))), R, (S36.tr (S47.tr S51)).wk R, f52, hn53, by omega, by omega, hk39⟩, (ha.mm R)⟩
 rintro _ w29 ⟨K30, s6, rfl, S31, f32, hn33, rfl⟩
 have h := hK27
 dsimp only [aft] at h
 refine Jz (Jp (Ja [2, 2] R (Jc 2 R ?_)))
 have hw9 : IntKind.wrap .i64 (v23 + 1) = v23 + 1 := wr1 hj9 (Jm2 hc9) hN9
 rw [hw9]
 have hc9 := Jm2 hc9
 cases h
 exact Jz1 fun a ha => ⟨k, _, Ja3 _, ⟨K30, v23 + 1, (s6 : (List (List Int))), R, (S19.tr S31).wk R, f32, hn33, by omega, by omega, hk22⟩, (ha.mm R)⟩
 rintro _ w12 ⟨K13, s3, rfl, S14, f15, hn16, rfl⟩
 have h := hK10
 dsimp only [aft] at h
 refine Jp (Je [2, 2, 1, 1, 1] R (Jn 1 R (Jf R (Je2 U22 R R) (Ob h fun x58 hx58 h => Jl1 (κ := K13) (E := Ep.bool) (z := (false : Bool)) 4 R R R R R R R Y98 Tryinfo4 R R R R R (fun _ _ _ => R) (Ju2 hx58) fun aj al w79 K80 S81 f82 => ⟨tv, Jg1 (κ := K80) 5 R R R R R X98 R fun b10 w83 K84 S85 f86 => ⟨tv, Jj1 (κ := K84) 5 (vc := [.slice aj x58.length al]) R R R R R R R Z98 R R f86 R fun w87 S88 f89 => ⟨tv, Jd (Je [1, 1, 1] R (Jo1 (κ := K84) (E := E6) 6 R R R R R Y24 Tryinfo2 R fun ax ay w90 K91 S92 f93 => ⟨tv, Jg1 (κ := K91) 7 R R R R R X24 R fun b11 w94 K95 S96 f97 => ⟨tv, Jj1 (κ := K95) 7 (vc := [.slice ax ([] : List Int).length ay]) R R R R R R R Z24 R R f97 R fun w98 S99 f100 => ⟨tv, Jd (Je [1] R (Jg1 (κ := K95) 8 R R R R R X118 R fun b12 w101 K102 S103 f104 => ⟨tv, Jd (Je [2, 1] R (Jf R (rn_makeFunc (first := []) (captured := [.tmp 10, .tmp 3, .tmp 12]) R R R ⟨_, R⟩) (Jj1 (κ := K102) 8 (vc := [.func (.func 84) #[] #[.pointer (some ⟨b10, 0, none⟩), .pointer (some ⟨b3, 0, none⟩), .pointer (some ⟨b12, 0, none⟩)]]) R R R R R R R Z118 R R f104 R fun w105 S106 f107 => ⟨tv, Jd (Jq (Je [2, 2, 2] R (Jn 1 R (Jf R (Je2 U22 R R) (Jb 1 R ?_)))))⟩)))⟩))⟩⟩⟩))⟩⟩⟩))))
 have hN108 : (p0.length : Int) ≤ 9223372036854775807 := g0.len_le
 refine Ob h fun q9 hq110 hK109 => ?_
 clear h
 refine Jx1 (fun L w' => ∃ κ', ∃ s10 : (List Int) × (List Bool), ∃ aw ap, L = [(0, .slice a0 p0.length u0), (5, .slice aa x20.length ab), (10, .pointer (some ⟨b10, 0, none⟩)), (11, .pointer (some ⟨b11, 0, none⟩)), (12, .pointer (some ⟨b12, 0, none⟩))] ∧ Stp [4, 6, 7, 11, 12, 13] K102 w105 κ' w' ∧ Oc E6 2 κ' w' 6 aw ap s10.1 ∧ Oc Ep.bool 4 κ' w' 4 aj al s10.2 ∧ x58.length = s10.2.length ∧ Bc κ' w' 7 b11 24 [.slice aw s10.1.length ap] ∧ q9 = Sum.inr s10) ?_ ?_
 refine Jv (Jy1 (fun k L w' => ∃ κ' v63, ∃ s8 : (List Int) × (List Bool), ∃ af ae, L = [(0, .slice a0 p0.length u0), (3, .pointer (some ⟨b3, 0, none⟩)), (5, .slice aa x20.length ab), (10, .pointer (some ⟨b10, 0, none⟩)), (11, .pointer (some ⟨b11, 0, none⟩)), (12, .pointer (some ⟨b12, 0, none⟩)), (62, vi (p0.length : Int)), (63, vi v63)] ∧ Stp [4, 6, 7, 11, 12, 13] K102 w105 κ' w' ∧ Oc E6 2 κ' w' 6 af ae s8.1 ∧ Oc Ep.bool 4 κ' w' 4 aj al s8.2 ∧ x58.length = s8.2.length ∧ Bc κ' w' 7 b11 24 [.slice af s8.1.length ae] ∧ 0 ≤ v63 ∧ Int.toNat ((p0.length : Int) - v63) = k ∧ cntM (i_loopsIn_b4 p0 p1) k v63 s8 = some q9) ⟨_, _, ⟨K102, 0, ((([] : List Int) : (List Int)), (x58 : (List Bool))), ax, ay, R, (Jx2 _ _).wk R, (f93.stp (S96.tr (S99.tr (S103.tr S106))) R R), (f82.stp (S85.tr (S88.tr (S92.tr (S96.tr (S99.tr (S103.tr S106)))))) R R), R, (f100.stp (S103.tr S106) R R), (by decide), (by simp), hq110⟩, (KM R)⟩ ?_)
 rintro k _ w118 ⟨K119, v63, s8, af, ae, rfl, S120, f121, f122, hn123, f124, hj108, hJ108, h⟩
 rcases k with _ | k
 have hk128 := h; obtain ⟨o108, h⟩ := ex_eq (Sum.inr (Sum.inl s8) : (List (List Int)) ⊕ (((List Int) × (List Bool)) ⊕ ((List Int) × (List Bool))))
 have hc108 : decide (v63 < (p0.length : Int)) = false := Jo2 (by omega)
 refine Je [2] R (Jb 1 R (Jq (Jw2 R hc108 (Jc1 (Jt (Jt ?_))))))
 cases h
 have h := hk128
 refine Jb1 ?_
 cases h
 exact Jw1 _ ⟨K119, ((s8.1 : (List Int)), (s8.2 : (List Bool))), af, ae, R, S120.wk R, f121, f122, hn123, f124, R⟩ (KM R)
 obtain ⟨o108, h, hk128⟩ := BI h; unfold i_loopsIn_b4 at h
 have hc108 : decide (v63 < (p0.length : Int)) = true := Jn2 (by omega)
 refine Je [2] R (Jb 1 R (Jq (Jv2 R hc108 (Js (Jp (Jq (Jv (Je [2, 2] R (Jb 2 R (Je [1, 2, 2, 1, 2, 1, 2, 2, 1, 2, 2] R ?_))))))))))
 have f129 := f4.stp (S7.tr (S14.tr (S81.tr (S85.tr (S88.tr (S92.tr (S96.tr (S99.tr (S103.tr (S106.tr S120)))))))))) R R
 refine Jl tv R R R R (Jc2 I98 R R (hvE (f129.ld 0 R R))) (Jn 1 R (Ob h fun x68 hx68 h => Jf R (Jf2 g1 hx68 U98 Z4 R R R R) ?_))
 have f130 := g1.stp (S3.tr (S7.tr (S14.tr (S81.tr (S85.tr (S88.tr (S92.tr (S96.tr (S99.tr (S103.tr (S106.tr S120))))))))))) R R
 refine Jl tv R R R R (Jc2 I4 R R (hvE (f130.gBool hx68))) (Jn 1 R (Ob h fun p76 h hK131 => Ju1 [(5, 1), (6, 2), (7, 2), (8, 1), (9, 2), (10, 2)] [] (fun L w' => L = [(0, .slice a0 p0.length u0), (3, .pointer (some ⟨b3, 0, none⟩)), (5, .slice aa x20.length ab), (10, .pointer (some ⟨b10, 0, none⟩)), (11, .pointer (some ⟨b11, 0, none⟩)), (12, .pointer (some ⟨b12, 0, none⟩)), (13, vi v63), (62, vi (p0.length : Int)), (63, vi v63), (76, .bool p76)] ∧ ∃ κ', Stp [] K119 w118 κ' w') tv ?_ ?_))
 revert h
 cases ht132 : x68
 refine JF fun h => Jd1 R R R R (Jn 2 R (Jd1 R R R R (Jn 2 R ?_)))
 cases h
 exact Jv1 _ tv ⟨R, _, (Jx2 _ _).wk R⟩ (KM R)
 refine JT fun h => Jl tv R R R R (Jc2 I98 R R (hvE ((f89.stp (S92.tr (S96.tr (S99.tr (S103.tr (S106.tr S120))))) R R).ld 0 R R))) (Jn 1 R (Ob h fun x73 hx73 h => Jf R (Jf2 f122.rdc hx73 U98 Z4 R R hn123 R) (Jl tv R R R R (Jc2 I4 R R (hvE (f122.rdc.gBool hx73))) (Jn 2 R ?_))))
 cases h
 exact Jv1 _ tv ⟨R, _, (Jx2 _ _).wk R⟩ (KM R)
 rintro _ w134 _ ⟨rfl, K135, S136⟩
 have h := hK131
 refine Jd (Ob h fun q11 h hK137 => Jx1 (fun L w' => ∃ κ' ai an, L = [(0, .slice a0 p0.length u0), (3, .pointer (some ⟨b3, 0, none⟩)), (5, .slice aa x20.length ab), (10, .pointer (some ⟨b10, 0, none⟩)), (11, .pointer (some ⟨b11, 0, none⟩)), (12, .pointer (some ⟨b12, 0, none⟩)), (62, vi (p0.length : Int)), (63, vi v63)] ∧ Stp [4, 6, 7, 11, 12, 13] K135 w134 κ' w' ∧ Oc E6 2 κ' w' 6 ai an q11.1 ∧ Oc Ep.bool 4 κ' w' 4 aj al q11.2 ∧ x58.length = q11.2.length ∧ Bc κ' w' 7 b11 24 [.slice ai q11.1.length an]) ?_ ?_)
 revert h
 cases ht145 : p76
 refine JF fun h => Jy R (Js ?_)
 cases h
 exact Jw1 _ ⟨K135, af, ae, R, (Jx2 _ _).wk R, (f121.stp S136 R R), (f122.stp S136 R R), hn123, (f124.stp S136 R R)⟩ (KM R)
 refine JT fun h => Jx R (Ja [1, 2, 2, 2, 1] R ?_)
 have f146 := f107.stp (S120.tr S136) R R
 refine Jl tv R R R R (Jc2 I118 R R (hvE (f146.ld 0 R R))) (Jn 2 R (Jf R (rn_makeFunc (first := []) (captured := [.tmp 11]) R R R ⟨_, R⟩) (Ob h fun x81 hx81 h => WO.callV R R R R R R R R C84 (i_loopsIn_1__i_loopsIn_2__i_loopsIn_1_ok _ (κ := fun b => mp [(6, 2), (4, 3), (7, 4)] 0 (K135 b)) (Jl2 (g0.stp (S3.tr (S7.tr (S14.tr (S81.tr (S85.tr (S88.tr (S92.tr (S96.tr (S99.tr (S103.tr (S106.tr (S120.tr S136)))))))))))) R R) (mp [(6, 2), (4, 3), (7, 4)] 0) R R) ((f121.stp S136 R R).map (mp [(6, 2), (4, 3), (7, 4)] 0) R R) ((f122.stp S136 R R).map (mp [(6, 2), (4, 3), (7, 4)] 0) R R) (Jl2 (f130.stp S136 R R) (mp [(6, 2), (4, 3), (7, 4)] 0) R R) ((f124.stp S136 R R).map (mp [(6, 2), (4, 3), (7, 4)] 0) R R) (Bc.cast ((f89.stp (S92.tr (S96.tr (S99.tr (S103.tr (S106.tr (S120.tr S136)))))) R R).map (mp [(6, 2), (4, 3), (7, 4)] 0) R R) (by simp only [hn123])) ((f129.stp S136 R R).map (mp [(6, 2), (4, 3), (7, 4)] 0) R R) (f146.map (mp [(6, 2), (4, 3), (7, 4)] 0) R R) hx81) ?_)))
 rintro _ w154 ⟨k155, aB, aG, rfl, e156, f157, f158, hn159, f160⟩
 obtain ⟨K161, S162, m163⟩ := Ji e156 9 R
 refine ⟨tv, Jo ?_⟩
 cases h
 exact Jw1 _ ⟨(fun b => ren [(11, 6), (12, 4), (13, 7)] (K161 b)), aB, aG, R, (Jy2 (S162.wk R) [(11, 6), (12, 4), (13, 7)] R), ((f157.mx (no_int _) m163 R (R : 9 + 2 = 11)).map (ren [(11, 6), (12, 4), (13, 7)]) R R), ((f158.mx no_bool m163 R (R : 9 + 3 = 12)).map (ren [(11, 6), (12, 4), (13, 7)]) R R), (hn123.trans hn159), ((f160.mx m163 R (R : 9 + 4 = 13)).map (ren [(11, 6), (12, 4), (13, 7)]) R R)⟩ (KM R)
 rintro _ w138 ⟨K139, ai, an, rfl, S140, f141, f142, hn143, f144⟩
 have h := hK137
 refine Jz (Jp (Ja [2, 2] R (Jc 2 R ?_)))
 have hw108 : IntKind.wrap .i64 (v63 + 1) = v63 + 1 := wr1 hj108 (Jm2 hc108) hN108
 rw [hw108]
 have hc108 := Jm2 hc108
 cases h
 exact Jz1 fun a ha => ⟨k, _, Ja3 _, ⟨K139, v63 + 1, ((q11.1 : (List Int)), (q11.2 : (List Bool))), ai, an, R, (S120.tr (S136.tr S140)).wk R, f141, f142, hn143, f144, by omega, by omega, hk128⟩, (ha.mm R)⟩
 rintro _ w111 ⟨K112, s10, aw, ap, rfl, S113, f114, f115, hn116, f117, rfl⟩
 have h := hK109
 dsimp only [aft] at h
 refine Jp (Je [2, 2, 1, 1] R (Jn 1 R (Jf R (Je2 U22 R R) (Ob h fun x85 hx85 h => Jl1 (κ := K112) (E := Ep.bool) (z := (false : Bool)) 9 R R R R R R R Y98 Tryinfo4 R R R R R (fun _ _ _ => R) (Ju2 hx85) fun au av w171 K172 S173 f174 => ⟨tv, Jj1 (κ := K172) 5 (vc := [.slice au x85.length av]) R R R R R R R Z98 R R (f89.stp (S92.tr (S96.tr (S99.tr (S103.tr (S106.tr (S113.tr S173)))))) R R) R fun w176 S177 f178 => ⟨tv, Jd (Je [1, 2] R (Jo1 (κ := K172) (E := (Ep.fz (Rp.sl (Rp.int .i64)))) 10 R R R R R Y22 Tryinfo24 R fun aD aF w179 K180 S181 f182 => ⟨tv, Jb 1 R (Jq (Je [1, 2, 2, 2] R ?_))⟩))⟩⟩))))
 have f183 := f117.stp (S173.tr (S177.tr S181)) R R
 refine Jl tv R R R R (Jc2 I24 R R (hvE (f183.ld 0 R R))) (Jf R (Je2 U24 R R) (Jb 2 R (Ob h fun q13 hq186 hK185 => ?_)))
 clear h
 refine Jx1 (fun L w' => ∃ κ', ∃ s14 : (List (List Int)) × Int × (List Bool), ∃ ah ao, L = [(14, .slice ah s14.1.length ao)] ∧ Stp [9, 10, 11, 12, 15, 16, 20, 21] K180 w179 κ' w' ∧ Oc (Ep.fz (Rp.sl (Rp.int .i64))) 24 κ' w' 10 ah ao s14.1 ∧ Oc Ep.bool 4 κ' w' 9 au av s14.2.2 ∧ x85.length = s14.2.2.length ∧ q13 = Sum.inr s14) ?_ ?_
 refine Jv (Jy1 (fun k L w' => ∃ κ', ∃ s12 : (List (List Int)) × Int × (List Bool), ∃ ad ac, L = [(0, .slice a0 p0.length u0), (5, .slice aa x20.length ab), (10, .pointer (some ⟨b10, 0, none⟩)), (11, .pointer (some ⟨b11, 0, none⟩)), (12, .pointer (some ⟨b12, 0, none⟩)), (14, .slice ad s12.1.length ac), (15, vi s12.2.1)] ∧ Stp [9, 10, 11, 12, 15, 16, 20, 21] K180 w179 κ' w' ∧ Oc (Ep.fz (Rp.sl (Rp.int .i64))) 24 κ' w' 10 ad ac s12.1 ∧ Oc Ep.bool 4 κ' w' 9 au av s12.2.2 ∧ x85.length = s12.2.2.length ∧ whileM (i_loopsIn_b6 p0 p1 s3 s10) k s12 = some q13) ⟨_, _, ⟨K180, ((([] : List (List Int)) : (List (List Int))), ((IntKind.i64.wrap ((s10.1.length : Int) - 1)) : Int), (x85 : (List Bool))), aD, aF, R, (Jx2 _ _).wk R, f182, (f174.stp (S177.tr S181) R R), R, hq186⟩, (KM R)⟩ ?_)
 rintro k _ w193 ⟨K194, s12, ad, ac, rfl, S195, f196, f197, hn198, h⟩
 rcases k with _ | k
 cases h
 obtain ⟨o184, h, hk200⟩ := BI h; unfold i_loopsIn_b6 at h
 refine Jq (Je [2, 2] R (Jb 2 R ?_))
 revert h
 cases ht201 : decide (0 ≤ s12.2.1)
 refine JF fun h => Jy R (Jc1 (Jt (Jt ?_)))
 cases h
 have h := hk200
 refine Jb1 ?_
 cases h
 exact Jw1 _ ⟨K194, ((s12.1 : (List (List Int))), (s12.2.1 : Int), (s12.2.2 : (List Bool))), ad, ac, R, S195.wk R, f196, f197, hn198, R⟩ (KM R)
 refine JT fun h => Jx R (Js (Jp (Jq (Jv (Je [1, 2, 2, 1, 2] R (Jl tv R R R R (Jc2 I24 R R (hvE ((f183.stp S195 R R).ld 0 R R))) (Jn 1 R (Ob h fun x96 hx96 h => Jf R (Jf2 f114.rdc hx96 U24 Z2 R R R R) (Jl tv R R R R (Jc2 I2 R R (hvE ((f114.stp (S173.tr (S177.tr (S181.tr S195))) R R).rdc.gInt hx96))) (Jb 1 R (Jq (Je [1, 2, 2, 1] R ?_))))))))))))
 have f204 := f178.stp (S181.tr S195) R R
 refine Jl tv R R R R (Jc2 I98 R R (hvE (f204.ld 0 R R))) (Jn 1 R (Ob h fun x100 hx100 h => Jf R (Jf2 f197.rdc hx100 U98 Z4 R R hn198 R) (Jl tv R R R R (Jc2 I4 R R (hvE (f197.rdc.gBool hx100))) (Jd ?_))))
 revert h
 cases ht205 : x100
 refine JF fun h => Jy R (Js (Jp (Je [1, 1, 1] R (Jo1 (κ := K194) (E := E6) 11 R R R R R Y24 Tryinfo2 R fun az aC w206 K207 S208 f209 => ⟨tv, Jg1 (κ := K207) 12 R R R R R X24 R fun b17 w210 K211 S212 f213 => ⟨tv, Jj1 (κ := K211) 12 (vc := [.slice az ([] : List Int).length aC]) R R R R R R R Z24 R R f213 R fun w214 S215 f216 => ⟨tv, Jd (Je [1, 2, 2, 2, 1] R ?_)⟩⟩⟩))))
 have f217 := f107.stp (S113.tr (S173.tr (S177.tr (S181.tr (S195.tr (S208.tr (S212.tr S215))))))) R R
 have S001 := (S208.tr (S212.tr S215))
 refine Jl tv R R R R (Jc2 I118 R R (hvE (f217.ld 0 R R))) (Jn 2 R (Jf R (rn_makeFunc (first := []) (captured := [.tmp 17]) R R R ⟨_, R⟩) (Ob h fun x107 hx107 h => WO.callV R R R R R R R R C84 (Ret.cast (by simp only [hn16, List.cons_append, List.nil_append]) (i_loopsIn_1__i_loopsIn_3__i_loopsIn_1_ok _ (κ := fun b => mp [(11, 2), (9, 3), (12, 4)] 0 (K211 b)) (Jl2 (f15.stp (S81.tr (S85.tr (S88.tr (S92.tr (S96.tr (S99.tr (S103.tr (S106.tr (S113.tr (S173.tr (S177.tr (S181.tr (S195.tr (S208.tr (S212.tr S215))))))))))))))) R R).rdc (mp [(11, 2), (9, 3), (12, 4)] 0) R R) ((f209.stp (S212.tr S215) R R).map (mp [(11, 2), (9, 3), (12, 4)] 0) R R) ((f197.stp S001 R R).map (mp [(11, 2), (9, 3), (12, 4)] 0) R R) (Jl2 (g1.stp (S3.tr (S7.tr (S14.tr (S81.tr (S85.tr (S88.tr (S92.tr (S96.tr (S99.tr (S103.tr (S106.tr (S113.tr (S173.tr (S177.tr (S181.tr (S195.tr (S208.tr (S212.tr S215)))))))))))))))))) R R) (mp [(11, 2), (9, 3), (12, 4)] 0) R R) (f216.map (mp [(11, 2), (9, 3), (12, 4)] 0) R R) (Bc.cast ((f204.stp S001 R R).map (mp [(11, 2), (9, 3), (12, 4)] 0) R R) (by simp only [hn198])) ((f4.stp (S7.tr (S14.tr (S81.tr (S85.tr (S88.tr (S92.tr (S96.tr (S99.tr (S103.tr (S106.tr (S113.tr (S173.tr (S177.tr (S181.tr (S195.tr (S208.tr (S212.tr S215))))))))))))))))) R R).map (mp [(11, 2), (9, 3), (12, 4)] 0) R R) (f217.map (mp [(11, 2), (9, 3), (12, 4)] 0) R R) hx107)) ?_)))
 rintro _ w224 ⟨k225, aq, ar, rfl, e226, f227, f228, hn229, f230⟩
 obtain ⟨K231, S232, m233⟩ := Ji e226 13 R
 refine ⟨tv, ?_⟩
 have f237 := f230.mx m233 R (R : 13 + 4 = 17)
 refine Jd (Je [1, 1] R (Jl tv R R R R (Jc2 I24 R R (hvE (f237.ld 0 R R))) (Ob h fun x109 hx109 h => Jh R R R C87 (slices_Sort_I_int64_ok (κ := fun b => mp [(15, 2)] 0 (K231 b)) ((f227.mx (no_int _) m233 R (R : 13 + 2 = 15)).map (mp [(15, 2)] 0) R R) hx109) ?_)))
 rintro _ w238 ⟨k239, rfl, e240, f241, hn242⟩
 obtain ⟨K243, S244, m245⟩ := Ji e240 18 R
 refine ⟨tv, Jd (Je [1, 2, 2, 2, 2, 2, 2, 1, 2, 1, 2] R ?_)⟩
 have f248 := f237.stp S244 R R
 refine Jl tv R R R R (Jc2 I24 R R (hvE (f248.ld 0 R R))) (Jf R (Je2 U24 R R) (Jn 2 R (Ob h fun p120 h hK249 => Ju1 [(4, 2), (5, 2), (6, 2), (7, 1), (8, 2), (9, 1), (10, 2)] [] (fun L w' => L = [(0, .slice a0 p0.length u0), (5, .slice aa x20.length ab), (10, .pointer (some ⟨b10, 0, none⟩)), (11, .pointer (some ⟨b11, 0, none⟩)), (12, .pointer (some ⟨b12, 0, none⟩)), (14, .slice ad s12.1.length ac), (15, vi s12.2.1), (17, .pointer (some ⟨b17, 0, none⟩)), (120, .bool p120)] ∧ ∃ κ', Stp [] K243 w238 κ' w') tv ?_ ?_)))
 revert h
 cases ht250 : decide (1 < (x107.1.length : Int))
 refine JF fun h => Jn 2 R (Ob h fun x116 hx116 h => Jf R (Jf2 g0 hx116 U22 Z24 R R R R) ?_)
 obtain ⟨ax116, ux116, f252, hl253⟩ := (g0.stp (S3.tr (S7.tr (S14.tr (S81.tr (S85.tr (S88.tr (S92.tr (S96.tr (S99.tr (S103.tr (S106.tr (S113.tr (S173.tr (S177.tr (S181.tr (S195.tr (S208.tr (S212.tr (S215.tr (S232.tr S244)))))))))))))))))))) R R).gSl hx116
 refine Jl tv R R R R (Jc2 I24 R R (hvE hl253)) (Jn 1 R (Ob h fun x119 hx119 h => Jh R R R C72 (slices_Contains_I_int64_ok (κ := fun b => mp [] 0 (K243 b)) (Jl2 f252 (mp [] 0) R R) hx119) ?_))
 rintro _ w254 ⟨k255, rfl, e256⟩
 obtain ⟨K257, S258, m259⟩ := Ji e256 21 R
 refine ⟨tv, Jn 1 R ?_⟩
 cases h
 exact Jv1 _ tv ⟨R, _, S258.wk R⟩ (KM R)
 refine JT fun h => Jn 3 R (Jd1 R R R R (Jn 1 R (Jd1 R R R R (Jn 1 R ?_))))
 cases h
 exact Jv1 _ tv ⟨R, _, (Jx2 _ _).wk R⟩ (KM R)
 rintro _ w261 _ ⟨rfl, K262, S263⟩
 have h := hK249
 refine Jd (Ob h fun q15 h hK264 => Jx1 (fun L w' => ∃ κ' ak am, L = [(0, .slice a0 p0.length u0), (5, .slice aa x20.length ab), (10, .pointer (some ⟨b10, 0, none⟩)), (11, .pointer (some ⟨b11, 0, none⟩)), (12, .pointer (some ⟨b12, 0, none⟩)), (14, .slice ak q15.length am), (15, vi s12.2.1)] ∧ Stp [10, 20, 21] K262 w261 κ' w' ∧ Oc (Ep.fz (Rp.sl (Rp.int .i64))) 24 κ' w' 10 ak am q15) ?_ ?_)
 revert h
 cases ht269 : p120
 refine JF fun h => Jy R (Js ?_)
 cases h
 exact Jw1 _ ⟨K262, ad, ac, R, (Jx2 _ _).wk R, (f196.stp (S208.tr (S212.tr (S215.tr (S232.tr (S244.tr S263))))) R R)⟩ (KM R)
 refine JT fun h => Jx R (Ja [2, 1, 1, 1, 2] R (Jn 1 R (Jl tv R R R R (Jc2 I24 R R (hvE ((f248.stp S263 R R).ld 0 R R))) ?_)))
 obtain ⟨K272, S273, z274⟩ := fz_ex K262 w261 20
 refine Jn1 (κ := K272) (E := (Ep.fz (Rp.sl (Rp.int .i64)))) 21 [] (parts := [(0, .tmp 122)]) (cells := [.slice aq x107.1.length ar]) (xs := ([x109] : List (List Int))) R R R R R R Y22 Tryinfo24 R R R R R R R R R R ⟨[.slice aq x107.1.length ar], [], Zl K272 w261 [], Zl K272 w261 [], R, Zl.sp (l1 := []) (l2 := []) R, Zl.sr (l1 := []) (l2 := []), ⟨_, _, (congrArg (fun n => [Value.slice aq n ar]) (hn242)), (Sl.z1 (Sl.st z274 ((f241.mx (no_int _) m245 R (R : 18 + 2 = 20)).stp S263 R R).rdc))⟩, R⟩ fun aH aJ w276 K277 S278 f279 => ⟨tv, Ob h fun x124 hx124 h => Jm1 (κ := K277) (E := (Ep.fz (Rp.sl (Rp.int .i64)))) 10 [21] R R R R R R R R R Y22 Tryinfo24 R R R R (f196.stp (S208.tr (S212.tr (S215.tr (S232.tr (S244.tr (S263.tr (S273.tr S278))))))) R R) f279.src (sy_one R) hx124 R fun aE aA w281 K282 S283 f284 => ⟨tv, Jc 1 R ?_⟩⟩
 cases h
 exact Jw1 _ ⟨K282, aE, aA, R, (S273.tr (S278.tr S283)).wk R, f284⟩ (KM R)
 rintro _ w265 ⟨K266, ak, am, rfl, S267, f268⟩
 have h := hK264
 refine Jz (Jp (Ja [2, 2, 2] R (Jc 3 R ?_)))
 cases h
 exact Jz1 fun a ha => ⟨k, _, Ja3 _, ⟨(fun b => ren [(16, 9)] (K266 b)), ((q15 : (List (List Int))), ((IntKind.i64.wrap (s12.2.1 - 1)) : Int), (x107.2 : (List Bool))), ak, am, R, (Jy2 ((S195.tr (S208.tr (S212.tr (S215.tr (S232.tr (S244.tr (S263.tr S267))))))).wk R) [(16, 9)] R), (f268.map (ren [(16, 9)]) R R), (((f228.mx no_bool m233 R (R : 13 + 3 = 16)).stp (S244.tr (S263.tr S267)) R R).map (ren [(16, 9)]) R R), (hn198.trans hn229), hk200⟩, (ha.mm R)⟩
 refine JT fun h => Jx R (Jc1 (Jt (Jb1 (Jp (Ja [2, 2, 2] R (Jc 3 R ?_))))))
 cases h
 exact Jz1 fun a ha => ⟨k, _, Ja3 _, ⟨K194, ((s12.1 : (List (List Int))), ((IntKind.i64.wrap (s12.2.1 - 1)) : Int), (s12.2.2 : (List Bool))), ad, ac, R, S195.wk R, f196, f197, hn198, hk200⟩, (ha.mm R)⟩
 rintro _ w187 ⟨K188, s14, ah, ao, rfl, S189, f190, f191, hn192, rfl⟩
 have h := hK185
 dsimp only [aft] at h
 refine Jp (Je [2, 1] R (Jn 1 R (Ob h fun x126 hx126 h => Jh R R R C88 (slices_SortFunc_I_I_ok (κ := fun b => mp [(10, 2)] 1 (K188 b)) (f190.map (mp [(10, 2)] 1) R R) hx126) ?_)))
 rintro _ w287 ⟨k288, rfl, e289, f290, hn291⟩
 obtain ⟨K292, S293, m294, z295⟩ := Jj e289 11 R
 refine ⟨tv, Jd (Je [2, 2] R (Jb 2 R (Ju (Ja2 (l := [.tmp 4]) V60 (Jp2 R R) R ?_))))⟩
 cases h
 exact ⟨(fun b => ren [(13, 2)] (K292 b)), ah, ao, (by simp only [(hn291)]), ((hE.stp (S3.tr (S7.tr (S14.tr (S81.tr (S85.tr (S88.tr (S92.tr (S96.tr (S99.tr (S103.tr (S106.tr (S113.tr (S173.tr (S177.tr (S181.tr (S189.tr S293)))))))))))))))) R R).map (ren [(13, 2)]) R R), ((f290.mxz z295 m294 R (R : 11 + 2 = 13)).map (ren [(13, 2)]) R R)⟩
theorem slices_BinarySearch_I_int64_ok {w : World} {κ : Col} {a0 u0} {p0 : (List Int)} {p1 : Int} (g0 : Rd (Rp.int .i64) κ w 0 a0 u0 p0) {r : Int × Bool} (h : slices_BinarySearch_I_int64 p0 p1 = some r) : Ret Try.prog 91 [.slice a0 p0.length u0, vi p1] w (fun v w' => ∃ (κ' : Col), v = .tuple #[vi r.1, .bool r.2] ∧ Ent κ w κ' w') := by
 unfold slices_BinarySearch_I_int64 at h
 refine Ret.enter F91 R N91 R ?_
 dsimp only [envOf]
 have hE := Ent.refl κ w
 refine Je [2, 2] R (Jb 2 R (Je [2, 2, 2] R (Jn 1 R (Jf R (Je2 U24 R R) (Jb 1 R (Je [2, 2, 2] R (Jb 3 R (Jq (Ob h fun q2 hq3 hK2 => ?_)))))))))
 clear h
 refine Jx1 (fun L w' => ∃ κ', ∃ s3 : Int × Int, L = [(0, .slice a0 p0.length u0), (1, vi p1), (6, vi (p0.length : Int)), (7, vi s3.1)] ∧ Stp [] κ w κ' w' ∧ q2 = Sum.inr s3) ?_ ?_
 refine Jv (Jy1 (fun k L w' => ∃ κ', ∃ s1 : Int × Int, L = [(0, .slice a0 p0.length u0), (1, vi p1), (6, vi (p0.length : Int)), (7, vi s1.1), (8, vi s1.2)] ∧ Stp [] κ w κ' w' ∧ whileM (slices_BinarySearch_I_int64_b0 p0 p1) k s1 = some q2) ⟨_, _, ⟨κ, ((0 : Int), ((p0.length : Int) : Int)), R, (Jx2 _ _).wk R, hq3⟩, (KM R)⟩ ?_)
 rintro k _ w7 ⟨K8, s1, rfl, S9, h⟩
 rcases k with _ | k
 cases h
 obtain ⟨o1, h, hk10⟩ := BI h; unfold slices_BinarySearch_I_int64_b0 at h
 refine Jq (Je [2, 2, 2] R (Jb 3 R ?_))
 revert h
 cases ht11 : decide (s1.1 < s1.2)
 refine JF fun h => Jy R (Jc1 (Jt (Jt ?_)))
 cases h
 have h := hk10
 refine Jb1 ?_
 cases h
 exact Jw1 _ ⟨K8, ((s1.1 : Int), (s1.2 : Int)), R, S9.wk R, R⟩ (KM R)
 refine JT fun h => Jx R (Js (Jp (Jv (Je [2, 2, 2, 2, 2, 2, 2] R (Jn 3 R (Jf R (Jh2 U3 U79 R R) (Jf R (rn_shr R R R (by decide)) (Jf R (Jh2 U79 U3 R R) (Jb 1 R (Je [2, 2, 2, 1, 2, 1] R (Jn 2 R (Ob h fun x24 hx24 h => Jf R (Jf2 g0 hx24 U24 Z2 R R R R) (Jl tv R R R R (Jc2 I2 R R (hvE ((g0.stp S9 R R).gInt hx24))) (Jn 1 R (Ob h fun x27 hx27 h => Jh R R R C107 (cmp_Less_int64_ok (κ := fun b => mp [] 0 (K8 b)) hx27) ?_)))))))))))))))
 rintro _ w13 ⟨k14, rfl, e15⟩
 obtain ⟨K16, S17, m18⟩ := Ji e15 2 R
 refine ⟨tv, Jd (Ob h fun q4 h hK20 => Jx1 (fun L w' => ∃ κ', L = [(0, .slice a0 p0.length u0), (1, vi p1), (6, vi (p0.length : Int)), (7, vi q4.1), (8, vi q4.2)] ∧ Stp [] K16 w13 κ' w') ?_ ?_)⟩
 revert h
 cases ht24 : x27
 refine JF fun h => Jy R (Ja [2, 2] R (Jc 2 R ?_))
 cases h
 exact Jw1 _ ⟨K16, R, (Jx2 _ _).wk R⟩ (KM R)
 refine JT fun h => Jx R (Ja [2, 2, 2] R (Jc 3 R ?_))
 cases h
 exact Jw1 _ ⟨K16, R, (Jx2 _ _).wk R⟩ (KM R)
 rintro _ w21 ⟨K22, rfl, S23⟩
 have h := hK20
 refine Jz ?_
 cases h
 exact Jz1 fun a ha => ⟨k, _, Ja3 _, ⟨K22, ((q4.1 : Int), (q4.2 : Int)), R, (S9.tr (S17.tr S23)).wk R, hk10⟩, (ha.mm R)⟩
 rintro _ w4 ⟨K5, s3, rfl, S6, rfl⟩
 have h := hK2
 dsimp only [aft] at h
 refine Jp (Je [2, 2, 2, 2, 2, 2, 2, 2, 1, 2, 2, 2, 2, 2, 2, 1, 1, 2, 2, 1, 2, 2, 2, 2, 2] R (Jn 5 R (Ob h fun p53 h hK25 => Ju1 [(5, 2), (6, 2), (7, 2), (8, 1), (9, 2), (10, 2), (11, 2), (12, 2), (13, 2), (14, 2), (15, 1), (16, 1), (17, 2), (18, 2), (19, 1), (20, 2), (21, 2), (22, 2)] [(23, 2), (24, 2)] (fun L w' => L = [(31, vi s3.1), (53, .bool p53)] ∧ ∃ κ', Stp [] K5 w4 κ' w') tv ?_ ?_)))
 revert h
 cases ht26 : decide (s3.1 < (p0.length : Int))
 refine JF fun h => Jn 3 R (Jd1 R R R R (Jn 6 R (Jd1 R R R R (Jd1 R R R R (Jn 2 R (Jd1 R R R R (Jn 3 R ?_)))))))
 cases h
 exact Jv1 _ tv ⟨R, _, (Jx2 _ _).wk R⟩ (KM R)
 refine JT fun h => Jn 2 R (Ob h fun x38 hx38 h => Jf R (Jf2 g0 hx38 U24 Z2 R R R R) ?_)
 have f27 := g0.stp S6 R R
 refine Jl tv R R R R (Jc2 I2 R R (hvE (f27.gInt hx38))) (Jn 3 R (Ob h fun p52 h hK28 => Ju1 [(12, 2), (13, 2), (14, 2), (15, 1), (16, 1), (17, 2), (18, 2), (19, 1), (20, 2), (21, 2)] [(22, 2)] (fun L w' => L = [(31, vi s3.1), (35, .bool true), (52, .bool p52)] ∧ ∃ κ', Stp [] K5 w4 κ' w') tv ?_ ?_))
 revert h
 cases ht29 : (x38 == p1)
 refine JF fun h => Jn 2 R (Ob h fun x45 hx45 h => Jf R (Jf2 f27 hx45 U24 Z2 R R R R) (Jl tv R R R R (Jc2 I2 R R (hvE (f27.gInt hx45))) (Ob h fun x47 hx47 h => Jh R R R C108 (slices_isNaN_int64_ok (κ := fun b => mp [] 0 (K5 b)) hx47) ?_)))
 rintro _ w30 ⟨k31, rfl, e32⟩
 obtain ⟨K33, S34, m35⟩ := Ji e32 2 R
 refine ⟨tv, Jn 1 R (Ob h fun p51 h hK37 => Ju1 [(18, 2), (19, 1), (20, 2)] [(21, 2)] (fun L w' => L = [(31, vi s3.1), (35, .bool true), (42, .bool false), (51, .bool p51)] ∧ ∃ κ', Stp [] K33 w30 κ' w') tv ?_ ?_)⟩
 revert h
 cases ht38 : x47
 refine JF fun h => Jn 1 R (Jd1 R R R R (Jn 1 R ?_))
 cases h
 exact Jv1 _ tv ⟨R, _, (Jx2 _ _).wk R⟩ (KM R)
 refine JT fun h => Jn 1 R (Ob h fun x50 hx50 h => Jh R R R C108 (slices_isNaN_int64_ok (κ := fun b => mp [] 0 (K33 b)) hx50) ?_)
 rintro _ w39 ⟨k40, rfl, e41⟩
 obtain ⟨K42, S43, m44⟩ := Ji e41 4 R
 refine ⟨tv, Jn 1 R ?_⟩
 cases h
 exact Jv1 _ tv ⟨R, _, S43.wk R⟩ (KM R)
 rintro _ w46 _ ⟨rfl, K47, S48⟩
 have h := hK37
 refine Jn 1 R ?_
 cases h
 exact Jv1 _ tv ⟨R, _, (S34.tr S48).wk R⟩ (KM R)
 refine JT fun h => Jn 3 R (Jd1 R R R R (Jd1 R R R R (Jn 2 R (Jd1 R R R R (Jn 2 R ?_)))))
 cases h
 exact Jv1 _ tv ⟨R, _, (Jx2 _ _).wk R⟩ (KM R)
 rintro _ w49 _ ⟨rfl, K50, S51⟩
 have h := hK28
 refine Jn 1 R ?_
 cases h
 exact Jv1 _ tv ⟨R, _, S51.wk R⟩ (KM R)
 rintro _ w52 _ ⟨rfl, K53, S54⟩
 have h := hK25
 refine Jb 2 R (Ju (Ja2 (l := [.tmp 4, .tmp 5]) V91 (Jp2 R (Jp2 R R)) R ?_))
 cases h
 exact ⟨K53, R, (hE.stp (S6.tr S54) R R)⟩
theorem s_l1Set_ok {w : World} {κ : Col} {a0 u0} {p0 : (List Int)} {p1 : Int} (g0 : Rd (Rp.int .i64) κ w 0 a0 u0 p0) {r : Bool} (h : s_l1Set p0 p1 = some r) : Ret Try.prog 29 [.slice a0 p0.length u0, vi p1] w (fun v w' => ∃ (κ' : Col), v = .bool r ∧ Ent κ w κ' w') := by
 unfold s_l1Set at h
 refine Ret.enter F29 R N29 R ?_
 dsimp only [envOf]
 have hE := Ent.refl κ w
 refine Je [2] R (Jb 1 R (Je [2, 2, 2, 2, 2, 2, 2, 1, 2, 2] R (Jn 1 R (Jf R (Je2 U24 R R) (Jn 3 R (Ob h fun p13 h hK1 => Ju1 [(5, 2), (6, 2), (7, 1), (8, 2)] [(9, 2)] (fun L w' => L = [(4, .bool false), (13, .bool p13)] ∧ ∃ κ', Stp [] κ w κ' w') tv ?_ ?_))))))
 revert h
 cases ht2 : decide ((p0.length : Int) ≤ p1)
 refine JF fun h => Jn 2 R (Jd1 R R R R (Jn 1 R ?_))
 cases h
 exact Jv1 _ tv ⟨R, _, (Jx2 _ _).wk R⟩ (KM R)
 refine JT fun h => Jn 2 R (Ob h fun x12 hx12 h => Jh R R R C55 (s_l1Rises_ok (κ := fun b => mp [] 0 (κ b)) (Jl2 g0 (mp [] 0) R R) hx12) ?_)
 rintro _ w3 ⟨k4, rfl, e5⟩
 obtain ⟨K6, S7, m8⟩ := Ji e5 2 R
 refine ⟨tv, Jn 1 R ?_⟩
 cases h
 exact Jv1 _ tv ⟨R, _, S7.wk R⟩ (KM R)
 rintro _ w10 _ ⟨rfl, K11, S12⟩
 have h := hK1
 refine Jb 1 R (Ju (Ja2 (l := [.tmp 4]) V29 (Jp2 R R) R ?_))
 cases h
 exact ⟨K11, R, (hE.stp S12 R R)⟩
theorem s_l1Loops_ok {w : World} {κ : Col} {a0 u0} {p0 : (List (List Int))} {a1 u1} {p1 : (List Int)} (g0 : Rd (Rp.sl (Rp.int .i64)) κ w 0 a0 u0 p0) (g1 : Rd (Rp.int .i64) κ w 0 a1 u1 p1) {r : (List (List Int))} (h : s_l1Loops p0 p1 = some r) : Ret Try.prog 56 [.slice a0 p0.length u0, .slice a1 p1.length u1] w (fun v w' => ∃ (κ' : Col) (ra0 : Option Addr) (ru0 : Nat), v = .slice ra0 r.length ru0 ∧ Ent κ w κ' w' ∧ Oc (Ep.fz (Rp.sl (Rp.int .i64))) 24 κ' w' 2 ra0 ru0 r) := by
 unfold s_l1Loops at h
 refine Ret.enter F56 R N56 R ?_
 dsimp only [envOf]
 have hE := Ent.refl κ w
 refine Je [2] R (Jb 1 R (Je [2, 2, 2, 1, 2] R (Jn 2 R (Jf R (Je2 U22 R R) (Ob h fun x18 hx18 h => Jh R R R C79 (s_l1Marks_ok (κ := fun b => mp [] 0 (κ b)) (Jl2 g1 (mp [] 0) R R) hx18) ?_)))))
 rintro _ w1 ⟨k2, ax, az, rfl, e3, f4⟩
 obtain ⟨K5, S6, m7⟩ := Ji e3 2 R
 refine ⟨tv, ?_⟩
 have f9 := f4.mx no_bool m7 R (R : 2 + 2 = 4)
 refine Jb 1 R (Je [1, 2] R (Jo1 (κ := K5) (E := (Ep.own Ep.bool 4)) 5 R R R R R Y116 Tryinfo98 R fun aM aO w10 K11 S12 f13 => ⟨tv, Jb 1 R (Jq (Je [2] R (Jb 1 R ?_)))⟩))
 have hN14 : (p0.length : Int) ≤ 9223372036854775807 := g0.len_le
 refine Ob h fun q2 hq16 hK15 => ?_
 clear h
 refine Jx1 (fun L w' => ∃ κ', ∃ s3 : (List (List Bool)), ∃ af ae, L = [(0, .slice a0 p0.length u0), (1, .slice a1 p1.length u1), (6, .slice af s3.length ae)] ∧ Stp [5, 6, 7, 9, 10] K11 w10 κ' w' ∧ Oc (Ep.own Ep.bool 4) 98 κ' w' 5 af ae s3 ∧ q2 = Sum.inr s3) ?_ ?_
 refine Jv (Jy1 (fun k L w' => ∃ κ' v7, ∃ s1 : (List (List Bool)), ∃ am ap, L = [(0, .slice a0 p0.length u0), (1, .slice a1 p1.length u1), (5, .slice ax x18.length az), (6, .slice am s1.length ap), (7, vi v7)] ∧ Stp [5, 6, 7, 9, 10] K11 w10 κ' w' ∧ Oc (Ep.own Ep.bool 4) 98 κ' w' 5 am ap s1 ∧ 0 ≤ v7 ∧ Int.toNat ((p0.length : Int) - v7) = k ∧ cntM (s_l1Loops_b0 p0 x18) k v7 s1 = some q2) ⟨_, _, ⟨K11, 0, (([] : List (List Bool)) : (List (List Bool))), aM, aO, R, (Jx2 _ _).wk R, f13, (by decide), (by simp), hq16⟩, (KM R)⟩ ?_)
 rintro k _ w21 ⟨K22, v7, s1, am, ap, rfl, S23, f24, hj14, hJ14, h⟩
 rcases k with _ | k
 have hk25 := h; obtain ⟨o14, h⟩ := ex_eq (Sum.inr (Sum.inl s1) : (List (List Int)) ⊕ (((List (List Bool))) ⊕ ((List (List Bool)))))
 have hc14 : decide (v7 < (p0.length : Int)) = false := Jo2 (by omega)
 refine Jq (Je [2, 2, 2, 2] R (Jn 2 R (Jf R (Je2 U22 R R) (Jb 1 R (Jw2 R hc14 (Jc1 (Jt (Jt ?_))))))))
 cases h
 have h := hk25
 refine Jb1 ?_
 cases h
 exact Jw1 _ ⟨K22, (s1 : (List (List Bool))), am, ap, R, S23.wk R, f24, R⟩ (KM R)
 obtain ⟨o14, h, hk25⟩ := BI h; unfold s_l1Loops_b0 at h
 have hc14 : decide (v7 < (p0.length : Int)) = true := Jn2 (by omega)
 refine Jq (Je [2, 2, 2, 2] R (Jn 2 R (Jf R (Je2 U22 R R) (Jb 1 R (Jv2 R hc14 (Js (Jp (Jq (Jv (Je [2, 2, 2, 1] R (Jn 2 R (Ob h fun x28 hx28 h => Jf R (Jf2 f9.rdc hx28 U98 Z4 R R R R) ?_))))))))))))
 have f26 := f9.stp (S12.tr S23) R R
 refine Jl tv R R R R (Jc2 I4 R R (hvE (f26.rdc.gBool hx28))) (Jd (Ob h fun q4 h hK27 => Jx1 (fun L w' => ∃ κ' an al, L = [(0, .slice a0 p0.length u0), (1, .slice a1 p1.length u1), (5, .slice ax x18.length az), (6, .slice an q4.length al), (7, vi v7)] ∧ Stp [5, 6, 7, 9, 10] K22 w21 κ' w' ∧ Oc (Ep.own Ep.bool 4) 98 κ' w' 5 an al q4) ?_ ?_))
 revert h
 cases ht32 : x28
 refine JF fun h => Jy R (Ja [2, 1, 1, 1, 2] R (Jn 1 R (Jo1 (κ := K22) (E := Ep.bool) 6 R R R R R Y98 Tryinfo4 R fun aA aw w57 K58 S59 f60 => ⟨tv, Jn1 (κ := K58) (E := (Ep.own Ep.bool 4)) 7 [6] (parts := [(0, .tmp 39)]) (cells := [.slice aA ([] : List Bool).length aw]) (xs := ([([] : List Bool)] : List (List Bool))) R R R R R R Y116 Tryinfo98 R R R R R R R R R R ⟨[.slice aA ([] : List Bool).length aw], [], Zl K58 w57 [6], Zl K58 w57 [], R, Zl.sp (l1 := [6]) (l2 := []) R, Zl.sr (l1 := [6]) (l2 := []), ⟨_, _, R, f60⟩, R⟩ fun aT aW w61 K62 S63 f64 => ⟨tv, Ob h fun x41 hx41 h => Jm1 (κ := K62) (E := (Ep.own Ep.bool 4)) 5 [7] R R R R R R R R R Y116 Tryinfo98 R R R R (f24.stp (S59.tr S63) R R) f64.src (sy_one R) hx41 R fun aG aK w66 K67 S68 f69 => ⟨tv, Jc 1 R ?_⟩⟩⟩)))
 cases h
 exact Jw1 _ ⟨K67, aG, aK, R, (S59.tr (S63.tr S68)).wk R, f69⟩ (KM R)
 refine JT fun h => Jx R (Ja [2, 2, 2, 2, 1, 1, 1, 1, 2] R (Jn 4 R (Jn1 (κ := K22) (E := E6) 6 [] (parts := [(0, .tmp 33)]) (cells := [vi v7]) (xs := ([v7] : List Int)) R R R R R R Y24 Tryinfo2 R R R R R R R R R R ⟨[vi v7], [], Zl K22 w21 [], Zl K22 w21 [], R, Zl.sp (l1 := []) (l2 := []) R, Zl.sr (l1 := []) (l2 := []), R, R⟩ fun aX aU w33 K34 S35 f36 => ⟨tv, Ob h fun x35 hx35 h => Jh R R R C80 (s_l1Beyond_ok (κ := fun b => mp [] 0 (K34 b)) (Jl2 (g0.stp (S6.tr (S12.tr (S23.tr S35))) R R) (mp [] 0) R R) (Jl2 (f26.stp S35 R R).rdc (mp [] 0) R R) (Jl2 f36.rdc (mp [] 0) R R) hx35) ?_⟩)))
 rintro _ w39 ⟨k40, av, ay, rfl, e41, f42⟩
 obtain ⟨K43, S44, m45⟩ := Ji e41 7 R
 refine ⟨tv, Jn1 (κ := K43) (E := (Ep.own Ep.bool 4)) 10 [9] (parts := [(0, .tmp 35)]) (cells := [.slice av x35.length ay]) (xs := ([x35] : List (List Bool))) R R R R R R Y116 Tryinfo98 R R R R R R R R R R ⟨[.slice av x35.length ay], [], Zl K43 w39 [9], Zl K43 w39 [], R, Zl.sp (l1 := [9]) (l2 := []) R, Zl.sr (l1 := [9]) (l2 := []), ⟨_, _, R, (f42.mx no_bool m45 R (R : 7 + 2 = 9))⟩, R⟩ fun aP aS w48 K49 S50 f51 => ⟨tv, Ob h fun x37 hx37 h => Jm1 (κ := K49) (E := (Ep.own Ep.bool 4)) 5 [10] R R R R R R R R R Y116 Tryinfo98 R R R R (f24.stp (S35.tr (S44.tr S50)) R R) f51.src (sy_one R) hx37 R fun aJ aB w53 K54 S55 f56 => ⟨tv, Jc 1 R ?_⟩⟩⟩
 cases h
 exact Jw1 _ ⟨K54, aJ, aB, R, (S35.tr (S44.tr (S50.tr S55))).wk R, f56⟩ (KM R)
 rintro _ w28 ⟨K29, an, al, rfl, S30, f31⟩
 have h := hK27
 refine Jz (Jp (Ja [2, 2, 2] R (Jc 3 R ?_)))
 have hw14 : IntKind.wrap .i64 (v7 + 1) = v7 + 1 := wr1 hj14 (Jm2 hc14) hN14
 rw [hw14]
 have hc14 := Jm2 hc14
 cases h
 exact Jz1 fun a ha => ⟨k, _, Ja3 _, ⟨K29, v7 + 1, (q4 : (List (List Bool))), an, al, R, (S23.tr S30).wk R, f31, by omega, by omega, hk25⟩, (ha.mm R)⟩
 rintro _ w17 ⟨K18, s3, af, ae, rfl, S19, f20, rfl⟩
 have h := hK15
 dsimp only [aft] at h
 refine Jp (Je [1, 2] R (Jo1 (κ := K18) (E := (Ep.fz (Rp.sl (Rp.int .i64)))) 6 R R R R R Y22 Tryinfo24 R fun aI aC w70 K71 S72 f73 => ⟨tv, Jb 1 R (Je [2, 2, 1, 2] R (Jn 1 R (Jf R (Je2 U22 R R) (Ob h fun x45 hx45 h => Jl1 (κ := K71) (E := Ep.bool) (z := (false : Bool)) 7 R R R R R R R Y98 Tryinfo4 R R R R R (fun _ _ _ => R) (Ju2 hx45) fun ab aa w74 K75 S76 f77 => ⟨tv, Jb 1 R (Jq (Je [2] R (Jb 1 R ?_)))⟩))))⟩))
 have hN78 : (p1.length : Int) ≤ 9223372036854775807 := g1.len_le
 refine Ob h fun q6 hq80 hK79 => ?_
 clear h
 refine Jx1 (fun L w' => ∃ κ', ∃ s7 : (List (List Int)) × (List Bool), ∃ ar ao, L = [(8, .slice ar s7.1.length ao)] ∧ Stp [6, 7, 8, 9] K75 w74 κ' w' ∧ Oc (Ep.fz (Rp.sl (Rp.int .i64))) 24 κ' w' 6 ar ao s7.1 ∧ Oc Ep.bool 4 κ' w' 7 ab aa s7.2 ∧ x45.length = s7.2.length ∧ q6 = Sum.inr s7) ?_ ?_
 refine Jv (Jy1 (fun k L w' => ∃ κ' v10, ∃ s5 : (List (List Int)) × (List Bool), ∃ ac ad, L = [(1, .slice a1 p1.length u1), (6, .slice af s3.length ae), (8, .slice ac s5.1.length ad), (9, .slice ab x45.length aa), (10, vi v10)] ∧ Stp [6, 7, 8, 9] K75 w74 κ' w' ∧ Oc (Ep.fz (Rp.sl (Rp.int .i64))) 24 κ' w' 6 ac ad s5.1 ∧ Oc Ep.bool 4 κ' w' 7 ab aa s5.2 ∧ x45.length = s5.2.length ∧ 0 ≤ v10 ∧ Int.toNat ((p1.length : Int) - v10) = k ∧ cntM (s_l1Loops_b2 p1 s3) k v10 s5 = some q6) ⟨_, _, ⟨K75, 0, ((([] : List (List Int)) : (List (List Int))), (x45 : (List Bool))), aI, aC, R, (Jx2 _ _).wk R, (f73.stp S76 R R), f77, R, (by decide), (by simp), hq80⟩, (KM R)⟩ ?_)
 rintro k _ w87 ⟨K88, v10, s5, ac, ad, rfl, S89, f90, f91, hn92, hj78, hJ78, h⟩
 rcases k with _ | k
 have hk94 := h; obtain ⟨o78, h⟩ := ex_eq (Sum.inr (Sum.inl s5) : (List (List Int)) ⊕ (((List (List Int)) × (List Bool)) ⊕ ((List (List Int)) × (List Bool))))
 have hc78 : decide (v10 < (p1.length : Int)) = false := Jo2 (by omega)
 refine Jq (Je [2, 2, 2, 2] R (Jn 2 R (Jf R (Je2 U24 R R) (Jb 1 R (Jw2 R hc78 (Jc1 (Jt (Jt ?_))))))))
 cases h
 have h := hk94
 refine Jb1 ?_
 cases h
 exact Jw1 _ ⟨K88, ((s5.1 : (List (List Int))), (s5.2 : (List Bool))), ac, ad, R, S89.wk R, f90, f91, hn92, R⟩ (KM R)
 obtain ⟨o78, h, hk94⟩ := BI h; unfold s_l1Loops_b2 at h
 have hc78 : decide (v10 < (p1.length : Int)) = true := Jn2 (by omega)
 refine Jq (Je [2, 2, 2, 2] R (Jn 2 R (Jf R (Je2 U24 R R) (Jb 1 R (Jv2 R hc78 (Js (Jp (Jq (Jv (Je [2, 2, 2, 1, 2] R (Jn 2 R (Ob h fun x54 hx54 h => Jf R (Jf2 g1 hx54 U24 Z2 R R R R) ?_))))))))))))
 have f95 := g1.stp (S6.tr (S12.tr (S19.tr (S72.tr (S76.tr S89))))) R R
 refine Jl tv R R R R (Jc2 I2 R R (hvE (f95.gInt hx54))) (Jb 1 R (Jq (Je [2, 2, 2, 1, 2, 2, 2, 2, 1, 2, 2, 1, 2, 2] R (Jn 2 R (Ob h fun x58 hx58 h => Jf R (Jf2 f91.rdc hx58 U98 Z4 R R hn92 R) (Jl tv R R R R (Jc2 I4 R R (hvE (f91.rdc.gBool hx58))) (Jn 1 R (Ob h fun p69 h hK96 => Ju1 [(5, 2), (6, 2), (7, 2), (8, 1), (9, 2), (10, 2), (11, 1), (12, 2), (13, 2)] [] (fun L w' => L = [(1, .slice a1 p1.length u1), (6, .slice af s3.length ae), (8, .slice ac s5.1.length ad), (9, .slice ab x45.length aa), (10, vi v10), (11, vi x54), (69, .bool p69)] ∧ ∃ κ', Stp [] K88 w87 κ' w') tv ?_ ?_))))))))
 revert h
 cases ht97 : x58
 refine JF fun h => Jn 2 R (Ob h fun x63 hx63 h => Jf R (Jf2 f20.rdc hx63 U116 Z98 R R R R) ?_)
 obtain ⟨ax63, ux63, f99, hl100⟩ := (f20.stp (S72.tr (S76.tr S89)) R R).rdc.gSl hx63
 refine Jl tv R R R R (Jc2 I98 R R (hvE hl100)) (Jn 1 R (Ob h fun x66 hx66 h => Jf R (Jf2 f99 hx66 U98 Z4 R R R R) (Jl tv R R R R (Jc2 I4 R R (hvE (f99.gBool hx66))) (Jn 2 R ?_))))
 cases h
 exact Jv1 _ tv ⟨R, _, (Jx2 _ _).wk R⟩ (KM R)
 refine JT fun h => Jn 3 R (Jd1 R R R R (Jn 2 R (Jd1 R R R R (Jn 2 R ?_))))
 cases h
 exact Jv1 _ tv ⟨R, _, (Jx2 _ _).wk R⟩ (KM R)
 rintro _ w101 _ ⟨rfl, K102, S103⟩
 have h := hK96
 refine Jd ?_
 revert h
 cases ht104 : p69
 refine JF fun h => Jy R (Js (Jp (Je [1, 2] R (Jo1 (κ := K102) (E := E6) 8 R R R R R Y24 Tryinfo2 R fun aN aD w107 K108 S109 f110 => ⟨tv, Jb 1 R (Jq (Je [2] R (Jb 1 R ?_)))⟩))))
 have hN111 : (p1.length : Int) ≤ 9223372036854775807 := f95.len_le
 refine Ob h fun q9 hq113 hK112 => ?_
 clear h
 refine Jx1 (fun L w' => ∃ κ', ∃ s10 : (List Int) × (List Bool), ∃ ak aj, L = [(1, .slice a1 p1.length u1), (6, .slice af s3.length ae), (8, .slice ac s5.1.length ad), (9, .slice ab x45.length aa), (10, vi v10), (12, .slice ak s10.1.length aj)] ∧ Stp [7, 8] K108 w107 κ' w' ∧ Oc E6 2 κ' w' 8 ak aj s10.1 ∧ Oc Ep.bool 4 κ' w' 7 ab aa s10.2 ∧ x45.length = s10.2.length ∧ q9 = Sum.inr s10) ?_ ?_
 refine Jv (Jy1 (fun k L w' => ∃ κ' v13, ∃ s8 : (List Int) × (List Bool), ∃ ai ah, L = [(1, .slice a1 p1.length u1), (6, .slice af s3.length ae), (8, .slice ac s5.1.length ad), (9, .slice ab x45.length aa), (10, vi v10), (11, vi x54), (12, .slice ai s8.1.length ah), (13, vi v13)] ∧ Stp [7, 8] K108 w107 κ' w' ∧ Oc E6 2 κ' w' 8 ai ah s8.1 ∧ Oc Ep.bool 4 κ' w' 7 ab aa s8.2 ∧ x45.length = s8.2.length ∧ 0 ≤ v13 ∧ Int.toNat ((p1.length : Int) - v13) = k ∧ cntM (s_l1Loops_b4 p1 s3 x54) k v13 s8 = some q9) ⟨_, _, ⟨K108, 0, ((([] : List Int) : (List Int)), (s5.2 : (List Bool))), aN, aD, R, (Jx2 _ _).wk R, f110, (f91.stp (S103.tr S109) R R), hn92, (by decide), (by simp), hq113⟩, (KM R)⟩ ?_)
 rintro k _ w120 ⟨K121, v13, s8, ai, ah, rfl, S122, f123, f124, hn125, hj111, hJ111, h⟩
 rcases k with _ | k
 have hk127 := h; obtain ⟨o111, h⟩ := ex_eq (Sum.inr (Sum.inl s8) : (List (List Int)) ⊕ (((List Int) × (List Bool)) ⊕ ((List Int) × (List Bool))))
 have hc111 : decide (v13 < (p1.length : Int)) = false := Jo2 (by omega)
 refine Jq (Je [2, 2, 2, 2] R (Jn 2 R (Jf R (Je2 U24 R R) (Jb 1 R (Jw2 R hc111 (Jc1 (Jt (Jt ?_))))))))
 cases h
 have h := hk127
 refine Jb1 ?_
 cases h
 exact Jw1 _ ⟨K121, ((s8.1 : (List Int)), (s8.2 : (List Bool))), ai, ah, R, S122.wk R, f123, f124, hn125, R⟩ (KM R)
 obtain ⟨o111, h, hk127⟩ := BI h; unfold s_l1Loops_b4 at h
 have hc111 : decide (v13 < (p1.length : Int)) = true := Jn2 (by omega)
 refine Jq (Je [2, 2, 2, 2] R (Jn 2 R (Jf R (Je2 U24 R R) (Jb 1 R (Jv2 R hc111 (Js (Jp (Jq (Jv (Je [2, 2, 2, 1, 2] R (Jn 2 R (Ob h fun x79 hx79 h => Jf R (Jf2 f95 hx79 U24 Z2 R R R R) (Jl tv R R R R (Jc2 I2 R R (hvE ((f95.stp (S103.tr (S109.tr S122)) R R).gInt hx79))) (Jb 1 R (Je [2, 2, 2, 1, 2, 2, 1, 2, 2, 2, 2, 1, 2, 2, 1, 2] R (Jn 2 R (Ob h fun x83 hx83 h => Jf R (Jf2 f20.rdc hx83 U116 Z98 R R R R) ?_)))))))))))))))))
 have f129 := f20.stp (S72.tr (S76.tr (S89.tr (S103.tr (S109.tr S122))))) R R
 obtain ⟨ax83, ux83, f130, hl131⟩ := f129.rdc.gSl hx83
 refine Jl tv R R R R (Jc2 I98 R R (hvE hl131)) (Jn 1 R (Ob h fun x86 hx86 h => Jf R (Jf2 f130 hx86 U98 Z4 R R R R) (Jl tv R R R R (Jc2 I4 R R (hvE (f130.gBool hx86))) (Jn 1 R (Ob h fun p96 h hK132 => Ju1 [(8, 2), (9, 2), (10, 2), (11, 1), (12, 2), (13, 2), (14, 1), (15, 2)] [] (fun L w' => L = [(1, .slice a1 p1.length u1), (6, .slice af s3.length ae), (8, .slice ac s5.1.length ad), (9, .slice ab x45.length aa), (10, vi v10), (11, vi x54), (12, .slice ai s8.1.length ah), (13, vi v13), (14, vi x79), (96, .bool p96)] ∧ ∃ κ', Stp [] K121 w120 κ' w') tv ?_ ?_)))))
 revert h
 cases ht133 : x86
 refine JF fun h => Jn 3 R (Jd1 R R R R (Jn 2 R (Jd1 R R R R (Jn 1 R ?_))))
 cases h
 exact Jv1 _ tv ⟨R, _, (Jx2 _ _).wk R⟩ (KM R)
 refine JT fun h => Jn 2 R (Ob h fun x91 hx91 h => Jf R (Jf2 f129.rdc hx91 U116 Z98 R R R R) ?_)
 obtain ⟨ax91, ux91, f134, hl135⟩ := f129.rdc.gSl hx91
 refine Jl tv R R R R (Jc2 I98 R R (hvE hl135)) (Jn 1 R (Ob h fun x94 hx94 h => Jf R (Jf2 f134 hx94 U98 Z4 R R R R) (Jl tv R R R R (Jc2 I4 R R (hvE (f134.gBool hx94))) (Jn 1 R ?_))))
 cases h
 exact Jv1 _ tv ⟨R, _, (Jx2 _ _).wk R⟩ (KM R)
 rintro _ w136 _ ⟨rfl, K137, S138⟩
 have h := hK132
 refine Jd (Ob h fun q11 h hK139 => Jx1 (fun L w' => ∃ κ' aq au, L = [(1, .slice a1 p1.length u1), (6, .slice af s3.length ae), (8, .slice ac s5.1.length ad), (9, .slice ab x45.length aa), (10, vi v10), (11, vi x54), (12, .slice aq q11.1.length au), (13, vi v13)] ∧ Stp [7, 8] K137 w136 κ' w' ∧ Oc E6 2 κ' w' 8 aq au q11.1 ∧ Oc Ep.bool 4 κ' w' 7 ab aa q11.2 ∧ x45.length = q11.2.length) ?_ ?_)
 revert h
 cases ht146 : p96
 refine JF fun h => Jy R (Js ?_)
 cases h
 exact Jw1 _ ⟨K137, ai, ah, R, (Jx2 _ _).wk R, (f123.stp S138 R R), (f124.stp S138 R R), hn125⟩ (KM R)
 refine JT fun h => Jx R (Je [2, 2, 1, 1, 2] R (Jn 2 R (Jn1 (κ := K137) (E := E6) 9 [] (parts := [(0, .tmp 98)]) (cells := [vi x79]) (xs := ([x79] : List Int)) R R R R R R Y24 Tryinfo2 R R R R R R R R R R ⟨[vi x79], [], Zl K137 w136 [], Zl K137 w136 [], R, Zl.sp (l1 := []) (l2 := []) R, Zl.sr (l1 := []) (l2 := []), R, R⟩ fun aV aR w147 K148 S149 f150 => ⟨tv, Ob h fun x100 hx100 h => Jm1 (κ := K148) (E := E6) 8 [] R R R R R R R R R Y24 Tryinfo2 R R R R (f123.stp (S138.tr S149) R R) (Sl.srcP (pu_int _) f150.rdc) sy_false hx100 R fun aF aE w152 K153 S154 f155 => ⟨tv, Jb 1 R (Ja [2, 2, 2, 1] R (Jn 2 R (Ob h fun x103 hx103 h => Jf R (Jf2 f124.rdc hx103 U98 Z4 R R hn125 R) (Ob h fun y146 hy146 h => Jk1 (κ := K153) (E := Ep.bool) 7 [] R R R R R R R R Z4 R R R R (f124.stp (S138.tr (S149.tr S154)) R R) hy146 fun w157 K158 S159 f160 => ⟨tv, ?_⟩))))⟩⟩)))
 have hn161 : x45.length = y146.length := hn125.trans (Jt2 hy146).2.2.2.symm
 refine Jo ?_
 cases h
 exact Jw1 _ ⟨K158, aF, aE, R, (S149.tr (S154.tr S159)).wk R, (f155.stp S159 R R), f160, hn161⟩ (KM R)
 rintro _ w140 ⟨K141, aq, au, rfl, S142, f143, f144, hn145⟩
 have h := hK139
 refine Jz (Jp (Ja [2, 2, 2] R (Jc 3 R ?_)))
 have hw111 : IntKind.wrap .i64 (v13 + 1) = v13 + 1 := wr1 hj111 (Jm2 hc111) hN111
 rw [hw111]
 have hc111 := Jm2 hc111
 cases h
 exact Jz1 fun a ha => ⟨k, _, Ja3 _, ⟨K141, v13 + 1, ((q11.1 : (List Int)), (q11.2 : (List Bool))), aq, au, R, (S122.tr (S138.tr S142)).wk R, f143, f144, hn145, by omega, by omega, hk127⟩, (ha.mm R)⟩
 rintro _ w114 ⟨K115, s10, ak, aj, rfl, S116, f117, f118, hn119, rfl⟩
 have h := hK112
 dsimp only [aft] at h
 refine Jp (Ja [2, 2, 1, 1, 2] R (Jn 2 R ?_))
 obtain ⟨K165, S166, z167⟩ := fz_ex K115 w114 8
 refine Jn1 (κ := K165) (E := (Ep.fz (Rp.sl (Rp.int .i64)))) 9 [] (parts := [(0, .tmp 105)]) (cells := [.slice ak s10.1.length aj]) (xs := ([s10.1] : List (List Int))) R R R R R R Y22 Tryinfo24 R R R R R R R R R R ⟨[.slice ak s10.1.length aj], [], Zl K165 w114 [], Zl K165 w114 [], R, Zl.sp (l1 := []) (l2 := []) R, Zl.sr (l1 := []) (l2 := []), ⟨_, _, R, (Sl.z1 (Sl.st z167 f117.rdc))⟩, R⟩ fun aY aQ w169 K170 S171 f172 => ⟨tv, Ob h fun x107 hx107 h => Jm1 (κ := K170) (E := (Ep.fz (Rp.sl (Rp.int .i64)))) 6 [9] R R R R R R R R R Y22 Tryinfo24 R R R R (f90.stp (S103.tr (S109.tr (S116.tr (S166.tr S171)))) R R) f172.src (sy_one R) hx107 R fun aL aH w174 K175 S176 f177 => ⟨tv, Jc 1 R (Jz (Jp (Ja [2, 2, 2] R (Jc 3 R ?_))))⟩⟩
 have hw78 : IntKind.wrap .i64 (v10 + 1) = v10 + 1 := wr1 hj78 (Jm2 hc78) hN78
 rw [hw78]
 have hc78 := Jm2 hc78
 cases h
 exact Jz1 fun a ha => ⟨k, _, Ja3 _, ⟨K175, v10 + 1, ((x107 : (List (List Int))), (s10.2 : (List Bool))), aL, aH, R, (S89.tr (S103.tr (S109.tr (S116.tr (S166.tr (S171.tr S176)))))).wk R, f177, (f118.stp (S166.tr (S171.tr S176)) R R), hn119, by omega, by omega, hk94⟩, (ha.mm R)⟩
 refine JT fun h => Jx R (Jc1 (Jt (Jb1 (Jp (Ja [2, 2, 2] R (Jc 3 R ?_))))))
 have hw78 : IntKind.wrap .i64 (v10 + 1) = v10 + 1 := wr1 hj78 (Jm2 hc78) hN78
 rw [hw78]
 have hc78 := Jm2 hc78
 cases h
 exact Jz1 fun a ha => ⟨k, _, Ja3 _, ⟨K102, v10 + 1, ((s5.1 : (List (List Int))), (s5.2 : (List Bool))), ac, ad, R, (S89.tr S103).wk R, (f90.stp S103 R R), (f91.stp S103 R R), hn92, by omega, by omega, hk94⟩, (ha.mm R)⟩
 rintro _ w81 ⟨K82, s7, ar, ao, rfl, S83, f84, f85, hn86, rfl⟩
 have h := hK79
 dsimp only [aft] at h
 refine Jp (Je [2, 2] R (Jb 2 R (Ju (Ja2 (l := [.tmp 4]) V56 (Jp2 R R) R ?_))))
 cases h
 exact ⟨(fun b => ren [(6, 2)] (K82 b)), ar, ao, R, ((hE.stp (S6.tr (S12.tr (S19.tr (S72.tr (S76.tr S83))))) R R).map (ren [(6, 2)]) R R), (f84.map (ren [(6, 2)]) R R)⟩
end Go.Proofs.Ytcmamhmpoinmnaa
