/- The walks, part 11. By program. -/
import Derived.Test.YtcmamhmpoinmnaaGreatFns10KO
set_option linter.unusedVariables false
set_option linter.unusedSimpArgs false
namespace Go.Proofs.YtcmamhmpoinmnaaGreat
open Go Go.Wk Go.Proofs
set_option maxRecDepth 100000
set_option maxHeartbeats 1000000
theorem s_BreaksIn_ok {w : World} {κ : Col} {p0 : Sig} {an ak ah am} {p1 : Machine} {a2 u2} {p2 : (List Clause)} (g1_0 : Rd (Rp.sl (Rp.int .i64)) κ w 0 an ak p1.Next) (g1_1 : Rd (Rp.sl (Rp.int .i64)) κ w 0 ah am p1.Out) (g2 : Rd Clause.rp κ w 0 a2 u2 p2) {r : (List Int)} (h : s_BreaksIn p0 p1 p2 = some r) : Ret Tryz.prog 18 [.agg #[vi p0.In, vi p0.Out], .agg #[.slice an p1.Next.length ak, .slice ah p1.Out.length am], .slice a2 p2.length u2] w (fun v w' => ∃ (κ' : Col) (ra0 : Option Addr) (ru0 : Nat), v = .slice ra0 r.length ru0 ∧ Ent κ w κ' w' ∧ Oc E6 2 κ' w' 2 ra0 ru0 r) := by
 unfold s_BreaksIn at h
 refine Ret.enter F18 R N18 R ?_
 dsimp only [envOf]
 have hE := Ent.refl κ w
 refine Je [1, 1, 2] R (Jf1 (κ := κ) 2 R R R R R R R fun b3 w1 K2 S3 f4 => ⟨tv, Jf1 (κ := K2) 3 R R R R R R R fun b4 w5 K6 S7 f8 => ⟨tv, Jb 1 R (Je [1, 2] R (Jo1 (κ := K6) (E := E6) 4 R R R R R Y40 Tryzinfo2 R fun ap ar w9 K10 S11 f12 => ⟨tv, Jb 1 R (Je [1, 1, 2, 1, 2, 2, 2, 2, 2, 2, 2] R (Jl tv R R R R (Jd2 (cs := [vi p0.In, vi p0.Out]) I31 Z31 R R R (haE (f4.stp (S7.tr S11) R R).cells)) (Jl tv R R R R (Jd2 (cs := [.slice an p1.Next.length ak, .slice ah p1.Out.length am]) I33 Z33 R R R (haE (f8.stp S11 R R).cells)) (Jn 1 R (Ob h fun x17 hx17 h => Jh R R R C49 (s_l30All_ok (κ := fun b => mp [] 0 (K10 b)) (p0 := p0) (p1 := p1) (Jl2 (g1_0.stp (S3.tr (S7.tr S11)) R R) (mp [] 0) R R) (Jl2 (g1_1.stp (S3.tr (S7.tr S11)) R R) (mp [] 0) R R) (Jl2 (g2.stp (S3.tr (S7.tr S11)) R R) (mp [] 0) R R) hx17) ?_)))))⟩))⟩⟩)
 rintro _ w18 ⟨k19, al, aj, ao, ai, rfl, e20, f21, f22⟩
 obtain ⟨K23, S24, m25⟩ := Ji e20 5 R
 refine ⟨tv, ?_⟩
 have f28 := f22.mx Pair.no92 m25 R (R : 5 + 3 = 8)
 refine Jb 7 R (Jq (Je [2] R (Jb 1 R (Ob h fun q2 hq31 hK30 => ?_))))
 clear h
 refine Jx1 (fun L w' => ∃ κ', ∃ s3 : (List Int) × Int, ∃ ac ad, L = [(7, .slice ac s3.1.length ad)] ∧ Stp [4] K23 w18 κ' w' ∧ Oc E6 2 κ' w' 4 ac ad s3.1 ∧ q2 = Sum.inr s3) ?_ ?_
 refine Jv (Jy1 (fun k L w' => ∃ κ', ∃ s1 : (List Int) × Int, ∃ aa ab, L = [(7, .slice aa s1.1.length ab), (8, .slice al x17.1.length aj), (9, .slice ao x17.2.1.length ai), (10, .bool x17.2.2), (11, vi s1.2)] ∧ Stp [4] K23 w18 κ' w' ∧ Oc E6 2 κ' w' 4 aa ab s1.1 ∧ whileM (s_BreaksIn_b0 x17) k s1 = some q2) ⟨_, _, ⟨K23, ((([] : List Int) : (List Int)), (0 : Int)), ap, ar, R, (Jx2 _ _).wk R, (f12.stp S24 R R), hq31⟩, (KM R)⟩ ?_)
 rintro k _ w36 ⟨K37, s1, aa, ab, rfl, S38, f39, h⟩
 rcases k with _ | k
 cases h
 obtain ⟨o29, h, hk41⟩ := BI h; unfold s_BreaksIn_b0 at h
 refine Jq (Je [2, 2, 2, 2, 2, 2, 2] R (Jn 2 R (Ob h fun p27 h hK42 => Ju1 [(2, 2), (3, 2), (4, 2), (5, 2), (6, 2)] [] (fun L w' => L = [(7, .slice aa s1.1.length ab), (8, .slice al x17.1.length aj), (9, .slice ao x17.2.1.length ai), (10, .bool x17.2.2), (11, vi s1.2), (27, .bool p27)] ∧ ∃ κ', Stp [] K37 w36 κ' w') tv ?_ ?_)))
 revert h
 cases ht43 : x17.2.2
 refine JF fun h => Jn 5 R ?_
 cases h
 exact Jv1 _ tv ⟨R, _, (Jx2 _ _).wk R⟩ (KM R)
 refine JT fun h => Jn 2 R (Jf R (Je2 U79 R R) (Jn 2 R ?_))
 cases h
 exact Jv1 _ tv ⟨R, _, (Jx2 _ _).wk R⟩ (KM R)
 rintro _ w44 _ ⟨rfl, K45, S46⟩
 have h := hK42
 refine Jd ?_
 revert h
 cases ht47 : p27
 refine JF fun h => Jy R (Jc1 (Jt (Jt ?_)))
 cases h
 have h := hk41
 refine Jb1 ?_
 cases h
 exact Jw1 _ ⟨K45, ((s1.1 : (List Int)), (s1.2 : Int)), aa, ab, R, (S38.tr S46).wk R, (f39.stp S46 R R), R⟩ (KM R)
 refine JT fun h => Jx R (Js (Jp (Jq (Jv (Je [2, 2, 2, 2, 1, 1, 2] R (Jn 3 R (Ob h fun x33 hx33 h => Jf R (Jf2 f28.rdc hx33 U79 Z92 R R R R) ?_)))))))
 obtain ⟨cse49, hre49, hle49⟩ := ((f28.stp (S38.tr S46) R R).rdc).gSt hx33
 obtain ⟨ae49_0, ue49_0, ae49_1, ue49_1, rfl, fe49_0, fe49_1⟩ := Pair.un hre49
 refine Jl tv R R R R (Jd2 (cs := [.slice ae49_0 x33.Ask.length ue49_0, .slice ae49_1 x33.Give.length ue49_1]) I92 Z92 R R R (haE hle49)) (Ob h fun x35 hx35 h => Jh R R R C56 (s_l30Broken_ok (κ := fun b => mp [] 0 (K45 b)) (p1 := x33) (Jl2 ((f21.mx (no_own (no_int _) _) m25 R (R : 5 + 2 = 7)).stp (S38.tr S46) R R).rdc (mp [] 0) R R) (Jl2 fe49_0 (mp [] 0) R R) (Jl2 fe49_1 (mp [] 0) R R) hx35) ?_)
 rintro _ w51 ⟨k52, rfl, e53⟩
 obtain ⟨K54, S55, m56⟩ := Ji e53 9 R
 refine ⟨tv, Jb 1 R (Ob h fun q4 h hK58 => Jx1 (fun L w' => ∃ κ' ae af, L = [(7, .slice ae q4.length af), (8, .slice al x17.1.length aj), (9, .slice ao x17.2.1.length ai), (10, .bool x17.2.2), (11, vi s1.2)] ∧ Stp [4] K54 w51 κ' w' ∧ Oc E6 2 κ' w' 4 ae af q4) ?_ ?_)⟩
 revert h
 cases ht63 : decide (0 ≤ x35)
 refine JF fun h => Jy R (Js ?_)
 cases h
 exact Jw1 _ ⟨K54, aa, ab, R, (Jx2 _ _).wk R, (f39.stp (S46.tr S55) R R)⟩ (KM R)
 refine JT fun h => Jx R (Ja [2, 2, 1, 1, 2] R (Jn 2 R (Jn1 (κ := K54) (E := E6) 11 [] (parts := [(0, .tmp 38)]) (cells := [vi s1.2]) (xs := ([s1.2] : List Int)) R R R R R R Y40 Tryzinfo2 R R R R R R R R R R ⟨[vi s1.2], [], Zl K54 w51 [], Zl K54 w51 [], R, Zl.sp (l1 := []) (l2 := []) R, Zl.sr (l1 := []) (l2 := []), R, R⟩ fun aw av w64 K65 S66 f67 => ⟨tv, Ob h fun x40 hx40 h => Jm1 (κ := K65) (E := E6) 4 [] R R R R R R R R R Y40 Tryzinfo2 R R R R (f39.stp (S46.tr (S55.tr S66)) R R) (Sl.srcP (pu_int _) f67.rdc) sy_false hx40 R fun aq au w69 K70 S71 f72 => ⟨tv, Jc 1 R ?_⟩⟩)))
 cases h
 exact Jw1 _ ⟨K70, aq, au, R, (S66.tr S71).wk R, f72⟩ (KM R)
 rintro _ w59 ⟨K60, ae, af, rfl, S61, f62⟩
 have h := hK58
 refine Jz (Jp (Ja [2, 2, 2] R (Jc 3 R ?_)))
 cases h
 exact Jz1 fun a ha => ⟨k, _, Ja3 _, ⟨K60, ((q4 : (List Int)), ((IntKind.i64.wrap (s1.2 + 1)) : Int)), ae, af, R, (S38.tr (S46.tr (S55.tr S61))).wk R, f62, hk41⟩, (ha.mm R)⟩
 rintro _ w32 ⟨K33, s3, ac, ad, rfl, S34, f35, rfl⟩
 have h := hK30
 dsimp only [aft] at h
 refine Jp (Je [2, 2] R (Jb 2 R (Ju (Ja2 (l := [.tmp 6]) V18 (Jp2 R R) R ?_))))
 cases h
 exact ⟨(fun b => ren [(4, 2)] (K33 b)), ac, ad, R, ((hE.stp (S3.tr (S7.tr (S11.tr (S24.tr S34)))) R R).map (ren [(4, 2)]) R R), (f35.map (ren [(4, 2)]) R R)⟩
theorem s_KeepsAll_ok {w : World} {κ : Col} {p0 : Sig} {ab ad aa ac} {p1 : Machine} {a2 u2} {p2 : (List Clause)} (g1_0 : Rd (Rp.sl (Rp.int .i64)) κ w 0 ab ad p1.Next) (g1_1 : Rd (Rp.sl (Rp.int .i64)) κ w 0 aa ac p1.Out) (g2 : Rd Clause.rp κ w 0 a2 u2 p2) {r : Bool} (h : s_KeepsAll p0 p1 p2 = some r) : Ret Tryz.prog 11 [.agg #[vi p0.In, vi p0.Out], .agg #[.slice ab p1.Next.length ad, .slice aa p1.Out.length ac], .slice a2 p2.length u2] w (fun v w' => ∃ (κ' : Col), v = .bool r ∧ Ent κ w κ' w') := by
 unfold s_KeepsAll at h
 refine Ret.enter F11 R N11 R ?_
 dsimp only [envOf]
 have hE := Ent.refl κ w
 refine Je [1, 1, 2] R (Jf1 (κ := κ) 2 R R R R R R R fun b3 w1 K2 S3 f4 => ⟨tv, Jf1 (κ := K2) 3 R R R R R R R fun b4 w5 K6 S7 f8 => ⟨tv, Jb 1 R (Je [1, 1, 2, 1, 2, 2, 2, 2, 2, 2, 2] R ?_)⟩⟩)
 have f9 := f4.stp S7 R R
 refine Jl tv R R R R (Jd2 (cs := [vi p0.In, vi p0.Out]) I31 Z31 R R R (haE f9.cells)) (Jl tv R R R R (Jd2 (cs := [.slice ab p1.Next.length ad, .slice aa p1.Out.length ac]) I33 Z33 R R R (haE f8.cells)) (Jn 1 R (Ob h fun x14 hx14 h => ?_)))
 have f10 := g1_0.stp (S3.tr S7) R R
 have f11 := g1_1.stp (S3.tr S7) R R
 have f12 := g2.stp (S3.tr S7) R R
 refine Jh R R R C49 (s_l30All_ok (κ := fun b => mp [] 0 (K6 b)) (p0 := p0) (p1 := p1) (Jl2 f10 (mp [] 0) R R) (Jl2 f11 (mp [] 0) R R) (Jl2 f12 (mp [] 0) R R) hx14) ?_
 rintro _ w13 ⟨k14, ak, ai, ae, af, rfl, e15, f16, f17⟩
 obtain ⟨K18, S19, m20⟩ := Ji e15 4 R
 refine ⟨tv, Jb 7 R (Je [2, 2, 1, 1, 2, 1, 2, 2, 2, 2] R (Jn 2 R (Ob h fun p26 h hK24 => Ju1 [(2, 1), (3, 1), (4, 2), (5, 1), (6, 2), (7, 2), (8, 2)] [(9, 2)] (fun L w' => L = [(6, .bool false), (26, .bool p26)] ∧ ∃ κ', Stp [] K18 w13 κ' w') tv ?_ ?_)))⟩
 revert h
 cases ht25 : x14.2.2
 refine JF fun h => Jd1 R R R R (Jd1 R R R R (Jn 1 R (Jd1 R R R R (Jn 3 R ?_))))
 cases h
 exact Jv1 _ tv ⟨R, _, (Jx2 _ _).wk R⟩ (KM R)
 refine JT fun h => Jl tv R R R R (Jd2 (cs := [vi p0.In, vi p0.Out]) I31 Z31 R R R (haE (f9.stp S19 R R).cells)) (Jl tv R R R R (Jd2 (cs := [.slice ab p1.Next.length ad, .slice aa p1.Out.length ac]) I33 Z33 R R R (haE (f8.stp S19 R R).cells)) (Jn 1 R (Ob h fun x23 hx23 h => Jh R R R C18 (s_BreaksIn_ok (κ := fun b => mp [] 0 (K18 b)) (p0 := p0) (p1 := p1) (Jl2 (f10.stp S19 R R) (mp [] 0) R R) (Jl2 (f11.stp S19 R R) (mp [] 0) R R) (Jl2 (f12.stp S19 R R) (mp [] 0) R R) hx23) ?_)))
 rintro _ w31 ⟨k32, ah, aj, rfl, e33, f34⟩
 obtain ⟨K35, S36, m37⟩ := Ji e33 8 R
 refine ⟨tv, Jf R (Je2 U40 R R) (Jn 2 R ?_)⟩
 cases h
 exact Jv1 _ tv ⟨R, _, S36.wk R⟩ (KM R)
 rintro _ w40 _ ⟨rfl, K41, S42⟩
 have h := hK24
 refine Jb 1 R (Ju (Ja2 (l := [.tmp 6]) V11 (Jp2 R R) R ?_))
 cases h
 exact ⟨K41, R, (hE.stp (S3.tr (S7.tr (S19.tr S42))) R R)⟩
theorem s_KeepingOf_ok {w : World} {κ : Col} {a0 u0} {p0 : (List Clause)} {p1 : Int} (g0 : Rd Clause.rp κ w 0 a0 u0 p0) {r : Machine × Bool} (h : s_KeepingOf p0 p1 = some r) : Ret Tryz.prog 30 [.slice a0 p0.length u0, vi p1] w (fun v w' => ∃ (κ' : Col) (ra0 : Option Addr) (ru0 : Nat) (ra1 : Option Addr) (ru1 : Nat), v = .tuple #[.agg #[.slice ra0 r.1.Next.length ru0, .slice ra1 r.1.Out.length ru1], .bool r.2] ∧ Ent κ w κ' w' ∧ Oc (Ep.own E6 2) 40 κ' w' 2 ra0 ru0 r.1.Next ∧ Oc (Ep.own E6 2) 40 κ' w' 3 ra1 ru1 r.1.Out) := by
 unfold s_KeepingOf at h
 refine Ret.enter F30 R N30 R ?_
 dsimp only [envOf]
 have hE := Ent.refl κ w
 refine Je [1, 2] R (Jg1 (κ := κ) 2 R R R R R X33 R fun b4 w1 K2 S3 f4 => ⟨tv, Jb 1 R (Je [2, 1, 1] R (Jf R (rn_build (parts := [(0, .const (vi 1)), (1, .const (vi 1))]) (cells := [vi 1, vi 1]) R R (by kernel_rfl)) (Jg1 (κ := K2) 3 R R R R R X31 R fun b6 w5 K6 S7 f8 => ⟨tv, Jj1 (κ := K6) 3 (vc := [vi 1, vi 1]) R R R R R R R Z31 R R f8 R fun w9 S10 f11 => ⟨tv, Jd (Jq (Je [1, 2, 1, 2, 2, 2, 1, 2, 2] R (Jl tv R R R R (Jd2 (cs := [vi 1, vi 1]) I31 Z31 R R R (haE f11.cells)) (Jn 1 R (Ob h fun x14 hx14 h => ?_)))))⟩⟩)))⟩)
 have f12 := g0.stp (S3.tr (S7.tr S10)) R R
 refine Jh R R R C76 (s_ClausesOk_ok (κ := fun b => mp [] 0 (K6 b)) (p0 := (⟨1, 1⟩ : Sig)) (Jl2 f12 (mp [] 0) R R) hx14) ?_
 rintro _ w13 ⟨k14, rfl, e15⟩
 obtain ⟨K16, S17, m18⟩ := Ji e15 4 R
 refine ⟨tv, Jn 2 R (Ob h fun p20 h hK20 => Ju1 [(5, 2), (6, 1), (7, 2), (8, 2)] [] (fun L w' => L = [(0, .slice a0 p0.length u0), (1, vi p1), (4, .pointer (some ⟨b4, 0, none⟩)), (6, .pointer (some ⟨b6, 0, none⟩)), (20, .bool p20)] ∧ ∃ κ', Stp [] K16 w13 κ' w') tv ?_ ?_)⟩
 revert h
 cases ht21 : (!x14)
 refine JF fun h => Jn 1 R (Ob h fun x18 hx18 h => Jh R R R C77 (s_l1In_ok (κ := fun b => mp [] 0 (K16 b)) hx18) ?_)
 rintro _ w22 ⟨k23, rfl, e24⟩
 obtain ⟨K25, S26, m27⟩ := Ji e24 6 R
 refine ⟨tv, Jn 2 R ?_⟩
 cases h
 exact Jv1 _ tv ⟨R, _, S26.wk R⟩ (KM R)
 refine JT fun h => Jn 1 R (Jd1 R R R R (Jn 2 R ?_))
 cases h
 exact Jv1 _ tv ⟨R, _, (Jx2 _ _).wk R⟩ (KM R)
 rintro _ w29 _ ⟨rfl, K30, S31⟩
 have h := hK20
 refine Jd ?_
 revert h
 cases ht32 : p20
 refine JF fun h => Jy R (Js (Jp (Jq (Je [2] R (Jb 1 R (Ob h fun q2 hq40 hK39 => ?_))))))
 clear h
 refine Jx1 (fun L w' => ∃ κ' s3, L = [(4, .pointer (some ⟨b4, 0, none⟩))] ∧ Stp [10] K30 w29 κ' w' ∧ q2 = Sum.inr s3) ?_ ?_
 refine Jv (Jy1 (fun k L w' => ∃ κ' s1, L = [(0, .slice a0 p0.length u0), (1, vi p1), (4, .pointer (some ⟨b4, 0, none⟩)), (6, .pointer (some ⟨b6, 0, none⟩)), (7, vi s1)] ∧ Stp [10] K30 w29 κ' w' ∧ whileM (s_KeepingOf_b0 p0 p1) k s1 = some q2) ⟨_, _, ⟨K30, (1 : Int), R, (Jx2 _ _).wk R, hq40⟩, (KM R)⟩ ?_)
 rintro k _ w44 ⟨K45, s1, rfl, S46, h⟩
 rcases k with _ | k
 cases h
 obtain ⟨o38, h, hk47⟩ := BI h; unfold s_KeepingOf_b0 at h
 refine Jq (Je [2, 2, 2] R (Jb 3 R ?_))
 revert h
 cases ht48 : decide (s1 ≤ p1)
 refine JF fun h => Jy R (Jc1 (Jt (Jt ?_)))
 cases h
 have h := hk47
 refine Jb1 ?_
 cases h
 exact Jw1 _ ⟨K45, (s1 : Int), R, S46.wk R, R⟩ (KM R)
 refine JT fun h => Jx R (Js (Jp (Jq (Jv (Je [2, 2, 2, 2, 2] R (Jb 5 R (Jq (Je [2, 2] R (Jb 2 R (Ob h fun q4 h hK49 => Jx1 (fun L w' => ∃ κ', L = [(0, .slice a0 p0.length u0), (1, vi p1), (4, .pointer (some ⟨b4, 0, none⟩)), (6, .pointer (some ⟨b6, 0, none⟩)), (7, vi s1), (8, vi q4)] ∧ Stp [] K45 w44 κ' w') ?_ ?_))))))))))
 revert h
 cases ht53 : (s1 == 2)
 refine JF fun h => Jy R (Js ?_)
 cases h
 exact Jw1 _ ⟨K45, R, (Jx2 _ _).wk R⟩ (KM R)
 refine JT fun h => Jx R (Ja [2, 2, 2, 2] R (Jc 4 R ?_))
 cases h
 exact Jw1 _ ⟨K45, R, (Jx2 _ _).wk R⟩ (KM R)
 rintro _ w50 ⟨K51, rfl, S52⟩
 have h := hK49
 refine Jp (Je [2] R (Jb 1 R (Ob h fun _ hr54 h => ?_)))
 have hN54 := rng_ok hr54
 refine Ob h fun q6 hq56 hK55 => ?_
 clear h
 refine Jx1 (fun L w' => ∃ κ', L = [(0, .slice a0 p0.length u0), (1, vi p1), (4, .pointer (some ⟨b4, 0, none⟩)), (6, .pointer (some ⟨b6, 0, none⟩)), (7, vi s1)] ∧ Stp [10] K51 w50 κ' w' ∧ q6 = Sum.inr ()) ?_ ?_
 refine Jv (Jy1 (fun k L w' => ∃ κ' v9, L = [(0, .slice a0 p0.length u0), (1, vi p1), (4, .pointer (some ⟨b4, 0, none⟩)), (6, .pointer (some ⟨b6, 0, none⟩)), (7, vi s1), (8, vi q4), (9, vi v9)] ∧ Stp [10] K51 w50 κ' w' ∧ 0 ≤ v9 ∧ Int.toNat (q4 - v9) = k ∧ cntM (s_KeepingOf_b2 p0 s1) k v9 () = some q6) ⟨_, _, ⟨K51, 0, R, (Jx2 _ _).wk R, (by decide), (by simp), hq56⟩, (KM R)⟩ ?_)
 rintro k _ w60 ⟨K61, v9, rfl, S62, hj54, hJ54, h⟩
 rcases k with _ | k
 have hk63 := h; obtain ⟨o54, h⟩ := ex_eq (Sum.inr (Sum.inl ()) : (Machine × Bool) ⊕ ((Unit) ⊕ (Unit)))
 have hc54 : decide (v9 < q4) = false := Jo2 (by omega)
 refine Jq (Je [2, 2, 2] R (Jb 3 R (Jw2 R hc54 (Jc1 (Jt (Jt ?_))))))
 cases h
 have h := hk63
 refine Jb1 ?_
 cases h
 exact Jw1 _ ⟨K61, R, S62.wk R, R⟩ (KM R)
 obtain ⟨o54, h, hk63⟩ := BI h; unfold s_KeepingOf_b2 at h
 have hc54 : decide (v9 < q4) = true := Jn2 (by omega)
 refine Jq (Je [2, 2, 2] R (Jb 3 R (Jv2 R hc54 (Js (Jp (Jq (Jv (Je [2, 2, 1, 1, 1] R (Jn 2 R (Ob h fun x43 hx43 h => Jh R R R C78 (s_l30Numbered_ok (κ := fun b => mp [] 0 (K61 b)) hx43) ?_))))))))))
 rintro _ w64 ⟨k65, aa, ac, ab, ad, rfl, e66, f67, f68⟩
 obtain ⟨K69, S70, m71⟩ := Ji e66 6 R
 refine ⟨tv, Jg1 (κ := K69) 10 R R R R R X33 R fun b10 w75 K76 S77 f78 => ⟨tv, Jj1 (κ := K76) 10 (vc := [.slice aa x43.Next.length ac, .slice ab x43.Out.length ad]) R R R R R R R Z33 R R f78 R fun w79 S80 f81 => ⟨tv, Jd (Je [1, 1, 2, 1] R (Jl tv R R R R (Jd2 (cs := [vi 1, vi 1]) I31 Z31 R R R (haE (f11.stp (S17.tr (S31.tr (S46.tr (S52.tr (S62.tr (S70.tr (S77.tr S80))))))) R R).cells)) (Jl tv R R R R (Jd2 (cs := [.slice aa x43.Next.length ac, .slice ab x43.Out.length ad]) I33 Z33 R R R (haE f81.cells)) (Jn 1 R (Ob h fun x47 hx47 h => ?_)))))⟩⟩⟩
 have f83 := (f67.mx (no_own (no_int _) _) m71 R (R : 6 + 2 = 8)).stp (S77.tr S80) R R
 have f84 := (f68.mx (no_own (no_int _) _) m71 R (R : 6 + 3 = 9)).stp (S77.tr S80) R R
 refine Jh R R R C11 (s_KeepsAll_ok (κ := fun b => mp [] 0 (K76 b)) (p0 := (⟨1, 1⟩ : Sig)) (p1 := x43) (Jl2 f83.rdc (mp [] 0) R R) (Jl2 f84.rdc (mp [] 0) R R) (Jl2 (f12.stp (S17.tr (S31.tr (S46.tr (S52.tr (S62.tr (S70.tr (S77.tr S80))))))) R R) (mp [] 0) R R) hx47) ?_
 rintro _ w86 ⟨k87, rfl, e88⟩
 obtain ⟨K89, S90, m91⟩ := Ji e88 11 R
 refine ⟨tv, Jd ?_⟩
 revert h
 cases ht93 : x47
 refine JF fun h => Jy R (Js (Jz (Jp (Ja [2, 2, 2] R (Jc 3 R ?_)))))
 have hw54 : IntKind.wrap .i64 (v9 + 1) = v9 + 1 := wr1 hj54 (Jm2 hc54) hN54
 rw [hw54]
 have hc54 := Jm2 hc54
 cases h
 exact Jz1 fun a ha => ⟨k, _, Ja3 _, ⟨K89, v9 + 1, R, (S62.tr (S70.tr (S77.tr (S80.tr S90)))).wk R, by omega, by omega, hk63⟩, (ha.mm R)⟩
 refine JT fun h => Jx R (Je [1, 1, 2] R (Jl tv R R R R (Jd2 (cs := [.slice aa x43.Next.length ac, .slice ab x43.Out.length ad]) I33 Z33 R R R (haE (f81.stp S90 R R).cells)) (Jj1 (κ := K89) 2 (vc := [.slice aa x43.Next.length ac, .slice ab x43.Out.length ad]) R R R R R R R Z33 R R (f4.stp (S7.tr (S10.tr (S17.tr (S31.tr (S46.tr (S52.tr (S62.tr (S70.tr (S77.tr (S80.tr S90)))))))))) R R) R fun w96 S97 f98 => ⟨tv, Jb 1 R (Ju (Ja1 (Jw (Jw ?_))))⟩)))
 cases h
 obtain rfl := Option.some.inj hk63
 have h := hK55
 dsimp only [aft] at h
 refine Ja1 (Jq2 (Ja1 (Jw (Jw ?_))))
 cases h
 obtain rfl := Option.some.inj hk47
 have h := hK39
 dsimp only [aft] at h
 refine Ja1 (Jq2 (Jw (Ja2 (l := [.cell 4 33, .tmp 5]) V30 (res_cellA R f98 I33 Z33 R (Jp2 R R)) R ?_)))
 cases h
 exact ⟨(fun b => ren [(8, 2), (9, 3)] (K89 b)), aa, ac, ab, ad, R, ((hE.stp (S3.tr (S7.tr (S10.tr (S17.tr (S31.tr (S46.tr (S52.tr (S62.tr (S70.tr (S77.tr (S80.tr (S90.tr S97)))))))))))) R R).map (ren [(8, 2), (9, 3)]) R R), ((f83.stp (S90.tr S97) R R).map (ren [(8, 2), (9, 3)]) R R), ((f84.stp (S90.tr S97) R R).map (ren [(8, 2), (9, 3)]) R R)⟩
 rintro _ w57 ⟨K58, rfl, S59, rfl⟩
 have h := hK55
 dsimp only [aft] at h
 refine Jz (Jp (Ja [2, 2, 2] R (Jc 3 R ?_)))
 cases h
 exact Jz1 fun a ha => ⟨k, _, Ja3 _, ⟨K58, ((IntKind.i64.wrap (s1 + 1)) : Int), R, (S46.tr (S52.tr S59)).wk R, hk47⟩, (ha.mm R)⟩
 rintro _ w41 ⟨K42, s3, rfl, S43, rfl⟩
 have h := hK39
 dsimp only [aft] at h
 refine Jp (Je [2, 1, 2] R (Jf R (rn_build (parts := []) (cells := [.slice none 0 0, .slice none 0 0]) R R (by kernel_rfl)) (Jj1 (κ := K42) 2 (vc := [.slice none 0 0, .slice none 0 0]) R R R R R R R Z33 R R (f4.stp (S7.tr (S10.tr (S17.tr (S31.tr S43)))) R R) R fun w103 S104 f105 => ⟨tv, Jb 1 R (Ju (Ja2 (l := [.cell 4 33, .tmp 5]) V30 (res_cellA R f105 I33 Z33 R (Jp2 R R)) R ?_))⟩)))
 cases h
 exact ⟨K42, none, 0, none, 0, R, (hE.stp (S3.tr (S7.tr (S10.tr (S17.tr (S31.tr (S43.tr S104)))))) R R), Ow.nil, Ow.nil⟩
 refine JT fun h => Jx R (Je [2, 1, 2] R (Jf R (rn_build (parts := []) (cells := [.slice none 0 0, .slice none 0 0]) R R (by kernel_rfl)) (Jj1 (κ := K30) 2 (vc := [.slice none 0 0, .slice none 0 0]) R R R R R R R Z33 R R (f4.stp (S7.tr (S10.tr (S17.tr S31))) R R) R fun w34 S35 f36 => ⟨tv, Jb 1 R (Ju (Jw (Ja2 (l := [.cell 4 33, .tmp 5]) V30 (res_cellA R f36 I33 Z33 R (Jp2 R R)) R ?_)))⟩)))
 cases h
 exact ⟨K30, none, 0, none, 0, R, (hE.stp (S3.tr (S7.tr (S10.tr (S17.tr (S31.tr S35))))) R R), Ow.nil, Ow.nil⟩
theorem i_KeepingOf_ok {w : World} {κ : Col} {a0 u0} {p0 : (List Clause)} {p1 : Int} (g0 : Rd Clause.rp κ w 0 a0 u0 p0) {r : Machine × Bool} (h : i_KeepingOf p0 p1 = some r) : Ret Tryz.prog 31 [.slice a0 p0.length u0, vi p1] w (fun v w' => ∃ (κ' : Col) (ra0 : Option Addr) (ru0 : Nat) (ra1 : Option Addr) (ru1 : Nat), v = .tuple #[.agg #[.slice ra0 r.1.Next.length ru0, .slice ra1 r.1.Out.length ru1], .bool r.2] ∧ Ent κ w κ' w' ∧ Oc (Ep.own E6 2) 40 κ' w' 2 ra0 ru0 r.1.Next ∧ Oc (Ep.own E6 2) 40 κ' w' 3 ra1 ru1 r.1.Out) := by
 unfold i_KeepingOf at h
 refine Ret.enter F31 R N31 R ?_
 dsimp only [envOf]
 have hE := Ent.refl κ w
 refine Je [1, 2] R (Jg1 (κ := κ) 2 R R R R R X33 R fun b4 w1 K2 S3 f4 => ⟨tv, Jb 1 R (Je [2, 1, 1] R (Jf R (rn_build (parts := [(0, .const (vi 1)), (1, .const (vi 1))]) (cells := [vi 1, vi 1]) R R (by kernel_rfl)) (Jg1 (κ := K2) 3 R R R R R X31 R fun b6 w5 K6 S7 f8 => ⟨tv, Jj1 (κ := K6) 3 (vc := [vi 1, vi 1]) R R R R R R R Z31 R R f8 R fun w9 S10 f11 => ⟨tv, Jd (Jq (Je [1, 2, 1, 2, 2, 2, 2, 2, 2, 2, 2, 2] R (Jl tv R R R R (Jd2 (cs := [vi 1, vi 1]) I31 Z31 R R R (haE f11.cells)) (Jn 1 R (Ob h fun x14 hx14 h => ?_)))))⟩⟩)))⟩)
 have f12 := g0.stp (S3.tr (S7.tr S10)) R R
 refine Jh R R R C79 (i_areClauses_ok (κ := fun b => mp [] 0 (K6 b)) (p0 := (⟨1, 1⟩ : Sig)) (Jl2 f12 (mp [] 0) R R) hx14) ?_
 rintro _ w13 ⟨k14, rfl, e15⟩
 obtain ⟨K16, S17, m18⟩ := Ji e15 4 R
 refine ⟨tv, Jn 2 R (Ob h fun p19 h hK20 => Ju1 [(5, 2), (6, 2), (7, 2)] [(8, 2), (9, 2), (10, 2), (11, 2)] (fun L w' => L = [(0, .slice a0 p0.length u0), (1, vi p1), (4, .pointer (some ⟨b4, 0, none⟩)), (6, .pointer (some ⟨b6, 0, none⟩)), (19, .bool p19)] ∧ ∃ κ', Stp [] K16 w13 κ' w') tv ?_ ?_)⟩
 revert h
 cases ht21 : (!x14)
 refine JF fun h => Jn 3 R ?_
 cases h
 exact Jv1 _ tv ⟨R, _, (Jx2 _ _).wk R⟩ (KM R)
 refine JT fun h => Jn 3 R ?_
 cases h
 exact Jv1 _ tv ⟨R, _, (Jx2 _ _).wk R⟩ (KM R)
 rintro _ w22 _ ⟨rfl, K23, S24⟩
 have h := hK20
 refine Jn 1 R (Ob h fun p23 h hK25 => Ju1 [(9, 2), (10, 2), (11, 2)] [] (fun L w' => L = [(0, .slice a0 p0.length u0), (1, vi p1), (4, .pointer (some ⟨b4, 0, none⟩)), (6, .pointer (some ⟨b6, 0, none⟩)), (23, .bool p23)] ∧ ∃ κ', Stp [] K23 w22 κ' w') tv ?_ ?_)
 revert h
 cases ht26 : p19
 refine JF fun h => Jn 3 R ?_
 cases h
 exact Jv1 _ tv ⟨R, _, (Jx2 _ _).wk R⟩ (KM R)
 refine JT fun h => Jn 3 R ?_
 cases h
 exact Jv1 _ tv ⟨R, _, (Jx2 _ _).wk R⟩ (KM R)
 rintro _ w27 _ ⟨rfl, K28, S29⟩
 have h := hK25
 refine Jd ?_
 revert h
 cases ht30 : p23
 refine JF fun h => Jy R (Js (Jp (Jq (Je [2] R (Jb 1 R (Ob h fun q2 hq38 hK37 => ?_))))))
 clear h
 refine Jx1 (fun L w' => ∃ κ' s3, L = [(4, .pointer (some ⟨b4, 0, none⟩))] ∧ Stp [10] K28 w27 κ' w' ∧ q2 = Sum.inr s3) ?_ ?_
 refine Jv (Jy1 (fun k L w' => ∃ κ' s1, L = [(0, .slice a0 p0.length u0), (1, vi p1), (4, .pointer (some ⟨b4, 0, none⟩)), (6, .pointer (some ⟨b6, 0, none⟩)), (7, vi s1)] ∧ Stp [10] K28 w27 κ' w' ∧ whileM (i_KeepingOf_b0 p0 p1) k s1 = some q2) ⟨_, _, ⟨K28, (1 : Int), R, (Jx2 _ _).wk R, hq38⟩, (KM R)⟩ ?_)
 rintro k _ w42 ⟨K43, s1, rfl, S44, h⟩
 rcases k with _ | k
 cases h
 obtain ⟨o36, h, hk45⟩ := BI h; unfold i_KeepingOf_b0 at h
 refine Jq (Je [2, 2, 2] R (Jb 3 R ?_))
 revert h
 cases ht46 : decide (s1 ≤ p1)
 refine JF fun h => Jy R (Jc1 (Jt (Jt ?_)))
 cases h
 have h := hk45
 refine Jb1 ?_
 cases h
 exact Jw1 _ ⟨K43, (s1 : Int), R, S44.wk R, R⟩ (KM R)
 refine JT fun h => Jx R (Js (Jp (Jq (Jv (Je [2] R (Jb 1 R (Jq (Je [2, 2] R (Jb 2 R (Ob h fun _ hr47 h => ?_))))))))))
 have hN47 := rng_ok hr47
 refine Ob h fun q5 hq49 hK48 => ?_
 clear h
 refine Jx1 (fun L w' => ∃ κ' s6, L = [(0, .slice a0 p0.length u0), (1, vi p1), (4, .pointer (some ⟨b4, 0, none⟩)), (6, .pointer (some ⟨b6, 0, none⟩)), (7, vi s1), (8, vi s6)] ∧ Stp [] K43 w42 κ' w' ∧ q5 = Sum.inr s6) ?_ ?_
 refine Jv (Jy1 (fun k L w' => ∃ κ' v31 s4, L = [(0, .slice a0 p0.length u0), (1, vi p1), (4, .pointer (some ⟨b4, 0, none⟩)), (6, .pointer (some ⟨b6, 0, none⟩)), (7, vi s1), (8, vi s4), (30, vi s1), (31, vi v31)] ∧ Stp [] K43 w42 κ' w' ∧ 0 ≤ v31 ∧ Int.toNat (s1 - v31) = k ∧ cntM (i_KeepingOf_b2 s1) k v31 s4 = some q5) ⟨_, _, ⟨K43, 0, (1 : Int), R, (Jx2 _ _).wk R, (by decide), (by simp), hq49⟩, (KM R)⟩ ?_)
 rintro k _ w53 ⟨K54, v31, s4, rfl, S55, hj47, hJ47, h⟩
 rcases k with _ | k
 have hk56 := h; obtain ⟨o47, h⟩ := ex_eq (Sum.inr (Sum.inl s4) : (Machine × Bool) ⊕ ((Int) ⊕ (Int)))
 have hc47 : decide (v31 < s1) = false := Jo2 (by omega)
 refine Je [2] R (Jb 1 R (Jq (Jw2 R hc47 (Jc1 (Jt (Jt ?_))))))
 cases h
 have h := hk56
 refine Jb1 ?_
 cases h
 exact Jw1 _ ⟨K54, (s4 : Int), R, S55.wk R, R⟩ (KM R)
 obtain ⟨o47, h, hk56⟩ := BI h; unfold i_KeepingOf_b2 at h
 have hc47 : decide (v31 < s1) = true := Jn2 (by omega)
 refine Je [2] R (Jb 1 R (Jq (Jv2 R hc47 (Js (Jp (Jq (Jv (Ja [2, 2, 2, 2, 2, 2, 2] R (Jc 7 R (Jz (Jp (Ja [2, 2] R (Jc 2 R ?_)))))))))))))
 have hw47 : IntKind.wrap .i64 (v31 + 1) = v31 + 1 := wr1 hj47 (Jm2 hc47) hN47
 rw [hw47]
 have hc47 := Jm2 hc47
 cases h
 exact Jz1 fun a ha => ⟨k, _, Ja3 _, ⟨K54, v31 + 1, ((IntKind.i64.wrap (s4 * (IntKind.i64.wrap ((IntKind.i64.wrap (4 * s1)) * s1)))) : Int), R, S55.wk R, by omega, by omega, hk56⟩, (ha.mm R)⟩
 rintro _ w50 ⟨K51, s6, rfl, S52, rfl⟩
 have h := hK48
 dsimp only [aft] at h
 refine Jp (Je [2, 2] R (Jb 2 R (Ob h fun _ hr57 h => ?_)))
 have hN57 := rng_ok hr57
 refine Ob h fun q8 hq59 hK58 => ?_
 clear h
 refine Jx1 (fun L w' => ∃ κ', L = [(0, .slice a0 p0.length u0), (1, vi p1), (4, .pointer (some ⟨b4, 0, none⟩)), (6, .pointer (some ⟨b6, 0, none⟩)), (7, vi s1)] ∧ Stp [10] K51 w50 κ' w' ∧ q8 = Sum.inr ()) ?_ ?_
 refine Jv (Jy1 (fun k L w' => ∃ κ' v41, L = [(0, .slice a0 p0.length u0), (1, vi p1), (4, .pointer (some ⟨b4, 0, none⟩)), (6, .pointer (some ⟨b6, 0, none⟩)), (7, vi s1), (40, vi s6), (41, vi v41)] ∧ Stp [10] K51 w50 κ' w' ∧ 0 ≤ v41 ∧ Int.toNat (s6 - v41) = k ∧ cntM (i_KeepingOf_b4 p0 s1) k v41 () = some q8) ⟨_, _, ⟨K51, 0, R, (Jx2 _ _).wk R, (by decide), (by simp), hq59⟩, (KM R)⟩ ?_)
 rintro k _ w63 ⟨K64, v41, rfl, S65, hj57, hJ57, h⟩
 rcases k with _ | k
 have hk66 := h; obtain ⟨o57, h⟩ := ex_eq (Sum.inr (Sum.inl ()) : (Machine × Bool) ⊕ ((Unit) ⊕ (Unit)))
 have hc57 : decide (v41 < s6) = false := Jo2 (by omega)
 refine Je [2] R (Jb 1 R (Jq (Jw2 R hc57 (Jc1 (Jt (Jt ?_))))))
 cases h
 have h := hk66
 refine Jb1 ?_
 cases h
 exact Jw1 _ ⟨K64, R, S65.wk R, R⟩ (KM R)
 obtain ⟨o57, h, hk66⟩ := BI h; unfold i_KeepingOf_b4 at h
 have hc57 : decide (v41 < s6) = true := Jn2 (by omega)
 refine Je [2] R (Jb 1 R (Jq (Jv2 R hc57 (Js (Jp (Jq (Jv (Je [2, 2] R (Jb 2 R (Je [2, 2, 1, 1, 1] R (Jn 2 R (Ob h fun x46 hx46 h => Jh R R R C80 (i_machineOf_ok (κ := fun b => mp [] 0 (K64 b)) hx46) ?_))))))))))))
 rintro _ w67 ⟨k68, ad, aa, ac, ab, rfl, e69, f70, f71⟩
 obtain ⟨K72, S73, m74⟩ := Ji e69 6 R
 refine ⟨tv, Jg1 (κ := K72) 10 R R R R R X33 R fun b10 w78 K79 S80 f81 => ⟨tv, Jj1 (κ := K79) 10 (vc := [.slice ad x46.Next.length aa, .slice ac x46.Out.length ab]) R R R R R R R Z33 R R f81 R fun w82 S83 f84 => ⟨tv, Jd (Je [1, 1, 2, 1] R (Jl tv R R R R (Jd2 (cs := [vi 1, vi 1]) I31 Z31 R R R (haE (f11.stp (S17.tr (S24.tr (S29.tr (S44.tr (S52.tr (S65.tr (S73.tr (S80.tr S83)))))))) R R).cells)) (Jl tv R R R R (Jd2 (cs := [.slice ad x46.Next.length aa, .slice ac x46.Out.length ab]) I33 Z33 R R R (haE f84.cells)) (Jn 1 R (Ob h fun x50 hx50 h => ?_)))))⟩⟩⟩
 have f86 := (f70.mx (no_own (no_int _) _) m74 R (R : 6 + 2 = 8)).stp (S80.tr S83) R R
 have f87 := (f71.mx (no_own (no_int _) _) m74 R (R : 6 + 3 = 9)).stp (S80.tr S83) R R
 refine Jh R R R C15 (i_KeepsAll_ok (κ := fun b => mp [] 0 (K79 b)) (p0 := (⟨1, 1⟩ : Sig)) (p1 := x46) (Jl2 f86.rdc (mp [] 0) R R) (Jl2 f87.rdc (mp [] 0) R R) (Jl2 (f12.stp (S17.tr (S24.tr (S29.tr (S44.tr (S52.tr (S65.tr (S73.tr (S80.tr S83)))))))) R R) (mp [] 0) R R) hx50) ?_
 rintro _ w89 ⟨k90, rfl, e91⟩
 obtain ⟨K92, S93, m94⟩ := Ji e91 11 R
 refine ⟨tv, Jd ?_⟩
 revert h
 cases ht96 : x50
 refine JF fun h => Jy R (Js (Jz (Jp (Ja [2, 2] R (Jc 2 R ?_)))))
 have hw57 : IntKind.wrap .i64 (v41 + 1) = v41 + 1 := wr1 hj57 (Jm2 hc57) hN57
 rw [hw57]
 have hc57 := Jm2 hc57
 cases h
 exact Jz1 fun a ha => ⟨k, _, Ja3 _, ⟨K92, v41 + 1, R, (S65.tr (S73.tr (S80.tr (S83.tr S93)))).wk R, by omega, by omega, hk66⟩, (ha.mm R)⟩
 refine JT fun h => Jx R (Je [1, 1, 2] R (Jl tv R R R R (Jd2 (cs := [.slice ad x46.Next.length aa, .slice ac x46.Out.length ab]) I33 Z33 R R R (haE (f84.stp S93 R R).cells)) (Jj1 (κ := K92) 2 (vc := [.slice ad x46.Next.length aa, .slice ac x46.Out.length ab]) R R R R R R R Z33 R R (f4.stp (S7.tr (S10.tr (S17.tr (S24.tr (S29.tr (S44.tr (S52.tr (S65.tr (S73.tr (S80.tr (S83.tr S93))))))))))) R R) R fun w99 S100 f101 => ⟨tv, Jb 1 R (Ju (Ja1 (Jw (Jw ?_))))⟩)))
 cases h
 obtain rfl := Option.some.inj hk66
 have h := hK58
 dsimp only [aft] at h
 refine Ja1 (Jq2 (Ja1 (Jw (Jw ?_))))
 cases h
 obtain rfl := Option.some.inj hk45
 have h := hK37
 dsimp only [aft] at h
 refine Ja1 (Jq2 (Jw (Ja2 (l := [.cell 4 33, .tmp 5]) V31 (res_cellA R f101 I33 Z33 R (Jp2 R R)) R ?_)))
 cases h
 exact ⟨(fun b => ren [(8, 2), (9, 3)] (K92 b)), ad, aa, ac, ab, R, ((hE.stp (S3.tr (S7.tr (S10.tr (S17.tr (S24.tr (S29.tr (S44.tr (S52.tr (S65.tr (S73.tr (S80.tr (S83.tr (S93.tr S100))))))))))))) R R).map (ren [(8, 2), (9, 3)]) R R), ((f86.stp (S93.tr S100) R R).map (ren [(8, 2), (9, 3)]) R R), ((f87.stp (S93.tr S100) R R).map (ren [(8, 2), (9, 3)]) R R)⟩
 rintro _ w60 ⟨K61, rfl, S62, rfl⟩
 have h := hK58
 dsimp only [aft] at h
 refine Jz (Jp (Ja [2, 2, 2] R (Jc 3 R ?_)))
 cases h
 exact Jz1 fun a ha => ⟨k, _, Ja3 _, ⟨K61, ((IntKind.i64.wrap (s1 + 1)) : Int), R, (S44.tr (S52.tr S62)).wk R, hk45⟩, (ha.mm R)⟩
 rintro _ w39 ⟨K40, s3, rfl, S41, rfl⟩
 have h := hK37
 dsimp only [aft] at h
 refine Jp (Je [2, 1, 2] R (Jf R (rn_build (parts := []) (cells := [.slice none 0 0, .slice none 0 0]) R R (by kernel_rfl)) (Jj1 (κ := K40) 2 (vc := [.slice none 0 0, .slice none 0 0]) R R R R R R R Z33 R R (f4.stp (S7.tr (S10.tr (S17.tr (S24.tr (S29.tr S41))))) R R) R fun w106 S107 f108 => ⟨tv, Jb 1 R (Ju (Ja2 (l := [.cell 4 33, .tmp 5]) V31 (res_cellA R f108 I33 Z33 R (Jp2 R R)) R ?_))⟩)))
 cases h
 exact ⟨K40, none, 0, none, 0, R, (hE.stp (S3.tr (S7.tr (S10.tr (S17.tr (S24.tr (S29.tr (S41.tr S107))))))) R R), Ow.nil, Ow.nil⟩
 refine JT fun h => Jx R (Je [2, 1, 2] R (Jf R (rn_build (parts := []) (cells := [.slice none 0 0, .slice none 0 0]) R R (by kernel_rfl)) (Jj1 (κ := K28) 2 (vc := [.slice none 0 0, .slice none 0 0]) R R R R R R R Z33 R R (f4.stp (S7.tr (S10.tr (S17.tr (S24.tr S29)))) R R) R fun w32 S33 f34 => ⟨tv, Jb 1 R (Ju (Jw (Ja2 (l := [.cell 4 33, .tmp 5]) V31 (res_cellA R f34 I33 Z33 R (Jp2 R R)) R ?_)))⟩)))
 cases h
 exact ⟨K28, none, 0, none, 0, R, (hE.stp (S3.tr (S7.tr (S10.tr (S17.tr (S24.tr (S29.tr S33)))))) R R), Ow.nil, Ow.nil⟩
theorem l_FnExactKeepingOf_ok {w : World} {κ : Col} {a0 u0} {p0 : (List Clause)} {p1 : Int} (g0 : Rd Clause.rp κ w 0 a0 u0 p0) {r : Bool} (h : l_FnExactKeepingOf p0 p1 = some r) : Ret Tryz.prog 6 [.slice a0 p0.length u0, vi p1] w (fun v w' => ∃ (κ' : Col), v = .bool r ∧ Ent κ w κ' w') := by
 unfold l_FnExactKeepingOf at h
 refine Ret.enter F6 R N6 R ?_
 dsimp only [envOf]
 have hE := Ent.refl κ w
 refine Je [2] R (Jb 1 R (Je [2] R (Jb 1 R (Je [2, 2, 1, 2] R (Jn 2 R (Ob h fun x18 hx18 h => Jh R R R C10 (l_szClauseS_ok (κ := fun b => mp [] 0 (κ b)) (Jl2 g0 (mp [] 0) R R) hx18) ?_))))))
 rintro _ w1 ⟨k2, rfl, e3⟩
 obtain ⟨K4, S5, m6⟩ := Ji e3 2 R
 refine ⟨tv, Jb 1 R (Jq (Je [2, 2] R (Jb 2 R ?_)))⟩
 revert h
 cases ht8 : decide (x18 < 0)
 refine JF fun h => Jy R (Js (Jp (Je [2, 1, 2, 1, 2, 2, 2, 1, 1, 2] R (Jn 1 R (Ob h fun x23 hx23 h => ?_)))))
 have f10 := g0.stp S5 R R
 refine Jh R R R C14 (l_toClauseS_ok (κ := fun b => mp [] 0 (K4 b)) (Jl2 f10 (mp [] 0) R R) hx23) ?_
 rintro _ w11 ⟨k12, aw, au, rfl, e13, f14⟩
 obtain ⟨K15, S16, m17⟩ := Ji e13 4 R
 refine ⟨tv, Jn 1 R (Ob h fun x25 hx25 h => Jh R R R C30 (s_KeepingOf_ok (κ := fun b => mp [] 0 (K15 b)) (Jl2 (f14.mx Clause.no71 m17 R (R : 4 + 2 = 6)).rdc (mp [] 0) R R) hx25) ?_)⟩
 rintro _ w20 ⟨k21, ai, ah, af, ae, rfl, e22, f23, f24⟩
 obtain ⟨K25, S26, m27⟩ := Ji e22 7 R
 refine ⟨tv, Jn 3 R (Jg1 (κ := K25) 11 R R R R R X33 R fun b6 w31 K32 S33 f34 => ⟨tv, Jj1 (κ := K32) 11 (vc := [.slice ai x25.1.Next.length ah, .slice af x25.1.Out.length ae]) R R R R R R R Z33 R R f34 R fun w35 S36 f37 => ⟨tv, Jb 1 R (Je [2, 1, 2] R (Jn 1 R (Ob h fun x29 hx29 h => ?_)))⟩⟩)⟩
 have f38 := f10.stp (S16.tr (S26.tr (S33.tr S36))) R R
 refine Jh R R R C14 (l_toClauseS_ok (κ := fun b => mp [] 0 (K32 b)) (Jl2 f38 (mp [] 0) R R) hx29) ?_
 rintro _ w39 ⟨k40, an, ao, rfl, e41, f42⟩
 obtain ⟨K43, S44, m45⟩ := Ji e41 12 R
 refine ⟨tv, ?_⟩
 have f47 := f42.mx Clause.no71 m45 R (R : 12 + 2 = 14)
 refine Jb 1 R (Je [2, 2, 1, 2, 2, 2, 1, 1, 2] R (Jn 2 R (Ob h fun x33 hx33 h => Jh R R R C31 (i_KeepingOf_ok (κ := fun b => mp [] 0 (K43 b)) (Jl2 f47.rdc (mp [] 0) R R) hx33) ?_)))
 rintro _ w48 ⟨k49, aa, ad, ac, ab, rfl, e50, f51, f52⟩
 obtain ⟨K53, S54, m55⟩ := Ji e50 15 R
 refine ⟨tv, Jn 3 R (Jg1 (κ := K53) 19 R R R R R X33 R fun b9 w59 K60 S61 f62 => ⟨tv, Jj1 (κ := K60) 19 (vc := [.slice aa x33.1.Next.length ad, .slice ac x33.1.Out.length ab]) R R R R R R R Z33 R R f62 R fun w63 S64 f65 => ⟨tv, Jb 1 R (Jq (Je [1, 1, 1, 2, 2, 2, 2, 2, 2] R (Jl tv R R R R (Jd2 (cs := [.slice aa x33.1.Next.length ad, .slice ac x33.1.Out.length ab]) I33 Z33 R R R (haE f65.cells)) ?_)))⟩⟩)⟩
 have f66 := f37.stp (S44.tr (S54.tr (S61.tr S64))) R R
 refine Jl tv R R R R (Jd2 (cs := [.slice ai x25.1.Next.length ah, .slice af x25.1.Out.length ae]) I33 Z33 R R R (haE f66.cells)) (Ob h fun x38 hx38 h => ?_)
 have f67 := (f51.mx (no_own (no_int _) _) m55 R (R : 15 + 2 = 17)).stp (S61.tr S64) R R
 have f68 := (f52.mx (no_own (no_int _) _) m55 R (R : 15 + 3 = 18)).stp (S61.tr S64) R R
 have f69 := (f23.mx (no_own (no_int _) _) m27 R (R : 7 + 2 = 9)).stp (S33.tr (S36.tr (S44.tr (S54.tr (S61.tr S64))))) R R
 have f70 := (f24.mx (no_own (no_int _) _) m27 R (R : 7 + 3 = 10)).stp (S33.tr (S36.tr (S44.tr (S54.tr (S61.tr S64))))) R R
 refine Jh R R R C16 (l_eqMachine_ok (κ := fun b => mp [] 0 (K60 b)) (p0 := x33.1) (p1 := x25.1) (Jl2 f67.rdc (mp [] 0) R R) (Jl2 f68.rdc (mp [] 0) R R) (Jl2 f69.rdc (mp [] 0) R R) (Jl2 f70.rdc (mp [] 0) R R) hx38) ?_
 rintro _ w71 ⟨k72, rfl, e73⟩
 obtain ⟨K74, S75, m76⟩ := Ji e73 20 R
 refine ⟨tv, Jn 2 R (Ob h fun p44 h hK78 => Ju1 [(5, 2), (6, 2), (7, 2), (8, 2)] [] (fun L w' => L = [(0, .slice a0 p0.length u0), (1, vi p1), (6, .pointer (some ⟨b6, 0, none⟩)), (7, .bool x25.2), (8, .slice an x29.length ao), (9, .pointer (some ⟨b9, 0, none⟩)), (10, .bool x33.2), (44, .bool p44)] ∧ ∃ κ', Stp [] K74 w71 κ' w') tv ?_ ?_)⟩
 revert h
 cases ht79 : (!x38)
 refine JF fun h => Jn 2 R (Jf R (rn_neqB R R U4 R) (Jn 1 R ?_))
 cases h
 exact Jv1 _ tv ⟨R, _, (Jx2 _ _).wk R⟩ (KM R)
 refine JT fun h => Jn 4 R ?_
 cases h
 exact Jv1 _ tv ⟨R, _, (Jx2 _ _).wk R⟩ (KM R)
 rintro _ w80 _ ⟨rfl, K81, S82⟩
 have h := hK78
 refine Jd ?_
 revert h
 cases ht83 : p44
 refine JF fun h => Jy R (Js (Jp (Jq (Je [2, 2, 1, 1, 2] R (Jn 2 R (Ob h fun x47 hx47 h => ?_))))))
 have f85 := f38.stp (S44.tr (S54.tr (S61.tr (S64.tr (S75.tr S82))))) R R
 refine Jh R R R C14 (l_toClauseS_ok (κ := fun b => mp [] 0 (K81 b)) (Jl2 f85 (mp [] 0) R R) hx47) ?_
 rintro _ w86 ⟨k87, ar, aq, rfl, e88, f89⟩
 obtain ⟨K90, S91, m92⟩ := Ji e88 22 R
 refine ⟨tv, Ob h fun x48 hx48 h => ?_⟩
 have f95 := f47.stp (S54.tr (S61.tr (S64.tr (S75.tr (S82.tr S91))))) R R
 refine Jh R R R C17 (l_eqClauseS_ok (κ := fun b => mp [] 0 (K90 b)) (Jl2 f95.rdc (mp [] 0) R R) (Jl2 (f89.mx Clause.no71 m92 R (R : 22 + 2 = 24)).rdc (mp [] 0) R R) hx48) ?_
 rintro _ w96 ⟨k97, rfl, e98⟩
 obtain ⟨K99, S100, m101⟩ := Ji e98 25 R
 refine ⟨tv, Jb 1 R ?_⟩
 revert h
 cases ht103 : (!x48)
 refine JF fun h => Jy R (Js (Jp (Je [2] R (Jb 1 R (Je [2, 2, 1, 2] R (Jn 2 R (Ob h fun x52 hx52 h => Jh R R R C22 (l_markClauseS_ok (κ := fun b => mp [(14, 2)] 0 (K99 b)) ((f95.stp S100 R R).map (mp [(14, 2)] 0) R R) hx52) ?_)))))))
 rintro _ w106 ⟨k107, rfl, e108, f109, hn110⟩
 obtain ⟨K111, S112, m113⟩ := Ji e108 27 R
 refine ⟨tv, Jb 1 R (Jq (Je [2, 2, 2, 1, 1, 1, 2, 2, 2, 2, 2, 2, 2] R (Jn 3 R (Ob h fun p60 h hK116 => Ju1 [(3, 1), (4, 1), (5, 1), (6, 2), (7, 2)] [(8, 2), (9, 2), (10, 2), (11, 2), (12, 2)] (fun L w' => L = [(0, .slice a0 p0.length u0), (1, vi p1), (6, .pointer (some ⟨b6, 0, none⟩)), (7, .bool x25.2), (9, .pointer (some ⟨b9, 0, none⟩)), (10, .bool x33.2), (60, .bool p60)] ∧ ∃ κ', Stp [] K111 w106 κ' w') tv ?_ ?_))))⟩
 revert h
 cases ht117 : decide (x52.1 < 0)
 have S001 := (S75.tr (S82.tr (S91.tr (S100.tr S112))))
 refine JF fun h => Jl tv R R R R (Jd2 (cs := [.slice aa x33.1.Next.length ad, .slice ac x33.1.Out.length ab]) I33 Z33 R R R (haE (f65.stp S001 R R).cells)) (Jl tv R R R R (Jd2 (cs := [.slice ai x25.1.Next.length ah, .slice af x25.1.Out.length ae]) I33 Z33 R R R (haE (f66.stp S001 R R).cells)) (Ob h fun x58 hx58 h => Jh R R R C16 (l_eqMachine_ok (κ := fun b => mp [] 0 (K111 b)) (p0 := x33.1) (p1 := x25.1) (Jl2 (f67.stp S001 R R).rdc (mp [] 0) R R) (Jl2 (f68.stp S001 R R).rdc (mp [] 0) R R) (Jl2 (f69.stp S001 R R).rdc (mp [] 0) R R) (Jl2 (f70.stp S001 R R).rdc (mp [] 0) R R) hx58) ?_))
 rintro _ w124 ⟨k125, rfl, e126⟩
 obtain ⟨K127, S128, m129⟩ := Ji e126 30 R
 refine ⟨tv, Jn 2 R ?_⟩
 cases h
 exact Jv1 _ tv ⟨R, _, S128.wk R⟩ (KM R)
 refine JT fun h => Jd1 R R R R (Jd1 R R R R (Jd1 R R R R (Jn 2 R ?_)))
 cases h
 exact Jv1 _ tv ⟨R, _, (Jx2 _ _).wk R⟩ (KM R)
 rintro _ w131 _ ⟨rfl, K132, S133⟩
 have h := hK116
 refine Jn 1 R (Ob h fun p65 h hK134 => Ju1 [(9, 2), (10, 2), (11, 2), (12, 2)] [] (fun L w' => L = [(0, .slice a0 p0.length u0), (1, vi p1), (6, .pointer (some ⟨b6, 0, none⟩)), (7, .bool x25.2), (9, .pointer (some ⟨b9, 0, none⟩)), (65, .bool p65)] ∧ ∃ κ', Stp [] K132 w131 κ' w') tv ?_ ?_)
 revert h
 cases ht135 : p60
 refine JF fun h => Jn 2 R (Jf R (rn_neqB R R U4 R) (Jn 1 R ?_))
 cases h
 exact Jv1 _ tv ⟨R, _, (Jx2 _ _).wk R⟩ (KM R)
 refine JT fun h => Jn 4 R ?_
 cases h
 exact Jv1 _ tv ⟨R, _, (Jx2 _ _).wk R⟩ (KM R)
 rintro _ w136 _ ⟨rfl, K137, S138⟩
 have h := hK134
 refine Jd ?_
 revert h
 cases ht139 : p65
 refine JF fun h => Jy R (Js (Jp (Je [2] R (Jb 1 R (Je [1, 2, 1, 2] R ?_)))))
 have f141 := f65.stp (S75.tr (S82.tr (S91.tr (S100.tr (S112.tr (S133.tr S138)))))) R R
 have S002 := (S75.tr (S82.tr (S91.tr (S100.tr (S112.tr (S133.tr S138))))))
 refine Jl tv R R R R (Jd2 (cs := [.slice aa x33.1.Next.length ad, .slice ac x33.1.Out.length ab]) I33 Z33 R R R (haE f141.cells)) (Jn 1 R (Ob h fun x68 hx68 h => Jh R R R C21 (l_markMachine_ok (κ := fun b => mp [(17, 2), (18, 3)] 0 (K137 b)) (p0 := x33.1) ((f67.stp S002 R R).map (mp [(17, 2), (18, 3)] 0) R R) ((f68.stp S002 R R).map (mp [(17, 2), (18, 3)] 0) R R) hx68) ?_))
 rintro _ w144 ⟨k145, rfl, e146, f147, hn148, f149, hn150⟩
 obtain ⟨K151, S152, m153⟩ := Ji e146 30 R
 refine ⟨tv, ?_⟩
 have f155 := f147.mx (no_own (no_int _) _) m153 R (R : 30 + 2 = 32)
 have f156 := f149.mx (no_own (no_int _) _) m153 R (R : 30 + 3 = 33)
 refine Jb 1 R (Je [2] R (Jb 1 R (Je [1, 2, 1, 2] R ?_)))
 have f157 := f141.stp S152 R R
 refine Jl tv R R R R (Jd2 (cs := [.slice aa x33.1.Next.length ad, .slice ac x33.1.Out.length ab]) I33 Z33 R R R (haE f157.cells)) (Jn 1 R (Ob h fun x71 hx71 h => Jh R R R C32 (Ret.cast (by simp only [(hn148), (hn150), List.cons_append, List.nil_append]) (l_heldMachine_ok (κ := fun b => mp [] 0 (K151 b)) (p0 := (⟨x68.2.1, x68.2.2⟩ : Machine)) (Jl2 f155.rdc (mp [] 0) R R) (Jl2 f156.rdc (mp [] 0) R R) hx71)) ?_))
 rintro _ w158 ⟨k159, rfl, e160⟩
 obtain ⟨K161, S162, m163⟩ := Ji e160 34 R
 refine ⟨tv, Jb 1 R (Jq (Je [2, 2] R (Jb 2 R ?_)))⟩
 revert h
 cases ht165 : decide (x71 < 0)
 refine JF fun h => Jy R (Js (Jp (Jq (Je [2, 2, 2] R (Jb 3 R ?_)))))
 revert h
 cases ht167 : (x71 != x68.1)
 refine JF fun h => Jy R (Js (Jp (Je [2, 1, 2, 1, 2, 2, 2, 1, 1, 2] R (Jn 1 R (Ob h fun x79 hx79 h => Jh R R R C14 (l_toClauseS_ok (κ := fun b => mp [] 0 (K161 b)) (Jl2 (f85.stp (S91.tr (S100.tr (S112.tr (S133.tr (S138.tr (S152.tr S162)))))) R R) (mp [] 0) R R) hx79) ?_)))))
 rintro _ w170 ⟨k171, ap, av, rfl, e172, f173⟩
 obtain ⟨K174, S175, m176⟩ := Ji e172 36 R
 refine ⟨tv, Jn 1 R (Ob h fun x81 hx81 h => Jh R R R C31 (i_KeepingOf_ok (κ := fun b => mp [] 0 (K174 b)) (Jl2 (f173.mx Clause.no71 m176 R (R : 36 + 2 = 38)).rdc (mp [] 0) R R) hx81) ?_)⟩
 rintro _ w179 ⟨k180, al, ak, am, aj, rfl, e181, f182, f183⟩
 obtain ⟨K184, S185, m186⟩ := Ji e181 39 R
 have S003 := (S75.tr (S82.tr (S91.tr (S100.tr (S112.tr (S133.tr (S138.tr (S152.tr (S162.tr (S175.tr S185))))))))))
 refine ⟨tv, Jn 3 R (Jg1 (κ := K184) 43 R R R R R X33 R fun b14 w190 K191 S192 f193 => ⟨tv, Jj1 (κ := K191) 43 (vc := [.slice al x81.1.Next.length ak, .slice am x81.1.Out.length aj]) R R R R R R R Z33 R R f193 R fun w194 S195 f196 => ⟨tv, Jb 1 R (Jq (Je [1, 1, 1, 2, 2, 2, 2, 2, 2] R (Jl tv R R R R (Jd2 (cs := [.slice al x81.1.Next.length ak, .slice am x81.1.Out.length aj]) I33 Z33 R R R (haE f196.cells)) (Jl tv R R R R (Jd2 (cs := [.slice ai x25.1.Next.length ah, .slice af x25.1.Out.length ae]) I33 Z33 R R R (haE (f66.stp (S003.tr (S192.tr S195)) R R).cells)) (Ob h fun x86 hx86 h => Jh R R R C16 (l_eqMachine_ok (κ := fun b => mp [] 0 (K191 b)) (p0 := x81.1) (p1 := x25.1) (Jl2 ((f182.mx (no_own (no_int _) _) m186 R (R : 39 + 2 = 41)).stp (S192.tr S195) R R).rdc (mp [] 0) R R) (Jl2 ((f183.mx (no_own (no_int _) _) m186 R (R : 39 + 3 = 42)).stp (S192.tr S195) R R).rdc (mp [] 0) R R) (Jl2 (f69.stp (S003.tr (S192.tr S195)) R R).rdc (mp [] 0) R R) (Jl2 (f70.stp (S003.tr (S192.tr S195)) R R).rdc (mp [] 0) R R) hx86) ?_)))))⟩⟩)⟩
 rintro _ w202 ⟨k203, rfl, e204⟩
 obtain ⟨K205, S206, m207⟩ := Ji e204 44 R
 refine ⟨tv, Jn 2 R (Ob h fun p92 h hK209 => Ju1 [(5, 2), (6, 2), (7, 2), (8, 2)] [] (fun L w' => L = [(9, .pointer (some ⟨b9, 0, none⟩)), (12, vi x68.1), (92, .bool p92)] ∧ ∃ κ', Stp [] K205 w202 κ' w') tv ?_ ?_)⟩
 revert h
 cases ht210 : (!x86)
 refine JF fun h => Jn 2 R (Jf R (rn_neqB R R U4 R) (Jn 1 R ?_))
 cases h
 exact Jv1 _ tv ⟨R, _, (Jx2 _ _).wk R⟩ (KM R)
 refine JT fun h => Jn 4 R ?_
 cases h
 exact Jv1 _ tv ⟨R, _, (Jx2 _ _).wk R⟩ (KM R)
 rintro _ w211 _ ⟨rfl, K212, S213⟩
 have h := hK209
 refine Jd ?_
 revert h
 cases ht214 : p92
 have S004 := (S162.tr (S175.tr (S185.tr (S192.tr (S195.tr (S206.tr S213))))))
 refine JF fun h => Jy R (Js (Jp (Je [2] R (Jb 1 R (Je [1, 2, 1, 2] R (Jl tv R R R R (Jd2 (cs := [.slice aa x33.1.Next.length ad, .slice ac x33.1.Out.length ab]) I33 Z33 R R R (haE (f157.stp S004 R R).cells)) (Jn 1 R (Ob h fun x95 hx95 h => Jh R R R C32 (Ret.cast (by simp only [(hn148), (hn150), List.cons_append, List.nil_append]) (l_heldMachine_ok (κ := fun b => mp [] 0 (K212 b)) (p0 := (⟨x68.2.1, x68.2.2⟩ : Machine)) (Jl2 (f155.stp S004 R R).rdc (mp [] 0) R R) (Jl2 (f156.stp S004 R R).rdc (mp [] 0) R R) hx95)) ?_))))))))
 rintro _ w219 ⟨k220, rfl, e221⟩
 obtain ⟨K222, S223, m224⟩ := Ji e221 46 R
 refine ⟨tv, Jb 1 R (Jq (Je [2, 2] R (Jb 2 R ?_)))⟩
 revert h
 cases ht226 : decide (x95 < 0)
 refine JF fun h => Jy R (Js (Jp (Jq (Je [2, 2, 2] R (Jb 3 R ?_)))))
 revert h
 cases ht228 : (x95 != x68.1)
 refine JF fun h => Jy R (Js (Jp (Je [2] R (Jb 1 R (Ju (Ja2 (l := [.tmp 4]) V6 (Jp2 R R) R ?_))))))
 cases h
 exact ⟨K222, R, (hE.stp (S5.tr (S16.tr (S26.tr (S33.tr (S36.tr (S44.tr (S54.tr (S61.tr (S64.tr (S75.tr (S82.tr (S91.tr (S100.tr (S112.tr (S133.tr (S138.tr (S152.tr (S162.tr (S175.tr (S185.tr (S192.tr (S195.tr (S206.tr (S213.tr S223)))))))))))))))))))))))) R R)⟩
 refine JT fun h => Jx R (Je [2] R (Jb 1 R (Ju (Jw (Ja2 (l := [.tmp 4]) V6 (Jp2 R R) R ?_)))))
 cases h
 exact ⟨K222, R, (hE.stp (S5.tr (S16.tr (S26.tr (S33.tr (S36.tr (S44.tr (S54.tr (S61.tr (S64.tr (S75.tr (S82.tr (S91.tr (S100.tr (S112.tr (S133.tr (S138.tr (S152.tr (S162.tr (S175.tr (S185.tr (S192.tr (S195.tr (S206.tr (S213.tr S223)))))))))))))))))))))))) R R)⟩
 refine JT fun h => Jx R (Je [2] R (Jb 1 R (Ju (Jw (Ja2 (l := [.tmp 4]) V6 (Jp2 R R) R ?_)))))
 cases h
 exact ⟨K222, R, (hE.stp (S5.tr (S16.tr (S26.tr (S33.tr (S36.tr (S44.tr (S54.tr (S61.tr (S64.tr (S75.tr (S82.tr (S91.tr (S100.tr (S112.tr (S133.tr (S138.tr (S152.tr (S162.tr (S175.tr (S185.tr (S192.tr (S195.tr (S206.tr (S213.tr S223)))))))))))))))))))))))) R R)⟩
 refine JT fun h => Jx R (Je [2] R (Jb 1 R (Ju (Jw (Ja2 (l := [.tmp 4]) V6 (Jp2 R R) R ?_)))))
 cases h
 exact ⟨K212, R, (hE.stp (S5.tr (S16.tr (S26.tr (S33.tr (S36.tr (S44.tr (S54.tr (S61.tr (S64.tr (S75.tr (S82.tr (S91.tr (S100.tr (S112.tr (S133.tr (S138.tr (S152.tr (S162.tr (S175.tr (S185.tr (S192.tr (S195.tr (S206.tr S213))))))))))))))))))))))) R R)⟩
 refine JT fun h => Jx R (Je [2] R (Jb 1 R (Ju (Jw (Ja2 (l := [.tmp 4]) V6 (Jp2 R R) R ?_)))))
 cases h
 exact ⟨K161, R, (hE.stp (S5.tr (S16.tr (S26.tr (S33.tr (S36.tr (S44.tr (S54.tr (S61.tr (S64.tr (S75.tr (S82.tr (S91.tr (S100.tr (S112.tr (S133.tr (S138.tr (S152.tr S162))))))))))))))))) R R)⟩
 refine JT fun h => Jx R (Je [2] R (Jb 1 R (Ju (Jw (Ja2 (l := [.tmp 4]) V6 (Jp2 R R) R ?_)))))
 cases h
 exact ⟨K161, R, (hE.stp (S5.tr (S16.tr (S26.tr (S33.tr (S36.tr (S44.tr (S54.tr (S61.tr (S64.tr (S75.tr (S82.tr (S91.tr (S100.tr (S112.tr (S133.tr (S138.tr (S152.tr S162))))))))))))))))) R R)⟩
 refine JT fun h => Jx R (Je [2] R (Jb 1 R (Ju (Jw (Ja2 (l := [.tmp 4]) V6 (Jp2 R R) R ?_)))))
 cases h
 exact ⟨K137, R, (hE.stp (S5.tr (S16.tr (S26.tr (S33.tr (S36.tr (S44.tr (S54.tr (S61.tr (S64.tr (S75.tr (S82.tr (S91.tr (S100.tr (S112.tr (S133.tr S138))))))))))))))) R R)⟩
 refine JT fun h => Jx R (Je [2] R (Jb 1 R (Ju (Jw (Ja2 (l := [.tmp 4]) V6 (Jp2 R R) R ?_)))))
 cases h
 exact ⟨K99, R, (hE.stp (S5.tr (S16.tr (S26.tr (S33.tr (S36.tr (S44.tr (S54.tr (S61.tr (S64.tr (S75.tr (S82.tr (S91.tr S100)))))))))))) R R)⟩
 refine JT fun h => Jx R (Je [2] R (Jb 1 R (Ju (Jw (Ja2 (l := [.tmp 4]) V6 (Jp2 R R) R ?_)))))
 cases h
 exact ⟨K81, R, (hE.stp (S5.tr (S16.tr (S26.tr (S33.tr (S36.tr (S44.tr (S54.tr (S61.tr (S64.tr (S75.tr S82)))))))))) R R)⟩
 refine JT fun h => Jx R (Je [2] R (Jb 1 R (Ju (Jw (Ja2 (l := [.tmp 4]) V6 (Jp2 R R) R ?_)))))
 cases h
 exact ⟨K4, R, (hE.stp S5 R R)⟩
end Go.Proofs.YtcmamhmpoinmnaaGreat
