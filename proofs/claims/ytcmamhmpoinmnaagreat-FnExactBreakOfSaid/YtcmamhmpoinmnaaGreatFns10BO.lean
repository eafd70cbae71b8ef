/- The walks, part 10. By program. -/
import Derived.Test.YtcmamhmpoinmnaaGreatFns9BO
set_option linter.unusedVariables false
set_option linter.unusedSimpArgs false
namespace Go.Proofs.YtcmamhmpoinmnaaGreat
open Go Go.Wk Go.Proofs
set_option maxRecDepth 100000
set_option maxHeartbeats 1000000
theorem s_l30All_ok {w : World} {κ : Col} {p0 : Sig} {ab aa ad ac} {p1 : Machine} {a2 u2} {p2 : (List Clause)} (g1_0 : Rd (Rp.sl (Rp.int .i64)) κ w 0 ab aa p1.Next) (g1_1 : Rd (Rp.sl (Rp.int .i64)) κ w 0 ad ac p1.Out) (g2 : Rd Clause.rp κ w 0 a2 u2 p2) {r : (List (List Int)) × (List Pair) × Bool} (h : s_l30All p0 p1 p2 = some r) : Ret Tryz.prog 49 [.agg #[vi p0.In, vi p0.Out], .agg #[.slice ab p1.Next.length aa, .slice ad p1.Out.length ac], .slice a2 p2.length u2] w (fun v w' => ∃ (κ' : Col) (ra0 : Option Addr) (ru0 : Nat) (ra1 : Option Addr) (ru1 : Nat), v = .tuple #[.slice ra0 r.1.length ru0, .slice ra1 r.2.1.length ru1, .bool r.2.2] ∧ Ent κ w κ' w' ∧ Oc (Ep.own E6 2) 40 κ' w' 2 ra0 ru0 r.1 ∧ Oc Pair.ep92 92 κ' w' 3 ra1 ru1 r.2.1) := by
 unfold s_l30All at h
 refine Ret.enter F49 R N49 R ?_
 dsimp only [envOf]
 have hE := Ent.refl κ w
 refine Je [1, 1, 2, 2, 2] R (Jf1 (κ := κ) 2 R R R R R R R fun b3 w1 K2 S3 f4 => ⟨tv, Jf1 (κ := K2) 3 R R R R R R R fun b4 w5 K6 S7 f8 => ⟨tv, Jb 3 R (Je [1, 2, 1, 2, 2, 2, 1, 1, 2] R ?_)⟩⟩)
 have f9 := f4.stp S7 R R
 refine Jl tv R R R R (Jd2 (cs := [vi p0.In, vi p0.Out]) I31 Z31 R R R (haE f9.cells)) (Jn 1 R (Ob h fun x14 hx14 h => Jh R R R C59 (s_ProductOf_ok (κ := fun b => mp [] 0 (K6 b)) (p0 := p0) (Jl2 (g2.stp (S3.tr S7) R R) (mp [] 0) R R) hx14) ?_))
 rintro _ w11 ⟨k12, af, ae, ah, ai, rfl, e13, f14, f15⟩
 obtain ⟨K16, S17, m18⟩ := Ji e13 4 R
 refine ⟨tv, Jn 3 R (Jg1 (κ := K16) 8 R R R R R X94 R fun b9 w22 K23 S24 f25 => ⟨tv, Jj1 (κ := K23) 8 (vc := [.slice af x14.1.Next.length ae, .slice ah x14.1.Pairs.length ai]) R R R R R R R Z94 R R f25 R fun w26 S27 f28 => ⟨tv, Jb 1 R (Jq (Je [2, 2] R (Jb 2 R ?_)))⟩⟩)⟩
 revert h
 cases ht29 : (!x14.2)
 have S001 := (S3.tr (S7.tr (S17.tr (S24.tr S27))))
 refine JF fun h => Jy R (Js (Jp (Je [1, 1, 1, 1, 2, 2, 2, 2, 2, 2] R (Jl tv R R R R (Jd2 (cs := [vi p0.In, vi p0.Out]) I31 Z31 R R R (haE (f9.stp (S17.tr (S24.tr S27)) R R).cells)) (Jl tv R R R R (Jd2 (cs := [.slice ab p1.Next.length aa, .slice ad p1.Out.length ac]) I33 Z33 R R R (haE (f8.stp (S17.tr (S24.tr S27)) R R).cells)) (Jl tv R R R R (Jd2 (cs := [.slice af x14.1.Next.length ae, .slice ah x14.1.Pairs.length ai]) I94 Z94 R R R (haE f28.cells)) (Ob h fun x24 hx24 h => Jh R R R C105 (s_WatchOf_ok (κ := fun b => mp [] 0 (K23 b)) (p0 := p0) (p1 := p1) (p2 := x14.1) (Jl2 (g1_0.stp S001 R R) (mp [] 0) R R) (Jl2 (g1_1.stp S001 R R) (mp [] 0) R R) (Jl2 ((f14.mx (no_own (no_int _) _) m18 R (R : 4 + 2 = 6)).stp (S24.tr S27) R R).rdc (mp [] 0) R R) (Jl2 ((f15.mx Pair.no92 m18 R (R : 4 + 3 = 7)).stp (S24.tr S27) R R).rdc (mp [] 0) R R) hx24) ?_)))))))
 rintro _ w46 ⟨k47, aj, an, al, ak, rfl, e48, f49, f50⟩
 obtain ⟨K51, S52, m53⟩ := Ji e48 9 R
 refine ⟨tv, Jb 6 R (Ju (Ja2 (l := [.tmp 6, .tmp 7, .tmp 8]) V49 (Jp2 R (Jp2 R (Jp2 R R))) R ?_))⟩
 cases h
 exact ⟨(fun b => ren [(11, 2), (12, 3)] (K51 b)), aj, an, al, ak, R, ((hE.stp (S3.tr (S7.tr (S17.tr (S24.tr (S27.tr S52))))) R R).map (ren [(11, 2), (12, 3)]) R R), ((f49.mx (no_own (no_int _) _) m53 R (R : 9 + 2 = 11)).map (ren [(11, 2), (12, 3)]) R R), ((f50.mx Pair.no92 m53 R (R : 9 + 3 = 12)).map (ren [(11, 2), (12, 3)]) R R)⟩
 refine JT fun h => Jx R (Je [1, 1, 2, 2, 2] R (Jo1 (κ := K23) (E := (Ep.own E6 2)) 9 R R R R R Y24 Tryzinfo40 R fun ao ap w30 K31 S32 f33 => ⟨tv, Jo1 (κ := K31) (E := Pair.ep92) 10 R R R R R Y79 Tryzinfo92 R fun aq am w34 K35 S36 f37 => ⟨tv, Jb 3 R (Ju (Jw (Ja2 (l := [.tmp 6, .tmp 7, .tmp 8]) V49 (Jp2 R (Jp2 R (Jp2 R R))) R ?_)))⟩⟩))
 cases h
 exact ⟨(fun b => ren [(9, 2), (10, 3)] (K35 b)), ao, ap, aq, am, R, ((hE.stp (S3.tr (S7.tr (S17.tr (S24.tr (S27.tr (S32.tr S36)))))) R R).map (ren [(9, 2), (10, 3)]) R R), ((f33.stp S36 R R).map (ren [(9, 2), (10, 3)]) R R), (f37.map (ren [(9, 2), (10, 3)]) R R)⟩
theorem s_BreaksIn_ok {w : World} {κ : Col} {p0 : Sig} {aj al an ao} {p1 : Machine} {a2 u2} {p2 : (List Clause)} (g1_0 : Rd (Rp.sl (Rp.int .i64)) κ w 0 aj al p1.Next) (g1_1 : Rd (Rp.sl (Rp.int .i64)) κ w 0 an ao p1.Out) (g2 : Rd Clause.rp κ w 0 a2 u2 p2) {r : (List Int)} (h : s_BreaksIn p0 p1 p2 = some r) : Ret Tryz.prog 18 [.agg #[vi p0.In, vi p0.Out], .agg #[.slice aj p1.Next.length al, .slice an p1.Out.length ao], .slice a2 p2.length u2] w (fun v w' => ∃ (κ' : Col) (ra0 : Option Addr) (ru0 : Nat), v = .slice ra0 r.length ru0 ∧ Ent κ w κ' w' ∧ Oc E6 2 κ' w' 2 ra0 ru0 r) := by
 unfold s_BreaksIn at h
 refine Ret.enter F18 R N18 R ?_
 dsimp only [envOf]
 have hE := Ent.refl κ w
 refine Je [1, 1, 2] R (Jf1 (κ := κ) 2 R R R R R R R fun b3 w1 K2 S3 f4 => ⟨tv, Jf1 (κ := K2) 3 R R R R R R R fun b4 w5 K6 S7 f8 => ⟨tv, Jb 1 R (Je [1, 2] R (Jo1 (κ := K6) (E := E6) 4 R R R R R Y40 Tryzinfo2 R fun ap aq w9 K10 S11 f12 => ⟨tv, Jb 1 R (Je [1, 1, 2, 1, 2, 2, 2, 2, 2, 2, 2] R (Jl tv R R R R (Jd2 (cs := [vi p0.In, vi p0.Out]) I31 Z31 R R R (haE (f4.stp (S7.tr S11) R R).cells)) (Jl tv R R R R (Jd2 (cs := [.slice aj p1.Next.length al, .slice an p1.Out.length ao]) I33 Z33 R R R (haE (f8.stp S11 R R).cells)) (Jn 1 R (Ob h fun x17 hx17 h => Jh R R R C49 (s_l30All_ok (κ := fun b => mp [] 0 (K10 b)) (p0 := p0) (p1 := p1) (Jl2 (g1_0.stp (S3.tr (S7.tr S11)) R R) (mp [] 0) R R) (Jl2 (g1_1.stp (S3.tr (S7.tr S11)) R R) (mp [] 0) R R) (Jl2 (g2.stp (S3.tr (S7.tr S11)) R R) (mp [] 0) R R) hx17) ?_)))))⟩))⟩⟩)
 rintro _ w18 ⟨k19, am, ai, ah, ak, rfl, e20, f21, f22⟩
 obtain ⟨K23, S24, m25⟩ := Ji e20 5 R
 refine ⟨tv, ?_⟩
 have f28 := f22.mx Pair.no92 m25 R (R : 5 + 3 = 8)
 refine Jb 7 R (Jq (Je [2] R (Jb 1 R (Ob h fun q2 hq31 hK30 => ?_))))
 clear h
 refine Jx1 (fun L w' => ∃ κ', ∃ s3 : (List Int) × Int, ∃ ae af, L = [(7, .slice ae s3.1.length af)] ∧ Stp [4] K23 w18 κ' w' ∧ Oc E6 2 κ' w' 4 ae af s3.1 ∧ q2 = Sum.inr s3) ?_ ?_
 refine Jv (Jy1 (fun k L w' => ∃ κ', ∃ s1 : (List Int) × Int, ∃ aa ab, L = [(7, .slice aa s1.1.length ab), (8, .slice am x17.1.length ai), (9, .slice ah x17.2.1.length ak), (10, .bool x17.2.2), (11, vi s1.2)] ∧ Stp [4] K23 w18 κ' w' ∧ Oc E6 2 κ' w' 4 aa ab s1.1 ∧ whileM (s_BreaksIn_b0 x17) k s1 = some q2) ⟨_, _, ⟨K23, ((([] : List Int) : (List Int)), (0 : Int)), ap, aq, R, (Jx2 _ _).wk R, (f12.stp S24 R R), hq31⟩, (KM R)⟩ ?_)
 rintro k _ w36 ⟨K37, s1, aa, ab, rfl, S38, f39, h⟩
 rcases k with _ | k
 cases h
 obtain ⟨o29, h, hk41⟩ := BI h; unfold s_BreaksIn_b0 at h
 refine Jq (Je [2, 2, 2, 2, 2, 2, 2] R (Jn 2 R (Ob h fun p27 h hK42 => Ju1 [(2, 2), (3, 2), (4, 2), (5, 2), (6, 2)] [] (fun L w' => L = [(7, .slice aa s1.1.length ab), (8, .slice am x17.1.length ai), (9, .slice ah x17.2.1.length ak), (10, .bool x17.2.2), (11, vi s1.2), (27, .bool p27)] ∧ ∃ κ', Stp [] K37 w36 κ' w') tv ?_ ?_)))
 revert h
 cases ht43 : x17.2.2
 refine JF fun h => Jn 5 R ?_
 cases h
 exact Jv1 _ tv ⟨R, _, (Jx2 _ _).wk R⟩ (KM R)
 refine JT fun h => Jn 2 R (Jf R (Je2 U79 R R) (Jn 2 R ?_))
 cases h
 exact Jv1 _ tv ⟨R, _, (Jx2 _ _).wk R⟩ (KM R)
 rintro _ w44 _ ⟨rfl, K45, S46⟩
 have h := hK42
 refine Jd ?_
 revert h
 cases ht47 : p27
 refine JF fun h => Jy R (Jc1 (Jt (Jt ?_)))
 cases h
 have h := hk41
 refine Jb1 ?_
 cases h
 exact Jw1 _ ⟨K45, ((s1.1 : (List Int)), (s1.2 : Int)), aa, ab, R, (S38.tr S46).wk R, (f39.stp S46 R R), R⟩ (KM R)
 refine JT fun h => Jx R (Js (Jp (Jq (Jv (Je [2, 2, 2, 2, 1, 1, 2] R (Jn 3 R (Ob h fun x33 hx33 h => Jf R (Jf2 f28.rdc hx33 U79 Z92 R R R R) ?_)))))))
 obtain ⟨cse49, hre49, hle49⟩ := ((f28.stp (S38.tr S46) R R).rdc).gSt hx33
 obtain ⟨ae49_0, ue49_0, ae49_1, ue49_1, rfl, fe49_0, fe49_1⟩ := Pair.un hre49
 refine Jl tv R R R R (Jd2 (cs := [.slice ae49_0 x33.Ask.length ue49_0, .slice ae49_1 x33.Give.length ue49_1]) I92 Z92 R R R (haE hle49)) (Ob h fun x35 hx35 h => Jh R R R C56 (s_l30Broken_ok (κ := fun b => mp [] 0 (K45 b)) (p1 := x33) (Jl2 ((f21.mx (no_own (no_int _) _) m25 R (R : 5 + 2 = 7)).stp (S38.tr S46) R R).rdc (mp [] 0) R R) (Jl2 fe49_0 (mp [] 0) R R) (Jl2 fe49_1 (mp [] 0) R R) hx35) ?_)
 rintro _ w51 ⟨k52, rfl, e53⟩
 obtain ⟨K54, S55, m56⟩ := Ji e53 9 R
 refine ⟨tv, Jb 1 R (Ob h fun q4 h hK58 => Jx1 (fun L w' => ∃ κ' ac ad, L = [(7, .slice ac q4.length ad), (8, .slice am x17.1.length ai), (9, .slice ah x17.2.1.length ak), (10, .bool x17.2.2), (11, vi s1.2)] ∧ Stp [4] K54 w51 κ' w' ∧ Oc E6 2 κ' w' 4 ac ad q4) ?_ ?_)⟩
 revert h
 cases ht63 : decide (0 ≤ x35)
 refine JF fun h => Jy R (Js ?_)
 cases h
 exact Jw1 _ ⟨K54, aa, ab, R, (Jx2 _ _).wk R, (f39.stp (S46.tr S55) R R)⟩ (KM R)
 refine JT fun h => Jx R (Ja [2, 2, 1, 1, 2] R (Jn 2 R (Jn1 (κ := K54) (E := E6) 11 [] (parts := [(0, .tmp 38)]) (cells := [vi s1.2]) (xs := ([s1.2] : List Int)) R R R R R R Y40 Tryzinfo2 R R R R R R R R R R ⟨[vi s1.2], [], Zl K54 w51 [], Zl K54 w51 [], R, Zl.sp (l1 := []) (l2 := []) R, Zl.sr (l1 := []) (l2 := []), R, R⟩ fun av aw w64 K65 S66 f67 => ⟨tv, Ob h fun x40 hx40 h => Jm1 (κ := K65) (E := E6) 4 [] R R R R R R R R R Y40 Tryzinfo2 R R R R (f39.stp (S46.tr (S55.tr S66)) R R) (Sl.srcP (pu_int _) f67.rdc) sy_false hx40 R fun au ar w69 K70 S71 f72 => ⟨tv, Jc 1 R ?_⟩⟩)))
 cases h
 exact Jw1 _ ⟨K70, au, ar, R, (S66.tr S71).wk R, f72⟩ (KM R)
 rintro _ w59 ⟨K60, ac, ad, rfl, S61, f62⟩
 have h := hK58
 refine Jz (Jp (Ja [2, 2, 2] R (Jc 3 R ?_)))
 cases h
 exact Jz1 fun a ha => ⟨k, _, Ja3 _, ⟨K60, ((q4 : (List Int)), ((IntKind.i64.wrap (s1.2 + 1)) : Int)), ac, ad, R, (S38.tr (S46.tr (S55.tr S61))).wk R, f62, hk41⟩, (ha.mm R)⟩
 rintro _ w32 ⟨K33, s3, ae, af, rfl, S34, f35, rfl⟩
 have h := hK30
 dsimp only [aft] at h
 refine Jp (Je [2, 2] R (Jb 2 R (Ju (Ja2 (l := [.tmp 6]) V18 (Jp2 R R) R ?_))))
 cases h
 exact ⟨(fun b => ren [(4, 2)] (K33 b)), ae, af, R, ((hE.stp (S3.tr (S7.tr (S11.tr (S24.tr S34)))) R R).map (ren [(4, 2)]) R R), (f35.map (ren [(4, 2)]) R R)⟩
theorem s_BreakOf_ok {w : World} {κ : Col} {p0 : Sig} {aa ab ac ad} {p1 : Machine} {a2 u2} {p2 : (List Clause)} (g1_0 : Rd (Rp.sl (Rp.int .i64)) κ w 0 aa ab p1.Next) (g1_1 : Rd (Rp.sl (Rp.int .i64)) κ w 0 ac ad p1.Out) (g2 : Rd Clause.rp κ w 0 a2 u2 p2) {r : Word × Bool} (h : s_BreakOf p0 p1 p2 = some r) : Ret Tryz.prog 43 [.agg #[vi p0.In, vi p0.Out], .agg #[.slice aa p1.Next.length ab, .slice ac p1.Out.length ad], .slice a2 p2.length u2] w (fun v w' => ∃ (κ' : Col) (ra0 : Option Addr) (ru0 : Nat) (ra1 : Option Addr) (ru1 : Nat), v = .tuple #[.agg #[.slice ra0 r.1.Stem.length ru0, .slice ra1 r.1.Loop.length ru1], .bool r.2] ∧ Ent κ w κ' w' ∧ Oc E6 2 κ' w' 2 ra0 ru0 r.1.Stem ∧ Oc E6 2 κ' w' 3 ra1 ru1 r.1.Loop) := by
 unfold s_BreakOf at h
 refine Ret.enter F43 R N43 R ?_
 dsimp only [envOf]
 have hE := Ent.refl κ w
 refine Je [1, 1, 1, 2] R (Jf1 (κ := κ) 2 R R R R R R R fun b3 w1 K2 S3 f4 => ⟨tv, Jf1 (κ := K2) 3 R R R R R R R fun b4 w5 K6 S7 f8 => ⟨tv, Jg1 (κ := K6) 4 R R R R R X65 R fun b6 w9 K10 S11 f12 => ⟨tv, Jb 1 R (Je [1, 1, 2, 1, 2] R ?_)⟩⟩⟩)
 have f13 := f4.stp (S7.tr S11) R R
 refine Jl tv R R R R (Jd2 (cs := [vi p0.In, vi p0.Out]) I31 Z31 R R R (haE f13.cells)) ?_
 have f14 := f8.stp S11 R R
 refine Jl tv R R R R (Jd2 (cs := [.slice aa p1.Next.length ab, .slice ac p1.Out.length ad]) I33 Z33 R R R (haE f14.cells)) (Jn 1 R (Ob h fun x20 hx20 h => ?_))
 have f15 := g1_0.stp (S3.tr (S7.tr S11)) R R
 have f16 := g1_1.stp (S3.tr (S7.tr S11)) R R
 have f17 := g2.stp (S3.tr (S7.tr S11)) R R
 refine Jh R R R C18 (s_BreaksIn_ok (κ := fun b => mp [] 0 (K10 b)) (p0 := p0) (p1 := p1) (Jl2 f15 (mp [] 0) R R) (Jl2 f16 (mp [] 0) R R) (Jl2 f17 (mp [] 0) R R) hx20) ?_
 rintro _ w18 ⟨k19, ax, ak, rfl, e20, f21⟩
 obtain ⟨K22, S23, m24⟩ := Ji e20 5 R
 refine ⟨tv, ?_⟩
 have f26 := f21.mx (no_int _) m24 R (R : 5 + 2 = 7)
 refine Jb 1 R (Jq (Je [2, 2, 2] R (Jn 1 R (Jf R (Je2 U40 R R) (Jb 1 R ?_)))))
 revert h
 cases ht27 : ((x20.length : Int) == 0)
 refine JF fun h => Jy R (Js (Jp (Je [1, 1, 2, 1, 2, 2, 2, 2, 2, 2, 2] R ?_)))
 have f33 := f13.stp S23 R R
 refine Jl tv R R R R (Jd2 (cs := [vi p0.In, vi p0.Out]) I31 Z31 R R R (haE f33.cells)) ?_
 have f34 := f14.stp S23 R R
 refine Jl tv R R R R (Jd2 (cs := [.slice aa p1.Next.length ab, .slice ac p1.Out.length ad]) I33 Z33 R R R (haE f34.cells)) (Jn 1 R (Ob h fun x29 hx29 h => ?_))
 have f35 := f15.stp S23 R R
 have f36 := f16.stp S23 R R
 refine Jh R R R C49 (s_l30All_ok (κ := fun b => mp [] 0 (K22 b)) (p0 := p0) (p1 := p1) (Jl2 f35 (mp [] 0) R R) (Jl2 f36 (mp [] 0) R R) (Jl2 (f17.stp S23 R R) (mp [] 0) R R) hx29) ?_
 rintro _ w38 ⟨k39, aC, aD, aA, ay, rfl, e40, f41, f42⟩
 obtain ⟨K43, S44, m45⟩ := Ji e40 8 R
 refine ⟨tv, ?_⟩
 have f48 := f42.mx Pair.no92 m45 R (R : 8 + 3 = 11)
 refine Jb 7 R (Je [2, 2, 2, 1, 2, 1, 1, 1] R (Jn 2 R (Ob h fun x35 hx35 h => Jf R (Jf2 f26.rdc hx35 U40 Z2 R R R R) (Jl tv R R R R (Jc2 I2 R R (hvE ((f26.stp S44 R R).rdc.gInt hx35))) (Ob h fun x37 hx37 h => Jf R (Jf2 f48.rdc hx37 U79 Z92 R R R R) ?_)))))
 obtain ⟨cse50, hre50, hle50⟩ := (f48.rdc).gSt hx37
 obtain ⟨ae50_0, ue50_0, ae50_1, ue50_1, rfl, fe50_0, fe50_1⟩ := Pair.un hre50
 refine Jl tv R R R R (Jd2 (cs := [.slice ae50_0 x37.Ask.length ue50_0, .slice ae50_1 x37.Give.length ue50_1]) I92 Z92 R R R (haE hle50)) (Jg1 (κ := K43) 12 R R R R R X92 R fun b12 w51 K52 S53 f54 => ⟨tv, Jj1 (κ := K52) 12 (vc := [.slice ae50_0 x37.Ask.length ue50_0, .slice ae50_1 x37.Give.length ue50_1]) R R R R R R R Z92 R R f54 R fun w55 S56 f57 => ⟨tv, Jd (Je [2, 1, 1, 2] R (Jn 1 R (Jl tv R R R R (Jd2 (cs := [.slice ae50_0 x37.Ask.length ue50_0, .slice ae50_1 x37.Give.length ue50_1]) I92 Z92 R R R (haE f57.cells)) (Ob h fun x41 hx41 h => ?_))))⟩⟩)
 have f58 := (f41.mx (no_own (no_int _) _) m45 R (R : 8 + 2 = 10)).stp (S53.tr S56) R R
 have f60 := fe50_1.stp (S53.tr S56) R R
 refine Jh R R R C56 (s_l30Broken_ok (κ := fun b => mp [] 0 (K52 b)) (p1 := x37) (Jl2 f58.rdc (mp [] 0) R R) (Jl2 (fe50_0.stp (S53.tr S56) R R) (mp [] 0) R R) (Jl2 f60 (mp [] 0) R R) hx41) ?_
 rintro _ w61 ⟨k62, rfl, e63⟩
 obtain ⟨K64, S65, m66⟩ := Ji e63 13 R
 refine ⟨tv, Jb 1 R (Je [2, 2, 2, 2, 1, 1, 2, 1, 1, 2] R (Jn 3 R (Jf R (Je2 U24 R R) (Jo1 (κ := K64) (E := E6) 15 R R R R R Y40 Tryzinfo2 R fun am av w68 K69 S70 f71 => ⟨tv, Ob h fun x47 hx47 h => Jh R R R C104 (s_l30May_ok (κ := fun b => mp [] 0 (K69 b)) (Jl2 f71.rdc (mp [] 0) R R) hx47) ?_⟩))))⟩
 rintro _ w72 ⟨k73, aB, au, rfl, e74, f75⟩
 obtain ⟨K76, S77, m78⟩ := Ji e74 16 R
 refine ⟨tv, Jn 1 R (Ob h fun x49 hx49 h => ?_)⟩
 have f81 := f58.stp (S65.tr (S70.tr S77)) R R
 refine Jh R R R C103 (s_l30Far_ok (κ := fun b => mp [] 0 (K76 b)) (Jl2 f81.rdc (mp [] 0) R R) (Jl2 (f75.mx no_bool m78 R (R : 16 + 2 = 18)).rdc (mp [] 0) R R) hx49) ?_
 rintro _ w82 ⟨k83, aq, an, rfl, e84, f85⟩
 obtain ⟨K86, S87, m88⟩ := Ji e84 19 R
 refine ⟨tv, Ob h fun x50 hx50 h => ?_⟩
 have f91 := f81.stp S87 R R
 refine Jh R R R C102 (s_l30Way_ok (κ := fun b => mp [] 0 (K86 b)) (Jl2 f91.rdc (mp [] 0) R R) (Jl2 (f85.mx (no_int _) m88 R (R : 19 + 2 = 21)).rdc (mp [] 0) R R) hx50) ?_
 rintro _ w92 ⟨k93, az, ar, rfl, e94, f95⟩
 obtain ⟨K96, S97, m98⟩ := Ji e94 22 R
 have S001 := (S65.tr (S70.tr (S77.tr (S87.tr S97))))
 refine ⟨tv, Jb 1 R (Je [2, 2, 2, 2, 2, 1, 1, 2, 1, 2, 1, 2] R (Jn 3 R (Jf R (Je2 U24 R R) (Jf R (Jb2 U92 R Z40 R R) (Jl tv R R R R (Jc2 I40 R R (hvE ((f57.stp S001 R R).ld 1 R R))) (Ob h fun x57 hx57 h => Jh R R R C104 (s_l30May_ok (κ := fun b => mp [] 0 (K96 b)) (Jl2 (f60.stp S001 R R) (mp [] 0) R R) hx57) ?_))))))⟩
 rintro _ w103 ⟨k104, aE, ap, rfl, e105, f106⟩
 obtain ⟨K107, S108, m109⟩ := Ji e105 25 R
 refine ⟨tv, Jn 1 R (Ob h fun x59 hx59 h => ?_)⟩
 have f112 := f91.stp (S97.tr S108) R R
 refine Jh R R R C103 (s_l30Far_ok (κ := fun b => mp [] 0 (K107 b)) (Jl2 f112.rdc (mp [] 0) R R) (Jl2 (f106.mx no_bool m109 R (R : 25 + 2 = 27)).rdc (mp [] 0) R R) hx59) ?_
 rintro _ w113 ⟨k114, al, aw, rfl, e115, f116⟩
 obtain ⟨K117, S118, m119⟩ := Ji e115 28 R
 refine ⟨tv, Jn 1 R (Ob h fun x61 hx61 h => Jh R R R C102 (s_l30Way_ok (κ := fun b => mp [] 0 (K117 b)) (Jl2 (f112.stp S118 R R).rdc (mp [] 0) R R) (Jl2 (f116.mx (no_int _) m119 R (R : 28 + 2 = 30)).rdc (mp [] 0) R R) hx61) ?_)⟩
 rintro _ w123 ⟨k124, ao, aj, rfl, e125, f126⟩
 obtain ⟨K127, S128, m129⟩ := Ji e125 31 R
 refine ⟨tv, Jb 1 R (Je [1, 2, 1, 2] R ?_)⟩
 have f132 := f34.stp (S44.tr (S53.tr (S56.tr (S65.tr (S70.tr (S77.tr (S87.tr (S97.tr (S108.tr (S118.tr S128)))))))))) R R
 refine Jl tv R R R R (Jd2 (cs := [.slice aa p1.Next.length ab, .slice ac p1.Out.length ad]) I33 Z33 R R R (haE f132.cells)) (Jn 1 R (Ob h fun x64 hx64 h => ?_))
 have f133 := f35.stp (S44.tr (S53.tr (S56.tr (S65.tr (S70.tr (S77.tr (S87.tr (S97.tr (S108.tr (S118.tr S128)))))))))) R R
 have f134 := f36.stp (S44.tr (S53.tr (S56.tr (S65.tr (S70.tr (S77.tr (S87.tr (S97.tr (S108.tr (S118.tr S128)))))))))) R R
 have f135 := (f95.mx (no_int _) m98 R (R : 22 + 2 = 24)).stp (S108.tr (S118.tr S128)) R R
 refine Jh R R R C99 (s_l29Behind_ok (κ := fun b => mp [] 0 (K127 b)) (p0 := p1) (Jl2 f133 (mp [] 0) R R) (Jl2 f134 (mp [] 0) R R) (Jl2 f135.rdc (mp [] 0) R R) hx64) ?_
 rintro _ w136 ⟨k137, rfl, e138⟩
 obtain ⟨K139, S140, m141⟩ := Ji e138 34 R
 refine ⟨tv, Jb 1 R (Jq (Js1 (κ := K139) [2, 3] none [(2, 2), (6, 2), (7, 2), (0, 0), (1, 0), (4, 0), (5, 0), (3, 1), (8, 1), (9, 2), (10, 1), (11, 2)] [] (by kernel_rfl) (by kernel_rfl) fun w144 S143 => Jn 3 R ?_))⟩
 have f145 := f33.stp (S44.tr (S53.tr (S56.tr (S65.tr (S70.tr (S77.tr (S87.tr (S97.tr (S108.tr (S118.tr (S128.tr (S140.tr S143)))))))))))) R R
 refine Jg R (Jd2 (cs := [vi p0.In, vi p0.Out]) I31 Z31 R R R (haC f145.cells R)) ?_
 have f146 := f132.stp (S140.tr S143) R R
 refine Jg R (Jd2 (cs := [.slice aa p1.Next.length ab, .slice ac p1.Out.length ad]) I33 Z33 R R R (haC f146.cells R)) (Jg R (Jd2 (cs := [vi p0.In, vi p0.Out]) I31 Z31 R R R (haC f145.cells R)) (Jg R (Jd2 (cs := [.slice aa p1.Next.length ab, .slice ac p1.Out.length ad]) I33 Z33 R R R (haC f146.cells R)) (Ob h fun x68 hx68 h => ?_)))
 have f147 := f133.stp (S140.tr S143) R R
 have f148 := f134.stp (S140.tr S143) R R
 refine Jh R R R C101 (s_l29Letters_ok (κ := fun b => mp [] 0 (K139 b)) (p0 := p0) (p1 := p1) (Jl2 f147 (mp [] 0) R R) (Jl2 f148 (mp [] 0) R R) (Jl2 (f135.stp (S140.tr S143) R R).rdc (mp [] 0) R R) hx68) ?_
 rintro _ w150 ⟨k151, ae, af, rfl, e152, f153⟩
 obtain ⟨K154, S155, m156⟩ := Ji e152 36 R
 refine ⟨(S155.cl R), Ob h fun x73 hx73 h => Jh R R R C101 (s_l29Letters_ok (κ := fun b => mp [] 0 (K154 b)) (p0 := p0) (p1 := p1) (Jl2 (f147.stp S155 R R) (mp [] 0) R R) (Jl2 (f148.stp S155 R R) (mp [] 0) R R) (Jl2 ((f126.mx (no_int _) m129 R (R : 31 + 2 = 33)).stp (S140.tr (S143.tr S155)) R R).rdc (mp [] 0) R R) hx73) ?_⟩
 rintro _ w162 ⟨k163, ai, ah, rfl, e164, f165⟩
 obtain ⟨K166, S167, m168⟩ := Ji e164 39 R
 refine ⟨((S155.tr S167).cl R), Jf R (rn_build (parts := [(0, .tmp 68), (1, .tmp 73)]) (cells := [.slice ae x68.length af, .slice ai x73.length ah]) R R (by kernel_rfl)) (Jj1 (κ := K166) 4 (vc := [.slice ae x68.length af, .slice ai x73.length ah]) R R R R R R R Z65 R R (f12.stp (S23.tr (S44.tr (S53.tr (S56.tr (S65.tr (S70.tr (S77.tr (S87.tr (S97.tr (S108.tr (S118.tr (S128.tr (S140.tr (S143.tr (S155.tr S167))))))))))))))) R R) R fun w172 S173 f174 => ⟨((S155.tr (S167.tr S173)).cl R), Jn 1 R (Jt1 (Jd (Ju (Ja2 (l := [.cell 6 65, .tmp 7]) V43 (res_cellA R f174 I65 Z65 R (Jp2 R R)) R ?_))))⟩)⟩
 cases h
 exact ⟨(fun b => ren [(38, 2), (41, 3)] (K166 b)), ae, af, ai, ah, R, ((hE.stp (S3.tr (S7.tr (S11.tr (S23.tr (S44.tr (S53.tr (S56.tr (S65.tr (S70.tr (S77.tr (S87.tr (S97.tr (S108.tr (S118.tr (S128.tr (S140.tr (S143.tr (S155.tr (S167.tr S173))))))))))))))))))) R R).map (ren [(38, 2), (41, 3)]) R R), (((f153.mx (no_int _) m156 R (R : 36 + 2 = 38)).stp (S167.tr S173) R R).map (ren [(38, 2), (41, 3)]) R R), (((f165.mx (no_int _) m168 R (R : 39 + 2 = 41)).stp S173 R R).map (ren [(38, 2), (41, 3)]) R R)⟩
 refine JT fun h => Jx R (Je [2, 1, 2] R (Jf R (rn_build (parts := []) (cells := [.slice none 0 0, .slice none 0 0]) R R (by kernel_rfl)) (Jj1 (κ := K22) 4 (vc := [.slice none 0 0, .slice none 0 0]) R R R R R R R Z65 R R (f12.stp S23 R R) R fun w29 S30 f31 => ⟨tv, Jb 1 R (Ju (Jw (Ja2 (l := [.cell 6 65, .tmp 7]) V43 (res_cellA R f31 I65 Z65 R (Jp2 R R)) R ?_)))⟩)))
 cases h
 exact ⟨K22, none, 0, none, 0, R, (hE.stp (S3.tr (S7.tr (S11.tr (S23.tr S30)))) R R), Ow.nil, Ow.nil⟩
theorem i_BreakOf_ok {w : World} {κ : Col} {p0 : Sig} {ab aa ad ac} {p1 : Machine} {a2 u2} {p2 : (List Clause)} (g1_0 : Rd (Rp.sl (Rp.int .i64)) κ w 0 ab aa p1.Next) (g1_1 : Rd (Rp.sl (Rp.int .i64)) κ w 0 ad ac p1.Out) (g2 : Rd Clause.rp κ w 0 a2 u2 p2) {r : Word × Bool} (h : i_BreakOf p0 p1 p2 = some r) : Ret Tryz.prog 37 [.agg #[vi p0.In, vi p0.Out], .agg #[.slice ab p1.Next.length aa, .slice ad p1.Out.length ac], .slice a2 p2.length u2] w (fun v w' => ∃ (κ' : Col) (ra0 : Option Addr) (ru0 : Nat) (ra1 : Option Addr) (ru1 : Nat), v = .tuple #[.agg #[.slice ra0 r.1.Stem.length ru0, .slice ra1 r.1.Loop.length ru1], .bool r.2] ∧ Ent κ w κ' w' ∧ Oc E6 2 κ' w' 2 ra0 ru0 r.1.Stem ∧ Oc E6 2 κ' w' 3 ra1 ru1 r.1.Loop) := by
 unfold i_BreakOf at h
 refine Ret.enter F37 R N37 R ?_
 dsimp only [envOf]
 have hE := Ent.refl κ w
 refine Je [1, 1, 1, 2] R (Jf1 (κ := κ) 2 R R R R R R R fun b3 w1 K2 S3 f4 => ⟨tv, Jf1 (κ := K2) 3 R R R R R R R fun b4 w5 K6 S7 f8 => ⟨tv, Jg1 (κ := K6) 4 R R R R R X65 R fun b6 w9 K10 S11 f12 => ⟨tv, Jb 1 R (Je [1, 1, 2, 1, 2, 2, 2, 2, 2] R (Jl tv R R R R (Jd2 (cs := [vi p0.In, vi p0.Out]) I31 Z31 R R R (haE (f4.stp (S7.tr S11) R R).cells)) (Jl tv R R R R (Jd2 (cs := [.slice ab p1.Next.length aa, .slice ad p1.Out.length ac]) I33 Z33 R R R (haE (f8.stp S11 R R).cells)) (Jn 1 R (Ob h fun x15 hx15 h => Jh R R R C52 (i_watchAll_ok (κ := fun b => mp [] 0 (K10 b)) (p0 := p0) (p1 := p1) (Jl2 (g1_0.stp (S3.tr (S7.tr S11)) R R) (mp [] 0) R R) (Jl2 (g1_1.stp (S3.tr (S7.tr S11)) R R) (mp [] 0) R R) (Jl2 (g2.stp (S3.tr (S7.tr S11)) R R) (mp [] 0) R R) hx15) ?_)))))⟩⟩⟩)
 rintro _ w18 ⟨k19, ak, am, ao, al, aq, ap, b15, rfl, e20, f21, f22, f23, f24⟩
 obtain ⟨K25, S26, m27⟩ := Ji e20 5 R
 refine ⟨tv, ?_⟩
 have f29 := f21.mx (no_own (no_int _) _) m27 R (R : 5 + 2 = 7)
 have f30 := f22.mx (no_own (no_int _) _) m27 R (R : 5 + 3 = 8)
 have f31 := f23.mx Pair.no92 m27 R (R : 5 + 4 = 9)
 refine Jb 5 R (Jq (Je [2, 2] R (Jb 2 R ?_)))
 revert h
 cases ht33 : (!x15.2)
 refine JF fun h => Jy R (Js (Jp (Je [2, 1, 2] R (Jn 1 R (Ob h fun _g246 hg246 h => ?_)))))
 have hs39 := guardS_ok hg246
 simp only [hs39, cond_true]
 have f40 := (fun hs => (f24 hs).mx m27 R (R : 5 + 5 = 10)) hs39
 refine Ob h fun x22 hx22 h => Jh R R R C53 (i_watch_broken_ok (κ := fun b => mp [] 0 (K25 b)) (p0 := (x15.1.getD (⟨([] : List (List Int)), ([] : List (List Int)), ([] : List Pair)⟩ : watch))) (Jl2 f29.rdc (mp [] 0) R R) (Jl2 f30.rdc (mp [] 0) R R) (Jl2 f31.rdc (mp [] 0) R R) (f40.map (mp [] 0) R R) hx22) ?_
 rintro _ w41 ⟨k42, aj, an, rfl, e43, f44⟩
 obtain ⟨K45, S46, m47⟩ := Ji e43 11 R
 refine ⟨tv, ?_⟩
 have f49 := f44.mx (no_int _) m47 R (R : 11 + 2 = 13)
 refine Jb 1 R (Jq (Je [2, 2, 2] R (Jn 1 R (Jf R (Je2 U40 R R) (Jb 1 R ?_)))))
 revert h
 cases ht50 : ((x22.length : Int) == 0)
 refine JF fun h => Jy R (Js (Jp (Jq (Js1 (κ := K45) [0, 9, 10, 13] none [(0, 2), (1, 2), (2, 2), (3, 2), (5, 2), (6, 2), (4, 0), (7, 0), (8, 2), (9, 0), (10, 1), (11, 1), (12, 2)] [] (by kernel_rfl) (by kernel_rfl) fun w57 S56 => Jn 2 R (Jf R (rn_nilCheck R R) (Jf R (Jb2 U120 R Z79 R R) (Jn 1 R (Ob h fun x33 hx33 h => Jf R (Jf2 f49.rdc hx33 U40 Z2 R R R R) ?_))))))))
 have f58 := f40.stp (S46.tr S56) R R
 refine Jg R (Jc2 I79 R R (hvC (f58.ld 2 R R) R)) (Jg R (Jc2 I2 R R (hvC ((f49.stp S56 R R).rdc.gInt hx33) R)) (Ob h fun x35 hx35 h => Jf R (Jf2 f31.rdc hx35 U79 Z92 R R R R) ?_))
 have f60 := f31.stp (S46.tr S56) R R
 obtain ⟨cse61, hre61, hle61⟩ := (f60.rdc).gSt hx35
 obtain ⟨ae61_0, ue61_0, ae61_1, ue61_1, rfl, fe61_0, fe61_1⟩ := Pair.un hre61
 refine Jg R (Jd2 (cs := [.slice ae61_0 x35.Ask.length ue61_0, .slice ae61_1 x35.Give.length ue61_1]) I92 Z92 R R R (haC hle61 R)) (Ob h fun x37 hx37 h => Jh R R R C83 (i_watch_counterexample_ok (κ := fun b => mp [] 0 (K45 b)) (p1 := x35) (p0 := (x15.1.getD (⟨([] : List (List Int)), ([] : List (List Int)), ([] : List Pair)⟩ : watch))) (Jl2 (f29.stp (S46.tr S56) R R).rdc (mp [] 0) R R) (Jl2 (f30.stp (S46.tr S56) R R).rdc (mp [] 0) R R) (Jl2 f60.rdc (mp [] 0) R R) (Jl2 fe61_0 (mp [] 0) R R) (Jl2 fe61_1 (mp [] 0) R R) (f58.map (mp [] 0) R R) hx37) ?_)
 rintro _ w64 ⟨k65, af, ae, ah, ai, rfl, e66, f67, f68⟩
 obtain ⟨K69, S70, m71⟩ := Ji e66 14 R
 refine ⟨(S70.cl R), Jj1 (κ := K69) 4 (vc := [.slice af x37.Stem.length ae, .slice ah x37.Loop.length ai]) R R R R R R R Z65 R R (f12.stp (S26.tr (S46.tr (S56.tr S70))) R R) R fun w76 S77 f78 => ⟨((S70.tr S77).cl R), Jn 1 R (Jt1 (Jd (Ju (Ja2 (l := [.cell 6 65, .tmp 7]) V37 (res_cellA R f78 I65 Z65 R (Jp2 R R)) R ?_))))⟩⟩
 cases h
 exact ⟨(fun b => ren [(16, 2), (17, 3)] (K69 b)), af, ae, ah, ai, R, ((hE.stp (S3.tr (S7.tr (S11.tr (S26.tr (S46.tr (S56.tr (S70.tr S77))))))) R R).map (ren [(16, 2), (17, 3)]) R R), (((f67.mx (no_int _) m71 R (R : 14 + 2 = 16)).stp S77 R R).map (ren [(16, 2), (17, 3)]) R R), (((f68.mx (no_int _) m71 R (R : 14 + 3 = 17)).stp S77 R R).map (ren [(16, 2), (17, 3)]) R R)⟩
 refine JT fun h => Jx R (Je [2, 1, 2] R (Jf R (rn_build (parts := []) (cells := [.slice none 0 0, .slice none 0 0]) R R (by kernel_rfl)) (Jj1 (κ := K45) 4 (vc := [.slice none 0 0, .slice none 0 0]) R R R R R R R Z65 R R (f12.stp (S26.tr S46) R R) R fun w52 S53 f54 => ⟨tv, Jb 1 R (Ju (Jw (Ja2 (l := [.cell 6 65, .tmp 7]) V37 (res_cellA R f54 I65 Z65 R (Jp2 R R)) R ?_)))⟩)))
 cases h
 exact ⟨K45, none, 0, none, 0, R, (hE.stp (S3.tr (S7.tr (S11.tr (S26.tr (S46.tr S53))))) R R), Ow.nil, Ow.nil⟩
 refine JT fun h => Jx R (Je [2, 1, 2] R (Jf R (rn_build (parts := []) (cells := [.slice none 0 0, .slice none 0 0]) R R (by kernel_rfl)) (Jj1 (κ := K25) 4 (vc := [.slice none 0 0, .slice none 0 0]) R R R R R R R Z65 R R (f12.stp S26 R R) R fun w35 S36 f37 => ⟨tv, Jb 1 R (Ju (Jw (Ja2 (l := [.cell 6 65, .tmp 7]) V37 (res_cellA R f37 I65 Z65 R (Jp2 R R)) R ?_)))⟩)))
 cases h
 exact ⟨K25, none, 0, none, 0, R, (hE.stp (S3.tr (S7.tr (S11.tr (S26.tr S36)))) R R), Ow.nil, Ow.nil⟩
end Go.Proofs.YtcmamhmpoinmnaaGreat
