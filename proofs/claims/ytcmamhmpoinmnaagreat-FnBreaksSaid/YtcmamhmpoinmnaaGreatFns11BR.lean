/- The walks, part 11. By program. -/
import Derived.Test.YtcmamhmpoinmnaaGreatFns10BR
set_option linter.unusedVariables false
set_option linter.unusedSimpArgs false
namespace Go.Proofs.YtcmamhmpoinmnaaGreat
open Go Go.Wk Go.Proofs
set_option maxRecDepth 100000
set_option maxHeartbeats 1000000
theorem i_BreakOf_ok {w : World} {κ : Col} {p0 : Sig} {ab ad aa ac} {p1 : Machine} {a2 u2} {p2 : (List Clause)} (g1_0 : Rd (Rp.sl (Rp.int .i64)) κ w 0 ab ad p1.Next) (g1_1 : Rd (Rp.sl (Rp.int .i64)) κ w 0 aa ac p1.Out) (g2 : Rd Clause.rp κ w 0 a2 u2 p2) {r : Word × Bool} (h : i_BreakOf p0 p1 p2 = some r) : Ret Tryz.prog 37 [.agg #[vi p0.In, vi p0.Out], .agg #[.slice ab p1.Next.length ad, .slice aa p1.Out.length ac], .slice a2 p2.length u2] w (fun v w' => ∃ (κ' : Col) (ra0 : Option Addr) (ru0 : Nat) (ra1 : Option Addr) (ru1 : Nat), v = .tuple #[.agg #[.slice ra0 r.1.Stem.length ru0, .slice ra1 r.1.Loop.length ru1], .bool r.2] ∧ Ent κ w κ' w' ∧ Oc E6 2 κ' w' 2 ra0 ru0 r.1.Stem ∧ Oc E6 2 κ' w' 3 ra1 ru1 r.1.Loop) := by
 unfold i_BreakOf at h
 refine Ret.enter F37 R N37 R ?_
 dsimp only [envOf]
 have hE := Ent.refl κ w
 refine Je [1, 1, 1, 2] R (Jf1 (κ := κ) 2 R R R R R R R fun b3 w1 K2 S3 f4 => ⟨tv, Jf1 (κ := K2) 3 R R R R R R R fun b4 w5 K6 S7 f8 => ⟨tv, Jg1 (κ := K6) 4 R R R R R X65 R fun b6 w9 K10 S11 f12 => ⟨tv, Jb 1 R (Je [1, 1, 2, 1, 2, 2, 2, 2, 2] R (Jl tv R R R R (Jd2 (cs := [vi p0.In, vi p0.Out]) I31 Z31 R R R (haE (f4.stp (S7.tr S11) R R).cells)) (Jl tv R R R R (Jd2 (cs := [.slice ab p1.Next.length ad, .slice aa p1.Out.length ac]) I33 Z33 R R R (haE (f8.stp S11 R R).cells)) (Jn 1 R (Ob h fun x15 hx15 h => Jh R R R C52 (i_watchAll_ok (κ := fun b => mp [] 0 (K10 b)) (p0 := p0) (p1 := p1) (Jl2 (g1_0.stp (S3.tr (S7.tr S11)) R R) (mp [] 0) R R) (Jl2 (g1_1.stp (S3.tr (S7.tr S11)) R R) (mp [] 0) R R) (Jl2 (g2.stp (S3.tr (S7.tr S11)) R R) (mp [] 0) R R) hx15) ?_)))))⟩⟩⟩)
 rintro _ w18 ⟨k19, ak, an, aq, am, aj, al, b15, rfl, e20, f21, f22, f23, f24⟩
 obtain ⟨K25, S26, m27⟩ := Ji e20 5 R
 refine ⟨tv, ?_⟩
 have f29 := f21.mx (no_own (no_int _) _) m27 R (R : 5 + 2 = 7)
 have f30 := f22.mx (no_own (no_int _) _) m27 R (R : 5 + 3 = 8)
 have f31 := f23.mx Pair.no92 m27 R (R : 5 + 4 = 9)
 refine Jb 5 R (Jq (Je [2, 2] R (Jb 2 R ?_)))
 revert h
 cases ht33 : (!x15.2)
 refine JF fun h => Jy R (Js (Jp (Je [2, 1, 2] R (Jn 1 R (Ob h fun _g95 hg95 h => ?_)))))
 have hs39 := guardS_ok hg95
 simp only [hs39, cond_true]
 have f40 := (fun hs => (f24 hs).mx m27 R (R : 5 + 5 = 10)) hs39
 refine Ob h fun x22 hx22 h => Jh R R R C53 (i_watch_broken_ok (κ := fun b => mp [] 0 (K25 b)) (p0 := (x15.1.getD (⟨([] : List (List Int)), ([] : List (List Int)), ([] : List Pair)⟩ : watch))) (Jl2 f29.rdc (mp [] 0) R R) (Jl2 f30.rdc (mp [] 0) R R) (Jl2 f31.rdc (mp [] 0) R R) (f40.map (mp [] 0) R R) hx22) ?_
 rintro _ w41 ⟨k42, ap, ao, rfl, e43, f44⟩
 obtain ⟨K45, S46, m47⟩ := Ji e43 11 R
 refine ⟨tv, ?_⟩
 have f49 := f44.mx (no_int _) m47 R (R : 11 + 2 = 13)
 refine Jb 1 R (Jq (Je [2, 2, 2] R (Jn 1 R (Jf R (Je2 U40 R R) (Jb 1 R ?_)))))
 revert h
 cases ht50 : ((x22.length : Int) == 0)
 refine JF fun h => Jy R (Js (Jp (Jq (Js1 (κ := K45) [0, 9, 10, 13] none [(0, 2), (1, 2), (2, 2), (3, 2), (5, 2), (6, 2), (4, 0), (7, 0), (8, 2), (9, 0), (10, 1), (11, 1), (12, 2)] [] (by kernel_rfl) (by kernel_rfl) fun w57 S56 => Jn 2 R (Jf R (rn_nilCheck R R) (Jf R (Jb2 U120 R Z79 R R) (Jn 1 R (Ob h fun x33 hx33 h => Jf R (Jf2 f49.rdc hx33 U40 Z2 R R R R) ?_))))))))
 have f58 := f40.stp (S46.tr S56) R R
 refine Jg R (Jc2 I79 R R (hvC (f58.ld 2 R R) R)) (Jg R (Jc2 I2 R R (hvC ((f49.stp S56 R R).rdc.gInt hx33) R)) (Ob h fun x35 hx35 h => Jf R (Jf2 f31.rdc hx35 U79 Z92 R R R R) ?_))
 have f60 := f31.stp (S46.tr S56) R R
 obtain ⟨cse61, hre61, hle61⟩ := (f60.rdc).gSt hx35
 obtain ⟨ae61_0, ue61_0, ae61_1, ue61_1, rfl, fe61_0, fe61_1⟩ := Pair.un hre61
 refine Jg R (Jd2 (cs := [.slice ae61_0 x35.Ask.length ue61_0, .slice ae61_1 x35.Give.length ue61_1]) I92 Z92 R R R (haC hle61 R)) (Ob h fun x37 hx37 h => Jh R R R C83 (i_watch_counterexample_ok (κ := fun b => mp [] 0 (K45 b)) (p1 := x35) (p0 := (x15.1.getD (⟨([] : List (List Int)), ([] : List (List Int)), ([] : List Pair)⟩ : watch))) (Jl2 (f29.stp (S46.tr S56) R R).rdc (mp [] 0) R R) (Jl2 (f30.stp (S46.tr S56) R R).rdc (mp [] 0) R R) (Jl2 f60.rdc (mp [] 0) R R) (Jl2 fe61_0 (mp [] 0) R R) (Jl2 fe61_1 (mp [] 0) R R) (f58.map (mp [] 0) R R) hx37) ?_)
 rintro _ w64 ⟨k65, ae, ah, af, ai, rfl, e66, f67, f68⟩
 obtain ⟨K69, S70, m71⟩ := Ji e66 14 R
 refine ⟨(S70.cl R), Jj1 (κ := K69) 4 (vc := [.slice ae x37.Stem.length ah, .slice af x37.Loop.length ai]) R R R R R R R Z65 R R (f12.stp (S26.tr (S46.tr (S56.tr S70))) R R) R fun w76 S77 f78 => ⟨((S70.tr S77).cl R), Jn 1 R (Jt1 (Jd (Ju (Ja2 (l := [.cell 6 65, .tmp 7]) V37 (res_cellA R f78 I65 Z65 R (Jp2 R R)) R ?_))))⟩⟩
 cases h
 exact ⟨(fun b => ren [(16, 2), (17, 3)] (K69 b)), ae, ah, af, ai, R, ((hE.stp (S3.tr (S7.tr (S11.tr (S26.tr (S46.tr (S56.tr (S70.tr S77))))))) R R).map (ren [(16, 2), (17, 3)]) R R), (((f67.mx (no_int _) m71 R (R : 14 + 2 = 16)).stp S77 R R).map (ren [(16, 2), (17, 3)]) R R), (((f68.mx (no_int _) m71 R (R : 14 + 3 = 17)).stp S77 R R).map (ren [(16, 2), (17, 3)]) R R)⟩
 refine JT fun h => Jx R (Je [2, 1, 2] R (Jf R (rn_build (parts := []) (cells := [.slice none 0 0, .slice none 0 0]) R R (by kernel_rfl)) (Jj1 (κ := K45) 4 (vc := [.slice none 0 0, .slice none 0 0]) R R R R R R R Z65 R R (f12.stp (S26.tr S46) R R) R fun w52 S53 f54 => ⟨tv, Jb 1 R (Ju (Jw (Ja2 (l := [.cell 6 65, .tmp 7]) V37 (res_cellA R f54 I65 Z65 R (Jp2 R R)) R ?_)))⟩)))
 cases h
 exact ⟨K45, none, 0, none, 0, R, (hE.stp (S3.tr (S7.tr (S11.tr (S26.tr (S46.tr S53))))) R R), Ow.nil, Ow.nil⟩
 refine JT fun h => Jx R (Je [2, 1, 2] R (Jf R (rn_build (parts := []) (cells := [.slice none 0 0, .slice none 0 0]) R R (by kernel_rfl)) (Jj1 (κ := K25) 4 (vc := [.slice none 0 0, .slice none 0 0]) R R R R R R R Z65 R R (f12.stp S26 R R) R fun w35 S36 f37 => ⟨tv, Jb 1 R (Ju (Jw (Ja2 (l := [.cell 6 65, .tmp 7]) V37 (res_cellA R f37 I65 Z65 R (Jp2 R R)) R ?_)))⟩)))
 cases h
 exact ⟨K25, none, 0, none, 0, R, (hE.stp (S3.tr (S7.tr (S11.tr (S26.tr S36)))) R R), Ow.nil, Ow.nil⟩
theorem s_l30All_ok {w : World} {κ : Col} {p0 : Sig} {ab ad aa ac} {p1 : Machine} {a2 u2} {p2 : (List Clause)} (g1_0 : Rd (Rp.sl (Rp.int .i64)) κ w 0 ab ad p1.Next) (g1_1 : Rd (Rp.sl (Rp.int .i64)) κ w 0 aa ac p1.Out) (g2 : Rd Clause.rp κ w 0 a2 u2 p2) {r : (List (List Int)) × (List Pair) × Bool} (h : s_l30All p0 p1 p2 = some r) : Ret Tryz.prog 49 [.agg #[vi p0.In, vi p0.Out], .agg #[.slice ab p1.Next.length ad, .slice aa p1.Out.length ac], .slice a2 p2.length u2] w (fun v w' => ∃ (κ' : Col) (ra0 : Option Addr) (ru0 : Nat) (ra1 : Option Addr) (ru1 : Nat), v = .tuple #[.slice ra0 r.1.length ru0, .slice ra1 r.2.1.length ru1, .bool r.2.2] ∧ Ent κ w κ' w' ∧ Oc (Ep.own E6 2) 40 κ' w' 2 ra0 ru0 r.1 ∧ Oc Pair.ep92 92 κ' w' 3 ra1 ru1 r.2.1) := by
 unfold s_l30All at h
 refine Ret.enter F49 R N49 R ?_
 dsimp only [envOf]
 have hE := Ent.refl κ w
 refine Je [1, 1, 2, 2, 2] R (Jf1 (κ := κ) 2 R R R R R R R fun b3 w1 K2 S3 f4 => ⟨tv, Jf1 (κ := K2) 3 R R R R R R R fun b4 w5 K6 S7 f8 => ⟨tv, Jb 3 R (Je [1, 2, 1, 2, 2, 2, 1, 1, 2] R ?_)⟩⟩)
 have f9 := f4.stp S7 R R
 refine Jl tv R R R R (Jd2 (cs := [vi p0.In, vi p0.Out]) I31 Z31 R R R (haE f9.cells)) (Jn 1 R (Ob h fun x14 hx14 h => Jh R R R C59 (s_ProductOf_ok (κ := fun b => mp [] 0 (K6 b)) (p0 := p0) (Jl2 (g2.stp (S3.tr S7) R R) (mp [] 0) R R) hx14) ?_))
 rintro _ w11 ⟨k12, ae, ah, ai, af, rfl, e13, f14, f15⟩
 obtain ⟨K16, S17, m18⟩ := Ji e13 4 R
 refine ⟨tv, Jn 3 R (Jg1 (κ := K16) 8 R R R R R X94 R fun b9 w22 K23 S24 f25 => ⟨tv, Jj1 (κ := K23) 8 (vc := [.slice ae x14.1.Next.length ah, .slice ai x14.1.Pairs.length af]) R R R R R R R Z94 R R f25 R fun w26 S27 f28 => ⟨tv, Jb 1 R (Jq (Je [2, 2] R (Jb 2 R ?_)))⟩⟩)⟩
 revert h
 cases ht29 : (!x14.2)
 have S001 := (S3.tr (S7.tr (S17.tr (S24.tr S27))))
 refine JF fun h => Jy R (Js (Jp (Je [1, 1, 1, 1, 2, 2, 2, 2, 2, 2] R (Jl tv R R R R (Jd2 (cs := [vi p0.In, vi p0.Out]) I31 Z31 R R R (haE (f9.stp (S17.tr (S24.tr S27)) R R).cells)) (Jl tv R R R R (Jd2 (cs := [.slice ab p1.Next.length ad, .slice aa p1.Out.length ac]) I33 Z33 R R R (haE (f8.stp (S17.tr (S24.tr S27)) R R).cells)) (Jl tv R R R R (Jd2 (cs := [.slice ae x14.1.Next.length ah, .slice ai x14.1.Pairs.length af]) I94 Z94 R R R (haE f28.cells)) (Ob h fun x24 hx24 h => Jh R R R C105 (s_WatchOf_ok (κ := fun b => mp [] 0 (K23 b)) (p0 := p0) (p1 := p1) (p2 := x14.1) (Jl2 (g1_0.stp S001 R R) (mp [] 0) R R) (Jl2 (g1_1.stp S001 R R) (mp [] 0) R R) (Jl2 ((f14.mx (no_own (no_int _) _) m18 R (R : 4 + 2 = 6)).stp (S24.tr S27) R R).rdc (mp [] 0) R R) (Jl2 ((f15.mx Pair.no92 m18 R (R : 4 + 3 = 7)).stp (S24.tr S27) R R).rdc (mp [] 0) R R) hx24) ?_)))))))
 rintro _ w46 ⟨k47, aq, ak, am, al, rfl, e48, f49, f50⟩
 obtain ⟨K51, S52, m53⟩ := Ji e48 9 R
 refine ⟨tv, Jb 6 R (Ju (Ja2 (l := [.tmp 6, .tmp 7, .tmp 8]) V49 (Jp2 R (Jp2 R (Jp2 R R))) R ?_))⟩
 cases h
 exact ⟨(fun b => ren [(11, 2), (12, 3)] (K51 b)), aq, ak, am, al, R, ((hE.stp (S3.tr (S7.tr (S17.tr (S24.tr (S27.tr S52))))) R R).map (ren [(11, 2), (12, 3)]) R R), ((f49.mx (no_own (no_int _) _) m53 R (R : 9 + 2 = 11)).map (ren [(11, 2), (12, 3)]) R R), ((f50.mx Pair.no92 m53 R (R : 9 + 3 = 12)).map (ren [(11, 2), (12, 3)]) R R)⟩
 refine JT fun h => Jx R (Je [1, 1, 2, 2, 2] R (Jo1 (κ := K23) (E := (Ep.own E6 2)) 9 R R R R R Y24 Tryzinfo40 R fun ap ao w30 K31 S32 f33 => ⟨tv, Jo1 (κ := K31) (E := Pair.ep92) 10 R R R R R Y79 Tryzinfo92 R fun an aj w34 K35 S36 f37 => ⟨tv, Jb 3 R (Ju (Jw (Ja2 (l := [.tmp 6, .tmp 7, .tmp 8]) V49 (Jp2 R (Jp2 R (Jp2 R R))) R ?_)))⟩⟩))
 cases h
 exact ⟨(fun b => ren [(9, 2), (10, 3)] (K35 b)), ap, ao, an, aj, R, ((hE.stp (S3.tr (S7.tr (S17.tr (S24.tr (S27.tr (S32.tr S36)))))) R R).map (ren [(9, 2), (10, 3)]) R R), ((f33.stp S36 R R).map (ren [(9, 2), (10, 3)]) R R), (f37.map (ren [(9, 2), (10, 3)]) R R)⟩
theorem s_BreaksIn_ok {w : World} {κ : Col} {p0 : Sig} {ai al ao ak} {p1 : Machine} {a2 u2} {p2 : (List Clause)} (g1_0 : Rd (Rp.sl (Rp.int .i64)) κ w 0 ai al p1.Next) (g1_1 : Rd (Rp.sl (Rp.int .i64)) κ w 0 ao ak p1.Out) (g2 : Rd Clause.rp κ w 0 a2 u2 p2) {r : (List Int)} (h : s_BreaksIn p0 p1 p2 = some r) : Ret Tryz.prog 18 [.agg #[vi p0.In, vi p0.Out], .agg #[.slice ai p1.Next.length al, .slice ao p1.Out.length ak], .slice a2 p2.length u2] w (fun v w' => ∃ (κ' : Col) (ra0 : Option Addr) (ru0 : Nat), v = .slice ra0 r.length ru0 ∧ Ent κ w κ' w' ∧ Oc E6 2 κ' w' 2 ra0 ru0 r) := by
 unfold s_BreaksIn at h
 refine Ret.enter F18 R N18 R ?_
 dsimp only [envOf]
 have hE := Ent.refl κ w
 refine Je [1, 1, 2] R (Jf1 (κ := κ) 2 R R R R R R R fun b3 w1 K2 S3 f4 => ⟨tv, Jf1 (κ := K2) 3 R R R R R R R fun b4 w5 K6 S7 f8 => ⟨tv, Jb 1 R (Je [1, 2] R (Jo1 (κ := K6) (E := E6) 4 R R R R R Y40 Tryzinfo2 R fun ar ap w9 K10 S11 f12 => ⟨tv, Jb 1 R (Je [1, 1, 2, 1, 2, 2, 2, 2, 2, 2, 2] R (Jl tv R R R R (Jd2 (cs := [vi p0.In, vi p0.Out]) I31 Z31 R R R (haE (f4.stp (S7.tr S11) R R).cells)) (Jl tv R R R R (Jd2 (cs := [.slice ai p1.Next.length al, .slice ao p1.Out.length ak]) I33 Z33 R R R (haE (f8.stp S11 R R).cells)) (Jn 1 R (Ob h fun x17 hx17 h => Jh R R R C49 (s_l30All_ok (κ := fun b => mp [] 0 (K10 b)) (p0 := p0) (p1 := p1) (Jl2 (g1_0.stp (S3.tr (S7.tr S11)) R R) (mp [] 0) R R) (Jl2 (g1_1.stp (S3.tr (S7.tr S11)) R R) (mp [] 0) R R) (Jl2 (g2.stp (S3.tr (S7.tr S11)) R R) (mp [] 0) R R) hx17) ?_)))))⟩))⟩⟩)
 rintro _ w18 ⟨k19, ah, am, aj, an, rfl, e20, f21, f22⟩
 obtain ⟨K23, S24, m25⟩ := Ji e20 5 R
 refine ⟨tv, ?_⟩
 have f28 := f22.mx Pair.no92 m25 R (R : 5 + 3 = 8)
 refine Jb 7 R (Jq (Je [2] R (Jb 1 R (Ob h fun q2 hq31 hK30 => ?_))))
 clear h
 refine Jx1 (fun L w' => ∃ κ', ∃ s3 : (List Int) × Int, ∃ ac af, L = [(7, .slice ac s3.1.length af)] ∧ Stp [4] K23 w18 κ' w' ∧ Oc E6 2 κ' w' 4 ac af s3.1 ∧ q2 = Sum.inr s3) ?_ ?_
 refine Jv (Jy1 (fun k L w' => ∃ κ', ∃ s1 : (List Int) × Int, ∃ ab aa, L = [(7, .slice ab s1.1.length aa), (8, .slice ah x17.1.length am), (9, .slice aj x17.2.1.length an), (10, .bool x17.2.2), (11, vi s1.2)] ∧ Stp [4] K23 w18 κ' w' ∧ Oc E6 2 κ' w' 4 ab aa s1.1 ∧ whileM (s_BreaksIn_b0 x17) k s1 = some q2) ⟨_, _, ⟨K23, ((([] : List Int) : (List Int)), (0 : Int)), ar, ap, R, (Jx2 _ _).wk R, (f12.stp S24 R R), hq31⟩, (KM R)⟩ ?_)
 rintro k _ w36 ⟨K37, s1, ab, aa, rfl, S38, f39, h⟩
 rcases k with _ | k
 cases h
 obtain ⟨o29, h, hk41⟩ := BI h; unfold s_BreaksIn_b0 at h
 refine Jq (Je [2, 2, 2, 2, 2, 2, 2] R (Jn 2 R (Ob h fun p27 h hK42 => Ju1 [(2, 2), (3, 2), (4, 2), (5, 2), (6, 2)] [] (fun L w' => L = [(7, .slice ab s1.1.length aa), (8, .slice ah x17.1.length am), (9, .slice aj x17.2.1.length an), (10, .bool x17.2.2), (11, vi s1.2), (27, .bool p27)] ∧ ∃ κ', Stp [] K37 w36 κ' w') tv ?_ ?_)))
 revert h
 cases ht43 : x17.2.2
 refine JF fun h => Jn 5 R ?_
 cases h
 exact Jv1 _ tv ⟨R, _, (Jx2 _ _).wk R⟩ (KM R)
 refine JT fun h => Jn 2 R (Jf R (Je2 U79 R R) (Jn 2 R ?_))
 cases h
 exact Jv1 _ tv ⟨R, _, (Jx2 _ _).wk R⟩ (KM R)
 rintro _ w44 _ ⟨rfl, K45, S46⟩
 have h := hK42
 refine Jd ?_
 revert h
 cases ht47 : p27
 refine JF fun h => Jy R (Jc1 (Jt (Jt ?_)))
 cases h
 have h := hk41
 refine Jb1 ?_
 cases h
 exact Jw1 _ ⟨K45, ((s1.1 : (List Int)), (s1.2 : Int)), ab, aa, R, (S38.tr S46).wk R, (f39.stp S46 R R), R⟩ (KM R)
 refine JT fun h => Jx R (Js (Jp (Jq (Jv (Je [2, 2, 2, 2, 1, 1, 2] R (Jn 3 R (Ob h fun x33 hx33 h => Jf R (Jf2 f28.rdc hx33 U79 Z92 R R R R) ?_)))))))
 obtain ⟨cse49, hre49, hle49⟩ := ((f28.stp (S38.tr S46) R R).rdc).gSt hx33
 obtain ⟨ae49_0, ue49_0, ae49_1, ue49_1, rfl, fe49_0, fe49_1⟩ := Pair.un hre49
 refine Jl tv R R R R (Jd2 (cs := [.slice ae49_0 x33.Ask.length ue49_0, .slice ae49_1 x33.Give.length ue49_1]) I92 Z92 R R R (haE hle49)) (Ob h fun x35 hx35 h => Jh R R R C56 (s_l30Broken_ok (κ := fun b => mp [] 0 (K45 b)) (p1 := x33) (Jl2 ((f21.mx (no_own (no_int _) _) m25 R (R : 5 + 2 = 7)).stp (S38.tr S46) R R).rdc (mp [] 0) R R) (Jl2 fe49_0 (mp [] 0) R R) (Jl2 fe49_1 (mp [] 0) R R) hx35) ?_)
 rintro _ w51 ⟨k52, rfl, e53⟩
 obtain ⟨K54, S55, m56⟩ := Ji e53 9 R
 refine ⟨tv, Jb 1 R (Ob h fun q4 h hK58 => Jx1 (fun L w' => ∃ κ' ae ad, L = [(7, .slice ae q4.length ad), (8, .slice ah x17.1.length am), (9, .slice aj x17.2.1.length an), (10, .bool x17.2.2), (11, vi s1.2)] ∧ Stp [4] K54 w51 κ' w' ∧ Oc E6 2 κ' w' 4 ae ad q4) ?_ ?_)⟩
 revert h
 cases ht63 : decide (0 ≤ x35)
 refine JF fun h => Jy R (Js ?_)
 cases h
 exact Jw1 _ ⟨K54, ab, aa, R, (Jx2 _ _).wk R, (f39.stp (S46.tr S55) R R)⟩ (KM R)
 refine JT fun h => Jx R (Ja [2, 2, 1, 1, 2] R (Jn 2 R (Jn1 (κ := K54) (E := E6) 11 [] (parts := [(0, .tmp 38)]) (cells := [vi s1.2]) (xs := ([s1.2] : List Int)) R R R R R R Y40 Tryzinfo2 R R R R R R R R R R ⟨[vi s1.2], [], Zl K54 w51 [], Zl K54 w51 [], R, Zl.sp (l1 := []) (l2 := []) R, Zl.sr (l1 := []) (l2 := []), R, R⟩ fun av aw w64 K65 S66 f67 => ⟨tv, Ob h fun x40 hx40 h => Jm1 (κ := K65) (E := E6) 4 [] R R R R R R R R R Y40 Tryzinfo2 R R R R (f39.stp (S46.tr (S55.tr S66)) R R) (Sl.srcP (pu_int _) f67.rdc) sy_false hx40 R fun au aq w69 K70 S71 f72 => ⟨tv, Jc 1 R ?_⟩⟩)))
 cases h
 exact Jw1 _ ⟨K70, au, aq, R, (S66.tr S71).wk R, f72⟩ (KM R)
 rintro _ w59 ⟨K60, ae, ad, rfl, S61, f62⟩
 have h := hK58
 refine Jz (Jp (Ja [2, 2, 2] R (Jc 3 R ?_)))
 cases h
 exact Jz1 fun a ha => ⟨k, _, Ja3 _, ⟨K60, ((q4 : (List Int)), ((IntKind.i64.wrap (s1.2 + 1)) : Int)), ae, ad, R, (S38.tr (S46.tr (S55.tr S61))).wk R, f62, hk41⟩, (ha.mm R)⟩
 rintro _ w32 ⟨K33, s3, ac, af, rfl, S34, f35, rfl⟩
 have h := hK30
 dsimp only [aft] at h
 refine Jp (Je [2, 2] R (Jb 2 R (Ju (Ja2 (l := [.tmp 6]) V18 (Jp2 R R) R ?_))))
 cases h
 exact ⟨(fun b => ren [(4, 2)] (K33 b)), ac, af, R, ((hE.stp (S3.tr (S7.tr (S11.tr (S24.tr S34)))) R R).map (ren [(4, 2)]) R R), (f35.map (ren [(4, 2)]) R R)⟩
theorem l_FnBreaks_ok {w : World} {κ : Col} {a0 u0} {p0 : (List Int)} (g0 : Rd (Rp.int .u8) κ w 0 a0 u0 p0) {r : Bool} (h : l_FnBreaks p0 = some r) : Ret Tryz.prog 7 [.slice a0 p0.length u0] w (fun v w' => ∃ (κ' : Col), v = .bool r ∧ Ent κ w κ' w') := by
 unfold l_FnBreaks at h
 refine Ret.enter F7 R N7 R ?_
 dsimp only [envOf]
 have hE := Ent.refl κ w
 refine Je [2] R (Jb 1 R (Jq (Je [2, 1] R (Jn 1 R (Ob h fun x14 hx14 h => Jh R R R C33 (l_big_ok (κ := fun b => mp [] 0 (κ b)) (Jl2 g0 (mp [] 0) R R) hx14) ?_)))))
 rintro _ w1 ⟨k2, rfl, e3⟩
 obtain ⟨K4, S5, m6⟩ := Ji e3 2 R
 refine ⟨tv, Jd ?_⟩
 revert h
 cases ht8 : x14
 refine JF fun h => Jy R (Js (Jp (Je [2, 1, 2] R (Jn 1 R (Ob h fun x16 hx16 h => Jh R R R C34 (l_roll_ok (κ := fun b => mp [] 1 (K4 b)) (Jl2 (g0.stp S5 R R) (mp [] 1) R R) hx16) ?_)))))
 rintro _ w11 ⟨k12, aG, aF, b16, rfl, e13, f14, f15⟩
 obtain ⟨K16, S17, m18, z19⟩ := Jj e13 4 R
 refine ⟨tv, Jb 1 R (Je [2, 1, 1] R (Jf R (rn_build (parts := [(0, .const (vi 1)), (1, .const (vi 1))]) (cells := [vi 1, vi 1]) R R (by kernel_rfl)) (Jg1 (κ := K16) 8 R R R R R X31 R fun b4 w22 K23 S24 f25 => ⟨tv, Jj1 (κ := K23) 8 (vc := [vi 1, vi 1]) R R R R R R R Z31 R R f25 R fun w26 S27 f28 => ⟨tv, Jd (Je [2, 1, 1, 1, 1] R (Jn 1 R (Jl tv R R R R (Jd2 (cs := [vi 1, vi 1]) I31 Z31 R R R (haE f28.cells)) (Ob h fun x20 hx20 h => ?_))))⟩⟩)))⟩
 have f29 := (f14.mx z19).stp (S24.tr S27) R R
 refine Jh R R R C35 (l_w9Machine_ok (κ := fun b => mp [(7, 2)] 0 (K23 b)) (p1 := (⟨1, 1⟩ : Sig)) (p0 := x16) (Jl2 f29 (mp [(7, 2)] 0) R R) (((f15.mx m18 R (R : 4 + 3 = 7)).stp (S24.tr S27) R R).map (mp [(7, 2)] 0) R R) hx20) ?_
 rintro _ w31 ⟨k32, aq, ak, aj, ap, rfl, e33, f34, f35, f36⟩
 obtain ⟨K37, S38, m39⟩ := Ji e33 9 R
 refine ⟨tv, Jg1 (κ := K37) 14 R R R R R X33 R fun b5 w44 K45 S46 f47 => ⟨tv, Jj1 (κ := K45) 14 (vc := [.slice aq x20.1.Next.length ak, .slice aj x20.1.Out.length ap]) R R R R R R R Z33 R R f47 R fun w48 S49 f50 => ⟨tv, Jd (Je [2, 1, 2] R (Jn 1 R (Ob h fun x22 hx22 h => Jh R R R C36 (l_w9Clauses_ok (κ := fun b => mp [(11, 2)] 0 (K45 b)) (p0 := (⟨x16.b, x20.2.1, x20.2.2⟩ : dice)) (Jl2 (f29.stp (S38.tr (S46.tr S49)) R R) (mp [(11, 2)] 0) R R) (((f36.mx m39 R (R : 9 + 2 = 11)).stp (S46.tr S49) R R).map (mp [(11, 2)] 0) R R) hx22) ?_)))⟩⟩⟩
 rintro _ w53 ⟨k54, ay, aA, rfl, e55, f56, f57⟩
 obtain ⟨K58, S59, m60⟩ := Ji e55 15 R
 refine ⟨tv, ?_⟩
 have f62 := f56.mx Clause.no71 m60 R (R : 15 + 3 = 18)
 refine Jb 1 R (Je [1, 1, 2, 1, 2, 2, 2, 1, 1, 2] R ?_)
 have f64 := f28.stp (S38.tr (S46.tr (S49.tr S59))) R R
 refine Jl tv R R R R (Jd2 (cs := [vi 1, vi 1]) I31 Z31 R R R (haE f64.cells)) ?_
 have f65 := f50.stp S59 R R
 refine Jl tv R R R R (Jd2 (cs := [.slice aq x20.1.Next.length ak, .slice aj x20.1.Out.length ap]) I33 Z33 R R R (haE f65.cells)) (Jn 1 R (Ob h fun x27 hx27 h => ?_))
 have f66 := (f34.mx (no_own (no_int _) _) m39 R (R : 9 + 3 = 12)).stp (S46.tr (S49.tr S59)) R R
 have f67 := (f35.mx (no_own (no_int _) _) m39 R (R : 9 + 4 = 13)).stp (S46.tr (S49.tr S59)) R R
 refine Jh R R R C37 (i_BreakOf_ok (κ := fun b => mp [] 0 (K58 b)) (p0 := (⟨1, 1⟩ : Sig)) (p1 := x20.1) (Jl2 f66.rdc (mp [] 0) R R) (Jl2 f67.rdc (mp [] 0) R R) (Jl2 f62.rdc (mp [] 0) R R) hx27) ?_
 rintro _ w68 ⟨k69, ac, ad, ai, al, rfl, e70, f71, f72⟩
 obtain ⟨K73, S74, m75⟩ := Ji e70 19 R
 refine ⟨tv, ?_⟩
 have f77 := f71.mx (no_int _) m75 R (R : 19 + 2 = 21)
 have f78 := f72.mx (no_int _) m75 R (R : 19 + 3 = 22)
 refine Jn 3 R (Jg1 (κ := K73) 23 R R R R R X65 R fun b7 w79 K80 S81 f82 => ⟨tv, Jj1 (κ := K80) 23 (vc := [.slice ac x27.1.Stem.length ad, .slice ai x27.1.Loop.length al]) R R R R R R R Z65 R R f82 R fun w83 S84 f85 => ⟨tv, Jb 1 R (Je [1, 1, 2, 1, 2] R ?_)⟩⟩)
 have f86 := f64.stp (S74.tr (S81.tr S84)) R R
 refine Jl tv R R R R (Jd2 (cs := [vi 1, vi 1]) I31 Z31 R R R (haE f86.cells)) ?_
 have f87 := f65.stp (S74.tr (S81.tr S84)) R R
 refine Jl tv R R R R (Jd2 (cs := [.slice aq x20.1.Next.length ak, .slice aj x20.1.Out.length ap]) I33 Z33 R R R (haE f87.cells)) (Jn 1 R (Ob h fun x33 hx33 h => ?_))
 have f88 := f66.stp (S74.tr (S81.tr S84)) R R
 have f89 := f67.stp (S74.tr (S81.tr S84)) R R
 have f90 := f62.stp (S74.tr (S81.tr S84)) R R
 refine Jh R R R C18 (s_BreaksIn_ok (κ := fun b => mp [] 0 (K80 b)) (p0 := (⟨1, 1⟩ : Sig)) (p1 := x20.1) (Jl2 f88.rdc (mp [] 0) R R) (Jl2 f89.rdc (mp [] 0) R R) (Jl2 f90.rdc (mp [] 0) R R) hx33) ?_
 rintro _ w91 ⟨k92, ax, az, rfl, e93, f94⟩
 obtain ⟨K95, S96, m97⟩ := Ji e93 24 R
 refine ⟨tv, ?_⟩
 have f99 := f94.mx (no_int _) m97 R (R : 24 + 2 = 26)
 refine Jb 1 R (Jq (Je [2, 2] R (Jb 2 R ?_)))
 revert h
 cases ht100 : (!x27.2)
 refine JF fun h => Jy R (Js (Jp (Jq (Jq (Js1 (κ := K95) [0, 8, 18, 23, 26] none [(0, 2), (1, 2), (2, 2), (3, 2), (4, 0), (5, 0), (6, 1), (7, 2), (8, 2), (9, 2), (11, 2), (12, 2), (13, 2), (10, 0), (14, 0), (15, 2), (16, 0), (17, 0), (18, 1), (19, 2)] [] (by kernel_rfl) (by kernel_rfl) fun w109 S108 => Jn 1 R (Jf R (Je2 U40 R R) (Jn 2 R (Ob h fun p53 h hK110 => Ju1 [(4, 0), (5, 0), (6, 1), (7, 2), (8, 2)] [(9, 2), (11, 2), (12, 2), (13, 2), (10, 0), (14, 0), (15, 2), (16, 0), (17, 0), (18, 1), (19, 2)] (fun L w' => L = [(4, .pointer (some ⟨b4, 0, none⟩)), (5, .pointer (some ⟨b5, 0, none⟩)), (6, .slice ay x22.1.length aA), (7, .pointer (some ⟨b7, 0, none⟩)), (9, .slice ax x33.length az), (53, .bool p53)] ∧ ∃ κ', Stp [] K95 w109 κ' w') (Cl.refl _ _ _) ?_ ?_))))))))
 revert h
 cases ht111 : ((x33.length : Int) == 0)
 have S001 := (S81.tr (S84.tr (S96.tr S108)))
 refine JF fun h => Jg R (Jd2 (cs := [vi 1, vi 1]) I31 Z31 R R R (haC (f86.stp (S96.tr S108) R R).cells R)) (Jg R (Jd2 (cs := [.slice ac x27.1.Stem.length ad, .slice ai x27.1.Loop.length al]) I65 Z65 R R R (haC (f85.stp (S96.tr S108) R R).cells R)) (Ob h fun x51 hx51 h => Jh R R R C38 (s_WordOk_ok (κ := fun b => mp [] 0 (K95 b)) (p0 := (⟨1, 1⟩ : Sig)) (p1 := x27.1) (Jl2 (f77.stp S001 R R).rdc (mp [] 0) R R) (Jl2 (f78.stp S001 R R).rdc (mp [] 0) R R) hx51) ?_))
 rintro _ w116 ⟨k117, rfl, e118⟩
 obtain ⟨K119, S120, m121⟩ := Ji e118 27 R
 refine ⟨(S120.cl R), Jn 2 R ?_⟩
 cases h
 exact Jv1 _ (S120.cl R) ⟨R, _, S120.wk R⟩ (KM R)
 refine JT fun h => Je1 R R R R (Je1 R R R R (Jd1 R R R R (Jn 2 R ?_)))
 cases h
 exact Jv1 _ (Cl.refl _ _ _) ⟨R, _, (Jx2 _ _).wk R⟩ (KM R)
 rintro _ w123 _ ⟨rfl, K124, S125⟩
 have h := hK110
 refine Jn 1 R (Ob h fun p64 h hK126 => Ju1 [(11, 2), (12, 2), (13, 2), (10, 0), (14, 0), (15, 2), (16, 0), (17, 0), (18, 1), (19, 2)] [] (fun L w' => L = [(4, .pointer (some ⟨b4, 0, none⟩)), (5, .pointer (some ⟨b5, 0, none⟩)), (7, .pointer (some ⟨b7, 0, none⟩)), (64, .bool p64)] ∧ ∃ κ', Stp [] K124 w123 κ' w') (S125.cl R) ?_ ?_)
 revert h
 cases ht127 : p53
 refine JF fun h => Jn 2 R (Ob h fun x58 hx58 h => Jf R (Jf2 f99.rdc hx58 U40 Z2 R R R R) (Jg R (Jd2 (cs := [vi 1, vi 1]) I31 Z31 R R R (haC (f86.stp (S96.tr S108) R R).cells R)) (Jg R (Jc2 I2 R R (hvC ((f99.stp S108 R R).rdc.gInt hx58) R)) (Ob h fun x60 hx60 h => Jf R (Jf2 f90.rdc hx60 U35 Z71 R R R R) ?_))))
 obtain ⟨cse131, hre131, hle131⟩ := ((f90.stp (S96.tr S108) R R).rdc).gSt hx60
 obtain ⟨ae131_0, ue131_0, ae131_1, ue131_1, rfl, fe131_0, fe131_1⟩ := Clause.un hre131
 have S002 := (S81.tr (S84.tr (S96.tr (S108.tr S125))))
 refine Jg R (Jd2 (cs := [vi x60.Kind, .slice ae131_0 x60.A.length ue131_0, .slice ae131_1 x60.B.length ue131_1]) I71 Z71 R R R (haC hle131 R)) (Jg R (Jd2 (cs := [.slice ac x27.1.Stem.length ad, .slice ai x27.1.Loop.length al]) I65 Z65 R R R (haC (f85.stp (S96.tr S108) R R).cells R)) (Ob h fun x63 hx63 h => Jh R R R C39 (s_HoldsOn_ok (κ := fun b => mp [] 0 (K124 b)) (p0 := (⟨1, 1⟩ : Sig)) (p1 := x60) (p2 := x27.1) (Jl2 (fe131_0.stp S125 R R) (mp [] 0) R R) (Jl2 (fe131_1.stp S125 R R) (mp [] 0) R R) (Jl2 (f77.stp S002 R R).rdc (mp [] 0) R R) (Jl2 (f78.stp S002 R R).rdc (mp [] 0) R R) hx63) ?_))
 rintro _ w137 ⟨k138, rfl, e139⟩
 obtain ⟨K140, S141, m142⟩ := Ji e139 27 R
 refine ⟨((S125.tr S141).cl R), Jn 1 R ?_⟩
 cases h
 exact Jv1 _ ((S125.tr S141).cl R) ⟨R, _, S141.wk R⟩ (KM R)
 refine JT fun h => Jn 3 R (Je1 R R R R (Je1 R R R R (Jn 1 R (Je1 R R R R (Je1 R R R R (Jd1 R R R R (Jn 1 R ?_)))))))
 cases h
 exact Jv1 _ (S125.cl R) ⟨R, _, (Jx2 _ _).wk R⟩ (KM R)
 rintro _ w144 _ ⟨rfl, K145, S146⟩
 have h := hK126
 refine Jt1 (Jd ?_)
 revert h
 cases ht147 : p64
 refine JF fun h => Jy R (Js (Jp (Je [2, 1, 1] R (Jf R (rn_build (parts := []) (cells := [.slice none 0 0, .slice none 0 0]) R R (by kernel_rfl)) (Jg1 (κ := K145) 27 R R R R R X65 R fun b10 w149 K150 S151 f152 => ⟨tv, Jj1 (κ := K150) 27 (vc := [.slice none 0 0, .slice none 0 0]) R R R R R R R Z65 R R f152 R fun w153 S154 f155 => ⟨tv, Jd (Jq (Je [2] R (Jb 1 R ?_)))⟩⟩)))))
 have hN156 : (x27.1.Stem.length : Int) ≤ 9223372036854775807 := f77.len_le
 refine Ob h fun q2 hq158 hK157 => ?_
 clear h
 refine Jx1 (fun L w' => ∃ κ', ∃ s3 : (List Int), ∃ aa ab, L = [(4, .pointer (some ⟨b4, 0, none⟩)), (5, .pointer (some ⟨b5, 0, none⟩)), (7, .pointer (some ⟨b7, 0, none⟩)), (10, .pointer (some ⟨b10, 0, none⟩))] ∧ Stp [27, 28] K150 w153 κ' w' ∧ Oc E6 2 κ' w' 28 aa ab s3 ∧ Bc κ' w' 27 b10 65 [.slice aa s3.length ab, .slice none 0 0] ∧ q2 = Sum.inr s3) ?_ ?_
 refine Jv (Jy1 (fun k L w' => ∃ κ' v11, ∃ s1 : (List Int), ∃ ao af, L = [(4, .pointer (some ⟨b4, 0, none⟩)), (5, .pointer (some ⟨b5, 0, none⟩)), (7, .pointer (some ⟨b7, 0, none⟩)), (10, .pointer (some ⟨b10, 0, none⟩)), (11, vi v11)] ∧ Stp [27, 28] K150 w153 κ' w' ∧ Oc E6 2 κ' w' 28 ao af s1 ∧ Bc κ' w' 27 b10 65 [.slice ao s1.length af, .slice none 0 0] ∧ 0 ≤ v11 ∧ Int.toNat ((x27.1.Stem.length : Int) - v11) = k ∧ cntM (l_FnBreaks_b0 x27) k v11 s1 = some q2) ⟨_, _, ⟨K150, 0, (([] : List Int) : (List Int)), none, 0, R, (Jx2 _ _).wk R, Ow.nil, f155, (by decide), (by simp), hq158⟩, (KM R)⟩ ?_)
 rintro k _ w164 ⟨K165, v11, s1, ao, af, rfl, S166, f167, f168, hj156, hJ156, h⟩
 rcases k with _ | k
 have hk169 := h; obtain ⟨o156, h⟩ := ex_eq (Sum.inr (Sum.inl s1) : Bool ⊕ (((List Int)) ⊕ ((List Int))))
 have hc156 : decide (v11 < (x27.1.Stem.length : Int)) = false := Jo2 (by omega)
 refine Jq (Je [2, 2, 1, 2, 2] R (Jn 1 R (Jf R (Jb2 U65 R Z40 R R) (Jl tv R R R R (Jc2 I40 R R (hvE ((f85.stp (S96.tr (S108.tr (S125.tr (S146.tr (S151.tr (S154.tr S166)))))) R R).ld 0 R R))) (Jf R (Je2 U40 R R) (Jb 1 R (Jw2 R hc156 (Jc1 (Jt (Jt ?_))))))))))
 cases h
 have h := hk169
 refine Jb1 ?_
 cases h
 exact Jw1 _ ⟨K165, (s1 : (List Int)), ao, af, R, S166.wk R, f167, f168, R⟩ (KM R)
 obtain ⟨o156, h, hk169⟩ := BI h; unfold l_FnBreaks_b0 at h
 have hc156 : decide (v11 < (x27.1.Stem.length : Int)) = true := Jn2 (by omega)
 refine Jq (Je [2, 2, 1, 2, 2] R (Jn 1 R (Jf R (Jb2 U65 R Z40 R R) ?_)))
 have f171 := f85.stp (S96.tr (S108.tr (S125.tr (S146.tr (S151.tr (S154.tr S166)))))) R R
 refine Jl tv R R R R (Jc2 I40 R R (hvE (f171.ld 0 R R))) (Jf R (Je2 U40 R R) (Jb 1 R (Jv2 R hc156 (Js (Jp (Jq (Jv (Js1 (κ := K165) [0, 8, 21, 23, 27] (some 12) [(0, 2), (3, 2), (5, 2), (1, 0), (2, 0), (4, 0), (6, 2), (7, 0), (8, 1), (9, 1), (10, 1), (11, 2)] [(12, 1)] (by kernel_rfl) (by kernel_rfl) fun w173 S172 => Jf R (Jb2 U65 R Z40 R R) (Jf R (Jb2 U65 R Z40 R R) (Jn 1 R ?_))))))))))
 have f174 := f168.stp S172 R R
 refine Jg R (Jc2 I40 R R (hvC (f174.ld 0 R R) R)) (Jg R (Jd2 (cs := [vi 1, vi 1]) I31 Z31 R R R (haC (f86.stp (S96.tr (S108.tr (S125.tr (S146.tr (S151.tr (S154.tr (S166.tr S172))))))) R R).cells R)) (Jg R (Jc2 I40 R R (hvC ((f171.stp S172 R R).ld 0 R R) R)) (Ob h fun x79 hx79 h => Jf R (Jf2 f77.rdc hx79 U40 Z2 R R R R) (Jg R (Jc2 I2 R R (hvC ((f77.stp (S81.tr (S84.tr (S96.tr (S108.tr (S125.tr (S146.tr (S151.tr (S154.tr (S166.tr S172))))))))) R R).rdc.gInt hx79) R)) (Ob h fun x81 hx81 h => Jh R R R C40 (s_InOf_ok (κ := fun b => mp [] 0 (K165 b)) (p0 := (⟨1, 1⟩ : Sig)) hx81) ?_)))))
 rintro _ w178 ⟨k179, rfl, e180⟩
 obtain ⟨K181, S182, m183⟩ := Ji e180 29 R
 refine ⟨(S182.cl R), Jn1 (κ := K181) (E := E6) 31 [] (parts := [(0, .tmp 81)]) (cells := [vi x81]) (xs := ([x81] : List Int)) R R R R R R Y40 Tryzinfo2 R R R R R R R R R R ⟨[vi x81], [], Zl K181 w178 [], Zl K181 w178 [], R, Zl.sp (l1 := []) (l2 := []) R, Zl.sr (l1 := []) (l2 := []), R, R⟩ fun aE aJ w185 K186 S187 f188 => ⟨((S182.tr S187).cl R), Ob h fun x83 hx83 h => Jm1 (κ := K186) (E := E6) 28 [] R R R R R R R R R Y40 Tryzinfo2 R R R R (f167.stp (S172.tr (S182.tr S187)) R R) (Sl.srcP (pu_int _) f188.rdc) sy_false hx83 R fun ar au w190 K191 S192 f193 => ⟨((S182.tr (S187.tr S192)).cl R), Jf R (Jb2 U65 R Z40 R R) (Jt1 (Ji1 (κ := K191) 27 (off := 0) (vc := [.slice ar x83.length au]) (cs' := [.slice ar x83.length au, .slice none 0 0]) R R R R R R R Z40 R R (f174.stp (S182.tr (S187.tr S192)) R R) R R fun w195 S196 f197 => ⟨tv, Jo (Jz (Jp (Ja [2, 2, 2] R (Jc 3 R ?_))))⟩))⟩⟩⟩
 have hw156 : IntKind.wrap .i64 (v11 + 1) = v11 + 1 := wr1 hj156 (Jm2 hc156) hN156
 rw [hw156]
 have hc156 := Jm2 hc156
 cases h
 exact Jz1 fun a ha => ⟨k, _, Ja3 _, ⟨K191, v11 + 1, (x83 : (List Int)), ar, au, R, (S166.tr (S172.tr (S182.tr (S187.tr (S192.tr S196))))).wk R, (f193.stp S196 R R), f197, by omega, by omega, hk169⟩, (ha.mm R)⟩
 rintro _ w159 ⟨K160, s3, aa, ab, rfl, S161, f162, f163, rfl⟩
 have h := hK157
 dsimp only [aft] at h
 refine Jp (Jq (Je [2] R (Jb 1 R ?_)))
 have hN199 : (x27.1.Loop.length : Int) ≤ 9223372036854775807 := f78.len_le
 refine Ob h fun q5 hq201 hK200 => ?_
 clear h
 refine Jx1 (fun L w' => ∃ κ', ∃ s6 : (List Int), ∃ ae ah, L = [(4, .pointer (some ⟨b4, 0, none⟩)), (5, .pointer (some ⟨b5, 0, none⟩)), (7, .pointer (some ⟨b7, 0, none⟩)), (10, .pointer (some ⟨b10, 0, none⟩))] ∧ Stp [27, 29] K160 w159 κ' w' ∧ Oc E6 2 κ' w' 29 ae ah s6 ∧ Bc κ' w' 27 b10 65 [.slice aa s3.length ab, .slice ae s6.length ah] ∧ q5 = Sum.inr s6) ?_ ?_
 refine Jv (Jy1 (fun k L w' => ∃ κ' v12, ∃ s4 : (List Int), ∃ am an, L = [(4, .pointer (some ⟨b4, 0, none⟩)), (5, .pointer (some ⟨b5, 0, none⟩)), (7, .pointer (some ⟨b7, 0, none⟩)), (10, .pointer (some ⟨b10, 0, none⟩)), (12, vi v12)] ∧ Stp [27, 29] K160 w159 κ' w' ∧ Oc E6 2 κ' w' 29 am an s4 ∧ Bc κ' w' 27 b10 65 [.slice aa s3.length ab, .slice am s4.length an] ∧ 0 ≤ v12 ∧ Int.toNat ((x27.1.Loop.length : Int) - v12) = k ∧ cntM (l_FnBreaks_b2 x27) k v12 s4 = some q5) ⟨_, _, ⟨K160, 0, (([] : List Int) : (List Int)), none, 0, R, (Jx2 _ _).wk R, Ow.nil, f163, (by decide), (by simp), hq201⟩, (KM R)⟩ ?_)
 rintro k _ w207 ⟨K208, v12, s4, am, an, rfl, S209, f210, f211, hj199, hJ199, h⟩
 rcases k with _ | k
 have hk212 := h; obtain ⟨o199, h⟩ := ex_eq (Sum.inr (Sum.inl s4) : Bool ⊕ (((List Int)) ⊕ ((List Int))))
 have hc199 : decide (v12 < (x27.1.Loop.length : Int)) = false := Jo2 (by omega)
 refine Jq (Je [2, 2, 1, 2, 2] R (Jn 1 R (Jf R (Jb2 U65 R Z40 R R) (Jl tv R R R R (Jc2 I40 R R (hvE ((f85.stp (S96.tr (S108.tr (S125.tr (S146.tr (S151.tr (S154.tr (S161.tr S209))))))) R R).ld 1 R R))) (Jf R (Je2 U40 R R) (Jb 1 R (Jw2 R hc199 (Jc1 (Jt (Jt ?_))))))))))
 cases h
 have h := hk212
 refine Jb1 ?_
 cases h
 exact Jw1 _ ⟨K208, (s4 : (List Int)), am, an, R, S209.wk R, f210, f211, R⟩ (KM R)
 obtain ⟨o199, h, hk212⟩ := BI h; unfold l_FnBreaks_b2 at h
 have hc199 : decide (v12 < (x27.1.Loop.length : Int)) = true := Jn2 (by omega)
 refine Jq (Je [2, 2, 1, 2, 2] R (Jn 1 R (Jf R (Jb2 U65 R Z40 R R) ?_)))
 have f214 := f85.stp (S96.tr (S108.tr (S125.tr (S146.tr (S151.tr (S154.tr (S161.tr S209))))))) R R
 refine Jl tv R R R R (Jc2 I40 R R (hvE (f214.ld 1 R R))) (Jf R (Je2 U40 R R) (Jb 1 R (Jv2 R hc199 (Js (Jp (Jq (Jv (Js1 (κ := K208) [0, 8, 22, 23, 27] (some 12) [(0, 2), (3, 2), (5, 2), (1, 0), (2, 0), (4, 0), (6, 2), (7, 0), (8, 1), (9, 1), (10, 1), (11, 2)] [(12, 1)] (by kernel_rfl) (by kernel_rfl) fun w216 S215 => Jf R (Jb2 U65 R Z40 R R) (Jf R (Jb2 U65 R Z40 R R) (Jn 1 R ?_))))))))))
 have f217 := f211.stp S215 R R
 refine Jg R (Jc2 I40 R R (hvC (f217.ld 1 R R) R)) (Jg R (Jd2 (cs := [vi 1, vi 1]) I31 Z31 R R R (haC (f86.stp (S96.tr (S108.tr (S125.tr (S146.tr (S151.tr (S154.tr (S161.tr (S209.tr S215)))))))) R R).cells R)) (Jg R (Jc2 I40 R R (hvC ((f214.stp S215 R R).ld 1 R R) R)) (Ob h fun x98 hx98 h => Jf R (Jf2 f78.rdc hx98 U40 Z2 R R R R) (Jg R (Jc2 I2 R R (hvC ((f78.stp (S81.tr (S84.tr (S96.tr (S108.tr (S125.tr (S146.tr (S151.tr (S154.tr (S161.tr (S209.tr S215)))))))))) R R).rdc.gInt hx98) R)) (Ob h fun x100 hx100 h => Jh R R R C40 (s_InOf_ok (κ := fun b => mp [] 0 (K208 b)) (p0 := (⟨1, 1⟩ : Sig)) hx100) ?_)))))
 rintro _ w221 ⟨k222, rfl, e223⟩
 obtain ⟨K224, S225, m226⟩ := Ji e223 30 R
 refine ⟨(S225.cl R), Jn1 (κ := K224) (E := E6) 32 [] (parts := [(0, .tmp 100)]) (cells := [vi x100]) (xs := ([x100] : List Int)) R R R R R R Y40 Tryzinfo2 R R R R R R R R R R ⟨[vi x100], [], Zl K224 w221 [], Zl K224 w221 [], R, Zl.sp (l1 := []) (l2 := []) R, Zl.sr (l1 := []) (l2 := []), R, R⟩ fun aC aH w228 K229 S230 f231 => ⟨((S225.tr S230).cl R), Ob h fun x102 hx102 h => Jm1 (κ := K229) (E := E6) 29 [] R R R R R R R R R Y40 Tryzinfo2 R R R R (f210.stp (S215.tr (S225.tr S230)) R R) (Sl.srcP (pu_int _) f231.rdc) sy_false hx102 R fun av aw w233 K234 S235 f236 => ⟨((S225.tr (S230.tr S235)).cl R), Jf R (Jb2 U65 R Z40 R R) (Jt1 (Ji1 (κ := K234) 27 (off := 1) (vc := [.slice av x102.length aw]) (cs' := [.slice aa s3.length ab, .slice av x102.length aw]) R R R R R R R Z40 R R (f217.stp (S225.tr (S230.tr S235)) R R) R R fun w238 S239 f240 => ⟨tv, Jo (Jz (Jp (Ja [2, 2, 2] R (Jc 3 R ?_))))⟩))⟩⟩⟩
 have hw199 : IntKind.wrap .i64 (v12 + 1) = v12 + 1 := wr1 hj199 (Jm2 hc199) hN199
 rw [hw199]
 have hc199 := Jm2 hc199
 cases h
 exact Jz1 fun a ha => ⟨k, _, Ja3 _, ⟨K234, v12 + 1, (x102 : (List Int)), av, aw, R, (S209.tr (S215.tr (S225.tr (S230.tr (S235.tr S239))))).wk R, (f236.stp S239 R R), f240, by omega, by omega, hk212⟩, (ha.mm R)⟩
 rintro _ w202 ⟨K203, s6, ae, ah, rfl, S204, f205, f206, rfl⟩
 have h := hK200
 dsimp only [aft] at h
 have S003 := (S96.tr (S108.tr (S125.tr (S146.tr (S151.tr (S154.tr (S161.tr S204)))))))
 refine Jp (Jq (Js1 (κ := K203) [8, 14, 23, 27] none [(0, 0), (1, 0), (2, 0), (4, 0), (3, 1), (5, 1), (6, 2)] [] (by kernel_rfl) (by kernel_rfl) fun w243 S242 => Jg R (Jd2 (cs := [vi 1, vi 1]) I31 Z31 R R R (haC (f86.stp (S003.tr S242) R R).cells R)) (Jg R (Jd2 (cs := [.slice aq x20.1.Next.length ak, .slice aj x20.1.Out.length ap]) I33 Z33 R R R (haC (f87.stp (S003.tr S242) R R).cells R)) (Jg R (Jd2 (cs := [.slice aa s3.length ab, .slice ae s6.length ah]) I65 Z65 R R R (haC (f206.stp S242 R R).cells R)) (Jg R (Jd2 (cs := [.slice ac x27.1.Stem.length ad, .slice ai x27.1.Loop.length al]) I65 Z65 R R R (haC (f85.stp (S003.tr S242) R R).cells R)) (Ob h fun x107 hx107 h => Jh R R R C42 (s_RunWord_ok (κ := fun b => mp [] 0 (K203 b)) (p0 := (⟨1, 1⟩ : Sig)) (p1 := x20.1) (p2 := (⟨s3, s6⟩ : Word)) (Jl2 (f88.stp (S003.tr S242) R R).rdc (mp [] 0) R R) (Jl2 (f89.stp (S003.tr S242) R R).rdc (mp [] 0) R R) (Jl2 (f162.stp (S204.tr S242) R R).rdc (mp [] 0) R R) (Jl2 (f205.stp S242 R R).rdc (mp [] 0) R R) hx107) ?_))))))
 rintro _ w252 ⟨k253, aD, aI, aB, aK, rfl, e254, f255, f256⟩
 obtain ⟨K257, S258, m259⟩ := Ji e254 30 R
 have S004 := (S81.tr (S84.tr (S96.tr (S108.tr (S125.tr (S146.tr (S151.tr (S154.tr (S161.tr (S204.tr (S242.tr S258)))))))))))
 refine ⟨(S258.cl R), Ob h fun x109 hx109 h => Jh R R R C41 (s_SameWord_ok (κ := fun b => mp [] 0 (K257 b)) (p0 := x107) (p1 := x27.1) (Jl2 (f255.mx (no_int _) m259 R (R : 30 + 2 = 32)).rdc (mp [] 0) R R) (Jl2 (f256.mx (no_int _) m259 R (R : 30 + 3 = 33)).rdc (mp [] 0) R R) (Jl2 (f77.stp S004 R R).rdc (mp [] 0) R R) (Jl2 (f78.stp S004 R R).rdc (mp [] 0) R R) hx109) ?_⟩
 rintro _ w265 ⟨k266, rfl, e267⟩
 obtain ⟨K268, S269, m270⟩ := Ji e267 34 R
 refine ⟨((S258.tr S269).cl R), Jn 1 R (Jt1 (Jd (Ju (Ja2 (l := [.tmp 2]) V7 (Jp2 R R) R ?_))))⟩
 cases h
 exact ⟨K268, R, (hE.stp (S5.tr (S17.tr (S24.tr (S27.tr (S38.tr (S46.tr (S49.tr (S59.tr (S74.tr (S81.tr (S84.tr (S96.tr (S108.tr (S125.tr (S146.tr (S151.tr (S154.tr (S161.tr (S204.tr (S242.tr (S258.tr S269))))))))))))))))))))) R R)⟩
 refine JT fun h => Jx R (Je [2] R (Jb 1 R (Ju (Jw (Ja2 (l := [.tmp 2]) V7 (Jp2 R R) R ?_)))))
 cases h
 exact ⟨K145, R, (hE.stp (S5.tr (S17.tr (S24.tr (S27.tr (S38.tr (S46.tr (S49.tr (S59.tr (S74.tr (S81.tr (S84.tr (S96.tr (S108.tr (S125.tr S146)))))))))))))) R R)⟩
 refine JT fun h => Jx R (Je [2, 2, 2, 2, 2, 1, 2, 2, 2, 2] R (Jn 1 R (Jf R (Je2 U40 R R) (Jn 2 R (Ob h fun p44 h hK101 => Ju1 [(4, 2), (5, 1), (6, 2), (7, 2), (8, 2)] [(9, 2)] (fun L w' => L = [(2, .bool false), (44, .bool p44)] ∧ ∃ κ', Stp [] K95 w91 κ' w') tv ?_ ?_)))))
 revert h
 cases ht102 : ((x33.length : Int) == 0)
 refine JF fun h => Jn 1 R (Jd1 R R R R (Jn 3 R ?_))
 cases h
 exact Jv1 _ tv ⟨R, _, (Jx2 _ _).wk R⟩ (KM R)
 refine JT fun h => Jf R (Jb2 U65 R Z40 R R) (Jl tv R R R R (Jc2 I40 R R (hvE ((f85.stp S96 R R).ld 1 R R))) (Jf R (Je2 U40 R R) (Jn 2 R ?_)))
 cases h
 exact Jv1 _ tv ⟨R, _, (Jx2 _ _).wk R⟩ (KM R)
 rintro _ w104 _ ⟨rfl, K105, S106⟩
 have h := hK101
 refine Jb 1 R (Ju (Jw (Ja2 (l := [.tmp 2]) V7 (Jp2 R R) R ?_)))
 cases h
 exact ⟨K105, R, (hE.stp (S5.tr (S17.tr (S24.tr (S27.tr (S38.tr (S46.tr (S49.tr (S59.tr (S74.tr (S81.tr (S84.tr (S96.tr S106)))))))))))) R R)⟩
 refine JT fun h => Jx R (Je [2] R (Jb 1 R (Ju (Jw (Ja2 (l := [.tmp 2]) V7 (Jp2 R R) R ?_)))))
 cases h
 exact ⟨K4, R, (hE.stp S5 R R)⟩
end Go.Proofs.YtcmamhmpoinmnaaGreat
