/- The walks, part 10. By program. -/
import Derived.Test.YtcmamhmpoinmnaaGreatFns9BI
set_option linter.unusedVariables false
set_option linter.unusedSimpArgs false
namespace Go.Proofs.YtcmamhmpoinmnaaGreat
open Go Go.Wk Go.Proofs
set_option maxRecDepth 100000
set_option maxHeartbeats 1000000
theorem s_BreaksIn_ok {w : World} {κ : Col} {p0 : Sig} {ai al am aj} {p1 : Machine} {a2 u2} {p2 : (List Clause)} (g1_0 : Rd (Rp.sl (Rp.int .i64)) κ w 0 ai al p1.Next) (g1_1 : Rd (Rp.sl (Rp.int .i64)) κ w 0 am aj p1.Out) (g2 : Rd Clause.rp κ w 0 a2 u2 p2) {r : (List Int)} (h : s_BreaksIn p0 p1 p2 = some r) : Ret Tryz.prog 18 [.agg #[vi p0.In, vi p0.Out], .agg #[.slice ai p1.Next.length al, .slice am p1.Out.length aj], .slice a2 p2.length u2] w (fun v w' => ∃ (κ' : Col) (ra0 : Option Addr) (ru0 : Nat), v = .slice ra0 r.length ru0 ∧ Ent κ w κ' w' ∧ Oc E6 2 κ' w' 2 ra0 ru0 r) := by
 unfold s_BreaksIn at h
 refine Ret.enter F18 R N18 R ?_
 dsimp only [envOf]
 have hE := Ent.refl κ w
 refine Je [1, 1, 2] R (Jf1 (κ := κ) 2 R R R R R R R fun b3 w1 K2 S3 f4 => ⟨tv, Jf1 (κ := K2) 3 R R R R R R R fun b4 w5 K6 S7 f8 => ⟨tv, Jb 1 R (Je [1, 2] R (Jo1 (κ := K6) (E := E6) 4 R R R R R Y40 Tryzinfo2 R fun au aq w9 K10 S11 f12 => ⟨tv, Jb 1 R (Je [1, 1, 2, 1, 2, 2, 2, 2, 2, 2, 2] R (Jl tv R R R R (Jd2 (cs := [vi p0.In, vi p0.Out]) I31 Z31 R R R (haE (f4.stp (S7.tr S11) R R).cells)) (Jl tv R R R R (Jd2 (cs := [.slice ai p1.Next.length al, .slice am p1.Out.length aj]) I33 Z33 R R R (haE (f8.stp S11 R R).cells)) (Jn 1 R (Ob h fun x17 hx17 h => Jh R R R C49 (s_l30All_ok (κ := fun b => mp [] 0 (K10 b)) (p0 := p0) (p1 := p1) (Jl2 (g1_0.stp (S3.tr (S7.tr S11)) R R) (mp [] 0) R R) (Jl2 (g1_1.stp (S3.tr (S7.tr S11)) R R) (mp [] 0) R R) (Jl2 (g2.stp (S3.tr (S7.tr S11)) R R) (mp [] 0) R R) hx17) ?_)))))⟩))⟩⟩)
 rintro _ w18 ⟨k19, ak, an, ao, ah, rfl, e20, f21, f22⟩
 obtain ⟨K23, S24, m25⟩ := Ji e20 5 R
 refine ⟨tv, ?_⟩
 have f28 := f22.mx Pair.no92 m25 R (R : 5 + 3 = 8)
 refine Jb 7 R (Jq (Je [2] R (Jb 1 R (Ob h fun q2 hq31 hK30 => ?_))))
 clear h
 refine Jx1 (fun L w' => ∃ κ', ∃ s3 : (List Int) × Int, ∃ ac ae, L = [(7, .slice ac s3.1.length ae)] ∧ Stp [4] K23 w18 κ' w' ∧ Oc E6 2 κ' w' 4 ac ae s3.1 ∧ q2 = Sum.inr s3) ?_ ?_
 refine Jv (Jy1 (fun k L w' => ∃ κ', ∃ s1 : (List Int) × Int, ∃ aa ab, L = [(7, .slice aa s1.1.length ab), (8, .slice ak x17.1.length an), (9, .slice ao x17.2.1.length ah), (10, .bool x17.2.2), (11, vi s1.2)] ∧ Stp [4] K23 w18 κ' w' ∧ Oc E6 2 κ' w' 4 aa ab s1.1 ∧ whileM (s_BreaksIn_b0 x17) k s1 = some q2) ⟨_, _, ⟨K23, ((([] : List Int) : (List Int)), (0 : Int)), au, aq, R, (Jx2 _ _).wk R, (f12.stp S24 R R), hq31⟩, (KM R)⟩ ?_)
 rintro k _ w36 ⟨K37, s1, aa, ab, rfl, S38, f39, h⟩
 rcases k with _ | k
 cases h
 obtain ⟨o29, h, hk41⟩ := BI h; unfold s_BreaksIn_b0 at h
 refine Jq (Je [2, 2, 2, 2, 2, 2, 2] R (Jn 2 R (Ob h fun p27 h hK42 => Ju1 [(2, 2), (3, 2), (4, 2), (5, 2), (6, 2)] [] (fun L w' => L = [(7, .slice aa s1.1.length ab), (8, .slice ak x17.1.length an), (9, .slice ao x17.2.1.length ah), (10, .bool x17.2.2), (11, vi s1.2), (27, .bool p27)] ∧ ∃ κ', Stp [] K37 w36 κ' w') tv ?_ ?_)))
 revert h
 cases ht43 : x17.2.2
 refine JF fun h => Jn 5 R ?_
 cases h
 exact Jv1 _ tv ⟨R, _, (Jx2 _ _).wk R⟩ (KM R)
 refine JT fun h => Jn 2 R (Jf R (Je2 U79 R R) (Jn 2 R ?_))
 cases h
 exact Jv1 _ tv ⟨R, _, (Jx2 _ _).wk R⟩ (KM R)
 rintro _ w44 _ ⟨rfl, K45, S46⟩
 have h := hK42
 refine Jd ?_
 revert h
 cases ht47 : p27
 refine JF fun h => Jy R (Jc1 (Jt (Jt ?_)))
 cases h
 have h := hk41
 refine Jb1 ?_
 cases h
 exact Jw1 _ ⟨K45, ((s1.1 : (List Int)), (s1.2 : Int)), aa, ab, R, (S38.tr S46).wk R, (f39.stp S46 R R), R⟩ (KM R)
 refine JT fun h => Jx R (Js (Jp (Jq (Jv (Je [2, 2, 2, 2, 1, 1, 2] R (Jn 3 R (Ob h fun x33 hx33 h => Jf R (Jf2 f28.rdc hx33 U79 Z92 R R R R) ?_)))))))
 obtain ⟨cse49, hre49, hle49⟩ := ((f28.stp (S38.tr S46) R R).rdc).gSt hx33
 obtain ⟨ae49_0, ue49_0, ae49_1, ue49_1, rfl, fe49_0, fe49_1⟩ := Pair.un hre49
 refine Jl tv R R R R (Jd2 (cs := [.slice ae49_0 x33.Ask.length ue49_0, .slice ae49_1 x33.Give.length ue49_1]) I92 Z92 R R R (haE hle49)) (Ob h fun x35 hx35 h => Jh R R R C56 (s_l30Broken_ok (κ := fun b => mp [] 0 (K45 b)) (p1 := x33) (Jl2 ((f21.mx (no_own (no_int _) _) m25 R (R : 5 + 2 = 7)).stp (S38.tr S46) R R).rdc (mp [] 0) R R) (Jl2 fe49_0 (mp [] 0) R R) (Jl2 fe49_1 (mp [] 0) R R) hx35) ?_)
 rintro _ w51 ⟨k52, rfl, e53⟩
 obtain ⟨K54, S55, m56⟩ := Ji e53 9 R
 refine ⟨tv, Jb 1 R (Ob h fun q4 h hK58 => Jx1 (fun L w' => ∃ κ' ad af, L = [(7, .slice ad q4.length af), (8, .slice ak x17.1.length an), (9, .slice ao x17.2.1.length ah), (10, .bool x17.2.2), (11, vi s1.2)] ∧ Stp [4] K54 w51 κ' w' ∧ Oc E6 2 κ' w' 4 ad af q4) ?_ ?_)⟩
 revert h
 cases ht63 : decide (0 ≤ x35)
 refine JF fun h => Jy R (Js ?_)
 cases h
 exact Jw1 _ ⟨K54, aa, ab, R, (Jx2 _ _).wk R, (f39.stp (S46.tr S55) R R)⟩ (KM R)
 refine JT fun h => Jx R (Ja [2, 2, 1, 1, 2] R (Jn 2 R (Jn1 (κ := K54) (E := E6) 11 [] (parts := [(0, .tmp 38)]) (cells := [vi s1.2]) (xs := ([s1.2] : List Int)) R R R R R R Y40 Tryzinfo2 R R R R R R R R R R ⟨[vi s1.2], [], Zl K54 w51 [], Zl K54 w51 [], R, Zl.sp (l1 := []) (l2 := []) R, Zl.sr (l1 := []) (l2 := []), R, R⟩ fun av aw w64 K65 S66 f67 => ⟨tv, Ob h fun x40 hx40 h => Jm1 (κ := K65) (E := E6) 4 [] R R R R R R R R R Y40 Tryzinfo2 R R R R (f39.stp (S46.tr (S55.tr S66)) R R) (Sl.srcP (pu_int _) f67.rdc) sy_false hx40 R fun ap ar w69 K70 S71 f72 => ⟨tv, Jc 1 R ?_⟩⟩)))
 cases h
 exact Jw1 _ ⟨K70, ap, ar, R, (S66.tr S71).wk R, f72⟩ (KM R)
 rintro _ w59 ⟨K60, ad, af, rfl, S61, f62⟩
 have h := hK58
 refine Jz (Jp (Ja [2, 2, 2] R (Jc 3 R ?_)))
 cases h
 exact Jz1 fun a ha => ⟨k, _, Ja3 _, ⟨K60, ((q4 : (List Int)), ((IntKind.i64.wrap (s1.2 + 1)) : Int)), ad, af, R, (S38.tr (S46.tr (S55.tr S61))).wk R, f62, hk41⟩, (ha.mm R)⟩
 rintro _ w32 ⟨K33, s3, ac, ae, rfl, S34, f35, rfl⟩
 have h := hK30
 dsimp only [aft] at h
 refine Jp (Je [2, 2] R (Jb 2 R (Ju (Ja2 (l := [.tmp 6]) V18 (Jp2 R R) R ?_))))
 cases h
 exact ⟨(fun b => ren [(4, 2)] (K33 b)), ac, ae, R, ((hE.stp (S3.tr (S7.tr (S11.tr (S24.tr S34)))) R R).map (ren [(4, 2)]) R R), (f35.map (ren [(4, 2)]) R R)⟩
theorem l_FnExactBreaksIn_ok {w : World} {κ : Col} {p0 : Sig} {aa ac ad ab} {p1 : Machine} {a2 u2} {p2 : (List Clause)} (g1_0 : Rd (Rp.sl (Rp.int .i64)) κ w 0 aa ac p1.Next) (g1_1 : Rd (Rp.sl (Rp.int .i64)) κ w 0 ad ab p1.Out) (g2 : Rd Clause.rp κ w 0 a2 u2 p2) {r : Bool} (h : l_FnExactBreaksIn p0 p1 p2 = some r) : Ret Tryz.prog 4 [.agg #[vi p0.In, vi p0.Out], .agg #[.slice aa p1.Next.length ac, .slice ad p1.Out.length ab], .slice a2 p2.length u2] w (fun v w' => ∃ (κ' : Col), v = .bool r ∧ Ent κ w κ' w') := by
 unfold l_FnExactBreaksIn at h
 refine Ret.enter F4 R N4 R ?_
 dsimp only [envOf]
 have hE := Ent.refl κ w
 refine Je [1, 1, 2] R (Jf1 (κ := κ) 2 R R R R R R R fun b3 w1 K2 S3 f4 => ⟨tv, Jf1 (κ := K2) 3 R R R R R R R fun b4 w5 K6 S7 f8 => ⟨tv, Jb 1 R (Je [2] R (Jb 1 R (Je [1, 2, 1, 2] R (Jl tv R R R R (Jd2 (cs := [.slice aa p1.Next.length ac, .slice ad p1.Out.length ab]) I26 Z26 R R R (haE f8.cells)) (Jn 1 R (Ob h fun x18 hx18 h => ?_))))))⟩⟩)
 have f9 := g1_0.stp (S3.tr S7) R R
 have f10 := g1_1.stp (S3.tr S7) R R
 refine Jh R R R C9 (l_szMachine_ok (κ := fun b => mp [] 0 (K6 b)) (p0 := p1) (Jl2 f9 (mp [] 0) R R) (Jl2 f10 (mp [] 0) R R) hx18) ?_
 rintro _ w11 ⟨k12, rfl, e13⟩
 obtain ⟨K14, S15, m16⟩ := Ji e13 4 R
 refine ⟨tv, Jb 1 R (Jq (Je [2, 2] R (Jb 2 R ?_)))⟩
 revert h
 cases ht18 : decide (x18 < 0)
 refine JF fun h => Jy R (Js (Jp (Je [2, 2, 1, 2] R (Jn 2 R (Ob h fun x23 hx23 h => ?_)))))
 have f20 := g2.stp (S3.tr (S7.tr S15)) R R
 refine Jh R R R C10 (l_szClauseS_ok (κ := fun b => mp [] 0 (K14 b)) (Jl2 f20 (mp [] 0) R R) hx23) ?_
 rintro _ w21 ⟨k22, rfl, e23⟩
 obtain ⟨K24, S25, m26⟩ := Ji e23 6 R
 refine ⟨tv, Jb 1 R (Jq (Je [2, 2] R (Jb 2 R ?_)))⟩
 revert h
 cases ht28 : decide (x23 < 0)
 refine JF fun h => Jy R (Js (Jp (Jq (Js1 (κ := K24) [2, 3] none [(4, 2), (0, 0), (2, 0), (1, 1), (3, 1), (5, 1), (6, 1), (7, 2)] [] (by kernel_rfl) (by kernel_rfl) fun w31 S30 => Jn 1 R ?_))))
 have f32 := f4.stp (S7.tr (S15.tr (S25.tr S30))) R R
 refine Jg R (Jd2 (cs := [vi p0.In, vi p0.Out]) I23 Z23 R R R (haC f32.cells R)) ?_
 have f33 := f8.stp (S15.tr (S25.tr S30)) R R
 refine Jg R (Jd2 (cs := [.slice aa p1.Next.length ac, .slice ad p1.Out.length ab]) I26 Z26 R R R (haC f33.cells R)) (Ob h fun x27 hx27 h => Jh R R R C12 (l_toSig_ok (κ := fun b => mp [] 0 (K24 b)) (p0 := p0) hx27) ?_)
 rintro _ w34 ⟨k35, rfl, e36⟩
 obtain ⟨K37, S38, m39⟩ := Ji e36 8 R
 refine ⟨(S38.cl R), Ob h fun x29 hx29 h => ?_⟩
 have f41 := f9.stp (S15.tr (S25.tr (S30.tr S38))) R R
 have f42 := f10.stp (S15.tr (S25.tr (S30.tr S38))) R R
 refine Jh R R R C13 (l_toMachine_ok (κ := fun b => mp [] 0 (K37 b)) (p0 := p1) (Jl2 f41 (mp [] 0) R R) (Jl2 f42 (mp [] 0) R R) hx29) ?_
 rintro _ w43 ⟨k44, aJ, av, aq, aG, rfl, e45, f46, f47⟩
 obtain ⟨K48, S49, m50⟩ := Ji e45 10 R
 refine ⟨((S38.tr S49).cl R), Ob h fun x31 hx31 h => ?_⟩
 have f54 := f20.stp (S25.tr (S30.tr (S38.tr S49))) R R
 refine Jh R R R C14 (l_toClauseS_ok (κ := fun b => mp [] 0 (K48 b)) (Jl2 f54 (mp [] 0) R R) hx31) ?_
 rintro _ w55 ⟨k56, aw, aF, rfl, e57, f58⟩
 obtain ⟨K59, S60, m61⟩ := Ji e57 14 R
 refine ⟨((S38.tr (S49.tr S60)).cl R), Ob h fun x32 hx32 h => Jh R R R C18 (s_BreaksIn_ok (κ := fun b => mp [] 0 (K59 b)) (p0 := x27) (p1 := x29) (Jl2 ((f46.mx (no_own (no_int _) _) m50 R (R : 10 + 2 = 12)).stp S60 R R).rdc (mp [] 0) R R) (Jl2 ((f47.mx (no_own (no_int _) _) m50 R (R : 10 + 3 = 13)).stp S60 R R).rdc (mp [] 0) R R) (Jl2 (f58.mx Clause.no71 m61 R (R : 14 + 2 = 16)).rdc (mp [] 0) R R) hx32) ?_⟩
 rintro _ w66 ⟨k67, aj, am, rfl, e68, f69⟩
 obtain ⟨K70, S71, m72⟩ := Ji e68 17 R
 refine ⟨((S38.tr (S49.tr (S60.tr S71))).cl R), Jn 1 R (Jt1 (Jd (Je [1, 1, 1, 1] R ?_)))⟩
 have f75 := f33.stp (S38.tr (S49.tr (S60.tr S71))) R R
 refine Jl tv R R R R (Jd2 (cs := [.slice aa p1.Next.length ac, .slice ad p1.Out.length ab]) I26 Z26 R R R (haE f75.cells)) (Ob h fun x34 hx34 h => ?_)
 have f76 := f41.stp (S49.tr (S60.tr S71)) R R
 have f77 := f42.stp (S49.tr (S60.tr S71)) R R
 refine Jh R R R C13 (l_toMachine_ok (κ := fun b => mp [] 0 (K70 b)) (p0 := p1) (Jl2 f76 (mp [] 0) R R) (Jl2 f77 (mp [] 0) R R) hx34) ?_
 rintro _ w78 ⟨k79, af, ai, ah, ae, rfl, e80, f81, f82⟩
 obtain ⟨K83, S84, m85⟩ := Ji e80 20 R
 refine ⟨tv, Jg1 (κ := K83) 24 R R R R R X33 R fun b9 w89 K90 S91 f92 => ⟨tv, Jj1 (κ := K90) 24 (vc := [.slice af x34.Next.length ai, .slice ah x34.Out.length ae]) R R R R R R R Z33 R R f92 R fun w93 S94 f95 => ⟨tv, Jd (Je [2, 1, 2] R (Jn 1 R (Ob h fun x36 hx36 h => ?_)))⟩⟩⟩
 have f96 := f54.stp (S60.tr (S71.tr (S84.tr (S91.tr S94)))) R R
 refine Jh R R R C14 (l_toClauseS_ok (κ := fun b => mp [] 0 (K90 b)) (Jl2 f96 (mp [] 0) R R) hx36) ?_
 rintro _ w97 ⟨k98, aE, aB, rfl, e99, f100⟩
 obtain ⟨K101, S102, m103⟩ := Ji e99 25 R
 refine ⟨tv, Jb 1 R (Jq (Js1 (κ := K101) [2, 24] none [(3, 2), (0, 0), (2, 0), (1, 1), (4, 1), (5, 2)] [] (by kernel_rfl) (by kernel_rfl) fun w107 S106 => Jn 1 R ?_))⟩
 have f108 := f32.stp (S38.tr (S49.tr (S60.tr (S71.tr (S84.tr (S91.tr (S94.tr (S102.tr S106)))))))) R R
 refine Jg R (Jd2 (cs := [vi p0.In, vi p0.Out]) I23 Z23 R R R (haC f108.cells R)) ?_
 have f109 := f95.stp (S102.tr S106) R R
 refine Jg R (Jd2 (cs := [.slice af x34.Next.length ai, .slice ah x34.Out.length ae]) I33 Z33 R R R (haC f109.cells R)) (Ob h fun x38 hx38 h => Jh R R R C12 (l_toSig_ok (κ := fun b => mp [] 0 (K101 b)) (p0 := p0) hx38) ?_)
 rintro _ w110 ⟨k111, rfl, e112⟩
 obtain ⟨K113, S114, m115⟩ := Ji e112 28 R
 refine ⟨(S114.cl R), Ob h fun x41 hx41 h => ?_⟩
 have f117 := (f81.mx (no_own (no_int _) _) m85 R (R : 20 + 2 = 22)).stp (S91.tr (S94.tr (S102.tr (S106.tr S114)))) R R
 have f118 := (f82.mx (no_own (no_int _) _) m85 R (R : 20 + 3 = 23)).stp (S91.tr (S94.tr (S102.tr (S106.tr S114)))) R R
 have f119 := (f100.mx Clause.no71 m103 R (R : 25 + 2 = 27)).stp (S106.tr S114) R R
 refine Jh R R R C19 (i_BreaksIn_ok (κ := fun b => mp [] 0 (K113 b)) (p0 := x38) (p1 := x34) (Jl2 f117.rdc (mp [] 0) R R) (Jl2 f118.rdc (mp [] 0) R R) (Jl2 f119.rdc (mp [] 0) R R) hx41) ?_
 rintro _ w120 ⟨k121, al, ak, rfl, e122, f123⟩
 obtain ⟨K124, S125, m126⟩ := Ji e122 30 R
 refine ⟨((S114.tr S125).cl R), ?_⟩
 have f128 := f123.mx (no_int _) m126 R (R : 30 + 2 = 32)
 refine Jn 1 R (Jt1 (Jd (Jq (Je [2, 2, 1, 2] R (Jn 2 R (Ob h fun x44 hx44 h => ?_))))))
 have f129 := (f69.mx (no_int _) m72 R (R : 17 + 2 = 19)).stp (S84.tr (S91.tr (S94.tr (S102.tr (S106.tr (S114.tr S125)))))) R R
 refine Jh R R R C20 (l_eqInt64S_ok (κ := fun b => mp [] 0 (K124 b)) (Jl2 f128.rdc (mp [] 0) R R) (Jl2 f129.rdc (mp [] 0) R R) hx44) ?_
 rintro _ w130 ⟨k131, rfl, e132⟩
 obtain ⟨K133, S134, m135⟩ := Ji e132 33 R
 refine ⟨tv, Jb 1 R ?_⟩
 revert h
 cases ht137 : (!x44)
 refine JF fun h => Jy R (Js (Jp (Jq (Jq (Js1 (κ := K133) [3, 24] none [(0, 0), (1, 0), (2, 1), (3, 1), (4, 2)] [] (by kernel_rfl) (by kernel_rfl) fun w140 S139 => ?_)))))
 have f141 := f109.stp (S114.tr (S125.tr (S134.tr S139))) R R
 refine Jg R (Jd2 (cs := [.slice af x34.Next.length ai, .slice ah x34.Out.length ae]) I33 Z33 R R R (haC f141.cells R)) ?_
 have f142 := f75.stp (S84.tr (S91.tr (S94.tr (S102.tr (S106.tr (S114.tr (S125.tr (S134.tr S139)))))))) R R
 refine Jg R (Jd2 (cs := [.slice aa p1.Next.length ac, .slice ad p1.Out.length ab]) I26 Z26 R R R (haC f142.cells R)) (Ob h fun x48 hx48 h => ?_)
 have f143 := f76.stp (S84.tr (S91.tr (S94.tr (S102.tr (S106.tr (S114.tr (S125.tr (S134.tr S139)))))))) R R
 have f144 := f77.stp (S84.tr (S91.tr (S94.tr (S102.tr (S106.tr (S114.tr (S125.tr (S134.tr S139)))))))) R R
 refine Jh R R R C13 (l_toMachine_ok (κ := fun b => mp [] 0 (K133 b)) (p0 := p1) (Jl2 f143 (mp [] 0) R R) (Jl2 f144 (mp [] 0) R R) hx48) ?_
 rintro _ w145 ⟨k146, aC, aH, ar, ay, rfl, e147, f148, f149⟩
 obtain ⟨K150, S151, m152⟩ := Ji e147 35 R
 refine ⟨(S151.cl R), Ob h fun x49 hx49 h => ?_⟩
 have f156 := f117.stp (S125.tr (S134.tr (S139.tr S151))) R R
 have f157 := f118.stp (S125.tr (S134.tr (S139.tr S151))) R R
 refine Jh R R R C16 (l_eqMachine_ok (κ := fun b => mp [] 0 (K150 b)) (p0 := x34) (p1 := x48) (Jl2 f156.rdc (mp [] 0) R R) (Jl2 f157.rdc (mp [] 0) R R) (Jl2 (f148.mx (no_own (no_int _) _) m152 R (R : 35 + 2 = 37)).rdc (mp [] 0) R R) (Jl2 (f149.mx (no_own (no_int _) _) m152 R (R : 35 + 3 = 38)).rdc (mp [] 0) R R) hx49) ?_
 rintro _ w158 ⟨k159, rfl, e160⟩
 obtain ⟨K161, S162, m163⟩ := Ji e160 39 R
 refine ⟨((S151.tr S162).cl R), Jn 1 R (Jt1 (Jd ?_))⟩
 revert h
 cases ht165 : (!x49)
 refine JF fun h => Jy R (Js (Jp (Jq (Je [2, 2, 1, 1, 2] R (Jn 2 R (Ob h fun x53 hx53 h => ?_))))))
 have f167 := f96.stp (S102.tr (S106.tr (S114.tr (S125.tr (S134.tr (S139.tr (S151.tr S162))))))) R R
 refine Jh R R R C14 (l_toClauseS_ok (κ := fun b => mp [] 0 (K161 b)) (Jl2 f167 (mp [] 0) R R) hx53) ?_
 rintro _ w168 ⟨k169, aI, ao, rfl, e170, f171⟩
 obtain ⟨K172, S173, m174⟩ := Ji e170 41 R
 refine ⟨tv, Ob h fun x54 hx54 h => ?_⟩
 have f177 := f119.stp (S125.tr (S134.tr (S139.tr (S151.tr (S162.tr S173))))) R R
 refine Jh R R R C17 (l_eqClauseS_ok (κ := fun b => mp [] 0 (K172 b)) (Jl2 f177.rdc (mp [] 0) R R) (Jl2 (f171.mx Clause.no71 m174 R (R : 41 + 2 = 43)).rdc (mp [] 0) R R) hx54) ?_
 rintro _ w178 ⟨k179, rfl, e180⟩
 obtain ⟨K181, S182, m183⟩ := Ji e180 44 R
 refine ⟨tv, Jb 1 R ?_⟩
 revert h
 cases ht185 : (!x54)
 have S001 := (S162.tr (S173.tr S182))
 refine JF fun h => Jy R (Js (Jp (Je [2] R (Jb 1 R (Je [1, 2, 1, 2] R (Jl tv R R R R (Jd2 (cs := [.slice af x34.Next.length ai, .slice ah x34.Out.length ae]) I33 Z33 R R R (haE (f141.stp (S151.tr (S162.tr (S173.tr S182))) R R).cells)) (Jn 1 R (Ob h fun x58 hx58 h => Jh R R R C21 (l_markMachine_ok (κ := fun b => mp [(22, 2), (23, 3)] 0 (K181 b)) (p0 := x34) ((f156.stp S001 R R).map (mp [(22, 2), (23, 3)] 0) R R) ((f157.stp S001 R R).map (mp [(22, 2), (23, 3)] 0) R R) hx58) ?_))))))))
 rintro _ w190 ⟨k191, rfl, e192, f193, hn194, f195, hn196⟩
 obtain ⟨K197, S198, m199⟩ := Ji e192 46 R
 refine ⟨tv, Jb 1 R (Je [2, 2, 1, 2] R (Jn 2 R (Ob h fun x61 hx61 h => Jh R R R C22 (l_markClauseS_ok (κ := fun b => mp [(27, 2)] 0 (K197 b)) ((f177.stp (S182.tr S198) R R).map (mp [(27, 2)] 0) R R) hx61) ?_)))⟩
 rintro _ w204 ⟨k205, rfl, e206, f207, hn208⟩
 obtain ⟨K209, S210, m211⟩ := Ji e206 50 R
 refine ⟨tv, Jb 1 R (Jq (Je [2, 2, 2, 2, 2, 1, 2, 2] R (Jn 3 R (Ob h fun p69 h hK214 => Ju1 [(3, 2), (4, 2), (5, 1), (6, 2), (7, 2)] [] (fun L w' => L = [(2, .slice a2 p2.length u2), (3, .pointer (some ⟨b3, 0, none⟩)), (4, .pointer (some ⟨b4, 0, none⟩)), (8, .slice aj x32.length am), (11, .slice al x41.length ak), (69, .bool p69)] ∧ ∃ κ', Stp [] K209 w204 κ' w') tv ?_ ?_))))⟩
 revert h
 cases ht215 : decide (x61.1 < 0)
 have S002 := (S134.tr (S139.tr (S151.tr (S162.tr (S173.tr (S182.tr (S198.tr S210)))))))
 refine JF fun h => Jn 2 R (Ob h fun x67 hx67 h => Jh R R R C20 (l_eqInt64S_ok (κ := fun b => mp [] 0 (K209 b)) (Jl2 (f128.stp S002 R R).rdc (mp [] 0) R R) (Jl2 (f129.stp S002 R R).rdc (mp [] 0) R R) hx67) ?_)
 rintro _ w218 ⟨k219, rfl, e220⟩
 obtain ⟨K221, S222, m223⟩ := Ji e220 53 R
 refine ⟨tv, Jn 2 R ?_⟩
 cases h
 exact Jv1 _ tv ⟨R, _, S222.wk R⟩ (KM R)
 refine JT fun h => Jn 2 R (Jd1 R R R R (Jn 2 R ?_))
 cases h
 exact Jv1 _ tv ⟨R, _, (Jx2 _ _).wk R⟩ (KM R)
 rintro _ w225 _ ⟨rfl, K226, S227⟩
 have h := hK214
 refine Jd ?_
 revert h
 cases ht228 : p69
 refine JF fun h => Jy R (Js (Jp (Je [2] R (Jb 1 R (Je [2, 2, 1, 2] R (Jn 2 R (Ob h fun x72 hx72 h => Jh R R R C23 (l_markInt64S_ok (κ := fun b => mp [(32, 2)] 0 (K226 b)) ((f128.stp (S134.tr (S139.tr (S151.tr (S162.tr (S173.tr (S182.tr (S198.tr (S210.tr S227)))))))) R R).map (mp [(32, 2)] 0) R R) hx72) ?_)))))))
 rintro _ w231 ⟨k232, rfl, e233, f234, hn235⟩
 obtain ⟨K236, S237, m238⟩ := Ji e233 53 R
 refine ⟨tv, ?_⟩
 have f240 := f234.mx (no_int _) m238 R (R : 53 + 2 = 55)
 refine Jb 1 R (Je [2] R (Jb 1 R (Je [2, 2, 1, 2] R (Jn 2 R (Ob h fun x75 hx75 h => Jh R R R C24 (Ret.cast (by simp only [(hn235), List.cons_append, List.nil_append]) (l_heldInt64S_ok (κ := fun b => mp [] 0 (K236 b)) (Jl2 f240.rdc (mp [] 0) R R) hx75)) ?_)))))
 rintro _ w241 ⟨k242, rfl, e243⟩
 obtain ⟨K244, S245, m246⟩ := Ji e243 56 R
 refine ⟨tv, Jb 1 R (Jq (Je [2, 2] R (Jb 2 R ?_)))⟩
 revert h
 cases ht248 : decide (x75 < 0)
 refine JF fun h => Jy R (Js (Jp (Jq (Je [2, 2, 2] R (Jb 3 R ?_)))))
 revert h
 cases ht250 : (x75 != x72.1)
 refine JF fun h => Jy R (Js (Jp (Jq (Js1 (κ := K244) [2, 3] none [(4, 2), (0, 0), (2, 0), (1, 1), (3, 1), (5, 1), (6, 1), (7, 2)] [] (by kernel_rfl) (by kernel_rfl) fun w253 S252 => Jn 1 R (Jg R (Jd2 (cs := [vi p0.In, vi p0.Out]) I23 Z23 R R R (haC (f108.stp (S114.tr (S125.tr (S134.tr (S139.tr (S151.tr (S162.tr (S173.tr (S182.tr (S198.tr (S210.tr (S227.tr (S237.tr (S245.tr S252))))))))))))) R R).cells R)) (Jg R (Jd2 (cs := [.slice aa p1.Next.length ac, .slice ad p1.Out.length ab]) I26 Z26 R R R (haC (f142.stp (S151.tr (S162.tr (S173.tr (S182.tr (S198.tr (S210.tr (S227.tr (S237.tr (S245.tr S252))))))))) R R).cells R)) (Ob h fun x82 hx82 h => Jh R R R C12 (l_toSig_ok (κ := fun b => mp [] 0 (K244 b)) (p0 := p0) hx82) ?_)))))))
 rintro _ w256 ⟨k257, rfl, e258⟩
 obtain ⟨K259, S260, m261⟩ := Ji e258 58 R
 have S003 := (S151.tr (S162.tr (S173.tr (S182.tr (S198.tr (S210.tr (S227.tr (S237.tr (S245.tr (S252.tr S260))))))))))
 refine ⟨(S260.cl R), Ob h fun x84 hx84 h => Jh R R R C13 (l_toMachine_ok (κ := fun b => mp [] 0 (K259 b)) (p0 := p1) (Jl2 (f143.stp S003 R R) (mp [] 0) R R) (Jl2 (f144.stp S003 R R) (mp [] 0) R R) hx84) ?_⟩
 rintro _ w265 ⟨k266, au, az, ap, ax, rfl, e267, f268, f269⟩
 obtain ⟨K270, S271, m272⟩ := Ji e267 60 R
 refine ⟨((S260.tr S271).cl R), Ob h fun x86 hx86 h => Jh R R R C14 (l_toClauseS_ok (κ := fun b => mp [] 0 (K270 b)) (Jl2 (f167.stp (S173.tr (S182.tr (S198.tr (S210.tr (S227.tr (S237.tr (S245.tr (S252.tr (S260.tr S271))))))))) R R) (mp [] 0) R R) hx86) ?_⟩
 rintro _ w277 ⟨k278, aK, an, rfl, e279, f280⟩
 obtain ⟨K281, S282, m283⟩ := Ji e279 64 R
 refine ⟨((S260.tr (S271.tr S282)).cl R), Ob h fun x87 hx87 h => Jh R R R C19 (i_BreaksIn_ok (κ := fun b => mp [] 0 (K281 b)) (p0 := x82) (p1 := x84) (Jl2 ((f268.mx (no_own (no_int _) _) m272 R (R : 60 + 2 = 62)).stp S282 R R).rdc (mp [] 0) R R) (Jl2 ((f269.mx (no_own (no_int _) _) m272 R (R : 60 + 3 = 63)).stp S282 R R).rdc (mp [] 0) R R) (Jl2 (f280.mx Clause.no71 m283 R (R : 64 + 2 = 66)).rdc (mp [] 0) R R) hx87) ?_⟩
 rintro _ w288 ⟨k289, aD, aA, rfl, e290, f291⟩
 obtain ⟨K292, S293, m294⟩ := Ji e290 67 R
 refine ⟨((S260.tr (S271.tr (S282.tr S293))).cl R), Jn 1 R (Jt1 (Jd (Jq (Je [2, 2, 1, 2] R (Jn 2 R (Ob h fun x90 hx90 h => Jh R R R C20 (l_eqInt64S_ok (κ := fun b => mp [] 0 (K292 b)) (Jl2 (f291.mx (no_int _) m294 R (R : 67 + 2 = 69)).rdc (mp [] 0) R R) (Jl2 (f129.stp (S134.tr (S139.tr (S151.tr (S162.tr (S173.tr (S182.tr (S198.tr (S210.tr (S227.tr (S237.tr (S245.tr (S252.tr (S260.tr (S271.tr (S282.tr S293))))))))))))))) R R).rdc (mp [] 0) R R) hx90) ?_))))))⟩
 rintro _ w298 ⟨k299, rfl, e300⟩
 obtain ⟨K301, S302, m303⟩ := Ji e300 70 R
 refine ⟨tv, Jb 1 R ?_⟩
 revert h
 cases ht305 : (!x90)
 refine JF fun h => Jy R (Js (Jp (Je [2] R (Jb 1 R (Je [2, 2, 1, 2] R (Jn 2 R (Ob h fun x94 hx94 h => Jh R R R C24 (Ret.cast (by simp only [(hn235), List.cons_append, List.nil_append]) (l_heldInt64S_ok (κ := fun b => mp [] 0 (K301 b)) (Jl2 (f240.stp (S245.tr (S252.tr (S260.tr (S271.tr (S282.tr (S293.tr S302)))))) R R).rdc (mp [] 0) R R) hx94)) ?_)))))))
 rintro _ w308 ⟨k309, rfl, e310⟩
 obtain ⟨K311, S312, m313⟩ := Ji e310 72 R
 refine ⟨tv, Jb 1 R (Jq (Je [2, 2] R (Jb 2 R ?_)))⟩
 revert h
 cases ht315 : decide (x94 < 0)
 refine JF fun h => Jy R (Js (Jp (Jq (Je [2, 2, 2] R (Jb 3 R ?_)))))
 revert h
 cases ht317 : (x94 != x72.1)
 refine JF fun h => Jy R (Js (Jp (Je [2] R (Jb 1 R (Ju (Ja2 (l := [.tmp 6]) V4 (Jp2 R R) R ?_))))))
 cases h
 exact ⟨K311, R, (hE.stp (S3.tr (S7.tr (S15.tr (S25.tr (S30.tr (S38.tr (S49.tr (S60.tr (S71.tr (S84.tr (S91.tr (S94.tr (S102.tr (S106.tr (S114.tr (S125.tr (S134.tr (S139.tr (S151.tr (S162.tr (S173.tr (S182.tr (S198.tr (S210.tr (S227.tr (S237.tr (S245.tr (S252.tr (S260.tr (S271.tr (S282.tr (S293.tr (S302.tr S312))))))))))))))))))))))))))))))))) R R)⟩
 refine JT fun h => Jx R (Je [2] R (Jb 1 R (Ju (Jw (Ja2 (l := [.tmp 6]) V4 (Jp2 R R) R ?_)))))
 cases h
 exact ⟨K311, R, (hE.stp (S3.tr (S7.tr (S15.tr (S25.tr (S30.tr (S38.tr (S49.tr (S60.tr (S71.tr (S84.tr (S91.tr (S94.tr (S102.tr (S106.tr (S114.tr (S125.tr (S134.tr (S139.tr (S151.tr (S162.tr (S173.tr (S182.tr (S198.tr (S210.tr (S227.tr (S237.tr (S245.tr (S252.tr (S260.tr (S271.tr (S282.tr (S293.tr (S302.tr S312))))))))))))))))))))))))))))))))) R R)⟩
 refine JT fun h => Jx R (Je [2] R (Jb 1 R (Ju (Jw (Ja2 (l := [.tmp 6]) V4 (Jp2 R R) R ?_)))))
 cases h
 exact ⟨K311, R, (hE.stp (S3.tr (S7.tr (S15.tr (S25.tr (S30.tr (S38.tr (S49.tr (S60.tr (S71.tr (S84.tr (S91.tr (S94.tr (S102.tr (S106.tr (S114.tr (S125.tr (S134.tr (S139.tr (S151.tr (S162.tr (S173.tr (S182.tr (S198.tr (S210.tr (S227.tr (S237.tr (S245.tr (S252.tr (S260.tr (S271.tr (S282.tr (S293.tr (S302.tr S312))))))))))))))))))))))))))))))))) R R)⟩
 refine JT fun h => Jx R (Je [2] R (Jb 1 R (Ju (Jw (Ja2 (l := [.tmp 6]) V4 (Jp2 R R) R ?_)))))
 cases h
 exact ⟨K301, R, (hE.stp (S3.tr (S7.tr (S15.tr (S25.tr (S30.tr (S38.tr (S49.tr (S60.tr (S71.tr (S84.tr (S91.tr (S94.tr (S102.tr (S106.tr (S114.tr (S125.tr (S134.tr (S139.tr (S151.tr (S162.tr (S173.tr (S182.tr (S198.tr (S210.tr (S227.tr (S237.tr (S245.tr (S252.tr (S260.tr (S271.tr (S282.tr (S293.tr S302)))))))))))))))))))))))))))))))) R R)⟩
 refine JT fun h => Jx R (Je [2] R (Jb 1 R (Ju (Jw (Ja2 (l := [.tmp 6]) V4 (Jp2 R R) R ?_)))))
 cases h
 exact ⟨K244, R, (hE.stp (S3.tr (S7.tr (S15.tr (S25.tr (S30.tr (S38.tr (S49.tr (S60.tr (S71.tr (S84.tr (S91.tr (S94.tr (S102.tr (S106.tr (S114.tr (S125.tr (S134.tr (S139.tr (S151.tr (S162.tr (S173.tr (S182.tr (S198.tr (S210.tr (S227.tr (S237.tr S245)))))))))))))))))))))))))) R R)⟩
 refine JT fun h => Jx R (Je [2] R (Jb 1 R (Ju (Jw (Ja2 (l := [.tmp 6]) V4 (Jp2 R R) R ?_)))))
 cases h
 exact ⟨K244, R, (hE.stp (S3.tr (S7.tr (S15.tr (S25.tr (S30.tr (S38.tr (S49.tr (S60.tr (S71.tr (S84.tr (S91.tr (S94.tr (S102.tr (S106.tr (S114.tr (S125.tr (S134.tr (S139.tr (S151.tr (S162.tr (S173.tr (S182.tr (S198.tr (S210.tr (S227.tr (S237.tr S245)))))))))))))))))))))))))) R R)⟩
 refine JT fun h => Jx R (Je [2] R (Jb 1 R (Ju (Jw (Ja2 (l := [.tmp 6]) V4 (Jp2 R R) R ?_)))))
 cases h
 exact ⟨K226, R, (hE.stp (S3.tr (S7.tr (S15.tr (S25.tr (S30.tr (S38.tr (S49.tr (S60.tr (S71.tr (S84.tr (S91.tr (S94.tr (S102.tr (S106.tr (S114.tr (S125.tr (S134.tr (S139.tr (S151.tr (S162.tr (S173.tr (S182.tr (S198.tr (S210.tr S227)))))))))))))))))))))))) R R)⟩
 refine JT fun h => Jx R (Je [2] R (Jb 1 R (Ju (Jw (Ja2 (l := [.tmp 6]) V4 (Jp2 R R) R ?_)))))
 cases h
 exact ⟨K181, R, (hE.stp (S3.tr (S7.tr (S15.tr (S25.tr (S30.tr (S38.tr (S49.tr (S60.tr (S71.tr (S84.tr (S91.tr (S94.tr (S102.tr (S106.tr (S114.tr (S125.tr (S134.tr (S139.tr (S151.tr (S162.tr (S173.tr S182))))))))))))))))))))) R R)⟩
 refine JT fun h => Jx R (Je [2] R (Jb 1 R (Ju (Jw (Ja2 (l := [.tmp 6]) V4 (Jp2 R R) R ?_)))))
 cases h
 exact ⟨K161, R, (hE.stp (S3.tr (S7.tr (S15.tr (S25.tr (S30.tr (S38.tr (S49.tr (S60.tr (S71.tr (S84.tr (S91.tr (S94.tr (S102.tr (S106.tr (S114.tr (S125.tr (S134.tr (S139.tr (S151.tr S162))))))))))))))))))) R R)⟩
 refine JT fun h => Jx R (Je [2] R (Jb 1 R (Ju (Jw (Ja2 (l := [.tmp 6]) V4 (Jp2 R R) R ?_)))))
 cases h
 exact ⟨K133, R, (hE.stp (S3.tr (S7.tr (S15.tr (S25.tr (S30.tr (S38.tr (S49.tr (S60.tr (S71.tr (S84.tr (S91.tr (S94.tr (S102.tr (S106.tr (S114.tr (S125.tr S134)))))))))))))))) R R)⟩
 refine JT fun h => Jx R (Je [2] R (Jb 1 R (Ju (Jw (Ja2 (l := [.tmp 6]) V4 (Jp2 R R) R ?_)))))
 cases h
 exact ⟨K24, R, (hE.stp (S3.tr (S7.tr (S15.tr S25))) R R)⟩
 refine JT fun h => Jx R (Je [2] R (Jb 1 R (Ju (Jw (Ja2 (l := [.tmp 6]) V4 (Jp2 R R) R ?_)))))
 cases h
 exact ⟨K14, R, (hE.stp (S3.tr (S7.tr S15)) R R)⟩
end Go.Proofs.YtcmamhmpoinmnaaGreat
