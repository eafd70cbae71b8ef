/- The walks, part 9. By program. -/
import Derived.Test.YtcmamhmpoinmnaaGreatFns8KA
set_option linter.unusedVariables false
set_option linter.unusedSimpArgs false
namespace Go.Proofs.YtcmamhmpoinmnaaGreat
open Go Go.Wk Go.Proofs
set_option maxRecDepth 100000
set_option maxHeartbeats 1000000
theorem s_BreaksIn_ok {w : World} {κ : Col} {p0 : Sig} {ai ah am al} {p1 : Machine} {a2 u2} {p2 : (List Clause)} (g1_0 : Rd (Rp.sl (Rp.int .i64)) κ w 0 ai ah p1.Next) (g1_1 : Rd (Rp.sl (Rp.int .i64)) κ w 0 am al p1.Out) (g2 : Rd Clause.rp κ w 0 a2 u2 p2) {r : (List Int)} (h : s_BreaksIn p0 p1 p2 = some r) : Ret Tryz.prog 18 [.agg #[vi p0.In, vi p0.Out], .agg #[.slice ai p1.Next.length ah, .slice am p1.Out.length al], .slice a2 p2.length u2] w (fun v w' => ∃ (κ' : Col) (ra0 : Option Addr) (ru0 : Nat), v = .slice ra0 r.length ru0 ∧ Ent κ w κ' w' ∧ Oc E6 2 κ' w' 2 ra0 ru0 r) := by
 unfold s_BreaksIn at h
 refine Ret.enter F18 R N18 R ?_
 dsimp only [envOf]
 have hE := Ent.refl κ w
 refine Je [1, 1, 2] R (Jf1 (κ := κ) 2 R R R R R R R fun b3 w1 K2 S3 f4 => ⟨tv, Jf1 (κ := K2) 3 R R R R R R R fun b4 w5 K6 S7 f8 => ⟨tv, Jb 1 R (Je [1, 2] R (Jo1 (κ := K6) (E := E6) 4 R R R R R Y40 Tryzinfo2 R fun ar au w9 K10 S11 f12 => ⟨tv, Jb 1 R (Je [1, 1, 2, 1, 2, 2, 2, 2, 2, 2, 2] R (Jl tv R R R R (Jd2 (cs := [vi p0.In, vi p0.Out]) I31 Z31 R R R (haE (f4.stp (S7.tr S11) R R).cells)) (Jl tv R R R R (Jd2 (cs := [.slice ai p1.Next.length ah, .slice am p1.Out.length al]) I33 Z33 R R R (haE (f8.stp S11 R R).cells)) (Jn 1 R (Ob h fun x17 hx17 h => Jh R R R C49 (s_l30All_ok (κ := fun b => mp [] 0 (K10 b)) (p0 := p0) (p1 := p1) (Jl2 (g1_0.stp (S3.tr (S7.tr S11)) R R) (mp [] 0) R R) (Jl2 (g1_1.stp (S3.tr (S7.tr S11)) R R) (mp [] 0) R R) (Jl2 (g2.stp (S3.tr (S7.tr S11)) R R) (mp [] 0) R R) hx17) ?_)))))⟩))⟩⟩)
 rintro _ w18 ⟨k19, ak, ao, an, aj, rfl, e20, f21, f22⟩
 obtain ⟨K23, S24, m25⟩ := Ji e20 5 R
 refine ⟨tv, ?_⟩
 have f28 := f22.mx Pair.no92 m25 R (R : 5 + 3 = 8)
 refine Jb 7 R (Jq (Je [2] R (Jb 1 R (Ob h fun q2 hq31 hK30 => ?_))))
 clear h
 refine Jx1 (fun L w' => ∃ κ', ∃ s3 : (List Int) × Int, ∃ ac ae, L = [(7, .slice ac s3.1.length ae)] ∧ Stp [4] K23 w18 κ' w' ∧ Oc E6 2 κ' w' 4 ac ae s3.1 ∧ q2 = Sum.inr s3) ?_ ?_
 refine Jv (Jy1 (fun k L w' => ∃ κ', ∃ s1 : (List Int) × Int, ∃ aa ab, L = [(7, .slice aa s1.1.length ab), (8, .slice ak x17.1.length ao), (9, .slice an x17.2.1.length aj), (10, .bool x17.2.2), (11, vi s1.2)] ∧ Stp [4] K23 w18 κ' w' ∧ Oc E6 2 κ' w' 4 aa ab s1.1 ∧ whileM (s_BreaksIn_b0 x17) k s1 = some q2) ⟨_, _, ⟨K23, ((([] : List Int) : (List Int)), (0 : Int)), ar, au, R, (Jx2 _ _).wk R, (f12.stp S24 R R), hq31⟩, (KM R)⟩ ?_)
 rintro k _ w36 ⟨K37, s1, aa, ab, rfl, S38, f39, h⟩
 rcases k with _ | k
 cases h
 obtain ⟨o29, h, hk41⟩ := BI h; unfold s_BreaksIn_b0 at h
 refine Jq (Je [2, 2, 2, 2, 2, 2, 2] R (Jn 2 R (Ob h fun p27 h hK42 => Ju1 [(2, 2), (3, 2), (4, 2), (5, 2), (6, 2)] [] (fun L w' => L = [(7, .slice aa s1.1.length ab), (8, .slice ak x17.1.length ao), (9, .slice an x17.2.1.length aj), (10, .bool x17.2.2), (11, vi s1.2), (27, .bool p27)] ∧ ∃ κ', Stp [] K37 w36 κ' w') tv ?_ ?_)))
 revert h
 cases ht43 : x17.2.2
 refine JF fun h => Jn 5 R ?_
 cases h
 exact Jv1 _ tv ⟨R, _, (Jx2 _ _).wk R⟩ (KM R)
 refine JT fun h => Jn 2 R (Jf R (Je2 U79 R R) (Jn 2 R ?_))
 cases h
 exact Jv1 _ tv ⟨R, _, (Jx2 _ _).wk R⟩ (KM R)
 rintro _ w44 _ ⟨rfl, K45, S46⟩
 have h := hK42
 refine Jd ?_
 revert h
 cases ht47 : p27
 refine JF fun h => Jy R (Jc1 (Jt (Jt ?_)))
 cases h
 have h := hk41
 refine Jb1 ?_
 cases h
 exact Jw1 _ ⟨K45, ((s1.1 : (List Int)), (s1.2 : Int)), aa, ab, R, (S38.tr S46).wk R, (f39.stp S46 R R), R⟩ (KM R)
 refine JT fun h => Jx R (Js (Jp (Jq (Jv (Je [2, 2, 2, 2, 1, 1, 2] R (Jn 3 R (Ob h fun x33 hx33 h => Jf R (Jf2 f28.rdc hx33 U79 Z92 R R R R) ?_)))))))
 obtain ⟨cse49, hre49, hle49⟩ := ((f28.stp (S38.tr S46) R R).rdc).gSt hx33
 obtain ⟨ae49_0, ue49_0, ae49_1, ue49_1, rfl, fe49_0, fe49_1⟩ := Pair.un hre49
 refine Jl tv R R R R (Jd2 (cs := [.slice ae49_0 x33.Ask.length ue49_0, .slice ae49_1 x33.Give.length ue49_1]) I92 Z92 R R R (haE hle49)) (Ob h fun x35 hx35 h => Jh R R R C56 (s_l30Broken_ok (κ := fun b => mp [] 0 (K45 b)) (p1 := x33) (Jl2 ((f21.mx (no_own (no_int _) _) m25 R (R : 5 + 2 = 7)).stp (S38.tr S46) R R).rdc (mp [] 0) R R) (Jl2 fe49_0 (mp [] 0) R R) (Jl2 fe49_1 (mp [] 0) R R) hx35) ?_)
 rintro _ w51 ⟨k52, rfl, e53⟩
 obtain ⟨K54, S55, m56⟩ := Ji e53 9 R
 refine ⟨tv, Jb 1 R (Ob h fun q4 h hK58 => Jx1 (fun L w' => ∃ κ' ad af, L = [(7, .slice ad q4.length af), (8, .slice ak x17.1.length ao), (9, .slice an x17.2.1.length aj), (10, .bool x17.2.2), (11, vi s1.2)] ∧ Stp [4] K54 w51 κ' w' ∧ Oc E6 2 κ' w' 4 ad af q4) ?_ ?_)⟩
 revert h
 cases ht63 : decide (0 ≤ x35)
 refine JF fun h => Jy R (Js ?_)
 cases h
 exact Jw1 _ ⟨K54, aa, ab, R, (Jx2 _ _).wk R, (f39.stp (S46.tr S55) R R)⟩ (KM R)
 refine JT fun h => Jx R (Ja [2, 2, 1, 1, 2] R (Jn 2 R (Jn1 (κ := K54) (E := E6) 11 [] (parts := [(0, .tmp 38)]) (cells := [vi s1.2]) (xs := ([s1.2] : List Int)) R R R R R R Y40 Tryzinfo2 R R R R R R R R R R ⟨[vi s1.2], [], Zl K54 w51 [], Zl K54 w51 [], R, Zl.sp (l1 := []) (l2 := []) R, Zl.sr (l1 := []) (l2 := []), R, R⟩ fun av aw w64 K65 S66 f67 => ⟨tv, Ob h fun x40 hx40 h => Jm1 (κ := K65) (E := E6) 4 [] R R R R R R R R R Y40 Tryzinfo2 R R R R (f39.stp (S46.tr (S55.tr S66)) R R) (Sl.srcP (pu_int _) f67.rdc) sy_false hx40 R fun ap aq w69 K70 S71 f72 => ⟨tv, Jc 1 R ?_⟩⟩)))
 cases h
 exact Jw1 _ ⟨K70, ap, aq, R, (S66.tr S71).wk R, f72⟩ (KM R)
 rintro _ w59 ⟨K60, ad, af, rfl, S61, f62⟩
 have h := hK58
 refine Jz (Jp (Ja [2, 2, 2] R (Jc 3 R ?_)))
 cases h
 exact Jz1 fun a ha => ⟨k, _, Ja3 _, ⟨K60, ((q4 : (List Int)), ((IntKind.i64.wrap (s1.2 + 1)) : Int)), ad, af, R, (S38.tr (S46.tr (S55.tr S61))).wk R, f62, hk41⟩, (ha.mm R)⟩
 rintro _ w32 ⟨K33, s3, ac, ae, rfl, S34, f35, rfl⟩
 have h := hK30
 dsimp only [aft] at h
 refine Jp (Je [2, 2] R (Jb 2 R (Ju (Ja2 (l := [.tmp 6]) V18 (Jp2 R R) R ?_))))
 cases h
 exact ⟨(fun b => ren [(4, 2)] (K33 b)), ac, ae, R, ((hE.stp (S3.tr (S7.tr (S11.tr (S24.tr S34)))) R R).map (ren [(4, 2)]) R R), (f35.map (ren [(4, 2)]) R R)⟩
theorem s_KeepsAll_ok {w : World} {κ : Col} {p0 : Sig} {ad ac aa ab} {p1 : Machine} {a2 u2} {p2 : (List Clause)} (g1_0 : Rd (Rp.sl (Rp.int .i64)) κ w 0 ad ac p1.Next) (g1_1 : Rd (Rp.sl (Rp.int .i64)) κ w 0 aa ab p1.Out) (g2 : Rd Clause.rp κ w 0 a2 u2 p2) {r : Bool} (h : s_KeepsAll p0 p1 p2 = some r) : Ret Tryz.prog 11 [.agg #[vi p0.In, vi p0.Out], .agg #[.slice ad p1.Next.length ac, .slice aa p1.Out.length ab], .slice a2 p2.length u2] w (fun v w' => ∃ (κ' : Col), v = .bool r ∧ Ent κ w κ' w') := by
 unfold s_KeepsAll at h
 refine Ret.enter F11 R N11 R ?_
 dsimp only [envOf]
 have hE := Ent.refl κ w
 refine Je [1, 1, 2] R (Jf1 (κ := κ) 2 R R R R R R R fun b3 w1 K2 S3 f4 => ⟨tv, Jf1 (κ := K2) 3 R R R R R R R fun b4 w5 K6 S7 f8 => ⟨tv, Jb 1 R (Je [1, 1, 2, 1, 2, 2, 2, 2, 2, 2, 2] R ?_)⟩⟩)
 have f9 := f4.stp S7 R R
 refine Jl tv R R R R (Jd2 (cs := [vi p0.In, vi p0.Out]) I31 Z31 R R R (haE f9.cells)) (Jl tv R R R R (Jd2 (cs := [.slice ad p1.Next.length ac, .slice aa p1.Out.length ab]) I33 Z33 R R R (haE f8.cells)) (Jn 1 R (Ob h fun x14 hx14 h => ?_)))
 have f10 := g1_0.stp (S3.tr S7) R R
 have f11 := g1_1.stp (S3.tr S7) R R
 have f12 := g2.stp (S3.tr S7) R R
 refine Jh R R R C49 (s_l30All_ok (κ := fun b => mp [] 0 (K6 b)) (p0 := p0) (p1 := p1) (Jl2 f10 (mp [] 0) R R) (Jl2 f11 (mp [] 0) R R) (Jl2 f12 (mp [] 0) R R) hx14) ?_
 rintro _ w13 ⟨k14, ak, af, ai, ae, rfl, e15, f16, f17⟩
 obtain ⟨K18, S19, m20⟩ := Ji e15 4 R
 refine ⟨tv, Jb 7 R (Je [2, 2, 1, 1, 2, 1, 2, 2, 2, 2] R (Jn 2 R (Ob h fun p26 h hK24 => Ju1 [(2, 1), (3, 1), (4, 2), (5, 1), (6, 2), (7, 2), (8, 2)] [(9, 2)] (fun L w' => L = [(6, .bool false), (26, .bool p26)] ∧ ∃ κ', Stp [] K18 w13 κ' w') tv ?_ ?_)))⟩
 revert h
 cases ht25 : x14.2.2
 refine JF fun h => Jd1 R R R R (Jd1 R R R R (Jn 1 R (Jd1 R R R R (Jn 3 R ?_))))
 cases h
 exact Jv1 _ tv ⟨R, _, (Jx2 _ _).wk R⟩ (KM R)
 refine JT fun h => Jl tv R R R R (Jd2 (cs := [vi p0.In, vi p0.Out]) I31 Z31 R R R (haE (f9.stp S19 R R).cells)) (Jl tv R R R R (Jd2 (cs := [.slice ad p1.Next.length ac, .slice aa p1.Out.length ab]) I33 Z33 R R R (haE (f8.stp S19 R R).cells)) (Jn 1 R (Ob h fun x23 hx23 h => Jh R R R C18 (s_BreaksIn_ok (κ := fun b => mp [] 0 (K18 b)) (p0 := p0) (p1 := p1) (Jl2 (f10.stp S19 R R) (mp [] 0) R R) (Jl2 (f11.stp S19 R R) (mp [] 0) R R) (Jl2 (f12.stp S19 R R) (mp [] 0) R R) hx23) ?_)))
 rintro _ w31 ⟨k32, aj, ah, rfl, e33, f34⟩
 obtain ⟨K35, S36, m37⟩ := Ji e33 8 R
 refine ⟨tv, Jf R (Je2 U40 R R) (Jn 2 R ?_)⟩
 cases h
 exact Jv1 _ tv ⟨R, _, S36.wk R⟩ (KM R)
 rintro _ w40 _ ⟨rfl, K41, S42⟩
 have h := hK24
 refine Jb 1 R (Ju (Ja2 (l := [.tmp 6]) V11 (Jp2 R R) R ?_))
 cases h
 exact ⟨K41, R, (hE.stp (S3.tr (S7.tr (S19.tr S42))) R R)⟩
theorem l_FnExactKeepsAll_ok {w : World} {κ : Col} {p0 : Sig} {ab aa ad ac} {p1 : Machine} {a2 u2} {p2 : (List Clause)} (g1_0 : Rd (Rp.sl (Rp.int .i64)) κ w 0 ab aa p1.Next) (g1_1 : Rd (Rp.sl (Rp.int .i64)) κ w 0 ad ac p1.Out) (g2 : Rd Clause.rp κ w 0 a2 u2 p2) {r : Bool} (h : l_FnExactKeepsAll p0 p1 p2 = some r) : Ret Tryz.prog 3 [.agg #[vi p0.In, vi p0.Out], .agg #[.slice ab p1.Next.length aa, .slice ad p1.Out.length ac], .slice a2 p2.length u2] w (fun v w' => ∃ (κ' : Col), v = .bool r ∧ Ent κ w κ' w') := by
 unfold l_FnExactKeepsAll at h
 refine Ret.enter F3 R N3 R ?_
 dsimp only [envOf]
 have hE := Ent.refl κ w
 refine Je [1, 1, 2] R (Jf1 (κ := κ) 2 R R R R R R R fun b3 w1 K2 S3 f4 => ⟨tv, Jf1 (κ := K2) 3 R R R R R R R fun b4 w5 K6 S7 f8 => ⟨tv, Jb 1 R (Je [2] R (Jb 1 R (Je [1, 2, 1, 2] R (Jl tv R R R R (Jd2 (cs := [.slice ab p1.Next.length aa, .slice ad p1.Out.length ac]) I26 Z26 R R R (haE f8.cells)) (Jn 1 R (Ob h fun x14 hx14 h => ?_))))))⟩⟩)
 have f9 := g1_0.stp (S3.tr S7) R R
 have f10 := g1_1.stp (S3.tr S7) R R
 refine Jh R R R C9 (l_szMachine_ok (κ := fun b => mp [] 0 (K6 b)) (p0 := p1) (Jl2 f9 (mp [] 0) R R) (Jl2 f10 (mp [] 0) R R) hx14) ?_
 rintro _ w11 ⟨k12, rfl, e13⟩
 obtain ⟨K14, S15, m16⟩ := Ji e13 4 R
 refine ⟨tv, Jb 1 R (Jq (Je [2, 2] R (Jb 2 R ?_)))⟩
 revert h
 cases ht18 : decide (x14 < 0)
 refine JF fun h => Jy R (Js (Jp (Je [2, 2, 1, 2] R (Jn 2 R (Ob h fun x19 hx19 h => ?_)))))
 have f20 := g2.stp (S3.tr (S7.tr S15)) R R
 refine Jh R R R C10 (l_szClauseS_ok (κ := fun b => mp [] 0 (K14 b)) (Jl2 f20 (mp [] 0) R R) hx19) ?_
 rintro _ w21 ⟨k22, rfl, e23⟩
 obtain ⟨K24, S25, m26⟩ := Ji e23 6 R
 refine ⟨tv, Jb 1 R (Jq (Je [2, 2] R (Jb 2 R ?_)))⟩
 revert h
 cases ht28 : decide (x19 < 0)
 refine JF fun h => Jy R (Js (Jp (Jq (Js1 (κ := K24) [2, 3] none [(4, 2), (0, 0), (2, 0), (1, 1), (3, 1), (5, 1), (6, 1), (7, 2)] [] (by kernel_rfl) (by kernel_rfl) fun w31 S30 => Jn 1 R ?_))))
 have f32 := f4.stp (S7.tr (S15.tr (S25.tr S30))) R R
 refine Jg R (Jd2 (cs := [vi p0.In, vi p0.Out]) I23 Z23 R R R (haC f32.cells R)) ?_
 have f33 := f8.stp (S15.tr (S25.tr S30)) R R
 refine Jg R (Jd2 (cs := [.slice ab p1.Next.length aa, .slice ad p1.Out.length ac]) I26 Z26 R R R (haC f33.cells R)) (Ob h fun x23 hx23 h => Jh R R R C12 (l_toSig_ok (κ := fun b => mp [] 0 (K24 b)) (p0 := p0) hx23) ?_)
 rintro _ w34 ⟨k35, rfl, e36⟩
 obtain ⟨K37, S38, m39⟩ := Ji e36 8 R
 refine ⟨(S38.cl R), Ob h fun x25 hx25 h => ?_⟩
 have f41 := f9.stp (S15.tr (S25.tr (S30.tr S38))) R R
 have f42 := f10.stp (S15.tr (S25.tr (S30.tr S38))) R R
 refine Jh R R R C13 (l_toMachine_ok (κ := fun b => mp [] 0 (K37 b)) (p0 := p1) (Jl2 f41 (mp [] 0) R R) (Jl2 f42 (mp [] 0) R R) hx25) ?_
 rintro _ w43 ⟨k44, ay, ar, ax, ak, rfl, e45, f46, f47⟩
 obtain ⟨K48, S49, m50⟩ := Ji e45 10 R
 refine ⟨((S38.tr S49).cl R), Ob h fun x27 hx27 h => ?_⟩
 have f54 := f20.stp (S25.tr (S30.tr (S38.tr S49))) R R
 refine Jh R R R C14 (l_toClauseS_ok (κ := fun b => mp [] 0 (K48 b)) (Jl2 f54 (mp [] 0) R R) hx27) ?_
 rintro _ w55 ⟨k56, aj, al, rfl, e57, f58⟩
 obtain ⟨K59, S60, m61⟩ := Ji e57 14 R
 refine ⟨((S38.tr (S49.tr S60)).cl R), Ob h fun x28 hx28 h => Jh R R R C11 (s_KeepsAll_ok (κ := fun b => mp [] 0 (K59 b)) (p0 := x23) (p1 := x25) (Jl2 ((f46.mx (no_own (no_int _) _) m50 R (R : 10 + 2 = 12)).stp S60 R R).rdc (mp [] 0) R R) (Jl2 ((f47.mx (no_own (no_int _) _) m50 R (R : 10 + 3 = 13)).stp S60 R R).rdc (mp [] 0) R R) (Jl2 (f58.mx Clause.no71 m61 R (R : 14 + 2 = 16)).rdc (mp [] 0) R R) hx28) ?_⟩
 rintro _ w66 ⟨k67, rfl, e68⟩
 obtain ⟨K69, S70, m71⟩ := Ji e68 17 R
 refine ⟨((S38.tr (S49.tr (S60.tr S70))).cl R), Jn 1 R (Jt1 (Jd (Je [1, 1, 1, 1] R ?_)))⟩
 have f73 := f33.stp (S38.tr (S49.tr (S60.tr S70))) R R
 refine Jl tv R R R R (Jd2 (cs := [.slice ab p1.Next.length aa, .slice ad p1.Out.length ac]) I26 Z26 R R R (haE f73.cells)) (Ob h fun x30 hx30 h => ?_)
 have f74 := f41.stp (S49.tr (S60.tr S70)) R R
 have f75 := f42.stp (S49.tr (S60.tr S70)) R R
 refine Jh R R R C13 (l_toMachine_ok (κ := fun b => mp [] 0 (K69 b)) (p0 := p1) (Jl2 f74 (mp [] 0) R R) (Jl2 f75 (mp [] 0) R R) hx30) ?_
 rintro _ w76 ⟨k77, af, ai, ae, ah, rfl, e78, f79, f80⟩
 obtain ⟨K81, S82, m83⟩ := Ji e78 19 R
 refine ⟨tv, Jg1 (κ := K81) 23 R R R R R X33 R fun b9 w87 K88 S89 f90 => ⟨tv, Jj1 (κ := K88) 23 (vc := [.slice af x30.Next.length ai, .slice ae x30.Out.length ah]) R R R R R R R Z33 R R f90 R fun w91 S92 f93 => ⟨tv, Jd (Je [2, 1, 2] R (Jn 1 R (Ob h fun x32 hx32 h => ?_)))⟩⟩⟩
 have f94 := f54.stp (S60.tr (S70.tr (S82.tr (S89.tr S92)))) R R
 refine Jh R R R C14 (l_toClauseS_ok (κ := fun b => mp [] 0 (K88 b)) (Jl2 f94 (mp [] 0) R R) hx32) ?_
 rintro _ w95 ⟨k96, ap, av, rfl, e97, f98⟩
 obtain ⟨K99, S100, m101⟩ := Ji e97 24 R
 refine ⟨tv, Jb 1 R (Jq (Js1 (κ := K99) [2, 23] none [(3, 2), (0, 0), (2, 0), (1, 1), (4, 1), (5, 2)] [] (by kernel_rfl) (by kernel_rfl) fun w105 S104 => Jn 1 R (Jg R (Jd2 (cs := [vi p0.In, vi p0.Out]) I23 Z23 R R R (haC (f32.stp (S38.tr (S49.tr (S60.tr (S70.tr (S82.tr (S89.tr (S92.tr (S100.tr S104)))))))) R R).cells R)) ?_)))⟩
 have f107 := f93.stp (S100.tr S104) R R
 refine Jg R (Jd2 (cs := [.slice af x30.Next.length ai, .slice ae x30.Out.length ah]) I33 Z33 R R R (haC f107.cells R)) (Ob h fun x34 hx34 h => Jh R R R C12 (l_toSig_ok (κ := fun b => mp [] 0 (K99 b)) (p0 := p0) hx34) ?_)
 rintro _ w108 ⟨k109, rfl, e110⟩
 obtain ⟨K111, S112, m113⟩ := Ji e110 27 R
 refine ⟨(S112.cl R), Ob h fun x37 hx37 h => ?_⟩
 have f115 := (f79.mx (no_own (no_int _) _) m83 R (R : 19 + 2 = 21)).stp (S89.tr (S92.tr (S100.tr (S104.tr S112)))) R R
 have f116 := (f80.mx (no_own (no_int _) _) m83 R (R : 19 + 3 = 22)).stp (S89.tr (S92.tr (S100.tr (S104.tr S112)))) R R
 have f117 := (f98.mx Clause.no71 m101 R (R : 24 + 2 = 26)).stp (S104.tr S112) R R
 refine Jh R R R C15 (i_KeepsAll_ok (κ := fun b => mp [] 0 (K111 b)) (p0 := x34) (p1 := x30) (Jl2 f115.rdc (mp [] 0) R R) (Jl2 f116.rdc (mp [] 0) R R) (Jl2 f117.rdc (mp [] 0) R R) hx37) ?_
 rintro _ w118 ⟨k119, rfl, e120⟩
 obtain ⟨K121, S122, m123⟩ := Ji e120 29 R
 refine ⟨((S112.tr S122).cl R), Jn 1 R (Jt1 (Jd (Jq (Je [2, 2, 2] R (Jn 2 R (Jf R (rn_neqB R R U4 R) (Jd ?_)))))))⟩
 revert h
 cases ht125 : (x37 != x28)
 have S001 := (S82.tr (S89.tr (S92.tr (S100.tr (S104.tr (S112.tr S122))))))
 refine JF fun h => Jy R (Js (Jp (Jq (Jq (Js1 (κ := K121) [3, 23] none [(0, 0), (1, 0), (2, 1), (3, 1), (4, 2)] [] (by kernel_rfl) (by kernel_rfl) fun w128 S127 => Jg R (Jd2 (cs := [.slice af x30.Next.length ai, .slice ae x30.Out.length ah]) I33 Z33 R R R (haC (f107.stp (S112.tr (S122.tr S127)) R R).cells R)) (Jg R (Jd2 (cs := [.slice ab p1.Next.length aa, .slice ad p1.Out.length ac]) I26 Z26 R R R (haC (f73.stp (S001.tr S127) R R).cells R)) (Ob h fun x43 hx43 h => Jh R R R C13 (l_toMachine_ok (κ := fun b => mp [] 0 (K121 b)) (p0 := p1) (Jl2 (f74.stp (S001.tr S127) R R) (mp [] 0) R R) (Jl2 (f75.stp (S001.tr S127) R R) (mp [] 0) R R) hx43) ?_)))))))
 rintro _ w133 ⟨k134, am, aq, an, au, rfl, e135, f136, f137⟩
 obtain ⟨K138, S139, m140⟩ := Ji e135 31 R
 have S002 := (S122.tr (S127.tr S139))
 refine ⟨(S139.cl R), Ob h fun x44 hx44 h => Jh R R R C16 (l_eqMachine_ok (κ := fun b => mp [] 0 (K138 b)) (p0 := x30) (p1 := x43) (Jl2 (f115.stp S002 R R).rdc (mp [] 0) R R) (Jl2 (f116.stp S002 R R).rdc (mp [] 0) R R) (Jl2 (f136.mx (no_own (no_int _) _) m140 R (R : 31 + 2 = 33)).rdc (mp [] 0) R R) (Jl2 (f137.mx (no_own (no_int _) _) m140 R (R : 31 + 3 = 34)).rdc (mp [] 0) R R) hx44) ?_⟩
 rintro _ w146 ⟨k147, rfl, e148⟩
 obtain ⟨K149, S150, m151⟩ := Ji e148 35 R
 refine ⟨((S139.tr S150).cl R), Jn 1 R (Jt1 (Jd ?_))⟩
 revert h
 cases ht153 : (!x44)
 refine JF fun h => Jy R (Js (Jp (Jq (Je [2, 2, 1, 1, 2] R (Jn 2 R (Ob h fun x48 hx48 h => Jh R R R C14 (l_toClauseS_ok (κ := fun b => mp [] 0 (K149 b)) (Jl2 (f94.stp (S100.tr (S104.tr (S112.tr (S122.tr (S127.tr (S139.tr S150)))))) R R) (mp [] 0) R R) hx48) ?_))))))
 rintro _ w156 ⟨k157, aw, ao, rfl, e158, f159⟩
 obtain ⟨K160, S161, m162⟩ := Ji e158 37 R
 refine ⟨tv, Ob h fun x49 hx49 h => Jh R R R C17 (l_eqClauseS_ok (κ := fun b => mp [] 0 (K160 b)) (Jl2 (f117.stp (S122.tr (S127.tr (S139.tr (S150.tr S161)))) R R).rdc (mp [] 0) R R) (Jl2 (f159.mx Clause.no71 m162 R (R : 37 + 2 = 39)).rdc (mp [] 0) R R) hx49) ?_⟩
 rintro _ w166 ⟨k167, rfl, e168⟩
 obtain ⟨K169, S170, m171⟩ := Ji e168 40 R
 refine ⟨tv, Jb 1 R ?_⟩
 revert h
 cases ht173 : (!x49)
 refine JF fun h => Jy R (Js (Jp (Je [2] R (Jb 1 R (Ju (Ja2 (l := [.tmp 6]) V3 (Jp2 R R) R ?_))))))
 cases h
 exact ⟨K169, R, (hE.stp (S3.tr (S7.tr (S15.tr (S25.tr (S30.tr (S38.tr (S49.tr (S60.tr (S70.tr (S82.tr (S89.tr (S92.tr (S100.tr (S104.tr (S112.tr (S122.tr (S127.tr (S139.tr (S150.tr (S161.tr S170)))))))))))))))))))) R R)⟩
 refine JT fun h => Jx R (Je [2] R (Jb 1 R (Ju (Jw (Ja2 (l := [.tmp 6]) V3 (Jp2 R R) R ?_)))))
 cases h
 exact ⟨K169, R, (hE.stp (S3.tr (S7.tr (S15.tr (S25.tr (S30.tr (S38.tr (S49.tr (S60.tr (S70.tr (S82.tr (S89.tr (S92.tr (S100.tr (S104.tr (S112.tr (S122.tr (S127.tr (S139.tr (S150.tr (S161.tr S170)))))))))))))))))))) R R)⟩
 refine JT fun h => Jx R (Je [2] R (Jb 1 R (Ju (Jw (Ja2 (l := [.tmp 6]) V3 (Jp2 R R) R ?_)))))
 cases h
 exact ⟨K149, R, (hE.stp (S3.tr (S7.tr (S15.tr (S25.tr (S30.tr (S38.tr (S49.tr (S60.tr (S70.tr (S82.tr (S89.tr (S92.tr (S100.tr (S104.tr (S112.tr (S122.tr (S127.tr (S139.tr S150)))))))))))))))))) R R)⟩
 refine JT fun h => Jx R (Je [2] R (Jb 1 R (Ju (Jw (Ja2 (l := [.tmp 6]) V3 (Jp2 R R) R ?_)))))
 cases h
 exact ⟨K121, R, (hE.stp (S3.tr (S7.tr (S15.tr (S25.tr (S30.tr (S38.tr (S49.tr (S60.tr (S70.tr (S82.tr (S89.tr (S92.tr (S100.tr (S104.tr (S112.tr S122))))))))))))))) R R)⟩
 refine JT fun h => Jx R (Je [2] R (Jb 1 R (Ju (Jw (Ja2 (l := [.tmp 6]) V3 (Jp2 R R) R ?_)))))
 cases h
 exact ⟨K24, R, (hE.stp (S3.tr (S7.tr (S15.tr S25))) R R)⟩
 refine JT fun h => Jx R (Je [2] R (Jb 1 R (Ju (Jw (Ja2 (l := [.tmp 6]) V3 (Jp2 R R) R ?_)))))
 cases h
 exact ⟨K14, R, (hE.stp (S3.tr (S7.tr S15)) R R)⟩
end Go.Proofs.YtcmamhmpoinmnaaGreat
