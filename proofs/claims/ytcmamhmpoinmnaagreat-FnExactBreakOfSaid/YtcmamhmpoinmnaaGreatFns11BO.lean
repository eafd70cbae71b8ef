/- The walks, part 11. By program. -/
import Derived.Test.YtcmamhmpoinmnaaGreatFns10BO
set_option linter.unusedVariables false
set_option linter.unusedSimpArgs false
namespace Go.Proofs.YtcmamhmpoinmnaaGreat
open Go Go.Wk Go.Proofs
set_option maxRecDepth 100000
set_option maxHeartbeats 1000000
theorem l_FnExactBreakOf_ok {w : World} {κ : Col} {p0 : Sig} {ar au av aw} {p1 : Machine} {a2 u2} {p2 : (List Clause)} (g1_0 : Rd (Rp.sl (Rp.int .i64)) κ w 0 ar au p1.Next) (g1_1 : Rd (Rp.sl (Rp.int .i64)) κ w 0 av aw p1.Out) (g2 : Rd Clause.rp κ w 0 a2 u2 p2) {r : Bool} (h : l_FnExactBreakOf p0 p1 p2 = some r) : Ret Tryz.prog 8 [.agg #[vi p0.In, vi p0.Out], .agg #[.slice ar p1.Next.length au, .slice av p1.Out.length aw], .slice a2 p2.length u2] w (fun v w' => ∃ (κ' : Col), v = .bool r ∧ Ent κ w κ' w') := by
 unfold l_FnExactBreakOf at h
 refine Ret.enter F8 R N8 R ?_
 dsimp only [envOf]
 have hE := Ent.refl κ w
 refine Je [1, 1, 2] R (Jf1 (κ := κ) 2 R R R R R R R fun b3 w1 K2 S3 f4 => ⟨tv, Jf1 (κ := K2) 3 R R R R R R R fun b4 w5 K6 S7 f8 => ⟨tv, Jb 1 R (Je [2] R (Jb 1 R (Je [1, 2, 1, 2] R (Jl tv R R R R (Jd2 (cs := [.slice ar p1.Next.length au, .slice av p1.Out.length aw]) I26 Z26 R R R (haE f8.cells)) (Jn 1 R (Ob h fun x21 hx21 h => ?_))))))⟩⟩)
 have f9 := g1_0.stp (S3.tr S7) R R
 have f10 := g1_1.stp (S3.tr S7) R R
 refine Jh R R R C9 (l_szMachine_ok (κ := fun b => mp [] 0 (K6 b)) (p0 := p1) (Jl2 f9 (mp [] 0) R R) (Jl2 f10 (mp [] 0) R R) hx21) ?_
 rintro _ w11 ⟨k12, rfl, e13⟩
 obtain ⟨K14, S15, m16⟩ := Ji e13 4 R
 refine ⟨tv, Jb 1 R (Jq (Je [2, 2] R (Jb 2 R ?_)))⟩
 revert h
 cases ht18 : decide (x21 < 0)
 refine JF fun h => Jy R (Js (Jp (Je [2, 2, 1, 2] R (Jn 2 R (Ob h fun x26 hx26 h => ?_)))))
 have f20 := g2.stp (S3.tr (S7.tr S15)) R R
 refine Jh R R R C10 (l_szClauseS_ok (κ := fun b => mp [] 0 (K14 b)) (Jl2 f20 (mp [] 0) R R) hx26) ?_
 rintro _ w21 ⟨k22, rfl, e23⟩
 obtain ⟨K24, S25, m26⟩ := Ji e23 6 R
 refine ⟨tv, Jb 1 R (Jq (Je [2, 2] R (Jb 2 R ?_)))⟩
 revert h
 cases ht28 : decide (x26 < 0)
 refine JF fun h => Jy R (Js (Jp (Jq (Ob h fun x31 hx31 h => Ob h fun x33 hx33 h => Ob h fun x35 hx35 h => Ob h fun x36 hx36 h => Jx1 (fun L w' => ∃ κ' b8 ax ay aA az, L = [(2, .slice a2 p2.length u2), (3, .pointer (some ⟨b3, 0, none⟩)), (4, .pointer (some ⟨b4, 0, none⟩)), (8, .pointer (some ⟨b8, 0, none⟩)), (9, .bool x36.2)] ∧ Stp [8, 10, 14, 17, 19, 20, 21] K24 w21 κ' w' ∧ Oc E6 2 κ' w' 8 ax ay x36.1.Stem ∧ Oc E6 2 κ' w' 9 aA az x36.1.Loop ∧ Bc κ' w' 10 b8 65 [.slice ax x36.1.Stem.length ay, .slice aA x36.1.Loop.length az]) ?_ ?_))))
 refine WC.rxt (κ := K24) [2, 3] none (by kernel_rfl) fun w37 S38 => Jq1 (fuel := 10) [(4, 2), (0, 0), (2, 0)] (by kernel_rfl) (by kernel_rfl) R (Jn 1 R (Jg R (Jd2 (cs := [vi p0.In, vi p0.Out]) I23 Z23 R R R (haC (f4.stp (S7.tr (S15.tr (S25.tr S38))) R R).cells R)) (Jg R (Jd2 (cs := [.slice ar p1.Next.length au, .slice av p1.Out.length aw]) I26 Z26 R R R (haC (f8.stp (S15.tr (S25.tr S38)) R R).cells R)) (Jp1 (WA.fork2 (fuel := 9) 1 10 (by kernel_rfl) R ?_ ?_)))))
 refine Jh R R R C12 (l_toSig_ok (κ := fun b => mp [] 0 (K24 b)) (p0 := p0) hx31) ?_
 rintro _ w41 ⟨k42, rfl, e43⟩
 obtain ⟨K44, S45, m46⟩ := Ji e43 8 R
 refine ⟨(S45.cl R), Jp1 (WA.fork2 (fuel := 8) 3 10 (by kernel_rfl) R ?_ ?_)⟩
 have S001 := (S15.tr (S25.tr (S38.tr S45)))
 refine Jh R R R C13 (l_toMachine_ok (κ := fun b => mp [] 0 (K44 b)) (p0 := p1) (Jl2 (f9.stp S001 R R) (mp [] 0) R R) (Jl2 (f10.stp S001 R R) (mp [] 0) R R) hx33) ?_
 rintro _ w50 ⟨k51, aV, aQ, aU, aR, rfl, e52, f53, f54⟩
 obtain ⟨K55, S56, m57⟩ := Ji e52 10 R
 refine ⟨((S45.tr S56).cl R), ?_⟩
 have f59 := f53.mx (no_own (no_int _) _) m57 R (R : 10 + 2 = 12)
 have f60 := f54.mx (no_own (no_int _) _) m57 R (R : 10 + 3 = 13)
 refine Jp1 (WA.fork2 (fuel := 7) 5 10 (by kernel_rfl) R ?_ ?_)
 refine Jh R R R C14 (l_toClauseS_ok (κ := fun b => mp [] 0 (K55 b)) (Jl2 (f20.stp (S25.tr (S38.tr (S45.tr S56))) R R) (mp [] 0) R R) hx35) ?_
 rintro _ w62 ⟨k63, aL, aM, rfl, e64, f65⟩
 obtain ⟨K66, S67, m68⟩ := Ji e64 14 R
 refine ⟨((S45.tr (S56.tr S67)).cl R), ?_⟩
 have f70 := f65.mx Clause.no71 m68 R (R : 14 + 2 = 16)
 refine Jp1 (WA.fork2 (fuel := 6) 6 10 (by kernel_rfl) R ?_ ?_)
 refine Jh R R R C43 (s_BreakOf_ok (κ := fun b => mp [] 0 (K66 b)) (p0 := x31) (p1 := x33) (Jl2 (f59.stp S67 R R).rdc (mp [] 0) R R) (Jl2 (f60.stp S67 R R).rdc (mp [] 0) R R) (Jl2 f70.rdc (mp [] 0) R R) hx36) ?_
 rintro _ w73 ⟨k74, ai, aa, ad, af, rfl, e75, f76, f77⟩
 obtain ⟨K78, S79, m80⟩ := Ji e75 17 R
 have S002 := (S45.tr (S56.tr (S67.tr S79)))
 exact ⟨(S002.cl R), Jp1 (Jq1 (fuel := 0) [(7, 2), (8, 2), (9, 2), (10, 1), (11, 1), (12, 2)] (by kernel_rfl) (by kernel_rfl) R (Jn 3 R (Jg1 (κ := K78) 21 R R R R R X65 R fun b8 w84 K85 S86 f87 => ⟨((S002.tr S86).cl R), Jj1 (κ := K85) 21 (vc := [.slice ai x36.1.Stem.length aa, .slice ad x36.1.Loop.length af]) R R R R R R R Z65 R R f87 R fun w88 S89 f90 => ⟨((S002.tr (S86.tr S89)).cl R), Jn 1 R (Jp1 (Jr1 [] (by kernel_rfl) (by kernel_rfl) R (Jo (Jw1 _ ⟨(fun b => ren [(19, 8), (20, 9), (21, 10)] (K85 b)), b8, ai, aa, ad, af, R, (Jy2 ((S38.tr (S45.tr (S56.tr (S67.tr (S79.tr (S86.tr S89)))))).wk R) [(19, 8), (20, 9), (21, 10)] R), (((f76.mx (no_int _) m80 R (R : 17 + 2 = 19)).stp (S86.tr S89) R R).map (ren [(19, 8), (20, 9), (21, 10)]) R R), (((f77.mx (no_int _) m80 R (R : 17 + 3 = 20)).stp (S86.tr S89) R R).map (ren [(19, 8), (20, 9), (21, 10)]) R R), (f90.map (ren [(19, 8), (20, 9), (21, 10)]) R R)⟩ (KM R)))))⟩⟩)))⟩
 refine Jg1 (κ := K66) 17 R R R R R X65 R fun b8 w93 K94 S95 f96 => ⟨((S45.tr (S56.tr (S67.tr S95))).cl R), Jp1 (Jq1 (fuel := 0) [(6, 1), (7, 2), (8, 2), (9, 2), (11, 1), (12, 2)] (by kernel_rfl) (by kernel_rfl) R (Jh R R R C43 (s_BreakOf_ok (κ := fun b => mp [] 0 (K94 b)) (p0 := x31) (p1 := x33) (Jl2 (f59.stp (S67.tr S95) R R).rdc (mp [] 0) R R) (Jl2 (f60.stp (S67.tr S95) R R).rdc (mp [] 0) R R) (Jl2 (f70.stp S95 R R).rdc (mp [] 0) R R) hx36) ?_))⟩
 rintro _ w100 ⟨k101, ai, aa, ad, af, rfl, e102, f103, f104⟩
 obtain ⟨K105, S106, m107⟩ := Ji e102 18 R
 have S003 := (S45.tr (S56.tr (S67.tr (S95.tr S106))))
 exact ⟨(S003.cl R), Jn 3 R (Jj1 (κ := K105) 17 (vc := [.slice ai x36.1.Stem.length aa, .slice ad x36.1.Loop.length af]) R R R R R R R Z65 R R (f96.stp S106 R R) R fun w112 S113 f114 => ⟨((S003.tr S113).cl R), Jn 1 R (Jp1 (Jr1 [] (by kernel_rfl) (by kernel_rfl) R (Jo (Jw1 _ ⟨(fun b => ren [(20, 8), (21, 9), (17, 10)] (K105 b)), b8, ai, aa, ad, af, R, (Jy2 ((S38.tr (S45.tr (S56.tr (S67.tr (S95.tr (S106.tr S113)))))).wk R) [(20, 8), (21, 9), (17, 10)] R), (((f103.mx (no_int _) m107 R (R : 18 + 2 = 20)).stp S113 R R).map (ren [(20, 8), (21, 9), (17, 10)]) R R), (((f104.mx (no_int _) m107 R (R : 18 + 3 = 21)).stp S113 R R).map (ren [(20, 8), (21, 9), (17, 10)]) R R), (f114.map (ren [(20, 8), (21, 9), (17, 10)]) R R)⟩ (KM R)))))⟩)⟩
 refine Jg1 (κ := K55) 14 R R R R R X65 R fun b8 w117 K118 S119 f120 => ⟨((S45.tr (S56.tr S119)).cl R), Jp1 (Jq1 (fuel := 0) [(5, 1), (6, 1), (7, 2), (8, 2), (9, 2), (11, 1), (12, 2)] (by kernel_rfl) (by kernel_rfl) R (Jh R R R C14 (l_toClauseS_ok (κ := fun b => mp [] 0 (K118 b)) (Jl2 (f20.stp (S25.tr (S38.tr (S45.tr (S56.tr S119)))) R R) (mp [] 0) R R) hx35) ?_))⟩
 rintro _ w122 ⟨k123, aL, aM, rfl, e124, f125⟩
 obtain ⟨K126, S127, m128⟩ := Ji e124 15 R
 refine ⟨((S45.tr (S56.tr (S119.tr S127))).cl R), Jh R R R C43 (s_BreakOf_ok (κ := fun b => mp [] 0 (K126 b)) (p0 := x31) (p1 := x33) (Jl2 (f59.stp (S119.tr S127) R R).rdc (mp [] 0) R R) (Jl2 (f60.stp (S119.tr S127) R R).rdc (mp [] 0) R R) (Jl2 (f125.mx Clause.no71 m128 R (R : 15 + 2 = 17)).rdc (mp [] 0) R R) hx36) ?_⟩
 rintro _ w133 ⟨k134, ai, aa, ad, af, rfl, e135, f136, f137⟩
 obtain ⟨K138, S139, m140⟩ := Ji e135 18 R
 have S004 := (S45.tr (S56.tr (S119.tr (S127.tr S139))))
 exact ⟨(S004.cl R), Jn 3 R (Jj1 (κ := K138) 14 (vc := [.slice ai x36.1.Stem.length aa, .slice ad x36.1.Loop.length af]) R R R R R R R Z65 R R (f120.stp (S127.tr S139) R R) R fun w145 S146 f147 => ⟨((S004.tr S146).cl R), Jn 1 R (Jp1 (Jr1 [] (by kernel_rfl) (by kernel_rfl) R (Jo (Jw1 _ ⟨(fun b => ren [(20, 8), (21, 9), (14, 10)] (K138 b)), b8, ai, aa, ad, af, R, (Jy2 ((S38.tr (S45.tr (S56.tr (S119.tr (S127.tr (S139.tr S146)))))).wk R) [(20, 8), (21, 9), (14, 10)] R), (((f136.mx (no_int _) m140 R (R : 18 + 2 = 20)).stp S146 R R).map (ren [(20, 8), (21, 9), (14, 10)]) R R), (((f137.mx (no_int _) m140 R (R : 18 + 3 = 21)).stp S146 R R).map (ren [(20, 8), (21, 9), (14, 10)]) R R), (f147.map (ren [(20, 8), (21, 9), (14, 10)]) R R)⟩ (KM R)))))⟩)⟩
 have S005 := (S15.tr (S25.tr (S38.tr S45)))
 refine Jg1 (κ := K44) 10 R R R R R X65 R fun b8 w150 K151 S152 f153 => ⟨((S45.tr S152).cl R), Jp1 (Jq1 (fuel := 0) [(3, 1), (5, 1), (6, 1), (7, 2), (8, 2), (9, 2), (11, 1), (12, 2)] (by kernel_rfl) (by kernel_rfl) R (Jh R R R C13 (l_toMachine_ok (κ := fun b => mp [] 0 (K151 b)) (p0 := p1) (Jl2 (f9.stp (S005.tr S152) R R) (mp [] 0) R R) (Jl2 (f10.stp (S005.tr S152) R R) (mp [] 0) R R) hx33) ?_))⟩
 rintro _ w156 ⟨k157, aV, aQ, aU, aR, rfl, e158, f159, f160⟩
 obtain ⟨K161, S162, m163⟩ := Ji e158 11 R
 refine ⟨((S45.tr (S152.tr S162)).cl R), Jh R R R C14 (l_toClauseS_ok (κ := fun b => mp [] 0 (K161 b)) (Jl2 (f20.stp (S25.tr (S38.tr (S45.tr (S152.tr S162)))) R R) (mp [] 0) R R) hx35) ?_⟩
 rintro _ w168 ⟨k169, aL, aM, rfl, e170, f171⟩
 obtain ⟨K172, S173, m174⟩ := Ji e170 15 R
 refine ⟨((S45.tr (S152.tr (S162.tr S173))).cl R), Jh R R R C43 (s_BreakOf_ok (κ := fun b => mp [] 0 (K172 b)) (p0 := x31) (p1 := x33) (Jl2 ((f159.mx (no_own (no_int _) _) m163 R (R : 11 + 2 = 13)).stp S173 R R).rdc (mp [] 0) R R) (Jl2 ((f160.mx (no_own (no_int _) _) m163 R (R : 11 + 3 = 14)).stp S173 R R).rdc (mp [] 0) R R) (Jl2 (f171.mx Clause.no71 m174 R (R : 15 + 2 = 17)).rdc (mp [] 0) R R) hx36) ?_⟩
 rintro _ w179 ⟨k180, ai, aa, ad, af, rfl, e181, f182, f183⟩
 obtain ⟨K184, S185, m186⟩ := Ji e181 18 R
 have S006 := (S45.tr (S152.tr (S162.tr (S173.tr S185))))
 exact ⟨(S006.cl R), Jn 3 R (Jj1 (κ := K184) 10 (vc := [.slice ai x36.1.Stem.length aa, .slice ad x36.1.Loop.length af]) R R R R R R R Z65 R R (f153.stp (S162.tr (S173.tr S185)) R R) R fun w191 S192 f193 => ⟨((S006.tr S192).cl R), Jn 1 R (Jp1 (Jr1 [] (by kernel_rfl) (by kernel_rfl) R (Jo (Jw1 _ ⟨(fun b => ren [(20, 8), (21, 9)] (K184 b)), b8, ai, aa, ad, af, R, (Jy2 ((S38.tr (S45.tr (S152.tr (S162.tr (S173.tr (S185.tr S192)))))).wk R) [(20, 8), (21, 9)] R), (((f182.mx (no_int _) m186 R (R : 18 + 2 = 20)).stp S192 R R).map (ren [(20, 8), (21, 9)]) R R), (((f183.mx (no_int _) m186 R (R : 18 + 3 = 21)).stp S192 R R).map (ren [(20, 8), (21, 9)]) R R), (f193.map (ren [(20, 8), (21, 9)]) R R)⟩ (KM R)))))⟩)⟩
 refine Jg1 (κ := K24) 8 R R R R R X65 R fun b8 w196 K197 S198 f199 => ⟨(S198.cl R), Jp1 (Jq1 (fuel := 0) [(1, 1), (3, 1), (5, 1), (6, 1), (7, 2), (8, 2), (9, 2), (11, 1), (12, 2)] (by kernel_rfl) (by kernel_rfl) R (Jh R R R C12 (l_toSig_ok (κ := fun b => mp [] 0 (K197 b)) (p0 := p0) hx31) ?_))⟩
 rintro _ w200 ⟨k201, rfl, e202⟩
 obtain ⟨K203, S204, m205⟩ := Ji e202 9 R
 have S007 := (S15.tr (S25.tr (S38.tr (S198.tr S204))))
 refine ⟨((S198.tr S204).cl R), Jh R R R C13 (l_toMachine_ok (κ := fun b => mp [] 0 (K203 b)) (p0 := p1) (Jl2 (f9.stp S007 R R) (mp [] 0) R R) (Jl2 (f10.stp S007 R R) (mp [] 0) R R) hx33) ?_⟩
 rintro _ w209 ⟨k210, aV, aQ, aU, aR, rfl, e211, f212, f213⟩
 obtain ⟨K214, S215, m216⟩ := Ji e211 11 R
 refine ⟨((S198.tr (S204.tr S215)).cl R), Jh R R R C14 (l_toClauseS_ok (κ := fun b => mp [] 0 (K214 b)) (Jl2 (f20.stp (S25.tr (S38.tr (S198.tr (S204.tr S215)))) R R) (mp [] 0) R R) hx35) ?_⟩
 rintro _ w221 ⟨k222, aL, aM, rfl, e223, f224⟩
 obtain ⟨K225, S226, m227⟩ := Ji e223 15 R
 refine ⟨((S198.tr (S204.tr (S215.tr S226))).cl R), Jh R R R C43 (s_BreakOf_ok (κ := fun b => mp [] 0 (K225 b)) (p0 := x31) (p1 := x33) (Jl2 ((f212.mx (no_own (no_int _) _) m216 R (R : 11 + 2 = 13)).stp S226 R R).rdc (mp [] 0) R R) (Jl2 ((f213.mx (no_own (no_int _) _) m216 R (R : 11 + 3 = 14)).stp S226 R R).rdc (mp [] 0) R R) (Jl2 (f224.mx Clause.no71 m227 R (R : 15 + 2 = 17)).rdc (mp [] 0) R R) hx36) ?_⟩
 rintro _ w232 ⟨k233, ai, aa, ad, af, rfl, e234, f235, f236⟩
 obtain ⟨K237, S238, m239⟩ := Ji e234 18 R
 have S008 := (S198.tr (S204.tr (S215.tr (S226.tr S238))))
 exact ⟨(S008.cl R), Jn 3 R (Jj1 (κ := K237) 8 (vc := [.slice ai x36.1.Stem.length aa, .slice ad x36.1.Loop.length af]) R R R R R R R Z65 R R (f199.stp (S204.tr (S215.tr (S226.tr S238))) R R) R fun w244 S245 f246 => ⟨((S008.tr S245).cl R), Jn 1 R (Jp1 (Jr1 [] (by kernel_rfl) (by kernel_rfl) R (Jo (Jw1 _ ⟨(fun b => ren [(20, 8), (21, 9), (8, 10)] (K237 b)), b8, ai, aa, ad, af, R, (Jy2 ((S38.tr (S198.tr (S204.tr (S215.tr (S226.tr (S238.tr S245)))))).wk R) [(20, 8), (21, 9), (8, 10)] R), (((f235.mx (no_int _) m239 R (R : 18 + 2 = 20)).stp S245 R R).map (ren [(20, 8), (21, 9), (8, 10)]) R R), (((f236.mx (no_int _) m239 R (R : 18 + 3 = 21)).stp S245 R R).map (ren [(20, 8), (21, 9), (8, 10)]) R R), (f246.map (ren [(20, 8), (21, 9), (8, 10)]) R R)⟩ (KM R)))))⟩)⟩
 rintro _ w30 ⟨K31, b8, ax, ay, aA, az, rfl, S32, f34, f35, f36⟩
 refine Jp (Je [1, 1, 1, 1] R ?_)
 have f249 := f8.stp (S15.tr (S25.tr S32)) R R
 refine Jl tv R R R R (Jd2 (cs := [.slice ar p1.Next.length au, .slice av p1.Out.length aw]) I26 Z26 R R R (haE f249.cells)) (Ob h fun x40 hx40 h => ?_)
 have f250 := f9.stp (S15.tr (S25.tr S32)) R R
 have f251 := f10.stp (S15.tr (S25.tr S32)) R R
 refine Jh R R R C13 (l_toMachine_ok (κ := fun b => mp [] 0 (K31 b)) (p0 := p1) (Jl2 f250 (mp [] 0) R R) (Jl2 f251 (mp [] 0) R R) hx40) ?_
 rintro _ w252 ⟨k253, aH, aD, aC, aB, rfl, e254, f255, f256⟩
 obtain ⟨K257, S258, m259⟩ := Ji e254 11 R
 refine ⟨tv, ?_⟩
 have f261 := f255.mx (no_own (no_int _) _) m259 R (R : 11 + 2 = 13)
 have f262 := f256.mx (no_own (no_int _) _) m259 R (R : 11 + 3 = 14)
 refine Jg1 (κ := K257) 15 R R R R R X33 R fun b10 w263 K264 S265 f266 => ⟨tv, Jj1 (κ := K264) 15 (vc := [.slice aH x40.Next.length aD, .slice aC x40.Out.length aB]) R R R R R R R Z33 R R f266 R fun w267 S268 f269 => ⟨tv, Jd (Je [2, 1, 2] R (Jn 1 R (Ob h fun x42 hx42 h => ?_)))⟩⟩
 have f270 := f20.stp (S25.tr (S32.tr (S258.tr (S265.tr S268)))) R R
 refine Jh R R R C14 (l_toClauseS_ok (κ := fun b => mp [] 0 (K264 b)) (Jl2 f270 (mp [] 0) R R) hx42) ?_
 rintro _ w271 ⟨k272, aW, aS, rfl, e273, f274⟩
 obtain ⟨K275, S276, m277⟩ := Ji e273 16 R
 refine ⟨tv, ?_⟩
 have f279 := f274.mx Clause.no71 m277 R (R : 16 + 2 = 18)
 refine Jb 1 R (Jq (Ob h fun x45 hx45 h => Ob h fun x48 hx48 h => Jx1 (fun L w' => ∃ κ' b12 ak ap aq aj, L = [(2, .slice a2 p2.length u2), (3, .pointer (some ⟨b3, 0, none⟩)), (4, .pointer (some ⟨b4, 0, none⟩)), (8, .pointer (some ⟨b8, 0, none⟩)), (9, .bool x36.2), (10, .pointer (some ⟨b10, 0, none⟩)), (11, .slice aW x42.length aS), (12, .pointer (some ⟨b12, 0, none⟩)), (13, .bool x48.2)] ∧ Stp [19, 21, 23, 24, 25] K275 w271 κ' w' ∧ Oc E6 2 κ' w' 19 ak ap x48.1.Stem ∧ Oc E6 2 κ' w' 20 aq aj x48.1.Loop ∧ Bc κ' w' 21 b12 65 [.slice ak x48.1.Stem.length ap, .slice aq x48.1.Loop.length aj]) ?_ ?_))
 refine WC.rxt (κ := K275) [2, 15] none (by kernel_rfl) fun w287 S288 => Jq1 (fuel := 8) [(3, 2), (0, 0), (2, 0)] (by kernel_rfl) (by kernel_rfl) R (Jn 1 R (Jg R (Jd2 (cs := [vi p0.In, vi p0.Out]) I23 Z23 R R R (haC (f4.stp (S7.tr (S15.tr (S25.tr (S32.tr (S258.tr (S265.tr (S268.tr (S276.tr S288)))))))) R R).cells R)) (Jg R (Jd2 (cs := [.slice aH x40.Next.length aD, .slice aC x40.Out.length aB]) I33 Z33 R R R (haC (f269.stp (S276.tr S288) R R).cells R)) (Jp1 (WA.fork2 (fuel := 7) 1 8 (by kernel_rfl) R ?_ ?_)))))
 refine Jh R R R C12 (l_toSig_ok (κ := fun b => mp [] 0 (K275 b)) (p0 := p0) hx45) ?_
 rintro _ w291 ⟨k292, rfl, e293⟩
 obtain ⟨K294, S295, m296⟩ := Ji e293 19 R
 refine ⟨(S295.cl R), Jp1 (WA.fork2 (fuel := 6) 4 8 (by kernel_rfl) R ?_ ?_)⟩
 have S009 := (S265.tr (S268.tr (S276.tr (S288.tr S295))))
 refine Jh R R R C37 (i_BreakOf_ok (κ := fun b => mp [] 0 (K294 b)) (p0 := x45) (p1 := x40) (Jl2 (f261.stp S009 R R).rdc (mp [] 0) R R) (Jl2 (f262.stp S009 R R).rdc (mp [] 0) R R) (Jl2 (f279.stp (S288.tr S295) R R).rdc (mp [] 0) R R) hx48) ?_
 rintro _ w301 ⟨k302, an, al, ao, am, rfl, e303, f304, f305⟩
 obtain ⟨K306, S307, m308⟩ := Ji e303 21 R
 have S0010 := (S295.tr S307)
 exact ⟨(S0010.cl R), Jp1 (Jq1 (fuel := 0) [(5, 2), (6, 2), (7, 2), (8, 1), (9, 1), (10, 2)] (by kernel_rfl) (by kernel_rfl) R (Jn 3 R (Jg1 (κ := K306) 25 R R R R R X65 R fun b12 w312 K313 S314 f315 => ⟨((S0010.tr S314).cl R), Jj1 (κ := K313) 25 (vc := [.slice an x48.1.Stem.length al, .slice ao x48.1.Loop.length am]) R R R R R R R Z65 R R f315 R fun w316 S317 f318 => ⟨((S0010.tr (S314.tr S317)).cl R), Jn 1 R (Jp1 (Jr1 [] (by kernel_rfl) (by kernel_rfl) R (Jo (Jw1 _ ⟨(fun b => ren [(23, 19), (24, 20), (25, 21)] (K313 b)), b12, an, al, ao, am, R, (Jy2 ((S288.tr (S295.tr (S307.tr (S314.tr S317)))).wk R) [(23, 19), (24, 20), (25, 21)] R), (((f304.mx (no_int _) m308 R (R : 21 + 2 = 23)).stp (S314.tr S317) R R).map (ren [(23, 19), (24, 20), (25, 21)]) R R), (((f305.mx (no_int _) m308 R (R : 21 + 3 = 24)).stp (S314.tr S317) R R).map (ren [(23, 19), (24, 20), (25, 21)]) R R), (f318.map (ren [(23, 19), (24, 20), (25, 21)]) R R)⟩ (KM R)))))⟩⟩)))⟩
 have S0011 := (S265.tr (S268.tr (S276.tr (S288.tr S295))))
 refine Jg1 (κ := K294) 21 R R R R R X65 R fun b12 w321 K322 S323 f324 => ⟨((S295.tr S323).cl R), Jp1 (Jq1 (fuel := 0) [(4, 1), (5, 2), (6, 2), (7, 2), (9, 1), (10, 2)] (by kernel_rfl) (by kernel_rfl) R (Jh R R R C37 (i_BreakOf_ok (κ := fun b => mp [] 0 (K322 b)) (p0 := x45) (p1 := x40) (Jl2 (f261.stp (S0011.tr S323) R R).rdc (mp [] 0) R R) (Jl2 (f262.stp (S0011.tr S323) R R).rdc (mp [] 0) R R) (Jl2 (f279.stp (S288.tr (S295.tr S323)) R R).rdc (mp [] 0) R R) hx48) ?_))⟩
 rintro _ w328 ⟨k329, an, al, ao, am, rfl, e330, f331, f332⟩
 obtain ⟨K333, S334, m335⟩ := Ji e330 22 R
 have S0012 := (S295.tr (S323.tr S334))
 exact ⟨(S0012.cl R), Jn 3 R (Jj1 (κ := K333) 21 (vc := [.slice an x48.1.Stem.length al, .slice ao x48.1.Loop.length am]) R R R R R R R Z65 R R (f324.stp S334 R R) R fun w340 S341 f342 => ⟨((S0012.tr S341).cl R), Jn 1 R (Jp1 (Jr1 [] (by kernel_rfl) (by kernel_rfl) R (Jo (Jw1 _ ⟨(fun b => ren [(24, 19), (25, 20)] (K333 b)), b12, an, al, ao, am, R, (Jy2 ((S288.tr (S295.tr (S323.tr (S334.tr S341)))).wk R) [(24, 19), (25, 20)] R), (((f331.mx (no_int _) m335 R (R : 22 + 2 = 24)).stp S341 R R).map (ren [(24, 19), (25, 20)]) R R), (((f332.mx (no_int _) m335 R (R : 22 + 3 = 25)).stp S341 R R).map (ren [(24, 19), (25, 20)]) R R), (f342.map (ren [(24, 19), (25, 20)]) R R)⟩ (KM R)))))⟩)⟩
 refine Jg1 (κ := K275) 19 R R R R R X65 R fun b12 w345 K346 S347 f348 => ⟨(S347.cl R), Jp1 (Jq1 (fuel := 0) [(1, 1), (4, 1), (5, 2), (6, 2), (7, 2), (9, 1), (10, 2)] (by kernel_rfl) (by kernel_rfl) R (Jh R R R C12 (l_toSig_ok (κ := fun b => mp [] 0 (K346 b)) (p0 := p0) hx45) ?_))⟩
 rintro _ w349 ⟨k350, rfl, e351⟩
 obtain ⟨K352, S353, m354⟩ := Ji e351 20 R
 have S0013 := (S265.tr (S268.tr (S276.tr (S288.tr (S347.tr S353)))))
 refine ⟨((S347.tr S353).cl R), Jh R R R C37 (i_BreakOf_ok (κ := fun b => mp [] 0 (K352 b)) (p0 := x45) (p1 := x40) (Jl2 (f261.stp S0013 R R).rdc (mp [] 0) R R) (Jl2 (f262.stp S0013 R R).rdc (mp [] 0) R R) (Jl2 (f279.stp (S288.tr (S347.tr S353)) R R).rdc (mp [] 0) R R) hx48) ?_⟩
 rintro _ w359 ⟨k360, an, al, ao, am, rfl, e361, f362, f363⟩
 obtain ⟨K364, S365, m366⟩ := Ji e361 22 R
 have S0014 := (S347.tr (S353.tr S365))
 exact ⟨(S0014.cl R), Jn 3 R (Jj1 (κ := K364) 19 (vc := [.slice an x48.1.Stem.length al, .slice ao x48.1.Loop.length am]) R R R R R R R Z65 R R (f348.stp (S353.tr S365) R R) R fun w371 S372 f373 => ⟨((S0014.tr S372).cl R), Jn 1 R (Jp1 (Jr1 [] (by kernel_rfl) (by kernel_rfl) R (Jo (Jw1 _ ⟨(fun b => ren [(24, 19), (25, 20), (19, 21)] (K364 b)), b12, an, al, ao, am, R, (Jy2 ((S288.tr (S347.tr (S353.tr (S365.tr S372)))).wk R) [(24, 19), (25, 20), (19, 21)] R), (((f362.mx (no_int _) m366 R (R : 22 + 2 = 24)).stp S372 R R).map (ren [(24, 19), (25, 20), (19, 21)]) R R), (((f363.mx (no_int _) m366 R (R : 22 + 3 = 25)).stp S372 R R).map (ren [(24, 19), (25, 20), (19, 21)]) R R), (f373.map (ren [(24, 19), (25, 20), (19, 21)]) R R)⟩ (KM R)))))⟩)⟩
 rintro _ w280 ⟨K281, b12, ak, ap, aq, aj, rfl, S282, f284, f285, f286⟩
 refine Jp (Jq (Je [1, 1, 1, 2, 2, 2, 2, 2, 2] R (Jl tv R R R R (Jd2 (cs := [.slice ak x48.1.Stem.length ap, .slice aq x48.1.Loop.length aj]) I65 Z65 R R R (haE f286.cells)) ?_)))
 have f376 := f36.stp (S258.tr (S265.tr (S268.tr (S276.tr S282)))) R R
 refine Jl tv R R R R (Jd2 (cs := [.slice ax x36.1.Stem.length ay, .slice aA x36.1.Loop.length az]) I65 Z65 R R R (haE f376.cells)) (Ob h fun x53 hx53 h => ?_)
 have f377 := f34.stp (S258.tr (S265.tr (S268.tr (S276.tr S282)))) R R
 have f378 := f35.stp (S258.tr (S265.tr (S268.tr (S276.tr S282)))) R R
 refine Jh R R R C44 (l_eqWord_ok (κ := fun b => mp [] 0 (K281 b)) (p0 := x48.1) (p1 := x36.1) (Jl2 f284.rdc (mp [] 0) R R) (Jl2 f285.rdc (mp [] 0) R R) (Jl2 f377.rdc (mp [] 0) R R) (Jl2 f378.rdc (mp [] 0) R R) hx53) ?_
 rintro _ w379 ⟨k380, rfl, e381⟩
 obtain ⟨K382, S383, m384⟩ := Ji e381 22 R
 refine ⟨tv, Jn 2 R (Ob h fun p59 h hK386 => Ju1 [(5, 2), (6, 2), (7, 2), (8, 2)] [] (fun L w' => L = [(2, .slice a2 p2.length u2), (3, .pointer (some ⟨b3, 0, none⟩)), (4, .pointer (some ⟨b4, 0, none⟩)), (8, .pointer (some ⟨b8, 0, none⟩)), (9, .bool x36.2), (10, .pointer (some ⟨b10, 0, none⟩)), (11, .slice aW x42.length aS), (12, .pointer (some ⟨b12, 0, none⟩)), (13, .bool x48.2), (59, .bool p59)] ∧ ∃ κ', Stp [] K382 w379 κ' w') tv ?_ ?_)⟩
 revert h
 cases ht387 : (!x53)
 refine JF fun h => Jn 2 R (Jf R (rn_neqB R R U4 R) (Jn 1 R ?_))
 cases h
 exact Jv1 _ tv ⟨R, _, (Jx2 _ _).wk R⟩ (KM R)
 refine JT fun h => Jn 4 R ?_
 cases h
 exact Jv1 _ tv ⟨R, _, (Jx2 _ _).wk R⟩ (KM R)
 rintro _ w388 _ ⟨rfl, K389, S390⟩
 have h := hK386
 refine Jd ?_
 revert h
 cases ht391 : p59
 refine JF fun h => Jy R (Js (Jp (Jq (Jq (Js1 (κ := K389) [3, 15] none [(0, 0), (1, 0), (2, 1), (3, 1), (4, 2)] [] (by kernel_rfl) (by kernel_rfl) fun w394 S393 => ?_)))))
 have f395 := f269.stp (S276.tr (S282.tr (S383.tr (S390.tr S393)))) R R
 refine Jg R (Jd2 (cs := [.slice aH x40.Next.length aD, .slice aC x40.Out.length aB]) I33 Z33 R R R (haC f395.cells R)) ?_
 have f396 := f249.stp (S258.tr (S265.tr (S268.tr (S276.tr (S282.tr (S383.tr (S390.tr S393))))))) R R
 refine Jg R (Jd2 (cs := [.slice ar p1.Next.length au, .slice av p1.Out.length aw]) I26 Z26 R R R (haC f396.cells R)) (Ob h fun x62 hx62 h => ?_)
 have f397 := f250.stp (S258.tr (S265.tr (S268.tr (S276.tr (S282.tr (S383.tr (S390.tr S393))))))) R R
 have f398 := f251.stp (S258.tr (S265.tr (S268.tr (S276.tr (S282.tr (S383.tr (S390.tr S393))))))) R R
 refine Jh R R R C13 (l_toMachine_ok (κ := fun b => mp [] 0 (K389 b)) (p0 := p1) (Jl2 f397 (mp [] 0) R R) (Jl2 f398 (mp [] 0) R R) hx62) ?_
 rintro _ w399 ⟨k400, bb, aY, bc, aX, rfl, e401, f402, f403⟩
 obtain ⟨K404, S405, m406⟩ := Ji e401 24 R
 refine ⟨(S405.cl R), Ob h fun x63 hx63 h => ?_⟩
 have f410 := f261.stp (S265.tr (S268.tr (S276.tr (S282.tr (S383.tr (S390.tr (S393.tr S405))))))) R R
 have f411 := f262.stp (S265.tr (S268.tr (S276.tr (S282.tr (S383.tr (S390.tr (S393.tr S405))))))) R R
 refine Jh R R R C16 (l_eqMachine_ok (κ := fun b => mp [] 0 (K404 b)) (p0 := x40) (p1 := x62) (Jl2 f410.rdc (mp [] 0) R R) (Jl2 f411.rdc (mp [] 0) R R) (Jl2 (f402.mx (no_own (no_int _) _) m406 R (R : 24 + 2 = 26)).rdc (mp [] 0) R R) (Jl2 (f403.mx (no_own (no_int _) _) m406 R (R : 24 + 3 = 27)).rdc (mp [] 0) R R) hx63) ?_
 rintro _ w412 ⟨k413, rfl, e414⟩
 obtain ⟨K415, S416, m417⟩ := Ji e414 28 R
 refine ⟨((S405.tr S416).cl R), Jn 1 R (Jt1 (Jd ?_))⟩
 revert h
 cases ht419 : (!x63)
 refine JF fun h => Jy R (Js (Jp (Jq (Je [2, 2, 1, 1, 2] R (Jn 2 R (Ob h fun x67 hx67 h => ?_))))))
 have f421 := f270.stp (S276.tr (S282.tr (S383.tr (S390.tr (S393.tr (S405.tr S416)))))) R R
 refine Jh R R R C14 (l_toClauseS_ok (κ := fun b => mp [] 0 (K415 b)) (Jl2 f421 (mp [] 0) R R) hx67) ?_
 rintro _ w422 ⟨k423, ba, aZ, rfl, e424, f425⟩
 obtain ⟨K426, S427, m428⟩ := Ji e424 30 R
 refine ⟨tv, Ob h fun x68 hx68 h => ?_⟩
 have f431 := f279.stp (S282.tr (S383.tr (S390.tr (S393.tr (S405.tr (S416.tr S427)))))) R R
 refine Jh R R R C17 (l_eqClauseS_ok (κ := fun b => mp [] 0 (K426 b)) (Jl2 f431.rdc (mp [] 0) R R) (Jl2 (f425.mx Clause.no71 m428 R (R : 30 + 2 = 32)).rdc (mp [] 0) R R) hx68) ?_
 rintro _ w432 ⟨k433, rfl, e434⟩
 obtain ⟨K435, S436, m437⟩ := Ji e434 33 R
 refine ⟨tv, Jb 1 R ?_⟩
 revert h
 cases ht439 : (!x68)
 have S0015 := (S416.tr (S427.tr S436))
 refine JF fun h => Jy R (Js (Jp (Je [2] R (Jb 1 R (Je [1, 2, 1, 2] R (Jl tv R R R R (Jd2 (cs := [.slice aH x40.Next.length aD, .slice aC x40.Out.length aB]) I33 Z33 R R R (haE (f395.stp (S405.tr (S416.tr (S427.tr S436))) R R).cells)) (Jn 1 R (Ob h fun x72 hx72 h => Jh R R R C21 (l_markMachine_ok (κ := fun b => mp [(13, 2), (14, 3)] 0 (K435 b)) (p0 := x40) ((f410.stp S0015 R R).map (mp [(13, 2), (14, 3)] 0) R R) ((f411.stp S0015 R R).map (mp [(13, 2), (14, 3)] 0) R R) hx72) ?_))))))))
 rintro _ w444 ⟨k445, rfl, e446, f447, hn448, f449, hn450⟩
 obtain ⟨K451, S452, m453⟩ := Ji e446 35 R
 refine ⟨tv, Jb 1 R (Je [2, 2, 1, 2] R (Jn 2 R (Ob h fun x75 hx75 h => Jh R R R C22 (l_markClauseS_ok (κ := fun b => mp [(18, 2)] 0 (K451 b)) ((f431.stp (S436.tr S452) R R).map (mp [(18, 2)] 0) R R) hx75) ?_)))⟩
 rintro _ w458 ⟨k459, rfl, e460, f461, hn462⟩
 obtain ⟨K463, S464, m465⟩ := Ji e460 39 R
 refine ⟨tv, Jb 1 R (Jq (Je [2, 2, 2, 1, 1, 1, 2, 2, 2, 2, 2, 2, 2] R (Jn 3 R (Ob h fun p83 h hK468 => Ju1 [(3, 1), (4, 1), (5, 1), (6, 2), (7, 2)] [(8, 2), (9, 2), (10, 2), (11, 2), (12, 2)] (fun L w' => L = [(2, .slice a2 p2.length u2), (3, .pointer (some ⟨b3, 0, none⟩)), (4, .pointer (some ⟨b4, 0, none⟩)), (8, .pointer (some ⟨b8, 0, none⟩)), (9, .bool x36.2), (12, .pointer (some ⟨b12, 0, none⟩)), (13, .bool x48.2), (83, .bool p83)] ∧ ∃ κ', Stp [] K463 w458 κ' w') tv ?_ ?_))))⟩
 revert h
 cases ht469 : decide (x75.1 < 0)
 have S0016 := (S383.tr (S390.tr (S393.tr (S405.tr (S416.tr (S427.tr (S436.tr (S452.tr S464))))))))
 refine JF fun h => Jl tv R R R R (Jd2 (cs := [.slice ak x48.1.Stem.length ap, .slice aq x48.1.Loop.length aj]) I65 Z65 R R R (haE (f286.stp S0016 R R).cells)) (Jl tv R R R R (Jd2 (cs := [.slice ax x36.1.Stem.length ay, .slice aA x36.1.Loop.length az]) I65 Z65 R R R (haE (f376.stp S0016 R R).cells)) (Ob h fun x81 hx81 h => Jh R R R C44 (l_eqWord_ok (κ := fun b => mp [] 0 (K463 b)) (p0 := x48.1) (p1 := x36.1) (Jl2 (f284.stp S0016 R R).rdc (mp [] 0) R R) (Jl2 (f285.stp S0016 R R).rdc (mp [] 0) R R) (Jl2 (f377.stp S0016 R R).rdc (mp [] 0) R R) (Jl2 (f378.stp S0016 R R).rdc (mp [] 0) R R) hx81) ?_))
 rintro _ w476 ⟨k477, rfl, e478⟩
 obtain ⟨K479, S480, m481⟩ := Ji e478 42 R
 refine ⟨tv, Jn 2 R ?_⟩
 cases h
 exact Jv1 _ tv ⟨R, _, S480.wk R⟩ (KM R)
 refine JT fun h => Jd1 R R R R (Jd1 R R R R (Jd1 R R R R (Jn 2 R ?_)))
 cases h
 exact Jv1 _ tv ⟨R, _, (Jx2 _ _).wk R⟩ (KM R)
 rintro _ w483 _ ⟨rfl, K484, S485⟩
 have h := hK468
 refine Jn 1 R (Ob h fun p88 h hK486 => Ju1 [(9, 2), (10, 2), (11, 2), (12, 2)] [] (fun L w' => L = [(2, .slice a2 p2.length u2), (3, .pointer (some ⟨b3, 0, none⟩)), (4, .pointer (some ⟨b4, 0, none⟩)), (8, .pointer (some ⟨b8, 0, none⟩)), (9, .bool x36.2), (12, .pointer (some ⟨b12, 0, none⟩)), (88, .bool p88)] ∧ ∃ κ', Stp [] K484 w483 κ' w') tv ?_ ?_)
 revert h
 cases ht487 : p83
 refine JF fun h => Jn 2 R (Jf R (rn_neqB R R U4 R) (Jn 1 R ?_))
 cases h
 exact Jv1 _ tv ⟨R, _, (Jx2 _ _).wk R⟩ (KM R)
 refine JT fun h => Jn 4 R ?_
 cases h
 exact Jv1 _ tv ⟨R, _, (Jx2 _ _).wk R⟩ (KM R)
 rintro _ w488 _ ⟨rfl, K489, S490⟩
 have h := hK486
 refine Jd ?_
 revert h
 cases ht491 : p88
 refine JF fun h => Jy R (Js (Jp (Je [2] R (Jb 1 R (Je [1, 2, 1, 2] R ?_)))))
 have f493 := f286.stp (S383.tr (S390.tr (S393.tr (S405.tr (S416.tr (S427.tr (S436.tr (S452.tr (S464.tr (S485.tr S490)))))))))) R R
 have S0017 := (S383.tr (S390.tr (S393.tr (S405.tr (S416.tr (S427.tr (S436.tr (S452.tr (S464.tr (S485.tr S490))))))))))
 refine Jl tv R R R R (Jd2 (cs := [.slice ak x48.1.Stem.length ap, .slice aq x48.1.Loop.length aj]) I65 Z65 R R R (haE f493.cells)) (Jn 1 R (Ob h fun x91 hx91 h => Jh R R R C45 (l_markWord_ok (κ := fun b => mp [(19, 2), (20, 3)] 0 (K489 b)) (p0 := x48.1) ((f284.stp S0017 R R).map (mp [(19, 2), (20, 3)] 0) R R) ((f285.stp S0017 R R).map (mp [(19, 2), (20, 3)] 0) R R) hx91) ?_))
 rintro _ w496 ⟨k497, rfl, e498, f499, hn500, f501, hn502⟩
 obtain ⟨K503, S504, m505⟩ := Ji e498 42 R
 refine ⟨tv, ?_⟩
 have f507 := f499.mx (no_int _) m505 R (R : 42 + 2 = 44)
 have f508 := f501.mx (no_int _) m505 R (R : 42 + 3 = 45)
 refine Jb 1 R (Je [2] R (Jb 1 R (Je [1, 2, 1, 2] R ?_)))
 have f509 := f493.stp S504 R R
 refine Jl tv R R R R (Jd2 (cs := [.slice ak x48.1.Stem.length ap, .slice aq x48.1.Loop.length aj]) I65 Z65 R R R (haE f509.cells)) (Jn 1 R (Ob h fun x94 hx94 h => Jh R R R C46 (Ret.cast (by simp only [(hn500), (hn502), List.cons_append, List.nil_append]) (l_heldWord_ok (κ := fun b => mp [] 0 (K503 b)) (p0 := (⟨x91.2.1, x91.2.2⟩ : Word)) (Jl2 f507.rdc (mp [] 0) R R) (Jl2 f508.rdc (mp [] 0) R R) hx94)) ?_))
 rintro _ w510 ⟨k511, rfl, e512⟩
 obtain ⟨K513, S514, m515⟩ := Ji e512 46 R
 refine ⟨tv, Jb 1 R (Jq (Je [2, 2] R (Jb 2 R ?_)))⟩
 revert h
 cases ht517 : decide (x94 < 0)
 refine JF fun h => Jy R (Js (Jp (Jq (Je [2, 2, 2] R (Jb 3 R ?_)))))
 revert h
 cases ht519 : (x94 != x91.1)
 refine JF fun h => Jy R (Js (Jp (Jq (Ob h fun x102 hx102 h => Ob h fun x104 hx104 h => Ob h fun x106 hx106 h => Ob h fun x107 hx107 h => Jx1 (fun L w' => ∃ κ' b17 aI aE aF aG, L = [(8, .pointer (some ⟨b8, 0, none⟩)), (9, .bool x36.2), (12, .pointer (some ⟨b12, 0, none⟩)), (15, vi x91.1), (17, .pointer (some ⟨b17, 0, none⟩)), (18, .bool x107.2)] ∧ Stp [48, 50, 54, 57, 59, 60, 61] K513 w510 κ' w' ∧ Oc E6 2 κ' w' 48 aI aE x107.1.Stem ∧ Oc E6 2 κ' w' 49 aF aG x107.1.Loop ∧ Bc κ' w' 50 b17 65 [.slice aI x107.1.Stem.length aE, .slice aF x107.1.Loop.length aG]) ?_ ?_))))
 refine WC.rxt (κ := K513) [2, 3] none (by kernel_rfl) fun w528 S529 => Jq1 (fuel := 10) [(4, 2), (0, 0), (2, 0)] (by kernel_rfl) (by kernel_rfl) R (Jn 1 R (Jg R (Jd2 (cs := [vi p0.In, vi p0.Out]) I23 Z23 R R R (haC (f4.stp (S7.tr (S15.tr (S25.tr (S32.tr (S258.tr (S265.tr (S268.tr (S276.tr (S282.tr (S383.tr (S390.tr (S393.tr (S405.tr (S416.tr (S427.tr (S436.tr (S452.tr (S464.tr (S485.tr (S490.tr (S504.tr (S514.tr S529)))))))))))))))))))))) R R).cells R)) (Jg R (Jd2 (cs := [.slice ar p1.Next.length au, .slice av p1.Out.length aw]) I26 Z26 R R R (haC (f396.stp (S405.tr (S416.tr (S427.tr (S436.tr (S452.tr (S464.tr (S485.tr (S490.tr (S504.tr (S514.tr S529)))))))))) R R).cells R)) (Jp1 (WA.fork2 (fuel := 9) 1 10 (by kernel_rfl) R ?_ ?_)))))
 refine Jh R R R C12 (l_toSig_ok (κ := fun b => mp [] 0 (K513 b)) (p0 := p0) hx102) ?_
 rintro _ w532 ⟨k533, rfl, e534⟩
 obtain ⟨K535, S536, m537⟩ := Ji e534 48 R
 refine ⟨(S536.cl R), Jp1 (WA.fork2 (fuel := 8) 3 10 (by kernel_rfl) R ?_ ?_)⟩
 have S0018 := (S405.tr (S416.tr (S427.tr (S436.tr (S452.tr (S464.tr (S485.tr (S490.tr (S504.tr (S514.tr (S529.tr S536)))))))))))
 refine Jh R R R C13 (l_toMachine_ok (κ := fun b => mp [] 0 (K535 b)) (p0 := p1) (Jl2 (f397.stp S0018 R R) (mp [] 0) R R) (Jl2 (f398.stp S0018 R R) (mp [] 0) R R) hx104) ?_
 rintro _ w541 ⟨k542, aO, aP, aT, aN, rfl, e543, f544, f545⟩
 obtain ⟨K546, S547, m548⟩ := Ji e543 50 R
 refine ⟨((S536.tr S547).cl R), ?_⟩
 have f550 := f544.mx (no_own (no_int _) _) m548 R (R : 50 + 2 = 52)
 have f551 := f545.mx (no_own (no_int _) _) m548 R (R : 50 + 3 = 53)
 refine Jp1 (WA.fork2 (fuel := 7) 5 10 (by kernel_rfl) R ?_ ?_)
 refine Jh R R R C14 (l_toClauseS_ok (κ := fun b => mp [] 0 (K546 b)) (Jl2 (f421.stp (S427.tr (S436.tr (S452.tr (S464.tr (S485.tr (S490.tr (S504.tr (S514.tr (S529.tr (S536.tr S547)))))))))) R R) (mp [] 0) R R) hx106) ?_
 rintro _ w553 ⟨k554, aJ, aK, rfl, e555, f556⟩
 obtain ⟨K557, S558, m559⟩ := Ji e555 54 R
 refine ⟨((S536.tr (S547.tr S558)).cl R), ?_⟩
 have f561 := f556.mx Clause.no71 m559 R (R : 54 + 2 = 56)
 refine Jp1 (WA.fork2 (fuel := 6) 6 10 (by kernel_rfl) R ?_ ?_)
 refine Jh R R R C37 (i_BreakOf_ok (κ := fun b => mp [] 0 (K557 b)) (p0 := x102) (p1 := x104) (Jl2 (f550.stp S558 R R).rdc (mp [] 0) R R) (Jl2 (f551.stp S558 R R).rdc (mp [] 0) R R) (Jl2 f561.rdc (mp [] 0) R R) hx107) ?_
 rintro _ w564 ⟨k565, ae, ah, ab, ac, rfl, e566, f567, f568⟩
 obtain ⟨K569, S570, m571⟩ := Ji e566 57 R
 have S0019 := (S536.tr (S547.tr (S558.tr S570)))
 exact ⟨(S0019.cl R), Jp1 (Jq1 (fuel := 0) [(7, 2), (8, 2), (9, 2), (10, 1), (11, 1), (12, 2)] (by kernel_rfl) (by kernel_rfl) R (Jn 3 R (Jg1 (κ := K569) 61 R R R R R X65 R fun b17 w575 K576 S577 f578 => ⟨((S0019.tr S577).cl R), Jj1 (κ := K576) 61 (vc := [.slice ae x107.1.Stem.length ah, .slice ab x107.1.Loop.length ac]) R R R R R R R Z65 R R f578 R fun w579 S580 f581 => ⟨((S0019.tr (S577.tr S580)).cl R), Jn 1 R (Jp1 (Jr1 [] (by kernel_rfl) (by kernel_rfl) R (Jo (Jw1 _ ⟨(fun b => ren [(59, 48), (60, 49), (61, 50)] (K576 b)), b17, ae, ah, ab, ac, R, (Jy2 ((S529.tr (S536.tr (S547.tr (S558.tr (S570.tr (S577.tr S580)))))).wk R) [(59, 48), (60, 49), (61, 50)] R), (((f567.mx (no_int _) m571 R (R : 57 + 2 = 59)).stp (S577.tr S580) R R).map (ren [(59, 48), (60, 49), (61, 50)]) R R), (((f568.mx (no_int _) m571 R (R : 57 + 3 = 60)).stp (S577.tr S580) R R).map (ren [(59, 48), (60, 49), (61, 50)]) R R), (f581.map (ren [(59, 48), (60, 49), (61, 50)]) R R)⟩ (KM R)))))⟩⟩)))⟩
 refine Jg1 (κ := K557) 57 R R R R R X65 R fun b17 w584 K585 S586 f587 => ⟨((S536.tr (S547.tr (S558.tr S586))).cl R), Jp1 (Jq1 (fuel := 0) [(6, 1), (7, 2), (8, 2), (9, 2), (11, 1), (12, 2)] (by kernel_rfl) (by kernel_rfl) R (Jh R R R C37 (i_BreakOf_ok (κ := fun b => mp [] 0 (K585 b)) (p0 := x102) (p1 := x104) (Jl2 (f550.stp (S558.tr S586) R R).rdc (mp [] 0) R R) (Jl2 (f551.stp (S558.tr S586) R R).rdc (mp [] 0) R R) (Jl2 (f561.stp S586 R R).rdc (mp [] 0) R R) hx107) ?_))⟩
 rintro _ w591 ⟨k592, ae, ah, ab, ac, rfl, e593, f594, f595⟩
 obtain ⟨K596, S597, m598⟩ := Ji e593 58 R
 have S0020 := (S536.tr (S547.tr (S558.tr (S586.tr S597))))
 exact ⟨(S0020.cl R), Jn 3 R (Jj1 (κ := K596) 57 (vc := [.slice ae x107.1.Stem.length ah, .slice ab x107.1.Loop.length ac]) R R R R R R R Z65 R R (f587.stp S597 R R) R fun w603 S604 f605 => ⟨((S0020.tr S604).cl R), Jn 1 R (Jp1 (Jr1 [] (by kernel_rfl) (by kernel_rfl) R (Jo (Jw1 _ ⟨(fun b => ren [(60, 48), (61, 49), (57, 50)] (K596 b)), b17, ae, ah, ab, ac, R, (Jy2 ((S529.tr (S536.tr (S547.tr (S558.tr (S586.tr (S597.tr S604)))))).wk R) [(60, 48), (61, 49), (57, 50)] R), (((f594.mx (no_int _) m598 R (R : 58 + 2 = 60)).stp S604 R R).map (ren [(60, 48), (61, 49), (57, 50)]) R R), (((f595.mx (no_int _) m598 R (R : 58 + 3 = 61)).stp S604 R R).map (ren [(60, 48), (61, 49), (57, 50)]) R R), (f605.map (ren [(60, 48), (61, 49), (57, 50)]) R R)⟩ (KM R)))))⟩)⟩
 refine Jg1 (κ := K546) 54 R R R R R X65 R fun b17 w608 K609 S610 f611 => ⟨((S536.tr (S547.tr S610)).cl R), Jp1 (Jq1 (fuel := 0) [(5, 1), (6, 1), (7, 2), (8, 2), (9, 2), (11, 1), (12, 2)] (by kernel_rfl) (by kernel_rfl) R (Jh R R R C14 (l_toClauseS_ok (κ := fun b => mp [] 0 (K609 b)) (Jl2 (f421.stp (S427.tr (S436.tr (S452.tr (S464.tr (S485.tr (S490.tr (S504.tr (S514.tr (S529.tr (S536.tr (S547.tr S610))))))))))) R R) (mp [] 0) R R) hx106) ?_))⟩
 rintro _ w613 ⟨k614, aJ, aK, rfl, e615, f616⟩
 obtain ⟨K617, S618, m619⟩ := Ji e615 55 R
 refine ⟨((S536.tr (S547.tr (S610.tr S618))).cl R), Jh R R R C37 (i_BreakOf_ok (κ := fun b => mp [] 0 (K617 b)) (p0 := x102) (p1 := x104) (Jl2 (f550.stp (S610.tr S618) R R).rdc (mp [] 0) R R) (Jl2 (f551.stp (S610.tr S618) R R).rdc (mp [] 0) R R) (Jl2 (f616.mx Clause.no71 m619 R (R : 55 + 2 = 57)).rdc (mp [] 0) R R) hx107) ?_⟩
 rintro _ w624 ⟨k625, ae, ah, ab, ac, rfl, e626, f627, f628⟩
 obtain ⟨K629, S630, m631⟩ := Ji e626 58 R
 have S0021 := (S536.tr (S547.tr (S610.tr (S618.tr S630))))
 exact ⟨(S0021.cl R), Jn 3 R (Jj1 (κ := K629) 54 (vc := [.slice ae x107.1.Stem.length ah, .slice ab x107.1.Loop.length ac]) R R R R R R R Z65 R R (f611.stp (S618.tr S630) R R) R fun w636 S637 f638 => ⟨((S0021.tr S637).cl R), Jn 1 R (Jp1 (Jr1 [] (by kernel_rfl) (by kernel_rfl) R (Jo (Jw1 _ ⟨(fun b => ren [(60, 48), (61, 49), (54, 50)] (K629 b)), b17, ae, ah, ab, ac, R, (Jy2 ((S529.tr (S536.tr (S547.tr (S610.tr (S618.tr (S630.tr S637)))))).wk R) [(60, 48), (61, 49), (54, 50)] R), (((f627.mx (no_int _) m631 R (R : 58 + 2 = 60)).stp S637 R R).map (ren [(60, 48), (61, 49), (54, 50)]) R R), (((f628.mx (no_int _) m631 R (R : 58 + 3 = 61)).stp S637 R R).map (ren [(60, 48), (61, 49), (54, 50)]) R R), (f638.map (ren [(60, 48), (61, 49), (54, 50)]) R R)⟩ (KM R)))))⟩)⟩
 have S0022 := (S405.tr (S416.tr (S427.tr (S436.tr (S452.tr (S464.tr (S485.tr (S490.tr (S504.tr (S514.tr (S529.tr S536)))))))))))
 refine Jg1 (κ := K535) 50 R R R R R X65 R fun b17 w641 K642 S643 f644 => ⟨((S536.tr S643).cl R), Jp1 (Jq1 (fuel := 0) [(3, 1), (5, 1), (6, 1), (7, 2), (8, 2), (9, 2), (11, 1), (12, 2)] (by kernel_rfl) (by kernel_rfl) R (Jh R R R C13 (l_toMachine_ok (κ := fun b => mp [] 0 (K642 b)) (p0 := p1) (Jl2 (f397.stp (S0022.tr S643) R R) (mp [] 0) R R) (Jl2 (f398.stp (S0022.tr S643) R R) (mp [] 0) R R) hx104) ?_))⟩
 rintro _ w647 ⟨k648, aO, aP, aT, aN, rfl, e649, f650, f651⟩
 obtain ⟨K652, S653, m654⟩ := Ji e649 51 R
 refine ⟨((S536.tr (S643.tr S653)).cl R), Jh R R R C14 (l_toClauseS_ok (κ := fun b => mp [] 0 (K652 b)) (Jl2 (f421.stp (S427.tr (S436.tr (S452.tr (S464.tr (S485.tr (S490.tr (S504.tr (S514.tr (S529.tr (S536.tr (S643.tr S653))))))))))) R R) (mp [] 0) R R) hx106) ?_⟩
 rintro _ w659 ⟨k660, aJ, aK, rfl, e661, f662⟩
 obtain ⟨K663, S664, m665⟩ := Ji e661 55 R
 refine ⟨((S536.tr (S643.tr (S653.tr S664))).cl R), Jh R R R C37 (i_BreakOf_ok (κ := fun b => mp [] 0 (K663 b)) (p0 := x102) (p1 := x104) (Jl2 ((f650.mx (no_own (no_int _) _) m654 R (R : 51 + 2 = 53)).stp S664 R R).rdc (mp [] 0) R R) (Jl2 ((f651.mx (no_own (no_int _) _) m654 R (R : 51 + 3 = 54)).stp S664 R R).rdc (mp [] 0) R R) (Jl2 (f662.mx Clause.no71 m665 R (R : 55 + 2 = 57)).rdc (mp [] 0) R R) hx107) ?_⟩
 rintro _ w670 ⟨k671, ae, ah, ab, ac, rfl, e672, f673, f674⟩
 obtain ⟨K675, S676, m677⟩ := Ji e672 58 R
 have S0023 := (S536.tr (S643.tr (S653.tr (S664.tr S676))))
 exact ⟨(S0023.cl R), Jn 3 R (Jj1 (κ := K675) 50 (vc := [.slice ae x107.1.Stem.length ah, .slice ab x107.1.Loop.length ac]) R R R R R R R Z65 R R (f644.stp (S653.tr (S664.tr S676)) R R) R fun w682 S683 f684 => ⟨((S0023.tr S683).cl R), Jn 1 R (Jp1 (Jr1 [] (by kernel_rfl) (by kernel_rfl) R (Jo (Jw1 _ ⟨(fun b => ren [(60, 48), (61, 49)] (K675 b)), b17, ae, ah, ab, ac, R, (Jy2 ((S529.tr (S536.tr (S643.tr (S653.tr (S664.tr (S676.tr S683)))))).wk R) [(60, 48), (61, 49)] R), (((f673.mx (no_int _) m677 R (R : 58 + 2 = 60)).stp S683 R R).map (ren [(60, 48), (61, 49)]) R R), (((f674.mx (no_int _) m677 R (R : 58 + 3 = 61)).stp S683 R R).map (ren [(60, 48), (61, 49)]) R R), (f684.map (ren [(60, 48), (61, 49)]) R R)⟩ (KM R)))))⟩)⟩
 refine Jg1 (κ := K513) 48 R R R R R X65 R fun b17 w687 K688 S689 f690 => ⟨(S689.cl R), Jp1 (Jq1 (fuel := 0) [(1, 1), (3, 1), (5, 1), (6, 1), (7, 2), (8, 2), (9, 2), (11, 1), (12, 2)] (by kernel_rfl) (by kernel_rfl) R (Jh R R R C12 (l_toSig_ok (κ := fun b => mp [] 0 (K688 b)) (p0 := p0) hx102) ?_))⟩
 rintro _ w691 ⟨k692, rfl, e693⟩
 obtain ⟨K694, S695, m696⟩ := Ji e693 49 R
 have S0024 := (S405.tr (S416.tr (S427.tr (S436.tr (S452.tr (S464.tr (S485.tr (S490.tr (S504.tr (S514.tr (S529.tr (S689.tr S695))))))))))))
 refine ⟨((S689.tr S695).cl R), Jh R R R C13 (l_toMachine_ok (κ := fun b => mp [] 0 (K694 b)) (p0 := p1) (Jl2 (f397.stp S0024 R R) (mp [] 0) R R) (Jl2 (f398.stp S0024 R R) (mp [] 0) R R) hx104) ?_⟩
 rintro _ w700 ⟨k701, aO, aP, aT, aN, rfl, e702, f703, f704⟩
 obtain ⟨K705, S706, m707⟩ := Ji e702 51 R
 refine ⟨((S689.tr (S695.tr S706)).cl R), Jh R R R C14 (l_toClauseS_ok (κ := fun b => mp [] 0 (K705 b)) (Jl2 (f421.stp (S427.tr (S436.tr (S452.tr (S464.tr (S485.tr (S490.tr (S504.tr (S514.tr (S529.tr (S689.tr (S695.tr S706))))))))))) R R) (mp [] 0) R R) hx106) ?_⟩
 rintro _ w712 ⟨k713, aJ, aK, rfl, e714, f715⟩
 obtain ⟨K716, S717, m718⟩ := Ji e714 55 R
 refine ⟨((S689.tr (S695.tr (S706.tr S717))).cl R), Jh R R R C37 (i_BreakOf_ok (κ := fun b => mp [] 0 (K716 b)) (p0 := x102) (p1 := x104) (Jl2 ((f703.mx (no_own (no_int _) _) m707 R (R : 51 + 2 = 53)).stp S717 R R).rdc (mp [] 0) R R) (Jl2 ((f704.mx (no_own (no_int _) _) m707 R (R : 51 + 3 = 54)).stp S717 R R).rdc (mp [] 0) R R) (Jl2 (f715.mx Clause.no71 m718 R (R : 55 + 2 = 57)).rdc (mp [] 0) R R) hx107) ?_⟩
 rintro _ w723 ⟨k724, ae, ah, ab, ac, rfl, e725, f726, f727⟩
 obtain ⟨K728, S729, m730⟩ := Ji e725 58 R
 have S0025 := (S689.tr (S695.tr (S706.tr (S717.tr S729))))
 exact ⟨(S0025.cl R), Jn 3 R (Jj1 (κ := K728) 48 (vc := [.slice ae x107.1.Stem.length ah, .slice ab x107.1.Loop.length ac]) R R R R R R R Z65 R R (f690.stp (S695.tr (S706.tr (S717.tr S729))) R R) R fun w735 S736 f737 => ⟨((S0025.tr S736).cl R), Jn 1 R (Jp1 (Jr1 [] (by kernel_rfl) (by kernel_rfl) R (Jo (Jw1 _ ⟨(fun b => ren [(60, 48), (61, 49), (48, 50)] (K728 b)), b17, ae, ah, ab, ac, R, (Jy2 ((S529.tr (S689.tr (S695.tr (S706.tr (S717.tr (S729.tr S736)))))).wk R) [(60, 48), (61, 49), (48, 50)] R), (((f726.mx (no_int _) m730 R (R : 58 + 2 = 60)).stp S736 R R).map (ren [(60, 48), (61, 49), (48, 50)]) R R), (((f727.mx (no_int _) m730 R (R : 58 + 3 = 61)).stp S736 R R).map (ren [(60, 48), (61, 49), (48, 50)]) R R), (f737.map (ren [(60, 48), (61, 49), (48, 50)]) R R)⟩ (KM R)))))⟩)⟩
 rintro _ w521 ⟨K522, b17, aI, aE, aF, aG, rfl, S523, f525, f526, f527⟩
 have S0026 := (S383.tr (S390.tr (S393.tr (S405.tr (S416.tr (S427.tr (S436.tr (S452.tr (S464.tr (S485.tr (S490.tr (S504.tr (S514.tr S523)))))))))))))
 refine Jp (Jq (Je [1, 1, 1, 2, 2, 2, 2, 2, 2] R (Jl tv R R R R (Jd2 (cs := [.slice aI x107.1.Stem.length aE, .slice aF x107.1.Loop.length aG]) I65 Z65 R R R (haE f527.cells)) (Jl tv R R R R (Jd2 (cs := [.slice ax x36.1.Stem.length ay, .slice aA x36.1.Loop.length az]) I65 Z65 R R R (haE (f376.stp S0026 R R).cells)) (Ob h fun x112 hx112 h => Jh R R R C44 (l_eqWord_ok (κ := fun b => mp [] 0 (K522 b)) (p0 := x107.1) (p1 := x36.1) (Jl2 f525.rdc (mp [] 0) R R) (Jl2 f526.rdc (mp [] 0) R R) (Jl2 (f377.stp S0026 R R).rdc (mp [] 0) R R) (Jl2 (f378.stp S0026 R R).rdc (mp [] 0) R R) hx112) ?_)))))
 rintro _ w743 ⟨k744, rfl, e745⟩
 obtain ⟨K746, S747, m748⟩ := Ji e745 51 R
 refine ⟨tv, Jn 2 R (Ob h fun p118 h hK750 => Ju1 [(5, 2), (6, 2), (7, 2), (8, 2)] [] (fun L w' => L = [(12, .pointer (some ⟨b12, 0, none⟩)), (15, vi x91.1), (118, .bool p118)] ∧ ∃ κ', Stp [] K746 w743 κ' w') tv ?_ ?_)⟩
 revert h
 cases ht751 : (!x112)
 refine JF fun h => Jn 2 R (Jf R (rn_neqB R R U4 R) (Jn 1 R ?_))
 cases h
 exact Jv1 _ tv ⟨R, _, (Jx2 _ _).wk R⟩ (KM R)
 refine JT fun h => Jn 4 R ?_
 cases h
 exact Jv1 _ tv ⟨R, _, (Jx2 _ _).wk R⟩ (KM R)
 rintro _ w752 _ ⟨rfl, K753, S754⟩
 have h := hK750
 refine Jd ?_
 revert h
 cases ht755 : p118
 have S0027 := (S514.tr (S523.tr (S747.tr S754)))
 refine JF fun h => Jy R (Js (Jp (Je [2] R (Jb 1 R (Je [1, 2, 1, 2] R (Jl tv R R R R (Jd2 (cs := [.slice ak x48.1.Stem.length ap, .slice aq x48.1.Loop.length aj]) I65 Z65 R R R (haE (f509.stp S0027 R R).cells)) (Jn 1 R (Ob h fun x121 hx121 h => Jh R R R C46 (Ret.cast (by simp only [(hn500), (hn502), List.cons_append, List.nil_append]) (l_heldWord_ok (κ := fun b => mp [] 0 (K753 b)) (p0 := (⟨x91.2.1, x91.2.2⟩ : Word)) (Jl2 (f507.stp S0027 R R).rdc (mp [] 0) R R) (Jl2 (f508.stp S0027 R R).rdc (mp [] 0) R R) hx121)) ?_))))))))
 rintro _ w760 ⟨k761, rfl, e762⟩
 obtain ⟨K763, S764, m765⟩ := Ji e762 53 R
 refine ⟨tv, Jb 1 R (Jq (Je [2, 2] R (Jb 2 R ?_)))⟩
 revert h
 cases ht767 : decide (x121 < 0)
 refine JF fun h => Jy R (Js (Jp (Jq (Je [2, 2, 2] R (Jb 3 R ?_)))))
 revert h
 cases ht769 : (x121 != x91.1)
 refine JF fun h => Jy R (Js (Jp (Je [2] R (Jb 1 R (Ju (Ja2 (l := [.tmp 6]) V8 (Jp2 R R) R ?_))))))
 cases h
 exact ⟨K763, R, (hE.stp (S3.tr (S7.tr (S15.tr (S25.tr (S32.tr (S258.tr (S265.tr (S268.tr (S276.tr (S282.tr (S383.tr (S390.tr (S393.tr (S405.tr (S416.tr (S427.tr (S436.tr (S452.tr (S464.tr (S485.tr (S490.tr (S504.tr (S514.tr (S523.tr (S747.tr (S754.tr S764)))))))))))))))))))))))))) R R)⟩
 refine JT fun h => Jx R (Je [2] R (Jb 1 R (Ju (Jw (Ja2 (l := [.tmp 6]) V8 (Jp2 R R) R ?_)))))
 cases h
 exact ⟨K763, R, (hE.stp (S3.tr (S7.tr (S15.tr (S25.tr (S32.tr (S258.tr (S265.tr (S268.tr (S276.tr (S282.tr (S383.tr (S390.tr (S393.tr (S405.tr (S416.tr (S427.tr (S436.tr (S452.tr (S464.tr (S485.tr (S490.tr (S504.tr (S514.tr (S523.tr (S747.tr (S754.tr S764)))))))))))))))))))))))))) R R)⟩
 refine JT fun h => Jx R (Je [2] R (Jb 1 R (Ju (Jw (Ja2 (l := [.tmp 6]) V8 (Jp2 R R) R ?_)))))
 cases h
 exact ⟨K763, R, (hE.stp (S3.tr (S7.tr (S15.tr (S25.tr (S32.tr (S258.tr (S265.tr (S268.tr (S276.tr (S282.tr (S383.tr (S390.tr (S393.tr (S405.tr (S416.tr (S427.tr (S436.tr (S452.tr (S464.tr (S485.tr (S490.tr (S504.tr (S514.tr (S523.tr (S747.tr (S754.tr S764)))))))))))))))))))))))))) R R)⟩
 refine JT fun h => Jx R (Je [2] R (Jb 1 R (Ju (Jw (Ja2 (l := [.tmp 6]) V8 (Jp2 R R) R ?_)))))
 cases h
 exact ⟨K753, R, (hE.stp (S3.tr (S7.tr (S15.tr (S25.tr (S32.tr (S258.tr (S265.tr (S268.tr (S276.tr (S282.tr (S383.tr (S390.tr (S393.tr (S405.tr (S416.tr (S427.tr (S436.tr (S452.tr (S464.tr (S485.tr (S490.tr (S504.tr (S514.tr (S523.tr (S747.tr S754))))))))))))))))))))))))) R R)⟩
 refine JT fun h => Jx R (Je [2] R (Jb 1 R (Ju (Jw (Ja2 (l := [.tmp 6]) V8 (Jp2 R R) R ?_)))))
 cases h
 exact ⟨K513, R, (hE.stp (S3.tr (S7.tr (S15.tr (S25.tr (S32.tr (S258.tr (S265.tr (S268.tr (S276.tr (S282.tr (S383.tr (S390.tr (S393.tr (S405.tr (S416.tr (S427.tr (S436.tr (S452.tr (S464.tr (S485.tr (S490.tr (S504.tr S514)))))))))))))))))))))) R R)⟩
 refine JT fun h => Jx R (Je [2] R (Jb 1 R (Ju (Jw (Ja2 (l := [.tmp 6]) V8 (Jp2 R R) R ?_)))))
 cases h
 exact ⟨K513, R, (hE.stp (S3.tr (S7.tr (S15.tr (S25.tr (S32.tr (S258.tr (S265.tr (S268.tr (S276.tr (S282.tr (S383.tr (S390.tr (S393.tr (S405.tr (S416.tr (S427.tr (S436.tr (S452.tr (S464.tr (S485.tr (S490.tr (S504.tr S514)))))))))))))))))))))) R R)⟩
 refine JT fun h => Jx R (Je [2] R (Jb 1 R (Ju (Jw (Ja2 (l := [.tmp 6]) V8 (Jp2 R R) R ?_)))))
 cases h
 exact ⟨K489, R, (hE.stp (S3.tr (S7.tr (S15.tr (S25.tr (S32.tr (S258.tr (S265.tr (S268.tr (S276.tr (S282.tr (S383.tr (S390.tr (S393.tr (S405.tr (S416.tr (S427.tr (S436.tr (S452.tr (S464.tr (S485.tr S490)))))))))))))))))))) R R)⟩
 refine JT fun h => Jx R (Je [2] R (Jb 1 R (Ju (Jw (Ja2 (l := [.tmp 6]) V8 (Jp2 R R) R ?_)))))
 cases h
 exact ⟨K435, R, (hE.stp (S3.tr (S7.tr (S15.tr (S25.tr (S32.tr (S258.tr (S265.tr (S268.tr (S276.tr (S282.tr (S383.tr (S390.tr (S393.tr (S405.tr (S416.tr (S427.tr S436)))))))))))))))) R R)⟩
 refine JT fun h => Jx R (Je [2] R (Jb 1 R (Ju (Jw (Ja2 (l := [.tmp 6]) V8 (Jp2 R R) R ?_)))))
 cases h
 exact ⟨K415, R, (hE.stp (S3.tr (S7.tr (S15.tr (S25.tr (S32.tr (S258.tr (S265.tr (S268.tr (S276.tr (S282.tr (S383.tr (S390.tr (S393.tr (S405.tr S416)))))))))))))) R R)⟩
 refine JT fun h => Jx R (Je [2] R (Jb 1 R (Ju (Jw (Ja2 (l := [.tmp 6]) V8 (Jp2 R R) R ?_)))))
 cases h
 exact ⟨K389, R, (hE.stp (S3.tr (S7.tr (S15.tr (S25.tr (S32.tr (S258.tr (S265.tr (S268.tr (S276.tr (S282.tr (S383.tr S390))))))))))) R R)⟩
 refine JT fun h => Jx R (Je [2] R (Jb 1 R (Ju (Jw (Ja2 (l := [.tmp 6]) V8 (Jp2 R R) R ?_)))))
 cases h
 exact ⟨K24, R, (hE.stp (S3.tr (S7.tr (S15.tr S25))) R R)⟩
 refine JT fun h => Jx R (Je [2] R (Jb 1 R (Ju (Jw (Ja2 (l := [.tmp 6]) V8 (Jp2 R R) R ?_)))))
 cases h
 exact ⟨K14, R, (hE.stp (S3.tr (S7.tr S15)) R R)⟩
end Go.Proofs.YtcmamhmpoinmnaaGreat
