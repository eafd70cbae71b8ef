/- The walks, part 13. By program. -/
import Derived.Test.YtmiilifclnanlaaGreatFns12RB
set_option linter.unusedVariables false
set_option linter.unusedSimpArgs false
namespace Go.Proofs.YtmiilifclnanlaaGreat
open Go Go.Wk Go.Proofs
set_option maxRecDepth 100000
set_option maxHeartbeats 1000000
theorem s_AnswerOk_ok {w : World} {κ : Col} {ai ac aa ak ab ah} {p0 : Parity} {ae aj ad af} {p1 : Answer} (g0_0_0 : Rd (Rp.int .i64) κ w 0 ai ac p0.Arena.Owner) (g0_0_1 : Rd (Rp.sl (Rp.int .i64)) κ w 0 aa ak p0.Arena.Next) (g0_1 : Rd (Rp.int .i64) κ w 0 ab ah p0.Prio) (g1_0 : Rd (Rp.int .i64) κ w 0 ae aj p1.Won) (g1_1 : Rd (Rp.int .i64) κ w 0 ad af p1.Plan) {r : Bool} (h : s_AnswerOk p0 p1 = some r) : Ret Tryz.prog 27 [.agg #[.slice ai p0.Arena.Owner.length ac, .slice aa p0.Arena.Next.length ak, .slice ab p0.Prio.length ah], .agg #[.slice ae p1.Won.length aj, .slice ad p1.Plan.length af]] w (fun v w' => ∃ (κ' : Col), v = .bool r ∧ Ent κ w κ' w') := by
 unfold s_AnswerOk at h
 refine Ret.enter F27 R N27 R ?_
 dsimp only [envOf]
 have hE := Ent.refl κ w
 refine Je [1, 1, 2] R (Jf1 (κ := κ) 2 R R R R R R R fun b2 w1 K2 S3 f4 => ⟨tv, Jf1 (κ := K2) 3 R R R R R R R fun b3 w5 K6 S7 f8 => ⟨tv, Jb 1 R (Jq (Je [1, 1, 1, 2] R ?_))⟩⟩)
 have f9 := f4.stp S7 R R
 refine Jl tv R R R R (Jd2 (cs := [.slice ai p0.Arena.Owner.length ac, .slice aa p0.Arena.Next.length ak, .slice ab p0.Prio.length ah]) I39 Z39 R R R (haE f9.cells)) (Jl tv R R R R (Jd2 (cs := [.slice ae p1.Won.length aj, .slice ad p1.Plan.length af]) I34 Z34 R R R (haE f8.cells)) (Ob h fun x7 hx7 h => ?_))
 have f10 := g0_0_0.stp (S3.tr S7) R R
 have f11 := g0_0_1.stp (S3.tr S7) R R
 have f12 := g0_1.stp (S3.tr S7) R R
 have f13 := g1_0.stp (S3.tr S7) R R
 have f14 := g1_1.stp (S3.tr S7) R R
 refine Jh R R R C62 (s_l6Form_ok (κ := fun b => mp [] 0 (K6 b)) (p0 := p0) (p1 := p1) (Jl2 f10 (mp [] 0) R R) (Jl2 f11 (mp [] 0) R R) (Jl2 f12 (mp [] 0) R R) (Jl2 f13 (mp [] 0) R R) (Jl2 f14 (mp [] 0) R R) hx7) ?_
 rintro _ w15 ⟨k16, rfl, e17⟩
 obtain ⟨K18, S19, m20⟩ := Ji e17 4 R
 refine ⟨tv, Jb 1 R ?_⟩
 revert h
 cases ht22 : (!x7)
 refine JF fun h => Jy R (Js (Jp (Jq (Js1 (κ := K18) [2, 3] none [(0, 0), (1, 0), (3, 0), (4, 0), (2, 1), (5, 1), (6, 1), (7, 2), (8, 0), (9, 0), (11, 0), (12, 0), (10, 1), (13, 1), (14, 1), (15, 2), (16, 2)] [] (by kernel_rfl) (by kernel_rfl) fun w25 S24 => ?_))))
 have f26 := f9.stp (S19.tr S24) R R
 refine Jg R (Jd2 (cs := [.slice ai p0.Arena.Owner.length ac, .slice aa p0.Arena.Next.length ak, .slice ab p0.Prio.length ah]) I39 Z39 R R R (haC f26.cells R)) ?_
 have f27 := f8.stp (S19.tr S24) R R
 refine Jg R (Jd2 (cs := [.slice ae p1.Won.length aj, .slice ad p1.Plan.length af]) I34 Z34 R R R (haC f27.cells R)) (Jg R (Jd2 (cs := [.slice ai p0.Arena.Owner.length ac, .slice aa p0.Arena.Next.length ak, .slice ab p0.Prio.length ah]) I39 Z39 R R R (haC f26.cells R)) (Jg R (Jd2 (cs := [.slice ae p1.Won.length aj, .slice ad p1.Plan.length af]) I34 Z34 R R R (haC f27.cells R)) (Ob h fun x11 hx11 h => ?_)))
 have f28 := f13.stp (S19.tr S24) R R
 have f29 := f14.stp (S19.tr S24) R R
 refine Jh R R R C64 (s_RegionOf_ok (κ := fun b => mp [] 0 (K18 b)) (p0 := p1) (Jl2 f28 (mp [] 0) R R) (Jl2 f29 (mp [] 0) R R) hx11) ?_
 rintro _ w30 ⟨k31, aq, ap, rfl, e32, f33⟩
 obtain ⟨K34, S35, m36⟩ := Ji e32 6 R
 refine ⟨(S35.cl R), Ob h fun x14 hx14 h => ?_⟩
 have f39 := f10.stp (S19.tr (S24.tr S35)) R R
 have f40 := f11.stp (S19.tr (S24.tr S35)) R R
 have f41 := f12.stp (S19.tr (S24.tr S35)) R R
 have f42 := f28.stp S35 R R
 have f43 := f29.stp S35 R R
 refine Jh R R R C65 (s_l6Part_ok (κ := fun b => mp [] 0 (K34 b)) (p0 := p0) (p1 := p1) (Jl2 f39 (mp [] 0) R R) (Jl2 f40 (mp [] 0) R R) (Jl2 f41 (mp [] 0) R R) (Jl2 f42 (mp [] 0) R R) (Jl2 f43 (mp [] 0) R R) hx14) ?_
 rintro _ w44 ⟨k45, am, an, rfl, e46, f47⟩
 obtain ⟨K48, S49, m50⟩ := Ji e46 9 R
 refine ⟨((S35.tr S49).cl R), Ob h fun x15 hx15 h => ?_⟩
 have f53 := f39.stp S49 R R
 have f54 := f40.stp S49 R R
 have f55 := f41.stp S49 R R
 refine Jh R R R C63 (s_WinsBy_ok (κ := fun b => mp [] 0 (K48 b)) (p0 := p0) (Jl2 f53 (mp [] 0) R R) (Jl2 f54 (mp [] 0) R R) (Jl2 f55 (mp [] 0) R R) (Jl2 ((f33.mx (no_int _) m36 R (R : 6 + 2 = 8)).stp S49 R R).rdc (mp [] 0) R R) (Jl2 (f47.mx (no_int _) m50 R (R : 9 + 2 = 11)).rdc (mp [] 0) R R) hx15) ?_
 rintro _ w57 ⟨k58, rfl, e59⟩
 obtain ⟨K60, S61, m62⟩ := Ji e59 12 R
 refine ⟨((S35.tr (S49.tr S61)).cl R), Jn 1 R (Ob h fun p24 h hK64 => Ju1 [(8, 0), (9, 0), (11, 0), (12, 0), (10, 1), (13, 1), (14, 1), (15, 2)] [(16, 2)] (fun L w' => L = [(4, .bool false), (24, .bool p24)] ∧ ∃ κ', Stp [] K60 w57 κ' w') ((S35.tr (S49.tr S61)).cl R) ?_ ?_)⟩
 revert h
 cases ht65 : x15
 refine JF fun h => Je1 R R R R (Je1 R R R R (Je1 R R R R (Je1 R R R R (Jd1 R R R R (Jd1 R R R R (Jd1 R R R R (Jn 1 R ?_)))))))
 cases h
 exact Jv1 _ ((S35.tr (S49.tr S61)).cl R) ⟨R, _, (Jx2 _ _).wk R⟩ (KM R)
 refine JT fun h => Jg R (Jd2 (cs := [.slice ai p0.Arena.Owner.length ac, .slice aa p0.Arena.Next.length ak, .slice ab p0.Prio.length ah]) I39 Z39 R R R (haC f26.cells R)) (Jg R (Jd2 (cs := [.slice ae p1.Won.length aj, .slice ad p1.Plan.length af]) I34 Z34 R R R (haC f27.cells R)) (Jg R (Jd2 (cs := [.slice ai p0.Arena.Owner.length ac, .slice aa p0.Arena.Next.length ak, .slice ab p0.Prio.length ah]) I39 Z39 R R R (haC f26.cells R)) (Jg R (Jd2 (cs := [.slice ae p1.Won.length aj, .slice ad p1.Plan.length af]) I34 Z34 R R R (haC f27.cells R)) (Ob h fun x19 hx19 h => ?_))))
 have f66 := f42.stp (S49.tr S61) R R
 have f67 := f43.stp (S49.tr S61) R R
 refine Jh R R R C64 (s_RegionOf_ok (κ := fun b => mp [] 0 (K60 b)) (p0 := p1) (Jl2 f66 (mp [] 0) R R) (Jl2 f67 (mp [] 0) R R) hx19) ?_
 rintro _ w68 ⟨k69, al, ao, rfl, e70, f71⟩
 obtain ⟨K72, S73, m74⟩ := Ji e70 14 R
 refine ⟨((S35.tr (S49.tr (S61.tr S73))).cl R), Ob h fun x22 hx22 h => ?_⟩
 have f77 := f53.stp (S61.tr S73) R R
 have f78 := f54.stp (S61.tr S73) R R
 have f79 := f55.stp (S61.tr S73) R R
 refine Jh R R R C65 (s_l6Part_ok (κ := fun b => mp [] 0 (K72 b)) (p0 := p0) (p1 := p1) (Jl2 f77 (mp [] 0) R R) (Jl2 f78 (mp [] 0) R R) (Jl2 f79 (mp [] 0) R R) (Jl2 (f66.stp S73 R R) (mp [] 0) R R) (Jl2 (f67.stp S73 R R) (mp [] 0) R R) hx22) ?_
 rintro _ w82 ⟨k83, ar, au, rfl, e84, f85⟩
 obtain ⟨K86, S87, m88⟩ := Ji e84 17 R
 refine ⟨((S35.tr (S49.tr (S61.tr (S73.tr S87)))).cl R), Ob h fun x23 hx23 h => Jh R R R C63 (s_WinsBy_ok (κ := fun b => mp [] 0 (K86 b)) (p0 := p0) (Jl2 (f77.stp S87 R R) (mp [] 0) R R) (Jl2 (f78.stp S87 R R) (mp [] 0) R R) (Jl2 (f79.stp S87 R R) (mp [] 0) R R) (Jl2 ((f71.mx (no_int _) m74 R (R : 14 + 2 = 16)).stp S87 R R).rdc (mp [] 0) R R) (Jl2 (f85.mx (no_int _) m88 R (R : 17 + 2 = 19)).rdc (mp [] 0) R R) hx23) ?_⟩
 rintro _ w95 ⟨k96, rfl, e97⟩
 obtain ⟨K98, S99, m100⟩ := Ji e97 20 R
 refine ⟨((S35.tr (S49.tr (S61.tr (S73.tr (S87.tr S99))))).cl R), Jn 1 R ?_⟩
 cases h
 exact Jv1 _ ((S35.tr (S49.tr (S61.tr (S73.tr (S87.tr S99))))).cl R) ⟨R, _, (S73.tr (S87.tr S99)).wk R⟩ (KM R)
 rintro _ w102 _ ⟨rfl, K103, S104⟩
 have h := hK64
 refine Jn 1 R (Jt1 (Jd (Ju (Ja2 (l := [.tmp 4]) V27 (Jp2 R R) R ?_))))
 cases h
 exact ⟨K103, R, (hE.stp (S3.tr (S7.tr (S19.tr (S24.tr (S35.tr (S49.tr (S61.tr S104))))))) R R)⟩
 refine JT fun h => Jx R (Je [2] R (Jb 1 R (Ju (Jw (Ja2 (l := [.tmp 4]) V27 (Jp2 R R) R ?_)))))
 cases h
 exact ⟨K18, R, (hE.stp (S3.tr (S7.tr S19)) R R)⟩
theorem s_ResolvedBy_ok {w : World} {κ : Col} {ah ae ab am ac af} {p0 : Parity} {aE az aA aC} {p1 : Answer} {p2 : Edit} (g0_0_0 : Rd (Rp.int .i64) κ w 0 ah ae p0.Arena.Owner) (g0_0_1 : Rd (Rp.sl (Rp.int .i64)) κ w 0 ab am p0.Arena.Next) (g0_1 : Rd (Rp.int .i64) κ w 0 ac af p0.Prio) (g1_0 : Rd (Rp.int .i64) κ w 0 aE az p1.Won) (g1_1 : Rd (Rp.int .i64) κ w 0 aA aC p1.Plan) {r : Answer × Bool} (h : s_ResolvedBy p0 p1 p2 = some r) : Ret Tryz.prog 8 [.agg #[.slice ah p0.Arena.Owner.length ae, .slice ab p0.Arena.Next.length am, .slice ac p0.Prio.length af], .agg #[.slice aE p1.Won.length az, .slice aA p1.Plan.length aC], .agg #[vi p2.Kind, vi p2.V, vi p2.N]] w (fun v w' => ∃ (κ' : Col) (ra0 : Option Addr) (ru0 : Nat) (ra1 : Option Addr) (ru1 : Nat), v = .tuple #[.agg #[.slice ra0 r.1.Won.length ru0, .slice ra1 r.1.Plan.length ru1], .bool r.2] ∧ Ent κ w κ' w' ∧ Oc E6 2 κ' w' 2 ra0 ru0 r.1.Won ∧ Oc E6 2 κ' w' 3 ra1 ru1 r.1.Plan) := by
 unfold s_ResolvedBy at h
 refine Ret.enter F8 R N8 R ?_
 dsimp only [envOf]
 have hE := Ent.refl κ w
 refine Je [1, 1, 1, 1, 2] R (Jf1 (κ := κ) 2 R R R R R R R fun b3 w1 K2 S3 f4 => ⟨tv, Jf1 (κ := K2) 3 R R R R R R R fun b4 w5 K6 S7 f8 => ⟨tv, Jf1 (κ := K6) 4 R R R R R R R fun b5 w9 K10 S11 f12 => ⟨tv, Jg1 (κ := K10) 5 R R R R R X34 R fun b6 w13 K14 S15 f16 => ⟨tv, Jb 1 R (Jq (Je [1, 1, 1, 2, 2, 1, 1, 1, 2, 2] R ?_))⟩⟩⟩⟩)
 have f17 := f4.stp (S7.tr (S11.tr S15)) R R
 refine Jl tv R R R R (Jd2 (cs := [.slice ah p0.Arena.Owner.length ae, .slice ab p0.Arena.Next.length am, .slice ac p0.Prio.length af]) I39 Z39 R R R (haE f17.cells)) ?_
 have f18 := f12.stp S15 R R
 refine Jl tv R R R R (Jd2 (cs := [vi p2.Kind, vi p2.V, vi p2.N]) I42 Z42 R R R (haE f18.cells)) (Ob h fun x14 hx14 h => ?_)
 have f19 := g0_0_0.stp (S3.tr (S7.tr (S11.tr S15))) R R
 have f20 := g0_0_1.stp (S3.tr (S7.tr (S11.tr S15))) R R
 have f21 := g0_1.stp (S3.tr (S7.tr (S11.tr S15))) R R
 refine Jh R R R C36 (s_EditOk_ok (κ := fun b => mp [] 0 (K14 b)) (p0 := p0) (p1 := p2) (Jl2 f19 (mp [] 0) R R) (Jl2 f20 (mp [] 0) R R) (Jl2 f21 (mp [] 0) R R) hx14) ?_
 rintro _ w22 ⟨k23, rfl, e24⟩
 obtain ⟨K25, S26, m27⟩ := Ji e24 6 R
 refine ⟨tv, Jn 2 R (Ob h fun p21 h hK29 => Ju1 [(5, 1), (6, 1), (7, 1), (8, 2), (9, 2)] [] (fun L w' => L = [(3, .pointer (some ⟨b3, 0, none⟩)), (4, .pointer (some ⟨b4, 0, none⟩)), (5, .pointer (some ⟨b5, 0, none⟩)), (6, .pointer (some ⟨b6, 0, none⟩)), (21, .bool p21)] ∧ ∃ κ', Stp [] K25 w22 κ' w') tv ?_ ?_)⟩
 revert h
 cases ht30 : (!x14)
 have S001 := (S3.tr (S7.tr (S11.tr (S15.tr S26))))
 refine JF fun h => Jl tv R R R R (Jd2 (cs := [.slice ah p0.Arena.Owner.length ae, .slice ab p0.Arena.Next.length am, .slice ac p0.Prio.length af]) I39 Z39 R R R (haE (f17.stp S26 R R).cells)) (Jl tv R R R R (Jd2 (cs := [.slice aE p1.Won.length az, .slice aA p1.Plan.length aC]) I34 Z34 R R R (haE (f8.stp (S11.tr (S15.tr S26)) R R).cells)) (Ob h fun x19 hx19 h => Jh R R R C27 (s_AnswerOk_ok (κ := fun b => mp [] 0 (K25 b)) (p0 := p0) (p1 := p1) (Jl2 (f19.stp S26 R R) (mp [] 0) R R) (Jl2 (f20.stp S26 R R) (mp [] 0) R R) (Jl2 (f21.stp S26 R R) (mp [] 0) R R) (Jl2 (g1_0.stp S001 R R) (mp [] 0) R R) (Jl2 (g1_1.stp S001 R R) (mp [] 0) R R) hx19) ?_))
 rintro _ w38 ⟨k39, rfl, e40⟩
 obtain ⟨K41, S42, m43⟩ := Ji e40 8 R
 refine ⟨tv, Jn 2 R ?_⟩
 cases h
 exact Jv1 _ tv ⟨R, _, S42.wk R⟩ (KM R)
 refine JT fun h => Jd1 R R R R (Jd1 R R R R (Jd1 R R R R (Jn 2 R ?_)))
 cases h
 exact Jv1 _ tv ⟨R, _, (Jx2 _ _).wk R⟩ (KM R)
 rintro _ w45 _ ⟨rfl, K46, S47⟩
 have h := hK29
 refine Jd ?_
 revert h
 cases ht48 : p21
 refine JF fun h => Jy R (Js (Jp (Je [1, 1, 1, 2] R ?_)))
 have f54 := f17.stp (S26.tr S47) R R
 refine Jl tv R R R R (Jd2 (cs := [.slice ah p0.Arena.Owner.length ae, .slice ab p0.Arena.Next.length am, .slice ac p0.Prio.length af]) I39 Z39 R R R (haE f54.cells)) ?_
 have f55 := f18.stp (S26.tr S47) R R
 refine Jl tv R R R R (Jd2 (cs := [vi p2.Kind, vi p2.V, vi p2.N]) I42 Z42 R R R (haE f55.cells)) (Ob h fun x25 hx25 h => ?_)
 have f56 := f19.stp (S26.tr S47) R R
 have f57 := f20.stp (S26.tr S47) R R
 have f58 := f21.stp (S26.tr S47) R R
 refine Jh R R R C37 (s_l32Touched_ok (κ := fun b => mp [] 0 (K46 b)) (p0 := p0) (p1 := p2) (Jl2 f56 (mp [] 0) R R) (Jl2 f57 (mp [] 0) R R) (Jl2 f58 (mp [] 0) R R) hx25) ?_
 rintro _ w59 ⟨k60, aH, aI, rfl, e61, f62⟩
 obtain ⟨K63, S64, m65⟩ := Ji e61 8 R
 refine ⟨tv, ?_⟩
 have f67 := f62.mx no_bool m65 R (R : 8 + 2 = 10)
 refine Jb 1 R (Je [1, 1, 1, 1, 1, 1] R (Jl tv R R R R (Jd2 (cs := [.slice ah p0.Arena.Owner.length ae, .slice ab p0.Arena.Next.length am, .slice ac p0.Prio.length af]) I39 Z39 R R R (haE (f54.stp S64 R R).cells)) (Jl tv R R R R (Jd2 (cs := [vi p2.Kind, vi p2.V, vi p2.N]) I42 Z42 R R R (haE (f55.stp S64 R R).cells)) (Ob h fun x28 hx28 h => Jh R R R C38 (s_l32Do_ok (κ := fun b => mp [] 1 (K63 b)) (p0 := p0) (p1 := p2) (Jl2 (f56.stp S64 R R) (mp [] 1) R R) (Jl2 (f57.stp S64 R R) (mp [] 1) R R) (Jl2 (f58.stp S64 R R) (mp [] 1) R R) hx28) ?_))))
 rintro _ w73 ⟨k74, aS, aQ, aY, aT, aZ, aV, rfl, e75, f76, f77, f78⟩
 obtain ⟨K79, S80, m81, z82⟩ := Jj e75 11 R
 refine ⟨tv, Ob h fun x29 hx29 h => Jh R R R C24 (s_Solved_ok (κ := fun b => mp [] 0 (K79 b)) (p0 := x28) (Jl2 (f76.mx (no_int _) m81 R (R : 11 + 2 = 13)).rdc (mp [] 0) R R) (Jl2 (f77.mxz z82 m81 R (R : 11 + 3 = 14)).rdc (mp [] 0) R R) (Jl2 (f78.mx (no_int _) m81 R (R : 11 + 4 = 15)).rdc (mp [] 0) R R) hx29) ?_⟩
 rintro _ w86 ⟨k87, aL, aK, aJ, aM, rfl, e88, f89, f90⟩
 obtain ⟨K91, S92, m93⟩ := Ji e88 16 R
 refine ⟨tv, ?_⟩
 have f95 := f89.mx (no_int _) m93 R (R : 16 + 2 = 18)
 have f96 := f90.mx (no_int _) m93 R (R : 16 + 3 = 19)
 refine Jg1 (κ := K91) 20 R R R R R X34 R fun b9 w97 K98 S99 f100 => ⟨tv, Jj1 (κ := K98) 20 (vc := [.slice aL x29.Won.length aK, .slice aJ x29.Plan.length aM]) R R R R R R R Z34 R R f100 R fun w101 S102 f103 => ⟨tv, Jd (Je [2, 1, 1] R (Jf R (rn_build (parts := []) (cells := [.slice none 0 0, .slice none 0 0]) R R (by kernel_rfl)) (Jg1 (κ := K98) 21 R R R R R X34 R fun b10 w104 K105 S106 f107 => ⟨tv, Jj1 (κ := K105) 21 (vc := [.slice none 0 0, .slice none 0 0]) R R R R R R R Z34 R R f107 R fun w108 S109 f110 => ⟨tv, Jd (Jq (Je [2] R (Jb 1 R ?_)))⟩⟩)))⟩⟩
 have hN111 : (x25.length : Int) ≤ 9223372036854775807 := f67.len_le
 refine Ob h fun q2 hq113 hK112 => ?_
 clear h
 refine Jx1 (fun L w' => ∃ κ', ∃ s3 : (List Int) × (List Int), ∃ ak ai aj aa, L = [(6, .pointer (some ⟨b6, 0, none⟩)), (10, .pointer (some ⟨b10, 0, none⟩))] ∧ Stp [21, 22, 23] K105 w108 κ' w' ∧ Oc E6 2 κ' w' 22 ak ai s3.1 ∧ Oc E6 2 κ' w' 23 aj aa s3.2 ∧ Bc κ' w' 21 b10 34 [.slice ak s3.1.length ai, .slice aj s3.2.length aa] ∧ q2 = Sum.inr s3) ?_ ?_
 refine Jv (Jy1 (fun k L w' => ∃ κ' v11, ∃ s1 : (List Int) × (List Int), ∃ aq ay ad al, L = [(4, .pointer (some ⟨b4, 0, none⟩)), (6, .pointer (some ⟨b6, 0, none⟩)), (8, .slice aH x25.length aI), (9, .pointer (some ⟨b9, 0, none⟩)), (10, .pointer (some ⟨b10, 0, none⟩)), (11, vi v11)] ∧ Stp [21, 22, 23] K105 w108 κ' w' ∧ Oc E6 2 κ' w' 22 aq ay s1.1 ∧ Oc E6 2 κ' w' 23 ad al s1.2 ∧ Bc κ' w' 21 b10 34 [.slice aq s1.1.length ay, .slice ad s1.2.length al] ∧ 0 ≤ v11 ∧ Int.toNat ((x25.length : Int) - v11) = k ∧ cntM (s_ResolvedBy_b0 p1 x25 x29) k v11 s1 = some q2) ⟨_, _, ⟨K105, 0, ((([] : List Int) : (List Int)), (([] : List Int) : (List Int))), none, 0, none, 0, R, (Jx2 _ _).wk R, Ow.nil, Ow.nil, f110, (by decide), (by simp), hq113⟩, (KM R)⟩ ?_)
 rintro k _ w120 ⟨K121, v11, s1, aq, ay, ad, al, rfl, S122, f123, f124, f125, hj111, hJ111, h⟩
 rcases k with _ | k
 have hk126 := h; obtain ⟨o111, h⟩ := ex_eq (Sum.inr (Sum.inl s1) : (Answer × Bool) ⊕ (((List Int) × (List Int)) ⊕ ((List Int) × (List Int))))
 have hc111 : decide (v11 < (x25.length : Int)) = false := Jo2 (by omega)
 refine Jq (Je [2, 2, 2, 2] R (Jn 2 R (Jf R (Je2 U70 R R) (Jb 1 R (Jw2 R hc111 (Jc1 (Jt (Jt ?_))))))))
 cases h
 have h := hk126
 refine Jb1 ?_
 cases h
 exact Jw1 _ ⟨K121, ((s1.1 : (List Int)), (s1.2 : (List Int))), aq, ay, ad, al, R, S122.wk R, f123, f124, f125, R⟩ (KM R)
 obtain ⟨o111, h, hk126⟩ := BI h; unfold s_ResolvedBy_b0 at h
 have hc111 : decide (v11 < (x25.length : Int)) = true := Jn2 (by omega)
 refine Jq (Je [2, 2, 2, 2] R (Jn 2 R (Jf R (Je2 U70 R R) (Jb 1 R (Jv2 R hc111 (Js (Jp (Jq (Jv (Je [2, 2, 2, 1] R (Jn 2 R (Ob h fun x39 hx39 h => Jf R (Jf2 f67.rdc hx39 U70 Z4 R R R R) (Jl tv R R R R (Jc2 I4 R R (hvE ((f67.stp (S80.tr (S92.tr (S99.tr (S102.tr (S106.tr (S109.tr S122)))))) R R).rdc.gBool hx39))) (Jd (Ob h fun q4 h hK128 => Jx1 (fun L w' => ∃ κ' ax aw av ap, L = [(4, .pointer (some ⟨b4, 0, none⟩)), (6, .pointer (some ⟨b6, 0, none⟩)), (8, .slice aH x25.length aI), (9, .pointer (some ⟨b9, 0, none⟩)), (10, .pointer (some ⟨b10, 0, none⟩)), (11, vi v11)] ∧ Stp [21, 22, 23] K121 w120 κ' w' ∧ Oc E6 2 κ' w' 22 ax aw q4.1 ∧ Oc E6 2 κ' w' 23 av ap q4.2 ∧ Bc κ' w' 21 b10 34 [.slice ax q4.1.length aw, .slice av q4.2.length ap]) ?_ ?_)))))))))))))))
 revert h
 cases ht135 : x39
 refine JF fun h => Jy R (Jq (Js1 (κ := K121) [0, 3, 21] (some 10) [(0, 2), (2, 2), (4, 2), (1, 0), (3, 0), (5, 2), (6, 0), (7, 1), (8, 1), (9, 2)] [(10, 1)] (by kernel_rfl) (by kernel_rfl) fun w175 S174 => Jf R (Jb2 U34 R Z22 R R) (Jf R (Jb2 U34 R Z22 R R) (Jn 1 R ?_))))
 have f176 := f125.stp S174 R R
 refine Jg R (Jc2 I22 R R (hvC (f176.ld 0 R R) R)) ?_
 have f177 := f8.stp (S11.tr (S15.tr (S26.tr (S47.tr (S64.tr (S80.tr (S92.tr (S99.tr (S102.tr (S106.tr (S109.tr (S122.tr S174)))))))))))) R R
 refine Jg R (Jc2 I22 R R (hvC (f177.ld 0 R R) R)) (Ob h fun x66 hx66 h => Jf R (Jf2 g1_0 hx66 U22 Z2 R R R R) (Jg R (Jc2 I2 R R (hvC ((g1_0.stp (S3.tr (S7.tr (S11.tr (S15.tr (S26.tr (S47.tr (S64.tr (S80.tr (S92.tr (S99.tr (S102.tr (S106.tr (S109.tr (S122.tr S174)))))))))))))) R R).gInt hx66) R)) (Jn1 (κ := K121) (E := E6) 24 [] (parts := [(0, .tmp 67)]) (cells := [vi x66]) (xs := ([x66] : List Int)) R R R R R R Y22 Tryzinfo2 R R R R R R R R R R ⟨[vi x66], [], Zl K121 w175 [], Zl K121 w175 [], R, Zl.sp (l1 := []) (l2 := []) R, Zl.sr (l1 := []) (l2 := []), R, R⟩ fun aN aX w179 K180 S181 f182 => ⟨(S181.cl R), Ob h fun x69 hx69 h => Jm1 (κ := K180) (E := E6) 22 [] R R R R R R R R R Y22 Tryzinfo2 R R R R (f123.stp (S174.tr S181) R R) (Sl.srcP (pu_int _) f182.rdc) sy_false hx69 R fun ar ao w184 K185 S186 f187 => ⟨((S181.tr S186).cl R), Jf R (Jb2 U34 R Z22 R R) (Jt1 (Ji1 (κ := K185) 21 (off := 0) (vc := [.slice ar x69.length ao]) (cs' := [.slice ar x69.length ao, .slice ad s1.2.length al]) R R R R R R R Z22 R R (f176.stp (S181.tr S186) R R) R R fun w189 S190 f191 => ⟨tv, Jd (Js1 (κ := K185) [0, 3, 21] (some 10) [(0, 2), (2, 2), (4, 2), (1, 0), (3, 0), (5, 2), (6, 0), (7, 1), (8, 1), (9, 2)] [(10, 1)] (by kernel_rfl) (by kernel_rfl) fun w193 S192 => Jf R (Jb2 U34 R Z22 R R) (Jf R (Jb2 U34 R Z22 R R) (Jn 1 R ?_)))⟩))⟩⟩)))
 have f194 := f191.stp S192 R R
 refine Jg R (Jc2 I22 R R (hvC (f194.ld 1 R R) R)) (Jg R (Jc2 I22 R R (hvC ((f177.stp (S181.tr (S186.tr (S190.tr S192))) R R).ld 1 R R) R)) (Ob h fun x76 hx76 h => Jf R (Jf2 g1_1 hx76 U22 Z2 R R R R) (Jg R (Jc2 I2 R R (hvC ((g1_1.stp (S3.tr (S7.tr (S11.tr (S15.tr (S26.tr (S47.tr (S64.tr (S80.tr (S92.tr (S99.tr (S102.tr (S106.tr (S109.tr (S122.tr (S174.tr (S181.tr (S186.tr (S190.tr S192)))))))))))))))))) R R).gInt hx76) R)) (Jn1 (κ := K185) (E := E6) 25 [] (parts := [(0, .tmp 77)]) (cells := [vi x76]) (xs := ([x76] : List Int)) R R R R R R Y22 Tryzinfo2 R R R R R R R R R R ⟨[vi x76], [], Zl K185 w193 [], Zl K185 w193 [], R, Zl.sp (l1 := []) (l2 := []) R, Zl.sr (l1 := []) (l2 := []), R, R⟩ fun ba aR w197 K198 S199 f200 => ⟨(S199.cl R), Ob h fun x79 hx79 h => Jm1 (κ := K198) (E := E6) 23 [] R R R R R R R R R Y22 Tryzinfo2 R R R R (f124.stp (S174.tr (S181.tr (S186.tr (S190.tr (S192.tr S199))))) R R) (Sl.srcP (pu_int _) f200.rdc) sy_false hx79 R fun aG aF w202 K203 S204 f205 => ⟨((S199.tr S204).cl R), Jf R (Jb2 U34 R Z22 R R) (Jt1 (Ji1 (κ := K203) 21 (off := 1) (vc := [.slice aG x79.length aF]) (cs' := [.slice ar x69.length ao, .slice aG x79.length aF]) R R R R R R R Z22 R R (f194.stp (S199.tr S204) R R) R R fun w207 S208 f209 => ⟨tv, Jo ?_⟩))⟩⟩))))
 cases h
 exact Jw1 _ ⟨K203, ar, ao, aG, aF, R, (S174.tr (S181.tr (S186.tr (S190.tr (S192.tr (S199.tr (S204.tr S208))))))).wk R, (f187.stp (S190.tr (S192.tr (S199.tr (S204.tr S208)))) R R), (f205.stp S208 R R), f209⟩ (KM R)
 refine JT fun h => Jx R (Jq (Js1 (κ := K121) [0, 18, 20, 21] (some 10) [(0, 2), (2, 2), (4, 2), (1, 0), (3, 0), (5, 2), (6, 0), (7, 1), (8, 1), (9, 2)] [(10, 1)] (by kernel_rfl) (by kernel_rfl) fun w137 S136 => Jf R (Jb2 U34 R Z22 R R) (Jf R (Jb2 U34 R Z22 R R) (Jn 1 R ?_))))
 have f138 := f125.stp S136 R R
 refine Jg R (Jc2 I22 R R (hvC (f138.ld 0 R R) R)) ?_
 have f139 := f103.stp (S106.tr (S109.tr (S122.tr S136))) R R
 refine Jg R (Jc2 I22 R R (hvC (f139.ld 0 R R) R)) (Ob h fun x46 hx46 h => Jf R (Jf2 f95.rdc hx46 U22 Z2 R R R R) (Jg R (Jc2 I2 R R (hvC ((f95.stp (S99.tr (S102.tr (S106.tr (S109.tr (S122.tr S136))))) R R).rdc.gInt hx46) R)) (Jn1 (κ := K121) (E := E6) 24 [] (parts := [(0, .tmp 47)]) (cells := [vi x46]) (xs := ([x46] : List Int)) R R R R R R Y22 Tryzinfo2 R R R R R R R R R R ⟨[vi x46], [], Zl K121 w137 [], Zl K121 w137 [], R, Zl.sp (l1 := []) (l2 := []) R, Zl.sr (l1 := []) (l2 := []), R, R⟩ fun aU aO w141 K142 S143 f144 => ⟨(S143.cl R), Ob h fun x49 hx49 h => Jm1 (κ := K142) (E := E6) 22 [] R R R R R R R R R Y22 Tryzinfo2 R R R R (f123.stp (S136.tr S143) R R) (Sl.srcP (pu_int _) f144.rdc) sy_false hx49 R fun an au w146 K147 S148 f149 => ⟨((S143.tr S148).cl R), Jf R (Jb2 U34 R Z22 R R) (Jt1 (Ji1 (κ := K147) 21 (off := 0) (vc := [.slice an x49.length au]) (cs' := [.slice an x49.length au, .slice ad s1.2.length al]) R R R R R R R Z22 R R (f138.stp (S143.tr S148) R R) R R fun w151 S152 f153 => ⟨tv, Jd (Js1 (κ := K147) [0, 19, 20, 21] (some 10) [(0, 2), (2, 2), (4, 2), (1, 0), (3, 0), (5, 2), (6, 0), (7, 1), (8, 1), (9, 2)] [(10, 1)] (by kernel_rfl) (by kernel_rfl) fun w155 S154 => Jf R (Jb2 U34 R Z22 R R) (Jf R (Jb2 U34 R Z22 R R) (Jn 1 R ?_)))⟩))⟩⟩)))
 have f156 := f153.stp S154 R R
 refine Jg R (Jc2 I22 R R (hvC (f156.ld 1 R R) R)) (Jg R (Jc2 I22 R R (hvC ((f139.stp (S143.tr (S148.tr (S152.tr S154))) R R).ld 1 R R) R)) (Ob h fun x56 hx56 h => Jf R (Jf2 f96.rdc hx56 U22 Z2 R R R R) (Jg R (Jc2 I2 R R (hvC ((f96.stp (S99.tr (S102.tr (S106.tr (S109.tr (S122.tr (S136.tr (S143.tr (S148.tr (S152.tr S154))))))))) R R).rdc.gInt hx56) R)) (Jn1 (κ := K147) (E := E6) 25 [] (parts := [(0, .tmp 57)]) (cells := [vi x56]) (xs := ([x56] : List Int)) R R R R R R Y22 Tryzinfo2 R R R R R R R R R R ⟨[vi x56], [], Zl K147 w155 [], Zl K147 w155 [], R, Zl.sp (l1 := []) (l2 := []) R, Zl.sr (l1 := []) (l2 := []), R, R⟩ fun aP aW w159 K160 S161 f162 => ⟨(S161.cl R), Ob h fun x59 hx59 h => Jm1 (κ := K160) (E := E6) 23 [] R R R R R R R R R Y22 Tryzinfo2 R R R R (f124.stp (S136.tr (S143.tr (S148.tr (S152.tr (S154.tr S161))))) R R) (Sl.srcP (pu_int _) f162.rdc) sy_false hx59 R fun aB aD w164 K165 S166 f167 => ⟨((S161.tr S166).cl R), Jf R (Jb2 U34 R Z22 R R) (Jt1 (Ji1 (κ := K165) 21 (off := 1) (vc := [.slice aB x59.length aD]) (cs' := [.slice an x49.length au, .slice aB x59.length aD]) R R R R R R R Z22 R R (f156.stp (S161.tr S166) R R) R R fun w169 S170 f171 => ⟨tv, Jo ?_⟩))⟩⟩))))
 cases h
 exact Jw1 _ ⟨K165, an, au, aB, aD, R, (S136.tr (S143.tr (S148.tr (S152.tr (S154.tr (S161.tr (S166.tr S170))))))).wk R, (f149.stp (S152.tr (S154.tr (S161.tr (S166.tr S170)))) R R), (f167.stp S170 R R), f171⟩ (KM R)
 rintro _ w129 ⟨K130, ax, aw, av, ap, rfl, S131, f132, f133, f134⟩
 have h := hK128
 refine Jz (Jp (Ja [2, 2, 2] R (Jc 3 R ?_)))
 have hw111 : IntKind.wrap .i64 (v11 + 1) = v11 + 1 := wr1 hj111 (Jm2 hc111) hN111
 rw [hw111]
 have hc111 := Jm2 hc111
 cases h
 exact Jz1 fun a ha => ⟨k, _, Ja3 _, ⟨K130, v11 + 1, ((q4.1 : (List Int)), (q4.2 : (List Int))), ax, aw, av, ap, R, (S122.tr S131).wk R, f132, f133, f134, by omega, by omega, hk126⟩, (ha.mm R)⟩
 rintro _ w114 ⟨K115, s3, ak, ai, aj, aa, rfl, S116, f117, f118, f119, rfl⟩
 have h := hK112
 dsimp only [aft] at h
 refine Jp (Je [1, 1, 2] R (Jl tv R R R R (Jd2 (cs := [.slice ak s3.1.length ai, .slice aj s3.2.length aa]) I34 Z34 R R R (haE f119.cells)) (Jj1 (κ := K115) 5 (vc := [.slice ak s3.1.length ai, .slice aj s3.2.length aa]) R R R R R R R Z34 R R (f16.stp (S26.tr (S47.tr (S64.tr (S80.tr (S92.tr (S99.tr (S102.tr (S106.tr (S109.tr S116))))))))) R R) R fun w213 S214 f215 => ⟨tv, Jb 1 R (Ju (Ja2 (l := [.cell 6 34, .tmp 7]) V8 (res_cellA R f215 I34 Z34 R (Jp2 R R)) R ?_))⟩)))
 cases h
 exact ⟨(fun b => ren [(22, 2), (23, 3)] (K115 b)), ak, ai, aj, aa, R, ((hE.stp (S3.tr (S7.tr (S11.tr (S15.tr (S26.tr (S47.tr (S64.tr (S80.tr (S92.tr (S99.tr (S102.tr (S106.tr (S109.tr (S116.tr S214)))))))))))))) R R).map (ren [(22, 2), (23, 3)]) R R), ((f117.stp S214 R R).map (ren [(22, 2), (23, 3)]) R R), ((f118.stp S214 R R).map (ren [(22, 2), (23, 3)]) R R)⟩
 refine JT fun h => Jx R (Je [2, 1, 2] R (Jf R (rn_build (parts := []) (cells := [.slice none 0 0, .slice none 0 0]) R R (by kernel_rfl)) (Jj1 (κ := K46) 5 (vc := [.slice none 0 0, .slice none 0 0]) R R R R R R R Z34 R R (f16.stp (S26.tr S47) R R) R fun w50 S51 f52 => ⟨tv, Jb 1 R (Ju (Jw (Ja2 (l := [.cell 6 34, .tmp 7]) V8 (res_cellA R f52 I34 Z34 R (Jp2 R R)) R ?_)))⟩)))
 cases h
 exact ⟨K46, none, 0, none, 0, R, (hE.stp (S3.tr (S7.tr (S11.tr (S15.tr (S26.tr (S47.tr S51)))))) R R), Ow.nil, Ow.nil⟩
end Go.Proofs.YtmiilifclnanlaaGreat
