/- The walks, part 14. By program. -/
import Derived.Test.YtmiilifclnanlaaGreatFns13RB
set_option linter.unusedVariables false
set_option linter.unusedSimpArgs false
namespace Go.Proofs.YtmiilifclnanlaaGreat
open Go Go.Wk Go.Proofs
set_option maxRecDepth 100000
set_option maxHeartbeats 1000000
theorem l_FnExactResolvedBy_ok {w : World} {κ : Col} {aA ax ar aC au az} {p0 : Parity} {ay aB av aw} {p1 : Answer} {p2 : Edit} (g0_0_0 : Rd (Rp.int .i64) κ w 0 aA ax p0.Arena.Owner) (g0_0_1 : Rd (Rp.sl (Rp.int .i64)) κ w 0 ar aC p0.Arena.Next) (g0_1 : Rd (Rp.int .i64) κ w 0 au az p0.Prio) (g1_0 : Rd (Rp.int .i64) κ w 0 ay aB p1.Won) (g1_1 : Rd (Rp.int .i64) κ w 0 av aw p1.Plan) {r : Bool} (h : l_FnExactResolvedBy p0 p1 p2 = some r) : Ret Tryz.prog 3 [.agg #[.slice aA p0.Arena.Owner.length ax, .slice ar p0.Arena.Next.length aC, .slice au p0.Prio.length az], .agg #[.slice ay p1.Won.length aB, .slice av p1.Plan.length aw], .agg #[vi p2.Kind, vi p2.V, vi p2.N]] w (fun v w' => ∃ (κ' : Col), v = .bool r ∧ Ent κ w κ' w') := by
 unfold l_FnExactResolvedBy at h
 refine Ret.enter F3 R N3 R ?_
 dsimp only [envOf]
 have hE := Ent.refl κ w
 refine Je [1, 1, 1, 2] R (Jf1 (κ := κ) 2 R R R R R R R fun b3 w1 K2 S3 f4 => ⟨tv, Jf1 (κ := K2) 3 R R R R R R R fun b4 w5 K6 S7 f8 => ⟨tv, Jf1 (κ := K6) 4 R R R R R R R fun b5 w9 K10 S11 f12 => ⟨tv, Jb 1 R (Je [2] R (Jb 1 R (Je [1, 2, 1, 2] R ?_)))⟩⟩⟩)
 have f13 := f4.stp (S7.tr S11) R R
 refine Jl tv R R R R (Jd2 (cs := [.slice aA p0.Arena.Owner.length ax, .slice ar p0.Arena.Next.length aC, .slice au p0.Prio.length az]) I27 Z27 R R R (haE f13.cells)) (Jn 1 R (Ob h fun x21 hx21 h => ?_))
 have f14 := g0_0_0.stp (S3.tr (S7.tr S11)) R R
 have f15 := g0_0_1.stp (S3.tr (S7.tr S11)) R R
 have f16 := g0_1.stp (S3.tr (S7.tr S11)) R R
 refine Jh R R R C6 (l_szParity_ok (κ := fun b => mp [] 0 (K10 b)) (p0 := p0) (Jl2 f14 (mp [] 0) R R) (Jl2 f15 (mp [] 0) R R) (Jl2 f16 (mp [] 0) R R) hx21) ?_
 rintro _ w17 ⟨k18, rfl, e19⟩
 obtain ⟨K20, S21, m22⟩ := Ji e19 5 R
 refine ⟨tv, Jb 1 R (Jq (Je [2, 2] R (Jb 2 R ?_)))⟩
 revert h
 cases ht24 : decide (x21 < 0)
 refine JF fun h => Jy R (Js (Jp (Je [1, 2, 1, 2] R ?_)))
 have f26 := f8.stp (S11.tr S21) R R
 refine Jl tv R R R R (Jd2 (cs := [.slice ay p1.Won.length aB, .slice av p1.Plan.length aw]) I29 Z29 R R R (haE f26.cells)) (Jn 1 R (Ob h fun x26 hx26 h => ?_))
 have f27 := g1_0.stp (S3.tr (S7.tr (S11.tr S21))) R R
 have f28 := g1_1.stp (S3.tr (S7.tr (S11.tr S21))) R R
 refine Jh R R R C7 (l_szAnswer_ok (κ := fun b => mp [] 0 (K20 b)) (p0 := p1) (Jl2 f27 (mp [] 0) R R) (Jl2 f28 (mp [] 0) R R) hx26) ?_
 rintro _ w29 ⟨k30, rfl, e31⟩
 obtain ⟨K32, S33, m34⟩ := Ji e31 7 R
 refine ⟨tv, Jb 1 R (Jq (Je [2, 2] R (Jb 2 R ?_)))⟩
 revert h
 cases ht36 : decide (x26 < 0)
 refine JF fun h => Jy R (Js (Jp (Jq (Ob h fun x31 hx31 h => Ob h fun x33 hx33 h => Ob h fun x35 hx35 h => Ob h fun x36 hx36 h => Jx1 (fun L w' => ∃ κ' b8 aE aF aD aG, L = [(3, .pointer (some ⟨b3, 0, none⟩)), (4, .pointer (some ⟨b4, 0, none⟩)), (5, .pointer (some ⟨b5, 0, none⟩)), (8, .pointer (some ⟨b8, 0, none⟩)), (9, .bool x36.2)] ∧ Stp [9, 14, 18, 20, 22, 23, 24] K32 w29 κ' w' ∧ Oc E6 2 κ' w' 9 aE aF x36.1.Won ∧ Oc E6 2 κ' w' 10 aD aG x36.1.Plan ∧ Bc κ' w' 11 b8 34 [.slice aE x36.1.Won.length aF, .slice aD x36.1.Plan.length aG]) ?_ ?_))))
 refine WC.rxt (κ := K32) [2, 3, 4] none (by kernel_rfl) fun w45 S46 => Jq1 (fuel := 10) [(0, 0), (2, 0), (4, 0)] (by kernel_rfl) (by kernel_rfl) R (Jg R (Jd2 (cs := [.slice aA p0.Arena.Owner.length ax, .slice ar p0.Arena.Next.length aC, .slice au p0.Prio.length az]) I27 Z27 R R R (haC (f13.stp (S21.tr (S33.tr S46)) R R).cells R)) (Jg R (Jd2 (cs := [.slice ay p1.Won.length aB, .slice av p1.Plan.length aw]) I29 Z29 R R R (haC (f26.stp (S33.tr S46) R R).cells R)) (Jg R (Jd2 (cs := [vi p2.Kind, vi p2.V, vi p2.N]) I31 Z31 R R R (haC (f12.stp (S21.tr (S33.tr S46)) R R).cells R)) (Jp1 (WA.fork2 (fuel := 9) 1 10 (by kernel_rfl) R ?_ ?_)))))
 have S001 := (S21.tr (S33.tr S46))
 refine Jh R R R C9 (l_toParity_ok (κ := fun b => mp [] 0 (K32 b)) (p0 := p0) (Jl2 (f14.stp S001 R R) (mp [] 0) R R) (Jl2 (f15.stp S001 R R) (mp [] 0) R R) (Jl2 (f16.stp S001 R R) (mp [] 0) R R) hx31) ?_
 rintro _ w53 ⟨k54, bo, bm, be, bh, bn, bd, rfl, e55, f56, f57, f58⟩
 obtain ⟨K59, S60, m61⟩ := Ji e55 9 R
 refine ⟨(S60.cl R), ?_⟩
 have f63 := f56.mx (no_int _) m61 R (R : 9 + 2 = 11)
 have f64 := f57.mx (no_own (no_int _) _) m61 R (R : 9 + 3 = 12)
 have f65 := f58.mx (no_int _) m61 R (R : 9 + 4 = 13)
 refine Jp1 (WA.fork2 (fuel := 8) 3 10 (by kernel_rfl) R ?_ ?_)
 refine Jh R R R C10 (l_toAnswer_ok (κ := fun b => mp [] 0 (K59 b)) (p0 := p1) (Jl2 (f27.stp (S33.tr (S46.tr S60)) R R) (mp [] 0) R R) (Jl2 (f28.stp (S33.tr (S46.tr S60)) R R) (mp [] 0) R R) hx33) ?_
 rintro _ w68 ⟨k69, ba, aX, bc, aZ, rfl, e70, f71, f72⟩
 obtain ⟨K73, S74, m75⟩ := Ji e70 14 R
 refine ⟨((S60.tr S74).cl R), ?_⟩
 have f77 := f71.mx (no_int _) m75 R (R : 14 + 2 = 16)
 have f78 := f72.mx (no_int _) m75 R (R : 14 + 3 = 17)
 refine Jp1 (WA.fork2 (fuel := 7) 5 10 (by kernel_rfl) R ?_ ?_)
 refine Jh R R R C11 (l_toEdit_ok (κ := fun b => mp [] 0 (K73 b)) (p0 := p2) hx35) ?_
 rintro _ w79 ⟨k80, rfl, e81⟩
 obtain ⟨K82, S83, m84⟩ := Ji e81 18 R
 refine ⟨((S60.tr (S74.tr S83)).cl R), Jp1 (WA.fork2 (fuel := 6) 6 10 (by kernel_rfl) R ?_ ?_)⟩
 refine Jh R R R C8 (s_ResolvedBy_ok (κ := fun b => mp [] 0 (K82 b)) (p0 := x31) (p1 := x33) (p2 := x35) (Jl2 (f63.stp (S74.tr S83) R R).rdc (mp [] 0) R R) (Jl2 (f64.stp (S74.tr S83) R R).rdc (mp [] 0) R R) (Jl2 (f65.stp (S74.tr S83) R R).rdc (mp [] 0) R R) (Jl2 (f77.stp S83 R R).rdc (mp [] 0) R R) (Jl2 (f78.stp S83 R R).rdc (mp [] 0) R R) hx36) ?_
 rintro _ w91 ⟨k92, ac, aa, ah, ab, rfl, e93, f94, f95⟩
 obtain ⟨K96, S97, m98⟩ := Ji e93 20 R
 have S002 := (S60.tr (S74.tr (S83.tr S97)))
 exact ⟨(S002.cl R), Jp1 (Jq1 (fuel := 0) [(7, 2), (8, 2), (9, 2), (10, 1), (11, 1), (12, 2)] (by kernel_rfl) (by kernel_rfl) R (Jn 3 R (Jg1 (κ := K96) 24 R R R R R X34 R fun b8 w102 K103 S104 f105 => ⟨((S002.tr S104).cl R), Jj1 (κ := K103) 24 (vc := [.slice ac x36.1.Won.length aa, .slice ah x36.1.Plan.length ab]) R R R R R R R Z34 R R f105 R fun w106 S107 f108 => ⟨((S002.tr (S104.tr S107)).cl R), Jn 1 R (Jp1 (Jr1 [] (by kernel_rfl) (by kernel_rfl) R (Jo (Jw1 _ ⟨(fun b => ren [(22, 9), (23, 10), (24, 11)] (K103 b)), b8, ac, aa, ah, ab, R, (Jy2 ((S46.tr (S60.tr (S74.tr (S83.tr (S97.tr (S104.tr S107)))))).wk R) [(22, 9), (23, 10), (24, 11)] R), (((f94.mx (no_int _) m98 R (R : 20 + 2 = 22)).stp (S104.tr S107) R R).map (ren [(22, 9), (23, 10), (24, 11)]) R R), (((f95.mx (no_int _) m98 R (R : 20 + 3 = 23)).stp (S104.tr S107) R R).map (ren [(22, 9), (23, 10), (24, 11)]) R R), (f108.map (ren [(22, 9), (23, 10), (24, 11)]) R R)⟩ (KM R)))))⟩⟩)))⟩
 refine Jg1 (κ := K82) 20 R R R R R X34 R fun b8 w111 K112 S113 f114 => ⟨((S60.tr (S74.tr (S83.tr S113))).cl R), Jp1 (Jq1 (fuel := 0) [(6, 1), (7, 2), (8, 2), (9, 2), (11, 1), (12, 2)] (by kernel_rfl) (by kernel_rfl) R (Jh R R R C8 (s_ResolvedBy_ok (κ := fun b => mp [] 0 (K112 b)) (p0 := x31) (p1 := x33) (p2 := x35) (Jl2 (f63.stp (S74.tr (S83.tr S113)) R R).rdc (mp [] 0) R R) (Jl2 (f64.stp (S74.tr (S83.tr S113)) R R).rdc (mp [] 0) R R) (Jl2 (f65.stp (S74.tr (S83.tr S113)) R R).rdc (mp [] 0) R R) (Jl2 (f77.stp (S83.tr S113) R R).rdc (mp [] 0) R R) (Jl2 (f78.stp (S83.tr S113) R R).rdc (mp [] 0) R R) hx36) ?_))⟩
 rintro _ w120 ⟨k121, ac, aa, ah, ab, rfl, e122, f123, f124⟩
 obtain ⟨K125, S126, m127⟩ := Ji e122 21 R
 have S003 := (S60.tr (S74.tr (S83.tr (S113.tr S126))))
 exact ⟨(S003.cl R), Jn 3 R (Jj1 (κ := K125) 20 (vc := [.slice ac x36.1.Won.length aa, .slice ah x36.1.Plan.length ab]) R R R R R R R Z34 R R (f114.stp S126 R R) R fun w132 S133 f134 => ⟨((S003.tr S133).cl R), Jn 1 R (Jp1 (Jr1 [] (by kernel_rfl) (by kernel_rfl) R (Jo (Jw1 _ ⟨(fun b => ren [(23, 9), (24, 10), (20, 11)] (K125 b)), b8, ac, aa, ah, ab, R, (Jy2 ((S46.tr (S60.tr (S74.tr (S83.tr (S113.tr (S126.tr S133)))))).wk R) [(23, 9), (24, 10), (20, 11)] R), (((f123.mx (no_int _) m127 R (R : 21 + 2 = 23)).stp S133 R R).map (ren [(23, 9), (24, 10), (20, 11)]) R R), (((f124.mx (no_int _) m127 R (R : 21 + 3 = 24)).stp S133 R R).map (ren [(23, 9), (24, 10), (20, 11)]) R R), (f134.map (ren [(23, 9), (24, 10), (20, 11)]) R R)⟩ (KM R)))))⟩)⟩
 refine Jg1 (κ := K73) 18 R R R R R X34 R fun b8 w137 K138 S139 f140 => ⟨((S60.tr (S74.tr S139)).cl R), Jp1 (Jq1 (fuel := 0) [(5, 1), (6, 1), (7, 2), (8, 2), (9, 2), (11, 1), (12, 2)] (by kernel_rfl) (by kernel_rfl) R (Jh R R R C11 (l_toEdit_ok (κ := fun b => mp [] 0 (K138 b)) (p0 := p2) hx35) ?_))⟩
 rintro _ w141 ⟨k142, rfl, e143⟩
 obtain ⟨K144, S145, m146⟩ := Ji e143 19 R
 have S004 := (S74.tr (S139.tr S145))
 refine ⟨((S60.tr (S74.tr (S139.tr S145))).cl R), Jh R R R C8 (s_ResolvedBy_ok (κ := fun b => mp [] 0 (K144 b)) (p0 := x31) (p1 := x33) (p2 := x35) (Jl2 (f63.stp S004 R R).rdc (mp [] 0) R R) (Jl2 (f64.stp S004 R R).rdc (mp [] 0) R R) (Jl2 (f65.stp S004 R R).rdc (mp [] 0) R R) (Jl2 (f77.stp (S139.tr S145) R R).rdc (mp [] 0) R R) (Jl2 (f78.stp (S139.tr S145) R R).rdc (mp [] 0) R R) hx36) ?_⟩
 rintro _ w153 ⟨k154, ac, aa, ah, ab, rfl, e155, f156, f157⟩
 obtain ⟨K158, S159, m160⟩ := Ji e155 21 R
 have S005 := (S60.tr (S74.tr (S139.tr (S145.tr S159))))
 exact ⟨(S005.cl R), Jn 3 R (Jj1 (κ := K158) 18 (vc := [.slice ac x36.1.Won.length aa, .slice ah x36.1.Plan.length ab]) R R R R R R R Z34 R R (f140.stp (S145.tr S159) R R) R fun w165 S166 f167 => ⟨((S005.tr S166).cl R), Jn 1 R (Jp1 (Jr1 [] (by kernel_rfl) (by kernel_rfl) R (Jo (Jw1 _ ⟨(fun b => ren [(23, 9), (24, 10), (18, 11)] (K158 b)), b8, ac, aa, ah, ab, R, (Jy2 ((S46.tr (S60.tr (S74.tr (S139.tr (S145.tr (S159.tr S166)))))).wk R) [(23, 9), (24, 10), (18, 11)] R), (((f156.mx (no_int _) m160 R (R : 21 + 2 = 23)).stp S166 R R).map (ren [(23, 9), (24, 10), (18, 11)]) R R), (((f157.mx (no_int _) m160 R (R : 21 + 3 = 24)).stp S166 R R).map (ren [(23, 9), (24, 10), (18, 11)]) R R), (f167.map (ren [(23, 9), (24, 10), (18, 11)]) R R)⟩ (KM R)))))⟩)⟩
 refine Jg1 (κ := K59) 14 R R R R R X34 R fun b8 w170 K171 S172 f173 => ⟨((S60.tr S172).cl R), Jp1 (Jq1 (fuel := 0) [(3, 1), (5, 1), (6, 1), (7, 2), (8, 2), (9, 2), (11, 1), (12, 2)] (by kernel_rfl) (by kernel_rfl) R (Jh R R R C10 (l_toAnswer_ok (κ := fun b => mp [] 0 (K171 b)) (p0 := p1) (Jl2 (f27.stp (S33.tr (S46.tr (S60.tr S172))) R R) (mp [] 0) R R) (Jl2 (f28.stp (S33.tr (S46.tr (S60.tr S172))) R R) (mp [] 0) R R) hx33) ?_))⟩
 rintro _ w176 ⟨k177, ba, aX, bc, aZ, rfl, e178, f179, f180⟩
 obtain ⟨K181, S182, m183⟩ := Ji e178 15 R
 refine ⟨((S60.tr (S172.tr S182)).cl R), Jh R R R C11 (l_toEdit_ok (κ := fun b => mp [] 0 (K181 b)) (p0 := p2) hx35) ?_⟩
 rintro _ w187 ⟨k188, rfl, e189⟩
 obtain ⟨K190, S191, m192⟩ := Ji e189 19 R
 have S006 := (S172.tr (S182.tr S191))
 refine ⟨((S60.tr (S172.tr (S182.tr S191))).cl R), Jh R R R C8 (s_ResolvedBy_ok (κ := fun b => mp [] 0 (K190 b)) (p0 := x31) (p1 := x33) (p2 := x35) (Jl2 (f63.stp S006 R R).rdc (mp [] 0) R R) (Jl2 (f64.stp S006 R R).rdc (mp [] 0) R R) (Jl2 (f65.stp S006 R R).rdc (mp [] 0) R R) (Jl2 ((f179.mx (no_int _) m183 R (R : 15 + 2 = 17)).stp S191 R R).rdc (mp [] 0) R R) (Jl2 ((f180.mx (no_int _) m183 R (R : 15 + 3 = 18)).stp S191 R R).rdc (mp [] 0) R R) hx36) ?_⟩
 rintro _ w199 ⟨k200, ac, aa, ah, ab, rfl, e201, f202, f203⟩
 obtain ⟨K204, S205, m206⟩ := Ji e201 21 R
 have S007 := (S60.tr (S172.tr (S182.tr (S191.tr S205))))
 exact ⟨(S007.cl R), Jn 3 R (Jj1 (κ := K204) 14 (vc := [.slice ac x36.1.Won.length aa, .slice ah x36.1.Plan.length ab]) R R R R R R R Z34 R R (f173.stp (S182.tr (S191.tr S205)) R R) R fun w211 S212 f213 => ⟨((S007.tr S212).cl R), Jn 1 R (Jp1 (Jr1 [] (by kernel_rfl) (by kernel_rfl) R (Jo (Jw1 _ ⟨(fun b => ren [(23, 9), (24, 10), (14, 11)] (K204 b)), b8, ac, aa, ah, ab, R, (Jy2 ((S46.tr (S60.tr (S172.tr (S182.tr (S191.tr (S205.tr S212)))))).wk R) [(23, 9), (24, 10), (14, 11)] R), (((f202.mx (no_int _) m206 R (R : 21 + 2 = 23)).stp S212 R R).map (ren [(23, 9), (24, 10), (14, 11)]) R R), (((f203.mx (no_int _) m206 R (R : 21 + 3 = 24)).stp S212 R R).map (ren [(23, 9), (24, 10), (14, 11)]) R R), (f213.map (ren [(23, 9), (24, 10), (14, 11)]) R R)⟩ (KM R)))))⟩)⟩
 have S008 := (S21.tr (S33.tr S46))
 refine Jg1 (κ := K32) 9 R R R R R X34 R fun b8 w216 K217 S218 f219 => ⟨(S218.cl R), Jp1 (Jq1 (fuel := 0) [(1, 1), (3, 1), (5, 1), (6, 1), (7, 2), (8, 2), (9, 2), (11, 1), (12, 2)] (by kernel_rfl) (by kernel_rfl) R (Jh R R R C9 (l_toParity_ok (κ := fun b => mp [] 0 (K217 b)) (p0 := p0) (Jl2 (f14.stp (S008.tr S218) R R) (mp [] 0) R R) (Jl2 (f15.stp (S008.tr S218) R R) (mp [] 0) R R) (Jl2 (f16.stp (S008.tr S218) R R) (mp [] 0) R R) hx31) ?_))⟩
 rintro _ w223 ⟨k224, bo, bm, be, bh, bn, bd, rfl, e225, f226, f227, f228⟩
 obtain ⟨K229, S230, m231⟩ := Ji e225 10 R
 have S009 := (S33.tr (S46.tr (S218.tr S230)))
 refine ⟨((S218.tr S230).cl R), Jh R R R C10 (l_toAnswer_ok (κ := fun b => mp [] 0 (K229 b)) (p0 := p1) (Jl2 (f27.stp S009 R R) (mp [] 0) R R) (Jl2 (f28.stp S009 R R) (mp [] 0) R R) hx33) ?_⟩
 rintro _ w238 ⟨k239, ba, aX, bc, aZ, rfl, e240, f241, f242⟩
 obtain ⟨K243, S244, m245⟩ := Ji e240 15 R
 refine ⟨((S218.tr (S230.tr S244)).cl R), Jh R R R C11 (l_toEdit_ok (κ := fun b => mp [] 0 (K243 b)) (p0 := p2) hx35) ?_⟩
 rintro _ w249 ⟨k250, rfl, e251⟩
 obtain ⟨K252, S253, m254⟩ := Ji e251 19 R
 have S0010 := (S244.tr S253)
 refine ⟨((S218.tr (S230.tr (S244.tr S253))).cl R), Jh R R R C8 (s_ResolvedBy_ok (κ := fun b => mp [] 0 (K252 b)) (p0 := x31) (p1 := x33) (p2 := x35) (Jl2 ((f226.mx (no_int _) m231 R (R : 10 + 2 = 12)).stp S0010 R R).rdc (mp [] 0) R R) (Jl2 ((f227.mx (no_own (no_int _) _) m231 R (R : 10 + 3 = 13)).stp S0010 R R).rdc (mp [] 0) R R) (Jl2 ((f228.mx (no_int _) m231 R (R : 10 + 4 = 14)).stp S0010 R R).rdc (mp [] 0) R R) (Jl2 ((f241.mx (no_int _) m245 R (R : 15 + 2 = 17)).stp S253 R R).rdc (mp [] 0) R R) (Jl2 ((f242.mx (no_int _) m245 R (R : 15 + 3 = 18)).stp S253 R R).rdc (mp [] 0) R R) hx36) ?_⟩
 rintro _ w261 ⟨k262, ac, aa, ah, ab, rfl, e263, f264, f265⟩
 obtain ⟨K266, S267, m268⟩ := Ji e263 21 R
 have S0011 := (S218.tr (S230.tr (S244.tr (S253.tr S267))))
 exact ⟨(S0011.cl R), Jn 3 R (Jj1 (κ := K266) 9 (vc := [.slice ac x36.1.Won.length aa, .slice ah x36.1.Plan.length ab]) R R R R R R R Z34 R R (f219.stp (S230.tr (S244.tr (S253.tr S267))) R R) R fun w273 S274 f275 => ⟨((S0011.tr S274).cl R), Jn 1 R (Jp1 (Jr1 [] (by kernel_rfl) (by kernel_rfl) R (Jo (Jw1 _ ⟨(fun b => ren [(23, 9), (24, 10), (9, 11)] (K266 b)), b8, ac, aa, ah, ab, R, (Jy2 ((S46.tr (S218.tr (S230.tr (S244.tr (S253.tr (S267.tr S274)))))).wk R) [(23, 9), (24, 10), (9, 11)] R), (((f264.mx (no_int _) m268 R (R : 21 + 2 = 23)).stp S274 R R).map (ren [(23, 9), (24, 10), (9, 11)]) R R), (((f265.mx (no_int _) m268 R (R : 21 + 3 = 24)).stp S274 R R).map (ren [(23, 9), (24, 10), (9, 11)]) R R), (f275.map (ren [(23, 9), (24, 10), (9, 11)]) R R)⟩ (KM R)))))⟩)⟩
 rintro _ w38 ⟨K39, b8, aE, aF, aD, aG, rfl, S40, f42, f43, f44⟩
 refine Jp (Je [1, 1, 1, 1] R ?_)
 have f278 := f13.stp (S21.tr (S33.tr S40)) R R
 refine Jl tv R R R R (Jd2 (cs := [.slice aA p0.Arena.Owner.length ax, .slice ar p0.Arena.Next.length aC, .slice au p0.Prio.length az]) I27 Z27 R R R (haE f278.cells)) (Ob h fun x40 hx40 h => ?_)
 have f279 := f14.stp (S21.tr (S33.tr S40)) R R
 have f280 := f15.stp (S21.tr (S33.tr S40)) R R
 have f281 := f16.stp (S21.tr (S33.tr S40)) R R
 refine Jh R R R C9 (l_toParity_ok (κ := fun b => mp [] 0 (K39 b)) (p0 := p0) (Jl2 f279 (mp [] 0) R R) (Jl2 f280 (mp [] 0) R R) (Jl2 f281 (mp [] 0) R R) hx40) ?_
 rintro _ w282 ⟨k283, aR, aU, aN, aQ, aT, aO, rfl, e284, f285, f286, f287⟩
 obtain ⟨K288, S289, m290⟩ := Ji e284 12 R
 refine ⟨tv, ?_⟩
 have f292 := f285.mx (no_int _) m290 R (R : 12 + 2 = 14)
 have f293 := f286.mx (no_own (no_int _) _) m290 R (R : 12 + 3 = 15)
 have f294 := f287.mx (no_int _) m290 R (R : 12 + 4 = 16)
 refine Jg1 (κ := K288) 17 R R R R R X39 R fun b10 w295 K296 S297 f298 => ⟨tv, Jj1 (κ := K296) 17 (vc := [.slice aR x40.Arena.Owner.length aU, .slice aN x40.Arena.Next.length aQ, .slice aT x40.Prio.length aO]) R R R R R R R Z39 R R f298 R fun w299 S300 f301 => ⟨tv, Jd (Je [1, 1, 1, 1] R ?_)⟩⟩
 have f302 := f26.stp (S33.tr (S40.tr (S289.tr (S297.tr S300)))) R R
 refine Jl tv R R R R (Jd2 (cs := [.slice ay p1.Won.length aB, .slice av p1.Plan.length aw]) I29 Z29 R R R (haE f302.cells)) (Ob h fun x42 hx42 h => ?_)
 have f303 := f27.stp (S33.tr (S40.tr (S289.tr (S297.tr S300)))) R R
 have f304 := f28.stp (S33.tr (S40.tr (S289.tr (S297.tr S300)))) R R
 refine Jh R R R C10 (l_toAnswer_ok (κ := fun b => mp [] 0 (K296 b)) (p0 := p1) (Jl2 f303 (mp [] 0) R R) (Jl2 f304 (mp [] 0) R R) hx42) ?_
 rintro _ w305 ⟨k306, aJ, aL, aP, aI, rfl, e307, f308, f309⟩
 obtain ⟨K310, S311, m312⟩ := Ji e307 18 R
 refine ⟨tv, ?_⟩
 have f314 := f308.mx (no_int _) m312 R (R : 18 + 2 = 20)
 have f315 := f309.mx (no_int _) m312 R (R : 18 + 3 = 21)
 refine Jg1 (κ := K310) 22 R R R R R X34 R fun b11 w316 K317 S318 f319 => ⟨tv, Jj1 (κ := K317) 22 (vc := [.slice aJ x42.Won.length aL, .slice aP x42.Plan.length aI]) R R R R R R R Z34 R R f319 R fun w320 S321 f322 => ⟨tv, Jd (Jq (Ob h fun x47 hx47 h => Ob h fun x48 hx48 h => Jx1 (fun L w' => ∃ κ' b12 aj am an al, L = [(3, .pointer (some ⟨b3, 0, none⟩)), (4, .pointer (some ⟨b4, 0, none⟩)), (5, .pointer (some ⟨b5, 0, none⟩)), (8, .pointer (some ⟨b8, 0, none⟩)), (9, .bool x36.2), (10, .pointer (some ⟨b10, 0, none⟩)), (11, .pointer (some ⟨b11, 0, none⟩)), (12, .pointer (some ⟨b12, 0, none⟩)), (13, .bool x48.2)] ∧ Stp [23, 25, 27, 28, 29] K317 w320 κ' w' ∧ Oc E6 2 κ' w' 23 aj am x48.1.Won ∧ Oc E6 2 κ' w' 24 an al x48.1.Plan ∧ Bc κ' w' 25 b12 34 [.slice aj x48.1.Won.length am, .slice an x48.1.Plan.length al]) ?_ ?_))⟩⟩
 refine WC.rxt (κ := K317) [4, 17, 22] none (by kernel_rfl) fun w330 S331 => Jq1 (fuel := 8) [(0, 0), (1, 0), (2, 0)] (by kernel_rfl) (by kernel_rfl) R (Jg R (Jd2 (cs := [.slice aR x40.Arena.Owner.length aU, .slice aN x40.Arena.Next.length aQ, .slice aT x40.Prio.length aO]) I39 Z39 R R R (haC (f301.stp (S311.tr (S318.tr (S321.tr S331))) R R).cells R)) (Jg R (Jd2 (cs := [.slice aJ x42.Won.length aL, .slice aP x42.Plan.length aI]) I34 Z34 R R R (haC (f322.stp S331 R R).cells R)) (Jg R (Jd2 (cs := [vi p2.Kind, vi p2.V, vi p2.N]) I31 Z31 R R R (haC (f12.stp (S21.tr (S33.tr (S40.tr (S289.tr (S297.tr (S300.tr (S311.tr (S318.tr (S321.tr S331))))))))) R R).cells R)) (Jp1 (WA.fork2 (fuel := 7) 3 8 (by kernel_rfl) R ?_ ?_)))))
 refine Jh R R R C11 (l_toEdit_ok (κ := fun b => mp [] 0 (K317 b)) (p0 := p2) hx47) ?_
 rintro _ w335 ⟨k336, rfl, e337⟩
 obtain ⟨K338, S339, m340⟩ := Ji e337 23 R
 refine ⟨(S339.cl R), Jp1 (WA.fork2 (fuel := 6) 4 8 (by kernel_rfl) R ?_ ?_)⟩
 have S0012 := (S297.tr (S300.tr (S311.tr (S318.tr (S321.tr (S331.tr S339))))))
 have S0013 := (S318.tr (S321.tr (S331.tr S339)))
 refine Jh R R R C12 (i_ResolvedBy_ok (κ := fun b => mp [] 0 (K338 b)) (p0 := x40) (p1 := x42) (p2 := x47) (Jl2 (f292.stp S0012 R R).rdc (mp [] 0) R R) (Jl2 (f293.stp S0012 R R).rdc (mp [] 0) R R) (Jl2 (f294.stp S0012 R R).rdc (mp [] 0) R R) (Jl2 (f314.stp S0013 R R).rdc (mp [] 0) R R) (Jl2 (f315.stp S0013 R R).rdc (mp [] 0) R R) hx48) ?_
 rintro _ w347 ⟨k348, ao, aq, ap, ak, rfl, e349, f350, f351⟩
 obtain ⟨K352, S353, m354⟩ := Ji e349 25 R
 have S0014 := (S339.tr S353)
 exact ⟨(S0014.cl R), Jp1 (Jq1 (fuel := 0) [(5, 2), (6, 2), (7, 2), (8, 1), (9, 1), (10, 2)] (by kernel_rfl) (by kernel_rfl) R (Jn 3 R (Jg1 (κ := K352) 29 R R R R R X34 R fun b12 w358 K359 S360 f361 => ⟨((S0014.tr S360).cl R), Jj1 (κ := K359) 29 (vc := [.slice ao x48.1.Won.length aq, .slice ap x48.1.Plan.length ak]) R R R R R R R Z34 R R f361 R fun w362 S363 f364 => ⟨((S0014.tr (S360.tr S363)).cl R), Jn 1 R (Jp1 (Jr1 [] (by kernel_rfl) (by kernel_rfl) R (Jo (Jw1 _ ⟨(fun b => ren [(27, 23), (28, 24), (29, 25)] (K359 b)), b12, ao, aq, ap, ak, R, (Jy2 ((S331.tr (S339.tr (S353.tr (S360.tr S363)))).wk R) [(27, 23), (28, 24), (29, 25)] R), (((f350.mx (no_int _) m354 R (R : 25 + 2 = 27)).stp (S360.tr S363) R R).map (ren [(27, 23), (28, 24), (29, 25)]) R R), (((f351.mx (no_int _) m354 R (R : 25 + 3 = 28)).stp (S360.tr S363) R R).map (ren [(27, 23), (28, 24), (29, 25)]) R R), (f364.map (ren [(27, 23), (28, 24), (29, 25)]) R R)⟩ (KM R)))))⟩⟩)))⟩
 have S0015 := (S297.tr (S300.tr (S311.tr (S318.tr (S321.tr (S331.tr S339))))))
 have S0016 := (S318.tr (S321.tr (S331.tr S339)))
 refine Jg1 (κ := K338) 25 R R R R R X34 R fun b12 w367 K368 S369 f370 => ⟨((S339.tr S369).cl R), Jp1 (Jq1 (fuel := 0) [(4, 1), (5, 2), (6, 2), (7, 2), (9, 1), (10, 2)] (by kernel_rfl) (by kernel_rfl) R (Jh R R R C12 (i_ResolvedBy_ok (κ := fun b => mp [] 0 (K368 b)) (p0 := x40) (p1 := x42) (p2 := x47) (Jl2 (f292.stp (S0015.tr S369) R R).rdc (mp [] 0) R R) (Jl2 (f293.stp (S0015.tr S369) R R).rdc (mp [] 0) R R) (Jl2 (f294.stp (S0015.tr S369) R R).rdc (mp [] 0) R R) (Jl2 (f314.stp (S0016.tr S369) R R).rdc (mp [] 0) R R) (Jl2 (f315.stp (S0016.tr S369) R R).rdc (mp [] 0) R R) hx48) ?_))⟩
 rintro _ w376 ⟨k377, ao, aq, ap, ak, rfl, e378, f379, f380⟩
 obtain ⟨K381, S382, m383⟩ := Ji e378 26 R
 have S0017 := (S339.tr (S369.tr S382))
 exact ⟨(S0017.cl R), Jn 3 R (Jj1 (κ := K381) 25 (vc := [.slice ao x48.1.Won.length aq, .slice ap x48.1.Plan.length ak]) R R R R R R R Z34 R R (f370.stp S382 R R) R fun w388 S389 f390 => ⟨((S0017.tr S389).cl R), Jn 1 R (Jp1 (Jr1 [] (by kernel_rfl) (by kernel_rfl) R (Jo (Jw1 _ ⟨(fun b => ren [(28, 23), (29, 24)] (K381 b)), b12, ao, aq, ap, ak, R, (Jy2 ((S331.tr (S339.tr (S369.tr (S382.tr S389)))).wk R) [(28, 23), (29, 24)] R), (((f379.mx (no_int _) m383 R (R : 26 + 2 = 28)).stp S389 R R).map (ren [(28, 23), (29, 24)]) R R), (((f380.mx (no_int _) m383 R (R : 26 + 3 = 29)).stp S389 R R).map (ren [(28, 23), (29, 24)]) R R), (f390.map (ren [(28, 23), (29, 24)]) R R)⟩ (KM R)))))⟩)⟩
 refine Jg1 (κ := K317) 23 R R R R R X34 R fun b12 w393 K394 S395 f396 => ⟨(S395.cl R), Jp1 (Jq1 (fuel := 0) [(3, 1), (4, 1), (5, 2), (6, 2), (7, 2), (9, 1), (10, 2)] (by kernel_rfl) (by kernel_rfl) R (Jh R R R C11 (l_toEdit_ok (κ := fun b => mp [] 0 (K394 b)) (p0 := p2) hx47) ?_))⟩
 rintro _ w397 ⟨k398, rfl, e399⟩
 obtain ⟨K400, S401, m402⟩ := Ji e399 24 R
 have S0018 := (S297.tr (S300.tr (S311.tr (S318.tr (S321.tr (S331.tr (S395.tr S401)))))))
 have S0019 := (S318.tr (S321.tr (S331.tr (S395.tr S401))))
 refine ⟨((S395.tr S401).cl R), Jh R R R C12 (i_ResolvedBy_ok (κ := fun b => mp [] 0 (K400 b)) (p0 := x40) (p1 := x42) (p2 := x47) (Jl2 (f292.stp S0018 R R).rdc (mp [] 0) R R) (Jl2 (f293.stp S0018 R R).rdc (mp [] 0) R R) (Jl2 (f294.stp S0018 R R).rdc (mp [] 0) R R) (Jl2 (f314.stp S0019 R R).rdc (mp [] 0) R R) (Jl2 (f315.stp S0019 R R).rdc (mp [] 0) R R) hx48) ?_⟩
 rintro _ w409 ⟨k410, ao, aq, ap, ak, rfl, e411, f412, f413⟩
 obtain ⟨K414, S415, m416⟩ := Ji e411 26 R
 have S0020 := (S395.tr (S401.tr S415))
 exact ⟨(S0020.cl R), Jn 3 R (Jj1 (κ := K414) 23 (vc := [.slice ao x48.1.Won.length aq, .slice ap x48.1.Plan.length ak]) R R R R R R R Z34 R R (f396.stp (S401.tr S415) R R) R fun w421 S422 f423 => ⟨((S0020.tr S422).cl R), Jn 1 R (Jp1 (Jr1 [] (by kernel_rfl) (by kernel_rfl) R (Jo (Jw1 _ ⟨(fun b => ren [(28, 23), (29, 24), (23, 25)] (K414 b)), b12, ao, aq, ap, ak, R, (Jy2 ((S331.tr (S395.tr (S401.tr (S415.tr S422)))).wk R) [(28, 23), (29, 24), (23, 25)] R), (((f412.mx (no_int _) m416 R (R : 26 + 2 = 28)).stp S422 R R).map (ren [(28, 23), (29, 24), (23, 25)]) R R), (((f413.mx (no_int _) m416 R (R : 26 + 3 = 29)).stp S422 R R).map (ren [(28, 23), (29, 24), (23, 25)]) R R), (f423.map (ren [(28, 23), (29, 24), (23, 25)]) R R)⟩ (KM R)))))⟩)⟩
 rintro _ w323 ⟨K324, b12, aj, am, an, al, rfl, S325, f327, f328, f329⟩
 refine Jp (Jq (Je [1, 1, 1, 2, 2, 2, 2, 2, 2] R (Jl tv R R R R (Jd2 (cs := [.slice aj x48.1.Won.length am, .slice an x48.1.Plan.length al]) I34 Z34 R R R (haE f329.cells)) ?_)))
 have f426 := f44.stp (S289.tr (S297.tr (S300.tr (S311.tr (S318.tr (S321.tr S325)))))) R R
 refine Jl tv R R R R (Jd2 (cs := [.slice aE x36.1.Won.length aF, .slice aD x36.1.Plan.length aG]) I34 Z34 R R R (haE f426.cells)) (Ob h fun x53 hx53 h => ?_)
 have f427 := f42.stp (S289.tr (S297.tr (S300.tr (S311.tr (S318.tr (S321.tr S325)))))) R R
 have f428 := f43.stp (S289.tr (S297.tr (S300.tr (S311.tr (S318.tr (S321.tr S325)))))) R R
 refine Jh R R R C13 (l_eqAnswer_ok (κ := fun b => mp [] 0 (K324 b)) (p0 := x48.1) (p1 := x36.1) (Jl2 f327.rdc (mp [] 0) R R) (Jl2 f328.rdc (mp [] 0) R R) (Jl2 f427.rdc (mp [] 0) R R) (Jl2 f428.rdc (mp [] 0) R R) hx53) ?_
 rintro _ w429 ⟨k430, rfl, e431⟩
 obtain ⟨K432, S433, m434⟩ := Ji e431 26 R
 refine ⟨tv, Jn 2 R (Ob h fun p59 h hK436 => Ju1 [(5, 2), (6, 2), (7, 2), (8, 2)] [] (fun L w' => L = [(3, .pointer (some ⟨b3, 0, none⟩)), (4, .pointer (some ⟨b4, 0, none⟩)), (5, .pointer (some ⟨b5, 0, none⟩)), (8, .pointer (some ⟨b8, 0, none⟩)), (9, .bool x36.2), (10, .pointer (some ⟨b10, 0, none⟩)), (11, .pointer (some ⟨b11, 0, none⟩)), (12, .pointer (some ⟨b12, 0, none⟩)), (13, .bool x48.2), (59, .bool p59)] ∧ ∃ κ', Stp [] K432 w429 κ' w') tv ?_ ?_)⟩
 revert h
 cases ht437 : (!x53)
 refine JF fun h => Jn 2 R (Jf R (rn_neqB R R U4 R) (Jn 1 R ?_))
 cases h
 exact Jv1 _ tv ⟨R, _, (Jx2 _ _).wk R⟩ (KM R)
 refine JT fun h => Jn 4 R ?_
 cases h
 exact Jv1 _ tv ⟨R, _, (Jx2 _ _).wk R⟩ (KM R)
 rintro _ w438 _ ⟨rfl, K439, S440⟩
 have h := hK436
 refine Jd ?_
 revert h
 cases ht441 : p59
 refine JF fun h => Jy R (Js (Jp (Jq (Jq (Js1 (κ := K439) [2, 17] none [(0, 0), (1, 0), (2, 1), (3, 1), (4, 2)] [] (by kernel_rfl) (by kernel_rfl) fun w444 S443 => ?_)))))
 have f445 := f301.stp (S311.tr (S318.tr (S321.tr (S325.tr (S433.tr (S440.tr S443)))))) R R
 refine Jg R (Jd2 (cs := [.slice aR x40.Arena.Owner.length aU, .slice aN x40.Arena.Next.length aQ, .slice aT x40.Prio.length aO]) I39 Z39 R R R (haC f445.cells R)) ?_
 have f446 := f278.stp (S289.tr (S297.tr (S300.tr (S311.tr (S318.tr (S321.tr (S325.tr (S433.tr (S440.tr S443))))))))) R R
 refine Jg R (Jd2 (cs := [.slice aA p0.Arena.Owner.length ax, .slice ar p0.Arena.Next.length aC, .slice au p0.Prio.length az]) I27 Z27 R R R (haC f446.cells R)) (Ob h fun x62 hx62 h => ?_)
 have f447 := f279.stp (S289.tr (S297.tr (S300.tr (S311.tr (S318.tr (S321.tr (S325.tr (S433.tr (S440.tr S443))))))))) R R
 have f448 := f280.stp (S289.tr (S297.tr (S300.tr (S311.tr (S318.tr (S321.tr (S325.tr (S433.tr (S440.tr S443))))))))) R R
 have f449 := f281.stp (S289.tr (S297.tr (S300.tr (S311.tr (S318.tr (S321.tr (S325.tr (S433.tr (S440.tr S443))))))))) R R
 refine Jh R R R C9 (l_toParity_ok (κ := fun b => mp [] 0 (K439 b)) (p0 := p0) (Jl2 f447 (mp [] 0) R R) (Jl2 f448 (mp [] 0) R R) (Jl2 f449 (mp [] 0) R R) hx62) ?_
 rintro _ w450 ⟨k451, bp, br, bt, bv, bx, bw, rfl, e452, f453, f454, f455⟩
 obtain ⟨K456, S457, m458⟩ := Ji e452 28 R
 refine ⟨(S457.cl R), Ob h fun x63 hx63 h => ?_⟩
 have f463 := f292.stp (S297.tr (S300.tr (S311.tr (S318.tr (S321.tr (S325.tr (S433.tr (S440.tr (S443.tr S457))))))))) R R
 have f464 := f293.stp (S297.tr (S300.tr (S311.tr (S318.tr (S321.tr (S325.tr (S433.tr (S440.tr (S443.tr S457))))))))) R R
 have f465 := f294.stp (S297.tr (S300.tr (S311.tr (S318.tr (S321.tr (S325.tr (S433.tr (S440.tr (S443.tr S457))))))))) R R
 refine Jh R R R C14 (l_eqParity_ok (κ := fun b => mp [] 0 (K456 b)) (p0 := x40) (p1 := x62) (Jl2 f463.rdc (mp [] 0) R R) (Jl2 f464.rdc (mp [] 0) R R) (Jl2 f465.rdc (mp [] 0) R R) (Jl2 (f453.mx (no_int _) m458 R (R : 28 + 2 = 30)).rdc (mp [] 0) R R) (Jl2 (f454.mx (no_own (no_int _) _) m458 R (R : 28 + 3 = 31)).rdc (mp [] 0) R R) (Jl2 (f455.mx (no_int _) m458 R (R : 28 + 4 = 32)).rdc (mp [] 0) R R) hx63) ?_
 rintro _ w466 ⟨k467, rfl, e468⟩
 obtain ⟨K469, S470, m471⟩ := Ji e468 33 R
 refine ⟨((S457.tr S470).cl R), Jn 1 R (Jt1 (Jd ?_))⟩
 revert h
 cases ht473 : (!x63)
 refine JF fun h => Jy R (Js (Jp (Jq (Jq (Js1 (κ := K469) [3, 22] none [(0, 0), (1, 0), (2, 1), (3, 1), (4, 2)] [] (by kernel_rfl) (by kernel_rfl) fun w476 S475 => ?_)))))
 have f477 := f322.stp (S325.tr (S433.tr (S440.tr (S443.tr (S457.tr (S470.tr S475)))))) R R
 refine Jg R (Jd2 (cs := [.slice aJ x42.Won.length aL, .slice aP x42.Plan.length aI]) I34 Z34 R R R (haC f477.cells R)) ?_
 have f478 := f302.stp (S311.tr (S318.tr (S321.tr (S325.tr (S433.tr (S440.tr (S443.tr (S457.tr (S470.tr S475))))))))) R R
 refine Jg R (Jd2 (cs := [.slice ay p1.Won.length aB, .slice av p1.Plan.length aw]) I29 Z29 R R R (haC f478.cells R)) (Ob h fun x67 hx67 h => ?_)
 have f479 := f303.stp (S311.tr (S318.tr (S321.tr (S325.tr (S433.tr (S440.tr (S443.tr (S457.tr (S470.tr S475))))))))) R R
 have f480 := f304.stp (S311.tr (S318.tr (S321.tr (S325.tr (S433.tr (S440.tr (S443.tr (S457.tr (S470.tr S475))))))))) R R
 refine Jh R R R C10 (l_toAnswer_ok (κ := fun b => mp [] 0 (K469 b)) (p0 := p1) (Jl2 f479 (mp [] 0) R R) (Jl2 f480 (mp [] 0) R R) hx67) ?_
 rintro _ w481 ⟨k482, bz, bu, bs, bq, rfl, e483, f484, f485⟩
 obtain ⟨K486, S487, m488⟩ := Ji e483 35 R
 refine ⟨(S487.cl R), Ob h fun x68 hx68 h => ?_⟩
 have f492 := f314.stp (S318.tr (S321.tr (S325.tr (S433.tr (S440.tr (S443.tr (S457.tr (S470.tr (S475.tr S487))))))))) R R
 have f493 := f315.stp (S318.tr (S321.tr (S325.tr (S433.tr (S440.tr (S443.tr (S457.tr (S470.tr (S475.tr S487))))))))) R R
 refine Jh R R R C13 (l_eqAnswer_ok (κ := fun b => mp [] 0 (K486 b)) (p0 := x42) (p1 := x67) (Jl2 f492.rdc (mp [] 0) R R) (Jl2 f493.rdc (mp [] 0) R R) (Jl2 (f484.mx (no_int _) m488 R (R : 35 + 2 = 37)).rdc (mp [] 0) R R) (Jl2 (f485.mx (no_int _) m488 R (R : 35 + 3 = 38)).rdc (mp [] 0) R R) hx68) ?_
 rintro _ w494 ⟨k495, rfl, e496⟩
 obtain ⟨K497, S498, m499⟩ := Ji e496 39 R
 refine ⟨((S487.tr S498).cl R), Jn 1 R (Jt1 (Jd ?_))⟩
 revert h
 cases ht501 : (!x68)
 have S0021 := (S470.tr (S475.tr (S487.tr S498)))
 refine JF fun h => Jy R (Js (Jp (Je [2] R (Jb 1 R (Je [1, 2, 1, 2] R (Jl tv R R R R (Jd2 (cs := [.slice aR x40.Arena.Owner.length aU, .slice aN x40.Arena.Next.length aQ, .slice aT x40.Prio.length aO]) I39 Z39 R R R (haE (f445.stp (S457.tr (S470.tr (S475.tr (S487.tr S498)))) R R).cells)) (Jn 1 R (Ob h fun x72 hx72 h => Jh R R R C15 (l_markParity_ok (κ := fun b => mp [(14, 2), (15, 3), (16, 4)] 0 (K497 b)) (p0 := x40) ((f463.stp S0021 R R).map (mp [(14, 2), (15, 3), (16, 4)] 0) R R) ((f464.stp S0021 R R).map (mp [(14, 2), (15, 3), (16, 4)] 0) R R) ((f465.stp S0021 R R).map (mp [(14, 2), (15, 3), (16, 4)] 0) R R) hx72) ?_))))))))
 rintro _ w507 ⟨k508, rfl, e509, f510, hn511, f512, hn513, f514, hn515⟩
 obtain ⟨K516, S517, m518⟩ := Ji e509 41 R
 refine ⟨tv, Jb 1 R (Je [1, 2, 1, 2] R (Jl tv R R R R (Jd2 (cs := [.slice aJ x42.Won.length aL, .slice aP x42.Plan.length aI]) I34 Z34 R R R (haE (f477.stp (S487.tr (S498.tr S517)) R R).cells)) (Jn 1 R (Ob h fun x75 hx75 h => Jh R R R C16 (l_markAnswer_ok (κ := fun b => mp [(20, 2), (21, 3)] 0 (K516 b)) (p0 := x42) ((f492.stp (S498.tr S517) R R).map (mp [(20, 2), (21, 3)] 0) R R) ((f493.stp (S498.tr S517) R R).map (mp [(20, 2), (21, 3)] 0) R R) hx75) ?_))))⟩
 rintro _ w526 ⟨k527, rfl, e528, f529, hn530, f531, hn532⟩
 obtain ⟨K533, S534, m535⟩ := Ji e528 46 R
 refine ⟨tv, Jb 1 R (Jq (Je [2, 2, 2, 1, 1, 1, 2, 2, 2, 2, 2, 2, 2] R (Jn 3 R (Ob h fun p83 h hK539 => Ju1 [(3, 1), (4, 1), (5, 1), (6, 2), (7, 2)] [(8, 2), (9, 2), (10, 2), (11, 2), (12, 2)] (fun L w' => L = [(3, .pointer (some ⟨b3, 0, none⟩)), (4, .pointer (some ⟨b4, 0, none⟩)), (5, .pointer (some ⟨b5, 0, none⟩)), (8, .pointer (some ⟨b8, 0, none⟩)), (9, .bool x36.2), (12, .pointer (some ⟨b12, 0, none⟩)), (13, .bool x48.2), (83, .bool p83)] ∧ ∃ κ', Stp [] K533 w526 κ' w') tv ?_ ?_))))⟩
 revert h
 cases ht540 : decide (x75.1 < 0)
 have S0022 := (S433.tr (S440.tr (S443.tr (S457.tr (S470.tr (S475.tr (S487.tr (S498.tr (S517.tr S534)))))))))
 refine JF fun h => Jl tv R R R R (Jd2 (cs := [.slice aj x48.1.Won.length am, .slice an x48.1.Plan.length al]) I34 Z34 R R R (haE (f329.stp S0022 R R).cells)) (Jl tv R R R R (Jd2 (cs := [.slice aE x36.1.Won.length aF, .slice aD x36.1.Plan.length aG]) I34 Z34 R R R (haE (f426.stp S0022 R R).cells)) (Ob h fun x81 hx81 h => Jh R R R C13 (l_eqAnswer_ok (κ := fun b => mp [] 0 (K533 b)) (p0 := x48.1) (p1 := x36.1) (Jl2 (f327.stp S0022 R R).rdc (mp [] 0) R R) (Jl2 (f328.stp S0022 R R).rdc (mp [] 0) R R) (Jl2 (f427.stp S0022 R R).rdc (mp [] 0) R R) (Jl2 (f428.stp S0022 R R).rdc (mp [] 0) R R) hx81) ?_))
 rintro _ w547 ⟨k548, rfl, e549⟩
 obtain ⟨K550, S551, m552⟩ := Ji e549 50 R
 refine ⟨tv, Jn 2 R ?_⟩
 cases h
 exact Jv1 _ tv ⟨R, _, S551.wk R⟩ (KM R)
 refine JT fun h => Jd1 R R R R (Jd1 R R R R (Jd1 R R R R (Jn 2 R ?_)))
 cases h
 exact Jv1 _ tv ⟨R, _, (Jx2 _ _).wk R⟩ (KM R)
 rintro _ w554 _ ⟨rfl, K555, S556⟩
 have h := hK539
 refine Jn 1 R (Ob h fun p88 h hK557 => Ju1 [(9, 2), (10, 2), (11, 2), (12, 2)] [] (fun L w' => L = [(3, .pointer (some ⟨b3, 0, none⟩)), (4, .pointer (some ⟨b4, 0, none⟩)), (5, .pointer (some ⟨b5, 0, none⟩)), (8, .pointer (some ⟨b8, 0, none⟩)), (9, .bool x36.2), (12, .pointer (some ⟨b12, 0, none⟩)), (88, .bool p88)] ∧ ∃ κ', Stp [] K555 w554 κ' w') tv ?_ ?_)
 revert h
 cases ht558 : p83
 refine JF fun h => Jn 2 R (Jf R (rn_neqB R R U4 R) (Jn 1 R ?_))
 cases h
 exact Jv1 _ tv ⟨R, _, (Jx2 _ _).wk R⟩ (KM R)
 refine JT fun h => Jn 4 R ?_
 cases h
 exact Jv1 _ tv ⟨R, _, (Jx2 _ _).wk R⟩ (KM R)
 rintro _ w559 _ ⟨rfl, K560, S561⟩
 have h := hK557
 refine Jd ?_
 revert h
 cases ht562 : p88
 refine JF fun h => Jy R (Js (Jp (Je [2] R (Jb 1 R (Je [1, 2, 1, 2] R ?_)))))
 have f564 := f329.stp (S433.tr (S440.tr (S443.tr (S457.tr (S470.tr (S475.tr (S487.tr (S498.tr (S517.tr (S534.tr (S556.tr S561))))))))))) R R
 have S0023 := (S433.tr (S440.tr (S443.tr (S457.tr (S470.tr (S475.tr (S487.tr (S498.tr (S517.tr (S534.tr (S556.tr S561)))))))))))
 refine Jl tv R R R R (Jd2 (cs := [.slice aj x48.1.Won.length am, .slice an x48.1.Plan.length al]) I34 Z34 R R R (haE f564.cells)) (Jn 1 R (Ob h fun x91 hx91 h => Jh R R R C16 (l_markAnswer_ok (κ := fun b => mp [(23, 2), (24, 3)] 0 (K560 b)) (p0 := x48.1) ((f327.stp S0023 R R).map (mp [(23, 2), (24, 3)] 0) R R) ((f328.stp S0023 R R).map (mp [(23, 2), (24, 3)] 0) R R) hx91) ?_))
 rintro _ w567 ⟨k568, rfl, e569, f570, hn571, f572, hn573⟩
 obtain ⟨K574, S575, m576⟩ := Ji e569 50 R
 refine ⟨tv, ?_⟩
 have f578 := f570.mx (no_int _) m576 R (R : 50 + 2 = 52)
 have f579 := f572.mx (no_int _) m576 R (R : 50 + 3 = 53)
 refine Jb 1 R (Je [2] R (Jb 1 R (Je [1, 2, 1, 2] R ?_)))
 have f580 := f564.stp S575 R R
 refine Jl tv R R R R (Jd2 (cs := [.slice aj x48.1.Won.length am, .slice an x48.1.Plan.length al]) I34 Z34 R R R (haE f580.cells)) (Jn 1 R (Ob h fun x94 hx94 h => Jh R R R C17 (Ret.cast (by simp only [(hn571), (hn573), List.cons_append, List.nil_append]) (l_heldAnswer_ok (κ := fun b => mp [] 0 (K574 b)) (p0 := (⟨x91.2.1, x91.2.2⟩ : Answer)) (Jl2 f578.rdc (mp [] 0) R R) (Jl2 f579.rdc (mp [] 0) R R) hx94)) ?_))
 rintro _ w581 ⟨k582, rfl, e583⟩
 obtain ⟨K584, S585, m586⟩ := Ji e583 54 R
 refine ⟨tv, Jb 1 R (Jq (Je [2, 2] R (Jb 2 R ?_)))⟩
 revert h
 cases ht588 : decide (x94 < 0)
 refine JF fun h => Jy R (Js (Jp (Jq (Je [2, 2, 2] R (Jb 3 R ?_)))))
 revert h
 cases ht590 : (x94 != x91.1)
 refine JF fun h => Jy R (Js (Jp (Jq (Ob h fun x102 hx102 h => Ob h fun x104 hx104 h => Ob h fun x106 hx106 h => Ob h fun x107 hx107 h => Jx1 (fun L w' => ∃ κ' b17 aK aS aH aM, L = [(8, .pointer (some ⟨b8, 0, none⟩)), (9, .bool x36.2), (12, .pointer (some ⟨b12, 0, none⟩)), (15, vi x91.1), (17, .pointer (some ⟨b17, 0, none⟩)), (18, .bool x107.2)] ∧ Stp [56, 61, 65, 67, 69, 70, 71] K584 w581 κ' w' ∧ Oc E6 2 κ' w' 56 aK aS x107.1.Won ∧ Oc E6 2 κ' w' 57 aH aM x107.1.Plan ∧ Bc κ' w' 58 b17 34 [.slice aK x107.1.Won.length aS, .slice aH x107.1.Plan.length aM]) ?_ ?_))))
 refine WC.rxt (κ := K584) [2, 3, 4] none (by kernel_rfl) fun w599 S600 => Jq1 (fuel := 10) [(0, 0), (2, 0), (4, 0)] (by kernel_rfl) (by kernel_rfl) R (Jg R (Jd2 (cs := [.slice aA p0.Arena.Owner.length ax, .slice ar p0.Arena.Next.length aC, .slice au p0.Prio.length az]) I27 Z27 R R R (haC (f446.stp (S457.tr (S470.tr (S475.tr (S487.tr (S498.tr (S517.tr (S534.tr (S556.tr (S561.tr (S575.tr (S585.tr S600))))))))))) R R).cells R)) (Jg R (Jd2 (cs := [.slice ay p1.Won.length aB, .slice av p1.Plan.length aw]) I29 Z29 R R R (haC (f478.stp (S487.tr (S498.tr (S517.tr (S534.tr (S556.tr (S561.tr (S575.tr (S585.tr S600)))))))) R R).cells R)) (Jg R (Jd2 (cs := [vi p2.Kind, vi p2.V, vi p2.N]) I31 Z31 R R R (haC (f12.stp (S21.tr (S33.tr (S40.tr (S289.tr (S297.tr (S300.tr (S311.tr (S318.tr (S321.tr (S325.tr (S433.tr (S440.tr (S443.tr (S457.tr (S470.tr (S475.tr (S487.tr (S498.tr (S517.tr (S534.tr (S556.tr (S561.tr (S575.tr (S585.tr S600)))))))))))))))))))))))) R R).cells R)) (Jp1 (WA.fork2 (fuel := 9) 1 10 (by kernel_rfl) R ?_ ?_)))))
 have S0024 := (S457.tr (S470.tr (S475.tr (S487.tr (S498.tr (S517.tr (S534.tr (S556.tr (S561.tr (S575.tr (S585.tr S600)))))))))))
 refine Jh R R R C9 (l_toParity_ok (κ := fun b => mp [] 0 (K584 b)) (p0 := p0) (Jl2 (f447.stp S0024 R R) (mp [] 0) R R) (Jl2 (f448.stp S0024 R R) (mp [] 0) R R) (Jl2 (f449.stp S0024 R R) (mp [] 0) R R) hx102) ?_
 rintro _ w607 ⟨k608, bl, bj, bf, bi, bg, bk, rfl, e609, f610, f611, f612⟩
 obtain ⟨K613, S614, m615⟩ := Ji e609 56 R
 refine ⟨(S614.cl R), ?_⟩
 have f617 := f610.mx (no_int _) m615 R (R : 56 + 2 = 58)
 have f618 := f611.mx (no_own (no_int _) _) m615 R (R : 56 + 3 = 59)
 have f619 := f612.mx (no_int _) m615 R (R : 56 + 4 = 60)
 refine Jp1 (WA.fork2 (fuel := 8) 3 10 (by kernel_rfl) R ?_ ?_)
 have S0025 := (S487.tr (S498.tr (S517.tr (S534.tr (S556.tr (S561.tr (S575.tr (S585.tr (S600.tr S614)))))))))
 refine Jh R R R C10 (l_toAnswer_ok (κ := fun b => mp [] 0 (K613 b)) (p0 := p1) (Jl2 (f479.stp S0025 R R) (mp [] 0) R R) (Jl2 (f480.stp S0025 R R) (mp [] 0) R R) hx104) ?_
 rintro _ w622 ⟨k623, bb, aY, aW, aV, rfl, e624, f625, f626⟩
 obtain ⟨K627, S628, m629⟩ := Ji e624 61 R
 refine ⟨((S614.tr S628).cl R), ?_⟩
 have f631 := f625.mx (no_int _) m629 R (R : 61 + 2 = 63)
 have f632 := f626.mx (no_int _) m629 R (R : 61 + 3 = 64)
 refine Jp1 (WA.fork2 (fuel := 7) 5 10 (by kernel_rfl) R ?_ ?_)
 refine Jh R R R C11 (l_toEdit_ok (κ := fun b => mp [] 0 (K627 b)) (p0 := p2) hx106) ?_
 rintro _ w633 ⟨k634, rfl, e635⟩
 obtain ⟨K636, S637, m638⟩ := Ji e635 65 R
 refine ⟨((S614.tr (S628.tr S637)).cl R), Jp1 (WA.fork2 (fuel := 6) 6 10 (by kernel_rfl) R ?_ ?_)⟩
 have S0026 := (S628.tr S637)
 refine Jh R R R C12 (i_ResolvedBy_ok (κ := fun b => mp [] 0 (K636 b)) (p0 := x102) (p1 := x104) (p2 := x106) (Jl2 (f617.stp S0026 R R).rdc (mp [] 0) R R) (Jl2 (f618.stp S0026 R R).rdc (mp [] 0) R R) (Jl2 (f619.stp S0026 R R).rdc (mp [] 0) R R) (Jl2 (f631.stp S637 R R).rdc (mp [] 0) R R) (Jl2 (f632.stp S637 R R).rdc (mp [] 0) R R) hx107) ?_
 rintro _ w645 ⟨k646, ae, af, ai, ad, rfl, e647, f648, f649⟩
 obtain ⟨K650, S651, m652⟩ := Ji e647 67 R
 have S0027 := (S614.tr (S628.tr (S637.tr S651)))
 exact ⟨(S0027.cl R), Jp1 (Jq1 (fuel := 0) [(7, 2), (8, 2), (9, 2), (10, 1), (11, 1), (12, 2)] (by kernel_rfl) (by kernel_rfl) R (Jn 3 R (Jg1 (κ := K650) 71 R R R R R X34 R fun b17 w656 K657 S658 f659 => ⟨((S0027.tr S658).cl R), Jj1 (κ := K657) 71 (vc := [.slice ae x107.1.Won.length af, .slice ai x107.1.Plan.length ad]) R R R R R R R Z34 R R f659 R fun w660 S661 f662 => ⟨((S0027.tr (S658.tr S661)).cl R), Jn 1 R (Jp1 (Jr1 [] (by kernel_rfl) (by kernel_rfl) R (Jo (Jw1 _ ⟨(fun b => ren [(69, 56), (70, 57), (71, 58)] (K657 b)), b17, ae, af, ai, ad, R, (Jy2 ((S600.tr (S614.tr (S628.tr (S637.tr (S651.tr (S658.tr S661)))))).wk R) [(69, 56), (70, 57), (71, 58)] R), (((f648.mx (no_int _) m652 R (R : 67 + 2 = 69)).stp (S658.tr S661) R R).map (ren [(69, 56), (70, 57), (71, 58)]) R R), (((f649.mx (no_int _) m652 R (R : 67 + 3 = 70)).stp (S658.tr S661) R R).map (ren [(69, 56), (70, 57), (71, 58)]) R R), (f662.map (ren [(69, 56), (70, 57), (71, 58)]) R R)⟩ (KM R)))))⟩⟩)))⟩
 have S0028 := (S628.tr S637)
 refine Jg1 (κ := K636) 67 R R R R R X34 R fun b17 w665 K666 S667 f668 => ⟨((S614.tr (S628.tr (S637.tr S667))).cl R), Jp1 (Jq1 (fuel := 0) [(6, 1), (7, 2), (8, 2), (9, 2), (11, 1), (12, 2)] (by kernel_rfl) (by kernel_rfl) R (Jh R R R C12 (i_ResolvedBy_ok (κ := fun b => mp [] 0 (K666 b)) (p0 := x102) (p1 := x104) (p2 := x106) (Jl2 (f617.stp (S0028.tr S667) R R).rdc (mp [] 0) R R) (Jl2 (f618.stp (S0028.tr S667) R R).rdc (mp [] 0) R R) (Jl2 (f619.stp (S0028.tr S667) R R).rdc (mp [] 0) R R) (Jl2 (f631.stp (S637.tr S667) R R).rdc (mp [] 0) R R) (Jl2 (f632.stp (S637.tr S667) R R).rdc (mp [] 0) R R) hx107) ?_))⟩
 rintro _ w674 ⟨k675, ae, af, ai, ad, rfl, e676, f677, f678⟩
 obtain ⟨K679, S680, m681⟩ := Ji e676 68 R
 have S0029 := (S614.tr (S628.tr (S637.tr (S667.tr S680))))
 exact ⟨(S0029.cl R), Jn 3 R (Jj1 (κ := K679) 67 (vc := [.slice ae x107.1.Won.length af, .slice ai x107.1.Plan.length ad]) R R R R R R R Z34 R R (f668.stp S680 R R) R fun w686 S687 f688 => ⟨((S0029.tr S687).cl R), Jn 1 R (Jp1 (Jr1 [] (by kernel_rfl) (by kernel_rfl) R (Jo (Jw1 _ ⟨(fun b => ren [(70, 56), (71, 57), (67, 58)] (K679 b)), b17, ae, af, ai, ad, R, (Jy2 ((S600.tr (S614.tr (S628.tr (S637.tr (S667.tr (S680.tr S687)))))).wk R) [(70, 56), (71, 57), (67, 58)] R), (((f677.mx (no_int _) m681 R (R : 68 + 2 = 70)).stp S687 R R).map (ren [(70, 56), (71, 57), (67, 58)]) R R), (((f678.mx (no_int _) m681 R (R : 68 + 3 = 71)).stp S687 R R).map (ren [(70, 56), (71, 57), (67, 58)]) R R), (f688.map (ren [(70, 56), (71, 57), (67, 58)]) R R)⟩ (KM R)))))⟩)⟩
 refine Jg1 (κ := K627) 65 R R R R R X34 R fun b17 w691 K692 S693 f694 => ⟨((S614.tr (S628.tr S693)).cl R), Jp1 (Jq1 (fuel := 0) [(5, 1), (6, 1), (7, 2), (8, 2), (9, 2), (11, 1), (12, 2)] (by kernel_rfl) (by kernel_rfl) R (Jh R R R C11 (l_toEdit_ok (κ := fun b => mp [] 0 (K692 b)) (p0 := p2) hx106) ?_))⟩
 rintro _ w695 ⟨k696, rfl, e697⟩
 obtain ⟨K698, S699, m700⟩ := Ji e697 66 R
 have S0030 := (S628.tr (S693.tr S699))
 refine ⟨((S614.tr (S628.tr (S693.tr S699))).cl R), Jh R R R C12 (i_ResolvedBy_ok (κ := fun b => mp [] 0 (K698 b)) (p0 := x102) (p1 := x104) (p2 := x106) (Jl2 (f617.stp S0030 R R).rdc (mp [] 0) R R) (Jl2 (f618.stp S0030 R R).rdc (mp [] 0) R R) (Jl2 (f619.stp S0030 R R).rdc (mp [] 0) R R) (Jl2 (f631.stp (S693.tr S699) R R).rdc (mp [] 0) R R) (Jl2 (f632.stp (S693.tr S699) R R).rdc (mp [] 0) R R) hx107) ?_⟩
 rintro _ w707 ⟨k708, ae, af, ai, ad, rfl, e709, f710, f711⟩
 obtain ⟨K712, S713, m714⟩ := Ji e709 68 R
 have S0031 := (S614.tr (S628.tr (S693.tr (S699.tr S713))))
 exact ⟨(S0031.cl R), Jn 3 R (Jj1 (κ := K712) 65 (vc := [.slice ae x107.1.Won.length af, .slice ai x107.1.Plan.length ad]) R R R R R R R Z34 R R (f694.stp (S699.tr S713) R R) R fun w719 S720 f721 => ⟨((S0031.tr S720).cl R), Jn 1 R (Jp1 (Jr1 [] (by kernel_rfl) (by kernel_rfl) R (Jo (Jw1 _ ⟨(fun b => ren [(70, 56), (71, 57), (65, 58)] (K712 b)), b17, ae, af, ai, ad, R, (Jy2 ((S600.tr (S614.tr (S628.tr (S693.tr (S699.tr (S713.tr S720)))))).wk R) [(70, 56), (71, 57), (65, 58)] R), (((f710.mx (no_int _) m714 R (R : 68 + 2 = 70)).stp S720 R R).map (ren [(70, 56), (71, 57), (65, 58)]) R R), (((f711.mx (no_int _) m714 R (R : 68 + 3 = 71)).stp S720 R R).map (ren [(70, 56), (71, 57), (65, 58)]) R R), (f721.map (ren [(70, 56), (71, 57), (65, 58)]) R R)⟩ (KM R)))))⟩)⟩
 have S0032 := (S487.tr (S498.tr (S517.tr (S534.tr (S556.tr (S561.tr (S575.tr (S585.tr (S600.tr S614)))))))))
 refine Jg1 (κ := K613) 61 R R R R R X34 R fun b17 w724 K725 S726 f727 => ⟨((S614.tr S726).cl R), Jp1 (Jq1 (fuel := 0) [(3, 1), (5, 1), (6, 1), (7, 2), (8, 2), (9, 2), (11, 1), (12, 2)] (by kernel_rfl) (by kernel_rfl) R (Jh R R R C10 (l_toAnswer_ok (κ := fun b => mp [] 0 (K725 b)) (p0 := p1) (Jl2 (f479.stp (S0032.tr S726) R R) (mp [] 0) R R) (Jl2 (f480.stp (S0032.tr S726) R R) (mp [] 0) R R) hx104) ?_))⟩
 rintro _ w730 ⟨k731, bb, aY, aW, aV, rfl, e732, f733, f734⟩
 obtain ⟨K735, S736, m737⟩ := Ji e732 62 R
 refine ⟨((S614.tr (S726.tr S736)).cl R), Jh R R R C11 (l_toEdit_ok (κ := fun b => mp [] 0 (K735 b)) (p0 := p2) hx106) ?_⟩
 rintro _ w741 ⟨k742, rfl, e743⟩
 obtain ⟨K744, S745, m746⟩ := Ji e743 66 R
 have S0033 := (S726.tr (S736.tr S745))
 refine ⟨((S614.tr (S726.tr (S736.tr S745))).cl R), Jh R R R C12 (i_ResolvedBy_ok (κ := fun b => mp [] 0 (K744 b)) (p0 := x102) (p1 := x104) (p2 := x106) (Jl2 (f617.stp S0033 R R).rdc (mp [] 0) R R) (Jl2 (f618.stp S0033 R R).rdc (mp [] 0) R R) (Jl2 (f619.stp S0033 R R).rdc (mp [] 0) R R) (Jl2 ((f733.mx (no_int _) m737 R (R : 62 + 2 = 64)).stp S745 R R).rdc (mp [] 0) R R) (Jl2 ((f734.mx (no_int _) m737 R (R : 62 + 3 = 65)).stp S745 R R).rdc (mp [] 0) R R) hx107) ?_⟩
 rintro _ w753 ⟨k754, ae, af, ai, ad, rfl, e755, f756, f757⟩
 obtain ⟨K758, S759, m760⟩ := Ji e755 68 R
 have S0034 := (S614.tr (S726.tr (S736.tr (S745.tr S759))))
 exact ⟨(S0034.cl R), Jn 3 R (Jj1 (κ := K758) 61 (vc := [.slice ae x107.1.Won.length af, .slice ai x107.1.Plan.length ad]) R R R R R R R Z34 R R (f727.stp (S736.tr (S745.tr S759)) R R) R fun w765 S766 f767 => ⟨((S0034.tr S766).cl R), Jn 1 R (Jp1 (Jr1 [] (by kernel_rfl) (by kernel_rfl) R (Jo (Jw1 _ ⟨(fun b => ren [(70, 56), (71, 57), (61, 58)] (K758 b)), b17, ae, af, ai, ad, R, (Jy2 ((S600.tr (S614.tr (S726.tr (S736.tr (S745.tr (S759.tr S766)))))).wk R) [(70, 56), (71, 57), (61, 58)] R), (((f756.mx (no_int _) m760 R (R : 68 + 2 = 70)).stp S766 R R).map (ren [(70, 56), (71, 57), (61, 58)]) R R), (((f757.mx (no_int _) m760 R (R : 68 + 3 = 71)).stp S766 R R).map (ren [(70, 56), (71, 57), (61, 58)]) R R), (f767.map (ren [(70, 56), (71, 57), (61, 58)]) R R)⟩ (KM R)))))⟩)⟩
 have S0035 := (S457.tr (S470.tr (S475.tr (S487.tr (S498.tr (S517.tr (S534.tr (S556.tr (S561.tr (S575.tr (S585.tr S600)))))))))))
 refine Jg1 (κ := K584) 56 R R R R R X34 R fun b17 w770 K771 S772 f773 => ⟨(S772.cl R), Jp1 (Jq1 (fuel := 0) [(1, 1), (3, 1), (5, 1), (6, 1), (7, 2), (8, 2), (9, 2), (11, 1), (12, 2)] (by kernel_rfl) (by kernel_rfl) R (Jh R R R C9 (l_toParity_ok (κ := fun b => mp [] 0 (K771 b)) (p0 := p0) (Jl2 (f447.stp (S0035.tr S772) R R) (mp [] 0) R R) (Jl2 (f448.stp (S0035.tr S772) R R) (mp [] 0) R R) (Jl2 (f449.stp (S0035.tr S772) R R) (mp [] 0) R R) hx102) ?_))⟩
 rintro _ w777 ⟨k778, bl, bj, bf, bi, bg, bk, rfl, e779, f780, f781, f782⟩
 obtain ⟨K783, S784, m785⟩ := Ji e779 57 R
 have S0036 := (S487.tr (S498.tr (S517.tr (S534.tr (S556.tr (S561.tr (S575.tr (S585.tr (S600.tr (S772.tr S784))))))))))
 refine ⟨((S772.tr S784).cl R), Jh R R R C10 (l_toAnswer_ok (κ := fun b => mp [] 0 (K783 b)) (p0 := p1) (Jl2 (f479.stp S0036 R R) (mp [] 0) R R) (Jl2 (f480.stp S0036 R R) (mp [] 0) R R) hx104) ?_⟩
 rintro _ w792 ⟨k793, bb, aY, aW, aV, rfl, e794, f795, f796⟩
 obtain ⟨K797, S798, m799⟩ := Ji e794 62 R
 refine ⟨((S772.tr (S784.tr S798)).cl R), Jh R R R C11 (l_toEdit_ok (κ := fun b => mp [] 0 (K797 b)) (p0 := p2) hx106) ?_⟩
 rintro _ w803 ⟨k804, rfl, e805⟩
 obtain ⟨K806, S807, m808⟩ := Ji e805 66 R
 have S0037 := (S798.tr S807)
 refine ⟨((S772.tr (S784.tr (S798.tr S807))).cl R), Jh R R R C12 (i_ResolvedBy_ok (κ := fun b => mp [] 0 (K806 b)) (p0 := x102) (p1 := x104) (p2 := x106) (Jl2 ((f780.mx (no_int _) m785 R (R : 57 + 2 = 59)).stp S0037 R R).rdc (mp [] 0) R R) (Jl2 ((f781.mx (no_own (no_int _) _) m785 R (R : 57 + 3 = 60)).stp S0037 R R).rdc (mp [] 0) R R) (Jl2 ((f782.mx (no_int _) m785 R (R : 57 + 4 = 61)).stp S0037 R R).rdc (mp [] 0) R R) (Jl2 ((f795.mx (no_int _) m799 R (R : 62 + 2 = 64)).stp S807 R R).rdc (mp [] 0) R R) (Jl2 ((f796.mx (no_int _) m799 R (R : 62 + 3 = 65)).stp S807 R R).rdc (mp [] 0) R R) hx107) ?_⟩
 rintro _ w815 ⟨k816, ae, af, ai, ad, rfl, e817, f818, f819⟩
 obtain ⟨K820, S821, m822⟩ := Ji e817 68 R
 have S0038 := (S772.tr (S784.tr (S798.tr (S807.tr S821))))
 exact ⟨(S0038.cl R), Jn 3 R (Jj1 (κ := K820) 56 (vc := [.slice ae x107.1.Won.length af, .slice ai x107.1.Plan.length ad]) R R R R R R R Z34 R R (f773.stp (S784.tr (S798.tr (S807.tr S821))) R R) R fun w827 S828 f829 => ⟨((S0038.tr S828).cl R), Jn 1 R (Jp1 (Jr1 [] (by kernel_rfl) (by kernel_rfl) R (Jo (Jw1 _ ⟨(fun b => ren [(70, 56), (71, 57), (56, 58)] (K820 b)), b17, ae, af, ai, ad, R, (Jy2 ((S600.tr (S772.tr (S784.tr (S798.tr (S807.tr (S821.tr S828)))))).wk R) [(70, 56), (71, 57), (56, 58)] R), (((f818.mx (no_int _) m822 R (R : 68 + 2 = 70)).stp S828 R R).map (ren [(70, 56), (71, 57), (56, 58)]) R R), (((f819.mx (no_int _) m822 R (R : 68 + 3 = 71)).stp S828 R R).map (ren [(70, 56), (71, 57), (56, 58)]) R R), (f829.map (ren [(70, 56), (71, 57), (56, 58)]) R R)⟩ (KM R)))))⟩)⟩
 rintro _ w592 ⟨K593, b17, aK, aS, aH, aM, rfl, S594, f596, f597, f598⟩
 have S0039 := (S433.tr (S440.tr (S443.tr (S457.tr (S470.tr (S475.tr (S487.tr (S498.tr (S517.tr (S534.tr (S556.tr (S561.tr (S575.tr (S585.tr S594))))))))))))))
 refine Jp (Jq (Je [1, 1, 1, 2, 2, 2, 2, 2, 2] R (Jl tv R R R R (Jd2 (cs := [.slice aK x107.1.Won.length aS, .slice aH x107.1.Plan.length aM]) I34 Z34 R R R (haE f598.cells)) (Jl tv R R R R (Jd2 (cs := [.slice aE x36.1.Won.length aF, .slice aD x36.1.Plan.length aG]) I34 Z34 R R R (haE (f426.stp S0039 R R).cells)) (Ob h fun x112 hx112 h => Jh R R R C13 (l_eqAnswer_ok (κ := fun b => mp [] 0 (K593 b)) (p0 := x107.1) (p1 := x36.1) (Jl2 f596.rdc (mp [] 0) R R) (Jl2 f597.rdc (mp [] 0) R R) (Jl2 (f427.stp S0039 R R).rdc (mp [] 0) R R) (Jl2 (f428.stp S0039 R R).rdc (mp [] 0) R R) hx112) ?_)))))
 rintro _ w835 ⟨k836, rfl, e837⟩
 obtain ⟨K838, S839, m840⟩ := Ji e837 59 R
 refine ⟨tv, Jn 2 R (Ob h fun p118 h hK842 => Ju1 [(5, 2), (6, 2), (7, 2), (8, 2)] [] (fun L w' => L = [(12, .pointer (some ⟨b12, 0, none⟩)), (15, vi x91.1), (118, .bool p118)] ∧ ∃ κ', Stp [] K838 w835 κ' w') tv ?_ ?_)⟩
 revert h
 cases ht843 : (!x112)
 refine JF fun h => Jn 2 R (Jf R (rn_neqB R R U4 R) (Jn 1 R ?_))
 cases h
 exact Jv1 _ tv ⟨R, _, (Jx2 _ _).wk R⟩ (KM R)
 refine JT fun h => Jn 4 R ?_
 cases h
 exact Jv1 _ tv ⟨R, _, (Jx2 _ _).wk R⟩ (KM R)
 rintro _ w844 _ ⟨rfl, K845, S846⟩
 have h := hK842
 refine Jd ?_
 revert h
 cases ht847 : p118
 have S0040 := (S585.tr (S594.tr (S839.tr S846)))
 refine JF fun h => Jy R (Js (Jp (Je [2] R (Jb 1 R (Je [1, 2, 1, 2] R (Jl tv R R R R (Jd2 (cs := [.slice aj x48.1.Won.length am, .slice an x48.1.Plan.length al]) I34 Z34 R R R (haE (f580.stp S0040 R R).cells)) (Jn 1 R (Ob h fun x121 hx121 h => Jh R R R C17 (Ret.cast (by simp only [(hn571), (hn573), List.cons_append, List.nil_append]) (l_heldAnswer_ok (κ := fun b => mp [] 0 (K845 b)) (p0 := (⟨x91.2.1, x91.2.2⟩ : Answer)) (Jl2 (f578.stp S0040 R R).rdc (mp [] 0) R R) (Jl2 (f579.stp S0040 R R).rdc (mp [] 0) R R) hx121)) ?_))))))))
 rintro _ w852 ⟨k853, rfl, e854⟩
 obtain ⟨K855, S856, m857⟩ := Ji e854 61 R
 refine ⟨tv, Jb 1 R (Jq (Je [2, 2] R (Jb 2 R ?_)))⟩
 revert h
 cases ht859 : decide (x121 < 0)
 refine JF fun h => Jy R (Js (Jp (Jq (Je [2, 2, 2] R (Jb 3 R ?_)))))
 revert h
 cases ht861 : (x121 != x91.1)
 refine JF fun h => Jy R (Js (Jp (Je [2] R (Jb 1 R (Ju (Ja2 (l := [.tmp 6]) V3 (Jp2 R R) R ?_))))))
 cases h
 exact ⟨K855, R, (hE.stp (S3.tr (S7.tr (S11.tr (S21.tr (S33.tr (S40.tr (S289.tr (S297.tr (S300.tr (S311.tr (S318.tr (S321.tr (S325.tr (S433.tr (S440.tr (S443.tr (S457.tr (S470.tr (S475.tr (S487.tr (S498.tr (S517.tr (S534.tr (S556.tr (S561.tr (S575.tr (S585.tr (S594.tr (S839.tr (S846.tr S856)))))))))))))))))))))))))))))) R R)⟩
 refine JT fun h => Jx R (Je [2] R (Jb 1 R (Ju (Jw (Ja2 (l := [.tmp 6]) V3 (Jp2 R R) R ?_)))))
 cases h
 exact ⟨K855, R, (hE.stp (S3.tr (S7.tr (S11.tr (S21.tr (S33.tr (S40.tr (S289.tr (S297.tr (S300.tr (S311.tr (S318.tr (S321.tr (S325.tr (S433.tr (S440.tr (S443.tr (S457.tr (S470.tr (S475.tr (S487.tr (S498.tr (S517.tr (S534.tr (S556.tr (S561.tr (S575.tr (S585.tr (S594.tr (S839.tr (S846.tr S856)))))))))))))))))))))))))))))) R R)⟩
 refine JT fun h => Jx R (Je [2] R (Jb 1 R (Ju (Jw (Ja2 (l := [.tmp 6]) V3 (Jp2 R R) R ?_)))))
 cases h
 exact ⟨K855, R, (hE.stp (S3.tr (S7.tr (S11.tr (S21.tr (S33.tr (S40.tr (S289.tr (S297.tr (S300.tr (S311.tr (S318.tr (S321.tr (S325.tr (S433.tr (S440.tr (S443.tr (S457.tr (S470.tr (S475.tr (S487.tr (S498.tr (S517.tr (S534.tr (S556.tr (S561.tr (S575.tr (S585.tr (S594.tr (S839.tr (S846.tr S856)))))))))))))))))))))))))))))) R R)⟩
 refine JT fun h => Jx R (Je [2] R (Jb 1 R (Ju (Jw (Ja2 (l := [.tmp 6]) V3 (Jp2 R R) R ?_)))))
 cases h
 exact ⟨K845, R, (hE.stp (S3.tr (S7.tr (S11.tr (S21.tr (S33.tr (S40.tr (S289.tr (S297.tr (S300.tr (S311.tr (S318.tr (S321.tr (S325.tr (S433.tr (S440.tr (S443.tr (S457.tr (S470.tr (S475.tr (S487.tr (S498.tr (S517.tr (S534.tr (S556.tr (S561.tr (S575.tr (S585.tr (S594.tr (S839.tr S846))))))))))))))))))))))))))))) R R)⟩
 refine JT fun h => Jx R (Je [2] R (Jb 1 R (Ju (Jw (Ja2 (l := [.tmp 6]) V3 (Jp2 R R) R ?_)))))
 cases h
 exact ⟨K584, R, (hE.stp (S3.tr (S7.tr (S11.tr (S21.tr (S33.tr (S40.tr (S289.tr (S297.tr (S300.tr (S311.tr (S318.tr (S321.tr (S325.tr (S433.tr (S440.tr (S443.tr (S457.tr (S470.tr (S475.tr (S487.tr (S498.tr (S517.tr (S534.tr (S556.tr (S561.tr (S575.tr S585)))))))))))))))))))))))))) R R)⟩
 refine JT fun h => Jx R (Je [2] R (Jb 1 R (Ju (Jw (Ja2 (l := [.tmp 6]) V3 (Jp2 R R) R ?_)))))
 cases h
 exact ⟨K584, R, (hE.stp (S3.tr (S7.tr (S11.tr (S21.tr (S33.tr (S40.tr (S289.tr (S297.tr (S300.tr (S311.tr (S318.tr (S321.tr (S325.tr (S433.tr (S440.tr (S443.tr (S457.tr (S470.tr (S475.tr (S487.tr (S498.tr (S517.tr (S534.tr (S556.tr (S561.tr (S575.tr S585)))))))))))))))))))))))))) R R)⟩
 refine JT fun h => Jx R (Je [2] R (Jb 1 R (Ju (Jw (Ja2 (l := [.tmp 6]) V3 (Jp2 R R) R ?_)))))
 cases h
 exact ⟨K560, R, (hE.stp (S3.tr (S7.tr (S11.tr (S21.tr (S33.tr (S40.tr (S289.tr (S297.tr (S300.tr (S311.tr (S318.tr (S321.tr (S325.tr (S433.tr (S440.tr (S443.tr (S457.tr (S470.tr (S475.tr (S487.tr (S498.tr (S517.tr (S534.tr (S556.tr S561)))))))))))))))))))))))) R R)⟩
 refine JT fun h => Jx R (Je [2] R (Jb 1 R (Ju (Jw (Ja2 (l := [.tmp 6]) V3 (Jp2 R R) R ?_)))))
 cases h
 exact ⟨K497, R, (hE.stp (S3.tr (S7.tr (S11.tr (S21.tr (S33.tr (S40.tr (S289.tr (S297.tr (S300.tr (S311.tr (S318.tr (S321.tr (S325.tr (S433.tr (S440.tr (S443.tr (S457.tr (S470.tr (S475.tr (S487.tr S498)))))))))))))))))))) R R)⟩
 refine JT fun h => Jx R (Je [2] R (Jb 1 R (Ju (Jw (Ja2 (l := [.tmp 6]) V3 (Jp2 R R) R ?_)))))
 cases h
 exact ⟨K469, R, (hE.stp (S3.tr (S7.tr (S11.tr (S21.tr (S33.tr (S40.tr (S289.tr (S297.tr (S300.tr (S311.tr (S318.tr (S321.tr (S325.tr (S433.tr (S440.tr (S443.tr (S457.tr S470))))))))))))))))) R R)⟩
 refine JT fun h => Jx R (Je [2] R (Jb 1 R (Ju (Jw (Ja2 (l := [.tmp 6]) V3 (Jp2 R R) R ?_)))))
 cases h
 exact ⟨K439, R, (hE.stp (S3.tr (S7.tr (S11.tr (S21.tr (S33.tr (S40.tr (S289.tr (S297.tr (S300.tr (S311.tr (S318.tr (S321.tr (S325.tr (S433.tr S440)))))))))))))) R R)⟩
 refine JT fun h => Jx R (Je [2] R (Jb 1 R (Ju (Jw (Ja2 (l := [.tmp 6]) V3 (Jp2 R R) R ?_)))))
 cases h
 exact ⟨K32, R, (hE.stp (S3.tr (S7.tr (S11.tr (S21.tr S33)))) R R)⟩
 refine JT fun h => Jx R (Je [2] R (Jb 1 R (Ju (Jw (Ja2 (l := [.tmp 6]) V3 (Jp2 R R) R ?_)))))
 cases h
 exact ⟨K20, R, (hE.stp (S3.tr (S7.tr (S11.tr S21))) R R)⟩
end Go.Proofs.YtmiilifclnanlaaGreat
