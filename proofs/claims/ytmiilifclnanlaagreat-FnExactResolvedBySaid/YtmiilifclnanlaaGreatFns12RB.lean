/- The walks, part 12. By program. -/
import Derived.Test.YtmiilifclnanlaaGreatFns11RB
set_option linter.unusedVariables false
set_option linter.unusedSimpArgs false
namespace Go.Proofs.YtmiilifclnanlaaGreat
open Go Go.Wk Go.Proofs
set_option maxRecDepth 100000
set_option maxHeartbeats 1000000
theorem s_BadLoops_ok {w : World} {κ : Col} {aj af ad ao ap aq} {p0 : Parity} {p1 : Int} {a2 u2} {p2 : (List Int)} {a3 u3} {p3 : (List Int)} (g0_0_0 : Rd (Rp.int .i64) κ w 0 aj af p0.Arena.Owner) (g0_0_1 : Rd (Rp.sl (Rp.int .i64)) κ w 0 ad ao p0.Arena.Next) (g0_1 : Rd (Rp.int .i64) κ w 0 ap aq p0.Prio) (g2 : Rd (Rp.int .i64) κ w 0 a2 u2 p2) (g3 : Rd (Rp.int .i64) κ w 0 a3 u3 p3) {r : (List Int)} (h : s_BadLoops p0 p1 p2 p3 = some r) : Ret Tryz.prog 134 [.agg #[.slice aj p0.Arena.Owner.length af, .slice ad p0.Arena.Next.length ao, .slice ap p0.Prio.length aq], vi p1, .slice a2 p2.length u2, .slice a3 p3.length u3] w (fun v w' => ∃ (κ' : Col) (ra0 : Option Addr) (ru0 : Nat), v = .slice ra0 r.length ru0 ∧ Ent κ w κ' w' ∧ Oc E6 2 κ' w' 2 ra0 ru0 r) := by
 unfold s_BadLoops at h
 refine Ret.enter F134 R N134 R ?_
 dsimp only [envOf]
 have hE := Ent.refl κ w
 refine Je [1, 2] R (Jf1 (κ := κ) 2 R R R R R R R fun b4 w1 K2 S3 f4 => ⟨tv, Jb 1 R (Je [1, 2] R (Jo1 (κ := K2) (E := E6) 3 R R R R R Y22 Tryzinfo2 R fun ar au w5 K6 S7 f8 => ⟨tv, Jb 1 R (Jq (Je [1, 2, 2, 2, 1, 2] R ?_))⟩))⟩)
 have f9 := f4.stp S7 R R
 refine Jl tv R R R R (Jd2 (cs := [.slice aj p0.Arena.Owner.length af, .slice ad p0.Arena.Next.length ao, .slice ap p0.Prio.length aq]) I39 Z39 R R R (haE f9.cells)) (Jn 3 R (Ob h fun x20 hx20 h => ?_))
 have f10 := g0_0_0.stp (S3.tr S7) R R
 have f11 := g0_0_1.stp (S3.tr S7) R R
 have f12 := g0_1.stp (S3.tr S7) R R
 have f13 := g2.stp (S3.tr S7) R R
 have f14 := g3.stp (S3.tr S7) R R
 refine Jh R R R C133 (s_l6Right_ok (κ := fun b => mp [] 0 (K6 b)) (p0 := p0) (Jl2 f10 (mp [] 0) R R) (Jl2 f11 (mp [] 0) R R) (Jl2 f12 (mp [] 0) R R) (Jl2 f13 (mp [] 0) R R) (Jl2 f14 (mp [] 0) R R) hx20) ?_
 rintro _ w15 ⟨k16, rfl, e17⟩
 obtain ⟨K18, S19, m20⟩ := Ji e17 4 R
 refine ⟨tv, Jb 1 R ?_⟩
 revert h
 cases ht22 : (!x20)
 refine JF fun h => Jy R (Js (Jp (Je [2, 1, 2, 1, 2] R (Jf R (Jb2 U39 R Z37 R R) ?_))))
 have f25 := f9.stp S19 R R
 refine Jl tv R R R R (Jd2 (cs := [.slice aj p0.Arena.Owner.length af, .slice ad p0.Arena.Next.length ao]) I37 Z37 R R R (haE (f25.lds 0 2 R))) (Jn 1 R (Ob h fun x26 hx26 h => Jh R R R C156 (s_l6Edges_ok (κ := fun b => mp [] 1 (K18 b)) (p0 := p0.Arena) (Jl2 (f10.stp S19 R R) (mp [] 1) R R) (Jl2 (f11.stp S19 R R) (mp [] 1) R R) (Jl2 (f14.stp S19 R R) (mp [] 1) R R) hx26) ?_))
 rintro _ w29 ⟨k30, an, ah, rfl, e31, f32⟩
 obtain ⟨K33, S34, m35, z36⟩ := Jj e31 6 R
 refine ⟨tv, Jb 1 R (Jq (Je [2] R (Jb 1 R ?_)))⟩
 have hN38 : (p2.length : Int) ≤ 9223372036854775807 := f13.len_le
 refine Ob h fun q2 hq40 hK39 => ?_
 clear h
 refine Jx1 (fun L w' => ∃ κ', ∃ s3 : (List Int), ∃ am al, L = [(9, .slice am s3.length al)] ∧ Stp [3, 9] K33 w29 κ' w' ∧ Oc E6 2 κ' w' 3 am al s3 ∧ q2 = Sum.inr s3) ?_ ?_
 refine Jv (Jy1 (fun k L w' => ∃ κ' v11, ∃ s1 : (List Int), ∃ aa ab, L = [(1, vi p1), (2, .slice a2 p2.length u2), (4, .pointer (some ⟨b4, 0, none⟩)), (9, .slice aa s1.length ab), (10, .slice an x26.length ah), (11, vi v11)] ∧ Stp [3, 9] K33 w29 κ' w' ∧ Oc E6 2 κ' w' 3 aa ab s1 ∧ 0 ≤ v11 ∧ Int.toNat ((p2.length : Int) - v11) = k ∧ cntM (s_BadLoops_b0 p0 p1 p2 x26) k v11 s1 = some q2) ⟨_, _, ⟨K33, 0, (([] : List Int) : (List Int)), ar, au, R, (Jx2 _ _).wk R, (f8.stp (S19.tr S34) R R), (by decide), (by simp), hq40⟩, (KM R)⟩ ?_)
 rintro k _ w45 ⟨K46, v11, s1, aa, ab, rfl, S47, f48, hj38, hJ38, h⟩
 rcases k with _ | k
 have hk50 := h; obtain ⟨o38, h⟩ := ex_eq (Sum.inr (Sum.inl s1) : (List Int) ⊕ (((List Int)) ⊕ ((List Int))))
 have hc38 : decide (v11 < (p2.length : Int)) = false := Jo2 (by omega)
 refine Jq (Je [2, 2, 2, 2] R (Jn 2 R (Jf R (Je2 U22 R R) (Jb 1 R (Jw2 R hc38 (Jc1 (Jt (Jt ?_))))))))
 cases h
 have h := hk50
 refine Jb1 ?_
 cases h
 exact Jw1 _ ⟨K46, (s1 : (List Int)), aa, ab, R, S47.wk R, f48, R⟩ (KM R)
 obtain ⟨o38, h, hk50⟩ := BI h; unfold s_BadLoops_b0 at h
 have hc38 : decide (v11 < (p2.length : Int)) = true := Jn2 (by omega)
 refine Jq (Je [2, 2, 2, 2] R (Jn 2 R (Jf R (Je2 U22 R R) (Jb 1 R (Jv2 R hc38 (Js (Jp (Jq (Jv (Je [2, 2, 2, 1, 2] R (Jn 2 R (Ob h fun x35 hx35 h => Jf R (Jf2 f13 hx35 U22 Z2 R R R R) ?_))))))))))))
 have f51 := f13.stp (S19.tr (S34.tr S47)) R R
 refine Jl tv R R R R (Jc2 I2 R R (hvE (f51.gInt hx35))) (Jb 1 R (Jq (Je [2, 1, 2, 2, 1, 2, 2, 2] R (Jf R (Jb2 U39 R Z22 R R) ?_))))
 have f52 := f25.stp (S34.tr S47) R R
 refine Jl tv R R R R (Jc2 I22 R R (hvE (f52.ld 2 R R))) (Jn 1 R (Ob h fun x40 hx40 h => Jf R (Jf2 f12 hx40 U22 Z2 R R R R) ?_))
 have f53 := f12.stp (S19.tr (S34.tr S47)) R R
 refine Jl tv R R R R (Jc2 I2 R R (hvE (f53.gInt hx40))) (Jf R (rn_rem R R R (by decide)) (Jb 2 R ?_))
 revert h
 cases ht54 : ((Int.tmod x40 2) == p1)
 refine JF fun h => Jy R (Js (Jp (Je [2, 1, 2, 1, 2] R (Jf R (Jb2 U39 R Z22 R R) (Jl tv R R R R (Jc2 I22 R R (hvE (f52.ld 2 R R))) (Jf R (Je2 U22 R R) (Ob h fun x48 hx48 h => Jl1 (κ := K46) (E := Ep.bool) (z := (false : Bool)) 9 R R R R R R R Y70 Tryzinfo4 R R R R R (fun _ _ _ => R) (Ju2 hx48) fun ae ac w55 K56 S57 f58 => ⟨tv, Jb 1 R (Jq (Je [2] R (Jb 1 R ?_)))⟩)))))))
 have hN59 : (p2.length : Int) ≤ 9223372036854775807 := f51.len_le
 refine Ob h fun q5 hq61 hK60 => ?_
 clear h
 refine Jx1 (fun L w' => ∃ κ', ∃ s6 : (List Bool), L = [(1, vi p1), (2, .slice a2 p2.length u2), (4, .pointer (some ⟨b4, 0, none⟩)), (9, .slice aa s1.length ab), (10, .slice an x26.length ah), (11, vi v11), (12, vi x35), (13, .slice ae x48.length ac)] ∧ Stp [9] K56 w55 κ' w' ∧ Oc Ep.bool 4 κ' w' 9 ae ac s6 ∧ x48.length = s6.length ∧ q5 = Sum.inr s6) ?_ ?_
 refine Jv (Jy1 (fun k L w' => ∃ κ' v14, ∃ s4 : (List Bool), L = [(1, vi p1), (2, .slice a2 p2.length u2), (4, .pointer (some ⟨b4, 0, none⟩)), (9, .slice aa s1.length ab), (10, .slice an x26.length ah), (11, vi v11), (12, vi x35), (13, .slice ae x48.length ac), (14, vi v14)] ∧ Stp [9] K56 w55 κ' w' ∧ Oc Ep.bool 4 κ' w' 9 ae ac s4 ∧ x48.length = s4.length ∧ 0 ≤ v14 ∧ Int.toNat ((p2.length : Int) - v14) = k ∧ cntM (s_BadLoops_b2 p0 p2 x35) k v14 s4 = some q5) ⟨_, _, ⟨K56, 0, (x48 : (List Bool)), R, (Jx2 _ _).wk R, f58, R, (by decide), (by simp), hq61⟩, (KM R)⟩ ?_)
 rintro k _ w67 ⟨K68, v14, s4, rfl, S69, f70, hn71, hj59, hJ59, h⟩
 rcases k with _ | k
 have hk72 := h; obtain ⟨o59, h⟩ := ex_eq (Sum.inr (Sum.inl s4) : (List Int) ⊕ (((List Bool)) ⊕ ((List Bool))))
 have hc59 : decide (v14 < (p2.length : Int)) = false := Jo2 (by omega)
 refine Jq (Je [2, 2, 2, 2] R (Jn 2 R (Jf R (Je2 U22 R R) (Jb 1 R (Jw2 R hc59 (Jc1 (Jt (Jt ?_))))))))
 cases h
 have h := hk72
 refine Jb1 ?_
 cases h
 exact Jw1 _ ⟨K68, (s4 : (List Bool)), R, S69.wk R, f70, hn71, R⟩ (KM R)
 obtain ⟨o59, h, hk72⟩ := BI h; unfold s_BadLoops_b2 at h
 have hc59 : decide (v14 < (p2.length : Int)) = true := Jn2 (by omega)
 refine Jq (Je [2, 2, 2, 2] R (Jn 2 R (Jf R (Je2 U22 R R) (Jb 1 R (Jv2 R hc59 (Js (Jp (Jq (Jv (Js1 (κ := K68) [0, 2] none [(0, 2), (1, 2), (2, 2), (3, 2), (5, 2), (7, 2), (8, 2), (9, 2), (13, 2), (15, 2), (4, 0), (6, 0), (10, 0), (11, 2), (12, 0), (14, 0), (16, 2), (17, 0), (18, 2), (19, 2), (20, 1)] [] (by kernel_rfl) (by kernel_rfl) fun w74 S73 => Jn 3 R (Ob h fun x58 hx58 h => Jf R (Jf2 f51 hx58 U22 Z2 R R R R) (Jf R (Jb2 U39 R Z22 R R) (Jn 2 R (Ob h fun x64 hx64 h => Jf R (Jf2 f51 hx64 U22 Z2 R R R R) (Jf R (Jb2 U39 R Z22 R R) (Jn 1 R ?_))))))))))))))))
 have f75 := f51.stp (S57.tr (S69.tr S73)) R R
 refine Jg R (Jc2 I2 R R (hvC (f75.gInt hx58) R)) ?_
 have f76 := f52.stp (S57.tr (S69.tr S73)) R R
 refine Jg R (Jc2 I22 R R (hvC (f76.ld 2 R R) R)) (Jg R (Jc2 I2 R R (hvC (f75.gInt hx64) R)) (Ob h fun x66 hx66 h => Jf R (Jf2 f53 hx66 U22 Z2 R R R R) ?_))
 have f77 := f53.stp (S57.tr (S69.tr S73)) R R
 refine Jg R (Jc2 I2 R R (hvC (f77.gInt hx66) R)) (Jg R (Jc2 I22 R R (hvC (f76.ld 2 R R) R)) (Ob h fun x71 hx71 h => Jf R (Jf2 f77 hx71 U22 Z2 R R R R) (Jg R (Jc2 I2 R R (hvC (f77.gInt hx71) R)) (Jn 1 R (Ob h fun x74 hx74 h => Jf R (Jf2 f70.rdc hx74 U70 Z4 R R hn71 R) (Ob h fun y71 hy71 h => Jk1 (κ := K68) (E := Ep.bool) 9 [] R R R R R R R R Z4 R R R R (f70.stp S73 R R) hy71 fun w79 K80 S81 f82 => ⟨(S81.cl R), ?_⟩))))))
 have hn83 : x48.length = y71.length := hn71.trans (Jt2 hy71).2.2.2.symm
 refine Jt1 (Jo (Jz (Jp (Ja [2, 2, 2] R (Jc 3 R ?_)))))
 have hw59 : IntKind.wrap .i64 (v14 + 1) = v14 + 1 := wr1 hj59 (Jm2 hc59) hN59
 rw [hw59]
 have hc59 := Jm2 hc59
 cases h
 exact Jz1 fun a ha => ⟨k, _, Ja3 _, ⟨K80, v14 + 1, (y71 : (List Bool)), R, (S69.tr (S73.tr S81)).wk R, f82, hn83, by omega, by omega, hk72⟩, (ha.mm R)⟩
 rintro _ w62 ⟨K63, s6, rfl, S64, f65, hn66, rfl⟩
 have h := hK60
 dsimp only [aft] at h
 refine Jp (Je [2, 2, 2, 1, 1, 2, 2, 1] R (Jn 3 R (Jn1 (κ := K63) (E := E6) 10 [] (parts := [(0, .tmp 77)]) (cells := [vi x35]) (xs := ([x35] : List Int)) R R R R R R Y22 Tryzinfo2 R R R R R R R R R R ⟨[vi x35], [], Zl K63 w62 [], Zl K63 w62 [], R, Zl.sp (l1 := []) (l2 := []) R, Zl.sr (l1 := []) (l2 := []), R, R⟩ fun aB ax w84 K85 S86 f87 => ⟨tv, Ob h fun x79 hx79 h => Jh R R R C157 (Ret.cast (by simp only [hn66, List.cons_append, List.nil_append]) (s_l1Beyond_ok (κ := fun b => mp [] 0 (K85 b)) (Jl2 ((f32.mxz z36 m35 R (R : 6 + 2 = 8)).stp (S47.tr (S57.tr (S64.tr S86))) R R).rdc (mp [] 0) R R) (Jl2 (f65.stp S86 R R).rdc (mp [] 0) R R) (Jl2 f87.rdc (mp [] 0) R R) hx79)) ?_⟩)))
 rintro _ w90 ⟨k91, az, aC, rfl, e92, f93⟩
 obtain ⟨K94, S95, m96⟩ := Ji e92 11 R
 refine ⟨tv, ?_⟩
 have f98 := f93.mx no_bool m96 R (R : 11 + 2 = 13)
 refine Jn 1 R (Ob h fun x81 hx81 h => Jf R (Jf2 f98.rdc hx81 U70 Z4 R R R R) (Jl tv R R R R (Jc2 I4 R R (hvE (f98.rdc.gBool hx81))) (Jd (Ob h fun q7 h hK99 => Jx1 (fun L w' => ∃ κ' ak ai, L = [(1, vi p1), (2, .slice a2 p2.length u2), (4, .pointer (some ⟨b4, 0, none⟩)), (9, .slice ak q7.length ai), (10, .slice an x26.length ah), (11, vi v11)] ∧ Stp [3] K94 w90 κ' w' ∧ Oc E6 2 κ' w' 3 ak ai q7) ?_ ?_))))
 revert h
 cases ht104 : x81
 refine JF fun h => Jy R (Js ?_)
 cases h
 exact Jw1 _ ⟨K94, aa, ab, R, (Jx2 _ _).wk R, (f48.stp (S57.tr (S64.tr (S86.tr S95))) R R)⟩ (KM R)
 refine JT fun h => Jx R (Ja [2, 2, 1, 1, 2] R (Jn 2 R (Jn1 (κ := K94) (E := E6) 14 [] (parts := [(0, .tmp 84)]) (cells := [vi x35]) (xs := ([x35] : List Int)) R R R R R R Y22 Tryzinfo2 R R R R R R R R R R ⟨[vi x35], [], Zl K94 w90 [], Zl K94 w90 [], R, Zl.sp (l1 := []) (l2 := []) R, Zl.sr (l1 := []) (l2 := []), R, R⟩ fun ay aA w105 K106 S107 f108 => ⟨tv, Ob h fun x86 hx86 h => Jm1 (κ := K106) (E := E6) 3 [] R R R R R R R R R Y22 Tryzinfo2 R R R R (f48.stp (S57.tr (S64.tr (S86.tr (S95.tr S107)))) R R) (Sl.srcP (pu_int _) f108.rdc) sy_false hx86 R fun av aw w110 K111 S112 f113 => ⟨tv, Jc 1 R ?_⟩⟩)))
 cases h
 exact Jw1 _ ⟨K111, av, aw, R, (S107.tr S112).wk R, f113⟩ (KM R)
 rintro _ w100 ⟨K101, ak, ai, rfl, S102, f103⟩
 have h := hK99
 refine Jz (Jp (Ja [2, 2, 2] R (Jc 3 R ?_)))
 have hw38 : IntKind.wrap .i64 (v11 + 1) = v11 + 1 := wr1 hj38 (Jm2 hc38) hN38
 rw [hw38]
 have hc38 := Jm2 hc38
 cases h
 exact Jz1 fun a ha => ⟨k, _, Ja3 _, ⟨K101, v11 + 1, (q7 : (List Int)), ak, ai, R, (S47.tr (S57.tr (S64.tr (S86.tr (S95.tr S102))))).wk R, f103, by omega, by omega, hk50⟩, (ha.mm R)⟩
 refine JT fun h => Jx R (Jc1 (Jt (Jb1 (Jp (Ja [2, 2, 2] R (Jc 3 R ?_))))))
 have hw38 : IntKind.wrap .i64 (v11 + 1) = v11 + 1 := wr1 hj38 (Jm2 hc38) hN38
 rw [hw38]
 have hc38 := Jm2 hc38
 cases h
 exact Jz1 fun a ha => ⟨k, _, Ja3 _, ⟨K46, v11 + 1, (s1 : (List Int)), aa, ab, R, S47.wk R, f48, by omega, by omega, hk50⟩, (ha.mm R)⟩
 rintro _ w41 ⟨K42, s3, am, al, rfl, S43, f44, rfl⟩
 have h := hK39
 dsimp only [aft] at h
 refine Jp (Je [2, 2] R (Jb 2 R (Ju (Ja2 (l := [.tmp 8]) V134 (Jp2 R R) R ?_))))
 cases h
 exact ⟨(fun b => ren [(3, 2)] (K42 b)), am, al, R, ((hE.stp (S3.tr (S7.tr (S19.tr (S34.tr S43)))) R R).map (ren [(3, 2)]) R R), (f44.map (ren [(3, 2)]) R R)⟩
 refine JT fun h => Jx R (Je [2, 2] R (Jb 2 R (Ju (Jw (Ja2 (l := [.tmp 8]) V134 (Jp2 R R) R ?_)))))
 cases h
 exact ⟨(fun b => ren [(3, 2)] (K18 b)), ar, au, R, ((hE.stp (S3.tr (S7.tr S19)) R R).map (ren [(3, 2)]) R R), ((f8.stp S19 R R).map (ren [(3, 2)]) R R)⟩
theorem s_CleanIn_ok {w : World} {κ : Col} {ae ac aa af ab ad} {p0 : Parity} {p1 : Int} {a2 u2} {p2 : (List Int)} {a3 u3} {p3 : (List Int)} (g0_0_0 : Rd (Rp.int .i64) κ w 0 ae ac p0.Arena.Owner) (g0_0_1 : Rd (Rp.sl (Rp.int .i64)) κ w 0 aa af p0.Arena.Next) (g0_1 : Rd (Rp.int .i64) κ w 0 ab ad p0.Prio) (g2 : Rd (Rp.int .i64) κ w 0 a2 u2 p2) (g3 : Rd (Rp.int .i64) κ w 0 a3 u3 p3) {r : Bool} (h : s_CleanIn p0 p1 p2 p3 = some r) : Ret Tryz.prog 104 [.agg #[.slice ae p0.Arena.Owner.length ac, .slice aa p0.Arena.Next.length af, .slice ab p0.Prio.length ad], vi p1, .slice a2 p2.length u2, .slice a3 p3.length u3] w (fun v w' => ∃ (κ' : Col), v = .bool r ∧ Ent κ w κ' w') := by
 unfold s_CleanIn at h
 refine Ret.enter F104 R N104 R ?_
 dsimp only [envOf]
 have hE := Ent.refl κ w
 refine Je [1, 2] R (Jf1 (κ := κ) 2 R R R R R R R fun b4 w1 K2 S3 f4 => ⟨tv, Jb 1 R (Je [1, 2, 2, 2, 1, 2, 1, 2, 2, 2, 1, 2, 2, 2, 2] R (Jl tv R R R R (Jd2 (cs := [.slice ae p0.Arena.Owner.length ac, .slice aa p0.Arena.Next.length af, .slice ab p0.Prio.length ad]) I39 Z39 R R R (haE f4.cells)) (Jn 3 R (Ob h fun x13 hx13 h => ?_))))⟩)
 have f5 := g0_0_0.stp S3 R R
 have f6 := g0_0_1.stp S3 R R
 have f7 := g0_1.stp S3 R R
 have f8 := g2.stp S3 R R
 have f9 := g3.stp S3 R R
 refine Jh R R R C133 (s_l6Right_ok (κ := fun b => mp [] 0 (K2 b)) (p0 := p0) (Jl2 f5 (mp [] 0) R R) (Jl2 f6 (mp [] 0) R R) (Jl2 f7 (mp [] 0) R R) (Jl2 f8 (mp [] 0) R R) (Jl2 f9 (mp [] 0) R R) hx13) ?_
 rintro _ w10 ⟨k11, rfl, e12⟩
 obtain ⟨K13, S14, m15⟩ := Ji e12 3 R
 refine ⟨tv, Jn 1 R (Ob h fun p22 h hK17 => Ju1 [(6, 1), (7, 2), (8, 2), (9, 2), (10, 1), (11, 2), (12, 2), (13, 2)] [(14, 2)] (fun L w' => L = [(8, .bool false), (22, .bool p22)] ∧ ∃ κ', Stp [] K13 w10 κ' w') tv ?_ ?_)⟩
 revert h
 cases ht18 : x13
 refine JF fun h => Jd1 R R R R (Jn 3 R (Jd1 R R R R (Jn 3 R ?_)))
 cases h
 exact Jv1 _ tv ⟨R, _, (Jx2 _ _).wk R⟩ (KM R)
 refine JT fun h => Jl tv R R R R (Jd2 (cs := [.slice ae p0.Arena.Owner.length ac, .slice aa p0.Arena.Next.length af, .slice ab p0.Prio.length ad]) I39 Z39 R R R (haE (f4.stp S14 R R).cells)) (Jn 3 R (Ob h fun x19 hx19 h => Jh R R R C134 (s_BadLoops_ok (κ := fun b => mp [] 0 (K13 b)) (p0 := p0) (Jl2 (f5.stp S14 R R) (mp [] 0) R R) (Jl2 (f6.stp S14 R R) (mp [] 0) R R) (Jl2 (f7.stp S14 R R) (mp [] 0) R R) (Jl2 (f8.stp S14 R R) (mp [] 0) R R) (Jl2 (f9.stp S14 R R) (mp [] 0) R R) hx19) ?_))
 rintro _ w25 ⟨k26, ah, ai, rfl, e27, f28⟩
 obtain ⟨K29, S30, m31⟩ := Ji e27 5 R
 refine ⟨tv, Jf R (Je2 U22 R R) (Jn 2 R ?_)⟩
 cases h
 exact Jv1 _ tv ⟨R, _, S30.wk R⟩ (KM R)
 rintro _ w34 _ ⟨rfl, K35, S36⟩
 have h := hK17
 refine Jb 1 R (Ju (Ja2 (l := [.tmp 8]) V104 (Jp2 R R) R ?_))
 cases h
 exact ⟨K35, R, (hE.stp (S3.tr (S14.tr S36)) R R)⟩
theorem s_WinsBy_ok {w : World} {κ : Col} {ac ab aa ad ae af} {p0 : Parity} {p1 : Int} {a2 u2} {p2 : (List Int)} {a3 u3} {p3 : (List Int)} (g0_0_0 : Rd (Rp.int .i64) κ w 0 ac ab p0.Arena.Owner) (g0_0_1 : Rd (Rp.sl (Rp.int .i64)) κ w 0 aa ad p0.Arena.Next) (g0_1 : Rd (Rp.int .i64) κ w 0 ae af p0.Prio) (g2 : Rd (Rp.int .i64) κ w 0 a2 u2 p2) (g3 : Rd (Rp.int .i64) κ w 0 a3 u3 p3) {r : Bool} (h : s_WinsBy p0 p1 p2 p3 = some r) : Ret Tryz.prog 63 [.agg #[.slice ac p0.Arena.Owner.length ab, .slice aa p0.Arena.Next.length ad, .slice ae p0.Prio.length af], vi p1, .slice a2 p2.length u2, .slice a3 p3.length u3] w (fun v w' => ∃ (κ' : Col), v = .bool r ∧ Ent κ w κ' w') := by
 unfold s_WinsBy at h
 refine Ret.enter F63 R N63 R ?_
 dsimp only [envOf]
 have hE := Ent.refl κ w
 refine Je [1, 2] R (Jf1 (κ := κ) 2 R R R R R R R fun b4 w1 K2 S3 f4 => ⟨tv, Jb 1 R (Je [1, 2, 2, 2, 1, 2, 2, 1, 2, 2, 2, 1, 2, 2] R (Jl tv R R R R (Jd2 (cs := [.slice ac p0.Arena.Owner.length ab, .slice aa p0.Arena.Next.length ad, .slice ae p0.Prio.length af]) I39 Z39 R R R (haE f4.cells)) (Jn 3 R (Ob h fun x13 hx13 h => ?_))))⟩)
 have f5 := g0_0_0.stp S3 R R
 have f6 := g0_0_1.stp S3 R R
 have f8 := g2.stp S3 R R
 have f9 := g3.stp S3 R R
 refine Jh R R R C104 (s_CleanIn_ok (κ := fun b => mp [] 0 (K2 b)) (p0 := p0) (Jl2 f5 (mp [] 0) R R) (Jl2 f6 (mp [] 0) R R) (Jl2 (g0_1.stp S3 R R) (mp [] 0) R R) (Jl2 f8 (mp [] 0) R R) (Jl2 f9 (mp [] 0) R R) hx13) ?_
 rintro _ w10 ⟨k11, rfl, e12⟩
 obtain ⟨K13, S14, m15⟩ := Ji e12 3 R
 refine ⟨tv, Jn 1 R (Ob h fun p21 h hK17 => Ju1 [(6, 2), (7, 1), (8, 2), (9, 2), (10, 2), (11, 1), (12, 2)] [(13, 2)] (fun L w' => L = [(8, .bool false), (21, .bool p21)] ∧ ∃ κ', Stp [] K13 w10 κ' w') tv ?_ ?_)⟩
 revert h
 cases ht18 : x13
 refine JF fun h => Jn 1 R (Jd1 R R R R (Jn 3 R (Jd1 R R R R (Jn 1 R ?_))))
 cases h
 exact Jv1 _ tv ⟨R, _, (Jx2 _ _).wk R⟩ (KM R)
 refine JT fun h => Jf R (Jb2 U39 R Z37 R R) (Jl tv R R R R (Jd2 (cs := [.slice ac p0.Arena.Owner.length ab, .slice aa p0.Arena.Next.length ad]) I37 Z37 R R R (haE ((f4.stp S14 R R).lds 0 2 R))) (Jn 3 R (Ob h fun x20 hx20 h => Jh R R R C105 (s_ClosedIn_ok (κ := fun b => mp [] 0 (K13 b)) (p0 := p0.Arena) (Jl2 (f5.stp S14 R R) (mp [] 0) R R) (Jl2 (f6.stp S14 R R) (mp [] 0) R R) (Jl2 (f8.stp S14 R R) (mp [] 0) R R) (Jl2 (f9.stp S14 R R) (mp [] 0) R R) hx20) ?_)))
 rintro _ w24 ⟨k25, rfl, e26⟩
 obtain ⟨K27, S28, m29⟩ := Ji e26 5 R
 refine ⟨tv, Jn 1 R ?_⟩
 cases h
 exact Jv1 _ tv ⟨R, _, S28.wk R⟩ (KM R)
 rintro _ w31 _ ⟨rfl, K32, S33⟩
 have h := hK17
 refine Jb 1 R (Ju (Ja2 (l := [.tmp 8]) V63 (Jp2 R R) R ?_))
 cases h
 exact ⟨K32, R, (hE.stp (S3.tr (S14.tr S33)) R R)⟩
theorem s_KeepsWon_ok {w : World} {κ : Col} {ae ac aa af ab ad} {p0 : Parity} {a1 u1} {p1 : (List Int)} (g0_0_0 : Rd (Rp.int .i64) κ w 0 ae ac p0.Arena.Owner) (g0_0_1 : Rd (Rp.sl (Rp.int .i64)) κ w 0 aa af p0.Arena.Next) (g0_1 : Rd (Rp.int .i64) κ w 0 ab ad p0.Prio) (g1 : Rd (Rp.int .i64) κ w 0 a1 u1 p1) {r : Bool} (h : s_KeepsWon p0 p1 = some r) : Ret Tryz.prog 96 [.agg #[.slice ae p0.Arena.Owner.length ac, .slice aa p0.Arena.Next.length af, .slice ab p0.Prio.length ad], .slice a1 p1.length u1] w (fun v w' => ∃ (κ' : Col), v = .bool r ∧ Ent κ w κ' w') := by
 unfold s_KeepsWon at h
 refine Ret.enter F96 R N96 R ?_
 dsimp only [envOf]
 have hE := Ent.refl κ w
 refine Je [1, 2] R (Jf1 (κ := κ) 2 R R R R R R R fun b2 w1 K2 S3 f4 => ⟨tv, Jb 1 R (Je [1, 2, 1, 2, 2, 2, 1, 1, 2] R (Jl tv R R R R (Jd2 (cs := [.slice ae p0.Arena.Owner.length ac, .slice aa p0.Arena.Next.length af, .slice ab p0.Prio.length ad]) I39 Z39 R R R (haE f4.cells)) (Jn 1 R (Ob h fun x10 hx10 h => ?_))))⟩)
 have f5 := g0_0_0.stp S3 R R
 have f6 := g0_0_1.stp S3 R R
 have f7 := g0_1.stp S3 R R
 refine Jh R R R C124 (s_OnlyBy_ok (κ := fun b => mp [] 0 (K2 b)) (p0 := p0) (Jl2 f5 (mp [] 0) R R) (Jl2 f6 (mp [] 0) R R) (Jl2 f7 (mp [] 0) R R) (Jl2 (g1.stp S3 R R) (mp [] 0) R R) hx10) ?_
 rintro _ w9 ⟨k10, ak, aj, al, ai, ah, am, rfl, e11, f12, f13, f14⟩
 obtain ⟨K15, S16, m17⟩ := Ji e11 3 R
 refine ⟨tv, Jn 3 R (Jg1 (κ := K15) 8 R R R R R X39 R fun b5 w22 K23 S24 f25 => ⟨tv, Jj1 (κ := K23) 8 (vc := [.slice ak x10.1.Arena.Owner.length aj, .slice al x10.1.Arena.Next.length ai, .slice ah x10.1.Prio.length am]) R R R R R R R Z39 R R f25 R fun w26 S27 f28 => ⟨tv, Jb 1 R (Jq (Js1 (κ := K23) [2, 8] none [(0, 2), (1, 2), (2, 0), (4, 0), (3, 1), (5, 1), (6, 1), (7, 2), (8, 2)] [] (by kernel_rfl) (by kernel_rfl) fun w30 S29 => Jn 2 R (Ob h fun p20 h hK31 => Ju1 [(2, 0), (4, 0), (3, 1), (5, 1), (6, 1), (7, 2)] [(8, 2)] (fun L w' => L = [(4, .bool false), (20, .bool p20)] ∧ ∃ κ', Stp [] K23 w30 κ' w') (Cl.refl _ _ _) ?_ ?_)))⟩⟩)⟩
 revert h
 cases ht32 : x10.2
 refine JF fun h => Je1 R R R R (Je1 R R R R (Jd1 R R R R (Jd1 R R R R (Jd1 R R R R (Jn 1 R ?_)))))
 cases h
 exact Jv1 _ (Cl.refl _ _ _) ⟨R, _, (Jx2 _ _).wk R⟩ (KM R)
 have S001 := (S24.tr (S27.tr S29))
 refine JT fun h => Jg R (Jd2 (cs := [.slice ak x10.1.Arena.Owner.length aj, .slice al x10.1.Arena.Next.length ai, .slice ah x10.1.Prio.length am]) I39 Z39 R R R (haC (f28.stp S29 R R).cells R)) (Jg R (Jd2 (cs := [.slice ae p0.Arena.Owner.length ac, .slice aa p0.Arena.Next.length af, .slice ab p0.Prio.length ad]) I39 Z39 R R R (haC (f4.stp (S16.tr (S24.tr (S27.tr S29))) R R).cells R)) (Ob h fun x16 hx16 h => Jh R R R C97 (s_l7Won_ok (κ := fun b => mp [] 0 (K23 b)) (p0 := x10.1) (Jl2 ((f12.mx (no_int _) m17 R (R : 3 + 2 = 5)).stp S001 R R).rdc (mp [] 0) R R) (Jl2 ((f13.mx (no_own (no_int _) _) m17 R (R : 3 + 3 = 6)).stp S001 R R).rdc (mp [] 0) R R) (Jl2 ((f14.mx (no_int _) m17 R (R : 3 + 4 = 7)).stp S001 R R).rdc (mp [] 0) R R) hx16) ?_))
 rintro _ w38 ⟨k39, an, ap, rfl, e40, f41⟩
 obtain ⟨K42, S43, m44⟩ := Ji e40 9 R
 have S002 := (S16.tr (S24.tr (S27.tr (S29.tr S43))))
 refine ⟨(S43.cl R), Ob h fun x18 hx18 h => Jh R R R C97 (s_l7Won_ok (κ := fun b => mp [] 0 (K42 b)) (p0 := p0) (Jl2 (f5.stp S002 R R) (mp [] 0) R R) (Jl2 (f6.stp S002 R R) (mp [] 0) R R) (Jl2 (f7.stp S002 R R) (mp [] 0) R R) hx18) ?_⟩
 rintro _ w50 ⟨k51, aq, ao, rfl, e52, f53⟩
 obtain ⟨K54, S55, m56⟩ := Ji e52 12 R
 refine ⟨((S43.tr S55).cl R), Ob h fun x19 hx19 h => Jh R R R C125 (s_l7Same_ok (κ := fun b => mp [] 0 (K54 b)) (Jl2 ((f41.mx (no_int _) m44 R (R : 9 + 2 = 11)).stp S55 R R).rdc (mp [] 0) R R) (Jl2 (f53.mx (no_int _) m56 R (R : 12 + 2 = 14)).rdc (mp [] 0) R R) hx19) ?_⟩
 rintro _ w60 ⟨k61, rfl, e62⟩
 obtain ⟨K63, S64, m65⟩ := Ji e62 15 R
 refine ⟨((S43.tr (S55.tr S64)).cl R), Jn 1 R ?_⟩
 cases h
 exact Jv1 _ ((S43.tr (S55.tr S64)).cl R) ⟨R, _, (S43.tr (S55.tr S64)).wk R⟩ (KM R)
 rintro _ w67 _ ⟨rfl, K68, S69⟩
 have h := hK31
 refine Jn 1 R (Jt1 (Jd (Ju (Ja2 (l := [.tmp 4]) V96 (Jp2 R R) R ?_))))
 cases h
 exact ⟨K68, R, (hE.stp (S3.tr (S16.tr (S24.tr (S27.tr (S29.tr S69))))) R R)⟩
theorem s_PlanFrom_ok {w : World} {κ : Col} {aj ah ae ak af ai} {p0 : Parity} {a1 u1} {p1 : (List Int)} (g0_0_0 : Rd (Rp.int .i64) κ w 0 aj ah p0.Arena.Owner) (g0_0_1 : Rd (Rp.sl (Rp.int .i64)) κ w 0 ae ak p0.Arena.Next) (g0_1 : Rd (Rp.int .i64) κ w 0 af ai p0.Prio) (g1 : Rd (Rp.int .i64) κ w 0 a1 u1 p1) {r : Answer × Bool} (h : s_PlanFrom p0 p1 = some r) : Ret Tryz.prog 58 [.agg #[.slice aj p0.Arena.Owner.length ah, .slice ae p0.Arena.Next.length ak, .slice af p0.Prio.length ai], .slice a1 p1.length u1] w (fun v w' => ∃ (κ' : Col) (ra0 : Option Addr) (ru0 : Nat) (ra1 : Option Addr) (ru1 : Nat), v = .tuple #[.agg #[.slice ra0 r.1.Won.length ru0, .slice ra1 r.1.Plan.length ru1], .bool r.2] ∧ Ent κ w κ' w' ∧ Oc E6 2 κ' w' 2 ra0 ru0 r.1.Won ∧ Oc E6 2 κ' w' 3 ra1 ru1 r.1.Plan) := by
 unfold s_PlanFrom at h
 refine Ret.enter F58 R N58 R ?_
 dsimp only [envOf]
 have hE := Ent.refl κ w
 refine Je [1, 1, 2] R (Jf1 (κ := κ) 2 R R R R R R R fun b2 w1 K2 S3 f4 => ⟨tv, Jg1 (κ := K2) 3 R R R R R X34 R fun b4 w5 K6 S7 f8 => ⟨tv, Jb 1 R (Jq (Je [1, 2, 1, 2] R ?_))⟩⟩)
 have f9 := f4.stp S7 R R
 refine Jl tv R R R R (Jd2 (cs := [.slice aj p0.Arena.Owner.length ah, .slice ae p0.Arena.Next.length ak, .slice af p0.Prio.length ai]) I39 Z39 R R R (haE f9.cells)) (Jn 1 R (Ob h fun x15 hx15 h => ?_))
 have f10 := g0_0_0.stp (S3.tr S7) R R
 have f11 := g0_0_1.stp (S3.tr S7) R R
 have f12 := g0_1.stp (S3.tr S7) R R
 have f13 := g1.stp (S3.tr S7) R R
 refine Jh R R R C96 (s_KeepsWon_ok (κ := fun b => mp [] 0 (K6 b)) (p0 := p0) (Jl2 f10 (mp [] 0) R R) (Jl2 f11 (mp [] 0) R R) (Jl2 f12 (mp [] 0) R R) (Jl2 f13 (mp [] 0) R R) hx15) ?_
 rintro _ w14 ⟨k15, rfl, e16⟩
 obtain ⟨K17, S18, m19⟩ := Ji e16 4 R
 refine ⟨tv, Jb 1 R ?_⟩
 revert h
 cases ht21 : (!x15)
 refine JF fun h => Jy R (Js (Jp (Je [1, 1, 2] R ?_)))
 have f27 := f9.stp S18 R R
 refine Jl tv R R R R (Jd2 (cs := [.slice aj p0.Arena.Owner.length ah, .slice ae p0.Arena.Next.length ak, .slice af p0.Prio.length ai]) I39 Z39 R R R (haE f27.cells)) (Ob h fun x19 hx19 h => ?_)
 have f28 := f10.stp S18 R R
 have f29 := f11.stp S18 R R
 have f30 := f12.stp S18 R R
 refine Jh R R R C97 (s_l7Won_ok (κ := fun b => mp [] 0 (K17 b)) (p0 := p0) (Jl2 f28 (mp [] 0) R R) (Jl2 f29 (mp [] 0) R R) (Jl2 f30 (mp [] 0) R R) hx19) ?_
 rintro _ w31 ⟨k32, aa, ab, rfl, e33, f34⟩
 obtain ⟨K35, S36, m37⟩ := Ji e33 6 R
 refine ⟨tv, ?_⟩
 have f39 := f34.mx (no_int _) m37 R (R : 6 + 2 = 8)
 refine Jb 1 R (Je [1, 1, 1, 1] R ?_)
 have f40 := f27.stp S36 R R
 refine Jl tv R R R R (Jd2 (cs := [.slice aj p0.Arena.Owner.length ah, .slice ae p0.Arena.Next.length ak, .slice af p0.Prio.length ai]) I39 Z39 R R R (haE f40.cells)) (Ob h fun x21 hx21 h => ?_)
 have f41 := f28.stp S36 R R
 refine Jh R R R C98 (s_l7Of_ok (κ := fun b => mp [] 1 (K35 b)) (p0 := p0) (Jl2 f41 (mp [] 1) R R) (Jl2 (f29.stp S36 R R) (mp [] 1) R R) (Jl2 (f30.stp S36 R R) (mp [] 1) R R) hx21) ?_
 rintro _ w44 ⟨k45, ay, au, ax, ar, aA, az, av, aw, ad, ac, rfl, e46, f47, f48, f49, f50, f51⟩
 obtain ⟨K52, S53, m54, z55⟩ := Jj e46 9 R
 refine ⟨tv, Jg1 (κ := K52) 16 R R R R R X111 R fun b7 w61 K62 S63 f64 => ⟨tv, Jj1 (κ := K62) 16 (vc := [.slice ay x21.owner.length au, .slice ax x21.prio.length ar, .slice aA x21.next.length az, .slice av x21.prev.length aw, .slice ad x21.pick.length ac]) R R R R R R R Z111 R R f64 R fun w65 S66 f67 => ⟨tv, Jd (Jq (Je [2] R (Jb 1 R ?_)))⟩⟩⟩
 have hN68 : (p1.length : Int) ≤ 9223372036854775807 := f13.len_le
 refine Ob h fun q2 hq70 hK69 => ?_
 clear h
 refine Jx1 (fun L w' => ∃ κ', ∃ s3 : (List Int), L = [(2, .pointer (some ⟨b2, 0, none⟩)), (4, .pointer (some ⟨b4, 0, none⟩)), (6, .slice aa x19.length ab), (7, .pointer (some ⟨b7, 0, none⟩))] ∧ Stp [15] K62 w65 κ' w' ∧ Oc E6 2 κ' w' 15 ad ac s3 ∧ x21.pick.length = s3.length ∧ q2 = Sum.inr s3) ?_ ?_
 refine Jv (Jy1 (fun k L w' => ∃ κ' v8, ∃ s1 : (List Int), L = [(1, .slice a1 p1.length u1), (2, .pointer (some ⟨b2, 0, none⟩)), (4, .pointer (some ⟨b4, 0, none⟩)), (6, .slice aa x19.length ab), (7, .pointer (some ⟨b7, 0, none⟩)), (8, vi v8)] ∧ Stp [15] K62 w65 κ' w' ∧ Oc E6 2 κ' w' 15 ad ac s1 ∧ x21.pick.length = s1.length ∧ 0 ≤ v8 ∧ Int.toNat ((p1.length : Int) - v8) = k ∧ cntM (s_PlanFrom_b0 p0 p1 x19) k v8 s1 = some q2) ⟨_, _, ⟨K62, 0, (x21.pick : (List Int)), R, (Jx2 _ _).wk R, ((f51.mx (no_int _) m54 R (R : 9 + 6 = 15)).stp (S63.tr S66) R R), R, (by decide), (by simp), hq70⟩, (KM R)⟩ ?_)
 rintro k _ w76 ⟨K77, v8, s1, rfl, S78, f79, hn80, hj68, hJ68, h⟩
 rcases k with _ | k
 have hk82 := h; obtain ⟨o68, h⟩ := ex_eq (Sum.inr (Sum.inl s1) : (Answer × Bool) ⊕ (((List Int)) ⊕ ((List Int))))
 have hc68 : decide (v8 < (p1.length : Int)) = false := Jo2 (by omega)
 refine Jq (Je [2, 2, 2, 2] R (Jn 2 R (Jf R (Je2 U22 R R) (Jb 1 R (Jw2 R hc68 (Jc1 (Jt (Jt ?_))))))))
 cases h
 have h := hk82
 refine Jb1 ?_
 cases h
 exact Jw1 _ ⟨K77, (s1 : (List Int)), R, S78.wk R, f79, hn80, R⟩ (KM R)
 obtain ⟨o68, h, hk82⟩ := BI h; unfold s_PlanFrom_b0 at h
 have hc68 : decide (v8 < (p1.length : Int)) = true := Jn2 (by omega)
 refine Jq (Je [2, 2, 2, 2] R (Jn 2 R (Jf R (Je2 U22 R R) (Jb 1 R (Jv2 R hc68 (Js (Jp (Jq (Jv (Jq (Jq (Js1 (κ := K77) [0, 2, 8] none [(0, 2), (1, 2), (2, 2), (3, 0), (4, 2), (5, 2), (6, 2), (7, 2), (8, 2), (10, 2), (11, 2), (13, 2), (9, 0), (12, 0), (14, 2), (15, 0), (16, 2), (17, 2)] [] (by kernel_rfl) (by kernel_rfl) fun w84 S83 => Jn 2 R (Ob h fun x30 hx30 h => Jf R (Jf2 f13 hx30 U22 Z2 R R R R) ?_)))))))))))))
 have f85 := f13.stp (S18.tr (S36.tr (S53.tr (S63.tr (S66.tr (S78.tr S83)))))) R R
 refine Jg R (Jc2 I2 R R (hvC (f85.gInt hx30) R)) (Jn 2 R (Ob h fun p45 h hK86 => Ju1 [(6, 2), (7, 2), (8, 2), (10, 2), (11, 2), (13, 2), (9, 0), (12, 0), (14, 2), (15, 0), (16, 2), (17, 2)] [] (fun L w' => L = [(1, .slice a1 p1.length u1), (2, .pointer (some ⟨b2, 0, none⟩)), (4, .pointer (some ⟨b4, 0, none⟩)), (6, .slice aa x19.length ab), (7, .pointer (some ⟨b7, 0, none⟩)), (8, vi v8), (45, .bool p45)] ∧ ∃ κ', Stp [] K77 w84 κ' w') (Cl.refl _ _ _) ?_ ?_))
 revert h
 cases ht87 : (x30 != (-1))
 refine JF fun h => Jn 6 R (Je1 R R R R (Je1 R R R R (Jn 1 R (Je1 R R R R (Jn 2 R ?_)))))
 cases h
 exact Jv1 _ (Cl.refl _ _ _) ⟨R, _, (Jx2 _ _).wk R⟩ (KM R)
 have S001 := (S53.tr (S63.tr (S66.tr (S78.tr S83))))
 refine JT fun h => Jn 2 R (Ob h fun x36 hx36 h => Jf R (Jf2 f39.rdc hx36 U22 Z2 R R R R) (Jf R (Jb2 U39 R Z37 R R) (Jf R (Jb2 U37 R Z22 R R) (Jn 1 R (Jg R (Jc2 I2 R R (hvC ((f39.stp S001 R R).rdc.gInt hx36) R)) (Jg R (Jc2 I22 R R (hvC ((f40.stp S001 R R).ld 0 R R) R)) (Ob h fun x42 hx42 h => Jf R (Jf2 f41 hx42 U22 Z2 R R R R) (Jg R (Jc2 I2 R R (hvC ((f41.stp S001 R R).gInt hx42) R)) (Jn 2 R ?_)))))))))
 cases h
 exact Jv1 _ (Cl.refl _ _ _) ⟨R, _, (Jx2 _ _).wk R⟩ (KM R)
 rintro _ w91 _ ⟨rfl, K92, S93⟩
 have h := hK86
 refine Jt1 (Jd ?_)
 revert h
 cases ht94 : p45
 refine JF fun h => Jy R (Js (Jp (Js1 (κ := K92) [0, 16] none [(0, 2), (2, 2), (3, 2), (4, 2), (5, 2), (1, 0), (6, 0), (7, 2), (8, 1)] [] (by kernel_rfl) (by kernel_rfl) fun w101 S100 => Jf R (Jb2 U111 R Z22 R R) (Jn 3 R (Ob h fun x52 hx52 h => Jf R (Jf2 f85 hx52 U22 Z2 R R R R) (Jg R (Jc2 I22 R R (hvC ((f67.stp (S78.tr (S83.tr (S93.tr S100))) R R).ld 4 R R) R)) (Jg R (Jc2 I2 R R (hvC ((f85.stp (S93.tr S100) R R).gInt hx52) R)) (Ob h fun x54 hx54 h => Jf R (Jf2 f79.rdc hx54 U22 Z2 R R hn80 R) (Ob h fun y174 hy174 h => Jk1 (κ := K92) (E := E6) 15 [] R R R R R R R R Z2 R R R R (f79.stp (S83.tr (S93.tr S100)) R R) hy174 fun w105 K106 S107 f108 => ⟨(S107.cl R), ?_⟩)))))))))
 have hn109 : x21.pick.length = y174.length := hn80.trans (Jt2 hy174).2.2.2.symm
 refine Jt1 (Jo (Jz (Jp (Ja [2, 2, 2] R (Jc 3 R ?_)))))
 have hw68 : IntKind.wrap .i64 (v8 + 1) = v8 + 1 := wr1 hj68 (Jm2 hc68) hN68
 rw [hw68]
 have hc68 := Jm2 hc68
 cases h
 exact Jz1 fun a ha => ⟨k, _, Ja3 _, ⟨K106, v8 + 1, (y174 : (List Int)), R, (S78.tr (S83.tr (S93.tr (S100.tr S107)))).wk R, f108, hn109, by omega, by omega, hk82⟩, (ha.mm R)⟩
 refine JT fun h => Jx R (Je [2, 1, 2] R (Jf R (rn_build (parts := []) (cells := [.slice none 0 0, .slice none 0 0]) R R (by kernel_rfl)) (Jj1 (κ := K92) 3 (vc := [.slice none 0 0, .slice none 0 0]) R R R R R R R Z34 R R (f8.stp (S18.tr (S36.tr (S53.tr (S63.tr (S66.tr (S78.tr (S83.tr S93))))))) R R) R fun w96 S97 f98 => ⟨tv, Jb 1 R (Ju (Jw (Ja1 (Jw (Jw ?_)))))⟩)))
 cases h
 obtain rfl := Option.some.inj hk82
 have h := hK69
 dsimp only [aft] at h
 refine Ja1 (Jq2 (Jw (Ja2 (l := [.cell 4 34, .tmp 5]) V58 (res_cellA R f98 I34 Z34 R (Jp2 R R)) R ?_)))
 cases h
 exact ⟨K92, none, 0, none, 0, R, (hE.stp (S3.tr (S7.tr (S18.tr (S36.tr (S53.tr (S63.tr (S66.tr (S78.tr (S83.tr (S93.tr S97)))))))))) R R), Ow.nil, Ow.nil⟩
 rintro _ w71 ⟨K72, s3, rfl, S73, f74, hn75, rfl⟩
 have h := hK69
 dsimp only [aft] at h
 refine Jp (Je [2, 1, 2] R (Jn 1 R (Ob h fun x56 hx56 h => ?_)))
 have f110 := f39.stp (S53.tr (S63.tr (S66.tr S73))) R R
 refine Jh R R R C99 (s_l7Region_ok (κ := fun b => mp [] 0 (K72 b)) (Jl2 f110.rdc (mp [] 0) R R) hx56) ?_
 rintro _ w111 ⟨k112, am, an, rfl, e113, f114⟩
 obtain ⟨K115, S116, m117⟩ := Ji e113 17 R
 refine ⟨tv, Jb 1 R (Je [2, 1, 2] R (Jn 1 R (Ob h fun x58 hx58 h => ?_)))⟩
 have f120 := f110.stp S116 R R
 refine Jh R R R C99 (s_l7Region_ok (κ := fun b => mp [] 0 (K115 b)) (Jl2 f120.rdc (mp [] 0) R R) hx58) ?_
 rintro _ w121 ⟨k122, ao, al, rfl, e123, f124⟩
 obtain ⟨K125, S126, m127⟩ := Ji e123 20 R
 refine ⟨tv, Jb 1 R (Jq (Je [2] R (Jb 1 R ?_)))⟩
 obtain ⟨K132, S133, z134⟩ := fz_ex K125 w121 19
 obtain ⟨K138, S139, z140⟩ := fz_ex K132 w121 22
 have hN142 : (x19.length : Int) ≤ 9223372036854775807 := f120.len_le
 refine Ob h fun q5 hq144 hK143 => ?_
 clear h
 refine Jx1 (fun L w' => ∃ κ', ∃ s6 : (List Int), L = [(4, .pointer (some ⟨b4, 0, none⟩)), (6, .slice aa x19.length ab), (7, .pointer (some ⟨b7, 0, none⟩))] ∧ Stp [15, 25] K138 w121 κ' w' ∧ Oc E6 2 κ' w' 15 ad ac s6 ∧ x21.pick.length = s6.length ∧ q5 = Sum.inr s6) ?_ ?_
 refine Jv (Jy1 (fun k L w' => ∃ κ' v11, ∃ s4 : (List Int), L = [(2, .pointer (some ⟨b2, 0, none⟩)), (4, .pointer (some ⟨b4, 0, none⟩)), (6, .slice aa x19.length ab), (7, .pointer (some ⟨b7, 0, none⟩)), (9, .slice am x56.length an), (10, .slice ao x58.length al), (11, vi v11)] ∧ Stp [15, 25] K138 w121 κ' w' ∧ Oc E6 2 κ' w' 15 ad ac s4 ∧ x21.pick.length = s4.length ∧ 0 ≤ v11 ∧ Int.toNat ((x19.length : Int) - v11) = k ∧ cntM (s_PlanFrom_b2 p0 x19 x21 x56 x58) k v11 s4 = some q5) ⟨_, _, ⟨K138, 0, (s3 : (List Int)), R, (Jx2 _ _).wk R, (f74.stp (S116.tr (S126.tr (S133.tr S139))) R R), hn75, (by decide), (by simp), hq144⟩, (KM R)⟩ ?_)
 rintro k _ w150 ⟨K151, v11, s4, rfl, S152, f153, hn154, hj142, hJ142, h⟩
 rcases k with _ | k
 have hk156 := h; obtain ⟨o142, h⟩ := ex_eq (Sum.inr (Sum.inl s4) : (Answer × Bool) ⊕ (((List Int)) ⊕ ((List Int))))
 have hc142 : decide (v11 < (x19.length : Int)) = false := Jo2 (by omega)
 refine Jq (Je [2, 2, 2, 2] R (Jn 2 R (Jf R (Je2 U22 R R) (Jb 1 R (Jw2 R hc142 (Jc1 (Jt (Jt ?_))))))))
 cases h
 have h := hk156
 refine Jb1 ?_
 cases h
 exact Jw1 _ ⟨K151, (s4 : (List Int)), R, S152.wk R, f153, hn154, R⟩ (KM R)
 obtain ⟨o142, h, hk156⟩ := BI h; unfold s_PlanFrom_b2 at h
 have hc142 : decide (v11 < (x19.length : Int)) = true := Jn2 (by omega)
 refine Jq (Je [2, 2, 2, 2] R (Jn 2 R (Jf R (Je2 U22 R R) (Jb 1 R (Jv2 R hc142 (Js (Jp (Jq (Jv (Jq (Jq (Js1 (κ := K151) [0, 2, 8, 15, 16] none [(0, 2), (2, 2), (1, 0), (3, 2), (4, 0), (5, 2), (6, 2), (7, 2), (8, 2), (9, 2), (11, 2), (12, 2), (14, 2), (10, 0), (13, 0), (15, 2), (16, 0), (17, 2), (18, 2)] [] (by kernel_rfl) (by kernel_rfl) fun w158 S157 => Jf R (Jb2 U111 R Z22 R R) (Jn 1 R ?_)))))))))))))
 have f159 := f67.stp (S73.tr (S116.tr (S126.tr (S133.tr (S139.tr (S152.tr S157)))))) R R
 refine Jg R (Jc2 I22 R R (hvC (f159.ld 4 R R) R)) (Ob h fun x68 hx68 h => Jf R (Jf2 f153.rdc hx68 U22 Z2 R R hn154 R) ?_)
 have f160 := f153.stp S157 R R
 refine Jg R (Jc2 I2 R R (hvC (f160.rdc.gInt hx68) R)) (Jn 2 R (Ob h fun p83 h hK161 => Ju1 [(7, 2), (8, 2), (9, 2), (11, 2), (12, 2), (14, 2), (10, 0), (13, 0), (15, 2), (16, 0), (17, 2), (18, 2)] [] (fun L w' => L = [(2, .pointer (some ⟨b2, 0, none⟩)), (4, .pointer (some ⟨b4, 0, none⟩)), (6, .slice aa x19.length ab), (7, .pointer (some ⟨b7, 0, none⟩)), (9, .slice am x56.length an), (10, .slice ao x58.length al), (11, vi v11), (83, .bool p83)] ∧ ∃ κ', Stp [] K151 w158 κ' w') (Cl.refl _ _ _) ?_ ?_))
 revert h
 cases ht162 : decide (0 ≤ x68)
 have S002 := (S53.tr (S63.tr (S66.tr (S73.tr (S116.tr (S126.tr (S133.tr (S139.tr (S152.tr S157)))))))))
 refine JF fun h => Jn 2 R (Ob h fun x74 hx74 h => Jf R (Jf2 f120.rdc hx74 U22 Z2 R R R R) (Jf R (Jb2 U39 R Z37 R R) (Jf R (Jb2 U37 R Z22 R R) (Jn 1 R (Jg R (Jc2 I2 R R (hvC ((f120.stp (S126.tr (S133.tr (S139.tr (S152.tr S157)))) R R).rdc.gInt hx74) R)) (Jg R (Jc2 I22 R R (hvC ((f40.stp S002 R R).ld 0 R R) R)) (Ob h fun x80 hx80 h => Jf R (Jf2 f41 hx80 U22 Z2 R R R R) (Jg R (Jc2 I2 R R (hvC ((f41.stp S002 R R).gInt hx80) R)) (Jn 2 R ?_)))))))))
 cases h
 exact Jv1 _ (Cl.refl _ _ _) ⟨R, _, (Jx2 _ _).wk R⟩ (KM R)
 refine JT fun h => Jn 6 R (Je1 R R R R (Je1 R R R R (Jn 1 R (Je1 R R R R (Jn 2 R ?_)))))
 cases h
 exact Jv1 _ (Cl.refl _ _ _) ⟨R, _, (Jx2 _ _).wk R⟩ (KM R)
 rintro _ w166 _ ⟨rfl, K167, S168⟩
 have h := hK161
 refine Jt1 (Jd ?_)
 revert h
 cases ht169 : p83
 refine JF fun h => Jy R (Js (Jp (Je [2, 2] R (Jb 2 R (Jq (Je [2, 2, 2, 1, 2] R (Jn 2 R (Ob h fun x87 hx87 h => Jf R (Jf2 f120.rdc hx87 U22 Z2 R R R R) (Jl tv R R R R (Jc2 I2 R R (hvE ((f120.stp (S126.tr (S133.tr (S139.tr (S152.tr (S157.tr S168))))) R R).rdc.gInt hx87))) (Jb 1 R (Ob h fun q7 h hK172 => Jx1 (fun L w' => ∃ κ' aq ap, L = [(2, .pointer (some ⟨b2, 0, none⟩)), (4, .pointer (some ⟨b4, 0, none⟩)), (6, .slice aa x19.length ab), (7, .pointer (some ⟨b7, 0, none⟩)), (9, .slice am x56.length an), (10, .slice ao x58.length al), (11, vi v11), (12, .slice aq q7.length ap)] ∧ Stp [] K167 w166 κ' w' ∧ Rd Rp.bool κ' w' 0 aq ap q7) ?_ ?_)))))))))))
 revert h
 cases ht177 : (x87 == 1)
 refine JF fun h => Jy R (Js ?_)
 cases h
 exact Jw1 _ ⟨K167, am, an, R, (Jx2 _ _).wk R, ((Sl.st z134 ((f114.mx no_bool m117 R (R : 17 + 2 = 19)).stp S126 R R).rdc).stp (S139.tr (S152.tr (S157.tr S168))) R R)⟩ (KM R)
 refine JT fun h => Jx R (Ja [2, 2] R (Jc 2 R ?_))
 cases h
 exact Jw1 _ ⟨K167, ao, al, R, (Jx2 _ _).wk R, ((Sl.st z140 ((f124.mx no_bool m127 R (R : 20 + 2 = 22)).stp S133 R R).rdc).stp (S152.tr (S157.tr S168)) R R)⟩ (KM R)
 rintro _ w173 ⟨K174, aq, ap, rfl, S175, f176⟩
 have h := hK172
 refine Jp (Js1 (κ := K174) [16] none [(0, 2), (2, 2), (4, 2), (5, 2), (1, 0), (3, 0), (6, 1), (7, 2), (8, 1)] [] (by kernel_rfl) (by kernel_rfl) fun w181 S180 => Jf R (Jb2 U111 R Z22 R R) (Jn 3 R ?_))
 have f182 := f159.stp (S168.tr (S175.tr S180)) R R
 have S003 := (S63.tr (S66.tr (S73.tr (S116.tr (S126.tr (S133.tr (S139.tr (S152.tr (S157.tr (S168.tr (S175.tr S180)))))))))))
 refine Jg R (Jc2 I22 R R (hvC (f182.ld 4 R R) R)) (Jg R (Jd2 (cs := [.slice ay x21.owner.length au, .slice ax x21.prio.length ar, .slice aA x21.next.length az, .slice av x21.prev.length aw, .slice ad x21.pick.length ac]) I111 Z111 R R R (haC f182.cells R)) (Ob h fun x97 hx97 h => Jh R R R C100 (Ret.cast (by simp only [hn154, List.cons_append, List.nil_append]) (s_l7Pick_ok (κ := fun b => mp [(15, 2)] 0 (K174 b)) (p0 := (⟨x21.owner, x21.prio, x21.next, x21.prev, s4⟩ : l7Game)) (Jl2 ((f47.mx z55).stp S003 R R) (mp [(15, 2)] 0) R R) (Jl2 ((f48.mx z55).stp S003 R R) (mp [(15, 2)] 0) R R) (Jl2 ((f49.mx z55).stp S003 R R) (mp [(15, 2)] 0) R R) (Jl2 ((f50.mx (no_own (no_int _) _) m54 R (R : 9 + 5 = 14)).stp S003 R R).rdc (mp [(15, 2)] 0) R R) ((f160.stp (S168.tr (S175.tr S180)) R R).map (mp [(15, 2)] 0) R R) (Jl2 (f176.stp S180 R R) (mp [(15, 2)] 0) R R) hx97)) ?_))
 rintro _ w189 ⟨k190, rfl, e191, f192, hn193⟩
 obtain ⟨K194, S195, m196⟩ := Ji e191 23 R
 refine ⟨(S195.cl R), ?_⟩
 have f198 := f192.mx (no_int _) m196 R (R : 23 + 2 = 25)
 refine Ob h fun x98 hx98 h => Jf R (Jf2 f198.rdc hx98 U22 Z2 R R (hn154.trans hn193) R) (Ob h fun y183 hy183 h => Jk1 (κ := K194) (E := E6) 25 [] R R R R R R R R Z2 R R R R f198 hy183 fun w199 K200 S201 f202 => ⟨((S195.tr S201).cl R), ?_⟩)
 have hn203 : x21.pick.length = y183.length := (hn154.trans hn193).trans (Jt2 hy183).2.2.2.symm
 refine Jt1 (Jo (Jz (Jp (Ja [2, 2, 2] R (Jc 3 R ?_)))))
 have hw142 : IntKind.wrap .i64 (v11 + 1) = v11 + 1 := wr1 hj142 (Jm2 hc142) hN142
 rw [hw142]
 have hc142 := Jm2 hc142
 cases h
 exact Jz1 fun a ha => ⟨k, _, Ja3 _, ⟨(fun b => ren [(25, 15)] (K200 b)), v11 + 1, (y183 : (List Int)), R, (Jy2 ((S152.tr (S157.tr (S168.tr (S175.tr (S180.tr (S195.tr S201)))))).wk R) [(25, 15)] R), (f202.map (ren [(25, 15)]) R R), hn203, by omega, by omega, hk156⟩, (ha.mm R)⟩
 refine JT fun h => Jx R (Jc1 (Jt (Jb1 (Jp (Ja [2, 2, 2] R (Jc 3 R ?_))))))
 have hw142 : IntKind.wrap .i64 (v11 + 1) = v11 + 1 := wr1 hj142 (Jm2 hc142) hN142
 rw [hw142]
 have hc142 := Jm2 hc142
 cases h
 exact Jz1 fun a ha => ⟨k, _, Ja3 _, ⟨K167, v11 + 1, (s4 : (List Int)), R, (S152.tr (S157.tr S168)).wk R, (f160.stp S168 R R), hn154, by omega, by omega, hk156⟩, (ha.mm R)⟩
 rintro _ w145 ⟨K146, s6, rfl, S147, f148, hn149, rfl⟩
 have h := hK143
 dsimp only [aft] at h
 refine Jp (Je [2, 2, 1, 2, 1, 2] R (Jn 1 R (Jf R (Jb2 U111 R Z22 R R) (Jl tv R R R R (Jc2 I22 R R (hvE ((f67.stp (S73.tr (S116.tr (S126.tr (S133.tr (S139.tr S147))))) R R).ld 4 R R))) (Jf R (rn_build (parts := [(0, .tmp 99), (1, .tmp 101)]) (cells := [.slice aa x19.length ab, .slice ad x21.pick.length ac]) R R (by kernel_rfl)) (Jj1 (κ := K146) 3 (vc := [.slice aa x19.length ab, .slice ad x21.pick.length ac]) R R R R R R R Z34 R R (f8.stp (S18.tr (S36.tr (S53.tr (S63.tr (S66.tr (S73.tr (S116.tr (S126.tr (S133.tr (S139.tr S147)))))))))) R R) R fun w206 S207 f208 => ⟨tv, Jb 1 R (Ju (Ja2 (l := [.cell 4 34, .tmp 5]) V58 (res_cellA R f208 I34 Z34 R (Jp2 R R)) R ?_))⟩))))))
 cases h
 exact ⟨(fun b => ren [(8, 2), (15, 3)] (K146 b)), aa, ab, ad, ac, (by simp only [hn149]), ((hE.stp (S3.tr (S7.tr (S18.tr (S36.tr (S53.tr (S63.tr (S66.tr (S73.tr (S116.tr (S126.tr (S133.tr (S139.tr (S147.tr S207))))))))))))) R R).map (ren [(8, 2), (15, 3)]) R R), ((f120.stp (S126.tr (S133.tr (S139.tr (S147.tr S207)))) R R).map (ren [(8, 2), (15, 3)]) R R), ((f148.stp S207 R R).map (ren [(8, 2), (15, 3)]) R R)⟩
 refine JT fun h => Jx R (Je [2, 1, 2] R (Jf R (rn_build (parts := []) (cells := [.slice none 0 0, .slice none 0 0]) R R (by kernel_rfl)) (Jj1 (κ := K17) 3 (vc := [.slice none 0 0, .slice none 0 0]) R R R R R R R Z34 R R (f8.stp S18 R R) R fun w23 S24 f25 => ⟨tv, Jb 1 R (Ju (Jw (Ja2 (l := [.cell 4 34, .tmp 5]) V58 (res_cellA R f25 I34 Z34 R (Jp2 R R)) R ?_)))⟩)))
 cases h
 exact ⟨K17, none, 0, none, 0, R, (hE.stp (S3.tr (S7.tr (S18.tr S24))) R R), Ow.nil, Ow.nil⟩
theorem s_Solved_ok {w : World} {κ : Col} {an al aj ao ak am} {p0 : Parity} (g0_0_0 : Rd (Rp.int .i64) κ w 0 an al p0.Arena.Owner) (g0_0_1 : Rd (Rp.sl (Rp.int .i64)) κ w 0 aj ao p0.Arena.Next) (g0_1 : Rd (Rp.int .i64) κ w 0 ak am p0.Prio) {r : Answer} (h : s_Solved p0 = some r) : Ret Tryz.prog 24 [.agg #[.slice an p0.Arena.Owner.length al, .slice aj p0.Arena.Next.length ao, .slice ak p0.Prio.length am]] w (fun v w' => ∃ (κ' : Col) (ra0 : Option Addr) (ru0 : Nat) (ra1 : Option Addr) (ru1 : Nat), v = .agg #[.slice ra0 r.Won.length ru0, .slice ra1 r.Plan.length ru1] ∧ Ent κ w κ' w' ∧ Oc E6 2 κ' w' 2 ra0 ru0 r.Won ∧ Oc E6 2 κ' w' 3 ra1 ru1 r.Plan) := by
 unfold s_Solved at h
 refine Ret.enter F24 R N24 R ?_
 dsimp only [envOf]
 have hE := Ent.refl κ w
 refine Je [1, 1] R (Jf1 (κ := κ) 2 R R R R R R R fun b1 w1 K2 S3 f4 => ⟨tv, Jg1 (κ := K2) 3 R R R R R X34 R fun b2 w5 K6 S7 f8 => ⟨tv, Jd (Jq (Je [1, 1, 2] R ?_))⟩⟩)
 have f9 := f4.stp S7 R R
 refine Jl tv R R R R (Jd2 (cs := [.slice an p0.Arena.Owner.length al, .slice aj p0.Arena.Next.length ao, .slice ak p0.Prio.length am]) I39 Z39 R R R (haE f9.cells)) (Ob h fun x6 hx6 h => ?_)
 have f10 := g0_0_0.stp (S3.tr S7) R R
 have f11 := g0_0_1.stp (S3.tr S7) R R
 have f12 := g0_1.stp (S3.tr S7) R R
 refine Jh R R R C55 (s_ParityOk_ok (κ := fun b => mp [] 0 (K6 b)) (p0 := p0) (Jl2 f10 (mp [] 0) R R) (Jl2 f11 (mp [] 0) R R) (Jl2 f12 (mp [] 0) R R) hx6) ?_
 rintro _ w13 ⟨k14, rfl, e15⟩
 obtain ⟨K16, S17, m18⟩ := Ji e15 4 R
 refine ⟨tv, Jb 1 R ?_⟩
 revert h
 cases ht20 : (!x6)
 refine JF fun h => Jy R (Js (Jp (Jq (Ob h fun x14 hx14 h => Ob h fun x15 hx15 h => Jx1 (fun L w' => ∃ κ' b3 ah af ae ai, L = [(2, .pointer (some ⟨b2, 0, none⟩)), (3, .pointer (some ⟨b3, 0, none⟩))] ∧ Stp [6, 9, 11, 12, 13] K16 w13 κ' w' ∧ Oc E6 2 κ' w' 6 ah af x15.1.Won ∧ Oc E6 2 κ' w' 7 ae ai x15.1.Plan ∧ Bc κ' w' 8 b3 34 [.slice ah x15.1.Won.length af, .slice ae x15.1.Plan.length ai]) ?_ ?_))))
 refine WC.rxt (κ := K16) [2] none (by kernel_rfl) fun w33 S34 => Jq1 (fuel := 8) [(1, 2), (0, 0), (2, 0), (3, 2)] (by kernel_rfl) (by kernel_rfl) R (Jf R (Jb2 U39 R Z22 R R) ?_)
 have f35 := f9.stp (S17.tr S34) R R
 refine Jg R (Jd2 (cs := [.slice an p0.Arena.Owner.length al, .slice aj p0.Arena.Next.length ao, .slice ak p0.Prio.length am]) I39 Z39 R R R (haC f35.cells R)) (Jg R (Jc2 I22 R R (hvC (f35.ld 2 R R) R)) (Jf R (Je2 U22 R R) (Jp1 (WA.fork2 (fuel := 7) 4 9 (by kernel_rfl) R ?_ ?_))))
 refine Jh R R R C59 (s_l7None_ok (κ := fun b => mp [] 0 (K16 b)) hx14) ?_
 rintro _ w36 ⟨k37, ap, aq, rfl, e38, f39⟩
 obtain ⟨K40, S41, m42⟩ := Ji e38 6 R
 refine ⟨(S41.cl R), ?_⟩
 have f44 := f39.mx (no_int _) m42 R (R : 6 + 2 = 8)
 refine Jp1 (WA.fork2 (fuel := 6) 5 9 (by kernel_rfl) R ?_ ?_)
 have S001 := (S17.tr (S34.tr S41))
 refine Jh R R R C58 (s_PlanFrom_ok (κ := fun b => mp [] 0 (K40 b)) (p0 := p0) (Jl2 (f10.stp S001 R R) (mp [] 0) R R) (Jl2 (f11.stp S001 R R) (mp [] 0) R R) (Jl2 (f12.stp S001 R R) (mp [] 0) R R) (Jl2 f44.rdc (mp [] 0) R R) hx15) ?_
 rintro _ w48 ⟨k49, ad, aa, ab, ac, rfl, e50, f51, f52⟩
 obtain ⟨K53, S54, m55⟩ := Ji e50 9 R
 exact ⟨((S41.tr S54).cl R), Jp1 (Jq1 (fuel := 0) [(6, 2), (7, 2), (8, 2), (9, 1), (10, 1), (11, 2)] (by kernel_rfl) (by kernel_rfl) R (Jn 3 R (Jg1 (κ := K53) 13 R R R R R X34 R fun b3 w59 K60 S61 f62 => ⟨((S41.tr (S54.tr S61)).cl R), Jj1 (κ := K60) 13 (vc := [.slice ad x15.1.Won.length aa, .slice ab x15.1.Plan.length ac]) R R R R R R R Z34 R R f62 R fun w63 S64 f65 => ⟨((S41.tr (S54.tr (S61.tr S64))).cl R), Jn 1 R (Jp1 (Jr1 [] (by kernel_rfl) (by kernel_rfl) R (Jo (Jw1 _ ⟨(fun b => ren [(11, 6), (12, 7), (13, 8)] (K60 b)), b3, ad, aa, ab, ac, R, (Jy2 ((S34.tr (S41.tr (S54.tr (S61.tr S64)))).wk R) [(11, 6), (12, 7), (13, 8)] R), (((f51.mx (no_int _) m55 R (R : 9 + 2 = 11)).stp (S61.tr S64) R R).map (ren [(11, 6), (12, 7), (13, 8)]) R R), (((f52.mx (no_int _) m55 R (R : 9 + 3 = 12)).stp (S61.tr S64) R R).map (ren [(11, 6), (12, 7), (13, 8)]) R R), (f65.map (ren [(11, 6), (12, 7), (13, 8)]) R R)⟩ (KM R)))))⟩⟩)))⟩
 have S002 := (S17.tr (S34.tr S41))
 refine Jg1 (κ := K40) 9 R R R R R X34 R fun b3 w68 K69 S70 f71 => ⟨((S41.tr S70).cl R), Jp1 (Jq1 (fuel := 0) [(5, 1), (6, 2), (7, 2), (8, 2), (10, 1), (11, 2)] (by kernel_rfl) (by kernel_rfl) R (Jh R R R C58 (s_PlanFrom_ok (κ := fun b => mp [] 0 (K69 b)) (p0 := p0) (Jl2 (f10.stp (S002.tr S70) R R) (mp [] 0) R R) (Jl2 (f11.stp (S002.tr S70) R R) (mp [] 0) R R) (Jl2 (f12.stp (S002.tr S70) R R) (mp [] 0) R R) (Jl2 (f44.stp S70 R R).rdc (mp [] 0) R R) hx15) ?_))⟩
 rintro _ w76 ⟨k77, ad, aa, ab, ac, rfl, e78, f79, f80⟩
 obtain ⟨K81, S82, m83⟩ := Ji e78 10 R
 exact ⟨((S41.tr (S70.tr S82)).cl R), Jn 3 R (Jj1 (κ := K81) 9 (vc := [.slice ad x15.1.Won.length aa, .slice ab x15.1.Plan.length ac]) R R R R R R R Z34 R R (f71.stp S82 R R) R fun w88 S89 f90 => ⟨((S41.tr (S70.tr (S82.tr S89))).cl R), Jn 1 R (Jp1 (Jr1 [] (by kernel_rfl) (by kernel_rfl) R (Jo (Jw1 _ ⟨(fun b => ren [(12, 6), (13, 7), (9, 8)] (K81 b)), b3, ad, aa, ab, ac, R, (Jy2 ((S34.tr (S41.tr (S70.tr (S82.tr S89)))).wk R) [(12, 6), (13, 7), (9, 8)] R), (((f79.mx (no_int _) m83 R (R : 10 + 2 = 12)).stp S89 R R).map (ren [(12, 6), (13, 7), (9, 8)]) R R), (((f80.mx (no_int _) m83 R (R : 10 + 3 = 13)).stp S89 R R).map (ren [(12, 6), (13, 7), (9, 8)]) R R), (f90.map (ren [(12, 6), (13, 7), (9, 8)]) R R)⟩ (KM R)))))⟩)⟩
 refine Jg1 (κ := K16) 6 R R R R R X34 R fun b3 w93 K94 S95 f96 => ⟨(S95.cl R), Jp1 (Jq1 (fuel := 0) [(4, 1), (5, 1), (6, 2), (7, 2), (8, 2), (10, 1), (11, 2)] (by kernel_rfl) (by kernel_rfl) R (Jh R R R C59 (s_l7None_ok (κ := fun b => mp [] 0 (K94 b)) hx14) ?_))⟩
 rintro _ w97 ⟨k98, ap, aq, rfl, e99, f100⟩
 obtain ⟨K101, S102, m103⟩ := Ji e99 7 R
 have S003 := (S17.tr (S34.tr (S95.tr S102)))
 refine ⟨((S95.tr S102).cl R), Jh R R R C58 (s_PlanFrom_ok (κ := fun b => mp [] 0 (K101 b)) (p0 := p0) (Jl2 (f10.stp S003 R R) (mp [] 0) R R) (Jl2 (f11.stp S003 R R) (mp [] 0) R R) (Jl2 (f12.stp S003 R R) (mp [] 0) R R) (Jl2 (f100.mx (no_int _) m103 R (R : 7 + 2 = 9)).rdc (mp [] 0) R R) hx15) ?_⟩
 rintro _ w109 ⟨k110, ad, aa, ab, ac, rfl, e111, f112, f113⟩
 obtain ⟨K114, S115, m116⟩ := Ji e111 10 R
 exact ⟨((S95.tr (S102.tr S115)).cl R), Jn 3 R (Jj1 (κ := K114) 6 (vc := [.slice ad x15.1.Won.length aa, .slice ab x15.1.Plan.length ac]) R R R R R R R Z34 R R (f96.stp (S102.tr S115) R R) R fun w121 S122 f123 => ⟨((S95.tr (S102.tr (S115.tr S122))).cl R), Jn 1 R (Jp1 (Jr1 [] (by kernel_rfl) (by kernel_rfl) R (Jo (Jw1 _ ⟨(fun b => ren [(12, 6), (13, 7), (6, 8)] (K114 b)), b3, ad, aa, ab, ac, R, (Jy2 ((S34.tr (S95.tr (S102.tr (S115.tr S122)))).wk R) [(12, 6), (13, 7), (6, 8)] R), (((f112.mx (no_int _) m116 R (R : 10 + 2 = 12)).stp S122 R R).map (ren [(12, 6), (13, 7), (6, 8)]) R R), (((f113.mx (no_int _) m116 R (R : 10 + 3 = 13)).stp S122 R R).map (ren [(12, 6), (13, 7), (6, 8)]) R R), (f123.map (ren [(12, 6), (13, 7), (6, 8)]) R R)⟩ (KM R)))))⟩)⟩
 rintro _ w26 ⟨K27, b3, ah, af, ae, ai, rfl, S28, f30, f31, f32⟩
 refine Jp (Je [1, 1] R (Jl tv R R R R (Jd2 (cs := [.slice ah x15.1.Won.length af, .slice ae x15.1.Plan.length ai]) I34 Z34 R R R (haE f32.cells)) (Jj1 (κ := K27) 3 (vc := [.slice ah x15.1.Won.length af, .slice ae x15.1.Plan.length ai]) R R R R R R R Z34 R R (f8.stp (S17.tr S28) R R) R fun w127 S128 f129 => ⟨tv, Jd (Ju (Ja2 (l := [.cell 2 34]) V24 (res_cellA R f129 I34 Z34 R R) R ?_))⟩)))
 cases h
 exact ⟨(fun b => ren [(6, 2), (7, 3)] (K27 b)), ah, af, ae, ai, R, ((hE.stp (S3.tr (S7.tr (S17.tr (S28.tr S128)))) R R).map (ren [(6, 2), (7, 3)]) R R), ((f30.stp S128 R R).map (ren [(6, 2), (7, 3)]) R R), ((f31.stp S128 R R).map (ren [(6, 2), (7, 3)]) R R)⟩
 refine JT fun h => Jx R (Je [2, 1] R (Jf R (rn_build (parts := []) (cells := [.slice none 0 0, .slice none 0 0]) R R (by kernel_rfl)) (Jj1 (κ := K16) 3 (vc := [.slice none 0 0, .slice none 0 0]) R R R R R R R Z34 R R (f8.stp S17 R R) R fun w22 S23 f24 => ⟨tv, Jd (Ju (Jw (Ja2 (l := [.cell 2 34]) V24 (res_cellA R f24 I34 Z34 R R) R ?_)))⟩)))
 cases h
 exact ⟨K16, none, 0, none, 0, R, (hE.stp (S3.tr (S7.tr (S17.tr S23))) R R), Ow.nil, Ow.nil⟩
theorem i_ResolvedBy_ok {w : World} {κ : Col} {af ad ac ai aj ak} {p0 : Parity} {ao al am an} {p1 : Answer} {p2 : Edit} (g0_0_0 : Rd (Rp.int .i64) κ w 0 af ad p0.Arena.Owner) (g0_0_1 : Rd (Rp.sl (Rp.int .i64)) κ w 0 ac ai p0.Arena.Next) (g0_1 : Rd (Rp.int .i64) κ w 0 aj ak p0.Prio) (g1_0 : Rd (Rp.int .i64) κ w 0 ao al p1.Won) (g1_1 : Rd (Rp.int .i64) κ w 0 am an p1.Plan) {r : Answer × Bool} (h : i_ResolvedBy p0 p1 p2 = some r) : Ret Tryz.prog 12 [.agg #[.slice af p0.Arena.Owner.length ad, .slice ac p0.Arena.Next.length ai, .slice aj p0.Prio.length ak], .agg #[.slice ao p1.Won.length al, .slice am p1.Plan.length an], .agg #[vi p2.Kind, vi p2.V, vi p2.N]] w (fun v w' => ∃ (κ' : Col) (ra0 : Option Addr) (ru0 : Nat) (ra1 : Option Addr) (ru1 : Nat), v = .tuple #[.agg #[.slice ra0 r.1.Won.length ru0, .slice ra1 r.1.Plan.length ru1], .bool r.2] ∧ Ent κ w κ' w' ∧ Oc E6 2 κ' w' 2 ra0 ru0 r.1.Won ∧ Oc E6 2 κ' w' 3 ra1 ru1 r.1.Plan) := by
 unfold i_ResolvedBy at h
 refine Ret.enter F12 R N12 R ?_
 dsimp only [envOf]
 have hE := Ent.refl κ w
 refine Je [1, 1, 1, 1, 2] R (Jf1 (κ := κ) 2 R R R R R R R fun b3 w1 K2 S3 f4 => ⟨tv, Jf1 (κ := K2) 3 R R R R R R R fun b4 w5 K6 S7 f8 => ⟨tv, Jf1 (κ := K6) 4 R R R R R R R fun b5 w9 K10 S11 f12 => ⟨tv, Jg1 (κ := K10) 5 R R R R R X34 R fun b6 w13 K14 S15 f16 => ⟨tv, Jb 1 R (Jq (Je [1, 1, 1, 2, 2, 1, 1, 1, 2, 2] R ?_))⟩⟩⟩⟩)
 have f17 := f4.stp (S7.tr (S11.tr S15)) R R
 refine Jl tv R R R R (Jd2 (cs := [.slice af p0.Arena.Owner.length ad, .slice ac p0.Arena.Next.length ai, .slice aj p0.Prio.length ak]) I39 Z39 R R R (haE f17.cells)) ?_
 have f18 := f8.stp (S11.tr S15) R R
 refine Jl tv R R R R (Jd2 (cs := [.slice ao p1.Won.length al, .slice am p1.Plan.length an]) I34 Z34 R R R (haE f18.cells)) (Ob h fun x13 hx13 h => ?_)
 have f19 := g0_0_0.stp (S3.tr (S7.tr (S11.tr S15))) R R
 have f20 := g0_0_1.stp (S3.tr (S7.tr (S11.tr S15))) R R
 have f21 := g0_1.stp (S3.tr (S7.tr (S11.tr S15))) R R
 have f22 := g1_0.stp (S3.tr (S7.tr (S11.tr S15))) R R
 have f23 := g1_1.stp (S3.tr (S7.tr (S11.tr S15))) R R
 refine Jh R R R C41 (i_AnswerOk_ok (κ := fun b => mp [] 0 (K14 b)) (p0 := p0) (p1 := p1) (Jl2 f19 (mp [] 0) R R) (Jl2 f20 (mp [] 0) R R) (Jl2 f21 (mp [] 0) R R) (Jl2 f22 (mp [] 0) R R) (Jl2 f23 (mp [] 0) R R) hx13) ?_
 rintro _ w24 ⟨k25, rfl, e26⟩
 obtain ⟨K27, S28, m29⟩ := Ji e26 6 R
 refine ⟨tv, Jn 2 R (Ob h fun p20 h hK31 => Ju1 [(5, 1), (6, 1), (7, 1), (8, 2), (9, 2)] [] (fun L w' => L = [(3, .pointer (some ⟨b3, 0, none⟩)), (4, .pointer (some ⟨b4, 0, none⟩)), (5, .pointer (some ⟨b5, 0, none⟩)), (6, .pointer (some ⟨b6, 0, none⟩)), (20, .bool p20)] ∧ ∃ κ', Stp [] K27 w24 κ' w') tv ?_ ?_)⟩
 revert h
 cases ht32 : (!x13)
 refine JF fun h => Jl tv R R R R (Jd2 (cs := [.slice af p0.Arena.Owner.length ad, .slice ac p0.Arena.Next.length ai, .slice aj p0.Prio.length ak]) I39 Z39 R R R (haE (f17.stp S28 R R).cells)) (Jl tv R R R R (Jd2 (cs := [vi p2.Kind, vi p2.V, vi p2.N]) I42 Z42 R R R (haE (f12.stp (S15.tr S28) R R).cells)) (Ob h fun x18 hx18 h => Jh R R R C42 (i_isEdit_ok (κ := fun b => mp [] 0 (K27 b)) (p0 := p0) (p1 := p2) (Jl2 (f19.stp S28 R R) (mp [] 0) R R) (Jl2 (f20.stp S28 R R) (mp [] 0) R R) (Jl2 (f21.stp S28 R R) (mp [] 0) R R) hx18) ?_))
 rintro _ w38 ⟨k39, rfl, e40⟩
 obtain ⟨K41, S42, m43⟩ := Ji e40 8 R
 refine ⟨tv, Jn 2 R ?_⟩
 cases h
 exact Jv1 _ tv ⟨R, _, S42.wk R⟩ (KM R)
 refine JT fun h => Jd1 R R R R (Jd1 R R R R (Jd1 R R R R (Jn 2 R ?_)))
 cases h
 exact Jv1 _ tv ⟨R, _, (Jx2 _ _).wk R⟩ (KM R)
 rintro _ w45 _ ⟨rfl, K46, S47⟩
 have h := hK31
 refine Jd ?_
 revert h
 cases ht48 : p20
 refine JF fun h => Jy R (Js (Jp (Je [1, 1, 1, 1, 1, 1] R ?_)))
 have f54 := f17.stp (S28.tr S47) R R
 refine Jl tv R R R R (Jd2 (cs := [.slice af p0.Arena.Owner.length ad, .slice ac p0.Arena.Next.length ai, .slice aj p0.Prio.length ak]) I39 Z39 R R R (haE f54.cells)) ?_
 have f55 := f12.stp (S15.tr (S28.tr S47)) R R
 refine Jl tv R R R R (Jd2 (cs := [vi p2.Kind, vi p2.V, vi p2.N]) I42 Z42 R R R (haE f55.cells)) (Ob h fun x24 hx24 h => ?_)
 have f56 := f19.stp (S28.tr S47) R R
 have f57 := f20.stp (S28.tr S47) R R
 refine Jh R R R C44 (i_edited_ok (κ := fun b => mp [] 0 (K46 b)) (p0 := p0) (p1 := p2) (Jl2 f56 (mp [] 0) R R) (Jl2 f57 (mp [] 0) R R) (Jl2 (f21.stp (S28.tr S47) R R) (mp [] 0) R R) hx24) ?_
 rintro _ w59 ⟨k60, az, aC, aB, aA, ar, av, rfl, e61, f62, f63, f64⟩
 obtain ⟨K65, S66, m67⟩ := Ji e61 8 R
 refine ⟨tv, Ob h fun x25 hx25 h => Jh R R R C43 (i_Solved_ok (κ := fun b => mp [] 0 (K65 b)) (p0 := x24) (Jl2 (f62.mx (no_int _) m67 R (R : 8 + 2 = 10)).rdc (mp [] 0) R R) (Jl2 (f63.mx (no_own (no_int _) _) m67 R (R : 8 + 3 = 11)).rdc (mp [] 0) R R) (Jl2 (f64.mx (no_int _) m67 R (R : 8 + 4 = 12)).rdc (mp [] 0) R R) hx25) ?_⟩
 rintro _ w72 ⟨k73, aa, ah, ab, ae, rfl, e74, f75, f76⟩
 obtain ⟨K77, S78, m79⟩ := Ji e74 13 R
 refine ⟨tv, Jg1 (κ := K77) 17 R R R R R X34 R fun b8 w83 K84 S85 f86 => ⟨tv, Jj1 (κ := K84) 17 (vc := [.slice aa x25.Won.length ah, .slice ab x25.Plan.length ae]) R R R R R R R Z34 R R f86 R fun w87 S88 f89 => ⟨tv, Jd (Jq (Jq (Js1 (κ := K84) [2, 4] none [(0, 2), (2, 2), (4, 2), (10, 2), (1, 0), (3, 0), (5, 0), (6, 1), (7, 1), (8, 1), (9, 2)] [] (by kernel_rfl) (by kernel_rfl) fun w91 S90 => Jf R (Jb2 U39 R Z37 R R) (Jf R (Jb2 U39 R Z37 R R) (Jf R (Jb2 U42 R Z2 R R) (Jn 1 R ?_))))))⟩⟩⟩
 have f92 := f54.stp (S66.tr (S78.tr (S85.tr (S88.tr S90)))) R R
 refine Jg R (Jd2 (cs := [.slice af p0.Arena.Owner.length ad, .slice ac p0.Arena.Next.length ai]) I37 Z37 R R R (haC (f92.lds 0 2 R) R)) (Jg R (Jd2 (cs := [.slice af p0.Arena.Owner.length ad, .slice ac p0.Arena.Next.length ai]) I37 Z37 R R R (haC (f92.lds 0 2 R) R)) (Jg R (Jc2 I2 R R (hvC ((f55.stp (S66.tr (S78.tr (S85.tr (S88.tr S90)))) R R).ld 1 R R) R)) (Jn1 (κ := K84) (E := E6) 18 [] (parts := [(0, .tmp 31)]) (cells := [vi p2.V]) (xs := ([p2.V] : List Int)) R R R R R R Y22 Tryzinfo2 R R R R R R R R R R ⟨[vi p2.V], [], Zl K84 w91 [], Zl K84 w91 [], R, Zl.sp (l1 := []) (l2 := []) R, Zl.sr (l1 := []) (l2 := []), R, R⟩ fun aw ay w94 K95 S96 f97 => ⟨(S96.cl R), Ob h fun x33 hx33 h => ?_⟩)))
 have f98 := f56.stp (S66.tr (S78.tr (S85.tr (S88.tr (S90.tr S96))))) R R
 have f99 := f57.stp (S66.tr (S78.tr (S85.tr (S88.tr (S90.tr S96))))) R R
 refine Jh R R R C46 (i_markOf_ok (κ := fun b => mp [] 0 (K95 b)) (p0 := p0.Arena) (Jl2 f98 (mp [] 0) R R) (Jl2 f99 (mp [] 0) R R) (Jl2 f97.rdc (mp [] 0) R R) hx33) ?_
 rintro _ w100 ⟨k101, ax, au, rfl, e102, f103⟩
 obtain ⟨K104, S105, m106⟩ := Ji e102 19 R
 refine ⟨((S96.tr S105).cl R), Ob h fun x34 hx34 h => Jh R R R C45 (i_leadTo_ok (κ := fun b => mp [] 0 (K104 b)) (p0 := p0.Arena) (Jl2 (f98.stp S105 R R) (mp [] 0) R R) (Jl2 (f99.stp S105 R R) (mp [] 0) R R) (Jl2 (f103.mx no_bool m106 R (R : 19 + 2 = 21)).rdc (mp [] 0) R R) hx34) ?_⟩
 rintro _ w111 ⟨k112, aq, ap, rfl, e113, f114⟩
 obtain ⟨K115, S116, m117⟩ := Ji e113 22 R
 refine ⟨((S96.tr (S105.tr S116)).cl R), ?_⟩
 have f119 := f114.mx no_bool m117 R (R : 22 + 2 = 24)
 refine Jf R (Je2 U70 R R) (Jt1 (Jd ?_))
 have hN120 : (x34.length : Int) ≤ 9223372036854775807 := f119.len_le
 refine Ob h fun q2 hq122 hK121 => ?_
 clear h
 refine Jx1 (fun L w' => ∃ κ', ∃ s3 : (List Int) × (List Int), L = [(6, .pointer (some ⟨b6, 0, none⟩)), (8, .pointer (some ⟨b8, 0, none⟩))] ∧ Stp [15, 16] K115 w111 κ' w' ∧ Oc E6 2 κ' w' 15 aa ah s3.1 ∧ x25.Won.length = s3.1.length ∧ Oc E6 2 κ' w' 16 ab ae s3.2 ∧ x25.Plan.length = s3.2.length ∧ q2 = Sum.inr s3) ?_ ?_
 have S001 := (S85.tr (S88.tr (S90.tr (S96.tr (S105.tr S116)))))
 refine Jv (Jy1 (fun k L w' => ∃ κ' v36, ∃ s1 : (List Int) × (List Int), L = [(4, .pointer (some ⟨b4, 0, none⟩)), (6, .pointer (some ⟨b6, 0, none⟩)), (8, .pointer (some ⟨b8, 0, none⟩)), (34, .slice aq x34.length ap), (35, vi (x34.length : Int)), (36, vi v36)] ∧ Stp [15, 16] K115 w111 κ' w' ∧ Oc E6 2 κ' w' 15 aa ah s1.1 ∧ x25.Won.length = s1.1.length ∧ Oc E6 2 κ' w' 16 ab ae s1.2 ∧ x25.Plan.length = s1.2.length ∧ 0 ≤ v36 ∧ Int.toNat ((x34.length : Int) - v36) = k ∧ cntM (i_ResolvedBy_b0 p1 x34) k v36 s1 = some q2) ⟨_, _, ⟨K115, 0, ((x25.Won : (List Int)), (x25.Plan : (List Int))), R, (Jx2 _ _).wk R, ((f75.mx (no_int _) m79 R (R : 13 + 2 = 15)).stp S001 R R), R, ((f76.mx (no_int _) m79 R (R : 13 + 3 = 16)).stp S001 R R), R, (by decide), (by simp), hq122⟩, (KM R)⟩ ?_)
 rintro k _ w130 ⟨K131, v36, s1, rfl, S132, f133, hn134, f135, hn136, hj120, hJ120, h⟩
 rcases k with _ | k
 have hk139 := h; obtain ⟨o120, h⟩ := ex_eq (Sum.inr (Sum.inl s1) : (Answer × Bool) ⊕ (((List Int) × (List Int)) ⊕ ((List Int) × (List Int))))
 have hc120 : decide (v36 < (x34.length : Int)) = false := Jo2 (by omega)
 refine Je [2] R (Jb 1 R (Jq (Jw2 R hc120 (Jc1 (Jt (Jt ?_))))))
 cases h
 have h := hk139
 refine Jb1 ?_
 cases h
 exact Jw1 _ ⟨K131, ((s1.1 : (List Int)), (s1.2 : (List Int))), R, S132.wk R, f133, hn134, f135, hn136, R⟩ (KM R)
 obtain ⟨o120, h, hk139⟩ := BI h; unfold i_ResolvedBy_b0 at h
 have hc120 : decide (v36 < (x34.length : Int)) = true := Jn2 (by omega)
 refine Je [2] R (Jb 1 R (Jq (Jv2 R hc120 (Js (Jp (Jq (Jv (Je [2, 2, 1, 2, 2] R (Jn 1 R (Ob h fun x39 hx39 h => Jf R (Jf2 f119.rdc hx39 U70 Z4 R R R R) (Jl tv R R R R (Jc2 I4 R R (hvE ((f119.stp S132 R R).rdc.gBool hx39))) (Jb 2 R (Je [2, 2] R (Jb 2 R (Ob h fun q4 h hK141 => Jx1 (fun L w' => ∃ κ', L = [(4, .pointer (some ⟨b4, 0, none⟩)), (6, .pointer (some ⟨b6, 0, none⟩)), (8, .pointer (some ⟨b8, 0, none⟩)), (34, .slice aq x34.length ap), (35, vi (x34.length : Int)), (36, vi v36)] ∧ Stp [15, 16] K131 w130 κ' w' ∧ Oc E6 2 κ' w' 15 aa ah q4.1 ∧ x25.Won.length = q4.1.length ∧ Oc E6 2 κ' w' 16 ab ae q4.2 ∧ x25.Plan.length = q4.2.length) ?_ ?_)))))))))))))))
 revert h
 cases ht149 : (!x39)
 refine JF fun h => Jy R (Js ?_)
 cases h
 exact Jw1 _ ⟨K131, R, (Jx2 _ _).wk R, f133, hn134, f135, hn136⟩ (KM R)
 refine JT fun h => Jx R (Jq (Js1 (κ := K131) [0, 3, 17] none [(0, 2), (2, 2), (3, 2), (5, 2), (1, 0), (4, 0), (6, 2), (7, 0), (8, 2), (9, 1)] [] (by kernel_rfl) (by kernel_rfl) fun w151 S150 => Jf R (Jb2 U34 R Z22 R R) (Jn 1 R (Jf R (Jb2 U34 R Z22 R R) (Jn 1 R ?_)))))
 have f152 := f89.stp (S90.tr (S96.tr (S105.tr (S116.tr (S132.tr S150))))) R R
 refine Jg R (Jc2 I22 R R (hvC (f152.ld 0 R R) R)) ?_
 have f153 := f18.stp (S28.tr (S47.tr (S66.tr (S78.tr (S85.tr (S88.tr (S90.tr (S96.tr (S105.tr (S116.tr (S132.tr S150))))))))))) R R
 refine Jg R (Jc2 I22 R R (hvC (f153.ld 0 R R) R)) (Ob h fun x49 hx49 h => Jf R (Jf2 f22 hx49 U22 Z2 R R R R) (Jg R (Jc2 I2 R R (hvC ((f22.stp (S28.tr (S47.tr (S66.tr (S78.tr (S85.tr (S88.tr (S90.tr (S96.tr (S105.tr (S116.tr (S132.tr S150))))))))))) R R).gInt hx49) R)) (Ob h fun x51 hx51 h => Jf R (Jf2 f133.rdc hx51 U22 Z2 R R hn134 R) (Ob h fun y331 hy331 h => Jk1 (κ := K131) (E := E6) 15 [] R R R R R R R R Z2 R R R R (f133.stp S150 R R) hy331 fun w156 K157 S158 f159 => ⟨(S158.cl R), ?_⟩))))
 have hn160 : x25.Won.length = y331.length := hn134.trans (Jt2 hy331).2.2.2.symm
 refine Jt1 (Jd (Js1 (κ := K157) [0, 3, 17] none [(0, 2), (2, 2), (3, 2), (5, 2), (1, 0), (4, 0), (6, 2), (7, 0), (8, 2), (9, 1)] [] (by kernel_rfl) (by kernel_rfl) fun w162 S161 => Jf R (Jb2 U34 R Z22 R R) (Jn 1 R (Jf R (Jb2 U34 R Z22 R R) (Jn 1 R (Jg R (Jc2 I22 R R (hvC ((f152.stp (S158.tr S161) R R).ld 1 R R) R)) (Jg R (Jc2 I22 R R (hvC ((f153.stp (S158.tr S161) R R).ld 1 R R) R)) (Ob h fun x58 hx58 h => Jf R (Jf2 f23 hx58 U22 Z2 R R R R) (Jg R (Jc2 I2 R R (hvC ((f23.stp (S28.tr (S47.tr (S66.tr (S78.tr (S85.tr (S88.tr (S90.tr (S96.tr (S105.tr (S116.tr (S132.tr (S150.tr (S158.tr S161))))))))))))) R R).gInt hx58) R)) (Ob h fun x60 hx60 h => Jf R (Jf2 f135.rdc hx60 U22 Z2 R R hn136 R) (Ob h fun y332 hy332 h => Jk1 (κ := K157) (E := E6) 16 [] R R R R R R R R Z2 R R R R (f135.stp (S150.tr (S158.tr S161)) R R) hy332 fun w167 K168 S169 f170 => ⟨(S169.cl R), ?_⟩)))))))))))
 have hn171 : x25.Plan.length = y332.length := hn136.trans (Jt2 hy332).2.2.2.symm
 refine Jt1 (Jo ?_)
 cases h
 exact Jw1 _ ⟨K168, R, (S150.tr (S158.tr (S161.tr S169))).wk R, (f159.stp (S161.tr S169) R R), hn160, f170, hn171⟩ (KM R)
 rintro _ w142 ⟨K143, rfl, S144, f145, hn146, f147, hn148⟩
 have h := hK141
 refine Jz (Jp (Ja [2, 2] R (Jc 2 R ?_)))
 have hw120 : IntKind.wrap .i64 (v36 + 1) = v36 + 1 := wr1 hj120 (Jm2 hc120) hN120
 rw [hw120]
 have hc120 := Jm2 hc120
 cases h
 exact Jz1 fun a ha => ⟨k, _, Ja3 _, ⟨K143, v36 + 1, ((q4.1 : (List Int)), (q4.2 : (List Int))), R, (S132.tr S144).wk R, f145, hn146, f147, hn148, by omega, by omega, hk139⟩, (ha.mm R)⟩
 rintro _ w123 ⟨K124, s3, rfl, S125, f126, hn127, f128, hn129, rfl⟩
 have h := hK121
 dsimp only [aft] at h
 refine Jp (Je [1, 1, 2] R (Jl tv R R R R (Jd2 (cs := [.slice aa x25.Won.length ah, .slice ab x25.Plan.length ae]) I34 Z34 R R R (haE (f89.stp (S90.tr (S96.tr (S105.tr (S116.tr S125)))) R R).cells)) (Jj1 (κ := K124) 5 (vc := [.slice aa x25.Won.length ah, .slice ab x25.Plan.length ae]) R R R R R R R Z34 R R (f16.stp (S28.tr (S47.tr (S66.tr (S78.tr (S85.tr (S88.tr (S90.tr (S96.tr (S105.tr (S116.tr S125)))))))))) R R) R fun w175 S176 f177 => ⟨tv, Jb 1 R (Ju (Ja2 (l := [.cell 6 34, .tmp 7]) V12 (res_cellA R f177 I34 Z34 R (Jp2 R R)) R ?_))⟩)))
 cases h
 exact ⟨(fun b => ren [(15, 2), (16, 3)] (K124 b)), aa, ah, ab, ae, (by simp only [hn127, hn129]), ((hE.stp (S3.tr (S7.tr (S11.tr (S15.tr (S28.tr (S47.tr (S66.tr (S78.tr (S85.tr (S88.tr (S90.tr (S96.tr (S105.tr (S116.tr (S125.tr S176))))))))))))))) R R).map (ren [(15, 2), (16, 3)]) R R), ((f126.stp S176 R R).map (ren [(15, 2), (16, 3)]) R R), ((f128.stp S176 R R).map (ren [(15, 2), (16, 3)]) R R)⟩
 refine JT fun h => Jx R (Je [2, 1, 2] R (Jf R (rn_build (parts := []) (cells := [.slice none 0 0, .slice none 0 0]) R R (by kernel_rfl)) (Jj1 (κ := K46) 5 (vc := [.slice none 0 0, .slice none 0 0]) R R R R R R R Z34 R R (f16.stp (S28.tr S47) R R) R fun w50 S51 f52 => ⟨tv, Jb 1 R (Ju (Jw (Ja2 (l := [.cell 6 34, .tmp 7]) V12 (res_cellA R f52 I34 Z34 R (Jp2 R R)) R ?_)))⟩)))
 cases h
 exact ⟨K46, none, 0, none, 0, R, (hE.stp (S3.tr (S7.tr (S11.tr (S15.tr (S28.tr (S47.tr S51)))))) R R), Ow.nil, Ow.nil⟩
end Go.Proofs.YtmiilifclnanlaaGreat
