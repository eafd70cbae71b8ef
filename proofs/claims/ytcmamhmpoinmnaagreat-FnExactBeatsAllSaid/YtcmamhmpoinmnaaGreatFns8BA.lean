/- The walks, part 8. By program. -/
import Derived.Test.YtcmamhmpoinmnaaGreatFns7BA
set_option linter.unusedVariables false
set_option linter.unusedSimpArgs false
namespace Go.Proofs.YtcmamhmpoinmnaaGreat
open Go Go.Wk Go.Proofs
set_option maxRecDepth 100000
set_option maxHeartbeats 1000000
theorem s_DetOk_ok {w : World} {κ : Col} {p0 : Sig} {ad ac aa ab} {p1 : Det} (g1_0 : Rd (Rp.sl (Rp.int .i64)) κ w 0 ad ac p1.Next) (g1_1 : Rd Pair.rp κ w 0 aa ab p1.Pairs) {r : Bool} (h : s_DetOk p0 p1 = some r) : Ret Tryz.prog 135 [.agg #[vi p0.In, vi p0.Out], .agg #[.slice ad p1.Next.length ac, .slice aa p1.Pairs.length ab]] w (fun v w' => ∃ (κ' : Col), v = .bool r ∧ Ent κ w κ' w') := by
 unfold s_DetOk at h
 refine Ret.enter F135 R N135 R ?_
 dsimp only [envOf]
 have hE := Ent.refl κ w
 refine Je [1, 1, 2] R (Jf1 (κ := κ) 2 R R R R R R R fun b2 w1 K2 S3 f4 => ⟨tv, Jf1 (κ := K2) 3 R R R R R R R fun b3 w5 K6 S7 f8 => ⟨tv, Jb 1 R (Je [2, 1, 2, 2] R (Jf R (Jb2 U94 R Z24 R R) (Jl tv R R R R (Jc2 I24 R R (hvE (f8.ld 0 R R))) (Jf R (Je2 U24 R R) (Jb 1 R (Jq (Je [1, 1, 2, 2, 2, 1, 2, 2] R ?_)))))))⟩⟩)
 have f9 := f4.stp S7 R R
 refine Jl tv R R R R (Jd2 (cs := [vi p0.In, vi p0.Out]) I31 Z31 R R R (haE f9.cells)) (Ob h fun x11 hx11 h => Jh R R R C84 (s_SigOk_ok (κ := fun b => mp [] 0 (K6 b)) (p0 := p0) hx11) ?_)
 rintro _ w10 ⟨k11, rfl, e12⟩
 obtain ⟨K13, S14, m15⟩ := Ji e12 4 R
 refine ⟨tv, Jn 2 R (Ob h fun p17 h hK17 => Ju1 [(4, 2), (5, 1), (6, 2), (7, 2)] [] (fun L w' => L = [(2, .pointer (some ⟨b2, 0, none⟩)), (3, .pointer (some ⟨b3, 0, none⟩)), (5, vi (p1.Next.length : Int)), (17, .bool p17)] ∧ ∃ κ', Stp [] K13 w10 κ' w') tv ?_ ?_)⟩
 revert h
 cases ht18 : (!x11)
 refine JF fun h => Jn 1 R (Ob h fun x15 hx15 h => Jh R R R C77 (s_l1In_ok (κ := fun b => mp [] 0 (K13 b)) hx15) ?_)
 rintro _ w19 ⟨k20, rfl, e21⟩
 obtain ⟨K22, S23, m24⟩ := Ji e21 6 R
 refine ⟨tv, Jn 2 R ?_⟩
 cases h
 exact Jv1 _ tv ⟨R, _, S23.wk R⟩ (KM R)
 refine JT fun h => Jn 1 R (Jd1 R R R R (Jn 2 R ?_))
 cases h
 exact Jv1 _ tv ⟨R, _, (Jx2 _ _).wk R⟩ (KM R)
 rintro _ w26 _ ⟨rfl, K27, S28⟩
 have h := hK17
 refine Jd ?_
 revert h
 cases ht29 : p17
 refine JF fun h => Jy R (Js (Jp (Jq (Je [2] R (Jb 1 R ?_)))))
 have hN31 : (p1.Next.length : Int) ≤ 9223372036854775807 := g1_0.len_le
 refine Ob h fun q2 hq33 hK32 => ?_
 clear h
 refine Jx1 (fun L w' => ∃ κ', L = [(3, .pointer (some ⟨b3, 0, none⟩)), (5, vi (p1.Next.length : Int))] ∧ Stp [] K27 w26 κ' w' ∧ q2 = Sum.inr ()) ?_ ?_
 refine Jv (Jy1 (fun k L w' => ∃ κ' v6, L = [(2, .pointer (some ⟨b2, 0, none⟩)), (3, .pointer (some ⟨b3, 0, none⟩)), (5, vi (p1.Next.length : Int)), (6, vi v6)] ∧ Stp [] K27 w26 κ' w' ∧ 0 ≤ v6 ∧ Int.toNat ((p1.Next.length : Int) - v6) = k ∧ cntM (s_DetOk_b0 p0 p1) k v6 () = some q2) ⟨_, _, ⟨K27, 0, R, (Jx2 _ _).wk R, (by decide), (by simp), hq33⟩, (KM R)⟩ ?_)
 rintro k _ w37 ⟨K38, v6, rfl, S39, hj31, hJ31, h⟩
 rcases k with _ | k
 have hk40 := h; obtain ⟨o31, h⟩ := ex_eq (Sum.inr (Sum.inl ()) : Bool ⊕ ((Unit) ⊕ (Unit)))
 have hc31 : decide (v6 < (p1.Next.length : Int)) = false := Jo2 (by omega)
 refine Jq (Je [2, 2, 1, 2, 2] R (Jn 1 R (Jf R (Jb2 U94 R Z24 R R) (Jl tv R R R R (Jc2 I24 R R (hvE ((f8.stp (S14.tr (S28.tr S39)) R R).ld 0 R R))) (Jf R (Je2 U24 R R) (Jb 1 R (Jw2 R hc31 (Jc1 (Jt (Jt ?_))))))))))
 cases h
 have h := hk40
 refine Jb1 ?_
 cases h
 exact Jw1 _ ⟨K38, R, S39.wk R, R⟩ (KM R)
 obtain ⟨o31, h, hk40⟩ := BI h; unfold s_DetOk_b0 at h
 have hc31 : decide (v6 < (p1.Next.length : Int)) = true := Jn2 (by omega)
 refine Jq (Je [2, 2, 1, 2, 2] R (Jn 1 R (Jf R (Jb2 U94 R Z24 R R) ?_)))
 have f42 := f8.stp (S14.tr (S28.tr S39)) R R
 refine Jl tv R R R R (Jc2 I24 R R (hvE (f42.ld 0 R R))) (Jf R (Je2 U24 R R) (Jb 1 R (Jv2 R hc31 (Js (Jp (Jq (Jv (Jq (Js1 (κ := K38) [0, 2, 3] none [(0, 2), (2, 2), (1, 0), (3, 2), (4, 0), (5, 2), (6, 0), (7, 1), (8, 2), (9, 2), (10, 2), (12, 2), (15, 2), (11, 0), (13, 2), (14, 0), (16, 1), (17, 2), (18, 2)] [] (by kernel_rfl) (by kernel_rfl) fun w44 S43 => Jf R (Jb2 U94 R Z24 R R) (Jn 1 R ?_))))))))))
 have f45 := f42.stp S43 R R
 refine Jg R (Jc2 I24 R R (hvC (f45.ld 0 R R) R)) (Ob h fun x28 hx28 h => Jf R (Jf2 g1_0 hx28 U24 Z40 R R R R) ?_)
 have f46 := g1_0.stp (S3.tr (S7.tr (S14.tr (S28.tr (S39.tr S43))))) R R
 obtain ⟨ax28, ux28, f47, hl48⟩ := f46.gSl hx28
 refine Jg R (Jc2 I40 R R (hvC hl48 R)) (Jf R (Je2 U40 R R) (Jg R (Jd2 (cs := [vi p0.In, vi p0.Out]) I31 Z31 R R R (haC (f9.stp (S14.tr (S28.tr (S39.tr S43))) R R).cells R)) (Ob h fun x32 hx32 h => Jh R R R C86 (s_LettersOf_ok (κ := fun b => mp [] 0 (K38 b)) (p0 := p0) hx32) ?_)))
 rintro _ w50 ⟨k51, rfl, e52⟩
 obtain ⟨K53, S54, m55⟩ := Ji e52 6 R
 refine ⟨(S54.cl R), Jn 2 R (Ob h fun p43 h hK57 => Ju1 [(10, 2), (12, 2), (15, 2), (11, 0), (13, 2), (14, 0), (16, 1), (17, 2), (18, 2)] [] (fun L w' => L = [(2, .pointer (some ⟨b2, 0, none⟩)), (3, .pointer (some ⟨b3, 0, none⟩)), (5, vi (p1.Next.length : Int)), (6, vi v6), (43, .bool p43)] ∧ ∃ κ', Stp [] K53 w50 κ' w') (S54.cl R) ?_ ?_)⟩
 revert h
 cases ht58 : ((x28.length : Int) != x32)
 refine JF fun h => Jf R (Jb2 U94 R Z24 R R) (Jn 2 R (Jg R (Jc2 I24 R R (hvC (f45.ld 0 R R) R)) (Ob h fun x38 hx38 h => Jf R (Jf2 f46 hx38 U24 Z40 R R R R) ?_)))
 obtain ⟨ax38, ux38, f59, hl60⟩ := f46.gSl hx38
 refine Jg R (Jc2 I40 R R (hvC hl60 R)) (Ob h fun x41 hx41 h => Jh R R R C112 (s_l23Below_ok (κ := fun b => mp [] 0 (K53 b)) (Jl2 (f59.stp S54 R R) (mp [] 0) R R) hx41) ?_)
 rintro _ w62 ⟨k63, rfl, e64⟩
 obtain ⟨K65, S66, m67⟩ := Ji e64 8 R
 refine ⟨((S54.tr S66).cl R), Jn 2 R ?_⟩
 cases h
 exact Jv1 _ ((S54.tr S66).cl R) ⟨R, _, S66.wk R⟩ (KM R)
 refine JT fun h => Jn 3 R (Je1 R R R R (Jn 1 R (Je1 R R R R (Jd1 R R R R (Jn 2 R ?_)))))
 cases h
 exact Jv1 _ (S54.cl R) ⟨R, _, (Jx2 _ _).wk R⟩ (KM R)
 rintro _ w69 _ ⟨rfl, K70, S71⟩
 have h := hK57
 refine Jt1 (Jd ?_)
 revert h
 cases ht72 : p43
 refine JF fun h => Jy R (Js (Jz (Jp (Ja [2, 2, 2] R (Jc 3 R ?_)))))
 have hw31 : IntKind.wrap .i64 (v6 + 1) = v6 + 1 := wr1 hj31 (Jm2 hc31) hN31
 rw [hw31]
 have hc31 := Jm2 hc31
 cases h
 exact Jz1 fun a ha => ⟨k, _, Ja3 _, ⟨K70, v6 + 1, R, (S39.tr (S43.tr (S54.tr S71))).wk R, by omega, by omega, hk40⟩, (ha.mm R)⟩
 refine JT fun h => Jx R (Je [2] R (Jb 1 R (Ju (Ja1 (Jw (Jw ?_))))))
 cases h
 obtain rfl := Option.some.inj hk40
 have h := hK32
 dsimp only [aft] at h
 refine Ja1 (Jq2 (Jw (Ja2 (l := [.tmp 4]) V135 (Jp2 R R) R ?_)))
 cases h
 exact ⟨K70, R, (hE.stp (S3.tr (S7.tr (S14.tr (S28.tr (S39.tr (S43.tr (S54.tr S71))))))) R R)⟩
 rintro _ w34 ⟨K35, rfl, S36, rfl⟩
 have h := hK32
 dsimp only [aft] at h
 refine Jp (Je [2, 1, 2, 1, 2] R (Jf R (Jb2 U94 R Z79 R R) (Jl tv R R R R (Jc2 I79 R R (hvE ((f8.stp (S14.tr (S28.tr S36)) R R).ld 1 R R))) (Jn 1 R (Ob h fun x47 hx47 h => Jh R R R C163 (s_PairsOk_ok (κ := fun b => mp [] 0 (K35 b)) (Jl2 (g1_1.stp (S3.tr (S7.tr (S14.tr (S28.tr S36)))) R R) (mp [] 0) R R) hx47) ?_)))))
 rintro _ w76 ⟨k77, rfl, e78⟩
 obtain ⟨K79, S80, m81⟩ := Ji e78 6 R
 refine ⟨tv, Jb 1 R (Ju (Ja2 (l := [.tmp 4]) V135 (Jp2 R R) R ?_))⟩
 cases h
 exact ⟨K79, R, (hE.stp (S3.tr (S7.tr (S14.tr (S28.tr (S36.tr S80))))) R R)⟩
 refine JT fun h => Jx R (Je [2] R (Jb 1 R (Ju (Jw (Ja2 (l := [.tmp 4]) V135 (Jp2 R R) R ?_)))))
 cases h
 exact ⟨K27, R, (hE.stp (S3.tr (S7.tr (S14.tr S28))) R R)⟩
theorem s_JoinedDet_ok {w : World} {κ : Col} {p0 : Sig} {ac ab ad ah} {p1 : Det} {aa ai af ae} {p2 : Det} (g1_0 : Rd (Rp.sl (Rp.int .i64)) κ w 0 ac ab p1.Next) (g1_1 : Rd Pair.rp κ w 0 ad ah p1.Pairs) (g2_0 : Rd (Rp.sl (Rp.int .i64)) κ w 0 aa ai p2.Next) (g2_1 : Rd Pair.rp κ w 0 af ae p2.Pairs) {r : Det × Bool} (h : s_JoinedDet p0 p1 p2 = some r) : Ret Tryz.prog 110 [.agg #[vi p0.In, vi p0.Out], .agg #[.slice ac p1.Next.length ab, .slice ad p1.Pairs.length ah], .agg #[.slice aa p2.Next.length ai, .slice af p2.Pairs.length ae]] w (fun v w' => ∃ (κ' : Col) (ra0 : Option Addr) (ru0 : Nat) (ra1 : Option Addr) (ru1 : Nat), v = .tuple #[.agg #[.slice ra0 r.1.Next.length ru0, .slice ra1 r.1.Pairs.length ru1], .bool r.2] ∧ Ent κ w κ' w' ∧ Oc (Ep.own E6 2) 40 κ' w' 2 ra0 ru0 r.1.Next ∧ Oc Pair.ep92 92 κ' w' 3 ra1 ru1 r.1.Pairs) := by
 unfold s_JoinedDet at h
 refine Ret.enter F110 R N110 R ?_
 dsimp only [envOf]
 have hE := Ent.refl κ w
 refine Je [1, 1, 1, 1, 2] R (Jf1 (κ := κ) 2 R R R R R R R fun b3 w1 K2 S3 f4 => ⟨tv, Jf1 (κ := K2) 3 R R R R R R R fun b4 w5 K6 S7 f8 => ⟨tv, Jf1 (κ := K6) 4 R R R R R R R fun b5 w9 K10 S11 f12 => ⟨tv, Jg1 (κ := K10) 5 R R R R R X94 R fun b6 w13 K14 S15 f16 => ⟨tv, Jb 1 R (Jq (Je [1, 1, 1, 2, 2, 1, 1, 1, 2, 2, 2, 2, 1, 2, 2, 1, 2, 2, 2, 2] R ?_))⟩⟩⟩⟩)
 have f17 := f4.stp (S7.tr (S11.tr S15)) R R
 refine Jl tv R R R R (Jd2 (cs := [vi p0.In, vi p0.Out]) I31 Z31 R R R (haE f17.cells)) ?_
 have f18 := f8.stp (S11.tr S15) R R
 refine Jl tv R R R R (Jd2 (cs := [.slice ac p1.Next.length ab, .slice ad p1.Pairs.length ah]) I94 Z94 R R R (haE f18.cells)) (Ob h fun x10 hx10 h => ?_)
 have f19 := g1_0.stp (S3.tr (S7.tr (S11.tr S15))) R R
 have f20 := g1_1.stp (S3.tr (S7.tr (S11.tr S15))) R R
 refine Jh R R R C135 (s_DetOk_ok (κ := fun b => mp [] 0 (K14 b)) (p0 := p0) (p1 := p1) (Jl2 f19 (mp [] 0) R R) (Jl2 f20 (mp [] 0) R R) hx10) ?_
 rintro _ w21 ⟨k22, rfl, e23⟩
 obtain ⟨K24, S25, m26⟩ := Ji e23 6 R
 refine ⟨tv, Jn 2 R (Ob h fun p17 h hK28 => Ju1 [(5, 1), (6, 1), (7, 1), (8, 2), (9, 2)] [(10, 2), (11, 2), (12, 1), (13, 2), (14, 2), (15, 1), (16, 2), (17, 2), (18, 2), (19, 2)] (fun L w' => L = [(3, .pointer (some ⟨b3, 0, none⟩)), (4, .pointer (some ⟨b4, 0, none⟩)), (5, .pointer (some ⟨b5, 0, none⟩)), (6, .pointer (some ⟨b6, 0, none⟩)), (17, .bool p17)] ∧ ∃ κ', Stp [] K24 w21 κ' w') tv ?_ ?_)⟩
 revert h
 cases ht29 : (!x10)
 have S001 := (S3.tr (S7.tr (S11.tr (S15.tr S25))))
 refine JF fun h => Jl tv R R R R (Jd2 (cs := [vi p0.In, vi p0.Out]) I31 Z31 R R R (haE (f17.stp S25 R R).cells)) (Jl tv R R R R (Jd2 (cs := [.slice aa p2.Next.length ai, .slice af p2.Pairs.length ae]) I94 Z94 R R R (haE (f12.stp (S15.tr S25) R R).cells)) (Ob h fun x15 hx15 h => Jh R R R C135 (s_DetOk_ok (κ := fun b => mp [] 0 (K24 b)) (p0 := p0) (p1 := p2) (Jl2 (g2_0.stp S001 R R) (mp [] 0) R R) (Jl2 (g2_1.stp S001 R R) (mp [] 0) R R) hx15) ?_))
 rintro _ w34 ⟨k35, rfl, e36⟩
 obtain ⟨K37, S38, m39⟩ := Ji e36 8 R
 refine ⟨tv, Jn 2 R ?_⟩
 cases h
 exact Jv1 _ tv ⟨R, _, S38.wk R⟩ (KM R)
 refine JT fun h => Jd1 R R R R (Jd1 R R R R (Jd1 R R R R (Jn 2 R ?_)))
 cases h
 exact Jv1 _ tv ⟨R, _, (Jx2 _ _).wk R⟩ (KM R)
 rintro _ w41 _ ⟨rfl, K42, S43⟩
 have h := hK28
 refine Jn 1 R (Ob h fun p27 h hK44 => Ju1 [(11, 2), (12, 1), (13, 2), (14, 2), (15, 1), (16, 2), (17, 2), (18, 2), (19, 2)] [] (fun L w' => L = [(3, .pointer (some ⟨b3, 0, none⟩)), (4, .pointer (some ⟨b4, 0, none⟩)), (5, .pointer (some ⟨b5, 0, none⟩)), (6, .pointer (some ⟨b6, 0, none⟩)), (27, .bool p27)] ∧ ∃ κ', Stp [] K42 w41 κ' w') tv ?_ ?_)
 revert h
 cases ht45 : p17
 refine JF fun h => Jf R (Jb2 U94 R Z79 R R) (Jl tv R R R R (Jc2 I79 R R (hvE ((f18.stp (S25.tr S43) R R).ld 1 R R))) (Jf R (Je2 U79 R R) (Jf R (Jb2 U94 R Z79 R R) (Jl tv R R R R (Jc2 I79 R R (hvE ((f12.stp (S15.tr (S25.tr S43)) R R).ld 1 R R))) (Jf R (Je2 U79 R R) (Jn 3 R ?_))))))
 cases h
 exact Jv1 _ tv ⟨R, _, (Jx2 _ _).wk R⟩ (KM R)
 refine JT fun h => Jn 1 R (Jd1 R R R R (Jn 2 R (Jd1 R R R R (Jn 4 R ?_))))
 cases h
 exact Jv1 _ tv ⟨R, _, (Jx2 _ _).wk R⟩ (KM R)
 rintro _ w48 _ ⟨rfl, K49, S50⟩
 have h := hK44
 refine Jd ?_
 revert h
 cases ht51 : p27
 refine JF fun h => Jy R (Js (Jp (Jq (Js1 (κ := K49) [2, 3, 4] none [(0, 0), (1, 0), (2, 0), (3, 1), (4, 1), (5, 2), (6, 2), (7, 1), (8, 2)] [] (by kernel_rfl) (by kernel_rfl) fun w58 S57 => Jg R (Jd2 (cs := [.slice ac p1.Next.length ab, .slice ad p1.Pairs.length ah]) I94 Z94 R R R (haC (f18.stp (S25.tr (S43.tr (S50.tr S57))) R R).cells R)) (Jg R (Jd2 (cs := [.slice aa p2.Next.length ai, .slice af p2.Pairs.length ae]) I94 Z94 R R R (haC (f12.stp (S15.tr (S25.tr (S43.tr (S50.tr S57)))) R R).cells R)) (Jg R (Jd2 (cs := [vi p0.In, vi p0.Out]) I31 Z31 R R R (haC (f17.stp (S25.tr (S43.tr (S50.tr S57))) R R).cells R)) (Ob h fun x32 hx32 h => Jh R R R C86 (s_LettersOf_ok (κ := fun b => mp [] 0 (K49 b)) (p0 := p0) hx32) ?_)))))))
 rintro _ w62 ⟨k63, rfl, e64⟩
 obtain ⟨K65, S66, m67⟩ := Ji e64 8 R
 have S002 := (S3.tr (S7.tr (S11.tr (S15.tr (S25.tr (S43.tr (S50.tr (S57.tr S66))))))))
 have S003 := (S25.tr (S43.tr (S50.tr (S57.tr S66))))
 refine ⟨(S66.cl R), Ob h fun x33 hx33 h => Jh R R R C139 (s_l26Joined_ok (κ := fun b => mp [] 0 (K65 b)) (p0 := p1) (p1 := p2) (Jl2 (f19.stp S003 R R) (mp [] 0) R R) (Jl2 (f20.stp S003 R R) (mp [] 0) R R) (Jl2 (g2_0.stp S002 R R) (mp [] 0) R R) (Jl2 (g2_1.stp S002 R R) (mp [] 0) R R) hx33) ?_⟩
 rintro _ w73 ⟨k74, am, al, ak, aj, rfl, e75, f76, f77⟩
 obtain ⟨K78, S79, m80⟩ := Ji e75 10 R
 refine ⟨((S66.tr S79).cl R), Jn 2 R (Jj1 (κ := K78) 5 (vc := [.slice am x33.1.Next.length al, .slice ak x33.1.Pairs.length aj]) R R R R R R R Z94 R R (f16.stp (S25.tr (S43.tr (S50.tr (S57.tr (S66.tr S79))))) R R) R fun w85 S86 f87 => ⟨((S66.tr (S79.tr S86)).cl R), Jn 1 R (Jt1 (Jd (Ju (Ja2 (l := [.cell 6 94, .tmp 7]) V110 (res_cellA R f87 I94 Z94 R (Jp2 R R)) R ?_))))⟩)⟩
 cases h
 exact ⟨(fun b => ren [(12, 2), (13, 3)] (K78 b)), am, al, ak, aj, R, ((hE.stp (S3.tr (S7.tr (S11.tr (S15.tr (S25.tr (S43.tr (S50.tr (S57.tr (S66.tr (S79.tr S86)))))))))) R R).map (ren [(12, 2), (13, 3)]) R R), (((f76.mx (no_own (no_int _) _) m80 R (R : 10 + 2 = 12)).stp S86 R R).map (ren [(12, 2), (13, 3)]) R R), (((f77.mx Pair.no92 m80 R (R : 10 + 3 = 13)).stp S86 R R).map (ren [(12, 2), (13, 3)]) R R)⟩
 refine JT fun h => Jx R (Je [2, 1, 2] R (Jf R (rn_build (parts := []) (cells := [.slice none 0 0, .slice none 0 0]) R R (by kernel_rfl)) (Jj1 (κ := K49) 5 (vc := [.slice none 0 0, .slice none 0 0]) R R R R R R R Z94 R R (f16.stp (S25.tr (S43.tr S50)) R R) R fun w53 S54 f55 => ⟨tv, Jb 1 R (Ju (Jw (Ja2 (l := [.cell 6 94, .tmp 7]) V110 (res_cellA R f55 I94 Z94 R (Jp2 R R)) R ?_)))⟩)))
 cases h
 exact ⟨K49, none, 0, none, 0, R, (hE.stp (S3.tr (S7.tr (S11.tr (S15.tr (S25.tr (S43.tr (S50.tr S54))))))) R R), Ow.nil, Ow.nil⟩
theorem s_MeetOf_ok {w : World} {κ : Col} {a0 u0} {p0 : (List Int)} {a1 u1} {p1 : (List Int)} (g0 : Rd (Rp.int .i64) κ w 0 a0 u0 p0) (g1 : Rd (Rp.int .i64) κ w 0 a1 u1 p1) {r : (List Int)} (h : s_MeetOf p0 p1 = some r) : Ret Tryz.prog 145 [.slice a0 p0.length u0, .slice a1 p1.length u1] w (fun v w' => ∃ (κ' : Col) (ra0 : Option Addr) (ru0 : Nat), v = .slice ra0 r.length ru0 ∧ Ent κ w κ' w' ∧ Oc E6 2 κ' w' 2 ra0 ru0 r) := by
 unfold s_MeetOf at h
 refine Ret.enter F145 R N145 R ?_
 dsimp only [envOf]
 have hE := Ent.refl κ w
 refine Je [2] R (Jb 1 R (Je [1, 2] R (Jo1 (κ := κ) (E := E6) 2 R R R R R Y40 Tryzinfo2 R fun a7 u7 w1 K2 S3 f4 => ⟨tv, Jb 1 R (Jq (Je [2, 2, 1, 2] R (Jn 2 R (Ob h fun x10 hx10 h => ?_))))⟩)))
 have f5 := g0.stp S3 R R
 have f6 := g1.stp S3 R R
 refine Jh R R R C147 (s_l2Both_ok (κ := fun b => mp [] 0 (K2 b)) (Jl2 f5 (mp [] 0) R R) (Jl2 f6 (mp [] 0) R R) hx10) ?_
 rintro _ w7 ⟨k8, rfl, e9⟩
 obtain ⟨K10, S11, m12⟩ := Ji e9 3 R
 refine ⟨tv, Jb 1 R ?_⟩
 revert h
 cases ht14 : (!x10)
 refine JF fun h => Jy R (Js (Jp (Jq (Je [2] R (Jb 1 R ?_)))))
 have hN17 : (p0.length : Int) ≤ 9223372036854775807 := f5.len_le
 refine Ob h fun q2 hq19 hK18 => ?_
 clear h
 refine Jx1 (fun L w' => ∃ κ', ∃ s3 : (List Int), ∃ af ac, L = [(5, .slice af s3.length ac)] ∧ Stp [2] K10 w7 κ' w' ∧ Oc E6 2 κ' w' 2 af ac s3 ∧ q2 = Sum.inr s3) ?_ ?_
 refine Jv (Jy1 (fun k L w' => ∃ κ' v6, ∃ s1 : (List Int), ∃ aa ab, L = [(0, .slice a0 p0.length u0), (1, .slice a1 p1.length u1), (5, .slice aa s1.length ab), (6, vi v6)] ∧ Stp [2] K10 w7 κ' w' ∧ Oc E6 2 κ' w' 2 aa ab s1 ∧ 0 ≤ v6 ∧ Int.toNat ((p0.length : Int) - v6) = k ∧ cntM (s_MeetOf_b0 p0 p1) k v6 s1 = some q2) ⟨_, _, ⟨K10, 0, (([] : List Int) : (List Int)), a7, u7, R, (Jx2 _ _).wk R, (f4.stp S11 R R), (by decide), (by simp), hq19⟩, (KM R)⟩ ?_)
 rintro k _ w24 ⟨K25, v6, s1, aa, ab, rfl, S26, f27, hj17, hJ17, h⟩
 rcases k with _ | k
 have hk29 := h; obtain ⟨o17, h⟩ := ex_eq (Sum.inr (Sum.inl s1) : (List Int) ⊕ (((List Int)) ⊕ ((List Int))))
 have hc17 : decide (v6 < (p0.length : Int)) = false := Jo2 (by omega)
 refine Jq (Je [2, 2, 2, 2] R (Jn 2 R (Jf R (Je2 U40 R R) (Jb 1 R (Jw2 R hc17 (Jc1 (Jt (Jt ?_))))))))
 cases h
 have h := hk29
 refine Jb1 ?_
 cases h
 exact Jw1 _ ⟨K25, (s1 : (List Int)), aa, ab, R, S26.wk R, f27, R⟩ (KM R)
 obtain ⟨o17, h, hk29⟩ := BI h; unfold s_MeetOf_b0 at h
 have hc17 : decide (v6 < (p0.length : Int)) = true := Jn2 (by omega)
 refine Jq (Je [2, 2, 2, 2] R (Jn 2 R (Jf R (Je2 U40 R R) (Jb 1 R (Jv2 R hc17 (Js (Jp (Jq (Jv (Je [2, 2, 2, 2, 1, 1] R (Jn 3 R (Ob h fun x22 hx22 h => Jf R (Jf2 f5 hx22 U40 Z2 R R R R) ?_))))))))))))
 have f30 := f5.stp (S11.tr S26) R R
 refine Jl tv R R R R (Jc2 I2 R R (hvE (f30.gInt hx22))) (Ob h fun x24 hx24 h => Jh R R R C117 (s_l1Has_ok (κ := fun b => mp [] 0 (K25 b)) (Jl2 (f6.stp (S11.tr S26) R R) (mp [] 0) R R) hx24) ?_)
 rintro _ w32 ⟨k33, rfl, e34⟩
 obtain ⟨K35, S36, m37⟩ := Ji e34 5 R
 refine ⟨tv, Jd (Ob h fun q4 h hK39 => Jx1 (fun L w' => ∃ κ' ae ad, L = [(0, .slice a0 p0.length u0), (1, .slice a1 p1.length u1), (5, .slice ae q4.length ad), (6, vi v6)] ∧ Stp [2] K35 w32 κ' w' ∧ Oc E6 2 κ' w' 2 ae ad q4) ?_ ?_)⟩
 revert h
 cases ht44 : x24
 refine JF fun h => Jy R (Js ?_)
 cases h
 exact Jw1 _ ⟨K35, aa, ab, R, (Jx2 _ _).wk R, (f27.stp S36 R R)⟩ (KM R)
 refine JT fun h => Jx R (Ja [2, 2, 2, 2, 1, 1, 1, 2] R (Jn 3 R (Ob h fun x28 hx28 h => Jf R (Jf2 f30 hx28 U40 Z2 R R R R) (Jl tv R R R R (Jc2 I2 R R (hvE ((f30.stp S36 R R).gInt hx28))) (Jn1 (κ := K35) (E := E6) 7 [] (parts := [(0, .tmp 29)]) (cells := [vi x28]) (xs := ([x28] : List Int)) R R R R R R Y40 Tryzinfo2 R R R R R R R R R R ⟨[vi x28], [], Zl K35 w32 [], Zl K35 w32 [], R, Zl.sp (l1 := []) (l2 := []) R, Zl.sr (l1 := []) (l2 := []), R, R⟩ fun aj ak w46 K47 S48 f49 => ⟨tv, Ob h fun x31 hx31 h => Jm1 (κ := K47) (E := E6) 2 [] R R R R R R R R R Y40 Tryzinfo2 R R R R (f27.stp (S36.tr S48) R R) (Sl.srcP (pu_int _) f49.rdc) sy_false hx31 R fun ai ah w51 K52 S53 f54 => ⟨tv, Jc 1 R ?_⟩⟩)))))
 cases h
 exact Jw1 _ ⟨K52, ai, ah, R, (S48.tr S53).wk R, f54⟩ (KM R)
 rintro _ w40 ⟨K41, ae, ad, rfl, S42, f43⟩
 have h := hK39
 refine Jz (Jp (Ja [2, 2, 2] R (Jc 3 R ?_)))
 have hw17 : IntKind.wrap .i64 (v6 + 1) = v6 + 1 := wr1 hj17 (Jm2 hc17) hN17
 rw [hw17]
 have hc17 := Jm2 hc17
 cases h
 exact Jz1 fun a ha => ⟨k, _, Ja3 _, ⟨K41, v6 + 1, (q4 : (List Int)), ae, ad, R, (S26.tr (S36.tr S42)).wk R, f43, by omega, by omega, hk29⟩, (ha.mm R)⟩
 rintro _ w20 ⟨K21, s3, af, ac, rfl, S22, f23, rfl⟩
 have h := hK18
 dsimp only [aft] at h
 refine Jp (Je [2, 2] R (Jb 2 R (Ju (Ja2 (l := [.tmp 4]) V145 (Jp2 R R) R ?_))))
 cases h
 exact ⟨K21, af, ac, R, (hE.stp (S3.tr (S11.tr S22)) R R), f23⟩
 refine JT fun h => Jx R (Je [2, 2] R (Jb 2 R (Ju (Jw (Ja2 (l := [.tmp 4]) V145 (Jp2 R R) R ?_)))))
 cases h
 exact ⟨K10, a7, u7, R, (hE.stp (S3.tr S11) R R), (f4.stp S11 R R)⟩
theorem s_BothOf_ok {w : World} {κ : Col} {a0 u0} {p0 : (List Int)} {a1 u1} {p1 : (List Int)} (g0 : Rd (Rp.int .i64) κ w 0 a0 u0 p0) (g1 : Rd (Rp.int .i64) κ w 0 a1 u1 p1) {r : (List Int)} (h : s_BothOf p0 p1 = some r) : Ret Tryz.prog 146 [.slice a0 p0.length u0, .slice a1 p1.length u1] w (fun v w' => ∃ (κ' : Col) (ra0 : Option Addr) (ru0 : Nat), v = .slice ra0 r.length ru0 ∧ Ent κ w κ' w' ∧ Rd (Rp.int .i64) κ' w' 0 ra0 ru0 r) := by
 unfold s_BothOf at h
 refine Ret.enter F146 R N146 R ?_
 dsimp only [envOf]
 have hE := Ent.refl κ w
 refine Je [2] R (Jb 1 R (Jq (Je [2, 2, 1, 2] R (Jn 2 R (Ob h fun x9 hx9 h => Jh R R R C147 (s_l2Both_ok (κ := fun b => mp [] 0 (κ b)) (Jl2 g0 (mp [] 0) R R) (Jl2 g1 (mp [] 0) R R) hx9) ?_)))))
 rintro _ w1 ⟨k2, rfl, e3⟩
 obtain ⟨K4, S5, m6⟩ := Ji e3 2 R
 refine ⟨tv, Jb 1 R ?_⟩
 revert h
 cases ht8 : (!x9)
 refine JF fun h => Jy R (Js (Jp (Je [2, 1, 2] R (Jn 1 R (Ob h fun x13 hx13 h => Jh R R R C88 (s_l1Copy_ok (κ := fun b => mp [] 0 (K4 b)) (Jl2 (g0.stp S5 R R) (mp [] 0) R R) hx13) ?_)))))
 rintro _ w19 ⟨k20, aj, ah, rfl, e21, f22⟩
 obtain ⟨K23, S24, m25⟩ := Ji e21 4 R
 refine ⟨tv, Jb 1 R (Jq (Je [2] R (Jb 1 R ?_)))⟩
 have hN28 : (p1.length : Int) ≤ 9223372036854775807 := g1.len_le
 refine Ob h fun q2 hq30 hK29 => ?_
 clear h
 obtain ⟨K31, S32, z33⟩ := fz_ex K23 w19 6
 refine Jx1 (fun L w' => ∃ κ', ∃ s3 : (List Int), ∃ ac aa, L = [(5, .slice ac s3.length aa)] ∧ Stp [] K31 w19 κ' w' ∧ Rd (Rp.int .i64) κ' w' 0 ac aa s3 ∧ q2 = Sum.inr s3) ?_ ?_
 refine Jv (Jy1 (fun k L w' => ∃ κ' v6, ∃ s1 : (List Int), ∃ ad ab, L = [(1, .slice a1 p1.length u1), (5, .slice ad s1.length ab), (6, vi v6)] ∧ Stp [] K31 w19 κ' w' ∧ Rd (Rp.int .i64) κ' w' 0 ad ab s1 ∧ 0 ≤ v6 ∧ Int.toNat ((p1.length : Int) - v6) = k ∧ cntM (s_BothOf_b0 p1) k v6 s1 = some q2) ⟨_, _, ⟨K31, 0, (x13 : (List Int)), aj, ah, R, (Jx2 _ _).wk R, (Sl.st z33 (f22.mx (no_int _) m25 R (R : 4 + 2 = 6)).rdc), (by decide), (by simp), hq30⟩, (KM R)⟩ ?_)
 rintro k _ w39 ⟨K40, v6, s1, ad, ab, rfl, S41, f42, hj28, hJ28, h⟩
 rcases k with _ | k
 have hk43 := h; obtain ⟨o28, h⟩ := ex_eq (Sum.inr (Sum.inl s1) : (List Int) ⊕ (((List Int)) ⊕ ((List Int))))
 have hc28 : decide (v6 < (p1.length : Int)) = false := Jo2 (by omega)
 refine Jq (Je [2, 2, 2, 2] R (Jn 2 R (Jf R (Je2 U40 R R) (Jb 1 R (Jw2 R hc28 (Jc1 (Jt (Jt ?_))))))))
 cases h
 have h := hk43
 refine Jb1 ?_
 cases h
 exact Jw1 _ ⟨K40, (s1 : (List Int)), ad, ab, R, S41.wk R, f42, R⟩ (KM R)
 obtain ⟨o28, h, hk43⟩ := BI h; unfold s_BothOf_b0 at h
 have hc28 : decide (v6 < (p1.length : Int)) = true := Jn2 (by omega)
 refine Jq (Je [2, 2, 2, 2] R (Jn 2 R (Jf R (Je2 U40 R R) (Jb 1 R (Jv2 R hc28 (Js (Jp (Jq (Jv (Ja [2, 2, 2, 2, 1, 1, 2] R (Jn 3 R (Ob h fun x23 hx23 h => Jf R (Jf2 g1 hx23 U40 Z2 R R R R) (Jl tv R R R R (Jc2 I2 R R (hvE ((g1.stp (S5.tr (S24.tr (S32.tr S41))) R R).gInt hx23))) (Ob h fun x25 hx25 h => Jh R R R C64 (s_l1Into_ok (κ := fun b => mp [] 1 (K40 b)) (Jl2 f42 (mp [] 1) R R) hx25) ?_))))))))))))))
 rintro _ w45 ⟨k46, ak, af, rfl, e47, f48⟩
 obtain ⟨K49, S50, m51, z52⟩ := Jj e47 7 R
 refine ⟨tv, Jc 1 R (Jz (Jp (Ja [2, 2, 2] R (Jc 3 R ?_))))⟩
 have hw28 : IntKind.wrap .i64 (v6 + 1) = v6 + 1 := wr1 hj28 (Jm2 hc28) hN28
 rw [hw28]
 have hc28 := Jm2 hc28
 cases h
 exact Jz1 fun a ha => ⟨k, _, Ja3 _, ⟨K49, v6 + 1, (x25 : (List Int)), ak, af, R, (S41.tr S50).wk R, (f48.mx z52), by omega, by omega, hk43⟩, (ha.mm R)⟩
 rintro _ w35 ⟨K36, s3, ac, aa, rfl, S37, f38, rfl⟩
 have h := hK29
 dsimp only [aft] at h
 refine Jp (Je [2, 2] R (Jb 2 R (Ju (Ja2 (l := [.tmp 4]) V146 (Jp2 R R) R ?_))))
 cases h
 exact ⟨K36, ac, aa, R, (hE.stp (S5.tr (S24.tr (S32.tr S37))) R R), f38⟩
 refine JT fun h => Jx R (Je [1, 2] R (Jo1 (κ := K4) (E := E6) 4 R R R R R Y40 Tryzinfo2 R fun ai ae w9 K10 S11 f12 => ⟨tv, Jb 1 R (Ju (Jw ?_))⟩))
 obtain ⟨K13, S14, z15⟩ := fz_ex K10 w9 4
 refine Ja2 (l := [.tmp 4]) V146 (Jp2 R R) R ?_
 cases h
 exact ⟨K13, ai, ae, R, (hE.stp (S5.tr (S11.tr S14)) R R), (Sl.st z15 f12.rdc)⟩
theorem s_l33Vain_ok {w : World} {κ : Col} {a0 u0} {p0 : (List Pair)} {a1 u1} {p1 : (List Int)} (g0 : Rd Pair.rp κ w 0 a0 u0 p0) (g1 : Rd (Rp.int .i64) κ w 0 a1 u1 p1) {r : (List Int)} (h : s_l33Vain p0 p1 = some r) : Ret Tryz.prog 115 [.slice a0 p0.length u0, .slice a1 p1.length u1] w (fun v w' => ∃ (κ' : Col) (ra0 : Option Addr) (ru0 : Nat), v = .slice ra0 r.length ru0 ∧ Ent κ w κ' w' ∧ Rd (Rp.int .i64) κ' w' 0 ra0 ru0 r) := by
 unfold s_l33Vain at h
 refine Ret.enter F115 R N115 R ?_
 dsimp only [envOf]
 have hE := Ent.refl κ w
 refine Je [2] R (Jb 1 R (Je [1, 2] R (Jo1 (κ := κ) (E := E6) 2 R R R R R Y40 Tryzinfo2 R fun a8 u8 w1 K2 S3 f4 => ⟨tv, Jb 1 R (Jq (Je [2] R (Jb 1 R ?_)))⟩)))
 have hN5 : (p0.length : Int) ≤ 9223372036854775807 := g0.len_le
 refine Ob h fun q2 hq7 hK6 => ?_
 clear h
 obtain ⟨K8, S9, z10⟩ := fz_ex K2 w1 2
 refine Jx1 (fun L w' => ∃ κ', ∃ s3 : (List Int), ∃ af ac, L = [(5, .slice af s3.length ac)] ∧ Stp [5] K8 w1 κ' w' ∧ Rd (Rp.int .i64) κ' w' 0 af ac s3 ∧ q2 = Sum.inr s3) ?_ ?_
 refine Jv (Jy1 (fun k L w' => ∃ κ' v6, ∃ s1 : (List Int), ∃ aa ab, L = [(0, .slice a0 p0.length u0), (1, .slice a1 p1.length u1), (5, .slice aa s1.length ab), (6, vi v6)] ∧ Stp [5] K8 w1 κ' w' ∧ Rd (Rp.int .i64) κ' w' 0 aa ab s1 ∧ 0 ≤ v6 ∧ Int.toNat ((p0.length : Int) - v6) = k ∧ cntM (s_l33Vain_b0 p0 p1) k v6 s1 = some q2) ⟨_, _, ⟨K8, 0, (([] : List Int) : (List Int)), a8, u8, R, (Jx2 _ _).wk R, (Sl.st z10 f4.rdc), (by decide), (by simp), hq7⟩, (KM R)⟩ ?_)
 rintro k _ w16 ⟨K17, v6, s1, aa, ab, rfl, S18, f19, hj5, hJ5, h⟩
 rcases k with _ | k
 have hk20 := h; obtain ⟨o5, h⟩ := ex_eq (Sum.inr (Sum.inl s1) : (List Int) ⊕ (((List Int)) ⊕ ((List Int))))
 have hc5 : decide (v6 < (p0.length : Int)) = false := Jo2 (by omega)
 refine Jq (Je [2, 2, 2, 2] R (Jn 2 R (Jf R (Je2 U79 R R) (Jb 1 R (Jw2 R hc5 (Jc1 (Jt (Jt ?_))))))))
 cases h
 have h := hk20
 refine Jb1 ?_
 cases h
 exact Jw1 _ ⟨K17, (s1 : (List Int)), aa, ab, R, S18.wk R, f19, R⟩ (KM R)
 obtain ⟨o5, h, hk20⟩ := BI h; unfold s_l33Vain_b0 at h
 have hc5 : decide (v6 < (p0.length : Int)) = true := Jn2 (by omega)
 refine Jq (Je [2, 2, 2, 2] R (Jn 2 R (Jf R (Je2 U79 R R) (Jb 1 R (Jv2 R hc5 (Js (Jp (Jq (Jv (Je [2, 2, 2, 2, 2, 1, 1, 2] R (Jn 3 R (Ob h fun x18 hx18 h => Jf R (Jf2 g0 hx18 U79 Z92 R R R R) (Jf R (Jb2 U92 R Z40 R R) ?_)))))))))))))
 have f21 := g0.stp (S3.tr (S9.tr S18)) R R
 obtain ⟨cse22, hre22, hle22⟩ := (f21).gSt hx18
 obtain ⟨ae22_0, ue22_0, ae22_1, ue22_1, rfl, fe22_0, fe22_1⟩ := Pair.un hre22
 refine Jl tv R R R R (Jc2 I40 R R (hvE (fun w' hw' => hle22 w' hw' 0 _ R))) (Ob h fun x21 hx21 h => ?_)
 have f23 := g1.stp (S3.tr (S9.tr S18)) R R
 refine Jh R R R C145 (s_MeetOf_ok (κ := fun b => mp [] 0 (K17 b)) (Jl2 f23 (mp [] 0) R R) (Jl2 fe22_0 (mp [] 0) R R) hx21) ?_
 rintro _ w24 ⟨k25, aj, ak, rfl, e26, f27⟩
 obtain ⟨K28, S29, m30⟩ := Ji e26 3 R
 refine ⟨tv, Jb 1 R (Je [2, 2, 2, 2, 2, 2, 2, 2, 2, 1, 1, 2, 2, 2] R (Jn 1 R (Jf R (Je2 U40 R R) (Jn 2 R (Ob h fun p35 h hK33 => Ju1 [(4, 2), (5, 2), (6, 2), (7, 2), (8, 2), (9, 1), (10, 1), (11, 2), (12, 2), (13, 2)] [] (fun L w' => L = [(0, .slice a0 p0.length u0), (1, .slice a1 p1.length u1), (5, .slice aa s1.length ab), (6, vi v6), (7, .slice aj x21.length ak), (35, .bool p35)] ∧ ∃ κ', Stp [] K28 w24 κ' w') tv ?_ ?_)))))⟩
 revert h
 cases ht34 : decide (0 < (x21.length : Int))
 refine JF fun h => Jn 5 R (Jd1 R R R R (Jd1 R R R R (Jn 3 R ?_)))
 cases h
 exact Jv1 _ tv ⟨R, _, (Jx2 _ _).wk R⟩ (KM R)
 refine JT fun h => Jn 3 R (Ob h fun x29 hx29 h => Jf R (Jf2 f21 hx29 U79 Z92 R R R R) (Jf R (Jb2 U92 R Z40 R R) ?_))
 obtain ⟨cse36, hre36, hle36⟩ := ((f21.stp S29 R R)).gSt hx29
 obtain ⟨ae36_0, ue36_0, ae36_1, ue36_1, rfl, fe36_0, fe36_1⟩ := Pair.un hre36
 refine Jl tv R R R R (Jc2 I40 R R (hvE (fun w' hw' => hle36 w' hw' 1 _ R))) (Ob h fun x32 hx32 h => Jh R R R C145 (s_MeetOf_ok (κ := fun b => mp [] 0 (K28 b)) (Jl2 (f23.stp S29 R R) (mp [] 0) R R) (Jl2 fe36_1 (mp [] 0) R R) hx32) ?_)
 rintro _ w38 ⟨k39, am, al, rfl, e40, f41⟩
 obtain ⟨K42, S43, m44⟩ := Ji e40 6 R
 refine ⟨tv, Jf R (Je2 U40 R R) (Jn 2 R ?_)⟩
 cases h
 exact Jv1 _ tv ⟨R, _, S43.wk R⟩ (KM R)
 rintro _ w47 _ ⟨rfl, K48, S49⟩
 have h := hK33
 refine Jd (Ob h fun q4 h hK50 => Jx1 (fun L w' => ∃ κ' ae ad, L = [(0, .slice a0 p0.length u0), (1, .slice a1 p1.length u1), (5, .slice ae q4.length ad), (6, vi v6)] ∧ Stp [5] K48 w47 κ' w' ∧ Rd (Rp.int .i64) κ' w' 0 ae ad q4) ?_ ?_)
 revert h
 cases ht55 : p35
 refine JF fun h => Jy R (Js ?_)
 cases h
 exact Jw1 _ ⟨K48, aa, ab, R, (Jx2 _ _).wk R, (f19.stp (S29.tr S49) R R)⟩ (KM R)
 refine JT fun h => Jx R (Ja [2, 2, 1, 2] R (Jn 2 R ?_))
 obtain ⟨K57, S58, z59⟩ := fz_ex K48 w47 5
 refine Ob h fun x38 hx38 h => Jh R R R C146 (s_BothOf_ok (κ := fun b => mp [] 1 (K57 b)) (Jl2 (f19.stp (S29.tr (S49.tr S58)) R R) (mp [] 1) R R) (Jl2 (Sl.st z59 ((f27.mx (no_int _) m30 R (R : 3 + 2 = 5)).stp S49 R R).rdc) (mp [] 1) R R) hx38) ?_
 rintro _ w62 ⟨k63, ah, ai, rfl, e64, f65⟩
 obtain ⟨K66, S67, m68, z69⟩ := Jj e64 6 R
 refine ⟨tv, Jc 1 R ?_⟩
 cases h
 exact Jw1 _ ⟨K66, ah, ai, R, (S58.tr S67).wk R, (f65.mx z69)⟩ (KM R)
 rintro _ w51 ⟨K52, ae, ad, rfl, S53, f54⟩
 have h := hK50
 refine Jz (Jp (Ja [2, 2, 2] R (Jc 3 R ?_)))
 have hw5 : IntKind.wrap .i64 (v6 + 1) = v6 + 1 := wr1 hj5 (Jm2 hc5) hN5
 rw [hw5]
 have hc5 := Jm2 hc5
 cases h
 exact Jz1 fun a ha => ⟨k, _, Ja3 _, ⟨K52, v6 + 1, (q4 : (List Int)), ae, ad, R, (S18.tr (S29.tr (S49.tr S53))).wk R, f54, by omega, by omega, hk20⟩, (ha.mm R)⟩
 rintro _ w12 ⟨K13, s3, af, ac, rfl, S14, f15, rfl⟩
 have h := hK6
 dsimp only [aft] at h
 refine Jp (Je [2, 2] R (Jb 2 R (Ju (Ja2 (l := [.tmp 4]) V115 (Jp2 R R) R ?_))))
 cases h
 exact ⟨K13, af, ac, R, (hE.stp (S3.tr (S9.tr S14)) R R), f15⟩
theorem s_LessOf_ok {w : World} {κ : Col} {a0 u0} {p0 : (List Int)} {a1 u1} {p1 : (List Int)} (g0 : Rd (Rp.int .i64) κ w 0 a0 u0 p0) (g1 : Rd (Rp.int .i64) κ w 0 a1 u1 p1) {r : (List Int)} (h : s_LessOf p0 p1 = some r) : Ret Tryz.prog 116 [.slice a0 p0.length u0, .slice a1 p1.length u1] w (fun v w' => ∃ (κ' : Col) (ra0 : Option Addr) (ru0 : Nat), v = .slice ra0 r.length ru0 ∧ Ent κ w κ' w' ∧ Oc E6 2 κ' w' 2 ra0 ru0 r) := by
 unfold s_LessOf at h
 refine Ret.enter F116 R N116 R ?_
 dsimp only [envOf]
 have hE := Ent.refl κ w
 refine Je [2] R (Jb 1 R (Je [1, 2] R (Jo1 (κ := κ) (E := E6) 2 R R R R R Y40 Tryzinfo2 R fun a7 u7 w1 K2 S3 f4 => ⟨tv, Jb 1 R (Jq (Je [2, 2, 1, 2] R (Jn 2 R (Ob h fun x10 hx10 h => ?_))))⟩)))
 have f5 := g0.stp S3 R R
 have f6 := g1.stp S3 R R
 refine Jh R R R C147 (s_l2Both_ok (κ := fun b => mp [] 0 (K2 b)) (Jl2 f5 (mp [] 0) R R) (Jl2 f6 (mp [] 0) R R) hx10) ?_
 rintro _ w7 ⟨k8, rfl, e9⟩
 obtain ⟨K10, S11, m12⟩ := Ji e9 3 R
 refine ⟨tv, Jb 1 R ?_⟩
 revert h
 cases ht14 : (!x10)
 refine JF fun h => Jy R (Js (Jp (Jq (Je [2] R (Jb 1 R ?_)))))
 have hN17 : (p0.length : Int) ≤ 9223372036854775807 := f5.len_le
 refine Ob h fun q2 hq19 hK18 => ?_
 clear h
 refine Jx1 (fun L w' => ∃ κ', ∃ s3 : (List Int), ∃ af ac, L = [(5, .slice af s3.length ac)] ∧ Stp [2] K10 w7 κ' w' ∧ Oc E6 2 κ' w' 2 af ac s3 ∧ q2 = Sum.inr s3) ?_ ?_
 refine Jv (Jy1 (fun k L w' => ∃ κ' v6, ∃ s1 : (List Int), ∃ aa ab, L = [(0, .slice a0 p0.length u0), (1, .slice a1 p1.length u1), (5, .slice aa s1.length ab), (6, vi v6)] ∧ Stp [2] K10 w7 κ' w' ∧ Oc E6 2 κ' w' 2 aa ab s1 ∧ 0 ≤ v6 ∧ Int.toNat ((p0.length : Int) - v6) = k ∧ cntM (s_LessOf_b0 p0 p1) k v6 s1 = some q2) ⟨_, _, ⟨K10, 0, (([] : List Int) : (List Int)), a7, u7, R, (Jx2 _ _).wk R, (f4.stp S11 R R), (by decide), (by simp), hq19⟩, (KM R)⟩ ?_)
 rintro k _ w24 ⟨K25, v6, s1, aa, ab, rfl, S26, f27, hj17, hJ17, h⟩
 rcases k with _ | k
 have hk29 := h; obtain ⟨o17, h⟩ := ex_eq (Sum.inr (Sum.inl s1) : (List Int) ⊕ (((List Int)) ⊕ ((List Int))))
 have hc17 : decide (v6 < (p0.length : Int)) = false := Jo2 (by omega)
 refine Jq (Je [2, 2, 2, 2] R (Jn 2 R (Jf R (Je2 U40 R R) (Jb 1 R (Jw2 R hc17 (Jc1 (Jt (Jt ?_))))))))
 cases h
 have h := hk29
 refine Jb1 ?_
 cases h
 exact Jw1 _ ⟨K25, (s1 : (List Int)), aa, ab, R, S26.wk R, f27, R⟩ (KM R)
 obtain ⟨o17, h, hk29⟩ := BI h; unfold s_LessOf_b0 at h
 have hc17 : decide (v6 < (p0.length : Int)) = true := Jn2 (by omega)
 refine Jq (Je [2, 2, 2, 2] R (Jn 2 R (Jf R (Je2 U40 R R) (Jb 1 R (Jv2 R hc17 (Js (Jp (Jq (Jv (Je [2, 2, 2, 2, 1, 1, 2] R (Jn 3 R (Ob h fun x22 hx22 h => Jf R (Jf2 f5 hx22 U40 Z2 R R R R) ?_))))))))))))
 have f30 := f5.stp (S11.tr S26) R R
 refine Jl tv R R R R (Jc2 I2 R R (hvE (f30.gInt hx22))) (Ob h fun x24 hx24 h => Jh R R R C117 (s_l1Has_ok (κ := fun b => mp [] 0 (K25 b)) (Jl2 (f6.stp (S11.tr S26) R R) (mp [] 0) R R) hx24) ?_)
 rintro _ w32 ⟨k33, rfl, e34⟩
 obtain ⟨K35, S36, m37⟩ := Ji e34 5 R
 refine ⟨tv, Jb 1 R (Ob h fun q4 h hK39 => Jx1 (fun L w' => ∃ κ' ae ad, L = [(0, .slice a0 p0.length u0), (1, .slice a1 p1.length u1), (5, .slice ae q4.length ad), (6, vi v6)] ∧ Stp [2] K35 w32 κ' w' ∧ Oc E6 2 κ' w' 2 ae ad q4) ?_ ?_)⟩
 revert h
 cases ht44 : (!x24)
 refine JF fun h => Jy R (Js ?_)
 cases h
 exact Jw1 _ ⟨K35, aa, ab, R, (Jx2 _ _).wk R, (f27.stp S36 R R)⟩ (KM R)
 refine JT fun h => Jx R (Ja [2, 2, 2, 2, 1, 1, 1, 2] R (Jn 3 R (Ob h fun x29 hx29 h => Jf R (Jf2 f30 hx29 U40 Z2 R R R R) (Jl tv R R R R (Jc2 I2 R R (hvE ((f30.stp S36 R R).gInt hx29))) (Jn1 (κ := K35) (E := E6) 7 [] (parts := [(0, .tmp 30)]) (cells := [vi x29]) (xs := ([x29] : List Int)) R R R R R R Y40 Tryzinfo2 R R R R R R R R R R ⟨[vi x29], [], Zl K35 w32 [], Zl K35 w32 [], R, Zl.sp (l1 := []) (l2 := []) R, Zl.sr (l1 := []) (l2 := []), R, R⟩ fun ak aj w46 K47 S48 f49 => ⟨tv, Ob h fun x32 hx32 h => Jm1 (κ := K47) (E := E6) 2 [] R R R R R R R R R Y40 Tryzinfo2 R R R R (f27.stp (S36.tr S48) R R) (Sl.srcP (pu_int _) f49.rdc) sy_false hx32 R fun ah ai w51 K52 S53 f54 => ⟨tv, Jc 1 R ?_⟩⟩)))))
 cases h
 exact Jw1 _ ⟨K52, ah, ai, R, (S48.tr S53).wk R, f54⟩ (KM R)
 rintro _ w40 ⟨K41, ae, ad, rfl, S42, f43⟩
 have h := hK39
 refine Jz (Jp (Ja [2, 2, 2] R (Jc 3 R ?_)))
 have hw17 : IntKind.wrap .i64 (v6 + 1) = v6 + 1 := wr1 hj17 (Jm2 hc17) hN17
 rw [hw17]
 have hc17 := Jm2 hc17
 cases h
 exact Jz1 fun a ha => ⟨k, _, Ja3 _, ⟨K41, v6 + 1, (q4 : (List Int)), ae, ad, R, (S26.tr (S36.tr S42)).wk R, f43, by omega, by omega, hk29⟩, (ha.mm R)⟩
 rintro _ w20 ⟨K21, s3, af, ac, rfl, S22, f23, rfl⟩
 have h := hK18
 dsimp only [aft] at h
 refine Jp (Je [2, 2] R (Jb 2 R (Ju (Ja2 (l := [.tmp 4]) V116 (Jp2 R R) R ?_))))
 cases h
 exact ⟨K21, af, ac, R, (hE.stp (S3.tr (S11.tr S22)) R R), f23⟩
 refine JT fun h => Jx R (Je [2, 2] R (Jb 2 R (Ju (Jw (Ja2 (l := [.tmp 4]) V116 (Jp2 R R) R ?_)))))
 cases h
 exact ⟨K10, a7, u7, R, (hE.stp (S3.tr S11) R R), (f4.stp S11 R R)⟩
theorem i_areClauses_ok {w : World} {κ : Col} {p0 : Sig} {a1 u1} {p1 : (List Clause)} (g1 : Rd Clause.rp κ w 0 a1 u1 p1) {r : Bool} (h : i_areClauses p0 p1 = some r) : Ret Tryz.prog 79 [.agg #[vi p0.In, vi p0.Out], .slice a1 p1.length u1] w (fun v w' => ∃ (κ' : Col), v = .bool r ∧ Ent κ w κ' w') := by
 unfold i_areClauses at h
 refine Ret.enter F79 R N79 R ?_
 dsimp only [envOf]
 have hE := Ent.refl κ w
 refine Je [1, 2] R (Jf1 (κ := κ) 2 R R R R R R R fun b2 w1 K2 S3 f4 => ⟨tv, Jb 1 R (Je [2, 2, 2, 2, 2, 2, 1, 2, 2, 2] R (Jn 1 R (Jf R (Je2 U35 R R) (Jn 2 R (Ob h fun p13 h hK5 => Ju1 [(4, 2), (5, 2), (6, 1), (7, 2), (8, 2)] [(9, 2)] (fun L w' => L = [(4, .bool false), (13, .bool p13)] ∧ ∃ κ', Stp [] K2 w1 κ' w') tv ?_ ?_)))))⟩)
 revert h
 cases ht6 : decide ((p1.length : Int) ≤ 3)
 refine JF fun h => Jn 2 R (Jd1 R R R R (Jn 2 R ?_))
 cases h
 exact Jv1 _ tv ⟨R, _, (Jx2 _ _).wk R⟩ (KM R)
 refine JT fun h => Jn 1 R (Jf R (rn_makeFunc (first := []) (captured := [.tmp 2]) R R R ⟨_, R⟩) (Ob h fun x11 hx11 h => Jh R R R C127 (slices_ContainsFunc_i_Clause_i_Clause__i_areClauses_1_ok (κ := fun b => mp [] 0 (K2 b)) (c1_0 := p0) (Jl2 (g1.stp S3 R R) (mp [] 0) R R) (f4.map (mp [] 0) R R) hx11) ?_))
 rintro _ w8 ⟨k9, rfl, e10⟩
 obtain ⟨K11, S12, m13⟩ := Ji e10 3 R
 refine ⟨tv, Jn 2 R ?_⟩
 cases h
 exact Jv1 _ tv ⟨R, _, S12.wk R⟩ (KM R)
 rintro _ w15 _ ⟨rfl, K16, S17⟩
 have h := hK5
 refine Jb 1 R (Ju (Ja2 (l := [.tmp 4]) V79 (Jp2 R R) R ?_))
 cases h
 exact ⟨K16, R, (hE.stp (S3.tr S17) R R)⟩
theorem i_ProductOf_ok {w : World} {κ : Col} {p0 : Sig} {a1 u1} {p1 : (List Clause)} (g1 : Rd Clause.rp κ w 0 a1 u1 p1) {r : Det × Bool} (h : i_ProductOf p0 p1 = some r) : Ret Tryz.prog 71 [.agg #[vi p0.In, vi p0.Out], .slice a1 p1.length u1] w (fun v w' => ∃ (κ' : Col) (ra0 : Option Addr) (ru0 : Nat) (ra1 : Option Addr) (ru1 : Nat), v = .tuple #[.agg #[.slice ra0 r.1.Next.length ru0, .slice ra1 r.1.Pairs.length ru1], .bool r.2] ∧ Ent κ w κ' w' ∧ Oc (Ep.own E6 2) 40 κ' w' 2 ra0 ru0 r.1.Next ∧ Oc Pair.ep92 92 κ' w' 3 ra1 ru1 r.1.Pairs) := by
 unfold i_ProductOf at h
 refine Ret.enter F71 R N71 R ?_
 dsimp only [envOf]
 have hE := Ent.refl κ w
 refine Je [1, 1, 2] R (Jf1 (κ := κ) 2 R R R R R R R fun b2 w1 K2 S3 f4 => ⟨tv, Jg1 (κ := K2) 3 R R R R R X94 R fun b4 w5 K6 S7 f8 => ⟨tv, Jb 1 R (Jq (Je [1, 1, 2, 2, 1, 2, 1, 2, 2] R ?_))⟩⟩)
 have f9 := f4.stp S7 R R
 refine Jl tv R R R R (Jd2 (cs := [vi p0.In, vi p0.Out]) I31 Z31 R R R (haE f9.cells)) (Ob h fun x12 hx12 h => Jh R R R C69 (i_isSig_ok (κ := fun b => mp [] 0 (K6 b)) (p0 := p0) hx12) ?_)
 rintro _ w10 ⟨k11, rfl, e12⟩
 obtain ⟨K13, S14, m15⟩ := Ji e12 4 R
 refine ⟨tv, Jn 2 R (Ob h fun p19 h hK17 => Ju1 [(4, 1), (5, 2), (6, 1), (7, 2), (8, 2)] [] (fun L w' => L = [(1, .slice a1 p1.length u1), (2, .pointer (some ⟨b2, 0, none⟩)), (4, .pointer (some ⟨b4, 0, none⟩)), (19, .bool p19)] ∧ ∃ κ', Stp [] K13 w10 κ' w') tv ?_ ?_)⟩
 revert h
 cases ht18 : (!x12)
 refine JF fun h => Jl tv R R R R (Jd2 (cs := [vi p0.In, vi p0.Out]) I31 Z31 R R R (haE (f9.stp S14 R R).cells)) (Jn 1 R (Ob h fun x17 hx17 h => Jh R R R C79 (i_areClauses_ok (κ := fun b => mp [] 0 (K13 b)) (p0 := p0) (Jl2 (g1.stp (S3.tr (S7.tr S14)) R R) (mp [] 0) R R) hx17) ?_))
 rintro _ w21 ⟨k22, rfl, e23⟩
 obtain ⟨K24, S25, m26⟩ := Ji e23 6 R
 refine ⟨tv, Jn 2 R ?_⟩
 cases h
 exact Jv1 _ tv ⟨R, _, S25.wk R⟩ (KM R)
 refine JT fun h => Jd1 R R R R (Jn 1 R (Jd1 R R R R (Jn 2 R ?_)))
 cases h
 exact Jv1 _ tv ⟨R, _, (Jx2 _ _).wk R⟩ (KM R)
 rintro _ w28 _ ⟨rfl, K29, S30⟩
 have h := hK17
 refine Jd ?_
 revert h
 cases ht31 : p19
 refine JF fun h => Jy R (Js (Jp (Je [1, 1, 1, 1, 2, 1, 1] R ?_)))
 have f37 := f9.stp (S14.tr S30) R R
 refine Jl tv R R R R (Jd2 (cs := [vi p0.In, vi p0.Out]) I31 Z31 R R R (haE f37.cells)) (Ob h fun x22 hx22 h => Jh R R R C119 (i_lettersOf_ok (κ := fun b => mp [] 0 (K29 b)) (p0 := p0) hx22) ?_)
 rintro _ w38 ⟨k39, rfl, e40⟩
 obtain ⟨K41, S42, m43⟩ := Ji e40 6 R
 refine ⟨tv, Ob h fun x23 hx23 h => Jl1 (κ := K41) (E := E6) (z := (0 : Int)) 8 R R R R R R R Y40 Tryzinfo2 R R R R R (fun _ _ _ => R) (Ju2 hx23) fun av aw w45 K46 S47 f48 => ⟨tv, Jn1 (κ := K46) (E := (Ep.own E6 2)) 9 [8] (parts := [(0, .tmp 23)]) (cells := [.slice av x23.length aw]) (xs := ([x23] : List (List Int))) R R R R R R Y24 Tryzinfo40 R R R R R R R R R R ⟨[.slice av x23.length aw], [], Zl K46 w45 [8], Zl K46 w45 [], R, Zl.sp (l1 := [8]) (l2 := []) R, Zl.sr (l1 := [8]) (l2 := []), ⟨_, _, R, f48⟩, R⟩ fun au ar w49 K50 S51 f52 => ⟨tv, Jf R (rn_build (parts := [(0, .tmp 24)]) (cells := [.slice au ([x23] : List (List Int)).length ar, .slice none 0 0]) R R (by kernel_rfl)) (Jg1 (κ := K50) 10 R R R R R X94 R fun b6 w53 K54 S55 f56 => ⟨tv, Jj1 (κ := K54) 10 (vc := [.slice au ([x23] : List (List Int)).length ar, .slice none 0 0]) R R R R R R R Z94 R R f56 R fun w57 S58 f59 => ⟨tv, Jd (Jq (Je [2, 2, 2] R (Jn 1 R (Jf R (Je2 U35 R R) (Jb 1 R ?_)))))⟩⟩)⟩⟩⟩
 have hN60 : (p1.length : Int) ≤ 9223372036854775807 := g1.len_le
 refine Ob h fun q2 hq62 hK61 => ?_
 clear h
 refine Jx1 (fun L w' => ∃ κ', ∃ s3 : (List (List Int)) × (List Pair), ∃ al ah ai am, L = [(4, .pointer (some ⟨b4, 0, none⟩)), (6, .pointer (some ⟨b6, 0, none⟩))] ∧ Stp [10, 12, 13, 14, 17, 19, 20, 21] K54 w57 κ' w' ∧ Oc (Ep.own E6 2) 40 κ' w' 9 al ah s3.1 ∧ Oc Pair.ep92 92 κ' w' 11 ai am s3.2 ∧ Bc κ' w' 10 b6 94 [.slice al s3.1.length ah, .slice ai s3.2.length am] ∧ q2 = Sum.inr s3) ?_ ?_
 refine Jv (Jy1 (fun k L w' => ∃ κ' v28, ∃ s1 : (List (List Int)) × (List Pair), ∃ ap an aq ao, L = [(2, .pointer (some ⟨b2, 0, none⟩)), (4, .pointer (some ⟨b4, 0, none⟩)), (6, .pointer (some ⟨b6, 0, none⟩)), (26, .slice a1 p1.length u1), (27, vi (p1.length : Int)), (28, vi v28)] ∧ Stp [10, 12, 13, 14, 17, 19, 20, 21] K54 w57 κ' w' ∧ Oc (Ep.own E6 2) 40 κ' w' 9 ap an s1.1 ∧ Oc Pair.ep92 92 κ' w' 11 aq ao s1.2 ∧ Bc κ' w' 10 b6 94 [.slice ap s1.1.length an, .slice aq s1.2.length ao] ∧ 0 ≤ v28 ∧ Int.toNat ((p1.length : Int) - v28) = k ∧ cntM (i_ProductOf_b0 p0 p1) k v28 s1 = some q2) ⟨_, _, ⟨K54, 0, ((([x23] : List (List Int)) : (List (List Int))), (([] : List Pair) : (List Pair))), au, ar, none, 0, R, (Jx2 _ _).wk R, (f52.stp (S55.tr S58) R R), Ow.nil, f59, (by decide), (by simp), hq62⟩, (KM R)⟩ ?_)
 rintro k _ w69 ⟨K70, v28, s1, ap, an, aq, ao, rfl, S71, f72, f73, f74, hj60, hJ60, h⟩
 rcases k with _ | k
 have hk76 := h; obtain ⟨o60, h⟩ := ex_eq (Sum.inr (Sum.inl s1) : (Det × Bool) ⊕ (((List (List Int)) × (List Pair)) ⊕ ((List (List Int)) × (List Pair))))
 have hc60 : decide (v28 < (p1.length : Int)) = false := Jo2 (by omega)
 refine Je [2] R (Jb 1 R (Jq (Jw2 R hc60 (Jc1 (Jt (Jt ?_))))))
 cases h
 have h := hk76
 refine Jb1 ?_
 cases h
 exact Jw1 _ ⟨K70, ((s1.1 : (List (List Int))), (s1.2 : (List Pair))), ap, an, aq, ao, R, S71.wk R, f72, f73, f74, R⟩ (KM R)
 obtain ⟨o60, h, hk76⟩ := BI h; unfold i_ProductOf_b0 at h
 have hc60 : decide (v28 < (p1.length : Int)) = true := Jn2 (by omega)
 refine Je [2] R (Jb 1 R (Jq (Jv2 R hc60 (Js (Jp (Jq (Jv (Je [2, 1, 1, 1] R (Ob h fun x30 hx30 h => Jf R (Jf2 g1 hx30 U35 Z71 R R R R) ?_)))))))))
 obtain ⟨cse78, hre78, hle78⟩ := ((g1.stp (S3.tr (S7.tr (S14.tr (S30.tr (S42.tr (S47.tr (S51.tr (S55.tr (S58.tr S71))))))))) R R)).gSt hx30
 obtain ⟨ae78_0, ue78_0, ae78_1, ue78_1, rfl, fe78_0, fe78_1⟩ := Clause.un hre78
 refine Jl tv R R R R (Jd2 (cs := [vi x30.Kind, .slice ae78_0 x30.A.length ue78_0, .slice ae78_1 x30.B.length ue78_1]) I71 Z71 R R R (haE hle78)) (Jg1 (κ := K70) 12 R R R R R X71 R fun b8 w79 K80 S81 f82 => ⟨tv, Jj1 (κ := K80) 12 (vc := [vi x30.Kind, .slice ae78_0 x30.A.length ue78_0, .slice ae78_1 x30.B.length ue78_1]) R R R R R R R Z71 R R f82 R fun w83 S84 f85 => ⟨tv, Jd (Jq (Ob h fun x36 hx36 h => Ob h fun x37 hx37 h => Jx1 (fun L w' => ∃ κ' b9 aj af ae ak, L = [(2, .pointer (some ⟨b2, 0, none⟩)), (4, .pointer (some ⟨b4, 0, none⟩)), (6, .pointer (some ⟨b6, 0, none⟩)), (9, .pointer (some ⟨b9, 0, none⟩)), (10, .bool x37.2), (26, .slice a1 p1.length u1), (27, vi (p1.length : Int)), (28, vi v28)] ∧ Stp [13, 17, 19, 20, 21] K80 w83 κ' w' ∧ Oc (Ep.own E6 2) 40 κ' w' 13 aj af x37.1.Next ∧ Oc Pair.ep92 92 κ' w' 14 ae ak x37.1.Pairs ∧ Bc κ' w' 15 b9 94 [.slice aj x37.1.Next.length af, .slice ae x37.1.Pairs.length ak]) ?_ ?_))⟩⟩)
 refine WC.rxt (κ := K80) [2, 10, 12] none (by kernel_rfl) fun w93 S94 => Jq1 (fuel := 8) [(0, 0), (1, 0), (2, 0)] (by kernel_rfl) (by kernel_rfl) R (Jg R (Jd2 (cs := [.slice ap s1.1.length an, .slice aq s1.2.length ao]) I94 Z94 R R R (haC (f74.stp (S81.tr (S84.tr S94)) R R).cells R)) (Jg R (Jd2 (cs := [vi p0.In, vi p0.Out]) I31 Z31 R R R (haC (f37.stp (S42.tr (S47.tr (S51.tr (S55.tr (S58.tr (S71.tr (S81.tr (S84.tr S94)))))))) R R).cells R)) (Jg R (Jd2 (cs := [vi x30.Kind, .slice ae78_0 x30.A.length ue78_0, .slice ae78_1 x30.B.length ue78_1]) I71 Z71 R R R (haC (f85.stp S94 R R).cells R)) (Jp1 (WA.fork2 (fuel := 7) 3 8 (by kernel_rfl) R ?_ ?_)))))
 refine Jh R R R C121 (i_monitorOf_ok (κ := fun b => mp [] 0 (K80 b)) (p0 := p0) (p1 := x30) (Jl2 (fe78_0.stp (S81.tr (S84.tr S94)) R R) (mp [] 0) R R) (Jl2 (fe78_1.stp (S81.tr (S84.tr S94)) R R) (mp [] 0) R R) hx36) ?_
 rintro _ w100 ⟨k101, ay, ax, aA, az, rfl, e102, f103, f104⟩
 obtain ⟨K105, S106, m107⟩ := Ji e102 13 R
 refine ⟨(S106.cl R), ?_⟩
 have f109 := f103.mx (no_own (no_int _) _) m107 R (R : 13 + 2 = 15)
 have f110 := f104.mx Pair.no92 m107 R (R : 13 + 3 = 16)
 refine Jp1 (WA.fork2 (fuel := 6) 4 8 (by kernel_rfl) R ?_ ?_)
 have S001 := (S81.tr (S84.tr (S94.tr S106)))
 refine Jh R R R C120 (i_joinedDet_ok (κ := fun b => mp [] 0 (K105 b)) (p0 := (⟨s1.1, s1.2⟩ : Det)) (p1 := x36) (Jl2 (f72.stp S001 R R).rdc (mp [] 0) R R) (Jl2 (f73.stp S001 R R).rdc (mp [] 0) R R) (Jl2 f109.rdc (mp [] 0) R R) (Jl2 f110.rdc (mp [] 0) R R) hx37) ?_
 rintro _ w113 ⟨k114, aa, ab, ad, ac, rfl, e115, f116, f117⟩
 obtain ⟨K118, S119, m120⟩ := Ji e115 17 R
 have S002 := (S106.tr S119)
 exact ⟨(S002.cl R), Jp1 (Jq1 (fuel := 0) [(5, 2), (6, 2), (7, 2), (8, 1), (9, 1), (10, 2)] (by kernel_rfl) (by kernel_rfl) R (Jn 3 R (Jg1 (κ := K118) 21 R R R R R X94 R fun b9 w124 K125 S126 f127 => ⟨((S002.tr S126).cl R), Jj1 (κ := K125) 21 (vc := [.slice aa x37.1.Next.length ab, .slice ad x37.1.Pairs.length ac]) R R R R R R R Z94 R R f127 R fun w128 S129 f130 => ⟨((S002.tr (S126.tr S129)).cl R), Jn 1 R (Jp1 (Jr1 [] (by kernel_rfl) (by kernel_rfl) R (Jo (Jw1 _ ⟨(fun b => ren [(19, 13), (20, 14), (21, 15)] (K125 b)), b9, aa, ab, ad, ac, R, (Jy2 ((S94.tr (S106.tr (S119.tr (S126.tr S129)))).wk R) [(19, 13), (20, 14), (21, 15)] R), (((f116.mx (no_own (no_int _) _) m120 R (R : 17 + 2 = 19)).stp (S126.tr S129) R R).map (ren [(19, 13), (20, 14), (21, 15)]) R R), (((f117.mx Pair.no92 m120 R (R : 17 + 3 = 20)).stp (S126.tr S129) R R).map (ren [(19, 13), (20, 14), (21, 15)]) R R), (f130.map (ren [(19, 13), (20, 14), (21, 15)]) R R)⟩ (KM R)))))⟩⟩)))⟩
 have S003 := (S81.tr (S84.tr (S94.tr S106)))
 refine Jg1 (κ := K105) 17 R R R R R X94 R fun b9 w133 K134 S135 f136 => ⟨((S106.tr S135).cl R), Jp1 (Jq1 (fuel := 0) [(4, 1), (5, 2), (6, 2), (7, 2), (9, 1), (10, 2)] (by kernel_rfl) (by kernel_rfl) R (Jh R R R C120 (i_joinedDet_ok (κ := fun b => mp [] 0 (K134 b)) (p0 := (⟨s1.1, s1.2⟩ : Det)) (p1 := x36) (Jl2 (f72.stp (S003.tr S135) R R).rdc (mp [] 0) R R) (Jl2 (f73.stp (S003.tr S135) R R).rdc (mp [] 0) R R) (Jl2 (f109.stp S135 R R).rdc (mp [] 0) R R) (Jl2 (f110.stp S135 R R).rdc (mp [] 0) R R) hx37) ?_))⟩
 rintro _ w141 ⟨k142, aa, ab, ad, ac, rfl, e143, f144, f145⟩
 obtain ⟨K146, S147, m148⟩ := Ji e143 18 R
 have S004 := (S106.tr (S135.tr S147))
 exact ⟨(S004.cl R), Jn 3 R (Jj1 (κ := K146) 17 (vc := [.slice aa x37.1.Next.length ab, .slice ad x37.1.Pairs.length ac]) R R R R R R R Z94 R R (f136.stp S147 R R) R fun w153 S154 f155 => ⟨((S004.tr S154).cl R), Jn 1 R (Jp1 (Jr1 [] (by kernel_rfl) (by kernel_rfl) R (Jo (Jw1 _ ⟨(fun b => ren [(20, 13), (21, 14), (17, 15)] (K146 b)), b9, aa, ab, ad, ac, R, (Jy2 ((S94.tr (S106.tr (S135.tr (S147.tr S154)))).wk R) [(20, 13), (21, 14), (17, 15)] R), (((f144.mx (no_own (no_int _) _) m148 R (R : 18 + 2 = 20)).stp S154 R R).map (ren [(20, 13), (21, 14), (17, 15)]) R R), (((f145.mx Pair.no92 m148 R (R : 18 + 3 = 21)).stp S154 R R).map (ren [(20, 13), (21, 14), (17, 15)]) R R), (f155.map (ren [(20, 13), (21, 14), (17, 15)]) R R)⟩ (KM R)))))⟩)⟩
 refine Jg1 (κ := K80) 13 R R R R R X94 R fun b9 w158 K159 S160 f161 => ⟨(S160.cl R), Jp1 (Jq1 (fuel := 0) [(3, 1), (4, 1), (5, 2), (6, 2), (7, 2), (9, 1), (10, 2)] (by kernel_rfl) (by kernel_rfl) R (Jh R R R C121 (i_monitorOf_ok (κ := fun b => mp [] 0 (K159 b)) (p0 := p0) (p1 := x30) (Jl2 (fe78_0.stp (S81.tr (S84.tr (S94.tr S160))) R R) (mp [] 0) R R) (Jl2 (fe78_1.stp (S81.tr (S84.tr (S94.tr S160))) R R) (mp [] 0) R R) hx36) ?_))⟩
 rintro _ w164 ⟨k165, ay, ax, aA, az, rfl, e166, f167, f168⟩
 obtain ⟨K169, S170, m171⟩ := Ji e166 14 R
 have S005 := (S81.tr (S84.tr (S94.tr (S160.tr S170))))
 refine ⟨((S160.tr S170).cl R), Jh R R R C120 (i_joinedDet_ok (κ := fun b => mp [] 0 (K169 b)) (p0 := (⟨s1.1, s1.2⟩ : Det)) (p1 := x36) (Jl2 (f72.stp S005 R R).rdc (mp [] 0) R R) (Jl2 (f73.stp S005 R R).rdc (mp [] 0) R R) (Jl2 (f167.mx (no_own (no_int _) _) m171 R (R : 14 + 2 = 16)).rdc (mp [] 0) R R) (Jl2 (f168.mx Pair.no92 m171 R (R : 14 + 3 = 17)).rdc (mp [] 0) R R) hx37) ?_⟩
 rintro _ w177 ⟨k178, aa, ab, ad, ac, rfl, e179, f180, f181⟩
 obtain ⟨K182, S183, m184⟩ := Ji e179 18 R
 have S006 := (S160.tr (S170.tr S183))
 exact ⟨(S006.cl R), Jn 3 R (Jj1 (κ := K182) 13 (vc := [.slice aa x37.1.Next.length ab, .slice ad x37.1.Pairs.length ac]) R R R R R R R Z94 R R (f161.stp (S170.tr S183) R R) R fun w189 S190 f191 => ⟨((S006.tr S190).cl R), Jn 1 R (Jp1 (Jr1 [] (by kernel_rfl) (by kernel_rfl) R (Jo (Jw1 _ ⟨(fun b => ren [(20, 13), (21, 14), (13, 15)] (K182 b)), b9, aa, ab, ad, ac, R, (Jy2 ((S94.tr (S160.tr (S170.tr (S183.tr S190)))).wk R) [(20, 13), (21, 14), (13, 15)] R), (((f180.mx (no_own (no_int _) _) m184 R (R : 18 + 2 = 20)).stp S190 R R).map (ren [(20, 13), (21, 14), (13, 15)]) R R), (((f181.mx Pair.no92 m184 R (R : 18 + 3 = 21)).stp S190 R R).map (ren [(20, 13), (21, 14), (13, 15)]) R R), (f191.map (ren [(20, 13), (21, 14), (13, 15)]) R R)⟩ (KM R)))))⟩)⟩
 rintro _ w86 ⟨K87, b9, aj, af, ae, ak, rfl, S88, f90, f91, f92⟩
 refine Jp (Jq (Je [2, 2] R (Jb 2 R ?_)))
 revert h
 cases ht194 : (!x37.2)
 refine JF fun h => Jy R (Js (Jp (Ja [1, 1] R (Jl tv R R R R (Jd2 (cs := [.slice aj x37.1.Next.length af, .slice ae x37.1.Pairs.length ak]) I94 Z94 R R R (haE f92.cells)) (Jj1 (κ := K87) 10 (vc := [.slice aj x37.1.Next.length af, .slice ae x37.1.Pairs.length ak]) R R R R R R R Z94 R R (f74.stp (S81.tr (S84.tr S88)) R R) R fun w201 S202 f203 => ⟨tv, Jo (Jz (Jp (Ja [2, 2] R (Jc 2 R ?_))))⟩)))))
 have hw60 : IntKind.wrap .i64 (v28 + 1) = v28 + 1 := wr1 hj60 (Jm2 hc60) hN60
 rw [hw60]
 have hc60 := Jm2 hc60
 cases h
 exact Jz1 fun a ha => ⟨k, _, Ja3 _, ⟨(fun b => ren [(13, 9), (14, 11)] (K87 b)), v28 + 1, ((x37.1.Next : (List (List Int))), (x37.1.Pairs : (List Pair))), aj, af, ae, ak, R, (Jy2 ((S71.tr (S81.tr (S84.tr (S88.tr S202)))).wk R) [(13, 9), (14, 11)] R), ((f90.stp S202 R R).map (ren [(13, 9), (14, 11)]) R R), ((f91.stp S202 R R).map (ren [(13, 9), (14, 11)]) R R), (f203.map (ren [(13, 9), (14, 11)]) R R), by omega, by omega, hk76⟩, (ha.mm R)⟩
 refine JT fun h => Jx R (Je [2, 1, 2] R (Jf R (rn_build (parts := []) (cells := [.slice none 0 0, .slice none 0 0]) R R (by kernel_rfl)) (Jj1 (κ := K87) 3 (vc := [.slice none 0 0, .slice none 0 0]) R R R R R R R Z94 R R (f8.stp (S14.tr (S30.tr (S42.tr (S47.tr (S51.tr (S55.tr (S58.tr (S71.tr (S81.tr (S84.tr S88)))))))))) R R) R fun w196 S197 f198 => ⟨tv, Jb 1 R (Ju (Jw (Ja1 (Jw (Jw ?_)))))⟩)))
 cases h
 obtain rfl := Option.some.inj hk76
 have h := hK61
 dsimp only [aft] at h
 refine Ja1 (Jq2 (Jw (Ja2 (l := [.cell 4 94, .tmp 5]) V71 (res_cellA R f198 I94 Z94 R (Jp2 R R)) R ?_)))
 cases h
 exact ⟨K87, none, 0, none, 0, R, (hE.stp (S3.tr (S7.tr (S14.tr (S30.tr (S42.tr (S47.tr (S51.tr (S55.tr (S58.tr (S71.tr (S81.tr (S84.tr (S88.tr S197))))))))))))) R R), Ow.nil, Ow.nil⟩
 rintro _ w63 ⟨K64, s3, al, ah, ai, am, rfl, S65, f66, f67, f68, rfl⟩
 have h := hK61
 dsimp only [aft] at h
 refine Jp (Je [1, 1, 2] R (Jl tv R R R R (Jd2 (cs := [.slice al s3.1.length ah, .slice ai s3.2.length am]) I94 Z94 R R R (haE f68.cells)) (Jj1 (κ := K64) 3 (vc := [.slice al s3.1.length ah, .slice ai s3.2.length am]) R R R R R R R Z94 R R (f8.stp (S14.tr (S30.tr (S42.tr (S47.tr (S51.tr (S55.tr (S58.tr S65))))))) R R) R fun w207 S208 f209 => ⟨tv, Jb 1 R (Ju (Ja2 (l := [.cell 4 94, .tmp 5]) V71 (res_cellA R f209 I94 Z94 R (Jp2 R R)) R ?_))⟩)))
 cases h
 exact ⟨(fun b => ren [(9, 2), (11, 3)] (K64 b)), al, ah, ai, am, R, ((hE.stp (S3.tr (S7.tr (S14.tr (S30.tr (S42.tr (S47.tr (S51.tr (S55.tr (S58.tr (S65.tr S208)))))))))) R R).map (ren [(9, 2), (11, 3)]) R R), ((f66.stp S208 R R).map (ren [(9, 2), (11, 3)]) R R), ((f67.stp S208 R R).map (ren [(9, 2), (11, 3)]) R R)⟩
 refine JT fun h => Jx R (Je [2, 1, 2] R (Jf R (rn_build (parts := []) (cells := [.slice none 0 0, .slice none 0 0]) R R (by kernel_rfl)) (Jj1 (κ := K29) 3 (vc := [.slice none 0 0, .slice none 0 0]) R R R R R R R Z94 R R (f8.stp (S14.tr S30) R R) R fun w33 S34 f35 => ⟨tv, Jb 1 R (Ju (Jw (Ja2 (l := [.cell 4 94, .tmp 5]) V71 (res_cellA R f35 I94 Z94 R (Jp2 R R)) R ?_)))⟩)))
 cases h
 exact ⟨K29, none, 0, none, 0, R, (hE.stp (S3.tr (S7.tr (S14.tr (S30.tr S34)))) R R), Ow.nil, Ow.nil⟩
theorem i_brokenBy_ok {w : World} {κ : Col} {a0 u0} {p0 : (List Pair)} {a1 u1} {p1 : (List Int)} (g0 : Rd Pair.rp κ w 0 a0 u0 p0) (g1 : Rd (Rp.int .i64) κ w 0 a1 u1 p1) {r : (List Int)} (h : i_brokenBy p0 p1 = some r) : Ret Tryz.prog 125 [.slice a0 p0.length u0, .slice a1 p1.length u1] w (fun v w' => ∃ (κ' : Col) (ra0 : Option Addr) (ru0 : Nat), v = .slice ra0 r.length ru0 ∧ Ent κ w κ' w' ∧ Oc E6 2 κ' w' 2 ra0 ru0 r) := by
 unfold i_brokenBy at h
 refine Ret.enter F125 R N125 R ?_
 dsimp only [envOf]
 have hE := Ent.refl κ w
 refine Je [2] R (Jb 1 R (Je [1, 2] R (Jo1 (κ := κ) (E := E6) 2 R R R R R Y40 Tryzinfo2 R fun a8 u8 w1 K2 S3 f4 => ⟨tv, Jb 1 R (Jq (Je [2, 2, 2] R (Jn 1 R (Jf R (Je2 U79 R R) (Jb 1 R ?_)))))⟩)))
 have hN5 : (p0.length : Int) ≤ 9223372036854775807 := g0.len_le
 refine Ob h fun q2 hq7 hK6 => ?_
 clear h
 refine Jx1 (fun L w' => ∃ κ', ∃ s3 : (List Int), ∃ af ac, L = [(5, .slice af s3.length ac)] ∧ Stp [2, 3] K2 w1 κ' w' ∧ Oc E6 2 κ' w' 2 af ac s3 ∧ q2 = Sum.inr s3) ?_ ?_
 refine Jv (Jy1 (fun k L w' => ∃ κ' v11, ∃ s1 : (List Int), ∃ aa ab, L = [(1, .slice a1 p1.length u1), (5, .slice aa s1.length ab), (9, .slice a0 p0.length u0), (10, vi (p0.length : Int)), (11, vi v11)] ∧ Stp [2, 3] K2 w1 κ' w' ∧ Oc E6 2 κ' w' 2 aa ab s1 ∧ 0 ≤ v11 ∧ Int.toNat ((p0.length : Int) - v11) = k ∧ cntM (i_brokenBy_b0 p0 p1) k v11 s1 = some q2) ⟨_, _, ⟨K2, 0, (([] : List Int) : (List Int)), a8, u8, R, (Jx2 _ _).wk R, f4, (by decide), (by simp), hq7⟩, (KM R)⟩ ?_)
 rintro k _ w12 ⟨K13, v11, s1, aa, ab, rfl, S14, f15, hj5, hJ5, h⟩
 rcases k with _ | k
 have hk16 := h; obtain ⟨o5, h⟩ := ex_eq (Sum.inr (Sum.inl s1) : (List Int) ⊕ (((List Int)) ⊕ ((List Int))))
 have hc5 : decide (v11 < (p0.length : Int)) = false := Jo2 (by omega)
 refine Je [2] R (Jb 1 R (Jq (Jw2 R hc5 (Jc1 (Jt (Jt ?_))))))
 cases h
 have h := hk16
 refine Jb1 ?_
 cases h
 exact Jw1 _ ⟨K13, (s1 : (List Int)), aa, ab, R, S14.wk R, f15, R⟩ (KM R)
 obtain ⟨o5, h, hk16⟩ := BI h; unfold i_brokenBy_b0 at h
 have hc5 : decide (v11 < (p0.length : Int)) = true := Jn2 (by omega)
 refine Je [2] R (Jb 1 R (Jq (Jv2 R hc5 (Js (Jp (Jq (Jv (Je [2, 2, 1, 1, 2, 1] R (Jn 1 R (Ob h fun x14 hx14 h => Jf R (Jf2 g0 hx14 U79 Z92 R R R R) ?_))))))))))
 obtain ⟨cse18, hre18, hle18⟩ := ((g0.stp (S3.tr S14) R R)).gSt hx14
 obtain ⟨ae18_0, ue18_0, ae18_1, ue18_1, rfl, fe18_0, fe18_1⟩ := Pair.un hre18
 refine Jl tv R R R R (Jd2 (cs := [.slice ae18_0 x14.Ask.length ue18_0, .slice ae18_1 x14.Give.length ue18_1]) I92 Z92 R R R (haE hle18)) (Jg1 (κ := K13) 3 R R R R R X92 R fun b7 w19 K20 S21 f22 => ⟨tv, Jn 1 R (Jj1 (κ := K20) 3 (vc := [.slice ae18_0 x14.Ask.length ue18_0, .slice ae18_1 x14.Give.length ue18_1]) R R R R R R R Z92 R R f22 R fun w23 S24 f25 => ⟨tv, Jd (Je [2, 2, 1, 1, 2, 2, 2, 1, 1, 2, 2] R (Jn 1 R (Jf R (Jb2 U92 R Z40 R R) (Jl tv R R R R (Jc2 I40 R R (hvE (f25.ld 0 R R))) (Ob h fun x19 hx19 h => ?_)))))⟩)⟩)
 have f26 := g1.stp (S3.tr (S14.tr (S21.tr S24))) R R
 refine Jh R R R C157 (i_meets_ok (κ := fun b => mp [] 0 (K20 b)) (Jl2 f26 (mp [] 0) R R) (Jl2 (fe18_0.stp (S21.tr S24) R R) (mp [] 0) R R) hx19) ?_
 rintro _ w28 ⟨k29, rfl, e30⟩
 obtain ⟨K31, S32, m33⟩ := Ji e30 4 R
 refine ⟨tv, Jn 1 R (Ob h fun p26 h hK35 => Ju1 [(5, 2), (6, 2), (7, 1), (8, 1), (9, 2), (10, 2)] [] (fun L w' => L = [(1, .slice a1 p1.length u1), (5, .slice aa s1.length ab), (6, vi v11), (9, .slice a0 p0.length u0), (10, vi (p0.length : Int)), (11, vi v11), (26, .bool p26)] ∧ ∃ κ', Stp [] K31 w28 κ' w') tv ?_ ?_)⟩
 revert h
 cases ht36 : x19
 refine JF fun h => Jn 2 R (Jd1 R R R R (Jd1 R R R R (Jn 2 R ?_)))
 cases h
 exact Jv1 _ tv ⟨R, _, (Jx2 _ _).wk R⟩ (KM R)
 refine JT fun h => Jn 1 R (Jf R (Jb2 U92 R Z40 R R) (Jl tv R R R R (Jc2 I40 R R (hvE ((f25.stp S32 R R).ld 1 R R))) (Ob h fun x24 hx24 h => Jh R R R C157 (i_meets_ok (κ := fun b => mp [] 0 (K31 b)) (Jl2 (f26.stp S32 R R) (mp [] 0) R R) (Jl2 (fe18_1.stp (S21.tr (S24.tr S32)) R R) (mp [] 0) R R) hx24) ?_)))
 rintro _ w40 ⟨k41, rfl, e42⟩
 obtain ⟨K43, S44, m45⟩ := Ji e42 6 R
 refine ⟨tv, Jn 2 R ?_⟩
 cases h
 exact Jv1 _ tv ⟨R, _, S44.wk R⟩ (KM R)
 rintro _ w47 _ ⟨rfl, K48, S49⟩
 have h := hK35
 refine Jd (Ob h fun q4 h hK50 => Jx1 (fun L w' => ∃ κ' ae ad, L = [(1, .slice a1 p1.length u1), (5, .slice ae q4.length ad), (9, .slice a0 p0.length u0), (10, vi (p0.length : Int)), (11, vi v11)] ∧ Stp [2] K48 w47 κ' w' ∧ Oc E6 2 κ' w' 2 ae ad q4) ?_ ?_)
 revert h
 cases ht55 : p26
 refine JF fun h => Jy R (Js ?_)
 cases h
 exact Jw1 _ ⟨K48, aa, ab, R, (Jx2 _ _).wk R, (f15.stp (S21.tr (S24.tr (S32.tr S49))) R R)⟩ (KM R)
 refine JT fun h => Jx R (Ja [2, 2, 1, 1, 2] R (Jn 2 R (Jn1 (κ := K48) (E := E6) 6 [] (parts := [(0, .tmp 28)]) (cells := [vi v11]) (xs := ([v11] : List Int)) R R R R R R Y40 Tryzinfo2 R R R R R R R R R R ⟨[vi v11], [], Zl K48 w47 [], Zl K48 w47 [], R, Zl.sp (l1 := []) (l2 := []) R, Zl.sr (l1 := []) (l2 := []), R, R⟩ fun aj ak w56 K57 S58 f59 => ⟨tv, Ob h fun x30 hx30 h => Jm1 (κ := K57) (E := E6) 2 [] R R R R R R R R R Y40 Tryzinfo2 R R R R (f15.stp (S21.tr (S24.tr (S32.tr (S49.tr S58)))) R R) (Sl.srcP (pu_int _) f59.rdc) sy_false hx30 R fun ah ai w61 K62 S63 f64 => ⟨tv, Jc 1 R ?_⟩⟩)))
 cases h
 exact Jw1 _ ⟨K62, ah, ai, R, (S58.tr S63).wk R, f64⟩ (KM R)
 rintro _ w51 ⟨K52, ae, ad, rfl, S53, f54⟩
 have h := hK50
 refine Jz (Jp (Ja [2, 2] R (Jc 2 R ?_)))
 have hw5 : IntKind.wrap .i64 (v11 + 1) = v11 + 1 := wr1 hj5 (Jm2 hc5) hN5
 rw [hw5]
 have hc5 := Jm2 hc5
 cases h
 exact Jz1 fun a ha => ⟨k, _, Ja3 _, ⟨K52, v11 + 1, (q4 : (List Int)), ae, ad, R, (S14.tr (S21.tr (S24.tr (S32.tr (S49.tr S53))))).wk R, f54, by omega, by omega, hk16⟩, (ha.mm R)⟩
 rintro _ w8 ⟨K9, s3, af, ac, rfl, S10, f11, rfl⟩
 have h := hK6
 dsimp only [aft] at h
 refine Jp (Je [2, 2] R (Jb 2 R (Ju (Ja2 (l := [.tmp 4]) V125 (Jp2 R R) R ?_))))
 cases h
 exact ⟨K9, af, ac, R, (hE.stp (S3.tr S10) R R), f11⟩
theorem i_fairIn_ok (n : Nat) : ∀ {w : World} {κ : Col} {a0 u0} {p0 : (List (List Int))} {a1 u1} {p1 : (List Pair)} {a2 u2} {p2 : (List Int)} (g0 : Rd (Rp.sl (Rp.int .i64)) κ w 0 a0 u0 p0) (g1 : Rd Pair.rp κ w 0 a1 u1 p1) (g2 : Rd (Rp.int .i64) κ w 0 a2 u2 p2) {r : Bool} (h : i_fairIn n p0 p1 p2 = some r), Ret Tryz.prog 74 [.slice a0 p0.length u0, .slice a1 p1.length u1, .slice a2 p2.length u2] w (fun v w' => ∃ (κ' : Col), v = .bool r ∧ Ent κ w κ' w') := by
 induction n with
 | zero =>
  intro w κ a0 u0 p0 a1 u1 p1 a2 u2 p2 g0 g1 g2 r h
  cases h
 | succ n ih =>
  intro w κ a0 u0 p0 a1 u1 p1 a2 u2 p2 g0 g1 g2 r h
  have h : i_fairIn_s (i_fairIn n) p0 p1 p2 = some r := h
  unfold i_fairIn_s at h
  refine Ret.enter F74 R N74 R ?_
  dsimp only [envOf]
  have hE := Ent.refl κ w
  refine Je [2] R (Jb 1 R (Je [2, 2, 1, 2] R (Jn 1 R (Jf R (Je2 U24 R R) (Ob h fun x15 hx15 h => Jl1 (κ := κ) (E := Ep.bool) (z := (false : Bool)) 2 R R R R R R R Y135 Tryzinfo4 R R R R R (fun _ _ _ => R) (Ju2 hx15) fun am al w1 K2 S3 f4 => ⟨tv, Jb 1 R (Je [2, 2, 1] R (Jn 2 R (Ob h fun x18 hx18 h => Jh R R R C123 (i_markAll_ok (κ := fun b => mp [(2, 2)] 0 (K2 b)) (f4.map (mp [(2, 2)] 0) R R) (Jl2 (g2.stp S3 R R) (mp [(2, 2)] 0) R R) hx18) ?_)))⟩)))))
  rintro _ w6 ⟨k7, rfl, e8, f9, hn10⟩
  obtain ⟨K11, S12, m13⟩ := Ji e8 3 R
  refine ⟨tv, Jd (Jq (Je [2, 2, 1, 2, 2] R (Jn 2 R ?_)))⟩
  obtain ⟨K16, S17, z18⟩ := fz_ex K11 w6 5
  refine Ob h fun x21 hx21 h => ?_
  have f20 := g0.stp (S3.tr (S12.tr S17)) R R
  refine Jh R R R C124 (Ret.cast (by simp only [(hn10), List.cons_append, List.nil_append]) (i_loopsIn_ok (κ := fun b => mp [] 1 (K16 b)) (Jl2 f20 (mp [] 1) R R) (Jl2 (Sl.st z18 (f9.mx no_bool m13 R (R : 3 + 2 = 5)).rdc) (mp [] 1) R R) hx21)) ?_
  rintro _ w21 ⟨k22, ab, ad, rfl, e23, f24⟩
  obtain ⟨K25, S26, m27, z28⟩ := Jj e23 6 R
  refine ⟨tv, ?_⟩
  have f29 := f24.mxz z28 m27 R (R : 6 + 2 = 8)
  refine Jf R (Je2 U24 R R) (Jb 1 R ?_)
  have hN30 : (x21.length : Int) ≤ 9223372036854775807 := f29.len_le
  refine Ob h fun q2 hq32 hK31 => ?_
  clear h
  refine Jx1 (fun L w' => ∃ κ', L = [] ∧ Stp [14] K25 w21 κ' w' ∧ q2 = Sum.inr ()) ?_ ?_
  refine Jv (Jy1 (fun k L w' => ∃ κ' v23, L = [(0, .slice a0 p0.length u0), (1, .slice a1 p1.length u1), (21, .slice ab x21.length ad), (22, vi (x21.length : Int)), (23, vi v23)] ∧ Stp [14] K25 w21 κ' w' ∧ 0 ≤ v23 ∧ Int.toNat ((x21.length : Int) - v23) = k ∧ cntM (i_fairIn_b0 (i_fairIn n) p0 p1 x21) k v23 () = some q2) ⟨_, _, ⟨K25, 0, R, (Jx2 _ _).wk R, (by decide), (by simp), hq32⟩, (KM R)⟩ ?_)
  rintro k _ w36 ⟨K37, v23, rfl, S38, hj30, hJ30, h⟩
  rcases k with _ | k
  have hk39 := h; obtain ⟨o30, h⟩ := ex_eq (Sum.inr (Sum.inl ()) : Bool ⊕ ((Unit) ⊕ (Unit)))
  have hc30 : decide (v23 < (x21.length : Int)) = false := Jo2 (by omega)
  refine Je [2] R (Jb 1 R (Jq (Jw2 R hc30 (Jc1 (Jt (Jt ?_))))))
  cases h
  have h := hk39
  refine Jb1 ?_
  cases h
  exact Jw1 _ ⟨K37, R, S38.wk R, R⟩ KN
  obtain ⟨o30, h, hk39⟩ := BI h; unfold i_fairIn_b0 at h
  have hc30 : decide (v23 < (x21.length : Int)) = true := Jn2 (by omega)
  refine Je [2] R (Jb 1 R (Jq (Jv2 R hc30 (Js (Jp (Jq (Jv (Je [2, 1, 2] R (Ob h fun x25 hx25 h => Jf R (Jf2 f29.rdc hx25 U24 Z40 R R R R) ?_)))))))))
  obtain ⟨ax25, ux25, f41, hl42⟩ := (f29.stp S38 R R).gZ hx25
  refine Jl tv R R R R (Jc2 I40 R R (hvE hl42)) (Jb 1 R (Je [2, 2] R (Jb 2 R (Jq (Je [2, 2, 1, 2, 2] R (Jn 2 R (Ob h fun x30 hx30 h => ?_)))))))
  have f43 := g1.stp (S3.tr (S12.tr (S17.tr (S26.tr S38)))) R R
  refine Jh R R R C125 (i_brokenBy_ok (κ := fun b => mp [] 0 (K37 b)) (Jl2 f43 (mp [] 0) R R) (Jl2 f41 (mp [] 0) R R) hx30) ?_
  rintro _ w44 ⟨k45, ai, aj, rfl, e46, f47⟩
  obtain ⟨K48, S49, m50⟩ := Ji e46 9 R
  refine ⟨tv, ?_⟩
  have f52 := f47.mx (no_int _) m50 R (R : 9 + 2 = 11)
  refine Jf R (Je2 U40 R R) (Jb 1 R ?_)
  have hN53 : (x30.length : Int) ≤ 9223372036854775807 := f52.len_le
  refine Ob h fun q5 hq55 hK54 => ?_
  clear h
  refine Jx1 (fun L w' => ∃ κ', ∃ s6 : (List Int), ∃ ae af, L = [(0, .slice a0 p0.length u0), (1, .slice a1 p1.length u1), (9, .slice ax25 x25.length ux25), (10, .slice ae s6.length af), (21, .slice ab x21.length ad), (22, vi (x21.length : Int)), (23, vi v23)] ∧ Stp [14] K48 w44 κ' w' ∧ Rd (Rp.int .i64) κ' w' 0 ae af s6 ∧ q5 = Sum.inr s6) ?_ ?_
  refine Jv (Jy1 (fun k L w' => ∃ κ' v32, ∃ s4 : (List Int), ∃ ac aa, L = [(0, .slice a0 p0.length u0), (1, .slice a1 p1.length u1), (9, .slice ax25 x25.length ux25), (10, .slice ac s4.length aa), (21, .slice ab x21.length ad), (22, vi (x21.length : Int)), (23, vi v23), (30, .slice ai x30.length aj), (31, vi (x30.length : Int)), (32, vi v32)] ∧ Stp [14] K48 w44 κ' w' ∧ Rd (Rp.int .i64) κ' w' 0 ac aa s4 ∧ 0 ≤ v32 ∧ Int.toNat ((x30.length : Int) - v32) = k ∧ cntM (i_fairIn_b2 p1 x30) k v32 s4 = some q5) ⟨_, _, ⟨K48, 0, (x25 : (List Int)), ax25, ux25, R, (Jx2 _ _).wk R, (f41.stp S49 R R), (by decide), (by simp), hq55⟩, (KM R)⟩ ?_)
  rintro k _ w60 ⟨K61, v32, s4, ac, aa, rfl, S62, f63, hj53, hJ53, h⟩
  rcases k with _ | k
  have hk65 := h; obtain ⟨o53, h⟩ := ex_eq (Sum.inr (Sum.inl s4) : Bool ⊕ (((List Int)) ⊕ ((List Int))))
  have hc53 : decide (v32 < (x30.length : Int)) = false := Jo2 (by omega)
  refine Je [2] R (Jb 1 R (Jq (Jw2 R hc53 (Jc1 (Jt (Jt ?_))))))
  cases h
  have h := hk65
  refine Jb1 ?_
  cases h
  exact Jw1 _ ⟨K61, (s4 : (List Int)), ac, aa, R, S62.wk R, f63, R⟩ (KM R)
  obtain ⟨o53, h, hk65⟩ := BI h; unfold i_fairIn_b2 at h
  have hc53 : decide (v32 < (x30.length : Int)) = true := Jn2 (by omega)
  refine Je [2] R (Jb 1 R (Jq (Jv2 R hc53 (Js (Jp (Jq (Jv (Je [2, 1, 2] R (Ob h fun x34 hx34 h => Jf R (Jf2 f52.rdc hx34 U40 Z2 R R R R) (Jl tv R R R R (Jc2 I2 R R (hvE ((f52.stp S62 R R).rdc.gInt hx34))) (Jb 1 R (Ja [2, 2, 2, 2, 2, 1, 1, 2] R (Jn 3 R (Ob h fun x39 hx39 h => Jf R (Jf2 f43 hx39 U79 Z92 R R R R) (Jf R (Jb2 U92 R Z40 R R) ?_)))))))))))))))
  obtain ⟨cse68, hre68, hle68⟩ := ((f43.stp (S49.tr S62) R R)).gSt hx39
  obtain ⟨ae68_0, ue68_0, ae68_1, ue68_1, rfl, fe68_0, fe68_1⟩ := Pair.un hre68
  refine Jl tv R R R R (Jc2 I40 R R (hvE (fun w' hw' => hle68 w' hw' 0 _ R))) (Ob h fun x42 hx42 h => Jh R R R C126 (i_lessOf_ok (κ := fun b => mp [] 0 (K61 b)) (Jl2 f63 (mp [] 0) R R) (Jl2 fe68_0 (mp [] 0) R R) hx42) ?_)
  rintro _ w69 ⟨k70, ak, ah, rfl, e71, f72⟩
  obtain ⟨K73, S74, m75⟩ := Ji e71 12 R
  refine ⟨tv, Jc 1 R (Jz (Jp (Ja [2, 2] R (Jc 2 R ?_))))⟩
  have hw53 : IntKind.wrap .i64 (v32 + 1) = v32 + 1 := wr1 hj53 (Jm2 hc53) hN53
  rw [hw53]
  have hc53 := Jm2 hc53
  obtain ⟨K78, S79, z80⟩ := fz_ex K73 w69 14
  cases h
  exact Jz1 fun a ha => ⟨k, _, Ja3 _, ⟨K78, v32 + 1, (x42 : (List Int)), ak, ah, R, (S62.tr (S74.tr S79)).wk R, (Sl.st z80 (f72.mx (no_int _) m75 R (R : 12 + 2 = 14)).rdc), by omega, by omega, hk65⟩, (ha.mm R)⟩
  rintro _ w56 ⟨K57, s6, ae, af, rfl, S58, f59, rfl⟩
  have h := hK54
  dsimp only [aft] at h
  refine Jp (Je [2, 2, 2, 2, 2, 2, 2, 2, 2, 1, 2] R (Jn 1 R (Jf R (Je2 U40 R R) (Jn 1 R (Jf R (Je2 U40 R R) (Jn 2 R (Ob h fun p54 h hK82 => Ju1 [(6, 2), (7, 2), (8, 2), (9, 1), (10, 2)] [] (fun L w' => L = [(0, .slice a0 p0.length u0), (1, .slice a1 p1.length u1), (21, .slice ab x21.length ad), (22, vi (x21.length : Int)), (23, vi v23), (54, .bool p54)] ∧ ∃ κ', Stp [] K57 w56 κ' w') tv ?_ ?_)))))))
  revert h
  cases ht83 : ((s6.length : Int) == (x25.length : Int))
  refine JF fun h => Jn 3 R (Ob h fun x53 hx53 h => Jh R R R C74 (ih (κ := fun b => mp [] 0 (K57 b)) (Jl2 (f20.stp (S26.tr (S38.tr (S49.tr S58))) R R) (mp [] 0) R R) (Jl2 (f43.stp (S49.tr S58) R R) (mp [] 0) R R) (Jl2 f59 (mp [] 0) R R) hx53) ?_)
  rintro _ w86 ⟨k87, rfl, e88⟩
  obtain ⟨K89, S90, m91⟩ := Ji e88 12 R
  refine ⟨tv, Jn 1 R ?_⟩
  cases h
  exact Jv1 _ tv ⟨R, _, S90.wk R⟩ (KM R)
  refine JT fun h => Jn 3 R (Jd1 R R R R (Jn 1 R ?_))
  cases h
  exact Jv1 _ tv ⟨R, _, (Jx2 _ _).wk R⟩ (KM R)
  rintro _ w93 _ ⟨rfl, K94, S95⟩
  have h := hK82
  refine Jd ?_
  revert h
  cases ht96 : p54
  refine JF fun h => Jy R (Js (Jz (Jp (Ja [2, 2] R (Jc 2 R ?_)))))
  have hw30 : IntKind.wrap .i64 (v23 + 1) = v23 + 1 := wr1 hj30 (Jm2 hc30) hN30
  rw [hw30]
  have hc30 := Jm2 hc30
  cases h
  exact Jz1 fun a ha => ⟨k, _, Ja3 _, ⟨K94, v23 + 1, R, (S38.tr (S49.tr (S58.tr S95))).wk R, by omega, by omega, hk39⟩, (ha.mm R)⟩
  refine JT fun h => Jx R (Je [2] R (Jb 1 R (Ju (Ja1 (Jw (Jw ?_))))))
  cases h
  obtain rfl := Option.some.inj hk39
  have h := hK31
  dsimp only [aft] at h
  refine Ja1 (Jq2 (Jw (Ja2 (l := [.tmp 6]) V74 (Jp2 R R) R ?_)))
  cases h
  exact ⟨K94, R, (hE.stp (S3.tr (S12.tr (S17.tr (S26.tr (S38.tr (S49.tr (S58.tr S95))))))) R R)⟩
  rintro _ w33 ⟨K34, rfl, S35, rfl⟩
  have h := hK31
  dsimp only [aft] at h
  refine Jp (Je [2] R (Jb 1 R (Ju (Ja2 (l := [.tmp 6]) V74 (Jp2 R R) R ?_))))
  cases h
  exact ⟨K34, R, (hE.stp (S3.tr (S12.tr (S17.tr (S26.tr S35)))) R R)⟩
end Go.Proofs.YtcmamhmpoinmnaaGreat
