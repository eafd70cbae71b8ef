/- The walks, part 4. By program. -/
import Derived.Test.YtcmamhmpoinmnaaFns3FI
set_option linter.unusedVariables false
set_option linter.unusedSimpArgs false
namespace Go.Proofs.Ytcmamhmpoinmnaa
open Go Go.Wk Go.Proofs
set_option maxRecDepth 100000
set_option maxHeartbeats 1000000
theorem l_FnExactFairIn_ok {w : World} {κ : Col} {a0 u0} {p0 : (List (List Int))} {a1 u1} {p1 : (List Pair)} {a2 u2} {p2 : (List Int)} (g0 : Rd (Rp.sl (Rp.int .i64)) κ w 0 a0 u0 p0) (g1 : Rd Pair.rp κ w 0 a1 u1 p1) (g2 : Rd (Rp.int .i64) κ w 0 a2 u2 p2) {r : Bool} (h : l_FnExactFairIn p0 p1 p2 = some r) : Ret Try.prog 3 [.slice a0 p0.length u0, .slice a1 p1.length u1, .slice a2 p2.length u2] w (fun v w' => ∃ (κ' : Col), v = .bool r ∧ Ent κ w κ' w') := by
 unfold l_FnExactFairIn at h
 refine Ret.enter F3 R N3 R ?_
 dsimp only [envOf]
 have hE := Ent.refl κ w
 refine Je [2] R (Jb 1 R (Jq (Je [2, 2, 2] R (Jn 1 R (Jf R (Je2 U24 R R) (Jb 1 R ?_))))))
 revert h
 cases ht1 : decide (1048576 < (p2.length : Int))
 refine JF fun h => Jy R (Js (Jp (Je [2] R (Jb 1 R (Je [2, 2, 1, 2] R (Jn 2 R (Ob h fun x18 hx18 h => Jh R R R C6 (l_szInt64SS_ok (κ := fun b => mp [] 0 (κ b)) (Jl2 g0 (mp [] 0) R R) hx18) ?_)))))))
 rintro _ w2 ⟨k3, rfl, e4⟩
 obtain ⟨K5, S6, m7⟩ := Ji e4 2 R
 refine ⟨tv, Jb 1 R (Jq (Je [2, 2] R (Jb 2 R ?_)))⟩
 revert h
 cases ht9 : decide (x18 < 0)
 refine JF fun h => Jy R (Js (Jp (Je [2, 2, 1, 2] R (Jn 2 R (Ob h fun x23 hx23 h => ?_)))))
 have f11 := g1.stp S6 R R
 refine Jh R R R C7 (l_szPairS_ok (κ := fun b => mp [] 0 (K5 b)) (Jl2 f11 (mp [] 0) R R) hx23) ?_
 rintro _ w12 ⟨k13, rfl, e14⟩
 obtain ⟨K15, S16, m17⟩ := Ji e14 4 R
 refine ⟨tv, Jb 1 R (Jq (Je [2, 2] R (Jb 2 R ?_)))⟩
 revert h
 cases ht19 : decide (x23 < 0)
 refine JF fun h => Jy R (Js (Jp (Je [2, 1, 2, 1, 2, 1, 1, 2] R (Jn 1 R (Ob h fun x27 hx27 h => ?_)))))
 have f21 := g0.stp (S6.tr S16) R R
 refine Jh R R R C9 (l_toInt64SS_ok (κ := fun b => mp [] 0 (K15 b)) (Jl2 f21 (mp [] 0) R R) hx27) ?_
 rintro _ w22 ⟨k23, an, au, rfl, e24, f25⟩
 obtain ⟨K26, S27, m28⟩ := Ji e24 6 R
 refine ⟨tv, Jn 1 R (Ob h fun x29 hx29 h => ?_)⟩
 have f31 := f11.stp (S16.tr S27) R R
 refine Jh R R R C10 (l_toPairS_ok (κ := fun b => mp [] 0 (K26 b)) (Jl2 f31 (mp [] 0) R R) hx29) ?_
 rintro _ w32 ⟨k33, am, ab, rfl, e34, f35⟩
 obtain ⟨K36, S37, m38⟩ := Ji e34 9 R
 refine ⟨tv, Jn 1 R (Ob h fun x31 hx31 h => ?_)⟩
 have f41 := g2.stp (S6.tr (S16.tr (S27.tr S37))) R R
 refine Jh R R R C11 (l_toInt64S_ok (κ := fun b => mp [] 0 (K36 b)) (Jl2 f41 (mp [] 0) R R) hx31) ?_
 rintro _ w42 ⟨k43, ar, ap, rfl, e44, f45⟩
 obtain ⟨K46, S47, m48⟩ := Ji e44 12 R
 refine ⟨tv, Ob h fun x32 hx32 h => Jh R R R C8 (s_FairIn_ok (κ := fun b => mp [] 0 (K46 b)) (Jl2 ((f25.mx (no_own (no_int _) _) m28 R (R : 6 + 2 = 8)).stp (S37.tr S47) R R).rdc (mp [] 0) R R) (Jl2 ((f35.mx Pair.no42 m38 R (R : 9 + 2 = 11)).stp S47 R R).rdc (mp [] 0) R R) (Jl2 (f45.mx (no_int _) m48 R (R : 12 + 2 = 14)).rdc (mp [] 0) R R) hx32) ?_⟩
 rintro _ w53 ⟨k54, rfl, e55⟩
 obtain ⟨K56, S57, m58⟩ := Ji e55 15 R
 refine ⟨tv, Jb 1 R (Je [2, 1, 2] R (Jn 1 R (Ob h fun x34 hx34 h => ?_)))⟩
 have f60 := f21.stp (S27.tr (S37.tr (S47.tr S57))) R R
 refine Jh R R R C9 (l_toInt64SS_ok (κ := fun b => mp [] 0 (K56 b)) (Jl2 f60 (mp [] 0) R R) hx34) ?_
 rintro _ w61 ⟨k62, ah, aj, rfl, e63, f64⟩
 obtain ⟨K65, S66, m67⟩ := Ji e63 17 R
 refine ⟨tv, Jb 1 R (Je [2, 1, 2] R (Jn 1 R (Ob h fun x36 hx36 h => ?_)))⟩
 have f70 := f31.stp (S37.tr (S47.tr (S57.tr S66))) R R
 refine Jh R R R C10 (l_toPairS_ok (κ := fun b => mp [] 0 (K65 b)) (Jl2 f70 (mp [] 0) R R) hx36) ?_
 rintro _ w71 ⟨k72, ae, ak, rfl, e73, f74⟩
 obtain ⟨K75, S76, m77⟩ := Ji e73 20 R
 refine ⟨tv, Jb 1 R (Je [2, 1, 2] R (Jn 1 R (Ob h fun x38 hx38 h => ?_)))⟩
 have f80 := f41.stp (S47.tr (S57.tr (S66.tr S76))) R R
 refine Jh R R R C11 (l_toInt64S_ok (κ := fun b => mp [] 0 (K75 b)) (Jl2 f80 (mp [] 0) R R) hx38) ?_
 rintro _ w81 ⟨k82, ao, aq, rfl, e83, f84⟩
 obtain ⟨K85, S86, m87⟩ := Ji e83 23 R
 refine ⟨tv, ?_⟩
 have f89 := f84.mx (no_int _) m87 R (R : 23 + 2 = 25)
 refine Jb 1 R (Je [2, 2, 2, 1, 2] R (Jn 3 R (Ob h fun x42 hx42 h => ?_)))
 have f90 := (f64.mx (no_own (no_int _) _) m67 R (R : 17 + 2 = 19)).stp (S76.tr S86) R R
 have f91 := (f74.mx Pair.no42 m77 R (R : 20 + 2 = 22)).stp S86 R R
 refine Jh R R R C12 (i_FairIn_ok (κ := fun b => mp [] 0 (K85 b)) (Jl2 f90.rdc (mp [] 0) R R) (Jl2 f91.rdc (mp [] 0) R R) (Jl2 f89.rdc (mp [] 0) R R) hx42) ?_
 rintro _ w92 ⟨k93, rfl, e94⟩
 obtain ⟨K95, S96, m97⟩ := Ji e94 26 R
 refine ⟨tv, Jb 1 R (Jq (Je [2, 2, 2] R (Jn 2 R (Jf R (rn_neqB R R U4 R) (Jd ?_)))))⟩
 revert h
 cases ht99 : (x42 != x32)
 refine JF fun h => Jy R (Js (Jp (Jq (Je [2, 2, 1, 1, 2] R (Jn 2 R (Ob h fun x48 hx48 h => Jh R R R C9 (l_toInt64SS_ok (κ := fun b => mp [] 0 (K95 b)) (Jl2 (f60.stp (S66.tr (S76.tr (S86.tr S96))) R R) (mp [] 0) R R) hx48) ?_))))))
 rintro _ w102 ⟨k103, al, af, rfl, e104, f105⟩
 obtain ⟨K106, S107, m108⟩ := Ji e104 28 R
 refine ⟨tv, Ob h fun x49 hx49 h => Jh R R R C13 (l_eqInt64SS_ok (κ := fun b => mp [] 0 (K106 b)) (Jl2 (f90.stp (S96.tr S107) R R).rdc (mp [] 0) R R) (Jl2 (f105.mx (no_own (no_int _) _) m108 R (R : 28 + 2 = 30)).rdc (mp [] 0) R R) hx49) ?_⟩
 rintro _ w112 ⟨k113, rfl, e114⟩
 obtain ⟨K115, S116, m117⟩ := Ji e114 31 R
 refine ⟨tv, Jb 1 R ?_⟩
 revert h
 cases ht119 : (!x49)
 refine JF fun h => Jy R (Js (Jp (Jq (Je [2, 2, 1, 1, 2] R (Jn 2 R (Ob h fun x53 hx53 h => Jh R R R C10 (l_toPairS_ok (κ := fun b => mp [] 0 (K115 b)) (Jl2 (f70.stp (S76.tr (S86.tr (S96.tr (S107.tr S116)))) R R) (mp [] 0) R R) hx53) ?_))))))
 rintro _ w122 ⟨k123, ai, ac, rfl, e124, f125⟩
 obtain ⟨K126, S127, m128⟩ := Ji e124 33 R
 refine ⟨tv, Ob h fun x54 hx54 h => Jh R R R C14 (l_eqPairS_ok (κ := fun b => mp [] 0 (K126 b)) (Jl2 (f91.stp (S96.tr (S107.tr (S116.tr S127))) R R).rdc (mp [] 0) R R) (Jl2 (f125.mx Pair.no42 m128 R (R : 33 + 2 = 35)).rdc (mp [] 0) R R) hx54) ?_⟩
 rintro _ w132 ⟨k133, rfl, e134⟩
 obtain ⟨K135, S136, m137⟩ := Ji e134 36 R
 refine ⟨tv, Jb 1 R ?_⟩
 revert h
 cases ht139 : (!x54)
 refine JF fun h => Jy R (Js (Jp (Jq (Je [2, 2, 1, 1, 2] R (Jn 2 R (Ob h fun x58 hx58 h => Jh R R R C11 (l_toInt64S_ok (κ := fun b => mp [] 0 (K135 b)) (Jl2 (f80.stp (S86.tr (S96.tr (S107.tr (S116.tr (S127.tr S136))))) R R) (mp [] 0) R R) hx58) ?_))))))
 rintro _ w142 ⟨k143, ad, aa, rfl, e144, f145⟩
 obtain ⟨K146, S147, m148⟩ := Ji e144 38 R
 refine ⟨tv, Ob h fun x59 hx59 h => Jh R R R C15 (l_eqInt64S_ok (κ := fun b => mp [] 0 (K146 b)) (Jl2 (f89.stp (S96.tr (S107.tr (S116.tr (S127.tr (S136.tr S147))))) R R).rdc (mp [] 0) R R) (Jl2 (f145.mx (no_int _) m148 R (R : 38 + 2 = 40)).rdc (mp [] 0) R R) hx59) ?_⟩
 rintro _ w152 ⟨k153, rfl, e154⟩
 obtain ⟨K155, S156, m157⟩ := Ji e154 41 R
 refine ⟨tv, Jb 1 R ?_⟩
 revert h
 cases ht159 : (!x59)
 refine JF fun h => Jy R (Js (Jp (Je [2] R (Jb 1 R (Ju (Ja2 (l := [.tmp 6]) V3 (Jp2 R R) R ?_))))))
 cases h
 exact ⟨K155, R, (hE.stp (S6.tr (S16.tr (S27.tr (S37.tr (S47.tr (S57.tr (S66.tr (S76.tr (S86.tr (S96.tr (S107.tr (S116.tr (S127.tr (S136.tr (S147.tr S156))))))))))))))) R R)⟩
 refine JT fun h => Jx R (Je [2] R (Jb 1 R (Ju (Jw (Ja2 (l := [.tmp 6]) V3 (Jp2 R R) R ?_)))))
 cases h
 exact ⟨K155, R, (hE.stp (S6.tr (S16.tr (S27.tr (S37.tr (S47.tr (S57.tr (S66.tr (S76.tr (S86.tr (S96.tr (S107.tr (S116.tr (S127.tr (S136.tr (S147.tr S156))))))))))))))) R R)⟩
 refine JT fun h => Jx R (Je [2] R (Jb 1 R (Ju (Jw (Ja2 (l := [.tmp 6]) V3 (Jp2 R R) R ?_)))))
 cases h
 exact ⟨K135, R, (hE.stp (S6.tr (S16.tr (S27.tr (S37.tr (S47.tr (S57.tr (S66.tr (S76.tr (S86.tr (S96.tr (S107.tr (S116.tr (S127.tr S136))))))))))))) R R)⟩
 refine JT fun h => Jx R (Je [2] R (Jb 1 R (Ju (Jw (Ja2 (l := [.tmp 6]) V3 (Jp2 R R) R ?_)))))
 cases h
 exact ⟨K115, R, (hE.stp (S6.tr (S16.tr (S27.tr (S37.tr (S47.tr (S57.tr (S66.tr (S76.tr (S86.tr (S96.tr (S107.tr S116))))))))))) R R)⟩
 refine JT fun h => Jx R (Je [2] R (Jb 1 R (Ju (Jw (Ja2 (l := [.tmp 6]) V3 (Jp2 R R) R ?_)))))
 cases h
 exact ⟨K95, R, (hE.stp (S6.tr (S16.tr (S27.tr (S37.tr (S47.tr (S57.tr (S66.tr (S76.tr (S86.tr S96))))))))) R R)⟩
 refine JT fun h => Jx R (Je [2] R (Jb 1 R (Ju (Jw (Ja2 (l := [.tmp 6]) V3 (Jp2 R R) R ?_)))))
 cases h
 exact ⟨K15, R, (hE.stp (S6.tr S16) R R)⟩
 refine JT fun h => Jx R (Je [2] R (Jb 1 R (Ju (Jw (Ja2 (l := [.tmp 6]) V3 (Jp2 R R) R ?_)))))
 cases h
 exact ⟨K5, R, (hE.stp S6 R R)⟩
 refine JT fun h => Jx R (Je [2] R (Jb 1 R (Ju (Jw (Ja2 (l := [.tmp 6]) V3 (Jp2 R R) R ?_)))))
 cases h
 exact ⟨κ, R, hE⟩
end Go.Proofs.Ytcmamhmpoinmnaa
