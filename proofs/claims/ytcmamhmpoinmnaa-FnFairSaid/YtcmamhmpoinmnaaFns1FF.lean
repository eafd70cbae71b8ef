/- The walks, part 1. By program. -/
import Derived.Test.YtcmamhmpoinmnaaFns0FF
set_option linter.unusedVariables false
set_option linter.unusedSimpArgs false
namespace Go.Proofs.Ytcmamhmpoinmnaa
open Go Go.Wk Go.Proofs
set_option maxRecDepth 100000
set_option maxHeartbeats 1000000
theorem s_l1Below_ok {w : World} {κ : Col} {aa ab} {p0 : l1Cur} {p1 : Int} {b0} (g0_0 : Rd (Rp.int .u8) κ w 0 aa ab p0.b) (gb0 : Bc κ w 2 b0 102 [.slice aa p0.b.length ab, vi p0.i, vi p0.h]) {r : Int × Int × Int} (h : s_l1Below p0 p1 = some r) : Ret Try.prog 38 [.pointer (some ⟨b0, 0, none⟩), vi p1] w (fun v w' => ∃ (κ' : Col), v = vi r.1 ∧ Ent κ w κ' w' ∧ Bc κ' w' 2 b0 102 [.slice aa p0.b.length ab, vi r.2.1, vi r.2.2]) := by
 unfold s_l1Below at h
 refine Ret.enter F38 R N38 R ?_
 dsimp only [envOf]
 have hE := Ent.refl κ w
 refine Je [2] R (Jb 1 R (Jq (Je [2, 2] R (Jb 2 R ?_))))
 revert h
 cases ht1 : decide (p1 ≤ 0)
 refine JF fun h => Jy R (Js (Jp (Jq (Je [2, 2] R (Jb 2 R ?_)))))
 revert h
 cases ht2 : decide (p1 ≤ 256)
 refine JF fun h => Jy R (Js (Jp (Je [2, 1, 2] R (Jn 1 R (Ob h fun x18 hx18 h => Jh R R R C66 (s_l1Byte_ok (κ := fun b => mp [(2, 2)] 0 (κ b)) (p0 := p0) (Jl2 g0_0 (mp [(2, 2)] 0) R R) (gb0.map (mp [(2, 2)] 0) R R) hx18) ?_)))))
 rintro _ w13 ⟨k14, rfl, e15, f16⟩
 obtain ⟨K17, S18, m19⟩ := Ji e15 3 R
 refine ⟨tv, Jb 1 R (Je [2, 1, 2] R (Jn 1 R (Ob h fun x20 hx20 h => ?_)))⟩
 have f22 := g0_0.stp S18 R R
 refine Jh R R R C66 (s_l1Byte_ok (κ := fun b => mp [(5, 2)] 0 (K17 b)) (p0 := (⟨p0.b, x18.2.1, x18.2.2⟩ : l1Cur)) (Jl2 f22 (mp [(5, 2)] 0) R R) ((f16.mx m19 R (R : 3 + 2 = 5)).map (mp [(5, 2)] 0) R R) hx20) ?_
 rintro _ w23 ⟨k24, rfl, e25, f26⟩
 obtain ⟨K27, S28, m29⟩ := Ji e25 6 R
 refine ⟨tv, Jb 1 R (Je [2, 1, 2] R (Jn 1 R (Ob h fun x22 hx22 h => ?_)))⟩
 have f32 := f22.stp S28 R R
 refine Jh R R R C66 (s_l1Byte_ok (κ := fun b => mp [(8, 2)] 0 (K27 b)) (p0 := (⟨p0.b, x20.2.1, x20.2.2⟩ : l1Cur)) (Jl2 f32 (mp [(8, 2)] 0) R R) ((f26.mx m29 R (R : 6 + 2 = 8)).map (mp [(8, 2)] 0) R R) hx22) ?_
 rintro _ w33 ⟨k34, rfl, e35, f36⟩
 obtain ⟨K37, S38, m39⟩ := Ji e35 9 R
 refine ⟨tv, Jb 1 R (Je [2, 1, 2] R (Jn 1 R (Ob h fun x24 hx24 h => Jh R R R C66 (s_l1Byte_ok (κ := fun b => mp [(11, 2)] 0 (K37 b)) (p0 := (⟨p0.b, x22.2.1, x22.2.2⟩ : l1Cur)) (Jl2 (f32.stp S38 R R) (mp [(11, 2)] 0) R R) ((f36.mx m39 R (R : 9 + 2 = 11)).map (mp [(11, 2)] 0) R R) hx24) ?_)))⟩
 rintro _ w43 ⟨k44, rfl, e45, f46⟩
 obtain ⟨K47, S48, m49⟩ := Ji e45 12 R
 refine ⟨tv, Jb 1 R (Je [2, 2, 2, 2, 2, 2, 2, 2, 2, 2, 2, 2, 2] R (Jn 11 R (Ob h fun _z36 hz36 h => Jf R (rn_rem R R R (nz_ok hz36)) (Jb 1 R (Ju (Ja2 (l := [.tmp 4]) V38 (Jp2 R R) R ?_))))))⟩
 cases h
 exact ⟨(fun b => ren [(14, 2)] (K47 b)), R, ((hE.stp (S18.tr (S28.tr (S38.tr S48))) R R).map (ren [(14, 2)]) R R), ((f46.mx m49 R (R : 12 + 2 = 14)).map (ren [(14, 2)]) R R)⟩
 refine JT fun h => Jx R (Je [2, 1, 2, 2, 2] R (Jn 1 R (Ob h fun x14 hx14 h => Jh R R R C66 (s_l1Byte_ok (κ := fun b => mp [(2, 2)] 0 (κ b)) (p0 := p0) (Jl2 g0_0 (mp [(2, 2)] 0) R R) (gb0.map (mp [(2, 2)] 0) R R) hx14) ?_)))
 rintro _ w3 ⟨k4, rfl, e5, f6⟩
 obtain ⟨K7, S8, m9⟩ := Ji e5 3 R
 refine ⟨tv, Jn 1 R (Ob h fun _z16 hz16 h => Jf R (rn_rem R R R (nz_ok hz16)) (Jb 1 R (Ju (Jw (Ja2 (l := [.tmp 4]) V38 (Jp2 R R) R ?_)))))⟩
 cases h
 exact ⟨(fun b => ren [(5, 2)] (K7 b)), R, ((hE.stp S8 R R).map (ren [(5, 2)]) R R), ((f6.mx m9 R (R : 3 + 2 = 5)).map (ren [(5, 2)]) R R)⟩
 refine JT fun h => Jx R (Je [2] R (Jb 1 R (Ju (Jw (Ja2 (l := [.tmp 4]) V38 (Jp2 R R) R ?_)))))
 cases h
 exact ⟨κ, R, hE, gb0⟩
theorem s_l1Into_ok {w : World} {κ : Col} {a0 u0} {p0 : (List Int)} {p1 : Int} (g0 : Rd (Rp.int .i64) κ w 0 a0 u0 p0) {r : (List Int)} (h : s_l1Into p0 p1 = some r) : Ret Try.prog 92 [.slice a0 p0.length u0, vi p1] w (fun v w' => ∃ (κ' : Col) (ra0 : Option Addr) (ru0 : Nat), v = .slice ra0 r.length ru0 ∧ Ent κ w κ' w' ∧ Rd (Rp.int .i64) κ' w' 0 ra0 ru0 r) := by
 unfold s_l1Into at h
 refine Ret.enter F92 R N92 R ?_
 dsimp only [envOf]
 have hE := Ent.refl κ w
 refine Je [2] R (Jb 1 R (Je [2] R (Jb 1 R (Jq (Ob h fun q2 hq3 hK2 => ?_)))))
 clear h
 refine Jx1 (fun L w' => ∃ κ' s3, L = [(0, .slice a0 p0.length u0), (1, vi p1), (5, vi s3)] ∧ Stp [] κ w κ' w' ∧ q2 = Sum.inr s3) ?_ ?_
 refine Jv (Jy1 (fun k L w' => ∃ κ' s1, L = [(0, .slice a0 p0.length u0), (1, vi p1), (5, vi s1)] ∧ Stp [] κ w κ' w' ∧ whileM (s_l1Into_b0 p0 p1) k s1 = some q2) ⟨_, _, ⟨κ, (0 : Int), R, (Jx2 _ _).wk R, hq3⟩, (KM R)⟩ ?_)
 rintro k _ w7 ⟨K8, s1, rfl, S9, h⟩
 rcases k with _ | k
 cases h
 obtain ⟨o1, h, hk10⟩ := BI h; unfold s_l1Into_b0 at h
 refine Jq (Je [2, 2, 2, 2, 2, 2, 2, 2, 1, 2, 2, 2] R (Jn 2 R (Jf R (Je2 U24 R R) (Jn 2 R (Ob h fun p18 h hK11 => Ju1 [(5, 2), (6, 2), (7, 2), (8, 1), (9, 2), (10, 2), (11, 2)] [] (fun L w' => L = [(0, .slice a0 p0.length u0), (1, vi p1), (5, vi s1), (18, .bool p18)] ∧ ∃ κ', Stp [] K8 w7 κ' w') tv ?_ ?_)))))
 revert h
 cases ht12 : decide (s1 < (p0.length : Int))
 refine JF fun h => Jn 3 R (Jd1 R R R R (Jn 3 R ?_))
 cases h
 exact Jv1 _ tv ⟨R, _, (Jx2 _ _).wk R⟩ (KM R)
 refine JT fun h => Jn 2 R (Ob h fun x14 hx14 h => Jf R (Jf2 g0 hx14 U24 Z2 R R R R) (Jl tv R R R R (Jc2 I2 R R (hvE ((g0.stp S9 R R).gInt hx14))) (Jn 3 R ?_)))
 cases h
 exact Jv1 _ tv ⟨R, _, (Jx2 _ _).wk R⟩ (KM R)
 rintro _ w14 _ ⟨rfl, K15, S16⟩
 have h := hK11
 refine Jd ?_
 revert h
 cases ht17 : p18
 refine JF fun h => Jy R (Jc1 (Jt (Jt ?_)))
 cases h
 have h := hk10
 refine Jb1 ?_
 cases h
 exact Jw1 _ ⟨K15, (s1 : Int), R, (S9.tr S16).wk R, R⟩ (KM R)
 refine JT fun h => Jx R (Js (Jp (Jv (Ja [2, 2, 2] R (Jc 3 R (Jz ?_))))))
 cases h
 exact Jz1 fun a ha => ⟨k, _, Ja3 _, ⟨K15, ((IntKind.i64.wrap (s1 + 1)) : Int), R, (S9.tr S16).wk R, hk10⟩, (ha.mm R)⟩
 rintro _ w4 ⟨K5, s3, rfl, S6, rfl⟩
 have h := hK2
 dsimp only [aft] at h
 refine Jp (Jq (Je [2, 2, 2, 2, 2, 2, 2, 2, 1, 2, 2, 2] R (Jn 2 R (Jf R (Je2 U24 R R) (Jn 2 R (Ob h fun p32 h hK18 => Ju1 [(5, 2), (6, 2), (7, 2), (8, 1), (9, 2), (10, 2), (11, 2)] [] (fun L w' => L = [(0, .slice a0 p0.length u0), (1, vi p1), (5, vi s3), (32, .bool p32)] ∧ ∃ κ', Stp [] K5 w4 κ' w') tv ?_ ?_))))))
 revert h
 cases ht19 : decide (s3 < (p0.length : Int))
 refine JF fun h => Jn 3 R (Jd1 R R R R (Jn 3 R ?_))
 cases h
 exact Jv1 _ tv ⟨R, _, (Jx2 _ _).wk R⟩ (KM R)
 refine JT fun h => Jn 2 R (Ob h fun x28 hx28 h => Jf R (Jf2 g0 hx28 U24 Z2 R R R R) (Jl tv R R R R (Jc2 I2 R R (hvE ((g0.stp S6 R R).gInt hx28))) (Jn 3 R ?_)))
 cases h
 exact Jv1 _ tv ⟨R, _, (Jx2 _ _).wk R⟩ (KM R)
 rintro _ w21 _ ⟨rfl, K22, S23⟩
 have h := hK18
 refine Jd ?_
 revert h
 cases ht24 : p32
 refine JF fun h => Jy R (Js (Jp (Je [2, 2, 2, 1, 2, 1, 1, 2] R (Jn 2 R (Ob h fun x36 hx36 h => Jf R (rn_slice (k1 := .i64) (k2 := .i64) U24 Z2 (.inl ⟨R, R⟩) (.inr ⟨_, R, R⟩) hx36 g0.1 R R R) ?_)))))
 have f28 := g0.stp (S6.tr S23) R R
 refine Ob h fun x37 hx37 h => Jh R R R C102 (s_l1Copy_ok (κ := fun b => mp [] 0 (K22 b)) (Jl2 (f28.sub hx36) (mp [] 0) R R) hx37) ?_
 rintro _ w29 ⟨k30, af, ae, rfl, e31, f32⟩
 obtain ⟨K33, S34, m35⟩ := Ji e31 2 R
 refine ⟨tv, Jn 1 R (Jn1 (κ := K33) (E := E6) 5 [] (parts := [(0, .tmp 38)]) (cells := [vi p1]) (xs := ([p1] : List Int)) R R R R R R Y24 Tryinfo2 R R R R R R R R R R ⟨[vi p1], [], Zl K33 w29 [], Zl K33 w29 [], R, Zl.sp (l1 := []) (l2 := []) R, Zl.sr (l1 := []) (l2 := []), R, R⟩ fun ah ac w38 K39 S40 f41 => ⟨tv, Ob h fun x40 hx40 h => Jm1 (κ := K39) (E := E6) 4 [] R R R R R R R R R Y24 Tryinfo2 R R R R ((f32.mx (no_int _) m35 R (R : 2 + 2 = 4)).stp S40 R R) (Sl.srcP (pu_int _) f41.rdc) sy_false hx40 R fun ai ad w43 K44 S45 f46 => ⟨tv, Jb 1 R (Je [2, 2, 2, 2, 1, 2] R (Jn 3 R (Ob h fun x44 hx44 h => Jf R (rn_slice (k1 := .i64) (k2 := .i64) U24 Z2 (.inr ⟨_, R, R⟩) (.inl ⟨R, R⟩) hx44 f28.1 R R R) (Ob h fun x45 hx45 h => Jm1 (κ := K44) (E := E6) 4 [] R R R R R R R R R Y24 Tryinfo2 R R R R f46 (Sl.srcP (pu_int _) ((f28.stp (S34.tr (S40.tr S45)) R R).sub hx44)) sy_false hx45 R fun ab aa w49 K50 S51 f52 => ⟨tv, Jb 1 R (Ju ?_)⟩))))⟩⟩)⟩
 obtain ⟨K53, S54, z55⟩ := fz_ex K50 w49 4
 refine Ja2 (l := [.tmp 4]) V92 (Jp2 R R) R ?_
 cases h
 exact ⟨K53, ab, aa, R, (hE.stp (S6.tr (S23.tr (S34.tr (S40.tr (S45.tr (S51.tr S54)))))) R R), (Sl.st z55 f52.rdc)⟩
 refine JT fun h => Jx R (Je [2, 2] R (Jb 2 R (Ju (Jw (Ja2 (l := [.tmp 4]) V92 (Jp2 R R) R ?_)))))
 cases h
 exact ⟨K22, a0, u0, R, (hE.stp (S6.tr S23) R R), (g0.stp (S6.tr S23) R R)⟩
theorem s_l1Into__own0_ok {w : World} {κ : Col} {a0 u0} {p0 : (List Int)} {p1 : Int} (g0 : Oc E6 2 κ w 2 a0 u0 p0) {r : (List Int)} (h : s_l1Into__own0 p0 p1 = some r) : Ret Try.prog 92 [.slice a0 p0.length u0, vi p1] w (fun v w' => ∃ (κ' : Col) (ra0 : Option Addr) (ru0 : Nat), v = .slice ra0 r.length ru0 ∧ Ent κ w κ' w' ∧ Oc E6 2 κ' w' 3 ra0 ru0 r) := by
 unfold s_l1Into__own0 at h
 refine Ret.enter F92 R N92 R ?_
 dsimp only [envOf]
 have hE := Ent.refl κ w
 refine Je [2] R (Jb 1 R (Je [2] R (Jb 1 R (Jq (Ob h fun q2 hq3 hK2 => ?_)))))
 clear h
 refine Jx1 (fun L w' => ∃ κ' s3, L = [(0, .slice a0 p0.length u0), (1, vi p1), (5, vi s3)] ∧ Stp [] κ w κ' w' ∧ q2 = Sum.inr s3) ?_ ?_
 refine Jv (Jy1 (fun k L w' => ∃ κ' s1, L = [(0, .slice a0 p0.length u0), (1, vi p1), (5, vi s1)] ∧ Stp [] κ w κ' w' ∧ whileM (s_l1Into__own0_b0 p0 p1) k s1 = some q2) ⟨_, _, ⟨κ, (0 : Int), R, (Jx2 _ _).wk R, hq3⟩, (KM R)⟩ ?_)
 rintro k _ w7 ⟨K8, s1, rfl, S9, h⟩
 rcases k with _ | k
 cases h
 obtain ⟨o1, h, hk10⟩ := BI h; unfold s_l1Into__own0_b0 at h
 refine Jq (Je [2, 2, 2, 2, 2, 2, 2, 2, 1, 2, 2, 2] R (Jn 2 R (Jf R (Je2 U24 R R) (Jn 2 R (Ob h fun p18 h hK11 => Ju1 [(5, 2), (6, 2), (7, 2), (8, 1), (9, 2), (10, 2), (11, 2)] [] (fun L w' => L = [(0, .slice a0 p0.length u0), (1, vi p1), (5, vi s1), (18, .bool p18)] ∧ ∃ κ', Stp [] K8 w7 κ' w') tv ?_ ?_)))))
 revert h
 cases ht12 : decide (s1 < (p0.length : Int))
 refine JF fun h => Jn 3 R (Jd1 R R R R (Jn 3 R ?_))
 cases h
 exact Jv1 _ tv ⟨R, _, (Jx2 _ _).wk R⟩ (KM R)
 refine JT fun h => Jn 2 R (Ob h fun x14 hx14 h => Jf R (Jf2 g0.rdc hx14 U24 Z2 R R R R) (Jl tv R R R R (Jc2 I2 R R (hvE ((g0.stp S9 R R).rdc.gInt hx14))) (Jn 3 R ?_)))
 cases h
 exact Jv1 _ tv ⟨R, _, (Jx2 _ _).wk R⟩ (KM R)
 rintro _ w14 _ ⟨rfl, K15, S16⟩
 have h := hK11
 refine Jd ?_
 revert h
 cases ht17 : p18
 refine JF fun h => Jy R (Jc1 (Jt (Jt ?_)))
 cases h
 have h := hk10
 refine Jb1 ?_
 cases h
 exact Jw1 _ ⟨K15, (s1 : Int), R, (S9.tr S16).wk R, R⟩ (KM R)
 refine JT fun h => Jx R (Js (Jp (Jv (Ja [2, 2, 2] R (Jc 3 R (Jz ?_))))))
 cases h
 exact Jz1 fun a ha => ⟨k, _, Ja3 _, ⟨K15, ((IntKind.i64.wrap (s1 + 1)) : Int), R, (S9.tr S16).wk R, hk10⟩, (ha.mm R)⟩
 rintro _ w4 ⟨K5, s3, rfl, S6, rfl⟩
 have h := hK2
 dsimp only [aft] at h
 refine Jp (Jq (Je [2, 2, 2, 2, 2, 2, 2, 2, 1, 2, 2, 2] R (Jn 2 R (Jf R (Je2 U24 R R) (Jn 2 R (Ob h fun p32 h hK18 => Ju1 [(5, 2), (6, 2), (7, 2), (8, 1), (9, 2), (10, 2), (11, 2)] [] (fun L w' => L = [(0, .slice a0 p0.length u0), (1, vi p1), (5, vi s3), (32, .bool p32)] ∧ ∃ κ', Stp [] K5 w4 κ' w') tv ?_ ?_))))))
 revert h
 cases ht19 : decide (s3 < (p0.length : Int))
 refine JF fun h => Jn 3 R (Jd1 R R R R (Jn 3 R ?_))
 cases h
 exact Jv1 _ tv ⟨R, _, (Jx2 _ _).wk R⟩ (KM R)
 refine JT fun h => Jn 2 R (Ob h fun x28 hx28 h => Jf R (Jf2 g0.rdc hx28 U24 Z2 R R R R) (Jl tv R R R R (Jc2 I2 R R (hvE ((g0.stp S6 R R).rdc.gInt hx28))) (Jn 3 R ?_)))
 cases h
 exact Jv1 _ tv ⟨R, _, (Jx2 _ _).wk R⟩ (KM R)
 rintro _ w21 _ ⟨rfl, K22, S23⟩
 have h := hK18
 refine Jd ?_
 revert h
 cases ht24 : p32
 refine JF fun h => Jy R (Js (Jp (Je [2, 2, 2, 1, 2, 1, 1, 2] R (Jn 2 R (Ob h fun x36 hx36 h => Jf R (rn_slice (k1 := .i64) (k2 := .i64) U24 Z2 (.inl ⟨R, R⟩) (.inr ⟨_, R, R⟩) hx36 g0.rdc.1 R R R) ?_)))))
 have f28 := g0.stp (S6.tr S23) R R
 refine Ob h fun x37 hx37 h => Jh R R R C102 (s_l1Copy_ok (κ := fun b => mp [] 0 (K22 b)) (Jl2 (f28.rdc.sub hx36) (mp [] 0) R R) hx37) ?_
 rintro _ w29 ⟨k30, af, ae, rfl, e31, f32⟩
 obtain ⟨K33, S34, m35⟩ := Ji e31 3 R
 refine ⟨tv, Jn 1 R (Jn1 (κ := K33) (E := E6) 6 [] (parts := [(0, .tmp 38)]) (cells := [vi p1]) (xs := ([p1] : List Int)) R R R R R R Y24 Tryinfo2 R R R R R R R R R R ⟨[vi p1], [], Zl K33 w29 [], Zl K33 w29 [], R, Zl.sp (l1 := []) (l2 := []) R, Zl.sr (l1 := []) (l2 := []), R, R⟩ fun ah ac w38 K39 S40 f41 => ⟨tv, Ob h fun x40 hx40 h => Jm1 (κ := K39) (E := E6) 5 [] R R R R R R R R R Y24 Tryinfo2 R R R R ((f32.mx (no_int _) m35 R (R : 3 + 2 = 5)).stp S40 R R) (Sl.srcP (pu_int _) f41.rdc) sy_false hx40 R fun ai ad w43 K44 S45 f46 => ⟨tv, Jb 1 R (Je [2, 2, 2, 2, 1, 2] R (Jn 3 R (Ob h fun x44 hx44 h => Jf R (rn_slice (k1 := .i64) (k2 := .i64) U24 Z2 (.inr ⟨_, R, R⟩) (.inl ⟨R, R⟩) hx44 f28.rdc.1 R R R) (Ob h fun x45 hx45 h => Jm1 (κ := K44) (E := E6) 5 [] R R R R R R R R R Y24 Tryinfo2 R R R R f46 (Sl.srcP (pu_int _) ((f28.stp (S34.tr (S40.tr S45)) R R).rdc.sub hx44)) sy_false hx45 R fun ab aa w49 K50 S51 f52 => ⟨tv, Jb 1 R (Ju (Ja2 (l := [.tmp 4]) V92 (Jp2 R R) R ?_))⟩))))⟩⟩)⟩
 cases h
 exact ⟨(fun b => ren [(5, 3)] (K50 b)), ab, aa, R, ((hE.stp (S6.tr (S23.tr (S34.tr (S40.tr (S45.tr S51))))) R R).map (ren [(5, 3)]) R R), (f52.map (ren [(5, 3)]) R R)⟩
 refine JT fun h => Jx R (Je [2, 2] R (Jb 2 R (Ju (Jw (Ja2 (l := [.tmp 4]) V92 (Jp2 R R) R ?_)))))
 cases h
 exact ⟨(fun b => ren [(2, 3)] (K22 b)), a0, u0, R, ((hE.stp (S6.tr S23) R R).map (ren [(2, 3)]) R R), ((g0.stp (S6.tr S23) R R).map (ren [(2, 3)]) R R)⟩
theorem i_arePairs_ok {w : World} {κ : Col} {a0 u0} {p0 : (List Pair)} {p1 : Int} (g0 : Rd Pair.rp κ w 0 a0 u0 p0) {r : Bool} (h : i_arePairs p0 p1 = some r) : Ret Try.prog 32 [.slice a0 p0.length u0, vi p1] w (fun v w' => ∃ (κ' : Col), v = .bool r ∧ Ent κ w κ' w') := by
 unfold i_arePairs at h
 refine Ret.enter F32 R N32 R ?_
 dsimp only [envOf]
 have hE := Ent.refl κ w
 refine Je [2] R (Jb 1 R (Jq (Je [2, 2, 2] R (Jn 1 R (Jf R (Je2 U29 R R) (Jb 1 R ?_))))))
 have hN1 : (p0.length : Int) ≤ 9223372036854775807 := g0.len_le
 refine Ob h fun q2 hq3 hK2 => ?_
 clear h
 refine Jx1 (fun L w' => ∃ κ', L = [(0, .slice a0 p0.length u0)] ∧ Stp [2] κ w κ' w' ∧ q2 = Sum.inr ()) ?_ ?_
 refine Jv (Jy1 (fun k L w' => ∃ κ' v9, L = [(0, .slice a0 p0.length u0), (1, vi p1), (7, .slice a0 p0.length u0), (8, vi (p0.length : Int)), (9, vi v9)] ∧ Stp [2] κ w κ' w' ∧ 0 ≤ v9 ∧ Int.toNat ((p0.length : Int) - v9) = k ∧ cntM (i_arePairs_b0 p0 p1) k v9 () = some q2) ⟨_, _, ⟨κ, 0, R, (Jx2 _ _).wk R, (by decide), (by simp), hq3⟩, (KM R)⟩ ?_)
 rintro k _ w7 ⟨K8, v9, rfl, S9, hj1, hJ1, h⟩
 rcases k with _ | k
 have hk10 := h; obtain ⟨o1, h⟩ := ex_eq (Sum.inr (Sum.inl ()) : Bool ⊕ ((Unit) ⊕ (Unit)))
 have hc1 : decide (v9 < (p0.length : Int)) = false := Jo2 (by omega)
 refine Je [2] R (Jb 1 R (Jq (Jw2 R hc1 (Jc1 (Jt (Jt ?_))))))
 cases h
 have h := hk10
 refine Jb1 ?_
 cases h
 exact Jw1 _ ⟨K8, R, S9.wk R, R⟩ (KM R)
 obtain ⟨o1, h, hk10⟩ := BI h; unfold i_arePairs_b0 at h
 have hc1 : decide (v9 < (p0.length : Int)) = true := Jn2 (by omega)
 refine Je [2] R (Jb 1 R (Jq (Jv2 R hc1 (Js (Jp (Jq (Jv (Je [2, 1, 1, 1] R (Ob h fun x11 hx11 h => Jf R (Jf2 g0 hx11 U29 Z42 R R R R) ?_)))))))))
 obtain ⟨cse12, hre12, hle12⟩ := ((g0.stp S9 R R)).gSt hx11
 obtain ⟨ae12_0, ue12_0, ae12_1, ue12_1, rfl, fe12_0, fe12_1⟩ := Pair.un hre12
 refine Jl tv R R R R (Jd2 (cs := [.slice ae12_0 x11.Ask.length ue12_0, .slice ae12_1 x11.Give.length ue12_1]) I42 Z42 R R R (haE hle12)) (Jg1 (κ := K8) 2 R R R R R X42 R fun b6 w13 K14 S15 f16 => ⟨tv, Jj1 (κ := K14) 2 (vc := [.slice ae12_0 x11.Ask.length ue12_0, .slice ae12_1 x11.Give.length ue12_1]) R R R R R R R Z42 R R f16 R fun w17 S18 f19 => ⟨tv, Jd (Je [2, 1, 2, 1, 2, 2, 2, 1, 2, 1, 2, 2] R (Jf R (Jb2 U42 R Z24 R R) (Jl tv R R R R (Jc2 I24 R R (hvE (f19.ld 0 R R))) (Jn 1 R (Ob h fun x16 hx16 h => Jh R R R C33 (i_isSet_ok (κ := fun b => mp [] 0 (K14 b)) (Jl2 (fe12_0.stp (S15.tr S18) R R) (mp [] 0) R R) hx16) ?_)))))⟩⟩)
 rintro _ w21 ⟨k22, rfl, e23⟩
 obtain ⟨K24, S25, m26⟩ := Ji e23 3 R
 refine ⟨tv, Jn 2 R (Ob h fun p24 h hK28 => Ju1 [(6, 2), (7, 1), (8, 2), (9, 1), (10, 2), (11, 2)] [] (fun L w' => L = [(0, .slice a0 p0.length u0), (1, vi p1), (7, .slice a0 p0.length u0), (8, vi (p0.length : Int)), (9, vi v9), (24, .bool p24)] ∧ ∃ κ', Stp [] K24 w21 κ' w') tv ?_ ?_)⟩
 revert h
 cases ht29 : (!x16)
 refine JF fun h => Jf R (Jb2 U42 R Z24 R R) (Jl tv R R R R (Jc2 I24 R R (hvE ((f19.stp S25 R R).ld 1 R R))) (Jn 1 R (Ob h fun x22 hx22 h => Jh R R R C33 (i_isSet_ok (κ := fun b => mp [] 0 (K24 b)) (Jl2 (fe12_1.stp (S15.tr (S18.tr S25)) R R) (mp [] 0) R R) hx22) ?_)))
 rintro _ w32 ⟨k33, rfl, e34⟩
 obtain ⟨K35, S36, m37⟩ := Ji e34 5 R
 refine ⟨tv, Jn 2 R ?_⟩
 cases h
 exact Jv1 _ tv ⟨R, _, S36.wk R⟩ (KM R)
 refine JT fun h => Jn 1 R (Jd1 R R R R (Jn 1 R (Jd1 R R R R (Jn 2 R ?_))))
 cases h
 exact Jv1 _ tv ⟨R, _, (Jx2 _ _).wk R⟩ (KM R)
 rintro _ w39 _ ⟨rfl, K40, S41⟩
 have h := hK28
 refine Jd ?_
 revert h
 cases ht42 : p24
 refine JF fun h => Jy R (Js (Jz (Jp (Ja [2, 2] R (Jc 2 R ?_)))))
 have hw1 : IntKind.wrap .i64 (v9 + 1) = v9 + 1 := wr1 hj1 (Jm2 hc1) hN1
 rw [hw1]
 have hc1 := Jm2 hc1
 cases h
 exact Jz1 fun a ha => ⟨k, _, Ja3 _, ⟨K40, v9 + 1, R, (S9.tr (S15.tr (S18.tr (S25.tr S41)))).wk R, by omega, by omega, hk10⟩, (ha.mm R)⟩
 refine JT fun h => Jx R (Je [2] R (Jb 1 R (Ju (Ja1 (Jw (Jw ?_))))))
 cases h
 obtain rfl := Option.some.inj hk10
 have h := hK2
 dsimp only [aft] at h
 refine Ja1 (Jq2 (Jw (Ja2 (l := [.tmp 4]) V32 (Jp2 R R) R ?_)))
 cases h
 exact ⟨K40, R, (hE.stp (S9.tr (S15.tr (S18.tr (S25.tr S41)))) R R)⟩
 rintro _ w4 ⟨K5, rfl, S6, rfl⟩
 have h := hK2
 dsimp only [aft] at h
 refine Jp (Je [2, 2, 2, 2] R (Jn 1 R (Jf R (Je2 U29 R R) (Jb 2 R (Ju (Ja2 (l := [.tmp 4]) V32 (Jp2 R R) R ?_))))))
 cases h
 exact ⟨K5, R, (hE.stp S6 R R)⟩
theorem i_loopsIn_1__i_loopsIn_2__i_loopsIn_1_ok (n : Nat) : ∀ {w : World} {κ : Col} {p0 : Int} {a1 u1} {p1 : (List (List Int))} {ad ab} {c2_0 : (List Int)} {a3 u3} {c0 : (List Bool)} {a4 u4} {c1 : (List Bool)} {b2_0 b3 b4 b5} (g1 : Rd (Rp.sl (Rp.int .i64)) κ w 0 a1 u1 p1) (g2_0 : Oc E6 2 κ w 2 ad ab c2_0) (g3 : Oc Ep.bool 4 κ w 3 a3 u3 c0) (g4 : Rd Rp.bool κ w 0 a4 u4 c1) (gb2_0 : Bc κ w 4 b2_0 24 [.slice ad c2_0.length ab]) (gb3 : Bc κ w 0 b3 98 [.slice a3 c0.length u3]) (gb4 : Bc κ w 0 b4 98 [.slice a4 c1.length u4]) (gb5 : Bc κ w 0 b5 118 [.func (.func 84) #[] #[.pointer (some ⟨b3, 0, none⟩), .pointer (some ⟨b4, 0, none⟩), .pointer (some ⟨b5, 0, none⟩)]]) {r : (List Int) × (List Bool)} (h : i_loopsIn_1__i_loopsIn_2__i_loopsIn_1 n p0 p1 c2_0 c0 c1 = some r), Ret Try.prog 84 [vi p0, .slice a1 p1.length u1, .func (.func 85) #[] #[.pointer (some ⟨b2_0, 0, none⟩)], .pointer (some ⟨b3, 0, none⟩), .pointer (some ⟨b4, 0, none⟩), .pointer (some ⟨b5, 0, none⟩)] w (fun v w' => ∃ (κ' : Col) (ma0 : Option Addr) (mu0 : Nat), v = .tuple #[] ∧ Ent κ w κ' w' ∧ Oc E6 2 κ' w' 2 ma0 mu0 r.1 ∧ Oc Ep.bool 4 κ' w' 3 a3 u3 r.2 ∧ c0.length = r.2.length ∧ Bc κ' w' 4 b2_0 24 [.slice ma0 r.1.length mu0]) := by
 induction n with
 | zero =>
  intro w κ p0 a1 u1 p1 ad ab c2_0 a3 u3 c0 a4 u4 c1 b2_0 b3 b4 b5 g1 g2_0 g3 g4 gb2_0 gb3 gb4 gb5 r h
  cases h
 | succ n ih =>
  intro w κ p0 a1 u1 p1 ad ab c2_0 a3 u3 c0 a4 u4 c1 b2_0 b3 b4 b5 g1 g2_0 g3 g4 gb2_0 gb3 gb4 gb5 r h
  have h : i_loopsIn_1__i_loopsIn_2__i_loopsIn_1_s (i_loopsIn_1__i_loopsIn_2__i_loopsIn_1 n) p0 p1 c2_0 c0 c1 = some r := h
  unfold i_loopsIn_1__i_loopsIn_2__i_loopsIn_1_s at h
  refine Ret.enter F84 R N84 R ?_
  dsimp only [envOf]
  have hE := Ent.refl κ w
  refine Je [1, 2, 2, 1] R (Jl tv R R R R (Jc2 I98 R R (hvE (gb3.ld 0 R R))) (Jn 1 R (Ob h fun x13 hx13 h => Jf R (Jf2 g3.rdc hx13 U98 Z4 R R R R) (Ob h fun y86 hy86 h => Jk1 (κ := κ) (E := Ep.bool) 3 [] R R R R R R R R Z4 R R R R g3 hy86 fun w1 K2 S3 f4 => ⟨tv, ?_⟩))))
  have hn5 : c0.length = y86.length := (Jt2 hy86).2.2.2.symm
  refine Jd (Jq (Je [2, 2, 2, 1, 2, 2] R (Jn 2 R (Ob h fun x16 hx16 h => Jf R (Jf2 g1 hx16 U22 Z24 R R R R) ?_))))
  have f6 := g1.stp S3 R R
  obtain ⟨ax16, ux16, f7, hl8⟩ := f6.gSl hx16
  refine Jl tv R R R R (Jc2 I24 R R (hvE hl8)) (Jf R (Je2 U24 R R) (Jb 1 R ?_))
  have hN9 : (x16.length : Int) ≤ 9223372036854775807 := f7.len_le
  refine Ob h fun q2 hq11 hK10 => ?_
  clear h
  refine Jx1 (fun L w' => ∃ κ', ∃ s3 : (List Int) × (List Bool), ∃ ai ah, L = [(0, vi p0), (2, .func (.func 85) #[] #[.pointer (some ⟨b2_0, 0, none⟩)]), (3, .pointer (some ⟨b3, 0, none⟩)), (4, .pointer (some ⟨b4, 0, none⟩)), (5, .pointer (some ⟨b5, 0, none⟩))] ∧ Stp [2, 3, 4, 7, 8, 9] K2 w1 κ' w' ∧ Oc E6 2 κ' w' 2 ai ah s3.1 ∧ Oc Ep.bool 4 κ' w' 3 a3 u3 s3.2 ∧ c0.length = s3.2.length ∧ Bc κ' w' 4 b2_0 24 [.slice ai s3.1.length ah] ∧ q2 = Sum.inr s3) ?_ ?_
  refine Jv (Jy1 (fun k L w' => ∃ κ' v19, ∃ s1 : (List Int) × (List Bool), ∃ aa ac, L = [(0, vi p0), (1, .slice a1 p1.length u1), (2, .func (.func 85) #[] #[.pointer (some ⟨b2_0, 0, none⟩)]), (3, .pointer (some ⟨b3, 0, none⟩)), (4, .pointer (some ⟨b4, 0, none⟩)), (5, .pointer (some ⟨b5, 0, none⟩)), (17, .slice ax16 x16.length ux16), (18, vi (x16.length : Int)), (19, vi v19)] ∧ Stp [2, 3, 4, 7, 8, 9] K2 w1 κ' w' ∧ Oc E6 2 κ' w' 2 aa ac s1.1 ∧ Oc Ep.bool 4 κ' w' 3 a3 u3 s1.2 ∧ c0.length = s1.2.length ∧ Bc κ' w' 4 b2_0 24 [.slice aa s1.1.length ac] ∧ 0 ≤ v19 ∧ Int.toNat ((x16.length : Int) - v19) = k ∧ cntM (i_loopsIn_1__i_loopsIn_2__i_loopsIn_1_b0 (i_loopsIn_1__i_loopsIn_2__i_loopsIn_1 n) p1 c1 x16) k v19 s1 = some q2) ⟨_, _, ⟨K2, 0, ((c2_0 : (List Int)), (y86 : (List Bool))), ad, ab, R, (Jx2 _ _).wk R, (g2_0.stp S3 R R), f4, hn5, (gb2_0.stp S3 R R), (by decide), (by simp), hq11⟩, (KM R)⟩ ?_)
  rintro k _ w19 ⟨K20, v19, s1, aa, ac, rfl, S21, f22, f23, hn24, f25, hj9, hJ9, h⟩
  rcases k with _ | k
  have hk28 := h; obtain ⟨o9, h⟩ := ex_eq (Sum.inr (Sum.inl s1) : ((List Int) × (List Bool)) ⊕ (((List Int) × (List Bool)) ⊕ ((List Int) × (List Bool))))
  have hc9 : decide (v19 < (x16.length : Int)) = false := Jo2 (by omega)
  refine Je [2] R (Jb 1 R (Jq (Jw2 R hc9 (Jc1 (Jt (Jt ?_))))))
  cases h
  have h := hk28
  refine Jb1 ?_
  cases h
  exact Jw1 _ ⟨K20, ((s1.1 : (List Int)), (s1.2 : (List Bool))), aa, ac, R, S21.wk R, f22, f23, hn24, f25, R⟩ (KM R)
  obtain ⟨o9, h, hk28⟩ := BI h; unfold i_loopsIn_1__i_loopsIn_2__i_loopsIn_1_b0 at h
  have hc9 : decide (v19 < (x16.length : Int)) = true := Jn2 (by omega)
  refine Je [2] R (Jb 1 R (Jq (Jv2 R hc9 (Js (Jp (Jq (Jv (Je [2, 1, 2] R (Ob h fun x21 hx21 h => Jf R (Jf2 f7 hx21 U24 Z2 R R R R) (Jl tv R R R R (Jc2 I2 R R (hvE ((f7.stp S21 R R).gInt hx21))) (Jb 1 R (Je [1, 2, 2, 1, 2, 1, 2, 2, 1, 2, 2] R ?_))))))))))))
  have f30 := gb4.stp (S3.tr S21) R R
  refine Jl tv R R R R (Jc2 I98 R R (hvE (f30.ld 0 R R))) (Jn 1 R (Ob h fun x25 hx25 h => Jf R (Jf2 g4 hx25 U98 Z4 R R R R) ?_))
  have f31 := g4.stp (S3.tr S21) R R
  refine Jl tv R R R R (Jc2 I4 R R (hvE (f31.gBool hx25))) (Jn 1 R (Ob h fun p33 h hK32 => Ju1 [(5, 1), (6, 2), (7, 2), (8, 1), (9, 2), (10, 2)] [] (fun L w' => L = [(0, vi p0), (1, .slice a1 p1.length u1), (2, .func (.func 85) #[] #[.pointer (some ⟨b2_0, 0, none⟩)]), (3, .pointer (some ⟨b3, 0, none⟩)), (4, .pointer (some ⟨b4, 0, none⟩)), (5, .pointer (some ⟨b5, 0, none⟩)), (10, vi x21), (17, .slice ax16 x16.length ux16), (18, vi (x16.length : Int)), (19, vi v19), (33, .bool p33)] ∧ ∃ κ', Stp [] K20 w19 κ' w') tv ?_ ?_))
  revert h
  cases ht33 : x25
  refine JF fun h => Jd1 R R R R (Jn 2 R (Jd1 R R R R (Jn 2 R ?_)))
  cases h
  exact Jv1 _ tv ⟨R, _, (Jx2 _ _).wk R⟩ (KM R)
  refine JT fun h => Jl tv R R R R (Jc2 I98 R R (hvE ((gb3.stp (S3.tr S21) R R).ld 0 R R))) (Jn 1 R (Ob h fun x30 hx30 h => Jf R (Jf2 f23.rdc hx30 U98 Z4 R R hn24 R) (Jl tv R R R R (Jc2 I4 R R (hvE (f23.rdc.gBool hx30))) (Jn 2 R ?_))))
  cases h
  exact Jv1 _ tv ⟨R, _, (Jx2 _ _).wk R⟩ (KM R)
  rintro _ w35 _ ⟨rfl, K36, S37⟩
  have h := hK32
  refine Jd (Ob h fun q4 h hK38 => Jx1 (fun L w' => ∃ κ' ae af, L = [(0, vi p0), (1, .slice a1 p1.length u1), (2, .func (.func 85) #[] #[.pointer (some ⟨b2_0, 0, none⟩)]), (3, .pointer (some ⟨b3, 0, none⟩)), (4, .pointer (some ⟨b4, 0, none⟩)), (5, .pointer (some ⟨b5, 0, none⟩)), (17, .slice ax16 x16.length ux16), (18, vi (x16.length : Int)), (19, vi v19)] ∧ Stp [2, 3, 4, 7, 8, 9] K36 w35 κ' w' ∧ Oc E6 2 κ' w' 2 ae af q4.1 ∧ Oc Ep.bool 4 κ' w' 3 a3 u3 q4.2 ∧ c0.length = q4.2.length ∧ Bc κ' w' 4 b2_0 24 [.slice ae q4.1.length af]) ?_ ?_)
  revert h
  cases ht46 : p33
  refine JF fun h => Jy R (Js ?_)
  cases h
  exact Jw1 _ ⟨K36, aa, ac, R, (Jx2 _ _).wk R, (f22.stp S37 R R), (f23.stp S37 R R), hn24, (f25.stp S37 R R)⟩ (KM R)
  refine JT fun h => Jx R (Ja [1, 2, 2, 2, 1] R ?_)
  have f47 := gb5.stp (S3.tr (S21.tr S37)) R R
  refine Jl tv R R R R (Jc2 I118 R R (hvE (f47.ld 0 R R))) (Jn 3 R (Ob h fun x38 hx38 h => WO.callV R R R R R R R R C84 (ih (κ := fun b => mp [(2, 2), (3, 3), (4, 4)] 0 (K36 b)) (Jl2 (f6.stp (S21.tr S37) R R) (mp [(2, 2), (3, 3), (4, 4)] 0) R R) ((f22.stp S37 R R).map (mp [(2, 2), (3, 3), (4, 4)] 0) R R) ((f23.stp S37 R R).map (mp [(2, 2), (3, 3), (4, 4)] 0) R R) (Jl2 (f31.stp S37 R R) (mp [(2, 2), (3, 3), (4, 4)] 0) R R) ((f25.stp S37 R R).map (mp [(2, 2), (3, 3), (4, 4)] 0) R R) (Bc.cast ((gb3.stp (S3.tr (S21.tr S37)) R R).map (mp [(2, 2), (3, 3), (4, 4)] 0) R R) (by simp only [hn24])) ((f30.stp S37 R R).map (mp [(2, 2), (3, 3), (4, 4)] 0) R R) (f47.map (mp [(2, 2), (3, 3), (4, 4)] 0) R R) hx38) ?_))
  rintro _ w55 ⟨k56, al, ak, rfl, e57, f58, f59, hn60, f61⟩
  obtain ⟨K62, S63, m64⟩ := Ji e57 5 R
  refine ⟨tv, Jo ?_⟩
  cases h
  exact Jw1 _ ⟨(fun b => ren [(7, 2), (8, 3), (9, 4)] (K62 b)), al, ak, R, (Jy2 (S63.wk R) [(7, 2), (8, 3), (9, 4)] R), ((f58.mx (no_int _) m64 R (R : 5 + 2 = 7)).map (ren [(7, 2), (8, 3), (9, 4)]) R R), ((f59.mx no_bool m64 R (R : 5 + 3 = 8)).map (ren [(7, 2), (8, 3), (9, 4)]) R R), (hn24.trans hn60), ((f61.mx m64 R (R : 5 + 4 = 9)).map (ren [(7, 2), (8, 3), (9, 4)]) R R)⟩ (KM R)
  rintro _ w39 ⟨K40, ae, af, rfl, S41, f42, f43, hn44, f45⟩
  have h := hK38
  refine Jz (Jp (Ja [2, 2] R (Jc 2 R ?_)))
  have hw9 : IntKind.wrap .i64 (v19 + 1) = v19 + 1 := wr1 hj9 (Jm2 hc9) hN9
  rw [hw9]
  have hc9 := Jm2 hc9
  cases h
  exact Jz1 fun a ha => ⟨k, _, Ja3 _, ⟨K40, v19 + 1, ((q4.1 : (List Int)), (q4.2 : (List Bool))), ae, af, R, (S21.tr (S37.tr S41)).wk R, f42, f43, hn44, f45, by omega, by omega, hk28⟩, (ha.mm R)⟩
  rintro _ w12 ⟨K13, s3, ai, ah, rfl, S14, f15, f16, hn17, f18, rfl⟩
  have h := hK10
  dsimp only [aft] at h
  refine Jp (Ja [2, 2, 1] R (Jn 2 R (Ob h fun x42 hx42 h => WO.callV R R R R R R R R C85 (i_loopsIn_2_ok (κ := fun b => mp [(2, 2), (4, 3)] 0 (K13 b)) (f15.map (mp [(2, 2), (4, 3)] 0) R R) (f18.map (mp [(2, 2), (4, 3)] 0) R R) hx42) ?_)))
  rintro _ w72 ⟨k73, am, aj, rfl, e74, f75, f76⟩
  obtain ⟨K77, S78, m79⟩ := Ji e74 5 R
  refine ⟨tv, Jo (DN.end0 V84 ?_)⟩
  cases h
  exact ⟨(fun b => ren [(7, 2), (8, 4)] (K77 b)), am, aj, R, ((hE.stp (S3.tr (S14.tr S78)) R R).map (ren [(7, 2), (8, 4)]) R R), ((f75.mx (no_int _) m79 R (R : 5 + 2 = 7)).map (ren [(7, 2), (8, 4)]) R R), ((f16.stp S78 R R).map (ren [(7, 2), (8, 4)]) R R), hn17, ((f76.mx m79 R (R : 5 + 3 = 8)).map (ren [(7, 2), (8, 4)]) R R)⟩
theorem i_loopsIn_1__i_loopsIn_3__i_loopsIn_1_ok (n : Nat) : ∀ {w : World} {κ : Col} {p0 : Int} {a1 u1} {p1 : (List (List Int))} {ad ab} {c2_0 : (List Int)} {a3 u3} {c0 : (List Bool)} {a4 u4} {c1 : (List Bool)} {b2_0 b3 b4 b5} (g1 : Rd (Rp.sl (Rp.int .i64)) κ w 0 a1 u1 p1) (g2_0 : Oc E6 2 κ w 2 ad ab c2_0) (g3 : Oc Ep.bool 4 κ w 3 a3 u3 c0) (g4 : Rd Rp.bool κ w 0 a4 u4 c1) (gb2_0 : Bc κ w 4 b2_0 24 [.slice ad c2_0.length ab]) (gb3 : Bc κ w 0 b3 98 [.slice a3 c0.length u3]) (gb4 : Bc κ w 0 b4 98 [.slice a4 c1.length u4]) (gb5 : Bc κ w 0 b5 118 [.func (.func 84) #[] #[.pointer (some ⟨b3, 0, none⟩), .pointer (some ⟨b4, 0, none⟩), .pointer (some ⟨b5, 0, none⟩)]]) {r : (List Int) × (List Bool)} (h : i_loopsIn_1__i_loopsIn_3__i_loopsIn_1 n p0 p1 c2_0 c0 c1 = some r), Ret Try.prog 84 [vi p0, .slice a1 p1.length u1, .func (.func 86) #[] #[.pointer (some ⟨b2_0, 0, none⟩)], .pointer (some ⟨b3, 0, none⟩), .pointer (some ⟨b4, 0, none⟩), .pointer (some ⟨b5, 0, none⟩)] w (fun v w' => ∃ (κ' : Col) (ma0 : Option Addr) (mu0 : Nat), v = .tuple #[] ∧ Ent κ w κ' w' ∧ Oc E6 2 κ' w' 2 ma0 mu0 r.1 ∧ Oc Ep.bool 4 κ' w' 3 a3 u3 r.2 ∧ c0.length = r.2.length ∧ Bc κ' w' 4 b2_0 24 [.slice ma0 r.1.length mu0]) := by
 induction n with
 | zero =>
  intro w κ p0 a1 u1 p1 ad ab c2_0 a3 u3 c0 a4 u4 c1 b2_0 b3 b4 b5 g1 g2_0 g3 g4 gb2_0 gb3 gb4 gb5 r h
  cases h
 | succ n ih =>
  intro w κ p0 a1 u1 p1 ad ab c2_0 a3 u3 c0 a4 u4 c1 b2_0 b3 b4 b5 g1 g2_0 g3 g4 gb2_0 gb3 gb4 gb5 r h
  have h : i_loopsIn_1__i_loopsIn_3__i_loopsIn_1_s (i_loopsIn_1__i_loopsIn_3__i_loopsIn_1 n) p0 p1 c2_0 c0 c1 = some r := h
  unfold i_loopsIn_1__i_loopsIn_3__i_loopsIn_1_s at h
  refine Ret.enter F84 R N84 R ?_
  dsimp only [envOf]
  have hE := Ent.refl κ w
  refine Je [1, 2, 2, 1] R (Jl tv R R R R (Jc2 I98 R R (hvE (gb3.ld 0 R R))) (Jn 1 R (Ob h fun x13 hx13 h => Jf R (Jf2 g3.rdc hx13 U98 Z4 R R R R) (Ob h fun y86 hy86 h => Jk1 (κ := κ) (E := Ep.bool) 3 [] R R R R R R R R Z4 R R R R g3 hy86 fun w1 K2 S3 f4 => ⟨tv, ?_⟩))))
  have hn5 : c0.length = y86.length := (Jt2 hy86).2.2.2.symm
  refine Jd (Jq (Je [2, 2, 2, 1, 2, 2] R (Jn 2 R (Ob h fun x16 hx16 h => Jf R (Jf2 g1 hx16 U22 Z24 R R R R) ?_))))
  have f6 := g1.stp S3 R R
  obtain ⟨ax16, ux16, f7, hl8⟩ := f6.gSl hx16
  refine Jl tv R R R R (Jc2 I24 R R (hvE hl8)) (Jf R (Je2 U24 R R) (Jb 1 R ?_))
  have hN9 : (x16.length : Int) ≤ 9223372036854775807 := f7.len_le
  refine Ob h fun q2 hq11 hK10 => ?_
  clear h
  refine Jx1 (fun L w' => ∃ κ', ∃ s3 : (List Int) × (List Bool), ∃ ai ah, L = [(0, vi p0), (2, .func (.func 86) #[] #[.pointer (some ⟨b2_0, 0, none⟩)]), (3, .pointer (some ⟨b3, 0, none⟩)), (4, .pointer (some ⟨b4, 0, none⟩)), (5, .pointer (some ⟨b5, 0, none⟩))] ∧ Stp [2, 3, 4, 7, 8, 9] K2 w1 κ' w' ∧ Oc E6 2 κ' w' 2 ai ah s3.1 ∧ Oc Ep.bool 4 κ' w' 3 a3 u3 s3.2 ∧ c0.length = s3.2.length ∧ Bc κ' w' 4 b2_0 24 [.slice ai s3.1.length ah] ∧ q2 = Sum.inr s3) ?_ ?_
  refine Jv (Jy1 (fun k L w' => ∃ κ' v19, ∃ s1 : (List Int) × (List Bool), ∃ aa ac, L = [(0, vi p0), (1, .slice a1 p1.length u1), (2, .func (.func 86) #[] #[.pointer (some ⟨b2_0, 0, none⟩)]), (3, .pointer (some ⟨b3, 0, none⟩)), (4, .pointer (some ⟨b4, 0, none⟩)), (5, .pointer (some ⟨b5, 0, none⟩)), (17, .slice ax16 x16.length ux16), (18, vi (x16.length : Int)), (19, vi v19)] ∧ Stp [2, 3, 4, 7, 8, 9] K2 w1 κ' w' ∧ Oc E6 2 κ' w' 2 aa ac s1.1 ∧ Oc Ep.bool 4 κ' w' 3 a3 u3 s1.2 ∧ c0.length = s1.2.length ∧ Bc κ' w' 4 b2_0 24 [.slice aa s1.1.length ac] ∧ 0 ≤ v19 ∧ Int.toNat ((x16.length : Int) - v19) = k ∧ cntM (i_loopsIn_1__i_loopsIn_3__i_loopsIn_1_b0 (i_loopsIn_1__i_loopsIn_3__i_loopsIn_1 n) p1 c1 x16) k v19 s1 = some q2) ⟨_, _, ⟨K2, 0, ((c2_0 : (List Int)), (y86 : (List Bool))), ad, ab, R, (Jx2 _ _).wk R, (g2_0.stp S3 R R), f4, hn5, (gb2_0.stp S3 R R), (by decide), (by simp), hq11⟩, (KM R)⟩ ?_)
  rintro k _ w19 ⟨K20, v19, s1, aa, ac, rfl, S21, f22, f23, hn24, f25, hj9, hJ9, h⟩
  rcases k with _ | k
  have hk28 := h; obtain ⟨o9, h⟩ := ex_eq (Sum.inr (Sum.inl s1) : ((List Int) × (List Bool)) ⊕ (((List Int) × (List Bool)) ⊕ ((List Int) × (List Bool))))
  have hc9 : decide (v19 < (x16.length : Int)) = false := Jo2 (by omega)
  refine Je [2] R (Jb 1 R (Jq (Jw2 R hc9 (Jc1 (Jt (Jt ?_))))))
  cases h
  have h := hk28
  refine Jb1 ?_
  cases h
  exact Jw1 _ ⟨K20, ((s1.1 : (List Int)), (s1.2 : (List Bool))), aa, ac, R, S21.wk R, f22, f23, hn24, f25, R⟩ (KM R)
  obtain ⟨o9, h, hk28⟩ := BI h; unfold i_loopsIn_1__i_loopsIn_3__i_loopsIn_1_b0 at h
  have hc9 : decide (v19 < (x16.length : Int)) = true := Jn2 (by omega)
  refine Je [2] R (Jb 1 R (Jq (Jv2 R hc9 (Js (Jp (Jq (Jv (Je [2, 1, 2] R (Ob h fun x21 hx21 h => Jf R (Jf2 f7 hx21 U24 Z2 R R R R) (Jl tv R R R R (Jc2 I2 R R (hvE ((f7.stp S21 R R).gInt hx21))) (Jb 1 R (Je [1, 2, 2, 1, 2, 1, 2, 2, 1, 2, 2] R ?_))))))))))))
  have f30 := gb4.stp (S3.tr S21) R R
  refine Jl tv R R R R (Jc2 I98 R R (hvE (f30.ld 0 R R))) (Jn 1 R (Ob h fun x25 hx25 h => Jf R (Jf2 g4 hx25 U98 Z4 R R R R) ?_))
  have f31 := g4.stp (S3.tr S21) R R
  refine Jl tv R R R R (Jc2 I4 R R (hvE (f31.gBool hx25))) (Jn 1 R (Ob h fun p33 h hK32 => Ju1 [(5, 1), (6, 2), (7, 2), (8, 1), (9, 2), (10, 2)] [] (fun L w' => L = [(0, vi p0), (1, .slice a1 p1.length u1), (2, .func (.func 86) #[] #[.pointer (some ⟨b2_0, 0, none⟩)]), (3, .pointer (some ⟨b3, 0, none⟩)), (4, .pointer (some ⟨b4, 0, none⟩)), (5, .pointer (some ⟨b5, 0, none⟩)), (10, vi x21), (17, .slice ax16 x16.length ux16), (18, vi (x16.length : Int)), (19, vi v19), (33, .bool p33)] ∧ ∃ κ', Stp [] K20 w19 κ' w') tv ?_ ?_))
  revert h
  cases ht33 : x25
  refine JF fun h => Jd1 R R R R (Jn 2 R (Jd1 R R R R (Jn 2 R ?_)))
  cases h
  exact Jv1 _ tv ⟨R, _, (Jx2 _ _).wk R⟩ (KM R)
  refine JT fun h => Jl tv R R R R (Jc2 I98 R R (hvE ((gb3.stp (S3.tr S21) R R).ld 0 R R))) (Jn 1 R (Ob h fun x30 hx30 h => Jf R (Jf2 f23.rdc hx30 U98 Z4 R R hn24 R) (Jl tv R R R R (Jc2 I4 R R (hvE (f23.rdc.gBool hx30))) (Jn 2 R ?_))))
  cases h
  exact Jv1 _ tv ⟨R, _, (Jx2 _ _).wk R⟩ (KM R)
  rintro _ w35 _ ⟨rfl, K36, S37⟩
  have h := hK32
  refine Jd (Ob h fun q4 h hK38 => Jx1 (fun L w' => ∃ κ' ae af, L = [(0, vi p0), (1, .slice a1 p1.length u1), (2, .func (.func 86) #[] #[.pointer (some ⟨b2_0, 0, none⟩)]), (3, .pointer (some ⟨b3, 0, none⟩)), (4, .pointer (some ⟨b4, 0, none⟩)), (5, .pointer (some ⟨b5, 0, none⟩)), (17, .slice ax16 x16.length ux16), (18, vi (x16.length : Int)), (19, vi v19)] ∧ Stp [2, 3, 4, 7, 8, 9] K36 w35 κ' w' ∧ Oc E6 2 κ' w' 2 ae af q4.1 ∧ Oc Ep.bool 4 κ' w' 3 a3 u3 q4.2 ∧ c0.length = q4.2.length ∧ Bc κ' w' 4 b2_0 24 [.slice ae q4.1.length af]) ?_ ?_)
  revert h
  cases ht46 : p33
  refine JF fun h => Jy R (Js ?_)
  cases h
  exact Jw1 _ ⟨K36, aa, ac, R, (Jx2 _ _).wk R, (f22.stp S37 R R), (f23.stp S37 R R), hn24, (f25.stp S37 R R)⟩ (KM R)
  refine JT fun h => Jx R (Ja [1, 2, 2, 2, 1] R ?_)
  have f47 := gb5.stp (S3.tr (S21.tr S37)) R R
  refine Jl tv R R R R (Jc2 I118 R R (hvE (f47.ld 0 R R))) (Jn 3 R (Ob h fun x38 hx38 h => WO.callV R R R R R R R R C84 (ih (κ := fun b => mp [(2, 2), (3, 3), (4, 4)] 0 (K36 b)) (Jl2 (f6.stp (S21.tr S37) R R) (mp [(2, 2), (3, 3), (4, 4)] 0) R R) ((f22.stp S37 R R).map (mp [(2, 2), (3, 3), (4, 4)] 0) R R) ((f23.stp S37 R R).map (mp [(2, 2), (3, 3), (4, 4)] 0) R R) (Jl2 (f31.stp S37 R R) (mp [(2, 2), (3, 3), (4, 4)] 0) R R) ((f25.stp S37 R R).map (mp [(2, 2), (3, 3), (4, 4)] 0) R R) (Bc.cast ((gb3.stp (S3.tr (S21.tr S37)) R R).map (mp [(2, 2), (3, 3), (4, 4)] 0) R R) (by simp only [hn24])) ((f30.stp S37 R R).map (mp [(2, 2), (3, 3), (4, 4)] 0) R R) (f47.map (mp [(2, 2), (3, 3), (4, 4)] 0) R R) hx38) ?_))
  rintro _ w55 ⟨k56, al, ak, rfl, e57, f58, f59, hn60, f61⟩
  obtain ⟨K62, S63, m64⟩ := Ji e57 5 R
  refine ⟨tv, Jo ?_⟩
  cases h
  exact Jw1 _ ⟨(fun b => ren [(7, 2), (8, 3), (9, 4)] (K62 b)), al, ak, R, (Jy2 (S63.wk R) [(7, 2), (8, 3), (9, 4)] R), ((f58.mx (no_int _) m64 R (R : 5 + 2 = 7)).map (ren [(7, 2), (8, 3), (9, 4)]) R R), ((f59.mx no_bool m64 R (R : 5 + 3 = 8)).map (ren [(7, 2), (8, 3), (9, 4)]) R R), (hn24.trans hn60), ((f61.mx m64 R (R : 5 + 4 = 9)).map (ren [(7, 2), (8, 3), (9, 4)]) R R)⟩ (KM R)
  rintro _ w39 ⟨K40, ae, af, rfl, S41, f42, f43, hn44, f45⟩
  have h := hK38
  refine Jz (Jp (Ja [2, 2] R (Jc 2 R ?_)))
  have hw9 : IntKind.wrap .i64 (v19 + 1) = v19 + 1 := wr1 hj9 (Jm2 hc9) hN9
  rw [hw9]
  have hc9 := Jm2 hc9
  cases h
  exact Jz1 fun a ha => ⟨k, _, Ja3 _, ⟨K40, v19 + 1, ((q4.1 : (List Int)), (q4.2 : (List Bool))), ae, af, R, (S21.tr (S37.tr S41)).wk R, f42, f43, hn44, f45, by omega, by omega, hk28⟩, (ha.mm R)⟩
  rintro _ w12 ⟨K13, s3, ai, ah, rfl, S14, f15, f16, hn17, f18, rfl⟩
  have h := hK10
  dsimp only [aft] at h
  refine Jp (Ja [2, 2, 1] R (Jn 2 R (Ob h fun x42 hx42 h => WO.callV R R R R R R R R C86 (i_loopsIn_3_ok (κ := fun b => mp [(2, 2), (4, 3)] 0 (K13 b)) (f15.map (mp [(2, 2), (4, 3)] 0) R R) (f18.map (mp [(2, 2), (4, 3)] 0) R R) hx42) ?_)))
  rintro _ w72 ⟨k73, am, aj, rfl, e74, f75, f76⟩
  obtain ⟨K77, S78, m79⟩ := Ji e74 5 R
  refine ⟨tv, Jo (DN.end0 V84 ?_)⟩
  cases h
  exact ⟨(fun b => ren [(7, 2), (8, 4)] (K77 b)), am, aj, R, ((hE.stp (S3.tr (S14.tr S78)) R R).map (ren [(7, 2), (8, 4)]) R R), ((f75.mx (no_int _) m79 R (R : 5 + 2 = 7)).map (ren [(7, 2), (8, 4)]) R R), ((f16.stp S78 R R).map (ren [(7, 2), (8, 4)]) R R), hn17, ((f76.mx m79 R (R : 5 + 3 = 8)).map (ren [(7, 2), (8, 4)]) R R)⟩
theorem slices_Contains_I_int64_ok {w : World} {κ : Col} {a0 u0} {p0 : (List Int)} {p1 : Int} (g0 : Rd (Rp.int .i64) κ w 0 a0 u0 p0) {r : Bool} (h : slices_Contains_I_int64 p0 p1 = some r) : Ret Try.prog 72 [.slice a0 p0.length u0, vi p1] w (fun v w' => ∃ (κ' : Col), v = .bool r ∧ Ent κ w κ' w') := by
 unfold slices_Contains_I_int64 at h
 refine Ret.enter F72 R N72 R ?_
 dsimp only [envOf]
 have hE := Ent.refl κ w
 refine Je [2] R (Jb 1 R (Je [2, 2, 1, 2, 2] R (Jn 2 R (Ob h fun x7 hx7 h => Jh R R R C101 (slices_Index_I_int64_ok (κ := fun b => mp [] 0 (κ b)) (Jl2 g0 (mp [] 0) R R) hx7) ?_))))
 rintro _ w1 ⟨k2, rfl, e3⟩
 obtain ⟨K4, S5, m6⟩ := Ji e3 2 R
 refine ⟨tv, Jb 2 R (Ju (Ja2 (l := [.tmp 4]) V72 (Jp2 R R) R ?_))⟩
 cases h
 exact ⟨K4, R, (hE.stp S5 R R)⟩
theorem cmp_Less_int64_ok {w : World} {κ : Col} {p0 : Int} {p1 : Int}  {r : Bool} (h : cmp_Less_int64 p0 p1 = some r) : Ret Try.prog 107 [vi p0, vi p1] w (fun v w' => ∃ (κ' : Col), v = .bool r ∧ Ent κ w κ' w') := by
 unfold cmp_Less_int64 at h
 refine Ret.enter F107 R N107 R ?_
 dsimp only [envOf]
 have hE := Ent.refl κ w
 refine Je [2] R (Jb 1 R (Je [2, 1, 2, 2, 1, 2, 2, 2, 2, 2, 2, 2, 2] R (Jn 1 R (Ob h fun x6 hx6 h => Jh R R R C133 (cmp_isNaN_int64_ok (κ := fun b => mp [] 0 (κ b)) hx6) ?_))))
 rintro _ w1 ⟨k2, rfl, e3⟩
 obtain ⟨K4, S5, m6⟩ := Ji e3 2 R
 refine ⟨tv, Jn 1 R (Ob h fun p11 h hK8 => Ju1 [(3, 2), (4, 1), (5, 2), (6, 2)] [(7, 2), (8, 2), (9, 2), (10, 2), (11, 2), (12, 2)] (fun L w' => L = [(0, vi p0), (1, vi p1), (4, .bool false), (11, .bool p11)] ∧ ∃ κ', Stp [] K4 w1 κ' w') tv ?_ ?_)⟩
 revert h
 cases ht9 : x6
 refine JF fun h => Jn 1 R (Jd1 R R R R (Jn 2 R ?_))
 cases h
 exact Jv1 _ tv ⟨R, _, (Jx2 _ _).wk R⟩ (KM R)
 refine JT fun h => Jn 1 R (Ob h fun x9 hx9 h => Jh R R R C133 (cmp_isNaN_int64_ok (κ := fun b => mp [] 0 (K4 b)) hx9) ?_)
 rintro _ w10 ⟨k11, rfl, e12⟩
 obtain ⟨K13, S14, m15⟩ := Ji e12 4 R
 refine ⟨tv, Jn 2 R ?_⟩
 cases h
 exact Jv1 _ tv ⟨R, _, S14.wk R⟩ (KM R)
 rintro _ w17 _ ⟨rfl, K18, S19⟩
 have h := hK8
 refine Jn 1 R (Ob h fun p16 h hK20 => Ju1 [(8, 2), (9, 2), (10, 2), (11, 2)] [(12, 2)] (fun L w' => L = [(4, .bool false), (16, .bool p16)] ∧ ∃ κ', Stp [] K18 w17 κ' w') tv ?_ ?_)
 revert h
 cases ht21 : p11
 refine JF fun h => Jn 4 R ?_
 cases h
 exact Jv1 _ tv ⟨R, _, (Jx2 _ _).wk R⟩ (KM R)
 refine JT fun h => Jn 4 R ?_
 cases h
 exact Jv1 _ tv ⟨R, _, (Jx2 _ _).wk R⟩ (KM R)
 rintro _ w22 _ ⟨rfl, K23, S24⟩
 have h := hK20
 refine Jb 1 R (Ju (Ja2 (l := [.tmp 4]) V107 (Jp2 R R) R ?_))
 cases h
 exact ⟨K23, R, (hE.stp (S5.tr (S19.tr S24)) R R)⟩
theorem s_l1Rises_ok {w : World} {κ : Col} {a0 u0} {p0 : (List Int)} {p1 : Int} (g0 : Rd (Rp.int .i64) κ w 0 a0 u0 p0) {r : Bool} (h : s_l1Rises p0 p1 = some r) : Ret Try.prog 55 [.slice a0 p0.length u0, vi p1] w (fun v w' => ∃ (κ' : Col), v = .bool r ∧ Ent κ w κ' w') := by
 unfold s_l1Rises at h
 refine Ret.enter F55 R N55 R ?_
 dsimp only [envOf]
 have hE := Ent.refl κ w
 refine Je [2] R (Jb 1 R (Jq (Je [2] R (Jb 1 R ?_))))
 have hN1 : (p0.length : Int) ≤ 9223372036854775807 := g0.len_le
 refine Ob h fun q2 hq3 hK2 => ?_
 clear h
 refine Jx1 (fun L w' => ∃ κ', L = [] ∧ Stp [] κ w κ' w' ∧ q2 = Sum.inr ()) ?_ ?_
 refine Jv (Jy1 (fun k L w' => ∃ κ' v5, L = [(0, .slice a0 p0.length u0), (1, vi p1), (5, vi v5)] ∧ Stp [] κ w κ' w' ∧ 0 ≤ v5 ∧ Int.toNat ((p0.length : Int) - v5) = k ∧ cntM (s_l1Rises_b0 p0 p1) k v5 () = some q2) ⟨_, _, ⟨κ, 0, R, (Jx2 _ _).wk R, (by decide), (by simp), hq3⟩, (KM R)⟩ ?_)
 rintro k _ w7 ⟨K8, v5, rfl, S9, hj1, hJ1, h⟩
 rcases k with _ | k
 have hk10 := h; obtain ⟨o1, h⟩ := ex_eq (Sum.inr (Sum.inl ()) : Bool ⊕ ((Unit) ⊕ (Unit)))
 have hc1 : decide (v5 < (p0.length : Int)) = false := Jo2 (by omega)
 refine Jq (Je [2, 2, 2, 2] R (Jn 2 R (Jf R (Je2 U24 R R) (Jb 1 R (Jw2 R hc1 (Jc1 (Jt (Jt ?_))))))))
 cases h
 have h := hk10
 refine Jb1 ?_
 cases h
 exact Jw1 _ ⟨K8, R, S9.wk R, R⟩ KN
 obtain ⟨o1, h, hk10⟩ := BI h; unfold s_l1Rises_b0 at h
 have hc1 : decide (v5 < (p0.length : Int)) = true := Jn2 (by omega)
 refine Jq (Je [2, 2, 2, 2] R (Jn 2 R (Jf R (Je2 U24 R R) (Jb 1 R (Jv2 R hc1 (Js (Jp (Jq (Jv (Jq (Js1 (κ := K8) [0] none [(0, 2), (1, 2), (2, 2), (4, 2), (5, 2), (3, 0), (6, 1), (7, 2), (8, 2), (9, 2), (10, 2), (11, 2), (12, 2), (13, 2), (14, 2), (16, 2), (17, 2), (18, 2), (19, 2), (15, 0), (20, 0), (21, 2), (22, 2), (23, 2)] [] (by kernel_rfl) (by kernel_rfl) fun w12 S11 => Jn 2 R (Ob h fun x14 hx14 h => Jf R (Jf2 g0 hx14 U24 Z2 R R R R) (Jn 2 R ?_)))))))))))))
 have f13 := g0.stp (S9.tr S11) R R
 refine Jg R (Jc2 I2 R R (hvC (f13.gInt hx14) R)) (Ob h fun x18 hx18 h => Jh R R R C53 (s_l1In_ok (κ := fun b => mp [] 0 (K8 b)) hx18) ?_)
 rintro _ w14 ⟨k15, rfl, e16⟩
 obtain ⟨K17, S18, m19⟩ := Ji e16 2 R
 refine ⟨(S18.cl R), Jn 2 R (Ob h fun p35 h hK21 => Ju1 [(9, 2), (10, 2), (11, 2), (12, 2), (13, 2), (14, 2), (16, 2), (17, 2), (18, 2), (19, 2), (15, 0), (20, 0), (21, 2), (22, 2), (23, 2)] [] (fun L w' => L = [(0, .slice a0 p0.length u0), (1, vi p1), (5, vi v5), (35, .bool p35)] ∧ ∃ κ', Stp [] K17 w14 κ' w') (S18.cl R) ?_ ?_)⟩
 revert h
 cases ht22 : (!x18)
 refine JF fun h => Jn 3 R (Ob h fun p34 h hK23 => Ju1 [(12, 2), (13, 2), (14, 2), (16, 2), (17, 2), (18, 2), (19, 2), (15, 0), (20, 0), (21, 2), (22, 2)] [(23, 2)] (fun L w' => L = [(0, .slice a0 p0.length u0), (1, vi p1), (5, vi v5), (20, .bool false), (21, vi v5), (22, .bool (decide (0 < v5))), (23, .bool (decide (0 < v5))), (34, .bool p34)] ∧ ∃ κ', Stp [] K17 w14 κ' w') (S18.cl R) ?_ ?_)
 revert h
 cases ht24 : decide (0 < v5)
 refine JF fun h => Jn 7 R (Je1 R R R R (Je1 R R R R (Jn 2 R ?_)))
 cases h
 exact Jv1 _ (S18.cl R) ⟨R, _, (Jx2 _ _).wk R⟩ (KM R)
 refine JT fun h => Jn 2 R (Ob h fun x26 hx26 h => Jf R (Jf2 f13 hx26 U24 Z2 R R R R) (Jn 3 R (Ob h fun x31 hx31 h => Jf R (Jf2 f13 hx31 U24 Z2 R R R R) (Jg R (Jc2 I2 R R (hvC (f13.gInt hx26) R)) (Jg R (Jc2 I2 R R (hvC (f13.gInt hx31) R)) (Jn 2 R ?_))))))
 cases h
 exact Jv1 _ (S18.cl R) ⟨R, _, (Jx2 _ _).wk R⟩ (KM R)
 rintro _ w25 _ ⟨rfl, K26, S27⟩
 have h := hK23
 refine Jn 1 R ?_
 cases h
 exact Jv1 _ ((S18.tr S27).cl R) ⟨R, _, S27.wk R⟩ (KM R)
 refine JT fun h => Jn 10 R (Je1 R R R R (Je1 R R R R (Jn 3 R ?_)))
 cases h
 exact Jv1 _ (S18.cl R) ⟨R, _, (Jx2 _ _).wk R⟩ (KM R)
 rintro _ w28 _ ⟨rfl, K29, S30⟩
 have h := hK21
 refine Jt1 (Jd ?_)
 revert h
 cases ht31 : p35
 refine JF fun h => Jy R (Js (Jz (Jp (Ja [2, 2, 2] R (Jc 3 R ?_)))))
 have hw1 : IntKind.wrap .i64 (v5 + 1) = v5 + 1 := wr1 hj1 (Jm2 hc1) hN1
 rw [hw1]
 have hc1 := Jm2 hc1
 cases h
 exact Jz1 fun a ha => ⟨k, _, Ja3 _, ⟨K29, v5 + 1, R, (S9.tr (S11.tr (S18.tr S30))).wk R, by omega, by omega, hk10⟩, (ha.mm R)⟩
 refine JT fun h => Jx R (Je [2] R (Jb 1 R (Ju (Ja1 (Jw (Jw ?_))))))
 cases h
 obtain rfl := Option.some.inj hk10
 have h := hK2
 dsimp only [aft] at h
 refine Ja1 (Jq2 (Jw (Ja2 (l := [.tmp 4]) V55 (Jp2 R R) R ?_)))
 cases h
 exact ⟨K29, R, (hE.stp (S9.tr (S11.tr (S18.tr S30))) R R)⟩
 rintro _ w4 ⟨K5, rfl, S6, rfl⟩
 have h := hK2
 dsimp only [aft] at h
 refine Jp (Je [2] R (Jb 1 R (Ju (Ja2 (l := [.tmp 4]) V55 (Jp2 R R) R ?_))))
 cases h
 exact ⟨K5, R, (hE.stp S6 R R)⟩
theorem s_l1Beyond_ok {w : World} {κ : Col} {a0 u0} {p0 : (List (List Int))} {a1 u1} {p1 : (List Bool)} {a2 u2} {p2 : (List Int)} (g0 : Rd (Rp.sl (Rp.int .i64)) κ w 0 a0 u0 p0) (g1 : Rd Rp.bool κ w 0 a1 u1 p1) (g2 : Rd (Rp.int .i64) κ w 0 a2 u2 p2) {r : (List Bool)} (h : s_l1Beyond p0 p1 p2 = some r) : Ret Try.prog 80 [.slice a0 p0.length u0, .slice a1 p1.length u1, .slice a2 p2.length u2] w (fun v w' => ∃ (κ' : Col) (ra0 : Option Addr) (ru0 : Nat), v = .slice ra0 r.length ru0 ∧ Ent κ w κ' w' ∧ Oc Ep.bool 4 κ' w' 2 ra0 ru0 r) := by
 unfold s_l1Beyond at h
 refine Ret.enter F80 R N80 R ?_
 dsimp only [envOf]
 have hE := Ent.refl κ w
 refine Je [2] R (Jb 1 R (Je [2, 2, 1, 2] R (Jn 1 R (Jf R (Je2 U22 R R) (Ob h fun x14 hx14 h => Jl1 (κ := κ) (E := Ep.bool) (z := (false : Bool)) 2 R R R R R R R Y98 Tryinfo4 R R R R R (fun _ _ _ => R) (Ju2 hx14) fun ab aa w1 K2 S3 f4 => ⟨tv, Jb 1 R (Je [2, 1, 2] R (Jn 1 R (Ob h fun x16 hx16 h => Jh R R R C102 (s_l1Copy_ok (κ := fun b => mp [] 0 (K2 b)) (Jl2 (g2.stp S3 R R) (mp [] 0) R R) hx16) ?_)))⟩)))))
 rintro _ w6 ⟨k7, ao, ap, rfl, e8, f9⟩
 obtain ⟨K10, S11, m12⟩ := Ji e8 3 R
 refine ⟨tv, Jb 1 R (Jq (Ob h fun q2 hq17 hK16 => ?_))⟩
 clear h
 refine Jx1 (fun L w' => ∃ κ', ∃ s3 : (List Int) × (List Bool), ∃ am al, L = [(7, .slice ab x14.length aa)] ∧ Stp [2, 5] K10 w6 κ' w' ∧ Oc E6 2 κ' w' 5 am al s3.1 ∧ Oc Ep.bool 4 κ' w' 2 ab aa s3.2 ∧ x14.length = s3.2.length ∧ q2 = Sum.inr s3) ?_ ?_
 refine Jv (Jy1 (fun k L w' => ∃ κ', ∃ s1 : (List Int) × (List Bool), ∃ af ad, L = [(0, .slice a0 p0.length u0), (1, .slice a1 p1.length u1), (7, .slice ab x14.length aa), (8, .slice af s1.1.length ad)] ∧ Stp [2, 5] K10 w6 κ' w' ∧ Oc E6 2 κ' w' 5 af ad s1.1 ∧ Oc Ep.bool 4 κ' w' 2 ab aa s1.2 ∧ x14.length = s1.2.length ∧ whileM (s_l1Beyond_b0 p0 p1) k s1 = some q2) ⟨_, _, ⟨K10, ((x16 : (List Int)), (x14 : (List Bool))), ao, ap, R, (Jx2 _ _).wk R, (f9.mx (no_int _) m12 R (R : 3 + 2 = 5)), (f4.stp S11 R R), R, hq17⟩, (KM R)⟩ ?_)
 rintro k _ w24 ⟨K25, s1, af, ad, rfl, S26, f27, f28, hn29, h⟩
 rcases k with _ | k
 cases h
 obtain ⟨o15, h, hk31⟩ := BI h; unfold s_l1Beyond_b0 at h
 refine Jq (Je [2, 2, 2] R (Jn 1 R (Jf R (Je2 U24 R R) (Jb 1 R ?_))))
 revert h
 cases ht32 : decide (0 < (s1.1.length : Int))
 refine JF fun h => Jy R (Jc1 (Jt (Jt ?_)))
 cases h
 have h := hk31
 refine Jb1 ?_
 cases h
 exact Jw1 _ ⟨K25, ((s1.1 : (List Int)), (s1.2 : (List Bool))), af, ad, R, S26.wk R, f27, f28, hn29, R⟩ (KM R)
 refine JT fun h => Jx R (Js (Jp (Jv (Je [2, 2, 2, 2, 2, 1, 2] R (Jn 2 R (Jf R (Je2 U24 R R) (Jn 1 R (Ob h fun x24 hx24 h => Jf R (Jf2 f27.rdc hx24 U24 Z2 R R R R) (Jl tv R R R R (Jc2 I2 R R (hvE (f27.rdc.gInt hx24))) (Jb 1 R (Je [2, 2, 2, 2, 2, 2] R (Jn 2 R (Jf R (Je2 U24 R R) (Jn 1 R (Ob h fun x30 hx30 h => Jf R (rn_slice (k1 := .i64) (k2 := .i64) U24 Z2 (.inl ⟨R, R⟩) (.inr ⟨_, R, R⟩) hx30 f27.rdc.1 R R R) (Jb 1 R (Je [2] R (Jb 1 R (Ob h fun q5 hq36 hK35 => ?_)))))))))))))))))))
 clear h
 refine Jx1 (fun L w' => ∃ κ', ∃ s6 : (List Int) × Int × (List Bool), ∃ ak ah, L = [(0, .slice a0 p0.length u0), (1, .slice a1 p1.length u1), (7, .slice ab x14.length aa), (8, .slice ak s6.1.length ah)] ∧ Stp [2, 5] K25 w24 κ' w' ∧ Oc E6 2 κ' w' 5 ak ah s6.1 ∧ Oc Ep.bool 4 κ' w' 2 ab aa s6.2.2 ∧ x14.length = s6.2.2.length ∧ q5 = Sum.inr s6) ?_ ?_
 refine Jv (Jy1 (fun k L w' => ∃ κ', ∃ s4 : (List Int) × Int × (List Bool), ∃ ae ac, L = [(0, .slice a0 p0.length u0), (1, .slice a1 p1.length u1), (7, .slice ab x14.length aa), (8, .slice ae s4.1.length ac), (9, vi x24), (10, vi s4.2.1)] ∧ Stp [2, 5] K25 w24 κ' w' ∧ Oc E6 2 κ' w' 5 ae ac s4.1 ∧ Oc Ep.bool 4 κ' w' 2 ab aa s4.2.2 ∧ x14.length = s4.2.2.length ∧ whileM (s_l1Beyond_b2 p0 p1 x24) k s4 = some q5) ⟨_, _, ⟨K25, ((x30 : (List Int)), (0 : Int), (s1.2 : (List Bool))), (subA af ad (0 : Int).toNat 1), (ad - (0 : Int).toNat), R, (Jx2 _ _).wk R, (f27.sub hx30), f28, hn29, hq36⟩, (KM R)⟩ ?_)
 rintro k _ w43 ⟨K44, s4, ae, ac, rfl, S45, f46, f47, hn48, h⟩
 rcases k with _ | k
 cases h
 obtain ⟨o34, h, hk49⟩ := BI h; unfold s_l1Beyond_b2 at h
 refine Jq (Je [2, 2, 2, 2, 1, 2, 2] R (Jn 3 R (Ob h fun x34 hx34 h => Jf R (Jf2 g0 hx34 U22 Z24 R R R R) ?_)))
 have f50 := g0.stp (S3.tr (S11.tr (S26.tr S45))) R R
 obtain ⟨ax34, ux34, f51, hl52⟩ := f50.gSl hx34
 refine Jl tv R R R R (Jc2 I24 R R (hvE hl52)) (Jf R (Je2 U24 R R) (Jb 1 R ?_))
 revert h
 cases ht53 : decide (s4.2.1 < (x34.length : Int))
 refine JF fun h => Jy R (Jc1 (Jt (Jt ?_)))
 cases h
 have h := hk49
 refine Jb1 ?_
 cases h
 exact Jw1 _ ⟨K44, ((s4.1 : (List Int)), (s4.2.1 : Int), (s4.2.2 : (List Bool))), ae, ac, R, S45.wk R, f46, f47, hn48, R⟩ (KM R)
 refine JT fun h => Jx R (Js (Jp (Jq (Jv (Je [2, 2, 2, 1, 2, 2, 1, 2] R (Jn 2 R (Ob h fun x42 hx42 h => Jf R (Jf2 f50 hx42 U22 Z24 R R R R) ?_)))))))
 obtain ⟨ax42, ux42, f54, hl55⟩ := f50.gSl hx42
 refine Jl tv R R R R (Jc2 I24 R R (hvE hl55)) (Jn 1 R (Ob h fun x45 hx45 h => Jf R (Jf2 f54 hx45 U24 Z2 R R R R) (Jl tv R R R R (Jc2 I2 R R (hvE (f54.gInt hx45))) (Jb 1 R (Je [2, 2, 2, 1, 2, 2, 2, 2, 1, 2, 2] R (Jn 2 R (Ob h fun x49 hx49 h => Jf R (Jf2 g1 hx49 U98 Z4 R R R R) (Jl tv R R R R (Jc2 I4 R R (hvE ((g1.stp (S3.tr (S11.tr (S26.tr S45))) R R).gBool hx49))) (Jn 1 R (Ob h fun p57 h hK57 => Ju1 [(5, 2), (6, 2), (7, 2), (8, 1), (9, 2), (10, 2)] [] (fun L w' => L = [(0, .slice a0 p0.length u0), (1, .slice a1 p1.length u1), (7, .slice ab x14.length aa), (8, .slice ae s4.1.length ac), (9, vi x24), (10, vi s4.2.1), (11, vi x45), (57, .bool p57)] ∧ ∃ κ', Stp [] K44 w43 κ' w') tv ?_ ?_))))))))))
 revert h
 cases ht58 : x49
 refine JF fun h => Jn 3 R (Jd1 R R R R (Jn 2 R ?_))
 cases h
 exact Jv1 _ tv ⟨R, _, (Jx2 _ _).wk R⟩ (KM R)
 refine JT fun h => Jn 2 R (Ob h fun x54 hx54 h => Jf R (Jf2 f47.rdc hx54 U98 Z4 R R hn48 R) (Jl tv R R R R (Jc2 I4 R R (hvE (f47.rdc.gBool hx54))) (Jn 2 R ?_)))
 cases h
 exact Jv1 _ tv ⟨R, _, (Jx2 _ _).wk R⟩ (KM R)
 rintro _ w59 _ ⟨rfl, K60, S61⟩
 have h := hK57
 refine Jd (Ob h fun q7 h hK62 => Jx1 (fun L w' => ∃ κ' aj ai, L = [(0, .slice a0 p0.length u0), (1, .slice a1 p1.length u1), (7, .slice ab x14.length aa), (8, .slice aj q7.1.length ai), (9, vi x24), (10, vi s4.2.1)] ∧ Stp [2, 5] K60 w59 κ' w' ∧ Oc E6 2 κ' w' 5 aj ai q7.1 ∧ Oc Ep.bool 4 κ' w' 2 ab aa q7.2 ∧ x14.length = q7.2.length) ?_ ?_)
 revert h
 cases ht69 : p57
 refine JF fun h => Jy R (Js ?_)
 cases h
 exact Jw1 _ ⟨K60, ae, ac, R, (Jx2 _ _).wk R, (f46.stp S61 R R), (f47.stp S61 R R), hn48⟩ (KM R)
 refine JT fun h => Jx R (Je [2, 2, 2, 1] R (Jn 2 R (Ob h fun x60 hx60 h => Jf R (Jf2 f47.rdc hx60 U98 Z4 R R hn48 R) (Ob h fun y137 hy137 h => Jk1 (κ := K60) (E := Ep.bool) 2 [] R R R R R R R R Z4 R R R R (f47.stp S61 R R) hy137 fun w71 K72 S73 f74 => ⟨tv, ?_⟩))))
 have hn75 : x14.length = y137.length := hn48.trans (Jt2 hy137).2.2.2.symm
 refine Jd (Ja [2, 2, 1, 1, 2] R (Jn 2 R (Jn1 (κ := K72) (E := E6) 6 [] (parts := [(0, .tmp 62)]) (cells := [vi x45]) (xs := ([x45] : List Int)) R R R R R R Y24 Tryinfo2 R R R R R R R R R R ⟨[vi x45], [], Zl K72 w71 [], Zl K72 w71 [], R, Zl.sp (l1 := []) (l2 := []) R, Zl.sr (l1 := []) (l2 := []), R, R⟩ fun au ar w76 K77 S78 f79 => ⟨tv, Ob h fun x64 hx64 h => Jm1 (κ := K77) (E := E6) 5 [] R R R R R R R R R Y24 Tryinfo2 R R R R (f46.stp (S61.tr (S73.tr S78)) R R) (Sl.srcP (pu_int _) f79.rdc) sy_false hx64 R fun an aq w81 K82 S83 f84 => ⟨tv, Jc 1 R ?_⟩⟩)))
 cases h
 exact Jw1 _ ⟨K82, an, aq, R, (S73.tr (S78.tr S83)).wk R, f84, (f74.stp (S78.tr S83) R R), hn75⟩ (KM R)
 rintro _ w63 ⟨K64, aj, ai, rfl, S65, f66, f67, hn68⟩
 have h := hK62
 refine Jz (Jp (Ja [2, 2, 2] R (Jc 3 R ?_)))
 cases h
 exact Jz1 fun a ha => ⟨k, _, Ja3 _, ⟨K64, ((q7.1 : (List Int)), ((IntKind.i64.wrap (s4.2.1 + 1)) : Int), (q7.2 : (List Bool))), aj, ai, R, (S45.tr (S61.tr S65)).wk R, f66, f67, hn68, hk49⟩, (ha.mm R)⟩
 rintro _ w37 ⟨K38, s6, ak, ah, rfl, S39, f40, f41, hn42, rfl⟩
 have h := hK35
 dsimp only [aft] at h
 refine Jz ?_
 cases h
 exact Jz1 fun a ha => ⟨k, _, Ja3 _, ⟨K38, ((s6.1 : (List Int)), (s6.2.2 : (List Bool))), ak, ah, R, (S26.tr S39).wk R, f40, f41, hn42, hk31⟩, (ha.mm R)⟩
 rintro _ w18 ⟨K19, s3, am, al, rfl, S20, f21, f22, hn23, rfl⟩
 have h := hK16
 dsimp only [aft] at h
 refine Jp (Je [2, 2] R (Jb 2 R (Ju (Ja2 (l := [.tmp 6]) V80 (Jp2 R R) R ?_))))
 cases h
 exact ⟨K19, ab, aa, (by simp only [hn23]), (hE.stp (S3.tr (S11.tr S20)) R R), f22⟩
end Go.Proofs.Ytcmamhmpoinmnaa
