/- The walks, part 7. By program. -/
import Derived.Test.YtmiilifclnanlaaGreatFns3RB
import Derived.Test.YtmiilifclnanlaaGreatFns4RB
import Derived.Test.YtmiilifclnanlaaGreatFns5RB
set_option linter.unusedVariables false
set_option linter.unusedSimpArgs false
namespace Go.Proofs.YtmiilifclnanlaaGreat
open Go Go.Wk Go.Proofs
set_option maxRecDepth 100000
set_option maxHeartbeats 1000000
theorem l_szArena_ok {w : World} {κ : Col} {ab aa ad ac} {p0 : Arena} {p1 : Int} (g0_0 : Rd (Rp.int .i64) κ w 0 ab aa p0.Owner) (g0_1 : Rd (Rp.sl (Rp.int .i64)) κ w 0 ad ac p0.Next) {r : Int} (h : l_szArena p0 p1 = some r) : Ret Tryz.prog 34 [.agg #[.slice ab p0.Owner.length aa, .slice ad p0.Next.length ac], vi p1] w (fun v w' => ∃ (κ' : Col), v = vi r ∧ Ent κ w κ' w') := by
 unfold l_szArena at h
 refine Ret.enter F34 R N34 R ?_
 dsimp only [envOf]
 have hE := Ent.refl κ w
 refine Je [1, 2] R (Jf1 (κ := κ) 2 R R R R R R R fun b2 w1 K2 S3 f4 => ⟨tv, Jb 1 R (Je [2, 1, 2, 1, 2] R (Jf R (Jb2 U25 R Z22 R R) (Jl tv R R R R (Jc2 I22 R R (hvE (f4.ld 0 R R))) (Jn 1 R (Ob h fun x8 hx8 h => Jh R R R C35 (l_szInt64S_ok (κ := fun b => mp [] 0 (K2 b)) (Jl2 (g0_0.stp S3 R R) (mp [] 0) R R) hx8) ?_)))))⟩)
 rintro _ w6 ⟨k7, rfl, e8⟩
 obtain ⟨K9, S10, m11⟩ := Ji e8 3 R
 refine ⟨tv, Jb 1 R (Jq (Je [2, 2] R (Jb 2 R ?_)))⟩
 revert h
 cases ht13 : decide (x8 < 0)
 refine JF fun h => Jy R (Js (Jp (Je [2, 1, 2, 1, 2] R (Jf R (Jb2 U25 R Z23 R R) (Jl tv R R R R (Jc2 I23 R R (hvE ((f4.stp S10 R R).ld 1 R R))) (Jn 1 R (Ob h fun x14 hx14 h => Jh R R R C74 (l_szInt64SS_ok (κ := fun b => mp [] 0 (K9 b)) (Jl2 (g0_1.stp (S3.tr S10) R R) (mp [] 0) R R) hx14) ?_)))))))
 rintro _ w17 ⟨k18, rfl, e19⟩
 obtain ⟨K20, S21, m22⟩ := Ji e19 5 R
 refine ⟨tv, Jb 1 R (Jq (Je [2, 2] R (Jb 2 R ?_)))⟩
 revert h
 cases ht24 : decide (x14 < 0)
 refine JF fun h => Jy R (Js (Jp (Je [2, 2] R (Jb 2 R (Ju (Ja2 (l := [.tmp 4]) V34 (Jp2 R R) R ?_))))))
 cases h
 exact ⟨K20, R, (hE.stp (S3.tr (S10.tr S21)) R R)⟩
 refine JT fun h => Jx R (Je [2] R (Jb 1 R (Ju (Jw (Ja2 (l := [.tmp 4]) V34 (Jp2 R R) R ?_)))))
 cases h
 exact ⟨K20, R, (hE.stp (S3.tr (S10.tr S21)) R R)⟩
 refine JT fun h => Jx R (Je [2] R (Jb 1 R (Ju (Jw (Ja2 (l := [.tmp 4]) V34 (Jp2 R R) R ?_)))))
 cases h
 exact ⟨K9, R, (hE.stp (S3.tr S10) R R)⟩
theorem l_toArena_ok {w : World} {κ : Col} {ai af ae ah} {p0 : Arena} (g0_0 : Rd (Rp.int .i64) κ w 0 ai af p0.Owner) (g0_1 : Rd (Rp.sl (Rp.int .i64)) κ w 0 ae ah p0.Next) {r : Arena} (h : l_toArena p0 = some r) : Ret Tryz.prog 39 [.agg #[.slice ai p0.Owner.length af, .slice ae p0.Next.length ah]] w (fun v w' => ∃ (κ' : Col) (ra0 : Option Addr) (ru0 : Nat) (ra1 : Option Addr) (ru1 : Nat), v = .agg #[.slice ra0 r.Owner.length ru0, .slice ra1 r.Next.length ru1] ∧ Ent κ w κ' w' ∧ Oc E6 2 κ' w' 2 ra0 ru0 r.Owner ∧ Oc (Ep.own E6 2) 22 κ' w' 3 ra1 ru1 r.Next) := by
 unfold l_toArena at h
 refine Ret.enter F39 R N39 R ?_
 dsimp only [envOf]
 have hE := Ent.refl κ w
 refine Je [1, 1] R (Jf1 (κ := κ) 2 R R R R R R R fun b1 w1 K2 S3 f4 => ⟨tv, Jg1 (κ := K2) 3 R R R R R X37 R fun b2 w5 K6 S7 f8 => ⟨tv, Jd (Je [1] R (Jg1 (κ := K6) 4 R R R R R X37 R fun b3 w9 K10 S11 f12 => ⟨tv, Jd (Je [2, 1, 1, 2, 1] R (Jf R (Jb2 U25 R Z22 R R) ?_))⟩))⟩⟩)
 have f13 := f4.stp (S7.tr S11) R R
 refine Jl tv R R R R (Jc2 I22 R R (hvE (f13.ld 0 R R))) (Ob h fun x6 hx6 h => Jh R R R C40 (l_toInt64S_ok (κ := fun b => mp [] 0 (K10 b)) (Jl2 (g0_0.stp (S3.tr (S7.tr S11)) R R) (mp [] 0) R R) hx6) ?_)
 rintro _ w15 ⟨k16, aa, ab, rfl, e17, f18⟩
 obtain ⟨K19, S20, m21⟩ := Ji e17 5 R
 refine ⟨tv, Jf R (Jb2 U37 R Z22 R R) (Ji1 (κ := K19) 4 (off := 0) (vc := [.slice aa x6.length ab]) (cs' := [.slice aa x6.length ab, .slice none 0 0]) R R R R R R R Z22 R R (f12.stp S20 R R) R R fun w25 S26 f27 => ⟨tv, Jd (Je [2, 1, 1, 2, 1] R (Jf R (Jb2 U25 R Z23 R R) (Jl tv R R R R (Jc2 I23 R R (hvE ((f13.stp (S20.tr S26) R R).ld 1 R R))) (Ob h fun x10 hx10 h => Jh R R R C79 (l_toInt64SS_ok (κ := fun b => mp [] 0 (K19 b)) (Jl2 (g0_1.stp (S3.tr (S7.tr (S11.tr (S20.tr S26)))) R R) (mp [] 0) R R) hx10) ?_))))⟩)⟩
 rintro _ w30 ⟨k31, ac, ad, rfl, e32, f33⟩
 obtain ⟨K34, S35, m36⟩ := Ji e32 8 R
 refine ⟨tv, Jf R (Jb2 U37 R Z23 R R) (Ji1 (κ := K34) 4 (off := 1) (vc := [.slice ac x10.length ad]) (cs' := [.slice aa x6.length ab, .slice ac x10.length ad]) R R R R R R R Z23 R R (f27.stp S35 R R) R R fun w40 S41 f42 => ⟨tv, Jd (Je [1, 1] R (Jl tv R R R R (Jd2 (cs := [.slice aa x6.length ab, .slice ac x10.length ad]) I37 Z37 R R R (haE f42.cells)) (Jj1 (κ := K34) 3 (vc := [.slice aa x6.length ab, .slice ac x10.length ad]) R R R R R R R Z37 R R (f8.stp (S11.tr (S20.tr (S26.tr (S35.tr S41)))) R R) R fun w44 S45 f46 => ⟨tv, Jd (Ju (Ja2 (l := [.cell 2 37]) V39 (res_cellA R f46 I37 Z37 R R) R ?_))⟩)))⟩)⟩
 cases h
 exact ⟨(fun b => ren [(7, 2), (10, 3)] (K34 b)), aa, ab, ac, ad, R, ((hE.stp (S3.tr (S7.tr (S11.tr (S20.tr (S26.tr (S35.tr (S41.tr S45))))))) R R).map (ren [(7, 2), (10, 3)]) R R), (((f18.mx (no_int _) m21 R (R : 5 + 2 = 7)).stp (S26.tr (S35.tr (S41.tr S45))) R R).map (ren [(7, 2), (10, 3)]) R R), (((f33.mx (no_own (no_int _) _) m36 R (R : 8 + 2 = 10)).stp (S41.tr S45) R R).map (ren [(7, 2), (10, 3)]) R R)⟩
theorem s_l1Set_ok {w : World} {κ : Col} {a0 u0} {p0 : (List Int)} {p1 : Int} (g0 : Rd (Rp.int .i64) κ w 0 a0 u0 p0) {r : Bool} (h : s_l1Set p0 p1 = some r) : Ret Tryz.prog 123 [.slice a0 p0.length u0, vi p1] w (fun v w' => ∃ (κ' : Col), v = .bool r ∧ Ent κ w κ' w') := by
 unfold s_l1Set at h
 refine Ret.enter F123 R N123 R ?_
 dsimp only [envOf]
 have hE := Ent.refl κ w
 refine Je [2] R (Jb 1 R (Je [2, 2, 2, 2, 2, 2, 2, 1, 2, 2] R (Jn 1 R (Jf R (Je2 U22 R R) (Jn 3 R (Ob h fun p13 h hK1 => Ju1 [(5, 2), (6, 2), (7, 1), (8, 2)] [(9, 2)] (fun L w' => L = [(4, .bool false), (13, .bool p13)] ∧ ∃ κ', Stp [] κ w κ' w') tv ?_ ?_))))))
 revert h
 cases ht2 : decide ((p0.length : Int) ≤ p1)
 refine JF fun h => Jn 2 R (Jd1 R R R R (Jn 1 R ?_))
 cases h
 exact Jv1 _ tv ⟨R, _, (Jx2 _ _).wk R⟩ (KM R)
 refine JT fun h => Jn 2 R (Ob h fun x12 hx12 h => Jh R R R C147 (s_l1Rises_ok (κ := fun b => mp [] 0 (κ b)) (Jl2 g0 (mp [] 0) R R) hx12) ?_)
 rintro _ w3 ⟨k4, rfl, e5⟩
 obtain ⟨K6, S7, m8⟩ := Ji e5 2 R
 refine ⟨tv, Jn 1 R ?_⟩
 cases h
 exact Jv1 _ tv ⟨R, _, S7.wk R⟩ (KM R)
 rintro _ w10 _ ⟨rfl, K11, S12⟩
 have h := hK1
 refine Jb 1 R (Ju (Ja2 (l := [.tmp 4]) V123 (Jp2 R R) R ?_))
 cases h
 exact ⟨K11, R, (hE.stp S12 R R)⟩
theorem s_l4Copy_ok {w : World} {κ : Col} {af ab aa aj al am} {p0 : Parity} (g0_0_0 : Rd (Rp.int .i64) κ w 0 af ab p0.Arena.Owner) (g0_0_1 : Rd (Rp.sl (Rp.int .i64)) κ w 0 aa aj p0.Arena.Next) (g0_1 : Rd (Rp.int .i64) κ w 0 al am p0.Prio) {r : Parity} (h : s_l4Copy p0 = some r) : Ret Tryz.prog 73 [.agg #[.slice af p0.Arena.Owner.length ab, .slice aa p0.Arena.Next.length aj, .slice al p0.Prio.length am]] w (fun v w' => ∃ (κ' : Col) (ra0 : Option Addr) (ru0 : Nat) (ra1 : Option Addr) (ru1 : Nat) (ra2 : Option Addr) (ru2 : Nat), v = .agg #[.slice ra0 r.Arena.Owner.length ru0, .slice ra1 r.Arena.Next.length ru1, .slice ra2 r.Prio.length ru2] ∧ Ent κ w κ' w' ∧ Oc E6 2 κ' w' 2 ra0 ru0 r.Arena.Owner ∧ Oc (Ep.fz (Rp.sl (Rp.int .i64))) 22 κ' w' 3 ra1 ru1 r.Arena.Next ∧ Oc E6 2 κ' w' 4 ra2 ru2 r.Prio) := by
 unfold s_l4Copy at h
 refine Ret.enter F73 R N73 R ?_
 dsimp only [envOf]
 have hE := Ent.refl κ w
 refine Je [1, 1] R (Jf1 (κ := κ) 2 R R R R R R R fun b1 w1 K2 S3 f4 => ⟨tv, Jg1 (κ := K2) 3 R R R R R X39 R fun b2 w5 K6 S7 f8 => ⟨tv, Jd (Jq (Js1 (κ := K6) [2] none [(0, 2), (3, 2), (1, 0), (4, 0), (2, 1), (5, 1), (6, 2), (7, 1)] [] (by kernel_rfl) (by kernel_rfl) fun w10 S9 => Jf R (Jb2 U39 R Z37 R R) (Jf R (Jb2 U39 R Z22 R R) ?_)))⟩⟩)
 have f11 := f4.stp (S7.tr S9) R R
 refine Jg R (Jd2 (cs := [.slice af p0.Arena.Owner.length ab, .slice aa p0.Arena.Next.length aj]) I37 Z37 R R R (haC (f11.lds 0 2 R) R)) (Jg R (Jc2 I22 R R (hvC (f11.ld 2 R R) R)) (Ob h fun x5 hx5 h => Jh R R R C113 (s_l1CopyArena_ok (κ := fun b => mp [] 1 (K6 b)) (p0 := p0.Arena) (Jl2 (g0_0_0.stp (S3.tr (S7.tr S9)) R R) (mp [] 1) R R) (Jl2 (g0_0_1.stp (S3.tr (S7.tr S9)) R R) (mp [] 1) R R) hx5) ?_))
 rintro _ w14 ⟨k15, ac, ae, ah, ai, rfl, e16, f17, f18⟩
 obtain ⟨K19, S20, m21, z22⟩ := Jj e16 4 R
 refine ⟨(S20.cl R), Ob h fun x8 hx8 h => Jh R R R C114 (s_l1Copy_ok (κ := fun b => mp [] 0 (K19 b)) (Jl2 (g0_1.stp (S3.tr (S7.tr (S9.tr S20))) R R) (mp [] 0) R R) hx8) ?_⟩
 rintro _ w26 ⟨k27, ak, ad, rfl, e28, f29⟩
 obtain ⟨K30, S31, m32⟩ := Ji e28 8 R
 refine ⟨((S20.tr S31).cl R), Jf R (rn_build (parts := [(0, .tmp 5), (1, .tmp 8)]) (cells := [.slice ac x5.Owner.length ae, .slice ah x5.Next.length ai, .slice ak x8.length ad]) R R (by kernel_rfl)) (Jj1 (κ := K30) 3 (vc := [.slice ac x5.Owner.length ae, .slice ah x5.Next.length ai, .slice ak x8.length ad]) R R R R R R R Z39 R R (f8.stp (S9.tr (S20.tr S31)) R R) R fun w36 S37 f38 => ⟨((S20.tr (S31.tr S37)).cl R), Jt1 (Jd (Ju (Ja2 (l := [.cell 2 39]) V73 (res_cellA R f38 I39 Z39 R R) R ?_)))⟩)⟩
 cases h
 exact ⟨(fun b => ren [(6, 2), (7, 3), (10, 4)] (K30 b)), ac, ae, ah, ai, ak, ad, R, ((hE.stp (S3.tr (S7.tr (S9.tr (S20.tr (S31.tr S37))))) R R).map (ren [(6, 2), (7, 3), (10, 4)]) R R), (((f17.mx (no_int _) m21 R (R : 4 + 2 = 6)).stp (S31.tr S37) R R).map (ren [(6, 2), (7, 3), (10, 4)]) R R), (((f18.mxz z22 m21 R (R : 4 + 3 = 7)).stp (S31.tr S37) R R).map (ren [(6, 2), (7, 3), (10, 4)]) R R), (((f29.mx (no_int _) m32 R (R : 8 + 2 = 10)).stp S37 R R).map (ren [(6, 2), (7, 3), (10, 4)]) R R)⟩
theorem i_isAnswer_ok {w : World} {κ : Col} {aj ae ac ak ad ai} {p0 : Parity} {aa ab af ah} {p1 : Answer} (g0_0_0 : Rd (Rp.int .i64) κ w 0 aj ae p0.Arena.Owner) (g0_0_1 : Rd (Rp.sl (Rp.int .i64)) κ w 0 ac ak p0.Arena.Next) (g0_1 : Rd (Rp.int .i64) κ w 0 ad ai p0.Prio) (g1_0 : Rd (Rp.int .i64) κ w 0 aa ab p1.Won) (g1_1 : Rd (Rp.int .i64) κ w 0 af ah p1.Plan) {r : Bool} (h : i_isAnswer p0 p1 = some r) : Ret Tryz.prog 80 [.agg #[.slice aj p0.Arena.Owner.length ae, .slice ac p0.Arena.Next.length ak, .slice ad p0.Prio.length ai], .agg #[.slice aa p1.Won.length ab, .slice af p1.Plan.length ah]] w (fun v w' => ∃ (κ' : Col), v = .bool r ∧ Ent κ w κ' w') := by
 unfold i_isAnswer at h
 refine Ret.enter F80 R N80 R ?_
 dsimp only [envOf]
 have hE := Ent.refl κ w
 refine Je [1, 1, 2] R (Jf1 (κ := κ) 2 R R R R R R R fun b2 w1 K2 S3 f4 => ⟨tv, Jf1 (κ := K2) 3 R R R R R R R fun b3 w5 K6 S7 f8 => ⟨tv, Jb 1 R (Je [2, 1, 2, 2] R (Jf R (Jb2 U39 R Z22 R R) ?_))⟩⟩)
 have f9 := f4.stp S7 R R
 refine Jl tv R R R R (Jc2 I22 R R (hvE (f9.ld 2 R R))) (Jf R (Je2 U22 R R) (Jb 1 R (Jq (Je [2, 1, 2, 2, 2, 2, 2, 1, 2, 2, 2, 2] R (Jf R (Jb2 U34 R Z22 R R) (Jl tv R R R R (Jc2 I22 R R (hvE (f8.ld 0 R R))) (Jf R (Je2 U22 R R) (Jn 3 R (Ob h fun p23 h hK10 => Ju1 [(6, 2), (7, 1), (8, 2), (9, 2), (10, 2), (11, 2)] [] (fun L w' => L = [(2, .pointer (some ⟨b2, 0, none⟩)), (3, .pointer (some ⟨b3, 0, none⟩)), (23, .bool p23)] ∧ ∃ κ', Stp [] K6 w5 κ' w') tv ?_ ?_)))))))))
 revert h
 cases ht11 : ((p1.Won.length : Int) != (p0.Prio.length : Int))
 refine JF fun h => Jf R (Jb2 U34 R Z22 R R) (Jl tv R R R R (Jc2 I22 R R (hvE (f8.ld 1 R R))) (Jf R (Je2 U22 R R) (Jn 3 R ?_)))
 cases h
 exact Jv1 _ tv ⟨R, _, (Jx2 _ _).wk R⟩ (KM R)
 refine JT fun h => Jn 1 R (Jd1 R R R R (Jn 4 R ?_))
 cases h
 exact Jv1 _ tv ⟨R, _, (Jx2 _ _).wk R⟩ (KM R)
 rintro _ w12 _ ⟨rfl, K13, S14⟩
 have h := hK10
 refine Jd ?_
 revert h
 cases ht15 : p23
 refine JF fun h => Jy R (Js (Jp (Jq (Je [2, 1, 2, 2] R (Jf R (Jb2 U34 R Z22 R R) ?_)))))
 have f17 := f8.stp S14 R R
 refine Jl tv R R R R (Jc2 I22 R R (hvE (f17.ld 0 R R))) (Jf R (Je2 U22 R R) (Jb 1 R ?_))
 have hN18 : (p1.Won.length : Int) ≤ 9223372036854775807 := g1_0.len_le
 refine Ob h fun q2 hq20 hK19 => ?_
 clear h
 refine Jx1 (fun L w' => ∃ κ', L = [] ∧ Stp [] K13 w12 κ' w' ∧ q2 = Sum.inr ()) ?_ ?_
 refine Jv (Jy1 (fun k L w' => ∃ κ' v27, L = [(2, .pointer (some ⟨b2, 0, none⟩)), (3, .pointer (some ⟨b3, 0, none⟩)), (25, .slice aa p1.Won.length ab), (26, vi (p1.Won.length : Int)), (27, vi v27)] ∧ Stp [] K13 w12 κ' w' ∧ 0 ≤ v27 ∧ Int.toNat ((p1.Won.length : Int) - v27) = k ∧ cntM (i_isAnswer_b0 p0 p1) k v27 () = some q2) ⟨_, _, ⟨K13, 0, R, (Jx2 _ _).wk R, (by decide), (by simp), hq20⟩, (KM R)⟩ ?_)
 rintro k _ w24 ⟨K25, v27, rfl, S26, hj18, hJ18, h⟩
 rcases k with _ | k
 have hk27 := h; obtain ⟨o18, h⟩ := ex_eq (Sum.inr (Sum.inl ()) : Bool ⊕ ((Unit) ⊕ (Unit)))
 have hc18 : decide (v27 < (p1.Won.length : Int)) = false := Jo2 (by omega)
 refine Je [2] R (Jb 1 R (Jq (Jw2 R hc18 (Jc1 (Jt (Jt ?_))))))
 cases h
 have h := hk27
 refine Jb1 ?_
 cases h
 exact Jw1 _ ⟨K25, R, S26.wk R, R⟩ KN
 obtain ⟨o18, h, hk27⟩ := BI h; unfold i_isAnswer_b0 at h
 have hc18 : decide (v27 < (p1.Won.length : Int)) = true := Jn2 (by omega)
 refine Je [2] R (Jb 1 R (Jq (Jv2 R hc18 (Js (Jp (Jq (Jv (Je [2, 2, 1, 2, 2] R (Jn 1 R (Ob h fun x30 hx30 h => Jf R (Jf2 g1_0 hx30 U22 Z2 R R R R) (Jl tv R R R R (Jc2 I2 R R (hvE ((g1_0.stp (S3.tr (S7.tr (S14.tr S26))) R R).gInt hx30))) (Jb 2 R (Je [2, 2, 1, 2, 2, 1, 2, 2, 2] R (Jf R (Jb2 U39 R Z37 R R) (Jf R (Jb2 U37 R Z22 R R) ?_)))))))))))))))
 have f29 := f9.stp (S14.tr S26) R R
 refine Jl tv R R R R (Jc2 I22 R R (hvE (f29.ld 0 R R))) (Jn 1 R (Ob h fun x36 hx36 h => Jf R (Jf2 g0_0_0 hx36 U22 Z2 R R R R) (Jl tv R R R R (Jc2 I2 R R (hvE ((g0_0_0.stp (S3.tr (S7.tr (S14.tr S26))) R R).gInt hx36))) (Jb 3 R (Jq (Js1 (κ := K25) [0, 2, 3] none [(0, 2), (1, 1), (2, 2), (3, 2), (4, 2), (5, 2), (6, 2), (7, 2), (9, 2), (12, 2), (14, 2), (8, 0), (10, 2), (11, 0), (13, 0), (15, 2), (16, 0), (17, 1), (18, 2), (19, 2), (20, 2), (21, 2), (22, 2), (23, 2), (24, 2), (25, 2), (27, 2), (26, 0), (28, 2), (29, 0), (30, 2), (31, 2), (32, 2)] [] (by kernel_rfl) (by kernel_rfl) fun w32 S31 => Jn 1 R (Ob h fun x41 hx41 h => Jh R R R C85 (i_isPlayer_ok (κ := fun b => mp [] 0 (K25 b)) hx41) ?_)))))))
 rintro _ w33 ⟨k34, rfl, e35⟩
 obtain ⟨K36, S37, m38⟩ := Ji e35 4 R
 refine ⟨(S37.cl R), Jn 2 R (Ob h fun p60 h hK40 => Ju1 [(4, 2), (5, 2), (6, 2), (7, 2), (9, 2), (12, 2), (14, 2), (8, 0), (10, 2), (11, 0), (13, 0), (15, 2), (16, 0), (17, 1), (18, 2), (19, 2), (20, 2)] [(21, 2), (22, 2), (23, 2), (24, 2), (25, 2), (27, 2), (26, 0), (28, 2), (29, 0), (30, 2), (31, 2), (32, 2)] (fun L w' => L = [(2, .pointer (some ⟨b2, 0, none⟩)), (3, .pointer (some ⟨b3, 0, none⟩)), (6, vi v27), (8, .bool (x36 == x30)), (25, .slice aa p1.Won.length ab), (26, vi (p1.Won.length : Int)), (27, vi v27), (60, .bool p60)] ∧ ∃ κ', Stp [] K36 w33 κ' w') (S37.cl R) ?_ ?_)⟩
 revert h
 cases ht41 : (!x41)
 refine JF fun h => Jn 2 R (Ob h fun p59 h hK42 => Ju1 [(6, 2), (7, 2), (9, 2), (12, 2), (14, 2), (8, 0), (10, 2), (11, 0), (13, 0), (15, 2), (16, 0), (17, 1), (18, 2), (19, 2)] [(20, 2)] (fun L w' => L = [(2, .pointer (some ⟨b2, 0, none⟩)), (3, .pointer (some ⟨b3, 0, none⟩)), (6, vi v27), (8, .bool (x36 == x30)), (25, .slice aa p1.Won.length ab), (26, vi (p1.Won.length : Int)), (27, vi v27), (43, .bool false), (44, .bool (x36 == x30)), (45, .bool (x36 == x30)), (59, .bool p59)] ∧ ∃ κ', Stp [] K36 w33 κ' w') (S37.cl R) ?_ ?_)
 revert h
 cases ht43 : (x36 == x30)
 refine JF fun h => Jn 5 R (Je1 R R R R (Jn 1 R (Je1 R R R R (Je1 R R R R (Jn 1 R (Je1 R R R R (Jd1 R R R R (Jn 2 R ?_))))))))
 cases h
 exact Jv1 _ (S37.cl R) ⟨R, _, (Jx2 _ _).wk R⟩ (KM R)
 refine JT fun h => Jf R (Jb2 U39 R Z37 R R) (Jf R (Jb2 U37 R Z23 R R) (Jn 1 R (Jf R (Jb2 U34 R Z22 R R) (Jn 1 R (Jg R (Jc2 I23 R R (hvC ((f29.stp S31 R R).ld 1 R R) R)) (Ob h fun x50 hx50 h => Jf R (Jf2 g0_0_1 hx50 U23 Z22 R R R R) ?_))))))
 obtain ⟨ax50, ux50, f46, hl47⟩ := (g0_0_1.stp (S3.tr (S7.tr (S14.tr (S26.tr S31)))) R R).gSl hx50
 refine Jg R (Jc2 I22 R R (hvC hl47 R)) (Jg R (Jc2 I22 R R (hvC ((f17.stp (S26.tr S31) R R).ld 1 R R) R)) (Ob h fun x55 hx55 h => Jf R (Jf2 g1_1 hx55 U22 Z2 R R R R) (Jg R (Jc2 I2 R R (hvC ((g1_1.stp (S3.tr (S7.tr (S14.tr (S26.tr S31)))) R R).gInt hx55) R)) (Ob h fun x57 hx57 h => Jh R R R C86 (slices_Contains_I_int64_ok (κ := fun b => mp [] 0 (K36 b)) (Jl2 (f46.stp S37 R R) (mp [] 0) R R) hx57) ?_))))
 rintro _ w51 ⟨k52, rfl, e53⟩
 obtain ⟨K54, S55, m56⟩ := Ji e53 6 R
 refine ⟨((S37.tr S55).cl R), Jn 2 R ?_⟩
 cases h
 exact Jv1 _ ((S37.tr S55).cl R) ⟨R, _, S55.wk R⟩ (KM R)
 rintro _ w58 _ ⟨rfl, K59, S60⟩
 have h := hK42
 refine Jn 1 R ?_
 cases h
 exact Jv1 _ ((S37.tr S60).cl R) ⟨R, _, S60.wk R⟩ (KM R)
 refine JT fun h => Jn 7 R (Je1 R R R R (Jn 1 R (Je1 R R R R (Je1 R R R R (Jn 1 R (Je1 R R R R (Jd1 R R R R (Jn 3 R ?_))))))))
 cases h
 exact Jv1 _ (S37.cl R) ⟨R, _, (Jx2 _ _).wk R⟩ (KM R)
 rintro _ w61 _ ⟨rfl, K62, S63⟩
 have h := hK40
 refine Jn 1 R (Ob h fun p72 h hK64 => Ju1 [(22, 2), (23, 2), (24, 2), (25, 2), (27, 2), (26, 0), (28, 2), (29, 0), (30, 2), (31, 2), (32, 2)] [] (fun L w' => L = [(2, .pointer (some ⟨b2, 0, none⟩)), (3, .pointer (some ⟨b3, 0, none⟩)), (25, .slice aa p1.Won.length ab), (26, vi (p1.Won.length : Int)), (27, vi v27), (72, .bool p72)] ∧ ∃ κ', Stp [] K62 w61 κ' w') ((S37.tr S63).cl R) ?_ ?_)
 revert h
 cases ht65 : p60
 refine JF fun h => Jn 3 R (Ob h fun p71 h hK66 => Ju1 [(25, 2), (27, 2), (26, 0), (28, 2), (29, 0), (30, 2), (31, 2)] [(32, 2)] (fun L w' => L = [(2, .pointer (some ⟨b2, 0, none⟩)), (3, .pointer (some ⟨b3, 0, none⟩)), (25, .slice aa p1.Won.length ab), (26, vi (p1.Won.length : Int)), (27, vi v27), (61, .bool false), (62, .bool (x36 == x30)), (63, .bool (!(x36 == x30))), (64, .bool (!(x36 == x30))), (71, .bool p71)] ∧ ∃ κ', Stp [] K62 w61 κ' w') ((S37.tr S63).cl R) ?_ ?_)
 revert h
 cases ht67 : (!(x36 == x30))
 refine JF fun h => Jn 2 R (Je1 R R R R (Jn 1 R (Je1 R R R R (Jn 2 R ?_))))
 cases h
 exact Jv1 _ ((S37.tr S63).cl R) ⟨R, _, (Jx2 _ _).wk R⟩ (KM R)
 refine JT fun h => Jf R (Jb2 U34 R Z22 R R) (Jn 1 R (Jg R (Jc2 I22 R R (hvC ((f17.stp (S26.tr S31) R R).ld 1 R R) R)) (Ob h fun x68 hx68 h => Jf R (Jf2 g1_1 hx68 U22 Z2 R R R R) (Jg R (Jc2 I2 R R (hvC ((g1_1.stp (S3.tr (S7.tr (S14.tr (S26.tr S31)))) R R).gInt hx68) R)) (Jn 2 R ?_)))))
 cases h
 exact Jv1 _ ((S37.tr S63).cl R) ⟨R, _, (Jx2 _ _).wk R⟩ (KM R)
 rintro _ w70 _ ⟨rfl, K71, S72⟩
 have h := hK66
 refine Jn 1 R ?_
 cases h
 exact Jv1 _ ((S37.tr (S63.tr S72)).cl R) ⟨R, _, S72.wk R⟩ (KM R)
 refine JT fun h => Jn 5 R (Je1 R R R R (Jn 1 R (Je1 R R R R (Jn 3 R ?_))))
 cases h
 exact Jv1 _ ((S37.tr S63).cl R) ⟨R, _, (Jx2 _ _).wk R⟩ (KM R)
 rintro _ w73 _ ⟨rfl, K74, S75⟩
 have h := hK64
 refine Jt1 (Jd ?_)
 revert h
 cases ht76 : p72
 refine JF fun h => Jy R (Js (Jz (Jp (Ja [2, 2] R (Jc 2 R ?_)))))
 have hw18 : IntKind.wrap .i64 (v27 + 1) = v27 + 1 := wr1 hj18 (Jm2 hc18) hN18
 rw [hw18]
 have hc18 := Jm2 hc18
 cases h
 exact Jz1 fun a ha => ⟨k, _, Ja3 _, ⟨K74, v27 + 1, R, (S26.tr (S31.tr (S37.tr (S63.tr S75)))).wk R, by omega, by omega, hk27⟩, (ha.mm R)⟩
 refine JT fun h => Jx R (Je [2] R (Jb 1 R (Ju (Ja1 (Jw (Jw ?_))))))
 cases h
 obtain rfl := Option.some.inj hk27
 have h := hK19
 dsimp only [aft] at h
 refine Ja1 (Jq2 (Jw (Ja2 (l := [.tmp 4]) V80 (Jp2 R R) R ?_)))
 cases h
 exact ⟨K74, R, (hE.stp (S3.tr (S7.tr (S14.tr (S26.tr (S31.tr (S37.tr (S63.tr S75))))))) R R)⟩
 rintro _ w21 ⟨K22, rfl, S23, rfl⟩
 have h := hK19
 dsimp only [aft] at h
 refine Jp (Je [2] R (Jb 1 R (Ju (Ja2 (l := [.tmp 4]) V80 (Jp2 R R) R ?_))))
 cases h
 exact ⟨K22, R, (hE.stp (S3.tr (S7.tr (S14.tr S23))) R R)⟩
 refine JT fun h => Jx R (Je [2] R (Jb 1 R (Ju (Jw (Ja2 (l := [.tmp 4]) V80 (Jp2 R R) R ?_)))))
 cases h
 exact ⟨K13, R, (hE.stp (S3.tr (S7.tr S14)) R R)⟩
theorem i_fixedBy_ok {w : World} {κ : Col} {ai af ae ah} {p0 : Arena} {a1 u1} {p1 : (List Int)} (g0_0 : Rd (Rp.int .i64) κ w 0 ai af p0.Owner) (g0_1 : Rd (Rp.sl (Rp.int .i64)) κ w 0 ae ah p0.Next) (g1 : Rd (Rp.int .i64) κ w 0 a1 u1 p1) {r : Arena} (h : i_fixedBy p0 p1 = some r) : Ret Tryz.prog 141 [.agg #[.slice ai p0.Owner.length af, .slice ae p0.Next.length ah], .slice a1 p1.length u1] w (fun v w' => ∃ (κ' : Col) (ra0 : Option Addr) (ru0 : Nat) (ra1 : Option Addr) (ru1 : Nat), v = .agg #[.slice ra0 r.Owner.length ru0, .slice ra1 r.Next.length ru1] ∧ Ent κ w κ' w' ∧ Oc E6 2 κ' w' 2 ra0 ru0 r.Owner ∧ Oc (Ep.own E6 2) 22 κ' w' 3 ra1 ru1 r.Next) := by
 unfold i_fixedBy at h
 refine Ret.enter F141 R N141 R ?_
 dsimp only [envOf]
 have hE := Ent.refl κ w
 refine Je [1, 1] R (Jf1 (κ := κ) 2 R R R R R R R fun b2 w1 K2 S3 f4 => ⟨tv, Jg1 (κ := K2) 3 R R R R R X37 R fun b4 w5 K6 S7 f8 => ⟨tv, Jd (Je [1, 1, 1, 1] R (Jl tv R R R R (Jd2 (cs := [.slice ai p0.Owner.length af, .slice ae p0.Next.length ah]) I37 Z37 R R R (haE (f4.stp S7 R R).cells)) (Ob h fun x9 hx9 h => Jh R R R C112 (i_copyArena_ok (κ := fun b => mp [] 0 (K6 b)) (p0 := p0) (Jl2 (g0_0.stp (S3.tr S7) R R) (mp [] 0) R R) (Jl2 (g0_1.stp (S3.tr S7) R R) (mp [] 0) R R) hx9) ?_)))⟩⟩)
 rintro _ w12 ⟨k13, ad, ac, ab, aa, rfl, e14, f15, f16⟩
 obtain ⟨K17, S18, m19⟩ := Ji e14 4 R
 refine ⟨tv, Jg1 (κ := K17) 8 R R R R R X37 R fun b5 w23 K24 S25 f26 => ⟨tv, Jj1 (κ := K24) 8 (vc := [.slice ad x9.Owner.length ac, .slice ab x9.Next.length aa]) R R R R R R R Z37 R R f26 R fun w27 S28 f29 => ⟨tv, Jd (Jq (Je [2, 2, 2] R (Jn 1 R (Jf R (Je2 U22 R R) (Jb 1 R ?_)))))⟩⟩⟩
 have hN30 : (p1.length : Int) ≤ 9223372036854775807 := g1.len_le
 refine Ob h fun q2 hq32 hK31 => ?_
 clear h
 refine Jx1 (fun L w' => ∃ κ', ∃ s3 : (List (List Int)), L = [(4, .pointer (some ⟨b4, 0, none⟩)), (5, .pointer (some ⟨b5, 0, none⟩))] ∧ Stp [7, 9] K24 w27 κ' w' ∧ Oc (Ep.own E6 2) 22 κ' w' 7 ab aa s3 ∧ x9.Next.length = s3.length ∧ q2 = Sum.inr s3) ?_ ?_
 refine Jv (Jy1 (fun k L w' => ∃ κ' v12, ∃ s1 : (List (List Int)), L = [(4, .pointer (some ⟨b4, 0, none⟩)), (5, .pointer (some ⟨b5, 0, none⟩)), (10, .slice a1 p1.length u1), (11, vi (p1.length : Int)), (12, vi v12)] ∧ Stp [7, 9] K24 w27 κ' w' ∧ Oc (Ep.own E6 2) 22 κ' w' 7 ab aa s1 ∧ x9.Next.length = s1.length ∧ 0 ≤ v12 ∧ Int.toNat ((p1.length : Int) - v12) = k ∧ cntM (i_fixedBy_b0 p1) k v12 s1 = some q2) ⟨_, _, ⟨K24, 0, (x9.Next : (List (List Int))), R, (Jx2 _ _).wk R, ((f16.mx (no_own (no_int _) _) m19 R (R : 4 + 3 = 7)).stp (S25.tr S28) R R), R, (by decide), (by simp), hq32⟩, (KM R)⟩ ?_)
 rintro k _ w38 ⟨K39, v12, s1, rfl, S40, f41, hn42, hj30, hJ30, h⟩
 rcases k with _ | k
 have hk44 := h; obtain ⟨o30, h⟩ := ex_eq (Sum.inr (Sum.inl s1) : Arena ⊕ (((List (List Int))) ⊕ ((List (List Int)))))
 have hc30 : decide (v12 < (p1.length : Int)) = false := Jo2 (by omega)
 refine Je [2] R (Jb 1 R (Jq (Jw2 R hc30 (Jc1 (Jt (Jt ?_))))))
 cases h
 have h := hk44
 refine Jb1 ?_
 cases h
 exact Jw1 _ ⟨K39, (s1 : (List (List Int))), R, S40.wk R, f41, hn42, R⟩ (KM R)
 obtain ⟨o30, h, hk44⟩ := BI h; unfold i_fixedBy_b0 at h
 have hc30 : decide (v12 < (p1.length : Int)) = true := Jn2 (by omega)
 refine Je [2] R (Jb 1 R (Jq (Jv2 R hc30 (Js (Jp (Jq (Jv (Je [2, 2, 1, 2, 2] R (Jn 1 R (Ob h fun x15 hx15 h => Jf R (Jf2 g1 hx15 U22 Z2 R R R R) (Jl tv R R R R (Jc2 I2 R R (hvE ((g1.stp (S3.tr (S7.tr (S18.tr (S25.tr (S28.tr S40))))) R R).gInt hx15))) (Jb 2 R (Je [2, 2] R (Jb 2 R (Ob h fun q4 h hK46 => Jx1 (fun L w' => ∃ κ', L = [(4, .pointer (some ⟨b4, 0, none⟩)), (5, .pointer (some ⟨b5, 0, none⟩)), (10, .slice a1 p1.length u1), (11, vi (p1.length : Int)), (12, vi v12)] ∧ Stp [7, 9] K39 w38 κ' w' ∧ Oc (Ep.own E6 2) 22 κ' w' 7 ab aa q4 ∧ x9.Next.length = q4.length) ?_ ?_)))))))))))))))
 revert h
 cases ht52 : decide (0 ≤ x15)
 refine JF fun h => Jy R (Js ?_)
 cases h
 exact Jw1 _ ⟨K39, R, (Jx2 _ _).wk R, f41, hn42⟩ (KM R)
 refine JT fun h => Jx R (Ja [2, 1, 2, 2, 1, 2, 1] R (Jf R (Jb2 U37 R Z23 R R) (Jl tv R R R R (Jc2 I23 R R (hvE ((f29.stp S40 R R).ld 1 R R))) (Jn 2 R (Jn1 (κ := K39) (E := E6) 9 [] (parts := [(0, .tmp 22)]) (cells := [vi x15]) (xs := ([x15] : List Int)) R R R R R R Y22 Tryzinfo2 R R R R R R R R R R ⟨[vi x15], [], Zl K39 w38 [], Zl K39 w38 [], R, Zl.sp (l1 := []) (l2 := []) R, Zl.sr (l1 := []) (l2 := []), R, R⟩ fun aj ak w54 K55 S56 f57 => ⟨tv, Ob h fun x24 hx24 h => Jf R (Jf2 f41.rdc hx24 U23 Z22 R R hn42 R) (Ob h fun y222 hy222 h => Jk1 (κ := K55) (E := (Ep.own E6 2)) 7 [9] R R R R R R R R Z22 R ⟨_, _, R, f57⟩ R R (f41.stp S56 R R) hy222 fun w59 K60 S61 f62 => ⟨tv, ?_⟩)⟩)))))
 have hn63 : x9.Next.length = y222.length := hn42.trans (Jt2 hy222).2.2.2.symm
 refine Jo ?_
 cases h
 exact Jw1 _ ⟨K60, R, (S56.tr S61).wk R, f62, hn63⟩ (KM R)
 rintro _ w47 ⟨K48, rfl, S49, f50, hn51⟩
 have h := hK46
 refine Jz (Jp (Ja [2, 2] R (Jc 2 R ?_)))
 have hw30 : IntKind.wrap .i64 (v12 + 1) = v12 + 1 := wr1 hj30 (Jm2 hc30) hN30
 rw [hw30]
 have hc30 := Jm2 hc30
 cases h
 exact Jz1 fun a ha => ⟨k, _, Ja3 _, ⟨K48, v12 + 1, (q4 : (List (List Int))), R, (S40.tr S49).wk R, f50, hn51, by omega, by omega, hk44⟩, (ha.mm R)⟩
 rintro _ w33 ⟨K34, s3, rfl, S35, f36, hn37, rfl⟩
 have h := hK31
 dsimp only [aft] at h
 refine Jp (Je [1, 1] R (Jl tv R R R R (Jd2 (cs := [.slice ad x9.Owner.length ac, .slice ab x9.Next.length aa]) I37 Z37 R R R (haE (f29.stp S35 R R).cells)) (Jj1 (κ := K34) 3 (vc := [.slice ad x9.Owner.length ac, .slice ab x9.Next.length aa]) R R R R R R R Z37 R R (f8.stp (S18.tr (S25.tr (S28.tr S35))) R R) R fun w66 S67 f68 => ⟨tv, Jd (Ju (Ja2 (l := [.cell 4 37]) V141 (res_cellA R f68 I37 Z37 R R) R ?_))⟩)))
 cases h
 exact ⟨(fun b => ren [(6, 2), (7, 3)] (K34 b)), ad, ac, ab, aa, (by simp only [hn37]), ((hE.stp (S3.tr (S7.tr (S18.tr (S25.tr (S28.tr (S35.tr S67)))))) R R).map (ren [(6, 2), (7, 3)]) R R), (((f15.mx (no_int _) m19 R (R : 4 + 2 = 6)).stp (S25.tr (S28.tr (S35.tr S67))) R R).map (ren [(6, 2), (7, 3)]) R R), ((f36.stp S67 R R).map (ren [(6, 2), (7, 3)]) R R)⟩
theorem slices_BinarySearch_I_int64_ok {w : World} {κ : Col} {a0 u0} {p0 : (List Int)} {p1 : Int} (g0 : Rd (Rp.int .i64) κ w 0 a0 u0 p0) {r : Int × Bool} (h : slices_BinarySearch_I_int64 p0 p1 = some r) : Ret Tryz.prog 121 [.slice a0 p0.length u0, vi p1] w (fun v w' => ∃ (κ' : Col), v = .tuple #[vi r.1, .bool r.2] ∧ Ent κ w κ' w') := by
 unfold slices_BinarySearch_I_int64 at h
 refine Ret.enter F121 R N121 R ?_
 dsimp only [envOf]
 have hE := Ent.refl κ w
 refine Je [2, 2] R (Jb 2 R (Je [2, 2, 2] R (Jn 1 R (Jf R (Je2 U22 R R) (Jb 1 R (Je [2, 2, 2] R (Jb 3 R (Jq (Ob h fun q2 hq3 hK2 => ?_)))))))))
 clear h
 refine Jx1 (fun L w' => ∃ κ', ∃ s3 : Int × Int, L = [(0, .slice a0 p0.length u0), (1, vi p1), (6, vi (p0.length : Int)), (7, vi s3.1)] ∧ Stp [] κ w κ' w' ∧ q2 = Sum.inr s3) ?_ ?_
 refine Jv (Jy1 (fun k L w' => ∃ κ', ∃ s1 : Int × Int, L = [(0, .slice a0 p0.length u0), (1, vi p1), (6, vi (p0.length : Int)), (7, vi s1.1), (8, vi s1.2)] ∧ Stp [] κ w κ' w' ∧ whileM (slices_BinarySearch_I_int64_b0 p0 p1) k s1 = some q2) ⟨_, _, ⟨κ, ((0 : Int), ((p0.length : Int) : Int)), R, (Jx2 _ _).wk R, hq3⟩, (KM R)⟩ ?_)
 rintro k _ w7 ⟨K8, s1, rfl, S9, h⟩
 rcases k with _ | k
 cases h
 obtain ⟨o1, h, hk10⟩ := BI h; unfold slices_BinarySearch_I_int64_b0 at h
 refine Jq (Je [2, 2, 2] R (Jb 3 R ?_))
 revert h
 cases ht11 : decide (s1.1 < s1.2)
 refine JF fun h => Jy R (Jc1 (Jt (Jt ?_)))
 cases h
 have h := hk10
 refine Jb1 ?_
 cases h
 exact Jw1 _ ⟨K8, ((s1.1 : Int), (s1.2 : Int)), R, S9.wk R, R⟩ (KM R)
 refine JT fun h => Jx R (Js (Jp (Jv (Je [2, 2, 2, 2, 2, 2, 2] R (Jn 3 R (Jf R (Jh2 U3 U143 R R) (Jf R (rn_shr R R R (by decide)) (Jf R (Jh2 U143 U3 R R) (Jb 1 R (Je [2, 2, 2, 1, 2, 1] R (Jn 2 R (Ob h fun x24 hx24 h => Jf R (Jf2 g0 hx24 U22 Z2 R R R R) (Jl tv R R R R (Jc2 I2 R R (hvE ((g0.stp S9 R R).gInt hx24))) (Jn 1 R (Ob h fun x27 hx27 h => Jh R R R C145 (cmp_Less_int64_ok (κ := fun b => mp [] 0 (K8 b)) hx27) ?_)))))))))))))))
 rintro _ w13 ⟨k14, rfl, e15⟩
 obtain ⟨K16, S17, m18⟩ := Ji e15 2 R
 refine ⟨tv, Jd (Ob h fun q4 h hK20 => Jx1 (fun L w' => ∃ κ', L = [(0, .slice a0 p0.length u0), (1, vi p1), (6, vi (p0.length : Int)), (7, vi q4.1), (8, vi q4.2)] ∧ Stp [] K16 w13 κ' w') ?_ ?_)⟩
 revert h
 cases ht24 : x27
 refine JF fun h => Jy R (Ja [2, 2] R (Jc 2 R ?_))
 cases h
 exact Jw1 _ ⟨K16, R, (Jx2 _ _).wk R⟩ (KM R)
 refine JT fun h => Jx R (Ja [2, 2, 2] R (Jc 3 R ?_))
 cases h
 exact Jw1 _ ⟨K16, R, (Jx2 _ _).wk R⟩ (KM R)
 rintro _ w21 ⟨K22, rfl, S23⟩
 have h := hK20
 refine Jz ?_
 cases h
 exact Jz1 fun a ha => ⟨k, _, Ja3 _, ⟨K22, ((q4.1 : Int), (q4.2 : Int)), R, (S9.tr (S17.tr S23)).wk R, hk10⟩, (ha.mm R)⟩
 rintro _ w4 ⟨K5, s3, rfl, S6, rfl⟩
 have h := hK2
 dsimp only [aft] at h
 refine Jp (Je [2, 2, 2, 2, 2, 2, 2, 2, 1, 2, 2, 2, 2, 2, 2, 1, 1, 2, 2, 1, 2, 2, 2, 2, 2] R (Jn 5 R (Ob h fun p53 h hK25 => Ju1 [(5, 2), (6, 2), (7, 2), (8, 1), (9, 2), (10, 2), (11, 2), (12, 2), (13, 2), (14, 2), (15, 1), (16, 1), (17, 2), (18, 2), (19, 1), (20, 2), (21, 2), (22, 2)] [(23, 2), (24, 2)] (fun L w' => L = [(31, vi s3.1), (53, .bool p53)] ∧ ∃ κ', Stp [] K5 w4 κ' w') tv ?_ ?_)))
 revert h
 cases ht26 : decide (s3.1 < (p0.length : Int))
 refine JF fun h => Jn 3 R (Jd1 R R R R (Jn 6 R (Jd1 R R R R (Jd1 R R R R (Jn 2 R (Jd1 R R R R (Jn 3 R ?_)))))))
 cases h
 exact Jv1 _ tv ⟨R, _, (Jx2 _ _).wk R⟩ (KM R)
 refine JT fun h => Jn 2 R (Ob h fun x38 hx38 h => Jf R (Jf2 g0 hx38 U22 Z2 R R R R) ?_)
 have f27 := g0.stp S6 R R
 refine Jl tv R R R R (Jc2 I2 R R (hvE (f27.gInt hx38))) (Jn 3 R (Ob h fun p52 h hK28 => Ju1 [(12, 2), (13, 2), (14, 2), (15, 1), (16, 1), (17, 2), (18, 2), (19, 1), (20, 2), (21, 2)] [(22, 2)] (fun L w' => L = [(31, vi s3.1), (35, .bool true), (52, .bool p52)] ∧ ∃ κ', Stp [] K5 w4 κ' w') tv ?_ ?_))
 revert h
 cases ht29 : (x38 == p1)
 refine JF fun h => Jn 2 R (Ob h fun x45 hx45 h => Jf R (Jf2 f27 hx45 U22 Z2 R R R R) (Jl tv R R R R (Jc2 I2 R R (hvE (f27.gInt hx45))) (Ob h fun x47 hx47 h => Jh R R R C146 (slices_isNaN_int64_ok (κ := fun b => mp [] 0 (K5 b)) hx47) ?_)))
 rintro _ w30 ⟨k31, rfl, e32⟩
 obtain ⟨K33, S34, m35⟩ := Ji e32 2 R
 refine ⟨tv, Jn 1 R (Ob h fun p51 h hK37 => Ju1 [(18, 2), (19, 1), (20, 2)] [(21, 2)] (fun L w' => L = [(31, vi s3.1), (35, .bool true), (42, .bool false), (51, .bool p51)] ∧ ∃ κ', Stp [] K33 w30 κ' w') tv ?_ ?_)⟩
 revert h
 cases ht38 : x47
 refine JF fun h => Jn 1 R (Jd1 R R R R (Jn 1 R ?_))
 cases h
 exact Jv1 _ tv ⟨R, _, (Jx2 _ _).wk R⟩ (KM R)
 refine JT fun h => Jn 1 R (Ob h fun x50 hx50 h => Jh R R R C146 (slices_isNaN_int64_ok (κ := fun b => mp [] 0 (K33 b)) hx50) ?_)
 rintro _ w39 ⟨k40, rfl, e41⟩
 obtain ⟨K42, S43, m44⟩ := Ji e41 4 R
 refine ⟨tv, Jn 1 R ?_⟩
 cases h
 exact Jv1 _ tv ⟨R, _, S43.wk R⟩ (KM R)
 rintro _ w46 _ ⟨rfl, K47, S48⟩
 have h := hK37
 refine Jn 1 R ?_
 cases h
 exact Jv1 _ tv ⟨R, _, (S34.tr S48).wk R⟩ (KM R)
 refine JT fun h => Jn 3 R (Jd1 R R R R (Jd1 R R R R (Jn 2 R (Jd1 R R R R (Jn 2 R ?_)))))
 cases h
 exact Jv1 _ tv ⟨R, _, (Jx2 _ _).wk R⟩ (KM R)
 rintro _ w49 _ ⟨rfl, K50, S51⟩
 have h := hK28
 refine Jn 1 R ?_
 cases h
 exact Jv1 _ tv ⟨R, _, S51.wk R⟩ (KM R)
 rintro _ w52 _ ⟨rfl, K53, S54⟩
 have h := hK25
 refine Jb 2 R (Ju (Ja2 (l := [.tmp 4, .tmp 5]) V121 (Jp2 R (Jp2 R R)) R ?_))
 cases h
 exact ⟨K53, R, (hE.stp (S6.tr S54) R R)⟩
theorem i_solver_won_ok (n : Nat) : ∀ {w : World} {κ : Col} {aj ai af ae ah ak al am} {p0 : solver} {a1 u1} {p1 : (List Bool)} {b0} (g0_0_0_0 : Rd (Rp.int .i64) κ w 0 aj ai p0.game.Arena.Owner) (g0_0_0_1 : Rd (Rp.sl (Rp.int .i64)) κ w 0 af ae p0.game.Arena.Next) (g0_0_1 : Rd (Rp.int .i64) κ w 0 ah ak p0.game.Prio) (g0_1 : Rd (Rp.sl (Rp.int .i64)) κ w 0 al am p0.preds) (g1 : Rd Rp.bool κ w 0 a1 u1 p1) (gb0 : Bc κ w 0 b0 136 [.slice aj p0.game.Arena.Owner.length ai, .slice af p0.game.Arena.Next.length ae, .slice ah p0.game.Prio.length ak, .slice al p0.preds.length am]) {r : (List Bool) × Int} (h : i_solver_won n p0 p1 = some r), Ret Tryz.prog 130 [.pointer (some ⟨b0, 0, none⟩), .slice a1 p1.length u1] w (fun v w' => ∃ (κ' : Col) (ra0 : Option Addr) (ru0 : Nat), v = .tuple #[.slice ra0 r.1.length ru0, vi r.2] ∧ Ent κ w κ' w' ∧ Rd Rp.bool κ' w' 0 ra0 ru0 r.1) := by
 induction n with
 | zero =>
  intro w κ aj ai af ae ah ak al am p0 a1 u1 p1 b0 g0_0_0_0 g0_0_0_1 g0_0_1 g0_1 g1 gb0 r h
  cases h
 | succ n ih =>
  intro w κ aj ai af ae ah ak al am p0 a1 u1 p1 b0 g0_0_0_0 g0_0_0_1 g0_0_1 g0_1 g1 gb0 r h
  have h : i_solver_won_s (i_solver_won n) p0 p1 = some r := h
  unfold i_solver_won_s at h
  refine Ret.enter F130 R N130 R ?_
  dsimp only [envOf]
  have hE := Ent.refl κ w
  refine Je [2, 2] R (Jb 2 R (Je [2, 1, 2] R (Jn 1 R (Ob h fun x17 hx17 h => Jh R R R C60 (i_listOf_ok (κ := fun b => mp [] 0 (κ b)) (Jl2 g1 (mp [] 0) R R) hx17) ?_))))
  rintro _ w1 ⟨k2, aA, aE, rfl, e3, f4⟩
  obtain ⟨K5, S6, m7⟩ := Ji e3 2 R
  refine ⟨tv, Jb 1 R (Jq (Je [2, 2, 2] R (Jn 1 R (Jf R (Je2 U22 R R) (Jb 1 R ?_)))))⟩
  revert h
  cases ht10 : ((x17.length : Int) == 0)
  refine JF fun h => Jy R (Js (Jp (Je [2, 2, 2, 1, 2, 1, 2] R (Jn 1 R (Jf R (rn_nilCheck R R) (Jf R (Jb2 U136 R Z39 R R) ?_))))))
  have f13 := gb0.stp S6 R R
  refine Jl tv R R R R (Jd2 (cs := [.slice aj p0.game.Arena.Owner.length ai, .slice af p0.game.Arena.Next.length ae, .slice ah p0.game.Prio.length ak]) I39 Z39 R R R (haE (f13.lds 0 3 R))) (Jn 1 R (Ob h fun x27 hx27 h => ?_))
  have f14 := g0_0_0_0.stp S6 R R
  have f15 := g0_0_0_1.stp S6 R R
  have f16 := g0_0_1.stp S6 R R
  refine Jh R R R C152 (i_topIn_ok (κ := fun b => mp [] 0 (K5 b)) (p0 := p0.game) (Jl2 f14 (mp [] 0) R R) (Jl2 f15 (mp [] 0) R R) (Jl2 f16 (mp [] 0) R R) (Jl2 (f4.mx (no_int _) m7 R (R : 2 + 2 = 4)).rdc (mp [] 0) R R) hx27) ?_
  rintro _ w17 ⟨k18, rfl, e19⟩
  obtain ⟨K20, S21, m22⟩ := Ji e19 5 R
  refine ⟨tv, Jb 1 R (Je [2, 2, 2] R (Jn 1 R (Jf R (rn_rem R R R (by decide)) (Jb 1 R (Je [1, 2, 1, 2] R (Jo1 (κ := K20) (E := Ep.bool) 7 R R R R R Y70 Tryzinfo4 R fun aD aB w24 K25 S26 f27 => ⟨tv, Jn 1 R (Ob h fun x32 hx32 h => Jm1 (κ := K25) (E := Ep.bool) 7 [] R R R R R R R R R Y70 Tryzinfo4 R R R R f27 (Sl.srcP pu_bool (g1.stp (S6.tr (S21.tr S26)) R R)) sy_false hx32 R fun av aw w29 K30 S31 f32 => ⟨tv, Jb 1 R (Ob h fun q2 hq35 hK34 => ?_)⟩)⟩))))))⟩
  clear h
  refine Jv (Jy1 (fun k L w' => ∃ κ', ∃ s1 : (List Bool), ∃ aa ab, L = [(0, .pointer (some ⟨b0, 0, none⟩)), (1, .slice a1 p1.length u1), (7, vi x27), (8, vi (Int.tmod x27 2)), (9, .slice aa s1.length ab)] ∧ Stp [8, 14, 20, 25] K30 w29 κ' w' ∧ Oc Ep.bool 4 κ' w' 7 aa ab s1 ∧ whileM (i_solver_won_b0 (i_solver_won n) p0 p1 x27) k s1 = some q2) ⟨_, _, ⟨K30, (x32 : (List Bool)), av, aw, R, (Jx2 _ _).wk R, f32, hq35⟩, (KM R)⟩ ?_)
  rintro k _ w36 ⟨K37, s1, aa, ab, rfl, S38, f39, h⟩
  rcases k with _ | k
  cases h
  obtain ⟨o33, h, hk40⟩ := BI h; unfold i_solver_won_b0 at h
  refine Jv (Je [2, 2, 1, 2] R (Jn 1 R (Jf R (Je2 U70 R R) (Ob h fun x35 hx35 h => Jl1 (κ := K37) (E := Ep.bool) (z := (false : Bool)) 8 R R R R R R R Y70 Tryzinfo4 R R R R R (fun _ _ _ => R) (Ju2 hx35) fun ad ac w41 K42 S43 f44 => ⟨tv, Jb 1 R (Jq (Je [2, 2, 2] R (Jn 1 R (Jf R (Je2 U70 R R) (Jb 1 R ?_)))))⟩))))
  have hN45 : (x35.length : Int) ≤ 9223372036854775807 := f44.len_le
  refine Ob h fun q5 hq47 hK46 => ?_
  clear h
  refine Jx1 (fun L w' => ∃ κ', ∃ s6 : (List Bool), L = [(0, .pointer (some ⟨b0, 0, none⟩)), (1, .slice a1 p1.length u1), (7, vi x27), (8, vi (Int.tmod x27 2)), (9, .slice aa s1.length ab), (10, .slice ad x35.length ac)] ∧ Stp [8] K42 w41 κ' w' ∧ Oc Ep.bool 4 κ' w' 8 ad ac s6 ∧ x35.length = s6.length ∧ q5 = Sum.inr s6) ?_ ?_
  refine Jv (Jy1 (fun k L w' => ∃ κ' v38, ∃ s4 : (List Bool), L = [(0, .pointer (some ⟨b0, 0, none⟩)), (1, .slice a1 p1.length u1), (7, vi x27), (8, vi (Int.tmod x27 2)), (9, .slice aa s1.length ab), (10, .slice ad x35.length ac), (37, vi (x35.length : Int)), (38, vi v38)] ∧ Stp [8] K42 w41 κ' w' ∧ Oc Ep.bool 4 κ' w' 8 ad ac s4 ∧ x35.length = s4.length ∧ 0 ≤ v38 ∧ Int.toNat ((x35.length : Int) - v38) = k ∧ cntM (i_solver_won_b2 p0 x27 s1) k v38 s4 = some q5) ⟨_, _, ⟨K42, 0, (x35 : (List Bool)), R, (Jx2 _ _).wk R, f44, R, (by decide), (by simp), hq47⟩, (KM R)⟩ ?_)
  rintro k _ w53 ⟨K54, v38, s4, rfl, S55, f56, hn57, hj45, hJ45, h⟩
  rcases k with _ | k
  have hk58 := h; obtain ⟨o45, h⟩ := ex_eq (Sum.inr (Sum.inl s4) : ((List Bool) × Int) ⊕ (((List Bool)) ⊕ ((List Bool))))
  have hc45 : decide (v38 < (x35.length : Int)) = false := Jo2 (by omega)
  refine Je [2] R (Jb 1 R (Jq (Jw2 R hc45 (Jc1 (Jt (Jt ?_))))))
  cases h
  have h := hk58
  refine Jb1 ?_
  cases h
  exact Jw1 _ ⟨K54, (s4 : (List Bool)), R, S55.wk R, f56, hn57, R⟩ (KM R)
  obtain ⟨o45, h, hk58⟩ := BI h; unfold i_solver_won_b2 at h
  have hc45 : decide (v38 < (x35.length : Int)) = true := Jn2 (by omega)
  refine Je [2] R (Jb 1 R (Jq (Jv2 R hc45 (Js (Jp (Jq (Jv (Je [2, 2] R (Jb 2 R (Ja [2, 2, 2, 2, 2, 1, 2, 2, 2, 2, 2, 1, 2, 2, 1, 2, 2, 2, 2, 1] R (Jn 4 R (Ob h fun x45 hx45 h => Jf R (Jf2 f39.rdc hx45 U70 Z4 R R R R) (Jl tv R R R R (Jc2 I4 R R (hvE ((f39.stp (S43.tr S55) R R).rdc.gBool hx45))) (Jn 1 R (Ob h fun p58 h hK60 => Ju1 [(7, 2), (8, 2), (9, 2), (10, 2), (11, 1), (12, 2), (13, 2), (14, 1), (15, 2), (16, 2), (17, 2)] [(18, 2), (19, 1)] (fun L w' => L = [(0, .pointer (some ⟨b0, 0, none⟩)), (1, .slice a1 p1.length u1), (7, vi x27), (8, vi (Int.tmod x27 2)), (9, .slice aa s1.length ab), (10, .slice ad x35.length ac), (37, vi (x35.length : Int)), (38, vi v38), (41, .slice ad x35.length ac), (42, vi v38), (58, .bool p58)] ∧ ∃ κ', Stp [] K54 w53 κ' w') tv ?_ ?_)))))))))))))))
  revert h
  cases ht61 : x45
  refine JF fun h => Jn 4 R (Jd1 R R R R (Jn 2 R (Jd1 R R R R (Jn 3 R ?_))))
  cases h
  exact Jv1 _ tv ⟨R, _, (Jx2 _ _).wk R⟩ (KM R)
  have S001 := (S21.tr (S26.tr (S31.tr (S38.tr (S43.tr S55)))))
  refine JT fun h => Jn 1 R (Jf R (rn_nilCheck R R) (Jf R (Jb2 U136 R Z39 R R) (Jf R (Jb2 U39 R Z22 R R) (Jl tv R R R R (Jc2 I22 R R (hvE ((f13.stp S001 R R).ld 2 R R))) (Jn 1 R (Ob h fun x54 hx54 h => Jf R (Jf2 f16 hx54 U22 Z2 R R R R) (Jl tv R R R R (Jc2 I2 R R (hvE ((f16.stp S001 R R).gInt hx54))) (Jn 3 R ?_))))))))
  cases h
  exact Jv1 _ tv ⟨R, _, (Jx2 _ _).wk R⟩ (KM R)
  rintro _ w64 _ ⟨rfl, K65, S66⟩
  have h := hK60
  refine Ob h fun x59 hx59 h => Jf R (Jf2 f56.rdc hx59 U70 Z4 R R hn57 R) (Ob h fun y287 hy287 h => Jk1 (κ := K65) (E := Ep.bool) 8 [] R R R R R R R R Z4 R R R R (f56.stp S66 R R) hy287 fun w68 K69 S70 f71 => ⟨tv, ?_⟩)
  have hn72 : x35.length = y287.length := hn57.trans (Jt2 hy287).2.2.2.symm
  refine Jo (Jz (Jp (Ja [2, 2] R (Jc 2 R ?_))))
  have hw45 : IntKind.wrap .i64 (v38 + 1) = v38 + 1 := wr1 hj45 (Jm2 hc45) hN45
  rw [hw45]
  have hc45 := Jm2 hc45
  cases h
  exact Jz1 fun a ha => ⟨k, _, Ja3 _, ⟨K69, v38 + 1, (y287 : (List Bool)), R, (S55.tr (S66.tr S70)).wk R, f71, hn72, by omega, by omega, hk58⟩, (ha.mm R)⟩
  rintro _ w48 ⟨K49, s6, rfl, S50, f51, hn52, rfl⟩
  have h := hK46
  dsimp only [aft] at h
  refine Jp (Je [2, 2, 2, 2, 2, 1, 1, 2] R (Jn 5 R (Ob h fun x66 hx66 h => ?_)))
  have f73 := f14.stp (S21.tr (S26.tr (S31.tr (S38.tr (S43.tr S50))))) R R
  have f74 := f15.stp (S21.tr (S26.tr (S31.tr (S38.tr (S43.tr S50))))) R R
  have f75 := f16.stp (S21.tr (S26.tr (S31.tr (S38.tr (S43.tr S50))))) R R
  have f76 := g0_1.stp (S6.tr (S21.tr (S26.tr (S31.tr (S38.tr (S43.tr S50)))))) R R
  have f77 := f39.stp (S43.tr S50) R R
  have f78 := f13.stp (S21.tr (S26.tr (S31.tr (S38.tr (S43.tr S50))))) R R
  refine Jh R R R C153 (Ret.cast (by simp only [hn52, List.cons_append, List.nil_append]) (i_solver_pull_ok (κ := fun b => mp [] 0 (K49 b)) (p0 := p0) (Jl2 f73 (mp [] 0) R R) (Jl2 f74 (mp [] 0) R R) (Jl2 f75 (mp [] 0) R R) (Jl2 f76 (mp [] 0) R R) (Jl2 f77.rdc (mp [] 0) R R) (Jl2 f51.rdc (mp [] 0) R R) (f78.map (mp [] 0) R R) hx66)) ?_
  rintro _ w79 ⟨k80, aG, aF, rfl, e81, f82⟩
  obtain ⟨K83, S84, m85⟩ := Ji e81 9 R
  refine ⟨tv, Ob h fun x67 hx67 h => ?_⟩
  have f88 := f77.stp S84 R R
  refine Jh R R R C131 (i_without_ok (κ := fun b => mp [] 0 (K83 b)) (Jl2 f88.rdc (mp [] 0) R R) (Jl2 (f82.mx no_bool m85 R (R : 9 + 2 = 11)).rdc (mp [] 0) R R) hx67) ?_
  rintro _ w89 ⟨k90, aI, aC, rfl, e91, f92⟩
  obtain ⟨K93, S94, m95⟩ := Ji e91 12 R
  refine ⟨tv, Jb 1 R (Je [2, 2, 1, 2, 2, 2, 2, 2] R (Jn 2 R ?_))⟩
  obtain ⟨K98, S99, z100⟩ := fz_ex K93 w89 14
  have f101 := Sl.st z100 (f92.mx no_bool m95 R (R : 12 + 2 = 14)).rdc
  refine Ob h fun x71 hx71 h => ?_
  have f102 := f73.stp (S84.tr (S94.tr S99)) R R
  have f103 := f74.stp (S84.tr (S94.tr S99)) R R
  have f104 := f75.stp (S84.tr (S94.tr S99)) R R
  have f105 := f76.stp (S84.tr (S94.tr S99)) R R
  have f106 := f78.stp (S84.tr (S94.tr S99)) R R
  refine Jh R R R C130 (ih (κ := fun b => mp [] 1 (K98 b)) (p0 := p0) (Jl2 f102 (mp [] 1) R R) (Jl2 f103 (mp [] 1) R R) (Jl2 f104 (mp [] 1) R R) (Jl2 f105 (mp [] 1) R R) (Jl2 f101 (mp [] 1) R R) (f106.map (mp [] 1) R R) hx71) ?_
  rintro _ w107 ⟨k108, ay, au, rfl, e109, f110⟩
  obtain ⟨K111, S112, m113, z114⟩ := Jj e109 15 R
  refine ⟨tv, ?_⟩
  have f115 := f110.mx z114
  refine Jb 5 R (Je [2, 2] R (Jb 2 R (Jq (Je [2, 2, 2] R (Jb 3 R (Ob h fun q7 h hK116 => Jx1 (fun L w' => ∃ κ' ao an, L = [(0, .pointer (some ⟨b0, 0, none⟩)), (1, .slice a1 p1.length u1), (7, vi x27), (8, vi (Int.tmod x27 2)), (9, .slice aa s1.length ab), (15, .slice ao q7.length an)] ∧ Stp [20] K111 w107 κ' w' ∧ Rd Rp.bool κ' w' 0 ao an q7) ?_ ?_))))))
  revert h
  cases ht121 : (x71.2 == (Int.tmod x27 2))
  refine JF fun h => Jy R (Js ?_)
  cases h
  exact Jw1 _ ⟨K111, ay, au, R, (Jx2 _ _).wk R, f115⟩ (KM R)
  refine JT fun h => Jx R (Ja [2, 2, 1, 2] R (Jn 2 R (Ob h fun x80 hx80 h => Jh R R R C131 (i_without_ok (κ := fun b => mp [] 0 (K111 b)) (Jl2 (f101.stp S112 R R) (mp [] 0) R R) (Jl2 f115 (mp [] 0) R R) hx80) ?_)))
  rintro _ w123 ⟨k124, ar, ax, rfl, e125, f126⟩
  obtain ⟨K127, S128, m129⟩ := Ji e125 18 R
  refine ⟨tv, Jc 1 R ?_⟩
  obtain ⟨K132, S133, z134⟩ := fz_ex K127 w123 20
  cases h
  exact Jw1 _ ⟨K132, ar, ax, R, (S128.tr S133).wk R, (Sl.st z134 (f126.mx no_bool m129 R (R : 18 + 2 = 20)).rdc)⟩ (KM R)
  rintro _ w117 ⟨K118, ao, an, rfl, S119, f120⟩
  have h := hK116
  refine Jp (Jq (Je [2, 1, 2] R (Jn 1 R (Ob h fun x82 hx82 h => Jh R R R C154 (slices_Contains_bool_bool_ok (κ := fun b => mp [] 0 (K118 b)) (Jl2 f120 (mp [] 0) R R) hx82) ?_))))
  rintro _ w136 ⟨k137, rfl, e138⟩
  obtain ⟨K139, S140, m141⟩ := Ji e138 18 R
  refine ⟨tv, Jb 1 R ?_⟩
  revert h
  cases ht143 : (!x82)
  refine JF fun h => Jy R (Js (Jp (Je [2, 2, 2, 2, 2, 2, 1, 1, 2] R (Jn 6 R (Ob h fun x92 hx92 h => ?_)))))
  have f156 := f88.stp (S94.tr (S99.tr (S112.tr (S119.tr S140)))) R R
  have S002 := (S112.tr (S119.tr S140))
  refine Jh R R R C153 (i_solver_pull_ok (κ := fun b => mp [] 0 (K139 b)) (p0 := p0) (Jl2 (f102.stp S002 R R) (mp [] 0) R R) (Jl2 (f103.stp S002 R R) (mp [] 0) R R) (Jl2 (f104.stp S002 R R) (mp [] 0) R R) (Jl2 (f105.stp S002 R R) (mp [] 0) R R) (Jl2 f156.rdc (mp [] 0) R R) (Jl2 (f120.stp S140 R R) (mp [] 0) R R) ((f106.stp S002 R R).map (mp [] 0) R R) hx92) ?_
  rintro _ w159 ⟨k160, aH, az, rfl, e161, f162⟩
  obtain ⟨K163, S164, m165⟩ := Ji e161 20 R
  refine ⟨tv, Ob h fun x93 hx93 h => Jh R R R C131 (i_without_ok (κ := fun b => mp [] 0 (K163 b)) (Jl2 (f156.stp S164 R R).rdc (mp [] 0) R R) (Jl2 (f162.mx no_bool m165 R (R : 20 + 2 = 22)).rdc (mp [] 0) R R) hx93) ?_⟩
  rintro _ w169 ⟨k170, ap, aq, rfl, e171, f172⟩
  obtain ⟨K173, S174, m175⟩ := Ji e171 23 R
  refine ⟨tv, ?_⟩
  have f177 := f172.mx no_bool m175 R (R : 23 + 2 = 25)
  refine Jb 1 R (Je [2, 1, 2] R (Jn 1 R (Ob h fun x95 hx95 h => Jh R R R C154 (slices_Contains_bool_bool_ok (κ := fun b => mp [] 0 (K173 b)) (Jl2 f177.rdc (mp [] 0) R R) hx95) ?_)))
  rintro _ w178 ⟨k179, rfl, e180⟩
  obtain ⟨K181, S182, m183⟩ := Ji e180 26 R
  refine ⟨tv, Jb 1 R ?_⟩
  revert h
  cases ht185 : (!x95)
  refine JF fun h => Jy R (Js (Jz ?_))
  cases h
  exact Jz1 fun a ha => ⟨k, _, Ja3 _, ⟨(fun b => ren [(25, 7)] (K181 b)), (x93 : (List Bool)), ap, aq, R, (Jy2 ((S38.tr (S43.tr (S50.tr (S84.tr (S94.tr (S99.tr (S112.tr (S119.tr (S140.tr (S164.tr (S174.tr S182))))))))))).wk R) [(25, 7)] R), ((f177.stp S182 R R).map (ren [(25, 7)]) R R), hk40⟩, (ha.mm R)⟩
  refine JT fun h => Jx R (Je [2, 2, 2, 2] R (Jb 4 R (Ju (Ja1 (Jw ?_)))))
  cases h
  obtain rfl := Option.some.inj hk40
  have h := hK34
  dsimp only [aft] at h
  refine Ja1 ?_
  obtain ⟨K187, S188, z189⟩ := fz_ex K181 w178 25
  refine Ja2 (l := [.tmp 4, .tmp 5]) V130 (Jp2 R (Jp2 R R)) R ?_
  cases h
  exact ⟨K187, ap, aq, R, (hE.stp (S6.tr (S21.tr (S26.tr (S31.tr (S38.tr (S43.tr (S50.tr (S84.tr (S94.tr (S99.tr (S112.tr (S119.tr (S140.tr (S164.tr (S174.tr (S182.tr S188)))))))))))))))) R R), (Sl.st z189 (f177.stp S182 R R).rdc)⟩
  refine JT fun h => Jx R (Je [2, 2, 2, 2] R (Jb 4 R (Ju (Jw (Ja1 (Jw ?_))))))
  cases h
  obtain rfl := Option.some.inj hk40
  have h := hK34
  dsimp only [aft] at h
  refine Ja1 ?_
  obtain ⟨K146, S147, z148⟩ := fz_ex K139 w136 7
  refine Ja2 (l := [.tmp 4, .tmp 5]) V130 (Jp2 R (Jp2 R R)) R ?_
  cases h
  exact ⟨K146, aa, ab, R, (hE.stp (S6.tr (S21.tr (S26.tr (S31.tr (S38.tr (S43.tr (S50.tr (S84.tr (S94.tr (S99.tr (S112.tr (S119.tr (S140.tr S147))))))))))))) R R), (Sl.st z148 (f88.stp (S94.tr (S99.tr (S112.tr (S119.tr S140)))) R R).rdc)⟩
  refine JT fun h => Jx R (Je [2, 2, 2] R (Jb 3 R (Ju (Jw (Ja2 (l := [.tmp 4, .tmp 5]) V130 (Jp2 R (Jp2 R R)) R ?_)))))
  cases h
  exact ⟨K5, a1, u1, R, (hE.stp S6 R R), (g1.stp S6 R R)⟩
end Go.Proofs.YtmiilifclnanlaaGreat
