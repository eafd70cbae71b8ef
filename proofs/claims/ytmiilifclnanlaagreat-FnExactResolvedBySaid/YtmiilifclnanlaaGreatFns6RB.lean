/- The walks, part 6. By program. -/
import Derived.Test.YtmiilifclnanlaaGreatFns3RB
import Derived.Test.YtmiilifclnanlaaGreatFns4RB
import Derived.Test.YtmiilifclnanlaaGreatFns5RB
set_option linter.unusedVariables false
set_option linter.unusedSimpArgs false
namespace Go.Proofs.YtmiilifclnanlaaGreat
open Go Go.Wk Go.Proofs
set_option maxRecDepth 100000
set_option maxHeartbeats 1000000
theorem s_l7Attract_ok {w : World} {κ : Col} {ax aA ap au av ao al aw aB ar} {p0 : l7Game} {a1 u1} {p1 : (List Bool)} {p2 : Int} {a3 u3} {p3 : (List Bool)} (g0_0 : Rd (Rp.int .i64) κ w 0 ax aA p0.owner) (g0_1 : Rd (Rp.int .i64) κ w 0 ap au p0.prio) (g0_2 : Rd (Rp.sl (Rp.int .i64)) κ w 0 av ao p0.next) (g0_3 : Rd (Rp.sl (Rp.int .i64)) κ w 0 al aw p0.prev) (g0_4 : Rd (Rp.int .i64) κ w 0 aB ar p0.pick) (g1 : Rd Rp.bool κ w 0 a1 u1 p1) (g3 : Rd Rp.bool κ w 0 a3 u3 p3) {r : (List Bool)} (h : s_l7Attract p0 p1 p2 p3 = some r) : Ret Tryz.prog 151 [.agg #[.slice ax p0.owner.length aA, .slice ap p0.prio.length au, .slice av p0.next.length ao, .slice al p0.prev.length aw, .slice aB p0.pick.length ar], .slice a1 p1.length u1, vi p2, .slice a3 p3.length u3] w (fun v w' => ∃ (κ' : Col) (ra0 : Option Addr) (ru0 : Nat), v = .slice ra0 r.length ru0 ∧ Ent κ w κ' w' ∧ Oc Ep.bool 4 κ' w' 2 ra0 ru0 r) := by
 unfold s_l7Attract at h
 refine Ret.enter F151 R N151 R ?_
 dsimp only [envOf]
 have hE := Ent.refl κ w
 refine Je [1, 2] R (Jf1 (κ := κ) 2 R R R R R R R fun b4 w1 K2 S3 f4 => ⟨tv, Jb 1 R (Je [2, 2, 1, 2] R (Jn 1 R (Jf R (Je2 U70 R R) (Ob h fun x19 hx19 h => Jl1 (κ := K2) (E := Ep.bool) (z := (false : Bool)) 3 R R R R R R R Y70 Tryzinfo4 R R R R R (fun _ _ _ => R) (Ju2 hx19) fun ab aa w5 K6 S7 f8 => ⟨tv, Jb 1 R (Je [2, 2, 1, 2] R (Jn 1 R (Jf R (Je2 U70 R R) (Ob h fun x22 hx22 h => Jl1 (κ := K6) (E := E6) (z := (0 : Int)) 4 R R R R R R R Y22 Tryzinfo2 R R R R R (fun _ _ _ => R) (Ju2 hx22) fun ac ad w9 K10 S11 f12 => ⟨tv, Jb 1 R (Je [1, 2] R (Jo1 (κ := K10) (E := E6) 5 R R R R R Y22 Tryzinfo2 R fun aL aK w13 K14 S15 f16 => ⟨tv, Jb 1 R (Jq (Je [2] R (Jb 1 R ?_)))⟩))⟩))))⟩))))⟩)
 have hN17 : (p1.length : Int) ≤ 9223372036854775807 := g1.len_le
 refine Ob h fun q2 hq19 hK18 => ?_
 clear h
 refine Jx1 (fun L w' => ∃ κ', ∃ s3 : (List Int) × (List Bool) × (List Int), ∃ aD az, L = [(1, .slice a1 p1.length u1), (2, vi p2), (4, .pointer (some ⟨b4, 0, none⟩)), (9, .slice ab x19.length aa), (10, .slice ac x22.length ad), (11, .slice aD s3.1.length az)] ∧ Stp [3, 4, 5] K14 w13 κ' w' ∧ Oc E6 2 κ' w' 5 aD az s3.1 ∧ Oc Ep.bool 4 κ' w' 3 ab aa s3.2.1 ∧ x19.length = s3.2.1.length ∧ Oc E6 2 κ' w' 4 ac ad s3.2.2 ∧ x22.length = s3.2.2.length ∧ q2 = Sum.inr s3) ?_ ?_
 refine Jv (Jy1 (fun k L w' => ∃ κ' v12, ∃ s1 : (List Int) × (List Bool) × (List Int), ∃ ah ai, L = [(1, .slice a1 p1.length u1), (2, vi p2), (3, .slice a3 p3.length u3), (4, .pointer (some ⟨b4, 0, none⟩)), (9, .slice ab x19.length aa), (10, .slice ac x22.length ad), (11, .slice ah s1.1.length ai), (12, vi v12)] ∧ Stp [3, 4, 5] K14 w13 κ' w' ∧ Oc E6 2 κ' w' 5 ah ai s1.1 ∧ Oc Ep.bool 4 κ' w' 3 ab aa s1.2.1 ∧ x19.length = s1.2.1.length ∧ Oc E6 2 κ' w' 4 ac ad s1.2.2 ∧ x22.length = s1.2.2.length ∧ 0 ≤ v12 ∧ Int.toNat ((p1.length : Int) - v12) = k ∧ cntM (s_l7Attract_b0 p0 p1 p3) k v12 s1 = some q2) ⟨_, _, ⟨K14, 0, ((([] : List Int) : (List Int)), (x19 : (List Bool)), (x22 : (List Int))), aL, aK, R, (Jx2 _ _).wk R, f16, (f8.stp (S11.tr S15) R R), R, (f12.stp S15 R R), R, (by decide), (by simp), hq19⟩, (KM R)⟩ ?_)
 rintro k _ w28 ⟨K29, v12, s1, ah, ai, rfl, S30, f31, f32, hn33, f34, hn35, hj17, hJ17, h⟩
 rcases k with _ | k
 have hk38 := h; obtain ⟨o17, h⟩ := ex_eq (Sum.inr (Sum.inl s1) : (List Bool) ⊕ (((List Int) × (List Bool) × (List Int)) ⊕ ((List Int) × (List Bool) × (List Int))))
 have hc17 : decide (v12 < (p1.length : Int)) = false := Jo2 (by omega)
 refine Jq (Je [2, 2, 2, 2] R (Jn 2 R (Jf R (Je2 U70 R R) (Jb 1 R (Jw2 R hc17 (Jc1 (Jt (Jt ?_))))))))
 cases h
 have h := hk38
 refine Jb1 ?_
 cases h
 exact Jw1 _ ⟨K29, ((s1.1 : (List Int)), (s1.2.1 : (List Bool)), (s1.2.2 : (List Int))), ah, ai, R, S30.wk R, f31, f32, hn33, f34, hn35, R⟩ (KM R)
 obtain ⟨o17, h, hk38⟩ := BI h; unfold s_l7Attract_b0 at h
 have hc17 : decide (v12 < (p1.length : Int)) = true := Jn2 (by omega)
 refine Jq (Je [2, 2, 2, 2] R (Jn 2 R (Jf R (Je2 U70 R R) (Jb 1 R (Jv2 R hc17 (Js (Jp (Jq (Jv (Jq (Je [2, 2, 2, 1] R (Jn 2 R (Ob h fun x32 hx32 h => Jf R (Jf2 g1 hx32 U70 Z4 R R R R) ?_)))))))))))))
 have f39 := g1.stp (S3.tr (S7.tr (S11.tr (S15.tr S30)))) R R
 refine Jl tv R R R R (Jc2 I4 R R (hvE (f39.gBool hx32))) (Jd (Ob h fun q4 h hK40 => Jx1 (fun L w' => ∃ κ', L = [(1, .slice a1 p1.length u1), (2, vi p2), (3, .slice a3 p3.length u3), (4, .pointer (some ⟨b4, 0, none⟩)), (9, .slice ab x19.length aa), (10, .slice ac x22.length ad), (11, .slice ah s1.1.length ai), (12, vi v12)] ∧ Stp [4] K29 w28 κ' w' ∧ Oc E6 2 κ' w' 4 ac ad q4 ∧ x22.length = q4.length) ?_ ?_))
 revert h
 cases ht46 : x32
 refine JF fun h => Jy R (Js ?_)
 cases h
 exact Jw1 _ ⟨K29, R, (Jx2 _ _).wk R, f34, hn35⟩ (KM R)
 have S001 := (S3.tr (S7.tr (S11.tr (S15.tr S30))))
 refine JT fun h => Jx R (Ja [2, 2, 1, 2, 2, 1, 2, 1] R (Jn 2 R (Jl tv R R R R (Jd2 (cs := [.slice ax p0.owner.length aA, .slice ap p0.prio.length au, .slice av p0.next.length ao, .slice al p0.prev.length aw, .slice aB p0.pick.length ar]) I111 Z111 R R R (haE (f4.stp (S7.tr (S11.tr (S15.tr S30))) R R).cells)) (Jn 2 R (Ob h fun x39 hx39 h => Jh R R R C172 (s_l7Degree_ok (κ := fun b => mp [] 0 (K29 b)) (p0 := p0) (Jl2 (g0_0.stp S001 R R) (mp [] 0) R R) (Jl2 (g0_1.stp S001 R R) (mp [] 0) R R) (Jl2 (g0_2.stp S001 R R) (mp [] 0) R R) (Jl2 (g0_3.stp S001 R R) (mp [] 0) R R) (Jl2 (g0_4.stp S001 R R) (mp [] 0) R R) (Jl2 f39 (mp [] 0) R R) hx39) ?_)))))
 rintro _ w53 ⟨k54, rfl, e55⟩
 obtain ⟨K56, S57, m58⟩ := Ji e55 6 R
 refine ⟨tv, Ob h fun x40 hx40 h => Jf R (Jf2 f34.rdc hx40 U22 Z2 R R hn35 R) (Ob h fun y149 hy149 h => Jk1 (κ := K56) (E := E6) 4 [] R R R R R R R R Z2 R R R R (f34.stp S57 R R) hy149 fun w61 K62 S63 f64 => ⟨tv, ?_⟩)⟩
 have hn65 : x22.length = y149.length := hn35.trans (Jt2 hy149).2.2.2.symm
 refine Jo ?_
 cases h
 exact Jw1 _ ⟨K62, R, (S57.tr S63).wk R, f64, hn65⟩ (KM R)
 rintro _ w41 ⟨K42, rfl, S43, f44, hn45⟩
 have h := hK40
 refine Jp (Je [2, 2, 2, 1, 2, 2, 2, 2, 1, 2] R (Jn 2 R (Ob h fun x43 hx43 h => Jf R (Jf2 f39 hx43 U70 Z4 R R R R) (Jl tv R R R R (Jc2 I4 R R (hvE ((f39.stp S43 R R).gBool hx43))) (Jn 1 R (Ob h fun p50 h hK67 => Ju1 [(5, 2), (6, 2), (7, 2), (8, 1), (9, 2)] [] (fun L w' => L = [(1, .slice a1 p1.length u1), (2, vi p2), (3, .slice a3 p3.length u3), (4, .pointer (some ⟨b4, 0, none⟩)), (9, .slice ab x19.length aa), (10, .slice ac x22.length ad), (11, .slice ah s1.1.length ai), (12, vi v12), (50, .bool p50)] ∧ ∃ κ', Stp [] K42 w41 κ' w') tv ?_ ?_))))))
 revert h
 cases ht68 : x43
 refine JF fun h => Jn 3 R (Jd1 R R R R (Jn 1 R ?_))
 cases h
 exact Jv1 _ tv ⟨R, _, (Jx2 _ _).wk R⟩ (KM R)
 refine JT fun h => Jn 2 R (Ob h fun x48 hx48 h => Jf R (Jf2 g3 hx48 U70 Z4 R R R R) (Jl tv R R R R (Jc2 I4 R R (hvE ((g3.stp (S3.tr (S7.tr (S11.tr (S15.tr (S30.tr S43))))) R R).gBool hx48))) (Jn 1 R ?_)))
 cases h
 exact Jv1 _ tv ⟨R, _, (Jx2 _ _).wk R⟩ (KM R)
 rintro _ w70 _ ⟨rfl, K71, S72⟩
 have h := hK67
 refine Jd (Ob h fun q5 h hK73 => Jx1 (fun L w' => ∃ κ' ay aC, L = [(1, .slice a1 p1.length u1), (2, vi p2), (3, .slice a3 p3.length u3), (4, .pointer (some ⟨b4, 0, none⟩)), (9, .slice ab x19.length aa), (10, .slice ac x22.length ad), (11, .slice ay q5.1.length aC), (12, vi v12)] ∧ Stp [3, 5] K71 w70 κ' w' ∧ Oc E6 2 κ' w' 5 ay aC q5.1 ∧ Oc Ep.bool 4 κ' w' 3 ab aa q5.2 ∧ x19.length = q5.2.length) ?_ ?_)
 revert h
 cases ht80 : p50
 refine JF fun h => Jy R (Js ?_)
 cases h
 exact Jw1 _ ⟨K71, ah, ai, R, (Jx2 _ _).wk R, (f31.stp (S43.tr S72) R R), (f32.stp (S43.tr S72) R R), hn33⟩ (KM R)
 refine JT fun h => Jx R (Je [2, 2, 2, 1] R (Jn 2 R (Ob h fun x53 hx53 h => Jf R (Jf2 f32.rdc hx53 U70 Z4 R R hn33 R) (Ob h fun y150 hy150 h => Jk1 (κ := K71) (E := Ep.bool) 3 [] R R R R R R R R Z4 R R R R (f32.stp (S43.tr S72) R R) hy150 fun w82 K83 S84 f85 => ⟨tv, ?_⟩))))
 have hn86 : x19.length = y150.length := hn33.trans (Jt2 hy150).2.2.2.symm
 refine Jd (Ja [2, 2, 1, 1, 2] R (Jn 2 R (Jn1 (κ := K83) (E := E6) 6 [] (parts := [(0, .tmp 55)]) (cells := [vi v12]) (xs := ([v12] : List Int)) R R R R R R Y22 Tryzinfo2 R R R R R R R R R R ⟨[vi v12], [], Zl K83 w82 [], Zl K83 w82 [], R, Zl.sp (l1 := []) (l2 := []) R, Zl.sr (l1 := []) (l2 := []), R, R⟩ fun aN aQ w87 K88 S89 f90 => ⟨tv, Ob h fun x57 hx57 h => Jm1 (κ := K88) (E := E6) 5 [] R R R R R R R R R Y22 Tryzinfo2 R R R R (f31.stp (S43.tr (S72.tr (S84.tr S89))) R R) (Sl.srcP (pu_int _) f90.rdc) sy_false hx57 R fun aI aM w92 K93 S94 f95 => ⟨tv, Jc 1 R ?_⟩⟩)))
 cases h
 exact Jw1 _ ⟨K93, aI, aM, R, (S84.tr (S89.tr S94)).wk R, f95, (f85.stp (S89.tr S94) R R), hn86⟩ (KM R)
 rintro _ w74 ⟨K75, ay, aC, rfl, S76, f77, f78, hn79⟩
 have h := hK73
 refine Jz (Jp (Ja [2, 2, 2] R (Jc 3 R ?_)))
 have hw17 : IntKind.wrap .i64 (v12 + 1) = v12 + 1 := wr1 hj17 (Jm2 hc17) hN17
 rw [hw17]
 have hc17 := Jm2 hc17
 cases h
 exact Jz1 fun a ha => ⟨k, _, Ja3 _, ⟨K75, v12 + 1, ((q5.1 : (List Int)), (q5.2 : (List Bool)), (q4 : (List Int))), ay, aC, R, (S30.tr (S43.tr (S72.tr S76))).wk R, f77, f78, hn79, (f44.stp (S72.tr S76) R R), hn45, by omega, by omega, hk38⟩, (ha.mm R)⟩
 rintro _ w20 ⟨K21, s3, aD, az, rfl, S22, f23, f24, hn25, f26, hn27, rfl⟩
 have h := hK18
 dsimp only [aft] at h
 refine Jp (Jq (Je [2] R (Jb 1 R (Ob h fun q7 hq102 hK101 => ?_))))
 clear h
 refine Jx1 (fun L w' => ∃ κ', ∃ s8 : (List Int) × Int × (List Bool) × (List Int), ∃ aG aF, L = [(9, .slice ab x19.length aa)] ∧ Stp [3, 4, 5] K21 w20 κ' w' ∧ Oc E6 2 κ' w' 5 aG aF s8.1 ∧ Oc Ep.bool 4 κ' w' 3 ab aa s8.2.2.1 ∧ x19.length = s8.2.2.1.length ∧ Oc E6 2 κ' w' 4 ac ad s8.2.2.2 ∧ x22.length = s8.2.2.2.length ∧ q7 = Sum.inr s8) ?_ ?_
 refine Jv (Jy1 (fun k L w' => ∃ κ', ∃ s6 : (List Int) × Int × (List Bool) × (List Int), ∃ aj ak, L = [(1, .slice a1 p1.length u1), (2, vi p2), (4, .pointer (some ⟨b4, 0, none⟩)), (9, .slice ab x19.length aa), (10, .slice ac x22.length ad), (11, .slice aj s6.1.length ak), (13, vi s6.2.1)] ∧ Stp [3, 4, 5] K21 w20 κ' w' ∧ Oc E6 2 κ' w' 5 aj ak s6.1 ∧ Oc Ep.bool 4 κ' w' 3 ab aa s6.2.2.1 ∧ x19.length = s6.2.2.1.length ∧ Oc E6 2 κ' w' 4 ac ad s6.2.2.2 ∧ x22.length = s6.2.2.2.length ∧ whileM (s_l7Attract_b2 p0 p1 p2) k s6 = some q7) ⟨_, _, ⟨K21, ((s3.1 : (List Int)), (0 : Int), (s3.2.1 : (List Bool)), (s3.2.2 : (List Int))), aD, az, R, (Jx2 _ _).wk R, f23, f24, hn25, f26, hn27, hq102⟩, (KM R)⟩ ?_)
 rintro k _ w111 ⟨K112, s6, aj, ak, rfl, S113, f114, f115, hn116, f117, hn118, h⟩
 rcases k with _ | k
 cases h
 obtain ⟨o100, h, hk119⟩ := BI h; unfold s_l7Attract_b2 at h
 refine Jq (Je [2, 2, 2, 2] R (Jn 2 R (Jf R (Je2 U22 R R) (Jb 1 R ?_))))
 revert h
 cases ht120 : decide (s6.2.1 < (s6.1.length : Int))
 refine JF fun h => Jy R (Jc1 (Jt (Jt ?_)))
 cases h
 have h := hk119
 refine Jb1 ?_
 cases h
 exact Jw1 _ ⟨K112, ((s6.1 : (List Int)), (s6.2.1 : Int), (s6.2.2.1 : (List Bool)), (s6.2.2.2 : (List Int))), aj, ak, R, S113.wk R, f114, f115, hn116, f117, hn118, R⟩ (KM R)
 refine JT fun h => Jx R (Js (Jp (Jq (Jv (Je [2, 2, 2, 1, 2] R (Jn 2 R (Ob h fun x66 hx66 h => Jf R (Jf2 f114.rdc hx66 U22 Z2 R R R R) (Jl tv R R R R (Jc2 I2 R R (hvE (f114.rdc.gInt hx66))) (Jb 1 R (Je [2] R (Jb 1 R (Ob h fun q10 hq123 hK122 => ?_))))))))))))
 clear h
 refine Jx1 (fun L w' => ∃ κ', ∃ s11 : (List Int) × Int × (List Bool) × (List Int), ∃ am aq, L = [(1, .slice a1 p1.length u1), (2, vi p2), (4, .pointer (some ⟨b4, 0, none⟩)), (9, .slice ab x19.length aa), (10, .slice ac x22.length ad), (11, .slice am s11.1.length aq), (13, vi s6.2.1)] ∧ Stp [3, 4, 5] K112 w111 κ' w' ∧ Oc E6 2 κ' w' 5 am aq s11.1 ∧ Oc Ep.bool 4 κ' w' 3 ab aa s11.2.2.1 ∧ x19.length = s11.2.2.1.length ∧ Oc E6 2 κ' w' 4 ac ad s11.2.2.2 ∧ x22.length = s11.2.2.2.length ∧ q10 = Sum.inr s11) ?_ ?_
 refine Jv (Jy1 (fun k L w' => ∃ κ', ∃ s9 : (List Int) × Int × (List Bool) × (List Int), ∃ af ae, L = [(1, .slice a1 p1.length u1), (2, vi p2), (4, .pointer (some ⟨b4, 0, none⟩)), (9, .slice ab x19.length aa), (10, .slice ac x22.length ad), (11, .slice af s9.1.length ae), (13, vi s6.2.1), (14, vi x66), (15, vi s9.2.1)] ∧ Stp [3, 4, 5] K112 w111 κ' w' ∧ Oc E6 2 κ' w' 5 af ae s9.1 ∧ Oc Ep.bool 4 κ' w' 3 ab aa s9.2.2.1 ∧ x19.length = s9.2.2.1.length ∧ Oc E6 2 κ' w' 4 ac ad s9.2.2.2 ∧ x22.length = s9.2.2.2.length ∧ whileM (s_l7Attract_b4 p0 p1 p2 x66) k s9 = some q10) ⟨_, _, ⟨K112, ((s6.1 : (List Int)), (0 : Int), (s6.2.2.1 : (List Bool)), (s6.2.2.2 : (List Int))), aj, ak, R, (Jx2 _ _).wk R, f114, f115, hn116, f117, hn118, hq123⟩, (KM R)⟩ ?_)
 rintro k _ w132 ⟨K133, s9, af, ae, rfl, S134, f135, f136, hn137, f138, hn139, h⟩
 rcases k with _ | k
 cases h
 obtain ⟨o121, h, hk140⟩ := BI h; unfold s_l7Attract_b4 at h
 refine Jq (Je [2, 2, 1, 2, 2, 1, 2, 2] R (Jn 1 R (Jf R (Jb2 U111 R Z23 R R) ?_)))
 have f141 := f4.stp (S7.tr (S11.tr (S15.tr (S22.tr (S113.tr S134))))) R R
 refine Jl tv R R R R (Jc2 I23 R R (hvE (f141.ld 3 R R))) (Jn 1 R (Ob h fun x72 hx72 h => Jf R (Jf2 g0_3 hx72 U23 Z22 R R R R) ?_))
 have f142 := g0_3.stp (S3.tr (S7.tr (S11.tr (S15.tr (S22.tr (S113.tr S134)))))) R R
 obtain ⟨ax72, ux72, f143, hl144⟩ := f142.gSl hx72
 refine Jl tv R R R R (Jc2 I22 R R (hvE hl144)) (Jf R (Je2 U22 R R) (Jb 1 R ?_))
 revert h
 cases ht145 : decide (s9.2.1 < (x72.length : Int))
 refine JF fun h => Jy R (Jc1 (Jt (Jt ?_)))
 cases h
 have h := hk140
 refine Jb1 ?_
 cases h
 exact Jw1 _ ⟨K133, ((s9.1 : (List Int)), (s9.2.1 : Int), (s9.2.2.1 : (List Bool)), (s9.2.2.2 : (List Int))), af, ae, R, S134.wk R, f135, f136, hn137, f138, hn139, R⟩ (KM R)
 refine JT fun h => Jx R (Js (Jp (Jq (Jv (Je [2, 1, 2, 2, 1, 2, 2, 1, 2] R (Jf R (Jb2 U111 R Z23 R R) (Jl tv R R R R (Jc2 I23 R R (hvE (f141.ld 3 R R))) (Jn 1 R (Ob h fun x81 hx81 h => Jf R (Jf2 f142 hx81 U23 Z22 R R R R) ?_)))))))))
 obtain ⟨ax81, ux81, f146, hl147⟩ := f142.gSl hx81
 refine Jl tv R R R R (Jc2 I22 R R (hvE hl147)) (Jn 1 R (Ob h fun x84 hx84 h => Jf R (Jf2 f146 hx84 U22 Z2 R R R R) (Jl tv R R R R (Jc2 I2 R R (hvE (f146.gInt hx84))) (Jb 1 R (Jq (Je [2, 2, 2, 1, 2, 2, 2, 2, 2, 1, 2, 2, 1, 2, 2, 1, 2, 2] R (Jn 2 R (Ob h fun x88 hx88 h => Jf R (Jf2 g1 hx88 U70 Z4 R R R R) (Jl tv R R R R (Jc2 I4 R R (hvE ((g1.stp (S3.tr (S7.tr (S11.tr (S15.tr (S22.tr (S113.tr S134)))))) R R).gBool hx88))) (Jn 2 R (Ob h fun p96 h hK149 => Ju1 [(6, 2), (7, 2), (8, 2), (9, 1), (10, 2)] [(11, 2), (12, 1), (13, 2), (14, 2), (15, 1), (16, 2), (17, 2)] (fun L w' => L = [(1, .slice a1 p1.length u1), (2, vi p2), (4, .pointer (some ⟨b4, 0, none⟩)), (9, .slice ab x19.length aa), (10, .slice ac x22.length ad), (11, .slice af s9.1.length ae), (13, vi s6.2.1), (14, vi x66), (15, vi s9.2.1), (16, vi x84), (96, .bool p96)] ∧ ∃ κ', Stp [] K133 w132 κ' w') tv ?_ ?_)))))))))))
 revert h
 cases ht150 : (!x88)
 refine JF fun h => Jn 2 R (Ob h fun x94 hx94 h => Jf R (Jf2 f136.rdc hx94 U70 Z4 R R hn137 R) (Jl tv R R R R (Jc2 I4 R R (hvE (f136.rdc.gBool hx94))) (Jn 1 R ?_)))
 cases h
 exact Jv1 _ tv ⟨R, _, (Jx2 _ _).wk R⟩ (KM R)
 refine JT fun h => Jn 3 R (Jd1 R R R R (Jn 1 R ?_))
 cases h
 exact Jv1 _ tv ⟨R, _, (Jx2 _ _).wk R⟩ (KM R)
 rintro _ w151 _ ⟨rfl, K152, S153⟩
 have h := hK149
 refine Jn 1 R (Ob h fun p103 h hK154 => Ju1 [(12, 1), (13, 2), (14, 2), (15, 1), (16, 2), (17, 2)] [] (fun L w' => L = [(1, .slice a1 p1.length u1), (2, vi p2), (4, .pointer (some ⟨b4, 0, none⟩)), (9, .slice ab x19.length aa), (10, .slice ac x22.length ad), (11, .slice af s9.1.length ae), (13, vi s6.2.1), (14, vi x66), (15, vi s9.2.1), (16, vi x84), (103, .bool p103)] ∧ ∃ κ', Stp [] K152 w151 κ' w') tv ?_ ?_)
 revert h
 cases ht155 : p96
 have S002 := (S3.tr (S7.tr (S11.tr (S15.tr (S22.tr (S113.tr (S134.tr S153)))))))
 refine JF fun h => Jl tv R R R R (Jd2 (cs := [.slice ax p0.owner.length aA, .slice ap p0.prio.length au, .slice av p0.next.length ao, .slice al p0.prev.length aw, .slice aB p0.pick.length ar]) I111 Z111 R R R (haE (f141.stp S153 R R).cells)) (Jn 2 R (Ob h fun x101 hx101 h => Jh R R R C173 (s_l7Edge_ok (κ := fun b => mp [] 0 (K152 b)) (p0 := p0) (Jl2 (g0_0.stp S002 R R) (mp [] 0) R R) (Jl2 (g0_1.stp S002 R R) (mp [] 0) R R) (Jl2 (g0_2.stp S002 R R) (mp [] 0) R R) (Jl2 (f142.stp S153 R R) (mp [] 0) R R) (Jl2 (g0_4.stp S002 R R) (mp [] 0) R R) hx101) ?_))
 rintro _ w162 ⟨k163, rfl, e164⟩
 obtain ⟨K165, S166, m167⟩ := Ji e164 6 R
 refine ⟨tv, Jn 2 R ?_⟩
 cases h
 exact Jv1 _ tv ⟨R, _, S166.wk R⟩ (KM R)
 refine JT fun h => Jd1 R R R R (Jn 2 R (Jd1 R R R R (Jn 2 R ?_)))
 cases h
 exact Jv1 _ tv ⟨R, _, (Jx2 _ _).wk R⟩ (KM R)
 rintro _ w169 _ ⟨rfl, K170, S171⟩
 have h := hK154
 refine Jd ?_
 revert h
 cases ht172 : p103
 refine JF fun h => Jy R (Js (Jp (Je [2, 2, 2, 1, 2, 2, 1] R (Jn 2 R (Ob h fun x106 hx106 h => Jf R (Jf2 f138.rdc hx106 U22 Z2 R R hn139 R) ?_)))))
 have f176 := f138.stp (S153.tr S171) R R
 refine Jl tv R R R R (Jc2 I2 R R (hvE (f176.rdc.gInt hx106))) (Jn 1 R (Ob h fun x109 hx109 h => Jf R (Jf2 f176.rdc hx109 U22 Z2 R R hn139 R) (Ob h fun y153 hy153 h => Jk1 (κ := K170) (E := E6) 4 [] R R R R R R R R Z2 R R R R f176 hy153 fun w177 K178 S179 f180 => ⟨tv, ?_⟩)))
 have hn181 : x22.length = y153.length := hn139.trans (Jt2 hy153).2.2.2.symm
 refine Jd (Je [2, 1, 2, 2, 1, 2, 2, 2, 2, 2, 2, 1, 2, 2] R (Jf R (Jb2 U111 R Z22 R R) (Jl tv R R R R (Jc2 I22 R R (hvE ((f141.stp (S153.tr (S171.tr S179)) R R).ld 0 R R))) (Jn 1 R (Ob h fun x113 hx113 h => Jf R (Jf2 g0_0 hx113 U22 Z2 R R R R) (Jl tv R R R R (Jc2 I2 R R (hvE ((g0_0.stp (S3.tr (S7.tr (S11.tr (S15.tr (S22.tr (S113.tr (S134.tr (S153.tr (S171.tr S179))))))))) R R).gInt hx113))) (Jn 3 R (Ob h fun p123 h hK184 => Ju1 [(8, 2), (9, 2), (10, 2), (11, 1), (12, 2), (13, 2)] [] (fun L w' => L = [(1, .slice a1 p1.length u1), (2, vi p2), (4, .pointer (some ⟨b4, 0, none⟩)), (9, .slice ab x19.length aa), (10, .slice ac x22.length ad), (11, .slice af s9.1.length ae), (13, vi s6.2.1), (14, vi x66), (15, vi s9.2.1), (16, vi x84), (123, .bool p123)] ∧ ∃ κ', Stp [] K178 w177 κ' w') tv ?_ ?_))))))))
 revert h
 cases ht185 : (x113 == p2)
 refine JF fun h => Jn 2 R (Ob h fun x120 hx120 h => Jf R (Jf2 f180.rdc hx120 U22 Z2 R R hn181 R) (Jl tv R R R R (Jc2 I2 R R (hvE (f180.rdc.gInt hx120))) (Jn 2 R ?_)))
 cases h
 exact Jv1 _ tv ⟨R, _, (Jx2 _ _).wk R⟩ (KM R)
 refine JT fun h => Jn 3 R (Jd1 R R R R (Jn 2 R ?_))
 cases h
 exact Jv1 _ tv ⟨R, _, (Jx2 _ _).wk R⟩ (KM R)
 rintro _ w186 _ ⟨rfl, K187, S188⟩
 have h := hK184
 refine Jd (Ob h fun q12 h hK189 => Jx1 (fun L w' => ∃ κ' an aE, L = [(1, .slice a1 p1.length u1), (2, vi p2), (4, .pointer (some ⟨b4, 0, none⟩)), (9, .slice ab x19.length aa), (10, .slice ac x22.length ad), (11, .slice an q12.1.length aE), (13, vi s6.2.1), (14, vi x66), (15, vi s9.2.1)] ∧ Stp [3, 5] K187 w186 κ' w' ∧ Oc E6 2 κ' w' 5 an aE q12.1 ∧ Oc Ep.bool 4 κ' w' 3 ab aa q12.2 ∧ x19.length = q12.2.length) ?_ ?_)
 revert h
 cases ht196 : p123
 refine JF fun h => Jy R (Js ?_)
 cases h
 have S003 := (S153.tr (S171.tr (S179.tr S188)))
 exact Jw1 _ ⟨K187, af, ae, R, (Jx2 _ _).wk R, (f135.stp S003 R R), (f136.stp S003 R R), hn137⟩ (KM R)
 refine JT fun h => Jx R (Je [2, 2, 2, 1] R (Jn 2 R (Ob h fun x126 hx126 h => Jf R (Jf2 f136.rdc hx126 U70 Z4 R R hn137 R) (Ob h fun y154 hy154 h => Jk1 (κ := K187) (E := Ep.bool) 3 [] R R R R R R R R Z4 R R R R (f136.stp (S153.tr (S171.tr (S179.tr S188))) R R) hy154 fun w198 K199 S200 f201 => ⟨tv, ?_⟩))))
 have hn202 : x19.length = y154.length := hn137.trans (Jt2 hy154).2.2.2.symm
 refine Jd (Ja [2, 2, 1, 1, 2] R (Jn 2 R (Jn1 (κ := K199) (E := E6) 6 [] (parts := [(0, .tmp 128)]) (cells := [vi x84]) (xs := ([x84] : List Int)) R R R R R R Y22 Tryzinfo2 R R R R R R R R R R ⟨[vi x84], [], Zl K199 w198 [], Zl K199 w198 [], R, Zl.sp (l1 := []) (l2 := []) R, Zl.sr (l1 := []) (l2 := []), R, R⟩ fun aO aP w203 K204 S205 f206 => ⟨tv, Ob h fun x130 hx130 h => Jm1 (κ := K204) (E := E6) 5 [] R R R R R R R R R Y22 Tryzinfo2 R R R R (f135.stp (S153.tr (S171.tr (S179.tr (S188.tr (S200.tr S205))))) R R) (Sl.srcP (pu_int _) f206.rdc) sy_false hx130 R fun aH aJ w208 K209 S210 f211 => ⟨tv, Jc 1 R ?_⟩⟩)))
 cases h
 exact Jw1 _ ⟨K209, aH, aJ, R, (S200.tr (S205.tr S210)).wk R, f211, (f201.stp (S205.tr S210) R R), hn202⟩ (KM R)
 rintro _ w190 ⟨K191, an, aE, rfl, S192, f193, f194, hn195⟩
 have h := hK189
 refine Jz (Jp (Ja [2, 2, 2] R (Jc 3 R ?_)))
 cases h
 exact Jz1 fun a ha => ⟨k, _, Ja3 _, ⟨K191, ((q12.1 : (List Int)), ((IntKind.i64.wrap (s9.2.1 + 1)) : Int), (q12.2 : (List Bool)), (y153 : (List Int))), an, aE, R, (S134.tr (S153.tr (S171.tr (S179.tr (S188.tr S192))))).wk R, f193, f194, hn195, (f180.stp (S188.tr S192) R R), hn181, hk140⟩, (ha.mm R)⟩
 refine JT fun h => Jx R (Jc1 (Jt (Jb1 (Jp (Ja [2, 2, 2] R (Jc 3 R ?_))))))
 cases h
 have S004 := (S153.tr S171)
 exact Jz1 fun a ha => ⟨k, _, Ja3 _, ⟨K170, ((s9.1 : (List Int)), ((IntKind.i64.wrap (s9.2.1 + 1)) : Int), (s9.2.2.1 : (List Bool)), (s9.2.2.2 : (List Int))), af, ae, R, (S134.tr (S153.tr S171)).wk R, (f135.stp S004 R R), (f136.stp S004 R R), hn137, (f138.stp S004 R R), hn139, hk140⟩, (ha.mm R)⟩
 rintro _ w124 ⟨K125, s11, am, aq, rfl, S126, f127, f128, hn129, f130, hn131, rfl⟩
 have h := hK122
 dsimp only [aft] at h
 refine Jz (Jp (Ja [2, 2, 2] R (Jc 3 R ?_)))
 cases h
 exact Jz1 fun a ha => ⟨k, _, Ja3 _, ⟨K125, ((s11.1 : (List Int)), ((IntKind.i64.wrap (s6.2.1 + 1)) : Int), (s11.2.2.1 : (List Bool)), (s11.2.2.2 : (List Int))), am, aq, R, (S113.tr S126).wk R, f127, f128, hn129, f130, hn131, hk119⟩, (ha.mm R)⟩
 rintro _ w103 ⟨K104, s8, aG, aF, rfl, S105, f106, f107, hn108, f109, hn110, rfl⟩
 have h := hK101
 dsimp only [aft] at h
 refine Jp (Je [2, 2] R (Jb 2 R (Ju (Ja2 (l := [.tmp 8]) V151 (Jp2 R R) R ?_))))
 cases h
 exact ⟨(fun b => ren [(3, 2)] (K104 b)), ab, aa, (by simp only [hn108]), ((hE.stp (S3.tr (S7.tr (S11.tr (S15.tr (S22.tr S105))))) R R).map (ren [(3, 2)]) R R), (f107.map (ren [(3, 2)]) R R)⟩
theorem i_ParityOk_ok {w : World} {κ : Col} {ae ad ac af aa ab} {p0 : Parity} (g0_0_0 : Rd (Rp.int .i64) κ w 0 ae ad p0.Arena.Owner) (g0_0_1 : Rd (Rp.sl (Rp.int .i64)) κ w 0 ac af p0.Arena.Next) (g0_1 : Rd (Rp.int .i64) κ w 0 aa ab p0.Prio) {r : Bool} (h : i_ParityOk p0 = some r) : Ret Tryz.prog 54 [.agg #[.slice ae p0.Arena.Owner.length ad, .slice ac p0.Arena.Next.length af, .slice aa p0.Prio.length ab]] w (fun v w' => ∃ (κ' : Col), v = .bool r ∧ Ent κ w κ' w') := by
 unfold i_ParityOk at h
 refine Ret.enter F54 R N54 R ?_
 dsimp only [envOf]
 have hE := Ent.refl κ w
 refine Je [1, 2] R (Jf1 (κ := κ) 2 R R R R R R R fun b1 w1 K2 S3 f4 => ⟨tv, Jb 1 R (Jq (Je [2, 1, 1, 2, 2, 2, 1, 2, 2, 2, 1, 2, 2, 2] R (Jf R (Jb2 U39 R Z37 R R) (Jl tv R R R R (Jd2 (cs := [.slice ae p0.Arena.Owner.length ad, .slice ac p0.Arena.Next.length af]) I37 Z37 R R R (haE (f4.lds 0 2 R))) (Ob h fun x7 hx7 h => Jh R R R C94 (i_ArenaOk_ok (κ := fun b => mp [] 0 (K2 b)) (p0 := p0.Arena) (Jl2 (g0_0_0.stp S3 R R) (mp [] 0) R R) (Jl2 (g0_0_1.stp S3 R R) (mp [] 0) R R) hx7) ?_)))))⟩)
 rintro _ w7 ⟨k8, rfl, e9⟩
 obtain ⟨K10, S11, m12⟩ := Ji e9 3 R
 refine ⟨tv, Jn 2 R (Ob h fun p18 h hK14 => Ju1 [(5, 2), (6, 1), (7, 2), (8, 2), (9, 2), (10, 1), (11, 2), (12, 2), (13, 2)] [] (fun L w' => L = [(1, .pointer (some ⟨b1, 0, none⟩)), (18, .bool p18)] ∧ ∃ κ', Stp [] K10 w7 κ' w') tv ?_ ?_)⟩
 revert h
 cases ht15 : (!x7)
 refine JF fun h => Jf R (Jb2 U39 R Z22 R R) ?_
 have f16 := f4.stp S11 R R
 refine Jl tv R R R R (Jc2 I22 R R (hvE (f16.ld 2 R R))) (Jf R (Je2 U22 R R) (Jf R (Jb2 U39 R Z37 R R) (Jf R (Jb2 U37 R Z22 R R) (Jl tv R R R R (Jc2 I22 R R (hvE (f16.ld 0 R R))) (Jf R (Je2 U22 R R) (Jn 2 R ?_))))))
 cases h
 exact Jv1 _ tv ⟨R, _, (Jx2 _ _).wk R⟩ (KM R)
 refine JT fun h => Jn 1 R (Jd1 R R R R (Jn 3 R (Jd1 R R R R (Jn 3 R ?_))))
 cases h
 exact Jv1 _ tv ⟨R, _, (Jx2 _ _).wk R⟩ (KM R)
 rintro _ w17 _ ⟨rfl, K18, S19⟩
 have h := hK14
 refine Jd ?_
 revert h
 cases ht20 : p18
 refine JF fun h => Jy R (Js (Jp (Jq (Je [2, 1, 2, 2] R (Jf R (Jb2 U39 R Z22 R R) (Jl tv R R R R (Jc2 I22 R R (hvE ((f4.stp (S11.tr S19) R R).ld 2 R R))) (Jf R (Je2 U22 R R) (Jb 1 R ?_))))))))
 have hN23 : (p0.Prio.length : Int) ≤ 9223372036854775807 := g0_1.len_le
 refine Ob h fun q2 hq25 hK24 => ?_
 clear h
 refine Jx1 (fun L w' => ∃ κ', L = [] ∧ Stp [] K18 w17 κ' w' ∧ q2 = Sum.inr ()) ?_ ?_
 refine Jv (Jy1 (fun k L w' => ∃ κ' v22, L = [(20, .slice aa p0.Prio.length ab), (21, vi (p0.Prio.length : Int)), (22, vi v22)] ∧ Stp [] K18 w17 κ' w' ∧ 0 ≤ v22 ∧ Int.toNat ((p0.Prio.length : Int) - v22) = k ∧ cntM (i_ParityOk_b0 p0) k v22 () = some q2) ⟨_, _, ⟨K18, 0, R, (Jx2 _ _).wk R, (by decide), (by simp), hq25⟩, (KM R)⟩ ?_)
 rintro k _ w29 ⟨K30, v22, rfl, S31, hj23, hJ23, h⟩
 rcases k with _ | k
 have hk32 := h; obtain ⟨o23, h⟩ := ex_eq (Sum.inr (Sum.inl ()) : Bool ⊕ ((Unit) ⊕ (Unit)))
 have hc23 : decide (v22 < (p0.Prio.length : Int)) = false := Jo2 (by omega)
 refine Je [2] R (Jb 1 R (Jq (Jw2 R hc23 (Jc1 (Jt (Jt ?_))))))
 cases h
 have h := hk32
 refine Jb1 ?_
 cases h
 exact Jw1 _ ⟨K30, R, S31.wk R, R⟩ KN
 obtain ⟨o23, h, hk32⟩ := BI h; unfold i_ParityOk_b0 at h
 have hc23 : decide (v22 < (p0.Prio.length : Int)) = true := Jn2 (by omega)
 refine Je [2] R (Jb 1 R (Jq (Jv2 R hc23 (Js (Jp (Jq (Jv (Je [2, 1, 2] R (Ob h fun x24 hx24 h => Jf R (Jf2 g0_1 hx24 U22 Z2 R R R R) (Jl tv R R R R (Jc2 I2 R R (hvE ((g0_1.stp (S3.tr (S11.tr (S19.tr S31))) R R).gInt hx24))) (Jb 1 R (Je [2, 2, 2, 2, 2, 2] R (Jn 3 R (Ob h fun p31 h hK34 => Ju1 [(3, 2), (4, 2), (5, 2)] [] (fun L w' => L = [(20, .slice aa p0.Prio.length ab), (21, vi (p0.Prio.length : Int)), (22, vi v22), (31, .bool p31)] ∧ ∃ κ', Stp [] K30 w29 κ' w') tv ?_ ?_))))))))))))))
 revert h
 cases ht35 : decide (x24 < 0)
 refine JF fun h => Jn 3 R ?_
 cases h
 exact Jv1 _ tv ⟨R, _, (Jx2 _ _).wk R⟩ (KM R)
 refine JT fun h => Jn 3 R ?_
 cases h
 exact Jv1 _ tv ⟨R, _, (Jx2 _ _).wk R⟩ (KM R)
 rintro _ w36 _ ⟨rfl, K37, S38⟩
 have h := hK34
 refine Jd ?_
 revert h
 cases ht39 : p31
 refine JF fun h => Jy R (Js (Jz (Jp (Ja [2, 2] R (Jc 2 R ?_)))))
 have hw23 : IntKind.wrap .i64 (v22 + 1) = v22 + 1 := wr1 hj23 (Jm2 hc23) hN23
 rw [hw23]
 have hc23 := Jm2 hc23
 cases h
 exact Jz1 fun a ha => ⟨k, _, Ja3 _, ⟨K37, v22 + 1, R, (S31.tr S38).wk R, by omega, by omega, hk32⟩, (ha.mm R)⟩
 refine JT fun h => Jx R (Je [2] R (Jb 1 R (Ju (Ja1 (Jw (Jw ?_))))))
 cases h
 obtain rfl := Option.some.inj hk32
 have h := hK24
 dsimp only [aft] at h
 refine Ja1 (Jq2 (Jw (Ja2 (l := [.tmp 2]) V54 (Jp2 R R) R ?_)))
 cases h
 exact ⟨K37, R, (hE.stp (S3.tr (S11.tr (S19.tr (S31.tr S38)))) R R)⟩
 rintro _ w26 ⟨K27, rfl, S28, rfl⟩
 have h := hK24
 dsimp only [aft] at h
 refine Jp (Je [2] R (Jb 1 R (Ju (Ja2 (l := [.tmp 2]) V54 (Jp2 R R) R ?_))))
 cases h
 exact ⟨K27, R, (hE.stp (S3.tr (S11.tr (S19.tr S28))) R R)⟩
 refine JT fun h => Jx R (Je [2] R (Jb 1 R (Ju (Jw (Ja2 (l := [.tmp 2]) V54 (Jp2 R R) R ?_)))))
 cases h
 exact ⟨K18, R, (hE.stp (S3.tr (S11.tr S19)) R R)⟩
theorem i_isEdit_ok {w : World} {κ : Col} {ac ab aa ad ae af} {p0 : Parity} {p1 : Edit} (g0_0_0 : Rd (Rp.int .i64) κ w 0 ac ab p0.Arena.Owner) (g0_0_1 : Rd (Rp.sl (Rp.int .i64)) κ w 0 aa ad p0.Arena.Next) (g0_1 : Rd (Rp.int .i64) κ w 0 ae af p0.Prio) {r : Bool} (h : i_isEdit p0 p1 = some r) : Ret Tryz.prog 42 [.agg #[.slice ac p0.Arena.Owner.length ab, .slice aa p0.Arena.Next.length ad, .slice ae p0.Prio.length af], .agg #[vi p1.Kind, vi p1.V, vi p1.N]] w (fun v w' => ∃ (κ' : Col), v = .bool r ∧ Ent κ w κ' w') := by
 unfold i_isEdit at h
 refine Ret.enter F42 R N42 R ?_
 dsimp only [envOf]
 have hE := Ent.refl κ w
 refine Je [1, 1, 2] R (Jf1 (κ := κ) 2 R R R R R R R fun b2 w1 K2 S3 f4 => ⟨tv, Jf1 (κ := K2) 3 R R R R R R R fun b3 w5 K6 S7 f8 => ⟨tv, Jb 1 R (Jq (Je [2, 1, 2, 1, 1, 2] R (Jf R (Jb2 U39 R Z37 R R) ?_)))⟩⟩)
 have f9 := f4.stp S7 R R
 refine Jl tv R R R R (Jd2 (cs := [.slice ac p0.Arena.Owner.length ab, .slice aa p0.Arena.Next.length ad]) I37 Z37 R R R (haE (f9.lds 0 2 R))) (Jf R (Jb2 U42 R Z2 R R) (Jl tv R R R R (Jc2 I2 R R (hvE (f8.ld 1 R R))) (Ob h fun x10 hx10 h => ?_)))
 have f10 := g0_0_0.stp (S3.tr S7) R R
 have f11 := g0_0_1.stp (S3.tr S7) R R
 refine Jh R R R C84 (i_hasVertex_ok (κ := fun b => mp [] 0 (K6 b)) (p0 := p0.Arena) (Jl2 f10 (mp [] 0) R R) (Jl2 f11 (mp [] 0) R R) hx10) ?_
 rintro _ w12 ⟨k13, rfl, e14⟩
 obtain ⟨K15, S16, m17⟩ := Ji e14 4 R
 refine ⟨tv, Jb 1 R ?_⟩
 revert h
 cases ht19 : (!x10)
 refine JF fun h => Jy R (Js (Jp (Je [2, 2, 1, 2, 1, 2, 1, 2] R (Jf R (Jb2 U39 R Z37 R R) (Jf R (Jb2 U37 R Z23 R R) ?_)))))
 have f21 := f9.stp S16 R R
 refine Jl tv R R R R (Jc2 I23 R R (hvE (f21.ld 1 R R))) (Jf R (Jb2 U42 R Z2 R R) ?_)
 have f22 := f8.stp S16 R R
 refine Jl tv R R R R (Jc2 I2 R R (hvE (f22.ld 1 R R))) (Ob h fun x17 hx17 h => Jf R (Jf2 f11 hx17 U23 Z22 R R R R) ?_)
 have f23 := f11.stp S16 R R
 obtain ⟨ax17, ux17, f24, hl25⟩ := f23.gSl hx17
 refine Jl tv R R R R (Jc2 I22 R R (hvE hl25)) (Jb 1 R (Jq (Je [2, 1] R (Jf R (Jb2 U42 R Z2 R R) (Jl tv R R R R (Jc2 I2 R R (hvE (f22.ld 0 R R))) (Jd (Jv (Je [2, 2] R (Jb 2 R ?_)))))))))
 revert h
 cases ht26 : (p1.Kind == 1)
 refine JF fun h => Jy R (Je [2, 2] R (Jb 2 R ?_))
 revert h
 cases ht33 : (p1.Kind == 2)
 refine JF fun h => Jy R (Je [2, 2] R (Jb 2 R ?_))
 revert h
 cases ht42 : (p1.Kind == 3)
 refine JF fun h => Jy R (Je [2, 2] R (Jb 2 R ?_))
 revert h
 cases ht71 : (p1.Kind == 4)
 refine JF fun h => Jy R (Js (Jz (Jp (Je [2] R (Jb 1 R (Ju (Ja2 (l := [.tmp 4]) V42 (Jp2 R R) R ?_)))))))
 cases h
 exact ⟨K15, R, (hE.stp (S3.tr (S7.tr S16)) R R)⟩
 refine JT fun h => Jx R (Je [2, 2, 1, 1, 2, 2, 2, 2, 2, 2] R (Jn 1 R (Jf R (Jb2 U42 R Z2 R R) (Jl tv R R R R (Jc2 I2 R R (hvE (f22.ld 2 R R))) (Ob h fun x60 hx60 h => Jh R R R C86 (slices_Contains_I_int64_ok (κ := fun b => mp [] 0 (K15 b)) (Jl2 f24 (mp [] 0) R R) hx60) ?_)))))
 rintro _ w72 ⟨k73, rfl, e74⟩
 obtain ⟨K75, S76, m77⟩ := Ji e74 6 R
 refine ⟨tv, Jn 1 R (Ob h fun p65 h hK79 => Ju1 [(5, 2), (6, 2), (7, 2), (8, 2)] [(9, 2)] (fun L w' => L = [(4, .bool false), (65, .bool p65)] ∧ ∃ κ', Stp [] K75 w72 κ' w') tv ?_ ?_)⟩
 revert h
 cases ht80 : x60
 refine JF fun h => Jn 4 R ?_
 cases h
 exact Jv1 _ tv ⟨R, _, (Jx2 _ _).wk R⟩ (KM R)
 refine JT fun h => Jn 1 R (Jf R (Je2 U22 R R) (Jn 2 R ?_))
 cases h
 exact Jv1 _ tv ⟨R, _, (Jx2 _ _).wk R⟩ (KM R)
 rintro _ w81 _ ⟨rfl, K82, S83⟩
 have h := hK79
 refine Jb 1 R (Ju (Ja1 (Jw (Ja2 (l := [.tmp 4]) V42 (Jp2 R R) R ?_))))
 cases h
 exact ⟨K82, R, (hE.stp (S3.tr (S7.tr (S16.tr (S76.tr S83)))) R R)⟩
 refine JT fun h => Jx R (Je [2, 1, 2, 1, 1, 2, 2, 2, 1, 1, 2, 2, 2, 2, 2, 2, 2, 2] R (Jf R (Jb2 U39 R Z37 R R) (Jl tv R R R R (Jd2 (cs := [.slice ac p0.Arena.Owner.length ab, .slice aa p0.Arena.Next.length ad]) I37 Z37 R R R (haE (f21.lds 0 2 R))) (Jf R (Jb2 U42 R Z2 R R) (Jl tv R R R R (Jc2 I2 R R (hvE (f22.ld 2 R R))) (Ob h fun x42 hx42 h => Jh R R R C84 (i_hasVertex_ok (κ := fun b => mp [] 0 (K15 b)) (p0 := p0.Arena) (Jl2 (f10.stp S16 R R) (mp [] 0) R R) (Jl2 f23 (mp [] 0) R R) hx42) ?_))))))
 rintro _ w44 ⟨k45, rfl, e46⟩
 obtain ⟨K47, S48, m49⟩ := Ji e46 6 R
 refine ⟨tv, Jn 1 R (Ob h fun p49 h hK51 => Ju1 [(6, 2), (7, 2), (8, 1), (9, 1), (10, 2), (11, 2)] [(12, 2), (13, 2), (14, 2), (15, 2), (16, 2), (17, 2)] (fun L w' => L = [(4, .bool false), (5, .slice ax17 x17.length ux17), (49, .bool p49)] ∧ ∃ κ', Stp [] K47 w44 κ' w') tv ?_ ?_)⟩
 revert h
 cases ht52 : x42
 refine JF fun h => Jn 2 R (Jd1 R R R R (Jd1 R R R R (Jn 2 R ?_)))
 cases h
 exact Jv1 _ tv ⟨R, _, (Jx2 _ _).wk R⟩ (KM R)
 refine JT fun h => Jn 1 R (Jf R (Jb2 U42 R Z2 R R) (Jl tv R R R R (Jc2 I2 R R (hvE ((f22.stp S48 R R).ld 2 R R))) (Ob h fun x47 hx47 h => Jh R R R C86 (slices_Contains_I_int64_ok (κ := fun b => mp [] 0 (K47 b)) (Jl2 (f24.stp S48 R R) (mp [] 0) R R) hx47) ?_)))
 rintro _ w55 ⟨k56, rfl, e57⟩
 obtain ⟨K58, S59, m60⟩ := Ji e57 8 R
 refine ⟨tv, Jn 2 R ?_⟩
 cases h
 exact Jv1 _ tv ⟨R, _, S59.wk R⟩ (KM R)
 rintro _ w62 _ ⟨rfl, K63, S64⟩
 have h := hK51
 refine Jn 1 R (Ob h fun p54 h hK65 => Ju1 [(13, 2), (14, 2), (15, 2), (16, 2)] [(17, 2)] (fun L w' => L = [(4, .bool false), (54, .bool p54)] ∧ ∃ κ', Stp [] K63 w62 κ' w') tv ?_ ?_)
 revert h
 cases ht66 : p49
 refine JF fun h => Jn 4 R ?_
 cases h
 exact Jv1 _ tv ⟨R, _, (Jx2 _ _).wk R⟩ (KM R)
 refine JT fun h => Jn 1 R (Jf R (Je2 U22 R R) (Jn 2 R ?_))
 cases h
 exact Jv1 _ tv ⟨R, _, (Jx2 _ _).wk R⟩ (KM R)
 rintro _ w67 _ ⟨rfl, K68, S69⟩
 have h := hK65
 refine Jb 1 R (Ju (Ja1 (Jw (Ja2 (l := [.tmp 4]) V42 (Jp2 R R) R ?_))))
 cases h
 exact ⟨K68, R, (hE.stp (S3.tr (S7.tr (S16.tr (S48.tr (S64.tr S69))))) R R)⟩
 refine JT fun h => Jx R (Je [2, 1, 1, 2] R (Jf R (Jb2 U42 R Z2 R R) (Jl tv R R R R (Jc2 I2 R R (hvE (f22.ld 2 R R))) (Ob h fun x35 hx35 h => Jh R R R C85 (i_isPlayer_ok (κ := fun b => mp [] 0 (K15 b)) hx35) ?_))))
 rintro _ w34 ⟨k35, rfl, e36⟩
 obtain ⟨K37, S38, m39⟩ := Ji e36 6 R
 refine ⟨tv, Jb 1 R (Ju (Ja1 (Jw (Ja2 (l := [.tmp 4]) V42 (Jp2 R R) R ?_))))⟩
 cases h
 exact ⟨K37, R, (hE.stp (S3.tr (S7.tr (S16.tr S38))) R R)⟩
 refine JT fun h => Jx R (Je [2, 1, 2, 2, 2, 1, 2, 2, 2] R (Jf R (Jb2 U42 R Z2 R R) (Jl tv R R R R (Jc2 I2 R R (hvE (f22.ld 2 R R))) (Jn 2 R (Ob h fun p30 h hK27 => Ju1 [(4, 2), (5, 1), (6, 2), (7, 2)] [(8, 2)] (fun L w' => L = [(4, .bool false), (30, .bool p30)] ∧ ∃ κ', Stp [] K15 w12 κ' w') tv ?_ ?_)))))
 revert h
 cases ht28 : decide (0 ≤ p1.N)
 refine JF fun h => Jn 1 R (Jd1 R R R R (Jn 2 R ?_))
 cases h
 exact Jv1 _ tv ⟨R, _, (Jx2 _ _).wk R⟩ (KM R)
 refine JT fun h => Jf R (Jb2 U42 R Z2 R R) (Jl tv R R R R (Jc2 I2 R R (hvE (f22.ld 2 R R))) (Jn 2 R ?_))
 cases h
 exact Jv1 _ tv ⟨R, _, (Jx2 _ _).wk R⟩ (KM R)
 rintro _ w29 _ ⟨rfl, K30, S31⟩
 have h := hK27
 refine Jb 1 R (Ju (Ja1 (Jw (Ja2 (l := [.tmp 4]) V42 (Jp2 R R) R ?_))))
 cases h
 exact ⟨K30, R, (hE.stp (S3.tr (S7.tr (S16.tr S31))) R R)⟩
 refine JT fun h => Jx R (Je [2] R (Jb 1 R (Ju (Jw (Ja2 (l := [.tmp 4]) V42 (Jp2 R R) R ?_)))))
 cases h
 exact ⟨K15, R, (hE.stp (S3.tr (S7.tr S16)) R R)⟩
theorem i_copyParity_ok {w : World} {κ : Col} {ao an am al ap aq} {p0 : Parity} (g0_0_0 : Rd (Rp.int .i64) κ w 0 ao an p0.Arena.Owner) (g0_0_1 : Rd (Rp.sl (Rp.int .i64)) κ w 0 am al p0.Arena.Next) (g0_1 : Rd (Rp.int .i64) κ w 0 ap aq p0.Prio) {r : Parity} (h : i_copyParity p0 = some r) : Ret Tryz.prog 72 [.agg #[.slice ao p0.Arena.Owner.length an, .slice am p0.Arena.Next.length al, .slice ap p0.Prio.length aq]] w (fun v w' => ∃ (κ' : Col) (ra0 : Option Addr) (ru0 : Nat) (ra1 : Option Addr) (ru1 : Nat) (ra2 : Option Addr) (ru2 : Nat), v = .agg #[.slice ra0 r.Arena.Owner.length ru0, .slice ra1 r.Arena.Next.length ru1, .slice ra2 r.Prio.length ru2] ∧ Ent κ w κ' w' ∧ Oc E6 2 κ' w' 2 ra0 ru0 r.Arena.Owner ∧ Oc (Ep.own E6 2) 22 κ' w' 3 ra1 ru1 r.Arena.Next ∧ Oc E6 2 κ' w' 4 ra2 ru2 r.Prio) := by
 unfold i_copyParity at h
 refine Ret.enter F72 R N72 R ?_
 dsimp only [envOf]
 have hE := Ent.refl κ w
 refine Je [1, 1] R (Jf1 (κ := κ) 2 R R R R R R R fun b1 w1 K2 S3 f4 => ⟨tv, Jg1 (κ := K2) 3 R R R R R X39 R fun b2 w5 K6 S7 f8 => ⟨tv, Jd (Jq (Ob h fun x5 hx5 h => Ob h fun x9 hx9 h => Jx1 (fun L w' => ∃ κ' ah ae ai ak aj af, L = [(2, .pointer (some ⟨b2, 0, none⟩))] ∧ Stp [3, 4, 6, 7, 8] K6 w5 κ' w' ∧ Oc E6 2 κ' w' 4 ah ae x5.Owner ∧ Oc (Ep.own E6 2) 22 κ' w' 5 ai ak x5.Next ∧ Oc E6 2 κ' w' 6 aj af x9 ∧ Bc κ' w' 3 b2 39 [.slice ah x5.Owner.length ae, .slice ai x5.Next.length ak, .slice aj x9.length af]) ?_ ?_))⟩⟩)
 refine WC.rxt (κ := K6) [2] none (by kernel_rfl) fun w17 S18 => Jq1 (fuel := 5) [(0, 2), (4, 2), (1, 0), (5, 0)] (by kernel_rfl) (by kernel_rfl) R (Jf R (Jb2 U39 R Z37 R R) (Jf R (Jb2 U39 R Z22 R R) ?_))
 have f19 := f4.stp (S7.tr S18) R R
 refine Jg R (Jd2 (cs := [.slice ao p0.Arena.Owner.length an, .slice am p0.Arena.Next.length al]) I37 Z37 R R R (haC (f19.lds 0 2 R) R)) (Jg R (Jc2 I22 R R (hvC (f19.ld 2 R R) R)) (Jp1 (WA.fork2 (fuel := 4) 2 3 (by kernel_rfl) R ?_ ?_)))
 refine Jh R R R C112 (i_copyArena_ok (κ := fun b => mp [] 0 (K6 b)) (p0 := p0.Arena) (Jl2 (g0_0_0.stp (S3.tr (S7.tr S18)) R R) (mp [] 0) R R) (Jl2 (g0_0_1.stp (S3.tr (S7.tr S18)) R R) (mp [] 0) R R) hx5) ?_
 rintro _ w22 ⟨k23, aa, ab, ac, ad, rfl, e24, f25, f26⟩
 obtain ⟨K27, S28, m29⟩ := Ji e24 4 R
 exact ⟨(S28.cl R), Jp1 (Jq1 (fuel := 0) [(3, 1), (6, 1), (7, 2), (8, 1)] (by kernel_rfl) (by kernel_rfl) R (Jo1 (κ := K27) (E := E6) 8 R R R R R Y22 Tryzinfo2 R fun a6 u6 w33 K34 S35 f36 => ⟨((S28.tr S35).cl R), Jm1 (κ := K34) (E := E6) 8 [] R R R R R R R R R Y22 Tryzinfo2 R R R R f36 (Sl.srcP (pu_int _) (g0_1.stp (S3.tr (S7.tr (S18.tr (S28.tr S35)))) R R)) sy_false hx9 R fun a9 u9 w38 K39 S40 f41 => ⟨((S28.tr (S35.tr S40)).cl R), Jf R (rn_build (parts := [(0, .tmp 5), (1, .tmp 9)]) (cells := [.slice aa x5.Owner.length ab, .slice ac x5.Next.length ad, .slice a9 x9.length u9]) R R (by kernel_rfl)) (Jj1 (κ := K39) 3 (vc := [.slice aa x5.Owner.length ab, .slice ac x5.Next.length ad, .slice a9 x9.length u9]) R R R R R R R Z39 R R (f8.stp (S18.tr (S28.tr (S35.tr S40))) R R) R fun w43 S44 f45 => ⟨((S28.tr (S35.tr (S40.tr S44))).cl R), Jp1 (Jr1 [] (by kernel_rfl) (by kernel_rfl) R (Jo (Jw1 _ ⟨(fun b => ren [(6, 4), (7, 5), (8, 6)] (K39 b)), aa, ab, ac, ad, a9, u9, R, (Jy2 ((S18.tr (S28.tr (S35.tr (S40.tr S44)))).wk R) [(6, 4), (7, 5), (8, 6)] R), (((f25.mx (no_int _) m29 R (R : 4 + 2 = 6)).stp (S35.tr (S40.tr S44)) R R).map (ren [(6, 4), (7, 5), (8, 6)]) R R), (((f26.mx (no_own (no_int _) _) m29 R (R : 4 + 3 = 7)).stp (S35.tr (S40.tr S44)) R R).map (ren [(6, 4), (7, 5), (8, 6)]) R R), ((f41.stp S44 R R).map (ren [(6, 4), (7, 5), (8, 6)]) R R), (f45.map (ren [(6, 4), (7, 5), (8, 6)]) R R)⟩ (KM R))))⟩)⟩⟩))⟩
 refine Jo1 (κ := K6) (E := E6) 4 R R R R R Y22 Tryzinfo2 R fun a6 u6 w49 K50 S51 f52 => ⟨(S51.cl R), Jp1 (Jq1 (fuel := 0) [(2, 1), (6, 1), (7, 2), (8, 1)] (by kernel_rfl) (by kernel_rfl) R (Jh R R R C112 (i_copyArena_ok (κ := fun b => mp [] 0 (K50 b)) (p0 := p0.Arena) (Jl2 (g0_0_0.stp (S3.tr (S7.tr (S18.tr S51))) R R) (mp [] 0) R R) (Jl2 (g0_0_1.stp (S3.tr (S7.tr (S18.tr S51))) R R) (mp [] 0) R R) hx5) ?_))⟩
 rintro _ w55 ⟨k56, aa, ab, ac, ad, rfl, e57, f58, f59⟩
 obtain ⟨K60, S61, m62⟩ := Ji e57 5 R
 exact ⟨((S51.tr S61).cl R), Jm1 (κ := K60) (E := E6) 4 [] R R R R R R R R R Y22 Tryzinfo2 R R R R (f52.stp S61 R R) (Sl.srcP (pu_int _) (g0_1.stp (S3.tr (S7.tr (S18.tr (S51.tr S61)))) R R)) sy_false hx9 R fun a9 u9 w68 K69 S70 f71 => ⟨((S51.tr (S61.tr S70)).cl R), Jf R (rn_build (parts := [(0, .tmp 5), (1, .tmp 9)]) (cells := [.slice aa x5.Owner.length ab, .slice ac x5.Next.length ad, .slice a9 x9.length u9]) R R (by kernel_rfl)) (Jj1 (κ := K69) 3 (vc := [.slice aa x5.Owner.length ab, .slice ac x5.Next.length ad, .slice a9 x9.length u9]) R R R R R R R Z39 R R (f8.stp (S18.tr (S51.tr (S61.tr S70))) R R) R fun w73 S74 f75 => ⟨((S51.tr (S61.tr (S70.tr S74))).cl R), Jp1 (Jr1 [] (by kernel_rfl) (by kernel_rfl) R (Jo (Jw1 _ ⟨(fun b => ren [(7, 4), (8, 5), (4, 6)] (K69 b)), aa, ab, ac, ad, a9, u9, R, (Jy2 ((S18.tr (S51.tr (S61.tr (S70.tr S74)))).wk R) [(7, 4), (8, 5), (4, 6)] R), (((f58.mx (no_int _) m62 R (R : 5 + 2 = 7)).stp (S70.tr S74) R R).map (ren [(7, 4), (8, 5), (4, 6)]) R R), (((f59.mx (no_own (no_int _) _) m62 R (R : 5 + 3 = 8)).stp (S70.tr S74) R R).map (ren [(7, 4), (8, 5), (4, 6)]) R R), ((f71.stp S74 R R).map (ren [(7, 4), (8, 5), (4, 6)]) R R), (f75.map (ren [(7, 4), (8, 5), (4, 6)]) R R)⟩ (KM R))))⟩)⟩⟩
 rintro _ w9 ⟨K10, ah, ae, ai, ak, aj, af, rfl, S11, f13, f14, f15, f16⟩
 refine Jp (Ju (Ja2 (l := [.cell 2 39]) V72 (res_cellA R f16 I39 Z39 R R) R ?_))
 cases h
 exact ⟨(fun b => ren [(4, 2), (5, 3), (6, 4)] (K10 b)), ah, ae, ai, ak, aj, af, R, ((hE.stp (S3.tr (S7.tr S11)) R R).map (ren [(4, 2), (5, 3), (6, 4)]) R R), (f13.map (ren [(4, 2), (5, 3), (6, 4)]) R R), (f14.map (ren [(4, 2), (5, 3), (6, 4)]) R R), (f15.map (ren [(4, 2), (5, 3), (6, 4)]) R R)⟩
theorem l_eqArena_ok {w : World} {κ : Col} {ai ab aa af} {p0 : Arena} {ac ah ad ae} {p1 : Arena} (g0_0 : Rd (Rp.int .i64) κ w 0 ai ab p0.Owner) (g0_1 : Rd (Rp.sl (Rp.int .i64)) κ w 0 aa af p0.Next) (g1_0 : Rd (Rp.int .i64) κ w 0 ac ah p1.Owner) (g1_1 : Rd (Rp.sl (Rp.int .i64)) κ w 0 ad ae p1.Next) {r : Bool} (h : l_eqArena p0 p1 = some r) : Ret Tryz.prog 48 [.agg #[.slice ai p0.Owner.length ab, .slice aa p0.Next.length af], .agg #[.slice ac p1.Owner.length ah, .slice ad p1.Next.length ae]] w (fun v w' => ∃ (κ' : Col), v = .bool r ∧ Ent κ w κ' w') := by
 unfold l_eqArena at h
 refine Ret.enter F48 R N48 R ?_
 dsimp only [envOf]
 have hE := Ent.refl κ w
 refine Je [1, 1, 2] R (Jf1 (κ := κ) 2 R R R R R R R fun b2 w1 K2 S3 f4 => ⟨tv, Jf1 (κ := K2) 3 R R R R R R R fun b3 w5 K6 S7 f8 => ⟨tv, Jb 1 R (Jq (Je [2, 1, 2, 1, 1, 2] R (Jf R (Jb2 U37 R Z22 R R) ?_)))⟩⟩)
 have f9 := f4.stp S7 R R
 refine Jl tv R R R R (Jc2 I22 R R (hvE (f9.ld 0 R R))) (Jf R (Jb2 U37 R Z22 R R) (Jl tv R R R R (Jc2 I22 R R (hvE (f8.ld 0 R R))) (Ob h fun x9 hx9 h => Jh R R R C47 (l_eqInt64S_ok (κ := fun b => mp [] 0 (K6 b)) (Jl2 (g0_0.stp (S3.tr S7) R R) (mp [] 0) R R) (Jl2 (g1_0.stp (S3.tr S7) R R) (mp [] 0) R R) hx9) ?_)))
 rintro _ w12 ⟨k13, rfl, e14⟩
 obtain ⟨K15, S16, m17⟩ := Ji e14 4 R
 refine ⟨tv, Jb 1 R ?_⟩
 revert h
 cases ht19 : (!x9)
 refine JF fun h => Jy R (Js (Jp (Jq (Je [2, 1, 2, 1, 1, 2] R (Jf R (Jb2 U37 R Z23 R R) (Jl tv R R R R (Jc2 I23 R R (hvE ((f9.stp S16 R R).ld 1 R R))) (Jf R (Jb2 U37 R Z23 R R) (Jl tv R R R R (Jc2 I23 R R (hvE ((f8.stp S16 R R).ld 1 R R))) (Ob h fun x15 hx15 h => Jh R R R C92 (l_eqInt64SS_ok (κ := fun b => mp [] 0 (K15 b)) (Jl2 (g0_1.stp (S3.tr (S7.tr S16)) R R) (mp [] 0) R R) (Jl2 (g1_1.stp (S3.tr (S7.tr S16)) R R) (mp [] 0) R R) hx15) ?_)))))))))
 rintro _ w25 ⟨k26, rfl, e27⟩
 obtain ⟨K28, S29, m30⟩ := Ji e27 6 R
 refine ⟨tv, Jb 1 R ?_⟩
 revert h
 cases ht32 : (!x15)
 refine JF fun h => Jy R (Js (Jp (Je [2] R (Jb 1 R (Ju (Ja2 (l := [.tmp 4]) V48 (Jp2 R R) R ?_))))))
 cases h
 exact ⟨K28, R, (hE.stp (S3.tr (S7.tr (S16.tr S29))) R R)⟩
 refine JT fun h => Jx R (Je [2] R (Jb 1 R (Ju (Jw (Ja2 (l := [.tmp 4]) V48 (Jp2 R R) R ?_)))))
 cases h
 exact ⟨K28, R, (hE.stp (S3.tr (S7.tr (S16.tr S29))) R R)⟩
 refine JT fun h => Jx R (Je [2] R (Jb 1 R (Ju (Jw (Ja2 (l := [.tmp 4]) V48 (Jp2 R R) R ?_)))))
 cases h
 exact ⟨K15, R, (hE.stp (S3.tr (S7.tr S16)) R R)⟩
theorem l_markArena_ok {w : World} {κ : Col} {ab aa ad ac} {p0 : Arena} {p1 : Int} (g0_0 : Oc E6 2 κ w 2 ab aa p0.Owner) (g0_1 : Oc (Ep.own E6 2) 22 κ w 3 ad ac p0.Next) {r : Int × (List Int) × (List (List Int))} (h : l_markArena p0 p1 = some r) : Ret Tryz.prog 49 [.agg #[.slice ab p0.Owner.length aa, .slice ad p0.Next.length ac], vi p1] w (fun v w' => ∃ (κ' : Col), v = vi r.1 ∧ Ent κ w κ' w' ∧ Oc E6 2 κ' w' 2 ab aa r.2.1 ∧ p0.Owner.length = r.2.1.length ∧ Oc (Ep.own E6 2) 22 κ' w' 3 ad ac r.2.2 ∧ p0.Next.length = r.2.2.length) := by
 unfold l_markArena at h
 refine Ret.enter F49 R N49 R ?_
 dsimp only [envOf]
 have hE := Ent.refl κ w
 refine Je [1, 2] R (Jf1 (κ := κ) 4 R R R R R R R fun b2 w1 K2 S3 f4 => ⟨tv, Jb 1 R (Je [2, 1, 2, 1, 2] R (Jf R (Jb2 U37 R Z22 R R) (Jl tv R R R R (Jc2 I22 R R (hvE (f4.ld 0 R R))) (Jn 1 R (Ob h fun x8 hx8 h => Jh R R R C50 (l_markInt64S_ok (κ := fun b => mp [(2, 2)] 0 (K2 b)) ((g0_0.stp S3 R R).map (mp [(2, 2)] 0) R R) hx8) ?_)))))⟩)
 rintro _ w6 ⟨k7, rfl, e8, f9, hn10⟩
 obtain ⟨K11, S12, m13⟩ := Ji e8 5 R
 refine ⟨tv, Jb 1 R (Je [2, 1, 2, 1, 2] R (Jf R (Jb2 U37 R Z23 R R) (Jl tv R R R R (Jc2 I23 R R (hvE ((f4.stp S12 R R).ld 1 R R))) (Jn 1 R (Ob h fun x12 hx12 h => Jh R R R C93 (l_markInt64SS_ok (κ := fun b => mp [(3, 2)] 0 (K11 b)) ((g0_1.stp (S3.tr S12) R R).map (mp [(3, 2)] 0) R R) hx12) ?_)))))⟩
 rintro _ w18 ⟨k19, rfl, e20, f21, hn22⟩
 obtain ⟨K23, S24, m25⟩ := Ji e20 8 R
 refine ⟨tv, Jb 1 R (Je [2, 2] R (Jb 2 R (Ju (Ja2 (l := [.tmp 4]) V49 (Jp2 R R) R ?_))))⟩
 cases h
 exact ⟨(fun b => ren [(7, 2), (10, 3)] (K23 b)), R, ((hE.stp (S3.tr (S12.tr S24)) R R).map (ren [(7, 2), (10, 3)]) R R), (((f9.mx (no_int _) m13 R (R : 5 + 2 = 7)).stp S24 R R).map (ren [(7, 2), (10, 3)]) R R), (hn10), ((f21.mx (no_own (no_int _) _) m25 R (R : 8 + 2 = 10)).map (ren [(7, 2), (10, 3)]) R R), (hn22)⟩
end Go.Proofs.YtmiilifclnanlaaGreat
