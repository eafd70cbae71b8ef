/- The walks, part 1. By program. -/
import Derived.Test.YtgniipbjjkodaaaFnsC130
set_option linter.unusedVariables false
set_option linter.unusedSimpArgs false
namespace Go.Proofs.Ytgniipbjjkodaaa
open Go Go.Wk Go.Proofs
set_option maxRecDepth 100000
set_option maxHeartbeats 1000000

/- loop.example/g00869/laws.szInt64SS -/
theorem l_szInt64SS_ok {w : World} {κ : Col} {a0 : Option Addr} {u0 : Nat} {p0 : (List (List Int))} {p1 : Int} (g0 : Rd (Rp.sl (Rp.int .i64)) κ w 0 a0 u0 p0) {r : Int} (h : l_szInt64SS p0 p1 = some r) : Ret Try.prog 69 [.slice a0 p0.length u0, .int .i64 p1] w (fun v w' => ∃ (κ' : Col), v = .int .i64 r ∧ Ent κ w κ' w') := by
 unfold l_szInt64SS at h
 refine Ret.enter Try.func69 rfl Try.ntmps69 rfl ?_
 dsimp only [envOf]
 have hE := Ent.refl κ w
 refine WC.seq ?_
 refine WC.rs [(0, 2)] rfl ?_
 refine WO.pn 1 rfl ?_
 refine WO.fin ?_
 refine DN.seq ?_
 refine WC.seq ?_
 refine WC.rs [(0, 2), (1, 2), (2, 2), (3, 2), (4, 2)] rfl ?_
 refine WO.pn 2 rfl ?_
 refine WO.k2 rfl rfl rfl rfl (rn_len Try.runUnderlying25 rfl rfl) ?_
 refine WO.pn 2 rfl ?_
 refine WO.fin ?_
 refine DN.seq ?_
 refine WC.seq ?_
 refine WC.seq ?_
 refine WC.rs [(0, 2), (1, 2)] rfl ?_
 refine WO.pn 2 rfl ?_
 refine WO.fin ?_
 refine DN.seq ?_
 revert h
 cases ht1 : decide ((IntKind.i64.wrap (p1 - (p0.length : Int))) < 0) with
 | true =>
  intro h; replace h := cT h
  refine WC.ct rfl ?_
  refine WC.seq ?_
  refine WC.rs [(0, 2)] rfl ?_
  refine WO.pn 1 rfl ?_
  refine WO.fin ?_
  refine DN.seq ?_
  refine WC.ret ?_
  refine DN.retThen ?_
  refine DN.res (l := [.tmp 4]) Try.results69 (res_tmp rfl rfl) rfl ?_
  obtain rfl := Option.some.inj h
  exact ⟨κ, rfl, hE⟩
 | false =>
  intro h; replace h := cF h
  refine WC.cf rfl ?_
  refine WC.skip ?_
  refine DN.seq ?_
  refine WC.seq ?_
  refine WC.seq ?_
  refine WC.rs [(0, 2)] rfl ?_
  refine WO.pn 1 rfl ?_
  refine WO.fin ?_
  refine DN.seq ?_
  have hN2 : (p0.length : Int) ≤ 9223372036854775807 := g0.len_le
  obtain ⟨q2, hq4, hK3⟩ := Option.bind_eq_some_iff.mp h
  clear h
  refine WC.meet (fun L w' => ∃ (κ' : Col) (s3 : Int), L = [(1, .int .i64 s3)] ∧ Stp [] κ w κ' w' ∧ q2 = Sum.inr s3) ?_ ?_
  ·
   refine WC.block ?_
   refine WC.loop (fun k L w' => ∃ (κ' : Col) (v5 : Int) (s1 : Int), L = [(0, .slice a0 p0.length u0), (1, .int .i64 s1), (5, .int .i64 v5)] ∧ Stp [] κ w κ' w' ∧ 0 ≤ v5 ∧ Int.toNat ((p0.length : Int) - v5) = k ∧ cntM (l_szInt64SS_b0 p0) k v5 s1 = some q2) ⟨_, _, ⟨κ, 0, ((IntKind.i64.wrap (p1 - (p0.length : Int))) : Int), rfl, (Stp.refl _ _).wk rfl, (by decide), (by simp), hq4⟩, fun a ha => (ha.more (ha.more (ha.more ha.nil rfl) rfl) rfl)⟩ ?_
   rintro k _ w8 ⟨K9, v5, s1, rfl, S10, hj2, hJ2, h⟩
   rcases k with _ | k
   ·
    have hk11 := h; obtain ⟨o2, h⟩ := ex_eq (Sum.inr (Sum.inl s1) : Int ⊕ ((Int) ⊕ (Int)))
    have hc2 : decide (v5 < (p0.length : Int)) = false := decide_eq_false (by omega)
    refine WC.seq ?_
    refine WC.seq ?_
    refine WC.rs [(0, 2), (1, 2), (2, 2), (3, 2)] rfl ?_
    refine WO.pn 2 rfl ?_
    refine WO.k2 rfl rfl rfl rfl (rn_len Try.runUnderlying25 rfl rfl) ?_
    refine WO.pn 1 rfl ?_
    refine WO.fin ?_
    refine DN.seq ?_
    refine WC.cf' rfl hc2 ?_
    refine WC.exit ?_
    refine DN.exitThen ?_
    refine DN.exitThen ?_
    obtain rfl := Option.some.inj h
    have h := hk11
    refine DN.hit ?_
    obtain rfl := Option.some.inj h
    exact DN.meet _ ⟨K9, (s1 : Int), rfl, S10.wk rfl, rfl⟩ fun a ha => (ha.more ha.nil rfl)
   ·
    obtain ⟨o2, h, hk11⟩ := Option.bind_eq_some_iff.mp h; unfold l_szInt64SS_b0 at h
    have hc2 : decide (v5 < (p0.length : Int)) = true := decide_eq_true (by omega)
    refine WC.seq ?_
    refine WC.seq ?_
    refine WC.rs [(0, 2), (1, 2), (2, 2), (3, 2)] rfl ?_
    refine WO.pn 2 rfl ?_
    refine WO.k2 rfl rfl rfl rfl (rn_len Try.runUnderlying25 rfl rfl) ?_
    refine WO.pn 1 rfl ?_
    refine WO.fin ?_
    refine DN.seq ?_
    refine WC.ct' rfl hc2 ?_
    refine WC.skip ?_
    refine DN.seq ?_
    refine WC.seq ?_
    refine WC.block ?_
    refine WC.seq ?_
    refine WC.rs [(0, 2), (1, 2), (2, 2), (3, 1), (4, 2), (5, 1), (6, 2)] rfl ?_
    refine WO.pn 2 rfl ?_
    obtain ⟨x20, hx20, h⟩ := Option.bind_eq_some_iff.mp h
    refine WO.k2 rfl rfl rfl rfl (rn_index g0 hx20 Try.runUnderlying25 Try.sizeOf24 rfl rfl rfl rfl) ?_
    have f12 := g0.stp S10 rfl rfl
    obtain ⟨ax20, ux20, f13, hl14⟩ := f12.gSl hx20
    refine WO.k1 trivial rfl rfl rfl rfl (rn_ld Try.isAgg24 rfl rfl (hvE hl14)) ?_
    refine WO.pn 1 rfl ?_
    obtain ⟨x23, hx23, h⟩ := Option.bind_eq_some_iff.mp h
    refine WO.call rfl rfl rfl rfl rfl rfl Try.call68 (l_szInt64S_ok (κ := fun b => mp [] 0 (K9 b)) (Sl.map f13 (mp [] 0) rfl rfl) hx23) ?_
    rintro _ w15 ⟨k16, rfl, e17⟩
    obtain ⟨K18, S19, m20⟩ := Ent.mixed (l := []) (κ := K9) e17 2 rfl
    refine ⟨trivial, ?_⟩
    refine WO.pn 1 rfl ?_
    refine WO.fin ?_
    refine DN.seq ?_
    refine WC.seq ?_
    refine WC.rs [(0, 2), (1, 2)] rfl ?_
    refine WO.pn 2 rfl ?_
    refine WO.fin ?_
    refine DN.seq ?_
    revert h
    cases ht22 : decide (x23 < 0) with
    | true =>
     intro h; replace h := cT h
     refine WC.ct rfl ?_
     refine WC.seq ?_
     refine WC.rs [(0, 2)] rfl ?_
     refine WO.pn 1 rfl ?_
     refine WO.fin ?_
     refine DN.seq ?_
     refine WC.ret ?_
     refine DN.retBlock ?_
     refine DN.retThen ?_
     refine DN.retThen ?_
     obtain rfl := Option.some.inj h
     obtain rfl := Option.some.inj hk11
     have h := hK3
     dsimp only [aft] at h
     refine DN.retBlock ?_
     refine DN.retMeet ?_
     refine DN.retThen ?_
     have f23 := hE.stp (S10.tr S19) rfl rfl
     refine DN.res (l := [.tmp 4]) Try.results69 (res_tmp rfl rfl) rfl ?_
     obtain rfl := Option.some.inj h
     exact ⟨K18, rfl, f23⟩
    | false =>
     intro h; replace h := cF h
     refine WC.cf rfl ?_
     refine WC.skip ?_
     refine DN.block ?_
     refine DN.seq ?_
     refine WC.rs [(0, 2), (1, 2), (2, 2)] rfl ?_
     refine WO.pn 3 rfl ?_
     refine WO.fin ?_
     have hw2 : IntKind.wrap .i64 (v5 + 1) = v5 + 1 := wr1 hj2 (of_decide_eq_true hc2) hN2
     rw [hw2]
     have hc2 := of_decide_eq_true hc2
     obtain rfl := Option.some.inj h
     refine DN.round fun a ha => ?_
     exact ⟨k, _, Nat.lt_succ_self _, ⟨K18, v5 + 1, (x23 : Int), rfl, (S10.tr S19).wk rfl, by omega, by omega, hk11⟩, (ha.more (ha.more (ha.more ha.nil rfl) rfl) rfl)⟩
  rintro _ w5 ⟨K6, s3, rfl, S7, rfl⟩
  have h := hK3
  dsimp only [aft] at h
  refine DN.seq ?_
  refine WC.seq ?_
  refine WC.rs [(0, 2), (1, 2)] rfl ?_
  refine WO.pn 2 rfl ?_
  refine WO.fin ?_
  refine DN.seq ?_
  refine WC.ret ?_
  have f24 := hE.stp S7 rfl rfl
  refine DN.res (l := [.tmp 4]) Try.results69 (res_tmp rfl rfl) rfl ?_
  obtain rfl := Option.some.inj h
  exact ⟨K6, rfl, f24⟩

/- loop.example/g00869/laws.toInt64SS -/
theorem l_toInt64SS_ok {w : World} {κ : Col} {a0 : Option Addr} {u0 : Nat} {p0 : (List (List Int))} (g0 : Rd (Rp.sl (Rp.int .i64)) κ w 0 a0 u0 p0) {r : (List (List Int))} (h : l_toInt64SS p0 = some r) : Ret Try.prog 72 [.slice a0 p0.length u0] w (fun v w' => ∃ (κ' : Col) (ra0 : Option Addr) (ru0 : Nat), v = .slice ra0 r.length ru0 ∧ Ent κ w κ' w' ∧ Oc (Ep.own (Ep.int .i64) 2) 24 κ' w' 2 ra0 ru0 r) := by
 unfold l_toInt64SS at h
 refine Ret.enter Try.func72 rfl Try.ntmps72 rfl ?_
 dsimp only [envOf]
 have hE := Ent.refl κ w
 refine WC.seq ?_
 refine WC.rs [(0, 2)] rfl ?_
 refine WO.pn 1 rfl ?_
 refine WO.fin ?_
 refine DN.seq ?_
 refine WC.seq ?_
 refine WC.rs [(0, 2), (1, 2), (2, 1), (3, 2)] rfl ?_
 refine WO.pn 1 rfl ?_
 refine WO.k2 rfl rfl rfl rfl (rn_len Try.runUnderlying25 rfl rfl) ?_
 obtain ⟨x7, hx7, h⟩ := Option.bind_eq_some_iff.mp h
 refine WO.mk (κ := κ) (E := (Ep.own (Ep.int .i64) 2)) (z := (([] : List Int) : (List Int))) 2 rfl rfl rfl rfl rfl rfl rfl Try.underlying25 Tryinfo24 rfl rfl rfl rfl rfl (fun _ _ _ => ⟨none, 0, rfl, Ow.nil⟩) (mkS_C hx7) fun a7 u7 w1 K2 S3 f4 => ⟨trivial, ?_⟩
 refine WO.pn 1 rfl ?_
 refine WO.fin ?_
 refine DN.seq ?_
 refine WC.seq ?_
 refine WC.seq ?_
 refine WC.rs [(0, 2)] rfl ?_
 refine WO.pn 1 rfl ?_
 refine WO.fin ?_
 refine DN.seq ?_
 have hN5 : (p0.length : Int) ≤ 9223372036854775807 := g0.len_le
 obtain ⟨q2, hq7, hK6⟩ := Option.bind_eq_some_iff.mp h
 clear h
 refine WC.meet (fun L w' => ∃ (κ' : Col) (s3 : (List (List Int))), L = [(3, .slice a7 x7.length u7)] ∧ Stp [2, 5] K2 w1 κ' w' ∧ Oc (Ep.own (Ep.int .i64) 2) 24 κ' w' 2 a7 u7 s3 ∧ x7.length = s3.length ∧ q2 = Sum.inr s3) ?_ ?_
 ·
  refine WC.block ?_
  refine WC.loop (fun k L w' => ∃ (κ' : Col) (v4 : Int) (s1 : (List (List Int))), L = [(0, .slice a0 p0.length u0), (3, .slice a7 x7.length u7), (4, .int .i64 v4)] ∧ Stp [2, 5] K2 w1 κ' w' ∧ Oc (Ep.own (Ep.int .i64) 2) 24 κ' w' 2 a7 u7 s1 ∧ x7.length = s1.length ∧ 0 ≤ v4 ∧ Int.toNat ((p0.length : Int) - v4) = k ∧ cntM (l_toInt64SS_b0 p0) k v4 s1 = some q2) ⟨_, _, ⟨K2, 0, (x7 : (List (List Int))), rfl, (Stp.refl _ _).wk rfl, f4, rfl, (by decide), (by simp), hq7⟩, fun a ha => (ha.more (ha.more (ha.more ha.nil rfl) rfl) rfl)⟩ ?_
  rintro k _ w13 ⟨K14, v4, s1, rfl, S15, f16, hn17, hj5, hJ5, h⟩
  rcases k with _ | k
  ·
   have hk18 := h; obtain ⟨o5, h⟩ := ex_eq (Sum.inr (Sum.inl s1) : (List (List Int)) ⊕ (((List (List Int))) ⊕ ((List (List Int)))))
   have hc5 : decide (v4 < (p0.length : Int)) = false := decide_eq_false (by omega)
   refine WC.seq ?_
   refine WC.seq ?_
   refine WC.rs [(0, 2), (1, 2), (2, 2), (3, 2)] rfl ?_
   refine WO.pn 2 rfl ?_
   refine WO.k2 rfl rfl rfl rfl (rn_len Try.runUnderlying25 rfl rfl) ?_
   refine WO.pn 1 rfl ?_
   refine WO.fin ?_
   refine DN.seq ?_
   refine WC.cf' rfl hc5 ?_
   refine WC.exit ?_
   refine DN.exitThen ?_
   refine DN.exitThen ?_
   obtain rfl := Option.some.inj h
   have h := hk18
   refine DN.hit ?_
   obtain rfl := Option.some.inj h
   exact DN.meet _ ⟨K14, (s1 : (List (List Int))), rfl, S15.wk rfl, f16, hn17, rfl⟩ fun a ha => (ha.more ha.nil rfl)
  ·
   obtain ⟨o5, h, hk18⟩ := Option.bind_eq_some_iff.mp h; unfold l_toInt64SS_b0 at h
   have hc5 : decide (v4 < (p0.length : Int)) = true := decide_eq_true (by omega)
   refine WC.seq ?_
   refine WC.seq ?_
   refine WC.rs [(0, 2), (1, 2), (2, 2), (3, 2)] rfl ?_
   refine WO.pn 2 rfl ?_
   refine WO.k2 rfl rfl rfl rfl (rn_len Try.runUnderlying25 rfl rfl) ?_
   refine WO.pn 1 rfl ?_
   refine WO.fin ?_
   refine DN.seq ?_
   refine WC.ct' rfl hc5 ?_
   refine WC.skip ?_
   refine DN.seq ?_
   refine WC.seq ?_
   refine WC.block ?_
   refine WC.rs [(0, 2), (1, 2), (2, 2), (3, 2), (4, 2), (5, 1), (6, 1), (7, 2), (8, 1)] rfl ?_
   refine WO.pn 4 rfl ?_
   obtain ⟨x18, hx18, h⟩ := Option.bind_eq_some_iff.mp h
   refine WO.k2 rfl rfl rfl rfl (rn_index g0 hx18 Try.runUnderlying25 Try.sizeOf24 rfl rfl rfl rfl) ?_
   have f19 := g0.stp (S3.tr S15) rfl rfl
   obtain ⟨ax18, ux18, f20, hl21⟩ := f19.gSl hx18
   refine WO.k1 trivial rfl rfl rfl rfl (rn_ld Try.isAgg24 rfl rfl (hvE hl21)) ?_
   obtain ⟨x20, hx20, h⟩ := Option.bind_eq_some_iff.mp h
   refine WO.call rfl rfl rfl rfl rfl rfl Try.call22 (l_toInt64S_ok (κ := fun b => mp [] 0 (K14 b)) (Sl.map f20 (mp [] 0) rfl rfl) hx20) ?_
   rintro _ w22 ⟨k23, a20_0, u20_0, rfl, e24, f25⟩
   obtain ⟨K26, S27, m28⟩ := Ent.mixed (l := []) (κ := K14) e24 3 rfl
   refine ⟨trivial, ?_⟩
   have f30 := f25.mx (no_int _) m28 rfl (rfl : 3 + 2 = 5)
   obtain ⟨x21, hx21, h⟩ := Option.bind_eq_some_iff.mp h
   refine WO.k2 rfl rfl rfl rfl (rn_index f16.rdc hx21 Try.runUnderlying25 Try.sizeOf24 rfl rfl hn17 rfl) ?_
   have f31 := f16.stp S27 rfl rfl
   obtain ⟨y3, hy3, h⟩ := Option.bind_eq_some_iff.mp h
   refine WO.stI (κ := K26) (E := (Ep.own (Ep.int .i64) 2)) 2 [5] rfl rfl rfl rfl rfl rfl rfl rfl Try.sizeOf24 rfl ⟨_, _, rfl, f30⟩ rfl rfl f31 hy3 fun w32 K33 S34 f35 => ⟨trivial, ?_⟩
   have hn36 : x7.length = y3.length := hn17.trans (setI_ok hy3).2.2.2.symm
   refine WO.fin ?_
   refine DN.block ?_
   refine DN.seq ?_
   refine WC.rs [(0, 2), (1, 2), (2, 2)] rfl ?_
   refine WO.pn 3 rfl ?_
   refine WO.fin ?_
   have hw5 : IntKind.wrap .i64 (v4 + 1) = v4 + 1 := wr1 hj5 (of_decide_eq_true hc5) hN5
   rw [hw5]
   have hc5 := of_decide_eq_true hc5
   obtain rfl := Option.some.inj h
   refine DN.round fun a ha => ?_
   exact ⟨k, _, Nat.lt_succ_self _, ⟨K33, v4 + 1, (y3 : (List (List Int))), rfl, (S15.tr (S27.tr S34)).wk rfl, f35, hn36, by omega, by omega, hk18⟩, (ha.more (ha.more (ha.more ha.nil rfl) rfl) rfl)⟩
 rintro _ w8 ⟨K9, s3, rfl, S10, f11, hn12, rfl⟩
 have h := hK6
 dsimp only [aft] at h
 refine DN.seq ?_
 refine WC.seq ?_
 refine WC.rs [(0, 2), (1, 2)] rfl ?_
 refine WO.pn 2 rfl ?_
 refine WO.fin ?_
 refine DN.seq ?_
 refine WC.ret ?_
 have f37 := hE.stp (S3.tr S10) rfl rfl
 refine DN.res (l := [.tmp 2]) Try.results72 (res_tmp rfl rfl) rfl ?_
 obtain rfl := Option.some.inj h
 exact ⟨K9, a7, u7, (by simp only [hn12]), f37, f11⟩

/- loop.example/g00869/spec.SigOk -/
theorem s_SigOk_ok {w : World} {κ : Col} {p0 : Sig}  {r : Bool} (h : s_SigOk p0 = some r) : Ret Try.prog 131 [.agg #[.int .i64 p0.In, .int .i64 p0.Out]] w (fun v w' => ∃ (κ' : Col), v = .bool r ∧ Ent κ w κ' w') := by
 unfold s_SigOk at h
 refine Ret.enter Try.func131 rfl Try.ntmps131 rfl ?_
 dsimp only [envOf]
 have hE := Ent.refl κ w
 refine WC.seq ?_
 refine WC.rs [(0, 1), (1, 2)] rfl ?_
 refine WO.box (κ := κ) 2 rfl rfl rfl rfl rfl rfl rfl fun b1 w1 K2 S3 f4 => ⟨trivial, ?_⟩
 refine WO.pn 1 rfl ?_
 refine WO.fin ?_
 refine DN.seq ?_
 refine WC.seq ?_
 refine WC.rs [(0, 2), (1, 1), (2, 1), (3, 2), (4, 2), (5, 1), (6, 1), (7, 2), (8, 2)] rfl ?_
 refine WO.k2 rfl rfl rfl rfl (rn_fieldAddr Try.runUnderlying30 rfl Try.sizeOf2 rfl rfl) ?_
 refine WO.k1 trivial rfl rfl rfl rfl (rn_ld Try.isAgg2 rfl rfl (hvE (f4.ld 0 rfl rfl))) ?_
 obtain ⟨x5, hx5, h⟩ := Option.bind_eq_some_iff.mp h
 refine WO.call rfl rfl rfl rfl rfl rfl Try.call84 (s_l1In_ok (κ := fun b => mp [] 0 (K2 b)) hx5) ?_
 rintro _ w5 ⟨k6, rfl, e7⟩
 obtain ⟨K8, S9, m10⟩ := Ent.mixed (l := []) (κ := K2) e7 3 rfl
 refine ⟨trivial, ?_⟩
 refine WO.pn 1 rfl ?_
 obtain ⟨p10, h, hK12⟩ := Option.bind_eq_some_iff.mp h
 refine WO.meet [(4, 2), (5, 1), (6, 1), (7, 2)] [(8, 2)] (fun L w' => L = [(2, .bool false), (10, .bool p10)] ∧ ∃ κ', Stp [] K8 w5 κ' w') trivial ?_ ?_
 ·
  revert h
  cases ht13 : x5 with
  | true =>
   intro h; replace h := cT h
   refine WO.k2 rfl rfl rfl rfl (rn_fieldAddr Try.runUnderlying30 rfl Try.sizeOf2 rfl rfl) ?_
   have f14 := f4.stp S9 rfl rfl
   refine WO.k1 trivial rfl rfl rfl rfl (rn_ld Try.isAgg2 rfl rfl (hvE (f14.ld 1 rfl rfl))) ?_
   obtain ⟨x9, hx9, h⟩ := Option.bind_eq_some_iff.mp h
   refine WO.call rfl rfl rfl rfl rfl rfl Try.call84 (s_l1In_ok (κ := fun b => mp [] 0 (K8 b)) hx9) ?_
   rintro _ w15 ⟨k16, rfl, e17⟩
   obtain ⟨K18, S19, m20⟩ := Ent.mixed (l := []) (κ := K8) e17 5 rfl
   refine ⟨trivial, ?_⟩
   refine WO.pn 1 rfl ?_
   obtain rfl := Option.some.inj h
   exact WO.met _ trivial ⟨rfl, _, S19.wk rfl⟩ fun a ha => (ha.more (ha.more ha.nil rfl) rfl)
  | false =>
   intro h; replace h := cF h
   refine WO.pn 1 rfl ?_
   refine WO.ls rfl rfl rfl rfl ?_
   refine WO.ls rfl rfl rfl rfl ?_
   refine WO.pn 1 rfl ?_
   obtain rfl := Option.some.inj h
   exact WO.met _ trivial ⟨rfl, _, (Stp.refl _ _).wk rfl⟩ fun a ha => (ha.more (ha.more ha.nil rfl) rfl)
 rintro _ w22 _ ⟨rfl, K23, S24⟩
 have h := hK12
 refine WO.pn 1 rfl ?_
 refine WO.fin ?_
 refine DN.seq ?_
 refine WC.ret ?_
 have f25 := hE.stp (S3.tr (S9.tr S24)) rfl rfl
 refine DN.res (l := [.tmp 2]) Try.results131 (res_tmp rfl rfl) rfl ?_
 obtain rfl := Option.some.inj h
 exact ⟨K23, rfl, f25⟩

/- loop.example/g00869/spec.l29Ins -/
theorem s_l29Ins_ok {w : World} {κ : Col} {p0 : Sig}  {r : Int} (h : s_l29Ins p0 = some r) : Ret Try.prog 146 [.agg #[.int .i64 p0.In, .int .i64 p0.Out]] w (fun v w' => ∃ (κ' : Col), v = .int .i64 r ∧ Ent κ w κ' w') := by
 unfold s_l29Ins at h
 refine Ret.enter Try.func146 rfl Try.ntmps146 rfl ?_
 dsimp only [envOf]
 have hE := Ent.refl κ w
 refine WC.seq ?_
 refine WC.rs [(0, 1), (1, 2)] rfl ?_
 refine WO.box (κ := κ) 2 rfl rfl rfl rfl rfl rfl rfl fun b1 w1 K2 S3 f4 => ⟨trivial, ?_⟩
 refine WO.pn 1 rfl ?_
 refine WO.fin ?_
 refine DN.seq ?_
 refine WC.seq ?_
 refine WC.rs [(0, 2), (1, 1), (2, 1), (3, 2)] rfl ?_
 refine WO.k2 rfl rfl rfl rfl (rn_fieldAddr Try.runUnderlying30 rfl Try.sizeOf2 rfl rfl) ?_
 refine WO.k1 trivial rfl rfl rfl rfl (rn_ld Try.isAgg2 rfl rfl (hvE (f4.ld 0 rfl rfl))) ?_
 obtain ⟨x5, hx5, h⟩ := Option.bind_eq_some_iff.mp h
 refine WO.call rfl rfl rfl rfl rfl rfl Try.call133 (s_l23Power_ok (κ := fun b => mp [] 0 (K2 b)) hx5) ?_
 rintro _ w5 ⟨k6, rfl, e7⟩
 obtain ⟨K8, S9, m10⟩ := Ent.mixed (l := []) (κ := K2) e7 3 rfl
 refine ⟨trivial, ?_⟩
 refine WO.pn 1 rfl ?_
 refine WO.fin ?_
 refine DN.seq ?_
 refine WC.ret ?_
 have f12 := hE.stp (S3.tr S9) rfl rfl
 refine DN.res (l := [.tmp 2]) Try.results146 (res_tmp rfl rfl) rfl ?_
 obtain rfl := Option.some.inj h
 exact ⟨K8, rfl, f12⟩

/- loop.example/g00869/spec.l23Below -/
theorem s_l23Below_ok {w : World} {κ : Col} {a0 : Option Addr} {u0 : Nat} {p0 : (List Int)} {p1 : Int} (g0 : Rd (Rp.int .i64) κ w 0 a0 u0 p0) {r : Bool} (h : s_l23Below p0 p1 = some r) : Ret Try.prog 78 [.slice a0 p0.length u0, .int .i64 p1] w (fun v w' => ∃ (κ' : Col), v = .bool r ∧ Ent κ w κ' w') := by
 unfold s_l23Below at h
 refine Ret.enter Try.func78 rfl Try.ntmps78 rfl ?_
 dsimp only [envOf]
 have hE := Ent.refl κ w
 refine WC.seq ?_
 refine WC.rs [(0, 2)] rfl ?_
 refine WO.pn 1 rfl ?_
 refine WO.fin ?_
 refine DN.seq ?_
 refine WC.seq ?_
 refine WC.seq ?_
 refine WC.rs [(0, 2)] rfl ?_
 refine WO.pn 1 rfl ?_
 refine WO.fin ?_
 refine DN.seq ?_
 have hN1 : (p0.length : Int) ≤ 9223372036854775807 := g0.len_le
 obtain ⟨q2, hq3, hK2⟩ := Option.bind_eq_some_iff.mp h
 clear h
 refine WC.meet (fun L w' => ∃ (κ' : Col), L = [] ∧ Stp [] κ w κ' w' ∧ q2 = Sum.inr ()) ?_ ?_
 ·
  refine WC.block ?_
  refine WC.loop (fun k L w' => ∃ (κ' : Col) (v5 : Int), L = [(0, .slice a0 p0.length u0), (1, .int .i64 p1), (5, .int .i64 v5)] ∧ Stp [] κ w κ' w' ∧ 0 ≤ v5 ∧ Int.toNat ((p0.length : Int) - v5) = k ∧ cntM (s_l23Below_b0 p0 p1) k v5 () = some q2) ⟨_, _, ⟨κ, 0, rfl, (Stp.refl _ _).wk rfl, (by decide), (by simp), hq3⟩, fun a ha => (ha.more (ha.more (ha.more ha.nil rfl) rfl) rfl)⟩ ?_
  rintro k _ w7 ⟨K8, v5, rfl, S9, hj1, hJ1, h⟩
  rcases k with _ | k
  ·
   have hk10 := h; obtain ⟨o1, h⟩ := ex_eq (Sum.inr (Sum.inl ()) : Bool ⊕ ((Unit) ⊕ (Unit)))
   have hc1 : decide (v5 < (p0.length : Int)) = false := decide_eq_false (by omega)
   refine WC.seq ?_
   refine WC.seq ?_
   refine WC.rs [(0, 2), (1, 2), (2, 2), (3, 2)] rfl ?_
   refine WO.pn 2 rfl ?_
   refine WO.k2 rfl rfl rfl rfl (rn_len Try.runUnderlying24 rfl rfl) ?_
   refine WO.pn 1 rfl ?_
   refine WO.fin ?_
   refine DN.seq ?_
   refine WC.cf' rfl hc1 ?_
   refine WC.exit ?_
   refine DN.exitThen ?_
   refine DN.exitThen ?_
   obtain rfl := Option.some.inj h
   have h := hk10
   refine DN.hit ?_
   obtain rfl := Option.some.inj h
   exact DN.meet _ ⟨K8, rfl, S9.wk rfl, rfl⟩ fun a ha => ha.nil
  ·
   obtain ⟨o1, h, hk10⟩ := Option.bind_eq_some_iff.mp h; unfold s_l23Below_b0 at h
   have hc1 : decide (v5 < (p0.length : Int)) = true := decide_eq_true (by omega)
   refine WC.seq ?_
   refine WC.seq ?_
   refine WC.rs [(0, 2), (1, 2), (2, 2), (3, 2)] rfl ?_
   refine WO.pn 2 rfl ?_
   refine WO.k2 rfl rfl rfl rfl (rn_len Try.runUnderlying24 rfl rfl) ?_
   refine WO.pn 1 rfl ?_
   refine WO.fin ?_
   refine DN.seq ?_
   refine WC.ct' rfl hc1 ?_
   refine WC.skip ?_
   refine DN.seq ?_
   refine WC.seq ?_
   refine WC.block ?_
   refine WC.seq ?_
   refine WC.rs [(0, 2), (1, 2), (2, 2), (3, 1), (4, 2), (5, 2), (6, 1), (7, 2)] rfl ?_
   refine WO.pn 2 rfl ?_
   obtain ⟨x14, hx14, h⟩ := Option.bind_eq_some_iff.mp h
   refine WO.k2 rfl rfl rfl rfl (rn_index g0 hx14 Try.runUnderlying24 Try.sizeOf2 rfl rfl rfl rfl) ?_
   have f11 := g0.stp S9 rfl rfl
   refine WO.k1 trivial rfl rfl rfl rfl (rn_ld Try.isAgg2 rfl rfl (hvE (f11.gInt hx14))) ?_
   refine WO.pn 2 rfl ?_
   obtain ⟨x18, hx18, h⟩ := Option.bind_eq_some_iff.mp h
   refine WO.call rfl rfl rfl rfl rfl rfl Try.call84 (s_l1In_ok (κ := fun b => mp [] 0 (K8 b)) hx18) ?_
   rintro _ w12 ⟨k13, rfl, e14⟩
   obtain ⟨K15, S16, m17⟩ := Ent.mixed (l := []) (κ := K8) e14 2 rfl
   refine ⟨trivial, ?_⟩
   refine WO.pn 1 rfl ?_
   refine WO.fin ?_
   refine DN.seq ?_
   revert h
   cases ht19 : (!x18) with
   | true =>
    intro h; replace h := cT h
    refine WC.ct rfl ?_
    refine WC.seq ?_
    refine WC.rs [(0, 2)] rfl ?_
    refine WO.pn 1 rfl ?_
    refine WO.fin ?_
    refine DN.seq ?_
    refine WC.ret ?_
    refine DN.retBlock ?_
    refine DN.retThen ?_
    refine DN.retThen ?_
    obtain rfl := Option.some.inj h
    obtain rfl := Option.some.inj hk10
    have h := hK2
    dsimp only [aft] at h
    refine DN.retBlock ?_
    refine DN.retMeet ?_
    refine DN.retThen ?_
    have f20 := hE.stp (S9.tr S16) rfl rfl
    refine DN.res (l := [.tmp 4]) Try.results78 (res_tmp rfl rfl) rfl ?_
    obtain rfl := Option.some.inj h
    exact ⟨K15, rfl, f20⟩
   | false =>
    intro h; replace h := cF h
    refine WC.cf rfl ?_
    refine WC.skip ?_
    refine DN.block ?_
    refine DN.seq ?_
    refine WC.rs [(0, 2), (1, 2), (2, 2)] rfl ?_
    refine WO.pn 3 rfl ?_
    refine WO.fin ?_
    have hw1 : IntKind.wrap .i64 (v5 + 1) = v5 + 1 := wr1 hj1 (of_decide_eq_true hc1) hN1
    rw [hw1]
    have hc1 := of_decide_eq_true hc1
    obtain rfl := Option.some.inj h
    refine DN.round fun a ha => ?_
    exact ⟨k, _, Nat.lt_succ_self _, ⟨K15, v5 + 1, rfl, (S9.tr S16).wk rfl, by omega, by omega, hk10⟩, (ha.more (ha.more (ha.more ha.nil rfl) rfl) rfl)⟩
 rintro _ w4 ⟨K5, rfl, S6, rfl⟩
 have h := hK2
 dsimp only [aft] at h
 refine DN.seq ?_
 refine WC.seq ?_
 refine WC.rs [(0, 2)] rfl ?_
 refine WO.pn 1 rfl ?_
 refine WO.fin ?_
 refine DN.seq ?_
 refine WC.ret ?_
 have f21 := hE.stp S6 rfl rfl
 refine DN.res (l := [.tmp 4]) Try.results78 (res_tmp rfl rfl) rfl ?_
 obtain rfl := Option.some.inj h
 exact ⟨K5, rfl, f21⟩

/- loop.example/g00869/spec.l29Alike -/
theorem s_l29Alike_ok {w : World} {κ : Col} {a0_0 : Option Addr} {u0_0 : Nat} {a0_1 : Option Addr} {u0_1 : Nat} {p0 : Machine} (g0_0 : Rd (Rp.sl (Rp.int .i64)) κ w 0 a0_0 u0_0 p0.Next) (g0_1 : Rd (Rp.sl (Rp.int .i64)) κ w 0 a0_1 u0_1 p0.Out) {r : (List Int)} (h : s_l29Alike p0 = some r) : Ret Try.prog 152 [.agg #[.slice a0_0 p0.Next.length u0_0, .slice a0_1 p0.Out.length u0_1]] w (fun v w' => ∃ (κ' : Col) (ra0 : Option Addr) (ru0 : Nat), v = .slice ra0 r.length ru0 ∧ Ent κ w κ' w' ∧ Oc (Ep.int .i64) 2 κ' w' 2 ra0 ru0 r) := by
 unfold s_l29Alike at h
 refine Ret.enter Try.func152 rfl Try.ntmps152 rfl ?_
 dsimp only [envOf]
 have hE := Ent.refl κ w
 refine WC.seq ?_
 refine WC.rs [(0, 1), (1, 2)] rfl ?_
 refine WO.box (κ := κ) 2 rfl rfl rfl rfl rfl rfl rfl fun b1 w1 K2 S3 f4 => ⟨trivial, ?_⟩
 refine WO.pn 1 rfl ?_
 refine WO.fin ?_
 refine DN.seq ?_
 refine WC.seq ?_
 refine WC.rs [(0, 2), (1, 1), (2, 2), (3, 1), (4, 2)] rfl ?_
 refine WO.k2 rfl rfl rfl rfl (rn_fieldAddr Try.runUnderlying84 rfl Try.sizeOf25 rfl rfl) ?_
 refine WO.k1 trivial rfl rfl rfl rfl (rn_ld Try.isAgg25 rfl rfl (hvE (f4.ld 0 rfl rfl))) ?_
 refine WO.k2 rfl rfl rfl rfl (rn_len Try.runUnderlying25 rfl rfl) ?_
 obtain ⟨x10, hx10, h⟩ := Option.bind_eq_some_iff.mp h
 refine WO.mk (κ := K2) (E := (Ep.int .i64)) (z := (0 : Int)) 3 rfl rfl rfl rfl rfl rfl rfl Try.underlying24 Tryinfo2 rfl rfl rfl rfl rfl (fun _ _ _ => rfl) (mkS_C hx10) fun a10 u10 w5 K6 S7 f8 => ⟨trivial, ?_⟩
 refine WO.pn 1 rfl ?_
 refine WO.fin ?_
 refine DN.seq ?_
 obtain ⟨q2, hq11, hK10⟩ := Option.bind_eq_some_iff.mp h
 clear h
 refine WC.block ?_
 refine WC.loop (fun k L w' => ∃ (κ' : Col) (s1 : (List Int)) (las1_0 : Option Addr) (lus1_0 : Nat), L = [(1, .pointer (some ⟨b1, 0, none⟩)), (3, .slice las1_0 s1.length lus1_0)] ∧ Stp [4] K6 w5 κ' w' ∧ Oc (Ep.int .i64) 2 κ' w' 3 las1_0 lus1_0 s1 ∧ whileM (s_l29Alike_b0 p0) k s1 = some q2) ⟨_, _, ⟨K6, (x10 : (List Int)), a10, u10, rfl, (Stp.refl _ _).wk rfl, f8, hq11⟩, fun a ha => (ha.more (ha.more ha.nil rfl) rfl)⟩ ?_
 rintro k _ w12 ⟨K13, s1, las1_0, lus1_0, rfl, S14, f15, h⟩
 rcases k with _ | k
 ·
  cases h
 ·
  obtain ⟨o9, h, hk16⟩ := Option.bind_eq_some_iff.mp h; unfold s_l29Alike_b0 at h
  refine WC.block ?_
  refine WC.seq ?_
  refine WC.rs [(0, 1), (1, 2)] rfl ?_
  refine WO.bl0 (κ := K13) (E := (Ep.int .i64)) 4 rfl rfl rfl rfl rfl Try.underlying24 Tryinfo2 rfl fun a11 u11 w17 K18 S19 f20 => ⟨trivial, ?_⟩
  refine WO.pn 1 rfl ?_
  refine WO.fin ?_
  refine DN.seq ?_
  refine WC.seq ?_
  refine WC.seq ?_
  refine WC.rs [(0, 2)] rfl ?_
  refine WO.pn 1 rfl ?_
  refine WO.fin ?_
  refine DN.seq ?_
  have hN21 : (s1.length : Int) ≤ 9223372036854775807 := f15.len_le
  obtain ⟨q5, hq23, hK22⟩ := Option.bind_eq_some_iff.mp h
  clear h
  refine WC.meet (fun L w' => ∃ (κ' : Col) (s6 : (List Int)) (las6_0 : Option Addr) (lus6_0 : Nat), L = [(1, .pointer (some ⟨b1, 0, none⟩)), (3, .slice las1_0 s1.length lus1_0), (4, .slice las6_0 s6.length lus6_0)] ∧ Stp [4] K18 w17 κ' w' ∧ Oc (Ep.int .i64) 2 κ' w' 4 las6_0 lus6_0 s6 ∧ q5 = Sum.inr s6) ?_ ?_
  ·
   refine WC.block ?_
   refine WC.loop (fun k L w' => ∃ (κ' : Col) (v5 : Int) (s4 : (List Int)) (las4_0 : Option Addr) (lus4_0 : Nat), L = [(1, .pointer (some ⟨b1, 0, none⟩)), (3, .slice las1_0 s1.length lus1_0), (4, .slice las4_0 s4.length lus4_0), (5, .int .i64 v5)] ∧ Stp [4] K18 w17 κ' w' ∧ Oc (Ep.int .i64) 2 κ' w' 4 las4_0 lus4_0 s4 ∧ 0 ≤ v5 ∧ Int.toNat ((s1.length : Int) - v5) = k ∧ cntM (s_l29Alike_b2 p0 s1) k v5 s4 = some q5) ⟨_, _, ⟨K18, 0, (([] : List Int) : (List Int)), a11, u11, rfl, (Stp.refl _ _).wk rfl, f20, (by decide), (by simp), hq23⟩, fun a ha => (ha.more (ha.more (ha.more (ha.more ha.nil rfl) rfl) rfl) rfl)⟩ ?_
   rintro k _ w28 ⟨K29, v5, s4, las4_0, lus4_0, rfl, S30, f31, hj21, hJ21, h⟩
   rcases k with _ | k
   ·
    have hk32 := h; obtain ⟨o21, h⟩ := ex_eq (Sum.inr (Sum.inl s4) : (List Int) ⊕ (((List Int)) ⊕ ((List Int))))
    have hc21 : decide (v5 < (s1.length : Int)) = false := decide_eq_false (by omega)
    refine WC.seq ?_
    refine WC.seq ?_
    refine WC.rs [(0, 2), (1, 2), (2, 2), (3, 2)] rfl ?_
    refine WO.pn 2 rfl ?_
    refine WO.k2 rfl rfl rfl rfl (rn_len Try.runUnderlying24 rfl rfl) ?_
    refine WO.pn 1 rfl ?_
    refine WO.fin ?_
    refine DN.seq ?_
    refine WC.cf' rfl hc21 ?_
    refine WC.exit ?_
    refine DN.exitThen ?_
    refine DN.exitThen ?_
    obtain rfl := Option.some.inj h
    have h := hk32
    refine DN.hit ?_
    obtain rfl := Option.some.inj h
    exact DN.meet _ ⟨K29, (s4 : (List Int)), las4_0, lus4_0, rfl, S30.wk rfl, f31, rfl⟩ fun a ha => (ha.more (ha.more (ha.more ha.nil rfl) rfl) rfl)
   ·
    obtain ⟨o21, h, hk32⟩ := Option.bind_eq_some_iff.mp h; unfold s_l29Alike_b2 at h
    have hc21 : decide (v5 < (s1.length : Int)) = true := decide_eq_true (by omega)
    refine WC.seq ?_
    refine WC.seq ?_
    refine WC.rs [(0, 2), (1, 2), (2, 2), (3, 2)] rfl ?_
    refine WO.pn 2 rfl ?_
    refine WO.k2 rfl rfl rfl rfl (rn_len Try.runUnderlying24 rfl rfl) ?_
    refine WO.pn 1 rfl ?_
    refine WO.fin ?_
    refine DN.seq ?_
    refine WC.ct' rfl hc21 ?_
    refine WC.skip ?_
    refine DN.seq ?_
    refine WC.seq ?_
    refine WC.block ?_
    refine WC.seq ?_
    refine WC.rs [(0, 2)] rfl ?_
    refine WO.pn 1 rfl ?_
    refine WO.fin ?_
    refine DN.seq ?_
    refine WC.seq ?_
    obtain ⟨q8, hq35, hK34⟩ := Option.bind_eq_some_iff.mp h
    clear h
    refine WC.meet (fun L w' => ∃ (κ' : Col) (s9 : Int), L = [(1, .pointer (some ⟨b1, 0, none⟩)), (3, .slice las1_0 s1.length lus1_0), (4, .slice las4_0 s4.length lus4_0), (5, .int .i64 v5), (6, .int .i64 s9)] ∧ Stp [] K29 w28 κ' w' ∧ q8 = Sum.inr s9) ?_ ?_
    ·
     refine WC.block ?_
     refine WC.loop (fun k L w' => ∃ (κ' : Col) (s7 : Int), L = [(1, .pointer (some ⟨b1, 0, none⟩)), (3, .slice las1_0 s1.length lus1_0), (4, .slice las4_0 s4.length lus4_0), (5, .int .i64 v5), (6, .int .i64 s7)] ∧ Stp [] K29 w28 κ' w' ∧ whileM (s_l29Alike_b4 p0 s1 v5) k s7 = some q8) ⟨_, _, ⟨K29, (0 : Int), rfl, (Stp.refl _ _).wk rfl, hq35⟩, fun a ha => (ha.more (ha.more (ha.more (ha.more (ha.more ha.nil rfl) rfl) rfl) rfl) rfl)⟩ ?_
     rintro k _ w39 ⟨K40, s7, rfl, S41, h⟩
     rcases k with _ | k
     ·
      cases h
     ·
      obtain ⟨o33, h, hk42⟩ := Option.bind_eq_some_iff.mp h; unfold s_l29Alike_b4 at h
      refine WC.seq ?_
      refine WC.seq ?_
      refine WC.rs [(0, 1), (1, 2), (2, 2), (3, 2), (4, 1), (5, 2)] rfl ?_
      have f43 := f4.stp (S7.tr (S14.tr (S19.tr (S30.tr S41)))) rfl rfl
      refine WO.k1 trivial rfl rfl rfl rfl (rn_la (cs := [.slice a0_0 p0.Next.length u0_0, .slice a0_1 p0.Out.length u0_1]) Try.isAgg84 Try.sizeOf84 rfl rfl rfl (haE f43.cells)) ?_
      refine WO.pn 3 rfl ?_
      obtain ⟨x22, hx22, h⟩ := Option.bind_eq_some_iff.mp h
      have f44 := g0_0.stp (S3.tr (S7.tr (S14.tr (S19.tr (S30.tr S41))))) rfl rfl
      have f45 := g0_1.stp (S3.tr (S7.tr (S14.tr (S19.tr (S30.tr S41))))) rfl rfl
      have f46 := f15.stp (S19.tr (S30.tr S41)) rfl rfl
      refine WO.call rfl rfl rfl rfl rfl rfl Try.call157 (s_l29Near_ok (κ := fun b => mp [] 0 (K40 b)) (p0 := p0) (Sl.map f44 (mp [] 0) rfl rfl) (Sl.map f45 (mp [] 0) rfl rfl) (Sl.map f46.rdc (mp [] 0) rfl rfl) hx22) ?_
      rintro _ w47 ⟨k48, rfl, e49⟩
      obtain ⟨K50, S51, m52⟩ := Ent.mixed (l := []) (κ := K40) e49 5 rfl
      refine ⟨trivial, ?_⟩
      refine WO.pn 1 rfl ?_
      refine WO.fin ?_
      refine DN.seq ?_
      revert h
      cases ht54 : (!x22) with
      | true =>
       intro h; replace h := cT h
       refine WC.ct rfl ?_
       refine WC.skip ?_
       refine DN.seq ?_
       refine WC.block ?_
       refine WC.rs [(0, 2), (1, 2), (2, 2)] rfl ?_
       refine WO.pn 3 rfl ?_
       refine WO.fin ?_
       refine DN.block ?_
       obtain rfl := Option.some.inj h
       refine DN.round fun a ha => ?_
       exact ⟨k, _, Nat.lt_succ_self _, ⟨K50, ((IntKind.i64.wrap (s7 + 1)) : Int), rfl, (S41.tr S51).wk rfl, hk42⟩, (ha.more (ha.more (ha.more (ha.more (ha.more ha.nil rfl) rfl) rfl) rfl) rfl)⟩
      | false =>
       intro h; replace h := cF h
       refine WC.cf rfl ?_
       refine WC.exit ?_
       refine DN.exitThen ?_
       refine DN.exitThen ?_
       obtain rfl := Option.some.inj h
       have h := hk42
       refine DN.hit ?_
       obtain rfl := Option.some.inj h
       exact DN.meet _ ⟨K50, (s7 : Int), rfl, (S41.tr S51).wk rfl, rfl⟩ fun a ha => (ha.more (ha.more (ha.more (ha.more (ha.more ha.nil rfl) rfl) rfl) rfl) rfl)
    rintro _ w36 ⟨K37, s9, rfl, S38, rfl⟩
    have h := hK34
    dsimp only [aft] at h
    refine DN.seq ?_
    refine WC.rs [(0, 2), (1, 2), (2, 1), (3, 1), (4, 2)] rfl ?_
    refine WO.pn 2 rfl ?_
    refine WO.bl (κ := K37) (E := (Ep.int .i64)) 5 [] (parts := [(0, .tmp 27)]) (cells := [.int .i64 s9]) (xs := ([s9] : List Int)) rfl rfl rfl rfl rfl rfl Try.underlying24 Tryinfo2 rfl rfl rfl rfl rfl rfl rfl rfl rfl rfl ⟨[.int .i64 s9], [], Zl K37 w36 [], Zl K37 w36 [], rfl, Zl.sp (l1 := []) (l2 := []) rfl, Zl.sr (l1 := []) (l2 := []), rfl, rfl⟩ fun a28 u28 w55 K56 S57 f58 => ⟨trivial, ?_⟩
    obtain ⟨x29, hx29, h⟩ := Option.bind_eq_some_iff.mp h
    have f59 := f31.stp (S38.tr S57) rfl rfl
    refine WO.app (κ := K56) (E := (Ep.int .i64)) 4 [] rfl rfl rfl rfl rfl rfl rfl rfl rfl Try.underlying24 Tryinfo2 rfl rfl rfl rfl f59 (Sl.srcP (pu_int _) f58.rdc) sy_false hx29 rfl fun a29 u29 w60 K61 S62 f63 => ⟨trivial, ?_⟩
    refine WO.pn 1 rfl ?_
    refine WO.fin ?_
    refine DN.block ?_
    refine DN.seq ?_
    refine WC.rs [(0, 2), (1, 2), (2, 2)] rfl ?_
    refine WO.pn 3 rfl ?_
    refine WO.fin ?_
    have hw21 : IntKind.wrap .i64 (v5 + 1) = v5 + 1 := wr1 hj21 (of_decide_eq_true hc21) hN21
    rw [hw21]
    have hc21 := of_decide_eq_true hc21
    obtain rfl := Option.some.inj h
    refine DN.round fun a ha => ?_
    exact ⟨k, _, Nat.lt_succ_self _, ⟨K61, v5 + 1, (x29 : (List Int)), a29, u29, rfl, (S30.tr (S38.tr (S57.tr S62))).wk rfl, f63, by omega, by omega, hk32⟩, (ha.more (ha.more (ha.more (ha.more ha.nil rfl) rfl) rfl) rfl)⟩
  rintro _ w24 ⟨K25, s6, las6_0, lus6_0, rfl, S26, f27, rfl⟩
  have h := hK22
  dsimp only [aft] at h
  refine DN.seq ?_
  refine WC.seq ?_
  refine WC.seq ?_
  refine WC.rs [(0, 2), (1, 2), (2, 1)] rfl ?_
  refine WO.pn 2 rfl ?_
  obtain ⟨x32, hx32, h⟩ := Option.bind_eq_some_iff.mp h
  have f64 := f15.stp (S19.tr S26) rfl rfl
  refine WO.call rfl rfl rfl rfl rfl rfl Try.call158 (s_l7Same_ok (κ := fun b => mp [] 0 (K25 b)) (Sl.map f27.rdc (mp [] 0) rfl rfl) (Sl.map f64.rdc (mp [] 0) rfl rfl) hx32) ?_
  rintro _ w65 ⟨k66, rfl, e67⟩
  obtain ⟨K68, S69, m70⟩ := Ent.mixed (l := []) (κ := K25) e67 5 rfl
  refine ⟨trivial, ?_⟩
  refine WO.fin ?_
  refine DN.seq ?_
  revert h
  cases ht72 : x32 with
  | true =>
   intro h; replace h := cT h
   refine WC.ct rfl ?_
   refine WC.seq ?_
   refine WC.rs [(0, 2), (1, 2)] rfl ?_
   refine WO.pn 2 rfl ?_
   refine WO.fin ?_
   refine DN.seq ?_
   refine WC.ret ?_
   refine DN.retThen ?_
   refine DN.retBlock ?_
   refine DN.retThen ?_
   obtain rfl := Option.some.inj h
   obtain rfl := Option.some.inj hk16
   have h := hK10
   dsimp only [aft] at h
   refine DN.retBlock ?_
   have f73 := hE.stp (S3.tr (S7.tr (S14.tr (S19.tr (S26.tr S69))))) rfl rfl
   have f74 := f64.stp S69 rfl rfl
   refine DN.res (l := [.tmp 2]) Try.results152 (res_tmp rfl rfl) rfl ?_
   obtain rfl := Option.some.inj h
   exact ⟨(fun b => ren [(3, 2)] (K68 b)), las1_0, lus1_0, rfl, (f73.map (ren [(3, 2)]) rfl rfl), (f74.map (ren [(3, 2)]) rfl rfl)⟩
  | false =>
   intro h; replace h := cF h
   refine WC.cf rfl ?_
   refine WC.skip ?_
   refine DN.seq ?_
   refine WC.rs [(0, 2), (1, 2)] rfl ?_
   refine WO.pn 2 rfl ?_
   refine WO.fin ?_
   refine DN.block ?_
   have f75 := f27.stp S69 rfl rfl
   obtain rfl := Option.some.inj h
   refine DN.round fun a ha => ?_
   exact ⟨k, _, Nat.lt_succ_self _, ⟨(fun b => ren [(4, 3)] (K68 b)), (s6 : (List Int)), las6_0, lus6_0, rfl, (Stp.ren ((S14.tr (S19.tr (S26.tr S69))).wk rfl) [(4, 3)] rfl), (f75.map (ren [(4, 3)]) rfl rfl), hk16⟩, (ha.more (ha.more ha.nil rfl) rfl)⟩

/- slices.IndexFunc[[]int64,int64] -/
theorem slices_IndexFunc_I_int64__i_areLetters_1_ok {w : World} {κ : Col} {a0 : Option Addr} {u0 : Nat} {p0 : (List Int)} {c1_0 : Int} {b1_0 : Nat} (g0 : Rd (Rp.int .i64) κ w 0 a0 u0 p0) (gb1_0 : Bc κ w 0 b1_0 2 [.int .i64 c1_0]) {r : Int} (h : slices_IndexFunc_I_int64__i_areLetters_1 p0 c1_0 = some r) : Ret Try.prog 153 [.slice a0 p0.length u0, .func (.func 135) #[] #[.pointer (some ⟨b1_0, 0, none⟩)]] w (fun v w' => ∃ (κ' : Col), v = .int .i64 r ∧ Ent κ w κ' w') := by
 unfold slices_IndexFunc_I_int64__i_areLetters_1 at h
 refine Ret.enter Try.func153 rfl Try.ntmps153 rfl ?_
 dsimp only [envOf]
 have hE := Ent.refl κ w
 refine WC.seq ?_
 refine WC.rs [(0, 2)] rfl ?_
 refine WO.pn 1 rfl ?_
 refine WO.fin ?_
 refine DN.seq ?_
 refine WC.seq ?_
 refine WC.seq ?_
 refine WC.rs [(0, 2), (1, 2), (2, 2)] rfl ?_
 refine WO.pn 1 rfl ?_
 refine WO.k2 rfl rfl rfl rfl (rn_len Try.runUnderlying24 rfl rfl) ?_
 refine WO.pn 1 rfl ?_
 refine WO.fin ?_
 refine DN.seq ?_
 have hN1 : (p0.length : Int) ≤ 9223372036854775807 := g0.len_le
 obtain ⟨q2, hq3, hK2⟩ := Option.bind_eq_some_iff.mp h
 clear h
 refine WC.meet (fun L w' => ∃ (κ' : Col), L = [(1, .func (.func 135) #[] #[.pointer (some ⟨b1_0, 0, none⟩)])] ∧ Stp [] κ w κ' w' ∧ q2 = Sum.inr ()) ?_ ?_
 ·
  refine WC.block ?_
  refine WC.loop (fun k L w' => ∃ (κ' : Col) (v8 : Int), L = [(0, .slice a0 p0.length u0), (1, .func (.func 135) #[] #[.pointer (some ⟨b1_0, 0, none⟩)]), (7, .int .i64 (p0.length : Int)), (8, .int .i64 v8)] ∧ Stp [] κ w κ' w' ∧ 0 ≤ v8 ∧ Int.toNat ((p0.length : Int) - v8) = k ∧ cntM (slices_IndexFunc_I_int64__i_areLetters_1_b0 p0 c1_0) k v8 () = some q2) ⟨_, _, ⟨κ, 0, rfl, (Stp.refl _ _).wk rfl, (by decide), (by simp), hq3⟩, fun a ha => (ha.more (ha.more (ha.more (ha.more ha.nil rfl) rfl) rfl) rfl)⟩ ?_
  rintro k _ w7 ⟨K8, v8, rfl, S9, hj1, hJ1, h⟩
  rcases k with _ | k
  ·
   have hk10 := h; obtain ⟨o1, h⟩ := ex_eq (Sum.inr (Sum.inl ()) : Int ⊕ ((Unit) ⊕ (Unit)))
   have hc1 : decide (v8 < (p0.length : Int)) = false := decide_eq_false (by omega)
   refine WC.seq ?_
   refine WC.rs [(0, 2)] rfl ?_
   refine WO.pn 1 rfl ?_
   refine WO.fin ?_
   refine DN.seq ?_
   refine WC.seq ?_
   refine WC.cf' rfl hc1 ?_
   refine WC.exit ?_
   refine DN.exitThen ?_
   refine DN.exitThen ?_
   obtain rfl := Option.some.inj h
   have h := hk10
   refine DN.hit ?_
   obtain rfl := Option.some.inj h
   exact DN.meet _ ⟨K8, rfl, S9.wk rfl, rfl⟩ fun a ha => (ha.more ha.nil rfl)
  ·
   obtain ⟨o1, h, hk10⟩ := Option.bind_eq_some_iff.mp h; unfold slices_IndexFunc_I_int64__i_areLetters_1_b0 at h
   have hc1 : decide (v8 < (p0.length : Int)) = true := decide_eq_true (by omega)
   refine WC.seq ?_
   refine WC.rs [(0, 2)] rfl ?_
   refine WO.pn 1 rfl ?_
   refine WO.fin ?_
   refine DN.seq ?_
   refine WC.seq ?_
   refine WC.ct' rfl hc1 ?_
   refine WC.skip ?_
   refine DN.seq ?_
   refine WC.seq ?_
   refine WC.block ?_
   refine WC.seq ?_
   refine WC.rs [(0, 2), (1, 2)] rfl ?_
   refine WO.pn 2 rfl ?_
   refine WO.fin ?_
   refine DN.seq ?_
   refine WC.seq ?_
   refine WC.rs [(0, 2), (1, 2), (2, 2), (3, 2), (4, 1), (5, 1)] rfl ?_
   refine WO.pn 3 rfl ?_
   obtain ⟨x14, hx14, h⟩ := Option.bind_eq_some_iff.mp h
   refine WO.k2 rfl rfl rfl rfl (rn_index g0 hx14 Try.runUnderlying24 Try.sizeOf2 rfl rfl rfl rfl) ?_
   have f11 := g0.stp S9 rfl rfl
   refine WO.k1 trivial rfl rfl rfl rfl (rn_ld Try.isAgg2 rfl rfl (hvE (f11.gInt hx14))) ?_
   obtain ⟨x16, hx16, h⟩ := Option.bind_eq_some_iff.mp h
   have f12 := gb1_0.stp S9 rfl rfl
   refine WO.callV rfl rfl rfl rfl rfl rfl rfl rfl Try.call135 (i_areLetters_1_ok (κ := fun b => mp [] 0 (K8 b)) (f12.map (mp [] 0) rfl rfl) hx16) ?_
   rintro _ w13 ⟨k14, rfl, e15⟩
   obtain ⟨K16, S17, m18⟩ := Ent.mixed (l := []) (κ := K8) e15 2 rfl
   refine ⟨trivial, ?_⟩
   refine WO.fin ?_
   refine DN.seq ?_
   revert h
   cases ht20 : x16 with
   | true =>
    intro h; replace h := cT h
    refine WC.ct rfl ?_
    refine WC.seq ?_
    refine WC.rs [(0, 2), (1, 2)] rfl ?_
    refine WO.pn 2 rfl ?_
    refine WO.fin ?_
    refine DN.seq ?_
    refine WC.ret ?_
    refine DN.retBlock ?_
    refine DN.retThen ?_
    refine DN.retThen ?_
    obtain rfl := Option.some.inj h
    obtain rfl := Option.some.inj hk10
    have h := hK2
    dsimp only [aft] at h
    refine DN.retBlock ?_
    refine DN.retMeet ?_
    refine DN.retThen ?_
    have f21 := hE.stp (S9.tr S17) rfl rfl
    refine DN.res (l := [.tmp 4]) Try.results153 (res_tmp rfl rfl) rfl ?_
    obtain rfl := Option.some.inj h
    exact ⟨K16, rfl, f21⟩
   | false =>
    intro h; replace h := cF h
    refine WC.cf rfl ?_
    refine WC.skip ?_
    refine DN.block ?_
    refine DN.seq ?_
    refine WC.rs [(0, 2), (1, 2)] rfl ?_
    refine WO.pn 2 rfl ?_
    refine WO.fin ?_
    have hw1 : IntKind.wrap .i64 (v8 + 1) = v8 + 1 := wr1 hj1 (of_decide_eq_true hc1) hN1
    rw [hw1]
    have hc1 := of_decide_eq_true hc1
    obtain rfl := Option.some.inj h
    refine DN.round fun a ha => ?_
    exact ⟨k, _, Nat.lt_succ_self _, ⟨K16, v8 + 1, rfl, (S9.tr S17).wk rfl, by omega, by omega, hk10⟩, (ha.more (ha.more (ha.more (ha.more ha.nil rfl) rfl) rfl) rfl)⟩
 rintro _ w4 ⟨K5, rfl, S6, rfl⟩
 have h := hK2
 dsimp only [aft] at h
 refine DN.seq ?_
 refine WC.seq ?_
 refine WC.rs [(0, 2)] rfl ?_
 refine WO.pn 1 rfl ?_
 refine WO.fin ?_
 refine DN.seq ?_
 refine WC.ret ?_
 have f22 := hE.stp S6 rfl rfl
 refine DN.res (l := [.tmp 4]) Try.results153 (res_tmp rfl rfl) rfl ?_
 obtain rfl := Option.some.inj h
 exact ⟨K5, rfl, f22⟩

/- loop.example/g00869/impl.alikeStates -/
theorem i_alikeStates_ok {w : World} {κ : Col} {a0_0 : Option Addr} {u0_0 : Nat} {a0_1 : Option Addr} {u0_1 : Nat} {p0 : Machine} (g0_0 : Rd (Rp.sl (Rp.int .i64)) κ w 0 a0_0 u0_0 p0.Next) (g0_1 : Rd (Rp.sl (Rp.int .i64)) κ w 0 a0_1 u0_1 p0.Out) {r : (List Int)} (h : i_alikeStates p0 = some r) : Ret Try.prog 127 [.agg #[.slice a0_0 p0.Next.length u0_0, .slice a0_1 p0.Out.length u0_1]] w (fun v w' => ∃ (κ' : Col) (ra0 : Option Addr) (ru0 : Nat), v = .slice ra0 r.length ru0 ∧ Ent κ w κ' w' ∧ Oc (Ep.int .i64) 2 κ' w' 2 ra0 ru0 r) := by
 unfold i_alikeStates at h
 refine Ret.enter Try.func127 rfl Try.ntmps127 rfl ?_
 dsimp only [envOf]
 have hE := Ent.refl κ w
 refine WC.seq ?_
 refine WC.rs [(0, 1), (1, 2)] rfl ?_
 refine WO.box (κ := κ) 2 rfl rfl rfl rfl rfl rfl rfl fun b1 w1 K2 S3 f4 => ⟨trivial, ?_⟩
 refine WO.pn 1 rfl ?_
 refine WO.fin ?_
 refine DN.seq ?_
 refine WC.seq ?_
 refine WC.rs [(0, 2), (1, 1), (2, 2), (3, 1), (4, 2)] rfl ?_
 refine WO.k2 rfl rfl rfl rfl (rn_fieldAddr Try.runUnderlying84 rfl Try.sizeOf25 rfl rfl) ?_
 refine WO.k1 trivial rfl rfl rfl rfl (rn_ld Try.isAgg25 rfl rfl (hvE (f4.ld 0 rfl rfl))) ?_
 refine WO.k2 rfl rfl rfl rfl (rn_len Try.runUnderlying25 rfl rfl) ?_
 obtain ⟨x14, hx14, h⟩ := Option.bind_eq_some_iff.mp h
 refine WO.mk (κ := K2) (E := (Ep.int .i64)) (z := (0 : Int)) 3 rfl rfl rfl rfl rfl rfl rfl Try.underlying24 Tryinfo2 rfl rfl rfl rfl rfl (fun _ _ _ => rfl) (mkS_C hx14) fun a14 u14 w5 K6 S7 f8 => ⟨trivial, ?_⟩
 refine WO.pn 1 rfl ?_
 refine WO.fin ?_
 refine DN.seq ?_
 refine WC.seq ?_
 refine WC.seq ?_
 refine WC.rs [(0, 2), (1, 2), (2, 2)] rfl ?_
 refine WO.pn 1 rfl ?_
 refine WO.k2 rfl rfl rfl rfl (rn_len Try.runUnderlying24 rfl rfl) ?_
 refine WO.pn 1 rfl ?_
 refine WO.fin ?_
 refine DN.seq ?_
 have hN9 : (x14.length : Int) ≤ 9223372036854775807 := f8.len_le
 obtain ⟨q2, hq11, hK10⟩ := Option.bind_eq_some_iff.mp h
 clear h
 refine WC.meet (fun L w' => ∃ (κ' : Col) (s3 : (List Int)), L = [(1, .pointer (some ⟨b1, 0, none⟩)), (3, .slice a14 x14.length u14)] ∧ Stp [3] K6 w5 κ' w' ∧ Oc (Ep.int .i64) 2 κ' w' 3 a14 u14 s3 ∧ x14.length = s3.length ∧ q2 = Sum.inr s3) ?_ ?_
 ·
  refine WC.block ?_
  refine WC.loop (fun k L w' => ∃ (κ' : Col) (v17 : Int) (s1 : (List Int)), L = [(1, .pointer (some ⟨b1, 0, none⟩)), (3, .slice a14 x14.length u14), (16, .int .i64 (x14.length : Int)), (17, .int .i64 v17)] ∧ Stp [3] K6 w5 κ' w' ∧ Oc (Ep.int .i64) 2 κ' w' 3 a14 u14 s1 ∧ x14.length = s1.length ∧ 0 ≤ v17 ∧ Int.toNat ((x14.length : Int) - v17) = k ∧ cntM (i_alikeStates_b0 p0) k v17 s1 = some q2) ⟨_, _, ⟨K6, 0, (x14 : (List Int)), rfl, (Stp.refl _ _).wk rfl, f8, rfl, (by decide), (by simp), hq11⟩, fun a ha => (ha.more (ha.more (ha.more (ha.more ha.nil rfl) rfl) rfl) rfl)⟩ ?_
  rintro k _ w17 ⟨K18, v17, s1, rfl, S19, f20, hn21, hj9, hJ9, h⟩
  rcases k with _ | k
  ·
   have hk22 := h; obtain ⟨o9, h⟩ := ex_eq (Sum.inr (Sum.inl s1) : (List Int) ⊕ (((List Int)) ⊕ ((List Int))))
   have hc9 : decide (v17 < (x14.length : Int)) = false := decide_eq_false (by omega)
   refine WC.seq ?_
   refine WC.rs [(0, 2)] rfl ?_
   refine WO.pn 1 rfl ?_
   refine WO.fin ?_
   refine DN.seq ?_
   refine WC.seq ?_
   refine WC.cf' rfl hc9 ?_
   refine WC.exit ?_
   refine DN.exitThen ?_
   refine DN.exitThen ?_
   obtain rfl := Option.some.inj h
   have h := hk22
   refine DN.hit ?_
   obtain rfl := Option.some.inj h
   exact DN.meet _ ⟨K18, (s1 : (List Int)), rfl, S19.wk rfl, f20, hn21, rfl⟩ fun a ha => (ha.more (ha.more ha.nil rfl) rfl)
  ·
   obtain ⟨o9, h, hk22⟩ := Option.bind_eq_some_iff.mp h; unfold i_alikeStates_b0 at h
   have hc9 : decide (v17 < (x14.length : Int)) = true := decide_eq_true (by omega)
   refine WC.seq ?_
   refine WC.rs [(0, 2)] rfl ?_
   refine WO.pn 1 rfl ?_
   refine WO.fin ?_
   refine DN.seq ?_
   refine WC.seq ?_
   refine WC.ct' rfl hc9 ?_
   refine WC.skip ?_
   refine DN.seq ?_
   refine WC.seq ?_
   refine WC.block ?_
   refine WC.seq ?_
   refine WC.rs [(0, 2), (1, 2)] rfl ?_
   refine WO.pn 2 rfl ?_
   refine WO.fin ?_
   refine DN.seq ?_
   refine WC.seq ?_
   refine WC.rs [(0, 2), (1, 2), (2, 2)] rfl ?_
   refine WO.pn 3 rfl ?_
   refine WO.fin ?_
   refine DN.seq ?_
   obtain ⟨_, hr23, h⟩ := Option.bind_eq_some_iff.mp h
   have hN23 := rng_ok hr23
   obtain ⟨q5, hq25, hK24⟩ := Option.bind_eq_some_iff.mp h
   clear h
   refine WC.meet (fun L w' => ∃ (κ' : Col) (s6 : (List Int)), L = [(1, .pointer (some ⟨b1, 0, none⟩)), (3, .slice a14 x14.length u14), (16, .int .i64 (x14.length : Int)), (17, .int .i64 v17)] ∧ Stp [3] K18 w17 κ' w' ∧ Oc (Ep.int .i64) 2 κ' w' 3 a14 u14 s6 ∧ x14.length = s6.length ∧ q5 = Sum.inr s6) ?_ ?_
   ·
    refine WC.block ?_
    refine WC.loop (fun k L w' => ∃ (κ' : Col) (v22 : Int) (s4 : (List Int)), L = [(1, .pointer (some ⟨b1, 0, none⟩)), (3, .slice a14 x14.length u14), (4, .int .i64 v17), (16, .int .i64 (x14.length : Int)), (17, .int .i64 v17), (21, .int .i64 (IntKind.i64.wrap (v17 + 1))), (22, .int .i64 v22)] ∧ Stp [3] K18 w17 κ' w' ∧ Oc (Ep.int .i64) 2 κ' w' 3 a14 u14 s4 ∧ x14.length = s4.length ∧ 0 ≤ v22 ∧ Int.toNat ((IntKind.i64.wrap (v17 + 1)) - v22) = k ∧ cntM (i_alikeStates_b2 p0 v17) k v22 s4 = some q5) ⟨_, _, ⟨K18, 0, (s1 : (List Int)), rfl, (Stp.refl _ _).wk rfl, f20, hn21, (by decide), (by simp), hq25⟩, fun a ha => (ha.more (ha.more (ha.more (ha.more (ha.more (ha.more (ha.more ha.nil rfl) rfl) rfl) rfl) rfl) rfl) rfl)⟩ ?_
    rintro k _ w31 ⟨K32, v22, s4, rfl, S33, f34, hn35, hj23, hJ23, h⟩
    rcases k with _ | k
    ·
     have hk36 := h; obtain ⟨o23, h⟩ := ex_eq (Sum.inr (Sum.inl s4) : (List Int) ⊕ (((List Int)) ⊕ ((List Int))))
     have hc23 : decide (v22 < (IntKind.i64.wrap (v17 + 1))) = false := decide_eq_false (by omega)
     refine WC.seq ?_
     refine WC.rs [(0, 2)] rfl ?_
     refine WO.pn 1 rfl ?_
     refine WO.fin ?_
     refine DN.seq ?_
     refine WC.seq ?_
     refine WC.cf' rfl hc23 ?_
     refine WC.exit ?_
     refine DN.exitThen ?_
     refine DN.exitThen ?_
     obtain rfl := Option.some.inj h
     have h := hk36
     refine DN.hit ?_
     obtain rfl := Option.some.inj h
     exact DN.meet _ ⟨K32, (s4 : (List Int)), rfl, S33.wk rfl, f34, hn35, rfl⟩ fun a ha => (ha.more (ha.more (ha.more (ha.more ha.nil rfl) rfl) rfl) rfl)
    ·
     obtain ⟨o23, h, hk36⟩ := Option.bind_eq_some_iff.mp h; unfold i_alikeStates_b2 at h
     have hc23 : decide (v22 < (IntKind.i64.wrap (v17 + 1))) = true := decide_eq_true (by omega)
     refine WC.seq ?_
     refine WC.rs [(0, 2)] rfl ?_
     refine WO.pn 1 rfl ?_
     refine WO.fin ?_
     refine DN.seq ?_
     refine WC.seq ?_
     refine WC.ct' rfl hc23 ?_
     refine WC.skip ?_
     refine DN.seq ?_
     refine WC.seq ?_
     refine WC.block ?_
     refine WC.seq ?_
     refine WC.rs [(0, 2), (1, 2)] rfl ?_
     refine WO.pn 2 rfl ?_
     refine WO.fin ?_
     refine DN.seq ?_
     refine WC.seq ?_
     refine WC.rx (κ := K32) 3 none [(0, 2), (2, 2), (5, 2), (7, 2), (1, 0), (3, 2), (4, 0), (6, 0), (8, 2), (9, 0), (10, 1)] [] (by kernel_rfl) (by kernel_rfl) fun w38 S37 => ?_
     refine WO.k2 rfl rfl rfl rfl (rn_fieldAddr Try.runUnderlying84 rfl Try.sizeOf25 rfl rfl) ?_
     refine WO.pn 1 rfl ?_
     refine WO.k2 rfl rfl rfl rfl (rn_fieldAddr Try.runUnderlying84 rfl Try.sizeOf25 rfl rfl) ?_
     refine WO.pn 1 rfl ?_
     have f39 := f4.stp (S7.tr (S19.tr (S33.tr S37))) rfl rfl
     refine WO.k0 rfl rfl rfl rfl (rn_ld Try.isAgg25 rfl rfl (hvC (f39.ld 1 rfl rfl) rfl)) ?_
     obtain ⟨x28, hx28, h⟩ := Option.bind_eq_some_iff.mp h
     refine WO.k2 rfl rfl rfl rfl (rn_index g0_1 hx28 Try.runUnderlying25 Try.sizeOf24 rfl rfl rfl rfl) ?_
     have f40 := g0_1.stp (S3.tr (S7.tr (S19.tr (S33.tr S37)))) rfl rfl
     obtain ⟨ax28, ux28, f41, hl42⟩ := f40.gSl hx28
     refine WO.k0 rfl rfl rfl rfl (rn_ld Try.isAgg24 rfl rfl (hvC hl42 rfl)) ?_
     refine WO.k0 rfl rfl rfl rfl (rn_ld Try.isAgg25 rfl rfl (hvC (f39.ld 1 rfl rfl) rfl)) ?_
     obtain ⟨x33, hx33, h⟩ := Option.bind_eq_some_iff.mp h
     refine WO.k2 rfl rfl rfl rfl (rn_index f40 hx33 Try.runUnderlying25 Try.sizeOf24 rfl rfl rfl rfl) ?_
     obtain ⟨ax33, ux33, f43, hl44⟩ := f40.gSl hx33
     refine WO.k0 rfl rfl rfl rfl (rn_ld Try.isAgg24 rfl rfl (hvC hl44 rfl)) ?_
     obtain ⟨x35, hx35, h⟩ := Option.bind_eq_some_iff.mp h
     refine WO.call rfl rfl rfl rfl rfl rfl Try.call75 (slices_Equal_I_int64_ok (κ := fun b => mp [] 0 (K32 b)) (Sl.map f41 (mp [] 0) rfl rfl) (Sl.map f43 (mp [] 0) rfl rfl) hx35) ?_
     rintro _ w45 ⟨k46, rfl, e47⟩
     obtain ⟨K48, S49, m50⟩ := Ent.mixed (l := []) (κ := K32) e47 4 rfl
     refine ⟨(S49.cl rfl), ?_⟩
     refine WO.nx ?_
     refine WO.fin ?_
     refine DN.seq ?_
     revert h
     cases ht52 : x35 with
     | true =>
      intro h; replace h := cT h
      refine WC.ct rfl ?_
      refine WC.seq ?_
      refine WC.rs [(0, 2), (1, 2), (2, 2), (3, 2), (4, 1)] rfl ?_
      refine WO.pn 3 rfl ?_
      obtain ⟨x39, hx39, h⟩ := Option.bind_eq_some_iff.mp h
      refine WO.k2 rfl rfl rfl rfl (rn_index f34.rdc hx39 Try.runUnderlying24 Try.sizeOf2 rfl rfl hn35 rfl) ?_
      have f53 := f34.stp (S37.tr S49) rfl rfl
      obtain ⟨y15, hy15, h⟩ := Option.bind_eq_some_iff.mp h
      refine WO.stI (κ := K48) (E := (Ep.int .i64)) 3 [] rfl rfl rfl rfl rfl rfl rfl rfl Try.sizeOf2 rfl rfl rfl rfl f53 hy15 fun w54 K55 S56 f57 => ⟨trivial, ?_⟩
      have hn58 : x14.length = y15.length := hn35.trans (setI_ok hy15).2.2.2.symm
      refine WO.fin ?_
      refine DN.seq ?_
      refine WC.exit ?_
      refine DN.miss rfl ?_
      refine DN.exitThen ?_
      refine DN.exitThen ?_
      obtain rfl := Option.some.inj h
      have h := hk36
      refine DN.hit ?_
      obtain rfl := Option.some.inj h
      exact DN.meet _ ⟨K55, (y15 : (List Int)), rfl, (S33.tr (S37.tr (S49.tr S56))).wk rfl, f57, hn58, rfl⟩ fun a ha => (ha.more (ha.more (ha.more (ha.more ha.nil rfl) rfl) rfl) rfl)
     | false =>
      intro h; replace h := cF h
      refine WC.cf rfl ?_
      refine WC.skip ?_
      refine DN.block ?_
      refine DN.seq ?_
      refine WC.rs [(0, 2), (1, 2)] rfl ?_
      refine WO.pn 2 rfl ?_
      refine WO.fin ?_
      have hw23 : IntKind.wrap .i64 (v22 + 1) = v22 + 1 := wr1 hj23 (of_decide_eq_true hc23) hN23
      rw [hw23]
      have hc23 := of_decide_eq_true hc23
      have f59 := f34.stp (S37.tr S49) rfl rfl
      obtain rfl := Option.some.inj h
      refine DN.round fun a ha => ?_
      exact ⟨k, _, Nat.lt_succ_self _, ⟨K48, v22 + 1, (s4 : (List Int)), rfl, (S33.tr (S37.tr S49)).wk rfl, f59, hn35, by omega, by omega, hk36⟩, (ha.more (ha.more (ha.more (ha.more (ha.more (ha.more (ha.more ha.nil rfl) rfl) rfl) rfl) rfl) rfl) rfl)⟩
   rintro _ w26 ⟨K27, s6, rfl, S28, f29, hn30, rfl⟩
   have h := hK24
   dsimp only [aft] at h
   refine DN.block ?_
   refine DN.seq ?_
   refine WC.rs [(0, 2), (1, 2)] rfl ?_
   refine WO.pn 2 rfl ?_
   refine WO.fin ?_
   have hw9 : IntKind.wrap .i64 (v17 + 1) = v17 + 1 := wr1 hj9 (of_decide_eq_true hc9) hN9
   rw [hw9]
   have hc9 := of_decide_eq_true hc9
   obtain rfl := Option.some.inj h
   refine DN.round fun a ha => ?_
   exact ⟨k, _, Nat.lt_succ_self _, ⟨K27, v17 + 1, (s6 : (List Int)), rfl, (S19.tr S28).wk rfl, f29, hn30, by omega, by omega, hk22⟩, (ha.more (ha.more (ha.more (ha.more ha.nil rfl) rfl) rfl) rfl)⟩
 rintro _ w12 ⟨K13, s3, rfl, S14, f15, hn16, rfl⟩
 have h := hK10
 dsimp only [aft] at h
 refine DN.seq ?_
 obtain ⟨q8, hq62, hK61⟩ := Option.bind_eq_some_iff.mp h
 clear h
 refine WC.block ?_
 refine WC.loop (fun k L w' => ∃ (κ' : Col) (s7 : (List Int)) (las7_0 : Option Addr) (lus7_0 : Nat), L = [(1, .pointer (some ⟨b1, 0, none⟩)), (3, .slice las7_0 s7.length lus7_0)] ∧ Stp [4] K13 w12 κ' w' ∧ Oc (Ep.int .i64) 2 κ' w' 3 las7_0 lus7_0 s7 ∧ whileM (i_alikeStates_b4 p0) k s7 = some q8) ⟨_, _, ⟨K13, (s3 : (List Int)), a14, u14, rfl, (Stp.refl _ _).wk rfl, f15, hq62⟩, fun a ha => (ha.more (ha.moreE ha.nil rfl (congrArg (fun n => Value.slice a14 n u14) hn16)) rfl)⟩ ?_
 rintro k _ w63 ⟨K64, s7, las7_0, lus7_0, rfl, S65, f66, h⟩
 rcases k with _ | k
 ·
  cases h
 ·
  obtain ⟨o60, h, hk67⟩ := Option.bind_eq_some_iff.mp h; unfold i_alikeStates_b4 at h
  refine WC.block ?_
  refine WC.seq ?_
  refine WC.rs [(0, 2), (1, 2), (2, 1), (3, 2)] rfl ?_
  refine WO.pn 1 rfl ?_
  refine WO.k2 rfl rfl rfl rfl (rn_len Try.runUnderlying24 rfl rfl) ?_
  obtain ⟨x44, hx44, h⟩ := Option.bind_eq_some_iff.mp h
  refine WO.mk (κ := K64) (E := (Ep.int .i64)) (z := (0 : Int)) 4 rfl rfl rfl rfl rfl rfl rfl Try.underlying24 Tryinfo2 rfl rfl rfl rfl rfl (fun _ _ _ => rfl) (mkS_C hx44) fun a44 u44 w68 K69 S70 f71 => ⟨trivial, ?_⟩
  refine WO.pn 1 rfl ?_
  refine WO.fin ?_
  refine DN.seq ?_
  refine WC.seq ?_
  refine WC.seq ?_
  refine WC.rs [(0, 2), (1, 2), (2, 2)] rfl ?_
  refine WO.pn 1 rfl ?_
  refine WO.k2 rfl rfl rfl rfl (rn_len Try.runUnderlying24 rfl rfl) ?_
  refine WO.pn 1 rfl ?_
  refine WO.fin ?_
  refine DN.seq ?_
  have hN72 : (s7.length : Int) ≤ 9223372036854775807 := f66.len_le
  obtain ⟨q11, hq74, hK73⟩ := Option.bind_eq_some_iff.mp h
  clear h
  refine WC.meet (fun L w' => ∃ (κ' : Col) (s12 : (List Int)), L = [(1, .pointer (some ⟨b1, 0, none⟩)), (3, .slice las7_0 s7.length lus7_0), (6, .slice a44 x44.length u44)] ∧ Stp [4] K69 w68 κ' w' ∧ Oc (Ep.int .i64) 2 κ' w' 4 a44 u44 s12 ∧ x44.length = s12.length ∧ q11 = Sum.inr s12) ?_ ?_
  ·
   refine WC.block ?_
   refine WC.loop (fun k L w' => ∃ (κ' : Col) (v47 : Int) (s10 : (List Int)), L = [(1, .pointer (some ⟨b1, 0, none⟩)), (3, .slice las7_0 s7.length lus7_0), (6, .slice a44 x44.length u44), (46, .int .i64 (s7.length : Int)), (47, .int .i64 v47)] ∧ Stp [4] K69 w68 κ' w' ∧ Oc (Ep.int .i64) 2 κ' w' 4 a44 u44 s10 ∧ x44.length = s10.length ∧ 0 ≤ v47 ∧ Int.toNat ((s7.length : Int) - v47) = k ∧ cntM (i_alikeStates_b6 p0 s7) k v47 s10 = some q11) ⟨_, _, ⟨K69, 0, (x44 : (List Int)), rfl, (Stp.refl _ _).wk rfl, f71, rfl, (by decide), (by simp), hq74⟩, fun a ha => (ha.more (ha.more (ha.more (ha.more (ha.more ha.nil rfl) rfl) rfl) rfl) rfl)⟩ ?_
   rintro k _ w80 ⟨K81, v47, s10, rfl, S82, f83, hn84, hj72, hJ72, h⟩
   rcases k with _ | k
   ·
    have hk85 := h; obtain ⟨o72, h⟩ := ex_eq (Sum.inr (Sum.inl s10) : (List Int) ⊕ (((List Int)) ⊕ ((List Int))))
    have hc72 : decide (v47 < (s7.length : Int)) = false := decide_eq_false (by omega)
    refine WC.seq ?_
    refine WC.rs [(0, 2)] rfl ?_
    refine WO.pn 1 rfl ?_
    refine WO.fin ?_
    refine DN.seq ?_
    refine WC.seq ?_
    refine WC.cf' rfl hc72 ?_
    refine WC.exit ?_
    refine DN.exitThen ?_
    refine DN.exitThen ?_
    obtain rfl := Option.some.inj h
    have h := hk85
    refine DN.hit ?_
    obtain rfl := Option.some.inj h
    exact DN.meet _ ⟨K81, (s10 : (List Int)), rfl, S82.wk rfl, f83, hn84, rfl⟩ fun a ha => (ha.more (ha.more (ha.more ha.nil rfl) rfl) rfl)
   ·
    obtain ⟨o72, h, hk85⟩ := Option.bind_eq_some_iff.mp h; unfold i_alikeStates_b6 at h
    have hc72 : decide (v47 < (s7.length : Int)) = true := decide_eq_true (by omega)
    refine WC.seq ?_
    refine WC.rs [(0, 2)] rfl ?_
    refine WO.pn 1 rfl ?_
    refine WO.fin ?_
    refine DN.seq ?_
    refine WC.seq ?_
    refine WC.ct' rfl hc72 ?_
    refine WC.skip ?_
    refine DN.seq ?_
    refine WC.seq ?_
    refine WC.block ?_
    refine WC.seq ?_
    refine WC.rs [(0, 2), (1, 2)] rfl ?_
    refine WO.pn 2 rfl ?_
    refine WO.fin ?_
    refine DN.seq ?_
    refine WC.seq ?_
    refine WC.rs [(0, 2), (1, 2), (2, 2)] rfl ?_
    refine WO.pn 3 rfl ?_
    refine WO.fin ?_
    refine DN.seq ?_
    obtain ⟨_, hr86, h⟩ := Option.bind_eq_some_iff.mp h
    have hN86 := rng_ok hr86
    obtain ⟨q14, hq88, hK87⟩ := Option.bind_eq_some_iff.mp h
    clear h
    refine WC.meet (fun L w' => ∃ (κ' : Col) (s15 : (List Int)), L = [(1, .pointer (some ⟨b1, 0, none⟩)), (3, .slice las7_0 s7.length lus7_0), (6, .slice a44 x44.length u44), (46, .int .i64 (s7.length : Int)), (47, .int .i64 v47)] ∧ Stp [4] K81 w80 κ' w' ∧ Oc (Ep.int .i64) 2 κ' w' 4 a44 u44 s15 ∧ x44.length = s15.length ∧ q14 = Sum.inr s15) ?_ ?_
    ·
     refine WC.block ?_
     refine WC.loop (fun k L w' => ∃ (κ' : Col) (v52 : Int) (s13 : (List Int)), L = [(1, .pointer (some ⟨b1, 0, none⟩)), (3, .slice las7_0 s7.length lus7_0), (6, .slice a44 x44.length u44), (7, .int .i64 v47), (46, .int .i64 (s7.length : Int)), (47, .int .i64 v47), (51, .int .i64 (IntKind.i64.wrap (v47 + 1))), (52, .int .i64 v52)] ∧ Stp [4] K81 w80 κ' w' ∧ Oc (Ep.int .i64) 2 κ' w' 4 a44 u44 s13 ∧ x44.length = s13.length ∧ 0 ≤ v52 ∧ Int.toNat ((IntKind.i64.wrap (v47 + 1)) - v52) = k ∧ cntM (i_alikeStates_b8 p0 s7 v47) k v52 s13 = some q14) ⟨_, _, ⟨K81, 0, (s10 : (List Int)), rfl, (Stp.refl _ _).wk rfl, f83, hn84, (by decide), (by simp), hq88⟩, fun a ha => (ha.more (ha.more (ha.more (ha.more (ha.more (ha.more (ha.more (ha.more ha.nil rfl) rfl) rfl) rfl) rfl) rfl) rfl) rfl)⟩ ?_
     rintro k _ w94 ⟨K95, v52, s13, rfl, S96, f97, hn98, hj86, hJ86, h⟩
     rcases k with _ | k
     ·
      have hk99 := h; obtain ⟨o86, h⟩ := ex_eq (Sum.inr (Sum.inl s13) : (List Int) ⊕ (((List Int)) ⊕ ((List Int))))
      have hc86 : decide (v52 < (IntKind.i64.wrap (v47 + 1))) = false := decide_eq_false (by omega)
      refine WC.seq ?_
      refine WC.rs [(0, 2)] rfl ?_
      refine WO.pn 1 rfl ?_
      refine WO.fin ?_
      refine DN.seq ?_
      refine WC.seq ?_
      refine WC.cf' rfl hc86 ?_
      refine WC.exit ?_
      refine DN.exitThen ?_
      refine DN.exitThen ?_
      obtain rfl := Option.some.inj h
      have h := hk99
      refine DN.hit ?_
      obtain rfl := Option.some.inj h
      exact DN.meet _ ⟨K95, (s13 : (List Int)), rfl, S96.wk rfl, f97, hn98, rfl⟩ fun a ha => (ha.more (ha.more (ha.more (ha.more (ha.more ha.nil rfl) rfl) rfl) rfl) rfl)
     ·
      obtain ⟨o86, h, hk99⟩ := Option.bind_eq_some_iff.mp h; unfold i_alikeStates_b8 at h
      have hc86 : decide (v52 < (IntKind.i64.wrap (v47 + 1))) = true := decide_eq_true (by omega)
      refine WC.seq ?_
      refine WC.rs [(0, 2)] rfl ?_
      refine WO.pn 1 rfl ?_
      refine WO.fin ?_
      refine DN.seq ?_
      refine WC.seq ?_
      refine WC.ct' rfl hc86 ?_
      refine WC.skip ?_
      refine DN.seq ?_
      refine WC.seq ?_
      refine WC.block ?_
      refine WC.seq ?_
      refine WC.rs [(0, 2), (1, 2)] rfl ?_
      refine WO.pn 2 rfl ?_
      refine WO.fin ?_
      refine DN.seq ?_
      refine WC.seq ?_
      refine WC.rx (κ := K95) 4 none [(0, 2), (1, 2), (2, 2), (4, 2), (5, 2), (6, 2), (3, 0), (7, 0), (8, 2), (9, 2)] [] (by kernel_rfl) (by kernel_rfl) fun w101 S100 => ?_
      refine WO.pn 2 rfl ?_
      obtain ⟨x57, hx57, h⟩ := Option.bind_eq_some_iff.mp h
      refine WO.k2 rfl rfl rfl rfl (rn_index f66.rdc hx57 Try.runUnderlying24 Try.sizeOf2 rfl rfl rfl rfl) ?_
      refine WO.pn 2 rfl ?_
      obtain ⟨x61, hx61, h⟩ := Option.bind_eq_some_iff.mp h
      refine WO.k2 rfl rfl rfl rfl (rn_index f66.rdc hx61 Try.runUnderlying24 Try.sizeOf2 rfl rfl rfl rfl) ?_
      have f102 := f66.stp (S70.tr (S82.tr (S96.tr S100))) rfl rfl
      refine WO.k0 rfl rfl rfl rfl (rn_ld Try.isAgg2 rfl rfl (hvC (f102.rdc.gInt hx57) rfl)) ?_
      refine WO.k0 rfl rfl rfl rfl (rn_ld Try.isAgg2 rfl rfl (hvC (f102.rdc.gInt hx61) rfl)) ?_
      refine WO.pn 2 rfl ?_
      refine WO.nx ?_
      refine WO.fin ?_
      refine DN.seq ?_
      refine WC.seq ?_
      refine WC.seq ?_
      refine WC.rs [(0, 2), (1, 1), (2, 2), (3, 2), (4, 1), (5, 2), (6, 2)] rfl ?_
      refine WO.k2 rfl rfl rfl rfl (rn_fieldAddr Try.runUnderlying84 rfl Try.sizeOf25 rfl rfl) ?_
      have f103 := f4.stp (S7.tr (S14.tr (S65.tr (S70.tr (S82.tr (S96.tr S100)))))) rfl rfl
      refine WO.k1 trivial rfl rfl rfl rfl (rn_ld Try.isAgg25 rfl rfl (hvE (f103.ld 0 rfl rfl))) ?_
      refine WO.pn 1 rfl ?_
      obtain ⟨x67, hx67, h⟩ := Option.bind_eq_some_iff.mp h
      refine WO.k2 rfl rfl rfl rfl (rn_index g0_0 hx67 Try.runUnderlying25 Try.sizeOf24 rfl rfl rfl rfl) ?_
      have f104 := g0_0.stp (S3.tr (S7.tr (S14.tr (S65.tr (S70.tr (S82.tr (S96.tr S100))))))) rfl rfl
      obtain ⟨ax67, ux67, f105, hl106⟩ := f104.gSl hx67
      refine WO.k1 trivial rfl rfl rfl rfl (rn_ld Try.isAgg24 rfl rfl (hvE hl106)) ?_
      refine WO.k2 rfl rfl rfl rfl (rn_len Try.runUnderlying24 rfl rfl) ?_
      refine WO.pn 1 rfl ?_
      refine WO.fin ?_
      refine DN.seq ?_
      have hN107 : (x67.length : Int) ≤ 9223372036854775807 := f105.len_le
      obtain ⟨q17, hq109, hK108⟩ := Option.bind_eq_some_iff.mp h
      clear h
      refine WC.meet (fun L w' => ∃ (κ' : Col) (s18 : Bool), L = [(1, .pointer (some ⟨b1, 0, none⟩)), (3, .slice las7_0 s7.length lus7_0), (6, .slice a44 x44.length u44), (7, .int .i64 v47), (8, .int .i64 v52), (9, .bool s18), (46, .int .i64 (s7.length : Int)), (47, .int .i64 v47), (51, .int .i64 (IntKind.i64.wrap (v47 + 1))), (52, .int .i64 v52)] ∧ Stp [] K95 w101 κ' w' ∧ q17 = Sum.inr s18) ?_ ?_
      ·
       refine WC.block ?_
       refine WC.loop (fun k L w' => ∃ (κ' : Col) (v70 : Int) (s16 : Bool), L = [(1, .pointer (some ⟨b1, 0, none⟩)), (3, .slice las7_0 s7.length lus7_0), (6, .slice a44 x44.length u44), (7, .int .i64 v47), (8, .int .i64 v52), (9, .bool s16), (46, .int .i64 (s7.length : Int)), (47, .int .i64 v47), (51, .int .i64 (IntKind.i64.wrap (v47 + 1))), (52, .int .i64 v52), (69, .int .i64 (x67.length : Int)), (70, .int .i64 v70)] ∧ Stp [] K95 w101 κ' w' ∧ 0 ≤ v70 ∧ Int.toNat ((x67.length : Int) - v70) = k ∧ cntM (i_alikeStates_b10 p0 s7 v47 v52) k v70 s16 = some q17) ⟨_, _, ⟨K95, 0, ((x57 == x61) : Bool), rfl, (Stp.refl _ _).wk rfl, (by decide), (by simp), hq109⟩, fun a ha => (ha.more (ha.more (ha.more (ha.more (ha.more (ha.more (ha.more (ha.more (ha.more (ha.more (ha.more (ha.more ha.nil rfl) rfl) rfl) rfl) rfl) rfl) rfl) rfl) rfl) rfl) rfl) rfl)⟩ ?_
       rintro k _ w113 ⟨K114, v70, s16, rfl, S115, hj107, hJ107, h⟩
       rcases k with _ | k
       ·
        have hk116 := h; obtain ⟨o107, h⟩ := ex_eq (Sum.inr (Sum.inl s16) : (List Int) ⊕ ((Bool) ⊕ (Bool)))
        have hc107 : decide (v70 < (x67.length : Int)) = false := decide_eq_false (by omega)
        refine WC.seq ?_
        refine WC.rs [(0, 2)] rfl ?_
        refine WO.pn 1 rfl ?_
        refine WO.fin ?_
        refine DN.seq ?_
        refine WC.seq ?_
        refine WC.cf' rfl hc107 ?_
        refine WC.exit ?_
        refine DN.exitThen ?_
        refine DN.exitThen ?_
        obtain rfl := Option.some.inj h
        have h := hk116
        refine DN.hit ?_
        obtain rfl := Option.some.inj h
        exact DN.meet _ ⟨K114, (s16 : Bool), rfl, S115.wk rfl, rfl⟩ fun a ha => (ha.more (ha.more (ha.more (ha.more (ha.more (ha.more (ha.more (ha.more (ha.more (ha.more ha.nil rfl) rfl) rfl) rfl) rfl) rfl) rfl) rfl) rfl) rfl)
       ·
        obtain ⟨o107, h, hk116⟩ := Option.bind_eq_some_iff.mp h; unfold i_alikeStates_b10 at h
        have hc107 : decide (v70 < (x67.length : Int)) = true := decide_eq_true (by omega)
        refine WC.seq ?_
        refine WC.rs [(0, 2)] rfl ?_
        refine WO.pn 1 rfl ?_
        refine WO.fin ?_
        refine DN.seq ?_
        refine WC.seq ?_
        refine WC.ct' rfl hc107 ?_
        refine WC.skip ?_
        refine DN.seq ?_
        refine WC.seq ?_
        refine WC.block ?_
        refine WC.seq ?_
        refine WC.rs [(0, 2), (1, 2)] rfl ?_
        refine WO.pn 2 rfl ?_
        refine WO.fin ?_
        refine DN.seq ?_
        refine WC.rx (κ := K114) 4 none [(0, 2), (1, 2), (2, 2), (3, 2), (5, 2), (8, 2), (13, 2), (14, 2), (16, 2), (19, 2), (4, 0), (6, 2), (7, 0), (9, 2), (10, 0), (11, 2), (12, 0), (15, 0), (17, 2), (18, 0), (20, 2), (21, 0), (22, 2), (23, 0), (24, 2), (25, 2), (26, 2)] [] (by kernel_rfl) (by kernel_rfl) fun w118 S117 => ?_
        refine WO.pn 2 rfl ?_
        obtain ⟨p98, h, hK119⟩ := Option.bind_eq_some_iff.mp h
        refine WO.meet [(2, 2), (3, 2), (5, 2), (8, 2), (13, 2), (14, 2), (16, 2), (19, 2), (4, 0), (6, 2), (7, 0), (9, 2), (10, 0), (11, 2), (12, 0), (15, 0), (17, 2), (18, 0), (20, 2), (21, 0), (22, 2), (23, 0), (24, 2), (25, 2)] [(26, 2)] (fun L w' => L = [(1, .pointer (some ⟨b1, 0, none⟩)), (3, .slice las7_0 s7.length lus7_0), (6, .slice a44 x44.length u44), (7, .int .i64 v47), (8, .int .i64 v52), (9, .bool s16), (46, .int .i64 (s7.length : Int)), (47, .int .i64 v47), (51, .int .i64 (IntKind.i64.wrap (v47 + 1))), (52, .int .i64 v52), (69, .int .i64 (x67.length : Int)), (70, .int .i64 v70), (98, .bool p98)] ∧ ∃ κ', Stp [] K114 w118 κ' w') (Cl.refl _ _ _) ?_ ?_
        ·
         revert h
         cases ht120 : s16 with
         | true =>
          intro h; replace h := cT h
          refine WO.pn 1 rfl ?_
          refine WO.k2 rfl rfl rfl rfl (rn_fieldAddr Try.runUnderlying84 rfl Try.sizeOf25 rfl rfl) ?_
          refine WO.pn 3 rfl ?_
          refine WO.k2 rfl rfl rfl rfl (rn_fieldAddr Try.runUnderlying84 rfl Try.sizeOf25 rfl rfl) ?_
          refine WO.pn 2 rfl ?_
          have f121 := f103.stp (S115.tr S117) rfl rfl
          refine WO.k0 rfl rfl rfl rfl (rn_ld Try.isAgg25 rfl rfl (hvC (f121.ld 0 rfl rfl) rfl)) ?_
          obtain ⟨x79, hx79, h⟩ := Option.bind_eq_some_iff.mp h
          refine WO.k2 rfl rfl rfl rfl (rn_index f104 hx79 Try.runUnderlying25 Try.sizeOf24 rfl rfl rfl rfl) ?_
          have f122 := f104.stp (S115.tr S117) rfl rfl
          obtain ⟨ax79, ux79, f123, hl124⟩ := f122.gSl hx79
          refine WO.k0 rfl rfl rfl rfl (rn_ld Try.isAgg24 rfl rfl (hvC hl124 rfl)) ?_
          obtain ⟨x82, hx82, h⟩ := Option.bind_eq_some_iff.mp h
          refine WO.k2 rfl rfl rfl rfl (rn_index f123 hx82 Try.runUnderlying24 Try.sizeOf2 rfl rfl rfl rfl) ?_
          refine WO.k0 rfl rfl rfl rfl (rn_ld Try.isAgg2 rfl rfl (hvC (f123.gInt hx82) rfl)) ?_
          obtain ⟨x84, hx84, h⟩ := Option.bind_eq_some_iff.mp h
          refine WO.k2 rfl rfl rfl rfl (rn_index f102.rdc hx84 Try.runUnderlying24 Try.sizeOf2 rfl rfl rfl rfl) ?_
          have f125 := f102.stp (S115.tr S117) rfl rfl
          refine WO.k0 rfl rfl rfl rfl (rn_ld Try.isAgg2 rfl rfl (hvC (f125.rdc.gInt hx84) rfl)) ?_
          refine WO.k0 rfl rfl rfl rfl (rn_ld Try.isAgg25 rfl rfl (hvC (f121.ld 0 rfl rfl) rfl)) ?_
          obtain ⟨x90, hx90, h⟩ := Option.bind_eq_some_iff.mp h
          refine WO.k2 rfl rfl rfl rfl (rn_index f122 hx90 Try.runUnderlying25 Try.sizeOf24 rfl rfl rfl rfl) ?_
          obtain ⟨ax90, ux90, f126, hl127⟩ := f122.gSl hx90
          refine WO.k0 rfl rfl rfl rfl (rn_ld Try.isAgg24 rfl rfl (hvC hl127 rfl)) ?_
          obtain ⟨x93, hx93, h⟩ := Option.bind_eq_some_iff.mp h
          refine WO.k2 rfl rfl rfl rfl (rn_index f126 hx93 Try.runUnderlying24 Try.sizeOf2 rfl rfl rfl rfl) ?_
          refine WO.k0 rfl rfl rfl rfl (rn_ld Try.isAgg2 rfl rfl (hvC (f126.gInt hx93) rfl)) ?_
          obtain ⟨x95, hx95, h⟩ := Option.bind_eq_some_iff.mp h
          refine WO.k2 rfl rfl rfl rfl (rn_index f125.rdc hx95 Try.runUnderlying24 Try.sizeOf2 rfl rfl rfl rfl) ?_
          refine WO.k0 rfl rfl rfl rfl (rn_ld Try.isAgg2 rfl rfl (hvC (f125.rdc.gInt hx95) rfl)) ?_
          refine WO.pn 2 rfl ?_
          obtain rfl := Option.some.inj h
          exact WO.met _ (Cl.refl _ _ _) ⟨rfl, _, (Stp.refl _ _).wk rfl⟩ fun a ha => (ha.more (ha.more (ha.more (ha.more (ha.more (ha.more (ha.more (ha.more (ha.more (ha.more (ha.more (ha.more (ha.more ha.nil rfl) rfl) rfl) rfl) rfl) rfl) rfl) rfl) rfl) rfl) rfl) rfl) rfl)
         | false =>
          intro h; replace h := cF h
          refine WO.pn 8 rfl ?_
          refine WO.qs rfl rfl rfl rfl ?_
          refine WO.pn 1 rfl ?_
          refine WO.qs rfl rfl rfl rfl ?_
          refine WO.pn 1 rfl ?_
          refine WO.qs rfl rfl rfl rfl ?_
          refine WO.pn 1 rfl ?_
          refine WO.qs rfl rfl rfl rfl ?_
          refine WO.qs rfl rfl rfl rfl ?_
          refine WO.pn 1 rfl ?_
          refine WO.qs rfl rfl rfl rfl ?_
          refine WO.pn 1 rfl ?_
          refine WO.qs rfl rfl rfl rfl ?_
          refine WO.pn 1 rfl ?_
          refine WO.qs rfl rfl rfl rfl ?_
          refine WO.pn 2 rfl ?_
          obtain rfl := Option.some.inj h
          exact WO.met _ (Cl.refl _ _ _) ⟨rfl, _, (Stp.refl _ _).wk rfl⟩ fun a ha => (ha.more (ha.more (ha.more (ha.more (ha.more (ha.more (ha.more (ha.more (ha.more (ha.more (ha.more (ha.more (ha.more ha.nil rfl) rfl) rfl) rfl) rfl) rfl) rfl) rfl) rfl) rfl) rfl) rfl) rfl)
        rintro _ w128 _ ⟨rfl, K129, S130⟩
        have h := hK119
        refine WO.pn 1 rfl ?_
        refine WO.nx ?_
        refine WO.fin ?_
        refine DN.block ?_
        refine DN.seq ?_
        refine WC.rs [(0, 2), (1, 2)] rfl ?_
        refine WO.pn 2 rfl ?_
        refine WO.fin ?_
        have hw107 : IntKind.wrap .i64 (v70 + 1) = v70 + 1 := wr1 hj107 (of_decide_eq_true hc107) hN107
        rw [hw107]
        have hc107 := of_decide_eq_true hc107
        obtain rfl := Option.some.inj h
        refine DN.round fun a ha => ?_
        exact ⟨k, _, Nat.lt_succ_self _, ⟨K129, v70 + 1, (p98 : Bool), rfl, (S115.tr (S117.tr S130)).wk rfl, by omega, by omega, hk116⟩, (ha.more (ha.more (ha.more (ha.more (ha.more (ha.more (ha.more (ha.more (ha.more (ha.more (ha.more (ha.more ha.nil rfl) rfl) rfl) rfl) rfl) rfl) rfl) rfl) rfl) rfl) rfl) rfl)⟩
      rintro _ w110 ⟨K111, s18, rfl, S112, rfl⟩
      have h := hK108
      dsimp only [aft] at h
      refine DN.seq ?_
      refine WC.seq ?_
      refine WC.rs [(0, 2)] rfl ?_
      refine WO.pn 1 rfl ?_
      refine WO.fin ?_
      refine DN.seq ?_
      revert h
      cases ht131 : s18 with
      | true =>
       intro h; replace h := cT h
       refine WC.ct rfl ?_
       refine WC.seq ?_
       refine WC.rs [(0, 2), (1, 2), (2, 2), (3, 2), (4, 1)] rfl ?_
       refine WO.pn 3 rfl ?_
       obtain ⟨x104, hx104, h⟩ := Option.bind_eq_some_iff.mp h
       refine WO.k2 rfl rfl rfl rfl (rn_index f97.rdc hx104 Try.runUnderlying24 Try.sizeOf2 rfl rfl hn98 rfl) ?_
       have f132 := f97.stp (S100.tr S112) rfl rfl
       obtain ⟨y17, hy17, h⟩ := Option.bind_eq_some_iff.mp h
       refine WO.stI (κ := K111) (E := (Ep.int .i64)) 4 [] rfl rfl rfl rfl rfl rfl rfl rfl Try.sizeOf2 rfl rfl rfl rfl f132 hy17 fun w133 K134 S135 f136 => ⟨trivial, ?_⟩
       have hn137 : x44.length = y17.length := hn98.trans (setI_ok hy17).2.2.2.symm
       refine WO.fin ?_
       refine DN.seq ?_
       refine WC.exit ?_
       refine DN.miss rfl ?_
       refine DN.exitThen ?_
       refine DN.exitThen ?_
       obtain rfl := Option.some.inj h
       have h := hk99
       refine DN.hit ?_
       obtain rfl := Option.some.inj h
       exact DN.meet _ ⟨K134, (y17 : (List Int)), rfl, (S96.tr (S100.tr (S112.tr S135))).wk rfl, f136, hn137, rfl⟩ fun a ha => (ha.more (ha.more (ha.more (ha.more (ha.more ha.nil rfl) rfl) rfl) rfl) rfl)
      | false =>
       intro h; replace h := cF h
       refine WC.cf rfl ?_
       refine WC.skip ?_
       refine DN.block ?_
       refine DN.seq ?_
       refine WC.rs [(0, 2), (1, 2)] rfl ?_
       refine WO.pn 2 rfl ?_
       refine WO.fin ?_
       have hw86 : IntKind.wrap .i64 (v52 + 1) = v52 + 1 := wr1 hj86 (of_decide_eq_true hc86) hN86
       rw [hw86]
       have hc86 := of_decide_eq_true hc86
       have f138 := f97.stp (S100.tr S112) rfl rfl
       obtain rfl := Option.some.inj h
       refine DN.round fun a ha => ?_
       exact ⟨k, _, Nat.lt_succ_self _, ⟨K111, v52 + 1, (s13 : (List Int)), rfl, (S96.tr (S100.tr S112)).wk rfl, f138, hn98, by omega, by omega, hk99⟩, (ha.more (ha.more (ha.more (ha.more (ha.more (ha.more (ha.more (ha.more ha.nil rfl) rfl) rfl) rfl) rfl) rfl) rfl) rfl)⟩
    rintro _ w89 ⟨K90, s15, rfl, S91, f92, hn93, rfl⟩
    have h := hK87
    dsimp only [aft] at h
    refine DN.block ?_
    refine DN.seq ?_
    refine WC.rs [(0, 2), (1, 2)] rfl ?_
    refine WO.pn 2 rfl ?_
    refine WO.fin ?_
    have hw72 : IntKind.wrap .i64 (v47 + 1) = v47 + 1 := wr1 hj72 (of_decide_eq_true hc72) hN72
    rw [hw72]
    have hc72 := of_decide_eq_true hc72
    obtain rfl := Option.some.inj h
    refine DN.round fun a ha => ?_
    exact ⟨k, _, Nat.lt_succ_self _, ⟨K90, v47 + 1, (s15 : (List Int)), rfl, (S82.tr S91).wk rfl, f92, hn93, by omega, by omega, hk85⟩, (ha.more (ha.more (ha.more (ha.more (ha.more ha.nil rfl) rfl) rfl) rfl) rfl)⟩
  rintro _ w75 ⟨K76, s12, rfl, S77, f78, hn79, rfl⟩
  have h := hK73
  dsimp only [aft] at h
  refine DN.seq ?_
  refine WC.seq ?_
  refine WC.seq ?_
  refine WC.rs [(0, 2), (1, 2), (2, 1)] rfl ?_
  refine WO.pn 2 rfl ?_
  obtain ⟨x109, hx109, h⟩ := Option.bind_eq_some_iff.mp h
  have f139 := f66.stp (S70.tr S77) rfl rfl
  refine WO.call rfl rfl rfl rfl rfl rfl Try.call75 (Ret.cast (by simp only [hn79]) (slices_Equal_I_int64_ok (κ := fun b => mp [] 0 (K76 b)) (Sl.map f78.rdc (mp [] 0) rfl rfl) (Sl.map f139.rdc (mp [] 0) rfl rfl) hx109)) ?_
  rintro _ w140 ⟨k141, rfl, e142⟩
  obtain ⟨K143, S144, m145⟩ := Ent.mixed (l := []) (κ := K76) e142 5 rfl
  refine ⟨trivial, ?_⟩
  refine WO.fin ?_
  refine DN.seq ?_
  revert h
  cases ht147 : x109 with
  | true =>
   intro h; replace h := cT h
   refine WC.ct rfl ?_
   refine WC.seq ?_
   refine WC.rs [(0, 2), (1, 2)] rfl ?_
   refine WO.pn 2 rfl ?_
   refine WO.fin ?_
   refine DN.seq ?_
   refine WC.ret ?_
   refine DN.retThen ?_
   refine DN.retBlock ?_
   refine DN.retThen ?_
   obtain rfl := Option.some.inj h
   obtain rfl := Option.some.inj hk67
   have h := hK61
   dsimp only [aft] at h
   refine DN.retBlock ?_
   have f148 := hE.stp (S3.tr (S7.tr (S14.tr (S65.tr (S70.tr (S77.tr S144)))))) rfl rfl
   have f149 := f139.stp S144 rfl rfl
   refine DN.res (l := [.tmp 2]) Try.results127 (res_tmp rfl rfl) rfl ?_
   obtain rfl := Option.some.inj h
   exact ⟨(fun b => ren [(3, 2)] (K143 b)), las7_0, lus7_0, rfl, (f148.map (ren [(3, 2)]) rfl rfl), (f149.map (ren [(3, 2)]) rfl rfl)⟩
  | false =>
   intro h; replace h := cF h
   refine WC.cf rfl ?_
   refine WC.skip ?_
   refine DN.seq ?_
   refine WC.rs [(0, 2), (1, 2)] rfl ?_
   refine WO.pn 2 rfl ?_
   refine WO.fin ?_
   refine DN.block ?_
   have f150 := f78.stp S144 rfl rfl
   obtain rfl := Option.some.inj h
   refine DN.round fun a ha => ?_
   exact ⟨k, _, Nat.lt_succ_self _, ⟨(fun b => ren [(4, 3)] (K143 b)), (s12 : (List Int)), a44, u44, rfl, (Stp.ren ((S65.tr (S70.tr (S77.tr S144))).wk rfl) [(4, 3)] rfl), (f150.map (ren [(4, 3)]) rfl rfl), hk67⟩, (ha.more (ha.moreE ha.nil rfl (congrArg (fun n => Value.slice a44 n u44) hn79)) rfl)⟩

/- loop.example/g00869/laws.eqInt64SS -/
theorem l_eqInt64SS_ok {w : World} {κ : Col} {a0 : Option Addr} {u0 : Nat} {p0 : (List (List Int))} {a1 : Option Addr} {u1 : Nat} {p1 : (List (List Int))} (g0 : Rd (Rp.sl (Rp.int .i64)) κ w 0 a0 u0 p0) (g1 : Rd (Rp.sl (Rp.int .i64)) κ w 0 a1 u1 p1) {r : Bool} (h : l_eqInt64SS p0 p1 = some r) : Ret Try.prog 77 [.slice a0 p0.length u0, .slice a1 p1.length u1] w (fun v w' => ∃ (κ' : Col), v = .bool r ∧ Ent κ w κ' w') := by
 unfold l_eqInt64SS at h
 refine Ret.enter Try.func77 rfl Try.ntmps77 rfl ?_
 dsimp only [envOf]
 have hE := Ent.refl κ w
 refine WC.seq ?_
 refine WC.rs [(0, 2)] rfl ?_
 refine WO.pn 1 rfl ?_
 refine WO.fin ?_
 refine DN.seq ?_
 refine WC.seq ?_
 refine WC.seq ?_
 refine WC.rs [(0, 2), (1, 2), (2, 2), (3, 2), (4, 2)] rfl ?_
 refine WO.pn 1 rfl ?_
 refine WO.k2 rfl rfl rfl rfl (rn_len Try.runUnderlying25 rfl rfl) ?_
 refine WO.pn 1 rfl ?_
 refine WO.k2 rfl rfl rfl rfl (rn_len Try.runUnderlying25 rfl rfl) ?_
 refine WO.pn 1 rfl ?_
 refine WO.fin ?_
 refine DN.seq ?_
 revert h
 cases ht1 : ((p0.length : Int) != (p1.length : Int)) with
 | true =>
  intro h; replace h := cT h
  refine WC.ct rfl ?_
  refine WC.seq ?_
  refine WC.rs [(0, 2)] rfl ?_
  refine WO.pn 1 rfl ?_
  refine WO.fin ?_
  refine DN.seq ?_
  refine WC.ret ?_
  refine DN.retThen ?_
  refine DN.res (l := [.tmp 4]) Try.results77 (res_tmp rfl rfl) rfl ?_
  obtain rfl := Option.some.inj h
  exact ⟨κ, rfl, hE⟩
 | false =>
  intro h; replace h := cF h
  refine WC.cf rfl ?_
  refine WC.skip ?_
  refine DN.seq ?_
  refine WC.seq ?_
  refine WC.seq ?_
  refine WC.rs [(0, 2)] rfl ?_
  refine WO.pn 1 rfl ?_
  refine WO.fin ?_
  refine DN.seq ?_
  have hN2 : (p0.length : Int) ≤ 9223372036854775807 := g0.len_le
  obtain ⟨q2, hq4, hK3⟩ := Option.bind_eq_some_iff.mp h
  clear h
  refine WC.meet (fun L w' => ∃ (κ' : Col), L = [] ∧ Stp [] κ w κ' w' ∧ q2 = Sum.inr ()) ?_ ?_
  ·
   refine WC.block ?_
   refine WC.loop (fun k L w' => ∃ (κ' : Col) (v5 : Int), L = [(0, .slice a0 p0.length u0), (1, .slice a1 p1.length u1), (5, .int .i64 v5)] ∧ Stp [] κ w κ' w' ∧ 0 ≤ v5 ∧ Int.toNat ((p0.length : Int) - v5) = k ∧ cntM (l_eqInt64SS_b0 p0 p1) k v5 () = some q2) ⟨_, _, ⟨κ, 0, rfl, (Stp.refl _ _).wk rfl, (by decide), (by simp), hq4⟩, fun a ha => (ha.more (ha.more (ha.more ha.nil rfl) rfl) rfl)⟩ ?_
   rintro k _ w8 ⟨K9, v5, rfl, S10, hj2, hJ2, h⟩
   rcases k with _ | k
   ·
    have hk11 := h; obtain ⟨o2, h⟩ := ex_eq (Sum.inr (Sum.inl ()) : Bool ⊕ ((Unit) ⊕ (Unit)))
    have hc2 : decide (v5 < (p0.length : Int)) = false := decide_eq_false (by omega)
    refine WC.seq ?_
    refine WC.seq ?_
    refine WC.rs [(0, 2), (1, 2), (2, 2), (3, 2)] rfl ?_
    refine WO.pn 2 rfl ?_
    refine WO.k2 rfl rfl rfl rfl (rn_len Try.runUnderlying25 rfl rfl) ?_
    refine WO.pn 1 rfl ?_
    refine WO.fin ?_
    refine DN.seq ?_
    refine WC.cf' rfl hc2 ?_
    refine WC.exit ?_
    refine DN.exitThen ?_
    refine DN.exitThen ?_
    obtain rfl := Option.some.inj h
    have h := hk11
    refine DN.hit ?_
    obtain rfl := Option.some.inj h
    exact DN.meet _ ⟨K9, rfl, S10.wk rfl, rfl⟩ fun a ha => ha.nil
   ·
    obtain ⟨o2, h, hk11⟩ := Option.bind_eq_some_iff.mp h; unfold l_eqInt64SS_b0 at h
    have hc2 : decide (v5 < (p0.length : Int)) = true := decide_eq_true (by omega)
    refine WC.seq ?_
    refine WC.seq ?_
    refine WC.rs [(0, 2), (1, 2), (2, 2), (3, 2)] rfl ?_
    refine WO.pn 2 rfl ?_
    refine WO.k2 rfl rfl rfl rfl (rn_len Try.runUnderlying25 rfl rfl) ?_
    refine WO.pn 1 rfl ?_
    refine WO.fin ?_
    refine DN.seq ?_
    refine WC.ct' rfl hc2 ?_
    refine WC.skip ?_
    refine DN.seq ?_
    refine WC.seq ?_
    refine WC.block ?_
    refine WC.seq ?_
    refine WC.rx (κ := K9) 1 none [(0, 2), (1, 2), (2, 2), (4, 2), (5, 2), (6, 2), (3, 0), (7, 0), (8, 1), (9, 2)] [] (by kernel_rfl) (by kernel_rfl) fun w13 S12 => ?_
    refine WO.pn 2 rfl ?_
    obtain ⟨x19, hx19, h⟩ := Option.bind_eq_some_iff.mp h
    refine WO.k2 rfl rfl rfl rfl (rn_index g0 hx19 Try.runUnderlying25 Try.sizeOf24 rfl rfl rfl rfl) ?_
    refine WO.pn 2 rfl ?_
    obtain ⟨x23, hx23, h⟩ := Option.bind_eq_some_iff.mp h
    refine WO.k2 rfl rfl rfl rfl (rn_index g1 hx23 Try.runUnderlying25 Try.sizeOf24 rfl rfl rfl rfl) ?_
    have f14 := g0.stp (S10.tr S12) rfl rfl
    obtain ⟨ax19, ux19, f15, hl16⟩ := f14.gSl hx19
    refine WO.k0 rfl rfl rfl rfl (rn_ld Try.isAgg24 rfl rfl (hvC hl16 rfl)) ?_
    have f17 := g1.stp (S10.tr S12) rfl rfl
    obtain ⟨ax23, ux23, f18, hl19⟩ := f17.gSl hx23
    refine WO.k0 rfl rfl rfl rfl (rn_ld Try.isAgg24 rfl rfl (hvC hl19 rfl)) ?_
    obtain ⟨x25, hx25, h⟩ := Option.bind_eq_some_iff.mp h
    refine WO.call rfl rfl rfl rfl rfl rfl Try.call24 (l_eqInt64S_ok (κ := fun b => mp [] 0 (K9 b)) (Sl.map f15 (mp [] 0) rfl rfl) (Sl.map f18 (mp [] 0) rfl rfl) hx25) ?_
    rintro _ w20 ⟨k21, rfl, e22⟩
    obtain ⟨K23, S24, m25⟩ := Ent.mixed (l := []) (κ := K9) e22 2 rfl
    refine ⟨(S24.cl rfl), ?_⟩
    refine WO.pn 1 rfl ?_
    refine WO.nx ?_
    refine WO.fin ?_
    refine DN.seq ?_
    revert h
    cases ht27 : (!x25) with
    | true =>
     intro h; replace h := cT h
     refine WC.ct rfl ?_
     refine WC.seq ?_
     refine WC.rs [(0, 2)] rfl ?_
     refine WO.pn 1 rfl ?_
     refine WO.fin ?_
     refine DN.seq ?_
     refine WC.ret ?_
     refine DN.retBlock ?_
     refine DN.retThen ?_
     refine DN.retThen ?_
     obtain rfl := Option.some.inj h
     obtain rfl := Option.some.inj hk11
     have h := hK3
     dsimp only [aft] at h
     refine DN.retBlock ?_
     refine DN.retMeet ?_
     refine DN.retThen ?_
     have f28 := hE.stp (S10.tr (S12.tr S24)) rfl rfl
     refine DN.res (l := [.tmp 4]) Try.results77 (res_tmp rfl rfl) rfl ?_
     obtain rfl := Option.some.inj h
     exact ⟨K23, rfl, f28⟩
    | false =>
     intro h; replace h := cF h
     refine WC.cf rfl ?_
     refine WC.skip ?_
     refine DN.block ?_
     refine DN.seq ?_
     refine WC.rs [(0, 2), (1, 2), (2, 2)] rfl ?_
     refine WO.pn 3 rfl ?_
     refine WO.fin ?_
     have hw2 : IntKind.wrap .i64 (v5 + 1) = v5 + 1 := wr1 hj2 (of_decide_eq_true hc2) hN2
     rw [hw2]
     have hc2 := of_decide_eq_true hc2
     obtain rfl := Option.some.inj h
     refine DN.round fun a ha => ?_
     exact ⟨k, _, Nat.lt_succ_self _, ⟨K23, v5 + 1, rfl, (S10.tr (S12.tr S24)).wk rfl, by omega, by omega, hk11⟩, (ha.more (ha.more (ha.more ha.nil rfl) rfl) rfl)⟩
  rintro _ w5 ⟨K6, rfl, S7, rfl⟩
  have h := hK3
  dsimp only [aft] at h
  refine DN.seq ?_
  refine WC.seq ?_
  refine WC.rs [(0, 2)] rfl ?_
  refine WO.pn 1 rfl ?_
  refine WO.fin ?_
  refine DN.seq ?_
  refine WC.ret ?_
  have f29 := hE.stp S7 rfl rfl
  refine DN.res (l := [.tmp 4]) Try.results77 (res_tmp rfl rfl) rfl ?_
  obtain rfl := Option.some.inj h
  exact ⟨K6, rfl, f29⟩

/- loop.example/g00869/laws.markInt64SS -/
theorem l_markInt64SS_ok {w : World} {κ : Col} {a0 : Option Addr} {u0 : Nat} {p0 : (List (List Int))} {p1 : Int} (g0 : Oc (Ep.own (Ep.int .i64) 2) 24 κ w 2 a0 u0 p0) {r : Int × (List (List Int))} (h : l_markInt64SS p0 p1 = some r) : Ret Try.prog 81 [.slice a0 p0.length u0, .int .i64 p1] w (fun v w' => ∃ (κ' : Col), v = .int .i64 r.1 ∧ Ent κ w κ' w' ∧ Oc (Ep.own (Ep.int .i64) 2) 24 κ' w' 2 a0 u0 r.2 ∧ p0.length = r.2.length) := by
 unfold l_markInt64SS at h
 refine Ret.enter Try.func81 rfl Try.ntmps81 rfl ?_
 dsimp only [envOf]
 have hE := Ent.refl κ w
 refine WC.seq ?_
 refine WC.rs [(0, 2)] rfl ?_
 refine WO.pn 1 rfl ?_
 refine WO.fin ?_
 refine DN.seq ?_
 refine WC.seq ?_
 refine WC.seq ?_
 refine WC.rs [(0, 2)] rfl ?_
 refine WO.pn 1 rfl ?_
 refine WO.fin ?_
 refine DN.seq ?_
 have hN1 : (p0.length : Int) ≤ 9223372036854775807 := g0.len_le
 obtain ⟨q2, hq3, hK2⟩ := Option.bind_eq_some_iff.mp h
 clear h
 refine WC.meet (fun L w' => ∃ (κ' : Col) (s3 : Int × (List (List Int))), L = [(1, .int .i64 s3.1)] ∧ Stp [2, 3, 6] κ w κ' w' ∧ Oc (Ep.own (Ep.int .i64) 2) 24 κ' w' 2 a0 u0 s3.2 ∧ p0.length = s3.2.length ∧ q2 = Sum.inr s3) ?_ ?_
 ·
  refine WC.block ?_
  refine WC.loop (fun k L w' => ∃ (κ' : Col) (v5 : Int) (s1 : Int × (List (List Int))), L = [(0, .slice a0 p0.length u0), (1, .int .i64 s1.1), (5, .int .i64 v5)] ∧ Stp [2, 3, 6] κ w κ' w' ∧ Oc (Ep.own (Ep.int .i64) 2) 24 κ' w' 2 a0 u0 s1.2 ∧ p0.length = s1.2.length ∧ 0 ≤ v5 ∧ Int.toNat ((p0.length : Int) - v5) = k ∧ cntM l_markInt64SS_b0 k v5 s1 = some q2) ⟨_, _, ⟨κ, 0, ((p1 : Int), (p0 : (List (List Int)))), rfl, (Stp.refl _ _).wk rfl, g0, rfl, (by decide), (by simp), hq3⟩, fun a ha => (ha.more (ha.more (ha.more ha.nil rfl) rfl) rfl)⟩ ?_
  rintro k _ w9 ⟨K10, v5, s1, rfl, S11, f12, hn13, hj1, hJ1, h⟩
  rcases k with _ | k
  ·
   have hk14 := h; obtain ⟨o1, h⟩ := ex_eq (Sum.inr (Sum.inl s1) : (Int × (List (List Int))) ⊕ ((Int × (List (List Int))) ⊕ (Int × (List (List Int)))))
   have hc1 : decide (v5 < (p0.length : Int)) = false := decide_eq_false (by omega)
   refine WC.seq ?_
   refine WC.seq ?_
   refine WC.rs [(0, 2), (1, 2), (2, 2), (3, 2)] rfl ?_
   refine WO.pn 2 rfl ?_
   refine WO.k2 rfl rfl rfl rfl (rn_len Try.runUnderlying25 rfl rfl) ?_
   refine WO.pn 1 rfl ?_
   refine WO.fin ?_
   refine DN.seq ?_
   refine WC.cf' rfl hc1 ?_
   refine WC.exit ?_
   refine DN.exitThen ?_
   refine DN.exitThen ?_
   obtain rfl := Option.some.inj h
   have h := hk14
   refine DN.hit ?_
   obtain rfl := Option.some.inj h
   exact DN.meet _ ⟨K10, ((s1.1 : Int), (s1.2 : (List (List Int)))), rfl, S11.wk rfl, f12, hn13, rfl⟩ fun a ha => (ha.more ha.nil rfl)
  ·
   obtain ⟨o1, h, hk14⟩ := Option.bind_eq_some_iff.mp h; unfold l_markInt64SS_b0 at h
   have hc1 : decide (v5 < (p0.length : Int)) = true := decide_eq_true (by omega)
   refine WC.seq ?_
   refine WC.seq ?_
   refine WC.rs [(0, 2), (1, 2), (2, 2), (3, 2)] rfl ?_
   refine WO.pn 2 rfl ?_
   refine WO.k2 rfl rfl rfl rfl (rn_len Try.runUnderlying25 rfl rfl) ?_
   refine WO.pn 1 rfl ?_
   refine WO.fin ?_
   refine DN.seq ?_
   refine WC.ct' rfl hc1 ?_
   refine WC.skip ?_
   refine DN.seq ?_
   refine WC.seq ?_
   refine WC.block ?_
   refine WC.rs [(0, 2), (1, 2), (2, 2), (3, 1), (4, 2), (5, 1), (6, 2)] rfl ?_
   refine WO.pn 2 rfl ?_
   obtain ⟨x14, hx14, h⟩ := Option.bind_eq_some_iff.mp h
   refine WO.k2 rfl rfl rfl rfl (rn_index f12.rdc hx14 Try.runUnderlying25 Try.sizeOf24 rfl rfl hn13 rfl) ?_
   obtain ⟨ax14, ux14, f15, hl16⟩ := f12.rdc.gSl hx14
   refine WO.k1 trivial rfl rfl rfl rfl (rn_ld Try.isAgg24 rfl rfl (hvE hl16)) ?_
   refine WO.pn 1 rfl ?_
   obtain ⟨K17, S18, f19, f20⟩ := f12.borrow hx14 (hl16 _ (Ag.refl _ _ _)) 3 rfl rfl
   obtain ⟨x17, hx17, h⟩ := Option.bind_eq_some_iff.mp h
   refine WO.call rfl rfl rfl rfl rfl rfl Try.call26 (l_markInt64S_ok (κ := fun b => mp [(3, 2)] 0 (K17 b)) (f19.map (mp [(3, 2)] 0) rfl rfl) hx17) ?_
   rintro _ w21 ⟨k22, rfl, e23, f24, hn25⟩
   obtain ⟨K26, S27, m28⟩ := Ent.mixed (l := [(3, 2)]) (κ := K17) e23 4 rfl
   refine ⟨trivial, ?_⟩
   have f30 := f24.mx (no_int _) m28 rfl (rfl : 4 + 2 = 6)
   obtain ⟨yb26, hyb26, h⟩ := Option.bind_eq_some_iff.mp h
   have f31 := f20.stp S27 rfl rfl
   obtain ⟨K32, S33, f34⟩ := Ow.unborrow f31 f30 (hn25) rfl rfl hyb26
   have hn35 : p0.length = yb26.length := hn13.trans (setI_ok hyb26).2.2.2.symm
   refine WO.pn 1 rfl ?_
   refine WO.fin ?_
   refine DN.block ?_
   refine DN.seq ?_
   refine WC.rs [(0, 2), (1, 2), (2, 2)] rfl ?_
   refine WO.pn 3 rfl ?_
   refine WO.fin ?_
   have hw1 : IntKind.wrap .i64 (v5 + 1) = v5 + 1 := wr1 hj1 (of_decide_eq_true hc1) hN1
   rw [hw1]
   have hc1 := of_decide_eq_true hc1
   obtain rfl := Option.some.inj h
   refine DN.round fun a ha => ?_
   exact ⟨k, _, Nat.lt_succ_self _, ⟨K32, v5 + 1, ((x17.1 : Int), (yb26 : (List (List Int)))), rfl, (S11.tr (S18.tr (S27.tr S33))).wk rfl, f34, hn35, by omega, by omega, hk14⟩, (ha.more (ha.more (ha.more ha.nil rfl) rfl) rfl)⟩
 rintro _ w4 ⟨K5, s3, rfl, S6, f7, hn8, rfl⟩
 have h := hK2
 dsimp only [aft] at h
 refine DN.seq ?_
 refine WC.seq ?_
 refine WC.rs [(0, 2), (1, 2)] rfl ?_
 refine WO.pn 2 rfl ?_
 refine WO.fin ?_
 refine DN.seq ?_
 refine WC.ret ?_
 have f36 := hE.stp S6 rfl rfl
 refine DN.res (l := [.tmp 4]) Try.results81 (res_tmp rfl rfl) rfl ?_
 obtain rfl := Option.some.inj h
 exact ⟨K5, rfl, f36, f7, hn8⟩

/- loop.example/g00869/laws.heldInt64SS -/
theorem l_heldInt64SS_ok {w : World} {κ : Col} {a0 : Option Addr} {u0 : Nat} {p0 : (List (List Int))} {p1 : Int} (g0 : Rd (Rp.sl (Rp.int .i64)) κ w 0 a0 u0 p0) {r : Int} (h : l_heldInt64SS p0 p1 = some r) : Ret Try.prog 128 [.slice a0 p0.length u0, .int .i64 p1] w (fun v w' => ∃ (κ' : Col), v = .int .i64 r ∧ Ent κ w κ' w') := by
 unfold l_heldInt64SS at h
 refine Ret.enter Try.func128 rfl Try.ntmps128 rfl ?_
 dsimp only [envOf]
 have hE := Ent.refl κ w
 refine WC.seq ?_
 refine WC.rs [(0, 2)] rfl ?_
 refine WO.pn 1 rfl ?_
 refine WO.fin ?_
 refine DN.seq ?_
 refine WC.seq ?_
 refine WC.seq ?_
 refine WC.rs [(0, 2)] rfl ?_
 refine WO.pn 1 rfl ?_
 refine WO.fin ?_
 refine DN.seq ?_
 have hN1 : (p0.length : Int) ≤ 9223372036854775807 := g0.len_le
 obtain ⟨q2, hq3, hK2⟩ := Option.bind_eq_some_iff.mp h
 clear h
 refine WC.meet (fun L w' => ∃ (κ' : Col) (s3 : Int), L = [(1, .int .i64 s3)] ∧ Stp [] κ w κ' w' ∧ q2 = Sum.inr s3) ?_ ?_
 ·
  refine WC.block ?_
  refine WC.loop (fun k L w' => ∃ (κ' : Col) (v5 : Int) (s1 : Int), L = [(0, .slice a0 p0.length u0), (1, .int .i64 s1), (5, .int .i64 v5)] ∧ Stp [] κ w κ' w' ∧ 0 ≤ v5 ∧ Int.toNat ((p0.length : Int) - v5) = k ∧ cntM (l_heldInt64SS_b0 p0) k v5 s1 = some q2) ⟨_, _, ⟨κ, 0, (p1 : Int), rfl, (Stp.refl _ _).wk rfl, (by decide), (by simp), hq3⟩, fun a ha => (ha.more (ha.more (ha.more ha.nil rfl) rfl) rfl)⟩ ?_
  rintro k _ w7 ⟨K8, v5, s1, rfl, S9, hj1, hJ1, h⟩
  rcases k with _ | k
  ·
   have hk10 := h; obtain ⟨o1, h⟩ := ex_eq (Sum.inr (Sum.inl s1) : Int ⊕ ((Int) ⊕ (Int)))
   have hc1 : decide (v5 < (p0.length : Int)) = false := decide_eq_false (by omega)
   refine WC.seq ?_
   refine WC.seq ?_
   refine WC.rs [(0, 2), (1, 2), (2, 2), (3, 2)] rfl ?_
   refine WO.pn 2 rfl ?_
   refine WO.k2 rfl rfl rfl rfl (rn_len Try.runUnderlying25 rfl rfl) ?_
   refine WO.pn 1 rfl ?_
   refine WO.fin ?_
   refine DN.seq ?_
   refine WC.cf' rfl hc1 ?_
   refine WC.exit ?_
   refine DN.exitThen ?_
   refine DN.exitThen ?_
   obtain rfl := Option.some.inj h
   have h := hk10
   refine DN.hit ?_
   obtain rfl := Option.some.inj h
   exact DN.meet _ ⟨K8, (s1 : Int), rfl, S9.wk rfl, rfl⟩ fun a ha => (ha.more ha.nil rfl)
  ·
   obtain ⟨o1, h, hk10⟩ := Option.bind_eq_some_iff.mp h; unfold l_heldInt64SS_b0 at h
   have hc1 : decide (v5 < (p0.length : Int)) = true := decide_eq_true (by omega)
   refine WC.seq ?_
   refine WC.seq ?_
   refine WC.rs [(0, 2), (1, 2), (2, 2), (3, 2)] rfl ?_
   refine WO.pn 2 rfl ?_
   refine WO.k2 rfl rfl rfl rfl (rn_len Try.runUnderlying25 rfl rfl) ?_
   refine WO.pn 1 rfl ?_
   refine WO.fin ?_
   refine DN.seq ?_
   refine WC.ct' rfl hc1 ?_
   refine WC.skip ?_
   refine DN.seq ?_
   refine WC.seq ?_
   refine WC.block ?_
   refine WC.seq ?_
   refine WC.rs [(0, 2), (1, 2), (2, 2), (3, 1), (4, 2), (5, 1), (6, 2)] rfl ?_
   refine WO.pn 2 rfl ?_
   obtain ⟨x14, hx14, h⟩ := Option.bind_eq_some_iff.mp h
   refine WO.k2 rfl rfl rfl rfl (rn_index g0 hx14 Try.runUnderlying25 Try.sizeOf24 rfl rfl rfl rfl) ?_
   have f11 := g0.stp S9 rfl rfl
   obtain ⟨ax14, ux14, f12, hl13⟩ := f11.gSl hx14
   refine WO.k1 trivial rfl rfl rfl rfl (rn_ld Try.isAgg24 rfl rfl (hvE hl13)) ?_
   refine WO.pn 1 rfl ?_
   obtain ⟨x17, hx17, h⟩ := Option.bind_eq_some_iff.mp h
   refine WO.call rfl rfl rfl rfl rfl rfl Try.call27 (l_heldInt64S_ok (κ := fun b => mp [] 0 (K8 b)) (Sl.map f12 (mp [] 0) rfl rfl) hx17) ?_
   rintro _ w14 ⟨k15, rfl, e16⟩
   obtain ⟨K17, S18, m19⟩ := Ent.mixed (l := []) (κ := K8) e16 2 rfl
   refine ⟨trivial, ?_⟩
   refine WO.pn 1 rfl ?_
   refine WO.fin ?_
   refine DN.seq ?_
   refine WC.seq ?_
   refine WC.rs [(0, 2), (1, 2)] rfl ?_
   refine WO.pn 2 rfl ?_
   refine WO.fin ?_
   refine DN.seq ?_
   revert h
   cases ht21 : decide (x17 < 0) with
   | true =>
    intro h; replace h := cT h
    refine WC.ct rfl ?_
    refine WC.seq ?_
    refine WC.rs [(0, 2)] rfl ?_
    refine WO.pn 1 rfl ?_
    refine WO.fin ?_
    refine DN.seq ?_
    refine WC.ret ?_
    refine DN.retBlock ?_
    refine DN.retThen ?_
    refine DN.retThen ?_
    obtain rfl := Option.some.inj h
    obtain rfl := Option.some.inj hk10
    have h := hK2
    dsimp only [aft] at h
    refine DN.retBlock ?_
    refine DN.retMeet ?_
    refine DN.retThen ?_
    have f22 := hE.stp (S9.tr S18) rfl rfl
    refine DN.res (l := [.tmp 4]) Try.results128 (res_tmp rfl rfl) rfl ?_
    obtain rfl := Option.some.inj h
    exact ⟨K17, rfl, f22⟩
   | false =>
    intro h; replace h := cF h
    refine WC.cf rfl ?_
    refine WC.skip ?_
    refine DN.block ?_
    refine DN.seq ?_
    refine WC.rs [(0, 2), (1, 2), (2, 2)] rfl ?_
    refine WO.pn 3 rfl ?_
    refine WO.fin ?_
    have hw1 : IntKind.wrap .i64 (v5 + 1) = v5 + 1 := wr1 hj1 (of_decide_eq_true hc1) hN1
    rw [hw1]
    have hc1 := of_decide_eq_true hc1
    obtain rfl := Option.some.inj h
    refine DN.round fun a ha => ?_
    exact ⟨k, _, Nat.lt_succ_self _, ⟨K17, v5 + 1, (x17 : Int), rfl, (S9.tr S18).wk rfl, by omega, by omega, hk10⟩, (ha.more (ha.more (ha.more ha.nil rfl) rfl) rfl)⟩
 rintro _ w4 ⟨K5, s3, rfl, S6, rfl⟩
 have h := hK2
 dsimp only [aft] at h
 refine DN.seq ?_
 refine WC.seq ?_
 refine WC.rs [(0, 2), (1, 2)] rfl ?_
 refine WO.pn 2 rfl ?_
 refine WO.fin ?_
 refine DN.seq ?_
 refine WC.ret ?_
 have f23 := hE.stp S6 rfl rfl
 refine DN.res (l := [.tmp 4]) Try.results128 (res_tmp rfl rfl) rfl ?_
 obtain rfl := Option.some.inj h
 exact ⟨K5, rfl, f23⟩

end Go.Proofs.Ytgniipbjjkodaaa
