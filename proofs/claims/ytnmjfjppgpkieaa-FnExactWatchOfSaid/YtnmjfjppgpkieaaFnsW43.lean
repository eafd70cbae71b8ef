/- The walks, part 3. By program. -/
import Derived.Test.YtnmjfjppgpkieaaFnsW41
set_option linter.unusedVariables false
set_option linter.unusedSimpArgs false
namespace Go.Proofs.Ytnmjfjppgpkieaa
open Go Go.Wk Go.Proofs
set_option maxRecDepth 100000
set_option maxHeartbeats 1000000

/- loop.example/g00869/laws.szMachine -/
theorem l_szMachine_ok {w : World} {κ : Col} {a0_0 : Option Addr} {u0_0 : Nat} {a0_1 : Option Addr} {u0_1 : Nat} {p0 : Machine} {p1 : Int} (g0_0 : Rd (Rp.sl (Rp.int .i64)) κ w 0 a0_0 u0_0 p0.Next) (g0_1 : Rd (Rp.sl (Rp.int .i64)) κ w 0 a0_1 u0_1 p0.Out) {r : Int} (h : l_szMachine p0 p1 = some r) : Ret Try.prog 7 [.agg #[.slice a0_0 p0.Next.length u0_0, .slice a0_1 p0.Out.length u0_1], .int .i64 p1] w (fun v w' => ∃ (κ' : Col), v = .int .i64 r ∧ Ent κ w κ' w') := by
 unfold l_szMachine at h
 refine Ret.enter Try.func7 rfl Try.ntmps7 rfl ?_
 dsimp only [envOf]
 have hE := Ent.refl κ w
 refine WC.seq ?_
 refine WC.rs [(0, 1), (1, 2)] rfl ?_
 refine WO.box (κ := κ) 2 rfl rfl rfl rfl rfl rfl rfl fun b2 w1 K2 S3 f4 => ⟨trivial, ?_⟩
 refine WO.pn 1 rfl ?_
 refine WO.fin ?_
 refine DN.seq ?_
 refine WC.seq ?_
 refine WC.rs [(0, 2), (1, 1), (2, 2), (3, 1), (4, 2)] rfl ?_
 refine WO.k2 rfl rfl rfl rfl (rn_fieldAddr Try.runUnderlying26 rfl Try.sizeOf24 rfl rfl) ?_
 refine WO.k1 trivial rfl rfl rfl rfl (rn_ld Try.isAgg24 rfl rfl (hvE (f4.ld 0 rfl rfl))) ?_
 refine WO.pn 1 rfl ?_
 obtain ⟨x8, hx8, h⟩ := Option.bind_eq_some_iff.mp h
 have f5 := g0_0.stp S3 rfl rfl
 refine WO.call rfl rfl rfl rfl rfl rfl Try.call46 (l_szInt64SS_ok (κ := fun b => mp [] 0 (K2 b)) (Sl.map f5 (mp [] 0) rfl rfl) hx8) ?_
 rintro _ w6 ⟨k7, rfl, e8⟩
 obtain ⟨K9, S10, m11⟩ := Ent.mixed (l := []) (κ := K2) e8 3 rfl
 refine ⟨trivial, ?_⟩
 refine WO.pn 1 rfl ?_
 refine WO.fin ?_
 refine DN.seq ?_
 refine WC.seq ?_
 refine WC.seq ?_
 refine WC.rs [(0, 2), (1, 2)] rfl ?_
 refine WO.pn 2 rfl ?_
 refine WO.fin ?_
 refine DN.seq ?_
 revert h
 cases ht13 : decide (x8 < 0) with
 | true =>
  intro h; replace h := cT h
  refine WC.ct rfl ?_
  refine WC.seq ?_
  refine WC.rs [(0, 2)] rfl ?_
  refine WO.pn 1 rfl ?_
  refine WO.fin ?_
  refine DN.seq ?_
  refine WC.ret ?_
  refine DN.retThen ?_
  have f14 := hE.stp (S3.tr S10) rfl rfl
  refine DN.res (l := [.tmp 4]) Try.results7 (res_tmp rfl rfl) rfl ?_
  obtain rfl := Option.some.inj h
  exact ⟨K9, rfl, f14⟩
 | false =>
  intro h; replace h := cF h
  refine WC.cf rfl ?_
  refine WC.skip ?_
  refine DN.seq ?_
  refine WC.seq ?_
  refine WC.rs [(0, 2), (1, 1), (2, 2), (3, 1), (4, 2)] rfl ?_
  refine WO.k2 rfl rfl rfl rfl (rn_fieldAddr Try.runUnderlying26 rfl Try.sizeOf24 rfl rfl) ?_
  have f15 := f4.stp S10 rfl rfl
  refine WO.k1 trivial rfl rfl rfl rfl (rn_ld Try.isAgg24 rfl rfl (hvE (f15.ld 1 rfl rfl))) ?_
  refine WO.pn 1 rfl ?_
  obtain ⟨x14, hx14, h⟩ := Option.bind_eq_some_iff.mp h
  have f16 := g0_1.stp (S3.tr S10) rfl rfl
  refine WO.call rfl rfl rfl rfl rfl rfl Try.call46 (l_szInt64SS_ok (κ := fun b => mp [] 0 (K9 b)) (Sl.map f16 (mp [] 0) rfl rfl) hx14) ?_
  rintro _ w17 ⟨k18, rfl, e19⟩
  obtain ⟨K20, S21, m22⟩ := Ent.mixed (l := []) (κ := K9) e19 5 rfl
  refine ⟨trivial, ?_⟩
  refine WO.pn 1 rfl ?_
  refine WO.fin ?_
  refine DN.seq ?_
  refine WC.seq ?_
  refine WC.seq ?_
  refine WC.rs [(0, 2), (1, 2)] rfl ?_
  refine WO.pn 2 rfl ?_
  refine WO.fin ?_
  refine DN.seq ?_
  revert h
  cases ht24 : decide (x14 < 0) with
  | true =>
   intro h; replace h := cT h
   refine WC.ct rfl ?_
   refine WC.seq ?_
   refine WC.rs [(0, 2)] rfl ?_
   refine WO.pn 1 rfl ?_
   refine WO.fin ?_
   refine DN.seq ?_
   refine WC.ret ?_
   refine DN.retThen ?_
   have f25 := hE.stp (S3.tr (S10.tr S21)) rfl rfl
   refine DN.res (l := [.tmp 4]) Try.results7 (res_tmp rfl rfl) rfl ?_
   obtain rfl := Option.some.inj h
   exact ⟨K20, rfl, f25⟩
  | false =>
   intro h; replace h := cF h
   refine WC.cf rfl ?_
   refine WC.skip ?_
   refine DN.seq ?_
   refine WC.seq ?_
   refine WC.rs [(0, 2), (1, 2)] rfl ?_
   refine WO.pn 2 rfl ?_
   refine WO.fin ?_
   refine DN.seq ?_
   refine WC.ret ?_
   have f26 := hE.stp (S3.tr (S10.tr S21)) rfl rfl
   refine DN.res (l := [.tmp 4]) Try.results7 (res_tmp rfl rfl) rfl ?_
   obtain rfl := Option.some.inj h
   exact ⟨K20, rfl, f26⟩

/- loop.example/g00869/laws.szPairS -/
theorem l_szPairS_ok {w : World} {κ : Col} {a0 : Option Addr} {u0 : Nat} {p0 : (List Pair)} {p1 : Int} (g0 : Rd Pair.rp κ w 0 a0 u0 p0) {r : Int} (h : l_szPairS p0 p1 = some r) : Ret Try.prog 58 [.slice a0 p0.length u0, .int .i64 p1] w (fun v w' => ∃ (κ' : Col), v = .int .i64 r ∧ Ent κ w κ' w') := by
 unfold l_szPairS at h
 refine Ret.enter Try.func58 rfl Try.ntmps58 rfl ?_
 dsimp only [envOf]
 have hE := Ent.refl κ w
 refine WC.seq ?_
 refine WC.rs [(0, 2)] rfl ?_
 refine WO.pn 1 rfl ?_
 refine WO.fin ?_
 refine DN.seq ?_
 refine WC.seq ?_
 refine WC.rs [(0, 2), (1, 2), (2, 2), (3, 2), (4, 2)] rfl ?_
 refine WO.pn 2 rfl ?_
 refine WO.k2 rfl rfl rfl rfl (rn_len Try.runUnderlying47 rfl rfl) ?_
 refine WO.pn 2 rfl ?_
 refine WO.fin ?_
 refine DN.seq ?_
 refine WC.seq ?_
 refine WC.seq ?_
 refine WC.rs [(0, 2), (1, 2)] rfl ?_
 refine WO.pn 2 rfl ?_
 refine WO.fin ?_
 refine DN.seq ?_
 revert h
 cases ht1 : decide ((IntKind.i64.wrap (p1 - (p0.length : Int))) < 0) with
 | true =>
  intro h; replace h := cT h
  refine WC.ct rfl ?_
  refine WC.seq ?_
  refine WC.rs [(0, 2)] rfl ?_
  refine WO.pn 1 rfl ?_
  refine WO.fin ?_
  refine DN.seq ?_
  refine WC.ret ?_
  refine DN.retThen ?_
  refine DN.res (l := [.tmp 4]) Try.results58 (res_tmp rfl rfl) rfl ?_
  obtain rfl := Option.some.inj h
  exact ⟨κ, rfl, hE⟩
 | false =>
  intro h; replace h := cF h
  refine WC.cf rfl ?_
  refine WC.skip ?_
  refine DN.seq ?_
  refine WC.seq ?_
  refine WC.seq ?_
  refine WC.rs [(0, 2)] rfl ?_
  refine WO.pn 1 rfl ?_
  refine WO.fin ?_
  refine DN.seq ?_
  have hN2 : (p0.length : Int) ≤ 9223372036854775807 := g0.len_le
  obtain ⟨q2, hq4, hK3⟩ := Option.bind_eq_some_iff.mp h
  clear h
  refine WC.meet (fun L w' => ∃ (κ' : Col) (s3 : Int), L = [(1, .int .i64 s3)] ∧ Stp [] κ w κ' w' ∧ q2 = Sum.inr s3) ?_ ?_
  ·
   refine WC.block ?_
   refine WC.loop (fun k L w' => ∃ (κ' : Col) (v5 : Int) (s1 : Int), L = [(0, .slice a0 p0.length u0), (1, .int .i64 s1), (5, .int .i64 v5)] ∧ Stp [] κ w κ' w' ∧ 0 ≤ v5 ∧ Int.toNat ((p0.length : Int) - v5) = k ∧ cntM (l_szPairS_b0 p0) k v5 s1 = some q2) ⟨_, _, ⟨κ, 0, ((IntKind.i64.wrap (p1 - (p0.length : Int))) : Int), rfl, (Stp.refl _ _).wk rfl, (by decide), (by simp), hq4⟩, fun a ha => (ha.more (ha.more (ha.more ha.nil rfl) rfl) rfl)⟩ ?_
   rintro k _ w8 ⟨K9, v5, s1, rfl, S10, hj2, hJ2, h⟩
   rcases k with _ | k
   ·
    have hk11 := h; obtain ⟨o2, h⟩ := ex_eq (Sum.inr (Sum.inl s1) : Int ⊕ ((Int) ⊕ (Int)))
    have hc2 : decide (v5 < (p0.length : Int)) = false := decide_eq_false (by omega)
    refine WC.seq ?_
    refine WC.seq ?_
    refine WC.rs [(0, 2), (1, 2), (2, 2), (3, 2)] rfl ?_
    refine WO.pn 2 rfl ?_
    refine WO.k2 rfl rfl rfl rfl (rn_len Try.runUnderlying47 rfl rfl) ?_
    refine WO.pn 1 rfl ?_
    refine WO.fin ?_
    refine DN.seq ?_
    refine WC.cf' rfl hc2 ?_
    refine WC.exit ?_
    refine DN.exitThen ?_
    refine DN.exitThen ?_
    obtain rfl := Option.some.inj h
    have h := hk11
    refine DN.hit ?_
    obtain rfl := Option.some.inj h
    exact DN.meet _ ⟨K9, (s1 : Int), rfl, S10.wk rfl, rfl⟩ fun a ha => (ha.more ha.nil rfl)
   ·
    obtain ⟨o2, h, hk11⟩ := Option.bind_eq_some_iff.mp h; unfold l_szPairS_b0 at h
    have hc2 : decide (v5 < (p0.length : Int)) = true := decide_eq_true (by omega)
    refine WC.seq ?_
    refine WC.seq ?_
    refine WC.rs [(0, 2), (1, 2), (2, 2), (3, 2)] rfl ?_
    refine WO.pn 2 rfl ?_
    refine WO.k2 rfl rfl rfl rfl (rn_len Try.runUnderlying47 rfl rfl) ?_
    refine WO.pn 1 rfl ?_
    refine WO.fin ?_
    refine DN.seq ?_
    refine WC.ct' rfl hc2 ?_
    refine WC.skip ?_
    refine DN.seq ?_
    refine WC.seq ?_
    refine WC.block ?_
    refine WC.seq ?_
    refine WC.rs [(0, 2), (1, 2), (2, 2), (3, 1), (4, 2), (5, 1), (6, 2)] rfl ?_
    refine WO.pn 2 rfl ?_
    obtain ⟨x20, hx20, h⟩ := Option.bind_eq_some_iff.mp h
    refine WO.k2 rfl rfl rfl rfl (rn_index g0 hx20 Try.runUnderlying47 Try.sizeOf141 rfl rfl rfl rfl) ?_
    have f12 := g0.stp S10 rfl rfl
    obtain ⟨cse13, hre13, hle13⟩ := (f12).gSt hx20
    obtain ⟨ae13_0, ue13_0, ae13_1, ue13_1, rfl, fe13_0, fe13_1⟩ := Pair.un hre13
    refine WO.k1 trivial rfl rfl rfl rfl (rn_la (cs := [.slice ae13_0 x20.Ask.length ue13_0, .slice ae13_1 x20.Give.length ue13_1]) Try.isAgg141 Try.sizeOf141 rfl rfl rfl (haE hle13)) ?_
    refine WO.pn 1 rfl ?_
    obtain ⟨x23, hx23, h⟩ := Option.bind_eq_some_iff.mp h
    refine WO.call rfl rfl rfl rfl rfl rfl Try.call94 (l_szPair_ok (κ := fun b => mp [] 0 (K9 b)) (p0 := x20) (Sl.map fe13_0 (mp [] 0) rfl rfl) (Sl.map fe13_1 (mp [] 0) rfl rfl) hx23) ?_
    rintro _ w14 ⟨k15, rfl, e16⟩
    obtain ⟨K17, S18, m19⟩ := Ent.mixed (l := []) (κ := K9) e16 2 rfl
    refine ⟨trivial, ?_⟩
    refine WO.pn 1 rfl ?_
    refine WO.fin ?_
    refine DN.seq ?_
    refine WC.seq ?_
    refine WC.rs [(0, 2), (1, 2)] rfl ?_
    refine WO.pn 2 rfl ?_
    refine WO.fin ?_
    refine DN.seq ?_
    revert h
    cases ht21 : decide (x23 < 0) with
    | true =>
     intro h; replace h := cT h
     refine WC.ct rfl ?_
     refine WC.seq ?_
     refine WC.rs [(0, 2)] rfl ?_
     refine WO.pn 1 rfl ?_
     refine WO.fin ?_
     refine DN.seq ?_
     refine WC.ret ?_
     refine DN.retBlock ?_
     refine DN.retThen ?_
     refine DN.retThen ?_
     obtain rfl := Option.some.inj h
     obtain rfl := Option.some.inj hk11
     have h := hK3
     dsimp only [aft] at h
     refine DN.retBlock ?_
     refine DN.retMeet ?_
     refine DN.retThen ?_
     have f22 := hE.stp (S10.tr S18) rfl rfl
     refine DN.res (l := [.tmp 4]) Try.results58 (res_tmp rfl rfl) rfl ?_
     obtain rfl := Option.some.inj h
     exact ⟨K17, rfl, f22⟩
    | false =>
     intro h; replace h := cF h
     refine WC.cf rfl ?_
     refine WC.skip ?_
     refine DN.block ?_
     refine DN.seq ?_
     refine WC.rs [(0, 2), (1, 2), (2, 2)] rfl ?_
     refine WO.pn 3 rfl ?_
     refine WO.fin ?_
     have hw2 : IntKind.wrap .i64 (v5 + 1) = v5 + 1 := wr1 hj2 (of_decide_eq_true hc2) hN2
     rw [hw2]
     have hc2 := of_decide_eq_true hc2
     obtain rfl := Option.some.inj h
     refine DN.round fun a ha => ?_
     exact ⟨k, _, Nat.lt_succ_self _, ⟨K17, v5 + 1, (x23 : Int), rfl, (S10.tr S18).wk rfl, by omega, by omega, hk11⟩, (ha.more (ha.more (ha.more ha.nil rfl) rfl) rfl)⟩
  rintro _ w5 ⟨K6, s3, rfl, S7, rfl⟩
  have h := hK3
  dsimp only [aft] at h
  refine DN.seq ?_
  refine WC.seq ?_
  refine WC.rs [(0, 2), (1, 2)] rfl ?_
  refine WO.pn 2 rfl ?_
  refine WO.fin ?_
  refine DN.seq ?_
  refine WC.ret ?_
  have f23 := hE.stp S7 rfl rfl
  refine DN.res (l := [.tmp 4]) Try.results58 (res_tmp rfl rfl) rfl ?_
  obtain rfl := Option.some.inj h
  exact ⟨K6, rfl, f23⟩

/- loop.example/g00869/laws.toPairS -/
theorem l_toPairS_ok {w : World} {κ : Col} {a0 : Option Addr} {u0 : Nat} {p0 : (List Pair)} (g0 : Rd Pair.rp κ w 0 a0 u0 p0) {r : (List Pair)} (h : l_toPairS p0 = some r) : Ret Try.prog 63 [.slice a0 p0.length u0] w (fun v w' => ∃ (κ' : Col) (ra0 : Option Addr) (ru0 : Nat), v = .slice ra0 r.length ru0 ∧ Ent κ w κ' w' ∧ Oc Pair.ep113 113 κ' w' 2 ra0 ru0 r) := by
 unfold l_toPairS at h
 refine Ret.enter Try.func63 rfl Try.ntmps63 rfl ?_
 dsimp only [envOf]
 have hE := Ent.refl κ w
 refine WC.seq ?_
 refine WC.rs [(0, 2)] rfl ?_
 refine WO.pn 1 rfl ?_
 refine WO.fin ?_
 refine DN.seq ?_
 refine WC.seq ?_
 refine WC.rs [(0, 2), (1, 2), (2, 1), (3, 2)] rfl ?_
 refine WO.pn 1 rfl ?_
 refine WO.k2 rfl rfl rfl rfl (rn_len Try.runUnderlying47 rfl rfl) ?_
 obtain ⟨x7, hx7, h⟩ := Option.bind_eq_some_iff.mp h
 refine WO.mk (κ := κ) (E := Pair.ep113) (z := ((⟨([] : List Int), ([] : List Int)⟩ : Pair) : Pair)) 2 rfl rfl rfl rfl rfl rfl rfl Try.underlying51 Tryinfo113 rfl rfl rfl rfl rfl (fun _ _ _ => ⟨[.slice none 0 0], [.slice none 0 0], fun _ => False, fun _ => False, rfl, fun _ h => h.elim, fun _ h => h.elim, ⟨none, 0, rfl, Ow.nil⟩, ⟨none, 0, rfl, Ow.nil⟩⟩) (mkS_C hx7) fun a7 u7 w1 K2 S3 f4 => ⟨trivial, ?_⟩
 refine WO.pn 1 rfl ?_
 refine WO.fin ?_
 refine DN.seq ?_
 refine WC.seq ?_
 refine WC.seq ?_
 refine WC.rs [(0, 2)] rfl ?_
 refine WO.pn 1 rfl ?_
 refine WO.fin ?_
 refine DN.seq ?_
 have hN5 : (p0.length : Int) ≤ 9223372036854775807 := g0.len_le
 obtain ⟨q2, hq7, hK6⟩ := Option.bind_eq_some_iff.mp h
 clear h
 refine WC.meet (fun L w' => ∃ (κ' : Col) (s3 : (List Pair)), L = [(3, .slice a7 x7.length u7)] ∧ Stp [2, 5, 6] K2 w1 κ' w' ∧ Oc Pair.ep113 113 κ' w' 2 a7 u7 s3 ∧ x7.length = s3.length ∧ q2 = Sum.inr s3) ?_ ?_
 ·
  refine WC.block ?_
  refine WC.loop (fun k L w' => ∃ (κ' : Col) (v4 : Int) (s1 : (List Pair)), L = [(0, .slice a0 p0.length u0), (3, .slice a7 x7.length u7), (4, .int .i64 v4)] ∧ Stp [2, 5, 6] K2 w1 κ' w' ∧ Oc Pair.ep113 113 κ' w' 2 a7 u7 s1 ∧ x7.length = s1.length ∧ 0 ≤ v4 ∧ Int.toNat ((p0.length : Int) - v4) = k ∧ cntM (l_toPairS_b0 p0) k v4 s1 = some q2) ⟨_, _, ⟨K2, 0, (x7 : (List Pair)), rfl, (Stp.refl _ _).wk rfl, f4, rfl, (by decide), (by simp), hq7⟩, fun a ha => (ha.more (ha.more (ha.more ha.nil rfl) rfl) rfl)⟩ ?_
  rintro k _ w13 ⟨K14, v4, s1, rfl, S15, f16, hn17, hj5, hJ5, h⟩
  rcases k with _ | k
  ·
   have hk18 := h; obtain ⟨o5, h⟩ := ex_eq (Sum.inr (Sum.inl s1) : (List Pair) ⊕ (((List Pair)) ⊕ ((List Pair))))
   have hc5 : decide (v4 < (p0.length : Int)) = false := decide_eq_false (by omega)
   refine WC.seq ?_
   refine WC.seq ?_
   refine WC.rs [(0, 2), (1, 2), (2, 2), (3, 2)] rfl ?_
   refine WO.pn 2 rfl ?_
   refine WO.k2 rfl rfl rfl rfl (rn_len Try.runUnderlying47 rfl rfl) ?_
   refine WO.pn 1 rfl ?_
   refine WO.fin ?_
   refine DN.seq ?_
   refine WC.cf' rfl hc5 ?_
   refine WC.exit ?_
   refine DN.exitThen ?_
   refine DN.exitThen ?_
   obtain rfl := Option.some.inj h
   have h := hk18
   refine DN.hit ?_
   obtain rfl := Option.some.inj h
   exact DN.meet _ ⟨K14, (s1 : (List Pair)), rfl, S15.wk rfl, f16, hn17, rfl⟩ fun a ha => (ha.more ha.nil rfl)
  ·
   obtain ⟨o5, h, hk18⟩ := Option.bind_eq_some_iff.mp h; unfold l_toPairS_b0 at h
   have hc5 : decide (v4 < (p0.length : Int)) = true := decide_eq_true (by omega)
   refine WC.seq ?_
   refine WC.seq ?_
   refine WC.rs [(0, 2), (1, 2), (2, 2), (3, 2)] rfl ?_
   refine WO.pn 2 rfl ?_
   refine WO.k2 rfl rfl rfl rfl (rn_len Try.runUnderlying47 rfl rfl) ?_
   refine WO.pn 1 rfl ?_
   refine WO.fin ?_
   refine DN.seq ?_
   refine WC.ct' rfl hc5 ?_
   refine WC.skip ?_
   refine DN.seq ?_
   refine WC.seq ?_
   refine WC.block ?_
   refine WC.rs [(0, 2), (1, 2), (2, 2), (3, 2), (4, 2), (5, 1), (6, 1), (7, 2), (8, 1)] rfl ?_
   refine WO.pn 4 rfl ?_
   obtain ⟨x18, hx18, h⟩ := Option.bind_eq_some_iff.mp h
   refine WO.k2 rfl rfl rfl rfl (rn_index g0 hx18 Try.runUnderlying47 Try.sizeOf141 rfl rfl rfl rfl) ?_
   have f19 := g0.stp (S3.tr S15) rfl rfl
   obtain ⟨cse20, hre20, hle20⟩ := (f19).gSt hx18
   obtain ⟨ae20_0, ue20_0, ae20_1, ue20_1, rfl, fe20_0, fe20_1⟩ := Pair.un hre20
   refine WO.k1 trivial rfl rfl rfl rfl (rn_la (cs := [.slice ae20_0 x18.Ask.length ue20_0, .slice ae20_1 x18.Give.length ue20_1]) Try.isAgg141 Try.sizeOf141 rfl rfl rfl (haE hle20)) ?_
   obtain ⟨x20, hx20, h⟩ := Option.bind_eq_some_iff.mp h
   refine WO.call rfl rfl rfl rfl rfl rfl Try.call104 (l_toPair_ok (κ := fun b => mp [] 0 (K14 b)) (p0 := x18) (Sl.map fe20_0 (mp [] 0) rfl rfl) (Sl.map fe20_1 (mp [] 0) rfl rfl) hx20) ?_
   rintro _ w21 ⟨k22, a20_0, u20_0, a20_1, u20_1, rfl, e23, f24, f25⟩
   obtain ⟨K26, S27, m28⟩ := Ent.mixed (l := []) (κ := K14) e23 3 rfl
   refine ⟨trivial, ?_⟩
   have f30 := f24.mx (no_int _) m28 rfl (rfl : 3 + 2 = 5)
   have f31 := f25.mx (no_int _) m28 rfl (rfl : 3 + 3 = 6)
   obtain ⟨x21, hx21, h⟩ := Option.bind_eq_some_iff.mp h
   refine WO.k2 rfl rfl rfl rfl (rn_index f16.rdc hx21 Try.runUnderlying51 Try.sizeOf113 rfl rfl hn17 rfl) ?_
   have f32 := f16.stp S27 rfl rfl
   obtain ⟨y5, hy5, h⟩ := Option.bind_eq_some_iff.mp h
   refine WO.stI (κ := K26) (E := Pair.ep113) 2 [5, 6] rfl rfl rfl rfl rfl rfl rfl rfl Try.sizeOf113 rfl ⟨[.slice a20_0 x20.Ask.length u20_0], [.slice a20_1 x20.Give.length u20_1], Zl K26 w21 [5], Zl K26 w21 [6], rfl, Zl.sp (l1 := [5]) (l2 := [6]) rfl, Zl.sr (l1 := [5]) (l2 := [6]), ⟨_, _, rfl, f30⟩, ⟨_, _, rfl, f31⟩⟩ rfl rfl f32 hy5 fun w33 K34 S35 f36 => ⟨trivial, ?_⟩
   have hn37 : x7.length = y5.length := hn17.trans (setI_ok hy5).2.2.2.symm
   refine WO.fin ?_
   refine DN.block ?_
   refine DN.seq ?_
   refine WC.rs [(0, 2), (1, 2), (2, 2)] rfl ?_
   refine WO.pn 3 rfl ?_
   refine WO.fin ?_
   have hw5 : IntKind.wrap .i64 (v4 + 1) = v4 + 1 := wr1 hj5 (of_decide_eq_true hc5) hN5
   rw [hw5]
   have hc5 := of_decide_eq_true hc5
   obtain rfl := Option.some.inj h
   refine DN.round fun a ha => ?_
   exact ⟨k, _, Nat.lt_succ_self _, ⟨K34, v4 + 1, (y5 : (List Pair)), rfl, (S15.tr (S27.tr S35)).wk rfl, f36, hn37, by omega, by omega, hk18⟩, (ha.more (ha.more (ha.more ha.nil rfl) rfl) rfl)⟩
 rintro _ w8 ⟨K9, s3, rfl, S10, f11, hn12, rfl⟩
 have h := hK6
 dsimp only [aft] at h
 refine DN.seq ?_
 refine WC.seq ?_
 refine WC.rs [(0, 2), (1, 2)] rfl ?_
 refine WO.pn 2 rfl ?_
 refine WO.fin ?_
 refine DN.seq ?_
 refine WC.ret ?_
 have f38 := hE.stp (S3.tr S10) rfl rfl
 refine DN.res (l := [.tmp 2]) Try.results63 (res_tmp rfl rfl) rfl ?_
 obtain rfl := Option.some.inj h
 exact ⟨K9, a7, u7, (by simp only [hn12]), f38, f11⟩

/- loop.example/g00869/spec.MachineOk -/
theorem s_MachineOk_ok {w : World} {κ : Col} {p0 : Sig} {a1_0 : Option Addr} {u1_0 : Nat} {a1_1 : Option Addr} {u1_1 : Nat} {p1 : Machine} (g1_0 : Rd (Rp.sl (Rp.int .i64)) κ w 0 a1_0 u1_0 p1.Next) (g1_1 : Rd (Rp.sl (Rp.int .i64)) κ w 0 a1_1 u1_1 p1.Out) {r : Bool} (h : s_MachineOk p0 p1 = some r) : Ret Try.prog 59 [.agg #[.int .i64 p0.In, .int .i64 p0.Out], .agg #[.slice a1_0 p1.Next.length u1_0, .slice a1_1 p1.Out.length u1_1]] w (fun v w' => ∃ (κ' : Col), v = .bool r ∧ Ent κ w κ' w') := by
 unfold s_MachineOk at h
 refine Ret.enter Try.func59 rfl Try.ntmps59 rfl ?_
 dsimp only [envOf]
 have hE := Ent.refl κ w
 refine WC.seq ?_
 refine WC.rs [(0, 1), (1, 1), (2, 2)] rfl ?_
 refine WO.box (κ := κ) 2 rfl rfl rfl rfl rfl rfl rfl fun b2 w1 K2 S3 f4 => ⟨trivial, ?_⟩
 refine WO.box (κ := K2) 3 rfl rfl rfl rfl rfl rfl rfl fun b3 w5 K6 S7 f8 => ⟨trivial, ?_⟩
 refine WO.pn 1 rfl ?_
 refine WO.fin ?_
 refine DN.seq ?_
 refine WC.seq ?_
 refine WC.rs [(0, 2), (1, 1), (2, 2), (3, 2)] rfl ?_
 refine WO.k2 rfl rfl rfl rfl (rn_fieldAddr Try.runUnderlying37 rfl Try.sizeOf24 rfl rfl) ?_
 refine WO.k1 trivial rfl rfl rfl rfl (rn_ld Try.isAgg24 rfl rfl (hvE (f8.ld 0 rfl rfl))) ?_
 refine WO.k2 rfl rfl rfl rfl (rn_len Try.runUnderlying24 rfl rfl) ?_
 refine WO.pn 1 rfl ?_
 refine WO.fin ?_
 refine DN.seq ?_
 refine WC.seq ?_
 refine WC.seq ?_
 refine WC.rs [(0, 1), (1, 1), (2, 2), (3, 2), (4, 2), (5, 1), (6, 2), (7, 2), (8, 2), (9, 2), (10, 1), (11, 2), (12, 2), (13, 1), (14, 2), (15, 2), (16, 2)] rfl ?_
 have f9 := f4.stp S7 rfl rfl
 refine WO.k1 trivial rfl rfl rfl rfl (rn_la (cs := [.int .i64 p0.In, .int .i64 p0.Out]) Try.isAgg35 Try.sizeOf35 rfl rfl rfl (haE f9.cells)) ?_
 obtain ⟨x11, hx11, h⟩ := Option.bind_eq_some_iff.mp h
 refine WO.call rfl rfl rfl rfl rfl rfl Try.call95 (s_SigOk_ok (κ := fun b => mp [] 0 (K6 b)) (p0 := p0) hx11) ?_
 rintro _ w10 ⟨k11, rfl, e12⟩
 obtain ⟨K13, S14, m15⟩ := Ent.mixed (l := []) (κ := K6) e12 4 rfl
 refine ⟨trivial, ?_⟩
 refine WO.pn 2 rfl ?_
 obtain ⟨p17, h, hK17⟩ := Option.bind_eq_some_iff.mp h
 refine WO.meet [(4, 2), (5, 1), (6, 2), (7, 2)] [(8, 2), (9, 2), (10, 1), (11, 2), (12, 2), (13, 1), (14, 2), (15, 2), (16, 2)] (fun L w' => L = [(2, .pointer (some ⟨b2, 0, none⟩)), (3, .pointer (some ⟨b3, 0, none⟩)), (5, .int .i64 (p1.Next.length : Int)), (17, .bool p17)] ∧ ∃ κ', Stp [] K13 w10 κ' w') trivial ?_ ?_
 ·
  revert h
  cases ht18 : (!x11) with
  | true =>
   intro h; replace h := cT h
   refine WO.pn 1 rfl ?_
   refine WO.ls rfl rfl rfl rfl ?_
   refine WO.pn 2 rfl ?_
   obtain rfl := Option.some.inj h
   exact WO.met _ trivial ⟨rfl, _, (Stp.refl _ _).wk rfl⟩ fun a ha => (ha.more (ha.more (ha.more (ha.more ha.nil rfl) rfl) rfl) rfl)
  | false =>
   intro h; replace h := cF h
   refine WO.pn 1 rfl ?_
   obtain ⟨x15, hx15, h⟩ := Option.bind_eq_some_iff.mp h
   refine WO.call rfl rfl rfl rfl rfl rfl Try.call96 (s_l1In_ok (κ := fun b => mp [] 0 (K13 b)) hx15) ?_
   rintro _ w19 ⟨k20, rfl, e21⟩
   obtain ⟨K22, S23, m24⟩ := Ent.mixed (l := []) (κ := K13) e21 6 rfl
   refine ⟨trivial, ?_⟩
   refine WO.pn 2 rfl ?_
   obtain rfl := Option.some.inj h
   exact WO.met _ trivial ⟨rfl, _, S23.wk rfl⟩ fun a ha => (ha.more (ha.more (ha.more (ha.more ha.nil rfl) rfl) rfl) rfl)
 rintro _ w26 _ ⟨rfl, K27, S28⟩
 have h := hK17
 refine WO.pn 1 rfl ?_
 obtain ⟨p26, h, hK29⟩ := Option.bind_eq_some_iff.mp h
 refine WO.meet [(9, 2), (10, 1), (11, 2), (12, 2), (13, 1), (14, 2), (15, 2), (16, 2)] [] (fun L w' => L = [(2, .pointer (some ⟨b2, 0, none⟩)), (3, .pointer (some ⟨b3, 0, none⟩)), (5, .int .i64 (p1.Next.length : Int)), (26, .bool p26)] ∧ ∃ κ', Stp [] K27 w26 κ' w') trivial ?_ ?_
 ·
  revert h
  cases ht30 : p17 with
  | true =>
   intro h; replace h := cT h
   refine WO.pn 1 rfl ?_
   refine WO.ls rfl rfl rfl rfl ?_
   refine WO.pn 2 rfl ?_
   refine WO.ls rfl rfl rfl rfl ?_
   refine WO.pn 3 rfl ?_
   obtain rfl := Option.some.inj h
   exact WO.met _ trivial ⟨rfl, _, (Stp.refl _ _).wk rfl⟩ fun a ha => (ha.more (ha.more (ha.more (ha.more ha.nil rfl) rfl) rfl) rfl)
  | false =>
   intro h; replace h := cF h
   refine WO.k2 rfl rfl rfl rfl (rn_fieldAddr Try.runUnderlying37 rfl Try.sizeOf24 rfl rfl) ?_
   have f31 := f8.stp (S14.tr S28) rfl rfl
   refine WO.k1 trivial rfl rfl rfl rfl (rn_ld Try.isAgg24 rfl rfl (hvE (f31.ld 1 rfl rfl))) ?_
   refine WO.k2 rfl rfl rfl rfl (rn_len Try.runUnderlying24 rfl rfl) ?_
   refine WO.k2 rfl rfl rfl rfl (rn_fieldAddr Try.runUnderlying37 rfl Try.sizeOf24 rfl rfl) ?_
   refine WO.k1 trivial rfl rfl rfl rfl (rn_ld Try.isAgg24 rfl rfl (hvE (f31.ld 0 rfl rfl))) ?_
   refine WO.k2 rfl rfl rfl rfl (rn_len Try.runUnderlying24 rfl rfl) ?_
   refine WO.pn 2 rfl ?_
   obtain rfl := Option.some.inj h
   exact WO.met _ trivial ⟨rfl, _, (Stp.refl _ _).wk rfl⟩ fun a ha => (ha.more (ha.more (ha.more (ha.more ha.nil rfl) rfl) rfl) rfl)
 rintro _ w32 _ ⟨rfl, K33, S34⟩
 have h := hK29
 refine WO.fin ?_
 refine DN.seq ?_
 revert h
 cases ht35 : p26 with
 | true =>
  intro h; replace h := cT h
  refine WC.ct rfl ?_
  refine WC.seq ?_
  refine WC.rs [(0, 2)] rfl ?_
  refine WO.pn 1 rfl ?_
  refine WO.fin ?_
  refine DN.seq ?_
  refine WC.ret ?_
  refine DN.retThen ?_
  have f36 := hE.stp (S3.tr (S7.tr (S14.tr (S28.tr S34)))) rfl rfl
  refine DN.res (l := [.tmp 4]) Try.results59 (res_tmp rfl rfl) rfl ?_
  obtain rfl := Option.some.inj h
  exact ⟨K33, rfl, f36⟩
 | false =>
  intro h; replace h := cF h
  refine WC.cf rfl ?_
  refine WC.skip ?_
  refine DN.seq ?_
  refine WC.seq ?_
  refine WC.seq ?_
  refine WC.rs [(0, 2)] rfl ?_
  refine WO.pn 1 rfl ?_
  refine WO.fin ?_
  refine DN.seq ?_
  have hN37 : (p1.Next.length : Int) ≤ 9223372036854775807 := g1_0.len_le
  obtain ⟨q2, hq39, hK38⟩ := Option.bind_eq_some_iff.mp h
  clear h
  refine WC.meet (fun L w' => ∃ (κ' : Col), L = [] ∧ Stp [] K33 w32 κ' w' ∧ q2 = Sum.inr ()) ?_ ?_
  ·
   refine WC.block ?_
   refine WC.loop (fun k L w' => ∃ (κ' : Col) (v6 : Int), L = [(2, .pointer (some ⟨b2, 0, none⟩)), (3, .pointer (some ⟨b3, 0, none⟩)), (5, .int .i64 (p1.Next.length : Int)), (6, .int .i64 v6)] ∧ Stp [] K33 w32 κ' w' ∧ 0 ≤ v6 ∧ Int.toNat ((p1.Next.length : Int) - v6) = k ∧ cntM (s_MachineOk_b0 p0 p1) k v6 () = some q2) ⟨_, _, ⟨K33, 0, rfl, (Stp.refl _ _).wk rfl, (by decide), (by simp), hq39⟩, fun a ha => (ha.more (ha.more (ha.more (ha.more ha.nil rfl) rfl) rfl) rfl)⟩ ?_
   rintro k _ w43 ⟨K44, v6, rfl, S45, hj37, hJ37, h⟩
   rcases k with _ | k
   ·
    have hk46 := h; obtain ⟨o37, h⟩ := ex_eq (Sum.inr (Sum.inl ()) : Bool ⊕ ((Unit) ⊕ (Unit)))
    have hc37 : decide (v6 < (p1.Next.length : Int)) = false := decide_eq_false (by omega)
    refine WC.seq ?_
    refine WC.seq ?_
    refine WC.rs [(0, 2), (1, 2), (2, 1), (3, 2), (4, 2)] rfl ?_
    refine WO.pn 1 rfl ?_
    refine WO.k2 rfl rfl rfl rfl (rn_fieldAddr Try.runUnderlying37 rfl Try.sizeOf24 rfl rfl) ?_
    have f47 := f8.stp (S14.tr (S28.tr (S34.tr S45))) rfl rfl
    refine WO.k1 trivial rfl rfl rfl rfl (rn_ld Try.isAgg24 rfl rfl (hvE (f47.ld 0 rfl rfl))) ?_
    refine WO.k2 rfl rfl rfl rfl (rn_len Try.runUnderlying24 rfl rfl) ?_
    refine WO.pn 1 rfl ?_
    refine WO.fin ?_
    refine DN.seq ?_
    refine WC.cf' rfl hc37 ?_
    refine WC.exit ?_
    refine DN.exitThen ?_
    refine DN.exitThen ?_
    obtain rfl := Option.some.inj h
    have h := hk46
    refine DN.hit ?_
    obtain rfl := Option.some.inj h
    exact DN.meet _ ⟨K44, rfl, S45.wk rfl, rfl⟩ fun a ha => ha.nil
   ·
    obtain ⟨o37, h, hk46⟩ := Option.bind_eq_some_iff.mp h; unfold s_MachineOk_b0 at h
    have hc37 : decide (v6 < (p1.Next.length : Int)) = true := decide_eq_true (by omega)
    refine WC.seq ?_
    refine WC.seq ?_
    refine WC.rs [(0, 2), (1, 2), (2, 1), (3, 2), (4, 2)] rfl ?_
    refine WO.pn 1 rfl ?_
    refine WO.k2 rfl rfl rfl rfl (rn_fieldAddr Try.runUnderlying37 rfl Try.sizeOf24 rfl rfl) ?_
    have f48 := f8.stp (S14.tr (S28.tr (S34.tr S45))) rfl rfl
    refine WO.k1 trivial rfl rfl rfl rfl (rn_ld Try.isAgg24 rfl rfl (hvE (f48.ld 0 rfl rfl))) ?_
    refine WO.k2 rfl rfl rfl rfl (rn_len Try.runUnderlying24 rfl rfl) ?_
    refine WO.pn 1 rfl ?_
    refine WO.fin ?_
    refine DN.seq ?_
    refine WC.ct' rfl hc37 ?_
    refine WC.skip ?_
    refine DN.seq ?_
    refine WC.seq ?_
    refine WC.block ?_
    refine WC.seq ?_
    refine WC.rx (κ := K44) [0, 2, 3] none [(0, 2), (2, 2), (1, 0), (3, 2), (4, 0), (5, 2), (6, 0), (7, 1), (8, 2), (9, 2), (10, 2), (12, 2), (16, 2), (18, 2), (11, 0), (13, 2), (14, 0), (15, 2), (17, 0), (19, 2), (20, 0), (21, 2), (22, 2), (23, 2), (24, 2), (25, 2), (27, 2), (30, 2), (26, 0), (28, 2), (29, 0), (31, 1), (32, 2), (33, 2), (34, 2), (35, 2), (37, 2), (40, 2), (36, 0), (38, 2), (39, 0), (41, 0), (42, 1), (43, 1), (44, 2), (45, 2)] [] (by kernel_rfl) (by kernel_rfl) fun w50 S49 => ?_
    refine WO.k2 rfl rfl rfl rfl (rn_fieldAddr Try.runUnderlying37 rfl Try.sizeOf24 rfl rfl) ?_
    refine WO.pn 1 rfl ?_
    have f51 := f48.stp S49 rfl rfl
    refine WO.k0 rfl rfl rfl rfl (rn_ld Try.isAgg24 rfl rfl (hvC (f51.ld 0 rfl rfl) rfl)) ?_
    obtain ⟨x37, hx37, h⟩ := Option.bind_eq_some_iff.mp h
    refine WO.k2 rfl rfl rfl rfl (rn_index g1_0 hx37 Try.runUnderlying24 Try.sizeOf28 rfl rfl rfl rfl) ?_
    have f52 := g1_0.stp (S3.tr (S7.tr (S14.tr (S28.tr (S34.tr (S45.tr S49)))))) rfl rfl
    obtain ⟨ax37, ux37, f53, hl54⟩ := f52.gSl hx37
    refine WO.k0 rfl rfl rfl rfl (rn_ld Try.isAgg28 rfl rfl (hvC hl54 rfl)) ?_
    refine WO.k2 rfl rfl rfl rfl (rn_len Try.runUnderlying28 rfl rfl) ?_
    have f55 := f9.stp (S14.tr (S28.tr (S34.tr (S45.tr S49)))) rfl rfl
    refine WO.k0 rfl rfl rfl rfl (rn_la (cs := [.int .i64 p0.In, .int .i64 p0.Out]) Try.isAgg35 Try.sizeOf35 rfl rfl rfl (haC f55.cells rfl)) ?_
    obtain ⟨x41, hx41, h⟩ := Option.bind_eq_some_iff.mp h
    refine WO.call rfl rfl rfl rfl rfl rfl Try.call97 (s_l29Ins_ok (κ := fun b => mp [] 0 (K44 b)) (p0 := p0) hx41) ?_
    rintro _ w56 ⟨k57, rfl, e58⟩
    obtain ⟨K59, S60, m61⟩ := Ent.mixed (l := []) (κ := K44) e58 6 rfl
    refine ⟨(S60.cl rfl), ?_⟩
    refine WO.pn 2 rfl ?_
    obtain ⟨p57, h, hK63⟩ := Option.bind_eq_some_iff.mp h
    refine WO.meet [(10, 2), (12, 2), (16, 2), (18, 2), (11, 0), (13, 2), (14, 0), (15, 2), (17, 0), (19, 2), (20, 0), (21, 2), (22, 2), (23, 2)] [(24, 2), (25, 2), (27, 2), (30, 2), (26, 0), (28, 2), (29, 0), (31, 1), (32, 2), (33, 2), (34, 2), (35, 2), (37, 2), (40, 2), (36, 0), (38, 2), (39, 0), (41, 0), (42, 1), (43, 1), (44, 2), (45, 2)] (fun L w' => L = [(2, .pointer (some ⟨b2, 0, none⟩)), (3, .pointer (some ⟨b3, 0, none⟩)), (5, .int .i64 (p1.Next.length : Int)), (6, .int .i64 v6), (57, .bool p57)] ∧ ∃ κ', Stp [] K59 w56 κ' w') (S60.cl rfl) ?_ ?_
    ·
     revert h
     cases ht64 : ((x37.length : Int) != x41) with
     | true =>
      intro h; replace h := cT h
      refine WO.pn 4 rfl ?_
      refine WO.qs rfl rfl rfl rfl ?_
      refine WO.pn 1 rfl ?_
      refine WO.qs rfl rfl rfl rfl ?_
      refine WO.pn 1 rfl ?_
      refine WO.qs rfl rfl rfl rfl ?_
      refine WO.pn 1 rfl ?_
      refine WO.qs rfl rfl rfl rfl ?_
      refine WO.pn 3 rfl ?_
      obtain rfl := Option.some.inj h
      exact WO.met _ (S60.cl rfl) ⟨rfl, _, (Stp.refl _ _).wk rfl⟩ fun a ha => (ha.more (ha.more (ha.more (ha.more (ha.more ha.nil rfl) rfl) rfl) rfl) rfl)
     | false =>
      intro h; replace h := cF h
      refine WO.k2 rfl rfl rfl rfl (rn_fieldAddr Try.runUnderlying37 rfl Try.sizeOf24 rfl rfl) ?_
      refine WO.pn 1 rfl ?_
      refine WO.k2 rfl rfl rfl rfl (rn_fieldAddr Try.runUnderlying37 rfl Try.sizeOf24 rfl rfl) ?_
      refine WO.pn 1 rfl ?_
      refine WO.k0 rfl rfl rfl rfl (rn_ld Try.isAgg24 rfl rfl (hvC (f51.ld 1 rfl rfl) rfl)) ?_
      obtain ⟨x47, hx47, h⟩ := Option.bind_eq_some_iff.mp h
      refine WO.k2 rfl rfl rfl rfl (rn_index g1_1 hx47 Try.runUnderlying24 Try.sizeOf28 rfl rfl rfl rfl) ?_
      have f65 := g1_1.stp (S3.tr (S7.tr (S14.tr (S28.tr (S34.tr (S45.tr S49)))))) rfl rfl
      obtain ⟨ax47, ux47, f66, hl67⟩ := f65.gSl hx47
      refine WO.k0 rfl rfl rfl rfl (rn_ld Try.isAgg28 rfl rfl (hvC hl67 rfl)) ?_
      refine WO.k2 rfl rfl rfl rfl (rn_len Try.runUnderlying28 rfl rfl) ?_
      refine WO.k0 rfl rfl rfl rfl (rn_ld Try.isAgg24 rfl rfl (hvC (f51.ld 0 rfl rfl) rfl)) ?_
      obtain ⟨x53, hx53, h⟩ := Option.bind_eq_some_iff.mp h
      refine WO.k2 rfl rfl rfl rfl (rn_index f52 hx53 Try.runUnderlying24 Try.sizeOf28 rfl rfl rfl rfl) ?_
      obtain ⟨ax53, ux53, f68, hl69⟩ := f52.gSl hx53
      refine WO.k0 rfl rfl rfl rfl (rn_ld Try.isAgg28 rfl rfl (hvC hl69 rfl)) ?_
      refine WO.k2 rfl rfl rfl rfl (rn_len Try.runUnderlying28 rfl rfl) ?_
      refine WO.pn 2 rfl ?_
      obtain rfl := Option.some.inj h
      exact WO.met _ (S60.cl rfl) ⟨rfl, _, (Stp.refl _ _).wk rfl⟩ fun a ha => (ha.more (ha.more (ha.more (ha.more (ha.more ha.nil rfl) rfl) rfl) rfl) rfl)
    rintro _ w70 _ ⟨rfl, K71, S72⟩
    have h := hK63
    refine WO.pn 1 rfl ?_
    obtain ⟨p67, h, hK73⟩ := Option.bind_eq_some_iff.mp h
    refine WO.meet [(25, 2), (27, 2), (30, 2), (26, 0), (28, 2), (29, 0), (31, 1), (32, 2), (33, 2)] [(34, 2), (35, 2), (37, 2), (40, 2), (36, 0), (38, 2), (39, 0), (41, 0), (42, 1), (43, 1), (44, 2), (45, 2)] (fun L w' => L = [(2, .pointer (some ⟨b2, 0, none⟩)), (3, .pointer (some ⟨b3, 0, none⟩)), (5, .int .i64 (p1.Next.length : Int)), (6, .int .i64 v6), (67, .bool p67)] ∧ ∃ κ', Stp [] K71 w70 κ' w') ((S60.tr S72).cl rfl) ?_ ?_
    ·
     revert h
     cases ht74 : p57 with
     | true =>
      intro h; replace h := cT h
      refine WO.pn 3 rfl ?_
      refine WO.qs rfl rfl rfl rfl ?_
      refine WO.pn 1 rfl ?_
      refine WO.qs rfl rfl rfl rfl ?_
      refine WO.ls rfl rfl rfl rfl ?_
      refine WO.pn 2 rfl ?_
      obtain rfl := Option.some.inj h
      exact WO.met _ ((S60.tr S72).cl rfl) ⟨rfl, _, (Stp.refl _ _).wk rfl⟩ fun a ha => (ha.more (ha.more (ha.more (ha.more (ha.more ha.nil rfl) rfl) rfl) rfl) rfl)
     | false =>
      intro h; replace h := cF h
      refine WO.k2 rfl rfl rfl rfl (rn_fieldAddr Try.runUnderlying37 rfl Try.sizeOf24 rfl rfl) ?_
      refine WO.pn 2 rfl ?_
      refine WO.k0 rfl rfl rfl rfl (rn_ld Try.isAgg24 rfl rfl (hvC (f51.ld 0 rfl rfl) rfl)) ?_
      obtain ⟨x62, hx62, h⟩ := Option.bind_eq_some_iff.mp h
      refine WO.k2 rfl rfl rfl rfl (rn_index f52 hx62 Try.runUnderlying24 Try.sizeOf28 rfl rfl rfl rfl) ?_
      obtain ⟨ax62, ux62, f75, hl76⟩ := f52.gSl hx62
      refine WO.k0 rfl rfl rfl rfl (rn_ld Try.isAgg28 rfl rfl (hvC hl76 rfl)) ?_
      obtain ⟨x65, hx65, h⟩ := Option.bind_eq_some_iff.mp h
      have f77 := f75.stp (S60.tr S72) rfl rfl
      refine WO.call rfl rfl rfl rfl rfl rfl Try.call98 (s_l23Below_ok (κ := fun b => mp [] 0 (K71 b)) (Sl.map f77 (mp [] 0) rfl rfl) hx65) ?_
      rintro _ w78 ⟨k79, rfl, e80⟩
      obtain ⟨K81, S82, m83⟩ := Ent.mixed (l := []) (κ := K71) e80 8 rfl
      refine ⟨((S60.tr (S72.tr S82)).cl rfl), ?_⟩
      refine WO.pn 2 rfl ?_
      obtain rfl := Option.some.inj h
      exact WO.met _ ((S60.tr (S72.tr S82)).cl rfl) ⟨rfl, _, S82.wk rfl⟩ fun a ha => (ha.more (ha.more (ha.more (ha.more (ha.more ha.nil rfl) rfl) rfl) rfl) rfl)
    rintro _ w85 _ ⟨rfl, K86, S87⟩
    have h := hK73
    refine WO.pn 1 rfl ?_
    obtain ⟨p79, h, hK88⟩ := Option.bind_eq_some_iff.mp h
    refine WO.meet [(35, 2), (37, 2), (40, 2), (36, 0), (38, 2), (39, 0), (41, 0), (42, 1), (43, 1), (44, 2), (45, 2)] [] (fun L w' => L = [(2, .pointer (some ⟨b2, 0, none⟩)), (3, .pointer (some ⟨b3, 0, none⟩)), (5, .int .i64 (p1.Next.length : Int)), (6, .int .i64 v6), (79, .bool p79)] ∧ ∃ κ', Stp [] K86 w85 κ' w') ((S60.tr (S72.tr S87)).cl rfl) ?_ ?_
    ·
     revert h
     cases ht89 : p67 with
     | true =>
      intro h; replace h := cT h
      refine WO.pn 3 rfl ?_
      refine WO.qs rfl rfl rfl rfl ?_
      refine WO.pn 1 rfl ?_
      refine WO.qs rfl rfl rfl rfl ?_
      refine WO.qs rfl rfl rfl rfl ?_
      refine WO.ls rfl rfl rfl rfl ?_
      refine WO.ls rfl rfl rfl rfl ?_
      refine WO.pn 2 rfl ?_
      obtain rfl := Option.some.inj h
      exact WO.met _ ((S60.tr (S72.tr S87)).cl rfl) ⟨rfl, _, (Stp.refl _ _).wk rfl⟩ fun a ha => (ha.more (ha.more (ha.more (ha.more (ha.more ha.nil rfl) rfl) rfl) rfl) rfl)
     | false =>
      intro h; replace h := cF h
      refine WO.k2 rfl rfl rfl rfl (rn_fieldAddr Try.runUnderlying37 rfl Try.sizeOf24 rfl rfl) ?_
      refine WO.pn 1 rfl ?_
      refine WO.k2 rfl rfl rfl rfl (rn_fieldAddr Try.runUnderlying35 rfl Try.sizeOf2 rfl rfl) ?_
      refine WO.k0 rfl rfl rfl rfl (rn_ld Try.isAgg24 rfl rfl (hvC (f51.ld 1 rfl rfl) rfl)) ?_
      obtain ⟨x72, hx72, h⟩ := Option.bind_eq_some_iff.mp h
      refine WO.k2 rfl rfl rfl rfl (rn_index g1_1 hx72 Try.runUnderlying24 Try.sizeOf28 rfl rfl rfl rfl) ?_
      have f90 := g1_1.stp (S3.tr (S7.tr (S14.tr (S28.tr (S34.tr (S45.tr S49)))))) rfl rfl
      obtain ⟨ax72, ux72, f91, hl92⟩ := f90.gSl hx72
      refine WO.k0 rfl rfl rfl rfl (rn_ld Try.isAgg28 rfl rfl (hvC hl92 rfl)) ?_
      refine WO.k0 rfl rfl rfl rfl (rn_ld Try.isAgg2 rfl rfl (hvC (f55.ld 1 rfl rfl) rfl)) ?_
      obtain ⟨x76, hx76, h⟩ := Option.bind_eq_some_iff.mp h
      refine WO.call rfl rfl rfl rfl rfl rfl Try.call99 (s_l23Power_ok (κ := fun b => mp [] 0 (K86 b)) hx76) ?_
      rintro _ w93 ⟨k94, rfl, e95⟩
      obtain ⟨K96, S97, m98⟩ := Ent.mixed (l := []) (κ := K86) e95 8 rfl
      refine ⟨((S60.tr (S72.tr (S87.tr S97))).cl rfl), ?_⟩
      obtain ⟨x77, hx77, h⟩ := Option.bind_eq_some_iff.mp h
      have f100 := f91.stp (S60.tr (S72.tr (S87.tr S97))) rfl rfl
      refine WO.call rfl rfl rfl rfl rfl rfl Try.call98 (s_l23Below_ok (κ := fun b => mp [] 0 (K96 b)) (Sl.map f100 (mp [] 0) rfl rfl) hx77) ?_
      rintro _ w101 ⟨k102, rfl, e103⟩
      obtain ⟨K104, S105, m106⟩ := Ent.mixed (l := []) (κ := K96) e103 10 rfl
      refine ⟨((S60.tr (S72.tr (S87.tr (S97.tr S105)))).cl rfl), ?_⟩
      refine WO.pn 2 rfl ?_
      obtain rfl := Option.some.inj h
      exact WO.met _ ((S60.tr (S72.tr (S87.tr (S97.tr S105)))).cl rfl) ⟨rfl, _, (S97.tr S105).wk rfl⟩ fun a ha => (ha.more (ha.more (ha.more (ha.more (ha.more ha.nil rfl) rfl) rfl) rfl) rfl)
    rintro _ w108 _ ⟨rfl, K109, S110⟩
    have h := hK88
    refine WO.nx ?_
    refine WO.fin ?_
    refine DN.seq ?_
    revert h
    cases ht111 : p79 with
    | true =>
     intro h; replace h := cT h
     refine WC.ct rfl ?_
     refine WC.seq ?_
     refine WC.rs [(0, 2)] rfl ?_
     refine WO.pn 1 rfl ?_
     refine WO.fin ?_
     refine DN.seq ?_
     refine WC.ret ?_
     refine DN.retBlock ?_
     refine DN.retThen ?_
     refine DN.retThen ?_
     obtain rfl := Option.some.inj h
     obtain rfl := Option.some.inj hk46
     have h := hK38
     dsimp only [aft] at h
     refine DN.retBlock ?_
     refine DN.retMeet ?_
     refine DN.retThen ?_
     have f112 := hE.stp (S3.tr (S7.tr (S14.tr (S28.tr (S34.tr (S45.tr (S49.tr (S60.tr (S72.tr (S87.tr S110)))))))))) rfl rfl
     refine DN.res (l := [.tmp 4]) Try.results59 (res_tmp rfl rfl) rfl ?_
     obtain rfl := Option.some.inj h
     exact ⟨K109, rfl, f112⟩
    | false =>
     intro h; replace h := cF h
     refine WC.cf rfl ?_
     refine WC.skip ?_
     refine DN.block ?_
     refine DN.seq ?_
     refine WC.rs [(0, 2), (1, 2), (2, 2)] rfl ?_
     refine WO.pn 3 rfl ?_
     refine WO.fin ?_
     have hw37 : IntKind.wrap .i64 (v6 + 1) = v6 + 1 := wr1 hj37 (of_decide_eq_true hc37) hN37
     rw [hw37]
     have hc37 := of_decide_eq_true hc37
     obtain rfl := Option.some.inj h
     refine DN.round fun a ha => ?_
     exact ⟨k, _, Nat.lt_succ_self _, ⟨K109, v6 + 1, rfl, (S45.tr (S49.tr (S60.tr (S72.tr (S87.tr S110))))).wk rfl, by omega, by omega, hk46⟩, (ha.more (ha.more (ha.more (ha.more ha.nil rfl) rfl) rfl) rfl)⟩
  rintro _ w40 ⟨K41, rfl, S42, rfl⟩
  have h := hK38
  dsimp only [aft] at h
  refine DN.seq ?_
  refine WC.seq ?_
  refine WC.rs [(0, 2)] rfl ?_
  refine WO.pn 1 rfl ?_
  refine WO.fin ?_
  refine DN.seq ?_
  refine WC.ret ?_
  have f113 := hE.stp (S3.tr (S7.tr (S14.tr (S28.tr (S34.tr S42))))) rfl rfl
  refine DN.res (l := [.tmp 4]) Try.results59 (res_tmp rfl rfl) rfl ?_
  obtain rfl := Option.some.inj h
  exact ⟨K41, rfl, f113⟩

/- loop.example/g00869/spec.l1Set -/
theorem s_l1Set_ok {w : World} {κ : Col} {a0 : Option Addr} {u0 : Nat} {p0 : (List Int)} {p1 : Int} (g0 : Rd (Rp.int .i64) κ w 0 a0 u0 p0) {r : Bool} (h : s_l1Set p0 p1 = some r) : Ret Try.prog 136 [.slice a0 p0.length u0, .int .i64 p1] w (fun v w' => ∃ (κ' : Col), v = .bool r ∧ Ent κ w κ' w') := by
 unfold s_l1Set at h
 refine Ret.enter Try.func136 rfl Try.ntmps136 rfl ?_
 dsimp only [envOf]
 have hE := Ent.refl κ w
 refine WC.seq ?_
 refine WC.rs [(0, 2)] rfl ?_
 refine WO.pn 1 rfl ?_
 refine WO.fin ?_
 refine DN.seq ?_
 refine WC.seq ?_
 refine WC.rs [(0, 2), (1, 2), (2, 2), (3, 2), (4, 2), (5, 2), (6, 2), (7, 1), (8, 2), (9, 2)] rfl ?_
 refine WO.pn 1 rfl ?_
 refine WO.k2 rfl rfl rfl rfl (rn_len Try.runUnderlying28 rfl rfl) ?_
 refine WO.pn 3 rfl ?_
 obtain ⟨p13, h, hK1⟩ := Option.bind_eq_some_iff.mp h
 refine WO.meet [(5, 2), (6, 2), (7, 1), (8, 2)] [(9, 2)] (fun L w' => L = [(4, .bool false), (13, .bool p13)] ∧ ∃ κ', Stp [] κ w κ' w') trivial ?_ ?_
 ·
  revert h
  cases ht2 : decide ((p0.length : Int) ≤ p1) with
  | true =>
   intro h; replace h := cT h
   refine WO.pn 2 rfl ?_
   obtain ⟨x12, hx12, h⟩ := Option.bind_eq_some_iff.mp h
   refine WO.call rfl rfl rfl rfl rfl rfl Try.call155 (s_l1Rises_ok (κ := fun b => mp [] 0 (κ b)) (Sl.map g0 (mp [] 0) rfl rfl) hx12) ?_
   rintro _ w3 ⟨k4, rfl, e5⟩
   obtain ⟨K6, S7, m8⟩ := Ent.mixed (l := []) (κ := κ) e5 2 rfl
   refine ⟨trivial, ?_⟩
   refine WO.pn 1 rfl ?_
   obtain rfl := Option.some.inj h
   exact WO.met _ trivial ⟨rfl, _, S7.wk rfl⟩ fun a ha => (ha.more (ha.more ha.nil rfl) rfl)
  | false =>
   intro h; replace h := cF h
   refine WO.pn 2 rfl ?_
   refine WO.ls rfl rfl rfl rfl ?_
   refine WO.pn 1 rfl ?_
   obtain rfl := Option.some.inj h
   exact WO.met _ trivial ⟨rfl, _, (Stp.refl _ _).wk rfl⟩ fun a ha => (ha.more (ha.more ha.nil rfl) rfl)
 rintro _ w10 _ ⟨rfl, K11, S12⟩
 have h := hK1
 refine WO.pn 1 rfl ?_
 refine WO.fin ?_
 refine DN.seq ?_
 refine WC.ret ?_
 have f13 := hE.stp S12 rfl rfl
 refine DN.res (l := [.tmp 4]) Try.results136 (res_tmp rfl rfl) rfl ?_
 obtain rfl := Option.some.inj h
 exact ⟨K11, rfl, f13⟩

/- loop.example/g00869/spec.l30Watch -/
theorem s_l30Watch_ok {w : World} {κ : Col} {p0 : Sig} {a1_0 : Option Addr} {u1_0 : Nat} {a1_1 : Option Addr} {u1_1 : Nat} {p1 : Machine} {a2_0 : Option Addr} {u2_0 : Nat} {a2_1 : Option Addr} {u2_1 : Nat} {p2 : Det} (g1_0 : Rd (Rp.sl (Rp.int .i64)) κ w 0 a1_0 u1_0 p1.Next) (g1_1 : Rd (Rp.sl (Rp.int .i64)) κ w 0 a1_1 u1_1 p1.Out) (g2_0 : Rd (Rp.sl (Rp.int .i64)) κ w 0 a2_0 u2_0 p2.Next) (g2_1 : Rd Pair.rp κ w 0 a2_1 u2_1 p2.Pairs) {r : l30Graph × Bool} (h : s_l30Watch p0 p1 p2 = some r) : Ret Try.prog 61 [.agg #[.int .i64 p0.In, .int .i64 p0.Out], .agg #[.slice a1_0 p1.Next.length u1_0, .slice a1_1 p1.Out.length u1_1], .agg #[.slice a2_0 p2.Next.length u2_0, .slice a2_1 p2.Pairs.length u2_1]] w (fun v w' => ∃ (κ' : Col) (ra0 : Option Addr) (ru0 : Nat) (ra1 : Option Addr) (ru1 : Nat) (ra2 : Option Addr) (ru2 : Nat) (ra3 : Option Addr) (ru3 : Nat), v = .tuple #[.agg #[.slice ra0 r.1.of.length ru0, .slice ra1 r.1.by0.length ru1, .slice ra2 r.1.next.length ru2, .slice ra3 r.1.letters.length ru3], .bool r.2] ∧ Ent κ w κ' w' ∧ Oc (Ep.int .i64) 2 κ' w' 2 ra0 ru0 r.1.of ∧ Oc (Ep.int .i64) 2 κ' w' 3 ra1 ru1 r.1.by0 ∧ Oc (Ep.own (Ep.int .i64) 2) 28 κ' w' 4 ra2 ru2 r.1.next ∧ Oc (Ep.own (Ep.int .i64) 2) 28 κ' w' 5 ra3 ru3 r.1.letters) := by
 unfold s_l30Watch at h
 refine Ret.enter Try.func61 rfl Try.ntmps61 rfl ?_
 dsimp only [envOf]
 have hE := Ent.refl κ w
 refine WC.seq ?_
 refine WC.rs [(0, 1), (1, 1), (2, 1), (3, 1), (4, 2)] rfl ?_
 refine WO.box (κ := κ) 2 rfl rfl rfl rfl rfl rfl rfl fun b3 w1 K2 S3 f4 => ⟨trivial, ?_⟩
 refine WO.box (κ := K2) 3 rfl rfl rfl rfl rfl rfl rfl fun b4 w5 K6 S7 f8 => ⟨trivial, ?_⟩
 refine WO.box (κ := K6) 4 rfl rfl rfl rfl rfl rfl rfl fun b5 w9 K10 S11 f12 => ⟨trivial, ?_⟩
 refine WO.alloc (κ := K10) 5 rfl rfl rfl rfl rfl Try.zeroValue108 rfl fun b6 w13 K14 S15 f16 => ⟨trivial, ?_⟩
 refine WO.pn 1 rfl ?_
 refine WO.fin ?_
 refine DN.seq ?_
 refine WC.seq ?_
 refine WC.rs [(0, 2), (1, 1), (2, 2)] rfl ?_
 refine WO.k2 rfl rfl rfl rfl (rn_build (parts := []) (cells := [.slice none 0 0, .slice none 0 0, .slice none 0 0, .slice none 0 0]) rfl rfl (by kernel_rfl)) ?_
 refine WO.box (κ := K14) 6 rfl rfl rfl rfl rfl rfl rfl fun b15 w17 K18 S19 f20 => ⟨trivial, ?_⟩
 refine WO.pn 1 rfl ?_
 refine WO.fin ?_
 refine DN.seq ?_
 refine WC.seq ?_
 refine WC.rs [(0, 2), (1, 1)] rfl ?_
 refine WO.pn 1 rfl ?_
 have f21 : Oc (Ep.int .i64) 2 K18 w17 7 none 0 ([] : List Int) := Ow.nil
 have f22 : Oc (Ep.int .i64) 2 K18 w17 8 none 0 ([] : List Int) := Ow.nil
 obtain ⟨x17, hx17, h⟩ := Option.bind_eq_some_iff.mp h
 refine WO.call rfl rfl rfl rfl rfl rfl Try.call102 (s_l30Find_ok (κ := fun b => mp [(7, 2), (8, 3), (6, 4)] 0 (K18 b)) (p0 := (⟨([] : List Int), ([] : List Int), ([] : List (List Int)), ([] : List (List Int))⟩ : l30Graph)) (f21.map (mp [(7, 2), (8, 3), (6, 4)] 0) rfl rfl) (f22.map (mp [(7, 2), (8, 3), (6, 4)] 0) rfl rfl) Sl.nil Sl.nil (f20.map (mp [(7, 2), (8, 3), (6, 4)] 0) rfl rfl) hx17) ?_
 rintro _ w23 ⟨k24, a17_m0, u17_m0, a17_m1, u17_m1, rfl, e25, f26, f27, f28⟩
 obtain ⟨K29, S30, m31⟩ := Ent.mixed (l := [(7, 2), (8, 3), (6, 4)]) (κ := K18) e25 9 rfl
 refine ⟨trivial, ?_⟩
 have f33 := f26.mx (no_int _) m31 rfl (rfl : 9 + 2 = 11)
 have f34 := f27.mx (no_int _) m31 rfl (rfl : 9 + 3 = 12)
 have f35 := f28.mx m31 rfl (rfl : 9 + 4 = 13)
 refine WO.fin ?_
 refine DN.seq ?_
 refine WC.seq ?_
 refine WC.seq ?_
 refine WC.rs [(0, 2)] rfl ?_
 refine WO.pn 1 rfl ?_
 refine WO.fin ?_
 refine DN.seq ?_
 obtain ⟨q2, hq38, hK37⟩ := Option.bind_eq_some_iff.mp h
 clear h
 refine WC.meet (fun L w' => ∃ (κ' : Col) (s3 : Int × (List Int) × (List Int) × (List (List Int)) × (List (List Int))) (las3_0 : Option Addr) (lus3_0 : Nat) (las3_1 : Option Addr) (lus3_1 : Nat) (las3_2 : Option Addr) (lus3_2 : Nat) (las3_3 : Option Addr) (lus3_3 : Nat), L = [(6, .pointer (some ⟨b6, 0, none⟩)), (8, .pointer (some ⟨b15, 0, none⟩))] ∧ Stp [11, 12, 13, 14, 15, 16, 17, 18, 19, 24, 25, 26] K29 w23 κ' w' ∧ Oc (Ep.int .i64) 2 κ' w' 11 las3_0 lus3_0 s3.2.1 ∧ Oc (Ep.int .i64) 2 κ' w' 12 las3_1 lus3_1 s3.2.2.1 ∧ Oc (Ep.own (Ep.int .i64) 2) 28 κ' w' 14 las3_2 lus3_2 s3.2.2.2.1 ∧ Oc (Ep.own (Ep.int .i64) 2) 28 κ' w' 15 las3_3 lus3_3 s3.2.2.2.2 ∧ Bc κ' w' 13 b15 108 [.slice las3_0 s3.2.1.length lus3_0, .slice las3_1 s3.2.2.1.length lus3_1, .slice las3_2 s3.2.2.2.1.length lus3_2, .slice las3_3 s3.2.2.2.2.length lus3_3] ∧ q2 = Sum.inr s3) ?_ ?_
 ·
  refine WC.block ?_
  refine WC.loop (fun k L w' => ∃ (κ' : Col) (s1 : Int × (List Int) × (List Int) × (List (List Int)) × (List (List Int))) (las1_0 : Option Addr) (lus1_0 : Nat) (las1_1 : Option Addr) (lus1_1 : Nat) (las1_2 : Option Addr) (lus1_2 : Nat) (las1_3 : Option Addr) (lus1_3 : Nat), L = [(3, .pointer (some ⟨b3, 0, none⟩)), (4, .pointer (some ⟨b4, 0, none⟩)), (5, .pointer (some ⟨b5, 0, none⟩)), (6, .pointer (some ⟨b6, 0, none⟩)), (8, .pointer (some ⟨b15, 0, none⟩)), (9, .int .i64 s1.1)] ∧ Stp [11, 12, 13, 14, 15, 16, 17, 18, 19, 24, 25, 26] K29 w23 κ' w' ∧ Oc (Ep.int .i64) 2 κ' w' 11 las1_0 lus1_0 s1.2.1 ∧ Oc (Ep.int .i64) 2 κ' w' 12 las1_1 lus1_1 s1.2.2.1 ∧ Oc (Ep.own (Ep.int .i64) 2) 28 κ' w' 14 las1_2 lus1_2 s1.2.2.2.1 ∧ Oc (Ep.own (Ep.int .i64) 2) 28 κ' w' 15 las1_3 lus1_3 s1.2.2.2.2 ∧ Bc κ' w' 13 b15 108 [.slice las1_0 s1.2.1.length lus1_0, .slice las1_1 s1.2.2.1.length lus1_1, .slice las1_2 s1.2.2.2.1.length lus1_2, .slice las1_3 s1.2.2.2.2.length lus1_3] ∧ whileM (s_l30Watch_b0 p0 p1 p2) k s1 = some q2) ⟨_, _, ⟨K29, ((0 : Int), (x17.2.1 : (List Int)), (x17.2.2 : (List Int)), (([] : List (List Int)) : (List (List Int))), (([] : List (List Int)) : (List (List Int)))), a17_m0, u17_m0, a17_m1, u17_m1, none, 0, none, 0, rfl, (Stp.refl _ _).wk rfl, f33, f34, Ow.nil, Ow.nil, f35, hq38⟩, fun a ha => (ha.more (ha.more (ha.more (ha.more (ha.more (ha.more ha.nil rfl) rfl) rfl) rfl) rfl) rfl)⟩ ?_
  rintro k _ w47 ⟨K48, s1, las1_0, lus1_0, las1_1, lus1_1, las1_2, lus1_2, las1_3, lus1_3, rfl, S49, f50, f51, f52, f53, f54, h⟩
  rcases k with _ | k
  ·
   cases h
  ·
   obtain ⟨o36, h, hk55⟩ := Option.bind_eq_some_iff.mp h; unfold s_l30Watch_b0 at h
   refine WC.seq ?_
   refine WC.seq ?_
   refine WC.rs [(0, 2), (1, 2), (2, 2), (3, 2), (4, 1), (5, 2), (6, 2)] rfl ?_
   refine WO.pn 2 rfl ?_
   refine WO.k2 rfl rfl rfl rfl (rn_nilCheck rfl rfl) ?_
   refine WO.k2 rfl rfl rfl rfl (rn_fieldAddr Try.runUnderlying108 rfl Try.sizeOf28 rfl rfl) ?_
   refine WO.k1 trivial rfl rfl rfl rfl (rn_ld Try.isAgg28 rfl rfl (hvE (f54.ld 0 rfl rfl))) ?_
   refine WO.k2 rfl rfl rfl rfl (rn_len Try.runUnderlying28 rfl rfl) ?_
   refine WO.pn 1 rfl ?_
   refine WO.fin ?_
   refine DN.seq ?_
   revert h
   cases ht56 : decide (s1.1 < (s1.2.1.length : Int)) with
   | true =>
    intro h; replace h := cT h
    refine WC.ct rfl ?_
    refine WC.skip ?_
    refine DN.seq ?_
    refine WC.seq ?_
    refine WC.block ?_
    refine WC.seq ?_
    refine WC.rs [(0, 1), (1, 2)] rfl ?_
    refine WO.bl0 (κ := K48) (E := (Ep.int .i64)) 16 rfl rfl rfl rfl rfl Try.underlying28 Tryinfo2 rfl fun a27 u27 w57 K58 S59 f60 => ⟨trivial, ?_⟩
    refine WO.pn 1 rfl ?_
    refine WO.fin ?_
    refine DN.seq ?_
    refine WC.seq ?_
    refine WC.rs [(0, 1), (1, 2)] rfl ?_
    refine WO.bl0 (κ := K58) (E := (Ep.int .i64)) 17 rfl rfl rfl rfl rfl Try.underlying28 Tryinfo2 rfl fun a28 u28 w61 K62 S63 f64 => ⟨trivial, ?_⟩
    refine WO.pn 1 rfl ?_
    refine WO.fin ?_
    refine DN.seq ?_
    refine WC.seq ?_
    refine WC.seq ?_
    refine WC.rs [(0, 2)] rfl ?_
    refine WO.pn 1 rfl ?_
    refine WO.fin ?_
    refine DN.seq ?_
    obtain ⟨q5, hq67, hK66⟩ := Option.bind_eq_some_iff.mp h
    clear h
    refine WC.meet (fun L w' => ∃ (κ' : Col) (s6 : (List Int) × (List Int) × Int × (List Int) × (List Int)) (las6_0 : Option Addr) (lus6_0 : Nat) (las6_1 : Option Addr) (lus6_1 : Nat) (las6_2 : Option Addr) (lus6_2 : Nat) (las6_3 : Option Addr) (lus6_3 : Nat), L = [(3, .pointer (some ⟨b3, 0, none⟩)), (4, .pointer (some ⟨b4, 0, none⟩)), (5, .pointer (some ⟨b5, 0, none⟩)), (6, .pointer (some ⟨b6, 0, none⟩)), (8, .pointer (some ⟨b15, 0, none⟩)), (9, .int .i64 s1.1), (10, .slice las6_0 s6.1.length lus6_0), (11, .slice las6_1 s6.2.1.length lus6_1)] ∧ Stp [11, 12, 13, 16, 17, 24, 25, 26] K62 w61 κ' w' ∧ Oc (Ep.int .i64) 2 κ' w' 16 las6_0 lus6_0 s6.1 ∧ Oc (Ep.int .i64) 2 κ' w' 17 las6_1 lus6_1 s6.2.1 ∧ Oc (Ep.int .i64) 2 κ' w' 11 las6_2 lus6_2 s6.2.2.2.1 ∧ Oc (Ep.int .i64) 2 κ' w' 12 las6_3 lus6_3 s6.2.2.2.2 ∧ Bc κ' w' 13 b15 108 [.slice las6_2 s6.2.2.2.1.length lus6_2, .slice las6_3 s6.2.2.2.2.length lus6_3, .slice las1_2 s1.2.2.2.1.length lus1_2, .slice las1_3 s1.2.2.2.2.length lus1_3] ∧ q5 = Sum.inr s6) ?_ ?_
    ·
     refine WC.block ?_
     have f84 := f60.stp S63 rfl rfl
     have f85 := f50.stp (S59.tr S63) rfl rfl
     have f86 := f51.stp (S59.tr S63) rfl rfl
     have f87 := f54.stp (S59.tr S63) rfl rfl
     refine WC.loop (fun k L w' => ∃ (κ' : Col) (s4 : (List Int) × (List Int) × Int × (List Int) × (List Int)) (las4_0 : Option Addr) (lus4_0 : Nat) (las4_1 : Option Addr) (lus4_1 : Nat) (las4_2 : Option Addr) (lus4_2 : Nat) (las4_3 : Option Addr) (lus4_3 : Nat), L = [(3, .pointer (some ⟨b3, 0, none⟩)), (4, .pointer (some ⟨b4, 0, none⟩)), (5, .pointer (some ⟨b5, 0, none⟩)), (6, .pointer (some ⟨b6, 0, none⟩)), (8, .pointer (some ⟨b15, 0, none⟩)), (9, .int .i64 s1.1), (10, .slice las4_0 s4.1.length lus4_0), (11, .slice las4_1 s4.2.1.length lus4_1), (12, .int .i64 s4.2.2.1)] ∧ Stp [11, 12, 13, 16, 17, 24, 25, 26] K62 w61 κ' w' ∧ Oc (Ep.int .i64) 2 κ' w' 16 las4_0 lus4_0 s4.1 ∧ Oc (Ep.int .i64) 2 κ' w' 17 las4_1 lus4_1 s4.2.1 ∧ Oc (Ep.int .i64) 2 κ' w' 11 las4_2 lus4_2 s4.2.2.2.1 ∧ Oc (Ep.int .i64) 2 κ' w' 12 las4_3 lus4_3 s4.2.2.2.2 ∧ Bc κ' w' 13 b15 108 [.slice las4_2 s4.2.2.2.1.length lus4_2, .slice las4_3 s4.2.2.2.2.length lus4_3, .slice las1_2 s1.2.2.2.1.length lus1_2, .slice las1_3 s1.2.2.2.2.length lus1_3] ∧ whileM (s_l30Watch_b2 p0 p1 p2 s1) k s4 = some q5) ⟨_, _, ⟨K62, ((([] : List Int) : (List Int)), (([] : List Int) : (List Int)), (0 : Int), (s1.2.1 : (List Int)), (s1.2.2.1 : (List Int))), a27, u27, a28, u28, las1_0, lus1_0, las1_1, lus1_1, rfl, (Stp.refl _ _).wk rfl, f84, f64, f85, f86, f87, hq67⟩, fun a ha => (ha.more (ha.more (ha.more (ha.more (ha.more (ha.more (ha.more (ha.more (ha.more ha.nil rfl) rfl) rfl) rfl) rfl) rfl) rfl) rfl) rfl)⟩ ?_
     rintro k _ w76 ⟨K77, s4, las4_0, lus4_0, las4_1, lus4_1, las4_2, lus4_2, las4_3, lus4_3, rfl, S78, f79, f80, f81, f82, f83, h⟩
     rcases k with _ | k
     ·
      cases h
     ·
      obtain ⟨o65, h, hk88⟩ := Option.bind_eq_some_iff.mp h; unfold s_l30Watch_b2 at h
      refine WC.seq ?_
      refine WC.seq ?_
      refine WC.rs [(0, 2), (1, 1), (2, 1), (3, 2)] rfl ?_
      refine WO.pn 1 rfl ?_
      have f89 := f4.stp (S7.tr (S11.tr (S15.tr (S19.tr (S30.tr (S49.tr (S59.tr (S63.tr S78)))))))) rfl rfl
      refine WO.k1 trivial rfl rfl rfl rfl (rn_la (cs := [.int .i64 p0.In, .int .i64 p0.Out]) Try.isAgg35 Try.sizeOf35 rfl rfl rfl (haE f89.cells)) ?_
      obtain ⟨x31, hx31, h⟩ := Option.bind_eq_some_iff.mp h
      refine WO.call rfl rfl rfl rfl rfl rfl Try.call97 (s_l29Ins_ok (κ := fun b => mp [] 0 (K77 b)) (p0 := p0) hx31) ?_
      rintro _ w90 ⟨k91, rfl, e92⟩
      obtain ⟨K93, S94, m95⟩ := Ent.mixed (l := []) (κ := K77) e92 18 rfl
      refine ⟨trivial, ?_⟩
      refine WO.pn 1 rfl ?_
      refine WO.fin ?_
      refine DN.seq ?_
      revert h
      cases ht97 : decide (s4.2.2.1 < x31) with
      | true =>
       intro h; replace h := cT h
       refine WC.ct rfl ?_
       refine WC.skip ?_
       refine DN.seq ?_
       refine WC.seq ?_
       refine WC.block ?_
       refine WC.seq ?_
       refine WC.rx (κ := K93) [0, 2, 3, 11, 13] none [(0, 2), (2, 2), (3, 2), (4, 2), (6, 2), (11, 2), (17, 2), (1, 0), (5, 0), (7, 2), (8, 0), (9, 2), (10, 0), (12, 2), (13, 0), (14, 0), (15, 1), (16, 2), (18, 2), (19, 2)] [] (by kernel_rfl) (by kernel_rfl) fun w99 S98 => ?_
       refine WO.k2 rfl rfl rfl rfl (rn_fieldAddr Try.runUnderlying37 rfl Try.sizeOf24 rfl rfl) ?_
       refine WO.pn 1 rfl ?_
       refine WO.k2 rfl rfl rfl rfl (rn_nilCheck rfl rfl) ?_
       refine WO.k2 rfl rfl rfl rfl (rn_fieldAddr Try.runUnderlying108 rfl Try.sizeOf28 rfl rfl) ?_
       refine WO.pn 3 rfl ?_
       have f100 := f8.stp (S11.tr (S15.tr (S19.tr (S30.tr (S49.tr (S59.tr (S63.tr (S78.tr (S94.tr S98))))))))) rfl rfl
       refine WO.k0 rfl rfl rfl rfl (rn_ld Try.isAgg24 rfl rfl (hvC (f100.ld 1 rfl rfl) rfl)) ?_
       have f101 := f83.stp (S94.tr S98) rfl rfl
       refine WO.k0 rfl rfl rfl rfl (rn_ld Try.isAgg28 rfl rfl (hvC (f101.ld 0 rfl rfl) rfl)) ?_
       obtain ⟨x42, hx42, h⟩ := Option.bind_eq_some_iff.mp h
       refine WO.k2 rfl rfl rfl rfl (rn_index f81.rdc hx42 Try.runUnderlying28 Try.sizeOf2 rfl rfl rfl rfl) ?_
       have f102 := f81.stp (S94.tr S98) rfl rfl
       refine WO.k0 rfl rfl rfl rfl (rn_ld Try.isAgg2 rfl rfl (hvC (f102.rdc.gInt hx42) rfl)) ?_
       obtain ⟨x44, hx44, h⟩ := Option.bind_eq_some_iff.mp h
       refine WO.k2 rfl rfl rfl rfl (rn_index g1_1 hx44 Try.runUnderlying24 Try.sizeOf28 rfl rfl rfl rfl) ?_
       have f103 := g1_1.stp (S3.tr (S7.tr (S11.tr (S15.tr (S19.tr (S30.tr (S49.tr (S59.tr (S63.tr (S78.tr (S94.tr S98))))))))))) rfl rfl
       obtain ⟨ax44, ux44, f104, hl105⟩ := f103.gSl hx44
       refine WO.k0 rfl rfl rfl rfl (rn_ld Try.isAgg28 rfl rfl (hvC hl105 rfl)) ?_
       obtain ⟨x47, hx47, h⟩ := Option.bind_eq_some_iff.mp h
       refine WO.k2 rfl rfl rfl rfl (rn_index f104 hx47 Try.runUnderlying28 Try.sizeOf2 rfl rfl rfl rfl) ?_
       refine WO.k0 rfl rfl rfl rfl (rn_ld Try.isAgg2 rfl rfl (hvC (f104.gInt hx47) rfl)) ?_
       have f106 := f89.stp (S94.tr S98) rfl rfl
       refine WO.k0 rfl rfl rfl rfl (rn_la (cs := [.int .i64 p0.In, .int .i64 p0.Out]) Try.isAgg35 Try.sizeOf35 rfl rfl rfl (haC f106.cells rfl)) ?_
       obtain ⟨x50, hx50, h⟩ := Option.bind_eq_some_iff.mp h
       refine WO.call rfl rfl rfl rfl rfl rfl Try.call97 (s_l29Ins_ok (κ := fun b => mp [] 0 (K93 b)) (p0 := p0) hx50) ?_
       rintro _ w107 ⟨k108, rfl, e109⟩
       obtain ⟨K110, S111, m112⟩ := Ent.mixed (l := []) (κ := K93) e109 20 rfl
       refine ⟨(S111.cl rfl), ?_⟩
       refine WO.pn 3 rfl ?_
       refine WO.nx ?_
       refine WO.fin ?_
       refine DN.seq ?_
       refine WC.seq ?_
       refine WC.rx (κ := K110) [0, 3, 4, 11, 12, 13] (some 30) [(0, 2), (1, 2), (2, 2), (4, 2), (5, 2), (6, 2), (8, 2), (13, 2), (16, 2), (18, 2), (19, 2), (20, 2), (22, 2), (27, 2), (3, 0), (7, 0), (9, 2), (10, 0), (11, 2), (12, 0), (14, 2), (15, 0), (17, 0), (21, 0), (23, 2), (24, 0), (25, 2), (26, 0), (28, 2), (29, 0)] [(30, 1), (31, 1), (32, 1), (33, 2)] (by kernel_rfl) (by kernel_rfl) fun w115 S114 => ?_
       refine WO.pn 2 rfl ?_
       refine WO.k2 rfl rfl rfl rfl (rn_fieldAddr Try.runUnderlying37 rfl Try.sizeOf24 rfl rfl) ?_
       refine WO.pn 1 rfl ?_
       refine WO.k2 rfl rfl rfl rfl (rn_nilCheck rfl rfl) ?_
       refine WO.k2 rfl rfl rfl rfl (rn_fieldAddr Try.runUnderlying108 rfl Try.sizeOf28 rfl rfl) ?_
       refine WO.pn 2 rfl ?_
       refine WO.k2 rfl rfl rfl rfl (rn_fieldAddr Try.runUnderlying55 rfl Try.sizeOf24 rfl rfl) ?_
       refine WO.pn 1 rfl ?_
       refine WO.k2 rfl rfl rfl rfl (rn_nilCheck rfl rfl) ?_
       refine WO.k2 rfl rfl rfl rfl (rn_fieldAddr Try.runUnderlying108 rfl Try.sizeOf28 rfl rfl) ?_
       refine WO.pn 2 rfl ?_
       have f116 := f100.stp (S111.tr S114) rfl rfl
       refine WO.k0 rfl rfl rfl rfl (rn_ld Try.isAgg24 rfl rfl (hvC (f116.ld 0 rfl rfl) rfl)) ?_
       have f117 := f101.stp (S111.tr S114) rfl rfl
       refine WO.k0 rfl rfl rfl rfl (rn_ld Try.isAgg28 rfl rfl (hvC (f117.ld 0 rfl rfl) rfl)) ?_
       obtain ⟨x63, hx63, h⟩ := Option.bind_eq_some_iff.mp h
       refine WO.k2 rfl rfl rfl rfl (rn_index f102.rdc hx63 Try.runUnderlying28 Try.sizeOf2 rfl rfl rfl rfl) ?_
       have f118 := f102.stp (S111.tr S114) rfl rfl
       refine WO.k0 rfl rfl rfl rfl (rn_ld Try.isAgg2 rfl rfl (hvC (f118.rdc.gInt hx63) rfl)) ?_
       obtain ⟨x65, hx65, h⟩ := Option.bind_eq_some_iff.mp h
       refine WO.k2 rfl rfl rfl rfl (rn_index g1_0 hx65 Try.runUnderlying24 Try.sizeOf28 rfl rfl rfl rfl) ?_
       have f119 := g1_0.stp (S3.tr (S7.tr (S11.tr (S15.tr (S19.tr (S30.tr (S49.tr (S59.tr (S63.tr (S78.tr (S94.tr (S98.tr (S111.tr S114))))))))))))) rfl rfl
       obtain ⟨ax65, ux65, f120, hl121⟩ := f119.gSl hx65
       refine WO.k0 rfl rfl rfl rfl (rn_ld Try.isAgg28 rfl rfl (hvC hl121 rfl)) ?_
       obtain ⟨x68, hx68, h⟩ := Option.bind_eq_some_iff.mp h
       refine WO.k2 rfl rfl rfl rfl (rn_index f120 hx68 Try.runUnderlying28 Try.sizeOf2 rfl rfl rfl rfl) ?_
       refine WO.k0 rfl rfl rfl rfl (rn_ld Try.isAgg2 rfl rfl (hvC (f120.gInt hx68) rfl)) ?_
       have f122 := f12.stp (S15.tr (S19.tr (S30.tr (S49.tr (S59.tr (S63.tr (S78.tr (S94.tr (S98.tr (S111.tr S114)))))))))) rfl rfl
       refine WO.k0 rfl rfl rfl rfl (rn_ld Try.isAgg24 rfl rfl (hvC (f122.ld 0 rfl rfl) rfl)) ?_
       refine WO.k0 rfl rfl rfl rfl (rn_ld Try.isAgg28 rfl rfl (hvC (f117.ld 1 rfl rfl) rfl)) ?_
       obtain ⟨x77, hx77, h⟩ := Option.bind_eq_some_iff.mp h
       refine WO.k2 rfl rfl rfl rfl (rn_index f82.rdc hx77 Try.runUnderlying28 Try.sizeOf2 rfl rfl rfl rfl) ?_
       have f123 := f82.stp (S94.tr (S98.tr (S111.tr S114))) rfl rfl
       refine WO.k0 rfl rfl rfl rfl (rn_ld Try.isAgg2 rfl rfl (hvC (f123.rdc.gInt hx77) rfl)) ?_
       obtain ⟨x79, hx79, h⟩ := Option.bind_eq_some_iff.mp h
       refine WO.k2 rfl rfl rfl rfl (rn_index g2_0 hx79 Try.runUnderlying24 Try.sizeOf28 rfl rfl rfl rfl) ?_
       have f124 := g2_0.stp (S3.tr (S7.tr (S11.tr (S15.tr (S19.tr (S30.tr (S49.tr (S59.tr (S63.tr (S78.tr (S94.tr (S98.tr (S111.tr S114))))))))))))) rfl rfl
       obtain ⟨ax79, ux79, f125, hl126⟩ := f124.gSl hx79
       refine WO.k0 rfl rfl rfl rfl (rn_ld Try.isAgg28 rfl rfl (hvC hl126 rfl)) ?_
       obtain ⟨x82, hx82, h⟩ := Option.bind_eq_some_iff.mp h
       refine WO.k2 rfl rfl rfl rfl (rn_index f125 hx82 Try.runUnderlying28 Try.sizeOf2 rfl rfl rfl rfl) ?_
       refine WO.k0 rfl rfl rfl rfl (rn_ld Try.isAgg2 rfl rfl (hvC (f125.gInt hx82) rfl)) ?_
       refine WO.nx ?_
       obtain ⟨x84, hx84, h⟩ := Option.bind_eq_some_iff.mp h
       have f127 := f52.stp (S59.tr (S63.tr (S78.tr (S94.tr (S98.tr (S111.tr S114)))))) rfl rfl
       have f128 := f53.stp (S59.tr (S63.tr (S78.tr (S94.tr (S98.tr (S111.tr S114)))))) rfl rfl
       refine WO.call rfl rfl rfl rfl rfl rfl Try.call102 (s_l30Find_ok (κ := fun b => mp [(11, 2), (12, 3), (13, 4)] 0 (K110 b)) (p0 := (⟨s4.2.2.2.1, s4.2.2.2.2, s1.2.2.2.1, s1.2.2.2.2⟩ : l30Graph)) (f118.map (mp [(11, 2), (12, 3), (13, 4)] 0) rfl rfl) (f123.map (mp [(11, 2), (12, 3), (13, 4)] 0) rfl rfl) (Sl.map f127.rdc (mp [(11, 2), (12, 3), (13, 4)] 0) rfl rfl) (Sl.map f128.rdc (mp [(11, 2), (12, 3), (13, 4)] 0) rfl rfl) (f117.map (mp [(11, 2), (12, 3), (13, 4)] 0) rfl rfl) hx84) ?_
       rintro _ w129 ⟨k130, a84_m0, u84_m0, a84_m1, u84_m1, rfl, e131, f132, f133, f134⟩
       obtain ⟨K135, S136, m137⟩ := Ent.mixed (l := [(11, 2), (12, 3), (13, 4)]) (κ := K110) e131 22 rfl
       refine ⟨trivial, ?_⟩
       have f139 := f132.mx (no_int _) m137 rfl (rfl : 22 + 2 = 24)
       have f140 := f133.mx (no_int _) m137 rfl (rfl : 22 + 3 = 25)
       have f141 := f134.mx m137 rfl (rfl : 22 + 4 = 26)
       refine WO.bl (κ := K135) (E := (Ep.int .i64)) 27 [] (parts := [(0, .tmp 84)]) (cells := [.int .i64 x84.1]) (xs := ([x84.1] : List Int)) rfl rfl rfl rfl rfl rfl Try.underlying28 Tryinfo2 rfl rfl rfl rfl rfl rfl rfl rfl rfl rfl ⟨[.int .i64 x84.1], [], Zl K135 w129 [], Zl K135 w129 [], rfl, Zl.sp (l1 := []) (l2 := []) rfl, Zl.sr (l1 := []) (l2 := []), rfl, rfl⟩ fun a85 u85 w142 K143 S144 f145 => ⟨trivial, ?_⟩
       obtain ⟨x86, hx86, h⟩ := Option.bind_eq_some_iff.mp h
       have f146 := f79.stp (S94.tr (S98.tr (S111.tr (S114.tr (S136.tr S144))))) rfl rfl
       refine WO.app (κ := K143) (E := (Ep.int .i64)) 16 [] rfl rfl rfl rfl rfl rfl rfl rfl rfl Try.underlying28 Tryinfo2 rfl rfl rfl rfl f146 (Sl.srcP (pu_int _) f145.rdc) sy_false hx86 rfl fun a86 u86 w147 K148 S149 f150 => ⟨trivial, ?_⟩
       refine WO.pn 1 rfl ?_
       refine WO.fin ?_
       refine DN.seq ?_
       refine WC.rs [(0, 2), (1, 2), (2, 1), (3, 1), (4, 2)] rfl ?_
       refine WO.pn 2 rfl ?_
       refine WO.bl (κ := K148) (E := (Ep.int .i64)) 28 [] (parts := [(0, .tmp 88)]) (cells := [.int .i64 (IntKind.i64.wrap ((IntKind.i64.wrap (x47 * x50)) + s4.2.2.1))]) (xs := ([(IntKind.i64.wrap ((IntKind.i64.wrap (x47 * x50)) + s4.2.2.1))] : List Int)) rfl rfl rfl rfl rfl rfl Try.underlying28 Tryinfo2 rfl rfl rfl rfl rfl rfl rfl rfl rfl rfl ⟨[.int .i64 (IntKind.i64.wrap ((IntKind.i64.wrap (x47 * x50)) + s4.2.2.1))], [], Zl K148 w147 [], Zl K148 w147 [], rfl, Zl.sp (l1 := []) (l2 := []) rfl, Zl.sr (l1 := []) (l2 := []), rfl, rfl⟩ fun a89 u89 w151 K152 S153 f154 => ⟨trivial, ?_⟩
       obtain ⟨x90, hx90, h⟩ := Option.bind_eq_some_iff.mp h
       have f155 := f80.stp (S94.tr (S98.tr (S111.tr (S114.tr (S136.tr (S144.tr (S149.tr S153))))))) rfl rfl
       refine WO.app (κ := K152) (E := (Ep.int .i64)) 17 [] rfl rfl rfl rfl rfl rfl rfl rfl rfl Try.underlying28 Tryinfo2 rfl rfl rfl rfl f155 (Sl.srcP (pu_int _) f154.rdc) sy_false hx90 rfl fun a90 u90 w156 K157 S158 f159 => ⟨trivial, ?_⟩
       refine WO.pn 1 rfl ?_
       refine WO.fin ?_
       refine DN.block ?_
       refine DN.seq ?_
       refine WC.rs [(0, 2), (1, 2), (2, 2)] rfl ?_
       refine WO.pn 3 rfl ?_
       refine WO.fin ?_
       have f160 := f150.stp (S153.tr S158) rfl rfl
       have f161 := f139.stp (S144.tr (S149.tr (S153.tr S158))) rfl rfl
       have f162 := f140.stp (S144.tr (S149.tr (S153.tr S158))) rfl rfl
       have f163 := f141.stp (S144.tr (S149.tr (S153.tr S158))) rfl rfl
       obtain rfl := Option.some.inj h
       refine DN.round fun a ha => ?_
       exact ⟨k, _, Nat.lt_succ_self _, ⟨(fun b => ren [(24, 11), (25, 12), (26, 13)] (K157 b)), ((x86 : (List Int)), (x90 : (List Int)), ((IntKind.i64.wrap (s4.2.2.1 + 1)) : Int), (x84.2.1 : (List Int)), (x84.2.2 : (List Int))), a86, u86, a90, u90, a84_m0, u84_m0, a84_m1, u84_m1, rfl, (Stp.ren ((S78.tr (S94.tr (S98.tr (S111.tr (S114.tr (S136.tr (S144.tr (S149.tr (S153.tr S158))))))))).wk rfl) [(24, 11), (25, 12), (26, 13)] rfl), (f160.map (ren [(24, 11), (25, 12), (26, 13)]) rfl rfl), (f159.map (ren [(24, 11), (25, 12), (26, 13)]) rfl rfl), (f161.map (ren [(24, 11), (25, 12), (26, 13)]) rfl rfl), (f162.map (ren [(24, 11), (25, 12), (26, 13)]) rfl rfl), (f163.map (ren [(24, 11), (25, 12), (26, 13)]) rfl rfl), hk88⟩, (ha.more (ha.more (ha.more (ha.more (ha.more (ha.more (ha.more (ha.more (ha.more ha.nil rfl) rfl) rfl) rfl) rfl) rfl) rfl) rfl) rfl)⟩
      | false =>
       intro h; replace h := cF h
       refine WC.cf rfl ?_
       refine WC.exit ?_
       refine DN.exitThen ?_
       refine DN.exitThen ?_
       obtain rfl := Option.some.inj h
       have h := hk88
       refine DN.hit ?_
       have f164 := f79.stp S94 rfl rfl
       have f165 := f80.stp S94 rfl rfl
       have f166 := f81.stp S94 rfl rfl
       have f167 := f82.stp S94 rfl rfl
       have f168 := f83.stp S94 rfl rfl
       obtain rfl := Option.some.inj h
       exact DN.meet _ ⟨K93, ((s4.1 : (List Int)), (s4.2.1 : (List Int)), (s4.2.2.1 : Int), (s4.2.2.2.1 : (List Int)), (s4.2.2.2.2 : (List Int))), las4_0, lus4_0, las4_1, lus4_1, las4_2, lus4_2, las4_3, lus4_3, rfl, (S78.tr S94).wk rfl, f164, f165, f166, f167, f168, rfl⟩ fun a ha => (ha.more (ha.more (ha.more (ha.more (ha.more (ha.more (ha.more (ha.more ha.nil rfl) rfl) rfl) rfl) rfl) rfl) rfl) rfl)
    rintro _ w68 ⟨K69, s6, las6_0, lus6_0, las6_1, lus6_1, las6_2, lus6_2, las6_3, lus6_3, rfl, S70, f71, f72, f73, f74, f75, rfl⟩
    have h := hK66
    dsimp only [aft] at h
    refine DN.seq ?_
    refine WC.seq ?_
    refine WC.seq ?_
    refine WC.rs [(0, 2), (1, 2), (2, 2), (3, 1), (4, 2), (5, 2)] rfl ?_
    refine WO.pn 1 rfl ?_
    refine WO.k2 rfl rfl rfl rfl (rn_nilCheck rfl rfl) ?_
    refine WO.k2 rfl rfl rfl rfl (rn_fieldAddr Try.runUnderlying108 rfl Try.sizeOf28 rfl rfl) ?_
    refine WO.k1 trivial rfl rfl rfl rfl (rn_ld Try.isAgg28 rfl rfl (hvE (f75.ld 0 rfl rfl))) ?_
    refine WO.k2 rfl rfl rfl rfl (rn_len Try.runUnderlying28 rfl rfl) ?_
    refine WO.pn 1 rfl ?_
    refine WO.fin ?_
    refine DN.seq ?_
    revert h
    cases ht169 : decide (256 < (s6.2.2.2.1.length : Int)) with
    | true =>
     intro h; replace h := cT h
     refine WC.ct rfl ?_
     refine WC.seq ?_
     refine WC.rs [(0, 2), (1, 1), (2, 2)] rfl ?_
     refine WO.k2 rfl rfl rfl rfl (rn_build (parts := []) (cells := [.slice none 0 0, .slice none 0 0, .slice none 0 0, .slice none 0 0]) rfl rfl (by kernel_rfl)) ?_
     have f170 := f16.stp (S19.tr (S30.tr (S49.tr (S59.tr (S63.tr S70))))) rfl rfl
     refine WO.stB0 (κ := K69) 5 (vc := [.slice none 0 0, .slice none 0 0, .slice none 0 0, .slice none 0 0]) rfl rfl rfl rfl rfl rfl rfl Try.sizeOf108 rfl rfl f170 rfl fun w171 S172 f173 => ⟨trivial, ?_⟩
     refine WO.pn 1 rfl ?_
     refine WO.fin ?_
     refine DN.seq ?_
     refine WC.ret ?_
     refine DN.retThen ?_
     refine DN.retBlock ?_
     refine DN.retThen ?_
     refine DN.retThen ?_
     obtain rfl := Option.some.inj h
     obtain rfl := Option.some.inj hk55
     have h := hK37
     dsimp only [aft] at h
     refine DN.retBlock ?_
     refine DN.retMeet ?_
     refine DN.retThen ?_
     have f174 := hE.stp (S3.tr (S7.tr (S11.tr (S15.tr (S19.tr (S30.tr (S49.tr (S59.tr (S63.tr (S70.tr S172)))))))))) rfl rfl
     refine DN.res (l := [.cell 6 108, .tmp 7]) Try.results61 (res_cellA rfl f173 Try.isAgg108 Try.sizeOf108 rfl (res_tmp rfl rfl)) rfl ?_
     obtain rfl := Option.some.inj h
     exact ⟨K69, none, 0, none, 0, none, 0, none, 0, rfl, f174, Ow.nil, Ow.nil, Ow.nil, Ow.nil⟩
    | false =>
     intro h; replace h := cF h
     refine WC.cf rfl ?_
     refine WC.skip ?_
     refine DN.seq ?_
     refine WC.seq ?_
     refine WC.rs [(0, 2), (1, 2), (2, 2), (3, 2), (4, 1), (5, 2), (6, 1), (7, 1), (8, 2), (9, 2), (10, 1)] rfl ?_
     refine WO.pn 2 rfl ?_
     refine WO.k2 rfl rfl rfl rfl (rn_nilCheck rfl rfl) ?_
     refine WO.k2 rfl rfl rfl rfl (rn_fieldAddr Try.runUnderlying108 rfl Try.sizeOf24 rfl rfl) ?_
     refine WO.k1 trivial rfl rfl rfl rfl (rn_ld Try.isAgg24 rfl rfl (hvE (f75.ld 2 rfl rfl))) ?_
     refine WO.pn 1 rfl ?_
     refine WO.bl (κ := K69) (E := (Ep.own (Ep.int .i64) 2)) 18 [16] (parts := [(0, .tmp 103)]) (cells := [.slice las6_0 s6.1.length lus6_0]) (xs := ([s6.1] : List (List Int))) rfl rfl rfl rfl rfl rfl Try.underlying24 Tryinfo28 rfl rfl rfl rfl rfl rfl rfl rfl rfl rfl ⟨[.slice las6_0 s6.1.length lus6_0], [], Zl K69 w68 [16], Zl K69 w68 [], rfl, Zl.sp (l1 := [16]) (l2 := []) rfl, Zl.sr (l1 := [16]) (l2 := []), ⟨_, _, rfl, f71⟩, rfl⟩ fun a104 u104 w175 K176 S177 f178 => ⟨trivial, ?_⟩
     obtain ⟨x105, hx105, h⟩ := Option.bind_eq_some_iff.mp h
     have f179 := f52.stp (S59.tr (S63.tr (S70.tr S177))) rfl rfl
     refine WO.app (κ := K176) (E := (Ep.own (Ep.int .i64) 2)) 14 [18] rfl rfl rfl rfl rfl rfl rfl rfl rfl Try.underlying24 Tryinfo28 rfl rfl rfl rfl f179 f178.src (sy_one rfl) hx105 rfl fun a105 u105 w180 K181 S182 f183 => ⟨trivial, ?_⟩
     refine WO.k2 rfl rfl rfl rfl (rn_nilCheck rfl rfl) ?_
     refine WO.k2 rfl rfl rfl rfl (rn_fieldAddr Try.runUnderlying108 rfl Try.sizeOf24 rfl rfl) ?_
     have f184 := f75.stp (S177.tr S182) rfl rfl
     refine WO.stB (κ := K181) 13 (off := 2) (vc := [.slice a105 x105.length u105]) (cs' := [.slice las6_2 s6.2.2.2.1.length lus6_2, .slice las6_3 s6.2.2.2.2.length lus6_3, .slice a105 x105.length u105, .slice las1_3 s1.2.2.2.2.length lus1_3]) rfl rfl rfl rfl rfl rfl rfl Try.sizeOf24 rfl rfl f184 rfl rfl fun w185 S186 f187 => ⟨trivial, ?_⟩
     refine WO.fin ?_
     refine DN.seq ?_
     refine WC.rs [(0, 2), (1, 2), (2, 2), (3, 2), (4, 1), (5, 2), (6, 1), (7, 1), (8, 2), (9, 2), (10, 1)] rfl ?_
     refine WO.pn 2 rfl ?_
     refine WO.k2 rfl rfl rfl rfl (rn_nilCheck rfl rfl) ?_
     refine WO.k2 rfl rfl rfl rfl (rn_fieldAddr Try.runUnderlying108 rfl Try.sizeOf24 rfl rfl) ?_
     refine WO.k1 trivial rfl rfl rfl rfl (rn_ld Try.isAgg24 rfl rfl (hvE (f187.ld 3 rfl rfl))) ?_
     refine WO.pn 1 rfl ?_
     have f188 := f72.stp (S177.tr (S182.tr S186)) rfl rfl
     refine WO.bl (κ := K181) (E := (Ep.own (Ep.int .i64) 2)) 19 [17] (parts := [(0, .tmp 113)]) (cells := [.slice las6_1 s6.2.1.length lus6_1]) (xs := ([s6.2.1] : List (List Int))) rfl rfl rfl rfl rfl rfl Try.underlying24 Tryinfo28 rfl rfl rfl rfl rfl rfl rfl rfl rfl rfl ⟨[.slice las6_1 s6.2.1.length lus6_1], [], Zl K181 w185 [17], Zl K181 w185 [], rfl, Zl.sp (l1 := [17]) (l2 := []) rfl, Zl.sr (l1 := [17]) (l2 := []), ⟨_, _, rfl, f188⟩, rfl⟩ fun a114 u114 w189 K190 S191 f192 => ⟨trivial, ?_⟩
     obtain ⟨x115, hx115, h⟩ := Option.bind_eq_some_iff.mp h
     have f193 := f53.stp (S59.tr (S63.tr (S70.tr (S177.tr (S182.tr (S186.tr S191)))))) rfl rfl
     refine WO.app (κ := K190) (E := (Ep.own (Ep.int .i64) 2)) 15 [19] rfl rfl rfl rfl rfl rfl rfl rfl rfl Try.underlying24 Tryinfo28 rfl rfl rfl rfl f193 f192.src (sy_one rfl) hx115 rfl fun a115 u115 w194 K195 S196 f197 => ⟨trivial, ?_⟩
     refine WO.k2 rfl rfl rfl rfl (rn_nilCheck rfl rfl) ?_
     refine WO.k2 rfl rfl rfl rfl (rn_fieldAddr Try.runUnderlying108 rfl Try.sizeOf24 rfl rfl) ?_
     have f198 := f187.stp (S191.tr S196) rfl rfl
     refine WO.stB (κ := K195) 13 (off := 3) (vc := [.slice a115 x115.length u115]) (cs' := [.slice las6_2 s6.2.2.2.1.length lus6_2, .slice las6_3 s6.2.2.2.2.length lus6_3, .slice a105 x105.length u105, .slice a115 x115.length u115]) rfl rfl rfl rfl rfl rfl rfl Try.sizeOf24 rfl rfl f198 rfl rfl fun w199 S200 f201 => ⟨trivial, ?_⟩
     refine WO.fin ?_
     refine DN.block ?_
     refine DN.seq ?_
     refine WC.rs [(0, 2), (1, 2), (2, 2)] rfl ?_
     refine WO.pn 3 rfl ?_
     refine WO.fin ?_
     have f202 := f73.stp (S177.tr (S182.tr (S186.tr (S191.tr (S196.tr S200))))) rfl rfl
     have f203 := f74.stp (S177.tr (S182.tr (S186.tr (S191.tr (S196.tr S200))))) rfl rfl
     have f204 := f183.stp (S186.tr (S191.tr (S196.tr S200))) rfl rfl
     have f205 := f197.stp S200 rfl rfl
     obtain rfl := Option.some.inj h
     refine DN.round fun a ha => ?_
     exact ⟨k, _, Nat.lt_succ_self _, ⟨K195, (((IntKind.i64.wrap (s1.1 + 1)) : Int), (s6.2.2.2.1 : (List Int)), (s6.2.2.2.2 : (List Int)), (x105 : (List (List Int))), (x115 : (List (List Int)))), las6_2, lus6_2, las6_3, lus6_3, a105, u105, a115, u115, rfl, (S49.tr (S59.tr (S63.tr (S70.tr (S177.tr (S182.tr (S186.tr (S191.tr (S196.tr S200))))))))).wk rfl, f202, f203, f204, f205, f201, hk55⟩, (ha.more (ha.more (ha.more (ha.more (ha.more (ha.more ha.nil rfl) rfl) rfl) rfl) rfl) rfl)⟩
   | false =>
    intro h; replace h := cF h
    refine WC.cf rfl ?_
    refine WC.exit ?_
    refine DN.exitThen ?_
    refine DN.exitThen ?_
    obtain rfl := Option.some.inj h
    have h := hk55
    refine DN.hit ?_
    obtain rfl := Option.some.inj h
    exact DN.meet _ ⟨K48, ((s1.1 : Int), (s1.2.1 : (List Int)), (s1.2.2.1 : (List Int)), (s1.2.2.2.1 : (List (List Int))), (s1.2.2.2.2 : (List (List Int)))), las1_0, lus1_0, las1_1, lus1_1, las1_2, lus1_2, las1_3, lus1_3, rfl, S49.wk rfl, f50, f51, f52, f53, f54, rfl⟩ fun a ha => (ha.more (ha.more ha.nil rfl) rfl)
 rintro _ w39 ⟨K40, s3, las3_0, lus3_0, las3_1, lus3_1, las3_2, lus3_2, las3_3, lus3_3, rfl, S41, f42, f43, f44, f45, f46, rfl⟩
 have h := hK37
 dsimp only [aft] at h
 refine DN.seq ?_
 refine WC.seq ?_
 refine WC.rs [(0, 2), (1, 2), (2, 1), (3, 1), (4, 2)] rfl ?_
 refine WO.pn 1 rfl ?_
 refine WO.k2 rfl rfl rfl rfl (rn_nilCheck rfl rfl) ?_
 refine WO.k1 trivial rfl rfl rfl rfl (rn_la (cs := [.slice las3_0 s3.2.1.length lus3_0, .slice las3_1 s3.2.2.1.length lus3_1, .slice las3_2 s3.2.2.2.1.length lus3_2, .slice las3_3 s3.2.2.2.2.length lus3_3]) Try.isAgg108 Try.sizeOf108 rfl rfl rfl (haE f46.cells)) ?_
 have f206 := f16.stp (S19.tr (S30.tr S41)) rfl rfl
 refine WO.stB0 (κ := K40) 5 (vc := [.slice las3_0 s3.2.1.length lus3_0, .slice las3_1 s3.2.2.1.length lus3_1, .slice las3_2 s3.2.2.2.1.length lus3_2, .slice las3_3 s3.2.2.2.2.length lus3_3]) rfl rfl rfl rfl rfl rfl rfl Try.sizeOf108 rfl rfl f206 rfl fun w207 S208 f209 => ⟨trivial, ?_⟩
 refine WO.pn 1 rfl ?_
 refine WO.fin ?_
 refine DN.seq ?_
 refine WC.ret ?_
 have f210 := hE.stp (S3.tr (S7.tr (S11.tr (S15.tr (S19.tr (S30.tr (S41.tr S208))))))) rfl rfl
 have f211 := f42.stp S208 rfl rfl
 have f212 := f43.stp S208 rfl rfl
 have f213 := f44.stp S208 rfl rfl
 have f214 := f45.stp S208 rfl rfl
 refine DN.res (l := [.cell 6 108, .tmp 7]) Try.results61 (res_cellA rfl f209 Try.isAgg108 Try.sizeOf108 rfl (res_tmp rfl rfl)) rfl ?_
 obtain rfl := Option.some.inj h
 exact ⟨(fun b => ren [(11, 2), (12, 3), (14, 4), (15, 5)] (K40 b)), las3_0, lus3_0, las3_1, lus3_1, las3_2, lus3_2, las3_3, lus3_3, rfl, (f210.map (ren [(11, 2), (12, 3), (14, 4), (15, 5)]) rfl rfl), (f211.map (ren [(11, 2), (12, 3), (14, 4), (15, 5)]) rfl rfl), (f212.map (ren [(11, 2), (12, 3), (14, 4), (15, 5)]) rfl rfl), (f213.map (ren [(11, 2), (12, 3), (14, 4), (15, 5)]) rfl rfl), (f214.map (ren [(11, 2), (12, 3), (14, 4), (15, 5)]) rfl rfl)⟩

/- slices.ContainsFunc[[]int64,int64] -/
theorem slices_ContainsFunc_I_int64__i_areLetters_1_ok {w : World} {κ : Col} {a0 : Option Addr} {u0 : Nat} {p0 : (List Int)} {c1_0 : Int} {b1_0 : Nat} (g0 : Rd (Rp.int .i64) κ w 0 a0 u0 p0) (gb1_0 : Bc κ w 0 b1_0 2 [.int .i64 c1_0]) {r : Bool} (h : slices_ContainsFunc_I_int64__i_areLetters_1 p0 c1_0 = some r) : Ret Try.prog 130 [.slice a0 p0.length u0, .func (.func 131) #[] #[.pointer (some ⟨b1_0, 0, none⟩)]] w (fun v w' => ∃ (κ' : Col), v = .bool r ∧ Ent κ w κ' w') := by
 unfold slices_ContainsFunc_I_int64__i_areLetters_1 at h
 refine Ret.enter Try.func130 rfl Try.ntmps130 rfl ?_
 dsimp only [envOf]
 have hE := Ent.refl κ w
 refine WC.seq ?_
 refine WC.rs [(0, 2)] rfl ?_
 refine WO.pn 1 rfl ?_
 refine WO.fin ?_
 refine DN.seq ?_
 refine WC.seq ?_
 refine WC.rs [(0, 2), (1, 2), (2, 1), (3, 2), (4, 2)] rfl ?_
 refine WO.pn 2 rfl ?_
 obtain ⟨x7, hx7, h⟩ := Option.bind_eq_some_iff.mp h
 refine WO.call rfl rfl rfl rfl rfl rfl Try.call150 (slices_IndexFunc_I_int64__i_areLetters_1_ok (κ := fun b => mp [] 0 (κ b)) (Sl.map g0 (mp [] 0) rfl rfl) (gb1_0.map (mp [] 0) rfl rfl) hx7) ?_
 rintro _ w1 ⟨k2, rfl, e3⟩
 obtain ⟨K4, S5, m6⟩ := Ent.mixed (l := []) (κ := κ) e3 2 rfl
 refine ⟨trivial, ?_⟩
 refine WO.pn 2 rfl ?_
 refine WO.fin ?_
 refine DN.seq ?_
 refine WC.ret ?_
 have f8 := hE.stp S5 rfl rfl
 refine DN.res (l := [.tmp 4]) Try.results130 (res_tmp rfl rfl) rfl ?_
 obtain rfl := Option.some.inj h
 exact ⟨K4, rfl, f8⟩

/- loop.example/g00869/laws.eqPairS -/
theorem l_eqPairS_ok {w : World} {κ : Col} {a0 : Option Addr} {u0 : Nat} {p0 : (List Pair)} {a1 : Option Addr} {u1 : Nat} {p1 : (List Pair)} (g0 : Rd Pair.rp κ w 0 a0 u0 p0) (g1 : Rd Pair.rp κ w 0 a1 u1 p1) {r : Bool} (h : l_eqPairS p0 p1 = some r) : Ret Try.prog 24 [.slice a0 p0.length u0, .slice a1 p1.length u1] w (fun v w' => ∃ (κ' : Col), v = .bool r ∧ Ent κ w κ' w') := by
 unfold l_eqPairS at h
 refine Ret.enter Try.func24 rfl Try.ntmps24 rfl ?_
 dsimp only [envOf]
 have hE := Ent.refl κ w
 refine WC.seq ?_
 refine WC.rs [(0, 2)] rfl ?_
 refine WO.pn 1 rfl ?_
 refine WO.fin ?_
 refine DN.seq ?_
 refine WC.seq ?_
 refine WC.seq ?_
 refine WC.rs [(0, 2), (1, 2), (2, 2), (3, 2), (4, 2)] rfl ?_
 refine WO.pn 1 rfl ?_
 refine WO.k2 rfl rfl rfl rfl (rn_len Try.runUnderlying51 rfl rfl) ?_
 refine WO.pn 1 rfl ?_
 refine WO.k2 rfl rfl rfl rfl (rn_len Try.runUnderlying51 rfl rfl) ?_
 refine WO.pn 1 rfl ?_
 refine WO.fin ?_
 refine DN.seq ?_
 revert h
 cases ht1 : ((p0.length : Int) != (p1.length : Int)) with
 | true =>
  intro h; replace h := cT h
  refine WC.ct rfl ?_
  refine WC.seq ?_
  refine WC.rs [(0, 2)] rfl ?_
  refine WO.pn 1 rfl ?_
  refine WO.fin ?_
  refine DN.seq ?_
  refine WC.ret ?_
  refine DN.retThen ?_
  refine DN.res (l := [.tmp 4]) Try.results24 (res_tmp rfl rfl) rfl ?_
  obtain rfl := Option.some.inj h
  exact ⟨κ, rfl, hE⟩
 | false =>
  intro h; replace h := cF h
  refine WC.cf rfl ?_
  refine WC.skip ?_
  refine DN.seq ?_
  refine WC.seq ?_
  refine WC.seq ?_
  refine WC.rs [(0, 2)] rfl ?_
  refine WO.pn 1 rfl ?_
  refine WO.fin ?_
  refine DN.seq ?_
  have hN2 : (p0.length : Int) ≤ 9223372036854775807 := g0.len_le
  obtain ⟨q2, hq4, hK3⟩ := Option.bind_eq_some_iff.mp h
  clear h
  refine WC.meet (fun L w' => ∃ (κ' : Col), L = [] ∧ Stp [] κ w κ' w' ∧ q2 = Sum.inr ()) ?_ ?_
  ·
   refine WC.block ?_
   refine WC.loop (fun k L w' => ∃ (κ' : Col) (v5 : Int), L = [(0, .slice a0 p0.length u0), (1, .slice a1 p1.length u1), (5, .int .i64 v5)] ∧ Stp [] κ w κ' w' ∧ 0 ≤ v5 ∧ Int.toNat ((p0.length : Int) - v5) = k ∧ cntM (l_eqPairS_b0 p0 p1) k v5 () = some q2) ⟨_, _, ⟨κ, 0, rfl, (Stp.refl _ _).wk rfl, (by decide), (by simp), hq4⟩, fun a ha => (ha.more (ha.more (ha.more ha.nil rfl) rfl) rfl)⟩ ?_
   rintro k _ w8 ⟨K9, v5, rfl, S10, hj2, hJ2, h⟩
   rcases k with _ | k
   ·
    have hk11 := h; obtain ⟨o2, h⟩ := ex_eq (Sum.inr (Sum.inl ()) : Bool ⊕ ((Unit) ⊕ (Unit)))
    have hc2 : decide (v5 < (p0.length : Int)) = false := decide_eq_false (by omega)
    refine WC.seq ?_
    refine WC.seq ?_
    refine WC.rs [(0, 2), (1, 2), (2, 2), (3, 2)] rfl ?_
    refine WO.pn 2 rfl ?_
    refine WO.k2 rfl rfl rfl rfl (rn_len Try.runUnderlying51 rfl rfl) ?_
    refine WO.pn 1 rfl ?_
    refine WO.fin ?_
    refine DN.seq ?_
    refine WC.cf' rfl hc2 ?_
    refine WC.exit ?_
    refine DN.exitThen ?_
    refine DN.exitThen ?_
    obtain rfl := Option.some.inj h
    have h := hk11
    refine DN.hit ?_
    obtain rfl := Option.some.inj h
    exact DN.meet _ ⟨K9, rfl, S10.wk rfl, rfl⟩ fun a ha => ha.nil
   ·
    obtain ⟨o2, h, hk11⟩ := Option.bind_eq_some_iff.mp h; unfold l_eqPairS_b0 at h
    have hc2 : decide (v5 < (p0.length : Int)) = true := decide_eq_true (by omega)
    refine WC.seq ?_
    refine WC.seq ?_
    refine WC.rs [(0, 2), (1, 2), (2, 2), (3, 2)] rfl ?_
    refine WO.pn 2 rfl ?_
    refine WO.k2 rfl rfl rfl rfl (rn_len Try.runUnderlying51 rfl rfl) ?_
    refine WO.pn 1 rfl ?_
    refine WO.fin ?_
    refine DN.seq ?_
    refine WC.ct' rfl hc2 ?_
    refine WC.skip ?_
    refine DN.seq ?_
    refine WC.seq ?_
    refine WC.block ?_
    refine WC.seq ?_
    refine WC.rx (κ := K9) [0] none [(0, 2), (1, 2), (2, 2), (4, 2), (5, 2), (6, 2), (3, 0), (7, 0), (8, 1), (9, 2)] [] (by kernel_rfl) (by kernel_rfl) fun w13 S12 => ?_
    refine WO.pn 2 rfl ?_
    obtain ⟨x19, hx19, h⟩ := Option.bind_eq_some_iff.mp h
    refine WO.k2 rfl rfl rfl rfl (rn_index g0 hx19 Try.runUnderlying51 Try.sizeOf113 rfl rfl rfl rfl) ?_
    refine WO.pn 2 rfl ?_
    obtain ⟨x23, hx23, h⟩ := Option.bind_eq_some_iff.mp h
    refine WO.k2 rfl rfl rfl rfl (rn_index g1 hx23 Try.runUnderlying51 Try.sizeOf113 rfl rfl rfl rfl) ?_
    have f14 := g0.stp (S10.tr S12) rfl rfl
    obtain ⟨cse15, hre15, hle15⟩ := (f14).gSt hx19
    obtain ⟨ae15_0, ue15_0, ae15_1, ue15_1, rfl, fe15_0, fe15_1⟩ := Pair.un hre15
    refine WO.k0 rfl rfl rfl rfl (rn_la (cs := [.slice ae15_0 x19.Ask.length ue15_0, .slice ae15_1 x19.Give.length ue15_1]) Try.isAgg113 Try.sizeOf113 rfl rfl rfl (haC hle15 rfl)) ?_
    have f16 := g1.stp (S10.tr S12) rfl rfl
    obtain ⟨cse17, hre17, hle17⟩ := (f16).gSt hx23
    obtain ⟨ae17_0, ue17_0, ae17_1, ue17_1, rfl, fe17_0, fe17_1⟩ := Pair.un hre17
    refine WO.k0 rfl rfl rfl rfl (rn_la (cs := [.slice ae17_0 x23.Ask.length ue17_0, .slice ae17_1 x23.Give.length ue17_1]) Try.isAgg113 Try.sizeOf113 rfl rfl rfl (haC hle17 rfl)) ?_
    obtain ⟨x25, hx25, h⟩ := Option.bind_eq_some_iff.mp h
    refine WO.call rfl rfl rfl rfl rfl rfl Try.call68 (l_eqPair_ok (κ := fun b => mp [] 0 (K9 b)) (p0 := x19) (p1 := x23) (Sl.map fe15_0 (mp [] 0) rfl rfl) (Sl.map fe15_1 (mp [] 0) rfl rfl) (Sl.map fe17_0 (mp [] 0) rfl rfl) (Sl.map fe17_1 (mp [] 0) rfl rfl) hx25) ?_
    rintro _ w18 ⟨k19, rfl, e20⟩
    obtain ⟨K21, S22, m23⟩ := Ent.mixed (l := []) (κ := K9) e20 2 rfl
    refine ⟨(S22.cl rfl), ?_⟩
    refine WO.pn 1 rfl ?_
    refine WO.nx ?_
    refine WO.fin ?_
    refine DN.seq ?_
    revert h
    cases ht25 : (!x25) with
    | true =>
     intro h; replace h := cT h
     refine WC.ct rfl ?_
     refine WC.seq ?_
     refine WC.rs [(0, 2)] rfl ?_
     refine WO.pn 1 rfl ?_
     refine WO.fin ?_
     refine DN.seq ?_
     refine WC.ret ?_
     refine DN.retBlock ?_
     refine DN.retThen ?_
     refine DN.retThen ?_
     obtain rfl := Option.some.inj h
     obtain rfl := Option.some.inj hk11
     have h := hK3
     dsimp only [aft] at h
     refine DN.retBlock ?_
     refine DN.retMeet ?_
     refine DN.retThen ?_
     have f26 := hE.stp (S10.tr (S12.tr S22)) rfl rfl
     refine DN.res (l := [.tmp 4]) Try.results24 (res_tmp rfl rfl) rfl ?_
     obtain rfl := Option.some.inj h
     exact ⟨K21, rfl, f26⟩
    | false =>
     intro h; replace h := cF h
     refine WC.cf rfl ?_
     refine WC.skip ?_
     refine DN.block ?_
     refine DN.seq ?_
     refine WC.rs [(0, 2), (1, 2), (2, 2)] rfl ?_
     refine WO.pn 3 rfl ?_
     refine WO.fin ?_
     have hw2 : IntKind.wrap .i64 (v5 + 1) = v5 + 1 := wr1 hj2 (of_decide_eq_true hc2) hN2
     rw [hw2]
     have hc2 := of_decide_eq_true hc2
     obtain rfl := Option.some.inj h
     refine DN.round fun a ha => ?_
     exact ⟨k, _, Nat.lt_succ_self _, ⟨K21, v5 + 1, rfl, (S10.tr (S12.tr S22)).wk rfl, by omega, by omega, hk11⟩, (ha.more (ha.more (ha.more ha.nil rfl) rfl) rfl)⟩
  rintro _ w5 ⟨K6, rfl, S7, rfl⟩
  have h := hK3
  dsimp only [aft] at h
  refine DN.seq ?_
  refine WC.seq ?_
  refine WC.rs [(0, 2)] rfl ?_
  refine WO.pn 1 rfl ?_
  refine WO.fin ?_
  refine DN.seq ?_
  refine WC.ret ?_
  have f27 := hE.stp S7 rfl rfl
  refine DN.res (l := [.tmp 4]) Try.results24 (res_tmp rfl rfl) rfl ?_
  obtain rfl := Option.some.inj h
  exact ⟨K6, rfl, f27⟩

/- loop.example/g00869/laws.markDet -/
theorem l_markDet_ok {w : World} {κ : Col} {a0_0 : Option Addr} {u0_0 : Nat} {a0_1 : Option Addr} {u0_1 : Nat} {p0 : Det} {p1 : Int} (g0_0 : Oc (Ep.own (Ep.int .i64) 2) 28 κ w 2 a0_0 u0_0 p0.Next) (g0_1 : Oc Pair.ep113 113 κ w 3 a0_1 u0_1 p0.Pairs) {r : Int × (List (List Int)) × (List Pair)} (h : l_markDet p0 p1 = some r) : Ret Try.prog 27 [.agg #[.slice a0_0 p0.Next.length u0_0, .slice a0_1 p0.Pairs.length u0_1], .int .i64 p1] w (fun v w' => ∃ (κ' : Col), v = .int .i64 r.1 ∧ Ent κ w κ' w' ∧ Oc (Ep.own (Ep.int .i64) 2) 28 κ' w' 2 a0_0 u0_0 r.2.1 ∧ p0.Next.length = r.2.1.length ∧ Oc Pair.ep113 113 κ' w' 3 a0_1 u0_1 r.2.2 ∧ p0.Pairs.length = r.2.2.length) := by
 unfold l_markDet at h
 refine Ret.enter Try.func27 rfl Try.ntmps27 rfl ?_
 dsimp only [envOf]
 have hE := Ent.refl κ w
 refine WC.seq ?_
 refine WC.rs [(0, 1), (1, 2)] rfl ?_
 refine WO.box (κ := κ) 4 rfl rfl rfl rfl rfl rfl rfl fun b2 w1 K2 S3 f4 => ⟨trivial, ?_⟩
 refine WO.pn 1 rfl ?_
 refine WO.fin ?_
 refine DN.seq ?_
 refine WC.seq ?_
 refine WC.rs [(0, 2), (1, 1), (2, 2), (3, 1), (4, 2)] rfl ?_
 refine WO.k2 rfl rfl rfl rfl (rn_fieldAddr Try.runUnderlying55 rfl Try.sizeOf24 rfl rfl) ?_
 refine WO.k1 trivial rfl rfl rfl rfl (rn_ld Try.isAgg24 rfl rfl (hvE (f4.ld 0 rfl rfl))) ?_
 refine WO.pn 1 rfl ?_
 obtain ⟨x8, hx8, h⟩ := Option.bind_eq_some_iff.mp h
 have f5 := g0_0.stp S3 rfl rfl
 refine WO.call rfl rfl rfl rfl rfl rfl Try.call28 (l_markInt64SS_ok (κ := fun b => mp [(2, 2)] 0 (K2 b)) (f5.map (mp [(2, 2)] 0) rfl rfl) hx8) ?_
 rintro _ w6 ⟨k7, rfl, e8, f9, hn10⟩
 obtain ⟨K11, S12, m13⟩ := Ent.mixed (l := [(2, 2)]) (κ := K2) e8 5 rfl
 refine ⟨trivial, ?_⟩
 have f15 := f9.mx (no_own (no_int _) _) m13 rfl (rfl : 5 + 2 = 7)
 refine WO.pn 1 rfl ?_
 refine WO.fin ?_
 refine DN.seq ?_
 refine WC.seq ?_
 refine WC.rs [(0, 2), (1, 1), (2, 2), (3, 1), (4, 2)] rfl ?_
 refine WO.k2 rfl rfl rfl rfl (rn_fieldAddr Try.runUnderlying55 rfl Try.sizeOf51 rfl rfl) ?_
 have f16 := f4.stp S12 rfl rfl
 refine WO.k1 trivial rfl rfl rfl rfl (rn_ld Try.isAgg51 rfl rfl (hvE (f16.ld 1 rfl rfl))) ?_
 refine WO.pn 1 rfl ?_
 obtain ⟨x12, hx12, h⟩ := Option.bind_eq_some_iff.mp h
 have f17 := g0_1.stp (S3.tr S12) rfl rfl
 refine WO.call rfl rfl rfl rfl rfl rfl Try.call29 (l_markPairS_ok (κ := fun b => mp [(3, 2)] 0 (K11 b)) (f17.map (mp [(3, 2)] 0) rfl rfl) hx12) ?_
 rintro _ w18 ⟨k19, rfl, e20, f21, hn22⟩
 obtain ⟨K23, S24, m25⟩ := Ent.mixed (l := [(3, 2)]) (κ := K11) e20 8 rfl
 refine ⟨trivial, ?_⟩
 have f27 := f21.mx Pair.no113 m25 rfl (rfl : 8 + 2 = 10)
 refine WO.pn 1 rfl ?_
 refine WO.fin ?_
 refine DN.seq ?_
 refine WC.seq ?_
 refine WC.rs [(0, 2), (1, 2)] rfl ?_
 refine WO.pn 2 rfl ?_
 refine WO.fin ?_
 refine DN.seq ?_
 refine WC.ret ?_
 have f28 := hE.stp (S3.tr (S12.tr S24)) rfl rfl
 have f29 := f15.stp S24 rfl rfl
 refine DN.res (l := [.tmp 4]) Try.results27 (res_tmp rfl rfl) rfl ?_
 obtain rfl := Option.some.inj h
 exact ⟨(fun b => ren [(7, 2), (10, 3)] (K23 b)), rfl, (f28.map (ren [(7, 2), (10, 3)]) rfl rfl), (f29.map (ren [(7, 2), (10, 3)]) rfl rfl), (hn10), (f27.map (ren [(7, 2), (10, 3)]) rfl rfl), (hn22)⟩

end Go.Proofs.Ytnmjfjppgpkieaa
