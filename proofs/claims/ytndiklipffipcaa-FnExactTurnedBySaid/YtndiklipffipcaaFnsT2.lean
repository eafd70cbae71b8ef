/- The walks, part 2. By program. -/
import Derived.Test.YtndiklipffipcaaSort
import Derived.Test.YtndiklipffipcaaShelf
import Derived.Test.YtndiklipffipcaaFnsT0
import Derived.Test.YtndiklipffipcaaFnsT1
set_option linter.unusedVariables false
set_option linter.unusedSimpArgs false
namespace Go.Proofs.Ytndiklipffipcaa
open Go Go.Wk Go.Proofs
set_option maxRecDepth 100000
set_option maxHeartbeats 1000000

/- loop.example/g00869/laws.toInt64SS -/
theorem l_toInt64SS_ok {w : World} {κ : Col} {a0 : Option Addr} {u0 : Nat} {p0 : (List (List Int))} (g0 : Rd (Rp.sl (Rp.int .i64)) κ w 0 a0 u0 p0) {r : (List (List Int))} (h : l_toInt64SS p0 = some r) : Ret Try.prog 20 [.slice a0 p0.length u0] w (fun v w' => ∃ (κ' : Col) (ra0 : Option Addr) (ru0 : Nat), v = .slice ra0 r.length ru0 ∧ Ent κ w κ' w' ∧ Oc (Ep.own (Ep.int .i64) 2) 22 κ' w' 2 ra0 ru0 r) := by
 unfold l_toInt64SS at h
 refine Ret.enter Try.func20 rfl Try.ntmps20 rfl ?_
 dsimp only [envOf]
 have hE := Ent.refl κ w
 refine WC.seq ?_
 refine WC.rs [(0, 2)] rfl ?_
 refine WO.pn 1 rfl ?_
 refine WO.fin ?_
 refine DN.seq ?_
 refine WC.seq ?_
 refine WC.rs [(0, 2), (1, 2), (2, 1), (3, 2)] rfl ?_
 refine WO.pn 1 rfl ?_
 refine WO.k2 rfl rfl rfl rfl (rn_len Try.runUnderlying23 rfl rfl) ?_
 obtain ⟨x7, hx7, h⟩ := Option.bind_eq_some_iff.mp h
 refine WO.mk (κ := κ) (E := (Ep.own (Ep.int .i64) 2)) (z := (([] : List Int) : (List Int))) 2 rfl rfl rfl rfl rfl rfl rfl Try.underlying23 Tryinfo22 rfl rfl rfl rfl rfl (fun _ _ _ => ⟨none, 0, rfl, Ow.nil⟩) (mkS_C hx7) fun a7 u7 w1 K2 S3 f4 => ⟨trivial, ?_⟩
 refine WO.pn 1 rfl ?_
 refine WO.fin ?_
 refine DN.seq ?_
 refine WC.seq ?_
 refine WC.seq ?_
 refine WC.rs [(0, 2)] rfl ?_
 refine WO.pn 1 rfl ?_
 refine WO.fin ?_
 refine DN.seq ?_
 have hN5 : (p0.length : Int) ≤ 9223372036854775807 := g0.len_le
 obtain ⟨q2, hq7, hK6⟩ := Option.bind_eq_some_iff.mp h
 clear h
 refine WC.meet (fun L w' => ∃ (κ' : Col) (s3 : (List (List Int))), L = [(3, .slice a7 x7.length u7)] ∧ Stp [2, 5] K2 w1 κ' w' ∧ Oc (Ep.own (Ep.int .i64) 2) 22 κ' w' 2 a7 u7 s3 ∧ x7.length = s3.length ∧ q2 = Sum.inr s3) ?_ ?_
 ·
  refine WC.block ?_
  refine WC.loop (fun k L w' => ∃ (κ' : Col) (v4 : Int) (s1 : (List (List Int))), L = [(0, .slice a0 p0.length u0), (3, .slice a7 x7.length u7), (4, .int .i64 v4)] ∧ Stp [2, 5] K2 w1 κ' w' ∧ Oc (Ep.own (Ep.int .i64) 2) 22 κ' w' 2 a7 u7 s1 ∧ x7.length = s1.length ∧ 0 ≤ v4 ∧ Int.toNat ((p0.length : Int) - v4) = k ∧ cntM (l_toInt64SS_b0 p0) k v4 s1 = some q2) ⟨_, _, ⟨K2, 0, (x7 : (List (List Int))), rfl, (Stp.refl _ _).wk rfl, f4, rfl, (by decide), (by simp), hq7⟩, fun a ha => (ha.more (ha.more (ha.more ha.nil rfl) rfl) rfl)⟩ ?_
  rintro k _ w13 ⟨K14, v4, s1, rfl, S15, f16, hn17, hj5, hJ5, h⟩
  rcases k with _ | k
  ·
   have hk18 := h; obtain ⟨o5, h⟩ := ex_eq (Sum.inr (Sum.inl s1) : (List (List Int)) ⊕ (((List (List Int))) ⊕ ((List (List Int)))))
   have hc5 : decide (v4 < (p0.length : Int)) = false := decide_eq_false (by omega)
   refine WC.seq ?_
   refine WC.seq ?_
   refine WC.rs [(0, 2), (1, 2), (2, 2), (3, 2)] rfl ?_
   refine WO.pn 2 rfl ?_
   refine WO.k2 rfl rfl rfl rfl (rn_len Try.runUnderlying23 rfl rfl) ?_
   refine WO.pn 1 rfl ?_
   refine WO.fin ?_
   refine DN.seq ?_
   refine WC.cf' rfl hc5 ?_
   refine WC.exit ?_
   refine DN.exitThen ?_
   refine DN.exitThen ?_
   obtain rfl := Option.some.inj h
   have h := hk18
   refine DN.hit ?_
   obtain rfl := Option.some.inj h
   exact DN.meet _ ⟨K14, (s1 : (List (List Int))), rfl, S15.wk rfl, f16, hn17, rfl⟩ fun a ha => (ha.more ha.nil rfl)
  ·
   obtain ⟨o5, h, hk18⟩ := Option.bind_eq_some_iff.mp h; unfold l_toInt64SS_b0 at h
   have hc5 : decide (v4 < (p0.length : Int)) = true := decide_eq_true (by omega)
   refine WC.seq ?_
   refine WC.seq ?_
   refine WC.rs [(0, 2), (1, 2), (2, 2), (3, 2)] rfl ?_
   refine WO.pn 2 rfl ?_
   refine WO.k2 rfl rfl rfl rfl (rn_len Try.runUnderlying23 rfl rfl) ?_
   refine WO.pn 1 rfl ?_
   refine WO.fin ?_
   refine DN.seq ?_
   refine WC.ct' rfl hc5 ?_
   refine WC.skip ?_
   refine DN.seq ?_
   refine WC.seq ?_
   refine WC.block ?_
   refine WC.rs [(0, 2), (1, 2), (2, 2), (3, 2), (4, 2), (5, 1), (6, 1), (7, 2), (8, 1)] rfl ?_
   refine WO.pn 4 rfl ?_
   obtain ⟨x18, hx18, h⟩ := Option.bind_eq_some_iff.mp h
   refine WO.k2 rfl rfl rfl rfl (rn_index g0 hx18 Try.runUnderlying23 Try.sizeOf22 rfl rfl rfl rfl) ?_
   have f19 := g0.stp (S3.tr S15) rfl rfl
   obtain ⟨ax18, ux18, f20, hl21⟩ := f19.gSl hx18
   refine WO.k1 trivial rfl rfl rfl rfl (rn_ld Try.isAgg22 rfl rfl (hvE hl21)) ?_
   obtain ⟨x20, hx20, h⟩ := Option.bind_eq_some_iff.mp h
   refine WO.call rfl rfl rfl rfl rfl rfl Try.call22 (l_toInt64S_ok (κ := fun b => mp [] 0 (K14 b)) (Sl.map f20 (mp [] 0) rfl rfl) hx20) ?_
   rintro _ w22 ⟨k23, a20_0, u20_0, rfl, e24, f25⟩
   obtain ⟨K26, S27, m28⟩ := Ent.mixed (l := []) (κ := K14) e24 3 rfl
   refine ⟨trivial, ?_⟩
   have f30 := f25.mx (no_int _) m28 rfl (rfl : 3 + 2 = 5)
   obtain ⟨x21, hx21, h⟩ := Option.bind_eq_some_iff.mp h
   refine WO.k2 rfl rfl rfl rfl (rn_index f16.rdc hx21 Try.runUnderlying23 Try.sizeOf22 rfl rfl hn17 rfl) ?_
   have f31 := f16.stp S27 rfl rfl
   obtain ⟨y3, hy3, h⟩ := Option.bind_eq_some_iff.mp h
   refine WO.stI (κ := K26) (E := (Ep.own (Ep.int .i64) 2)) 2 [5] rfl rfl rfl rfl rfl rfl rfl rfl Try.sizeOf22 rfl ⟨_, _, rfl, f30⟩ rfl rfl f31 hy3 fun w32 K33 S34 f35 => ⟨trivial, ?_⟩
   have hn36 : x7.length = y3.length := hn17.trans (setI_ok hy3).2.2.2.symm
   refine WO.fin ?_
   refine DN.block ?_
   refine DN.seq ?_
   refine WC.rs [(0, 2), (1, 2), (2, 2)] rfl ?_
   refine WO.pn 3 rfl ?_
   refine WO.fin ?_
   have hw5 : IntKind.wrap .i64 (v4 + 1) = v4 + 1 := wr1 hj5 (of_decide_eq_true hc5) hN5
   rw [hw5]
   have hc5 := of_decide_eq_true hc5
   obtain rfl := Option.some.inj h
   refine DN.round fun a ha => ?_
   exact ⟨k, _, Nat.lt_succ_self _, ⟨K33, v4 + 1, (y3 : (List (List Int))), rfl, (S15.tr (S27.tr S34)).wk rfl, f35, hn36, by omega, by omega, hk18⟩, (ha.more (ha.more (ha.more ha.nil rfl) rfl) rfl)⟩
 rintro _ w8 ⟨K9, s3, rfl, S10, f11, hn12, rfl⟩
 have h := hK6
 dsimp only [aft] at h
 refine DN.seq ?_
 refine WC.seq ?_
 refine WC.rs [(0, 2), (1, 2)] rfl ?_
 refine WO.pn 2 rfl ?_
 refine WO.fin ?_
 refine DN.seq ?_
 refine WC.ret ?_
 have f37 := hE.stp (S3.tr S10) rfl rfl
 refine DN.res (l := [.tmp 2]) Try.results20 (res_tmp rfl rfl) rfl ?_
 obtain rfl := Option.some.inj h
 exact ⟨K9, a7, u7, (by simp only [hn12]), f37, f11⟩

/- loop.example/g00869/spec.l1Rises -/
theorem s_l1Rises_ok {w : World} {κ : Col} {a0 : Option Addr} {u0 : Nat} {p0 : (List Int)} {p1 : Int} (g0 : Rd (Rp.int .i64) κ w 0 a0 u0 p0) {r : Bool} (h : s_l1Rises p0 p1 = some r) : Ret Try.prog 94 [.slice a0 p0.length u0, .int .i64 p1] w (fun v w' => ∃ (κ' : Col), v = .bool r ∧ Ent κ w κ' w') := by
 unfold s_l1Rises at h
 refine Ret.enter Try.func94 rfl Try.ntmps94 rfl ?_
 dsimp only [envOf]
 have hE := Ent.refl κ w
 refine WC.seq ?_
 refine WC.rs [(0, 2)] rfl ?_
 refine WO.pn 1 rfl ?_
 refine WO.fin ?_
 refine DN.seq ?_
 refine WC.seq ?_
 refine WC.seq ?_
 refine WC.rs [(0, 2)] rfl ?_
 refine WO.pn 1 rfl ?_
 refine WO.fin ?_
 refine DN.seq ?_
 have hN1 : (p0.length : Int) ≤ 9223372036854775807 := g0.len_le
 obtain ⟨q2, hq3, hK2⟩ := Option.bind_eq_some_iff.mp h
 clear h
 refine WC.meet (fun L w' => ∃ (κ' : Col), L = [] ∧ Stp [] κ w κ' w' ∧ q2 = Sum.inr ()) ?_ ?_
 ·
  refine WC.block ?_
  refine WC.loop (fun k L w' => ∃ (κ' : Col) (v5 : Int), L = [(0, .slice a0 p0.length u0), (1, .int .i64 p1), (5, .int .i64 v5)] ∧ Stp [] κ w κ' w' ∧ 0 ≤ v5 ∧ Int.toNat ((p0.length : Int) - v5) = k ∧ cntM (s_l1Rises_b0 p0 p1) k v5 () = some q2) ⟨_, _, ⟨κ, 0, rfl, (Stp.refl _ _).wk rfl, (by decide), (by simp), hq3⟩, fun a ha => (ha.more (ha.more (ha.more ha.nil rfl) rfl) rfl)⟩ ?_
  rintro k _ w7 ⟨K8, v5, rfl, S9, hj1, hJ1, h⟩
  rcases k with _ | k
  ·
   have hk10 := h; obtain ⟨o1, h⟩ := ex_eq (Sum.inr (Sum.inl ()) : Bool ⊕ ((Unit) ⊕ (Unit)))
   have hc1 : decide (v5 < (p0.length : Int)) = false := decide_eq_false (by omega)
   refine WC.seq ?_
   refine WC.seq ?_
   refine WC.rs [(0, 2), (1, 2), (2, 2), (3, 2)] rfl ?_
   refine WO.pn 2 rfl ?_
   refine WO.k2 rfl rfl rfl rfl (rn_len Try.runUnderlying22 rfl rfl) ?_
   refine WO.pn 1 rfl ?_
   refine WO.fin ?_
   refine DN.seq ?_
   refine WC.cf' rfl hc1 ?_
   refine WC.exit ?_
   refine DN.exitThen ?_
   refine DN.exitThen ?_
   obtain rfl := Option.some.inj h
   have h := hk10
   refine DN.hit ?_
   obtain rfl := Option.some.inj h
   exact DN.meet _ ⟨K8, rfl, S9.wk rfl, rfl⟩ fun a ha => ha.nil
  ·
   obtain ⟨o1, h, hk10⟩ := Option.bind_eq_some_iff.mp h; unfold s_l1Rises_b0 at h
   have hc1 : decide (v5 < (p0.length : Int)) = true := decide_eq_true (by omega)
   refine WC.seq ?_
   refine WC.seq ?_
   refine WC.rs [(0, 2), (1, 2), (2, 2), (3, 2)] rfl ?_
   refine WO.pn 2 rfl ?_
   refine WO.k2 rfl rfl rfl rfl (rn_len Try.runUnderlying22 rfl rfl) ?_
   refine WO.pn 1 rfl ?_
   refine WO.fin ?_
   refine DN.seq ?_
   refine WC.ct' rfl hc1 ?_
   refine WC.skip ?_
   refine DN.seq ?_
   refine WC.seq ?_
   refine WC.block ?_
   refine WC.seq ?_
   refine WC.rx (κ := K8) [0] none [(0, 2), (1, 2), (2, 2), (4, 2), (5, 2), (3, 0), (6, 1), (7, 2), (8, 2), (9, 2), (10, 2), (11, 2), (12, 2), (13, 2), (14, 2), (16, 2), (17, 2), (18, 2), (19, 2), (15, 0), (20, 0), (21, 2), (22, 2), (23, 2)] [] (by kernel_rfl) (by kernel_rfl) fun w12 S11 => ?_
   refine WO.pn 2 rfl ?_
   obtain ⟨x14, hx14, h⟩ := Option.bind_eq_some_iff.mp h
   refine WO.k2 rfl rfl rfl rfl (rn_index g0 hx14 Try.runUnderlying22 Try.sizeOf2 rfl rfl rfl rfl) ?_
   refine WO.pn 2 rfl ?_
   have f13 := g0.stp (S9.tr S11) rfl rfl
   refine WO.k0 rfl rfl rfl rfl (rn_ld Try.isAgg2 rfl rfl (hvC (f13.gInt hx14) rfl)) ?_
   obtain ⟨x18, hx18, h⟩ := Option.bind_eq_some_iff.mp h
   refine WO.call rfl rfl rfl rfl rfl rfl Try.call75 (s_l1In_ok (κ := fun b => mp [] 0 (K8 b)) hx18) ?_
   rintro _ w14 ⟨k15, rfl, e16⟩
   obtain ⟨K17, S18, m19⟩ := Ent.mixed (l := []) (κ := K8) e16 2 rfl
   refine ⟨(S18.cl rfl), ?_⟩
   refine WO.pn 2 rfl ?_
   obtain ⟨p35, h, hK21⟩ := Option.bind_eq_some_iff.mp h
   refine WO.meet [(9, 2), (10, 2), (11, 2), (12, 2), (13, 2), (14, 2), (16, 2), (17, 2), (18, 2), (19, 2), (15, 0), (20, 0), (21, 2), (22, 2), (23, 2)] [] (fun L w' => L = [(0, .slice a0 p0.length u0), (1, .int .i64 p1), (5, .int .i64 v5), (35, .bool p35)] ∧ ∃ κ', Stp [] K17 w14 κ' w') (S18.cl rfl) ?_ ?_
   ·
    revert h
    cases ht22 : (!x18) with
    | true =>
     intro h; replace h := cT h
     refine WO.pn 10 rfl ?_
     refine WO.qs rfl rfl rfl rfl ?_
     refine WO.qs rfl rfl rfl rfl ?_
     refine WO.pn 3 rfl ?_
     obtain rfl := Option.some.inj h
     exact WO.met _ (S18.cl rfl) ⟨rfl, _, (Stp.refl _ _).wk rfl⟩ fun a ha => (ha.more (ha.more (ha.more (ha.more ha.nil rfl) rfl) rfl) rfl)
    | false =>
     intro h; replace h := cF h
     refine WO.pn 3 rfl ?_
     obtain ⟨p34, h, hK23⟩ := Option.bind_eq_some_iff.mp h
     refine WO.meet [(12, 2), (13, 2), (14, 2), (16, 2), (17, 2), (18, 2), (19, 2), (15, 0), (20, 0), (21, 2), (22, 2)] [(23, 2)] (fun L w' => L = [(0, .slice a0 p0.length u0), (1, .int .i64 p1), (5, .int .i64 v5), (20, .bool false), (21, .int .i64 v5), (22, .bool (decide (0 < v5))), (23, .bool (decide (0 < v5))), (34, .bool p34)] ∧ ∃ κ', Stp [] K17 w14 κ' w') (S18.cl rfl) ?_ ?_
     ·
      revert h
      cases ht24 : decide (0 < v5) with
      | true =>
       intro h; replace h := cT h
       refine WO.pn 2 rfl ?_
       obtain ⟨x26, hx26, h⟩ := Option.bind_eq_some_iff.mp h
       refine WO.k2 rfl rfl rfl rfl (rn_index f13 hx26 Try.runUnderlying22 Try.sizeOf2 rfl rfl rfl rfl) ?_
       refine WO.pn 3 rfl ?_
       obtain ⟨x31, hx31, h⟩ := Option.bind_eq_some_iff.mp h
       refine WO.k2 rfl rfl rfl rfl (rn_index f13 hx31 Try.runUnderlying22 Try.sizeOf2 rfl rfl rfl rfl) ?_
       refine WO.k0 rfl rfl rfl rfl (rn_ld Try.isAgg2 rfl rfl (hvC (f13.gInt hx26) rfl)) ?_
       refine WO.k0 rfl rfl rfl rfl (rn_ld Try.isAgg2 rfl rfl (hvC (f13.gInt hx31) rfl)) ?_
       refine WO.pn 2 rfl ?_
       obtain rfl := Option.some.inj h
       exact WO.met _ (S18.cl rfl) ⟨rfl, _, (Stp.refl _ _).wk rfl⟩ fun a ha => (ha.more (ha.more (ha.more (ha.more (ha.more (ha.more (ha.more (ha.more ha.nil rfl) rfl) rfl) rfl) rfl) rfl) rfl) rfl)
      | false =>
       intro h; replace h := cF h
       refine WO.pn 7 rfl ?_
       refine WO.qs rfl rfl rfl rfl ?_
       refine WO.qs rfl rfl rfl rfl ?_
       refine WO.pn 2 rfl ?_
       obtain rfl := Option.some.inj h
       exact WO.met _ (S18.cl rfl) ⟨rfl, _, (Stp.refl _ _).wk rfl⟩ fun a ha => (ha.more (ha.more (ha.more (ha.more (ha.more (ha.more (ha.more (ha.more ha.nil rfl) rfl) rfl) rfl) rfl) rfl) rfl) rfl)
     rintro _ w25 _ ⟨rfl, K26, S27⟩
     have h := hK23
     refine WO.pn 1 rfl ?_
     obtain rfl := Option.some.inj h
     exact WO.met _ ((S18.tr S27).cl rfl) ⟨rfl, _, S27.wk rfl⟩ fun a ha => (ha.more (ha.more (ha.more (ha.more ha.nil rfl) rfl) rfl) rfl)
   rintro _ w28 _ ⟨rfl, K29, S30⟩
   have h := hK21
   refine WO.nx ?_
   refine WO.fin ?_
   refine DN.seq ?_
   revert h
   cases ht31 : p35 with
   | true =>
    intro h; replace h := cT h
    refine WC.ct rfl ?_
    refine WC.seq ?_
    refine WC.rs [(0, 2)] rfl ?_
    refine WO.pn 1 rfl ?_
    refine WO.fin ?_
    refine DN.seq ?_
    refine WC.ret ?_
    refine DN.retBlock ?_
    refine DN.retThen ?_
    refine DN.retThen ?_
    obtain rfl := Option.some.inj h
    obtain rfl := Option.some.inj hk10
    have h := hK2
    dsimp only [aft] at h
    refine DN.retBlock ?_
    refine DN.retMeet ?_
    refine DN.retThen ?_
    have f32 := hE.stp (S9.tr (S11.tr (S18.tr S30))) rfl rfl
    refine DN.res (l := [.tmp 4]) Try.results94 (res_tmp rfl rfl) rfl ?_
    obtain rfl := Option.some.inj h
    exact ⟨K29, rfl, f32⟩
   | false =>
    intro h; replace h := cF h
    refine WC.cf rfl ?_
    refine WC.skip ?_
    refine DN.block ?_
    refine DN.seq ?_
    refine WC.rs [(0, 2), (1, 2), (2, 2)] rfl ?_
    refine WO.pn 3 rfl ?_
    refine WO.fin ?_
    have hw1 : IntKind.wrap .i64 (v5 + 1) = v5 + 1 := wr1 hj1 (of_decide_eq_true hc1) hN1
    rw [hw1]
    have hc1 := of_decide_eq_true hc1
    obtain rfl := Option.some.inj h
    refine DN.round fun a ha => ?_
    exact ⟨k, _, Nat.lt_succ_self _, ⟨K29, v5 + 1, rfl, (S9.tr (S11.tr (S18.tr S30))).wk rfl, by omega, by omega, hk10⟩, (ha.more (ha.more (ha.more ha.nil rfl) rfl) rfl)⟩
 rintro _ w4 ⟨K5, rfl, S6, rfl⟩
 have h := hK2
 dsimp only [aft] at h
 refine DN.seq ?_
 refine WC.seq ?_
 refine WC.rs [(0, 2)] rfl ?_
 refine WO.pn 1 rfl ?_
 refine WO.fin ?_
 refine DN.seq ?_
 refine WC.ret ?_
 have f33 := hE.stp S6 rfl rfl
 refine DN.res (l := [.tmp 4]) Try.results94 (res_tmp rfl rfl) rfl ?_
 obtain rfl := Option.some.inj h
 exact ⟨K5, rfl, f33⟩

/- loop.example/g00869/spec.l7Top -/
theorem s_l7Top_ok {w : World} {κ : Col} {a0_0 : Option Addr} {u0_0 : Nat} {a0_1 : Option Addr} {u0_1 : Nat} {a0_2 : Option Addr} {u0_2 : Nat} {a0_3 : Option Addr} {u0_3 : Nat} {a0_4 : Option Addr} {u0_4 : Nat} {p0 : l7Game} {a1 : Option Addr} {u1 : Nat} {p1 : (List Bool)} (g0_0 : Rd (Rp.int .i64) κ w 0 a0_0 u0_0 p0.owner) (g0_1 : Rd (Rp.int .i64) κ w 0 a0_1 u0_1 p0.prio) (g0_2 : Rd (Rp.sl (Rp.int .i64)) κ w 0 a0_2 u0_2 p0.next) (g0_3 : Rd (Rp.sl (Rp.int .i64)) κ w 0 a0_3 u0_3 p0.prev) (g0_4 : Rd (Rp.int .i64) κ w 0 a0_4 u0_4 p0.pick) (g1 : Rd Rp.bool κ w 0 a1 u1 p1) {r : Int} (h : s_l7Top p0 p1 = some r) : Ret Try.prog 116 [.agg #[.slice a0_0 p0.owner.length u0_0, .slice a0_1 p0.prio.length u0_1, .slice a0_2 p0.next.length u0_2, .slice a0_3 p0.prev.length u0_3, .slice a0_4 p0.pick.length u0_4], .slice a1 p1.length u1] w (fun v w' => ∃ (κ' : Col), v = .int .i64 r ∧ Ent κ w κ' w') := by
 unfold s_l7Top at h
 refine Ret.enter Try.func116 rfl Try.ntmps116 rfl ?_
 dsimp only [envOf]
 have hE := Ent.refl κ w
 refine WC.seq ?_
 refine WC.rs [(0, 1), (1, 2)] rfl ?_
 refine WO.box (κ := κ) 2 rfl rfl rfl rfl rfl rfl rfl fun b2 w1 K2 S3 f4 => ⟨trivial, ?_⟩
 refine WO.pn 1 rfl ?_
 refine WO.fin ?_
 refine DN.seq ?_
 refine WC.seq ?_
 refine WC.rs [(0, 2)] rfl ?_
 refine WO.pn 1 rfl ?_
 refine WO.fin ?_
 refine DN.seq ?_
 refine WC.seq ?_
 refine WC.seq ?_
 refine WC.rs [(0, 2)] rfl ?_
 refine WO.pn 1 rfl ?_
 refine WO.fin ?_
 refine DN.seq ?_
 have hN5 : (p1.length : Int) ≤ 9223372036854775807 := g1.len_le
 obtain ⟨q2, hq7, hK6⟩ := Option.bind_eq_some_iff.mp h
 clear h
 refine WC.meet (fun L w' => ∃ (κ' : Col) (s3 : Int), L = [(5, .int .i64 s3)] ∧ Stp [] K2 w1 κ' w' ∧ q2 = Sum.inr s3) ?_ ?_
 ·
  refine WC.block ?_
  refine WC.loop (fun k L w' => ∃ (κ' : Col) (v6 : Int) (s1 : Int), L = [(1, .slice a1 p1.length u1), (2, .pointer (some ⟨b2, 0, none⟩)), (5, .int .i64 s1), (6, .int .i64 v6)] ∧ Stp [] K2 w1 κ' w' ∧ 0 ≤ v6 ∧ Int.toNat ((p1.length : Int) - v6) = k ∧ cntM (s_l7Top_b0 p0 p1) k v6 s1 = some q2) ⟨_, _, ⟨K2, 0, ((-1) : Int), rfl, (Stp.refl _ _).wk rfl, (by decide), (by simp), hq7⟩, fun a ha => (ha.more (ha.more (ha.more (ha.more ha.nil rfl) rfl) rfl) rfl)⟩ ?_
  rintro k _ w11 ⟨K12, v6, s1, rfl, S13, hj5, hJ5, h⟩
  rcases k with _ | k
  ·
   have hk14 := h; obtain ⟨o5, h⟩ := ex_eq (Sum.inr (Sum.inl s1) : Int ⊕ ((Int) ⊕ (Int)))
   have hc5 : decide (v6 < (p1.length : Int)) = false := decide_eq_false (by omega)
   refine WC.seq ?_
   refine WC.seq ?_
   refine WC.rs [(0, 2), (1, 2), (2, 2), (3, 2)] rfl ?_
   refine WO.pn 2 rfl ?_
   refine WO.k2 rfl rfl rfl rfl (rn_len Try.runUnderlying118 rfl rfl) ?_
   refine WO.pn 1 rfl ?_
   refine WO.fin ?_
   refine DN.seq ?_
   refine WC.cf' rfl hc5 ?_
   refine WC.exit ?_
   refine DN.exitThen ?_
   refine DN.exitThen ?_
   obtain rfl := Option.some.inj h
   have h := hk14
   refine DN.hit ?_
   obtain rfl := Option.some.inj h
   exact DN.meet _ ⟨K12, (s1 : Int), rfl, S13.wk rfl, rfl⟩ fun a ha => (ha.more ha.nil rfl)
  ·
   obtain ⟨o5, h, hk14⟩ := Option.bind_eq_some_iff.mp h; unfold s_l7Top_b0 at h
   have hc5 : decide (v6 < (p1.length : Int)) = true := decide_eq_true (by omega)
   refine WC.seq ?_
   refine WC.seq ?_
   refine WC.rs [(0, 2), (1, 2), (2, 2), (3, 2)] rfl ?_
   refine WO.pn 2 rfl ?_
   refine WO.k2 rfl rfl rfl rfl (rn_len Try.runUnderlying118 rfl rfl) ?_
   refine WO.pn 1 rfl ?_
   refine WO.fin ?_
   refine DN.seq ?_
   refine WC.ct' rfl hc5 ?_
   refine WC.skip ?_
   refine DN.seq ?_
   refine WC.seq ?_
   refine WC.block ?_
   refine WC.seq ?_
   refine WC.rs [(0, 2), (1, 2), (2, 2), (3, 1)] rfl ?_
   refine WO.pn 2 rfl ?_
   obtain ⟨x15, hx15, h⟩ := Option.bind_eq_some_iff.mp h
   refine WO.k2 rfl rfl rfl rfl (rn_index g1 hx15 Try.runUnderlying118 Try.sizeOf4 rfl rfl rfl rfl) ?_
   have f15 := g1.stp (S3.tr S13) rfl rfl
   refine WO.k1 trivial rfl rfl rfl rfl (rn_ld Try.isAgg4 rfl rfl (hvE (f15.gBool hx15))) ?_
   refine WO.fin ?_
   refine DN.seq ?_
   obtain ⟨q4, h, hK16⟩ := Option.bind_eq_some_iff.mp h
   refine WC.meet (fun L w' => ∃ (κ' : Col), L = [(1, .slice a1 p1.length u1), (2, .pointer (some ⟨b2, 0, none⟩)), (5, .int .i64 q4), (6, .int .i64 v6)] ∧ Stp [] K12 w11 κ' w') ?_ ?_
   ·
    revert h
    cases ht20 : x15 with
    | true =>
     intro h; replace h := cT h
     refine WC.ct rfl ?_
     refine WC.rs [(0, 2), (1, 2), (2, 1), (3, 2), (4, 2), (5, 1), (6, 1), (7, 2)] rfl ?_
     refine WO.pn 1 rfl ?_
     refine WO.k2 rfl rfl rfl rfl (rn_fieldAddr Try.runUnderlying121 rfl Try.sizeOf22 rfl rfl) ?_
     have f21 := f4.stp S13 rfl rfl
     refine WO.k1 trivial rfl rfl rfl rfl (rn_ld Try.isAgg22 rfl rfl (hvE (f21.ld 1 rfl rfl))) ?_
     refine WO.pn 1 rfl ?_
     obtain ⟨x21, hx21, h⟩ := Option.bind_eq_some_iff.mp h
     refine WO.k2 rfl rfl rfl rfl (rn_index g0_1 hx21 Try.runUnderlying22 Try.sizeOf2 rfl rfl rfl rfl) ?_
     have f22 := g0_1.stp (S3.tr S13) rfl rfl
     refine WO.k1 trivial rfl rfl rfl rfl (rn_ld Try.isAgg2 rfl rfl (hvE (f22.gInt hx21))) ?_
     obtain ⟨x23, hx23, h⟩ := Option.bind_eq_some_iff.mp h
     refine WO.call rfl rfl rfl rfl rfl rfl Try.call114 (s_l1Max_ok (κ := fun b => mp [] 0 (K12 b)) hx23) ?_
     rintro _ w23 ⟨k24, rfl, e25⟩
     obtain ⟨K26, S27, m28⟩ := Ent.mixed (l := []) (κ := K12) e25 3 rfl
     refine ⟨trivial, ?_⟩
     refine WO.pn 1 rfl ?_
     refine WO.fin ?_
     obtain rfl := Option.some.inj h
     exact DN.meet _ ⟨K26, rfl, S27.wk rfl⟩ fun a ha => (ha.more (ha.more (ha.more (ha.more ha.nil rfl) rfl) rfl) rfl)
    | false =>
     intro h; replace h := cF h
     refine WC.cf rfl ?_
     refine WC.skip ?_
     obtain rfl := Option.some.inj h
     exact DN.meet _ ⟨K12, rfl, (Stp.refl _ _).wk rfl⟩ fun a ha => (ha.more (ha.more (ha.more (ha.more ha.nil rfl) rfl) rfl) rfl)
   rintro _ w17 ⟨K18, rfl, S19⟩
   have h := hK16
   refine DN.block ?_
   refine DN.seq ?_
   refine WC.rs [(0, 2), (1, 2), (2, 2)] rfl ?_
   refine WO.pn 3 rfl ?_
   refine WO.fin ?_
   have hw5 : IntKind.wrap .i64 (v6 + 1) = v6 + 1 := wr1 hj5 (of_decide_eq_true hc5) hN5
   rw [hw5]
   have hc5 := of_decide_eq_true hc5
   obtain rfl := Option.some.inj h
   refine DN.round fun a ha => ?_
   exact ⟨k, _, Nat.lt_succ_self _, ⟨K18, v6 + 1, (q4 : Int), rfl, (S13.tr S19).wk rfl, by omega, by omega, hk14⟩, (ha.more (ha.more (ha.more (ha.more ha.nil rfl) rfl) rfl) rfl)⟩
 rintro _ w8 ⟨K9, s3, rfl, S10, rfl⟩
 have h := hK6
 dsimp only [aft] at h
 refine DN.seq ?_
 refine WC.seq ?_
 refine WC.rs [(0, 2), (1, 2)] rfl ?_
 refine WO.pn 2 rfl ?_
 refine WO.fin ?_
 refine DN.seq ?_
 refine WC.ret ?_
 have f30 := hE.stp (S3.tr S10) rfl rfl
 refine DN.res (l := [.tmp 4]) Try.results116 (res_tmp rfl rfl) rfl ?_
 obtain rfl := Option.some.inj h
 exact ⟨K9, rfl, f30⟩

/- slices.Contains[[]int64,int64] -/
theorem slices_Contains_I_int64_ok {w : World} {κ : Col} {a0 : Option Addr} {u0 : Nat} {p0 : (List Int)} {p1 : Int} (g0 : Rd (Rp.int .i64) κ w 0 a0 u0 p0) {r : Bool} (h : slices_Contains_I_int64 p0 p1 = some r) : Ret Try.prog 86 [.slice a0 p0.length u0, .int .i64 p1] w (fun v w' => ∃ (κ' : Col), v = .bool r ∧ Ent κ w κ' w') := by
 unfold slices_Contains_I_int64 at h
 refine Ret.enter Try.func86 rfl Try.ntmps86 rfl ?_
 dsimp only [envOf]
 have hE := Ent.refl κ w
 refine WC.seq ?_
 refine WC.rs [(0, 2)] rfl ?_
 refine WO.pn 1 rfl ?_
 refine WO.fin ?_
 refine DN.seq ?_
 refine WC.seq ?_
 refine WC.rs [(0, 2), (1, 2), (2, 1), (3, 2), (4, 2)] rfl ?_
 refine WO.pn 2 rfl ?_
 obtain ⟨x7, hx7, h⟩ := Option.bind_eq_some_iff.mp h
 refine WO.call rfl rfl rfl rfl rfl rfl Try.call122 (slices_Index_I_int64_ok (κ := fun b => mp [] 0 (κ b)) (Sl.map g0 (mp [] 0) rfl rfl) hx7) ?_
 rintro _ w1 ⟨k2, rfl, e3⟩
 obtain ⟨K4, S5, m6⟩ := Ent.mixed (l := []) (κ := κ) e3 2 rfl
 refine ⟨trivial, ?_⟩
 refine WO.pn 2 rfl ?_
 refine WO.fin ?_
 refine DN.seq ?_
 refine WC.ret ?_
 have f8 := hE.stp S5 rfl rfl
 refine DN.res (l := [.tmp 4]) Try.results86 (res_tmp rfl rfl) rfl ?_
 obtain rfl := Option.some.inj h
 exact ⟨K4, rfl, f8⟩

/- loop.example/g00869/impl.allOf -/
theorem i_allOf_ok {w : World} {κ : Col} {a0_0 : Option Addr} {u0_0 : Nat} {a0_1 : Option Addr} {u0_1 : Nat} {p0 : Arena} (g0_0 : Rd (Rp.int .i64) κ w 0 a0_0 u0_0 p0.Owner) (g0_1 : Rd (Rp.sl (Rp.int .i64)) κ w 0 a0_1 u0_1 p0.Next) {r : (List Int)} (h : i_allOf p0 = some r) : Ret Try.prog 88 [.agg #[.slice a0_0 p0.Owner.length u0_0, .slice a0_1 p0.Next.length u0_1]] w (fun v w' => ∃ (κ' : Col) (ra0 : Option Addr) (ru0 : Nat), v = .slice ra0 r.length ru0 ∧ Ent κ w κ' w' ∧ Oc (Ep.int .i64) 2 κ' w' 2 ra0 ru0 r) := by
 unfold i_allOf at h
 refine Ret.enter Try.func88 rfl Try.ntmps88 rfl ?_
 dsimp only [envOf]
 have hE := Ent.refl κ w
 refine WC.seq ?_
 refine WC.rs [(0, 1), (1, 2)] rfl ?_
 refine WO.box (κ := κ) 2 rfl rfl rfl rfl rfl rfl rfl fun b1 w1 K2 S3 f4 => ⟨trivial, ?_⟩
 refine WO.pn 1 rfl ?_
 refine WO.fin ?_
 refine DN.seq ?_
 refine WC.seq ?_
 refine WC.rs [(0, 1), (1, 1), (2, 1), (3, 2)] rfl ?_
 refine WO.k1 trivial rfl rfl rfl rfl (rn_la (cs := [.slice a0_0 p0.Owner.length u0_0, .slice a0_1 p0.Next.length u0_1]) Try.isAgg32 Try.sizeOf32 rfl rfl rfl (haE f4.cells)) ?_
 obtain ⟨x4, hx4, h⟩ := Option.bind_eq_some_iff.mp h
 have f5 := g0_0.stp S3 rfl rfl
 have f6 := g0_1.stp S3 rfl rfl
 refine WO.call rfl rfl rfl rfl rfl rfl Try.call121 (i_size_ok (κ := fun b => mp [] 0 (K2 b)) (p0 := p0) (Sl.map f5 (mp [] 0) rfl rfl) (Sl.map f6 (mp [] 0) rfl rfl) hx4) ?_
 rintro _ w7 ⟨k8, rfl, e9⟩
 obtain ⟨K10, S11, m12⟩ := Ent.mixed (l := []) (κ := K2) e9 3 rfl
 refine ⟨trivial, ?_⟩
 obtain ⟨x5, hx5, h⟩ := Option.bind_eq_some_iff.mp h
 refine WO.call rfl rfl rfl rfl rfl rfl Try.call128 (i_AllOf_ok (κ := fun b => mp [] 0 (K10 b)) hx5) ?_
 rintro _ w14 ⟨k15, a5_0, u5_0, rfl, e16, f17⟩
 obtain ⟨K18, S19, m20⟩ := Ent.mixed (l := []) (κ := K10) e16 5 rfl
 refine ⟨trivial, ?_⟩
 have f22 := f17.mx (no_int _) m20 rfl (rfl : 5 + 2 = 7)
 refine WO.pn 1 rfl ?_
 refine WO.fin ?_
 refine DN.seq ?_
 refine WC.ret ?_
 have f23 := hE.stp (S3.tr (S11.tr S19)) rfl rfl
 refine DN.res (l := [.tmp 2]) Try.results88 (res_tmp rfl rfl) rfl ?_
 obtain rfl := Option.some.inj h
 exact ⟨(fun b => ren [(7, 2)] (K18 b)), a5_0, u5_0, rfl, (f23.map (ren [(7, 2)]) rfl rfl), (f22.map (ren [(7, 2)]) rfl rfl)⟩

/- (*loop.example/g00869/impl.solver).pull -/
theorem i_solver_pull_ok {w : World} {κ : Col} {a0_0_0_0 : Option Addr} {u0_0_0_0 : Nat} {a0_0_0_1 : Option Addr} {u0_0_0_1 : Nat} {a0_0_1 : Option Addr} {u0_0_1 : Nat} {a0_1 : Option Addr} {u0_1 : Nat} {p0 : solver} {p1 : Int} {a2 : Option Addr} {u2 : Nat} {p2 : (List Bool)} {a3 : Option Addr} {u3 : Nat} {p3 : (List Bool)} {b0 : Nat} (g0_0_0_0 : Rd (Rp.int .i64) κ w 0 a0_0_0_0 u0_0_0_0 p0.game.Arena.Owner) (g0_0_0_1 : Rd (Rp.sl (Rp.int .i64)) κ w 0 a0_0_0_1 u0_0_0_1 p0.game.Arena.Next) (g0_0_1 : Rd (Rp.int .i64) κ w 0 a0_0_1 u0_0_1 p0.game.Prio) (g0_1 : Rd (Rp.sl (Rp.int .i64)) κ w 0 a0_1 u0_1 p0.preds) (g2 : Rd Rp.bool κ w 0 a2 u2 p2) (g3 : Rd Rp.bool κ w 0 a3 u3 p3) (gb0 : Bc κ w 0 b0 159 [.slice a0_0_0_0 p0.game.Arena.Owner.length u0_0_0_0, .slice a0_0_0_1 p0.game.Arena.Next.length u0_0_0_1, .slice a0_0_1 p0.game.Prio.length u0_0_1, .slice a0_1 p0.preds.length u0_1]) {r : (List Bool)} (h : i_solver_pull p0 p1 p2 p3 = some r) : Ret Try.prog 154 [.pointer (some ⟨b0, 0, none⟩), .int .i64 p1, .slice a2 p2.length u2, .slice a3 p3.length u3] w (fun v w' => ∃ (κ' : Col) (ra0 : Option Addr) (ru0 : Nat), v = .slice ra0 r.length ru0 ∧ Ent κ w κ' w' ∧ Oc Ep.bool 4 κ' w' 2 ra0 ru0 r) := by
 unfold i_solver_pull at h
 refine Ret.enter Try.func154 rfl Try.ntmps154 rfl ?_
 dsimp only [envOf]
 have hE := Ent.refl κ w
 refine WC.seq ?_
 refine WC.rs [(0, 2)] rfl ?_
 refine WO.pn 1 rfl ?_
 refine WO.fin ?_
 refine DN.seq ?_
 refine WC.seq ?_
 refine WC.rs [(0, 1), (1, 2), (2, 1), (3, 2)] rfl ?_
 refine WO.bl0 (κ := κ) (E := Ep.bool) 2 rfl rfl rfl rfl rfl Try.underlying118 Tryinfo4 rfl fun a17 u17 w1 K2 S3 f4 => ⟨trivial, ?_⟩
 refine WO.pn 1 rfl ?_
 obtain ⟨x19, hx19, h⟩ := Option.bind_eq_some_iff.mp h
 have f5 := g3.stp S3 rfl rfl
 refine WO.app (κ := K2) (E := Ep.bool) 2 [] rfl rfl rfl rfl rfl rfl rfl rfl rfl Try.underlying118 Tryinfo4 rfl rfl rfl rfl f4 (Sl.srcP pu_bool f5) sy_false hx19 rfl fun a19 u19 w6 K7 S8 f9 => ⟨trivial, ?_⟩
 refine WO.pn 1 rfl ?_
 refine WO.fin ?_
 refine DN.seq ?_
 refine WC.seq ?_
 refine WC.rs [(0, 2), (1, 2), (2, 1), (3, 2)] rfl ?_
 refine WO.pn 1 rfl ?_
 refine WO.k2 rfl rfl rfl rfl (rn_len Try.runUnderlying118 rfl rfl) ?_
 obtain ⟨x22, hx22, h⟩ := Option.bind_eq_some_iff.mp h
 refine WO.mk (κ := K7) (E := (Ep.int .i64)) (z := (0 : Int)) 3 rfl rfl rfl rfl rfl rfl rfl Try.underlying194 Tryinfo3 rfl rfl rfl rfl rfl (fun _ _ _ => rfl) (mkS_C hx22) fun a22 u22 w10 K11 S12 f13 => ⟨trivial, ?_⟩
 refine WO.pn 1 rfl ?_
 refine WO.fin ?_
 refine DN.seq ?_
 refine WC.seq ?_
 refine WC.rs [(0, 2), (1, 1), (2, 2)] rfl ?_
 refine WO.pn 1 rfl ?_
 obtain ⟨x24, hx24, h⟩ := Option.bind_eq_some_iff.mp h
 have f14 := f5.stp (S8.tr S12) rfl rfl
 refine WO.call rfl rfl rfl rfl rfl rfl Try.call126 (i_listOf_ok (κ := fun b => mp [] 0 (K11 b)) (Sl.map f14 (mp [] 0) rfl rfl) hx24) ?_
 rintro _ w15 ⟨k16, a24_0, u24_0, rfl, e17, f18⟩
 obtain ⟨K19, S20, m21⟩ := Ent.mixed (l := []) (κ := K11) e17 4 rfl
 refine ⟨trivial, ?_⟩
 have f23 := f18.mx (no_int _) m21 rfl (rfl : 4 + 2 = 6)
 refine WO.pn 1 rfl ?_
 refine WO.fin ?_
 refine DN.seq ?_
 refine WC.seq ?_
 obtain ⟨q2, hq26, hK25⟩ := Option.bind_eq_some_iff.mp h
 clear h
 refine WC.meet (fun L w' => ∃ (κ' : Col) (s3 : (List Int) × (List Bool) × (List Int)) (las3_0 : Option Addr) (lus3_0 : Nat), L = [(0, .pointer (some ⟨b0, 0, none⟩)), (9, .slice a19 x19.length u19)] ∧ Stp [2, 3, 6] K19 w15 κ' w' ∧ Oc (Ep.int .i64) 2 κ' w' 6 las3_0 lus3_0 s3.1 ∧ Oc Ep.bool 4 κ' w' 2 a19 u19 s3.2.1 ∧ x19.length = s3.2.1.length ∧ Oc (Ep.int .i64) 3 κ' w' 3 a22 u22 s3.2.2 ∧ x22.length = s3.2.2.length ∧ q2 = Sum.inr s3) ?_ ?_
 ·
  refine WC.block ?_
  have f43 := f9.stp (S12.tr S20) rfl rfl
  have f44 := f13.stp S20 rfl rfl
  refine WC.loop (fun k L w' => ∃ (κ' : Col) (s1 : (List Int) × (List Bool) × (List Int)) (las1_0 : Option Addr) (lus1_0 : Nat), L = [(0, .pointer (some ⟨b0, 0, none⟩)), (1, .int .i64 p1), (2, .slice a2 p2.length u2), (9, .slice a19 x19.length u19), (10, .slice a22 x22.length u22), (11, .slice las1_0 s1.1.length lus1_0)] ∧ Stp [2, 3, 6] K19 w15 κ' w' ∧ Oc (Ep.int .i64) 2 κ' w' 6 las1_0 lus1_0 s1.1 ∧ Oc Ep.bool 4 κ' w' 2 a19 u19 s1.2.1 ∧ x19.length = s1.2.1.length ∧ Oc (Ep.int .i64) 3 κ' w' 3 a22 u22 s1.2.2 ∧ x22.length = s1.2.2.length ∧ whileM (i_solver_pull_b0 p0 p1 p2) k s1 = some q2) ⟨_, _, ⟨K19, ((x24 : (List Int)), (x19 : (List Bool)), (x22 : (List Int))), a24_0, u24_0, rfl, (Stp.refl _ _).wk rfl, f23, f43, rfl, f44, rfl, hq26⟩, fun a ha => (ha.more (ha.more (ha.more (ha.more (ha.more (ha.more ha.nil rfl) rfl) rfl) rfl) rfl) rfl)⟩ ?_
  rintro k _ w35 ⟨K36, s1, las1_0, lus1_0, rfl, S37, f38, f39, hn40, f41, hn42, h⟩
  rcases k with _ | k
  ·
   cases h
  ·
   obtain ⟨o24, h, hk45⟩ := Option.bind_eq_some_iff.mp h; unfold i_solver_pull_b0 at h
   refine WC.seq ?_
   refine WC.seq ?_
   refine WC.rs [(0, 2), (1, 2), (2, 2)] rfl ?_
   refine WO.pn 1 rfl ?_
   refine WO.k2 rfl rfl rfl rfl (rn_len Try.runUnderlying22 rfl rfl) ?_
   refine WO.pn 1 rfl ?_
   refine WO.fin ?_
   refine DN.seq ?_
   revert h
   cases ht46 : decide (0 < (s1.1.length : Int)) with
   | true =>
    intro h; replace h := cT h
    refine WC.ct rfl ?_
    refine WC.skip ?_
    refine DN.seq ?_
    refine WC.block ?_
    refine WC.seq ?_
    refine WC.rs [(0, 2), (1, 2), (2, 1), (3, 2)] rfl ?_
    refine WO.pn 1 rfl ?_
    obtain ⟨x29, hx29, h⟩ := Option.bind_eq_some_iff.mp h
    refine WO.k2 rfl rfl rfl rfl (rn_index f38.rdc hx29 Try.runUnderlying22 Try.sizeOf2 rfl rfl rfl rfl) ?_
    refine WO.k1 trivial rfl rfl rfl rfl (rn_ld Try.isAgg2 rfl rfl (hvE (f38.rdc.gInt hx29))) ?_
    refine WO.pn 1 rfl ?_
    refine WO.fin ?_
    refine DN.seq ?_
    refine WC.seq ?_
    refine WC.rs [(0, 2), (1, 2), (2, 2)] rfl ?_
    refine WO.pn 1 rfl ?_
    obtain ⟨x32, hx32, h⟩ := Option.bind_eq_some_iff.mp h
    refine WO.k2 rfl rfl rfl rfl (rn_slice (k1 := .i64) (k2 := .i64) Try.runUnderlying22 Try.sizeOf2 (.inr ⟨_, rfl, rfl⟩) (.inl ⟨rfl, rfl⟩) hx32 f38.rdc.1 rfl rfl rfl) ?_
    have f47 := f38.sub hx32
    refine WO.pn 1 rfl ?_
    refine WO.fin ?_
    refine DN.seq ?_
    refine WC.seq ?_
    refine WC.rs [(0, 2), (1, 2), (2, 2), (3, 1), (4, 2), (5, 2), (6, 1), (7, 2), (8, 2)] rfl ?_
    refine WO.pn 1 rfl ?_
    refine WO.k2 rfl rfl rfl rfl (rn_nilCheck rfl rfl) ?_
    refine WO.k2 rfl rfl rfl rfl (rn_fieldAddr Try.runUnderlying159 rfl Try.sizeOf23 rfl rfl) ?_
    have f48 := gb0.stp (S3.tr (S8.tr (S12.tr (S20.tr S37)))) rfl rfl
    refine WO.k1 trivial rfl rfl rfl rfl (rn_ld Try.isAgg23 rfl rfl (hvE (f48.ld 3 rfl rfl))) ?_
    refine WO.pn 1 rfl ?_
    obtain ⟨x38, hx38, h⟩ := Option.bind_eq_some_iff.mp h
    refine WO.k2 rfl rfl rfl rfl (rn_index g0_1 hx38 Try.runUnderlying23 Try.sizeOf22 rfl rfl rfl rfl) ?_
    have f49 := g0_1.stp (S3.tr (S8.tr (S12.tr (S20.tr S37)))) rfl rfl
    obtain ⟨ax38, ux38, f50, hl51⟩ := f49.gSl hx38
    refine WO.k1 trivial rfl rfl rfl rfl (rn_ld Try.isAgg22 rfl rfl (hvE hl51)) ?_
    refine WO.k2 rfl rfl rfl rfl (rn_len Try.runUnderlying22 rfl rfl) ?_
    refine WO.pn 1 rfl ?_
    refine WO.fin ?_
    refine DN.seq ?_
    have hN52 : (x38.length : Int) ≤ 9223372036854775807 := f50.len_le
    obtain ⟨q5, hq54, hK53⟩ := Option.bind_eq_some_iff.mp h
    clear h
    refine WC.meet (fun L w' => ∃ (κ' : Col) (s6 : (List Int) × (List Bool) × (List Int)) (las6_0 : Option Addr) (lus6_0 : Nat), L = [(0, .pointer (some ⟨b0, 0, none⟩)), (1, .int .i64 p1), (2, .slice a2 p2.length u2), (9, .slice a19 x19.length u19), (10, .slice a22 x22.length u22), (11, .slice las6_0 s6.1.length lus6_0)] ∧ Stp [2, 3, 6] K36 w35 κ' w' ∧ Oc (Ep.int .i64) 2 κ' w' 6 las6_0 lus6_0 s6.1 ∧ Oc Ep.bool 4 κ' w' 2 a19 u19 s6.2.1 ∧ x19.length = s6.2.1.length ∧ Oc (Ep.int .i64) 3 κ' w' 3 a22 u22 s6.2.2 ∧ x22.length = s6.2.2.length ∧ q5 = Sum.inr s6) ?_ ?_
    ·
     refine WC.block ?_
     refine WC.loop (fun k L w' => ∃ (κ' : Col) (v41 : Int) (s4 : (List Int) × (List Bool) × (List Int)) (las4_0 : Option Addr) (lus4_0 : Nat), L = [(0, .pointer (some ⟨b0, 0, none⟩)), (1, .int .i64 p1), (2, .slice a2 p2.length u2), (9, .slice a19 x19.length u19), (10, .slice a22 x22.length u22), (11, .slice las4_0 s4.1.length lus4_0), (39, .slice ax38 x38.length ux38), (40, .int .i64 (x38.length : Int)), (41, .int .i64 v41)] ∧ Stp [2, 3, 6] K36 w35 κ' w' ∧ Oc (Ep.int .i64) 2 κ' w' 6 las4_0 lus4_0 s4.1 ∧ Oc Ep.bool 4 κ' w' 2 a19 u19 s4.2.1 ∧ x19.length = s4.2.1.length ∧ Oc (Ep.int .i64) 3 κ' w' 3 a22 u22 s4.2.2 ∧ x22.length = s4.2.2.length ∧ 0 ≤ v41 ∧ Int.toNat ((x38.length : Int) - v41) = k ∧ cntM (i_solver_pull_b2 p0 p1 p2 x38) k v41 s4 = some q5) ⟨_, _, ⟨K36, 0, ((x32 : (List Int)), (s1.2.1 : (List Bool)), (s1.2.2 : (List Int))), (subA las1_0 lus1_0 (1 : Int).toNat 1), (lus1_0 - (1 : Int).toNat), rfl, (Stp.refl _ _).wk rfl, f47, f39, hn40, f41, hn42, (by decide), (by simp), hq54⟩, fun a ha => (ha.more (ha.more (ha.more (ha.more (ha.more (ha.more (ha.more (ha.more (ha.more ha.nil rfl) rfl) rfl) rfl) rfl) rfl) rfl) rfl) rfl)⟩ ?_
     rintro k _ w63 ⟨K64, v41, s4, las4_0, lus4_0, rfl, S65, f66, f67, hn68, f69, hn70, hj52, hJ52, h⟩
     rcases k with _ | k
     ·
      have hk71 := h; obtain ⟨o52, h⟩ := ex_eq (Sum.inr (Sum.inl s4) : (List Bool) ⊕ (((List Int) × (List Bool) × (List Int)) ⊕ ((List Int) × (List Bool) × (List Int))))
      have hc52 : decide (v41 < (x38.length : Int)) = false := decide_eq_false (by omega)
      refine WC.seq ?_
      refine WC.rs [(0, 2)] rfl ?_
      refine WO.pn 1 rfl ?_
      refine WO.fin ?_
      refine DN.seq ?_
      refine WC.seq ?_
      refine WC.cf' rfl hc52 ?_
      refine WC.exit ?_
      refine DN.exitThen ?_
      refine DN.exitThen ?_
      obtain rfl := Option.some.inj h
      have h := hk71
      refine DN.hit ?_
      obtain rfl := Option.some.inj h
      exact DN.meet _ ⟨K64, ((s4.1 : (List Int)), (s4.2.1 : (List Bool)), (s4.2.2 : (List Int))), las4_0, lus4_0, rfl, S65.wk rfl, f66, f67, hn68, f69, hn70, rfl⟩ fun a ha => (ha.more (ha.more (ha.more (ha.more (ha.more (ha.more ha.nil rfl) rfl) rfl) rfl) rfl) rfl)
     ·
      obtain ⟨o52, h, hk71⟩ := Option.bind_eq_some_iff.mp h; unfold i_solver_pull_b2 at h
      have hc52 : decide (v41 < (x38.length : Int)) = true := decide_eq_true (by omega)
      refine WC.seq ?_
      refine WC.rs [(0, 2)] rfl ?_
      refine WO.pn 1 rfl ?_
      refine WO.fin ?_
      refine DN.seq ?_
      refine WC.seq ?_
      refine WC.ct' rfl hc52 ?_
      refine WC.skip ?_
      refine DN.seq ?_
      refine WC.seq ?_
      refine WC.block ?_
      refine WC.seq ?_
      refine WC.rs [(0, 2), (1, 1), (2, 2)] rfl ?_
      obtain ⟨x43, hx43, h⟩ := Option.bind_eq_some_iff.mp h
      refine WO.k2 rfl rfl rfl rfl (rn_index f50 hx43 Try.runUnderlying22 Try.sizeOf2 rfl rfl rfl rfl) ?_
      have f72 := f50.stp S65 rfl rfl
      refine WO.k1 trivial rfl rfl rfl rfl (rn_ld Try.isAgg2 rfl rfl (hvE (f72.gInt hx43))) ?_
      refine WO.pn 1 rfl ?_
      refine WO.fin ?_
      refine DN.seq ?_
      refine WC.seq ?_
      refine WC.seq ?_
      refine WC.rs [(0, 2), (1, 2), (2, 2), (3, 1), (4, 2), (5, 2), (6, 2), (7, 2), (8, 1), (9, 2), (10, 2)] rfl ?_
      refine WO.pn 2 rfl ?_
      obtain ⟨x47, hx47, h⟩ := Option.bind_eq_some_iff.mp h
      refine WO.k2 rfl rfl rfl rfl (rn_index f67.rdc hx47 Try.runUnderlying118 Try.sizeOf4 rfl rfl hn68 rfl) ?_
      refine WO.k1 trivial rfl rfl rfl rfl (rn_ld Try.isAgg4 rfl rfl (hvE (f67.rdc.gBool hx47))) ?_
      refine WO.pn 1 rfl ?_
      obtain ⟨p55, h, hK73⟩ := Option.bind_eq_some_iff.mp h
      refine WO.meet [(5, 2), (6, 2), (7, 2), (8, 1), (9, 2), (10, 2)] [] (fun L w' => L = [(0, .pointer (some ⟨b0, 0, none⟩)), (1, .int .i64 p1), (2, .slice a2 p2.length u2), (9, .slice a19 x19.length u19), (10, .slice a22 x22.length u22), (11, .slice las4_0 s4.1.length lus4_0), (14, .int .i64 x43), (39, .slice ax38 x38.length ux38), (40, .int .i64 (x38.length : Int)), (41, .int .i64 v41), (55, .bool p55)] ∧ ∃ κ', Stp [] K64 w63 κ' w') trivial ?_ ?_
      ·
       revert h
       cases ht74 : x47 with
       | true =>
        intro h; replace h := cT h
        refine WO.pn 3 rfl ?_
        refine WO.ls rfl rfl rfl rfl ?_
        refine WO.pn 2 rfl ?_
        obtain rfl := Option.some.inj h
        exact WO.met _ trivial ⟨rfl, _, (Stp.refl _ _).wk rfl⟩ fun a ha => (ha.more (ha.more (ha.more (ha.more (ha.more (ha.more (ha.more (ha.more (ha.more (ha.more (ha.more ha.nil rfl) rfl) rfl) rfl) rfl) rfl) rfl) rfl) rfl) rfl) rfl)
       | false =>
        intro h; replace h := cF h
        refine WO.pn 2 rfl ?_
        obtain ⟨x52, hx52, h⟩ := Option.bind_eq_some_iff.mp h
        refine WO.k2 rfl rfl rfl rfl (rn_index g2 hx52 Try.runUnderlying118 Try.sizeOf4 rfl rfl rfl rfl) ?_
        have f75 := g2.stp (S3.tr (S8.tr (S12.tr (S20.tr (S37.tr S65))))) rfl rfl
        refine WO.k1 trivial rfl rfl rfl rfl (rn_ld Try.isAgg4 rfl rfl (hvE (f75.gBool hx52))) ?_
        refine WO.pn 2 rfl ?_
        obtain rfl := Option.some.inj h
        exact WO.met _ trivial ⟨rfl, _, (Stp.refl _ _).wk rfl⟩ fun a ha => (ha.more (ha.more (ha.more (ha.more (ha.more (ha.more (ha.more (ha.more (ha.more (ha.more (ha.more ha.nil rfl) rfl) rfl) rfl) rfl) rfl) rfl) rfl) rfl) rfl) rfl)
      rintro _ w76 _ ⟨rfl, K77, S78⟩
      have h := hK73
      refine WO.fin ?_
      refine DN.seq ?_
      revert h
      cases ht79 : p55 with
      | true =>
       intro h; replace h := cT h
       refine WC.ct rfl ?_
       refine WC.exit ?_
       refine DN.exitThen ?_
       refine DN.hit ?_
       refine DN.seq ?_
       refine WC.rs [(0, 2), (1, 2)] rfl ?_
       refine WO.pn 2 rfl ?_
       refine WO.fin ?_
       have hw52 : IntKind.wrap .i64 (v41 + 1) = v41 + 1 := wr1 hj52 (of_decide_eq_true hc52) hN52
       rw [hw52]
       have hc52 := of_decide_eq_true hc52
       have f80 := f66.stp S78 rfl rfl
       have f81 := f67.stp S78 rfl rfl
       have f82 := f69.stp S78 rfl rfl
       obtain rfl := Option.some.inj h
       refine DN.round fun a ha => ?_
       exact ⟨k, _, Nat.lt_succ_self _, ⟨K77, v41 + 1, ((s4.1 : (List Int)), (s4.2.1 : (List Bool)), (s4.2.2 : (List Int))), las4_0, lus4_0, rfl, (S65.tr S78).wk rfl, f80, f81, hn68, f82, hn70, by omega, by omega, hk71⟩, (ha.more (ha.more (ha.more (ha.more (ha.more (ha.more (ha.more (ha.more (ha.more ha.nil rfl) rfl) rfl) rfl) rfl) rfl) rfl) rfl) rfl)⟩
      | false =>
       intro h; replace h := cF h
       refine WC.cf rfl ?_
       refine WC.skip ?_
       refine DN.seq ?_
       refine WC.seq ?_
       refine WC.seq ?_
       refine WC.rs [(0, 2), (1, 2), (2, 2), (3, 2), (4, 2), (5, 1), (6, 2), (7, 2), (8, 1), (9, 2), (10, 2)] rfl ?_
       refine WO.pn 1 rfl ?_
       refine WO.k2 rfl rfl rfl rfl (rn_nilCheck rfl rfl) ?_
       refine WO.k2 rfl rfl rfl rfl (rn_fieldAddr Try.runUnderlying159 rfl Try.sizeOf34 rfl rfl) ?_
       refine WO.k2 rfl rfl rfl rfl (rn_fieldAddr Try.runUnderlying34 rfl Try.sizeOf32 rfl rfl) ?_
       refine WO.k2 rfl rfl rfl rfl (rn_fieldAddr Try.runUnderlying32 rfl Try.sizeOf22 rfl rfl) ?_
       have f83 := f48.stp (S65.tr S78) rfl rfl
       refine WO.k1 trivial rfl rfl rfl rfl (rn_ld Try.isAgg22 rfl rfl (hvE (f83.ld 0 rfl rfl))) ?_
       refine WO.pn 1 rfl ?_
       obtain ⟨x63, hx63, h⟩ := Option.bind_eq_some_iff.mp h
       refine WO.k2 rfl rfl rfl rfl (rn_index g0_0_0_0 hx63 Try.runUnderlying22 Try.sizeOf2 rfl rfl rfl rfl) ?_
       have f84 := g0_0_0_0.stp (S3.tr (S8.tr (S12.tr (S20.tr (S37.tr (S65.tr S78)))))) rfl rfl
       refine WO.k1 trivial rfl rfl rfl rfl (rn_ld Try.isAgg2 rfl rfl (hvE (f84.gInt hx63))) ?_
       refine WO.pn 2 rfl ?_
       refine WO.fin ?_
       refine DN.seq ?_
       revert h
       cases ht85 : (x63 != p1) with
       | true =>
        intro h; replace h := cT h
        refine WC.ct rfl ?_
        refine WC.seq ?_
        refine WC.seq ?_
        refine WC.rs [(0, 2), (1, 2), (2, 2), (3, 1), (4, 2)] rfl ?_
        refine WO.pn 2 rfl ?_
        obtain ⟨x69, hx69, h⟩ := Option.bind_eq_some_iff.mp h
        refine WO.k2 rfl rfl rfl rfl (rn_index f69.rdc hx69 Try.runUnderlying194 Try.sizeOf3 rfl rfl hn70 rfl) ?_
        have f86 := f69.stp S78 rfl rfl
        refine WO.k1 trivial rfl rfl rfl rfl (rn_ld Try.isAgg3 rfl rfl (hvE (f86.rdc.gInt hx69))) ?_
        refine WO.pn 1 rfl ?_
        refine WO.fin ?_
        refine DN.seq ?_
        obtain ⟨q7, h, hK87⟩ := Option.bind_eq_some_iff.mp h
        refine WC.meet (fun L w' => ∃ (κ' : Col), L = [(0, .pointer (some ⟨b0, 0, none⟩)), (1, .int .i64 p1), (2, .slice a2 p2.length u2), (9, .slice a19 x19.length u19), (10, .slice a22 x22.length u22), (11, .slice las4_0 s4.1.length lus4_0), (14, .int .i64 x43), (39, .slice ax38 x38.length ux38), (40, .int .i64 (x38.length : Int)), (41, .int .i64 v41)] ∧ Stp [3] K77 w76 κ' w' ∧ Oc (Ep.int .i64) 3 κ' w' 3 a22 u22 q7 ∧ x22.length = q7.length) ?_ ?_
        ·
         revert h
         cases ht93 : (x69 == 0) with
         | true =>
          intro h; replace h := cT h
          refine WC.ct rfl ?_
          refine WC.seq ?_
          refine WC.rs [(0, 2), (1, 2), (2, 2), (3, 2), (4, 2), (5, 1), (6, 2), (7, 2), (8, 1), (9, 2), (10, 2)] rfl ?_
          refine WO.pn 1 rfl ?_
          refine WO.k2 rfl rfl rfl rfl (rn_nilCheck rfl rfl) ?_
          refine WO.k2 rfl rfl rfl rfl (rn_fieldAddr Try.runUnderlying159 rfl Try.sizeOf34 rfl rfl) ?_
          refine WO.k2 rfl rfl rfl rfl (rn_fieldAddr Try.runUnderlying34 rfl Try.sizeOf32 rfl rfl) ?_
          refine WO.k2 rfl rfl rfl rfl (rn_fieldAddr Try.runUnderlying32 rfl Try.sizeOf23 rfl rfl) ?_
          refine WO.k1 trivial rfl rfl rfl rfl (rn_ld Try.isAgg23 rfl rfl (hvE (f83.ld 1 rfl rfl))) ?_
          refine WO.pn 1 rfl ?_
          obtain ⟨x79, hx79, h⟩ := Option.bind_eq_some_iff.mp h
          refine WO.k2 rfl rfl rfl rfl (rn_index g0_0_0_1 hx79 Try.runUnderlying23 Try.sizeOf22 rfl rfl rfl rfl) ?_
          have f94 := g0_0_0_1.stp (S3.tr (S8.tr (S12.tr (S20.tr (S37.tr (S65.tr S78)))))) rfl rfl
          obtain ⟨ax79, ux79, f95, hl96⟩ := f94.gSl hx79
          refine WO.k1 trivial rfl rfl rfl rfl (rn_ld Try.isAgg22 rfl rfl (hvE hl96)) ?_
          refine WO.k2 rfl rfl rfl rfl (rn_len Try.runUnderlying22 rfl rfl) ?_
          refine WO.pn 1 rfl ?_
          refine WO.fin ?_
          refine DN.seq ?_
          have hN97 : (x79.length : Int) ≤ 9223372036854775807 := f95.len_le
          obtain ⟨q9, hq99, hK98⟩ := Option.bind_eq_some_iff.mp h
          clear h
          refine WC.meet (fun L w' => ∃ (κ' : Col) (s10 : (List Int)), L = [(0, .pointer (some ⟨b0, 0, none⟩)), (1, .int .i64 p1), (2, .slice a2 p2.length u2), (9, .slice a19 x19.length u19), (10, .slice a22 x22.length u22), (11, .slice las4_0 s4.1.length lus4_0), (14, .int .i64 x43), (39, .slice ax38 x38.length ux38), (40, .int .i64 (x38.length : Int)), (41, .int .i64 v41)] ∧ Stp [3] K77 w76 κ' w' ∧ Oc (Ep.int .i64) 3 κ' w' 3 a22 u22 s10 ∧ x22.length = s10.length ∧ q9 = Sum.inr s10) ?_ ?_
          ·
           refine WC.block ?_
           refine WC.loop (fun k L w' => ∃ (κ' : Col) (v82 : Int) (s8 : (List Int)), L = [(0, .pointer (some ⟨b0, 0, none⟩)), (1, .int .i64 p1), (2, .slice a2 p2.length u2), (9, .slice a19 x19.length u19), (10, .slice a22 x22.length u22), (11, .slice las4_0 s4.1.length lus4_0), (14, .int .i64 x43), (39, .slice ax38 x38.length ux38), (40, .int .i64 (x38.length : Int)), (41, .int .i64 v41), (80, .slice ax79 x79.length ux79), (81, .int .i64 (x79.length : Int)), (82, .int .i64 v82)] ∧ Stp [3] K77 w76 κ' w' ∧ Oc (Ep.int .i64) 3 κ' w' 3 a22 u22 s8 ∧ x22.length = s8.length ∧ 0 ≤ v82 ∧ Int.toNat ((x79.length : Int) - v82) = k ∧ cntM (i_solver_pull_b4 p2 x43 x79) k v82 s8 = some q9) ⟨_, _, ⟨K77, 0, (s4.2.2 : (List Int)), rfl, (Stp.refl _ _).wk rfl, f86, hn70, (by decide), (by simp), hq99⟩, fun a ha => (ha.more (ha.more (ha.more (ha.more (ha.more (ha.more (ha.more (ha.more (ha.more (ha.more (ha.more (ha.more (ha.more ha.nil rfl) rfl) rfl) rfl) rfl) rfl) rfl) rfl) rfl) rfl) rfl) rfl) rfl)⟩ ?_
           rintro k _ w105 ⟨K106, v82, s8, rfl, S107, f108, hn109, hj97, hJ97, h⟩
           rcases k with _ | k
           ·
            have hk110 := h; obtain ⟨o97, h⟩ := ex_eq (Sum.inr (Sum.inl s8) : (List Bool) ⊕ (((List Int)) ⊕ ((List Int))))
            have hc97 : decide (v82 < (x79.length : Int)) = false := decide_eq_false (by omega)
            refine WC.seq ?_
            refine WC.rs [(0, 2)] rfl ?_
            refine WO.pn 1 rfl ?_
            refine WO.fin ?_
            refine DN.seq ?_
            refine WC.seq ?_
            refine WC.cf' rfl hc97 ?_
            refine WC.exit ?_
            refine DN.exitThen ?_
            refine DN.exitThen ?_
            obtain rfl := Option.some.inj h
            have h := hk110
            refine DN.hit ?_
            obtain rfl := Option.some.inj h
            exact DN.meet _ ⟨K106, (s8 : (List Int)), rfl, S107.wk rfl, f108, hn109, rfl⟩ fun a ha => (ha.more (ha.more (ha.more (ha.more (ha.more (ha.more (ha.more (ha.more (ha.more (ha.more ha.nil rfl) rfl) rfl) rfl) rfl) rfl) rfl) rfl) rfl) rfl)
           ·
            obtain ⟨o97, h, hk110⟩ := Option.bind_eq_some_iff.mp h; unfold i_solver_pull_b4 at h
            have hc97 : decide (v82 < (x79.length : Int)) = true := decide_eq_true (by omega)
            refine WC.seq ?_
            refine WC.rs [(0, 2)] rfl ?_
            refine WO.pn 1 rfl ?_
            refine WO.fin ?_
            refine DN.seq ?_
            refine WC.seq ?_
            refine WC.ct' rfl hc97 ?_
            refine WC.skip ?_
            refine DN.seq ?_
            refine WC.seq ?_
            refine WC.block ?_
            refine WC.seq ?_
            refine WC.rs [(0, 2), (1, 1), (2, 2)] rfl ?_
            obtain ⟨x84, hx84, h⟩ := Option.bind_eq_some_iff.mp h
            refine WO.k2 rfl rfl rfl rfl (rn_index f95 hx84 Try.runUnderlying22 Try.sizeOf2 rfl rfl rfl rfl) ?_
            have f111 := f95.stp S107 rfl rfl
            refine WO.k1 trivial rfl rfl rfl rfl (rn_ld Try.isAgg2 rfl rfl (hvE (f111.gInt hx84))) ?_
            refine WO.pn 1 rfl ?_
            refine WO.fin ?_
            refine DN.seq ?_
            refine WC.seq ?_
            refine WC.rs [(0, 2), (1, 2), (2, 2), (3, 1)] rfl ?_
            refine WO.pn 2 rfl ?_
            obtain ⟨x88, hx88, h⟩ := Option.bind_eq_some_iff.mp h
            refine WO.k2 rfl rfl rfl rfl (rn_index g2 hx88 Try.runUnderlying118 Try.sizeOf4 rfl rfl rfl rfl) ?_
            have f112 := g2.stp (S3.tr (S8.tr (S12.tr (S20.tr (S37.tr (S65.tr (S78.tr S107))))))) rfl rfl
            refine WO.k1 trivial rfl rfl rfl rfl (rn_ld Try.isAgg4 rfl rfl (hvE (f112.gBool hx88))) ?_
            refine WO.fin ?_
            refine DN.seq ?_
            obtain ⟨q11, h, hK113⟩ := Option.bind_eq_some_iff.mp h
            refine WC.meet (fun L w' => ∃ (κ' : Col), L = [(0, .pointer (some ⟨b0, 0, none⟩)), (1, .int .i64 p1), (2, .slice a2 p2.length u2), (9, .slice a19 x19.length u19), (10, .slice a22 x22.length u22), (11, .slice las4_0 s4.1.length lus4_0), (14, .int .i64 x43), (39, .slice ax38 x38.length ux38), (40, .int .i64 (x38.length : Int)), (41, .int .i64 v41), (80, .slice ax79 x79.length ux79), (81, .int .i64 (x79.length : Int)), (82, .int .i64 v82)] ∧ Stp [3] K106 w105 κ' w' ∧ Oc (Ep.int .i64) 3 κ' w' 3 a22 u22 q11 ∧ x22.length = q11.length) ?_ ?_
            ·
             revert h
             cases ht119 : x88 with
             | true =>
              intro h; replace h := cT h
              refine WC.ct rfl ?_
              refine WC.rs [(0, 2), (1, 2), (2, 2), (3, 1), (4, 2), (5, 2), (6, 1)] rfl ?_
              refine WO.pn 2 rfl ?_
              obtain ⟨x92, hx92, h⟩ := Option.bind_eq_some_iff.mp h
              refine WO.k2 rfl rfl rfl rfl (rn_index f108.rdc hx92 Try.runUnderlying194 Try.sizeOf3 rfl rfl hn109 rfl) ?_
              refine WO.k1 trivial rfl rfl rfl rfl (rn_ld Try.isAgg3 rfl rfl (hvE (f108.rdc.gInt hx92))) ?_
              refine WO.pn 1 rfl ?_
              obtain ⟨x95, hx95, h⟩ := Option.bind_eq_some_iff.mp h
              refine WO.k2 rfl rfl rfl rfl (rn_index f108.rdc hx95 Try.runUnderlying194 Try.sizeOf3 rfl rfl hn109 rfl) ?_
              obtain ⟨y57, hy57, h⟩ := Option.bind_eq_some_iff.mp h
              refine WO.stI (κ := K106) (E := (Ep.int .i64)) 3 [] rfl rfl rfl rfl rfl rfl rfl rfl Try.sizeOf3 rfl rfl rfl rfl f108 hy57 fun w120 K121 S122 f123 => ⟨trivial, ?_⟩
              have hn124 : x22.length = y57.length := hn109.trans (setI_ok hy57).2.2.2.symm
              refine WO.fin ?_
              obtain rfl := Option.some.inj h
              exact DN.meet _ ⟨K121, rfl, S122.wk rfl, f123, hn124⟩ fun a ha => (ha.more (ha.more (ha.more (ha.more (ha.more (ha.more (ha.more (ha.more (ha.more (ha.more (ha.more (ha.more (ha.more ha.nil rfl) rfl) rfl) rfl) rfl) rfl) rfl) rfl) rfl) rfl) rfl) rfl) rfl)
             | false =>
              intro h; replace h := cF h
              refine WC.cf rfl ?_
              refine WC.skip ?_
              obtain rfl := Option.some.inj h
              exact DN.meet _ ⟨K106, rfl, (Stp.refl _ _).wk rfl, f108, hn109⟩ fun a ha => (ha.more (ha.more (ha.more (ha.more (ha.more (ha.more (ha.more (ha.more (ha.more (ha.more (ha.more (ha.more (ha.more ha.nil rfl) rfl) rfl) rfl) rfl) rfl) rfl) rfl) rfl) rfl) rfl) rfl) rfl)
            rintro _ w114 ⟨K115, rfl, S116, f117, hn118⟩
            have h := hK113
            refine DN.block ?_
            refine DN.seq ?_
            refine WC.rs [(0, 2), (1, 2)] rfl ?_
            refine WO.pn 2 rfl ?_
            refine WO.fin ?_
            have hw97 : IntKind.wrap .i64 (v82 + 1) = v82 + 1 := wr1 hj97 (of_decide_eq_true hc97) hN97
            rw [hw97]
            have hc97 := of_decide_eq_true hc97
            obtain rfl := Option.some.inj h
            refine DN.round fun a ha => ?_
            exact ⟨k, _, Nat.lt_succ_self _, ⟨K115, v82 + 1, (q11 : (List Int)), rfl, (S107.tr S116).wk rfl, f117, hn118, by omega, by omega, hk110⟩, (ha.more (ha.more (ha.more (ha.more (ha.more (ha.more (ha.more (ha.more (ha.more (ha.more (ha.more (ha.more (ha.more ha.nil rfl) rfl) rfl) rfl) rfl) rfl) rfl) rfl) rfl) rfl) rfl) rfl) rfl)⟩
          rintro _ w100 ⟨K101, s10, rfl, S102, f103, hn104, rfl⟩
          have h := hK98
          dsimp only [aft] at h
          obtain rfl := Option.some.inj h
          exact DN.meet _ ⟨K101, rfl, S102.wk rfl, f103, hn104⟩ fun a ha => (ha.more (ha.more (ha.more (ha.more (ha.more (ha.more (ha.more (ha.more (ha.more (ha.more ha.nil rfl) rfl) rfl) rfl) rfl) rfl) rfl) rfl) rfl) rfl)
         | false =>
          intro h; replace h := cF h
          refine WC.cf rfl ?_
          refine WC.skip ?_
          obtain rfl := Option.some.inj h
          exact DN.meet _ ⟨K77, rfl, (Stp.refl _ _).wk rfl, f86, hn70⟩ fun a ha => (ha.more (ha.more (ha.more (ha.more (ha.more (ha.more (ha.more (ha.more (ha.more (ha.more ha.nil rfl) rfl) rfl) rfl) rfl) rfl) rfl) rfl) rfl) rfl)
        rintro _ w88 ⟨K89, rfl, S90, f91, hn92⟩
        have h := hK87
        refine DN.seq ?_
        refine WC.seq ?_
        refine WC.rs [(0, 2), (1, 2), (2, 2), (3, 1), (4, 2), (5, 2), (6, 1)] rfl ?_
        refine WO.pn 2 rfl ?_
        obtain ⟨x99, hx99, h⟩ := Option.bind_eq_some_iff.mp h
        refine WO.k2 rfl rfl rfl rfl (rn_index f91.rdc hx99 Try.runUnderlying194 Try.sizeOf3 rfl rfl hn92 rfl) ?_
        refine WO.k1 trivial rfl rfl rfl rfl (rn_ld Try.isAgg3 rfl rfl (hvE (f91.rdc.gInt hx99))) ?_
        refine WO.pn 1 rfl ?_
        obtain ⟨x102, hx102, h⟩ := Option.bind_eq_some_iff.mp h
        refine WO.k2 rfl rfl rfl rfl (rn_index f91.rdc hx102 Try.runUnderlying194 Try.sizeOf3 rfl rfl hn92 rfl) ?_
        obtain ⟨y58, hy58, h⟩ := Option.bind_eq_some_iff.mp h
        refine WO.stI (κ := K89) (E := (Ep.int .i64)) 3 [] rfl rfl rfl rfl rfl rfl rfl rfl Try.sizeOf3 rfl rfl rfl rfl f91 hy58 fun w125 K126 S127 f128 => ⟨trivial, ?_⟩
        have hn129 : x22.length = y58.length := hn92.trans (setI_ok hy58).2.2.2.symm
        refine WO.fin ?_
        refine DN.seq ?_
        refine WC.seq ?_
        refine WC.rs [(0, 2), (1, 2), (2, 2), (3, 1), (4, 2)] rfl ?_
        refine WO.pn 2 rfl ?_
        obtain ⟨x105, hx105, h⟩ := Option.bind_eq_some_iff.mp h
        refine WO.k2 rfl rfl rfl rfl (rn_index f128.rdc hx105 Try.runUnderlying194 Try.sizeOf3 rfl rfl hn129 rfl) ?_
        refine WO.k1 trivial rfl rfl rfl rfl (rn_ld Try.isAgg3 rfl rfl (hvE (f128.rdc.gInt hx105))) ?_
        refine WO.pn 1 rfl ?_
        refine WO.fin ?_
        refine DN.seq ?_
        revert h
        cases ht130 : decide (0 < x105) with
        | true =>
         intro h; replace h := cT h
         refine WC.ct rfl ?_
         refine WC.exit ?_
         refine DN.exitThen ?_
         refine DN.hit ?_
         refine DN.seq ?_
         refine WC.rs [(0, 2), (1, 2)] rfl ?_
         refine WO.pn 2 rfl ?_
         refine WO.fin ?_
         have hw52 : IntKind.wrap .i64 (v41 + 1) = v41 + 1 := wr1 hj52 (of_decide_eq_true hc52) hN52
         rw [hw52]
         have hc52 := of_decide_eq_true hc52
         have f131 := f66.stp (S78.tr (S90.tr S127)) rfl rfl
         have f132 := f67.stp (S78.tr (S90.tr S127)) rfl rfl
         obtain rfl := Option.some.inj h
         refine DN.round fun a ha => ?_
         exact ⟨k, _, Nat.lt_succ_self _, ⟨K126, v41 + 1, ((s4.1 : (List Int)), (s4.2.1 : (List Bool)), (y58 : (List Int))), las4_0, lus4_0, rfl, (S65.tr (S78.tr (S90.tr S127))).wk rfl, f131, f132, hn68, f128, hn129, by omega, by omega, hk71⟩, (ha.more (ha.more (ha.more (ha.more (ha.more (ha.more (ha.more (ha.more (ha.more ha.nil rfl) rfl) rfl) rfl) rfl) rfl) rfl) rfl) rfl)⟩
        | false =>
         intro h; replace h := cF h
         refine WC.cf rfl ?_
         refine WC.skip ?_
         refine DN.seq ?_
         refine WC.seq ?_
         refine WC.rs [(0, 2), (1, 2), (2, 2), (3, 1)] rfl ?_
         refine WO.pn 2 rfl ?_
         obtain ⟨x110, hx110, h⟩ := Option.bind_eq_some_iff.mp h
         refine WO.k2 rfl rfl rfl rfl (rn_index f67.rdc hx110 Try.runUnderlying118 Try.sizeOf4 rfl rfl hn68 rfl) ?_
         have f133 := f67.stp (S78.tr (S90.tr S127)) rfl rfl
         obtain ⟨y59, hy59, h⟩ := Option.bind_eq_some_iff.mp h
         refine WO.stI (κ := K126) (E := Ep.bool) 2 [] rfl rfl rfl rfl rfl rfl rfl rfl Try.sizeOf4 rfl rfl rfl rfl f133 hy59 fun w134 K135 S136 f137 => ⟨trivial, ?_⟩
         have hn138 : x19.length = y59.length := hn68.trans (setI_ok hy59).2.2.2.symm
         refine WO.fin ?_
         refine DN.seq ?_
         refine WC.rs [(0, 2), (1, 2), (2, 1), (3, 1), (4, 2)] rfl ?_
         refine WO.pn 2 rfl ?_
         refine WO.bl (κ := K135) (E := (Ep.int .i64)) 7 [] (parts := [(0, .tmp 112)]) (cells := [.int .i64 x43]) (xs := ([x43] : List Int)) rfl rfl rfl rfl rfl rfl Try.underlying22 Tryinfo2 rfl rfl rfl rfl rfl rfl rfl rfl rfl rfl ⟨[.int .i64 x43], [], Zl K135 w134 [], Zl K135 w134 [], rfl, Zl.sp (l1 := []) (l2 := []) rfl, Zl.sr (l1 := []) (l2 := []), rfl, rfl⟩ fun a113 u113 w139 K140 S141 f142 => ⟨trivial, ?_⟩
         obtain ⟨x114, hx114, h⟩ := Option.bind_eq_some_iff.mp h
         have f143 := f66.stp (S78.tr (S90.tr (S127.tr (S136.tr S141)))) rfl rfl
         refine WO.app (κ := K140) (E := (Ep.int .i64)) 6 [] rfl rfl rfl rfl rfl rfl rfl rfl rfl Try.underlying22 Tryinfo2 rfl rfl rfl rfl f143 (Sl.srcP (pu_int _) f142.rdc) sy_false hx114 rfl fun a114 u114 w144 K145 S146 f147 => ⟨trivial, ?_⟩
         refine WO.pn 1 rfl ?_
         refine WO.fin ?_
         refine DN.block ?_
         refine DN.seq ?_
         refine WC.rs [(0, 2), (1, 2)] rfl ?_
         refine WO.pn 2 rfl ?_
         refine WO.fin ?_
         have hw52 : IntKind.wrap .i64 (v41 + 1) = v41 + 1 := wr1 hj52 (of_decide_eq_true hc52) hN52
         rw [hw52]
         have hc52 := of_decide_eq_true hc52
         have f148 := f137.stp (S141.tr S146) rfl rfl
         have f149 := f128.stp (S136.tr (S141.tr S146)) rfl rfl
         obtain rfl := Option.some.inj h
         refine DN.round fun a ha => ?_
         exact ⟨k, _, Nat.lt_succ_self _, ⟨K145, v41 + 1, ((x114 : (List Int)), (y59 : (List Bool)), (y58 : (List Int))), a114, u114, rfl, (S65.tr (S78.tr (S90.tr (S127.tr (S136.tr (S141.tr S146)))))).wk rfl, f147, f148, hn138, f149, hn129, by omega, by omega, hk71⟩, (ha.more (ha.more (ha.more (ha.more (ha.more (ha.more (ha.more (ha.more (ha.more ha.nil rfl) rfl) rfl) rfl) rfl) rfl) rfl) rfl) rfl)⟩
       | false =>
        intro h; replace h := cF h
        refine WC.cf rfl ?_
        refine WC.skip ?_
        refine DN.seq ?_
        refine WC.seq ?_
        refine WC.rs [(0, 2), (1, 2), (2, 2), (3, 1)] rfl ?_
        refine WO.pn 2 rfl ?_
        obtain ⟨x110, hx110, h⟩ := Option.bind_eq_some_iff.mp h
        refine WO.k2 rfl rfl rfl rfl (rn_index f67.rdc hx110 Try.runUnderlying118 Try.sizeOf4 rfl rfl hn68 rfl) ?_
        have f150 := f67.stp S78 rfl rfl
        obtain ⟨y59, hy59, h⟩ := Option.bind_eq_some_iff.mp h
        refine WO.stI (κ := K77) (E := Ep.bool) 2 [] rfl rfl rfl rfl rfl rfl rfl rfl Try.sizeOf4 rfl rfl rfl rfl f150 hy59 fun w151 K152 S153 f154 => ⟨trivial, ?_⟩
        have hn155 : x19.length = y59.length := hn68.trans (setI_ok hy59).2.2.2.symm
        refine WO.fin ?_
        refine DN.seq ?_
        refine WC.rs [(0, 2), (1, 2), (2, 1), (3, 1), (4, 2)] rfl ?_
        refine WO.pn 2 rfl ?_
        refine WO.bl (κ := K152) (E := (Ep.int .i64)) 7 [] (parts := [(0, .tmp 112)]) (cells := [.int .i64 x43]) (xs := ([x43] : List Int)) rfl rfl rfl rfl rfl rfl Try.underlying22 Tryinfo2 rfl rfl rfl rfl rfl rfl rfl rfl rfl rfl ⟨[.int .i64 x43], [], Zl K152 w151 [], Zl K152 w151 [], rfl, Zl.sp (l1 := []) (l2 := []) rfl, Zl.sr (l1 := []) (l2 := []), rfl, rfl⟩ fun a113 u113 w156 K157 S158 f159 => ⟨trivial, ?_⟩
        obtain ⟨x114, hx114, h⟩ := Option.bind_eq_some_iff.mp h
        have f160 := f66.stp (S78.tr (S153.tr S158)) rfl rfl
        refine WO.app (κ := K157) (E := (Ep.int .i64)) 6 [] rfl rfl rfl rfl rfl rfl rfl rfl rfl Try.underlying22 Tryinfo2 rfl rfl rfl rfl f160 (Sl.srcP (pu_int _) f159.rdc) sy_false hx114 rfl fun a114 u114 w161 K162 S163 f164 => ⟨trivial, ?_⟩
        refine WO.pn 1 rfl ?_
        refine WO.fin ?_
        refine DN.block ?_
        refine DN.seq ?_
        refine WC.rs [(0, 2), (1, 2)] rfl ?_
        refine WO.pn 2 rfl ?_
        refine WO.fin ?_
        have hw52 : IntKind.wrap .i64 (v41 + 1) = v41 + 1 := wr1 hj52 (of_decide_eq_true hc52) hN52
        rw [hw52]
        have hc52 := of_decide_eq_true hc52
        have f165 := f154.stp (S158.tr S163) rfl rfl
        have f166 := f69.stp (S78.tr (S153.tr (S158.tr S163))) rfl rfl
        obtain rfl := Option.some.inj h
        refine DN.round fun a ha => ?_
        exact ⟨k, _, Nat.lt_succ_self _, ⟨K162, v41 + 1, ((x114 : (List Int)), (y59 : (List Bool)), (s4.2.2 : (List Int))), a114, u114, rfl, (S65.tr (S78.tr (S153.tr (S158.tr S163)))).wk rfl, f164, f165, hn155, f166, hn70, by omega, by omega, hk71⟩, (ha.more (ha.more (ha.more (ha.more (ha.more (ha.more (ha.more (ha.more (ha.more ha.nil rfl) rfl) rfl) rfl) rfl) rfl) rfl) rfl) rfl)⟩
    rintro _ w55 ⟨K56, s6, las6_0, lus6_0, rfl, S57, f58, f59, hn60, f61, hn62, rfl⟩
    have h := hK53
    dsimp only [aft] at h
    refine DN.block ?_
    obtain rfl := Option.some.inj h
    refine DN.round fun a ha => ?_
    exact ⟨k, _, Nat.lt_succ_self _, ⟨K56, ((s6.1 : (List Int)), (s6.2.1 : (List Bool)), (s6.2.2 : (List Int))), las6_0, lus6_0, rfl, (S37.tr S57).wk rfl, f58, f59, hn60, f61, hn62, hk45⟩, (ha.more (ha.more (ha.more (ha.more (ha.more (ha.more ha.nil rfl) rfl) rfl) rfl) rfl) rfl)⟩
   | false =>
    intro h; replace h := cF h
    refine WC.cf rfl ?_
    refine WC.exit ?_
    refine DN.exitThen ?_
    refine DN.exitThen ?_
    obtain rfl := Option.some.inj h
    have h := hk45
    refine DN.hit ?_
    obtain rfl := Option.some.inj h
    exact DN.meet _ ⟨K36, ((s1.1 : (List Int)), (s1.2.1 : (List Bool)), (s1.2.2 : (List Int))), las1_0, lus1_0, rfl, S37.wk rfl, f38, f39, hn40, f41, hn42, rfl⟩ fun a ha => (ha.more (ha.more ha.nil rfl) rfl)
 rintro _ w27 ⟨K28, s3, las3_0, lus3_0, rfl, S29, f30, f31, hn32, f33, hn34, rfl⟩
 have h := hK25
 dsimp only [aft] at h
 refine DN.seq ?_
 refine WC.seq ?_
 refine WC.rs [(0, 2), (1, 2)] rfl ?_
 refine WO.pn 2 rfl ?_
 refine WO.fin ?_
 refine DN.seq ?_
 refine WC.ret ?_
 have f167 := hE.stp (S3.tr (S8.tr (S12.tr (S20.tr S29)))) rfl rfl
 refine DN.res (l := [.tmp 8]) Try.results154 (res_tmp rfl rfl) rfl ?_
 obtain rfl := Option.some.inj h
 exact ⟨K28, a19, u19, (by simp only [hn32]), f167, f31⟩

/- loop.example/g00869/impl.copyArena -/
theorem i_copyArena_ok {w : World} {κ : Col} {a0_0 : Option Addr} {u0_0 : Nat} {a0_1 : Option Addr} {u0_1 : Nat} {p0 : Arena} (g0_0 : Rd (Rp.int .i64) κ w 0 a0_0 u0_0 p0.Owner) (g0_1 : Rd (Rp.sl (Rp.int .i64)) κ w 0 a0_1 u0_1 p0.Next) {r : Arena} (h : i_copyArena p0 = some r) : Ret Try.prog 129 [.agg #[.slice a0_0 p0.Owner.length u0_0, .slice a0_1 p0.Next.length u0_1]] w (fun v w' => ∃ (κ' : Col) (ra0 : Option Addr) (ru0 : Nat) (ra1 : Option Addr) (ru1 : Nat), v = .agg #[.slice ra0 r.Owner.length ru0, .slice ra1 r.Next.length ru1] ∧ Ent κ w κ' w' ∧ Oc (Ep.int .i64) 2 κ' w' 2 ra0 ru0 r.Owner ∧ Oc (Ep.own (Ep.int .i64) 2) 22 κ' w' 3 ra1 ru1 r.Next) := by
 unfold i_copyArena at h
 refine Ret.enter Try.func129 rfl Try.ntmps129 rfl ?_
 dsimp only [envOf]
 have hE := Ent.refl κ w
 refine WC.seq ?_
 refine WC.rs [(0, 1), (1, 1)] rfl ?_
 refine WO.box (κ := κ) 2 rfl rfl rfl rfl rfl rfl rfl fun b1 w1 K2 S3 f4 => ⟨trivial, ?_⟩
 refine WO.alloc (κ := K2) 3 rfl rfl rfl rfl rfl Try.zeroValue32 rfl fun b2 w5 K6 S7 f8 => ⟨trivial, ?_⟩
 refine WO.fin ?_
 refine DN.seq ?_
 refine WC.seq ?_
 refine WC.rx (κ := K6) [2] none [(1, 2), (4, 2), (2, 0), (5, 0), (0, 1), (3, 1), (6, 1), (7, 2), (8, 1)] [] (by kernel_rfl) (by kernel_rfl) fun w10 S9 => ?_
 refine WO.k2 rfl rfl rfl rfl (rn_fieldAddr Try.runUnderlying32 rfl Try.sizeOf22 rfl rfl) ?_
 refine WO.k2 rfl rfl rfl rfl (rn_fieldAddr Try.runUnderlying32 rfl Try.sizeOf23 rfl rfl) ?_
 have f11 := f4.stp (S7.tr S9) rfl rfl
 refine WO.k0 rfl rfl rfl rfl (rn_ld Try.isAgg22 rfl rfl (hvC (f11.ld 0 rfl rfl) rfl)) ?_
 refine WO.k0 rfl rfl rfl rfl (rn_ld Try.isAgg23 rfl rfl (hvC (f11.ld 1 rfl rfl) rfl)) ?_
 refine WO.bl0 (κ := K6) (E := (Ep.int .i64)) 4 rfl rfl rfl rfl rfl Try.underlying22 Tryinfo2 rfl fun a3 u3 w12 K13 S14 f15 => ⟨(S14.cl rfl), ?_⟩
 obtain ⟨x6, hx6, h⟩ := Option.bind_eq_some_iff.mp h
 have f16 := g0_0.stp (S3.tr (S7.tr (S9.tr S14))) rfl rfl
 refine WO.app (κ := K13) (E := (Ep.int .i64)) 4 [] rfl rfl rfl rfl rfl rfl rfl rfl rfl Try.underlying22 Tryinfo2 rfl rfl rfl rfl f15 (Sl.srcP (pu_int _) f16) sy_false hx6 rfl fun a6 u6 w17 K18 S19 f20 => ⟨((S14.tr S19).cl rfl), ?_⟩
 obtain ⟨x9, hx9, h⟩ := Option.bind_eq_some_iff.mp h
 have f21 := g0_1.stp (S3.tr (S7.tr (S9.tr (S14.tr S19)))) rfl rfl
 refine WO.call rfl rfl rfl rfl rfl rfl Try.call156 (i_copyLists_ok (κ := fun b => mp [] 0 (K18 b)) (Sl.map f21 (mp [] 0) rfl rfl) hx9) ?_
 rintro _ w22 ⟨k23, a9_0, u9_0, rfl, e24, f25⟩
 obtain ⟨K26, S27, m28⟩ := Ent.mixed (l := []) (κ := K18) e24 5 rfl
 refine ⟨((S14.tr (S19.tr S27)).cl rfl), ?_⟩
 have f30 := f25.mx (no_own (no_int _) _) m28 rfl (rfl : 5 + 2 = 7)
 refine WO.k2 rfl rfl rfl rfl (rn_build (parts := [(0, .tmp 6), (1, .tmp 9)]) (cells := [.slice a6 x6.length u6, .slice a9_0 x9.length u9_0]) rfl rfl (by kernel_rfl)) ?_
 have f31 := f8.stp (S9.tr (S14.tr (S19.tr S27))) rfl rfl
 refine WO.stB0 (κ := K26) 3 (vc := [.slice a6 x6.length u6, .slice a9_0 x9.length u9_0]) rfl rfl rfl rfl rfl rfl rfl Try.sizeOf32 rfl rfl f31 rfl fun w32 S33 f34 => ⟨((S14.tr (S19.tr (S27.tr S33))).cl rfl), ?_⟩
 refine WO.nx ?_
 refine WO.fin ?_
 refine DN.seq ?_
 refine WC.ret ?_
 have f35 := hE.stp (S3.tr (S7.tr (S9.tr (S14.tr (S19.tr (S27.tr S33)))))) rfl rfl
 have f36 := f20.stp (S27.tr S33) rfl rfl
 have f37 := f30.stp S33 rfl rfl
 refine DN.res (l := [.cell 2 32]) Try.results129 (res_cellA rfl f34 Try.isAgg32 Try.sizeOf32 rfl rfl) rfl ?_
 obtain rfl := Option.some.inj h
 exact ⟨(fun b => ren [(4, 2), (7, 3)] (K26 b)), a6, u6, a9_0, u9_0, rfl, (f35.map (ren [(4, 2), (7, 3)]) rfl rfl), (f36.map (ren [(4, 2), (7, 3)]) rfl rfl), (f37.map (ren [(4, 2), (7, 3)]) rfl rfl)⟩

/- cmp.Less[int64] -/
theorem cmp_Less_int64_ok {w : World} {κ : Col} {p0 : Int} {p1 : Int}  {r : Bool} (h : cmp_Less_int64 p0 p1 = some r) : Ret Try.prog 159 [.int .i64 p0, .int .i64 p1] w (fun v w' => ∃ (κ' : Col), v = .bool r ∧ Ent κ w κ' w') := by
 unfold cmp_Less_int64 at h
 refine Ret.enter Try.func159 rfl Try.ntmps159 rfl ?_
 dsimp only [envOf]
 have hE := Ent.refl κ w
 refine WC.seq ?_
 refine WC.rs [(0, 2)] rfl ?_
 refine WO.pn 1 rfl ?_
 refine WO.fin ?_
 refine DN.seq ?_
 refine WC.seq ?_
 refine WC.rs [(0, 2), (1, 1), (2, 2), (3, 2), (4, 1), (5, 2), (6, 2), (7, 2), (8, 2), (9, 2), (10, 2), (11, 2), (12, 2)] rfl ?_
 refine WO.pn 1 rfl ?_
 obtain ⟨x6, hx6, h⟩ := Option.bind_eq_some_iff.mp h
 refine WO.call rfl rfl rfl rfl rfl rfl Try.call180 (cmp_isNaN_int64_ok (κ := fun b => mp [] 0 (κ b)) hx6) ?_
 rintro _ w1 ⟨k2, rfl, e3⟩
 obtain ⟨K4, S5, m6⟩ := Ent.mixed (l := []) (κ := κ) e3 2 rfl
 refine ⟨trivial, ?_⟩
 refine WO.pn 1 rfl ?_
 obtain ⟨p11, h, hK8⟩ := Option.bind_eq_some_iff.mp h
 refine WO.meet [(3, 2), (4, 1), (5, 2), (6, 2)] [(7, 2), (8, 2), (9, 2), (10, 2), (11, 2), (12, 2)] (fun L w' => L = [(0, .int .i64 p0), (1, .int .i64 p1), (4, .bool false), (11, .bool p11)] ∧ ∃ κ', Stp [] K4 w1 κ' w') trivial ?_ ?_
 ·
  revert h
  cases ht9 : x6 with
  | true =>
   intro h; replace h := cT h
   refine WO.pn 1 rfl ?_
   obtain ⟨x9, hx9, h⟩ := Option.bind_eq_some_iff.mp h
   refine WO.call rfl rfl rfl rfl rfl rfl Try.call180 (cmp_isNaN_int64_ok (κ := fun b => mp [] 0 (K4 b)) hx9) ?_
   rintro _ w10 ⟨k11, rfl, e12⟩
   obtain ⟨K13, S14, m15⟩ := Ent.mixed (l := []) (κ := K4) e12 4 rfl
   refine ⟨trivial, ?_⟩
   refine WO.pn 2 rfl ?_
   obtain rfl := Option.some.inj h
   exact WO.met _ trivial ⟨rfl, _, S14.wk rfl⟩ fun a ha => (ha.more (ha.more (ha.more (ha.more ha.nil rfl) rfl) rfl) rfl)
  | false =>
   intro h; replace h := cF h
   refine WO.pn 1 rfl ?_
   refine WO.ls rfl rfl rfl rfl ?_
   refine WO.pn 2 rfl ?_
   obtain rfl := Option.some.inj h
   exact WO.met _ trivial ⟨rfl, _, (Stp.refl _ _).wk rfl⟩ fun a ha => (ha.more (ha.more (ha.more (ha.more ha.nil rfl) rfl) rfl) rfl)
 rintro _ w17 _ ⟨rfl, K18, S19⟩
 have h := hK8
 refine WO.pn 1 rfl ?_
 obtain ⟨p16, h, hK20⟩ := Option.bind_eq_some_iff.mp h
 refine WO.meet [(8, 2), (9, 2), (10, 2), (11, 2)] [(12, 2)] (fun L w' => L = [(4, .bool false), (16, .bool p16)] ∧ ∃ κ', Stp [] K18 w17 κ' w') trivial ?_ ?_
 ·
  revert h
  cases ht21 : p11 with
  | true =>
   intro h; replace h := cT h
   refine WO.pn 4 rfl ?_
   obtain rfl := Option.some.inj h
   exact WO.met _ trivial ⟨rfl, _, (Stp.refl _ _).wk rfl⟩ fun a ha => (ha.more (ha.more ha.nil rfl) rfl)
  | false =>
   intro h; replace h := cF h
   refine WO.pn 4 rfl ?_
   obtain rfl := Option.some.inj h
   exact WO.met _ trivial ⟨rfl, _, (Stp.refl _ _).wk rfl⟩ fun a ha => (ha.more (ha.more ha.nil rfl) rfl)
 rintro _ w22 _ ⟨rfl, K23, S24⟩
 have h := hK20
 refine WO.pn 1 rfl ?_
 refine WO.fin ?_
 refine DN.seq ?_
 refine WC.ret ?_
 have f25 := hE.stp (S5.tr (S19.tr S24)) rfl rfl
 refine DN.res (l := [.tmp 4]) Try.results159 (res_tmp rfl rfl) rfl ?_
 obtain rfl := Option.some.inj h
 exact ⟨K23, rfl, f25⟩

end Go.Proofs.Ytndiklipffipcaa
