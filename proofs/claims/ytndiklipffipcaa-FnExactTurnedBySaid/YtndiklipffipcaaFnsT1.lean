/- The walks, part 1. By program. -/
import Derived.Test.YtndiklipffipcaaSort
import Derived.Test.YtndiklipffipcaaShelf
import Derived.Test.YtndiklipffipcaaFnsTM
set_option linter.unusedVariables false
set_option linter.unusedSimpArgs false
namespace Go.Proofs.Ytndiklipffipcaa
open Go Go.Wk Go.Proofs
set_option maxRecDepth 100000
set_option maxHeartbeats 1000000

/- loop.example/g00869/laws.toInt64S -/
theorem l_toInt64S_ok {w : World} {κ : Col} {a0 : Option Addr} {u0 : Nat} {p0 : (List Int)} (g0 : Rd (Rp.int .i64) κ w 0 a0 u0 p0) {r : (List Int)} (h : l_toInt64S p0 = some r) : Ret Try.prog 22 [.slice a0 p0.length u0] w (fun v w' => ∃ (κ' : Col) (ra0 : Option Addr) (ru0 : Nat), v = .slice ra0 r.length ru0 ∧ Ent κ w κ' w' ∧ Oc (Ep.int .i64) 2 κ' w' 2 ra0 ru0 r) := by
 unfold l_toInt64S at h
 refine Ret.enter Try.func22 rfl Try.ntmps22 rfl ?_
 dsimp only [envOf]
 have hE := Ent.refl κ w
 refine WC.seq ?_
 refine WC.rs [(0, 2)] rfl ?_
 refine WO.pn 1 rfl ?_
 refine WO.fin ?_
 refine DN.seq ?_
 refine WC.seq ?_
 refine WC.rs [(0, 2), (1, 2), (2, 1), (3, 2)] rfl ?_
 refine WO.pn 1 rfl ?_
 refine WO.k2 rfl rfl rfl rfl (rn_len Try.runUnderlying22 rfl rfl) ?_
 obtain ⟨x7, hx7, h⟩ := Option.bind_eq_some_iff.mp h
 refine WO.mk (κ := κ) (E := (Ep.int .i64)) (z := (0 : Int)) 2 rfl rfl rfl rfl rfl rfl rfl Try.underlying22 Tryinfo2 rfl rfl rfl rfl rfl (fun _ _ _ => rfl) (mkS_C hx7) fun a7 u7 w1 K2 S3 f4 => ⟨trivial, ?_⟩
 refine WO.pn 1 rfl ?_
 refine WO.fin ?_
 refine DN.seq ?_
 refine WC.seq ?_
 refine WC.seq ?_
 refine WC.rs [(0, 2)] rfl ?_
 refine WO.pn 1 rfl ?_
 refine WO.fin ?_
 refine DN.seq ?_
 have hN5 : (p0.length : Int) ≤ 9223372036854775807 := g0.len_le
 obtain ⟨q2, hq7, hK6⟩ := Option.bind_eq_some_iff.mp h
 clear h
 refine WC.meet (fun L w' => ∃ (κ' : Col) (s3 : (List Int)), L = [(3, .slice a7 x7.length u7)] ∧ Stp [2] K2 w1 κ' w' ∧ Oc (Ep.int .i64) 2 κ' w' 2 a7 u7 s3 ∧ x7.length = s3.length ∧ q2 = Sum.inr s3) ?_ ?_
 ·
  refine WC.block ?_
  refine WC.loop (fun k L w' => ∃ (κ' : Col) (v4 : Int) (s1 : (List Int)), L = [(0, .slice a0 p0.length u0), (3, .slice a7 x7.length u7), (4, .int .i64 v4)] ∧ Stp [2] K2 w1 κ' w' ∧ Oc (Ep.int .i64) 2 κ' w' 2 a7 u7 s1 ∧ x7.length = s1.length ∧ 0 ≤ v4 ∧ Int.toNat ((p0.length : Int) - v4) = k ∧ cntM (l_toInt64S_b0 p0) k v4 s1 = some q2) ⟨_, _, ⟨K2, 0, (x7 : (List Int)), rfl, (Stp.refl _ _).wk rfl, f4, rfl, (by decide), (by simp), hq7⟩, fun a ha => (ha.more (ha.more (ha.more ha.nil rfl) rfl) rfl)⟩ ?_
  rintro k _ w13 ⟨K14, v4, s1, rfl, S15, f16, hn17, hj5, hJ5, h⟩
  rcases k with _ | k
  ·
   have hk18 := h; obtain ⟨o5, h⟩ := ex_eq (Sum.inr (Sum.inl s1) : (List Int) ⊕ (((List Int)) ⊕ ((List Int))))
   have hc5 : decide (v4 < (p0.length : Int)) = false := decide_eq_false (by omega)
   refine WC.seq ?_
   refine WC.seq ?_
   refine WC.rs [(0, 2), (1, 2), (2, 2), (3, 2)] rfl ?_
   refine WO.pn 2 rfl ?_
   refine WO.k2 rfl rfl rfl rfl (rn_len Try.runUnderlying22 rfl rfl) ?_
   refine WO.pn 1 rfl ?_
   refine WO.fin ?_
   refine DN.seq ?_
   refine WC.cf' rfl hc5 ?_
   refine WC.exit ?_
   refine DN.exitThen ?_
   refine DN.exitThen ?_
   obtain rfl := Option.some.inj h
   have h := hk18
   refine DN.hit ?_
   obtain rfl := Option.some.inj h
   exact DN.meet _ ⟨K14, (s1 : (List Int)), rfl, S15.wk rfl, f16, hn17, rfl⟩ fun a ha => (ha.more ha.nil rfl)
  ·
   obtain ⟨o5, h, hk18⟩ := Option.bind_eq_some_iff.mp h; unfold l_toInt64S_b0 at h
   have hc5 : decide (v4 < (p0.length : Int)) = true := decide_eq_true (by omega)
   refine WC.seq ?_
   refine WC.seq ?_
   refine WC.rs [(0, 2), (1, 2), (2, 2), (3, 2)] rfl ?_
   refine WO.pn 2 rfl ?_
   refine WO.k2 rfl rfl rfl rfl (rn_len Try.runUnderlying22 rfl rfl) ?_
   refine WO.pn 1 rfl ?_
   refine WO.fin ?_
   refine DN.seq ?_
   refine WC.ct' rfl hc5 ?_
   refine WC.skip ?_
   refine DN.seq ?_
   refine WC.seq ?_
   refine WC.block ?_
   refine WC.rs [(0, 2), (1, 2), (2, 2), (3, 2), (4, 2), (5, 1), (6, 2), (7, 1)] rfl ?_
   refine WO.pn 4 rfl ?_
   obtain ⟨x18, hx18, h⟩ := Option.bind_eq_some_iff.mp h
   refine WO.k2 rfl rfl rfl rfl (rn_index g0 hx18 Try.runUnderlying22 Try.sizeOf2 rfl rfl rfl rfl) ?_
   have f19 := g0.stp (S3.tr S15) rfl rfl
   refine WO.k1 trivial rfl rfl rfl rfl (rn_ld Try.isAgg2 rfl rfl (hvE (f19.gInt hx18))) ?_
   obtain ⟨x20, hx20, h⟩ := Option.bind_eq_some_iff.mp h
   refine WO.k2 rfl rfl rfl rfl (rn_index f16.rdc hx20 Try.runUnderlying22 Try.sizeOf2 rfl rfl hn17 rfl) ?_
   obtain ⟨y1, hy1, h⟩ := Option.bind_eq_some_iff.mp h
   refine WO.stI (κ := K14) (E := (Ep.int .i64)) 2 [] rfl rfl rfl rfl rfl rfl rfl rfl Try.sizeOf2 rfl rfl rfl rfl f16 hy1 fun w20 K21 S22 f23 => ⟨trivial, ?_⟩
   have hn24 : x7.length = y1.length := hn17.trans (setI_ok hy1).2.2.2.symm
   refine WO.fin ?_
   refine DN.block ?_
   refine DN.seq ?_
   refine WC.rs [(0, 2), (1, 2), (2, 2)] rfl ?_
   refine WO.pn 3 rfl ?_
   refine WO.fin ?_
   have hw5 : IntKind.wrap .i64 (v4 + 1) = v4 + 1 := wr1 hj5 (of_decide_eq_true hc5) hN5
   rw [hw5]
   have hc5 := of_decide_eq_true hc5
   obtain rfl := Option.some.inj h
   refine DN.round fun a ha => ?_
   exact ⟨k, _, Nat.lt_succ_self _, ⟨K21, v4 + 1, (y1 : (List Int)), rfl, (S15.tr S22).wk rfl, f23, hn24, by omega, by omega, hk18⟩, (ha.more (ha.more (ha.more ha.nil rfl) rfl) rfl)⟩
 rintro _ w8 ⟨K9, s3, rfl, S10, f11, hn12, rfl⟩
 have h := hK6
 dsimp only [aft] at h
 refine DN.seq ?_
 refine WC.seq ?_
 refine WC.rs [(0, 2), (1, 2)] rfl ?_
 refine WO.pn 2 rfl ?_
 refine WO.fin ?_
 refine DN.seq ?_
 refine WC.ret ?_
 have f25 := hE.stp (S3.tr S10) rfl rfl
 refine DN.res (l := [.tmp 2]) Try.results22 (res_tmp rfl rfl) rfl ?_
 obtain rfl := Option.some.inj h
 exact ⟨K9, a7, u7, (by simp only [hn12]), f25, f11⟩

/- loop.example/g00869/spec.l1In -/
theorem s_l1In_ok {w : World} {κ : Col} {p0 : Int} {p1 : Int} {p2 : Int}  {r : Bool} (h : s_l1In p0 p1 p2 = some r) : Ret Try.prog 75 [.int .i64 p0, .int .i64 p1, .int .i64 p2] w (fun v w' => ∃ (κ' : Col), v = .bool r ∧ Ent κ w κ' w') := by
 unfold s_l1In at h
 refine Ret.enter Try.func75 rfl Try.ntmps75 rfl ?_
 dsimp only [envOf]
 have hE := Ent.refl κ w
 refine WC.seq ?_
 refine WC.rs [(0, 2)] rfl ?_
 refine WO.pn 1 rfl ?_
 refine WO.fin ?_
 refine DN.seq ?_
 refine WC.seq ?_
 refine WC.rs [(0, 2), (1, 2), (2, 2), (3, 2), (4, 2), (5, 2), (6, 2), (7, 2), (8, 2)] rfl ?_
 refine WO.pn 4 rfl ?_
 obtain ⟨p14, h, hK1⟩ := Option.bind_eq_some_iff.mp h
 refine WO.meet [(4, 2), (5, 2), (6, 2), (7, 2)] [(8, 2)] (fun L w' => L = [(6, .bool false), (14, .bool p14)] ∧ ∃ κ', Stp [] κ w κ' w') trivial ?_ ?_
 ·
  revert h
  cases ht2 : decide (p1 ≤ p0) with
  | true =>
   intro h; replace h := cT h
   refine WO.pn 4 rfl ?_
   obtain rfl := Option.some.inj h
   exact WO.met _ trivial ⟨rfl, _, (Stp.refl _ _).wk rfl⟩ fun a ha => (ha.more (ha.more ha.nil rfl) rfl)
  | false =>
   intro h; replace h := cF h
   refine WO.pn 4 rfl ?_
   obtain rfl := Option.some.inj h
   exact WO.met _ trivial ⟨rfl, _, (Stp.refl _ _).wk rfl⟩ fun a ha => (ha.more (ha.more ha.nil rfl) rfl)
 rintro _ w3 _ ⟨rfl, K4, S5⟩
 have h := hK1
 refine WO.pn 1 rfl ?_
 refine WO.fin ?_
 refine DN.seq ?_
 refine WC.ret ?_
 have f6 := hE.stp S5 rfl rfl
 refine DN.res (l := [.tmp 6]) Try.results75 (res_tmp rfl rfl) rfl ?_
 obtain rfl := Option.some.inj h
 exact ⟨K4, rfl, f6⟩

/- loop.example/g00869/spec.l7All -/
theorem s_l7All_ok {w : World} {κ : Col} {p0 : Int}  {r : (List Bool)} (h : s_l7All p0 = some r) : Ret Try.prog 79 [.int .i64 p0] w (fun v w' => ∃ (κ' : Col) (ra0 : Option Addr) (ru0 : Nat), v = .slice ra0 r.length ru0 ∧ Ent κ w κ' w' ∧ Oc Ep.bool 4 κ' w' 2 ra0 ru0 r) := by
 unfold s_l7All at h
 refine Ret.enter Try.func79 rfl Try.ntmps79 rfl ?_
 dsimp only [envOf]
 have hE := Ent.refl κ w
 refine WC.seq ?_
 refine WC.rs [(0, 2)] rfl ?_
 refine WO.pn 1 rfl ?_
 refine WO.fin ?_
 refine DN.seq ?_
 refine WC.seq ?_
 refine WC.rs [(0, 2), (1, 1), (2, 2)] rfl ?_
 refine WO.pn 1 rfl ?_
 obtain ⟨x6, hx6, h⟩ := Option.bind_eq_some_iff.mp h
 refine WO.mk (κ := κ) (E := Ep.bool) (z := (false : Bool)) 2 rfl rfl rfl rfl rfl rfl rfl Try.underlying118 Tryinfo4 rfl rfl rfl rfl rfl (fun _ _ _ => rfl) (mkS_C hx6) fun a6 u6 w1 K2 S3 f4 => ⟨trivial, ?_⟩
 refine WO.pn 1 rfl ?_
 refine WO.fin ?_
 refine DN.seq ?_
 refine WC.seq ?_
 refine WC.seq ?_
 refine WC.rs [(0, 2)] rfl ?_
 refine WO.pn 1 rfl ?_
 refine WO.fin ?_
 refine DN.seq ?_
 obtain ⟨_, hr5, h⟩ := Option.bind_eq_some_iff.mp h
 have hN5 := rng_ok hr5
 obtain ⟨q2, hq7, hK6⟩ := Option.bind_eq_some_iff.mp h
 clear h
 refine WC.meet (fun L w' => ∃ (κ' : Col) (s3 : (List Bool)), L = [(3, .slice a6 x6.length u6)] ∧ Stp [2] K2 w1 κ' w' ∧ Oc Ep.bool 4 κ' w' 2 a6 u6 s3 ∧ x6.length = s3.length ∧ q2 = Sum.inr s3) ?_ ?_
 ·
  refine WC.block ?_
  refine WC.loop (fun k L w' => ∃ (κ' : Col) (v4 : Int) (s1 : (List Bool)), L = [(0, .int .i64 p0), (3, .slice a6 x6.length u6), (4, .int .i64 v4)] ∧ Stp [2] K2 w1 κ' w' ∧ Oc Ep.bool 4 κ' w' 2 a6 u6 s1 ∧ x6.length = s1.length ∧ 0 ≤ v4 ∧ Int.toNat (p0 - v4) = k ∧ cntM s_l7All_b0 k v4 s1 = some q2) ⟨_, _, ⟨K2, 0, (x6 : (List Bool)), rfl, (Stp.refl _ _).wk rfl, f4, rfl, (by decide), (by simp), hq7⟩, fun a ha => (ha.more (ha.more (ha.more ha.nil rfl) rfl) rfl)⟩ ?_
  rintro k _ w13 ⟨K14, v4, s1, rfl, S15, f16, hn17, hj5, hJ5, h⟩
  rcases k with _ | k
  ·
   have hk18 := h; obtain ⟨o5, h⟩ := ex_eq (Sum.inr (Sum.inl s1) : (List Bool) ⊕ (((List Bool)) ⊕ ((List Bool))))
   have hc5 : decide (v4 < p0) = false := decide_eq_false (by omega)
   refine WC.seq ?_
   refine WC.seq ?_
   refine WC.rs [(0, 2), (1, 2), (2, 2)] rfl ?_
   refine WO.pn 3 rfl ?_
   refine WO.fin ?_
   refine DN.seq ?_
   refine WC.cf' rfl hc5 ?_
   refine WC.exit ?_
   refine DN.exitThen ?_
   refine DN.exitThen ?_
   obtain rfl := Option.some.inj h
   have h := hk18
   refine DN.hit ?_
   obtain rfl := Option.some.inj h
   exact DN.meet _ ⟨K14, (s1 : (List Bool)), rfl, S15.wk rfl, f16, hn17, rfl⟩ fun a ha => (ha.more ha.nil rfl)
  ·
   obtain ⟨o5, h, hk18⟩ := Option.bind_eq_some_iff.mp h; unfold s_l7All_b0 at h
   have hc5 : decide (v4 < p0) = true := decide_eq_true (by omega)
   refine WC.seq ?_
   refine WC.seq ?_
   refine WC.rs [(0, 2), (1, 2), (2, 2)] rfl ?_
   refine WO.pn 3 rfl ?_
   refine WO.fin ?_
   refine DN.seq ?_
   refine WC.ct' rfl hc5 ?_
   refine WC.skip ?_
   refine DN.seq ?_
   refine WC.seq ?_
   refine WC.block ?_
   refine WC.rs [(0, 2), (1, 2), (2, 2), (3, 1)] rfl ?_
   refine WO.pn 2 rfl ?_
   obtain ⟨x14, hx14, h⟩ := Option.bind_eq_some_iff.mp h
   refine WO.k2 rfl rfl rfl rfl (rn_index f16.rdc hx14 Try.runUnderlying118 Try.sizeOf4 rfl rfl hn17 rfl) ?_
   obtain ⟨y11, hy11, h⟩ := Option.bind_eq_some_iff.mp h
   refine WO.stI (κ := K14) (E := Ep.bool) 2 [] rfl rfl rfl rfl rfl rfl rfl rfl Try.sizeOf4 rfl rfl rfl rfl f16 hy11 fun w19 K20 S21 f22 => ⟨trivial, ?_⟩
   have hn23 : x6.length = y11.length := hn17.trans (setI_ok hy11).2.2.2.symm
   refine WO.fin ?_
   refine DN.block ?_
   refine DN.seq ?_
   refine WC.rs [(0, 2), (1, 2), (2, 2)] rfl ?_
   refine WO.pn 3 rfl ?_
   refine WO.fin ?_
   have hw5 : IntKind.wrap .i64 (v4 + 1) = v4 + 1 := wr1 hj5 (of_decide_eq_true hc5) hN5
   rw [hw5]
   have hc5 := of_decide_eq_true hc5
   obtain rfl := Option.some.inj h
   refine DN.round fun a ha => ?_
   exact ⟨k, _, Nat.lt_succ_self _, ⟨K20, v4 + 1, (y11 : (List Bool)), rfl, (S15.tr S21).wk rfl, f22, hn23, by omega, by omega, hk18⟩, (ha.more (ha.more (ha.more ha.nil rfl) rfl) rfl)⟩
 rintro _ w8 ⟨K9, s3, rfl, S10, f11, hn12, rfl⟩
 have h := hK6
 dsimp only [aft] at h
 refine DN.seq ?_
 refine WC.seq ?_
 refine WC.rs [(0, 2), (1, 2)] rfl ?_
 refine WO.pn 2 rfl ?_
 refine WO.fin ?_
 refine DN.seq ?_
 refine WC.ret ?_
 have f24 := hE.stp (S3.tr S10) rfl rfl
 refine DN.res (l := [.tmp 2]) Try.results79 (res_tmp rfl rfl) rfl ?_
 obtain rfl := Option.some.inj h
 exact ⟨K9, a6, u6, (by simp only [hn12]), f24, f11⟩

/- loop.example/g00869/spec.l7Edge -/
theorem s_l7Edge_ok {w : World} {κ : Col} {a0_0 : Option Addr} {u0_0 : Nat} {a0_1 : Option Addr} {u0_1 : Nat} {a0_2 : Option Addr} {u0_2 : Nat} {a0_3 : Option Addr} {u0_3 : Nat} {a0_4 : Option Addr} {u0_4 : Nat} {p0 : l7Game} {p1 : Int} {p2 : Int} (g0_0 : Rd (Rp.int .i64) κ w 0 a0_0 u0_0 p0.owner) (g0_1 : Rd (Rp.int .i64) κ w 0 a0_1 u0_1 p0.prio) (g0_2 : Rd (Rp.sl (Rp.int .i64)) κ w 0 a0_2 u0_2 p0.next) (g0_3 : Rd (Rp.sl (Rp.int .i64)) κ w 0 a0_3 u0_3 p0.prev) (g0_4 : Rd (Rp.int .i64) κ w 0 a0_4 u0_4 p0.pick) {r : Bool} (h : s_l7Edge p0 p1 p2 = some r) : Ret Try.prog 152 [.agg #[.slice a0_0 p0.owner.length u0_0, .slice a0_1 p0.prio.length u0_1, .slice a0_2 p0.next.length u0_2, .slice a0_3 p0.prev.length u0_3, .slice a0_4 p0.pick.length u0_4], .int .i64 p1, .int .i64 p2] w (fun v w' => ∃ (κ' : Col), v = .bool r ∧ Ent κ w κ' w') := by
 unfold s_l7Edge at h
 refine Ret.enter Try.func152 rfl Try.ntmps152 rfl ?_
 dsimp only [envOf]
 have hE := Ent.refl κ w
 refine WC.seq ?_
 refine WC.rs [(0, 1), (1, 2)] rfl ?_
 refine WO.box (κ := κ) 2 rfl rfl rfl rfl rfl rfl rfl fun b3 w1 K2 S3 f4 => ⟨trivial, ?_⟩
 refine WO.pn 1 rfl ?_
 refine WO.fin ?_
 refine DN.seq ?_
 refine WC.seq ?_
 refine WC.rs [(0, 2), (1, 1), (2, 2), (3, 2), (4, 1), (5, 2), (6, 2), (7, 2), (8, 1), (9, 2), (10, 2), (11, 1), (12, 2), (13, 2), (14, 2), (15, 2)] rfl ?_
 refine WO.k2 rfl rfl rfl rfl (rn_fieldAddr Try.runUnderlying121 rfl Try.sizeOf22 rfl rfl) ?_
 refine WO.k1 trivial rfl rfl rfl rfl (rn_ld Try.isAgg22 rfl rfl (hvE (f4.ld 4 rfl rfl))) ?_
 refine WO.pn 1 rfl ?_
 obtain ⟨x10, hx10, h⟩ := Option.bind_eq_some_iff.mp h
 refine WO.k2 rfl rfl rfl rfl (rn_index g0_4 hx10 Try.runUnderlying22 Try.sizeOf2 rfl rfl rfl rfl) ?_
 have f5 := g0_4.stp S3 rfl rfl
 refine WO.k1 trivial rfl rfl rfl rfl (rn_ld Try.isAgg2 rfl rfl (hvE (f5.gInt hx10))) ?_
 refine WO.pn 2 rfl ?_
 obtain ⟨p21, h, hK6⟩ := Option.bind_eq_some_iff.mp h
 refine WO.meet [(7, 2), (8, 1), (9, 2), (10, 2), (11, 1), (12, 2), (13, 2), (14, 2)] [(15, 2)] (fun L w' => L = [(6, .bool false), (21, .bool p21)] ∧ ∃ κ', Stp [] K2 w1 κ' w') trivial ?_ ?_
 ·
  revert h
  cases ht7 : decide (x10 < 0) with
  | true =>
   intro h; replace h := cT h
   refine WO.pn 1 rfl ?_
   refine WO.ls rfl rfl rfl rfl ?_
   refine WO.pn 2 rfl ?_
   refine WO.ls rfl rfl rfl rfl ?_
   refine WO.pn 3 rfl ?_
   obtain rfl := Option.some.inj h
   exact WO.met _ trivial ⟨rfl, _, (Stp.refl _ _).wk rfl⟩ fun a ha => (ha.more (ha.more ha.nil rfl) rfl)
  | false =>
   intro h; replace h := cF h
   refine WO.k2 rfl rfl rfl rfl (rn_fieldAddr Try.runUnderlying121 rfl Try.sizeOf22 rfl rfl) ?_
   refine WO.k1 trivial rfl rfl rfl rfl (rn_ld Try.isAgg22 rfl rfl (hvE (f4.ld 4 rfl rfl))) ?_
   refine WO.pn 1 rfl ?_
   obtain ⟨x17, hx17, h⟩ := Option.bind_eq_some_iff.mp h
   refine WO.k2 rfl rfl rfl rfl (rn_index f5 hx17 Try.runUnderlying22 Try.sizeOf2 rfl rfl rfl rfl) ?_
   refine WO.k1 trivial rfl rfl rfl rfl (rn_ld Try.isAgg2 rfl rfl (hvE (f5.gInt hx17))) ?_
   refine WO.pn 3 rfl ?_
   obtain rfl := Option.some.inj h
   exact WO.met _ trivial ⟨rfl, _, (Stp.refl _ _).wk rfl⟩ fun a ha => (ha.more (ha.more ha.nil rfl) rfl)
 rintro _ w8 _ ⟨rfl, K9, S10⟩
 have h := hK6
 refine WO.pn 1 rfl ?_
 refine WO.fin ?_
 refine DN.seq ?_
 refine WC.ret ?_
 have f11 := hE.stp (S3.tr S10) rfl rfl
 refine DN.res (l := [.tmp 6]) Try.results152 (res_tmp rfl rfl) rfl ?_
 obtain rfl := Option.some.inj h
 exact ⟨K9, rfl, f11⟩

/- loop.example/g00869/spec.l7Less -/
theorem s_l7Less_ok {w : World} {κ : Col} {a0 : Option Addr} {u0 : Nat} {p0 : (List Bool)} {a1 : Option Addr} {u1 : Nat} {p1 : (List Bool)} (g0 : Rd Rp.bool κ w 0 a0 u0 p0) (g1 : Rd Rp.bool κ w 0 a1 u1 p1) {r : (List Bool)} (h : s_l7Less p0 p1 = some r) : Ret Try.prog 117 [.slice a0 p0.length u0, .slice a1 p1.length u1] w (fun v w' => ∃ (κ' : Col) (ra0 : Option Addr) (ru0 : Nat), v = .slice ra0 r.length ru0 ∧ Ent κ w κ' w' ∧ Oc Ep.bool 4 κ' w' 2 ra0 ru0 r) := by
 unfold s_l7Less at h
 refine Ret.enter Try.func117 rfl Try.ntmps117 rfl ?_
 dsimp only [envOf]
 have hE := Ent.refl κ w
 refine WC.seq ?_
 refine WC.rs [(0, 2)] rfl ?_
 refine WO.pn 1 rfl ?_
 refine WO.fin ?_
 refine DN.seq ?_
 refine WC.seq ?_
 refine WC.rs [(0, 2), (1, 2), (2, 1), (3, 2)] rfl ?_
 refine WO.pn 1 rfl ?_
 refine WO.k2 rfl rfl rfl rfl (rn_len Try.runUnderlying118 rfl rfl) ?_
 obtain ⟨x9, hx9, h⟩ := Option.bind_eq_some_iff.mp h
 refine WO.mk (κ := κ) (E := Ep.bool) (z := (false : Bool)) 2 rfl rfl rfl rfl rfl rfl rfl Try.underlying118 Tryinfo4 rfl rfl rfl rfl rfl (fun _ _ _ => rfl) (mkS_C hx9) fun a9 u9 w1 K2 S3 f4 => ⟨trivial, ?_⟩
 refine WO.pn 1 rfl ?_
 refine WO.fin ?_
 refine DN.seq ?_
 refine WC.seq ?_
 refine WC.seq ?_
 refine WC.rs [(0, 2)] rfl ?_
 refine WO.pn 1 rfl ?_
 refine WO.fin ?_
 refine DN.seq ?_
 have hN5 : (p0.length : Int) ≤ 9223372036854775807 := g0.len_le
 obtain ⟨q2, hq7, hK6⟩ := Option.bind_eq_some_iff.mp h
 clear h
 refine WC.meet (fun L w' => ∃ (κ' : Col) (s3 : (List Bool)), L = [(5, .slice a9 x9.length u9)] ∧ Stp [2] K2 w1 κ' w' ∧ Oc Ep.bool 4 κ' w' 2 a9 u9 s3 ∧ x9.length = s3.length ∧ q2 = Sum.inr s3) ?_ ?_
 ·
  refine WC.block ?_
  refine WC.loop (fun k L w' => ∃ (κ' : Col) (v6 : Int) (s1 : (List Bool)), L = [(0, .slice a0 p0.length u0), (1, .slice a1 p1.length u1), (5, .slice a9 x9.length u9), (6, .int .i64 v6)] ∧ Stp [2] K2 w1 κ' w' ∧ Oc Ep.bool 4 κ' w' 2 a9 u9 s1 ∧ x9.length = s1.length ∧ 0 ≤ v6 ∧ Int.toNat ((p0.length : Int) - v6) = k ∧ cntM (s_l7Less_b0 p0 p1) k v6 s1 = some q2) ⟨_, _, ⟨K2, 0, (x9 : (List Bool)), rfl, (Stp.refl _ _).wk rfl, f4, rfl, (by decide), (by simp), hq7⟩, fun a ha => (ha.more (ha.more (ha.more (ha.more ha.nil rfl) rfl) rfl) rfl)⟩ ?_
  rintro k _ w13 ⟨K14, v6, s1, rfl, S15, f16, hn17, hj5, hJ5, h⟩
  rcases k with _ | k
  ·
   have hk18 := h; obtain ⟨o5, h⟩ := ex_eq (Sum.inr (Sum.inl s1) : (List Bool) ⊕ (((List Bool)) ⊕ ((List Bool))))
   have hc5 : decide (v6 < (p0.length : Int)) = false := decide_eq_false (by omega)
   refine WC.seq ?_
   refine WC.seq ?_
   refine WC.rs [(0, 2), (1, 2), (2, 2), (3, 2)] rfl ?_
   refine WO.pn 2 rfl ?_
   refine WO.k2 rfl rfl rfl rfl (rn_len Try.runUnderlying118 rfl rfl) ?_
   refine WO.pn 1 rfl ?_
   refine WO.fin ?_
   refine DN.seq ?_
   refine WC.cf' rfl hc5 ?_
   refine WC.exit ?_
   refine DN.exitThen ?_
   refine DN.exitThen ?_
   obtain rfl := Option.some.inj h
   have h := hk18
   refine DN.hit ?_
   obtain rfl := Option.some.inj h
   exact DN.meet _ ⟨K14, (s1 : (List Bool)), rfl, S15.wk rfl, f16, hn17, rfl⟩ fun a ha => (ha.more ha.nil rfl)
  ·
   obtain ⟨o5, h, hk18⟩ := Option.bind_eq_some_iff.mp h; unfold s_l7Less_b0 at h
   have hc5 : decide (v6 < (p0.length : Int)) = true := decide_eq_true (by omega)
   refine WC.seq ?_
   refine WC.seq ?_
   refine WC.rs [(0, 2), (1, 2), (2, 2), (3, 2)] rfl ?_
   refine WO.pn 2 rfl ?_
   refine WO.k2 rfl rfl rfl rfl (rn_len Try.runUnderlying118 rfl rfl) ?_
   refine WO.pn 1 rfl ?_
   refine WO.fin ?_
   refine DN.seq ?_
   refine WC.ct' rfl hc5 ?_
   refine WC.skip ?_
   refine DN.seq ?_
   refine WC.seq ?_
   refine WC.block ?_
   refine WC.rs [(0, 2), (1, 2), (2, 2), (3, 2), (4, 2), (5, 1), (6, 2), (7, 2), (8, 2), (9, 2), (10, 1), (11, 2), (12, 2), (13, 2), (14, 1)] rfl ?_
   refine WO.pn 4 rfl ?_
   obtain ⟨x20, hx20, h⟩ := Option.bind_eq_some_iff.mp h
   refine WO.k2 rfl rfl rfl rfl (rn_index g0 hx20 Try.runUnderlying118 Try.sizeOf4 rfl rfl rfl rfl) ?_
   have f19 := g0.stp (S3.tr S15) rfl rfl
   refine WO.k1 trivial rfl rfl rfl rfl (rn_ld Try.isAgg4 rfl rfl (hvE (f19.gBool hx20))) ?_
   refine WO.pn 1 rfl ?_
   obtain ⟨p28, h, hK20⟩ := Option.bind_eq_some_iff.mp h
   refine WO.meet [(7, 2), (8, 2), (9, 2), (10, 1), (11, 2), (12, 2)] [(13, 2), (14, 1)] (fun L w' => L = [(0, .slice a0 p0.length u0), (1, .slice a1 p1.length u1), (5, .slice a9 x9.length u9), (6, .int .i64 v6), (16, .slice a9 x9.length u9), (17, .int .i64 v6), (28, .bool p28)] ∧ ∃ κ', Stp [] K14 w13 κ' w') trivial ?_ ?_
   ·
    revert h
    cases ht21 : x20 with
    | true =>
     intro h; replace h := cT h
     refine WO.pn 2 rfl ?_
     obtain ⟨x25, hx25, h⟩ := Option.bind_eq_some_iff.mp h
     refine WO.k2 rfl rfl rfl rfl (rn_index g1 hx25 Try.runUnderlying118 Try.sizeOf4 rfl rfl rfl rfl) ?_
     have f22 := g1.stp (S3.tr S15) rfl rfl
     refine WO.k1 trivial rfl rfl rfl rfl (rn_ld Try.isAgg4 rfl rfl (hvE (f22.gBool hx25))) ?_
     refine WO.pn 2 rfl ?_
     obtain rfl := Option.some.inj h
     exact WO.met _ trivial ⟨rfl, _, (Stp.refl _ _).wk rfl⟩ fun a ha => (ha.more (ha.more (ha.more (ha.more (ha.more (ha.more (ha.more ha.nil rfl) rfl) rfl) rfl) rfl) rfl) rfl)
    | false =>
     intro h; replace h := cF h
     refine WO.pn 3 rfl ?_
     refine WO.ls rfl rfl rfl rfl ?_
     refine WO.pn 2 rfl ?_
     obtain rfl := Option.some.inj h
     exact WO.met _ trivial ⟨rfl, _, (Stp.refl _ _).wk rfl⟩ fun a ha => (ha.more (ha.more (ha.more (ha.more (ha.more (ha.more (ha.more ha.nil rfl) rfl) rfl) rfl) rfl) rfl) rfl)
   rintro _ w23 _ ⟨rfl, K24, S25⟩
   have h := hK20
   obtain ⟨x29, hx29, h⟩ := Option.bind_eq_some_iff.mp h
   refine WO.k2 rfl rfl rfl rfl (rn_index f16.rdc hx29 Try.runUnderlying118 Try.sizeOf4 rfl rfl hn17 rfl) ?_
   have f26 := f16.stp S25 rfl rfl
   obtain ⟨y25, hy25, h⟩ := Option.bind_eq_some_iff.mp h
   refine WO.stI (κ := K24) (E := Ep.bool) 2 [] rfl rfl rfl rfl rfl rfl rfl rfl Try.sizeOf4 rfl rfl rfl rfl f26 hy25 fun w27 K28 S29 f30 => ⟨trivial, ?_⟩
   have hn31 : x9.length = y25.length := hn17.trans (setI_ok hy25).2.2.2.symm
   refine WO.fin ?_
   refine DN.block ?_
   refine DN.seq ?_
   refine WC.rs [(0, 2), (1, 2), (2, 2)] rfl ?_
   refine WO.pn 3 rfl ?_
   refine WO.fin ?_
   have hw5 : IntKind.wrap .i64 (v6 + 1) = v6 + 1 := wr1 hj5 (of_decide_eq_true hc5) hN5
   rw [hw5]
   have hc5 := of_decide_eq_true hc5
   obtain rfl := Option.some.inj h
   refine DN.round fun a ha => ?_
   exact ⟨k, _, Nat.lt_succ_self _, ⟨K28, v6 + 1, (y25 : (List Bool)), rfl, (S15.tr (S25.tr S29)).wk rfl, f30, hn31, by omega, by omega, hk18⟩, (ha.more (ha.more (ha.more (ha.more ha.nil rfl) rfl) rfl) rfl)⟩
 rintro _ w8 ⟨K9, s3, rfl, S10, f11, hn12, rfl⟩
 have h := hK6
 dsimp only [aft] at h
 refine DN.seq ?_
 refine WC.seq ?_
 refine WC.rs [(0, 2), (1, 2)] rfl ?_
 refine WO.pn 2 rfl ?_
 refine WO.fin ?_
 refine DN.seq ?_
 refine WC.ret ?_
 have f32 := hE.stp (S3.tr S10) rfl rfl
 refine DN.res (l := [.tmp 4]) Try.results117 (res_tmp rfl rfl) rfl ?_
 obtain rfl := Option.some.inj h
 exact ⟨K9, a9, u9, (by simp only [hn12]), f32, f11⟩

/- loop.example/g00869/spec.l1Copy -/
theorem s_l1Copy_ok {w : World} {κ : Col} {a0 : Option Addr} {u0 : Nat} {p0 : (List Int)} (g0 : Rd (Rp.int .i64) κ w 0 a0 u0 p0) {r : (List Int)} (h : s_l1Copy p0 = some r) : Ret Try.prog 120 [.slice a0 p0.length u0] w (fun v w' => ∃ (κ' : Col) (ra0 : Option Addr) (ru0 : Nat), v = .slice ra0 r.length ru0 ∧ Ent κ w κ' w' ∧ Oc (Ep.int .i64) 2 κ' w' 2 ra0 ru0 r) := by
 unfold s_l1Copy at h
 refine Ret.enter Try.func120 rfl Try.ntmps120 rfl ?_
 dsimp only [envOf]
 have hE := Ent.refl κ w
 refine WC.seq ?_
 refine WC.rs [(0, 2)] rfl ?_
 refine WO.pn 1 rfl ?_
 refine WO.fin ?_
 refine DN.seq ?_
 refine WC.seq ?_
 refine WC.rs [(0, 1), (1, 2), (2, 1), (3, 2)] rfl ?_
 refine WO.bl0 (κ := κ) (E := (Ep.int .i64)) 2 rfl rfl rfl rfl rfl Try.underlying22 Tryinfo2 rfl fun a3 u3 w1 K2 S3 f4 => ⟨trivial, ?_⟩
 refine WO.pn 1 rfl ?_
 obtain ⟨x5, hx5, h⟩ := Option.bind_eq_some_iff.mp h
 have f5 := g0.stp S3 rfl rfl
 refine WO.app (κ := K2) (E := (Ep.int .i64)) 2 [] rfl rfl rfl rfl rfl rfl rfl rfl rfl Try.underlying22 Tryinfo2 rfl rfl rfl rfl f4 (Sl.srcP (pu_int _) f5) sy_false hx5 rfl fun a5 u5 w6 K7 S8 f9 => ⟨trivial, ?_⟩
 refine WO.pn 1 rfl ?_
 refine WO.fin ?_
 refine DN.seq ?_
 refine WC.ret ?_
 have f10 := hE.stp (S3.tr S8) rfl rfl
 refine DN.res (l := [.tmp 2]) Try.results120 (res_tmp rfl rfl) rfl ?_
 obtain rfl := Option.some.inj h
 exact ⟨K7, a5, u5, rfl, f10, f9⟩

/- loop.example/g00869/impl.isSet -/
theorem i_isSet_ok {w : World} {κ : Col} {a0 : Option Addr} {u0 : Nat} {p0 : (List Int)} {p1 : Int} (g0 : Rd (Rp.int .i64) κ w 0 a0 u0 p0) {r : Bool} (h : i_isSet p0 p1 = some r) : Ret Try.prog 54 [.slice a0 p0.length u0, .int .i64 p1] w (fun v w' => ∃ (κ' : Col), v = .bool r ∧ Ent κ w κ' w') := by
 unfold i_isSet at h
 refine Ret.enter Try.func54 rfl Try.ntmps54 rfl ?_
 dsimp only [envOf]
 have hE := Ent.refl κ w
 refine WC.seq ?_
 refine WC.rs [(0, 2)] rfl ?_
 refine WO.pn 1 rfl ?_
 refine WO.fin ?_
 refine DN.seq ?_
 refine WC.seq ?_
 refine WC.seq ?_
 refine WC.rs [(0, 2), (1, 2), (2, 2)] rfl ?_
 refine WO.pn 1 rfl ?_
 refine WO.k2 rfl rfl rfl rfl (rn_len Try.runUnderlying22 rfl rfl) ?_
 refine WO.pn 1 rfl ?_
 refine WO.fin ?_
 refine DN.seq ?_
 have hN1 : (p0.length : Int) ≤ 9223372036854775807 := g0.len_le
 obtain ⟨q2, hq3, hK2⟩ := Option.bind_eq_some_iff.mp h
 clear h
 refine WC.meet (fun L w' => ∃ (κ' : Col), L = [] ∧ Stp [] κ w κ' w' ∧ q2 = Sum.inr ()) ?_ ?_
 ·
  refine WC.block ?_
  refine WC.loop (fun k L w' => ∃ (κ' : Col) (v9 : Int), L = [(0, .slice a0 p0.length u0), (1, .int .i64 p1), (7, .slice a0 p0.length u0), (8, .int .i64 (p0.length : Int)), (9, .int .i64 v9)] ∧ Stp [] κ w κ' w' ∧ 0 ≤ v9 ∧ Int.toNat ((p0.length : Int) - v9) = k ∧ cntM (i_isSet_b0 p0 p1) k v9 () = some q2) ⟨_, _, ⟨κ, 0, rfl, (Stp.refl _ _).wk rfl, (by decide), (by simp), hq3⟩, fun a ha => (ha.more (ha.more (ha.more (ha.more (ha.more ha.nil rfl) rfl) rfl) rfl) rfl)⟩ ?_
  rintro k _ w7 ⟨K8, v9, rfl, S9, hj1, hJ1, h⟩
  rcases k with _ | k
  ·
   have hk10 := h; obtain ⟨o1, h⟩ := ex_eq (Sum.inr (Sum.inl ()) : Bool ⊕ ((Unit) ⊕ (Unit)))
   have hc1 : decide (v9 < (p0.length : Int)) = false := decide_eq_false (by omega)
   refine WC.seq ?_
   refine WC.rs [(0, 2)] rfl ?_
   refine WO.pn 1 rfl ?_
   refine WO.fin ?_
   refine DN.seq ?_
   refine WC.seq ?_
   refine WC.cf' rfl hc1 ?_
   refine WC.exit ?_
   refine DN.exitThen ?_
   refine DN.exitThen ?_
   obtain rfl := Option.some.inj h
   have h := hk10
   refine DN.hit ?_
   obtain rfl := Option.some.inj h
   exact DN.meet _ ⟨K8, rfl, S9.wk rfl, rfl⟩ fun a ha => ha.nil
  ·
   obtain ⟨o1, h, hk10⟩ := Option.bind_eq_some_iff.mp h; unfold i_isSet_b0 at h
   have hc1 : decide (v9 < (p0.length : Int)) = true := decide_eq_true (by omega)
   refine WC.seq ?_
   refine WC.rs [(0, 2)] rfl ?_
   refine WO.pn 1 rfl ?_
   refine WO.fin ?_
   refine DN.seq ?_
   refine WC.seq ?_
   refine WC.ct' rfl hc1 ?_
   refine WC.skip ?_
   refine DN.seq ?_
   refine WC.seq ?_
   refine WC.block ?_
   refine WC.seq ?_
   refine WC.rs [(0, 2), (1, 2), (2, 1), (3, 2), (4, 2)] rfl ?_
   refine WO.pn 1 rfl ?_
   obtain ⟨x12, hx12, h⟩ := Option.bind_eq_some_iff.mp h
   refine WO.k2 rfl rfl rfl rfl (rn_index g0 hx12 Try.runUnderlying22 Try.sizeOf2 rfl rfl rfl rfl) ?_
   have f11 := g0.stp S9 rfl rfl
   refine WO.k1 trivial rfl rfl rfl rfl (rn_ld Try.isAgg2 rfl rfl (hvE (f11.gInt hx12))) ?_
   refine WO.pn 2 rfl ?_
   refine WO.fin ?_
   refine DN.seq ?_
   refine WC.seq ?_
   refine WC.rs [(0, 2), (1, 2), (2, 2), (3, 2), (4, 2), (5, 2), (6, 2), (7, 2), (8, 2), (9, 2), (10, 2), (11, 2), (12, 2), (13, 2), (14, 2), (15, 2), (16, 1), (17, 2), (18, 2), (19, 2)] rfl ?_
   refine WO.pn 3 rfl ?_
   obtain ⟨p20, h, hK12⟩ := Option.bind_eq_some_iff.mp h
   refine WO.meet [(3, 2), (4, 2), (5, 2), (6, 2)] [(7, 2), (8, 2), (9, 2), (10, 2), (11, 2), (12, 2), (13, 2), (14, 2), (15, 2), (16, 1), (17, 2), (18, 2), (19, 2)] (fun L w' => L = [(0, .slice a0 p0.length u0), (1, .int .i64 p1), (5, .int .i64 v9), (6, .int .i64 x12), (7, .slice a0 p0.length u0), (8, .int .i64 (p0.length : Int)), (9, .int .i64 v9), (20, .bool p20)] ∧ ∃ κ', Stp [] K8 w7 κ' w') trivial ?_ ?_
   ·
    revert h
    cases ht13 : decide (x12 < 0) with
    | true =>
     intro h; replace h := cT h
     refine WO.pn 4 rfl ?_
     obtain rfl := Option.some.inj h
     exact WO.met _ trivial ⟨rfl, _, (Stp.refl _ _).wk rfl⟩ fun a ha => (ha.more (ha.more (ha.more (ha.more (ha.more (ha.more (ha.more (ha.more ha.nil rfl) rfl) rfl) rfl) rfl) rfl) rfl) rfl)
    | false =>
     intro h; replace h := cF h
     refine WO.pn 4 rfl ?_
     obtain rfl := Option.some.inj h
     exact WO.met _ trivial ⟨rfl, _, (Stp.refl _ _).wk rfl⟩ fun a ha => (ha.more (ha.more (ha.more (ha.more (ha.more (ha.more (ha.more (ha.more ha.nil rfl) rfl) rfl) rfl) rfl) rfl) rfl) rfl)
   rintro _ w14 _ ⟨rfl, K15, S16⟩
   have h := hK12
   refine WO.pn 1 rfl ?_
   obtain ⟨p33, h, hK17⟩ := Option.bind_eq_some_iff.mp h
   refine WO.meet [(8, 2), (9, 2), (10, 2), (11, 2), (12, 2), (13, 2), (14, 2), (15, 2), (16, 1), (17, 2), (18, 2), (19, 2)] [] (fun L w' => L = [(0, .slice a0 p0.length u0), (1, .int .i64 p1), (7, .slice a0 p0.length u0), (8, .int .i64 (p0.length : Int)), (9, .int .i64 v9), (33, .bool p33)] ∧ ∃ κ', Stp [] K15 w14 κ' w') trivial ?_ ?_
   ·
    revert h
    cases ht18 : p20 with
    | true =>
     intro h; replace h := cT h
     refine WO.pn 8 rfl ?_
     refine WO.ls rfl rfl rfl rfl ?_
     refine WO.pn 3 rfl ?_
     obtain rfl := Option.some.inj h
     exact WO.met _ trivial ⟨rfl, _, (Stp.refl _ _).wk rfl⟩ fun a ha => (ha.more (ha.more (ha.more (ha.more (ha.more (ha.more ha.nil rfl) rfl) rfl) rfl) rfl) rfl)
    | false =>
     intro h; replace h := cF h
     refine WO.pn 3 rfl ?_
     obtain ⟨p32, h, hK19⟩ := Option.bind_eq_some_iff.mp h
     refine WO.meet [(11, 2), (12, 2), (13, 2), (14, 2), (15, 2), (16, 1), (17, 2), (18, 2)] [(19, 2)] (fun L w' => L = [(0, .slice a0 p0.length u0), (1, .int .i64 p1), (7, .slice a0 p0.length u0), (8, .int .i64 (p0.length : Int)), (9, .int .i64 v9), (21, .bool false), (22, .int .i64 v9), (23, .bool (decide (0 < v9))), (24, .bool (decide (0 < v9))), (32, .bool p32)] ∧ ∃ κ', Stp [] K15 w14 κ' w') trivial ?_ ?_
     ·
      revert h
      cases ht20 : decide (0 < v9) with
      | true =>
       intro h; replace h := cT h
       refine WO.pn 4 rfl ?_
       obtain ⟨x29, hx29, h⟩ := Option.bind_eq_some_iff.mp h
       refine WO.k2 rfl rfl rfl rfl (rn_index f11 hx29 Try.runUnderlying22 Try.sizeOf2 rfl rfl rfl rfl) ?_
       have f21 := f11.stp S16 rfl rfl
       refine WO.k1 trivial rfl rfl rfl rfl (rn_ld Try.isAgg2 rfl rfl (hvE (f21.gInt hx29))) ?_
       refine WO.pn 2 rfl ?_
       obtain rfl := Option.some.inj h
       exact WO.met _ trivial ⟨rfl, _, (Stp.refl _ _).wk rfl⟩ fun a ha => (ha.more (ha.more (ha.more (ha.more (ha.more (ha.more (ha.more (ha.more (ha.more (ha.more ha.nil rfl) rfl) rfl) rfl) rfl) rfl) rfl) rfl) rfl) rfl)
      | false =>
       intro h; replace h := cF h
       refine WO.pn 5 rfl ?_
       refine WO.ls rfl rfl rfl rfl ?_
       refine WO.pn 2 rfl ?_
       obtain rfl := Option.some.inj h
       exact WO.met _ trivial ⟨rfl, _, (Stp.refl _ _).wk rfl⟩ fun a ha => (ha.more (ha.more (ha.more (ha.more (ha.more (ha.more (ha.more (ha.more (ha.more (ha.more ha.nil rfl) rfl) rfl) rfl) rfl) rfl) rfl) rfl) rfl) rfl)
     rintro _ w22 _ ⟨rfl, K23, S24⟩
     have h := hK19
     refine WO.pn 1 rfl ?_
     obtain rfl := Option.some.inj h
     exact WO.met _ trivial ⟨rfl, _, S24.wk rfl⟩ fun a ha => (ha.more (ha.more (ha.more (ha.more (ha.more (ha.more ha.nil rfl) rfl) rfl) rfl) rfl) rfl)
   rintro _ w25 _ ⟨rfl, K26, S27⟩
   have h := hK17
   refine WO.fin ?_
   refine DN.seq ?_
   revert h
   cases ht28 : p33 with
   | true =>
    intro h; replace h := cT h
    refine WC.ct rfl ?_
    refine WC.seq ?_
    refine WC.rs [(0, 2)] rfl ?_
    refine WO.pn 1 rfl ?_
    refine WO.fin ?_
    refine DN.seq ?_
    refine WC.ret ?_
    refine DN.retBlock ?_
    refine DN.retThen ?_
    refine DN.retThen ?_
    obtain rfl := Option.some.inj h
    obtain rfl := Option.some.inj hk10
    have h := hK2
    dsimp only [aft] at h
    refine DN.retBlock ?_
    refine DN.retMeet ?_
    refine DN.retThen ?_
    have f29 := hE.stp (S9.tr (S16.tr S27)) rfl rfl
    refine DN.res (l := [.tmp 4]) Try.results54 (res_tmp rfl rfl) rfl ?_
    obtain rfl := Option.some.inj h
    exact ⟨K26, rfl, f29⟩
   | false =>
    intro h; replace h := cF h
    refine WC.cf rfl ?_
    refine WC.skip ?_
    refine DN.block ?_
    refine DN.seq ?_
    refine WC.rs [(0, 2), (1, 2)] rfl ?_
    refine WO.pn 2 rfl ?_
    refine WO.fin ?_
    have hw1 : IntKind.wrap .i64 (v9 + 1) = v9 + 1 := wr1 hj1 (of_decide_eq_true hc1) hN1
    rw [hw1]
    have hc1 := of_decide_eq_true hc1
    obtain rfl := Option.some.inj h
    refine DN.round fun a ha => ?_
    exact ⟨k, _, Nat.lt_succ_self _, ⟨K26, v9 + 1, rfl, (S9.tr (S16.tr S27)).wk rfl, by omega, by omega, hk10⟩, (ha.more (ha.more (ha.more (ha.more (ha.more ha.nil rfl) rfl) rfl) rfl) rfl)⟩
 rintro _ w4 ⟨K5, rfl, S6, rfl⟩
 have h := hK2
 dsimp only [aft] at h
 refine DN.seq ?_
 refine WC.seq ?_
 refine WC.rs [(0, 2)] rfl ?_
 refine WO.pn 1 rfl ?_
 refine WO.fin ?_
 refine DN.seq ?_
 refine WC.ret ?_
 have f30 := hE.stp S6 rfl rfl
 refine DN.res (l := [.tmp 4]) Try.results54 (res_tmp rfl rfl) rfl ?_
 obtain rfl := Option.some.inj h
 exact ⟨K5, rfl, f30⟩

/- loop.example/g00869/impl.size -/
theorem i_size_ok {w : World} {κ : Col} {a0_0 : Option Addr} {u0_0 : Nat} {a0_1 : Option Addr} {u0_1 : Nat} {p0 : Arena} (g0_0 : Rd (Rp.int .i64) κ w 0 a0_0 u0_0 p0.Owner) (g0_1 : Rd (Rp.sl (Rp.int .i64)) κ w 0 a0_1 u0_1 p0.Next) {r : Int} (h : i_size p0 = some r) : Ret Try.prog 121 [.agg #[.slice a0_0 p0.Owner.length u0_0, .slice a0_1 p0.Next.length u0_1]] w (fun v w' => ∃ (κ' : Col), v = .int .i64 r ∧ Ent κ w κ' w') := by
 unfold i_size at h
 refine Ret.enter Try.func121 rfl Try.ntmps121 rfl ?_
 dsimp only [envOf]
 have hE := Ent.refl κ w
 refine WC.seq ?_
 refine WC.rs [(0, 1), (1, 2)] rfl ?_
 refine WO.box (κ := κ) 2 rfl rfl rfl rfl rfl rfl rfl fun b1 w1 K2 S3 f4 => ⟨trivial, ?_⟩
 refine WO.pn 1 rfl ?_
 refine WO.fin ?_
 refine DN.seq ?_
 refine WC.seq ?_
 refine WC.rs [(0, 2), (1, 1), (2, 2), (3, 2)] rfl ?_
 refine WO.k2 rfl rfl rfl rfl (rn_fieldAddr Try.runUnderlying32 rfl Try.sizeOf22 rfl rfl) ?_
 refine WO.k1 trivial rfl rfl rfl rfl (rn_ld Try.isAgg22 rfl rfl (hvE (f4.ld 0 rfl rfl))) ?_
 refine WO.k2 rfl rfl rfl rfl (rn_len Try.runUnderlying22 rfl rfl) ?_
 refine WO.pn 1 rfl ?_
 refine WO.fin ?_
 refine DN.seq ?_
 refine WC.ret ?_
 have f5 := hE.stp S3 rfl rfl
 refine DN.res (l := [.tmp 2]) Try.results121 (res_tmp rfl rfl) rfl ?_
 obtain rfl := Option.some.inj h
 exact ⟨K2, rfl, f5⟩

/- loop.example/g00869/impl.predsOf -/
theorem i_predsOf_ok {w : World} {κ : Col} {a0_0 : Option Addr} {u0_0 : Nat} {a0_1 : Option Addr} {u0_1 : Nat} {p0 : Arena} (g0_0 : Rd (Rp.int .i64) κ w 0 a0_0 u0_0 p0.Owner) (g0_1 : Rd (Rp.sl (Rp.int .i64)) κ w 0 a0_1 u0_1 p0.Next) {r : (List (List Int))} (h : i_predsOf p0 = some r) : Ret Try.prog 123 [.agg #[.slice a0_0 p0.Owner.length u0_0, .slice a0_1 p0.Next.length u0_1]] w (fun v w' => ∃ (κ' : Col) (ra0 : Option Addr) (ru0 : Nat), v = .slice ra0 r.length ru0 ∧ Ent κ w κ' w' ∧ Oc (Ep.own (Ep.int .i64) 2) 22 κ' w' 2 ra0 ru0 r) := by
 unfold i_predsOf at h
 refine Ret.enter Try.func123 rfl Try.ntmps123 rfl ?_
 dsimp only [envOf]
 have hE := Ent.refl κ w
 refine WC.seq ?_
 refine WC.rs [(0, 1), (1, 2)] rfl ?_
 refine WO.box (κ := κ) 2 rfl rfl rfl rfl rfl rfl rfl fun b1 w1 K2 S3 f4 => ⟨trivial, ?_⟩
 refine WO.pn 1 rfl ?_
 refine WO.fin ?_
 refine DN.seq ?_
 refine WC.seq ?_
 refine WC.rs [(0, 2), (1, 1), (2, 2), (3, 1), (4, 2)] rfl ?_
 refine WO.k2 rfl rfl rfl rfl (rn_fieldAddr Try.runUnderlying32 rfl Try.sizeOf22 rfl rfl) ?_
 refine WO.k1 trivial rfl rfl rfl rfl (rn_ld Try.isAgg22 rfl rfl (hvE (f4.ld 0 rfl rfl))) ?_
 refine WO.k2 rfl rfl rfl rfl (rn_len Try.runUnderlying22 rfl rfl) ?_
 obtain ⟨x11, hx11, h⟩ := Option.bind_eq_some_iff.mp h
 refine WO.mk (κ := K2) (E := (Ep.own (Ep.int .i64) 2)) (z := (([] : List Int) : (List Int))) 3 rfl rfl rfl rfl rfl rfl rfl Try.underlying23 Tryinfo22 rfl rfl rfl rfl rfl (fun _ _ _ => ⟨none, 0, rfl, Ow.nil⟩) (mkS_C hx11) fun a11 u11 w5 K6 S7 f8 => ⟨trivial, ?_⟩
 refine WO.pn 1 rfl ?_
 refine WO.fin ?_
 refine DN.seq ?_
 refine WC.seq ?_
 refine WC.seq ?_
 refine WC.rs [(0, 2), (1, 1), (2, 2), (3, 2)] rfl ?_
 refine WO.k2 rfl rfl rfl rfl (rn_fieldAddr Try.runUnderlying32 rfl Try.sizeOf23 rfl rfl) ?_
 have f9 := f4.stp S7 rfl rfl
 refine WO.k1 trivial rfl rfl rfl rfl (rn_ld Try.isAgg23 rfl rfl (hvE (f9.ld 1 rfl rfl))) ?_
 refine WO.k2 rfl rfl rfl rfl (rn_len Try.runUnderlying23 rfl rfl) ?_
 refine WO.pn 1 rfl ?_
 refine WO.fin ?_
 refine DN.seq ?_
 have hN10 : (p0.Next.length : Int) ≤ 9223372036854775807 := g0_1.len_le
 obtain ⟨q2, hq12, hK11⟩ := Option.bind_eq_some_iff.mp h
 clear h
 refine WC.meet (fun L w' => ∃ (κ' : Col) (s3 : (List (List Int))), L = [(3, .slice a11 x11.length u11)] ∧ Stp [3, 5] K6 w5 κ' w' ∧ Oc (Ep.own (Ep.int .i64) 2) 22 κ' w' 3 a11 u11 s3 ∧ x11.length = s3.length ∧ q2 = Sum.inr s3) ?_ ?_
 ·
  refine WC.block ?_
  refine WC.loop (fun k L w' => ∃ (κ' : Col) (v15 : Int) (s1 : (List (List Int))), L = [(3, .slice a11 x11.length u11), (13, .slice a0_1 p0.Next.length u0_1), (14, .int .i64 (p0.Next.length : Int)), (15, .int .i64 v15)] ∧ Stp [3, 5] K6 w5 κ' w' ∧ Oc (Ep.own (Ep.int .i64) 2) 22 κ' w' 3 a11 u11 s1 ∧ x11.length = s1.length ∧ 0 ≤ v15 ∧ Int.toNat ((p0.Next.length : Int) - v15) = k ∧ cntM (i_predsOf_b0 p0) k v15 s1 = some q2) ⟨_, _, ⟨K6, 0, (x11 : (List (List Int))), rfl, (Stp.refl _ _).wk rfl, f8, rfl, (by decide), (by simp), hq12⟩, fun a ha => (ha.more (ha.more (ha.more (ha.more ha.nil rfl) rfl) rfl) rfl)⟩ ?_
  rintro k _ w18 ⟨K19, v15, s1, rfl, S20, f21, hn22, hj10, hJ10, h⟩
  rcases k with _ | k
  ·
   have hk23 := h; obtain ⟨o10, h⟩ := ex_eq (Sum.inr (Sum.inl s1) : (List (List Int)) ⊕ (((List (List Int))) ⊕ ((List (List Int)))))
   have hc10 : decide (v15 < (p0.Next.length : Int)) = false := decide_eq_false (by omega)
   refine WC.seq ?_
   refine WC.rs [(0, 2)] rfl ?_
   refine WO.pn 1 rfl ?_
   refine WO.fin ?_
   refine DN.seq ?_
   refine WC.seq ?_
   refine WC.cf' rfl hc10 ?_
   refine WC.exit ?_
   refine DN.exitThen ?_
   refine DN.exitThen ?_
   obtain rfl := Option.some.inj h
   have h := hk23
   refine DN.hit ?_
   obtain rfl := Option.some.inj h
   exact DN.meet _ ⟨K19, (s1 : (List (List Int))), rfl, S20.wk rfl, f21, hn22, rfl⟩ fun a ha => (ha.more ha.nil rfl)
  ·
   obtain ⟨o10, h, hk23⟩ := Option.bind_eq_some_iff.mp h; unfold i_predsOf_b0 at h
   have hc10 : decide (v15 < (p0.Next.length : Int)) = true := decide_eq_true (by omega)
   refine WC.seq ?_
   refine WC.rs [(0, 2)] rfl ?_
   refine WO.pn 1 rfl ?_
   refine WO.fin ?_
   refine DN.seq ?_
   refine WC.seq ?_
   refine WC.ct' rfl hc10 ?_
   refine WC.skip ?_
   refine DN.seq ?_
   refine WC.seq ?_
   refine WC.block ?_
   refine WC.seq ?_
   refine WC.rs [(0, 2), (1, 2), (2, 1), (3, 2), (4, 2)] rfl ?_
   refine WO.pn 1 rfl ?_
   obtain ⟨x18, hx18, h⟩ := Option.bind_eq_some_iff.mp h
   refine WO.k2 rfl rfl rfl rfl (rn_index g0_1 hx18 Try.runUnderlying23 Try.sizeOf22 rfl rfl rfl rfl) ?_
   have f24 := g0_1.stp (S3.tr (S7.tr S20)) rfl rfl
   obtain ⟨ax18, ux18, f25, hl26⟩ := f24.gSl hx18
   refine WO.k1 trivial rfl rfl rfl rfl (rn_ld Try.isAgg22 rfl rfl (hvE hl26)) ?_
   refine WO.pn 2 rfl ?_
   refine WO.fin ?_
   refine DN.seq ?_
   refine WC.seq ?_
   refine WC.rs [(0, 2), (1, 2), (2, 2)] rfl ?_
   refine WO.pn 1 rfl ?_
   refine WO.k2 rfl rfl rfl rfl (rn_len Try.runUnderlying22 rfl rfl) ?_
   refine WO.pn 1 rfl ?_
   refine WO.fin ?_
   refine DN.seq ?_
   have hN27 : (x18.length : Int) ≤ 9223372036854775807 := f25.len_le
   obtain ⟨q5, hq29, hK28⟩ := Option.bind_eq_some_iff.mp h
   clear h
   refine WC.meet (fun L w' => ∃ (κ' : Col) (s6 : (List (List Int))), L = [(3, .slice a11 x11.length u11), (13, .slice a0_1 p0.Next.length u0_1), (14, .int .i64 (p0.Next.length : Int)), (15, .int .i64 v15)] ∧ Stp [3, 5] K19 w18 κ' w' ∧ Oc (Ep.own (Ep.int .i64) 2) 22 κ' w' 3 a11 u11 s6 ∧ x11.length = s6.length ∧ q5 = Sum.inr s6) ?_ ?_
   ·
    refine WC.block ?_
    refine WC.loop (fun k L w' => ∃ (κ' : Col) (v22 : Int) (s4 : (List (List Int))), L = [(3, .slice a11 x11.length u11), (4, .int .i64 v15), (13, .slice a0_1 p0.Next.length u0_1), (14, .int .i64 (p0.Next.length : Int)), (15, .int .i64 v15), (20, .slice ax18 x18.length ux18), (21, .int .i64 (x18.length : Int)), (22, .int .i64 v22)] ∧ Stp [3, 5] K19 w18 κ' w' ∧ Oc (Ep.own (Ep.int .i64) 2) 22 κ' w' 3 a11 u11 s4 ∧ x11.length = s4.length ∧ 0 ≤ v22 ∧ Int.toNat ((x18.length : Int) - v22) = k ∧ cntM (i_predsOf_b2 v15 x18) k v22 s4 = some q5) ⟨_, _, ⟨K19, 0, (s1 : (List (List Int))), rfl, (Stp.refl _ _).wk rfl, f21, hn22, (by decide), (by simp), hq29⟩, fun a ha => (ha.more (ha.more (ha.more (ha.more (ha.more (ha.more (ha.more (ha.more ha.nil rfl) rfl) rfl) rfl) rfl) rfl) rfl) rfl)⟩ ?_
    rintro k _ w35 ⟨K36, v22, s4, rfl, S37, f38, hn39, hj27, hJ27, h⟩
    rcases k with _ | k
    ·
     have hk40 := h; obtain ⟨o27, h⟩ := ex_eq (Sum.inr (Sum.inl s4) : (List (List Int)) ⊕ (((List (List Int))) ⊕ ((List (List Int)))))
     have hc27 : decide (v22 < (x18.length : Int)) = false := decide_eq_false (by omega)
     refine WC.seq ?_
     refine WC.rs [(0, 2)] rfl ?_
     refine WO.pn 1 rfl ?_
     refine WO.fin ?_
     refine DN.seq ?_
     refine WC.seq ?_
     refine WC.cf' rfl hc27 ?_
     refine WC.exit ?_
     refine DN.exitThen ?_
     refine DN.exitThen ?_
     obtain rfl := Option.some.inj h
     have h := hk40
     refine DN.hit ?_
     obtain rfl := Option.some.inj h
     exact DN.meet _ ⟨K36, (s4 : (List (List Int))), rfl, S37.wk rfl, f38, hn39, rfl⟩ fun a ha => (ha.more (ha.more (ha.more (ha.more ha.nil rfl) rfl) rfl) rfl)
    ·
     obtain ⟨o27, h, hk40⟩ := Option.bind_eq_some_iff.mp h; unfold i_predsOf_b2 at h
     have hc27 : decide (v22 < (x18.length : Int)) = true := decide_eq_true (by omega)
     refine WC.seq ?_
     refine WC.rs [(0, 2)] rfl ?_
     refine WO.pn 1 rfl ?_
     refine WO.fin ?_
     refine DN.seq ?_
     refine WC.seq ?_
     refine WC.ct' rfl hc27 ?_
     refine WC.skip ?_
     refine DN.seq ?_
     refine WC.seq ?_
     refine WC.block ?_
     refine WC.seq ?_
     refine WC.rs [(0, 2), (1, 1), (2, 2)] rfl ?_
     obtain ⟨x24, hx24, h⟩ := Option.bind_eq_some_iff.mp h
     refine WO.k2 rfl rfl rfl rfl (rn_index f25 hx24 Try.runUnderlying22 Try.sizeOf2 rfl rfl rfl rfl) ?_
     have f41 := f25.stp S37 rfl rfl
     refine WO.k1 trivial rfl rfl rfl rfl (rn_ld Try.isAgg2 rfl rfl (hvE (f41.gInt hx24))) ?_
     refine WO.pn 1 rfl ?_
     refine WO.fin ?_
     refine DN.seq ?_
     refine WC.rs [(0, 2), (1, 2), (2, 2), (3, 2), (4, 2), (5, 1), (6, 2), (7, 1), (8, 1), (9, 2), (10, 1)] rfl ?_
     refine WO.pn 4 rfl ?_
     obtain ⟨x30, hx30, h⟩ := Option.bind_eq_some_iff.mp h
     refine WO.k2 rfl rfl rfl rfl (rn_index f38.rdc hx30 Try.runUnderlying23 Try.sizeOf22 rfl rfl hn39 rfl) ?_
     obtain ⟨ax30, ux30, f42, hl43⟩ := f38.rdc.gSl hx30
     refine WO.k1 trivial rfl rfl rfl rfl (rn_ld Try.isAgg22 rfl rfl (hvE hl43)) ?_
     refine WO.pn 1 rfl ?_
     refine WO.bl (κ := K36) (E := (Ep.int .i64)) 4 [] (parts := [(0, .tmp 32)]) (cells := [.int .i64 v15]) (xs := ([v15] : List Int)) rfl rfl rfl rfl rfl rfl Try.underlying22 Tryinfo2 rfl rfl rfl rfl rfl rfl rfl rfl rfl rfl ⟨[.int .i64 v15], [], Zl K36 w35 [], Zl K36 w35 [], rfl, Zl.sp (l1 := []) (l2 := []) rfl, Zl.sr (l1 := []) (l2 := []), rfl, rfl⟩ fun a33 u33 w44 K45 S46 f47 => ⟨trivial, ?_⟩
     have f48 := f38.stp S46 rfl rfl
     obtain ⟨K49, S50, f51, f52⟩ := f48.borrow hx30 (hl43 _ (Stp.ag S46 rfl)) 5 rfl rfl
     obtain ⟨x34, hx34, h⟩ := Option.bind_eq_some_iff.mp h
     have f53 := f47.stp S50 rfl rfl
     refine WO.app (κ := K49) (E := (Ep.int .i64)) 5 [] rfl rfl rfl rfl rfl rfl rfl rfl rfl Try.underlying22 Tryinfo2 rfl rfl rfl rfl f51 (Sl.srcP (pu_int _) f53.rdc) sy_false hx34 rfl fun a34 u34 w54 K55 S56 f57 => ⟨trivial, ?_⟩
     obtain ⟨x35, hx35, h⟩ := Option.bind_eq_some_iff.mp h
     refine WO.k2 rfl rfl rfl rfl (rn_index f48.rdc hx35 Try.runUnderlying23 Try.sizeOf22 rfl rfl hn39 rfl) ?_
     have f58 := f52.stp S56 rfl rfl
     obtain ⟨y47, hy47, h⟩ := Option.bind_eq_some_iff.mp h
     refine WO.stH (κ := K55) (E := (Ep.own (Ep.int .i64) 2)) 3 [5] rfl rfl rfl rfl rfl rfl rfl rfl Try.sizeOf22 rfl ⟨_, _, rfl, f57⟩ rfl rfl f58 hy47 fun w59 K60 S61 f62 => ⟨trivial, ?_⟩
     have hn63 : x11.length = y47.length := hn39.trans (setI_ok hy47).2.2.2.symm
     refine WO.fin ?_
     refine DN.block ?_
     refine DN.seq ?_
     refine WC.rs [(0, 2), (1, 2)] rfl ?_
     refine WO.pn 2 rfl ?_
     refine WO.fin ?_
     have hw27 : IntKind.wrap .i64 (v22 + 1) = v22 + 1 := wr1 hj27 (of_decide_eq_true hc27) hN27
     rw [hw27]
     have hc27 := of_decide_eq_true hc27
     obtain rfl := Option.some.inj h
     refine DN.round fun a ha => ?_
     exact ⟨k, _, Nat.lt_succ_self _, ⟨K60, v22 + 1, (y47 : (List (List Int))), rfl, (S37.tr (S46.tr (S50.tr (S56.tr S61)))).wk rfl, f62, hn63, by omega, by omega, hk40⟩, (ha.more (ha.more (ha.more (ha.more (ha.more (ha.more (ha.more (ha.more ha.nil rfl) rfl) rfl) rfl) rfl) rfl) rfl) rfl)⟩
   rintro _ w30 ⟨K31, s6, rfl, S32, f33, hn34, rfl⟩
   have h := hK28
   dsimp only [aft] at h
   refine DN.block ?_
   refine DN.seq ?_
   refine WC.rs [(0, 2), (1, 2)] rfl ?_
   refine WO.pn 2 rfl ?_
   refine WO.fin ?_
   have hw10 : IntKind.wrap .i64 (v15 + 1) = v15 + 1 := wr1 hj10 (of_decide_eq_true hc10) hN10
   rw [hw10]
   have hc10 := of_decide_eq_true hc10
   obtain rfl := Option.some.inj h
   refine DN.round fun a ha => ?_
   exact ⟨k, _, Nat.lt_succ_self _, ⟨K31, v15 + 1, (s6 : (List (List Int))), rfl, (S20.tr S32).wk rfl, f33, hn34, by omega, by omega, hk23⟩, (ha.more (ha.more (ha.more (ha.more ha.nil rfl) rfl) rfl) rfl)⟩
 rintro _ w13 ⟨K14, s3, rfl, S15, f16, hn17, rfl⟩
 have h := hK11
 dsimp only [aft] at h
 refine DN.seq ?_
 refine WC.seq ?_
 refine WC.rs [(0, 2), (1, 2)] rfl ?_
 refine WO.pn 2 rfl ?_
 refine WO.fin ?_
 refine DN.seq ?_
 refine WC.ret ?_
 have f64 := hE.stp (S3.tr (S7.tr S15)) rfl rfl
 refine DN.res (l := [.tmp 2]) Try.results123 (res_tmp rfl rfl) rfl ?_
 obtain rfl := Option.some.inj h
 exact ⟨(fun b => ren [(3, 2)] (K14 b)), a11, u11, (by simp only [hn17]), (f64.map (ren [(3, 2)]) rfl rfl), (f16.map (ren [(3, 2)]) rfl rfl)⟩

/- loop.example/g00869/impl.markOf -/
theorem i_markOf_ok {w : World} {κ : Col} {a0_0 : Option Addr} {u0_0 : Nat} {a0_1 : Option Addr} {u0_1 : Nat} {p0 : Arena} {a1 : Option Addr} {u1 : Nat} {p1 : (List Int)} (g0_0 : Rd (Rp.int .i64) κ w 0 a0_0 u0_0 p0.Owner) (g0_1 : Rd (Rp.sl (Rp.int .i64)) κ w 0 a0_1 u0_1 p0.Next) (g1 : Rd (Rp.int .i64) κ w 0 a1 u1 p1) {r : (List Bool)} (h : i_markOf p0 p1 = some r) : Ret Try.prog 124 [.agg #[.slice a0_0 p0.Owner.length u0_0, .slice a0_1 p0.Next.length u0_1], .slice a1 p1.length u1] w (fun v w' => ∃ (κ' : Col) (ra0 : Option Addr) (ru0 : Nat), v = .slice ra0 r.length ru0 ∧ Ent κ w κ' w' ∧ Oc Ep.bool 4 κ' w' 2 ra0 ru0 r) := by
 unfold i_markOf at h
 refine Ret.enter Try.func124 rfl Try.ntmps124 rfl ?_
 dsimp only [envOf]
 have hE := Ent.refl κ w
 refine WC.seq ?_
 refine WC.rs [(0, 1), (1, 2)] rfl ?_
 refine WO.box (κ := κ) 2 rfl rfl rfl rfl rfl rfl rfl fun b2 w1 K2 S3 f4 => ⟨trivial, ?_⟩
 refine WO.pn 1 rfl ?_
 refine WO.fin ?_
 refine DN.seq ?_
 refine WC.seq ?_
 refine WC.rs [(0, 2), (1, 1), (2, 2), (3, 1), (4, 2)] rfl ?_
 refine WO.k2 rfl rfl rfl rfl (rn_fieldAddr Try.runUnderlying32 rfl Try.sizeOf22 rfl rfl) ?_
 refine WO.k1 trivial rfl rfl rfl rfl (rn_ld Try.isAgg22 rfl rfl (hvE (f4.ld 0 rfl rfl))) ?_
 refine WO.k2 rfl rfl rfl rfl (rn_len Try.runUnderlying22 rfl rfl) ?_
 obtain ⟨x11, hx11, h⟩ := Option.bind_eq_some_iff.mp h
 refine WO.mk (κ := K2) (E := Ep.bool) (z := (false : Bool)) 3 rfl rfl rfl rfl rfl rfl rfl Try.underlying118 Tryinfo4 rfl rfl rfl rfl rfl (fun _ _ _ => rfl) (mkS_C hx11) fun a11 u11 w5 K6 S7 f8 => ⟨trivial, ?_⟩
 refine WO.pn 1 rfl ?_
 refine WO.fin ?_
 refine DN.seq ?_
 refine WC.seq ?_
 refine WC.seq ?_
 refine WC.rs [(0, 2), (1, 2), (2, 2)] rfl ?_
 refine WO.pn 1 rfl ?_
 refine WO.k2 rfl rfl rfl rfl (rn_len Try.runUnderlying22 rfl rfl) ?_
 refine WO.pn 1 rfl ?_
 refine WO.fin ?_
 refine DN.seq ?_
 have hN9 : (p1.length : Int) ≤ 9223372036854775807 := g1.len_le
 obtain ⟨q2, hq11, hK10⟩ := Option.bind_eq_some_iff.mp h
 clear h
 refine WC.meet (fun L w' => ∃ (κ' : Col) (s3 : (List Bool)), L = [(5, .slice a11 x11.length u11)] ∧ Stp [3] K6 w5 κ' w' ∧ Oc Ep.bool 4 κ' w' 3 a11 u11 s3 ∧ x11.length = s3.length ∧ q2 = Sum.inr s3) ?_ ?_
 ·
  refine WC.block ?_
  refine WC.loop (fun k L w' => ∃ (κ' : Col) (v14 : Int) (s1 : (List Bool)), L = [(5, .slice a11 x11.length u11), (12, .slice a1 p1.length u1), (13, .int .i64 (p1.length : Int)), (14, .int .i64 v14)] ∧ Stp [3] K6 w5 κ' w' ∧ Oc Ep.bool 4 κ' w' 3 a11 u11 s1 ∧ x11.length = s1.length ∧ 0 ≤ v14 ∧ Int.toNat ((p1.length : Int) - v14) = k ∧ cntM (i_markOf_b0 p1) k v14 s1 = some q2) ⟨_, _, ⟨K6, 0, (x11 : (List Bool)), rfl, (Stp.refl _ _).wk rfl, f8, rfl, (by decide), (by simp), hq11⟩, fun a ha => (ha.more (ha.more (ha.more (ha.more ha.nil rfl) rfl) rfl) rfl)⟩ ?_
  rintro k _ w17 ⟨K18, v14, s1, rfl, S19, f20, hn21, hj9, hJ9, h⟩
  rcases k with _ | k
  ·
   have hk22 := h; obtain ⟨o9, h⟩ := ex_eq (Sum.inr (Sum.inl s1) : (List Bool) ⊕ (((List Bool)) ⊕ ((List Bool))))
   have hc9 : decide (v14 < (p1.length : Int)) = false := decide_eq_false (by omega)
   refine WC.seq ?_
   refine WC.rs [(0, 2)] rfl ?_
   refine WO.pn 1 rfl ?_
   refine WO.fin ?_
   refine DN.seq ?_
   refine WC.seq ?_
   refine WC.cf' rfl hc9 ?_
   refine WC.exit ?_
   refine DN.exitThen ?_
   refine DN.exitThen ?_
   obtain rfl := Option.some.inj h
   have h := hk22
   refine DN.hit ?_
   obtain rfl := Option.some.inj h
   exact DN.meet _ ⟨K18, (s1 : (List Bool)), rfl, S19.wk rfl, f20, hn21, rfl⟩ fun a ha => (ha.more ha.nil rfl)
  ·
   obtain ⟨o9, h, hk22⟩ := Option.bind_eq_some_iff.mp h; unfold i_markOf_b0 at h
   have hc9 : decide (v14 < (p1.length : Int)) = true := decide_eq_true (by omega)
   refine WC.seq ?_
   refine WC.rs [(0, 2)] rfl ?_
   refine WO.pn 1 rfl ?_
   refine WO.fin ?_
   refine DN.seq ?_
   refine WC.seq ?_
   refine WC.ct' rfl hc9 ?_
   refine WC.skip ?_
   refine DN.seq ?_
   refine WC.seq ?_
   refine WC.block ?_
   refine WC.seq ?_
   refine WC.rs [(0, 2), (1, 1), (2, 2)] rfl ?_
   obtain ⟨x16, hx16, h⟩ := Option.bind_eq_some_iff.mp h
   refine WO.k2 rfl rfl rfl rfl (rn_index g1 hx16 Try.runUnderlying22 Try.sizeOf2 rfl rfl rfl rfl) ?_
   have f23 := g1.stp (S3.tr (S7.tr S19)) rfl rfl
   refine WO.k1 trivial rfl rfl rfl rfl (rn_ld Try.isAgg2 rfl rfl (hvE (f23.gInt hx16))) ?_
   refine WO.pn 1 rfl ?_
   refine WO.fin ?_
   refine DN.seq ?_
   refine WC.rs [(0, 2), (1, 2), (2, 2), (3, 1)] rfl ?_
   refine WO.pn 2 rfl ?_
   obtain ⟨x20, hx20, h⟩ := Option.bind_eq_some_iff.mp h
   refine WO.k2 rfl rfl rfl rfl (rn_index f20.rdc hx20 Try.runUnderlying118 Try.sizeOf4 rfl rfl hn21 rfl) ?_
   obtain ⟨y49, hy49, h⟩ := Option.bind_eq_some_iff.mp h
   refine WO.stI (κ := K18) (E := Ep.bool) 3 [] rfl rfl rfl rfl rfl rfl rfl rfl Try.sizeOf4 rfl rfl rfl rfl f20 hy49 fun w24 K25 S26 f27 => ⟨trivial, ?_⟩
   have hn28 : x11.length = y49.length := hn21.trans (setI_ok hy49).2.2.2.symm
   refine WO.fin ?_
   refine DN.block ?_
   refine DN.seq ?_
   refine WC.rs [(0, 2), (1, 2)] rfl ?_
   refine WO.pn 2 rfl ?_
   refine WO.fin ?_
   have hw9 : IntKind.wrap .i64 (v14 + 1) = v14 + 1 := wr1 hj9 (of_decide_eq_true hc9) hN9
   rw [hw9]
   have hc9 := of_decide_eq_true hc9
   obtain rfl := Option.some.inj h
   refine DN.round fun a ha => ?_
   exact ⟨k, _, Nat.lt_succ_self _, ⟨K25, v14 + 1, (y49 : (List Bool)), rfl, (S19.tr S26).wk rfl, f27, hn28, by omega, by omega, hk22⟩, (ha.more (ha.more (ha.more (ha.more ha.nil rfl) rfl) rfl) rfl)⟩
 rintro _ w12 ⟨K13, s3, rfl, S14, f15, hn16, rfl⟩
 have h := hK10
 dsimp only [aft] at h
 refine DN.seq ?_
 refine WC.seq ?_
 refine WC.rs [(0, 2), (1, 2)] rfl ?_
 refine WO.pn 2 rfl ?_
 refine WO.fin ?_
 refine DN.seq ?_
 refine WC.ret ?_
 have f29 := hE.stp (S3.tr (S7.tr S14)) rfl rfl
 refine DN.res (l := [.tmp 4]) Try.results124 (res_tmp rfl rfl) rfl ?_
 obtain rfl := Option.some.inj h
 exact ⟨(fun b => ren [(3, 2)] (K13 b)), a11, u11, (by simp only [hn16]), (f29.map (ren [(3, 2)]) rfl rfl), (f15.map (ren [(3, 2)]) rfl rfl)⟩

/- loop.example/g00869/impl.listOf -/
theorem i_listOf_ok {w : World} {κ : Col} {a0 : Option Addr} {u0 : Nat} {p0 : (List Bool)} (g0 : Rd Rp.bool κ w 0 a0 u0 p0) {r : (List Int)} (h : i_listOf p0 = some r) : Ret Try.prog 126 [.slice a0 p0.length u0] w (fun v w' => ∃ (κ' : Col) (ra0 : Option Addr) (ru0 : Nat), v = .slice ra0 r.length ru0 ∧ Ent κ w κ' w' ∧ Oc (Ep.int .i64) 2 κ' w' 2 ra0 ru0 r) := by
 unfold i_listOf at h
 refine Ret.enter Try.func126 rfl Try.ntmps126 rfl ?_
 dsimp only [envOf]
 have hE := Ent.refl κ w
 refine WC.seq ?_
 refine WC.rs [(0, 2)] rfl ?_
 refine WO.pn 1 rfl ?_
 refine WO.fin ?_
 refine DN.seq ?_
 refine WC.seq ?_
 refine WC.rs [(0, 1), (1, 2)] rfl ?_
 refine WO.bl0 (κ := κ) (E := (Ep.int .i64)) 2 rfl rfl rfl rfl rfl Try.underlying22 Tryinfo2 rfl fun a6 u6 w1 K2 S3 f4 => ⟨trivial, ?_⟩
 refine WO.pn 1 rfl ?_
 refine WO.fin ?_
 refine DN.seq ?_
 refine WC.seq ?_
 refine WC.seq ?_
 refine WC.rs [(0, 2), (1, 2), (2, 2)] rfl ?_
 refine WO.pn 1 rfl ?_
 refine WO.k2 rfl rfl rfl rfl (rn_len Try.runUnderlying118 rfl rfl) ?_
 refine WO.pn 1 rfl ?_
 refine WO.fin ?_
 refine DN.seq ?_
 have hN5 : (p0.length : Int) ≤ 9223372036854775807 := g0.len_le
 obtain ⟨q2, hq7, hK6⟩ := Option.bind_eq_some_iff.mp h
 clear h
 refine WC.meet (fun L w' => ∃ (κ' : Col) (s3 : (List Int)) (las3_0 : Option Addr) (lus3_0 : Nat), L = [(3, .slice las3_0 s3.length lus3_0)] ∧ Stp [2] K2 w1 κ' w' ∧ Oc (Ep.int .i64) 2 κ' w' 2 las3_0 lus3_0 s3 ∧ q2 = Sum.inr s3) ?_ ?_
 ·
  refine WC.block ?_
  refine WC.loop (fun k L w' => ∃ (κ' : Col) (v9 : Int) (s1 : (List Int)) (las1_0 : Option Addr) (lus1_0 : Nat), L = [(3, .slice las1_0 s1.length lus1_0), (7, .slice a0 p0.length u0), (8, .int .i64 (p0.length : Int)), (9, .int .i64 v9)] ∧ Stp [2] K2 w1 κ' w' ∧ Oc (Ep.int .i64) 2 κ' w' 2 las1_0 lus1_0 s1 ∧ 0 ≤ v9 ∧ Int.toNat ((p0.length : Int) - v9) = k ∧ cntM (i_listOf_b0 p0) k v9 s1 = some q2) ⟨_, _, ⟨K2, 0, (([] : List Int) : (List Int)), a6, u6, rfl, (Stp.refl _ _).wk rfl, f4, (by decide), (by simp), hq7⟩, fun a ha => (ha.more (ha.more (ha.more (ha.more ha.nil rfl) rfl) rfl) rfl)⟩ ?_
  rintro k _ w12 ⟨K13, v9, s1, las1_0, lus1_0, rfl, S14, f15, hj5, hJ5, h⟩
  rcases k with _ | k
  ·
   have hk16 := h; obtain ⟨o5, h⟩ := ex_eq (Sum.inr (Sum.inl s1) : (List Int) ⊕ (((List Int)) ⊕ ((List Int))))
   have hc5 : decide (v9 < (p0.length : Int)) = false := decide_eq_false (by omega)
   refine WC.seq ?_
   refine WC.rs [(0, 2)] rfl ?_
   refine WO.pn 1 rfl ?_
   refine WO.fin ?_
   refine DN.seq ?_
   refine WC.seq ?_
   refine WC.cf' rfl hc5 ?_
   refine WC.exit ?_
   refine DN.exitThen ?_
   refine DN.exitThen ?_
   obtain rfl := Option.some.inj h
   have h := hk16
   refine DN.hit ?_
   obtain rfl := Option.some.inj h
   exact DN.meet _ ⟨K13, (s1 : (List Int)), las1_0, lus1_0, rfl, S14.wk rfl, f15, rfl⟩ fun a ha => (ha.more ha.nil rfl)
  ·
   obtain ⟨o5, h, hk16⟩ := Option.bind_eq_some_iff.mp h; unfold i_listOf_b0 at h
   have hc5 : decide (v9 < (p0.length : Int)) = true := decide_eq_true (by omega)
   refine WC.seq ?_
   refine WC.rs [(0, 2)] rfl ?_
   refine WO.pn 1 rfl ?_
   refine WO.fin ?_
   refine DN.seq ?_
   refine WC.seq ?_
   refine WC.ct' rfl hc5 ?_
   refine WC.skip ?_
   refine DN.seq ?_
   refine WC.seq ?_
   refine WC.block ?_
   refine WC.seq ?_
   refine WC.rs [(0, 2), (1, 2), (2, 1), (3, 2), (4, 2)] rfl ?_
   refine WO.pn 1 rfl ?_
   obtain ⟨x12, hx12, h⟩ := Option.bind_eq_some_iff.mp h
   refine WO.k2 rfl rfl rfl rfl (rn_index g0 hx12 Try.runUnderlying118 Try.sizeOf4 rfl rfl rfl rfl) ?_
   have f17 := g0.stp (S3.tr S14) rfl rfl
   refine WO.k1 trivial rfl rfl rfl rfl (rn_ld Try.isAgg4 rfl rfl (hvE (f17.gBool hx12))) ?_
   refine WO.pn 2 rfl ?_
   refine WO.fin ?_
   refine DN.seq ?_
   refine WC.seq ?_
   refine WC.rs [(0, 2)] rfl ?_
   refine WO.pn 1 rfl ?_
   refine WO.fin ?_
   refine DN.seq ?_
   obtain ⟨q4, h, hK18⟩ := Option.bind_eq_some_iff.mp h
   refine WC.meet (fun L w' => ∃ (κ' : Col) (laq4_0 : Option Addr) (luq4_0 : Nat), L = [(3, .slice laq4_0 q4.length luq4_0), (7, .slice a0 p0.length u0), (8, .int .i64 (p0.length : Int)), (9, .int .i64 v9)] ∧ Stp [2] K13 w12 κ' w' ∧ Oc (Ep.int .i64) 2 κ' w' 2 laq4_0 luq4_0 q4) ?_ ?_
   ·
    revert h
    cases ht23 : x12 with
    | true =>
     intro h; replace h := cT h
     refine WC.ct rfl ?_
     refine WC.rs [(0, 2), (1, 2), (2, 1), (3, 1), (4, 2)] rfl ?_
     refine WO.pn 2 rfl ?_
     refine WO.bl (κ := K13) (E := (Ep.int .i64)) 3 [] (parts := [(0, .tmp 16)]) (cells := [.int .i64 v9]) (xs := ([v9] : List Int)) rfl rfl rfl rfl rfl rfl Try.underlying22 Tryinfo2 rfl rfl rfl rfl rfl rfl rfl rfl rfl rfl ⟨[.int .i64 v9], [], Zl K13 w12 [], Zl K13 w12 [], rfl, Zl.sp (l1 := []) (l2 := []) rfl, Zl.sr (l1 := []) (l2 := []), rfl, rfl⟩ fun a17 u17 w24 K25 S26 f27 => ⟨trivial, ?_⟩
     obtain ⟨x18, hx18, h⟩ := Option.bind_eq_some_iff.mp h
     have f28 := f15.stp S26 rfl rfl
     refine WO.app (κ := K25) (E := (Ep.int .i64)) 2 [] rfl rfl rfl rfl rfl rfl rfl rfl rfl Try.underlying22 Tryinfo2 rfl rfl rfl rfl f28 (Sl.srcP (pu_int _) f27.rdc) sy_false hx18 rfl fun a18 u18 w29 K30 S31 f32 => ⟨trivial, ?_⟩
     refine WO.pn 1 rfl ?_
     refine WO.fin ?_
     obtain rfl := Option.some.inj h
     exact DN.meet _ ⟨K30, a18, u18, rfl, (S26.tr S31).wk rfl, f32⟩ fun a ha => (ha.more (ha.more (ha.more (ha.more ha.nil rfl) rfl) rfl) rfl)
    | false =>
     intro h; replace h := cF h
     refine WC.cf rfl ?_
     refine WC.skip ?_
     obtain rfl := Option.some.inj h
     exact DN.meet _ ⟨K13, las1_0, lus1_0, rfl, (Stp.refl _ _).wk rfl, f15⟩ fun a ha => (ha.more (ha.more (ha.more (ha.more ha.nil rfl) rfl) rfl) rfl)
   rintro _ w19 ⟨K20, laq4_0, luq4_0, rfl, S21, f22⟩
   have h := hK18
   refine DN.block ?_
   refine DN.seq ?_
   refine WC.rs [(0, 2), (1, 2)] rfl ?_
   refine WO.pn 2 rfl ?_
   refine WO.fin ?_
   have hw5 : IntKind.wrap .i64 (v9 + 1) = v9 + 1 := wr1 hj5 (of_decide_eq_true hc5) hN5
   rw [hw5]
   have hc5 := of_decide_eq_true hc5
   obtain rfl := Option.some.inj h
   refine DN.round fun a ha => ?_
   exact ⟨k, _, Nat.lt_succ_self _, ⟨K20, v9 + 1, (q4 : (List Int)), laq4_0, luq4_0, rfl, (S14.tr S21).wk rfl, f22, by omega, by omega, hk16⟩, (ha.more (ha.more (ha.more (ha.more ha.nil rfl) rfl) rfl) rfl)⟩
 rintro _ w8 ⟨K9, s3, las3_0, lus3_0, rfl, S10, f11, rfl⟩
 have h := hK6
 dsimp only [aft] at h
 refine DN.seq ?_
 refine WC.seq ?_
 refine WC.rs [(0, 2), (1, 2)] rfl ?_
 refine WO.pn 2 rfl ?_
 refine WO.fin ?_
 refine DN.seq ?_
 refine WC.ret ?_
 have f33 := hE.stp (S3.tr S10) rfl rfl
 refine DN.res (l := [.tmp 2]) Try.results126 (res_tmp rfl rfl) rfl ?_
 obtain rfl := Option.some.inj h
 exact ⟨K9, las3_0, lus3_0, rfl, f33, f11⟩

/- loop.example/g00869/impl.without -/
theorem i_without_ok {w : World} {κ : Col} {a0 : Option Addr} {u0 : Nat} {p0 : (List Bool)} {a1 : Option Addr} {u1 : Nat} {p1 : (List Bool)} (g0 : Rd Rp.bool κ w 0 a0 u0 p0) (g1 : Rd Rp.bool κ w 0 a1 u1 p1) {r : (List Bool)} (h : i_without p0 p1 = some r) : Ret Try.prog 127 [.slice a0 p0.length u0, .slice a1 p1.length u1] w (fun v w' => ∃ (κ' : Col) (ra0 : Option Addr) (ru0 : Nat), v = .slice ra0 r.length ru0 ∧ Ent κ w κ' w' ∧ Oc Ep.bool 4 κ' w' 2 ra0 ru0 r) := by
 unfold i_without at h
 refine Ret.enter Try.func127 rfl Try.ntmps127 rfl ?_
 dsimp only [envOf]
 have hE := Ent.refl κ w
 refine WC.seq ?_
 refine WC.rs [(0, 2)] rfl ?_
 refine WO.pn 1 rfl ?_
 refine WO.fin ?_
 refine DN.seq ?_
 refine WC.seq ?_
 refine WC.rs [(0, 2), (1, 2), (2, 1), (3, 2)] rfl ?_
 refine WO.pn 1 rfl ?_
 refine WO.k2 rfl rfl rfl rfl (rn_len Try.runUnderlying118 rfl rfl) ?_
 obtain ⟨x9, hx9, h⟩ := Option.bind_eq_some_iff.mp h
 refine WO.mk (κ := κ) (E := Ep.bool) (z := (false : Bool)) 2 rfl rfl rfl rfl rfl rfl rfl Try.underlying118 Tryinfo4 rfl rfl rfl rfl rfl (fun _ _ _ => rfl) (mkS_C hx9) fun a9 u9 w1 K2 S3 f4 => ⟨trivial, ?_⟩
 refine WO.pn 1 rfl ?_
 refine WO.fin ?_
 refine DN.seq ?_
 refine WC.seq ?_
 refine WC.seq ?_
 refine WC.rs [(0, 2), (1, 2), (2, 2)] rfl ?_
 refine WO.pn 1 rfl ?_
 refine WO.k2 rfl rfl rfl rfl (rn_len Try.runUnderlying118 rfl rfl) ?_
 refine WO.pn 1 rfl ?_
 refine WO.fin ?_
 refine DN.seq ?_
 have hN5 : (p0.length : Int) ≤ 9223372036854775807 := g0.len_le
 obtain ⟨q2, hq7, hK6⟩ := Option.bind_eq_some_iff.mp h
 clear h
 refine WC.meet (fun L w' => ∃ (κ' : Col) (s3 : (List Bool)), L = [(5, .slice a9 x9.length u9)] ∧ Stp [2] K2 w1 κ' w' ∧ Oc Ep.bool 4 κ' w' 2 a9 u9 s3 ∧ x9.length = s3.length ∧ q2 = Sum.inr s3) ?_ ?_
 ·
  refine WC.block ?_
  refine WC.loop (fun k L w' => ∃ (κ' : Col) (v12 : Int) (s1 : (List Bool)), L = [(0, .slice a0 p0.length u0), (1, .slice a1 p1.length u1), (5, .slice a9 x9.length u9), (11, .int .i64 (p0.length : Int)), (12, .int .i64 v12)] ∧ Stp [2] K2 w1 κ' w' ∧ Oc Ep.bool 4 κ' w' 2 a9 u9 s1 ∧ x9.length = s1.length ∧ 0 ≤ v12 ∧ Int.toNat ((p0.length : Int) - v12) = k ∧ cntM (i_without_b0 p0 p1) k v12 s1 = some q2) ⟨_, _, ⟨K2, 0, (x9 : (List Bool)), rfl, (Stp.refl _ _).wk rfl, f4, rfl, (by decide), (by simp), hq7⟩, fun a ha => (ha.more (ha.more (ha.more (ha.more (ha.more ha.nil rfl) rfl) rfl) rfl) rfl)⟩ ?_
  rintro k _ w13 ⟨K14, v12, s1, rfl, S15, f16, hn17, hj5, hJ5, h⟩
  rcases k with _ | k
  ·
   have hk18 := h; obtain ⟨o5, h⟩ := ex_eq (Sum.inr (Sum.inl s1) : (List Bool) ⊕ (((List Bool)) ⊕ ((List Bool))))
   have hc5 : decide (v12 < (p0.length : Int)) = false := decide_eq_false (by omega)
   refine WC.seq ?_
   refine WC.rs [(0, 2)] rfl ?_
   refine WO.pn 1 rfl ?_
   refine WO.fin ?_
   refine DN.seq ?_
   refine WC.seq ?_
   refine WC.cf' rfl hc5 ?_
   refine WC.exit ?_
   refine DN.exitThen ?_
   refine DN.exitThen ?_
   obtain rfl := Option.some.inj h
   have h := hk18
   refine DN.hit ?_
   obtain rfl := Option.some.inj h
   exact DN.meet _ ⟨K14, (s1 : (List Bool)), rfl, S15.wk rfl, f16, hn17, rfl⟩ fun a ha => (ha.more ha.nil rfl)
  ·
   obtain ⟨o5, h, hk18⟩ := Option.bind_eq_some_iff.mp h; unfold i_without_b0 at h
   have hc5 : decide (v12 < (p0.length : Int)) = true := decide_eq_true (by omega)
   refine WC.seq ?_
   refine WC.rs [(0, 2)] rfl ?_
   refine WO.pn 1 rfl ?_
   refine WO.fin ?_
   refine DN.seq ?_
   refine WC.seq ?_
   refine WC.ct' rfl hc5 ?_
   refine WC.skip ?_
   refine DN.seq ?_
   refine WC.seq ?_
   refine WC.block ?_
   refine WC.seq ?_
   refine WC.rs [(0, 2), (1, 2)] rfl ?_
   refine WO.pn 2 rfl ?_
   refine WO.fin ?_
   refine DN.seq ?_
   refine WC.rs [(0, 2), (1, 2), (2, 2), (3, 2), (4, 2), (5, 1), (6, 2), (7, 2), (8, 2), (9, 2), (10, 1), (11, 2), (12, 2), (13, 2), (14, 1)] rfl ?_
   refine WO.pn 4 rfl ?_
   obtain ⟨x19, hx19, h⟩ := Option.bind_eq_some_iff.mp h
   refine WO.k2 rfl rfl rfl rfl (rn_index g0 hx19 Try.runUnderlying118 Try.sizeOf4 rfl rfl rfl rfl) ?_
   have f19 := g0.stp (S3.tr S15) rfl rfl
   refine WO.k1 trivial rfl rfl rfl rfl (rn_ld Try.isAgg4 rfl rfl (hvE (f19.gBool hx19))) ?_
   refine WO.pn 1 rfl ?_
   obtain ⟨p27, h, hK20⟩ := Option.bind_eq_some_iff.mp h
   refine WO.meet [(7, 2), (8, 2), (9, 2), (10, 1), (11, 2), (12, 2)] [(13, 2), (14, 1)] (fun L w' => L = [(0, .slice a0 p0.length u0), (1, .slice a1 p1.length u1), (5, .slice a9 x9.length u9), (11, .int .i64 (p0.length : Int)), (12, .int .i64 v12), (15, .slice a9 x9.length u9), (16, .int .i64 v12), (27, .bool p27)] ∧ ∃ κ', Stp [] K14 w13 κ' w') trivial ?_ ?_
   ·
    revert h
    cases ht21 : x19 with
    | true =>
     intro h; replace h := cT h
     refine WO.pn 2 rfl ?_
     obtain ⟨x24, hx24, h⟩ := Option.bind_eq_some_iff.mp h
     refine WO.k2 rfl rfl rfl rfl (rn_index g1 hx24 Try.runUnderlying118 Try.sizeOf4 rfl rfl rfl rfl) ?_
     have f22 := g1.stp (S3.tr S15) rfl rfl
     refine WO.k1 trivial rfl rfl rfl rfl (rn_ld Try.isAgg4 rfl rfl (hvE (f22.gBool hx24))) ?_
     refine WO.pn 2 rfl ?_
     obtain rfl := Option.some.inj h
     exact WO.met _ trivial ⟨rfl, _, (Stp.refl _ _).wk rfl⟩ fun a ha => (ha.more (ha.more (ha.more (ha.more (ha.more (ha.more (ha.more (ha.more ha.nil rfl) rfl) rfl) rfl) rfl) rfl) rfl) rfl)
    | false =>
     intro h; replace h := cF h
     refine WO.pn 3 rfl ?_
     refine WO.ls rfl rfl rfl rfl ?_
     refine WO.pn 2 rfl ?_
     obtain rfl := Option.some.inj h
     exact WO.met _ trivial ⟨rfl, _, (Stp.refl _ _).wk rfl⟩ fun a ha => (ha.more (ha.more (ha.more (ha.more (ha.more (ha.more (ha.more (ha.more ha.nil rfl) rfl) rfl) rfl) rfl) rfl) rfl) rfl)
   rintro _ w23 _ ⟨rfl, K24, S25⟩
   have h := hK20
   obtain ⟨x28, hx28, h⟩ := Option.bind_eq_some_iff.mp h
   refine WO.k2 rfl rfl rfl rfl (rn_index f16.rdc hx28 Try.runUnderlying118 Try.sizeOf4 rfl rfl hn17 rfl) ?_
   have f26 := f16.stp S25 rfl rfl
   obtain ⟨y62, hy62, h⟩ := Option.bind_eq_some_iff.mp h
   refine WO.stI (κ := K24) (E := Ep.bool) 2 [] rfl rfl rfl rfl rfl rfl rfl rfl Try.sizeOf4 rfl rfl rfl rfl f26 hy62 fun w27 K28 S29 f30 => ⟨trivial, ?_⟩
   have hn31 : x9.length = y62.length := hn17.trans (setI_ok hy62).2.2.2.symm
   refine WO.fin ?_
   refine DN.block ?_
   refine DN.seq ?_
   refine WC.rs [(0, 2), (1, 2)] rfl ?_
   refine WO.pn 2 rfl ?_
   refine WO.fin ?_
   have hw5 : IntKind.wrap .i64 (v12 + 1) = v12 + 1 := wr1 hj5 (of_decide_eq_true hc5) hN5
   rw [hw5]
   have hc5 := of_decide_eq_true hc5
   obtain rfl := Option.some.inj h
   refine DN.round fun a ha => ?_
   exact ⟨k, _, Nat.lt_succ_self _, ⟨K28, v12 + 1, (y62 : (List Bool)), rfl, (S15.tr (S25.tr S29)).wk rfl, f30, hn31, by omega, by omega, hk18⟩, (ha.more (ha.more (ha.more (ha.more (ha.more ha.nil rfl) rfl) rfl) rfl) rfl)⟩
 rintro _ w8 ⟨K9, s3, rfl, S10, f11, hn12, rfl⟩
 have h := hK6
 dsimp only [aft] at h
 refine DN.seq ?_
 refine WC.seq ?_
 refine WC.rs [(0, 2), (1, 2)] rfl ?_
 refine WO.pn 2 rfl ?_
 refine WO.fin ?_
 refine DN.seq ?_
 refine WC.ret ?_
 have f32 := hE.stp (S3.tr S10) rfl rfl
 refine DN.res (l := [.tmp 4]) Try.results127 (res_tmp rfl rfl) rfl ?_
 obtain rfl := Option.some.inj h
 exact ⟨K9, a9, u9, (by simp only [hn12]), f32, f11⟩

/- slices.Index[[]bool,bool] -/
theorem slices_Index_bool_bool_ok {w : World} {κ : Col} {a0 : Option Addr} {u0 : Nat} {p0 : (List Bool)} {p1 : Bool} (g0 : Rd Rp.bool κ w 0 a0 u0 p0) {r : Int} (h : slices_Index_bool_bool p0 p1 = some r) : Ret Try.prog 169 [.slice a0 p0.length u0, .bool p1] w (fun v w' => ∃ (κ' : Col), v = .int .i64 r ∧ Ent κ w κ' w') := by
 unfold slices_Index_bool_bool at h
 refine Ret.enter Try.func169 rfl Try.ntmps169 rfl ?_
 dsimp only [envOf]
 have hE := Ent.refl κ w
 refine WC.seq ?_
 refine WC.rs [(0, 2)] rfl ?_
 refine WO.pn 1 rfl ?_
 refine WO.fin ?_
 refine DN.seq ?_
 refine WC.seq ?_
 refine WC.seq ?_
 refine WC.rs [(0, 2), (1, 2), (2, 2)] rfl ?_
 refine WO.pn 1 rfl ?_
 refine WO.k2 rfl rfl rfl rfl (rn_len Try.runUnderlying118 rfl rfl) ?_
 refine WO.pn 1 rfl ?_
 refine WO.fin ?_
 refine DN.seq ?_
 have hN1 : (p0.length : Int) ≤ 9223372036854775807 := g0.len_le
 obtain ⟨q2, hq3, hK2⟩ := Option.bind_eq_some_iff.mp h
 clear h
 refine WC.meet (fun L w' => ∃ (κ' : Col), L = [] ∧ Stp [] κ w κ' w' ∧ q2 = Sum.inr ()) ?_ ?_
 ·
  refine WC.block ?_
  refine WC.loop (fun k L w' => ∃ (κ' : Col) (v8 : Int), L = [(0, .slice a0 p0.length u0), (1, .bool p1), (7, .int .i64 (p0.length : Int)), (8, .int .i64 v8)] ∧ Stp [] κ w κ' w' ∧ 0 ≤ v8 ∧ Int.toNat ((p0.length : Int) - v8) = k ∧ cntM (slices_Index_bool_bool_b0 p0 p1) k v8 () = some q2) ⟨_, _, ⟨κ, 0, rfl, (Stp.refl _ _).wk rfl, (by decide), (by simp), hq3⟩, fun a ha => (ha.more (ha.more (ha.more (ha.more ha.nil rfl) rfl) rfl) rfl)⟩ ?_
  rintro k _ w7 ⟨K8, v8, rfl, S9, hj1, hJ1, h⟩
  rcases k with _ | k
  ·
   have hk10 := h; obtain ⟨o1, h⟩ := ex_eq (Sum.inr (Sum.inl ()) : Int ⊕ ((Unit) ⊕ (Unit)))
   have hc1 : decide (v8 < (p0.length : Int)) = false := decide_eq_false (by omega)
   refine WC.seq ?_
   refine WC.rs [(0, 2)] rfl ?_
   refine WO.pn 1 rfl ?_
   refine WO.fin ?_
   refine DN.seq ?_
   refine WC.seq ?_
   refine WC.cf' rfl hc1 ?_
   refine WC.exit ?_
   refine DN.exitThen ?_
   refine DN.exitThen ?_
   obtain rfl := Option.some.inj h
   have h := hk10
   refine DN.hit ?_
   obtain rfl := Option.some.inj h
   exact DN.meet _ ⟨K8, rfl, S9.wk rfl, rfl⟩ fun a ha => ha.nil
  ·
   obtain ⟨o1, h, hk10⟩ := Option.bind_eq_some_iff.mp h; unfold slices_Index_bool_bool_b0 at h
   have hc1 : decide (v8 < (p0.length : Int)) = true := decide_eq_true (by omega)
   refine WC.seq ?_
   refine WC.rs [(0, 2)] rfl ?_
   refine WO.pn 1 rfl ?_
   refine WO.fin ?_
   refine DN.seq ?_
   refine WC.seq ?_
   refine WC.ct' rfl hc1 ?_
   refine WC.skip ?_
   refine DN.seq ?_
   refine WC.seq ?_
   refine WC.block ?_
   refine WC.seq ?_
   refine WC.rs [(0, 2), (1, 2)] rfl ?_
   refine WO.pn 2 rfl ?_
   refine WO.fin ?_
   refine DN.seq ?_
   refine WC.seq ?_
   refine WC.rs [(0, 2), (1, 2), (2, 2), (3, 2), (4, 1), (5, 2)] rfl ?_
   refine WO.pn 3 rfl ?_
   obtain ⟨x14, hx14, h⟩ := Option.bind_eq_some_iff.mp h
   refine WO.k2 rfl rfl rfl rfl (rn_index g0 hx14 Try.runUnderlying118 Try.sizeOf4 rfl rfl rfl rfl) ?_
   have f11 := g0.stp S9 rfl rfl
   refine WO.k1 trivial rfl rfl rfl rfl (rn_ld Try.isAgg4 rfl rfl (hvE (f11.gBool hx14))) ?_
   refine WO.k2 rfl rfl rfl rfl (rn_eqlB rfl rfl Try.runUnderlying4 rfl) ?_
   refine WO.fin ?_
   refine DN.seq ?_
   revert h
   cases ht12 : (p1 == x14) with
   | true =>
    intro h; replace h := cT h
    refine WC.ct rfl ?_
    refine WC.seq ?_
    refine WC.rs [(0, 2), (1, 2)] rfl ?_
    refine WO.pn 2 rfl ?_
    refine WO.fin ?_
    refine DN.seq ?_
    refine WC.ret ?_
    refine DN.retBlock ?_
    refine DN.retThen ?_
    refine DN.retThen ?_
    obtain rfl := Option.some.inj h
    obtain rfl := Option.some.inj hk10
    have h := hK2
    dsimp only [aft] at h
    refine DN.retBlock ?_
    refine DN.retMeet ?_
    refine DN.retThen ?_
    have f13 := hE.stp S9 rfl rfl
    refine DN.res (l := [.tmp 4]) Try.results169 (res_tmp rfl rfl) rfl ?_
    obtain rfl := Option.some.inj h
    exact ⟨K8, rfl, f13⟩
   | false =>
    intro h; replace h := cF h
    refine WC.cf rfl ?_
    refine WC.skip ?_
    refine DN.block ?_
    refine DN.seq ?_
    refine WC.rs [(0, 2), (1, 2)] rfl ?_
    refine WO.pn 2 rfl ?_
    refine WO.fin ?_
    have hw1 : IntKind.wrap .i64 (v8 + 1) = v8 + 1 := wr1 hj1 (of_decide_eq_true hc1) hN1
    rw [hw1]
    have hc1 := of_decide_eq_true hc1
    obtain rfl := Option.some.inj h
    refine DN.round fun a ha => ?_
    exact ⟨k, _, Nat.lt_succ_self _, ⟨K8, v8 + 1, rfl, S9.wk rfl, by omega, by omega, hk10⟩, (ha.more (ha.more (ha.more (ha.more ha.nil rfl) rfl) rfl) rfl)⟩
 rintro _ w4 ⟨K5, rfl, S6, rfl⟩
 have h := hK2
 dsimp only [aft] at h
 refine DN.seq ?_
 refine WC.seq ?_
 refine WC.rs [(0, 2)] rfl ?_
 refine WO.pn 1 rfl ?_
 refine WO.fin ?_
 refine DN.seq ?_
 refine WC.ret ?_
 have f14 := hE.stp S6 rfl rfl
 refine DN.res (l := [.tmp 4]) Try.results169 (res_tmp rfl rfl) rfl ?_
 obtain rfl := Option.some.inj h
 exact ⟨K5, rfl, f14⟩

/- loop.example/g00869/impl.copyLists -/
theorem i_copyLists_ok {w : World} {κ : Col} {a0 : Option Addr} {u0 : Nat} {p0 : (List (List Int))} (g0 : Rd (Rp.sl (Rp.int .i64)) κ w 0 a0 u0 p0) {r : (List (List Int))} (h : i_copyLists p0 = some r) : Ret Try.prog 156 [.slice a0 p0.length u0] w (fun v w' => ∃ (κ' : Col) (ra0 : Option Addr) (ru0 : Nat), v = .slice ra0 r.length ru0 ∧ Ent κ w κ' w' ∧ Oc (Ep.own (Ep.int .i64) 2) 22 κ' w' 2 ra0 ru0 r) := by
 unfold i_copyLists at h
 refine Ret.enter Try.func156 rfl Try.ntmps156 rfl ?_
 dsimp only [envOf]
 have hE := Ent.refl κ w
 refine WC.seq ?_
 refine WC.rs [(0, 2)] rfl ?_
 refine WO.pn 1 rfl ?_
 refine WO.fin ?_
 refine DN.seq ?_
 refine WC.seq ?_
 refine WC.rs [(0, 1), (1, 2)] rfl ?_
 refine WO.bl0 (κ := κ) (E := (Ep.own (Ep.int .i64) 2)) 2 rfl rfl rfl rfl rfl Try.underlying23 Tryinfo22 rfl fun a6 u6 w1 K2 S3 f4 => ⟨trivial, ?_⟩
 refine WO.pn 1 rfl ?_
 refine WO.fin ?_
 refine DN.seq ?_
 refine WC.seq ?_
 refine WC.seq ?_
 refine WC.rs [(0, 2), (1, 2), (2, 2)] rfl ?_
 refine WO.pn 1 rfl ?_
 refine WO.k2 rfl rfl rfl rfl (rn_len Try.runUnderlying23 rfl rfl) ?_
 refine WO.pn 1 rfl ?_
 refine WO.fin ?_
 refine DN.seq ?_
 have hN5 : (p0.length : Int) ≤ 9223372036854775807 := g0.len_le
 obtain ⟨q2, hq7, hK6⟩ := Option.bind_eq_some_iff.mp h
 clear h
 refine WC.meet (fun L w' => ∃ (κ' : Col) (s3 : (List (List Int))) (las3_0 : Option Addr) (lus3_0 : Nat), L = [(3, .slice las3_0 s3.length lus3_0)] ∧ Stp [2, 3, 4] K2 w1 κ' w' ∧ Oc (Ep.own (Ep.int .i64) 2) 22 κ' w' 2 las3_0 lus3_0 s3 ∧ q2 = Sum.inr s3) ?_ ?_
 ·
  refine WC.block ?_
  refine WC.loop (fun k L w' => ∃ (κ' : Col) (v9 : Int) (s1 : (List (List Int))) (las1_0 : Option Addr) (lus1_0 : Nat), L = [(3, .slice las1_0 s1.length lus1_0), (7, .slice a0 p0.length u0), (8, .int .i64 (p0.length : Int)), (9, .int .i64 v9)] ∧ Stp [2, 3, 4] K2 w1 κ' w' ∧ Oc (Ep.own (Ep.int .i64) 2) 22 κ' w' 2 las1_0 lus1_0 s1 ∧ 0 ≤ v9 ∧ Int.toNat ((p0.length : Int) - v9) = k ∧ cntM (i_copyLists_b0 p0) k v9 s1 = some q2) ⟨_, _, ⟨K2, 0, (([] : List (List Int)) : (List (List Int))), a6, u6, rfl, (Stp.refl _ _).wk rfl, f4, (by decide), (by simp), hq7⟩, fun a ha => (ha.more (ha.more (ha.more (ha.more ha.nil rfl) rfl) rfl) rfl)⟩ ?_
  rintro k _ w12 ⟨K13, v9, s1, las1_0, lus1_0, rfl, S14, f15, hj5, hJ5, h⟩
  rcases k with _ | k
  ·
   have hk16 := h; obtain ⟨o5, h⟩ := ex_eq (Sum.inr (Sum.inl s1) : (List (List Int)) ⊕ (((List (List Int))) ⊕ ((List (List Int)))))
   have hc5 : decide (v9 < (p0.length : Int)) = false := decide_eq_false (by omega)
   refine WC.seq ?_
   refine WC.rs [(0, 2)] rfl ?_
   refine WO.pn 1 rfl ?_
   refine WO.fin ?_
   refine DN.seq ?_
   refine WC.seq ?_
   refine WC.cf' rfl hc5 ?_
   refine WC.exit ?_
   refine DN.exitThen ?_
   refine DN.exitThen ?_
   obtain rfl := Option.some.inj h
   have h := hk16
   refine DN.hit ?_
   obtain rfl := Option.some.inj h
   exact DN.meet _ ⟨K13, (s1 : (List (List Int))), las1_0, lus1_0, rfl, S14.wk rfl, f15, rfl⟩ fun a ha => (ha.more ha.nil rfl)
  ·
   obtain ⟨o5, h, hk16⟩ := Option.bind_eq_some_iff.mp h; unfold i_copyLists_b0 at h
   have hc5 : decide (v9 < (p0.length : Int)) = true := decide_eq_true (by omega)
   refine WC.seq ?_
   refine WC.rs [(0, 2)] rfl ?_
   refine WO.pn 1 rfl ?_
   refine WO.fin ?_
   refine DN.seq ?_
   refine WC.seq ?_
   refine WC.ct' rfl hc5 ?_
   refine WC.skip ?_
   refine DN.seq ?_
   refine WC.seq ?_
   refine WC.block ?_
   refine WC.seq ?_
   refine WC.rs [(0, 2), (1, 1), (2, 2)] rfl ?_
   obtain ⟨x11, hx11, h⟩ := Option.bind_eq_some_iff.mp h
   refine WO.k2 rfl rfl rfl rfl (rn_index g0 hx11 Try.runUnderlying23 Try.sizeOf22 rfl rfl rfl rfl) ?_
   have f17 := g0.stp (S3.tr S14) rfl rfl
   obtain ⟨ax11, ux11, f18, hl19⟩ := f17.gSl hx11
   refine WO.k1 trivial rfl rfl rfl rfl (rn_ld Try.isAgg22 rfl rfl (hvE hl19)) ?_
   refine WO.pn 1 rfl ?_
   refine WO.fin ?_
   refine DN.seq ?_
   refine WC.rs [(0, 2), (1, 1), (2, 2), (3, 1), (4, 1), (5, 1), (6, 2)] rfl ?_
   refine WO.pn 1 rfl ?_
   refine WO.bl0 (κ := K13) (E := (Ep.int .i64)) 3 rfl rfl rfl rfl rfl Try.underlying22 Tryinfo2 rfl fun a14 u14 w20 K21 S22 f23 => ⟨trivial, ?_⟩
   refine WO.pn 1 rfl ?_
   obtain ⟨x16, hx16, h⟩ := Option.bind_eq_some_iff.mp h
   have f24 := f18.stp S22 rfl rfl
   refine WO.app (κ := K21) (E := (Ep.int .i64)) 3 [] rfl rfl rfl rfl rfl rfl rfl rfl rfl Try.underlying22 Tryinfo2 rfl rfl rfl rfl f23 (Sl.srcP (pu_int _) f24) sy_false hx16 rfl fun a16 u16 w25 K26 S27 f28 => ⟨trivial, ?_⟩
   refine WO.bl (κ := K26) (E := (Ep.own (Ep.int .i64) 2)) 4 [3] (parts := [(0, .tmp 16)]) (cells := [.slice a16 x16.length u16]) (xs := ([x16] : List (List Int))) rfl rfl rfl rfl rfl rfl Try.underlying23 Tryinfo22 rfl rfl rfl rfl rfl rfl rfl rfl rfl rfl ⟨[.slice a16 x16.length u16], [], Zl K26 w25 [3], Zl K26 w25 [], rfl, Zl.sp (l1 := [3]) (l2 := []) rfl, Zl.sr (l1 := [3]) (l2 := []), ⟨_, _, rfl, f28⟩, rfl⟩ fun a17 u17 w29 K30 S31 f32 => ⟨trivial, ?_⟩
   obtain ⟨x18, hx18, h⟩ := Option.bind_eq_some_iff.mp h
   have f33 := f15.stp (S22.tr (S27.tr S31)) rfl rfl
   refine WO.app (κ := K30) (E := (Ep.own (Ep.int .i64) 2)) 2 [4] rfl rfl rfl rfl rfl rfl rfl rfl rfl Try.underlying23 Tryinfo22 rfl rfl rfl rfl f33 f32.src (sy_one rfl) hx18 rfl fun a18 u18 w34 K35 S36 f37 => ⟨trivial, ?_⟩
   refine WO.pn 1 rfl ?_
   refine WO.fin ?_
   refine DN.block ?_
   refine DN.seq ?_
   refine WC.rs [(0, 2), (1, 2)] rfl ?_
   refine WO.pn 2 rfl ?_
   refine WO.fin ?_
   have hw5 : IntKind.wrap .i64 (v9 + 1) = v9 + 1 := wr1 hj5 (of_decide_eq_true hc5) hN5
   rw [hw5]
   have hc5 := of_decide_eq_true hc5
   obtain rfl := Option.some.inj h
   refine DN.round fun a ha => ?_
   exact ⟨k, _, Nat.lt_succ_self _, ⟨K35, v9 + 1, (x18 : (List (List Int))), a18, u18, rfl, (S14.tr (S22.tr (S27.tr (S31.tr S36)))).wk rfl, f37, by omega, by omega, hk16⟩, (ha.more (ha.more (ha.more (ha.more ha.nil rfl) rfl) rfl) rfl)⟩
 rintro _ w8 ⟨K9, s3, las3_0, lus3_0, rfl, S10, f11, rfl⟩
 have h := hK6
 dsimp only [aft] at h
 refine DN.seq ?_
 refine WC.seq ?_
 refine WC.rs [(0, 2), (1, 2)] rfl ?_
 refine WO.pn 2 rfl ?_
 refine WO.fin ?_
 refine DN.seq ?_
 refine WC.ret ?_
 have f38 := hE.stp (S3.tr S10) rfl rfl
 refine DN.res (l := [.tmp 2]) Try.results156 (res_tmp rfl rfl) rfl ?_
 obtain rfl := Option.some.inj h
 exact ⟨K9, las3_0, lus3_0, rfl, f38, f11⟩

/- slices.isNaN[int64] -/
theorem slices_isNaN_int64_ok {w : World} {κ : Col} {p0 : Int}  {r : Bool} (h : slices_isNaN_int64 p0 = some r) : Ret Try.prog 160 [.int .i64 p0] w (fun v w' => ∃ (κ' : Col), v = .bool r ∧ Ent κ w κ' w') := by
 unfold slices_isNaN_int64 at h
 refine Ret.enter Try.func160 rfl Try.ntmps160 rfl ?_
 dsimp only [envOf]
 have hE := Ent.refl κ w
 refine WC.seq ?_
 refine WC.rs [(0, 2)] rfl ?_
 refine WO.pn 1 rfl ?_
 refine WO.fin ?_
 refine DN.seq ?_
 refine WC.seq ?_
 refine WC.rs [(0, 2), (1, 2), (2, 2), (3, 2)] rfl ?_
 refine WO.pn 4 rfl ?_
 refine WO.fin ?_
 refine DN.seq ?_
 refine WC.ret ?_
 refine DN.res (l := [.tmp 2]) Try.results160 (res_tmp rfl rfl) rfl ?_
 obtain rfl := Option.some.inj h
 exact ⟨κ, rfl, hE⟩

/- slices.Sort[[]int64,int64] -/
theorem slices_Sort_I_int64_ok {w : World} {κ : Col} {a0 : Option Addr} {u0 : Nat} {p0 : (List Int)} (g0 : Oc (Ep.int .i64) 2 κ w 2 a0 u0 p0) {r : (List Int)} (h : slices_Sort_I_int64 p0 = some r) : Ret Try.prog 130 [.slice a0 p0.length u0] w (fun v w' => ∃ (κ' : Col), v = .tuple #[] ∧ Ent κ w κ' w' ∧ Oc (Ep.int .i64) 2 κ' w' 2 a0 u0 r ∧ p0.length = r.length) := by
  unfold slices_Sort_I_int64 at h
  split at h
  · rename_i hh
    cases h
    exact sort_ok (fun blk off cap zs w hH hb hz => Try.slices_Sort_int blk off cap zs w hH hb hz) g0 hh.1 hh.2
  · cases h


/- loop.example/g00869/laws.markInt64S -/
theorem l_markInt64S_ok {w : World} {κ : Col} {a0 : Option Addr} {u0 : Nat} {p0 : (List Int)} {p1 : Int} (g0 : Oc (Ep.int .i64) 2 κ w 2 a0 u0 p0) {r : Int × (List Int)} (h : l_markInt64S p0 p1 = some r) : Ret Try.prog 15 [.slice a0 p0.length u0, .int .i64 p1] w (fun v w' => ∃ (κ' : Col), v = .int .i64 r.1 ∧ Ent κ w κ' w' ∧ Oc (Ep.int .i64) 2 κ' w' 2 a0 u0 r.2 ∧ p0.length = r.2.length) := by
 unfold l_markInt64S at h
 refine Ret.enter Try.func15 rfl Try.ntmps15 rfl ?_
 dsimp only [envOf]
 have hE := Ent.refl κ w
 refine WC.seq ?_
 refine WC.rs [(0, 2)] rfl ?_
 refine WO.pn 1 rfl ?_
 refine WO.fin ?_
 refine DN.seq ?_
 refine WC.seq ?_
 refine WC.seq ?_
 refine WC.rs [(0, 2)] rfl ?_
 refine WO.pn 1 rfl ?_
 refine WO.fin ?_
 refine DN.seq ?_
 have hN1 : (p0.length : Int) ≤ 9223372036854775807 := g0.len_le
 obtain ⟨q2, hq3, hK2⟩ := Option.bind_eq_some_iff.mp h
 clear h
 refine WC.meet (fun L w' => ∃ (κ' : Col) (s3 : Int × (List Int)), L = [(1, .int .i64 s3.1)] ∧ Stp [2] κ w κ' w' ∧ Oc (Ep.int .i64) 2 κ' w' 2 a0 u0 s3.2 ∧ p0.length = s3.2.length ∧ q2 = Sum.inr s3) ?_ ?_
 ·
  refine WC.block ?_
  refine WC.loop (fun k L w' => ∃ (κ' : Col) (v5 : Int) (s1 : Int × (List Int)), L = [(0, .slice a0 p0.length u0), (1, .int .i64 s1.1), (5, .int .i64 v5)] ∧ Stp [2] κ w κ' w' ∧ Oc (Ep.int .i64) 2 κ' w' 2 a0 u0 s1.2 ∧ p0.length = s1.2.length ∧ 0 ≤ v5 ∧ Int.toNat ((p0.length : Int) - v5) = k ∧ cntM l_markInt64S_b0 k v5 s1 = some q2) ⟨_, _, ⟨κ, 0, ((p1 : Int), (p0 : (List Int))), rfl, (Stp.refl _ _).wk rfl, g0, rfl, (by decide), (by simp), hq3⟩, fun a ha => (ha.more (ha.more (ha.more ha.nil rfl) rfl) rfl)⟩ ?_
  rintro k _ w9 ⟨K10, v5, s1, rfl, S11, f12, hn13, hj1, hJ1, h⟩
  rcases k with _ | k
  ·
   have hk14 := h; obtain ⟨o1, h⟩ := ex_eq (Sum.inr (Sum.inl s1) : (Int × (List Int)) ⊕ ((Int × (List Int)) ⊕ (Int × (List Int))))
   have hc1 : decide (v5 < (p0.length : Int)) = false := decide_eq_false (by omega)
   refine WC.seq ?_
   refine WC.seq ?_
   refine WC.rs [(0, 2), (1, 2), (2, 2), (3, 2)] rfl ?_
   refine WO.pn 2 rfl ?_
   refine WO.k2 rfl rfl rfl rfl (rn_len Try.runUnderlying22 rfl rfl) ?_
   refine WO.pn 1 rfl ?_
   refine WO.fin ?_
   refine DN.seq ?_
   refine WC.cf' rfl hc1 ?_
   refine WC.exit ?_
   refine DN.exitThen ?_
   refine DN.exitThen ?_
   obtain rfl := Option.some.inj h
   have h := hk14
   refine DN.hit ?_
   obtain rfl := Option.some.inj h
   exact DN.meet _ ⟨K10, ((s1.1 : Int), (s1.2 : (List Int))), rfl, S11.wk rfl, f12, hn13, rfl⟩ fun a ha => (ha.more ha.nil rfl)
  ·
   obtain ⟨o1, h, hk14⟩ := Option.bind_eq_some_iff.mp h; unfold l_markInt64S_b0 at h
   have hc1 : decide (v5 < (p0.length : Int)) = true := decide_eq_true (by omega)
   refine WC.seq ?_
   refine WC.seq ?_
   refine WC.rs [(0, 2), (1, 2), (2, 2), (3, 2)] rfl ?_
   refine WO.pn 2 rfl ?_
   refine WO.k2 rfl rfl rfl rfl (rn_len Try.runUnderlying22 rfl rfl) ?_
   refine WO.pn 1 rfl ?_
   refine WO.fin ?_
   refine DN.seq ?_
   refine WC.ct' rfl hc1 ?_
   refine WC.skip ?_
   refine DN.seq ?_
   refine WC.seq ?_
   refine WC.block ?_
   refine WC.seq ?_
   refine WC.rs [(0, 2), (1, 2), (2, 2), (3, 2), (4, 1)] rfl ?_
   refine WO.pn 3 rfl ?_
   obtain ⟨x15, hx15, h⟩ := Option.bind_eq_some_iff.mp h
   refine WO.k2 rfl rfl rfl rfl (rn_index f12.rdc hx15 Try.runUnderlying22 Try.sizeOf2 rfl rfl hn13 rfl) ?_
   obtain ⟨y80, hy80, h⟩ := Option.bind_eq_some_iff.mp h
   refine WO.stI (κ := K10) (E := (Ep.int .i64)) 2 [] rfl rfl rfl rfl rfl rfl rfl rfl Try.sizeOf2 rfl rfl rfl rfl f12 hy80 fun w15 K16 S17 f18 => ⟨trivial, ?_⟩
   have hn19 : p0.length = y80.length := hn13.trans (setI_ok hy80).2.2.2.symm
   refine WO.fin ?_
   refine DN.seq ?_
   refine WC.rs [(0, 2), (1, 2), (2, 2)] rfl ?_
   refine WO.pn 3 rfl ?_
   refine WO.fin ?_
   refine DN.block ?_
   refine DN.seq ?_
   refine WC.rs [(0, 2), (1, 2), (2, 2)] rfl ?_
   refine WO.pn 3 rfl ?_
   refine WO.fin ?_
   have hw1 : IntKind.wrap .i64 (v5 + 1) = v5 + 1 := wr1 hj1 (of_decide_eq_true hc1) hN1
   rw [hw1]
   have hc1 := of_decide_eq_true hc1
   obtain rfl := Option.some.inj h
   refine DN.round fun a ha => ?_
   exact ⟨k, _, Nat.lt_succ_self _, ⟨K16, v5 + 1, (((IntKind.i64.wrap (s1.1 + 1)) : Int), (y80 : (List Int))), rfl, (S11.tr S17).wk rfl, f18, hn19, by omega, by omega, hk14⟩, (ha.more (ha.more (ha.more ha.nil rfl) rfl) rfl)⟩
 rintro _ w4 ⟨K5, s3, rfl, S6, f7, hn8, rfl⟩
 have h := hK2
 dsimp only [aft] at h
 refine DN.seq ?_
 refine WC.seq ?_
 refine WC.rs [(0, 2), (1, 2)] rfl ?_
 refine WO.pn 2 rfl ?_
 refine WO.fin ?_
 refine DN.seq ?_
 refine WC.ret ?_
 have f20 := hE.stp S6 rfl rfl
 refine DN.res (l := [.tmp 4]) Try.results15 (res_tmp rfl rfl) rfl ?_
 obtain rfl := Option.some.inj h
 exact ⟨K5, rfl, f20, f7, hn8⟩

end Go.Proofs.Ytndiklipffipcaa
