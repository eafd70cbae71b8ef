/- The walks, part 8. By program. -/
import Derived.Test.YtndiklipffipcaaSort
import Derived.Test.YtndiklipffipcaaShelf
import Derived.Test.YtndiklipffipcaaFnsT6
import Derived.Test.YtndiklipffipcaaFnsT7
set_option linter.unusedVariables false
set_option linter.unusedSimpArgs false
namespace Go.Proofs.Ytndiklipffipcaa
open Go Go.Wk Go.Proofs
set_option maxRecDepth 100000
set_option maxHeartbeats 1000000

/- loop.example/g00869/spec.ParityOk -/
theorem s_ParityOk_ok {w : World} {κ : Col} {a0_0_0 : Option Addr} {u0_0_0 : Nat} {a0_0_1 : Option Addr} {u0_0_1 : Nat} {a0_1 : Option Addr} {u0_1 : Nat} {p0 : Parity} (g0_0_0 : Rd (Rp.int .i64) κ w 0 a0_0_0 u0_0_0 p0.Arena.Owner) (g0_0_1 : Rd (Rp.sl (Rp.int .i64)) κ w 0 a0_0_1 u0_0_1 p0.Arena.Next) (g0_1 : Rd (Rp.int .i64) κ w 0 a0_1 u0_1 p0.Prio) {r : Bool} (h : s_ParityOk p0 = some r) : Ret Try.prog 74 [.agg #[.slice a0_0_0 p0.Arena.Owner.length u0_0_0, .slice a0_0_1 p0.Arena.Next.length u0_0_1, .slice a0_1 p0.Prio.length u0_1]] w (fun v w' => ∃ (κ' : Col), v = .bool r ∧ Ent κ w κ' w') := by
 unfold s_ParityOk at h
 refine Ret.enter Try.func74 rfl Try.ntmps74 rfl ?_
 dsimp only [envOf]
 have hE := Ent.refl κ w
 refine WC.seq ?_
 refine WC.rs [(0, 1), (1, 2)] rfl ?_
 refine WO.box (κ := κ) 2 rfl rfl rfl rfl rfl rfl rfl fun b1 w1 K2 S3 f4 => ⟨trivial, ?_⟩
 refine WO.pn 1 rfl ?_
 refine WO.fin ?_
 refine DN.seq ?_
 refine WC.seq ?_
 refine WC.seq ?_
 refine WC.rs [(0, 2), (1, 1), (2, 1), (3, 2), (4, 2), (5, 2), (6, 1), (7, 2), (8, 2), (9, 2), (10, 1), (11, 2), (12, 2), (13, 2)] rfl ?_
 refine WO.k2 rfl rfl rfl rfl (rn_fieldAddr Try.runUnderlying34 rfl Try.sizeOf32 rfl rfl) ?_
 refine WO.k1 trivial rfl rfl rfl rfl (rn_la (cs := [.slice a0_0_0 p0.Arena.Owner.length u0_0_0, .slice a0_0_1 p0.Arena.Next.length u0_0_1]) Try.isAgg32 Try.sizeOf32 rfl rfl rfl (haE (f4.lds 0 2 rfl))) ?_
 obtain ⟨x6, hx6, h⟩ := Option.bind_eq_some_iff.mp h
 have f5 := g0_0_0.stp S3 rfl rfl
 have f6 := g0_0_1.stp S3 rfl rfl
 refine WO.call rfl rfl rfl rfl rfl rfl Try.call115 (s_ArenaOk_ok (κ := fun b => mp [] 0 (K2 b)) (p0 := p0.Arena) (Sl.map f5 (mp [] 0) rfl rfl) (Sl.map f6 (mp [] 0) rfl rfl) hx6) ?_
 rintro _ w7 ⟨k8, rfl, e9⟩
 obtain ⟨K10, S11, m12⟩ := Ent.mixed (l := []) (κ := K2) e9 3 rfl
 refine ⟨trivial, ?_⟩
 refine WO.pn 2 rfl ?_
 obtain ⟨p17, h, hK14⟩ := Option.bind_eq_some_iff.mp h
 refine WO.meet [(5, 2), (6, 1), (7, 2), (8, 2), (9, 2), (10, 1), (11, 2), (12, 2), (13, 2)] [] (fun L w' => L = [(1, .pointer (some ⟨b1, 0, none⟩)), (17, .bool p17)] ∧ ∃ κ', Stp [] K10 w7 κ' w') trivial ?_ ?_
 ·
  revert h
  cases ht15 : (!x6) with
  | true =>
   intro h; replace h := cT h
   refine WO.pn 1 rfl ?_
   refine WO.ls rfl rfl rfl rfl ?_
   refine WO.pn 3 rfl ?_
   refine WO.ls rfl rfl rfl rfl ?_
   refine WO.pn 3 rfl ?_
   obtain rfl := Option.some.inj h
   exact WO.met _ trivial ⟨rfl, _, (Stp.refl _ _).wk rfl⟩ fun a ha => (ha.more (ha.more ha.nil rfl) rfl)
  | false =>
   intro h; replace h := cF h
   refine WO.k2 rfl rfl rfl rfl (rn_fieldAddr Try.runUnderlying34 rfl Try.sizeOf22 rfl rfl) ?_
   have f16 := f4.stp S11 rfl rfl
   refine WO.k1 trivial rfl rfl rfl rfl (rn_ld Try.isAgg22 rfl rfl (hvE (f16.ld 2 rfl rfl))) ?_
   refine WO.k2 rfl rfl rfl rfl (rn_len Try.runUnderlying22 rfl rfl) ?_
   refine WO.k2 rfl rfl rfl rfl (rn_fieldAddr Try.runUnderlying34 rfl Try.sizeOf32 rfl rfl) ?_
   refine WO.k2 rfl rfl rfl rfl (rn_fieldAddr Try.runUnderlying32 rfl Try.sizeOf22 rfl rfl) ?_
   refine WO.k1 trivial rfl rfl rfl rfl (rn_ld Try.isAgg22 rfl rfl (hvE (f16.ld 0 rfl rfl))) ?_
   refine WO.k2 rfl rfl rfl rfl (rn_len Try.runUnderlying22 rfl rfl) ?_
   refine WO.pn 2 rfl ?_
   obtain rfl := Option.some.inj h
   exact WO.met _ trivial ⟨rfl, _, (Stp.refl _ _).wk rfl⟩ fun a ha => (ha.more (ha.more ha.nil rfl) rfl)
 rintro _ w17 _ ⟨rfl, K18, S19⟩
 have h := hK14
 refine WO.fin ?_
 refine DN.seq ?_
 revert h
 cases ht20 : p17 with
 | true =>
  intro h; replace h := cT h
  refine WC.ct rfl ?_
  refine WC.seq ?_
  refine WC.rs [(0, 2)] rfl ?_
  refine WO.pn 1 rfl ?_
  refine WO.fin ?_
  refine DN.seq ?_
  refine WC.ret ?_
  refine DN.retThen ?_
  have f21 := hE.stp (S3.tr (S11.tr S19)) rfl rfl
  refine DN.res (l := [.tmp 2]) Try.results74 (res_tmp rfl rfl) rfl ?_
  obtain rfl := Option.some.inj h
  exact ⟨K18, rfl, f21⟩
 | false =>
  intro h; replace h := cF h
  refine WC.cf rfl ?_
  refine WC.skip ?_
  refine DN.seq ?_
  refine WC.seq ?_
  refine WC.seq ?_
  refine WC.rs [(0, 2)] rfl ?_
  refine WO.pn 1 rfl ?_
  refine WO.fin ?_
  refine DN.seq ?_
  have hN22 : (p0.Prio.length : Int) ≤ 9223372036854775807 := g0_1.len_le
  obtain ⟨q2, hq24, hK23⟩ := Option.bind_eq_some_iff.mp h
  clear h
  refine WC.meet (fun L w' => ∃ (κ' : Col), L = [] ∧ Stp [] K18 w17 κ' w' ∧ q2 = Sum.inr ()) ?_ ?_
  ·
   refine WC.block ?_
   refine WC.loop (fun k L w' => ∃ (κ' : Col) (v3 : Int), L = [(1, .pointer (some ⟨b1, 0, none⟩)), (3, .int .i64 v3)] ∧ Stp [] K18 w17 κ' w' ∧ 0 ≤ v3 ∧ Int.toNat ((p0.Prio.length : Int) - v3) = k ∧ cntM (s_ParityOk_b0 p0) k v3 () = some q2) ⟨_, _, ⟨K18, 0, rfl, (Stp.refl _ _).wk rfl, (by decide), (by simp), hq24⟩, fun a ha => (ha.more (ha.more ha.nil rfl) rfl)⟩ ?_
   rintro k _ w28 ⟨K29, v3, rfl, S30, hj22, hJ22, h⟩
   rcases k with _ | k
   ·
    have hk31 := h; obtain ⟨o22, h⟩ := ex_eq (Sum.inr (Sum.inl ()) : Bool ⊕ ((Unit) ⊕ (Unit)))
    have hc22 : decide (v3 < (p0.Prio.length : Int)) = false := decide_eq_false (by omega)
    refine WC.seq ?_
    refine WC.seq ?_
    refine WC.rs [(0, 2), (1, 2), (2, 1), (3, 2), (4, 2)] rfl ?_
    refine WO.pn 1 rfl ?_
    refine WO.k2 rfl rfl rfl rfl (rn_fieldAddr Try.runUnderlying34 rfl Try.sizeOf22 rfl rfl) ?_
    have f32 := f4.stp (S11.tr (S19.tr S30)) rfl rfl
    refine WO.k1 trivial rfl rfl rfl rfl (rn_ld Try.isAgg22 rfl rfl (hvE (f32.ld 2 rfl rfl))) ?_
    refine WO.k2 rfl rfl rfl rfl (rn_len Try.runUnderlying22 rfl rfl) ?_
    refine WO.pn 1 rfl ?_
    refine WO.fin ?_
    refine DN.seq ?_
    refine WC.cf' rfl hc22 ?_
    refine WC.exit ?_
    refine DN.exitThen ?_
    refine DN.exitThen ?_
    obtain rfl := Option.some.inj h
    have h := hk31
    refine DN.hit ?_
    obtain rfl := Option.some.inj h
    exact DN.meet _ ⟨K29, rfl, S30.wk rfl, rfl⟩ fun a ha => ha.nil
   ·
    obtain ⟨o22, h, hk31⟩ := Option.bind_eq_some_iff.mp h; unfold s_ParityOk_b0 at h
    have hc22 : decide (v3 < (p0.Prio.length : Int)) = true := decide_eq_true (by omega)
    refine WC.seq ?_
    refine WC.seq ?_
    refine WC.rs [(0, 2), (1, 2), (2, 1), (3, 2), (4, 2)] rfl ?_
    refine WO.pn 1 rfl ?_
    refine WO.k2 rfl rfl rfl rfl (rn_fieldAddr Try.runUnderlying34 rfl Try.sizeOf22 rfl rfl) ?_
    have f33 := f4.stp (S11.tr (S19.tr S30)) rfl rfl
    refine WO.k1 trivial rfl rfl rfl rfl (rn_ld Try.isAgg22 rfl rfl (hvE (f33.ld 2 rfl rfl))) ?_
    refine WO.k2 rfl rfl rfl rfl (rn_len Try.runUnderlying22 rfl rfl) ?_
    refine WO.pn 1 rfl ?_
    refine WO.fin ?_
    refine DN.seq ?_
    refine WC.ct' rfl hc22 ?_
    refine WC.skip ?_
    refine DN.seq ?_
    refine WC.seq ?_
    refine WC.block ?_
    refine WC.seq ?_
    refine WC.rs [(0, 2), (1, 1), (2, 2), (3, 2), (4, 1), (5, 1), (6, 2)] rfl ?_
    refine WO.k2 rfl rfl rfl rfl (rn_fieldAddr Try.runUnderlying34 rfl Try.sizeOf22 rfl rfl) ?_
    refine WO.k1 trivial rfl rfl rfl rfl (rn_ld Try.isAgg22 rfl rfl (hvE (f33.ld 2 rfl rfl))) ?_
    refine WO.pn 1 rfl ?_
    obtain ⟨x28, hx28, h⟩ := Option.bind_eq_some_iff.mp h
    refine WO.k2 rfl rfl rfl rfl (rn_index g0_1 hx28 Try.runUnderlying22 Try.sizeOf2 rfl rfl rfl rfl) ?_
    have f34 := g0_1.stp (S3.tr (S11.tr (S19.tr S30))) rfl rfl
    refine WO.k1 trivial rfl rfl rfl rfl (rn_ld Try.isAgg2 rfl rfl (hvE (f34.gInt hx28))) ?_
    obtain ⟨x30, hx30, h⟩ := Option.bind_eq_some_iff.mp h
    refine WO.call rfl rfl rfl rfl rfl rfl Try.call75 (s_l1In_ok (κ := fun b => mp [] 0 (K29 b)) hx30) ?_
    rintro _ w35 ⟨k36, rfl, e37⟩
    obtain ⟨K38, S39, m40⟩ := Ent.mixed (l := []) (κ := K29) e37 5 rfl
    refine ⟨trivial, ?_⟩
    refine WO.pn 1 rfl ?_
    refine WO.fin ?_
    refine DN.seq ?_
    revert h
    cases ht42 : (!x30) with
    | true =>
     intro h; replace h := cT h
     refine WC.ct rfl ?_
     refine WC.seq ?_
     refine WC.rs [(0, 2)] rfl ?_
     refine WO.pn 1 rfl ?_
     refine WO.fin ?_
     refine DN.seq ?_
     refine WC.ret ?_
     refine DN.retBlock ?_
     refine DN.retThen ?_
     refine DN.retThen ?_
     obtain rfl := Option.some.inj h
     obtain rfl := Option.some.inj hk31
     have h := hK23
     dsimp only [aft] at h
     refine DN.retBlock ?_
     refine DN.retMeet ?_
     refine DN.retThen ?_
     have f43 := hE.stp (S3.tr (S11.tr (S19.tr (S30.tr S39)))) rfl rfl
     refine DN.res (l := [.tmp 2]) Try.results74 (res_tmp rfl rfl) rfl ?_
     obtain rfl := Option.some.inj h
     exact ⟨K38, rfl, f43⟩
    | false =>
     intro h; replace h := cF h
     refine WC.cf rfl ?_
     refine WC.skip ?_
     refine DN.block ?_
     refine DN.seq ?_
     refine WC.rs [(0, 2), (1, 2), (2, 2)] rfl ?_
     refine WO.pn 3 rfl ?_
     refine WO.fin ?_
     have hw22 : IntKind.wrap .i64 (v3 + 1) = v3 + 1 := wr1 hj22 (of_decide_eq_true hc22) hN22
     rw [hw22]
     have hc22 := of_decide_eq_true hc22
     obtain rfl := Option.some.inj h
     refine DN.round fun a ha => ?_
     exact ⟨k, _, Nat.lt_succ_self _, ⟨K38, v3 + 1, rfl, (S30.tr S39).wk rfl, by omega, by omega, hk31⟩, (ha.more (ha.more ha.nil rfl) rfl)⟩
  rintro _ w25 ⟨K26, rfl, S27, rfl⟩
  have h := hK23
  dsimp only [aft] at h
  refine DN.seq ?_
  refine WC.seq ?_
  refine WC.rs [(0, 2)] rfl ?_
  refine WO.pn 1 rfl ?_
  refine WO.fin ?_
  refine DN.seq ?_
  refine WC.ret ?_
  have f44 := hE.stp (S3.tr (S11.tr (S19.tr S27))) rfl rfl
  refine DN.res (l := [.tmp 2]) Try.results74 (res_tmp rfl rfl) rfl ?_
  obtain rfl := Option.some.inj h
  exact ⟨K26, rfl, f44⟩

/- loop.example/g00869/spec.EditOk -/
theorem s_EditOk_ok {w : World} {κ : Col} {a0_0_0 : Option Addr} {u0_0_0 : Nat} {a0_0_1 : Option Addr} {u0_0_1 : Nat} {a0_1 : Option Addr} {u0_1 : Nat} {p0 : Parity} {p1 : Edit} (g0_0_0 : Rd (Rp.int .i64) κ w 0 a0_0_0 u0_0_0 p0.Arena.Owner) (g0_0_1 : Rd (Rp.sl (Rp.int .i64)) κ w 0 a0_0_1 u0_0_1 p0.Arena.Next) (g0_1 : Rd (Rp.int .i64) κ w 0 a0_1 u0_1 p0.Prio) {r : Bool} (h : s_EditOk p0 p1 = some r) : Ret Try.prog 38 [.agg #[.slice a0_0_0 p0.Arena.Owner.length u0_0_0, .slice a0_0_1 p0.Arena.Next.length u0_0_1, .slice a0_1 p0.Prio.length u0_1], .agg #[.int .i64 p1.Kind, .int .i64 p1.V, .int .i64 p1.N]] w (fun v w' => ∃ (κ' : Col), v = .bool r ∧ Ent κ w κ' w') := by
 unfold s_EditOk at h
 refine Ret.enter Try.func38 rfl Try.ntmps38 rfl ?_
 dsimp only [envOf]
 have hE := Ent.refl κ w
 refine WC.seq ?_
 refine WC.rs [(0, 1), (1, 1), (2, 2)] rfl ?_
 refine WO.box (κ := κ) 2 rfl rfl rfl rfl rfl rfl rfl fun b2 w1 K2 S3 f4 => ⟨trivial, ?_⟩
 refine WO.box (κ := K2) 3 rfl rfl rfl rfl rfl rfl rfl fun b3 w5 K6 S7 f8 => ⟨trivial, ?_⟩
 refine WO.pn 1 rfl ?_
 refine WO.fin ?_
 refine DN.seq ?_
 refine WC.seq ?_
 refine WC.rs [(0, 2), (1, 1), (2, 2), (3, 2)] rfl ?_
 refine WO.k2 rfl rfl rfl rfl (rn_fieldAddr Try.runUnderlying34 rfl Try.sizeOf22 rfl rfl) ?_
 have f9 := f4.stp S7 rfl rfl
 refine WO.k1 trivial rfl rfl rfl rfl (rn_ld Try.isAgg22 rfl rfl (hvE (f9.ld 2 rfl rfl))) ?_
 refine WO.k2 rfl rfl rfl rfl (rn_len Try.runUnderlying22 rfl rfl) ?_
 refine WO.pn 1 rfl ?_
 refine WO.fin ?_
 refine DN.seq ?_
 refine WC.seq ?_
 refine WC.seq ?_
 refine WC.rs [(0, 1), (1, 1), (2, 2), (3, 2), (4, 2), (5, 1), (6, 2), (7, 2), (8, 1), (9, 2), (10, 2)] rfl ?_
 refine WO.k1 trivial rfl rfl rfl rfl (rn_la (cs := [.slice a0_0_0 p0.Arena.Owner.length u0_0_0, .slice a0_0_1 p0.Arena.Next.length u0_0_1, .slice a0_1 p0.Prio.length u0_1]) Try.isAgg34 Try.sizeOf34 rfl rfl rfl (haE f9.cells)) ?_
 obtain ⟨x11, hx11, h⟩ := Option.bind_eq_some_iff.mp h
 have f10 := g0_0_0.stp (S3.tr S7) rfl rfl
 have f11 := g0_0_1.stp (S3.tr S7) rfl rfl
 have f12 := g0_1.stp (S3.tr S7) rfl rfl
 refine WO.call rfl rfl rfl rfl rfl rfl Try.call74 (s_ParityOk_ok (κ := fun b => mp [] 0 (K6 b)) (p0 := p0) (Sl.map f10 (mp [] 0) rfl rfl) (Sl.map f11 (mp [] 0) rfl rfl) (Sl.map f12 (mp [] 0) rfl rfl) hx11) ?_
 rintro _ w13 ⟨k14, rfl, e15⟩
 obtain ⟨K16, S17, m18⟩ := Ent.mixed (l := []) (κ := K6) e15 4 rfl
 refine ⟨trivial, ?_⟩
 refine WO.pn 2 rfl ?_
 obtain ⟨p20, h, hK20⟩ := Option.bind_eq_some_iff.mp h
 refine WO.meet [(4, 2), (5, 1), (6, 2), (7, 2), (8, 1), (9, 2), (10, 2)] [] (fun L w' => L = [(2, .pointer (some ⟨b2, 0, none⟩)), (3, .pointer (some ⟨b3, 0, none⟩)), (5, .int .i64 (p0.Prio.length : Int)), (20, .bool p20)] ∧ ∃ κ', Stp [] K16 w13 κ' w') trivial ?_ ?_
 ·
  revert h
  cases ht21 : (!x11) with
  | true =>
   intro h; replace h := cT h
   refine WO.pn 1 rfl ?_
   refine WO.ls rfl rfl rfl rfl ?_
   refine WO.pn 2 rfl ?_
   refine WO.ls rfl rfl rfl rfl ?_
   refine WO.pn 2 rfl ?_
   obtain rfl := Option.some.inj h
   exact WO.met _ trivial ⟨rfl, _, (Stp.refl _ _).wk rfl⟩ fun a ha => (ha.more (ha.more (ha.more (ha.more ha.nil rfl) rfl) rfl) rfl)
  | false =>
   intro h; replace h := cF h
   refine WO.k2 rfl rfl rfl rfl (rn_fieldAddr Try.runUnderlying36 rfl Try.sizeOf2 rfl rfl) ?_
   have f22 := f8.stp S17 rfl rfl
   refine WO.k1 trivial rfl rfl rfl rfl (rn_ld Try.isAgg2 rfl rfl (hvE (f22.ld 1 rfl rfl))) ?_
   refine WO.pn 2 rfl ?_
   obtain ⟨x18, hx18, h⟩ := Option.bind_eq_some_iff.mp h
   refine WO.call rfl rfl rfl rfl rfl rfl Try.call75 (s_l1In_ok (κ := fun b => mp [] 0 (K16 b)) hx18) ?_
   rintro _ w23 ⟨k24, rfl, e25⟩
   obtain ⟨K26, S27, m28⟩ := Ent.mixed (l := []) (κ := K16) e25 6 rfl
   refine ⟨trivial, ?_⟩
   refine WO.pn 2 rfl ?_
   obtain rfl := Option.some.inj h
   exact WO.met _ trivial ⟨rfl, _, S27.wk rfl⟩ fun a ha => (ha.more (ha.more (ha.more (ha.more ha.nil rfl) rfl) rfl) rfl)
 rintro _ w30 _ ⟨rfl, K31, S32⟩
 have h := hK20
 refine WO.fin ?_
 refine DN.seq ?_
 revert h
 cases ht33 : p20 with
 | true =>
  intro h; replace h := cT h
  refine WC.ct rfl ?_
  refine WC.seq ?_
  refine WC.rs [(0, 2)] rfl ?_
  refine WO.pn 1 rfl ?_
  refine WO.fin ?_
  refine DN.seq ?_
  refine WC.ret ?_
  refine DN.retThen ?_
  have f34 := hE.stp (S3.tr (S7.tr (S17.tr S32))) rfl rfl
  refine DN.res (l := [.tmp 4]) Try.results38 (res_tmp rfl rfl) rfl ?_
  obtain rfl := Option.some.inj h
  exact ⟨K31, rfl, f34⟩
 | false =>
  intro h; replace h := cF h
  refine WC.cf rfl ?_
  refine WC.skip ?_
  refine DN.seq ?_
  refine WC.seq ?_
  refine WC.rs [(0, 2), (1, 2), (2, 1), (3, 2), (4, 1), (5, 2), (6, 1), (7, 2)] rfl ?_
  refine WO.k2 rfl rfl rfl rfl (rn_fieldAddr Try.runUnderlying34 rfl Try.sizeOf32 rfl rfl) ?_
  refine WO.k2 rfl rfl rfl rfl (rn_fieldAddr Try.runUnderlying32 rfl Try.sizeOf23 rfl rfl) ?_
  have f35 := f9.stp (S17.tr S32) rfl rfl
  refine WO.k1 trivial rfl rfl rfl rfl (rn_ld Try.isAgg23 rfl rfl (hvE (f35.ld 1 rfl rfl))) ?_
  refine WO.k2 rfl rfl rfl rfl (rn_fieldAddr Try.runUnderlying36 rfl Try.sizeOf2 rfl rfl) ?_
  have f36 := f8.stp (S17.tr S32) rfl rfl
  refine WO.k1 trivial rfl rfl rfl rfl (rn_ld Try.isAgg2 rfl rfl (hvE (f36.ld 1 rfl rfl))) ?_
  obtain ⟨x26, hx26, h⟩ := Option.bind_eq_some_iff.mp h
  refine WO.k2 rfl rfl rfl rfl (rn_index f11 hx26 Try.runUnderlying23 Try.sizeOf22 rfl rfl rfl rfl) ?_
  have f37 := f11.stp (S17.tr S32) rfl rfl
  obtain ⟨ax26, ux26, f38, hl39⟩ := f37.gSl hx26
  refine WO.k1 trivial rfl rfl rfl rfl (rn_ld Try.isAgg22 rfl rfl (hvE hl39)) ?_
  refine WO.pn 1 rfl ?_
  refine WO.fin ?_
  refine DN.seq ?_
  refine WC.seq ?_
  refine WC.seq ?_
  refine WC.rs [(0, 2), (1, 1)] rfl ?_
  refine WO.k2 rfl rfl rfl rfl (rn_fieldAddr Try.runUnderlying36 rfl Try.sizeOf2 rfl rfl) ?_
  refine WO.k1 trivial rfl rfl rfl rfl (rn_ld Try.isAgg2 rfl rfl (hvE (f36.ld 0 rfl rfl))) ?_
  refine WO.fin ?_
  refine DN.seq ?_
  refine WC.block ?_
  refine WC.seq ?_
  refine WC.rs [(0, 2), (1, 2)] rfl ?_
  refine WO.pn 2 rfl ?_
  refine WO.fin ?_
  refine DN.seq ?_
  revert h
  cases ht40 : (p1.Kind == 1) with
  | true =>
   intro h; replace h := cT h
   refine WC.ct rfl ?_
   refine WC.seq ?_
   refine WC.rs [(0, 2), (1, 1), (2, 1), (3, 2)] rfl ?_
   refine WO.k2 rfl rfl rfl rfl (rn_fieldAddr Try.runUnderlying36 rfl Try.sizeOf2 rfl rfl) ?_
   refine WO.k1 trivial rfl rfl rfl rfl (rn_ld Try.isAgg2 rfl rfl (hvE (f36.ld 2 rfl rfl))) ?_
   obtain ⟨x34, hx34, h⟩ := Option.bind_eq_some_iff.mp h
   refine WO.call rfl rfl rfl rfl rfl rfl Try.call75 (s_l1In_ok (κ := fun b => mp [] 0 (K31 b)) hx34) ?_
   rintro _ w41 ⟨k42, rfl, e43⟩
   obtain ⟨K44, S45, m46⟩ := Ent.mixed (l := []) (κ := K31) e43 6 rfl
   refine ⟨trivial, ?_⟩
   refine WO.pn 1 rfl ?_
   refine WO.fin ?_
   refine DN.seq ?_
   refine WC.ret ?_
   refine DN.retBlock ?_
   refine DN.retThen ?_
   have f48 := hE.stp (S3.tr (S7.tr (S17.tr (S32.tr S45)))) rfl rfl
   refine DN.res (l := [.tmp 4]) Try.results38 (res_tmp rfl rfl) rfl ?_
   obtain rfl := Option.some.inj h
   exact ⟨K44, rfl, f48⟩
  | false =>
   intro h; replace h := cF h
   refine WC.cf rfl ?_
   refine WC.seq ?_
   refine WC.rs [(0, 2), (1, 2)] rfl ?_
   refine WO.pn 2 rfl ?_
   refine WO.fin ?_
   refine DN.seq ?_
   revert h
   cases ht49 : (p1.Kind == 2) with
   | true =>
    intro h; replace h := cT h
    refine WC.ct rfl ?_
    refine WC.seq ?_
    refine WC.rs [(0, 2), (1, 1), (2, 1), (3, 2)] rfl ?_
    refine WO.k2 rfl rfl rfl rfl (rn_fieldAddr Try.runUnderlying36 rfl Try.sizeOf2 rfl rfl) ?_
    refine WO.k1 trivial rfl rfl rfl rfl (rn_ld Try.isAgg2 rfl rfl (hvE (f36.ld 2 rfl rfl))) ?_
    obtain ⟨x39, hx39, h⟩ := Option.bind_eq_some_iff.mp h
    refine WO.call rfl rfl rfl rfl rfl rfl Try.call75 (s_l1In_ok (κ := fun b => mp [] 0 (K31 b)) hx39) ?_
    rintro _ w50 ⟨k51, rfl, e52⟩
    obtain ⟨K53, S54, m55⟩ := Ent.mixed (l := []) (κ := K31) e52 6 rfl
    refine ⟨trivial, ?_⟩
    refine WO.pn 1 rfl ?_
    refine WO.fin ?_
    refine DN.seq ?_
    refine WC.ret ?_
    refine DN.retBlock ?_
    refine DN.retThen ?_
    have f57 := hE.stp (S3.tr (S7.tr (S17.tr (S32.tr S54)))) rfl rfl
    refine DN.res (l := [.tmp 4]) Try.results38 (res_tmp rfl rfl) rfl ?_
    obtain rfl := Option.some.inj h
    exact ⟨K53, rfl, f57⟩
   | false =>
    intro h; replace h := cF h
    refine WC.cf rfl ?_
    refine WC.seq ?_
    refine WC.rs [(0, 2), (1, 2)] rfl ?_
    refine WO.pn 2 rfl ?_
    refine WO.fin ?_
    refine DN.seq ?_
    revert h
    cases ht58 : (p1.Kind == 3) with
    | true =>
     intro h; replace h := cT h
     refine WC.ct rfl ?_
     refine WC.seq ?_
     refine WC.rs [(0, 2), (1, 1), (2, 2), (3, 2), (4, 1), (5, 2), (6, 2), (7, 2), (8, 1), (9, 1), (10, 2), (11, 2), (12, 2), (13, 2), (14, 2), (15, 2), (16, 2), (17, 2)] rfl ?_
     refine WO.k2 rfl rfl rfl rfl (rn_fieldAddr Try.runUnderlying36 rfl Try.sizeOf2 rfl rfl) ?_
     refine WO.k1 trivial rfl rfl rfl rfl (rn_ld Try.isAgg2 rfl rfl (hvE (f36.ld 2 rfl rfl))) ?_
     refine WO.pn 2 rfl ?_
     obtain ⟨x46, hx46, h⟩ := Option.bind_eq_some_iff.mp h
     refine WO.call rfl rfl rfl rfl rfl rfl Try.call75 (s_l1In_ok (κ := fun b => mp [] 0 (K31 b)) hx46) ?_
     rintro _ w59 ⟨k60, rfl, e61⟩
     obtain ⟨K62, S63, m64⟩ := Ent.mixed (l := []) (κ := K31) e61 6 rfl
     refine ⟨trivial, ?_⟩
     refine WO.pn 1 rfl ?_
     obtain ⟨p53, h, hK66⟩ := Option.bind_eq_some_iff.mp h
     refine WO.meet [(6, 2), (7, 2), (8, 1), (9, 1), (10, 2), (11, 2)] [(12, 2), (13, 2), (14, 2), (15, 2), (16, 2), (17, 2)] (fun L w' => L = [(6, .slice ax26 x26.length ux26), (53, .bool p53)] ∧ ∃ κ', Stp [] K62 w59 κ' w') trivial ?_ ?_
     ·
      revert h
      cases ht67 : x46 with
      | true =>
       intro h; replace h := cT h
       refine WO.pn 1 rfl ?_
       refine WO.k2 rfl rfl rfl rfl (rn_fieldAddr Try.runUnderlying36 rfl Try.sizeOf2 rfl rfl) ?_
       have f68 := f36.stp S63 rfl rfl
       refine WO.k1 trivial rfl rfl rfl rfl (rn_ld Try.isAgg2 rfl rfl (hvE (f68.ld 2 rfl rfl))) ?_
       obtain ⟨x51, hx51, h⟩ := Option.bind_eq_some_iff.mp h
       have f69 := f38.stp S63 rfl rfl
       refine WO.call rfl rfl rfl rfl rfl rfl Try.call76 (s_l16Has_ok (κ := fun b => mp [] 0 (K62 b)) (Sl.map f69 (mp [] 0) rfl rfl) hx51) ?_
       rintro _ w70 ⟨k71, rfl, e72⟩
       obtain ⟨K73, S74, m75⟩ := Ent.mixed (l := []) (κ := K62) e72 8 rfl
       refine ⟨trivial, ?_⟩
       refine WO.pn 2 rfl ?_
       obtain rfl := Option.some.inj h
       exact WO.met _ trivial ⟨rfl, _, S74.wk rfl⟩ fun a ha => (ha.more (ha.more ha.nil rfl) rfl)
      | false =>
       intro h; replace h := cF h
       refine WO.pn 2 rfl ?_
       refine WO.ls rfl rfl rfl rfl ?_
       refine WO.ls rfl rfl rfl rfl ?_
       refine WO.pn 2 rfl ?_
       obtain rfl := Option.some.inj h
       exact WO.met _ trivial ⟨rfl, _, (Stp.refl _ _).wk rfl⟩ fun a ha => (ha.more (ha.more ha.nil rfl) rfl)
     rintro _ w77 _ ⟨rfl, K78, S79⟩
     have h := hK66
     refine WO.pn 1 rfl ?_
     obtain ⟨p58, h, hK80⟩ := Option.bind_eq_some_iff.mp h
     refine WO.meet [(13, 2), (14, 2), (15, 2), (16, 2)] [(17, 2)] (fun L w' => L = [(58, .bool p58)] ∧ ∃ κ', Stp [] K78 w77 κ' w') trivial ?_ ?_
     ·
      revert h
      cases ht81 : p53 with
      | true =>
       intro h; replace h := cT h
       refine WO.pn 1 rfl ?_
       refine WO.k2 rfl rfl rfl rfl (rn_len Try.runUnderlying22 rfl rfl) ?_
       refine WO.pn 2 rfl ?_
       obtain rfl := Option.some.inj h
       exact WO.met _ trivial ⟨rfl, _, (Stp.refl _ _).wk rfl⟩ fun a ha => (ha.more ha.nil rfl)
      | false =>
       intro h; replace h := cF h
       refine WO.pn 4 rfl ?_
       obtain rfl := Option.some.inj h
       exact WO.met _ trivial ⟨rfl, _, (Stp.refl _ _).wk rfl⟩ fun a ha => (ha.more ha.nil rfl)
     rintro _ w82 _ ⟨rfl, K83, S84⟩
     have h := hK80
     refine WO.pn 1 rfl ?_
     refine WO.fin ?_
     refine DN.seq ?_
     refine WC.ret ?_
     refine DN.retBlock ?_
     refine DN.retThen ?_
     have f85 := hE.stp (S3.tr (S7.tr (S17.tr (S32.tr (S63.tr (S79.tr S84)))))) rfl rfl
     refine DN.res (l := [.tmp 4]) Try.results38 (res_tmp rfl rfl) rfl ?_
     obtain rfl := Option.some.inj h
     exact ⟨K83, rfl, f85⟩
    | false =>
     intro h; replace h := cF h
     refine WC.cf rfl ?_
     refine WC.seq ?_
     refine WC.rs [(0, 2), (1, 2)] rfl ?_
     refine WO.pn 2 rfl ?_
     refine WO.fin ?_
     refine DN.seq ?_
     revert h
     cases ht86 : (p1.Kind == 4) with
     | true =>
      intro h; replace h := cT h
      refine WC.ct rfl ?_
      refine WC.seq ?_
      refine WC.rs [(0, 2), (1, 2), (2, 1), (3, 1), (4, 2), (5, 2), (6, 2), (7, 2), (8, 2), (9, 2)] rfl ?_
      refine WO.pn 1 rfl ?_
      refine WO.k2 rfl rfl rfl rfl (rn_fieldAddr Try.runUnderlying36 rfl Try.sizeOf2 rfl rfl) ?_
      refine WO.k1 trivial rfl rfl rfl rfl (rn_ld Try.isAgg2 rfl rfl (hvE (f36.ld 2 rfl rfl))) ?_
      obtain ⟨x64, hx64, h⟩ := Option.bind_eq_some_iff.mp h
      refine WO.call rfl rfl rfl rfl rfl rfl Try.call76 (s_l16Has_ok (κ := fun b => mp [] 0 (K31 b)) (Sl.map f38 (mp [] 0) rfl rfl) hx64) ?_
      rintro _ w87 ⟨k88, rfl, e89⟩
      obtain ⟨K90, S91, m92⟩ := Ent.mixed (l := []) (κ := K31) e89 6 rfl
      refine ⟨trivial, ?_⟩
      refine WO.pn 1 rfl ?_
      obtain ⟨p69, h, hK94⟩ := Option.bind_eq_some_iff.mp h
      refine WO.meet [(5, 2), (6, 2), (7, 2), (8, 2)] [(9, 2)] (fun L w' => L = [(69, .bool p69)] ∧ ∃ κ', Stp [] K90 w87 κ' w') trivial ?_ ?_
      ·
       revert h
       cases ht95 : x64 with
       | true =>
        intro h; replace h := cT h
        refine WO.pn 1 rfl ?_
        refine WO.k2 rfl rfl rfl rfl (rn_len Try.runUnderlying22 rfl rfl) ?_
        refine WO.pn 2 rfl ?_
        obtain rfl := Option.some.inj h
        exact WO.met _ trivial ⟨rfl, _, (Stp.refl _ _).wk rfl⟩ fun a ha => (ha.more ha.nil rfl)
       | false =>
        intro h; replace h := cF h
        refine WO.pn 4 rfl ?_
        obtain rfl := Option.some.inj h
        exact WO.met _ trivial ⟨rfl, _, (Stp.refl _ _).wk rfl⟩ fun a ha => (ha.more ha.nil rfl)
      rintro _ w96 _ ⟨rfl, K97, S98⟩
      have h := hK94
      refine WO.pn 1 rfl ?_
      refine WO.fin ?_
      refine DN.seq ?_
      refine WC.ret ?_
      refine DN.retBlock ?_
      refine DN.retThen ?_
      have f99 := hE.stp (S3.tr (S7.tr (S17.tr (S32.tr (S91.tr S98))))) rfl rfl
      refine DN.res (l := [.tmp 4]) Try.results38 (res_tmp rfl rfl) rfl ?_
      obtain rfl := Option.some.inj h
      exact ⟨K97, rfl, f99⟩
     | false =>
      intro h; replace h := cF h
      refine WC.cf rfl ?_
      refine WC.skip ?_
      refine DN.block ?_
      refine DN.seq ?_
      refine WC.seq ?_
      refine WC.rs [(0, 2)] rfl ?_
      refine WO.pn 1 rfl ?_
      refine WO.fin ?_
      refine DN.seq ?_
      refine WC.ret ?_
      have f100 := hE.stp (S3.tr (S7.tr (S17.tr S32))) rfl rfl
      refine DN.res (l := [.tmp 4]) Try.results38 (res_tmp rfl rfl) rfl ?_
      obtain rfl := Option.some.inj h
      exact ⟨K31, rfl, f100⟩

/- loop.example/g00869/spec.l7Won -/
theorem s_l7Won_ok {w : World} {κ : Col} {a0_0_0 : Option Addr} {u0_0_0 : Nat} {a0_0_1 : Option Addr} {u0_0_1 : Nat} {a0_1 : Option Addr} {u0_1 : Nat} {p0 : Parity} (g0_0_0 : Rd (Rp.int .i64) κ w 0 a0_0_0 u0_0_0 p0.Arena.Owner) (g0_0_1 : Rd (Rp.sl (Rp.int .i64)) κ w 0 a0_0_1 u0_0_1 p0.Arena.Next) (g0_1 : Rd (Rp.int .i64) κ w 0 a0_1 u0_1 p0.Prio) {r : (List Int)} (h : s_l7Won p0 = some r) : Ret Try.prog 39 [.agg #[.slice a0_0_0 p0.Arena.Owner.length u0_0_0, .slice a0_0_1 p0.Arena.Next.length u0_0_1, .slice a0_1 p0.Prio.length u0_1]] w (fun v w' => ∃ (κ' : Col) (ra0 : Option Addr) (ru0 : Nat), v = .slice ra0 r.length ru0 ∧ Ent κ w κ' w' ∧ Oc (Ep.int .i64) 2 κ' w' 2 ra0 ru0 r) := by
 unfold s_l7Won at h
 refine Ret.enter Try.func39 rfl Try.ntmps39 rfl ?_
 dsimp only [envOf]
 have hE := Ent.refl κ w
 refine WC.seq ?_
 refine WC.rs [(0, 1), (1, 2)] rfl ?_
 refine WO.box (κ := κ) 2 rfl rfl rfl rfl rfl rfl rfl fun b1 w1 K2 S3 f4 => ⟨trivial, ?_⟩
 refine WO.pn 1 rfl ?_
 refine WO.fin ?_
 refine DN.seq ?_
 refine WC.seq ?_
 refine WC.rx (κ := K2) [2] none [(2, 2), (0, 0), (3, 0), (4, 2), (1, 1), (5, 1), (6, 1), (7, 2)] [] (by kernel_rfl) (by kernel_rfl) fun w6 S5 => ?_
 refine WO.k2 rfl rfl rfl rfl (rn_fieldAddr Try.runUnderlying34 rfl Try.sizeOf22 rfl rfl) ?_
 have f7 := f4.stp S5 rfl rfl
 refine WO.k0 rfl rfl rfl rfl (rn_la (cs := [.slice a0_0_0 p0.Arena.Owner.length u0_0_0, .slice a0_0_1 p0.Arena.Next.length u0_0_1, .slice a0_1 p0.Prio.length u0_1]) Try.isAgg34 Try.sizeOf34 rfl rfl rfl (haC f7.cells rfl)) ?_
 refine WO.k0 rfl rfl rfl rfl (rn_ld Try.isAgg22 rfl rfl (hvC (f7.ld 2 rfl rfl) rfl)) ?_
 refine WO.k2 rfl rfl rfl rfl (rn_len Try.runUnderlying22 rfl rfl) ?_
 obtain ⟨x7, hx7, h⟩ := Option.bind_eq_some_iff.mp h
 have f8 := g0_0_0.stp (S3.tr S5) rfl rfl
 have f9 := g0_0_1.stp (S3.tr S5) rfl rfl
 have f10 := g0_1.stp (S3.tr S5) rfl rfl
 refine WO.call rfl rfl rfl rfl rfl rfl Try.call78 (s_l7Of_ok (κ := fun b => mp [] 1 (K2 b)) (p0 := p0) (Sl.map f8 (mp [] 1) rfl rfl) (Sl.map f9 (mp [] 1) rfl rfl) (Sl.map f10 (mp [] 1) rfl rfl) hx7) ?_
 rintro _ w11 ⟨k12, a7_0, u7_0, a7_1, u7_1, a7_2, u7_2, a7_3, u7_3, a7_4, u7_4, rfl, e13, f14, f15, f16, f17, f18⟩
 obtain ⟨K19, S20, m21, z22⟩ := Ent.mixed0 (l := []) (κ := K2) e13 3 rfl
 refine ⟨(S20.cl rfl), ?_⟩
 have f23 := f14.mx z22
 have f24 := f15.mx z22
 have f25 := f16.mx z22
 have f26 := f17.mx (no_own (no_int _) _) m21 rfl (rfl : 3 + 5 = 8)
 have f27 := f18.mx (no_int _) m21 rfl (rfl : 3 + 6 = 9)
 obtain ⟨x11, hx11, h⟩ := Option.bind_eq_some_iff.mp h
 refine WO.call rfl rfl rfl rfl rfl rfl Try.call79 (s_l7All_ok (κ := fun b => mp [] 0 (K19 b)) hx11) ?_
 rintro _ w28 ⟨k29, a11_0, u11_0, rfl, e30, f31⟩
 obtain ⟨K32, S33, m34⟩ := Ent.mixed (l := []) (κ := K19) e30 10 rfl
 refine ⟨((S20.tr S33).cl rfl), ?_⟩
 have f36 := f31.mx no_bool m34 rfl (rfl : 10 + 2 = 12)
 obtain ⟨x12, hx12, h⟩ := Option.bind_eq_some_iff.mp h
 have f37 := f23.stp S33 rfl rfl
 have f38 := f24.stp S33 rfl rfl
 have f39 := f25.stp S33 rfl rfl
 have f40 := f26.stp S33 rfl rfl
 have f41 := f27.stp S33 rfl rfl
 refine WO.call rfl rfl rfl rfl rfl rfl Try.call77 (s_l7Win_ok _ (κ := fun b => mp [] 0 (K32 b)) (p0 := x7) (Sl.map f37 (mp [] 0) rfl rfl) (Sl.map f38 (mp [] 0) rfl rfl) (Sl.map f39 (mp [] 0) rfl rfl) (Sl.map f40.rdc (mp [] 0) rfl rfl) (Sl.map f41.rdc (mp [] 0) rfl rfl) (Sl.map f36.rdc (mp [] 0) rfl rfl) hx12) ?_
 rintro _ w42 ⟨k43, a12_0, u12_0, rfl, e44, f45⟩
 obtain ⟨K46, S47, m48⟩ := Ent.mixed (l := []) (κ := K32) e44 13 rfl
 refine ⟨((S20.tr (S33.tr S47)).cl rfl), ?_⟩
 have f50 := f45.mx no_bool m48 rfl (rfl : 13 + 2 = 15)
 refine WO.pn 1 rfl ?_
 refine WO.nx ?_
 refine WO.fin ?_
 refine DN.seq ?_
 refine WC.seq ?_
 refine WC.rs [(0, 1), (1, 2)] rfl ?_
 refine WO.bl0 (κ := K46) (E := (Ep.int .i64)) 16 rfl rfl rfl rfl rfl Try.underlying22 Tryinfo2 rfl fun a13 u13 w51 K52 S53 f54 => ⟨trivial, ?_⟩
 refine WO.pn 1 rfl ?_
 refine WO.fin ?_
 refine DN.seq ?_
 refine WC.seq ?_
 refine WC.seq ?_
 refine WC.rs [(0, 2)] rfl ?_
 refine WO.pn 1 rfl ?_
 refine WO.fin ?_
 refine DN.seq ?_
 have hN55 : (x12.length : Int) ≤ 9223372036854775807 := f50.len_le
 obtain ⟨q2, hq57, hK56⟩ := Option.bind_eq_some_iff.mp h
 clear h
 refine WC.meet (fun L w' => ∃ (κ' : Col) (s3 : (List Int)) (las3_0 : Option Addr) (lus3_0 : Nat), L = [(4, .slice las3_0 s3.length lus3_0)] ∧ Stp [16] K52 w51 κ' w' ∧ Oc (Ep.int .i64) 2 κ' w' 16 las3_0 lus3_0 s3 ∧ q2 = Sum.inr s3) ?_ ?_
 ·
  refine WC.block ?_
  refine WC.loop (fun k L w' => ∃ (κ' : Col) (v5 : Int) (s1 : (List Int)) (las1_0 : Option Addr) (lus1_0 : Nat), L = [(3, .slice a12_0 x12.length u12_0), (4, .slice las1_0 s1.length lus1_0), (5, .int .i64 v5)] ∧ Stp [16] K52 w51 κ' w' ∧ Oc (Ep.int .i64) 2 κ' w' 16 las1_0 lus1_0 s1 ∧ 0 ≤ v5 ∧ Int.toNat ((x12.length : Int) - v5) = k ∧ cntM (s_l7Won_b0 x12) k v5 s1 = some q2) ⟨_, _, ⟨K52, 0, (([] : List Int) : (List Int)), a13, u13, rfl, (Stp.refl _ _).wk rfl, f54, (by decide), (by simp), hq57⟩, fun a ha => (ha.more (ha.more (ha.more ha.nil rfl) rfl) rfl)⟩ ?_
  rintro k _ w62 ⟨K63, v5, s1, las1_0, lus1_0, rfl, S64, f65, hj55, hJ55, h⟩
  rcases k with _ | k
  ·
   have hk66 := h; obtain ⟨o55, h⟩ := ex_eq (Sum.inr (Sum.inl s1) : (List Int) ⊕ (((List Int)) ⊕ ((List Int))))
   have hc55 : decide (v5 < (x12.length : Int)) = false := decide_eq_false (by omega)
   refine WC.seq ?_
   refine WC.seq ?_
   refine WC.rs [(0, 2), (1, 2), (2, 2), (3, 2)] rfl ?_
   refine WO.pn 2 rfl ?_
   refine WO.k2 rfl rfl rfl rfl (rn_len Try.runUnderlying118 rfl rfl) ?_
   refine WO.pn 1 rfl ?_
   refine WO.fin ?_
   refine DN.seq ?_
   refine WC.cf' rfl hc55 ?_
   refine WC.exit ?_
   refine DN.exitThen ?_
   refine DN.exitThen ?_
   obtain rfl := Option.some.inj h
   have h := hk66
   refine DN.hit ?_
   obtain rfl := Option.some.inj h
   exact DN.meet _ ⟨K63, (s1 : (List Int)), las1_0, lus1_0, rfl, S64.wk rfl, f65, rfl⟩ fun a ha => (ha.more ha.nil rfl)
  ·
   obtain ⟨o55, h, hk66⟩ := Option.bind_eq_some_iff.mp h; unfold s_l7Won_b0 at h
   have hc55 : decide (v5 < (x12.length : Int)) = true := decide_eq_true (by omega)
   refine WC.seq ?_
   refine WC.seq ?_
   refine WC.rs [(0, 2), (1, 2), (2, 2), (3, 2)] rfl ?_
   refine WO.pn 2 rfl ?_
   refine WO.k2 rfl rfl rfl rfl (rn_len Try.runUnderlying118 rfl rfl) ?_
   refine WO.pn 1 rfl ?_
   refine WO.fin ?_
   refine DN.seq ?_
   refine WC.ct' rfl hc55 ?_
   refine WC.skip ?_
   refine DN.seq ?_
   refine WC.seq ?_
   refine WC.block ?_
   refine WC.rs [(0, 2), (1, 2), (2, 2), (3, 2), (4, 1), (5, 1), (6, 2), (7, 1), (8, 1), (9, 2)] rfl ?_
   refine WO.pn 3 rfl ?_
   obtain ⟨x23, hx23, h⟩ := Option.bind_eq_some_iff.mp h
   refine WO.k2 rfl rfl rfl rfl (rn_index f50.rdc hx23 Try.runUnderlying118 Try.sizeOf4 rfl rfl rfl rfl) ?_
   have f67 := f50.stp (S53.tr S64) rfl rfl
   refine WO.k1 trivial rfl rfl rfl rfl (rn_ld Try.isAgg4 rfl rfl (hvE (f67.rdc.gBool hx23))) ?_
   obtain ⟨x25, hx25, h⟩ := Option.bind_eq_some_iff.mp h
   refine WO.call rfl rfl rfl rfl rfl rfl Try.call80 (s_l1Flag_ok (κ := fun b => mp [] 0 (K63 b)) hx25) ?_
   rintro _ w68 ⟨k69, rfl, e70⟩
   obtain ⟨K71, S72, m73⟩ := Ent.mixed (l := []) (κ := K63) e70 17 rfl
   refine ⟨trivial, ?_⟩
   refine WO.pn 1 rfl ?_
   refine WO.bl (κ := K71) (E := (Ep.int .i64)) 19 [] (parts := [(0, .tmp 26)]) (cells := [.int .i64 (IntKind.i64.wrap (1 - x25))]) (xs := ([(IntKind.i64.wrap (1 - x25))] : List Int)) rfl rfl rfl rfl rfl rfl Try.underlying22 Tryinfo2 rfl rfl rfl rfl rfl rfl rfl rfl rfl rfl ⟨[.int .i64 (IntKind.i64.wrap (1 - x25))], [], Zl K71 w68 [], Zl K71 w68 [], rfl, Zl.sp (l1 := []) (l2 := []) rfl, Zl.sr (l1 := []) (l2 := []), rfl, rfl⟩ fun a27 u27 w75 K76 S77 f78 => ⟨trivial, ?_⟩
   obtain ⟨x28, hx28, h⟩ := Option.bind_eq_some_iff.mp h
   have f79 := f65.stp (S72.tr S77) rfl rfl
   refine WO.app (κ := K76) (E := (Ep.int .i64)) 16 [] rfl rfl rfl rfl rfl rfl rfl rfl rfl Try.underlying22 Tryinfo2 rfl rfl rfl rfl f79 (Sl.srcP (pu_int _) f78.rdc) sy_false hx28 rfl fun a28 u28 w80 K81 S82 f83 => ⟨trivial, ?_⟩
   refine WO.pn 1 rfl ?_
   refine WO.fin ?_
   refine DN.block ?_
   refine DN.seq ?_
   refine WC.rs [(0, 2), (1, 2), (2, 2)] rfl ?_
   refine WO.pn 3 rfl ?_
   refine WO.fin ?_
   have hw55 : IntKind.wrap .i64 (v5 + 1) = v5 + 1 := wr1 hj55 (of_decide_eq_true hc55) hN55
   rw [hw55]
   have hc55 := of_decide_eq_true hc55
   obtain rfl := Option.some.inj h
   refine DN.round fun a ha => ?_
   exact ⟨k, _, Nat.lt_succ_self _, ⟨K81, v5 + 1, (x28 : (List Int)), a28, u28, rfl, (S64.tr (S72.tr (S77.tr S82))).wk rfl, f83, by omega, by omega, hk66⟩, (ha.more (ha.more (ha.more ha.nil rfl) rfl) rfl)⟩
 rintro _ w58 ⟨K59, s3, las3_0, lus3_0, rfl, S60, f61, rfl⟩
 have h := hK56
 dsimp only [aft] at h
 refine DN.seq ?_
 refine WC.seq ?_
 refine WC.rs [(0, 2), (1, 2)] rfl ?_
 refine WO.pn 2 rfl ?_
 refine WO.fin ?_
 refine DN.seq ?_
 refine WC.ret ?_
 have f84 := hE.stp (S3.tr (S5.tr (S20.tr (S33.tr (S47.tr (S53.tr S60)))))) rfl rfl
 refine DN.res (l := [.tmp 2]) Try.results39 (res_tmp rfl rfl) rfl ?_
 obtain rfl := Option.some.inj h
 exact ⟨(fun b => ren [(16, 2)] (K59 b)), las3_0, lus3_0, rfl, (f84.map (ren [(16, 2)]) rfl rfl), (f61.map (ren [(16, 2)]) rfl rfl)⟩

/- loop.example/g00869/spec.TurnedBy -/
theorem s_TurnedBy_ok {w : World} {κ : Col} {a0_0_0 : Option Addr} {u0_0_0 : Nat} {a0_0_1 : Option Addr} {u0_0_1 : Nat} {a0_1 : Option Addr} {u0_1 : Nat} {p0 : Parity} {p1 : Edit} (g0_0_0 : Rd (Rp.int .i64) κ w 0 a0_0_0 u0_0_0 p0.Arena.Owner) (g0_0_1 : Rd (Rp.sl (Rp.int .i64)) κ w 0 a0_0_1 u0_0_1 p0.Arena.Next) (g0_1 : Rd (Rp.int .i64) κ w 0 a0_1 u0_1 p0.Prio) {r : (List Int)} (h : s_TurnedBy p0 p1 = some r) : Ret Try.prog 8 [.agg #[.slice a0_0_0 p0.Arena.Owner.length u0_0_0, .slice a0_0_1 p0.Arena.Next.length u0_0_1, .slice a0_1 p0.Prio.length u0_1], .agg #[.int .i64 p1.Kind, .int .i64 p1.V, .int .i64 p1.N]] w (fun v w' => ∃ (κ' : Col) (ra0 : Option Addr) (ru0 : Nat), v = .slice ra0 r.length ru0 ∧ Ent κ w κ' w' ∧ Oc (Ep.int .i64) 2 κ' w' 2 ra0 ru0 r) := by
 unfold s_TurnedBy at h
 refine Ret.enter Try.func8 rfl Try.ntmps8 rfl ?_
 dsimp only [envOf]
 have hE := Ent.refl κ w
 refine WC.seq ?_
 refine WC.rs [(0, 1), (1, 1), (2, 2)] rfl ?_
 refine WO.box (κ := κ) 2 rfl rfl rfl rfl rfl rfl rfl fun b2 w1 K2 S3 f4 => ⟨trivial, ?_⟩
 refine WO.box (κ := K2) 3 rfl rfl rfl rfl rfl rfl rfl fun b3 w5 K6 S7 f8 => ⟨trivial, ?_⟩
 refine WO.pn 1 rfl ?_
 refine WO.fin ?_
 refine DN.seq ?_
 refine WC.seq ?_
 refine WC.rs [(0, 1), (1, 2)] rfl ?_
 refine WO.bl0 (κ := K6) (E := (Ep.int .i64)) 4 rfl rfl rfl rfl rfl Try.underlying22 Tryinfo2 rfl fun a9 u9 w9 K10 S11 f12 => ⟨trivial, ?_⟩
 refine WO.pn 1 rfl ?_
 refine WO.fin ?_
 refine DN.seq ?_
 refine WC.seq ?_
 refine WC.seq ?_
 refine WC.rs [(0, 1), (1, 1), (2, 1), (3, 2)] rfl ?_
 have f13 := f4.stp (S7.tr S11) rfl rfl
 refine WO.k1 trivial rfl rfl rfl rfl (rn_la (cs := [.slice a0_0_0 p0.Arena.Owner.length u0_0_0, .slice a0_0_1 p0.Arena.Next.length u0_0_1, .slice a0_1 p0.Prio.length u0_1]) Try.isAgg34 Try.sizeOf34 rfl rfl rfl (haE f13.cells)) ?_
 have f14 := f8.stp S11 rfl rfl
 refine WO.k1 trivial rfl rfl rfl rfl (rn_la (cs := [.int .i64 p1.Kind, .int .i64 p1.V, .int .i64 p1.N]) Try.isAgg36 Try.sizeOf36 rfl rfl rfl (haE f14.cells)) ?_
 obtain ⟨x12, hx12, h⟩ := Option.bind_eq_some_iff.mp h
 have f15 := g0_0_0.stp (S3.tr (S7.tr S11)) rfl rfl
 have f16 := g0_0_1.stp (S3.tr (S7.tr S11)) rfl rfl
 have f17 := g0_1.stp (S3.tr (S7.tr S11)) rfl rfl
 refine WO.call rfl rfl rfl rfl rfl rfl Try.call38 (s_EditOk_ok (κ := fun b => mp [] 0 (K10 b)) (p0 := p0) (p1 := p1) (Sl.map f15 (mp [] 0) rfl rfl) (Sl.map f16 (mp [] 0) rfl rfl) (Sl.map f17 (mp [] 0) rfl rfl) hx12) ?_
 rintro _ w18 ⟨k19, rfl, e20⟩
 obtain ⟨K21, S22, m23⟩ := Ent.mixed (l := []) (κ := K10) e20 5 rfl
 refine ⟨trivial, ?_⟩
 refine WO.pn 1 rfl ?_
 refine WO.fin ?_
 refine DN.seq ?_
 revert h
 cases ht25 : (!x12) with
 | true =>
  intro h; replace h := cT h
  refine WC.ct rfl ?_
  refine WC.seq ?_
  refine WC.rs [(0, 2), (1, 2)] rfl ?_
  refine WO.pn 2 rfl ?_
  refine WO.fin ?_
  refine DN.seq ?_
  refine WC.ret ?_
  refine DN.retThen ?_
  have f26 := hE.stp (S3.tr (S7.tr (S11.tr S22))) rfl rfl
  have f27 := f12.stp S22 rfl rfl
  refine DN.res (l := [.tmp 4]) Try.results8 (res_tmp rfl rfl) rfl ?_
  obtain rfl := Option.some.inj h
  exact ⟨(fun b => ren [(4, 2)] (K21 b)), a9, u9, rfl, (f26.map (ren [(4, 2)]) rfl rfl), (f27.map (ren [(4, 2)]) rfl rfl)⟩
 | false =>
  intro h; replace h := cF h
  refine WC.cf rfl ?_
  refine WC.skip ?_
  refine DN.seq ?_
  refine WC.seq ?_
  refine WC.rs [(0, 1), (1, 1), (2, 2)] rfl ?_
  have f28 := f13.stp S22 rfl rfl
  refine WO.k1 trivial rfl rfl rfl rfl (rn_la (cs := [.slice a0_0_0 p0.Arena.Owner.length u0_0_0, .slice a0_0_1 p0.Arena.Next.length u0_0_1, .slice a0_1 p0.Prio.length u0_1]) Try.isAgg34 Try.sizeOf34 rfl rfl rfl (haE f28.cells)) ?_
  obtain ⟨x16, hx16, h⟩ := Option.bind_eq_some_iff.mp h
  have f29 := f15.stp S22 rfl rfl
  have f30 := f16.stp S22 rfl rfl
  have f31 := f17.stp S22 rfl rfl
  refine WO.call rfl rfl rfl rfl rfl rfl Try.call39 (s_l7Won_ok (κ := fun b => mp [] 0 (K21 b)) (p0 := p0) (Sl.map f29 (mp [] 0) rfl rfl) (Sl.map f30 (mp [] 0) rfl rfl) (Sl.map f31 (mp [] 0) rfl rfl) hx16) ?_
  rintro _ w32 ⟨k33, a16_0, u16_0, rfl, e34, f35⟩
  obtain ⟨K36, S37, m38⟩ := Ent.mixed (l := []) (κ := K21) e34 7 rfl
  refine ⟨trivial, ?_⟩
  have f40 := f35.mx (no_int _) m38 rfl (rfl : 7 + 2 = 9)
  refine WO.pn 1 rfl ?_
  refine WO.fin ?_
  refine DN.seq ?_
  refine WC.seq ?_
  refine WC.rs [(0, 1), (1, 1), (2, 1), (3, 1), (4, 2)] rfl ?_
  have f41 := f28.stp S37 rfl rfl
  refine WO.k1 trivial rfl rfl rfl rfl (rn_la (cs := [.slice a0_0_0 p0.Arena.Owner.length u0_0_0, .slice a0_0_1 p0.Arena.Next.length u0_0_1, .slice a0_1 p0.Prio.length u0_1]) Try.isAgg34 Try.sizeOf34 rfl rfl rfl (haE f41.cells)) ?_
  have f42 := f14.stp (S22.tr S37) rfl rfl
  refine WO.k1 trivial rfl rfl rfl rfl (rn_la (cs := [.int .i64 p1.Kind, .int .i64 p1.V, .int .i64 p1.N]) Try.isAgg36 Try.sizeOf36 rfl rfl rfl (haE f42.cells)) ?_
  obtain ⟨x19, hx19, h⟩ := Option.bind_eq_some_iff.mp h
  have f43 := f29.stp S37 rfl rfl
  have f44 := f30.stp S37 rfl rfl
  have f45 := f31.stp S37 rfl rfl
  refine WO.call rfl rfl rfl rfl rfl rfl Try.call40 (s_l32Do_ok (κ := fun b => mp [] 1 (K36 b)) (p0 := p0) (p1 := p1) (Sl.map f43 (mp [] 1) rfl rfl) (Sl.map f44 (mp [] 1) rfl rfl) (Sl.map f45 (mp [] 1) rfl rfl) hx19) ?_
  rintro _ w46 ⟨k47, a19_0, u19_0, a19_1, u19_1, a19_2, u19_2, rfl, e48, f49, f50, f51⟩
  obtain ⟨K52, S53, m54, z55⟩ := Ent.mixed0 (l := []) (κ := K36) e48 10 rfl
  refine ⟨trivial, ?_⟩
  have f56 := f49.mx (no_int _) m54 rfl (rfl : 10 + 2 = 12)
  have f57 := f50.mxz z55 m54 rfl (rfl : 10 + 3 = 13)
  have f58 := f51.mx (no_int _) m54 rfl (rfl : 10 + 4 = 14)
  obtain ⟨x20, hx20, h⟩ := Option.bind_eq_some_iff.mp h
  refine WO.call rfl rfl rfl rfl rfl rfl Try.call39 (s_l7Won_ok (κ := fun b => mp [] 0 (K52 b)) (p0 := x19) (Sl.map f56.rdc (mp [] 0) rfl rfl) (Sl.map f57.rdc (mp [] 0) rfl rfl) (Sl.map f58.rdc (mp [] 0) rfl rfl) hx20) ?_
  rintro _ w59 ⟨k60, a20_0, u20_0, rfl, e61, f62⟩
  obtain ⟨K63, S64, m65⟩ := Ent.mixed (l := []) (κ := K52) e61 15 rfl
  refine ⟨trivial, ?_⟩
  have f67 := f62.mx (no_int _) m65 rfl (rfl : 15 + 2 = 17)
  refine WO.pn 1 rfl ?_
  refine WO.fin ?_
  refine DN.seq ?_
  refine WC.seq ?_
  refine WC.seq ?_
  refine WC.rs [(0, 2)] rfl ?_
  refine WO.pn 1 rfl ?_
  refine WO.fin ?_
  refine DN.seq ?_
  have hN68 : (x16.length : Int) ≤ 9223372036854775807 := f40.len_le
  obtain ⟨q2, hq70, hK69⟩ := Option.bind_eq_some_iff.mp h
  clear h
  refine WC.meet (fun L w' => ∃ (κ' : Col) (s3 : (List Int)) (las3_0 : Option Addr) (lus3_0 : Nat), L = [(5, .slice las3_0 s3.length lus3_0)] ∧ Stp [4] K63 w59 κ' w' ∧ Oc (Ep.int .i64) 2 κ' w' 4 las3_0 lus3_0 s3 ∧ q2 = Sum.inr s3) ?_ ?_
  ·
   refine WC.block ?_
   have f79 := f12.stp (S22.tr (S37.tr (S53.tr S64))) rfl rfl
   refine WC.loop (fun k L w' => ∃ (κ' : Col) (v8 : Int) (s1 : (List Int)) (las1_0 : Option Addr) (lus1_0 : Nat), L = [(5, .slice las1_0 s1.length lus1_0), (6, .slice a16_0 x16.length u16_0), (7, .slice a20_0 x20.length u20_0), (8, .int .i64 v8)] ∧ Stp [4] K63 w59 κ' w' ∧ Oc (Ep.int .i64) 2 κ' w' 4 las1_0 lus1_0 s1 ∧ 0 ≤ v8 ∧ Int.toNat ((x16.length : Int) - v8) = k ∧ cntM (s_TurnedBy_b0 x16 x20) k v8 s1 = some q2) ⟨_, _, ⟨K63, 0, (([] : List Int) : (List Int)), a9, u9, rfl, (Stp.refl _ _).wk rfl, f79, (by decide), (by simp), hq70⟩, fun a ha => (ha.more (ha.more (ha.more (ha.more ha.nil rfl) rfl) rfl) rfl)⟩ ?_
   rintro k _ w75 ⟨K76, v8, s1, las1_0, lus1_0, rfl, S77, f78, hj68, hJ68, h⟩
   rcases k with _ | k
   ·
    have hk80 := h; obtain ⟨o68, h⟩ := ex_eq (Sum.inr (Sum.inl s1) : (List Int) ⊕ (((List Int)) ⊕ ((List Int))))
    have hc68 : decide (v8 < (x16.length : Int)) = false := decide_eq_false (by omega)
    refine WC.seq ?_
    refine WC.seq ?_
    refine WC.rs [(0, 2), (1, 2), (2, 2), (3, 2)] rfl ?_
    refine WO.pn 2 rfl ?_
    refine WO.k2 rfl rfl rfl rfl (rn_len Try.runUnderlying22 rfl rfl) ?_
    refine WO.pn 1 rfl ?_
    refine WO.fin ?_
    refine DN.seq ?_
    refine WC.cf' rfl hc68 ?_
    refine WC.exit ?_
    refine DN.exitThen ?_
    refine DN.exitThen ?_
    obtain rfl := Option.some.inj h
    have h := hk80
    refine DN.hit ?_
    obtain rfl := Option.some.inj h
    exact DN.meet _ ⟨K76, (s1 : (List Int)), las1_0, lus1_0, rfl, S77.wk rfl, f78, rfl⟩ fun a ha => (ha.more ha.nil rfl)
   ·
    obtain ⟨o68, h, hk80⟩ := Option.bind_eq_some_iff.mp h; unfold s_TurnedBy_b0 at h
    have hc68 : decide (v8 < (x16.length : Int)) = true := decide_eq_true (by omega)
    refine WC.seq ?_
    refine WC.seq ?_
    refine WC.rs [(0, 2), (1, 2), (2, 2), (3, 2)] rfl ?_
    refine WO.pn 2 rfl ?_
    refine WO.k2 rfl rfl rfl rfl (rn_len Try.runUnderlying22 rfl rfl) ?_
    refine WO.pn 1 rfl ?_
    refine WO.fin ?_
    refine DN.seq ?_
    refine WC.ct' rfl hc68 ?_
    refine WC.skip ?_
    refine DN.seq ?_
    refine WC.seq ?_
    refine WC.block ?_
    refine WC.seq ?_
    refine WC.rx (κ := K76) [0, 9, 17] none [(0, 2), (1, 2), (2, 2), (4, 2), (5, 2), (6, 2), (3, 0), (7, 0), (8, 2)] [] (by kernel_rfl) (by kernel_rfl) fun w82 S81 => ?_
    refine WO.pn 2 rfl ?_
    obtain ⟨x29, hx29, h⟩ := Option.bind_eq_some_iff.mp h
    refine WO.k2 rfl rfl rfl rfl (rn_index f40.rdc hx29 Try.runUnderlying22 Try.sizeOf2 rfl rfl rfl rfl) ?_
    refine WO.pn 2 rfl ?_
    obtain ⟨x33, hx33, h⟩ := Option.bind_eq_some_iff.mp h
    refine WO.k2 rfl rfl rfl rfl (rn_index f67.rdc hx33 Try.runUnderlying22 Try.sizeOf2 rfl rfl rfl rfl) ?_
    have f83 := f40.stp (S53.tr (S64.tr (S77.tr S81))) rfl rfl
    refine WO.k0 rfl rfl rfl rfl (rn_ld Try.isAgg2 rfl rfl (hvC (f83.rdc.gInt hx29) rfl)) ?_
    have f84 := f67.stp (S77.tr S81) rfl rfl
    refine WO.k0 rfl rfl rfl rfl (rn_ld Try.isAgg2 rfl rfl (hvC (f84.rdc.gInt hx33) rfl)) ?_
    refine WO.pn 1 rfl ?_
    refine WO.nx ?_
    refine WO.fin ?_
    refine DN.seq ?_
    obtain ⟨q4, h, hK85⟩ := Option.bind_eq_some_iff.mp h
    refine WC.meet (fun L w' => ∃ (κ' : Col) (laq4_0 : Option Addr) (luq4_0 : Nat), L = [(5, .slice laq4_0 q4.length luq4_0), (6, .slice a16_0 x16.length u16_0), (7, .slice a20_0 x20.length u20_0), (8, .int .i64 v8)] ∧ Stp [4] K76 w82 κ' w' ∧ Oc (Ep.int .i64) 2 κ' w' 4 laq4_0 luq4_0 q4) ?_ ?_
    ·
     revert h
     cases ht90 : (x29 != x33) with
     | true =>
      intro h; replace h := cT h
      refine WC.ct rfl ?_
      refine WC.rs [(0, 2), (1, 2), (2, 1), (3, 1), (4, 2)] rfl ?_
      refine WO.pn 2 rfl ?_
      refine WO.bl (κ := K76) (E := (Ep.int .i64)) 18 [] (parts := [(0, .tmp 37)]) (cells := [.int .i64 v8]) (xs := ([v8] : List Int)) rfl rfl rfl rfl rfl rfl Try.underlying22 Tryinfo2 rfl rfl rfl rfl rfl rfl rfl rfl rfl rfl ⟨[.int .i64 v8], [], Zl K76 w82 [], Zl K76 w82 [], rfl, Zl.sp (l1 := []) (l2 := []) rfl, Zl.sr (l1 := []) (l2 := []), rfl, rfl⟩ fun a38 u38 w91 K92 S93 f94 => ⟨trivial, ?_⟩
      obtain ⟨x39, hx39, h⟩ := Option.bind_eq_some_iff.mp h
      have f95 := f78.stp (S81.tr S93) rfl rfl
      refine WO.app (κ := K92) (E := (Ep.int .i64)) 4 [] rfl rfl rfl rfl rfl rfl rfl rfl rfl Try.underlying22 Tryinfo2 rfl rfl rfl rfl f95 (Sl.srcP (pu_int _) f94.rdc) sy_false hx39 rfl fun a39 u39 w96 K97 S98 f99 => ⟨trivial, ?_⟩
      refine WO.pn 1 rfl ?_
      refine WO.fin ?_
      obtain rfl := Option.some.inj h
      exact DN.meet _ ⟨K97, a39, u39, rfl, (S93.tr S98).wk rfl, f99⟩ fun a ha => (ha.more (ha.more (ha.more (ha.more ha.nil rfl) rfl) rfl) rfl)
     | false =>
      intro h; replace h := cF h
      refine WC.cf rfl ?_
      refine WC.skip ?_
      have f100 := f78.stp S81 rfl rfl
      obtain rfl := Option.some.inj h
      exact DN.meet _ ⟨K76, las1_0, lus1_0, rfl, (Stp.refl _ _).wk rfl, f100⟩ fun a ha => (ha.more (ha.more (ha.more (ha.more ha.nil rfl) rfl) rfl) rfl)
    rintro _ w86 ⟨K87, laq4_0, luq4_0, rfl, S88, f89⟩
    have h := hK85
    refine DN.block ?_
    refine DN.seq ?_
    refine WC.rs [(0, 2), (1, 2), (2, 2)] rfl ?_
    refine WO.pn 3 rfl ?_
    refine WO.fin ?_
    have hw68 : IntKind.wrap .i64 (v8 + 1) = v8 + 1 := wr1 hj68 (of_decide_eq_true hc68) hN68
    rw [hw68]
    have hc68 := of_decide_eq_true hc68
    obtain rfl := Option.some.inj h
    refine DN.round fun a ha => ?_
    exact ⟨k, _, Nat.lt_succ_self _, ⟨K87, v8 + 1, (q4 : (List Int)), laq4_0, luq4_0, rfl, (S77.tr (S81.tr S88)).wk rfl, f89, by omega, by omega, hk80⟩, (ha.more (ha.more (ha.more (ha.more ha.nil rfl) rfl) rfl) rfl)⟩
  rintro _ w71 ⟨K72, s3, las3_0, lus3_0, rfl, S73, f74, rfl⟩
  have h := hK69
  dsimp only [aft] at h
  refine DN.seq ?_
  refine WC.seq ?_
  refine WC.rs [(0, 2), (1, 2)] rfl ?_
  refine WO.pn 2 rfl ?_
  refine WO.fin ?_
  refine DN.seq ?_
  refine WC.ret ?_
  have f101 := hE.stp (S3.tr (S7.tr (S11.tr (S22.tr (S37.tr (S53.tr (S64.tr S73))))))) rfl rfl
  refine DN.res (l := [.tmp 4]) Try.results8 (res_tmp rfl rfl) rfl ?_
  obtain rfl := Option.some.inj h
  exact ⟨(fun b => ren [(4, 2)] (K72 b)), las3_0, lus3_0, rfl, (f101.map (ren [(4, 2)]) rfl rfl), (f74.map (ren [(4, 2)]) rfl rfl)⟩

/- loop.example/g00869/impl.winners -/
theorem i_winners_ok {w : World} {κ : Col} {a0_0_0 : Option Addr} {u0_0_0 : Nat} {a0_0_1 : Option Addr} {u0_0_1 : Nat} {a0_1 : Option Addr} {u0_1 : Nat} {p0 : Parity} (g0_0_0 : Rd (Rp.int .i64) κ w 0 a0_0_0 u0_0_0 p0.Arena.Owner) (g0_0_1 : Rd (Rp.sl (Rp.int .i64)) κ w 0 a0_0_1 u0_0_1 p0.Arena.Next) (g0_1 : Rd (Rp.int .i64) κ w 0 a0_1 u0_1 p0.Prio) {r : (List Int)} (h : i_winners p0 = some r) : Ret Try.prog 44 [.agg #[.slice a0_0_0 p0.Arena.Owner.length u0_0_0, .slice a0_0_1 p0.Arena.Next.length u0_0_1, .slice a0_1 p0.Prio.length u0_1]] w (fun v w' => ∃ (κ' : Col) (ra0 : Option Addr) (ru0 : Nat), v = .slice ra0 r.length ru0 ∧ Ent κ w κ' w' ∧ Oc (Ep.int .i64) 2 κ' w' 2 ra0 ru0 r) := by
 unfold i_winners at h
 refine Ret.enter Try.func44 rfl Try.ntmps44 rfl ?_
 dsimp only [envOf]
 have hE := Ent.refl κ w
 refine WC.seq ?_
 refine WC.rs [(0, 1), (1, 2)] rfl ?_
 refine WO.box (κ := κ) 2 rfl rfl rfl rfl rfl rfl rfl fun b1 w1 K2 S3 f4 => ⟨trivial, ?_⟩
 refine WO.pn 1 rfl ?_
 refine WO.fin ?_
 refine DN.seq ?_
 refine WC.seq ?_
 refine WC.rs [(0, 2), (1, 1), (2, 2), (3, 1), (4, 2)] rfl ?_
 refine WO.k2 rfl rfl rfl rfl (rn_fieldAddr Try.runUnderlying34 rfl Try.sizeOf22 rfl rfl) ?_
 refine WO.k1 trivial rfl rfl rfl rfl (rn_ld Try.isAgg22 rfl rfl (hvE (f4.ld 2 rfl rfl))) ?_
 refine WO.k2 rfl rfl rfl rfl (rn_len Try.runUnderlying22 rfl rfl) ?_
 obtain ⟨x11, hx11, h⟩ := Option.bind_eq_some_iff.mp h
 refine WO.mk (κ := K2) (E := (Ep.int .i64)) (z := (0 : Int)) 3 rfl rfl rfl rfl rfl rfl rfl Try.underlying22 Tryinfo2 rfl rfl rfl rfl rfl (fun _ _ _ => rfl) (mkS_C hx11) fun a11 u11 w5 K6 S7 f8 => ⟨trivial, ?_⟩
 refine WO.pn 1 rfl ?_
 refine WO.fin ?_
 refine DN.seq ?_
 refine WC.seq ?_
 refine WC.rx (κ := K6) [2] none [(1, 2), (0, 0), (2, 0), (3, 1), (4, 1), (5, 2), (6, 2), (7, 2), (8, 2), (9, 2)] [] (by kernel_rfl) (by kernel_rfl) fun w10 S9 => ?_
 refine WO.k2 rfl rfl rfl rfl (rn_fieldAddr Try.runUnderlying34 rfl Try.sizeOf32 rfl rfl) ?_
 have f11 := f4.stp (S7.tr S9) rfl rfl
 refine WO.k0 rfl rfl rfl rfl (rn_la (cs := [.slice a0_0_0 p0.Arena.Owner.length u0_0_0, .slice a0_0_1 p0.Arena.Next.length u0_0_1, .slice a0_1 p0.Prio.length u0_1]) Try.isAgg34 Try.sizeOf34 rfl rfl rfl (haC f11.cells rfl)) ?_
 refine WO.k0 rfl rfl rfl rfl (rn_la (cs := [.slice a0_0_0 p0.Arena.Owner.length u0_0_0, .slice a0_0_1 p0.Arena.Next.length u0_0_1]) Try.isAgg32 Try.sizeOf32 rfl rfl rfl (haC (f11.lds 0 2 rfl) rfl)) ?_
 obtain ⟨x16, hx16, h⟩ := Option.bind_eq_some_iff.mp h
 have f12 := g0_0_0.stp (S3.tr (S7.tr S9)) rfl rfl
 have f13 := g0_0_1.stp (S3.tr (S7.tr S9)) rfl rfl
 refine WO.call rfl rfl rfl rfl rfl rfl Try.call88 (i_allOf_ok (κ := fun b => mp [] 0 (K6 b)) (p0 := p0.Arena) (Sl.map f12 (mp [] 0) rfl rfl) (Sl.map f13 (mp [] 0) rfl rfl) hx16) ?_
 rintro _ w14 ⟨k15, a16_0, u16_0, rfl, e16, f17⟩
 obtain ⟨K18, S19, m20⟩ := Ent.mixed (l := []) (κ := K6) e16 4 rfl
 refine ⟨(S19.cl rfl), ?_⟩
 have f22 := f17.mx (no_int _) m20 rfl (rfl : 4 + 2 = 6)
 obtain ⟨x17, hx17, h⟩ := Option.bind_eq_some_iff.mp h
 have f23 := f12.stp S19 rfl rfl
 have f24 := f13.stp S19 rfl rfl
 have f25 := g0_1.stp (S3.tr (S7.tr (S9.tr S19))) rfl rfl
 refine WO.call rfl rfl rfl rfl rfl rfl Try.call87 (i_wonIn_ok (κ := fun b => mp [] 0 (K18 b)) (p0 := p0) (Sl.map f23 (mp [] 0) rfl rfl) (Sl.map f24 (mp [] 0) rfl rfl) (Sl.map f25 (mp [] 0) rfl rfl) (Sl.map f22.rdc (mp [] 0) rfl rfl) hx17) ?_
 rintro _ w26 ⟨k27, a17_0, u17_0, a17_1, u17_1, rfl, e28, f29, f30⟩
 obtain ⟨K31, S32, m33⟩ := Ent.mixed (l := []) (κ := K18) e28 7 rfl
 refine ⟨((S19.tr S32).cl rfl), ?_⟩
 have f35 := f29.mx (no_int _) m33 rfl (rfl : 7 + 2 = 9)
 have f36 := f30.mx (no_int _) m33 rfl (rfl : 7 + 3 = 10)
 refine WO.pn 5 rfl ?_
 refine WO.nx ?_
 refine WO.fin ?_
 refine DN.seq ?_
 refine WC.seq ?_
 refine WC.seq ?_
 refine WC.rs [(0, 2), (1, 2), (2, 2)] rfl ?_
 refine WO.pn 1 rfl ?_
 refine WO.k2 rfl rfl rfl rfl (rn_len Try.runUnderlying22 rfl rfl) ?_
 refine WO.pn 1 rfl ?_
 refine WO.fin ?_
 refine DN.seq ?_
 have hN37 : (x17.2.length : Int) ≤ 9223372036854775807 := f36.len_le
 obtain ⟨q2, hq39, hK38⟩ := Option.bind_eq_some_iff.mp h
 clear h
 refine WC.meet (fun L w' => ∃ (κ' : Col) (s3 : (List Int)), L = [(3, .slice a11 x11.length u11)] ∧ Stp [3] K31 w26 κ' w' ∧ Oc (Ep.int .i64) 2 κ' w' 3 a11 u11 s3 ∧ x11.length = s3.length ∧ q2 = Sum.inr s3) ?_ ?_
 ·
  refine WC.block ?_
  have f50 := f8.stp (S9.tr (S19.tr S32)) rfl rfl
  refine WC.loop (fun k L w' => ∃ (κ' : Col) (v22 : Int) (s1 : (List Int)), L = [(3, .slice a11 x11.length u11), (20, .slice a17_1 x17.2.length u17_1), (21, .int .i64 (x17.2.length : Int)), (22, .int .i64 v22)] ∧ Stp [3] K31 w26 κ' w' ∧ Oc (Ep.int .i64) 2 κ' w' 3 a11 u11 s1 ∧ x11.length = s1.length ∧ 0 ≤ v22 ∧ Int.toNat ((x17.2.length : Int) - v22) = k ∧ cntM (i_winners_b0 x17) k v22 s1 = some q2) ⟨_, _, ⟨K31, 0, (x11 : (List Int)), rfl, (Stp.refl _ _).wk rfl, f50, rfl, (by decide), (by simp), hq39⟩, fun a ha => (ha.more (ha.more (ha.more (ha.more ha.nil rfl) rfl) rfl) rfl)⟩ ?_
  rintro k _ w45 ⟨K46, v22, s1, rfl, S47, f48, hn49, hj37, hJ37, h⟩
  rcases k with _ | k
  ·
   have hk51 := h; obtain ⟨o37, h⟩ := ex_eq (Sum.inr (Sum.inl s1) : (List Int) ⊕ (((List Int)) ⊕ ((List Int))))
   have hc37 : decide (v22 < (x17.2.length : Int)) = false := decide_eq_false (by omega)
   refine WC.seq ?_
   refine WC.rs [(0, 2)] rfl ?_
   refine WO.pn 1 rfl ?_
   refine WO.fin ?_
   refine DN.seq ?_
   refine WC.seq ?_
   refine WC.cf' rfl hc37 ?_
   refine WC.exit ?_
   refine DN.exitThen ?_
   refine DN.exitThen ?_
   obtain rfl := Option.some.inj h
   have h := hk51
   refine DN.hit ?_
   obtain rfl := Option.some.inj h
   exact DN.meet _ ⟨K46, (s1 : (List Int)), rfl, S47.wk rfl, f48, hn49, rfl⟩ fun a ha => (ha.more ha.nil rfl)
  ·
   obtain ⟨o37, h, hk51⟩ := Option.bind_eq_some_iff.mp h; unfold i_winners_b0 at h
   have hc37 : decide (v22 < (x17.2.length : Int)) = true := decide_eq_true (by omega)
   refine WC.seq ?_
   refine WC.rs [(0, 2)] rfl ?_
   refine WO.pn 1 rfl ?_
   refine WO.fin ?_
   refine DN.seq ?_
   refine WC.seq ?_
   refine WC.ct' rfl hc37 ?_
   refine WC.skip ?_
   refine DN.seq ?_
   refine WC.seq ?_
   refine WC.block ?_
   refine WC.seq ?_
   refine WC.rs [(0, 2), (1, 1), (2, 2)] rfl ?_
   obtain ⟨x24, hx24, h⟩ := Option.bind_eq_some_iff.mp h
   refine WO.k2 rfl rfl rfl rfl (rn_index f36.rdc hx24 Try.runUnderlying22 Try.sizeOf2 rfl rfl rfl rfl) ?_
   have f52 := f36.stp S47 rfl rfl
   refine WO.k1 trivial rfl rfl rfl rfl (rn_ld Try.isAgg2 rfl rfl (hvE (f52.rdc.gInt hx24))) ?_
   refine WO.pn 1 rfl ?_
   refine WO.fin ?_
   refine DN.seq ?_
   refine WC.rs [(0, 2), (1, 2), (2, 2), (3, 1)] rfl ?_
   refine WO.pn 2 rfl ?_
   obtain ⟨x28, hx28, h⟩ := Option.bind_eq_some_iff.mp h
   refine WO.k2 rfl rfl rfl rfl (rn_index f48.rdc hx28 Try.runUnderlying22 Try.sizeOf2 rfl rfl hn49 rfl) ?_
   obtain ⟨y63, hy63, h⟩ := Option.bind_eq_some_iff.mp h
   refine WO.stI (κ := K46) (E := (Ep.int .i64)) 3 [] rfl rfl rfl rfl rfl rfl rfl rfl Try.sizeOf2 rfl rfl rfl rfl f48 hy63 fun w53 K54 S55 f56 => ⟨trivial, ?_⟩
   have hn57 : x11.length = y63.length := hn49.trans (setI_ok hy63).2.2.2.symm
   refine WO.fin ?_
   refine DN.block ?_
   refine DN.seq ?_
   refine WC.rs [(0, 2), (1, 2)] rfl ?_
   refine WO.pn 2 rfl ?_
   refine WO.fin ?_
   have hw37 : IntKind.wrap .i64 (v22 + 1) = v22 + 1 := wr1 hj37 (of_decide_eq_true hc37) hN37
   rw [hw37]
   have hc37 := of_decide_eq_true hc37
   obtain rfl := Option.some.inj h
   refine DN.round fun a ha => ?_
   exact ⟨k, _, Nat.lt_succ_self _, ⟨K54, v22 + 1, (y63 : (List Int)), rfl, (S47.tr S55).wk rfl, f56, hn57, by omega, by omega, hk51⟩, (ha.more (ha.more (ha.more (ha.more ha.nil rfl) rfl) rfl) rfl)⟩
 rintro _ w40 ⟨K41, s3, rfl, S42, f43, hn44, rfl⟩
 have h := hK38
 dsimp only [aft] at h
 refine DN.seq ?_
 refine WC.seq ?_
 refine WC.rs [(0, 2), (1, 2)] rfl ?_
 refine WO.pn 2 rfl ?_
 refine WO.fin ?_
 refine DN.seq ?_
 refine WC.ret ?_
 have f58 := hE.stp (S3.tr (S7.tr (S9.tr (S19.tr (S32.tr S42))))) rfl rfl
 refine DN.res (l := [.tmp 2]) Try.results44 (res_tmp rfl rfl) rfl ?_
 obtain rfl := Option.some.inj h
 exact ⟨(fun b => ren [(3, 2)] (K41 b)), a11, u11, (by simp only [hn44]), (f58.map (ren [(3, 2)]) rfl rfl), (f43.map (ren [(3, 2)]) rfl rfl)⟩

/- loop.example/g00869/impl.bothOf -/
theorem i_bothOf_ok {w : World} {κ : Col} {a0 : Option Addr} {u0 : Nat} {p0 : (List Int)} {a1 : Option Addr} {u1 : Nat} {p1 : (List Int)} (g0 : Rd (Rp.int .i64) κ w 0 a0 u0 p0) (g1 : Rd (Rp.int .i64) κ w 0 a1 u1 p1) {r : (List Int)} (h : i_bothOf p0 p1 = some r) : Ret Try.prog 90 [.slice a0 p0.length u0, .slice a1 p1.length u1] w (fun v w' => ∃ (κ' : Col) (ra0 : Option Addr) (ru0 : Nat), v = .slice ra0 r.length ru0 ∧ Ent κ w κ' w' ∧ Oc (Ep.int .i64) 2 κ' w' 2 ra0 ru0 r) := by
 unfold i_bothOf at h
 refine Ret.enter Try.func90 rfl Try.ntmps90 rfl ?_
 dsimp only [envOf]
 have hE := Ent.refl κ w
 refine WC.seq ?_
 refine WC.rs [(0, 2)] rfl ?_
 refine WO.pn 1 rfl ?_
 refine WO.fin ?_
 refine DN.seq ?_
 refine WC.seq ?_
 refine WC.rs [(0, 1), (1, 2), (2, 1), (3, 2), (4, 2), (5, 1), (6, 1), (7, 2)] rfl ?_
 refine WO.bl0 (κ := κ) (E := (Ep.int .i64)) 2 rfl rfl rfl rfl rfl Try.underlying22 Tryinfo2 rfl fun a6 u6 w1 K2 S3 f4 => ⟨trivial, ?_⟩
 refine WO.pn 1 rfl ?_
 obtain ⟨x8, hx8, h⟩ := Option.bind_eq_some_iff.mp h
 have f5 := g0.stp S3 rfl rfl
 refine WO.app (κ := K2) (E := (Ep.int .i64)) 2 [] rfl rfl rfl rfl rfl rfl rfl rfl rfl Try.underlying22 Tryinfo2 rfl rfl rfl rfl f4 (Sl.srcP (pu_int _) f5) sy_false hx8 rfl fun a8 u8 w6 K7 S8 f9 => ⟨trivial, ?_⟩
 refine WO.pn 2 rfl ?_
 obtain ⟨x11, hx11, h⟩ := Option.bind_eq_some_iff.mp h
 have f10 := g1.stp (S3.tr S8) rfl rfl
 have f11 := f5.stp S8 rfl rfl
 refine WO.call rfl rfl rfl rfl rfl rfl Try.call91 (i_lessOf_ok (κ := fun b => mp [] 0 (K7 b)) (Sl.map f10 (mp [] 0) rfl rfl) (Sl.map f11 (mp [] 0) rfl rfl) hx11) ?_
 rintro _ w12 ⟨k13, a11_0, u11_0, rfl, e14, f15⟩
 obtain ⟨K16, S17, m18⟩ := Ent.mixed (l := []) (κ := K7) e14 3 rfl
 refine ⟨trivial, ?_⟩
 have f20 := f15.mx (no_int _) m18 rfl (rfl : 3 + 2 = 5)
 obtain ⟨x12, hx12, h⟩ := Option.bind_eq_some_iff.mp h
 have f21 := f9.stp S17 rfl rfl
 refine WO.app (κ := K16) (E := (Ep.int .i64)) 2 [] rfl rfl rfl rfl rfl rfl rfl rfl rfl Try.underlying22 Tryinfo2 rfl rfl rfl rfl f21 (Sl.srcP (pu_int _) f20.rdc) sy_false hx12 rfl fun a12 u12 w22 K23 S24 f25 => ⟨trivial, ?_⟩
 refine WO.pn 1 rfl ?_
 refine WO.fin ?_
 refine DN.seq ?_
 refine WC.seq ?_
 refine WC.rs [(0, 2), (1, 1)] rfl ?_
 refine WO.pn 1 rfl ?_
 obtain ⟨x14, hx14, h⟩ := Option.bind_eq_some_iff.mp h
 refine WO.call rfl rfl rfl rfl rfl rfl Try.call130 (slices_Sort_I_int64_ok (κ := fun b => mp [(2, 2)] 0 (K23 b)) (f25.map (mp [(2, 2)] 0) rfl rfl) hx14) ?_
 rintro _ w26 ⟨k27, rfl, e28, f29, hn30⟩
 obtain ⟨K31, S32, m33⟩ := Ent.mixed (l := [(2, 2)]) (κ := K23) e28 6 rfl
 refine ⟨trivial, ?_⟩
 have f35 := f29.mx (no_int _) m33 rfl (rfl : 6 + 2 = 8)
 refine WO.fin ?_
 refine DN.seq ?_
 refine WC.seq ?_
 refine WC.rs [(0, 2), (1, 2)] rfl ?_
 refine WO.pn 2 rfl ?_
 refine WO.fin ?_
 refine DN.seq ?_
 refine WC.ret ?_
 have f36 := hE.stp (S3.tr (S8.tr (S17.tr (S24.tr S32)))) rfl rfl
 refine DN.res (l := [.tmp 4]) Try.results90 (res_tmp rfl rfl) rfl ?_
 obtain rfl := Option.some.inj h
 exact ⟨(fun b => ren [(8, 2)] (K31 b)), a12, u12, (by simp only [(hn30)]), (f36.map (ren [(8, 2)]) rfl rfl), (f35.map (ren [(8, 2)]) rfl rfl)⟩

/- loop.example/g00869/impl.edited -/
theorem i_edited_ok {w : World} {κ : Col} {a0_0_0 : Option Addr} {u0_0_0 : Nat} {a0_0_1 : Option Addr} {u0_0_1 : Nat} {a0_1 : Option Addr} {u0_1 : Nat} {p0 : Parity} {p1 : Edit} (g0_0_0 : Rd (Rp.int .i64) κ w 0 a0_0_0 u0_0_0 p0.Arena.Owner) (g0_0_1 : Rd (Rp.sl (Rp.int .i64)) κ w 0 a0_0_1 u0_0_1 p0.Arena.Next) (g0_1 : Rd (Rp.int .i64) κ w 0 a0_1 u0_1 p0.Prio) {r : Parity} (h : i_edited p0 p1 = some r) : Ret Try.prog 45 [.agg #[.slice a0_0_0 p0.Arena.Owner.length u0_0_0, .slice a0_0_1 p0.Arena.Next.length u0_0_1, .slice a0_1 p0.Prio.length u0_1], .agg #[.int .i64 p1.Kind, .int .i64 p1.V, .int .i64 p1.N]] w (fun v w' => ∃ (κ' : Col) (ra0 : Option Addr) (ru0 : Nat) (ra1 : Option Addr) (ru1 : Nat) (ra2 : Option Addr) (ru2 : Nat), v = .agg #[.slice ra0 r.Arena.Owner.length ru0, .slice ra1 r.Arena.Next.length ru1, .slice ra2 r.Prio.length ru2] ∧ Ent κ w κ' w' ∧ Oc (Ep.int .i64) 2 κ' w' 2 ra0 ru0 r.Arena.Owner ∧ Oc (Ep.own (Ep.int .i64) 2) 22 κ' w' 3 ra1 ru1 r.Arena.Next ∧ Oc (Ep.int .i64) 2 κ' w' 4 ra2 ru2 r.Prio) := by
 unfold i_edited at h
 refine Ret.enter Try.func45 rfl Try.ntmps45 rfl ?_
 dsimp only [envOf]
 have hE := Ent.refl κ w
 refine WC.seq ?_
 refine WC.rs [(0, 1), (1, 1), (2, 1)] rfl ?_
 refine WO.box (κ := κ) 2 rfl rfl rfl rfl rfl rfl rfl fun b2 w1 K2 S3 f4 => ⟨trivial, ?_⟩
 refine WO.box (κ := K2) 3 rfl rfl rfl rfl rfl rfl rfl fun b3 w5 K6 S7 f8 => ⟨trivial, ?_⟩
 refine WO.alloc (κ := K6) 4 rfl rfl rfl rfl rfl Try.zeroValue34 rfl fun b4 w9 K10 S11 f12 => ⟨trivial, ?_⟩
 refine WO.fin ?_
 refine DN.seq ?_
 refine WC.seq ?_
 refine WC.rs [(0, 1), (1, 1), (2, 1), (3, 1)] rfl ?_
 have f13 := f4.stp (S7.tr S11) rfl rfl
 refine WO.k1 trivial rfl rfl rfl rfl (rn_la (cs := [.slice a0_0_0 p0.Arena.Owner.length u0_0_0, .slice a0_0_1 p0.Arena.Next.length u0_0_1, .slice a0_1 p0.Prio.length u0_1]) Try.isAgg34 Try.sizeOf34 rfl rfl rfl (haE f13.cells)) ?_
 obtain ⟨x7, hx7, h⟩ := Option.bind_eq_some_iff.mp h
 have f14 := g0_0_0.stp (S3.tr (S7.tr S11)) rfl rfl
 have f15 := g0_0_1.stp (S3.tr (S7.tr S11)) rfl rfl
 have f16 := g0_1.stp (S3.tr (S7.tr S11)) rfl rfl
 refine WO.call rfl rfl rfl rfl rfl rfl Try.call89 (i_copyParity_ok (κ := fun b => mp [] 0 (K10 b)) (p0 := p0) (Sl.map f14 (mp [] 0) rfl rfl) (Sl.map f15 (mp [] 0) rfl rfl) (Sl.map f16 (mp [] 0) rfl rfl) hx7) ?_
 rintro _ w17 ⟨k18, a7_0, u7_0, a7_1, u7_1, a7_2, u7_2, rfl, e19, f20, f21, f22⟩
 obtain ⟨K23, S24, m25⟩ := Ent.mixed (l := []) (κ := K10) e19 5 rfl
 refine ⟨trivial, ?_⟩
 have f27 := f20.mx (no_int _) m25 rfl (rfl : 5 + 2 = 7)
 have f28 := f21.mx (no_own (no_int _) _) m25 rfl (rfl : 5 + 3 = 8)
 have f29 := f22.mx (no_int _) m25 rfl (rfl : 5 + 4 = 9)
 refine WO.alloc (κ := K23) 10 rfl rfl rfl rfl rfl Try.zeroValue34 rfl fun b5 w30 K31 S32 f33 => ⟨trivial, ?_⟩
 refine WO.stB0 (κ := K31) 10 (vc := [.slice a7_0 x7.Arena.Owner.length u7_0, .slice a7_1 x7.Arena.Next.length u7_1, .slice a7_2 x7.Prio.length u7_2]) rfl rfl rfl rfl rfl rfl rfl Try.sizeOf34 rfl rfl f33 rfl fun w34 S35 f36 => ⟨trivial, ?_⟩
 refine WO.fin ?_
 refine DN.seq ?_
 refine WC.seq ?_
 refine WC.seq ?_
 refine WC.rs [(0, 2), (1, 1)] rfl ?_
 refine WO.k2 rfl rfl rfl rfl (rn_fieldAddr Try.runUnderlying36 rfl Try.sizeOf2 rfl rfl) ?_
 have f37 := f8.stp (S11.tr (S24.tr (S32.tr S35))) rfl rfl
 refine WO.k1 trivial rfl rfl rfl rfl (rn_ld Try.isAgg2 rfl rfl (hvE (f37.ld 0 rfl rfl))) ?_
 refine WO.fin ?_
 refine DN.seq ?_
 refine WC.block ?_
 refine WC.seq ?_
 refine WC.rs [(0, 2), (1, 2)] rfl ?_
 refine WO.pn 2 rfl ?_
 refine WO.fin ?_
 refine DN.seq ?_
 obtain ⟨q1, h, hK38⟩ := Option.bind_eq_some_iff.mp h
 refine WC.meet (fun L w' => ∃ (κ' : Col), L = [(4, .pointer (some ⟨b4, 0, none⟩)), (5, .pointer (some ⟨b5, 0, none⟩))] ∧ Stp [7, 8, 9, 14] K31 w34 κ' w' ∧ Oc (Ep.int .i64) 2 κ' w' 7 a7_0 u7_0 q1.1 ∧ x7.Arena.Owner.length = q1.1.length ∧ Oc (Ep.own (Ep.int .i64) 2) 22 κ' w' 8 a7_1 u7_1 q1.2.1 ∧ x7.Arena.Next.length = q1.2.1.length ∧ Oc (Ep.int .i64) 2 κ' w' 9 a7_2 u7_2 q1.2.2 ∧ x7.Prio.length = q1.2.2.length) ?_ ?_
 ·
  revert h
  cases ht48 : (p1.Kind == 1) with
  | true =>
   intro h; replace h := cT h
   refine WC.ct rfl ?_
   refine WC.rs [(0, 2), (1, 1), (2, 2), (3, 1), (4, 2), (5, 1), (6, 2), (7, 1)] rfl ?_
   refine WO.k2 rfl rfl rfl rfl (rn_fieldAddr Try.runUnderlying34 rfl Try.sizeOf22 rfl rfl) ?_
   refine WO.k1 trivial rfl rfl rfl rfl (rn_ld Try.isAgg22 rfl rfl (hvE (f36.ld 2 rfl rfl))) ?_
   refine WO.k2 rfl rfl rfl rfl (rn_fieldAddr Try.runUnderlying36 rfl Try.sizeOf2 rfl rfl) ?_
   refine WO.k1 trivial rfl rfl rfl rfl (rn_ld Try.isAgg2 rfl rfl (hvE (f37.ld 1 rfl rfl))) ?_
   refine WO.k2 rfl rfl rfl rfl (rn_fieldAddr Try.runUnderlying36 rfl Try.sizeOf2 rfl rfl) ?_
   refine WO.k1 trivial rfl rfl rfl rfl (rn_ld Try.isAgg2 rfl rfl (hvE (f37.ld 2 rfl rfl))) ?_
   obtain ⟨x35, hx35, h⟩ := Option.bind_eq_some_iff.mp h
   refine WO.k2 rfl rfl rfl rfl (rn_index f29.rdc hx35 Try.runUnderlying22 Try.sizeOf2 rfl rfl rfl rfl) ?_
   have f49 := f29.stp (S32.tr S35) rfl rfl
   obtain ⟨y69, hy69, h⟩ := Option.bind_eq_some_iff.mp h
   refine WO.stI (κ := K31) (E := (Ep.int .i64)) 9 [] rfl rfl rfl rfl rfl rfl rfl rfl Try.sizeOf2 rfl rfl rfl rfl f49 hy69 fun w50 K51 S52 f53 => ⟨trivial, ?_⟩
   have hn54 : x7.Prio.length = y69.length := (setI_ok hy69).2.2.2.symm
   refine WO.fin ?_
   have f55 := f27.stp (S32.tr (S35.tr S52)) rfl rfl
   have f56 := f28.stp (S32.tr (S35.tr S52)) rfl rfl
   obtain rfl := Option.some.inj h
   exact DN.meet _ ⟨K51, rfl, S52.wk rfl, f55, rfl, f56, rfl, f53, hn54⟩ fun a ha => (ha.more (ha.more ha.nil rfl) rfl)
  | false =>
   intro h; replace h := cF h
   refine WC.cf rfl ?_
   refine WC.seq ?_
   refine WC.rs [(0, 2), (1, 2)] rfl ?_
   refine WO.pn 2 rfl ?_
   refine WO.fin ?_
   refine DN.seq ?_
   obtain ⟨q2, h, hK57⟩ := Option.bind_eq_some_iff.mp h
   refine WC.meet (fun L w' => ∃ (κ' : Col), L = [(4, .pointer (some ⟨b4, 0, none⟩)), (5, .pointer (some ⟨b5, 0, none⟩))] ∧ Stp [7, 8, 14] K31 w34 κ' w' ∧ Oc (Ep.int .i64) 2 κ' w' 7 a7_0 u7_0 q2.1 ∧ x7.Arena.Owner.length = q2.1.length ∧ Oc (Ep.own (Ep.int .i64) 2) 22 κ' w' 8 a7_1 u7_1 q2.2 ∧ x7.Arena.Next.length = q2.2.length) ?_ ?_
   ·
    revert h
    cases ht65 : (p1.Kind == 2) with
    | true =>
     intro h; replace h := cT h
     refine WC.ct rfl ?_
     refine WC.rs [(0, 2), (1, 2), (2, 1), (3, 2), (4, 1), (5, 2), (6, 1), (7, 2), (8, 1)] rfl ?_
     refine WO.k2 rfl rfl rfl rfl (rn_fieldAddr Try.runUnderlying34 rfl Try.sizeOf32 rfl rfl) ?_
     refine WO.k2 rfl rfl rfl rfl (rn_fieldAddr Try.runUnderlying32 rfl Try.sizeOf22 rfl rfl) ?_
     refine WO.k1 trivial rfl rfl rfl rfl (rn_ld Try.isAgg22 rfl rfl (hvE (f36.ld 0 rfl rfl))) ?_
     refine WO.k2 rfl rfl rfl rfl (rn_fieldAddr Try.runUnderlying36 rfl Try.sizeOf2 rfl rfl) ?_
     refine WO.k1 trivial rfl rfl rfl rfl (rn_ld Try.isAgg2 rfl rfl (hvE (f37.ld 1 rfl rfl))) ?_
     refine WO.k2 rfl rfl rfl rfl (rn_fieldAddr Try.runUnderlying36 rfl Try.sizeOf2 rfl rfl) ?_
     refine WO.k1 trivial rfl rfl rfl rfl (rn_ld Try.isAgg2 rfl rfl (hvE (f37.ld 2 rfl rfl))) ?_
     obtain ⟨x45, hx45, h⟩ := Option.bind_eq_some_iff.mp h
     refine WO.k2 rfl rfl rfl rfl (rn_index f27.rdc hx45 Try.runUnderlying22 Try.sizeOf2 rfl rfl rfl rfl) ?_
     have f66 := f27.stp (S32.tr S35) rfl rfl
     obtain ⟨y70, hy70, h⟩ := Option.bind_eq_some_iff.mp h
     refine WO.stI (κ := K31) (E := (Ep.int .i64)) 7 [] rfl rfl rfl rfl rfl rfl rfl rfl Try.sizeOf2 rfl rfl rfl rfl f66 hy70 fun w67 K68 S69 f70 => ⟨trivial, ?_⟩
     have hn71 : x7.Arena.Owner.length = y70.length := (setI_ok hy70).2.2.2.symm
     refine WO.fin ?_
     have f72 := f28.stp (S32.tr (S35.tr S69)) rfl rfl
     obtain rfl := Option.some.inj h
     exact DN.meet _ ⟨K68, rfl, S69.wk rfl, f70, hn71, f72, rfl⟩ fun a ha => (ha.more (ha.more ha.nil rfl) rfl)
    | false =>
     intro h; replace h := cF h
     refine WC.cf rfl ?_
     refine WC.seq ?_
     refine WC.rs [(0, 2), (1, 2)] rfl ?_
     refine WO.pn 2 rfl ?_
     refine WO.fin ?_
     refine DN.seq ?_
     obtain ⟨q3, h, hK73⟩ := Option.bind_eq_some_iff.mp h
     refine WC.meet (fun L w' => ∃ (κ' : Col), L = [(4, .pointer (some ⟨b4, 0, none⟩)), (5, .pointer (some ⟨b5, 0, none⟩))] ∧ Stp [8, 14] K31 w34 κ' w' ∧ Oc (Ep.own (Ep.int .i64) 2) 22 κ' w' 8 a7_1 u7_1 q3 ∧ x7.Arena.Next.length = q3.length) ?_ ?_
     ·
      revert h
      cases ht79 : (p1.Kind == 3) with
      | true =>
       intro h; replace h := cT h
       refine WC.ct rfl ?_
       refine WC.rx (κ := K31) [0, 3, 8, 10] (some 17) [(0, 2), (1, 2), (3, 2), (5, 2), (6, 2), (8, 2), (12, 2), (2, 0), (4, 0), (7, 0), (9, 0), (10, 2), (11, 0), (13, 0), (14, 1), (15, 1), (16, 2)] [(17, 1)] (by kernel_rfl) (by kernel_rfl) fun w81 S80 => ?_
       refine WO.k2 rfl rfl rfl rfl (rn_fieldAddr Try.runUnderlying34 rfl Try.sizeOf32 rfl rfl) ?_
       refine WO.k2 rfl rfl rfl rfl (rn_fieldAddr Try.runUnderlying32 rfl Try.sizeOf23 rfl rfl) ?_
       refine WO.k2 rfl rfl rfl rfl (rn_fieldAddr Try.runUnderlying36 rfl Try.sizeOf2 rfl rfl) ?_
       refine WO.k2 rfl rfl rfl rfl (rn_fieldAddr Try.runUnderlying34 rfl Try.sizeOf32 rfl rfl) ?_
       refine WO.k2 rfl rfl rfl rfl (rn_fieldAddr Try.runUnderlying32 rfl Try.sizeOf23 rfl rfl) ?_
       refine WO.k2 rfl rfl rfl rfl (rn_fieldAddr Try.runUnderlying36 rfl Try.sizeOf2 rfl rfl) ?_
       refine WO.k2 rfl rfl rfl rfl (rn_fieldAddr Try.runUnderlying36 rfl Try.sizeOf2 rfl rfl) ?_
       have f82 := f36.stp S80 rfl rfl
       refine WO.k0 rfl rfl rfl rfl (rn_ld Try.isAgg23 rfl rfl (hvC (f82.ld 1 rfl rfl) rfl)) ?_
       have f83 := f37.stp S80 rfl rfl
       refine WO.k0 rfl rfl rfl rfl (rn_ld Try.isAgg2 rfl rfl (hvC (f83.ld 1 rfl rfl) rfl)) ?_
       refine WO.k0 rfl rfl rfl rfl (rn_ld Try.isAgg23 rfl rfl (hvC (f82.ld 1 rfl rfl) rfl)) ?_
       refine WO.k0 rfl rfl rfl rfl (rn_ld Try.isAgg2 rfl rfl (hvC (f83.ld 1 rfl rfl) rfl)) ?_
       obtain ⟨x58, hx58, h⟩ := Option.bind_eq_some_iff.mp h
       refine WO.k2 rfl rfl rfl rfl (rn_index f28.rdc hx58 Try.runUnderlying23 Try.sizeOf22 rfl rfl rfl rfl) ?_
       have f84 := f28.stp (S32.tr (S35.tr S80)) rfl rfl
       obtain ⟨ax58, ux58, f85, hl86⟩ := f84.rdc.gSl hx58
       refine WO.k0 rfl rfl rfl rfl (rn_ld Try.isAgg22 rfl rfl (hvC hl86 rfl)) ?_
       refine WO.k0 rfl rfl rfl rfl (rn_ld Try.isAgg2 rfl rfl (hvC (f83.ld 2 rfl rfl) rfl)) ?_
       refine WO.bl (κ := K31) (E := (Ep.int .i64)) 11 [] (parts := [(0, .tmp 61)]) (cells := [.int .i64 p1.N]) (xs := ([p1.N] : List Int)) rfl rfl rfl rfl rfl rfl Try.underlying22 Tryinfo2 rfl rfl rfl rfl rfl rfl rfl rfl rfl rfl ⟨[.int .i64 p1.N], [], Zl K31 w81 [], Zl K31 w81 [], rfl, Zl.sp (l1 := []) (l2 := []) rfl, Zl.sr (l1 := []) (l2 := []), rfl, rfl⟩ fun a62 u62 w87 K88 S89 f90 => ⟨(S89.cl rfl), ?_⟩
       obtain ⟨x63, hx63, h⟩ := Option.bind_eq_some_iff.mp h
       have f91 := f85.stp S89 rfl rfl
       refine WO.call rfl rfl rfl rfl rfl rfl Try.call90 (i_bothOf_ok (κ := fun b => mp [] 0 (K88 b)) (Sl.map f91 (mp [] 0) rfl rfl) (Sl.map f90.rdc (mp [] 0) rfl rfl) hx63) ?_
       rintro _ w92 ⟨k93, a63_0, u63_0, rfl, e94, f95⟩
       obtain ⟨K96, S97, m98⟩ := Ent.mixed (l := []) (κ := K88) e94 12 rfl
       refine ⟨((S89.tr S97).cl rfl), ?_⟩
       have f100 := f95.mx (no_int _) m98 rfl (rfl : 12 + 2 = 14)
       obtain ⟨x64, hx64, h⟩ := Option.bind_eq_some_iff.mp h
       refine WO.k2 rfl rfl rfl rfl (rn_index f84.rdc hx64 Try.runUnderlying23 Try.sizeOf22 rfl rfl rfl rfl) ?_
       refine WO.nx ?_
       have f101 := f84.stp (S89.tr S97) rfl rfl
       obtain ⟨y75, hy75, h⟩ := Option.bind_eq_some_iff.mp h
       refine WO.stI (κ := K96) (E := (Ep.own (Ep.int .i64) 2)) 8 [14] rfl rfl rfl rfl rfl rfl rfl rfl Try.sizeOf22 rfl ⟨_, _, rfl, f100⟩ rfl rfl f101 hy75 fun w102 K103 S104 f105 => ⟨trivial, ?_⟩
       have hn106 : x7.Arena.Next.length = y75.length := (setI_ok hy75).2.2.2.symm
       refine WO.fin ?_
       obtain rfl := Option.some.inj h
       exact DN.meet _ ⟨K103, rfl, (S80.tr (S89.tr (S97.tr S104))).wk rfl, f105, hn106⟩ fun a ha => (ha.more (ha.more ha.nil rfl) rfl)
      | false =>
       intro h; replace h := cF h
       refine WC.cf rfl ?_
       refine WC.rx (κ := K31) [0, 3, 8, 10] (some 17) [(0, 2), (1, 2), (3, 2), (5, 2), (6, 2), (8, 2), (12, 2), (2, 0), (4, 0), (7, 0), (9, 0), (10, 2), (11, 0), (13, 0), (14, 1), (15, 1), (16, 2)] [(17, 1)] (by kernel_rfl) (by kernel_rfl) fun w108 S107 => ?_
       refine WO.k2 rfl rfl rfl rfl (rn_fieldAddr Try.runUnderlying34 rfl Try.sizeOf32 rfl rfl) ?_
       refine WO.k2 rfl rfl rfl rfl (rn_fieldAddr Try.runUnderlying32 rfl Try.sizeOf23 rfl rfl) ?_
       refine WO.k2 rfl rfl rfl rfl (rn_fieldAddr Try.runUnderlying36 rfl Try.sizeOf2 rfl rfl) ?_
       refine WO.k2 rfl rfl rfl rfl (rn_fieldAddr Try.runUnderlying34 rfl Try.sizeOf32 rfl rfl) ?_
       refine WO.k2 rfl rfl rfl rfl (rn_fieldAddr Try.runUnderlying32 rfl Try.sizeOf23 rfl rfl) ?_
       refine WO.k2 rfl rfl rfl rfl (rn_fieldAddr Try.runUnderlying36 rfl Try.sizeOf2 rfl rfl) ?_
       refine WO.k2 rfl rfl rfl rfl (rn_fieldAddr Try.runUnderlying36 rfl Try.sizeOf2 rfl rfl) ?_
       have f109 := f36.stp S107 rfl rfl
       refine WO.k0 rfl rfl rfl rfl (rn_ld Try.isAgg23 rfl rfl (hvC (f109.ld 1 rfl rfl) rfl)) ?_
       have f110 := f37.stp S107 rfl rfl
       refine WO.k0 rfl rfl rfl rfl (rn_ld Try.isAgg2 rfl rfl (hvC (f110.ld 1 rfl rfl) rfl)) ?_
       refine WO.k0 rfl rfl rfl rfl (rn_ld Try.isAgg23 rfl rfl (hvC (f109.ld 1 rfl rfl) rfl)) ?_
       refine WO.k0 rfl rfl rfl rfl (rn_ld Try.isAgg2 rfl rfl (hvC (f110.ld 1 rfl rfl) rfl)) ?_
       obtain ⟨x20, hx20, h⟩ := Option.bind_eq_some_iff.mp h
       refine WO.k2 rfl rfl rfl rfl (rn_index f28.rdc hx20 Try.runUnderlying23 Try.sizeOf22 rfl rfl rfl rfl) ?_
       have f111 := f28.stp (S32.tr (S35.tr S107)) rfl rfl
       obtain ⟨ax20, ux20, f112, hl113⟩ := f111.rdc.gSl hx20
       refine WO.k0 rfl rfl rfl rfl (rn_ld Try.isAgg22 rfl rfl (hvC hl113 rfl)) ?_
       refine WO.k0 rfl rfl rfl rfl (rn_ld Try.isAgg2 rfl rfl (hvC (f110.ld 2 rfl rfl) rfl)) ?_
       refine WO.bl (κ := K31) (E := (Ep.int .i64)) 11 [] (parts := [(0, .tmp 23)]) (cells := [.int .i64 p1.N]) (xs := ([p1.N] : List Int)) rfl rfl rfl rfl rfl rfl Try.underlying22 Tryinfo2 rfl rfl rfl rfl rfl rfl rfl rfl rfl rfl ⟨[.int .i64 p1.N], [], Zl K31 w108 [], Zl K31 w108 [], rfl, Zl.sp (l1 := []) (l2 := []) rfl, Zl.sr (l1 := []) (l2 := []), rfl, rfl⟩ fun a24 u24 w114 K115 S116 f117 => ⟨(S116.cl rfl), ?_⟩
       obtain ⟨x25, hx25, h⟩ := Option.bind_eq_some_iff.mp h
       have f118 := f112.stp S116 rfl rfl
       refine WO.call rfl rfl rfl rfl rfl rfl Try.call91 (i_lessOf_ok (κ := fun b => mp [] 0 (K115 b)) (Sl.map f118 (mp [] 0) rfl rfl) (Sl.map f117.rdc (mp [] 0) rfl rfl) hx25) ?_
       rintro _ w119 ⟨k120, a25_0, u25_0, rfl, e121, f122⟩
       obtain ⟨K123, S124, m125⟩ := Ent.mixed (l := []) (κ := K115) e121 12 rfl
       refine ⟨((S116.tr S124).cl rfl), ?_⟩
       have f127 := f122.mx (no_int _) m125 rfl (rfl : 12 + 2 = 14)
       obtain ⟨x26, hx26, h⟩ := Option.bind_eq_some_iff.mp h
       refine WO.k2 rfl rfl rfl rfl (rn_index f111.rdc hx26 Try.runUnderlying23 Try.sizeOf22 rfl rfl rfl rfl) ?_
       refine WO.nx ?_
       have f128 := f111.stp (S116.tr S124) rfl rfl
       obtain ⟨y77, hy77, h⟩ := Option.bind_eq_some_iff.mp h
       refine WO.stI (κ := K123) (E := (Ep.own (Ep.int .i64) 2)) 8 [14] rfl rfl rfl rfl rfl rfl rfl rfl Try.sizeOf22 rfl ⟨_, _, rfl, f127⟩ rfl rfl f128 hy77 fun w129 K130 S131 f132 => ⟨trivial, ?_⟩
       have hn133 : x7.Arena.Next.length = y77.length := (setI_ok hy77).2.2.2.symm
       refine WO.fin ?_
       obtain rfl := Option.some.inj h
       exact DN.meet _ ⟨K130, rfl, (S107.tr (S116.tr (S124.tr S131))).wk rfl, f132, hn133⟩ fun a ha => (ha.more (ha.more ha.nil rfl) rfl)
     rintro _ w74 ⟨K75, rfl, S76, f77, hn78⟩
     have h := hK73
     have f134 := f27.stp (S32.tr (S35.tr S76)) rfl rfl
     obtain rfl := Option.some.inj h
     exact DN.meet _ ⟨K75, rfl, S76.wk rfl, f134, rfl, f77, hn78⟩ fun a ha => (ha.more (ha.more ha.nil rfl) rfl)
   rintro _ w58 ⟨K59, rfl, S60, f61, hn62, f63, hn64⟩
   have h := hK57
   have f135 := f29.stp (S32.tr (S35.tr S60)) rfl rfl
   obtain rfl := Option.some.inj h
   exact DN.meet _ ⟨K59, rfl, S60.wk rfl, f61, hn62, f63, hn64, f135, rfl⟩ fun a ha => (ha.more (ha.more ha.nil rfl) rfl)
 rintro _ w39 ⟨K40, rfl, S41, f42, hn43, f44, hn45, f46, hn47⟩
 have h := hK38
 refine DN.block ?_
 refine DN.seq ?_
 refine WC.seq ?_
 refine WC.rs [(0, 1), (1, 1)] rfl ?_
 have f136 := f36.stp S41 rfl rfl
 refine WO.k1 trivial rfl rfl rfl rfl (rn_la (cs := [.slice a7_0 x7.Arena.Owner.length u7_0, .slice a7_1 x7.Arena.Next.length u7_1, .slice a7_2 x7.Prio.length u7_2]) Try.isAgg34 Try.sizeOf34 rfl rfl rfl (haE f136.cells)) ?_
 have f137 := f12.stp (S24.tr (S32.tr (S35.tr S41))) rfl rfl
 refine WO.stB0 (κ := K40) 4 (vc := [.slice a7_0 x7.Arena.Owner.length u7_0, .slice a7_1 x7.Arena.Next.length u7_1, .slice a7_2 x7.Prio.length u7_2]) rfl rfl rfl rfl rfl rfl rfl Try.sizeOf34 rfl rfl f137 rfl fun w138 S139 f140 => ⟨trivial, ?_⟩
 refine WO.fin ?_
 refine DN.seq ?_
 refine WC.ret ?_
 have f141 := hE.stp (S3.tr (S7.tr (S11.tr (S24.tr (S32.tr (S35.tr (S41.tr S139))))))) rfl rfl
 have f142 := f42.stp S139 rfl rfl
 have f143 := f44.stp S139 rfl rfl
 have f144 := f46.stp S139 rfl rfl
 refine DN.res (l := [.cell 4 34]) Try.results45 (res_cellA rfl f140 Try.isAgg34 Try.sizeOf34 rfl rfl) rfl ?_
 obtain rfl := Option.some.inj h
 exact ⟨(fun b => ren [(7, 2), (8, 3), (9, 4)] (K40 b)), a7_0, u7_0, a7_1, u7_1, a7_2, u7_2, (by simp only [hn43, hn45, hn47]), (f141.map (ren [(7, 2), (8, 3), (9, 4)]) rfl rfl), (f142.map (ren [(7, 2), (8, 3), (9, 4)]) rfl rfl), (f143.map (ren [(7, 2), (8, 3), (9, 4)]) rfl rfl), (f144.map (ren [(7, 2), (8, 3), (9, 4)]) rfl rfl)⟩

/- loop.example/g00869/impl.TurnedBy -/
theorem i_TurnedBy_ok {w : World} {κ : Col} {a0_0_0 : Option Addr} {u0_0_0 : Nat} {a0_0_1 : Option Addr} {u0_0_1 : Nat} {a0_1 : Option Addr} {u0_1 : Nat} {p0 : Parity} {p1 : Edit} (g0_0_0 : Rd (Rp.int .i64) κ w 0 a0_0_0 u0_0_0 p0.Arena.Owner) (g0_0_1 : Rd (Rp.sl (Rp.int .i64)) κ w 0 a0_0_1 u0_0_1 p0.Arena.Next) (g0_1 : Rd (Rp.int .i64) κ w 0 a0_1 u0_1 p0.Prio) {r : (List Int)} (h : i_TurnedBy p0 p1 = some r) : Ret Try.prog 11 [.agg #[.slice a0_0_0 p0.Arena.Owner.length u0_0_0, .slice a0_0_1 p0.Arena.Next.length u0_0_1, .slice a0_1 p0.Prio.length u0_1], .agg #[.int .i64 p1.Kind, .int .i64 p1.V, .int .i64 p1.N]] w (fun v w' => ∃ (κ' : Col) (ra0 : Option Addr) (ru0 : Nat), v = .slice ra0 r.length ru0 ∧ Ent κ w κ' w' ∧ Oc (Ep.int .i64) 2 κ' w' 2 ra0 ru0 r) := by
 unfold i_TurnedBy at h
 refine Ret.enter Try.func11 rfl Try.ntmps11 rfl ?_
 dsimp only [envOf]
 have hE := Ent.refl κ w
 refine WC.seq ?_
 refine WC.rs [(0, 1), (1, 1), (2, 2)] rfl ?_
 refine WO.box (κ := κ) 2 rfl rfl rfl rfl rfl rfl rfl fun b2 w1 K2 S3 f4 => ⟨trivial, ?_⟩
 refine WO.box (κ := K2) 3 rfl rfl rfl rfl rfl rfl rfl fun b3 w5 K6 S7 f8 => ⟨trivial, ?_⟩
 refine WO.pn 1 rfl ?_
 refine WO.fin ?_
 refine DN.seq ?_
 refine WC.seq ?_
 refine WC.seq ?_
 refine WC.rs [(0, 1), (1, 1), (2, 2), (3, 2), (4, 1), (5, 1), (6, 1), (7, 2), (8, 2)] rfl ?_
 have f9 := f4.stp S7 rfl rfl
 refine WO.k1 trivial rfl rfl rfl rfl (rn_la (cs := [.slice a0_0_0 p0.Arena.Owner.length u0_0_0, .slice a0_0_1 p0.Arena.Next.length u0_0_1, .slice a0_1 p0.Prio.length u0_1]) Try.isAgg34 Try.sizeOf34 rfl rfl rfl (haE f9.cells)) ?_
 obtain ⟨x10, hx10, h⟩ := Option.bind_eq_some_iff.mp h
 have f10 := g0_0_0.stp (S3.tr S7) rfl rfl
 have f11 := g0_0_1.stp (S3.tr S7) rfl rfl
 have f12 := g0_1.stp (S3.tr S7) rfl rfl
 refine WO.call rfl rfl rfl rfl rfl rfl Try.call42 (i_ParityOk_ok (κ := fun b => mp [] 0 (K6 b)) (p0 := p0) (Sl.map f10 (mp [] 0) rfl rfl) (Sl.map f11 (mp [] 0) rfl rfl) (Sl.map f12 (mp [] 0) rfl rfl) hx10) ?_
 rintro _ w13 ⟨k14, rfl, e15⟩
 obtain ⟨K16, S17, m18⟩ := Ent.mixed (l := []) (κ := K6) e15 4 rfl
 refine ⟨trivial, ?_⟩
 refine WO.pn 2 rfl ?_
 obtain ⟨p17, h, hK20⟩ := Option.bind_eq_some_iff.mp h
 refine WO.meet [(4, 1), (5, 1), (6, 1), (7, 2), (8, 2)] [] (fun L w' => L = [(2, .pointer (some ⟨b2, 0, none⟩)), (3, .pointer (some ⟨b3, 0, none⟩)), (17, .bool p17)] ∧ ∃ κ', Stp [] K16 w13 κ' w') trivial ?_ ?_
 ·
  revert h
  cases ht21 : (!x10) with
  | true =>
   intro h; replace h := cT h
   refine WO.ls rfl rfl rfl rfl ?_
   refine WO.ls rfl rfl rfl rfl ?_
   refine WO.ls rfl rfl rfl rfl ?_
   refine WO.pn 2 rfl ?_
   obtain rfl := Option.some.inj h
   exact WO.met _ trivial ⟨rfl, _, (Stp.refl _ _).wk rfl⟩ fun a ha => (ha.more (ha.more (ha.more ha.nil rfl) rfl) rfl)
  | false =>
   intro h; replace h := cF h
   have f22 := f9.stp S17 rfl rfl
   refine WO.k1 trivial rfl rfl rfl rfl (rn_la (cs := [.slice a0_0_0 p0.Arena.Owner.length u0_0_0, .slice a0_0_1 p0.Arena.Next.length u0_0_1, .slice a0_1 p0.Prio.length u0_1]) Try.isAgg34 Try.sizeOf34 rfl rfl rfl (haE f22.cells)) ?_
   have f23 := f8.stp S17 rfl rfl
   refine WO.k1 trivial rfl rfl rfl rfl (rn_la (cs := [.int .i64 p1.Kind, .int .i64 p1.V, .int .i64 p1.N]) Try.isAgg36 Try.sizeOf36 rfl rfl rfl (haE f23.cells)) ?_
   obtain ⟨x15, hx15, h⟩ := Option.bind_eq_some_iff.mp h
   have f24 := f10.stp S17 rfl rfl
   have f25 := f11.stp S17 rfl rfl
   have f26 := f12.stp S17 rfl rfl
   refine WO.call rfl rfl rfl rfl rfl rfl Try.call43 (i_isEdit_ok (κ := fun b => mp [] 0 (K16 b)) (p0 := p0) (p1 := p1) (Sl.map f24 (mp [] 0) rfl rfl) (Sl.map f25 (mp [] 0) rfl rfl) (Sl.map f26 (mp [] 0) rfl rfl) hx15) ?_
   rintro _ w27 ⟨k28, rfl, e29⟩
   obtain ⟨K30, S31, m32⟩ := Ent.mixed (l := []) (κ := K16) e29 6 rfl
   refine ⟨trivial, ?_⟩
   refine WO.pn 2 rfl ?_
   obtain rfl := Option.some.inj h
   exact WO.met _ trivial ⟨rfl, _, S31.wk rfl⟩ fun a ha => (ha.more (ha.more (ha.more ha.nil rfl) rfl) rfl)
 rintro _ w34 _ ⟨rfl, K35, S36⟩
 have h := hK20
 refine WO.fin ?_
 refine DN.seq ?_
 revert h
 cases ht37 : p17 with
 | true =>
  intro h; replace h := cT h
  refine WC.ct rfl ?_
  refine WC.seq ?_
  refine WC.rs [(0, 2)] rfl ?_
  refine WO.pn 1 rfl ?_
  refine WO.fin ?_
  refine DN.seq ?_
  refine WC.ret ?_
  refine DN.retThen ?_
  have f38 := hE.stp (S3.tr (S7.tr (S17.tr S36))) rfl rfl
  refine DN.res (l := [.tmp 4]) Try.results11 (res_tmp rfl rfl) rfl ?_
  obtain rfl := Option.some.inj h
  exact ⟨K35, none, 0, rfl, f38, Ow.nil⟩
 | false =>
  intro h; replace h := cF h
  refine WC.cf rfl ?_
  refine WC.skip ?_
  refine DN.seq ?_
  refine WC.seq ?_
  refine WC.rx (κ := K35) [2, 3] none [(0, 0), (2, 0), (3, 0), (1, 1), (4, 1), (5, 1), (6, 2), (7, 2)] [] (by kernel_rfl) (by kernel_rfl) fun w40 S39 => ?_
  have f41 := f9.stp (S17.tr (S36.tr S39)) rfl rfl
  refine WO.k0 rfl rfl rfl rfl (rn_la (cs := [.slice a0_0_0 p0.Arena.Owner.length u0_0_0, .slice a0_0_1 p0.Arena.Next.length u0_0_1, .slice a0_1 p0.Prio.length u0_1]) Try.isAgg34 Try.sizeOf34 rfl rfl rfl (haC f41.cells rfl)) ?_
  refine WO.k0 rfl rfl rfl rfl (rn_la (cs := [.slice a0_0_0 p0.Arena.Owner.length u0_0_0, .slice a0_0_1 p0.Arena.Next.length u0_0_1, .slice a0_1 p0.Prio.length u0_1]) Try.isAgg34 Try.sizeOf34 rfl rfl rfl (haC f41.cells rfl)) ?_
  have f42 := f8.stp (S17.tr (S36.tr S39)) rfl rfl
  refine WO.k0 rfl rfl rfl rfl (rn_la (cs := [.int .i64 p1.Kind, .int .i64 p1.V, .int .i64 p1.N]) Try.isAgg36 Try.sizeOf36 rfl rfl rfl (haC f42.cells rfl)) ?_
  obtain ⟨x19, hx19, h⟩ := Option.bind_eq_some_iff.mp h
  have f43 := f10.stp (S17.tr (S36.tr S39)) rfl rfl
  have f44 := f11.stp (S17.tr (S36.tr S39)) rfl rfl
  have f45 := f12.stp (S17.tr (S36.tr S39)) rfl rfl
  refine WO.call rfl rfl rfl rfl rfl rfl Try.call44 (i_winners_ok (κ := fun b => mp [] 0 (K35 b)) (p0 := p0) (Sl.map f43 (mp [] 0) rfl rfl) (Sl.map f44 (mp [] 0) rfl rfl) (Sl.map f45 (mp [] 0) rfl rfl) hx19) ?_
  rintro _ w46 ⟨k47, a19_0, u19_0, rfl, e48, f49⟩
  obtain ⟨K50, S51, m52⟩ := Ent.mixed (l := []) (κ := K35) e48 6 rfl
  refine ⟨(S51.cl rfl), ?_⟩
  have f54 := f49.mx (no_int _) m52 rfl (rfl : 6 + 2 = 8)
  obtain ⟨x22, hx22, h⟩ := Option.bind_eq_some_iff.mp h
  have f55 := f43.stp S51 rfl rfl
  have f56 := f44.stp S51 rfl rfl
  have f57 := f45.stp S51 rfl rfl
  refine WO.call rfl rfl rfl rfl rfl rfl Try.call45 (i_edited_ok (κ := fun b => mp [] 0 (K50 b)) (p0 := p0) (p1 := p1) (Sl.map f55 (mp [] 0) rfl rfl) (Sl.map f56 (mp [] 0) rfl rfl) (Sl.map f57 (mp [] 0) rfl rfl) hx22) ?_
  rintro _ w58 ⟨k59, a22_0, u22_0, a22_1, u22_1, a22_2, u22_2, rfl, e60, f61, f62, f63⟩
  obtain ⟨K64, S65, m66⟩ := Ent.mixed (l := []) (κ := K50) e60 9 rfl
  refine ⟨((S51.tr S65).cl rfl), ?_⟩
  have f68 := f61.mx (no_int _) m66 rfl (rfl : 9 + 2 = 11)
  have f69 := f62.mx (no_own (no_int _) _) m66 rfl (rfl : 9 + 3 = 12)
  have f70 := f63.mx (no_int _) m66 rfl (rfl : 9 + 4 = 13)
  obtain ⟨x23, hx23, h⟩ := Option.bind_eq_some_iff.mp h
  refine WO.call rfl rfl rfl rfl rfl rfl Try.call44 (i_winners_ok (κ := fun b => mp [] 0 (K64 b)) (p0 := x22) (Sl.map f68.rdc (mp [] 0) rfl rfl) (Sl.map f69.rdc (mp [] 0) rfl rfl) (Sl.map f70.rdc (mp [] 0) rfl rfl) hx23) ?_
  rintro _ w71 ⟨k72, a23_0, u23_0, rfl, e73, f74⟩
  obtain ⟨K75, S76, m77⟩ := Ent.mixed (l := []) (κ := K64) e73 14 rfl
  refine ⟨((S51.tr (S65.tr S76)).cl rfl), ?_⟩
  have f79 := f74.mx (no_int _) m77 rfl (rfl : 14 + 2 = 16)
  refine WO.pn 2 rfl ?_
  refine WO.nx ?_
  refine WO.fin ?_
  refine DN.seq ?_
  refine WC.seq ?_
  refine WC.rs [(0, 1), (1, 2)] rfl ?_
  refine WO.bl0 (κ := K75) (E := (Ep.int .i64)) 17 rfl rfl rfl rfl rfl Try.underlying22 Tryinfo2 rfl fun a24 u24 w80 K81 S82 f83 => ⟨trivial, ?_⟩
  refine WO.pn 1 rfl ?_
  refine WO.fin ?_
  refine DN.seq ?_
  refine WC.seq ?_
  refine WC.seq ?_
  refine WC.rs [(0, 2), (1, 2), (2, 2)] rfl ?_
  refine WO.pn 1 rfl ?_
  refine WO.k2 rfl rfl rfl rfl (rn_len Try.runUnderlying22 rfl rfl) ?_
  refine WO.pn 1 rfl ?_
  refine WO.fin ?_
  refine DN.seq ?_
  have hN84 : (x19.length : Int) ≤ 9223372036854775807 := f54.len_le
  obtain ⟨q2, hq86, hK85⟩ := Option.bind_eq_some_iff.mp h
  clear h
  refine WC.meet (fun L w' => ∃ (κ' : Col) (s3 : (List Int)) (las3_0 : Option Addr) (lus3_0 : Nat), L = [(7, .slice las3_0 s3.length lus3_0)] ∧ Stp [17] K81 w80 κ' w' ∧ Oc (Ep.int .i64) 2 κ' w' 17 las3_0 lus3_0 s3 ∧ q2 = Sum.inr s3) ?_ ?_
  ·
   refine WC.block ?_
   refine WC.loop (fun k L w' => ∃ (κ' : Col) (v27 : Int) (s1 : (List Int)) (las1_0 : Option Addr) (lus1_0 : Nat), L = [(5, .slice a19_0 x19.length u19_0), (6, .slice a23_0 x23.length u23_0), (7, .slice las1_0 s1.length lus1_0), (26, .int .i64 (x19.length : Int)), (27, .int .i64 v27)] ∧ Stp [17] K81 w80 κ' w' ∧ Oc (Ep.int .i64) 2 κ' w' 17 las1_0 lus1_0 s1 ∧ 0 ≤ v27 ∧ Int.toNat ((x19.length : Int) - v27) = k ∧ cntM (i_TurnedBy_b0 x19 x23) k v27 s1 = some q2) ⟨_, _, ⟨K81, 0, (([] : List Int) : (List Int)), a24, u24, rfl, (Stp.refl _ _).wk rfl, f83, (by decide), (by simp), hq86⟩, fun a ha => (ha.more (ha.more (ha.more (ha.more (ha.more ha.nil rfl) rfl) rfl) rfl) rfl)⟩ ?_
   rintro k _ w91 ⟨K92, v27, s1, las1_0, lus1_0, rfl, S93, f94, hj84, hJ84, h⟩
   rcases k with _ | k
   ·
    have hk95 := h; obtain ⟨o84, h⟩ := ex_eq (Sum.inr (Sum.inl s1) : (List Int) ⊕ (((List Int)) ⊕ ((List Int))))
    have hc84 : decide (v27 < (x19.length : Int)) = false := decide_eq_false (by omega)
    refine WC.seq ?_
    refine WC.rs [(0, 2)] rfl ?_
    refine WO.pn 1 rfl ?_
    refine WO.fin ?_
    refine DN.seq ?_
    refine WC.seq ?_
    refine WC.cf' rfl hc84 ?_
    refine WC.exit ?_
    refine DN.exitThen ?_
    refine DN.exitThen ?_
    obtain rfl := Option.some.inj h
    have h := hk95
    refine DN.hit ?_
    obtain rfl := Option.some.inj h
    exact DN.meet _ ⟨K92, (s1 : (List Int)), las1_0, lus1_0, rfl, S93.wk rfl, f94, rfl⟩ fun a ha => (ha.more ha.nil rfl)
   ·
    obtain ⟨o84, h, hk95⟩ := Option.bind_eq_some_iff.mp h; unfold i_TurnedBy_b0 at h
    have hc84 : decide (v27 < (x19.length : Int)) = true := decide_eq_true (by omega)
    refine WC.seq ?_
    refine WC.rs [(0, 2)] rfl ?_
    refine WO.pn 1 rfl ?_
    refine WO.fin ?_
    refine DN.seq ?_
    refine WC.seq ?_
    refine WC.ct' rfl hc84 ?_
    refine WC.skip ?_
    refine DN.seq ?_
    refine WC.seq ?_
    refine WC.block ?_
    refine WC.seq ?_
    refine WC.rs [(0, 2), (1, 2)] rfl ?_
    refine WO.pn 2 rfl ?_
    refine WO.fin ?_
    refine DN.seq ?_
    refine WC.seq ?_
    refine WC.rx (κ := K92) [0, 8, 16] none [(0, 2), (1, 2), (2, 2), (4, 2), (5, 2), (6, 2), (3, 0), (7, 0), (8, 2)] [] (by kernel_rfl) (by kernel_rfl) fun w97 S96 => ?_
    refine WO.pn 2 rfl ?_
    obtain ⟨x32, hx32, h⟩ := Option.bind_eq_some_iff.mp h
    refine WO.k2 rfl rfl rfl rfl (rn_index f54.rdc hx32 Try.runUnderlying22 Try.sizeOf2 rfl rfl rfl rfl) ?_
    refine WO.pn 2 rfl ?_
    obtain ⟨x36, hx36, h⟩ := Option.bind_eq_some_iff.mp h
    refine WO.k2 rfl rfl rfl rfl (rn_index f79.rdc hx36 Try.runUnderlying22 Try.sizeOf2 rfl rfl rfl rfl) ?_
    have f98 := f54.stp (S65.tr (S76.tr (S82.tr (S93.tr S96)))) rfl rfl
    refine WO.k0 rfl rfl rfl rfl (rn_ld Try.isAgg2 rfl rfl (hvC (f98.rdc.gInt hx32) rfl)) ?_
    have f99 := f79.stp (S82.tr (S93.tr S96)) rfl rfl
    refine WO.k0 rfl rfl rfl rfl (rn_ld Try.isAgg2 rfl rfl (hvC (f99.rdc.gInt hx36) rfl)) ?_
    refine WO.pn 1 rfl ?_
    refine WO.nx ?_
    refine WO.fin ?_
    refine DN.seq ?_
    obtain ⟨q4, h, hK100⟩ := Option.bind_eq_some_iff.mp h
    refine WC.meet (fun L w' => ∃ (κ' : Col) (laq4_0 : Option Addr) (luq4_0 : Nat), L = [(5, .slice a19_0 x19.length u19_0), (6, .slice a23_0 x23.length u23_0), (7, .slice laq4_0 q4.length luq4_0), (26, .int .i64 (x19.length : Int)), (27, .int .i64 v27)] ∧ Stp [17] K92 w97 κ' w' ∧ Oc (Ep.int .i64) 2 κ' w' 17 laq4_0 luq4_0 q4) ?_ ?_
    ·
     revert h
     cases ht105 : (x32 != x36) with
     | true =>
      intro h; replace h := cT h
      refine WC.ct rfl ?_
      refine WC.rs [(0, 2), (1, 2), (2, 1), (3, 1), (4, 2)] rfl ?_
      refine WO.pn 2 rfl ?_
      refine WO.bl (κ := K92) (E := (Ep.int .i64)) 18 [] (parts := [(0, .tmp 40)]) (cells := [.int .i64 v27]) (xs := ([v27] : List Int)) rfl rfl rfl rfl rfl rfl Try.underlying22 Tryinfo2 rfl rfl rfl rfl rfl rfl rfl rfl rfl rfl ⟨[.int .i64 v27], [], Zl K92 w97 [], Zl K92 w97 [], rfl, Zl.sp (l1 := []) (l2 := []) rfl, Zl.sr (l1 := []) (l2 := []), rfl, rfl⟩ fun a41 u41 w106 K107 S108 f109 => ⟨trivial, ?_⟩
      obtain ⟨x42, hx42, h⟩ := Option.bind_eq_some_iff.mp h
      have f110 := f94.stp (S96.tr S108) rfl rfl
      refine WO.app (κ := K107) (E := (Ep.int .i64)) 17 [] rfl rfl rfl rfl rfl rfl rfl rfl rfl Try.underlying22 Tryinfo2 rfl rfl rfl rfl f110 (Sl.srcP (pu_int _) f109.rdc) sy_false hx42 rfl fun a42 u42 w111 K112 S113 f114 => ⟨trivial, ?_⟩
      refine WO.pn 1 rfl ?_
      refine WO.fin ?_
      obtain rfl := Option.some.inj h
      exact DN.meet _ ⟨K112, a42, u42, rfl, (S108.tr S113).wk rfl, f114⟩ fun a ha => (ha.more (ha.more (ha.more (ha.more (ha.more ha.nil rfl) rfl) rfl) rfl) rfl)
     | false =>
      intro h; replace h := cF h
      refine WC.cf rfl ?_
      refine WC.skip ?_
      have f115 := f94.stp S96 rfl rfl
      obtain rfl := Option.some.inj h
      exact DN.meet _ ⟨K92, las1_0, lus1_0, rfl, (Stp.refl _ _).wk rfl, f115⟩ fun a ha => (ha.more (ha.more (ha.more (ha.more (ha.more ha.nil rfl) rfl) rfl) rfl) rfl)
    rintro _ w101 ⟨K102, laq4_0, luq4_0, rfl, S103, f104⟩
    have h := hK100
    refine DN.block ?_
    refine DN.seq ?_
    refine WC.rs [(0, 2), (1, 2)] rfl ?_
    refine WO.pn 2 rfl ?_
    refine WO.fin ?_
    have hw84 : IntKind.wrap .i64 (v27 + 1) = v27 + 1 := wr1 hj84 (of_decide_eq_true hc84) hN84
    rw [hw84]
    have hc84 := of_decide_eq_true hc84
    obtain rfl := Option.some.inj h
    refine DN.round fun a ha => ?_
    exact ⟨k, _, Nat.lt_succ_self _, ⟨K102, v27 + 1, (q4 : (List Int)), laq4_0, luq4_0, rfl, (S93.tr (S96.tr S103)).wk rfl, f104, by omega, by omega, hk95⟩, (ha.more (ha.more (ha.more (ha.more (ha.more ha.nil rfl) rfl) rfl) rfl) rfl)⟩
  rintro _ w87 ⟨K88, s3, las3_0, lus3_0, rfl, S89, f90, rfl⟩
  have h := hK85
  dsimp only [aft] at h
  refine DN.seq ?_
  refine WC.seq ?_
  refine WC.rs [(0, 2), (1, 2)] rfl ?_
  refine WO.pn 2 rfl ?_
  refine WO.fin ?_
  refine DN.seq ?_
  refine WC.ret ?_
  have f116 := hE.stp (S3.tr (S7.tr (S17.tr (S36.tr (S39.tr (S51.tr (S65.tr (S76.tr (S82.tr S89))))))))) rfl rfl
  refine DN.res (l := [.tmp 4]) Try.results11 (res_tmp rfl rfl) rfl ?_
  obtain rfl := Option.some.inj h
  exact ⟨(fun b => ren [(17, 2)] (K88 b)), las3_0, lus3_0, rfl, (f116.map (ren [(17, 2)]) rfl rfl), (f90.map (ren [(17, 2)]) rfl rfl)⟩

end Go.Proofs.Ytndiklipffipcaa
