/- The walks, part 5. By program. -/
import Derived.Test.YtnmjfjppgpkieaaFnsK4
set_option linter.unusedVariables false
set_option linter.unusedSimpArgs false
namespace Go.Proofs.Ytnmjfjppgpkieaa
open Go Go.Wk Go.Proofs
set_option maxRecDepth 100000
set_option maxHeartbeats 1000000

/- loop.example/g00869/spec.ClausesOk -/
theorem s_ClausesOk_ok {w : World} {κ : Col} {p0 : Sig} {a1 : Option Addr} {u1 : Nat} {p1 : (List Clause)} (g1 : Rd Clause.rp κ w 0 a1 u1 p1) {r : Bool} (h : s_ClausesOk p0 p1 = some r) : Ret Try.prog 120 [.agg #[.int .i64 p0.In, .int .i64 p0.Out], .slice a1 p1.length u1] w (fun v w' => ∃ (κ' : Col), v = .bool r ∧ Ent κ w κ' w') := by
 unfold s_ClausesOk at h
 refine Ret.enter Try.func120 rfl Try.ntmps120 rfl ?_
 dsimp only [envOf]
 have hE := Ent.refl κ w
 refine WC.seq ?_
 refine WC.rs [(0, 1), (1, 2)] rfl ?_
 refine WO.box (κ := κ) 2 rfl rfl rfl rfl rfl rfl rfl fun b2 w1 K2 S3 f4 => ⟨trivial, ?_⟩
 refine WO.pn 1 rfl ?_
 refine WO.fin ?_
 refine DN.seq ?_
 refine WC.seq ?_
 refine WC.seq ?_
 refine WC.rs [(0, 1), (1, 1), (2, 2), (3, 2), (4, 2), (5, 2), (6, 2), (7, 2)] rfl ?_
 refine WO.k1 trivial rfl rfl rfl rfl (rn_la (cs := [.int .i64 p0.In, .int .i64 p0.Out]) Try.isAgg35 Try.sizeOf35 rfl rfl rfl (haE f4.cells)) ?_
 obtain ⟨x7, hx7, h⟩ := Option.bind_eq_some_iff.mp h
 refine WO.call rfl rfl rfl rfl rfl rfl Try.call95 (s_SigOk_ok (κ := fun b => mp [] 0 (K2 b)) (p0 := p0) hx7) ?_
 rintro _ w5 ⟨k6, rfl, e7⟩
 obtain ⟨K8, S9, m10⟩ := Ent.mixed (l := []) (κ := K2) e7 3 rfl
 refine ⟨trivial, ?_⟩
 refine WO.pn 2 rfl ?_
 obtain ⟨p13, h, hK12⟩ := Option.bind_eq_some_iff.mp h
 refine WO.meet [(4, 2), (5, 2), (6, 2), (7, 2)] [] (fun L w' => L = [(1, .slice a1 p1.length u1), (2, .pointer (some ⟨b2, 0, none⟩)), (13, .bool p13)] ∧ ∃ κ', Stp [] K8 w5 κ' w') trivial ?_ ?_
 ·
  revert h
  cases ht13 : (!x7) with
  | true =>
   intro h; replace h := cT h
   refine WO.pn 4 rfl ?_
   obtain rfl := Option.some.inj h
   exact WO.met _ trivial ⟨rfl, _, (Stp.refl _ _).wk rfl⟩ fun a ha => (ha.more (ha.more (ha.more ha.nil rfl) rfl) rfl)
  | false =>
   intro h; replace h := cF h
   refine WO.pn 1 rfl ?_
   refine WO.k2 rfl rfl rfl rfl (rn_len Try.runUnderlying39 rfl rfl) ?_
   refine WO.pn 2 rfl ?_
   obtain rfl := Option.some.inj h
   exact WO.met _ trivial ⟨rfl, _, (Stp.refl _ _).wk rfl⟩ fun a ha => (ha.more (ha.more (ha.more ha.nil rfl) rfl) rfl)
 rintro _ w14 _ ⟨rfl, K15, S16⟩
 have h := hK12
 refine WO.fin ?_
 refine DN.seq ?_
 revert h
 cases ht17 : p13 with
 | true =>
  intro h; replace h := cT h
  refine WC.ct rfl ?_
  refine WC.seq ?_
  refine WC.rs [(0, 2)] rfl ?_
  refine WO.pn 1 rfl ?_
  refine WO.fin ?_
  refine DN.seq ?_
  refine WC.ret ?_
  refine DN.retThen ?_
  have f18 := hE.stp (S3.tr (S9.tr S16)) rfl rfl
  refine DN.res (l := [.tmp 4]) Try.results120 (res_tmp rfl rfl) rfl ?_
  obtain rfl := Option.some.inj h
  exact ⟨K15, rfl, f18⟩
 | false =>
  intro h; replace h := cF h
  refine WC.cf rfl ?_
  refine WC.skip ?_
  refine DN.seq ?_
  refine WC.seq ?_
  refine WC.seq ?_
  refine WC.rs [(0, 2)] rfl ?_
  refine WO.pn 1 rfl ?_
  refine WO.fin ?_
  refine DN.seq ?_
  have hN19 : (p1.length : Int) ≤ 9223372036854775807 := g1.len_le
  obtain ⟨q2, hq21, hK20⟩ := Option.bind_eq_some_iff.mp h
  clear h
  refine WC.meet (fun L w' => ∃ (κ' : Col), L = [] ∧ Stp [] K15 w14 κ' w' ∧ q2 = Sum.inr ()) ?_ ?_
  ·
   refine WC.block ?_
   refine WC.loop (fun k L w' => ∃ (κ' : Col) (v5 : Int), L = [(1, .slice a1 p1.length u1), (2, .pointer (some ⟨b2, 0, none⟩)), (5, .int .i64 v5)] ∧ Stp [] K15 w14 κ' w' ∧ 0 ≤ v5 ∧ Int.toNat ((p1.length : Int) - v5) = k ∧ cntM (s_ClausesOk_b0 p0 p1) k v5 () = some q2) ⟨_, _, ⟨K15, 0, rfl, (Stp.refl _ _).wk rfl, (by decide), (by simp), hq21⟩, fun a ha => (ha.more (ha.more (ha.more ha.nil rfl) rfl) rfl)⟩ ?_
   rintro k _ w25 ⟨K26, v5, rfl, S27, hj19, hJ19, h⟩
   rcases k with _ | k
   ·
    have hk28 := h; obtain ⟨o19, h⟩ := ex_eq (Sum.inr (Sum.inl ()) : Bool ⊕ ((Unit) ⊕ (Unit)))
    have hc19 : decide (v5 < (p1.length : Int)) = false := decide_eq_false (by omega)
    refine WC.seq ?_
    refine WC.seq ?_
    refine WC.rs [(0, 2), (1, 2), (2, 2), (3, 2)] rfl ?_
    refine WO.pn 2 rfl ?_
    refine WO.k2 rfl rfl rfl rfl (rn_len Try.runUnderlying39 rfl rfl) ?_
    refine WO.pn 1 rfl ?_
    refine WO.fin ?_
    refine DN.seq ?_
    refine WC.cf' rfl hc19 ?_
    refine WC.exit ?_
    refine DN.exitThen ?_
    refine DN.exitThen ?_
    obtain rfl := Option.some.inj h
    have h := hk28
    refine DN.hit ?_
    obtain rfl := Option.some.inj h
    exact DN.meet _ ⟨K26, rfl, S27.wk rfl, rfl⟩ fun a ha => ha.nil
   ·
    obtain ⟨o19, h, hk28⟩ := Option.bind_eq_some_iff.mp h; unfold s_ClausesOk_b0 at h
    have hc19 : decide (v5 < (p1.length : Int)) = true := decide_eq_true (by omega)
    refine WC.seq ?_
    refine WC.seq ?_
    refine WC.rs [(0, 2), (1, 2), (2, 2), (3, 2)] rfl ?_
    refine WO.pn 2 rfl ?_
    refine WO.k2 rfl rfl rfl rfl (rn_len Try.runUnderlying39 rfl rfl) ?_
    refine WO.pn 1 rfl ?_
    refine WO.fin ?_
    refine DN.seq ?_
    refine WC.ct' rfl hc19 ?_
    refine WC.skip ?_
    refine DN.seq ?_
    refine WC.seq ?_
    refine WC.block ?_
    refine WC.seq ?_
    refine WC.rx (κ := K26) [0, 2] none [(1, 2), (2, 2), (3, 2), (0, 0), (4, 0), (5, 1), (6, 2)] [] (by kernel_rfl) (by kernel_rfl) fun w30 S29 => ?_
    refine WO.pn 2 rfl ?_
    obtain ⟨x23, hx23, h⟩ := Option.bind_eq_some_iff.mp h
    refine WO.k2 rfl rfl rfl rfl (rn_index g1 hx23 Try.runUnderlying39 Try.sizeOf99 rfl rfl rfl rfl) ?_
    have f31 := f4.stp (S9.tr (S16.tr (S27.tr S29))) rfl rfl
    refine WO.k0 rfl rfl rfl rfl (rn_la (cs := [.int .i64 p0.In, .int .i64 p0.Out]) Try.isAgg35 Try.sizeOf35 rfl rfl rfl (haC f31.cells rfl)) ?_
    have f32 := g1.stp (S3.tr (S9.tr (S16.tr (S27.tr S29)))) rfl rfl
    obtain ⟨cse33, hre33, hle33⟩ := (f32).gSt hx23
    obtain ⟨ae33_0, ue33_0, ae33_1, ue33_1, rfl, fe33_0, fe33_1⟩ := Clause.un hre33
    refine WO.k0 rfl rfl rfl rfl (rn_la (cs := [.int .i64 x23.Kind, .slice ae33_0 x23.A.length ue33_0, .slice ae33_1 x23.B.length ue33_1]) Try.isAgg99 Try.sizeOf99 rfl rfl rfl (haC hle33 rfl)) ?_
    obtain ⟨x25, hx25, h⟩ := Option.bind_eq_some_iff.mp h
    refine WO.call rfl rfl rfl rfl rfl rfl Try.call138 (s_ClauseOk_ok (κ := fun b => mp [] 0 (K26 b)) (p0 := p0) (p1 := x23) (Sl.map fe33_0 (mp [] 0) rfl rfl) (Sl.map fe33_1 (mp [] 0) rfl rfl) hx25) ?_
    rintro _ w34 ⟨k35, rfl, e36⟩
    obtain ⟨K37, S38, m39⟩ := Ent.mixed (l := []) (κ := K26) e36 5 rfl
    refine ⟨(S38.cl rfl), ?_⟩
    refine WO.pn 1 rfl ?_
    refine WO.nx ?_
    refine WO.fin ?_
    refine DN.seq ?_
    revert h
    cases ht41 : (!x25) with
    | true =>
     intro h; replace h := cT h
     refine WC.ct rfl ?_
     refine WC.seq ?_
     refine WC.rs [(0, 2)] rfl ?_
     refine WO.pn 1 rfl ?_
     refine WO.fin ?_
     refine DN.seq ?_
     refine WC.ret ?_
     refine DN.retBlock ?_
     refine DN.retThen ?_
     refine DN.retThen ?_
     obtain rfl := Option.some.inj h
     obtain rfl := Option.some.inj hk28
     have h := hK20
     dsimp only [aft] at h
     refine DN.retBlock ?_
     refine DN.retMeet ?_
     refine DN.retThen ?_
     have f42 := hE.stp (S3.tr (S9.tr (S16.tr (S27.tr (S29.tr S38))))) rfl rfl
     refine DN.res (l := [.tmp 4]) Try.results120 (res_tmp rfl rfl) rfl ?_
     obtain rfl := Option.some.inj h
     exact ⟨K37, rfl, f42⟩
    | false =>
     intro h; replace h := cF h
     refine WC.cf rfl ?_
     refine WC.skip ?_
     refine DN.block ?_
     refine DN.seq ?_
     refine WC.rs [(0, 2), (1, 2), (2, 2)] rfl ?_
     refine WO.pn 3 rfl ?_
     refine WO.fin ?_
     have hw19 : IntKind.wrap .i64 (v5 + 1) = v5 + 1 := wr1 hj19 (of_decide_eq_true hc19) hN19
     rw [hw19]
     have hc19 := of_decide_eq_true hc19
     obtain rfl := Option.some.inj h
     refine DN.round fun a ha => ?_
     exact ⟨k, _, Nat.lt_succ_self _, ⟨K37, v5 + 1, rfl, (S27.tr (S29.tr S38)).wk rfl, by omega, by omega, hk28⟩, (ha.more (ha.more (ha.more ha.nil rfl) rfl) rfl)⟩
  rintro _ w22 ⟨K23, rfl, S24, rfl⟩
  have h := hK20
  dsimp only [aft] at h
  refine DN.seq ?_
  refine WC.seq ?_
  refine WC.rs [(0, 2)] rfl ?_
  refine WO.pn 1 rfl ?_
  refine WO.fin ?_
  refine DN.seq ?_
  refine WC.ret ?_
  have f43 := hE.stp (S3.tr (S9.tr (S16.tr S24))) rfl rfl
  refine DN.res (l := [.tmp 4]) Try.results120 (res_tmp rfl rfl) rfl ?_
  obtain rfl := Option.some.inj h
  exact ⟨K23, rfl, f43⟩

/- loop.example/g00869/spec.HoldsOn -/
theorem s_HoldsOn_ok {w : World} {κ : Col} {p0 : Sig} {a1_1 : Option Addr} {u1_1 : Nat} {a1_2 : Option Addr} {u1_2 : Nat} {p1 : Clause} {a2_0 : Option Addr} {u2_0 : Nat} {a2_1 : Option Addr} {u2_1 : Nat} {p2 : Word} (g1_1 : Rd (Rp.int .i64) κ w 0 a1_1 u1_1 p1.A) (g1_2 : Rd (Rp.int .i64) κ w 0 a1_2 u1_2 p1.B) (g2_0 : Rd (Rp.int .i64) κ w 0 a2_0 u2_0 p2.Stem) (g2_1 : Rd (Rp.int .i64) κ w 0 a2_1 u2_1 p2.Loop) {r : Bool} (h : s_HoldsOn p0 p1 p2 = some r) : Ret Try.prog 122 [.agg #[.int .i64 p0.In, .int .i64 p0.Out], .agg #[.int .i64 p1.Kind, .slice a1_1 p1.A.length u1_1, .slice a1_2 p1.B.length u1_2], .agg #[.slice a2_0 p2.Stem.length u2_0, .slice a2_1 p2.Loop.length u2_1]] w (fun v w' => ∃ (κ' : Col), v = .bool r ∧ Ent κ w κ' w') := by
 unfold s_HoldsOn at h
 refine Ret.enter Try.func122 rfl Try.ntmps122 rfl ?_
 dsimp only [envOf]
 have hE := Ent.refl κ w
 refine WC.seq ?_
 refine WC.rs [(0, 1), (1, 1), (2, 1), (3, 2)] rfl ?_
 refine WO.box (κ := κ) 2 rfl rfl rfl rfl rfl rfl rfl fun b3 w1 K2 S3 f4 => ⟨trivial, ?_⟩
 refine WO.box (κ := K2) 3 rfl rfl rfl rfl rfl rfl rfl fun b4 w5 K6 S7 f8 => ⟨trivial, ?_⟩
 refine WO.box (κ := K6) 4 rfl rfl rfl rfl rfl rfl rfl fun b5 w9 K10 S11 f12 => ⟨trivial, ?_⟩
 refine WO.pn 1 rfl ?_
 refine WO.fin ?_
 refine DN.seq ?_
 refine WC.seq ?_
 refine WC.seq ?_
 refine WC.rs [(0, 1), (1, 1), (2, 1), (3, 2), (4, 2), (5, 1), (6, 1), (7, 1), (8, 2), (9, 2)] rfl ?_
 have f13 := f4.stp (S7.tr S11) rfl rfl
 refine WO.k1 trivial rfl rfl rfl rfl (rn_la (cs := [.int .i64 p0.In, .int .i64 p0.Out]) Try.isAgg35 Try.sizeOf35 rfl rfl rfl (haE f13.cells)) ?_
 have f14 := f8.stp S11 rfl rfl
 refine WO.k1 trivial rfl rfl rfl rfl (rn_la (cs := [.int .i64 p1.Kind, .slice a1_1 p1.A.length u1_1, .slice a1_2 p1.B.length u1_2]) Try.isAgg99 Try.sizeOf99 rfl rfl rfl (haE f14.cells)) ?_
 obtain ⟨x10, hx10, h⟩ := Option.bind_eq_some_iff.mp h
 have f15 := g1_1.stp (S3.tr (S7.tr S11)) rfl rfl
 have f16 := g1_2.stp (S3.tr (S7.tr S11)) rfl rfl
 refine WO.call rfl rfl rfl rfl rfl rfl Try.call138 (s_ClauseOk_ok (κ := fun b => mp [] 0 (K10 b)) (p0 := p0) (p1 := p1) (Sl.map f15 (mp [] 0) rfl rfl) (Sl.map f16 (mp [] 0) rfl rfl) hx10) ?_
 rintro _ w17 ⟨k18, rfl, e19⟩
 obtain ⟨K20, S21, m22⟩ := Ent.mixed (l := []) (κ := K10) e19 5 rfl
 refine ⟨trivial, ?_⟩
 refine WO.pn 2 rfl ?_
 obtain ⟨p17, h, hK24⟩ := Option.bind_eq_some_iff.mp h
 refine WO.meet [(5, 1), (6, 1), (7, 1), (8, 2), (9, 2)] [] (fun L w' => L = [(4, .pointer (some ⟨b4, 0, none⟩)), (5, .pointer (some ⟨b5, 0, none⟩)), (17, .bool p17)] ∧ ∃ κ', Stp [] K20 w17 κ' w') trivial ?_ ?_
 ·
  revert h
  cases ht25 : (!x10) with
  | true =>
   intro h; replace h := cT h
   refine WO.ls rfl rfl rfl rfl ?_
   refine WO.ls rfl rfl rfl rfl ?_
   refine WO.ls rfl rfl rfl rfl ?_
   refine WO.pn 2 rfl ?_
   obtain rfl := Option.some.inj h
   exact WO.met _ trivial ⟨rfl, _, (Stp.refl _ _).wk rfl⟩ fun a ha => (ha.more (ha.more (ha.more ha.nil rfl) rfl) rfl)
  | false =>
   intro h; replace h := cF h
   have f26 := f13.stp S21 rfl rfl
   refine WO.k1 trivial rfl rfl rfl rfl (rn_la (cs := [.int .i64 p0.In, .int .i64 p0.Out]) Try.isAgg35 Try.sizeOf35 rfl rfl rfl (haE f26.cells)) ?_
   have f27 := f12.stp S21 rfl rfl
   refine WO.k1 trivial rfl rfl rfl rfl (rn_la (cs := [.slice a2_0 p2.Stem.length u2_0, .slice a2_1 p2.Loop.length u2_1]) Try.isAgg41 Try.sizeOf41 rfl rfl rfl (haE f27.cells)) ?_
   obtain ⟨x15, hx15, h⟩ := Option.bind_eq_some_iff.mp h
   have f28 := g2_0.stp (S3.tr (S7.tr (S11.tr S21))) rfl rfl
   have f29 := g2_1.stp (S3.tr (S7.tr (S11.tr S21))) rfl rfl
   refine WO.call rfl rfl rfl rfl rfl rfl Try.call121 (s_WordOk_ok (κ := fun b => mp [] 0 (K20 b)) (p0 := p0) (p1 := p2) (Sl.map f28 (mp [] 0) rfl rfl) (Sl.map f29 (mp [] 0) rfl rfl) hx15) ?_
   rintro _ w30 ⟨k31, rfl, e32⟩
   obtain ⟨K33, S34, m35⟩ := Ent.mixed (l := []) (κ := K20) e32 7 rfl
   refine ⟨trivial, ?_⟩
   refine WO.pn 2 rfl ?_
   obtain rfl := Option.some.inj h
   exact WO.met _ trivial ⟨rfl, _, S34.wk rfl⟩ fun a ha => (ha.more (ha.more (ha.more ha.nil rfl) rfl) rfl)
 rintro _ w37 _ ⟨rfl, K38, S39⟩
 have h := hK24
 refine WO.fin ?_
 refine DN.seq ?_
 revert h
 cases ht40 : p17 with
 | true =>
  intro h; replace h := cT h
  refine WC.ct rfl ?_
  refine WC.seq ?_
  refine WC.rs [(0, 2)] rfl ?_
  refine WO.pn 1 rfl ?_
  refine WO.fin ?_
  refine DN.seq ?_
  refine WC.ret ?_
  refine DN.retThen ?_
  have f41 := hE.stp (S3.tr (S7.tr (S11.tr (S21.tr S39)))) rfl rfl
  refine DN.res (l := [.tmp 6]) Try.results122 (res_tmp rfl rfl) rfl ?_
  obtain rfl := Option.some.inj h
  exact ⟨K38, rfl, f41⟩
 | false =>
  intro h; replace h := cF h
  refine WC.cf rfl ?_
  refine WC.skip ?_
  refine DN.seq ?_
  refine WC.seq ?_
  refine WC.rx (κ := K38) [4] none [(0, 2), (3, 2), (1, 0), (4, 0), (2, 1), (5, 1), (6, 2)] [] (by kernel_rfl) (by kernel_rfl) fun w43 S42 => ?_
  refine WO.k2 rfl rfl rfl rfl (rn_fieldAddr Try.runUnderlying41 rfl Try.sizeOf28 rfl rfl) ?_
  refine WO.k2 rfl rfl rfl rfl (rn_fieldAddr Try.runUnderlying41 rfl Try.sizeOf28 rfl rfl) ?_
  have f44 := f12.stp (S21.tr (S39.tr S42)) rfl rfl
  refine WO.k0 rfl rfl rfl rfl (rn_ld Try.isAgg28 rfl rfl (hvC (f44.ld 0 rfl rfl) rfl)) ?_
  refine WO.k0 rfl rfl rfl rfl (rn_ld Try.isAgg28 rfl rfl (hvC (f44.ld 1 rfl rfl) rfl)) ?_
  obtain ⟨x20, hx20, h⟩ := Option.bind_eq_some_iff.mp h
  have f45 := g2_0.stp (S3.tr (S7.tr (S11.tr (S21.tr (S39.tr S42))))) rfl rfl
  refine WO.call rfl rfl rfl rfl rfl rfl Try.call118 (s_l1Copy_ok (κ := fun b => mp [] 0 (K38 b)) (Sl.map f45 (mp [] 0) rfl rfl) hx20) ?_
  rintro _ w46 ⟨k47, a20_0, u20_0, rfl, e48, f49⟩
  obtain ⟨K50, S51, m52⟩ := Ent.mixed (l := []) (κ := K38) e48 7 rfl
  refine ⟨(S51.cl rfl), ?_⟩
  have f54 := f49.mx (no_int _) m52 rfl (rfl : 7 + 2 = 9)
  obtain ⟨x23, hx23, h⟩ := Option.bind_eq_some_iff.mp h
  have f55 := g2_1.stp (S3.tr (S7.tr (S11.tr (S21.tr (S39.tr (S42.tr S51)))))) rfl rfl
  refine WO.app (κ := K50) (E := (Ep.int .i64)) 9 [] rfl rfl rfl rfl rfl rfl rfl rfl rfl Try.underlying28 Tryinfo2 rfl rfl rfl rfl f54 (Sl.srcP (pu_int _) f55) sy_false hx23 rfl fun a23 u23 w56 K57 S58 f59 => ⟨((S51.tr S58).cl rfl), ?_⟩
  refine WO.pn 1 rfl ?_
  refine WO.nx ?_
  refine WO.fin ?_
  refine DN.seq ?_
  refine WC.seq ?_
  refine WC.seq ?_
  refine WC.rs [(0, 2), (1, 1)] rfl ?_
  refine WO.k2 rfl rfl rfl rfl (rn_fieldAddr Try.runUnderlying99 rfl Try.sizeOf2 rfl rfl) ?_
  have f60 := f14.stp (S21.tr (S39.tr (S42.tr (S51.tr S58)))) rfl rfl
  refine WO.k1 trivial rfl rfl rfl rfl (rn_ld Try.isAgg2 rfl rfl (hvE (f60.ld 0 rfl rfl))) ?_
  refine WO.fin ?_
  refine DN.seq ?_
  refine WC.block ?_
  refine WC.seq ?_
  refine WC.rs [(0, 2), (1, 2)] rfl ?_
  refine WO.pn 2 rfl ?_
  refine WO.fin ?_
  refine DN.seq ?_
  revert h
  cases ht61 : (p1.Kind == 1) with
  | true =>
   intro h; replace h := cT h
   refine WC.ct rfl ?_
   refine WC.seq ?_
   refine WC.rs [(0, 2), (1, 2), (2, 1), (3, 1), (4, 2)] rfl ?_
   refine WO.pn 1 rfl ?_
   refine WO.k2 rfl rfl rfl rfl (rn_fieldAddr Try.runUnderlying99 rfl Try.sizeOf28 rfl rfl) ?_
   refine WO.k1 trivial rfl rfl rfl rfl (rn_ld Try.isAgg28 rfl rfl (hvE (f60.ld 1 rfl rfl))) ?_
   obtain ⟨x31, hx31, h⟩ := Option.bind_eq_some_iff.mp h
   have f62 := f15.stp (S21.tr (S39.tr (S42.tr (S51.tr S58)))) rfl rfl
   refine WO.call rfl rfl rfl rfl rfl rfl Try.call140 (s_l24Each_ok (κ := fun b => mp [] 0 (K57 b)) (Sl.map f59.rdc (mp [] 0) rfl rfl) (Sl.map f62 (mp [] 0) rfl rfl) hx31) ?_
   rintro _ w63 ⟨k64, rfl, e65⟩
   obtain ⟨K66, S67, m68⟩ := Ent.mixed (l := []) (κ := K57) e65 10 rfl
   refine ⟨trivial, ?_⟩
   refine WO.pn 1 rfl ?_
   refine WO.fin ?_
   refine DN.seq ?_
   refine WC.ret ?_
   refine DN.retBlock ?_
   refine DN.retThen ?_
   have f70 := hE.stp (S3.tr (S7.tr (S11.tr (S21.tr (S39.tr (S42.tr (S51.tr (S58.tr S67)))))))) rfl rfl
   refine DN.res (l := [.tmp 6]) Try.results122 (res_tmp rfl rfl) rfl ?_
   obtain rfl := Option.some.inj h
   exact ⟨K66, rfl, f70⟩
  | false =>
   intro h; replace h := cF h
   refine WC.cf rfl ?_
   refine WC.seq ?_
   refine WC.rs [(0, 2), (1, 2)] rfl ?_
   refine WO.pn 2 rfl ?_
   refine WO.fin ?_
   refine DN.seq ?_
   revert h
   cases ht71 : (p1.Kind == 2) with
   | true =>
    intro h; replace h := cT h
    refine WC.ct rfl ?_
    refine WC.seq ?_
    refine WC.rs [(0, 1), (1, 2), (2, 2), (3, 1), (4, 2), (5, 1), (6, 2)] rfl ?_
    refine WO.k1 trivial rfl rfl rfl rfl (rn_la (cs := [.int .i64 p1.Kind, .slice a1_1 p1.A.length u1_1, .slice a1_2 p1.B.length u1_2]) Try.isAgg99 Try.sizeOf99 rfl rfl rfl (haE f60.cells)) ?_
    refine WO.pn 1 rfl ?_
    refine WO.k2 rfl rfl rfl rfl (rn_fieldAddr Try.runUnderlying41 rfl Try.sizeOf28 rfl rfl) ?_
    have f72 := f44.stp (S51.tr S58) rfl rfl
    refine WO.k1 trivial rfl rfl rfl rfl (rn_ld Try.isAgg28 rfl rfl (hvE (f72.ld 0 rfl rfl))) ?_
    refine WO.k2 rfl rfl rfl rfl (rn_len Try.runUnderlying28 rfl rfl) ?_
    obtain ⟨x39, hx39, h⟩ := Option.bind_eq_some_iff.mp h
    have f73 := f15.stp (S21.tr (S39.tr (S42.tr (S51.tr S58)))) rfl rfl
    have f74 := f16.stp (S21.tr (S39.tr (S42.tr (S51.tr S58)))) rfl rfl
    refine WO.call rfl rfl rfl rfl rfl rfl Try.call141 (s_l24Next_ok (κ := fun b => mp [] 0 (K57 b)) (p0 := p1) (Sl.map f73 (mp [] 0) rfl rfl) (Sl.map f74 (mp [] 0) rfl rfl) (Sl.map f59.rdc (mp [] 0) rfl rfl) hx39) ?_
    rintro _ w75 ⟨k76, rfl, e77⟩
    obtain ⟨K78, S79, m80⟩ := Ent.mixed (l := []) (κ := K57) e77 10 rfl
    refine ⟨trivial, ?_⟩
    refine WO.pn 1 rfl ?_
    refine WO.fin ?_
    refine DN.seq ?_
    refine WC.ret ?_
    refine DN.retBlock ?_
    refine DN.retThen ?_
    have f82 := hE.stp (S3.tr (S7.tr (S11.tr (S21.tr (S39.tr (S42.tr (S51.tr (S58.tr S79)))))))) rfl rfl
    refine DN.res (l := [.tmp 6]) Try.results122 (res_tmp rfl rfl) rfl ?_
    obtain rfl := Option.some.inj h
    exact ⟨K78, rfl, f82⟩
   | false =>
    intro h; replace h := cF h
    refine WC.cf rfl ?_
    refine WC.seq ?_
    refine WC.rs [(0, 2), (1, 2)] rfl ?_
    refine WO.pn 2 rfl ?_
    refine WO.fin ?_
    refine DN.seq ?_
    revert h
    cases ht83 : (p1.Kind == 3) with
    | true =>
     intro h; replace h := cT h
     refine WC.ct rfl ?_
     refine WC.seq ?_
     refine WC.rs [(0, 1), (1, 1), (2, 2), (3, 1), (4, 2)] rfl ?_
     refine WO.k1 trivial rfl rfl rfl rfl (rn_la (cs := [.int .i64 p1.Kind, .slice a1_1 p1.A.length u1_1, .slice a1_2 p1.B.length u1_2]) Try.isAgg99 Try.sizeOf99 rfl rfl rfl (haE f60.cells)) ?_
     have f84 := f44.stp (S51.tr S58) rfl rfl
     refine WO.k1 trivial rfl rfl rfl rfl (rn_la (cs := [.slice a2_0 p2.Stem.length u2_0, .slice a2_1 p2.Loop.length u2_1]) Try.isAgg41 Try.sizeOf41 rfl rfl rfl (haE f84.cells)) ?_
     refine WO.pn 1 rfl ?_
     obtain ⟨x45, hx45, h⟩ := Option.bind_eq_some_iff.mp h
     have f85 := f15.stp (S21.tr (S39.tr (S42.tr (S51.tr S58)))) rfl rfl
     have f86 := f16.stp (S21.tr (S39.tr (S42.tr (S51.tr S58)))) rfl rfl
     have f87 := f45.stp (S51.tr S58) rfl rfl
     have f88 := f55.stp S58 rfl rfl
     refine WO.call rfl rfl rfl rfl rfl rfl Try.call142 (s_l24Answer_ok (κ := fun b => mp [] 0 (K57 b)) (p0 := p1) (p1 := p2) (Sl.map f85 (mp [] 0) rfl rfl) (Sl.map f86 (mp [] 0) rfl rfl) (Sl.map f87 (mp [] 0) rfl rfl) (Sl.map f88 (mp [] 0) rfl rfl) (Sl.map f59.rdc (mp [] 0) rfl rfl) hx45) ?_
     rintro _ w89 ⟨k90, rfl, e91⟩
     obtain ⟨K92, S93, m94⟩ := Ent.mixed (l := []) (κ := K57) e91 10 rfl
     refine ⟨trivial, ?_⟩
     refine WO.pn 1 rfl ?_
     refine WO.fin ?_
     refine DN.seq ?_
     refine WC.ret ?_
     refine DN.retBlock ?_
     refine DN.retThen ?_
     have f96 := hE.stp (S3.tr (S7.tr (S11.tr (S21.tr (S39.tr (S42.tr (S51.tr (S58.tr S93)))))))) rfl rfl
     refine DN.res (l := [.tmp 6]) Try.results122 (res_tmp rfl rfl) rfl ?_
     obtain rfl := Option.some.inj h
     exact ⟨K92, rfl, f96⟩
    | false =>
     intro h; replace h := cF h
     refine WC.cf rfl ?_
     refine WC.seq ?_
     refine WC.rs [(0, 2), (1, 2)] rfl ?_
     refine WO.pn 2 rfl ?_
     refine WO.fin ?_
     refine DN.seq ?_
     revert h
     cases ht97 : (p1.Kind == 4) with
     | true =>
      intro h; replace h := cT h
      refine WC.ct rfl ?_
      refine WC.seq ?_
      refine WC.rs [(0, 2), (1, 1), (2, 2), (3, 1), (4, 1), (5, 2)] rfl ?_
      refine WO.k2 rfl rfl rfl rfl (rn_fieldAddr Try.runUnderlying41 rfl Try.sizeOf28 rfl rfl) ?_
      have f98 := f44.stp (S51.tr S58) rfl rfl
      refine WO.k1 trivial rfl rfl rfl rfl (rn_ld Try.isAgg28 rfl rfl (hvE (f98.ld 1 rfl rfl))) ?_
      refine WO.k2 rfl rfl rfl rfl (rn_fieldAddr Try.runUnderlying99 rfl Try.sizeOf28 rfl rfl) ?_
      refine WO.k1 trivial rfl rfl rfl rfl (rn_ld Try.isAgg28 rfl rfl (hvE (f60.ld 1 rfl rfl))) ?_
      obtain ⟨x52, hx52, h⟩ := Option.bind_eq_some_iff.mp h
      have f99 := f55.stp S58 rfl rfl
      have f100 := f15.stp (S21.tr (S39.tr (S42.tr (S51.tr S58)))) rfl rfl
      refine WO.call rfl rfl rfl rfl rfl rfl Try.call143 (s_l24Some_ok (κ := fun b => mp [] 0 (K57 b)) (Sl.map f99 (mp [] 0) rfl rfl) (Sl.map f100 (mp [] 0) rfl rfl) hx52) ?_
      rintro _ w101 ⟨k102, rfl, e103⟩
      obtain ⟨K104, S105, m106⟩ := Ent.mixed (l := []) (κ := K57) e103 10 rfl
      refine ⟨trivial, ?_⟩
      refine WO.pn 1 rfl ?_
      refine WO.fin ?_
      refine DN.seq ?_
      refine WC.ret ?_
      refine DN.retBlock ?_
      refine DN.retThen ?_
      have f108 := hE.stp (S3.tr (S7.tr (S11.tr (S21.tr (S39.tr (S42.tr (S51.tr (S58.tr S105)))))))) rfl rfl
      refine DN.res (l := [.tmp 6]) Try.results122 (res_tmp rfl rfl) rfl ?_
      obtain rfl := Option.some.inj h
      exact ⟨K104, rfl, f108⟩
     | false =>
      intro h; replace h := cF h
      refine WC.cf rfl ?_
      refine WC.seq ?_
      refine WC.rs [(0, 2), (1, 2)] rfl ?_
      refine WO.pn 2 rfl ?_
      refine WO.fin ?_
      refine DN.seq ?_
      revert h
      cases ht109 : (p1.Kind == 5) with
      | true =>
       intro h; replace h := cT h
       refine WC.ct rfl ?_
       refine WC.seq ?_
       refine WC.rs [(0, 2), (1, 1), (2, 2), (3, 1), (4, 1), (5, 2)] rfl ?_
       refine WO.k2 rfl rfl rfl rfl (rn_fieldAddr Try.runUnderlying41 rfl Try.sizeOf28 rfl rfl) ?_
       have f110 := f44.stp (S51.tr S58) rfl rfl
       refine WO.k1 trivial rfl rfl rfl rfl (rn_ld Try.isAgg28 rfl rfl (hvE (f110.ld 1 rfl rfl))) ?_
       refine WO.k2 rfl rfl rfl rfl (rn_fieldAddr Try.runUnderlying99 rfl Try.sizeOf28 rfl rfl) ?_
       refine WO.k1 trivial rfl rfl rfl rfl (rn_ld Try.isAgg28 rfl rfl (hvE (f60.ld 1 rfl rfl))) ?_
       obtain ⟨x59, hx59, h⟩ := Option.bind_eq_some_iff.mp h
       have f111 := f55.stp S58 rfl rfl
       have f112 := f15.stp (S21.tr (S39.tr (S42.tr (S51.tr S58)))) rfl rfl
       refine WO.call rfl rfl rfl rfl rfl rfl Try.call140 (s_l24Each_ok (κ := fun b => mp [] 0 (K57 b)) (Sl.map f111 (mp [] 0) rfl rfl) (Sl.map f112 (mp [] 0) rfl rfl) hx59) ?_
       rintro _ w113 ⟨k114, rfl, e115⟩
       obtain ⟨K116, S117, m118⟩ := Ent.mixed (l := []) (κ := K57) e115 10 rfl
       refine ⟨trivial, ?_⟩
       refine WO.pn 1 rfl ?_
       refine WO.fin ?_
       refine DN.seq ?_
       refine WC.ret ?_
       refine DN.retBlock ?_
       refine DN.retThen ?_
       have f120 := hE.stp (S3.tr (S7.tr (S11.tr (S21.tr (S39.tr (S42.tr (S51.tr (S58.tr S117)))))))) rfl rfl
       refine DN.res (l := [.tmp 6]) Try.results122 (res_tmp rfl rfl) rfl ?_
       obtain rfl := Option.some.inj h
       exact ⟨K116, rfl, f120⟩
      | false =>
       intro h; replace h := cF h
       refine WC.cf rfl ?_
       refine WC.seq ?_
       refine WC.rs [(0, 2), (1, 2)] rfl ?_
       refine WO.pn 2 rfl ?_
       refine WO.fin ?_
       refine DN.seq ?_
       revert h
       cases ht121 : (p1.Kind == 6) with
       | true =>
        intro h; replace h := cT h
        refine WC.ct rfl ?_
        refine WC.seq ?_
        refine WC.rs [(0, 2), (1, 2), (2, 1), (3, 1), (4, 2)] rfl ?_
        refine WO.pn 1 rfl ?_
        refine WO.k2 rfl rfl rfl rfl (rn_fieldAddr Try.runUnderlying99 rfl Try.sizeOf28 rfl rfl) ?_
        refine WO.k1 trivial rfl rfl rfl rfl (rn_ld Try.isAgg28 rfl rfl (hvE (f60.ld 1 rfl rfl))) ?_
        obtain ⟨x65, hx65, h⟩ := Option.bind_eq_some_iff.mp h
        have f122 := f15.stp (S21.tr (S39.tr (S42.tr (S51.tr S58)))) rfl rfl
        refine WO.call rfl rfl rfl rfl rfl rfl Try.call143 (s_l24Some_ok (κ := fun b => mp [] 0 (K57 b)) (Sl.map f59.rdc (mp [] 0) rfl rfl) (Sl.map f122 (mp [] 0) rfl rfl) hx65) ?_
        rintro _ w123 ⟨k124, rfl, e125⟩
        obtain ⟨K126, S127, m128⟩ := Ent.mixed (l := []) (κ := K57) e125 10 rfl
        refine ⟨trivial, ?_⟩
        refine WO.pn 1 rfl ?_
        refine WO.fin ?_
        refine DN.seq ?_
        refine WC.ret ?_
        refine DN.retBlock ?_
        refine DN.retThen ?_
        have f130 := hE.stp (S3.tr (S7.tr (S11.tr (S21.tr (S39.tr (S42.tr (S51.tr (S58.tr S127)))))))) rfl rfl
        refine DN.res (l := [.tmp 6]) Try.results122 (res_tmp rfl rfl) rfl ?_
        obtain rfl := Option.some.inj h
        exact ⟨K126, rfl, f130⟩
       | false =>
        intro h; replace h := cF h
        refine WC.cf rfl ?_
        refine WC.skip ?_
        refine DN.block ?_
        refine DN.seq ?_
        refine WC.seq ?_
        refine WC.rs [(0, 2), (1, 1), (2, 2), (3, 1), (4, 1), (5, 2), (6, 2), (7, 2), (8, 1), (9, 2), (10, 1), (11, 1), (12, 2), (13, 2)] rfl ?_
        refine WO.k2 rfl rfl rfl rfl (rn_fieldAddr Try.runUnderlying41 rfl Try.sizeOf28 rfl rfl) ?_
        have f131 := f44.stp (S51.tr S58) rfl rfl
        refine WO.k1 trivial rfl rfl rfl rfl (rn_ld Try.isAgg28 rfl rfl (hvE (f131.ld 1 rfl rfl))) ?_
        refine WO.k2 rfl rfl rfl rfl (rn_fieldAddr Try.runUnderlying99 rfl Try.sizeOf28 rfl rfl) ?_
        refine WO.k1 trivial rfl rfl rfl rfl (rn_ld Try.isAgg28 rfl rfl (hvE (f60.ld 1 rfl rfl))) ?_
        obtain ⟨x70, hx70, h⟩ := Option.bind_eq_some_iff.mp h
        have f132 := f55.stp S58 rfl rfl
        have f133 := f15.stp (S21.tr (S39.tr (S42.tr (S51.tr S58)))) rfl rfl
        refine WO.call rfl rfl rfl rfl rfl rfl Try.call143 (s_l24Some_ok (κ := fun b => mp [] 0 (K57 b)) (Sl.map f132 (mp [] 0) rfl rfl) (Sl.map f133 (mp [] 0) rfl rfl) hx70) ?_
        rintro _ w134 ⟨k135, rfl, e136⟩
        obtain ⟨K137, S138, m139⟩ := Ent.mixed (l := []) (κ := K57) e136 10 rfl
        refine ⟨trivial, ?_⟩
        refine WO.pn 2 rfl ?_
        obtain ⟨p78, h, hK141⟩ := Option.bind_eq_some_iff.mp h
        refine WO.meet [(7, 2), (8, 1), (9, 2), (10, 1), (11, 1), (12, 2)] [(13, 2)] (fun L w' => L = [(78, .bool p78)] ∧ ∃ κ', Stp [] K137 w134 κ' w') trivial ?_ ?_
        ·
         revert h
         cases ht142 : (!x70) with
         | true =>
          intro h; replace h := cT h
          refine WO.pn 1 rfl ?_
          refine WO.ls rfl rfl rfl rfl ?_
          refine WO.pn 1 rfl ?_
          refine WO.ls rfl rfl rfl rfl ?_
          refine WO.ls rfl rfl rfl rfl ?_
          refine WO.pn 1 rfl ?_
          obtain rfl := Option.some.inj h
          exact WO.met _ trivial ⟨rfl, _, (Stp.refl _ _).wk rfl⟩ fun a ha => (ha.more ha.nil rfl)
         | false =>
          intro h; replace h := cF h
          refine WO.k2 rfl rfl rfl rfl (rn_fieldAddr Try.runUnderlying41 rfl Try.sizeOf28 rfl rfl) ?_
          have f143 := f131.stp S138 rfl rfl
          refine WO.k1 trivial rfl rfl rfl rfl (rn_ld Try.isAgg28 rfl rfl (hvE (f143.ld 1 rfl rfl))) ?_
          refine WO.k2 rfl rfl rfl rfl (rn_fieldAddr Try.runUnderlying99 rfl Try.sizeOf28 rfl rfl) ?_
          have f144 := f60.stp S138 rfl rfl
          refine WO.k1 trivial rfl rfl rfl rfl (rn_ld Try.isAgg28 rfl rfl (hvE (f144.ld 2 rfl rfl))) ?_
          obtain ⟨x77, hx77, h⟩ := Option.bind_eq_some_iff.mp h
          have f145 := f132.stp S138 rfl rfl
          have f146 := f16.stp (S21.tr (S39.tr (S42.tr (S51.tr (S58.tr S138))))) rfl rfl
          refine WO.call rfl rfl rfl rfl rfl rfl Try.call143 (s_l24Some_ok (κ := fun b => mp [] 0 (K137 b)) (Sl.map f145 (mp [] 0) rfl rfl) (Sl.map f146 (mp [] 0) rfl rfl) hx77) ?_
          rintro _ w147 ⟨k148, rfl, e149⟩
          obtain ⟨K150, S151, m152⟩ := Ent.mixed (l := []) (κ := K137) e149 12 rfl
          refine ⟨trivial, ?_⟩
          refine WO.pn 1 rfl ?_
          obtain rfl := Option.some.inj h
          exact WO.met _ trivial ⟨rfl, _, S151.wk rfl⟩ fun a ha => (ha.more ha.nil rfl)
        rintro _ w154 _ ⟨rfl, K155, S156⟩
        have h := hK141
        refine WO.pn 1 rfl ?_
        refine WO.fin ?_
        refine DN.seq ?_
        refine WC.ret ?_
        have f157 := hE.stp (S3.tr (S7.tr (S11.tr (S21.tr (S39.tr (S42.tr (S51.tr (S58.tr (S138.tr S156))))))))) rfl rfl
        refine DN.res (l := [.tmp 6]) Try.results122 (res_tmp rfl rfl) rfl ?_
        obtain rfl := Option.some.inj h
        exact ⟨K155, rfl, f157⟩

/- loop.example/g00869/spec.FirstBroken -/
theorem s_FirstBroken_ok {w : World} {κ : Col} {p0 : Sig} {a1 : Option Addr} {u1 : Nat} {p1 : (List Clause)} {a2_0 : Option Addr} {u2_0 : Nat} {a2_1 : Option Addr} {u2_1 : Nat} {p2 : Word} (g1 : Rd Clause.rp κ w 0 a1 u1 p1) (g2_0 : Rd (Rp.int .i64) κ w 0 a2_0 u2_0 p2.Stem) (g2_1 : Rd (Rp.int .i64) κ w 0 a2_1 u2_1 p2.Loop) {r : Int} (h : s_FirstBroken p0 p1 p2 = some r) : Ret Try.prog 85 [.agg #[.int .i64 p0.In, .int .i64 p0.Out], .slice a1 p1.length u1, .agg #[.slice a2_0 p2.Stem.length u2_0, .slice a2_1 p2.Loop.length u2_1]] w (fun v w' => ∃ (κ' : Col), v = .int .i64 r ∧ Ent κ w κ' w') := by
 unfold s_FirstBroken at h
 refine Ret.enter Try.func85 rfl Try.ntmps85 rfl ?_
 dsimp only [envOf]
 have hE := Ent.refl κ w
 refine WC.seq ?_
 refine WC.rs [(0, 1), (1, 1), (2, 2)] rfl ?_
 refine WO.box (κ := κ) 2 rfl rfl rfl rfl rfl rfl rfl fun b3 w1 K2 S3 f4 => ⟨trivial, ?_⟩
 refine WO.box (κ := K2) 3 rfl rfl rfl rfl rfl rfl rfl fun b5 w5 K6 S7 f8 => ⟨trivial, ?_⟩
 refine WO.pn 1 rfl ?_
 refine WO.fin ?_
 refine DN.seq ?_
 refine WC.seq ?_
 refine WC.seq ?_
 refine WC.rs [(0, 1), (1, 2), (2, 1), (3, 2), (4, 2), (5, 1), (6, 1), (7, 1), (8, 2), (9, 2)] rfl ?_
 have f9 := f4.stp S7 rfl rfl
 refine WO.k1 trivial rfl rfl rfl rfl (rn_la (cs := [.int .i64 p0.In, .int .i64 p0.Out]) Try.isAgg35 Try.sizeOf35 rfl rfl rfl (haE f9.cells)) ?_
 refine WO.pn 1 rfl ?_
 obtain ⟨x10, hx10, h⟩ := Option.bind_eq_some_iff.mp h
 have f10 := g1.stp (S3.tr S7) rfl rfl
 refine WO.call rfl rfl rfl rfl rfl rfl Try.call120 (s_ClausesOk_ok (κ := fun b => mp [] 0 (K6 b)) (p0 := p0) (Sl.map f10 (mp [] 0) rfl rfl) hx10) ?_
 rintro _ w11 ⟨k12, rfl, e13⟩
 obtain ⟨K14, S15, m16⟩ := Ent.mixed (l := []) (κ := K6) e13 4 rfl
 refine ⟨trivial, ?_⟩
 refine WO.pn 2 rfl ?_
 obtain ⟨p17, h, hK18⟩ := Option.bind_eq_some_iff.mp h
 refine WO.meet [(5, 1), (6, 1), (7, 1), (8, 2), (9, 2)] [] (fun L w' => L = [(1, .slice a1 p1.length u1), (3, .pointer (some ⟨b3, 0, none⟩)), (5, .pointer (some ⟨b5, 0, none⟩)), (17, .bool p17)] ∧ ∃ κ', Stp [] K14 w11 κ' w') trivial ?_ ?_
 ·
  revert h
  cases ht19 : (!x10) with
  | true =>
   intro h; replace h := cT h
   refine WO.ls rfl rfl rfl rfl ?_
   refine WO.ls rfl rfl rfl rfl ?_
   refine WO.ls rfl rfl rfl rfl ?_
   refine WO.pn 2 rfl ?_
   obtain rfl := Option.some.inj h
   exact WO.met _ trivial ⟨rfl, _, (Stp.refl _ _).wk rfl⟩ fun a ha => (ha.more (ha.more (ha.more (ha.more ha.nil rfl) rfl) rfl) rfl)
  | false =>
   intro h; replace h := cF h
   have f20 := f9.stp S15 rfl rfl
   refine WO.k1 trivial rfl rfl rfl rfl (rn_la (cs := [.int .i64 p0.In, .int .i64 p0.Out]) Try.isAgg35 Try.sizeOf35 rfl rfl rfl (haE f20.cells)) ?_
   have f21 := f8.stp S15 rfl rfl
   refine WO.k1 trivial rfl rfl rfl rfl (rn_la (cs := [.slice a2_0 p2.Stem.length u2_0, .slice a2_1 p2.Loop.length u2_1]) Try.isAgg41 Try.sizeOf41 rfl rfl rfl (haE f21.cells)) ?_
   obtain ⟨x15, hx15, h⟩ := Option.bind_eq_some_iff.mp h
   have f22 := g2_0.stp (S3.tr (S7.tr S15)) rfl rfl
   have f23 := g2_1.stp (S3.tr (S7.tr S15)) rfl rfl
   refine WO.call rfl rfl rfl rfl rfl rfl Try.call121 (s_WordOk_ok (κ := fun b => mp [] 0 (K14 b)) (p0 := p0) (p1 := p2) (Sl.map f22 (mp [] 0) rfl rfl) (Sl.map f23 (mp [] 0) rfl rfl) hx15) ?_
   rintro _ w24 ⟨k25, rfl, e26⟩
   obtain ⟨K27, S28, m29⟩ := Ent.mixed (l := []) (κ := K14) e26 6 rfl
   refine ⟨trivial, ?_⟩
   refine WO.pn 2 rfl ?_
   obtain rfl := Option.some.inj h
   exact WO.met _ trivial ⟨rfl, _, S28.wk rfl⟩ fun a ha => (ha.more (ha.more (ha.more (ha.more ha.nil rfl) rfl) rfl) rfl)
 rintro _ w31 _ ⟨rfl, K32, S33⟩
 have h := hK18
 refine WO.fin ?_
 refine DN.seq ?_
 revert h
 cases ht34 : p17 with
 | true =>
  intro h; replace h := cT h
  refine WC.ct rfl ?_
  refine WC.seq ?_
  refine WC.rs [(0, 2)] rfl ?_
  refine WO.pn 1 rfl ?_
  refine WO.fin ?_
  refine DN.seq ?_
  refine WC.ret ?_
  refine DN.retThen ?_
  have f35 := hE.stp (S3.tr (S7.tr (S15.tr S33))) rfl rfl
  refine DN.res (l := [.tmp 6]) Try.results85 (res_tmp rfl rfl) rfl ?_
  obtain rfl := Option.some.inj h
  exact ⟨K32, rfl, f35⟩
 | false =>
  intro h; replace h := cF h
  refine WC.cf rfl ?_
  refine WC.skip ?_
  refine DN.seq ?_
  refine WC.seq ?_
  refine WC.seq ?_
  refine WC.rs [(0, 2)] rfl ?_
  refine WO.pn 1 rfl ?_
  refine WO.fin ?_
  refine DN.seq ?_
  have hN36 : (p1.length : Int) ≤ 9223372036854775807 := f10.len_le
  obtain ⟨q2, hq38, hK37⟩ := Option.bind_eq_some_iff.mp h
  clear h
  refine WC.meet (fun L w' => ∃ (κ' : Col), L = [] ∧ Stp [] K32 w31 κ' w' ∧ q2 = Sum.inr ()) ?_ ?_
  ·
   refine WC.block ?_
   refine WC.loop (fun k L w' => ∃ (κ' : Col) (v7 : Int), L = [(1, .slice a1 p1.length u1), (3, .pointer (some ⟨b3, 0, none⟩)), (5, .pointer (some ⟨b5, 0, none⟩)), (7, .int .i64 v7)] ∧ Stp [] K32 w31 κ' w' ∧ 0 ≤ v7 ∧ Int.toNat ((p1.length : Int) - v7) = k ∧ cntM (s_FirstBroken_b0 p0 p1 p2) k v7 () = some q2) ⟨_, _, ⟨K32, 0, rfl, (Stp.refl _ _).wk rfl, (by decide), (by simp), hq38⟩, fun a ha => (ha.more (ha.more (ha.more (ha.more ha.nil rfl) rfl) rfl) rfl)⟩ ?_
   rintro k _ w42 ⟨K43, v7, rfl, S44, hj36, hJ36, h⟩
   rcases k with _ | k
   ·
    have hk45 := h; obtain ⟨o36, h⟩ := ex_eq (Sum.inr (Sum.inl ()) : Int ⊕ ((Unit) ⊕ (Unit)))
    have hc36 : decide (v7 < (p1.length : Int)) = false := decide_eq_false (by omega)
    refine WC.seq ?_
    refine WC.seq ?_
    refine WC.rs [(0, 2), (1, 2), (2, 2), (3, 2)] rfl ?_
    refine WO.pn 2 rfl ?_
    refine WO.k2 rfl rfl rfl rfl (rn_len Try.runUnderlying39 rfl rfl) ?_
    refine WO.pn 1 rfl ?_
    refine WO.fin ?_
    refine DN.seq ?_
    refine WC.cf' rfl hc36 ?_
    refine WC.exit ?_
    refine DN.exitThen ?_
    refine DN.exitThen ?_
    obtain rfl := Option.some.inj h
    have h := hk45
    refine DN.hit ?_
    obtain rfl := Option.some.inj h
    exact DN.meet _ ⟨K43, rfl, S44.wk rfl, rfl⟩ fun a ha => ha.nil
   ·
    obtain ⟨o36, h, hk45⟩ := Option.bind_eq_some_iff.mp h; unfold s_FirstBroken_b0 at h
    have hc36 : decide (v7 < (p1.length : Int)) = true := decide_eq_true (by omega)
    refine WC.seq ?_
    refine WC.seq ?_
    refine WC.rs [(0, 2), (1, 2), (2, 2), (3, 2)] rfl ?_
    refine WO.pn 2 rfl ?_
    refine WO.k2 rfl rfl rfl rfl (rn_len Try.runUnderlying39 rfl rfl) ?_
    refine WO.pn 1 rfl ?_
    refine WO.fin ?_
    refine DN.seq ?_
    refine WC.ct' rfl hc36 ?_
    refine WC.skip ?_
    refine DN.seq ?_
    refine WC.seq ?_
    refine WC.block ?_
    refine WC.seq ?_
    refine WC.rx (κ := K43) [0, 2, 3] none [(1, 2), (2, 2), (3, 2), (0, 0), (4, 0), (5, 0), (6, 1), (7, 2)] [] (by kernel_rfl) (by kernel_rfl) fun w47 S46 => ?_
    refine WO.pn 2 rfl ?_
    obtain ⟨x27, hx27, h⟩ := Option.bind_eq_some_iff.mp h
    refine WO.k2 rfl rfl rfl rfl (rn_index f10 hx27 Try.runUnderlying39 Try.sizeOf99 rfl rfl rfl rfl) ?_
    have f48 := f9.stp (S15.tr (S33.tr (S44.tr S46))) rfl rfl
    refine WO.k0 rfl rfl rfl rfl (rn_la (cs := [.int .i64 p0.In, .int .i64 p0.Out]) Try.isAgg35 Try.sizeOf35 rfl rfl rfl (haC f48.cells rfl)) ?_
    have f49 := f10.stp (S15.tr (S33.tr (S44.tr S46))) rfl rfl
    obtain ⟨cse50, hre50, hle50⟩ := (f49).gSt hx27
    obtain ⟨ae50_0, ue50_0, ae50_1, ue50_1, rfl, fe50_0, fe50_1⟩ := Clause.un hre50
    refine WO.k0 rfl rfl rfl rfl (rn_la (cs := [.int .i64 x27.Kind, .slice ae50_0 x27.A.length ue50_0, .slice ae50_1 x27.B.length ue50_1]) Try.isAgg99 Try.sizeOf99 rfl rfl rfl (haC hle50 rfl)) ?_
    have f51 := f8.stp (S15.tr (S33.tr (S44.tr S46))) rfl rfl
    refine WO.k0 rfl rfl rfl rfl (rn_la (cs := [.slice a2_0 p2.Stem.length u2_0, .slice a2_1 p2.Loop.length u2_1]) Try.isAgg41 Try.sizeOf41 rfl rfl rfl (haC f51.cells rfl)) ?_
    obtain ⟨x30, hx30, h⟩ := Option.bind_eq_some_iff.mp h
    have f52 := g2_0.stp (S3.tr (S7.tr (S15.tr (S33.tr (S44.tr S46))))) rfl rfl
    have f53 := g2_1.stp (S3.tr (S7.tr (S15.tr (S33.tr (S44.tr S46))))) rfl rfl
    refine WO.call rfl rfl rfl rfl rfl rfl Try.call122 (s_HoldsOn_ok (κ := fun b => mp [] 0 (K43 b)) (p0 := p0) (p1 := x27) (p2 := p2) (Sl.map fe50_0 (mp [] 0) rfl rfl) (Sl.map fe50_1 (mp [] 0) rfl rfl) (Sl.map f52 (mp [] 0) rfl rfl) (Sl.map f53 (mp [] 0) rfl rfl) hx30) ?_
    rintro _ w54 ⟨k55, rfl, e56⟩
    obtain ⟨K57, S58, m59⟩ := Ent.mixed (l := []) (κ := K43) e56 6 rfl
    refine ⟨(S58.cl rfl), ?_⟩
    refine WO.pn 1 rfl ?_
    refine WO.nx ?_
    refine WO.fin ?_
    refine DN.seq ?_
    revert h
    cases ht61 : (!x30) with
    | true =>
     intro h; replace h := cT h
     refine WC.ct rfl ?_
     refine WC.seq ?_
     refine WC.rs [(0, 2), (1, 2)] rfl ?_
     refine WO.pn 2 rfl ?_
     refine WO.fin ?_
     refine DN.seq ?_
     refine WC.ret ?_
     refine DN.retBlock ?_
     refine DN.retThen ?_
     refine DN.retThen ?_
     obtain rfl := Option.some.inj h
     obtain rfl := Option.some.inj hk45
     have h := hK37
     dsimp only [aft] at h
     refine DN.retBlock ?_
     refine DN.retMeet ?_
     refine DN.retThen ?_
     have f62 := hE.stp (S3.tr (S7.tr (S15.tr (S33.tr (S44.tr (S46.tr S58)))))) rfl rfl
     refine DN.res (l := [.tmp 6]) Try.results85 (res_tmp rfl rfl) rfl ?_
     obtain rfl := Option.some.inj h
     exact ⟨K57, rfl, f62⟩
    | false =>
     intro h; replace h := cF h
     refine WC.cf rfl ?_
     refine WC.skip ?_
     refine DN.block ?_
     refine DN.seq ?_
     refine WC.rs [(0, 2), (1, 2), (2, 2)] rfl ?_
     refine WO.pn 3 rfl ?_
     refine WO.fin ?_
     have hw36 : IntKind.wrap .i64 (v7 + 1) = v7 + 1 := wr1 hj36 (of_decide_eq_true hc36) hN36
     rw [hw36]
     have hc36 := of_decide_eq_true hc36
     obtain rfl := Option.some.inj h
     refine DN.round fun a ha => ?_
     exact ⟨k, _, Nat.lt_succ_self _, ⟨K57, v7 + 1, rfl, (S44.tr (S46.tr S58)).wk rfl, by omega, by omega, hk45⟩, (ha.more (ha.more (ha.more (ha.more ha.nil rfl) rfl) rfl) rfl)⟩
  rintro _ w39 ⟨K40, rfl, S41, rfl⟩
  have h := hK37
  dsimp only [aft] at h
  refine DN.seq ?_
  refine WC.seq ?_
  refine WC.rs [(0, 2)] rfl ?_
  refine WO.pn 1 rfl ?_
  refine WO.fin ?_
  refine DN.seq ?_
  refine WC.ret ?_
  have f63 := hE.stp (S3.tr (S7.tr (S15.tr (S33.tr S41)))) rfl rfl
  refine DN.res (l := [.tmp 6]) Try.results85 (res_tmp rfl rfl) rfl ?_
  obtain rfl := Option.some.inj h
  exact ⟨K40, rfl, f63⟩

/- loop.example/g00869/impl.isMachine -/
theorem i_isMachine_ok {w : World} {κ : Col} {p0 : Sig} {a1_0 : Option Addr} {u1_0 : Nat} {a1_1 : Option Addr} {u1_1 : Nat} {p1 : Machine} (g1_0 : Rd (Rp.sl (Rp.int .i64)) κ w 0 a1_0 u1_0 p1.Next) (g1_1 : Rd (Rp.sl (Rp.int .i64)) κ w 0 a1_1 u1_1 p1.Out) {r : Bool} (h : i_isMachine p0 p1 = some r) : Ret Try.prog 65 [.agg #[.int .i64 p0.In, .int .i64 p0.Out], .agg #[.slice a1_0 p1.Next.length u1_0, .slice a1_1 p1.Out.length u1_1]] w (fun v w' => ∃ (κ' : Col), v = .bool r ∧ Ent κ w κ' w') := by
 unfold i_isMachine at h
 refine Ret.enter Try.func65 rfl Try.ntmps65 rfl ?_
 dsimp only [envOf]
 have hE := Ent.refl κ w
 refine WC.seq ?_
 refine WC.rs [(0, 1), (1, 1), (2, 2)] rfl ?_
 refine WO.box (κ := κ) 2 rfl rfl rfl rfl rfl rfl rfl fun b2 w1 K2 S3 f4 => ⟨trivial, ?_⟩
 refine WO.box (κ := K2) 3 rfl rfl rfl rfl rfl rfl rfl fun b3 w5 K6 S7 f8 => ⟨trivial, ?_⟩
 refine WO.pn 1 rfl ?_
 refine WO.fin ?_
 refine DN.seq ?_
 refine WC.seq ?_
 refine WC.rs [(0, 2), (1, 1), (2, 2), (3, 2)] rfl ?_
 refine WO.k2 rfl rfl rfl rfl (rn_fieldAddr Try.runUnderlying37 rfl Try.sizeOf24 rfl rfl) ?_
 refine WO.k1 trivial rfl rfl rfl rfl (rn_ld Try.isAgg24 rfl rfl (hvE (f8.ld 0 rfl rfl))) ?_
 refine WO.k2 rfl rfl rfl rfl (rn_len Try.runUnderlying24 rfl rfl) ?_
 refine WO.pn 1 rfl ?_
 refine WO.fin ?_
 refine DN.seq ?_
 refine WC.seq ?_
 refine WC.seq ?_
 refine WC.rs [(0, 2), (1, 2), (2, 2), (3, 2), (4, 2), (5, 2), (6, 2), (7, 2), (8, 1), (9, 2), (10, 2), (11, 1), (12, 2), (13, 2), (14, 2)] rfl ?_
 refine WO.pn 3 rfl ?_
 obtain ⟨p16, h, hK9⟩ := Option.bind_eq_some_iff.mp h
 refine WO.meet [(3, 2), (4, 2), (5, 2)] [(6, 2), (7, 2), (8, 1), (9, 2), (10, 2), (11, 1), (12, 2), (13, 2), (14, 2)] (fun L w' => L = [(2, .pointer (some ⟨b2, 0, none⟩)), (3, .pointer (some ⟨b3, 0, none⟩)), (5, .int .i64 (p1.Next.length : Int)), (16, .bool p16)] ∧ ∃ κ', Stp [] K6 w5 κ' w') trivial ?_ ?_
 ·
  revert h
  cases ht10 : decide ((p1.Next.length : Int) < 1) with
  | true =>
   intro h; replace h := cT h
   refine WO.pn 3 rfl ?_
   obtain rfl := Option.some.inj h
   exact WO.met _ trivial ⟨rfl, _, (Stp.refl _ _).wk rfl⟩ fun a ha => (ha.more (ha.more (ha.more (ha.more ha.nil rfl) rfl) rfl) rfl)
  | false =>
   intro h; replace h := cF h
   refine WO.pn 3 rfl ?_
   obtain rfl := Option.some.inj h
   exact WO.met _ trivial ⟨rfl, _, (Stp.refl _ _).wk rfl⟩ fun a ha => (ha.more (ha.more (ha.more (ha.more ha.nil rfl) rfl) rfl) rfl)
 rintro _ w11 _ ⟨rfl, K12, S13⟩
 have h := hK9
 refine WO.pn 1 rfl ?_
 obtain ⟨p25, h, hK14⟩ := Option.bind_eq_some_iff.mp h
 refine WO.meet [(7, 2), (8, 1), (9, 2), (10, 2), (11, 1), (12, 2), (13, 2), (14, 2)] [] (fun L w' => L = [(2, .pointer (some ⟨b2, 0, none⟩)), (3, .pointer (some ⟨b3, 0, none⟩)), (5, .int .i64 (p1.Next.length : Int)), (25, .bool p25)] ∧ ∃ κ', Stp [] K12 w11 κ' w') trivial ?_ ?_
 ·
  revert h
  cases ht15 : p16 with
  | true =>
   intro h; replace h := cT h
   refine WO.pn 1 rfl ?_
   refine WO.ls rfl rfl rfl rfl ?_
   refine WO.pn 2 rfl ?_
   refine WO.ls rfl rfl rfl rfl ?_
   refine WO.pn 3 rfl ?_
   obtain rfl := Option.some.inj h
   exact WO.met _ trivial ⟨rfl, _, (Stp.refl _ _).wk rfl⟩ fun a ha => (ha.more (ha.more (ha.more (ha.more ha.nil rfl) rfl) rfl) rfl)
  | false =>
   intro h; replace h := cF h
   refine WO.k2 rfl rfl rfl rfl (rn_fieldAddr Try.runUnderlying37 rfl Try.sizeOf24 rfl rfl) ?_
   have f16 := f8.stp S13 rfl rfl
   refine WO.k1 trivial rfl rfl rfl rfl (rn_ld Try.isAgg24 rfl rfl (hvE (f16.ld 1 rfl rfl))) ?_
   refine WO.k2 rfl rfl rfl rfl (rn_len Try.runUnderlying24 rfl rfl) ?_
   refine WO.k2 rfl rfl rfl rfl (rn_fieldAddr Try.runUnderlying37 rfl Try.sizeOf24 rfl rfl) ?_
   refine WO.k1 trivial rfl rfl rfl rfl (rn_ld Try.isAgg24 rfl rfl (hvE (f16.ld 0 rfl rfl))) ?_
   refine WO.k2 rfl rfl rfl rfl (rn_len Try.runUnderlying24 rfl rfl) ?_
   refine WO.pn 2 rfl ?_
   obtain rfl := Option.some.inj h
   exact WO.met _ trivial ⟨rfl, _, (Stp.refl _ _).wk rfl⟩ fun a ha => (ha.more (ha.more (ha.more (ha.more ha.nil rfl) rfl) rfl) rfl)
 rintro _ w17 _ ⟨rfl, K18, S19⟩
 have h := hK14
 refine WO.fin ?_
 refine DN.seq ?_
 revert h
 cases ht20 : p25 with
 | true =>
  intro h; replace h := cT h
  refine WC.ct rfl ?_
  refine WC.seq ?_
  refine WC.rs [(0, 2)] rfl ?_
  refine WO.pn 1 rfl ?_
  refine WO.fin ?_
  refine DN.seq ?_
  refine WC.ret ?_
  refine DN.retThen ?_
  have f21 := hE.stp (S3.tr (S7.tr (S13.tr S19))) rfl rfl
  refine DN.res (l := [.tmp 4]) Try.results65 (res_tmp rfl rfl) rfl ?_
  obtain rfl := Option.some.inj h
  exact ⟨K18, rfl, f21⟩
 | false =>
  intro h; replace h := cF h
  refine WC.cf rfl ?_
  refine WC.skip ?_
  refine DN.seq ?_
  refine WC.seq ?_
  refine WC.seq ?_
  refine WC.rs [(0, 2), (1, 1), (2, 2), (3, 2)] rfl ?_
  refine WO.k2 rfl rfl rfl rfl (rn_fieldAddr Try.runUnderlying37 rfl Try.sizeOf24 rfl rfl) ?_
  have f22 := f8.stp (S13.tr S19) rfl rfl
  refine WO.k1 trivial rfl rfl rfl rfl (rn_ld Try.isAgg24 rfl rfl (hvE (f22.ld 0 rfl rfl))) ?_
  refine WO.k2 rfl rfl rfl rfl (rn_len Try.runUnderlying24 rfl rfl) ?_
  refine WO.pn 1 rfl ?_
  refine WO.fin ?_
  refine DN.seq ?_
  have hN23 : (p1.Next.length : Int) ≤ 9223372036854775807 := g1_0.len_le
  obtain ⟨q2, hq25, hK24⟩ := Option.bind_eq_some_iff.mp h
  clear h
  refine WC.meet (fun L w' => ∃ (κ' : Col), L = [] ∧ Stp [] K18 w17 κ' w' ∧ q2 = Sum.inr ()) ?_ ?_
  ·
   refine WC.block ?_
   refine WC.loop (fun k L w' => ∃ (κ' : Col) (v29 : Int), L = [(2, .pointer (some ⟨b2, 0, none⟩)), (3, .pointer (some ⟨b3, 0, none⟩)), (5, .int .i64 (p1.Next.length : Int)), (27, .slice a1_0 p1.Next.length u1_0), (28, .int .i64 (p1.Next.length : Int)), (29, .int .i64 v29)] ∧ Stp [] K18 w17 κ' w' ∧ 0 ≤ v29 ∧ Int.toNat ((p1.Next.length : Int) - v29) = k ∧ cntM (i_isMachine_b0 p0 p1) k v29 () = some q2) ⟨_, _, ⟨K18, 0, rfl, (Stp.refl _ _).wk rfl, (by decide), (by simp), hq25⟩, fun a ha => (ha.more (ha.more (ha.more (ha.more (ha.more (ha.more ha.nil rfl) rfl) rfl) rfl) rfl) rfl)⟩ ?_
   rintro k _ w29 ⟨K30, v29, rfl, S31, hj23, hJ23, h⟩
   rcases k with _ | k
   ·
    have hk32 := h; obtain ⟨o23, h⟩ := ex_eq (Sum.inr (Sum.inl ()) : Bool ⊕ ((Unit) ⊕ (Unit)))
    have hc23 : decide (v29 < (p1.Next.length : Int)) = false := decide_eq_false (by omega)
    refine WC.seq ?_
    refine WC.rs [(0, 2)] rfl ?_
    refine WO.pn 1 rfl ?_
    refine WO.fin ?_
    refine DN.seq ?_
    refine WC.seq ?_
    refine WC.cf' rfl hc23 ?_
    refine WC.exit ?_
    refine DN.exitThen ?_
    refine DN.exitThen ?_
    obtain rfl := Option.some.inj h
    have h := hk32
    refine DN.hit ?_
    obtain rfl := Option.some.inj h
    exact DN.meet _ ⟨K30, rfl, S31.wk rfl, rfl⟩ fun a ha => ha.nil
   ·
    obtain ⟨o23, h, hk32⟩ := Option.bind_eq_some_iff.mp h; unfold i_isMachine_b0 at h
    have hc23 : decide (v29 < (p1.Next.length : Int)) = true := decide_eq_true (by omega)
    refine WC.seq ?_
    refine WC.rs [(0, 2)] rfl ?_
    refine WO.pn 1 rfl ?_
    refine WO.fin ?_
    refine DN.seq ?_
    refine WC.seq ?_
    refine WC.ct' rfl hc23 ?_
    refine WC.skip ?_
    refine DN.seq ?_
    refine WC.seq ?_
    refine WC.block ?_
    refine WC.seq ?_
    refine WC.rs [(0, 2), (1, 2), (2, 1), (3, 2), (4, 2)] rfl ?_
    refine WO.pn 1 rfl ?_
    obtain ⟨x32, hx32, h⟩ := Option.bind_eq_some_iff.mp h
    refine WO.k2 rfl rfl rfl rfl (rn_index g1_0 hx32 Try.runUnderlying24 Try.sizeOf28 rfl rfl rfl rfl) ?_
    have f33 := g1_0.stp (S3.tr (S7.tr (S13.tr (S19.tr S31)))) rfl rfl
    obtain ⟨ax32, ux32, f34, hl35⟩ := f33.gSl hx32
    refine WO.k1 trivial rfl rfl rfl rfl (rn_ld Try.isAgg28 rfl rfl (hvE hl35)) ?_
    refine WO.pn 2 rfl ?_
    refine WO.fin ?_
    refine DN.seq ?_
    refine WC.seq ?_
    refine WC.rx (κ := K30) [0, 2, 3] none [(0, 2), (1, 2), (2, 0), (3, 1), (4, 2), (5, 2), (6, 2), (8, 2), (12, 2), (13, 2), (7, 0), (9, 2), (10, 0), (11, 2), (14, 2), (15, 2), (16, 2), (17, 2), (18, 2), (19, 1), (20, 2), (21, 2), (22, 2), (23, 2), (25, 2), (28, 2), (24, 0), (26, 2), (27, 0), (29, 0), (30, 2), (31, 1), (32, 2), (33, 2)] [] (by kernel_rfl) (by kernel_rfl) fun w37 S36 => ?_
    refine WO.pn 1 rfl ?_
    refine WO.k2 rfl rfl rfl rfl (rn_len Try.runUnderlying28 rfl rfl) ?_
    have f38 := f4.stp (S7.tr (S13.tr (S19.tr (S31.tr S36)))) rfl rfl
    refine WO.k0 rfl rfl rfl rfl (rn_la (cs := [.int .i64 p0.In, .int .i64 p0.Out]) Try.isAgg35 Try.sizeOf35 rfl rfl rfl (haC f38.cells rfl)) ?_
    obtain ⟨x37, hx37, h⟩ := Option.bind_eq_some_iff.mp h
    refine WO.call rfl rfl rfl rfl rfl rfl Try.call91 (i_inputsOf_ok (κ := fun b => mp [] 0 (K30 b)) (p0 := p0) hx37) ?_
    rintro _ w39 ⟨k40, rfl, e41⟩
    obtain ⟨K42, S43, m44⟩ := Ent.mixed (l := []) (κ := K30) e41 4 rfl
    refine ⟨(S43.cl rfl), ?_⟩
    refine WO.pn 2 rfl ?_
    obtain ⟨p49, h, hK46⟩ := Option.bind_eq_some_iff.mp h
    refine WO.meet [(6, 2), (8, 2), (12, 2), (13, 2), (7, 0), (9, 2), (10, 0), (11, 2), (14, 2), (15, 2)] [(16, 2), (17, 2), (18, 2), (19, 1), (20, 2), (21, 2), (22, 2), (23, 2), (25, 2), (28, 2), (24, 0), (26, 2), (27, 0), (29, 0), (30, 2), (31, 1), (32, 2), (33, 2)] (fun L w' => L = [(2, .pointer (some ⟨b2, 0, none⟩)), (3, .pointer (some ⟨b3, 0, none⟩)), (5, .int .i64 (p1.Next.length : Int)), (6, .int .i64 v29), (7, .slice ax32 x32.length ux32), (27, .slice a1_0 p1.Next.length u1_0), (28, .int .i64 (p1.Next.length : Int)), (29, .int .i64 v29), (49, .bool p49)] ∧ ∃ κ', Stp [] K42 w39 κ' w') (S43.cl rfl) ?_ ?_
    ·
     revert h
     cases ht47 : ((x32.length : Int) != x37) with
     | true =>
      intro h; replace h := cT h
      refine WO.pn 4 rfl ?_
      refine WO.qs rfl rfl rfl rfl ?_
      refine WO.pn 1 rfl ?_
      refine WO.qs rfl rfl rfl rfl ?_
      refine WO.pn 3 rfl ?_
      obtain rfl := Option.some.inj h
      exact WO.met _ (S43.cl rfl) ⟨rfl, _, (Stp.refl _ _).wk rfl⟩ fun a ha => (ha.more (ha.more (ha.more (ha.more (ha.more (ha.more (ha.more (ha.more (ha.more ha.nil rfl) rfl) rfl) rfl) rfl) rfl) rfl) rfl) rfl)
     | false =>
      intro h; replace h := cF h
      refine WO.k2 rfl rfl rfl rfl (rn_fieldAddr Try.runUnderlying37 rfl Try.sizeOf24 rfl rfl) ?_
      refine WO.pn 2 rfl ?_
      refine WO.k2 rfl rfl rfl rfl (rn_len Try.runUnderlying28 rfl rfl) ?_
      have f48 := f22.stp (S31.tr S36) rfl rfl
      refine WO.k0 rfl rfl rfl rfl (rn_ld Try.isAgg24 rfl rfl (hvC (f48.ld 1 rfl rfl) rfl)) ?_
      obtain ⟨x43, hx43, h⟩ := Option.bind_eq_some_iff.mp h
      refine WO.k2 rfl rfl rfl rfl (rn_index g1_1 hx43 Try.runUnderlying24 Try.sizeOf28 rfl rfl rfl rfl) ?_
      have f49 := g1_1.stp (S3.tr (S7.tr (S13.tr (S19.tr (S31.tr S36))))) rfl rfl
      obtain ⟨ax43, ux43, f50, hl51⟩ := f49.gSl hx43
      refine WO.k0 rfl rfl rfl rfl (rn_ld Try.isAgg28 rfl rfl (hvC hl51 rfl)) ?_
      refine WO.k2 rfl rfl rfl rfl (rn_len Try.runUnderlying28 rfl rfl) ?_
      refine WO.pn 2 rfl ?_
      obtain rfl := Option.some.inj h
      exact WO.met _ (S43.cl rfl) ⟨rfl, _, (Stp.refl _ _).wk rfl⟩ fun a ha => (ha.more (ha.more (ha.more (ha.more (ha.more (ha.more (ha.more (ha.more (ha.more ha.nil rfl) rfl) rfl) rfl) rfl) rfl) rfl) rfl) rfl)
    rintro _ w52 _ ⟨rfl, K53, S54⟩
    have h := hK46
    refine WO.pn 1 rfl ?_
    obtain ⟨p55, h, hK55⟩ := Option.bind_eq_some_iff.mp h
    refine WO.meet [(17, 2), (18, 2), (19, 1), (20, 2), (21, 2)] [(22, 2), (23, 2), (25, 2), (28, 2), (24, 0), (26, 2), (27, 0), (29, 0), (30, 2), (31, 1), (32, 2), (33, 2)] (fun L w' => L = [(2, .pointer (some ⟨b2, 0, none⟩)), (3, .pointer (some ⟨b3, 0, none⟩)), (5, .int .i64 (p1.Next.length : Int)), (6, .int .i64 v29), (27, .slice a1_0 p1.Next.length u1_0), (28, .int .i64 (p1.Next.length : Int)), (29, .int .i64 v29), (55, .bool p55)] ∧ ∃ κ', Stp [] K53 w52 κ' w') ((S43.tr S54).cl rfl) ?_ ?_
    ·
     revert h
     cases ht56 : p49 with
     | true =>
      intro h; replace h := cT h
      refine WO.pn 2 rfl ?_
      refine WO.ls rfl rfl rfl rfl ?_
      refine WO.pn 2 rfl ?_
      obtain rfl := Option.some.inj h
      exact WO.met _ ((S43.tr S54).cl rfl) ⟨rfl, _, (Stp.refl _ _).wk rfl⟩ fun a ha => (ha.more (ha.more (ha.more (ha.more (ha.more (ha.more (ha.more (ha.more ha.nil rfl) rfl) rfl) rfl) rfl) rfl) rfl) rfl)
     | false =>
      intro h; replace h := cF h
      refine WO.pn 2 rfl ?_
      obtain ⟨x53, hx53, h⟩ := Option.bind_eq_some_iff.mp h
      have f57 := f34.stp (S36.tr (S43.tr S54)) rfl rfl
      refine WO.call rfl rfl rfl rfl rfl rfl Try.call105 (i_areLetters_ok (κ := fun b => mp [] 0 (K53 b)) (Sl.map f57 (mp [] 0) rfl rfl) hx53) ?_
      rintro _ w58 ⟨k59, rfl, e60⟩
      obtain ⟨K61, S62, m63⟩ := Ent.mixed (l := []) (κ := K53) e60 6 rfl
      refine ⟨((S43.tr (S54.tr S62)).cl rfl), ?_⟩
      refine WO.pn 2 rfl ?_
      obtain rfl := Option.some.inj h
      exact WO.met _ ((S43.tr (S54.tr S62)).cl rfl) ⟨rfl, _, S62.wk rfl⟩ fun a ha => (ha.more (ha.more (ha.more (ha.more (ha.more (ha.more (ha.more (ha.more ha.nil rfl) rfl) rfl) rfl) rfl) rfl) rfl) rfl)
    rintro _ w65 _ ⟨rfl, K66, S67⟩
    have h := hK55
    refine WO.pn 1 rfl ?_
    obtain ⟨p67, h, hK68⟩ := Option.bind_eq_some_iff.mp h
    refine WO.meet [(23, 2), (25, 2), (28, 2), (24, 0), (26, 2), (27, 0), (29, 0), (30, 2), (31, 1), (32, 2), (33, 2)] [] (fun L w' => L = [(2, .pointer (some ⟨b2, 0, none⟩)), (3, .pointer (some ⟨b3, 0, none⟩)), (5, .int .i64 (p1.Next.length : Int)), (27, .slice a1_0 p1.Next.length u1_0), (28, .int .i64 (p1.Next.length : Int)), (29, .int .i64 v29), (67, .bool p67)] ∧ ∃ κ', Stp [] K66 w65 κ' w') ((S43.tr (S54.tr S67)).cl rfl) ?_ ?_
    ·
     revert h
     cases ht69 : p55 with
     | true =>
      intro h; replace h := cT h
      refine WO.pn 3 rfl ?_
      refine WO.qs rfl rfl rfl rfl ?_
      refine WO.pn 1 rfl ?_
      refine WO.qs rfl rfl rfl rfl ?_
      refine WO.qs rfl rfl rfl rfl ?_
      refine WO.pn 1 rfl ?_
      refine WO.ls rfl rfl rfl rfl ?_
      refine WO.pn 2 rfl ?_
      obtain rfl := Option.some.inj h
      exact WO.met _ ((S43.tr (S54.tr S67)).cl rfl) ⟨rfl, _, (Stp.refl _ _).wk rfl⟩ fun a ha => (ha.more (ha.more (ha.more (ha.more (ha.more (ha.more (ha.more ha.nil rfl) rfl) rfl) rfl) rfl) rfl) rfl)
     | false =>
      intro h; replace h := cF h
      refine WO.k2 rfl rfl rfl rfl (rn_fieldAddr Try.runUnderlying37 rfl Try.sizeOf24 rfl rfl) ?_
      refine WO.pn 1 rfl ?_
      refine WO.k2 rfl rfl rfl rfl (rn_fieldAddr Try.runUnderlying35 rfl Try.sizeOf2 rfl rfl) ?_
      have f70 := f22.stp (S31.tr S36) rfl rfl
      refine WO.k0 rfl rfl rfl rfl (rn_ld Try.isAgg24 rfl rfl (hvC (f70.ld 1 rfl rfl) rfl)) ?_
      obtain ⟨x60, hx60, h⟩ := Option.bind_eq_some_iff.mp h
      refine WO.k2 rfl rfl rfl rfl (rn_index g1_1 hx60 Try.runUnderlying24 Try.sizeOf28 rfl rfl rfl rfl) ?_
      have f71 := g1_1.stp (S3.tr (S7.tr (S13.tr (S19.tr (S31.tr S36))))) rfl rfl
      obtain ⟨ax60, ux60, f72, hl73⟩ := f71.gSl hx60
      refine WO.k0 rfl rfl rfl rfl (rn_ld Try.isAgg28 rfl rfl (hvC hl73 rfl)) ?_
      refine WO.k0 rfl rfl rfl rfl (rn_ld Try.isAgg2 rfl rfl (hvC (f38.ld 1 rfl rfl) rfl)) ?_
      obtain ⟨_z64, hz64, h⟩ := Option.bind_eq_some_iff.mp h
      refine WO.k2 rfl rfl rfl rfl (rn_shl rfl rfl rfl (nn_ok hz64)) ?_
      obtain ⟨x65, hx65, h⟩ := Option.bind_eq_some_iff.mp h
      have f74 := f72.stp (S43.tr (S54.tr S67)) rfl rfl
      refine WO.call rfl rfl rfl rfl rfl rfl Try.call105 (i_areLetters_ok (κ := fun b => mp [] 0 (K66 b)) (Sl.map f74 (mp [] 0) rfl rfl) hx65) ?_
      rintro _ w75 ⟨k76, rfl, e77⟩
      obtain ⟨K78, S79, m80⟩ := Ent.mixed (l := []) (κ := K66) e77 6 rfl
      refine ⟨((S43.tr (S54.tr (S67.tr S79))).cl rfl), ?_⟩
      refine WO.pn 2 rfl ?_
      obtain rfl := Option.some.inj h
      exact WO.met _ ((S43.tr (S54.tr (S67.tr S79))).cl rfl) ⟨rfl, _, S79.wk rfl⟩ fun a ha => (ha.more (ha.more (ha.more (ha.more (ha.more (ha.more (ha.more ha.nil rfl) rfl) rfl) rfl) rfl) rfl) rfl)
    rintro _ w82 _ ⟨rfl, K83, S84⟩
    have h := hK68
    refine WO.nx ?_
    refine WO.fin ?_
    refine DN.seq ?_
    revert h
    cases ht85 : p67 with
    | true =>
     intro h; replace h := cT h
     refine WC.ct rfl ?_
     refine WC.seq ?_
     refine WC.rs [(0, 2)] rfl ?_
     refine WO.pn 1 rfl ?_
     refine WO.fin ?_
     refine DN.seq ?_
     refine WC.ret ?_
     refine DN.retBlock ?_
     refine DN.retThen ?_
     refine DN.retThen ?_
     obtain rfl := Option.some.inj h
     obtain rfl := Option.some.inj hk32
     have h := hK24
     dsimp only [aft] at h
     refine DN.retBlock ?_
     refine DN.retMeet ?_
     refine DN.retThen ?_
     have f86 := hE.stp (S3.tr (S7.tr (S13.tr (S19.tr (S31.tr (S36.tr (S43.tr (S54.tr (S67.tr S84))))))))) rfl rfl
     refine DN.res (l := [.tmp 4]) Try.results65 (res_tmp rfl rfl) rfl ?_
     obtain rfl := Option.some.inj h
     exact ⟨K83, rfl, f86⟩
    | false =>
     intro h; replace h := cF h
     refine WC.cf rfl ?_
     refine WC.skip ?_
     refine DN.block ?_
     refine DN.seq ?_
     refine WC.rs [(0, 2), (1, 2)] rfl ?_
     refine WO.pn 2 rfl ?_
     refine WO.fin ?_
     have hw23 : IntKind.wrap .i64 (v29 + 1) = v29 + 1 := wr1 hj23 (of_decide_eq_true hc23) hN23
     rw [hw23]
     have hc23 := of_decide_eq_true hc23
     obtain rfl := Option.some.inj h
     refine DN.round fun a ha => ?_
     exact ⟨k, _, Nat.lt_succ_self _, ⟨K83, v29 + 1, rfl, (S31.tr (S36.tr (S43.tr (S54.tr (S67.tr S84))))).wk rfl, by omega, by omega, hk32⟩, (ha.more (ha.more (ha.more (ha.more (ha.more (ha.more ha.nil rfl) rfl) rfl) rfl) rfl) rfl)⟩
  rintro _ w26 ⟨K27, rfl, S28, rfl⟩
  have h := hK24
  dsimp only [aft] at h
  refine DN.seq ?_
  refine WC.seq ?_
  refine WC.rs [(0, 2)] rfl ?_
  refine WO.pn 1 rfl ?_
  refine WO.fin ?_
  refine DN.seq ?_
  refine WC.ret ?_
  have f87 := hE.stp (S3.tr (S7.tr (S13.tr (S19.tr S28)))) rfl rfl
  refine DN.res (l := [.tmp 4]) Try.results65 (res_tmp rfl rfl) rfl ?_
  obtain rfl := Option.some.inj h
  exact ⟨K27, rfl, f87⟩

/- loop.example/g00869/impl.isWord -/
theorem i_isWord_ok {w : World} {κ : Col} {a0_0 : Option Addr} {u0_0 : Nat} {a0_1 : Option Addr} {u0_1 : Nat} {p0 : Word} {p1 : Int} (g0_0 : Rd (Rp.int .i64) κ w 0 a0_0 u0_0 p0.Stem) (g0_1 : Rd (Rp.int .i64) κ w 0 a0_1 u0_1 p0.Loop) {r : Bool} (h : i_isWord p0 p1 = some r) : Ret Try.prog 90 [.agg #[.slice a0_0 p0.Stem.length u0_0, .slice a0_1 p0.Loop.length u0_1], .int .i64 p1] w (fun v w' => ∃ (κ' : Col), v = .bool r ∧ Ent κ w κ' w') := by
 unfold i_isWord at h
 refine Ret.enter Try.func90 rfl Try.ntmps90 rfl ?_
 dsimp only [envOf]
 have hE := Ent.refl κ w
 refine WC.seq ?_
 refine WC.rs [(0, 1), (1, 2)] rfl ?_
 refine WO.box (κ := κ) 2 rfl rfl rfl rfl rfl rfl rfl fun b2 w1 K2 S3 f4 => ⟨trivial, ?_⟩
 refine WO.pn 1 rfl ?_
 refine WO.fin ?_
 refine DN.seq ?_
 refine WC.seq ?_
 refine WC.rs [(0, 2), (1, 1), (2, 2), (3, 2), (4, 2), (5, 2), (6, 1), (7, 2), (8, 2), (9, 2), (10, 2), (11, 2), (12, 1), (13, 2), (14, 2), (15, 2), (16, 2), (17, 2), (18, 1), (19, 2), (20, 1), (21, 2), (22, 2), (23, 2), (24, 1), (25, 2), (26, 1), (27, 2), (28, 2)] rfl ?_
 refine WO.k2 rfl rfl rfl rfl (rn_fieldAddr Try.runUnderlying41 rfl Try.sizeOf28 rfl rfl) ?_
 refine WO.k1 trivial rfl rfl rfl rfl (rn_ld Try.isAgg28 rfl rfl (hvE (f4.ld 0 rfl rfl))) ?_
 refine WO.k2 rfl rfl rfl rfl (rn_len Try.runUnderlying28 rfl rfl) ?_
 refine WO.pn 2 rfl ?_
 obtain ⟨p14, h, hK5⟩ := Option.bind_eq_some_iff.mp h
 refine WO.meet [(5, 2), (6, 1), (7, 2), (8, 2), (9, 2)] [(10, 2), (11, 2), (12, 1), (13, 2), (14, 2), (15, 2), (16, 2), (17, 2), (18, 1), (19, 2), (20, 1), (21, 2), (22, 2), (23, 2), (24, 1), (25, 2), (26, 1), (27, 2), (28, 2)] (fun L w' => L = [(1, .int .i64 p1), (2, .pointer (some ⟨b2, 0, none⟩)), (4, .bool false), (14, .bool p14)] ∧ ∃ κ', Stp [] K2 w1 κ' w') trivial ?_ ?_
 ·
  revert h
  cases ht6 : decide ((p0.Stem.length : Int) ≤ 600) with
  | true =>
   intro h; replace h := cT h
   refine WO.k2 rfl rfl rfl rfl (rn_fieldAddr Try.runUnderlying41 rfl Try.sizeOf28 rfl rfl) ?_
   refine WO.k1 trivial rfl rfl rfl rfl (rn_ld Try.isAgg28 rfl rfl (hvE (f4.ld 1 rfl rfl))) ?_
   refine WO.k2 rfl rfl rfl rfl (rn_len Try.runUnderlying28 rfl rfl) ?_
   refine WO.pn 2 rfl ?_
   obtain rfl := Option.some.inj h
   exact WO.met _ trivial ⟨rfl, _, (Stp.refl _ _).wk rfl⟩ fun a ha => (ha.more (ha.more (ha.more (ha.more ha.nil rfl) rfl) rfl) rfl)
  | false =>
   intro h; replace h := cF h
   refine WO.pn 1 rfl ?_
   refine WO.ls rfl rfl rfl rfl ?_
   refine WO.pn 3 rfl ?_
   obtain rfl := Option.some.inj h
   exact WO.met _ trivial ⟨rfl, _, (Stp.refl _ _).wk rfl⟩ fun a ha => (ha.more (ha.more (ha.more (ha.more ha.nil rfl) rfl) rfl) rfl)
 rintro _ w7 _ ⟨rfl, K8, S9⟩
 have h := hK5
 refine WO.pn 1 rfl ?_
 obtain ⟨p20, h, hK10⟩ := Option.bind_eq_some_iff.mp h
 refine WO.meet [(11, 2), (12, 1), (13, 2), (14, 2), (15, 2)] [(16, 2), (17, 2), (18, 1), (19, 2), (20, 1), (21, 2), (22, 2), (23, 2), (24, 1), (25, 2), (26, 1), (27, 2), (28, 2)] (fun L w' => L = [(1, .int .i64 p1), (2, .pointer (some ⟨b2, 0, none⟩)), (4, .bool false), (20, .bool p20)] ∧ ∃ κ', Stp [] K8 w7 κ' w') trivial ?_ ?_
 ·
  revert h
  cases ht11 : p14 with
  | true =>
   intro h; replace h := cT h
   refine WO.k2 rfl rfl rfl rfl (rn_fieldAddr Try.runUnderlying41 rfl Try.sizeOf28 rfl rfl) ?_
   have f12 := f4.stp S9 rfl rfl
   refine WO.k1 trivial rfl rfl rfl rfl (rn_ld Try.isAgg28 rfl rfl (hvE (f12.ld 1 rfl rfl))) ?_
   refine WO.k2 rfl rfl rfl rfl (rn_len Try.runUnderlying28 rfl rfl) ?_
   refine WO.pn 2 rfl ?_
   obtain rfl := Option.some.inj h
   exact WO.met _ trivial ⟨rfl, _, (Stp.refl _ _).wk rfl⟩ fun a ha => (ha.more (ha.more (ha.more (ha.more ha.nil rfl) rfl) rfl) rfl)
  | false =>
   intro h; replace h := cF h
   refine WO.pn 1 rfl ?_
   refine WO.ls rfl rfl rfl rfl ?_
   refine WO.pn 3 rfl ?_
   obtain rfl := Option.some.inj h
   exact WO.met _ trivial ⟨rfl, _, (Stp.refl _ _).wk rfl⟩ fun a ha => (ha.more (ha.more (ha.more (ha.more ha.nil rfl) rfl) rfl) rfl)
 rintro _ w13 _ ⟨rfl, K14, S15⟩
 have h := hK10
 refine WO.pn 1 rfl ?_
 obtain ⟨p26, h, hK16⟩ := Option.bind_eq_some_iff.mp h
 refine WO.meet [(17, 2), (18, 1), (19, 2), (20, 1), (21, 2)] [(22, 2), (23, 2), (24, 1), (25, 2), (26, 1), (27, 2), (28, 2)] (fun L w' => L = [(1, .int .i64 p1), (2, .pointer (some ⟨b2, 0, none⟩)), (4, .bool false), (26, .bool p26)] ∧ ∃ κ', Stp [] K14 w13 κ' w') trivial ?_ ?_
 ·
  revert h
  cases ht17 : p20 with
  | true =>
   intro h; replace h := cT h
   refine WO.k2 rfl rfl rfl rfl (rn_fieldAddr Try.runUnderlying41 rfl Try.sizeOf28 rfl rfl) ?_
   have f18 := f4.stp (S9.tr S15) rfl rfl
   refine WO.k1 trivial rfl rfl rfl rfl (rn_ld Try.isAgg28 rfl rfl (hvE (f18.ld 0 rfl rfl))) ?_
   refine WO.pn 1 rfl ?_
   obtain ⟨x25, hx25, h⟩ := Option.bind_eq_some_iff.mp h
   have f19 := g0_0.stp (S3.tr (S9.tr S15)) rfl rfl
   refine WO.call rfl rfl rfl rfl rfl rfl Try.call105 (i_areLetters_ok (κ := fun b => mp [] 0 (K14 b)) (Sl.map f19 (mp [] 0) rfl rfl) hx25) ?_
   rintro _ w20 ⟨k21, rfl, e22⟩
   obtain ⟨K23, S24, m25⟩ := Ent.mixed (l := []) (κ := K14) e22 3 rfl
   refine ⟨trivial, ?_⟩
   refine WO.pn 1 rfl ?_
   obtain rfl := Option.some.inj h
   exact WO.met _ trivial ⟨rfl, _, S24.wk rfl⟩ fun a ha => (ha.more (ha.more (ha.more (ha.more ha.nil rfl) rfl) rfl) rfl)
  | false =>
   intro h; replace h := cF h
   refine WO.pn 1 rfl ?_
   refine WO.ls rfl rfl rfl rfl ?_
   refine WO.pn 1 rfl ?_
   refine WO.ls rfl rfl rfl rfl ?_
   refine WO.pn 1 rfl ?_
   obtain rfl := Option.some.inj h
   exact WO.met _ trivial ⟨rfl, _, (Stp.refl _ _).wk rfl⟩ fun a ha => (ha.more (ha.more (ha.more (ha.more ha.nil rfl) rfl) rfl) rfl)
 rintro _ w27 _ ⟨rfl, K28, S29⟩
 have h := hK16
 refine WO.pn 1 rfl ?_
 obtain ⟨p32, h, hK30⟩ := Option.bind_eq_some_iff.mp h
 refine WO.meet [(23, 2), (24, 1), (25, 2), (26, 1), (27, 2)] [(28, 2)] (fun L w' => L = [(4, .bool false), (32, .bool p32)] ∧ ∃ κ', Stp [] K28 w27 κ' w') trivial ?_ ?_
 ·
  revert h
  cases ht31 : p26 with
  | true =>
   intro h; replace h := cT h
   refine WO.k2 rfl rfl rfl rfl (rn_fieldAddr Try.runUnderlying41 rfl Try.sizeOf28 rfl rfl) ?_
   have f32 := f4.stp (S9.tr (S15.tr S29)) rfl rfl
   refine WO.k1 trivial rfl rfl rfl rfl (rn_ld Try.isAgg28 rfl rfl (hvE (f32.ld 1 rfl rfl))) ?_
   refine WO.pn 1 rfl ?_
   obtain ⟨x31, hx31, h⟩ := Option.bind_eq_some_iff.mp h
   have f33 := g0_1.stp (S3.tr (S9.tr (S15.tr S29))) rfl rfl
   refine WO.call rfl rfl rfl rfl rfl rfl Try.call105 (i_areLetters_ok (κ := fun b => mp [] 0 (K28 b)) (Sl.map f33 (mp [] 0) rfl rfl) hx31) ?_
   rintro _ w34 ⟨k35, rfl, e36⟩
   obtain ⟨K37, S38, m39⟩ := Ent.mixed (l := []) (κ := K28) e36 3 rfl
   refine ⟨trivial, ?_⟩
   refine WO.pn 1 rfl ?_
   obtain rfl := Option.some.inj h
   exact WO.met _ trivial ⟨rfl, _, S38.wk rfl⟩ fun a ha => (ha.more (ha.more ha.nil rfl) rfl)
  | false =>
   intro h; replace h := cF h
   refine WO.pn 1 rfl ?_
   refine WO.ls rfl rfl rfl rfl ?_
   refine WO.pn 1 rfl ?_
   refine WO.ls rfl rfl rfl rfl ?_
   refine WO.pn 1 rfl ?_
   obtain rfl := Option.some.inj h
   exact WO.met _ trivial ⟨rfl, _, (Stp.refl _ _).wk rfl⟩ fun a ha => (ha.more (ha.more ha.nil rfl) rfl)
 rintro _ w41 _ ⟨rfl, K42, S43⟩
 have h := hK30
 refine WO.pn 1 rfl ?_
 refine WO.fin ?_
 refine DN.seq ?_
 refine WC.ret ?_
 have f44 := hE.stp (S3.tr (S9.tr (S15.tr (S29.tr S43)))) rfl rfl
 refine DN.res (l := [.tmp 4]) Try.results90 (res_tmp rfl rfl) rfl ?_
 obtain rfl := Option.some.inj h
 exact ⟨K42, rfl, f44⟩

/- loop.example/g00869/impl.RunWord -/
theorem i_RunWord_ok {w : World} {κ : Col} {p0 : Sig} {a1_0 : Option Addr} {u1_0 : Nat} {a1_1 : Option Addr} {u1_1 : Nat} {p1 : Machine} {a2_0 : Option Addr} {u2_0 : Nat} {a2_1 : Option Addr} {u2_1 : Nat} {p2 : Word} (g1_0 : Rd (Rp.sl (Rp.int .i64)) κ w 0 a1_0 u1_0 p1.Next) (g1_1 : Rd (Rp.sl (Rp.int .i64)) κ w 0 a1_1 u1_1 p1.Out) (g2_0 : Rd (Rp.int .i64) κ w 0 a2_0 u2_0 p2.Stem) (g2_1 : Rd (Rp.int .i64) κ w 0 a2_1 u2_1 p2.Loop) {r : Word} (h : i_RunWord p0 p1 p2 = some r) : Ret Try.prog 54 [.agg #[.int .i64 p0.In, .int .i64 p0.Out], .agg #[.slice a1_0 p1.Next.length u1_0, .slice a1_1 p1.Out.length u1_1], .agg #[.slice a2_0 p2.Stem.length u2_0, .slice a2_1 p2.Loop.length u2_1]] w (fun v w' => ∃ (κ' : Col) (ra0 : Option Addr) (ru0 : Nat) (ra1 : Option Addr) (ru1 : Nat), v = .agg #[.slice ra0 r.Stem.length ru0, .slice ra1 r.Loop.length ru1] ∧ Ent κ w κ' w' ∧ Oc (Ep.int .i64) 2 κ' w' 2 ra0 ru0 r.Stem ∧ Oc (Ep.int .i64) 2 κ' w' 3 ra1 ru1 r.Loop) := by
 unfold i_RunWord at h
 refine Ret.enter Try.func54 rfl Try.ntmps54 rfl ?_
 dsimp only [envOf]
 have hE := Ent.refl κ w
 refine WC.seq ?_
 refine WC.rs [(0, 1), (1, 1), (2, 1), (3, 1)] rfl ?_
 refine WO.box (κ := κ) 2 rfl rfl rfl rfl rfl rfl rfl fun b3 w1 K2 S3 f4 => ⟨trivial, ?_⟩
 refine WO.box (κ := K2) 3 rfl rfl rfl rfl rfl rfl rfl fun b4 w5 K6 S7 f8 => ⟨trivial, ?_⟩
 refine WO.box (κ := K6) 4 rfl rfl rfl rfl rfl rfl rfl fun b5 w9 K10 S11 f12 => ⟨trivial, ?_⟩
 refine WO.alloc (κ := K10) 5 rfl rfl rfl rfl rfl Try.zeroValue41 rfl fun b6 w13 K14 S15 f16 => ⟨trivial, ?_⟩
 refine WO.fin ?_
 refine DN.seq ?_
 refine WC.seq ?_
 refine WC.seq ?_
 refine WC.rx (κ := K14) [2, 3, 4] none [(0, 0), (1, 1), (2, 2), (3, 2), (4, 0), (5, 0), (6, 1), (7, 2), (8, 2), (9, 2), (10, 0), (11, 0), (12, 1), (13, 1), (14, 2), (15, 2)] [] (by kernel_rfl) (by kernel_rfl) fun w18 S17 => ?_
 have f19 := f4.stp (S7.tr (S11.tr (S15.tr S17))) rfl rfl
 refine WO.k0 rfl rfl rfl rfl (rn_la (cs := [.int .i64 p0.In, .int .i64 p0.Out]) Try.isAgg35 Try.sizeOf35 rfl rfl rfl (haC f19.cells rfl)) ?_
 obtain ⟨x10, hx10, h⟩ := Option.bind_eq_some_iff.mp h
 refine WO.call rfl rfl rfl rfl rfl rfl Try.call64 (i_isSig_ok (κ := fun b => mp [] 0 (K14 b)) (p0 := p0) hx10) ?_
 rintro _ w20 ⟨k21, rfl, e22⟩
 obtain ⟨K23, S24, m25⟩ := Ent.mixed (l := []) (κ := K14) e22 6 rfl
 refine ⟨(S24.cl rfl), ?_⟩
 refine WO.pn 2 rfl ?_
 obtain ⟨p17, h, hK27⟩ := Option.bind_eq_some_iff.mp h
 refine WO.meet [(4, 0), (5, 0), (6, 1), (7, 2), (8, 2)] [(9, 2), (10, 0), (11, 0), (12, 1), (13, 1), (14, 2), (15, 2)] (fun L w' => L = [(3, .pointer (some ⟨b3, 0, none⟩)), (4, .pointer (some ⟨b4, 0, none⟩)), (5, .pointer (some ⟨b5, 0, none⟩)), (6, .pointer (some ⟨b6, 0, none⟩)), (17, .bool p17)] ∧ ∃ κ', Stp [] K23 w20 κ' w') (S24.cl rfl) ?_ ?_
 ·
  revert h
  cases ht28 : (!x10) with
  | true =>
   intro h; replace h := cT h
   refine WO.qs rfl rfl rfl rfl ?_
   refine WO.qs rfl rfl rfl rfl ?_
   refine WO.ls rfl rfl rfl rfl ?_
   refine WO.pn 2 rfl ?_
   obtain rfl := Option.some.inj h
   exact WO.met _ (S24.cl rfl) ⟨rfl, _, (Stp.refl _ _).wk rfl⟩ fun a ha => (ha.more (ha.more (ha.more (ha.more (ha.more ha.nil rfl) rfl) rfl) rfl) rfl)
  | false =>
   intro h; replace h := cF h
   refine WO.k0 rfl rfl rfl rfl (rn_la (cs := [.int .i64 p0.In, .int .i64 p0.Out]) Try.isAgg35 Try.sizeOf35 rfl rfl rfl (haC f19.cells rfl)) ?_
   have f29 := f8.stp (S11.tr (S15.tr S17)) rfl rfl
   refine WO.k0 rfl rfl rfl rfl (rn_la (cs := [.slice a1_0 p1.Next.length u1_0, .slice a1_1 p1.Out.length u1_1]) Try.isAgg37 Try.sizeOf37 rfl rfl rfl (haC f29.cells rfl)) ?_
   obtain ⟨x15, hx15, h⟩ := Option.bind_eq_some_iff.mp h
   have f30 := g1_0.stp (S3.tr (S7.tr (S11.tr (S15.tr (S17.tr S24))))) rfl rfl
   have f31 := g1_1.stp (S3.tr (S7.tr (S11.tr (S15.tr (S17.tr S24))))) rfl rfl
   refine WO.call rfl rfl rfl rfl rfl rfl Try.call65 (i_isMachine_ok (κ := fun b => mp [] 0 (K23 b)) (p0 := p0) (p1 := p1) (Sl.map f30 (mp [] 0) rfl rfl) (Sl.map f31 (mp [] 0) rfl rfl) hx15) ?_
   rintro _ w32 ⟨k33, rfl, e34⟩
   obtain ⟨K35, S36, m37⟩ := Ent.mixed (l := []) (κ := K23) e34 8 rfl
   refine ⟨((S24.tr S36).cl rfl), ?_⟩
   refine WO.pn 2 rfl ?_
   obtain rfl := Option.some.inj h
   exact WO.met _ ((S24.tr S36).cl rfl) ⟨rfl, _, S36.wk rfl⟩ fun a ha => (ha.more (ha.more (ha.more (ha.more (ha.more ha.nil rfl) rfl) rfl) rfl) rfl)
 rintro _ w39 _ ⟨rfl, K40, S41⟩
 have h := hK27
 refine WO.pn 1 rfl ?_
 obtain ⟨p24, h, hK42⟩ := Option.bind_eq_some_iff.mp h
 refine WO.meet [(10, 0), (11, 0), (12, 1), (13, 1), (14, 2), (15, 2)] [] (fun L w' => L = [(3, .pointer (some ⟨b3, 0, none⟩)), (4, .pointer (some ⟨b4, 0, none⟩)), (5, .pointer (some ⟨b5, 0, none⟩)), (6, .pointer (some ⟨b6, 0, none⟩)), (24, .bool p24)] ∧ ∃ κ', Stp [] K40 w39 κ' w') ((S24.tr S41).cl rfl) ?_ ?_
 ·
  revert h
  cases ht43 : p17 with
  | true =>
   intro h; replace h := cT h
   refine WO.qs rfl rfl rfl rfl ?_
   refine WO.qs rfl rfl rfl rfl ?_
   refine WO.ls rfl rfl rfl rfl ?_
   refine WO.ls rfl rfl rfl rfl ?_
   refine WO.pn 2 rfl ?_
   obtain rfl := Option.some.inj h
   exact WO.met _ ((S24.tr S41).cl rfl) ⟨rfl, _, (Stp.refl _ _).wk rfl⟩ fun a ha => (ha.more (ha.more (ha.more (ha.more (ha.more ha.nil rfl) rfl) rfl) rfl) rfl)
  | false =>
   intro h; replace h := cF h
   have f44 := f12.stp (S15.tr S17) rfl rfl
   refine WO.k0 rfl rfl rfl rfl (rn_la (cs := [.slice a2_0 p2.Stem.length u2_0, .slice a2_1 p2.Loop.length u2_1]) Try.isAgg41 Try.sizeOf41 rfl rfl rfl (haC f44.cells rfl)) ?_
   refine WO.k0 rfl rfl rfl rfl (rn_la (cs := [.int .i64 p0.In, .int .i64 p0.Out]) Try.isAgg35 Try.sizeOf35 rfl rfl rfl (haC f19.cells rfl)) ?_
   obtain ⟨x21, hx21, h⟩ := Option.bind_eq_some_iff.mp h
   refine WO.call rfl rfl rfl rfl rfl rfl Try.call91 (i_inputsOf_ok (κ := fun b => mp [] 0 (K40 b)) (p0 := p0) hx21) ?_
   rintro _ w45 ⟨k46, rfl, e47⟩
   obtain ⟨K48, S49, m50⟩ := Ent.mixed (l := []) (κ := K40) e47 8 rfl
   refine ⟨((S24.tr (S41.tr S49)).cl rfl), ?_⟩
   obtain ⟨x22, hx22, h⟩ := Option.bind_eq_some_iff.mp h
   have f52 := g2_0.stp (S3.tr (S7.tr (S11.tr (S15.tr (S17.tr (S24.tr (S41.tr S49))))))) rfl rfl
   have f53 := g2_1.stp (S3.tr (S7.tr (S11.tr (S15.tr (S17.tr (S24.tr (S41.tr S49))))))) rfl rfl
   refine WO.call rfl rfl rfl rfl rfl rfl Try.call90 (i_isWord_ok (κ := fun b => mp [] 0 (K48 b)) (p0 := p2) (Sl.map f52 (mp [] 0) rfl rfl) (Sl.map f53 (mp [] 0) rfl rfl) hx22) ?_
   rintro _ w54 ⟨k55, rfl, e56⟩
   obtain ⟨K57, S58, m59⟩ := Ent.mixed (l := []) (κ := K48) e56 10 rfl
   refine ⟨((S24.tr (S41.tr (S49.tr S58))).cl rfl), ?_⟩
   refine WO.pn 2 rfl ?_
   obtain rfl := Option.some.inj h
   exact WO.met _ ((S24.tr (S41.tr (S49.tr S58))).cl rfl) ⟨rfl, _, (S49.tr S58).wk rfl⟩ fun a ha => (ha.more (ha.more (ha.more (ha.more (ha.more ha.nil rfl) rfl) rfl) rfl) rfl)
 rintro _ w61 _ ⟨rfl, K62, S63⟩
 have h := hK42
 refine WO.nx ?_
 refine WO.fin ?_
 refine DN.seq ?_
 revert h
 cases ht64 : p24 with
 | true =>
  intro h; replace h := cT h
  refine WC.ct rfl ?_
  refine WC.seq ?_
  refine WC.rs [(0, 2), (1, 1)] rfl ?_
  refine WO.k2 rfl rfl rfl rfl (rn_build (parts := []) (cells := [.slice none 0 0, .slice none 0 0]) rfl rfl (by kernel_rfl)) ?_
  have f65 := f16.stp (S17.tr (S24.tr (S41.tr S63))) rfl rfl
  refine WO.stB0 (κ := K62) 5 (vc := [.slice none 0 0, .slice none 0 0]) rfl rfl rfl rfl rfl rfl rfl Try.sizeOf41 rfl rfl f65 rfl fun w66 S67 f68 => ⟨trivial, ?_⟩
  refine WO.fin ?_
  refine DN.seq ?_
  refine WC.ret ?_
  refine DN.retThen ?_
  have f69 := hE.stp (S3.tr (S7.tr (S11.tr (S15.tr (S17.tr (S24.tr (S41.tr (S63.tr S67)))))))) rfl rfl
  refine DN.res (l := [.cell 6 41]) Try.results54 (res_cellA rfl f68 Try.isAgg41 Try.sizeOf41 rfl rfl) rfl ?_
  obtain rfl := Option.some.inj h
  exact ⟨K62, none, 0, none, 0, rfl, f69, Ow.nil, Ow.nil⟩
 | false =>
  intro h; replace h := cF h
  refine WC.cf rfl ?_
  refine WC.skip ?_
  refine DN.seq ?_
  refine WC.seq ?_
  refine WC.rs [(0, 1), (1, 1), (2, 1), (3, 1), (4, 2), (5, 2), (6, 2), (7, 1), (8, 1), (9, 2)] rfl ?_
  have f70 := f19.stp (S24.tr (S41.tr S63)) rfl rfl
  refine WO.k1 trivial rfl rfl rfl rfl (rn_la (cs := [.int .i64 p0.In, .int .i64 p0.Out]) Try.isAgg35 Try.sizeOf35 rfl rfl rfl (haE f70.cells)) ?_
  have f71 := f8.stp (S11.tr (S15.tr (S17.tr (S24.tr (S41.tr S63))))) rfl rfl
  refine WO.k1 trivial rfl rfl rfl rfl (rn_la (cs := [.slice a1_0 p1.Next.length u1_0, .slice a1_1 p1.Out.length u1_1]) Try.isAgg37 Try.sizeOf37 rfl rfl rfl (haE f71.cells)) ?_
  have f72 := f12.stp (S15.tr (S17.tr (S24.tr (S41.tr S63)))) rfl rfl
  refine WO.k1 trivial rfl rfl rfl rfl (rn_la (cs := [.slice a2_0 p2.Stem.length u2_0, .slice a2_1 p2.Loop.length u2_1]) Try.isAgg41 Try.sizeOf41 rfl rfl rfl (haE f72.cells)) ?_
  obtain ⟨x30, hx30, h⟩ := Option.bind_eq_some_iff.mp h
  have f73 := g1_0.stp (S3.tr (S7.tr (S11.tr (S15.tr (S17.tr (S24.tr (S41.tr S63))))))) rfl rfl
  have f74 := g1_1.stp (S3.tr (S7.tr (S11.tr (S15.tr (S17.tr (S24.tr (S41.tr S63))))))) rfl rfl
  have f75 := g2_0.stp (S3.tr (S7.tr (S11.tr (S15.tr (S17.tr (S24.tr (S41.tr S63))))))) rfl rfl
  have f76 := g2_1.stp (S3.tr (S7.tr (S11.tr (S15.tr (S17.tr (S24.tr (S41.tr S63))))))) rfl rfl
  refine WO.call rfl rfl rfl rfl rfl rfl Try.call92 (i_runWord_ok (κ := fun b => mp [] 0 (K62 b)) (p0 := p0) (p1 := p1) (p2 := p2) (Sl.map f73 (mp [] 0) rfl rfl) (Sl.map f74 (mp [] 0) rfl rfl) (Sl.map f75 (mp [] 0) rfl rfl) (Sl.map f76 (mp [] 0) rfl rfl) hx30) ?_
  rintro _ w77 ⟨k78, a30_0, u30_0, a30_1, u30_1, rfl, e79, f80, f81⟩
  obtain ⟨K82, S83, m84⟩ := Ent.mixed (l := []) (κ := K62) e79 8 rfl
  refine ⟨trivial, ?_⟩
  have f86 := f80.mx (no_int _) m84 rfl (rfl : 8 + 2 = 10)
  have f87 := f81.mx (no_int _) m84 rfl (rfl : 8 + 3 = 11)
  refine WO.pn 3 rfl ?_
  refine WO.alloc (κ := K82) 12 rfl rfl rfl rfl rfl Try.zeroValue41 rfl fun b7 w88 K89 S90 f91 => ⟨trivial, ?_⟩
  refine WO.stB0 (κ := K89) 12 (vc := [.slice a30_0 x30.1.Stem.length u30_0, .slice a30_1 x30.1.Loop.length u30_1]) rfl rfl rfl rfl rfl rfl rfl Try.sizeOf41 rfl rfl f91 rfl fun w92 S93 f94 => ⟨trivial, ?_⟩
  refine WO.pn 1 rfl ?_
  refine WO.fin ?_
  refine DN.seq ?_
  refine WC.seq ?_
  refine WC.seq ?_
  refine WC.rs [(0, 2), (1, 2)] rfl ?_
  refine WO.pn 2 rfl ?_
  refine WO.fin ?_
  refine DN.seq ?_
  revert h
  cases ht95 : (!x30.2) with
  | true =>
   intro h; replace h := cT h
   refine WC.ct rfl ?_
   refine WC.seq ?_
   refine WC.rs [(0, 2), (1, 1)] rfl ?_
   refine WO.k2 rfl rfl rfl rfl (rn_build (parts := []) (cells := [.slice none 0 0, .slice none 0 0]) rfl rfl (by kernel_rfl)) ?_
   have f96 := f16.stp (S17.tr (S24.tr (S41.tr (S63.tr (S83.tr (S90.tr S93)))))) rfl rfl
   refine WO.stB0 (κ := K89) 5 (vc := [.slice none 0 0, .slice none 0 0]) rfl rfl rfl rfl rfl rfl rfl Try.sizeOf41 rfl rfl f96 rfl fun w97 S98 f99 => ⟨trivial, ?_⟩
   refine WO.fin ?_
   refine DN.seq ?_
   refine WC.ret ?_
   refine DN.retThen ?_
   have f100 := hE.stp (S3.tr (S7.tr (S11.tr (S15.tr (S17.tr (S24.tr (S41.tr (S63.tr (S83.tr (S90.tr (S93.tr S98))))))))))) rfl rfl
   refine DN.res (l := [.cell 6 41]) Try.results54 (res_cellA rfl f99 Try.isAgg41 Try.sizeOf41 rfl rfl) rfl ?_
   obtain rfl := Option.some.inj h
   exact ⟨K89, none, 0, none, 0, rfl, f100, Ow.nil, Ow.nil⟩
  | false =>
   intro h; replace h := cF h
   refine WC.cf rfl ?_
   refine WC.skip ?_
   refine DN.seq ?_
   refine WC.seq ?_
   refine WC.rs [(0, 1), (1, 1)] rfl ?_
   refine WO.k1 trivial rfl rfl rfl rfl (rn_la (cs := [.slice a30_0 x30.1.Stem.length u30_0, .slice a30_1 x30.1.Loop.length u30_1]) Try.isAgg41 Try.sizeOf41 rfl rfl rfl (haE f94.cells)) ?_
   have f101 := f16.stp (S17.tr (S24.tr (S41.tr (S63.tr (S83.tr (S90.tr S93)))))) rfl rfl
   refine WO.stB0 (κ := K89) 5 (vc := [.slice a30_0 x30.1.Stem.length u30_0, .slice a30_1 x30.1.Loop.length u30_1]) rfl rfl rfl rfl rfl rfl rfl Try.sizeOf41 rfl rfl f101 rfl fun w102 S103 f104 => ⟨trivial, ?_⟩
   refine WO.fin ?_
   refine DN.seq ?_
   refine WC.ret ?_
   have f105 := hE.stp (S3.tr (S7.tr (S11.tr (S15.tr (S17.tr (S24.tr (S41.tr (S63.tr (S83.tr (S90.tr (S93.tr S103))))))))))) rfl rfl
   have f106 := f86.stp (S90.tr (S93.tr S103)) rfl rfl
   have f107 := f87.stp (S90.tr (S93.tr S103)) rfl rfl
   refine DN.res (l := [.cell 6 41]) Try.results54 (res_cellA rfl f104 Try.isAgg41 Try.sizeOf41 rfl rfl) rfl ?_
   obtain rfl := Option.some.inj h
   exact ⟨(fun b => ren [(10, 2), (11, 3)] (K89 b)), a30_0, u30_0, a30_1, u30_1, rfl, (f105.map (ren [(10, 2), (11, 3)]) rfl rfl), (f106.map (ren [(10, 2), (11, 3)]) rfl rfl), (f107.map (ren [(10, 2), (11, 3)]) rfl rfl)⟩

/- slices.ContainsFunc[[]loop.example/g00869/impl.Clause,loop.example/g00869/impl.Clause] -/
theorem slices_ContainsFunc_i_Clause_i_Clause__i_areClauses_1_ok {w : World} {κ : Col} {a0 : Option Addr} {u0 : Nat} {p0 : (List Clause)} {c1_0 : Sig} {b1_0 : Nat} (g0 : Rd Clause.rp κ w 0 a0 u0 p0) (gb1_0 : Bc κ w 0 b1_0 35 [.int .i64 c1_0.In, .int .i64 c1_0.Out]) {r : Bool} (h : slices_ContainsFunc_i_Clause_i_Clause__i_areClauses_1 p0 c1_0 = some r) : Ret Try.prog 144 [.slice a0 p0.length u0, .func (.func 145) #[] #[.pointer (some ⟨b1_0, 0, none⟩)]] w (fun v w' => ∃ (κ' : Col), v = .bool r ∧ Ent κ w κ' w') := by
 unfold slices_ContainsFunc_i_Clause_i_Clause__i_areClauses_1 at h
 refine Ret.enter Try.func144 rfl Try.ntmps144 rfl ?_
 dsimp only [envOf]
 have hE := Ent.refl κ w
 refine WC.seq ?_
 refine WC.rs [(0, 2)] rfl ?_
 refine WO.pn 1 rfl ?_
 refine WO.fin ?_
 refine DN.seq ?_
 refine WC.seq ?_
 refine WC.rs [(0, 2), (1, 2), (2, 1), (3, 2), (4, 2)] rfl ?_
 refine WO.pn 2 rfl ?_
 obtain ⟨x7, hx7, h⟩ := Option.bind_eq_some_iff.mp h
 refine WO.call rfl rfl rfl rfl rfl rfl Try.call126 (slices_IndexFunc_i_Clause_i_Clause__i_areClauses_1_ok (κ := fun b => mp [] 0 (κ b)) (c1_0 := c1_0) (Sl.map g0 (mp [] 0) rfl rfl) (gb1_0.map (mp [] 0) rfl rfl) hx7) ?_
 rintro _ w1 ⟨k2, rfl, e3⟩
 obtain ⟨K4, S5, m6⟩ := Ent.mixed (l := []) (κ := κ) e3 2 rfl
 refine ⟨trivial, ?_⟩
 refine WO.pn 2 rfl ?_
 refine WO.fin ?_
 refine DN.seq ?_
 refine WC.ret ?_
 have f8 := hE.stp S5 rfl rfl
 refine DN.res (l := [.tmp 4]) Try.results144 (res_tmp rfl rfl) rfl ?_
 obtain rfl := Option.some.inj h
 exact ⟨K4, rfl, f8⟩

/- loop.example/g00869/impl.areClauses -/
theorem i_areClauses_ok {w : World} {κ : Col} {p0 : Sig} {a1 : Option Addr} {u1 : Nat} {p1 : (List Clause)} (g1 : Rd Clause.rp κ w 0 a1 u1 p1) {r : Bool} (h : i_areClauses p0 p1 = some r) : Ret Try.prog 125 [.agg #[.int .i64 p0.In, .int .i64 p0.Out], .slice a1 p1.length u1] w (fun v w' => ∃ (κ' : Col), v = .bool r ∧ Ent κ w κ' w') := by
 unfold i_areClauses at h
 refine Ret.enter Try.func125 rfl Try.ntmps125 rfl ?_
 dsimp only [envOf]
 have hE := Ent.refl κ w
 refine WC.seq ?_
 refine WC.rs [(0, 1), (1, 2)] rfl ?_
 refine WO.box (κ := κ) 2 rfl rfl rfl rfl rfl rfl rfl fun b2 w1 K2 S3 f4 => ⟨trivial, ?_⟩
 refine WO.pn 1 rfl ?_
 refine WO.fin ?_
 refine DN.seq ?_
 refine WC.seq ?_
 refine WC.rs [(0, 2), (1, 2), (2, 2), (3, 2), (4, 2), (5, 2), (6, 1), (7, 2), (8, 2), (9, 2)] rfl ?_
 refine WO.pn 1 rfl ?_
 refine WO.k2 rfl rfl rfl rfl (rn_len Try.runUnderlying39 rfl rfl) ?_
 refine WO.pn 2 rfl ?_
 obtain ⟨p13, h, hK5⟩ := Option.bind_eq_some_iff.mp h
 refine WO.meet [(4, 2), (5, 2), (6, 1), (7, 2), (8, 2)] [(9, 2)] (fun L w' => L = [(4, .bool false), (13, .bool p13)] ∧ ∃ κ', Stp [] K2 w1 κ' w') trivial ?_ ?_
 ·
  revert h
  cases ht6 : decide ((p1.length : Int) ≤ 3) with
  | true =>
   intro h; replace h := cT h
   refine WO.pn 1 rfl ?_
   refine WO.k2 rfl rfl rfl rfl (rn_makeFunc (first := []) (captured := [.tmp 2]) rfl rfl rfl ⟨_, rfl⟩) ?_
   obtain ⟨x11, hx11, h⟩ := Option.bind_eq_some_iff.mp h
   have f7 := g1.stp S3 rfl rfl
   refine WO.call rfl rfl rfl rfl rfl rfl Try.call144 (slices_ContainsFunc_i_Clause_i_Clause__i_areClauses_1_ok (κ := fun b => mp [] 0 (K2 b)) (c1_0 := p0) (Sl.map f7 (mp [] 0) rfl rfl) (f4.map (mp [] 0) rfl rfl) hx11) ?_
   rintro _ w8 ⟨k9, rfl, e10⟩
   obtain ⟨K11, S12, m13⟩ := Ent.mixed (l := []) (κ := K2) e10 3 rfl
   refine ⟨trivial, ?_⟩
   refine WO.pn 2 rfl ?_
   obtain rfl := Option.some.inj h
   exact WO.met _ trivial ⟨rfl, _, S12.wk rfl⟩ fun a ha => (ha.more (ha.more ha.nil rfl) rfl)
  | false =>
   intro h; replace h := cF h
   refine WO.pn 2 rfl ?_
   refine WO.ls rfl rfl rfl rfl ?_
   refine WO.pn 2 rfl ?_
   obtain rfl := Option.some.inj h
   exact WO.met _ trivial ⟨rfl, _, (Stp.refl _ _).wk rfl⟩ fun a ha => (ha.more (ha.more ha.nil rfl) rfl)
 rintro _ w15 _ ⟨rfl, K16, S17⟩
 have h := hK5
 refine WO.pn 1 rfl ?_
 refine WO.fin ?_
 refine DN.seq ?_
 refine WC.ret ?_
 have f18 := hE.stp (S3.tr S17) rfl rfl
 refine DN.res (l := [.tmp 4]) Try.results125 (res_tmp rfl rfl) rfl ?_
 obtain rfl := Option.some.inj h
 exact ⟨K16, rfl, f18⟩

/- slices.IndexFunc[[]int64,int64] -/
theorem slices_IndexFunc_I_int64__i_holdsOn_3__i_holdsOn_1_ok {w : World} {κ : Col} {a0 : Option Addr} {u0 : Nat} {p0 : (List Int)} {a1_0_0_1 : Option Addr} {u1_0_0_1 : Nat} {a1_0_0_2 : Option Addr} {u1_0_0_2 : Nat} {c1_0_0 : Clause} {b1_0 : Nat} {b1_0_0 : Nat} (g0 : Rd (Rp.int .i64) κ w 0 a0 u0 p0) (g1_0_0_1 : Rd (Rp.int .i64) κ w 0 a1_0_0_1 u1_0_0_1 c1_0_0.A) (g1_0_0_2 : Rd (Rp.int .i64) κ w 0 a1_0_0_2 u1_0_0_2 c1_0_0.B) (gb1_0 : Bc κ w 0 b1_0 156 [.func (.func 147) #[] #[.pointer (some ⟨b1_0_0, 0, none⟩)]]) (gb1_0_0 : Bc κ w 0 b1_0_0 99 [.int .i64 c1_0_0.Kind, .slice a1_0_0_1 c1_0_0.A.length u1_0_0_1, .slice a1_0_0_2 c1_0_0.B.length u1_0_0_2]) {r : Int} (h : slices_IndexFunc_I_int64__i_holdsOn_3__i_holdsOn_1 p0 c1_0_0 = some r) : Ret Try.prog 150 [.slice a0 p0.length u0, .func (.func 149) #[] #[.pointer (some ⟨b1_0, 0, none⟩)]] w (fun v w' => ∃ (κ' : Col), v = .int .i64 r ∧ Ent κ w κ' w') := by
 unfold slices_IndexFunc_I_int64__i_holdsOn_3__i_holdsOn_1 at h
 refine Ret.enter Try.func150 rfl Try.ntmps150 rfl ?_
 dsimp only [envOf]
 have hE := Ent.refl κ w
 refine WC.seq ?_
 refine WC.rs [(0, 2)] rfl ?_
 refine WO.pn 1 rfl ?_
 refine WO.fin ?_
 refine DN.seq ?_
 refine WC.seq ?_
 refine WC.seq ?_
 refine WC.rs [(0, 2), (1, 2), (2, 2)] rfl ?_
 refine WO.pn 1 rfl ?_
 refine WO.k2 rfl rfl rfl rfl (rn_len Try.runUnderlying28 rfl rfl) ?_
 refine WO.pn 1 rfl ?_
 refine WO.fin ?_
 refine DN.seq ?_
 have hN1 : (p0.length : Int) ≤ 9223372036854775807 := g0.len_le
 obtain ⟨q2, hq3, hK2⟩ := Option.bind_eq_some_iff.mp h
 clear h
 refine WC.meet (fun L w' => ∃ (κ' : Col), L = [(1, .func (.func 149) #[] #[.pointer (some ⟨b1_0, 0, none⟩)])] ∧ Stp [] κ w κ' w' ∧ q2 = Sum.inr ()) ?_ ?_
 ·
  refine WC.block ?_
  refine WC.loop (fun k L w' => ∃ (κ' : Col) (v8 : Int), L = [(0, .slice a0 p0.length u0), (1, .func (.func 149) #[] #[.pointer (some ⟨b1_0, 0, none⟩)]), (7, .int .i64 (p0.length : Int)), (8, .int .i64 v8)] ∧ Stp [] κ w κ' w' ∧ 0 ≤ v8 ∧ Int.toNat ((p0.length : Int) - v8) = k ∧ cntM (slices_IndexFunc_I_int64__i_holdsOn_3__i_holdsOn_1_b0 p0 c1_0_0) k v8 () = some q2) ⟨_, _, ⟨κ, 0, rfl, (Stp.refl _ _).wk rfl, (by decide), (by simp), hq3⟩, fun a ha => (ha.more (ha.more (ha.more (ha.more ha.nil rfl) rfl) rfl) rfl)⟩ ?_
  rintro k _ w7 ⟨K8, v8, rfl, S9, hj1, hJ1, h⟩
  rcases k with _ | k
  ·
   have hk10 := h; obtain ⟨o1, h⟩ := ex_eq (Sum.inr (Sum.inl ()) : Int ⊕ ((Unit) ⊕ (Unit)))
   have hc1 : decide (v8 < (p0.length : Int)) = false := decide_eq_false (by omega)
   refine WC.seq ?_
   refine WC.rs [(0, 2)] rfl ?_
   refine WO.pn 1 rfl ?_
   refine WO.fin ?_
   refine DN.seq ?_
   refine WC.seq ?_
   refine WC.cf' rfl hc1 ?_
   refine WC.exit ?_
   refine DN.exitThen ?_
   refine DN.exitThen ?_
   obtain rfl := Option.some.inj h
   have h := hk10
   refine DN.hit ?_
   obtain rfl := Option.some.inj h
   exact DN.meet _ ⟨K8, rfl, S9.wk rfl, rfl⟩ fun a ha => (ha.more ha.nil rfl)
  ·
   obtain ⟨o1, h, hk10⟩ := Option.bind_eq_some_iff.mp h; unfold slices_IndexFunc_I_int64__i_holdsOn_3__i_holdsOn_1_b0 at h
   have hc1 : decide (v8 < (p0.length : Int)) = true := decide_eq_true (by omega)
   refine WC.seq ?_
   refine WC.rs [(0, 2)] rfl ?_
   refine WO.pn 1 rfl ?_
   refine WO.fin ?_
   refine DN.seq ?_
   refine WC.seq ?_
   refine WC.ct' rfl hc1 ?_
   refine WC.skip ?_
   refine DN.seq ?_
   refine WC.seq ?_
   refine WC.block ?_
   refine WC.seq ?_
   refine WC.rs [(0, 2), (1, 2)] rfl ?_
   refine WO.pn 2 rfl ?_
   refine WO.fin ?_
   refine DN.seq ?_
   refine WC.seq ?_
   refine WC.rs [(0, 2), (1, 2), (2, 2), (3, 2), (4, 1), (5, 1)] rfl ?_
   refine WO.pn 3 rfl ?_
   obtain ⟨x14, hx14, h⟩ := Option.bind_eq_some_iff.mp h
   refine WO.k2 rfl rfl rfl rfl (rn_index g0 hx14 Try.runUnderlying28 Try.sizeOf2 rfl rfl rfl rfl) ?_
   have f11 := g0.stp S9 rfl rfl
   refine WO.k1 trivial rfl rfl rfl rfl (rn_ld Try.isAgg2 rfl rfl (hvE (f11.gInt hx14))) ?_
   obtain ⟨x16, hx16, h⟩ := Option.bind_eq_some_iff.mp h
   have f12 := g1_0_0_1.stp S9 rfl rfl
   have f13 := g1_0_0_2.stp S9 rfl rfl
   have f14 := gb1_0.stp S9 rfl rfl
   have f15 := gb1_0_0.stp S9 rfl rfl
   refine WO.callV rfl rfl rfl rfl rfl rfl rfl rfl Try.call149 (i_holdsOn_3__i_holdsOn_1_ok (κ := fun b => mp [] 0 (K8 b)) (c1_0 := c1_0_0) (Sl.map f12 (mp [] 0) rfl rfl) (Sl.map f13 (mp [] 0) rfl rfl) (f14.map (mp [] 0) rfl rfl) (f15.map (mp [] 0) rfl rfl) hx16) ?_
   rintro _ w16 ⟨k17, rfl, e18⟩
   obtain ⟨K19, S20, m21⟩ := Ent.mixed (l := []) (κ := K8) e18 2 rfl
   refine ⟨trivial, ?_⟩
   refine WO.fin ?_
   refine DN.seq ?_
   revert h
   cases ht23 : x16 with
   | true =>
    intro h; replace h := cT h
    refine WC.ct rfl ?_
    refine WC.seq ?_
    refine WC.rs [(0, 2), (1, 2)] rfl ?_
    refine WO.pn 2 rfl ?_
    refine WO.fin ?_
    refine DN.seq ?_
    refine WC.ret ?_
    refine DN.retBlock ?_
    refine DN.retThen ?_
    refine DN.retThen ?_
    obtain rfl := Option.some.inj h
    obtain rfl := Option.some.inj hk10
    have h := hK2
    dsimp only [aft] at h
    refine DN.retBlock ?_
    refine DN.retMeet ?_
    refine DN.retThen ?_
    have f24 := hE.stp (S9.tr S20) rfl rfl
    refine DN.res (l := [.tmp 4]) Try.results150 (res_tmp rfl rfl) rfl ?_
    obtain rfl := Option.some.inj h
    exact ⟨K19, rfl, f24⟩
   | false =>
    intro h; replace h := cF h
    refine WC.cf rfl ?_
    refine WC.skip ?_
    refine DN.block ?_
    refine DN.seq ?_
    refine WC.rs [(0, 2), (1, 2)] rfl ?_
    refine WO.pn 2 rfl ?_
    refine WO.fin ?_
    have hw1 : IntKind.wrap .i64 (v8 + 1) = v8 + 1 := wr1 hj1 (of_decide_eq_true hc1) hN1
    rw [hw1]
    have hc1 := of_decide_eq_true hc1
    obtain rfl := Option.some.inj h
    refine DN.round fun a ha => ?_
    exact ⟨k, _, Nat.lt_succ_self _, ⟨K19, v8 + 1, rfl, (S9.tr S20).wk rfl, by omega, by omega, hk10⟩, (ha.more (ha.more (ha.more (ha.more ha.nil rfl) rfl) rfl) rfl)⟩
 rintro _ w4 ⟨K5, rfl, S6, rfl⟩
 have h := hK2
 dsimp only [aft] at h
 refine DN.seq ?_
 refine WC.seq ?_
 refine WC.rs [(0, 2)] rfl ?_
 refine WO.pn 1 rfl ?_
 refine WO.fin ?_
 refine DN.seq ?_
 refine WC.ret ?_
 have f25 := hE.stp S6 rfl rfl
 refine DN.res (l := [.tmp 4]) Try.results150 (res_tmp rfl rfl) rfl ?_
 obtain rfl := Option.some.inj h
 exact ⟨K5, rfl, f25⟩

/- slices.ContainsFunc[[]int64,int64] -/
theorem slices_ContainsFunc_I_int64__i_holdsOn_3__i_holdsOn_1_ok {w : World} {κ : Col} {a0 : Option Addr} {u0 : Nat} {p0 : (List Int)} {a1_0_0_1 : Option Addr} {u1_0_0_1 : Nat} {a1_0_0_2 : Option Addr} {u1_0_0_2 : Nat} {c1_0_0 : Clause} {b1_0 : Nat} {b1_0_0 : Nat} (g0 : Rd (Rp.int .i64) κ w 0 a0 u0 p0) (g1_0_0_1 : Rd (Rp.int .i64) κ w 0 a1_0_0_1 u1_0_0_1 c1_0_0.A) (g1_0_0_2 : Rd (Rp.int .i64) κ w 0 a1_0_0_2 u1_0_0_2 c1_0_0.B) (gb1_0 : Bc κ w 0 b1_0 156 [.func (.func 147) #[] #[.pointer (some ⟨b1_0_0, 0, none⟩)]]) (gb1_0_0 : Bc κ w 0 b1_0_0 99 [.int .i64 c1_0_0.Kind, .slice a1_0_0_1 c1_0_0.A.length u1_0_0_1, .slice a1_0_0_2 c1_0_0.B.length u1_0_0_2]) {r : Bool} (h : slices_ContainsFunc_I_int64__i_holdsOn_3__i_holdsOn_1 p0 c1_0_0 = some r) : Ret Try.prog 130 [.slice a0 p0.length u0, .func (.func 149) #[] #[.pointer (some ⟨b1_0, 0, none⟩)]] w (fun v w' => ∃ (κ' : Col), v = .bool r ∧ Ent κ w κ' w') := by
 unfold slices_ContainsFunc_I_int64__i_holdsOn_3__i_holdsOn_1 at h
 refine Ret.enter Try.func130 rfl Try.ntmps130 rfl ?_
 dsimp only [envOf]
 have hE := Ent.refl κ w
 refine WC.seq ?_
 refine WC.rs [(0, 2)] rfl ?_
 refine WO.pn 1 rfl ?_
 refine WO.fin ?_
 refine DN.seq ?_
 refine WC.seq ?_
 refine WC.rs [(0, 2), (1, 2), (2, 1), (3, 2), (4, 2)] rfl ?_
 refine WO.pn 2 rfl ?_
 obtain ⟨x7, hx7, h⟩ := Option.bind_eq_some_iff.mp h
 refine WO.call rfl rfl rfl rfl rfl rfl Try.call150 (slices_IndexFunc_I_int64__i_holdsOn_3__i_holdsOn_1_ok (κ := fun b => mp [] 0 (κ b)) (c1_0_0 := c1_0_0) (Sl.map g0 (mp [] 0) rfl rfl) (Sl.map g1_0_0_1 (mp [] 0) rfl rfl) (Sl.map g1_0_0_2 (mp [] 0) rfl rfl) (gb1_0.map (mp [] 0) rfl rfl) (gb1_0_0.map (mp [] 0) rfl rfl) hx7) ?_
 rintro _ w1 ⟨k2, rfl, e3⟩
 obtain ⟨K4, S5, m6⟩ := Ent.mixed (l := []) (κ := κ) e3 2 rfl
 refine ⟨trivial, ?_⟩
 refine WO.pn 2 rfl ?_
 refine WO.fin ?_
 refine DN.seq ?_
 refine WC.ret ?_
 have f8 := hE.stp S5 rfl rfl
 refine DN.res (l := [.tmp 4]) Try.results130 (res_tmp rfl rfl) rfl ?_
 obtain rfl := Option.some.inj h
 exact ⟨K4, rfl, f8⟩

/- slices.ContainsFunc[[]int64,int64] -/
theorem slices_ContainsFunc_I_int64__i_holdsOn_2_ok {w : World} {κ : Col} {a0 : Option Addr} {u0 : Nat} {p0 : (List Int)} {a1_0_1 : Option Addr} {u1_0_1 : Nat} {a1_0_2 : Option Addr} {u1_0_2 : Nat} {c1_0 : Clause} {b1_0 : Nat} (g0 : Rd (Rp.int .i64) κ w 0 a0 u0 p0) (g1_0_1 : Rd (Rp.int .i64) κ w 0 a1_0_1 u1_0_1 c1_0.A) (g1_0_2 : Rd (Rp.int .i64) κ w 0 a1_0_2 u1_0_2 c1_0.B) (gb1_0 : Bc κ w 0 b1_0 99 [.int .i64 c1_0.Kind, .slice a1_0_1 c1_0.A.length u1_0_1, .slice a1_0_2 c1_0.B.length u1_0_2]) {r : Bool} (h : slices_ContainsFunc_I_int64__i_holdsOn_2 p0 c1_0 = some r) : Ret Try.prog 130 [.slice a0 p0.length u0, .func (.func 148) #[] #[.pointer (some ⟨b1_0, 0, none⟩)]] w (fun v w' => ∃ (κ' : Col), v = .bool r ∧ Ent κ w κ' w') := by
 unfold slices_ContainsFunc_I_int64__i_holdsOn_2 at h
 refine Ret.enter Try.func130 rfl Try.ntmps130 rfl ?_
 dsimp only [envOf]
 have hE := Ent.refl κ w
 refine WC.seq ?_
 refine WC.rs [(0, 2)] rfl ?_
 refine WO.pn 1 rfl ?_
 refine WO.fin ?_
 refine DN.seq ?_
 refine WC.seq ?_
 refine WC.rs [(0, 2), (1, 2), (2, 1), (3, 2), (4, 2)] rfl ?_
 refine WO.pn 2 rfl ?_
 obtain ⟨x7, hx7, h⟩ := Option.bind_eq_some_iff.mp h
 refine WO.call rfl rfl rfl rfl rfl rfl Try.call150 (slices_IndexFunc_I_int64__i_holdsOn_2_ok (κ := fun b => mp [] 0 (κ b)) (c1_0 := c1_0) (Sl.map g0 (mp [] 0) rfl rfl) (Sl.map g1_0_1 (mp [] 0) rfl rfl) (Sl.map g1_0_2 (mp [] 0) rfl rfl) (gb1_0.map (mp [] 0) rfl rfl) hx7) ?_
 rintro _ w1 ⟨k2, rfl, e3⟩
 obtain ⟨K4, S5, m6⟩ := Ent.mixed (l := []) (κ := κ) e3 2 rfl
 refine ⟨trivial, ?_⟩
 refine WO.pn 2 rfl ?_
 refine WO.fin ?_
 refine DN.seq ?_
 refine WC.ret ?_
 have f8 := hE.stp S5 rfl rfl
 refine DN.res (l := [.tmp 4]) Try.results130 (res_tmp rfl rfl) rfl ?_
 obtain rfl := Option.some.inj h
 exact ⟨K4, rfl, f8⟩

/- slices.ContainsFunc[[]int64,int64] -/
theorem slices_ContainsFunc_I_int64__i_holdsOn_1_ok {w : World} {κ : Col} {a0 : Option Addr} {u0 : Nat} {p0 : (List Int)} {a1_0_1 : Option Addr} {u1_0_1 : Nat} {a1_0_2 : Option Addr} {u1_0_2 : Nat} {c1_0 : Clause} {b1_0 : Nat} (g0 : Rd (Rp.int .i64) κ w 0 a0 u0 p0) (g1_0_1 : Rd (Rp.int .i64) κ w 0 a1_0_1 u1_0_1 c1_0.A) (g1_0_2 : Rd (Rp.int .i64) κ w 0 a1_0_2 u1_0_2 c1_0.B) (gb1_0 : Bc κ w 0 b1_0 99 [.int .i64 c1_0.Kind, .slice a1_0_1 c1_0.A.length u1_0_1, .slice a1_0_2 c1_0.B.length u1_0_2]) {r : Bool} (h : slices_ContainsFunc_I_int64__i_holdsOn_1 p0 c1_0 = some r) : Ret Try.prog 130 [.slice a0 p0.length u0, .func (.func 147) #[] #[.pointer (some ⟨b1_0, 0, none⟩)]] w (fun v w' => ∃ (κ' : Col), v = .bool r ∧ Ent κ w κ' w') := by
 unfold slices_ContainsFunc_I_int64__i_holdsOn_1 at h
 refine Ret.enter Try.func130 rfl Try.ntmps130 rfl ?_
 dsimp only [envOf]
 have hE := Ent.refl κ w
 refine WC.seq ?_
 refine WC.rs [(0, 2)] rfl ?_
 refine WO.pn 1 rfl ?_
 refine WO.fin ?_
 refine DN.seq ?_
 refine WC.seq ?_
 refine WC.rs [(0, 2), (1, 2), (2, 1), (3, 2), (4, 2)] rfl ?_
 refine WO.pn 2 rfl ?_
 obtain ⟨x7, hx7, h⟩ := Option.bind_eq_some_iff.mp h
 refine WO.call rfl rfl rfl rfl rfl rfl Try.call150 (slices_IndexFunc_I_int64__i_holdsOn_1_ok (κ := fun b => mp [] 0 (κ b)) (c1_0 := c1_0) (Sl.map g0 (mp [] 0) rfl rfl) (Sl.map g1_0_1 (mp [] 0) rfl rfl) (Sl.map g1_0_2 (mp [] 0) rfl rfl) (gb1_0.map (mp [] 0) rfl rfl) hx7) ?_
 rintro _ w1 ⟨k2, rfl, e3⟩
 obtain ⟨K4, S5, m6⟩ := Ent.mixed (l := []) (κ := κ) e3 2 rfl
 refine ⟨trivial, ?_⟩
 refine WO.pn 2 rfl ?_
 refine WO.fin ?_
 refine DN.seq ?_
 refine WC.ret ?_
 have f8 := hE.stp S5 rfl rfl
 refine DN.res (l := [.tmp 4]) Try.results130 (res_tmp rfl rfl) rfl ?_
 obtain rfl := Option.some.inj h
 exact ⟨K4, rfl, f8⟩

end Go.Proofs.Ytnmjfjppgpkieaa
