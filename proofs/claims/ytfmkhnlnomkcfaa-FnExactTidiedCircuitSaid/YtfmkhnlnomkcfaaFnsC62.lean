/- The walks, part 2. By program. -/
import Derived.Test.YtfmkhnlnomkcfaaFnsC60
set_option linter.unusedVariables false
set_option linter.unusedSimpArgs false
namespace Go.Proofs.Ytfmkhnlnomkcfaa
open Go Go.Wk Go.Proofs
set_option maxRecDepth 100000
set_option maxHeartbeats 1000000

/- loop.example/g00869/spec.l31Literals -/
theorem s_l31Literals_ok {w : World} {κ : Col} {a0 : Option Addr} {u0 : Nat} {p0 : (List Int)} {p1 : Int} (g0 : Rd (Rp.int .i64) κ w 0 a0 u0 p0) {r : Bool} (h : s_l31Literals p0 p1 = some r) : Ret Try.prog 175 [.slice a0 p0.length u0, .int .i64 p1] w (fun v w' => ∃ (κ' : Col), v = .bool r ∧ Ent κ w κ' w') := by
 unfold s_l31Literals at h
 refine Ret.enter Try.func175 rfl Try.ntmps175 rfl ?_
 dsimp only [envOf]
 have hE := Ent.refl κ w
 refine WC.seq ?_
 refine WC.rs [(0, 2)] rfl ?_
 refine WO.pn 1 rfl ?_
 refine WO.fin ?_
 refine DN.seq ?_
 refine WC.seq ?_
 refine WC.seq ?_
 refine WC.rs [(0, 2)] rfl ?_
 refine WO.pn 1 rfl ?_
 refine WO.fin ?_
 refine DN.seq ?_
 have hN1 : (p0.length : Int) ≤ 9223372036854775807 := g0.len_le
 obtain ⟨q2, hq3, hK2⟩ := Option.bind_eq_some_iff.mp h
 clear h
 refine WC.meet (fun L w' => ∃ (κ' : Col), L = [] ∧ Stp [] κ w κ' w' ∧ q2 = Sum.inr ()) ?_ ?_
 ·
  refine WC.block ?_
  refine WC.loop (fun k L w' => ∃ (κ' : Col) (v5 : Int), L = [(0, .slice a0 p0.length u0), (1, .int .i64 p1), (5, .int .i64 v5)] ∧ Stp [] κ w κ' w' ∧ 0 ≤ v5 ∧ Int.toNat ((p0.length : Int) - v5) = k ∧ cntM (s_l31Literals_b0 p0 p1) k v5 () = some q2) ⟨_, _, ⟨κ, 0, rfl, (Stp.refl _ _).wk rfl, (by decide), (by simp), hq3⟩, fun a ha => (ha.more (ha.more (ha.more ha.nil rfl) rfl) rfl)⟩ ?_
  rintro k _ w7 ⟨K8, v5, rfl, S9, hj1, hJ1, h⟩
  rcases k with _ | k
  ·
   have hk10 := h; obtain ⟨o1, h⟩ := ex_eq (Sum.inr (Sum.inl ()) : Bool ⊕ ((Unit) ⊕ (Unit)))
   have hc1 : decide (v5 < (p0.length : Int)) = false := decide_eq_false (by omega)
   refine WC.seq ?_
   refine WC.seq ?_
   refine WC.rs [(0, 2), (1, 2), (2, 2), (3, 2)] rfl ?_
   refine WO.pn 2 rfl ?_
   refine WO.k2 rfl rfl rfl rfl (rn_len Try.runUnderlying22 rfl rfl) ?_
   refine WO.pn 1 rfl ?_
   refine WO.fin ?_
   refine DN.seq ?_
   refine WC.cf' rfl hc1 ?_
   refine WC.exit ?_
   refine DN.exitThen ?_
   refine DN.exitThen ?_
   obtain rfl := Option.some.inj h
   have h := hk10
   refine DN.hit ?_
   obtain rfl := Option.some.inj h
   exact DN.meet _ ⟨K8, rfl, S9.wk rfl, rfl⟩ fun a ha => ha.nil
  ·
   obtain ⟨o1, h, hk10⟩ := Option.bind_eq_some_iff.mp h; unfold s_l31Literals_b0 at h
   have hc1 : decide (v5 < (p0.length : Int)) = true := decide_eq_true (by omega)
   refine WC.seq ?_
   refine WC.seq ?_
   refine WC.rs [(0, 2), (1, 2), (2, 2), (3, 2)] rfl ?_
   refine WO.pn 2 rfl ?_
   refine WO.k2 rfl rfl rfl rfl (rn_len Try.runUnderlying22 rfl rfl) ?_
   refine WO.pn 1 rfl ?_
   refine WO.fin ?_
   refine DN.seq ?_
   refine WC.ct' rfl hc1 ?_
   refine WC.skip ?_
   refine DN.seq ?_
   refine WC.seq ?_
   refine WC.block ?_
   refine WC.seq ?_
   refine WC.rs [(0, 2), (1, 2), (2, 2), (3, 1), (4, 2), (5, 2), (6, 2), (7, 1), (8, 2)] rfl ?_
   refine WO.pn 2 rfl ?_
   obtain ⟨x14, hx14, h⟩ := Option.bind_eq_some_iff.mp h
   refine WO.k2 rfl rfl rfl rfl (rn_index g0 hx14 Try.runUnderlying22 Try.sizeOf2 rfl rfl rfl rfl) ?_
   have f11 := g0.stp S9 rfl rfl
   refine WO.k1 trivial rfl rfl rfl rfl (rn_ld Try.isAgg2 rfl rfl (hvE (f11.gInt hx14))) ?_
   refine WO.pn 3 rfl ?_
   obtain ⟨x19, hx19, h⟩ := Option.bind_eq_some_iff.mp h
   refine WO.call rfl rfl rfl rfl rfl rfl Try.call150 (s_l1In_ok (κ := fun b => mp [] 0 (K8 b)) hx19) ?_
   rintro _ w12 ⟨k13, rfl, e14⟩
   obtain ⟨K15, S16, m17⟩ := Ent.mixed (l := []) (κ := K8) e14 2 rfl
   refine ⟨trivial, ?_⟩
   refine WO.pn 1 rfl ?_
   refine WO.fin ?_
   refine DN.seq ?_
   revert h
   cases ht19 : (!x19) with
   | true =>
    intro h; replace h := cT h
    refine WC.ct rfl ?_
    refine WC.seq ?_
    refine WC.rs [(0, 2)] rfl ?_
    refine WO.pn 1 rfl ?_
    refine WO.fin ?_
    refine DN.seq ?_
    refine WC.ret ?_
    refine DN.retBlock ?_
    refine DN.retThen ?_
    refine DN.retThen ?_
    obtain rfl := Option.some.inj h
    obtain rfl := Option.some.inj hk10
    have h := hK2
    dsimp only [aft] at h
    refine DN.retBlock ?_
    refine DN.retMeet ?_
    refine DN.retThen ?_
    have f20 := hE.stp (S9.tr S16) rfl rfl
    refine DN.res (l := [.tmp 4]) Try.results175 (res_tmp rfl rfl) rfl ?_
    obtain rfl := Option.some.inj h
    exact ⟨K15, rfl, f20⟩
   | false =>
    intro h; replace h := cF h
    refine WC.cf rfl ?_
    refine WC.skip ?_
    refine DN.block ?_
    refine DN.seq ?_
    refine WC.rs [(0, 2), (1, 2), (2, 2)] rfl ?_
    refine WO.pn 3 rfl ?_
    refine WO.fin ?_
    have hw1 : IntKind.wrap .i64 (v5 + 1) = v5 + 1 := wr1 hj1 (of_decide_eq_true hc1) hN1
    rw [hw1]
    have hc1 := of_decide_eq_true hc1
    obtain rfl := Option.some.inj h
    refine DN.round fun a ha => ?_
    exact ⟨k, _, Nat.lt_succ_self _, ⟨K15, v5 + 1, rfl, (S9.tr S16).wk rfl, by omega, by omega, hk10⟩, (ha.more (ha.more (ha.more ha.nil rfl) rfl) rfl)⟩
 rintro _ w4 ⟨K5, rfl, S6, rfl⟩
 have h := hK2
 dsimp only [aft] at h
 refine DN.seq ?_
 refine WC.seq ?_
 refine WC.rs [(0, 2)] rfl ?_
 refine WO.pn 1 rfl ?_
 refine WO.fin ?_
 refine DN.seq ?_
 refine WC.ret ?_
 have f21 := hE.stp S6 rfl rfl
 refine DN.res (l := [.tmp 4]) Try.results175 (res_tmp rfl rfl) rfl ?_
 obtain rfl := Option.some.inj h
 exact ⟨K5, rfl, f21⟩

/- loop.example/g00869/spec.l31Became -/
theorem s_l31Became_ok {w : World} {κ : Col} {a0 : Option Addr} {u0 : Nat} {p0 : (List Int)} {p1 : Int} (g0 : Rd (Rp.int .i64) κ w 0 a0 u0 p0) {r : Int} (h : s_l31Became p0 p1 = some r) : Ret Try.prog 117 [.slice a0 p0.length u0, .int .i64 p1] w (fun v w' => ∃ (κ' : Col), v = .int .i64 r ∧ Ent κ w κ' w') := by
 unfold s_l31Became at h
 refine Ret.enter Try.func117 rfl Try.ntmps117 rfl ?_
 dsimp only [envOf]
 have hE := Ent.refl κ w
 refine WC.seq ?_
 refine WC.rs [(0, 2)] rfl ?_
 refine WO.pn 1 rfl ?_
 refine WO.fin ?_
 refine DN.seq ?_
 refine WC.seq ?_
 refine WC.seq ?_
 refine WC.rs [(0, 2), (1, 2), (2, 2)] rfl ?_
 refine WO.pn 1 rfl ?_
 refine WO.k2 rfl rfl rfl rfl (rn_rem rfl rfl rfl (by decide)) ?_
 refine WO.pn 1 rfl ?_
 refine WO.fin ?_
 refine DN.seq ?_
 revert h
 cases ht1 : ((Int.tmod p1 2) == 1) with
 | true =>
  intro h; replace h := cT h
  refine WC.ct rfl ?_
  refine WC.seq ?_
  refine WC.rs [(0, 2), (1, 2), (2, 2), (3, 2), (4, 1), (5, 1), (6, 2)] rfl ?_
  refine WO.pn 2 rfl ?_
  refine WO.k2 rfl rfl rfl rfl (rn_quo rfl rfl rfl (by decide)) ?_
  obtain ⟨x11, hx11, h⟩ := Option.bind_eq_some_iff.mp h
  refine WO.k2 rfl rfl rfl rfl (rn_index g0 hx11 Try.runUnderlying22 Try.sizeOf2 rfl rfl rfl rfl) ?_
  refine WO.k1 trivial rfl rfl rfl rfl (rn_ld Try.isAgg2 rfl rfl (hvE (g0.gInt hx11))) ?_
  obtain ⟨x13, hx13, h⟩ := Option.bind_eq_some_iff.mp h
  refine WO.call rfl rfl rfl rfl rfl rfl Try.call176 (s_l31Turn_ok (κ := fun b => mp [] 0 (κ b)) hx13) ?_
  rintro _ w2 ⟨k3, rfl, e4⟩
  obtain ⟨K5, S6, m7⟩ := Ent.mixed (l := []) (κ := κ) e4 2 rfl
  refine ⟨trivial, ?_⟩
  refine WO.pn 1 rfl ?_
  refine WO.fin ?_
  refine DN.seq ?_
  refine WC.ret ?_
  refine DN.retThen ?_
  have f9 := hE.stp S6 rfl rfl
  refine DN.res (l := [.tmp 4]) Try.results117 (res_tmp rfl rfl) rfl ?_
  obtain rfl := Option.some.inj h
  exact ⟨K5, rfl, f9⟩
 | false =>
  intro h; replace h := cF h
  refine WC.cf rfl ?_
  refine WC.skip ?_
  refine DN.seq ?_
  refine WC.seq ?_
  refine WC.rs [(0, 2), (1, 2), (2, 2), (3, 2), (4, 1), (5, 2)] rfl ?_
  refine WO.pn 2 rfl ?_
  refine WO.k2 rfl rfl rfl rfl (rn_quo rfl rfl rfl (by decide)) ?_
  obtain ⟨x17, hx17, h⟩ := Option.bind_eq_some_iff.mp h
  refine WO.k2 rfl rfl rfl rfl (rn_index g0 hx17 Try.runUnderlying22 Try.sizeOf2 rfl rfl rfl rfl) ?_
  refine WO.k1 trivial rfl rfl rfl rfl (rn_ld Try.isAgg2 rfl rfl (hvE (g0.gInt hx17))) ?_
  refine WO.pn 1 rfl ?_
  refine WO.fin ?_
  refine DN.seq ?_
  refine WC.ret ?_
  refine DN.res (l := [.tmp 4]) Try.results117 (res_tmp rfl rfl) rfl ?_
  obtain rfl := Option.some.inj h
  exact ⟨κ, rfl, hE⟩

/- loop.example/g00869/spec.l31Join -/
theorem s_l31Join_ok {w : World} {κ : Col} {a0_2 : Option Addr} {u0_2 : Nat} {a0_3 : Option Addr} {u0_3 : Nat} {a0_4 : Option Addr} {u0_4 : Nat} {p0 : Circuit} {p1 : Int} {p2 : Int} (g0_2 : Oc (Ep.int .i64) 2 κ w 2 a0_2 u0_2 p0.Next) (g0_3 : Oc Gate.ep159 159 κ w 3 a0_3 u0_3 p0.Gates) (g0_4 : Oc (Ep.int .i64) 2 κ w 4 a0_4 u0_4 p0.Outs) {r : Circuit × Int} (h : s_l31Join p0 p1 p2 = some r) : Ret Try.prog 116 [.agg #[.int .i64 p0.Inputs, .int .i64 p0.Latches, .slice a0_2 p0.Next.length u0_2, .slice a0_3 p0.Gates.length u0_3, .slice a0_4 p0.Outs.length u0_4], .int .i64 p1, .int .i64 p2] w (fun v w' => ∃ (κ' : Col) (ra0 : Option Addr) (ru0 : Nat) (ra1 : Option Addr) (ru1 : Nat) (ra2 : Option Addr) (ru2 : Nat), v = .tuple #[.agg #[.int .i64 r.1.Inputs, .int .i64 r.1.Latches, .slice ra0 r.1.Next.length ru0, .slice ra1 r.1.Gates.length ru1, .slice ra2 r.1.Outs.length ru2], .int .i64 r.2] ∧ Ent κ w κ' w' ∧ Oc (Ep.int .i64) 2 κ' w' 5 ra0 ru0 r.1.Next ∧ Oc Gate.ep159 159 κ' w' 6 ra1 ru1 r.1.Gates ∧ Oc (Ep.int .i64) 2 κ' w' 7 ra2 ru2 r.1.Outs) := by
 unfold s_l31Join at h
 refine Ret.enter Try.func116 rfl Try.ntmps116 rfl ?_
 dsimp only [envOf]
 have hE := Ent.refl κ w
 refine WC.seq ?_
 refine WC.rs [(0, 1), (1, 1), (2, 2)] rfl ?_
 refine WO.box (κ := κ) 5 rfl rfl rfl rfl rfl rfl rfl fun b3 w1 K2 S3 f4 => ⟨trivial, ?_⟩
 refine WO.alloc (κ := K2) 6 rfl rfl rfl rfl rfl Try.zeroValue57 rfl fun b6 w5 K6 S7 f8 => ⟨trivial, ?_⟩
 refine WO.pn 1 rfl ?_
 refine WO.fin ?_
 refine DN.seq ?_
 refine WC.seq ?_
 refine WC.block ?_
 refine WC.seq ?_
 refine WC.rs [(0, 2), (1, 2), (2, 2), (3, 2), (4, 2), (5, 2), (6, 2), (7, 2), (8, 2), (9, 1), (10, 2), (11, 2), (12, 2)] rfl ?_
 refine WO.pn 3 rfl ?_
 obtain ⟨p16, h, hK9⟩ := Option.bind_eq_some_iff.mp h
 refine WO.meet [(3, 2), (4, 2), (5, 2)] [(6, 2), (7, 2), (8, 2), (9, 1), (10, 2), (11, 2), (12, 2)] (fun L w' => L = [(1, .int .i64 p1), (2, .int .i64 p2), (3, .pointer (some ⟨b3, 0, none⟩)), (6, .pointer (some ⟨b6, 0, none⟩)), (16, .bool p16)] ∧ ∃ κ', Stp [] K6 w5 κ' w') trivial ?_ ?_
 ·
  revert h
  cases ht10 : (p1 == 0) with
  | true =>
   intro h; replace h := cT h
   refine WO.pn 3 rfl ?_
   obtain rfl := Option.some.inj h
   exact WO.met _ trivial ⟨rfl, _, (Stp.refl _ _).wk rfl⟩ fun a ha => (ha.more (ha.more (ha.more (ha.more (ha.more ha.nil rfl) rfl) rfl) rfl) rfl)
  | false =>
   intro h; replace h := cF h
   refine WO.pn 3 rfl ?_
   obtain rfl := Option.some.inj h
   exact WO.met _ trivial ⟨rfl, _, (Stp.refl _ _).wk rfl⟩ fun a ha => (ha.more (ha.more (ha.more (ha.more (ha.more ha.nil rfl) rfl) rfl) rfl) rfl)
 rintro _ w11 _ ⟨rfl, K12, S13⟩
 have h := hK9
 refine WO.pn 1 rfl ?_
 obtain ⟨p22, h, hK14⟩ := Option.bind_eq_some_iff.mp h
 refine WO.meet [(7, 2), (8, 2), (9, 1), (10, 2), (11, 2)] [(12, 2)] (fun L w' => L = [(1, .int .i64 p1), (2, .int .i64 p2), (3, .pointer (some ⟨b3, 0, none⟩)), (6, .pointer (some ⟨b6, 0, none⟩)), (22, .bool p22)] ∧ ∃ κ', Stp [] K12 w11 κ' w') trivial ?_ ?_
 ·
  revert h
  cases ht15 : p16 with
  | true =>
   intro h; replace h := cT h
   refine WO.pn 2 rfl ?_
   refine WO.ls rfl rfl rfl rfl ?_
   refine WO.pn 2 rfl ?_
   obtain rfl := Option.some.inj h
   exact WO.met _ trivial ⟨rfl, _, (Stp.refl _ _).wk rfl⟩ fun a ha => (ha.more (ha.more (ha.more (ha.more (ha.more ha.nil rfl) rfl) rfl) rfl) rfl)
  | false =>
   intro h; replace h := cF h
   refine WO.pn 2 rfl ?_
   obtain ⟨x20, hx20, h⟩ := Option.bind_eq_some_iff.mp h
   refine WO.call rfl rfl rfl rfl rfl rfl Try.call176 (s_l31Turn_ok (κ := fun b => mp [] 0 (K12 b)) hx20) ?_
   rintro _ w16 ⟨k17, rfl, e18⟩
   obtain ⟨K19, S20, m21⟩ := Ent.mixed (l := []) (κ := K12) e18 7 rfl
   refine ⟨trivial, ?_⟩
   refine WO.pn 2 rfl ?_
   obtain rfl := Option.some.inj h
   exact WO.met _ trivial ⟨rfl, _, S20.wk rfl⟩ fun a ha => (ha.more (ha.more (ha.more (ha.more (ha.more ha.nil rfl) rfl) rfl) rfl) rfl)
 rintro _ w23 _ ⟨rfl, K24, S25⟩
 have h := hK14
 refine WO.pn 1 rfl ?_
 refine WO.fin ?_
 refine DN.seq ?_
 revert h
 cases ht26 : p22 with
 | true =>
  intro h; replace h := cT h
  refine WC.ct rfl ?_
  refine WC.seq ?_
  refine WC.rs [(0, 1), (1, 1), (2, 2)] rfl ?_
  have f27 := f4.stp (S7.tr (S13.tr S25)) rfl rfl
  refine WO.k1 trivial rfl rfl rfl rfl (rn_la (cs := [.int .i64 p0.Inputs, .int .i64 p0.Latches, .slice a0_2 p0.Next.length u0_2, .slice a0_3 p0.Gates.length u0_3, .slice a0_4 p0.Outs.length u0_4]) Try.isAgg57 Try.sizeOf57 rfl rfl rfl (haE f27.cells)) ?_
  have f28 := f8.stp (S13.tr S25) rfl rfl
  refine WO.stB0 (κ := K24) 6 (vc := [.int .i64 p0.Inputs, .int .i64 p0.Latches, .slice a0_2 p0.Next.length u0_2, .slice a0_3 p0.Gates.length u0_3, .slice a0_4 p0.Outs.length u0_4]) rfl rfl rfl rfl rfl rfl rfl Try.sizeOf57 rfl rfl f28 rfl fun w29 S30 f31 => ⟨trivial, ?_⟩
  refine WO.pn 1 rfl ?_
  refine WO.fin ?_
  refine DN.seq ?_
  refine WC.ret ?_
  refine DN.retBlock ?_
  refine DN.retThen ?_
  have f32 := hE.stp (S3.tr (S7.tr (S13.tr (S25.tr S30)))) rfl rfl
  have f33 := g0_2.stp (S3.tr (S7.tr (S13.tr (S25.tr S30)))) rfl rfl
  have f34 := g0_3.stp (S3.tr (S7.tr (S13.tr (S25.tr S30)))) rfl rfl
  have f35 := g0_4.stp (S3.tr (S7.tr (S13.tr (S25.tr S30)))) rfl rfl
  refine DN.res (l := [.cell 6 57, .tmp 7]) Try.results116 (res_cellA rfl f31 Try.isAgg57 Try.sizeOf57 rfl (res_tmp rfl rfl)) rfl ?_
  obtain rfl := Option.some.inj h
  exact ⟨(fun b => ren [(2, 5), (3, 6), (4, 7)] (K24 b)), a0_2, u0_2, a0_3, u0_3, a0_4, u0_4, rfl, (f32.map (ren [(2, 5), (3, 6), (4, 7)]) rfl rfl), (f33.map (ren [(2, 5), (3, 6), (4, 7)]) rfl rfl), (f34.map (ren [(2, 5), (3, 6), (4, 7)]) rfl rfl), (f35.map (ren [(2, 5), (3, 6), (4, 7)]) rfl rfl)⟩
 | false =>
  intro h; replace h := cF h
  refine WC.cf rfl ?_
  refine WC.seq ?_
  refine WC.rs [(0, 2), (1, 2), (2, 2)] rfl ?_
  refine WO.pn 3 rfl ?_
  refine WO.fin ?_
  refine DN.seq ?_
  revert h
  cases ht36 : (p1 == 1) with
  | true =>
   intro h; replace h := cT h
   refine WC.ct rfl ?_
   refine WC.seq ?_
   refine WC.rs [(0, 1), (1, 2), (2, 1), (3, 2)] rfl ?_
   have f37 := f4.stp (S7.tr (S13.tr S25)) rfl rfl
   refine WO.k1 trivial rfl rfl rfl rfl (rn_la (cs := [.int .i64 p0.Inputs, .int .i64 p0.Latches, .slice a0_2 p0.Next.length u0_2, .slice a0_3 p0.Gates.length u0_3, .slice a0_4 p0.Outs.length u0_4]) Try.isAgg57 Try.sizeOf57 rfl rfl rfl (haE f37.cells)) ?_
   refine WO.pn 1 rfl ?_
   have f38 := f8.stp (S13.tr S25) rfl rfl
   refine WO.stB0 (κ := K24) 6 (vc := [.int .i64 p0.Inputs, .int .i64 p0.Latches, .slice a0_2 p0.Next.length u0_2, .slice a0_3 p0.Gates.length u0_3, .slice a0_4 p0.Outs.length u0_4]) rfl rfl rfl rfl rfl rfl rfl Try.sizeOf57 rfl rfl f38 rfl fun w39 S40 f41 => ⟨trivial, ?_⟩
   refine WO.pn 1 rfl ?_
   refine WO.fin ?_
   refine DN.seq ?_
   refine WC.ret ?_
   refine DN.retBlock ?_
   refine DN.retThen ?_
   have f42 := hE.stp (S3.tr (S7.tr (S13.tr (S25.tr S40)))) rfl rfl
   have f43 := g0_2.stp (S3.tr (S7.tr (S13.tr (S25.tr S40)))) rfl rfl
   have f44 := g0_3.stp (S3.tr (S7.tr (S13.tr (S25.tr S40)))) rfl rfl
   have f45 := g0_4.stp (S3.tr (S7.tr (S13.tr (S25.tr S40)))) rfl rfl
   refine DN.res (l := [.cell 6 57, .tmp 7]) Try.results116 (res_cellA rfl f41 Try.isAgg57 Try.sizeOf57 rfl (res_tmp rfl rfl)) rfl ?_
   obtain rfl := Option.some.inj h
   exact ⟨(fun b => ren [(2, 5), (3, 6), (4, 7)] (K24 b)), a0_2, u0_2, a0_3, u0_3, a0_4, u0_4, rfl, (f42.map (ren [(2, 5), (3, 6), (4, 7)]) rfl rfl), (f43.map (ren [(2, 5), (3, 6), (4, 7)]) rfl rfl), (f44.map (ren [(2, 5), (3, 6), (4, 7)]) rfl rfl), (f45.map (ren [(2, 5), (3, 6), (4, 7)]) rfl rfl)⟩
  | false =>
   intro h; replace h := cF h
   refine WC.cf rfl ?_
   refine WC.seq ?_
   refine WC.rs [(0, 2), (1, 2), (2, 2), (3, 2), (4, 2), (5, 2), (6, 2), (7, 2)] rfl ?_
   refine WO.pn 3 rfl ?_
   obtain ⟨p36, h, hK46⟩ := Option.bind_eq_some_iff.mp h
   refine WO.meet [(3, 2), (4, 2), (5, 2), (6, 2)] [(7, 2)] (fun L w' => L = [(1, .int .i64 p1), (2, .int .i64 p2), (3, .pointer (some ⟨b3, 0, none⟩)), (6, .pointer (some ⟨b6, 0, none⟩)), (36, .bool p36)] ∧ ∃ κ', Stp [] K24 w23 κ' w') trivial ?_ ?_
   ·
    revert h
    cases ht47 : (p2 == 1) with
    | true =>
     intro h; replace h := cT h
     refine WO.pn 4 rfl ?_
     obtain rfl := Option.some.inj h
     exact WO.met _ trivial ⟨rfl, _, (Stp.refl _ _).wk rfl⟩ fun a ha => (ha.more (ha.more (ha.more (ha.more (ha.more ha.nil rfl) rfl) rfl) rfl) rfl)
    | false =>
     intro h; replace h := cF h
     refine WO.pn 4 rfl ?_
     obtain rfl := Option.some.inj h
     exact WO.met _ trivial ⟨rfl, _, (Stp.refl _ _).wk rfl⟩ fun a ha => (ha.more (ha.more (ha.more (ha.more (ha.more ha.nil rfl) rfl) rfl) rfl) rfl)
   rintro _ w48 _ ⟨rfl, K49, S50⟩
   have h := hK46
   refine WO.pn 1 rfl ?_
   refine WO.fin ?_
   refine DN.seq ?_
   revert h
   cases ht51 : p36 with
   | true =>
    intro h; replace h := cT h
    refine WC.ct rfl ?_
    refine WC.seq ?_
    refine WC.rs [(0, 1), (1, 2), (2, 1), (3, 2)] rfl ?_
    have f52 := f4.stp (S7.tr (S13.tr (S25.tr S50))) rfl rfl
    refine WO.k1 trivial rfl rfl rfl rfl (rn_la (cs := [.int .i64 p0.Inputs, .int .i64 p0.Latches, .slice a0_2 p0.Next.length u0_2, .slice a0_3 p0.Gates.length u0_3, .slice a0_4 p0.Outs.length u0_4]) Try.isAgg57 Try.sizeOf57 rfl rfl rfl (haE f52.cells)) ?_
    refine WO.pn 1 rfl ?_
    have f53 := f8.stp (S13.tr (S25.tr S50)) rfl rfl
    refine WO.stB0 (κ := K49) 6 (vc := [.int .i64 p0.Inputs, .int .i64 p0.Latches, .slice a0_2 p0.Next.length u0_2, .slice a0_3 p0.Gates.length u0_3, .slice a0_4 p0.Outs.length u0_4]) rfl rfl rfl rfl rfl rfl rfl Try.sizeOf57 rfl rfl f53 rfl fun w54 S55 f56 => ⟨trivial, ?_⟩
    refine WO.pn 1 rfl ?_
    refine WO.fin ?_
    refine DN.seq ?_
    refine WC.ret ?_
    refine DN.retBlock ?_
    refine DN.retThen ?_
    have f57 := hE.stp (S3.tr (S7.tr (S13.tr (S25.tr (S50.tr S55))))) rfl rfl
    have f58 := g0_2.stp (S3.tr (S7.tr (S13.tr (S25.tr (S50.tr S55))))) rfl rfl
    have f59 := g0_3.stp (S3.tr (S7.tr (S13.tr (S25.tr (S50.tr S55))))) rfl rfl
    have f60 := g0_4.stp (S3.tr (S7.tr (S13.tr (S25.tr (S50.tr S55))))) rfl rfl
    refine DN.res (l := [.cell 6 57, .tmp 7]) Try.results116 (res_cellA rfl f56 Try.isAgg57 Try.sizeOf57 rfl (res_tmp rfl rfl)) rfl ?_
    obtain rfl := Option.some.inj h
    exact ⟨(fun b => ren [(2, 5), (3, 6), (4, 7)] (K49 b)), a0_2, u0_2, a0_3, u0_3, a0_4, u0_4, rfl, (f57.map (ren [(2, 5), (3, 6), (4, 7)]) rfl rfl), (f58.map (ren [(2, 5), (3, 6), (4, 7)]) rfl rfl), (f59.map (ren [(2, 5), (3, 6), (4, 7)]) rfl rfl), (f60.map (ren [(2, 5), (3, 6), (4, 7)]) rfl rfl)⟩
   | false =>
    intro h; replace h := cF h
    refine WC.cf rfl ?_
    refine WC.skip ?_
    refine DN.block ?_
    refine DN.seq ?_
    refine WC.seq ?_
    refine WC.rs [(0, 2), (1, 2), (2, 1), (3, 2), (4, 2), (5, 1), (6, 2), (7, 1), (8, 1)] rfl ?_
    refine WO.pn 2 rfl ?_
    obtain ⟨x41, hx41, h⟩ := Option.bind_eq_some_iff.mp h
    refine WO.call rfl rfl rfl rfl rfl rfl Try.call177 (s_l1Min_ok (κ := fun b => mp [] 0 (K49 b)) hx41) ?_
    rintro _ w61 ⟨k62, rfl, e63⟩
    obtain ⟨K64, S65, m66⟩ := Ent.mixed (l := []) (κ := K49) e63 7 rfl
    refine ⟨trivial, ?_⟩
    refine WO.pn 2 rfl ?_
    obtain ⟨x44, hx44, h⟩ := Option.bind_eq_some_iff.mp h
    refine WO.call rfl rfl rfl rfl rfl rfl Try.call178 (s_l1Max_ok (κ := fun b => mp [] 0 (K64 b)) hx44) ?_
    rintro _ w68 ⟨k69, rfl, e70⟩
    obtain ⟨K71, S72, m73⟩ := Ent.mixed (l := []) (κ := K64) e70 9 rfl
    refine ⟨trivial, ?_⟩
    refine WO.k2 rfl rfl rfl rfl (rn_build (parts := [(0, .tmp 41), (1, .tmp 44)]) (cells := [.int .i64 x41, .int .i64 x44]) rfl rfl (by kernel_rfl)) ?_
    refine WO.alloc (κ := K71) 11 rfl rfl rfl rfl rfl Try.zeroValue159 rfl fun b8 w75 K76 S77 f78 => ⟨trivial, ?_⟩
    refine WO.stB0 (κ := K76) 11 (vc := [.int .i64 x41, .int .i64 x44]) rfl rfl rfl rfl rfl rfl rfl Try.sizeOf159 rfl rfl f78 rfl fun w79 S80 f81 => ⟨trivial, ?_⟩
    refine WO.fin ?_
    refine DN.seq ?_
    refine WC.seq ?_
    refine WC.seq ?_
    refine WC.rs [(0, 2)] rfl ?_
    refine WO.pn 1 rfl ?_
    refine WO.fin ?_
    refine DN.seq ?_
    have hN82 : (p0.Gates.length : Int) ≤ 9223372036854775807 := g0_3.len_le
    obtain ⟨q2, hq84, hK83⟩ := Option.bind_eq_some_iff.mp h
    clear h
    refine WC.meet (fun L w' => ∃ (κ' : Col), L = [(3, .pointer (some ⟨b3, 0, none⟩)), (6, .pointer (some ⟨b6, 0, none⟩)), (8, .pointer (some ⟨b8, 0, none⟩))] ∧ Stp [] K76 w79 κ' w' ∧ q2 = Sum.inr ()) ?_ ?_
    ·
     refine WC.block ?_
     refine WC.loop (fun k L w' => ∃ (κ' : Col) (v9 : Int), L = [(3, .pointer (some ⟨b3, 0, none⟩)), (6, .pointer (some ⟨b6, 0, none⟩)), (8, .pointer (some ⟨b8, 0, none⟩)), (9, .int .i64 v9)] ∧ Stp [] K76 w79 κ' w' ∧ 0 ≤ v9 ∧ Int.toNat ((p0.Gates.length : Int) - v9) = k ∧ cntM (s_l31Join_b1 p0 x41 x44) k v9 () = some q2) ⟨_, _, ⟨K76, 0, rfl, (Stp.refl _ _).wk rfl, (by decide), (by simp), hq84⟩, fun a ha => (ha.more (ha.more (ha.more (ha.more ha.nil rfl) rfl) rfl) rfl)⟩ ?_
     rintro k _ w88 ⟨K89, v9, rfl, S90, hj82, hJ82, h⟩
     rcases k with _ | k
     ·
      have hk91 := h; obtain ⟨o82, h⟩ := ex_eq (Sum.inr (Sum.inl ()) : (Circuit × Int) ⊕ ((Unit) ⊕ (Unit)))
      have hc82 : decide (v9 < (p0.Gates.length : Int)) = false := decide_eq_false (by omega)
      refine WC.seq ?_
      refine WC.seq ?_
      refine WC.rs [(0, 2), (1, 2), (2, 1), (3, 2), (4, 2)] rfl ?_
      refine WO.pn 1 rfl ?_
      refine WO.k2 rfl rfl rfl rfl (rn_fieldAddr Try.runUnderlying57 rfl Try.sizeOf55 rfl rfl) ?_
      have f92 := f4.stp (S7.tr (S13.tr (S25.tr (S50.tr (S65.tr (S72.tr (S77.tr (S80.tr S90)))))))) rfl rfl
      refine WO.k1 trivial rfl rfl rfl rfl (rn_ld Try.isAgg55 rfl rfl (hvE (f92.ld 3 rfl rfl))) ?_
      refine WO.k2 rfl rfl rfl rfl (rn_len Try.runUnderlying55 rfl rfl) ?_
      refine WO.pn 1 rfl ?_
      refine WO.fin ?_
      refine DN.seq ?_
      refine WC.cf' rfl hc82 ?_
      refine WC.exit ?_
      refine DN.exitThen ?_
      refine DN.exitThen ?_
      obtain rfl := Option.some.inj h
      have h := hk91
      refine DN.hit ?_
      obtain rfl := Option.some.inj h
      exact DN.meet _ ⟨K89, rfl, S90.wk rfl, rfl⟩ fun a ha => (ha.more (ha.more (ha.more ha.nil rfl) rfl) rfl)
     ·
      obtain ⟨o82, h, hk91⟩ := Option.bind_eq_some_iff.mp h; unfold s_l31Join_b1 at h
      have hc82 : decide (v9 < (p0.Gates.length : Int)) = true := decide_eq_true (by omega)
      refine WC.seq ?_
      refine WC.seq ?_
      refine WC.rs [(0, 2), (1, 2), (2, 1), (3, 2), (4, 2)] rfl ?_
      refine WO.pn 1 rfl ?_
      refine WO.k2 rfl rfl rfl rfl (rn_fieldAddr Try.runUnderlying57 rfl Try.sizeOf55 rfl rfl) ?_
      have f93 := f4.stp (S7.tr (S13.tr (S25.tr (S50.tr (S65.tr (S72.tr (S77.tr (S80.tr S90)))))))) rfl rfl
      refine WO.k1 trivial rfl rfl rfl rfl (rn_ld Try.isAgg55 rfl rfl (hvE (f93.ld 3 rfl rfl))) ?_
      refine WO.k2 rfl rfl rfl rfl (rn_len Try.runUnderlying55 rfl rfl) ?_
      refine WO.pn 1 rfl ?_
      refine WO.fin ?_
      refine DN.seq ?_
      refine WC.ct' rfl hc82 ?_
      refine WC.skip ?_
      refine DN.seq ?_
      refine WC.seq ?_
      refine WC.block ?_
      refine WC.seq ?_
      refine WC.rx (κ := K89) [0, 3, 5, 11] none [(0, 2), (2, 2), (1, 0), (3, 2), (4, 0), (5, 0), (6, 2), (7, 2), (8, 2), (10, 2), (14, 2), (9, 0), (11, 2), (12, 2), (13, 0), (15, 0), (16, 2), (17, 2), (18, 2), (20, 2), (24, 2), (19, 0), (21, 2), (22, 2), (23, 0), (25, 0), (26, 2), (27, 2), (28, 2)] [] (by kernel_rfl) (by kernel_rfl) fun w95 S94 => ?_
      refine WO.k2 rfl rfl rfl rfl (rn_fieldAddr Try.runUnderlying57 rfl Try.sizeOf55 rfl rfl) ?_
      refine WO.pn 1 rfl ?_
      have f96 := f93.stp S94 rfl rfl
      refine WO.k0 rfl rfl rfl rfl (rn_ld Try.isAgg55 rfl rfl (hvC (f96.ld 3 rfl rfl) rfl)) ?_
      obtain ⟨x56, hx56, h⟩ := Option.bind_eq_some_iff.mp h
      refine WO.k2 rfl rfl rfl rfl (rn_index g0_3.rdc hx56 Try.runUnderlying55 Try.sizeOf159 rfl rfl rfl rfl) ?_
      have f97 := g0_3.stp (S3.tr (S7.tr (S13.tr (S25.tr (S50.tr (S65.tr (S72.tr (S77.tr (S80.tr (S90.tr S94)))))))))) rfl rfl
      obtain ⟨cse98, hre98, hle98⟩ := (f97.rdc).gSt hx56
      obtain rfl := Gate.un hre98
      refine WO.k0 rfl rfl rfl rfl (rn_la (cs := [.int .i64 x56.A, .int .i64 x56.B]) Try.isAgg159 Try.sizeOf159 rfl rfl rfl (haC hle98 rfl)) ?_
      have f99 := f81.stp (S90.tr S94) rfl rfl
      refine WO.k0 rfl rfl rfl rfl (rn_la (cs := [.int .i64 x41, .int .i64 x44]) Try.isAgg159 Try.sizeOf159 rfl rfl rfl (haC f99.cells rfl)) ?_
      refine WO.k2 rfl rfl rfl rfl (rn_eqlS2 Try.underlying159 (by kernel_rfl) (by kernel_rfl) rfl rfl rfl rfl Try.isAgg2 Try.isAgg2 Try.runUnderlying2 Try.runUnderlying2 rfl rfl rfl) ?_
      refine WO.pn 1 rfl ?_
      obtain ⟨p81, h, hK100⟩ := Option.bind_eq_some_iff.mp h
      refine WO.meet [(8, 2), (10, 2), (14, 2), (9, 0), (11, 2), (12, 2), (13, 0), (15, 0), (16, 2), (17, 2), (18, 2), (20, 2), (24, 2), (19, 0), (21, 2), (22, 2), (23, 0), (25, 0), (26, 2), (27, 2), (28, 2)] [] (fun L w' => L = [(3, .pointer (some ⟨b3, 0, none⟩)), (6, .pointer (some ⟨b6, 0, none⟩)), (8, .pointer (some ⟨b8, 0, none⟩)), (9, .int .i64 v9), (81, .bool p81)] ∧ ∃ κ', Stp [] K89 w95 κ' w') (Cl.refl _ _ _) ?_ ?_
      ·
       revert h
       cases ht101 : ((x56.A == x41) && (x56.B == x44)) with
       | true =>
        intro h; replace h := cT h
        refine WO.pn 3 rfl ?_
        refine WO.qs rfl rfl rfl rfl ?_
        refine WO.pn 2 rfl ?_
        refine WO.qs rfl rfl rfl rfl ?_
        refine WO.qs rfl rfl rfl rfl ?_
        refine WO.pn 5 rfl ?_
        refine WO.qs rfl rfl rfl rfl ?_
        refine WO.pn 2 rfl ?_
        refine WO.qs rfl rfl rfl rfl ?_
        refine WO.qs rfl rfl rfl rfl ?_
        refine WO.pn 3 rfl ?_
        obtain rfl := Option.some.inj h
        exact WO.met _ (Cl.refl _ _ _) ⟨rfl, _, (Stp.refl _ _).wk rfl⟩ fun a ha => (ha.more (ha.more (ha.more (ha.more (ha.more ha.nil rfl) rfl) rfl) rfl) rfl)
       | false =>
        intro h; replace h := cF h
        refine WO.k2 rfl rfl rfl rfl (rn_fieldAddr Try.runUnderlying57 rfl Try.sizeOf55 rfl rfl) ?_
        refine WO.pn 1 rfl ?_
        refine WO.k2 rfl rfl rfl rfl (rn_fieldAddr Try.runUnderlying159 rfl Try.sizeOf2 rfl rfl) ?_
        refine WO.k0 rfl rfl rfl rfl (rn_ld Try.isAgg55 rfl rfl (hvC (f96.ld 3 rfl rfl) rfl)) ?_
        obtain ⟨x64, hx64, h⟩ := Option.bind_eq_some_iff.mp h
        refine WO.k2 rfl rfl rfl rfl (rn_index f97.rdc hx64 Try.runUnderlying55 Try.sizeOf159 rfl rfl rfl rfl) ?_
        refine WO.k2 rfl rfl rfl rfl (rn_fieldAddr Try.runUnderlying159 rfl Try.sizeOf2 rfl rfl) ?_
        obtain ⟨cse102, hre102, hle102⟩ := (f97.rdc).gSt hx64
        obtain rfl := Gate.un hre102
        refine WO.k0 rfl rfl rfl rfl (rn_ld Try.isAgg2 rfl rfl (hvC (fun w' hw' => hle102 w' hw' 0 _ rfl) rfl)) ?_
        refine WO.k0 rfl rfl rfl rfl (rn_ld Try.isAgg2 rfl rfl (hvC (f99.ld 1 rfl rfl) rfl)) ?_
        refine WO.pn 2 rfl ?_
        obtain ⟨p80, h, hK103⟩ := Option.bind_eq_some_iff.mp h
        refine WO.meet [(18, 2), (20, 2), (24, 2), (19, 0), (21, 2), (22, 2), (23, 0), (25, 0), (26, 2), (27, 2)] [(28, 2)] (fun L w' => L = [(3, .pointer (some ⟨b3, 0, none⟩)), (6, .pointer (some ⟨b6, 0, none⟩)), (8, .pointer (some ⟨b8, 0, none⟩)), (9, .int .i64 v9), (60, .bool false), (61, .pointer (some ((⟨b3, 0, none⟩ : Addr).add 3))), (62, .slice a0_3 p0.Gates.length u0_3), (63, .int .i64 v9), (64, .pointer (some (aAt a0_3 (v9.toNat * 2)))), (65, .pointer (some ((aAt a0_3 (v9.toNat * 2)).add 0))), (66, .int .i64 x64.A), (67, .pointer (some ((⟨b8, 0, none⟩ : Addr).add 1))), (68, .int .i64 x44), (69, .bool (x64.A == x44)), (70, .bool (x64.A == x44)), (80, .bool p80)] ∧ ∃ κ', Stp [] K89 w95 κ' w') (Cl.refl _ _ _) ?_ ?_
        ·
         revert h
         cases ht104 : (x64.A == x44) with
         | true =>
          intro h; replace h := cT h
          refine WO.k2 rfl rfl rfl rfl (rn_fieldAddr Try.runUnderlying57 rfl Try.sizeOf55 rfl rfl) ?_
          refine WO.pn 1 rfl ?_
          refine WO.k2 rfl rfl rfl rfl (rn_fieldAddr Try.runUnderlying159 rfl Try.sizeOf2 rfl rfl) ?_
          refine WO.k0 rfl rfl rfl rfl (rn_ld Try.isAgg55 rfl rfl (hvC (f96.ld 3 rfl rfl) rfl)) ?_
          obtain ⟨x74, hx74, h⟩ := Option.bind_eq_some_iff.mp h
          refine WO.k2 rfl rfl rfl rfl (rn_index f97.rdc hx74 Try.runUnderlying55 Try.sizeOf159 rfl rfl rfl rfl) ?_
          refine WO.k2 rfl rfl rfl rfl (rn_fieldAddr Try.runUnderlying159 rfl Try.sizeOf2 rfl rfl) ?_
          obtain ⟨cse105, hre105, hle105⟩ := (f97.rdc).gSt hx74
          obtain rfl := Gate.un hre105
          refine WO.k0 rfl rfl rfl rfl (rn_ld Try.isAgg2 rfl rfl (hvC (fun w' hw' => hle105 w' hw' 1 _ rfl) rfl)) ?_
          refine WO.k0 rfl rfl rfl rfl (rn_ld Try.isAgg2 rfl rfl (hvC (f99.ld 0 rfl rfl) rfl)) ?_
          refine WO.pn 2 rfl ?_
          obtain rfl := Option.some.inj h
          exact WO.met _ (Cl.refl _ _ _) ⟨rfl, _, (Stp.refl _ _).wk rfl⟩ fun a ha => (ha.more (ha.more (ha.more (ha.more (ha.more (ha.more (ha.more (ha.more (ha.more (ha.more (ha.more (ha.more (ha.more (ha.more (ha.more (ha.more ha.nil rfl) rfl) rfl) rfl) rfl) rfl) rfl) rfl) rfl) rfl) rfl) rfl) rfl) rfl) rfl) rfl)
         | false =>
          intro h; replace h := cF h
          refine WO.pn 3 rfl ?_
          refine WO.qs rfl rfl rfl rfl ?_
          refine WO.pn 2 rfl ?_
          refine WO.qs rfl rfl rfl rfl ?_
          refine WO.qs rfl rfl rfl rfl ?_
          refine WO.pn 2 rfl ?_
          obtain rfl := Option.some.inj h
          exact WO.met _ (Cl.refl _ _ _) ⟨rfl, _, (Stp.refl _ _).wk rfl⟩ fun a ha => (ha.more (ha.more (ha.more (ha.more (ha.more (ha.more (ha.more (ha.more (ha.more (ha.more (ha.more (ha.more (ha.more (ha.more (ha.more (ha.more ha.nil rfl) rfl) rfl) rfl) rfl) rfl) rfl) rfl) rfl) rfl) rfl) rfl) rfl) rfl) rfl) rfl)
        rintro _ w106 _ ⟨rfl, K107, S108⟩
        have h := hK103
        refine WO.pn 1 rfl ?_
        obtain rfl := Option.some.inj h
        exact WO.met _ (S108.cl rfl) ⟨rfl, _, S108.wk rfl⟩ fun a ha => (ha.more (ha.more (ha.more (ha.more (ha.more ha.nil rfl) rfl) rfl) rfl) rfl)
      rintro _ w109 _ ⟨rfl, K110, S111⟩
      have h := hK100
      refine WO.nx ?_
      refine WO.fin ?_
      refine DN.seq ?_
      revert h
      cases ht112 : p81 with
      | true =>
       intro h; replace h := cT h
       refine WC.ct rfl ?_
       refine WC.seq ?_
       refine WC.rx (κ := K110) [5] none [(1, 2), (4, 2), (7, 2), (0, 0), (2, 0), (3, 2), (5, 0), (6, 2), (8, 2), (9, 2), (10, 1), (11, 2)] [] (by kernel_rfl) (by kernel_rfl) fun w114 S113 => ?_
       refine WO.k2 rfl rfl rfl rfl (rn_fieldAddr Try.runUnderlying57 rfl Try.sizeOf2 rfl rfl) ?_
       refine WO.k2 rfl rfl rfl rfl (rn_fieldAddr Try.runUnderlying57 rfl Try.sizeOf2 rfl rfl) ?_
       refine WO.pn 1 rfl ?_
       have f115 := f96.stp (S111.tr S113) rfl rfl
       refine WO.k0 rfl rfl rfl rfl (rn_la (cs := [.int .i64 p0.Inputs, .int .i64 p0.Latches, .slice a0_2 p0.Next.length u0_2, .slice a0_3 p0.Gates.length u0_3, .slice a0_4 p0.Outs.length u0_4]) Try.isAgg57 Try.sizeOf57 rfl rfl rfl (haC f115.cells rfl)) ?_
       refine WO.k0 rfl rfl rfl rfl (rn_ld Try.isAgg2 rfl rfl (hvC (f115.ld 0 rfl rfl) rfl)) ?_
       refine WO.pn 1 rfl ?_
       refine WO.k0 rfl rfl rfl rfl (rn_ld Try.isAgg2 rfl rfl (hvC (f115.ld 1 rfl rfl) rfl)) ?_
       refine WO.pn 3 rfl ?_
       have f116 := f8.stp (S13.tr (S25.tr (S50.tr (S65.tr (S72.tr (S77.tr (S80.tr (S90.tr (S94.tr (S111.tr S113)))))))))) rfl rfl
       refine WO.stB0 (κ := K110) 6 (vc := [.int .i64 p0.Inputs, .int .i64 p0.Latches, .slice a0_2 p0.Next.length u0_2, .slice a0_3 p0.Gates.length u0_3, .slice a0_4 p0.Outs.length u0_4]) rfl rfl rfl rfl rfl rfl rfl Try.sizeOf57 rfl rfl f116 rfl fun w117 S118 f119 => ⟨(S118.cl rfl), ?_⟩
       refine WO.pn 1 rfl ?_
       refine WO.nx ?_
       refine WO.fin ?_
       refine DN.seq ?_
       refine WC.ret ?_
       refine DN.retBlock ?_
       refine DN.retThen ?_
       refine DN.retThen ?_
       obtain rfl := Option.some.inj h
       obtain rfl := Option.some.inj hk91
       have h := hK83
       dsimp only [aft] at h
       refine DN.retBlock ?_
       refine DN.retMeet ?_
       refine DN.retThen ?_
       have f120 := hE.stp (S3.tr (S7.tr (S13.tr (S25.tr (S50.tr (S65.tr (S72.tr (S77.tr (S80.tr (S90.tr (S94.tr (S111.tr (S113.tr S118))))))))))))) rfl rfl
       have f121 := g0_2.stp (S3.tr (S7.tr (S13.tr (S25.tr (S50.tr (S65.tr (S72.tr (S77.tr (S80.tr (S90.tr (S94.tr (S111.tr (S113.tr S118))))))))))))) rfl rfl
       have f122 := f97.stp (S111.tr (S113.tr S118)) rfl rfl
       have f123 := g0_4.stp (S3.tr (S7.tr (S13.tr (S25.tr (S50.tr (S65.tr (S72.tr (S77.tr (S80.tr (S90.tr (S94.tr (S111.tr (S113.tr S118))))))))))))) rfl rfl
       refine DN.res (l := [.cell 6 57, .tmp 7]) Try.results116 (res_cellA rfl f119 Try.isAgg57 Try.sizeOf57 rfl (res_tmp rfl rfl)) rfl ?_
       obtain rfl := Option.some.inj h
       exact ⟨(fun b => ren [(2, 5), (3, 6), (4, 7)] (K110 b)), a0_2, u0_2, a0_3, u0_3, a0_4, u0_4, rfl, (f120.map (ren [(2, 5), (3, 6), (4, 7)]) rfl rfl), (f121.map (ren [(2, 5), (3, 6), (4, 7)]) rfl rfl), (f122.map (ren [(2, 5), (3, 6), (4, 7)]) rfl rfl), (f123.map (ren [(2, 5), (3, 6), (4, 7)]) rfl rfl)⟩
      | false =>
       intro h; replace h := cF h
       refine WC.cf rfl ?_
       refine WC.skip ?_
       refine DN.block ?_
       refine DN.seq ?_
       refine WC.rs [(0, 2), (1, 2), (2, 2)] rfl ?_
       refine WO.pn 3 rfl ?_
       refine WO.fin ?_
       have hw82 : IntKind.wrap .i64 (v9 + 1) = v9 + 1 := wr1 hj82 (of_decide_eq_true hc82) hN82
       rw [hw82]
       have hc82 := of_decide_eq_true hc82
       obtain rfl := Option.some.inj h
       refine DN.round fun a ha => ?_
       exact ⟨k, _, Nat.lt_succ_self _, ⟨K110, v9 + 1, rfl, (S90.tr (S94.tr S111)).wk rfl, by omega, by omega, hk91⟩, (ha.more (ha.more (ha.more (ha.more ha.nil rfl) rfl) rfl) rfl)⟩
    rintro _ w85 ⟨K86, rfl, S87, rfl⟩
    have h := hK83
    dsimp only [aft] at h
    refine DN.seq ?_
    refine WC.seq ?_
    refine WC.seq ?_
    refine WC.rs [(0, 2), (1, 1), (2, 2), (3, 2)] rfl ?_
    refine WO.k2 rfl rfl rfl rfl (rn_fieldAddr Try.runUnderlying57 rfl Try.sizeOf55 rfl rfl) ?_
    have f124 := f4.stp (S7.tr (S13.tr (S25.tr (S50.tr (S65.tr (S72.tr (S77.tr (S80.tr S87)))))))) rfl rfl
    refine WO.k1 trivial rfl rfl rfl rfl (rn_ld Try.isAgg55 rfl rfl (hvE (f124.ld 3 rfl rfl))) ?_
    refine WO.k2 rfl rfl rfl rfl (rn_len Try.runUnderlying55 rfl rfl) ?_
    refine WO.pn 1 rfl ?_
    refine WO.fin ?_
    refine DN.seq ?_
    revert h
    cases ht125 : decide (8000 ≤ (p0.Gates.length : Int)) with
    | true =>
     intro h; replace h := cT h
     refine WC.ct rfl ?_
     refine WC.seq ?_
     refine WC.rs [(0, 2), (1, 1), (2, 2)] rfl ?_
     refine WO.k2 rfl rfl rfl rfl (rn_build (parts := []) (cells := [.int .i64 0, .int .i64 0, .slice none 0 0, .slice none 0 0, .slice none 0 0]) rfl rfl (by kernel_rfl)) ?_
     have f126 := f8.stp (S13.tr (S25.tr (S50.tr (S65.tr (S72.tr (S77.tr (S80.tr S87))))))) rfl rfl
     refine WO.stB0 (κ := K86) 6 (vc := [.int .i64 0, .int .i64 0, .slice none 0 0, .slice none 0 0, .slice none 0 0]) rfl rfl rfl rfl rfl rfl rfl Try.sizeOf57 rfl rfl f126 rfl fun w127 S128 f129 => ⟨trivial, ?_⟩
     refine WO.pn 1 rfl ?_
     refine WO.fin ?_
     refine DN.seq ?_
     refine WC.ret ?_
     refine DN.retThen ?_
     have f130 := hE.stp (S3.tr (S7.tr (S13.tr (S25.tr (S50.tr (S65.tr (S72.tr (S77.tr (S80.tr (S87.tr S128)))))))))) rfl rfl
     refine DN.res (l := [.cell 6 57, .tmp 7]) Try.results116 (res_cellA rfl f129 Try.isAgg57 Try.sizeOf57 rfl (res_tmp rfl rfl)) rfl ?_
     obtain rfl := Option.some.inj h
     exact ⟨K86, none, 0, none, 0, none, 0, rfl, f130, Ow.nil, Ow.nil, Ow.nil⟩
    | false =>
     intro h; replace h := cF h
     refine WC.cf rfl ?_
     refine WC.skip ?_
     refine DN.seq ?_
     refine WC.seq ?_
     refine WC.rs [(0, 2), (1, 1), (2, 1), (3, 1), (4, 1), (5, 2), (6, 1)] rfl ?_
     refine WO.k2 rfl rfl rfl rfl (rn_fieldAddr Try.runUnderlying57 rfl Try.sizeOf55 rfl rfl) ?_
     refine WO.k1 trivial rfl rfl rfl rfl (rn_ld Try.isAgg55 rfl rfl (hvE (f124.ld 3 rfl rfl))) ?_
     have f131 := f81.stp S87 rfl rfl
     refine WO.k1 trivial rfl rfl rfl rfl (rn_la (cs := [.int .i64 x41, .int .i64 x44]) Try.isAgg159 Try.sizeOf159 rfl rfl rfl (haE f131.cells)) ?_
     refine WO.bl (κ := K86) (E := Gate.ep159) 12 [] (parts := [(0, .tmp 99)]) (cells := [.int .i64 x41, .int .i64 x44]) (xs := ([(⟨x41, x44⟩ : Gate)] : List Gate)) rfl rfl rfl rfl rfl rfl Try.underlying55 Tryinfo159 rfl rfl rfl rfl rfl rfl rfl rfl rfl rfl ⟨[.int .i64 x41, .int .i64 x44], [], Zl K86 w85 [], Zl K86 w85 [], rfl, Zl.sp (l1 := []) (l2 := []) rfl, Zl.sr (l1 := []) (l2 := []), ⟨[.int .i64 x41], [.int .i64 x44], Zl K86 w85 [], Zl K86 w85 [], rfl, Zl.sp (l1 := []) (l2 := []) rfl, Zl.sr (l1 := []) (l2 := []), rfl, rfl⟩, rfl⟩ fun a100 u100 w132 K133 S134 f135 => ⟨trivial, ?_⟩
     obtain ⟨x101, hx101, h⟩ := Option.bind_eq_some_iff.mp h
     have f136 := g0_3.stp (S3.tr (S7.tr (S13.tr (S25.tr (S50.tr (S65.tr (S72.tr (S77.tr (S80.tr (S87.tr S134)))))))))) rfl rfl
     refine WO.app (κ := K133) (E := Gate.ep159) 3 [] rfl rfl rfl rfl rfl rfl rfl rfl rfl Try.underlying55 Tryinfo159 rfl rfl rfl rfl f136 (Sl.srcP Gate.pu159 f135.rdc) sy_false hx101 rfl fun a101 u101 w137 K138 S139 f140 => ⟨trivial, ?_⟩
     refine WO.k2 rfl rfl rfl rfl (rn_fieldAddr Try.runUnderlying57 rfl Try.sizeOf55 rfl rfl) ?_
     have f141 := f124.stp (S134.tr S139) rfl rfl
     refine WO.stB (κ := K138) 5 (off := 3) (vc := [.slice a101 x101.length u101]) (cs' := [.int .i64 p0.Inputs, .int .i64 p0.Latches, .slice a0_2 p0.Next.length u0_2, .slice a101 x101.length u101, .slice a0_4 p0.Outs.length u0_4]) rfl rfl rfl rfl rfl rfl rfl Try.sizeOf55 rfl rfl f141 rfl rfl fun w142 S143 f144 => ⟨trivial, ?_⟩
     refine WO.fin ?_
     refine DN.seq ?_
     refine WC.seq ?_
     refine WC.rx (κ := K138) [5] none [(0, 0), (1, 0), (2, 1), (3, 2), (4, 2), (5, 1), (6, 2)] [] (by kernel_rfl) (by kernel_rfl) fun w146 S145 => ?_
     have f147 := f144.stp S145 rfl rfl
     refine WO.k0 rfl rfl rfl rfl (rn_la (cs := [.int .i64 p0.Inputs, .int .i64 p0.Latches, .slice a0_2 p0.Next.length u0_2, .slice a101 x101.length u101, .slice a0_4 p0.Outs.length u0_4]) Try.isAgg57 Try.sizeOf57 rfl rfl rfl (haC f147.cells rfl)) ?_
     refine WO.k0 rfl rfl rfl rfl (rn_la (cs := [.int .i64 p0.Inputs, .int .i64 p0.Latches, .slice a0_2 p0.Next.length u0_2, .slice a101 x101.length u101, .slice a0_4 p0.Outs.length u0_4]) Try.isAgg57 Try.sizeOf57 rfl rfl rfl (haC f147.cells rfl)) ?_
     obtain ⟨x105, hx105, h⟩ := Option.bind_eq_some_iff.mp h
     have f148 := g0_2.stp (S3.tr (S7.tr (S13.tr (S25.tr (S50.tr (S65.tr (S72.tr (S77.tr (S80.tr (S87.tr (S134.tr (S139.tr (S143.tr S145))))))))))))) rfl rfl
     have f149 := f140.stp (S143.tr S145) rfl rfl
     have f150 := g0_4.stp (S3.tr (S7.tr (S13.tr (S25.tr (S50.tr (S65.tr (S72.tr (S77.tr (S80.tr (S87.tr (S134.tr (S139.tr (S143.tr S145))))))))))))) rfl rfl
     refine WO.call rfl rfl rfl rfl rfl rfl Try.call120 (s_l31Signals_ok (κ := fun b => mp [] 0 (K138 b)) (p0 := (⟨p0.Inputs, p0.Latches, p0.Next, x101, p0.Outs⟩ : Circuit)) (Sl.map f148.rdc (mp [] 0) rfl rfl) (Sl.map f149.rdc (mp [] 0) rfl rfl) (Sl.map f150.rdc (mp [] 0) rfl rfl) hx105) ?_
     rintro _ w151 ⟨k152, rfl, e153⟩
     obtain ⟨K154, S155, m156⟩ := Ent.mixed (l := []) (κ := K138) e153 13 rfl
     refine ⟨(S155.cl rfl), ?_⟩
     refine WO.pn 2 rfl ?_
     have f158 := f8.stp (S13.tr (S25.tr (S50.tr (S65.tr (S72.tr (S77.tr (S80.tr (S87.tr (S134.tr (S139.tr (S143.tr (S145.tr S155)))))))))))) rfl rfl
     refine WO.stB0 (κ := K154) 6 (vc := [.int .i64 p0.Inputs, .int .i64 p0.Latches, .slice a0_2 p0.Next.length u0_2, .slice a101 x101.length u101, .slice a0_4 p0.Outs.length u0_4]) rfl rfl rfl rfl rfl rfl rfl Try.sizeOf57 rfl rfl f158 rfl fun w159 S160 f161 => ⟨((S155.tr S160).cl rfl), ?_⟩
     refine WO.pn 1 rfl ?_
     refine WO.nx ?_
     refine WO.fin ?_
     refine DN.seq ?_
     refine WC.ret ?_
     have f162 := hE.stp (S3.tr (S7.tr (S13.tr (S25.tr (S50.tr (S65.tr (S72.tr (S77.tr (S80.tr (S87.tr (S134.tr (S139.tr (S143.tr (S145.tr (S155.tr S160))))))))))))))) rfl rfl
     have f163 := f148.stp (S155.tr S160) rfl rfl
     have f164 := f149.stp (S155.tr S160) rfl rfl
     have f165 := f150.stp (S155.tr S160) rfl rfl
     refine DN.res (l := [.cell 6 57, .tmp 7]) Try.results116 (res_cellA rfl f161 Try.isAgg57 Try.sizeOf57 rfl (res_tmp rfl rfl)) rfl ?_
     obtain rfl := Option.some.inj h
     exact ⟨(fun b => ren [(2, 5), (3, 6), (4, 7)] (K154 b)), a0_2, u0_2, a101, u101, a0_4, u0_4, rfl, (f162.map (ren [(2, 5), (3, 6), (4, 7)]) rfl rfl), (f163.map (ren [(2, 5), (3, 6), (4, 7)]) rfl rfl), (f164.map (ren [(2, 5), (3, 6), (4, 7)]) rfl rfl), (f165.map (ren [(2, 5), (3, 6), (4, 7)]) rfl rfl)⟩

/- (*loop.example/g00869/impl.builder).join -/
theorem i_builder_join_ok {w : World} {κ : Col} {a0_0_2 : Option Addr} {u0_0_2 : Nat} {a0_0_3 : Option Addr} {u0_0_3 : Nat} {a0_0_4 : Option Addr} {u0_0_4 : Nat} {mb0_2 : Nat} {p0 : builder} {p1 : Int} {p2 : Int} {b0 : Nat} (g0_0_2 : Rd (Rp.int .i64) κ w 0 a0_0_2 u0_0_2 p0.c.Next) (g0_0_3 : Oc Gate.ep159 159 κ w 2 a0_0_3 u0_0_3 p0.c.Gates) (g0_0_4 : Rd (Rp.int .i64) κ w 0 a0_0_4 u0_0_4 p0.c.Outs) (g0_2 : Mc kwGate kvGate (fun v : Int => .int .i64 v) κ w 3 mb0_2 p0.known) (gb0 : Bc κ w 4 b0 186 [.int .i64 p0.c.Inputs, .int .i64 p0.c.Latches, .slice a0_0_2 p0.c.Next.length u0_0_2, .slice a0_0_3 p0.c.Gates.length u0_0_3, .slice a0_0_4 p0.c.Outs.length u0_0_4, .bool p0.full, .map (some mb0_2)]) {r : Int × (List Gate) × Bool × (List (Gate × Int))} (h : i_builder_join p0 p1 p2 = some r) : Ret Try.prog 180 [.pointer (some ⟨b0, 0, none⟩), .int .i64 p1, .int .i64 p2] w (fun v w' => ∃ (κ' : Col) (ma0 : Option Addr) (mu0 : Nat), v = .int .i64 r.1 ∧ Ent κ w κ' w' ∧ Oc Gate.ep159 159 κ' w' 2 ma0 mu0 r.2.1 ∧ Mc kwGate kvGate (fun v : Int => .int .i64 v) κ' w' 3 mb0_2 r.2.2.2 ∧ Bc κ' w' 4 b0 186 [.int .i64 p0.c.Inputs, .int .i64 p0.c.Latches, .slice a0_0_2 p0.c.Next.length u0_0_2, .slice ma0 r.2.1.length mu0, .slice a0_0_4 p0.c.Outs.length u0_0_4, .bool r.2.2.1, .map (some mb0_2)]) := by
 unfold i_builder_join at h
 refine Ret.enter Try.func180 rfl Try.ntmps180 rfl ?_
 dsimp only [envOf]
 have hE := Ent.refl κ w
 refine WC.seq ?_
 refine WC.rs [(0, 2)] rfl ?_
 refine WO.pn 1 rfl ?_
 refine WO.fin ?_
 refine DN.seq ?_
 refine WC.seq ?_
 refine WC.block ?_
 refine WC.seq ?_
 refine WC.rs [(0, 2), (1, 2), (2, 2), (3, 2), (4, 2), (5, 2), (6, 2), (7, 2), (8, 2), (9, 2), (10, 2), (11, 2), (12, 2)] rfl ?_
 refine WO.pn 3 rfl ?_
 obtain ⟨p17, h, hK1⟩ := Option.bind_eq_some_iff.mp h
 refine WO.meet [(3, 2), (4, 2), (5, 2)] [(6, 2), (7, 2), (8, 2), (9, 2), (10, 2), (11, 2), (12, 2)] (fun L w' => L = [(0, .pointer (some ⟨b0, 0, none⟩)), (1, .int .i64 p1), (2, .int .i64 p2), (17, .bool p17)] ∧ ∃ κ', Stp [] κ w κ' w') trivial ?_ ?_
 ·
  revert h
  cases ht2 : (p1 == 0) with
  | true =>
   intro h; replace h := cT h
   refine WO.pn 3 rfl ?_
   obtain rfl := Option.some.inj h
   exact WO.met _ trivial ⟨rfl, _, (Stp.refl _ _).wk rfl⟩ fun a ha => (ha.more (ha.more (ha.more (ha.more ha.nil rfl) rfl) rfl) rfl)
  | false =>
   intro h; replace h := cF h
   refine WO.pn 3 rfl ?_
   obtain rfl := Option.some.inj h
   exact WO.met _ trivial ⟨rfl, _, (Stp.refl _ _).wk rfl⟩ fun a ha => (ha.more (ha.more (ha.more (ha.more ha.nil rfl) rfl) rfl) rfl)
 rintro _ w3 _ ⟨rfl, K4, S5⟩
 have h := hK1
 refine WO.pn 1 rfl ?_
 obtain ⟨p23, h, hK6⟩ := Option.bind_eq_some_iff.mp h
 refine WO.meet [(7, 2), (8, 2), (9, 2), (10, 2), (11, 2)] [(12, 2)] (fun L w' => L = [(0, .pointer (some ⟨b0, 0, none⟩)), (1, .int .i64 p1), (2, .int .i64 p2), (23, .bool p23)] ∧ ∃ κ', Stp [] K4 w3 κ' w') trivial ?_ ?_
 ·
  revert h
  cases ht7 : p17 with
  | true =>
   intro h; replace h := cT h
   refine WO.pn 5 rfl ?_
   obtain rfl := Option.some.inj h
   exact WO.met _ trivial ⟨rfl, _, (Stp.refl _ _).wk rfl⟩ fun a ha => (ha.more (ha.more (ha.more (ha.more ha.nil rfl) rfl) rfl) rfl)
  | false =>
   intro h; replace h := cF h
   refine WO.pn 5 rfl ?_
   obtain rfl := Option.some.inj h
   exact WO.met _ trivial ⟨rfl, _, (Stp.refl _ _).wk rfl⟩ fun a ha => (ha.more (ha.more (ha.more (ha.more ha.nil rfl) rfl) rfl) rfl)
 rintro _ w8 _ ⟨rfl, K9, S10⟩
 have h := hK6
 refine WO.pn 1 rfl ?_
 refine WO.fin ?_
 refine DN.seq ?_
 revert h
 cases ht11 : p23 with
 | true =>
  intro h; replace h := cT h
  refine WC.ct rfl ?_
  refine WC.seq ?_
  refine WC.rs [(0, 2)] rfl ?_
  refine WO.pn 1 rfl ?_
  refine WO.fin ?_
  refine DN.seq ?_
  refine WC.ret ?_
  refine DN.retBlock ?_
  refine DN.retThen ?_
  have f12 := hE.stp (S5.tr S10) rfl rfl
  have f13 := g0_0_3.stp (S5.tr S10) rfl rfl
  have f14 := g0_2.stp (S5.tr S10) rfl rfl
  have f15 := gb0.stp (S5.tr S10) rfl rfl
  refine DN.res (l := [.tmp 6]) Try.results180 (res_tmp rfl rfl) rfl ?_
  obtain rfl := Option.some.inj h
  exact ⟨K9, a0_0_3, u0_0_3, rfl, f12, f13, f14, f15⟩
 | false =>
  intro h; replace h := cF h
  refine WC.cf rfl ?_
  refine WC.seq ?_
  refine WC.rs [(0, 2), (1, 2), (2, 2)] rfl ?_
  refine WO.pn 3 rfl ?_
  refine WO.fin ?_
  refine DN.seq ?_
  revert h
  cases ht16 : (p1 == 1) with
  | true =>
   intro h; replace h := cT h
   refine WC.ct rfl ?_
   refine WC.seq ?_
   refine WC.rs [(0, 2), (1, 2)] rfl ?_
   refine WO.pn 2 rfl ?_
   refine WO.fin ?_
   refine DN.seq ?_
   refine WC.ret ?_
   refine DN.retBlock ?_
   refine DN.retThen ?_
   have f17 := hE.stp (S5.tr S10) rfl rfl
   have f18 := g0_0_3.stp (S5.tr S10) rfl rfl
   have f19 := g0_2.stp (S5.tr S10) rfl rfl
   have f20 := gb0.stp (S5.tr S10) rfl rfl
   refine DN.res (l := [.tmp 6]) Try.results180 (res_tmp rfl rfl) rfl ?_
   obtain rfl := Option.some.inj h
   exact ⟨K9, a0_0_3, u0_0_3, rfl, f17, f18, f19, f20⟩
  | false =>
   intro h; replace h := cF h
   refine WC.cf rfl ?_
   refine WC.seq ?_
   refine WC.rs [(0, 2), (1, 2), (2, 2), (3, 2), (4, 2), (5, 2), (6, 2), (7, 2)] rfl ?_
   refine WO.pn 3 rfl ?_
   obtain ⟨p35, h, hK21⟩ := Option.bind_eq_some_iff.mp h
   refine WO.meet [(3, 2), (4, 2), (5, 2), (6, 2)] [(7, 2)] (fun L w' => L = [(0, .pointer (some ⟨b0, 0, none⟩)), (1, .int .i64 p1), (2, .int .i64 p2), (35, .bool p35)] ∧ ∃ κ', Stp [] K9 w8 κ' w') trivial ?_ ?_
   ·
    revert h
    cases ht22 : (p2 == 1) with
    | true =>
     intro h; replace h := cT h
     refine WO.pn 4 rfl ?_
     obtain rfl := Option.some.inj h
     exact WO.met _ trivial ⟨rfl, _, (Stp.refl _ _).wk rfl⟩ fun a ha => (ha.more (ha.more (ha.more (ha.more ha.nil rfl) rfl) rfl) rfl)
    | false =>
     intro h; replace h := cF h
     refine WO.pn 4 rfl ?_
     obtain rfl := Option.some.inj h
     exact WO.met _ trivial ⟨rfl, _, (Stp.refl _ _).wk rfl⟩ fun a ha => (ha.more (ha.more (ha.more (ha.more ha.nil rfl) rfl) rfl) rfl)
   rintro _ w23 _ ⟨rfl, K24, S25⟩
   have h := hK21
   refine WO.pn 1 rfl ?_
   refine WO.fin ?_
   refine DN.seq ?_
   revert h
   cases ht26 : p35 with
   | true =>
    intro h; replace h := cT h
    refine WC.ct rfl ?_
    refine WC.seq ?_
    refine WC.rs [(0, 2), (1, 2)] rfl ?_
    refine WO.pn 2 rfl ?_
    refine WO.fin ?_
    refine DN.seq ?_
    refine WC.ret ?_
    refine DN.retBlock ?_
    refine DN.retThen ?_
    have f27 := hE.stp (S5.tr (S10.tr S25)) rfl rfl
    have f28 := g0_0_3.stp (S5.tr (S10.tr S25)) rfl rfl
    have f29 := g0_2.stp (S5.tr (S10.tr S25)) rfl rfl
    have f30 := gb0.stp (S5.tr (S10.tr S25)) rfl rfl
    refine DN.res (l := [.tmp 6]) Try.results180 (res_tmp rfl rfl) rfl ?_
    obtain rfl := Option.some.inj h
    exact ⟨K24, a0_0_3, u0_0_3, rfl, f27, f28, f29, f30⟩
   | false =>
    intro h; replace h := cF h
    refine WC.cf rfl ?_
    refine WC.skip ?_
    refine DN.block ?_
    refine DN.seq ?_
    refine WC.seq ?_
    refine WC.rs [(0, 2), (1, 2), (2, 2), (3, 2), (4, 2), (5, 2), (6, 2), (7, 1), (8, 1)] rfl ?_
    refine WO.pn 2 rfl ?_
    refine WO.k2 rfl rfl rfl rfl (rn_min rfl rfl rfl) ?_
    refine WO.pn 2 rfl ?_
    refine WO.k2 rfl rfl rfl rfl (rn_max rfl rfl rfl) ?_
    refine WO.k2 rfl rfl rfl rfl (rn_build (parts := [(0, .tmp 39), (1, .tmp 42)]) (cells := [.int .i64 (if p2 < p1 then p2 else p1), .int .i64 (if p1 < p2 then p2 else p1)]) rfl rfl (by kernel_rfl)) ?_
    refine WO.alloc (κ := K24) 5 rfl rfl rfl rfl rfl Try.zeroValue159 rfl fun b7 w31 K32 S33 f34 => ⟨trivial, ?_⟩
    refine WO.stB0 (κ := K32) 5 (vc := [.int .i64 (if p2 < p1 then p2 else p1), .int .i64 (if p1 < p2 then p2 else p1)]) rfl rfl rfl rfl rfl rfl rfl Try.sizeOf159 rfl rfl f34 rfl fun w35 S36 f37 => ⟨trivial, ?_⟩
    refine WO.fin ?_
    refine DN.seq ?_
    refine WC.seq ?_
    refine WC.seq ?_
    refine WC.rx (κ := K32) [3, 4, 5] none [(0, 2), (1, 2), (2, 2), (3, 0), (4, 0), (5, 0), (6, 2), (7, 2), (8, 2), (9, 2), (10, 2)] [] (by kernel_rfl) (by kernel_rfl) fun w39 S38 => ?_
    refine WO.pn 1 rfl ?_
    refine WO.k2 rfl rfl rfl rfl (rn_nilCheck rfl rfl) ?_
    refine WO.k2 rfl rfl rfl rfl (rn_fieldAddr Try.runUnderlying186 rfl Try.sizeOf184 rfl rfl) ?_
    have f40 := gb0.stp (S5.tr (S10.tr (S25.tr (S33.tr (S36.tr S38))))) rfl rfl
    refine WO.k0 rfl rfl rfl rfl (rn_ld Try.isAgg184 rfl rfl (hvC (f40.ld 6 rfl rfl) rfl)) ?_
    have f41 := f37.stp S38 rfl rfl
    refine WO.k0 rfl rfl rfl rfl (rn_la (cs := [.int .i64 (if p2 < p1 then p2 else p1), .int .i64 (if p1 < p2 then p2 else p1)]) Try.isAgg159 Try.sizeOf159 rfl rfl rfl (haC f41.cells rfl)) ?_
    have f42 := g0_2.stp (S5.tr (S10.tr (S25.tr (S33.tr (S36.tr S38))))) rfl rfl
    obtain ⟨x50, hx50, h⟩ := Option.bind_eq_some_iff.mp h
    refine WO.k0 rfl rfl rfl rfl (rn_lookup (kf := kvGate) (vf := (fun v : Int => .int .i64 v)) keyEGate Try.runUnderlying184 Try.zeroValue2 rfl rfl rfl (mvC f42 rfl) hx50) ?_
    refine WO.pn 5 rfl ?_
    refine WO.nx ?_
    refine WO.fin ?_
    refine DN.seq ?_
    refine WC.seq ?_
    refine WC.rs [(0, 2)] rfl ?_
    refine WO.pn 1 rfl ?_
    refine WO.fin ?_
    refine DN.seq ?_
    revert h
    cases ht43 : x50.2 with
    | true =>
     intro h; replace h := cT h
     refine WC.ct rfl ?_
     refine WC.seq ?_
     refine WC.rs [(0, 2), (1, 2)] rfl ?_
     refine WO.pn 2 rfl ?_
     refine WO.fin ?_
     refine DN.seq ?_
     refine WC.ret ?_
     refine DN.retThen ?_
     have f44 := hE.stp (S5.tr (S10.tr (S25.tr (S33.tr (S36.tr S38))))) rfl rfl
     have f45 := g0_0_3.stp (S5.tr (S10.tr (S25.tr (S33.tr (S36.tr S38))))) rfl rfl
     refine DN.res (l := [.tmp 6]) Try.results180 (res_tmp rfl rfl) rfl ?_
     obtain rfl := Option.some.inj h
     exact ⟨K32, a0_0_3, u0_0_3, rfl, f44, f45, f42, f40⟩
    | false =>
     intro h; replace h := cF h
     refine WC.cf rfl ?_
     refine WC.skip ?_
     refine DN.seq ?_
     refine WC.seq ?_
     refine WC.seq ?_
     refine WC.rs [(0, 2), (1, 2), (2, 2), (3, 2), (4, 1), (5, 2), (6, 2)] rfl ?_
     refine WO.pn 1 rfl ?_
     refine WO.k2 rfl rfl rfl rfl (rn_nilCheck rfl rfl) ?_
     refine WO.k2 rfl rfl rfl rfl (rn_fieldAddr Try.runUnderlying186 rfl Try.sizeOf57 rfl rfl) ?_
     refine WO.k2 rfl rfl rfl rfl (rn_fieldAddr Try.runUnderlying57 rfl Try.sizeOf55 rfl rfl) ?_
     refine WO.k1 trivial rfl rfl rfl rfl (rn_ld Try.isAgg55 rfl rfl (hvE (f40.ld 3 rfl rfl))) ?_
     refine WO.k2 rfl rfl rfl rfl (rn_len Try.runUnderlying55 rfl rfl) ?_
     refine WO.pn 1 rfl ?_
     refine WO.fin ?_
     refine DN.seq ?_
     revert h
     cases ht46 : decide (8000 ≤ (p0.c.Gates.length : Int)) with
     | true =>
      intro h; replace h := cT h
      refine WC.ct rfl ?_
      refine WC.seq ?_
      refine WC.rs [(0, 2), (1, 2), (2, 2), (3, 1)] rfl ?_
      refine WO.pn 1 rfl ?_
      refine WO.k2 rfl rfl rfl rfl (rn_nilCheck rfl rfl) ?_
      refine WO.k2 rfl rfl rfl rfl (rn_fieldAddr Try.runUnderlying186 rfl Try.sizeOf4 rfl rfl) ?_
      refine WO.stB (κ := K32) 4 (off := 5) (vc := [.bool true]) (cs' := [.int .i64 p0.c.Inputs, .int .i64 p0.c.Latches, .slice a0_0_2 p0.c.Next.length u0_0_2, .slice a0_0_3 p0.c.Gates.length u0_0_3, .slice a0_0_4 p0.c.Outs.length u0_0_4, .bool true, .map (some mb0_2)]) rfl rfl rfl rfl rfl rfl rfl Try.sizeOf4 rfl rfl f40 rfl rfl fun w47 S48 f49 => ⟨trivial, ?_⟩
      refine WO.fin ?_
      refine DN.seq ?_
      refine WC.seq ?_
      refine WC.rs [(0, 2)] rfl ?_
      refine WO.pn 1 rfl ?_
      refine WO.fin ?_
      refine DN.seq ?_
      refine WC.ret ?_
      refine DN.retThen ?_
      have f50 := hE.stp (S5.tr (S10.tr (S25.tr (S33.tr (S36.tr (S38.tr S48)))))) rfl rfl
      have f51 := g0_0_3.stp (S5.tr (S10.tr (S25.tr (S33.tr (S36.tr (S38.tr S48)))))) rfl rfl
      have f52 := f42.stp S48 rfl rfl
      refine DN.res (l := [.tmp 6]) Try.results180 (res_tmp rfl rfl) rfl ?_
      obtain rfl := Option.some.inj h
      exact ⟨K32, a0_0_3, u0_0_3, rfl, f50, f51, f52, f49⟩
     | false =>
      intro h; replace h := cF h
      refine WC.cf rfl ?_
      refine WC.skip ?_
      refine DN.seq ?_
      refine WC.seq ?_
      refine WC.rs [(0, 2), (1, 2), (2, 2), (3, 1), (4, 1), (5, 2), (6, 2)] rfl ?_
      refine WO.pn 1 rfl ?_
      refine WO.k2 rfl rfl rfl rfl (rn_nilCheck rfl rfl) ?_
      refine WO.k2 rfl rfl rfl rfl (rn_fieldAddr Try.runUnderlying186 rfl Try.sizeOf57 rfl rfl) ?_
      refine WO.k1 trivial rfl rfl rfl rfl (rn_la (cs := [.int .i64 p0.c.Inputs, .int .i64 p0.c.Latches, .slice a0_0_2 p0.c.Next.length u0_0_2, .slice a0_0_3 p0.c.Gates.length u0_0_3, .slice a0_0_4 p0.c.Outs.length u0_0_4]) Try.isAgg57 Try.sizeOf57 rfl rfl rfl (haE (f40.lds 0 5 rfl))) ?_
      obtain ⟨x69, hx69, h⟩ := Option.bind_eq_some_iff.mp h
      have f53 := g0_0_2.stp (S5.tr (S10.tr (S25.tr (S33.tr (S36.tr S38))))) rfl rfl
      have f54 := g0_0_3.stp (S5.tr (S10.tr (S25.tr (S33.tr (S36.tr S38))))) rfl rfl
      have f55 := g0_0_4.stp (S5.tr (S10.tr (S25.tr (S33.tr (S36.tr S38))))) rfl rfl
      refine WO.call rfl rfl rfl rfl rfl rfl Try.call171 (i_signalsOf_ok (κ := fun b => mp [] 0 (K32 b)) (p0 := p0.c) (Sl.map f53 (mp [] 0) rfl rfl) (Sl.map f54.rdc (mp [] 0) rfl rfl) (Sl.map f55 (mp [] 0) rfl rfl) hx69) ?_
      rintro _ w56 ⟨k57, rfl, e58⟩
      obtain ⟨K59, S60, m61⟩ := Ent.mixed (l := []) (κ := K32) e58 6 rfl
      refine ⟨trivial, ?_⟩
      refine WO.pn 2 rfl ?_
      refine WO.fin ?_
      refine DN.seq ?_
      refine WC.seq ?_
      refine WC.rx (κ := K59) [4, 5] (some 12) [(0, 2), (1, 2), (2, 2), (3, 2), (4, 2), (5, 0), (6, 0), (7, 1), (8, 1), (9, 2), (10, 2), (11, 2)] [(12, 1)] (by kernel_rfl) (by kernel_rfl) fun w64 S63 => ?_
      refine WO.pn 2 rfl ?_
      refine WO.k2 rfl rfl rfl rfl (rn_nilCheck rfl rfl) ?_
      refine WO.k2 rfl rfl rfl rfl (rn_fieldAddr Try.runUnderlying186 rfl Try.sizeOf57 rfl rfl) ?_
      refine WO.k2 rfl rfl rfl rfl (rn_fieldAddr Try.runUnderlying57 rfl Try.sizeOf55 rfl rfl) ?_
      have f65 := f40.stp (S60.tr S63) rfl rfl
      refine WO.k0 rfl rfl rfl rfl (rn_ld Try.isAgg55 rfl rfl (hvC (f65.ld 3 rfl rfl) rfl)) ?_
      have f66 := f41.stp (S60.tr S63) rfl rfl
      refine WO.k0 rfl rfl rfl rfl (rn_la (cs := [.int .i64 (if p2 < p1 then p2 else p1), .int .i64 (if p1 < p2 then p2 else p1)]) Try.isAgg159 Try.sizeOf159 rfl rfl rfl (haC f66.cells rfl)) ?_
      refine WO.bl (κ := K59) (E := Gate.ep159) 8 [] (parts := [(0, .tmp 77)]) (cells := [.int .i64 (if p2 < p1 then p2 else p1), .int .i64 (if p1 < p2 then p2 else p1)]) (xs := ([(⟨(if p2 < p1 then p2 else p1), (if p1 < p2 then p2 else p1)⟩ : Gate)] : List Gate)) rfl rfl rfl rfl rfl rfl Try.underlying55 Tryinfo159 rfl rfl rfl rfl rfl rfl rfl rfl rfl rfl ⟨[.int .i64 (if p2 < p1 then p2 else p1), .int .i64 (if p1 < p2 then p2 else p1)], [], Zl K59 w64 [], Zl K59 w64 [], rfl, Zl.sp (l1 := []) (l2 := []) rfl, Zl.sr (l1 := []) (l2 := []), ⟨[.int .i64 (if p2 < p1 then p2 else p1)], [.int .i64 (if p1 < p2 then p2 else p1)], Zl K59 w64 [], Zl K59 w64 [], rfl, Zl.sp (l1 := []) (l2 := []) rfl, Zl.sr (l1 := []) (l2 := []), rfl, rfl⟩, rfl⟩ fun a78 u78 w67 K68 S69 f70 => ⟨(S69.cl rfl), ?_⟩
      obtain ⟨x79, hx79, h⟩ := Option.bind_eq_some_iff.mp h
      have f71 := f54.stp (S60.tr (S63.tr S69)) rfl rfl
      refine WO.app (κ := K68) (E := Gate.ep159) 2 [] rfl rfl rfl rfl rfl rfl rfl rfl rfl Try.underlying55 Tryinfo159 rfl rfl rfl rfl f71 (Sl.srcP Gate.pu159 f70.rdc) sy_false hx79 rfl fun a79 u79 w72 K73 S74 f75 => ⟨((S69.tr S74).cl rfl), ?_⟩
      refine WO.k2 rfl rfl rfl rfl (rn_nilCheck rfl rfl) ?_
      refine WO.k2 rfl rfl rfl rfl (rn_fieldAddr Try.runUnderlying186 rfl Try.sizeOf57 rfl rfl) ?_
      refine WO.k2 rfl rfl rfl rfl (rn_fieldAddr Try.runUnderlying57 rfl Try.sizeOf55 rfl rfl) ?_
      refine WO.nx ?_
      have f76 := f65.stp (S69.tr S74) rfl rfl
      refine WO.stB (κ := K73) 4 (off := 3) (vc := [.slice a79 x79.length u79]) (cs' := [.int .i64 p0.c.Inputs, .int .i64 p0.c.Latches, .slice a0_0_2 p0.c.Next.length u0_0_2, .slice a79 x79.length u79, .slice a0_0_4 p0.c.Outs.length u0_0_4, .bool p0.full, .map (some mb0_2)]) rfl rfl rfl rfl rfl rfl rfl Try.sizeOf55 rfl rfl f76 rfl rfl fun w77 S78 f79 => ⟨trivial, ?_⟩
      refine WO.fin ?_
      refine DN.seq ?_
      refine WC.seq ?_
      refine WC.rs [(0, 2), (1, 1), (2, 2), (3, 1)] rfl ?_
      refine WO.pn 1 rfl ?_
      have f80 := f66.stp (S69.tr (S74.tr S78)) rfl rfl
      refine WO.k1 trivial rfl rfl rfl rfl (rn_la (cs := [.int .i64 (if p2 < p1 then p2 else p1), .int .i64 (if p1 < p2 then p2 else p1)]) Try.isAgg159 Try.sizeOf159 rfl rfl rfl (haE f80.cells)) ?_
      refine WO.pn 1 rfl ?_
      obtain ⟨x86, hx86, h⟩ := Option.bind_eq_some_iff.mp h
      have f81 := f53.stp (S60.tr (S63.tr (S69.tr (S74.tr S78)))) rfl rfl
      have f82 := f75.stp S78 rfl rfl
      have f83 := f55.stp (S60.tr (S63.tr (S69.tr (S74.tr S78)))) rfl rfl
      have f84 := f42.stp (S60.tr (S63.tr (S69.tr (S74.tr S78)))) rfl rfl
      refine WO.call rfl rfl rfl rfl rfl rfl Try.call192 (i_builder_learn_ok (κ := fun b => mp [(3, 2)] 0 (K73 b)) (p1 := (⟨(if p2 < p1 then p2 else p1), (if p1 < p2 then p2 else p1)⟩ : Gate)) (p0 := (⟨(⟨p0.c.Inputs, p0.c.Latches, p0.c.Next, x79, p0.c.Outs⟩ : Circuit), p0.full, p0.known⟩ : builder)) (Sl.map f81 (mp [(3, 2)] 0) rfl rfl) (Sl.map f82.rdc (mp [(3, 2)] 0) rfl rfl) (Sl.map f83 (mp [(3, 2)] 0) rfl rfl) (f84.map (mp [(3, 2)] 0) rfl rfl) (f79.map (mp [(3, 2)] 0) rfl rfl) hx86) ?_
      rintro _ w85 ⟨k86, rfl, e87, f88⟩
      obtain ⟨K89, S90, m91⟩ := Ent.mixed (l := [(3, 2)]) (κ := K73) e87 9 rfl
      refine ⟨trivial, ?_⟩
      have f93 := f88.mx' m91 rfl (rfl : 9 + 2 = 11)
      refine WO.fin ?_
      refine DN.seq ?_
      refine WC.seq ?_
      refine WC.rs [(0, 2), (1, 2)] rfl ?_
      refine WO.pn 2 rfl ?_
      refine WO.fin ?_
      refine DN.seq ?_
      refine WC.ret ?_
      have f94 := hE.stp (S5.tr (S10.tr (S25.tr (S33.tr (S36.tr (S38.tr (S60.tr (S63.tr (S69.tr (S74.tr (S78.tr S90))))))))))) rfl rfl
      have f95 := f82.stp S90 rfl rfl
      have f96 := f79.stp S90 rfl rfl
      refine DN.res (l := [.tmp 6]) Try.results180 (res_tmp rfl rfl) rfl ?_
      obtain rfl := Option.some.inj h
      exact ⟨(fun b => ren [(11, 3)] (K89 b)), a79, u79, rfl, (f94.map (ren [(11, 3)]) rfl rfl), (f95.map (ren [(11, 3)]) rfl rfl), (f93.map (ren [(11, 3)]) rfl rfl), (f96.map (ren [(11, 3)]) rfl rfl)⟩

/- loop.example/g00869/laws.eqGateS -/
theorem l_eqGateS_ok {w : World} {κ : Col} {a0 : Option Addr} {u0 : Nat} {p0 : (List Gate)} {a1 : Option Addr} {u1 : Nat} {p1 : (List Gate)} (g0 : Rd Gate.rp κ w 0 a0 u0 p0) (g1 : Rd Gate.rp κ w 0 a1 u1 p1) {r : Bool} (h : l_eqGateS p0 p1 = some r) : Ret Try.prog 109 [.slice a0 p0.length u0, .slice a1 p1.length u1] w (fun v w' => ∃ (κ' : Col), v = .bool r ∧ Ent κ w κ' w') := by
 unfold l_eqGateS at h
 refine Ret.enter Try.func109 rfl Try.ntmps109 rfl ?_
 dsimp only [envOf]
 have hE := Ent.refl κ w
 refine WC.seq ?_
 refine WC.rs [(0, 2)] rfl ?_
 refine WO.pn 1 rfl ?_
 refine WO.fin ?_
 refine DN.seq ?_
 refine WC.seq ?_
 refine WC.seq ?_
 refine WC.rs [(0, 2), (1, 2), (2, 2), (3, 2), (4, 2)] rfl ?_
 refine WO.pn 1 rfl ?_
 refine WO.k2 rfl rfl rfl rfl (rn_len Try.runUnderlying55 rfl rfl) ?_
 refine WO.pn 1 rfl ?_
 refine WO.k2 rfl rfl rfl rfl (rn_len Try.runUnderlying55 rfl rfl) ?_
 refine WO.pn 1 rfl ?_
 refine WO.fin ?_
 refine DN.seq ?_
 revert h
 cases ht1 : ((p0.length : Int) != (p1.length : Int)) with
 | true =>
  intro h; replace h := cT h
  refine WC.ct rfl ?_
  refine WC.seq ?_
  refine WC.rs [(0, 2)] rfl ?_
  refine WO.pn 1 rfl ?_
  refine WO.fin ?_
  refine DN.seq ?_
  refine WC.ret ?_
  refine DN.retThen ?_
  refine DN.res (l := [.tmp 4]) Try.results109 (res_tmp rfl rfl) rfl ?_
  obtain rfl := Option.some.inj h
  exact ⟨κ, rfl, hE⟩
 | false =>
  intro h; replace h := cF h
  refine WC.cf rfl ?_
  refine WC.skip ?_
  refine DN.seq ?_
  refine WC.seq ?_
  refine WC.seq ?_
  refine WC.rs [(0, 2)] rfl ?_
  refine WO.pn 1 rfl ?_
  refine WO.fin ?_
  refine DN.seq ?_
  have hN2 : (p0.length : Int) ≤ 9223372036854775807 := g0.len_le
  obtain ⟨q2, hq4, hK3⟩ := Option.bind_eq_some_iff.mp h
  clear h
  refine WC.meet (fun L w' => ∃ (κ' : Col), L = [] ∧ Stp [] κ w κ' w' ∧ q2 = Sum.inr ()) ?_ ?_
  ·
   refine WC.block ?_
   refine WC.loop (fun k L w' => ∃ (κ' : Col) (v5 : Int), L = [(0, .slice a0 p0.length u0), (1, .slice a1 p1.length u1), (5, .int .i64 v5)] ∧ Stp [] κ w κ' w' ∧ 0 ≤ v5 ∧ Int.toNat ((p0.length : Int) - v5) = k ∧ cntM (l_eqGateS_b0 p0 p1) k v5 () = some q2) ⟨_, _, ⟨κ, 0, rfl, (Stp.refl _ _).wk rfl, (by decide), (by simp), hq4⟩, fun a ha => (ha.more (ha.more (ha.more ha.nil rfl) rfl) rfl)⟩ ?_
   rintro k _ w8 ⟨K9, v5, rfl, S10, hj2, hJ2, h⟩
   rcases k with _ | k
   ·
    have hk11 := h; obtain ⟨o2, h⟩ := ex_eq (Sum.inr (Sum.inl ()) : Bool ⊕ ((Unit) ⊕ (Unit)))
    have hc2 : decide (v5 < (p0.length : Int)) = false := decide_eq_false (by omega)
    refine WC.seq ?_
    refine WC.seq ?_
    refine WC.rs [(0, 2), (1, 2), (2, 2), (3, 2)] rfl ?_
    refine WO.pn 2 rfl ?_
    refine WO.k2 rfl rfl rfl rfl (rn_len Try.runUnderlying55 rfl rfl) ?_
    refine WO.pn 1 rfl ?_
    refine WO.fin ?_
    refine DN.seq ?_
    refine WC.cf' rfl hc2 ?_
    refine WC.exit ?_
    refine DN.exitThen ?_
    refine DN.exitThen ?_
    obtain rfl := Option.some.inj h
    have h := hk11
    refine DN.hit ?_
    obtain rfl := Option.some.inj h
    exact DN.meet _ ⟨K9, rfl, S10.wk rfl, rfl⟩ fun a ha => ha.nil
   ·
    obtain ⟨o2, h, hk11⟩ := Option.bind_eq_some_iff.mp h; unfold l_eqGateS_b0 at h
    have hc2 : decide (v5 < (p0.length : Int)) = true := decide_eq_true (by omega)
    refine WC.seq ?_
    refine WC.seq ?_
    refine WC.rs [(0, 2), (1, 2), (2, 2), (3, 2)] rfl ?_
    refine WO.pn 2 rfl ?_
    refine WO.k2 rfl rfl rfl rfl (rn_len Try.runUnderlying55 rfl rfl) ?_
    refine WO.pn 1 rfl ?_
    refine WO.fin ?_
    refine DN.seq ?_
    refine WC.ct' rfl hc2 ?_
    refine WC.skip ?_
    refine DN.seq ?_
    refine WC.seq ?_
    refine WC.block ?_
    refine WC.seq ?_
    refine WC.rx (κ := K9) [0] none [(0, 2), (1, 2), (2, 2), (4, 2), (5, 2), (6, 2), (3, 0), (7, 0), (8, 1), (9, 2)] [] (by kernel_rfl) (by kernel_rfl) fun w13 S12 => ?_
    refine WO.pn 2 rfl ?_
    obtain ⟨x19, hx19, h⟩ := Option.bind_eq_some_iff.mp h
    refine WO.k2 rfl rfl rfl rfl (rn_index g0 hx19 Try.runUnderlying55 Try.sizeOf159 rfl rfl rfl rfl) ?_
    refine WO.pn 2 rfl ?_
    obtain ⟨x23, hx23, h⟩ := Option.bind_eq_some_iff.mp h
    refine WO.k2 rfl rfl rfl rfl (rn_index g1 hx23 Try.runUnderlying55 Try.sizeOf159 rfl rfl rfl rfl) ?_
    have f14 := g0.stp (S10.tr S12) rfl rfl
    obtain ⟨cse15, hre15, hle15⟩ := (f14).gSt hx19
    obtain rfl := Gate.un hre15
    refine WO.k0 rfl rfl rfl rfl (rn_la (cs := [.int .i64 x19.A, .int .i64 x19.B]) Try.isAgg159 Try.sizeOf159 rfl rfl rfl (haC hle15 rfl)) ?_
    have f16 := g1.stp (S10.tr S12) rfl rfl
    obtain ⟨cse17, hre17, hle17⟩ := (f16).gSt hx23
    obtain rfl := Gate.un hre17
    refine WO.k0 rfl rfl rfl rfl (rn_la (cs := [.int .i64 x23.A, .int .i64 x23.B]) Try.isAgg159 Try.sizeOf159 rfl rfl rfl (haC hle17 rfl)) ?_
    obtain ⟨x25, hx25, h⟩ := Option.bind_eq_some_iff.mp h
    refine WO.call rfl rfl rfl rfl rfl rfl Try.call173 (l_eqGate_ok (κ := fun b => mp [] 0 (K9 b)) (p0 := x19) (p1 := x23) hx25) ?_
    rintro _ w18 ⟨k19, rfl, e20⟩
    obtain ⟨K21, S22, m23⟩ := Ent.mixed (l := []) (κ := K9) e20 2 rfl
    refine ⟨(S22.cl rfl), ?_⟩
    refine WO.pn 1 rfl ?_
    refine WO.nx ?_
    refine WO.fin ?_
    refine DN.seq ?_
    revert h
    cases ht25 : (!x25) with
    | true =>
     intro h; replace h := cT h
     refine WC.ct rfl ?_
     refine WC.seq ?_
     refine WC.rs [(0, 2)] rfl ?_
     refine WO.pn 1 rfl ?_
     refine WO.fin ?_
     refine DN.seq ?_
     refine WC.ret ?_
     refine DN.retBlock ?_
     refine DN.retThen ?_
     refine DN.retThen ?_
     obtain rfl := Option.some.inj h
     obtain rfl := Option.some.inj hk11
     have h := hK3
     dsimp only [aft] at h
     refine DN.retBlock ?_
     refine DN.retMeet ?_
     refine DN.retThen ?_
     have f26 := hE.stp (S10.tr (S12.tr S22)) rfl rfl
     refine DN.res (l := [.tmp 4]) Try.results109 (res_tmp rfl rfl) rfl ?_
     obtain rfl := Option.some.inj h
     exact ⟨K21, rfl, f26⟩
    | false =>
     intro h; replace h := cF h
     refine WC.cf rfl ?_
     refine WC.skip ?_
     refine DN.block ?_
     refine DN.seq ?_
     refine WC.rs [(0, 2), (1, 2), (2, 2)] rfl ?_
     refine WO.pn 3 rfl ?_
     refine WO.fin ?_
     have hw2 : IntKind.wrap .i64 (v5 + 1) = v5 + 1 := wr1 hj2 (of_decide_eq_true hc2) hN2
     rw [hw2]
     have hc2 := of_decide_eq_true hc2
     obtain rfl := Option.some.inj h
     refine DN.round fun a ha => ?_
     exact ⟨k, _, Nat.lt_succ_self _, ⟨K21, v5 + 1, rfl, (S10.tr (S12.tr S22)).wk rfl, by omega, by omega, hk11⟩, (ha.more (ha.more (ha.more ha.nil rfl) rfl) rfl)⟩
  rintro _ w5 ⟨K6, rfl, S7, rfl⟩
  have h := hK3
  dsimp only [aft] at h
  refine DN.seq ?_
  refine WC.seq ?_
  refine WC.rs [(0, 2)] rfl ?_
  refine WO.pn 1 rfl ?_
  refine WO.fin ?_
  refine DN.seq ?_
  refine WC.ret ?_
  have f27 := hE.stp S7 rfl rfl
  refine DN.res (l := [.tmp 4]) Try.results109 (res_tmp rfl rfl) rfl ?_
  obtain rfl := Option.some.inj h
  exact ⟨K6, rfl, f27⟩

/- loop.example/g00869/laws.heldCircuit -/
theorem l_heldCircuit_ok {w : World} {κ : Col} {a0_2 : Option Addr} {u0_2 : Nat} {a0_3 : Option Addr} {u0_3 : Nat} {a0_4 : Option Addr} {u0_4 : Nat} {p0 : Circuit} {p1 : Int} (g0_2 : Rd (Rp.int .i64) κ w 0 a0_2 u0_2 p0.Next) (g0_3 : Rd Gate.rp κ w 0 a0_3 u0_3 p0.Gates) (g0_4 : Rd (Rp.int .i64) κ w 0 a0_4 u0_4 p0.Outs) {r : Int} (h : l_heldCircuit p0 p1 = some r) : Ret Try.prog 39 [.agg #[.int .i64 p0.Inputs, .int .i64 p0.Latches, .slice a0_2 p0.Next.length u0_2, .slice a0_3 p0.Gates.length u0_3, .slice a0_4 p0.Outs.length u0_4], .int .i64 p1] w (fun v w' => ∃ (κ' : Col), v = .int .i64 r ∧ Ent κ w κ' w') := by
 unfold l_heldCircuit at h
 refine Ret.enter Try.func39 rfl Try.ntmps39 rfl ?_
 dsimp only [envOf]
 have hE := Ent.refl κ w
 refine WC.seq ?_
 refine WC.rs [(0, 1), (1, 2)] rfl ?_
 refine WO.box (κ := κ) 2 rfl rfl rfl rfl rfl rfl rfl fun b2 w1 K2 S3 f4 => ⟨trivial, ?_⟩
 refine WO.pn 1 rfl ?_
 refine WO.fin ?_
 refine DN.seq ?_
 refine WC.seq ?_
 refine WC.rs [(0, 2), (1, 1), (2, 2), (3, 1), (4, 2)] rfl ?_
 refine WO.k2 rfl rfl rfl rfl (rn_fieldAddr Try.runUnderlying57 rfl Try.sizeOf22 rfl rfl) ?_
 refine WO.k1 trivial rfl rfl rfl rfl (rn_ld Try.isAgg22 rfl rfl (hvE (f4.ld 2 rfl rfl))) ?_
 refine WO.pn 1 rfl ?_
 obtain ⟨x8, hx8, h⟩ := Option.bind_eq_some_iff.mp h
 have f5 := g0_2.stp S3 rfl rfl
 refine WO.call rfl rfl rfl rfl rfl rfl Try.call22 (l_heldInt64S_ok (κ := fun b => mp [] 0 (K2 b)) (Sl.map f5 (mp [] 0) rfl rfl) hx8) ?_
 rintro _ w6 ⟨k7, rfl, e8⟩
 obtain ⟨K9, S10, m11⟩ := Ent.mixed (l := []) (κ := K2) e8 3 rfl
 refine ⟨trivial, ?_⟩
 refine WO.pn 1 rfl ?_
 refine WO.fin ?_
 refine DN.seq ?_
 refine WC.seq ?_
 refine WC.seq ?_
 refine WC.rs [(0, 2), (1, 2)] rfl ?_
 refine WO.pn 2 rfl ?_
 refine WO.fin ?_
 refine DN.seq ?_
 revert h
 cases ht13 : decide (x8 < 0) with
 | true =>
  intro h; replace h := cT h
  refine WC.ct rfl ?_
  refine WC.seq ?_
  refine WC.rs [(0, 2)] rfl ?_
  refine WO.pn 1 rfl ?_
  refine WO.fin ?_
  refine DN.seq ?_
  refine WC.ret ?_
  refine DN.retThen ?_
  have f14 := hE.stp (S3.tr S10) rfl rfl
  refine DN.res (l := [.tmp 4]) Try.results39 (res_tmp rfl rfl) rfl ?_
  obtain rfl := Option.some.inj h
  exact ⟨K9, rfl, f14⟩
 | false =>
  intro h; replace h := cF h
  refine WC.cf rfl ?_
  refine WC.skip ?_
  refine DN.seq ?_
  refine WC.seq ?_
  refine WC.rs [(0, 2), (1, 1), (2, 2), (3, 1), (4, 2)] rfl ?_
  refine WO.k2 rfl rfl rfl rfl (rn_fieldAddr Try.runUnderlying57 rfl Try.sizeOf55 rfl rfl) ?_
  have f15 := f4.stp S10 rfl rfl
  refine WO.k1 trivial rfl rfl rfl rfl (rn_ld Try.isAgg55 rfl rfl (hvE (f15.ld 3 rfl rfl))) ?_
  refine WO.pn 1 rfl ?_
  obtain ⟨x14, hx14, h⟩ := Option.bind_eq_some_iff.mp h
  have f16 := g0_3.stp (S3.tr S10) rfl rfl
  refine WO.call rfl rfl rfl rfl rfl rfl Try.call122 (l_heldGateS_ok (κ := fun b => mp [] 0 (K9 b)) (Sl.map f16 (mp [] 0) rfl rfl) hx14) ?_
  rintro _ w17 ⟨k18, rfl, e19⟩
  obtain ⟨K20, S21, m22⟩ := Ent.mixed (l := []) (κ := K9) e19 5 rfl
  refine ⟨trivial, ?_⟩
  refine WO.pn 1 rfl ?_
  refine WO.fin ?_
  refine DN.seq ?_
  refine WC.seq ?_
  refine WC.seq ?_
  refine WC.rs [(0, 2), (1, 2)] rfl ?_
  refine WO.pn 2 rfl ?_
  refine WO.fin ?_
  refine DN.seq ?_
  revert h
  cases ht24 : decide (x14 < 0) with
  | true =>
   intro h; replace h := cT h
   refine WC.ct rfl ?_
   refine WC.seq ?_
   refine WC.rs [(0, 2)] rfl ?_
   refine WO.pn 1 rfl ?_
   refine WO.fin ?_
   refine DN.seq ?_
   refine WC.ret ?_
   refine DN.retThen ?_
   have f25 := hE.stp (S3.tr (S10.tr S21)) rfl rfl
   refine DN.res (l := [.tmp 4]) Try.results39 (res_tmp rfl rfl) rfl ?_
   obtain rfl := Option.some.inj h
   exact ⟨K20, rfl, f25⟩
  | false =>
   intro h; replace h := cF h
   refine WC.cf rfl ?_
   refine WC.skip ?_
   refine DN.seq ?_
   refine WC.seq ?_
   refine WC.rs [(0, 2), (1, 1), (2, 2), (3, 1), (4, 2)] rfl ?_
   refine WO.k2 rfl rfl rfl rfl (rn_fieldAddr Try.runUnderlying57 rfl Try.sizeOf22 rfl rfl) ?_
   have f26 := f15.stp S21 rfl rfl
   refine WO.k1 trivial rfl rfl rfl rfl (rn_ld Try.isAgg22 rfl rfl (hvE (f26.ld 4 rfl rfl))) ?_
   refine WO.pn 1 rfl ?_
   obtain ⟨x20, hx20, h⟩ := Option.bind_eq_some_iff.mp h
   have f27 := g0_4.stp (S3.tr (S10.tr S21)) rfl rfl
   refine WO.call rfl rfl rfl rfl rfl rfl Try.call22 (l_heldInt64S_ok (κ := fun b => mp [] 0 (K20 b)) (Sl.map f27 (mp [] 0) rfl rfl) hx20) ?_
   rintro _ w28 ⟨k29, rfl, e30⟩
   obtain ⟨K31, S32, m33⟩ := Ent.mixed (l := []) (κ := K20) e30 7 rfl
   refine ⟨trivial, ?_⟩
   refine WO.pn 1 rfl ?_
   refine WO.fin ?_
   refine DN.seq ?_
   refine WC.seq ?_
   refine WC.seq ?_
   refine WC.rs [(0, 2), (1, 2)] rfl ?_
   refine WO.pn 2 rfl ?_
   refine WO.fin ?_
   refine DN.seq ?_
   revert h
   cases ht35 : decide (x20 < 0) with
   | true =>
    intro h; replace h := cT h
    refine WC.ct rfl ?_
    refine WC.seq ?_
    refine WC.rs [(0, 2)] rfl ?_
    refine WO.pn 1 rfl ?_
    refine WO.fin ?_
    refine DN.seq ?_
    refine WC.ret ?_
    refine DN.retThen ?_
    have f36 := hE.stp (S3.tr (S10.tr (S21.tr S32))) rfl rfl
    refine DN.res (l := [.tmp 4]) Try.results39 (res_tmp rfl rfl) rfl ?_
    obtain rfl := Option.some.inj h
    exact ⟨K31, rfl, f36⟩
   | false =>
    intro h; replace h := cF h
    refine WC.cf rfl ?_
    refine WC.skip ?_
    refine DN.seq ?_
    refine WC.seq ?_
    refine WC.rs [(0, 2), (1, 2)] rfl ?_
    refine WO.pn 2 rfl ?_
    refine WO.fin ?_
    refine DN.seq ?_
    refine WC.ret ?_
    have f37 := hE.stp (S3.tr (S10.tr (S21.tr S32))) rfl rfl
    refine DN.res (l := [.tmp 4]) Try.results39 (res_tmp rfl rfl) rfl ?_
    obtain rfl := Option.some.inj h
    exact ⟨K31, rfl, f37⟩

end Go.Proofs.Ytfmkhnlnomkcfaa
