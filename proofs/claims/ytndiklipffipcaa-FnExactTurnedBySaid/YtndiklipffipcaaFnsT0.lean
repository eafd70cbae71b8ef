/- The walks, part 0. By program. -/
import Derived.Test.YtndiklipffipcaaSort
import Derived.Test.YtndiklipffipcaaShelf
import Derived.Test.YtndiklipffipcaaFnsTM
set_option linter.unusedVariables false
set_option linter.unusedSimpArgs false
namespace Go.Proofs.Ytndiklipffipcaa
open Go Go.Wk Go.Proofs
set_option maxRecDepth 100000
set_option maxHeartbeats 1000000

/- loop.example/g00869/laws.szInt64S -/
theorem l_szInt64S_ok {w : World} {κ : Col} {a0 : Option Addr} {u0 : Nat} {p0 : (List Int)} {p1 : Int} (g0 : Rd (Rp.int .i64) κ w 0 a0 u0 p0) {r : Int} (h : l_szInt64S p0 p1 = some r) : Ret Try.prog 37 [.slice a0 p0.length u0, .int .i64 p1] w (fun v w' => ∃ (κ' : Col), v = .int .i64 r ∧ Ent κ w κ' w') := by
 unfold l_szInt64S at h
 refine Ret.enter Try.func37 rfl Try.ntmps37 rfl ?_
 dsimp only [envOf]
 have hE := Ent.refl κ w
 refine WC.seq ?_
 refine WC.rs [(0, 2)] rfl ?_
 refine WO.pn 1 rfl ?_
 refine WO.fin ?_
 refine DN.seq ?_
 refine WC.seq ?_
 refine WC.rs [(0, 2), (1, 2), (2, 2), (3, 2), (4, 2)] rfl ?_
 refine WO.pn 2 rfl ?_
 refine WO.k2 rfl rfl rfl rfl (rn_len Try.runUnderlying22 rfl rfl) ?_
 refine WO.pn 2 rfl ?_
 refine WO.fin ?_
 refine DN.seq ?_
 refine WC.seq ?_
 refine WC.seq ?_
 refine WC.rs [(0, 2), (1, 2)] rfl ?_
 refine WO.pn 2 rfl ?_
 refine WO.fin ?_
 refine DN.seq ?_
 revert h
 cases ht1 : decide ((IntKind.i64.wrap (p1 - (p0.length : Int))) < 0) with
 | true =>
  intro h; replace h := cT h
  refine WC.ct rfl ?_
  refine WC.seq ?_
  refine WC.rs [(0, 2)] rfl ?_
  refine WO.pn 1 rfl ?_
  refine WO.fin ?_
  refine DN.seq ?_
  refine WC.ret ?_
  refine DN.retThen ?_
  refine DN.res (l := [.tmp 4]) Try.results37 (res_tmp rfl rfl) rfl ?_
  obtain rfl := Option.some.inj h
  exact ⟨κ, rfl, hE⟩
 | false =>
  intro h; replace h := cF h
  refine WC.cf rfl ?_
  refine WC.skip ?_
  refine DN.seq ?_
  refine WC.seq ?_
  refine WC.rs [(0, 2), (1, 2)] rfl ?_
  refine WO.pn 2 rfl ?_
  refine WO.fin ?_
  refine DN.seq ?_
  refine WC.ret ?_
  refine DN.res (l := [.tmp 4]) Try.results37 (res_tmp rfl rfl) rfl ?_
  obtain rfl := Option.some.inj h
  exact ⟨κ, rfl, hE⟩

/- loop.example/g00869/laws.toEdit -/
theorem l_toEdit_ok {w : World} {κ : Col} {p0 : Edit}  {r : Edit} (h : l_toEdit p0 = some r) : Ret Try.prog 10 [.agg #[.int .i64 p0.Kind, .int .i64 p0.V, .int .i64 p0.N]] w (fun v w' => ∃ (κ' : Col), v = .agg #[.int .i64 r.Kind, .int .i64 r.V, .int .i64 r.N] ∧ Ent κ w κ' w') := by
 unfold l_toEdit at h
 refine Ret.enter Try.func10 rfl Try.ntmps10 rfl ?_
 dsimp only [envOf]
 have hE := Ent.refl κ w
 refine WC.seq ?_
 refine WC.rs [(0, 1), (1, 1)] rfl ?_
 refine WO.box (κ := κ) 2 rfl rfl rfl rfl rfl rfl rfl fun b1 w1 K2 S3 f4 => ⟨trivial, ?_⟩
 refine WO.alloc (κ := K2) 3 rfl rfl rfl rfl rfl Try.zeroValue36 rfl fun b2 w5 K6 S7 f8 => ⟨trivial, ?_⟩
 refine WO.fin ?_
 refine DN.seq ?_
 refine WC.seq ?_
 refine WC.rs [(0, 1)] rfl ?_
 refine WO.alloc (κ := K6) 4 rfl rfl rfl rfl rfl Try.zeroValue36 rfl fun b3 w9 K10 S11 f12 => ⟨trivial, ?_⟩
 refine WO.fin ?_
 refine DN.seq ?_
 refine WC.seq ?_
 refine WC.rs [(0, 2), (1, 1), (2, 2), (3, 1)] rfl ?_
 refine WO.k2 rfl rfl rfl rfl (rn_fieldAddr Try.runUnderlying29 rfl Try.sizeOf2 rfl rfl) ?_
 have f13 := f4.stp (S7.tr S11) rfl rfl
 refine WO.k1 trivial rfl rfl rfl rfl (rn_ld Try.isAgg2 rfl rfl (hvE (f13.ld 0 rfl rfl))) ?_
 refine WO.k2 rfl rfl rfl rfl (rn_fieldAddr Try.runUnderlying36 rfl Try.sizeOf2 rfl rfl) ?_
 refine WO.stB (κ := K10) 4 (off := 0) (vc := [.int .i64 p0.Kind]) (cs' := [.int .i64 p0.Kind, .int .i64 0, .int .i64 0]) rfl rfl rfl rfl rfl rfl rfl Try.sizeOf2 rfl rfl f12 rfl rfl fun w14 S15 f16 => ⟨trivial, ?_⟩
 refine WO.fin ?_
 refine DN.seq ?_
 refine WC.seq ?_
 refine WC.rs [(0, 2), (1, 1), (2, 2), (3, 1)] rfl ?_
 refine WO.k2 rfl rfl rfl rfl (rn_fieldAddr Try.runUnderlying29 rfl Try.sizeOf2 rfl rfl) ?_
 have f17 := f13.stp S15 rfl rfl
 refine WO.k1 trivial rfl rfl rfl rfl (rn_ld Try.isAgg2 rfl rfl (hvE (f17.ld 1 rfl rfl))) ?_
 refine WO.k2 rfl rfl rfl rfl (rn_fieldAddr Try.runUnderlying36 rfl Try.sizeOf2 rfl rfl) ?_
 refine WO.stB (κ := K10) 4 (off := 1) (vc := [.int .i64 p0.V]) (cs' := [.int .i64 p0.Kind, .int .i64 p0.V, .int .i64 0]) rfl rfl rfl rfl rfl rfl rfl Try.sizeOf2 rfl rfl f16 rfl rfl fun w18 S19 f20 => ⟨trivial, ?_⟩
 refine WO.fin ?_
 refine DN.seq ?_
 refine WC.seq ?_
 refine WC.rs [(0, 2), (1, 1), (2, 2), (3, 1)] rfl ?_
 refine WO.k2 rfl rfl rfl rfl (rn_fieldAddr Try.runUnderlying29 rfl Try.sizeOf2 rfl rfl) ?_
 have f21 := f17.stp S19 rfl rfl
 refine WO.k1 trivial rfl rfl rfl rfl (rn_ld Try.isAgg2 rfl rfl (hvE (f21.ld 2 rfl rfl))) ?_
 refine WO.k2 rfl rfl rfl rfl (rn_fieldAddr Try.runUnderlying36 rfl Try.sizeOf2 rfl rfl) ?_
 refine WO.stB (κ := K10) 4 (off := 2) (vc := [.int .i64 p0.N]) (cs' := [.int .i64 p0.Kind, .int .i64 p0.V, .int .i64 p0.N]) rfl rfl rfl rfl rfl rfl rfl Try.sizeOf2 rfl rfl f20 rfl rfl fun w22 S23 f24 => ⟨trivial, ?_⟩
 refine WO.fin ?_
 refine DN.seq ?_
 refine WC.seq ?_
 refine WC.rs [(0, 1), (1, 1)] rfl ?_
 refine WO.k1 trivial rfl rfl rfl rfl (rn_la (cs := [.int .i64 p0.Kind, .int .i64 p0.V, .int .i64 p0.N]) Try.isAgg36 Try.sizeOf36 rfl rfl rfl (haE f24.cells)) ?_
 have f25 := f8.stp (S11.tr (S15.tr (S19.tr S23))) rfl rfl
 refine WO.stB0 (κ := K10) 3 (vc := [.int .i64 p0.Kind, .int .i64 p0.V, .int .i64 p0.N]) rfl rfl rfl rfl rfl rfl rfl Try.sizeOf36 rfl rfl f25 rfl fun w26 S27 f28 => ⟨trivial, ?_⟩
 refine WO.fin ?_
 refine DN.seq ?_
 refine WC.ret ?_
 have f29 := hE.stp (S3.tr (S7.tr (S11.tr (S15.tr (S19.tr (S23.tr S27)))))) rfl rfl
 refine DN.res (l := [.cell 2 36]) Try.results10 (res_cellA rfl f28 Try.isAgg36 Try.sizeOf36 rfl rfl) rfl ?_
 obtain rfl := Option.some.inj h
 exact ⟨K10, rfl, f29⟩

/- loop.example/g00869/spec.l16Has -/
theorem s_l16Has_ok {w : World} {κ : Col} {a0 : Option Addr} {u0 : Nat} {p0 : (List Int)} {p1 : Int} (g0 : Rd (Rp.int .i64) κ w 0 a0 u0 p0) {r : Bool} (h : s_l16Has p0 p1 = some r) : Ret Try.prog 76 [.slice a0 p0.length u0, .int .i64 p1] w (fun v w' => ∃ (κ' : Col), v = .bool r ∧ Ent κ w κ' w') := by
 unfold s_l16Has at h
 refine Ret.enter Try.func76 rfl Try.ntmps76 rfl ?_
 dsimp only [envOf]
 have hE := Ent.refl κ w
 refine WC.seq ?_
 refine WC.rs [(0, 2)] rfl ?_
 refine WO.pn 1 rfl ?_
 refine WO.fin ?_
 refine DN.seq ?_
 refine WC.seq ?_
 refine WC.seq ?_
 refine WC.rs [(0, 2)] rfl ?_
 refine WO.pn 1 rfl ?_
 refine WO.fin ?_
 refine DN.seq ?_
 have hN1 : (p0.length : Int) ≤ 9223372036854775807 := g0.len_le
 obtain ⟨q2, hq3, hK2⟩ := Option.bind_eq_some_iff.mp h
 clear h
 refine WC.meet (fun L w' => ∃ (κ' : Col), L = [] ∧ Stp [] κ w κ' w' ∧ q2 = Sum.inr ()) ?_ ?_
 ·
  refine WC.block ?_
  refine WC.loop (fun k L w' => ∃ (κ' : Col) (v5 : Int), L = [(0, .slice a0 p0.length u0), (1, .int .i64 p1), (5, .int .i64 v5)] ∧ Stp [] κ w κ' w' ∧ 0 ≤ v5 ∧ Int.toNat ((p0.length : Int) - v5) = k ∧ cntM (s_l16Has_b0 p0 p1) k v5 () = some q2) ⟨_, _, ⟨κ, 0, rfl, (Stp.refl _ _).wk rfl, (by decide), (by simp), hq3⟩, fun a ha => (ha.more (ha.more (ha.more ha.nil rfl) rfl) rfl)⟩ ?_
  rintro k _ w7 ⟨K8, v5, rfl, S9, hj1, hJ1, h⟩
  rcases k with _ | k
  ·
   have hk10 := h; obtain ⟨o1, h⟩ := ex_eq (Sum.inr (Sum.inl ()) : Bool ⊕ ((Unit) ⊕ (Unit)))
   have hc1 : decide (v5 < (p0.length : Int)) = false := decide_eq_false (by omega)
   refine WC.seq ?_
   refine WC.seq ?_
   refine WC.rs [(0, 2), (1, 2), (2, 2), (3, 2)] rfl ?_
   refine WO.pn 2 rfl ?_
   refine WO.k2 rfl rfl rfl rfl (rn_len Try.runUnderlying22 rfl rfl) ?_
   refine WO.pn 1 rfl ?_
   refine WO.fin ?_
   refine DN.seq ?_
   refine WC.cf' rfl hc1 ?_
   refine WC.exit ?_
   refine DN.exitThen ?_
   refine DN.exitThen ?_
   obtain rfl := Option.some.inj h
   have h := hk10
   refine DN.hit ?_
   obtain rfl := Option.some.inj h
   exact DN.meet _ ⟨K8, rfl, S9.wk rfl, rfl⟩ fun a ha => ha.nil
  ·
   obtain ⟨o1, h, hk10⟩ := Option.bind_eq_some_iff.mp h; unfold s_l16Has_b0 at h
   have hc1 : decide (v5 < (p0.length : Int)) = true := decide_eq_true (by omega)
   refine WC.seq ?_
   refine WC.seq ?_
   refine WC.rs [(0, 2), (1, 2), (2, 2), (3, 2)] rfl ?_
   refine WO.pn 2 rfl ?_
   refine WO.k2 rfl rfl rfl rfl (rn_len Try.runUnderlying22 rfl rfl) ?_
   refine WO.pn 1 rfl ?_
   refine WO.fin ?_
   refine DN.seq ?_
   refine WC.ct' rfl hc1 ?_
   refine WC.skip ?_
   refine DN.seq ?_
   refine WC.seq ?_
   refine WC.block ?_
   refine WC.seq ?_
   refine WC.rs [(0, 2), (1, 2), (2, 2), (3, 1), (4, 2), (5, 2)] rfl ?_
   refine WO.pn 2 rfl ?_
   obtain ⟨x14, hx14, h⟩ := Option.bind_eq_some_iff.mp h
   refine WO.k2 rfl rfl rfl rfl (rn_index g0 hx14 Try.runUnderlying22 Try.sizeOf2 rfl rfl rfl rfl) ?_
   have f11 := g0.stp S9 rfl rfl
   refine WO.k1 trivial rfl rfl rfl rfl (rn_ld Try.isAgg2 rfl rfl (hvE (f11.gInt hx14))) ?_
   refine WO.pn 2 rfl ?_
   refine WO.fin ?_
   refine DN.seq ?_
   revert h
   cases ht12 : (x14 == p1) with
   | true =>
    intro h; replace h := cT h
    refine WC.ct rfl ?_
    refine WC.seq ?_
    refine WC.rs [(0, 2)] rfl ?_
    refine WO.pn 1 rfl ?_
    refine WO.fin ?_
    refine DN.seq ?_
    refine WC.ret ?_
    refine DN.retBlock ?_
    refine DN.retThen ?_
    refine DN.retThen ?_
    obtain rfl := Option.some.inj h
    obtain rfl := Option.some.inj hk10
    have h := hK2
    dsimp only [aft] at h
    refine DN.retBlock ?_
    refine DN.retMeet ?_
    refine DN.retThen ?_
    have f13 := hE.stp S9 rfl rfl
    refine DN.res (l := [.tmp 4]) Try.results76 (res_tmp rfl rfl) rfl ?_
    obtain rfl := Option.some.inj h
    exact ⟨K8, rfl, f13⟩
   | false =>
    intro h; replace h := cF h
    refine WC.cf rfl ?_
    refine WC.skip ?_
    refine DN.block ?_
    refine DN.seq ?_
    refine WC.rs [(0, 2), (1, 2), (2, 2)] rfl ?_
    refine WO.pn 3 rfl ?_
    refine WO.fin ?_
    have hw1 : IntKind.wrap .i64 (v5 + 1) = v5 + 1 := wr1 hj1 (of_decide_eq_true hc1) hN1
    rw [hw1]
    have hc1 := of_decide_eq_true hc1
    obtain rfl := Option.some.inj h
    refine DN.round fun a ha => ?_
    exact ⟨k, _, Nat.lt_succ_self _, ⟨K8, v5 + 1, rfl, S9.wk rfl, by omega, by omega, hk10⟩, (ha.more (ha.more (ha.more ha.nil rfl) rfl) rfl)⟩
 rintro _ w4 ⟨K5, rfl, S6, rfl⟩
 have h := hK2
 dsimp only [aft] at h
 refine DN.seq ?_
 refine WC.seq ?_
 refine WC.rs [(0, 2)] rfl ?_
 refine WO.pn 1 rfl ?_
 refine WO.fin ?_
 refine DN.seq ?_
 refine WC.ret ?_
 have f14 := hE.stp S6 rfl rfl
 refine DN.res (l := [.tmp 4]) Try.results76 (res_tmp rfl rfl) rfl ?_
 obtain rfl := Option.some.inj h
 exact ⟨K5, rfl, f14⟩

/- loop.example/g00869/spec.l7Of -/
theorem s_l7Of_ok {w : World} {κ : Col} {a0_0_0 : Option Addr} {u0_0_0 : Nat} {a0_0_1 : Option Addr} {u0_0_1 : Nat} {a0_1 : Option Addr} {u0_1 : Nat} {p0 : Parity} (g0_0_0 : Rd (Rp.int .i64) κ w 0 a0_0_0 u0_0_0 p0.Arena.Owner) (g0_0_1 : Rd (Rp.sl (Rp.int .i64)) κ w 0 a0_0_1 u0_0_1 p0.Arena.Next) (g0_1 : Rd (Rp.int .i64) κ w 0 a0_1 u0_1 p0.Prio) {r : l7Game} (h : s_l7Of p0 = some r) : Ret Try.prog 78 [.agg #[.slice a0_0_0 p0.Arena.Owner.length u0_0_0, .slice a0_0_1 p0.Arena.Next.length u0_0_1, .slice a0_1 p0.Prio.length u0_1]] w (fun v w' => ∃ (κ' : Col) (ra0 : Option Addr) (ru0 : Nat) (ra1 : Option Addr) (ru1 : Nat) (ra2 : Option Addr) (ru2 : Nat) (ra3 : Option Addr) (ru3 : Nat) (ra4 : Option Addr) (ru4 : Nat), v = .agg #[.slice ra0 r.owner.length ru0, .slice ra1 r.prio.length ru1, .slice ra2 r.next.length ru2, .slice ra3 r.prev.length ru3, .slice ra4 r.pick.length ru4] ∧ Ent κ w κ' w' ∧ Rd (Rp.int .i64) κ' w' 0 ra0 ru0 r.owner ∧ Rd (Rp.int .i64) κ' w' 0 ra1 ru1 r.prio ∧ Rd (Rp.sl (Rp.int .i64)) κ' w' 0 ra2 ru2 r.next ∧ Oc (Ep.own (Ep.int .i64) 2) 22 κ' w' 5 ra3 ru3 r.prev ∧ Oc (Ep.int .i64) 2 κ' w' 6 ra4 ru4 r.pick) := by
 unfold s_l7Of at h
 refine Ret.enter Try.func78 rfl Try.ntmps78 rfl ?_
 dsimp only [envOf]
 have hE := Ent.refl κ w
 refine WC.seq ?_
 refine WC.rs [(0, 1), (1, 1)] rfl ?_
 refine WO.box (κ := κ) 2 rfl rfl rfl rfl rfl rfl rfl fun b1 w1 K2 S3 f4 => ⟨trivial, ?_⟩
 refine WO.alloc (κ := K2) 3 rfl rfl rfl rfl rfl Try.zeroValue121 rfl fun b2 w5 K6 S7 f8 => ⟨trivial, ?_⟩
 refine WO.fin ?_
 refine DN.seq ?_
 refine WC.seq ?_
 refine WC.rs [(0, 2), (1, 1), (2, 2), (3, 2)] rfl ?_
 refine WO.k2 rfl rfl rfl rfl (rn_fieldAddr Try.runUnderlying34 rfl Try.sizeOf22 rfl rfl) ?_
 have f9 := f4.stp S7 rfl rfl
 refine WO.k1 trivial rfl rfl rfl rfl (rn_ld Try.isAgg22 rfl rfl (hvE (f9.ld 2 rfl rfl))) ?_
 refine WO.k2 rfl rfl rfl rfl (rn_len Try.runUnderlying22 rfl rfl) ?_
 refine WO.pn 1 rfl ?_
 refine WO.fin ?_
 refine DN.seq ?_
 refine WC.seq ?_
 obtain ⟨x20, hx20, h⟩ := Option.bind_eq_some_iff.mp h
 obtain ⟨x22, hx22, h⟩ := Option.bind_eq_some_iff.mp h
 refine WC.meet (fun L w' => ∃ (κ' : Col) (b4 : Nat) (lar13_0 : Option Addr) (lur13_0 : Nat) (lar13_1 : Option Addr) (lur13_1 : Nat) (lar13_2 : Option Addr) (lur13_2 : Nat) (lar13_3 : Option Addr) (lur13_3 : Nat) (lar13_4 : Option Addr) (lur13_4 : Nat), L = [(1, .pointer (some ⟨b1, 0, none⟩)), (2, .pointer (some ⟨b2, 0, none⟩)), (3, .int .i64 (p0.Prio.length : Int)), (4, .pointer (some ⟨b4, 0, none⟩))] ∧ Stp [4, 5, 6] K6 w5 κ' w' ∧ Rd (Rp.int .i64) κ' w' 0 lar13_0 lur13_0 ((⟨p0.Arena.Owner, p0.Prio, p0.Arena.Next, x20, x22⟩ : l7Game).owner) ∧ Rd (Rp.int .i64) κ' w' 0 lar13_1 lur13_1 ((⟨p0.Arena.Owner, p0.Prio, p0.Arena.Next, x20, x22⟩ : l7Game).prio) ∧ Rd (Rp.sl (Rp.int .i64)) κ' w' 0 lar13_2 lur13_2 ((⟨p0.Arena.Owner, p0.Prio, p0.Arena.Next, x20, x22⟩ : l7Game).next) ∧ Oc (Ep.own (Ep.int .i64) 2) 22 κ' w' 4 lar13_3 lur13_3 ((⟨p0.Arena.Owner, p0.Prio, p0.Arena.Next, x20, x22⟩ : l7Game).prev) ∧ Oc (Ep.int .i64) 2 κ' w' 5 lar13_4 lur13_4 ((⟨p0.Arena.Owner, p0.Prio, p0.Arena.Next, x20, x22⟩ : l7Game).pick) ∧ Bc κ' w' 6 b4 121 [.slice lar13_0 ((⟨p0.Arena.Owner, p0.Prio, p0.Arena.Next, x20, x22⟩ : l7Game).owner).length lur13_0, .slice lar13_1 ((⟨p0.Arena.Owner, p0.Prio, p0.Arena.Next, x20, x22⟩ : l7Game).prio).length lur13_1, .slice lar13_2 ((⟨p0.Arena.Owner, p0.Prio, p0.Arena.Next, x20, x22⟩ : l7Game).next).length lur13_2, .slice lar13_3 ((⟨p0.Arena.Owner, p0.Prio, p0.Arena.Next, x20, x22⟩ : l7Game).prev).length lur13_3, .slice lar13_4 ((⟨p0.Arena.Owner, p0.Prio, p0.Arena.Next, x20, x22⟩ : l7Game).pick).length lur13_4]) ?_ ?_
 ·
  refine WC.rxt (κ := K6) [2] none (by kernel_rfl) fun w20 S21 => ?_
  refine WA.seg (fuel := 5) [(0, 2), (1, 2), (3, 2), (5, 2), (6, 2), (8, 2), (10, 2), (2, 0), (4, 0), (7, 0)] (by kernel_rfl) (by kernel_rfl) rfl ?_
  refine WO.k2 rfl rfl rfl rfl (rn_fieldAddr Try.runUnderlying34 rfl Try.sizeOf32 rfl rfl) ?_
  refine WO.k2 rfl rfl rfl rfl (rn_fieldAddr Try.runUnderlying32 rfl Try.sizeOf22 rfl rfl) ?_
  refine WO.k2 rfl rfl rfl rfl (rn_fieldAddr Try.runUnderlying34 rfl Try.sizeOf22 rfl rfl) ?_
  refine WO.k2 rfl rfl rfl rfl (rn_fieldAddr Try.runUnderlying34 rfl Try.sizeOf32 rfl rfl) ?_
  refine WO.k2 rfl rfl rfl rfl (rn_fieldAddr Try.runUnderlying32 rfl Try.sizeOf23 rfl rfl) ?_
  refine WO.pn 2 rfl ?_
  have f22 := f9.stp S21 rfl rfl
  refine WO.k0 rfl rfl rfl rfl (rn_ld Try.isAgg22 rfl rfl (hvC (f22.ld 0 rfl rfl) rfl)) ?_
  refine WO.k0 rfl rfl rfl rfl (rn_ld Try.isAgg22 rfl rfl (hvC (f22.ld 2 rfl rfl) rfl)) ?_
  refine WO.k0 rfl rfl rfl rfl (rn_ld Try.isAgg23 rfl rfl (hvC (f22.ld 1 rfl rfl) rfl)) ?_
  refine WO.wa ?_
  refine WA.fork3 (fuel := 4) 9 11 13 (by kernel_rfl) rfl ?_ ?_ ?_
  ·
   refine WO.mk (κ := K6) (E := (Ep.own (Ep.int .i64) 2)) (z := (([] : List Int) : (List Int))) 4 rfl rfl rfl rfl rfl rfl rfl Try.underlying23 Tryinfo22 rfl rfl rfl rfl rfl (fun _ _ _ => ⟨none, 0, rfl, Ow.nil⟩) (mkS_C hx20) fun a20 u20 w23 K24 S25 f26 => ⟨(S25.cl rfl), ?_⟩
   refine WO.wa ?_
   refine WA.fork2 (fuel := 3) 11 13 (by kernel_rfl) rfl ?_ ?_
   ·
    refine WO.mk (κ := K24) (E := (Ep.int .i64)) (z := (0 : Int)) 5 rfl rfl rfl rfl rfl rfl rfl Try.underlying22 Tryinfo2 rfl rfl rfl rfl rfl (fun _ _ _ => rfl) (mkS_C hx22) fun a22 u22 w27 K28 S29 f30 => ⟨((S25.tr S29).cl rfl), ?_⟩
    refine WO.wa ?_
    refine WA.seg (fuel := 0) [(12, 2), (13, 1), (14, 1)] (by kernel_rfl) (by kernel_rfl) rfl ?_
    refine WO.k2 rfl rfl rfl rfl (rn_build (parts := [(0, .tmp 13), (1, .tmp 15), (2, .tmp 18), (3, .tmp 20), (4, .tmp 22)]) (cells := [.slice a0_0_0 p0.Arena.Owner.length u0_0_0, .slice a0_1 p0.Prio.length u0_1, .slice a0_0_1 p0.Arena.Next.length u0_0_1, .slice a20 x20.length u20, .slice a22 x22.length u22]) rfl rfl (by kernel_rfl)) ?_
    refine WO.alloc (κ := K28) 6 rfl rfl rfl rfl rfl Try.zeroValue121 rfl fun b4 w31 K32 S33 f34 => ⟨((S25.tr (S29.tr S33)).cl rfl), ?_⟩
    refine WO.stB0 (κ := K32) 6 (vc := [.slice a0_0_0 p0.Arena.Owner.length u0_0_0, .slice a0_1 p0.Prio.length u0_1, .slice a0_0_1 p0.Arena.Next.length u0_0_1, .slice a20 x20.length u20, .slice a22 x22.length u22]) rfl rfl rfl rfl rfl rfl rfl Try.sizeOf121 rfl rfl f34 rfl fun w35 S36 f37 => ⟨((S25.tr (S29.tr (S33.tr S36))).cl rfl), ?_⟩
    refine WO.wa ?_
    refine WA.last [] (by kernel_rfl) (by kernel_rfl) rfl ?_
    refine WO.fin ?_
    have f38 := g0_0_0.stp (S3.tr (S7.tr (S21.tr (S25.tr (S29.tr (S33.tr S36)))))) rfl rfl
    have f39 := g0_1.stp (S3.tr (S7.tr (S21.tr (S25.tr (S29.tr (S33.tr S36)))))) rfl rfl
    have f40 := g0_0_1.stp (S3.tr (S7.tr (S21.tr (S25.tr (S29.tr (S33.tr S36)))))) rfl rfl
    have f41 := f26.stp (S29.tr (S33.tr S36)) rfl rfl
    have f42 := f30.stp (S33.tr S36) rfl rfl
    exact DN.meet _ ⟨K32, b4, a0_0_0, u0_0_0, a0_1, u0_1, a0_0_1, u0_0_1, a20, u20, a22, u22, rfl, (S21.tr (S25.tr (S29.tr (S33.tr S36)))).wk rfl, f38, f39, f40, f41, f42, f37⟩ fun a ha => (ha.more (ha.more (ha.more (ha.more ha.nil rfl) rfl) rfl) rfl)
   ·
    refine WO.alloc (κ := K24) 5 rfl rfl rfl rfl rfl Try.zeroValue121 rfl fun b4 w43 K44 S45 f46 => ⟨((S25.tr S45).cl rfl), ?_⟩
    refine WO.wa ?_
    refine WA.seg (fuel := 0) [(11, 1), (12, 2), (14, 1)] (by kernel_rfl) (by kernel_rfl) rfl ?_
    refine WO.mk (κ := K44) (E := (Ep.int .i64)) (z := (0 : Int)) 6 rfl rfl rfl rfl rfl rfl rfl Try.underlying22 Tryinfo2 rfl rfl rfl rfl rfl (fun _ _ _ => rfl) (mkS_C hx22) fun a22 u22 w47 K48 S49 f50 => ⟨((S25.tr (S45.tr S49)).cl rfl), ?_⟩
    refine WO.k2 rfl rfl rfl rfl (rn_build (parts := [(0, .tmp 13), (1, .tmp 15), (2, .tmp 18), (3, .tmp 20), (4, .tmp 22)]) (cells := [.slice a0_0_0 p0.Arena.Owner.length u0_0_0, .slice a0_1 p0.Prio.length u0_1, .slice a0_0_1 p0.Arena.Next.length u0_0_1, .slice a20 x20.length u20, .slice a22 x22.length u22]) rfl rfl (by kernel_rfl)) ?_
    have f51 := f46.stp S49 rfl rfl
    refine WO.stB0 (κ := K48) 5 (vc := [.slice a0_0_0 p0.Arena.Owner.length u0_0_0, .slice a0_1 p0.Prio.length u0_1, .slice a0_0_1 p0.Arena.Next.length u0_0_1, .slice a20 x20.length u20, .slice a22 x22.length u22]) rfl rfl rfl rfl rfl rfl rfl Try.sizeOf121 rfl rfl f51 rfl fun w52 S53 f54 => ⟨((S25.tr (S45.tr (S49.tr S53))).cl rfl), ?_⟩
    refine WO.wa ?_
    refine WA.last [] (by kernel_rfl) (by kernel_rfl) rfl ?_
    refine WO.fin ?_
    have f55 := g0_0_0.stp (S3.tr (S7.tr (S21.tr (S25.tr (S45.tr (S49.tr S53)))))) rfl rfl
    have f56 := g0_1.stp (S3.tr (S7.tr (S21.tr (S25.tr (S45.tr (S49.tr S53)))))) rfl rfl
    have f57 := g0_0_1.stp (S3.tr (S7.tr (S21.tr (S25.tr (S45.tr (S49.tr S53)))))) rfl rfl
    have f58 := f26.stp (S45.tr (S49.tr S53)) rfl rfl
    have f59 := f50.stp S53 rfl rfl
    exact DN.meet _ ⟨(fun b => ren [(6, 5), (5, 6)] (K48 b)), b4, a0_0_0, u0_0_0, a0_1, u0_1, a0_0_1, u0_0_1, a20, u20, a22, u22, rfl, (Stp.ren ((S21.tr (S25.tr (S45.tr (S49.tr S53)))).wk rfl) [(6, 5), (5, 6)] rfl), (f55.map (ren [(6, 5), (5, 6)]) rfl rfl), (f56.map (ren [(6, 5), (5, 6)]) rfl rfl), (f57.map (ren [(6, 5), (5, 6)]) rfl rfl), (f58.map (ren [(6, 5), (5, 6)]) rfl rfl), (f59.map (ren [(6, 5), (5, 6)]) rfl rfl), (f54.map (ren [(6, 5), (5, 6)]) rfl rfl)⟩ fun a ha => (ha.more (ha.more (ha.more (ha.more ha.nil rfl) rfl) rfl) rfl)
  ·
   refine WO.mk (κ := K6) (E := (Ep.int .i64)) (z := (0 : Int)) 4 rfl rfl rfl rfl rfl rfl rfl Try.underlying22 Tryinfo2 rfl rfl rfl rfl rfl (fun _ _ _ => rfl) (mkS_C hx22) fun a22 u22 w60 K61 S62 f63 => ⟨(S62.cl rfl), ?_⟩
   refine WO.wa ?_
   refine WA.fork2 (fuel := 3) 9 13 (by kernel_rfl) rfl ?_ ?_
   ·
    refine WO.mk (κ := K61) (E := (Ep.own (Ep.int .i64) 2)) (z := (([] : List Int) : (List Int))) 5 rfl rfl rfl rfl rfl rfl rfl Try.underlying23 Tryinfo22 rfl rfl rfl rfl rfl (fun _ _ _ => ⟨none, 0, rfl, Ow.nil⟩) (mkS_C hx20) fun a20 u20 w64 K65 S66 f67 => ⟨((S62.tr S66).cl rfl), ?_⟩
    refine WO.wa ?_
    refine WA.seg (fuel := 0) [(12, 2), (13, 1), (14, 1)] (by kernel_rfl) (by kernel_rfl) rfl ?_
    refine WO.k2 rfl rfl rfl rfl (rn_build (parts := [(0, .tmp 13), (1, .tmp 15), (2, .tmp 18), (3, .tmp 20), (4, .tmp 22)]) (cells := [.slice a0_0_0 p0.Arena.Owner.length u0_0_0, .slice a0_1 p0.Prio.length u0_1, .slice a0_0_1 p0.Arena.Next.length u0_0_1, .slice a20 x20.length u20, .slice a22 x22.length u22]) rfl rfl (by kernel_rfl)) ?_
    refine WO.alloc (κ := K65) 6 rfl rfl rfl rfl rfl Try.zeroValue121 rfl fun b4 w68 K69 S70 f71 => ⟨((S62.tr (S66.tr S70)).cl rfl), ?_⟩
    refine WO.stB0 (κ := K69) 6 (vc := [.slice a0_0_0 p0.Arena.Owner.length u0_0_0, .slice a0_1 p0.Prio.length u0_1, .slice a0_0_1 p0.Arena.Next.length u0_0_1, .slice a20 x20.length u20, .slice a22 x22.length u22]) rfl rfl rfl rfl rfl rfl rfl Try.sizeOf121 rfl rfl f71 rfl fun w72 S73 f74 => ⟨((S62.tr (S66.tr (S70.tr S73))).cl rfl), ?_⟩
    refine WO.wa ?_
    refine WA.last [] (by kernel_rfl) (by kernel_rfl) rfl ?_
    refine WO.fin ?_
    have f75 := g0_0_0.stp (S3.tr (S7.tr (S21.tr (S62.tr (S66.tr (S70.tr S73)))))) rfl rfl
    have f76 := g0_1.stp (S3.tr (S7.tr (S21.tr (S62.tr (S66.tr (S70.tr S73)))))) rfl rfl
    have f77 := g0_0_1.stp (S3.tr (S7.tr (S21.tr (S62.tr (S66.tr (S70.tr S73)))))) rfl rfl
    have f78 := f67.stp (S70.tr S73) rfl rfl
    have f79 := f63.stp (S66.tr (S70.tr S73)) rfl rfl
    exact DN.meet _ ⟨(fun b => ren [(5, 4), (4, 5)] (K69 b)), b4, a0_0_0, u0_0_0, a0_1, u0_1, a0_0_1, u0_0_1, a20, u20, a22, u22, rfl, (Stp.ren ((S21.tr (S62.tr (S66.tr (S70.tr S73)))).wk rfl) [(5, 4), (4, 5)] rfl), (f75.map (ren [(5, 4), (4, 5)]) rfl rfl), (f76.map (ren [(5, 4), (4, 5)]) rfl rfl), (f77.map (ren [(5, 4), (4, 5)]) rfl rfl), (f78.map (ren [(5, 4), (4, 5)]) rfl rfl), (f79.map (ren [(5, 4), (4, 5)]) rfl rfl), (f74.map (ren [(5, 4), (4, 5)]) rfl rfl)⟩ fun a ha => (ha.more (ha.more (ha.more (ha.more ha.nil rfl) rfl) rfl) rfl)
   ·
    refine WO.alloc (κ := K61) 5 rfl rfl rfl rfl rfl Try.zeroValue121 rfl fun b4 w80 K81 S82 f83 => ⟨((S62.tr S82).cl rfl), ?_⟩
    refine WO.wa ?_
    refine WA.seg (fuel := 0) [(9, 1), (12, 2), (14, 1)] (by kernel_rfl) (by kernel_rfl) rfl ?_
    refine WO.mk (κ := K81) (E := (Ep.own (Ep.int .i64) 2)) (z := (([] : List Int) : (List Int))) 6 rfl rfl rfl rfl rfl rfl rfl Try.underlying23 Tryinfo22 rfl rfl rfl rfl rfl (fun _ _ _ => ⟨none, 0, rfl, Ow.nil⟩) (mkS_C hx20) fun a20 u20 w84 K85 S86 f87 => ⟨((S62.tr (S82.tr S86)).cl rfl), ?_⟩
    refine WO.k2 rfl rfl rfl rfl (rn_build (parts := [(0, .tmp 13), (1, .tmp 15), (2, .tmp 18), (3, .tmp 20), (4, .tmp 22)]) (cells := [.slice a0_0_0 p0.Arena.Owner.length u0_0_0, .slice a0_1 p0.Prio.length u0_1, .slice a0_0_1 p0.Arena.Next.length u0_0_1, .slice a20 x20.length u20, .slice a22 x22.length u22]) rfl rfl (by kernel_rfl)) ?_
    have f88 := f83.stp S86 rfl rfl
    refine WO.stB0 (κ := K85) 5 (vc := [.slice a0_0_0 p0.Arena.Owner.length u0_0_0, .slice a0_1 p0.Prio.length u0_1, .slice a0_0_1 p0.Arena.Next.length u0_0_1, .slice a20 x20.length u20, .slice a22 x22.length u22]) rfl rfl rfl rfl rfl rfl rfl Try.sizeOf121 rfl rfl f88 rfl fun w89 S90 f91 => ⟨((S62.tr (S82.tr (S86.tr S90))).cl rfl), ?_⟩
    refine WO.wa ?_
    refine WA.last [] (by kernel_rfl) (by kernel_rfl) rfl ?_
    refine WO.fin ?_
    have f92 := g0_0_0.stp (S3.tr (S7.tr (S21.tr (S62.tr (S82.tr (S86.tr S90)))))) rfl rfl
    have f93 := g0_1.stp (S3.tr (S7.tr (S21.tr (S62.tr (S82.tr (S86.tr S90)))))) rfl rfl
    have f94 := g0_0_1.stp (S3.tr (S7.tr (S21.tr (S62.tr (S82.tr (S86.tr S90)))))) rfl rfl
    have f95 := f87.stp S90 rfl rfl
    have f96 := f63.stp (S82.tr (S86.tr S90)) rfl rfl
    exact DN.meet _ ⟨(fun b => ren [(6, 4), (4, 5), (5, 6)] (K85 b)), b4, a0_0_0, u0_0_0, a0_1, u0_1, a0_0_1, u0_0_1, a20, u20, a22, u22, rfl, (Stp.ren ((S21.tr (S62.tr (S82.tr (S86.tr S90)))).wk rfl) [(6, 4), (4, 5), (5, 6)] rfl), (f92.map (ren [(6, 4), (4, 5), (5, 6)]) rfl rfl), (f93.map (ren [(6, 4), (4, 5), (5, 6)]) rfl rfl), (f94.map (ren [(6, 4), (4, 5), (5, 6)]) rfl rfl), (f95.map (ren [(6, 4), (4, 5), (5, 6)]) rfl rfl), (f96.map (ren [(6, 4), (4, 5), (5, 6)]) rfl rfl), (f91.map (ren [(6, 4), (4, 5), (5, 6)]) rfl rfl)⟩ fun a ha => (ha.more (ha.more (ha.more (ha.more ha.nil rfl) rfl) rfl) rfl)
  ·
   refine WO.alloc (κ := K6) 4 rfl rfl rfl rfl rfl Try.zeroValue121 rfl fun b4 w97 K98 S99 f100 => ⟨(S99.cl rfl), ?_⟩
   refine WO.wa ?_
   refine WA.fork2 (fuel := 3) 9 11 (by kernel_rfl) rfl ?_ ?_
   ·
    refine WO.mk (κ := K98) (E := (Ep.own (Ep.int .i64) 2)) (z := (([] : List Int) : (List Int))) 5 rfl rfl rfl rfl rfl rfl rfl Try.underlying23 Tryinfo22 rfl rfl rfl rfl rfl (fun _ _ _ => ⟨none, 0, rfl, Ow.nil⟩) (mkS_C hx20) fun a20 u20 w101 K102 S103 f104 => ⟨((S99.tr S103).cl rfl), ?_⟩
    refine WO.wa ?_
    refine WA.seg (fuel := 0) [(11, 1), (12, 2), (14, 1)] (by kernel_rfl) (by kernel_rfl) rfl ?_
    refine WO.mk (κ := K102) (E := (Ep.int .i64)) (z := (0 : Int)) 6 rfl rfl rfl rfl rfl rfl rfl Try.underlying22 Tryinfo2 rfl rfl rfl rfl rfl (fun _ _ _ => rfl) (mkS_C hx22) fun a22 u22 w105 K106 S107 f108 => ⟨((S99.tr (S103.tr S107)).cl rfl), ?_⟩
    refine WO.k2 rfl rfl rfl rfl (rn_build (parts := [(0, .tmp 13), (1, .tmp 15), (2, .tmp 18), (3, .tmp 20), (4, .tmp 22)]) (cells := [.slice a0_0_0 p0.Arena.Owner.length u0_0_0, .slice a0_1 p0.Prio.length u0_1, .slice a0_0_1 p0.Arena.Next.length u0_0_1, .slice a20 x20.length u20, .slice a22 x22.length u22]) rfl rfl (by kernel_rfl)) ?_
    have f109 := f100.stp (S103.tr S107) rfl rfl
    refine WO.stB0 (κ := K106) 4 (vc := [.slice a0_0_0 p0.Arena.Owner.length u0_0_0, .slice a0_1 p0.Prio.length u0_1, .slice a0_0_1 p0.Arena.Next.length u0_0_1, .slice a20 x20.length u20, .slice a22 x22.length u22]) rfl rfl rfl rfl rfl rfl rfl Try.sizeOf121 rfl rfl f109 rfl fun w110 S111 f112 => ⟨((S99.tr (S103.tr (S107.tr S111))).cl rfl), ?_⟩
    refine WO.wa ?_
    refine WA.last [] (by kernel_rfl) (by kernel_rfl) rfl ?_
    refine WO.fin ?_
    have f113 := g0_0_0.stp (S3.tr (S7.tr (S21.tr (S99.tr (S103.tr (S107.tr S111)))))) rfl rfl
    have f114 := g0_1.stp (S3.tr (S7.tr (S21.tr (S99.tr (S103.tr (S107.tr S111)))))) rfl rfl
    have f115 := g0_0_1.stp (S3.tr (S7.tr (S21.tr (S99.tr (S103.tr (S107.tr S111)))))) rfl rfl
    have f116 := f104.stp (S107.tr S111) rfl rfl
    have f117 := f108.stp S111 rfl rfl
    exact DN.meet _ ⟨(fun b => ren [(5, 4), (6, 5), (4, 6)] (K106 b)), b4, a0_0_0, u0_0_0, a0_1, u0_1, a0_0_1, u0_0_1, a20, u20, a22, u22, rfl, (Stp.ren ((S21.tr (S99.tr (S103.tr (S107.tr S111)))).wk rfl) [(5, 4), (6, 5), (4, 6)] rfl), (f113.map (ren [(5, 4), (6, 5), (4, 6)]) rfl rfl), (f114.map (ren [(5, 4), (6, 5), (4, 6)]) rfl rfl), (f115.map (ren [(5, 4), (6, 5), (4, 6)]) rfl rfl), (f116.map (ren [(5, 4), (6, 5), (4, 6)]) rfl rfl), (f117.map (ren [(5, 4), (6, 5), (4, 6)]) rfl rfl), (f112.map (ren [(5, 4), (6, 5), (4, 6)]) rfl rfl)⟩ fun a ha => (ha.more (ha.more (ha.more (ha.more ha.nil rfl) rfl) rfl) rfl)
   ·
    refine WO.mk (κ := K98) (E := (Ep.int .i64)) (z := (0 : Int)) 5 rfl rfl rfl rfl rfl rfl rfl Try.underlying22 Tryinfo2 rfl rfl rfl rfl rfl (fun _ _ _ => rfl) (mkS_C hx22) fun a22 u22 w118 K119 S120 f121 => ⟨((S99.tr S120).cl rfl), ?_⟩
    refine WO.wa ?_
    refine WA.seg (fuel := 0) [(9, 1), (12, 2), (14, 1)] (by kernel_rfl) (by kernel_rfl) rfl ?_
    refine WO.mk (κ := K119) (E := (Ep.own (Ep.int .i64) 2)) (z := (([] : List Int) : (List Int))) 6 rfl rfl rfl rfl rfl rfl rfl Try.underlying23 Tryinfo22 rfl rfl rfl rfl rfl (fun _ _ _ => ⟨none, 0, rfl, Ow.nil⟩) (mkS_C hx20) fun a20 u20 w122 K123 S124 f125 => ⟨((S99.tr (S120.tr S124)).cl rfl), ?_⟩
    refine WO.k2 rfl rfl rfl rfl (rn_build (parts := [(0, .tmp 13), (1, .tmp 15), (2, .tmp 18), (3, .tmp 20), (4, .tmp 22)]) (cells := [.slice a0_0_0 p0.Arena.Owner.length u0_0_0, .slice a0_1 p0.Prio.length u0_1, .slice a0_0_1 p0.Arena.Next.length u0_0_1, .slice a20 x20.length u20, .slice a22 x22.length u22]) rfl rfl (by kernel_rfl)) ?_
    have f126 := f100.stp (S120.tr S124) rfl rfl
    refine WO.stB0 (κ := K123) 4 (vc := [.slice a0_0_0 p0.Arena.Owner.length u0_0_0, .slice a0_1 p0.Prio.length u0_1, .slice a0_0_1 p0.Arena.Next.length u0_0_1, .slice a20 x20.length u20, .slice a22 x22.length u22]) rfl rfl rfl rfl rfl rfl rfl Try.sizeOf121 rfl rfl f126 rfl fun w127 S128 f129 => ⟨((S99.tr (S120.tr (S124.tr S128))).cl rfl), ?_⟩
    refine WO.wa ?_
    refine WA.last [] (by kernel_rfl) (by kernel_rfl) rfl ?_
    refine WO.fin ?_
    have f130 := g0_0_0.stp (S3.tr (S7.tr (S21.tr (S99.tr (S120.tr (S124.tr S128)))))) rfl rfl
    have f131 := g0_1.stp (S3.tr (S7.tr (S21.tr (S99.tr (S120.tr (S124.tr S128)))))) rfl rfl
    have f132 := g0_0_1.stp (S3.tr (S7.tr (S21.tr (S99.tr (S120.tr (S124.tr S128)))))) rfl rfl
    have f133 := f125.stp S128 rfl rfl
    have f134 := f121.stp (S124.tr S128) rfl rfl
    exact DN.meet _ ⟨(fun b => ren [(6, 4), (4, 6)] (K123 b)), b4, a0_0_0, u0_0_0, a0_1, u0_1, a0_0_1, u0_0_1, a20, u20, a22, u22, rfl, (Stp.ren ((S21.tr (S99.tr (S120.tr (S124.tr S128)))).wk rfl) [(6, 4), (4, 6)] rfl), (f130.map (ren [(6, 4), (4, 6)]) rfl rfl), (f131.map (ren [(6, 4), (4, 6)]) rfl rfl), (f132.map (ren [(6, 4), (4, 6)]) rfl rfl), (f133.map (ren [(6, 4), (4, 6)]) rfl rfl), (f134.map (ren [(6, 4), (4, 6)]) rfl rfl), (f129.map (ren [(6, 4), (4, 6)]) rfl rfl)⟩ fun a ha => (ha.more (ha.more (ha.more (ha.more ha.nil rfl) rfl) rfl) rfl)
 rintro _ w10 ⟨K11, b4, lar13_0, lur13_0, lar13_1, lur13_1, lar13_2, lur13_2, lar13_3, lur13_3, lar13_4, lur13_4, rfl, S12, f14, f15, f16, f17, f18, f19⟩
 refine DN.seq ?_
 refine WC.seq ?_
 refine WC.seq ?_
 refine WC.rs [(0, 2)] rfl ?_
 refine WO.pn 1 rfl ?_
 refine WO.fin ?_
 refine DN.seq ?_
 have hN135 : (p0.Prio.length : Int) ≤ 9223372036854775807 := g0_1.len_le
 obtain ⟨q2, hq137, hK136⟩ := Option.bind_eq_some_iff.mp h
 clear h
 refine WC.meet (fun L w' => ∃ (κ' : Col) (s3 : (List (List Int)) × (List Int)), L = [(2, .pointer (some ⟨b2, 0, none⟩)), (4, .pointer (some ⟨b4, 0, none⟩))] ∧ Stp [4, 5, 8] K11 w10 κ' w' ∧ Oc (Ep.own (Ep.int .i64) 2) 22 κ' w' 4 lar13_3 lur13_3 s3.1 ∧ ((⟨p0.Arena.Owner, p0.Prio, p0.Arena.Next, x20, x22⟩ : l7Game).prev).length = s3.1.length ∧ Oc (Ep.int .i64) 2 κ' w' 5 lar13_4 lur13_4 s3.2 ∧ ((⟨p0.Arena.Owner, p0.Prio, p0.Arena.Next, x20, x22⟩ : l7Game).pick).length = s3.2.length ∧ q2 = Sum.inr s3) ?_ ?_
 ·
  refine WC.block ?_
  refine WC.loop (fun k L w' => ∃ (κ' : Col) (v5 : Int) (s1 : (List (List Int)) × (List Int)), L = [(1, .pointer (some ⟨b1, 0, none⟩)), (2, .pointer (some ⟨b2, 0, none⟩)), (3, .int .i64 (p0.Prio.length : Int)), (4, .pointer (some ⟨b4, 0, none⟩)), (5, .int .i64 v5)] ∧ Stp [4, 5, 8] K11 w10 κ' w' ∧ Oc (Ep.own (Ep.int .i64) 2) 22 κ' w' 4 lar13_3 lur13_3 s1.1 ∧ ((⟨p0.Arena.Owner, p0.Prio, p0.Arena.Next, x20, x22⟩ : l7Game).prev).length = s1.1.length ∧ Oc (Ep.int .i64) 2 κ' w' 5 lar13_4 lur13_4 s1.2 ∧ ((⟨p0.Arena.Owner, p0.Prio, p0.Arena.Next, x20, x22⟩ : l7Game).pick).length = s1.2.length ∧ 0 ≤ v5 ∧ Int.toNat ((p0.Prio.length : Int) - v5) = k ∧ cntM (s_l7Of_b0 p0) k v5 s1 = some q2) ⟨_, _, ⟨K11, 0, (((⟨p0.Arena.Owner, p0.Prio, p0.Arena.Next, x20, x22⟩ : l7Game).prev : (List (List Int))), ((⟨p0.Arena.Owner, p0.Prio, p0.Arena.Next, x20, x22⟩ : l7Game).pick : (List Int))), rfl, (Stp.refl _ _).wk rfl, f17, rfl, f18, rfl, (by decide), (by simp), hq137⟩, fun a ha => (ha.more (ha.more (ha.more (ha.more (ha.more ha.nil rfl) rfl) rfl) rfl) rfl)⟩ ?_
  rintro k _ w145 ⟨K146, v5, s1, rfl, S147, f148, hn149, f150, hn151, hj135, hJ135, h⟩
  rcases k with _ | k
  ·
   have hk152 := h; obtain ⟨o135, h⟩ := ex_eq (Sum.inr (Sum.inl s1) : l7Game ⊕ (((List (List Int)) × (List Int)) ⊕ ((List (List Int)) × (List Int))))
   have hc135 : decide (v5 < (p0.Prio.length : Int)) = false := decide_eq_false (by omega)
   refine WC.seq ?_
   refine WC.seq ?_
   refine WC.rs [(0, 2), (1, 2), (2, 2)] rfl ?_
   refine WO.pn 3 rfl ?_
   refine WO.fin ?_
   refine DN.seq ?_
   refine WC.cf' rfl hc135 ?_
   refine WC.exit ?_
   refine DN.exitThen ?_
   refine DN.exitThen ?_
   obtain rfl := Option.some.inj h
   have h := hk152
   refine DN.hit ?_
   obtain rfl := Option.some.inj h
   exact DN.meet _ ⟨K146, ((s1.1 : (List (List Int))), (s1.2 : (List Int))), rfl, S147.wk rfl, f148, hn149, f150, hn151, rfl⟩ fun a ha => (ha.more (ha.more ha.nil rfl) rfl)
  ·
   obtain ⟨o135, h, hk152⟩ := Option.bind_eq_some_iff.mp h; unfold s_l7Of_b0 at h
   have hc135 : decide (v5 < (p0.Prio.length : Int)) = true := decide_eq_true (by omega)
   refine WC.seq ?_
   refine WC.seq ?_
   refine WC.rs [(0, 2), (1, 2), (2, 2)] rfl ?_
   refine WO.pn 3 rfl ?_
   refine WO.fin ?_
   refine DN.seq ?_
   refine WC.ct' rfl hc135 ?_
   refine WC.skip ?_
   refine DN.seq ?_
   refine WC.seq ?_
   refine WC.block ?_
   refine WC.seq ?_
   refine WC.rs [(0, 2), (1, 1), (2, 2), (3, 2), (4, 1)] rfl ?_
   refine WO.k2 rfl rfl rfl rfl (rn_fieldAddr Try.runUnderlying121 rfl Try.sizeOf22 rfl rfl) ?_
   have f153 := f19.stp S147 rfl rfl
   refine WO.k1 trivial rfl rfl rfl rfl (rn_ld Try.isAgg22 rfl rfl (hvE (f153.ld 4 rfl rfl))) ?_
   refine WO.pn 1 rfl ?_
   obtain ⟨x32, hx32, h⟩ := Option.bind_eq_some_iff.mp h
   refine WO.k2 rfl rfl rfl rfl (rn_index f150.rdc hx32 Try.runUnderlying22 Try.sizeOf2 rfl rfl hn151 rfl) ?_
   obtain ⟨y7, hy7, h⟩ := Option.bind_eq_some_iff.mp h
   refine WO.stI (κ := K146) (E := (Ep.int .i64)) 5 [] rfl rfl rfl rfl rfl rfl rfl rfl Try.sizeOf2 rfl rfl rfl rfl f150 hy7 fun w154 K155 S156 f157 => ⟨trivial, ?_⟩
   have hn158 : ((⟨p0.Arena.Owner, p0.Prio, p0.Arena.Next, x20, x22⟩ : l7Game).pick).length = y7.length := hn151.trans (setI_ok hy7).2.2.2.symm
   refine WO.fin ?_
   refine DN.seq ?_
   refine WC.seq ?_
   refine WC.rs [(0, 2)] rfl ?_
   refine WO.pn 1 rfl ?_
   refine WO.fin ?_
   refine DN.seq ?_
   obtain ⟨q5, hq161, hK160⟩ := Option.bind_eq_some_iff.mp h
   clear h
   refine WC.meet (fun L w' => ∃ (κ' : Col) (s6 : Int × (List (List Int))), L = [(1, .pointer (some ⟨b1, 0, none⟩)), (2, .pointer (some ⟨b2, 0, none⟩)), (3, .int .i64 (p0.Prio.length : Int)), (4, .pointer (some ⟨b4, 0, none⟩)), (5, .int .i64 v5)] ∧ Stp [4, 8] K155 w154 κ' w' ∧ Oc (Ep.own (Ep.int .i64) 2) 22 κ' w' 4 lar13_3 lur13_3 s6.2 ∧ ((⟨p0.Arena.Owner, p0.Prio, p0.Arena.Next, x20, x22⟩ : l7Game).prev).length = s6.2.length ∧ q5 = Sum.inr s6) ?_ ?_
   ·
    refine WC.block ?_
    have f172 := f148.stp S156 rfl rfl
    refine WC.loop (fun k L w' => ∃ (κ' : Col) (s4 : Int × (List (List Int))), L = [(1, .pointer (some ⟨b1, 0, none⟩)), (2, .pointer (some ⟨b2, 0, none⟩)), (3, .int .i64 (p0.Prio.length : Int)), (4, .pointer (some ⟨b4, 0, none⟩)), (5, .int .i64 v5), (6, .int .i64 s4.1)] ∧ Stp [4, 8] K155 w154 κ' w' ∧ Oc (Ep.own (Ep.int .i64) 2) 22 κ' w' 4 lar13_3 lur13_3 s4.2 ∧ ((⟨p0.Arena.Owner, p0.Prio, p0.Arena.Next, x20, x22⟩ : l7Game).prev).length = s4.2.length ∧ whileM (s_l7Of_b2 p0 v5) k s4 = some q5) ⟨_, _, ⟨K155, ((0 : Int), (s1.1 : (List (List Int)))), rfl, (Stp.refl _ _).wk rfl, f172, hn149, hq161⟩, fun a ha => (ha.more (ha.more (ha.more (ha.more (ha.more (ha.more ha.nil rfl) rfl) rfl) rfl) rfl) rfl)⟩ ?_
    rintro k _ w167 ⟨K168, s4, rfl, S169, f170, hn171, h⟩
    rcases k with _ | k
    ·
     cases h
    ·
     obtain ⟨o159, h, hk173⟩ := Option.bind_eq_some_iff.mp h; unfold s_l7Of_b2 at h
     refine WC.seq ?_
     refine WC.seq ?_
     refine WC.rs [(0, 2), (1, 2), (2, 2), (3, 1), (4, 2), (5, 2), (6, 1), (7, 2), (8, 2)] rfl ?_
     refine WO.pn 1 rfl ?_
     refine WO.k2 rfl rfl rfl rfl (rn_fieldAddr Try.runUnderlying34 rfl Try.sizeOf32 rfl rfl) ?_
     refine WO.k2 rfl rfl rfl rfl (rn_fieldAddr Try.runUnderlying32 rfl Try.sizeOf23 rfl rfl) ?_
     have f174 := f9.stp (S12.tr (S147.tr (S156.tr S169))) rfl rfl
     refine WO.k1 trivial rfl rfl rfl rfl (rn_ld Try.isAgg23 rfl rfl (hvE (f174.ld 1 rfl rfl))) ?_
     refine WO.pn 1 rfl ?_
     obtain ⟨x38, hx38, h⟩ := Option.bind_eq_some_iff.mp h
     refine WO.k2 rfl rfl rfl rfl (rn_index g0_0_1 hx38 Try.runUnderlying23 Try.sizeOf22 rfl rfl rfl rfl) ?_
     have f175 := g0_0_1.stp (S3.tr (S7.tr (S12.tr (S147.tr (S156.tr S169))))) rfl rfl
     obtain ⟨ax38, ux38, f176, hl177⟩ := f175.gSl hx38
     refine WO.k1 trivial rfl rfl rfl rfl (rn_ld Try.isAgg22 rfl rfl (hvE hl177)) ?_
     refine WO.k2 rfl rfl rfl rfl (rn_len Try.runUnderlying22 rfl rfl) ?_
     refine WO.pn 1 rfl ?_
     refine WO.fin ?_
     refine DN.seq ?_
     revert h
     cases ht178 : decide (s4.1 < (x38.length : Int)) with
     | true =>
      intro h; replace h := cT h
      refine WC.ct rfl ?_
      refine WC.skip ?_
      refine DN.seq ?_
      refine WC.seq ?_
      refine WC.block ?_
      refine WC.seq ?_
      refine WC.rs [(0, 2), (1, 2), (2, 1), (3, 2), (4, 2), (5, 1), (6, 2), (7, 2), (8, 1), (9, 2)] rfl ?_
      refine WO.k2 rfl rfl rfl rfl (rn_fieldAddr Try.runUnderlying34 rfl Try.sizeOf32 rfl rfl) ?_
      refine WO.k2 rfl rfl rfl rfl (rn_fieldAddr Try.runUnderlying32 rfl Try.sizeOf23 rfl rfl) ?_
      refine WO.k1 trivial rfl rfl rfl rfl (rn_ld Try.isAgg23 rfl rfl (hvE (f174.ld 1 rfl rfl))) ?_
      refine WO.pn 1 rfl ?_
      obtain ⟨x48, hx48, h⟩ := Option.bind_eq_some_iff.mp h
      refine WO.k2 rfl rfl rfl rfl (rn_index f175 hx48 Try.runUnderlying23 Try.sizeOf22 rfl rfl rfl rfl) ?_
      obtain ⟨ax48, ux48, f179, hl180⟩ := f175.gSl hx48
      refine WO.k1 trivial rfl rfl rfl rfl (rn_ld Try.isAgg22 rfl rfl (hvE hl180)) ?_
      refine WO.pn 1 rfl ?_
      obtain ⟨x51, hx51, h⟩ := Option.bind_eq_some_iff.mp h
      refine WO.k2 rfl rfl rfl rfl (rn_index f179 hx51 Try.runUnderlying22 Try.sizeOf2 rfl rfl rfl rfl) ?_
      refine WO.k1 trivial rfl rfl rfl rfl (rn_ld Try.isAgg2 rfl rfl (hvE (f179.gInt hx51))) ?_
      refine WO.pn 1 rfl ?_
      refine WO.fin ?_
      refine DN.seq ?_
      obtain ⟨x59, hx59, h⟩ := Option.bind_eq_some_iff.mp h
      obtain ⟨x63, hx63, h⟩ := Option.bind_eq_some_iff.mp h
      obtain ⟨x64, hx64, h⟩ := Option.bind_eq_some_iff.mp h
      obtain ⟨y9, hy9, h⟩ := Option.bind_eq_some_iff.mp h
      refine WC.meet (fun L w' => ∃ (κ' : Col), L = [(1, .pointer (some ⟨b1, 0, none⟩)), (2, .pointer (some ⟨b2, 0, none⟩)), (3, .int .i64 (p0.Prio.length : Int)), (4, .pointer (some ⟨b4, 0, none⟩)), (5, .int .i64 v5), (6, .int .i64 s4.1)] ∧ Stp [4, 8] K168 w167 κ' w' ∧ Oc (Ep.own (Ep.int .i64) 2) 22 κ' w' 4 lar13_3 lur13_3 y9 ∧ ((⟨p0.Arena.Owner, p0.Prio, p0.Arena.Next, x20, x22⟩ : l7Game).prev).length = y9.length) ?_ ?_
      ·
       refine WC.rxt (κ := K168) [0, 4, 6] (some 10) (by kernel_rfl) fun w187 S188 => ?_
       refine WA.seg (fuel := 5) [(0, 2), (2, 2), (3, 2), (5, 2), (8, 2), (4, 0), (6, 2), (7, 0)] (by kernel_rfl) (by kernel_rfl) rfl ?_
       refine WO.k2 rfl rfl rfl rfl (rn_fieldAddr Try.runUnderlying121 rfl Try.sizeOf23 rfl rfl) ?_
       refine WO.pn 1 rfl ?_
       refine WO.k2 rfl rfl rfl rfl (rn_fieldAddr Try.runUnderlying121 rfl Try.sizeOf23 rfl rfl) ?_
       refine WO.pn 2 rfl ?_
       have f189 := f153.stp (S156.tr (S169.tr S188)) rfl rfl
       refine WO.k0 rfl rfl rfl rfl (rn_ld Try.isAgg23 rfl rfl (hvC (f189.ld 3 rfl rfl) rfl)) ?_
       refine WO.k2 rfl rfl rfl rfl (rn_index f170.rdc hx59 Try.runUnderlying23 Try.sizeOf22 rfl rfl hn171 rfl) ?_
       have f190 := f170.stp S188 rfl rfl
       obtain ⟨ax59, ux59, f191, hl192⟩ := f190.rdc.gSl hx59
       refine WO.k0 rfl rfl rfl rfl (rn_ld Try.isAgg22 rfl rfl (hvC hl192 rfl)) ?_
       refine WO.wa ?_
       refine WA.fork2 (fuel := 4) 1 9 (by kernel_rfl) rfl ?_ ?_
       ·
        refine WO.k1 (Cl.refl _ _ _) rfl rfl rfl rfl (rn_ld Try.isAgg23 rfl rfl (hvE (f189.ld 3 rfl rfl))) ?_
        refine WO.wa ?_
        refine WA.seg (fuel := 3) [(9, 1)] (by kernel_rfl) (by kernel_rfl) rfl ?_
        refine WO.bl (κ := K168) (E := (Ep.int .i64)) 7 [] (parts := [(0, .tmp 61)]) (cells := [.int .i64 v5]) (xs := ([v5] : List Int)) rfl rfl rfl rfl rfl rfl Try.underlying22 Tryinfo2 rfl rfl rfl rfl rfl rfl rfl rfl rfl rfl ⟨[.int .i64 v5], [], Zl K168 w187 [], Zl K168 w187 [], rfl, Zl.sp (l1 := []) (l2 := []) rfl, Zl.sr (l1 := []) (l2 := []), rfl, rfl⟩ fun a62 u62 w193 K194 S195 f196 => ⟨(S195.cl rfl), ?_⟩
        refine WO.wa ?_
        refine WA.brk (fuel := 2) 10 (by kernel_rfl) rfl (by kernel_rfl) ?_
        have f197 := f190.stp S195 rfl rfl
        obtain ⟨K198, S199, f200, f201⟩ := f197.borrow hx59 (hl192 _ (Stp.ag S195 rfl)) 8 rfl rfl
        have f202 := f196.stp S199 rfl rfl
        refine WO.app (κ := K198) (E := (Ep.int .i64)) 8 [] rfl rfl rfl rfl rfl rfl rfl rfl rfl Try.underlying22 Tryinfo2 rfl rfl rfl rfl f200 (Sl.srcP (pu_int _) f202.rdc) sy_false hx63 rfl fun a63 u63 w203 K204 S205 f206 => ⟨trivial, ?_⟩
        refine WO.wa ?_
        refine WA.seg (fuel := 0) [(11, 2), (12, 1)] (by kernel_rfl) (by kernel_rfl) rfl ?_
        refine WO.k2 rfl rfl rfl rfl (rn_index f197.rdc hx64 Try.runUnderlying23 Try.sizeOf22 rfl rfl hn171 rfl) ?_
        have f207 := f201.stp S205 rfl rfl
        refine WO.stH (κ := K204) (E := (Ep.own (Ep.int .i64) 2)) 4 [8] rfl rfl rfl rfl rfl rfl rfl rfl Try.sizeOf22 rfl ⟨_, _, rfl, f206⟩ rfl rfl f207 hy9 fun w208 K209 S210 f211 => ⟨trivial, ?_⟩
        have hn212 : ((⟨p0.Arena.Owner, p0.Prio, p0.Arena.Next, x20, x22⟩ : l7Game).prev).length = y9.length := hn171.trans (setI_ok hy9).2.2.2.symm
        refine WO.wa ?_
        refine WA.last [] (by kernel_rfl) (by kernel_rfl) rfl ?_
        refine WO.fin ?_
        exact DN.meet _ ⟨K209, rfl, (S188.tr (S195.tr (S199.tr (S205.tr S210)))).wk rfl, f211, hn212⟩ fun a ha => (ha.more (ha.more (ha.more (ha.more (ha.more (ha.more ha.nil rfl) rfl) rfl) rfl) rfl) rfl)
       ·
        refine WO.bl (κ := K168) (E := (Ep.int .i64)) 7 [] (parts := [(0, .tmp 61)]) (cells := [.int .i64 v5]) (xs := ([v5] : List Int)) rfl rfl rfl rfl rfl rfl Try.underlying22 Tryinfo2 rfl rfl rfl rfl rfl rfl rfl rfl rfl rfl ⟨[.int .i64 v5], [], Zl K168 w187 [], Zl K168 w187 [], rfl, Zl.sp (l1 := []) (l2 := []) rfl, Zl.sr (l1 := []) (l2 := []), rfl, rfl⟩ fun a62 u62 w213 K214 S215 f216 => ⟨(S215.cl rfl), ?_⟩
        refine WO.wa ?_
        refine WA.forkB2r (fuel := 3) 1 10 (by kernel_rfl) rfl (by kernel_rfl) ?_ ?_
        ·
         have f217 := f189.stp S215 rfl rfl
         refine WO.k1 (S215.cl rfl) rfl rfl rfl rfl (rn_ld Try.isAgg23 rfl rfl (hvE (f217.ld 3 rfl rfl))) ?_
         refine WO.wa ?_
         refine WA.brk (fuel := 2) 10 (by kernel_rfl) rfl (by kernel_rfl) ?_
         have f218 := f190.stp S215 rfl rfl
         obtain ⟨K219, S220, f221, f222⟩ := f218.borrow hx59 (hl192 _ (Stp.ag S215 rfl)) 8 rfl rfl
         have f223 := f216.stp S220 rfl rfl
         refine WO.app (κ := K219) (E := (Ep.int .i64)) 8 [] rfl rfl rfl rfl rfl rfl rfl rfl rfl Try.underlying22 Tryinfo2 rfl rfl rfl rfl f221 (Sl.srcP (pu_int _) f223.rdc) sy_false hx63 rfl fun a63 u63 w224 K225 S226 f227 => ⟨trivial, ?_⟩
         refine WO.wa ?_
         refine WA.seg (fuel := 0) [(11, 2), (12, 1)] (by kernel_rfl) (by kernel_rfl) rfl ?_
         refine WO.k2 rfl rfl rfl rfl (rn_index f218.rdc hx64 Try.runUnderlying23 Try.sizeOf22 rfl rfl hn171 rfl) ?_
         have f228 := f222.stp S226 rfl rfl
         refine WO.stH (κ := K225) (E := (Ep.own (Ep.int .i64) 2)) 4 [8] rfl rfl rfl rfl rfl rfl rfl rfl Try.sizeOf22 rfl ⟨_, _, rfl, f227⟩ rfl rfl f228 hy9 fun w229 K230 S231 f232 => ⟨trivial, ?_⟩
         have hn233 : ((⟨p0.Arena.Owner, p0.Prio, p0.Arena.Next, x20, x22⟩ : l7Game).prev).length = y9.length := hn171.trans (setI_ok hy9).2.2.2.symm
         refine WO.wa ?_
         refine WA.last [] (by kernel_rfl) (by kernel_rfl) rfl ?_
         refine WO.fin ?_
         exact DN.meet _ ⟨K230, rfl, (S188.tr (S215.tr (S220.tr (S226.tr S231)))).wk rfl, f232, hn233⟩ fun a ha => (ha.more (ha.more (ha.more (ha.more (ha.more (ha.more ha.nil rfl) rfl) rfl) rfl) rfl) rfl)
        ·
         have f234 := f190.stp S215 rfl rfl
         obtain ⟨K235, S236, f237, f238⟩ := f234.borrow hx59 (hl192 _ (Stp.ag S215 rfl)) 8 rfl rfl
         have f239 := f216.stp S236 rfl rfl
         refine WO.app (κ := K235) (E := (Ep.int .i64)) 8 [] rfl rfl rfl rfl rfl rfl rfl rfl rfl Try.underlying22 Tryinfo2 rfl rfl rfl rfl f237 (Sl.srcP (pu_int _) f239.rdc) sy_false hx63 rfl fun a63 u63 w240 K241 S242 f243 => ⟨trivial, ?_⟩
         refine WO.wa ?_
         refine WA.seg (fuel := 0) [(1, 1), (11, 2), (12, 1)] (by kernel_rfl) (by kernel_rfl) rfl ?_
         have f244 := f189.stp (S215.tr (S236.tr S242)) rfl rfl
         refine WO.k1 trivial rfl rfl rfl rfl (rn_ld Try.isAgg23 rfl rfl (hvE (f244.ld 3 rfl rfl))) ?_
         refine WO.k2 rfl rfl rfl rfl (rn_index f234.rdc hx64 Try.runUnderlying23 Try.sizeOf22 rfl rfl hn171 rfl) ?_
         have f245 := f238.stp S242 rfl rfl
         refine WO.stH (κ := K241) (E := (Ep.own (Ep.int .i64) 2)) 4 [8] rfl rfl rfl rfl rfl rfl rfl rfl Try.sizeOf22 rfl ⟨_, _, rfl, f243⟩ rfl rfl f245 hy9 fun w246 K247 S248 f249 => ⟨trivial, ?_⟩
         have hn250 : ((⟨p0.Arena.Owner, p0.Prio, p0.Arena.Next, x20, x22⟩ : l7Game).prev).length = y9.length := hn171.trans (setI_ok hy9).2.2.2.symm
         refine WO.wa ?_
         refine WA.last [] (by kernel_rfl) (by kernel_rfl) rfl ?_
         refine WO.fin ?_
         exact DN.meet _ ⟨K247, rfl, (S188.tr (S215.tr (S236.tr (S242.tr S248)))).wk rfl, f249, hn250⟩ fun a ha => (ha.more (ha.more (ha.more (ha.more (ha.more (ha.more ha.nil rfl) rfl) rfl) rfl) rfl) rfl)
      rintro _ w181 ⟨K182, rfl, S183, f185, hn186⟩
      refine DN.block ?_
      refine DN.seq ?_
      refine WC.rs [(0, 2), (1, 2), (2, 2)] rfl ?_
      refine WO.pn 3 rfl ?_
      refine WO.fin ?_
      obtain rfl := Option.some.inj h
      refine DN.round fun a ha => ?_
      exact ⟨k, _, Nat.lt_succ_self _, ⟨K182, (((IntKind.i64.wrap (s4.1 + 1)) : Int), (y9 : (List (List Int)))), rfl, (S169.tr S183).wk rfl, f185, hn186, hk173⟩, (ha.more (ha.more (ha.more (ha.more (ha.more (ha.more ha.nil rfl) rfl) rfl) rfl) rfl) rfl)⟩
     | false =>
      intro h; replace h := cF h
      refine WC.cf rfl ?_
      refine WC.exit ?_
      refine DN.exitThen ?_
      refine DN.exitThen ?_
      obtain rfl := Option.some.inj h
      have h := hk173
      refine DN.hit ?_
      obtain rfl := Option.some.inj h
      exact DN.meet _ ⟨K168, ((s4.1 : Int), (s4.2 : (List (List Int)))), rfl, S169.wk rfl, f170, hn171, rfl⟩ fun a ha => (ha.more (ha.more (ha.more (ha.more (ha.more ha.nil rfl) rfl) rfl) rfl) rfl)
   rintro _ w162 ⟨K163, s6, rfl, S164, f165, hn166, rfl⟩
   have h := hK160
   dsimp only [aft] at h
   refine DN.block ?_
   refine DN.seq ?_
   refine WC.rs [(0, 2), (1, 2), (2, 2)] rfl ?_
   refine WO.pn 3 rfl ?_
   refine WO.fin ?_
   have hw135 : IntKind.wrap .i64 (v5 + 1) = v5 + 1 := wr1 hj135 (of_decide_eq_true hc135) hN135
   rw [hw135]
   have hc135 := of_decide_eq_true hc135
   have f251 := f157.stp S164 rfl rfl
   obtain rfl := Option.some.inj h
   refine DN.round fun a ha => ?_
   exact ⟨k, _, Nat.lt_succ_self _, ⟨K163, v5 + 1, ((s6.2 : (List (List Int))), (y7 : (List Int))), rfl, (S147.tr (S156.tr S164)).wk rfl, f165, hn166, f251, hn158, by omega, by omega, hk152⟩, (ha.more (ha.more (ha.more (ha.more (ha.more ha.nil rfl) rfl) rfl) rfl) rfl)⟩
 rintro _ w138 ⟨K139, s3, rfl, S140, f141, hn142, f143, hn144, rfl⟩
 have h := hK136
 dsimp only [aft] at h
 refine DN.seq ?_
 refine WC.seq ?_
 refine WC.rs [(0, 1), (1, 1)] rfl ?_
 have f252 := f19.stp S140 rfl rfl
 refine WO.k1 trivial rfl rfl rfl rfl (rn_la (cs := [.slice lar13_0 ((⟨p0.Arena.Owner, p0.Prio, p0.Arena.Next, x20, x22⟩ : l7Game).owner).length lur13_0, .slice lar13_1 ((⟨p0.Arena.Owner, p0.Prio, p0.Arena.Next, x20, x22⟩ : l7Game).prio).length lur13_1, .slice lar13_2 ((⟨p0.Arena.Owner, p0.Prio, p0.Arena.Next, x20, x22⟩ : l7Game).next).length lur13_2, .slice lar13_3 ((⟨p0.Arena.Owner, p0.Prio, p0.Arena.Next, x20, x22⟩ : l7Game).prev).length lur13_3, .slice lar13_4 ((⟨p0.Arena.Owner, p0.Prio, p0.Arena.Next, x20, x22⟩ : l7Game).pick).length lur13_4]) Try.isAgg121 Try.sizeOf121 rfl rfl rfl (haE f252.cells)) ?_
 have f253 := f8.stp (S12.tr S140) rfl rfl
 refine WO.stB0 (κ := K139) 3 (vc := [.slice lar13_0 ((⟨p0.Arena.Owner, p0.Prio, p0.Arena.Next, x20, x22⟩ : l7Game).owner).length lur13_0, .slice lar13_1 ((⟨p0.Arena.Owner, p0.Prio, p0.Arena.Next, x20, x22⟩ : l7Game).prio).length lur13_1, .slice lar13_2 ((⟨p0.Arena.Owner, p0.Prio, p0.Arena.Next, x20, x22⟩ : l7Game).next).length lur13_2, .slice lar13_3 ((⟨p0.Arena.Owner, p0.Prio, p0.Arena.Next, x20, x22⟩ : l7Game).prev).length lur13_3, .slice lar13_4 ((⟨p0.Arena.Owner, p0.Prio, p0.Arena.Next, x20, x22⟩ : l7Game).pick).length lur13_4]) rfl rfl rfl rfl rfl rfl rfl Try.sizeOf121 rfl rfl f253 rfl fun w254 S255 f256 => ⟨trivial, ?_⟩
 refine WO.fin ?_
 refine DN.seq ?_
 refine WC.ret ?_
 have f257 := hE.stp (S3.tr (S7.tr (S12.tr (S140.tr S255)))) rfl rfl
 have f258 := f14.stp (S140.tr S255) rfl rfl
 have f259 := f15.stp (S140.tr S255) rfl rfl
 have f260 := f16.stp (S140.tr S255) rfl rfl
 have f261 := f141.stp S255 rfl rfl
 have f262 := f143.stp S255 rfl rfl
 refine DN.res (l := [.cell 2 121]) Try.results78 (res_cellA rfl f256 Try.isAgg121 Try.sizeOf121 rfl rfl) rfl ?_
 obtain rfl := Option.some.inj h
 exact ⟨(fun b => ren [(4, 5), (5, 6)] (K139 b)), lar13_0, lur13_0, lar13_1, lur13_1, lar13_2, lur13_2, lar13_3, lur13_3, lar13_4, lur13_4, (by simp only [hn142, hn144]), (f257.map (ren [(4, 5), (5, 6)]) rfl rfl), (f258.map (ren [(4, 5), (5, 6)]) rfl rfl), (f259.map (ren [(4, 5), (5, 6)]) rfl rfl), (f260.map (ren [(4, 5), (5, 6)]) rfl rfl), (f261.map (ren [(4, 5), (5, 6)]) rfl rfl), (f262.map (ren [(4, 5), (5, 6)]) rfl rfl)⟩

/- loop.example/g00869/spec.l1Max -/
theorem s_l1Max_ok {w : World} {κ : Col} {p0 : Int} {p1 : Int}  {r : Int} (h : s_l1Max p0 p1 = some r) : Ret Try.prog 114 [.int .i64 p0, .int .i64 p1] w (fun v w' => ∃ (κ' : Col), v = .int .i64 r ∧ Ent κ w κ' w') := by
 unfold s_l1Max at h
 refine Ret.enter Try.func114 rfl Try.ntmps114 rfl ?_
 dsimp only [envOf]
 have hE := Ent.refl κ w
 refine WC.seq ?_
 refine WC.rs [(0, 2)] rfl ?_
 refine WO.pn 1 rfl ?_
 refine WO.fin ?_
 refine DN.seq ?_
 refine WC.seq ?_
 refine WC.seq ?_
 refine WC.rs [(0, 2), (1, 2), (2, 2)] rfl ?_
 refine WO.pn 3 rfl ?_
 refine WO.fin ?_
 refine DN.seq ?_
 revert h
 cases ht1 : decide (p1 < p0) with
 | true =>
  intro h; replace h := cT h
  refine WC.ct rfl ?_
  refine WC.seq ?_
  refine WC.rs [(0, 2), (1, 2)] rfl ?_
  refine WO.pn 2 rfl ?_
  refine WO.fin ?_
  refine DN.seq ?_
  refine WC.ret ?_
  refine DN.retThen ?_
  refine DN.res (l := [.tmp 4]) Try.results114 (res_tmp rfl rfl) rfl ?_
  obtain rfl := Option.some.inj h
  exact ⟨κ, rfl, hE⟩
 | false =>
  intro h; replace h := cF h
  refine WC.cf rfl ?_
  refine WC.skip ?_
  refine DN.seq ?_
  refine WC.seq ?_
  refine WC.rs [(0, 2), (1, 2)] rfl ?_
  refine WO.pn 2 rfl ?_
  refine WO.fin ?_
  refine DN.seq ?_
  refine WC.ret ?_
  refine DN.res (l := [.tmp 4]) Try.results114 (res_tmp rfl rfl) rfl ?_
  obtain rfl := Option.some.inj h
  exact ⟨κ, rfl, hE⟩

/- loop.example/g00869/spec.l1Flag -/
theorem s_l1Flag_ok {w : World} {κ : Col} {p0 : Bool}  {r : Int} (h : s_l1Flag p0 = some r) : Ret Try.prog 80 [.bool p0] w (fun v w' => ∃ (κ' : Col), v = .int .i64 r ∧ Ent κ w κ' w') := by
 unfold s_l1Flag at h
 refine Ret.enter Try.func80 rfl Try.ntmps80 rfl ?_
 dsimp only [envOf]
 have hE := Ent.refl κ w
 refine WC.seq ?_
 refine WC.rs [(0, 2)] rfl ?_
 refine WO.pn 1 rfl ?_
 refine WO.fin ?_
 refine DN.seq ?_
 refine WC.seq ?_
 refine WC.seq ?_
 refine WC.rs [(0, 2)] rfl ?_
 refine WO.pn 1 rfl ?_
 refine WO.fin ?_
 refine DN.seq ?_
 revert h
 cases ht1 : p0 with
 | true =>
  intro h; replace h := cT h
  refine WC.ct rfl ?_
  refine WC.seq ?_
  refine WC.rs [(0, 2)] rfl ?_
  refine WO.pn 1 rfl ?_
  refine WO.fin ?_
  refine DN.seq ?_
  refine WC.ret ?_
  refine DN.retThen ?_
  refine DN.res (l := [.tmp 2]) Try.results80 (res_tmp rfl rfl) rfl ?_
  obtain rfl := Option.some.inj h
  exact ⟨κ, rfl, hE⟩
 | false =>
  intro h; replace h := cF h
  refine WC.cf rfl ?_
  refine WC.skip ?_
  refine DN.seq ?_
  refine WC.seq ?_
  refine WC.rs [(0, 2)] rfl ?_
  refine WO.pn 1 rfl ?_
  refine WO.fin ?_
  refine DN.seq ?_
  refine WC.ret ?_
  refine DN.res (l := [.tmp 2]) Try.results80 (res_tmp rfl rfl) rfl ?_
  obtain rfl := Option.some.inj h
  exact ⟨κ, rfl, hE⟩

/- loop.example/g00869/impl.isPlayer -/
theorem i_isPlayer_ok {w : World} {κ : Col} {p0 : Int}  {r : Bool} (h : i_isPlayer p0 = some r) : Ret Try.prog 85 [.int .i64 p0] w (fun v w' => ∃ (κ' : Col), v = .bool r ∧ Ent κ w κ' w') := by
 unfold i_isPlayer at h
 refine Ret.enter Try.func85 rfl Try.ntmps85 rfl ?_
 dsimp only [envOf]
 have hE := Ent.refl κ w
 refine WC.seq ?_
 refine WC.rs [(0, 2)] rfl ?_
 refine WO.pn 1 rfl ?_
 refine WO.fin ?_
 refine DN.seq ?_
 refine WC.seq ?_
 refine WC.rs [(0, 2), (1, 2), (2, 2), (3, 2), (4, 2), (5, 2), (6, 2)] rfl ?_
 refine WO.pn 3 rfl ?_
 obtain ⟨p8, h, hK1⟩ := Option.bind_eq_some_iff.mp h
 refine WO.meet [(3, 2), (4, 2), (5, 2)] [(6, 2)] (fun L w' => L = [(2, .bool false), (8, .bool p8)] ∧ ∃ κ', Stp [] κ w κ' w') trivial ?_ ?_
 ·
  revert h
  cases ht2 : (p0 == 0) with
  | true =>
   intro h; replace h := cT h
   refine WO.pn 3 rfl ?_
   obtain rfl := Option.some.inj h
   exact WO.met _ trivial ⟨rfl, _, (Stp.refl _ _).wk rfl⟩ fun a ha => (ha.more (ha.more ha.nil rfl) rfl)
  | false =>
   intro h; replace h := cF h
   refine WO.pn 3 rfl ?_
   obtain rfl := Option.some.inj h
   exact WO.met _ trivial ⟨rfl, _, (Stp.refl _ _).wk rfl⟩ fun a ha => (ha.more (ha.more ha.nil rfl) rfl)
 rintro _ w3 _ ⟨rfl, K4, S5⟩
 have h := hK1
 refine WO.pn 1 rfl ?_
 refine WO.fin ?_
 refine DN.seq ?_
 refine WC.ret ?_
 have f6 := hE.stp S5 rfl rfl
 refine DN.res (l := [.tmp 2]) Try.results85 (res_tmp rfl rfl) rfl ?_
 obtain rfl := Option.some.inj h
 exact ⟨K4, rfl, f6⟩

/- slices.Index[[]int64,int64] -/
theorem slices_Index_I_int64_ok {w : World} {κ : Col} {a0 : Option Addr} {u0 : Nat} {p0 : (List Int)} {p1 : Int} (g0 : Rd (Rp.int .i64) κ w 0 a0 u0 p0) {r : Int} (h : slices_Index_I_int64 p0 p1 = some r) : Ret Try.prog 122 [.slice a0 p0.length u0, .int .i64 p1] w (fun v w' => ∃ (κ' : Col), v = .int .i64 r ∧ Ent κ w κ' w') := by
 unfold slices_Index_I_int64 at h
 refine Ret.enter Try.func122 rfl Try.ntmps122 rfl ?_
 dsimp only [envOf]
 have hE := Ent.refl κ w
 refine WC.seq ?_
 refine WC.rs [(0, 2)] rfl ?_
 refine WO.pn 1 rfl ?_
 refine WO.fin ?_
 refine DN.seq ?_
 refine WC.seq ?_
 refine WC.seq ?_
 refine WC.rs [(0, 2), (1, 2), (2, 2)] rfl ?_
 refine WO.pn 1 rfl ?_
 refine WO.k2 rfl rfl rfl rfl (rn_len Try.runUnderlying22 rfl rfl) ?_
 refine WO.pn 1 rfl ?_
 refine WO.fin ?_
 refine DN.seq ?_
 have hN1 : (p0.length : Int) ≤ 9223372036854775807 := g0.len_le
 obtain ⟨q2, hq3, hK2⟩ := Option.bind_eq_some_iff.mp h
 clear h
 refine WC.meet (fun L w' => ∃ (κ' : Col), L = [] ∧ Stp [] κ w κ' w' ∧ q2 = Sum.inr ()) ?_ ?_
 ·
  refine WC.block ?_
  refine WC.loop (fun k L w' => ∃ (κ' : Col) (v8 : Int), L = [(0, .slice a0 p0.length u0), (1, .int .i64 p1), (7, .int .i64 (p0.length : Int)), (8, .int .i64 v8)] ∧ Stp [] κ w κ' w' ∧ 0 ≤ v8 ∧ Int.toNat ((p0.length : Int) - v8) = k ∧ cntM (slices_Index_I_int64_b0 p0 p1) k v8 () = some q2) ⟨_, _, ⟨κ, 0, rfl, (Stp.refl _ _).wk rfl, (by decide), (by simp), hq3⟩, fun a ha => (ha.more (ha.more (ha.more (ha.more ha.nil rfl) rfl) rfl) rfl)⟩ ?_
  rintro k _ w7 ⟨K8, v8, rfl, S9, hj1, hJ1, h⟩
  rcases k with _ | k
  ·
   have hk10 := h; obtain ⟨o1, h⟩ := ex_eq (Sum.inr (Sum.inl ()) : Int ⊕ ((Unit) ⊕ (Unit)))
   have hc1 : decide (v8 < (p0.length : Int)) = false := decide_eq_false (by omega)
   refine WC.seq ?_
   refine WC.rs [(0, 2)] rfl ?_
   refine WO.pn 1 rfl ?_
   refine WO.fin ?_
   refine DN.seq ?_
   refine WC.seq ?_
   refine WC.cf' rfl hc1 ?_
   refine WC.exit ?_
   refine DN.exitThen ?_
   refine DN.exitThen ?_
   obtain rfl := Option.some.inj h
   have h := hk10
   refine DN.hit ?_
   obtain rfl := Option.some.inj h
   exact DN.meet _ ⟨K8, rfl, S9.wk rfl, rfl⟩ fun a ha => ha.nil
  ·
   obtain ⟨o1, h, hk10⟩ := Option.bind_eq_some_iff.mp h; unfold slices_Index_I_int64_b0 at h
   have hc1 : decide (v8 < (p0.length : Int)) = true := decide_eq_true (by omega)
   refine WC.seq ?_
   refine WC.rs [(0, 2)] rfl ?_
   refine WO.pn 1 rfl ?_
   refine WO.fin ?_
   refine DN.seq ?_
   refine WC.seq ?_
   refine WC.ct' rfl hc1 ?_
   refine WC.skip ?_
   refine DN.seq ?_
   refine WC.seq ?_
   refine WC.block ?_
   refine WC.seq ?_
   refine WC.rs [(0, 2), (1, 2)] rfl ?_
   refine WO.pn 2 rfl ?_
   refine WO.fin ?_
   refine DN.seq ?_
   refine WC.seq ?_
   refine WC.rs [(0, 2), (1, 2), (2, 2), (3, 2), (4, 1), (5, 2)] rfl ?_
   refine WO.pn 3 rfl ?_
   obtain ⟨x14, hx14, h⟩ := Option.bind_eq_some_iff.mp h
   refine WO.k2 rfl rfl rfl rfl (rn_index g0 hx14 Try.runUnderlying22 Try.sizeOf2 rfl rfl rfl rfl) ?_
   have f11 := g0.stp S9 rfl rfl
   refine WO.k1 trivial rfl rfl rfl rfl (rn_ld Try.isAgg2 rfl rfl (hvE (f11.gInt hx14))) ?_
   refine WO.pn 1 rfl ?_
   refine WO.fin ?_
   refine DN.seq ?_
   revert h
   cases ht12 : (p1 == x14) with
   | true =>
    intro h; replace h := cT h
    refine WC.ct rfl ?_
    refine WC.seq ?_
    refine WC.rs [(0, 2), (1, 2)] rfl ?_
    refine WO.pn 2 rfl ?_
    refine WO.fin ?_
    refine DN.seq ?_
    refine WC.ret ?_
    refine DN.retBlock ?_
    refine DN.retThen ?_
    refine DN.retThen ?_
    obtain rfl := Option.some.inj h
    obtain rfl := Option.some.inj hk10
    have h := hK2
    dsimp only [aft] at h
    refine DN.retBlock ?_
    refine DN.retMeet ?_
    refine DN.retThen ?_
    have f13 := hE.stp S9 rfl rfl
    refine DN.res (l := [.tmp 4]) Try.results122 (res_tmp rfl rfl) rfl ?_
    obtain rfl := Option.some.inj h
    exact ⟨K8, rfl, f13⟩
   | false =>
    intro h; replace h := cF h
    refine WC.cf rfl ?_
    refine WC.skip ?_
    refine DN.block ?_
    refine DN.seq ?_
    refine WC.rs [(0, 2), (1, 2)] rfl ?_
    refine WO.pn 2 rfl ?_
    refine WO.fin ?_
    have hw1 : IntKind.wrap .i64 (v8 + 1) = v8 + 1 := wr1 hj1 (of_decide_eq_true hc1) hN1
    rw [hw1]
    have hc1 := of_decide_eq_true hc1
    obtain rfl := Option.some.inj h
    refine DN.round fun a ha => ?_
    exact ⟨k, _, Nat.lt_succ_self _, ⟨K8, v8 + 1, rfl, S9.wk rfl, by omega, by omega, hk10⟩, (ha.more (ha.more (ha.more (ha.more ha.nil rfl) rfl) rfl) rfl)⟩
 rintro _ w4 ⟨K5, rfl, S6, rfl⟩
 have h := hK2
 dsimp only [aft] at h
 refine DN.seq ?_
 refine WC.seq ?_
 refine WC.rs [(0, 2)] rfl ?_
 refine WO.pn 1 rfl ?_
 refine WO.fin ?_
 refine DN.seq ?_
 refine WC.ret ?_
 have f14 := hE.stp S6 rfl rfl
 refine DN.res (l := [.tmp 4]) Try.results122 (res_tmp rfl rfl) rfl ?_
 obtain rfl := Option.some.inj h
 exact ⟨K5, rfl, f14⟩

/- loop.example/g00869/impl.AllOf -/
theorem i_AllOf_ok {w : World} {κ : Col} {p0 : Int}  {r : (List Int)} (h : i_AllOf p0 = some r) : Ret Try.prog 128 [.int .i64 p0] w (fun v w' => ∃ (κ' : Col) (ra0 : Option Addr) (ru0 : Nat), v = .slice ra0 r.length ru0 ∧ Ent κ w κ' w' ∧ Oc (Ep.int .i64) 2 κ' w' 2 ra0 ru0 r) := by
 unfold i_AllOf at h
 refine Ret.enter Try.func128 rfl Try.ntmps128 rfl ?_
 dsimp only [envOf]
 have hE := Ent.refl κ w
 refine WC.seq ?_
 refine WC.rs [(0, 2)] rfl ?_
 refine WO.pn 1 rfl ?_
 refine WO.fin ?_
 refine DN.seq ?_
 refine WC.seq ?_
 refine WC.seq ?_
 refine WC.rs [(0, 2), (1, 2), (2, 2), (3, 2), (4, 2), (5, 2)] rfl ?_
 refine WO.pn 3 rfl ?_
 obtain ⟨p10, h, hK1⟩ := Option.bind_eq_some_iff.mp h
 refine WO.meet [(3, 2), (4, 2), (5, 2)] [] (fun L w' => L = [(0, .int .i64 p0), (10, .bool p10)] ∧ ∃ κ', Stp [] κ w κ' w') trivial ?_ ?_
 ·
  revert h
  cases ht2 : decide (p0 < 0) with
  | true =>
   intro h; replace h := cT h
   refine WO.pn 3 rfl ?_
   obtain rfl := Option.some.inj h
   exact WO.met _ trivial ⟨rfl, _, (Stp.refl _ _).wk rfl⟩ fun a ha => (ha.more (ha.more ha.nil rfl) rfl)
  | false =>
   intro h; replace h := cF h
   refine WO.pn 3 rfl ?_
   obtain rfl := Option.some.inj h
   exact WO.met _ trivial ⟨rfl, _, (Stp.refl _ _).wk rfl⟩ fun a ha => (ha.more (ha.more ha.nil rfl) rfl)
 rintro _ w3 _ ⟨rfl, K4, S5⟩
 have h := hK1
 refine WO.fin ?_
 refine DN.seq ?_
 revert h
 cases ht6 : p10 with
 | true =>
  intro h; replace h := cT h
  refine WC.ct rfl ?_
  refine WC.seq ?_
  refine WC.rs [(0, 2)] rfl ?_
  refine WO.pn 1 rfl ?_
  refine WO.fin ?_
  refine DN.seq ?_
  refine WC.ret ?_
  refine DN.retThen ?_
  have f7 := hE.stp S5 rfl rfl
  refine DN.res (l := [.tmp 2]) Try.results128 (res_tmp rfl rfl) rfl ?_
  obtain rfl := Option.some.inj h
  exact ⟨K4, none, 0, rfl, f7, Ow.nil⟩
 | false =>
  intro h; replace h := cF h
  refine WC.cf rfl ?_
  refine WC.skip ?_
  refine DN.seq ?_
  refine WC.seq ?_
  refine WC.rs [(0, 1), (1, 2)] rfl ?_
  refine WO.bl0 (κ := K4) (E := (Ep.int .i64)) 2 rfl rfl rfl rfl rfl Try.underlying22 Tryinfo2 rfl fun a11 u11 w8 K9 S10 f11 => ⟨trivial, ?_⟩
  refine WO.pn 1 rfl ?_
  refine WO.fin ?_
  refine DN.seq ?_
  refine WC.seq ?_
  refine WC.seq ?_
  refine WC.rs [(0, 2)] rfl ?_
  refine WO.pn 1 rfl ?_
  refine WO.fin ?_
  refine DN.seq ?_
  obtain ⟨_, hr12, h⟩ := Option.bind_eq_some_iff.mp h
  have hN12 := rng_ok hr12
  obtain ⟨q2, hq14, hK13⟩ := Option.bind_eq_some_iff.mp h
  clear h
  refine WC.meet (fun L w' => ∃ (κ' : Col) (s3 : (List Int)) (las3_0 : Option Addr) (lus3_0 : Nat), L = [(3, .slice las3_0 s3.length lus3_0)] ∧ Stp [2] K9 w8 κ' w' ∧ Oc (Ep.int .i64) 2 κ' w' 2 las3_0 lus3_0 s3 ∧ q2 = Sum.inr s3) ?_ ?_
  ·
   refine WC.block ?_
   refine WC.loop (fun k L w' => ∃ (κ' : Col) (v4 : Int) (s1 : (List Int)) (las1_0 : Option Addr) (lus1_0 : Nat), L = [(0, .int .i64 p0), (3, .slice las1_0 s1.length lus1_0), (4, .int .i64 v4)] ∧ Stp [2] K9 w8 κ' w' ∧ Oc (Ep.int .i64) 2 κ' w' 2 las1_0 lus1_0 s1 ∧ 0 ≤ v4 ∧ Int.toNat (p0 - v4) = k ∧ cntM i_AllOf_b0 k v4 s1 = some q2) ⟨_, _, ⟨K9, 0, (([] : List Int) : (List Int)), a11, u11, rfl, (Stp.refl _ _).wk rfl, f11, (by decide), (by simp), hq14⟩, fun a ha => (ha.more (ha.more (ha.more ha.nil rfl) rfl) rfl)⟩ ?_
   rintro k _ w19 ⟨K20, v4, s1, las1_0, lus1_0, rfl, S21, f22, hj12, hJ12, h⟩
   rcases k with _ | k
   ·
    have hk23 := h; obtain ⟨o12, h⟩ := ex_eq (Sum.inr (Sum.inl s1) : (List Int) ⊕ (((List Int)) ⊕ ((List Int))))
    have hc12 : decide (v4 < p0) = false := decide_eq_false (by omega)
    refine WC.seq ?_
    refine WC.seq ?_
    refine WC.rs [(0, 2), (1, 2), (2, 2)] rfl ?_
    refine WO.pn 3 rfl ?_
    refine WO.fin ?_
    refine DN.seq ?_
    refine WC.cf' rfl hc12 ?_
    refine WC.exit ?_
    refine DN.exitThen ?_
    refine DN.exitThen ?_
    obtain rfl := Option.some.inj h
    have h := hk23
    refine DN.hit ?_
    obtain rfl := Option.some.inj h
    exact DN.meet _ ⟨K20, (s1 : (List Int)), las1_0, lus1_0, rfl, S21.wk rfl, f22, rfl⟩ fun a ha => (ha.more ha.nil rfl)
   ·
    obtain ⟨o12, h, hk23⟩ := Option.bind_eq_some_iff.mp h; unfold i_AllOf_b0 at h
    have hc12 : decide (v4 < p0) = true := decide_eq_true (by omega)
    refine WC.seq ?_
    refine WC.seq ?_
    refine WC.rs [(0, 2), (1, 2), (2, 2)] rfl ?_
    refine WO.pn 3 rfl ?_
    refine WO.fin ?_
    refine DN.seq ?_
    refine WC.ct' rfl hc12 ?_
    refine WC.skip ?_
    refine DN.seq ?_
    refine WC.seq ?_
    refine WC.block ?_
    refine WC.rs [(0, 2), (1, 2), (2, 1), (3, 1), (4, 2)] rfl ?_
    refine WO.pn 2 rfl ?_
    refine WO.bl (κ := K20) (E := (Ep.int .i64)) 3 [] (parts := [(0, .tmp 18)]) (cells := [.int .i64 v4]) (xs := ([v4] : List Int)) rfl rfl rfl rfl rfl rfl Try.underlying22 Tryinfo2 rfl rfl rfl rfl rfl rfl rfl rfl rfl rfl ⟨[.int .i64 v4], [], Zl K20 w19 [], Zl K20 w19 [], rfl, Zl.sp (l1 := []) (l2 := []) rfl, Zl.sr (l1 := []) (l2 := []), rfl, rfl⟩ fun a19 u19 w24 K25 S26 f27 => ⟨trivial, ?_⟩
    obtain ⟨x20, hx20, h⟩ := Option.bind_eq_some_iff.mp h
    have f28 := f22.stp S26 rfl rfl
    refine WO.app (κ := K25) (E := (Ep.int .i64)) 2 [] rfl rfl rfl rfl rfl rfl rfl rfl rfl Try.underlying22 Tryinfo2 rfl rfl rfl rfl f28 (Sl.srcP (pu_int _) f27.rdc) sy_false hx20 rfl fun a20 u20 w29 K30 S31 f32 => ⟨trivial, ?_⟩
    refine WO.pn 1 rfl ?_
    refine WO.fin ?_
    refine DN.block ?_
    refine DN.seq ?_
    refine WC.rs [(0, 2), (1, 2), (2, 2)] rfl ?_
    refine WO.pn 3 rfl ?_
    refine WO.fin ?_
    have hw12 : IntKind.wrap .i64 (v4 + 1) = v4 + 1 := wr1 hj12 (of_decide_eq_true hc12) hN12
    rw [hw12]
    have hc12 := of_decide_eq_true hc12
    obtain rfl := Option.some.inj h
    refine DN.round fun a ha => ?_
    exact ⟨k, _, Nat.lt_succ_self _, ⟨K30, v4 + 1, (x20 : (List Int)), a20, u20, rfl, (S21.tr (S26.tr S31)).wk rfl, f32, by omega, by omega, hk23⟩, (ha.more (ha.more (ha.more ha.nil rfl) rfl) rfl)⟩
  rintro _ w15 ⟨K16, s3, las3_0, lus3_0, rfl, S17, f18, rfl⟩
  have h := hK13
  dsimp only [aft] at h
  refine DN.seq ?_
  refine WC.seq ?_
  refine WC.rs [(0, 2), (1, 2)] rfl ?_
  refine WO.pn 2 rfl ?_
  refine WO.fin ?_
  refine DN.seq ?_
  refine WC.ret ?_
  have f33 := hE.stp (S5.tr (S10.tr S17)) rfl rfl
  refine DN.res (l := [.tmp 2]) Try.results128 (res_tmp rfl rfl) rfl ?_
  obtain rfl := Option.some.inj h
  exact ⟨K16, las3_0, lus3_0, rfl, f33, f18⟩

/- loop.example/g00869/impl.topIn -/
theorem i_topIn_ok {w : World} {κ : Col} {a0_0_0 : Option Addr} {u0_0_0 : Nat} {a0_0_1 : Option Addr} {u0_0_1 : Nat} {a0_1 : Option Addr} {u0_1 : Nat} {p0 : Parity} {a1 : Option Addr} {u1 : Nat} {p1 : (List Int)} (g0_0_0 : Rd (Rp.int .i64) κ w 0 a0_0_0 u0_0_0 p0.Arena.Owner) (g0_0_1 : Rd (Rp.sl (Rp.int .i64)) κ w 0 a0_0_1 u0_0_1 p0.Arena.Next) (g0_1 : Rd (Rp.int .i64) κ w 0 a0_1 u0_1 p0.Prio) (g1 : Rd (Rp.int .i64) κ w 0 a1 u1 p1) {r : Int} (h : i_topIn p0 p1 = some r) : Ret Try.prog 153 [.agg #[.slice a0_0_0 p0.Arena.Owner.length u0_0_0, .slice a0_0_1 p0.Arena.Next.length u0_0_1, .slice a0_1 p0.Prio.length u0_1], .slice a1 p1.length u1] w (fun v w' => ∃ (κ' : Col), v = .int .i64 r ∧ Ent κ w κ' w') := by
 unfold i_topIn at h
 refine Ret.enter Try.func153 rfl Try.ntmps153 rfl ?_
 dsimp only [envOf]
 have hE := Ent.refl κ w
 refine WC.seq ?_
 refine WC.rs [(0, 1), (1, 2)] rfl ?_
 refine WO.box (κ := κ) 2 rfl rfl rfl rfl rfl rfl rfl fun b2 w1 K2 S3 f4 => ⟨trivial, ?_⟩
 refine WO.pn 1 rfl ?_
 refine WO.fin ?_
 refine DN.seq ?_
 refine WC.seq ?_
 refine WC.rs [(0, 2)] rfl ?_
 refine WO.pn 1 rfl ?_
 refine WO.fin ?_
 refine DN.seq ?_
 refine WC.seq ?_
 refine WC.seq ?_
 refine WC.rs [(0, 2), (1, 2), (2, 2)] rfl ?_
 refine WO.pn 1 rfl ?_
 refine WO.k2 rfl rfl rfl rfl (rn_len Try.runUnderlying22 rfl rfl) ?_
 refine WO.pn 1 rfl ?_
 refine WO.fin ?_
 refine DN.seq ?_
 have hN5 : (p1.length : Int) ≤ 9223372036854775807 := g1.len_le
 obtain ⟨q2, hq7, hK6⟩ := Option.bind_eq_some_iff.mp h
 clear h
 refine WC.meet (fun L w' => ∃ (κ' : Col) (s3 : Int), L = [(5, .int .i64 s3)] ∧ Stp [] K2 w1 κ' w' ∧ q2 = Sum.inr s3) ?_ ?_
 ·
  refine WC.block ?_
  refine WC.loop (fun k L w' => ∃ (κ' : Col) (v10 : Int) (s1 : Int), L = [(2, .pointer (some ⟨b2, 0, none⟩)), (5, .int .i64 s1), (8, .slice a1 p1.length u1), (9, .int .i64 (p1.length : Int)), (10, .int .i64 v10)] ∧ Stp [] K2 w1 κ' w' ∧ 0 ≤ v10 ∧ Int.toNat ((p1.length : Int) - v10) = k ∧ cntM (i_topIn_b0 p0 p1) k v10 s1 = some q2) ⟨_, _, ⟨K2, 0, ((-1) : Int), rfl, (Stp.refl _ _).wk rfl, (by decide), (by simp), hq7⟩, fun a ha => (ha.more (ha.more (ha.more (ha.more (ha.more ha.nil rfl) rfl) rfl) rfl) rfl)⟩ ?_
  rintro k _ w11 ⟨K12, v10, s1, rfl, S13, hj5, hJ5, h⟩
  rcases k with _ | k
  ·
   have hk14 := h; obtain ⟨o5, h⟩ := ex_eq (Sum.inr (Sum.inl s1) : Int ⊕ ((Int) ⊕ (Int)))
   have hc5 : decide (v10 < (p1.length : Int)) = false := decide_eq_false (by omega)
   refine WC.seq ?_
   refine WC.rs [(0, 2)] rfl ?_
   refine WO.pn 1 rfl ?_
   refine WO.fin ?_
   refine DN.seq ?_
   refine WC.seq ?_
   refine WC.cf' rfl hc5 ?_
   refine WC.exit ?_
   refine DN.exitThen ?_
   refine DN.exitThen ?_
   obtain rfl := Option.some.inj h
   have h := hk14
   refine DN.hit ?_
   obtain rfl := Option.some.inj h
   exact DN.meet _ ⟨K12, (s1 : Int), rfl, S13.wk rfl, rfl⟩ fun a ha => (ha.more ha.nil rfl)
  ·
   obtain ⟨o5, h, hk14⟩ := Option.bind_eq_some_iff.mp h; unfold i_topIn_b0 at h
   have hc5 : decide (v10 < (p1.length : Int)) = true := decide_eq_true (by omega)
   refine WC.seq ?_
   refine WC.rs [(0, 2)] rfl ?_
   refine WO.pn 1 rfl ?_
   refine WO.fin ?_
   refine DN.seq ?_
   refine WC.seq ?_
   refine WC.ct' rfl hc5 ?_
   refine WC.skip ?_
   refine DN.seq ?_
   refine WC.seq ?_
   refine WC.block ?_
   refine WC.seq ?_
   refine WC.rs [(0, 2), (1, 1), (2, 2)] rfl ?_
   obtain ⟨x12, hx12, h⟩ := Option.bind_eq_some_iff.mp h
   refine WO.k2 rfl rfl rfl rfl (rn_index g1 hx12 Try.runUnderlying22 Try.sizeOf2 rfl rfl rfl rfl) ?_
   have f15 := g1.stp (S3.tr S13) rfl rfl
   refine WO.k1 trivial rfl rfl rfl rfl (rn_ld Try.isAgg2 rfl rfl (hvE (f15.gInt hx12))) ?_
   refine WO.pn 1 rfl ?_
   refine WO.fin ?_
   refine DN.seq ?_
   refine WC.rs [(0, 2), (1, 2), (2, 1), (3, 2), (4, 2), (5, 1), (6, 2), (7, 2)] rfl ?_
   refine WO.pn 1 rfl ?_
   refine WO.k2 rfl rfl rfl rfl (rn_fieldAddr Try.runUnderlying34 rfl Try.sizeOf22 rfl rfl) ?_
   have f16 := f4.stp S13 rfl rfl
   refine WO.k1 trivial rfl rfl rfl rfl (rn_ld Try.isAgg22 rfl rfl (hvE (f16.ld 2 rfl rfl))) ?_
   refine WO.pn 1 rfl ?_
   obtain ⟨x18, hx18, h⟩ := Option.bind_eq_some_iff.mp h
   refine WO.k2 rfl rfl rfl rfl (rn_index g0_1 hx18 Try.runUnderlying22 Try.sizeOf2 rfl rfl rfl rfl) ?_
   have f17 := g0_1.stp (S3.tr S13) rfl rfl
   refine WO.k1 trivial rfl rfl rfl rfl (rn_ld Try.isAgg2 rfl rfl (hvE (f17.gInt hx18))) ?_
   refine WO.k2 rfl rfl rfl rfl (rn_max rfl rfl rfl) ?_
   refine WO.pn 1 rfl ?_
   refine WO.fin ?_
   refine DN.block ?_
   refine DN.seq ?_
   refine WC.rs [(0, 2), (1, 2)] rfl ?_
   refine WO.pn 2 rfl ?_
   refine WO.fin ?_
   have hw5 : IntKind.wrap .i64 (v10 + 1) = v10 + 1 := wr1 hj5 (of_decide_eq_true hc5) hN5
   rw [hw5]
   have hc5 := of_decide_eq_true hc5
   obtain rfl := Option.some.inj h
   refine DN.round fun a ha => ?_
   exact ⟨k, _, Nat.lt_succ_self _, ⟨K12, v10 + 1, ((if s1 < x18 then x18 else s1) : Int), rfl, S13.wk rfl, by omega, by omega, hk14⟩, (ha.more (ha.more (ha.more (ha.more (ha.more ha.nil rfl) rfl) rfl) rfl) rfl)⟩
 rintro _ w8 ⟨K9, s3, rfl, S10, rfl⟩
 have h := hK6
 dsimp only [aft] at h
 refine DN.seq ?_
 refine WC.seq ?_
 refine WC.rs [(0, 2), (1, 2)] rfl ?_
 refine WO.pn 2 rfl ?_
 refine WO.fin ?_
 refine DN.seq ?_
 refine WC.ret ?_
 have f18 := hE.stp (S3.tr S10) rfl rfl
 refine DN.res (l := [.tmp 4]) Try.results153 (res_tmp rfl rfl) rfl ?_
 obtain rfl := Option.some.inj h
 exact ⟨K9, rfl, f18⟩

/- cmp.isNaN[int64] -/
theorem cmp_isNaN_int64_ok {w : World} {κ : Col} {p0 : Int}  {r : Bool} (h : cmp_isNaN_int64 p0 = some r) : Ret Try.prog 180 [.int .i64 p0] w (fun v w' => ∃ (κ' : Col), v = .bool r ∧ Ent κ w κ' w') := by
 unfold cmp_isNaN_int64 at h
 refine Ret.enter Try.func180 rfl Try.ntmps180 rfl ?_
 dsimp only [envOf]
 have hE := Ent.refl κ w
 refine WC.seq ?_
 refine WC.rs [(0, 2)] rfl ?_
 refine WO.pn 1 rfl ?_
 refine WO.fin ?_
 refine DN.seq ?_
 refine WC.seq ?_
 refine WC.rs [(0, 2), (1, 2), (2, 2), (3, 2)] rfl ?_
 refine WO.pn 4 rfl ?_
 refine WO.fin ?_
 refine DN.seq ?_
 refine WC.ret ?_
 refine DN.res (l := [.tmp 2]) Try.results180 (res_tmp rfl rfl) rfl ?_
 obtain rfl := Option.some.inj h
 exact ⟨κ, rfl, hE⟩

/- loop.example/g00869/laws.eqInt64S -/
theorem l_eqInt64S_ok {w : World} {κ : Col} {a0 : Option Addr} {u0 : Nat} {p0 : (List Int)} {a1 : Option Addr} {u1 : Nat} {p1 : (List Int)} (g0 : Rd (Rp.int .i64) κ w 0 a0 u0 p0) (g1 : Rd (Rp.int .i64) κ w 0 a1 u1 p1) {r : Bool} (h : l_eqInt64S p0 p1 = some r) : Ret Try.prog 12 [.slice a0 p0.length u0, .slice a1 p1.length u1] w (fun v w' => ∃ (κ' : Col), v = .bool r ∧ Ent κ w κ' w') := by
 unfold l_eqInt64S at h
 refine Ret.enter Try.func12 rfl Try.ntmps12 rfl ?_
 dsimp only [envOf]
 have hE := Ent.refl κ w
 refine WC.seq ?_
 refine WC.rs [(0, 2)] rfl ?_
 refine WO.pn 1 rfl ?_
 refine WO.fin ?_
 refine DN.seq ?_
 refine WC.seq ?_
 refine WC.seq ?_
 refine WC.rs [(0, 2), (1, 2), (2, 2), (3, 2), (4, 2)] rfl ?_
 refine WO.pn 1 rfl ?_
 refine WO.k2 rfl rfl rfl rfl (rn_len Try.runUnderlying22 rfl rfl) ?_
 refine WO.pn 1 rfl ?_
 refine WO.k2 rfl rfl rfl rfl (rn_len Try.runUnderlying22 rfl rfl) ?_
 refine WO.pn 1 rfl ?_
 refine WO.fin ?_
 refine DN.seq ?_
 revert h
 cases ht1 : ((p0.length : Int) != (p1.length : Int)) with
 | true =>
  intro h; replace h := cT h
  refine WC.ct rfl ?_
  refine WC.seq ?_
  refine WC.rs [(0, 2)] rfl ?_
  refine WO.pn 1 rfl ?_
  refine WO.fin ?_
  refine DN.seq ?_
  refine WC.ret ?_
  refine DN.retThen ?_
  refine DN.res (l := [.tmp 4]) Try.results12 (res_tmp rfl rfl) rfl ?_
  obtain rfl := Option.some.inj h
  exact ⟨κ, rfl, hE⟩
 | false =>
  intro h; replace h := cF h
  refine WC.cf rfl ?_
  refine WC.skip ?_
  refine DN.seq ?_
  refine WC.seq ?_
  refine WC.seq ?_
  refine WC.rs [(0, 2)] rfl ?_
  refine WO.pn 1 rfl ?_
  refine WO.fin ?_
  refine DN.seq ?_
  have hN2 : (p0.length : Int) ≤ 9223372036854775807 := g0.len_le
  obtain ⟨q2, hq4, hK3⟩ := Option.bind_eq_some_iff.mp h
  clear h
  refine WC.meet (fun L w' => ∃ (κ' : Col), L = [] ∧ Stp [] κ w κ' w' ∧ q2 = Sum.inr ()) ?_ ?_
  ·
   refine WC.block ?_
   refine WC.loop (fun k L w' => ∃ (κ' : Col) (v5 : Int), L = [(0, .slice a0 p0.length u0), (1, .slice a1 p1.length u1), (5, .int .i64 v5)] ∧ Stp [] κ w κ' w' ∧ 0 ≤ v5 ∧ Int.toNat ((p0.length : Int) - v5) = k ∧ cntM (l_eqInt64S_b0 p0 p1) k v5 () = some q2) ⟨_, _, ⟨κ, 0, rfl, (Stp.refl _ _).wk rfl, (by decide), (by simp), hq4⟩, fun a ha => (ha.more (ha.more (ha.more ha.nil rfl) rfl) rfl)⟩ ?_
   rintro k _ w8 ⟨K9, v5, rfl, S10, hj2, hJ2, h⟩
   rcases k with _ | k
   ·
    have hk11 := h; obtain ⟨o2, h⟩ := ex_eq (Sum.inr (Sum.inl ()) : Bool ⊕ ((Unit) ⊕ (Unit)))
    have hc2 : decide (v5 < (p0.length : Int)) = false := decide_eq_false (by omega)
    refine WC.seq ?_
    refine WC.seq ?_
    refine WC.rs [(0, 2), (1, 2), (2, 2), (3, 2)] rfl ?_
    refine WO.pn 2 rfl ?_
    refine WO.k2 rfl rfl rfl rfl (rn_len Try.runUnderlying22 rfl rfl) ?_
    refine WO.pn 1 rfl ?_
    refine WO.fin ?_
    refine DN.seq ?_
    refine WC.cf' rfl hc2 ?_
    refine WC.exit ?_
    refine DN.exitThen ?_
    refine DN.exitThen ?_
    obtain rfl := Option.some.inj h
    have h := hk11
    refine DN.hit ?_
    obtain rfl := Option.some.inj h
    exact DN.meet _ ⟨K9, rfl, S10.wk rfl, rfl⟩ fun a ha => ha.nil
   ·
    obtain ⟨o2, h, hk11⟩ := Option.bind_eq_some_iff.mp h; unfold l_eqInt64S_b0 at h
    have hc2 : decide (v5 < (p0.length : Int)) = true := decide_eq_true (by omega)
    refine WC.seq ?_
    refine WC.seq ?_
    refine WC.rs [(0, 2), (1, 2), (2, 2), (3, 2)] rfl ?_
    refine WO.pn 2 rfl ?_
    refine WO.k2 rfl rfl rfl rfl (rn_len Try.runUnderlying22 rfl rfl) ?_
    refine WO.pn 1 rfl ?_
    refine WO.fin ?_
    refine DN.seq ?_
    refine WC.ct' rfl hc2 ?_
    refine WC.skip ?_
    refine DN.seq ?_
    refine WC.seq ?_
    refine WC.block ?_
    refine WC.seq ?_
    refine WC.rx (κ := K9) [0] none [(0, 2), (1, 2), (2, 2), (4, 2), (5, 2), (6, 2), (3, 0), (7, 0), (8, 2)] [] (by kernel_rfl) (by kernel_rfl) fun w13 S12 => ?_
    refine WO.pn 2 rfl ?_
    obtain ⟨x19, hx19, h⟩ := Option.bind_eq_some_iff.mp h
    refine WO.k2 rfl rfl rfl rfl (rn_index g0 hx19 Try.runUnderlying22 Try.sizeOf2 rfl rfl rfl rfl) ?_
    refine WO.pn 2 rfl ?_
    obtain ⟨x23, hx23, h⟩ := Option.bind_eq_some_iff.mp h
    refine WO.k2 rfl rfl rfl rfl (rn_index g1 hx23 Try.runUnderlying22 Try.sizeOf2 rfl rfl rfl rfl) ?_
    have f14 := g0.stp (S10.tr S12) rfl rfl
    refine WO.k0 rfl rfl rfl rfl (rn_ld Try.isAgg2 rfl rfl (hvC (f14.gInt hx19) rfl)) ?_
    have f15 := g1.stp (S10.tr S12) rfl rfl
    refine WO.k0 rfl rfl rfl rfl (rn_ld Try.isAgg2 rfl rfl (hvC (f15.gInt hx23) rfl)) ?_
    refine WO.pn 1 rfl ?_
    refine WO.nx ?_
    refine WO.fin ?_
    refine DN.seq ?_
    revert h
    cases ht16 : (x19 != x23) with
    | true =>
     intro h; replace h := cT h
     refine WC.ct rfl ?_
     refine WC.seq ?_
     refine WC.rs [(0, 2)] rfl ?_
     refine WO.pn 1 rfl ?_
     refine WO.fin ?_
     refine DN.seq ?_
     refine WC.ret ?_
     refine DN.retBlock ?_
     refine DN.retThen ?_
     refine DN.retThen ?_
     obtain rfl := Option.some.inj h
     obtain rfl := Option.some.inj hk11
     have h := hK3
     dsimp only [aft] at h
     refine DN.retBlock ?_
     refine DN.retMeet ?_
     refine DN.retThen ?_
     have f17 := hE.stp (S10.tr S12) rfl rfl
     refine DN.res (l := [.tmp 4]) Try.results12 (res_tmp rfl rfl) rfl ?_
     obtain rfl := Option.some.inj h
     exact ⟨K9, rfl, f17⟩
    | false =>
     intro h; replace h := cF h
     refine WC.cf rfl ?_
     refine WC.skip ?_
     refine DN.block ?_
     refine DN.seq ?_
     refine WC.rs [(0, 2), (1, 2), (2, 2)] rfl ?_
     refine WO.pn 3 rfl ?_
     refine WO.fin ?_
     have hw2 : IntKind.wrap .i64 (v5 + 1) = v5 + 1 := wr1 hj2 (of_decide_eq_true hc2) hN2
     rw [hw2]
     have hc2 := of_decide_eq_true hc2
     obtain rfl := Option.some.inj h
     refine DN.round fun a ha => ?_
     exact ⟨k, _, Nat.lt_succ_self _, ⟨K9, v5 + 1, rfl, (S10.tr S12).wk rfl, by omega, by omega, hk11⟩, (ha.more (ha.more (ha.more ha.nil rfl) rfl) rfl)⟩
  rintro _ w5 ⟨K6, rfl, S7, rfl⟩
  have h := hK3
  dsimp only [aft] at h
  refine DN.seq ?_
  refine WC.seq ?_
  refine WC.rs [(0, 2)] rfl ?_
  refine WO.pn 1 rfl ?_
  refine WO.fin ?_
  refine DN.seq ?_
  refine WC.ret ?_
  have f18 := hE.stp S7 rfl rfl
  refine DN.res (l := [.tmp 4]) Try.results12 (res_tmp rfl rfl) rfl ?_
  obtain rfl := Option.some.inj h
  exact ⟨K6, rfl, f18⟩

/- loop.example/g00869/laws.heldInt64S -/
theorem l_heldInt64S_ok {w : World} {κ : Col} {a0 : Option Addr} {u0 : Nat} {p0 : (List Int)} {p1 : Int} (g0 : Rd (Rp.int .i64) κ w 0 a0 u0 p0) {r : Int} (h : l_heldInt64S p0 p1 = some r) : Ret Try.prog 16 [.slice a0 p0.length u0, .int .i64 p1] w (fun v w' => ∃ (κ' : Col), v = .int .i64 r ∧ Ent κ w κ' w') := by
 unfold l_heldInt64S at h
 refine Ret.enter Try.func16 rfl Try.ntmps16 rfl ?_
 dsimp only [envOf]
 have hE := Ent.refl κ w
 refine WC.seq ?_
 refine WC.rs [(0, 2)] rfl ?_
 refine WO.pn 1 rfl ?_
 refine WO.fin ?_
 refine DN.seq ?_
 refine WC.seq ?_
 refine WC.seq ?_
 refine WC.rs [(0, 2)] rfl ?_
 refine WO.pn 1 rfl ?_
 refine WO.fin ?_
 refine DN.seq ?_
 have hN1 : (p0.length : Int) ≤ 9223372036854775807 := g0.len_le
 obtain ⟨q2, hq3, hK2⟩ := Option.bind_eq_some_iff.mp h
 clear h
 refine WC.meet (fun L w' => ∃ (κ' : Col) (s3 : Int), L = [(1, .int .i64 s3)] ∧ Stp [] κ w κ' w' ∧ q2 = Sum.inr s3) ?_ ?_
 ·
  refine WC.block ?_
  refine WC.loop (fun k L w' => ∃ (κ' : Col) (v5 : Int) (s1 : Int), L = [(0, .slice a0 p0.length u0), (1, .int .i64 s1), (5, .int .i64 v5)] ∧ Stp [] κ w κ' w' ∧ 0 ≤ v5 ∧ Int.toNat ((p0.length : Int) - v5) = k ∧ cntM (l_heldInt64S_b0 p0) k v5 s1 = some q2) ⟨_, _, ⟨κ, 0, (p1 : Int), rfl, (Stp.refl _ _).wk rfl, (by decide), (by simp), hq3⟩, fun a ha => (ha.more (ha.more (ha.more ha.nil rfl) rfl) rfl)⟩ ?_
  rintro k _ w7 ⟨K8, v5, s1, rfl, S9, hj1, hJ1, h⟩
  rcases k with _ | k
  ·
   have hk10 := h; obtain ⟨o1, h⟩ := ex_eq (Sum.inr (Sum.inl s1) : Int ⊕ ((Int) ⊕ (Int)))
   have hc1 : decide (v5 < (p0.length : Int)) = false := decide_eq_false (by omega)
   refine WC.seq ?_
   refine WC.seq ?_
   refine WC.rs [(0, 2), (1, 2), (2, 2), (3, 2)] rfl ?_
   refine WO.pn 2 rfl ?_
   refine WO.k2 rfl rfl rfl rfl (rn_len Try.runUnderlying22 rfl rfl) ?_
   refine WO.pn 1 rfl ?_
   refine WO.fin ?_
   refine DN.seq ?_
   refine WC.cf' rfl hc1 ?_
   refine WC.exit ?_
   refine DN.exitThen ?_
   refine DN.exitThen ?_
   obtain rfl := Option.some.inj h
   have h := hk10
   refine DN.hit ?_
   obtain rfl := Option.some.inj h
   exact DN.meet _ ⟨K8, (s1 : Int), rfl, S9.wk rfl, rfl⟩ fun a ha => (ha.more ha.nil rfl)
  ·
   obtain ⟨o1, h, hk10⟩ := Option.bind_eq_some_iff.mp h; unfold l_heldInt64S_b0 at h
   have hc1 : decide (v5 < (p0.length : Int)) = true := decide_eq_true (by omega)
   refine WC.seq ?_
   refine WC.seq ?_
   refine WC.rs [(0, 2), (1, 2), (2, 2), (3, 2)] rfl ?_
   refine WO.pn 2 rfl ?_
   refine WO.k2 rfl rfl rfl rfl (rn_len Try.runUnderlying22 rfl rfl) ?_
   refine WO.pn 1 rfl ?_
   refine WO.fin ?_
   refine DN.seq ?_
   refine WC.ct' rfl hc1 ?_
   refine WC.skip ?_
   refine DN.seq ?_
   refine WC.seq ?_
   refine WC.block ?_
   refine WC.seq ?_
   refine WC.seq ?_
   refine WC.rs [(0, 2), (1, 2), (2, 2), (3, 1), (4, 2), (5, 2)] rfl ?_
   refine WO.pn 2 rfl ?_
   obtain ⟨x14, hx14, h⟩ := Option.bind_eq_some_iff.mp h
   refine WO.k2 rfl rfl rfl rfl (rn_index g0 hx14 Try.runUnderlying22 Try.sizeOf2 rfl rfl rfl rfl) ?_
   have f11 := g0.stp S9 rfl rfl
   refine WO.k1 trivial rfl rfl rfl rfl (rn_ld Try.isAgg2 rfl rfl (hvE (f11.gInt hx14))) ?_
   refine WO.pn 2 rfl ?_
   refine WO.fin ?_
   refine DN.seq ?_
   revert h
   cases ht12 : (x14 != s1) with
   | true =>
    intro h; replace h := cT h
    refine WC.ct rfl ?_
    refine WC.seq ?_
    refine WC.rs [(0, 2)] rfl ?_
    refine WO.pn 1 rfl ?_
    refine WO.fin ?_
    refine DN.seq ?_
    refine WC.ret ?_
    refine DN.retThen ?_
    refine DN.retBlock ?_
    refine DN.retThen ?_
    refine DN.retThen ?_
    obtain rfl := Option.some.inj h
    obtain rfl := Option.some.inj hk10
    have h := hK2
    dsimp only [aft] at h
    refine DN.retBlock ?_
    refine DN.retMeet ?_
    refine DN.retThen ?_
    have f13 := hE.stp S9 rfl rfl
    refine DN.res (l := [.tmp 4]) Try.results16 (res_tmp rfl rfl) rfl ?_
    obtain rfl := Option.some.inj h
    exact ⟨K8, rfl, f13⟩
   | false =>
    intro h; replace h := cF h
    refine WC.cf rfl ?_
    refine WC.skip ?_
    refine DN.seq ?_
    refine WC.rs [(0, 2), (1, 2), (2, 2)] rfl ?_
    refine WO.pn 3 rfl ?_
    refine WO.fin ?_
    refine DN.block ?_
    refine DN.seq ?_
    refine WC.rs [(0, 2), (1, 2), (2, 2)] rfl ?_
    refine WO.pn 3 rfl ?_
    refine WO.fin ?_
    have hw1 : IntKind.wrap .i64 (v5 + 1) = v5 + 1 := wr1 hj1 (of_decide_eq_true hc1) hN1
    rw [hw1]
    have hc1 := of_decide_eq_true hc1
    obtain rfl := Option.some.inj h
    refine DN.round fun a ha => ?_
    exact ⟨k, _, Nat.lt_succ_self _, ⟨K8, v5 + 1, ((IntKind.i64.wrap (s1 + 1)) : Int), rfl, S9.wk rfl, by omega, by omega, hk10⟩, (ha.more (ha.more (ha.more ha.nil rfl) rfl) rfl)⟩
 rintro _ w4 ⟨K5, s3, rfl, S6, rfl⟩
 have h := hK2
 dsimp only [aft] at h
 refine DN.seq ?_
 refine WC.seq ?_
 refine WC.rs [(0, 2), (1, 2)] rfl ?_
 refine WO.pn 2 rfl ?_
 refine WO.fin ?_
 refine DN.seq ?_
 refine WC.ret ?_
 have f14 := hE.stp S6 rfl rfl
 refine DN.res (l := [.tmp 4]) Try.results16 (res_tmp rfl rfl) rfl ?_
 obtain rfl := Option.some.inj h
 exact ⟨K5, rfl, f14⟩

end Go.Proofs.Ytndiklipffipcaa
