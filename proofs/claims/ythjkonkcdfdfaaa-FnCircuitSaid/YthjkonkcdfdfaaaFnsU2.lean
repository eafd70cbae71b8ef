/- The walks, part 2. By program. -/
import Derived.Test.YthjkonkcdfdfaaaFnsU0
set_option linter.unusedVariables false
set_option linter.unusedSimpArgs false
namespace Go.Proofs.Ythjkonkcdfdfaaa
open Go Go.Wk Go.Proofs
set_option maxRecDepth 100000
set_option maxHeartbeats 1000000

/- (*loop.example/g00869/impl.builder).join -/
theorem i_builder_join_ok {w : World} {κ : Col} {a0_0_2 : Option Addr} {u0_0_2 : Nat} {a0_0_3 : Option Addr} {u0_0_3 : Nat} {a0_0_4 : Option Addr} {u0_0_4 : Nat} {mb0_2 : Nat} {p0 : builder} {p1 : Int} {p2 : Int} {b0 : Nat} (g0_0_2 : Rd (Rp.int .i64) κ w 0 a0_0_2 u0_0_2 p0.c.Next) (g0_0_3 : Oc Gate.ep33 33 κ w 2 a0_0_3 u0_0_3 p0.c.Gates) (g0_0_4 : Rd (Rp.int .i64) κ w 0 a0_0_4 u0_0_4 p0.c.Outs) (g0_2 : Mc kwGate kvGate (fun v : Int => .int .i64 v) κ w 3 mb0_2 p0.known) (gb0 : Bc κ w 4 b0 72 [.int .i64 p0.c.Inputs, .int .i64 p0.c.Latches, .slice a0_0_2 p0.c.Next.length u0_0_2, .slice a0_0_3 p0.c.Gates.length u0_0_3, .slice a0_0_4 p0.c.Outs.length u0_0_4, .bool p0.full, .map (some mb0_2)]) {r : Int × (List Gate) × Bool × (List (Gate × Int))} (h : i_builder_join p0 p1 p2 = some r) : Ret Try.prog 44 [.pointer (some ⟨b0, 0, none⟩), .int .i64 p1, .int .i64 p2] w (fun v w' => ∃ (κ' : Col) (ma0 : Option Addr) (mu0 : Nat), v = .int .i64 r.1 ∧ Ent κ w κ' w' ∧ Oc Gate.ep33 33 κ' w' 2 ma0 mu0 r.2.1 ∧ Mc kwGate kvGate (fun v : Int => .int .i64 v) κ' w' 3 mb0_2 r.2.2.2 ∧ Bc κ' w' 4 b0 72 [.int .i64 p0.c.Inputs, .int .i64 p0.c.Latches, .slice a0_0_2 p0.c.Next.length u0_0_2, .slice ma0 r.2.1.length mu0, .slice a0_0_4 p0.c.Outs.length u0_0_4, .bool r.2.2.1, .map (some mb0_2)]) := by
 unfold i_builder_join at h
 refine Ret.enter Try.func44 rfl Try.ntmps44 rfl ?_
 dsimp only [envOf]
 have hE := Ent.refl κ w
 refine WC.seq ?_
 refine WC.rs [(0, 2)] rfl ?_
 refine WO.pn 1 rfl ?_
 refine WO.fin ?_
 refine DN.seq ?_
 refine WC.seq ?_
 refine WC.block ?_
 refine WC.seq ?_
 refine WC.rs [(0, 2), (1, 2), (2, 2), (3, 2), (4, 2), (5, 2), (6, 2), (7, 2), (8, 2), (9, 2), (10, 2), (11, 2), (12, 2)] rfl ?_
 refine WO.pn 3 rfl ?_
 obtain ⟨p17, h, hK1⟩ := Option.bind_eq_some_iff.mp h
 refine WO.meet [(3, 2), (4, 2), (5, 2)] [(6, 2), (7, 2), (8, 2), (9, 2), (10, 2), (11, 2), (12, 2)] (fun L w' => L = [(0, .pointer (some ⟨b0, 0, none⟩)), (1, .int .i64 p1), (2, .int .i64 p2), (17, .bool p17)] ∧ ∃ κ', Stp [] κ w κ' w') trivial ?_ ?_
 ·
  revert h
  cases ht2 : (p1 == 0) with
  | true =>
   intro h; replace h := cT h
   refine WO.pn 3 rfl ?_
   obtain rfl := Option.some.inj h
   exact WO.met _ trivial ⟨rfl, _, (Stp.refl _ _).wk rfl⟩ fun a ha => (ha.more (ha.more (ha.more (ha.more ha.nil rfl) rfl) rfl) rfl)
  | false =>
   intro h; replace h := cF h
   refine WO.pn 3 rfl ?_
   obtain rfl := Option.some.inj h
   exact WO.met _ trivial ⟨rfl, _, (Stp.refl _ _).wk rfl⟩ fun a ha => (ha.more (ha.more (ha.more (ha.more ha.nil rfl) rfl) rfl) rfl)
 rintro _ w3 _ ⟨rfl, K4, S5⟩
 have h := hK1
 refine WO.pn 1 rfl ?_
 obtain ⟨p23, h, hK6⟩ := Option.bind_eq_some_iff.mp h
 refine WO.meet [(7, 2), (8, 2), (9, 2), (10, 2), (11, 2)] [(12, 2)] (fun L w' => L = [(0, .pointer (some ⟨b0, 0, none⟩)), (1, .int .i64 p1), (2, .int .i64 p2), (23, .bool p23)] ∧ ∃ κ', Stp [] K4 w3 κ' w') trivial ?_ ?_
 ·
  revert h
  cases ht7 : p17 with
  | true =>
   intro h; replace h := cT h
   refine WO.pn 5 rfl ?_
   obtain rfl := Option.some.inj h
   exact WO.met _ trivial ⟨rfl, _, (Stp.refl _ _).wk rfl⟩ fun a ha => (ha.more (ha.more (ha.more (ha.more ha.nil rfl) rfl) rfl) rfl)
  | false =>
   intro h; replace h := cF h
   refine WO.pn 5 rfl ?_
   obtain rfl := Option.some.inj h
   exact WO.met _ trivial ⟨rfl, _, (Stp.refl _ _).wk rfl⟩ fun a ha => (ha.more (ha.more (ha.more (ha.more ha.nil rfl) rfl) rfl) rfl)
 rintro _ w8 _ ⟨rfl, K9, S10⟩
 have h := hK6
 refine WO.pn 1 rfl ?_
 refine WO.fin ?_
 refine DN.seq ?_
 revert h
 cases ht11 : p23 with
 | true =>
  intro h; replace h := cT h
  refine WC.ct rfl ?_
  refine WC.seq ?_
  refine WC.rs [(0, 2)] rfl ?_
  refine WO.pn 1 rfl ?_
  refine WO.fin ?_
  refine DN.seq ?_
  refine WC.ret ?_
  refine DN.retBlock ?_
  refine DN.retThen ?_
  have f12 := hE.stp (S5.tr S10) rfl rfl
  have f13 := g0_0_3.stp (S5.tr S10) rfl rfl
  have f14 := g0_2.stp (S5.tr S10) rfl rfl
  have f15 := gb0.stp (S5.tr S10) rfl rfl
  refine DN.res (l := [.tmp 6]) Try.results44 (res_tmp rfl rfl) rfl ?_
  obtain rfl := Option.some.inj h
  exact ⟨K9, a0_0_3, u0_0_3, rfl, f12, f13, f14, f15⟩
 | false =>
  intro h; replace h := cF h
  refine WC.cf rfl ?_
  refine WC.seq ?_
  refine WC.rs [(0, 2), (1, 2), (2, 2)] rfl ?_
  refine WO.pn 3 rfl ?_
  refine WO.fin ?_
  refine DN.seq ?_
  revert h
  cases ht16 : (p1 == 1) with
  | true =>
   intro h; replace h := cT h
   refine WC.ct rfl ?_
   refine WC.seq ?_
   refine WC.rs [(0, 2), (1, 2)] rfl ?_
   refine WO.pn 2 rfl ?_
   refine WO.fin ?_
   refine DN.seq ?_
   refine WC.ret ?_
   refine DN.retBlock ?_
   refine DN.retThen ?_
   have f17 := hE.stp (S5.tr S10) rfl rfl
   have f18 := g0_0_3.stp (S5.tr S10) rfl rfl
   have f19 := g0_2.stp (S5.tr S10) rfl rfl
   have f20 := gb0.stp (S5.tr S10) rfl rfl
   refine DN.res (l := [.tmp 6]) Try.results44 (res_tmp rfl rfl) rfl ?_
   obtain rfl := Option.some.inj h
   exact ⟨K9, a0_0_3, u0_0_3, rfl, f17, f18, f19, f20⟩
  | false =>
   intro h; replace h := cF h
   refine WC.cf rfl ?_
   refine WC.seq ?_
   refine WC.rs [(0, 2), (1, 2), (2, 2), (3, 2), (4, 2), (5, 2), (6, 2), (7, 2)] rfl ?_
   refine WO.pn 3 rfl ?_
   obtain ⟨p35, h, hK21⟩ := Option.bind_eq_some_iff.mp h
   refine WO.meet [(3, 2), (4, 2), (5, 2), (6, 2)] [(7, 2)] (fun L w' => L = [(0, .pointer (some ⟨b0, 0, none⟩)), (1, .int .i64 p1), (2, .int .i64 p2), (35, .bool p35)] ∧ ∃ κ', Stp [] K9 w8 κ' w') trivial ?_ ?_
   ·
    revert h
    cases ht22 : (p2 == 1) with
    | true =>
     intro h; replace h := cT h
     refine WO.pn 4 rfl ?_
     obtain rfl := Option.some.inj h
     exact WO.met _ trivial ⟨rfl, _, (Stp.refl _ _).wk rfl⟩ fun a ha => (ha.more (ha.more (ha.more (ha.more ha.nil rfl) rfl) rfl) rfl)
    | false =>
     intro h; replace h := cF h
     refine WO.pn 4 rfl ?_
     obtain rfl := Option.some.inj h
     exact WO.met _ trivial ⟨rfl, _, (Stp.refl _ _).wk rfl⟩ fun a ha => (ha.more (ha.more (ha.more (ha.more ha.nil rfl) rfl) rfl) rfl)
   rintro _ w23 _ ⟨rfl, K24, S25⟩
   have h := hK21
   refine WO.pn 1 rfl ?_
   refine WO.fin ?_
   refine DN.seq ?_
   revert h
   cases ht26 : p35 with
   | true =>
    intro h; replace h := cT h
    refine WC.ct rfl ?_
    refine WC.seq ?_
    refine WC.rs [(0, 2), (1, 2)] rfl ?_
    refine WO.pn 2 rfl ?_
    refine WO.fin ?_
    refine DN.seq ?_
    refine WC.ret ?_
    refine DN.retBlock ?_
    refine DN.retThen ?_
    have f27 := hE.stp (S5.tr (S10.tr S25)) rfl rfl
    have f28 := g0_0_3.stp (S5.tr (S10.tr S25)) rfl rfl
    have f29 := g0_2.stp (S5.tr (S10.tr S25)) rfl rfl
    have f30 := gb0.stp (S5.tr (S10.tr S25)) rfl rfl
    refine DN.res (l := [.tmp 6]) Try.results44 (res_tmp rfl rfl) rfl ?_
    obtain rfl := Option.some.inj h
    exact ⟨K24, a0_0_3, u0_0_3, rfl, f27, f28, f29, f30⟩
   | false =>
    intro h; replace h := cF h
    refine WC.cf rfl ?_
    refine WC.skip ?_
    refine DN.block ?_
    refine DN.seq ?_
    refine WC.seq ?_
    refine WC.rs [(0, 2), (1, 2), (2, 2), (3, 2), (4, 2), (5, 2), (6, 2), (7, 1), (8, 1)] rfl ?_
    refine WO.pn 2 rfl ?_
    refine WO.k2 rfl rfl rfl rfl (rn_min rfl rfl rfl) ?_
    refine WO.pn 2 rfl ?_
    refine WO.k2 rfl rfl rfl rfl (rn_max rfl rfl rfl) ?_
    refine WO.k2 rfl rfl rfl rfl (rn_build (parts := [(0, .tmp 39), (1, .tmp 42)]) (cells := [.int .i64 (if p2 < p1 then p2 else p1), .int .i64 (if p1 < p2 then p2 else p1)]) rfl rfl (by kernel_rfl)) ?_
    refine WO.alloc (κ := K24) 5 rfl rfl rfl rfl rfl Try.zeroValue33 rfl fun b7 w31 K32 S33 f34 => ⟨trivial, ?_⟩
    refine WO.stB0 (κ := K32) 5 (vc := [.int .i64 (if p2 < p1 then p2 else p1), .int .i64 (if p1 < p2 then p2 else p1)]) rfl rfl rfl rfl rfl rfl rfl Try.sizeOf33 rfl rfl f34 rfl fun w35 S36 f37 => ⟨trivial, ?_⟩
    refine WO.fin ?_
    refine DN.seq ?_
    refine WC.seq ?_
    refine WC.seq ?_
    refine WC.rx (κ := K32) [3, 4, 5] none [(0, 2), (1, 2), (2, 2), (3, 0), (4, 0), (5, 0), (6, 2), (7, 2), (8, 2), (9, 2), (10, 2)] [] (by kernel_rfl) (by kernel_rfl) fun w39 S38 => ?_
    refine WO.pn 1 rfl ?_
    refine WO.k2 rfl rfl rfl rfl (rn_nilCheck rfl rfl) ?_
    refine WO.k2 rfl rfl rfl rfl (rn_fieldAddr Try.runUnderlying72 rfl Try.sizeOf70 rfl rfl) ?_
    have f40 := gb0.stp (S5.tr (S10.tr (S25.tr (S33.tr (S36.tr S38))))) rfl rfl
    refine WO.k0 rfl rfl rfl rfl (rn_ld Try.isAgg70 rfl rfl (hvC (f40.ld 6 rfl rfl) rfl)) ?_
    have f41 := f37.stp S38 rfl rfl
    refine WO.k0 rfl rfl rfl rfl (rn_la (cs := [.int .i64 (if p2 < p1 then p2 else p1), .int .i64 (if p1 < p2 then p2 else p1)]) Try.isAgg33 Try.sizeOf33 rfl rfl rfl (haC f41.cells rfl)) ?_
    have f42 := g0_2.stp (S5.tr (S10.tr (S25.tr (S33.tr (S36.tr S38))))) rfl rfl
    obtain ⟨x50, hx50, h⟩ := Option.bind_eq_some_iff.mp h
    refine WO.k0 rfl rfl rfl rfl (rn_lookup (kf := kvGate) (vf := (fun v : Int => .int .i64 v)) keyEGate Try.runUnderlying70 Try.zeroValue2 rfl rfl rfl (mvC f42 rfl) hx50) ?_
    refine WO.pn 5 rfl ?_
    refine WO.nx ?_
    refine WO.fin ?_
    refine DN.seq ?_
    refine WC.seq ?_
    refine WC.rs [(0, 2)] rfl ?_
    refine WO.pn 1 rfl ?_
    refine WO.fin ?_
    refine DN.seq ?_
    revert h
    cases ht43 : x50.2 with
    | true =>
     intro h; replace h := cT h
     refine WC.ct rfl ?_
     refine WC.seq ?_
     refine WC.rs [(0, 2), (1, 2)] rfl ?_
     refine WO.pn 2 rfl ?_
     refine WO.fin ?_
     refine DN.seq ?_
     refine WC.ret ?_
     refine DN.retThen ?_
     have f44 := hE.stp (S5.tr (S10.tr (S25.tr (S33.tr (S36.tr S38))))) rfl rfl
     have f45 := g0_0_3.stp (S5.tr (S10.tr (S25.tr (S33.tr (S36.tr S38))))) rfl rfl
     refine DN.res (l := [.tmp 6]) Try.results44 (res_tmp rfl rfl) rfl ?_
     obtain rfl := Option.some.inj h
     exact ⟨K32, a0_0_3, u0_0_3, rfl, f44, f45, f42, f40⟩
    | false =>
     intro h; replace h := cF h
     refine WC.cf rfl ?_
     refine WC.skip ?_
     refine DN.seq ?_
     refine WC.seq ?_
     refine WC.seq ?_
     refine WC.rs [(0, 2), (1, 2), (2, 2), (3, 2), (4, 1), (5, 2), (6, 2)] rfl ?_
     refine WO.pn 1 rfl ?_
     refine WO.k2 rfl rfl rfl rfl (rn_nilCheck rfl rfl) ?_
     refine WO.k2 rfl rfl rfl rfl (rn_fieldAddr Try.runUnderlying72 rfl Try.sizeOf27 rfl rfl) ?_
     refine WO.k2 rfl rfl rfl rfl (rn_fieldAddr Try.runUnderlying27 rfl Try.sizeOf25 rfl rfl) ?_
     refine WO.k1 trivial rfl rfl rfl rfl (rn_ld Try.isAgg25 rfl rfl (hvE (f40.ld 3 rfl rfl))) ?_
     refine WO.k2 rfl rfl rfl rfl (rn_len Try.runUnderlying25 rfl rfl) ?_
     refine WO.pn 1 rfl ?_
     refine WO.fin ?_
     refine DN.seq ?_
     revert h
     cases ht46 : decide (8000 ≤ (p0.c.Gates.length : Int)) with
     | true =>
      intro h; replace h := cT h
      refine WC.ct rfl ?_
      refine WC.seq ?_
      refine WC.rs [(0, 2), (1, 2), (2, 2), (3, 1)] rfl ?_
      refine WO.pn 1 rfl ?_
      refine WO.k2 rfl rfl rfl rfl (rn_nilCheck rfl rfl) ?_
      refine WO.k2 rfl rfl rfl rfl (rn_fieldAddr Try.runUnderlying72 rfl Try.sizeOf4 rfl rfl) ?_
      refine WO.stB (κ := K32) 4 (off := 5) (vc := [.bool true]) (cs' := [.int .i64 p0.c.Inputs, .int .i64 p0.c.Latches, .slice a0_0_2 p0.c.Next.length u0_0_2, .slice a0_0_3 p0.c.Gates.length u0_0_3, .slice a0_0_4 p0.c.Outs.length u0_0_4, .bool true, .map (some mb0_2)]) rfl rfl rfl rfl rfl rfl rfl Try.sizeOf4 rfl rfl f40 rfl rfl fun w47 S48 f49 => ⟨trivial, ?_⟩
      refine WO.fin ?_
      refine DN.seq ?_
      refine WC.seq ?_
      refine WC.rs [(0, 2)] rfl ?_
      refine WO.pn 1 rfl ?_
      refine WO.fin ?_
      refine DN.seq ?_
      refine WC.ret ?_
      refine DN.retThen ?_
      have f50 := hE.stp (S5.tr (S10.tr (S25.tr (S33.tr (S36.tr (S38.tr S48)))))) rfl rfl
      have f51 := g0_0_3.stp (S5.tr (S10.tr (S25.tr (S33.tr (S36.tr (S38.tr S48)))))) rfl rfl
      have f52 := f42.stp S48 rfl rfl
      refine DN.res (l := [.tmp 6]) Try.results44 (res_tmp rfl rfl) rfl ?_
      obtain rfl := Option.some.inj h
      exact ⟨K32, a0_0_3, u0_0_3, rfl, f50, f51, f52, f49⟩
     | false =>
      intro h; replace h := cF h
      refine WC.cf rfl ?_
      refine WC.skip ?_
      refine DN.seq ?_
      refine WC.seq ?_
      refine WC.rs [(0, 2), (1, 2), (2, 2), (3, 1), (4, 1), (5, 2), (6, 2)] rfl ?_
      refine WO.pn 1 rfl ?_
      refine WO.k2 rfl rfl rfl rfl (rn_nilCheck rfl rfl) ?_
      refine WO.k2 rfl rfl rfl rfl (rn_fieldAddr Try.runUnderlying72 rfl Try.sizeOf27 rfl rfl) ?_
      refine WO.k1 trivial rfl rfl rfl rfl (rn_la (cs := [.int .i64 p0.c.Inputs, .int .i64 p0.c.Latches, .slice a0_0_2 p0.c.Next.length u0_0_2, .slice a0_0_3 p0.c.Gates.length u0_0_3, .slice a0_0_4 p0.c.Outs.length u0_0_4]) Try.isAgg27 Try.sizeOf27 rfl rfl rfl (haE (f40.lds 0 5 rfl))) ?_
      obtain ⟨x69, hx69, h⟩ := Option.bind_eq_some_iff.mp h
      have f53 := g0_0_2.stp (S5.tr (S10.tr (S25.tr (S33.tr (S36.tr S38))))) rfl rfl
      have f54 := g0_0_3.stp (S5.tr (S10.tr (S25.tr (S33.tr (S36.tr S38))))) rfl rfl
      have f55 := g0_0_4.stp (S5.tr (S10.tr (S25.tr (S33.tr (S36.tr S38))))) rfl rfl
      refine WO.call rfl rfl rfl rfl rfl rfl Try.call36 (i_signalsOf_ok (κ := fun b => mp [] 0 (K32 b)) (p0 := p0.c) (Sl.map f53 (mp [] 0) rfl rfl) (Sl.map f54.rdc (mp [] 0) rfl rfl) (Sl.map f55 (mp [] 0) rfl rfl) hx69) ?_
      rintro _ w56 ⟨k57, rfl, e58⟩
      obtain ⟨K59, S60, m61⟩ := Ent.mixed (l := []) (κ := K32) e58 6 rfl
      refine ⟨trivial, ?_⟩
      refine WO.pn 2 rfl ?_
      refine WO.fin ?_
      refine DN.seq ?_
      refine WC.seq ?_
      refine WC.rx (κ := K59) [4, 5] (some 12) [(0, 2), (1, 2), (2, 2), (3, 2), (4, 2), (5, 0), (6, 0), (7, 1), (8, 1), (9, 2), (10, 2), (11, 2)] [(12, 1)] (by kernel_rfl) (by kernel_rfl) fun w64 S63 => ?_
      refine WO.pn 2 rfl ?_
      refine WO.k2 rfl rfl rfl rfl (rn_nilCheck rfl rfl) ?_
      refine WO.k2 rfl rfl rfl rfl (rn_fieldAddr Try.runUnderlying72 rfl Try.sizeOf27 rfl rfl) ?_
      refine WO.k2 rfl rfl rfl rfl (rn_fieldAddr Try.runUnderlying27 rfl Try.sizeOf25 rfl rfl) ?_
      have f65 := f40.stp (S60.tr S63) rfl rfl
      refine WO.k0 rfl rfl rfl rfl (rn_ld Try.isAgg25 rfl rfl (hvC (f65.ld 3 rfl rfl) rfl)) ?_
      have f66 := f41.stp (S60.tr S63) rfl rfl
      refine WO.k0 rfl rfl rfl rfl (rn_la (cs := [.int .i64 (if p2 < p1 then p2 else p1), .int .i64 (if p1 < p2 then p2 else p1)]) Try.isAgg33 Try.sizeOf33 rfl rfl rfl (haC f66.cells rfl)) ?_
      refine WO.bl (κ := K59) (E := Gate.ep33) 8 [] (parts := [(0, .tmp 77)]) (cells := [.int .i64 (if p2 < p1 then p2 else p1), .int .i64 (if p1 < p2 then p2 else p1)]) (xs := ([(⟨(if p2 < p1 then p2 else p1), (if p1 < p2 then p2 else p1)⟩ : Gate)] : List Gate)) rfl rfl rfl rfl rfl rfl Try.underlying25 Tryinfo33 rfl rfl rfl rfl rfl rfl rfl rfl rfl rfl ⟨[.int .i64 (if p2 < p1 then p2 else p1), .int .i64 (if p1 < p2 then p2 else p1)], [], Zl K59 w64 [], Zl K59 w64 [], rfl, Zl.sp (l1 := []) (l2 := []) rfl, Zl.sr (l1 := []) (l2 := []), ⟨[.int .i64 (if p2 < p1 then p2 else p1)], [.int .i64 (if p1 < p2 then p2 else p1)], Zl K59 w64 [], Zl K59 w64 [], rfl, Zl.sp (l1 := []) (l2 := []) rfl, Zl.sr (l1 := []) (l2 := []), rfl, rfl⟩, rfl⟩ fun a78 u78 w67 K68 S69 f70 => ⟨(S69.cl rfl), ?_⟩
      obtain ⟨x79, hx79, h⟩ := Option.bind_eq_some_iff.mp h
      have f71 := f54.stp (S60.tr (S63.tr S69)) rfl rfl
      refine WO.app (κ := K68) (E := Gate.ep33) 2 [] rfl rfl rfl rfl rfl rfl rfl rfl rfl Try.underlying25 Tryinfo33 rfl rfl rfl rfl f71 (Sl.srcP Gate.pu33 f70.rdc) sy_false hx79 rfl fun a79 u79 w72 K73 S74 f75 => ⟨((S69.tr S74).cl rfl), ?_⟩
      refine WO.k2 rfl rfl rfl rfl (rn_nilCheck rfl rfl) ?_
      refine WO.k2 rfl rfl rfl rfl (rn_fieldAddr Try.runUnderlying72 rfl Try.sizeOf27 rfl rfl) ?_
      refine WO.k2 rfl rfl rfl rfl (rn_fieldAddr Try.runUnderlying27 rfl Try.sizeOf25 rfl rfl) ?_
      refine WO.nx ?_
      have f76 := f65.stp (S69.tr S74) rfl rfl
      refine WO.stB (κ := K73) 4 (off := 3) (vc := [.slice a79 x79.length u79]) (cs' := [.int .i64 p0.c.Inputs, .int .i64 p0.c.Latches, .slice a0_0_2 p0.c.Next.length u0_0_2, .slice a79 x79.length u79, .slice a0_0_4 p0.c.Outs.length u0_0_4, .bool p0.full, .map (some mb0_2)]) rfl rfl rfl rfl rfl rfl rfl Try.sizeOf25 rfl rfl f76 rfl rfl fun w77 S78 f79 => ⟨trivial, ?_⟩
      refine WO.fin ?_
      refine DN.seq ?_
      refine WC.seq ?_
      refine WC.rs [(0, 2), (1, 1), (2, 2), (3, 1)] rfl ?_
      refine WO.pn 1 rfl ?_
      have f80 := f66.stp (S69.tr (S74.tr S78)) rfl rfl
      refine WO.k1 trivial rfl rfl rfl rfl (rn_la (cs := [.int .i64 (if p2 < p1 then p2 else p1), .int .i64 (if p1 < p2 then p2 else p1)]) Try.isAgg33 Try.sizeOf33 rfl rfl rfl (haE f80.cells)) ?_
      refine WO.pn 1 rfl ?_
      obtain ⟨x86, hx86, h⟩ := Option.bind_eq_some_iff.mp h
      have f81 := f53.stp (S60.tr (S63.tr (S69.tr (S74.tr S78)))) rfl rfl
      have f82 := f75.stp S78 rfl rfl
      have f83 := f55.stp (S60.tr (S63.tr (S69.tr (S74.tr S78)))) rfl rfl
      have f84 := f42.stp (S60.tr (S63.tr (S69.tr (S74.tr S78)))) rfl rfl
      refine WO.call rfl rfl rfl rfl rfl rfl Try.call72 (i_builder_learn_ok (κ := fun b => mp [(3, 2)] 0 (K73 b)) (p1 := (⟨(if p2 < p1 then p2 else p1), (if p1 < p2 then p2 else p1)⟩ : Gate)) (p0 := (⟨(⟨p0.c.Inputs, p0.c.Latches, p0.c.Next, x79, p0.c.Outs⟩ : Circuit), p0.full, p0.known⟩ : builder)) (Sl.map f81 (mp [(3, 2)] 0) rfl rfl) (Sl.map f82.rdc (mp [(3, 2)] 0) rfl rfl) (Sl.map f83 (mp [(3, 2)] 0) rfl rfl) (f84.map (mp [(3, 2)] 0) rfl rfl) (f79.map (mp [(3, 2)] 0) rfl rfl) hx86) ?_
      rintro _ w85 ⟨k86, rfl, e87, f88⟩
      obtain ⟨K89, S90, m91⟩ := Ent.mixed (l := [(3, 2)]) (κ := K73) e87 9 rfl
      refine ⟨trivial, ?_⟩
      have f93 := f88.mx' m91 rfl (rfl : 9 + 2 = 11)
      refine WO.fin ?_
      refine DN.seq ?_
      refine WC.seq ?_
      refine WC.rs [(0, 2), (1, 2)] rfl ?_
      refine WO.pn 2 rfl ?_
      refine WO.fin ?_
      refine DN.seq ?_
      refine WC.ret ?_
      have f94 := hE.stp (S5.tr (S10.tr (S25.tr (S33.tr (S36.tr (S38.tr (S60.tr (S63.tr (S69.tr (S74.tr (S78.tr S90))))))))))) rfl rfl
      have f95 := f82.stp S90 rfl rfl
      have f96 := f79.stp S90 rfl rfl
      refine DN.res (l := [.tmp 6]) Try.results44 (res_tmp rfl rfl) rfl ?_
      obtain rfl := Option.some.inj h
      exact ⟨(fun b => ren [(11, 3)] (K89 b)), a79, u79, rfl, (f94.map (ren [(11, 3)]) rfl rfl), (f95.map (ren [(11, 3)]) rfl rfl), (f93.map (ren [(11, 3)]) rfl rfl), (f96.map (ren [(11, 3)]) rfl rfl)⟩

/- loop.example/g00869/spec.SigOk -/
theorem s_SigOk_ok {w : World} {κ : Col} {p0 : Sig}  {r : Bool} (h : s_SigOk p0 = some r) : Ret Try.prog 55 [.agg #[.int .i64 p0.In, .int .i64 p0.Out]] w (fun v w' => ∃ (κ' : Col), v = .bool r ∧ Ent κ w κ' w') := by
 unfold s_SigOk at h
 refine Ret.enter Try.func55 rfl Try.ntmps55 rfl ?_
 dsimp only [envOf]
 have hE := Ent.refl κ w
 refine WC.seq ?_
 refine WC.rs [(0, 1), (1, 2)] rfl ?_
 refine WO.box (κ := κ) 2 rfl rfl rfl rfl rfl rfl rfl fun b1 w1 K2 S3 f4 => ⟨trivial, ?_⟩
 refine WO.pn 1 rfl ?_
 refine WO.fin ?_
 refine DN.seq ?_
 refine WC.seq ?_
 refine WC.rs [(0, 2), (1, 1), (2, 1), (3, 2), (4, 2), (5, 1), (6, 1), (7, 2), (8, 2)] rfl ?_
 refine WO.k2 rfl rfl rfl rfl (rn_fieldAddr Try.runUnderlying43 rfl Try.sizeOf2 rfl rfl) ?_
 refine WO.k1 trivial rfl rfl rfl rfl (rn_ld Try.isAgg2 rfl rfl (hvE (f4.ld 0 rfl rfl))) ?_
 obtain ⟨x5, hx5, h⟩ := Option.bind_eq_some_iff.mp h
 refine WO.call rfl rfl rfl rfl rfl rfl Try.call33 (s_l1In_ok (κ := fun b => mp [] 0 (K2 b)) hx5) ?_
 rintro _ w5 ⟨k6, rfl, e7⟩
 obtain ⟨K8, S9, m10⟩ := Ent.mixed (l := []) (κ := K2) e7 3 rfl
 refine ⟨trivial, ?_⟩
 refine WO.pn 1 rfl ?_
 obtain ⟨p10, h, hK12⟩ := Option.bind_eq_some_iff.mp h
 refine WO.meet [(4, 2), (5, 1), (6, 1), (7, 2)] [(8, 2)] (fun L w' => L = [(2, .bool false), (10, .bool p10)] ∧ ∃ κ', Stp [] K8 w5 κ' w') trivial ?_ ?_
 ·
  revert h
  cases ht13 : x5 with
  | true =>
   intro h; replace h := cT h
   refine WO.k2 rfl rfl rfl rfl (rn_fieldAddr Try.runUnderlying43 rfl Try.sizeOf2 rfl rfl) ?_
   have f14 := f4.stp S9 rfl rfl
   refine WO.k1 trivial rfl rfl rfl rfl (rn_ld Try.isAgg2 rfl rfl (hvE (f14.ld 1 rfl rfl))) ?_
   obtain ⟨x9, hx9, h⟩ := Option.bind_eq_some_iff.mp h
   refine WO.call rfl rfl rfl rfl rfl rfl Try.call33 (s_l1In_ok (κ := fun b => mp [] 0 (K8 b)) hx9) ?_
   rintro _ w15 ⟨k16, rfl, e17⟩
   obtain ⟨K18, S19, m20⟩ := Ent.mixed (l := []) (κ := K8) e17 5 rfl
   refine ⟨trivial, ?_⟩
   refine WO.pn 1 rfl ?_
   obtain rfl := Option.some.inj h
   exact WO.met _ trivial ⟨rfl, _, S19.wk rfl⟩ fun a ha => (ha.more (ha.more ha.nil rfl) rfl)
  | false =>
   intro h; replace h := cF h
   refine WO.pn 1 rfl ?_
   refine WO.ls rfl rfl rfl rfl ?_
   refine WO.ls rfl rfl rfl rfl ?_
   refine WO.pn 1 rfl ?_
   obtain rfl := Option.some.inj h
   exact WO.met _ trivial ⟨rfl, _, (Stp.refl _ _).wk rfl⟩ fun a ha => (ha.more (ha.more ha.nil rfl) rfl)
 rintro _ w22 _ ⟨rfl, K23, S24⟩
 have h := hK12
 refine WO.pn 1 rfl ?_
 refine WO.fin ?_
 refine DN.seq ?_
 refine WC.ret ?_
 have f25 := hE.stp (S3.tr (S9.tr S24)) rfl rfl
 refine DN.res (l := [.tmp 2]) Try.results55 (res_tmp rfl rfl) rfl ?_
 obtain rfl := Option.some.inj h
 exact ⟨K23, rfl, f25⟩

/- loop.example/g00869/spec.l29Ins -/
theorem s_l29Ins_ok {w : World} {κ : Col} {p0 : Sig}  {r : Int} (h : s_l29Ins p0 = some r) : Ret Try.prog 56 [.agg #[.int .i64 p0.In, .int .i64 p0.Out]] w (fun v w' => ∃ (κ' : Col), v = .int .i64 r ∧ Ent κ w κ' w') := by
 unfold s_l29Ins at h
 refine Ret.enter Try.func56 rfl Try.ntmps56 rfl ?_
 dsimp only [envOf]
 have hE := Ent.refl κ w
 refine WC.seq ?_
 refine WC.rs [(0, 1), (1, 2)] rfl ?_
 refine WO.box (κ := κ) 2 rfl rfl rfl rfl rfl rfl rfl fun b1 w1 K2 S3 f4 => ⟨trivial, ?_⟩
 refine WO.pn 1 rfl ?_
 refine WO.fin ?_
 refine DN.seq ?_
 refine WC.seq ?_
 refine WC.rs [(0, 2), (1, 1), (2, 1), (3, 2)] rfl ?_
 refine WO.k2 rfl rfl rfl rfl (rn_fieldAddr Try.runUnderlying43 rfl Try.sizeOf2 rfl rfl) ?_
 refine WO.k1 trivial rfl rfl rfl rfl (rn_ld Try.isAgg2 rfl rfl (hvE (f4.ld 0 rfl rfl))) ?_
 obtain ⟨x5, hx5, h⟩ := Option.bind_eq_some_iff.mp h
 refine WO.call rfl rfl rfl rfl rfl rfl Try.call58 (s_l23Power_ok (κ := fun b => mp [] 0 (K2 b)) hx5) ?_
 rintro _ w5 ⟨k6, rfl, e7⟩
 obtain ⟨K8, S9, m10⟩ := Ent.mixed (l := []) (κ := K2) e7 3 rfl
 refine ⟨trivial, ?_⟩
 refine WO.pn 1 rfl ?_
 refine WO.fin ?_
 refine DN.seq ?_
 refine WC.ret ?_
 have f12 := hE.stp (S3.tr S9) rfl rfl
 refine DN.res (l := [.tmp 2]) Try.results56 (res_tmp rfl rfl) rfl ?_
 obtain rfl := Option.some.inj h
 exact ⟨K8, rfl, f12⟩

/- loop.example/g00869/spec.l31Literals -/
theorem s_l31Literals_ok {w : World} {κ : Col} {a0 : Option Addr} {u0 : Nat} {p0 : (List Int)} {p1 : Int} (g0 : Rd (Rp.int .i64) κ w 0 a0 u0 p0) {r : Bool} (h : s_l31Literals p0 p1 = some r) : Ret Try.prog 34 [.slice a0 p0.length u0, .int .i64 p1] w (fun v w' => ∃ (κ' : Col), v = .bool r ∧ Ent κ w κ' w') := by
 unfold s_l31Literals at h
 refine Ret.enter Try.func34 rfl Try.ntmps34 rfl ?_
 dsimp only [envOf]
 have hE := Ent.refl κ w
 refine WC.seq ?_
 refine WC.rs [(0, 2)] rfl ?_
 refine WO.pn 1 rfl ?_
 refine WO.fin ?_
 refine DN.seq ?_
 refine WC.seq ?_
 refine WC.seq ?_
 refine WC.rs [(0, 2)] rfl ?_
 refine WO.pn 1 rfl ?_
 refine WO.fin ?_
 refine DN.seq ?_
 have hN1 : (p0.length : Int) ≤ 9223372036854775807 := g0.len_le
 obtain ⟨q2, hq3, hK2⟩ := Option.bind_eq_some_iff.mp h
 clear h
 refine WC.meet (fun L w' => ∃ (κ' : Col), L = [] ∧ Stp [] κ w κ' w' ∧ q2 = Sum.inr ()) ?_ ?_
 ·
  refine WC.block ?_
  refine WC.loop (fun k L w' => ∃ (κ' : Col) (v5 : Int), L = [(0, .slice a0 p0.length u0), (1, .int .i64 p1), (5, .int .i64 v5)] ∧ Stp [] κ w κ' w' ∧ 0 ≤ v5 ∧ Int.toNat ((p0.length : Int) - v5) = k ∧ cntM (s_l31Literals_b0 p0 p1) k v5 () = some q2) ⟨_, _, ⟨κ, 0, rfl, (Stp.refl _ _).wk rfl, (by decide), (by simp), hq3⟩, fun a ha => (ha.more (ha.more (ha.more ha.nil rfl) rfl) rfl)⟩ ?_
  rintro k _ w7 ⟨K8, v5, rfl, S9, hj1, hJ1, h⟩
  rcases k with _ | k
  ·
   have hk10 := h; obtain ⟨o1, h⟩ := ex_eq (Sum.inr (Sum.inl ()) : Bool ⊕ ((Unit) ⊕ (Unit)))
   have hc1 : decide (v5 < (p0.length : Int)) = false := decide_eq_false (by omega)
   refine WC.seq ?_
   refine WC.seq ?_
   refine WC.rs [(0, 2), (1, 2), (2, 2), (3, 2)] rfl ?_
   refine WO.pn 2 rfl ?_
   refine WO.k2 rfl rfl rfl rfl (rn_len Try.runUnderlying24 rfl rfl) ?_
   refine WO.pn 1 rfl ?_
   refine WO.fin ?_
   refine DN.seq ?_
   refine WC.cf' rfl hc1 ?_
   refine WC.exit ?_
   refine DN.exitThen ?_
   refine DN.exitThen ?_
   obtain rfl := Option.some.inj h
   have h := hk10
   refine DN.hit ?_
   obtain rfl := Option.some.inj h
   exact DN.meet _ ⟨K8, rfl, S9.wk rfl, rfl⟩ fun a ha => ha.nil
  ·
   obtain ⟨o1, h, hk10⟩ := Option.bind_eq_some_iff.mp h; unfold s_l31Literals_b0 at h
   have hc1 : decide (v5 < (p0.length : Int)) = true := decide_eq_true (by omega)
   refine WC.seq ?_
   refine WC.seq ?_
   refine WC.rs [(0, 2), (1, 2), (2, 2), (3, 2)] rfl ?_
   refine WO.pn 2 rfl ?_
   refine WO.k2 rfl rfl rfl rfl (rn_len Try.runUnderlying24 rfl rfl) ?_
   refine WO.pn 1 rfl ?_
   refine WO.fin ?_
   refine DN.seq ?_
   refine WC.ct' rfl hc1 ?_
   refine WC.skip ?_
   refine DN.seq ?_
   refine WC.seq ?_
   refine WC.block ?_
   refine WC.seq ?_
   refine WC.rs [(0, 2), (1, 2), (2, 2), (3, 1), (4, 2), (5, 2), (6, 2), (7, 1), (8, 2)] rfl ?_
   refine WO.pn 2 rfl ?_
   obtain ⟨x14, hx14, h⟩ := Option.bind_eq_some_iff.mp h
   refine WO.k2 rfl rfl rfl rfl (rn_index g0 hx14 Try.runUnderlying24 Try.sizeOf2 rfl rfl rfl rfl) ?_
   have f11 := g0.stp S9 rfl rfl
   refine WO.k1 trivial rfl rfl rfl rfl (rn_ld Try.isAgg2 rfl rfl (hvE (f11.gInt hx14))) ?_
   refine WO.pn 3 rfl ?_
   obtain ⟨x19, hx19, h⟩ := Option.bind_eq_some_iff.mp h
   refine WO.call rfl rfl rfl rfl rfl rfl Try.call33 (s_l1In_ok (κ := fun b => mp [] 0 (K8 b)) hx19) ?_
   rintro _ w12 ⟨k13, rfl, e14⟩
   obtain ⟨K15, S16, m17⟩ := Ent.mixed (l := []) (κ := K8) e14 2 rfl
   refine ⟨trivial, ?_⟩
   refine WO.pn 1 rfl ?_
   refine WO.fin ?_
   refine DN.seq ?_
   revert h
   cases ht19 : (!x19) with
   | true =>
    intro h; replace h := cT h
    refine WC.ct rfl ?_
    refine WC.seq ?_
    refine WC.rs [(0, 2)] rfl ?_
    refine WO.pn 1 rfl ?_
    refine WO.fin ?_
    refine DN.seq ?_
    refine WC.ret ?_
    refine DN.retBlock ?_
    refine DN.retThen ?_
    refine DN.retThen ?_
    obtain rfl := Option.some.inj h
    obtain rfl := Option.some.inj hk10
    have h := hK2
    dsimp only [aft] at h
    refine DN.retBlock ?_
    refine DN.retMeet ?_
    refine DN.retThen ?_
    have f20 := hE.stp (S9.tr S16) rfl rfl
    refine DN.res (l := [.tmp 4]) Try.results34 (res_tmp rfl rfl) rfl ?_
    obtain rfl := Option.some.inj h
    exact ⟨K15, rfl, f20⟩
   | false =>
    intro h; replace h := cF h
    refine WC.cf rfl ?_
    refine WC.skip ?_
    refine DN.block ?_
    refine DN.seq ?_
    refine WC.rs [(0, 2), (1, 2), (2, 2)] rfl ?_
    refine WO.pn 3 rfl ?_
    refine WO.fin ?_
    have hw1 : IntKind.wrap .i64 (v5 + 1) = v5 + 1 := wr1 hj1 (of_decide_eq_true hc1) hN1
    rw [hw1]
    have hc1 := of_decide_eq_true hc1
    obtain rfl := Option.some.inj h
    refine DN.round fun a ha => ?_
    exact ⟨k, _, Nat.lt_succ_self _, ⟨K15, v5 + 1, rfl, (S9.tr S16).wk rfl, by omega, by omega, hk10⟩, (ha.more (ha.more (ha.more ha.nil rfl) rfl) rfl)⟩
 rintro _ w4 ⟨K5, rfl, S6, rfl⟩
 have h := hK2
 dsimp only [aft] at h
 refine DN.seq ?_
 refine WC.seq ?_
 refine WC.rs [(0, 2)] rfl ?_
 refine WO.pn 1 rfl ?_
 refine WO.fin ?_
 refine DN.seq ?_
 refine WC.ret ?_
 have f21 := hE.stp S6 rfl rfl
 refine DN.res (l := [.tmp 4]) Try.results34 (res_tmp rfl rfl) rfl ?_
 obtain rfl := Option.some.inj h
 exact ⟨K5, rfl, f21⟩

/- loop.example/g00869/spec.l31Number -/
theorem s_l31Number_ok {w : World} {κ : Col} {a0 : Option Addr} {u0 : Nat} {p0 : (List Bool)} {a1 : Option Addr} {u1 : Nat} {p1 : (List Int)} (g0 : Rd Rp.bool κ w 0 a0 u0 p0) (g1 : Rd (Rp.int .i64) κ w 0 a1 u1 p1) {r : Int} (h : s_l31Number p0 p1 = some r) : Ret Try.prog 71 [.slice a0 p0.length u0, .slice a1 p1.length u1] w (fun v w' => ∃ (κ' : Col), v = .int .i64 r ∧ Ent κ w κ' w') := by
 unfold s_l31Number at h
 refine Ret.enter Try.func71 rfl Try.ntmps71 rfl ?_
 dsimp only [envOf]
 have hE := Ent.refl κ w
 refine WC.seq ?_
 refine WC.rs [(0, 2)] rfl ?_
 refine WO.pn 1 rfl ?_
 refine WO.fin ?_
 refine DN.seq ?_
 refine WC.seq ?_
 refine WC.rs [(0, 2)] rfl ?_
 refine WO.pn 1 rfl ?_
 refine WO.fin ?_
 refine DN.seq ?_
 refine WC.seq ?_
 refine WC.seq ?_
 refine WC.rs [(0, 2)] rfl ?_
 refine WO.pn 1 rfl ?_
 refine WO.fin ?_
 refine DN.seq ?_
 have hN1 : (p1.length : Int) ≤ 9223372036854775807 := g1.len_le
 obtain ⟨q2, hq3, hK2⟩ := Option.bind_eq_some_iff.mp h
 clear h
 refine WC.meet (fun L w' => ∃ (κ' : Col) (s3 : Int), L = [(5, .int .i64 s3)] ∧ Stp [] κ w κ' w' ∧ q2 = Sum.inr s3) ?_ ?_
 ·
  refine WC.block ?_
  refine WC.loop (fun k L w' => ∃ (κ' : Col) (v6 : Int) (s1 : Int), L = [(0, .slice a0 p0.length u0), (1, .slice a1 p1.length u1), (5, .int .i64 s1), (6, .int .i64 v6)] ∧ Stp [] κ w κ' w' ∧ 0 ≤ v6 ∧ Int.toNat ((p1.length : Int) - v6) = k ∧ cntM (s_l31Number_b0 p0 p1) k v6 s1 = some q2) ⟨_, _, ⟨κ, 0, (0 : Int), rfl, (Stp.refl _ _).wk rfl, (by decide), (by simp), hq3⟩, fun a ha => (ha.more (ha.more (ha.more (ha.more ha.nil rfl) rfl) rfl) rfl)⟩ ?_
  rintro k _ w7 ⟨K8, v6, s1, rfl, S9, hj1, hJ1, h⟩
  rcases k with _ | k
  ·
   have hk10 := h; obtain ⟨o1, h⟩ := ex_eq (Sum.inr (Sum.inl s1) : Int ⊕ ((Int) ⊕ (Int)))
   have hc1 : decide (v6 < (p1.length : Int)) = false := decide_eq_false (by omega)
   refine WC.seq ?_
   refine WC.seq ?_
   refine WC.rs [(0, 2), (1, 2), (2, 2), (3, 2)] rfl ?_
   refine WO.pn 2 rfl ?_
   refine WO.k2 rfl rfl rfl rfl (rn_len Try.runUnderlying24 rfl rfl) ?_
   refine WO.pn 1 rfl ?_
   refine WO.fin ?_
   refine DN.seq ?_
   refine WC.cf' rfl hc1 ?_
   refine WC.exit ?_
   refine DN.exitThen ?_
   refine DN.exitThen ?_
   obtain rfl := Option.some.inj h
   have h := hk10
   refine DN.hit ?_
   obtain rfl := Option.some.inj h
   exact DN.meet _ ⟨K8, (s1 : Int), rfl, S9.wk rfl, rfl⟩ fun a ha => (ha.more ha.nil rfl)
  ·
   obtain ⟨o1, h, hk10⟩ := Option.bind_eq_some_iff.mp h; unfold s_l31Number_b0 at h
   have hc1 : decide (v6 < (p1.length : Int)) = true := decide_eq_true (by omega)
   refine WC.seq ?_
   refine WC.seq ?_
   refine WC.rs [(0, 2), (1, 2), (2, 2), (3, 2)] rfl ?_
   refine WO.pn 2 rfl ?_
   refine WO.k2 rfl rfl rfl rfl (rn_len Try.runUnderlying24 rfl rfl) ?_
   refine WO.pn 1 rfl ?_
   refine WO.fin ?_
   refine DN.seq ?_
   refine WC.ct' rfl hc1 ?_
   refine WC.skip ?_
   refine DN.seq ?_
   refine WC.seq ?_
   refine WC.block ?_
   refine WC.seq ?_
   refine WC.rs [(0, 2), (1, 2), (2, 2), (3, 2), (4, 1), (5, 1)] rfl ?_
   refine WO.pn 3 rfl ?_
   obtain ⟨x16, hx16, h⟩ := Option.bind_eq_some_iff.mp h
   refine WO.k2 rfl rfl rfl rfl (rn_index g1 hx16 Try.runUnderlying24 Try.sizeOf2 rfl rfl rfl rfl) ?_
   have f11 := g1.stp S9 rfl rfl
   refine WO.k1 trivial rfl rfl rfl rfl (rn_ld Try.isAgg2 rfl rfl (hvE (f11.gInt hx16))) ?_
   obtain ⟨x18, hx18, h⟩ := Option.bind_eq_some_iff.mp h
   have f12 := g0.stp S9 rfl rfl
   refine WO.call rfl rfl rfl rfl rfl rfl Try.call70 (s_l31True_ok (κ := fun b => mp [] 0 (K8 b)) (Sl.map f12 (mp [] 0) rfl rfl) hx18) ?_
   rintro _ w13 ⟨k14, rfl, e15⟩
   obtain ⟨K16, S17, m18⟩ := Ent.mixed (l := []) (κ := K8) e15 2 rfl
   refine ⟨trivial, ?_⟩
   refine WO.fin ?_
   refine DN.seq ?_
   obtain ⟨q4, h, hK20⟩ := Option.bind_eq_some_iff.mp h
   refine WC.meet (fun L w' => ∃ (κ' : Col), L = [(0, .slice a0 p0.length u0), (1, .slice a1 p1.length u1), (5, .int .i64 q4), (6, .int .i64 v6)] ∧ Stp [] K16 w13 κ' w') ?_ ?_
   ·
    revert h
    cases ht24 : x18 with
    | true =>
     intro h; replace h := cT h
     refine WC.ct rfl ?_
     refine WC.rs [(0, 2), (1, 2), (2, 1), (3, 2), (4, 2)] rfl ?_
     refine WO.pn 2 rfl ?_
     obtain ⟨x21, hx21, h⟩ := Option.bind_eq_some_iff.mp h
     refine WO.call rfl rfl rfl rfl rfl rfl Try.call39 (s_l31Pow_ok (κ := fun b => mp [] 0 (K16 b)) hx21) ?_
     rintro _ w25 ⟨k26, rfl, e27⟩
     obtain ⟨K28, S29, m30⟩ := Ent.mixed (l := []) (κ := K16) e27 4 rfl
     refine ⟨trivial, ?_⟩
     refine WO.pn 2 rfl ?_
     refine WO.fin ?_
     obtain rfl := Option.some.inj h
     exact DN.meet _ ⟨K28, rfl, S29.wk rfl⟩ fun a ha => (ha.more (ha.more (ha.more (ha.more ha.nil rfl) rfl) rfl) rfl)
    | false =>
     intro h; replace h := cF h
     refine WC.cf rfl ?_
     refine WC.skip ?_
     obtain rfl := Option.some.inj h
     exact DN.meet _ ⟨K16, rfl, (Stp.refl _ _).wk rfl⟩ fun a ha => (ha.more (ha.more (ha.more (ha.more ha.nil rfl) rfl) rfl) rfl)
   rintro _ w21 ⟨K22, rfl, S23⟩
   have h := hK20
   refine DN.block ?_
   refine DN.seq ?_
   refine WC.rs [(0, 2), (1, 2), (2, 2)] rfl ?_
   refine WO.pn 3 rfl ?_
   refine WO.fin ?_
   have hw1 : IntKind.wrap .i64 (v6 + 1) = v6 + 1 := wr1 hj1 (of_decide_eq_true hc1) hN1
   rw [hw1]
   have hc1 := of_decide_eq_true hc1
   obtain rfl := Option.some.inj h
   refine DN.round fun a ha => ?_
   exact ⟨k, _, Nat.lt_succ_self _, ⟨K22, v6 + 1, (q4 : Int), rfl, (S9.tr (S17.tr S23)).wk rfl, by omega, by omega, hk10⟩, (ha.more (ha.more (ha.more (ha.more ha.nil rfl) rfl) rfl) rfl)⟩
 rintro _ w4 ⟨K5, s3, rfl, S6, rfl⟩
 have h := hK2
 dsimp only [aft] at h
 refine DN.seq ?_
 refine WC.seq ?_
 refine WC.rs [(0, 2), (1, 2)] rfl ?_
 refine WO.pn 2 rfl ?_
 refine WO.fin ?_
 refine DN.seq ?_
 refine WC.ret ?_
 have f32 := hE.stp S6 rfl rfl
 refine DN.res (l := [.tmp 4]) Try.results71 (res_tmp rfl rfl) rfl ?_
 obtain rfl := Option.some.inj h
 exact ⟨K5, rfl, f32⟩

/- loop.example/g00869/impl.stepOf -/
theorem i_stepOf_ok {w : World} {κ : Col} {a0_2 : Option Addr} {u0_2 : Nat} {a0_3 : Option Addr} {u0_3 : Nat} {a0_4 : Option Addr} {u0_4 : Nat} {p0 : Circuit} {p1 : Int} {p2 : Int} (g0_2 : Rd (Rp.int .i64) κ w 0 a0_2 u0_2 p0.Next) (g0_3 : Rd Gate.rp κ w 0 a0_3 u0_3 p0.Gates) (g0_4 : Rd (Rp.int .i64) κ w 0 a0_4 u0_4 p0.Outs) {r : Int × Int} (h : i_stepOf p0 p1 p2 = some r) : Ret Try.prog 38 [.agg #[.int .i64 p0.Inputs, .int .i64 p0.Latches, .slice a0_2 p0.Next.length u0_2, .slice a0_3 p0.Gates.length u0_3, .slice a0_4 p0.Outs.length u0_4], .int .i64 p1, .int .i64 p2] w (fun v w' => ∃ (κ' : Col), v = .tuple #[.int .i64 r.1, .int .i64 r.2] ∧ Ent κ w κ' w') := by
 unfold i_stepOf at h
 refine Ret.enter Try.func38 rfl Try.ntmps38 rfl ?_
 dsimp only [envOf]
 have hE := Ent.refl κ w
 refine WC.seq ?_
 refine WC.rs [(0, 1), (1, 2), (2, 2)] rfl ?_
 refine WO.box (κ := κ) 2 rfl rfl rfl rfl rfl rfl rfl fun b3 w1 K2 S3 f4 => ⟨trivial, ?_⟩
 refine WO.pn 2 rfl ?_
 refine WO.fin ?_
 refine DN.seq ?_
 refine WC.seq ?_
 refine WC.rs [(0, 1), (1, 1), (2, 1), (3, 1), (4, 1)] rfl ?_
 refine WO.k1 trivial rfl rfl rfl rfl (rn_la (cs := [.int .i64 p0.Inputs, .int .i64 p0.Latches, .slice a0_2 p0.Next.length u0_2, .slice a0_3 p0.Gates.length u0_3, .slice a0_4 p0.Outs.length u0_4]) Try.isAgg27 Try.sizeOf27 rfl rfl rfl (haE f4.cells)) ?_
 obtain ⟨x21, hx21, h⟩ := Option.bind_eq_some_iff.mp h
 have f5 := g0_2.stp S3 rfl rfl
 have f6 := g0_3.stp S3 rfl rfl
 have f7 := g0_4.stp S3 rfl rfl
 refine WO.call rfl rfl rfl rfl rfl rfl Try.call36 (i_signalsOf_ok (κ := fun b => mp [] 0 (K2 b)) (p0 := p0) (Sl.map f5 (mp [] 0) rfl rfl) (Sl.map f6 (mp [] 0) rfl rfl) (Sl.map f7 (mp [] 0) rfl rfl) hx21) ?_
 rintro _ w8 ⟨k9, rfl, e10⟩
 obtain ⟨K11, S12, m13⟩ := Ent.mixed (l := []) (κ := K2) e10 3 rfl
 refine ⟨trivial, ?_⟩
 obtain ⟨x22, hx22, h⟩ := Option.bind_eq_some_iff.mp h
 refine WO.mk (κ := K11) (E := (Ep.int .i64)) (z := (0 : Int)) 5 rfl rfl rfl rfl rfl rfl rfl Try.underlying24 Tryinfo2 rfl rfl rfl rfl rfl (fun _ _ _ => rfl) hx22 fun a22 u22 w15 K16 S17 f18 => ⟨trivial, ?_⟩
 refine WO.alloc (κ := K16) 6 rfl rfl rfl rfl rfl Try.zeroValue24 rfl fun b8 w19 K20 S21 f22 => ⟨trivial, ?_⟩
 refine WO.stB0 (κ := K20) 6 (vc := [.slice a22 x22.length u22]) rfl rfl rfl rfl rfl rfl rfl Try.sizeOf24 rfl rfl f22 rfl fun w23 S24 f25 => ⟨trivial, ?_⟩
 refine WO.fin ?_
 refine DN.seq ?_
 refine WC.seq ?_
 refine WC.seq ?_
 refine WC.rs [(0, 2), (1, 1), (2, 2)] rfl ?_
 refine WO.k2 rfl rfl rfl rfl (rn_fieldAddr Try.runUnderlying27 rfl Try.sizeOf2 rfl rfl) ?_
 have f26 := f4.stp (S12.tr (S17.tr (S21.tr S24))) rfl rfl
 refine WO.k1 trivial rfl rfl rfl rfl (rn_ld Try.isAgg2 rfl rfl (hvE (f26.ld 0 rfl rfl))) ?_
 refine WO.pn 1 rfl ?_
 refine WO.fin ?_
 refine DN.seq ?_
 obtain ⟨_, hr27, h⟩ := Option.bind_eq_some_iff.mp h
 have hN27 := rng_ok hr27
 obtain ⟨q2, hq29, hK28⟩ := Option.bind_eq_some_iff.mp h
 clear h
 refine WC.meet (fun L w' => ∃ (κ' : Col) (s3 : (List Int)) (las3_0 : Option Addr) (lus3_0 : Nat), L = [(1, .int .i64 p1), (3, .pointer (some ⟨b3, 0, none⟩)), (8, .pointer (some ⟨b8, 0, none⟩))] ∧ Stp [5, 6] K20 w23 κ' w' ∧ Oc (Ep.int .i64) 2 κ' w' 5 las3_0 lus3_0 s3 ∧ Bc κ' w' 6 b8 24 [.slice las3_0 s3.length lus3_0] ∧ q2 = Sum.inr s3) ?_ ?_
 ·
  refine WC.block ?_
  have f40 := f18.stp (S21.tr S24) rfl rfl
  refine WC.loop (fun k L w' => ∃ (κ' : Col) (v25 : Int) (s1 : (List Int)) (las1_0 : Option Addr) (lus1_0 : Nat), L = [(1, .int .i64 p1), (2, .int .i64 p2), (3, .pointer (some ⟨b3, 0, none⟩)), (8, .pointer (some ⟨b8, 0, none⟩)), (24, .int .i64 p0.Inputs), (25, .int .i64 v25)] ∧ Stp [5, 6] K20 w23 κ' w' ∧ Oc (Ep.int .i64) 2 κ' w' 5 las1_0 lus1_0 s1 ∧ Bc κ' w' 6 b8 24 [.slice las1_0 s1.length lus1_0] ∧ 0 ≤ v25 ∧ Int.toNat (p0.Inputs - v25) = k ∧ cntM (i_stepOf_b0 p2) k v25 s1 = some q2) ⟨_, _, ⟨K20, 0, (x22 : (List Int)), a22, u22, rfl, (Stp.refl _ _).wk rfl, f40, f25, (by decide), (by simp), hq29⟩, fun a ha => (ha.more (ha.more (ha.more (ha.more (ha.more (ha.more ha.nil rfl) rfl) rfl) rfl) rfl) rfl)⟩ ?_
  rintro k _ w35 ⟨K36, v25, s1, las1_0, lus1_0, rfl, S37, f38, f39, hj27, hJ27, h⟩
  rcases k with _ | k
  ·
   have hk41 := h; obtain ⟨o27, h⟩ := ex_eq (Sum.inr (Sum.inl s1) : (Int × Int) ⊕ (((List Int)) ⊕ ((List Int))))
   have hc27 : decide (v25 < p0.Inputs) = false := decide_eq_false (by omega)
   refine WC.seq ?_
   refine WC.rs [(0, 2)] rfl ?_
   refine WO.pn 1 rfl ?_
   refine WO.fin ?_
   refine DN.seq ?_
   refine WC.seq ?_
   refine WC.cf' rfl hc27 ?_
   refine WC.exit ?_
   refine DN.exitThen ?_
   refine DN.exitThen ?_
   obtain rfl := Option.some.inj h
   have h := hk41
   refine DN.hit ?_
   obtain rfl := Option.some.inj h
   exact DN.meet _ ⟨K36, (s1 : (List Int)), las1_0, lus1_0, rfl, S37.wk rfl, f38, f39, rfl⟩ fun a ha => (ha.more (ha.more (ha.more ha.nil rfl) rfl) rfl)
  ·
   obtain ⟨o27, h, hk41⟩ := Option.bind_eq_some_iff.mp h; unfold i_stepOf_b0 at h
   have hc27 : decide (v25 < p0.Inputs) = true := decide_eq_true (by omega)
   refine WC.seq ?_
   refine WC.rs [(0, 2)] rfl ?_
   refine WO.pn 1 rfl ?_
   refine WO.fin ?_
   refine DN.seq ?_
   refine WC.seq ?_
   refine WC.ct' rfl hc27 ?_
   refine WC.skip ?_
   refine DN.seq ?_
   refine WC.seq ?_
   refine WC.block ?_
   refine WC.seq ?_
   refine WC.rs [(0, 2), (1, 2)] rfl ?_
   refine WO.pn 2 rfl ?_
   refine WO.fin ?_
   refine DN.seq ?_
   refine WC.rx (κ := K36) [6] (some 7) [(1, 2), (2, 2), (3, 2), (4, 2), (0, 0), (5, 1), (6, 1)] [(7, 1)] (by kernel_rfl) (by kernel_rfl) fun w43 S42 => ?_
   refine WO.pn 2 rfl ?_
   obtain ⟨_z31, hz31, h⟩ := Option.bind_eq_some_iff.mp h
   refine WO.k2 rfl rfl rfl rfl (rn_shr rfl rfl rfl (nn_ok hz31)) ?_
   refine WO.pn 1 rfl ?_
   have f44 := f39.stp S42 rfl rfl
   refine WO.k0 rfl rfl rfl rfl (rn_ld Try.isAgg24 rfl rfl (hvC (f44.ld 0 rfl rfl) rfl)) ?_
   refine WO.bl (κ := K36) (E := (Ep.int .i64)) 7 [] (parts := [(0, .tmp 32)]) (cells := [.int .i64 (IntKind.i64.wrap (BitVec.toNat (BitVec.ofInt (IntKind.bits IntKind.i64) (Int.fdiv p2 (2 ^ (min (Int.toNat v25) (IntKind.bits IntKind.i64)))) &&& BitVec.ofInt (IntKind.bits IntKind.i64) 1)))]) (xs := ([(IntKind.i64.wrap (BitVec.toNat (BitVec.ofInt (IntKind.bits IntKind.i64) (Int.fdiv p2 (2 ^ (min (Int.toNat v25) (IntKind.bits IntKind.i64)))) &&& BitVec.ofInt (IntKind.bits IntKind.i64) 1)))] : List Int)) rfl rfl rfl rfl rfl rfl Try.underlying24 Tryinfo2 rfl rfl rfl rfl rfl rfl rfl rfl rfl rfl ⟨[.int .i64 (IntKind.i64.wrap (BitVec.toNat (BitVec.ofInt (IntKind.bits IntKind.i64) (Int.fdiv p2 (2 ^ (min (Int.toNat v25) (IntKind.bits IntKind.i64)))) &&& BitVec.ofInt (IntKind.bits IntKind.i64) 1)))], [], Zl K36 w43 [], Zl K36 w43 [], rfl, Zl.sp (l1 := []) (l2 := []) rfl, Zl.sr (l1 := []) (l2 := []), rfl, rfl⟩ fun a33 u33 w45 K46 S47 f48 => ⟨(S47.cl rfl), ?_⟩
   obtain ⟨x34, hx34, h⟩ := Option.bind_eq_some_iff.mp h
   have f49 := f38.stp (S42.tr S47) rfl rfl
   refine WO.app (κ := K46) (E := (Ep.int .i64)) 5 [] rfl rfl rfl rfl rfl rfl rfl rfl rfl Try.underlying24 Tryinfo2 rfl rfl rfl rfl f49 (Sl.srcP (pu_int _) f48.rdc) sy_false hx34 rfl fun a34 u34 w50 K51 S52 f53 => ⟨((S47.tr S52).cl rfl), ?_⟩
   refine WO.nx ?_
   have f54 := f44.stp (S47.tr S52) rfl rfl
   refine WO.stB0 (κ := K51) 6 (vc := [.slice a34 x34.length u34]) rfl rfl rfl rfl rfl rfl rfl Try.sizeOf24 rfl rfl f54 rfl fun w55 S56 f57 => ⟨trivial, ?_⟩
   refine WO.fin ?_
   refine DN.block ?_
   refine DN.seq ?_
   refine WC.rs [(0, 2), (1, 2)] rfl ?_
   refine WO.pn 2 rfl ?_
   refine WO.fin ?_
   have hw27 : IntKind.wrap .i64 (v25 + 1) = v25 + 1 := wr1 hj27 (of_decide_eq_true hc27) hN27
   rw [hw27]
   have hc27 := of_decide_eq_true hc27
   have f58 := f53.stp S56 rfl rfl
   obtain rfl := Option.some.inj h
   refine DN.round fun a ha => ?_
   exact ⟨k, _, Nat.lt_succ_self _, ⟨K51, v25 + 1, (x34 : (List Int)), a34, u34, rfl, (S37.tr (S42.tr (S47.tr (S52.tr S56)))).wk rfl, f58, f57, by omega, by omega, hk41⟩, (ha.more (ha.more (ha.more (ha.more (ha.more (ha.more ha.nil rfl) rfl) rfl) rfl) rfl) rfl)⟩
 rintro _ w30 ⟨K31, s3, las3_0, lus3_0, rfl, S32, f33, f34, rfl⟩
 have h := hK28
 dsimp only [aft] at h
 refine DN.seq ?_
 refine WC.seq ?_
 refine WC.seq ?_
 refine WC.rs [(0, 2), (1, 1), (2, 2)] rfl ?_
 refine WO.k2 rfl rfl rfl rfl (rn_fieldAddr Try.runUnderlying27 rfl Try.sizeOf2 rfl rfl) ?_
 have f59 := f26.stp S32 rfl rfl
 refine WO.k1 trivial rfl rfl rfl rfl (rn_ld Try.isAgg2 rfl rfl (hvE (f59.ld 1 rfl rfl))) ?_
 refine WO.pn 1 rfl ?_
 refine WO.fin ?_
 refine DN.seq ?_
 obtain ⟨_, hr60, h⟩ := Option.bind_eq_some_iff.mp h
 have hN60 := rng_ok hr60
 obtain ⟨q5, hq62, hK61⟩ := Option.bind_eq_some_iff.mp h
 clear h
 refine WC.meet (fun L w' => ∃ (κ' : Col) (s6 : (List Int)) (las6_0 : Option Addr) (lus6_0 : Nat), L = [(3, .pointer (some ⟨b3, 0, none⟩)), (8, .pointer (some ⟨b8, 0, none⟩))] ∧ Stp [5, 6] K31 w30 κ' w' ∧ Oc (Ep.int .i64) 2 κ' w' 5 las6_0 lus6_0 s6 ∧ Bc κ' w' 6 b8 24 [.slice las6_0 s6.length lus6_0] ∧ q5 = Sum.inr s6) ?_ ?_
 ·
  refine WC.block ?_
  refine WC.loop (fun k L w' => ∃ (κ' : Col) (v38 : Int) (s4 : (List Int)) (las4_0 : Option Addr) (lus4_0 : Nat), L = [(1, .int .i64 p1), (3, .pointer (some ⟨b3, 0, none⟩)), (8, .pointer (some ⟨b8, 0, none⟩)), (37, .int .i64 p0.Latches), (38, .int .i64 v38)] ∧ Stp [5, 6] K31 w30 κ' w' ∧ Oc (Ep.int .i64) 2 κ' w' 5 las4_0 lus4_0 s4 ∧ Bc κ' w' 6 b8 24 [.slice las4_0 s4.length lus4_0] ∧ 0 ≤ v38 ∧ Int.toNat (p0.Latches - v38) = k ∧ cntM (i_stepOf_b2 p1) k v38 s4 = some q5) ⟨_, _, ⟨K31, 0, (s3 : (List Int)), las3_0, lus3_0, rfl, (Stp.refl _ _).wk rfl, f33, f34, (by decide), (by simp), hq62⟩, fun a ha => (ha.more (ha.more (ha.more (ha.more (ha.more ha.nil rfl) rfl) rfl) rfl) rfl)⟩ ?_
  rintro k _ w68 ⟨K69, v38, s4, las4_0, lus4_0, rfl, S70, f71, f72, hj60, hJ60, h⟩
  rcases k with _ | k
  ·
   have hk73 := h; obtain ⟨o60, h⟩ := ex_eq (Sum.inr (Sum.inl s4) : (Int × Int) ⊕ (((List Int)) ⊕ ((List Int))))
   have hc60 : decide (v38 < p0.Latches) = false := decide_eq_false (by omega)
   refine WC.seq ?_
   refine WC.rs [(0, 2)] rfl ?_
   refine WO.pn 1 rfl ?_
   refine WO.fin ?_
   refine DN.seq ?_
   refine WC.seq ?_
   refine WC.cf' rfl hc60 ?_
   refine WC.exit ?_
   refine DN.exitThen ?_
   refine DN.exitThen ?_
   obtain rfl := Option.some.inj h
   have h := hk73
   refine DN.hit ?_
   obtain rfl := Option.some.inj h
   exact DN.meet _ ⟨K69, (s4 : (List Int)), las4_0, lus4_0, rfl, S70.wk rfl, f71, f72, rfl⟩ fun a ha => (ha.more (ha.more ha.nil rfl) rfl)
  ·
   obtain ⟨o60, h, hk73⟩ := Option.bind_eq_some_iff.mp h; unfold i_stepOf_b2 at h
   have hc60 : decide (v38 < p0.Latches) = true := decide_eq_true (by omega)
   refine WC.seq ?_
   refine WC.rs [(0, 2)] rfl ?_
   refine WO.pn 1 rfl ?_
   refine WO.fin ?_
   refine DN.seq ?_
   refine WC.seq ?_
   refine WC.ct' rfl hc60 ?_
   refine WC.skip ?_
   refine DN.seq ?_
   refine WC.seq ?_
   refine WC.block ?_
   refine WC.seq ?_
   refine WC.rs [(0, 2), (1, 2)] rfl ?_
   refine WO.pn 2 rfl ?_
   refine WO.fin ?_
   refine DN.seq ?_
   refine WC.rx (κ := K69) [6] (some 7) [(1, 2), (2, 2), (3, 2), (4, 2), (0, 0), (5, 1), (6, 1)] [(7, 1)] (by kernel_rfl) (by kernel_rfl) fun w75 S74 => ?_
   refine WO.pn 2 rfl ?_
   obtain ⟨_z44, hz44, h⟩ := Option.bind_eq_some_iff.mp h
   refine WO.k2 rfl rfl rfl rfl (rn_shr rfl rfl rfl (nn_ok hz44)) ?_
   refine WO.pn 1 rfl ?_
   have f76 := f72.stp S74 rfl rfl
   refine WO.k0 rfl rfl rfl rfl (rn_ld Try.isAgg24 rfl rfl (hvC (f76.ld 0 rfl rfl) rfl)) ?_
   refine WO.bl (κ := K69) (E := (Ep.int .i64)) 7 [] (parts := [(0, .tmp 45)]) (cells := [.int .i64 (IntKind.i64.wrap (BitVec.toNat (BitVec.ofInt (IntKind.bits IntKind.i64) (Int.fdiv p1 (2 ^ (min (Int.toNat v38) (IntKind.bits IntKind.i64)))) &&& BitVec.ofInt (IntKind.bits IntKind.i64) 1)))]) (xs := ([(IntKind.i64.wrap (BitVec.toNat (BitVec.ofInt (IntKind.bits IntKind.i64) (Int.fdiv p1 (2 ^ (min (Int.toNat v38) (IntKind.bits IntKind.i64)))) &&& BitVec.ofInt (IntKind.bits IntKind.i64) 1)))] : List Int)) rfl rfl rfl rfl rfl rfl Try.underlying24 Tryinfo2 rfl rfl rfl rfl rfl rfl rfl rfl rfl rfl ⟨[.int .i64 (IntKind.i64.wrap (BitVec.toNat (BitVec.ofInt (IntKind.bits IntKind.i64) (Int.fdiv p1 (2 ^ (min (Int.toNat v38) (IntKind.bits IntKind.i64)))) &&& BitVec.ofInt (IntKind.bits IntKind.i64) 1)))], [], Zl K69 w75 [], Zl K69 w75 [], rfl, Zl.sp (l1 := []) (l2 := []) rfl, Zl.sr (l1 := []) (l2 := []), rfl, rfl⟩ fun a46 u46 w77 K78 S79 f80 => ⟨(S79.cl rfl), ?_⟩
   obtain ⟨x47, hx47, h⟩ := Option.bind_eq_some_iff.mp h
   have f81 := f71.stp (S74.tr S79) rfl rfl
   refine WO.app (κ := K78) (E := (Ep.int .i64)) 5 [] rfl rfl rfl rfl rfl rfl rfl rfl rfl Try.underlying24 Tryinfo2 rfl rfl rfl rfl f81 (Sl.srcP (pu_int _) f80.rdc) sy_false hx47 rfl fun a47 u47 w82 K83 S84 f85 => ⟨((S79.tr S84).cl rfl), ?_⟩
   refine WO.nx ?_
   have f86 := f76.stp (S79.tr S84) rfl rfl
   refine WO.stB0 (κ := K83) 6 (vc := [.slice a47 x47.length u47]) rfl rfl rfl rfl rfl rfl rfl Try.sizeOf24 rfl rfl f86 rfl fun w87 S88 f89 => ⟨trivial, ?_⟩
   refine WO.fin ?_
   refine DN.block ?_
   refine DN.seq ?_
   refine WC.rs [(0, 2), (1, 2)] rfl ?_
   refine WO.pn 2 rfl ?_
   refine WO.fin ?_
   have hw60 : IntKind.wrap .i64 (v38 + 1) = v38 + 1 := wr1 hj60 (of_decide_eq_true hc60) hN60
   rw [hw60]
   have hc60 := of_decide_eq_true hc60
   have f90 := f85.stp S88 rfl rfl
   obtain rfl := Option.some.inj h
   refine DN.round fun a ha => ?_
   exact ⟨k, _, Nat.lt_succ_self _, ⟨K83, v38 + 1, (x47 : (List Int)), a47, u47, rfl, (S70.tr (S74.tr (S79.tr (S84.tr S88)))).wk rfl, f90, f89, by omega, by omega, hk73⟩, (ha.more (ha.more (ha.more (ha.more (ha.more ha.nil rfl) rfl) rfl) rfl) rfl)⟩
 rintro _ w63 ⟨K64, s6, las6_0, lus6_0, rfl, S65, f66, f67, rfl⟩
 have h := hK61
 dsimp only [aft] at h
 refine DN.seq ?_
 refine WC.seq ?_
 refine WC.rs [(0, 2), (1, 2)] rfl ?_
 refine WO.k2 rfl rfl rfl rfl (rn_makeFunc (first := []) (captured := [.tmp 8]) rfl rfl rfl ⟨_, rfl⟩) ?_
 refine WO.pn 1 rfl ?_
 refine WO.fin ?_
 refine DN.seq ?_
 refine WC.seq ?_
 refine WC.seq ?_
 refine WC.rs [(0, 2), (1, 1), (2, 2), (3, 2)] rfl ?_
 refine WO.k2 rfl rfl rfl rfl (rn_fieldAddr Try.runUnderlying27 rfl Try.sizeOf25 rfl rfl) ?_
 have f91 := f59.stp S65 rfl rfl
 refine WO.k1 trivial rfl rfl rfl rfl (rn_ld Try.isAgg25 rfl rfl (hvE (f91.ld 3 rfl rfl))) ?_
 refine WO.k2 rfl rfl rfl rfl (rn_len Try.runUnderlying25 rfl rfl) ?_
 refine WO.pn 1 rfl ?_
 refine WO.fin ?_
 refine DN.seq ?_
 have hN92 : (p0.Gates.length : Int) ≤ 9223372036854775807 := f6.len_le
 obtain ⟨q8, hq94, hK93⟩ := Option.bind_eq_some_iff.mp h
 clear h
 refine WC.meet (fun L w' => ∃ (κ' : Col) (s9 : (List Int)) (las9_0 : Option Addr) (lus9_0 : Nat), L = [(3, .pointer (some ⟨b3, 0, none⟩)), (11, .func (.func 69) #[] #[.pointer (some ⟨b8, 0, none⟩)])] ∧ Stp [5, 6, 7] K64 w63 κ' w' ∧ Oc (Ep.int .i64) 2 κ' w' 5 las9_0 lus9_0 s9 ∧ Bc κ' w' 6 b8 24 [.slice las9_0 s9.length lus9_0] ∧ q8 = Sum.inr s9) ?_ ?_
 ·
  refine WC.block ?_
  refine WC.loop (fun k L w' => ∃ (κ' : Col) (v53 : Int) (s7 : (List Int)) (las7_0 : Option Addr) (lus7_0 : Nat), L = [(3, .pointer (some ⟨b3, 0, none⟩)), (8, .pointer (some ⟨b8, 0, none⟩)), (11, .func (.func 69) #[] #[.pointer (some ⟨b8, 0, none⟩)]), (51, .slice a0_3 p0.Gates.length u0_3), (52, .int .i64 (p0.Gates.length : Int)), (53, .int .i64 v53)] ∧ Stp [5, 6, 7] K64 w63 κ' w' ∧ Oc (Ep.int .i64) 2 κ' w' 5 las7_0 lus7_0 s7 ∧ Bc κ' w' 6 b8 24 [.slice las7_0 s7.length lus7_0] ∧ 0 ≤ v53 ∧ Int.toNat ((p0.Gates.length : Int) - v53) = k ∧ cntM (i_stepOf_b4 p0) k v53 s7 = some q8) ⟨_, _, ⟨K64, 0, (s6 : (List Int)), las6_0, lus6_0, rfl, (Stp.refl _ _).wk rfl, f66, f67, (by decide), (by simp), hq94⟩, fun a ha => (ha.more (ha.more (ha.more (ha.more (ha.more (ha.more ha.nil rfl) rfl) rfl) rfl) rfl) rfl)⟩ ?_
  rintro k _ w100 ⟨K101, v53, s7, las7_0, lus7_0, rfl, S102, f103, f104, hj92, hJ92, h⟩
  rcases k with _ | k
  ·
   have hk105 := h; obtain ⟨o92, h⟩ := ex_eq (Sum.inr (Sum.inl s7) : (Int × Int) ⊕ (((List Int)) ⊕ ((List Int))))
   have hc92 : decide (v53 < (p0.Gates.length : Int)) = false := decide_eq_false (by omega)
   refine WC.seq ?_
   refine WC.rs [(0, 2)] rfl ?_
   refine WO.pn 1 rfl ?_
   refine WO.fin ?_
   refine DN.seq ?_
   refine WC.seq ?_
   refine WC.cf' rfl hc92 ?_
   refine WC.exit ?_
   refine DN.exitThen ?_
   refine DN.exitThen ?_
   obtain rfl := Option.some.inj h
   have h := hk105
   refine DN.hit ?_
   obtain rfl := Option.some.inj h
   exact DN.meet _ ⟨K101, (s7 : (List Int)), las7_0, lus7_0, rfl, S102.wk rfl, f103, f104, rfl⟩ fun a ha => (ha.more (ha.more ha.nil rfl) rfl)
  ·
   obtain ⟨o92, h, hk105⟩ := Option.bind_eq_some_iff.mp h; unfold i_stepOf_b4 at h
   have hc92 : decide (v53 < (p0.Gates.length : Int)) = true := decide_eq_true (by omega)
   refine WC.seq ?_
   refine WC.rs [(0, 2)] rfl ?_
   refine WO.pn 1 rfl ?_
   refine WO.fin ?_
   refine DN.seq ?_
   refine WC.seq ?_
   refine WC.ct' rfl hc92 ?_
   refine WC.skip ?_
   refine DN.seq ?_
   refine WC.seq ?_
   refine WC.block ?_
   refine WC.seq ?_
   refine WC.rs [(0, 2), (1, 1), (2, 1), (3, 1)] rfl ?_
   obtain ⟨x55, hx55, h⟩ := Option.bind_eq_some_iff.mp h
   refine WO.k2 rfl rfl rfl rfl (rn_index f6 hx55 Try.runUnderlying25 Try.sizeOf33 rfl rfl rfl rfl) ?_
   have f106 := f6.stp (S12.tr (S17.tr (S21.tr (S24.tr (S32.tr (S65.tr S102)))))) rfl rfl
   obtain ⟨cse107, hre107, hle107⟩ := (f106).gSt hx55
   obtain rfl := Gate.un hre107
   refine WO.k1 trivial rfl rfl rfl rfl (rn_la (cs := [.int .i64 x55.A, .int .i64 x55.B]) Try.isAgg33 Try.sizeOf33 rfl rfl rfl (haE hle107)) ?_
   refine WO.alloc (κ := K101) 7 rfl rfl rfl rfl rfl Try.zeroValue33 rfl fun b13 w108 K109 S110 f111 => ⟨trivial, ?_⟩
   refine WO.stB0 (κ := K109) 7 (vc := [.int .i64 x55.A, .int .i64 x55.B]) rfl rfl rfl rfl rfl rfl rfl Try.sizeOf33 rfl rfl f111 rfl fun w112 S113 f114 => ⟨trivial, ?_⟩
   refine WO.fin ?_
   refine DN.seq ?_
   refine WC.rx (κ := K109) [6, 7] (some 12) [(1, 2), (2, 2), (5, 2), (6, 2), (0, 0), (3, 0), (7, 0), (4, 1), (8, 1), (9, 2), (10, 1), (11, 1)] [(12, 1)] (by kernel_rfl) (by kernel_rfl) fun w116 S115 => ?_
   refine WO.pn 1 rfl ?_
   refine WO.k2 rfl rfl rfl rfl (rn_fieldAddr Try.runUnderlying33 rfl Try.sizeOf2 rfl rfl) ?_
   refine WO.pn 1 rfl ?_
   refine WO.k2 rfl rfl rfl rfl (rn_fieldAddr Try.runUnderlying33 rfl Try.sizeOf2 rfl rfl) ?_
   have f117 := f104.stp (S110.tr (S113.tr S115)) rfl rfl
   refine WO.k0 rfl rfl rfl rfl (rn_ld Try.isAgg24 rfl rfl (hvC (f117.ld 0 rfl rfl) rfl)) ?_
   have f118 := f114.stp S115 rfl rfl
   refine WO.k0 rfl rfl rfl rfl (rn_ld Try.isAgg2 rfl rfl (hvC (f118.ld 0 rfl rfl) rfl)) ?_
   refine WO.k0 rfl rfl rfl rfl (rn_ld Try.isAgg2 rfl rfl (hvC (f118.ld 1 rfl rfl) rfl)) ?_
   obtain ⟨x61, hx61, h⟩ := Option.bind_eq_some_iff.mp h
   have f119 := f103.stp (S110.tr (S113.tr S115)) rfl rfl
   refine WO.callV rfl rfl rfl rfl rfl rfl rfl rfl Try.call69 (i_stepOf_1_ok (κ := fun b => mp [] 0 (K109 b)) (Sl.map f119.rdc (mp [] 0) rfl rfl) (f117.map (mp [] 0) rfl rfl) hx61) ?_
   rintro _ w120 ⟨k121, rfl, e122⟩
   obtain ⟨K123, S124, m125⟩ := Ent.mixed (l := []) (κ := K109) e122 8 rfl
   refine ⟨(S124.cl rfl), ?_⟩
   obtain ⟨x65, hx65, h⟩ := Option.bind_eq_some_iff.mp h
   have f127 := f119.stp S124 rfl rfl
   have f128 := f117.stp S124 rfl rfl
   refine WO.callV rfl rfl rfl rfl rfl rfl rfl rfl Try.call69 (i_stepOf_1_ok (κ := fun b => mp [] 0 (K123 b)) (Sl.map f127.rdc (mp [] 0) rfl rfl) (f128.map (mp [] 0) rfl rfl) hx65) ?_
   rintro _ w129 ⟨k130, rfl, e131⟩
   obtain ⟨K132, S133, m134⟩ := Ent.mixed (l := []) (κ := K123) e131 10 rfl
   refine ⟨((S124.tr S133).cl rfl), ?_⟩
   refine WO.pn 1 rfl ?_
   refine WO.bl (κ := K132) (E := (Ep.int .i64)) 12 [] (parts := [(0, .tmp 66)]) (cells := [.int .i64 (IntKind.i64.wrap (BitVec.toNat (BitVec.ofInt (IntKind.bits IntKind.i64) x61 &&& BitVec.ofInt (IntKind.bits IntKind.i64) x65)))]) (xs := ([(IntKind.i64.wrap (BitVec.toNat (BitVec.ofInt (IntKind.bits IntKind.i64) x61 &&& BitVec.ofInt (IntKind.bits IntKind.i64) x65)))] : List Int)) rfl rfl rfl rfl rfl rfl Try.underlying24 Tryinfo2 rfl rfl rfl rfl rfl rfl rfl rfl rfl rfl ⟨[.int .i64 (IntKind.i64.wrap (BitVec.toNat (BitVec.ofInt (IntKind.bits IntKind.i64) x61 &&& BitVec.ofInt (IntKind.bits IntKind.i64) x65)))], [], Zl K132 w129 [], Zl K132 w129 [], rfl, Zl.sp (l1 := []) (l2 := []) rfl, Zl.sr (l1 := []) (l2 := []), rfl, rfl⟩ fun a67 u67 w136 K137 S138 f139 => ⟨((S124.tr (S133.tr S138)).cl rfl), ?_⟩
   obtain ⟨x68, hx68, h⟩ := Option.bind_eq_some_iff.mp h
   have f140 := f127.stp (S133.tr S138) rfl rfl
   refine WO.app (κ := K137) (E := (Ep.int .i64)) 5 [] rfl rfl rfl rfl rfl rfl rfl rfl rfl Try.underlying24 Tryinfo2 rfl rfl rfl rfl f140 (Sl.srcP (pu_int _) f139.rdc) sy_false hx68 rfl fun a68 u68 w141 K142 S143 f144 => ⟨((S124.tr (S133.tr (S138.tr S143))).cl rfl), ?_⟩
   refine WO.nx ?_
   have f145 := f128.stp (S133.tr (S138.tr S143)) rfl rfl
   refine WO.stB0 (κ := K142) 6 (vc := [.slice a68 x68.length u68]) rfl rfl rfl rfl rfl rfl rfl Try.sizeOf24 rfl rfl f145 rfl fun w146 S147 f148 => ⟨trivial, ?_⟩
   refine WO.fin ?_
   refine DN.block ?_
   refine DN.seq ?_
   refine WC.rs [(0, 2), (1, 2)] rfl ?_
   refine WO.pn 2 rfl ?_
   refine WO.fin ?_
   have hw92 : IntKind.wrap .i64 (v53 + 1) = v53 + 1 := wr1 hj92 (of_decide_eq_true hc92) hN92
   rw [hw92]
   have hc92 := of_decide_eq_true hc92
   have f149 := f144.stp S147 rfl rfl
   obtain rfl := Option.some.inj h
   refine DN.round fun a ha => ?_
   exact ⟨k, _, Nat.lt_succ_self _, ⟨K142, v53 + 1, (x68 : (List Int)), a68, u68, rfl, (S102.tr (S110.tr (S113.tr (S115.tr (S124.tr (S133.tr (S138.tr (S143.tr S147)))))))).wk rfl, f149, f148, by omega, by omega, hk105⟩, (ha.more (ha.more (ha.more (ha.more (ha.more (ha.more ha.nil rfl) rfl) rfl) rfl) rfl) rfl)⟩
 rintro _ w95 ⟨K96, s9, las9_0, lus9_0, rfl, S97, f98, f99, rfl⟩
 have h := hK93
 dsimp only [aft] at h
 refine DN.seq ?_
 refine WC.seq ?_
 refine WC.rs [(0, 2), (1, 2)] rfl ?_
 refine WO.pn 2 rfl ?_
 refine WO.fin ?_
 refine DN.seq ?_
 refine WC.seq ?_
 refine WC.seq ?_
 refine WC.rs [(0, 2), (1, 1), (2, 2), (3, 2)] rfl ?_
 refine WO.k2 rfl rfl rfl rfl (rn_fieldAddr Try.runUnderlying27 rfl Try.sizeOf24 rfl rfl) ?_
 have f150 := f91.stp S97 rfl rfl
 refine WO.k1 trivial rfl rfl rfl rfl (rn_ld Try.isAgg24 rfl rfl (hvE (f150.ld 2 rfl rfl))) ?_
 refine WO.k2 rfl rfl rfl rfl (rn_len Try.runUnderlying24 rfl rfl) ?_
 refine WO.pn 1 rfl ?_
 refine WO.fin ?_
 refine DN.seq ?_
 have hN151 : (p0.Next.length : Int) ≤ 9223372036854775807 := f5.len_le
 obtain ⟨q11, hq153, hK152⟩ := Option.bind_eq_some_iff.mp h
 clear h
 refine WC.meet (fun L w' => ∃ (κ' : Col) (s12 : Int), L = [(3, .pointer (some ⟨b3, 0, none⟩)), (11, .func (.func 69) #[] #[.pointer (some ⟨b8, 0, none⟩)]), (14, .int .i64 s12), (15, .int .i64 0)] ∧ Stp [] K96 w95 κ' w' ∧ q11 = Sum.inr s12) ?_ ?_
 ·
  refine WC.block ?_
  refine WC.loop (fun k L w' => ∃ (κ' : Col) (v73 : Int) (s10 : Int), L = [(3, .pointer (some ⟨b3, 0, none⟩)), (11, .func (.func 69) #[] #[.pointer (some ⟨b8, 0, none⟩)]), (14, .int .i64 s10), (15, .int .i64 0), (71, .slice a0_2 p0.Next.length u0_2), (72, .int .i64 (p0.Next.length : Int)), (73, .int .i64 v73)] ∧ Stp [] K96 w95 κ' w' ∧ 0 ≤ v73 ∧ Int.toNat ((p0.Next.length : Int) - v73) = k ∧ cntM (i_stepOf_b6 p0 s9) k v73 s10 = some q11) ⟨_, _, ⟨K96, 0, (0 : Int), rfl, (Stp.refl _ _).wk rfl, (by decide), (by simp), hq153⟩, fun a ha => (ha.more (ha.more (ha.more (ha.more (ha.more (ha.more (ha.more ha.nil rfl) rfl) rfl) rfl) rfl) rfl) rfl)⟩ ?_
  rintro k _ w157 ⟨K158, v73, s10, rfl, S159, hj151, hJ151, h⟩
  rcases k with _ | k
  ·
   have hk160 := h; obtain ⟨o151, h⟩ := ex_eq (Sum.inr (Sum.inl s10) : (Int × Int) ⊕ ((Int) ⊕ (Int)))
   have hc151 : decide (v73 < (p0.Next.length : Int)) = false := decide_eq_false (by omega)
   refine WC.seq ?_
   refine WC.rs [(0, 2)] rfl ?_
   refine WO.pn 1 rfl ?_
   refine WO.fin ?_
   refine DN.seq ?_
   refine WC.seq ?_
   refine WC.cf' rfl hc151 ?_
   refine WC.exit ?_
   refine DN.exitThen ?_
   refine DN.exitThen ?_
   obtain rfl := Option.some.inj h
   have h := hk160
   refine DN.hit ?_
   obtain rfl := Option.some.inj h
   exact DN.meet _ ⟨K158, (s10 : Int), rfl, S159.wk rfl, rfl⟩ fun a ha => (ha.more (ha.more (ha.more (ha.more ha.nil rfl) rfl) rfl) rfl)
  ·
   obtain ⟨o151, h, hk160⟩ := Option.bind_eq_some_iff.mp h; unfold i_stepOf_b6 at h
   have hc151 : decide (v73 < (p0.Next.length : Int)) = true := decide_eq_true (by omega)
   refine WC.seq ?_
   refine WC.rs [(0, 2)] rfl ?_
   refine WO.pn 1 rfl ?_
   refine WO.fin ?_
   refine DN.seq ?_
   refine WC.seq ?_
   refine WC.ct' rfl hc151 ?_
   refine WC.skip ?_
   refine DN.seq ?_
   refine WC.seq ?_
   refine WC.block ?_
   refine WC.seq ?_
   refine WC.rs [(0, 2), (1, 2), (2, 1), (3, 2), (4, 2)] rfl ?_
   refine WO.pn 1 rfl ?_
   obtain ⟨x76, hx76, h⟩ := Option.bind_eq_some_iff.mp h
   refine WO.k2 rfl rfl rfl rfl (rn_index f5 hx76 Try.runUnderlying24 Try.sizeOf2 rfl rfl rfl rfl) ?_
   have f161 := f5.stp (S12.tr (S17.tr (S21.tr (S24.tr (S32.tr (S65.tr (S97.tr S159))))))) rfl rfl
   refine WO.k1 trivial rfl rfl rfl rfl (rn_ld Try.isAgg2 rfl rfl (hvE (f161.gInt hx76))) ?_
   refine WO.pn 2 rfl ?_
   refine WO.fin ?_
   refine DN.seq ?_
   refine WC.rs [(0, 2), (1, 2), (2, 2), (3, 1), (4, 2), (5, 2), (6, 2), (7, 2)] rfl ?_
   refine WO.pn 3 rfl ?_
   obtain ⟨x81, hx81, h⟩ := Option.bind_eq_some_iff.mp h
   have f162 := f98.stp S159 rfl rfl
   have f163 := f99.stp S159 rfl rfl
   refine WO.callV rfl rfl rfl rfl rfl rfl rfl rfl Try.call69 (i_stepOf_1_ok (κ := fun b => mp [] 0 (K158 b)) (Sl.map f162.rdc (mp [] 0) rfl rfl) (f163.map (mp [] 0) rfl rfl) hx81) ?_
   rintro _ w164 ⟨k165, rfl, e166⟩
   obtain ⟨K167, S168, m169⟩ := Ent.mixed (l := []) (κ := K158) e166 7 rfl
   refine ⟨trivial, ?_⟩
   refine WO.pn 1 rfl ?_
   obtain ⟨_z83, hz83, h⟩ := Option.bind_eq_some_iff.mp h
   refine WO.k2 rfl rfl rfl rfl (rn_shl rfl rfl rfl (nn_ok hz83)) ?_
   refine WO.pn 2 rfl ?_
   refine WO.fin ?_
   refine DN.block ?_
   refine DN.seq ?_
   refine WC.rs [(0, 2), (1, 2)] rfl ?_
   refine WO.pn 2 rfl ?_
   refine WO.fin ?_
   have hw151 : IntKind.wrap .i64 (v73 + 1) = v73 + 1 := wr1 hj151 (of_decide_eq_true hc151) hN151
   rw [hw151]
   have hc151 := of_decide_eq_true hc151
   obtain rfl := Option.some.inj h
   refine DN.round fun a ha => ?_
   exact ⟨k, _, Nat.lt_succ_self _, ⟨K167, v73 + 1, ((IntKind.i64.wrap (BitVec.toNat (BitVec.ofInt (IntKind.bits IntKind.i64) s10 ||| BitVec.ofInt (IntKind.bits IntKind.i64) (IntKind.i64.wrap (x81 * 2 ^ (min (Int.toNat v73) (IntKind.bits IntKind.i64))))))) : Int), rfl, (S159.tr S168).wk rfl, by omega, by omega, hk160⟩, (ha.more (ha.more (ha.more (ha.more (ha.more (ha.more (ha.more ha.nil rfl) rfl) rfl) rfl) rfl) rfl) rfl)⟩
 rintro _ w154 ⟨K155, s12, rfl, S156, rfl⟩
 have h := hK152
 dsimp only [aft] at h
 refine DN.seq ?_
 refine WC.seq ?_
 refine WC.seq ?_
 refine WC.rs [(0, 2), (1, 1), (2, 2), (3, 2)] rfl ?_
 refine WO.k2 rfl rfl rfl rfl (rn_fieldAddr Try.runUnderlying27 rfl Try.sizeOf24 rfl rfl) ?_
 have f171 := f150.stp S156 rfl rfl
 refine WO.k1 trivial rfl rfl rfl rfl (rn_ld Try.isAgg24 rfl rfl (hvE (f171.ld 4 rfl rfl))) ?_
 refine WO.k2 rfl rfl rfl rfl (rn_len Try.runUnderlying24 rfl rfl) ?_
 refine WO.pn 1 rfl ?_
 refine WO.fin ?_
 refine DN.seq ?_
 have hN172 : (p0.Outs.length : Int) ≤ 9223372036854775807 := f7.len_le
 obtain ⟨q14, hq174, hK173⟩ := Option.bind_eq_some_iff.mp h
 clear h
 refine WC.meet (fun L w' => ∃ (κ' : Col) (s15 : Int), L = [(14, .int .i64 s12), (15, .int .i64 s15)] ∧ Stp [] K155 w154 κ' w' ∧ q14 = Sum.inr s15) ?_ ?_
 ·
  refine WC.block ?_
  refine WC.loop (fun k L w' => ∃ (κ' : Col) (v89 : Int) (s13 : Int), L = [(11, .func (.func 69) #[] #[.pointer (some ⟨b8, 0, none⟩)]), (14, .int .i64 s12), (15, .int .i64 s13), (87, .slice a0_4 p0.Outs.length u0_4), (88, .int .i64 (p0.Outs.length : Int)), (89, .int .i64 v89)] ∧ Stp [] K155 w154 κ' w' ∧ 0 ≤ v89 ∧ Int.toNat ((p0.Outs.length : Int) - v89) = k ∧ cntM (i_stepOf_b8 p0 s9) k v89 s13 = some q14) ⟨_, _, ⟨K155, 0, (0 : Int), rfl, (Stp.refl _ _).wk rfl, (by decide), (by simp), hq174⟩, fun a ha => (ha.more (ha.more (ha.more (ha.more (ha.more (ha.more ha.nil rfl) rfl) rfl) rfl) rfl) rfl)⟩ ?_
  rintro k _ w178 ⟨K179, v89, s13, rfl, S180, hj172, hJ172, h⟩
  rcases k with _ | k
  ·
   have hk181 := h; obtain ⟨o172, h⟩ := ex_eq (Sum.inr (Sum.inl s13) : (Int × Int) ⊕ ((Int) ⊕ (Int)))
   have hc172 : decide (v89 < (p0.Outs.length : Int)) = false := decide_eq_false (by omega)
   refine WC.seq ?_
   refine WC.rs [(0, 2)] rfl ?_
   refine WO.pn 1 rfl ?_
   refine WO.fin ?_
   refine DN.seq ?_
   refine WC.seq ?_
   refine WC.cf' rfl hc172 ?_
   refine WC.exit ?_
   refine DN.exitThen ?_
   refine DN.exitThen ?_
   obtain rfl := Option.some.inj h
   have h := hk181
   refine DN.hit ?_
   obtain rfl := Option.some.inj h
   exact DN.meet _ ⟨K179, (s13 : Int), rfl, S180.wk rfl, rfl⟩ fun a ha => (ha.more (ha.more ha.nil rfl) rfl)
  ·
   obtain ⟨o172, h, hk181⟩ := Option.bind_eq_some_iff.mp h; unfold i_stepOf_b8 at h
   have hc172 : decide (v89 < (p0.Outs.length : Int)) = true := decide_eq_true (by omega)
   refine WC.seq ?_
   refine WC.rs [(0, 2)] rfl ?_
   refine WO.pn 1 rfl ?_
   refine WO.fin ?_
   refine DN.seq ?_
   refine WC.seq ?_
   refine WC.ct' rfl hc172 ?_
   refine WC.skip ?_
   refine DN.seq ?_
   refine WC.seq ?_
   refine WC.block ?_
   refine WC.seq ?_
   refine WC.rs [(0, 2), (1, 2), (2, 1), (3, 2), (4, 2)] rfl ?_
   refine WO.pn 1 rfl ?_
   obtain ⟨x92, hx92, h⟩ := Option.bind_eq_some_iff.mp h
   refine WO.k2 rfl rfl rfl rfl (rn_index f7 hx92 Try.runUnderlying24 Try.sizeOf2 rfl rfl rfl rfl) ?_
   have f182 := f7.stp (S12.tr (S17.tr (S21.tr (S24.tr (S32.tr (S65.tr (S97.tr (S156.tr S180)))))))) rfl rfl
   refine WO.k1 trivial rfl rfl rfl rfl (rn_ld Try.isAgg2 rfl rfl (hvE (f182.gInt hx92))) ?_
   refine WO.pn 2 rfl ?_
   refine WO.fin ?_
   refine DN.seq ?_
   refine WC.rs [(0, 2), (1, 2), (2, 2), (3, 1), (4, 2), (5, 2), (6, 2), (7, 2)] rfl ?_
   refine WO.pn 3 rfl ?_
   obtain ⟨x97, hx97, h⟩ := Option.bind_eq_some_iff.mp h
   have f183 := f98.stp (S156.tr S180) rfl rfl
   have f184 := f99.stp (S156.tr S180) rfl rfl
   refine WO.callV rfl rfl rfl rfl rfl rfl rfl rfl Try.call69 (i_stepOf_1_ok (κ := fun b => mp [] 0 (K179 b)) (Sl.map f183.rdc (mp [] 0) rfl rfl) (f184.map (mp [] 0) rfl rfl) hx97) ?_
   rintro _ w185 ⟨k186, rfl, e187⟩
   obtain ⟨K188, S189, m190⟩ := Ent.mixed (l := []) (κ := K179) e187 7 rfl
   refine ⟨trivial, ?_⟩
   refine WO.pn 1 rfl ?_
   obtain ⟨_z99, hz99, h⟩ := Option.bind_eq_some_iff.mp h
   refine WO.k2 rfl rfl rfl rfl (rn_shl rfl rfl rfl (nn_ok hz99)) ?_
   refine WO.pn 2 rfl ?_
   refine WO.fin ?_
   refine DN.block ?_
   refine DN.seq ?_
   refine WC.rs [(0, 2), (1, 2)] rfl ?_
   refine WO.pn 2 rfl ?_
   refine WO.fin ?_
   have hw172 : IntKind.wrap .i64 (v89 + 1) = v89 + 1 := wr1 hj172 (of_decide_eq_true hc172) hN172
   rw [hw172]
   have hc172 := of_decide_eq_true hc172
   obtain rfl := Option.some.inj h
   refine DN.round fun a ha => ?_
   exact ⟨k, _, Nat.lt_succ_self _, ⟨K188, v89 + 1, ((IntKind.i64.wrap (BitVec.toNat (BitVec.ofInt (IntKind.bits IntKind.i64) s13 ||| BitVec.ofInt (IntKind.bits IntKind.i64) (IntKind.i64.wrap (x97 * 2 ^ (min (Int.toNat v89) (IntKind.bits IntKind.i64))))))) : Int), rfl, (S180.tr S189).wk rfl, by omega, by omega, hk181⟩, (ha.more (ha.more (ha.more (ha.more (ha.more (ha.more ha.nil rfl) rfl) rfl) rfl) rfl) rfl)⟩
 rintro _ w175 ⟨K176, s15, rfl, S177, rfl⟩
 have h := hK173
 dsimp only [aft] at h
 refine DN.seq ?_
 refine WC.seq ?_
 refine WC.rs [(0, 2), (1, 2), (2, 2), (3, 2)] rfl ?_
 refine WO.pn 4 rfl ?_
 refine WO.fin ?_
 refine DN.seq ?_
 refine WC.ret ?_
 have f192 := hE.stp (S3.tr (S12.tr (S17.tr (S21.tr (S24.tr (S32.tr (S65.tr (S97.tr (S156.tr S177))))))))) rfl rfl
 refine DN.res (l := [.tmp 6, .tmp 7]) Try.results38 (res_tmp rfl (res_tmp rfl rfl)) rfl ?_
 obtain rfl := Option.some.inj h
 exact ⟨K176, rfl, f192⟩

end Go.Proofs.Ythjkonkcdfdfaaa
