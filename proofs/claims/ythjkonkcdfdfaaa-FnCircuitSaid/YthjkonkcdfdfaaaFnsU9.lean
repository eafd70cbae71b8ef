/- The walks, part 9. By program. -/
import Derived.Test.YthjkonkcdfdfaaaFnsU7
import Derived.Test.YthjkonkcdfdfaaaFnsU8
set_option linter.unusedVariables false
set_option linter.unusedSimpArgs false
namespace Go.Proofs.Ythjkonkcdfdfaaa
open Go Go.Wk Go.Proofs
set_option maxRecDepth 100000
set_option maxHeartbeats 1000000

/- loop.example/g00869/laws.FnCircuit -/
theorem l_FnCircuit_ok {w : World} {κ : Col} {a0 : Option Addr} {u0 : Nat} {p0 : (List Int)} (g0 : Rd (Rp.int .u8) κ w 0 a0 u0 p0) {r : Bool} (h : l_FnCircuit p0 = some r) : Ret Try.prog 5 [.slice a0 p0.length u0] w (fun v w' => ∃ (κ' : Col), v = .bool r ∧ Ent κ w κ' w') := by
 unfold l_FnCircuit at h
 refine Ret.enter Try.func5 rfl Try.ntmps5 rfl ?_
 dsimp only [envOf]
 have hE := Ent.refl κ w
 refine WC.seq ?_
 refine WC.rs [(0, 2)] rfl ?_
 refine WO.pn 1 rfl ?_
 refine WO.fin ?_
 refine DN.seq ?_
 refine WC.seq ?_
 refine WC.seq ?_
 refine WC.rs [(0, 2), (1, 1)] rfl ?_
 refine WO.pn 1 rfl ?_
 obtain ⟨x16, hx16, h⟩ := Option.bind_eq_some_iff.mp h
 refine WO.call rfl rfl rfl rfl rfl rfl Try.call6 (l_big_ok (κ := fun b => mp [] 0 (κ b)) (Sl.map g0 (mp [] 0) rfl rfl) hx16) ?_
 rintro _ w1 ⟨k2, rfl, e3⟩
 obtain ⟨K4, S5, m6⟩ := Ent.mixed (l := []) (κ := κ) e3 2 rfl
 refine ⟨trivial, ?_⟩
 refine WO.fin ?_
 refine DN.seq ?_
 revert h
 cases ht8 : x16 with
 | true =>
  intro h; replace h := cT h
  refine WC.ct rfl ?_
  refine WC.seq ?_
  refine WC.rs [(0, 2)] rfl ?_
  refine WO.pn 1 rfl ?_
  refine WO.fin ?_
  refine DN.seq ?_
  refine WC.ret ?_
  refine DN.retThen ?_
  have f9 := hE.stp S5 rfl rfl
  refine DN.res (l := [.tmp 2]) Try.results5 (res_tmp rfl rfl) rfl ?_
  obtain rfl := Option.some.inj h
  exact ⟨K4, rfl, f9⟩
 | false =>
  intro h; replace h := cF h
  refine WC.cf rfl ?_
  refine WC.skip ?_
  refine DN.seq ?_
  refine WC.seq ?_
  refine WC.rs [(0, 2), (1, 1), (2, 2), (3, 2), (4, 2), (5, 1), (6, 1), (7, 1), (8, 1)] rfl ?_
  refine WO.pn 1 rfl ?_
  obtain ⟨x19, hx19, h⟩ := Option.bind_eq_some_iff.mp h
  have f10 := g0.stp S5 rfl rfl
  refine WO.call rfl rfl rfl rfl rfl rfl Try.call20 (s_DrawCircuitOf_ok (κ := fun b => mp [] 0 (K4 b)) (Sl.map f10 (mp [] 0) rfl rfl) hx19) ?_
  rintro _ w11 ⟨k12, a19_0, u19_0, a19_1, u19_1, rfl, e13, f14, f15⟩
  obtain ⟨K16, S17, m18⟩ := Ent.mixed (l := []) (κ := K4) e13 4 rfl
  refine ⟨trivial, ?_⟩
  have f20 := f14.mx (no_own (no_int _) _) m18 rfl (rfl : 4 + 2 = 6)
  have f21 := f15.mx (no_own (no_int _) _) m18 rfl (rfl : 4 + 3 = 7)
  refine WO.pn 3 rfl ?_
  refine WO.alloc (κ := K16) 8 rfl rfl rfl rfl rfl Try.zeroValue43 rfl fun b3 w22 K23 S24 f25 => ⟨trivial, ?_⟩
  refine WO.alloc (κ := K23) 9 rfl rfl rfl rfl rfl Try.zeroValue46 rfl fun b4 w26 K27 S28 f29 => ⟨trivial, ?_⟩
  have f30 := f25.stp S28 rfl rfl
  refine WO.stB0 (κ := K27) 8 (vc := [.int .i64 x19.1.In, .int .i64 x19.1.Out]) rfl rfl rfl rfl rfl rfl rfl Try.sizeOf43 rfl rfl f30 rfl fun w31 S32 f33 => ⟨trivial, ?_⟩
  have f34 := f29.stp S32 rfl rfl
  refine WO.stB0 (κ := K27) 9 (vc := [.slice a19_0 x19.2.Next.length u19_0, .slice a19_1 x19.2.Out.length u19_1]) rfl rfl rfl rfl rfl rfl rfl Try.sizeOf46 rfl rfl f34 rfl fun w35 S36 f37 => ⟨trivial, ?_⟩
  refine WO.fin ?_
  refine DN.seq ?_
  refine WC.seq ?_
  refine WC.rs [(0, 1), (1, 1), (2, 1), (3, 2), (4, 2), (5, 2), (6, 1), (7, 1), (8, 2)] rfl ?_
  have f38 := f33.stp S36 rfl rfl
  refine WO.k1 trivial rfl rfl rfl rfl (rn_la (cs := [.int .i64 x19.1.In, .int .i64 x19.1.Out]) Try.isAgg43 Try.sizeOf43 rfl rfl rfl (haE f38.cells)) ?_
  refine WO.k1 trivial rfl rfl rfl rfl (rn_la (cs := [.slice a19_0 x19.2.Next.length u19_0, .slice a19_1 x19.2.Out.length u19_1]) Try.isAgg46 Try.sizeOf46 rfl rfl rfl (haE f37.cells)) ?_
  obtain ⟨x25, hx25, h⟩ := Option.bind_eq_some_iff.mp h
  have f39 := f20.stp (S24.tr (S28.tr (S32.tr S36))) rfl rfl
  have f40 := f21.stp (S24.tr (S28.tr (S32.tr S36))) rfl rfl
  refine WO.call rfl rfl rfl rfl rfl rfl Try.call21 (i_CircuitOf_ok (κ := fun b => mp [] 0 (K27 b)) (p0 := x19.1) (p1 := x19.2) (Sl.map f39.rdc (mp [] 0) rfl rfl) (Sl.map f40.rdc (mp [] 0) rfl rfl) hx25) ?_
  rintro _ w41 ⟨k42, a25_0, u25_0, a25_1, u25_1, a25_2, u25_2, rfl, e43, f44, f45, f46⟩
  obtain ⟨K47, S48, m49⟩ := Ent.mixed (l := []) (κ := K27) e43 10 rfl
  refine ⟨trivial, ?_⟩
  have f51 := f44.mx (no_int _) m49 rfl (rfl : 10 + 2 = 12)
  have f52 := f45.mx Gate.no33 m49 rfl (rfl : 10 + 3 = 13)
  have f53 := f46.mx (no_int _) m49 rfl (rfl : 10 + 4 = 14)
  refine WO.pn 3 rfl ?_
  refine WO.alloc (κ := K47) 15 rfl rfl rfl rfl rfl Try.zeroValue27 rfl fun b5 w54 K55 S56 f57 => ⟨trivial, ?_⟩
  refine WO.stB0 (κ := K55) 15 (vc := [.int .i64 x25.1.Inputs, .int .i64 x25.1.Latches, .slice a25_0 x25.1.Next.length u25_0, .slice a25_1 x25.1.Gates.length u25_1, .slice a25_2 x25.1.Outs.length u25_2]) rfl rfl rfl rfl rfl rfl rfl Try.sizeOf27 rfl rfl f57 rfl fun w58 S59 f60 => ⟨trivial, ?_⟩
  refine WO.pn 1 rfl ?_
  refine WO.fin ?_
  refine DN.seq ?_
  refine WC.seq ?_
  refine WC.seq ?_
  refine WC.rs [(0, 2), (1, 1), (2, 1), (3, 1), (4, 2)] rfl ?_
  refine WO.pn 1 rfl ?_
  have f61 := f38.stp (S48.tr (S56.tr S59)) rfl rfl
  refine WO.k1 trivial rfl rfl rfl rfl (rn_la (cs := [.int .i64 x19.1.In, .int .i64 x19.1.Out]) Try.isAgg43 Try.sizeOf43 rfl rfl rfl (haE f61.cells)) ?_
  have f62 := f37.stp (S48.tr (S56.tr S59)) rfl rfl
  refine WO.k1 trivial rfl rfl rfl rfl (rn_la (cs := [.slice a19_0 x19.2.Next.length u19_0, .slice a19_1 x19.2.Out.length u19_1]) Try.isAgg46 Try.sizeOf46 rfl rfl rfl (haE f62.cells)) ?_
  obtain ⟨x31, hx31, h⟩ := Option.bind_eq_some_iff.mp h
  have f63 := f39.stp (S48.tr (S56.tr S59)) rfl rfl
  have f64 := f40.stp (S48.tr (S56.tr S59)) rfl rfl
  refine WO.call rfl rfl rfl rfl rfl rfl Try.call22 (s_MachineOk_ok (κ := fun b => mp [] 0 (K55 b)) (p0 := x19.1) (p1 := x19.2) (Sl.map f63.rdc (mp [] 0) rfl rfl) (Sl.map f64.rdc (mp [] 0) rfl rfl) hx31) ?_
  rintro _ w65 ⟨k66, rfl, e67⟩
  obtain ⟨K68, S69, m70⟩ := Ent.mixed (l := []) (κ := K55) e67 16 rfl
  refine ⟨trivial, ?_⟩
  refine WO.k2 rfl rfl rfl rfl (rn_neqB rfl rfl Try.runUnderlying4 rfl) ?_
  refine WO.fin ?_
  refine DN.seq ?_
  revert h
  cases ht72 : (x25.2 != x31) with
  | true =>
   intro h; replace h := cT h
   refine WC.ct rfl ?_
   refine WC.seq ?_
   refine WC.rs [(0, 2)] rfl ?_
   refine WO.pn 1 rfl ?_
   refine WO.fin ?_
   refine DN.seq ?_
   refine WC.ret ?_
   refine DN.retThen ?_
   have f73 := hE.stp (S5.tr (S17.tr (S24.tr (S28.tr (S32.tr (S36.tr (S48.tr (S56.tr (S59.tr S69))))))))) rfl rfl
   refine DN.res (l := [.tmp 2]) Try.results5 (res_tmp rfl rfl) rfl ?_
   obtain rfl := Option.some.inj h
   exact ⟨K68, rfl, f73⟩
  | false =>
   intro h; replace h := cF h
   refine WC.cf rfl ?_
   refine WC.skip ?_
   refine DN.seq ?_
   refine WC.seq ?_
   refine WC.seq ?_
   refine WC.rs [(0, 2), (1, 2)] rfl ?_
   refine WO.pn 2 rfl ?_
   refine WO.fin ?_
   refine DN.seq ?_
   revert h
   cases ht74 : (!x25.2) with
   | true =>
    intro h; replace h := cT h
    refine WC.ct rfl ?_
    refine WC.seq ?_
    refine WC.rs [(0, 2), (1, 1), (2, 2), (3, 2), (4, 2)] rfl ?_
    refine WO.k2 rfl rfl rfl rfl (rn_fieldAddr Try.runUnderlying27 rfl Try.sizeOf24 rfl rfl) ?_
    have f75 := f60.stp S69 rfl rfl
    refine WO.k1 trivial rfl rfl rfl rfl (rn_ld Try.isAgg24 rfl rfl (hvE (f75.ld 4 rfl rfl))) ?_
    refine WO.k2 rfl rfl rfl rfl (rn_len Try.runUnderlying24 rfl rfl) ?_
    refine WO.pn 2 rfl ?_
    refine WO.fin ?_
    refine DN.seq ?_
    refine WC.ret ?_
    refine DN.retThen ?_
    have f76 := hE.stp (S5.tr (S17.tr (S24.tr (S28.tr (S32.tr (S36.tr (S48.tr (S56.tr (S59.tr S69))))))))) rfl rfl
    refine DN.res (l := [.tmp 2]) Try.results5 (res_tmp rfl rfl) rfl ?_
    obtain rfl := Option.some.inj h
    exact ⟨K68, rfl, f76⟩
   | false =>
    intro h; replace h := cF h
    refine WC.cf rfl ?_
    refine WC.skip ?_
    refine DN.seq ?_
    refine WC.seq ?_
    refine WC.seq ?_
    refine WC.rs [(0, 1), (1, 1), (2, 2), (3, 2), (4, 1), (5, 1), (6, 1), (7, 1), (8, 2), (9, 2), (10, 2), (11, 1), (12, 1), (13, 1), (14, 1), (15, 2), (16, 2)] rfl ?_
    have f77 := f60.stp S69 rfl rfl
    refine WO.k1 trivial rfl rfl rfl rfl (rn_la (cs := [.int .i64 x25.1.Inputs, .int .i64 x25.1.Latches, .slice a25_0 x25.1.Next.length u25_0, .slice a25_1 x25.1.Gates.length u25_1, .slice a25_2 x25.1.Outs.length u25_2]) Try.isAgg27 Try.sizeOf27 rfl rfl rfl (haE f77.cells)) ?_
    obtain ⟨x40, hx40, h⟩ := Option.bind_eq_some_iff.mp h
    have f78 := f51.stp (S56.tr (S59.tr S69)) rfl rfl
    have f79 := f52.stp (S56.tr (S59.tr S69)) rfl rfl
    have f80 := f53.stp (S56.tr (S59.tr S69)) rfl rfl
    refine WO.call rfl rfl rfl rfl rfl rfl Try.call9 (s_CircuitOk_ok (κ := fun b => mp [] 0 (K68 b)) (p0 := x25.1) (Sl.map f78.rdc (mp [] 0) rfl rfl) (Sl.map f79.rdc (mp [] 0) rfl rfl) (Sl.map f80.rdc (mp [] 0) rfl rfl) hx40) ?_
    rintro _ w81 ⟨k82, rfl, e83⟩
    obtain ⟨K84, S85, m86⟩ := Ent.mixed (l := []) (κ := K68) e83 18 rfl
    refine ⟨trivial, ?_⟩
    refine WO.pn 2 rfl ?_
    obtain ⟨p48, h, hK88⟩ := Option.bind_eq_some_iff.mp h
    refine WO.meet [(4, 1), (5, 1), (6, 1), (7, 1), (8, 2), (9, 2)] [(10, 2), (11, 1), (12, 1), (13, 1), (14, 1), (15, 2), (16, 2)] (fun L w' => L = [(0, .slice a0 p0.length u0), (3, .pointer (some ⟨b3, 0, none⟩)), (4, .pointer (some ⟨b4, 0, none⟩)), (5, .pointer (some ⟨b5, 0, none⟩)), (48, .bool p48)] ∧ ∃ κ', Stp [] K84 w81 κ' w') trivial ?_ ?_
    ·
     revert h
     cases ht89 : (!x40) with
     | true =>
      intro h; replace h := cT h
      refine WO.ls rfl rfl rfl rfl ?_
      refine WO.ls rfl rfl rfl rfl ?_
      refine WO.ls rfl rfl rfl rfl ?_
      refine WO.ls rfl rfl rfl rfl ?_
      refine WO.pn 2 rfl ?_
      obtain rfl := Option.some.inj h
      exact WO.met _ trivial ⟨rfl, _, (Stp.refl _ _).wk rfl⟩ fun a ha => (ha.more (ha.more (ha.more (ha.more (ha.more ha.nil rfl) rfl) rfl) rfl) rfl)
     | false =>
      intro h; replace h := cF h
      have f90 := f61.stp (S69.tr S85) rfl rfl
      refine WO.k1 trivial rfl rfl rfl rfl (rn_la (cs := [.int .i64 x19.1.In, .int .i64 x19.1.Out]) Try.isAgg43 Try.sizeOf43 rfl rfl rfl (haE f90.cells)) ?_
      have f91 := f77.stp S85 rfl rfl
      refine WO.k1 trivial rfl rfl rfl rfl (rn_la (cs := [.int .i64 x25.1.Inputs, .int .i64 x25.1.Latches, .slice a25_0 x25.1.Next.length u25_0, .slice a25_1 x25.1.Gates.length u25_1, .slice a25_2 x25.1.Outs.length u25_2]) Try.isAgg27 Try.sizeOf27 rfl rfl rfl (haE f91.cells)) ?_
      have f92 := f62.stp (S69.tr S85) rfl rfl
      refine WO.k1 trivial rfl rfl rfl rfl (rn_la (cs := [.slice a19_0 x19.2.Next.length u19_0, .slice a19_1 x19.2.Out.length u19_1]) Try.isAgg46 Try.sizeOf46 rfl rfl rfl (haE f92.cells)) ?_
      obtain ⟨x46, hx46, h⟩ := Option.bind_eq_some_iff.mp h
      have f93 := f78.stp S85 rfl rfl
      have f94 := f79.stp S85 rfl rfl
      have f95 := f80.stp S85 rfl rfl
      have f96 := f63.stp (S69.tr S85) rfl rfl
      have f97 := f64.stp (S69.tr S85) rfl rfl
      refine WO.call rfl rfl rfl rfl rfl rfl Try.call23 (s_CircuitMeets_ok (κ := fun b => mp [] 0 (K84 b)) (p0 := x19.1) (p1 := x25.1) (p2 := x19.2) (Sl.map f93.rdc (mp [] 0) rfl rfl) (Sl.map f94.rdc (mp [] 0) rfl rfl) (Sl.map f95.rdc (mp [] 0) rfl rfl) (Sl.map f96.rdc (mp [] 0) rfl rfl) (Sl.map f97.rdc (mp [] 0) rfl rfl) hx46) ?_
      rintro _ w98 ⟨k99, rfl, e100⟩
      obtain ⟨K101, S102, m103⟩ := Ent.mixed (l := []) (κ := K84) e100 20 rfl
      refine ⟨trivial, ?_⟩
      refine WO.pn 2 rfl ?_
      obtain rfl := Option.some.inj h
      exact WO.met _ trivial ⟨rfl, _, S102.wk rfl⟩ fun a ha => (ha.more (ha.more (ha.more (ha.more (ha.more ha.nil rfl) rfl) rfl) rfl) rfl)
    rintro _ w105 _ ⟨rfl, K106, S107⟩
    have h := hK88
    refine WO.pn 1 rfl ?_
    obtain ⟨p55, h, hK108⟩ := Option.bind_eq_some_iff.mp h
    refine WO.meet [(11, 1), (12, 1), (13, 1), (14, 1), (15, 2), (16, 2)] [] (fun L w' => L = [(0, .slice a0 p0.length u0), (3, .pointer (some ⟨b3, 0, none⟩)), (4, .pointer (some ⟨b4, 0, none⟩)), (5, .pointer (some ⟨b5, 0, none⟩)), (55, .bool p55)] ∧ ∃ κ', Stp [] K106 w105 κ' w') trivial ?_ ?_
    ·
     revert h
     cases ht109 : p48 with
     | true =>
      intro h; replace h := cT h
      refine WO.ls rfl rfl rfl rfl ?_
      refine WO.ls rfl rfl rfl rfl ?_
      refine WO.ls rfl rfl rfl rfl ?_
      refine WO.ls rfl rfl rfl rfl ?_
      refine WO.pn 2 rfl ?_
      obtain rfl := Option.some.inj h
      exact WO.met _ trivial ⟨rfl, _, (Stp.refl _ _).wk rfl⟩ fun a ha => (ha.more (ha.more (ha.more (ha.more (ha.more ha.nil rfl) rfl) rfl) rfl) rfl)
     | false =>
      intro h; replace h := cF h
      have f110 := f61.stp (S69.tr (S85.tr S107)) rfl rfl
      refine WO.k1 trivial rfl rfl rfl rfl (rn_la (cs := [.int .i64 x19.1.In, .int .i64 x19.1.Out]) Try.isAgg43 Try.sizeOf43 rfl rfl rfl (haE f110.cells)) ?_
      have f111 := f77.stp (S85.tr S107) rfl rfl
      refine WO.k1 trivial rfl rfl rfl rfl (rn_la (cs := [.int .i64 x25.1.Inputs, .int .i64 x25.1.Latches, .slice a25_0 x25.1.Next.length u25_0, .slice a25_1 x25.1.Gates.length u25_1, .slice a25_2 x25.1.Outs.length u25_2]) Try.isAgg27 Try.sizeOf27 rfl rfl rfl (haE f111.cells)) ?_
      have f112 := f62.stp (S69.tr (S85.tr S107)) rfl rfl
      refine WO.k1 trivial rfl rfl rfl rfl (rn_la (cs := [.slice a19_0 x19.2.Next.length u19_0, .slice a19_1 x19.2.Out.length u19_1]) Try.isAgg46 Try.sizeOf46 rfl rfl rfl (haE f112.cells)) ?_
      obtain ⟨x53, hx53, h⟩ := Option.bind_eq_some_iff.mp h
      have f113 := f78.stp (S85.tr S107) rfl rfl
      have f114 := f79.stp (S85.tr S107) rfl rfl
      have f115 := f80.stp (S85.tr S107) rfl rfl
      have f116 := f63.stp (S69.tr (S85.tr S107)) rfl rfl
      have f117 := f64.stp (S69.tr (S85.tr S107)) rfl rfl
      refine WO.call rfl rfl rfl rfl rfl rfl Try.call24 (i_CircuitMeets_ok (κ := fun b => mp [] 0 (K106 b)) (p0 := x19.1) (p1 := x25.1) (p2 := x19.2) (Sl.map f113.rdc (mp [] 0) rfl rfl) (Sl.map f114.rdc (mp [] 0) rfl rfl) (Sl.map f115.rdc (mp [] 0) rfl rfl) (Sl.map f116.rdc (mp [] 0) rfl rfl) (Sl.map f117.rdc (mp [] 0) rfl rfl) hx53) ?_
      rintro _ w118 ⟨k119, rfl, e120⟩
      obtain ⟨K121, S122, m123⟩ := Ent.mixed (l := []) (κ := K106) e120 20 rfl
      refine ⟨trivial, ?_⟩
      refine WO.pn 2 rfl ?_
      obtain rfl := Option.some.inj h
      exact WO.met _ trivial ⟨rfl, _, S122.wk rfl⟩ fun a ha => (ha.more (ha.more (ha.more (ha.more (ha.more ha.nil rfl) rfl) rfl) rfl) rfl)
    rintro _ w125 _ ⟨rfl, K126, S127⟩
    have h := hK108
    refine WO.fin ?_
    refine DN.seq ?_
    revert h
    cases ht128 : p55 with
    | true =>
     intro h; replace h := cT h
     refine WC.ct rfl ?_
     refine WC.seq ?_
     refine WC.rs [(0, 2)] rfl ?_
     refine WO.pn 1 rfl ?_
     refine WO.fin ?_
     refine DN.seq ?_
     refine WC.ret ?_
     refine DN.retThen ?_
     have f129 := hE.stp (S5.tr (S17.tr (S24.tr (S28.tr (S32.tr (S36.tr (S48.tr (S56.tr (S59.tr (S69.tr (S85.tr (S107.tr S127)))))))))))) rfl rfl
     refine DN.res (l := [.tmp 2]) Try.results5 (res_tmp rfl rfl) rfl ?_
     obtain rfl := Option.some.inj h
     exact ⟨K126, rfl, f129⟩
    | false =>
     intro h; replace h := cF h
     refine WC.cf rfl ?_
     refine WC.skip ?_
     refine DN.seq ?_
     refine WC.seq ?_
     refine WC.rs [(0, 1), (1, 1), (2, 1), (3, 2), (4, 2), (5, 2), (6, 1), (7, 1), (8, 2)] rfl ?_
     have f130 := f61.stp (S69.tr (S85.tr (S107.tr S127))) rfl rfl
     refine WO.k1 trivial rfl rfl rfl rfl (rn_la (cs := [.int .i64 x19.1.In, .int .i64 x19.1.Out]) Try.isAgg43 Try.sizeOf43 rfl rfl rfl (haE f130.cells)) ?_
     have f131 := f77.stp (S85.tr (S107.tr S127)) rfl rfl
     refine WO.k1 trivial rfl rfl rfl rfl (rn_la (cs := [.int .i64 x25.1.Inputs, .int .i64 x25.1.Latches, .slice a25_0 x25.1.Next.length u25_0, .slice a25_1 x25.1.Gates.length u25_1, .slice a25_2 x25.1.Outs.length u25_2]) Try.isAgg27 Try.sizeOf27 rfl rfl rfl (haE f131.cells)) ?_
     obtain ⟨x59, hx59, h⟩ := Option.bind_eq_some_iff.mp h
     have f132 := f78.stp (S85.tr (S107.tr S127)) rfl rfl
     have f133 := f79.stp (S85.tr (S107.tr S127)) rfl rfl
     have f134 := f80.stp (S85.tr (S107.tr S127)) rfl rfl
     refine WO.call rfl rfl rfl rfl rfl rfl Try.call25 (i_CircuitMachine_ok (κ := fun b => mp [] 0 (K126 b)) (p0 := x19.1) (p1 := x25.1) (Sl.map f132.rdc (mp [] 0) rfl rfl) (Sl.map f133.rdc (mp [] 0) rfl rfl) (Sl.map f134.rdc (mp [] 0) rfl rfl) hx59) ?_
     rintro _ w135 ⟨k136, a59_0, u59_0, a59_1, u59_1, rfl, e137, f138, f139⟩
     obtain ⟨K140, S141, m142⟩ := Ent.mixed (l := []) (κ := K126) e137 20 rfl
     refine ⟨trivial, ?_⟩
     have f144 := f138.mx (no_own (no_int _) _) m142 rfl (rfl : 20 + 2 = 22)
     have f145 := f139.mx (no_own (no_int _) _) m142 rfl (rfl : 20 + 3 = 23)
     refine WO.pn 3 rfl ?_
     refine WO.alloc (κ := K140) 24 rfl rfl rfl rfl rfl Try.zeroValue46 rfl fun b7 w146 K147 S148 f149 => ⟨trivial, ?_⟩
     refine WO.stB0 (κ := K147) 24 (vc := [.slice a59_0 x59.1.Next.length u59_0, .slice a59_1 x59.1.Out.length u59_1]) rfl rfl rfl rfl rfl rfl rfl Try.sizeOf46 rfl rfl f149 rfl fun w150 S151 f152 => ⟨trivial, ?_⟩
     refine WO.pn 1 rfl ?_
     refine WO.fin ?_
     refine DN.seq ?_
     refine WC.seq ?_
     refine WC.seq ?_
     refine WC.rs [(0, 2), (1, 2), (2, 2), (3, 1), (4, 1), (5, 1), (6, 2), (7, 2), (8, 2), (9, 1), (10, 1), (11, 1), (12, 1), (13, 2), (14, 2)] rfl ?_
     refine WO.pn 3 rfl ?_
     obtain ⟨p69, h, hK153⟩ := Option.bind_eq_some_iff.mp h
     refine WO.meet [(3, 1), (4, 1), (5, 1), (6, 2), (7, 2)] [(8, 2), (9, 1), (10, 1), (11, 1), (12, 1), (13, 2), (14, 2)] (fun L w' => L = [(0, .slice a0 p0.length u0), (3, .pointer (some ⟨b3, 0, none⟩)), (4, .pointer (some ⟨b4, 0, none⟩)), (5, .pointer (some ⟨b5, 0, none⟩)), (7, .pointer (some ⟨b7, 0, none⟩)), (69, .bool p69)] ∧ ∃ κ', Stp [] K147 w150 κ' w') trivial ?_ ?_
     ·
      revert h
      cases ht154 : (!x59.2) with
      | true =>
       intro h; replace h := cT h
       refine WO.ls rfl rfl rfl rfl ?_
       refine WO.ls rfl rfl rfl rfl ?_
       refine WO.ls rfl rfl rfl rfl ?_
       refine WO.pn 2 rfl ?_
       obtain rfl := Option.some.inj h
       exact WO.met _ trivial ⟨rfl, _, (Stp.refl _ _).wk rfl⟩ fun a ha => (ha.more (ha.more (ha.more (ha.more (ha.more (ha.more ha.nil rfl) rfl) rfl) rfl) rfl) rfl)
      | false =>
       intro h; replace h := cF h
       have f155 := f130.stp (S141.tr (S148.tr S151)) rfl rfl
       refine WO.k1 trivial rfl rfl rfl rfl (rn_la (cs := [.int .i64 x19.1.In, .int .i64 x19.1.Out]) Try.isAgg43 Try.sizeOf43 rfl rfl rfl (haE f155.cells)) ?_
       refine WO.k1 trivial rfl rfl rfl rfl (rn_la (cs := [.slice a59_0 x59.1.Next.length u59_0, .slice a59_1 x59.1.Out.length u59_1]) Try.isAgg46 Try.sizeOf46 rfl rfl rfl (haE f152.cells)) ?_
       obtain ⟨x67, hx67, h⟩ := Option.bind_eq_some_iff.mp h
       have f156 := f144.stp (S148.tr S151) rfl rfl
       have f157 := f145.stp (S148.tr S151) rfl rfl
       refine WO.call rfl rfl rfl rfl rfl rfl Try.call22 (s_MachineOk_ok (κ := fun b => mp [] 0 (K147 b)) (p0 := x19.1) (p1 := x59.1) (Sl.map f156.rdc (mp [] 0) rfl rfl) (Sl.map f157.rdc (mp [] 0) rfl rfl) hx67) ?_
       rintro _ w158 ⟨k159, rfl, e160⟩
       obtain ⟨K161, S162, m163⟩ := Ent.mixed (l := []) (κ := K147) e160 25 rfl
       refine ⟨trivial, ?_⟩
       refine WO.pn 2 rfl ?_
       obtain rfl := Option.some.inj h
       exact WO.met _ trivial ⟨rfl, _, S162.wk rfl⟩ fun a ha => (ha.more (ha.more (ha.more (ha.more (ha.more (ha.more ha.nil rfl) rfl) rfl) rfl) rfl) rfl)
     rintro _ w165 _ ⟨rfl, K166, S167⟩
     have h := hK153
     refine WO.pn 1 rfl ?_
     obtain ⟨p76, h, hK168⟩ := Option.bind_eq_some_iff.mp h
     refine WO.meet [(9, 1), (10, 1), (11, 1), (12, 1), (13, 2), (14, 2)] [] (fun L w' => L = [(0, .slice a0 p0.length u0), (4, .pointer (some ⟨b4, 0, none⟩)), (5, .pointer (some ⟨b5, 0, none⟩)), (76, .bool p76)] ∧ ∃ κ', Stp [] K166 w165 κ' w') trivial ?_ ?_
     ·
      revert h
      cases ht169 : p69 with
      | true =>
       intro h; replace h := cT h
       refine WO.ls rfl rfl rfl rfl ?_
       refine WO.ls rfl rfl rfl rfl ?_
       refine WO.ls rfl rfl rfl rfl ?_
       refine WO.ls rfl rfl rfl rfl ?_
       refine WO.pn 2 rfl ?_
       obtain rfl := Option.some.inj h
       exact WO.met _ trivial ⟨rfl, _, (Stp.refl _ _).wk rfl⟩ fun a ha => (ha.more (ha.more (ha.more (ha.more ha.nil rfl) rfl) rfl) rfl)
      | false =>
       intro h; replace h := cF h
       have f170 := f130.stp (S141.tr (S148.tr (S151.tr S167))) rfl rfl
       refine WO.k1 trivial rfl rfl rfl rfl (rn_la (cs := [.int .i64 x19.1.In, .int .i64 x19.1.Out]) Try.isAgg43 Try.sizeOf43 rfl rfl rfl (haE f170.cells)) ?_
       have f171 := f131.stp (S141.tr (S148.tr (S151.tr S167))) rfl rfl
       refine WO.k1 trivial rfl rfl rfl rfl (rn_la (cs := [.int .i64 x25.1.Inputs, .int .i64 x25.1.Latches, .slice a25_0 x25.1.Next.length u25_0, .slice a25_1 x25.1.Gates.length u25_1, .slice a25_2 x25.1.Outs.length u25_2]) Try.isAgg27 Try.sizeOf27 rfl rfl rfl (haE f171.cells)) ?_
       have f172 := f152.stp S167 rfl rfl
       refine WO.k1 trivial rfl rfl rfl rfl (rn_la (cs := [.slice a59_0 x59.1.Next.length u59_0, .slice a59_1 x59.1.Out.length u59_1]) Try.isAgg46 Try.sizeOf46 rfl rfl rfl (haE f172.cells)) ?_
       obtain ⟨x74, hx74, h⟩ := Option.bind_eq_some_iff.mp h
       have f173 := f132.stp (S141.tr (S148.tr (S151.tr S167))) rfl rfl
       have f174 := f133.stp (S141.tr (S148.tr (S151.tr S167))) rfl rfl
       have f175 := f134.stp (S141.tr (S148.tr (S151.tr S167))) rfl rfl
       have f176 := f144.stp (S148.tr (S151.tr S167)) rfl rfl
       have f177 := f145.stp (S148.tr (S151.tr S167)) rfl rfl
       refine WO.call rfl rfl rfl rfl rfl rfl Try.call24 (i_CircuitMeets_ok (κ := fun b => mp [] 0 (K166 b)) (p0 := x19.1) (p1 := x25.1) (p2 := x59.1) (Sl.map f173.rdc (mp [] 0) rfl rfl) (Sl.map f174.rdc (mp [] 0) rfl rfl) (Sl.map f175.rdc (mp [] 0) rfl rfl) (Sl.map f176.rdc (mp [] 0) rfl rfl) (Sl.map f177.rdc (mp [] 0) rfl rfl) hx74) ?_
       rintro _ w178 ⟨k179, rfl, e180⟩
       obtain ⟨K181, S182, m183⟩ := Ent.mixed (l := []) (κ := K166) e180 25 rfl
       refine ⟨trivial, ?_⟩
       refine WO.pn 2 rfl ?_
       obtain rfl := Option.some.inj h
       exact WO.met _ trivial ⟨rfl, _, S182.wk rfl⟩ fun a ha => (ha.more (ha.more (ha.more (ha.more ha.nil rfl) rfl) rfl) rfl)
     rintro _ w185 _ ⟨rfl, K186, S187⟩
     have h := hK168
     refine WO.fin ?_
     refine DN.seq ?_
     revert h
     cases ht188 : p76 with
     | true =>
      intro h; replace h := cT h
      refine WC.ct rfl ?_
      refine WC.seq ?_
      refine WC.rs [(0, 2)] rfl ?_
      refine WO.pn 1 rfl ?_
      refine WO.fin ?_
      refine DN.seq ?_
      refine WC.ret ?_
      refine DN.retThen ?_
      have f189 := hE.stp (S5.tr (S17.tr (S24.tr (S28.tr (S32.tr (S36.tr (S48.tr (S56.tr (S59.tr (S69.tr (S85.tr (S107.tr (S127.tr (S141.tr (S148.tr (S151.tr (S167.tr S187))))))))))))))))) rfl rfl
      refine DN.res (l := [.tmp 2]) Try.results5 (res_tmp rfl rfl) rfl ?_
      obtain rfl := Option.some.inj h
      exact ⟨K186, rfl, f189⟩
     | false =>
      intro h; replace h := cF h
      refine WC.cf rfl ?_
      refine WC.skip ?_
      refine DN.seq ?_
      refine WC.seq ?_
      refine WC.rs [(0, 2), (1, 1), (2, 2)] rfl ?_
      refine WO.pn 1 rfl ?_
      obtain ⟨x78, hx78, h⟩ := Option.bind_eq_some_iff.mp h
      have f190 := f10.stp (S17.tr (S24.tr (S28.tr (S32.tr (S36.tr (S48.tr (S56.tr (S59.tr (S69.tr (S85.tr (S107.tr (S127.tr (S141.tr (S148.tr (S151.tr (S167.tr S187)))))))))))))))) rfl rfl
      refine WO.call rfl rfl rfl rfl rfl rfl Try.call26 (l_roll_ok (κ := fun b => mp [] 1 (K186 b)) (Sl.map f190 (mp [] 1) rfl rfl) hx78) ?_
      rintro _ w191 ⟨k192, a78_0, u78_0, b78, rfl, e193, f194, f195⟩
      obtain ⟨K196, S197, m198, z199⟩ := Ent.mixed0 (l := []) (κ := K186) e193 25 rfl
      refine ⟨trivial, ?_⟩
      have f200 := f194.mx z199
      have f201 := f195.mx m198 rfl (rfl : 25 + 3 = 28)
      refine WO.pn 1 rfl ?_
      refine WO.fin ?_
      refine DN.seq ?_
      refine WC.seq ?_
      refine WC.rs [(0, 1), (1, 2)] rfl ?_
      refine WO.bl0 (κ := K196) (E := (Ep.int .i64)) 29 rfl rfl rfl rfl rfl Try.underlying24 Tryinfo2 rfl fun a79 u79 w202 K203 S204 f205 => ⟨trivial, ?_⟩
      refine WO.pn 1 rfl ?_
      refine WO.fin ?_
      refine DN.seq ?_
      refine WC.seq ?_
      refine WC.seq ?_
      refine WC.rs [(0, 2), (1, 1), (2, 2)] rfl ?_
      refine WO.pn 1 rfl ?_
      obtain ⟨x81, hx81, h⟩ := Option.bind_eq_some_iff.mp h
      have f206 := f200.stp S204 rfl rfl
      have f207 := f201.stp S204 rfl rfl
      refine WO.call rfl rfl rfl rfl rfl rfl Try.call27 (l_dice_below_ok (κ := fun b => mp [(28, 2)] 0 (K203 b)) (p0 := x78) (Sl.map f206 (mp [(28, 2)] 0) rfl rfl) (f207.map (mp [(28, 2)] 0) rfl rfl) hx81) ?_
      rintro _ w208 ⟨k209, rfl, e210, f211⟩
      obtain ⟨K212, S213, m214⟩ := Ent.mixed (l := [(28, 2)]) (κ := K203) e210 30 rfl
      refine ⟨trivial, ?_⟩
      have f216 := f211.mx m214 rfl (rfl : 30 + 2 = 32)
      refine WO.pn 1 rfl ?_
      refine WO.fin ?_
      refine DN.seq ?_
      obtain ⟨q2, hq219, hK218⟩ := Option.bind_eq_some_iff.mp h
      clear h
      refine WC.meet (fun L w' => ∃ (κ' : Col) (s3 : (List Int) × Int × Int × Int) (las3_0 : Option Addr) (lus3_0 : Nat), L = [(4, .pointer (some ⟨b4, 0, none⟩)), (5, .pointer (some ⟨b5, 0, none⟩)), (10, .slice las3_0 s3.1.length lus3_0)] ∧ Stp [29, 32, 35] K212 w208 κ' w' ∧ Oc (Ep.int .i64) 2 κ' w' 29 las3_0 lus3_0 s3.1 ∧ Bc κ' w' 32 b78 86 [.slice a78_0 x78.b.length u78_0, .int .i64 s3.2.2.1, .int .u64 s3.2.2.2] ∧ q2 = Sum.inr s3) ?_ ?_
      ·
       refine WC.block ?_
       have f230 := f205.stp S213 rfl rfl
       refine WC.loop (fun k L w' => ∃ (κ' : Col) (s1 : (List Int) × Int × Int × Int) (las1_0 : Option Addr) (lus1_0 : Nat), L = [(4, .pointer (some ⟨b4, 0, none⟩)), (5, .pointer (some ⟨b5, 0, none⟩)), (9, .pointer (some ⟨b78, 0, none⟩)), (10, .slice las1_0 s1.1.length lus1_0), (11, .int .i64 s1.2.1)] ∧ Stp [29, 32, 35] K212 w208 κ' w' ∧ Oc (Ep.int .i64) 2 κ' w' 29 las1_0 lus1_0 s1.1 ∧ Bc κ' w' 32 b78 86 [.slice a78_0 x78.b.length u78_0, .int .i64 s1.2.2.1, .int .u64 s1.2.2.2] ∧ whileM (l_FnCircuit_b0 x78) k s1 = some q2) ⟨_, _, ⟨K212, ((([] : List Int) : (List Int)), (x81.1 : Int), (x81.2.1 : Int), (x81.2.2 : Int)), a79, u79, rfl, (Stp.refl _ _).wk rfl, f230, f216, hq219⟩, fun a ha => (ha.more (ha.more (ha.more (ha.more (ha.more ha.nil rfl) rfl) rfl) rfl) rfl)⟩ ?_
       rintro k _ w225 ⟨K226, s1, las1_0, lus1_0, rfl, S227, f228, f229, h⟩
       rcases k with _ | k
       ·
        cases h
       ·
        obtain ⟨o217, h, hk231⟩ := Option.bind_eq_some_iff.mp h; unfold l_FnCircuit_b0 at h
        refine WC.seq ?_
        refine WC.seq ?_
        refine WC.rs [(0, 2), (1, 2)] rfl ?_
        refine WO.pn 2 rfl ?_
        refine WO.fin ?_
        refine DN.seq ?_
        revert h
        cases ht232 : decide (0 < s1.2.1) with
        | true =>
         intro h; replace h := cT h
         refine WC.ct rfl ?_
         refine WC.skip ?_
         refine DN.seq ?_
         refine WC.seq ?_
         refine WC.block ?_
         refine WC.rs [(0, 2), (1, 2), (2, 1), (3, 1), (4, 1), (5, 2)] rfl ?_
         refine WO.pn 2 rfl ?_
         obtain ⟨x88, hx88, h⟩ := Option.bind_eq_some_iff.mp h
         have f233 := f206.stp (S213.tr S227) rfl rfl
         refine WO.call rfl rfl rfl rfl rfl rfl Try.call27 (l_dice_below_ok (κ := fun b => mp [(32, 2)] 0 (K226 b)) (p0 := (⟨x78.b, s1.2.2.1, s1.2.2.2⟩ : dice)) (Sl.map f233 (mp [(32, 2)] 0) rfl rfl) (f229.map (mp [(32, 2)] 0) rfl rfl) hx88) ?_
         rintro _ w234 ⟨k235, rfl, e236, f237⟩
         obtain ⟨K238, S239, m240⟩ := Ent.mixed (l := [(32, 2)]) (κ := K226) e236 33 rfl
         refine ⟨trivial, ?_⟩
         have f242 := f237.mx m240 rfl (rfl : 33 + 2 = 35)
         refine WO.bl (κ := K238) (E := (Ep.int .i64)) 36 [] (parts := [(0, .tmp 88)]) (cells := [.int .i64 x88.1]) (xs := ([x88.1] : List Int)) rfl rfl rfl rfl rfl rfl Try.underlying24 Tryinfo2 rfl rfl rfl rfl rfl rfl rfl rfl rfl rfl ⟨[.int .i64 x88.1], [], Zl K238 w234 [], Zl K238 w234 [], rfl, Zl.sp (l1 := []) (l2 := []) rfl, Zl.sr (l1 := []) (l2 := []), rfl, rfl⟩ fun a89 u89 w243 K244 S245 f246 => ⟨trivial, ?_⟩
         obtain ⟨x90, hx90, h⟩ := Option.bind_eq_some_iff.mp h
         have f247 := f228.stp (S239.tr S245) rfl rfl
         refine WO.app (κ := K244) (E := (Ep.int .i64)) 29 [] rfl rfl rfl rfl rfl rfl rfl rfl rfl Try.underlying24 Tryinfo2 rfl rfl rfl rfl f247 (Sl.srcP (pu_int _) f246.rdc) sy_false hx90 rfl fun a90 u90 w248 K249 S250 f251 => ⟨trivial, ?_⟩
         refine WO.pn 1 rfl ?_
         refine WO.fin ?_
         refine DN.block ?_
         refine DN.seq ?_
         refine WC.rs [(0, 2), (1, 2), (2, 2)] rfl ?_
         refine WO.pn 3 rfl ?_
         refine WO.fin ?_
         have f252 := f242.stp (S245.tr S250) rfl rfl
         obtain rfl := Option.some.inj h
         refine DN.round fun a ha => ?_
         exact ⟨k, _, Nat.lt_succ_self _, ⟨(fun b => ren [(35, 32)] (K249 b)), ((x90 : (List Int)), ((IntKind.i64.wrap (s1.2.1 - 1)) : Int), (x88.2.1 : Int), (x88.2.2 : Int)), a90, u90, rfl, (Stp.ren ((S227.tr (S239.tr (S245.tr S250))).wk rfl) [(35, 32)] rfl), (f251.map (ren [(35, 32)]) rfl rfl), (f252.map (ren [(35, 32)]) rfl rfl), hk231⟩, (ha.more (ha.more (ha.more (ha.more (ha.more ha.nil rfl) rfl) rfl) rfl) rfl)⟩
        | false =>
         intro h; replace h := cF h
         refine WC.cf rfl ?_
         refine WC.exit ?_
         refine DN.exitThen ?_
         refine DN.exitThen ?_
         obtain rfl := Option.some.inj h
         have h := hk231
         refine DN.hit ?_
         obtain rfl := Option.some.inj h
         exact DN.meet _ ⟨K226, ((s1.1 : (List Int)), (s1.2.1 : Int), (s1.2.2.1 : Int), (s1.2.2.2 : Int)), las1_0, lus1_0, rfl, S227.wk rfl, f228, f229, rfl⟩ fun a ha => (ha.more (ha.more (ha.more ha.nil rfl) rfl) rfl)
      rintro _ w220 ⟨K221, s3, las3_0, lus3_0, rfl, S222, f223, f224, rfl⟩
      have h := hK218
      dsimp only [aft] at h
      refine DN.seq ?_
      refine WC.seq ?_
      refine WC.rs [(0, 1), (1, 2), (2, 1), (3, 2)] rfl ?_
      have f253 := f131.stp (S141.tr (S148.tr (S151.tr (S167.tr (S187.tr (S197.tr (S204.tr (S213.tr S222)))))))) rfl rfl
      refine WO.k1 trivial rfl rfl rfl rfl (rn_la (cs := [.int .i64 x25.1.Inputs, .int .i64 x25.1.Latches, .slice a25_0 x25.1.Next.length u25_0, .slice a25_1 x25.1.Gates.length u25_1, .slice a25_2 x25.1.Outs.length u25_2]) Try.isAgg27 Try.sizeOf27 rfl rfl rfl (haE f253.cells)) ?_
      refine WO.pn 1 rfl ?_
      obtain ⟨x93, hx93, h⟩ := Option.bind_eq_some_iff.mp h
      have f254 := f132.stp (S141.tr (S148.tr (S151.tr (S167.tr (S187.tr (S197.tr (S204.tr (S213.tr S222)))))))) rfl rfl
      have f255 := f133.stp (S141.tr (S148.tr (S151.tr (S167.tr (S187.tr (S197.tr (S204.tr (S213.tr S222)))))))) rfl rfl
      have f256 := f134.stp (S141.tr (S148.tr (S151.tr (S167.tr (S187.tr (S197.tr (S204.tr (S213.tr S222)))))))) rfl rfl
      refine WO.call rfl rfl rfl rfl rfl rfl Try.call28 (i_OutsOver_ok (κ := fun b => mp [] 0 (K221 b)) (p0 := x25.1) (Sl.map f254.rdc (mp [] 0) rfl rfl) (Sl.map f255.rdc (mp [] 0) rfl rfl) (Sl.map f256.rdc (mp [] 0) rfl rfl) (Sl.map f223.rdc (mp [] 0) rfl rfl) hx93) ?_
      rintro _ w257 ⟨k258, a93_0, u93_0, rfl, e259, f260⟩
      obtain ⟨K261, S262, m263⟩ := Ent.mixed (l := []) (κ := K221) e259 33 rfl
      refine ⟨trivial, ?_⟩
      have f265 := f260.mx (no_int _) m263 rfl (rfl : 33 + 2 = 35)
      refine WO.pn 1 rfl ?_
      refine WO.fin ?_
      refine DN.seq ?_
      refine WC.seq ?_
      refine WC.seq ?_
      refine WC.rs [(0, 2), (1, 2), (2, 2), (3, 2), (4, 2)] rfl ?_
      refine WO.pn 1 rfl ?_
      refine WO.k2 rfl rfl rfl rfl (rn_len Try.runUnderlying24 rfl rfl) ?_
      refine WO.pn 1 rfl ?_
      refine WO.k2 rfl rfl rfl rfl (rn_len Try.runUnderlying24 rfl rfl) ?_
      refine WO.pn 1 rfl ?_
      refine WO.fin ?_
      refine DN.seq ?_
      revert h
      cases ht266 : ((x93.length : Int) != (s3.1.length : Int)) with
      | true =>
       intro h; replace h := cT h
       refine WC.ct rfl ?_
       refine WC.seq ?_
       refine WC.rs [(0, 2)] rfl ?_
       refine WO.pn 1 rfl ?_
       refine WO.fin ?_
       refine DN.seq ?_
       refine WC.ret ?_
       refine DN.retThen ?_
       have f267 := hE.stp (S5.tr (S17.tr (S24.tr (S28.tr (S32.tr (S36.tr (S48.tr (S56.tr (S59.tr (S69.tr (S85.tr (S107.tr (S127.tr (S141.tr (S148.tr (S151.tr (S167.tr (S187.tr (S197.tr (S204.tr (S213.tr (S222.tr S262)))))))))))))))))))))) rfl rfl
       refine DN.res (l := [.tmp 2]) Try.results5 (res_tmp rfl rfl) rfl ?_
       obtain rfl := Option.some.inj h
       exact ⟨K261, rfl, f267⟩
      | false =>
       intro h; replace h := cF h
       refine WC.cf rfl ?_
       refine WC.skip ?_
       refine DN.seq ?_
       refine WC.seq ?_
       refine WC.rs [(0, 2)] rfl ?_
       refine WO.pn 1 rfl ?_
       refine WO.fin ?_
       refine DN.seq ?_
       refine WC.seq ?_
       refine WC.seq ?_
       refine WC.rs [(0, 2)] rfl ?_
       refine WO.pn 1 rfl ?_
       refine WO.fin ?_
       refine DN.seq ?_
       have hN268 : (s3.1.length : Int) ≤ 9223372036854775807 := f223.len_le
       obtain ⟨q5, hq270, hK269⟩ := Option.bind_eq_some_iff.mp h
       clear h
       refine WC.meet (fun L w' => ∃ (κ' : Col) (s6 : Int), L = [] ∧ Stp [] K261 w257 κ' w' ∧ q5 = Sum.inr s6) ?_ ?_
       ·
        refine WC.block ?_
        refine WC.loop (fun k L w' => ∃ (κ' : Col) (v14 : Int) (s4 : Int), L = [(4, .pointer (some ⟨b4, 0, none⟩)), (10, .slice las3_0 s3.1.length lus3_0), (12, .slice a93_0 x93.length u93_0), (13, .int .i64 s4), (14, .int .i64 v14)] ∧ Stp [] K261 w257 κ' w' ∧ 0 ≤ v14 ∧ Int.toNat ((s3.1.length : Int) - v14) = k ∧ cntM (l_FnCircuit_b2 x19 s3 x93) k v14 s4 = some q5) ⟨_, _, ⟨K261, 0, (0 : Int), rfl, (Stp.refl _ _).wk rfl, (by decide), (by simp), hq270⟩, fun a ha => (ha.more (ha.more (ha.more (ha.more (ha.more ha.nil rfl) rfl) rfl) rfl) rfl)⟩ ?_
        rintro k _ w274 ⟨K275, v14, s4, rfl, S276, hj268, hJ268, h⟩
        rcases k with _ | k
        ·
         have hk277 := h; obtain ⟨o268, h⟩ := ex_eq (Sum.inr (Sum.inl s4) : Bool ⊕ ((Int) ⊕ (Int)))
         have hc268 : decide (v14 < (s3.1.length : Int)) = false := decide_eq_false (by omega)
         refine WC.seq ?_
         refine WC.seq ?_
         refine WC.rs [(0, 2), (1, 2), (2, 2), (3, 2)] rfl ?_
         refine WO.pn 2 rfl ?_
         refine WO.k2 rfl rfl rfl rfl (rn_len Try.runUnderlying24 rfl rfl) ?_
         refine WO.pn 1 rfl ?_
         refine WO.fin ?_
         refine DN.seq ?_
         refine WC.cf' rfl hc268 ?_
         refine WC.exit ?_
         refine DN.exitThen ?_
         refine DN.exitThen ?_
         obtain rfl := Option.some.inj h
         have h := hk277
         refine DN.hit ?_
         obtain rfl := Option.some.inj h
         exact DN.meet _ ⟨K275, (s4 : Int), rfl, S276.wk rfl, rfl⟩ fun a ha => ha.nil
        ·
         obtain ⟨o268, h, hk277⟩ := Option.bind_eq_some_iff.mp h; unfold l_FnCircuit_b2 at h
         have hc268 : decide (v14 < (s3.1.length : Int)) = true := decide_eq_true (by omega)
         refine WC.seq ?_
         refine WC.seq ?_
         refine WC.rs [(0, 2), (1, 2), (2, 2), (3, 2)] rfl ?_
         refine WO.pn 2 rfl ?_
         refine WO.k2 rfl rfl rfl rfl (rn_len Try.runUnderlying24 rfl rfl) ?_
         refine WO.pn 1 rfl ?_
         refine WO.fin ?_
         refine DN.seq ?_
         refine WC.ct' rfl hc268 ?_
         refine WC.skip ?_
         refine DN.seq ?_
         refine WC.seq ?_
         refine WC.block ?_
         refine WC.seq ?_
         refine WC.seq ?_
         refine WC.rx (κ := K275) [0, 7, 9, 29, 35] none [(0, 2), (1, 2), (2, 2), (4, 2), (6, 2), (9, 2), (10, 2), (11, 2), (3, 0), (5, 0), (7, 2), (8, 0), (12, 0), (13, 2), (14, 0), (15, 2)] [] (by kernel_rfl) (by kernel_rfl) fun w279 S278 => ?_
         refine WO.pn 2 rfl ?_
         obtain ⟨x107, hx107, h⟩ := Option.bind_eq_some_iff.mp h
         refine WO.k2 rfl rfl rfl rfl (rn_index f265.rdc hx107 Try.runUnderlying24 Try.sizeOf2 rfl rfl rfl rfl) ?_
         refine WO.k2 rfl rfl rfl rfl (rn_fieldAddr Try.runUnderlying46 rfl Try.sizeOf44 rfl rfl) ?_
         refine WO.pn 3 rfl ?_
         obtain ⟨x116, hx116, h⟩ := Option.bind_eq_some_iff.mp h
         refine WO.k2 rfl rfl rfl rfl (rn_index f223.rdc hx116 Try.runUnderlying24 Try.sizeOf2 rfl rfl rfl rfl) ?_
         have f280 := f265.stp (S276.tr S278) rfl rfl
         refine WO.k0 rfl rfl rfl rfl (rn_ld Try.isAgg2 rfl rfl (hvC (f280.rdc.gInt hx107) rfl)) ?_
         have f281 := f62.stp (S69.tr (S85.tr (S107.tr (S127.tr (S141.tr (S148.tr (S151.tr (S167.tr (S187.tr (S197.tr (S204.tr (S213.tr (S222.tr (S262.tr (S276.tr S278))))))))))))))) rfl rfl
         refine WO.k0 rfl rfl rfl rfl (rn_ld Try.isAgg44 rfl rfl (hvC (f281.ld 1 rfl rfl) rfl)) ?_
         obtain ⟨x112, hx112, h⟩ := Option.bind_eq_some_iff.mp h
         refine WO.k2 rfl rfl rfl rfl (rn_index f64.rdc hx112 Try.runUnderlying44 Try.sizeOf24 rfl rfl rfl rfl) ?_
         have f282 := f64.stp (S69.tr (S85.tr (S107.tr (S127.tr (S141.tr (S148.tr (S151.tr (S167.tr (S187.tr (S197.tr (S204.tr (S213.tr (S222.tr (S262.tr (S276.tr S278))))))))))))))) rfl rfl
         obtain ⟨ax112, ux112, f283, hl284⟩ := f282.rdc.gSl hx112
         refine WO.k0 rfl rfl rfl rfl (rn_ld Try.isAgg24 rfl rfl (hvC hl284 rfl)) ?_
         have f285 := f223.stp (S262.tr (S276.tr S278)) rfl rfl
         refine WO.k0 rfl rfl rfl rfl (rn_ld Try.isAgg2 rfl rfl (hvC (f285.rdc.gInt hx116) rfl)) ?_
         obtain ⟨x118, hx118, h⟩ := Option.bind_eq_some_iff.mp h
         refine WO.k2 rfl rfl rfl rfl (rn_index f283 hx118 Try.runUnderlying24 Try.sizeOf2 rfl rfl rfl rfl) ?_
         refine WO.k0 rfl rfl rfl rfl (rn_ld Try.isAgg2 rfl rfl (hvC (f283.gInt hx118) rfl)) ?_
         refine WO.pn 1 rfl ?_
         refine WO.nx ?_
         refine WO.fin ?_
         refine DN.seq ?_
         revert h
         cases ht286 : (x107 != x118) with
         | true =>
          intro h; replace h := cT h
          refine WC.ct rfl ?_
          refine WC.seq ?_
          refine WC.rs [(0, 2)] rfl ?_
          refine WO.pn 1 rfl ?_
          refine WO.fin ?_
          refine DN.seq ?_
          refine WC.ret ?_
          refine DN.retThen ?_
          refine DN.retBlock ?_
          refine DN.retThen ?_
          refine DN.retThen ?_
          obtain rfl := Option.some.inj h
          obtain rfl := Option.some.inj hk277
          have h := hK269
          dsimp only [aft] at h
          refine DN.retBlock ?_
          refine DN.retMeet ?_
          refine DN.retThen ?_
          have f287 := hE.stp (S5.tr (S17.tr (S24.tr (S28.tr (S32.tr (S36.tr (S48.tr (S56.tr (S59.tr (S69.tr (S85.tr (S107.tr (S127.tr (S141.tr (S148.tr (S151.tr (S167.tr (S187.tr (S197.tr (S204.tr (S213.tr (S222.tr (S262.tr (S276.tr S278)))))))))))))))))))))))) rfl rfl
          refine DN.res (l := [.tmp 2]) Try.results5 (res_tmp rfl rfl) rfl ?_
          obtain rfl := Option.some.inj h
          exact ⟨K275, rfl, f287⟩
         | false =>
          intro h; replace h := cF h
          refine WC.cf rfl ?_
          refine WC.skip ?_
          refine DN.seq ?_
          refine WC.rx (κ := K275) [0, 6, 9, 29] none [(0, 2), (2, 2), (5, 2), (6, 2), (7, 2), (1, 0), (3, 2), (4, 0), (8, 0), (9, 2), (10, 0), (11, 2)] [] (by kernel_rfl) (by kernel_rfl) fun w289 S288 => ?_
          refine WO.k2 rfl rfl rfl rfl (rn_fieldAddr Try.runUnderlying46 rfl Try.sizeOf44 rfl rfl) ?_
          refine WO.pn 3 rfl ?_
          obtain ⟨x128, hx128, h⟩ := Option.bind_eq_some_iff.mp h
          refine WO.k2 rfl rfl rfl rfl (rn_index f285.rdc hx128 Try.runUnderlying24 Try.sizeOf2 rfl rfl rfl rfl) ?_
          have f290 := f281.stp S288 rfl rfl
          refine WO.k0 rfl rfl rfl rfl (rn_ld Try.isAgg44 rfl rfl (hvC (f290.ld 0 rfl rfl) rfl)) ?_
          obtain ⟨x124, hx124, h⟩ := Option.bind_eq_some_iff.mp h
          refine WO.k2 rfl rfl rfl rfl (rn_index f63.rdc hx124 Try.runUnderlying44 Try.sizeOf24 rfl rfl rfl rfl) ?_
          have f291 := f63.stp (S69.tr (S85.tr (S107.tr (S127.tr (S141.tr (S148.tr (S151.tr (S167.tr (S187.tr (S197.tr (S204.tr (S213.tr (S222.tr (S262.tr (S276.tr (S278.tr S288)))))))))))))))) rfl rfl
          obtain ⟨ax124, ux124, f292, hl293⟩ := f291.rdc.gSl hx124
          refine WO.k0 rfl rfl rfl rfl (rn_ld Try.isAgg24 rfl rfl (hvC hl293 rfl)) ?_
          have f294 := f285.stp S288 rfl rfl
          refine WO.k0 rfl rfl rfl rfl (rn_ld Try.isAgg2 rfl rfl (hvC (f294.rdc.gInt hx128) rfl)) ?_
          obtain ⟨x130, hx130, h⟩ := Option.bind_eq_some_iff.mp h
          refine WO.k2 rfl rfl rfl rfl (rn_index f292 hx130 Try.runUnderlying24 Try.sizeOf2 rfl rfl rfl rfl) ?_
          refine WO.k0 rfl rfl rfl rfl (rn_ld Try.isAgg2 rfl rfl (hvC (f292.gInt hx130) rfl)) ?_
          refine WO.pn 1 rfl ?_
          refine WO.nx ?_
          refine WO.fin ?_
          refine DN.block ?_
          refine DN.seq ?_
          refine WC.rs [(0, 2), (1, 2), (2, 2)] rfl ?_
          refine WO.pn 3 rfl ?_
          refine WO.fin ?_
          have hw268 : IntKind.wrap .i64 (v14 + 1) = v14 + 1 := wr1 hj268 (of_decide_eq_true hc268) hN268
          rw [hw268]
          have hc268 := of_decide_eq_true hc268
          obtain rfl := Option.some.inj h
          refine DN.round fun a ha => ?_
          exact ⟨k, _, Nat.lt_succ_self _, ⟨K275, v14 + 1, (x130 : Int), rfl, (S276.tr (S278.tr S288)).wk rfl, by omega, by omega, hk277⟩, (ha.more (ha.more (ha.more (ha.more (ha.more ha.nil rfl) rfl) rfl) rfl) rfl)⟩
       rintro _ w271 ⟨K272, s6, rfl, S273, rfl⟩
       have h := hK269
       dsimp only [aft] at h
       refine DN.seq ?_
       refine WC.seq ?_
       refine WC.rs [(0, 2)] rfl ?_
       refine WO.pn 1 rfl ?_
       refine WO.fin ?_
       refine DN.seq ?_
       refine WC.ret ?_
       have f295 := hE.stp (S5.tr (S17.tr (S24.tr (S28.tr (S32.tr (S36.tr (S48.tr (S56.tr (S59.tr (S69.tr (S85.tr (S107.tr (S127.tr (S141.tr (S148.tr (S151.tr (S167.tr (S187.tr (S197.tr (S204.tr (S213.tr (S222.tr (S262.tr S273))))))))))))))))))))))) rfl rfl
       refine DN.res (l := [.tmp 2]) Try.results5 (res_tmp rfl rfl) rfl ?_
       obtain rfl := Option.some.inj h
       exact ⟨K272, rfl, f295⟩

end Go.Proofs.Ythjkonkcdfdfaaa
