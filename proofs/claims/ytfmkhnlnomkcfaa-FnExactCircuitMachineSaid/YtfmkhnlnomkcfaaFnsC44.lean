/- The walks, part 4. By program. -/
import Derived.Test.YtfmkhnlnomkcfaaFnsC43
set_option linter.unusedVariables false
set_option linter.unusedSimpArgs false
namespace Go.Proofs.Ytfmkhnlnomkcfaa
open Go Go.Wk Go.Proofs
set_option maxRecDepth 100000
set_option maxHeartbeats 1000000

/- loop.example/g00869/laws.FnExactCircuitMachine -/
theorem l_FnExactCircuitMachine_ok {w : World} {κ : Col} {p0 : Sig} {a1_2 : Option Addr} {u1_2 : Nat} {a1_3 : Option Addr} {u1_3 : Nat} {a1_4 : Option Addr} {u1_4 : Nat} {p1 : Circuit} (g1_2 : Rd (Rp.int .i64) κ w 0 a1_2 u1_2 p1.Next) (g1_3 : Rd Gate.rp κ w 0 a1_3 u1_3 p1.Gates) (g1_4 : Rd (Rp.int .i64) κ w 0 a1_4 u1_4 p1.Outs) {r : Bool} (h : l_FnExactCircuitMachine p0 p1 = some r) : Ret Try.prog 4 [.agg #[.int .i64 p0.In, .int .i64 p0.Out], .agg #[.int .i64 p1.Inputs, .int .i64 p1.Latches, .slice a1_2 p1.Next.length u1_2, .slice a1_3 p1.Gates.length u1_3, .slice a1_4 p1.Outs.length u1_4]] w (fun v w' => ∃ (κ' : Col), v = .bool r ∧ Ent κ w κ' w') := by
 unfold l_FnExactCircuitMachine at h
 refine Ret.enter Try.func4 rfl Try.ntmps4 rfl ?_
 dsimp only [envOf]
 have hE := Ent.refl κ w
 refine WC.seq ?_
 refine WC.rs [(0, 1), (1, 1), (2, 2)] rfl ?_
 refine WO.box (κ := κ) 2 rfl rfl rfl rfl rfl rfl rfl fun b2 w1 K2 S3 f4 => ⟨trivial, ?_⟩
 refine WO.box (κ := K2) 3 rfl rfl rfl rfl rfl rfl rfl fun b3 w5 K6 S7 f8 => ⟨trivial, ?_⟩
 refine WO.pn 1 rfl ?_
 refine WO.fin ?_
 refine DN.seq ?_
 refine WC.seq ?_
 refine WC.rs [(0, 2)] rfl ?_
 refine WO.pn 1 rfl ?_
 refine WO.fin ?_
 refine DN.seq ?_
 refine WC.seq ?_
 refine WC.rs [(0, 1), (1, 2), (2, 1), (3, 2)] rfl ?_
 refine WO.k1 trivial rfl rfl rfl rfl (rn_la (cs := [.int .i64 p1.Inputs, .int .i64 p1.Latches, .slice a1_2 p1.Next.length u1_2, .slice a1_3 p1.Gates.length u1_3, .slice a1_4 p1.Outs.length u1_4]) Try.isAgg47 Try.sizeOf47 rfl rfl rfl (haE f8.cells)) ?_
 refine WO.pn 1 rfl ?_
 obtain ⟨x18, hx18, h⟩ := Option.bind_eq_some_iff.mp h
 have f9 := g1_2.stp (S3.tr S7) rfl rfl
 have f10 := g1_3.stp (S3.tr S7) rfl rfl
 have f11 := g1_4.stp (S3.tr S7) rfl rfl
 refine WO.call rfl rfl rfl rfl rfl rfl Try.call23 (l_szCircuit_ok (κ := fun b => mp [] 0 (K6 b)) (p0 := p1) (Sl.map f9 (mp [] 0) rfl rfl) (Sl.map f10 (mp [] 0) rfl rfl) (Sl.map f11 (mp [] 0) rfl rfl) hx18) ?_
 rintro _ w12 ⟨k13, rfl, e14⟩
 obtain ⟨K15, S16, m17⟩ := Ent.mixed (l := []) (κ := K6) e14 4 rfl
 refine ⟨trivial, ?_⟩
 refine WO.pn 1 rfl ?_
 refine WO.fin ?_
 refine DN.seq ?_
 refine WC.seq ?_
 refine WC.seq ?_
 refine WC.rs [(0, 2), (1, 2)] rfl ?_
 refine WO.pn 2 rfl ?_
 refine WO.fin ?_
 refine DN.seq ?_
 revert h
 cases ht19 : decide (x18 < 0) with
 | true =>
  intro h; replace h := cT h
  refine WC.ct rfl ?_
  refine WC.seq ?_
  refine WC.rs [(0, 2)] rfl ?_
  refine WO.pn 1 rfl ?_
  refine WO.fin ?_
  refine DN.seq ?_
  refine WC.ret ?_
  refine DN.retThen ?_
  have f20 := hE.stp (S3.tr (S7.tr S16)) rfl rfl
  refine DN.res (l := [.tmp 4]) Try.results4 (res_tmp rfl rfl) rfl ?_
  obtain rfl := Option.some.inj h
  exact ⟨K15, rfl, f20⟩
 | false =>
  intro h; replace h := cF h
  refine WC.cf rfl ?_
  refine WC.skip ?_
  refine DN.seq ?_
  refine WC.seq ?_
  obtain ⟨x23, hx23, h⟩ := Option.bind_eq_some_iff.mp h
  obtain ⟨x25, hx25, h⟩ := Option.bind_eq_some_iff.mp h
  obtain ⟨x26, hx26, h⟩ := Option.bind_eq_some_iff.mp h
  refine WC.meet (fun L w' => ∃ (κ' : Col) (b6 : Nat) (lar24_0 : Option Addr) (lur24_0 : Nat) (lar24_1 : Option Addr) (lur24_1 : Nat), L = [(2, .pointer (some ⟨b2, 0, none⟩)), (3, .pointer (some ⟨b3, 0, none⟩)), (6, .pointer (some ⟨b6, 0, none⟩)), (7, .bool x26.2)] ∧ Stp [6, 8, 13, 15, 16, 17] K15 w12 κ' w' ∧ Oc (Ep.own (Ep.int .i64) 2) 22 κ' w' 6 lar24_0 lur24_0 x26.1.Next ∧ Oc (Ep.own (Ep.int .i64) 2) 22 κ' w' 7 lar24_1 lur24_1 x26.1.Out ∧ Bc κ' w' 8 b6 50 [.slice lar24_0 x26.1.Next.length lur24_0, .slice lar24_1 x26.1.Out.length lur24_1]) ?_ ?_
  ·
   refine WC.rxt (κ := K15) [2, 3] none (by kernel_rfl) fun w28 S29 => ?_
   refine WA.seg (fuel := 9) [(0, 0), (2, 0)] (by kernel_rfl) (by kernel_rfl) rfl ?_
   have f30 := f4.stp (S7.tr (S16.tr S29)) rfl rfl
   refine WO.k0 rfl rfl rfl rfl (rn_la (cs := [.int .i64 p0.In, .int .i64 p0.Out]) Try.isAgg44 Try.sizeOf44 rfl rfl rfl (haC f30.cells rfl)) ?_
   have f31 := f8.stp (S16.tr S29) rfl rfl
   refine WO.k0 rfl rfl rfl rfl (rn_la (cs := [.int .i64 p1.Inputs, .int .i64 p1.Latches, .slice a1_2 p1.Next.length u1_2, .slice a1_3 p1.Gates.length u1_3, .slice a1_4 p1.Outs.length u1_4]) Try.isAgg47 Try.sizeOf47 rfl rfl rfl (haC f31.cells rfl)) ?_
   refine WO.wa ?_
   refine WA.fork2 (fuel := 8) 1 8 (by kernel_rfl) rfl ?_ ?_
   ·
    refine WO.call rfl rfl rfl rfl rfl rfl Try.call25 (l_toSig_ok (κ := fun b => mp [] 0 (K15 b)) (p0 := p0) hx23) ?_
    rintro _ w32 ⟨k33, rfl, e34⟩
    obtain ⟨K35, S36, m37⟩ := Ent.mixed (l := []) (κ := K15) e34 6 rfl
    refine ⟨(S36.cl rfl), ?_⟩
    refine WO.wa ?_
    refine WA.fork2 (fuel := 7) 3 8 (by kernel_rfl) rfl ?_ ?_
    ·
     have f39 := f9.stp (S16.tr (S29.tr S36)) rfl rfl
     have f40 := f10.stp (S16.tr (S29.tr S36)) rfl rfl
     have f41 := f11.stp (S16.tr (S29.tr S36)) rfl rfl
     refine WO.call rfl rfl rfl rfl rfl rfl Try.call26 (l_toCircuit_ok (κ := fun b => mp [] 0 (K35 b)) (p0 := p1) (Sl.map f39 (mp [] 0) rfl rfl) (Sl.map f40 (mp [] 0) rfl rfl) (Sl.map f41 (mp [] 0) rfl rfl) hx25) ?_
     rintro _ w42 ⟨k43, a25_0, u25_0, a25_1, u25_1, a25_2, u25_2, rfl, e44, f45, f46, f47⟩
     obtain ⟨K48, S49, m50⟩ := Ent.mixed (l := []) (κ := K35) e44 8 rfl
     refine ⟨((S36.tr S49).cl rfl), ?_⟩
     have f52 := f45.mx (no_int _) m50 rfl (rfl : 8 + 2 = 10)
     have f53 := f46.mx Gate.no159 m50 rfl (rfl : 8 + 3 = 11)
     have f54 := f47.mx (no_int _) m50 rfl (rfl : 8 + 4 = 12)
     refine WO.wa ?_
     refine WA.fork2 (fuel := 6) 4 8 (by kernel_rfl) rfl ?_ ?_
     ·
      refine WO.call rfl rfl rfl rfl rfl rfl Try.call24 (s_CircuitMachine_ok (κ := fun b => mp [] 0 (K48 b)) (p0 := x23) (p1 := x25) (Sl.map f52.rdc (mp [] 0) rfl rfl) (Sl.map f53.rdc (mp [] 0) rfl rfl) (Sl.map f54.rdc (mp [] 0) rfl rfl) hx26) ?_
      rintro _ w55 ⟨k56, a26_0, u26_0, a26_1, u26_1, rfl, e57, f58, f59⟩
      obtain ⟨K60, S61, m62⟩ := Ent.mixed (l := []) (κ := K48) e57 13 rfl
      refine ⟨((S36.tr (S49.tr S61)).cl rfl), ?_⟩
      have f64 := f58.mx (no_own (no_int _) _) m62 rfl (rfl : 13 + 2 = 15)
      have f65 := f59.mx (no_own (no_int _) _) m62 rfl (rfl : 13 + 3 = 16)
      refine WO.wa ?_
      refine WA.seg (fuel := 0) [(5, 2), (6, 2), (7, 2), (8, 1), (9, 1), (10, 2)] (by kernel_rfl) (by kernel_rfl) rfl ?_
      refine WO.pn 3 rfl ?_
      refine WO.alloc (κ := K60) 17 rfl rfl rfl rfl rfl Try.zeroValue50 rfl fun b6 w66 K67 S68 f69 => ⟨((S36.tr (S49.tr (S61.tr S68))).cl rfl), ?_⟩
      refine WO.stB0 (κ := K67) 17 (vc := [.slice a26_0 x26.1.Next.length u26_0, .slice a26_1 x26.1.Out.length u26_1]) rfl rfl rfl rfl rfl rfl rfl Try.sizeOf50 rfl rfl f69 rfl fun w70 S71 f72 => ⟨((S36.tr (S49.tr (S61.tr (S68.tr S71)))).cl rfl), ?_⟩
      refine WO.pn 1 rfl ?_
      refine WO.wa ?_
      refine WA.last [] (by kernel_rfl) (by kernel_rfl) rfl ?_
      refine WO.fin ?_
      have f73 := f64.stp (S68.tr S71) rfl rfl
      have f74 := f65.stp (S68.tr S71) rfl rfl
      exact DN.meet _ ⟨(fun b => ren [(15, 6), (16, 7), (17, 8)] (K67 b)), b6, a26_0, u26_0, a26_1, u26_1, rfl, (Stp.ren ((S29.tr (S36.tr (S49.tr (S61.tr (S68.tr S71))))).wk rfl) [(15, 6), (16, 7), (17, 8)] rfl), (f73.map (ren [(15, 6), (16, 7), (17, 8)]) rfl rfl), (f74.map (ren [(15, 6), (16, 7), (17, 8)]) rfl rfl), (f72.map (ren [(15, 6), (16, 7), (17, 8)]) rfl rfl)⟩ fun a ha => (ha.more (ha.more (ha.more (ha.more ha.nil rfl) rfl) rfl) rfl)
     ·
      refine WO.alloc (κ := K48) 13 rfl rfl rfl rfl rfl Try.zeroValue50 rfl fun b6 w75 K76 S77 f78 => ⟨((S36.tr (S49.tr S77)).cl rfl), ?_⟩
      refine WO.wa ?_
      refine WA.seg (fuel := 0) [(4, 1), (5, 2), (6, 2), (7, 2), (9, 1), (10, 2)] (by kernel_rfl) (by kernel_rfl) rfl ?_
      have f79 := f52.stp S77 rfl rfl
      have f80 := f53.stp S77 rfl rfl
      have f81 := f54.stp S77 rfl rfl
      refine WO.call rfl rfl rfl rfl rfl rfl Try.call24 (s_CircuitMachine_ok (κ := fun b => mp [] 0 (K76 b)) (p0 := x23) (p1 := x25) (Sl.map f79.rdc (mp [] 0) rfl rfl) (Sl.map f80.rdc (mp [] 0) rfl rfl) (Sl.map f81.rdc (mp [] 0) rfl rfl) hx26) ?_
      rintro _ w82 ⟨k83, a26_0, u26_0, a26_1, u26_1, rfl, e84, f85, f86⟩
      obtain ⟨K87, S88, m89⟩ := Ent.mixed (l := []) (κ := K76) e84 14 rfl
      refine ⟨((S36.tr (S49.tr (S77.tr S88))).cl rfl), ?_⟩
      have f91 := f85.mx (no_own (no_int _) _) m89 rfl (rfl : 14 + 2 = 16)
      have f92 := f86.mx (no_own (no_int _) _) m89 rfl (rfl : 14 + 3 = 17)
      refine WO.pn 3 rfl ?_
      have f93 := f78.stp S88 rfl rfl
      refine WO.stB0 (κ := K87) 13 (vc := [.slice a26_0 x26.1.Next.length u26_0, .slice a26_1 x26.1.Out.length u26_1]) rfl rfl rfl rfl rfl rfl rfl Try.sizeOf50 rfl rfl f93 rfl fun w94 S95 f96 => ⟨((S36.tr (S49.tr (S77.tr (S88.tr S95)))).cl rfl), ?_⟩
      refine WO.pn 1 rfl ?_
      refine WO.wa ?_
      refine WA.last [] (by kernel_rfl) (by kernel_rfl) rfl ?_
      refine WO.fin ?_
      have f97 := f91.stp S95 rfl rfl
      have f98 := f92.stp S95 rfl rfl
      exact DN.meet _ ⟨(fun b => ren [(16, 6), (17, 7), (13, 8)] (K87 b)), b6, a26_0, u26_0, a26_1, u26_1, rfl, (Stp.ren ((S29.tr (S36.tr (S49.tr (S77.tr (S88.tr S95))))).wk rfl) [(16, 6), (17, 7), (13, 8)] rfl), (f97.map (ren [(16, 6), (17, 7), (13, 8)]) rfl rfl), (f98.map (ren [(16, 6), (17, 7), (13, 8)]) rfl rfl), (f96.map (ren [(16, 6), (17, 7), (13, 8)]) rfl rfl)⟩ fun a ha => (ha.more (ha.more (ha.more (ha.more ha.nil rfl) rfl) rfl) rfl)
    ·
     refine WO.alloc (κ := K35) 8 rfl rfl rfl rfl rfl Try.zeroValue50 rfl fun b6 w99 K100 S101 f102 => ⟨((S36.tr S101).cl rfl), ?_⟩
     refine WO.wa ?_
     refine WA.seg (fuel := 0) [(3, 1), (4, 1), (5, 2), (6, 2), (7, 2), (9, 1), (10, 2)] (by kernel_rfl) (by kernel_rfl) rfl ?_
     have f103 := f9.stp (S16.tr (S29.tr (S36.tr S101))) rfl rfl
     have f104 := f10.stp (S16.tr (S29.tr (S36.tr S101))) rfl rfl
     have f105 := f11.stp (S16.tr (S29.tr (S36.tr S101))) rfl rfl
     refine WO.call rfl rfl rfl rfl rfl rfl Try.call26 (l_toCircuit_ok (κ := fun b => mp [] 0 (K100 b)) (p0 := p1) (Sl.map f103 (mp [] 0) rfl rfl) (Sl.map f104 (mp [] 0) rfl rfl) (Sl.map f105 (mp [] 0) rfl rfl) hx25) ?_
     rintro _ w106 ⟨k107, a25_0, u25_0, a25_1, u25_1, a25_2, u25_2, rfl, e108, f109, f110, f111⟩
     obtain ⟨K112, S113, m114⟩ := Ent.mixed (l := []) (κ := K100) e108 9 rfl
     refine ⟨((S36.tr (S101.tr S113)).cl rfl), ?_⟩
     have f116 := f109.mx (no_int _) m114 rfl (rfl : 9 + 2 = 11)
     have f117 := f110.mx Gate.no159 m114 rfl (rfl : 9 + 3 = 12)
     have f118 := f111.mx (no_int _) m114 rfl (rfl : 9 + 4 = 13)
     refine WO.call rfl rfl rfl rfl rfl rfl Try.call24 (s_CircuitMachine_ok (κ := fun b => mp [] 0 (K112 b)) (p0 := x23) (p1 := x25) (Sl.map f116.rdc (mp [] 0) rfl rfl) (Sl.map f117.rdc (mp [] 0) rfl rfl) (Sl.map f118.rdc (mp [] 0) rfl rfl) hx26) ?_
     rintro _ w119 ⟨k120, a26_0, u26_0, a26_1, u26_1, rfl, e121, f122, f123⟩
     obtain ⟨K124, S125, m126⟩ := Ent.mixed (l := []) (κ := K112) e121 14 rfl
     refine ⟨((S36.tr (S101.tr (S113.tr S125))).cl rfl), ?_⟩
     have f128 := f122.mx (no_own (no_int _) _) m126 rfl (rfl : 14 + 2 = 16)
     have f129 := f123.mx (no_own (no_int _) _) m126 rfl (rfl : 14 + 3 = 17)
     refine WO.pn 3 rfl ?_
     have f130 := f102.stp (S113.tr S125) rfl rfl
     refine WO.stB0 (κ := K124) 8 (vc := [.slice a26_0 x26.1.Next.length u26_0, .slice a26_1 x26.1.Out.length u26_1]) rfl rfl rfl rfl rfl rfl rfl Try.sizeOf50 rfl rfl f130 rfl fun w131 S132 f133 => ⟨((S36.tr (S101.tr (S113.tr (S125.tr S132)))).cl rfl), ?_⟩
     refine WO.pn 1 rfl ?_
     refine WO.wa ?_
     refine WA.last [] (by kernel_rfl) (by kernel_rfl) rfl ?_
     refine WO.fin ?_
     have f134 := f128.stp S132 rfl rfl
     have f135 := f129.stp S132 rfl rfl
     exact DN.meet _ ⟨(fun b => ren [(16, 6), (17, 7)] (K124 b)), b6, a26_0, u26_0, a26_1, u26_1, rfl, (Stp.ren ((S29.tr (S36.tr (S101.tr (S113.tr (S125.tr S132))))).wk rfl) [(16, 6), (17, 7)] rfl), (f134.map (ren [(16, 6), (17, 7)]) rfl rfl), (f135.map (ren [(16, 6), (17, 7)]) rfl rfl), (f133.map (ren [(16, 6), (17, 7)]) rfl rfl)⟩ fun a ha => (ha.more (ha.more (ha.more (ha.more ha.nil rfl) rfl) rfl) rfl)
   ·
    refine WO.alloc (κ := K15) 6 rfl rfl rfl rfl rfl Try.zeroValue50 rfl fun b6 w136 K137 S138 f139 => ⟨(S138.cl rfl), ?_⟩
    refine WO.wa ?_
    refine WA.seg (fuel := 0) [(1, 1), (3, 1), (4, 1), (5, 2), (6, 2), (7, 2), (9, 1), (10, 2)] (by kernel_rfl) (by kernel_rfl) rfl ?_
    refine WO.call rfl rfl rfl rfl rfl rfl Try.call25 (l_toSig_ok (κ := fun b => mp [] 0 (K137 b)) (p0 := p0) hx23) ?_
    rintro _ w140 ⟨k141, rfl, e142⟩
    obtain ⟨K143, S144, m145⟩ := Ent.mixed (l := []) (κ := K137) e142 7 rfl
    refine ⟨((S138.tr S144).cl rfl), ?_⟩
    have f147 := f9.stp (S16.tr (S29.tr (S138.tr S144))) rfl rfl
    have f148 := f10.stp (S16.tr (S29.tr (S138.tr S144))) rfl rfl
    have f149 := f11.stp (S16.tr (S29.tr (S138.tr S144))) rfl rfl
    refine WO.call rfl rfl rfl rfl rfl rfl Try.call26 (l_toCircuit_ok (κ := fun b => mp [] 0 (K143 b)) (p0 := p1) (Sl.map f147 (mp [] 0) rfl rfl) (Sl.map f148 (mp [] 0) rfl rfl) (Sl.map f149 (mp [] 0) rfl rfl) hx25) ?_
    rintro _ w150 ⟨k151, a25_0, u25_0, a25_1, u25_1, a25_2, u25_2, rfl, e152, f153, f154, f155⟩
    obtain ⟨K156, S157, m158⟩ := Ent.mixed (l := []) (κ := K143) e152 9 rfl
    refine ⟨((S138.tr (S144.tr S157)).cl rfl), ?_⟩
    have f160 := f153.mx (no_int _) m158 rfl (rfl : 9 + 2 = 11)
    have f161 := f154.mx Gate.no159 m158 rfl (rfl : 9 + 3 = 12)
    have f162 := f155.mx (no_int _) m158 rfl (rfl : 9 + 4 = 13)
    refine WO.call rfl rfl rfl rfl rfl rfl Try.call24 (s_CircuitMachine_ok (κ := fun b => mp [] 0 (K156 b)) (p0 := x23) (p1 := x25) (Sl.map f160.rdc (mp [] 0) rfl rfl) (Sl.map f161.rdc (mp [] 0) rfl rfl) (Sl.map f162.rdc (mp [] 0) rfl rfl) hx26) ?_
    rintro _ w163 ⟨k164, a26_0, u26_0, a26_1, u26_1, rfl, e165, f166, f167⟩
    obtain ⟨K168, S169, m170⟩ := Ent.mixed (l := []) (κ := K156) e165 14 rfl
    refine ⟨((S138.tr (S144.tr (S157.tr S169))).cl rfl), ?_⟩
    have f172 := f166.mx (no_own (no_int _) _) m170 rfl (rfl : 14 + 2 = 16)
    have f173 := f167.mx (no_own (no_int _) _) m170 rfl (rfl : 14 + 3 = 17)
    refine WO.pn 3 rfl ?_
    have f174 := f139.stp (S144.tr (S157.tr S169)) rfl rfl
    refine WO.stB0 (κ := K168) 6 (vc := [.slice a26_0 x26.1.Next.length u26_0, .slice a26_1 x26.1.Out.length u26_1]) rfl rfl rfl rfl rfl rfl rfl Try.sizeOf50 rfl rfl f174 rfl fun w175 S176 f177 => ⟨((S138.tr (S144.tr (S157.tr (S169.tr S176)))).cl rfl), ?_⟩
    refine WO.pn 1 rfl ?_
    refine WO.wa ?_
    refine WA.last [] (by kernel_rfl) (by kernel_rfl) rfl ?_
    refine WO.fin ?_
    have f178 := f172.stp S176 rfl rfl
    have f179 := f173.stp S176 rfl rfl
    exact DN.meet _ ⟨(fun b => ren [(16, 6), (17, 7), (6, 8)] (K168 b)), b6, a26_0, u26_0, a26_1, u26_1, rfl, (Stp.ren ((S29.tr (S138.tr (S144.tr (S157.tr (S169.tr S176))))).wk rfl) [(16, 6), (17, 7), (6, 8)] rfl), (f178.map (ren [(16, 6), (17, 7), (6, 8)]) rfl rfl), (f179.map (ren [(16, 6), (17, 7), (6, 8)]) rfl rfl), (f177.map (ren [(16, 6), (17, 7), (6, 8)]) rfl rfl)⟩ fun a ha => (ha.more (ha.more (ha.more (ha.more ha.nil rfl) rfl) rfl) rfl)
  rintro _ w21 ⟨K22, b6, lar24_0, lur24_0, lar24_1, lur24_1, rfl, S23, f25, f26, f27⟩
  refine DN.seq ?_
  refine WC.seq ?_
  refine WC.rs [(0, 1), (1, 1), (2, 1), (3, 1)] rfl ?_
  have f180 := f8.stp (S16.tr S23) rfl rfl
  refine WO.k1 trivial rfl rfl rfl rfl (rn_la (cs := [.int .i64 p1.Inputs, .int .i64 p1.Latches, .slice a1_2 p1.Next.length u1_2, .slice a1_3 p1.Gates.length u1_3, .slice a1_4 p1.Outs.length u1_4]) Try.isAgg47 Try.sizeOf47 rfl rfl rfl (haE f180.cells)) ?_
  obtain ⟨x30, hx30, h⟩ := Option.bind_eq_some_iff.mp h
  have f181 := f9.stp (S16.tr S23) rfl rfl
  have f182 := f10.stp (S16.tr S23) rfl rfl
  have f183 := f11.stp (S16.tr S23) rfl rfl
  refine WO.call rfl rfl rfl rfl rfl rfl Try.call26 (l_toCircuit_ok (κ := fun b => mp [] 0 (K22 b)) (p0 := p1) (Sl.map f181 (mp [] 0) rfl rfl) (Sl.map f182 (mp [] 0) rfl rfl) (Sl.map f183 (mp [] 0) rfl rfl) hx30) ?_
  rintro _ w184 ⟨k185, a30_0, u30_0, a30_1, u30_1, a30_2, u30_2, rfl, e186, f187, f188, f189⟩
  obtain ⟨K190, S191, m192⟩ := Ent.mixed (l := []) (κ := K22) e186 9 rfl
  refine ⟨trivial, ?_⟩
  have f194 := f187.mx (no_int _) m192 rfl (rfl : 9 + 2 = 11)
  have f195 := f188.mx Gate.no159 m192 rfl (rfl : 9 + 3 = 12)
  have f196 := f189.mx (no_int _) m192 rfl (rfl : 9 + 4 = 13)
  refine WO.alloc (κ := K190) 14 rfl rfl rfl rfl rfl Try.zeroValue57 rfl fun b8 w197 K198 S199 f200 => ⟨trivial, ?_⟩
  refine WO.stB0 (κ := K198) 14 (vc := [.int .i64 x30.Inputs, .int .i64 x30.Latches, .slice a30_0 x30.Next.length u30_0, .slice a30_1 x30.Gates.length u30_1, .slice a30_2 x30.Outs.length u30_2]) rfl rfl rfl rfl rfl rfl rfl Try.sizeOf57 rfl rfl f200 rfl fun w201 S202 f203 => ⟨trivial, ?_⟩
  refine WO.fin ?_
  refine DN.seq ?_
  refine WC.seq ?_
  obtain ⟨x33, hx33, h⟩ := Option.bind_eq_some_iff.mp h
  obtain ⟨x35, hx35, h⟩ := Option.bind_eq_some_iff.mp h
  refine WC.meet (fun L w' => ∃ (κ' : Col) (b9 : Nat) (lar207_0 : Option Addr) (lur207_0 : Nat) (lar207_1 : Option Addr) (lur207_1 : Nat), L = [(2, .pointer (some ⟨b2, 0, none⟩)), (3, .pointer (some ⟨b3, 0, none⟩)), (6, .pointer (some ⟨b6, 0, none⟩)), (7, .bool x26.2), (8, .pointer (some ⟨b8, 0, none⟩)), (9, .pointer (some ⟨b9, 0, none⟩)), (10, .bool x35.2)] ∧ Stp [15, 17, 19, 20, 21] K198 w201 κ' w' ∧ Oc (Ep.own (Ep.int .i64) 2) 22 κ' w' 15 lar207_0 lur207_0 x35.1.Next ∧ Oc (Ep.own (Ep.int .i64) 2) 22 κ' w' 16 lar207_1 lur207_1 x35.1.Out ∧ Bc κ' w' 17 b9 50 [.slice lar207_0 x35.1.Next.length lur207_0, .slice lar207_1 x35.1.Out.length lur207_1]) ?_ ?_
  ·
   refine WC.rxt (κ := K198) [2, 14] none (by kernel_rfl) fun w211 S212 => ?_
   refine WA.seg (fuel := 8) [(0, 0), (2, 0)] (by kernel_rfl) (by kernel_rfl) rfl ?_
   have f213 := f4.stp (S7.tr (S16.tr (S23.tr (S191.tr (S199.tr (S202.tr S212)))))) rfl rfl
   refine WO.k0 rfl rfl rfl rfl (rn_la (cs := [.int .i64 p0.In, .int .i64 p0.Out]) Try.isAgg44 Try.sizeOf44 rfl rfl rfl (haC f213.cells rfl)) ?_
   have f214 := f203.stp S212 rfl rfl
   refine WO.k0 rfl rfl rfl rfl (rn_la (cs := [.int .i64 x30.Inputs, .int .i64 x30.Latches, .slice a30_0 x30.Next.length u30_0, .slice a30_1 x30.Gates.length u30_1, .slice a30_2 x30.Outs.length u30_2]) Try.isAgg57 Try.sizeOf57 rfl rfl rfl (haC f214.cells rfl)) ?_
   refine WO.wa ?_
   refine WA.fork2 (fuel := 7) 1 7 (by kernel_rfl) rfl ?_ ?_
   ·
    refine WO.call rfl rfl rfl rfl rfl rfl Try.call25 (l_toSig_ok (κ := fun b => mp [] 0 (K198 b)) (p0 := p0) hx33) ?_
    rintro _ w215 ⟨k216, rfl, e217⟩
    obtain ⟨K218, S219, m220⟩ := Ent.mixed (l := []) (κ := K198) e217 15 rfl
    refine ⟨(S219.cl rfl), ?_⟩
    refine WO.wa ?_
    refine WA.fork2 (fuel := 6) 3 7 (by kernel_rfl) rfl ?_ ?_
    ·
     have f222 := f194.stp (S199.tr (S202.tr (S212.tr S219))) rfl rfl
     have f223 := f195.stp (S199.tr (S202.tr (S212.tr S219))) rfl rfl
     have f224 := f196.stp (S199.tr (S202.tr (S212.tr S219))) rfl rfl
     refine WO.call rfl rfl rfl rfl rfl rfl Try.call27 (i_CircuitMachine_ok (κ := fun b => mp [] 0 (K218 b)) (p0 := x33) (p1 := x30) (Sl.map f222.rdc (mp [] 0) rfl rfl) (Sl.map f223.rdc (mp [] 0) rfl rfl) (Sl.map f224.rdc (mp [] 0) rfl rfl) hx35) ?_
     rintro _ w225 ⟨k226, a35_0, u35_0, a35_1, u35_1, rfl, e227, f228, f229⟩
     obtain ⟨K230, S231, m232⟩ := Ent.mixed (l := []) (κ := K218) e227 17 rfl
     refine ⟨((S219.tr S231).cl rfl), ?_⟩
     have f234 := f228.mx (no_own (no_int _) _) m232 rfl (rfl : 17 + 2 = 19)
     have f235 := f229.mx (no_own (no_int _) _) m232 rfl (rfl : 17 + 3 = 20)
     refine WO.wa ?_
     refine WA.seg (fuel := 0) [(4, 2), (5, 2), (6, 2), (7, 1), (8, 1), (9, 2)] (by kernel_rfl) (by kernel_rfl) rfl ?_
     refine WO.pn 3 rfl ?_
     refine WO.alloc (κ := K230) 21 rfl rfl rfl rfl rfl Try.zeroValue50 rfl fun b9 w236 K237 S238 f239 => ⟨((S219.tr (S231.tr S238)).cl rfl), ?_⟩
     refine WO.stB0 (κ := K237) 21 (vc := [.slice a35_0 x35.1.Next.length u35_0, .slice a35_1 x35.1.Out.length u35_1]) rfl rfl rfl rfl rfl rfl rfl Try.sizeOf50 rfl rfl f239 rfl fun w240 S241 f242 => ⟨((S219.tr (S231.tr (S238.tr S241))).cl rfl), ?_⟩
     refine WO.pn 1 rfl ?_
     refine WO.wa ?_
     refine WA.last [] (by kernel_rfl) (by kernel_rfl) rfl ?_
     refine WO.fin ?_
     have f243 := f234.stp (S238.tr S241) rfl rfl
     have f244 := f235.stp (S238.tr S241) rfl rfl
     exact DN.meet _ ⟨(fun b => ren [(19, 15), (20, 16), (21, 17)] (K237 b)), b9, a35_0, u35_0, a35_1, u35_1, rfl, (Stp.ren ((S212.tr (S219.tr (S231.tr (S238.tr S241)))).wk rfl) [(19, 15), (20, 16), (21, 17)] rfl), (f243.map (ren [(19, 15), (20, 16), (21, 17)]) rfl rfl), (f244.map (ren [(19, 15), (20, 16), (21, 17)]) rfl rfl), (f242.map (ren [(19, 15), (20, 16), (21, 17)]) rfl rfl)⟩ fun a ha => (ha.more (ha.more (ha.more (ha.more (ha.more (ha.more (ha.more ha.nil rfl) rfl) rfl) rfl) rfl) rfl) rfl)
    ·
     refine WO.alloc (κ := K218) 17 rfl rfl rfl rfl rfl Try.zeroValue50 rfl fun b9 w245 K246 S247 f248 => ⟨((S219.tr S247).cl rfl), ?_⟩
     refine WO.wa ?_
     refine WA.seg (fuel := 0) [(3, 1), (4, 2), (5, 2), (6, 2), (8, 1), (9, 2)] (by kernel_rfl) (by kernel_rfl) rfl ?_
     have f249 := f194.stp (S199.tr (S202.tr (S212.tr (S219.tr S247)))) rfl rfl
     have f250 := f195.stp (S199.tr (S202.tr (S212.tr (S219.tr S247)))) rfl rfl
     have f251 := f196.stp (S199.tr (S202.tr (S212.tr (S219.tr S247)))) rfl rfl
     refine WO.call rfl rfl rfl rfl rfl rfl Try.call27 (i_CircuitMachine_ok (κ := fun b => mp [] 0 (K246 b)) (p0 := x33) (p1 := x30) (Sl.map f249.rdc (mp [] 0) rfl rfl) (Sl.map f250.rdc (mp [] 0) rfl rfl) (Sl.map f251.rdc (mp [] 0) rfl rfl) hx35) ?_
     rintro _ w252 ⟨k253, a35_0, u35_0, a35_1, u35_1, rfl, e254, f255, f256⟩
     obtain ⟨K257, S258, m259⟩ := Ent.mixed (l := []) (κ := K246) e254 18 rfl
     refine ⟨((S219.tr (S247.tr S258)).cl rfl), ?_⟩
     have f261 := f255.mx (no_own (no_int _) _) m259 rfl (rfl : 18 + 2 = 20)
     have f262 := f256.mx (no_own (no_int _) _) m259 rfl (rfl : 18 + 3 = 21)
     refine WO.pn 3 rfl ?_
     have f263 := f248.stp S258 rfl rfl
     refine WO.stB0 (κ := K257) 17 (vc := [.slice a35_0 x35.1.Next.length u35_0, .slice a35_1 x35.1.Out.length u35_1]) rfl rfl rfl rfl rfl rfl rfl Try.sizeOf50 rfl rfl f263 rfl fun w264 S265 f266 => ⟨((S219.tr (S247.tr (S258.tr S265))).cl rfl), ?_⟩
     refine WO.pn 1 rfl ?_
     refine WO.wa ?_
     refine WA.last [] (by kernel_rfl) (by kernel_rfl) rfl ?_
     refine WO.fin ?_
     have f267 := f261.stp S265 rfl rfl
     have f268 := f262.stp S265 rfl rfl
     exact DN.meet _ ⟨(fun b => ren [(20, 15), (21, 16)] (K257 b)), b9, a35_0, u35_0, a35_1, u35_1, rfl, (Stp.ren ((S212.tr (S219.tr (S247.tr (S258.tr S265)))).wk rfl) [(20, 15), (21, 16)] rfl), (f267.map (ren [(20, 15), (21, 16)]) rfl rfl), (f268.map (ren [(20, 15), (21, 16)]) rfl rfl), (f266.map (ren [(20, 15), (21, 16)]) rfl rfl)⟩ fun a ha => (ha.more (ha.more (ha.more (ha.more (ha.more (ha.more (ha.more ha.nil rfl) rfl) rfl) rfl) rfl) rfl) rfl)
   ·
    refine WO.alloc (κ := K198) 15 rfl rfl rfl rfl rfl Try.zeroValue50 rfl fun b9 w269 K270 S271 f272 => ⟨(S271.cl rfl), ?_⟩
    refine WO.wa ?_
    refine WA.seg (fuel := 0) [(1, 1), (3, 1), (4, 2), (5, 2), (6, 2), (8, 1), (9, 2)] (by kernel_rfl) (by kernel_rfl) rfl ?_
    refine WO.call rfl rfl rfl rfl rfl rfl Try.call25 (l_toSig_ok (κ := fun b => mp [] 0 (K270 b)) (p0 := p0) hx33) ?_
    rintro _ w273 ⟨k274, rfl, e275⟩
    obtain ⟨K276, S277, m278⟩ := Ent.mixed (l := []) (κ := K270) e275 16 rfl
    refine ⟨((S271.tr S277).cl rfl), ?_⟩
    have f280 := f194.stp (S199.tr (S202.tr (S212.tr (S271.tr S277)))) rfl rfl
    have f281 := f195.stp (S199.tr (S202.tr (S212.tr (S271.tr S277)))) rfl rfl
    have f282 := f196.stp (S199.tr (S202.tr (S212.tr (S271.tr S277)))) rfl rfl
    refine WO.call rfl rfl rfl rfl rfl rfl Try.call27 (i_CircuitMachine_ok (κ := fun b => mp [] 0 (K276 b)) (p0 := x33) (p1 := x30) (Sl.map f280.rdc (mp [] 0) rfl rfl) (Sl.map f281.rdc (mp [] 0) rfl rfl) (Sl.map f282.rdc (mp [] 0) rfl rfl) hx35) ?_
    rintro _ w283 ⟨k284, a35_0, u35_0, a35_1, u35_1, rfl, e285, f286, f287⟩
    obtain ⟨K288, S289, m290⟩ := Ent.mixed (l := []) (κ := K276) e285 18 rfl
    refine ⟨((S271.tr (S277.tr S289)).cl rfl), ?_⟩
    have f292 := f286.mx (no_own (no_int _) _) m290 rfl (rfl : 18 + 2 = 20)
    have f293 := f287.mx (no_own (no_int _) _) m290 rfl (rfl : 18 + 3 = 21)
    refine WO.pn 3 rfl ?_
    have f294 := f272.stp (S277.tr S289) rfl rfl
    refine WO.stB0 (κ := K288) 15 (vc := [.slice a35_0 x35.1.Next.length u35_0, .slice a35_1 x35.1.Out.length u35_1]) rfl rfl rfl rfl rfl rfl rfl Try.sizeOf50 rfl rfl f294 rfl fun w295 S296 f297 => ⟨((S271.tr (S277.tr (S289.tr S296))).cl rfl), ?_⟩
    refine WO.pn 1 rfl ?_
    refine WO.wa ?_
    refine WA.last [] (by kernel_rfl) (by kernel_rfl) rfl ?_
    refine WO.fin ?_
    have f298 := f292.stp S296 rfl rfl
    have f299 := f293.stp S296 rfl rfl
    exact DN.meet _ ⟨(fun b => ren [(20, 15), (21, 16), (15, 17)] (K288 b)), b9, a35_0, u35_0, a35_1, u35_1, rfl, (Stp.ren ((S212.tr (S271.tr (S277.tr (S289.tr S296)))).wk rfl) [(20, 15), (21, 16), (15, 17)] rfl), (f298.map (ren [(20, 15), (21, 16), (15, 17)]) rfl rfl), (f299.map (ren [(20, 15), (21, 16), (15, 17)]) rfl rfl), (f297.map (ren [(20, 15), (21, 16), (15, 17)]) rfl rfl)⟩ fun a ha => (ha.more (ha.more (ha.more (ha.more (ha.more (ha.more (ha.more ha.nil rfl) rfl) rfl) rfl) rfl) rfl) rfl)
  rintro _ w204 ⟨K205, b9, lar207_0, lur207_0, lar207_1, lur207_1, rfl, S206, f208, f209, f210⟩
  refine DN.seq ?_
  refine WC.seq ?_
  refine WC.seq ?_
  refine WC.rs [(0, 1), (1, 1), (2, 1), (3, 2), (4, 2), (5, 2), (6, 2), (7, 2), (8, 2)] rfl ?_
  refine WO.k1 trivial rfl rfl rfl rfl (rn_la (cs := [.slice lar207_0 x35.1.Next.length lur207_0, .slice lar207_1 x35.1.Out.length lur207_1]) Try.isAgg50 Try.sizeOf50 rfl rfl rfl (haE f210.cells)) ?_
  have f300 := f27.stp (S191.tr (S199.tr (S202.tr S206))) rfl rfl
  refine WO.k1 trivial rfl rfl rfl rfl (rn_la (cs := [.slice lar24_0 x26.1.Next.length lur24_0, .slice lar24_1 x26.1.Out.length lur24_1]) Try.isAgg50 Try.sizeOf50 rfl rfl rfl (haE f300.cells)) ?_
  obtain ⟨x40, hx40, h⟩ := Option.bind_eq_some_iff.mp h
  have f301 := f25.stp (S191.tr (S199.tr (S202.tr S206))) rfl rfl
  have f302 := f26.stp (S191.tr (S199.tr (S202.tr S206))) rfl rfl
  refine WO.call rfl rfl rfl rfl rfl rfl Try.call28 (l_eqMachine_ok (κ := fun b => mp [] 0 (K205 b)) (p0 := x35.1) (p1 := x26.1) (Sl.map f208.rdc (mp [] 0) rfl rfl) (Sl.map f209.rdc (mp [] 0) rfl rfl) (Sl.map f301.rdc (mp [] 0) rfl rfl) (Sl.map f302.rdc (mp [] 0) rfl rfl) hx40) ?_
  rintro _ w303 ⟨k304, rfl, e305⟩
  obtain ⟨K306, S307, m308⟩ := Ent.mixed (l := []) (κ := K205) e305 18 rfl
  refine ⟨trivial, ?_⟩
  refine WO.pn 2 rfl ?_
  obtain ⟨p46, h, hK310⟩ := Option.bind_eq_some_iff.mp h
  refine WO.meet [(5, 2), (6, 2), (7, 2), (8, 2)] [] (fun L w' => L = [(2, .pointer (some ⟨b2, 0, none⟩)), (3, .pointer (some ⟨b3, 0, none⟩)), (6, .pointer (some ⟨b6, 0, none⟩)), (7, .bool x26.2), (8, .pointer (some ⟨b8, 0, none⟩)), (9, .pointer (some ⟨b9, 0, none⟩)), (10, .bool x35.2), (46, .bool p46)] ∧ ∃ κ', Stp [] K306 w303 κ' w') trivial ?_ ?_
  ·
   revert h
   cases ht311 : (!x40) with
   | true =>
    intro h; replace h := cT h
    refine WO.pn 4 rfl ?_
    obtain rfl := Option.some.inj h
    exact WO.met _ trivial ⟨rfl, _, (Stp.refl _ _).wk rfl⟩ fun a ha => (ha.more (ha.more (ha.more (ha.more (ha.more (ha.more (ha.more (ha.more ha.nil rfl) rfl) rfl) rfl) rfl) rfl) rfl) rfl)
   | false =>
    intro h; replace h := cF h
    refine WO.pn 2 rfl ?_
    refine WO.k2 rfl rfl rfl rfl (rn_neqB rfl rfl Try.runUnderlying4 rfl) ?_
    refine WO.pn 1 rfl ?_
    obtain rfl := Option.some.inj h
    exact WO.met _ trivial ⟨rfl, _, (Stp.refl _ _).wk rfl⟩ fun a ha => (ha.more (ha.more (ha.more (ha.more (ha.more (ha.more (ha.more (ha.more ha.nil rfl) rfl) rfl) rfl) rfl) rfl) rfl) rfl)
  rintro _ w312 _ ⟨rfl, K313, S314⟩
  have h := hK310
  refine WO.fin ?_
  refine DN.seq ?_
  revert h
  cases ht315 : p46 with
  | true =>
   intro h; replace h := cT h
   refine WC.ct rfl ?_
   refine WC.seq ?_
   refine WC.rs [(0, 2)] rfl ?_
   refine WO.pn 1 rfl ?_
   refine WO.fin ?_
   refine DN.seq ?_
   refine WC.ret ?_
   refine DN.retThen ?_
   have f316 := hE.stp (S3.tr (S7.tr (S16.tr (S23.tr (S191.tr (S199.tr (S202.tr (S206.tr (S307.tr S314))))))))) rfl rfl
   refine DN.res (l := [.tmp 4]) Try.results4 (res_tmp rfl rfl) rfl ?_
   obtain rfl := Option.some.inj h
   exact ⟨K313, rfl, f316⟩
  | false =>
   intro h; replace h := cF h
   refine WC.cf rfl ?_
   refine WC.skip ?_
   refine DN.seq ?_
   refine WC.seq ?_
   refine WC.seq ?_
   refine WC.rx (κ := K313) [3, 14] none [(0, 0), (1, 0), (2, 1), (3, 1), (4, 2)] [] (by kernel_rfl) (by kernel_rfl) fun w318 S317 => ?_
   have f319 := f203.stp (S206.tr (S307.tr (S314.tr S317))) rfl rfl
   refine WO.k0 rfl rfl rfl rfl (rn_la (cs := [.int .i64 x30.Inputs, .int .i64 x30.Latches, .slice a30_0 x30.Next.length u30_0, .slice a30_1 x30.Gates.length u30_1, .slice a30_2 x30.Outs.length u30_2]) Try.isAgg57 Try.sizeOf57 rfl rfl rfl (haC f319.cells rfl)) ?_
   have f320 := f180.stp (S191.tr (S199.tr (S202.tr (S206.tr (S307.tr (S314.tr S317)))))) rfl rfl
   refine WO.k0 rfl rfl rfl rfl (rn_la (cs := [.int .i64 p1.Inputs, .int .i64 p1.Latches, .slice a1_2 p1.Next.length u1_2, .slice a1_3 p1.Gates.length u1_3, .slice a1_4 p1.Outs.length u1_4]) Try.isAgg47 Try.sizeOf47 rfl rfl rfl (haC f320.cells rfl)) ?_
   obtain ⟨x49, hx49, h⟩ := Option.bind_eq_some_iff.mp h
   have f321 := f181.stp (S191.tr (S199.tr (S202.tr (S206.tr (S307.tr (S314.tr S317)))))) rfl rfl
   have f322 := f182.stp (S191.tr (S199.tr (S202.tr (S206.tr (S307.tr (S314.tr S317)))))) rfl rfl
   have f323 := f183.stp (S191.tr (S199.tr (S202.tr (S206.tr (S307.tr (S314.tr S317)))))) rfl rfl
   refine WO.call rfl rfl rfl rfl rfl rfl Try.call26 (l_toCircuit_ok (κ := fun b => mp [] 0 (K313 b)) (p0 := p1) (Sl.map f321 (mp [] 0) rfl rfl) (Sl.map f322 (mp [] 0) rfl rfl) (Sl.map f323 (mp [] 0) rfl rfl) hx49) ?_
   rintro _ w324 ⟨k325, a49_0, u49_0, a49_1, u49_1, a49_2, u49_2, rfl, e326, f327, f328, f329⟩
   obtain ⟨K330, S331, m332⟩ := Ent.mixed (l := []) (κ := K313) e326 20 rfl
   refine ⟨(S331.cl rfl), ?_⟩
   have f334 := f327.mx (no_int _) m332 rfl (rfl : 20 + 2 = 22)
   have f335 := f328.mx Gate.no159 m332 rfl (rfl : 20 + 3 = 23)
   have f336 := f329.mx (no_int _) m332 rfl (rfl : 20 + 4 = 24)
   obtain ⟨x50, hx50, h⟩ := Option.bind_eq_some_iff.mp h
   have f337 := f194.stp (S199.tr (S202.tr (S206.tr (S307.tr (S314.tr (S317.tr S331)))))) rfl rfl
   have f338 := f195.stp (S199.tr (S202.tr (S206.tr (S307.tr (S314.tr (S317.tr S331)))))) rfl rfl
   have f339 := f196.stp (S199.tr (S202.tr (S206.tr (S307.tr (S314.tr (S317.tr S331)))))) rfl rfl
   refine WO.call rfl rfl rfl rfl rfl rfl Try.call29 (l_eqCircuit_ok (κ := fun b => mp [] 0 (K330 b)) (p0 := x30) (p1 := x49) (Sl.map f337.rdc (mp [] 0) rfl rfl) (Sl.map f338.rdc (mp [] 0) rfl rfl) (Sl.map f339.rdc (mp [] 0) rfl rfl) (Sl.map f334.rdc (mp [] 0) rfl rfl) (Sl.map f335.rdc (mp [] 0) rfl rfl) (Sl.map f336.rdc (mp [] 0) rfl rfl) hx50) ?_
   rintro _ w340 ⟨k341, rfl, e342⟩
   obtain ⟨K343, S344, m345⟩ := Ent.mixed (l := []) (κ := K330) e342 25 rfl
   refine ⟨((S331.tr S344).cl rfl), ?_⟩
   refine WO.pn 1 rfl ?_
   refine WO.nx ?_
   refine WO.fin ?_
   refine DN.seq ?_
   revert h
   cases ht347 : (!x50) with
   | true =>
    intro h; replace h := cT h
    refine WC.ct rfl ?_
    refine WC.seq ?_
    refine WC.rs [(0, 2)] rfl ?_
    refine WO.pn 1 rfl ?_
    refine WO.fin ?_
    refine DN.seq ?_
    refine WC.ret ?_
    refine DN.retThen ?_
    have f348 := hE.stp (S3.tr (S7.tr (S16.tr (S23.tr (S191.tr (S199.tr (S202.tr (S206.tr (S307.tr (S314.tr (S317.tr (S331.tr S344)))))))))))) rfl rfl
    refine DN.res (l := [.tmp 4]) Try.results4 (res_tmp rfl rfl) rfl ?_
    obtain rfl := Option.some.inj h
    exact ⟨K343, rfl, f348⟩
   | false =>
    intro h; replace h := cF h
    refine WC.cf rfl ?_
    refine WC.skip ?_
    refine DN.seq ?_
    refine WC.seq ?_
    refine WC.rs [(0, 2)] rfl ?_
    refine WO.pn 1 rfl ?_
    refine WO.fin ?_
    refine DN.seq ?_
    refine WC.seq ?_
    refine WC.rs [(0, 1), (1, 2), (2, 1), (3, 2)] rfl ?_
    have f349 := f319.stp (S331.tr S344) rfl rfl
    refine WO.k1 trivial rfl rfl rfl rfl (rn_la (cs := [.int .i64 x30.Inputs, .int .i64 x30.Latches, .slice a30_0 x30.Next.length u30_0, .slice a30_1 x30.Gates.length u30_1, .slice a30_2 x30.Outs.length u30_2]) Try.isAgg57 Try.sizeOf57 rfl rfl rfl (haE f349.cells)) ?_
    refine WO.pn 1 rfl ?_
    obtain ⟨x54, hx54, h⟩ := Option.bind_eq_some_iff.mp h
    have f350 := f337.stp S344 rfl rfl
    have f351 := f338.stp S344 rfl rfl
    have f352 := f339.stp S344 rfl rfl
    refine WO.call rfl rfl rfl rfl rfl rfl Try.call30 (l_markCircuit_ok (κ := fun b => mp [(11, 2), (12, 3), (13, 4)] 0 (K343 b)) (p0 := x30) (f350.map (mp [(11, 2), (12, 3), (13, 4)] 0) rfl rfl) (f351.map (mp [(11, 2), (12, 3), (13, 4)] 0) rfl rfl) (f352.map (mp [(11, 2), (12, 3), (13, 4)] 0) rfl rfl) hx54) ?_
    rintro _ w353 ⟨k354, rfl, e355, f356, hn357, f358, hn359, f360, hn361⟩
    obtain ⟨K362, S363, m364⟩ := Ent.mixed (l := [(11, 2), (12, 3), (13, 4)]) (κ := K343) e355 27 rfl
    refine ⟨trivial, ?_⟩
    have f366 := f356.mx (no_int _) m364 rfl (rfl : 27 + 2 = 29)
    have f367 := f358.mx Gate.no159 m364 rfl (rfl : 27 + 3 = 30)
    have f368 := f360.mx (no_int _) m364 rfl (rfl : 27 + 4 = 31)
    refine WO.pn 1 rfl ?_
    refine WO.fin ?_
    refine DN.seq ?_
    refine WC.seq ?_
    refine WC.seq ?_
    refine WC.rs [(0, 2), (1, 2), (2, 2), (3, 1), (4, 1), (5, 1), (6, 2), (7, 2), (8, 2), (9, 2), (10, 2), (11, 2), (12, 2)] rfl ?_
    refine WO.pn 3 rfl ?_
    obtain ⟨p62, h, hK369⟩ := Option.bind_eq_some_iff.mp h
    refine WO.meet [(3, 1), (4, 1), (5, 1), (6, 2), (7, 2)] [(8, 2), (9, 2), (10, 2), (11, 2), (12, 2)] (fun L w' => L = [(2, .pointer (some ⟨b2, 0, none⟩)), (3, .pointer (some ⟨b3, 0, none⟩)), (6, .pointer (some ⟨b6, 0, none⟩)), (7, .bool x26.2), (9, .pointer (some ⟨b9, 0, none⟩)), (10, .bool x35.2), (62, .bool p62)] ∧ ∃ κ', Stp [] K362 w353 κ' w') trivial ?_ ?_
    ·
     revert h
     cases ht370 : decide (x54.1 < 0) with
     | true =>
      intro h; replace h := cT h
      refine WO.ls rfl rfl rfl rfl ?_
      refine WO.ls rfl rfl rfl rfl ?_
      refine WO.ls rfl rfl rfl rfl ?_
      refine WO.pn 2 rfl ?_
      obtain rfl := Option.some.inj h
      exact WO.met _ trivial ⟨rfl, _, (Stp.refl _ _).wk rfl⟩ fun a ha => (ha.more (ha.more (ha.more (ha.more (ha.more (ha.more (ha.more ha.nil rfl) rfl) rfl) rfl) rfl) rfl) rfl)
     | false =>
      intro h; replace h := cF h
      have f371 := f210.stp (S307.tr (S314.tr (S317.tr (S331.tr (S344.tr S363))))) rfl rfl
      refine WO.k1 trivial rfl rfl rfl rfl (rn_la (cs := [.slice lar207_0 x35.1.Next.length lur207_0, .slice lar207_1 x35.1.Out.length lur207_1]) Try.isAgg50 Try.sizeOf50 rfl rfl rfl (haE f371.cells)) ?_
      have f372 := f300.stp (S307.tr (S314.tr (S317.tr (S331.tr (S344.tr S363))))) rfl rfl
      refine WO.k1 trivial rfl rfl rfl rfl (rn_la (cs := [.slice lar24_0 x26.1.Next.length lur24_0, .slice lar24_1 x26.1.Out.length lur24_1]) Try.isAgg50 Try.sizeOf50 rfl rfl rfl (haE f372.cells)) ?_
      obtain ⟨x60, hx60, h⟩ := Option.bind_eq_some_iff.mp h
      have f373 := f208.stp (S307.tr (S314.tr (S317.tr (S331.tr (S344.tr S363))))) rfl rfl
      have f374 := f209.stp (S307.tr (S314.tr (S317.tr (S331.tr (S344.tr S363))))) rfl rfl
      have f375 := f301.stp (S307.tr (S314.tr (S317.tr (S331.tr (S344.tr S363))))) rfl rfl
      have f376 := f302.stp (S307.tr (S314.tr (S317.tr (S331.tr (S344.tr S363))))) rfl rfl
      refine WO.call rfl rfl rfl rfl rfl rfl Try.call28 (l_eqMachine_ok (κ := fun b => mp [] 0 (K362 b)) (p0 := x35.1) (p1 := x26.1) (Sl.map f373.rdc (mp [] 0) rfl rfl) (Sl.map f374.rdc (mp [] 0) rfl rfl) (Sl.map f375.rdc (mp [] 0) rfl rfl) (Sl.map f376.rdc (mp [] 0) rfl rfl) hx60) ?_
      rintro _ w377 ⟨k378, rfl, e379⟩
      obtain ⟨K380, S381, m382⟩ := Ent.mixed (l := []) (κ := K362) e379 32 rfl
      refine ⟨trivial, ?_⟩
      refine WO.pn 2 rfl ?_
      obtain rfl := Option.some.inj h
      exact WO.met _ trivial ⟨rfl, _, S381.wk rfl⟩ fun a ha => (ha.more (ha.more (ha.more (ha.more (ha.more (ha.more (ha.more ha.nil rfl) rfl) rfl) rfl) rfl) rfl) rfl)
    rintro _ w384 _ ⟨rfl, K385, S386⟩
    have h := hK369
    refine WO.pn 1 rfl ?_
    obtain ⟨p67, h, hK387⟩ := Option.bind_eq_some_iff.mp h
    refine WO.meet [(9, 2), (10, 2), (11, 2), (12, 2)] [] (fun L w' => L = [(2, .pointer (some ⟨b2, 0, none⟩)), (3, .pointer (some ⟨b3, 0, none⟩)), (6, .pointer (some ⟨b6, 0, none⟩)), (7, .bool x26.2), (9, .pointer (some ⟨b9, 0, none⟩)), (67, .bool p67)] ∧ ∃ κ', Stp [] K385 w384 κ' w') trivial ?_ ?_
    ·
     revert h
     cases ht388 : p62 with
     | true =>
      intro h; replace h := cT h
      refine WO.pn 4 rfl ?_
      obtain rfl := Option.some.inj h
      exact WO.met _ trivial ⟨rfl, _, (Stp.refl _ _).wk rfl⟩ fun a ha => (ha.more (ha.more (ha.more (ha.more (ha.more (ha.more ha.nil rfl) rfl) rfl) rfl) rfl) rfl)
     | false =>
      intro h; replace h := cF h
      refine WO.pn 2 rfl ?_
      refine WO.k2 rfl rfl rfl rfl (rn_neqB rfl rfl Try.runUnderlying4 rfl) ?_
      refine WO.pn 1 rfl ?_
      obtain rfl := Option.some.inj h
      exact WO.met _ trivial ⟨rfl, _, (Stp.refl _ _).wk rfl⟩ fun a ha => (ha.more (ha.more (ha.more (ha.more (ha.more (ha.more ha.nil rfl) rfl) rfl) rfl) rfl) rfl)
    rintro _ w389 _ ⟨rfl, K390, S391⟩
    have h := hK387
    refine WO.fin ?_
    refine DN.seq ?_
    revert h
    cases ht392 : p67 with
    | true =>
     intro h; replace h := cT h
     refine WC.ct rfl ?_
     refine WC.seq ?_
     refine WC.rs [(0, 2)] rfl ?_
     refine WO.pn 1 rfl ?_
     refine WO.fin ?_
     refine DN.seq ?_
     refine WC.ret ?_
     refine DN.retThen ?_
     have f393 := hE.stp (S3.tr (S7.tr (S16.tr (S23.tr (S191.tr (S199.tr (S202.tr (S206.tr (S307.tr (S314.tr (S317.tr (S331.tr (S344.tr (S363.tr (S386.tr S391))))))))))))))) rfl rfl
     refine DN.res (l := [.tmp 4]) Try.results4 (res_tmp rfl rfl) rfl ?_
     obtain rfl := Option.some.inj h
     exact ⟨K390, rfl, f393⟩
    | false =>
     intro h; replace h := cF h
     refine WC.cf rfl ?_
     refine WC.skip ?_
     refine DN.seq ?_
     refine WC.seq ?_
     refine WC.rs [(0, 2)] rfl ?_
     refine WO.pn 1 rfl ?_
     refine WO.fin ?_
     refine DN.seq ?_
     refine WC.seq ?_
     refine WC.rs [(0, 1), (1, 2), (2, 1), (3, 2)] rfl ?_
     have f394 := f210.stp (S307.tr (S314.tr (S317.tr (S331.tr (S344.tr (S363.tr (S386.tr S391))))))) rfl rfl
     refine WO.k1 trivial rfl rfl rfl rfl (rn_la (cs := [.slice lar207_0 x35.1.Next.length lur207_0, .slice lar207_1 x35.1.Out.length lur207_1]) Try.isAgg50 Try.sizeOf50 rfl rfl rfl (haE f394.cells)) ?_
     refine WO.pn 1 rfl ?_
     obtain ⟨x70, hx70, h⟩ := Option.bind_eq_some_iff.mp h
     have f395 := f208.stp (S307.tr (S314.tr (S317.tr (S331.tr (S344.tr (S363.tr (S386.tr S391))))))) rfl rfl
     have f396 := f209.stp (S307.tr (S314.tr (S317.tr (S331.tr (S344.tr (S363.tr (S386.tr S391))))))) rfl rfl
     refine WO.call rfl rfl rfl rfl rfl rfl Try.call31 (l_markMachine_ok (κ := fun b => mp [(15, 2), (16, 3)] 0 (K390 b)) (p0 := x35.1) (f395.map (mp [(15, 2), (16, 3)] 0) rfl rfl) (f396.map (mp [(15, 2), (16, 3)] 0) rfl rfl) hx70) ?_
     rintro _ w397 ⟨k398, rfl, e399, f400, hn401, f402, hn403⟩
     obtain ⟨K404, S405, m406⟩ := Ent.mixed (l := [(15, 2), (16, 3)]) (κ := K390) e399 32 rfl
     refine ⟨trivial, ?_⟩
     have f408 := f400.mx (no_own (no_int _) _) m406 rfl (rfl : 32 + 2 = 34)
     have f409 := f402.mx (no_own (no_int _) _) m406 rfl (rfl : 32 + 3 = 35)
     refine WO.pn 1 rfl ?_
     refine WO.fin ?_
     refine DN.seq ?_
     refine WC.seq ?_
     refine WC.rs [(0, 2)] rfl ?_
     refine WO.pn 1 rfl ?_
     refine WO.fin ?_
     refine DN.seq ?_
     refine WC.seq ?_
     refine WC.rs [(0, 1), (1, 2), (2, 1), (3, 2)] rfl ?_
     have f410 := f394.stp S405 rfl rfl
     refine WO.k1 trivial rfl rfl rfl rfl (rn_la (cs := [.slice lar207_0 x35.1.Next.length lur207_0, .slice lar207_1 x35.1.Out.length lur207_1]) Try.isAgg50 Try.sizeOf50 rfl rfl rfl (haE f410.cells)) ?_
     refine WO.pn 1 rfl ?_
     obtain ⟨x73, hx73, h⟩ := Option.bind_eq_some_iff.mp h
     refine WO.call rfl rfl rfl rfl rfl rfl Try.call32 (Ret.cast (by simp only [(hn401), (hn403), List.cons_append, List.nil_append]) (l_heldMachine_ok (κ := fun b => mp [] 0 (K404 b)) (p0 := (⟨x70.2.1, x70.2.2⟩ : Machine)) (Sl.map f408.rdc (mp [] 0) rfl rfl) (Sl.map f409.rdc (mp [] 0) rfl rfl) hx73)) ?_
     rintro _ w411 ⟨k412, rfl, e413⟩
     obtain ⟨K414, S415, m416⟩ := Ent.mixed (l := []) (κ := K404) e413 36 rfl
     refine ⟨trivial, ?_⟩
     refine WO.pn 1 rfl ?_
     refine WO.fin ?_
     refine DN.seq ?_
     refine WC.seq ?_
     refine WC.seq ?_
     refine WC.rs [(0, 2), (1, 2)] rfl ?_
     refine WO.pn 2 rfl ?_
     refine WO.fin ?_
     refine DN.seq ?_
     revert h
     cases ht418 : decide (x73 < 0) with
     | true =>
      intro h; replace h := cT h
      refine WC.ct rfl ?_
      refine WC.seq ?_
      refine WC.rs [(0, 2)] rfl ?_
      refine WO.pn 1 rfl ?_
      refine WO.fin ?_
      refine DN.seq ?_
      refine WC.ret ?_
      refine DN.retThen ?_
      have f419 := hE.stp (S3.tr (S7.tr (S16.tr (S23.tr (S191.tr (S199.tr (S202.tr (S206.tr (S307.tr (S314.tr (S317.tr (S331.tr (S344.tr (S363.tr (S386.tr (S391.tr (S405.tr S415))))))))))))))))) rfl rfl
      refine DN.res (l := [.tmp 4]) Try.results4 (res_tmp rfl rfl) rfl ?_
      obtain rfl := Option.some.inj h
      exact ⟨K414, rfl, f419⟩
     | false =>
      intro h; replace h := cF h
      refine WC.cf rfl ?_
      refine WC.skip ?_
      refine DN.seq ?_
      refine WC.seq ?_
      refine WC.seq ?_
      refine WC.rs [(0, 2), (1, 2), (2, 2)] rfl ?_
      refine WO.pn 3 rfl ?_
      refine WO.fin ?_
      refine DN.seq ?_
      revert h
      cases ht420 : (x73 != x70.1) with
      | true =>
       intro h; replace h := cT h
       refine WC.ct rfl ?_
       refine WC.seq ?_
       refine WC.rs [(0, 2)] rfl ?_
       refine WO.pn 1 rfl ?_
       refine WO.fin ?_
       refine DN.seq ?_
       refine WC.ret ?_
       refine DN.retThen ?_
       have f421 := hE.stp (S3.tr (S7.tr (S16.tr (S23.tr (S191.tr (S199.tr (S202.tr (S206.tr (S307.tr (S314.tr (S317.tr (S331.tr (S344.tr (S363.tr (S386.tr (S391.tr (S405.tr S415))))))))))))))))) rfl rfl
       refine DN.res (l := [.tmp 4]) Try.results4 (res_tmp rfl rfl) rfl ?_
       obtain rfl := Option.some.inj h
       exact ⟨K414, rfl, f421⟩
      | false =>
       intro h; replace h := cF h
       refine WC.cf rfl ?_
       refine WC.skip ?_
       refine DN.seq ?_
       refine WC.seq ?_
       obtain ⟨x81, hx81, h⟩ := Option.bind_eq_some_iff.mp h
       obtain ⟨x83, hx83, h⟩ := Option.bind_eq_some_iff.mp h
       obtain ⟨x84, hx84, h⟩ := Option.bind_eq_some_iff.mp h
       refine WC.meet (fun L w' => ∃ (κ' : Col) (b14 : Nat) (lar425_0 : Option Addr) (lur425_0 : Nat) (lar425_1 : Option Addr) (lur425_1 : Nat), L = [(6, .pointer (some ⟨b6, 0, none⟩)), (7, .bool x26.2), (9, .pointer (some ⟨b9, 0, none⟩)), (12, .int .i64 x70.1), (14, .pointer (some ⟨b14, 0, none⟩)), (15, .bool x84.2)] ∧ Stp [38, 40, 45, 47, 48, 49] K414 w411 κ' w' ∧ Oc (Ep.own (Ep.int .i64) 2) 22 κ' w' 38 lar425_0 lur425_0 x84.1.Next ∧ Oc (Ep.own (Ep.int .i64) 2) 22 κ' w' 39 lar425_1 lur425_1 x84.1.Out ∧ Bc κ' w' 40 b14 50 [.slice lar425_0 x84.1.Next.length lur425_0, .slice lar425_1 x84.1.Out.length lur425_1]) ?_ ?_
       ·
        refine WC.rxt (κ := K414) [2, 3] none (by kernel_rfl) fun w429 S430 => ?_
        refine WA.seg (fuel := 9) [(0, 0), (2, 0)] (by kernel_rfl) (by kernel_rfl) rfl ?_
        have f431 := f4.stp (S7.tr (S16.tr (S23.tr (S191.tr (S199.tr (S202.tr (S206.tr (S307.tr (S314.tr (S317.tr (S331.tr (S344.tr (S363.tr (S386.tr (S391.tr (S405.tr (S415.tr S430))))))))))))))))) rfl rfl
        refine WO.k0 rfl rfl rfl rfl (rn_la (cs := [.int .i64 p0.In, .int .i64 p0.Out]) Try.isAgg44 Try.sizeOf44 rfl rfl rfl (haC f431.cells rfl)) ?_
        have f432 := f320.stp (S331.tr (S344.tr (S363.tr (S386.tr (S391.tr (S405.tr (S415.tr S430))))))) rfl rfl
        refine WO.k0 rfl rfl rfl rfl (rn_la (cs := [.int .i64 p1.Inputs, .int .i64 p1.Latches, .slice a1_2 p1.Next.length u1_2, .slice a1_3 p1.Gates.length u1_3, .slice a1_4 p1.Outs.length u1_4]) Try.isAgg47 Try.sizeOf47 rfl rfl rfl (haC f432.cells rfl)) ?_
        refine WO.wa ?_
        refine WA.fork2 (fuel := 8) 1 8 (by kernel_rfl) rfl ?_ ?_
        ·
         refine WO.call rfl rfl rfl rfl rfl rfl Try.call25 (l_toSig_ok (κ := fun b => mp [] 0 (K414 b)) (p0 := p0) hx81) ?_
         rintro _ w433 ⟨k434, rfl, e435⟩
         obtain ⟨K436, S437, m438⟩ := Ent.mixed (l := []) (κ := K414) e435 38 rfl
         refine ⟨(S437.cl rfl), ?_⟩
         refine WO.wa ?_
         refine WA.fork2 (fuel := 7) 3 8 (by kernel_rfl) rfl ?_ ?_
         ·
          have f440 := f321.stp (S331.tr (S344.tr (S363.tr (S386.tr (S391.tr (S405.tr (S415.tr (S430.tr S437)))))))) rfl rfl
          have f441 := f322.stp (S331.tr (S344.tr (S363.tr (S386.tr (S391.tr (S405.tr (S415.tr (S430.tr S437)))))))) rfl rfl
          have f442 := f323.stp (S331.tr (S344.tr (S363.tr (S386.tr (S391.tr (S405.tr (S415.tr (S430.tr S437)))))))) rfl rfl
          refine WO.call rfl rfl rfl rfl rfl rfl Try.call26 (l_toCircuit_ok (κ := fun b => mp [] 0 (K436 b)) (p0 := p1) (Sl.map f440 (mp [] 0) rfl rfl) (Sl.map f441 (mp [] 0) rfl rfl) (Sl.map f442 (mp [] 0) rfl rfl) hx83) ?_
          rintro _ w443 ⟨k444, a83_0, u83_0, a83_1, u83_1, a83_2, u83_2, rfl, e445, f446, f447, f448⟩
          obtain ⟨K449, S450, m451⟩ := Ent.mixed (l := []) (κ := K436) e445 40 rfl
          refine ⟨((S437.tr S450).cl rfl), ?_⟩
          have f453 := f446.mx (no_int _) m451 rfl (rfl : 40 + 2 = 42)
          have f454 := f447.mx Gate.no159 m451 rfl (rfl : 40 + 3 = 43)
          have f455 := f448.mx (no_int _) m451 rfl (rfl : 40 + 4 = 44)
          refine WO.wa ?_
          refine WA.fork2 (fuel := 6) 4 8 (by kernel_rfl) rfl ?_ ?_
          ·
           refine WO.call rfl rfl rfl rfl rfl rfl Try.call27 (i_CircuitMachine_ok (κ := fun b => mp [] 0 (K449 b)) (p0 := x81) (p1 := x83) (Sl.map f453.rdc (mp [] 0) rfl rfl) (Sl.map f454.rdc (mp [] 0) rfl rfl) (Sl.map f455.rdc (mp [] 0) rfl rfl) hx84) ?_
           rintro _ w456 ⟨k457, a84_0, u84_0, a84_1, u84_1, rfl, e458, f459, f460⟩
           obtain ⟨K461, S462, m463⟩ := Ent.mixed (l := []) (κ := K449) e458 45 rfl
           refine ⟨((S437.tr (S450.tr S462)).cl rfl), ?_⟩
           have f465 := f459.mx (no_own (no_int _) _) m463 rfl (rfl : 45 + 2 = 47)
           have f466 := f460.mx (no_own (no_int _) _) m463 rfl (rfl : 45 + 3 = 48)
           refine WO.wa ?_
           refine WA.seg (fuel := 0) [(5, 2), (6, 2), (7, 2), (8, 1), (9, 1), (10, 2)] (by kernel_rfl) (by kernel_rfl) rfl ?_
           refine WO.pn 3 rfl ?_
           refine WO.alloc (κ := K461) 49 rfl rfl rfl rfl rfl Try.zeroValue50 rfl fun b14 w467 K468 S469 f470 => ⟨((S437.tr (S450.tr (S462.tr S469))).cl rfl), ?_⟩
           refine WO.stB0 (κ := K468) 49 (vc := [.slice a84_0 x84.1.Next.length u84_0, .slice a84_1 x84.1.Out.length u84_1]) rfl rfl rfl rfl rfl rfl rfl Try.sizeOf50 rfl rfl f470 rfl fun w471 S472 f473 => ⟨((S437.tr (S450.tr (S462.tr (S469.tr S472)))).cl rfl), ?_⟩
           refine WO.pn 1 rfl ?_
           refine WO.wa ?_
           refine WA.last [] (by kernel_rfl) (by kernel_rfl) rfl ?_
           refine WO.fin ?_
           have f474 := f465.stp (S469.tr S472) rfl rfl
           have f475 := f466.stp (S469.tr S472) rfl rfl
           exact DN.meet _ ⟨(fun b => ren [(47, 38), (48, 39), (49, 40)] (K468 b)), b14, a84_0, u84_0, a84_1, u84_1, rfl, (Stp.ren ((S430.tr (S437.tr (S450.tr (S462.tr (S469.tr S472))))).wk rfl) [(47, 38), (48, 39), (49, 40)] rfl), (f474.map (ren [(47, 38), (48, 39), (49, 40)]) rfl rfl), (f475.map (ren [(47, 38), (48, 39), (49, 40)]) rfl rfl), (f473.map (ren [(47, 38), (48, 39), (49, 40)]) rfl rfl)⟩ fun a ha => (ha.more (ha.more (ha.more (ha.more (ha.more (ha.more ha.nil rfl) rfl) rfl) rfl) rfl) rfl)
          ·
           refine WO.alloc (κ := K449) 45 rfl rfl rfl rfl rfl Try.zeroValue50 rfl fun b14 w476 K477 S478 f479 => ⟨((S437.tr (S450.tr S478)).cl rfl), ?_⟩
           refine WO.wa ?_
           refine WA.seg (fuel := 0) [(4, 1), (5, 2), (6, 2), (7, 2), (9, 1), (10, 2)] (by kernel_rfl) (by kernel_rfl) rfl ?_
           have f480 := f453.stp S478 rfl rfl
           have f481 := f454.stp S478 rfl rfl
           have f482 := f455.stp S478 rfl rfl
           refine WO.call rfl rfl rfl rfl rfl rfl Try.call27 (i_CircuitMachine_ok (κ := fun b => mp [] 0 (K477 b)) (p0 := x81) (p1 := x83) (Sl.map f480.rdc (mp [] 0) rfl rfl) (Sl.map f481.rdc (mp [] 0) rfl rfl) (Sl.map f482.rdc (mp [] 0) rfl rfl) hx84) ?_
           rintro _ w483 ⟨k484, a84_0, u84_0, a84_1, u84_1, rfl, e485, f486, f487⟩
           obtain ⟨K488, S489, m490⟩ := Ent.mixed (l := []) (κ := K477) e485 46 rfl
           refine ⟨((S437.tr (S450.tr (S478.tr S489))).cl rfl), ?_⟩
           have f492 := f486.mx (no_own (no_int _) _) m490 rfl (rfl : 46 + 2 = 48)
           have f493 := f487.mx (no_own (no_int _) _) m490 rfl (rfl : 46 + 3 = 49)
           refine WO.pn 3 rfl ?_
           have f494 := f479.stp S489 rfl rfl
           refine WO.stB0 (κ := K488) 45 (vc := [.slice a84_0 x84.1.Next.length u84_0, .slice a84_1 x84.1.Out.length u84_1]) rfl rfl rfl rfl rfl rfl rfl Try.sizeOf50 rfl rfl f494 rfl fun w495 S496 f497 => ⟨((S437.tr (S450.tr (S478.tr (S489.tr S496)))).cl rfl), ?_⟩
           refine WO.pn 1 rfl ?_
           refine WO.wa ?_
           refine WA.last [] (by kernel_rfl) (by kernel_rfl) rfl ?_
           refine WO.fin ?_
           have f498 := f492.stp S496 rfl rfl
           have f499 := f493.stp S496 rfl rfl
           exact DN.meet _ ⟨(fun b => ren [(48, 38), (49, 39), (45, 40)] (K488 b)), b14, a84_0, u84_0, a84_1, u84_1, rfl, (Stp.ren ((S430.tr (S437.tr (S450.tr (S478.tr (S489.tr S496))))).wk rfl) [(48, 38), (49, 39), (45, 40)] rfl), (f498.map (ren [(48, 38), (49, 39), (45, 40)]) rfl rfl), (f499.map (ren [(48, 38), (49, 39), (45, 40)]) rfl rfl), (f497.map (ren [(48, 38), (49, 39), (45, 40)]) rfl rfl)⟩ fun a ha => (ha.more (ha.more (ha.more (ha.more (ha.more (ha.more ha.nil rfl) rfl) rfl) rfl) rfl) rfl)
         ·
          refine WO.alloc (κ := K436) 40 rfl rfl rfl rfl rfl Try.zeroValue50 rfl fun b14 w500 K501 S502 f503 => ⟨((S437.tr S502).cl rfl), ?_⟩
          refine WO.wa ?_
          refine WA.seg (fuel := 0) [(3, 1), (4, 1), (5, 2), (6, 2), (7, 2), (9, 1), (10, 2)] (by kernel_rfl) (by kernel_rfl) rfl ?_
          have f504 := f321.stp (S331.tr (S344.tr (S363.tr (S386.tr (S391.tr (S405.tr (S415.tr (S430.tr (S437.tr S502))))))))) rfl rfl
          have f505 := f322.stp (S331.tr (S344.tr (S363.tr (S386.tr (S391.tr (S405.tr (S415.tr (S430.tr (S437.tr S502))))))))) rfl rfl
          have f506 := f323.stp (S331.tr (S344.tr (S363.tr (S386.tr (S391.tr (S405.tr (S415.tr (S430.tr (S437.tr S502))))))))) rfl rfl
          refine WO.call rfl rfl rfl rfl rfl rfl Try.call26 (l_toCircuit_ok (κ := fun b => mp [] 0 (K501 b)) (p0 := p1) (Sl.map f504 (mp [] 0) rfl rfl) (Sl.map f505 (mp [] 0) rfl rfl) (Sl.map f506 (mp [] 0) rfl rfl) hx83) ?_
          rintro _ w507 ⟨k508, a83_0, u83_0, a83_1, u83_1, a83_2, u83_2, rfl, e509, f510, f511, f512⟩
          obtain ⟨K513, S514, m515⟩ := Ent.mixed (l := []) (κ := K501) e509 41 rfl
          refine ⟨((S437.tr (S502.tr S514)).cl rfl), ?_⟩
          have f517 := f510.mx (no_int _) m515 rfl (rfl : 41 + 2 = 43)
          have f518 := f511.mx Gate.no159 m515 rfl (rfl : 41 + 3 = 44)
          have f519 := f512.mx (no_int _) m515 rfl (rfl : 41 + 4 = 45)
          refine WO.call rfl rfl rfl rfl rfl rfl Try.call27 (i_CircuitMachine_ok (κ := fun b => mp [] 0 (K513 b)) (p0 := x81) (p1 := x83) (Sl.map f517.rdc (mp [] 0) rfl rfl) (Sl.map f518.rdc (mp [] 0) rfl rfl) (Sl.map f519.rdc (mp [] 0) rfl rfl) hx84) ?_
          rintro _ w520 ⟨k521, a84_0, u84_0, a84_1, u84_1, rfl, e522, f523, f524⟩
          obtain ⟨K525, S526, m527⟩ := Ent.mixed (l := []) (κ := K513) e522 46 rfl
          refine ⟨((S437.tr (S502.tr (S514.tr S526))).cl rfl), ?_⟩
          have f529 := f523.mx (no_own (no_int _) _) m527 rfl (rfl : 46 + 2 = 48)
          have f530 := f524.mx (no_own (no_int _) _) m527 rfl (rfl : 46 + 3 = 49)
          refine WO.pn 3 rfl ?_
          have f531 := f503.stp (S514.tr S526) rfl rfl
          refine WO.stB0 (κ := K525) 40 (vc := [.slice a84_0 x84.1.Next.length u84_0, .slice a84_1 x84.1.Out.length u84_1]) rfl rfl rfl rfl rfl rfl rfl Try.sizeOf50 rfl rfl f531 rfl fun w532 S533 f534 => ⟨((S437.tr (S502.tr (S514.tr (S526.tr S533)))).cl rfl), ?_⟩
          refine WO.pn 1 rfl ?_
          refine WO.wa ?_
          refine WA.last [] (by kernel_rfl) (by kernel_rfl) rfl ?_
          refine WO.fin ?_
          have f535 := f529.stp S533 rfl rfl
          have f536 := f530.stp S533 rfl rfl
          exact DN.meet _ ⟨(fun b => ren [(48, 38), (49, 39)] (K525 b)), b14, a84_0, u84_0, a84_1, u84_1, rfl, (Stp.ren ((S430.tr (S437.tr (S502.tr (S514.tr (S526.tr S533))))).wk rfl) [(48, 38), (49, 39)] rfl), (f535.map (ren [(48, 38), (49, 39)]) rfl rfl), (f536.map (ren [(48, 38), (49, 39)]) rfl rfl), (f534.map (ren [(48, 38), (49, 39)]) rfl rfl)⟩ fun a ha => (ha.more (ha.more (ha.more (ha.more (ha.more (ha.more ha.nil rfl) rfl) rfl) rfl) rfl) rfl)
        ·
         refine WO.alloc (κ := K414) 38 rfl rfl rfl rfl rfl Try.zeroValue50 rfl fun b14 w537 K538 S539 f540 => ⟨(S539.cl rfl), ?_⟩
         refine WO.wa ?_
         refine WA.seg (fuel := 0) [(1, 1), (3, 1), (4, 1), (5, 2), (6, 2), (7, 2), (9, 1), (10, 2)] (by kernel_rfl) (by kernel_rfl) rfl ?_
         refine WO.call rfl rfl rfl rfl rfl rfl Try.call25 (l_toSig_ok (κ := fun b => mp [] 0 (K538 b)) (p0 := p0) hx81) ?_
         rintro _ w541 ⟨k542, rfl, e543⟩
         obtain ⟨K544, S545, m546⟩ := Ent.mixed (l := []) (κ := K538) e543 39 rfl
         refine ⟨((S539.tr S545).cl rfl), ?_⟩
         have f548 := f321.stp (S331.tr (S344.tr (S363.tr (S386.tr (S391.tr (S405.tr (S415.tr (S430.tr (S539.tr S545))))))))) rfl rfl
         have f549 := f322.stp (S331.tr (S344.tr (S363.tr (S386.tr (S391.tr (S405.tr (S415.tr (S430.tr (S539.tr S545))))))))) rfl rfl
         have f550 := f323.stp (S331.tr (S344.tr (S363.tr (S386.tr (S391.tr (S405.tr (S415.tr (S430.tr (S539.tr S545))))))))) rfl rfl
         refine WO.call rfl rfl rfl rfl rfl rfl Try.call26 (l_toCircuit_ok (κ := fun b => mp [] 0 (K544 b)) (p0 := p1) (Sl.map f548 (mp [] 0) rfl rfl) (Sl.map f549 (mp [] 0) rfl rfl) (Sl.map f550 (mp [] 0) rfl rfl) hx83) ?_
         rintro _ w551 ⟨k552, a83_0, u83_0, a83_1, u83_1, a83_2, u83_2, rfl, e553, f554, f555, f556⟩
         obtain ⟨K557, S558, m559⟩ := Ent.mixed (l := []) (κ := K544) e553 41 rfl
         refine ⟨((S539.tr (S545.tr S558)).cl rfl), ?_⟩
         have f561 := f554.mx (no_int _) m559 rfl (rfl : 41 + 2 = 43)
         have f562 := f555.mx Gate.no159 m559 rfl (rfl : 41 + 3 = 44)
         have f563 := f556.mx (no_int _) m559 rfl (rfl : 41 + 4 = 45)
         refine WO.call rfl rfl rfl rfl rfl rfl Try.call27 (i_CircuitMachine_ok (κ := fun b => mp [] 0 (K557 b)) (p0 := x81) (p1 := x83) (Sl.map f561.rdc (mp [] 0) rfl rfl) (Sl.map f562.rdc (mp [] 0) rfl rfl) (Sl.map f563.rdc (mp [] 0) rfl rfl) hx84) ?_
         rintro _ w564 ⟨k565, a84_0, u84_0, a84_1, u84_1, rfl, e566, f567, f568⟩
         obtain ⟨K569, S570, m571⟩ := Ent.mixed (l := []) (κ := K557) e566 46 rfl
         refine ⟨((S539.tr (S545.tr (S558.tr S570))).cl rfl), ?_⟩
         have f573 := f567.mx (no_own (no_int _) _) m571 rfl (rfl : 46 + 2 = 48)
         have f574 := f568.mx (no_own (no_int _) _) m571 rfl (rfl : 46 + 3 = 49)
         refine WO.pn 3 rfl ?_
         have f575 := f540.stp (S545.tr (S558.tr S570)) rfl rfl
         refine WO.stB0 (κ := K569) 38 (vc := [.slice a84_0 x84.1.Next.length u84_0, .slice a84_1 x84.1.Out.length u84_1]) rfl rfl rfl rfl rfl rfl rfl Try.sizeOf50 rfl rfl f575 rfl fun w576 S577 f578 => ⟨((S539.tr (S545.tr (S558.tr (S570.tr S577)))).cl rfl), ?_⟩
         refine WO.pn 1 rfl ?_
         refine WO.wa ?_
         refine WA.last [] (by kernel_rfl) (by kernel_rfl) rfl ?_
         refine WO.fin ?_
         have f579 := f573.stp S577 rfl rfl
         have f580 := f574.stp S577 rfl rfl
         exact DN.meet _ ⟨(fun b => ren [(48, 38), (49, 39), (38, 40)] (K569 b)), b14, a84_0, u84_0, a84_1, u84_1, rfl, (Stp.ren ((S430.tr (S539.tr (S545.tr (S558.tr (S570.tr S577))))).wk rfl) [(48, 38), (49, 39), (38, 40)] rfl), (f579.map (ren [(48, 38), (49, 39), (38, 40)]) rfl rfl), (f580.map (ren [(48, 38), (49, 39), (38, 40)]) rfl rfl), (f578.map (ren [(48, 38), (49, 39), (38, 40)]) rfl rfl)⟩ fun a ha => (ha.more (ha.more (ha.more (ha.more (ha.more (ha.more ha.nil rfl) rfl) rfl) rfl) rfl) rfl)
       rintro _ w422 ⟨K423, b14, lar425_0, lur425_0, lar425_1, lur425_1, rfl, S424, f426, f427, f428⟩
       refine DN.seq ?_
       refine WC.seq ?_
       refine WC.seq ?_
       refine WC.rs [(0, 1), (1, 1), (2, 1), (3, 2), (4, 2), (5, 2), (6, 2), (7, 2), (8, 2)] rfl ?_
       refine WO.k1 trivial rfl rfl rfl rfl (rn_la (cs := [.slice lar425_0 x84.1.Next.length lur425_0, .slice lar425_1 x84.1.Out.length lur425_1]) Try.isAgg50 Try.sizeOf50 rfl rfl rfl (haE f428.cells)) ?_
       have f581 := f300.stp (S307.tr (S314.tr (S317.tr (S331.tr (S344.tr (S363.tr (S386.tr (S391.tr (S405.tr (S415.tr S424)))))))))) rfl rfl
       refine WO.k1 trivial rfl rfl rfl rfl (rn_la (cs := [.slice lar24_0 x26.1.Next.length lur24_0, .slice lar24_1 x26.1.Out.length lur24_1]) Try.isAgg50 Try.sizeOf50 rfl rfl rfl (haE f581.cells)) ?_
       obtain ⟨x89, hx89, h⟩ := Option.bind_eq_some_iff.mp h
       have f582 := f301.stp (S307.tr (S314.tr (S317.tr (S331.tr (S344.tr (S363.tr (S386.tr (S391.tr (S405.tr (S415.tr S424)))))))))) rfl rfl
       have f583 := f302.stp (S307.tr (S314.tr (S317.tr (S331.tr (S344.tr (S363.tr (S386.tr (S391.tr (S405.tr (S415.tr S424)))))))))) rfl rfl
       refine WO.call rfl rfl rfl rfl rfl rfl Try.call28 (l_eqMachine_ok (κ := fun b => mp [] 0 (K423 b)) (p0 := x84.1) (p1 := x26.1) (Sl.map f426.rdc (mp [] 0) rfl rfl) (Sl.map f427.rdc (mp [] 0) rfl rfl) (Sl.map f582.rdc (mp [] 0) rfl rfl) (Sl.map f583.rdc (mp [] 0) rfl rfl) hx89) ?_
       rintro _ w584 ⟨k585, rfl, e586⟩
       obtain ⟨K587, S588, m589⟩ := Ent.mixed (l := []) (κ := K423) e586 41 rfl
       refine ⟨trivial, ?_⟩
       refine WO.pn 2 rfl ?_
       obtain ⟨p95, h, hK591⟩ := Option.bind_eq_some_iff.mp h
       refine WO.meet [(5, 2), (6, 2), (7, 2), (8, 2)] [] (fun L w' => L = [(9, .pointer (some ⟨b9, 0, none⟩)), (12, .int .i64 x70.1), (95, .bool p95)] ∧ ∃ κ', Stp [] K587 w584 κ' w') trivial ?_ ?_
       ·
        revert h
        cases ht592 : (!x89) with
        | true =>
         intro h; replace h := cT h
         refine WO.pn 4 rfl ?_
         obtain rfl := Option.some.inj h
         exact WO.met _ trivial ⟨rfl, _, (Stp.refl _ _).wk rfl⟩ fun a ha => (ha.more (ha.more (ha.more ha.nil rfl) rfl) rfl)
        | false =>
         intro h; replace h := cF h
         refine WO.pn 2 rfl ?_
         refine WO.k2 rfl rfl rfl rfl (rn_neqB rfl rfl Try.runUnderlying4 rfl) ?_
         refine WO.pn 1 rfl ?_
         obtain rfl := Option.some.inj h
         exact WO.met _ trivial ⟨rfl, _, (Stp.refl _ _).wk rfl⟩ fun a ha => (ha.more (ha.more (ha.more ha.nil rfl) rfl) rfl)
       rintro _ w593 _ ⟨rfl, K594, S595⟩
       have h := hK591
       refine WO.fin ?_
       refine DN.seq ?_
       revert h
       cases ht596 : p95 with
       | true =>
        intro h; replace h := cT h
        refine WC.ct rfl ?_
        refine WC.seq ?_
        refine WC.rs [(0, 2)] rfl ?_
        refine WO.pn 1 rfl ?_
        refine WO.fin ?_
        refine DN.seq ?_
        refine WC.ret ?_
        refine DN.retThen ?_
        have f597 := hE.stp (S3.tr (S7.tr (S16.tr (S23.tr (S191.tr (S199.tr (S202.tr (S206.tr (S307.tr (S314.tr (S317.tr (S331.tr (S344.tr (S363.tr (S386.tr (S391.tr (S405.tr (S415.tr (S424.tr (S588.tr S595)))))))))))))))))))) rfl rfl
        refine DN.res (l := [.tmp 4]) Try.results4 (res_tmp rfl rfl) rfl ?_
        obtain rfl := Option.some.inj h
        exact ⟨K594, rfl, f597⟩
       | false =>
        intro h; replace h := cF h
        refine WC.cf rfl ?_
        refine WC.skip ?_
        refine DN.seq ?_
        refine WC.seq ?_
        refine WC.rs [(0, 2)] rfl ?_
        refine WO.pn 1 rfl ?_
        refine WO.fin ?_
        refine DN.seq ?_
        refine WC.seq ?_
        refine WC.rs [(0, 1), (1, 2), (2, 1), (3, 2)] rfl ?_
        have f598 := f410.stp (S415.tr (S424.tr (S588.tr S595))) rfl rfl
        refine WO.k1 trivial rfl rfl rfl rfl (rn_la (cs := [.slice lar207_0 x35.1.Next.length lur207_0, .slice lar207_1 x35.1.Out.length lur207_1]) Try.isAgg50 Try.sizeOf50 rfl rfl rfl (haE f598.cells)) ?_
        refine WO.pn 1 rfl ?_
        obtain ⟨x98, hx98, h⟩ := Option.bind_eq_some_iff.mp h
        have f599 := f408.stp (S415.tr (S424.tr (S588.tr S595))) rfl rfl
        have f600 := f409.stp (S415.tr (S424.tr (S588.tr S595))) rfl rfl
        refine WO.call rfl rfl rfl rfl rfl rfl Try.call32 (Ret.cast (by simp only [(hn401), (hn403), List.cons_append, List.nil_append]) (l_heldMachine_ok (κ := fun b => mp [] 0 (K594 b)) (p0 := (⟨x70.2.1, x70.2.2⟩ : Machine)) (Sl.map f599.rdc (mp [] 0) rfl rfl) (Sl.map f600.rdc (mp [] 0) rfl rfl) hx98)) ?_
        rintro _ w601 ⟨k602, rfl, e603⟩
        obtain ⟨K604, S605, m606⟩ := Ent.mixed (l := []) (κ := K594) e603 43 rfl
        refine ⟨trivial, ?_⟩
        refine WO.pn 1 rfl ?_
        refine WO.fin ?_
        refine DN.seq ?_
        refine WC.seq ?_
        refine WC.seq ?_
        refine WC.rs [(0, 2), (1, 2)] rfl ?_
        refine WO.pn 2 rfl ?_
        refine WO.fin ?_
        refine DN.seq ?_
        revert h
        cases ht608 : decide (x98 < 0) with
        | true =>
         intro h; replace h := cT h
         refine WC.ct rfl ?_
         refine WC.seq ?_
         refine WC.rs [(0, 2)] rfl ?_
         refine WO.pn 1 rfl ?_
         refine WO.fin ?_
         refine DN.seq ?_
         refine WC.ret ?_
         refine DN.retThen ?_
         have f609 := hE.stp (S3.tr (S7.tr (S16.tr (S23.tr (S191.tr (S199.tr (S202.tr (S206.tr (S307.tr (S314.tr (S317.tr (S331.tr (S344.tr (S363.tr (S386.tr (S391.tr (S405.tr (S415.tr (S424.tr (S588.tr (S595.tr S605))))))))))))))))))))) rfl rfl
         refine DN.res (l := [.tmp 4]) Try.results4 (res_tmp rfl rfl) rfl ?_
         obtain rfl := Option.some.inj h
         exact ⟨K604, rfl, f609⟩
        | false =>
         intro h; replace h := cF h
         refine WC.cf rfl ?_
         refine WC.skip ?_
         refine DN.seq ?_
         refine WC.seq ?_
         refine WC.seq ?_
         refine WC.rs [(0, 2), (1, 2), (2, 2)] rfl ?_
         refine WO.pn 3 rfl ?_
         refine WO.fin ?_
         refine DN.seq ?_
         revert h
         cases ht610 : (x98 != x70.1) with
         | true =>
          intro h; replace h := cT h
          refine WC.ct rfl ?_
          refine WC.seq ?_
          refine WC.rs [(0, 2)] rfl ?_
          refine WO.pn 1 rfl ?_
          refine WO.fin ?_
          refine DN.seq ?_
          refine WC.ret ?_
          refine DN.retThen ?_
          have f611 := hE.stp (S3.tr (S7.tr (S16.tr (S23.tr (S191.tr (S199.tr (S202.tr (S206.tr (S307.tr (S314.tr (S317.tr (S331.tr (S344.tr (S363.tr (S386.tr (S391.tr (S405.tr (S415.tr (S424.tr (S588.tr (S595.tr S605))))))))))))))))))))) rfl rfl
          refine DN.res (l := [.tmp 4]) Try.results4 (res_tmp rfl rfl) rfl ?_
          obtain rfl := Option.some.inj h
          exact ⟨K604, rfl, f611⟩
         | false =>
          intro h; replace h := cF h
          refine WC.cf rfl ?_
          refine WC.skip ?_
          refine DN.seq ?_
          refine WC.seq ?_
          refine WC.rs [(0, 2)] rfl ?_
          refine WO.pn 1 rfl ?_
          refine WO.fin ?_
          refine DN.seq ?_
          refine WC.ret ?_
          have f612 := hE.stp (S3.tr (S7.tr (S16.tr (S23.tr (S191.tr (S199.tr (S202.tr (S206.tr (S307.tr (S314.tr (S317.tr (S331.tr (S344.tr (S363.tr (S386.tr (S391.tr (S405.tr (S415.tr (S424.tr (S588.tr (S595.tr S605))))))))))))))))))))) rfl rfl
          refine DN.res (l := [.tmp 4]) Try.results4 (res_tmp rfl rfl) rfl ?_
          obtain rfl := Option.some.inj h
          exact ⟨K604, rfl, f612⟩

end Go.Proofs.Ytfmkhnlnomkcfaa
