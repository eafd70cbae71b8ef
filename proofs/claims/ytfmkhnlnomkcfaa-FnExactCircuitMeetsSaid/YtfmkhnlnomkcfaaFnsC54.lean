/- The walks, part 4. By program. -/
import Derived.Test.YtfmkhnlnomkcfaaFnsC53
set_option linter.unusedVariables false
set_option linter.unusedSimpArgs false
namespace Go.Proofs.Ytfmkhnlnomkcfaa
open Go Go.Wk Go.Proofs
set_option maxRecDepth 100000
set_option maxHeartbeats 1000000

/- loop.example/g00869/laws.FnExactCircuitMeets -/
theorem l_FnExactCircuitMeets_ok {w : World} {κ : Col} {p0 : Sig} {a1_2 : Option Addr} {u1_2 : Nat} {a1_3 : Option Addr} {u1_3 : Nat} {a1_4 : Option Addr} {u1_4 : Nat} {p1 : Circuit} {a2_0 : Option Addr} {u2_0 : Nat} {a2_1 : Option Addr} {u2_1 : Nat} {p2 : Machine} (g1_2 : Rd (Rp.int .i64) κ w 0 a1_2 u1_2 p1.Next) (g1_3 : Rd Gate.rp κ w 0 a1_3 u1_3 p1.Gates) (g1_4 : Rd (Rp.int .i64) κ w 0 a1_4 u1_4 p1.Outs) (g2_0 : Rd (Rp.sl (Rp.int .i64)) κ w 0 a2_0 u2_0 p2.Next) (g2_1 : Rd (Rp.sl (Rp.int .i64)) κ w 0 a2_1 u2_1 p2.Out) {r : Bool} (h : l_FnExactCircuitMeets p0 p1 p2 = some r) : Ret Try.prog 5 [.agg #[.int .i64 p0.In, .int .i64 p0.Out], .agg #[.int .i64 p1.Inputs, .int .i64 p1.Latches, .slice a1_2 p1.Next.length u1_2, .slice a1_3 p1.Gates.length u1_3, .slice a1_4 p1.Outs.length u1_4], .agg #[.slice a2_0 p2.Next.length u2_0, .slice a2_1 p2.Out.length u2_1]] w (fun v w' => ∃ (κ' : Col), v = .bool r ∧ Ent κ w κ' w') := by
 unfold l_FnExactCircuitMeets at h
 refine Ret.enter Try.func5 rfl Try.ntmps5 rfl ?_
 dsimp only [envOf]
 have hE := Ent.refl κ w
 refine WC.seq ?_
 refine WC.rs [(0, 1), (1, 1), (2, 1), (3, 2)] rfl ?_
 refine WO.box (κ := κ) 2 rfl rfl rfl rfl rfl rfl rfl fun b3 w1 K2 S3 f4 => ⟨trivial, ?_⟩
 refine WO.box (κ := K2) 3 rfl rfl rfl rfl rfl rfl rfl fun b4 w5 K6 S7 f8 => ⟨trivial, ?_⟩
 refine WO.box (κ := K6) 4 rfl rfl rfl rfl rfl rfl rfl fun b5 w9 K10 S11 f12 => ⟨trivial, ?_⟩
 refine WO.pn 1 rfl ?_
 refine WO.fin ?_
 refine DN.seq ?_
 refine WC.seq ?_
 refine WC.rs [(0, 2)] rfl ?_
 refine WO.pn 1 rfl ?_
 refine WO.fin ?_
 refine DN.seq ?_
 refine WC.seq ?_
 refine WC.rs [(0, 1), (1, 2), (2, 1), (3, 2)] rfl ?_
 have f13 := f8.stp S11 rfl rfl
 refine WO.k1 trivial rfl rfl rfl rfl (rn_la (cs := [.int .i64 p1.Inputs, .int .i64 p1.Latches, .slice a1_2 p1.Next.length u1_2, .slice a1_3 p1.Gates.length u1_3, .slice a1_4 p1.Outs.length u1_4]) Try.isAgg47 Try.sizeOf47 rfl rfl rfl (haE f13.cells)) ?_
 refine WO.pn 1 rfl ?_
 obtain ⟨x14, hx14, h⟩ := Option.bind_eq_some_iff.mp h
 have f14 := g1_2.stp (S3.tr (S7.tr S11)) rfl rfl
 have f15 := g1_3.stp (S3.tr (S7.tr S11)) rfl rfl
 have f16 := g1_4.stp (S3.tr (S7.tr S11)) rfl rfl
 refine WO.call rfl rfl rfl rfl rfl rfl Try.call23 (l_szCircuit_ok (κ := fun b => mp [] 0 (K10 b)) (p0 := p1) (Sl.map f14 (mp [] 0) rfl rfl) (Sl.map f15 (mp [] 0) rfl rfl) (Sl.map f16 (mp [] 0) rfl rfl) hx14) ?_
 rintro _ w17 ⟨k18, rfl, e19⟩
 obtain ⟨K20, S21, m22⟩ := Ent.mixed (l := []) (κ := K10) e19 5 rfl
 refine ⟨trivial, ?_⟩
 refine WO.pn 1 rfl ?_
 refine WO.fin ?_
 refine DN.seq ?_
 refine WC.seq ?_
 refine WC.seq ?_
 refine WC.rs [(0, 2), (1, 2)] rfl ?_
 refine WO.pn 2 rfl ?_
 refine WO.fin ?_
 refine DN.seq ?_
 revert h
 cases ht24 : decide (x14 < 0) with
 | true =>
  intro h; replace h := cT h
  refine WC.ct rfl ?_
  refine WC.seq ?_
  refine WC.rs [(0, 2)] rfl ?_
  refine WO.pn 1 rfl ?_
  refine WO.fin ?_
  refine DN.seq ?_
  refine WC.ret ?_
  refine DN.retThen ?_
  have f25 := hE.stp (S3.tr (S7.tr (S11.tr S21))) rfl rfl
  refine DN.res (l := [.tmp 6]) Try.results5 (res_tmp rfl rfl) rfl ?_
  obtain rfl := Option.some.inj h
  exact ⟨K20, rfl, f25⟩
 | false =>
  intro h; replace h := cF h
  refine WC.cf rfl ?_
  refine WC.skip ?_
  refine DN.seq ?_
  refine WC.seq ?_
  refine WC.rs [(0, 1), (1, 2), (2, 1), (3, 2)] rfl ?_
  have f26 := f12.stp S21 rfl rfl
  refine WO.k1 trivial rfl rfl rfl rfl (rn_la (cs := [.slice a2_0 p2.Next.length u2_0, .slice a2_1 p2.Out.length u2_1]) Try.isAgg64 Try.sizeOf64 rfl rfl rfl (haE f26.cells)) ?_
  refine WO.pn 1 rfl ?_
  obtain ⟨x19, hx19, h⟩ := Option.bind_eq_some_iff.mp h
  have f27 := g2_0.stp (S3.tr (S7.tr (S11.tr S21))) rfl rfl
  have f28 := g2_1.stp (S3.tr (S7.tr (S11.tr S21))) rfl rfl
  refine WO.call rfl rfl rfl rfl rfl rfl Try.call33 (l_szMachine_ok (κ := fun b => mp [] 0 (K20 b)) (p0 := p2) (Sl.map f27 (mp [] 0) rfl rfl) (Sl.map f28 (mp [] 0) rfl rfl) hx19) ?_
  rintro _ w29 ⟨k30, rfl, e31⟩
  obtain ⟨K32, S33, m34⟩ := Ent.mixed (l := []) (κ := K20) e31 7 rfl
  refine ⟨trivial, ?_⟩
  refine WO.pn 1 rfl ?_
  refine WO.fin ?_
  refine DN.seq ?_
  refine WC.seq ?_
  refine WC.seq ?_
  refine WC.rs [(0, 2), (1, 2)] rfl ?_
  refine WO.pn 2 rfl ?_
  refine WO.fin ?_
  refine DN.seq ?_
  revert h
  cases ht36 : decide (x19 < 0) with
  | true =>
   intro h; replace h := cT h
   refine WC.ct rfl ?_
   refine WC.seq ?_
   refine WC.rs [(0, 2)] rfl ?_
   refine WO.pn 1 rfl ?_
   refine WO.fin ?_
   refine DN.seq ?_
   refine WC.ret ?_
   refine DN.retThen ?_
   have f37 := hE.stp (S3.tr (S7.tr (S11.tr (S21.tr S33)))) rfl rfl
   refine DN.res (l := [.tmp 6]) Try.results5 (res_tmp rfl rfl) rfl ?_
   obtain rfl := Option.some.inj h
   exact ⟨K32, rfl, f37⟩
  | false =>
   intro h; replace h := cF h
   refine WC.cf rfl ?_
   refine WC.skip ?_
   refine DN.seq ?_
   refine WC.seq ?_
   refine WC.rx (κ := K32) [2, 3, 4] none [(0, 0), (2, 0), (4, 0), (1, 1), (3, 1), (5, 1), (6, 1), (7, 2)] [] (by kernel_rfl) (by kernel_rfl) fun w39 S38 => ?_
   have f40 := f4.stp (S7.tr (S11.tr (S21.tr (S33.tr S38)))) rfl rfl
   refine WO.k0 rfl rfl rfl rfl (rn_la (cs := [.int .i64 p0.In, .int .i64 p0.Out]) Try.isAgg44 Try.sizeOf44 rfl rfl rfl (haC f40.cells rfl)) ?_
   have f41 := f13.stp (S21.tr (S33.tr S38)) rfl rfl
   refine WO.k0 rfl rfl rfl rfl (rn_la (cs := [.int .i64 p1.Inputs, .int .i64 p1.Latches, .slice a1_2 p1.Next.length u1_2, .slice a1_3 p1.Gates.length u1_3, .slice a1_4 p1.Outs.length u1_4]) Try.isAgg47 Try.sizeOf47 rfl rfl rfl (haC f41.cells rfl)) ?_
   have f42 := f26.stp (S33.tr S38) rfl rfl
   refine WO.k0 rfl rfl rfl rfl (rn_la (cs := [.slice a2_0 p2.Next.length u2_0, .slice a2_1 p2.Out.length u2_1]) Try.isAgg64 Try.sizeOf64 rfl rfl rfl (haC f42.cells rfl)) ?_
   obtain ⟨x23, hx23, h⟩ := Option.bind_eq_some_iff.mp h
   refine WO.call rfl rfl rfl rfl rfl rfl Try.call25 (l_toSig_ok (κ := fun b => mp [] 0 (K32 b)) (p0 := p0) hx23) ?_
   rintro _ w43 ⟨k44, rfl, e45⟩
   obtain ⟨K46, S47, m48⟩ := Ent.mixed (l := []) (κ := K32) e45 9 rfl
   refine ⟨(S47.cl rfl), ?_⟩
   obtain ⟨x25, hx25, h⟩ := Option.bind_eq_some_iff.mp h
   have f50 := f14.stp (S21.tr (S33.tr (S38.tr S47))) rfl rfl
   have f51 := f15.stp (S21.tr (S33.tr (S38.tr S47))) rfl rfl
   have f52 := f16.stp (S21.tr (S33.tr (S38.tr S47))) rfl rfl
   refine WO.call rfl rfl rfl rfl rfl rfl Try.call26 (l_toCircuit_ok (κ := fun b => mp [] 0 (K46 b)) (p0 := p1) (Sl.map f50 (mp [] 0) rfl rfl) (Sl.map f51 (mp [] 0) rfl rfl) (Sl.map f52 (mp [] 0) rfl rfl) hx25) ?_
   rintro _ w53 ⟨k54, a25_0, u25_0, a25_1, u25_1, a25_2, u25_2, rfl, e55, f56, f57, f58⟩
   obtain ⟨K59, S60, m61⟩ := Ent.mixed (l := []) (κ := K46) e55 11 rfl
   refine ⟨((S47.tr S60).cl rfl), ?_⟩
   have f63 := f56.mx (no_int _) m61 rfl (rfl : 11 + 2 = 13)
   have f64 := f57.mx Gate.no159 m61 rfl (rfl : 11 + 3 = 14)
   have f65 := f58.mx (no_int _) m61 rfl (rfl : 11 + 4 = 15)
   obtain ⟨x27, hx27, h⟩ := Option.bind_eq_some_iff.mp h
   have f66 := f27.stp (S33.tr (S38.tr (S47.tr S60))) rfl rfl
   have f67 := f28.stp (S33.tr (S38.tr (S47.tr S60))) rfl rfl
   refine WO.call rfl rfl rfl rfl rfl rfl Try.call35 (l_toMachine_ok (κ := fun b => mp [] 0 (K59 b)) (p0 := p2) (Sl.map f66 (mp [] 0) rfl rfl) (Sl.map f67 (mp [] 0) rfl rfl) hx27) ?_
   rintro _ w68 ⟨k69, a27_0, u27_0, a27_1, u27_1, rfl, e70, f71, f72⟩
   obtain ⟨K73, S74, m75⟩ := Ent.mixed (l := []) (κ := K59) e70 16 rfl
   refine ⟨((S47.tr (S60.tr S74)).cl rfl), ?_⟩
   have f77 := f71.mx (no_own (no_int _) _) m75 rfl (rfl : 16 + 2 = 18)
   have f78 := f72.mx (no_own (no_int _) _) m75 rfl (rfl : 16 + 3 = 19)
   obtain ⟨x28, hx28, h⟩ := Option.bind_eq_some_iff.mp h
   have f79 := f63.stp S74 rfl rfl
   have f80 := f64.stp S74 rfl rfl
   have f81 := f65.stp S74 rfl rfl
   refine WO.call rfl rfl rfl rfl rfl rfl Try.call34 (s_CircuitMeets_ok (κ := fun b => mp [] 0 (K73 b)) (p0 := x23) (p1 := x25) (p2 := x27) (Sl.map f79.rdc (mp [] 0) rfl rfl) (Sl.map f80.rdc (mp [] 0) rfl rfl) (Sl.map f81.rdc (mp [] 0) rfl rfl) (Sl.map f77.rdc (mp [] 0) rfl rfl) (Sl.map f78.rdc (mp [] 0) rfl rfl) hx28) ?_
   rintro _ w82 ⟨k83, rfl, e84⟩
   obtain ⟨K85, S86, m87⟩ := Ent.mixed (l := []) (κ := K73) e84 20 rfl
   refine ⟨((S47.tr (S60.tr (S74.tr S86))).cl rfl), ?_⟩
   refine WO.pn 1 rfl ?_
   refine WO.nx ?_
   refine WO.fin ?_
   refine DN.seq ?_
   refine WC.seq ?_
   refine WC.rs [(0, 1), (1, 1), (2, 1), (3, 1)] rfl ?_
   have f89 := f41.stp (S47.tr (S60.tr (S74.tr S86))) rfl rfl
   refine WO.k1 trivial rfl rfl rfl rfl (rn_la (cs := [.int .i64 p1.Inputs, .int .i64 p1.Latches, .slice a1_2 p1.Next.length u1_2, .slice a1_3 p1.Gates.length u1_3, .slice a1_4 p1.Outs.length u1_4]) Try.isAgg47 Try.sizeOf47 rfl rfl rfl (haE f89.cells)) ?_
   obtain ⟨x30, hx30, h⟩ := Option.bind_eq_some_iff.mp h
   have f90 := f50.stp (S60.tr (S74.tr S86)) rfl rfl
   have f91 := f51.stp (S60.tr (S74.tr S86)) rfl rfl
   have f92 := f52.stp (S60.tr (S74.tr S86)) rfl rfl
   refine WO.call rfl rfl rfl rfl rfl rfl Try.call26 (l_toCircuit_ok (κ := fun b => mp [] 0 (K85 b)) (p0 := p1) (Sl.map f90 (mp [] 0) rfl rfl) (Sl.map f91 (mp [] 0) rfl rfl) (Sl.map f92 (mp [] 0) rfl rfl) hx30) ?_
   rintro _ w93 ⟨k94, a30_0, u30_0, a30_1, u30_1, a30_2, u30_2, rfl, e95, f96, f97, f98⟩
   obtain ⟨K99, S100, m101⟩ := Ent.mixed (l := []) (κ := K85) e95 22 rfl
   refine ⟨trivial, ?_⟩
   have f103 := f96.mx (no_int _) m101 rfl (rfl : 22 + 2 = 24)
   have f104 := f97.mx Gate.no159 m101 rfl (rfl : 22 + 3 = 25)
   have f105 := f98.mx (no_int _) m101 rfl (rfl : 22 + 4 = 26)
   refine WO.alloc (κ := K99) 27 rfl rfl rfl rfl rfl Try.zeroValue57 rfl fun b9 w106 K107 S108 f109 => ⟨trivial, ?_⟩
   refine WO.stB0 (κ := K107) 27 (vc := [.int .i64 x30.Inputs, .int .i64 x30.Latches, .slice a30_0 x30.Next.length u30_0, .slice a30_1 x30.Gates.length u30_1, .slice a30_2 x30.Outs.length u30_2]) rfl rfl rfl rfl rfl rfl rfl Try.sizeOf57 rfl rfl f109 rfl fun w110 S111 f112 => ⟨trivial, ?_⟩
   refine WO.fin ?_
   refine DN.seq ?_
   refine WC.seq ?_
   refine WC.rs [(0, 1), (1, 1), (2, 1), (3, 1)] rfl ?_
   have f113 := f42.stp (S47.tr (S60.tr (S74.tr (S86.tr (S100.tr (S108.tr S111)))))) rfl rfl
   refine WO.k1 trivial rfl rfl rfl rfl (rn_la (cs := [.slice a2_0 p2.Next.length u2_0, .slice a2_1 p2.Out.length u2_1]) Try.isAgg64 Try.sizeOf64 rfl rfl rfl (haE f113.cells)) ?_
   obtain ⟨x32, hx32, h⟩ := Option.bind_eq_some_iff.mp h
   have f114 := f66.stp (S74.tr (S86.tr (S100.tr (S108.tr S111)))) rfl rfl
   have f115 := f67.stp (S74.tr (S86.tr (S100.tr (S108.tr S111)))) rfl rfl
   refine WO.call rfl rfl rfl rfl rfl rfl Try.call35 (l_toMachine_ok (κ := fun b => mp [] 0 (K107 b)) (p0 := p2) (Sl.map f114 (mp [] 0) rfl rfl) (Sl.map f115 (mp [] 0) rfl rfl) hx32) ?_
   rintro _ w116 ⟨k117, a32_0, u32_0, a32_1, u32_1, rfl, e118, f119, f120⟩
   obtain ⟨K121, S122, m123⟩ := Ent.mixed (l := []) (κ := K107) e118 28 rfl
   refine ⟨trivial, ?_⟩
   have f125 := f119.mx (no_own (no_int _) _) m123 rfl (rfl : 28 + 2 = 30)
   have f126 := f120.mx (no_own (no_int _) _) m123 rfl (rfl : 28 + 3 = 31)
   refine WO.alloc (κ := K121) 32 rfl rfl rfl rfl rfl Try.zeroValue50 rfl fun b10 w127 K128 S129 f130 => ⟨trivial, ?_⟩
   refine WO.stB0 (κ := K128) 32 (vc := [.slice a32_0 x32.Next.length u32_0, .slice a32_1 x32.Out.length u32_1]) rfl rfl rfl rfl rfl rfl rfl Try.sizeOf50 rfl rfl f130 rfl fun w131 S132 f133 => ⟨trivial, ?_⟩
   refine WO.fin ?_
   refine DN.seq ?_
   refine WC.seq ?_
   refine WC.rx (κ := K128) [2, 27, 32] none [(0, 0), (2, 0), (3, 0), (1, 1), (4, 1), (5, 2)] [] (by kernel_rfl) (by kernel_rfl) fun w135 S134 => ?_
   have f136 := f40.stp (S47.tr (S60.tr (S74.tr (S86.tr (S100.tr (S108.tr (S111.tr (S122.tr (S129.tr (S132.tr S134)))))))))) rfl rfl
   refine WO.k0 rfl rfl rfl rfl (rn_la (cs := [.int .i64 p0.In, .int .i64 p0.Out]) Try.isAgg44 Try.sizeOf44 rfl rfl rfl (haC f136.cells rfl)) ?_
   have f137 := f112.stp (S122.tr (S129.tr (S132.tr S134))) rfl rfl
   refine WO.k0 rfl rfl rfl rfl (rn_la (cs := [.int .i64 x30.Inputs, .int .i64 x30.Latches, .slice a30_0 x30.Next.length u30_0, .slice a30_1 x30.Gates.length u30_1, .slice a30_2 x30.Outs.length u30_2]) Try.isAgg57 Try.sizeOf57 rfl rfl rfl (haC f137.cells rfl)) ?_
   have f138 := f133.stp S134 rfl rfl
   refine WO.k0 rfl rfl rfl rfl (rn_la (cs := [.slice a32_0 x32.Next.length u32_0, .slice a32_1 x32.Out.length u32_1]) Try.isAgg50 Try.sizeOf50 rfl rfl rfl (haC f138.cells rfl)) ?_
   obtain ⟨x34, hx34, h⟩ := Option.bind_eq_some_iff.mp h
   refine WO.call rfl rfl rfl rfl rfl rfl Try.call25 (l_toSig_ok (κ := fun b => mp [] 0 (K128 b)) (p0 := p0) hx34) ?_
   rintro _ w139 ⟨k140, rfl, e141⟩
   obtain ⟨K142, S143, m144⟩ := Ent.mixed (l := []) (κ := K128) e141 33 rfl
   refine ⟨(S143.cl rfl), ?_⟩
   obtain ⟨x37, hx37, h⟩ := Option.bind_eq_some_iff.mp h
   have f146 := f103.stp (S108.tr (S111.tr (S122.tr (S129.tr (S132.tr (S134.tr S143)))))) rfl rfl
   have f147 := f104.stp (S108.tr (S111.tr (S122.tr (S129.tr (S132.tr (S134.tr S143)))))) rfl rfl
   have f148 := f105.stp (S108.tr (S111.tr (S122.tr (S129.tr (S132.tr (S134.tr S143)))))) rfl rfl
   have f149 := f125.stp (S129.tr (S132.tr (S134.tr S143))) rfl rfl
   have f150 := f126.stp (S129.tr (S132.tr (S134.tr S143))) rfl rfl
   refine WO.call rfl rfl rfl rfl rfl rfl Try.call36 (i_CircuitMeets_ok (κ := fun b => mp [] 0 (K142 b)) (p0 := x34) (p1 := x30) (p2 := x32) (Sl.map f146.rdc (mp [] 0) rfl rfl) (Sl.map f147.rdc (mp [] 0) rfl rfl) (Sl.map f148.rdc (mp [] 0) rfl rfl) (Sl.map f149.rdc (mp [] 0) rfl rfl) (Sl.map f150.rdc (mp [] 0) rfl rfl) hx37) ?_
   rintro _ w151 ⟨k152, rfl, e153⟩
   obtain ⟨K154, S155, m156⟩ := Ent.mixed (l := []) (κ := K142) e153 35 rfl
   refine ⟨((S143.tr S155).cl rfl), ?_⟩
   refine WO.pn 1 rfl ?_
   refine WO.nx ?_
   refine WO.fin ?_
   refine DN.seq ?_
   refine WC.seq ?_
   refine WC.seq ?_
   refine WC.rs [(0, 2), (1, 2), (2, 2)] rfl ?_
   refine WO.pn 2 rfl ?_
   refine WO.k2 rfl rfl rfl rfl (rn_neqB rfl rfl Try.runUnderlying4 rfl) ?_
   refine WO.fin ?_
   refine DN.seq ?_
   revert h
   cases ht158 : (x37 != x28) with
   | true =>
    intro h; replace h := cT h
    refine WC.ct rfl ?_
    refine WC.seq ?_
    refine WC.rs [(0, 2)] rfl ?_
    refine WO.pn 1 rfl ?_
    refine WO.fin ?_
    refine DN.seq ?_
    refine WC.ret ?_
    refine DN.retThen ?_
    have f159 := hE.stp (S3.tr (S7.tr (S11.tr (S21.tr (S33.tr (S38.tr (S47.tr (S60.tr (S74.tr (S86.tr (S100.tr (S108.tr (S111.tr (S122.tr (S129.tr (S132.tr (S134.tr (S143.tr S155)))))))))))))))))) rfl rfl
    refine DN.res (l := [.tmp 6]) Try.results5 (res_tmp rfl rfl) rfl ?_
    obtain rfl := Option.some.inj h
    exact ⟨K154, rfl, f159⟩
   | false =>
    intro h; replace h := cF h
    refine WC.cf rfl ?_
    refine WC.skip ?_
    refine DN.seq ?_
    refine WC.seq ?_
    refine WC.seq ?_
    refine WC.rx (κ := K154) [3, 27] none [(0, 0), (1, 0), (2, 1), (3, 1), (4, 2)] [] (by kernel_rfl) (by kernel_rfl) fun w161 S160 => ?_
    have f162 := f137.stp (S143.tr (S155.tr S160)) rfl rfl
    refine WO.k0 rfl rfl rfl rfl (rn_la (cs := [.int .i64 x30.Inputs, .int .i64 x30.Latches, .slice a30_0 x30.Next.length u30_0, .slice a30_1 x30.Gates.length u30_1, .slice a30_2 x30.Outs.length u30_2]) Try.isAgg57 Try.sizeOf57 rfl rfl rfl (haC f162.cells rfl)) ?_
    have f163 := f89.stp (S100.tr (S108.tr (S111.tr (S122.tr (S129.tr (S132.tr (S134.tr (S143.tr (S155.tr S160))))))))) rfl rfl
    refine WO.k0 rfl rfl rfl rfl (rn_la (cs := [.int .i64 p1.Inputs, .int .i64 p1.Latches, .slice a1_2 p1.Next.length u1_2, .slice a1_3 p1.Gates.length u1_3, .slice a1_4 p1.Outs.length u1_4]) Try.isAgg47 Try.sizeOf47 rfl rfl rfl (haC f163.cells rfl)) ?_
    obtain ⟨x43, hx43, h⟩ := Option.bind_eq_some_iff.mp h
    have f164 := f90.stp (S100.tr (S108.tr (S111.tr (S122.tr (S129.tr (S132.tr (S134.tr (S143.tr (S155.tr S160))))))))) rfl rfl
    have f165 := f91.stp (S100.tr (S108.tr (S111.tr (S122.tr (S129.tr (S132.tr (S134.tr (S143.tr (S155.tr S160))))))))) rfl rfl
    have f166 := f92.stp (S100.tr (S108.tr (S111.tr (S122.tr (S129.tr (S132.tr (S134.tr (S143.tr (S155.tr S160))))))))) rfl rfl
    refine WO.call rfl rfl rfl rfl rfl rfl Try.call26 (l_toCircuit_ok (κ := fun b => mp [] 0 (K154 b)) (p0 := p1) (Sl.map f164 (mp [] 0) rfl rfl) (Sl.map f165 (mp [] 0) rfl rfl) (Sl.map f166 (mp [] 0) rfl rfl) hx43) ?_
    rintro _ w167 ⟨k168, a43_0, u43_0, a43_1, u43_1, a43_2, u43_2, rfl, e169, f170, f171, f172⟩
    obtain ⟨K173, S174, m175⟩ := Ent.mixed (l := []) (κ := K154) e169 37 rfl
    refine ⟨(S174.cl rfl), ?_⟩
    have f177 := f170.mx (no_int _) m175 rfl (rfl : 37 + 2 = 39)
    have f178 := f171.mx Gate.no159 m175 rfl (rfl : 37 + 3 = 40)
    have f179 := f172.mx (no_int _) m175 rfl (rfl : 37 + 4 = 41)
    obtain ⟨x44, hx44, h⟩ := Option.bind_eq_some_iff.mp h
    have f180 := f146.stp (S155.tr (S160.tr S174)) rfl rfl
    have f181 := f147.stp (S155.tr (S160.tr S174)) rfl rfl
    have f182 := f148.stp (S155.tr (S160.tr S174)) rfl rfl
    refine WO.call rfl rfl rfl rfl rfl rfl Try.call29 (l_eqCircuit_ok (κ := fun b => mp [] 0 (K173 b)) (p0 := x30) (p1 := x43) (Sl.map f180.rdc (mp [] 0) rfl rfl) (Sl.map f181.rdc (mp [] 0) rfl rfl) (Sl.map f182.rdc (mp [] 0) rfl rfl) (Sl.map f177.rdc (mp [] 0) rfl rfl) (Sl.map f178.rdc (mp [] 0) rfl rfl) (Sl.map f179.rdc (mp [] 0) rfl rfl) hx44) ?_
    rintro _ w183 ⟨k184, rfl, e185⟩
    obtain ⟨K186, S187, m188⟩ := Ent.mixed (l := []) (κ := K173) e185 42 rfl
    refine ⟨((S174.tr S187).cl rfl), ?_⟩
    refine WO.pn 1 rfl ?_
    refine WO.nx ?_
    refine WO.fin ?_
    refine DN.seq ?_
    revert h
    cases ht190 : (!x44) with
    | true =>
     intro h; replace h := cT h
     refine WC.ct rfl ?_
     refine WC.seq ?_
     refine WC.rs [(0, 2)] rfl ?_
     refine WO.pn 1 rfl ?_
     refine WO.fin ?_
     refine DN.seq ?_
     refine WC.ret ?_
     refine DN.retThen ?_
     have f191 := hE.stp (S3.tr (S7.tr (S11.tr (S21.tr (S33.tr (S38.tr (S47.tr (S60.tr (S74.tr (S86.tr (S100.tr (S108.tr (S111.tr (S122.tr (S129.tr (S132.tr (S134.tr (S143.tr (S155.tr (S160.tr (S174.tr S187))))))))))))))))))))) rfl rfl
     refine DN.res (l := [.tmp 6]) Try.results5 (res_tmp rfl rfl) rfl ?_
     obtain rfl := Option.some.inj h
     exact ⟨K186, rfl, f191⟩
    | false =>
     intro h; replace h := cF h
     refine WC.cf rfl ?_
     refine WC.skip ?_
     refine DN.seq ?_
     refine WC.seq ?_
     refine WC.seq ?_
     refine WC.rx (κ := K186) [4, 32] none [(0, 0), (1, 0), (2, 1), (3, 1), (4, 2)] [] (by kernel_rfl) (by kernel_rfl) fun w193 S192 => ?_
     have f194 := f138.stp (S143.tr (S155.tr (S160.tr (S174.tr (S187.tr S192))))) rfl rfl
     refine WO.k0 rfl rfl rfl rfl (rn_la (cs := [.slice a32_0 x32.Next.length u32_0, .slice a32_1 x32.Out.length u32_1]) Try.isAgg50 Try.sizeOf50 rfl rfl rfl (haC f194.cells rfl)) ?_
     have f195 := f113.stp (S122.tr (S129.tr (S132.tr (S134.tr (S143.tr (S155.tr (S160.tr (S174.tr (S187.tr S192))))))))) rfl rfl
     refine WO.k0 rfl rfl rfl rfl (rn_la (cs := [.slice a2_0 p2.Next.length u2_0, .slice a2_1 p2.Out.length u2_1]) Try.isAgg64 Try.sizeOf64 rfl rfl rfl (haC f195.cells rfl)) ?_
     obtain ⟨x48, hx48, h⟩ := Option.bind_eq_some_iff.mp h
     have f196 := f114.stp (S122.tr (S129.tr (S132.tr (S134.tr (S143.tr (S155.tr (S160.tr (S174.tr (S187.tr S192))))))))) rfl rfl
     have f197 := f115.stp (S122.tr (S129.tr (S132.tr (S134.tr (S143.tr (S155.tr (S160.tr (S174.tr (S187.tr S192))))))))) rfl rfl
     refine WO.call rfl rfl rfl rfl rfl rfl Try.call35 (l_toMachine_ok (κ := fun b => mp [] 0 (K186 b)) (p0 := p2) (Sl.map f196 (mp [] 0) rfl rfl) (Sl.map f197 (mp [] 0) rfl rfl) hx48) ?_
     rintro _ w198 ⟨k199, a48_0, u48_0, a48_1, u48_1, rfl, e200, f201, f202⟩
     obtain ⟨K203, S204, m205⟩ := Ent.mixed (l := []) (κ := K186) e200 44 rfl
     refine ⟨(S204.cl rfl), ?_⟩
     have f207 := f201.mx (no_own (no_int _) _) m205 rfl (rfl : 44 + 2 = 46)
     have f208 := f202.mx (no_own (no_int _) _) m205 rfl (rfl : 44 + 3 = 47)
     obtain ⟨x49, hx49, h⟩ := Option.bind_eq_some_iff.mp h
     have f209 := f149.stp (S155.tr (S160.tr (S174.tr (S187.tr (S192.tr S204))))) rfl rfl
     have f210 := f150.stp (S155.tr (S160.tr (S174.tr (S187.tr (S192.tr S204))))) rfl rfl
     refine WO.call rfl rfl rfl rfl rfl rfl Try.call28 (l_eqMachine_ok (κ := fun b => mp [] 0 (K203 b)) (p0 := x32) (p1 := x48) (Sl.map f209.rdc (mp [] 0) rfl rfl) (Sl.map f210.rdc (mp [] 0) rfl rfl) (Sl.map f207.rdc (mp [] 0) rfl rfl) (Sl.map f208.rdc (mp [] 0) rfl rfl) hx49) ?_
     rintro _ w211 ⟨k212, rfl, e213⟩
     obtain ⟨K214, S215, m216⟩ := Ent.mixed (l := []) (κ := K203) e213 48 rfl
     refine ⟨((S204.tr S215).cl rfl), ?_⟩
     refine WO.pn 1 rfl ?_
     refine WO.nx ?_
     refine WO.fin ?_
     refine DN.seq ?_
     revert h
     cases ht218 : (!x49) with
     | true =>
      intro h; replace h := cT h
      refine WC.ct rfl ?_
      refine WC.seq ?_
      refine WC.rs [(0, 2)] rfl ?_
      refine WO.pn 1 rfl ?_
      refine WO.fin ?_
      refine DN.seq ?_
      refine WC.ret ?_
      refine DN.retThen ?_
      have f219 := hE.stp (S3.tr (S7.tr (S11.tr (S21.tr (S33.tr (S38.tr (S47.tr (S60.tr (S74.tr (S86.tr (S100.tr (S108.tr (S111.tr (S122.tr (S129.tr (S132.tr (S134.tr (S143.tr (S155.tr (S160.tr (S174.tr (S187.tr (S192.tr (S204.tr S215)))))))))))))))))))))))) rfl rfl
      refine DN.res (l := [.tmp 6]) Try.results5 (res_tmp rfl rfl) rfl ?_
      obtain rfl := Option.some.inj h
      exact ⟨K214, rfl, f219⟩
     | false =>
      intro h; replace h := cF h
      refine WC.cf rfl ?_
      refine WC.skip ?_
      refine DN.seq ?_
      refine WC.seq ?_
      refine WC.rs [(0, 2)] rfl ?_
      refine WO.pn 1 rfl ?_
      refine WO.fin ?_
      refine DN.seq ?_
      refine WC.ret ?_
      have f220 := hE.stp (S3.tr (S7.tr (S11.tr (S21.tr (S33.tr (S38.tr (S47.tr (S60.tr (S74.tr (S86.tr (S100.tr (S108.tr (S111.tr (S122.tr (S129.tr (S132.tr (S134.tr (S143.tr (S155.tr (S160.tr (S174.tr (S187.tr (S192.tr (S204.tr S215)))))))))))))))))))))))) rfl rfl
      refine DN.res (l := [.tmp 6]) Try.results5 (res_tmp rfl rfl) rfl ?_
      obtain rfl := Option.some.inj h
      exact ⟨K214, rfl, f220⟩

end Go.Proofs.Ytfmkhnlnomkcfaa
