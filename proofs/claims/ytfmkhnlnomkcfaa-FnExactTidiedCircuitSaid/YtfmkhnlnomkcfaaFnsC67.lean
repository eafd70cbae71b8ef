/- The walks, part 7. By program. -/
import Derived.Test.YtfmkhnlnomkcfaaFnsC66
set_option linter.unusedVariables false
set_option linter.unusedSimpArgs false
namespace Go.Proofs.Ytfmkhnlnomkcfaa
open Go Go.Wk Go.Proofs
set_option maxRecDepth 100000
set_option maxHeartbeats 1000000

/- loop.example/g00869/laws.FnExactTidiedCircuit -/
theorem l_FnExactTidiedCircuit_ok {w : World} {κ : Col} {a0_2 : Option Addr} {u0_2 : Nat} {a0_3 : Option Addr} {u0_3 : Nat} {a0_4 : Option Addr} {u0_4 : Nat} {p0 : Circuit} (g0_2 : Rd (Rp.int .i64) κ w 0 a0_2 u0_2 p0.Next) (g0_3 : Rd Gate.rp κ w 0 a0_3 u0_3 p0.Gates) (g0_4 : Rd (Rp.int .i64) κ w 0 a0_4 u0_4 p0.Outs) {r : Bool} (h : l_FnExactTidiedCircuit p0 = some r) : Ret Try.prog 6 [.agg #[.int .i64 p0.Inputs, .int .i64 p0.Latches, .slice a0_2 p0.Next.length u0_2, .slice a0_3 p0.Gates.length u0_3, .slice a0_4 p0.Outs.length u0_4]] w (fun v w' => ∃ (κ' : Col), v = .bool r ∧ Ent κ w κ' w') := by
 unfold l_FnExactTidiedCircuit at h
 refine Ret.enter Try.func6 rfl Try.ntmps6 rfl ?_
 dsimp only [envOf]
 have hE := Ent.refl κ w
 refine WC.seq ?_
 refine WC.rs [(0, 1), (1, 2)] rfl ?_
 refine WO.box (κ := κ) 2 rfl rfl rfl rfl rfl rfl rfl fun b1 w1 K2 S3 f4 => ⟨trivial, ?_⟩
 refine WO.pn 1 rfl ?_
 refine WO.fin ?_
 refine DN.seq ?_
 refine WC.seq ?_
 refine WC.rs [(0, 2)] rfl ?_
 refine WO.pn 1 rfl ?_
 refine WO.fin ?_
 refine DN.seq ?_
 refine WC.seq ?_
 refine WC.rs [(0, 1), (1, 2), (2, 1), (3, 2)] rfl ?_
 refine WO.k1 trivial rfl rfl rfl rfl (rn_la (cs := [.int .i64 p0.Inputs, .int .i64 p0.Latches, .slice a0_2 p0.Next.length u0_2, .slice a0_3 p0.Gates.length u0_3, .slice a0_4 p0.Outs.length u0_4]) Try.isAgg47 Try.sizeOf47 rfl rfl rfl (haE f4.cells)) ?_
 refine WO.pn 1 rfl ?_
 obtain ⟨x13, hx13, h⟩ := Option.bind_eq_some_iff.mp h
 have f5 := g0_2.stp S3 rfl rfl
 have f6 := g0_3.stp S3 rfl rfl
 have f7 := g0_4.stp S3 rfl rfl
 refine WO.call rfl rfl rfl rfl rfl rfl Try.call23 (l_szCircuit_ok (κ := fun b => mp [] 0 (K2 b)) (p0 := p0) (Sl.map f5 (mp [] 0) rfl rfl) (Sl.map f6 (mp [] 0) rfl rfl) (Sl.map f7 (mp [] 0) rfl rfl) hx13) ?_
 rintro _ w8 ⟨k9, rfl, e10⟩
 obtain ⟨K11, S12, m13⟩ := Ent.mixed (l := []) (κ := K2) e10 3 rfl
 refine ⟨trivial, ?_⟩
 refine WO.pn 1 rfl ?_
 refine WO.fin ?_
 refine DN.seq ?_
 refine WC.seq ?_
 refine WC.seq ?_
 refine WC.rs [(0, 2), (1, 2)] rfl ?_
 refine WO.pn 2 rfl ?_
 refine WO.fin ?_
 refine DN.seq ?_
 revert h
 cases ht15 : decide (x13 < 0) with
 | true =>
  intro h; replace h := cT h
  refine WC.ct rfl ?_
  refine WC.seq ?_
  refine WC.rs [(0, 2)] rfl ?_
  refine WO.pn 1 rfl ?_
  refine WO.fin ?_
  refine DN.seq ?_
  refine WC.ret ?_
  refine DN.retThen ?_
  have f16 := hE.stp (S3.tr S12) rfl rfl
  refine DN.res (l := [.tmp 2]) Try.results6 (res_tmp rfl rfl) rfl ?_
  obtain rfl := Option.some.inj h
  exact ⟨K11, rfl, f16⟩
 | false =>
  intro h; replace h := cF h
  refine WC.cf rfl ?_
  refine WC.skip ?_
  refine DN.seq ?_
  refine WC.seq ?_
  refine WC.rs [(0, 1), (1, 1), (2, 1), (3, 1), (4, 1)] rfl ?_
  have f17 := f4.stp S12 rfl rfl
  refine WO.k1 trivial rfl rfl rfl rfl (rn_la (cs := [.int .i64 p0.Inputs, .int .i64 p0.Latches, .slice a0_2 p0.Next.length u0_2, .slice a0_3 p0.Gates.length u0_3, .slice a0_4 p0.Outs.length u0_4]) Try.isAgg47 Try.sizeOf47 rfl rfl rfl (haE f17.cells)) ?_
  obtain ⟨x17, hx17, h⟩ := Option.bind_eq_some_iff.mp h
  have f18 := f5.stp S12 rfl rfl
  have f19 := f6.stp S12 rfl rfl
  have f20 := f7.stp S12 rfl rfl
  refine WO.call rfl rfl rfl rfl rfl rfl Try.call26 (l_toCircuit_ok (κ := fun b => mp [] 0 (K11 b)) (p0 := p0) (Sl.map f18 (mp [] 0) rfl rfl) (Sl.map f19 (mp [] 0) rfl rfl) (Sl.map f20 (mp [] 0) rfl rfl) hx17) ?_
  rintro _ w21 ⟨k22, a17_0, u17_0, a17_1, u17_1, a17_2, u17_2, rfl, e23, f24, f25, f26⟩
  obtain ⟨K27, S28, m29⟩ := Ent.mixed (l := []) (κ := K11) e23 5 rfl
  refine ⟨trivial, ?_⟩
  have f31 := f24.mx (no_int _) m29 rfl (rfl : 5 + 2 = 7)
  have f32 := f25.mx Gate.no159 m29 rfl (rfl : 5 + 3 = 8)
  have f33 := f26.mx (no_int _) m29 rfl (rfl : 5 + 4 = 9)
  obtain ⟨K34, S35, z36⟩ := fz_ex K27 w21 7
  have f37 := Sl.st z36 f31.rdc
  have f38 := f32.stp S35 rfl rfl
  obtain ⟨K39, S40, z41⟩ := fz_ex K34 w21 8
  have f42 := Sl.st z41 f38.rdc
  have f43 := f33.stp (S35.tr S40) rfl rfl
  obtain ⟨K44, S45, z46⟩ := fz_ex K39 w21 9
  have f47 := Sl.st z46 f43.rdc
  obtain ⟨x18, hx18, h⟩ := Option.bind_eq_some_iff.mp h
  have f48 := f37.stp (S40.tr S45) rfl rfl
  have f49 := f42.stp S45 rfl rfl
  refine WO.call rfl rfl rfl rfl rfl rfl Try.call37 (s_TidiedCircuit_ok (κ := fun b => mp [] 1 (K44 b)) (p0 := x17) (Sl.map f48 (mp [] 1) rfl rfl) (Sl.map f49 (mp [] 1) rfl rfl) (Sl.map f47 (mp [] 1) rfl rfl) hx18) ?_
  rintro _ w50 ⟨k51, a18_0, u18_0, a18_1, u18_1, a18_2, u18_2, rfl, e52, f53, f54, f55⟩
  obtain ⟨K56, S57, m58, z59⟩ := Ent.mixed0 (l := []) (κ := K44) e52 10 rfl
  refine ⟨trivial, ?_⟩
  have f60 := f53.mx (no_int _) m58 rfl (rfl : 10 + 2 = 12)
  have f61 := f54.mx z59
  have f62 := f55.mx (no_int _) m58 rfl (rfl : 10 + 4 = 14)
  refine WO.alloc (κ := K56) 15 rfl rfl rfl rfl rfl Try.zeroValue57 rfl fun b4 w63 K64 S65 f66 => ⟨trivial, ?_⟩
  refine WO.stB0 (κ := K64) 15 (vc := [.int .i64 x18.Inputs, .int .i64 x18.Latches, .slice a18_0 x18.Next.length u18_0, .slice a18_1 x18.Gates.length u18_1, .slice a18_2 x18.Outs.length u18_2]) rfl rfl rfl rfl rfl rfl rfl Try.sizeOf57 rfl rfl f66 rfl fun w67 S68 f69 => ⟨trivial, ?_⟩
  refine WO.fin ?_
  refine DN.seq ?_
  refine WC.seq ?_
  refine WC.rs [(0, 1), (1, 1), (2, 1), (3, 1)] rfl ?_
  have f70 := f17.stp (S28.tr (S35.tr (S40.tr (S45.tr (S57.tr (S65.tr S68)))))) rfl rfl
  refine WO.k1 trivial rfl rfl rfl rfl (rn_la (cs := [.int .i64 p0.Inputs, .int .i64 p0.Latches, .slice a0_2 p0.Next.length u0_2, .slice a0_3 p0.Gates.length u0_3, .slice a0_4 p0.Outs.length u0_4]) Try.isAgg47 Try.sizeOf47 rfl rfl rfl (haE f70.cells)) ?_
  obtain ⟨x20, hx20, h⟩ := Option.bind_eq_some_iff.mp h
  have f71 := f18.stp (S28.tr (S35.tr (S40.tr (S45.tr (S57.tr (S65.tr S68)))))) rfl rfl
  have f72 := f19.stp (S28.tr (S35.tr (S40.tr (S45.tr (S57.tr (S65.tr S68)))))) rfl rfl
  have f73 := f20.stp (S28.tr (S35.tr (S40.tr (S45.tr (S57.tr (S65.tr S68)))))) rfl rfl
  refine WO.call rfl rfl rfl rfl rfl rfl Try.call26 (l_toCircuit_ok (κ := fun b => mp [] 0 (K64 b)) (p0 := p0) (Sl.map f71 (mp [] 0) rfl rfl) (Sl.map f72 (mp [] 0) rfl rfl) (Sl.map f73 (mp [] 0) rfl rfl) hx20) ?_
  rintro _ w74 ⟨k75, a20_0, u20_0, a20_1, u20_1, a20_2, u20_2, rfl, e76, f77, f78, f79⟩
  obtain ⟨K80, S81, m82⟩ := Ent.mixed (l := []) (κ := K64) e76 16 rfl
  refine ⟨trivial, ?_⟩
  have f84 := f77.mx (no_int _) m82 rfl (rfl : 16 + 2 = 18)
  have f85 := f78.mx Gate.no159 m82 rfl (rfl : 16 + 3 = 19)
  have f86 := f79.mx (no_int _) m82 rfl (rfl : 16 + 4 = 20)
  refine WO.alloc (κ := K80) 21 rfl rfl rfl rfl rfl Try.zeroValue57 rfl fun b5 w87 K88 S89 f90 => ⟨trivial, ?_⟩
  refine WO.stB0 (κ := K88) 21 (vc := [.int .i64 x20.Inputs, .int .i64 x20.Latches, .slice a20_0 x20.Next.length u20_0, .slice a20_1 x20.Gates.length u20_1, .slice a20_2 x20.Outs.length u20_2]) rfl rfl rfl rfl rfl rfl rfl Try.sizeOf57 rfl rfl f90 rfl fun w91 S92 f93 => ⟨trivial, ?_⟩
  refine WO.fin ?_
  refine DN.seq ?_
  refine WC.seq ?_
  refine WC.rs [(0, 1), (1, 1), (2, 1), (3, 1)] rfl ?_
  refine WO.k1 trivial rfl rfl rfl rfl (rn_la (cs := [.int .i64 x20.Inputs, .int .i64 x20.Latches, .slice a20_0 x20.Next.length u20_0, .slice a20_1 x20.Gates.length u20_1, .slice a20_2 x20.Outs.length u20_2]) Try.isAgg57 Try.sizeOf57 rfl rfl rfl (haE f93.cells)) ?_
  obtain ⟨x22, hx22, h⟩ := Option.bind_eq_some_iff.mp h
  have f94 := f84.stp (S89.tr S92) rfl rfl
  have f95 := f85.stp (S89.tr S92) rfl rfl
  have f96 := f86.stp (S89.tr S92) rfl rfl
  refine WO.call rfl rfl rfl rfl rfl rfl Try.call38 (i_TidiedCircuit_ok (κ := fun b => mp [] 0 (K88 b)) (p0 := x20) (Sl.map f94.rdc (mp [] 0) rfl rfl) (Sl.map f95.rdc (mp [] 0) rfl rfl) (Sl.map f96.rdc (mp [] 0) rfl rfl) hx22) ?_
  rintro _ w97 ⟨k98, a22_0, u22_0, a22_1, u22_1, a22_2, u22_2, rfl, e99, f100, f101, f102⟩
  obtain ⟨K103, S104, m105⟩ := Ent.mixed (l := []) (κ := K88) e99 22 rfl
  refine ⟨trivial, ?_⟩
  have f107 := f100.mx (no_int _) m105 rfl (rfl : 22 + 2 = 24)
  have f108 := f101.mx Gate.no159 m105 rfl (rfl : 22 + 3 = 25)
  have f109 := f102.mx (no_int _) m105 rfl (rfl : 22 + 4 = 26)
  refine WO.alloc (κ := K103) 27 rfl rfl rfl rfl rfl Try.zeroValue57 rfl fun b6 w110 K111 S112 f113 => ⟨trivial, ?_⟩
  refine WO.stB0 (κ := K111) 27 (vc := [.int .i64 x22.Inputs, .int .i64 x22.Latches, .slice a22_0 x22.Next.length u22_0, .slice a22_1 x22.Gates.length u22_1, .slice a22_2 x22.Outs.length u22_2]) rfl rfl rfl rfl rfl rfl rfl Try.sizeOf57 rfl rfl f113 rfl fun w114 S115 f116 => ⟨trivial, ?_⟩
  refine WO.fin ?_
  refine DN.seq ?_
  refine WC.seq ?_
  refine WC.seq ?_
  refine WC.rs [(0, 1), (1, 1), (2, 1), (3, 2)] rfl ?_
  refine WO.k1 trivial rfl rfl rfl rfl (rn_la (cs := [.int .i64 x22.Inputs, .int .i64 x22.Latches, .slice a22_0 x22.Next.length u22_0, .slice a22_1 x22.Gates.length u22_1, .slice a22_2 x22.Outs.length u22_2]) Try.isAgg57 Try.sizeOf57 rfl rfl rfl (haE f116.cells)) ?_
  have f117 := f69.stp (S81.tr (S89.tr (S92.tr (S104.tr (S112.tr S115))))) rfl rfl
  refine WO.k1 trivial rfl rfl rfl rfl (rn_la (cs := [.int .i64 x18.Inputs, .int .i64 x18.Latches, .slice a18_0 x18.Next.length u18_0, .slice a18_1 x18.Gates.length u18_1, .slice a18_2 x18.Outs.length u18_2]) Try.isAgg57 Try.sizeOf57 rfl rfl rfl (haE f117.cells)) ?_
  obtain ⟨x25, hx25, h⟩ := Option.bind_eq_some_iff.mp h
  have f118 := f107.stp (S112.tr S115) rfl rfl
  have f119 := f108.stp (S112.tr S115) rfl rfl
  have f120 := f109.stp (S112.tr S115) rfl rfl
  have f121 := f60.stp (S65.tr (S68.tr (S81.tr (S89.tr (S92.tr (S104.tr (S112.tr S115))))))) rfl rfl
  have f122 := f61.stp (S65.tr (S68.tr (S81.tr (S89.tr (S92.tr (S104.tr (S112.tr S115))))))) rfl rfl
  have f123 := f62.stp (S65.tr (S68.tr (S81.tr (S89.tr (S92.tr (S104.tr (S112.tr S115))))))) rfl rfl
  refine WO.call rfl rfl rfl rfl rfl rfl Try.call29 (l_eqCircuit_ok (κ := fun b => mp [] 0 (K111 b)) (p0 := x22) (p1 := x18) (Sl.map f118.rdc (mp [] 0) rfl rfl) (Sl.map f119.rdc (mp [] 0) rfl rfl) (Sl.map f120.rdc (mp [] 0) rfl rfl) (Sl.map f121.rdc (mp [] 0) rfl rfl) (Sl.map f122 (mp [] 0) rfl rfl) (Sl.map f123.rdc (mp [] 0) rfl rfl) hx25) ?_
  rintro _ w124 ⟨k125, rfl, e126⟩
  obtain ⟨K127, S128, m129⟩ := Ent.mixed (l := []) (κ := K111) e126 28 rfl
  refine ⟨trivial, ?_⟩
  refine WO.pn 1 rfl ?_
  refine WO.fin ?_
  refine DN.seq ?_
  revert h
  cases ht131 : (!x25) with
  | true =>
   intro h; replace h := cT h
   refine WC.ct rfl ?_
   refine WC.seq ?_
   refine WC.rs [(0, 2)] rfl ?_
   refine WO.pn 1 rfl ?_
   refine WO.fin ?_
   refine DN.seq ?_
   refine WC.ret ?_
   refine DN.retThen ?_
   have f132 := hE.stp (S3.tr (S12.tr (S28.tr (S35.tr (S40.tr (S45.tr (S57.tr (S65.tr (S68.tr (S81.tr (S89.tr (S92.tr (S104.tr (S112.tr (S115.tr S128))))))))))))))) rfl rfl
   refine DN.res (l := [.tmp 2]) Try.results6 (res_tmp rfl rfl) rfl ?_
   obtain rfl := Option.some.inj h
   exact ⟨K127, rfl, f132⟩
  | false =>
   intro h; replace h := cF h
   refine WC.cf rfl ?_
   refine WC.skip ?_
   refine DN.seq ?_
   refine WC.seq ?_
   refine WC.seq ?_
   refine WC.rx (κ := K127) [2, 21] none [(0, 0), (1, 0), (2, 1), (3, 1), (4, 2)] [] (by kernel_rfl) (by kernel_rfl) fun w134 S133 => ?_
   have f135 := f93.stp (S104.tr (S112.tr (S115.tr (S128.tr S133)))) rfl rfl
   refine WO.k0 rfl rfl rfl rfl (rn_la (cs := [.int .i64 x20.Inputs, .int .i64 x20.Latches, .slice a20_0 x20.Next.length u20_0, .slice a20_1 x20.Gates.length u20_1, .slice a20_2 x20.Outs.length u20_2]) Try.isAgg57 Try.sizeOf57 rfl rfl rfl (haC f135.cells rfl)) ?_
   have f136 := f70.stp (S81.tr (S89.tr (S92.tr (S104.tr (S112.tr (S115.tr (S128.tr S133))))))) rfl rfl
   refine WO.k0 rfl rfl rfl rfl (rn_la (cs := [.int .i64 p0.Inputs, .int .i64 p0.Latches, .slice a0_2 p0.Next.length u0_2, .slice a0_3 p0.Gates.length u0_3, .slice a0_4 p0.Outs.length u0_4]) Try.isAgg47 Try.sizeOf47 rfl rfl rfl (haC f136.cells rfl)) ?_
   obtain ⟨x29, hx29, h⟩ := Option.bind_eq_some_iff.mp h
   have f137 := f71.stp (S81.tr (S89.tr (S92.tr (S104.tr (S112.tr (S115.tr (S128.tr S133))))))) rfl rfl
   have f138 := f72.stp (S81.tr (S89.tr (S92.tr (S104.tr (S112.tr (S115.tr (S128.tr S133))))))) rfl rfl
   have f139 := f73.stp (S81.tr (S89.tr (S92.tr (S104.tr (S112.tr (S115.tr (S128.tr S133))))))) rfl rfl
   refine WO.call rfl rfl rfl rfl rfl rfl Try.call26 (l_toCircuit_ok (κ := fun b => mp [] 0 (K127 b)) (p0 := p0) (Sl.map f137 (mp [] 0) rfl rfl) (Sl.map f138 (mp [] 0) rfl rfl) (Sl.map f139 (mp [] 0) rfl rfl) hx29) ?_
   rintro _ w140 ⟨k141, a29_0, u29_0, a29_1, u29_1, a29_2, u29_2, rfl, e142, f143, f144, f145⟩
   obtain ⟨K146, S147, m148⟩ := Ent.mixed (l := []) (κ := K127) e142 30 rfl
   refine ⟨(S147.cl rfl), ?_⟩
   have f150 := f143.mx (no_int _) m148 rfl (rfl : 30 + 2 = 32)
   have f151 := f144.mx Gate.no159 m148 rfl (rfl : 30 + 3 = 33)
   have f152 := f145.mx (no_int _) m148 rfl (rfl : 30 + 4 = 34)
   obtain ⟨x30, hx30, h⟩ := Option.bind_eq_some_iff.mp h
   have f153 := f94.stp (S104.tr (S112.tr (S115.tr (S128.tr (S133.tr S147))))) rfl rfl
   have f154 := f95.stp (S104.tr (S112.tr (S115.tr (S128.tr (S133.tr S147))))) rfl rfl
   have f155 := f96.stp (S104.tr (S112.tr (S115.tr (S128.tr (S133.tr S147))))) rfl rfl
   refine WO.call rfl rfl rfl rfl rfl rfl Try.call29 (l_eqCircuit_ok (κ := fun b => mp [] 0 (K146 b)) (p0 := x20) (p1 := x29) (Sl.map f153.rdc (mp [] 0) rfl rfl) (Sl.map f154.rdc (mp [] 0) rfl rfl) (Sl.map f155.rdc (mp [] 0) rfl rfl) (Sl.map f150.rdc (mp [] 0) rfl rfl) (Sl.map f151.rdc (mp [] 0) rfl rfl) (Sl.map f152.rdc (mp [] 0) rfl rfl) hx30) ?_
   rintro _ w156 ⟨k157, rfl, e158⟩
   obtain ⟨K159, S160, m161⟩ := Ent.mixed (l := []) (κ := K146) e158 35 rfl
   refine ⟨((S147.tr S160).cl rfl), ?_⟩
   refine WO.pn 1 rfl ?_
   refine WO.nx ?_
   refine WO.fin ?_
   refine DN.seq ?_
   revert h
   cases ht163 : (!x30) with
   | true =>
    intro h; replace h := cT h
    refine WC.ct rfl ?_
    refine WC.seq ?_
    refine WC.rs [(0, 2)] rfl ?_
    refine WO.pn 1 rfl ?_
    refine WO.fin ?_
    refine DN.seq ?_
    refine WC.ret ?_
    refine DN.retThen ?_
    have f164 := hE.stp (S3.tr (S12.tr (S28.tr (S35.tr (S40.tr (S45.tr (S57.tr (S65.tr (S68.tr (S81.tr (S89.tr (S92.tr (S104.tr (S112.tr (S115.tr (S128.tr (S133.tr (S147.tr S160)))))))))))))))))) rfl rfl
    refine DN.res (l := [.tmp 2]) Try.results6 (res_tmp rfl rfl) rfl ?_
    obtain rfl := Option.some.inj h
    exact ⟨K159, rfl, f164⟩
   | false =>
    intro h; replace h := cF h
    refine WC.cf rfl ?_
    refine WC.skip ?_
    refine DN.seq ?_
    refine WC.seq ?_
    refine WC.rs [(0, 2)] rfl ?_
    refine WO.pn 1 rfl ?_
    refine WO.fin ?_
    refine DN.seq ?_
    refine WC.seq ?_
    refine WC.rs [(0, 1), (1, 2), (2, 1), (3, 2)] rfl ?_
    have f165 := f135.stp (S147.tr S160) rfl rfl
    refine WO.k1 trivial rfl rfl rfl rfl (rn_la (cs := [.int .i64 x20.Inputs, .int .i64 x20.Latches, .slice a20_0 x20.Next.length u20_0, .slice a20_1 x20.Gates.length u20_1, .slice a20_2 x20.Outs.length u20_2]) Try.isAgg57 Try.sizeOf57 rfl rfl rfl (haE f165.cells)) ?_
    refine WO.pn 1 rfl ?_
    obtain ⟨x34, hx34, h⟩ := Option.bind_eq_some_iff.mp h
    have f166 := f153.stp S160 rfl rfl
    have f167 := f154.stp S160 rfl rfl
    have f168 := f155.stp S160 rfl rfl
    refine WO.call rfl rfl rfl rfl rfl rfl Try.call30 (l_markCircuit_ok (κ := fun b => mp [(18, 2), (19, 3), (20, 4)] 0 (K159 b)) (p0 := x20) (f166.map (mp [(18, 2), (19, 3), (20, 4)] 0) rfl rfl) (f167.map (mp [(18, 2), (19, 3), (20, 4)] 0) rfl rfl) (f168.map (mp [(18, 2), (19, 3), (20, 4)] 0) rfl rfl) hx34) ?_
    rintro _ w169 ⟨k170, rfl, e171, f172, hn173, f174, hn175, f176, hn177⟩
    obtain ⟨K178, S179, m180⟩ := Ent.mixed (l := [(18, 2), (19, 3), (20, 4)]) (κ := K159) e171 37 rfl
    refine ⟨trivial, ?_⟩
    have f182 := f172.mx (no_int _) m180 rfl (rfl : 37 + 2 = 39)
    have f183 := f174.mx Gate.no159 m180 rfl (rfl : 37 + 3 = 40)
    have f184 := f176.mx (no_int _) m180 rfl (rfl : 37 + 4 = 41)
    refine WO.pn 1 rfl ?_
    refine WO.fin ?_
    refine DN.seq ?_
    refine WC.seq ?_
    refine WC.seq ?_
    refine WC.rs [(0, 2), (1, 2), (2, 2), (3, 1), (4, 1), (5, 1), (6, 2), (7, 2)] rfl ?_
    refine WO.pn 3 rfl ?_
    obtain ⟨p42, h, hK185⟩ := Option.bind_eq_some_iff.mp h
    refine WO.meet [(3, 1), (4, 1), (5, 1), (6, 2), (7, 2)] [] (fun L w' => L = [(1, .pointer (some ⟨b1, 0, none⟩)), (4, .pointer (some ⟨b4, 0, none⟩)), (6, .pointer (some ⟨b6, 0, none⟩)), (42, .bool p42)] ∧ ∃ κ', Stp [] K178 w169 κ' w') trivial ?_ ?_
    ·
     revert h
     cases ht186 : decide (x34.1 < 0) with
     | true =>
      intro h; replace h := cT h
      refine WO.ls rfl rfl rfl rfl ?_
      refine WO.ls rfl rfl rfl rfl ?_
      refine WO.ls rfl rfl rfl rfl ?_
      refine WO.pn 2 rfl ?_
      obtain rfl := Option.some.inj h
      exact WO.met _ trivial ⟨rfl, _, (Stp.refl _ _).wk rfl⟩ fun a ha => (ha.more (ha.more (ha.more (ha.more ha.nil rfl) rfl) rfl) rfl)
     | false =>
      intro h; replace h := cF h
      have f187 := f116.stp (S128.tr (S133.tr (S147.tr (S160.tr S179)))) rfl rfl
      refine WO.k1 trivial rfl rfl rfl rfl (rn_la (cs := [.int .i64 x22.Inputs, .int .i64 x22.Latches, .slice a22_0 x22.Next.length u22_0, .slice a22_1 x22.Gates.length u22_1, .slice a22_2 x22.Outs.length u22_2]) Try.isAgg57 Try.sizeOf57 rfl rfl rfl (haE f187.cells)) ?_
      have f188 := f117.stp (S128.tr (S133.tr (S147.tr (S160.tr S179)))) rfl rfl
      refine WO.k1 trivial rfl rfl rfl rfl (rn_la (cs := [.int .i64 x18.Inputs, .int .i64 x18.Latches, .slice a18_0 x18.Next.length u18_0, .slice a18_1 x18.Gates.length u18_1, .slice a18_2 x18.Outs.length u18_2]) Try.isAgg57 Try.sizeOf57 rfl rfl rfl (haE f188.cells)) ?_
      obtain ⟨x40, hx40, h⟩ := Option.bind_eq_some_iff.mp h
      have f189 := f118.stp (S128.tr (S133.tr (S147.tr (S160.tr S179)))) rfl rfl
      have f190 := f119.stp (S128.tr (S133.tr (S147.tr (S160.tr S179)))) rfl rfl
      have f191 := f120.stp (S128.tr (S133.tr (S147.tr (S160.tr S179)))) rfl rfl
      have f192 := f121.stp (S128.tr (S133.tr (S147.tr (S160.tr S179)))) rfl rfl
      have f193 := f122.stp (S128.tr (S133.tr (S147.tr (S160.tr S179)))) rfl rfl
      have f194 := f123.stp (S128.tr (S133.tr (S147.tr (S160.tr S179)))) rfl rfl
      refine WO.call rfl rfl rfl rfl rfl rfl Try.call29 (l_eqCircuit_ok (κ := fun b => mp [] 0 (K178 b)) (p0 := x22) (p1 := x18) (Sl.map f189.rdc (mp [] 0) rfl rfl) (Sl.map f190.rdc (mp [] 0) rfl rfl) (Sl.map f191.rdc (mp [] 0) rfl rfl) (Sl.map f192.rdc (mp [] 0) rfl rfl) (Sl.map f193 (mp [] 0) rfl rfl) (Sl.map f194.rdc (mp [] 0) rfl rfl) hx40) ?_
      rintro _ w195 ⟨k196, rfl, e197⟩
      obtain ⟨K198, S199, m200⟩ := Ent.mixed (l := []) (κ := K178) e197 42 rfl
      refine ⟨trivial, ?_⟩
      refine WO.pn 2 rfl ?_
      obtain rfl := Option.some.inj h
      exact WO.met _ trivial ⟨rfl, _, S199.wk rfl⟩ fun a ha => (ha.more (ha.more (ha.more (ha.more ha.nil rfl) rfl) rfl) rfl)
    rintro _ w202 _ ⟨rfl, K203, S204⟩
    have h := hK185
    refine WO.fin ?_
    refine DN.seq ?_
    revert h
    cases ht205 : p42 with
    | true =>
     intro h; replace h := cT h
     refine WC.ct rfl ?_
     refine WC.seq ?_
     refine WC.rs [(0, 2)] rfl ?_
     refine WO.pn 1 rfl ?_
     refine WO.fin ?_
     refine DN.seq ?_
     refine WC.ret ?_
     refine DN.retThen ?_
     have f206 := hE.stp (S3.tr (S12.tr (S28.tr (S35.tr (S40.tr (S45.tr (S57.tr (S65.tr (S68.tr (S81.tr (S89.tr (S92.tr (S104.tr (S112.tr (S115.tr (S128.tr (S133.tr (S147.tr (S160.tr (S179.tr S204)))))))))))))))))))) rfl rfl
     refine DN.res (l := [.tmp 2]) Try.results6 (res_tmp rfl rfl) rfl ?_
     obtain rfl := Option.some.inj h
     exact ⟨K203, rfl, f206⟩
    | false =>
     intro h; replace h := cF h
     refine WC.cf rfl ?_
     refine WC.skip ?_
     refine DN.seq ?_
     refine WC.seq ?_
     refine WC.rs [(0, 2)] rfl ?_
     refine WO.pn 1 rfl ?_
     refine WO.fin ?_
     refine DN.seq ?_
     refine WC.seq ?_
     refine WC.rs [(0, 1), (1, 2), (2, 1), (3, 2)] rfl ?_
     have f207 := f116.stp (S128.tr (S133.tr (S147.tr (S160.tr (S179.tr S204))))) rfl rfl
     refine WO.k1 trivial rfl rfl rfl rfl (rn_la (cs := [.int .i64 x22.Inputs, .int .i64 x22.Latches, .slice a22_0 x22.Next.length u22_0, .slice a22_1 x22.Gates.length u22_1, .slice a22_2 x22.Outs.length u22_2]) Try.isAgg57 Try.sizeOf57 rfl rfl rfl (haE f207.cells)) ?_
     refine WO.pn 1 rfl ?_
     obtain ⟨x45, hx45, h⟩ := Option.bind_eq_some_iff.mp h
     have f208 := f118.stp (S128.tr (S133.tr (S147.tr (S160.tr (S179.tr S204))))) rfl rfl
     have f209 := f119.stp (S128.tr (S133.tr (S147.tr (S160.tr (S179.tr S204))))) rfl rfl
     have f210 := f120.stp (S128.tr (S133.tr (S147.tr (S160.tr (S179.tr S204))))) rfl rfl
     refine WO.call rfl rfl rfl rfl rfl rfl Try.call30 (l_markCircuit_ok (κ := fun b => mp [(24, 2), (25, 3), (26, 4)] 0 (K203 b)) (p0 := x22) (f208.map (mp [(24, 2), (25, 3), (26, 4)] 0) rfl rfl) (f209.map (mp [(24, 2), (25, 3), (26, 4)] 0) rfl rfl) (f210.map (mp [(24, 2), (25, 3), (26, 4)] 0) rfl rfl) hx45) ?_
     rintro _ w211 ⟨k212, rfl, e213, f214, hn215, f216, hn217, f218, hn219⟩
     obtain ⟨K220, S221, m222⟩ := Ent.mixed (l := [(24, 2), (25, 3), (26, 4)]) (κ := K203) e213 42 rfl
     refine ⟨trivial, ?_⟩
     have f224 := f214.mx (no_int _) m222 rfl (rfl : 42 + 2 = 44)
     have f225 := f216.mx Gate.no159 m222 rfl (rfl : 42 + 3 = 45)
     have f226 := f218.mx (no_int _) m222 rfl (rfl : 42 + 4 = 46)
     refine WO.pn 1 rfl ?_
     refine WO.fin ?_
     refine DN.seq ?_
     refine WC.seq ?_
     refine WC.rs [(0, 2)] rfl ?_
     refine WO.pn 1 rfl ?_
     refine WO.fin ?_
     refine DN.seq ?_
     refine WC.seq ?_
     refine WC.rs [(0, 1), (1, 2), (2, 1), (3, 2)] rfl ?_
     have f227 := f207.stp S221 rfl rfl
     refine WO.k1 trivial rfl rfl rfl rfl (rn_la (cs := [.int .i64 x22.Inputs, .int .i64 x22.Latches, .slice a22_0 x22.Next.length u22_0, .slice a22_1 x22.Gates.length u22_1, .slice a22_2 x22.Outs.length u22_2]) Try.isAgg57 Try.sizeOf57 rfl rfl rfl (haE f227.cells)) ?_
     refine WO.pn 1 rfl ?_
     obtain ⟨x48, hx48, h⟩ := Option.bind_eq_some_iff.mp h
     refine WO.call rfl rfl rfl rfl rfl rfl Try.call39 (Ret.cast (by simp only [(hn215), (hn217), (hn219), List.cons_append, List.nil_append]) (l_heldCircuit_ok (κ := fun b => mp [] 0 (K220 b)) (p0 := (⟨x22.Inputs, x22.Latches, x45.2.1, x45.2.2.1, x45.2.2.2⟩ : Circuit)) (Sl.map f224.rdc (mp [] 0) rfl rfl) (Sl.map f225.rdc (mp [] 0) rfl rfl) (Sl.map f226.rdc (mp [] 0) rfl rfl) hx48)) ?_
     rintro _ w228 ⟨k229, rfl, e230⟩
     obtain ⟨K231, S232, m233⟩ := Ent.mixed (l := []) (κ := K220) e230 47 rfl
     refine ⟨trivial, ?_⟩
     refine WO.pn 1 rfl ?_
     refine WO.fin ?_
     refine DN.seq ?_
     refine WC.seq ?_
     refine WC.seq ?_
     refine WC.rs [(0, 2), (1, 2)] rfl ?_
     refine WO.pn 2 rfl ?_
     refine WO.fin ?_
     refine DN.seq ?_
     revert h
     cases ht235 : decide (x48 < 0) with
     | true =>
      intro h; replace h := cT h
      refine WC.ct rfl ?_
      refine WC.seq ?_
      refine WC.rs [(0, 2)] rfl ?_
      refine WO.pn 1 rfl ?_
      refine WO.fin ?_
      refine DN.seq ?_
      refine WC.ret ?_
      refine DN.retThen ?_
      have f236 := hE.stp (S3.tr (S12.tr (S28.tr (S35.tr (S40.tr (S45.tr (S57.tr (S65.tr (S68.tr (S81.tr (S89.tr (S92.tr (S104.tr (S112.tr (S115.tr (S128.tr (S133.tr (S147.tr (S160.tr (S179.tr (S204.tr (S221.tr S232)))))))))))))))))))))) rfl rfl
      refine DN.res (l := [.tmp 2]) Try.results6 (res_tmp rfl rfl) rfl ?_
      obtain rfl := Option.some.inj h
      exact ⟨K231, rfl, f236⟩
     | false =>
      intro h; replace h := cF h
      refine WC.cf rfl ?_
      refine WC.skip ?_
      refine DN.seq ?_
      refine WC.seq ?_
      refine WC.seq ?_
      refine WC.rs [(0, 2), (1, 2), (2, 2)] rfl ?_
      refine WO.pn 3 rfl ?_
      refine WO.fin ?_
      refine DN.seq ?_
      revert h
      cases ht237 : (x48 != x45.1) with
      | true =>
       intro h; replace h := cT h
       refine WC.ct rfl ?_
       refine WC.seq ?_
       refine WC.rs [(0, 2)] rfl ?_
       refine WO.pn 1 rfl ?_
       refine WO.fin ?_
       refine DN.seq ?_
       refine WC.ret ?_
       refine DN.retThen ?_
       have f238 := hE.stp (S3.tr (S12.tr (S28.tr (S35.tr (S40.tr (S45.tr (S57.tr (S65.tr (S68.tr (S81.tr (S89.tr (S92.tr (S104.tr (S112.tr (S115.tr (S128.tr (S133.tr (S147.tr (S160.tr (S179.tr (S204.tr (S221.tr S232)))))))))))))))))))))) rfl rfl
       refine DN.res (l := [.tmp 2]) Try.results6 (res_tmp rfl rfl) rfl ?_
       obtain rfl := Option.some.inj h
       exact ⟨K231, rfl, f238⟩
      | false =>
       intro h; replace h := cF h
       refine WC.cf rfl ?_
       refine WC.skip ?_
       refine DN.seq ?_
       refine WC.seq ?_
       refine WC.rs [(0, 1), (1, 1), (2, 1), (3, 1), (4, 1)] rfl ?_
       have f239 := f136.stp (S147.tr (S160.tr (S179.tr (S204.tr (S221.tr S232))))) rfl rfl
       refine WO.k1 trivial rfl rfl rfl rfl (rn_la (cs := [.int .i64 p0.Inputs, .int .i64 p0.Latches, .slice a0_2 p0.Next.length u0_2, .slice a0_3 p0.Gates.length u0_3, .slice a0_4 p0.Outs.length u0_4]) Try.isAgg47 Try.sizeOf47 rfl rfl rfl (haE f239.cells)) ?_
       obtain ⟨x55, hx55, h⟩ := Option.bind_eq_some_iff.mp h
       have f240 := f137.stp (S147.tr (S160.tr (S179.tr (S204.tr (S221.tr S232))))) rfl rfl
       have f241 := f138.stp (S147.tr (S160.tr (S179.tr (S204.tr (S221.tr S232))))) rfl rfl
       have f242 := f139.stp (S147.tr (S160.tr (S179.tr (S204.tr (S221.tr S232))))) rfl rfl
       refine WO.call rfl rfl rfl rfl rfl rfl Try.call26 (l_toCircuit_ok (κ := fun b => mp [] 0 (K231 b)) (p0 := p0) (Sl.map f240 (mp [] 0) rfl rfl) (Sl.map f241 (mp [] 0) rfl rfl) (Sl.map f242 (mp [] 0) rfl rfl) hx55) ?_
       rintro _ w243 ⟨k244, a55_0, u55_0, a55_1, u55_1, a55_2, u55_2, rfl, e245, f246, f247, f248⟩
       obtain ⟨K249, S250, m251⟩ := Ent.mixed (l := []) (κ := K231) e245 49 rfl
       refine ⟨trivial, ?_⟩
       have f253 := f246.mx (no_int _) m251 rfl (rfl : 49 + 2 = 51)
       have f254 := f247.mx Gate.no159 m251 rfl (rfl : 49 + 3 = 52)
       have f255 := f248.mx (no_int _) m251 rfl (rfl : 49 + 4 = 53)
       obtain ⟨x56, hx56, h⟩ := Option.bind_eq_some_iff.mp h
       refine WO.call rfl rfl rfl rfl rfl rfl Try.call38 (i_TidiedCircuit_ok (κ := fun b => mp [] 0 (K249 b)) (p0 := x55) (Sl.map f253.rdc (mp [] 0) rfl rfl) (Sl.map f254.rdc (mp [] 0) rfl rfl) (Sl.map f255.rdc (mp [] 0) rfl rfl) hx56) ?_
       rintro _ w256 ⟨k257, a56_0, u56_0, a56_1, u56_1, a56_2, u56_2, rfl, e258, f259, f260, f261⟩
       obtain ⟨K262, S263, m264⟩ := Ent.mixed (l := []) (κ := K249) e258 54 rfl
       refine ⟨trivial, ?_⟩
       have f266 := f259.mx (no_int _) m264 rfl (rfl : 54 + 2 = 56)
       have f267 := f260.mx Gate.no159 m264 rfl (rfl : 54 + 3 = 57)
       have f268 := f261.mx (no_int _) m264 rfl (rfl : 54 + 4 = 58)
       refine WO.alloc (κ := K262) 59 rfl rfl rfl rfl rfl Try.zeroValue57 rfl fun b10 w269 K270 S271 f272 => ⟨trivial, ?_⟩
       refine WO.stB0 (κ := K270) 59 (vc := [.int .i64 x56.Inputs, .int .i64 x56.Latches, .slice a56_0 x56.Next.length u56_0, .slice a56_1 x56.Gates.length u56_1, .slice a56_2 x56.Outs.length u56_2]) rfl rfl rfl rfl rfl rfl rfl Try.sizeOf57 rfl rfl f272 rfl fun w273 S274 f275 => ⟨trivial, ?_⟩
       refine WO.fin ?_
       refine DN.seq ?_
       refine WC.seq ?_
       refine WC.seq ?_
       refine WC.rs [(0, 1), (1, 1), (2, 1), (3, 2)] rfl ?_
       refine WO.k1 trivial rfl rfl rfl rfl (rn_la (cs := [.int .i64 x56.Inputs, .int .i64 x56.Latches, .slice a56_0 x56.Next.length u56_0, .slice a56_1 x56.Gates.length u56_1, .slice a56_2 x56.Outs.length u56_2]) Try.isAgg57 Try.sizeOf57 rfl rfl rfl (haE f275.cells)) ?_
       have f276 := f117.stp (S128.tr (S133.tr (S147.tr (S160.tr (S179.tr (S204.tr (S221.tr (S232.tr (S250.tr (S263.tr (S271.tr S274))))))))))) rfl rfl
       refine WO.k1 trivial rfl rfl rfl rfl (rn_la (cs := [.int .i64 x18.Inputs, .int .i64 x18.Latches, .slice a18_0 x18.Next.length u18_0, .slice a18_1 x18.Gates.length u18_1, .slice a18_2 x18.Outs.length u18_2]) Try.isAgg57 Try.sizeOf57 rfl rfl rfl (haE f276.cells)) ?_
       obtain ⟨x59, hx59, h⟩ := Option.bind_eq_some_iff.mp h
       have f277 := f266.stp (S271.tr S274) rfl rfl
       have f278 := f267.stp (S271.tr S274) rfl rfl
       have f279 := f268.stp (S271.tr S274) rfl rfl
       have f280 := f121.stp (S128.tr (S133.tr (S147.tr (S160.tr (S179.tr (S204.tr (S221.tr (S232.tr (S250.tr (S263.tr (S271.tr S274))))))))))) rfl rfl
       have f281 := f122.stp (S128.tr (S133.tr (S147.tr (S160.tr (S179.tr (S204.tr (S221.tr (S232.tr (S250.tr (S263.tr (S271.tr S274))))))))))) rfl rfl
       have f282 := f123.stp (S128.tr (S133.tr (S147.tr (S160.tr (S179.tr (S204.tr (S221.tr (S232.tr (S250.tr (S263.tr (S271.tr S274))))))))))) rfl rfl
       refine WO.call rfl rfl rfl rfl rfl rfl Try.call29 (l_eqCircuit_ok (κ := fun b => mp [] 0 (K270 b)) (p0 := x56) (p1 := x18) (Sl.map f277.rdc (mp [] 0) rfl rfl) (Sl.map f278.rdc (mp [] 0) rfl rfl) (Sl.map f279.rdc (mp [] 0) rfl rfl) (Sl.map f280.rdc (mp [] 0) rfl rfl) (Sl.map f281 (mp [] 0) rfl rfl) (Sl.map f282.rdc (mp [] 0) rfl rfl) hx59) ?_
       rintro _ w283 ⟨k284, rfl, e285⟩
       obtain ⟨K286, S287, m288⟩ := Ent.mixed (l := []) (κ := K270) e285 60 rfl
       refine ⟨trivial, ?_⟩
       refine WO.pn 1 rfl ?_
       refine WO.fin ?_
       refine DN.seq ?_
       revert h
       cases ht290 : (!x59) with
       | true =>
        intro h; replace h := cT h
        refine WC.ct rfl ?_
        refine WC.seq ?_
        refine WC.rs [(0, 2)] rfl ?_
        refine WO.pn 1 rfl ?_
        refine WO.fin ?_
        refine DN.seq ?_
        refine WC.ret ?_
        refine DN.retThen ?_
        have f291 := hE.stp (S3.tr (S12.tr (S28.tr (S35.tr (S40.tr (S45.tr (S57.tr (S65.tr (S68.tr (S81.tr (S89.tr (S92.tr (S104.tr (S112.tr (S115.tr (S128.tr (S133.tr (S147.tr (S160.tr (S179.tr (S204.tr (S221.tr (S232.tr (S250.tr (S263.tr (S271.tr (S274.tr S287))))))))))))))))))))))))))) rfl rfl
        refine DN.res (l := [.tmp 2]) Try.results6 (res_tmp rfl rfl) rfl ?_
        obtain rfl := Option.some.inj h
        exact ⟨K286, rfl, f291⟩
       | false =>
        intro h; replace h := cF h
        refine WC.cf rfl ?_
        refine WC.skip ?_
        refine DN.seq ?_
        refine WC.seq ?_
        refine WC.rs [(0, 2)] rfl ?_
        refine WO.pn 1 rfl ?_
        refine WO.fin ?_
        refine DN.seq ?_
        refine WC.seq ?_
        refine WC.rs [(0, 1), (1, 2), (2, 1), (3, 2)] rfl ?_
        have f292 := f227.stp (S232.tr (S250.tr (S263.tr (S271.tr (S274.tr S287))))) rfl rfl
        refine WO.k1 trivial rfl rfl rfl rfl (rn_la (cs := [.int .i64 x22.Inputs, .int .i64 x22.Latches, .slice a22_0 x22.Next.length u22_0, .slice a22_1 x22.Gates.length u22_1, .slice a22_2 x22.Outs.length u22_2]) Try.isAgg57 Try.sizeOf57 rfl rfl rfl (haE f292.cells)) ?_
        refine WO.pn 1 rfl ?_
        obtain ⟨x63, hx63, h⟩ := Option.bind_eq_some_iff.mp h
        have f293 := f224.stp (S232.tr (S250.tr (S263.tr (S271.tr (S274.tr S287))))) rfl rfl
        have f294 := f225.stp (S232.tr (S250.tr (S263.tr (S271.tr (S274.tr S287))))) rfl rfl
        have f295 := f226.stp (S232.tr (S250.tr (S263.tr (S271.tr (S274.tr S287))))) rfl rfl
        refine WO.call rfl rfl rfl rfl rfl rfl Try.call39 (Ret.cast (by simp only [(hn215), (hn217), (hn219), List.cons_append, List.nil_append]) (l_heldCircuit_ok (κ := fun b => mp [] 0 (K286 b)) (p0 := (⟨x22.Inputs, x22.Latches, x45.2.1, x45.2.2.1, x45.2.2.2⟩ : Circuit)) (Sl.map f293.rdc (mp [] 0) rfl rfl) (Sl.map f294.rdc (mp [] 0) rfl rfl) (Sl.map f295.rdc (mp [] 0) rfl rfl) hx63)) ?_
        rintro _ w296 ⟨k297, rfl, e298⟩
        obtain ⟨K299, S300, m301⟩ := Ent.mixed (l := []) (κ := K286) e298 62 rfl
        refine ⟨trivial, ?_⟩
        refine WO.pn 1 rfl ?_
        refine WO.fin ?_
        refine DN.seq ?_
        refine WC.seq ?_
        refine WC.seq ?_
        refine WC.rs [(0, 2), (1, 2)] rfl ?_
        refine WO.pn 2 rfl ?_
        refine WO.fin ?_
        refine DN.seq ?_
        revert h
        cases ht303 : decide (x63 < 0) with
        | true =>
         intro h; replace h := cT h
         refine WC.ct rfl ?_
         refine WC.seq ?_
         refine WC.rs [(0, 2)] rfl ?_
         refine WO.pn 1 rfl ?_
         refine WO.fin ?_
         refine DN.seq ?_
         refine WC.ret ?_
         refine DN.retThen ?_
         have f304 := hE.stp (S3.tr (S12.tr (S28.tr (S35.tr (S40.tr (S45.tr (S57.tr (S65.tr (S68.tr (S81.tr (S89.tr (S92.tr (S104.tr (S112.tr (S115.tr (S128.tr (S133.tr (S147.tr (S160.tr (S179.tr (S204.tr (S221.tr (S232.tr (S250.tr (S263.tr (S271.tr (S274.tr (S287.tr S300)))))))))))))))))))))))))))) rfl rfl
         refine DN.res (l := [.tmp 2]) Try.results6 (res_tmp rfl rfl) rfl ?_
         obtain rfl := Option.some.inj h
         exact ⟨K299, rfl, f304⟩
        | false =>
         intro h; replace h := cF h
         refine WC.cf rfl ?_
         refine WC.skip ?_
         refine DN.seq ?_
         refine WC.seq ?_
         refine WC.seq ?_
         refine WC.rs [(0, 2), (1, 2), (2, 2)] rfl ?_
         refine WO.pn 3 rfl ?_
         refine WO.fin ?_
         refine DN.seq ?_
         revert h
         cases ht305 : (x63 != x45.1) with
         | true =>
          intro h; replace h := cT h
          refine WC.ct rfl ?_
          refine WC.seq ?_
          refine WC.rs [(0, 2)] rfl ?_
          refine WO.pn 1 rfl ?_
          refine WO.fin ?_
          refine DN.seq ?_
          refine WC.ret ?_
          refine DN.retThen ?_
          have f306 := hE.stp (S3.tr (S12.tr (S28.tr (S35.tr (S40.tr (S45.tr (S57.tr (S65.tr (S68.tr (S81.tr (S89.tr (S92.tr (S104.tr (S112.tr (S115.tr (S128.tr (S133.tr (S147.tr (S160.tr (S179.tr (S204.tr (S221.tr (S232.tr (S250.tr (S263.tr (S271.tr (S274.tr (S287.tr S300)))))))))))))))))))))))))))) rfl rfl
          refine DN.res (l := [.tmp 2]) Try.results6 (res_tmp rfl rfl) rfl ?_
          obtain rfl := Option.some.inj h
          exact ⟨K299, rfl, f306⟩
         | false =>
          intro h; replace h := cF h
          refine WC.cf rfl ?_
          refine WC.skip ?_
          refine DN.seq ?_
          refine WC.seq ?_
          refine WC.rs [(0, 2)] rfl ?_
          refine WO.pn 1 rfl ?_
          refine WO.fin ?_
          refine DN.seq ?_
          refine WC.ret ?_
          have f307 := hE.stp (S3.tr (S12.tr (S28.tr (S35.tr (S40.tr (S45.tr (S57.tr (S65.tr (S68.tr (S81.tr (S89.tr (S92.tr (S104.tr (S112.tr (S115.tr (S128.tr (S133.tr (S147.tr (S160.tr (S179.tr (S204.tr (S221.tr (S232.tr (S250.tr (S263.tr (S271.tr (S274.tr (S287.tr S300)))))))))))))))))))))))))))) rfl rfl
          refine DN.res (l := [.tmp 2]) Try.results6 (res_tmp rfl rfl) rfl ?_
          obtain rfl := Option.some.inj h
          exact ⟨K299, rfl, f307⟩

end Go.Proofs.Ytfmkhnlnomkcfaa
