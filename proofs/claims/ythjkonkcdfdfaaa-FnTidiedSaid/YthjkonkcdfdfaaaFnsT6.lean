/- The walks, part 6. By program. -/
import Derived.Test.YthjkonkcdfdfaaaFnsT5
set_option linter.unusedVariables false
set_option linter.unusedSimpArgs false
namespace Go.Proofs.Ythjkonkcdfdfaaa
open Go Go.Wk Go.Proofs
set_option maxRecDepth 100000
set_option maxHeartbeats 1000000

/- loop.example/g00869/spec.DrawTidiedCircuit -/
theorem s_DrawTidiedCircuit_ok {w : World} {κ : Col} {a0 : Option Addr} {u0 : Nat} {p0 : (List Int)} (g0 : Rd (Rp.int .u8) κ w 0 a0 u0 p0) {r : Circuit} (h : s_DrawTidiedCircuit p0 = some r) : Ret Try.prog 7 [.slice a0 p0.length u0] w (fun v w' => ∃ (κ' : Col) (ra0 : Option Addr) (ru0 : Nat) (ra1 : Option Addr) (ru1 : Nat) (ra2 : Option Addr) (ru2 : Nat), v = .agg #[.int .i64 r.Inputs, .int .i64 r.Latches, .slice ra0 r.Next.length ru0, .slice ra1 r.Gates.length ru1, .slice ra2 r.Outs.length ru2] ∧ Ent κ w κ' w' ∧ Oc (Ep.int .i64) 2 κ' w' 2 ra0 ru0 r.Next ∧ Oc Gate.ep33 33 κ' w' 3 ra1 ru1 r.Gates ∧ Oc (Ep.int .i64) 2 κ' w' 4 ra2 ru2 r.Outs) := by
 unfold s_DrawTidiedCircuit at h
 refine Ret.enter Try.func7 rfl Try.ntmps7 rfl ?_
 dsimp only [envOf]
 have hE := Ent.refl κ w
 refine WC.seq ?_
 refine WC.rs [(0, 1)] rfl ?_
 refine WO.alloc (κ := κ) 2 rfl rfl rfl rfl rfl Try.zeroValue27 rfl fun b2 w1 K2 S3 f4 => ⟨trivial, ?_⟩
 refine WO.fin ?_
 refine DN.seq ?_
 refine WC.seq ?_
 refine WC.rs [(0, 2), (1, 1), (2, 2)] rfl ?_
 refine WO.pn 1 rfl ?_
 obtain ⟨x5, hx5, h⟩ := Option.bind_eq_some_iff.mp h
 have f5 := g0.stp S3 rfl rfl
 refine WO.call rfl rfl rfl rfl rfl rfl Try.call29 (s_l1New_ok (κ := fun b => mp [] 1 (K2 b)) (Sl.map f5 (mp [] 1) rfl rfl) hx5) ?_
 rintro _ w6 ⟨k7, a5_0, u5_0, b5, rfl, e8, f9, f10⟩
 obtain ⟨K11, S12, m13, z14⟩ := Ent.mixed0 (l := []) (κ := K2) e8 3 rfl
 refine ⟨trivial, ?_⟩
 have f15 := f9.mx z14
 have f16 := f10.mx m13 rfl (rfl : 3 + 3 = 6)
 refine WO.pn 1 rfl ?_
 refine WO.fin ?_
 refine DN.seq ?_
 refine WC.seq ?_
 refine WC.rs [(0, 2), (1, 1), (2, 1)] rfl ?_
 refine WO.pn 1 rfl ?_
 obtain ⟨x7, hx7, h⟩ := Option.bind_eq_some_iff.mp h
 refine WO.call rfl rfl rfl rfl rfl rfl Try.call30 (s_l31DrawAny_ok (κ := fun b => mp [(6, 2)] 0 (K11 b)) (p0 := x5) (Sl.map f15 (mp [(6, 2)] 0) rfl rfl) (f16.map (mp [(6, 2)] 0) rfl rfl) hx7) ?_
 rintro _ w17 ⟨k18, a7_0, u7_0, a7_1, u7_1, a7_2, u7_2, rfl, e19, f20, f21, f22, f23⟩
 obtain ⟨K24, S25, m26⟩ := Ent.mixed (l := [(6, 2)]) (κ := K11) e19 7 rfl
 refine ⟨trivial, ?_⟩
 have f28 := f20.mx (no_int _) m26 rfl (rfl : 7 + 3 = 10)
 have f29 := f21.mx Gate.no33 m26 rfl (rfl : 7 + 4 = 11)
 have f30 := f22.mx (no_int _) m26 rfl (rfl : 7 + 5 = 12)
 have f31 := f23.mx m26 rfl (rfl : 7 + 2 = 9)
 have f32 := f4.stp (S12.tr S25) rfl rfl
 refine WO.stB0 (κ := K24) 2 (vc := [.int .i64 x7.1.Inputs, .int .i64 x7.1.Latches, .slice a7_0 x7.1.Next.length u7_0, .slice a7_1 x7.1.Gates.length u7_1, .slice a7_2 x7.1.Outs.length u7_2]) rfl rfl rfl rfl rfl rfl rfl Try.sizeOf27 rfl rfl f32 rfl fun w33 S34 f35 => ⟨trivial, ?_⟩
 refine WO.fin ?_
 refine DN.seq ?_
 refine WC.ret ?_
 have f36 := hE.stp (S3.tr (S12.tr (S25.tr S34))) rfl rfl
 have f37 := f28.stp S34 rfl rfl
 have f38 := f29.stp S34 rfl rfl
 have f39 := f30.stp S34 rfl rfl
 refine DN.res (l := [.cell 2 27]) Try.results7 (res_cellA rfl f35 Try.isAgg27 Try.sizeOf27 rfl rfl) rfl ?_
 obtain rfl := Option.some.inj h
 exact ⟨(fun b => ren [(10, 2), (11, 3), (12, 4)] (K24 b)), a7_0, u7_0, a7_1, u7_1, a7_2, u7_2, rfl, (f36.map (ren [(10, 2), (11, 3), (12, 4)]) rfl rfl), (f37.map (ren [(10, 2), (11, 3), (12, 4)]) rfl rfl), (f38.map (ren [(10, 2), (11, 3), (12, 4)]) rfl rfl), (f39.map (ren [(10, 2), (11, 3), (12, 4)]) rfl rfl)⟩

/- loop.example/g00869/impl.TidiedCircuit -/
theorem i_TidiedCircuit_ok {w : World} {κ : Col} {a0_2 : Option Addr} {u0_2 : Nat} {a0_3 : Option Addr} {u0_3 : Nat} {a0_4 : Option Addr} {u0_4 : Nat} {p0 : Circuit} (g0_2 : Rd (Rp.int .i64) κ w 0 a0_2 u0_2 p0.Next) (g0_3 : Rd Gate.rp κ w 0 a0_3 u0_3 p0.Gates) (g0_4 : Rd (Rp.int .i64) κ w 0 a0_4 u0_4 p0.Outs) {r : Circuit} (h : i_TidiedCircuit p0 = some r) : Ret Try.prog 8 [.agg #[.int .i64 p0.Inputs, .int .i64 p0.Latches, .slice a0_2 p0.Next.length u0_2, .slice a0_3 p0.Gates.length u0_3, .slice a0_4 p0.Outs.length u0_4]] w (fun v w' => ∃ (κ' : Col) (ra0 : Option Addr) (ru0 : Nat) (ra1 : Option Addr) (ru1 : Nat) (ra2 : Option Addr) (ru2 : Nat), v = .agg #[.int .i64 r.Inputs, .int .i64 r.Latches, .slice ra0 r.Next.length ru0, .slice ra1 r.Gates.length ru1, .slice ra2 r.Outs.length ru2] ∧ Ent κ w κ' w' ∧ Oc (Ep.int .i64) 2 κ' w' 2 ra0 ru0 r.Next ∧ Oc Gate.ep33 33 κ' w' 3 ra1 ru1 r.Gates ∧ Oc (Ep.int .i64) 2 κ' w' 4 ra2 ru2 r.Outs) := by
 unfold i_TidiedCircuit at h
 refine Ret.enter Try.func8 rfl Try.ntmps8 rfl ?_
 dsimp only [envOf]
 have hE := Ent.refl κ w
 refine WC.seq ?_
 refine WC.rs [(0, 1), (1, 1)] rfl ?_
 refine WO.box (κ := κ) 2 rfl rfl rfl rfl rfl rfl rfl fun b1 w1 K2 S3 f4 => ⟨trivial, ?_⟩
 refine WO.alloc (κ := K2) 3 rfl rfl rfl rfl rfl Try.zeroValue27 rfl fun b2 w5 K6 S7 f8 => ⟨trivial, ?_⟩
 refine WO.fin ?_
 refine DN.seq ?_
 refine WC.seq ?_
 refine WC.seq ?_
 refine WC.rs [(0, 1), (1, 1), (2, 2)] rfl ?_
 have f9 := f4.stp S7 rfl rfl
 refine WO.k1 trivial rfl rfl rfl rfl (rn_la (cs := [.int .i64 p0.Inputs, .int .i64 p0.Latches, .slice a0_2 p0.Next.length u0_2, .slice a0_3 p0.Gates.length u0_3, .slice a0_4 p0.Outs.length u0_4]) Try.isAgg27 Try.sizeOf27 rfl rfl rfl (haE f9.cells)) ?_
 obtain ⟨x4, hx4, h⟩ := Option.bind_eq_some_iff.mp h
 have f10 := g0_2.stp (S3.tr S7) rfl rfl
 have f11 := g0_3.stp (S3.tr S7) rfl rfl
 have f12 := g0_4.stp (S3.tr S7) rfl rfl
 refine WO.call rfl rfl rfl rfl rfl rfl Try.call31 (i_isCircuit_ok (κ := fun b => mp [] 0 (K6 b)) (p0 := p0) (Sl.map f10 (mp [] 0) rfl rfl) (Sl.map f11 (mp [] 0) rfl rfl) (Sl.map f12 (mp [] 0) rfl rfl) hx4) ?_
 rintro _ w13 ⟨k14, rfl, e15⟩
 obtain ⟨K16, S17, m18⟩ := Ent.mixed (l := []) (κ := K6) e15 4 rfl
 refine ⟨trivial, ?_⟩
 refine WO.pn 1 rfl ?_
 refine WO.fin ?_
 refine DN.seq ?_
 revert h
 cases ht20 : (!x4) with
 | true =>
  intro h; replace h := cT h
  refine WC.ct rfl ?_
  refine WC.seq ?_
  refine WC.rs [(0, 2), (1, 1)] rfl ?_
  refine WO.k2 rfl rfl rfl rfl (rn_build (parts := []) (cells := [.int .i64 0, .int .i64 0, .slice none 0 0, .slice none 0 0, .slice none 0 0]) rfl rfl (by kernel_rfl)) ?_
  have f21 := f8.stp S17 rfl rfl
  refine WO.stB0 (κ := K16) 3 (vc := [.int .i64 0, .int .i64 0, .slice none 0 0, .slice none 0 0, .slice none 0 0]) rfl rfl rfl rfl rfl rfl rfl Try.sizeOf27 rfl rfl f21 rfl fun w22 S23 f24 => ⟨trivial, ?_⟩
  refine WO.fin ?_
  refine DN.seq ?_
  refine WC.ret ?_
  refine DN.retThen ?_
  have f25 := hE.stp (S3.tr (S7.tr (S17.tr S23))) rfl rfl
  refine DN.res (l := [.cell 2 27]) Try.results8 (res_cellA rfl f24 Try.isAgg27 Try.sizeOf27 rfl rfl) rfl ?_
  obtain rfl := Option.some.inj h
  exact ⟨K16, none, 0, none, 0, none, 0, rfl, f25, Ow.nil, Ow.nil, Ow.nil⟩
 | false =>
  intro h; replace h := cF h
  refine WC.cf rfl ?_
  refine WC.skip ?_
  refine DN.seq ?_
  refine WC.seq ?_
  refine WC.rs [(0, 1), (1, 1), (2, 1)] rfl ?_
  have f26 := f9.stp S17 rfl rfl
  refine WO.k1 trivial rfl rfl rfl rfl (rn_la (cs := [.int .i64 p0.Inputs, .int .i64 p0.Latches, .slice a0_2 p0.Next.length u0_2, .slice a0_3 p0.Gates.length u0_3, .slice a0_4 p0.Outs.length u0_4]) Try.isAgg27 Try.sizeOf27 rfl rfl rfl (haE f26.cells)) ?_
  obtain ⟨x8, hx8, h⟩ := Option.bind_eq_some_iff.mp h
  have f27 := f10.stp S17 rfl rfl
  have f28 := f11.stp S17 rfl rfl
  have f29 := f12.stp S17 rfl rfl
  refine WO.call rfl rfl rfl rfl rfl rfl Try.call32 (i_tidied_ok (κ := fun b => mp [] 0 (K16 b)) (p0 := p0) (Sl.map f27 (mp [] 0) rfl rfl) (Sl.map f28 (mp [] 0) rfl rfl) (Sl.map f29 (mp [] 0) rfl rfl) hx8) ?_
  rintro _ w30 ⟨k31, a8_0, u8_0, a8_1, u8_1, a8_2, u8_2, rfl, e32, f33, f34, f35⟩
  obtain ⟨K36, S37, m38⟩ := Ent.mixed (l := []) (κ := K16) e32 6 rfl
  refine ⟨trivial, ?_⟩
  have f40 := f33.mx (no_int _) m38 rfl (rfl : 6 + 2 = 8)
  have f41 := f34.mx Gate.no33 m38 rfl (rfl : 6 + 3 = 9)
  have f42 := f35.mx (no_int _) m38 rfl (rfl : 6 + 4 = 10)
  have f43 := f8.stp (S17.tr S37) rfl rfl
  refine WO.stB0 (κ := K36) 3 (vc := [.int .i64 x8.Inputs, .int .i64 x8.Latches, .slice a8_0 x8.Next.length u8_0, .slice a8_1 x8.Gates.length u8_1, .slice a8_2 x8.Outs.length u8_2]) rfl rfl rfl rfl rfl rfl rfl Try.sizeOf27 rfl rfl f43 rfl fun w44 S45 f46 => ⟨trivial, ?_⟩
  refine WO.fin ?_
  refine DN.seq ?_
  refine WC.ret ?_
  have f47 := hE.stp (S3.tr (S7.tr (S17.tr (S37.tr S45)))) rfl rfl
  have f48 := f40.stp S45 rfl rfl
  have f49 := f41.stp S45 rfl rfl
  have f50 := f42.stp S45 rfl rfl
  refine DN.res (l := [.cell 2 27]) Try.results8 (res_cellA rfl f46 Try.isAgg27 Try.sizeOf27 rfl rfl) rfl ?_
  obtain rfl := Option.some.inj h
  exact ⟨(fun b => ren [(8, 2), (9, 3), (10, 4)] (K36 b)), a8_0, u8_0, a8_1, u8_1, a8_2, u8_2, rfl, (f47.map (ren [(8, 2), (9, 3), (10, 4)]) rfl rfl), (f48.map (ren [(8, 2), (9, 3), (10, 4)]) rfl rfl), (f49.map (ren [(8, 2), (9, 3), (10, 4)]) rfl rfl), (f50.map (ren [(8, 2), (9, 3), (10, 4)]) rfl rfl)⟩

/- loop.example/g00869/impl.DepthOf -/
theorem i_DepthOf_ok {w : World} {κ : Col} {a0_2 : Option Addr} {u0_2 : Nat} {a0_3 : Option Addr} {u0_3 : Nat} {a0_4 : Option Addr} {u0_4 : Nat} {p0 : Circuit} (g0_2 : Rd (Rp.int .i64) κ w 0 a0_2 u0_2 p0.Next) (g0_3 : Rd Gate.rp κ w 0 a0_3 u0_3 p0.Gates) (g0_4 : Rd (Rp.int .i64) κ w 0 a0_4 u0_4 p0.Outs) {r : Int} (h : i_DepthOf p0 = some r) : Ret Try.prog 10 [.agg #[.int .i64 p0.Inputs, .int .i64 p0.Latches, .slice a0_2 p0.Next.length u0_2, .slice a0_3 p0.Gates.length u0_3, .slice a0_4 p0.Outs.length u0_4]] w (fun v w' => ∃ (κ' : Col), v = .int .i64 r ∧ Ent κ w κ' w') := by
 unfold i_DepthOf at h
 refine Ret.enter Try.func10 rfl Try.ntmps10 rfl ?_
 dsimp only [envOf]
 have hE := Ent.refl κ w
 refine WC.seq ?_
 refine WC.rs [(0, 1), (1, 2)] rfl ?_
 refine WO.box (κ := κ) 2 rfl rfl rfl rfl rfl rfl rfl fun b1 w1 K2 S3 f4 => ⟨trivial, ?_⟩
 refine WO.pn 1 rfl ?_
 refine WO.fin ?_
 refine DN.seq ?_
 refine WC.seq ?_
 refine WC.seq ?_
 refine WC.rs [(0, 1), (1, 1), (2, 2)] rfl ?_
 refine WO.k1 trivial rfl rfl rfl rfl (rn_la (cs := [.int .i64 p0.Inputs, .int .i64 p0.Latches, .slice a0_2 p0.Next.length u0_2, .slice a0_3 p0.Gates.length u0_3, .slice a0_4 p0.Outs.length u0_4]) Try.isAgg27 Try.sizeOf27 rfl rfl rfl (haE f4.cells)) ?_
 obtain ⟨x11, hx11, h⟩ := Option.bind_eq_some_iff.mp h
 have f5 := g0_2.stp S3 rfl rfl
 have f6 := g0_3.stp S3 rfl rfl
 have f7 := g0_4.stp S3 rfl rfl
 refine WO.call rfl rfl rfl rfl rfl rfl Try.call31 (i_isCircuit_ok (κ := fun b => mp [] 0 (K2 b)) (p0 := p0) (Sl.map f5 (mp [] 0) rfl rfl) (Sl.map f6 (mp [] 0) rfl rfl) (Sl.map f7 (mp [] 0) rfl rfl) hx11) ?_
 rintro _ w8 ⟨k9, rfl, e10⟩
 obtain ⟨K11, S12, m13⟩ := Ent.mixed (l := []) (κ := K2) e10 3 rfl
 refine ⟨trivial, ?_⟩
 refine WO.pn 1 rfl ?_
 refine WO.fin ?_
 refine DN.seq ?_
 revert h
 cases ht15 : (!x11) with
 | true =>
  intro h; replace h := cT h
  refine WC.ct rfl ?_
  refine WC.seq ?_
  refine WC.rs [(0, 2)] rfl ?_
  refine WO.pn 1 rfl ?_
  refine WO.fin ?_
  refine DN.seq ?_
  refine WC.ret ?_
  refine DN.retThen ?_
  have f16 := hE.stp (S3.tr S12) rfl rfl
  refine DN.res (l := [.tmp 2]) Try.results10 (res_tmp rfl rfl) rfl ?_
  obtain rfl := Option.some.inj h
  exact ⟨K11, rfl, f16⟩
 | false =>
  intro h; replace h := cF h
  refine WC.cf rfl ?_
  refine WC.skip ?_
  refine DN.seq ?_
  refine WC.seq ?_
  refine WC.rs [(0, 1), (1, 1), (2, 1), (3, 2)] rfl ?_
  have f17 := f4.stp S12 rfl rfl
  refine WO.k1 trivial rfl rfl rfl rfl (rn_la (cs := [.int .i64 p0.Inputs, .int .i64 p0.Latches, .slice a0_2 p0.Next.length u0_2, .slice a0_3 p0.Gates.length u0_3, .slice a0_4 p0.Outs.length u0_4]) Try.isAgg27 Try.sizeOf27 rfl rfl rfl (haE f17.cells)) ?_
  obtain ⟨x14, hx14, h⟩ := Option.bind_eq_some_iff.mp h
  have f18 := f5.stp S12 rfl rfl
  have f19 := f6.stp S12 rfl rfl
  have f20 := f7.stp S12 rfl rfl
  refine WO.call rfl rfl rfl rfl rfl rfl Try.call36 (i_signalsOf_ok (κ := fun b => mp [] 0 (K11 b)) (p0 := p0) (Sl.map f18 (mp [] 0) rfl rfl) (Sl.map f19 (mp [] 0) rfl rfl) (Sl.map f20 (mp [] 0) rfl rfl) hx14) ?_
  rintro _ w21 ⟨k22, rfl, e23⟩
  obtain ⟨K24, S25, m26⟩ := Ent.mixed (l := []) (κ := K11) e23 5 rfl
  refine ⟨trivial, ?_⟩
  obtain ⟨x15, hx15, h⟩ := Option.bind_eq_some_iff.mp h
  refine WO.mk (κ := K24) (E := (Ep.int .i64)) (z := (0 : Int)) 7 rfl rfl rfl rfl rfl rfl rfl Try.underlying24 Tryinfo2 rfl rfl rfl rfl rfl (fun _ _ _ => rfl) (mkS_C hx15) fun a15 u15 w28 K29 S30 f31 => ⟨trivial, ?_⟩
  refine WO.pn 1 rfl ?_
  refine WO.fin ?_
  refine DN.seq ?_
  refine WC.seq ?_
  refine WC.rx (κ := K29) [2] none [(2, 2), (0, 0), (3, 0), (4, 2), (1, 1), (5, 2), (6, 2)] [] (by kernel_rfl) (by kernel_rfl) fun w33 S32 => ?_
  refine WO.k2 rfl rfl rfl rfl (rn_fieldAddr Try.runUnderlying27 rfl Try.sizeOf25 rfl rfl) ?_
  have f34 := f17.stp (S25.tr (S30.tr S32)) rfl rfl
  refine WO.k0 rfl rfl rfl rfl (rn_la (cs := [.int .i64 p0.Inputs, .int .i64 p0.Latches, .slice a0_2 p0.Next.length u0_2, .slice a0_3 p0.Gates.length u0_3, .slice a0_4 p0.Outs.length u0_4]) Try.isAgg27 Try.sizeOf27 rfl rfl rfl (haC f34.cells rfl)) ?_
  refine WO.k0 rfl rfl rfl rfl (rn_ld Try.isAgg25 rfl rfl (hvC (f34.ld 3 rfl rfl) rfl)) ?_
  refine WO.k2 rfl rfl rfl rfl (rn_len Try.runUnderlying25 rfl rfl) ?_
  obtain ⟨x17, hx17, h⟩ := Option.bind_eq_some_iff.mp h
  have f35 := f18.stp (S25.tr (S30.tr S32)) rfl rfl
  have f36 := f19.stp (S25.tr (S30.tr S32)) rfl rfl
  have f37 := f20.stp (S25.tr (S30.tr S32)) rfl rfl
  refine WO.call rfl rfl rfl rfl rfl rfl Try.call36 (i_signalsOf_ok (κ := fun b => mp [] 0 (K29 b)) (p0 := p0) (Sl.map f35 (mp [] 0) rfl rfl) (Sl.map f36 (mp [] 0) rfl rfl) (Sl.map f37 (mp [] 0) rfl rfl) hx17) ?_
  rintro _ w38 ⟨k39, rfl, e40⟩
  obtain ⟨K41, S42, m43⟩ := Ent.mixed (l := []) (κ := K29) e40 8 rfl
  refine ⟨(S42.cl rfl), ?_⟩
  refine WO.pn 2 rfl ?_
  refine WO.nx ?_
  refine WO.fin ?_
  refine DN.seq ?_
  refine WC.seq ?_
  refine WC.seq ?_
  refine WC.rs [(0, 2), (1, 1), (2, 2), (3, 2)] rfl ?_
  refine WO.k2 rfl rfl rfl rfl (rn_fieldAddr Try.runUnderlying27 rfl Try.sizeOf25 rfl rfl) ?_
  have f45 := f34.stp S42 rfl rfl
  refine WO.k1 trivial rfl rfl rfl rfl (rn_ld Try.isAgg25 rfl rfl (hvE (f45.ld 3 rfl rfl))) ?_
  refine WO.k2 rfl rfl rfl rfl (rn_len Try.runUnderlying25 rfl rfl) ?_
  refine WO.pn 1 rfl ?_
  refine WO.fin ?_
  refine DN.seq ?_
  have hN46 : (p0.Gates.length : Int) ≤ 9223372036854775807 := f36.len_le
  obtain ⟨q2, hq48, hK47⟩ := Option.bind_eq_some_iff.mp h
  clear h
  refine WC.meet (fun L w' => ∃ (κ' : Col) (s3 : (List Int)), L = [(1, .pointer (some ⟨b1, 0, none⟩)), (3, .slice a15 x15.length u15)] ∧ Stp [7, 10] K41 w38 κ' w' ∧ Oc (Ep.int .i64) 2 κ' w' 7 a15 u15 s3 ∧ x15.length = s3.length ∧ q2 = Sum.inr s3) ?_ ?_
  ·
   refine WC.block ?_
   have f59 := f31.stp (S32.tr S42) rfl rfl
   refine WC.loop (fun k L w' => ∃ (κ' : Col) (v25 : Int) (s1 : (List Int)), L = [(1, .pointer (some ⟨b1, 0, none⟩)), (3, .slice a15 x15.length u15), (4, .int .i64 (IntKind.i64.wrap (x17 - (p0.Gates.length : Int)))), (23, .slice a0_3 p0.Gates.length u0_3), (24, .int .i64 (p0.Gates.length : Int)), (25, .int .i64 v25)] ∧ Stp [7, 10] K41 w38 κ' w' ∧ Oc (Ep.int .i64) 2 κ' w' 7 a15 u15 s1 ∧ x15.length = s1.length ∧ 0 ≤ v25 ∧ Int.toNat ((p0.Gates.length : Int) - v25) = k ∧ cntM (i_DepthOf_b0 p0 x17) k v25 s1 = some q2) ⟨_, _, ⟨K41, 0, (x15 : (List Int)), rfl, (Stp.refl _ _).wk rfl, f59, rfl, (by decide), (by simp), hq48⟩, fun a ha => (ha.more (ha.more (ha.more (ha.more (ha.more (ha.more ha.nil rfl) rfl) rfl) rfl) rfl) rfl)⟩ ?_
   rintro k _ w54 ⟨K55, v25, s1, rfl, S56, f57, hn58, hj46, hJ46, h⟩
   rcases k with _ | k
   ·
    have hk60 := h; obtain ⟨o46, h⟩ := ex_eq (Sum.inr (Sum.inl s1) : Int ⊕ (((List Int)) ⊕ ((List Int))))
    have hc46 : decide (v25 < (p0.Gates.length : Int)) = false := decide_eq_false (by omega)
    refine WC.seq ?_
    refine WC.rs [(0, 2)] rfl ?_
    refine WO.pn 1 rfl ?_
    refine WO.fin ?_
    refine DN.seq ?_
    refine WC.seq ?_
    refine WC.cf' rfl hc46 ?_
    refine WC.exit ?_
    refine DN.exitThen ?_
    refine DN.exitThen ?_
    obtain rfl := Option.some.inj h
    have h := hk60
    refine DN.hit ?_
    obtain rfl := Option.some.inj h
    exact DN.meet _ ⟨K55, (s1 : (List Int)), rfl, S56.wk rfl, f57, hn58, rfl⟩ fun a ha => (ha.more (ha.more ha.nil rfl) rfl)
   ·
    obtain ⟨o46, h, hk60⟩ := Option.bind_eq_some_iff.mp h; unfold i_DepthOf_b0 at h
    have hc46 : decide (v25 < (p0.Gates.length : Int)) = true := decide_eq_true (by omega)
    refine WC.seq ?_
    refine WC.rs [(0, 2)] rfl ?_
    refine WO.pn 1 rfl ?_
    refine WO.fin ?_
    refine DN.seq ?_
    refine WC.seq ?_
    refine WC.ct' rfl hc46 ?_
    refine WC.skip ?_
    refine DN.seq ?_
    refine WC.seq ?_
    refine WC.block ?_
    refine WC.seq ?_
    refine WC.rs [(0, 2), (1, 2), (2, 1), (3, 1), (4, 2), (5, 1)] rfl ?_
    refine WO.pn 1 rfl ?_
    obtain ⟨x28, hx28, h⟩ := Option.bind_eq_some_iff.mp h
    refine WO.k2 rfl rfl rfl rfl (rn_index f36 hx28 Try.runUnderlying25 Try.sizeOf33 rfl rfl rfl rfl) ?_
    have f61 := f36.stp (S42.tr S56) rfl rfl
    obtain ⟨cse62, hre62, hle62⟩ := (f61).gSt hx28
    obtain rfl := Gate.un hre62
    refine WO.k1 trivial rfl rfl rfl rfl (rn_la (cs := [.int .i64 x28.A, .int .i64 x28.B]) Try.isAgg33 Try.sizeOf33 rfl rfl rfl (haE hle62)) ?_
    refine WO.alloc (κ := K55) 10 rfl rfl rfl rfl rfl Try.zeroValue33 rfl fun b6 w63 K64 S65 f66 => ⟨trivial, ?_⟩
    refine WO.pn 1 rfl ?_
    refine WO.stB0 (κ := K64) 10 (vc := [.int .i64 x28.A, .int .i64 x28.B]) rfl rfl rfl rfl rfl rfl rfl Try.sizeOf33 rfl rfl f66 rfl fun w67 S68 f69 => ⟨trivial, ?_⟩
    refine WO.fin ?_
    refine DN.seq ?_
    refine WC.rx (κ := K64) [0, 7, 10] (some 19) [(0, 2), (1, 2), (2, 2), (3, 2), (4, 2), (5, 2), (10, 2), (11, 2), (6, 0), (7, 2), (8, 2), (9, 0), (12, 0), (13, 2), (14, 2), (15, 0), (16, 2), (17, 2), (18, 2)] [(19, 1)] (by kernel_rfl) (by kernel_rfl) fun w71 S70 => ?_
    refine WO.pn 5 rfl ?_
    refine WO.k2 rfl rfl rfl rfl (rn_fieldAddr Try.runUnderlying33 rfl Try.sizeOf2 rfl rfl) ?_
    refine WO.pn 1 rfl ?_
    refine WO.k2 rfl rfl rfl rfl (rn_fieldAddr Try.runUnderlying33 rfl Try.sizeOf2 rfl rfl) ?_
    have f72 := f69.stp S70 rfl rfl
    refine WO.k0 rfl rfl rfl rfl (rn_ld Try.isAgg2 rfl rfl (hvC (f72.ld 0 rfl rfl) rfl)) ?_
    refine WO.k2 rfl rfl rfl rfl (rn_quo rfl rfl rfl (by decide)) ?_
    obtain ⟨x38, hx38, h⟩ := Option.bind_eq_some_iff.mp h
    refine WO.k2 rfl rfl rfl rfl (rn_index f57.rdc hx38 Try.runUnderlying24 Try.sizeOf2 rfl rfl hn58 rfl) ?_
    have f73 := f57.stp (S65.tr (S68.tr S70)) rfl rfl
    refine WO.k0 rfl rfl rfl rfl (rn_ld Try.isAgg2 rfl rfl (hvC (f73.rdc.gInt hx38) rfl)) ?_
    refine WO.k0 rfl rfl rfl rfl (rn_ld Try.isAgg2 rfl rfl (hvC (f72.ld 1 rfl rfl) rfl)) ?_
    refine WO.k2 rfl rfl rfl rfl (rn_quo rfl rfl rfl (by decide)) ?_
    obtain ⟨x44, hx44, h⟩ := Option.bind_eq_some_iff.mp h
    refine WO.k2 rfl rfl rfl rfl (rn_index f73.rdc hx44 Try.runUnderlying24 Try.sizeOf2 rfl rfl hn58 rfl) ?_
    refine WO.k0 rfl rfl rfl rfl (rn_ld Try.isAgg2 rfl rfl (hvC (f73.rdc.gInt hx44) rfl)) ?_
    refine WO.k2 rfl rfl rfl rfl (rn_max rfl rfl rfl) ?_
    refine WO.pn 1 rfl ?_
    obtain ⟨x48, hx48, h⟩ := Option.bind_eq_some_iff.mp h
    refine WO.k2 rfl rfl rfl rfl (rn_index f73.rdc hx48 Try.runUnderlying24 Try.sizeOf2 rfl rfl hn58 rfl) ?_
    refine WO.nx ?_
    obtain ⟨y35, hy35, h⟩ := Option.bind_eq_some_iff.mp h
    refine WO.stI (κ := K64) (E := (Ep.int .i64)) 7 [] rfl rfl rfl rfl rfl rfl rfl rfl Try.sizeOf2 rfl rfl rfl rfl f73 hy35 fun w74 K75 S76 f77 => ⟨trivial, ?_⟩
    have hn78 : x15.length = y35.length := hn58.trans (setI_ok hy35).2.2.2.symm
    refine WO.fin ?_
    refine DN.block ?_
    refine DN.seq ?_
    refine WC.rs [(0, 2), (1, 2)] rfl ?_
    refine WO.pn 2 rfl ?_
    refine WO.fin ?_
    have hw46 : IntKind.wrap .i64 (v25 + 1) = v25 + 1 := wr1 hj46 (of_decide_eq_true hc46) hN46
    rw [hw46]
    have hc46 := of_decide_eq_true hc46
    obtain rfl := Option.some.inj h
    refine DN.round fun a ha => ?_
    exact ⟨k, _, Nat.lt_succ_self _, ⟨K75, v25 + 1, (y35 : (List Int)), rfl, (S56.tr (S65.tr (S68.tr (S70.tr S76)))).wk rfl, f77, hn78, by omega, by omega, hk60⟩, (ha.more (ha.more (ha.more (ha.more (ha.more (ha.more ha.nil rfl) rfl) rfl) rfl) rfl) rfl)⟩
  rintro _ w49 ⟨K50, s3, rfl, S51, f52, hn53, rfl⟩
  have h := hK47
  dsimp only [aft] at h
  refine DN.seq ?_
  refine WC.seq ?_
  refine WC.rs [(0, 2)] rfl ?_
  refine WO.pn 1 rfl ?_
  refine WO.fin ?_
  refine DN.seq ?_
  refine WC.seq ?_
  refine WC.seq ?_
  refine WC.rx (κ := K50) [2] none [(1, 2), (4, 2), (8, 2), (2, 0), (5, 0), (0, 1), (3, 1), (6, 1), (7, 2)] [] (by kernel_rfl) (by kernel_rfl) fun w80 S79 => ?_
  refine WO.k2 rfl rfl rfl rfl (rn_fieldAddr Try.runUnderlying27 rfl Try.sizeOf24 rfl rfl) ?_
  refine WO.k2 rfl rfl rfl rfl (rn_fieldAddr Try.runUnderlying27 rfl Try.sizeOf24 rfl rfl) ?_
  refine WO.pn 1 rfl ?_
  have f81 := f45.stp (S51.tr S79) rfl rfl
  refine WO.k0 rfl rfl rfl rfl (rn_ld Try.isAgg24 rfl rfl (hvC (f81.ld 2 rfl rfl) rfl)) ?_
  refine WO.k0 rfl rfl rfl rfl (rn_ld Try.isAgg24 rfl rfl (hvC (f81.ld 4 rfl rfl) rfl)) ?_
  refine WO.bl0 (κ := K50) (E := (Ep.int .i64)) 10 rfl rfl rfl rfl rfl Try.underlying24 Tryinfo2 rfl fun a50 u50 w82 K83 S84 f85 => ⟨(S84.cl rfl), ?_⟩
  obtain ⟨x53, hx53, h⟩ := Option.bind_eq_some_iff.mp h
  have f86 := f35.stp (S42.tr (S51.tr (S79.tr S84))) rfl rfl
  refine WO.app (κ := K83) (E := (Ep.int .i64)) 10 [] rfl rfl rfl rfl rfl rfl rfl rfl rfl Try.underlying24 Tryinfo2 rfl rfl rfl rfl f85 (Sl.srcP (pu_int _) f86) sy_false hx53 rfl fun a53 u53 w87 K88 S89 f90 => ⟨((S84.tr S89).cl rfl), ?_⟩
  obtain ⟨x56, hx56, h⟩ := Option.bind_eq_some_iff.mp h
  have f91 := f37.stp (S42.tr (S51.tr (S79.tr (S84.tr S89)))) rfl rfl
  refine WO.app (κ := K88) (E := (Ep.int .i64)) 10 [] rfl rfl rfl rfl rfl rfl rfl rfl rfl Try.underlying24 Tryinfo2 rfl rfl rfl rfl f90 (Sl.srcP (pu_int _) f91) sy_false hx56 rfl fun a56 u56 w92 K93 S94 f95 => ⟨((S84.tr (S89.tr S94)).cl rfl), ?_⟩
  refine WO.k2 rfl rfl rfl rfl (rn_len Try.runUnderlying24 rfl rfl) ?_
  refine WO.nx ?_
  refine WO.fin ?_
  refine DN.seq ?_
  have hN96 : (x56.length : Int) ≤ 9223372036854775807 := f95.len_le
  obtain ⟨q5, hq98, hK97⟩ := Option.bind_eq_some_iff.mp h
  clear h
  refine WC.meet (fun L w' => ∃ (κ' : Col) (s6 : Int), L = [(7, .int .i64 s6)] ∧ Stp [] K93 w92 κ' w' ∧ q5 = Sum.inr s6) ?_ ?_
  ·
   refine WC.block ?_
   refine WC.loop (fun k L w' => ∃ (κ' : Col) (v58 : Int) (s4 : Int), L = [(3, .slice a15 x15.length u15), (7, .int .i64 s4), (56, .slice a56 x56.length u56), (57, .int .i64 (x56.length : Int)), (58, .int .i64 v58)] ∧ Stp [] K93 w92 κ' w' ∧ 0 ≤ v58 ∧ Int.toNat ((x56.length : Int) - v58) = k ∧ cntM (i_DepthOf_b2 s3 x56) k v58 s4 = some q5) ⟨_, _, ⟨K93, 0, (0 : Int), rfl, (Stp.refl _ _).wk rfl, (by decide), (by simp), hq98⟩, fun a ha => (ha.more (ha.more (ha.more (ha.more (ha.more ha.nil rfl) rfl) rfl) rfl) rfl)⟩ ?_
   rintro k _ w102 ⟨K103, v58, s4, rfl, S104, hj96, hJ96, h⟩
   rcases k with _ | k
   ·
    have hk105 := h; obtain ⟨o96, h⟩ := ex_eq (Sum.inr (Sum.inl s4) : Int ⊕ ((Int) ⊕ (Int)))
    have hc96 : decide (v58 < (x56.length : Int)) = false := decide_eq_false (by omega)
    refine WC.seq ?_
    refine WC.rs [(0, 2)] rfl ?_
    refine WO.pn 1 rfl ?_
    refine WO.fin ?_
    refine DN.seq ?_
    refine WC.seq ?_
    refine WC.cf' rfl hc96 ?_
    refine WC.exit ?_
    refine DN.exitThen ?_
    refine DN.exitThen ?_
    obtain rfl := Option.some.inj h
    have h := hk105
    refine DN.hit ?_
    obtain rfl := Option.some.inj h
    exact DN.meet _ ⟨K103, (s4 : Int), rfl, S104.wk rfl, rfl⟩ fun a ha => (ha.more ha.nil rfl)
   ·
    obtain ⟨o96, h, hk105⟩ := Option.bind_eq_some_iff.mp h; unfold i_DepthOf_b2 at h
    have hc96 : decide (v58 < (x56.length : Int)) = true := decide_eq_true (by omega)
    refine WC.seq ?_
    refine WC.rs [(0, 2)] rfl ?_
    refine WO.pn 1 rfl ?_
    refine WO.fin ?_
    refine DN.seq ?_
    refine WC.seq ?_
    refine WC.ct' rfl hc96 ?_
    refine WC.skip ?_
    refine DN.seq ?_
    refine WC.seq ?_
    refine WC.block ?_
    refine WC.seq ?_
    refine WC.rs [(0, 2), (1, 1), (2, 2)] rfl ?_
    obtain ⟨x60, hx60, h⟩ := Option.bind_eq_some_iff.mp h
    refine WO.k2 rfl rfl rfl rfl (rn_index f95.rdc hx60 Try.runUnderlying24 Try.sizeOf2 rfl rfl rfl rfl) ?_
    have f106 := f95.stp S104 rfl rfl
    refine WO.k1 trivial rfl rfl rfl rfl (rn_ld Try.isAgg2 rfl rfl (hvE (f106.rdc.gInt hx60))) ?_
    refine WO.pn 1 rfl ?_
    refine WO.fin ?_
    refine DN.seq ?_
    refine WC.rs [(0, 2), (1, 2), (2, 2), (3, 2), (4, 2), (5, 1), (6, 2), (7, 2)] rfl ?_
    refine WO.pn 3 rfl ?_
    refine WO.k2 rfl rfl rfl rfl (rn_quo rfl rfl rfl (by decide)) ?_
    obtain ⟨x66, hx66, h⟩ := Option.bind_eq_some_iff.mp h
    refine WO.k2 rfl rfl rfl rfl (rn_index f52.rdc hx66 Try.runUnderlying24 Try.sizeOf2 rfl rfl hn53 rfl) ?_
    have f107 := f52.stp (S79.tr (S84.tr (S89.tr (S94.tr S104)))) rfl rfl
    refine WO.k1 trivial rfl rfl rfl rfl (rn_ld Try.isAgg2 rfl rfl (hvE (f107.rdc.gInt hx66))) ?_
    refine WO.k2 rfl rfl rfl rfl (rn_max rfl rfl rfl) ?_
    refine WO.pn 1 rfl ?_
    refine WO.fin ?_
    refine DN.block ?_
    refine DN.seq ?_
    refine WC.rs [(0, 2), (1, 2)] rfl ?_
    refine WO.pn 2 rfl ?_
    refine WO.fin ?_
    have hw96 : IntKind.wrap .i64 (v58 + 1) = v58 + 1 := wr1 hj96 (of_decide_eq_true hc96) hN96
    rw [hw96]
    have hc96 := of_decide_eq_true hc96
    obtain rfl := Option.some.inj h
    refine DN.round fun a ha => ?_
    exact ⟨k, _, Nat.lt_succ_self _, ⟨K103, v58 + 1, ((if s4 < x66 then x66 else s4) : Int), rfl, S104.wk rfl, by omega, by omega, hk105⟩, (ha.more (ha.more (ha.more (ha.more (ha.more ha.nil rfl) rfl) rfl) rfl) rfl)⟩
  rintro _ w99 ⟨K100, s6, rfl, S101, rfl⟩
  have h := hK97
  dsimp only [aft] at h
  refine DN.seq ?_
  refine WC.seq ?_
  refine WC.rs [(0, 2), (1, 2)] rfl ?_
  refine WO.pn 2 rfl ?_
  refine WO.fin ?_
  refine DN.seq ?_
  refine WC.ret ?_
  have f108 := hE.stp (S3.tr (S12.tr (S25.tr (S30.tr (S32.tr (S42.tr (S51.tr (S79.tr (S84.tr (S89.tr (S94.tr S101))))))))))) rfl rfl
  refine DN.res (l := [.tmp 2]) Try.results10 (res_tmp rfl rfl) rfl ?_
  obtain rfl := Option.some.inj h
  exact ⟨K100, rfl, f108⟩

/- loop.example/g00869/impl.StepOf -/
theorem i_StepOf_ok {w : World} {κ : Col} {a0_2 : Option Addr} {u0_2 : Nat} {a0_3 : Option Addr} {u0_3 : Nat} {a0_4 : Option Addr} {u0_4 : Nat} {p0 : Circuit} {p1 : Int} {p2 : Int} (g0_2 : Rd (Rp.int .i64) κ w 0 a0_2 u0_2 p0.Next) (g0_3 : Rd Gate.rp κ w 0 a0_3 u0_3 p0.Gates) (g0_4 : Rd (Rp.int .i64) κ w 0 a0_4 u0_4 p0.Outs) {r : Int × Int} (h : i_StepOf p0 p1 p2 = some r) : Ret Try.prog 12 [.agg #[.int .i64 p0.Inputs, .int .i64 p0.Latches, .slice a0_2 p0.Next.length u0_2, .slice a0_3 p0.Gates.length u0_3, .slice a0_4 p0.Outs.length u0_4], .int .i64 p1, .int .i64 p2] w (fun v w' => ∃ (κ' : Col), v = .tuple #[.int .i64 r.1, .int .i64 r.2] ∧ Ent κ w κ' w') := by
 unfold i_StepOf at h
 refine Ret.enter Try.func12 rfl Try.ntmps12 rfl ?_
 dsimp only [envOf]
 have hE := Ent.refl κ w
 refine WC.seq ?_
 refine WC.rs [(0, 1), (1, 2), (2, 2)] rfl ?_
 refine WO.box (κ := κ) 2 rfl rfl rfl rfl rfl rfl rfl fun b3 w1 K2 S3 f4 => ⟨trivial, ?_⟩
 refine WO.pn 2 rfl ?_
 refine WO.fin ?_
 refine DN.seq ?_
 refine WC.seq ?_
 refine WC.seq ?_
 refine WC.rs [(0, 1), (1, 1), (2, 2), (3, 2), (4, 2), (5, 2), (6, 2), (7, 2), (8, 2), (9, 2), (10, 1), (11, 2), (12, 2), (13, 2), (14, 2), (15, 2), (16, 2), (17, 2), (18, 2), (19, 2), (20, 2), (21, 1), (22, 2), (23, 2), (24, 2)] rfl ?_
 refine WO.k1 trivial rfl rfl rfl rfl (rn_la (cs := [.int .i64 p0.Inputs, .int .i64 p0.Latches, .slice a0_2 p0.Next.length u0_2, .slice a0_3 p0.Gates.length u0_3, .slice a0_4 p0.Outs.length u0_4]) Try.isAgg27 Try.sizeOf27 rfl rfl rfl (haE f4.cells)) ?_
 obtain ⟨x11, hx11, h⟩ := Option.bind_eq_some_iff.mp h
 have f5 := g0_2.stp S3 rfl rfl
 have f6 := g0_3.stp S3 rfl rfl
 have f7 := g0_4.stp S3 rfl rfl
 refine WO.call rfl rfl rfl rfl rfl rfl Try.call31 (i_isCircuit_ok (κ := fun b => mp [] 0 (K2 b)) (p0 := p0) (Sl.map f5 (mp [] 0) rfl rfl) (Sl.map f6 (mp [] 0) rfl rfl) (Sl.map f7 (mp [] 0) rfl rfl) hx11) ?_
 rintro _ w8 ⟨k9, rfl, e10⟩
 obtain ⟨K11, S12, m13⟩ := Ent.mixed (l := []) (κ := K2) e10 3 rfl
 refine ⟨trivial, ?_⟩
 refine WO.pn 2 rfl ?_
 obtain ⟨p16, h, hK15⟩ := Option.bind_eq_some_iff.mp h
 refine WO.meet [(4, 2), (5, 2), (6, 2)] [(7, 2), (8, 2), (9, 2), (10, 1), (11, 2), (12, 2), (13, 2), (14, 2), (15, 2), (16, 2), (17, 2), (18, 2), (19, 2), (20, 2), (21, 1), (22, 2), (23, 2), (24, 2)] (fun L w' => L = [(1, .int .i64 p1), (2, .int .i64 p2), (3, .pointer (some ⟨b3, 0, none⟩)), (16, .bool p16)] ∧ ∃ κ', Stp [] K11 w8 κ' w') trivial ?_ ?_
 ·
  revert h
  cases ht16 : (!x11) with
  | true =>
   intro h; replace h := cT h
   refine WO.pn 3 rfl ?_
   obtain rfl := Option.some.inj h
   exact WO.met _ trivial ⟨rfl, _, (Stp.refl _ _).wk rfl⟩ fun a ha => (ha.more (ha.more (ha.more (ha.more ha.nil rfl) rfl) rfl) rfl)
  | false =>
   intro h; replace h := cF h
   refine WO.pn 3 rfl ?_
   obtain rfl := Option.some.inj h
   exact WO.met _ trivial ⟨rfl, _, (Stp.refl _ _).wk rfl⟩ fun a ha => (ha.more (ha.more (ha.more (ha.more ha.nil rfl) rfl) rfl) rfl)
 rintro _ w17 _ ⟨rfl, K18, S19⟩
 have h := hK15
 refine WO.pn 1 rfl ?_
 obtain ⟨p23, h, hK20⟩ := Option.bind_eq_some_iff.mp h
 refine WO.meet [(8, 2), (9, 2), (10, 1), (11, 2), (12, 2), (13, 2)] [(14, 2), (15, 2), (16, 2), (17, 2), (18, 2), (19, 2), (20, 2), (21, 1), (22, 2), (23, 2), (24, 2)] (fun L w' => L = [(1, .int .i64 p1), (2, .int .i64 p2), (3, .pointer (some ⟨b3, 0, none⟩)), (23, .bool p23)] ∧ ∃ κ', Stp [] K18 w17 κ' w') trivial ?_ ?_
 ·
  revert h
  cases ht21 : p16 with
  | true =>
   intro h; replace h := cT h
   refine WO.pn 2 rfl ?_
   refine WO.ls rfl rfl rfl rfl ?_
   refine WO.pn 3 rfl ?_
   obtain rfl := Option.some.inj h
   exact WO.met _ trivial ⟨rfl, _, (Stp.refl _ _).wk rfl⟩ fun a ha => (ha.more (ha.more (ha.more (ha.more ha.nil rfl) rfl) rfl) rfl)
  | false =>
   intro h; replace h := cF h
   refine WO.pn 1 rfl ?_
   refine WO.k2 rfl rfl rfl rfl (rn_fieldAddr Try.runUnderlying27 rfl Try.sizeOf2 rfl rfl) ?_
   have f22 := f4.stp (S12.tr S19) rfl rfl
   refine WO.k1 trivial rfl rfl rfl rfl (rn_ld Try.isAgg2 rfl rfl (hvE (f22.ld 1 rfl rfl))) ?_
   obtain ⟨_z21, hz21, h⟩ := Option.bind_eq_some_iff.mp h
   refine WO.k2 rfl rfl rfl rfl (rn_shl rfl rfl rfl (nn_ok hz21)) ?_
   refine WO.pn 2 rfl ?_
   obtain rfl := Option.some.inj h
   exact WO.met _ trivial ⟨rfl, _, (Stp.refl _ _).wk rfl⟩ fun a ha => (ha.more (ha.more (ha.more (ha.more ha.nil rfl) rfl) rfl) rfl)
 rintro _ w23 _ ⟨rfl, K24, S25⟩
 have h := hK20
 refine WO.pn 1 rfl ?_
 obtain ⟨p27, h, hK26⟩ := Option.bind_eq_some_iff.mp h
 refine WO.meet [(15, 2), (16, 2), (17, 2)] [(18, 2), (19, 2), (20, 2), (21, 1), (22, 2), (23, 2), (24, 2)] (fun L w' => L = [(1, .int .i64 p1), (2, .int .i64 p2), (3, .pointer (some ⟨b3, 0, none⟩)), (27, .bool p27)] ∧ ∃ κ', Stp [] K24 w23 κ' w') trivial ?_ ?_
 ·
  revert h
  cases ht27 : p23 with
  | true =>
   intro h; replace h := cT h
   refine WO.pn 3 rfl ?_
   obtain rfl := Option.some.inj h
   exact WO.met _ trivial ⟨rfl, _, (Stp.refl _ _).wk rfl⟩ fun a ha => (ha.more (ha.more (ha.more (ha.more ha.nil rfl) rfl) rfl) rfl)
  | false =>
   intro h; replace h := cF h
   refine WO.pn 3 rfl ?_
   obtain rfl := Option.some.inj h
   exact WO.met _ trivial ⟨rfl, _, (Stp.refl _ _).wk rfl⟩ fun a ha => (ha.more (ha.more (ha.more (ha.more ha.nil rfl) rfl) rfl) rfl)
 rintro _ w28 _ ⟨rfl, K29, S30⟩
 have h := hK26
 refine WO.pn 1 rfl ?_
 obtain ⟨p34, h, hK31⟩ := Option.bind_eq_some_iff.mp h
 refine WO.meet [(19, 2), (20, 2), (21, 1), (22, 2), (23, 2), (24, 2)] [] (fun L w' => L = [(1, .int .i64 p1), (2, .int .i64 p2), (3, .pointer (some ⟨b3, 0, none⟩)), (34, .bool p34)] ∧ ∃ κ', Stp [] K29 w28 κ' w') trivial ?_ ?_
 ·
  revert h
  cases ht32 : p27 with
  | true =>
   intro h; replace h := cT h
   refine WO.pn 2 rfl ?_
   refine WO.ls rfl rfl rfl rfl ?_
   refine WO.pn 3 rfl ?_
   obtain rfl := Option.some.inj h
   exact WO.met _ trivial ⟨rfl, _, (Stp.refl _ _).wk rfl⟩ fun a ha => (ha.more (ha.more (ha.more (ha.more ha.nil rfl) rfl) rfl) rfl)
  | false =>
   intro h; replace h := cF h
   refine WO.pn 1 rfl ?_
   refine WO.k2 rfl rfl rfl rfl (rn_fieldAddr Try.runUnderlying27 rfl Try.sizeOf2 rfl rfl) ?_
   have f33 := f4.stp (S12.tr (S19.tr (S25.tr S30))) rfl rfl
   refine WO.k1 trivial rfl rfl rfl rfl (rn_ld Try.isAgg2 rfl rfl (hvE (f33.ld 0 rfl rfl))) ?_
   obtain ⟨_z32, hz32, h⟩ := Option.bind_eq_some_iff.mp h
   refine WO.k2 rfl rfl rfl rfl (rn_shl rfl rfl rfl (nn_ok hz32)) ?_
   refine WO.pn 2 rfl ?_
   obtain rfl := Option.some.inj h
   exact WO.met _ trivial ⟨rfl, _, (Stp.refl _ _).wk rfl⟩ fun a ha => (ha.more (ha.more (ha.more (ha.more ha.nil rfl) rfl) rfl) rfl)
 rintro _ w34 _ ⟨rfl, K35, S36⟩
 have h := hK31
 refine WO.fin ?_
 refine DN.seq ?_
 revert h
 cases ht37 : p34 with
 | true =>
  intro h; replace h := cT h
  refine WC.ct rfl ?_
  refine WC.seq ?_
  refine WC.rs [(0, 2), (1, 2)] rfl ?_
  refine WO.pn 2 rfl ?_
  refine WO.fin ?_
  refine DN.seq ?_
  refine WC.ret ?_
  refine DN.retThen ?_
  have f38 := hE.stp (S3.tr (S12.tr (S19.tr (S25.tr (S30.tr S36))))) rfl rfl
  refine DN.res (l := [.tmp 6, .tmp 7]) Try.results12 (res_tmp rfl (res_tmp rfl rfl)) rfl ?_
  obtain rfl := Option.some.inj h
  exact ⟨K35, rfl, f38⟩
 | false =>
  intro h; replace h := cF h
  refine WC.cf rfl ?_
  refine WC.skip ?_
  refine DN.seq ?_
  refine WC.seq ?_
  refine WC.rs [(0, 1), (1, 2), (2, 2), (3, 1), (4, 2), (5, 2), (6, 2), (7, 2), (8, 2)] rfl ?_
  have f39 := f4.stp (S12.tr (S19.tr (S25.tr (S30.tr S36)))) rfl rfl
  refine WO.k1 trivial rfl rfl rfl rfl (rn_la (cs := [.int .i64 p0.Inputs, .int .i64 p0.Latches, .slice a0_2 p0.Next.length u0_2, .slice a0_3 p0.Gates.length u0_3, .slice a0_4 p0.Outs.length u0_4]) Try.isAgg27 Try.sizeOf27 rfl rfl rfl (haE f39.cells)) ?_
  refine WO.pn 2 rfl ?_
  obtain ⟨x39, hx39, h⟩ := Option.bind_eq_some_iff.mp h
  have f40 := f5.stp (S12.tr (S19.tr (S25.tr (S30.tr S36)))) rfl rfl
  have f41 := f6.stp (S12.tr (S19.tr (S25.tr (S30.tr S36)))) rfl rfl
  have f42 := f7.stp (S12.tr (S19.tr (S25.tr (S30.tr S36)))) rfl rfl
  refine WO.call rfl rfl rfl rfl rfl rfl Try.call38 (i_stepOf_ok (κ := fun b => mp [] 0 (K35 b)) (p0 := p0) (Sl.map f40 (mp [] 0) rfl rfl) (Sl.map f41 (mp [] 0) rfl rfl) (Sl.map f42 (mp [] 0) rfl rfl) hx39) ?_
  rintro _ w43 ⟨k44, rfl, e45⟩
  obtain ⟨K46, S47, m48⟩ := Ent.mixed (l := []) (κ := K35) e45 5 rfl
  refine ⟨trivial, ?_⟩
  refine WO.pn 5 rfl ?_
  refine WO.fin ?_
  refine DN.seq ?_
  refine WC.seq ?_
  refine WC.rs [(0, 2), (1, 2), (2, 2), (3, 2)] rfl ?_
  refine WO.pn 4 rfl ?_
  refine WO.fin ?_
  refine DN.seq ?_
  refine WC.ret ?_
  have f50 := hE.stp (S3.tr (S12.tr (S19.tr (S25.tr (S30.tr (S36.tr S47)))))) rfl rfl
  refine DN.res (l := [.tmp 6, .tmp 7]) Try.results12 (res_tmp rfl (res_tmp rfl rfl)) rfl ?_
  obtain rfl := Option.some.inj h
  exact ⟨K46, rfl, f50⟩

/- loop.example/g00869/laws.FnTidied -/
theorem l_FnTidied_ok {w : World} {κ : Col} {a0 : Option Addr} {u0 : Nat} {p0 : (List Int)} (g0 : Rd (Rp.int .u8) κ w 0 a0 u0 p0) {r : Bool} (h : l_FnTidied p0 = some r) : Ret Try.prog 3 [.slice a0 p0.length u0] w (fun v w' => ∃ (κ' : Col), v = .bool r ∧ Ent κ w κ' w') := by
 unfold l_FnTidied at h
 refine Ret.enter Try.func3 rfl Try.ntmps3 rfl ?_
 dsimp only [envOf]
 have hE := Ent.refl κ w
 refine WC.seq ?_
 refine WC.rs [(0, 2)] rfl ?_
 refine WO.pn 1 rfl ?_
 refine WO.fin ?_
 refine DN.seq ?_
 refine WC.seq ?_
 refine WC.seq ?_
 refine WC.rs [(0, 2), (1, 1)] rfl ?_
 refine WO.pn 1 rfl ?_
 obtain ⟨x14, hx14, h⟩ := Option.bind_eq_some_iff.mp h
 refine WO.call rfl rfl rfl rfl rfl rfl Try.call6 (l_big_ok (κ := fun b => mp [] 0 (κ b)) (Sl.map g0 (mp [] 0) rfl rfl) hx14) ?_
 rintro _ w1 ⟨k2, rfl, e3⟩
 obtain ⟨K4, S5, m6⟩ := Ent.mixed (l := []) (κ := κ) e3 2 rfl
 refine ⟨trivial, ?_⟩
 refine WO.fin ?_
 refine DN.seq ?_
 revert h
 cases ht8 : x14 with
 | true =>
  intro h; replace h := cT h
  refine WC.ct rfl ?_
  refine WC.seq ?_
  refine WC.rs [(0, 2)] rfl ?_
  refine WO.pn 1 rfl ?_
  refine WO.fin ?_
  refine DN.seq ?_
  refine WC.ret ?_
  refine DN.retThen ?_
  have f9 := hE.stp S5 rfl rfl
  refine DN.res (l := [.tmp 2]) Try.results3 (res_tmp rfl rfl) rfl ?_
  obtain rfl := Option.some.inj h
  exact ⟨K4, rfl, f9⟩
 | false =>
  intro h; replace h := cF h
  refine WC.cf rfl ?_
  refine WC.skip ?_
  refine DN.seq ?_
  refine WC.seq ?_
  refine WC.rs [(0, 2), (1, 1), (2, 1), (3, 1)] rfl ?_
  refine WO.pn 1 rfl ?_
  obtain ⟨x16, hx16, h⟩ := Option.bind_eq_some_iff.mp h
  have f10 := g0.stp S5 rfl rfl
  refine WO.call rfl rfl rfl rfl rfl rfl Try.call7 (s_DrawTidiedCircuit_ok (κ := fun b => mp [] 0 (K4 b)) (Sl.map f10 (mp [] 0) rfl rfl) hx16) ?_
  rintro _ w11 ⟨k12, a16_0, u16_0, a16_1, u16_1, a16_2, u16_2, rfl, e13, f14, f15, f16⟩
  obtain ⟨K17, S18, m19⟩ := Ent.mixed (l := []) (κ := K4) e13 4 rfl
  refine ⟨trivial, ?_⟩
  have f21 := f14.mx (no_int _) m19 rfl (rfl : 4 + 2 = 6)
  have f22 := f15.mx Gate.no33 m19 rfl (rfl : 4 + 3 = 7)
  have f23 := f16.mx (no_int _) m19 rfl (rfl : 4 + 4 = 8)
  refine WO.alloc (κ := K17) 9 rfl rfl rfl rfl rfl Try.zeroValue27 rfl fun b3 w24 K25 S26 f27 => ⟨trivial, ?_⟩
  refine WO.stB0 (κ := K25) 9 (vc := [.int .i64 x16.Inputs, .int .i64 x16.Latches, .slice a16_0 x16.Next.length u16_0, .slice a16_1 x16.Gates.length u16_1, .slice a16_2 x16.Outs.length u16_2]) rfl rfl rfl rfl rfl rfl rfl Try.sizeOf27 rfl rfl f27 rfl fun w28 S29 f30 => ⟨trivial, ?_⟩
  refine WO.fin ?_
  refine DN.seq ?_
  refine WC.seq ?_
  refine WC.rs [(0, 1), (1, 1), (2, 1), (3, 1)] rfl ?_
  refine WO.k1 trivial rfl rfl rfl rfl (rn_la (cs := [.int .i64 x16.Inputs, .int .i64 x16.Latches, .slice a16_0 x16.Next.length u16_0, .slice a16_1 x16.Gates.length u16_1, .slice a16_2 x16.Outs.length u16_2]) Try.isAgg27 Try.sizeOf27 rfl rfl rfl (haE f30.cells)) ?_
  obtain ⟨x18, hx18, h⟩ := Option.bind_eq_some_iff.mp h
  have f31 := f21.stp (S26.tr S29) rfl rfl
  have f32 := f22.stp (S26.tr S29) rfl rfl
  have f33 := f23.stp (S26.tr S29) rfl rfl
  refine WO.call rfl rfl rfl rfl rfl rfl Try.call8 (i_TidiedCircuit_ok (κ := fun b => mp [] 0 (K25 b)) (p0 := x16) (Sl.map f31.rdc (mp [] 0) rfl rfl) (Sl.map f32.rdc (mp [] 0) rfl rfl) (Sl.map f33.rdc (mp [] 0) rfl rfl) hx18) ?_
  rintro _ w34 ⟨k35, a18_0, u18_0, a18_1, u18_1, a18_2, u18_2, rfl, e36, f37, f38, f39⟩
  obtain ⟨K40, S41, m42⟩ := Ent.mixed (l := []) (κ := K25) e36 10 rfl
  refine ⟨trivial, ?_⟩
  have f44 := f37.mx (no_int _) m42 rfl (rfl : 10 + 2 = 12)
  have f45 := f38.mx Gate.no33 m42 rfl (rfl : 10 + 3 = 13)
  have f46 := f39.mx (no_int _) m42 rfl (rfl : 10 + 4 = 14)
  refine WO.alloc (κ := K40) 15 rfl rfl rfl rfl rfl Try.zeroValue27 rfl fun b4 w47 K48 S49 f50 => ⟨trivial, ?_⟩
  refine WO.stB0 (κ := K48) 15 (vc := [.int .i64 x18.Inputs, .int .i64 x18.Latches, .slice a18_0 x18.Next.length u18_0, .slice a18_1 x18.Gates.length u18_1, .slice a18_2 x18.Outs.length u18_2]) rfl rfl rfl rfl rfl rfl rfl Try.sizeOf27 rfl rfl f50 rfl fun w51 S52 f53 => ⟨trivial, ?_⟩
  refine WO.fin ?_
  refine DN.seq ?_
  refine WC.seq ?_
  refine WC.seq ?_
  refine WC.rs [(0, 1), (1, 1), (2, 2)] rfl ?_
  have f54 := f30.stp (S41.tr (S49.tr S52)) rfl rfl
  refine WO.k1 trivial rfl rfl rfl rfl (rn_la (cs := [.int .i64 x16.Inputs, .int .i64 x16.Latches, .slice a16_0 x16.Next.length u16_0, .slice a16_1 x16.Gates.length u16_1, .slice a16_2 x16.Outs.length u16_2]) Try.isAgg27 Try.sizeOf27 rfl rfl rfl (haE f54.cells)) ?_
  obtain ⟨x20, hx20, h⟩ := Option.bind_eq_some_iff.mp h
  have f55 := f31.stp (S41.tr (S49.tr S52)) rfl rfl
  have f56 := f32.stp (S41.tr (S49.tr S52)) rfl rfl
  have f57 := f33.stp (S41.tr (S49.tr S52)) rfl rfl
  refine WO.call rfl rfl rfl rfl rfl rfl Try.call9 (s_CircuitOk_ok (κ := fun b => mp [] 0 (K48 b)) (p0 := x16) (Sl.map f55.rdc (mp [] 0) rfl rfl) (Sl.map f56.rdc (mp [] 0) rfl rfl) (Sl.map f57.rdc (mp [] 0) rfl rfl) hx20) ?_
  rintro _ w58 ⟨k59, rfl, e60⟩
  obtain ⟨K61, S62, m63⟩ := Ent.mixed (l := []) (κ := K48) e60 16 rfl
  refine ⟨trivial, ?_⟩
  refine WO.pn 1 rfl ?_
  refine WO.fin ?_
  refine DN.seq ?_
  revert h
  cases ht65 : (!x20) with
  | true =>
   intro h; replace h := cT h
   refine WC.ct rfl ?_
   refine WC.seq ?_
   refine WC.rs [(0, 2), (1, 1), (2, 2), (3, 2), (4, 2), (5, 2), (6, 1), (7, 2), (8, 2), (9, 2), (10, 2)] rfl ?_
   refine WO.k2 rfl rfl rfl rfl (rn_fieldAddr Try.runUnderlying27 rfl Try.sizeOf25 rfl rfl) ?_
   have f66 := f53.stp S62 rfl rfl
   refine WO.k1 trivial rfl rfl rfl rfl (rn_ld Try.isAgg25 rfl rfl (hvE (f66.ld 3 rfl rfl))) ?_
   refine WO.k2 rfl rfl rfl rfl (rn_len Try.runUnderlying25 rfl rfl) ?_
   refine WO.pn 2 rfl ?_
   obtain ⟨p31, h, hK67⟩ := Option.bind_eq_some_iff.mp h
   refine WO.meet [(5, 2), (6, 1), (7, 2), (8, 2), (9, 2)] [(10, 2)] (fun L w' => L = [(2, .bool false), (31, .bool p31)] ∧ ∃ κ', Stp [] K61 w58 κ' w') trivial ?_ ?_
   ·
    revert h
    cases ht68 : ((x18.Gates.length : Int) == 0) with
    | true =>
     intro h; replace h := cT h
     refine WO.k2 rfl rfl rfl rfl (rn_fieldAddr Try.runUnderlying27 rfl Try.sizeOf24 rfl rfl) ?_
     refine WO.k1 trivial rfl rfl rfl rfl (rn_ld Try.isAgg24 rfl rfl (hvE (f66.ld 4 rfl rfl))) ?_
     refine WO.k2 rfl rfl rfl rfl (rn_len Try.runUnderlying24 rfl rfl) ?_
     refine WO.pn 2 rfl ?_
     obtain rfl := Option.some.inj h
     exact WO.met _ trivial ⟨rfl, _, (Stp.refl _ _).wk rfl⟩ fun a ha => (ha.more (ha.more ha.nil rfl) rfl)
    | false =>
     intro h; replace h := cF h
     refine WO.pn 1 rfl ?_
     refine WO.ls rfl rfl rfl rfl ?_
     refine WO.pn 3 rfl ?_
     obtain rfl := Option.some.inj h
     exact WO.met _ trivial ⟨rfl, _, (Stp.refl _ _).wk rfl⟩ fun a ha => (ha.more (ha.more ha.nil rfl) rfl)
   rintro _ w69 _ ⟨rfl, K70, S71⟩
   have h := hK67
   refine WO.pn 1 rfl ?_
   refine WO.fin ?_
   refine DN.seq ?_
   refine WC.ret ?_
   refine DN.retThen ?_
   have f72 := hE.stp (S5.tr (S18.tr (S26.tr (S29.tr (S41.tr (S49.tr (S52.tr (S62.tr S71)))))))) rfl rfl
   refine DN.res (l := [.tmp 2]) Try.results3 (res_tmp rfl rfl) rfl ?_
   obtain rfl := Option.some.inj h
   exact ⟨K70, rfl, f72⟩
  | false =>
   intro h; replace h := cF h
   refine WC.cf rfl ?_
   refine WC.skip ?_
   refine DN.seq ?_
   refine WC.seq ?_
   refine WC.seq ?_
   refine WC.rx (κ := K61) [9, 15] none [(0, 0), (1, 1), (2, 2), (3, 2), (4, 2), (7, 2), (5, 0), (6, 2), (8, 0), (9, 2), (10, 2), (11, 2), (12, 2), (13, 2), (16, 2), (14, 0), (15, 2), (17, 0), (18, 2), (19, 2), (20, 2), (21, 2), (22, 2), (24, 2), (23, 0), (25, 0), (26, 2), (27, 2), (28, 2), (29, 0), (31, 0), (30, 1), (32, 1), (33, 2), (34, 2)] [] (by kernel_rfl) (by kernel_rfl) fun w74 S73 => ?_
   have f75 := f53.stp (S62.tr S73) rfl rfl
   refine WO.k0 rfl rfl rfl rfl (rn_la (cs := [.int .i64 x18.Inputs, .int .i64 x18.Latches, .slice a18_0 x18.Next.length u18_0, .slice a18_1 x18.Gates.length u18_1, .slice a18_2 x18.Outs.length u18_2]) Try.isAgg27 Try.sizeOf27 rfl rfl rfl (haC f75.cells rfl)) ?_
   obtain ⟨x33, hx33, h⟩ := Option.bind_eq_some_iff.mp h
   have f76 := f44.stp (S49.tr (S52.tr (S62.tr S73))) rfl rfl
   have f77 := f45.stp (S49.tr (S52.tr (S62.tr S73))) rfl rfl
   have f78 := f46.stp (S49.tr (S52.tr (S62.tr S73))) rfl rfl
   refine WO.call rfl rfl rfl rfl rfl rfl Try.call9 (s_CircuitOk_ok (κ := fun b => mp [] 0 (K61 b)) (p0 := x18) (Sl.map f76.rdc (mp [] 0) rfl rfl) (Sl.map f77.rdc (mp [] 0) rfl rfl) (Sl.map f78.rdc (mp [] 0) rfl rfl) hx33) ?_
   rintro _ w79 ⟨k80, rfl, e81⟩
   obtain ⟨K82, S83, m84⟩ := Ent.mixed (l := []) (κ := K61) e81 18 rfl
   refine ⟨(S83.cl rfl), ?_⟩
   refine WO.pn 2 rfl ?_
   obtain ⟨p43, h, hK86⟩ := Option.bind_eq_some_iff.mp h
   refine WO.meet [(4, 2), (7, 2), (5, 0), (6, 2), (8, 0), (9, 2), (10, 2), (11, 2)] [(12, 2), (13, 2), (16, 2), (14, 0), (15, 2), (17, 0), (18, 2), (19, 2), (20, 2), (21, 2), (22, 2), (24, 2), (23, 0), (25, 0), (26, 2), (27, 2), (28, 2), (29, 0), (31, 0), (30, 1), (32, 1), (33, 2), (34, 2)] (fun L w' => L = [(3, .pointer (some ⟨b3, 0, none⟩)), (4, .pointer (some ⟨b4, 0, none⟩)), (43, .bool p43)] ∧ ∃ κ', Stp [] K82 w79 κ' w') (S83.cl rfl) ?_ ?_
   ·
    revert h
    cases ht87 : (!x33) with
    | true =>
     intro h; replace h := cT h
     refine WO.pn 2 rfl ?_
     refine WO.qs rfl rfl rfl rfl ?_
     refine WO.pn 1 rfl ?_
     refine WO.qs rfl rfl rfl rfl ?_
     refine WO.pn 3 rfl ?_
     obtain rfl := Option.some.inj h
     exact WO.met _ (S83.cl rfl) ⟨rfl, _, (Stp.refl _ _).wk rfl⟩ fun a ha => (ha.more (ha.more (ha.more ha.nil rfl) rfl) rfl)
    | false =>
     intro h; replace h := cF h
     refine WO.k2 rfl rfl rfl rfl (rn_fieldAddr Try.runUnderlying27 rfl Try.sizeOf25 rfl rfl) ?_
     refine WO.k2 rfl rfl rfl rfl (rn_fieldAddr Try.runUnderlying27 rfl Try.sizeOf25 rfl rfl) ?_
     refine WO.k0 rfl rfl rfl rfl (rn_ld Try.isAgg25 rfl rfl (hvC (f75.ld 3 rfl rfl) rfl)) ?_
     refine WO.k2 rfl rfl rfl rfl (rn_len Try.runUnderlying25 rfl rfl) ?_
     have f88 := f54.stp (S62.tr S73) rfl rfl
     refine WO.k0 rfl rfl rfl rfl (rn_ld Try.isAgg25 rfl rfl (hvC (f88.ld 3 rfl rfl) rfl)) ?_
     refine WO.k2 rfl rfl rfl rfl (rn_len Try.runUnderlying25 rfl rfl) ?_
     refine WO.pn 2 rfl ?_
     obtain rfl := Option.some.inj h
     exact WO.met _ (S83.cl rfl) ⟨rfl, _, (Stp.refl _ _).wk rfl⟩ fun a ha => (ha.more (ha.more (ha.more ha.nil rfl) rfl) rfl)
   rintro _ w89 _ ⟨rfl, K90, S91⟩
   have h := hK86
   refine WO.pn 1 rfl ?_
   obtain ⟨p52, h, hK92⟩ := Option.bind_eq_some_iff.mp h
   refine WO.meet [(13, 2), (16, 2), (14, 0), (15, 2), (17, 0), (18, 2), (19, 2), (20, 2)] [(21, 2), (22, 2), (24, 2), (23, 0), (25, 0), (26, 2), (27, 2), (28, 2), (29, 0), (31, 0), (30, 1), (32, 1), (33, 2), (34, 2)] (fun L w' => L = [(3, .pointer (some ⟨b3, 0, none⟩)), (4, .pointer (some ⟨b4, 0, none⟩)), (52, .bool p52)] ∧ ∃ κ', Stp [] K90 w89 κ' w') ((S83.tr S91).cl rfl) ?_ ?_
   ·
    revert h
    cases ht93 : p43 with
    | true =>
     intro h; replace h := cT h
     refine WO.pn 2 rfl ?_
     refine WO.qs rfl rfl rfl rfl ?_
     refine WO.pn 1 rfl ?_
     refine WO.qs rfl rfl rfl rfl ?_
     refine WO.pn 3 rfl ?_
     obtain rfl := Option.some.inj h
     exact WO.met _ ((S83.tr S91).cl rfl) ⟨rfl, _, (Stp.refl _ _).wk rfl⟩ fun a ha => (ha.more (ha.more (ha.more ha.nil rfl) rfl) rfl)
    | false =>
     intro h; replace h := cF h
     refine WO.k2 rfl rfl rfl rfl (rn_fieldAddr Try.runUnderlying27 rfl Try.sizeOf24 rfl rfl) ?_
     refine WO.k2 rfl rfl rfl rfl (rn_fieldAddr Try.runUnderlying27 rfl Try.sizeOf24 rfl rfl) ?_
     refine WO.k0 rfl rfl rfl rfl (rn_ld Try.isAgg24 rfl rfl (hvC (f75.ld 4 rfl rfl) rfl)) ?_
     refine WO.k2 rfl rfl rfl rfl (rn_len Try.runUnderlying24 rfl rfl) ?_
     have f94 := f54.stp (S62.tr S73) rfl rfl
     refine WO.k0 rfl rfl rfl rfl (rn_ld Try.isAgg24 rfl rfl (hvC (f94.ld 4 rfl rfl) rfl)) ?_
     refine WO.k2 rfl rfl rfl rfl (rn_len Try.runUnderlying24 rfl rfl) ?_
     refine WO.pn 2 rfl ?_
     obtain rfl := Option.some.inj h
     exact WO.met _ ((S83.tr S91).cl rfl) ⟨rfl, _, (Stp.refl _ _).wk rfl⟩ fun a ha => (ha.more (ha.more (ha.more ha.nil rfl) rfl) rfl)
   rintro _ w95 _ ⟨rfl, K96, S97⟩
   have h := hK92
   refine WO.pn 1 rfl ?_
   obtain ⟨p59, h, hK98⟩ := Option.bind_eq_some_iff.mp h
   refine WO.meet [(22, 2), (24, 2), (23, 0), (25, 0), (26, 2), (27, 2)] [(28, 2), (29, 0), (31, 0), (30, 1), (32, 1), (33, 2), (34, 2)] (fun L w' => L = [(3, .pointer (some ⟨b3, 0, none⟩)), (4, .pointer (some ⟨b4, 0, none⟩)), (59, .bool p59)] ∧ ∃ κ', Stp [] K96 w95 κ' w') ((S83.tr (S91.tr S97)).cl rfl) ?_ ?_
   ·
    revert h
    cases ht99 : p52 with
    | true =>
     intro h; replace h := cT h
     refine WO.pn 2 rfl ?_
     refine WO.qs rfl rfl rfl rfl ?_
     refine WO.qs rfl rfl rfl rfl ?_
     refine WO.pn 2 rfl ?_
     obtain rfl := Option.some.inj h
     exact WO.met _ ((S83.tr (S91.tr S97)).cl rfl) ⟨rfl, _, (Stp.refl _ _).wk rfl⟩ fun a ha => (ha.more (ha.more (ha.more ha.nil rfl) rfl) rfl)
    | false =>
     intro h; replace h := cF h
     refine WO.k2 rfl rfl rfl rfl (rn_fieldAddr Try.runUnderlying27 rfl Try.sizeOf2 rfl rfl) ?_
     refine WO.k2 rfl rfl rfl rfl (rn_fieldAddr Try.runUnderlying27 rfl Try.sizeOf2 rfl rfl) ?_
     refine WO.k0 rfl rfl rfl rfl (rn_ld Try.isAgg2 rfl rfl (hvC (f75.ld 1 rfl rfl) rfl)) ?_
     have f100 := f54.stp (S62.tr S73) rfl rfl
     refine WO.k0 rfl rfl rfl rfl (rn_ld Try.isAgg2 rfl rfl (hvC (f100.ld 1 rfl rfl) rfl)) ?_
     refine WO.pn 2 rfl ?_
     obtain rfl := Option.some.inj h
     exact WO.met _ ((S83.tr (S91.tr S97)).cl rfl) ⟨rfl, _, (Stp.refl _ _).wk rfl⟩ fun a ha => (ha.more (ha.more (ha.more ha.nil rfl) rfl) rfl)
   rintro _ w101 _ ⟨rfl, K102, S103⟩
   have h := hK98
   refine WO.pn 1 rfl ?_
   obtain ⟨p66, h, hK104⟩ := Option.bind_eq_some_iff.mp h
   refine WO.meet [(29, 0), (31, 0), (30, 1), (32, 1), (33, 2), (34, 2)] [] (fun L w' => L = [(3, .pointer (some ⟨b3, 0, none⟩)), (4, .pointer (some ⟨b4, 0, none⟩)), (66, .bool p66)] ∧ ∃ κ', Stp [] K102 w101 κ' w') ((S83.tr (S91.tr (S97.tr S103))).cl rfl) ?_ ?_
   ·
    revert h
    cases ht105 : p59 with
    | true =>
     intro h; replace h := cT h
     refine WO.qs rfl rfl rfl rfl ?_
     refine WO.qs rfl rfl rfl rfl ?_
     refine WO.ls rfl rfl rfl rfl ?_
     refine WO.ls rfl rfl rfl rfl ?_
     refine WO.pn 2 rfl ?_
     obtain rfl := Option.some.inj h
     exact WO.met _ ((S83.tr (S91.tr (S97.tr S103))).cl rfl) ⟨rfl, _, (Stp.refl _ _).wk rfl⟩ fun a ha => (ha.more (ha.more (ha.more ha.nil rfl) rfl) rfl)
    | false =>
     intro h; replace h := cF h
     refine WO.k0 rfl rfl rfl rfl (rn_la (cs := [.int .i64 x18.Inputs, .int .i64 x18.Latches, .slice a18_0 x18.Next.length u18_0, .slice a18_1 x18.Gates.length u18_1, .slice a18_2 x18.Outs.length u18_2]) Try.isAgg27 Try.sizeOf27 rfl rfl rfl (haC f75.cells rfl)) ?_
     have f106 := f54.stp (S62.tr S73) rfl rfl
     refine WO.k0 rfl rfl rfl rfl (rn_la (cs := [.int .i64 x16.Inputs, .int .i64 x16.Latches, .slice a16_0 x16.Next.length u16_0, .slice a16_1 x16.Gates.length u16_1, .slice a16_2 x16.Outs.length u16_2]) Try.isAgg27 Try.sizeOf27 rfl rfl rfl (haC f106.cells rfl)) ?_
     obtain ⟨x62, hx62, h⟩ := Option.bind_eq_some_iff.mp h
     have f107 := f76.stp (S83.tr (S91.tr (S97.tr S103))) rfl rfl
     have f108 := f77.stp (S83.tr (S91.tr (S97.tr S103))) rfl rfl
     have f109 := f78.stp (S83.tr (S91.tr (S97.tr S103))) rfl rfl
     refine WO.call rfl rfl rfl rfl rfl rfl Try.call10 (i_DepthOf_ok (κ := fun b => mp [] 0 (K102 b)) (p0 := x18) (Sl.map f107.rdc (mp [] 0) rfl rfl) (Sl.map f108.rdc (mp [] 0) rfl rfl) (Sl.map f109.rdc (mp [] 0) rfl rfl) hx62) ?_
     rintro _ w110 ⟨k111, rfl, e112⟩
     obtain ⟨K113, S114, m115⟩ := Ent.mixed (l := []) (κ := K102) e112 20 rfl
     refine ⟨((S83.tr (S91.tr (S97.tr (S103.tr S114)))).cl rfl), ?_⟩
     obtain ⟨x64, hx64, h⟩ := Option.bind_eq_some_iff.mp h
     have f117 := f55.stp (S62.tr (S73.tr (S83.tr (S91.tr (S97.tr (S103.tr S114)))))) rfl rfl
     have f118 := f56.stp (S62.tr (S73.tr (S83.tr (S91.tr (S97.tr (S103.tr S114)))))) rfl rfl
     have f119 := f57.stp (S62.tr (S73.tr (S83.tr (S91.tr (S97.tr (S103.tr S114)))))) rfl rfl
     refine WO.call rfl rfl rfl rfl rfl rfl Try.call11 (s_DepthOf_ok (κ := fun b => mp [] 0 (K113 b)) (p0 := x16) (Sl.map f117.rdc (mp [] 0) rfl rfl) (Sl.map f118.rdc (mp [] 0) rfl rfl) (Sl.map f119.rdc (mp [] 0) rfl rfl) hx64) ?_
     rintro _ w120 ⟨k121, rfl, e122⟩
     obtain ⟨K123, S124, m125⟩ := Ent.mixed (l := []) (κ := K113) e122 22 rfl
     refine ⟨((S83.tr (S91.tr (S97.tr (S103.tr (S114.tr S124))))).cl rfl), ?_⟩
     refine WO.pn 2 rfl ?_
     obtain rfl := Option.some.inj h
     exact WO.met _ ((S83.tr (S91.tr (S97.tr (S103.tr (S114.tr S124))))).cl rfl) ⟨rfl, _, (S114.tr S124).wk rfl⟩ fun a ha => (ha.more (ha.more (ha.more ha.nil rfl) rfl) rfl)
   rintro _ w127 _ ⟨rfl, K128, S129⟩
   have h := hK104
   refine WO.nx ?_
   refine WO.fin ?_
   refine DN.seq ?_
   revert h
   cases ht130 : p66 with
   | true =>
    intro h; replace h := cT h
    refine WC.ct rfl ?_
    refine WC.seq ?_
    refine WC.rs [(0, 2)] rfl ?_
    refine WO.pn 1 rfl ?_
    refine WO.fin ?_
    refine DN.seq ?_
    refine WC.ret ?_
    refine DN.retThen ?_
    have f131 := hE.stp (S5.tr (S18.tr (S26.tr (S29.tr (S41.tr (S49.tr (S52.tr (S62.tr (S73.tr (S83.tr (S91.tr (S97.tr (S103.tr S129))))))))))))) rfl rfl
    refine DN.res (l := [.tmp 2]) Try.results3 (res_tmp rfl rfl) rfl ?_
    obtain rfl := Option.some.inj h
    exact ⟨K128, rfl, f131⟩
   | false =>
    intro h; replace h := cF h
    refine WC.cf rfl ?_
    refine WC.skip ?_
    refine DN.seq ?_
    refine WC.seq ?_
    refine WC.seq ?_
    refine WC.rs [(0, 2)] rfl ?_
    refine WO.pn 1 rfl ?_
    refine WO.fin ?_
    refine DN.seq ?_
    have hN132 : (x18.Gates.length : Int) ≤ 9223372036854775807 := f77.len_le
    obtain ⟨q2, hq134, hK133⟩ := Option.bind_eq_some_iff.mp h
    clear h
    refine WC.meet (fun L w' => ∃ (κ' : Col), L = [(3, .pointer (some ⟨b3, 0, none⟩)), (4, .pointer (some ⟨b4, 0, none⟩))] ∧ Stp [] K128 w127 κ' w' ∧ q2 = Sum.inr ()) ?_ ?_
    ·
     refine WC.block ?_
     refine WC.loop (fun k L w' => ∃ (κ' : Col) (v5 : Int), L = [(3, .pointer (some ⟨b3, 0, none⟩)), (4, .pointer (some ⟨b4, 0, none⟩)), (5, .int .i64 v5)] ∧ Stp [] K128 w127 κ' w' ∧ 0 ≤ v5 ∧ Int.toNat ((x18.Gates.length : Int) - v5) = k ∧ cntM (l_FnTidied_b0 x18) k v5 () = some q2) ⟨_, _, ⟨K128, 0, rfl, (Stp.refl _ _).wk rfl, (by decide), (by simp), hq134⟩, fun a ha => (ha.more (ha.more (ha.more ha.nil rfl) rfl) rfl)⟩ ?_
     rintro k _ w138 ⟨K139, v5, rfl, S140, hj132, hJ132, h⟩
     rcases k with _ | k
     ·
      have hk141 := h; obtain ⟨o132, h⟩ := ex_eq (Sum.inr (Sum.inl ()) : Bool ⊕ ((Unit) ⊕ (Unit)))
      have hc132 : decide (v5 < (x18.Gates.length : Int)) = false := decide_eq_false (by omega)
      refine WC.seq ?_
      refine WC.seq ?_
      refine WC.rs [(0, 2), (1, 2), (2, 1), (3, 2), (4, 2)] rfl ?_
      refine WO.pn 1 rfl ?_
      refine WO.k2 rfl rfl rfl rfl (rn_fieldAddr Try.runUnderlying27 rfl Try.sizeOf25 rfl rfl) ?_
      have f142 := f75.stp (S83.tr (S91.tr (S97.tr (S103.tr (S129.tr S140))))) rfl rfl
      refine WO.k1 trivial rfl rfl rfl rfl (rn_ld Try.isAgg25 rfl rfl (hvE (f142.ld 3 rfl rfl))) ?_
      refine WO.k2 rfl rfl rfl rfl (rn_len Try.runUnderlying25 rfl rfl) ?_
      refine WO.pn 1 rfl ?_
      refine WO.fin ?_
      refine DN.seq ?_
      refine WC.cf' rfl hc132 ?_
      refine WC.exit ?_
      refine DN.exitThen ?_
      refine DN.exitThen ?_
      obtain rfl := Option.some.inj h
      have h := hk141
      refine DN.hit ?_
      obtain rfl := Option.some.inj h
      exact DN.meet _ ⟨K139, rfl, S140.wk rfl, rfl⟩ fun a ha => (ha.more (ha.more ha.nil rfl) rfl)
     ·
      obtain ⟨o132, h, hk141⟩ := Option.bind_eq_some_iff.mp h; unfold l_FnTidied_b0 at h
      have hc132 : decide (v5 < (x18.Gates.length : Int)) = true := decide_eq_true (by omega)
      refine WC.seq ?_
      refine WC.seq ?_
      refine WC.rs [(0, 2), (1, 2), (2, 1), (3, 2), (4, 2)] rfl ?_
      refine WO.pn 1 rfl ?_
      refine WO.k2 rfl rfl rfl rfl (rn_fieldAddr Try.runUnderlying27 rfl Try.sizeOf25 rfl rfl) ?_
      have f143 := f75.stp (S83.tr (S91.tr (S97.tr (S103.tr (S129.tr S140))))) rfl rfl
      refine WO.k1 trivial rfl rfl rfl rfl (rn_ld Try.isAgg25 rfl rfl (hvE (f143.ld 3 rfl rfl))) ?_
      refine WO.k2 rfl rfl rfl rfl (rn_len Try.runUnderlying25 rfl rfl) ?_
      refine WO.pn 1 rfl ?_
      refine WO.fin ?_
      refine DN.seq ?_
      refine WC.ct' rfl hc132 ?_
      refine WC.skip ?_
      refine DN.seq ?_
      refine WC.seq ?_
      refine WC.block ?_
      refine WC.seq ?_
      refine WC.rs [(0, 2)] rfl ?_
      refine WO.pn 1 rfl ?_
      refine WO.fin ?_
      refine DN.seq ?_
      obtain ⟨_, hr144, h⟩ := Option.bind_eq_some_iff.mp h
      have hN144 := rng_ok hr144
      obtain ⟨q5, hq146, hK145⟩ := Option.bind_eq_some_iff.mp h
      clear h
      refine WC.meet (fun L w' => ∃ (κ' : Col), L = [(3, .pointer (some ⟨b3, 0, none⟩)), (4, .pointer (some ⟨b4, 0, none⟩)), (5, .int .i64 v5)] ∧ Stp [] K139 w138 κ' w' ∧ q5 = Sum.inr ()) ?_ ?_
      ·
       refine WC.block ?_
       refine WC.loop (fun k L w' => ∃ (κ' : Col) (v6 : Int), L = [(3, .pointer (some ⟨b3, 0, none⟩)), (4, .pointer (some ⟨b4, 0, none⟩)), (5, .int .i64 v5), (6, .int .i64 v6)] ∧ Stp [] K139 w138 κ' w' ∧ 0 ≤ v6 ∧ Int.toNat (v5 - v6) = k ∧ cntM (l_FnTidied_b2 x18 v5) k v6 () = some q5) ⟨_, _, ⟨K139, 0, rfl, (Stp.refl _ _).wk rfl, (by decide), (by simp), hq146⟩, fun a ha => (ha.more (ha.more (ha.more (ha.more ha.nil rfl) rfl) rfl) rfl)⟩ ?_
       rintro k _ w150 ⟨K151, v6, rfl, S152, hj144, hJ144, h⟩
       rcases k with _ | k
       ·
        have hk153 := h; obtain ⟨o144, h⟩ := ex_eq (Sum.inr (Sum.inl ()) : Bool ⊕ ((Unit) ⊕ (Unit)))
        have hc144 : decide (v6 < v5) = false := decide_eq_false (by omega)
        refine WC.seq ?_
        refine WC.seq ?_
        refine WC.rs [(0, 2), (1, 2), (2, 2)] rfl ?_
        refine WO.pn 3 rfl ?_
        refine WO.fin ?_
        refine DN.seq ?_
        refine WC.cf' rfl hc144 ?_
        refine WC.exit ?_
        refine DN.exitThen ?_
        refine DN.exitThen ?_
        obtain rfl := Option.some.inj h
        have h := hk153
        refine DN.hit ?_
        obtain rfl := Option.some.inj h
        exact DN.meet _ ⟨K151, rfl, S152.wk rfl, rfl⟩ fun a ha => (ha.more (ha.more (ha.more ha.nil rfl) rfl) rfl)
       ·
        obtain ⟨o144, h, hk153⟩ := Option.bind_eq_some_iff.mp h; unfold l_FnTidied_b2 at h
        have hc144 : decide (v6 < v5) = true := decide_eq_true (by omega)
        refine WC.seq ?_
        refine WC.seq ?_
        refine WC.rs [(0, 2), (1, 2), (2, 2)] rfl ?_
        refine WO.pn 3 rfl ?_
        refine WO.fin ?_
        refine DN.seq ?_
        refine WC.ct' rfl hc144 ?_
        refine WC.skip ?_
        refine DN.seq ?_
        refine WC.seq ?_
        refine WC.block ?_
        refine WC.seq ?_
        refine WC.rx (κ := K151) [0, 13, 15] none [(0, 2), (2, 2), (5, 2), (7, 2), (1, 0), (3, 2), (4, 0), (6, 0), (8, 2), (9, 0), (10, 2)] [] (by kernel_rfl) (by kernel_rfl) fun w155 S154 => ?_
        refine WO.k2 rfl rfl rfl rfl (rn_fieldAddr Try.runUnderlying27 rfl Try.sizeOf25 rfl rfl) ?_
        refine WO.pn 1 rfl ?_
        refine WO.k2 rfl rfl rfl rfl (rn_fieldAddr Try.runUnderlying27 rfl Try.sizeOf25 rfl rfl) ?_
        refine WO.pn 1 rfl ?_
        have f156 := f143.stp (S152.tr S154) rfl rfl
        refine WO.k0 rfl rfl rfl rfl (rn_ld Try.isAgg25 rfl rfl (hvC (f156.ld 3 rfl rfl) rfl)) ?_
        obtain ⟨x82, hx82, h⟩ := Option.bind_eq_some_iff.mp h
        refine WO.k2 rfl rfl rfl rfl (rn_index f77.rdc hx82 Try.runUnderlying25 Try.sizeOf33 rfl rfl rfl rfl) ?_
        have f157 := f77.stp (S83.tr (S91.tr (S97.tr (S103.tr (S129.tr (S140.tr (S152.tr S154))))))) rfl rfl
        obtain ⟨cse158, hre158, hle158⟩ := (f157.rdc).gSt hx82
        obtain rfl := Gate.un hre158
        refine WO.k0 rfl rfl rfl rfl (rn_la (cs := [.int .i64 x82.A, .int .i64 x82.B]) Try.isAgg33 Try.sizeOf33 rfl rfl rfl (haC hle158 rfl)) ?_
        refine WO.k0 rfl rfl rfl rfl (rn_ld Try.isAgg25 rfl rfl (hvC (f156.ld 3 rfl rfl) rfl)) ?_
        obtain ⟨x87, hx87, h⟩ := Option.bind_eq_some_iff.mp h
        refine WO.k2 rfl rfl rfl rfl (rn_index f157.rdc hx87 Try.runUnderlying25 Try.sizeOf33 rfl rfl rfl rfl) ?_
        obtain ⟨cse159, hre159, hle159⟩ := (f157.rdc).gSt hx87
        obtain rfl := Gate.un hre159
        refine WO.k0 rfl rfl rfl rfl (rn_la (cs := [.int .i64 x87.A, .int .i64 x87.B]) Try.isAgg33 Try.sizeOf33 rfl rfl rfl (haC hle159 rfl)) ?_
        refine WO.k2 rfl rfl rfl rfl (rn_eqlS2 Try.underlying33 (by kernel_rfl) (by kernel_rfl) rfl rfl rfl rfl Try.isAgg2 Try.isAgg2 Try.runUnderlying2 Try.runUnderlying2 rfl rfl rfl) ?_
        refine WO.nx ?_
        refine WO.fin ?_
        refine DN.seq ?_
        revert h
        cases ht160 : ((x82.A == x87.A) && (x82.B == x87.B)) with
        | true =>
         intro h; replace h := cT h
         refine WC.ct rfl ?_
         refine WC.seq ?_
         refine WC.rs [(0, 2)] rfl ?_
         refine WO.pn 1 rfl ?_
         refine WO.fin ?_
         refine DN.seq ?_
         refine WC.ret ?_
         refine DN.retBlock ?_
         refine DN.retThen ?_
         refine DN.retThen ?_
         obtain rfl := Option.some.inj h
         obtain rfl := Option.some.inj hk153
         have h := hK145
         dsimp only [aft] at h
         refine DN.retBlock ?_
         refine DN.retMeet ?_
         refine DN.retBlock ?_
         refine DN.retThen ?_
         refine DN.retThen ?_
         obtain rfl := Option.some.inj h
         obtain rfl := Option.some.inj hk141
         have h := hK133
         dsimp only [aft] at h
         refine DN.retBlock ?_
         refine DN.retMeet ?_
         refine DN.retThen ?_
         have f161 := hE.stp (S5.tr (S18.tr (S26.tr (S29.tr (S41.tr (S49.tr (S52.tr (S62.tr (S73.tr (S83.tr (S91.tr (S97.tr (S103.tr (S129.tr (S140.tr (S152.tr S154)))))))))))))))) rfl rfl
         refine DN.res (l := [.tmp 2]) Try.results3 (res_tmp rfl rfl) rfl ?_
         obtain rfl := Option.some.inj h
         exact ⟨K151, rfl, f161⟩
        | false =>
         intro h; replace h := cF h
         refine WC.cf rfl ?_
         refine WC.skip ?_
         refine DN.block ?_
         refine DN.seq ?_
         refine WC.rs [(0, 2), (1, 2), (2, 2)] rfl ?_
         refine WO.pn 3 rfl ?_
         refine WO.fin ?_
         have hw144 : IntKind.wrap .i64 (v6 + 1) = v6 + 1 := wr1 hj144 (of_decide_eq_true hc144) hN144
         rw [hw144]
         have hc144 := of_decide_eq_true hc144
         obtain rfl := Option.some.inj h
         refine DN.round fun a ha => ?_
         exact ⟨k, _, Nat.lt_succ_self _, ⟨K151, v6 + 1, rfl, (S152.tr S154).wk rfl, by omega, by omega, hk153⟩, (ha.more (ha.more (ha.more (ha.more ha.nil rfl) rfl) rfl) rfl)⟩
      rintro _ w147 ⟨K148, rfl, S149, rfl⟩
      have h := hK145
      dsimp only [aft] at h
      refine DN.block ?_
      refine DN.seq ?_
      refine WC.rs [(0, 2), (1, 2), (2, 2)] rfl ?_
      refine WO.pn 3 rfl ?_
      refine WO.fin ?_
      have hw132 : IntKind.wrap .i64 (v5 + 1) = v5 + 1 := wr1 hj132 (of_decide_eq_true hc132) hN132
      rw [hw132]
      have hc132 := of_decide_eq_true hc132
      obtain rfl := Option.some.inj h
      refine DN.round fun a ha => ?_
      exact ⟨k, _, Nat.lt_succ_self _, ⟨K148, v5 + 1, rfl, (S140.tr S149).wk rfl, by omega, by omega, hk141⟩, (ha.more (ha.more (ha.more ha.nil rfl) rfl) rfl)⟩
    rintro _ w135 ⟨K136, rfl, S137, rfl⟩
    have h := hK133
    dsimp only [aft] at h
    refine DN.seq ?_
    refine WC.seq ?_
    refine WC.seq ?_
    refine WC.rs [(0, 2)] rfl ?_
    refine WO.pn 1 rfl ?_
    refine WO.fin ?_
    refine DN.seq ?_
    obtain ⟨q8, hq164, hK163⟩ := Option.bind_eq_some_iff.mp h
    clear h
    refine WC.meet (fun L w' => ∃ (κ' : Col), L = [(4, .pointer (some ⟨b4, 0, none⟩))] ∧ Stp [] K136 w135 κ' w' ∧ q8 = Sum.inr ()) ?_ ?_
    ·
     refine WC.block ?_
     refine WC.loop (fun k L w' => ∃ (κ' : Col) (v7 : Int), L = [(3, .pointer (some ⟨b3, 0, none⟩)), (4, .pointer (some ⟨b4, 0, none⟩)), (7, .int .i64 v7)] ∧ Stp [] K136 w135 κ' w' ∧ 0 ≤ v7 ∧ Int.toNat (8 - v7) = k ∧ cntM (l_FnTidied_b4 x16 x18) k v7 () = some q8) ⟨_, _, ⟨K136, 0, rfl, (Stp.refl _ _).wk rfl, (by decide), (by simp), hq164⟩, fun a ha => (ha.more (ha.more (ha.more ha.nil rfl) rfl) rfl)⟩ ?_
     rintro k _ w168 ⟨K169, v7, rfl, S170, hj162, hJ162, h⟩
     rcases k with _ | k
     ·
      have hk171 := h; obtain ⟨o162, h⟩ := ex_eq (Sum.inr (Sum.inl ()) : Bool ⊕ ((Unit) ⊕ (Unit)))
      have hc162 : decide (v7 < 8) = false := decide_eq_false (by omega)
      refine WC.seq ?_
      refine WC.seq ?_
      refine WC.rs [(0, 2), (1, 2)] rfl ?_
      refine WO.pn 2 rfl ?_
      refine WO.fin ?_
      refine DN.seq ?_
      refine WC.cf' rfl hc162 ?_
      refine WC.exit ?_
      refine DN.exitThen ?_
      refine DN.exitThen ?_
      obtain rfl := Option.some.inj h
      have h := hk171
      refine DN.hit ?_
      obtain rfl := Option.some.inj h
      exact DN.meet _ ⟨K169, rfl, S170.wk rfl, rfl⟩ fun a ha => (ha.more ha.nil rfl)
     ·
      obtain ⟨o162, h, hk171⟩ := Option.bind_eq_some_iff.mp h; unfold l_FnTidied_b4 at h
      have hc162 : decide (v7 < 8) = true := decide_eq_true (by omega)
      refine WC.seq ?_
      refine WC.seq ?_
      refine WC.rs [(0, 2), (1, 2)] rfl ?_
      refine WO.pn 2 rfl ?_
      refine WO.fin ?_
      refine DN.seq ?_
      refine WC.ct' rfl hc162 ?_
      refine WC.skip ?_
      refine DN.seq ?_
      refine WC.seq ?_
      refine WC.block ?_
      refine WC.seq ?_
      refine WC.rs [(0, 1), (1, 2), (2, 2), (3, 2), (4, 1), (5, 2), (6, 2), (7, 2), (8, 2), (9, 2)] rfl ?_
      have f172 := f75.stp (S83.tr (S91.tr (S97.tr (S103.tr (S129.tr (S137.tr S170)))))) rfl rfl
      refine WO.k1 trivial rfl rfl rfl rfl (rn_la (cs := [.int .i64 x18.Inputs, .int .i64 x18.Latches, .slice a18_0 x18.Next.length u18_0, .slice a18_1 x18.Gates.length u18_1, .slice a18_2 x18.Outs.length u18_2]) Try.isAgg27 Try.sizeOf27 rfl rfl rfl (haE f172.cells)) ?_
      refine WO.pn 2 rfl ?_
      refine WO.k2 rfl rfl rfl rfl (rn_rem rfl rfl rfl (by decide)) ?_
      obtain ⟨x99, hx99, h⟩ := Option.bind_eq_some_iff.mp h
      have f173 := f76.stp (S83.tr (S91.tr (S97.tr (S103.tr (S129.tr (S137.tr S170)))))) rfl rfl
      have f174 := f77.stp (S83.tr (S91.tr (S97.tr (S103.tr (S129.tr (S137.tr S170)))))) rfl rfl
      have f175 := f78.stp (S83.tr (S91.tr (S97.tr (S103.tr (S129.tr (S137.tr S170)))))) rfl rfl
      refine WO.call rfl rfl rfl rfl rfl rfl Try.call12 (i_StepOf_ok (κ := fun b => mp [] 0 (K169 b)) (p0 := x18) (Sl.map f173.rdc (mp [] 0) rfl rfl) (Sl.map f174.rdc (mp [] 0) rfl rfl) (Sl.map f175.rdc (mp [] 0) rfl rfl) hx99) ?_
      rintro _ w176 ⟨k177, rfl, e178⟩
      obtain ⟨K179, S180, m181⟩ := Ent.mixed (l := []) (κ := K169) e178 20 rfl
      refine ⟨trivial, ?_⟩
      refine WO.pn 5 rfl ?_
      refine WO.fin ?_
      refine DN.seq ?_
      refine WC.seq ?_
      refine WC.rs [(0, 1), (1, 2), (2, 2), (3, 2), (4, 1), (5, 2), (6, 2), (7, 2), (8, 2), (9, 2)] rfl ?_
      have f183 := f54.stp (S62.tr (S73.tr (S83.tr (S91.tr (S97.tr (S103.tr (S129.tr (S137.tr (S170.tr S180))))))))) rfl rfl
      refine WO.k1 trivial rfl rfl rfl rfl (rn_la (cs := [.int .i64 x16.Inputs, .int .i64 x16.Latches, .slice a16_0 x16.Next.length u16_0, .slice a16_1 x16.Gates.length u16_1, .slice a16_2 x16.Outs.length u16_2]) Try.isAgg27 Try.sizeOf27 rfl rfl rfl (haE f183.cells)) ?_
      refine WO.pn 2 rfl ?_
      refine WO.k2 rfl rfl rfl rfl (rn_rem rfl rfl rfl (by decide)) ?_
      obtain ⟨x107, hx107, h⟩ := Option.bind_eq_some_iff.mp h
      have f184 := f55.stp (S62.tr (S73.tr (S83.tr (S91.tr (S97.tr (S103.tr (S129.tr (S137.tr (S170.tr S180))))))))) rfl rfl
      have f185 := f56.stp (S62.tr (S73.tr (S83.tr (S91.tr (S97.tr (S103.tr (S129.tr (S137.tr (S170.tr S180))))))))) rfl rfl
      have f186 := f57.stp (S62.tr (S73.tr (S83.tr (S91.tr (S97.tr (S103.tr (S129.tr (S137.tr (S170.tr S180))))))))) rfl rfl
      refine WO.call rfl rfl rfl rfl rfl rfl Try.call13 (s_StepOf_ok (κ := fun b => mp [] 0 (K179 b)) (p0 := x16) (Sl.map f184.rdc (mp [] 0) rfl rfl) (Sl.map f185.rdc (mp [] 0) rfl rfl) (Sl.map f186.rdc (mp [] 0) rfl rfl) hx107) ?_
      rintro _ w187 ⟨k188, rfl, e189⟩
      obtain ⟨K190, S191, m192⟩ := Ent.mixed (l := []) (κ := K179) e189 22 rfl
      refine ⟨trivial, ?_⟩
      refine WO.pn 5 rfl ?_
      refine WO.fin ?_
      refine DN.seq ?_
      refine WC.seq ?_
      refine WC.rs [(0, 2), (1, 2), (2, 2), (3, 2), (4, 2), (5, 2), (6, 2), (7, 2)] rfl ?_
      refine WO.pn 4 rfl ?_
      obtain ⟨p117, h, hK194⟩ := Option.bind_eq_some_iff.mp h
      refine WO.meet [(4, 2), (5, 2), (6, 2), (7, 2)] [] (fun L w' => L = [(3, .pointer (some ⟨b3, 0, none⟩)), (4, .pointer (some ⟨b4, 0, none⟩)), (7, .int .i64 v7), (117, .bool p117)] ∧ ∃ κ', Stp [] K190 w187 κ' w') trivial ?_ ?_
      ·
       revert h
       cases ht195 : (x99.1 != x107.1) with
       | true =>
        intro h; replace h := cT h
        refine WO.pn 4 rfl ?_
        obtain rfl := Option.some.inj h
        exact WO.met _ trivial ⟨rfl, _, (Stp.refl _ _).wk rfl⟩ fun a ha => (ha.more (ha.more (ha.more (ha.more ha.nil rfl) rfl) rfl) rfl)
       | false =>
        intro h; replace h := cF h
        refine WO.pn 4 rfl ?_
        obtain rfl := Option.some.inj h
        exact WO.met _ trivial ⟨rfl, _, (Stp.refl _ _).wk rfl⟩ fun a ha => (ha.more (ha.more (ha.more (ha.more ha.nil rfl) rfl) rfl) rfl)
      rintro _ w196 _ ⟨rfl, K197, S198⟩
      have h := hK194
      refine WO.fin ?_
      refine DN.seq ?_
      revert h
      cases ht199 : p117 with
      | true =>
       intro h; replace h := cT h
       refine WC.ct rfl ?_
       refine WC.seq ?_
       refine WC.rs [(0, 2)] rfl ?_
       refine WO.pn 1 rfl ?_
       refine WO.fin ?_
       refine DN.seq ?_
       refine WC.ret ?_
       refine DN.retBlock ?_
       refine DN.retThen ?_
       refine DN.retThen ?_
       obtain rfl := Option.some.inj h
       obtain rfl := Option.some.inj hk171
       have h := hK163
       dsimp only [aft] at h
       refine DN.retBlock ?_
       refine DN.retMeet ?_
       refine DN.retThen ?_
       have f200 := hE.stp (S5.tr (S18.tr (S26.tr (S29.tr (S41.tr (S49.tr (S52.tr (S62.tr (S73.tr (S83.tr (S91.tr (S97.tr (S103.tr (S129.tr (S137.tr (S170.tr (S180.tr (S191.tr S198)))))))))))))))))) rfl rfl
       refine DN.res (l := [.tmp 2]) Try.results3 (res_tmp rfl rfl) rfl ?_
       obtain rfl := Option.some.inj h
       exact ⟨K197, rfl, f200⟩
      | false =>
       intro h; replace h := cF h
       refine WC.cf rfl ?_
       refine WC.skip ?_
       refine DN.block ?_
       refine DN.seq ?_
       refine WC.rs [(0, 2), (1, 2), (2, 2)] rfl ?_
       refine WO.pn 3 rfl ?_
       refine WO.fin ?_
       have hw162 : IntKind.wrap .i64 (v7 + 1) = v7 + 1 := wr1 hj162 (of_decide_eq_true hc162) (by decide)
       rw [hw162]
       have hc162 := of_decide_eq_true hc162
       obtain rfl := Option.some.inj h
       refine DN.round fun a ha => ?_
       exact ⟨k, _, Nat.lt_succ_self _, ⟨K197, v7 + 1, rfl, (S170.tr (S180.tr (S191.tr S198))).wk rfl, by omega, by omega, hk171⟩, (ha.more (ha.more (ha.more ha.nil rfl) rfl) rfl)⟩
    rintro _ w165 ⟨K166, rfl, S167, rfl⟩
    have h := hK163
    dsimp only [aft] at h
    refine DN.seq ?_
    refine WC.seq ?_
    refine WC.rs [(0, 1), (1, 1), (2, 1), (3, 1)] rfl ?_
    have f201 := f75.stp (S83.tr (S91.tr (S97.tr (S103.tr (S129.tr (S137.tr S167)))))) rfl rfl
    refine WO.k1 trivial rfl rfl rfl rfl (rn_la (cs := [.int .i64 x18.Inputs, .int .i64 x18.Latches, .slice a18_0 x18.Next.length u18_0, .slice a18_1 x18.Gates.length u18_1, .slice a18_2 x18.Outs.length u18_2]) Try.isAgg27 Try.sizeOf27 rfl rfl rfl (haE f201.cells)) ?_
    obtain ⟨x119, hx119, h⟩ := Option.bind_eq_some_iff.mp h
    have f202 := f76.stp (S83.tr (S91.tr (S97.tr (S103.tr (S129.tr (S137.tr S167)))))) rfl rfl
    have f203 := f77.stp (S83.tr (S91.tr (S97.tr (S103.tr (S129.tr (S137.tr S167)))))) rfl rfl
    have f204 := f78.stp (S83.tr (S91.tr (S97.tr (S103.tr (S129.tr (S137.tr S167)))))) rfl rfl
    refine WO.call rfl rfl rfl rfl rfl rfl Try.call8 (i_TidiedCircuit_ok (κ := fun b => mp [] 0 (K166 b)) (p0 := x18) (Sl.map f202.rdc (mp [] 0) rfl rfl) (Sl.map f203.rdc (mp [] 0) rfl rfl) (Sl.map f204.rdc (mp [] 0) rfl rfl) hx119) ?_
    rintro _ w205 ⟨k206, a119_0, u119_0, a119_1, u119_1, a119_2, u119_2, rfl, e207, f208, f209, f210⟩
    obtain ⟨K211, S212, m213⟩ := Ent.mixed (l := []) (κ := K166) e207 20 rfl
    refine ⟨trivial, ?_⟩
    have f215 := f208.mx (no_int _) m213 rfl (rfl : 20 + 2 = 22)
    have f216 := f209.mx Gate.no33 m213 rfl (rfl : 20 + 3 = 23)
    have f217 := f210.mx (no_int _) m213 rfl (rfl : 20 + 4 = 24)
    refine WO.alloc (κ := K211) 25 rfl rfl rfl rfl rfl Try.zeroValue27 rfl fun b12 w218 K219 S220 f221 => ⟨trivial, ?_⟩
    refine WO.stB0 (κ := K219) 25 (vc := [.int .i64 x119.Inputs, .int .i64 x119.Latches, .slice a119_0 x119.Next.length u119_0, .slice a119_1 x119.Gates.length u119_1, .slice a119_2 x119.Outs.length u119_2]) rfl rfl rfl rfl rfl rfl rfl Try.sizeOf27 rfl rfl f221 rfl fun w222 S223 f224 => ⟨trivial, ?_⟩
    refine WO.fin ?_
    refine DN.seq ?_
    refine WC.seq ?_
    refine WC.rs [(0, 2), (1, 1), (2, 2), (3, 2), (4, 1), (5, 2), (6, 2), (7, 2), (8, 2), (9, 1), (10, 2), (11, 1), (12, 1), (13, 2), (14, 2), (15, 2), (16, 1), (17, 2), (18, 1), (19, 1), (20, 2), (21, 2)] rfl ?_
    refine WO.k2 rfl rfl rfl rfl (rn_fieldAddr Try.runUnderlying27 rfl Try.sizeOf25 rfl rfl) ?_
    refine WO.k1 trivial rfl rfl rfl rfl (rn_ld Try.isAgg25 rfl rfl (hvE (f224.ld 3 rfl rfl))) ?_
    refine WO.k2 rfl rfl rfl rfl (rn_len Try.runUnderlying25 rfl rfl) ?_
    refine WO.k2 rfl rfl rfl rfl (rn_fieldAddr Try.runUnderlying27 rfl Try.sizeOf25 rfl rfl) ?_
    have f225 := f201.stp (S212.tr (S220.tr S223)) rfl rfl
    refine WO.k1 trivial rfl rfl rfl rfl (rn_ld Try.isAgg25 rfl rfl (hvE (f225.ld 3 rfl rfl))) ?_
    refine WO.k2 rfl rfl rfl rfl (rn_len Try.runUnderlying25 rfl rfl) ?_
    refine WO.pn 2 rfl ?_
    obtain ⟨p133, h, hK226⟩ := Option.bind_eq_some_iff.mp h
    refine WO.meet [(8, 2), (9, 1), (10, 2), (11, 1), (12, 1), (13, 2)] [(14, 2), (15, 2), (16, 1), (17, 2), (18, 1), (19, 1), (20, 2), (21, 2)] (fun L w' => L = [(4, .pointer (some ⟨b4, 0, none⟩)), (12, .pointer (some ⟨b12, 0, none⟩)), (133, .bool p133)] ∧ ∃ κ', Stp [] K219 w222 κ' w') trivial ?_ ?_
    ·
     revert h
     cases ht227 : ((x119.Gates.length : Int) == (x18.Gates.length : Int)) with
     | true =>
      intro h; replace h := cT h
      refine WO.k2 rfl rfl rfl rfl (rn_fieldAddr Try.runUnderlying27 rfl Try.sizeOf24 rfl rfl) ?_
      refine WO.k1 trivial rfl rfl rfl rfl (rn_ld Try.isAgg24 rfl rfl (hvE (f224.ld 4 rfl rfl))) ?_
      refine WO.k2 rfl rfl rfl rfl (rn_fieldAddr Try.runUnderlying27 rfl Try.sizeOf24 rfl rfl) ?_
      refine WO.k1 trivial rfl rfl rfl rfl (rn_ld Try.isAgg24 rfl rfl (hvE (f225.ld 4 rfl rfl))) ?_
      obtain ⟨x132, hx132, h⟩ := Option.bind_eq_some_iff.mp h
      have f228 := f217.stp (S220.tr S223) rfl rfl
      have f229 := f204.stp (S212.tr (S220.tr S223)) rfl rfl
      refine WO.call rfl rfl rfl rfl rfl rfl Try.call14 (l_likeInts_ok (κ := fun b => mp [] 0 (K219 b)) (Sl.map f228.rdc (mp [] 0) rfl rfl) (Sl.map f229.rdc (mp [] 0) rfl rfl) hx132) ?_
      rintro _ w230 ⟨k231, rfl, e232⟩
      obtain ⟨K233, S234, m235⟩ := Ent.mixed (l := []) (κ := K219) e232 26 rfl
      refine ⟨trivial, ?_⟩
      refine WO.pn 1 rfl ?_
      obtain rfl := Option.some.inj h
      exact WO.met _ trivial ⟨rfl, _, S234.wk rfl⟩ fun a ha => (ha.more (ha.more (ha.more ha.nil rfl) rfl) rfl)
     | false =>
      intro h; replace h := cF h
      refine WO.pn 1 rfl ?_
      refine WO.ls rfl rfl rfl rfl ?_
      refine WO.pn 1 rfl ?_
      refine WO.ls rfl rfl rfl rfl ?_
      refine WO.ls rfl rfl rfl rfl ?_
      refine WO.pn 1 rfl ?_
      obtain rfl := Option.some.inj h
      exact WO.met _ trivial ⟨rfl, _, (Stp.refl _ _).wk rfl⟩ fun a ha => (ha.more (ha.more (ha.more ha.nil rfl) rfl) rfl)
    rintro _ w237 _ ⟨rfl, K238, S239⟩
    have h := hK226
    refine WO.pn 1 rfl ?_
    obtain ⟨p140, h, hK240⟩ := Option.bind_eq_some_iff.mp h
    refine WO.meet [(15, 2), (16, 1), (17, 2), (18, 1), (19, 1), (20, 2)] [(21, 2)] (fun L w' => L = [(140, .bool p140)] ∧ ∃ κ', Stp [] K238 w237 κ' w') trivial ?_ ?_
    ·
     revert h
     cases ht241 : p133 with
     | true =>
      intro h; replace h := cT h
      refine WO.k2 rfl rfl rfl rfl (rn_fieldAddr Try.runUnderlying27 rfl Try.sizeOf24 rfl rfl) ?_
      have f242 := f224.stp S239 rfl rfl
      refine WO.k1 trivial rfl rfl rfl rfl (rn_ld Try.isAgg24 rfl rfl (hvE (f242.ld 2 rfl rfl))) ?_
      refine WO.k2 rfl rfl rfl rfl (rn_fieldAddr Try.runUnderlying27 rfl Try.sizeOf24 rfl rfl) ?_
      have f243 := f225.stp S239 rfl rfl
      refine WO.k1 trivial rfl rfl rfl rfl (rn_ld Try.isAgg24 rfl rfl (hvE (f243.ld 2 rfl rfl))) ?_
      obtain ⟨x139, hx139, h⟩ := Option.bind_eq_some_iff.mp h
      have f244 := f215.stp (S220.tr (S223.tr S239)) rfl rfl
      have f245 := f202.stp (S212.tr (S220.tr (S223.tr S239))) rfl rfl
      refine WO.call rfl rfl rfl rfl rfl rfl Try.call14 (l_likeInts_ok (κ := fun b => mp [] 0 (K238 b)) (Sl.map f244.rdc (mp [] 0) rfl rfl) (Sl.map f245.rdc (mp [] 0) rfl rfl) hx139) ?_
      rintro _ w246 ⟨k247, rfl, e248⟩
      obtain ⟨K249, S250, m251⟩ := Ent.mixed (l := []) (κ := K238) e248 26 rfl
      refine ⟨trivial, ?_⟩
      refine WO.pn 1 rfl ?_
      obtain rfl := Option.some.inj h
      exact WO.met _ trivial ⟨rfl, _, S250.wk rfl⟩ fun a ha => (ha.more ha.nil rfl)
     | false =>
      intro h; replace h := cF h
      refine WO.pn 1 rfl ?_
      refine WO.ls rfl rfl rfl rfl ?_
      refine WO.pn 1 rfl ?_
      refine WO.ls rfl rfl rfl rfl ?_
      refine WO.ls rfl rfl rfl rfl ?_
      refine WO.pn 1 rfl ?_
      obtain rfl := Option.some.inj h
      exact WO.met _ trivial ⟨rfl, _, (Stp.refl _ _).wk rfl⟩ fun a ha => (ha.more ha.nil rfl)
    rintro _ w253 _ ⟨rfl, K254, S255⟩
    have h := hK240
    refine WO.pn 1 rfl ?_
    refine WO.fin ?_
    refine DN.seq ?_
    refine WC.ret ?_
    have f256 := hE.stp (S5.tr (S18.tr (S26.tr (S29.tr (S41.tr (S49.tr (S52.tr (S62.tr (S73.tr (S83.tr (S91.tr (S97.tr (S103.tr (S129.tr (S137.tr (S167.tr (S212.tr (S220.tr (S223.tr (S239.tr S255)))))))))))))))))))) rfl rfl
    refine DN.res (l := [.tmp 2]) Try.results3 (res_tmp rfl rfl) rfl ?_
    obtain rfl := Option.some.inj h
    exact ⟨K254, rfl, f256⟩

/- loop.example/g00869/spec.DrawChosenBy -/
theorem s_DrawChosenBy_ok {w : World} {κ : Col} {a0 : Option Addr} {u0 : Nat} {p0 : (List Int)} (g0 : Rd (Rp.int .u8) κ w 0 a0 u0 p0) {r : Circuit × Int × Int × Int} (h : s_DrawChosenBy p0 = some r) : Ret Try.prog 15 [.slice a0 p0.length u0] w (fun v w' => ∃ (κ' : Col) (ra0 : Option Addr) (ru0 : Nat) (ra1 : Option Addr) (ru1 : Nat) (ra2 : Option Addr) (ru2 : Nat), v = .tuple #[.agg #[.int .i64 r.1.Inputs, .int .i64 r.1.Latches, .slice ra0 r.1.Next.length ru0, .slice ra1 r.1.Gates.length ru1, .slice ra2 r.1.Outs.length ru2], .int .i64 r.2.1, .int .i64 r.2.2.1, .int .i64 r.2.2.2] ∧ Ent κ w κ' w' ∧ Oc (Ep.int .i64) 2 κ' w' 2 ra0 ru0 r.1.Next ∧ Oc Gate.ep33 33 κ' w' 3 ra1 ru1 r.1.Gates ∧ Oc (Ep.int .i64) 2 κ' w' 4 ra2 ru2 r.1.Outs) := by
 unfold s_DrawChosenBy at h
 refine Ret.enter Try.func15 rfl Try.ntmps15 rfl ?_
 dsimp only [envOf]
 have hE := Ent.refl κ w
 refine WC.seq ?_
 refine WC.rs [(0, 1), (1, 2), (2, 2), (3, 2)] rfl ?_
 refine WO.alloc (κ := κ) 2 rfl rfl rfl rfl rfl Try.zeroValue27 rfl fun b2 w1 K2 S3 f4 => ⟨trivial, ?_⟩
 refine WO.pn 3 rfl ?_
 refine WO.fin ?_
 refine DN.seq ?_
 refine WC.seq ?_
 refine WC.rs [(0, 2), (1, 1), (2, 2)] rfl ?_
 refine WO.pn 1 rfl ?_
 obtain ⟨x11, hx11, h⟩ := Option.bind_eq_some_iff.mp h
 have f5 := g0.stp S3 rfl rfl
 refine WO.call rfl rfl rfl rfl rfl rfl Try.call29 (s_l1New_ok (κ := fun b => mp [] 1 (K2 b)) (Sl.map f5 (mp [] 1) rfl rfl) hx11) ?_
 rintro _ w6 ⟨k7, a11_0, u11_0, b11, rfl, e8, f9, f10⟩
 obtain ⟨K11, S12, m13, z14⟩ := Ent.mixed0 (l := []) (κ := K2) e8 3 rfl
 refine ⟨trivial, ?_⟩
 have f15 := f9.mx z14
 have f16 := f10.mx m13 rfl (rfl : 3 + 3 = 6)
 refine WO.pn 1 rfl ?_
 refine WO.fin ?_
 refine DN.seq ?_
 refine WC.seq ?_
 refine WC.rs [(0, 2), (1, 1), (2, 1), (3, 1)] rfl ?_
 refine WO.pn 1 rfl ?_
 obtain ⟨x13, hx13, h⟩ := Option.bind_eq_some_iff.mp h
 refine WO.call rfl rfl rfl rfl rfl rfl Try.call30 (s_l31DrawAny_ok (κ := fun b => mp [(6, 2)] 0 (K11 b)) (p0 := x11) (Sl.map f15 (mp [(6, 2)] 0) rfl rfl) (f16.map (mp [(6, 2)] 0) rfl rfl) hx13) ?_
 rintro _ w17 ⟨k18, a13_0, u13_0, a13_1, u13_1, a13_2, u13_2, rfl, e19, f20, f21, f22, f23⟩
 obtain ⟨K24, S25, m26⟩ := Ent.mixed (l := [(6, 2)]) (κ := K11) e19 7 rfl
 refine ⟨trivial, ?_⟩
 have f28 := f20.mx (no_int _) m26 rfl (rfl : 7 + 3 = 10)
 have f29 := f21.mx Gate.no33 m26 rfl (rfl : 7 + 4 = 11)
 have f30 := f22.mx (no_int _) m26 rfl (rfl : 7 + 5 = 12)
 have f31 := f23.mx m26 rfl (rfl : 7 + 2 = 9)
 refine WO.alloc (κ := K24) 13 rfl rfl rfl rfl rfl Try.zeroValue27 rfl fun b7 w32 K33 S34 f35 => ⟨trivial, ?_⟩
 refine WO.stB0 (κ := K33) 13 (vc := [.int .i64 x13.1.Inputs, .int .i64 x13.1.Latches, .slice a13_0 x13.1.Next.length u13_0, .slice a13_1 x13.1.Gates.length u13_1, .slice a13_2 x13.1.Outs.length u13_2]) rfl rfl rfl rfl rfl rfl rfl Try.sizeOf27 rfl rfl f35 rfl fun w36 S37 f38 => ⟨trivial, ?_⟩
 refine WO.fin ?_
 refine DN.seq ?_
 refine WC.seq ?_
 refine WC.rs [(0, 2), (1, 1), (2, 1), (3, 2)] rfl ?_
 refine WO.pn 1 rfl ?_
 refine WO.k1 trivial rfl rfl rfl rfl (rn_la (cs := [.int .i64 x13.1.Inputs, .int .i64 x13.1.Latches, .slice a13_0 x13.1.Next.length u13_0, .slice a13_1 x13.1.Gates.length u13_1, .slice a13_2 x13.1.Outs.length u13_2]) Try.isAgg27 Try.sizeOf27 rfl rfl rfl (haE f38.cells)) ?_
 obtain ⟨x16, hx16, h⟩ := Option.bind_eq_some_iff.mp h
 have f39 := f15.stp (S25.tr (S34.tr S37)) rfl rfl
 have f40 := f28.stp (S34.tr S37) rfl rfl
 have f41 := f29.stp (S34.tr S37) rfl rfl
 have f42 := f30.stp (S34.tr S37) rfl rfl
 have f43 := f31.stp (S34.tr S37) rfl rfl
 refine WO.call rfl rfl rfl rfl rfl rfl Try.call41 (s_l31DrawLiteral_ok (κ := fun b => mp [(9, 2)] 0 (K33 b)) (p1 := x13.1) (p0 := (⟨x11.b, x13.2.1, x13.2.2⟩ : l1Cur)) (Sl.map f39 (mp [(9, 2)] 0) rfl rfl) (Sl.map f40.rdc (mp [(9, 2)] 0) rfl rfl) (Sl.map f41.rdc (mp [(9, 2)] 0) rfl rfl) (Sl.map f42.rdc (mp [(9, 2)] 0) rfl rfl) (f43.map (mp [(9, 2)] 0) rfl rfl) hx16) ?_
 rintro _ w44 ⟨k45, rfl, e46, f47⟩
 obtain ⟨K48, S49, m50⟩ := Ent.mixed (l := [(9, 2)]) (κ := K33) e46 14 rfl
 refine ⟨trivial, ?_⟩
 have f52 := f47.mx m50 rfl (rfl : 14 + 2 = 16)
 refine WO.pn 1 rfl ?_
 refine WO.fin ?_
 refine DN.seq ?_
 refine WC.seq ?_
 refine WC.rs [(0, 2), (1, 1), (2, 1), (3, 2)] rfl ?_
 refine WO.pn 1 rfl ?_
 have f53 := f38.stp S49 rfl rfl
 refine WO.k1 trivial rfl rfl rfl rfl (rn_la (cs := [.int .i64 x13.1.Inputs, .int .i64 x13.1.Latches, .slice a13_0 x13.1.Next.length u13_0, .slice a13_1 x13.1.Gates.length u13_1, .slice a13_2 x13.1.Outs.length u13_2]) Try.isAgg27 Try.sizeOf27 rfl rfl rfl (haE f53.cells)) ?_
 obtain ⟨x19, hx19, h⟩ := Option.bind_eq_some_iff.mp h
 have f54 := f39.stp S49 rfl rfl
 have f55 := f40.stp S49 rfl rfl
 have f56 := f41.stp S49 rfl rfl
 have f57 := f42.stp S49 rfl rfl
 refine WO.call rfl rfl rfl rfl rfl rfl Try.call41 (s_l31DrawLiteral_ok (κ := fun b => mp [(16, 2)] 0 (K48 b)) (p1 := x13.1) (p0 := (⟨x11.b, x16.2.1, x16.2.2⟩ : l1Cur)) (Sl.map f54 (mp [(16, 2)] 0) rfl rfl) (Sl.map f55.rdc (mp [(16, 2)] 0) rfl rfl) (Sl.map f56.rdc (mp [(16, 2)] 0) rfl rfl) (Sl.map f57.rdc (mp [(16, 2)] 0) rfl rfl) (f52.map (mp [(16, 2)] 0) rfl rfl) hx19) ?_
 rintro _ w58 ⟨k59, rfl, e60, f61⟩
 obtain ⟨K62, S63, m64⟩ := Ent.mixed (l := [(16, 2)]) (κ := K48) e60 17 rfl
 refine ⟨trivial, ?_⟩
 have f66 := f61.mx m64 rfl (rfl : 17 + 2 = 19)
 refine WO.pn 1 rfl ?_
 refine WO.fin ?_
 refine DN.seq ?_
 refine WC.seq ?_
 refine WC.rx (κ := K62) [13] none [(1, 2), (4, 2), (5, 2), (0, 0), (2, 0), (3, 1), (6, 1), (7, 2), (8, 2), (9, 2)] [] (by kernel_rfl) (by kernel_rfl) fun w68 S67 => ?_
 refine WO.pn 3 rfl ?_
 have f69 := f53.stp (S63.tr S67) rfl rfl
 refine WO.k0 rfl rfl rfl rfl (rn_la (cs := [.int .i64 x13.1.Inputs, .int .i64 x13.1.Latches, .slice a13_0 x13.1.Next.length u13_0, .slice a13_1 x13.1.Gates.length u13_1, .slice a13_2 x13.1.Outs.length u13_2]) Try.isAgg27 Try.sizeOf27 rfl rfl rfl (haC f69.cells rfl)) ?_
 refine WO.k0 rfl rfl rfl rfl (rn_la (cs := [.int .i64 x13.1.Inputs, .int .i64 x13.1.Latches, .slice a13_0 x13.1.Next.length u13_0, .slice a13_1 x13.1.Gates.length u13_1, .slice a13_2 x13.1.Outs.length u13_2]) Try.isAgg27 Try.sizeOf27 rfl rfl rfl (haC f69.cells rfl)) ?_
 obtain ⟨x23, hx23, h⟩ := Option.bind_eq_some_iff.mp h
 have f70 := f54.stp (S63.tr S67) rfl rfl
 have f71 := f55.stp (S63.tr S67) rfl rfl
 have f72 := f56.stp (S63.tr S67) rfl rfl
 have f73 := f57.stp (S63.tr S67) rfl rfl
 have f74 := f66.stp S67 rfl rfl
 refine WO.call rfl rfl rfl rfl rfl rfl Try.call41 (s_l31DrawLiteral_ok (κ := fun b => mp [(19, 2)] 0 (K62 b)) (p1 := x13.1) (p0 := (⟨x11.b, x19.2.1, x19.2.2⟩ : l1Cur)) (Sl.map f70 (mp [(19, 2)] 0) rfl rfl) (Sl.map f71.rdc (mp [(19, 2)] 0) rfl rfl) (Sl.map f72.rdc (mp [(19, 2)] 0) rfl rfl) (Sl.map f73.rdc (mp [(19, 2)] 0) rfl rfl) (f74.map (mp [(19, 2)] 0) rfl rfl) hx23) ?_
 rintro _ w75 ⟨k76, rfl, e77, f78⟩
 obtain ⟨K79, S80, m81⟩ := Ent.mixed (l := [(19, 2)]) (κ := K62) e77 20 rfl
 refine ⟨(S80.cl rfl), ?_⟩
 have f83 := f78.mx m81 rfl (rfl : 20 + 2 = 22)
 have f84 := f4.stp (S12.tr (S25.tr (S34.tr (S37.tr (S49.tr (S63.tr (S67.tr S80))))))) rfl rfl
 refine WO.stB0 (κ := K79) 2 (vc := [.int .i64 x13.1.Inputs, .int .i64 x13.1.Latches, .slice a13_0 x13.1.Next.length u13_0, .slice a13_1 x13.1.Gates.length u13_1, .slice a13_2 x13.1.Outs.length u13_2]) rfl rfl rfl rfl rfl rfl rfl Try.sizeOf27 rfl rfl f84 rfl fun w85 S86 f87 => ⟨((S80.tr S86).cl rfl), ?_⟩
 refine WO.pn 3 rfl ?_
 refine WO.nx ?_
 refine WO.fin ?_
 refine DN.seq ?_
 refine WC.ret ?_
 have f88 := hE.stp (S3.tr (S12.tr (S25.tr (S34.tr (S37.tr (S49.tr (S63.tr (S67.tr (S80.tr S86))))))))) rfl rfl
 have f89 := f71.stp (S80.tr S86) rfl rfl
 have f90 := f72.stp (S80.tr S86) rfl rfl
 have f91 := f73.stp (S80.tr S86) rfl rfl
 refine DN.res (l := [.cell 2 27, .tmp 3, .tmp 4, .tmp 5]) Try.results15 (res_cellA rfl f87 Try.isAgg27 Try.sizeOf27 rfl (res_tmp rfl (res_tmp rfl (res_tmp rfl rfl)))) rfl ?_
 obtain rfl := Option.some.inj h
 exact ⟨(fun b => ren [(10, 2), (11, 3), (12, 4)] (K79 b)), a13_0, u13_0, a13_1, u13_1, a13_2, u13_2, rfl, (f88.map (ren [(10, 2), (11, 3), (12, 4)]) rfl rfl), (f89.map (ren [(10, 2), (11, 3), (12, 4)]) rfl rfl), (f90.map (ren [(10, 2), (11, 3), (12, 4)]) rfl rfl), (f91.map (ren [(10, 2), (11, 3), (12, 4)]) rfl rfl)⟩

end Go.Proofs.Ythjkonkcdfdfaaa
