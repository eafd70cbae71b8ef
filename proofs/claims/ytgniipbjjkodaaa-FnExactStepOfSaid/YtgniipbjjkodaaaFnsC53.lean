/- The walks, part 3. By program. -/
import Derived.Test.YtgniipbjjkodaaaFnsC52
set_option linter.unusedVariables false
set_option linter.unusedSimpArgs false
namespace Go.Proofs.Ytgniipbjjkodaaa
open Go Go.Wk Go.Proofs
set_option maxRecDepth 100000
set_option maxHeartbeats 1000000

/- loop.example/g00869/laws.FnExactStepOf -/
theorem l_FnExactStepOf_ok {w : World} {κ : Col} {a0_2 : Option Addr} {u0_2 : Nat} {a0_3 : Option Addr} {u0_3 : Nat} {a0_4 : Option Addr} {u0_4 : Nat} {p0 : Circuit} {p1 : Int} {p2 : Int} (g0_2 : Rd (Rp.int .i64) κ w 0 a0_2 u0_2 p0.Next) (g0_3 : Rd Gate.rp κ w 0 a0_3 u0_3 p0.Gates) (g0_4 : Rd (Rp.int .i64) κ w 0 a0_4 u0_4 p0.Outs) {r : Bool} (h : l_FnExactStepOf p0 p1 p2 = some r) : Ret Try.prog 5 [.agg #[.int .i64 p0.Inputs, .int .i64 p0.Latches, .slice a0_2 p0.Next.length u0_2, .slice a0_3 p0.Gates.length u0_3, .slice a0_4 p0.Outs.length u0_4], .int .i64 p1, .int .i64 p2] w (fun v w' => ∃ (κ' : Col), v = .bool r ∧ Ent κ w κ' w') := by
 unfold l_FnExactStepOf at h
 refine Ret.enter Try.func5 rfl Try.ntmps5 rfl ?_
 dsimp only [envOf]
 have hE := Ent.refl κ w
 refine WC.seq ?_
 refine WC.rs [(0, 1), (1, 2)] rfl ?_
 refine WO.box (κ := κ) 2 rfl rfl rfl rfl rfl rfl rfl fun b3 w1 K2 S3 f4 => ⟨trivial, ?_⟩
 refine WO.pn 1 rfl ?_
 refine WO.fin ?_
 refine DN.seq ?_
 refine WC.seq ?_
 refine WC.rs [(0, 2)] rfl ?_
 refine WO.pn 1 rfl ?_
 refine WO.fin ?_
 refine DN.seq ?_
 refine WC.seq ?_
 refine WC.rs [(0, 1), (1, 2), (2, 1), (3, 2)] rfl ?_
 refine WO.k1 trivial rfl rfl rfl rfl (rn_la (cs := [.int .i64 p0.Inputs, .int .i64 p0.Latches, .slice a0_2 p0.Next.length u0_2, .slice a0_3 p0.Gates.length u0_3, .slice a0_4 p0.Outs.length u0_4]) Try.isAgg44 Try.sizeOf44 rfl rfl rfl (haE f4.cells)) ?_
 refine WO.pn 1 rfl ?_
 obtain ⟨x15, hx15, h⟩ := Option.bind_eq_some_iff.mp h
 have f5 := g0_2.stp S3 rfl rfl
 have f6 := g0_3.stp S3 rfl rfl
 have f7 := g0_4.stp S3 rfl rfl
 refine WO.call rfl rfl rfl rfl rfl rfl Try.call28 (l_szCircuit_ok (κ := fun b => mp [] 0 (K2 b)) (Sl.map f5 (mp [] 0) rfl rfl) (Sl.map f6 (mp [] 0) rfl rfl) (Sl.map f7 (mp [] 0) rfl rfl) hx15) ?_
 rintro _ w8 ⟨k9, rfl, e10⟩
 obtain ⟨K11, S12, m13⟩ := Ent.mixed (l := []) (κ := K2) e10 3 rfl
 refine ⟨trivial, ?_⟩
 refine WO.pn 1 rfl ?_
 refine WO.fin ?_
 refine DN.seq ?_
 refine WC.seq ?_
 refine WC.seq ?_
 refine WC.rs [(0, 2), (1, 2)] rfl ?_
 refine WO.pn 2 rfl ?_
 refine WO.fin ?_
 refine DN.seq ?_
 revert h
 cases ht15 : decide (x15 < 0) with
 | true =>
  intro h; replace h := cT h
  refine WC.ct rfl ?_
  refine WC.seq ?_
  refine WC.rs [(0, 2)] rfl ?_
  refine WO.pn 1 rfl ?_
  refine WO.fin ?_
  refine DN.seq ?_
  refine WC.ret ?_
  refine DN.retThen ?_
  have f16 := hE.stp (S3.tr S12) rfl rfl
  refine DN.res (l := [.tmp 6]) Try.results5 (res_tmp rfl rfl) rfl ?_
  obtain rfl := Option.some.inj h
  exact ⟨K11, rfl, f16⟩
 | false =>
  intro h; replace h := cF h
  refine WC.cf rfl ?_
  refine WC.skip ?_
  refine DN.seq ?_
  refine WC.seq ?_
  refine WC.rs [(0, 1), (1, 1), (2, 2), (3, 2), (4, 1), (5, 2), (6, 2), (7, 2), (8, 2), (9, 2)] rfl ?_
  have f17 := f4.stp S12 rfl rfl
  refine WO.k1 trivial rfl rfl rfl rfl (rn_la (cs := [.int .i64 p0.Inputs, .int .i64 p0.Latches, .slice a0_2 p0.Next.length u0_2, .slice a0_3 p0.Gates.length u0_3, .slice a0_4 p0.Outs.length u0_4]) Try.isAgg44 Try.sizeOf44 rfl rfl rfl (haE f17.cells)) ?_
  obtain ⟨x20, hx20, h⟩ := Option.bind_eq_some_iff.mp h
  have f18 := f5.stp S12 rfl rfl
  have f19 := f6.stp S12 rfl rfl
  have f20 := f7.stp S12 rfl rfl
  refine WO.call rfl rfl rfl rfl rfl rfl Try.call30 (l_toCircuit_ok (κ := fun b => mp [] 0 (K11 b)) (Sl.map f18 (mp [] 0) rfl rfl) (Sl.map f19 (mp [] 0) rfl rfl) (Sl.map f20 (mp [] 0) rfl rfl) hx20) ?_
  rintro _ w21 ⟨k22, a20_0, u20_0, a20_1, u20_1, a20_2, u20_2, rfl, e23, f24, f25, f26⟩
  obtain ⟨K27, S28, m29⟩ := Ent.mixed (l := []) (κ := K11) e23 5 rfl
  refine ⟨trivial, ?_⟩
  have f31 := f24.mx (no_int _) m29 rfl (rfl : 5 + 2 = 7)
  have f32 := f25.mx Gate.no155 m29 rfl (rfl : 5 + 3 = 8)
  have f33 := f26.mx (no_int _) m29 rfl (rfl : 5 + 4 = 9)
  refine WO.pn 2 rfl ?_
  obtain ⟨x23, hx23, h⟩ := Option.bind_eq_some_iff.mp h
  refine WO.call rfl rfl rfl rfl rfl rfl Try.call29 (s_StepOf_ok (κ := fun b => mp [] 0 (K27 b)) (Sl.map f31.rdc (mp [] 0) rfl rfl) (Sl.map f32.rdc (mp [] 0) rfl rfl) (Sl.map f33.rdc (mp [] 0) rfl rfl) hx23) ?_
  rintro _ w34 ⟨k35, rfl, e36⟩
  obtain ⟨K37, S38, m39⟩ := Ent.mixed (l := []) (κ := K27) e36 10 rfl
  refine ⟨trivial, ?_⟩
  refine WO.pn 5 rfl ?_
  refine WO.fin ?_
  refine DN.seq ?_
  refine WC.seq ?_
  refine WC.rs [(0, 1), (1, 1), (2, 1), (3, 1)] rfl ?_
  have f41 := f17.stp (S28.tr S38) rfl rfl
  refine WO.k1 trivial rfl rfl rfl rfl (rn_la (cs := [.int .i64 p0.Inputs, .int .i64 p0.Latches, .slice a0_2 p0.Next.length u0_2, .slice a0_3 p0.Gates.length u0_3, .slice a0_4 p0.Outs.length u0_4]) Try.isAgg44 Try.sizeOf44 rfl rfl rfl (haE f41.cells)) ?_
  obtain ⟨x27, hx27, h⟩ := Option.bind_eq_some_iff.mp h
  have f42 := f18.stp (S28.tr S38) rfl rfl
  have f43 := f19.stp (S28.tr S38) rfl rfl
  have f44 := f20.stp (S28.tr S38) rfl rfl
  refine WO.call rfl rfl rfl rfl rfl rfl Try.call30 (l_toCircuit_ok (κ := fun b => mp [] 0 (K37 b)) (Sl.map f42 (mp [] 0) rfl rfl) (Sl.map f43 (mp [] 0) rfl rfl) (Sl.map f44 (mp [] 0) rfl rfl) hx27) ?_
  rintro _ w45 ⟨k46, a27_0, u27_0, a27_1, u27_1, a27_2, u27_2, rfl, e47, f48, f49, f50⟩
  obtain ⟨K51, S52, m53⟩ := Ent.mixed (l := []) (κ := K37) e47 12 rfl
  refine ⟨trivial, ?_⟩
  have f55 := f48.mx (no_int _) m53 rfl (rfl : 12 + 2 = 14)
  have f56 := f49.mx Gate.no155 m53 rfl (rfl : 12 + 3 = 15)
  have f57 := f50.mx (no_int _) m53 rfl (rfl : 12 + 4 = 16)
  refine WO.alloc (κ := K51) 17 rfl rfl rfl rfl rfl Try.zeroValue50 rfl fun b10 w58 K59 S60 f61 => ⟨trivial, ?_⟩
  refine WO.stB0 (κ := K59) 17 (vc := [.int .i64 x27.Inputs, .int .i64 x27.Latches, .slice a27_0 x27.Next.length u27_0, .slice a27_1 x27.Gates.length u27_1, .slice a27_2 x27.Outs.length u27_2]) rfl rfl rfl rfl rfl rfl rfl Try.sizeOf50 rfl rfl f61 rfl fun w62 S63 f64 => ⟨trivial, ?_⟩
  refine WO.fin ?_
  refine DN.seq ?_
  refine WC.seq ?_
  refine WC.rs [(0, 1), (1, 2), (2, 2), (3, 1), (4, 2), (5, 2), (6, 2), (7, 2), (8, 2)] rfl ?_
  refine WO.k1 trivial rfl rfl rfl rfl (rn_la (cs := [.int .i64 x27.Inputs, .int .i64 x27.Latches, .slice a27_0 x27.Next.length u27_0, .slice a27_1 x27.Gates.length u27_1, .slice a27_2 x27.Outs.length u27_2]) Try.isAgg50 Try.sizeOf50 rfl rfl rfl (haE f64.cells)) ?_
  refine WO.pn 2 rfl ?_
  obtain ⟨x32, hx32, h⟩ := Option.bind_eq_some_iff.mp h
  have f65 := f55.stp (S60.tr S63) rfl rfl
  have f66 := f56.stp (S60.tr S63) rfl rfl
  have f67 := f57.stp (S60.tr S63) rfl rfl
  refine WO.call rfl rfl rfl rfl rfl rfl Try.call31 (i_StepOf_ok (κ := fun b => mp [] 0 (K59 b)) (Sl.map f65.rdc (mp [] 0) rfl rfl) (Sl.map f66.rdc (mp [] 0) rfl rfl) (Sl.map f67.rdc (mp [] 0) rfl rfl) hx32) ?_
  rintro _ w68 ⟨k69, rfl, e70⟩
  obtain ⟨K71, S72, m73⟩ := Ent.mixed (l := []) (κ := K59) e70 18 rfl
  refine ⟨trivial, ?_⟩
  refine WO.pn 5 rfl ?_
  refine WO.fin ?_
  refine DN.seq ?_
  refine WC.seq ?_
  refine WC.seq ?_
  refine WC.rs [(0, 2), (1, 2), (2, 2), (3, 2), (4, 2), (5, 2), (6, 2), (7, 2)] rfl ?_
  refine WO.pn 4 rfl ?_
  obtain ⟨p42, h, hK75⟩ := Option.bind_eq_some_iff.mp h
  refine WO.meet [(4, 2), (5, 2), (6, 2), (7, 2)] [] (fun L w' => L = [(3, .pointer (some ⟨b3, 0, none⟩)), (10, .pointer (some ⟨b10, 0, none⟩)), (42, .bool p42)] ∧ ∃ κ', Stp [] K71 w68 κ' w') trivial ?_ ?_
  ·
   revert h
   cases ht76 : (x32.1 != x23.1) with
   | true =>
    intro h; replace h := cT h
    refine WO.pn 4 rfl ?_
    obtain rfl := Option.some.inj h
    exact WO.met _ trivial ⟨rfl, _, (Stp.refl _ _).wk rfl⟩ fun a ha => (ha.more (ha.more (ha.more ha.nil rfl) rfl) rfl)
   | false =>
    intro h; replace h := cF h
    refine WO.pn 4 rfl ?_
    obtain rfl := Option.some.inj h
    exact WO.met _ trivial ⟨rfl, _, (Stp.refl _ _).wk rfl⟩ fun a ha => (ha.more (ha.more (ha.more ha.nil rfl) rfl) rfl)
  rintro _ w77 _ ⟨rfl, K78, S79⟩
  have h := hK75
  refine WO.fin ?_
  refine DN.seq ?_
  revert h
  cases ht80 : p42 with
  | true =>
   intro h; replace h := cT h
   refine WC.ct rfl ?_
   refine WC.seq ?_
   refine WC.rs [(0, 2)] rfl ?_
   refine WO.pn 1 rfl ?_
   refine WO.fin ?_
   refine DN.seq ?_
   refine WC.ret ?_
   refine DN.retThen ?_
   have f81 := hE.stp (S3.tr (S12.tr (S28.tr (S38.tr (S52.tr (S60.tr (S63.tr (S72.tr S79)))))))) rfl rfl
   refine DN.res (l := [.tmp 6]) Try.results5 (res_tmp rfl rfl) rfl ?_
   obtain rfl := Option.some.inj h
   exact ⟨K78, rfl, f81⟩
  | false =>
   intro h; replace h := cF h
   refine WC.cf rfl ?_
   refine WC.skip ?_
   refine DN.seq ?_
   refine WC.seq ?_
   refine WC.seq ?_
   refine WC.rx (κ := K78) 19 none [(0, 0), (1, 0), (2, 1), (3, 1), (4, 2)] [] (by kernel_rfl) (by kernel_rfl) fun w83 S82 => ?_
   have f84 := f64.stp (S72.tr (S79.tr S82)) rfl rfl
   refine WO.k0 rfl rfl rfl rfl (rn_la (cs := [.int .i64 x27.Inputs, .int .i64 x27.Latches, .slice a27_0 x27.Next.length u27_0, .slice a27_1 x27.Gates.length u27_1, .slice a27_2 x27.Outs.length u27_2]) Try.isAgg50 Try.sizeOf50 rfl rfl rfl (haC f84.cells rfl)) ?_
   have f85 := f41.stp (S52.tr (S60.tr (S63.tr (S72.tr (S79.tr S82))))) rfl rfl
   refine WO.k0 rfl rfl rfl rfl (rn_la (cs := [.int .i64 p0.Inputs, .int .i64 p0.Latches, .slice a0_2 p0.Next.length u0_2, .slice a0_3 p0.Gates.length u0_3, .slice a0_4 p0.Outs.length u0_4]) Try.isAgg44 Try.sizeOf44 rfl rfl rfl (haC f85.cells rfl)) ?_
   obtain ⟨x45, hx45, h⟩ := Option.bind_eq_some_iff.mp h
   have f86 := f42.stp (S52.tr (S60.tr (S63.tr (S72.tr (S79.tr S82))))) rfl rfl
   have f87 := f43.stp (S52.tr (S60.tr (S63.tr (S72.tr (S79.tr S82))))) rfl rfl
   have f88 := f44.stp (S52.tr (S60.tr (S63.tr (S72.tr (S79.tr S82))))) rfl rfl
   refine WO.call rfl rfl rfl rfl rfl rfl Try.call30 (l_toCircuit_ok (κ := fun b => mp [] 0 (K78 b)) (Sl.map f86 (mp [] 0) rfl rfl) (Sl.map f87 (mp [] 0) rfl rfl) (Sl.map f88 (mp [] 0) rfl rfl) hx45) ?_
   rintro _ w89 ⟨k90, a45_0, u45_0, a45_1, u45_1, a45_2, u45_2, rfl, e91, f92, f93, f94⟩
   obtain ⟨K95, S96, m97⟩ := Ent.mixed (l := []) (κ := K78) e91 20 rfl
   refine ⟨(S96.cl rfl), ?_⟩
   have f99 := f92.mx (no_int _) m97 rfl (rfl : 20 + 2 = 22)
   have f100 := f93.mx Gate.no155 m97 rfl (rfl : 20 + 3 = 23)
   have f101 := f94.mx (no_int _) m97 rfl (rfl : 20 + 4 = 24)
   obtain ⟨x46, hx46, h⟩ := Option.bind_eq_some_iff.mp h
   have f102 := f65.stp (S72.tr (S79.tr (S82.tr S96))) rfl rfl
   have f103 := f66.stp (S72.tr (S79.tr (S82.tr S96))) rfl rfl
   have f104 := f67.stp (S72.tr (S79.tr (S82.tr S96))) rfl rfl
   refine WO.call rfl rfl rfl rfl rfl rfl Try.call32 (l_eqCircuit_ok (κ := fun b => mp [] 0 (K95 b)) (Sl.map f102.rdc (mp [] 0) rfl rfl) (Sl.map f103.rdc (mp [] 0) rfl rfl) (Sl.map f104.rdc (mp [] 0) rfl rfl) (Sl.map f99.rdc (mp [] 0) rfl rfl) (Sl.map f100.rdc (mp [] 0) rfl rfl) (Sl.map f101.rdc (mp [] 0) rfl rfl) hx46) ?_
   rintro _ w105 ⟨k106, rfl, e107⟩
   obtain ⟨K108, S109, m110⟩ := Ent.mixed (l := []) (κ := K95) e107 25 rfl
   refine ⟨((S96.tr S109).cl rfl), ?_⟩
   refine WO.pn 1 rfl ?_
   refine WO.nx ?_
   refine WO.fin ?_
   refine DN.seq ?_
   revert h
   cases ht112 : (!x46) with
   | true =>
    intro h; replace h := cT h
    refine WC.ct rfl ?_
    refine WC.seq ?_
    refine WC.rs [(0, 2)] rfl ?_
    refine WO.pn 1 rfl ?_
    refine WO.fin ?_
    refine DN.seq ?_
    refine WC.ret ?_
    refine DN.retThen ?_
    have f113 := hE.stp (S3.tr (S12.tr (S28.tr (S38.tr (S52.tr (S60.tr (S63.tr (S72.tr (S79.tr (S82.tr (S96.tr S109))))))))))) rfl rfl
    refine DN.res (l := [.tmp 6]) Try.results5 (res_tmp rfl rfl) rfl ?_
    obtain rfl := Option.some.inj h
    exact ⟨K108, rfl, f113⟩
   | false =>
    intro h; replace h := cF h
    refine WC.cf rfl ?_
    refine WC.skip ?_
    refine DN.seq ?_
    refine WC.seq ?_
    refine WC.rs [(0, 2)] rfl ?_
    refine WO.pn 1 rfl ?_
    refine WO.fin ?_
    refine DN.seq ?_
    refine WC.ret ?_
    have f114 := hE.stp (S3.tr (S12.tr (S28.tr (S38.tr (S52.tr (S60.tr (S63.tr (S72.tr (S79.tr (S82.tr (S96.tr S109))))))))))) rfl rfl
    refine DN.res (l := [.tmp 6]) Try.results5 (res_tmp rfl rfl) rfl ?_
    obtain rfl := Option.some.inj h
    exact ⟨K108, rfl, f114⟩

end Go.Proofs.Ytgniipbjjkodaaa
