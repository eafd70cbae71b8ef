/- The walks, part 9. By program. -/
import Derived.Test.YtndiklipffipcaaSort
import Derived.Test.YtndiklipffipcaaShelf
import Derived.Test.YtndiklipffipcaaFnsT8
set_option linter.unusedVariables false
set_option linter.unusedSimpArgs false
namespace Go.Proofs.Ytndiklipffipcaa
open Go Go.Wk Go.Proofs
set_option maxRecDepth 100000
set_option maxHeartbeats 1000000

/- loop.example/g00869/laws.FnExactTurnedBy -/
theorem l_FnExactTurnedBy_ok {w : World} {κ : Col} {a0_0_0 : Option Addr} {u0_0_0 : Nat} {a0_0_1 : Option Addr} {u0_0_1 : Nat} {a0_1 : Option Addr} {u0_1 : Nat} {p0 : Parity} {p1 : Edit} (g0_0_0 : Rd (Rp.int .i64) κ w 0 a0_0_0 u0_0_0 p0.Arena.Owner) (g0_0_1 : Rd (Rp.sl (Rp.int .i64)) κ w 0 a0_0_1 u0_0_1 p0.Arena.Next) (g0_1 : Rd (Rp.int .i64) κ w 0 a0_1 u0_1 p0.Prio) {r : Bool} (h : l_FnExactTurnedBy p0 p1 = some r) : Ret Try.prog 3 [.agg #[.slice a0_0_0 p0.Arena.Owner.length u0_0_0, .slice a0_0_1 p0.Arena.Next.length u0_0_1, .slice a0_1 p0.Prio.length u0_1], .agg #[.int .i64 p1.Kind, .int .i64 p1.V, .int .i64 p1.N]] w (fun v w' => ∃ (κ' : Col), v = .bool r ∧ Ent κ w κ' w') := by
 unfold l_FnExactTurnedBy at h
 refine Ret.enter Try.func3 rfl Try.ntmps3 rfl ?_
 dsimp only [envOf]
 have hE := Ent.refl κ w
 refine WC.seq ?_
 refine WC.rs [(0, 1), (1, 1), (2, 2)] rfl ?_
 refine WO.box (κ := κ) 2 rfl rfl rfl rfl rfl rfl rfl fun b2 w1 K2 S3 f4 => ⟨trivial, ?_⟩
 refine WO.box (κ := K2) 3 rfl rfl rfl rfl rfl rfl rfl fun b3 w5 K6 S7 f8 => ⟨trivial, ?_⟩
 refine WO.pn 1 rfl ?_
 refine WO.fin ?_
 refine DN.seq ?_
 refine WC.seq ?_
 refine WC.rs [(0, 2)] rfl ?_
 refine WO.pn 1 rfl ?_
 refine WO.fin ?_
 refine DN.seq ?_
 refine WC.seq ?_
 refine WC.rs [(0, 1), (1, 2), (2, 1), (3, 2)] rfl ?_
 have f9 := f4.stp S7 rfl rfl
 refine WO.k1 trivial rfl rfl rfl rfl (rn_la (cs := [.slice a0_0_0 p0.Arena.Owner.length u0_0_0, .slice a0_0_1 p0.Arena.Next.length u0_0_1, .slice a0_1 p0.Prio.length u0_1]) Try.isAgg27 Try.sizeOf27 rfl rfl rfl (haE f9.cells)) ?_
 refine WO.pn 1 rfl ?_
 obtain ⟨x15, hx15, h⟩ := Option.bind_eq_some_iff.mp h
 have f10 := g0_0_0.stp (S3.tr S7) rfl rfl
 have f11 := g0_0_1.stp (S3.tr S7) rfl rfl
 have f12 := g0_1.stp (S3.tr S7) rfl rfl
 refine WO.call rfl rfl rfl rfl rfl rfl Try.call7 (l_szParity_ok (κ := fun b => mp [] 0 (K6 b)) (p0 := p0) (Sl.map f10 (mp [] 0) rfl rfl) (Sl.map f11 (mp [] 0) rfl rfl) (Sl.map f12 (mp [] 0) rfl rfl) hx15) ?_
 rintro _ w13 ⟨k14, rfl, e15⟩
 obtain ⟨K16, S17, m18⟩ := Ent.mixed (l := []) (κ := K6) e15 4 rfl
 refine ⟨trivial, ?_⟩
 refine WO.pn 1 rfl ?_
 refine WO.fin ?_
 refine DN.seq ?_
 refine WC.seq ?_
 refine WC.seq ?_
 refine WC.rs [(0, 2), (1, 2)] rfl ?_
 refine WO.pn 2 rfl ?_
 refine WO.fin ?_
 refine DN.seq ?_
 revert h
 cases ht20 : decide (x15 < 0) with
 | true =>
  intro h; replace h := cT h
  refine WC.ct rfl ?_
  refine WC.seq ?_
  refine WC.rs [(0, 2)] rfl ?_
  refine WO.pn 1 rfl ?_
  refine WO.fin ?_
  refine DN.seq ?_
  refine WC.ret ?_
  refine DN.retThen ?_
  have f21 := hE.stp (S3.tr (S7.tr S17)) rfl rfl
  refine DN.res (l := [.tmp 4]) Try.results3 (res_tmp rfl rfl) rfl ?_
  obtain rfl := Option.some.inj h
  exact ⟨K16, rfl, f21⟩
 | false =>
  intro h; replace h := cF h
  refine WC.cf rfl ?_
  refine WC.skip ?_
  refine DN.seq ?_
  refine WC.seq ?_
  refine WC.rx (κ := K16) [2, 3] none [(0, 0), (2, 0), (1, 1), (3, 1), (4, 1), (5, 2)] [] (by kernel_rfl) (by kernel_rfl) fun w23 S22 => ?_
  have f24 := f9.stp (S17.tr S22) rfl rfl
  refine WO.k0 rfl rfl rfl rfl (rn_la (cs := [.slice a0_0_0 p0.Arena.Owner.length u0_0_0, .slice a0_0_1 p0.Arena.Next.length u0_0_1, .slice a0_1 p0.Prio.length u0_1]) Try.isAgg27 Try.sizeOf27 rfl rfl rfl (haC f24.cells rfl)) ?_
  have f25 := f8.stp (S17.tr S22) rfl rfl
  refine WO.k0 rfl rfl rfl rfl (rn_la (cs := [.int .i64 p1.Kind, .int .i64 p1.V, .int .i64 p1.N]) Try.isAgg29 Try.sizeOf29 rfl rfl rfl (haC f25.cells rfl)) ?_
  obtain ⟨x19, hx19, h⟩ := Option.bind_eq_some_iff.mp h
  have f26 := f10.stp (S17.tr S22) rfl rfl
  have f27 := f11.stp (S17.tr S22) rfl rfl
  have f28 := f12.stp (S17.tr S22) rfl rfl
  refine WO.call rfl rfl rfl rfl rfl rfl Try.call9 (l_toParity_ok (κ := fun b => mp [] 0 (K16 b)) (p0 := p0) (Sl.map f26 (mp [] 0) rfl rfl) (Sl.map f27 (mp [] 0) rfl rfl) (Sl.map f28 (mp [] 0) rfl rfl) hx19) ?_
  rintro _ w29 ⟨k30, a19_0, u19_0, a19_1, u19_1, a19_2, u19_2, rfl, e31, f32, f33, f34⟩
  obtain ⟨K35, S36, m37⟩ := Ent.mixed (l := []) (κ := K16) e31 6 rfl
  refine ⟨(S36.cl rfl), ?_⟩
  have f39 := f32.mx (no_int _) m37 rfl (rfl : 6 + 2 = 8)
  have f40 := f33.mx (no_own (no_int _) _) m37 rfl (rfl : 6 + 3 = 9)
  have f41 := f34.mx (no_int _) m37 rfl (rfl : 6 + 4 = 10)
  obtain ⟨x21, hx21, h⟩ := Option.bind_eq_some_iff.mp h
  refine WO.call rfl rfl rfl rfl rfl rfl Try.call10 (l_toEdit_ok (κ := fun b => mp [] 0 (K35 b)) (p0 := p1) hx21) ?_
  rintro _ w42 ⟨k43, rfl, e44⟩
  obtain ⟨K45, S46, m47⟩ := Ent.mixed (l := []) (κ := K35) e44 11 rfl
  refine ⟨((S36.tr S46).cl rfl), ?_⟩
  obtain ⟨x22, hx22, h⟩ := Option.bind_eq_some_iff.mp h
  have f49 := f39.stp S46 rfl rfl
  have f50 := f40.stp S46 rfl rfl
  have f51 := f41.stp S46 rfl rfl
  refine WO.call rfl rfl rfl rfl rfl rfl Try.call8 (s_TurnedBy_ok (κ := fun b => mp [] 0 (K45 b)) (p0 := x19) (p1 := x21) (Sl.map f49.rdc (mp [] 0) rfl rfl) (Sl.map f50.rdc (mp [] 0) rfl rfl) (Sl.map f51.rdc (mp [] 0) rfl rfl) hx22) ?_
  rintro _ w52 ⟨k53, a22_0, u22_0, rfl, e54, f55⟩
  obtain ⟨K56, S57, m58⟩ := Ent.mixed (l := []) (κ := K45) e54 13 rfl
  refine ⟨((S36.tr (S46.tr S57)).cl rfl), ?_⟩
  have f60 := f55.mx (no_int _) m58 rfl (rfl : 13 + 2 = 15)
  refine WO.pn 1 rfl ?_
  refine WO.nx ?_
  refine WO.fin ?_
  refine DN.seq ?_
  refine WC.seq ?_
  refine WC.rs [(0, 1), (1, 1), (2, 1), (3, 1)] rfl ?_
  have f61 := f24.stp (S36.tr (S46.tr S57)) rfl rfl
  refine WO.k1 trivial rfl rfl rfl rfl (rn_la (cs := [.slice a0_0_0 p0.Arena.Owner.length u0_0_0, .slice a0_0_1 p0.Arena.Next.length u0_0_1, .slice a0_1 p0.Prio.length u0_1]) Try.isAgg27 Try.sizeOf27 rfl rfl rfl (haE f61.cells)) ?_
  obtain ⟨x24, hx24, h⟩ := Option.bind_eq_some_iff.mp h
  have f62 := f26.stp (S36.tr (S46.tr S57)) rfl rfl
  have f63 := f27.stp (S36.tr (S46.tr S57)) rfl rfl
  have f64 := f28.stp (S36.tr (S46.tr S57)) rfl rfl
  refine WO.call rfl rfl rfl rfl rfl rfl Try.call9 (l_toParity_ok (κ := fun b => mp [] 0 (K56 b)) (p0 := p0) (Sl.map f62 (mp [] 0) rfl rfl) (Sl.map f63 (mp [] 0) rfl rfl) (Sl.map f64 (mp [] 0) rfl rfl) hx24) ?_
  rintro _ w65 ⟨k66, a24_0, u24_0, a24_1, u24_1, a24_2, u24_2, rfl, e67, f68, f69, f70⟩
  obtain ⟨K71, S72, m73⟩ := Ent.mixed (l := []) (κ := K56) e67 16 rfl
  refine ⟨trivial, ?_⟩
  have f75 := f68.mx (no_int _) m73 rfl (rfl : 16 + 2 = 18)
  have f76 := f69.mx (no_own (no_int _) _) m73 rfl (rfl : 16 + 3 = 19)
  have f77 := f70.mx (no_int _) m73 rfl (rfl : 16 + 4 = 20)
  refine WO.alloc (κ := K71) 21 rfl rfl rfl rfl rfl Try.zeroValue34 rfl fun b7 w78 K79 S80 f81 => ⟨trivial, ?_⟩
  refine WO.stB0 (κ := K79) 21 (vc := [.slice a24_0 x24.Arena.Owner.length u24_0, .slice a24_1 x24.Arena.Next.length u24_1, .slice a24_2 x24.Prio.length u24_2]) rfl rfl rfl rfl rfl rfl rfl Try.sizeOf34 rfl rfl f81 rfl fun w82 S83 f84 => ⟨trivial, ?_⟩
  refine WO.fin ?_
  refine DN.seq ?_
  refine WC.seq ?_
  refine WC.rx (κ := K79) [3, 21] none [(0, 0), (1, 0), (2, 1), (3, 1), (4, 2)] [] (by kernel_rfl) (by kernel_rfl) fun w86 S85 => ?_
  have f87 := f84.stp S85 rfl rfl
  refine WO.k0 rfl rfl rfl rfl (rn_la (cs := [.slice a24_0 x24.Arena.Owner.length u24_0, .slice a24_1 x24.Arena.Next.length u24_1, .slice a24_2 x24.Prio.length u24_2]) Try.isAgg34 Try.sizeOf34 rfl rfl rfl (haC f87.cells rfl)) ?_
  have f88 := f25.stp (S36.tr (S46.tr (S57.tr (S72.tr (S80.tr (S83.tr S85)))))) rfl rfl
  refine WO.k0 rfl rfl rfl rfl (rn_la (cs := [.int .i64 p1.Kind, .int .i64 p1.V, .int .i64 p1.N]) Try.isAgg29 Try.sizeOf29 rfl rfl rfl (haC f88.cells rfl)) ?_
  obtain ⟨x27, hx27, h⟩ := Option.bind_eq_some_iff.mp h
  refine WO.call rfl rfl rfl rfl rfl rfl Try.call10 (l_toEdit_ok (κ := fun b => mp [] 0 (K79 b)) (p0 := p1) hx27) ?_
  rintro _ w89 ⟨k90, rfl, e91⟩
  obtain ⟨K92, S93, m94⟩ := Ent.mixed (l := []) (κ := K79) e91 22 rfl
  refine ⟨(S93.cl rfl), ?_⟩
  obtain ⟨x28, hx28, h⟩ := Option.bind_eq_some_iff.mp h
  have f96 := f75.stp (S80.tr (S83.tr (S85.tr S93))) rfl rfl
  have f97 := f76.stp (S80.tr (S83.tr (S85.tr S93))) rfl rfl
  have f98 := f77.stp (S80.tr (S83.tr (S85.tr S93))) rfl rfl
  refine WO.call rfl rfl rfl rfl rfl rfl Try.call11 (i_TurnedBy_ok (κ := fun b => mp [] 0 (K92 b)) (p0 := x24) (p1 := x27) (Sl.map f96.rdc (mp [] 0) rfl rfl) (Sl.map f97.rdc (mp [] 0) rfl rfl) (Sl.map f98.rdc (mp [] 0) rfl rfl) hx28) ?_
  rintro _ w99 ⟨k100, a28_0, u28_0, rfl, e101, f102⟩
  obtain ⟨K103, S104, m105⟩ := Ent.mixed (l := []) (κ := K92) e101 24 rfl
  refine ⟨((S93.tr S104).cl rfl), ?_⟩
  have f107 := f102.mx (no_int _) m105 rfl (rfl : 24 + 2 = 26)
  refine WO.pn 1 rfl ?_
  refine WO.nx ?_
  refine WO.fin ?_
  refine DN.seq ?_
  refine WC.seq ?_
  refine WC.seq ?_
  refine WC.rs [(0, 2), (1, 2), (2, 1), (3, 2)] rfl ?_
  refine WO.pn 2 rfl ?_
  obtain ⟨x31, hx31, h⟩ := Option.bind_eq_some_iff.mp h
  have f108 := f60.stp (S72.tr (S80.tr (S83.tr (S85.tr (S93.tr S104))))) rfl rfl
  refine WO.call rfl rfl rfl rfl rfl rfl Try.call12 (l_eqInt64S_ok (κ := fun b => mp [] 0 (K103 b)) (Sl.map f107.rdc (mp [] 0) rfl rfl) (Sl.map f108.rdc (mp [] 0) rfl rfl) hx31) ?_
  rintro _ w109 ⟨k110, rfl, e111⟩
  obtain ⟨K112, S113, m114⟩ := Ent.mixed (l := []) (κ := K103) e111 27 rfl
  refine ⟨trivial, ?_⟩
  refine WO.pn 1 rfl ?_
  refine WO.fin ?_
  refine DN.seq ?_
  revert h
  cases ht116 : (!x31) with
  | true =>
   intro h; replace h := cT h
   refine WC.ct rfl ?_
   refine WC.seq ?_
   refine WC.rs [(0, 2)] rfl ?_
   refine WO.pn 1 rfl ?_
   refine WO.fin ?_
   refine DN.seq ?_
   refine WC.ret ?_
   refine DN.retThen ?_
   have f117 := hE.stp (S3.tr (S7.tr (S17.tr (S22.tr (S36.tr (S46.tr (S57.tr (S72.tr (S80.tr (S83.tr (S85.tr (S93.tr (S104.tr S113))))))))))))) rfl rfl
   refine DN.res (l := [.tmp 4]) Try.results3 (res_tmp rfl rfl) rfl ?_
   obtain rfl := Option.some.inj h
   exact ⟨K112, rfl, f117⟩
  | false =>
   intro h; replace h := cF h
   refine WC.cf rfl ?_
   refine WC.skip ?_
   refine DN.seq ?_
   refine WC.seq ?_
   refine WC.seq ?_
   refine WC.rx (κ := K112) [2, 21] none [(0, 0), (1, 0), (2, 1), (3, 1), (4, 2)] [] (by kernel_rfl) (by kernel_rfl) fun w119 S118 => ?_
   have f120 := f87.stp (S93.tr (S104.tr (S113.tr S118))) rfl rfl
   refine WO.k0 rfl rfl rfl rfl (rn_la (cs := [.slice a24_0 x24.Arena.Owner.length u24_0, .slice a24_1 x24.Arena.Next.length u24_1, .slice a24_2 x24.Prio.length u24_2]) Try.isAgg34 Try.sizeOf34 rfl rfl rfl (haC f120.cells rfl)) ?_
   have f121 := f61.stp (S72.tr (S80.tr (S83.tr (S85.tr (S93.tr (S104.tr (S113.tr S118))))))) rfl rfl
   refine WO.k0 rfl rfl rfl rfl (rn_la (cs := [.slice a0_0_0 p0.Arena.Owner.length u0_0_0, .slice a0_0_1 p0.Arena.Next.length u0_0_1, .slice a0_1 p0.Prio.length u0_1]) Try.isAgg27 Try.sizeOf27 rfl rfl rfl (haC f121.cells rfl)) ?_
   obtain ⟨x35, hx35, h⟩ := Option.bind_eq_some_iff.mp h
   have f122 := f62.stp (S72.tr (S80.tr (S83.tr (S85.tr (S93.tr (S104.tr (S113.tr S118))))))) rfl rfl
   have f123 := f63.stp (S72.tr (S80.tr (S83.tr (S85.tr (S93.tr (S104.tr (S113.tr S118))))))) rfl rfl
   have f124 := f64.stp (S72.tr (S80.tr (S83.tr (S85.tr (S93.tr (S104.tr (S113.tr S118))))))) rfl rfl
   refine WO.call rfl rfl rfl rfl rfl rfl Try.call9 (l_toParity_ok (κ := fun b => mp [] 0 (K112 b)) (p0 := p0) (Sl.map f122 (mp [] 0) rfl rfl) (Sl.map f123 (mp [] 0) rfl rfl) (Sl.map f124 (mp [] 0) rfl rfl) hx35) ?_
   rintro _ w125 ⟨k126, a35_0, u35_0, a35_1, u35_1, a35_2, u35_2, rfl, e127, f128, f129, f130⟩
   obtain ⟨K131, S132, m133⟩ := Ent.mixed (l := []) (κ := K112) e127 29 rfl
   refine ⟨(S132.cl rfl), ?_⟩
   have f135 := f128.mx (no_int _) m133 rfl (rfl : 29 + 2 = 31)
   have f136 := f129.mx (no_own (no_int _) _) m133 rfl (rfl : 29 + 3 = 32)
   have f137 := f130.mx (no_int _) m133 rfl (rfl : 29 + 4 = 33)
   obtain ⟨x36, hx36, h⟩ := Option.bind_eq_some_iff.mp h
   have f138 := f96.stp (S104.tr (S113.tr (S118.tr S132))) rfl rfl
   have f139 := f97.stp (S104.tr (S113.tr (S118.tr S132))) rfl rfl
   have f140 := f98.stp (S104.tr (S113.tr (S118.tr S132))) rfl rfl
   refine WO.call rfl rfl rfl rfl rfl rfl Try.call13 (l_eqParity_ok (κ := fun b => mp [] 0 (K131 b)) (p0 := x24) (p1 := x35) (Sl.map f138.rdc (mp [] 0) rfl rfl) (Sl.map f139.rdc (mp [] 0) rfl rfl) (Sl.map f140.rdc (mp [] 0) rfl rfl) (Sl.map f135.rdc (mp [] 0) rfl rfl) (Sl.map f136.rdc (mp [] 0) rfl rfl) (Sl.map f137.rdc (mp [] 0) rfl rfl) hx36) ?_
   rintro _ w141 ⟨k142, rfl, e143⟩
   obtain ⟨K144, S145, m146⟩ := Ent.mixed (l := []) (κ := K131) e143 34 rfl
   refine ⟨((S132.tr S145).cl rfl), ?_⟩
   refine WO.pn 1 rfl ?_
   refine WO.nx ?_
   refine WO.fin ?_
   refine DN.seq ?_
   revert h
   cases ht148 : (!x36) with
   | true =>
    intro h; replace h := cT h
    refine WC.ct rfl ?_
    refine WC.seq ?_
    refine WC.rs [(0, 2)] rfl ?_
    refine WO.pn 1 rfl ?_
    refine WO.fin ?_
    refine DN.seq ?_
    refine WC.ret ?_
    refine DN.retThen ?_
    have f149 := hE.stp (S3.tr (S7.tr (S17.tr (S22.tr (S36.tr (S46.tr (S57.tr (S72.tr (S80.tr (S83.tr (S85.tr (S93.tr (S104.tr (S113.tr (S118.tr (S132.tr S145)))))))))))))))) rfl rfl
    refine DN.res (l := [.tmp 4]) Try.results3 (res_tmp rfl rfl) rfl ?_
    obtain rfl := Option.some.inj h
    exact ⟨K144, rfl, f149⟩
   | false =>
    intro h; replace h := cF h
    refine WC.cf rfl ?_
    refine WC.skip ?_
    refine DN.seq ?_
    refine WC.seq ?_
    refine WC.rs [(0, 2)] rfl ?_
    refine WO.pn 1 rfl ?_
    refine WO.fin ?_
    refine DN.seq ?_
    refine WC.seq ?_
    refine WC.rs [(0, 1), (1, 2), (2, 1), (3, 2)] rfl ?_
    have f150 := f120.stp (S132.tr S145) rfl rfl
    refine WO.k1 trivial rfl rfl rfl rfl (rn_la (cs := [.slice a24_0 x24.Arena.Owner.length u24_0, .slice a24_1 x24.Arena.Next.length u24_1, .slice a24_2 x24.Prio.length u24_2]) Try.isAgg34 Try.sizeOf34 rfl rfl rfl (haE f150.cells)) ?_
    refine WO.pn 1 rfl ?_
    obtain ⟨x40, hx40, h⟩ := Option.bind_eq_some_iff.mp h
    have f151 := f138.stp S145 rfl rfl
    have f152 := f139.stp S145 rfl rfl
    have f153 := f140.stp S145 rfl rfl
    refine WO.call rfl rfl rfl rfl rfl rfl Try.call14 (l_markParity_ok (κ := fun b => mp [(18, 2), (19, 3), (20, 4)] 0 (K144 b)) (p0 := x24) (f151.map (mp [(18, 2), (19, 3), (20, 4)] 0) rfl rfl) (f152.map (mp [(18, 2), (19, 3), (20, 4)] 0) rfl rfl) (f153.map (mp [(18, 2), (19, 3), (20, 4)] 0) rfl rfl) hx40) ?_
    rintro _ w154 ⟨k155, rfl, e156, f157, hn158, f159, hn160, f161, hn162⟩
    obtain ⟨K163, S164, m165⟩ := Ent.mixed (l := [(18, 2), (19, 3), (20, 4)]) (κ := K144) e156 36 rfl
    refine ⟨trivial, ?_⟩
    have f167 := f157.mx (no_int _) m165 rfl (rfl : 36 + 2 = 38)
    have f168 := f159.mx (no_own (no_int _) _) m165 rfl (rfl : 36 + 3 = 39)
    have f169 := f161.mx (no_int _) m165 rfl (rfl : 36 + 4 = 40)
    refine WO.pn 1 rfl ?_
    refine WO.fin ?_
    refine DN.seq ?_
    refine WC.seq ?_
    refine WC.seq ?_
    refine WC.rs [(0, 2), (1, 2), (2, 2), (3, 2), (4, 2), (5, 1), (6, 2), (7, 2)] rfl ?_
    refine WO.pn 3 rfl ?_
    obtain ⟨p48, h, hK170⟩ := Option.bind_eq_some_iff.mp h
    refine WO.meet [(3, 2), (4, 2), (5, 1), (6, 2), (7, 2)] [] (fun L w' => L = [(2, .pointer (some ⟨b2, 0, none⟩)), (3, .pointer (some ⟨b3, 0, none⟩)), (6, .slice a22_0 x22.length u22_0), (8, .slice a28_0 x28.length u28_0), (48, .bool p48)] ∧ ∃ κ', Stp [] K163 w154 κ' w') trivial ?_ ?_
    ·
     revert h
     cases ht171 : decide (x40.1 < 0) with
     | true =>
      intro h; replace h := cT h
      refine WO.pn 2 rfl ?_
      refine WO.ls rfl rfl rfl rfl ?_
      refine WO.pn 2 rfl ?_
      obtain rfl := Option.some.inj h
      exact WO.met _ trivial ⟨rfl, _, (Stp.refl _ _).wk rfl⟩ fun a ha => (ha.more (ha.more (ha.more (ha.more (ha.more ha.nil rfl) rfl) rfl) rfl) rfl)
     | false =>
      intro h; replace h := cF h
      refine WO.pn 2 rfl ?_
      obtain ⟨x46, hx46, h⟩ := Option.bind_eq_some_iff.mp h
      have f172 := f107.stp (S113.tr (S118.tr (S132.tr (S145.tr S164)))) rfl rfl
      have f173 := f108.stp (S113.tr (S118.tr (S132.tr (S145.tr S164)))) rfl rfl
      refine WO.call rfl rfl rfl rfl rfl rfl Try.call12 (l_eqInt64S_ok (κ := fun b => mp [] 0 (K163 b)) (Sl.map f172.rdc (mp [] 0) rfl rfl) (Sl.map f173.rdc (mp [] 0) rfl rfl) hx46) ?_
      rintro _ w174 ⟨k175, rfl, e176⟩
      obtain ⟨K177, S178, m179⟩ := Ent.mixed (l := []) (κ := K163) e176 41 rfl
      refine ⟨trivial, ?_⟩
      refine WO.pn 2 rfl ?_
      obtain rfl := Option.some.inj h
      exact WO.met _ trivial ⟨rfl, _, S178.wk rfl⟩ fun a ha => (ha.more (ha.more (ha.more (ha.more (ha.more ha.nil rfl) rfl) rfl) rfl) rfl)
    rintro _ w181 _ ⟨rfl, K182, S183⟩
    have h := hK170
    refine WO.fin ?_
    refine DN.seq ?_
    revert h
    cases ht184 : p48 with
    | true =>
     intro h; replace h := cT h
     refine WC.ct rfl ?_
     refine WC.seq ?_
     refine WC.rs [(0, 2)] rfl ?_
     refine WO.pn 1 rfl ?_
     refine WO.fin ?_
     refine DN.seq ?_
     refine WC.ret ?_
     refine DN.retThen ?_
     have f185 := hE.stp (S3.tr (S7.tr (S17.tr (S22.tr (S36.tr (S46.tr (S57.tr (S72.tr (S80.tr (S83.tr (S85.tr (S93.tr (S104.tr (S113.tr (S118.tr (S132.tr (S145.tr (S164.tr S183)))))))))))))))))) rfl rfl
     refine DN.res (l := [.tmp 4]) Try.results3 (res_tmp rfl rfl) rfl ?_
     obtain rfl := Option.some.inj h
     exact ⟨K182, rfl, f185⟩
    | false =>
     intro h; replace h := cF h
     refine WC.cf rfl ?_
     refine WC.skip ?_
     refine DN.seq ?_
     refine WC.seq ?_
     refine WC.rs [(0, 2)] rfl ?_
     refine WO.pn 1 rfl ?_
     refine WO.fin ?_
     refine DN.seq ?_
     refine WC.seq ?_
     refine WC.rs [(0, 2), (1, 2), (2, 1), (3, 2)] rfl ?_
     refine WO.pn 2 rfl ?_
     obtain ⟨x51, hx51, h⟩ := Option.bind_eq_some_iff.mp h
     have f186 := f107.stp (S113.tr (S118.tr (S132.tr (S145.tr (S164.tr S183))))) rfl rfl
     refine WO.call rfl rfl rfl rfl rfl rfl Try.call15 (l_markInt64S_ok (κ := fun b => mp [(26, 2)] 0 (K182 b)) (f186.map (mp [(26, 2)] 0) rfl rfl) hx51) ?_
     rintro _ w187 ⟨k188, rfl, e189, f190, hn191⟩
     obtain ⟨K192, S193, m194⟩ := Ent.mixed (l := [(26, 2)]) (κ := K182) e189 41 rfl
     refine ⟨trivial, ?_⟩
     have f196 := f190.mx (no_int _) m194 rfl (rfl : 41 + 2 = 43)
     refine WO.pn 1 rfl ?_
     refine WO.fin ?_
     refine DN.seq ?_
     refine WC.seq ?_
     refine WC.rs [(0, 2)] rfl ?_
     refine WO.pn 1 rfl ?_
     refine WO.fin ?_
     refine DN.seq ?_
     refine WC.seq ?_
     refine WC.rs [(0, 2), (1, 2), (2, 1), (3, 2)] rfl ?_
     refine WO.pn 2 rfl ?_
     obtain ⟨x54, hx54, h⟩ := Option.bind_eq_some_iff.mp h
     refine WO.call rfl rfl rfl rfl rfl rfl Try.call16 (Ret.cast (by simp only [(hn191), List.cons_append, List.nil_append]) (l_heldInt64S_ok (κ := fun b => mp [] 0 (K192 b)) (Sl.map f196.rdc (mp [] 0) rfl rfl) hx54)) ?_
     rintro _ w197 ⟨k198, rfl, e199⟩
     obtain ⟨K200, S201, m202⟩ := Ent.mixed (l := []) (κ := K192) e199 44 rfl
     refine ⟨trivial, ?_⟩
     refine WO.pn 1 rfl ?_
     refine WO.fin ?_
     refine DN.seq ?_
     refine WC.seq ?_
     refine WC.seq ?_
     refine WC.rs [(0, 2), (1, 2)] rfl ?_
     refine WO.pn 2 rfl ?_
     refine WO.fin ?_
     refine DN.seq ?_
     revert h
     cases ht204 : decide (x54 < 0) with
     | true =>
      intro h; replace h := cT h
      refine WC.ct rfl ?_
      refine WC.seq ?_
      refine WC.rs [(0, 2)] rfl ?_
      refine WO.pn 1 rfl ?_
      refine WO.fin ?_
      refine DN.seq ?_
      refine WC.ret ?_
      refine DN.retThen ?_
      have f205 := hE.stp (S3.tr (S7.tr (S17.tr (S22.tr (S36.tr (S46.tr (S57.tr (S72.tr (S80.tr (S83.tr (S85.tr (S93.tr (S104.tr (S113.tr (S118.tr (S132.tr (S145.tr (S164.tr (S183.tr (S193.tr S201)))))))))))))))))))) rfl rfl
      refine DN.res (l := [.tmp 4]) Try.results3 (res_tmp rfl rfl) rfl ?_
      obtain rfl := Option.some.inj h
      exact ⟨K200, rfl, f205⟩
     | false =>
      intro h; replace h := cF h
      refine WC.cf rfl ?_
      refine WC.skip ?_
      refine DN.seq ?_
      refine WC.seq ?_
      refine WC.seq ?_
      refine WC.rs [(0, 2), (1, 2), (2, 2)] rfl ?_
      refine WO.pn 3 rfl ?_
      refine WO.fin ?_
      refine DN.seq ?_
      revert h
      cases ht206 : (x54 != x51.1) with
      | true =>
       intro h; replace h := cT h
       refine WC.ct rfl ?_
       refine WC.seq ?_
       refine WC.rs [(0, 2)] rfl ?_
       refine WO.pn 1 rfl ?_
       refine WO.fin ?_
       refine DN.seq ?_
       refine WC.ret ?_
       refine DN.retThen ?_
       have f207 := hE.stp (S3.tr (S7.tr (S17.tr (S22.tr (S36.tr (S46.tr (S57.tr (S72.tr (S80.tr (S83.tr (S85.tr (S93.tr (S104.tr (S113.tr (S118.tr (S132.tr (S145.tr (S164.tr (S183.tr (S193.tr S201)))))))))))))))))))) rfl rfl
       refine DN.res (l := [.tmp 4]) Try.results3 (res_tmp rfl rfl) rfl ?_
       obtain rfl := Option.some.inj h
       exact ⟨K200, rfl, f207⟩
      | false =>
       intro h; replace h := cF h
       refine WC.cf rfl ?_
       refine WC.skip ?_
       refine DN.seq ?_
       refine WC.seq ?_
       refine WC.rx (κ := K200) [2, 3] none [(0, 0), (2, 0), (1, 1), (3, 1), (4, 1), (5, 2)] [] (by kernel_rfl) (by kernel_rfl) fun w209 S208 => ?_
       have f210 := f121.stp (S132.tr (S145.tr (S164.tr (S183.tr (S193.tr (S201.tr S208)))))) rfl rfl
       refine WO.k0 rfl rfl rfl rfl (rn_la (cs := [.slice a0_0_0 p0.Arena.Owner.length u0_0_0, .slice a0_0_1 p0.Arena.Next.length u0_0_1, .slice a0_1 p0.Prio.length u0_1]) Try.isAgg27 Try.sizeOf27 rfl rfl rfl (haC f210.cells rfl)) ?_
       have f211 := f88.stp (S93.tr (S104.tr (S113.tr (S118.tr (S132.tr (S145.tr (S164.tr (S183.tr (S193.tr (S201.tr S208)))))))))) rfl rfl
       refine WO.k0 rfl rfl rfl rfl (rn_la (cs := [.int .i64 p1.Kind, .int .i64 p1.V, .int .i64 p1.N]) Try.isAgg29 Try.sizeOf29 rfl rfl rfl (haC f211.cells rfl)) ?_
       obtain ⟨x61, hx61, h⟩ := Option.bind_eq_some_iff.mp h
       have f212 := f122.stp (S132.tr (S145.tr (S164.tr (S183.tr (S193.tr (S201.tr S208)))))) rfl rfl
       have f213 := f123.stp (S132.tr (S145.tr (S164.tr (S183.tr (S193.tr (S201.tr S208)))))) rfl rfl
       have f214 := f124.stp (S132.tr (S145.tr (S164.tr (S183.tr (S193.tr (S201.tr S208)))))) rfl rfl
       refine WO.call rfl rfl rfl rfl rfl rfl Try.call9 (l_toParity_ok (κ := fun b => mp [] 0 (K200 b)) (p0 := p0) (Sl.map f212 (mp [] 0) rfl rfl) (Sl.map f213 (mp [] 0) rfl rfl) (Sl.map f214 (mp [] 0) rfl rfl) hx61) ?_
       rintro _ w215 ⟨k216, a61_0, u61_0, a61_1, u61_1, a61_2, u61_2, rfl, e217, f218, f219, f220⟩
       obtain ⟨K221, S222, m223⟩ := Ent.mixed (l := []) (κ := K200) e217 46 rfl
       refine ⟨(S222.cl rfl), ?_⟩
       have f225 := f218.mx (no_int _) m223 rfl (rfl : 46 + 2 = 48)
       have f226 := f219.mx (no_own (no_int _) _) m223 rfl (rfl : 46 + 3 = 49)
       have f227 := f220.mx (no_int _) m223 rfl (rfl : 46 + 4 = 50)
       obtain ⟨x63, hx63, h⟩ := Option.bind_eq_some_iff.mp h
       refine WO.call rfl rfl rfl rfl rfl rfl Try.call10 (l_toEdit_ok (κ := fun b => mp [] 0 (K221 b)) (p0 := p1) hx63) ?_
       rintro _ w228 ⟨k229, rfl, e230⟩
       obtain ⟨K231, S232, m233⟩ := Ent.mixed (l := []) (κ := K221) e230 51 rfl
       refine ⟨((S222.tr S232).cl rfl), ?_⟩
       obtain ⟨x64, hx64, h⟩ := Option.bind_eq_some_iff.mp h
       have f235 := f225.stp S232 rfl rfl
       have f236 := f226.stp S232 rfl rfl
       have f237 := f227.stp S232 rfl rfl
       refine WO.call rfl rfl rfl rfl rfl rfl Try.call11 (i_TurnedBy_ok (κ := fun b => mp [] 0 (K231 b)) (p0 := x61) (p1 := x63) (Sl.map f235.rdc (mp [] 0) rfl rfl) (Sl.map f236.rdc (mp [] 0) rfl rfl) (Sl.map f237.rdc (mp [] 0) rfl rfl) hx64) ?_
       rintro _ w238 ⟨k239, a64_0, u64_0, rfl, e240, f241⟩
       obtain ⟨K242, S243, m244⟩ := Ent.mixed (l := []) (κ := K231) e240 53 rfl
       refine ⟨((S222.tr (S232.tr S243)).cl rfl), ?_⟩
       have f246 := f241.mx (no_int _) m244 rfl (rfl : 53 + 2 = 55)
       refine WO.pn 1 rfl ?_
       refine WO.nx ?_
       refine WO.fin ?_
       refine DN.seq ?_
       refine WC.seq ?_
       refine WC.seq ?_
       refine WC.rs [(0, 2), (1, 2), (2, 1), (3, 2)] rfl ?_
       refine WO.pn 2 rfl ?_
       obtain ⟨x67, hx67, h⟩ := Option.bind_eq_some_iff.mp h
       have f247 := f108.stp (S113.tr (S118.tr (S132.tr (S145.tr (S164.tr (S183.tr (S193.tr (S201.tr (S208.tr (S222.tr (S232.tr S243))))))))))) rfl rfl
       refine WO.call rfl rfl rfl rfl rfl rfl Try.call12 (l_eqInt64S_ok (κ := fun b => mp [] 0 (K242 b)) (Sl.map f246.rdc (mp [] 0) rfl rfl) (Sl.map f247.rdc (mp [] 0) rfl rfl) hx67) ?_
       rintro _ w248 ⟨k249, rfl, e250⟩
       obtain ⟨K251, S252, m253⟩ := Ent.mixed (l := []) (κ := K242) e250 56 rfl
       refine ⟨trivial, ?_⟩
       refine WO.pn 1 rfl ?_
       refine WO.fin ?_
       refine DN.seq ?_
       revert h
       cases ht255 : (!x67) with
       | true =>
        intro h; replace h := cT h
        refine WC.ct rfl ?_
        refine WC.seq ?_
        refine WC.rs [(0, 2)] rfl ?_
        refine WO.pn 1 rfl ?_
        refine WO.fin ?_
        refine DN.seq ?_
        refine WC.ret ?_
        refine DN.retThen ?_
        have f256 := hE.stp (S3.tr (S7.tr (S17.tr (S22.tr (S36.tr (S46.tr (S57.tr (S72.tr (S80.tr (S83.tr (S85.tr (S93.tr (S104.tr (S113.tr (S118.tr (S132.tr (S145.tr (S164.tr (S183.tr (S193.tr (S201.tr (S208.tr (S222.tr (S232.tr (S243.tr S252))))))))))))))))))))))))) rfl rfl
        refine DN.res (l := [.tmp 4]) Try.results3 (res_tmp rfl rfl) rfl ?_
        obtain rfl := Option.some.inj h
        exact ⟨K251, rfl, f256⟩
       | false =>
        intro h; replace h := cF h
        refine WC.cf rfl ?_
        refine WC.skip ?_
        refine DN.seq ?_
        refine WC.seq ?_
        refine WC.rs [(0, 2)] rfl ?_
        refine WO.pn 1 rfl ?_
        refine WO.fin ?_
        refine DN.seq ?_
        refine WC.seq ?_
        refine WC.rs [(0, 2), (1, 2), (2, 1), (3, 2)] rfl ?_
        refine WO.pn 2 rfl ?_
        obtain ⟨x71, hx71, h⟩ := Option.bind_eq_some_iff.mp h
        have f257 := f196.stp (S201.tr (S208.tr (S222.tr (S232.tr (S243.tr S252))))) rfl rfl
        refine WO.call rfl rfl rfl rfl rfl rfl Try.call16 (Ret.cast (by simp only [(hn191), List.cons_append, List.nil_append]) (l_heldInt64S_ok (κ := fun b => mp [] 0 (K251 b)) (Sl.map f257.rdc (mp [] 0) rfl rfl) hx71)) ?_
        rintro _ w258 ⟨k259, rfl, e260⟩
        obtain ⟨K261, S262, m263⟩ := Ent.mixed (l := []) (κ := K251) e260 58 rfl
        refine ⟨trivial, ?_⟩
        refine WO.pn 1 rfl ?_
        refine WO.fin ?_
        refine DN.seq ?_
        refine WC.seq ?_
        refine WC.seq ?_
        refine WC.rs [(0, 2), (1, 2)] rfl ?_
        refine WO.pn 2 rfl ?_
        refine WO.fin ?_
        refine DN.seq ?_
        revert h
        cases ht265 : decide (x71 < 0) with
        | true =>
         intro h; replace h := cT h
         refine WC.ct rfl ?_
         refine WC.seq ?_
         refine WC.rs [(0, 2)] rfl ?_
         refine WO.pn 1 rfl ?_
         refine WO.fin ?_
         refine DN.seq ?_
         refine WC.ret ?_
         refine DN.retThen ?_
         have f266 := hE.stp (S3.tr (S7.tr (S17.tr (S22.tr (S36.tr (S46.tr (S57.tr (S72.tr (S80.tr (S83.tr (S85.tr (S93.tr (S104.tr (S113.tr (S118.tr (S132.tr (S145.tr (S164.tr (S183.tr (S193.tr (S201.tr (S208.tr (S222.tr (S232.tr (S243.tr (S252.tr S262)))))))))))))))))))))))))) rfl rfl
         refine DN.res (l := [.tmp 4]) Try.results3 (res_tmp rfl rfl) rfl ?_
         obtain rfl := Option.some.inj h
         exact ⟨K261, rfl, f266⟩
        | false =>
         intro h; replace h := cF h
         refine WC.cf rfl ?_
         refine WC.skip ?_
         refine DN.seq ?_
         refine WC.seq ?_
         refine WC.seq ?_
         refine WC.rs [(0, 2), (1, 2), (2, 2)] rfl ?_
         refine WO.pn 3 rfl ?_
         refine WO.fin ?_
         refine DN.seq ?_
         revert h
         cases ht267 : (x71 != x51.1) with
         | true =>
          intro h; replace h := cT h
          refine WC.ct rfl ?_
          refine WC.seq ?_
          refine WC.rs [(0, 2)] rfl ?_
          refine WO.pn 1 rfl ?_
          refine WO.fin ?_
          refine DN.seq ?_
          refine WC.ret ?_
          refine DN.retThen ?_
          have f268 := hE.stp (S3.tr (S7.tr (S17.tr (S22.tr (S36.tr (S46.tr (S57.tr (S72.tr (S80.tr (S83.tr (S85.tr (S93.tr (S104.tr (S113.tr (S118.tr (S132.tr (S145.tr (S164.tr (S183.tr (S193.tr (S201.tr (S208.tr (S222.tr (S232.tr (S243.tr (S252.tr S262)))))))))))))))))))))))))) rfl rfl
          refine DN.res (l := [.tmp 4]) Try.results3 (res_tmp rfl rfl) rfl ?_
          obtain rfl := Option.some.inj h
          exact ⟨K261, rfl, f268⟩
         | false =>
          intro h; replace h := cF h
          refine WC.cf rfl ?_
          refine WC.skip ?_
          refine DN.seq ?_
          refine WC.seq ?_
          refine WC.rs [(0, 2)] rfl ?_
          refine WO.pn 1 rfl ?_
          refine WO.fin ?_
          refine DN.seq ?_
          refine WC.ret ?_
          have f269 := hE.stp (S3.tr (S7.tr (S17.tr (S22.tr (S36.tr (S46.tr (S57.tr (S72.tr (S80.tr (S83.tr (S85.tr (S93.tr (S104.tr (S113.tr (S118.tr (S132.tr (S145.tr (S164.tr (S183.tr (S193.tr (S201.tr (S208.tr (S222.tr (S232.tr (S243.tr (S252.tr S262)))))))))))))))))))))))))) rfl rfl
          refine DN.res (l := [.tmp 4]) Try.results3 (res_tmp rfl rfl) rfl ?_
          obtain rfl := Option.some.inj h
          exact ⟨K261, rfl, f269⟩

end Go.Proofs.Ytndiklipffipcaa
