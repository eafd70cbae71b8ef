/- The walks, part 7. By program. -/
import Derived.Test.YtfmkhnlnomkcfaaFnsC86
set_option linter.unusedVariables false
set_option linter.unusedSimpArgs false
namespace Go.Proofs.Ytfmkhnlnomkcfaa
open Go Go.Wk Go.Proofs
set_option maxRecDepth 100000
set_option maxHeartbeats 1000000

/- loop.example/g00869/laws.FnExactCircuitOf -/
theorem l_FnExactCircuitOf_ok {w : World} {κ : Col} {p0 : Sig} {a1_0 : Option Addr} {u1_0 : Nat} {a1_1 : Option Addr} {u1_1 : Nat} {p1 : Machine} (g1_0 : Rd (Rp.sl (Rp.int .i64)) κ w 0 a1_0 u1_0 p1.Next) (g1_1 : Rd (Rp.sl (Rp.int .i64)) κ w 0 a1_1 u1_1 p1.Out) {r : Bool} (h : l_FnExactCircuitOf p0 p1 = some r) : Ret Try.prog 8 [.agg #[.int .i64 p0.In, .int .i64 p0.Out], .agg #[.slice a1_0 p1.Next.length u1_0, .slice a1_1 p1.Out.length u1_1]] w (fun v w' => ∃ (κ' : Col), v = .bool r ∧ Ent κ w κ' w') := by
 unfold l_FnExactCircuitOf at h
 refine Ret.enter Try.func8 rfl Try.ntmps8 rfl ?_
 dsimp only [envOf]
 have hE := Ent.refl κ w
 refine WC.seq ?_
 refine WC.rs [(0, 1), (1, 1), (2, 2)] rfl ?_
 refine WO.box (κ := κ) 2 rfl rfl rfl rfl rfl rfl rfl fun b2 w1 K2 S3 f4 => ⟨trivial, ?_⟩
 refine WO.box (κ := K2) 3 rfl rfl rfl rfl rfl rfl rfl fun b3 w5 K6 S7 f8 => ⟨trivial, ?_⟩
 refine WO.pn 1 rfl ?_
 refine WO.fin ?_
 refine DN.seq ?_
 refine WC.seq ?_
 refine WC.rs [(0, 2)] rfl ?_
 refine WO.pn 1 rfl ?_
 refine WO.fin ?_
 refine DN.seq ?_
 refine WC.seq ?_
 refine WC.rs [(0, 1), (1, 2), (2, 1), (3, 2)] rfl ?_
 refine WO.k1 trivial rfl rfl rfl rfl (rn_la (cs := [.slice a1_0 p1.Next.length u1_0, .slice a1_1 p1.Out.length u1_1]) Try.isAgg64 Try.sizeOf64 rfl rfl rfl (haE f8.cells)) ?_
 refine WO.pn 1 rfl ?_
 obtain ⟨x18, hx18, h⟩ := Option.bind_eq_some_iff.mp h
 have f9 := g1_0.stp (S3.tr S7) rfl rfl
 have f10 := g1_1.stp (S3.tr S7) rfl rfl
 refine WO.call rfl rfl rfl rfl rfl rfl Try.call33 (l_szMachine_ok (κ := fun b => mp [] 0 (K6 b)) (p0 := p1) (Sl.map f9 (mp [] 0) rfl rfl) (Sl.map f10 (mp [] 0) rfl rfl) hx18) ?_
 rintro _ w11 ⟨k12, rfl, e13⟩
 obtain ⟨K14, S15, m16⟩ := Ent.mixed (l := []) (κ := K6) e13 4 rfl
 refine ⟨trivial, ?_⟩
 refine WO.pn 1 rfl ?_
 refine WO.fin ?_
 refine DN.seq ?_
 refine WC.seq ?_
 refine WC.seq ?_
 refine WC.rs [(0, 2), (1, 2)] rfl ?_
 refine WO.pn 2 rfl ?_
 refine WO.fin ?_
 refine DN.seq ?_
 revert h
 cases ht18 : decide (x18 < 0) with
 | true =>
  intro h; replace h := cT h
  refine WC.ct rfl ?_
  refine WC.seq ?_
  refine WC.rs [(0, 2)] rfl ?_
  refine WO.pn 1 rfl ?_
  refine WO.fin ?_
  refine DN.seq ?_
  refine WC.ret ?_
  refine DN.retThen ?_
  have f19 := hE.stp (S3.tr (S7.tr S15)) rfl rfl
  refine DN.res (l := [.tmp 4]) Try.results8 (res_tmp rfl rfl) rfl ?_
  obtain rfl := Option.some.inj h
  exact ⟨K14, rfl, f19⟩
 | false =>
  intro h; replace h := cF h
  refine WC.cf rfl ?_
  refine WC.skip ?_
  refine DN.seq ?_
  refine WC.seq ?_
  obtain ⟨x23, hx23, h⟩ := Option.bind_eq_some_iff.mp h
  obtain ⟨x25, hx25, h⟩ := Option.bind_eq_some_iff.mp h
  obtain ⟨x26, hx26, h⟩ := Option.bind_eq_some_iff.mp h
  refine WC.meet (fun L w' => ∃ (κ' : Col) (b6 : Nat) (lar23_0 : Option Addr) (lur23_0 : Nat) (lar23_1 : Option Addr) (lur23_1 : Nat) (lar23_2 : Option Addr) (lur23_2 : Nat), L = [(2, .pointer (some ⟨b2, 0, none⟩)), (3, .pointer (some ⟨b3, 0, none⟩)), (6, .pointer (some ⟨b6, 0, none⟩)), (7, .bool x26.2)] ∧ Stp [6, 8, 12, 14, 15, 16, 17] K14 w11 κ' w' ∧ Oc (Ep.int .i64) 2 κ' w' 6 lar23_0 lur23_0 x26.1.Next ∧ Oc Gate.ep159 159 κ' w' 7 lar23_1 lur23_1 x26.1.Gates ∧ Oc (Ep.int .i64) 2 κ' w' 8 lar23_2 lur23_2 x26.1.Outs ∧ Bc κ' w' 9 b6 57 [.int .i64 x26.1.Inputs, .int .i64 x26.1.Latches, .slice lar23_0 x26.1.Next.length lur23_0, .slice lar23_1 x26.1.Gates.length lur23_1, .slice lar23_2 x26.1.Outs.length lur23_2]) ?_ ?_
  ·
   refine WC.rxt (κ := K14) [2, 3] none (by kernel_rfl) fun w28 S29 => ?_
   refine WA.seg (fuel := 9) [(0, 0), (2, 0)] (by kernel_rfl) (by kernel_rfl) rfl ?_
   have f30 := f4.stp (S7.tr (S15.tr S29)) rfl rfl
   refine WO.k0 rfl rfl rfl rfl (rn_la (cs := [.int .i64 p0.In, .int .i64 p0.Out]) Try.isAgg44 Try.sizeOf44 rfl rfl rfl (haC f30.cells rfl)) ?_
   have f31 := f8.stp (S15.tr S29) rfl rfl
   refine WO.k0 rfl rfl rfl rfl (rn_la (cs := [.slice a1_0 p1.Next.length u1_0, .slice a1_1 p1.Out.length u1_1]) Try.isAgg64 Try.sizeOf64 rfl rfl rfl (haC f31.cells rfl)) ?_
   refine WO.wa ?_
   refine WA.fork2 (fuel := 8) 1 8 (by kernel_rfl) rfl ?_ ?_
   ·
    refine WO.call rfl rfl rfl rfl rfl rfl Try.call25 (l_toSig_ok (κ := fun b => mp [] 0 (K14 b)) (p0 := p0) hx23) ?_
    rintro _ w32 ⟨k33, rfl, e34⟩
    obtain ⟨K35, S36, m37⟩ := Ent.mixed (l := []) (κ := K14) e34 6 rfl
    refine ⟨(S36.cl rfl), ?_⟩
    refine WO.wa ?_
    refine WA.fork2 (fuel := 7) 3 8 (by kernel_rfl) rfl ?_ ?_
    ·
     have f39 := f9.stp (S15.tr (S29.tr S36)) rfl rfl
     have f40 := f10.stp (S15.tr (S29.tr S36)) rfl rfl
     refine WO.call rfl rfl rfl rfl rfl rfl Try.call35 (l_toMachine_ok (κ := fun b => mp [] 0 (K35 b)) (p0 := p1) (Sl.map f39 (mp [] 0) rfl rfl) (Sl.map f40 (mp [] 0) rfl rfl) hx25) ?_
     rintro _ w41 ⟨k42, a25_0, u25_0, a25_1, u25_1, rfl, e43, f44, f45⟩
     obtain ⟨K46, S47, m48⟩ := Ent.mixed (l := []) (κ := K35) e43 8 rfl
     refine ⟨((S36.tr S47).cl rfl), ?_⟩
     have f50 := f44.mx (no_own (no_int _) _) m48 rfl (rfl : 8 + 2 = 10)
     have f51 := f45.mx (no_own (no_int _) _) m48 rfl (rfl : 8 + 3 = 11)
     refine WO.wa ?_
     refine WA.fork2 (fuel := 6) 4 8 (by kernel_rfl) rfl ?_ ?_
     ·
      refine WO.call rfl rfl rfl rfl rfl rfl Try.call52 (s_CircuitOf_ok (κ := fun b => mp [] 0 (K46 b)) (p0 := x23) (p1 := x25) (Sl.map f50.rdc (mp [] 0) rfl rfl) (Sl.map f51.rdc (mp [] 0) rfl rfl) hx26) ?_
      rintro _ w52 ⟨k53, a26_0, u26_0, a26_1, u26_1, a26_2, u26_2, rfl, e54, f55, f56, f57⟩
      obtain ⟨K58, S59, m60⟩ := Ent.mixed (l := []) (κ := K46) e54 12 rfl
      refine ⟨((S36.tr (S47.tr S59)).cl rfl), ?_⟩
      have f62 := f55.mx (no_int _) m60 rfl (rfl : 12 + 2 = 14)
      have f63 := f56.mx Gate.no159 m60 rfl (rfl : 12 + 3 = 15)
      have f64 := f57.mx (no_int _) m60 rfl (rfl : 12 + 4 = 16)
      refine WO.wa ?_
      refine WA.seg (fuel := 0) [(5, 2), (6, 2), (7, 2), (8, 1), (9, 1), (10, 2)] (by kernel_rfl) (by kernel_rfl) rfl ?_
      refine WO.pn 3 rfl ?_
      refine WO.alloc (κ := K58) 17 rfl rfl rfl rfl rfl Try.zeroValue57 rfl fun b6 w65 K66 S67 f68 => ⟨((S36.tr (S47.tr (S59.tr S67))).cl rfl), ?_⟩
      refine WO.stB0 (κ := K66) 17 (vc := [.int .i64 x26.1.Inputs, .int .i64 x26.1.Latches, .slice a26_0 x26.1.Next.length u26_0, .slice a26_1 x26.1.Gates.length u26_1, .slice a26_2 x26.1.Outs.length u26_2]) rfl rfl rfl rfl rfl rfl rfl Try.sizeOf57 rfl rfl f68 rfl fun w69 S70 f71 => ⟨((S36.tr (S47.tr (S59.tr (S67.tr S70)))).cl rfl), ?_⟩
      refine WO.pn 1 rfl ?_
      refine WO.wa ?_
      refine WA.last [] (by kernel_rfl) (by kernel_rfl) rfl ?_
      refine WO.fin ?_
      have f72 := f62.stp (S67.tr S70) rfl rfl
      have f73 := f63.stp (S67.tr S70) rfl rfl
      have f74 := f64.stp (S67.tr S70) rfl rfl
      exact DN.meet _ ⟨(fun b => ren [(14, 6), (15, 7), (16, 8), (17, 9)] (K66 b)), b6, a26_0, u26_0, a26_1, u26_1, a26_2, u26_2, rfl, (Stp.ren ((S29.tr (S36.tr (S47.tr (S59.tr (S67.tr S70))))).wk rfl) [(14, 6), (15, 7), (16, 8), (17, 9)] rfl), (f72.map (ren [(14, 6), (15, 7), (16, 8), (17, 9)]) rfl rfl), (f73.map (ren [(14, 6), (15, 7), (16, 8), (17, 9)]) rfl rfl), (f74.map (ren [(14, 6), (15, 7), (16, 8), (17, 9)]) rfl rfl), (f71.map (ren [(14, 6), (15, 7), (16, 8), (17, 9)]) rfl rfl)⟩ fun a ha => (ha.more (ha.more (ha.more (ha.more ha.nil rfl) rfl) rfl) rfl)
     ·
      refine WO.alloc (κ := K46) 12 rfl rfl rfl rfl rfl Try.zeroValue57 rfl fun b6 w75 K76 S77 f78 => ⟨((S36.tr (S47.tr S77)).cl rfl), ?_⟩
      refine WO.wa ?_
      refine WA.seg (fuel := 0) [(4, 1), (5, 2), (6, 2), (7, 2), (9, 1), (10, 2)] (by kernel_rfl) (by kernel_rfl) rfl ?_
      have f79 := f50.stp S77 rfl rfl
      have f80 := f51.stp S77 rfl rfl
      refine WO.call rfl rfl rfl rfl rfl rfl Try.call52 (s_CircuitOf_ok (κ := fun b => mp [] 0 (K76 b)) (p0 := x23) (p1 := x25) (Sl.map f79.rdc (mp [] 0) rfl rfl) (Sl.map f80.rdc (mp [] 0) rfl rfl) hx26) ?_
      rintro _ w81 ⟨k82, a26_0, u26_0, a26_1, u26_1, a26_2, u26_2, rfl, e83, f84, f85, f86⟩
      obtain ⟨K87, S88, m89⟩ := Ent.mixed (l := []) (κ := K76) e83 13 rfl
      refine ⟨((S36.tr (S47.tr (S77.tr S88))).cl rfl), ?_⟩
      have f91 := f84.mx (no_int _) m89 rfl (rfl : 13 + 2 = 15)
      have f92 := f85.mx Gate.no159 m89 rfl (rfl : 13 + 3 = 16)
      have f93 := f86.mx (no_int _) m89 rfl (rfl : 13 + 4 = 17)
      refine WO.pn 3 rfl ?_
      have f94 := f78.stp S88 rfl rfl
      refine WO.stB0 (κ := K87) 12 (vc := [.int .i64 x26.1.Inputs, .int .i64 x26.1.Latches, .slice a26_0 x26.1.Next.length u26_0, .slice a26_1 x26.1.Gates.length u26_1, .slice a26_2 x26.1.Outs.length u26_2]) rfl rfl rfl rfl rfl rfl rfl Try.sizeOf57 rfl rfl f94 rfl fun w95 S96 f97 => ⟨((S36.tr (S47.tr (S77.tr (S88.tr S96)))).cl rfl), ?_⟩
      refine WO.pn 1 rfl ?_
      refine WO.wa ?_
      refine WA.last [] (by kernel_rfl) (by kernel_rfl) rfl ?_
      refine WO.fin ?_
      have f98 := f91.stp S96 rfl rfl
      have f99 := f92.stp S96 rfl rfl
      have f100 := f93.stp S96 rfl rfl
      exact DN.meet _ ⟨(fun b => ren [(15, 6), (16, 7), (17, 8), (12, 9)] (K87 b)), b6, a26_0, u26_0, a26_1, u26_1, a26_2, u26_2, rfl, (Stp.ren ((S29.tr (S36.tr (S47.tr (S77.tr (S88.tr S96))))).wk rfl) [(15, 6), (16, 7), (17, 8), (12, 9)] rfl), (f98.map (ren [(15, 6), (16, 7), (17, 8), (12, 9)]) rfl rfl), (f99.map (ren [(15, 6), (16, 7), (17, 8), (12, 9)]) rfl rfl), (f100.map (ren [(15, 6), (16, 7), (17, 8), (12, 9)]) rfl rfl), (f97.map (ren [(15, 6), (16, 7), (17, 8), (12, 9)]) rfl rfl)⟩ fun a ha => (ha.more (ha.more (ha.more (ha.more ha.nil rfl) rfl) rfl) rfl)
    ·
     refine WO.alloc (κ := K35) 8 rfl rfl rfl rfl rfl Try.zeroValue57 rfl fun b6 w101 K102 S103 f104 => ⟨((S36.tr S103).cl rfl), ?_⟩
     refine WO.wa ?_
     refine WA.seg (fuel := 0) [(3, 1), (4, 1), (5, 2), (6, 2), (7, 2), (9, 1), (10, 2)] (by kernel_rfl) (by kernel_rfl) rfl ?_
     have f105 := f9.stp (S15.tr (S29.tr (S36.tr S103))) rfl rfl
     have f106 := f10.stp (S15.tr (S29.tr (S36.tr S103))) rfl rfl
     refine WO.call rfl rfl rfl rfl rfl rfl Try.call35 (l_toMachine_ok (κ := fun b => mp [] 0 (K102 b)) (p0 := p1) (Sl.map f105 (mp [] 0) rfl rfl) (Sl.map f106 (mp [] 0) rfl rfl) hx25) ?_
     rintro _ w107 ⟨k108, a25_0, u25_0, a25_1, u25_1, rfl, e109, f110, f111⟩
     obtain ⟨K112, S113, m114⟩ := Ent.mixed (l := []) (κ := K102) e109 9 rfl
     refine ⟨((S36.tr (S103.tr S113)).cl rfl), ?_⟩
     have f116 := f110.mx (no_own (no_int _) _) m114 rfl (rfl : 9 + 2 = 11)
     have f117 := f111.mx (no_own (no_int _) _) m114 rfl (rfl : 9 + 3 = 12)
     refine WO.call rfl rfl rfl rfl rfl rfl Try.call52 (s_CircuitOf_ok (κ := fun b => mp [] 0 (K112 b)) (p0 := x23) (p1 := x25) (Sl.map f116.rdc (mp [] 0) rfl rfl) (Sl.map f117.rdc (mp [] 0) rfl rfl) hx26) ?_
     rintro _ w118 ⟨k119, a26_0, u26_0, a26_1, u26_1, a26_2, u26_2, rfl, e120, f121, f122, f123⟩
     obtain ⟨K124, S125, m126⟩ := Ent.mixed (l := []) (κ := K112) e120 13 rfl
     refine ⟨((S36.tr (S103.tr (S113.tr S125))).cl rfl), ?_⟩
     have f128 := f121.mx (no_int _) m126 rfl (rfl : 13 + 2 = 15)
     have f129 := f122.mx Gate.no159 m126 rfl (rfl : 13 + 3 = 16)
     have f130 := f123.mx (no_int _) m126 rfl (rfl : 13 + 4 = 17)
     refine WO.pn 3 rfl ?_
     have f131 := f104.stp (S113.tr S125) rfl rfl
     refine WO.stB0 (κ := K124) 8 (vc := [.int .i64 x26.1.Inputs, .int .i64 x26.1.Latches, .slice a26_0 x26.1.Next.length u26_0, .slice a26_1 x26.1.Gates.length u26_1, .slice a26_2 x26.1.Outs.length u26_2]) rfl rfl rfl rfl rfl rfl rfl Try.sizeOf57 rfl rfl f131 rfl fun w132 S133 f134 => ⟨((S36.tr (S103.tr (S113.tr (S125.tr S133)))).cl rfl), ?_⟩
     refine WO.pn 1 rfl ?_
     refine WO.wa ?_
     refine WA.last [] (by kernel_rfl) (by kernel_rfl) rfl ?_
     refine WO.fin ?_
     have f135 := f128.stp S133 rfl rfl
     have f136 := f129.stp S133 rfl rfl
     have f137 := f130.stp S133 rfl rfl
     exact DN.meet _ ⟨(fun b => ren [(15, 6), (16, 7), (17, 8), (8, 9)] (K124 b)), b6, a26_0, u26_0, a26_1, u26_1, a26_2, u26_2, rfl, (Stp.ren ((S29.tr (S36.tr (S103.tr (S113.tr (S125.tr S133))))).wk rfl) [(15, 6), (16, 7), (17, 8), (8, 9)] rfl), (f135.map (ren [(15, 6), (16, 7), (17, 8), (8, 9)]) rfl rfl), (f136.map (ren [(15, 6), (16, 7), (17, 8), (8, 9)]) rfl rfl), (f137.map (ren [(15, 6), (16, 7), (17, 8), (8, 9)]) rfl rfl), (f134.map (ren [(15, 6), (16, 7), (17, 8), (8, 9)]) rfl rfl)⟩ fun a ha => (ha.more (ha.more (ha.more (ha.more ha.nil rfl) rfl) rfl) rfl)
   ·
    refine WO.alloc (κ := K14) 6 rfl rfl rfl rfl rfl Try.zeroValue57 rfl fun b6 w138 K139 S140 f141 => ⟨(S140.cl rfl), ?_⟩
    refine WO.wa ?_
    refine WA.seg (fuel := 0) [(1, 1), (3, 1), (4, 1), (5, 2), (6, 2), (7, 2), (9, 1), (10, 2)] (by kernel_rfl) (by kernel_rfl) rfl ?_
    refine WO.call rfl rfl rfl rfl rfl rfl Try.call25 (l_toSig_ok (κ := fun b => mp [] 0 (K139 b)) (p0 := p0) hx23) ?_
    rintro _ w142 ⟨k143, rfl, e144⟩
    obtain ⟨K145, S146, m147⟩ := Ent.mixed (l := []) (κ := K139) e144 7 rfl
    refine ⟨((S140.tr S146).cl rfl), ?_⟩
    have f149 := f9.stp (S15.tr (S29.tr (S140.tr S146))) rfl rfl
    have f150 := f10.stp (S15.tr (S29.tr (S140.tr S146))) rfl rfl
    refine WO.call rfl rfl rfl rfl rfl rfl Try.call35 (l_toMachine_ok (κ := fun b => mp [] 0 (K145 b)) (p0 := p1) (Sl.map f149 (mp [] 0) rfl rfl) (Sl.map f150 (mp [] 0) rfl rfl) hx25) ?_
    rintro _ w151 ⟨k152, a25_0, u25_0, a25_1, u25_1, rfl, e153, f154, f155⟩
    obtain ⟨K156, S157, m158⟩ := Ent.mixed (l := []) (κ := K145) e153 9 rfl
    refine ⟨((S140.tr (S146.tr S157)).cl rfl), ?_⟩
    have f160 := f154.mx (no_own (no_int _) _) m158 rfl (rfl : 9 + 2 = 11)
    have f161 := f155.mx (no_own (no_int _) _) m158 rfl (rfl : 9 + 3 = 12)
    refine WO.call rfl rfl rfl rfl rfl rfl Try.call52 (s_CircuitOf_ok (κ := fun b => mp [] 0 (K156 b)) (p0 := x23) (p1 := x25) (Sl.map f160.rdc (mp [] 0) rfl rfl) (Sl.map f161.rdc (mp [] 0) rfl rfl) hx26) ?_
    rintro _ w162 ⟨k163, a26_0, u26_0, a26_1, u26_1, a26_2, u26_2, rfl, e164, f165, f166, f167⟩
    obtain ⟨K168, S169, m170⟩ := Ent.mixed (l := []) (κ := K156) e164 13 rfl
    refine ⟨((S140.tr (S146.tr (S157.tr S169))).cl rfl), ?_⟩
    have f172 := f165.mx (no_int _) m170 rfl (rfl : 13 + 2 = 15)
    have f173 := f166.mx Gate.no159 m170 rfl (rfl : 13 + 3 = 16)
    have f174 := f167.mx (no_int _) m170 rfl (rfl : 13 + 4 = 17)
    refine WO.pn 3 rfl ?_
    have f175 := f141.stp (S146.tr (S157.tr S169)) rfl rfl
    refine WO.stB0 (κ := K168) 6 (vc := [.int .i64 x26.1.Inputs, .int .i64 x26.1.Latches, .slice a26_0 x26.1.Next.length u26_0, .slice a26_1 x26.1.Gates.length u26_1, .slice a26_2 x26.1.Outs.length u26_2]) rfl rfl rfl rfl rfl rfl rfl Try.sizeOf57 rfl rfl f175 rfl fun w176 S177 f178 => ⟨((S140.tr (S146.tr (S157.tr (S169.tr S177)))).cl rfl), ?_⟩
    refine WO.pn 1 rfl ?_
    refine WO.wa ?_
    refine WA.last [] (by kernel_rfl) (by kernel_rfl) rfl ?_
    refine WO.fin ?_
    have f179 := f172.stp S177 rfl rfl
    have f180 := f173.stp S177 rfl rfl
    have f181 := f174.stp S177 rfl rfl
    exact DN.meet _ ⟨(fun b => ren [(15, 6), (16, 7), (17, 8), (6, 9)] (K168 b)), b6, a26_0, u26_0, a26_1, u26_1, a26_2, u26_2, rfl, (Stp.ren ((S29.tr (S140.tr (S146.tr (S157.tr (S169.tr S177))))).wk rfl) [(15, 6), (16, 7), (17, 8), (6, 9)] rfl), (f179.map (ren [(15, 6), (16, 7), (17, 8), (6, 9)]) rfl rfl), (f180.map (ren [(15, 6), (16, 7), (17, 8), (6, 9)]) rfl rfl), (f181.map (ren [(15, 6), (16, 7), (17, 8), (6, 9)]) rfl rfl), (f178.map (ren [(15, 6), (16, 7), (17, 8), (6, 9)]) rfl rfl)⟩ fun a ha => (ha.more (ha.more (ha.more (ha.more ha.nil rfl) rfl) rfl) rfl)
  rintro _ w20 ⟨K21, b6, lar23_0, lur23_0, lar23_1, lur23_1, lar23_2, lur23_2, rfl, S22, f24, f25, f26, f27⟩
  refine DN.seq ?_
  refine WC.seq ?_
  refine WC.rs [(0, 1), (1, 1), (2, 1), (3, 1)] rfl ?_
  have f182 := f8.stp (S15.tr S22) rfl rfl
  refine WO.k1 trivial rfl rfl rfl rfl (rn_la (cs := [.slice a1_0 p1.Next.length u1_0, .slice a1_1 p1.Out.length u1_1]) Try.isAgg64 Try.sizeOf64 rfl rfl rfl (haE f182.cells)) ?_
  obtain ⟨x30, hx30, h⟩ := Option.bind_eq_some_iff.mp h
  have f183 := f9.stp (S15.tr S22) rfl rfl
  have f184 := f10.stp (S15.tr S22) rfl rfl
  refine WO.call rfl rfl rfl rfl rfl rfl Try.call35 (l_toMachine_ok (κ := fun b => mp [] 0 (K21 b)) (p0 := p1) (Sl.map f183 (mp [] 0) rfl rfl) (Sl.map f184 (mp [] 0) rfl rfl) hx30) ?_
  rintro _ w185 ⟨k186, a30_0, u30_0, a30_1, u30_1, rfl, e187, f188, f189⟩
  obtain ⟨K190, S191, m192⟩ := Ent.mixed (l := []) (κ := K21) e187 10 rfl
  refine ⟨trivial, ?_⟩
  have f194 := f188.mx (no_own (no_int _) _) m192 rfl (rfl : 10 + 2 = 12)
  have f195 := f189.mx (no_own (no_int _) _) m192 rfl (rfl : 10 + 3 = 13)
  refine WO.alloc (κ := K190) 14 rfl rfl rfl rfl rfl Try.zeroValue50 rfl fun b8 w196 K197 S198 f199 => ⟨trivial, ?_⟩
  refine WO.stB0 (κ := K197) 14 (vc := [.slice a30_0 x30.Next.length u30_0, .slice a30_1 x30.Out.length u30_1]) rfl rfl rfl rfl rfl rfl rfl Try.sizeOf50 rfl rfl f199 rfl fun w200 S201 f202 => ⟨trivial, ?_⟩
  refine WO.fin ?_
  refine DN.seq ?_
  refine WC.seq ?_
  obtain ⟨x33, hx33, h⟩ := Option.bind_eq_some_iff.mp h
  obtain ⟨x35, hx35, h⟩ := Option.bind_eq_some_iff.mp h
  refine WC.meet (fun L w' => ∃ (κ' : Col) (b9 : Nat) (lar206_0 : Option Addr) (lur206_0 : Nat) (lar206_1 : Option Addr) (lur206_1 : Nat) (lar206_2 : Option Addr) (lur206_2 : Nat), L = [(2, .pointer (some ⟨b2, 0, none⟩)), (3, .pointer (some ⟨b3, 0, none⟩)), (6, .pointer (some ⟨b6, 0, none⟩)), (7, .bool x26.2), (8, .pointer (some ⟨b8, 0, none⟩)), (9, .pointer (some ⟨b9, 0, none⟩)), (10, .bool x35.2)] ∧ Stp [15, 17, 19, 20, 21, 22] K197 w200 κ' w' ∧ Oc (Ep.int .i64) 2 κ' w' 15 lar206_0 lur206_0 x35.1.Next ∧ Oc Gate.ep159 159 κ' w' 16 lar206_1 lur206_1 x35.1.Gates ∧ Oc (Ep.int .i64) 2 κ' w' 17 lar206_2 lur206_2 x35.1.Outs ∧ Bc κ' w' 18 b9 57 [.int .i64 x35.1.Inputs, .int .i64 x35.1.Latches, .slice lar206_0 x35.1.Next.length lur206_0, .slice lar206_1 x35.1.Gates.length lur206_1, .slice lar206_2 x35.1.Outs.length lur206_2]) ?_ ?_
  ·
   refine WC.rxt (κ := K197) [2, 14] none (by kernel_rfl) fun w211 S212 => ?_
   refine WA.seg (fuel := 8) [(0, 0), (2, 0)] (by kernel_rfl) (by kernel_rfl) rfl ?_
   have f213 := f4.stp (S7.tr (S15.tr (S22.tr (S191.tr (S198.tr (S201.tr S212)))))) rfl rfl
   refine WO.k0 rfl rfl rfl rfl (rn_la (cs := [.int .i64 p0.In, .int .i64 p0.Out]) Try.isAgg44 Try.sizeOf44 rfl rfl rfl (haC f213.cells rfl)) ?_
   have f214 := f202.stp S212 rfl rfl
   refine WO.k0 rfl rfl rfl rfl (rn_la (cs := [.slice a30_0 x30.Next.length u30_0, .slice a30_1 x30.Out.length u30_1]) Try.isAgg50 Try.sizeOf50 rfl rfl rfl (haC f214.cells rfl)) ?_
   refine WO.wa ?_
   refine WA.fork2 (fuel := 7) 1 7 (by kernel_rfl) rfl ?_ ?_
   ·
    refine WO.call rfl rfl rfl rfl rfl rfl Try.call25 (l_toSig_ok (κ := fun b => mp [] 0 (K197 b)) (p0 := p0) hx33) ?_
    rintro _ w215 ⟨k216, rfl, e217⟩
    obtain ⟨K218, S219, m220⟩ := Ent.mixed (l := []) (κ := K197) e217 15 rfl
    refine ⟨(S219.cl rfl), ?_⟩
    refine WO.wa ?_
    refine WA.fork2 (fuel := 6) 3 7 (by kernel_rfl) rfl ?_ ?_
    ·
     have f222 := f194.stp (S198.tr (S201.tr (S212.tr S219))) rfl rfl
     have f223 := f195.stp (S198.tr (S201.tr (S212.tr S219))) rfl rfl
     refine WO.call rfl rfl rfl rfl rfl rfl Try.call53 (i_CircuitOf_ok (κ := fun b => mp [] 0 (K218 b)) (p0 := x33) (p1 := x30) (Sl.map f222.rdc (mp [] 0) rfl rfl) (Sl.map f223.rdc (mp [] 0) rfl rfl) hx35) ?_
     rintro _ w224 ⟨k225, a35_0, u35_0, a35_1, u35_1, a35_2, u35_2, rfl, e226, f227, f228, f229⟩
     obtain ⟨K230, S231, m232⟩ := Ent.mixed (l := []) (κ := K218) e226 17 rfl
     refine ⟨((S219.tr S231).cl rfl), ?_⟩
     have f234 := f227.mx (no_int _) m232 rfl (rfl : 17 + 2 = 19)
     have f235 := f228.mx Gate.no159 m232 rfl (rfl : 17 + 3 = 20)
     have f236 := f229.mx (no_int _) m232 rfl (rfl : 17 + 4 = 21)
     refine WO.wa ?_
     refine WA.seg (fuel := 0) [(4, 2), (5, 2), (6, 2), (7, 1), (8, 1), (9, 2)] (by kernel_rfl) (by kernel_rfl) rfl ?_
     refine WO.pn 3 rfl ?_
     refine WO.alloc (κ := K230) 22 rfl rfl rfl rfl rfl Try.zeroValue57 rfl fun b9 w237 K238 S239 f240 => ⟨((S219.tr (S231.tr S239)).cl rfl), ?_⟩
     refine WO.stB0 (κ := K238) 22 (vc := [.int .i64 x35.1.Inputs, .int .i64 x35.1.Latches, .slice a35_0 x35.1.Next.length u35_0, .slice a35_1 x35.1.Gates.length u35_1, .slice a35_2 x35.1.Outs.length u35_2]) rfl rfl rfl rfl rfl rfl rfl Try.sizeOf57 rfl rfl f240 rfl fun w241 S242 f243 => ⟨((S219.tr (S231.tr (S239.tr S242))).cl rfl), ?_⟩
     refine WO.pn 1 rfl ?_
     refine WO.wa ?_
     refine WA.last [] (by kernel_rfl) (by kernel_rfl) rfl ?_
     refine WO.fin ?_
     have f244 := f234.stp (S239.tr S242) rfl rfl
     have f245 := f235.stp (S239.tr S242) rfl rfl
     have f246 := f236.stp (S239.tr S242) rfl rfl
     exact DN.meet _ ⟨(fun b => ren [(19, 15), (20, 16), (21, 17), (22, 18)] (K238 b)), b9, a35_0, u35_0, a35_1, u35_1, a35_2, u35_2, rfl, (Stp.ren ((S212.tr (S219.tr (S231.tr (S239.tr S242)))).wk rfl) [(19, 15), (20, 16), (21, 17), (22, 18)] rfl), (f244.map (ren [(19, 15), (20, 16), (21, 17), (22, 18)]) rfl rfl), (f245.map (ren [(19, 15), (20, 16), (21, 17), (22, 18)]) rfl rfl), (f246.map (ren [(19, 15), (20, 16), (21, 17), (22, 18)]) rfl rfl), (f243.map (ren [(19, 15), (20, 16), (21, 17), (22, 18)]) rfl rfl)⟩ fun a ha => (ha.more (ha.more (ha.more (ha.more (ha.more (ha.more (ha.more ha.nil rfl) rfl) rfl) rfl) rfl) rfl) rfl)
    ·
     refine WO.alloc (κ := K218) 17 rfl rfl rfl rfl rfl Try.zeroValue57 rfl fun b9 w247 K248 S249 f250 => ⟨((S219.tr S249).cl rfl), ?_⟩
     refine WO.wa ?_
     refine WA.seg (fuel := 0) [(3, 1), (4, 2), (5, 2), (6, 2), (8, 1), (9, 2)] (by kernel_rfl) (by kernel_rfl) rfl ?_
     have f251 := f194.stp (S198.tr (S201.tr (S212.tr (S219.tr S249)))) rfl rfl
     have f252 := f195.stp (S198.tr (S201.tr (S212.tr (S219.tr S249)))) rfl rfl
     refine WO.call rfl rfl rfl rfl rfl rfl Try.call53 (i_CircuitOf_ok (κ := fun b => mp [] 0 (K248 b)) (p0 := x33) (p1 := x30) (Sl.map f251.rdc (mp [] 0) rfl rfl) (Sl.map f252.rdc (mp [] 0) rfl rfl) hx35) ?_
     rintro _ w253 ⟨k254, a35_0, u35_0, a35_1, u35_1, a35_2, u35_2, rfl, e255, f256, f257, f258⟩
     obtain ⟨K259, S260, m261⟩ := Ent.mixed (l := []) (κ := K248) e255 18 rfl
     refine ⟨((S219.tr (S249.tr S260)).cl rfl), ?_⟩
     have f263 := f256.mx (no_int _) m261 rfl (rfl : 18 + 2 = 20)
     have f264 := f257.mx Gate.no159 m261 rfl (rfl : 18 + 3 = 21)
     have f265 := f258.mx (no_int _) m261 rfl (rfl : 18 + 4 = 22)
     refine WO.pn 3 rfl ?_
     have f266 := f250.stp S260 rfl rfl
     refine WO.stB0 (κ := K259) 17 (vc := [.int .i64 x35.1.Inputs, .int .i64 x35.1.Latches, .slice a35_0 x35.1.Next.length u35_0, .slice a35_1 x35.1.Gates.length u35_1, .slice a35_2 x35.1.Outs.length u35_2]) rfl rfl rfl rfl rfl rfl rfl Try.sizeOf57 rfl rfl f266 rfl fun w267 S268 f269 => ⟨((S219.tr (S249.tr (S260.tr S268))).cl rfl), ?_⟩
     refine WO.pn 1 rfl ?_
     refine WO.wa ?_
     refine WA.last [] (by kernel_rfl) (by kernel_rfl) rfl ?_
     refine WO.fin ?_
     have f270 := f263.stp S268 rfl rfl
     have f271 := f264.stp S268 rfl rfl
     have f272 := f265.stp S268 rfl rfl
     exact DN.meet _ ⟨(fun b => ren [(20, 15), (21, 16), (22, 17), (17, 18)] (K259 b)), b9, a35_0, u35_0, a35_1, u35_1, a35_2, u35_2, rfl, (Stp.ren ((S212.tr (S219.tr (S249.tr (S260.tr S268)))).wk rfl) [(20, 15), (21, 16), (22, 17), (17, 18)] rfl), (f270.map (ren [(20, 15), (21, 16), (22, 17), (17, 18)]) rfl rfl), (f271.map (ren [(20, 15), (21, 16), (22, 17), (17, 18)]) rfl rfl), (f272.map (ren [(20, 15), (21, 16), (22, 17), (17, 18)]) rfl rfl), (f269.map (ren [(20, 15), (21, 16), (22, 17), (17, 18)]) rfl rfl)⟩ fun a ha => (ha.more (ha.more (ha.more (ha.more (ha.more (ha.more (ha.more ha.nil rfl) rfl) rfl) rfl) rfl) rfl) rfl)
   ·
    refine WO.alloc (κ := K197) 15 rfl rfl rfl rfl rfl Try.zeroValue57 rfl fun b9 w273 K274 S275 f276 => ⟨(S275.cl rfl), ?_⟩
    refine WO.wa ?_
    refine WA.seg (fuel := 0) [(1, 1), (3, 1), (4, 2), (5, 2), (6, 2), (8, 1), (9, 2)] (by kernel_rfl) (by kernel_rfl) rfl ?_
    refine WO.call rfl rfl rfl rfl rfl rfl Try.call25 (l_toSig_ok (κ := fun b => mp [] 0 (K274 b)) (p0 := p0) hx33) ?_
    rintro _ w277 ⟨k278, rfl, e279⟩
    obtain ⟨K280, S281, m282⟩ := Ent.mixed (l := []) (κ := K274) e279 16 rfl
    refine ⟨((S275.tr S281).cl rfl), ?_⟩
    have f284 := f194.stp (S198.tr (S201.tr (S212.tr (S275.tr S281)))) rfl rfl
    have f285 := f195.stp (S198.tr (S201.tr (S212.tr (S275.tr S281)))) rfl rfl
    refine WO.call rfl rfl rfl rfl rfl rfl Try.call53 (i_CircuitOf_ok (κ := fun b => mp [] 0 (K280 b)) (p0 := x33) (p1 := x30) (Sl.map f284.rdc (mp [] 0) rfl rfl) (Sl.map f285.rdc (mp [] 0) rfl rfl) hx35) ?_
    rintro _ w286 ⟨k287, a35_0, u35_0, a35_1, u35_1, a35_2, u35_2, rfl, e288, f289, f290, f291⟩
    obtain ⟨K292, S293, m294⟩ := Ent.mixed (l := []) (κ := K280) e288 18 rfl
    refine ⟨((S275.tr (S281.tr S293)).cl rfl), ?_⟩
    have f296 := f289.mx (no_int _) m294 rfl (rfl : 18 + 2 = 20)
    have f297 := f290.mx Gate.no159 m294 rfl (rfl : 18 + 3 = 21)
    have f298 := f291.mx (no_int _) m294 rfl (rfl : 18 + 4 = 22)
    refine WO.pn 3 rfl ?_
    have f299 := f276.stp (S281.tr S293) rfl rfl
    refine WO.stB0 (κ := K292) 15 (vc := [.int .i64 x35.1.Inputs, .int .i64 x35.1.Latches, .slice a35_0 x35.1.Next.length u35_0, .slice a35_1 x35.1.Gates.length u35_1, .slice a35_2 x35.1.Outs.length u35_2]) rfl rfl rfl rfl rfl rfl rfl Try.sizeOf57 rfl rfl f299 rfl fun w300 S301 f302 => ⟨((S275.tr (S281.tr (S293.tr S301))).cl rfl), ?_⟩
    refine WO.pn 1 rfl ?_
    refine WO.wa ?_
    refine WA.last [] (by kernel_rfl) (by kernel_rfl) rfl ?_
    refine WO.fin ?_
    have f303 := f296.stp S301 rfl rfl
    have f304 := f297.stp S301 rfl rfl
    have f305 := f298.stp S301 rfl rfl
    exact DN.meet _ ⟨(fun b => ren [(20, 15), (21, 16), (22, 17), (15, 18)] (K292 b)), b9, a35_0, u35_0, a35_1, u35_1, a35_2, u35_2, rfl, (Stp.ren ((S212.tr (S275.tr (S281.tr (S293.tr S301)))).wk rfl) [(20, 15), (21, 16), (22, 17), (15, 18)] rfl), (f303.map (ren [(20, 15), (21, 16), (22, 17), (15, 18)]) rfl rfl), (f304.map (ren [(20, 15), (21, 16), (22, 17), (15, 18)]) rfl rfl), (f305.map (ren [(20, 15), (21, 16), (22, 17), (15, 18)]) rfl rfl), (f302.map (ren [(20, 15), (21, 16), (22, 17), (15, 18)]) rfl rfl)⟩ fun a ha => (ha.more (ha.more (ha.more (ha.more (ha.more (ha.more (ha.more ha.nil rfl) rfl) rfl) rfl) rfl) rfl) rfl)
  rintro _ w203 ⟨K204, b9, lar206_0, lur206_0, lar206_1, lur206_1, lar206_2, lur206_2, rfl, S205, f207, f208, f209, f210⟩
  refine DN.seq ?_
  refine WC.seq ?_
  refine WC.seq ?_
  refine WC.rs [(0, 1), (1, 1), (2, 1), (3, 2), (4, 2), (5, 2), (6, 2), (7, 2), (8, 2)] rfl ?_
  refine WO.k1 trivial rfl rfl rfl rfl (rn_la (cs := [.int .i64 x35.1.Inputs, .int .i64 x35.1.Latches, .slice lar206_0 x35.1.Next.length lur206_0, .slice lar206_1 x35.1.Gates.length lur206_1, .slice lar206_2 x35.1.Outs.length lur206_2]) Try.isAgg57 Try.sizeOf57 rfl rfl rfl (haE f210.cells)) ?_
  have f306 := f27.stp (S191.tr (S198.tr (S201.tr S205))) rfl rfl
  refine WO.k1 trivial rfl rfl rfl rfl (rn_la (cs := [.int .i64 x26.1.Inputs, .int .i64 x26.1.Latches, .slice lar23_0 x26.1.Next.length lur23_0, .slice lar23_1 x26.1.Gates.length lur23_1, .slice lar23_2 x26.1.Outs.length lur23_2]) Try.isAgg57 Try.sizeOf57 rfl rfl rfl (haE f306.cells)) ?_
  obtain ⟨x40, hx40, h⟩ := Option.bind_eq_some_iff.mp h
  have f307 := f24.stp (S191.tr (S198.tr (S201.tr S205))) rfl rfl
  have f308 := f25.stp (S191.tr (S198.tr (S201.tr S205))) rfl rfl
  have f309 := f26.stp (S191.tr (S198.tr (S201.tr S205))) rfl rfl
  refine WO.call rfl rfl rfl rfl rfl rfl Try.call29 (l_eqCircuit_ok (κ := fun b => mp [] 0 (K204 b)) (p0 := x35.1) (p1 := x26.1) (Sl.map f207.rdc (mp [] 0) rfl rfl) (Sl.map f208.rdc (mp [] 0) rfl rfl) (Sl.map f209.rdc (mp [] 0) rfl rfl) (Sl.map f307.rdc (mp [] 0) rfl rfl) (Sl.map f308.rdc (mp [] 0) rfl rfl) (Sl.map f309.rdc (mp [] 0) rfl rfl) hx40) ?_
  rintro _ w310 ⟨k311, rfl, e312⟩
  obtain ⟨K313, S314, m315⟩ := Ent.mixed (l := []) (κ := K204) e312 19 rfl
  refine ⟨trivial, ?_⟩
  refine WO.pn 2 rfl ?_
  obtain ⟨p46, h, hK317⟩ := Option.bind_eq_some_iff.mp h
  refine WO.meet [(5, 2), (6, 2), (7, 2), (8, 2)] [] (fun L w' => L = [(2, .pointer (some ⟨b2, 0, none⟩)), (3, .pointer (some ⟨b3, 0, none⟩)), (6, .pointer (some ⟨b6, 0, none⟩)), (7, .bool x26.2), (8, .pointer (some ⟨b8, 0, none⟩)), (9, .pointer (some ⟨b9, 0, none⟩)), (10, .bool x35.2), (46, .bool p46)] ∧ ∃ κ', Stp [] K313 w310 κ' w') trivial ?_ ?_
  ·
   revert h
   cases ht318 : (!x40) with
   | true =>
    intro h; replace h := cT h
    refine WO.pn 4 rfl ?_
    obtain rfl := Option.some.inj h
    exact WO.met _ trivial ⟨rfl, _, (Stp.refl _ _).wk rfl⟩ fun a ha => (ha.more (ha.more (ha.more (ha.more (ha.more (ha.more (ha.more (ha.more ha.nil rfl) rfl) rfl) rfl) rfl) rfl) rfl) rfl)
   | false =>
    intro h; replace h := cF h
    refine WO.pn 2 rfl ?_
    refine WO.k2 rfl rfl rfl rfl (rn_neqB rfl rfl Try.runUnderlying4 rfl) ?_
    refine WO.pn 1 rfl ?_
    obtain rfl := Option.some.inj h
    exact WO.met _ trivial ⟨rfl, _, (Stp.refl _ _).wk rfl⟩ fun a ha => (ha.more (ha.more (ha.more (ha.more (ha.more (ha.more (ha.more (ha.more ha.nil rfl) rfl) rfl) rfl) rfl) rfl) rfl) rfl)
  rintro _ w319 _ ⟨rfl, K320, S321⟩
  have h := hK317
  refine WO.fin ?_
  refine DN.seq ?_
  revert h
  cases ht322 : p46 with
  | true =>
   intro h; replace h := cT h
   refine WC.ct rfl ?_
   refine WC.seq ?_
   refine WC.rs [(0, 2)] rfl ?_
   refine WO.pn 1 rfl ?_
   refine WO.fin ?_
   refine DN.seq ?_
   refine WC.ret ?_
   refine DN.retThen ?_
   have f323 := hE.stp (S3.tr (S7.tr (S15.tr (S22.tr (S191.tr (S198.tr (S201.tr (S205.tr (S314.tr S321))))))))) rfl rfl
   refine DN.res (l := [.tmp 4]) Try.results8 (res_tmp rfl rfl) rfl ?_
   obtain rfl := Option.some.inj h
   exact ⟨K320, rfl, f323⟩
  | false =>
   intro h; replace h := cF h
   refine WC.cf rfl ?_
   refine WC.skip ?_
   refine DN.seq ?_
   refine WC.seq ?_
   refine WC.seq ?_
   refine WC.rx (κ := K320) [3, 14] none [(0, 0), (1, 0), (2, 1), (3, 1), (4, 2)] [] (by kernel_rfl) (by kernel_rfl) fun w325 S324 => ?_
   have f326 := f202.stp (S205.tr (S314.tr (S321.tr S324))) rfl rfl
   refine WO.k0 rfl rfl rfl rfl (rn_la (cs := [.slice a30_0 x30.Next.length u30_0, .slice a30_1 x30.Out.length u30_1]) Try.isAgg50 Try.sizeOf50 rfl rfl rfl (haC f326.cells rfl)) ?_
   have f327 := f182.stp (S191.tr (S198.tr (S201.tr (S205.tr (S314.tr (S321.tr S324)))))) rfl rfl
   refine WO.k0 rfl rfl rfl rfl (rn_la (cs := [.slice a1_0 p1.Next.length u1_0, .slice a1_1 p1.Out.length u1_1]) Try.isAgg64 Try.sizeOf64 rfl rfl rfl (haC f327.cells rfl)) ?_
   obtain ⟨x49, hx49, h⟩ := Option.bind_eq_some_iff.mp h
   have f328 := f183.stp (S191.tr (S198.tr (S201.tr (S205.tr (S314.tr (S321.tr S324)))))) rfl rfl
   have f329 := f184.stp (S191.tr (S198.tr (S201.tr (S205.tr (S314.tr (S321.tr S324)))))) rfl rfl
   refine WO.call rfl rfl rfl rfl rfl rfl Try.call35 (l_toMachine_ok (κ := fun b => mp [] 0 (K320 b)) (p0 := p1) (Sl.map f328 (mp [] 0) rfl rfl) (Sl.map f329 (mp [] 0) rfl rfl) hx49) ?_
   rintro _ w330 ⟨k331, a49_0, u49_0, a49_1, u49_1, rfl, e332, f333, f334⟩
   obtain ⟨K335, S336, m337⟩ := Ent.mixed (l := []) (κ := K320) e332 21 rfl
   refine ⟨(S336.cl rfl), ?_⟩
   have f339 := f333.mx (no_own (no_int _) _) m337 rfl (rfl : 21 + 2 = 23)
   have f340 := f334.mx (no_own (no_int _) _) m337 rfl (rfl : 21 + 3 = 24)
   obtain ⟨x50, hx50, h⟩ := Option.bind_eq_some_iff.mp h
   have f341 := f194.stp (S198.tr (S201.tr (S205.tr (S314.tr (S321.tr (S324.tr S336)))))) rfl rfl
   have f342 := f195.stp (S198.tr (S201.tr (S205.tr (S314.tr (S321.tr (S324.tr S336)))))) rfl rfl
   refine WO.call rfl rfl rfl rfl rfl rfl Try.call28 (l_eqMachine_ok (κ := fun b => mp [] 0 (K335 b)) (p0 := x30) (p1 := x49) (Sl.map f341.rdc (mp [] 0) rfl rfl) (Sl.map f342.rdc (mp [] 0) rfl rfl) (Sl.map f339.rdc (mp [] 0) rfl rfl) (Sl.map f340.rdc (mp [] 0) rfl rfl) hx50) ?_
   rintro _ w343 ⟨k344, rfl, e345⟩
   obtain ⟨K346, S347, m348⟩ := Ent.mixed (l := []) (κ := K335) e345 25 rfl
   refine ⟨((S336.tr S347).cl rfl), ?_⟩
   refine WO.pn 1 rfl ?_
   refine WO.nx ?_
   refine WO.fin ?_
   refine DN.seq ?_
   revert h
   cases ht350 : (!x50) with
   | true =>
    intro h; replace h := cT h
    refine WC.ct rfl ?_
    refine WC.seq ?_
    refine WC.rs [(0, 2)] rfl ?_
    refine WO.pn 1 rfl ?_
    refine WO.fin ?_
    refine DN.seq ?_
    refine WC.ret ?_
    refine DN.retThen ?_
    have f351 := hE.stp (S3.tr (S7.tr (S15.tr (S22.tr (S191.tr (S198.tr (S201.tr (S205.tr (S314.tr (S321.tr (S324.tr (S336.tr S347)))))))))))) rfl rfl
    refine DN.res (l := [.tmp 4]) Try.results8 (res_tmp rfl rfl) rfl ?_
    obtain rfl := Option.some.inj h
    exact ⟨K346, rfl, f351⟩
   | false =>
    intro h; replace h := cF h
    refine WC.cf rfl ?_
    refine WC.skip ?_
    refine DN.seq ?_
    refine WC.seq ?_
    refine WC.rs [(0, 2)] rfl ?_
    refine WO.pn 1 rfl ?_
    refine WO.fin ?_
    refine DN.seq ?_
    refine WC.seq ?_
    refine WC.rs [(0, 1), (1, 2), (2, 1), (3, 2)] rfl ?_
    have f352 := f326.stp (S336.tr S347) rfl rfl
    refine WO.k1 trivial rfl rfl rfl rfl (rn_la (cs := [.slice a30_0 x30.Next.length u30_0, .slice a30_1 x30.Out.length u30_1]) Try.isAgg50 Try.sizeOf50 rfl rfl rfl (haE f352.cells)) ?_
    refine WO.pn 1 rfl ?_
    obtain ⟨x54, hx54, h⟩ := Option.bind_eq_some_iff.mp h
    have f353 := f341.stp S347 rfl rfl
    have f354 := f342.stp S347 rfl rfl
    refine WO.call rfl rfl rfl rfl rfl rfl Try.call31 (l_markMachine_ok (κ := fun b => mp [(12, 2), (13, 3)] 0 (K346 b)) (p0 := x30) (f353.map (mp [(12, 2), (13, 3)] 0) rfl rfl) (f354.map (mp [(12, 2), (13, 3)] 0) rfl rfl) hx54) ?_
    rintro _ w355 ⟨k356, rfl, e357, f358, hn359, f360, hn361⟩
    obtain ⟨K362, S363, m364⟩ := Ent.mixed (l := [(12, 2), (13, 3)]) (κ := K346) e357 27 rfl
    refine ⟨trivial, ?_⟩
    have f366 := f358.mx (no_own (no_int _) _) m364 rfl (rfl : 27 + 2 = 29)
    have f367 := f360.mx (no_own (no_int _) _) m364 rfl (rfl : 27 + 3 = 30)
    refine WO.pn 1 rfl ?_
    refine WO.fin ?_
    refine DN.seq ?_
    refine WC.seq ?_
    refine WC.seq ?_
    refine WC.rs [(0, 2), (1, 2), (2, 2), (3, 1), (4, 1), (5, 1), (6, 2), (7, 2), (8, 2), (9, 2), (10, 2), (11, 2), (12, 2)] rfl ?_
    refine WO.pn 3 rfl ?_
    obtain ⟨p62, h, hK368⟩ := Option.bind_eq_some_iff.mp h
    refine WO.meet [(3, 1), (4, 1), (5, 1), (6, 2), (7, 2)] [(8, 2), (9, 2), (10, 2), (11, 2), (12, 2)] (fun L w' => L = [(2, .pointer (some ⟨b2, 0, none⟩)), (3, .pointer (some ⟨b3, 0, none⟩)), (6, .pointer (some ⟨b6, 0, none⟩)), (7, .bool x26.2), (9, .pointer (some ⟨b9, 0, none⟩)), (10, .bool x35.2), (62, .bool p62)] ∧ ∃ κ', Stp [] K362 w355 κ' w') trivial ?_ ?_
    ·
     revert h
     cases ht369 : decide (x54.1 < 0) with
     | true =>
      intro h; replace h := cT h
      refine WO.ls rfl rfl rfl rfl ?_
      refine WO.ls rfl rfl rfl rfl ?_
      refine WO.ls rfl rfl rfl rfl ?_
      refine WO.pn 2 rfl ?_
      obtain rfl := Option.some.inj h
      exact WO.met _ trivial ⟨rfl, _, (Stp.refl _ _).wk rfl⟩ fun a ha => (ha.more (ha.more (ha.more (ha.more (ha.more (ha.more (ha.more ha.nil rfl) rfl) rfl) rfl) rfl) rfl) rfl)
     | false =>
      intro h; replace h := cF h
      have f370 := f210.stp (S314.tr (S321.tr (S324.tr (S336.tr (S347.tr S363))))) rfl rfl
      refine WO.k1 trivial rfl rfl rfl rfl (rn_la (cs := [.int .i64 x35.1.Inputs, .int .i64 x35.1.Latches, .slice lar206_0 x35.1.Next.length lur206_0, .slice lar206_1 x35.1.Gates.length lur206_1, .slice lar206_2 x35.1.Outs.length lur206_2]) Try.isAgg57 Try.sizeOf57 rfl rfl rfl (haE f370.cells)) ?_
      have f371 := f306.stp (S314.tr (S321.tr (S324.tr (S336.tr (S347.tr S363))))) rfl rfl
      refine WO.k1 trivial rfl rfl rfl rfl (rn_la (cs := [.int .i64 x26.1.Inputs, .int .i64 x26.1.Latches, .slice lar23_0 x26.1.Next.length lur23_0, .slice lar23_1 x26.1.Gates.length lur23_1, .slice lar23_2 x26.1.Outs.length lur23_2]) Try.isAgg57 Try.sizeOf57 rfl rfl rfl (haE f371.cells)) ?_
      obtain ⟨x60, hx60, h⟩ := Option.bind_eq_some_iff.mp h
      have f372 := f207.stp (S314.tr (S321.tr (S324.tr (S336.tr (S347.tr S363))))) rfl rfl
      have f373 := f208.stp (S314.tr (S321.tr (S324.tr (S336.tr (S347.tr S363))))) rfl rfl
      have f374 := f209.stp (S314.tr (S321.tr (S324.tr (S336.tr (S347.tr S363))))) rfl rfl
      have f375 := f307.stp (S314.tr (S321.tr (S324.tr (S336.tr (S347.tr S363))))) rfl rfl
      have f376 := f308.stp (S314.tr (S321.tr (S324.tr (S336.tr (S347.tr S363))))) rfl rfl
      have f377 := f309.stp (S314.tr (S321.tr (S324.tr (S336.tr (S347.tr S363))))) rfl rfl
      refine WO.call rfl rfl rfl rfl rfl rfl Try.call29 (l_eqCircuit_ok (κ := fun b => mp [] 0 (K362 b)) (p0 := x35.1) (p1 := x26.1) (Sl.map f372.rdc (mp [] 0) rfl rfl) (Sl.map f373.rdc (mp [] 0) rfl rfl) (Sl.map f374.rdc (mp [] 0) rfl rfl) (Sl.map f375.rdc (mp [] 0) rfl rfl) (Sl.map f376.rdc (mp [] 0) rfl rfl) (Sl.map f377.rdc (mp [] 0) rfl rfl) hx60) ?_
      rintro _ w378 ⟨k379, rfl, e380⟩
      obtain ⟨K381, S382, m383⟩ := Ent.mixed (l := []) (κ := K362) e380 31 rfl
      refine ⟨trivial, ?_⟩
      refine WO.pn 2 rfl ?_
      obtain rfl := Option.some.inj h
      exact WO.met _ trivial ⟨rfl, _, S382.wk rfl⟩ fun a ha => (ha.more (ha.more (ha.more (ha.more (ha.more (ha.more (ha.more ha.nil rfl) rfl) rfl) rfl) rfl) rfl) rfl)
    rintro _ w385 _ ⟨rfl, K386, S387⟩
    have h := hK368
    refine WO.pn 1 rfl ?_
    obtain ⟨p67, h, hK388⟩ := Option.bind_eq_some_iff.mp h
    refine WO.meet [(9, 2), (10, 2), (11, 2), (12, 2)] [] (fun L w' => L = [(2, .pointer (some ⟨b2, 0, none⟩)), (3, .pointer (some ⟨b3, 0, none⟩)), (6, .pointer (some ⟨b6, 0, none⟩)), (7, .bool x26.2), (9, .pointer (some ⟨b9, 0, none⟩)), (67, .bool p67)] ∧ ∃ κ', Stp [] K386 w385 κ' w') trivial ?_ ?_
    ·
     revert h
     cases ht389 : p62 with
     | true =>
      intro h; replace h := cT h
      refine WO.pn 4 rfl ?_
      obtain rfl := Option.some.inj h
      exact WO.met _ trivial ⟨rfl, _, (Stp.refl _ _).wk rfl⟩ fun a ha => (ha.more (ha.more (ha.more (ha.more (ha.more (ha.more ha.nil rfl) rfl) rfl) rfl) rfl) rfl)
     | false =>
      intro h; replace h := cF h
      refine WO.pn 2 rfl ?_
      refine WO.k2 rfl rfl rfl rfl (rn_neqB rfl rfl Try.runUnderlying4 rfl) ?_
      refine WO.pn 1 rfl ?_
      obtain rfl := Option.some.inj h
      exact WO.met _ trivial ⟨rfl, _, (Stp.refl _ _).wk rfl⟩ fun a ha => (ha.more (ha.more (ha.more (ha.more (ha.more (ha.more ha.nil rfl) rfl) rfl) rfl) rfl) rfl)
    rintro _ w390 _ ⟨rfl, K391, S392⟩
    have h := hK388
    refine WO.fin ?_
    refine DN.seq ?_
    revert h
    cases ht393 : p67 with
    | true =>
     intro h; replace h := cT h
     refine WC.ct rfl ?_
     refine WC.seq ?_
     refine WC.rs [(0, 2)] rfl ?_
     refine WO.pn 1 rfl ?_
     refine WO.fin ?_
     refine DN.seq ?_
     refine WC.ret ?_
     refine DN.retThen ?_
     have f394 := hE.stp (S3.tr (S7.tr (S15.tr (S22.tr (S191.tr (S198.tr (S201.tr (S205.tr (S314.tr (S321.tr (S324.tr (S336.tr (S347.tr (S363.tr (S387.tr S392))))))))))))))) rfl rfl
     refine DN.res (l := [.tmp 4]) Try.results8 (res_tmp rfl rfl) rfl ?_
     obtain rfl := Option.some.inj h
     exact ⟨K391, rfl, f394⟩
    | false =>
     intro h; replace h := cF h
     refine WC.cf rfl ?_
     refine WC.skip ?_
     refine DN.seq ?_
     refine WC.seq ?_
     refine WC.rs [(0, 2)] rfl ?_
     refine WO.pn 1 rfl ?_
     refine WO.fin ?_
     refine DN.seq ?_
     refine WC.seq ?_
     refine WC.rs [(0, 1), (1, 2), (2, 1), (3, 2)] rfl ?_
     have f395 := f210.stp (S314.tr (S321.tr (S324.tr (S336.tr (S347.tr (S363.tr (S387.tr S392))))))) rfl rfl
     refine WO.k1 trivial rfl rfl rfl rfl (rn_la (cs := [.int .i64 x35.1.Inputs, .int .i64 x35.1.Latches, .slice lar206_0 x35.1.Next.length lur206_0, .slice lar206_1 x35.1.Gates.length lur206_1, .slice lar206_2 x35.1.Outs.length lur206_2]) Try.isAgg57 Try.sizeOf57 rfl rfl rfl (haE f395.cells)) ?_
     refine WO.pn 1 rfl ?_
     obtain ⟨x70, hx70, h⟩ := Option.bind_eq_some_iff.mp h
     have f396 := f207.stp (S314.tr (S321.tr (S324.tr (S336.tr (S347.tr (S363.tr (S387.tr S392))))))) rfl rfl
     have f397 := f208.stp (S314.tr (S321.tr (S324.tr (S336.tr (S347.tr (S363.tr (S387.tr S392))))))) rfl rfl
     have f398 := f209.stp (S314.tr (S321.tr (S324.tr (S336.tr (S347.tr (S363.tr (S387.tr S392))))))) rfl rfl
     refine WO.call rfl rfl rfl rfl rfl rfl Try.call30 (l_markCircuit_ok (κ := fun b => mp [(15, 2), (16, 3), (17, 4)] 0 (K391 b)) (p0 := x35.1) (f396.map (mp [(15, 2), (16, 3), (17, 4)] 0) rfl rfl) (f397.map (mp [(15, 2), (16, 3), (17, 4)] 0) rfl rfl) (f398.map (mp [(15, 2), (16, 3), (17, 4)] 0) rfl rfl) hx70) ?_
     rintro _ w399 ⟨k400, rfl, e401, f402, hn403, f404, hn405, f406, hn407⟩
     obtain ⟨K408, S409, m410⟩ := Ent.mixed (l := [(15, 2), (16, 3), (17, 4)]) (κ := K391) e401 31 rfl
     refine ⟨trivial, ?_⟩
     have f412 := f402.mx (no_int _) m410 rfl (rfl : 31 + 2 = 33)
     have f413 := f404.mx Gate.no159 m410 rfl (rfl : 31 + 3 = 34)
     have f414 := f406.mx (no_int _) m410 rfl (rfl : 31 + 4 = 35)
     refine WO.pn 1 rfl ?_
     refine WO.fin ?_
     refine DN.seq ?_
     refine WC.seq ?_
     refine WC.rs [(0, 2)] rfl ?_
     refine WO.pn 1 rfl ?_
     refine WO.fin ?_
     refine DN.seq ?_
     refine WC.seq ?_
     refine WC.rs [(0, 1), (1, 2), (2, 1), (3, 2)] rfl ?_
     have f415 := f395.stp S409 rfl rfl
     refine WO.k1 trivial rfl rfl rfl rfl (rn_la (cs := [.int .i64 x35.1.Inputs, .int .i64 x35.1.Latches, .slice lar206_0 x35.1.Next.length lur206_0, .slice lar206_1 x35.1.Gates.length lur206_1, .slice lar206_2 x35.1.Outs.length lur206_2]) Try.isAgg57 Try.sizeOf57 rfl rfl rfl (haE f415.cells)) ?_
     refine WO.pn 1 rfl ?_
     obtain ⟨x73, hx73, h⟩ := Option.bind_eq_some_iff.mp h
     refine WO.call rfl rfl rfl rfl rfl rfl Try.call39 (Ret.cast (by simp only [(hn403), (hn405), (hn407), List.cons_append, List.nil_append]) (l_heldCircuit_ok (κ := fun b => mp [] 0 (K408 b)) (p0 := (⟨x35.1.Inputs, x35.1.Latches, x70.2.1, x70.2.2.1, x70.2.2.2⟩ : Circuit)) (Sl.map f412.rdc (mp [] 0) rfl rfl) (Sl.map f413.rdc (mp [] 0) rfl rfl) (Sl.map f414.rdc (mp [] 0) rfl rfl) hx73)) ?_
     rintro _ w416 ⟨k417, rfl, e418⟩
     obtain ⟨K419, S420, m421⟩ := Ent.mixed (l := []) (κ := K408) e418 36 rfl
     refine ⟨trivial, ?_⟩
     refine WO.pn 1 rfl ?_
     refine WO.fin ?_
     refine DN.seq ?_
     refine WC.seq ?_
     refine WC.seq ?_
     refine WC.rs [(0, 2), (1, 2)] rfl ?_
     refine WO.pn 2 rfl ?_
     refine WO.fin ?_
     refine DN.seq ?_
     revert h
     cases ht423 : decide (x73 < 0) with
     | true =>
      intro h; replace h := cT h
      refine WC.ct rfl ?_
      refine WC.seq ?_
      refine WC.rs [(0, 2)] rfl ?_
      refine WO.pn 1 rfl ?_
      refine WO.fin ?_
      refine DN.seq ?_
      refine WC.ret ?_
      refine DN.retThen ?_
      have f424 := hE.stp (S3.tr (S7.tr (S15.tr (S22.tr (S191.tr (S198.tr (S201.tr (S205.tr (S314.tr (S321.tr (S324.tr (S336.tr (S347.tr (S363.tr (S387.tr (S392.tr (S409.tr S420))))))))))))))))) rfl rfl
      refine DN.res (l := [.tmp 4]) Try.results8 (res_tmp rfl rfl) rfl ?_
      obtain rfl := Option.some.inj h
      exact ⟨K419, rfl, f424⟩
     | false =>
      intro h; replace h := cF h
      refine WC.cf rfl ?_
      refine WC.skip ?_
      refine DN.seq ?_
      refine WC.seq ?_
      refine WC.seq ?_
      refine WC.rs [(0, 2), (1, 2), (2, 2)] rfl ?_
      refine WO.pn 3 rfl ?_
      refine WO.fin ?_
      refine DN.seq ?_
      revert h
      cases ht425 : (x73 != x70.1) with
      | true =>
       intro h; replace h := cT h
       refine WC.ct rfl ?_
       refine WC.seq ?_
       refine WC.rs [(0, 2)] rfl ?_
       refine WO.pn 1 rfl ?_
       refine WO.fin ?_
       refine DN.seq ?_
       refine WC.ret ?_
       refine DN.retThen ?_
       have f426 := hE.stp (S3.tr (S7.tr (S15.tr (S22.tr (S191.tr (S198.tr (S201.tr (S205.tr (S314.tr (S321.tr (S324.tr (S336.tr (S347.tr (S363.tr (S387.tr (S392.tr (S409.tr S420))))))))))))))))) rfl rfl
       refine DN.res (l := [.tmp 4]) Try.results8 (res_tmp rfl rfl) rfl ?_
       obtain rfl := Option.some.inj h
       exact ⟨K419, rfl, f426⟩
      | false =>
       intro h; replace h := cF h
       refine WC.cf rfl ?_
       refine WC.skip ?_
       refine DN.seq ?_
       refine WC.seq ?_
       obtain ⟨x81, hx81, h⟩ := Option.bind_eq_some_iff.mp h
       obtain ⟨x83, hx83, h⟩ := Option.bind_eq_some_iff.mp h
       obtain ⟨x84, hx84, h⟩ := Option.bind_eq_some_iff.mp h
       refine WC.meet (fun L w' => ∃ (κ' : Col) (b14 : Nat) (lar430_0 : Option Addr) (lur430_0 : Nat) (lar430_1 : Option Addr) (lur430_1 : Nat) (lar430_2 : Option Addr) (lur430_2 : Nat), L = [(6, .pointer (some ⟨b6, 0, none⟩)), (7, .bool x26.2), (9, .pointer (some ⟨b9, 0, none⟩)), (12, .int .i64 x70.1), (14, .pointer (some ⟨b14, 0, none⟩)), (15, .bool x84.2)] ∧ Stp [38, 40, 44, 46, 47, 48, 49] K419 w416 κ' w' ∧ Oc (Ep.int .i64) 2 κ' w' 38 lar430_0 lur430_0 x84.1.Next ∧ Oc Gate.ep159 159 κ' w' 39 lar430_1 lur430_1 x84.1.Gates ∧ Oc (Ep.int .i64) 2 κ' w' 40 lar430_2 lur430_2 x84.1.Outs ∧ Bc κ' w' 41 b14 57 [.int .i64 x84.1.Inputs, .int .i64 x84.1.Latches, .slice lar430_0 x84.1.Next.length lur430_0, .slice lar430_1 x84.1.Gates.length lur430_1, .slice lar430_2 x84.1.Outs.length lur430_2]) ?_ ?_
       ·
        refine WC.rxt (κ := K419) [2, 3] none (by kernel_rfl) fun w435 S436 => ?_
        refine WA.seg (fuel := 9) [(0, 0), (2, 0)] (by kernel_rfl) (by kernel_rfl) rfl ?_
        have f437 := f4.stp (S7.tr (S15.tr (S22.tr (S191.tr (S198.tr (S201.tr (S205.tr (S314.tr (S321.tr (S324.tr (S336.tr (S347.tr (S363.tr (S387.tr (S392.tr (S409.tr (S420.tr S436))))))))))))))))) rfl rfl
        refine WO.k0 rfl rfl rfl rfl (rn_la (cs := [.int .i64 p0.In, .int .i64 p0.Out]) Try.isAgg44 Try.sizeOf44 rfl rfl rfl (haC f437.cells rfl)) ?_
        have f438 := f327.stp (S336.tr (S347.tr (S363.tr (S387.tr (S392.tr (S409.tr (S420.tr S436))))))) rfl rfl
        refine WO.k0 rfl rfl rfl rfl (rn_la (cs := [.slice a1_0 p1.Next.length u1_0, .slice a1_1 p1.Out.length u1_1]) Try.isAgg64 Try.sizeOf64 rfl rfl rfl (haC f438.cells rfl)) ?_
        refine WO.wa ?_
        refine WA.fork2 (fuel := 8) 1 8 (by kernel_rfl) rfl ?_ ?_
        ·
         refine WO.call rfl rfl rfl rfl rfl rfl Try.call25 (l_toSig_ok (κ := fun b => mp [] 0 (K419 b)) (p0 := p0) hx81) ?_
         rintro _ w439 ⟨k440, rfl, e441⟩
         obtain ⟨K442, S443, m444⟩ := Ent.mixed (l := []) (κ := K419) e441 38 rfl
         refine ⟨(S443.cl rfl), ?_⟩
         refine WO.wa ?_
         refine WA.fork2 (fuel := 7) 3 8 (by kernel_rfl) rfl ?_ ?_
         ·
          have f446 := f328.stp (S336.tr (S347.tr (S363.tr (S387.tr (S392.tr (S409.tr (S420.tr (S436.tr S443)))))))) rfl rfl
          have f447 := f329.stp (S336.tr (S347.tr (S363.tr (S387.tr (S392.tr (S409.tr (S420.tr (S436.tr S443)))))))) rfl rfl
          refine WO.call rfl rfl rfl rfl rfl rfl Try.call35 (l_toMachine_ok (κ := fun b => mp [] 0 (K442 b)) (p0 := p1) (Sl.map f446 (mp [] 0) rfl rfl) (Sl.map f447 (mp [] 0) rfl rfl) hx83) ?_
          rintro _ w448 ⟨k449, a83_0, u83_0, a83_1, u83_1, rfl, e450, f451, f452⟩
          obtain ⟨K453, S454, m455⟩ := Ent.mixed (l := []) (κ := K442) e450 40 rfl
          refine ⟨((S443.tr S454).cl rfl), ?_⟩
          have f457 := f451.mx (no_own (no_int _) _) m455 rfl (rfl : 40 + 2 = 42)
          have f458 := f452.mx (no_own (no_int _) _) m455 rfl (rfl : 40 + 3 = 43)
          refine WO.wa ?_
          refine WA.fork2 (fuel := 6) 4 8 (by kernel_rfl) rfl ?_ ?_
          ·
           refine WO.call rfl rfl rfl rfl rfl rfl Try.call53 (i_CircuitOf_ok (κ := fun b => mp [] 0 (K453 b)) (p0 := x81) (p1 := x83) (Sl.map f457.rdc (mp [] 0) rfl rfl) (Sl.map f458.rdc (mp [] 0) rfl rfl) hx84) ?_
           rintro _ w459 ⟨k460, a84_0, u84_0, a84_1, u84_1, a84_2, u84_2, rfl, e461, f462, f463, f464⟩
           obtain ⟨K465, S466, m467⟩ := Ent.mixed (l := []) (κ := K453) e461 44 rfl
           refine ⟨((S443.tr (S454.tr S466)).cl rfl), ?_⟩
           have f469 := f462.mx (no_int _) m467 rfl (rfl : 44 + 2 = 46)
           have f470 := f463.mx Gate.no159 m467 rfl (rfl : 44 + 3 = 47)
           have f471 := f464.mx (no_int _) m467 rfl (rfl : 44 + 4 = 48)
           refine WO.wa ?_
           refine WA.seg (fuel := 0) [(5, 2), (6, 2), (7, 2), (8, 1), (9, 1), (10, 2)] (by kernel_rfl) (by kernel_rfl) rfl ?_
           refine WO.pn 3 rfl ?_
           refine WO.alloc (κ := K465) 49 rfl rfl rfl rfl rfl Try.zeroValue57 rfl fun b14 w472 K473 S474 f475 => ⟨((S443.tr (S454.tr (S466.tr S474))).cl rfl), ?_⟩
           refine WO.stB0 (κ := K473) 49 (vc := [.int .i64 x84.1.Inputs, .int .i64 x84.1.Latches, .slice a84_0 x84.1.Next.length u84_0, .slice a84_1 x84.1.Gates.length u84_1, .slice a84_2 x84.1.Outs.length u84_2]) rfl rfl rfl rfl rfl rfl rfl Try.sizeOf57 rfl rfl f475 rfl fun w476 S477 f478 => ⟨((S443.tr (S454.tr (S466.tr (S474.tr S477)))).cl rfl), ?_⟩
           refine WO.pn 1 rfl ?_
           refine WO.wa ?_
           refine WA.last [] (by kernel_rfl) (by kernel_rfl) rfl ?_
           refine WO.fin ?_
           have f479 := f469.stp (S474.tr S477) rfl rfl
           have f480 := f470.stp (S474.tr S477) rfl rfl
           have f481 := f471.stp (S474.tr S477) rfl rfl
           exact DN.meet _ ⟨(fun b => ren [(46, 38), (47, 39), (48, 40), (49, 41)] (K473 b)), b14, a84_0, u84_0, a84_1, u84_1, a84_2, u84_2, rfl, (Stp.ren ((S436.tr (S443.tr (S454.tr (S466.tr (S474.tr S477))))).wk rfl) [(46, 38), (47, 39), (48, 40), (49, 41)] rfl), (f479.map (ren [(46, 38), (47, 39), (48, 40), (49, 41)]) rfl rfl), (f480.map (ren [(46, 38), (47, 39), (48, 40), (49, 41)]) rfl rfl), (f481.map (ren [(46, 38), (47, 39), (48, 40), (49, 41)]) rfl rfl), (f478.map (ren [(46, 38), (47, 39), (48, 40), (49, 41)]) rfl rfl)⟩ fun a ha => (ha.more (ha.more (ha.more (ha.more (ha.more (ha.more ha.nil rfl) rfl) rfl) rfl) rfl) rfl)
          ·
           refine WO.alloc (κ := K453) 44 rfl rfl rfl rfl rfl Try.zeroValue57 rfl fun b14 w482 K483 S484 f485 => ⟨((S443.tr (S454.tr S484)).cl rfl), ?_⟩
           refine WO.wa ?_
           refine WA.seg (fuel := 0) [(4, 1), (5, 2), (6, 2), (7, 2), (9, 1), (10, 2)] (by kernel_rfl) (by kernel_rfl) rfl ?_
           have f486 := f457.stp S484 rfl rfl
           have f487 := f458.stp S484 rfl rfl
           refine WO.call rfl rfl rfl rfl rfl rfl Try.call53 (i_CircuitOf_ok (κ := fun b => mp [] 0 (K483 b)) (p0 := x81) (p1 := x83) (Sl.map f486.rdc (mp [] 0) rfl rfl) (Sl.map f487.rdc (mp [] 0) rfl rfl) hx84) ?_
           rintro _ w488 ⟨k489, a84_0, u84_0, a84_1, u84_1, a84_2, u84_2, rfl, e490, f491, f492, f493⟩
           obtain ⟨K494, S495, m496⟩ := Ent.mixed (l := []) (κ := K483) e490 45 rfl
           refine ⟨((S443.tr (S454.tr (S484.tr S495))).cl rfl), ?_⟩
           have f498 := f491.mx (no_int _) m496 rfl (rfl : 45 + 2 = 47)
           have f499 := f492.mx Gate.no159 m496 rfl (rfl : 45 + 3 = 48)
           have f500 := f493.mx (no_int _) m496 rfl (rfl : 45 + 4 = 49)
           refine WO.pn 3 rfl ?_
           have f501 := f485.stp S495 rfl rfl
           refine WO.stB0 (κ := K494) 44 (vc := [.int .i64 x84.1.Inputs, .int .i64 x84.1.Latches, .slice a84_0 x84.1.Next.length u84_0, .slice a84_1 x84.1.Gates.length u84_1, .slice a84_2 x84.1.Outs.length u84_2]) rfl rfl rfl rfl rfl rfl rfl Try.sizeOf57 rfl rfl f501 rfl fun w502 S503 f504 => ⟨((S443.tr (S454.tr (S484.tr (S495.tr S503)))).cl rfl), ?_⟩
           refine WO.pn 1 rfl ?_
           refine WO.wa ?_
           refine WA.last [] (by kernel_rfl) (by kernel_rfl) rfl ?_
           refine WO.fin ?_
           have f505 := f498.stp S503 rfl rfl
           have f506 := f499.stp S503 rfl rfl
           have f507 := f500.stp S503 rfl rfl
           exact DN.meet _ ⟨(fun b => ren [(47, 38), (48, 39), (49, 40), (44, 41)] (K494 b)), b14, a84_0, u84_0, a84_1, u84_1, a84_2, u84_2, rfl, (Stp.ren ((S436.tr (S443.tr (S454.tr (S484.tr (S495.tr S503))))).wk rfl) [(47, 38), (48, 39), (49, 40), (44, 41)] rfl), (f505.map (ren [(47, 38), (48, 39), (49, 40), (44, 41)]) rfl rfl), (f506.map (ren [(47, 38), (48, 39), (49, 40), (44, 41)]) rfl rfl), (f507.map (ren [(47, 38), (48, 39), (49, 40), (44, 41)]) rfl rfl), (f504.map (ren [(47, 38), (48, 39), (49, 40), (44, 41)]) rfl rfl)⟩ fun a ha => (ha.more (ha.more (ha.more (ha.more (ha.more (ha.more ha.nil rfl) rfl) rfl) rfl) rfl) rfl)
         ·
          refine WO.alloc (κ := K442) 40 rfl rfl rfl rfl rfl Try.zeroValue57 rfl fun b14 w508 K509 S510 f511 => ⟨((S443.tr S510).cl rfl), ?_⟩
          refine WO.wa ?_
          refine WA.seg (fuel := 0) [(3, 1), (4, 1), (5, 2), (6, 2), (7, 2), (9, 1), (10, 2)] (by kernel_rfl) (by kernel_rfl) rfl ?_
          have f512 := f328.stp (S336.tr (S347.tr (S363.tr (S387.tr (S392.tr (S409.tr (S420.tr (S436.tr (S443.tr S510))))))))) rfl rfl
          have f513 := f329.stp (S336.tr (S347.tr (S363.tr (S387.tr (S392.tr (S409.tr (S420.tr (S436.tr (S443.tr S510))))))))) rfl rfl
          refine WO.call rfl rfl rfl rfl rfl rfl Try.call35 (l_toMachine_ok (κ := fun b => mp [] 0 (K509 b)) (p0 := p1) (Sl.map f512 (mp [] 0) rfl rfl) (Sl.map f513 (mp [] 0) rfl rfl) hx83) ?_
          rintro _ w514 ⟨k515, a83_0, u83_0, a83_1, u83_1, rfl, e516, f517, f518⟩
          obtain ⟨K519, S520, m521⟩ := Ent.mixed (l := []) (κ := K509) e516 41 rfl
          refine ⟨((S443.tr (S510.tr S520)).cl rfl), ?_⟩
          have f523 := f517.mx (no_own (no_int _) _) m521 rfl (rfl : 41 + 2 = 43)
          have f524 := f518.mx (no_own (no_int _) _) m521 rfl (rfl : 41 + 3 = 44)
          refine WO.call rfl rfl rfl rfl rfl rfl Try.call53 (i_CircuitOf_ok (κ := fun b => mp [] 0 (K519 b)) (p0 := x81) (p1 := x83) (Sl.map f523.rdc (mp [] 0) rfl rfl) (Sl.map f524.rdc (mp [] 0) rfl rfl) hx84) ?_
          rintro _ w525 ⟨k526, a84_0, u84_0, a84_1, u84_1, a84_2, u84_2, rfl, e527, f528, f529, f530⟩
          obtain ⟨K531, S532, m533⟩ := Ent.mixed (l := []) (κ := K519) e527 45 rfl
          refine ⟨((S443.tr (S510.tr (S520.tr S532))).cl rfl), ?_⟩
          have f535 := f528.mx (no_int _) m533 rfl (rfl : 45 + 2 = 47)
          have f536 := f529.mx Gate.no159 m533 rfl (rfl : 45 + 3 = 48)
          have f537 := f530.mx (no_int _) m533 rfl (rfl : 45 + 4 = 49)
          refine WO.pn 3 rfl ?_
          have f538 := f511.stp (S520.tr S532) rfl rfl
          refine WO.stB0 (κ := K531) 40 (vc := [.int .i64 x84.1.Inputs, .int .i64 x84.1.Latches, .slice a84_0 x84.1.Next.length u84_0, .slice a84_1 x84.1.Gates.length u84_1, .slice a84_2 x84.1.Outs.length u84_2]) rfl rfl rfl rfl rfl rfl rfl Try.sizeOf57 rfl rfl f538 rfl fun w539 S540 f541 => ⟨((S443.tr (S510.tr (S520.tr (S532.tr S540)))).cl rfl), ?_⟩
          refine WO.pn 1 rfl ?_
          refine WO.wa ?_
          refine WA.last [] (by kernel_rfl) (by kernel_rfl) rfl ?_
          refine WO.fin ?_
          have f542 := f535.stp S540 rfl rfl
          have f543 := f536.stp S540 rfl rfl
          have f544 := f537.stp S540 rfl rfl
          exact DN.meet _ ⟨(fun b => ren [(47, 38), (48, 39), (49, 40), (40, 41)] (K531 b)), b14, a84_0, u84_0, a84_1, u84_1, a84_2, u84_2, rfl, (Stp.ren ((S436.tr (S443.tr (S510.tr (S520.tr (S532.tr S540))))).wk rfl) [(47, 38), (48, 39), (49, 40), (40, 41)] rfl), (f542.map (ren [(47, 38), (48, 39), (49, 40), (40, 41)]) rfl rfl), (f543.map (ren [(47, 38), (48, 39), (49, 40), (40, 41)]) rfl rfl), (f544.map (ren [(47, 38), (48, 39), (49, 40), (40, 41)]) rfl rfl), (f541.map (ren [(47, 38), (48, 39), (49, 40), (40, 41)]) rfl rfl)⟩ fun a ha => (ha.more (ha.more (ha.more (ha.more (ha.more (ha.more ha.nil rfl) rfl) rfl) rfl) rfl) rfl)
        ·
         refine WO.alloc (κ := K419) 38 rfl rfl rfl rfl rfl Try.zeroValue57 rfl fun b14 w545 K546 S547 f548 => ⟨(S547.cl rfl), ?_⟩
         refine WO.wa ?_
         refine WA.seg (fuel := 0) [(1, 1), (3, 1), (4, 1), (5, 2), (6, 2), (7, 2), (9, 1), (10, 2)] (by kernel_rfl) (by kernel_rfl) rfl ?_
         refine WO.call rfl rfl rfl rfl rfl rfl Try.call25 (l_toSig_ok (κ := fun b => mp [] 0 (K546 b)) (p0 := p0) hx81) ?_
         rintro _ w549 ⟨k550, rfl, e551⟩
         obtain ⟨K552, S553, m554⟩ := Ent.mixed (l := []) (κ := K546) e551 39 rfl
         refine ⟨((S547.tr S553).cl rfl), ?_⟩
         have f556 := f328.stp (S336.tr (S347.tr (S363.tr (S387.tr (S392.tr (S409.tr (S420.tr (S436.tr (S547.tr S553))))))))) rfl rfl
         have f557 := f329.stp (S336.tr (S347.tr (S363.tr (S387.tr (S392.tr (S409.tr (S420.tr (S436.tr (S547.tr S553))))))))) rfl rfl
         refine WO.call rfl rfl rfl rfl rfl rfl Try.call35 (l_toMachine_ok (κ := fun b => mp [] 0 (K552 b)) (p0 := p1) (Sl.map f556 (mp [] 0) rfl rfl) (Sl.map f557 (mp [] 0) rfl rfl) hx83) ?_
         rintro _ w558 ⟨k559, a83_0, u83_0, a83_1, u83_1, rfl, e560, f561, f562⟩
         obtain ⟨K563, S564, m565⟩ := Ent.mixed (l := []) (κ := K552) e560 41 rfl
         refine ⟨((S547.tr (S553.tr S564)).cl rfl), ?_⟩
         have f567 := f561.mx (no_own (no_int _) _) m565 rfl (rfl : 41 + 2 = 43)
         have f568 := f562.mx (no_own (no_int _) _) m565 rfl (rfl : 41 + 3 = 44)
         refine WO.call rfl rfl rfl rfl rfl rfl Try.call53 (i_CircuitOf_ok (κ := fun b => mp [] 0 (K563 b)) (p0 := x81) (p1 := x83) (Sl.map f567.rdc (mp [] 0) rfl rfl) (Sl.map f568.rdc (mp [] 0) rfl rfl) hx84) ?_
         rintro _ w569 ⟨k570, a84_0, u84_0, a84_1, u84_1, a84_2, u84_2, rfl, e571, f572, f573, f574⟩
         obtain ⟨K575, S576, m577⟩ := Ent.mixed (l := []) (κ := K563) e571 45 rfl
         refine ⟨((S547.tr (S553.tr (S564.tr S576))).cl rfl), ?_⟩
         have f579 := f572.mx (no_int _) m577 rfl (rfl : 45 + 2 = 47)
         have f580 := f573.mx Gate.no159 m577 rfl (rfl : 45 + 3 = 48)
         have f581 := f574.mx (no_int _) m577 rfl (rfl : 45 + 4 = 49)
         refine WO.pn 3 rfl ?_
         have f582 := f548.stp (S553.tr (S564.tr S576)) rfl rfl
         refine WO.stB0 (κ := K575) 38 (vc := [.int .i64 x84.1.Inputs, .int .i64 x84.1.Latches, .slice a84_0 x84.1.Next.length u84_0, .slice a84_1 x84.1.Gates.length u84_1, .slice a84_2 x84.1.Outs.length u84_2]) rfl rfl rfl rfl rfl rfl rfl Try.sizeOf57 rfl rfl f582 rfl fun w583 S584 f585 => ⟨((S547.tr (S553.tr (S564.tr (S576.tr S584)))).cl rfl), ?_⟩
         refine WO.pn 1 rfl ?_
         refine WO.wa ?_
         refine WA.last [] (by kernel_rfl) (by kernel_rfl) rfl ?_
         refine WO.fin ?_
         have f586 := f579.stp S584 rfl rfl
         have f587 := f580.stp S584 rfl rfl
         have f588 := f581.stp S584 rfl rfl
         exact DN.meet _ ⟨(fun b => ren [(47, 38), (48, 39), (49, 40), (38, 41)] (K575 b)), b14, a84_0, u84_0, a84_1, u84_1, a84_2, u84_2, rfl, (Stp.ren ((S436.tr (S547.tr (S553.tr (S564.tr (S576.tr S584))))).wk rfl) [(47, 38), (48, 39), (49, 40), (38, 41)] rfl), (f586.map (ren [(47, 38), (48, 39), (49, 40), (38, 41)]) rfl rfl), (f587.map (ren [(47, 38), (48, 39), (49, 40), (38, 41)]) rfl rfl), (f588.map (ren [(47, 38), (48, 39), (49, 40), (38, 41)]) rfl rfl), (f585.map (ren [(47, 38), (48, 39), (49, 40), (38, 41)]) rfl rfl)⟩ fun a ha => (ha.more (ha.more (ha.more (ha.more (ha.more (ha.more ha.nil rfl) rfl) rfl) rfl) rfl) rfl)
       rintro _ w427 ⟨K428, b14, lar430_0, lur430_0, lar430_1, lur430_1, lar430_2, lur430_2, rfl, S429, f431, f432, f433, f434⟩
       refine DN.seq ?_
       refine WC.seq ?_
       refine WC.seq ?_
       refine WC.rs [(0, 1), (1, 1), (2, 1), (3, 2), (4, 2), (5, 2), (6, 2), (7, 2), (8, 2)] rfl ?_
       refine WO.k1 trivial rfl rfl rfl rfl (rn_la (cs := [.int .i64 x84.1.Inputs, .int .i64 x84.1.Latches, .slice lar430_0 x84.1.Next.length lur430_0, .slice lar430_1 x84.1.Gates.length lur430_1, .slice lar430_2 x84.1.Outs.length lur430_2]) Try.isAgg57 Try.sizeOf57 rfl rfl rfl (haE f434.cells)) ?_
       have f589 := f306.stp (S314.tr (S321.tr (S324.tr (S336.tr (S347.tr (S363.tr (S387.tr (S392.tr (S409.tr (S420.tr S429)))))))))) rfl rfl
       refine WO.k1 trivial rfl rfl rfl rfl (rn_la (cs := [.int .i64 x26.1.Inputs, .int .i64 x26.1.Latches, .slice lar23_0 x26.1.Next.length lur23_0, .slice lar23_1 x26.1.Gates.length lur23_1, .slice lar23_2 x26.1.Outs.length lur23_2]) Try.isAgg57 Try.sizeOf57 rfl rfl rfl (haE f589.cells)) ?_
       obtain ⟨x89, hx89, h⟩ := Option.bind_eq_some_iff.mp h
       have f590 := f307.stp (S314.tr (S321.tr (S324.tr (S336.tr (S347.tr (S363.tr (S387.tr (S392.tr (S409.tr (S420.tr S429)))))))))) rfl rfl
       have f591 := f308.stp (S314.tr (S321.tr (S324.tr (S336.tr (S347.tr (S363.tr (S387.tr (S392.tr (S409.tr (S420.tr S429)))))))))) rfl rfl
       have f592 := f309.stp (S314.tr (S321.tr (S324.tr (S336.tr (S347.tr (S363.tr (S387.tr (S392.tr (S409.tr (S420.tr S429)))))))))) rfl rfl
       refine WO.call rfl rfl rfl rfl rfl rfl Try.call29 (l_eqCircuit_ok (κ := fun b => mp [] 0 (K428 b)) (p0 := x84.1) (p1 := x26.1) (Sl.map f431.rdc (mp [] 0) rfl rfl) (Sl.map f432.rdc (mp [] 0) rfl rfl) (Sl.map f433.rdc (mp [] 0) rfl rfl) (Sl.map f590.rdc (mp [] 0) rfl rfl) (Sl.map f591.rdc (mp [] 0) rfl rfl) (Sl.map f592.rdc (mp [] 0) rfl rfl) hx89) ?_
       rintro _ w593 ⟨k594, rfl, e595⟩
       obtain ⟨K596, S597, m598⟩ := Ent.mixed (l := []) (κ := K428) e595 42 rfl
       refine ⟨trivial, ?_⟩
       refine WO.pn 2 rfl ?_
       obtain ⟨p95, h, hK600⟩ := Option.bind_eq_some_iff.mp h
       refine WO.meet [(5, 2), (6, 2), (7, 2), (8, 2)] [] (fun L w' => L = [(9, .pointer (some ⟨b9, 0, none⟩)), (12, .int .i64 x70.1), (95, .bool p95)] ∧ ∃ κ', Stp [] K596 w593 κ' w') trivial ?_ ?_
       ·
        revert h
        cases ht601 : (!x89) with
        | true =>
         intro h; replace h := cT h
         refine WO.pn 4 rfl ?_
         obtain rfl := Option.some.inj h
         exact WO.met _ trivial ⟨rfl, _, (Stp.refl _ _).wk rfl⟩ fun a ha => (ha.more (ha.more (ha.more ha.nil rfl) rfl) rfl)
        | false =>
         intro h; replace h := cF h
         refine WO.pn 2 rfl ?_
         refine WO.k2 rfl rfl rfl rfl (rn_neqB rfl rfl Try.runUnderlying4 rfl) ?_
         refine WO.pn 1 rfl ?_
         obtain rfl := Option.some.inj h
         exact WO.met _ trivial ⟨rfl, _, (Stp.refl _ _).wk rfl⟩ fun a ha => (ha.more (ha.more (ha.more ha.nil rfl) rfl) rfl)
       rintro _ w602 _ ⟨rfl, K603, S604⟩
       have h := hK600
       refine WO.fin ?_
       refine DN.seq ?_
       revert h
       cases ht605 : p95 with
       | true =>
        intro h; replace h := cT h
        refine WC.ct rfl ?_
        refine WC.seq ?_
        refine WC.rs [(0, 2)] rfl ?_
        refine WO.pn 1 rfl ?_
        refine WO.fin ?_
        refine DN.seq ?_
        refine WC.ret ?_
        refine DN.retThen ?_
        have f606 := hE.stp (S3.tr (S7.tr (S15.tr (S22.tr (S191.tr (S198.tr (S201.tr (S205.tr (S314.tr (S321.tr (S324.tr (S336.tr (S347.tr (S363.tr (S387.tr (S392.tr (S409.tr (S420.tr (S429.tr (S597.tr S604)))))))))))))))))))) rfl rfl
        refine DN.res (l := [.tmp 4]) Try.results8 (res_tmp rfl rfl) rfl ?_
        obtain rfl := Option.some.inj h
        exact ⟨K603, rfl, f606⟩
       | false =>
        intro h; replace h := cF h
        refine WC.cf rfl ?_
        refine WC.skip ?_
        refine DN.seq ?_
        refine WC.seq ?_
        refine WC.rs [(0, 2)] rfl ?_
        refine WO.pn 1 rfl ?_
        refine WO.fin ?_
        refine DN.seq ?_
        refine WC.seq ?_
        refine WC.rs [(0, 1), (1, 2), (2, 1), (3, 2)] rfl ?_
        have f607 := f415.stp (S420.tr (S429.tr (S597.tr S604))) rfl rfl
        refine WO.k1 trivial rfl rfl rfl rfl (rn_la (cs := [.int .i64 x35.1.Inputs, .int .i64 x35.1.Latches, .slice lar206_0 x35.1.Next.length lur206_0, .slice lar206_1 x35.1.Gates.length lur206_1, .slice lar206_2 x35.1.Outs.length lur206_2]) Try.isAgg57 Try.sizeOf57 rfl rfl rfl (haE f607.cells)) ?_
        refine WO.pn 1 rfl ?_
        obtain ⟨x98, hx98, h⟩ := Option.bind_eq_some_iff.mp h
        have f608 := f412.stp (S420.tr (S429.tr (S597.tr S604))) rfl rfl
        have f609 := f413.stp (S420.tr (S429.tr (S597.tr S604))) rfl rfl
        have f610 := f414.stp (S420.tr (S429.tr (S597.tr S604))) rfl rfl
        refine WO.call rfl rfl rfl rfl rfl rfl Try.call39 (Ret.cast (by simp only [(hn403), (hn405), (hn407), List.cons_append, List.nil_append]) (l_heldCircuit_ok (κ := fun b => mp [] 0 (K603 b)) (p0 := (⟨x35.1.Inputs, x35.1.Latches, x70.2.1, x70.2.2.1, x70.2.2.2⟩ : Circuit)) (Sl.map f608.rdc (mp [] 0) rfl rfl) (Sl.map f609.rdc (mp [] 0) rfl rfl) (Sl.map f610.rdc (mp [] 0) rfl rfl) hx98)) ?_
        rintro _ w611 ⟨k612, rfl, e613⟩
        obtain ⟨K614, S615, m616⟩ := Ent.mixed (l := []) (κ := K603) e613 44 rfl
        refine ⟨trivial, ?_⟩
        refine WO.pn 1 rfl ?_
        refine WO.fin ?_
        refine DN.seq ?_
        refine WC.seq ?_
        refine WC.seq ?_
        refine WC.rs [(0, 2), (1, 2)] rfl ?_
        refine WO.pn 2 rfl ?_
        refine WO.fin ?_
        refine DN.seq ?_
        revert h
        cases ht618 : decide (x98 < 0) with
        | true =>
         intro h; replace h := cT h
         refine WC.ct rfl ?_
         refine WC.seq ?_
         refine WC.rs [(0, 2)] rfl ?_
         refine WO.pn 1 rfl ?_
         refine WO.fin ?_
         refine DN.seq ?_
         refine WC.ret ?_
         refine DN.retThen ?_
         have f619 := hE.stp (S3.tr (S7.tr (S15.tr (S22.tr (S191.tr (S198.tr (S201.tr (S205.tr (S314.tr (S321.tr (S324.tr (S336.tr (S347.tr (S363.tr (S387.tr (S392.tr (S409.tr (S420.tr (S429.tr (S597.tr (S604.tr S615))))))))))))))))))))) rfl rfl
         refine DN.res (l := [.tmp 4]) Try.results8 (res_tmp rfl rfl) rfl ?_
         obtain rfl := Option.some.inj h
         exact ⟨K614, rfl, f619⟩
        | false =>
         intro h; replace h := cF h
         refine WC.cf rfl ?_
         refine WC.skip ?_
         refine DN.seq ?_
         refine WC.seq ?_
         refine WC.seq ?_
         refine WC.rs [(0, 2), (1, 2), (2, 2)] rfl ?_
         refine WO.pn 3 rfl ?_
         refine WO.fin ?_
         refine DN.seq ?_
         revert h
         cases ht620 : (x98 != x70.1) with
         | true =>
          intro h; replace h := cT h
          refine WC.ct rfl ?_
          refine WC.seq ?_
          refine WC.rs [(0, 2)] rfl ?_
          refine WO.pn 1 rfl ?_
          refine WO.fin ?_
          refine DN.seq ?_
          refine WC.ret ?_
          refine DN.retThen ?_
          have f621 := hE.stp (S3.tr (S7.tr (S15.tr (S22.tr (S191.tr (S198.tr (S201.tr (S205.tr (S314.tr (S321.tr (S324.tr (S336.tr (S347.tr (S363.tr (S387.tr (S392.tr (S409.tr (S420.tr (S429.tr (S597.tr (S604.tr S615))))))))))))))))))))) rfl rfl
          refine DN.res (l := [.tmp 4]) Try.results8 (res_tmp rfl rfl) rfl ?_
          obtain rfl := Option.some.inj h
          exact ⟨K614, rfl, f621⟩
         | false =>
          intro h; replace h := cF h
          refine WC.cf rfl ?_
          refine WC.skip ?_
          refine DN.seq ?_
          refine WC.seq ?_
          refine WC.rs [(0, 2)] rfl ?_
          refine WO.pn 1 rfl ?_
          refine WO.fin ?_
          refine DN.seq ?_
          refine WC.ret ?_
          have f622 := hE.stp (S3.tr (S7.tr (S15.tr (S22.tr (S191.tr (S198.tr (S201.tr (S205.tr (S314.tr (S321.tr (S324.tr (S336.tr (S347.tr (S363.tr (S387.tr (S392.tr (S409.tr (S420.tr (S429.tr (S597.tr (S604.tr S615))))))))))))))))))))) rfl rfl
          refine DN.res (l := [.tmp 4]) Try.results8 (res_tmp rfl rfl) rfl ?_
          obtain rfl := Option.some.inj h
          exact ⟨K614, rfl, f622⟩

end Go.Proofs.Ytfmkhnlnomkcfaa
