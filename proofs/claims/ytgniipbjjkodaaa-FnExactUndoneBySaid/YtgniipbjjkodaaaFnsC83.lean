/- The walks, part 3. By program. -/
import Derived.Test.YtgniipbjjkodaaaFnsC82
set_option linter.unusedVariables false
set_option linter.unusedSimpArgs false
namespace Go.Proofs.Ytgniipbjjkodaaa
open Go Go.Wk Go.Proofs
set_option maxRecDepth 100000
set_option maxHeartbeats 1000000

/- loop.example/g00869/laws.FnExactUndoneBy -/
theorem l_FnExactUndoneBy_ok {w : World} {κ : Col} {a0_0_0 : Option Addr} {u0_0_0 : Nat} {a0_0_1 : Option Addr} {u0_0_1 : Nat} {a0_1 : Option Addr} {u0_1 : Nat} {p0 : Parity} {p1 : Edit} (g0_0_0 : Rd (Rp.int .i64) κ w 0 a0_0_0 u0_0_0 p0.Arena.Owner) (g0_0_1 : Rd (Rp.sl (Rp.int .i64)) κ w 0 a0_0_1 u0_0_1 p0.Arena.Next) (g0_1 : Rd (Rp.int .i64) κ w 0 a0_1 u0_1 p0.Prio) {r : Bool} (h : l_FnExactUndoneBy p0 p1 = some r) : Ret Try.prog 8 [.agg #[.slice a0_0_0 p0.Arena.Owner.length u0_0_0, .slice a0_0_1 p0.Arena.Next.length u0_0_1, .slice a0_1 p0.Prio.length u0_1], .agg #[.int .i64 p1.Kind, .int .i64 p1.V, .int .i64 p1.N]] w (fun v w' => ∃ (κ' : Col), v = .bool r ∧ Ent κ w κ' w') := by
 unfold l_FnExactUndoneBy at h
 refine Ret.enter Try.func8 rfl Try.ntmps8 rfl ?_
 dsimp only [envOf]
 have hE := Ent.refl κ w
 refine WC.seq ?_
 refine WC.rs [(0, 1), (1, 1), (2, 2)] rfl ?_
 refine WO.box (κ := κ) 2 rfl rfl rfl rfl rfl rfl rfl fun b2 w1 K2 S3 f4 => ⟨trivial, ?_⟩
 refine WO.box (κ := K2) 3 rfl rfl rfl rfl rfl rfl rfl fun b3 w5 K6 S7 f8 => ⟨trivial, ?_⟩
 refine WO.pn 1 rfl ?_
 refine WO.fin ?_
 refine DN.seq ?_
 refine WC.seq ?_
 refine WC.rs [(0, 2)] rfl ?_
 refine WO.pn 1 rfl ?_
 refine WO.fin ?_
 refine DN.seq ?_
 refine WC.seq ?_
 refine WC.rs [(0, 1), (1, 2), (2, 1), (3, 2)] rfl ?_
 have f9 := f4.stp S7 rfl rfl
 refine WO.k1 trivial rfl rfl rfl rfl (rn_la (cs := [.slice a0_0_0 p0.Arena.Owner.length u0_0_0, .slice a0_0_1 p0.Arena.Next.length u0_0_1, .slice a0_1 p0.Prio.length u0_1]) Try.isAgg57 Try.sizeOf57 rfl rfl rfl (haE f9.cells)) ?_
 refine WO.pn 1 rfl ?_
 obtain ⟨x13, hx13, h⟩ := Option.bind_eq_some_iff.mp h
 have f10 := g0_0_0.stp (S3.tr S7) rfl rfl
 have f11 := g0_0_1.stp (S3.tr S7) rfl rfl
 have f12 := g0_1.stp (S3.tr S7) rfl rfl
 refine WO.call rfl rfl rfl rfl rfl rfl Try.call33 (l_szParity_ok (κ := fun b => mp [] 0 (K6 b)) (Sl.map f10 (mp [] 0) rfl rfl) (Sl.map f11 (mp [] 0) rfl rfl) (Sl.map f12 (mp [] 0) rfl rfl) hx13) ?_
 rintro _ w13 ⟨k14, rfl, e15⟩
 obtain ⟨K16, S17, m18⟩ := Ent.mixed (l := []) (κ := K6) e15 4 rfl
 refine ⟨trivial, ?_⟩
 refine WO.pn 1 rfl ?_
 refine WO.fin ?_
 refine DN.seq ?_
 refine WC.seq ?_
 refine WC.seq ?_
 refine WC.rs [(0, 2), (1, 2)] rfl ?_
 refine WO.pn 2 rfl ?_
 refine WO.fin ?_
 refine DN.seq ?_
 revert h
 cases ht20 : decide (x13 < 0) with
 | true =>
  intro h; replace h := cT h
  refine WC.ct rfl ?_
  refine WC.seq ?_
  refine WC.rs [(0, 2)] rfl ?_
  refine WO.pn 1 rfl ?_
  refine WO.fin ?_
  refine DN.seq ?_
  refine WC.ret ?_
  refine DN.retThen ?_
  have f21 := hE.stp (S3.tr (S7.tr S17)) rfl rfl
  refine DN.res (l := [.tmp 4]) Try.results8 (res_tmp rfl rfl) rfl ?_
  obtain rfl := Option.some.inj h
  exact ⟨K16, rfl, f21⟩
 | false =>
  intro h; replace h := cF h
  refine WC.cf rfl ?_
  refine WC.skip ?_
  refine DN.seq ?_
  refine WC.seq ?_
  obtain ⟨x18, hx18, h⟩ := Option.bind_eq_some_iff.mp h
  obtain ⟨x20, hx20, h⟩ := Option.bind_eq_some_iff.mp h
  obtain ⟨x21, hx21, h⟩ := Option.bind_eq_some_iff.mp h
  refine WC.meet (fun L w' => ∃ (κ' : Col) (b6 : Nat), L = [(2, .pointer (some ⟨b2, 0, none⟩)), (3, .pointer (some ⟨b3, 0, none⟩)), (6, .pointer (some ⟨b6, 0, none⟩)), (7, .bool x21.2)] ∧ Stp [6, 11, 13, 15] K16 w13 κ' w' ∧ Bc κ' w' 6 b6 66 [.int .i64 x21.1.Kind, .int .i64 x21.1.V, .int .i64 x21.1.N]) ?_ ?_
  ·
   refine WC.rxt (κ := K16) 5 none (by kernel_rfl) fun w27 S28 => ?_
   refine WA.seg (fuel := 9) [(0, 0), (2, 0)] (by kernel_rfl) (by kernel_rfl) rfl ?_
   have f29 := f9.stp (S17.tr S28) rfl rfl
   refine WO.k0 rfl rfl rfl rfl (rn_la (cs := [.slice a0_0_0 p0.Arena.Owner.length u0_0_0, .slice a0_0_1 p0.Arena.Next.length u0_0_1, .slice a0_1 p0.Prio.length u0_1]) Try.isAgg57 Try.sizeOf57 rfl rfl rfl (haC f29.cells rfl)) ?_
   have f30 := f8.stp (S17.tr S28) rfl rfl
   refine WO.k0 rfl rfl rfl rfl (rn_la (cs := [.int .i64 p1.Kind, .int .i64 p1.V, .int .i64 p1.N]) Try.isAgg59 Try.sizeOf59 rfl rfl rfl (haC f30.cells rfl)) ?_
   refine WO.wa ?_
   refine WA.fork2 (fuel := 8) 1 8 (by kernel_rfl) rfl ?_ ?_
   ·
    have f31 := f10.stp (S17.tr S28) rfl rfl
    have f32 := f11.stp (S17.tr S28) rfl rfl
    have f33 := f12.stp (S17.tr S28) rfl rfl
    refine WO.call rfl rfl rfl rfl rfl rfl Try.call35 (l_toParity_ok (κ := fun b => mp [] 0 (K16 b)) (Sl.map f31 (mp [] 0) rfl rfl) (Sl.map f32 (mp [] 0) rfl rfl) (Sl.map f33 (mp [] 0) rfl rfl) hx18) ?_
    rintro _ w34 ⟨k35, a18_0, u18_0, a18_1, u18_1, a18_2, u18_2, rfl, e36, f37, f38, f39⟩
    obtain ⟨K40, S41, m42⟩ := Ent.mixed (l := []) (κ := K16) e36 6 rfl
    refine ⟨(S41.cl rfl), ?_⟩
    have f44 := f37.mx (no_int _) m42 rfl (rfl : 6 + 2 = 8)
    have f45 := f38.mx (no_own (no_int _) _) m42 rfl (rfl : 6 + 3 = 9)
    have f46 := f39.mx (no_int _) m42 rfl (rfl : 6 + 4 = 10)
    refine WO.wa ?_
    refine WA.fork2 (fuel := 7) 3 8 (by kernel_rfl) rfl ?_ ?_
    ·
     refine WO.call rfl rfl rfl rfl rfl rfl Try.call36 (l_toEdit_ok (κ := fun b => mp [] 0 (K40 b)) hx20) ?_
     rintro _ w47 ⟨k48, rfl, e49⟩
     obtain ⟨K50, S51, m52⟩ := Ent.mixed (l := []) (κ := K40) e49 11 rfl
     refine ⟨((S41.tr S51).cl rfl), ?_⟩
     refine WO.wa ?_
     refine WA.fork2 (fuel := 6) 4 8 (by kernel_rfl) rfl ?_ ?_
     ·
      have f54 := f44.stp S51 rfl rfl
      have f55 := f45.stp S51 rfl rfl
      have f56 := f46.stp S51 rfl rfl
      refine WO.call rfl rfl rfl rfl rfl rfl Try.call42 (s_UndoneBy_ok (κ := fun b => mp [] 0 (K50 b)) (Sl.map f54.rdc (mp [] 0) rfl rfl) (Sl.map f55.rdc (mp [] 0) rfl rfl) (Sl.map f56.rdc (mp [] 0) rfl rfl) hx21) ?_
      rintro _ w57 ⟨k58, rfl, e59⟩
      obtain ⟨K60, S61, m62⟩ := Ent.mixed (l := []) (κ := K50) e59 13 rfl
      refine ⟨((S41.tr (S51.tr S61)).cl rfl), ?_⟩
      refine WO.wa ?_
      refine WA.seg (fuel := 0) [(5, 2), (6, 2), (7, 2), (8, 1), (9, 1), (10, 2)] (by kernel_rfl) (by kernel_rfl) rfl ?_
      refine WO.pn 3 rfl ?_
      refine WO.alloc (κ := K60) 15 rfl rfl rfl rfl rfl Try.zeroValue66 rfl fun b6 w64 K65 S66 f67 => ⟨((S41.tr (S51.tr (S61.tr S66))).cl rfl), ?_⟩
      refine WO.stB0 (κ := K65) 15 (vc := [.int .i64 x21.1.Kind, .int .i64 x21.1.V, .int .i64 x21.1.N]) rfl rfl rfl rfl rfl rfl rfl Try.sizeOf66 rfl rfl f67 rfl fun w68 S69 f70 => ⟨((S41.tr (S51.tr (S61.tr (S66.tr S69)))).cl rfl), ?_⟩
      refine WO.pn 1 rfl ?_
      refine WO.wa ?_
      refine WA.last [] (by kernel_rfl) (by kernel_rfl) rfl ?_
      refine WO.fin ?_
      exact DN.meet _ ⟨(fun b => ren [(15, 6)] (K65 b)), b6, rfl, (Stp.ren ((S28.tr (S41.tr (S51.tr (S61.tr (S66.tr S69))))).wk rfl) [(15, 6)] rfl), (f70.map (ren [(15, 6)]) rfl rfl)⟩ fun a ha => (ha.more (ha.more (ha.more (ha.more ha.nil rfl) rfl) rfl) rfl)
     ·
      refine WO.alloc (κ := K50) 13 rfl rfl rfl rfl rfl Try.zeroValue66 rfl fun b6 w71 K72 S73 f74 => ⟨((S41.tr (S51.tr S73)).cl rfl), ?_⟩
      refine WO.wa ?_
      refine WA.seg (fuel := 0) [(4, 1), (5, 2), (6, 2), (7, 2), (9, 1), (10, 2)] (by kernel_rfl) (by kernel_rfl) rfl ?_
      have f75 := f44.stp (S51.tr S73) rfl rfl
      have f76 := f45.stp (S51.tr S73) rfl rfl
      have f77 := f46.stp (S51.tr S73) rfl rfl
      refine WO.call rfl rfl rfl rfl rfl rfl Try.call42 (s_UndoneBy_ok (κ := fun b => mp [] 0 (K72 b)) (Sl.map f75.rdc (mp [] 0) rfl rfl) (Sl.map f76.rdc (mp [] 0) rfl rfl) (Sl.map f77.rdc (mp [] 0) rfl rfl) hx21) ?_
      rintro _ w78 ⟨k79, rfl, e80⟩
      obtain ⟨K81, S82, m83⟩ := Ent.mixed (l := []) (κ := K72) e80 14 rfl
      refine ⟨((S41.tr (S51.tr (S73.tr S82))).cl rfl), ?_⟩
      refine WO.pn 3 rfl ?_
      have f85 := f74.stp S82 rfl rfl
      refine WO.stB0 (κ := K81) 13 (vc := [.int .i64 x21.1.Kind, .int .i64 x21.1.V, .int .i64 x21.1.N]) rfl rfl rfl rfl rfl rfl rfl Try.sizeOf66 rfl rfl f85 rfl fun w86 S87 f88 => ⟨((S41.tr (S51.tr (S73.tr (S82.tr S87)))).cl rfl), ?_⟩
      refine WO.pn 1 rfl ?_
      refine WO.wa ?_
      refine WA.last [] (by kernel_rfl) (by kernel_rfl) rfl ?_
      refine WO.fin ?_
      exact DN.meet _ ⟨(fun b => ren [(13, 6)] (K81 b)), b6, rfl, (Stp.ren ((S28.tr (S41.tr (S51.tr (S73.tr (S82.tr S87))))).wk rfl) [(13, 6)] rfl), (f88.map (ren [(13, 6)]) rfl rfl)⟩ fun a ha => (ha.more (ha.more (ha.more (ha.more ha.nil rfl) rfl) rfl) rfl)
    ·
     refine WO.alloc (κ := K40) 11 rfl rfl rfl rfl rfl Try.zeroValue66 rfl fun b6 w89 K90 S91 f92 => ⟨((S41.tr S91).cl rfl), ?_⟩
     refine WO.wa ?_
     refine WA.seg (fuel := 0) [(3, 1), (4, 1), (5, 2), (6, 2), (7, 2), (9, 1), (10, 2)] (by kernel_rfl) (by kernel_rfl) rfl ?_
     refine WO.call rfl rfl rfl rfl rfl rfl Try.call36 (l_toEdit_ok (κ := fun b => mp [] 0 (K90 b)) hx20) ?_
     rintro _ w93 ⟨k94, rfl, e95⟩
     obtain ⟨K96, S97, m98⟩ := Ent.mixed (l := []) (κ := K90) e95 12 rfl
     refine ⟨((S41.tr (S91.tr S97)).cl rfl), ?_⟩
     have f100 := f44.stp (S91.tr S97) rfl rfl
     have f101 := f45.stp (S91.tr S97) rfl rfl
     have f102 := f46.stp (S91.tr S97) rfl rfl
     refine WO.call rfl rfl rfl rfl rfl rfl Try.call42 (s_UndoneBy_ok (κ := fun b => mp [] 0 (K96 b)) (Sl.map f100.rdc (mp [] 0) rfl rfl) (Sl.map f101.rdc (mp [] 0) rfl rfl) (Sl.map f102.rdc (mp [] 0) rfl rfl) hx21) ?_
     rintro _ w103 ⟨k104, rfl, e105⟩
     obtain ⟨K106, S107, m108⟩ := Ent.mixed (l := []) (κ := K96) e105 14 rfl
     refine ⟨((S41.tr (S91.tr (S97.tr S107))).cl rfl), ?_⟩
     refine WO.pn 3 rfl ?_
     have f110 := f92.stp (S97.tr S107) rfl rfl
     refine WO.stB0 (κ := K106) 11 (vc := [.int .i64 x21.1.Kind, .int .i64 x21.1.V, .int .i64 x21.1.N]) rfl rfl rfl rfl rfl rfl rfl Try.sizeOf66 rfl rfl f110 rfl fun w111 S112 f113 => ⟨((S41.tr (S91.tr (S97.tr (S107.tr S112)))).cl rfl), ?_⟩
     refine WO.pn 1 rfl ?_
     refine WO.wa ?_
     refine WA.last [] (by kernel_rfl) (by kernel_rfl) rfl ?_
     refine WO.fin ?_
     exact DN.meet _ ⟨(fun b => ren [(11, 6)] (K106 b)), b6, rfl, (Stp.ren ((S28.tr (S41.tr (S91.tr (S97.tr (S107.tr S112))))).wk rfl) [(11, 6)] rfl), (f113.map (ren [(11, 6)]) rfl rfl)⟩ fun a ha => (ha.more (ha.more (ha.more (ha.more ha.nil rfl) rfl) rfl) rfl)
   ·
    refine WO.alloc (κ := K16) 6 rfl rfl rfl rfl rfl Try.zeroValue66 rfl fun b6 w114 K115 S116 f117 => ⟨(S116.cl rfl), ?_⟩
    refine WO.wa ?_
    refine WA.seg (fuel := 0) [(1, 1), (3, 1), (4, 1), (5, 2), (6, 2), (7, 2), (9, 1), (10, 2)] (by kernel_rfl) (by kernel_rfl) rfl ?_
    have f118 := f10.stp (S17.tr (S28.tr S116)) rfl rfl
    have f119 := f11.stp (S17.tr (S28.tr S116)) rfl rfl
    have f120 := f12.stp (S17.tr (S28.tr S116)) rfl rfl
    refine WO.call rfl rfl rfl rfl rfl rfl Try.call35 (l_toParity_ok (κ := fun b => mp [] 0 (K115 b)) (Sl.map f118 (mp [] 0) rfl rfl) (Sl.map f119 (mp [] 0) rfl rfl) (Sl.map f120 (mp [] 0) rfl rfl) hx18) ?_
    rintro _ w121 ⟨k122, a18_0, u18_0, a18_1, u18_1, a18_2, u18_2, rfl, e123, f124, f125, f126⟩
    obtain ⟨K127, S128, m129⟩ := Ent.mixed (l := []) (κ := K115) e123 7 rfl
    refine ⟨((S116.tr S128).cl rfl), ?_⟩
    have f131 := f124.mx (no_int _) m129 rfl (rfl : 7 + 2 = 9)
    have f132 := f125.mx (no_own (no_int _) _) m129 rfl (rfl : 7 + 3 = 10)
    have f133 := f126.mx (no_int _) m129 rfl (rfl : 7 + 4 = 11)
    refine WO.call rfl rfl rfl rfl rfl rfl Try.call36 (l_toEdit_ok (κ := fun b => mp [] 0 (K127 b)) hx20) ?_
    rintro _ w134 ⟨k135, rfl, e136⟩
    obtain ⟨K137, S138, m139⟩ := Ent.mixed (l := []) (κ := K127) e136 12 rfl
    refine ⟨((S116.tr (S128.tr S138)).cl rfl), ?_⟩
    have f141 := f131.stp S138 rfl rfl
    have f142 := f132.stp S138 rfl rfl
    have f143 := f133.stp S138 rfl rfl
    refine WO.call rfl rfl rfl rfl rfl rfl Try.call42 (s_UndoneBy_ok (κ := fun b => mp [] 0 (K137 b)) (Sl.map f141.rdc (mp [] 0) rfl rfl) (Sl.map f142.rdc (mp [] 0) rfl rfl) (Sl.map f143.rdc (mp [] 0) rfl rfl) hx21) ?_
    rintro _ w144 ⟨k145, rfl, e146⟩
    obtain ⟨K147, S148, m149⟩ := Ent.mixed (l := []) (κ := K137) e146 14 rfl
    refine ⟨((S116.tr (S128.tr (S138.tr S148))).cl rfl), ?_⟩
    refine WO.pn 3 rfl ?_
    have f151 := f117.stp (S128.tr (S138.tr S148)) rfl rfl
    refine WO.stB0 (κ := K147) 6 (vc := [.int .i64 x21.1.Kind, .int .i64 x21.1.V, .int .i64 x21.1.N]) rfl rfl rfl rfl rfl rfl rfl Try.sizeOf66 rfl rfl f151 rfl fun w152 S153 f154 => ⟨((S116.tr (S128.tr (S138.tr (S148.tr S153)))).cl rfl), ?_⟩
    refine WO.pn 1 rfl ?_
    refine WO.wa ?_
    refine WA.last [] (by kernel_rfl) (by kernel_rfl) rfl ?_
    refine WO.fin ?_
    exact DN.meet _ ⟨K147, b6, rfl, (S28.tr (S116.tr (S128.tr (S138.tr (S148.tr S153))))).wk rfl, f154⟩ fun a ha => (ha.more (ha.more (ha.more (ha.more ha.nil rfl) rfl) rfl) rfl)
  rintro _ w22 ⟨K23, b6, rfl, S24, f26⟩
  refine DN.seq ?_
  refine WC.seq ?_
  refine WC.rs [(0, 1), (1, 1), (2, 1), (3, 1)] rfl ?_
  have f155 := f9.stp (S17.tr S24) rfl rfl
  refine WO.k1 trivial rfl rfl rfl rfl (rn_la (cs := [.slice a0_0_0 p0.Arena.Owner.length u0_0_0, .slice a0_0_1 p0.Arena.Next.length u0_0_1, .slice a0_1 p0.Prio.length u0_1]) Try.isAgg57 Try.sizeOf57 rfl rfl rfl (haE f155.cells)) ?_
  obtain ⟨x25, hx25, h⟩ := Option.bind_eq_some_iff.mp h
  have f156 := f10.stp (S17.tr S24) rfl rfl
  have f157 := f11.stp (S17.tr S24) rfl rfl
  have f158 := f12.stp (S17.tr S24) rfl rfl
  refine WO.call rfl rfl rfl rfl rfl rfl Try.call35 (l_toParity_ok (κ := fun b => mp [] 0 (K23 b)) (Sl.map f156 (mp [] 0) rfl rfl) (Sl.map f157 (mp [] 0) rfl rfl) (Sl.map f158 (mp [] 0) rfl rfl) hx25) ?_
  rintro _ w159 ⟨k160, a25_0, u25_0, a25_1, u25_1, a25_2, u25_2, rfl, e161, f162, f163, f164⟩
  obtain ⟨K165, S166, m167⟩ := Ent.mixed (l := []) (κ := K23) e161 7 rfl
  refine ⟨trivial, ?_⟩
  have f169 := f162.mx (no_int _) m167 rfl (rfl : 7 + 2 = 9)
  have f170 := f163.mx (no_own (no_int _) _) m167 rfl (rfl : 7 + 3 = 10)
  have f171 := f164.mx (no_int _) m167 rfl (rfl : 7 + 4 = 11)
  refine WO.alloc (κ := K165) 12 rfl rfl rfl rfl rfl Try.zeroValue64 rfl fun b8 w172 K173 S174 f175 => ⟨trivial, ?_⟩
  refine WO.stB0 (κ := K173) 12 (vc := [.slice a25_0 x25.Arena.Owner.length u25_0, .slice a25_1 x25.Arena.Next.length u25_1, .slice a25_2 x25.Prio.length u25_2]) rfl rfl rfl rfl rfl rfl rfl Try.sizeOf64 rfl rfl f175 rfl fun w176 S177 f178 => ⟨trivial, ?_⟩
  refine WO.fin ?_
  refine DN.seq ?_
  refine WC.seq ?_
  obtain ⟨x29, hx29, h⟩ := Option.bind_eq_some_iff.mp h
  obtain ⟨x30, hx30, h⟩ := Option.bind_eq_some_iff.mp h
  refine WC.meet (fun L w' => ∃ (κ' : Col) (b9 : Nat), L = [(2, .pointer (some ⟨b2, 0, none⟩)), (6, .pointer (some ⟨b6, 0, none⟩)), (7, .bool x21.2), (8, .pointer (some ⟨b8, 0, none⟩)), (9, .pointer (some ⟨b9, 0, none⟩)), (10, .bool x30.2)] ∧ Stp [13, 15, 17] K173 w176 κ' w' ∧ Bc κ' w' 13 b9 66 [.int .i64 x30.1.Kind, .int .i64 x30.1.V, .int .i64 x30.1.N]) ?_ ?_
  ·
   refine WC.rxt (κ := K173) 12 none (by kernel_rfl) fun w184 S185 => ?_
   refine WA.seg (fuel := 8) [(0, 0), (1, 0)] (by kernel_rfl) (by kernel_rfl) rfl ?_
   have f186 := f178.stp S185 rfl rfl
   refine WO.k0 rfl rfl rfl rfl (rn_la (cs := [.slice a25_0 x25.Arena.Owner.length u25_0, .slice a25_1 x25.Arena.Next.length u25_1, .slice a25_2 x25.Prio.length u25_2]) Try.isAgg64 Try.sizeOf64 rfl rfl rfl (haC f186.cells rfl)) ?_
   have f187 := f8.stp (S17.tr (S24.tr (S166.tr (S174.tr (S177.tr S185))))) rfl rfl
   refine WO.k0 rfl rfl rfl rfl (rn_la (cs := [.int .i64 p1.Kind, .int .i64 p1.V, .int .i64 p1.N]) Try.isAgg59 Try.sizeOf59 rfl rfl rfl (haC f187.cells rfl)) ?_
   refine WO.wa ?_
   refine WA.fork2 (fuel := 7) 2 7 (by kernel_rfl) rfl ?_ ?_
   ·
    refine WO.call rfl rfl rfl rfl rfl rfl Try.call36 (l_toEdit_ok (κ := fun b => mp [] 0 (K173 b)) hx29) ?_
    rintro _ w188 ⟨k189, rfl, e190⟩
    obtain ⟨K191, S192, m193⟩ := Ent.mixed (l := []) (κ := K173) e190 13 rfl
    refine ⟨(S192.cl rfl), ?_⟩
    refine WO.wa ?_
    refine WA.fork2 (fuel := 6) 3 7 (by kernel_rfl) rfl ?_ ?_
    ·
     have f195 := f169.stp (S174.tr (S177.tr (S185.tr S192))) rfl rfl
     have f196 := f170.stp (S174.tr (S177.tr (S185.tr S192))) rfl rfl
     have f197 := f171.stp (S174.tr (S177.tr (S185.tr S192))) rfl rfl
     refine WO.call rfl rfl rfl rfl rfl rfl Try.call43 (i_UndoneBy_ok (κ := fun b => mp [] 0 (K191 b)) (Sl.map f195.rdc (mp [] 0) rfl rfl) (Sl.map f196.rdc (mp [] 0) rfl rfl) (Sl.map f197.rdc (mp [] 0) rfl rfl) hx30) ?_
     rintro _ w198 ⟨k199, rfl, e200⟩
     obtain ⟨K201, S202, m203⟩ := Ent.mixed (l := []) (κ := K191) e200 15 rfl
     refine ⟨((S192.tr S202).cl rfl), ?_⟩
     refine WO.wa ?_
     refine WA.seg (fuel := 0) [(4, 2), (5, 2), (6, 2), (7, 1), (8, 1), (9, 2)] (by kernel_rfl) (by kernel_rfl) rfl ?_
     refine WO.pn 3 rfl ?_
     refine WO.alloc (κ := K201) 17 rfl rfl rfl rfl rfl Try.zeroValue66 rfl fun b9 w205 K206 S207 f208 => ⟨((S192.tr (S202.tr S207)).cl rfl), ?_⟩
     refine WO.stB0 (κ := K206) 17 (vc := [.int .i64 x30.1.Kind, .int .i64 x30.1.V, .int .i64 x30.1.N]) rfl rfl rfl rfl rfl rfl rfl Try.sizeOf66 rfl rfl f208 rfl fun w209 S210 f211 => ⟨((S192.tr (S202.tr (S207.tr S210))).cl rfl), ?_⟩
     refine WO.pn 1 rfl ?_
     refine WO.wa ?_
     refine WA.last [] (by kernel_rfl) (by kernel_rfl) rfl ?_
     refine WO.fin ?_
     exact DN.meet _ ⟨(fun b => ren [(17, 13)] (K206 b)), b9, rfl, (Stp.ren ((S185.tr (S192.tr (S202.tr (S207.tr S210)))).wk rfl) [(17, 13)] rfl), (f211.map (ren [(17, 13)]) rfl rfl)⟩ fun a ha => (ha.more (ha.more (ha.more (ha.more (ha.more (ha.more ha.nil rfl) rfl) rfl) rfl) rfl) rfl)
    ·
     refine WO.alloc (κ := K191) 15 rfl rfl rfl rfl rfl Try.zeroValue66 rfl fun b9 w212 K213 S214 f215 => ⟨((S192.tr S214).cl rfl), ?_⟩
     refine WO.wa ?_
     refine WA.seg (fuel := 0) [(3, 1), (4, 2), (5, 2), (6, 2), (8, 1), (9, 2)] (by kernel_rfl) (by kernel_rfl) rfl ?_
     have f216 := f169.stp (S174.tr (S177.tr (S185.tr (S192.tr S214)))) rfl rfl
     have f217 := f170.stp (S174.tr (S177.tr (S185.tr (S192.tr S214)))) rfl rfl
     have f218 := f171.stp (S174.tr (S177.tr (S185.tr (S192.tr S214)))) rfl rfl
     refine WO.call rfl rfl rfl rfl rfl rfl Try.call43 (i_UndoneBy_ok (κ := fun b => mp [] 0 (K213 b)) (Sl.map f216.rdc (mp [] 0) rfl rfl) (Sl.map f217.rdc (mp [] 0) rfl rfl) (Sl.map f218.rdc (mp [] 0) rfl rfl) hx30) ?_
     rintro _ w219 ⟨k220, rfl, e221⟩
     obtain ⟨K222, S223, m224⟩ := Ent.mixed (l := []) (κ := K213) e221 16 rfl
     refine ⟨((S192.tr (S214.tr S223)).cl rfl), ?_⟩
     refine WO.pn 3 rfl ?_
     have f226 := f215.stp S223 rfl rfl
     refine WO.stB0 (κ := K222) 15 (vc := [.int .i64 x30.1.Kind, .int .i64 x30.1.V, .int .i64 x30.1.N]) rfl rfl rfl rfl rfl rfl rfl Try.sizeOf66 rfl rfl f226 rfl fun w227 S228 f229 => ⟨((S192.tr (S214.tr (S223.tr S228))).cl rfl), ?_⟩
     refine WO.pn 1 rfl ?_
     refine WO.wa ?_
     refine WA.last [] (by kernel_rfl) (by kernel_rfl) rfl ?_
     refine WO.fin ?_
     exact DN.meet _ ⟨(fun b => ren [(15, 13)] (K222 b)), b9, rfl, (Stp.ren ((S185.tr (S192.tr (S214.tr (S223.tr S228)))).wk rfl) [(15, 13)] rfl), (f229.map (ren [(15, 13)]) rfl rfl)⟩ fun a ha => (ha.more (ha.more (ha.more (ha.more (ha.more (ha.more ha.nil rfl) rfl) rfl) rfl) rfl) rfl)
   ·
    refine WO.alloc (κ := K173) 13 rfl rfl rfl rfl rfl Try.zeroValue66 rfl fun b9 w230 K231 S232 f233 => ⟨(S232.cl rfl), ?_⟩
    refine WO.wa ?_
    refine WA.seg (fuel := 0) [(2, 1), (3, 1), (4, 2), (5, 2), (6, 2), (8, 1), (9, 2)] (by kernel_rfl) (by kernel_rfl) rfl ?_
    refine WO.call rfl rfl rfl rfl rfl rfl Try.call36 (l_toEdit_ok (κ := fun b => mp [] 0 (K231 b)) hx29) ?_
    rintro _ w234 ⟨k235, rfl, e236⟩
    obtain ⟨K237, S238, m239⟩ := Ent.mixed (l := []) (κ := K231) e236 14 rfl
    refine ⟨((S232.tr S238).cl rfl), ?_⟩
    have f241 := f169.stp (S174.tr (S177.tr (S185.tr (S232.tr S238)))) rfl rfl
    have f242 := f170.stp (S174.tr (S177.tr (S185.tr (S232.tr S238)))) rfl rfl
    have f243 := f171.stp (S174.tr (S177.tr (S185.tr (S232.tr S238)))) rfl rfl
    refine WO.call rfl rfl rfl rfl rfl rfl Try.call43 (i_UndoneBy_ok (κ := fun b => mp [] 0 (K237 b)) (Sl.map f241.rdc (mp [] 0) rfl rfl) (Sl.map f242.rdc (mp [] 0) rfl rfl) (Sl.map f243.rdc (mp [] 0) rfl rfl) hx30) ?_
    rintro _ w244 ⟨k245, rfl, e246⟩
    obtain ⟨K247, S248, m249⟩ := Ent.mixed (l := []) (κ := K237) e246 16 rfl
    refine ⟨((S232.tr (S238.tr S248)).cl rfl), ?_⟩
    refine WO.pn 3 rfl ?_
    have f251 := f233.stp (S238.tr S248) rfl rfl
    refine WO.stB0 (κ := K247) 13 (vc := [.int .i64 x30.1.Kind, .int .i64 x30.1.V, .int .i64 x30.1.N]) rfl rfl rfl rfl rfl rfl rfl Try.sizeOf66 rfl rfl f251 rfl fun w252 S253 f254 => ⟨((S232.tr (S238.tr (S248.tr S253))).cl rfl), ?_⟩
    refine WO.pn 1 rfl ?_
    refine WO.wa ?_
    refine WA.last [] (by kernel_rfl) (by kernel_rfl) rfl ?_
    refine WO.fin ?_
    exact DN.meet _ ⟨K247, b9, rfl, (S185.tr (S232.tr (S238.tr (S248.tr S253)))).wk rfl, f254⟩ fun a ha => (ha.more (ha.more (ha.more (ha.more (ha.more (ha.more ha.nil rfl) rfl) rfl) rfl) rfl) rfl)
  rintro _ w179 ⟨K180, b9, rfl, S181, f183⟩
  refine DN.seq ?_
  refine WC.seq ?_
  refine WC.seq ?_
  refine WC.rs [(0, 1), (1, 1), (2, 1), (3, 2), (4, 2), (5, 2), (6, 2), (7, 2), (8, 2)] rfl ?_
  refine WO.k1 trivial rfl rfl rfl rfl (rn_la (cs := [.int .i64 x30.1.Kind, .int .i64 x30.1.V, .int .i64 x30.1.N]) Try.isAgg66 Try.sizeOf66 rfl rfl rfl (haE f183.cells)) ?_
  have f255 := f26.stp (S166.tr (S174.tr (S177.tr S181))) rfl rfl
  refine WO.k1 trivial rfl rfl rfl rfl (rn_la (cs := [.int .i64 x21.1.Kind, .int .i64 x21.1.V, .int .i64 x21.1.N]) Try.isAgg66 Try.sizeOf66 rfl rfl rfl (haE f255.cells)) ?_
  obtain ⟨x35, hx35, h⟩ := Option.bind_eq_some_iff.mp h
  refine WO.call rfl rfl rfl rfl rfl rfl Try.call44 (l_eqEdit_ok (κ := fun b => mp [] 0 (K180 b)) hx35) ?_
  rintro _ w256 ⟨k257, rfl, e258⟩
  obtain ⟨K259, S260, m261⟩ := Ent.mixed (l := []) (κ := K180) e258 14 rfl
  refine ⟨trivial, ?_⟩
  refine WO.pn 2 rfl ?_
  obtain ⟨p41, h, hK263⟩ := Option.bind_eq_some_iff.mp h
  refine WO.meet [(5, 2), (6, 2), (7, 2), (8, 2)] [] (fun L w' => L = [(2, .pointer (some ⟨b2, 0, none⟩)), (8, .pointer (some ⟨b8, 0, none⟩)), (41, .bool p41)] ∧ ∃ κ', Stp [] K259 w256 κ' w') trivial ?_ ?_
  ·
   revert h
   cases ht264 : (!x35) with
   | true =>
    intro h; replace h := cT h
    refine WO.pn 4 rfl ?_
    obtain rfl := Option.some.inj h
    exact WO.met _ trivial ⟨rfl, _, (Stp.refl _ _).wk rfl⟩ fun a ha => (ha.more (ha.more (ha.more ha.nil rfl) rfl) rfl)
   | false =>
    intro h; replace h := cF h
    refine WO.pn 2 rfl ?_
    refine WO.k2 rfl rfl rfl rfl (rn_neqB rfl rfl Try.runUnderlying4 rfl) ?_
    refine WO.pn 1 rfl ?_
    obtain rfl := Option.some.inj h
    exact WO.met _ trivial ⟨rfl, _, (Stp.refl _ _).wk rfl⟩ fun a ha => (ha.more (ha.more (ha.more ha.nil rfl) rfl) rfl)
  rintro _ w265 _ ⟨rfl, K266, S267⟩
  have h := hK263
  refine WO.fin ?_
  refine DN.seq ?_
  revert h
  cases ht268 : p41 with
  | true =>
   intro h; replace h := cT h
   refine WC.ct rfl ?_
   refine WC.seq ?_
   refine WC.rs [(0, 2)] rfl ?_
   refine WO.pn 1 rfl ?_
   refine WO.fin ?_
   refine DN.seq ?_
   refine WC.ret ?_
   refine DN.retThen ?_
   have f269 := hE.stp (S3.tr (S7.tr (S17.tr (S24.tr (S166.tr (S174.tr (S177.tr (S181.tr (S260.tr S267))))))))) rfl rfl
   refine DN.res (l := [.tmp 4]) Try.results8 (res_tmp rfl rfl) rfl ?_
   obtain rfl := Option.some.inj h
   exact ⟨K266, rfl, f269⟩
  | false =>
   intro h; replace h := cF h
   refine WC.cf rfl ?_
   refine WC.skip ?_
   refine DN.seq ?_
   refine WC.seq ?_
   refine WC.seq ?_
   refine WC.rx (κ := K266) 15 none [(0, 0), (1, 0), (2, 1), (3, 1), (4, 2)] [] (by kernel_rfl) (by kernel_rfl) fun w271 S270 => ?_
   have f272 := f178.stp (S181.tr (S260.tr (S267.tr S270))) rfl rfl
   refine WO.k0 rfl rfl rfl rfl (rn_la (cs := [.slice a25_0 x25.Arena.Owner.length u25_0, .slice a25_1 x25.Arena.Next.length u25_1, .slice a25_2 x25.Prio.length u25_2]) Try.isAgg64 Try.sizeOf64 rfl rfl rfl (haC f272.cells rfl)) ?_
   have f273 := f155.stp (S166.tr (S174.tr (S177.tr (S181.tr (S260.tr (S267.tr S270)))))) rfl rfl
   refine WO.k0 rfl rfl rfl rfl (rn_la (cs := [.slice a0_0_0 p0.Arena.Owner.length u0_0_0, .slice a0_0_1 p0.Arena.Next.length u0_0_1, .slice a0_1 p0.Prio.length u0_1]) Try.isAgg57 Try.sizeOf57 rfl rfl rfl (haC f273.cells rfl)) ?_
   obtain ⟨x44, hx44, h⟩ := Option.bind_eq_some_iff.mp h
   have f274 := f156.stp (S166.tr (S174.tr (S177.tr (S181.tr (S260.tr (S267.tr S270)))))) rfl rfl
   have f275 := f157.stp (S166.tr (S174.tr (S177.tr (S181.tr (S260.tr (S267.tr S270)))))) rfl rfl
   have f276 := f158.stp (S166.tr (S174.tr (S177.tr (S181.tr (S260.tr (S267.tr S270)))))) rfl rfl
   refine WO.call rfl rfl rfl rfl rfl rfl Try.call35 (l_toParity_ok (κ := fun b => mp [] 0 (K266 b)) (Sl.map f274 (mp [] 0) rfl rfl) (Sl.map f275 (mp [] 0) rfl rfl) (Sl.map f276 (mp [] 0) rfl rfl) hx44) ?_
   rintro _ w277 ⟨k278, a44_0, u44_0, a44_1, u44_1, a44_2, u44_2, rfl, e279, f280, f281, f282⟩
   obtain ⟨K283, S284, m285⟩ := Ent.mixed (l := []) (κ := K266) e279 16 rfl
   refine ⟨(S284.cl rfl), ?_⟩
   have f287 := f280.mx (no_int _) m285 rfl (rfl : 16 + 2 = 18)
   have f288 := f281.mx (no_own (no_int _) _) m285 rfl (rfl : 16 + 3 = 19)
   have f289 := f282.mx (no_int _) m285 rfl (rfl : 16 + 4 = 20)
   obtain ⟨x45, hx45, h⟩ := Option.bind_eq_some_iff.mp h
   have f290 := f169.stp (S174.tr (S177.tr (S181.tr (S260.tr (S267.tr (S270.tr S284)))))) rfl rfl
   have f291 := f170.stp (S174.tr (S177.tr (S181.tr (S260.tr (S267.tr (S270.tr S284)))))) rfl rfl
   have f292 := f171.stp (S174.tr (S177.tr (S181.tr (S260.tr (S267.tr (S270.tr S284)))))) rfl rfl
   refine WO.call rfl rfl rfl rfl rfl rfl Try.call38 (l_eqParity_ok (κ := fun b => mp [] 0 (K283 b)) (Sl.map f290.rdc (mp [] 0) rfl rfl) (Sl.map f291.rdc (mp [] 0) rfl rfl) (Sl.map f292.rdc (mp [] 0) rfl rfl) (Sl.map f287.rdc (mp [] 0) rfl rfl) (Sl.map f288.rdc (mp [] 0) rfl rfl) (Sl.map f289.rdc (mp [] 0) rfl rfl) hx45) ?_
   rintro _ w293 ⟨k294, rfl, e295⟩
   obtain ⟨K296, S297, m298⟩ := Ent.mixed (l := []) (κ := K283) e295 21 rfl
   refine ⟨((S284.tr S297).cl rfl), ?_⟩
   refine WO.pn 1 rfl ?_
   refine WO.nx ?_
   refine WO.fin ?_
   refine DN.seq ?_
   revert h
   cases ht300 : (!x45) with
   | true =>
    intro h; replace h := cT h
    refine WC.ct rfl ?_
    refine WC.seq ?_
    refine WC.rs [(0, 2)] rfl ?_
    refine WO.pn 1 rfl ?_
    refine WO.fin ?_
    refine DN.seq ?_
    refine WC.ret ?_
    refine DN.retThen ?_
    have f301 := hE.stp (S3.tr (S7.tr (S17.tr (S24.tr (S166.tr (S174.tr (S177.tr (S181.tr (S260.tr (S267.tr (S270.tr (S284.tr S297)))))))))))) rfl rfl
    refine DN.res (l := [.tmp 4]) Try.results8 (res_tmp rfl rfl) rfl ?_
    obtain rfl := Option.some.inj h
    exact ⟨K296, rfl, f301⟩
   | false =>
    intro h; replace h := cF h
    refine WC.cf rfl ?_
    refine WC.skip ?_
    refine DN.seq ?_
    refine WC.seq ?_
    refine WC.rs [(0, 2)] rfl ?_
    refine WO.pn 1 rfl ?_
    refine WO.fin ?_
    refine DN.seq ?_
    refine WC.ret ?_
    have f302 := hE.stp (S3.tr (S7.tr (S17.tr (S24.tr (S166.tr (S174.tr (S177.tr (S181.tr (S260.tr (S267.tr (S270.tr (S284.tr S297)))))))))))) rfl rfl
    refine DN.res (l := [.tmp 4]) Try.results8 (res_tmp rfl rfl) rfl ?_
    obtain rfl := Option.some.inj h
    exact ⟨K296, rfl, f302⟩

end Go.Proofs.Ytgniipbjjkodaaa
