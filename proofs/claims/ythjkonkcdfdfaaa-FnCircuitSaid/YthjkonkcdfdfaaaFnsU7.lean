/- The walks, part 7. By program. -/
import Derived.Test.YthjkonkcdfdfaaaFnsU6
set_option linter.unusedVariables false
set_option linter.unusedSimpArgs false
namespace Go.Proofs.Ythjkonkcdfdfaaa
open Go Go.Wk Go.Proofs
set_option maxRecDepth 100000
set_option maxHeartbeats 1000000

/- loop.example/g00869/spec.DrawCircuitOf -/
theorem s_DrawCircuitOf_ok {w : World} {κ : Col} {a0 : Option Addr} {u0 : Nat} {p0 : (List Int)} (g0 : Rd (Rp.int .u8) κ w 0 a0 u0 p0) {r : Sig × Machine} (h : s_DrawCircuitOf p0 = some r) : Ret Try.prog 20 [.slice a0 p0.length u0] w (fun v w' => ∃ (κ' : Col) (ra0 : Option Addr) (ru0 : Nat) (ra1 : Option Addr) (ru1 : Nat), v = .tuple #[.agg #[.int .i64 r.1.In, .int .i64 r.1.Out], .agg #[.slice ra0 r.2.Next.length ru0, .slice ra1 r.2.Out.length ru1]] ∧ Ent κ w κ' w' ∧ Oc (Ep.own (Ep.int .i64) 2) 24 κ' w' 2 ra0 ru0 r.2.Next ∧ Oc (Ep.own (Ep.int .i64) 2) 24 κ' w' 3 ra1 ru1 r.2.Out) := by
 unfold s_DrawCircuitOf at h
 refine Ret.enter Try.func20 rfl Try.ntmps20 rfl ?_
 dsimp only [envOf]
 have hE := Ent.refl κ w
 refine WC.seq ?_
 refine WC.rs [(0, 1), (1, 1)] rfl ?_
 refine WO.alloc (κ := κ) 2 rfl rfl rfl rfl rfl Try.zeroValue43 rfl fun b2 w1 K2 S3 f4 => ⟨trivial, ?_⟩
 refine WO.alloc (κ := K2) 3 rfl rfl rfl rfl rfl Try.zeroValue46 rfl fun b3 w5 K6 S7 f8 => ⟨trivial, ?_⟩
 refine WO.fin ?_
 refine DN.seq ?_
 refine WC.seq ?_
 refine WC.rs [(0, 2), (1, 1), (2, 2)] rfl ?_
 refine WO.pn 1 rfl ?_
 obtain ⟨x6, hx6, h⟩ := Option.bind_eq_some_iff.mp h
 have f9 := g0.stp (S3.tr S7) rfl rfl
 refine WO.call rfl rfl rfl rfl rfl rfl Try.call29 (s_l1New_ok (κ := fun b => mp [] 1 (K6 b)) (Sl.map f9 (mp [] 1) rfl rfl) hx6) ?_
 rintro _ w10 ⟨k11, a6_0, u6_0, b6, rfl, e12, f13, f14⟩
 obtain ⟨K15, S16, m17, z18⟩ := Ent.mixed0 (l := []) (κ := K6) e12 4 rfl
 refine ⟨trivial, ?_⟩
 have f19 := f13.mx z18
 have f20 := f14.mx m17 rfl (rfl : 4 + 3 = 7)
 refine WO.pn 1 rfl ?_
 refine WO.fin ?_
 refine DN.seq ?_
 refine WC.seq ?_
 refine WC.rs [(0, 2), (1, 1), (2, 2), (3, 2), (4, 1), (5, 1)] rfl ?_
 refine WO.pn 1 rfl ?_
 obtain ⟨x8, hx8, h⟩ := Option.bind_eq_some_iff.mp h
 refine WO.call rfl rfl rfl rfl rfl rfl Try.call49 (s_l31DrawPair_ok (κ := fun b => mp [(7, 2)] 0 (K15 b)) (p0 := x6) (Sl.map f19 (mp [(7, 2)] 0) rfl rfl) (f20.map (mp [(7, 2)] 0) rfl rfl) hx8) ?_
 rintro _ w21 ⟨k22, a8_0, u8_0, a8_1, u8_1, rfl, e23, f24, f25, f26⟩
 obtain ⟨K27, S28, m29⟩ := Ent.mixed (l := [(7, 2)]) (κ := K15) e23 8 rfl
 refine ⟨trivial, ?_⟩
 have f31 := f24.mx (no_own (no_int _) _) m29 rfl (rfl : 8 + 3 = 11)
 have f32 := f25.mx (no_own (no_int _) _) m29 rfl (rfl : 8 + 4 = 12)
 have f33 := f26.mx m29 rfl (rfl : 8 + 2 = 10)
 refine WO.pn 2 rfl ?_
 have f34 := f4.stp (S7.tr (S16.tr S28)) rfl rfl
 refine WO.stB0 (κ := K27) 2 (vc := [.int .i64 x8.1.In, .int .i64 x8.1.Out]) rfl rfl rfl rfl rfl rfl rfl Try.sizeOf43 rfl rfl f34 rfl fun w35 S36 f37 => ⟨trivial, ?_⟩
 have f38 := f8.stp (S16.tr (S28.tr S36)) rfl rfl
 refine WO.stB0 (κ := K27) 3 (vc := [.slice a8_0 x8.2.1.Next.length u8_0, .slice a8_1 x8.2.1.Out.length u8_1]) rfl rfl rfl rfl rfl rfl rfl Try.sizeOf46 rfl rfl f38 rfl fun w39 S40 f41 => ⟨trivial, ?_⟩
 refine WO.fin ?_
 refine DN.seq ?_
 refine WC.ret ?_
 have f42 := hE.stp (S3.tr (S7.tr (S16.tr (S28.tr (S36.tr S40))))) rfl rfl
 have f43 := f31.stp (S36.tr S40) rfl rfl
 have f44 := f32.stp (S36.tr S40) rfl rfl
 have f45 := f37.stp S40 rfl rfl
 refine DN.res (l := [.cell 2 43, .cell 3 46]) Try.results20 (res_cellA rfl f45 Try.isAgg43 Try.sizeOf43 rfl (res_cellA rfl f41 Try.isAgg46 Try.sizeOf46 rfl rfl)) rfl ?_
 obtain rfl := Option.some.inj h
 exact ⟨(fun b => ren [(11, 2), (12, 3)] (K27 b)), a8_0, u8_0, a8_1, u8_1, rfl, (f42.map (ren [(11, 2), (12, 3)]) rfl rfl), (f43.map (ren [(11, 2), (12, 3)]) rfl rfl), (f44.map (ren [(11, 2), (12, 3)]) rfl rfl)⟩

/- loop.example/g00869/impl.CircuitOf -/
theorem i_CircuitOf_ok {w : World} {κ : Col} {p0 : Sig} {a1_0 : Option Addr} {u1_0 : Nat} {a1_1 : Option Addr} {u1_1 : Nat} {p1 : Machine} (g1_0 : Rd (Rp.sl (Rp.int .i64)) κ w 0 a1_0 u1_0 p1.Next) (g1_1 : Rd (Rp.sl (Rp.int .i64)) κ w 0 a1_1 u1_1 p1.Out) {r : Circuit × Bool} (h : i_CircuitOf p0 p1 = some r) : Ret Try.prog 21 [.agg #[.int .i64 p0.In, .int .i64 p0.Out], .agg #[.slice a1_0 p1.Next.length u1_0, .slice a1_1 p1.Out.length u1_1]] w (fun v w' => ∃ (κ' : Col) (ra0 : Option Addr) (ru0 : Nat) (ra1 : Option Addr) (ru1 : Nat) (ra2 : Option Addr) (ru2 : Nat), v = .tuple #[.agg #[.int .i64 r.1.Inputs, .int .i64 r.1.Latches, .slice ra0 r.1.Next.length ru0, .slice ra1 r.1.Gates.length ru1, .slice ra2 r.1.Outs.length ru2], .bool r.2] ∧ Ent κ w κ' w' ∧ Oc (Ep.int .i64) 2 κ' w' 2 ra0 ru0 r.1.Next ∧ Oc Gate.ep33 33 κ' w' 3 ra1 ru1 r.1.Gates ∧ Oc (Ep.int .i64) 2 κ' w' 4 ra2 ru2 r.1.Outs) := by
 unfold i_CircuitOf at h
 refine Ret.enter Try.func21 rfl Try.ntmps21 rfl ?_
 dsimp only [envOf]
 have hE := Ent.refl κ w
 refine WC.seq ?_
 refine WC.rs [(0, 1), (1, 1), (2, 1), (3, 2)] rfl ?_
 refine WO.box (κ := κ) 2 rfl rfl rfl rfl rfl rfl rfl fun b2 w1 K2 S3 f4 => ⟨trivial, ?_⟩
 refine WO.box (κ := K2) 3 rfl rfl rfl rfl rfl rfl rfl fun b3 w5 K6 S7 f8 => ⟨trivial, ?_⟩
 refine WO.alloc (κ := K6) 4 rfl rfl rfl rfl rfl Try.zeroValue27 rfl fun b4 w9 K10 S11 f12 => ⟨trivial, ?_⟩
 refine WO.pn 1 rfl ?_
 refine WO.fin ?_
 refine DN.seq ?_
 refine WC.seq ?_
 refine WC.seq ?_
 refine WC.rs [(0, 1), (1, 1), (2, 2), (3, 2), (4, 1), (5, 1), (6, 1), (7, 2), (8, 2)] rfl ?_
 have f13 := f4.stp (S7.tr S11) rfl rfl
 refine WO.k1 trivial rfl rfl rfl rfl (rn_la (cs := [.int .i64 p0.In, .int .i64 p0.Out]) Try.isAgg43 Try.sizeOf43 rfl rfl rfl (haE f13.cells)) ?_
 obtain ⟨x16, hx16, h⟩ := Option.bind_eq_some_iff.mp h
 refine WO.call rfl rfl rfl rfl rfl rfl Try.call50 (i_isSig_ok (κ := fun b => mp [] 0 (K10 b)) (p0 := p0) hx16) ?_
 rintro _ w14 ⟨k15, rfl, e16⟩
 obtain ⟨K17, S18, m19⟩ := Ent.mixed (l := []) (κ := K10) e16 5 rfl
 refine ⟨trivial, ?_⟩
 refine WO.pn 2 rfl ?_
 obtain ⟨p23, h, hK21⟩ := Option.bind_eq_some_iff.mp h
 refine WO.meet [(4, 1), (5, 1), (6, 1), (7, 2), (8, 2)] [] (fun L w' => L = [(2, .pointer (some ⟨b2, 0, none⟩)), (3, .pointer (some ⟨b3, 0, none⟩)), (4, .pointer (some ⟨b4, 0, none⟩)), (23, .bool p23)] ∧ ∃ κ', Stp [] K17 w14 κ' w') trivial ?_ ?_
 ·
  revert h
  cases ht22 : (!x16) with
  | true =>
   intro h; replace h := cT h
   refine WO.ls rfl rfl rfl rfl ?_
   refine WO.ls rfl rfl rfl rfl ?_
   refine WO.ls rfl rfl rfl rfl ?_
   refine WO.pn 2 rfl ?_
   obtain rfl := Option.some.inj h
   exact WO.met _ trivial ⟨rfl, _, (Stp.refl _ _).wk rfl⟩ fun a ha => (ha.more (ha.more (ha.more (ha.more ha.nil rfl) rfl) rfl) rfl)
  | false =>
   intro h; replace h := cF h
   have f23 := f13.stp S18 rfl rfl
   refine WO.k1 trivial rfl rfl rfl rfl (rn_la (cs := [.int .i64 p0.In, .int .i64 p0.Out]) Try.isAgg43 Try.sizeOf43 rfl rfl rfl (haE f23.cells)) ?_
   have f24 := f8.stp (S11.tr S18) rfl rfl
   refine WO.k1 trivial rfl rfl rfl rfl (rn_la (cs := [.slice a1_0 p1.Next.length u1_0, .slice a1_1 p1.Out.length u1_1]) Try.isAgg46 Try.sizeOf46 rfl rfl rfl (haE f24.cells)) ?_
   obtain ⟨x21, hx21, h⟩ := Option.bind_eq_some_iff.mp h
   have f25 := g1_0.stp (S3.tr (S7.tr (S11.tr S18))) rfl rfl
   have f26 := g1_1.stp (S3.tr (S7.tr (S11.tr S18))) rfl rfl
   refine WO.call rfl rfl rfl rfl rfl rfl Try.call51 (i_isMachine_ok (κ := fun b => mp [] 0 (K17 b)) (p0 := p0) (p1 := p1) (Sl.map f25 (mp [] 0) rfl rfl) (Sl.map f26 (mp [] 0) rfl rfl) hx21) ?_
   rintro _ w27 ⟨k28, rfl, e29⟩
   obtain ⟨K30, S31, m32⟩ := Ent.mixed (l := []) (κ := K17) e29 7 rfl
   refine ⟨trivial, ?_⟩
   refine WO.pn 2 rfl ?_
   obtain rfl := Option.some.inj h
   exact WO.met _ trivial ⟨rfl, _, S31.wk rfl⟩ fun a ha => (ha.more (ha.more (ha.more (ha.more ha.nil rfl) rfl) rfl) rfl)
 rintro _ w34 _ ⟨rfl, K35, S36⟩
 have h := hK21
 refine WO.fin ?_
 refine DN.seq ?_
 revert h
 cases ht37 : p23 with
 | true =>
  intro h; replace h := cT h
  refine WC.ct rfl ?_
  refine WC.seq ?_
  refine WC.rs [(0, 2), (1, 1), (2, 2)] rfl ?_
  refine WO.k2 rfl rfl rfl rfl (rn_build (parts := []) (cells := [.int .i64 0, .int .i64 0, .slice none 0 0, .slice none 0 0, .slice none 0 0]) rfl rfl (by kernel_rfl)) ?_
  have f38 := f12.stp (S18.tr S36) rfl rfl
  refine WO.stB0 (κ := K35) 4 (vc := [.int .i64 0, .int .i64 0, .slice none 0 0, .slice none 0 0, .slice none 0 0]) rfl rfl rfl rfl rfl rfl rfl Try.sizeOf27 rfl rfl f38 rfl fun w39 S40 f41 => ⟨trivial, ?_⟩
  refine WO.pn 1 rfl ?_
  refine WO.fin ?_
  refine DN.seq ?_
  refine WC.ret ?_
  refine DN.retThen ?_
  have f42 := hE.stp (S3.tr (S7.tr (S11.tr (S18.tr (S36.tr S40))))) rfl rfl
  refine DN.res (l := [.cell 4 27, .tmp 5]) Try.results21 (res_cellA rfl f41 Try.isAgg27 Try.sizeOf27 rfl (res_tmp rfl rfl)) rfl ?_
  obtain rfl := Option.some.inj h
  exact ⟨K35, none, 0, none, 0, none, 0, rfl, f42, Ow.nil, Ow.nil, Ow.nil⟩
 | false =>
  intro h; replace h := cF h
  refine WC.cf rfl ?_
  refine WC.skip ?_
  refine DN.seq ?_
  refine WC.seq ?_
  obtain ⟨x29, hx29, h⟩ := Option.bind_eq_some_iff.mp h
  refine WC.meet (fun L w' => ∃ (κ' : Col) (b6 : Nat) (b7 : Nat), L = [(2, .pointer (some ⟨b2, 0, none⟩)), (3, .pointer (some ⟨b3, 0, none⟩)), (4, .pointer (some ⟨b4, 0, none⟩)), (6, .pointer (some ⟨b6, 0, none⟩)), (7, .pointer (some ⟨b7, 0, none⟩))] ∧ Stp [7, 8, 9, 10] K35 w34 κ' w' ∧ Bc κ' w' 7 b6 2 [.int .i64 (p1.Next.length : Int)] ∧ Bc κ' w' 8 b7 2 [.int .i64 x29]) ?_ ?_
  ·
   refine WC.rxt (κ := K35) [2, 3] none (by kernel_rfl) fun w49 S50 => ?_
   refine WA.seg (fuel := 5) [(0, 2), (1, 0), (2, 2), (3, 0)] (by kernel_rfl) (by kernel_rfl) rfl ?_
   refine WO.k2 rfl rfl rfl rfl (rn_fieldAddr Try.runUnderlying46 rfl Try.sizeOf44 rfl rfl) ?_
   have f51 := f8.stp (S11.tr (S18.tr (S36.tr S50))) rfl rfl
   refine WO.k0 rfl rfl rfl rfl (rn_ld Try.isAgg44 rfl rfl (hvC (f51.ld 0 rfl rfl) rfl)) ?_
   refine WO.k2 rfl rfl rfl rfl (rn_len Try.runUnderlying44 rfl rfl) ?_
   have f52 := f13.stp (S18.tr (S36.tr S50)) rfl rfl
   refine WO.k0 rfl rfl rfl rfl (rn_la (cs := [.int .i64 p0.In, .int .i64 p0.Out]) Try.isAgg43 Try.sizeOf43 rfl rfl rfl (haC f52.cells rfl)) ?_
   refine WO.wa ?_
   refine WA.fork3 (fuel := 4) 4 5 6 (by kernel_rfl) rfl ?_ ?_ ?_
   ·
    refine WO.call rfl rfl rfl rfl rfl rfl Try.call52 (i_inputsOf_ok (κ := fun b => mp [] 0 (K35 b)) (p0 := p0) hx29) ?_
    rintro _ w53 ⟨k54, rfl, e55⟩
    obtain ⟨K56, S57, m58⟩ := Ent.mixed (l := []) (κ := K35) e55 7 rfl
    refine ⟨(S57.cl rfl), ?_⟩
    refine WO.wa ?_
    refine WA.fork2 (fuel := 3) 5 6 (by kernel_rfl) rfl ?_ ?_
    ·
     refine WO.alloc (κ := K56) 9 rfl rfl rfl rfl rfl Try.zeroValue2 rfl fun b6 w60 K61 S62 f63 => ⟨((S57.tr S62).cl rfl), ?_⟩
     refine WO.wa ?_
     refine WA.seg (fuel := 0) [(6, 1), (7, 1), (8, 1)] (by kernel_rfl) (by kernel_rfl) rfl ?_
     refine WO.alloc (κ := K61) 10 rfl rfl rfl rfl rfl Try.zeroValue2 rfl fun b7 w64 K65 S66 f67 => ⟨((S57.tr (S62.tr S66)).cl rfl), ?_⟩
     have f68 := f63.stp S66 rfl rfl
     refine WO.stB0 (κ := K65) 9 (vc := [.int .i64 (p1.Next.length : Int)]) rfl rfl rfl rfl rfl rfl rfl Try.sizeOf2 rfl rfl f68 rfl fun w69 S70 f71 => ⟨((S57.tr (S62.tr (S66.tr S70))).cl rfl), ?_⟩
     have f72 := f67.stp S70 rfl rfl
     refine WO.stB0 (κ := K65) 10 (vc := [.int .i64 x29]) rfl rfl rfl rfl rfl rfl rfl Try.sizeOf2 rfl rfl f72 rfl fun w73 S74 f75 => ⟨((S57.tr (S62.tr (S66.tr (S70.tr S74)))).cl rfl), ?_⟩
     refine WO.wa ?_
     refine WA.last [] (by kernel_rfl) (by kernel_rfl) rfl ?_
     refine WO.fin ?_
     have f76 := f71.stp S74 rfl rfl
     exact DN.meet _ ⟨(fun b => ren [(9, 7), (10, 8)] (K65 b)), b6, b7, rfl, (Stp.ren ((S50.tr (S57.tr (S62.tr (S66.tr (S70.tr S74))))).wk rfl) [(9, 7), (10, 8)] rfl), (f76.map (ren [(9, 7), (10, 8)]) rfl rfl), (f75.map (ren [(9, 7), (10, 8)]) rfl rfl)⟩ fun a ha => (ha.more (ha.more (ha.more (ha.more (ha.more ha.nil rfl) rfl) rfl) rfl) rfl)
    ·
     refine WO.alloc (κ := K56) 9 rfl rfl rfl rfl rfl Try.zeroValue2 rfl fun b7 w77 K78 S79 f80 => ⟨((S57.tr S79).cl rfl), ?_⟩
     refine WO.wa ?_
     refine WA.seg (fuel := 0) [(5, 1), (7, 1), (8, 1)] (by kernel_rfl) (by kernel_rfl) rfl ?_
     refine WO.alloc (κ := K78) 10 rfl rfl rfl rfl rfl Try.zeroValue2 rfl fun b6 w81 K82 S83 f84 => ⟨((S57.tr (S79.tr S83)).cl rfl), ?_⟩
     refine WO.stB0 (κ := K82) 10 (vc := [.int .i64 (p1.Next.length : Int)]) rfl rfl rfl rfl rfl rfl rfl Try.sizeOf2 rfl rfl f84 rfl fun w85 S86 f87 => ⟨((S57.tr (S79.tr (S83.tr S86))).cl rfl), ?_⟩
     have f88 := f80.stp (S83.tr S86) rfl rfl
     refine WO.stB0 (κ := K82) 9 (vc := [.int .i64 x29]) rfl rfl rfl rfl rfl rfl rfl Try.sizeOf2 rfl rfl f88 rfl fun w89 S90 f91 => ⟨((S57.tr (S79.tr (S83.tr (S86.tr S90)))).cl rfl), ?_⟩
     refine WO.wa ?_
     refine WA.last [] (by kernel_rfl) (by kernel_rfl) rfl ?_
     refine WO.fin ?_
     have f92 := f87.stp S90 rfl rfl
     exact DN.meet _ ⟨(fun b => ren [(10, 7), (9, 8)] (K82 b)), b6, b7, rfl, (Stp.ren ((S50.tr (S57.tr (S79.tr (S83.tr (S86.tr S90))))).wk rfl) [(10, 7), (9, 8)] rfl), (f92.map (ren [(10, 7), (9, 8)]) rfl rfl), (f91.map (ren [(10, 7), (9, 8)]) rfl rfl)⟩ fun a ha => (ha.more (ha.more (ha.more (ha.more (ha.more ha.nil rfl) rfl) rfl) rfl) rfl)
   ·
    refine WO.alloc (κ := K35) 7 rfl rfl rfl rfl rfl Try.zeroValue2 rfl fun b6 w93 K94 S95 f96 => ⟨(S95.cl rfl), ?_⟩
    refine WO.wa ?_
    refine WA.fork2 (fuel := 3) 4 6 (by kernel_rfl) rfl ?_ ?_
    ·
     refine WO.call rfl rfl rfl rfl rfl rfl Try.call52 (i_inputsOf_ok (κ := fun b => mp [] 0 (K94 b)) (p0 := p0) hx29) ?_
     rintro _ w97 ⟨k98, rfl, e99⟩
     obtain ⟨K100, S101, m102⟩ := Ent.mixed (l := []) (κ := K94) e99 8 rfl
     refine ⟨((S95.tr S101).cl rfl), ?_⟩
     refine WO.wa ?_
     refine WA.seg (fuel := 0) [(6, 1), (7, 1), (8, 1)] (by kernel_rfl) (by kernel_rfl) rfl ?_
     refine WO.alloc (κ := K100) 10 rfl rfl rfl rfl rfl Try.zeroValue2 rfl fun b7 w104 K105 S106 f107 => ⟨((S95.tr (S101.tr S106)).cl rfl), ?_⟩
     have f108 := f96.stp (S101.tr S106) rfl rfl
     refine WO.stB0 (κ := K105) 7 (vc := [.int .i64 (p1.Next.length : Int)]) rfl rfl rfl rfl rfl rfl rfl Try.sizeOf2 rfl rfl f108 rfl fun w109 S110 f111 => ⟨((S95.tr (S101.tr (S106.tr S110))).cl rfl), ?_⟩
     have f112 := f107.stp S110 rfl rfl
     refine WO.stB0 (κ := K105) 10 (vc := [.int .i64 x29]) rfl rfl rfl rfl rfl rfl rfl Try.sizeOf2 rfl rfl f112 rfl fun w113 S114 f115 => ⟨((S95.tr (S101.tr (S106.tr (S110.tr S114)))).cl rfl), ?_⟩
     refine WO.wa ?_
     refine WA.last [] (by kernel_rfl) (by kernel_rfl) rfl ?_
     refine WO.fin ?_
     have f116 := f111.stp S114 rfl rfl
     exact DN.meet _ ⟨(fun b => ren [(10, 8)] (K105 b)), b6, b7, rfl, (Stp.ren ((S50.tr (S95.tr (S101.tr (S106.tr (S110.tr S114))))).wk rfl) [(10, 8)] rfl), (f116.map (ren [(10, 8)]) rfl rfl), (f115.map (ren [(10, 8)]) rfl rfl)⟩ fun a ha => (ha.more (ha.more (ha.more (ha.more (ha.more ha.nil rfl) rfl) rfl) rfl) rfl)
    ·
     refine WO.alloc (κ := K94) 8 rfl rfl rfl rfl rfl Try.zeroValue2 rfl fun b7 w117 K118 S119 f120 => ⟨((S95.tr S119).cl rfl), ?_⟩
     refine WO.wa ?_
     refine WA.seg (fuel := 0) [(4, 1), (7, 1), (8, 1)] (by kernel_rfl) (by kernel_rfl) rfl ?_
     refine WO.call rfl rfl rfl rfl rfl rfl Try.call52 (i_inputsOf_ok (κ := fun b => mp [] 0 (K118 b)) (p0 := p0) hx29) ?_
     rintro _ w121 ⟨k122, rfl, e123⟩
     obtain ⟨K124, S125, m126⟩ := Ent.mixed (l := []) (κ := K118) e123 9 rfl
     refine ⟨((S95.tr (S119.tr S125)).cl rfl), ?_⟩
     have f128 := f96.stp (S119.tr S125) rfl rfl
     refine WO.stB0 (κ := K124) 7 (vc := [.int .i64 (p1.Next.length : Int)]) rfl rfl rfl rfl rfl rfl rfl Try.sizeOf2 rfl rfl f128 rfl fun w129 S130 f131 => ⟨((S95.tr (S119.tr (S125.tr S130))).cl rfl), ?_⟩
     have f132 := f120.stp (S125.tr S130) rfl rfl
     refine WO.stB0 (κ := K124) 8 (vc := [.int .i64 x29]) rfl rfl rfl rfl rfl rfl rfl Try.sizeOf2 rfl rfl f132 rfl fun w133 S134 f135 => ⟨((S95.tr (S119.tr (S125.tr (S130.tr S134)))).cl rfl), ?_⟩
     refine WO.wa ?_
     refine WA.last [] (by kernel_rfl) (by kernel_rfl) rfl ?_
     refine WO.fin ?_
     have f136 := f131.stp S134 rfl rfl
     exact DN.meet _ ⟨K124, b6, b7, rfl, (S50.tr (S95.tr (S119.tr (S125.tr (S130.tr S134))))).wk rfl, f136, f135⟩ fun a ha => (ha.more (ha.more (ha.more (ha.more (ha.more ha.nil rfl) rfl) rfl) rfl) rfl)
   ·
    refine WO.alloc (κ := K35) 7 rfl rfl rfl rfl rfl Try.zeroValue2 rfl fun b7 w137 K138 S139 f140 => ⟨(S139.cl rfl), ?_⟩
    refine WO.wa ?_
    refine WA.fork2 (fuel := 3) 4 5 (by kernel_rfl) rfl ?_ ?_
    ·
     refine WO.call rfl rfl rfl rfl rfl rfl Try.call52 (i_inputsOf_ok (κ := fun b => mp [] 0 (K138 b)) (p0 := p0) hx29) ?_
     rintro _ w141 ⟨k142, rfl, e143⟩
     obtain ⟨K144, S145, m146⟩ := Ent.mixed (l := []) (κ := K138) e143 8 rfl
     refine ⟨((S139.tr S145).cl rfl), ?_⟩
     refine WO.wa ?_
     refine WA.seg (fuel := 0) [(5, 1), (7, 1), (8, 1)] (by kernel_rfl) (by kernel_rfl) rfl ?_
     refine WO.alloc (κ := K144) 10 rfl rfl rfl rfl rfl Try.zeroValue2 rfl fun b6 w148 K149 S150 f151 => ⟨((S139.tr (S145.tr S150)).cl rfl), ?_⟩
     refine WO.stB0 (κ := K149) 10 (vc := [.int .i64 (p1.Next.length : Int)]) rfl rfl rfl rfl rfl rfl rfl Try.sizeOf2 rfl rfl f151 rfl fun w152 S153 f154 => ⟨((S139.tr (S145.tr (S150.tr S153))).cl rfl), ?_⟩
     have f155 := f140.stp (S145.tr (S150.tr S153)) rfl rfl
     refine WO.stB0 (κ := K149) 7 (vc := [.int .i64 x29]) rfl rfl rfl rfl rfl rfl rfl Try.sizeOf2 rfl rfl f155 rfl fun w156 S157 f158 => ⟨((S139.tr (S145.tr (S150.tr (S153.tr S157)))).cl rfl), ?_⟩
     refine WO.wa ?_
     refine WA.last [] (by kernel_rfl) (by kernel_rfl) rfl ?_
     refine WO.fin ?_
     have f159 := f154.stp S157 rfl rfl
     exact DN.meet _ ⟨(fun b => ren [(10, 7), (7, 8)] (K149 b)), b6, b7, rfl, (Stp.ren ((S50.tr (S139.tr (S145.tr (S150.tr (S153.tr S157))))).wk rfl) [(10, 7), (7, 8)] rfl), (f159.map (ren [(10, 7), (7, 8)]) rfl rfl), (f158.map (ren [(10, 7), (7, 8)]) rfl rfl)⟩ fun a ha => (ha.more (ha.more (ha.more (ha.more (ha.more ha.nil rfl) rfl) rfl) rfl) rfl)
    ·
     refine WO.alloc (κ := K138) 8 rfl rfl rfl rfl rfl Try.zeroValue2 rfl fun b6 w160 K161 S162 f163 => ⟨((S139.tr S162).cl rfl), ?_⟩
     refine WO.wa ?_
     refine WA.seg (fuel := 0) [(4, 1), (7, 1), (8, 1)] (by kernel_rfl) (by kernel_rfl) rfl ?_
     refine WO.call rfl rfl rfl rfl rfl rfl Try.call52 (i_inputsOf_ok (κ := fun b => mp [] 0 (K161 b)) (p0 := p0) hx29) ?_
     rintro _ w164 ⟨k165, rfl, e166⟩
     obtain ⟨K167, S168, m169⟩ := Ent.mixed (l := []) (κ := K161) e166 9 rfl
     refine ⟨((S139.tr (S162.tr S168)).cl rfl), ?_⟩
     have f171 := f163.stp S168 rfl rfl
     refine WO.stB0 (κ := K167) 8 (vc := [.int .i64 (p1.Next.length : Int)]) rfl rfl rfl rfl rfl rfl rfl Try.sizeOf2 rfl rfl f171 rfl fun w172 S173 f174 => ⟨((S139.tr (S162.tr (S168.tr S173))).cl rfl), ?_⟩
     have f175 := f140.stp (S162.tr (S168.tr S173)) rfl rfl
     refine WO.stB0 (κ := K167) 7 (vc := [.int .i64 x29]) rfl rfl rfl rfl rfl rfl rfl Try.sizeOf2 rfl rfl f175 rfl fun w176 S177 f178 => ⟨((S139.tr (S162.tr (S168.tr (S173.tr S177)))).cl rfl), ?_⟩
     refine WO.wa ?_
     refine WA.last [] (by kernel_rfl) (by kernel_rfl) rfl ?_
     refine WO.fin ?_
     have f179 := f174.stp S177 rfl rfl
     exact DN.meet _ ⟨(fun b => ren [(8, 7), (7, 8)] (K167 b)), b6, b7, rfl, (Stp.ren ((S50.tr (S139.tr (S162.tr (S168.tr (S173.tr S177))))).wk rfl) [(8, 7), (7, 8)] rfl), (f179.map (ren [(8, 7), (7, 8)]) rfl rfl), (f178.map (ren [(8, 7), (7, 8)]) rfl rfl)⟩ fun a ha => (ha.more (ha.more (ha.more (ha.more (ha.more ha.nil rfl) rfl) rfl) rfl) rfl)
  rintro _ w43 ⟨K44, b6, b7, rfl, S45, f47, f48⟩
  refine DN.seq ?_
  refine WC.seq ?_
  refine WC.rs [(0, 1), (1, 1)] rfl ?_
  refine WO.alloc (κ := K44) 9 rfl rfl rfl rfl rfl Try.zeroValue2 rfl fun b8 w180 K181 S182 f183 => ⟨trivial, ?_⟩
  refine WO.stB0 (κ := K181) 9 (vc := [.int .i64 0]) rfl rfl rfl rfl rfl rfl rfl Try.sizeOf2 rfl rfl f183 rfl fun w184 S185 f186 => ⟨trivial, ?_⟩
  refine WO.fin ?_
  refine DN.seq ?_
  refine WC.seq ?_
  obtain ⟨q2, hq189, hK188⟩ := Option.bind_eq_some_iff.mp h
  clear h
  refine WC.meet (fun L w' => ∃ (κ' : Col) (s3 : Int), L = [(2, .pointer (some ⟨b2, 0, none⟩)), (3, .pointer (some ⟨b3, 0, none⟩)), (4, .pointer (some ⟨b4, 0, none⟩)), (6, .pointer (some ⟨b6, 0, none⟩)), (7, .pointer (some ⟨b7, 0, none⟩)), (8, .pointer (some ⟨b8, 0, none⟩))] ∧ Stp [9] K181 w184 κ' w' ∧ Bc κ' w' 9 b8 2 [.int .i64 s3] ∧ q2 = Sum.inr s3) ?_ ?_
  ·
   refine WC.block ?_
   refine WC.loop (fun k L w' => ∃ (κ' : Col) (s1 : Int), L = [(2, .pointer (some ⟨b2, 0, none⟩)), (3, .pointer (some ⟨b3, 0, none⟩)), (4, .pointer (some ⟨b4, 0, none⟩)), (6, .pointer (some ⟨b6, 0, none⟩)), (7, .pointer (some ⟨b7, 0, none⟩)), (8, .pointer (some ⟨b8, 0, none⟩))] ∧ Stp [9] K181 w184 κ' w' ∧ Bc κ' w' 9 b8 2 [.int .i64 s1] ∧ whileM (i_CircuitOf_b0 p1) k s1 = some q2) ⟨_, _, ⟨K181, (0 : Int), rfl, (Stp.refl _ _).wk rfl, f186, hq189⟩, fun a ha => (ha.more (ha.more (ha.more (ha.more (ha.more (ha.more ha.nil rfl) rfl) rfl) rfl) rfl) rfl)⟩ ?_
   rintro k _ w194 ⟨K195, s1, rfl, S196, f197, h⟩
   rcases k with _ | k
   ·
    cases h
   ·
    obtain ⟨o187, h, hk198⟩ := Option.bind_eq_some_iff.mp h; unfold i_CircuitOf_b0 at h
    refine WC.seq ?_
    refine WC.seq ?_
    refine WC.rx (κ := K195) [7, 9] none [(0, 0), (1, 2), (2, 0), (3, 2)] [] (by kernel_rfl) (by kernel_rfl) fun w200 S199 => ?_
    have f201 := f197.stp S199 rfl rfl
    refine WO.k0 rfl rfl rfl rfl (rn_ld Try.isAgg2 rfl rfl (hvC (f201.ld 0 rfl rfl) rfl)) ?_
    obtain ⟨_z31, hz31, h⟩ := Option.bind_eq_some_iff.mp h
    refine WO.k2 rfl rfl rfl rfl (rn_shl rfl rfl rfl (nn_ok hz31)) ?_
    have f202 := f47.stp (S182.tr (S185.tr (S196.tr S199))) rfl rfl
    refine WO.k0 rfl rfl rfl rfl (rn_ld Try.isAgg2 rfl rfl (hvC (f202.ld 0 rfl rfl) rfl)) ?_
    refine WO.pn 1 rfl ?_
    refine WO.nx ?_
    refine WO.fin ?_
    refine DN.seq ?_
    revert h
    cases ht203 : decide ((IntKind.i64.wrap (1 * 2 ^ (min (Int.toNat s1) (IntKind.bits IntKind.i64)))) < (p1.Next.length : Int)) with
    | true =>
     intro h; replace h := cT h
     refine WC.ct rfl ?_
     refine WC.skip ?_
     refine DN.seq ?_
     refine WC.block ?_
     refine WC.rs [(0, 1), (1, 2), (2, 1)] rfl ?_
     refine WO.k1 trivial rfl rfl rfl rfl (rn_ld Try.isAgg2 rfl rfl (hvE (f201.ld 0 rfl rfl))) ?_
     refine WO.pn 1 rfl ?_
     refine WO.stB0 (κ := K195) 9 (vc := [.int .i64 (IntKind.i64.wrap (s1 + 1))]) rfl rfl rfl rfl rfl rfl rfl Try.sizeOf2 rfl rfl f201 rfl fun w204 S205 f206 => ⟨trivial, ?_⟩
     refine WO.fin ?_
     refine DN.block ?_
     obtain rfl := Option.some.inj h
     refine DN.round fun a ha => ?_
     exact ⟨k, _, Nat.lt_succ_self _, ⟨K195, ((IntKind.i64.wrap (s1 + 1)) : Int), rfl, (S196.tr (S199.tr S205)).wk rfl, f206, hk198⟩, (ha.more (ha.more (ha.more (ha.more (ha.more (ha.more ha.nil rfl) rfl) rfl) rfl) rfl) rfl)⟩
    | false =>
     intro h; replace h := cF h
     refine WC.cf rfl ?_
     refine WC.exit ?_
     refine DN.exitThen ?_
     refine DN.exitThen ?_
     obtain rfl := Option.some.inj h
     have h := hk198
     refine DN.hit ?_
     obtain rfl := Option.some.inj h
     exact DN.meet _ ⟨K195, (s1 : Int), rfl, (S196.tr S199).wk rfl, f201, rfl⟩ fun a ha => (ha.more (ha.more (ha.more (ha.more (ha.more (ha.more ha.nil rfl) rfl) rfl) rfl) rfl) rfl)
  rintro _ w190 ⟨K191, s3, rfl, S192, f193, rfl⟩
  have h := hK188
  dsimp only [aft] at h
  refine DN.seq ?_
  refine WC.seq ?_
  refine WC.rx (κ := K191) [2, 9] none [(0, 2), (1, 0), (2, 0), (3, 0), (4, 1), (5, 2), (6, 1), (7, 2)] [] (by kernel_rfl) (by kernel_rfl) fun w208 S207 => ?_
  refine WO.k2 rfl rfl rfl rfl (rn_fieldAddr Try.runUnderlying43 rfl Try.sizeOf2 rfl rfl) ?_
  have f209 := f13.stp (S18.tr (S36.tr (S45.tr (S182.tr (S185.tr (S192.tr S207)))))) rfl rfl
  refine WO.k0 rfl rfl rfl rfl (rn_ld Try.isAgg2 rfl rfl (hvC (f209.ld 0 rfl rfl) rfl)) ?_
  have f210 := f193.stp S207 rfl rfl
  refine WO.k0 rfl rfl rfl rfl (rn_ld Try.isAgg2 rfl rfl (hvC (f210.ld 0 rfl rfl) rfl)) ?_
  refine WO.k0 rfl rfl rfl rfl (rn_ld Try.isAgg2 rfl rfl (hvC (f210.ld 0 rfl rfl) rfl)) ?_
  obtain ⟨x40, hx40, h⟩ := Option.bind_eq_some_iff.mp h
  refine WO.mk (κ := K191) (E := (Ep.int .i64)) (z := (0 : Int)) 10 rfl rfl rfl rfl rfl rfl rfl Try.underlying24 Tryinfo2 rfl rfl rfl rfl rfl (fun _ _ _ => rfl) (mkS_C hx40) fun a40 u40 w211 K212 S213 f214 => ⟨(S213.cl rfl), ?_⟩
  refine WO.k2 rfl rfl rfl rfl (rn_build (parts := [(0, .tmp 37), (1, .tmp 38), (2, .tmp 40)]) (cells := [.int .i64 p0.In, .int .i64 s3, .slice a40 x40.length u40, .slice none 0 0, .slice none 0 0]) rfl rfl (by kernel_rfl)) ?_
  obtain ⟨x42, hx42, h⟩ := Option.bind_eq_some_iff.mp h
  refine WO.call rfl rfl rfl rfl rfl rfl Try.call43 (i_newBuilder_ok (κ := fun b => mp [] 0 (K212 b)) (p0 := (⟨p0.In, s3, x40, ([] : List Gate), ([] : List Int)⟩ : Circuit)) (Sl.map f214.rdc (mp [] 0) rfl rfl) Sl.nil Sl.nil hx42) ?_
  rintro _ w215 ⟨k216, a42_0, u42_0, a42_1, u42_1, a42_2, u42_2, mb42_3, b42, rfl, e217, f218, f219, f220, f221, f222⟩
  obtain ⟨K223, S224, m225⟩ := Ent.mixed (l := []) (κ := K212) e217 11 rfl
  refine ⟨((S213.tr S224).cl rfl), ?_⟩
  have f227 := f218.mx (no_int _) m225 rfl (rfl : 11 + 2 = 13)
  have f228 := f219.mx Gate.no33 m225 rfl (rfl : 11 + 3 = 14)
  have f229 := f220.mx (no_int _) m225 rfl (rfl : 11 + 4 = 15)
  have f230 := f221.mx' m225 rfl (rfl : 11 + 5 = 16)
  have f231 := f222.mx m225 rfl (rfl : 11 + 6 = 17)
  refine WO.pn 1 rfl ?_
  refine WO.nx ?_
  refine WO.fin ?_
  refine DN.seq ?_
  refine WC.seq ?_
  refine WC.rs [(0, 2), (1, 2)] rfl ?_
  refine WO.k2 rfl rfl rfl rfl (rn_makeFunc (first := []) (captured := [.tmp 7, .tmp 8, .tmp 6]) rfl rfl rfl ⟨_, rfl⟩) ?_
  refine WO.pn 1 rfl ?_
  refine WO.fin ?_
  refine DN.seq ?_
  refine WC.seq ?_
  refine WC.rs [(0, 1), (1, 1), (2, 2), (3, 2)] rfl ?_
  refine WO.bl0 (κ := K223) (E := (Ep.int .i64)) 18 rfl rfl rfl rfl rfl Try.underlying24 Tryinfo2 rfl fun a44 u44 w232 K233 S234 f235 => ⟨trivial, ?_⟩
  refine WO.bl0 (κ := K233) (E := (Ep.int .i64)) 19 rfl rfl rfl rfl rfl Try.underlying24 Tryinfo2 rfl fun a45 u45 w236 K237 S238 f239 => ⟨trivial, ?_⟩
  refine WO.pn 2 rfl ?_
  refine WO.fin ?_
  refine DN.seq ?_
  refine WC.seq ?_
  refine WC.seq ?_
  refine WC.rs [(0, 1), (1, 2)] rfl ?_
  have f240 := f210.stp (S213.tr (S224.tr (S234.tr S238))) rfl rfl
  refine WO.k1 trivial rfl rfl rfl rfl (rn_ld Try.isAgg2 rfl rfl (hvE (f240.ld 0 rfl rfl))) ?_
  refine WO.pn 1 rfl ?_
  refine WO.fin ?_
  refine DN.seq ?_
  obtain ⟨_, hr241, h⟩ := Option.bind_eq_some_iff.mp h
  have hN241 := rng_ok hr241
  obtain ⟨q5, hq243, hK242⟩ := Option.bind_eq_some_iff.mp h
  clear h
  refine WC.meet (fun L w' => ∃ (κ' : Col) (s6 : (List Int) × (List Gate) × Bool × (List (Gate × Int))) (las6_0 : Option Addr) (lus6_0 : Nat) (las6_1 : Option Addr) (lus6_1 : Nat), L = [(2, .pointer (some ⟨b2, 0, none⟩)), (3, .pointer (some ⟨b3, 0, none⟩)), (4, .pointer (some ⟨b4, 0, none⟩)), (9, .pointer (some ⟨b42, 0, none⟩)), (10, .func (.func 53) #[] #[.pointer (some ⟨b7, 0, none⟩), .pointer (some ⟨b8, 0, none⟩), .pointer (some ⟨b6, 0, none⟩)]), (11, .slice las6_0 s6.1.length lus6_0), (12, .slice a45 ([] : List Int).length u45)] ∧ Stp [14, 16, 17, 18, 25, 26, 27] K237 w236 κ' w' ∧ Oc (Ep.int .i64) 2 κ' w' 18 las6_0 lus6_0 s6.1 ∧ Oc Gate.ep33 33 κ' w' 14 las6_1 lus6_1 s6.2.1 ∧ Mc kwGate kvGate (fun v : Int => .int .i64 v) κ' w' 16 mb42_3 s6.2.2.2 ∧ Bc κ' w' 17 b42 72 [.int .i64 x42.c.Inputs, .int .i64 x42.c.Latches, .slice a42_0 x42.c.Next.length u42_0, .slice las6_1 s6.2.1.length lus6_1, .slice a42_2 x42.c.Outs.length u42_2, .bool s6.2.2.1, .map (some mb42_3)] ∧ q5 = Sum.inr s6) ?_ ?_
  ·
   refine WC.block ?_
   have f260 := f235.stp S238 rfl rfl
   have f261 := f228.stp (S234.tr S238) rfl rfl
   have f262 := f230.stp (S234.tr S238) rfl rfl
   have f263 := f231.stp (S234.tr S238) rfl rfl
   refine WC.loop (fun k L w' => ∃ (κ' : Col) (v47 : Int) (s4 : (List Int) × (List Gate) × Bool × (List (Gate × Int))) (las4_0 : Option Addr) (lus4_0 : Nat) (las4_1 : Option Addr) (lus4_1 : Nat), L = [(2, .pointer (some ⟨b2, 0, none⟩)), (3, .pointer (some ⟨b3, 0, none⟩)), (4, .pointer (some ⟨b4, 0, none⟩)), (9, .pointer (some ⟨b42, 0, none⟩)), (10, .func (.func 53) #[] #[.pointer (some ⟨b7, 0, none⟩), .pointer (some ⟨b8, 0, none⟩), .pointer (some ⟨b6, 0, none⟩)]), (11, .slice las4_0 s4.1.length lus4_0), (12, .slice a45 ([] : List Int).length u45), (46, .int .i64 s3), (47, .int .i64 v47)] ∧ Stp [14, 16, 17, 18, 25, 26, 27] K237 w236 κ' w' ∧ Oc (Ep.int .i64) 2 κ' w' 18 las4_0 lus4_0 s4.1 ∧ Oc Gate.ep33 33 κ' w' 14 las4_1 lus4_1 s4.2.1 ∧ Mc kwGate kvGate (fun v : Int => .int .i64 v) κ' w' 16 mb42_3 s4.2.2.2 ∧ Bc κ' w' 17 b42 72 [.int .i64 x42.c.Inputs, .int .i64 x42.c.Latches, .slice a42_0 x42.c.Next.length u42_0, .slice las4_1 s4.2.1.length lus4_1, .slice a42_2 x42.c.Outs.length u42_2, .bool s4.2.2.1, .map (some mb42_3)] ∧ 0 ≤ v47 ∧ Int.toNat (s3 - v47) = k ∧ cntM (i_CircuitOf_b2 p1 x29 s3 x42) k v47 s4 = some q5) ⟨_, _, ⟨K237, 0, ((([] : List Int) : (List Int)), (x42.c.Gates : (List Gate)), (x42.full : Bool), (x42.known : (List (Gate × Int)))), a44, u44, a42_1, u42_1, rfl, (Stp.refl _ _).wk rfl, f260, f261, f262, f263, (by decide), (by simp), hq243⟩, fun a ha => (ha.more (ha.more (ha.more (ha.more (ha.more (ha.more (ha.more (ha.more (ha.more ha.nil rfl) rfl) rfl) rfl) rfl) rfl) rfl) rfl) rfl)⟩ ?_
   rintro k _ w252 ⟨K253, v47, s4, las4_0, lus4_0, las4_1, lus4_1, rfl, S254, f255, f256, f257, f259, hj241, hJ241, h⟩
   rcases k with _ | k
   ·
    have hk264 := h; obtain ⟨o241, h⟩ := ex_eq (Sum.inr (Sum.inl s4) : (Circuit × Bool) ⊕ (((List Int) × (List Gate) × Bool × (List (Gate × Int))) ⊕ ((List Int) × (List Gate) × Bool × (List (Gate × Int)))))
    have hc241 : decide (v47 < s3) = false := decide_eq_false (by omega)
    refine WC.seq ?_
    refine WC.rs [(0, 2)] rfl ?_
    refine WO.pn 1 rfl ?_
    refine WO.fin ?_
    refine DN.seq ?_
    refine WC.seq ?_
    refine WC.cf' rfl hc241 ?_
    refine WC.exit ?_
    refine DN.exitThen ?_
    refine DN.exitThen ?_
    obtain rfl := Option.some.inj h
    have h := hk264
    refine DN.hit ?_
    obtain rfl := Option.some.inj h
    exact DN.meet _ ⟨K253, ((s4.1 : (List Int)), (s4.2.1 : (List Gate)), (s4.2.2.1 : Bool), (s4.2.2.2 : (List (Gate × Int)))), las4_0, lus4_0, las4_1, lus4_1, rfl, S254.wk rfl, f255, f256, f257, f259, rfl⟩ fun a ha => (ha.more (ha.more (ha.more (ha.more (ha.more (ha.more (ha.more ha.nil rfl) rfl) rfl) rfl) rfl) rfl) rfl)
   ·
    obtain ⟨o241, h, hk264⟩ := Option.bind_eq_some_iff.mp h; unfold i_CircuitOf_b2 at h
    have hc241 : decide (v47 < s3) = true := decide_eq_true (by omega)
    refine WC.seq ?_
    refine WC.rs [(0, 2)] rfl ?_
    refine WO.pn 1 rfl ?_
    refine WO.fin ?_
    refine DN.seq ?_
    refine WC.seq ?_
    refine WC.ct' rfl hc241 ?_
    refine WC.skip ?_
    refine DN.seq ?_
    refine WC.seq ?_
    refine WC.block ?_
    refine WC.seq ?_
    refine WC.rs [(0, 2), (1, 2)] rfl ?_
    refine WO.pn 2 rfl ?_
    refine WO.fin ?_
    refine DN.seq ?_
    refine WC.rs [(0, 2), (1, 2), (2, 2), (3, 2), (4, 1), (5, 2), (6, 1), (7, 1), (8, 1), (9, 1), (10, 2)] rfl ?_
    refine WO.pn 3 rfl ?_
    refine WO.k2 rfl rfl rfl rfl (rn_fieldAddr Try.runUnderlying46 rfl Try.sizeOf44 rfl rfl) ?_
    have f265 := f8.stp (S11.tr (S18.tr (S36.tr (S45.tr (S182.tr (S185.tr (S192.tr (S207.tr (S213.tr (S224.tr (S234.tr (S238.tr S254)))))))))))) rfl rfl
    refine WO.k1 trivial rfl rfl rfl rfl (rn_ld Try.isAgg44 rfl rfl (hvE (f265.ld 0 rfl rfl))) ?_
    refine WO.pn 1 rfl ?_
    obtain ⟨x56, hx56, h⟩ := Option.bind_eq_some_iff.mp h
    have f266 := g1_0.stp (S3.tr (S7.tr (S11.tr (S18.tr (S36.tr (S45.tr (S182.tr (S185.tr (S192.tr (S207.tr (S213.tr (S224.tr (S234.tr (S238.tr S254)))))))))))))) rfl rfl
    have f267 := f48.stp (S182.tr (S185.tr (S192.tr (S207.tr (S213.tr (S224.tr (S234.tr (S238.tr S254)))))))) rfl rfl
    have f268 := f240.stp S254 rfl rfl
    have f269 := f47.stp (S182.tr (S185.tr (S192.tr (S207.tr (S213.tr (S224.tr (S234.tr (S238.tr S254)))))))) rfl rfl
    refine WO.callV rfl rfl rfl rfl rfl rfl rfl rfl Try.call53 (i_CircuitOf_1_ok (κ := fun b => mp [] 0 (K253 b)) (Sl.map f266 (mp [] 0) rfl rfl) (f267.map (mp [] 0) rfl rfl) (f268.map (mp [] 0) rfl rfl) (f269.map (mp [] 0) rfl rfl) hx56) ?_
    rintro _ w270 ⟨k271, a56_0, u56_0, rfl, e272, f273⟩
    obtain ⟨K274, S275, m276⟩ := Ent.mixed (l := []) (κ := K253) e272 20 rfl
    refine ⟨trivial, ?_⟩
    have f278 := f273.mx no_bool m276 rfl (rfl : 20 + 2 = 22)
    obtain ⟨x57, hx57, h⟩ := Option.bind_eq_some_iff.mp h
    have f279 := f227.stp (S234.tr (S238.tr (S254.tr S275))) rfl rfl
    have f280 := f256.stp S275 rfl rfl
    have f281 := f229.stp (S234.tr (S238.tr (S254.tr S275))) rfl rfl
    have f282 := f257.stp S275 rfl rfl
    have f283 := f259.stp S275 rfl rfl
    refine WO.call rfl rfl rfl rfl rfl rfl Try.call54 (i_builder_literalOf_ok _ (κ := fun b => mp [(14, 2), (16, 3), (17, 4)] 0 (K274 b)) (p0 := (⟨(⟨x42.c.Inputs, x42.c.Latches, x42.c.Next, s4.2.1, x42.c.Outs⟩ : Circuit), s4.2.2.1, s4.2.2.2⟩ : builder)) (Sl.map f279.rdc (mp [(14, 2), (16, 3), (17, 4)] 0) rfl rfl) (f280.map (mp [(14, 2), (16, 3), (17, 4)] 0) rfl rfl) (Sl.map f281.rdc (mp [(14, 2), (16, 3), (17, 4)] 0) rfl rfl) (f282.map (mp [(14, 2), (16, 3), (17, 4)] 0) rfl rfl) (Sl.map f278.rdc (mp [(14, 2), (16, 3), (17, 4)] 0) rfl rfl) (f283.map (mp [(14, 2), (16, 3), (17, 4)] 0) rfl rfl) hx57) ?_
    rintro _ w284 ⟨k285, a57_m0, u57_m0, rfl, e286, f287, f288, f289⟩
    obtain ⟨K290, S291, m292⟩ := Ent.mixed (l := [(14, 2), (16, 3), (17, 4)]) (κ := K274) e286 23 rfl
    refine ⟨trivial, ?_⟩
    have f294 := f287.mx Gate.no33 m292 rfl (rfl : 23 + 2 = 25)
    have f295 := f288.mx' m292 rfl (rfl : 23 + 3 = 26)
    have f296 := f289.mx m292 rfl (rfl : 23 + 4 = 27)
    refine WO.bl (κ := K290) (E := (Ep.int .i64)) 28 [] (parts := [(0, .tmp 57)]) (cells := [.int .i64 x57.1]) (xs := ([x57.1] : List Int)) rfl rfl rfl rfl rfl rfl Try.underlying24 Tryinfo2 rfl rfl rfl rfl rfl rfl rfl rfl rfl rfl ⟨[.int .i64 x57.1], [], Zl K290 w284 [], Zl K290 w284 [], rfl, Zl.sp (l1 := []) (l2 := []) rfl, Zl.sr (l1 := []) (l2 := []), rfl, rfl⟩ fun a58 u58 w297 K298 S299 f300 => ⟨trivial, ?_⟩
    obtain ⟨x59, hx59, h⟩ := Option.bind_eq_some_iff.mp h
    have f301 := f255.stp (S275.tr (S291.tr S299)) rfl rfl
    refine WO.app (κ := K298) (E := (Ep.int .i64)) 18 [] rfl rfl rfl rfl rfl rfl rfl rfl rfl Try.underlying24 Tryinfo2 rfl rfl rfl rfl f301 (Sl.srcP (pu_int _) f300.rdc) sy_false hx59 rfl fun a59 u59 w302 K303 S304 f305 => ⟨trivial, ?_⟩
    refine WO.pn 1 rfl ?_
    refine WO.fin ?_
    refine DN.block ?_
    refine DN.seq ?_
    refine WC.rs [(0, 2), (1, 2)] rfl ?_
    refine WO.pn 2 rfl ?_
    refine WO.fin ?_
    have hw241 : IntKind.wrap .i64 (v47 + 1) = v47 + 1 := wr1 hj241 (of_decide_eq_true hc241) hN241
    rw [hw241]
    have hc241 := of_decide_eq_true hc241
    have f306 := f294.stp (S299.tr S304) rfl rfl
    have f307 := f295.stp (S299.tr S304) rfl rfl
    have f308 := f296.stp (S299.tr S304) rfl rfl
    obtain rfl := Option.some.inj h
    refine DN.round fun a ha => ?_
    exact ⟨k, _, Nat.lt_succ_self _, ⟨(fun b => ren [(25, 14), (26, 16), (27, 17)] (K303 b)), v47 + 1, ((x59 : (List Int)), (x57.2.1 : (List Gate)), (x57.2.2.1 : Bool), (x57.2.2.2 : (List (Gate × Int)))), a59, u59, a57_m0, u57_m0, rfl, (Stp.ren ((S254.tr (S275.tr (S291.tr (S299.tr S304)))).wk rfl) [(25, 14), (26, 16), (27, 17)] rfl), (f305.map (ren [(25, 14), (26, 16), (27, 17)]) rfl rfl), (f306.map (ren [(25, 14), (26, 16), (27, 17)]) rfl rfl), (f307.map (ren [(25, 14), (26, 16), (27, 17)]) rfl rfl), (f308.map (ren [(25, 14), (26, 16), (27, 17)]) rfl rfl), by omega, by omega, hk264⟩, (ha.more (ha.more (ha.more (ha.more (ha.more (ha.more (ha.more (ha.more (ha.more ha.nil rfl) rfl) rfl) rfl) rfl) rfl) rfl) rfl) rfl)⟩
  rintro _ w244 ⟨K245, s6, las6_0, lus6_0, las6_1, lus6_1, rfl, S246, f247, f248, f249, f251, rfl⟩
  have h := hK242
  dsimp only [aft] at h
  refine DN.seq ?_
  refine WC.seq ?_
  refine WC.seq ?_
  refine WC.rs [(0, 2), (1, 1), (2, 2)] rfl ?_
  refine WO.k2 rfl rfl rfl rfl (rn_fieldAddr Try.runUnderlying43 rfl Try.sizeOf2 rfl rfl) ?_
  have f309 := f209.stp (S213.tr (S224.tr (S234.tr (S238.tr S246)))) rfl rfl
  refine WO.k1 trivial rfl rfl rfl rfl (rn_ld Try.isAgg2 rfl rfl (hvE (f309.ld 1 rfl rfl))) ?_
  refine WO.pn 1 rfl ?_
  refine WO.fin ?_
  refine DN.seq ?_
  obtain ⟨_, hr310, h⟩ := Option.bind_eq_some_iff.mp h
  have hN310 := rng_ok hr310
  obtain ⟨q8, hq312, hK311⟩ := Option.bind_eq_some_iff.mp h
  clear h
  refine WC.meet (fun L w' => ∃ (κ' : Col) (s9 : (List Int) × (List Gate) × Bool × (List (Gate × Int))) (las9_0 : Option Addr) (lus9_0 : Nat) (las9_1 : Option Addr) (lus9_1 : Nat), L = [(4, .pointer (some ⟨b4, 0, none⟩)), (9, .pointer (some ⟨b42, 0, none⟩)), (11, .slice las6_0 s6.1.length lus6_0), (12, .slice las9_0 s9.1.length lus9_0)] ∧ Stp [14, 16, 17, 19, 25, 26, 27] K245 w244 κ' w' ∧ Oc (Ep.int .i64) 2 κ' w' 19 las9_0 lus9_0 s9.1 ∧ Oc Gate.ep33 33 κ' w' 14 las9_1 lus9_1 s9.2.1 ∧ Mc kwGate kvGate (fun v : Int => .int .i64 v) κ' w' 16 mb42_3 s9.2.2.2 ∧ Bc κ' w' 17 b42 72 [.int .i64 x42.c.Inputs, .int .i64 x42.c.Latches, .slice a42_0 x42.c.Next.length u42_0, .slice las9_1 s9.2.1.length lus9_1, .slice a42_2 x42.c.Outs.length u42_2, .bool s9.2.2.1, .map (some mb42_3)] ∧ q8 = Sum.inr s9) ?_ ?_
  ·
   refine WC.block ?_
   have f329 := f239.stp S246 rfl rfl
   refine WC.loop (fun k L w' => ∃ (κ' : Col) (v63 : Int) (s7 : (List Int) × (List Gate) × Bool × (List (Gate × Int))) (las7_0 : Option Addr) (lus7_0 : Nat) (las7_1 : Option Addr) (lus7_1 : Nat), L = [(3, .pointer (some ⟨b3, 0, none⟩)), (4, .pointer (some ⟨b4, 0, none⟩)), (9, .pointer (some ⟨b42, 0, none⟩)), (10, .func (.func 53) #[] #[.pointer (some ⟨b7, 0, none⟩), .pointer (some ⟨b8, 0, none⟩), .pointer (some ⟨b6, 0, none⟩)]), (11, .slice las6_0 s6.1.length lus6_0), (12, .slice las7_0 s7.1.length lus7_0), (62, .int .i64 p0.Out), (63, .int .i64 v63)] ∧ Stp [14, 16, 17, 19, 25, 26, 27] K245 w244 κ' w' ∧ Oc (Ep.int .i64) 2 κ' w' 19 las7_0 lus7_0 s7.1 ∧ Oc Gate.ep33 33 κ' w' 14 las7_1 lus7_1 s7.2.1 ∧ Mc kwGate kvGate (fun v : Int => .int .i64 v) κ' w' 16 mb42_3 s7.2.2.2 ∧ Bc κ' w' 17 b42 72 [.int .i64 x42.c.Inputs, .int .i64 x42.c.Latches, .slice a42_0 x42.c.Next.length u42_0, .slice las7_1 s7.2.1.length lus7_1, .slice a42_2 x42.c.Outs.length u42_2, .bool s7.2.2.1, .map (some mb42_3)] ∧ 0 ≤ v63 ∧ Int.toNat (p0.Out - v63) = k ∧ cntM (i_CircuitOf_b4 p1 x29 s3 x42) k v63 s7 = some q8) ⟨_, _, ⟨K245, 0, ((([] : List Int) : (List Int)), (s6.2.1 : (List Gate)), (s6.2.2.1 : Bool), (s6.2.2.2 : (List (Gate × Int)))), a45, u45, las6_1, lus6_1, rfl, (Stp.refl _ _).wk rfl, f329, f248, f249, f251, (by decide), (by simp), hq312⟩, fun a ha => (ha.more (ha.more (ha.more (ha.more (ha.more (ha.more (ha.more (ha.more ha.nil rfl) rfl) rfl) rfl) rfl) rfl) rfl) rfl)⟩ ?_
   rintro k _ w321 ⟨K322, v63, s7, las7_0, lus7_0, las7_1, lus7_1, rfl, S323, f324, f325, f326, f328, hj310, hJ310, h⟩
   rcases k with _ | k
   ·
    have hk330 := h; obtain ⟨o310, h⟩ := ex_eq (Sum.inr (Sum.inl s7) : (Circuit × Bool) ⊕ (((List Int) × (List Gate) × Bool × (List (Gate × Int))) ⊕ ((List Int) × (List Gate) × Bool × (List (Gate × Int)))))
    have hc310 : decide (v63 < p0.Out) = false := decide_eq_false (by omega)
    refine WC.seq ?_
    refine WC.rs [(0, 2)] rfl ?_
    refine WO.pn 1 rfl ?_
    refine WO.fin ?_
    refine DN.seq ?_
    refine WC.seq ?_
    refine WC.cf' rfl hc310 ?_
    refine WC.exit ?_
    refine DN.exitThen ?_
    refine DN.exitThen ?_
    obtain rfl := Option.some.inj h
    have h := hk330
    refine DN.hit ?_
    obtain rfl := Option.some.inj h
    exact DN.meet _ ⟨K322, ((s7.1 : (List Int)), (s7.2.1 : (List Gate)), (s7.2.2.1 : Bool), (s7.2.2.2 : (List (Gate × Int)))), las7_0, lus7_0, las7_1, lus7_1, rfl, S323.wk rfl, f324, f325, f326, f328, rfl⟩ fun a ha => (ha.more (ha.more (ha.more (ha.more ha.nil rfl) rfl) rfl) rfl)
   ·
    obtain ⟨o310, h, hk330⟩ := Option.bind_eq_some_iff.mp h; unfold i_CircuitOf_b4 at h
    have hc310 : decide (v63 < p0.Out) = true := decide_eq_true (by omega)
    refine WC.seq ?_
    refine WC.rs [(0, 2)] rfl ?_
    refine WO.pn 1 rfl ?_
    refine WO.fin ?_
    refine DN.seq ?_
    refine WC.seq ?_
    refine WC.ct' rfl hc310 ?_
    refine WC.skip ?_
    refine DN.seq ?_
    refine WC.seq ?_
    refine WC.block ?_
    refine WC.seq ?_
    refine WC.rs [(0, 2), (1, 2)] rfl ?_
    refine WO.pn 2 rfl ?_
    refine WO.fin ?_
    refine DN.seq ?_
    refine WC.rs [(0, 2), (1, 2), (2, 2), (3, 2), (4, 1), (5, 2), (6, 1), (7, 1), (8, 1), (9, 1), (10, 2)] rfl ?_
    refine WO.pn 3 rfl ?_
    refine WO.k2 rfl rfl rfl rfl (rn_fieldAddr Try.runUnderlying46 rfl Try.sizeOf44 rfl rfl) ?_
    have f331 := f8.stp (S11.tr (S18.tr (S36.tr (S45.tr (S182.tr (S185.tr (S192.tr (S207.tr (S213.tr (S224.tr (S234.tr (S238.tr (S246.tr S323))))))))))))) rfl rfl
    refine WO.k1 trivial rfl rfl rfl rfl (rn_ld Try.isAgg44 rfl rfl (hvE (f331.ld 1 rfl rfl))) ?_
    refine WO.pn 1 rfl ?_
    obtain ⟨x72, hx72, h⟩ := Option.bind_eq_some_iff.mp h
    have f332 := g1_1.stp (S3.tr (S7.tr (S11.tr (S18.tr (S36.tr (S45.tr (S182.tr (S185.tr (S192.tr (S207.tr (S213.tr (S224.tr (S234.tr (S238.tr (S246.tr S323))))))))))))))) rfl rfl
    have f333 := f48.stp (S182.tr (S185.tr (S192.tr (S207.tr (S213.tr (S224.tr (S234.tr (S238.tr (S246.tr S323))))))))) rfl rfl
    have f334 := f240.stp (S246.tr S323) rfl rfl
    have f335 := f47.stp (S182.tr (S185.tr (S192.tr (S207.tr (S213.tr (S224.tr (S234.tr (S238.tr (S246.tr S323))))))))) rfl rfl
    refine WO.callV rfl rfl rfl rfl rfl rfl rfl rfl Try.call53 (i_CircuitOf_1_ok (κ := fun b => mp [] 0 (K322 b)) (Sl.map f332 (mp [] 0) rfl rfl) (f333.map (mp [] 0) rfl rfl) (f334.map (mp [] 0) rfl rfl) (f335.map (mp [] 0) rfl rfl) hx72) ?_
    rintro _ w336 ⟨k337, a72_0, u72_0, rfl, e338, f339⟩
    obtain ⟨K340, S341, m342⟩ := Ent.mixed (l := []) (κ := K322) e338 20 rfl
    refine ⟨trivial, ?_⟩
    have f344 := f339.mx no_bool m342 rfl (rfl : 20 + 2 = 22)
    obtain ⟨x73, hx73, h⟩ := Option.bind_eq_some_iff.mp h
    have f345 := f227.stp (S234.tr (S238.tr (S246.tr (S323.tr S341)))) rfl rfl
    have f346 := f325.stp S341 rfl rfl
    have f347 := f229.stp (S234.tr (S238.tr (S246.tr (S323.tr S341)))) rfl rfl
    have f348 := f326.stp S341 rfl rfl
    have f349 := f328.stp S341 rfl rfl
    refine WO.call rfl rfl rfl rfl rfl rfl Try.call54 (i_builder_literalOf_ok _ (κ := fun b => mp [(14, 2), (16, 3), (17, 4)] 0 (K340 b)) (p0 := (⟨(⟨x42.c.Inputs, x42.c.Latches, x42.c.Next, s7.2.1, x42.c.Outs⟩ : Circuit), s7.2.2.1, s7.2.2.2⟩ : builder)) (Sl.map f345.rdc (mp [(14, 2), (16, 3), (17, 4)] 0) rfl rfl) (f346.map (mp [(14, 2), (16, 3), (17, 4)] 0) rfl rfl) (Sl.map f347.rdc (mp [(14, 2), (16, 3), (17, 4)] 0) rfl rfl) (f348.map (mp [(14, 2), (16, 3), (17, 4)] 0) rfl rfl) (Sl.map f344.rdc (mp [(14, 2), (16, 3), (17, 4)] 0) rfl rfl) (f349.map (mp [(14, 2), (16, 3), (17, 4)] 0) rfl rfl) hx73) ?_
    rintro _ w350 ⟨k351, a73_m0, u73_m0, rfl, e352, f353, f354, f355⟩
    obtain ⟨K356, S357, m358⟩ := Ent.mixed (l := [(14, 2), (16, 3), (17, 4)]) (κ := K340) e352 23 rfl
    refine ⟨trivial, ?_⟩
    have f360 := f353.mx Gate.no33 m358 rfl (rfl : 23 + 2 = 25)
    have f361 := f354.mx' m358 rfl (rfl : 23 + 3 = 26)
    have f362 := f355.mx m358 rfl (rfl : 23 + 4 = 27)
    refine WO.bl (κ := K356) (E := (Ep.int .i64)) 28 [] (parts := [(0, .tmp 73)]) (cells := [.int .i64 x73.1]) (xs := ([x73.1] : List Int)) rfl rfl rfl rfl rfl rfl Try.underlying24 Tryinfo2 rfl rfl rfl rfl rfl rfl rfl rfl rfl rfl ⟨[.int .i64 x73.1], [], Zl K356 w350 [], Zl K356 w350 [], rfl, Zl.sp (l1 := []) (l2 := []) rfl, Zl.sr (l1 := []) (l2 := []), rfl, rfl⟩ fun a74 u74 w363 K364 S365 f366 => ⟨trivial, ?_⟩
    obtain ⟨x75, hx75, h⟩ := Option.bind_eq_some_iff.mp h
    have f367 := f324.stp (S341.tr (S357.tr S365)) rfl rfl
    refine WO.app (κ := K364) (E := (Ep.int .i64)) 19 [] rfl rfl rfl rfl rfl rfl rfl rfl rfl Try.underlying24 Tryinfo2 rfl rfl rfl rfl f367 (Sl.srcP (pu_int _) f366.rdc) sy_false hx75 rfl fun a75 u75 w368 K369 S370 f371 => ⟨trivial, ?_⟩
    refine WO.pn 1 rfl ?_
    refine WO.fin ?_
    refine DN.block ?_
    refine DN.seq ?_
    refine WC.rs [(0, 2), (1, 2)] rfl ?_
    refine WO.pn 2 rfl ?_
    refine WO.fin ?_
    have hw310 : IntKind.wrap .i64 (v63 + 1) = v63 + 1 := wr1 hj310 (of_decide_eq_true hc310) hN310
    rw [hw310]
    have hc310 := of_decide_eq_true hc310
    have f372 := f360.stp (S365.tr S370) rfl rfl
    have f373 := f361.stp (S365.tr S370) rfl rfl
    have f374 := f362.stp (S365.tr S370) rfl rfl
    obtain rfl := Option.some.inj h
    refine DN.round fun a ha => ?_
    exact ⟨k, _, Nat.lt_succ_self _, ⟨(fun b => ren [(25, 14), (26, 16), (27, 17)] (K369 b)), v63 + 1, ((x75 : (List Int)), (x73.2.1 : (List Gate)), (x73.2.2.1 : Bool), (x73.2.2.2 : (List (Gate × Int)))), a75, u75, a73_m0, u73_m0, rfl, (Stp.ren ((S323.tr (S341.tr (S357.tr (S365.tr S370)))).wk rfl) [(25, 14), (26, 16), (27, 17)] rfl), (f371.map (ren [(25, 14), (26, 16), (27, 17)]) rfl rfl), (f372.map (ren [(25, 14), (26, 16), (27, 17)]) rfl rfl), (f373.map (ren [(25, 14), (26, 16), (27, 17)]) rfl rfl), (f374.map (ren [(25, 14), (26, 16), (27, 17)]) rfl rfl), by omega, by omega, hk330⟩, (ha.more (ha.more (ha.more (ha.more (ha.more (ha.more (ha.more (ha.more ha.nil rfl) rfl) rfl) rfl) rfl) rfl) rfl) rfl)⟩
  rintro _ w313 ⟨K314, s9, las9_0, lus9_0, las9_1, lus9_1, rfl, S315, f316, f317, f318, f320, rfl⟩
  have h := hK311
  dsimp only [aft] at h
  refine DN.seq ?_
  refine WC.seq ?_
  refine WC.seq ?_
  refine WC.rs [(0, 2), (1, 2), (2, 2), (3, 1)] rfl ?_
  refine WO.pn 1 rfl ?_
  refine WO.k2 rfl rfl rfl rfl (rn_nilCheck rfl rfl) ?_
  refine WO.k2 rfl rfl rfl rfl (rn_fieldAddr Try.runUnderlying72 rfl Try.sizeOf4 rfl rfl) ?_
  refine WO.k1 trivial rfl rfl rfl rfl (rn_ld Try.isAgg4 rfl rfl (hvE (f320.ld 5 rfl rfl))) ?_
  refine WO.fin ?_
  refine DN.seq ?_
  revert h
  cases ht375 : s9.2.2.1 with
  | true =>
   intro h; replace h := cT h
   refine WC.ct rfl ?_
   refine WC.seq ?_
   refine WC.rs [(0, 2), (1, 1), (2, 2)] rfl ?_
   refine WO.k2 rfl rfl rfl rfl (rn_build (parts := []) (cells := [.int .i64 0, .int .i64 0, .slice none 0 0, .slice none 0 0, .slice none 0 0]) rfl rfl (by kernel_rfl)) ?_
   have f376 := f12.stp (S18.tr (S36.tr (S45.tr (S182.tr (S185.tr (S192.tr (S207.tr (S213.tr (S224.tr (S234.tr (S238.tr (S246.tr S315)))))))))))) rfl rfl
   refine WO.stB0 (κ := K314) 4 (vc := [.int .i64 0, .int .i64 0, .slice none 0 0, .slice none 0 0, .slice none 0 0]) rfl rfl rfl rfl rfl rfl rfl Try.sizeOf27 rfl rfl f376 rfl fun w377 S378 f379 => ⟨trivial, ?_⟩
   refine WO.pn 1 rfl ?_
   refine WO.fin ?_
   refine DN.seq ?_
   refine WC.ret ?_
   refine DN.retThen ?_
   have f380 := hE.stp (S3.tr (S7.tr (S11.tr (S18.tr (S36.tr (S45.tr (S182.tr (S185.tr (S192.tr (S207.tr (S213.tr (S224.tr (S234.tr (S238.tr (S246.tr (S315.tr S378)))))))))))))))) rfl rfl
   refine DN.res (l := [.cell 4 27, .tmp 5]) Try.results21 (res_cellA rfl f379 Try.isAgg27 Try.sizeOf27 rfl (res_tmp rfl rfl)) rfl ?_
   obtain rfl := Option.some.inj h
   exact ⟨K314, none, 0, none, 0, none, 0, rfl, f380, Ow.nil, Ow.nil, Ow.nil⟩
  | false =>
   intro h; replace h := cF h
   refine WC.cf rfl ?_
   refine WC.skip ?_
   refine DN.seq ?_
   refine WC.seq ?_
   refine WC.rs [(0, 2), (1, 2), (2, 2), (3, 2), (4, 2), (5, 2), (6, 2), (7, 1), (8, 2), (9, 2), (10, 2), (11, 1)] rfl ?_
   refine WO.pn 4 rfl ?_
   refine WO.k2 rfl rfl rfl rfl (rn_nilCheck rfl rfl) ?_
   refine WO.k2 rfl rfl rfl rfl (rn_fieldAddr Try.runUnderlying72 rfl Try.sizeOf27 rfl rfl) ?_
   refine WO.k2 rfl rfl rfl rfl (rn_fieldAddr Try.runUnderlying27 rfl Try.sizeOf24 rfl rfl) ?_
   refine WO.stB (κ := K314) 17 (off := 2) (vc := [.slice las6_0 s6.1.length lus6_0]) (cs' := [.int .i64 x42.c.Inputs, .int .i64 x42.c.Latches, .slice las6_0 s6.1.length lus6_0, .slice las9_1 s9.2.1.length lus9_1, .slice a42_2 x42.c.Outs.length u42_2, .bool s9.2.2.1, .map (some mb42_3)]) rfl rfl rfl rfl rfl rfl rfl Try.sizeOf24 rfl rfl f320 rfl rfl fun w381 S382 f383 => ⟨trivial, ?_⟩
   refine WO.k2 rfl rfl rfl rfl (rn_nilCheck rfl rfl) ?_
   refine WO.k2 rfl rfl rfl rfl (rn_fieldAddr Try.runUnderlying72 rfl Try.sizeOf27 rfl rfl) ?_
   refine WO.k2 rfl rfl rfl rfl (rn_fieldAddr Try.runUnderlying27 rfl Try.sizeOf24 rfl rfl) ?_
   refine WO.stB (κ := K314) 17 (off := 4) (vc := [.slice las9_0 s9.1.length lus9_0]) (cs' := [.int .i64 x42.c.Inputs, .int .i64 x42.c.Latches, .slice las6_0 s6.1.length lus6_0, .slice las9_1 s9.2.1.length lus9_1, .slice las9_0 s9.1.length lus9_0, .bool s9.2.2.1, .map (some mb42_3)]) rfl rfl rfl rfl rfl rfl rfl Try.sizeOf24 rfl rfl f383 rfl rfl fun w384 S385 f386 => ⟨trivial, ?_⟩
   refine WO.fin ?_
   refine DN.seq ?_
   refine WC.seq ?_
   refine WC.rs [(0, 2), (1, 2), (2, 2), (3, 1), (4, 1), (5, 2)] rfl ?_
   refine WO.pn 1 rfl ?_
   refine WO.k2 rfl rfl rfl rfl (rn_nilCheck rfl rfl) ?_
   refine WO.k2 rfl rfl rfl rfl (rn_fieldAddr Try.runUnderlying72 rfl Try.sizeOf27 rfl rfl) ?_
   refine WO.k1 trivial rfl rfl rfl rfl (rn_la (cs := [.int .i64 x42.c.Inputs, .int .i64 x42.c.Latches, .slice las6_0 s6.1.length lus6_0, .slice las9_1 s9.2.1.length lus9_1, .slice las9_0 s9.1.length lus9_0]) Try.isAgg27 Try.sizeOf27 rfl rfl rfl (haE (f386.lds 0 5 rfl))) ?_
   have f387 := f12.stp (S18.tr (S36.tr (S45.tr (S182.tr (S185.tr (S192.tr (S207.tr (S213.tr (S224.tr (S234.tr (S238.tr (S246.tr (S315.tr (S382.tr S385)))))))))))))) rfl rfl
   refine WO.stB0 (κ := K314) 4 (vc := [.int .i64 x42.c.Inputs, .int .i64 x42.c.Latches, .slice las6_0 s6.1.length lus6_0, .slice las9_1 s9.2.1.length lus9_1, .slice las9_0 s9.1.length lus9_0]) rfl rfl rfl rfl rfl rfl rfl Try.sizeOf27 rfl rfl f387 rfl fun w388 S389 f390 => ⟨trivial, ?_⟩
   refine WO.pn 1 rfl ?_
   refine WO.fin ?_
   refine DN.seq ?_
   refine WC.ret ?_
   have f391 := hE.stp (S3.tr (S7.tr (S11.tr (S18.tr (S36.tr (S45.tr (S182.tr (S185.tr (S192.tr (S207.tr (S213.tr (S224.tr (S234.tr (S238.tr (S246.tr (S315.tr (S382.tr (S385.tr S389)))))))))))))))))) rfl rfl
   have f392 := f247.stp (S315.tr (S382.tr (S385.tr S389))) rfl rfl
   have f393 := f317.stp (S382.tr (S385.tr S389)) rfl rfl
   have f394 := f316.stp (S382.tr (S385.tr S389)) rfl rfl
   refine DN.res (l := [.cell 4 27, .tmp 5]) Try.results21 (res_cellA rfl f390 Try.isAgg27 Try.sizeOf27 rfl (res_tmp rfl rfl)) rfl ?_
   obtain rfl := Option.some.inj h
   exact ⟨(fun b => ren [(18, 2), (14, 3), (19, 4)] (K314 b)), las6_0, lus6_0, las9_1, lus9_1, las9_0, lus9_0, rfl, (f391.map (ren [(18, 2), (14, 3), (19, 4)]) rfl rfl), (f392.map (ren [(18, 2), (14, 3), (19, 4)]) rfl rfl), (f393.map (ren [(18, 2), (14, 3), (19, 4)]) rfl rfl), (f394.map (ren [(18, 2), (14, 3), (19, 4)]) rfl rfl)⟩

/- loop.example/g00869/impl.OutsOver -/
theorem i_OutsOver_ok {w : World} {κ : Col} {a0_2 : Option Addr} {u0_2 : Nat} {a0_3 : Option Addr} {u0_3 : Nat} {a0_4 : Option Addr} {u0_4 : Nat} {p0 : Circuit} {a1 : Option Addr} {u1 : Nat} {p1 : (List Int)} (g0_2 : Rd (Rp.int .i64) κ w 0 a0_2 u0_2 p0.Next) (g0_3 : Rd Gate.rp κ w 0 a0_3 u0_3 p0.Gates) (g0_4 : Rd (Rp.int .i64) κ w 0 a0_4 u0_4 p0.Outs) (g1 : Rd (Rp.int .i64) κ w 0 a1 u1 p1) {r : (List Int)} (h : i_OutsOver p0 p1 = some r) : Ret Try.prog 28 [.agg #[.int .i64 p0.Inputs, .int .i64 p0.Latches, .slice a0_2 p0.Next.length u0_2, .slice a0_3 p0.Gates.length u0_3, .slice a0_4 p0.Outs.length u0_4], .slice a1 p1.length u1] w (fun v w' => ∃ (κ' : Col) (ra0 : Option Addr) (ru0 : Nat), v = .slice ra0 r.length ru0 ∧ Ent κ w κ' w' ∧ Oc (Ep.int .i64) 2 κ' w' 2 ra0 ru0 r) := by
 unfold i_OutsOver at h
 refine Ret.enter Try.func28 rfl Try.ntmps28 rfl ?_
 dsimp only [envOf]
 have hE := Ent.refl κ w
 refine WC.seq ?_
 refine WC.rs [(0, 1), (1, 2)] rfl ?_
 refine WO.box (κ := κ) 2 rfl rfl rfl rfl rfl rfl rfl fun b2 w1 K2 S3 f4 => ⟨trivial, ?_⟩
 refine WO.pn 1 rfl ?_
 refine WO.fin ?_
 refine DN.seq ?_
 refine WC.seq ?_
 refine WC.seq ?_
 refine WC.rs [(0, 1), (1, 1), (2, 2), (3, 2), (4, 2), (5, 2), (6, 2), (7, 2), (8, 2), (9, 2), (10, 2), (11, 1), (12, 2), (13, 1), (14, 2), (15, 2)] rfl ?_
 refine WO.k1 trivial rfl rfl rfl rfl (rn_la (cs := [.int .i64 p0.Inputs, .int .i64 p0.Latches, .slice a0_2 p0.Next.length u0_2, .slice a0_3 p0.Gates.length u0_3, .slice a0_4 p0.Outs.length u0_4]) Try.isAgg27 Try.sizeOf27 rfl rfl rfl (haE f4.cells)) ?_
 obtain ⟨x12, hx12, h⟩ := Option.bind_eq_some_iff.mp h
 have f5 := g0_2.stp S3 rfl rfl
 have f6 := g0_3.stp S3 rfl rfl
 have f7 := g0_4.stp S3 rfl rfl
 refine WO.call rfl rfl rfl rfl rfl rfl Try.call31 (i_isCircuit_ok (κ := fun b => mp [] 0 (K2 b)) (p0 := p0) (Sl.map f5 (mp [] 0) rfl rfl) (Sl.map f6 (mp [] 0) rfl rfl) (Sl.map f7 (mp [] 0) rfl rfl) hx12) ?_
 rintro _ w8 ⟨k9, rfl, e10⟩
 obtain ⟨K11, S12, m13⟩ := Ent.mixed (l := []) (κ := K2) e10 3 rfl
 refine ⟨trivial, ?_⟩
 refine WO.pn 2 rfl ?_
 obtain ⟨p18, h, hK15⟩ := Option.bind_eq_some_iff.mp h
 refine WO.meet [(4, 2), (5, 2), (6, 2), (7, 2)] [(8, 2), (9, 2), (10, 2), (11, 1), (12, 2), (13, 1), (14, 2), (15, 2)] (fun L w' => L = [(1, .slice a1 p1.length u1), (2, .pointer (some ⟨b2, 0, none⟩)), (18, .bool p18)] ∧ ∃ κ', Stp [] K11 w8 κ' w') trivial ?_ ?_
 ·
  revert h
  cases ht16 : (!x12) with
  | true =>
   intro h; replace h := cT h
   refine WO.pn 4 rfl ?_
   obtain rfl := Option.some.inj h
   exact WO.met _ trivial ⟨rfl, _, (Stp.refl _ _).wk rfl⟩ fun a ha => (ha.more (ha.more (ha.more ha.nil rfl) rfl) rfl)
  | false =>
   intro h; replace h := cF h
   refine WO.pn 1 rfl ?_
   refine WO.k2 rfl rfl rfl rfl (rn_len Try.runUnderlying24 rfl rfl) ?_
   refine WO.pn 2 rfl ?_
   obtain rfl := Option.some.inj h
   exact WO.met _ trivial ⟨rfl, _, (Stp.refl _ _).wk rfl⟩ fun a ha => (ha.more (ha.more (ha.more ha.nil rfl) rfl) rfl)
 rintro _ w17 _ ⟨rfl, K18, S19⟩
 have h := hK15
 refine WO.pn 1 rfl ?_
 obtain ⟨p26, h, hK20⟩ := Option.bind_eq_some_iff.mp h
 refine WO.meet [(9, 2), (10, 2), (11, 1), (12, 2), (13, 1), (14, 2), (15, 2)] [] (fun L w' => L = [(1, .slice a1 p1.length u1), (2, .pointer (some ⟨b2, 0, none⟩)), (26, .bool p26)] ∧ ∃ κ', Stp [] K18 w17 κ' w') trivial ?_ ?_
 ·
  revert h
  cases ht21 : p18 with
  | true =>
   intro h; replace h := cT h
   refine WO.pn 2 rfl ?_
   refine WO.ls rfl rfl rfl rfl ?_
   refine WO.pn 1 rfl ?_
   refine WO.ls rfl rfl rfl rfl ?_
   refine WO.pn 2 rfl ?_
   obtain rfl := Option.some.inj h
   exact WO.met _ trivial ⟨rfl, _, (Stp.refl _ _).wk rfl⟩ fun a ha => (ha.more (ha.more (ha.more ha.nil rfl) rfl) rfl)
  | false =>
   intro h; replace h := cF h
   refine WO.pn 1 rfl ?_
   refine WO.k2 rfl rfl rfl rfl (rn_fieldAddr Try.runUnderlying27 rfl Try.sizeOf2 rfl rfl) ?_
   have f22 := f4.stp (S12.tr S19) rfl rfl
   refine WO.k1 trivial rfl rfl rfl rfl (rn_ld Try.isAgg2 rfl rfl (hvE (f22.ld 0 rfl rfl))) ?_
   obtain ⟨_z23, hz23, h⟩ := Option.bind_eq_some_iff.mp h
   refine WO.k2 rfl rfl rfl rfl (rn_shl rfl rfl rfl (nn_ok hz23)) ?_
   obtain ⟨x24, hx24, h⟩ := Option.bind_eq_some_iff.mp h
   have f23 := g1.stp (S3.tr (S12.tr S19)) rfl rfl
   refine WO.call rfl rfl rfl rfl rfl rfl Try.call62 (i_areLetters_ok (κ := fun b => mp [] 0 (K18 b)) (Sl.map f23 (mp [] 0) rfl rfl) hx24) ?_
   rintro _ w24 ⟨k25, rfl, e26⟩
   obtain ⟨K27, S28, m29⟩ := Ent.mixed (l := []) (κ := K18) e26 5 rfl
   refine ⟨trivial, ?_⟩
   refine WO.pn 2 rfl ?_
   obtain rfl := Option.some.inj h
   exact WO.met _ trivial ⟨rfl, _, S28.wk rfl⟩ fun a ha => (ha.more (ha.more (ha.more ha.nil rfl) rfl) rfl)
 rintro _ w31 _ ⟨rfl, K32, S33⟩
 have h := hK20
 refine WO.fin ?_
 refine DN.seq ?_
 revert h
 cases ht34 : p26 with
 | true =>
  intro h; replace h := cT h
  refine WC.ct rfl ?_
  refine WC.seq ?_
  refine WC.rs [(0, 2)] rfl ?_
  refine WO.pn 1 rfl ?_
  refine WO.fin ?_
  refine DN.seq ?_
  refine WC.ret ?_
  refine DN.retThen ?_
  have f35 := hE.stp (S3.tr (S12.tr (S19.tr S33))) rfl rfl
  refine DN.res (l := [.tmp 4]) Try.results28 (res_tmp rfl rfl) rfl ?_
  obtain rfl := Option.some.inj h
  exact ⟨K32, none, 0, rfl, f35, Ow.nil⟩
 | false =>
  intro h; replace h := cF h
  refine WC.cf rfl ?_
  refine WC.skip ?_
  refine DN.seq ?_
  refine WC.seq ?_
  refine WC.rs [(0, 1), (1, 2)] rfl ?_
  refine WO.bl0 (κ := K32) (E := (Ep.int .i64)) 5 rfl rfl rfl rfl rfl Try.underlying24 Tryinfo2 rfl fun a27 u27 w36 K37 S38 f39 => ⟨trivial, ?_⟩
  refine WO.pn 1 rfl ?_
  refine WO.fin ?_
  refine DN.seq ?_
  refine WC.seq ?_
  refine WC.rs [(0, 2)] rfl ?_
  refine WO.pn 1 rfl ?_
  refine WO.fin ?_
  refine DN.seq ?_
  refine WC.seq ?_
  refine WC.seq ?_
  refine WC.rs [(0, 2), (1, 2), (2, 2)] rfl ?_
  refine WO.pn 1 rfl ?_
  refine WO.k2 rfl rfl rfl rfl (rn_len Try.runUnderlying24 rfl rfl) ?_
  refine WO.pn 1 rfl ?_
  refine WO.fin ?_
  refine DN.seq ?_
  have hN40 : (p1.length : Int) ≤ 9223372036854775807 := g1.len_le
  obtain ⟨q2, hq42, hK41⟩ := Option.bind_eq_some_iff.mp h
  clear h
  refine WC.meet (fun L w' => ∃ (κ' : Col) (s3 : (List Int) × Int) (las3_0 : Option Addr) (lus3_0 : Nat), L = [(5, .slice las3_0 s3.1.length lus3_0)] ∧ Stp [5] K37 w36 κ' w' ∧ Oc (Ep.int .i64) 2 κ' w' 5 las3_0 lus3_0 s3.1 ∧ q2 = Sum.inr s3) ?_ ?_
  ·
   refine WC.block ?_
   refine WC.loop (fun k L w' => ∃ (κ' : Col) (v30 : Int) (s1 : (List Int) × Int) (las1_0 : Option Addr) (lus1_0 : Nat), L = [(2, .pointer (some ⟨b2, 0, none⟩)), (5, .slice las1_0 s1.1.length lus1_0), (6, .int .i64 s1.2), (28, .slice a1 p1.length u1), (29, .int .i64 (p1.length : Int)), (30, .int .i64 v30)] ∧ Stp [5] K37 w36 κ' w' ∧ Oc (Ep.int .i64) 2 κ' w' 5 las1_0 lus1_0 s1.1 ∧ 0 ≤ v30 ∧ Int.toNat ((p1.length : Int) - v30) = k ∧ cntM (i_OutsOver_b0 p0 p1) k v30 s1 = some q2) ⟨_, _, ⟨K37, 0, ((([] : List Int) : (List Int)), (0 : Int)), a27, u27, rfl, (Stp.refl _ _).wk rfl, f39, (by decide), (by simp), hq42⟩, fun a ha => (ha.more (ha.more (ha.more (ha.more (ha.more (ha.more ha.nil rfl) rfl) rfl) rfl) rfl) rfl)⟩ ?_
   rintro k _ w47 ⟨K48, v30, s1, las1_0, lus1_0, rfl, S49, f50, hj40, hJ40, h⟩
   rcases k with _ | k
   ·
    have hk51 := h; obtain ⟨o40, h⟩ := ex_eq (Sum.inr (Sum.inl s1) : (List Int) ⊕ (((List Int) × Int) ⊕ ((List Int) × Int)))
    have hc40 : decide (v30 < (p1.length : Int)) = false := decide_eq_false (by omega)
    refine WC.seq ?_
    refine WC.rs [(0, 2)] rfl ?_
    refine WO.pn 1 rfl ?_
    refine WO.fin ?_
    refine DN.seq ?_
    refine WC.seq ?_
    refine WC.cf' rfl hc40 ?_
    refine WC.exit ?_
    refine DN.exitThen ?_
    refine DN.exitThen ?_
    obtain rfl := Option.some.inj h
    have h := hk51
    refine DN.hit ?_
    obtain rfl := Option.some.inj h
    exact DN.meet _ ⟨K48, ((s1.1 : (List Int)), (s1.2 : Int)), las1_0, lus1_0, rfl, S49.wk rfl, f50, rfl⟩ fun a ha => (ha.more ha.nil rfl)
   ·
    obtain ⟨o40, h, hk51⟩ := Option.bind_eq_some_iff.mp h; unfold i_OutsOver_b0 at h
    have hc40 : decide (v30 < (p1.length : Int)) = true := decide_eq_true (by omega)
    refine WC.seq ?_
    refine WC.rs [(0, 2)] rfl ?_
    refine WO.pn 1 rfl ?_
    refine WO.fin ?_
    refine DN.seq ?_
    refine WC.seq ?_
    refine WC.ct' rfl hc40 ?_
    refine WC.skip ?_
    refine DN.seq ?_
    refine WC.seq ?_
    refine WC.block ?_
    refine WC.seq ?_
    refine WC.rs [(0, 2), (1, 1), (2, 2)] rfl ?_
    obtain ⟨x32, hx32, h⟩ := Option.bind_eq_some_iff.mp h
    refine WO.k2 rfl rfl rfl rfl (rn_index g1 hx32 Try.runUnderlying24 Try.sizeOf2 rfl rfl rfl rfl) ?_
    have f52 := g1.stp (S3.tr (S12.tr (S19.tr (S33.tr (S38.tr S49))))) rfl rfl
    refine WO.k1 trivial rfl rfl rfl rfl (rn_ld Try.isAgg2 rfl rfl (hvE (f52.gInt hx32))) ?_
    refine WO.pn 1 rfl ?_
    refine WO.fin ?_
    refine DN.seq ?_
    refine WC.seq ?_
    refine WC.rs [(0, 1), (1, 2), (2, 2), (3, 1), (4, 2), (5, 2), (6, 2), (7, 2), (8, 2)] rfl ?_
    have f53 := f4.stp (S12.tr (S19.tr (S33.tr (S38.tr S49)))) rfl rfl
    refine WO.k1 trivial rfl rfl rfl rfl (rn_la (cs := [.int .i64 p0.Inputs, .int .i64 p0.Latches, .slice a0_2 p0.Next.length u0_2, .slice a0_3 p0.Gates.length u0_3, .slice a0_4 p0.Outs.length u0_4]) Try.isAgg27 Try.sizeOf27 rfl rfl rfl (haE f53.cells)) ?_
    refine WO.pn 2 rfl ?_
    obtain ⟨x38, hx38, h⟩ := Option.bind_eq_some_iff.mp h
    have f54 := f5.stp (S12.tr (S19.tr (S33.tr (S38.tr S49)))) rfl rfl
    have f55 := f6.stp (S12.tr (S19.tr (S33.tr (S38.tr S49)))) rfl rfl
    have f56 := f7.stp (S12.tr (S19.tr (S33.tr (S38.tr S49)))) rfl rfl
    refine WO.call rfl rfl rfl rfl rfl rfl Try.call38 (i_stepOf_ok (κ := fun b => mp [] 0 (K48 b)) (p0 := p0) (Sl.map f54 (mp [] 0) rfl rfl) (Sl.map f55 (mp [] 0) rfl rfl) (Sl.map f56 (mp [] 0) rfl rfl) hx38) ?_
    rintro _ w57 ⟨k58, rfl, e59⟩
    obtain ⟨K60, S61, m62⟩ := Ent.mixed (l := []) (κ := K48) e59 6 rfl
    refine ⟨trivial, ?_⟩
    refine WO.pn 5 rfl ?_
    refine WO.fin ?_
    refine DN.seq ?_
    refine WC.seq ?_
    refine WC.rs [(0, 2), (1, 2), (2, 1), (3, 1), (4, 2)] rfl ?_
    refine WO.pn 2 rfl ?_
    refine WO.bl (κ := K60) (E := (Ep.int .i64)) 8 [] (parts := [(0, .tmp 42)]) (cells := [.int .i64 x38.2]) (xs := ([x38.2] : List Int)) rfl rfl rfl rfl rfl rfl Try.underlying24 Tryinfo2 rfl rfl rfl rfl rfl rfl rfl rfl rfl rfl ⟨[.int .i64 x38.2], [], Zl K60 w57 [], Zl K60 w57 [], rfl, Zl.sp (l1 := []) (l2 := []) rfl, Zl.sr (l1 := []) (l2 := []), rfl, rfl⟩ fun a43 u43 w64 K65 S66 f67 => ⟨trivial, ?_⟩
    obtain ⟨x44, hx44, h⟩ := Option.bind_eq_some_iff.mp h
    have f68 := f50.stp (S61.tr S66) rfl rfl
    refine WO.app (κ := K65) (E := (Ep.int .i64)) 5 [] rfl rfl rfl rfl rfl rfl rfl rfl rfl Try.underlying24 Tryinfo2 rfl rfl rfl rfl f68 (Sl.srcP (pu_int _) f67.rdc) sy_false hx44 rfl fun a44 u44 w69 K70 S71 f72 => ⟨trivial, ?_⟩
    refine WO.pn 1 rfl ?_
    refine WO.fin ?_
    refine DN.seq ?_
    refine WC.rs [(0, 2), (1, 2)] rfl ?_
    refine WO.pn 2 rfl ?_
    refine WO.fin ?_
    refine DN.block ?_
    refine DN.seq ?_
    refine WC.rs [(0, 2), (1, 2)] rfl ?_
    refine WO.pn 2 rfl ?_
    refine WO.fin ?_
    have hw40 : IntKind.wrap .i64 (v30 + 1) = v30 + 1 := wr1 hj40 (of_decide_eq_true hc40) hN40
    rw [hw40]
    have hc40 := of_decide_eq_true hc40
    obtain rfl := Option.some.inj h
    refine DN.round fun a ha => ?_
    exact ⟨k, _, Nat.lt_succ_self _, ⟨K70, v30 + 1, ((x44 : (List Int)), (x38.1 : Int)), a44, u44, rfl, (S49.tr (S61.tr (S66.tr S71))).wk rfl, f72, by omega, by omega, hk51⟩, (ha.more (ha.more (ha.more (ha.more (ha.more (ha.more ha.nil rfl) rfl) rfl) rfl) rfl) rfl)⟩
  rintro _ w43 ⟨K44, s3, las3_0, lus3_0, rfl, S45, f46, rfl⟩
  have h := hK41
  dsimp only [aft] at h
  refine DN.seq ?_
  refine WC.seq ?_
  refine WC.rs [(0, 2), (1, 2)] rfl ?_
  refine WO.pn 2 rfl ?_
  refine WO.fin ?_
  refine DN.seq ?_
  refine WC.ret ?_
  have f73 := hE.stp (S3.tr (S12.tr (S19.tr (S33.tr (S38.tr S45))))) rfl rfl
  refine DN.res (l := [.tmp 4]) Try.results28 (res_tmp rfl rfl) rfl ?_
  obtain rfl := Option.some.inj h
  exact ⟨(fun b => ren [(5, 2)] (K44 b)), las3_0, lus3_0, rfl, (f73.map (ren [(5, 2)]) rfl rfl), (f46.map (ren [(5, 2)]) rfl rfl)⟩

end Go.Proofs.Ythjkonkcdfdfaaa
