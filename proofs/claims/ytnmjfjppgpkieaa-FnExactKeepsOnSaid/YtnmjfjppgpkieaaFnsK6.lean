/- The walks, part 6. By program. -/
import Derived.Test.YtnmjfjppgpkieaaFnsK5
set_option linter.unusedVariables false
set_option linter.unusedSimpArgs false
namespace Go.Proofs.Ytnmjfjppgpkieaa
open Go Go.Wk Go.Proofs
set_option maxRecDepth 100000
set_option maxHeartbeats 1000000

/- loop.example/g00869/spec.AllHold -/
theorem s_AllHold_ok {w : World} {κ : Col} {p0 : Sig} {a1 : Option Addr} {u1 : Nat} {p1 : (List Clause)} {a2_0 : Option Addr} {u2_0 : Nat} {a2_1 : Option Addr} {u2_1 : Nat} {p2 : Word} (g1 : Rd Clause.rp κ w 0 a1 u1 p1) (g2_0 : Rd (Rp.int .i64) κ w 0 a2_0 u2_0 p2.Stem) (g2_1 : Rd (Rp.int .i64) κ w 0 a2_1 u2_1 p2.Loop) {r : Bool} (h : s_AllHold p0 p1 p2 = some r) : Ret Try.prog 49 [.agg #[.int .i64 p0.In, .int .i64 p0.Out], .slice a1 p1.length u1, .agg #[.slice a2_0 p2.Stem.length u2_0, .slice a2_1 p2.Loop.length u2_1]] w (fun v w' => ∃ (κ' : Col), v = .bool r ∧ Ent κ w κ' w') := by
 unfold s_AllHold at h
 refine Ret.enter Try.func49 rfl Try.ntmps49 rfl ?_
 dsimp only [envOf]
 have hE := Ent.refl κ w
 refine WC.seq ?_
 refine WC.rs [(0, 1), (1, 1), (2, 2)] rfl ?_
 refine WO.box (κ := κ) 2 rfl rfl rfl rfl rfl rfl rfl fun b3 w1 K2 S3 f4 => ⟨trivial, ?_⟩
 refine WO.box (κ := K2) 3 rfl rfl rfl rfl rfl rfl rfl fun b5 w5 K6 S7 f8 => ⟨trivial, ?_⟩
 refine WO.pn 1 rfl ?_
 refine WO.fin ?_
 refine DN.seq ?_
 refine WC.seq ?_
 refine WC.rs [(0, 1), (1, 2), (2, 1), (3, 1), (4, 2), (5, 2)] rfl ?_
 have f9 := f4.stp S7 rfl rfl
 refine WO.k1 trivial rfl rfl rfl rfl (rn_la (cs := [.int .i64 p0.In, .int .i64 p0.Out]) Try.isAgg35 Try.sizeOf35 rfl rfl rfl (haE f9.cells)) ?_
 refine WO.pn 1 rfl ?_
 refine WO.k1 trivial rfl rfl rfl rfl (rn_la (cs := [.slice a2_0 p2.Stem.length u2_0, .slice a2_1 p2.Loop.length u2_1]) Try.isAgg41 Try.sizeOf41 rfl rfl rfl (haE f8.cells)) ?_
 obtain ⟨x10, hx10, h⟩ := Option.bind_eq_some_iff.mp h
 have f10 := g1.stp (S3.tr S7) rfl rfl
 have f11 := g2_0.stp (S3.tr S7) rfl rfl
 have f12 := g2_1.stp (S3.tr S7) rfl rfl
 refine WO.call rfl rfl rfl rfl rfl rfl Try.call85 (s_FirstBroken_ok (κ := fun b => mp [] 0 (K6 b)) (p0 := p0) (p2 := p2) (Sl.map f10 (mp [] 0) rfl rfl) (Sl.map f11 (mp [] 0) rfl rfl) (Sl.map f12 (mp [] 0) rfl rfl) hx10) ?_
 rintro _ w13 ⟨k14, rfl, e15⟩
 obtain ⟨K16, S17, m18⟩ := Ent.mixed (l := []) (κ := K6) e15 4 rfl
 refine ⟨trivial, ?_⟩
 refine WO.pn 2 rfl ?_
 refine WO.fin ?_
 refine DN.seq ?_
 refine WC.ret ?_
 have f20 := hE.stp (S3.tr (S7.tr S17)) rfl rfl
 refine DN.res (l := [.tmp 6]) Try.results49 (res_tmp rfl rfl) rfl ?_
 obtain rfl := Option.some.inj h
 exact ⟨K16, rfl, f20⟩

/- loop.example/g00869/spec.KeepsOn -/
theorem s_KeepsOn_ok {w : World} {κ : Col} {p0 : Sig} {a1_0 : Option Addr} {u1_0 : Nat} {a1_1 : Option Addr} {u1_1 : Nat} {p1 : Machine} {a2 : Option Addr} {u2 : Nat} {p2 : (List Clause)} {a3_0 : Option Addr} {u3_0 : Nat} {a3_1 : Option Addr} {u3_1 : Nat} {p3 : Word} (g1_0 : Rd (Rp.sl (Rp.int .i64)) κ w 0 a1_0 u1_0 p1.Next) (g1_1 : Rd (Rp.sl (Rp.int .i64)) κ w 0 a1_1 u1_1 p1.Out) (g2 : Rd Clause.rp κ w 0 a2 u2 p2) (g3_0 : Rd (Rp.int .i64) κ w 0 a3_0 u3_0 p3.Stem) (g3_1 : Rd (Rp.int .i64) κ w 0 a3_1 u3_1 p3.Loop) {r : Bool} (h : s_KeepsOn p0 p1 p2 p3 = some r) : Ret Try.prog 10 [.agg #[.int .i64 p0.In, .int .i64 p0.Out], .agg #[.slice a1_0 p1.Next.length u1_0, .slice a1_1 p1.Out.length u1_1], .slice a2 p2.length u2, .agg #[.slice a3_0 p3.Stem.length u3_0, .slice a3_1 p3.Loop.length u3_1]] w (fun v w' => ∃ (κ' : Col), v = .bool r ∧ Ent κ w κ' w') := by
 unfold s_KeepsOn at h
 refine Ret.enter Try.func10 rfl Try.ntmps10 rfl ?_
 dsimp only [envOf]
 have hE := Ent.refl κ w
 refine WC.seq ?_
 refine WC.rs [(0, 1), (1, 1), (2, 1), (3, 2)] rfl ?_
 refine WO.box (κ := κ) 2 rfl rfl rfl rfl rfl rfl rfl fun b4 w1 K2 S3 f4 => ⟨trivial, ?_⟩
 refine WO.box (κ := K2) 3 rfl rfl rfl rfl rfl rfl rfl fun b5 w5 K6 S7 f8 => ⟨trivial, ?_⟩
 refine WO.box (κ := K6) 4 rfl rfl rfl rfl rfl rfl rfl fun b7 w9 K10 S11 f12 => ⟨trivial, ?_⟩
 refine WO.pn 1 rfl ?_
 refine WO.fin ?_
 refine DN.seq ?_
 refine WC.seq ?_
 refine WC.rx (κ := K10) [2, 3, 4] none [(1, 2), (0, 0), (2, 0), (3, 0), (4, 0), (5, 1), (6, 1), (7, 2)] [] (by kernel_rfl) (by kernel_rfl) fun w14 S13 => ?_
 refine WO.pn 1 rfl ?_
 have f15 := f4.stp (S7.tr (S11.tr S13)) rfl rfl
 refine WO.k0 rfl rfl rfl rfl (rn_la (cs := [.int .i64 p0.In, .int .i64 p0.Out]) Try.isAgg35 Try.sizeOf35 rfl rfl rfl (haC f15.cells rfl)) ?_
 refine WO.k0 rfl rfl rfl rfl (rn_la (cs := [.int .i64 p0.In, .int .i64 p0.Out]) Try.isAgg35 Try.sizeOf35 rfl rfl rfl (haC f15.cells rfl)) ?_
 have f16 := f8.stp (S11.tr S13) rfl rfl
 refine WO.k0 rfl rfl rfl rfl (rn_la (cs := [.slice a1_0 p1.Next.length u1_0, .slice a1_1 p1.Out.length u1_1]) Try.isAgg37 Try.sizeOf37 rfl rfl rfl (haC f16.cells rfl)) ?_
 have f17 := f12.stp S13 rfl rfl
 refine WO.k0 rfl rfl rfl rfl (rn_la (cs := [.slice a3_0 p3.Stem.length u3_0, .slice a3_1 p3.Loop.length u3_1]) Try.isAgg41 Try.sizeOf41 rfl rfl rfl (haC f17.cells rfl)) ?_
 obtain ⟨x14, hx14, h⟩ := Option.bind_eq_some_iff.mp h
 have f18 := g1_0.stp (S3.tr (S7.tr (S11.tr S13))) rfl rfl
 have f19 := g1_1.stp (S3.tr (S7.tr (S11.tr S13))) rfl rfl
 have f20 := g3_0.stp (S3.tr (S7.tr (S11.tr S13))) rfl rfl
 have f21 := g3_1.stp (S3.tr (S7.tr (S11.tr S13))) rfl rfl
 refine WO.call rfl rfl rfl rfl rfl rfl Try.call50 (s_RunWord_ok (κ := fun b => mp [] 0 (K10 b)) (p0 := p0) (p1 := p1) (p2 := p3) (Sl.map f18 (mp [] 0) rfl rfl) (Sl.map f19 (mp [] 0) rfl rfl) (Sl.map f20 (mp [] 0) rfl rfl) (Sl.map f21 (mp [] 0) rfl rfl) hx14) ?_
 rintro _ w22 ⟨k23, a14_0, u14_0, a14_1, u14_1, rfl, e24, f25, f26⟩
 obtain ⟨K27, S28, m29⟩ := Ent.mixed (l := []) (κ := K10) e24 5 rfl
 refine ⟨(S28.cl rfl), ?_⟩
 have f31 := f25.mx (no_int _) m29 rfl (rfl : 5 + 2 = 7)
 have f32 := f26.mx (no_int _) m29 rfl (rfl : 5 + 3 = 8)
 obtain ⟨x15, hx15, h⟩ := Option.bind_eq_some_iff.mp h
 have f33 := g2.stp (S3.tr (S7.tr (S11.tr (S13.tr S28)))) rfl rfl
 refine WO.call rfl rfl rfl rfl rfl rfl Try.call49 (s_AllHold_ok (κ := fun b => mp [] 0 (K27 b)) (p0 := p0) (p2 := x14) (Sl.map f33 (mp [] 0) rfl rfl) (Sl.map f31.rdc (mp [] 0) rfl rfl) (Sl.map f32.rdc (mp [] 0) rfl rfl) hx15) ?_
 rintro _ w34 ⟨k35, rfl, e36⟩
 obtain ⟨K37, S38, m39⟩ := Ent.mixed (l := []) (κ := K27) e36 9 rfl
 refine ⟨((S28.tr S38).cl rfl), ?_⟩
 refine WO.pn 1 rfl ?_
 refine WO.nx ?_
 refine WO.fin ?_
 refine DN.seq ?_
 refine WC.ret ?_
 have f41 := hE.stp (S3.tr (S7.tr (S11.tr (S13.tr (S28.tr S38))))) rfl rfl
 refine DN.res (l := [.tmp 8]) Try.results10 (res_tmp rfl rfl) rfl ?_
 obtain rfl := Option.some.inj h
 exact ⟨K37, rfl, f41⟩

/- loop.example/g00869/impl.holdsOn -/
theorem i_holdsOn_ok {w : World} {κ : Col} {a0_1 : Option Addr} {u0_1 : Nat} {a0_2 : Option Addr} {u0_2 : Nat} {p0 : Clause} {a1_0 : Option Addr} {u1_0 : Nat} {a1_1 : Option Addr} {u1_1 : Nat} {p1 : Word} (g0_1 : Rd (Rp.int .i64) κ w 0 a0_1 u0_1 p0.A) (g0_2 : Rd (Rp.int .i64) κ w 0 a0_2 u0_2 p0.B) (g1_0 : Rd (Rp.int .i64) κ w 0 a1_0 u1_0 p1.Stem) (g1_1 : Rd (Rp.int .i64) κ w 0 a1_1 u1_1 p1.Loop) {r : Bool} (h : i_holdsOn p0 p1 = some r) : Ret Try.prog 128 [.agg #[.int .i64 p0.Kind, .slice a0_1 p0.A.length u0_1, .slice a0_2 p0.B.length u0_2], .agg #[.slice a1_0 p1.Stem.length u1_0, .slice a1_1 p1.Loop.length u1_1]] w (fun v w' => ∃ (κ' : Col), v = .bool r ∧ Ent κ w κ' w') := by
 unfold i_holdsOn at h
 refine Ret.enter Try.func128 rfl Try.ntmps128 rfl ?_
 dsimp only [envOf]
 have hE := Ent.refl κ w
 refine WC.seq ?_
 refine WC.rs [(0, 1), (1, 1), (2, 2)] rfl ?_
 refine WO.box (κ := κ) 2 rfl rfl rfl rfl rfl rfl rfl fun b2 w1 K2 S3 f4 => ⟨trivial, ?_⟩
 refine WO.box (κ := K2) 3 rfl rfl rfl rfl rfl rfl rfl fun b3 w5 K6 S7 f8 => ⟨trivial, ?_⟩
 refine WO.pn 1 rfl ?_
 refine WO.fin ?_
 refine DN.seq ?_
 refine WC.seq ?_
 refine WC.rs [(0, 2), (1, 1), (2, 1)] rfl ?_
 refine WO.k2 rfl rfl rfl rfl (rn_makeFunc (first := []) (captured := [.tmp 2]) rfl rfl rfl ⟨_, rfl⟩) ?_
 refine WO.alloc (κ := K6) 4 rfl rfl rfl rfl rfl Try.zeroValue156 rfl fun b5 w9 K10 S11 f12 => ⟨trivial, ?_⟩
 refine WO.stB0 (κ := K10) 4 (vc := [.func (.func 147) #[] #[.pointer (some ⟨b2, 0, none⟩)]]) rfl rfl rfl rfl rfl rfl rfl Try.sizeOf156 rfl rfl f12 rfl fun w13 S14 f15 => ⟨trivial, ?_⟩
 refine WO.fin ?_
 refine DN.seq ?_
 refine WC.seq ?_
 refine WC.rs [(0, 2), (1, 2)] rfl ?_
 refine WO.k2 rfl rfl rfl rfl (rn_makeFunc (first := []) (captured := [.tmp 2]) rfl rfl rfl ⟨_, rfl⟩) ?_
 refine WO.pn 1 rfl ?_
 refine WO.fin ?_
 refine DN.seq ?_
 refine WC.seq ?_
 refine WC.rs [(0, 2), (1, 2)] rfl ?_
 refine WO.k2 rfl rfl rfl rfl (rn_makeFunc (first := []) (captured := [.tmp 5]) rfl rfl rfl ⟨_, rfl⟩) ?_
 refine WO.pn 1 rfl ?_
 refine WO.fin ?_
 refine DN.seq ?_
 refine WC.seq ?_
 obtain ⟨x25, hx25, h⟩ := Option.bind_eq_some_iff.mp h
 obtain ⟨x19, hx19, h⟩ := Option.bind_eq_some_iff.mp h
 obtain ⟨x22, hx22, h⟩ := Option.bind_eq_some_iff.mp h
 obtain ⟨x28, hx28, h⟩ := Option.bind_eq_some_iff.mp h
 refine WC.meet (fun L w' => ∃ (κ' : Col) (lar19_0 : Option Addr) (lur19_0 : Nat), L = [(2, .pointer (some ⟨b2, 0, none⟩)), (3, .pointer (some ⟨b3, 0, none⟩)), (5, .pointer (some ⟨b5, 0, none⟩)), (6, .func (.func 148) #[] #[.pointer (some ⟨b2, 0, none⟩)]), (7, .func (.func 149) #[] #[.pointer (some ⟨b5, 0, none⟩)]), (8, .slice lar19_0 x28.length lur19_0)] ∧ Stp [5, 6] K10 w13 κ' w' ∧ Oc (Ep.int .i64) 2 κ' w' 5 lar19_0 lur19_0 x28) ?_ ?_
 ·
  refine WC.rxt (κ := K10) [0, 3] none (by kernel_rfl) fun w21 S22 => ?_
  refine WA.seg (fuel := 6) [(1, 2), (4, 2), (7, 2), (2, 0), (5, 0), (8, 0), (9, 2), (10, 0)] (by kernel_rfl) (by kernel_rfl) rfl ?_
  refine WO.k2 rfl rfl rfl rfl (rn_fieldAddr Try.runUnderlying41 rfl Try.sizeOf28 rfl rfl) ?_
  refine WO.k2 rfl rfl rfl rfl (rn_fieldAddr Try.runUnderlying41 rfl Try.sizeOf28 rfl rfl) ?_
  refine WO.k2 rfl rfl rfl rfl (rn_fieldAddr Try.runUnderlying41 rfl Try.sizeOf28 rfl rfl) ?_
  have f23 := f8.stp (S11.tr (S14.tr S22)) rfl rfl
  refine WO.k0 rfl rfl rfl rfl (rn_ld Try.isAgg28 rfl rfl (hvC (f23.ld 0 rfl rfl) rfl)) ?_
  refine WO.k0 rfl rfl rfl rfl (rn_ld Try.isAgg28 rfl rfl (hvC (f23.ld 1 rfl rfl) rfl)) ?_
  refine WO.k0 rfl rfl rfl rfl (rn_ld Try.isAgg28 rfl rfl (hvC (f23.ld 1 rfl rfl) rfl)) ?_
  refine WO.k2 rfl rfl rfl rfl (rn_index g1_1 hx25 Try.runUnderlying28 Try.sizeOf2 rfl rfl rfl rfl) ?_
  have f24 := g1_1.stp (S3.tr (S7.tr (S11.tr (S14.tr S22)))) rfl rfl
  refine WO.k0 rfl rfl rfl rfl (rn_ld Try.isAgg2 rfl rfl (hvC (f24.gInt hx25) rfl)) ?_
  refine WO.wa ?_
  refine WA.fork2 (fuel := 5) 0 11 (by kernel_rfl) rfl ?_ ?_
  ·
   refine WO.bl0 (κ := K10) (E := (Ep.int .i64)) 5 rfl rfl rfl rfl rfl Try.underlying28 Tryinfo2 rfl fun a16 u16 w25 K26 S27 f28 => ⟨(S27.cl rfl), ?_⟩
   refine WO.wa ?_
   refine WA.fork2 (fuel := 4) 3 11 (by kernel_rfl) rfl ?_ ?_
   ·
    have f29 := g1_0.stp (S3.tr (S7.tr (S11.tr (S14.tr (S22.tr S27))))) rfl rfl
    refine WO.app (κ := K26) (E := (Ep.int .i64)) 5 [] rfl rfl rfl rfl rfl rfl rfl rfl rfl Try.underlying28 Tryinfo2 rfl rfl rfl rfl f28 (Sl.srcP (pu_int _) f29) sy_false hx19 rfl fun a19 u19 w30 K31 S32 f33 => ⟨((S27.tr S32).cl rfl), ?_⟩
    refine WO.wa ?_
    refine WA.fork2 (fuel := 3) 6 11 (by kernel_rfl) rfl ?_ ?_
    ·
     have f34 := f24.stp (S27.tr S32) rfl rfl
     refine WO.app (κ := K31) (E := (Ep.int .i64)) 5 [] rfl rfl rfl rfl rfl rfl rfl rfl rfl Try.underlying28 Tryinfo2 rfl rfl rfl rfl f33 (Sl.srcP (pu_int _) f34) sy_false hx22 rfl fun a22 u22 w35 K36 S37 f38 => ⟨((S27.tr (S32.tr S37)).cl rfl), ?_⟩
     refine WO.wa ?_
     refine WA.seg (fuel := 0) [(11, 1), (12, 1), (13, 2)] (by kernel_rfl) (by kernel_rfl) rfl ?_
     refine WO.bl (κ := K36) (E := (Ep.int .i64)) 6 [] (parts := [(0, .tmp 26)]) (cells := [.int .i64 x25]) (xs := ([x25] : List Int)) rfl rfl rfl rfl rfl rfl Try.underlying28 Tryinfo2 rfl rfl rfl rfl rfl rfl rfl rfl rfl rfl ⟨[.int .i64 x25], [], Zl K36 w35 [], Zl K36 w35 [], rfl, Zl.sp (l1 := []) (l2 := []) rfl, Zl.sr (l1 := []) (l2 := []), rfl, rfl⟩ fun a27 u27 w39 K40 S41 f42 => ⟨((S27.tr (S32.tr (S37.tr S41))).cl rfl), ?_⟩
     have f43 := f38.stp S41 rfl rfl
     refine WO.app (κ := K40) (E := (Ep.int .i64)) 5 [] rfl rfl rfl rfl rfl rfl rfl rfl rfl Try.underlying28 Tryinfo2 rfl rfl rfl rfl f43 (Sl.srcP (pu_int _) f42.rdc) sy_false hx28 rfl fun a28 u28 w44 K45 S46 f47 => ⟨((S27.tr (S32.tr (S37.tr (S41.tr S46)))).cl rfl), ?_⟩
     refine WO.pn 1 rfl ?_
     refine WO.wa ?_
     refine WA.last [] (by kernel_rfl) (by kernel_rfl) rfl ?_
     refine WO.fin ?_
     exact DN.meet _ ⟨K45, a28, u28, rfl, (S22.tr (S27.tr (S32.tr (S37.tr (S41.tr S46))))).wk rfl, f47⟩ fun a ha => (ha.more (ha.more (ha.more (ha.more (ha.more (ha.more ha.nil rfl) rfl) rfl) rfl) rfl) rfl)
    ·
     refine WO.bl (κ := K31) (E := (Ep.int .i64)) 6 [] (parts := [(0, .tmp 26)]) (cells := [.int .i64 x25]) (xs := ([x25] : List Int)) rfl rfl rfl rfl rfl rfl Try.underlying28 Tryinfo2 rfl rfl rfl rfl rfl rfl rfl rfl rfl rfl ⟨[.int .i64 x25], [], Zl K31 w30 [], Zl K31 w30 [], rfl, Zl.sp (l1 := []) (l2 := []) rfl, Zl.sr (l1 := []) (l2 := []), rfl, rfl⟩ fun a27 u27 w48 K49 S50 f51 => ⟨((S27.tr (S32.tr S50)).cl rfl), ?_⟩
     refine WO.wa ?_
     refine WA.seg (fuel := 0) [(6, 1), (12, 1), (13, 2)] (by kernel_rfl) (by kernel_rfl) rfl ?_
     have f52 := f24.stp (S27.tr (S32.tr S50)) rfl rfl
     have f53 := f33.stp S50 rfl rfl
     refine WO.app (κ := K49) (E := (Ep.int .i64)) 5 [] rfl rfl rfl rfl rfl rfl rfl rfl rfl Try.underlying28 Tryinfo2 rfl rfl rfl rfl f53 (Sl.srcP (pu_int _) f52) sy_false hx22 rfl fun a22 u22 w54 K55 S56 f57 => ⟨((S27.tr (S32.tr (S50.tr S56))).cl rfl), ?_⟩
     have f58 := f51.stp S56 rfl rfl
     refine WO.app (κ := K55) (E := (Ep.int .i64)) 5 [] rfl rfl rfl rfl rfl rfl rfl rfl rfl Try.underlying28 Tryinfo2 rfl rfl rfl rfl f57 (Sl.srcP (pu_int _) f58.rdc) sy_false hx28 rfl fun a28 u28 w59 K60 S61 f62 => ⟨((S27.tr (S32.tr (S50.tr (S56.tr S61)))).cl rfl), ?_⟩
     refine WO.pn 1 rfl ?_
     refine WO.wa ?_
     refine WA.last [] (by kernel_rfl) (by kernel_rfl) rfl ?_
     refine WO.fin ?_
     exact DN.meet _ ⟨K60, a28, u28, rfl, (S22.tr (S27.tr (S32.tr (S50.tr (S56.tr S61))))).wk rfl, f62⟩ fun a ha => (ha.more (ha.more (ha.more (ha.more (ha.more (ha.more ha.nil rfl) rfl) rfl) rfl) rfl) rfl)
   ·
    refine WO.bl (κ := K26) (E := (Ep.int .i64)) 6 [] (parts := [(0, .tmp 26)]) (cells := [.int .i64 x25]) (xs := ([x25] : List Int)) rfl rfl rfl rfl rfl rfl Try.underlying28 Tryinfo2 rfl rfl rfl rfl rfl rfl rfl rfl rfl rfl ⟨[.int .i64 x25], [], Zl K26 w25 [], Zl K26 w25 [], rfl, Zl.sp (l1 := []) (l2 := []) rfl, Zl.sr (l1 := []) (l2 := []), rfl, rfl⟩ fun a27 u27 w63 K64 S65 f66 => ⟨((S27.tr S65).cl rfl), ?_⟩
    refine WO.wa ?_
    refine WA.seg (fuel := 0) [(3, 1), (6, 1), (12, 1), (13, 2)] (by kernel_rfl) (by kernel_rfl) rfl ?_
    have f67 := g1_0.stp (S3.tr (S7.tr (S11.tr (S14.tr (S22.tr (S27.tr S65)))))) rfl rfl
    have f68 := f28.stp S65 rfl rfl
    refine WO.app (κ := K64) (E := (Ep.int .i64)) 5 [] rfl rfl rfl rfl rfl rfl rfl rfl rfl Try.underlying28 Tryinfo2 rfl rfl rfl rfl f68 (Sl.srcP (pu_int _) f67) sy_false hx19 rfl fun a19 u19 w69 K70 S71 f72 => ⟨((S27.tr (S65.tr S71)).cl rfl), ?_⟩
    have f73 := f24.stp (S27.tr (S65.tr S71)) rfl rfl
    refine WO.app (κ := K70) (E := (Ep.int .i64)) 5 [] rfl rfl rfl rfl rfl rfl rfl rfl rfl Try.underlying28 Tryinfo2 rfl rfl rfl rfl f72 (Sl.srcP (pu_int _) f73) sy_false hx22 rfl fun a22 u22 w74 K75 S76 f77 => ⟨((S27.tr (S65.tr (S71.tr S76))).cl rfl), ?_⟩
    have f78 := f66.stp (S71.tr S76) rfl rfl
    refine WO.app (κ := K75) (E := (Ep.int .i64)) 5 [] rfl rfl rfl rfl rfl rfl rfl rfl rfl Try.underlying28 Tryinfo2 rfl rfl rfl rfl f77 (Sl.srcP (pu_int _) f78.rdc) sy_false hx28 rfl fun a28 u28 w79 K80 S81 f82 => ⟨((S27.tr (S65.tr (S71.tr (S76.tr S81)))).cl rfl), ?_⟩
    refine WO.pn 1 rfl ?_
    refine WO.wa ?_
    refine WA.last [] (by kernel_rfl) (by kernel_rfl) rfl ?_
    refine WO.fin ?_
    exact DN.meet _ ⟨K80, a28, u28, rfl, (S22.tr (S27.tr (S65.tr (S71.tr (S76.tr S81))))).wk rfl, f82⟩ fun a ha => (ha.more (ha.more (ha.more (ha.more (ha.more (ha.more ha.nil rfl) rfl) rfl) rfl) rfl) rfl)
  ·
   refine WO.bl (κ := K10) (E := (Ep.int .i64)) 5 [] (parts := [(0, .tmp 26)]) (cells := [.int .i64 x25]) (xs := ([x25] : List Int)) rfl rfl rfl rfl rfl rfl Try.underlying28 Tryinfo2 rfl rfl rfl rfl rfl rfl rfl rfl rfl rfl ⟨[.int .i64 x25], [], Zl K10 w21 [], Zl K10 w21 [], rfl, Zl.sp (l1 := []) (l2 := []) rfl, Zl.sr (l1 := []) (l2 := []), rfl, rfl⟩ fun a27 u27 w83 K84 S85 f86 => ⟨(S85.cl rfl), ?_⟩
   refine WO.wa ?_
   refine WA.seg (fuel := 0) [(0, 1), (3, 1), (6, 1), (12, 1), (13, 2)] (by kernel_rfl) (by kernel_rfl) rfl ?_
   refine WO.bl0 (κ := K84) (E := (Ep.int .i64)) 6 rfl rfl rfl rfl rfl Try.underlying28 Tryinfo2 rfl fun a16 u16 w87 K88 S89 f90 => ⟨((S85.tr S89).cl rfl), ?_⟩
   have f91 := g1_0.stp (S3.tr (S7.tr (S11.tr (S14.tr (S22.tr (S85.tr S89)))))) rfl rfl
   refine WO.app (κ := K88) (E := (Ep.int .i64)) 6 [] rfl rfl rfl rfl rfl rfl rfl rfl rfl Try.underlying28 Tryinfo2 rfl rfl rfl rfl f90 (Sl.srcP (pu_int _) f91) sy_false hx19 rfl fun a19 u19 w92 K93 S94 f95 => ⟨((S85.tr (S89.tr S94)).cl rfl), ?_⟩
   have f96 := f24.stp (S85.tr (S89.tr S94)) rfl rfl
   refine WO.app (κ := K93) (E := (Ep.int .i64)) 6 [] rfl rfl rfl rfl rfl rfl rfl rfl rfl Try.underlying28 Tryinfo2 rfl rfl rfl rfl f95 (Sl.srcP (pu_int _) f96) sy_false hx22 rfl fun a22 u22 w97 K98 S99 f100 => ⟨((S85.tr (S89.tr (S94.tr S99))).cl rfl), ?_⟩
   have f101 := f86.stp (S89.tr (S94.tr S99)) rfl rfl
   refine WO.app (κ := K98) (E := (Ep.int .i64)) 6 [] rfl rfl rfl rfl rfl rfl rfl rfl rfl Try.underlying28 Tryinfo2 rfl rfl rfl rfl f100 (Sl.srcP (pu_int _) f101.rdc) sy_false hx28 rfl fun a28 u28 w102 K103 S104 f105 => ⟨((S85.tr (S89.tr (S94.tr (S99.tr S104)))).cl rfl), ?_⟩
   refine WO.pn 1 rfl ?_
   refine WO.wa ?_
   refine WA.last [] (by kernel_rfl) (by kernel_rfl) rfl ?_
   refine WO.fin ?_
   exact DN.meet _ ⟨(fun b => ren [(6, 5)] (K103 b)), a28, u28, rfl, (Stp.ren ((S22.tr (S85.tr (S89.tr (S94.tr (S99.tr S104))))).wk rfl) [(6, 5)] rfl), (f105.map (ren [(6, 5)]) rfl rfl)⟩ fun a ha => (ha.more (ha.more (ha.more (ha.more (ha.more (ha.more ha.nil rfl) rfl) rfl) rfl) rfl) rfl)
 rintro _ w16 ⟨K17, lar19_0, lur19_0, rfl, S18, f20⟩
 refine DN.seq ?_
 refine WC.seq ?_
 refine WC.seq ?_
 refine WC.rs [(0, 2), (1, 1)] rfl ?_
 refine WO.k2 rfl rfl rfl rfl (rn_fieldAddr Try.runUnderlying99 rfl Try.sizeOf2 rfl rfl) ?_
 have f106 := f4.stp (S7.tr (S11.tr (S14.tr S18))) rfl rfl
 refine WO.k1 trivial rfl rfl rfl rfl (rn_ld Try.isAgg2 rfl rfl (hvE (f106.ld 0 rfl rfl))) ?_
 refine WO.fin ?_
 refine DN.seq ?_
 refine WC.block ?_
 refine WC.seq ?_
 refine WC.rs [(0, 2), (1, 2)] rfl ?_
 refine WO.pn 2 rfl ?_
 refine WO.fin ?_
 refine DN.seq ?_
 revert h
 cases ht107 : (p0.Kind == 1) with
 | true =>
  intro h; replace h := cT h
  refine WC.ct rfl ?_
  refine WC.seq ?_
  refine WC.rs [(0, 2), (1, 2), (2, 1), (3, 2), (4, 2)] rfl ?_
  refine WO.pn 2 rfl ?_
  obtain ⟨x35, hx35, h⟩ := Option.bind_eq_some_iff.mp h
  have f108 := g0_1.stp (S3.tr (S7.tr (S11.tr (S14.tr S18)))) rfl rfl
  have f109 := g0_2.stp (S3.tr (S7.tr (S11.tr (S14.tr S18)))) rfl rfl
  have f110 := f15.stp S18 rfl rfl
  refine WO.call rfl rfl rfl rfl rfl rfl Try.call130 (slices_ContainsFunc_I_int64__i_holdsOn_3__i_holdsOn_1_ok (κ := fun b => mp [] 0 (K17 b)) (c1_0_0 := p0) (Sl.map f20.rdc (mp [] 0) rfl rfl) (Sl.map f108 (mp [] 0) rfl rfl) (Sl.map f109 (mp [] 0) rfl rfl) (f110.map (mp [] 0) rfl rfl) (f106.map (mp [] 0) rfl rfl) hx35) ?_
  rintro _ w111 ⟨k112, rfl, e113⟩
  obtain ⟨K114, S115, m116⟩ := Ent.mixed (l := []) (κ := K17) e113 6 rfl
  refine ⟨trivial, ?_⟩
  refine WO.pn 2 rfl ?_
  refine WO.fin ?_
  refine DN.seq ?_
  refine WC.ret ?_
  refine DN.retBlock ?_
  refine DN.retThen ?_
  have f118 := hE.stp (S3.tr (S7.tr (S11.tr (S14.tr (S18.tr S115))))) rfl rfl
  refine DN.res (l := [.tmp 4]) Try.results128 (res_tmp rfl rfl) rfl ?_
  obtain rfl := Option.some.inj h
  exact ⟨K114, rfl, f118⟩
 | false =>
  intro h; replace h := cF h
  refine WC.cf rfl ?_
  refine WC.seq ?_
  refine WC.rs [(0, 2), (1, 2)] rfl ?_
  refine WO.pn 2 rfl ?_
  refine WO.fin ?_
  refine DN.seq ?_
  revert h
  cases ht119 : (p0.Kind == 2) with
  | true =>
   intro h; replace h := cT h
   refine WC.ct rfl ?_
   refine WC.seq ?_
   refine WC.seq ?_
   refine WC.rs [(0, 2)] rfl ?_
   refine WO.pn 1 rfl ?_
   refine WO.fin ?_
   refine DN.seq ?_
   have hN120 : (x28.length : Int) ≤ 9223372036854775807 := f20.len_le
   obtain ⟨q2, hq122, hK121⟩ := Option.bind_eq_some_iff.mp h
   clear h
   refine WC.meet (fun L w' => ∃ (κ' : Col), L = [] ∧ Stp [] K17 w16 κ' w' ∧ q2 = Sum.inr ()) ?_ ?_
   ·
    refine WC.block ?_
    refine WC.loop (fun k L w' => ∃ (κ' : Col) (v9 : Int), L = [(5, .pointer (some ⟨b5, 0, none⟩)), (6, .func (.func 148) #[] #[.pointer (some ⟨b2, 0, none⟩)]), (8, .slice lar19_0 x28.length lur19_0), (9, .int .i64 v9)] ∧ Stp [] K17 w16 κ' w' ∧ 0 ≤ v9 ∧ Int.toNat ((x28.length : Int) - v9) = k ∧ cntM (i_holdsOn_b1 p0 x28) k v9 () = some q2) ⟨_, _, ⟨K17, 1, rfl, (Stp.refl _ _).wk rfl, (by decide), (by simp), hq122⟩, fun a ha => (ha.more (ha.more (ha.more (ha.more ha.nil rfl) rfl) rfl) rfl)⟩ ?_
    rintro k _ w126 ⟨K127, v9, rfl, S128, hj120, hJ120, h⟩
    rcases k with _ | k
    ·
     have hk129 := h; obtain ⟨o120, h⟩ := ex_eq (Sum.inr (Sum.inl ()) : Bool ⊕ ((Unit) ⊕ (Unit)))
     have hc120 : decide (v9 < (x28.length : Int)) = false := decide_eq_false (by omega)
     refine WC.seq ?_
     refine WC.seq ?_
     refine WC.rs [(0, 2), (1, 2), (2, 2), (3, 2)] rfl ?_
     refine WO.pn 2 rfl ?_
     refine WO.k2 rfl rfl rfl rfl (rn_len Try.runUnderlying28 rfl rfl) ?_
     refine WO.pn 1 rfl ?_
     refine WO.fin ?_
     refine DN.seq ?_
     refine WC.cf' rfl hc120 ?_
     refine WC.exit ?_
     refine DN.exitThen ?_
     refine DN.exitThen ?_
     obtain rfl := Option.some.inj h
     have h := hk129
     refine DN.hit ?_
     obtain rfl := Option.some.inj h
     exact DN.meet _ ⟨K127, rfl, S128.wk rfl, rfl⟩ fun a ha => ha.nil
    ·
     obtain ⟨o120, h, hk129⟩ := Option.bind_eq_some_iff.mp h; unfold i_holdsOn_b1 at h
     have hc120 : decide (v9 < (x28.length : Int)) = true := decide_eq_true (by omega)
     refine WC.seq ?_
     refine WC.seq ?_
     refine WC.rs [(0, 2), (1, 2), (2, 2), (3, 2)] rfl ?_
     refine WO.pn 2 rfl ?_
     refine WO.k2 rfl rfl rfl rfl (rn_len Try.runUnderlying28 rfl rfl) ?_
     refine WO.pn 1 rfl ?_
     refine WO.fin ?_
     refine DN.seq ?_
     refine WC.ct' rfl hc120 ?_
     refine WC.skip ?_
     refine DN.seq ?_
     refine WC.seq ?_
     refine WC.block ?_
     refine WC.seq ?_
     refine WC.rx (κ := K127) [0, 4, 5] none [(1, 2), (2, 2), (3, 2), (4, 2), (0, 0), (5, 0), (6, 1), (7, 2), (8, 2), (9, 2), (10, 2), (11, 2), (12, 0), (13, 1), (14, 2), (15, 2)] [] (by kernel_rfl) (by kernel_rfl) fun w131 S130 => ?_
     refine WO.pn 3 rfl ?_
     obtain ⟨x49, hx49, h⟩ := Option.bind_eq_some_iff.mp h
     refine WO.k2 rfl rfl rfl rfl (rn_index f20.rdc hx49 Try.runUnderlying28 Try.sizeOf2 rfl rfl rfl rfl) ?_
     have f132 := f15.stp (S18.tr (S128.tr S130)) rfl rfl
     refine WO.k0 rfl rfl rfl rfl (rn_ld Try.isAgg156 rfl rfl (hvC (f132.ld 0 rfl rfl) rfl)) ?_
     have f133 := f20.stp (S128.tr S130) rfl rfl
     refine WO.k0 rfl rfl rfl rfl (rn_ld Try.isAgg2 rfl rfl (hvC (f133.rdc.gInt hx49) rfl)) ?_
     obtain ⟨x51, hx51, h⟩ := Option.bind_eq_some_iff.mp h
     have f134 := g0_1.stp (S3.tr (S7.tr (S11.tr (S14.tr (S18.tr (S128.tr S130)))))) rfl rfl
     have f135 := g0_2.stp (S3.tr (S7.tr (S11.tr (S14.tr (S18.tr (S128.tr S130)))))) rfl rfl
     have f136 := f106.stp (S128.tr S130) rfl rfl
     refine WO.callV rfl rfl rfl rfl rfl rfl rfl rfl Try.call147 (i_holdsOn_1_ok (κ := fun b => mp [] 0 (K127 b)) (c0 := p0) (Sl.map f134 (mp [] 0) rfl rfl) (Sl.map f135 (mp [] 0) rfl rfl) (f136.map (mp [] 0) rfl rfl) hx51) ?_
     rintro _ w137 ⟨k138, rfl, e139⟩
     obtain ⟨K140, S141, m142⟩ := Ent.mixed (l := []) (κ := K127) e139 6 rfl
     refine ⟨(S141.cl rfl), ?_⟩
     refine WO.pn 1 rfl ?_
     obtain ⟨p60, h, hK144⟩ := Option.bind_eq_some_iff.mp h
     refine WO.meet [(8, 2), (9, 2), (10, 2), (11, 2), (12, 0), (13, 1), (14, 2), (15, 2)] [] (fun L w' => L = [(5, .pointer (some ⟨b5, 0, none⟩)), (6, .func (.func 148) #[] #[.pointer (some ⟨b2, 0, none⟩)]), (8, .slice lar19_0 x28.length lur19_0), (9, .int .i64 v9), (60, .bool p60)] ∧ ∃ κ', Stp [] K140 w137 κ' w') (S141.cl rfl) ?_ ?_
     ·
      revert h
      cases ht145 : x51 with
      | true =>
       intro h; replace h := cT h
       refine WO.pn 3 rfl ?_
       obtain ⟨x56, hx56, h⟩ := Option.bind_eq_some_iff.mp h
       refine WO.k2 rfl rfl rfl rfl (rn_index f133.rdc hx56 Try.runUnderlying28 Try.sizeOf2 rfl rfl rfl rfl) ?_
       refine WO.k0 rfl rfl rfl rfl (rn_ld Try.isAgg2 rfl rfl (hvC (f133.rdc.gInt hx56) rfl)) ?_
       obtain ⟨x58, hx58, h⟩ := Option.bind_eq_some_iff.mp h
       have f146 := f134.stp S141 rfl rfl
       have f147 := f135.stp S141 rfl rfl
       have f148 := f136.stp S141 rfl rfl
       refine WO.callV rfl rfl rfl rfl rfl rfl rfl rfl Try.call148 (i_holdsOn_2_ok (κ := fun b => mp [] 0 (K140 b)) (c0 := p0) (Sl.map f146 (mp [] 0) rfl rfl) (Sl.map f147 (mp [] 0) rfl rfl) (f148.map (mp [] 0) rfl rfl) hx58) ?_
       rintro _ w149 ⟨k150, rfl, e151⟩
       obtain ⟨K152, S153, m154⟩ := Ent.mixed (l := []) (κ := K140) e151 8 rfl
       refine ⟨((S141.tr S153).cl rfl), ?_⟩
       refine WO.pn 2 rfl ?_
       obtain rfl := Option.some.inj h
       exact WO.met _ ((S141.tr S153).cl rfl) ⟨rfl, _, S153.wk rfl⟩ fun a ha => (ha.more (ha.more (ha.more (ha.more (ha.more ha.nil rfl) rfl) rfl) rfl) rfl)
      | false =>
       intro h; replace h := cF h
       refine WO.pn 4 rfl ?_
       refine WO.qs rfl rfl rfl rfl ?_
       refine WO.ls rfl rfl rfl rfl ?_
       refine WO.pn 2 rfl ?_
       obtain rfl := Option.some.inj h
       exact WO.met _ (S141.cl rfl) ⟨rfl, _, (Stp.refl _ _).wk rfl⟩ fun a ha => (ha.more (ha.more (ha.more (ha.more (ha.more ha.nil rfl) rfl) rfl) rfl) rfl)
     rintro _ w156 _ ⟨rfl, K157, S158⟩
     have h := hK144
     refine WO.nx ?_
     refine WO.fin ?_
     refine DN.seq ?_
     revert h
     cases ht159 : p60 with
     | true =>
      intro h; replace h := cT h
      refine WC.ct rfl ?_
      refine WC.seq ?_
      refine WC.rs [(0, 2)] rfl ?_
      refine WO.pn 1 rfl ?_
      refine WO.fin ?_
      refine DN.seq ?_
      refine WC.ret ?_
      refine DN.retBlock ?_
      refine DN.retThen ?_
      refine DN.retThen ?_
      obtain rfl := Option.some.inj h
      obtain rfl := Option.some.inj hk129
      have h := hK121
      dsimp only [aft] at h
      refine DN.retBlock ?_
      refine DN.retMeet ?_
      refine DN.retThen ?_
      refine DN.retBlock ?_
      refine DN.retThen ?_
      have f160 := hE.stp (S3.tr (S7.tr (S11.tr (S14.tr (S18.tr (S128.tr (S130.tr (S141.tr S158)))))))) rfl rfl
      refine DN.res (l := [.tmp 4]) Try.results128 (res_tmp rfl rfl) rfl ?_
      obtain rfl := Option.some.inj h
      exact ⟨K157, rfl, f160⟩
     | false =>
      intro h; replace h := cF h
      refine WC.cf rfl ?_
      refine WC.skip ?_
      refine DN.block ?_
      refine DN.seq ?_
      refine WC.rs [(0, 2), (1, 2), (2, 2)] rfl ?_
      refine WO.pn 3 rfl ?_
      refine WO.fin ?_
      have hw120 : IntKind.wrap .i64 (v9 + 1) = v9 + 1 := wr1 hj120 (of_decide_eq_true hc120) hN120
      rw [hw120]
      have hc120 := of_decide_eq_true hc120
      obtain rfl := Option.some.inj h
      refine DN.round fun a ha => ?_
      exact ⟨k, _, Nat.lt_succ_self _, ⟨K157, v9 + 1, rfl, (S128.tr (S130.tr (S141.tr S158))).wk rfl, by omega, by omega, hk129⟩, (ha.more (ha.more (ha.more (ha.more ha.nil rfl) rfl) rfl) rfl)⟩
   rintro _ w123 ⟨K124, rfl, S125, rfl⟩
   have h := hK121
   dsimp only [aft] at h
   refine DN.seq ?_
   refine WC.seq ?_
   refine WC.rs [(0, 2)] rfl ?_
   refine WO.pn 1 rfl ?_
   refine WO.fin ?_
   refine DN.seq ?_
   refine WC.ret ?_
   refine DN.retBlock ?_
   refine DN.retThen ?_
   have f161 := hE.stp (S3.tr (S7.tr (S11.tr (S14.tr (S18.tr S125))))) rfl rfl
   refine DN.res (l := [.tmp 4]) Try.results128 (res_tmp rfl rfl) rfl ?_
   obtain rfl := Option.some.inj h
   exact ⟨K124, rfl, f161⟩
  | false =>
   intro h; replace h := cF h
   refine WC.cf rfl ?_
   refine WC.seq ?_
   refine WC.rs [(0, 2), (1, 2)] rfl ?_
   refine WO.pn 2 rfl ?_
   refine WO.fin ?_
   refine DN.seq ?_
   revert h
   cases ht162 : (p0.Kind == 3) with
   | true =>
    intro h; replace h := cT h
    refine WC.ct rfl ?_
    refine WC.seq ?_
    refine WC.rs [(0, 2)] rfl ?_
    refine WO.pn 1 rfl ?_
    refine WO.fin ?_
    refine DN.seq ?_
    refine WC.seq ?_
    refine WC.seq ?_
    refine WC.rx (κ := K17) [3] none [(1, 2), (4, 2), (8, 2), (2, 0), (5, 0), (0, 1), (3, 1), (6, 1), (7, 2)] [] (by kernel_rfl) (by kernel_rfl) fun w164 S163 => ?_
    refine WO.k2 rfl rfl rfl rfl (rn_fieldAddr Try.runUnderlying41 rfl Try.sizeOf28 rfl rfl) ?_
    refine WO.k2 rfl rfl rfl rfl (rn_fieldAddr Try.runUnderlying41 rfl Try.sizeOf28 rfl rfl) ?_
    refine WO.pn 1 rfl ?_
    have f165 := f8.stp (S11.tr (S14.tr (S18.tr S163))) rfl rfl
    refine WO.k0 rfl rfl rfl rfl (rn_ld Try.isAgg28 rfl rfl (hvC (f165.ld 0 rfl rfl) rfl)) ?_
    refine WO.k0 rfl rfl rfl rfl (rn_ld Try.isAgg28 rfl rfl (hvC (f165.ld 1 rfl rfl) rfl)) ?_
    refine WO.bl0 (κ := K17) (E := (Ep.int .i64)) 6 rfl rfl rfl rfl rfl Try.underlying28 Tryinfo2 rfl fun a63 u63 w166 K167 S168 f169 => ⟨(S168.cl rfl), ?_⟩
    obtain ⟨x66, hx66, h⟩ := Option.bind_eq_some_iff.mp h
    have f170 := g1_0.stp (S3.tr (S7.tr (S11.tr (S14.tr (S18.tr (S163.tr S168)))))) rfl rfl
    refine WO.app (κ := K167) (E := (Ep.int .i64)) 6 [] rfl rfl rfl rfl rfl rfl rfl rfl rfl Try.underlying28 Tryinfo2 rfl rfl rfl rfl f169 (Sl.srcP (pu_int _) f170) sy_false hx66 rfl fun a66 u66 w171 K172 S173 f174 => ⟨((S168.tr S173).cl rfl), ?_⟩
    obtain ⟨x69, hx69, h⟩ := Option.bind_eq_some_iff.mp h
    have f175 := g1_1.stp (S3.tr (S7.tr (S11.tr (S14.tr (S18.tr (S163.tr (S168.tr S173))))))) rfl rfl
    refine WO.app (κ := K172) (E := (Ep.int .i64)) 6 [] rfl rfl rfl rfl rfl rfl rfl rfl rfl Try.underlying28 Tryinfo2 rfl rfl rfl rfl f174 (Sl.srcP (pu_int _) f175) sy_false hx69 rfl fun a69 u69 w176 K177 S178 f179 => ⟨((S168.tr (S173.tr S178)).cl rfl), ?_⟩
    refine WO.k2 rfl rfl rfl rfl (rn_len Try.runUnderlying28 rfl rfl) ?_
    refine WO.nx ?_
    refine WO.fin ?_
    refine DN.seq ?_
    have hN180 : (x69.length : Int) ≤ 9223372036854775807 := f179.len_le
    obtain ⟨q5, hq182, hK181⟩ := Option.bind_eq_some_iff.mp h
    clear h
    refine WC.meet (fun L w' => ∃ (κ' : Col) (s6 : Bool), L = [(3, .pointer (some ⟨b3, 0, none⟩)), (6, .func (.func 148) #[] #[.pointer (some ⟨b2, 0, none⟩)]), (10, .bool s6)] ∧ Stp [] K177 w176 κ' w' ∧ q5 = Sum.inr s6) ?_ ?_
    ·
     refine WC.block ?_
     refine WC.loop (fun k L w' => ∃ (κ' : Col) (v71 : Int) (s4 : Bool), L = [(3, .pointer (some ⟨b3, 0, none⟩)), (5, .pointer (some ⟨b5, 0, none⟩)), (6, .func (.func 148) #[] #[.pointer (some ⟨b2, 0, none⟩)]), (10, .bool s4), (69, .slice a69 x69.length u69), (70, .int .i64 (x69.length : Int)), (71, .int .i64 v71)] ∧ Stp [] K177 w176 κ' w' ∧ 0 ≤ v71 ∧ Int.toNat ((x69.length : Int) - v71) = k ∧ cntM (i_holdsOn_b3 p0 x69) k v71 s4 = some q5) ⟨_, _, ⟨K177, 0, (false : Bool), rfl, (Stp.refl _ _).wk rfl, (by decide), (by simp), hq182⟩, fun a ha => (ha.more (ha.more (ha.more (ha.more (ha.more (ha.more (ha.more ha.nil rfl) rfl) rfl) rfl) rfl) rfl) rfl)⟩ ?_
     rintro k _ w186 ⟨K187, v71, s4, rfl, S188, hj180, hJ180, h⟩
     rcases k with _ | k
     ·
      have hk189 := h; obtain ⟨o180, h⟩ := ex_eq (Sum.inr (Sum.inl s4) : Bool ⊕ ((Bool) ⊕ (Bool)))
      have hc180 : decide (v71 < (x69.length : Int)) = false := decide_eq_false (by omega)
      refine WC.seq ?_
      refine WC.rs [(0, 2)] rfl ?_
      refine WO.pn 1 rfl ?_
      refine WO.fin ?_
      refine DN.seq ?_
      refine WC.seq ?_
      refine WC.cf' rfl hc180 ?_
      refine WC.exit ?_
      refine DN.exitThen ?_
      refine DN.exitThen ?_
      obtain rfl := Option.some.inj h
      have h := hk189
      refine DN.hit ?_
      obtain rfl := Option.some.inj h
      exact DN.meet _ ⟨K187, (s4 : Bool), rfl, S188.wk rfl, rfl⟩ fun a ha => (ha.more (ha.more (ha.more ha.nil rfl) rfl) rfl)
     ·
      obtain ⟨o180, h, hk189⟩ := Option.bind_eq_some_iff.mp h; unfold i_holdsOn_b3 at h
      have hc180 : decide (v71 < (x69.length : Int)) = true := decide_eq_true (by omega)
      refine WC.seq ?_
      refine WC.rs [(0, 2)] rfl ?_
      refine WO.pn 1 rfl ?_
      refine WO.fin ?_
      refine DN.seq ?_
      refine WC.seq ?_
      refine WC.ct' rfl hc180 ?_
      refine WC.skip ?_
      refine DN.seq ?_
      refine WC.seq ?_
      refine WC.block ?_
      refine WC.seq ?_
      refine WC.rs [(0, 2), (1, 1), (2, 2)] rfl ?_
      obtain ⟨x73, hx73, h⟩ := Option.bind_eq_some_iff.mp h
      refine WO.k2 rfl rfl rfl rfl (rn_index f179.rdc hx73 Try.runUnderlying28 Try.sizeOf2 rfl rfl rfl rfl) ?_
      have f190 := f179.stp S188 rfl rfl
      refine WO.k1 trivial rfl rfl rfl rfl (rn_ld Try.isAgg2 rfl rfl (hvE (f190.rdc.gInt hx73))) ?_
      refine WO.pn 1 rfl ?_
      refine WO.fin ?_
      refine DN.seq ?_
      refine WC.rs [(0, 2), (1, 2), (2, 1), (3, 2), (4, 1), (5, 2), (6, 2), (7, 2), (8, 2), (9, 1), (10, 2), (11, 2), (12, 2)] rfl ?_
      refine WO.pn 2 rfl ?_
      obtain ⟨p80, h, hK191⟩ := Option.bind_eq_some_iff.mp h
      refine WO.meet [(2, 1), (3, 2), (4, 1), (5, 2)] [(6, 2), (7, 2), (8, 2), (9, 1), (10, 2), (11, 2), (12, 2)] (fun L w' => L = [(3, .pointer (some ⟨b3, 0, none⟩)), (5, .pointer (some ⟨b5, 0, none⟩)), (6, .func (.func 148) #[] #[.pointer (some ⟨b2, 0, none⟩)]), (10, .bool s4), (12, .int .i64 x73), (69, .slice a69 x69.length u69), (70, .int .i64 (x69.length : Int)), (71, .int .i64 v71), (80, .bool p80)] ∧ ∃ κ', Stp [] K187 w186 κ' w') trivial ?_ ?_
      ·
       revert h
       cases ht192 : s4 with
       | true =>
        intro h; replace h := cT h
        refine WO.ls rfl rfl rfl rfl ?_
        refine WO.pn 1 rfl ?_
        refine WO.ls rfl rfl rfl rfl ?_
        refine WO.pn 1 rfl ?_
        obtain rfl := Option.some.inj h
        exact WO.met _ trivial ⟨rfl, _, (Stp.refl _ _).wk rfl⟩ fun a ha => (ha.more (ha.more (ha.more (ha.more (ha.more (ha.more (ha.more (ha.more (ha.more ha.nil rfl) rfl) rfl) rfl) rfl) rfl) rfl) rfl) rfl)
       | false =>
        intro h; replace h := cF h
        have f193 := f15.stp (S18.tr (S163.tr (S168.tr (S173.tr (S178.tr S188))))) rfl rfl
        refine WO.k1 trivial rfl rfl rfl rfl (rn_ld Try.isAgg156 rfl rfl (hvE (f193.ld 0 rfl rfl))) ?_
        refine WO.pn 1 rfl ?_
        obtain ⟨x79, hx79, h⟩ := Option.bind_eq_some_iff.mp h
        have f194 := g0_1.stp (S3.tr (S7.tr (S11.tr (S14.tr (S18.tr (S163.tr (S168.tr (S173.tr (S178.tr S188))))))))) rfl rfl
        have f195 := g0_2.stp (S3.tr (S7.tr (S11.tr (S14.tr (S18.tr (S163.tr (S168.tr (S173.tr (S178.tr S188))))))))) rfl rfl
        have f196 := f106.stp (S163.tr (S168.tr (S173.tr (S178.tr S188)))) rfl rfl
        refine WO.callV rfl rfl rfl rfl rfl rfl rfl rfl Try.call147 (i_holdsOn_1_ok (κ := fun b => mp [] 0 (K187 b)) (c0 := p0) (Sl.map f194 (mp [] 0) rfl rfl) (Sl.map f195 (mp [] 0) rfl rfl) (f196.map (mp [] 0) rfl rfl) hx79) ?_
        rintro _ w197 ⟨k198, rfl, e199⟩
        obtain ⟨K200, S201, m202⟩ := Ent.mixed (l := []) (κ := K187) e199 7 rfl
        refine ⟨trivial, ?_⟩
        refine WO.pn 1 rfl ?_
        obtain rfl := Option.some.inj h
        exact WO.met _ trivial ⟨rfl, _, S201.wk rfl⟩ fun a ha => (ha.more (ha.more (ha.more (ha.more (ha.more (ha.more (ha.more (ha.more (ha.more ha.nil rfl) rfl) rfl) rfl) rfl) rfl) rfl) rfl) rfl)
      rintro _ w204 _ ⟨rfl, K205, S206⟩
      have h := hK191
      refine WO.pn 1 rfl ?_
      obtain ⟨p86, h, hK207⟩ := Option.bind_eq_some_iff.mp h
      refine WO.meet [(7, 2), (8, 2), (9, 1), (10, 2), (11, 2)] [(12, 2)] (fun L w' => L = [(3, .pointer (some ⟨b3, 0, none⟩)), (5, .pointer (some ⟨b5, 0, none⟩)), (6, .func (.func 148) #[] #[.pointer (some ⟨b2, 0, none⟩)]), (10, .bool s4), (69, .slice a69 x69.length u69), (70, .int .i64 (x69.length : Int)), (71, .int .i64 v71), (86, .bool p86)] ∧ ∃ κ', Stp [] K205 w204 κ' w') trivial ?_ ?_
      ·
       revert h
       cases ht208 : p80 with
       | true =>
        intro h; replace h := cT h
        refine WO.pn 2 rfl ?_
        obtain ⟨x84, hx84, h⟩ := Option.bind_eq_some_iff.mp h
        have f209 := g0_1.stp (S3.tr (S7.tr (S11.tr (S14.tr (S18.tr (S163.tr (S168.tr (S173.tr (S178.tr (S188.tr S206)))))))))) rfl rfl
        have f210 := g0_2.stp (S3.tr (S7.tr (S11.tr (S14.tr (S18.tr (S163.tr (S168.tr (S173.tr (S178.tr (S188.tr S206)))))))))) rfl rfl
        have f211 := f106.stp (S163.tr (S168.tr (S173.tr (S178.tr (S188.tr S206))))) rfl rfl
        refine WO.callV rfl rfl rfl rfl rfl rfl rfl rfl Try.call148 (i_holdsOn_2_ok (κ := fun b => mp [] 0 (K205 b)) (c0 := p0) (Sl.map f209 (mp [] 0) rfl rfl) (Sl.map f210 (mp [] 0) rfl rfl) (f211.map (mp [] 0) rfl rfl) hx84) ?_
        rintro _ w212 ⟨k213, rfl, e214⟩
        obtain ⟨K215, S216, m217⟩ := Ent.mixed (l := []) (κ := K205) e214 7 rfl
        refine ⟨trivial, ?_⟩
        refine WO.pn 2 rfl ?_
        obtain rfl := Option.some.inj h
        exact WO.met _ trivial ⟨rfl, _, S216.wk rfl⟩ fun a ha => (ha.more (ha.more (ha.more (ha.more (ha.more (ha.more (ha.more (ha.more ha.nil rfl) rfl) rfl) rfl) rfl) rfl) rfl) rfl)
       | false =>
        intro h; replace h := cF h
        refine WO.pn 2 rfl ?_
        refine WO.ls rfl rfl rfl rfl ?_
        refine WO.pn 2 rfl ?_
        obtain rfl := Option.some.inj h
        exact WO.met _ trivial ⟨rfl, _, (Stp.refl _ _).wk rfl⟩ fun a ha => (ha.more (ha.more (ha.more (ha.more (ha.more (ha.more (ha.more (ha.more ha.nil rfl) rfl) rfl) rfl) rfl) rfl) rfl) rfl)
      rintro _ w219 _ ⟨rfl, K220, S221⟩
      have h := hK207
      refine WO.pn 1 rfl ?_
      refine WO.fin ?_
      refine DN.block ?_
      refine DN.seq ?_
      refine WC.rs [(0, 2), (1, 2)] rfl ?_
      refine WO.pn 2 rfl ?_
      refine WO.fin ?_
      have hw180 : IntKind.wrap .i64 (v71 + 1) = v71 + 1 := wr1 hj180 (of_decide_eq_true hc180) hN180
      rw [hw180]
      have hc180 := of_decide_eq_true hc180
      obtain rfl := Option.some.inj h
      refine DN.round fun a ha => ?_
      exact ⟨k, _, Nat.lt_succ_self _, ⟨K220, v71 + 1, (p86 : Bool), rfl, (S188.tr (S206.tr S221)).wk rfl, by omega, by omega, hk189⟩, (ha.more (ha.more (ha.more (ha.more (ha.more (ha.more (ha.more ha.nil rfl) rfl) rfl) rfl) rfl) rfl) rfl)⟩
    rintro _ w183 ⟨K184, s6, rfl, S185, rfl⟩
    have h := hK181
    dsimp only [aft] at h
    refine DN.seq ?_
    refine WC.seq ?_
    refine WC.rs [(0, 2), (1, 2), (2, 2), (3, 2), (4, 1), (5, 2), (6, 1), (7, 2), (8, 2)] rfl ?_
    refine WO.pn 3 rfl ?_
    obtain ⟨p95, h, hK222⟩ := Option.bind_eq_some_iff.mp h
    refine WO.meet [(3, 2), (4, 1), (5, 2), (6, 1), (7, 2)] [(8, 2)] (fun L w' => L = [(95, .bool p95)] ∧ ∃ κ', Stp [] K184 w183 κ' w') trivial ?_ ?_
    ·
     revert h
     cases ht223 : (!s6) with
     | true =>
      intro h; replace h := cT h
      refine WO.pn 1 rfl ?_
      refine WO.ls rfl rfl rfl rfl ?_
      refine WO.pn 1 rfl ?_
      refine WO.ls rfl rfl rfl rfl ?_
      refine WO.pn 1 rfl ?_
      obtain rfl := Option.some.inj h
      exact WO.met _ trivial ⟨rfl, _, (Stp.refl _ _).wk rfl⟩ fun a ha => (ha.more ha.nil rfl)
     | false =>
      intro h; replace h := cF h
      refine WO.k2 rfl rfl rfl rfl (rn_fieldAddr Try.runUnderlying41 rfl Try.sizeOf28 rfl rfl) ?_
      have f224 := f165.stp (S168.tr (S173.tr (S178.tr S185))) rfl rfl
      refine WO.k1 trivial rfl rfl rfl rfl (rn_ld Try.isAgg28 rfl rfl (hvE (f224.ld 1 rfl rfl))) ?_
      refine WO.pn 1 rfl ?_
      obtain ⟨x94, hx94, h⟩ := Option.bind_eq_some_iff.mp h
      have f225 := f175.stp (S178.tr S185) rfl rfl
      have f226 := g0_1.stp (S3.tr (S7.tr (S11.tr (S14.tr (S18.tr (S163.tr (S168.tr (S173.tr (S178.tr S185))))))))) rfl rfl
      have f227 := g0_2.stp (S3.tr (S7.tr (S11.tr (S14.tr (S18.tr (S163.tr (S168.tr (S173.tr (S178.tr S185))))))))) rfl rfl
      have f228 := f106.stp (S163.tr (S168.tr (S173.tr (S178.tr S185)))) rfl rfl
      refine WO.call rfl rfl rfl rfl rfl rfl Try.call130 (slices_ContainsFunc_I_int64__i_holdsOn_2_ok (κ := fun b => mp [] 0 (K184 b)) (c1_0 := p0) (Sl.map f225 (mp [] 0) rfl rfl) (Sl.map f226 (mp [] 0) rfl rfl) (Sl.map f227 (mp [] 0) rfl rfl) (f228.map (mp [] 0) rfl rfl) hx94) ?_
      rintro _ w229 ⟨k230, rfl, e231⟩
      obtain ⟨K232, S233, m234⟩ := Ent.mixed (l := []) (κ := K184) e231 7 rfl
      refine ⟨trivial, ?_⟩
      refine WO.pn 1 rfl ?_
      obtain rfl := Option.some.inj h
      exact WO.met _ trivial ⟨rfl, _, S233.wk rfl⟩ fun a ha => (ha.more ha.nil rfl)
    rintro _ w236 _ ⟨rfl, K237, S238⟩
    have h := hK222
    refine WO.pn 1 rfl ?_
    refine WO.fin ?_
    refine DN.seq ?_
    refine WC.ret ?_
    refine DN.retBlock ?_
    refine DN.retThen ?_
    have f239 := hE.stp (S3.tr (S7.tr (S11.tr (S14.tr (S18.tr (S163.tr (S168.tr (S173.tr (S178.tr (S185.tr S238)))))))))) rfl rfl
    refine DN.res (l := [.tmp 4]) Try.results128 (res_tmp rfl rfl) rfl ?_
    obtain rfl := Option.some.inj h
    exact ⟨K237, rfl, f239⟩
   | false =>
    intro h; replace h := cF h
    refine WC.cf rfl ?_
    refine WC.seq ?_
    refine WC.rs [(0, 2), (1, 2)] rfl ?_
    refine WO.pn 2 rfl ?_
    refine WO.fin ?_
    refine DN.seq ?_
    revert h
    cases ht240 : (p0.Kind == 4) with
    | true =>
     intro h; replace h := cT h
     refine WC.ct rfl ?_
     refine WC.seq ?_
     refine WC.rs [(0, 2), (1, 1), (2, 1), (3, 1), (4, 2)] rfl ?_
     refine WO.k2 rfl rfl rfl rfl (rn_fieldAddr Try.runUnderlying41 rfl Try.sizeOf28 rfl rfl) ?_
     have f241 := f8.stp (S11.tr (S14.tr S18)) rfl rfl
     refine WO.k1 trivial rfl rfl rfl rfl (rn_ld Try.isAgg28 rfl rfl (hvE (f241.ld 1 rfl rfl))) ?_
     have f242 := f15.stp S18 rfl rfl
     refine WO.k1 trivial rfl rfl rfl rfl (rn_ld Try.isAgg156 rfl rfl (hvE (f242.ld 0 rfl rfl))) ?_
     obtain ⟨x101, hx101, h⟩ := Option.bind_eq_some_iff.mp h
     have f243 := g1_1.stp (S3.tr (S7.tr (S11.tr (S14.tr S18)))) rfl rfl
     have f244 := g0_1.stp (S3.tr (S7.tr (S11.tr (S14.tr S18)))) rfl rfl
     have f245 := g0_2.stp (S3.tr (S7.tr (S11.tr (S14.tr S18)))) rfl rfl
     refine WO.call rfl rfl rfl rfl rfl rfl Try.call130 (slices_ContainsFunc_I_int64__i_holdsOn_1_ok (κ := fun b => mp [] 0 (K17 b)) (c1_0 := p0) (Sl.map f243 (mp [] 0) rfl rfl) (Sl.map f244 (mp [] 0) rfl rfl) (Sl.map f245 (mp [] 0) rfl rfl) (f106.map (mp [] 0) rfl rfl) hx101) ?_
     rintro _ w246 ⟨k247, rfl, e248⟩
     obtain ⟨K249, S250, m251⟩ := Ent.mixed (l := []) (κ := K17) e248 6 rfl
     refine ⟨trivial, ?_⟩
     refine WO.pn 1 rfl ?_
     refine WO.fin ?_
     refine DN.seq ?_
     refine WC.ret ?_
     refine DN.retBlock ?_
     refine DN.retThen ?_
     have f253 := hE.stp (S3.tr (S7.tr (S11.tr (S14.tr (S18.tr S250))))) rfl rfl
     refine DN.res (l := [.tmp 4]) Try.results128 (res_tmp rfl rfl) rfl ?_
     obtain rfl := Option.some.inj h
     exact ⟨K249, rfl, f253⟩
    | false =>
     intro h; replace h := cF h
     refine WC.cf rfl ?_
     refine WC.seq ?_
     refine WC.rs [(0, 2), (1, 2)] rfl ?_
     refine WO.pn 2 rfl ?_
     refine WO.fin ?_
     refine DN.seq ?_
     revert h
     cases ht254 : (p0.Kind == 5) with
     | true =>
      intro h; replace h := cT h
      refine WC.ct rfl ?_
      refine WC.seq ?_
      refine WC.rs [(0, 2), (1, 1), (2, 2), (3, 1), (4, 2), (5, 2)] rfl ?_
      refine WO.k2 rfl rfl rfl rfl (rn_fieldAddr Try.runUnderlying41 rfl Try.sizeOf28 rfl rfl) ?_
      have f255 := f8.stp (S11.tr (S14.tr S18)) rfl rfl
      refine WO.k1 trivial rfl rfl rfl rfl (rn_ld Try.isAgg28 rfl rfl (hvE (f255.ld 1 rfl rfl))) ?_
      refine WO.pn 1 rfl ?_
      obtain ⟨x107, hx107, h⟩ := Option.bind_eq_some_iff.mp h
      have f256 := g1_1.stp (S3.tr (S7.tr (S11.tr (S14.tr S18)))) rfl rfl
      have f257 := g0_1.stp (S3.tr (S7.tr (S11.tr (S14.tr S18)))) rfl rfl
      have f258 := g0_2.stp (S3.tr (S7.tr (S11.tr (S14.tr S18)))) rfl rfl
      have f259 := f15.stp S18 rfl rfl
      refine WO.call rfl rfl rfl rfl rfl rfl Try.call130 (slices_ContainsFunc_I_int64__i_holdsOn_3__i_holdsOn_1_ok (κ := fun b => mp [] 0 (K17 b)) (c1_0_0 := p0) (Sl.map f256 (mp [] 0) rfl rfl) (Sl.map f257 (mp [] 0) rfl rfl) (Sl.map f258 (mp [] 0) rfl rfl) (f259.map (mp [] 0) rfl rfl) (f106.map (mp [] 0) rfl rfl) hx107) ?_
      rintro _ w260 ⟨k261, rfl, e262⟩
      obtain ⟨K263, S264, m265⟩ := Ent.mixed (l := []) (κ := K17) e262 6 rfl
      refine ⟨trivial, ?_⟩
      refine WO.pn 2 rfl ?_
      refine WO.fin ?_
      refine DN.seq ?_
      refine WC.ret ?_
      refine DN.retBlock ?_
      refine DN.retThen ?_
      have f267 := hE.stp (S3.tr (S7.tr (S11.tr (S14.tr (S18.tr S264))))) rfl rfl
      refine DN.res (l := [.tmp 4]) Try.results128 (res_tmp rfl rfl) rfl ?_
      obtain rfl := Option.some.inj h
      exact ⟨K263, rfl, f267⟩
     | false =>
      intro h; replace h := cF h
      refine WC.cf rfl ?_
      refine WC.seq ?_
      refine WC.rs [(0, 2), (1, 2)] rfl ?_
      refine WO.pn 2 rfl ?_
      refine WO.fin ?_
      refine DN.seq ?_
      revert h
      cases ht268 : (p0.Kind == 6) with
      | true =>
       intro h; replace h := cT h
       refine WC.ct rfl ?_
       refine WC.seq ?_
       refine WC.rs [(0, 2), (1, 1), (2, 1), (3, 2)] rfl ?_
       refine WO.pn 1 rfl ?_
       have f269 := f15.stp S18 rfl rfl
       refine WO.k1 trivial rfl rfl rfl rfl (rn_ld Try.isAgg156 rfl rfl (hvE (f269.ld 0 rfl rfl))) ?_
       obtain ⟨x113, hx113, h⟩ := Option.bind_eq_some_iff.mp h
       have f270 := g0_1.stp (S3.tr (S7.tr (S11.tr (S14.tr S18)))) rfl rfl
       have f271 := g0_2.stp (S3.tr (S7.tr (S11.tr (S14.tr S18)))) rfl rfl
       refine WO.call rfl rfl rfl rfl rfl rfl Try.call130 (slices_ContainsFunc_I_int64__i_holdsOn_1_ok (κ := fun b => mp [] 0 (K17 b)) (c1_0 := p0) (Sl.map f20.rdc (mp [] 0) rfl rfl) (Sl.map f270 (mp [] 0) rfl rfl) (Sl.map f271 (mp [] 0) rfl rfl) (f106.map (mp [] 0) rfl rfl) hx113) ?_
       rintro _ w272 ⟨k273, rfl, e274⟩
       obtain ⟨K275, S276, m277⟩ := Ent.mixed (l := []) (κ := K17) e274 6 rfl
       refine ⟨trivial, ?_⟩
       refine WO.pn 1 rfl ?_
       refine WO.fin ?_
       refine DN.seq ?_
       refine WC.ret ?_
       refine DN.retBlock ?_
       refine DN.retThen ?_
       have f279 := hE.stp (S3.tr (S7.tr (S11.tr (S14.tr (S18.tr S276))))) rfl rfl
       refine DN.res (l := [.tmp 4]) Try.results128 (res_tmp rfl rfl) rfl ?_
       obtain rfl := Option.some.inj h
       exact ⟨K275, rfl, f279⟩
      | false =>
       intro h; replace h := cF h
       refine WC.cf rfl ?_
       refine WC.skip ?_
       refine DN.block ?_
       refine DN.seq ?_
       refine WC.seq ?_
       refine WC.rs [(0, 2), (1, 1), (2, 1), (3, 1), (4, 2), (5, 2), (6, 2), (7, 1), (8, 2), (9, 1), (10, 2), (11, 2)] rfl ?_
       refine WO.k2 rfl rfl rfl rfl (rn_fieldAddr Try.runUnderlying41 rfl Try.sizeOf28 rfl rfl) ?_
       have f280 := f8.stp (S11.tr (S14.tr S18)) rfl rfl
       refine WO.k1 trivial rfl rfl rfl rfl (rn_ld Try.isAgg28 rfl rfl (hvE (f280.ld 1 rfl rfl))) ?_
       have f281 := f15.stp S18 rfl rfl
       refine WO.k1 trivial rfl rfl rfl rfl (rn_ld Try.isAgg156 rfl rfl (hvE (f281.ld 0 rfl rfl))) ?_
       obtain ⟨x117, hx117, h⟩ := Option.bind_eq_some_iff.mp h
       have f282 := g1_1.stp (S3.tr (S7.tr (S11.tr (S14.tr S18)))) rfl rfl
       have f283 := g0_1.stp (S3.tr (S7.tr (S11.tr (S14.tr S18)))) rfl rfl
       have f284 := g0_2.stp (S3.tr (S7.tr (S11.tr (S14.tr S18)))) rfl rfl
       refine WO.call rfl rfl rfl rfl rfl rfl Try.call130 (slices_ContainsFunc_I_int64__i_holdsOn_1_ok (κ := fun b => mp [] 0 (K17 b)) (c1_0 := p0) (Sl.map f282 (mp [] 0) rfl rfl) (Sl.map f283 (mp [] 0) rfl rfl) (Sl.map f284 (mp [] 0) rfl rfl) (f106.map (mp [] 0) rfl rfl) hx117) ?_
       rintro _ w285 ⟨k286, rfl, e287⟩
       obtain ⟨K288, S289, m290⟩ := Ent.mixed (l := []) (κ := K17) e287 6 rfl
       refine ⟨trivial, ?_⟩
       refine WO.pn 2 rfl ?_
       obtain ⟨p124, h, hK292⟩ := Option.bind_eq_some_iff.mp h
       refine WO.meet [(6, 2), (7, 1), (8, 2), (9, 1), (10, 2)] [(11, 2)] (fun L w' => L = [(124, .bool p124)] ∧ ∃ κ', Stp [] K288 w285 κ' w') trivial ?_ ?_
       ·
        revert h
        cases ht293 : (!x117) with
        | true =>
         intro h; replace h := cT h
         refine WO.pn 1 rfl ?_
         refine WO.ls rfl rfl rfl rfl ?_
         refine WO.pn 1 rfl ?_
         refine WO.ls rfl rfl rfl rfl ?_
         refine WO.pn 1 rfl ?_
         obtain rfl := Option.some.inj h
         exact WO.met _ trivial ⟨rfl, _, (Stp.refl _ _).wk rfl⟩ fun a ha => (ha.more ha.nil rfl)
        | false =>
         intro h; replace h := cF h
         refine WO.k2 rfl rfl rfl rfl (rn_fieldAddr Try.runUnderlying41 rfl Try.sizeOf28 rfl rfl) ?_
         have f294 := f280.stp S289 rfl rfl
         refine WO.k1 trivial rfl rfl rfl rfl (rn_ld Try.isAgg28 rfl rfl (hvE (f294.ld 1 rfl rfl))) ?_
         refine WO.pn 1 rfl ?_
         obtain ⟨x123, hx123, h⟩ := Option.bind_eq_some_iff.mp h
         have f295 := f282.stp S289 rfl rfl
         have f296 := f283.stp S289 rfl rfl
         have f297 := f284.stp S289 rfl rfl
         have f298 := f106.stp S289 rfl rfl
         refine WO.call rfl rfl rfl rfl rfl rfl Try.call130 (slices_ContainsFunc_I_int64__i_holdsOn_2_ok (κ := fun b => mp [] 0 (K288 b)) (c1_0 := p0) (Sl.map f295 (mp [] 0) rfl rfl) (Sl.map f296 (mp [] 0) rfl rfl) (Sl.map f297 (mp [] 0) rfl rfl) (f298.map (mp [] 0) rfl rfl) hx123) ?_
         rintro _ w299 ⟨k300, rfl, e301⟩
         obtain ⟨K302, S303, m304⟩ := Ent.mixed (l := []) (κ := K288) e301 8 rfl
         refine ⟨trivial, ?_⟩
         refine WO.pn 1 rfl ?_
         obtain rfl := Option.some.inj h
         exact WO.met _ trivial ⟨rfl, _, S303.wk rfl⟩ fun a ha => (ha.more ha.nil rfl)
       rintro _ w306 _ ⟨rfl, K307, S308⟩
       have h := hK292
       refine WO.pn 1 rfl ?_
       refine WO.fin ?_
       refine DN.seq ?_
       refine WC.ret ?_
       have f309 := hE.stp (S3.tr (S7.tr (S11.tr (S14.tr (S18.tr (S289.tr S308)))))) rfl rfl
       refine DN.res (l := [.tmp 4]) Try.results128 (res_tmp rfl rfl) rfl ?_
       obtain rfl := Option.some.inj h
       exact ⟨K307, rfl, f309⟩

/- loop.example/g00869/impl.FirstBroken$1 -/
theorem i_FirstBroken_1_ok {w : World} {κ : Col} {a0_1 : Option Addr} {u0_1 : Nat} {a0_2 : Option Addr} {u0_2 : Nat} {p0 : Clause} {a1_0 : Option Addr} {u1_0 : Nat} {a1_1 : Option Addr} {u1_1 : Nat} {c0 : Word} {b1 : Nat} (g0_1 : Rd (Rp.int .i64) κ w 0 a0_1 u0_1 p0.A) (g0_2 : Rd (Rp.int .i64) κ w 0 a0_2 u0_2 p0.B) (g1_0 : Rd (Rp.int .i64) κ w 0 a1_0 u1_0 c0.Stem) (g1_1 : Rd (Rp.int .i64) κ w 0 a1_1 u1_1 c0.Loop) (gb1 : Bc κ w 0 b1 41 [.slice a1_0 c0.Stem.length u1_0, .slice a1_1 c0.Loop.length u1_1]) {r : Bool} (h : i_FirstBroken_1 p0 c0 = some r) : Ret Try.prog 127 [.agg #[.int .i64 p0.Kind, .slice a0_1 p0.A.length u0_1, .slice a0_2 p0.B.length u0_2], .pointer (some ⟨b1, 0, none⟩)] w (fun v w' => ∃ (κ' : Col), v = .bool r ∧ Ent κ w κ' w') := by
 unfold i_FirstBroken_1 at h
 refine Ret.enter Try.func127 rfl Try.ntmps127 rfl ?_
 dsimp only [envOf]
 have hE := Ent.refl κ w
 refine WC.seq ?_
 refine WC.rs [(0, 1), (1, 2)] rfl ?_
 refine WO.box (κ := κ) 2 rfl rfl rfl rfl rfl rfl rfl fun b2 w1 K2 S3 f4 => ⟨trivial, ?_⟩
 refine WO.pn 1 rfl ?_
 refine WO.fin ?_
 refine DN.seq ?_
 refine WC.seq ?_
 refine WC.rs [(0, 1), (1, 1), (2, 1), (3, 2), (4, 2)] rfl ?_
 refine WO.k1 trivial rfl rfl rfl rfl (rn_la (cs := [.int .i64 p0.Kind, .slice a0_1 p0.A.length u0_1, .slice a0_2 p0.B.length u0_2]) Try.isAgg99 Try.sizeOf99 rfl rfl rfl (haE f4.cells)) ?_
 have f5 := gb1.stp S3 rfl rfl
 refine WO.k1 trivial rfl rfl rfl rfl (rn_la (cs := [.slice a1_0 c0.Stem.length u1_0, .slice a1_1 c0.Loop.length u1_1]) Try.isAgg41 Try.sizeOf41 rfl rfl rfl (haE f5.cells)) ?_
 obtain ⟨x6, hx6, h⟩ := Option.bind_eq_some_iff.mp h
 have f6 := g0_1.stp S3 rfl rfl
 have f7 := g0_2.stp S3 rfl rfl
 have f8 := g1_0.stp S3 rfl rfl
 have f9 := g1_1.stp S3 rfl rfl
 refine WO.call rfl rfl rfl rfl rfl rfl Try.call128 (i_holdsOn_ok (κ := fun b => mp [] 0 (K2 b)) (p0 := p0) (p1 := c0) (Sl.map f6 (mp [] 0) rfl rfl) (Sl.map f7 (mp [] 0) rfl rfl) (Sl.map f8 (mp [] 0) rfl rfl) (Sl.map f9 (mp [] 0) rfl rfl) hx6) ?_
 rintro _ w10 ⟨k11, rfl, e12⟩
 obtain ⟨K13, S14, m15⟩ := Ent.mixed (l := []) (κ := K2) e12 3 rfl
 refine ⟨trivial, ?_⟩
 refine WO.pn 2 rfl ?_
 refine WO.fin ?_
 refine DN.seq ?_
 refine WC.ret ?_
 have f17 := hE.stp (S3.tr S14) rfl rfl
 refine DN.res (l := [.tmp 3]) Try.results127 (res_tmp rfl rfl) rfl ?_
 obtain rfl := Option.some.inj h
 exact ⟨K13, rfl, f17⟩

/- slices.IndexFunc[[]loop.example/g00869/impl.Clause,loop.example/g00869/impl.Clause] -/
theorem slices_IndexFunc_i_Clause_i_Clause__i_FirstBroken_1_ok {w : World} {κ : Col} {a0 : Option Addr} {u0 : Nat} {p0 : (List Clause)} {a1_0_0 : Option Addr} {u1_0_0 : Nat} {a1_0_1 : Option Addr} {u1_0_1 : Nat} {c1_0 : Word} {b1_0 : Nat} (g0 : Rd Clause.rp κ w 0 a0 u0 p0) (g1_0_0 : Rd (Rp.int .i64) κ w 0 a1_0_0 u1_0_0 c1_0.Stem) (g1_0_1 : Rd (Rp.int .i64) κ w 0 a1_0_1 u1_0_1 c1_0.Loop) (gb1_0 : Bc κ w 0 b1_0 41 [.slice a1_0_0 c1_0.Stem.length u1_0_0, .slice a1_0_1 c1_0.Loop.length u1_0_1]) {r : Int} (h : slices_IndexFunc_i_Clause_i_Clause__i_FirstBroken_1 p0 c1_0 = some r) : Ret Try.prog 126 [.slice a0 p0.length u0, .func (.func 127) #[] #[.pointer (some ⟨b1_0, 0, none⟩)]] w (fun v w' => ∃ (κ' : Col), v = .int .i64 r ∧ Ent κ w κ' w') := by
 unfold slices_IndexFunc_i_Clause_i_Clause__i_FirstBroken_1 at h
 refine Ret.enter Try.func126 rfl Try.ntmps126 rfl ?_
 dsimp only [envOf]
 have hE := Ent.refl κ w
 refine WC.seq ?_
 refine WC.rs [(0, 2)] rfl ?_
 refine WO.pn 1 rfl ?_
 refine WO.fin ?_
 refine DN.seq ?_
 refine WC.seq ?_
 refine WC.seq ?_
 refine WC.rs [(0, 2), (1, 2), (2, 2)] rfl ?_
 refine WO.pn 1 rfl ?_
 refine WO.k2 rfl rfl rfl rfl (rn_len Try.runUnderlying39 rfl rfl) ?_
 refine WO.pn 1 rfl ?_
 refine WO.fin ?_
 refine DN.seq ?_
 have hN1 : (p0.length : Int) ≤ 9223372036854775807 := g0.len_le
 obtain ⟨q2, hq3, hK2⟩ := Option.bind_eq_some_iff.mp h
 clear h
 refine WC.meet (fun L w' => ∃ (κ' : Col), L = [(1, .func (.func 127) #[] #[.pointer (some ⟨b1_0, 0, none⟩)])] ∧ Stp [] κ w κ' w' ∧ q2 = Sum.inr ()) ?_ ?_
 ·
  refine WC.block ?_
  refine WC.loop (fun k L w' => ∃ (κ' : Col) (v8 : Int), L = [(0, .slice a0 p0.length u0), (1, .func (.func 127) #[] #[.pointer (some ⟨b1_0, 0, none⟩)]), (7, .int .i64 (p0.length : Int)), (8, .int .i64 v8)] ∧ Stp [] κ w κ' w' ∧ 0 ≤ v8 ∧ Int.toNat ((p0.length : Int) - v8) = k ∧ cntM (slices_IndexFunc_i_Clause_i_Clause__i_FirstBroken_1_b0 p0 c1_0) k v8 () = some q2) ⟨_, _, ⟨κ, 0, rfl, (Stp.refl _ _).wk rfl, (by decide), (by simp), hq3⟩, fun a ha => (ha.more (ha.more (ha.more (ha.more ha.nil rfl) rfl) rfl) rfl)⟩ ?_
  rintro k _ w7 ⟨K8, v8, rfl, S9, hj1, hJ1, h⟩
  rcases k with _ | k
  ·
   have hk10 := h; obtain ⟨o1, h⟩ := ex_eq (Sum.inr (Sum.inl ()) : Int ⊕ ((Unit) ⊕ (Unit)))
   have hc1 : decide (v8 < (p0.length : Int)) = false := decide_eq_false (by omega)
   refine WC.seq ?_
   refine WC.rs [(0, 2)] rfl ?_
   refine WO.pn 1 rfl ?_
   refine WO.fin ?_
   refine DN.seq ?_
   refine WC.seq ?_
   refine WC.cf' rfl hc1 ?_
   refine WC.exit ?_
   refine DN.exitThen ?_
   refine DN.exitThen ?_
   obtain rfl := Option.some.inj h
   have h := hk10
   refine DN.hit ?_
   obtain rfl := Option.some.inj h
   exact DN.meet _ ⟨K8, rfl, S9.wk rfl, rfl⟩ fun a ha => (ha.more ha.nil rfl)
  ·
   obtain ⟨o1, h, hk10⟩ := Option.bind_eq_some_iff.mp h; unfold slices_IndexFunc_i_Clause_i_Clause__i_FirstBroken_1_b0 at h
   have hc1 : decide (v8 < (p0.length : Int)) = true := decide_eq_true (by omega)
   refine WC.seq ?_
   refine WC.rs [(0, 2)] rfl ?_
   refine WO.pn 1 rfl ?_
   refine WO.fin ?_
   refine DN.seq ?_
   refine WC.seq ?_
   refine WC.ct' rfl hc1 ?_
   refine WC.skip ?_
   refine DN.seq ?_
   refine WC.seq ?_
   refine WC.block ?_
   refine WC.seq ?_
   refine WC.rs [(0, 2), (1, 2)] rfl ?_
   refine WO.pn 2 rfl ?_
   refine WO.fin ?_
   refine DN.seq ?_
   refine WC.seq ?_
   refine WC.rs [(0, 2), (1, 2), (2, 2), (3, 2), (4, 1), (5, 1)] rfl ?_
   refine WO.pn 3 rfl ?_
   obtain ⟨x14, hx14, h⟩ := Option.bind_eq_some_iff.mp h
   refine WO.k2 rfl rfl rfl rfl (rn_index g0 hx14 Try.runUnderlying39 Try.sizeOf99 rfl rfl rfl rfl) ?_
   have f11 := g0.stp S9 rfl rfl
   obtain ⟨cse12, hre12, hle12⟩ := (f11).gSt hx14
   obtain ⟨ae12_0, ue12_0, ae12_1, ue12_1, rfl, fe12_0, fe12_1⟩ := Clause.un hre12
   refine WO.k1 trivial rfl rfl rfl rfl (rn_la (cs := [.int .i64 x14.Kind, .slice ae12_0 x14.A.length ue12_0, .slice ae12_1 x14.B.length ue12_1]) Try.isAgg99 Try.sizeOf99 rfl rfl rfl (haE hle12)) ?_
   obtain ⟨x16, hx16, h⟩ := Option.bind_eq_some_iff.mp h
   have f13 := g1_0_0.stp S9 rfl rfl
   have f14 := g1_0_1.stp S9 rfl rfl
   have f15 := gb1_0.stp S9 rfl rfl
   refine WO.callV rfl rfl rfl rfl rfl rfl rfl rfl Try.call127 (i_FirstBroken_1_ok (κ := fun b => mp [] 0 (K8 b)) (p0 := x14) (c0 := c1_0) (Sl.map fe12_0 (mp [] 0) rfl rfl) (Sl.map fe12_1 (mp [] 0) rfl rfl) (Sl.map f13 (mp [] 0) rfl rfl) (Sl.map f14 (mp [] 0) rfl rfl) (f15.map (mp [] 0) rfl rfl) hx16) ?_
   rintro _ w16 ⟨k17, rfl, e18⟩
   obtain ⟨K19, S20, m21⟩ := Ent.mixed (l := []) (κ := K8) e18 2 rfl
   refine ⟨trivial, ?_⟩
   refine WO.fin ?_
   refine DN.seq ?_
   revert h
   cases ht23 : x16 with
   | true =>
    intro h; replace h := cT h
    refine WC.ct rfl ?_
    refine WC.seq ?_
    refine WC.rs [(0, 2), (1, 2)] rfl ?_
    refine WO.pn 2 rfl ?_
    refine WO.fin ?_
    refine DN.seq ?_
    refine WC.ret ?_
    refine DN.retBlock ?_
    refine DN.retThen ?_
    refine DN.retThen ?_
    obtain rfl := Option.some.inj h
    obtain rfl := Option.some.inj hk10
    have h := hK2
    dsimp only [aft] at h
    refine DN.retBlock ?_
    refine DN.retMeet ?_
    refine DN.retThen ?_
    have f24 := hE.stp (S9.tr S20) rfl rfl
    refine DN.res (l := [.tmp 4]) Try.results126 (res_tmp rfl rfl) rfl ?_
    obtain rfl := Option.some.inj h
    exact ⟨K19, rfl, f24⟩
   | false =>
    intro h; replace h := cF h
    refine WC.cf rfl ?_
    refine WC.skip ?_
    refine DN.block ?_
    refine DN.seq ?_
    refine WC.rs [(0, 2), (1, 2)] rfl ?_
    refine WO.pn 2 rfl ?_
    refine WO.fin ?_
    have hw1 : IntKind.wrap .i64 (v8 + 1) = v8 + 1 := wr1 hj1 (of_decide_eq_true hc1) hN1
    rw [hw1]
    have hc1 := of_decide_eq_true hc1
    obtain rfl := Option.some.inj h
    refine DN.round fun a ha => ?_
    exact ⟨k, _, Nat.lt_succ_self _, ⟨K19, v8 + 1, rfl, (S9.tr S20).wk rfl, by omega, by omega, hk10⟩, (ha.more (ha.more (ha.more (ha.more ha.nil rfl) rfl) rfl) rfl)⟩
 rintro _ w4 ⟨K5, rfl, S6, rfl⟩
 have h := hK2
 dsimp only [aft] at h
 refine DN.seq ?_
 refine WC.seq ?_
 refine WC.rs [(0, 2)] rfl ?_
 refine WO.pn 1 rfl ?_
 refine WO.fin ?_
 refine DN.seq ?_
 refine WC.ret ?_
 have f25 := hE.stp S6 rfl rfl
 refine DN.res (l := [.tmp 4]) Try.results126 (res_tmp rfl rfl) rfl ?_
 obtain rfl := Option.some.inj h
 exact ⟨K5, rfl, f25⟩

/- loop.example/g00869/impl.FirstBroken -/
theorem i_FirstBroken_ok {w : World} {κ : Col} {p0 : Sig} {a1 : Option Addr} {u1 : Nat} {p1 : (List Clause)} {a2_0 : Option Addr} {u2_0 : Nat} {a2_1 : Option Addr} {u2_1 : Nat} {p2 : Word} (g1 : Rd Clause.rp κ w 0 a1 u1 p1) (g2_0 : Rd (Rp.int .i64) κ w 0 a2_0 u2_0 p2.Stem) (g2_1 : Rd (Rp.int .i64) κ w 0 a2_1 u2_1 p2.Loop) {r : Int} (h : i_FirstBroken p0 p1 p2 = some r) : Ret Try.prog 93 [.agg #[.int .i64 p0.In, .int .i64 p0.Out], .slice a1 p1.length u1, .agg #[.slice a2_0 p2.Stem.length u2_0, .slice a2_1 p2.Loop.length u2_1]] w (fun v w' => ∃ (κ' : Col), v = .int .i64 r ∧ Ent κ w κ' w') := by
 unfold i_FirstBroken at h
 refine Ret.enter Try.func93 rfl Try.ntmps93 rfl ?_
 dsimp only [envOf]
 have hE := Ent.refl κ w
 refine WC.seq ?_
 refine WC.rs [(0, 1), (1, 1), (2, 2)] rfl ?_
 refine WO.box (κ := κ) 2 rfl rfl rfl rfl rfl rfl rfl fun b3 w1 K2 S3 f4 => ⟨trivial, ?_⟩
 refine WO.box (κ := K2) 3 rfl rfl rfl rfl rfl rfl rfl fun b5 w5 K6 S7 f8 => ⟨trivial, ?_⟩
 refine WO.pn 1 rfl ?_
 refine WO.fin ?_
 refine DN.seq ?_
 refine WC.seq ?_
 refine WC.seq ?_
 refine WC.rx (κ := K6) [2, 3] none [(0, 0), (1, 1), (2, 2), (3, 2), (5, 2), (4, 0), (6, 1), (7, 2), (8, 2), (9, 2), (10, 0), (11, 0), (12, 1), (13, 1), (14, 2), (15, 2)] [] (by kernel_rfl) (by kernel_rfl) fun w10 S9 => ?_
 have f11 := f4.stp (S7.tr S9) rfl rfl
 refine WO.k0 rfl rfl rfl rfl (rn_la (cs := [.int .i64 p0.In, .int .i64 p0.Out]) Try.isAgg35 Try.sizeOf35 rfl rfl rfl (haC f11.cells rfl)) ?_
 obtain ⟨x8, hx8, h⟩ := Option.bind_eq_some_iff.mp h
 refine WO.call rfl rfl rfl rfl rfl rfl Try.call64 (i_isSig_ok (κ := fun b => mp [] 0 (K6 b)) (p0 := p0) hx8) ?_
 rintro _ w12 ⟨k13, rfl, e14⟩
 obtain ⟨K15, S16, m17⟩ := Ent.mixed (l := []) (κ := K6) e14 4 rfl
 refine ⟨(S16.cl rfl), ?_⟩
 refine WO.pn 2 rfl ?_
 obtain ⟨p15, h, hK19⟩ := Option.bind_eq_some_iff.mp h
 refine WO.meet [(5, 2), (4, 0), (6, 1), (7, 2), (8, 2)] [(9, 2), (10, 0), (11, 0), (12, 1), (13, 1), (14, 2), (15, 2)] (fun L w' => L = [(1, .slice a1 p1.length u1), (3, .pointer (some ⟨b3, 0, none⟩)), (5, .pointer (some ⟨b5, 0, none⟩)), (15, .bool p15)] ∧ ∃ κ', Stp [] K15 w12 κ' w') (S16.cl rfl) ?_ ?_
 ·
  revert h
  cases ht20 : (!x8) with
  | true =>
   intro h; replace h := cT h
   refine WO.pn 1 rfl ?_
   refine WO.qs rfl rfl rfl rfl ?_
   refine WO.ls rfl rfl rfl rfl ?_
   refine WO.pn 2 rfl ?_
   obtain rfl := Option.some.inj h
   exact WO.met _ (S16.cl rfl) ⟨rfl, _, (Stp.refl _ _).wk rfl⟩ fun a ha => (ha.more (ha.more (ha.more (ha.more ha.nil rfl) rfl) rfl) rfl)
  | false =>
   intro h; replace h := cF h
   refine WO.pn 1 rfl ?_
   refine WO.k0 rfl rfl rfl rfl (rn_la (cs := [.int .i64 p0.In, .int .i64 p0.Out]) Try.isAgg35 Try.sizeOf35 rfl rfl rfl (haC f11.cells rfl)) ?_
   obtain ⟨x13, hx13, h⟩ := Option.bind_eq_some_iff.mp h
   have f21 := g1.stp (S3.tr (S7.tr (S9.tr S16))) rfl rfl
   refine WO.call rfl rfl rfl rfl rfl rfl Try.call125 (i_areClauses_ok (κ := fun b => mp [] 0 (K15 b)) (p0 := p0) (Sl.map f21 (mp [] 0) rfl rfl) hx13) ?_
   rintro _ w22 ⟨k23, rfl, e24⟩
   obtain ⟨K25, S26, m27⟩ := Ent.mixed (l := []) (κ := K15) e24 6 rfl
   refine ⟨((S16.tr S26).cl rfl), ?_⟩
   refine WO.pn 2 rfl ?_
   obtain rfl := Option.some.inj h
   exact WO.met _ ((S16.tr S26).cl rfl) ⟨rfl, _, S26.wk rfl⟩ fun a ha => (ha.more (ha.more (ha.more (ha.more ha.nil rfl) rfl) rfl) rfl)
 rintro _ w29 _ ⟨rfl, K30, S31⟩
 have h := hK19
 refine WO.pn 1 rfl ?_
 obtain ⟨p22, h, hK32⟩ := Option.bind_eq_some_iff.mp h
 refine WO.meet [(10, 0), (11, 0), (12, 1), (13, 1), (14, 2), (15, 2)] [] (fun L w' => L = [(1, .slice a1 p1.length u1), (5, .pointer (some ⟨b5, 0, none⟩)), (22, .bool p22)] ∧ ∃ κ', Stp [] K30 w29 κ' w') ((S16.tr S31).cl rfl) ?_ ?_
 ·
  revert h
  cases ht33 : p15 with
  | true =>
   intro h; replace h := cT h
   refine WO.qs rfl rfl rfl rfl ?_
   refine WO.qs rfl rfl rfl rfl ?_
   refine WO.ls rfl rfl rfl rfl ?_
   refine WO.ls rfl rfl rfl rfl ?_
   refine WO.pn 2 rfl ?_
   obtain rfl := Option.some.inj h
   exact WO.met _ ((S16.tr S31).cl rfl) ⟨rfl, _, (Stp.refl _ _).wk rfl⟩ fun a ha => (ha.more (ha.more (ha.more ha.nil rfl) rfl) rfl)
  | false =>
   intro h; replace h := cF h
   have f34 := f8.stp S9 rfl rfl
   refine WO.k0 rfl rfl rfl rfl (rn_la (cs := [.slice a2_0 p2.Stem.length u2_0, .slice a2_1 p2.Loop.length u2_1]) Try.isAgg41 Try.sizeOf41 rfl rfl rfl (haC f34.cells rfl)) ?_
   refine WO.k0 rfl rfl rfl rfl (rn_la (cs := [.int .i64 p0.In, .int .i64 p0.Out]) Try.isAgg35 Try.sizeOf35 rfl rfl rfl (haC f11.cells rfl)) ?_
   obtain ⟨x19, hx19, h⟩ := Option.bind_eq_some_iff.mp h
   refine WO.call rfl rfl rfl rfl rfl rfl Try.call107 (i_lettersOf_ok (κ := fun b => mp [] 0 (K30 b)) (p0 := p0) hx19) ?_
   rintro _ w35 ⟨k36, rfl, e37⟩
   obtain ⟨K38, S39, m40⟩ := Ent.mixed (l := []) (κ := K30) e37 6 rfl
   refine ⟨((S16.tr (S31.tr S39)).cl rfl), ?_⟩
   obtain ⟨x20, hx20, h⟩ := Option.bind_eq_some_iff.mp h
   have f42 := g2_0.stp (S3.tr (S7.tr (S9.tr (S16.tr (S31.tr S39))))) rfl rfl
   have f43 := g2_1.stp (S3.tr (S7.tr (S9.tr (S16.tr (S31.tr S39))))) rfl rfl
   refine WO.call rfl rfl rfl rfl rfl rfl Try.call90 (i_isWord_ok (κ := fun b => mp [] 0 (K38 b)) (p0 := p2) (Sl.map f42 (mp [] 0) rfl rfl) (Sl.map f43 (mp [] 0) rfl rfl) hx20) ?_
   rintro _ w44 ⟨k45, rfl, e46⟩
   obtain ⟨K47, S48, m49⟩ := Ent.mixed (l := []) (κ := K38) e46 8 rfl
   refine ⟨((S16.tr (S31.tr (S39.tr S48))).cl rfl), ?_⟩
   refine WO.pn 2 rfl ?_
   obtain rfl := Option.some.inj h
   exact WO.met _ ((S16.tr (S31.tr (S39.tr S48))).cl rfl) ⟨rfl, _, (S39.tr S48).wk rfl⟩ fun a ha => (ha.more (ha.more (ha.more ha.nil rfl) rfl) rfl)
 rintro _ w51 _ ⟨rfl, K52, S53⟩
 have h := hK32
 refine WO.nx ?_
 refine WO.fin ?_
 refine DN.seq ?_
 revert h
 cases ht54 : p22 with
 | true =>
  intro h; replace h := cT h
  refine WC.ct rfl ?_
  refine WC.seq ?_
  refine WC.rs [(0, 2)] rfl ?_
  refine WO.pn 1 rfl ?_
  refine WO.fin ?_
  refine DN.seq ?_
  refine WC.ret ?_
  refine DN.retThen ?_
  have f55 := hE.stp (S3.tr (S7.tr (S9.tr (S16.tr (S31.tr S53))))) rfl rfl
  refine DN.res (l := [.tmp 6]) Try.results93 (res_tmp rfl rfl) rfl ?_
  obtain rfl := Option.some.inj h
  exact ⟨K52, rfl, f55⟩
 | false =>
  intro h; replace h := cF h
  refine WC.cf rfl ?_
  refine WC.skip ?_
  refine DN.seq ?_
  refine WC.seq ?_
  refine WC.rs [(0, 2), (1, 2), (2, 1), (3, 2)] rfl ?_
  refine WO.pn 1 rfl ?_
  refine WO.k2 rfl rfl rfl rfl (rn_makeFunc (first := []) (captured := [.tmp 5]) rfl rfl rfl ⟨_, rfl⟩) ?_
  obtain ⟨x25, hx25, h⟩ := Option.bind_eq_some_iff.mp h
  have f56 := g1.stp (S3.tr (S7.tr (S9.tr (S16.tr (S31.tr S53))))) rfl rfl
  have f57 := g2_0.stp (S3.tr (S7.tr (S9.tr (S16.tr (S31.tr S53))))) rfl rfl
  have f58 := g2_1.stp (S3.tr (S7.tr (S9.tr (S16.tr (S31.tr S53))))) rfl rfl
  have f59 := f8.stp (S9.tr (S16.tr (S31.tr S53))) rfl rfl
  refine WO.call rfl rfl rfl rfl rfl rfl Try.call126 (slices_IndexFunc_i_Clause_i_Clause__i_FirstBroken_1_ok (κ := fun b => mp [] 0 (K52 b)) (c1_0 := p2) (Sl.map f56 (mp [] 0) rfl rfl) (Sl.map f57 (mp [] 0) rfl rfl) (Sl.map f58 (mp [] 0) rfl rfl) (f59.map (mp [] 0) rfl rfl) hx25) ?_
  rintro _ w60 ⟨k61, rfl, e62⟩
  obtain ⟨K63, S64, m65⟩ := Ent.mixed (l := []) (κ := K52) e62 6 rfl
  refine ⟨trivial, ?_⟩
  refine WO.pn 1 rfl ?_
  refine WO.fin ?_
  refine DN.seq ?_
  refine WC.ret ?_
  have f67 := hE.stp (S3.tr (S7.tr (S9.tr (S16.tr (S31.tr (S53.tr S64)))))) rfl rfl
  refine DN.res (l := [.tmp 6]) Try.results93 (res_tmp rfl rfl) rfl ?_
  obtain rfl := Option.some.inj h
  exact ⟨K63, rfl, f67⟩

/- loop.example/g00869/impl.AllHold -/
theorem i_AllHold_ok {w : World} {κ : Col} {p0 : Sig} {a1 : Option Addr} {u1 : Nat} {p1 : (List Clause)} {a2_0 : Option Addr} {u2_0 : Nat} {a2_1 : Option Addr} {u2_1 : Nat} {p2 : Word} (g1 : Rd Clause.rp κ w 0 a1 u1 p1) (g2_0 : Rd (Rp.int .i64) κ w 0 a2_0 u2_0 p2.Stem) (g2_1 : Rd (Rp.int .i64) κ w 0 a2_1 u2_1 p2.Loop) {r : Bool} (h : i_AllHold p0 p1 p2 = some r) : Ret Try.prog 55 [.agg #[.int .i64 p0.In, .int .i64 p0.Out], .slice a1 p1.length u1, .agg #[.slice a2_0 p2.Stem.length u2_0, .slice a2_1 p2.Loop.length u2_1]] w (fun v w' => ∃ (κ' : Col), v = .bool r ∧ Ent κ w κ' w') := by
 unfold i_AllHold at h
 refine Ret.enter Try.func55 rfl Try.ntmps55 rfl ?_
 dsimp only [envOf]
 have hE := Ent.refl κ w
 refine WC.seq ?_
 refine WC.rs [(0, 1), (1, 1), (2, 2)] rfl ?_
 refine WO.box (κ := κ) 2 rfl rfl rfl rfl rfl rfl rfl fun b3 w1 K2 S3 f4 => ⟨trivial, ?_⟩
 refine WO.box (κ := K2) 3 rfl rfl rfl rfl rfl rfl rfl fun b5 w5 K6 S7 f8 => ⟨trivial, ?_⟩
 refine WO.pn 1 rfl ?_
 refine WO.fin ?_
 refine DN.seq ?_
 refine WC.seq ?_
 refine WC.rs [(0, 1), (1, 2), (2, 1), (3, 1), (4, 2), (5, 2)] rfl ?_
 have f9 := f4.stp S7 rfl rfl
 refine WO.k1 trivial rfl rfl rfl rfl (rn_la (cs := [.int .i64 p0.In, .int .i64 p0.Out]) Try.isAgg35 Try.sizeOf35 rfl rfl rfl (haE f9.cells)) ?_
 refine WO.pn 1 rfl ?_
 refine WO.k1 trivial rfl rfl rfl rfl (rn_la (cs := [.slice a2_0 p2.Stem.length u2_0, .slice a2_1 p2.Loop.length u2_1]) Try.isAgg41 Try.sizeOf41 rfl rfl rfl (haE f8.cells)) ?_
 obtain ⟨x10, hx10, h⟩ := Option.bind_eq_some_iff.mp h
 have f10 := g1.stp (S3.tr S7) rfl rfl
 have f11 := g2_0.stp (S3.tr S7) rfl rfl
 have f12 := g2_1.stp (S3.tr S7) rfl rfl
 refine WO.call rfl rfl rfl rfl rfl rfl Try.call93 (i_FirstBroken_ok (κ := fun b => mp [] 0 (K6 b)) (p0 := p0) (p2 := p2) (Sl.map f10 (mp [] 0) rfl rfl) (Sl.map f11 (mp [] 0) rfl rfl) (Sl.map f12 (mp [] 0) rfl rfl) hx10) ?_
 rintro _ w13 ⟨k14, rfl, e15⟩
 obtain ⟨K16, S17, m18⟩ := Ent.mixed (l := []) (κ := K6) e15 4 rfl
 refine ⟨trivial, ?_⟩
 refine WO.pn 2 rfl ?_
 refine WO.fin ?_
 refine DN.seq ?_
 refine WC.ret ?_
 have f20 := hE.stp (S3.tr (S7.tr S17)) rfl rfl
 refine DN.res (l := [.tmp 6]) Try.results55 (res_tmp rfl rfl) rfl ?_
 obtain rfl := Option.some.inj h
 exact ⟨K16, rfl, f20⟩

/- loop.example/g00869/impl.KeepsOn -/
theorem i_KeepsOn_ok {w : World} {κ : Col} {p0 : Sig} {a1_0 : Option Addr} {u1_0 : Nat} {a1_1 : Option Addr} {u1_1 : Nat} {p1 : Machine} {a2 : Option Addr} {u2 : Nat} {p2 : (List Clause)} {a3_0 : Option Addr} {u3_0 : Nat} {a3_1 : Option Addr} {u3_1 : Nat} {p3 : Word} (g1_0 : Rd (Rp.sl (Rp.int .i64)) κ w 0 a1_0 u1_0 p1.Next) (g1_1 : Rd (Rp.sl (Rp.int .i64)) κ w 0 a1_1 u1_1 p1.Out) (g2 : Rd Clause.rp κ w 0 a2 u2 p2) (g3_0 : Rd (Rp.int .i64) κ w 0 a3_0 u3_0 p3.Stem) (g3_1 : Rd (Rp.int .i64) κ w 0 a3_1 u3_1 p3.Loop) {r : Bool} (h : i_KeepsOn p0 p1 p2 p3 = some r) : Ret Try.prog 15 [.agg #[.int .i64 p0.In, .int .i64 p0.Out], .agg #[.slice a1_0 p1.Next.length u1_0, .slice a1_1 p1.Out.length u1_1], .slice a2 p2.length u2, .agg #[.slice a3_0 p3.Stem.length u3_0, .slice a3_1 p3.Loop.length u3_1]] w (fun v w' => ∃ (κ' : Col), v = .bool r ∧ Ent κ w κ' w') := by
 unfold i_KeepsOn at h
 refine Ret.enter Try.func15 rfl Try.ntmps15 rfl ?_
 dsimp only [envOf]
 have hE := Ent.refl κ w
 refine WC.seq ?_
 refine WC.rs [(0, 1), (1, 1), (2, 1), (3, 2)] rfl ?_
 refine WO.box (κ := κ) 2 rfl rfl rfl rfl rfl rfl rfl fun b4 w1 K2 S3 f4 => ⟨trivial, ?_⟩
 refine WO.box (κ := K2) 3 rfl rfl rfl rfl rfl rfl rfl fun b5 w5 K6 S7 f8 => ⟨trivial, ?_⟩
 refine WO.box (κ := K6) 4 rfl rfl rfl rfl rfl rfl rfl fun b7 w9 K10 S11 f12 => ⟨trivial, ?_⟩
 refine WO.pn 1 rfl ?_
 refine WO.fin ?_
 refine DN.seq ?_
 refine WC.seq ?_
 refine WC.rs [(0, 1), (1, 1), (2, 1), (3, 1), (4, 1), (5, 1)] rfl ?_
 have f13 := f4.stp (S7.tr S11) rfl rfl
 refine WO.k1 trivial rfl rfl rfl rfl (rn_la (cs := [.int .i64 p0.In, .int .i64 p0.Out]) Try.isAgg35 Try.sizeOf35 rfl rfl rfl (haE f13.cells)) ?_
 have f14 := f8.stp S11 rfl rfl
 refine WO.k1 trivial rfl rfl rfl rfl (rn_la (cs := [.slice a1_0 p1.Next.length u1_0, .slice a1_1 p1.Out.length u1_1]) Try.isAgg37 Try.sizeOf37 rfl rfl rfl (haE f14.cells)) ?_
 refine WO.k1 trivial rfl rfl rfl rfl (rn_la (cs := [.slice a3_0 p3.Stem.length u3_0, .slice a3_1 p3.Loop.length u3_1]) Try.isAgg41 Try.sizeOf41 rfl rfl rfl (haE f12.cells)) ?_
 obtain ⟨x13, hx13, h⟩ := Option.bind_eq_some_iff.mp h
 have f15 := g1_0.stp (S3.tr (S7.tr S11)) rfl rfl
 have f16 := g1_1.stp (S3.tr (S7.tr S11)) rfl rfl
 have f17 := g3_0.stp (S3.tr (S7.tr S11)) rfl rfl
 have f18 := g3_1.stp (S3.tr (S7.tr S11)) rfl rfl
 refine WO.call rfl rfl rfl rfl rfl rfl Try.call54 (i_RunWord_ok (κ := fun b => mp [] 0 (K10 b)) (p0 := p0) (p1 := p1) (p2 := p3) (Sl.map f15 (mp [] 0) rfl rfl) (Sl.map f16 (mp [] 0) rfl rfl) (Sl.map f17 (mp [] 0) rfl rfl) (Sl.map f18 (mp [] 0) rfl rfl) hx13) ?_
 rintro _ w19 ⟨k20, a13_0, u13_0, a13_1, u13_1, rfl, e21, f22, f23⟩
 obtain ⟨K24, S25, m26⟩ := Ent.mixed (l := []) (κ := K10) e21 5 rfl
 refine ⟨trivial, ?_⟩
 have f28 := f22.mx (no_int _) m26 rfl (rfl : 5 + 2 = 7)
 have f29 := f23.mx (no_int _) m26 rfl (rfl : 5 + 3 = 8)
 refine WO.alloc (κ := K24) 9 rfl rfl rfl rfl rfl Try.zeroValue41 rfl fun b9 w30 K31 S32 f33 => ⟨trivial, ?_⟩
 refine WO.stB0 (κ := K31) 9 (vc := [.slice a13_0 x13.Stem.length u13_0, .slice a13_1 x13.Loop.length u13_1]) rfl rfl rfl rfl rfl rfl rfl Try.sizeOf41 rfl rfl f33 rfl fun w34 S35 f36 => ⟨trivial, ?_⟩
 refine WO.fin ?_
 refine DN.seq ?_
 refine WC.seq ?_
 refine WC.rs [(0, 2), (1, 1), (2, 2), (3, 2), (4, 2), (5, 1), (6, 2), (7, 1), (8, 1), (9, 2), (10, 2)] rfl ?_
 refine WO.k2 rfl rfl rfl rfl (rn_fieldAddr Try.runUnderlying41 rfl Try.sizeOf28 rfl rfl) ?_
 refine WO.k1 trivial rfl rfl rfl rfl (rn_ld Try.isAgg28 rfl rfl (hvE (f36.ld 1 rfl rfl))) ?_
 refine WO.k2 rfl rfl rfl rfl (rn_len Try.runUnderlying28 rfl rfl) ?_
 refine WO.pn 2 rfl ?_
 obtain ⟨p23, h, hK37⟩ := Option.bind_eq_some_iff.mp h
 refine WO.meet [(5, 1), (6, 2), (7, 1), (8, 1), (9, 2)] [(10, 2)] (fun L w' => L = [(8, .bool false), (23, .bool p23)] ∧ ∃ κ', Stp [] K31 w34 κ' w') trivial ?_ ?_
 ·
  revert h
  cases ht38 : decide (0 < (x13.Loop.length : Int)) with
  | true =>
   intro h; replace h := cT h
   have f39 := f13.stp (S25.tr (S32.tr S35)) rfl rfl
   refine WO.k1 trivial rfl rfl rfl rfl (rn_la (cs := [.int .i64 p0.In, .int .i64 p0.Out]) Try.isAgg35 Try.sizeOf35 rfl rfl rfl (haE f39.cells)) ?_
   refine WO.pn 1 rfl ?_
   refine WO.k1 trivial rfl rfl rfl rfl (rn_la (cs := [.slice a13_0 x13.Stem.length u13_0, .slice a13_1 x13.Loop.length u13_1]) Try.isAgg41 Try.sizeOf41 rfl rfl rfl (haE f36.cells)) ?_
   obtain ⟨x22, hx22, h⟩ := Option.bind_eq_some_iff.mp h
   have f40 := g2.stp (S3.tr (S7.tr (S11.tr (S25.tr (S32.tr S35))))) rfl rfl
   have f41 := f28.stp (S32.tr S35) rfl rfl
   have f42 := f29.stp (S32.tr S35) rfl rfl
   refine WO.call rfl rfl rfl rfl rfl rfl Try.call55 (i_AllHold_ok (κ := fun b => mp [] 0 (K31 b)) (p0 := p0) (p2 := x13) (Sl.map f40 (mp [] 0) rfl rfl) (Sl.map f41.rdc (mp [] 0) rfl rfl) (Sl.map f42.rdc (mp [] 0) rfl rfl) hx22) ?_
   rintro _ w43 ⟨k44, rfl, e45⟩
   obtain ⟨K46, S47, m48⟩ := Ent.mixed (l := []) (κ := K31) e45 10 rfl
   refine ⟨trivial, ?_⟩
   refine WO.pn 1 rfl ?_
   obtain rfl := Option.some.inj h
   exact WO.met _ trivial ⟨rfl, _, S47.wk rfl⟩ fun a ha => (ha.more (ha.more ha.nil rfl) rfl)
  | false =>
   intro h; replace h := cF h
   refine WO.ls rfl rfl rfl rfl ?_
   refine WO.pn 1 rfl ?_
   refine WO.ls rfl rfl rfl rfl ?_
   refine WO.ls rfl rfl rfl rfl ?_
   refine WO.pn 1 rfl ?_
   obtain rfl := Option.some.inj h
   exact WO.met _ trivial ⟨rfl, _, (Stp.refl _ _).wk rfl⟩ fun a ha => (ha.more (ha.more ha.nil rfl) rfl)
 rintro _ w50 _ ⟨rfl, K51, S52⟩
 have h := hK37
 refine WO.pn 1 rfl ?_
 refine WO.fin ?_
 refine DN.seq ?_
 refine WC.ret ?_
 have f53 := hE.stp (S3.tr (S7.tr (S11.tr (S25.tr (S32.tr (S35.tr S52)))))) rfl rfl
 refine DN.res (l := [.tmp 8]) Try.results15 (res_tmp rfl rfl) rfl ?_
 obtain rfl := Option.some.inj h
 exact ⟨K51, rfl, f53⟩

/- loop.example/g00869/laws.FnExactKeepsOn -/
theorem l_FnExactKeepsOn_ok {w : World} {κ : Col} {p0 : Sig} {a1_0 : Option Addr} {u1_0 : Nat} {a1_1 : Option Addr} {u1_1 : Nat} {p1 : Machine} {a2 : Option Addr} {u2 : Nat} {p2 : (List Clause)} {a3_0 : Option Addr} {u3_0 : Nat} {a3_1 : Option Addr} {u3_1 : Nat} {p3 : Word} (g1_0 : Rd (Rp.sl (Rp.int .i64)) κ w 0 a1_0 u1_0 p1.Next) (g1_1 : Rd (Rp.sl (Rp.int .i64)) κ w 0 a1_1 u1_1 p1.Out) (g2 : Rd Clause.rp κ w 0 a2 u2 p2) (g3_0 : Rd (Rp.int .i64) κ w 0 a3_0 u3_0 p3.Stem) (g3_1 : Rd (Rp.int .i64) κ w 0 a3_1 u3_1 p3.Loop) {r : Bool} (h : l_FnExactKeepsOn p0 p1 p2 p3 = some r) : Ret Try.prog 3 [.agg #[.int .i64 p0.In, .int .i64 p0.Out], .agg #[.slice a1_0 p1.Next.length u1_0, .slice a1_1 p1.Out.length u1_1], .slice a2 p2.length u2, .agg #[.slice a3_0 p3.Stem.length u3_0, .slice a3_1 p3.Loop.length u3_1]] w (fun v w' => ∃ (κ' : Col), v = .bool r ∧ Ent κ w κ' w') := by
 unfold l_FnExactKeepsOn at h
 refine Ret.enter Try.func3 rfl Try.ntmps3 rfl ?_
 dsimp only [envOf]
 have hE := Ent.refl κ w
 refine WC.seq ?_
 refine WC.rs [(0, 1), (1, 1), (2, 1), (3, 2)] rfl ?_
 refine WO.box (κ := κ) 2 rfl rfl rfl rfl rfl rfl rfl fun b4 w1 K2 S3 f4 => ⟨trivial, ?_⟩
 refine WO.box (κ := K2) 3 rfl rfl rfl rfl rfl rfl rfl fun b5 w5 K6 S7 f8 => ⟨trivial, ?_⟩
 refine WO.box (κ := K6) 4 rfl rfl rfl rfl rfl rfl rfl fun b7 w9 K10 S11 f12 => ⟨trivial, ?_⟩
 refine WO.pn 1 rfl ?_
 refine WO.fin ?_
 refine DN.seq ?_
 refine WC.seq ?_
 refine WC.rs [(0, 2)] rfl ?_
 refine WO.pn 1 rfl ?_
 refine WO.fin ?_
 refine DN.seq ?_
 refine WC.seq ?_
 refine WC.rs [(0, 1), (1, 2), (2, 1), (3, 2)] rfl ?_
 have f13 := f8.stp S11 rfl rfl
 refine WO.k1 trivial rfl rfl rfl rfl (rn_la (cs := [.slice a1_0 p1.Next.length u1_0, .slice a1_1 p1.Out.length u1_1]) Try.isAgg26 Try.sizeOf26 rfl rfl rfl (haE f13.cells)) ?_
 refine WO.pn 1 rfl ?_
 obtain ⟨x17, hx17, h⟩ := Option.bind_eq_some_iff.mp h
 have f14 := g1_0.stp (S3.tr (S7.tr S11)) rfl rfl
 have f15 := g1_1.stp (S3.tr (S7.tr S11)) rfl rfl
 refine WO.call rfl rfl rfl rfl rfl rfl Try.call7 (l_szMachine_ok (κ := fun b => mp [] 0 (K10 b)) (p0 := p1) (Sl.map f14 (mp [] 0) rfl rfl) (Sl.map f15 (mp [] 0) rfl rfl) hx17) ?_
 rintro _ w16 ⟨k17, rfl, e18⟩
 obtain ⟨K19, S20, m21⟩ := Ent.mixed (l := []) (κ := K10) e18 5 rfl
 refine ⟨trivial, ?_⟩
 refine WO.pn 1 rfl ?_
 refine WO.fin ?_
 refine DN.seq ?_
 refine WC.seq ?_
 refine WC.seq ?_
 refine WC.rs [(0, 2), (1, 2)] rfl ?_
 refine WO.pn 2 rfl ?_
 refine WO.fin ?_
 refine DN.seq ?_
 revert h
 cases ht23 : decide (x17 < 0) with
 | true =>
  intro h; replace h := cT h
  refine WC.ct rfl ?_
  refine WC.seq ?_
  refine WC.rs [(0, 2)] rfl ?_
  refine WO.pn 1 rfl ?_
  refine WO.fin ?_
  refine DN.seq ?_
  refine WC.ret ?_
  refine DN.retThen ?_
  have f24 := hE.stp (S3.tr (S7.tr (S11.tr S20))) rfl rfl
  refine DN.res (l := [.tmp 8]) Try.results3 (res_tmp rfl rfl) rfl ?_
  obtain rfl := Option.some.inj h
  exact ⟨K19, rfl, f24⟩
 | false =>
  intro h; replace h := cF h
  refine WC.cf rfl ?_
  refine WC.skip ?_
  refine DN.seq ?_
  refine WC.seq ?_
  refine WC.rs [(0, 2), (1, 2), (2, 1), (3, 2)] rfl ?_
  refine WO.pn 2 rfl ?_
  obtain ⟨x22, hx22, h⟩ := Option.bind_eq_some_iff.mp h
  have f25 := g2.stp (S3.tr (S7.tr (S11.tr S20))) rfl rfl
  refine WO.call rfl rfl rfl rfl rfl rfl Try.call8 (l_szClauseS_ok (κ := fun b => mp [] 0 (K19 b)) (Sl.map f25 (mp [] 0) rfl rfl) hx22) ?_
  rintro _ w26 ⟨k27, rfl, e28⟩
  obtain ⟨K29, S30, m31⟩ := Ent.mixed (l := []) (κ := K19) e28 7 rfl
  refine ⟨trivial, ?_⟩
  refine WO.pn 1 rfl ?_
  refine WO.fin ?_
  refine DN.seq ?_
  refine WC.seq ?_
  refine WC.seq ?_
  refine WC.rs [(0, 2), (1, 2)] rfl ?_
  refine WO.pn 2 rfl ?_
  refine WO.fin ?_
  refine DN.seq ?_
  revert h
  cases ht33 : decide (x22 < 0) with
  | true =>
   intro h; replace h := cT h
   refine WC.ct rfl ?_
   refine WC.seq ?_
   refine WC.rs [(0, 2)] rfl ?_
   refine WO.pn 1 rfl ?_
   refine WO.fin ?_
   refine DN.seq ?_
   refine WC.ret ?_
   refine DN.retThen ?_
   have f34 := hE.stp (S3.tr (S7.tr (S11.tr (S20.tr S30)))) rfl rfl
   refine DN.res (l := [.tmp 8]) Try.results3 (res_tmp rfl rfl) rfl ?_
   obtain rfl := Option.some.inj h
   exact ⟨K29, rfl, f34⟩
  | false =>
   intro h; replace h := cF h
   refine WC.cf rfl ?_
   refine WC.skip ?_
   refine DN.seq ?_
   refine WC.seq ?_
   refine WC.rs [(0, 1), (1, 2), (2, 1), (3, 2)] rfl ?_
   have f35 := f12.stp (S20.tr S30) rfl rfl
   refine WO.k1 trivial rfl rfl rfl rfl (rn_la (cs := [.slice a3_0 p3.Stem.length u3_0, .slice a3_1 p3.Loop.length u3_1]) Try.isAgg30 Try.sizeOf30 rfl rfl rfl (haE f35.cells)) ?_
   refine WO.pn 1 rfl ?_
   obtain ⟨x27, hx27, h⟩ := Option.bind_eq_some_iff.mp h
   have f36 := g3_0.stp (S3.tr (S7.tr (S11.tr (S20.tr S30)))) rfl rfl
   have f37 := g3_1.stp (S3.tr (S7.tr (S11.tr (S20.tr S30)))) rfl rfl
   refine WO.call rfl rfl rfl rfl rfl rfl Try.call9 (l_szWord_ok (κ := fun b => mp [] 0 (K29 b)) (p0 := p3) (Sl.map f36 (mp [] 0) rfl rfl) (Sl.map f37 (mp [] 0) rfl rfl) hx27) ?_
   rintro _ w38 ⟨k39, rfl, e40⟩
   obtain ⟨K41, S42, m43⟩ := Ent.mixed (l := []) (κ := K29) e40 9 rfl
   refine ⟨trivial, ?_⟩
   refine WO.pn 1 rfl ?_
   refine WO.fin ?_
   refine DN.seq ?_
   refine WC.seq ?_
   refine WC.seq ?_
   refine WC.rs [(0, 2), (1, 2)] rfl ?_
   refine WO.pn 2 rfl ?_
   refine WO.fin ?_
   refine DN.seq ?_
   revert h
   cases ht45 : decide (x27 < 0) with
   | true =>
    intro h; replace h := cT h
    refine WC.ct rfl ?_
    refine WC.seq ?_
    refine WC.rs [(0, 2)] rfl ?_
    refine WO.pn 1 rfl ?_
    refine WO.fin ?_
    refine DN.seq ?_
    refine WC.ret ?_
    refine DN.retThen ?_
    have f46 := hE.stp (S3.tr (S7.tr (S11.tr (S20.tr (S30.tr S42))))) rfl rfl
    refine DN.res (l := [.tmp 8]) Try.results3 (res_tmp rfl rfl) rfl ?_
    obtain rfl := Option.some.inj h
    exact ⟨K41, rfl, f46⟩
   | false =>
    intro h; replace h := cF h
    refine WC.cf rfl ?_
    refine WC.skip ?_
    refine DN.seq ?_
    refine WC.seq ?_
    refine WC.rx (κ := K41) [2, 3, 4] none [(4, 2), (0, 0), (2, 0), (6, 0), (1, 1), (3, 1), (5, 1), (7, 1), (8, 1), (9, 2)] [] (by kernel_rfl) (by kernel_rfl) fun w48 S47 => ?_
    refine WO.pn 1 rfl ?_
    have f49 := f4.stp (S7.tr (S11.tr (S20.tr (S30.tr (S42.tr S47))))) rfl rfl
    refine WO.k0 rfl rfl rfl rfl (rn_la (cs := [.int .i64 p0.In, .int .i64 p0.Out]) Try.isAgg23 Try.sizeOf23 rfl rfl rfl (haC f49.cells rfl)) ?_
    have f50 := f13.stp (S20.tr (S30.tr (S42.tr S47))) rfl rfl
    refine WO.k0 rfl rfl rfl rfl (rn_la (cs := [.slice a1_0 p1.Next.length u1_0, .slice a1_1 p1.Out.length u1_1]) Try.isAgg26 Try.sizeOf26 rfl rfl rfl (haC f50.cells rfl)) ?_
    have f51 := f35.stp (S42.tr S47) rfl rfl
    refine WO.k0 rfl rfl rfl rfl (rn_la (cs := [.slice a3_0 p3.Stem.length u3_0, .slice a3_1 p3.Loop.length u3_1]) Try.isAgg30 Try.sizeOf30 rfl rfl rfl (haC f51.cells rfl)) ?_
    obtain ⟨x31, hx31, h⟩ := Option.bind_eq_some_iff.mp h
    refine WO.call rfl rfl rfl rfl rfl rfl Try.call11 (l_toSig_ok (κ := fun b => mp [] 0 (K41 b)) (p0 := p0) hx31) ?_
    rintro _ w52 ⟨k53, rfl, e54⟩
    obtain ⟨K55, S56, m57⟩ := Ent.mixed (l := []) (κ := K41) e54 11 rfl
    refine ⟨(S56.cl rfl), ?_⟩
    obtain ⟨x33, hx33, h⟩ := Option.bind_eq_some_iff.mp h
    have f59 := f14.stp (S20.tr (S30.tr (S42.tr (S47.tr S56)))) rfl rfl
    have f60 := f15.stp (S20.tr (S30.tr (S42.tr (S47.tr S56)))) rfl rfl
    refine WO.call rfl rfl rfl rfl rfl rfl Try.call12 (l_toMachine_ok (κ := fun b => mp [] 0 (K55 b)) (p0 := p1) (Sl.map f59 (mp [] 0) rfl rfl) (Sl.map f60 (mp [] 0) rfl rfl) hx33) ?_
    rintro _ w61 ⟨k62, a33_0, u33_0, a33_1, u33_1, rfl, e63, f64, f65⟩
    obtain ⟨K66, S67, m68⟩ := Ent.mixed (l := []) (κ := K55) e63 13 rfl
    refine ⟨((S56.tr S67).cl rfl), ?_⟩
    have f70 := f64.mx (no_own (no_int _) _) m68 rfl (rfl : 13 + 2 = 15)
    have f71 := f65.mx (no_own (no_int _) _) m68 rfl (rfl : 13 + 3 = 16)
    obtain ⟨x35, hx35, h⟩ := Option.bind_eq_some_iff.mp h
    have f72 := f25.stp (S30.tr (S42.tr (S47.tr (S56.tr S67)))) rfl rfl
    refine WO.call rfl rfl rfl rfl rfl rfl Try.call13 (l_toClauseS_ok (κ := fun b => mp [] 0 (K66 b)) (Sl.map f72 (mp [] 0) rfl rfl) hx35) ?_
    rintro _ w73 ⟨k74, a35_0, u35_0, rfl, e75, f76⟩
    obtain ⟨K77, S78, m79⟩ := Ent.mixed (l := []) (κ := K66) e75 17 rfl
    refine ⟨((S56.tr (S67.tr S78)).cl rfl), ?_⟩
    have f81 := f76.mx Clause.no99 m79 rfl (rfl : 17 + 2 = 19)
    obtain ⟨x37, hx37, h⟩ := Option.bind_eq_some_iff.mp h
    have f82 := f36.stp (S42.tr (S47.tr (S56.tr (S67.tr S78)))) rfl rfl
    have f83 := f37.stp (S42.tr (S47.tr (S56.tr (S67.tr S78)))) rfl rfl
    refine WO.call rfl rfl rfl rfl rfl rfl Try.call14 (l_toWord_ok (κ := fun b => mp [] 0 (K77 b)) (p0 := p3) (Sl.map f82 (mp [] 0) rfl rfl) (Sl.map f83 (mp [] 0) rfl rfl) hx37) ?_
    rintro _ w84 ⟨k85, a37_0, u37_0, a37_1, u37_1, rfl, e86, f87, f88⟩
    obtain ⟨K89, S90, m91⟩ := Ent.mixed (l := []) (κ := K77) e86 20 rfl
    refine ⟨((S56.tr (S67.tr (S78.tr S90))).cl rfl), ?_⟩
    have f93 := f87.mx (no_int _) m91 rfl (rfl : 20 + 2 = 22)
    have f94 := f88.mx (no_int _) m91 rfl (rfl : 20 + 3 = 23)
    obtain ⟨x38, hx38, h⟩ := Option.bind_eq_some_iff.mp h
    have f95 := f70.stp (S78.tr S90) rfl rfl
    have f96 := f71.stp (S78.tr S90) rfl rfl
    have f97 := f81.stp S90 rfl rfl
    refine WO.call rfl rfl rfl rfl rfl rfl Try.call10 (s_KeepsOn_ok (κ := fun b => mp [] 0 (K89 b)) (p0 := x31) (p1 := x33) (p3 := x37) (Sl.map f95.rdc (mp [] 0) rfl rfl) (Sl.map f96.rdc (mp [] 0) rfl rfl) (Sl.map f97.rdc (mp [] 0) rfl rfl) (Sl.map f93.rdc (mp [] 0) rfl rfl) (Sl.map f94.rdc (mp [] 0) rfl rfl) hx38) ?_
    rintro _ w98 ⟨k99, rfl, e100⟩
    obtain ⟨K101, S102, m103⟩ := Ent.mixed (l := []) (κ := K89) e100 24 rfl
    refine ⟨((S56.tr (S67.tr (S78.tr (S90.tr S102)))).cl rfl), ?_⟩
    refine WO.pn 1 rfl ?_
    refine WO.nx ?_
    refine WO.fin ?_
    refine DN.seq ?_
    refine WC.seq ?_
    refine WC.rs [(0, 1), (1, 1), (2, 1), (3, 1)] rfl ?_
    have f105 := f50.stp (S56.tr (S67.tr (S78.tr (S90.tr S102)))) rfl rfl
    refine WO.k1 trivial rfl rfl rfl rfl (rn_la (cs := [.slice a1_0 p1.Next.length u1_0, .slice a1_1 p1.Out.length u1_1]) Try.isAgg26 Try.sizeOf26 rfl rfl rfl (haE f105.cells)) ?_
    obtain ⟨x40, hx40, h⟩ := Option.bind_eq_some_iff.mp h
    have f106 := f59.stp (S67.tr (S78.tr (S90.tr S102))) rfl rfl
    have f107 := f60.stp (S67.tr (S78.tr (S90.tr S102))) rfl rfl
    refine WO.call rfl rfl rfl rfl rfl rfl Try.call12 (l_toMachine_ok (κ := fun b => mp [] 0 (K101 b)) (p0 := p1) (Sl.map f106 (mp [] 0) rfl rfl) (Sl.map f107 (mp [] 0) rfl rfl) hx40) ?_
    rintro _ w108 ⟨k109, a40_0, u40_0, a40_1, u40_1, rfl, e110, f111, f112⟩
    obtain ⟨K113, S114, m115⟩ := Ent.mixed (l := []) (κ := K101) e110 26 rfl
    refine ⟨trivial, ?_⟩
    have f117 := f111.mx (no_own (no_int _) _) m115 rfl (rfl : 26 + 2 = 28)
    have f118 := f112.mx (no_own (no_int _) _) m115 rfl (rfl : 26 + 3 = 29)
    refine WO.alloc (κ := K113) 30 rfl rfl rfl rfl rfl Try.zeroValue37 rfl fun b11 w119 K120 S121 f122 => ⟨trivial, ?_⟩
    refine WO.stB0 (κ := K120) 30 (vc := [.slice a40_0 x40.Next.length u40_0, .slice a40_1 x40.Out.length u40_1]) rfl rfl rfl rfl rfl rfl rfl Try.sizeOf37 rfl rfl f122 rfl fun w123 S124 f125 => ⟨trivial, ?_⟩
    refine WO.fin ?_
    refine DN.seq ?_
    refine WC.seq ?_
    refine WC.rs [(0, 2), (1, 1), (2, 2)] rfl ?_
    refine WO.pn 1 rfl ?_
    obtain ⟨x42, hx42, h⟩ := Option.bind_eq_some_iff.mp h
    have f126 := f72.stp (S78.tr (S90.tr (S102.tr (S114.tr (S121.tr S124))))) rfl rfl
    refine WO.call rfl rfl rfl rfl rfl rfl Try.call13 (l_toClauseS_ok (κ := fun b => mp [] 0 (K120 b)) (Sl.map f126 (mp [] 0) rfl rfl) hx42) ?_
    rintro _ w127 ⟨k128, a42_0, u42_0, rfl, e129, f130⟩
    obtain ⟨K131, S132, m133⟩ := Ent.mixed (l := []) (κ := K120) e129 31 rfl
    refine ⟨trivial, ?_⟩
    have f135 := f130.mx Clause.no99 m133 rfl (rfl : 31 + 2 = 33)
    refine WO.pn 1 rfl ?_
    refine WO.fin ?_
    refine DN.seq ?_
    refine WC.seq ?_
    refine WC.rs [(0, 1), (1, 1), (2, 1), (3, 1)] rfl ?_
    have f136 := f51.stp (S56.tr (S67.tr (S78.tr (S90.tr (S102.tr (S114.tr (S121.tr (S124.tr S132)))))))) rfl rfl
    refine WO.k1 trivial rfl rfl rfl rfl (rn_la (cs := [.slice a3_0 p3.Stem.length u3_0, .slice a3_1 p3.Loop.length u3_1]) Try.isAgg30 Try.sizeOf30 rfl rfl rfl (haE f136.cells)) ?_
    obtain ⟨x44, hx44, h⟩ := Option.bind_eq_some_iff.mp h
    have f137 := f82.stp (S90.tr (S102.tr (S114.tr (S121.tr (S124.tr S132))))) rfl rfl
    have f138 := f83.stp (S90.tr (S102.tr (S114.tr (S121.tr (S124.tr S132))))) rfl rfl
    refine WO.call rfl rfl rfl rfl rfl rfl Try.call14 (l_toWord_ok (κ := fun b => mp [] 0 (K131 b)) (p0 := p3) (Sl.map f137 (mp [] 0) rfl rfl) (Sl.map f138 (mp [] 0) rfl rfl) hx44) ?_
    rintro _ w139 ⟨k140, a44_0, u44_0, a44_1, u44_1, rfl, e141, f142, f143⟩
    obtain ⟨K144, S145, m146⟩ := Ent.mixed (l := []) (κ := K131) e141 34 rfl
    refine ⟨trivial, ?_⟩
    have f148 := f142.mx (no_int _) m146 rfl (rfl : 34 + 2 = 36)
    have f149 := f143.mx (no_int _) m146 rfl (rfl : 34 + 3 = 37)
    refine WO.alloc (κ := K144) 38 rfl rfl rfl rfl rfl Try.zeroValue41 rfl fun b13 w150 K151 S152 f153 => ⟨trivial, ?_⟩
    refine WO.stB0 (κ := K151) 38 (vc := [.slice a44_0 x44.Stem.length u44_0, .slice a44_1 x44.Loop.length u44_1]) rfl rfl rfl rfl rfl rfl rfl Try.sizeOf41 rfl rfl f153 rfl fun w154 S155 f156 => ⟨trivial, ?_⟩
    refine WO.fin ?_
    refine DN.seq ?_
    refine WC.seq ?_
    refine WC.rx (κ := K151) [2, 30, 38] none [(3, 2), (0, 0), (2, 0), (4, 0), (1, 1), (5, 1), (6, 2)] [] (by kernel_rfl) (by kernel_rfl) fun w158 S157 => ?_
    refine WO.pn 1 rfl ?_
    have f159 := f49.stp (S56.tr (S67.tr (S78.tr (S90.tr (S102.tr (S114.tr (S121.tr (S124.tr (S132.tr (S145.tr (S152.tr (S155.tr S157)))))))))))) rfl rfl
    refine WO.k0 rfl rfl rfl rfl (rn_la (cs := [.int .i64 p0.In, .int .i64 p0.Out]) Try.isAgg23 Try.sizeOf23 rfl rfl rfl (haC f159.cells rfl)) ?_
    have f160 := f125.stp (S132.tr (S145.tr (S152.tr (S155.tr S157)))) rfl rfl
    refine WO.k0 rfl rfl rfl rfl (rn_la (cs := [.slice a40_0 x40.Next.length u40_0, .slice a40_1 x40.Out.length u40_1]) Try.isAgg37 Try.sizeOf37 rfl rfl rfl (haC f160.cells rfl)) ?_
    have f161 := f156.stp S157 rfl rfl
    refine WO.k0 rfl rfl rfl rfl (rn_la (cs := [.slice a44_0 x44.Stem.length u44_0, .slice a44_1 x44.Loop.length u44_1]) Try.isAgg41 Try.sizeOf41 rfl rfl rfl (haC f161.cells rfl)) ?_
    obtain ⟨x46, hx46, h⟩ := Option.bind_eq_some_iff.mp h
    refine WO.call rfl rfl rfl rfl rfl rfl Try.call11 (l_toSig_ok (κ := fun b => mp [] 0 (K151 b)) (p0 := p0) hx46) ?_
    rintro _ w162 ⟨k163, rfl, e164⟩
    obtain ⟨K165, S166, m167⟩ := Ent.mixed (l := []) (κ := K151) e164 39 rfl
    refine ⟨(S166.cl rfl), ?_⟩
    obtain ⟨x50, hx50, h⟩ := Option.bind_eq_some_iff.mp h
    have f169 := f117.stp (S121.tr (S124.tr (S132.tr (S145.tr (S152.tr (S155.tr (S157.tr S166))))))) rfl rfl
    have f170 := f118.stp (S121.tr (S124.tr (S132.tr (S145.tr (S152.tr (S155.tr (S157.tr S166))))))) rfl rfl
    have f171 := f135.stp (S145.tr (S152.tr (S155.tr (S157.tr S166)))) rfl rfl
    have f172 := f148.stp (S152.tr (S155.tr (S157.tr S166))) rfl rfl
    have f173 := f149.stp (S152.tr (S155.tr (S157.tr S166))) rfl rfl
    refine WO.call rfl rfl rfl rfl rfl rfl Try.call15 (i_KeepsOn_ok (κ := fun b => mp [] 0 (K165 b)) (p0 := x46) (p1 := x40) (p3 := x44) (Sl.map f169.rdc (mp [] 0) rfl rfl) (Sl.map f170.rdc (mp [] 0) rfl rfl) (Sl.map f171.rdc (mp [] 0) rfl rfl) (Sl.map f172.rdc (mp [] 0) rfl rfl) (Sl.map f173.rdc (mp [] 0) rfl rfl) hx50) ?_
    rintro _ w174 ⟨k175, rfl, e176⟩
    obtain ⟨K177, S178, m179⟩ := Ent.mixed (l := []) (κ := K165) e176 41 rfl
    refine ⟨((S166.tr S178).cl rfl), ?_⟩
    refine WO.pn 1 rfl ?_
    refine WO.nx ?_
    refine WO.fin ?_
    refine DN.seq ?_
    refine WC.seq ?_
    refine WC.seq ?_
    refine WC.rs [(0, 2), (1, 2), (2, 2)] rfl ?_
    refine WO.pn 2 rfl ?_
    refine WO.k2 rfl rfl rfl rfl (rn_neqB rfl rfl Try.runUnderlying4 rfl) ?_
    refine WO.fin ?_
    refine DN.seq ?_
    revert h
    cases ht181 : (x50 != x38) with
    | true =>
     intro h; replace h := cT h
     refine WC.ct rfl ?_
     refine WC.seq ?_
     refine WC.rs [(0, 2)] rfl ?_
     refine WO.pn 1 rfl ?_
     refine WO.fin ?_
     refine DN.seq ?_
     refine WC.ret ?_
     refine DN.retThen ?_
     have f182 := hE.stp (S3.tr (S7.tr (S11.tr (S20.tr (S30.tr (S42.tr (S47.tr (S56.tr (S67.tr (S78.tr (S90.tr (S102.tr (S114.tr (S121.tr (S124.tr (S132.tr (S145.tr (S152.tr (S155.tr (S157.tr (S166.tr S178))))))))))))))))))))) rfl rfl
     refine DN.res (l := [.tmp 8]) Try.results3 (res_tmp rfl rfl) rfl ?_
     obtain rfl := Option.some.inj h
     exact ⟨K177, rfl, f182⟩
    | false =>
     intro h; replace h := cF h
     refine WC.cf rfl ?_
     refine WC.skip ?_
     refine DN.seq ?_
     refine WC.seq ?_
     refine WC.seq ?_
     refine WC.rx (κ := K177) [3, 30] none [(0, 0), (1, 0), (2, 1), (3, 1), (4, 2)] [] (by kernel_rfl) (by kernel_rfl) fun w184 S183 => ?_
     have f185 := f160.stp (S166.tr (S178.tr S183)) rfl rfl
     refine WO.k0 rfl rfl rfl rfl (rn_la (cs := [.slice a40_0 x40.Next.length u40_0, .slice a40_1 x40.Out.length u40_1]) Try.isAgg37 Try.sizeOf37 rfl rfl rfl (haC f185.cells rfl)) ?_
     have f186 := f105.stp (S114.tr (S121.tr (S124.tr (S132.tr (S145.tr (S152.tr (S155.tr (S157.tr (S166.tr (S178.tr S183)))))))))) rfl rfl
     refine WO.k0 rfl rfl rfl rfl (rn_la (cs := [.slice a1_0 p1.Next.length u1_0, .slice a1_1 p1.Out.length u1_1]) Try.isAgg26 Try.sizeOf26 rfl rfl rfl (haC f186.cells rfl)) ?_
     obtain ⟨x56, hx56, h⟩ := Option.bind_eq_some_iff.mp h
     have f187 := f106.stp (S114.tr (S121.tr (S124.tr (S132.tr (S145.tr (S152.tr (S155.tr (S157.tr (S166.tr (S178.tr S183)))))))))) rfl rfl
     have f188 := f107.stp (S114.tr (S121.tr (S124.tr (S132.tr (S145.tr (S152.tr (S155.tr (S157.tr (S166.tr (S178.tr S183)))))))))) rfl rfl
     refine WO.call rfl rfl rfl rfl rfl rfl Try.call12 (l_toMachine_ok (κ := fun b => mp [] 0 (K177 b)) (p0 := p1) (Sl.map f187 (mp [] 0) rfl rfl) (Sl.map f188 (mp [] 0) rfl rfl) hx56) ?_
     rintro _ w189 ⟨k190, a56_0, u56_0, a56_1, u56_1, rfl, e191, f192, f193⟩
     obtain ⟨K194, S195, m196⟩ := Ent.mixed (l := []) (κ := K177) e191 43 rfl
     refine ⟨(S195.cl rfl), ?_⟩
     have f198 := f192.mx (no_own (no_int _) _) m196 rfl (rfl : 43 + 2 = 45)
     have f199 := f193.mx (no_own (no_int _) _) m196 rfl (rfl : 43 + 3 = 46)
     obtain ⟨x57, hx57, h⟩ := Option.bind_eq_some_iff.mp h
     have f200 := f169.stp (S178.tr (S183.tr S195)) rfl rfl
     have f201 := f170.stp (S178.tr (S183.tr S195)) rfl rfl
     refine WO.call rfl rfl rfl rfl rfl rfl Try.call16 (l_eqMachine_ok (κ := fun b => mp [] 0 (K194 b)) (p0 := x40) (p1 := x56) (Sl.map f200.rdc (mp [] 0) rfl rfl) (Sl.map f201.rdc (mp [] 0) rfl rfl) (Sl.map f198.rdc (mp [] 0) rfl rfl) (Sl.map f199.rdc (mp [] 0) rfl rfl) hx57) ?_
     rintro _ w202 ⟨k203, rfl, e204⟩
     obtain ⟨K205, S206, m207⟩ := Ent.mixed (l := []) (κ := K194) e204 47 rfl
     refine ⟨((S195.tr S206).cl rfl), ?_⟩
     refine WO.pn 1 rfl ?_
     refine WO.nx ?_
     refine WO.fin ?_
     refine DN.seq ?_
     revert h
     cases ht209 : (!x57) with
     | true =>
      intro h; replace h := cT h
      refine WC.ct rfl ?_
      refine WC.seq ?_
      refine WC.rs [(0, 2)] rfl ?_
      refine WO.pn 1 rfl ?_
      refine WO.fin ?_
      refine DN.seq ?_
      refine WC.ret ?_
      refine DN.retThen ?_
      have f210 := hE.stp (S3.tr (S7.tr (S11.tr (S20.tr (S30.tr (S42.tr (S47.tr (S56.tr (S67.tr (S78.tr (S90.tr (S102.tr (S114.tr (S121.tr (S124.tr (S132.tr (S145.tr (S152.tr (S155.tr (S157.tr (S166.tr (S178.tr (S183.tr (S195.tr S206)))))))))))))))))))))))) rfl rfl
      refine DN.res (l := [.tmp 8]) Try.results3 (res_tmp rfl rfl) rfl ?_
      obtain rfl := Option.some.inj h
      exact ⟨K205, rfl, f210⟩
     | false =>
      intro h; replace h := cF h
      refine WC.cf rfl ?_
      refine WC.skip ?_
      refine DN.seq ?_
      refine WC.seq ?_
      refine WC.seq ?_
      refine WC.rs [(0, 2), (1, 2), (2, 1), (3, 1), (4, 2)] rfl ?_
      refine WO.pn 2 rfl ?_
      obtain ⟨x61, hx61, h⟩ := Option.bind_eq_some_iff.mp h
      have f211 := f126.stp (S132.tr (S145.tr (S152.tr (S155.tr (S157.tr (S166.tr (S178.tr (S183.tr (S195.tr S206))))))))) rfl rfl
      refine WO.call rfl rfl rfl rfl rfl rfl Try.call13 (l_toClauseS_ok (κ := fun b => mp [] 0 (K205 b)) (Sl.map f211 (mp [] 0) rfl rfl) hx61) ?_
      rintro _ w212 ⟨k213, a61_0, u61_0, rfl, e214, f215⟩
      obtain ⟨K216, S217, m218⟩ := Ent.mixed (l := []) (κ := K205) e214 49 rfl
      refine ⟨trivial, ?_⟩
      have f220 := f215.mx Clause.no99 m218 rfl (rfl : 49 + 2 = 51)
      obtain ⟨x62, hx62, h⟩ := Option.bind_eq_some_iff.mp h
      have f221 := f171.stp (S178.tr (S183.tr (S195.tr (S206.tr S217)))) rfl rfl
      refine WO.call rfl rfl rfl rfl rfl rfl Try.call17 (l_eqClauseS_ok (κ := fun b => mp [] 0 (K216 b)) (Sl.map f221.rdc (mp [] 0) rfl rfl) (Sl.map f220.rdc (mp [] 0) rfl rfl) hx62) ?_
      rintro _ w222 ⟨k223, rfl, e224⟩
      obtain ⟨K225, S226, m227⟩ := Ent.mixed (l := []) (κ := K216) e224 52 rfl
      refine ⟨trivial, ?_⟩
      refine WO.pn 1 rfl ?_
      refine WO.fin ?_
      refine DN.seq ?_
      revert h
      cases ht229 : (!x62) with
      | true =>
       intro h; replace h := cT h
       refine WC.ct rfl ?_
       refine WC.seq ?_
       refine WC.rs [(0, 2)] rfl ?_
       refine WO.pn 1 rfl ?_
       refine WO.fin ?_
       refine DN.seq ?_
       refine WC.ret ?_
       refine DN.retThen ?_
       have f230 := hE.stp (S3.tr (S7.tr (S11.tr (S20.tr (S30.tr (S42.tr (S47.tr (S56.tr (S67.tr (S78.tr (S90.tr (S102.tr (S114.tr (S121.tr (S124.tr (S132.tr (S145.tr (S152.tr (S155.tr (S157.tr (S166.tr (S178.tr (S183.tr (S195.tr (S206.tr (S217.tr S226)))))))))))))))))))))))))) rfl rfl
       refine DN.res (l := [.tmp 8]) Try.results3 (res_tmp rfl rfl) rfl ?_
       obtain rfl := Option.some.inj h
       exact ⟨K225, rfl, f230⟩
      | false =>
       intro h; replace h := cF h
       refine WC.cf rfl ?_
       refine WC.skip ?_
       refine DN.seq ?_
       refine WC.seq ?_
       refine WC.seq ?_
       refine WC.rx (κ := K225) [4, 38] none [(0, 0), (1, 0), (2, 1), (3, 1), (4, 2)] [] (by kernel_rfl) (by kernel_rfl) fun w232 S231 => ?_
       have f233 := f161.stp (S166.tr (S178.tr (S183.tr (S195.tr (S206.tr (S217.tr (S226.tr S231))))))) rfl rfl
       refine WO.k0 rfl rfl rfl rfl (rn_la (cs := [.slice a44_0 x44.Stem.length u44_0, .slice a44_1 x44.Loop.length u44_1]) Try.isAgg41 Try.sizeOf41 rfl rfl rfl (haC f233.cells rfl)) ?_
       have f234 := f136.stp (S145.tr (S152.tr (S155.tr (S157.tr (S166.tr (S178.tr (S183.tr (S195.tr (S206.tr (S217.tr (S226.tr S231))))))))))) rfl rfl
       refine WO.k0 rfl rfl rfl rfl (rn_la (cs := [.slice a3_0 p3.Stem.length u3_0, .slice a3_1 p3.Loop.length u3_1]) Try.isAgg30 Try.sizeOf30 rfl rfl rfl (haC f234.cells rfl)) ?_
       obtain ⟨x66, hx66, h⟩ := Option.bind_eq_some_iff.mp h
       have f235 := f137.stp (S145.tr (S152.tr (S155.tr (S157.tr (S166.tr (S178.tr (S183.tr (S195.tr (S206.tr (S217.tr (S226.tr S231))))))))))) rfl rfl
       have f236 := f138.stp (S145.tr (S152.tr (S155.tr (S157.tr (S166.tr (S178.tr (S183.tr (S195.tr (S206.tr (S217.tr (S226.tr S231))))))))))) rfl rfl
       refine WO.call rfl rfl rfl rfl rfl rfl Try.call14 (l_toWord_ok (κ := fun b => mp [] 0 (K225 b)) (p0 := p3) (Sl.map f235 (mp [] 0) rfl rfl) (Sl.map f236 (mp [] 0) rfl rfl) hx66) ?_
       rintro _ w237 ⟨k238, a66_0, u66_0, a66_1, u66_1, rfl, e239, f240, f241⟩
       obtain ⟨K242, S243, m244⟩ := Ent.mixed (l := []) (κ := K225) e239 54 rfl
       refine ⟨(S243.cl rfl), ?_⟩
       have f246 := f240.mx (no_int _) m244 rfl (rfl : 54 + 2 = 56)
       have f247 := f241.mx (no_int _) m244 rfl (rfl : 54 + 3 = 57)
       obtain ⟨x67, hx67, h⟩ := Option.bind_eq_some_iff.mp h
       have f248 := f172.stp (S178.tr (S183.tr (S195.tr (S206.tr (S217.tr (S226.tr (S231.tr S243))))))) rfl rfl
       have f249 := f173.stp (S178.tr (S183.tr (S195.tr (S206.tr (S217.tr (S226.tr (S231.tr S243))))))) rfl rfl
       refine WO.call rfl rfl rfl rfl rfl rfl Try.call18 (l_eqWord_ok (κ := fun b => mp [] 0 (K242 b)) (p0 := x44) (p1 := x66) (Sl.map f248.rdc (mp [] 0) rfl rfl) (Sl.map f249.rdc (mp [] 0) rfl rfl) (Sl.map f246.rdc (mp [] 0) rfl rfl) (Sl.map f247.rdc (mp [] 0) rfl rfl) hx67) ?_
       rintro _ w250 ⟨k251, rfl, e252⟩
       obtain ⟨K253, S254, m255⟩ := Ent.mixed (l := []) (κ := K242) e252 58 rfl
       refine ⟨((S243.tr S254).cl rfl), ?_⟩
       refine WO.pn 1 rfl ?_
       refine WO.nx ?_
       refine WO.fin ?_
       refine DN.seq ?_
       revert h
       cases ht257 : (!x67) with
       | true =>
        intro h; replace h := cT h
        refine WC.ct rfl ?_
        refine WC.seq ?_
        refine WC.rs [(0, 2)] rfl ?_
        refine WO.pn 1 rfl ?_
        refine WO.fin ?_
        refine DN.seq ?_
        refine WC.ret ?_
        refine DN.retThen ?_
        have f258 := hE.stp (S3.tr (S7.tr (S11.tr (S20.tr (S30.tr (S42.tr (S47.tr (S56.tr (S67.tr (S78.tr (S90.tr (S102.tr (S114.tr (S121.tr (S124.tr (S132.tr (S145.tr (S152.tr (S155.tr (S157.tr (S166.tr (S178.tr (S183.tr (S195.tr (S206.tr (S217.tr (S226.tr (S231.tr (S243.tr S254))))))))))))))))))))))))))))) rfl rfl
        refine DN.res (l := [.tmp 8]) Try.results3 (res_tmp rfl rfl) rfl ?_
        obtain rfl := Option.some.inj h
        exact ⟨K253, rfl, f258⟩
       | false =>
        intro h; replace h := cF h
        refine WC.cf rfl ?_
        refine WC.skip ?_
        refine DN.seq ?_
        refine WC.seq ?_
        refine WC.rs [(0, 2)] rfl ?_
        refine WO.pn 1 rfl ?_
        refine WO.fin ?_
        refine DN.seq ?_
        refine WC.ret ?_
        have f259 := hE.stp (S3.tr (S7.tr (S11.tr (S20.tr (S30.tr (S42.tr (S47.tr (S56.tr (S67.tr (S78.tr (S90.tr (S102.tr (S114.tr (S121.tr (S124.tr (S132.tr (S145.tr (S152.tr (S155.tr (S157.tr (S166.tr (S178.tr (S183.tr (S195.tr (S206.tr (S217.tr (S226.tr (S231.tr (S243.tr S254))))))))))))))))))))))))))))) rfl rfl
        refine DN.res (l := [.tmp 8]) Try.results3 (res_tmp rfl rfl) rfl ?_
        obtain rfl := Option.some.inj h
        exact ⟨K253, rfl, f259⟩

end Go.Proofs.Ytnmjfjppgpkieaa
