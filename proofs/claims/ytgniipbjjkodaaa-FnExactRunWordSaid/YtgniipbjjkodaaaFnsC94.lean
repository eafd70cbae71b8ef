/- The walks, part 4. By program. -/
import Derived.Test.YtgniipbjjkodaaaFnsC93
set_option linter.unusedVariables false
set_option linter.unusedSimpArgs false
namespace Go.Proofs.Ytgniipbjjkodaaa
open Go Go.Wk Go.Proofs
set_option maxRecDepth 100000
set_option maxHeartbeats 1000000

/- loop.example/g00869/laws.FnExactRunWord -/
theorem l_FnExactRunWord_ok {w : World} {κ : Col} {p0 : Sig} {a1_0 : Option Addr} {u1_0 : Nat} {a1_1 : Option Addr} {u1_1 : Nat} {p1 : Machine} {a2_0 : Option Addr} {u2_0 : Nat} {a2_1 : Option Addr} {u2_1 : Nat} {p2 : Word} (g1_0 : Rd (Rp.sl (Rp.int .i64)) κ w 0 a1_0 u1_0 p1.Next) (g1_1 : Rd (Rp.sl (Rp.int .i64)) κ w 0 a1_1 u1_1 p1.Out) (g2_0 : Rd (Rp.int .i64) κ w 0 a2_0 u2_0 p2.Stem) (g2_1 : Rd (Rp.int .i64) κ w 0 a2_1 u2_1 p2.Loop) {r : Bool} (h : l_FnExactRunWord p0 p1 p2 = some r) : Ret Try.prog 9 [.agg #[.int .i64 p0.In, .int .i64 p0.Out], .agg #[.slice a1_0 p1.Next.length u1_0, .slice a1_1 p1.Out.length u1_1], .agg #[.slice a2_0 p2.Stem.length u2_0, .slice a2_1 p2.Loop.length u2_1]] w (fun v w' => ∃ (κ' : Col), v = .bool r ∧ Ent κ w κ' w') := by
 unfold l_FnExactRunWord at h
 refine Ret.enter Try.func9 rfl Try.ntmps9 rfl ?_
 dsimp only [envOf]
 have hE := Ent.refl κ w
 refine WC.seq ?_
 refine WC.rs [(0, 1), (1, 1), (2, 1), (3, 2)] rfl ?_
 refine WO.box (κ := κ) 2 rfl rfl rfl rfl rfl rfl rfl fun b3 w1 K2 S3 f4 => ⟨trivial, ?_⟩
 refine WO.box (κ := K2) 3 rfl rfl rfl rfl rfl rfl rfl fun b4 w5 K6 S7 f8 => ⟨trivial, ?_⟩
 refine WO.box (κ := K6) 4 rfl rfl rfl rfl rfl rfl rfl fun b5 w9 K10 S11 f12 => ⟨trivial, ?_⟩
 refine WO.pn 1 rfl ?_
 refine WO.fin ?_
 refine DN.seq ?_
 refine WC.seq ?_
 refine WC.rs [(0, 2)] rfl ?_
 refine WO.pn 1 rfl ?_
 refine WO.fin ?_
 refine DN.seq ?_
 refine WC.seq ?_
 refine WC.rs [(0, 1), (1, 2), (2, 1), (3, 2)] rfl ?_
 have f13 := f8.stp S11 rfl rfl
 refine WO.k1 trivial rfl rfl rfl rfl (rn_la (cs := [.slice a1_0 p1.Next.length u1_0, .slice a1_1 p1.Out.length u1_1]) Try.isAgg77 Try.sizeOf77 rfl rfl rfl (haE f13.cells)) ?_
 refine WO.pn 1 rfl ?_
 obtain ⟨x18, hx18, h⟩ := Option.bind_eq_some_iff.mp h
 have f14 := g1_0.stp (S3.tr (S7.tr S11)) rfl rfl
 have f15 := g1_1.stp (S3.tr (S7.tr S11)) rfl rfl
 refine WO.call rfl rfl rfl rfl rfl rfl Try.call45 (l_szMachine_ok (κ := fun b => mp [] 0 (K10 b)) (p0 := p1) (Sl.map f14 (mp [] 0) rfl rfl) (Sl.map f15 (mp [] 0) rfl rfl) hx18) ?_
 rintro _ w16 ⟨k17, rfl, e18⟩
 obtain ⟨K19, S20, m21⟩ := Ent.mixed (l := []) (κ := K10) e18 5 rfl
 refine ⟨trivial, ?_⟩
 refine WO.pn 1 rfl ?_
 refine WO.fin ?_
 refine DN.seq ?_
 refine WC.seq ?_
 refine WC.seq ?_
 refine WC.rs [(0, 2), (1, 2)] rfl ?_
 refine WO.pn 2 rfl ?_
 refine WO.fin ?_
 refine DN.seq ?_
 revert h
 cases ht23 : decide (x18 < 0) with
 | true =>
  intro h; replace h := cT h
  refine WC.ct rfl ?_
  refine WC.seq ?_
  refine WC.rs [(0, 2)] rfl ?_
  refine WO.pn 1 rfl ?_
  refine WO.fin ?_
  refine DN.seq ?_
  refine WC.ret ?_
  refine DN.retThen ?_
  have f24 := hE.stp (S3.tr (S7.tr (S11.tr S20))) rfl rfl
  refine DN.res (l := [.tmp 6]) Try.results9 (res_tmp rfl rfl) rfl ?_
  obtain rfl := Option.some.inj h
  exact ⟨K19, rfl, f24⟩
 | false =>
  intro h; replace h := cF h
  refine WC.cf rfl ?_
  refine WC.skip ?_
  refine DN.seq ?_
  refine WC.seq ?_
  refine WC.rs [(0, 1), (1, 2), (2, 1), (3, 2)] rfl ?_
  have f25 := f12.stp S20 rfl rfl
  refine WO.k1 trivial rfl rfl rfl rfl (rn_la (cs := [.slice a2_0 p2.Stem.length u2_0, .slice a2_1 p2.Loop.length u2_1]) Try.isAgg79 Try.sizeOf79 rfl rfl rfl (haE f25.cells)) ?_
  refine WO.pn 1 rfl ?_
  obtain ⟨x23, hx23, h⟩ := Option.bind_eq_some_iff.mp h
  have f26 := g2_0.stp (S3.tr (S7.tr (S11.tr S20))) rfl rfl
  have f27 := g2_1.stp (S3.tr (S7.tr (S11.tr S20))) rfl rfl
  refine WO.call rfl rfl rfl rfl rfl rfl Try.call46 (l_szWord_ok (κ := fun b => mp [] 0 (K19 b)) (p0 := p2) (Sl.map f26 (mp [] 0) rfl rfl) (Sl.map f27 (mp [] 0) rfl rfl) hx23) ?_
  rintro _ w28 ⟨k29, rfl, e30⟩
  obtain ⟨K31, S32, m33⟩ := Ent.mixed (l := []) (κ := K19) e30 7 rfl
  refine ⟨trivial, ?_⟩
  refine WO.pn 1 rfl ?_
  refine WO.fin ?_
  refine DN.seq ?_
  refine WC.seq ?_
  refine WC.seq ?_
  refine WC.rs [(0, 2), (1, 2)] rfl ?_
  refine WO.pn 2 rfl ?_
  refine WO.fin ?_
  refine DN.seq ?_
  revert h
  cases ht35 : decide (x23 < 0) with
  | true =>
   intro h; replace h := cT h
   refine WC.ct rfl ?_
   refine WC.seq ?_
   refine WC.rs [(0, 2)] rfl ?_
   refine WO.pn 1 rfl ?_
   refine WO.fin ?_
   refine DN.seq ?_
   refine WC.ret ?_
   refine DN.retThen ?_
   have f36 := hE.stp (S3.tr (S7.tr (S11.tr (S20.tr S32)))) rfl rfl
   refine DN.res (l := [.tmp 6]) Try.results9 (res_tmp rfl rfl) rfl ?_
   obtain rfl := Option.some.inj h
   exact ⟨K31, rfl, f36⟩
  | false =>
   intro h; replace h := cF h
   refine WC.cf rfl ?_
   refine WC.skip ?_
   refine DN.seq ?_
   refine WC.seq ?_
   obtain ⟨x27, hx27, h⟩ := Option.bind_eq_some_iff.mp h
   obtain ⟨x29, hx29, h⟩ := Option.bind_eq_some_iff.mp h
   obtain ⟨x31, hx31, h⟩ := Option.bind_eq_some_iff.mp h
   obtain ⟨x32, hx32, h⟩ := Option.bind_eq_some_iff.mp h
   refine WC.meet (fun L w' => ∃ (κ' : Col) (b8 : Nat) (lar40_0 : Option Addr) (lur40_0 : Nat) (lar40_1 : Option Addr) (lur40_1 : Nat), L = [(3, .pointer (some ⟨b3, 0, none⟩)), (4, .pointer (some ⟨b4, 0, none⟩)), (5, .pointer (some ⟨b5, 0, none⟩)), (8, .pointer (some ⟨b8, 0, none⟩))] ∧ Stp [9, 11, 15, 19, 21, 22, 23] K31 w28 κ' w' ∧ Oc (Ep.int .i64) 2 κ' w' 9 lar40_0 lur40_0 x32.Stem ∧ Oc (Ep.int .i64) 2 κ' w' 10 lar40_1 lur40_1 x32.Loop ∧ Bc κ' w' 11 b8 82 [.slice lar40_0 x32.Stem.length lur40_0, .slice lar40_1 x32.Loop.length lur40_1]) ?_ ?_
   ·
    refine WC.rxt (κ := K31) 8 none (by kernel_rfl) fun w44 S45 => ?_
    refine WA.seg (fuel := 6) [(0, 0), (2, 0), (4, 0)] (by kernel_rfl) (by kernel_rfl) rfl ?_
    have f46 := f4.stp (S7.tr (S11.tr (S20.tr (S32.tr S45)))) rfl rfl
    refine WO.k0 rfl rfl rfl rfl (rn_la (cs := [.int .i64 p0.In, .int .i64 p0.Out]) Try.isAgg23 Try.sizeOf23 rfl rfl rfl (haC f46.cells rfl)) ?_
    have f47 := f13.stp (S20.tr (S32.tr S45)) rfl rfl
    refine WO.k0 rfl rfl rfl rfl (rn_la (cs := [.slice a1_0 p1.Next.length u1_0, .slice a1_1 p1.Out.length u1_1]) Try.isAgg77 Try.sizeOf77 rfl rfl rfl (haC f47.cells rfl)) ?_
    have f48 := f25.stp (S32.tr S45) rfl rfl
    refine WO.k0 rfl rfl rfl rfl (rn_la (cs := [.slice a2_0 p2.Stem.length u2_0, .slice a2_1 p2.Loop.length u2_1]) Try.isAgg79 Try.sizeOf79 rfl rfl rfl (haC f48.cells rfl)) ?_
    refine WO.wa ?_
    refine WA.fork2 (fuel := 5) 1 7 (by kernel_rfl) rfl ?_ ?_
    ·
     refine WO.call rfl rfl rfl rfl rfl rfl Try.call17 (l_toSig_ok (κ := fun b => mp [] 0 (K31 b)) (p0 := p0) hx27) ?_
     rintro _ w49 ⟨k50, rfl, e51⟩
     obtain ⟨K52, S53, m54⟩ := Ent.mixed (l := []) (κ := K31) e51 9 rfl
     refine ⟨(S53.cl rfl), ?_⟩
     refine WO.wa ?_
     refine WA.fork2 (fuel := 4) 3 7 (by kernel_rfl) rfl ?_ ?_
     ·
      have f56 := f14.stp (S20.tr (S32.tr (S45.tr S53))) rfl rfl
      have f57 := f15.stp (S20.tr (S32.tr (S45.tr S53))) rfl rfl
      refine WO.call rfl rfl rfl rfl rfl rfl Try.call48 (l_toMachine_ok (κ := fun b => mp [] 0 (K52 b)) (p0 := p1) (Sl.map f56 (mp [] 0) rfl rfl) (Sl.map f57 (mp [] 0) rfl rfl) hx29) ?_
      rintro _ w58 ⟨k59, a29_0, u29_0, a29_1, u29_1, rfl, e60, f61, f62⟩
      obtain ⟨K63, S64, m65⟩ := Ent.mixed (l := []) (κ := K52) e60 11 rfl
      refine ⟨((S53.tr S64).cl rfl), ?_⟩
      have f67 := f61.mx (no_own (no_int _) _) m65 rfl (rfl : 11 + 2 = 13)
      have f68 := f62.mx (no_own (no_int _) _) m65 rfl (rfl : 11 + 3 = 14)
      refine WO.wa ?_
      refine WA.fork2 (fuel := 3) 5 7 (by kernel_rfl) rfl ?_ ?_
      ·
       have f69 := f26.stp (S32.tr (S45.tr (S53.tr S64))) rfl rfl
       have f70 := f27.stp (S32.tr (S45.tr (S53.tr S64))) rfl rfl
       refine WO.call rfl rfl rfl rfl rfl rfl Try.call49 (l_toWord_ok (κ := fun b => mp [] 0 (K63 b)) (p0 := p2) (Sl.map f69 (mp [] 0) rfl rfl) (Sl.map f70 (mp [] 0) rfl rfl) hx31) ?_
       rintro _ w71 ⟨k72, a31_0, u31_0, a31_1, u31_1, rfl, e73, f74, f75⟩
       obtain ⟨K76, S77, m78⟩ := Ent.mixed (l := []) (κ := K63) e73 15 rfl
       refine ⟨((S53.tr (S64.tr S77)).cl rfl), ?_⟩
       have f80 := f74.mx (no_int _) m78 rfl (rfl : 15 + 2 = 17)
       have f81 := f75.mx (no_int _) m78 rfl (rfl : 15 + 3 = 18)
       refine WO.wa ?_
       refine WA.fork2 (fuel := 2) 6 7 (by kernel_rfl) rfl ?_ ?_
       ·
        have f82 := f67.stp S77 rfl rfl
        have f83 := f68.stp S77 rfl rfl
        refine WO.call rfl rfl rfl rfl rfl rfl Try.call47 (s_RunWord_ok (κ := fun b => mp [] 0 (K76 b)) (p0 := x27) (p1 := x29) (p2 := x31) (Sl.map f82.rdc (mp [] 0) rfl rfl) (Sl.map f83.rdc (mp [] 0) rfl rfl) (Sl.map f80.rdc (mp [] 0) rfl rfl) (Sl.map f81.rdc (mp [] 0) rfl rfl) hx32) ?_
        rintro _ w84 ⟨k85, a32_0, u32_0, a32_1, u32_1, rfl, e86, f87, f88⟩
        obtain ⟨K89, S90, m91⟩ := Ent.mixed (l := []) (κ := K76) e86 19 rfl
        refine ⟨((S53.tr (S64.tr (S77.tr S90))).cl rfl), ?_⟩
        have f93 := f87.mx (no_int _) m91 rfl (rfl : 19 + 2 = 21)
        have f94 := f88.mx (no_int _) m91 rfl (rfl : 19 + 3 = 22)
        refine WO.wa ?_
        refine WA.seg (fuel := 0) [(7, 1), (8, 1)] (by kernel_rfl) (by kernel_rfl) rfl ?_
        refine WO.alloc (κ := K89) 23 rfl rfl rfl rfl rfl Try.zeroValue82 rfl fun b8 w95 K96 S97 f98 => ⟨((S53.tr (S64.tr (S77.tr (S90.tr S97)))).cl rfl), ?_⟩
        refine WO.stB0 (κ := K96) 23 (vc := [.slice a32_0 x32.Stem.length u32_0, .slice a32_1 x32.Loop.length u32_1]) rfl rfl rfl rfl rfl rfl rfl Try.sizeOf82 rfl rfl f98 rfl fun w99 S100 f101 => ⟨((S53.tr (S64.tr (S77.tr (S90.tr (S97.tr S100))))).cl rfl), ?_⟩
        refine WO.wa ?_
        refine WA.last [] (by kernel_rfl) (by kernel_rfl) rfl ?_
        refine WO.fin ?_
        have f102 := f93.stp (S97.tr S100) rfl rfl
        have f103 := f94.stp (S97.tr S100) rfl rfl
        exact DN.meet _ ⟨(fun b => ren [(21, 9), (22, 10), (23, 11)] (K96 b)), b8, a32_0, u32_0, a32_1, u32_1, rfl, (Stp.ren ((S45.tr (S53.tr (S64.tr (S77.tr (S90.tr (S97.tr S100)))))).wk rfl) [(21, 9), (22, 10), (23, 11)] rfl), (f102.map (ren [(21, 9), (22, 10), (23, 11)]) rfl rfl), (f103.map (ren [(21, 9), (22, 10), (23, 11)]) rfl rfl), (f101.map (ren [(21, 9), (22, 10), (23, 11)]) rfl rfl)⟩ fun a ha => (ha.more (ha.more (ha.more (ha.more ha.nil rfl) rfl) rfl) rfl)
       ·
        refine WO.alloc (κ := K76) 19 rfl rfl rfl rfl rfl Try.zeroValue82 rfl fun b8 w104 K105 S106 f107 => ⟨((S53.tr (S64.tr (S77.tr S106))).cl rfl), ?_⟩
        refine WO.wa ?_
        refine WA.seg (fuel := 0) [(6, 1), (8, 1)] (by kernel_rfl) (by kernel_rfl) rfl ?_
        have f108 := f67.stp (S77.tr S106) rfl rfl
        have f109 := f68.stp (S77.tr S106) rfl rfl
        have f110 := f80.stp S106 rfl rfl
        have f111 := f81.stp S106 rfl rfl
        refine WO.call rfl rfl rfl rfl rfl rfl Try.call47 (s_RunWord_ok (κ := fun b => mp [] 0 (K105 b)) (p0 := x27) (p1 := x29) (p2 := x31) (Sl.map f108.rdc (mp [] 0) rfl rfl) (Sl.map f109.rdc (mp [] 0) rfl rfl) (Sl.map f110.rdc (mp [] 0) rfl rfl) (Sl.map f111.rdc (mp [] 0) rfl rfl) hx32) ?_
        rintro _ w112 ⟨k113, a32_0, u32_0, a32_1, u32_1, rfl, e114, f115, f116⟩
        obtain ⟨K117, S118, m119⟩ := Ent.mixed (l := []) (κ := K105) e114 20 rfl
        refine ⟨((S53.tr (S64.tr (S77.tr (S106.tr S118)))).cl rfl), ?_⟩
        have f121 := f115.mx (no_int _) m119 rfl (rfl : 20 + 2 = 22)
        have f122 := f116.mx (no_int _) m119 rfl (rfl : 20 + 3 = 23)
        have f123 := f107.stp S118 rfl rfl
        refine WO.stB0 (κ := K117) 19 (vc := [.slice a32_0 x32.Stem.length u32_0, .slice a32_1 x32.Loop.length u32_1]) rfl rfl rfl rfl rfl rfl rfl Try.sizeOf82 rfl rfl f123 rfl fun w124 S125 f126 => ⟨((S53.tr (S64.tr (S77.tr (S106.tr (S118.tr S125))))).cl rfl), ?_⟩
        refine WO.wa ?_
        refine WA.last [] (by kernel_rfl) (by kernel_rfl) rfl ?_
        refine WO.fin ?_
        have f127 := f121.stp S125 rfl rfl
        have f128 := f122.stp S125 rfl rfl
        exact DN.meet _ ⟨(fun b => ren [(22, 9), (23, 10), (19, 11)] (K117 b)), b8, a32_0, u32_0, a32_1, u32_1, rfl, (Stp.ren ((S45.tr (S53.tr (S64.tr (S77.tr (S106.tr (S118.tr S125)))))).wk rfl) [(22, 9), (23, 10), (19, 11)] rfl), (f127.map (ren [(22, 9), (23, 10), (19, 11)]) rfl rfl), (f128.map (ren [(22, 9), (23, 10), (19, 11)]) rfl rfl), (f126.map (ren [(22, 9), (23, 10), (19, 11)]) rfl rfl)⟩ fun a ha => (ha.more (ha.more (ha.more (ha.more ha.nil rfl) rfl) rfl) rfl)
      ·
       refine WO.alloc (κ := K63) 15 rfl rfl rfl rfl rfl Try.zeroValue82 rfl fun b8 w129 K130 S131 f132 => ⟨((S53.tr (S64.tr S131)).cl rfl), ?_⟩
       refine WO.wa ?_
       refine WA.seg (fuel := 0) [(5, 1), (6, 1), (8, 1)] (by kernel_rfl) (by kernel_rfl) rfl ?_
       have f133 := f26.stp (S32.tr (S45.tr (S53.tr (S64.tr S131)))) rfl rfl
       have f134 := f27.stp (S32.tr (S45.tr (S53.tr (S64.tr S131)))) rfl rfl
       refine WO.call rfl rfl rfl rfl rfl rfl Try.call49 (l_toWord_ok (κ := fun b => mp [] 0 (K130 b)) (p0 := p2) (Sl.map f133 (mp [] 0) rfl rfl) (Sl.map f134 (mp [] 0) rfl rfl) hx31) ?_
       rintro _ w135 ⟨k136, a31_0, u31_0, a31_1, u31_1, rfl, e137, f138, f139⟩
       obtain ⟨K140, S141, m142⟩ := Ent.mixed (l := []) (κ := K130) e137 16 rfl
       refine ⟨((S53.tr (S64.tr (S131.tr S141))).cl rfl), ?_⟩
       have f144 := f138.mx (no_int _) m142 rfl (rfl : 16 + 2 = 18)
       have f145 := f139.mx (no_int _) m142 rfl (rfl : 16 + 3 = 19)
       have f146 := f67.stp (S131.tr S141) rfl rfl
       have f147 := f68.stp (S131.tr S141) rfl rfl
       refine WO.call rfl rfl rfl rfl rfl rfl Try.call47 (s_RunWord_ok (κ := fun b => mp [] 0 (K140 b)) (p0 := x27) (p1 := x29) (p2 := x31) (Sl.map f146.rdc (mp [] 0) rfl rfl) (Sl.map f147.rdc (mp [] 0) rfl rfl) (Sl.map f144.rdc (mp [] 0) rfl rfl) (Sl.map f145.rdc (mp [] 0) rfl rfl) hx32) ?_
       rintro _ w148 ⟨k149, a32_0, u32_0, a32_1, u32_1, rfl, e150, f151, f152⟩
       obtain ⟨K153, S154, m155⟩ := Ent.mixed (l := []) (κ := K140) e150 20 rfl
       refine ⟨((S53.tr (S64.tr (S131.tr (S141.tr S154)))).cl rfl), ?_⟩
       have f157 := f151.mx (no_int _) m155 rfl (rfl : 20 + 2 = 22)
       have f158 := f152.mx (no_int _) m155 rfl (rfl : 20 + 3 = 23)
       have f159 := f132.stp (S141.tr S154) rfl rfl
       refine WO.stB0 (κ := K153) 15 (vc := [.slice a32_0 x32.Stem.length u32_0, .slice a32_1 x32.Loop.length u32_1]) rfl rfl rfl rfl rfl rfl rfl Try.sizeOf82 rfl rfl f159 rfl fun w160 S161 f162 => ⟨((S53.tr (S64.tr (S131.tr (S141.tr (S154.tr S161))))).cl rfl), ?_⟩
       refine WO.wa ?_
       refine WA.last [] (by kernel_rfl) (by kernel_rfl) rfl ?_
       refine WO.fin ?_
       have f163 := f157.stp S161 rfl rfl
       have f164 := f158.stp S161 rfl rfl
       exact DN.meet _ ⟨(fun b => ren [(22, 9), (23, 10), (15, 11)] (K153 b)), b8, a32_0, u32_0, a32_1, u32_1, rfl, (Stp.ren ((S45.tr (S53.tr (S64.tr (S131.tr (S141.tr (S154.tr S161)))))).wk rfl) [(22, 9), (23, 10), (15, 11)] rfl), (f163.map (ren [(22, 9), (23, 10), (15, 11)]) rfl rfl), (f164.map (ren [(22, 9), (23, 10), (15, 11)]) rfl rfl), (f162.map (ren [(22, 9), (23, 10), (15, 11)]) rfl rfl)⟩ fun a ha => (ha.more (ha.more (ha.more (ha.more ha.nil rfl) rfl) rfl) rfl)
     ·
      refine WO.alloc (κ := K52) 11 rfl rfl rfl rfl rfl Try.zeroValue82 rfl fun b8 w165 K166 S167 f168 => ⟨((S53.tr S167).cl rfl), ?_⟩
      refine WO.wa ?_
      refine WA.seg (fuel := 0) [(3, 1), (5, 1), (6, 1), (8, 1)] (by kernel_rfl) (by kernel_rfl) rfl ?_
      have f169 := f14.stp (S20.tr (S32.tr (S45.tr (S53.tr S167)))) rfl rfl
      have f170 := f15.stp (S20.tr (S32.tr (S45.tr (S53.tr S167)))) rfl rfl
      refine WO.call rfl rfl rfl rfl rfl rfl Try.call48 (l_toMachine_ok (κ := fun b => mp [] 0 (K166 b)) (p0 := p1) (Sl.map f169 (mp [] 0) rfl rfl) (Sl.map f170 (mp [] 0) rfl rfl) hx29) ?_
      rintro _ w171 ⟨k172, a29_0, u29_0, a29_1, u29_1, rfl, e173, f174, f175⟩
      obtain ⟨K176, S177, m178⟩ := Ent.mixed (l := []) (κ := K166) e173 12 rfl
      refine ⟨((S53.tr (S167.tr S177)).cl rfl), ?_⟩
      have f180 := f174.mx (no_own (no_int _) _) m178 rfl (rfl : 12 + 2 = 14)
      have f181 := f175.mx (no_own (no_int _) _) m178 rfl (rfl : 12 + 3 = 15)
      have f182 := f26.stp (S32.tr (S45.tr (S53.tr (S167.tr S177)))) rfl rfl
      have f183 := f27.stp (S32.tr (S45.tr (S53.tr (S167.tr S177)))) rfl rfl
      refine WO.call rfl rfl rfl rfl rfl rfl Try.call49 (l_toWord_ok (κ := fun b => mp [] 0 (K176 b)) (p0 := p2) (Sl.map f182 (mp [] 0) rfl rfl) (Sl.map f183 (mp [] 0) rfl rfl) hx31) ?_
      rintro _ w184 ⟨k185, a31_0, u31_0, a31_1, u31_1, rfl, e186, f187, f188⟩
      obtain ⟨K189, S190, m191⟩ := Ent.mixed (l := []) (κ := K176) e186 16 rfl
      refine ⟨((S53.tr (S167.tr (S177.tr S190))).cl rfl), ?_⟩
      have f193 := f187.mx (no_int _) m191 rfl (rfl : 16 + 2 = 18)
      have f194 := f188.mx (no_int _) m191 rfl (rfl : 16 + 3 = 19)
      have f195 := f180.stp S190 rfl rfl
      have f196 := f181.stp S190 rfl rfl
      refine WO.call rfl rfl rfl rfl rfl rfl Try.call47 (s_RunWord_ok (κ := fun b => mp [] 0 (K189 b)) (p0 := x27) (p1 := x29) (p2 := x31) (Sl.map f195.rdc (mp [] 0) rfl rfl) (Sl.map f196.rdc (mp [] 0) rfl rfl) (Sl.map f193.rdc (mp [] 0) rfl rfl) (Sl.map f194.rdc (mp [] 0) rfl rfl) hx32) ?_
      rintro _ w197 ⟨k198, a32_0, u32_0, a32_1, u32_1, rfl, e199, f200, f201⟩
      obtain ⟨K202, S203, m204⟩ := Ent.mixed (l := []) (κ := K189) e199 20 rfl
      refine ⟨((S53.tr (S167.tr (S177.tr (S190.tr S203)))).cl rfl), ?_⟩
      have f206 := f200.mx (no_int _) m204 rfl (rfl : 20 + 2 = 22)
      have f207 := f201.mx (no_int _) m204 rfl (rfl : 20 + 3 = 23)
      have f208 := f168.stp (S177.tr (S190.tr S203)) rfl rfl
      refine WO.stB0 (κ := K202) 11 (vc := [.slice a32_0 x32.Stem.length u32_0, .slice a32_1 x32.Loop.length u32_1]) rfl rfl rfl rfl rfl rfl rfl Try.sizeOf82 rfl rfl f208 rfl fun w209 S210 f211 => ⟨((S53.tr (S167.tr (S177.tr (S190.tr (S203.tr S210))))).cl rfl), ?_⟩
      refine WO.wa ?_
      refine WA.last [] (by kernel_rfl) (by kernel_rfl) rfl ?_
      refine WO.fin ?_
      have f212 := f206.stp S210 rfl rfl
      have f213 := f207.stp S210 rfl rfl
      exact DN.meet _ ⟨(fun b => ren [(22, 9), (23, 10)] (K202 b)), b8, a32_0, u32_0, a32_1, u32_1, rfl, (Stp.ren ((S45.tr (S53.tr (S167.tr (S177.tr (S190.tr (S203.tr S210)))))).wk rfl) [(22, 9), (23, 10)] rfl), (f212.map (ren [(22, 9), (23, 10)]) rfl rfl), (f213.map (ren [(22, 9), (23, 10)]) rfl rfl), (f211.map (ren [(22, 9), (23, 10)]) rfl rfl)⟩ fun a ha => (ha.more (ha.more (ha.more (ha.more ha.nil rfl) rfl) rfl) rfl)
    ·
     refine WO.alloc (κ := K31) 9 rfl rfl rfl rfl rfl Try.zeroValue82 rfl fun b8 w214 K215 S216 f217 => ⟨(S216.cl rfl), ?_⟩
     refine WO.wa ?_
     refine WA.seg (fuel := 0) [(1, 1), (3, 1), (5, 1), (6, 1), (8, 1)] (by kernel_rfl) (by kernel_rfl) rfl ?_
     refine WO.call rfl rfl rfl rfl rfl rfl Try.call17 (l_toSig_ok (κ := fun b => mp [] 0 (K215 b)) (p0 := p0) hx27) ?_
     rintro _ w218 ⟨k219, rfl, e220⟩
     obtain ⟨K221, S222, m223⟩ := Ent.mixed (l := []) (κ := K215) e220 10 rfl
     refine ⟨((S216.tr S222).cl rfl), ?_⟩
     have f225 := f14.stp (S20.tr (S32.tr (S45.tr (S216.tr S222)))) rfl rfl
     have f226 := f15.stp (S20.tr (S32.tr (S45.tr (S216.tr S222)))) rfl rfl
     refine WO.call rfl rfl rfl rfl rfl rfl Try.call48 (l_toMachine_ok (κ := fun b => mp [] 0 (K221 b)) (p0 := p1) (Sl.map f225 (mp [] 0) rfl rfl) (Sl.map f226 (mp [] 0) rfl rfl) hx29) ?_
     rintro _ w227 ⟨k228, a29_0, u29_0, a29_1, u29_1, rfl, e229, f230, f231⟩
     obtain ⟨K232, S233, m234⟩ := Ent.mixed (l := []) (κ := K221) e229 12 rfl
     refine ⟨((S216.tr (S222.tr S233)).cl rfl), ?_⟩
     have f236 := f230.mx (no_own (no_int _) _) m234 rfl (rfl : 12 + 2 = 14)
     have f237 := f231.mx (no_own (no_int _) _) m234 rfl (rfl : 12 + 3 = 15)
     have f238 := f26.stp (S32.tr (S45.tr (S216.tr (S222.tr S233)))) rfl rfl
     have f239 := f27.stp (S32.tr (S45.tr (S216.tr (S222.tr S233)))) rfl rfl
     refine WO.call rfl rfl rfl rfl rfl rfl Try.call49 (l_toWord_ok (κ := fun b => mp [] 0 (K232 b)) (p0 := p2) (Sl.map f238 (mp [] 0) rfl rfl) (Sl.map f239 (mp [] 0) rfl rfl) hx31) ?_
     rintro _ w240 ⟨k241, a31_0, u31_0, a31_1, u31_1, rfl, e242, f243, f244⟩
     obtain ⟨K245, S246, m247⟩ := Ent.mixed (l := []) (κ := K232) e242 16 rfl
     refine ⟨((S216.tr (S222.tr (S233.tr S246))).cl rfl), ?_⟩
     have f249 := f243.mx (no_int _) m247 rfl (rfl : 16 + 2 = 18)
     have f250 := f244.mx (no_int _) m247 rfl (rfl : 16 + 3 = 19)
     have f251 := f236.stp S246 rfl rfl
     have f252 := f237.stp S246 rfl rfl
     refine WO.call rfl rfl rfl rfl rfl rfl Try.call47 (s_RunWord_ok (κ := fun b => mp [] 0 (K245 b)) (p0 := x27) (p1 := x29) (p2 := x31) (Sl.map f251.rdc (mp [] 0) rfl rfl) (Sl.map f252.rdc (mp [] 0) rfl rfl) (Sl.map f249.rdc (mp [] 0) rfl rfl) (Sl.map f250.rdc (mp [] 0) rfl rfl) hx32) ?_
     rintro _ w253 ⟨k254, a32_0, u32_0, a32_1, u32_1, rfl, e255, f256, f257⟩
     obtain ⟨K258, S259, m260⟩ := Ent.mixed (l := []) (κ := K245) e255 20 rfl
     refine ⟨((S216.tr (S222.tr (S233.tr (S246.tr S259)))).cl rfl), ?_⟩
     have f262 := f256.mx (no_int _) m260 rfl (rfl : 20 + 2 = 22)
     have f263 := f257.mx (no_int _) m260 rfl (rfl : 20 + 3 = 23)
     have f264 := f217.stp (S222.tr (S233.tr (S246.tr S259))) rfl rfl
     refine WO.stB0 (κ := K258) 9 (vc := [.slice a32_0 x32.Stem.length u32_0, .slice a32_1 x32.Loop.length u32_1]) rfl rfl rfl rfl rfl rfl rfl Try.sizeOf82 rfl rfl f264 rfl fun w265 S266 f267 => ⟨((S216.tr (S222.tr (S233.tr (S246.tr (S259.tr S266))))).cl rfl), ?_⟩
     refine WO.wa ?_
     refine WA.last [] (by kernel_rfl) (by kernel_rfl) rfl ?_
     refine WO.fin ?_
     have f268 := f262.stp S266 rfl rfl
     have f269 := f263.stp S266 rfl rfl
     exact DN.meet _ ⟨(fun b => ren [(22, 9), (23, 10), (9, 11)] (K258 b)), b8, a32_0, u32_0, a32_1, u32_1, rfl, (Stp.ren ((S45.tr (S216.tr (S222.tr (S233.tr (S246.tr (S259.tr S266)))))).wk rfl) [(22, 9), (23, 10), (9, 11)] rfl), (f268.map (ren [(22, 9), (23, 10), (9, 11)]) rfl rfl), (f269.map (ren [(22, 9), (23, 10), (9, 11)]) rfl rfl), (f267.map (ren [(22, 9), (23, 10), (9, 11)]) rfl rfl)⟩ fun a ha => (ha.more (ha.more (ha.more (ha.more ha.nil rfl) rfl) rfl) rfl)
   rintro _ w37 ⟨K38, b8, lar40_0, lur40_0, lar40_1, lur40_1, rfl, S39, f41, f42, f43⟩
   refine DN.seq ?_
   refine WC.seq ?_
   refine WC.rs [(0, 1), (1, 1), (2, 1), (3, 1)] rfl ?_
   have f270 := f13.stp (S20.tr (S32.tr S39)) rfl rfl
   refine WO.k1 trivial rfl rfl rfl rfl (rn_la (cs := [.slice a1_0 p1.Next.length u1_0, .slice a1_1 p1.Out.length u1_1]) Try.isAgg77 Try.sizeOf77 rfl rfl rfl (haE f270.cells)) ?_
   obtain ⟨x34, hx34, h⟩ := Option.bind_eq_some_iff.mp h
   have f271 := f14.stp (S20.tr (S32.tr S39)) rfl rfl
   have f272 := f15.stp (S20.tr (S32.tr S39)) rfl rfl
   refine WO.call rfl rfl rfl rfl rfl rfl Try.call48 (l_toMachine_ok (κ := fun b => mp [] 0 (K38 b)) (p0 := p1) (Sl.map f271 (mp [] 0) rfl rfl) (Sl.map f272 (mp [] 0) rfl rfl) hx34) ?_
   rintro _ w273 ⟨k274, a34_0, u34_0, a34_1, u34_1, rfl, e275, f276, f277⟩
   obtain ⟨K278, S279, m280⟩ := Ent.mixed (l := []) (κ := K38) e275 12 rfl
   refine ⟨trivial, ?_⟩
   have f282 := f276.mx (no_own (no_int _) _) m280 rfl (rfl : 12 + 2 = 14)
   have f283 := f277.mx (no_own (no_int _) _) m280 rfl (rfl : 12 + 3 = 15)
   refine WO.alloc (κ := K278) 16 rfl rfl rfl rfl rfl Try.zeroValue84 rfl fun b9 w284 K285 S286 f287 => ⟨trivial, ?_⟩
   refine WO.stB0 (κ := K285) 16 (vc := [.slice a34_0 x34.Next.length u34_0, .slice a34_1 x34.Out.length u34_1]) rfl rfl rfl rfl rfl rfl rfl Try.sizeOf84 rfl rfl f287 rfl fun w288 S289 f290 => ⟨trivial, ?_⟩
   refine WO.fin ?_
   refine DN.seq ?_
   refine WC.seq ?_
   refine WC.rs [(0, 1), (1, 1), (2, 1), (3, 1)] rfl ?_
   have f291 := f25.stp (S32.tr (S39.tr (S279.tr (S286.tr S289)))) rfl rfl
   refine WO.k1 trivial rfl rfl rfl rfl (rn_la (cs := [.slice a2_0 p2.Stem.length u2_0, .slice a2_1 p2.Loop.length u2_1]) Try.isAgg79 Try.sizeOf79 rfl rfl rfl (haE f291.cells)) ?_
   obtain ⟨x36, hx36, h⟩ := Option.bind_eq_some_iff.mp h
   have f292 := f26.stp (S32.tr (S39.tr (S279.tr (S286.tr S289)))) rfl rfl
   have f293 := f27.stp (S32.tr (S39.tr (S279.tr (S286.tr S289)))) rfl rfl
   refine WO.call rfl rfl rfl rfl rfl rfl Try.call49 (l_toWord_ok (κ := fun b => mp [] 0 (K285 b)) (p0 := p2) (Sl.map f292 (mp [] 0) rfl rfl) (Sl.map f293 (mp [] 0) rfl rfl) hx36) ?_
   rintro _ w294 ⟨k295, a36_0, u36_0, a36_1, u36_1, rfl, e296, f297, f298⟩
   obtain ⟨K299, S300, m301⟩ := Ent.mixed (l := []) (κ := K285) e296 17 rfl
   refine ⟨trivial, ?_⟩
   have f303 := f297.mx (no_int _) m301 rfl (rfl : 17 + 2 = 19)
   have f304 := f298.mx (no_int _) m301 rfl (rfl : 17 + 3 = 20)
   refine WO.alloc (κ := K299) 21 rfl rfl rfl rfl rfl Try.zeroValue82 rfl fun b10 w305 K306 S307 f308 => ⟨trivial, ?_⟩
   refine WO.stB0 (κ := K306) 21 (vc := [.slice a36_0 x36.Stem.length u36_0, .slice a36_1 x36.Loop.length u36_1]) rfl rfl rfl rfl rfl rfl rfl Try.sizeOf82 rfl rfl f308 rfl fun w309 S310 f311 => ⟨trivial, ?_⟩
   refine WO.fin ?_
   refine DN.seq ?_
   refine WC.seq ?_
   obtain ⟨x38, hx38, h⟩ := Option.bind_eq_some_iff.mp h
   obtain ⟨x41, hx41, h⟩ := Option.bind_eq_some_iff.mp h
   refine WC.meet (fun L w' => ∃ (κ' : Col) (b11 : Nat) (lar315_0 : Option Addr) (lur315_0 : Nat) (lar315_1 : Option Addr) (lur315_1 : Nat), L = [(3, .pointer (some ⟨b3, 0, none⟩)), (4, .pointer (some ⟨b4, 0, none⟩)), (5, .pointer (some ⟨b5, 0, none⟩)), (8, .pointer (some ⟨b8, 0, none⟩)), (9, .pointer (some ⟨b9, 0, none⟩)), (10, .pointer (some ⟨b10, 0, none⟩)), (11, .pointer (some ⟨b11, 0, none⟩))] ∧ Stp [22, 24, 26, 27, 28] K306 w309 κ' w' ∧ Oc (Ep.int .i64) 2 κ' w' 22 lar315_0 lur315_0 x41.Stem ∧ Oc (Ep.int .i64) 2 κ' w' 23 lar315_1 lur315_1 x41.Loop ∧ Bc κ' w' 24 b11 82 [.slice lar315_0 x41.Stem.length lur315_0, .slice lar315_1 x41.Loop.length lur315_1]) ?_ ?_
   ·
    refine WC.rxt (κ := K306) 21 none (by kernel_rfl) fun w319 S320 => ?_
    refine WA.seg (fuel := 4) [(0, 0), (2, 0), (3, 0)] (by kernel_rfl) (by kernel_rfl) rfl ?_
    have f321 := f4.stp (S7.tr (S11.tr (S20.tr (S32.tr (S39.tr (S279.tr (S286.tr (S289.tr (S300.tr (S307.tr (S310.tr S320))))))))))) rfl rfl
    refine WO.k0 rfl rfl rfl rfl (rn_la (cs := [.int .i64 p0.In, .int .i64 p0.Out]) Try.isAgg23 Try.sizeOf23 rfl rfl rfl (haC f321.cells rfl)) ?_
    have f322 := f290.stp (S300.tr (S307.tr (S310.tr S320))) rfl rfl
    refine WO.k0 rfl rfl rfl rfl (rn_la (cs := [.slice a34_0 x34.Next.length u34_0, .slice a34_1 x34.Out.length u34_1]) Try.isAgg84 Try.sizeOf84 rfl rfl rfl (haC f322.cells rfl)) ?_
    have f323 := f311.stp S320 rfl rfl
    refine WO.k0 rfl rfl rfl rfl (rn_la (cs := [.slice a36_0 x36.Stem.length u36_0, .slice a36_1 x36.Loop.length u36_1]) Try.isAgg82 Try.sizeOf82 rfl rfl rfl (haC f323.cells rfl)) ?_
    refine WO.wa ?_
    refine WA.fork2 (fuel := 3) 1 5 (by kernel_rfl) rfl ?_ ?_
    ·
     refine WO.call rfl rfl rfl rfl rfl rfl Try.call17 (l_toSig_ok (κ := fun b => mp [] 0 (K306 b)) (p0 := p0) hx38) ?_
     rintro _ w324 ⟨k325, rfl, e326⟩
     obtain ⟨K327, S328, m329⟩ := Ent.mixed (l := []) (κ := K306) e326 22 rfl
     refine ⟨(S328.cl rfl), ?_⟩
     refine WO.wa ?_
     refine WA.fork2 (fuel := 2) 4 5 (by kernel_rfl) rfl ?_ ?_
     ·
      have f331 := f282.stp (S286.tr (S289.tr (S300.tr (S307.tr (S310.tr (S320.tr S328)))))) rfl rfl
      have f332 := f283.stp (S286.tr (S289.tr (S300.tr (S307.tr (S310.tr (S320.tr S328)))))) rfl rfl
      have f333 := f303.stp (S307.tr (S310.tr (S320.tr S328))) rfl rfl
      have f334 := f304.stp (S307.tr (S310.tr (S320.tr S328))) rfl rfl
      refine WO.call rfl rfl rfl rfl rfl rfl Try.call50 (i_RunWord_ok (κ := fun b => mp [] 0 (K327 b)) (p0 := x38) (p1 := x34) (p2 := x36) (Sl.map f331.rdc (mp [] 0) rfl rfl) (Sl.map f332.rdc (mp [] 0) rfl rfl) (Sl.map f333.rdc (mp [] 0) rfl rfl) (Sl.map f334.rdc (mp [] 0) rfl rfl) hx41) ?_
      rintro _ w335 ⟨k336, a41_0, u41_0, a41_1, u41_1, rfl, e337, f338, f339⟩
      obtain ⟨K340, S341, m342⟩ := Ent.mixed (l := []) (κ := K327) e337 24 rfl
      refine ⟨((S328.tr S341).cl rfl), ?_⟩
      have f344 := f338.mx (no_int _) m342 rfl (rfl : 24 + 2 = 26)
      have f345 := f339.mx (no_int _) m342 rfl (rfl : 24 + 3 = 27)
      refine WO.wa ?_
      refine WA.seg (fuel := 0) [(5, 1), (6, 1)] (by kernel_rfl) (by kernel_rfl) rfl ?_
      refine WO.alloc (κ := K340) 28 rfl rfl rfl rfl rfl Try.zeroValue82 rfl fun b11 w346 K347 S348 f349 => ⟨((S328.tr (S341.tr S348)).cl rfl), ?_⟩
      refine WO.stB0 (κ := K347) 28 (vc := [.slice a41_0 x41.Stem.length u41_0, .slice a41_1 x41.Loop.length u41_1]) rfl rfl rfl rfl rfl rfl rfl Try.sizeOf82 rfl rfl f349 rfl fun w350 S351 f352 => ⟨((S328.tr (S341.tr (S348.tr S351))).cl rfl), ?_⟩
      refine WO.wa ?_
      refine WA.last [] (by kernel_rfl) (by kernel_rfl) rfl ?_
      refine WO.fin ?_
      have f353 := f344.stp (S348.tr S351) rfl rfl
      have f354 := f345.stp (S348.tr S351) rfl rfl
      exact DN.meet _ ⟨(fun b => ren [(26, 22), (27, 23), (28, 24)] (K347 b)), b11, a41_0, u41_0, a41_1, u41_1, rfl, (Stp.ren ((S320.tr (S328.tr (S341.tr (S348.tr S351)))).wk rfl) [(26, 22), (27, 23), (28, 24)] rfl), (f353.map (ren [(26, 22), (27, 23), (28, 24)]) rfl rfl), (f354.map (ren [(26, 22), (27, 23), (28, 24)]) rfl rfl), (f352.map (ren [(26, 22), (27, 23), (28, 24)]) rfl rfl)⟩ fun a ha => (ha.more (ha.more (ha.more (ha.more (ha.more (ha.more (ha.more ha.nil rfl) rfl) rfl) rfl) rfl) rfl) rfl)
     ·
      refine WO.alloc (κ := K327) 24 rfl rfl rfl rfl rfl Try.zeroValue82 rfl fun b11 w355 K356 S357 f358 => ⟨((S328.tr S357).cl rfl), ?_⟩
      refine WO.wa ?_
      refine WA.seg (fuel := 0) [(4, 1), (6, 1)] (by kernel_rfl) (by kernel_rfl) rfl ?_
      have f359 := f282.stp (S286.tr (S289.tr (S300.tr (S307.tr (S310.tr (S320.tr (S328.tr S357))))))) rfl rfl
      have f360 := f283.stp (S286.tr (S289.tr (S300.tr (S307.tr (S310.tr (S320.tr (S328.tr S357))))))) rfl rfl
      have f361 := f303.stp (S307.tr (S310.tr (S320.tr (S328.tr S357)))) rfl rfl
      have f362 := f304.stp (S307.tr (S310.tr (S320.tr (S328.tr S357)))) rfl rfl
      refine WO.call rfl rfl rfl rfl rfl rfl Try.call50 (i_RunWord_ok (κ := fun b => mp [] 0 (K356 b)) (p0 := x38) (p1 := x34) (p2 := x36) (Sl.map f359.rdc (mp [] 0) rfl rfl) (Sl.map f360.rdc (mp [] 0) rfl rfl) (Sl.map f361.rdc (mp [] 0) rfl rfl) (Sl.map f362.rdc (mp [] 0) rfl rfl) hx41) ?_
      rintro _ w363 ⟨k364, a41_0, u41_0, a41_1, u41_1, rfl, e365, f366, f367⟩
      obtain ⟨K368, S369, m370⟩ := Ent.mixed (l := []) (κ := K356) e365 25 rfl
      refine ⟨((S328.tr (S357.tr S369)).cl rfl), ?_⟩
      have f372 := f366.mx (no_int _) m370 rfl (rfl : 25 + 2 = 27)
      have f373 := f367.mx (no_int _) m370 rfl (rfl : 25 + 3 = 28)
      have f374 := f358.stp S369 rfl rfl
      refine WO.stB0 (κ := K368) 24 (vc := [.slice a41_0 x41.Stem.length u41_0, .slice a41_1 x41.Loop.length u41_1]) rfl rfl rfl rfl rfl rfl rfl Try.sizeOf82 rfl rfl f374 rfl fun w375 S376 f377 => ⟨((S328.tr (S357.tr (S369.tr S376))).cl rfl), ?_⟩
      refine WO.wa ?_
      refine WA.last [] (by kernel_rfl) (by kernel_rfl) rfl ?_
      refine WO.fin ?_
      have f378 := f372.stp S376 rfl rfl
      have f379 := f373.stp S376 rfl rfl
      exact DN.meet _ ⟨(fun b => ren [(27, 22), (28, 23)] (K368 b)), b11, a41_0, u41_0, a41_1, u41_1, rfl, (Stp.ren ((S320.tr (S328.tr (S357.tr (S369.tr S376)))).wk rfl) [(27, 22), (28, 23)] rfl), (f378.map (ren [(27, 22), (28, 23)]) rfl rfl), (f379.map (ren [(27, 22), (28, 23)]) rfl rfl), (f377.map (ren [(27, 22), (28, 23)]) rfl rfl)⟩ fun a ha => (ha.more (ha.more (ha.more (ha.more (ha.more (ha.more (ha.more ha.nil rfl) rfl) rfl) rfl) rfl) rfl) rfl)
    ·
     refine WO.alloc (κ := K306) 22 rfl rfl rfl rfl rfl Try.zeroValue82 rfl fun b11 w380 K381 S382 f383 => ⟨(S382.cl rfl), ?_⟩
     refine WO.wa ?_
     refine WA.seg (fuel := 0) [(1, 1), (4, 1), (6, 1)] (by kernel_rfl) (by kernel_rfl) rfl ?_
     refine WO.call rfl rfl rfl rfl rfl rfl Try.call17 (l_toSig_ok (κ := fun b => mp [] 0 (K381 b)) (p0 := p0) hx38) ?_
     rintro _ w384 ⟨k385, rfl, e386⟩
     obtain ⟨K387, S388, m389⟩ := Ent.mixed (l := []) (κ := K381) e386 23 rfl
     refine ⟨((S382.tr S388).cl rfl), ?_⟩
     have f391 := f282.stp (S286.tr (S289.tr (S300.tr (S307.tr (S310.tr (S320.tr (S382.tr S388))))))) rfl rfl
     have f392 := f283.stp (S286.tr (S289.tr (S300.tr (S307.tr (S310.tr (S320.tr (S382.tr S388))))))) rfl rfl
     have f393 := f303.stp (S307.tr (S310.tr (S320.tr (S382.tr S388)))) rfl rfl
     have f394 := f304.stp (S307.tr (S310.tr (S320.tr (S382.tr S388)))) rfl rfl
     refine WO.call rfl rfl rfl rfl rfl rfl Try.call50 (i_RunWord_ok (κ := fun b => mp [] 0 (K387 b)) (p0 := x38) (p1 := x34) (p2 := x36) (Sl.map f391.rdc (mp [] 0) rfl rfl) (Sl.map f392.rdc (mp [] 0) rfl rfl) (Sl.map f393.rdc (mp [] 0) rfl rfl) (Sl.map f394.rdc (mp [] 0) rfl rfl) hx41) ?_
     rintro _ w395 ⟨k396, a41_0, u41_0, a41_1, u41_1, rfl, e397, f398, f399⟩
     obtain ⟨K400, S401, m402⟩ := Ent.mixed (l := []) (κ := K387) e397 25 rfl
     refine ⟨((S382.tr (S388.tr S401)).cl rfl), ?_⟩
     have f404 := f398.mx (no_int _) m402 rfl (rfl : 25 + 2 = 27)
     have f405 := f399.mx (no_int _) m402 rfl (rfl : 25 + 3 = 28)
     have f406 := f383.stp (S388.tr S401) rfl rfl
     refine WO.stB0 (κ := K400) 22 (vc := [.slice a41_0 x41.Stem.length u41_0, .slice a41_1 x41.Loop.length u41_1]) rfl rfl rfl rfl rfl rfl rfl Try.sizeOf82 rfl rfl f406 rfl fun w407 S408 f409 => ⟨((S382.tr (S388.tr (S401.tr S408))).cl rfl), ?_⟩
     refine WO.wa ?_
     refine WA.last [] (by kernel_rfl) (by kernel_rfl) rfl ?_
     refine WO.fin ?_
     have f410 := f404.stp S408 rfl rfl
     have f411 := f405.stp S408 rfl rfl
     exact DN.meet _ ⟨(fun b => ren [(27, 22), (28, 23), (22, 24)] (K400 b)), b11, a41_0, u41_0, a41_1, u41_1, rfl, (Stp.ren ((S320.tr (S382.tr (S388.tr (S401.tr S408)))).wk rfl) [(27, 22), (28, 23), (22, 24)] rfl), (f410.map (ren [(27, 22), (28, 23), (22, 24)]) rfl rfl), (f411.map (ren [(27, 22), (28, 23), (22, 24)]) rfl rfl), (f409.map (ren [(27, 22), (28, 23), (22, 24)]) rfl rfl)⟩ fun a ha => (ha.more (ha.more (ha.more (ha.more (ha.more (ha.more (ha.more ha.nil rfl) rfl) rfl) rfl) rfl) rfl) rfl)
   rintro _ w312 ⟨K313, b11, lar315_0, lur315_0, lar315_1, lur315_1, rfl, S314, f316, f317, f318⟩
   refine DN.seq ?_
   refine WC.seq ?_
   refine WC.seq ?_
   refine WC.rs [(0, 1), (1, 1), (2, 1), (3, 2)] rfl ?_
   refine WO.k1 trivial rfl rfl rfl rfl (rn_la (cs := [.slice lar315_0 x41.Stem.length lur315_0, .slice lar315_1 x41.Loop.length lur315_1]) Try.isAgg82 Try.sizeOf82 rfl rfl rfl (haE f318.cells)) ?_
   have f412 := f43.stp (S279.tr (S286.tr (S289.tr (S300.tr (S307.tr (S310.tr S314)))))) rfl rfl
   refine WO.k1 trivial rfl rfl rfl rfl (rn_la (cs := [.slice lar40_0 x32.Stem.length lur40_0, .slice lar40_1 x32.Loop.length lur40_1]) Try.isAgg82 Try.sizeOf82 rfl rfl rfl (haE f412.cells)) ?_
   obtain ⟨x44, hx44, h⟩ := Option.bind_eq_some_iff.mp h
   have f413 := f41.stp (S279.tr (S286.tr (S289.tr (S300.tr (S307.tr (S310.tr S314)))))) rfl rfl
   have f414 := f42.stp (S279.tr (S286.tr (S289.tr (S300.tr (S307.tr (S310.tr S314)))))) rfl rfl
   refine WO.call rfl rfl rfl rfl rfl rfl Try.call51 (l_eqWord_ok (κ := fun b => mp [] 0 (K313 b)) (p0 := x41) (p1 := x32) (Sl.map f316.rdc (mp [] 0) rfl rfl) (Sl.map f317.rdc (mp [] 0) rfl rfl) (Sl.map f413.rdc (mp [] 0) rfl rfl) (Sl.map f414.rdc (mp [] 0) rfl rfl) hx44) ?_
   rintro _ w415 ⟨k416, rfl, e417⟩
   obtain ⟨K418, S419, m420⟩ := Ent.mixed (l := []) (κ := K313) e417 25 rfl
   refine ⟨trivial, ?_⟩
   refine WO.pn 1 rfl ?_
   refine WO.fin ?_
   refine DN.seq ?_
   revert h
   cases ht422 : (!x44) with
   | true =>
    intro h; replace h := cT h
    refine WC.ct rfl ?_
    refine WC.seq ?_
    refine WC.rs [(0, 2)] rfl ?_
    refine WO.pn 1 rfl ?_
    refine WO.fin ?_
    refine DN.seq ?_
    refine WC.ret ?_
    refine DN.retThen ?_
    have f423 := hE.stp (S3.tr (S7.tr (S11.tr (S20.tr (S32.tr (S39.tr (S279.tr (S286.tr (S289.tr (S300.tr (S307.tr (S310.tr (S314.tr S419))))))))))))) rfl rfl
    refine DN.res (l := [.tmp 6]) Try.results9 (res_tmp rfl rfl) rfl ?_
    obtain rfl := Option.some.inj h
    exact ⟨K418, rfl, f423⟩
   | false =>
    intro h; replace h := cF h
    refine WC.cf rfl ?_
    refine WC.skip ?_
    refine DN.seq ?_
    refine WC.seq ?_
    refine WC.seq ?_
    refine WC.rx (κ := K418) 26 none [(0, 0), (1, 0), (2, 1), (3, 1), (4, 2)] [] (by kernel_rfl) (by kernel_rfl) fun w425 S424 => ?_
    have f426 := f290.stp (S300.tr (S307.tr (S310.tr (S314.tr (S419.tr S424))))) rfl rfl
    refine WO.k0 rfl rfl rfl rfl (rn_la (cs := [.slice a34_0 x34.Next.length u34_0, .slice a34_1 x34.Out.length u34_1]) Try.isAgg84 Try.sizeOf84 rfl rfl rfl (haC f426.cells rfl)) ?_
    have f427 := f270.stp (S279.tr (S286.tr (S289.tr (S300.tr (S307.tr (S310.tr (S314.tr (S419.tr S424)))))))) rfl rfl
    refine WO.k0 rfl rfl rfl rfl (rn_la (cs := [.slice a1_0 p1.Next.length u1_0, .slice a1_1 p1.Out.length u1_1]) Try.isAgg77 Try.sizeOf77 rfl rfl rfl (haC f427.cells rfl)) ?_
    obtain ⟨x48, hx48, h⟩ := Option.bind_eq_some_iff.mp h
    have f428 := f271.stp (S279.tr (S286.tr (S289.tr (S300.tr (S307.tr (S310.tr (S314.tr (S419.tr S424)))))))) rfl rfl
    have f429 := f272.stp (S279.tr (S286.tr (S289.tr (S300.tr (S307.tr (S310.tr (S314.tr (S419.tr S424)))))))) rfl rfl
    refine WO.call rfl rfl rfl rfl rfl rfl Try.call48 (l_toMachine_ok (κ := fun b => mp [] 0 (K418 b)) (p0 := p1) (Sl.map f428 (mp [] 0) rfl rfl) (Sl.map f429 (mp [] 0) rfl rfl) hx48) ?_
    rintro _ w430 ⟨k431, a48_0, u48_0, a48_1, u48_1, rfl, e432, f433, f434⟩
    obtain ⟨K435, S436, m437⟩ := Ent.mixed (l := []) (κ := K418) e432 27 rfl
    refine ⟨(S436.cl rfl), ?_⟩
    have f439 := f433.mx (no_own (no_int _) _) m437 rfl (rfl : 27 + 2 = 29)
    have f440 := f434.mx (no_own (no_int _) _) m437 rfl (rfl : 27 + 3 = 30)
    obtain ⟨x49, hx49, h⟩ := Option.bind_eq_some_iff.mp h
    have f441 := f282.stp (S286.tr (S289.tr (S300.tr (S307.tr (S310.tr (S314.tr (S419.tr (S424.tr S436)))))))) rfl rfl
    have f442 := f283.stp (S286.tr (S289.tr (S300.tr (S307.tr (S310.tr (S314.tr (S419.tr (S424.tr S436)))))))) rfl rfl
    refine WO.call rfl rfl rfl rfl rfl rfl Try.call52 (l_eqMachine_ok (κ := fun b => mp [] 0 (K435 b)) (p0 := x34) (p1 := x48) (Sl.map f441.rdc (mp [] 0) rfl rfl) (Sl.map f442.rdc (mp [] 0) rfl rfl) (Sl.map f439.rdc (mp [] 0) rfl rfl) (Sl.map f440.rdc (mp [] 0) rfl rfl) hx49) ?_
    rintro _ w443 ⟨k444, rfl, e445⟩
    obtain ⟨K446, S447, m448⟩ := Ent.mixed (l := []) (κ := K435) e445 31 rfl
    refine ⟨((S436.tr S447).cl rfl), ?_⟩
    refine WO.pn 1 rfl ?_
    refine WO.nx ?_
    refine WO.fin ?_
    refine DN.seq ?_
    revert h
    cases ht450 : (!x49) with
    | true =>
     intro h; replace h := cT h
     refine WC.ct rfl ?_
     refine WC.seq ?_
     refine WC.rs [(0, 2)] rfl ?_
     refine WO.pn 1 rfl ?_
     refine WO.fin ?_
     refine DN.seq ?_
     refine WC.ret ?_
     refine DN.retThen ?_
     have f451 := hE.stp (S3.tr (S7.tr (S11.tr (S20.tr (S32.tr (S39.tr (S279.tr (S286.tr (S289.tr (S300.tr (S307.tr (S310.tr (S314.tr (S419.tr (S424.tr (S436.tr S447)))))))))))))))) rfl rfl
     refine DN.res (l := [.tmp 6]) Try.results9 (res_tmp rfl rfl) rfl ?_
     obtain rfl := Option.some.inj h
     exact ⟨K446, rfl, f451⟩
    | false =>
     intro h; replace h := cF h
     refine WC.cf rfl ?_
     refine WC.skip ?_
     refine DN.seq ?_
     refine WC.seq ?_
     refine WC.seq ?_
     refine WC.rx (κ := K446) 32 none [(0, 0), (1, 0), (2, 1), (3, 1), (4, 2)] [] (by kernel_rfl) (by kernel_rfl) fun w453 S452 => ?_
     have f454 := f311.stp (S314.tr (S419.tr (S424.tr (S436.tr (S447.tr S452))))) rfl rfl
     refine WO.k0 rfl rfl rfl rfl (rn_la (cs := [.slice a36_0 x36.Stem.length u36_0, .slice a36_1 x36.Loop.length u36_1]) Try.isAgg82 Try.sizeOf82 rfl rfl rfl (haC f454.cells rfl)) ?_
     have f455 := f291.stp (S300.tr (S307.tr (S310.tr (S314.tr (S419.tr (S424.tr (S436.tr (S447.tr S452)))))))) rfl rfl
     refine WO.k0 rfl rfl rfl rfl (rn_la (cs := [.slice a2_0 p2.Stem.length u2_0, .slice a2_1 p2.Loop.length u2_1]) Try.isAgg79 Try.sizeOf79 rfl rfl rfl (haC f455.cells rfl)) ?_
     obtain ⟨x53, hx53, h⟩ := Option.bind_eq_some_iff.mp h
     have f456 := f292.stp (S300.tr (S307.tr (S310.tr (S314.tr (S419.tr (S424.tr (S436.tr (S447.tr S452)))))))) rfl rfl
     have f457 := f293.stp (S300.tr (S307.tr (S310.tr (S314.tr (S419.tr (S424.tr (S436.tr (S447.tr S452)))))))) rfl rfl
     refine WO.call rfl rfl rfl rfl rfl rfl Try.call49 (l_toWord_ok (κ := fun b => mp [] 0 (K446 b)) (p0 := p2) (Sl.map f456 (mp [] 0) rfl rfl) (Sl.map f457 (mp [] 0) rfl rfl) hx53) ?_
     rintro _ w458 ⟨k459, a53_0, u53_0, a53_1, u53_1, rfl, e460, f461, f462⟩
     obtain ⟨K463, S464, m465⟩ := Ent.mixed (l := []) (κ := K446) e460 33 rfl
     refine ⟨(S464.cl rfl), ?_⟩
     have f467 := f461.mx (no_int _) m465 rfl (rfl : 33 + 2 = 35)
     have f468 := f462.mx (no_int _) m465 rfl (rfl : 33 + 3 = 36)
     obtain ⟨x54, hx54, h⟩ := Option.bind_eq_some_iff.mp h
     have f469 := f303.stp (S307.tr (S310.tr (S314.tr (S419.tr (S424.tr (S436.tr (S447.tr (S452.tr S464)))))))) rfl rfl
     have f470 := f304.stp (S307.tr (S310.tr (S314.tr (S419.tr (S424.tr (S436.tr (S447.tr (S452.tr S464)))))))) rfl rfl
     refine WO.call rfl rfl rfl rfl rfl rfl Try.call51 (l_eqWord_ok (κ := fun b => mp [] 0 (K463 b)) (p0 := x36) (p1 := x53) (Sl.map f469.rdc (mp [] 0) rfl rfl) (Sl.map f470.rdc (mp [] 0) rfl rfl) (Sl.map f467.rdc (mp [] 0) rfl rfl) (Sl.map f468.rdc (mp [] 0) rfl rfl) hx54) ?_
     rintro _ w471 ⟨k472, rfl, e473⟩
     obtain ⟨K474, S475, m476⟩ := Ent.mixed (l := []) (κ := K463) e473 37 rfl
     refine ⟨((S464.tr S475).cl rfl), ?_⟩
     refine WO.pn 1 rfl ?_
     refine WO.nx ?_
     refine WO.fin ?_
     refine DN.seq ?_
     revert h
     cases ht478 : (!x54) with
     | true =>
      intro h; replace h := cT h
      refine WC.ct rfl ?_
      refine WC.seq ?_
      refine WC.rs [(0, 2)] rfl ?_
      refine WO.pn 1 rfl ?_
      refine WO.fin ?_
      refine DN.seq ?_
      refine WC.ret ?_
      refine DN.retThen ?_
      have f479 := hE.stp (S3.tr (S7.tr (S11.tr (S20.tr (S32.tr (S39.tr (S279.tr (S286.tr (S289.tr (S300.tr (S307.tr (S310.tr (S314.tr (S419.tr (S424.tr (S436.tr (S447.tr (S452.tr (S464.tr S475))))))))))))))))))) rfl rfl
      refine DN.res (l := [.tmp 6]) Try.results9 (res_tmp rfl rfl) rfl ?_
      obtain rfl := Option.some.inj h
      exact ⟨K474, rfl, f479⟩
     | false =>
      intro h; replace h := cF h
      refine WC.cf rfl ?_
      refine WC.skip ?_
      refine DN.seq ?_
      refine WC.seq ?_
      refine WC.rs [(0, 2)] rfl ?_
      refine WO.pn 1 rfl ?_
      refine WO.fin ?_
      refine DN.seq ?_
      refine WC.seq ?_
      refine WC.rs [(0, 1), (1, 2), (2, 1), (3, 2)] rfl ?_
      have f480 := f426.stp (S436.tr (S447.tr (S452.tr (S464.tr S475)))) rfl rfl
      refine WO.k1 trivial rfl rfl rfl rfl (rn_la (cs := [.slice a34_0 x34.Next.length u34_0, .slice a34_1 x34.Out.length u34_1]) Try.isAgg84 Try.sizeOf84 rfl rfl rfl (haE f480.cells)) ?_
      refine WO.pn 1 rfl ?_
      obtain ⟨x58, hx58, h⟩ := Option.bind_eq_some_iff.mp h
      have f481 := f441.stp (S447.tr (S452.tr (S464.tr S475))) rfl rfl
      have f482 := f442.stp (S447.tr (S452.tr (S464.tr S475))) rfl rfl
      refine WO.call rfl rfl rfl rfl rfl rfl Try.call53 (l_markMachine_ok (κ := fun b => mp [(14, 2), (15, 3)] 0 (K474 b)) (p0 := x34) (f481.map (mp [(14, 2), (15, 3)] 0) rfl rfl) (f482.map (mp [(14, 2), (15, 3)] 0) rfl rfl) hx58) ?_
      rintro _ w483 ⟨k484, rfl, e485, f486, hn487, f488, hn489⟩
      obtain ⟨K490, S491, m492⟩ := Ent.mixed (l := [(14, 2), (15, 3)]) (κ := K474) e485 39 rfl
      refine ⟨trivial, ?_⟩
      have f494 := f486.mx (no_own (no_int _) _) m492 rfl (rfl : 39 + 2 = 41)
      have f495 := f488.mx (no_own (no_int _) _) m492 rfl (rfl : 39 + 3 = 42)
      refine WO.pn 1 rfl ?_
      refine WO.fin ?_
      refine DN.seq ?_
      refine WC.seq ?_
      refine WC.rs [(0, 1), (1, 2), (2, 1), (3, 2)] rfl ?_
      have f496 := f454.stp (S464.tr (S475.tr S491)) rfl rfl
      refine WO.k1 trivial rfl rfl rfl rfl (rn_la (cs := [.slice a36_0 x36.Stem.length u36_0, .slice a36_1 x36.Loop.length u36_1]) Try.isAgg82 Try.sizeOf82 rfl rfl rfl (haE f496.cells)) ?_
      refine WO.pn 1 rfl ?_
      obtain ⟨x61, hx61, h⟩ := Option.bind_eq_some_iff.mp h
      have f497 := f469.stp (S475.tr S491) rfl rfl
      have f498 := f470.stp (S475.tr S491) rfl rfl
      refine WO.call rfl rfl rfl rfl rfl rfl Try.call54 (l_markWord_ok (κ := fun b => mp [(19, 2), (20, 3)] 0 (K490 b)) (p0 := x36) (f497.map (mp [(19, 2), (20, 3)] 0) rfl rfl) (f498.map (mp [(19, 2), (20, 3)] 0) rfl rfl) hx61) ?_
      rintro _ w499 ⟨k500, rfl, e501, f502, hn503, f504, hn505⟩
      obtain ⟨K506, S507, m508⟩ := Ent.mixed (l := [(19, 2), (20, 3)]) (κ := K490) e501 43 rfl
      refine ⟨trivial, ?_⟩
      have f510 := f502.mx (no_int _) m508 rfl (rfl : 43 + 2 = 45)
      have f511 := f504.mx (no_int _) m508 rfl (rfl : 43 + 3 = 46)
      refine WO.pn 1 rfl ?_
      refine WO.fin ?_
      refine DN.seq ?_
      refine WC.seq ?_
      refine WC.seq ?_
      refine WC.rs [(0, 2), (1, 2), (2, 2), (3, 1), (4, 1), (5, 1), (6, 2), (7, 2)] rfl ?_
      refine WO.pn 3 rfl ?_
      obtain ⟨p69, h, hK512⟩ := Option.bind_eq_some_iff.mp h
      refine WO.meet [(3, 1), (4, 1), (5, 1), (6, 2), (7, 2)] [] (fun L w' => L = [(3, .pointer (some ⟨b3, 0, none⟩)), (4, .pointer (some ⟨b4, 0, none⟩)), (5, .pointer (some ⟨b5, 0, none⟩)), (8, .pointer (some ⟨b8, 0, none⟩)), (11, .pointer (some ⟨b11, 0, none⟩)), (69, .bool p69)] ∧ ∃ κ', Stp [] K506 w499 κ' w') trivial ?_ ?_
      ·
       revert h
       cases ht513 : decide (x61.1 < 0) with
       | true =>
        intro h; replace h := cT h
        refine WO.ls rfl rfl rfl rfl ?_
        refine WO.ls rfl rfl rfl rfl ?_
        refine WO.ls rfl rfl rfl rfl ?_
        refine WO.pn 2 rfl ?_
        obtain rfl := Option.some.inj h
        exact WO.met _ trivial ⟨rfl, _, (Stp.refl _ _).wk rfl⟩ fun a ha => (ha.more (ha.more (ha.more (ha.more (ha.more (ha.more ha.nil rfl) rfl) rfl) rfl) rfl) rfl)
       | false =>
        intro h; replace h := cF h
        have f514 := f318.stp (S419.tr (S424.tr (S436.tr (S447.tr (S452.tr (S464.tr (S475.tr (S491.tr S507)))))))) rfl rfl
        refine WO.k1 trivial rfl rfl rfl rfl (rn_la (cs := [.slice lar315_0 x41.Stem.length lur315_0, .slice lar315_1 x41.Loop.length lur315_1]) Try.isAgg82 Try.sizeOf82 rfl rfl rfl (haE f514.cells)) ?_
        have f515 := f412.stp (S419.tr (S424.tr (S436.tr (S447.tr (S452.tr (S464.tr (S475.tr (S491.tr S507)))))))) rfl rfl
        refine WO.k1 trivial rfl rfl rfl rfl (rn_la (cs := [.slice lar40_0 x32.Stem.length lur40_0, .slice lar40_1 x32.Loop.length lur40_1]) Try.isAgg82 Try.sizeOf82 rfl rfl rfl (haE f515.cells)) ?_
        obtain ⟨x67, hx67, h⟩ := Option.bind_eq_some_iff.mp h
        have f516 := f316.stp (S419.tr (S424.tr (S436.tr (S447.tr (S452.tr (S464.tr (S475.tr (S491.tr S507)))))))) rfl rfl
        have f517 := f317.stp (S419.tr (S424.tr (S436.tr (S447.tr (S452.tr (S464.tr (S475.tr (S491.tr S507)))))))) rfl rfl
        have f518 := f413.stp (S419.tr (S424.tr (S436.tr (S447.tr (S452.tr (S464.tr (S475.tr (S491.tr S507)))))))) rfl rfl
        have f519 := f414.stp (S419.tr (S424.tr (S436.tr (S447.tr (S452.tr (S464.tr (S475.tr (S491.tr S507)))))))) rfl rfl
        refine WO.call rfl rfl rfl rfl rfl rfl Try.call51 (l_eqWord_ok (κ := fun b => mp [] 0 (K506 b)) (p0 := x41) (p1 := x32) (Sl.map f516.rdc (mp [] 0) rfl rfl) (Sl.map f517.rdc (mp [] 0) rfl rfl) (Sl.map f518.rdc (mp [] 0) rfl rfl) (Sl.map f519.rdc (mp [] 0) rfl rfl) hx67) ?_
        rintro _ w520 ⟨k521, rfl, e522⟩
        obtain ⟨K523, S524, m525⟩ := Ent.mixed (l := []) (κ := K506) e522 47 rfl
        refine ⟨trivial, ?_⟩
        refine WO.pn 2 rfl ?_
        obtain rfl := Option.some.inj h
        exact WO.met _ trivial ⟨rfl, _, S524.wk rfl⟩ fun a ha => (ha.more (ha.more (ha.more (ha.more (ha.more (ha.more ha.nil rfl) rfl) rfl) rfl) rfl) rfl)
      rintro _ w527 _ ⟨rfl, K528, S529⟩
      have h := hK512
      refine WO.fin ?_
      refine DN.seq ?_
      revert h
      cases ht530 : p69 with
      | true =>
       intro h; replace h := cT h
       refine WC.ct rfl ?_
       refine WC.seq ?_
       refine WC.rs [(0, 2)] rfl ?_
       refine WO.pn 1 rfl ?_
       refine WO.fin ?_
       refine DN.seq ?_
       refine WC.ret ?_
       refine DN.retThen ?_
       have f531 := hE.stp (S3.tr (S7.tr (S11.tr (S20.tr (S32.tr (S39.tr (S279.tr (S286.tr (S289.tr (S300.tr (S307.tr (S310.tr (S314.tr (S419.tr (S424.tr (S436.tr (S447.tr (S452.tr (S464.tr (S475.tr (S491.tr (S507.tr S529)))))))))))))))))))))) rfl rfl
       refine DN.res (l := [.tmp 6]) Try.results9 (res_tmp rfl rfl) rfl ?_
       obtain rfl := Option.some.inj h
       exact ⟨K528, rfl, f531⟩
      | false =>
       intro h; replace h := cF h
       refine WC.cf rfl ?_
       refine WC.skip ?_
       refine DN.seq ?_
       refine WC.seq ?_
       refine WC.rs [(0, 2)] rfl ?_
       refine WO.pn 1 rfl ?_
       refine WO.fin ?_
       refine DN.seq ?_
       refine WC.seq ?_
       refine WC.rs [(0, 1), (1, 2), (2, 1), (3, 2)] rfl ?_
       have f532 := f318.stp (S419.tr (S424.tr (S436.tr (S447.tr (S452.tr (S464.tr (S475.tr (S491.tr (S507.tr S529))))))))) rfl rfl
       refine WO.k1 trivial rfl rfl rfl rfl (rn_la (cs := [.slice lar315_0 x41.Stem.length lur315_0, .slice lar315_1 x41.Loop.length lur315_1]) Try.isAgg82 Try.sizeOf82 rfl rfl rfl (haE f532.cells)) ?_
       refine WO.pn 1 rfl ?_
       obtain ⟨x72, hx72, h⟩ := Option.bind_eq_some_iff.mp h
       have f533 := f316.stp (S419.tr (S424.tr (S436.tr (S447.tr (S452.tr (S464.tr (S475.tr (S491.tr (S507.tr S529))))))))) rfl rfl
       have f534 := f317.stp (S419.tr (S424.tr (S436.tr (S447.tr (S452.tr (S464.tr (S475.tr (S491.tr (S507.tr S529))))))))) rfl rfl
       refine WO.call rfl rfl rfl rfl rfl rfl Try.call54 (l_markWord_ok (κ := fun b => mp [(22, 2), (23, 3)] 0 (K528 b)) (p0 := x41) (f533.map (mp [(22, 2), (23, 3)] 0) rfl rfl) (f534.map (mp [(22, 2), (23, 3)] 0) rfl rfl) hx72) ?_
       rintro _ w535 ⟨k536, rfl, e537, f538, hn539, f540, hn541⟩
       obtain ⟨K542, S543, m544⟩ := Ent.mixed (l := [(22, 2), (23, 3)]) (κ := K528) e537 47 rfl
       refine ⟨trivial, ?_⟩
       have f546 := f538.mx (no_int _) m544 rfl (rfl : 47 + 2 = 49)
       have f547 := f540.mx (no_int _) m544 rfl (rfl : 47 + 3 = 50)
       refine WO.pn 1 rfl ?_
       refine WO.fin ?_
       refine DN.seq ?_
       refine WC.seq ?_
       refine WC.rs [(0, 2)] rfl ?_
       refine WO.pn 1 rfl ?_
       refine WO.fin ?_
       refine DN.seq ?_
       refine WC.seq ?_
       refine WC.rs [(0, 1), (1, 2), (2, 1), (3, 2)] rfl ?_
       have f548 := f532.stp S543 rfl rfl
       refine WO.k1 trivial rfl rfl rfl rfl (rn_la (cs := [.slice lar315_0 x41.Stem.length lur315_0, .slice lar315_1 x41.Loop.length lur315_1]) Try.isAgg82 Try.sizeOf82 rfl rfl rfl (haE f548.cells)) ?_
       refine WO.pn 1 rfl ?_
       obtain ⟨x75, hx75, h⟩ := Option.bind_eq_some_iff.mp h
       refine WO.call rfl rfl rfl rfl rfl rfl Try.call55 (Ret.cast (by simp only [(hn539), (hn541)]) (l_heldWord_ok (κ := fun b => mp [] 0 (K542 b)) (p0 := (⟨x72.2.1, x72.2.2⟩ : Word)) (Sl.map f546.rdc (mp [] 0) rfl rfl) (Sl.map f547.rdc (mp [] 0) rfl rfl) hx75)) ?_
       rintro _ w549 ⟨k550, rfl, e551⟩
       obtain ⟨K552, S553, m554⟩ := Ent.mixed (l := []) (κ := K542) e551 51 rfl
       refine ⟨trivial, ?_⟩
       refine WO.pn 1 rfl ?_
       refine WO.fin ?_
       refine DN.seq ?_
       refine WC.seq ?_
       refine WC.seq ?_
       refine WC.rs [(0, 2), (1, 2)] rfl ?_
       refine WO.pn 2 rfl ?_
       refine WO.fin ?_
       refine DN.seq ?_
       revert h
       cases ht556 : decide (x75 < 0) with
       | true =>
        intro h; replace h := cT h
        refine WC.ct rfl ?_
        refine WC.seq ?_
        refine WC.rs [(0, 2)] rfl ?_
        refine WO.pn 1 rfl ?_
        refine WO.fin ?_
        refine DN.seq ?_
        refine WC.ret ?_
        refine DN.retThen ?_
        have f557 := hE.stp (S3.tr (S7.tr (S11.tr (S20.tr (S32.tr (S39.tr (S279.tr (S286.tr (S289.tr (S300.tr (S307.tr (S310.tr (S314.tr (S419.tr (S424.tr (S436.tr (S447.tr (S452.tr (S464.tr (S475.tr (S491.tr (S507.tr (S529.tr (S543.tr S553)))))))))))))))))))))))) rfl rfl
        refine DN.res (l := [.tmp 6]) Try.results9 (res_tmp rfl rfl) rfl ?_
        obtain rfl := Option.some.inj h
        exact ⟨K552, rfl, f557⟩
       | false =>
        intro h; replace h := cF h
        refine WC.cf rfl ?_
        refine WC.skip ?_
        refine DN.seq ?_
        refine WC.seq ?_
        refine WC.seq ?_
        refine WC.rs [(0, 2), (1, 2), (2, 2)] rfl ?_
        refine WO.pn 3 rfl ?_
        refine WO.fin ?_
        refine DN.seq ?_
        revert h
        cases ht558 : (x75 != x72.1) with
        | true =>
         intro h; replace h := cT h
         refine WC.ct rfl ?_
         refine WC.seq ?_
         refine WC.rs [(0, 2)] rfl ?_
         refine WO.pn 1 rfl ?_
         refine WO.fin ?_
         refine DN.seq ?_
         refine WC.ret ?_
         refine DN.retThen ?_
         have f559 := hE.stp (S3.tr (S7.tr (S11.tr (S20.tr (S32.tr (S39.tr (S279.tr (S286.tr (S289.tr (S300.tr (S307.tr (S310.tr (S314.tr (S419.tr (S424.tr (S436.tr (S447.tr (S452.tr (S464.tr (S475.tr (S491.tr (S507.tr (S529.tr (S543.tr S553)))))))))))))))))))))))) rfl rfl
         refine DN.res (l := [.tmp 6]) Try.results9 (res_tmp rfl rfl) rfl ?_
         obtain rfl := Option.some.inj h
         exact ⟨K552, rfl, f559⟩
        | false =>
         intro h; replace h := cF h
         refine WC.cf rfl ?_
         refine WC.skip ?_
         refine DN.seq ?_
         refine WC.seq ?_
         obtain ⟨x82, hx82, h⟩ := Option.bind_eq_some_iff.mp h
         obtain ⟨x84, hx84, h⟩ := Option.bind_eq_some_iff.mp h
         obtain ⟨x86, hx86, h⟩ := Option.bind_eq_some_iff.mp h
         obtain ⟨x87, hx87, h⟩ := Option.bind_eq_some_iff.mp h
         refine WC.meet (fun L w' => ∃ (κ' : Col) (b15 : Nat) (lar563_0 : Option Addr) (lur563_0 : Nat) (lar563_1 : Option Addr) (lur563_1 : Nat), L = [(8, .pointer (some ⟨b8, 0, none⟩)), (11, .pointer (some ⟨b11, 0, none⟩)), (13, .int .i64 x72.1), (15, .pointer (some ⟨b15, 0, none⟩))] ∧ Stp [53, 55, 59, 63, 65, 66, 67] K552 w549 κ' w' ∧ Oc (Ep.int .i64) 2 κ' w' 53 lar563_0 lur563_0 x87.Stem ∧ Oc (Ep.int .i64) 2 κ' w' 54 lar563_1 lur563_1 x87.Loop ∧ Bc κ' w' 55 b15 82 [.slice lar563_0 x87.Stem.length lur563_0, .slice lar563_1 x87.Loop.length lur563_1]) ?_ ?_
         ·
          refine WC.rxt (κ := K552) 52 none (by kernel_rfl) fun w567 S568 => ?_
          refine WA.seg (fuel := 6) [(0, 0), (2, 0), (4, 0)] (by kernel_rfl) (by kernel_rfl) rfl ?_
          have f569 := f4.stp (S7.tr (S11.tr (S20.tr (S32.tr (S39.tr (S279.tr (S286.tr (S289.tr (S300.tr (S307.tr (S310.tr (S314.tr (S419.tr (S424.tr (S436.tr (S447.tr (S452.tr (S464.tr (S475.tr (S491.tr (S507.tr (S529.tr (S543.tr (S553.tr S568)))))))))))))))))))))))) rfl rfl
          refine WO.k0 rfl rfl rfl rfl (rn_la (cs := [.int .i64 p0.In, .int .i64 p0.Out]) Try.isAgg23 Try.sizeOf23 rfl rfl rfl (haC f569.cells rfl)) ?_
          have f570 := f427.stp (S436.tr (S447.tr (S452.tr (S464.tr (S475.tr (S491.tr (S507.tr (S529.tr (S543.tr (S553.tr S568)))))))))) rfl rfl
          refine WO.k0 rfl rfl rfl rfl (rn_la (cs := [.slice a1_0 p1.Next.length u1_0, .slice a1_1 p1.Out.length u1_1]) Try.isAgg77 Try.sizeOf77 rfl rfl rfl (haC f570.cells rfl)) ?_
          have f571 := f455.stp (S464.tr (S475.tr (S491.tr (S507.tr (S529.tr (S543.tr (S553.tr S568))))))) rfl rfl
          refine WO.k0 rfl rfl rfl rfl (rn_la (cs := [.slice a2_0 p2.Stem.length u2_0, .slice a2_1 p2.Loop.length u2_1]) Try.isAgg79 Try.sizeOf79 rfl rfl rfl (haC f571.cells rfl)) ?_
          refine WO.wa ?_
          refine WA.fork2 (fuel := 5) 1 7 (by kernel_rfl) rfl ?_ ?_
          ·
           refine WO.call rfl rfl rfl rfl rfl rfl Try.call17 (l_toSig_ok (κ := fun b => mp [] 0 (K552 b)) (p0 := p0) hx82) ?_
           rintro _ w572 ⟨k573, rfl, e574⟩
           obtain ⟨K575, S576, m577⟩ := Ent.mixed (l := []) (κ := K552) e574 53 rfl
           refine ⟨(S576.cl rfl), ?_⟩
           refine WO.wa ?_
           refine WA.fork2 (fuel := 4) 3 7 (by kernel_rfl) rfl ?_ ?_
           ·
            have f579 := f428.stp (S436.tr (S447.tr (S452.tr (S464.tr (S475.tr (S491.tr (S507.tr (S529.tr (S543.tr (S553.tr (S568.tr S576))))))))))) rfl rfl
            have f580 := f429.stp (S436.tr (S447.tr (S452.tr (S464.tr (S475.tr (S491.tr (S507.tr (S529.tr (S543.tr (S553.tr (S568.tr S576))))))))))) rfl rfl
            refine WO.call rfl rfl rfl rfl rfl rfl Try.call48 (l_toMachine_ok (κ := fun b => mp [] 0 (K575 b)) (p0 := p1) (Sl.map f579 (mp [] 0) rfl rfl) (Sl.map f580 (mp [] 0) rfl rfl) hx84) ?_
            rintro _ w581 ⟨k582, a84_0, u84_0, a84_1, u84_1, rfl, e583, f584, f585⟩
            obtain ⟨K586, S587, m588⟩ := Ent.mixed (l := []) (κ := K575) e583 55 rfl
            refine ⟨((S576.tr S587).cl rfl), ?_⟩
            have f590 := f584.mx (no_own (no_int _) _) m588 rfl (rfl : 55 + 2 = 57)
            have f591 := f585.mx (no_own (no_int _) _) m588 rfl (rfl : 55 + 3 = 58)
            refine WO.wa ?_
            refine WA.fork2 (fuel := 3) 5 7 (by kernel_rfl) rfl ?_ ?_
            ·
             have f592 := f456.stp (S464.tr (S475.tr (S491.tr (S507.tr (S529.tr (S543.tr (S553.tr (S568.tr (S576.tr S587))))))))) rfl rfl
             have f593 := f457.stp (S464.tr (S475.tr (S491.tr (S507.tr (S529.tr (S543.tr (S553.tr (S568.tr (S576.tr S587))))))))) rfl rfl
             refine WO.call rfl rfl rfl rfl rfl rfl Try.call49 (l_toWord_ok (κ := fun b => mp [] 0 (K586 b)) (p0 := p2) (Sl.map f592 (mp [] 0) rfl rfl) (Sl.map f593 (mp [] 0) rfl rfl) hx86) ?_
             rintro _ w594 ⟨k595, a86_0, u86_0, a86_1, u86_1, rfl, e596, f597, f598⟩
             obtain ⟨K599, S600, m601⟩ := Ent.mixed (l := []) (κ := K586) e596 59 rfl
             refine ⟨((S576.tr (S587.tr S600)).cl rfl), ?_⟩
             have f603 := f597.mx (no_int _) m601 rfl (rfl : 59 + 2 = 61)
             have f604 := f598.mx (no_int _) m601 rfl (rfl : 59 + 3 = 62)
             refine WO.wa ?_
             refine WA.fork2 (fuel := 2) 6 7 (by kernel_rfl) rfl ?_ ?_
             ·
              have f605 := f590.stp S600 rfl rfl
              have f606 := f591.stp S600 rfl rfl
              refine WO.call rfl rfl rfl rfl rfl rfl Try.call50 (i_RunWord_ok (κ := fun b => mp [] 0 (K599 b)) (p0 := x82) (p1 := x84) (p2 := x86) (Sl.map f605.rdc (mp [] 0) rfl rfl) (Sl.map f606.rdc (mp [] 0) rfl rfl) (Sl.map f603.rdc (mp [] 0) rfl rfl) (Sl.map f604.rdc (mp [] 0) rfl rfl) hx87) ?_
              rintro _ w607 ⟨k608, a87_0, u87_0, a87_1, u87_1, rfl, e609, f610, f611⟩
              obtain ⟨K612, S613, m614⟩ := Ent.mixed (l := []) (κ := K599) e609 63 rfl
              refine ⟨((S576.tr (S587.tr (S600.tr S613))).cl rfl), ?_⟩
              have f616 := f610.mx (no_int _) m614 rfl (rfl : 63 + 2 = 65)
              have f617 := f611.mx (no_int _) m614 rfl (rfl : 63 + 3 = 66)
              refine WO.wa ?_
              refine WA.seg (fuel := 0) [(7, 1), (8, 1)] (by kernel_rfl) (by kernel_rfl) rfl ?_
              refine WO.alloc (κ := K612) 67 rfl rfl rfl rfl rfl Try.zeroValue82 rfl fun b15 w618 K619 S620 f621 => ⟨((S576.tr (S587.tr (S600.tr (S613.tr S620)))).cl rfl), ?_⟩
              refine WO.stB0 (κ := K619) 67 (vc := [.slice a87_0 x87.Stem.length u87_0, .slice a87_1 x87.Loop.length u87_1]) rfl rfl rfl rfl rfl rfl rfl Try.sizeOf82 rfl rfl f621 rfl fun w622 S623 f624 => ⟨((S576.tr (S587.tr (S600.tr (S613.tr (S620.tr S623))))).cl rfl), ?_⟩
              refine WO.wa ?_
              refine WA.last [] (by kernel_rfl) (by kernel_rfl) rfl ?_
              refine WO.fin ?_
              have f625 := f616.stp (S620.tr S623) rfl rfl
              have f626 := f617.stp (S620.tr S623) rfl rfl
              exact DN.meet _ ⟨(fun b => ren [(65, 53), (66, 54), (67, 55)] (K619 b)), b15, a87_0, u87_0, a87_1, u87_1, rfl, (Stp.ren ((S568.tr (S576.tr (S587.tr (S600.tr (S613.tr (S620.tr S623)))))).wk rfl) [(65, 53), (66, 54), (67, 55)] rfl), (f625.map (ren [(65, 53), (66, 54), (67, 55)]) rfl rfl), (f626.map (ren [(65, 53), (66, 54), (67, 55)]) rfl rfl), (f624.map (ren [(65, 53), (66, 54), (67, 55)]) rfl rfl)⟩ fun a ha => (ha.more (ha.more (ha.more (ha.more ha.nil rfl) rfl) rfl) rfl)
             ·
              refine WO.alloc (κ := K599) 63 rfl rfl rfl rfl rfl Try.zeroValue82 rfl fun b15 w627 K628 S629 f630 => ⟨((S576.tr (S587.tr (S600.tr S629))).cl rfl), ?_⟩
              refine WO.wa ?_
              refine WA.seg (fuel := 0) [(6, 1), (8, 1)] (by kernel_rfl) (by kernel_rfl) rfl ?_
              have f631 := f590.stp (S600.tr S629) rfl rfl
              have f632 := f591.stp (S600.tr S629) rfl rfl
              have f633 := f603.stp S629 rfl rfl
              have f634 := f604.stp S629 rfl rfl
              refine WO.call rfl rfl rfl rfl rfl rfl Try.call50 (i_RunWord_ok (κ := fun b => mp [] 0 (K628 b)) (p0 := x82) (p1 := x84) (p2 := x86) (Sl.map f631.rdc (mp [] 0) rfl rfl) (Sl.map f632.rdc (mp [] 0) rfl rfl) (Sl.map f633.rdc (mp [] 0) rfl rfl) (Sl.map f634.rdc (mp [] 0) rfl rfl) hx87) ?_
              rintro _ w635 ⟨k636, a87_0, u87_0, a87_1, u87_1, rfl, e637, f638, f639⟩
              obtain ⟨K640, S641, m642⟩ := Ent.mixed (l := []) (κ := K628) e637 64 rfl
              refine ⟨((S576.tr (S587.tr (S600.tr (S629.tr S641)))).cl rfl), ?_⟩
              have f644 := f638.mx (no_int _) m642 rfl (rfl : 64 + 2 = 66)
              have f645 := f639.mx (no_int _) m642 rfl (rfl : 64 + 3 = 67)
              have f646 := f630.stp S641 rfl rfl
              refine WO.stB0 (κ := K640) 63 (vc := [.slice a87_0 x87.Stem.length u87_0, .slice a87_1 x87.Loop.length u87_1]) rfl rfl rfl rfl rfl rfl rfl Try.sizeOf82 rfl rfl f646 rfl fun w647 S648 f649 => ⟨((S576.tr (S587.tr (S600.tr (S629.tr (S641.tr S648))))).cl rfl), ?_⟩
              refine WO.wa ?_
              refine WA.last [] (by kernel_rfl) (by kernel_rfl) rfl ?_
              refine WO.fin ?_
              have f650 := f644.stp S648 rfl rfl
              have f651 := f645.stp S648 rfl rfl
              exact DN.meet _ ⟨(fun b => ren [(66, 53), (67, 54), (63, 55)] (K640 b)), b15, a87_0, u87_0, a87_1, u87_1, rfl, (Stp.ren ((S568.tr (S576.tr (S587.tr (S600.tr (S629.tr (S641.tr S648)))))).wk rfl) [(66, 53), (67, 54), (63, 55)] rfl), (f650.map (ren [(66, 53), (67, 54), (63, 55)]) rfl rfl), (f651.map (ren [(66, 53), (67, 54), (63, 55)]) rfl rfl), (f649.map (ren [(66, 53), (67, 54), (63, 55)]) rfl rfl)⟩ fun a ha => (ha.more (ha.more (ha.more (ha.more ha.nil rfl) rfl) rfl) rfl)
            ·
             refine WO.alloc (κ := K586) 59 rfl rfl rfl rfl rfl Try.zeroValue82 rfl fun b15 w652 K653 S654 f655 => ⟨((S576.tr (S587.tr S654)).cl rfl), ?_⟩
             refine WO.wa ?_
             refine WA.seg (fuel := 0) [(5, 1), (6, 1), (8, 1)] (by kernel_rfl) (by kernel_rfl) rfl ?_
             have f656 := f456.stp (S464.tr (S475.tr (S491.tr (S507.tr (S529.tr (S543.tr (S553.tr (S568.tr (S576.tr (S587.tr S654)))))))))) rfl rfl
             have f657 := f457.stp (S464.tr (S475.tr (S491.tr (S507.tr (S529.tr (S543.tr (S553.tr (S568.tr (S576.tr (S587.tr S654)))))))))) rfl rfl
             refine WO.call rfl rfl rfl rfl rfl rfl Try.call49 (l_toWord_ok (κ := fun b => mp [] 0 (K653 b)) (p0 := p2) (Sl.map f656 (mp [] 0) rfl rfl) (Sl.map f657 (mp [] 0) rfl rfl) hx86) ?_
             rintro _ w658 ⟨k659, a86_0, u86_0, a86_1, u86_1, rfl, e660, f661, f662⟩
             obtain ⟨K663, S664, m665⟩ := Ent.mixed (l := []) (κ := K653) e660 60 rfl
             refine ⟨((S576.tr (S587.tr (S654.tr S664))).cl rfl), ?_⟩
             have f667 := f661.mx (no_int _) m665 rfl (rfl : 60 + 2 = 62)
             have f668 := f662.mx (no_int _) m665 rfl (rfl : 60 + 3 = 63)
             have f669 := f590.stp (S654.tr S664) rfl rfl
             have f670 := f591.stp (S654.tr S664) rfl rfl
             refine WO.call rfl rfl rfl rfl rfl rfl Try.call50 (i_RunWord_ok (κ := fun b => mp [] 0 (K663 b)) (p0 := x82) (p1 := x84) (p2 := x86) (Sl.map f669.rdc (mp [] 0) rfl rfl) (Sl.map f670.rdc (mp [] 0) rfl rfl) (Sl.map f667.rdc (mp [] 0) rfl rfl) (Sl.map f668.rdc (mp [] 0) rfl rfl) hx87) ?_
             rintro _ w671 ⟨k672, a87_0, u87_0, a87_1, u87_1, rfl, e673, f674, f675⟩
             obtain ⟨K676, S677, m678⟩ := Ent.mixed (l := []) (κ := K663) e673 64 rfl
             refine ⟨((S576.tr (S587.tr (S654.tr (S664.tr S677)))).cl rfl), ?_⟩
             have f680 := f674.mx (no_int _) m678 rfl (rfl : 64 + 2 = 66)
             have f681 := f675.mx (no_int _) m678 rfl (rfl : 64 + 3 = 67)
             have f682 := f655.stp (S664.tr S677) rfl rfl
             refine WO.stB0 (κ := K676) 59 (vc := [.slice a87_0 x87.Stem.length u87_0, .slice a87_1 x87.Loop.length u87_1]) rfl rfl rfl rfl rfl rfl rfl Try.sizeOf82 rfl rfl f682 rfl fun w683 S684 f685 => ⟨((S576.tr (S587.tr (S654.tr (S664.tr (S677.tr S684))))).cl rfl), ?_⟩
             refine WO.wa ?_
             refine WA.last [] (by kernel_rfl) (by kernel_rfl) rfl ?_
             refine WO.fin ?_
             have f686 := f680.stp S684 rfl rfl
             have f687 := f681.stp S684 rfl rfl
             exact DN.meet _ ⟨(fun b => ren [(66, 53), (67, 54), (59, 55)] (K676 b)), b15, a87_0, u87_0, a87_1, u87_1, rfl, (Stp.ren ((S568.tr (S576.tr (S587.tr (S654.tr (S664.tr (S677.tr S684)))))).wk rfl) [(66, 53), (67, 54), (59, 55)] rfl), (f686.map (ren [(66, 53), (67, 54), (59, 55)]) rfl rfl), (f687.map (ren [(66, 53), (67, 54), (59, 55)]) rfl rfl), (f685.map (ren [(66, 53), (67, 54), (59, 55)]) rfl rfl)⟩ fun a ha => (ha.more (ha.more (ha.more (ha.more ha.nil rfl) rfl) rfl) rfl)
           ·
            refine WO.alloc (κ := K575) 55 rfl rfl rfl rfl rfl Try.zeroValue82 rfl fun b15 w688 K689 S690 f691 => ⟨((S576.tr S690).cl rfl), ?_⟩
            refine WO.wa ?_
            refine WA.seg (fuel := 0) [(3, 1), (5, 1), (6, 1), (8, 1)] (by kernel_rfl) (by kernel_rfl) rfl ?_
            have f692 := f428.stp (S436.tr (S447.tr (S452.tr (S464.tr (S475.tr (S491.tr (S507.tr (S529.tr (S543.tr (S553.tr (S568.tr (S576.tr S690)))))))))))) rfl rfl
            have f693 := f429.stp (S436.tr (S447.tr (S452.tr (S464.tr (S475.tr (S491.tr (S507.tr (S529.tr (S543.tr (S553.tr (S568.tr (S576.tr S690)))))))))))) rfl rfl
            refine WO.call rfl rfl rfl rfl rfl rfl Try.call48 (l_toMachine_ok (κ := fun b => mp [] 0 (K689 b)) (p0 := p1) (Sl.map f692 (mp [] 0) rfl rfl) (Sl.map f693 (mp [] 0) rfl rfl) hx84) ?_
            rintro _ w694 ⟨k695, a84_0, u84_0, a84_1, u84_1, rfl, e696, f697, f698⟩
            obtain ⟨K699, S700, m701⟩ := Ent.mixed (l := []) (κ := K689) e696 56 rfl
            refine ⟨((S576.tr (S690.tr S700)).cl rfl), ?_⟩
            have f703 := f697.mx (no_own (no_int _) _) m701 rfl (rfl : 56 + 2 = 58)
            have f704 := f698.mx (no_own (no_int _) _) m701 rfl (rfl : 56 + 3 = 59)
            have f705 := f456.stp (S464.tr (S475.tr (S491.tr (S507.tr (S529.tr (S543.tr (S553.tr (S568.tr (S576.tr (S690.tr S700)))))))))) rfl rfl
            have f706 := f457.stp (S464.tr (S475.tr (S491.tr (S507.tr (S529.tr (S543.tr (S553.tr (S568.tr (S576.tr (S690.tr S700)))))))))) rfl rfl
            refine WO.call rfl rfl rfl rfl rfl rfl Try.call49 (l_toWord_ok (κ := fun b => mp [] 0 (K699 b)) (p0 := p2) (Sl.map f705 (mp [] 0) rfl rfl) (Sl.map f706 (mp [] 0) rfl rfl) hx86) ?_
            rintro _ w707 ⟨k708, a86_0, u86_0, a86_1, u86_1, rfl, e709, f710, f711⟩
            obtain ⟨K712, S713, m714⟩ := Ent.mixed (l := []) (κ := K699) e709 60 rfl
            refine ⟨((S576.tr (S690.tr (S700.tr S713))).cl rfl), ?_⟩
            have f716 := f710.mx (no_int _) m714 rfl (rfl : 60 + 2 = 62)
            have f717 := f711.mx (no_int _) m714 rfl (rfl : 60 + 3 = 63)
            have f718 := f703.stp S713 rfl rfl
            have f719 := f704.stp S713 rfl rfl
            refine WO.call rfl rfl rfl rfl rfl rfl Try.call50 (i_RunWord_ok (κ := fun b => mp [] 0 (K712 b)) (p0 := x82) (p1 := x84) (p2 := x86) (Sl.map f718.rdc (mp [] 0) rfl rfl) (Sl.map f719.rdc (mp [] 0) rfl rfl) (Sl.map f716.rdc (mp [] 0) rfl rfl) (Sl.map f717.rdc (mp [] 0) rfl rfl) hx87) ?_
            rintro _ w720 ⟨k721, a87_0, u87_0, a87_1, u87_1, rfl, e722, f723, f724⟩
            obtain ⟨K725, S726, m727⟩ := Ent.mixed (l := []) (κ := K712) e722 64 rfl
            refine ⟨((S576.tr (S690.tr (S700.tr (S713.tr S726)))).cl rfl), ?_⟩
            have f729 := f723.mx (no_int _) m727 rfl (rfl : 64 + 2 = 66)
            have f730 := f724.mx (no_int _) m727 rfl (rfl : 64 + 3 = 67)
            have f731 := f691.stp (S700.tr (S713.tr S726)) rfl rfl
            refine WO.stB0 (κ := K725) 55 (vc := [.slice a87_0 x87.Stem.length u87_0, .slice a87_1 x87.Loop.length u87_1]) rfl rfl rfl rfl rfl rfl rfl Try.sizeOf82 rfl rfl f731 rfl fun w732 S733 f734 => ⟨((S576.tr (S690.tr (S700.tr (S713.tr (S726.tr S733))))).cl rfl), ?_⟩
            refine WO.wa ?_
            refine WA.last [] (by kernel_rfl) (by kernel_rfl) rfl ?_
            refine WO.fin ?_
            have f735 := f729.stp S733 rfl rfl
            have f736 := f730.stp S733 rfl rfl
            exact DN.meet _ ⟨(fun b => ren [(66, 53), (67, 54)] (K725 b)), b15, a87_0, u87_0, a87_1, u87_1, rfl, (Stp.ren ((S568.tr (S576.tr (S690.tr (S700.tr (S713.tr (S726.tr S733)))))).wk rfl) [(66, 53), (67, 54)] rfl), (f735.map (ren [(66, 53), (67, 54)]) rfl rfl), (f736.map (ren [(66, 53), (67, 54)]) rfl rfl), (f734.map (ren [(66, 53), (67, 54)]) rfl rfl)⟩ fun a ha => (ha.more (ha.more (ha.more (ha.more ha.nil rfl) rfl) rfl) rfl)
          ·
           refine WO.alloc (κ := K552) 53 rfl rfl rfl rfl rfl Try.zeroValue82 rfl fun b15 w737 K738 S739 f740 => ⟨(S739.cl rfl), ?_⟩
           refine WO.wa ?_
           refine WA.seg (fuel := 0) [(1, 1), (3, 1), (5, 1), (6, 1), (8, 1)] (by kernel_rfl) (by kernel_rfl) rfl ?_
           refine WO.call rfl rfl rfl rfl rfl rfl Try.call17 (l_toSig_ok (κ := fun b => mp [] 0 (K738 b)) (p0 := p0) hx82) ?_
           rintro _ w741 ⟨k742, rfl, e743⟩
           obtain ⟨K744, S745, m746⟩ := Ent.mixed (l := []) (κ := K738) e743 54 rfl
           refine ⟨((S739.tr S745).cl rfl), ?_⟩
           have f748 := f428.stp (S436.tr (S447.tr (S452.tr (S464.tr (S475.tr (S491.tr (S507.tr (S529.tr (S543.tr (S553.tr (S568.tr (S739.tr S745)))))))))))) rfl rfl
           have f749 := f429.stp (S436.tr (S447.tr (S452.tr (S464.tr (S475.tr (S491.tr (S507.tr (S529.tr (S543.tr (S553.tr (S568.tr (S739.tr S745)))))))))))) rfl rfl
           refine WO.call rfl rfl rfl rfl rfl rfl Try.call48 (l_toMachine_ok (κ := fun b => mp [] 0 (K744 b)) (p0 := p1) (Sl.map f748 (mp [] 0) rfl rfl) (Sl.map f749 (mp [] 0) rfl rfl) hx84) ?_
           rintro _ w750 ⟨k751, a84_0, u84_0, a84_1, u84_1, rfl, e752, f753, f754⟩
           obtain ⟨K755, S756, m757⟩ := Ent.mixed (l := []) (κ := K744) e752 56 rfl
           refine ⟨((S739.tr (S745.tr S756)).cl rfl), ?_⟩
           have f759 := f753.mx (no_own (no_int _) _) m757 rfl (rfl : 56 + 2 = 58)
           have f760 := f754.mx (no_own (no_int _) _) m757 rfl (rfl : 56 + 3 = 59)
           have f761 := f456.stp (S464.tr (S475.tr (S491.tr (S507.tr (S529.tr (S543.tr (S553.tr (S568.tr (S739.tr (S745.tr S756)))))))))) rfl rfl
           have f762 := f457.stp (S464.tr (S475.tr (S491.tr (S507.tr (S529.tr (S543.tr (S553.tr (S568.tr (S739.tr (S745.tr S756)))))))))) rfl rfl
           refine WO.call rfl rfl rfl rfl rfl rfl Try.call49 (l_toWord_ok (κ := fun b => mp [] 0 (K755 b)) (p0 := p2) (Sl.map f761 (mp [] 0) rfl rfl) (Sl.map f762 (mp [] 0) rfl rfl) hx86) ?_
           rintro _ w763 ⟨k764, a86_0, u86_0, a86_1, u86_1, rfl, e765, f766, f767⟩
           obtain ⟨K768, S769, m770⟩ := Ent.mixed (l := []) (κ := K755) e765 60 rfl
           refine ⟨((S739.tr (S745.tr (S756.tr S769))).cl rfl), ?_⟩
           have f772 := f766.mx (no_int _) m770 rfl (rfl : 60 + 2 = 62)
           have f773 := f767.mx (no_int _) m770 rfl (rfl : 60 + 3 = 63)
           have f774 := f759.stp S769 rfl rfl
           have f775 := f760.stp S769 rfl rfl
           refine WO.call rfl rfl rfl rfl rfl rfl Try.call50 (i_RunWord_ok (κ := fun b => mp [] 0 (K768 b)) (p0 := x82) (p1 := x84) (p2 := x86) (Sl.map f774.rdc (mp [] 0) rfl rfl) (Sl.map f775.rdc (mp [] 0) rfl rfl) (Sl.map f772.rdc (mp [] 0) rfl rfl) (Sl.map f773.rdc (mp [] 0) rfl rfl) hx87) ?_
           rintro _ w776 ⟨k777, a87_0, u87_0, a87_1, u87_1, rfl, e778, f779, f780⟩
           obtain ⟨K781, S782, m783⟩ := Ent.mixed (l := []) (κ := K768) e778 64 rfl
           refine ⟨((S739.tr (S745.tr (S756.tr (S769.tr S782)))).cl rfl), ?_⟩
           have f785 := f779.mx (no_int _) m783 rfl (rfl : 64 + 2 = 66)
           have f786 := f780.mx (no_int _) m783 rfl (rfl : 64 + 3 = 67)
           have f787 := f740.stp (S745.tr (S756.tr (S769.tr S782))) rfl rfl
           refine WO.stB0 (κ := K781) 53 (vc := [.slice a87_0 x87.Stem.length u87_0, .slice a87_1 x87.Loop.length u87_1]) rfl rfl rfl rfl rfl rfl rfl Try.sizeOf82 rfl rfl f787 rfl fun w788 S789 f790 => ⟨((S739.tr (S745.tr (S756.tr (S769.tr (S782.tr S789))))).cl rfl), ?_⟩
           refine WO.wa ?_
           refine WA.last [] (by kernel_rfl) (by kernel_rfl) rfl ?_
           refine WO.fin ?_
           have f791 := f785.stp S789 rfl rfl
           have f792 := f786.stp S789 rfl rfl
           exact DN.meet _ ⟨(fun b => ren [(66, 53), (67, 54), (53, 55)] (K781 b)), b15, a87_0, u87_0, a87_1, u87_1, rfl, (Stp.ren ((S568.tr (S739.tr (S745.tr (S756.tr (S769.tr (S782.tr S789)))))).wk rfl) [(66, 53), (67, 54), (53, 55)] rfl), (f791.map (ren [(66, 53), (67, 54), (53, 55)]) rfl rfl), (f792.map (ren [(66, 53), (67, 54), (53, 55)]) rfl rfl), (f790.map (ren [(66, 53), (67, 54), (53, 55)]) rfl rfl)⟩ fun a ha => (ha.more (ha.more (ha.more (ha.more ha.nil rfl) rfl) rfl) rfl)
         rintro _ w560 ⟨K561, b15, lar563_0, lur563_0, lar563_1, lur563_1, rfl, S562, f564, f565, f566⟩
         refine DN.seq ?_
         refine WC.seq ?_
         refine WC.seq ?_
         refine WC.rs [(0, 1), (1, 1), (2, 1), (3, 2)] rfl ?_
         refine WO.k1 trivial rfl rfl rfl rfl (rn_la (cs := [.slice lar563_0 x87.Stem.length lur563_0, .slice lar563_1 x87.Loop.length lur563_1]) Try.isAgg82 Try.sizeOf82 rfl rfl rfl (haE f566.cells)) ?_
         have f793 := f412.stp (S419.tr (S424.tr (S436.tr (S447.tr (S452.tr (S464.tr (S475.tr (S491.tr (S507.tr (S529.tr (S543.tr (S553.tr S562)))))))))))) rfl rfl
         refine WO.k1 trivial rfl rfl rfl rfl (rn_la (cs := [.slice lar40_0 x32.Stem.length lur40_0, .slice lar40_1 x32.Loop.length lur40_1]) Try.isAgg82 Try.sizeOf82 rfl rfl rfl (haE f793.cells)) ?_
         obtain ⟨x90, hx90, h⟩ := Option.bind_eq_some_iff.mp h
         have f794 := f413.stp (S419.tr (S424.tr (S436.tr (S447.tr (S452.tr (S464.tr (S475.tr (S491.tr (S507.tr (S529.tr (S543.tr (S553.tr S562)))))))))))) rfl rfl
         have f795 := f414.stp (S419.tr (S424.tr (S436.tr (S447.tr (S452.tr (S464.tr (S475.tr (S491.tr (S507.tr (S529.tr (S543.tr (S553.tr S562)))))))))))) rfl rfl
         refine WO.call rfl rfl rfl rfl rfl rfl Try.call51 (l_eqWord_ok (κ := fun b => mp [] 0 (K561 b)) (p0 := x87) (p1 := x32) (Sl.map f564.rdc (mp [] 0) rfl rfl) (Sl.map f565.rdc (mp [] 0) rfl rfl) (Sl.map f794.rdc (mp [] 0) rfl rfl) (Sl.map f795.rdc (mp [] 0) rfl rfl) hx90) ?_
         rintro _ w796 ⟨k797, rfl, e798⟩
         obtain ⟨K799, S800, m801⟩ := Ent.mixed (l := []) (κ := K561) e798 56 rfl
         refine ⟨trivial, ?_⟩
         refine WO.pn 1 rfl ?_
         refine WO.fin ?_
         refine DN.seq ?_
         revert h
         cases ht803 : (!x90) with
         | true =>
          intro h; replace h := cT h
          refine WC.ct rfl ?_
          refine WC.seq ?_
          refine WC.rs [(0, 2)] rfl ?_
          refine WO.pn 1 rfl ?_
          refine WO.fin ?_
          refine DN.seq ?_
          refine WC.ret ?_
          refine DN.retThen ?_
          have f804 := hE.stp (S3.tr (S7.tr (S11.tr (S20.tr (S32.tr (S39.tr (S279.tr (S286.tr (S289.tr (S300.tr (S307.tr (S310.tr (S314.tr (S419.tr (S424.tr (S436.tr (S447.tr (S452.tr (S464.tr (S475.tr (S491.tr (S507.tr (S529.tr (S543.tr (S553.tr (S562.tr S800)))))))))))))))))))))))))) rfl rfl
          refine DN.res (l := [.tmp 6]) Try.results9 (res_tmp rfl rfl) rfl ?_
          obtain rfl := Option.some.inj h
          exact ⟨K799, rfl, f804⟩
         | false =>
          intro h; replace h := cF h
          refine WC.cf rfl ?_
          refine WC.skip ?_
          refine DN.seq ?_
          refine WC.seq ?_
          refine WC.rs [(0, 2)] rfl ?_
          refine WO.pn 1 rfl ?_
          refine WO.fin ?_
          refine DN.seq ?_
          refine WC.seq ?_
          refine WC.rs [(0, 1), (1, 2), (2, 1), (3, 2)] rfl ?_
          have f805 := f548.stp (S553.tr (S562.tr S800)) rfl rfl
          refine WO.k1 trivial rfl rfl rfl rfl (rn_la (cs := [.slice lar315_0 x41.Stem.length lur315_0, .slice lar315_1 x41.Loop.length lur315_1]) Try.isAgg82 Try.sizeOf82 rfl rfl rfl (haE f805.cells)) ?_
          refine WO.pn 1 rfl ?_
          obtain ⟨x94, hx94, h⟩ := Option.bind_eq_some_iff.mp h
          have f806 := f546.stp (S553.tr (S562.tr S800)) rfl rfl
          have f807 := f547.stp (S553.tr (S562.tr S800)) rfl rfl
          refine WO.call rfl rfl rfl rfl rfl rfl Try.call55 (Ret.cast (by simp only [(hn539), (hn541)]) (l_heldWord_ok (κ := fun b => mp [] 0 (K799 b)) (p0 := (⟨x72.2.1, x72.2.2⟩ : Word)) (Sl.map f806.rdc (mp [] 0) rfl rfl) (Sl.map f807.rdc (mp [] 0) rfl rfl) hx94)) ?_
          rintro _ w808 ⟨k809, rfl, e810⟩
          obtain ⟨K811, S812, m813⟩ := Ent.mixed (l := []) (κ := K799) e810 58 rfl
          refine ⟨trivial, ?_⟩
          refine WO.pn 1 rfl ?_
          refine WO.fin ?_
          refine DN.seq ?_
          refine WC.seq ?_
          refine WC.seq ?_
          refine WC.rs [(0, 2), (1, 2)] rfl ?_
          refine WO.pn 2 rfl ?_
          refine WO.fin ?_
          refine DN.seq ?_
          revert h
          cases ht815 : decide (x94 < 0) with
          | true =>
           intro h; replace h := cT h
           refine WC.ct rfl ?_
           refine WC.seq ?_
           refine WC.rs [(0, 2)] rfl ?_
           refine WO.pn 1 rfl ?_
           refine WO.fin ?_
           refine DN.seq ?_
           refine WC.ret ?_
           refine DN.retThen ?_
           have f816 := hE.stp (S3.tr (S7.tr (S11.tr (S20.tr (S32.tr (S39.tr (S279.tr (S286.tr (S289.tr (S300.tr (S307.tr (S310.tr (S314.tr (S419.tr (S424.tr (S436.tr (S447.tr (S452.tr (S464.tr (S475.tr (S491.tr (S507.tr (S529.tr (S543.tr (S553.tr (S562.tr (S800.tr S812))))))))))))))))))))))))))) rfl rfl
           refine DN.res (l := [.tmp 6]) Try.results9 (res_tmp rfl rfl) rfl ?_
           obtain rfl := Option.some.inj h
           exact ⟨K811, rfl, f816⟩
          | false =>
           intro h; replace h := cF h
           refine WC.cf rfl ?_
           refine WC.skip ?_
           refine DN.seq ?_
           refine WC.seq ?_
           refine WC.seq ?_
           refine WC.rs [(0, 2), (1, 2), (2, 2)] rfl ?_
           refine WO.pn 3 rfl ?_
           refine WO.fin ?_
           refine DN.seq ?_
           revert h
           cases ht817 : (x94 != x72.1) with
           | true =>
            intro h; replace h := cT h
            refine WC.ct rfl ?_
            refine WC.seq ?_
            refine WC.rs [(0, 2)] rfl ?_
            refine WO.pn 1 rfl ?_
            refine WO.fin ?_
            refine DN.seq ?_
            refine WC.ret ?_
            refine DN.retThen ?_
            have f818 := hE.stp (S3.tr (S7.tr (S11.tr (S20.tr (S32.tr (S39.tr (S279.tr (S286.tr (S289.tr (S300.tr (S307.tr (S310.tr (S314.tr (S419.tr (S424.tr (S436.tr (S447.tr (S452.tr (S464.tr (S475.tr (S491.tr (S507.tr (S529.tr (S543.tr (S553.tr (S562.tr (S800.tr S812))))))))))))))))))))))))))) rfl rfl
            refine DN.res (l := [.tmp 6]) Try.results9 (res_tmp rfl rfl) rfl ?_
            obtain rfl := Option.some.inj h
            exact ⟨K811, rfl, f818⟩
           | false =>
            intro h; replace h := cF h
            refine WC.cf rfl ?_
            refine WC.skip ?_
            refine DN.seq ?_
            refine WC.seq ?_
            refine WC.rs [(0, 2)] rfl ?_
            refine WO.pn 1 rfl ?_
            refine WO.fin ?_
            refine DN.seq ?_
            refine WC.ret ?_
            have f819 := hE.stp (S3.tr (S7.tr (S11.tr (S20.tr (S32.tr (S39.tr (S279.tr (S286.tr (S289.tr (S300.tr (S307.tr (S310.tr (S314.tr (S419.tr (S424.tr (S436.tr (S447.tr (S452.tr (S464.tr (S475.tr (S491.tr (S507.tr (S529.tr (S543.tr (S553.tr (S562.tr (S800.tr S812))))))))))))))))))))))))))) rfl rfl
            refine DN.res (l := [.tmp 6]) Try.results9 (res_tmp rfl rfl) rfl ?_
            obtain rfl := Option.some.inj h
            exact ⟨K811, rfl, f819⟩

end Go.Proofs.Ytgniipbjjkodaaa
