/- The walks, part 4. By program. -/
import Derived.Test.YtgniipbjjkodaaaFnsC123
set_option linter.unusedVariables false
set_option linter.unusedSimpArgs false
namespace Go.Proofs.Ytgniipbjjkodaaa
open Go Go.Wk Go.Proofs
set_option maxRecDepth 100000
set_option maxHeartbeats 1000000

/- loop.example/g00869/laws.FnExactDuelOf -/
theorem l_FnExactDuelOf_ok {w : World} {κ : Col} {p0 : Sig} {a1_0 : Option Addr} {u1_0 : Nat} {a1_1 : Option Addr} {u1_1 : Nat} {p1 : Machine} {a2_0 : Option Addr} {u2_0 : Nat} {a2_1 : Option Addr} {u2_1 : Nat} {p2 : Rival} (g1_0 : Rd (Rp.sl (Rp.int .i64)) κ w 0 a1_0 u1_0 p1.Next) (g1_1 : Rd (Rp.sl (Rp.int .i64)) κ w 0 a1_1 u1_1 p1.Out) (g2_0 : Rd (Rp.int .i64) κ w 0 a2_0 u2_0 p2.In) (g2_1 : Rd (Rp.sl (Rp.int .i64)) κ w 0 a2_1 u2_1 p2.Next) {r : Bool} (h : l_FnExactDuelOf p0 p1 p2 = some r) : Ret Try.prog 12 [.agg #[.int .i64 p0.In, .int .i64 p0.Out], .agg #[.slice a1_0 p1.Next.length u1_0, .slice a1_1 p1.Out.length u1_1], .agg #[.slice a2_0 p2.In.length u2_0, .slice a2_1 p2.Next.length u2_1]] w (fun v w' => ∃ (κ' : Col), v = .bool r ∧ Ent κ w κ' w') := by
 unfold l_FnExactDuelOf at h
 refine Ret.enter Try.func12 rfl Try.ntmps12 rfl ?_
 dsimp only [envOf]
 have hE := Ent.refl κ w
 refine WC.seq ?_
 refine WC.rs [(0, 1), (1, 1), (2, 1), (3, 2)] rfl ?_
 refine WO.box (κ := κ) 2 rfl rfl rfl rfl rfl rfl rfl fun b3 w1 K2 S3 f4 => ⟨trivial, ?_⟩
 refine WO.box (κ := K2) 3 rfl rfl rfl rfl rfl rfl rfl fun b4 w5 K6 S7 f8 => ⟨trivial, ?_⟩
 refine WO.box (κ := K6) 4 rfl rfl rfl rfl rfl rfl rfl fun b5 w9 K10 S11 f12 => ⟨trivial, ?_⟩
 refine WO.pn 1 rfl ?_
 refine WO.fin ?_
 refine DN.seq ?_
 refine WC.seq ?_
 refine WC.rs [(0, 2)] rfl ?_
 refine WO.pn 1 rfl ?_
 refine WO.fin ?_
 refine DN.seq ?_
 refine WC.seq ?_
 refine WC.rs [(0, 1), (1, 2), (2, 1), (3, 2)] rfl ?_
 have f13 := f8.stp S11 rfl rfl
 refine WO.k1 trivial rfl rfl rfl rfl (rn_la (cs := [.slice a1_0 p1.Next.length u1_0, .slice a1_1 p1.Out.length u1_1]) Try.isAgg77 Try.sizeOf77 rfl rfl rfl (haE f13.cells)) ?_
 refine WO.pn 1 rfl ?_
 obtain ⟨x21, hx21, h⟩ := Option.bind_eq_some_iff.mp h
 have f14 := g1_0.stp (S3.tr (S7.tr S11)) rfl rfl
 have f15 := g1_1.stp (S3.tr (S7.tr S11)) rfl rfl
 refine WO.call rfl rfl rfl rfl rfl rfl Try.call45 (l_szMachine_ok (κ := fun b => mp [] 0 (K10 b)) (p0 := p1) (Sl.map f14 (mp [] 0) rfl rfl) (Sl.map f15 (mp [] 0) rfl rfl) hx21) ?_
 rintro _ w16 ⟨k17, rfl, e18⟩
 obtain ⟨K19, S20, m21⟩ := Ent.mixed (l := []) (κ := K10) e18 5 rfl
 refine ⟨trivial, ?_⟩
 refine WO.pn 1 rfl ?_
 refine WO.fin ?_
 refine DN.seq ?_
 refine WC.seq ?_
 refine WC.seq ?_
 refine WC.rs [(0, 2), (1, 2)] rfl ?_
 refine WO.pn 2 rfl ?_
 refine WO.fin ?_
 refine DN.seq ?_
 revert h
 cases ht23 : decide (x21 < 0) with
 | true =>
  intro h; replace h := cT h
  refine WC.ct rfl ?_
  refine WC.seq ?_
  refine WC.rs [(0, 2)] rfl ?_
  refine WO.pn 1 rfl ?_
  refine WO.fin ?_
  refine DN.seq ?_
  refine WC.ret ?_
  refine DN.retThen ?_
  have f24 := hE.stp (S3.tr (S7.tr (S11.tr S20))) rfl rfl
  refine DN.res (l := [.tmp 6]) Try.results12 (res_tmp rfl rfl) rfl ?_
  obtain rfl := Option.some.inj h
  exact ⟨K19, rfl, f24⟩
 | false =>
  intro h; replace h := cF h
  refine WC.cf rfl ?_
  refine WC.skip ?_
  refine DN.seq ?_
  refine WC.seq ?_
  refine WC.rs [(0, 1), (1, 2), (2, 1), (3, 2)] rfl ?_
  have f25 := f12.stp S20 rfl rfl
  refine WO.k1 trivial rfl rfl rfl rfl (rn_la (cs := [.slice a2_0 p2.In.length u2_0, .slice a2_1 p2.Next.length u2_1]) Try.isAgg27 Try.sizeOf27 rfl rfl rfl (haE f25.cells)) ?_
  refine WO.pn 1 rfl ?_
  obtain ⟨x26, hx26, h⟩ := Option.bind_eq_some_iff.mp h
  have f26 := g2_0.stp (S3.tr (S7.tr (S11.tr S20))) rfl rfl
  have f27 := g2_1.stp (S3.tr (S7.tr (S11.tr S20))) rfl rfl
  refine WO.call rfl rfl rfl rfl rfl rfl Try.call15 (l_szRival_ok (κ := fun b => mp [] 0 (K19 b)) (p0 := p2) (Sl.map f26 (mp [] 0) rfl rfl) (Sl.map f27 (mp [] 0) rfl rfl) hx26) ?_
  rintro _ w28 ⟨k29, rfl, e30⟩
  obtain ⟨K31, S32, m33⟩ := Ent.mixed (l := []) (κ := K19) e30 7 rfl
  refine ⟨trivial, ?_⟩
  refine WO.pn 1 rfl ?_
  refine WO.fin ?_
  refine DN.seq ?_
  refine WC.seq ?_
  refine WC.seq ?_
  refine WC.rs [(0, 2), (1, 2)] rfl ?_
  refine WO.pn 2 rfl ?_
  refine WO.fin ?_
  refine DN.seq ?_
  revert h
  cases ht35 : decide (x26 < 0) with
  | true =>
   intro h; replace h := cT h
   refine WC.ct rfl ?_
   refine WC.seq ?_
   refine WC.rs [(0, 2)] rfl ?_
   refine WO.pn 1 rfl ?_
   refine WO.fin ?_
   refine DN.seq ?_
   refine WC.ret ?_
   refine DN.retThen ?_
   have f36 := hE.stp (S3.tr (S7.tr (S11.tr (S20.tr S32)))) rfl rfl
   refine DN.res (l := [.tmp 6]) Try.results12 (res_tmp rfl rfl) rfl ?_
   obtain rfl := Option.some.inj h
   exact ⟨K31, rfl, f36⟩
  | false =>
   intro h; replace h := cF h
   refine WC.cf rfl ?_
   refine WC.skip ?_
   refine DN.seq ?_
   refine WC.seq ?_
   obtain ⟨x31, hx31, h⟩ := Option.bind_eq_some_iff.mp h
   obtain ⟨x33, hx33, h⟩ := Option.bind_eq_some_iff.mp h
   obtain ⟨x35, hx35, h⟩ := Option.bind_eq_some_iff.mp h
   obtain ⟨x36, hx36, h⟩ := Option.bind_eq_some_iff.mp h
   refine WC.meet (fun L w' => ∃ (κ' : Col) (b8 : Nat) (lar40_0 : Option Addr) (lur40_0 : Nat) (lar40_1 : Option Addr) (lur40_1 : Nat), L = [(3, .pointer (some ⟨b3, 0, none⟩)), (4, .pointer (some ⟨b4, 0, none⟩)), (5, .pointer (some ⟨b5, 0, none⟩)), (8, .pointer (some ⟨b8, 0, none⟩)), (9, .bool x36.2)] ∧ Stp [9, 11, 15, 19, 21, 22, 23] K31 w28 κ' w' ∧ Oc (Ep.int .i64) 2 κ' w' 9 lar40_0 lur40_0 x36.1.Stem ∧ Oc (Ep.int .i64) 2 κ' w' 10 lar40_1 lur40_1 x36.1.Loop ∧ Bc κ' w' 11 b8 82 [.slice lar40_0 x36.1.Stem.length lur40_0, .slice lar40_1 x36.1.Loop.length lur40_1]) ?_ ?_
   ·
    refine WC.rxt (κ := K31) 8 none (by kernel_rfl) fun w44 S45 => ?_
    refine WA.seg (fuel := 10) [(0, 0), (2, 0), (4, 0)] (by kernel_rfl) (by kernel_rfl) rfl ?_
    have f46 := f4.stp (S7.tr (S11.tr (S20.tr (S32.tr S45)))) rfl rfl
    refine WO.k0 rfl rfl rfl rfl (rn_la (cs := [.int .i64 p0.In, .int .i64 p0.Out]) Try.isAgg23 Try.sizeOf23 rfl rfl rfl (haC f46.cells rfl)) ?_
    have f47 := f13.stp (S20.tr (S32.tr S45)) rfl rfl
    refine WO.k0 rfl rfl rfl rfl (rn_la (cs := [.slice a1_0 p1.Next.length u1_0, .slice a1_1 p1.Out.length u1_1]) Try.isAgg77 Try.sizeOf77 rfl rfl rfl (haC f47.cells rfl)) ?_
    have f48 := f25.stp (S32.tr S45) rfl rfl
    refine WO.k0 rfl rfl rfl rfl (rn_la (cs := [.slice a2_0 p2.In.length u2_0, .slice a2_1 p2.Next.length u2_1]) Try.isAgg27 Try.sizeOf27 rfl rfl rfl (haC f48.cells rfl)) ?_
    refine WO.wa ?_
    refine WA.fork2 (fuel := 9) 1 10 (by kernel_rfl) rfl ?_ ?_
    ·
     refine WO.call rfl rfl rfl rfl rfl rfl Try.call17 (l_toSig_ok (κ := fun b => mp [] 0 (K31 b)) (p0 := p0) hx31) ?_
     rintro _ w49 ⟨k50, rfl, e51⟩
     obtain ⟨K52, S53, m54⟩ := Ent.mixed (l := []) (κ := K31) e51 9 rfl
     refine ⟨(S53.cl rfl), ?_⟩
     refine WO.wa ?_
     refine WA.fork2 (fuel := 8) 3 10 (by kernel_rfl) rfl ?_ ?_
     ·
      have f56 := f14.stp (S20.tr (S32.tr (S45.tr S53))) rfl rfl
      have f57 := f15.stp (S20.tr (S32.tr (S45.tr S53))) rfl rfl
      refine WO.call rfl rfl rfl rfl rfl rfl Try.call48 (l_toMachine_ok (κ := fun b => mp [] 0 (K52 b)) (p0 := p1) (Sl.map f56 (mp [] 0) rfl rfl) (Sl.map f57 (mp [] 0) rfl rfl) hx33) ?_
      rintro _ w58 ⟨k59, a33_0, u33_0, a33_1, u33_1, rfl, e60, f61, f62⟩
      obtain ⟨K63, S64, m65⟩ := Ent.mixed (l := []) (κ := K52) e60 11 rfl
      refine ⟨((S53.tr S64).cl rfl), ?_⟩
      have f67 := f61.mx (no_own (no_int _) _) m65 rfl (rfl : 11 + 2 = 13)
      have f68 := f62.mx (no_own (no_int _) _) m65 rfl (rfl : 11 + 3 = 14)
      refine WO.wa ?_
      refine WA.fork2 (fuel := 7) 5 10 (by kernel_rfl) rfl ?_ ?_
      ·
       have f69 := f26.stp (S32.tr (S45.tr (S53.tr S64))) rfl rfl
       have f70 := f27.stp (S32.tr (S45.tr (S53.tr S64))) rfl rfl
       refine WO.call rfl rfl rfl rfl rfl rfl Try.call18 (l_toRival_ok (κ := fun b => mp [] 0 (K63 b)) (p0 := p2) (Sl.map f69 (mp [] 0) rfl rfl) (Sl.map f70 (mp [] 0) rfl rfl) hx35) ?_
       rintro _ w71 ⟨k72, a35_0, u35_0, a35_1, u35_1, rfl, e73, f74, f75⟩
       obtain ⟨K76, S77, m78⟩ := Ent.mixed (l := []) (κ := K63) e73 15 rfl
       refine ⟨((S53.tr (S64.tr S77)).cl rfl), ?_⟩
       have f80 := f74.mx (no_int _) m78 rfl (rfl : 15 + 2 = 17)
       have f81 := f75.mx (no_own (no_int _) _) m78 rfl (rfl : 15 + 3 = 18)
       refine WO.wa ?_
       refine WA.fork2 (fuel := 6) 6 10 (by kernel_rfl) rfl ?_ ?_
       ·
        have f82 := f67.stp S77 rfl rfl
        have f83 := f68.stp S77 rfl rfl
        refine WO.call rfl rfl rfl rfl rfl rfl Try.call61 (s_DuelOf_ok (κ := fun b => mp [] 0 (K76 b)) (p0 := x31) (p1 := x33) (p2 := x35) (Sl.map f82.rdc (mp [] 0) rfl rfl) (Sl.map f83.rdc (mp [] 0) rfl rfl) (Sl.map f80.rdc (mp [] 0) rfl rfl) (Sl.map f81.rdc (mp [] 0) rfl rfl) hx36) ?_
        rintro _ w84 ⟨k85, a36_0, u36_0, a36_1, u36_1, rfl, e86, f87, f88⟩
        obtain ⟨K89, S90, m91⟩ := Ent.mixed (l := []) (κ := K76) e86 19 rfl
        refine ⟨((S53.tr (S64.tr (S77.tr S90))).cl rfl), ?_⟩
        have f93 := f87.mx (no_int _) m91 rfl (rfl : 19 + 2 = 21)
        have f94 := f88.mx (no_int _) m91 rfl (rfl : 19 + 3 = 22)
        refine WO.wa ?_
        refine WA.seg (fuel := 0) [(7, 2), (8, 2), (9, 2), (10, 1), (11, 1), (12, 2)] (by kernel_rfl) (by kernel_rfl) rfl ?_
        refine WO.pn 3 rfl ?_
        refine WO.alloc (κ := K89) 23 rfl rfl rfl rfl rfl Try.zeroValue82 rfl fun b8 w95 K96 S97 f98 => ⟨((S53.tr (S64.tr (S77.tr (S90.tr S97)))).cl rfl), ?_⟩
        refine WO.stB0 (κ := K96) 23 (vc := [.slice a36_0 x36.1.Stem.length u36_0, .slice a36_1 x36.1.Loop.length u36_1]) rfl rfl rfl rfl rfl rfl rfl Try.sizeOf82 rfl rfl f98 rfl fun w99 S100 f101 => ⟨((S53.tr (S64.tr (S77.tr (S90.tr (S97.tr S100))))).cl rfl), ?_⟩
        refine WO.pn 1 rfl ?_
        refine WO.wa ?_
        refine WA.last [] (by kernel_rfl) (by kernel_rfl) rfl ?_
        refine WO.fin ?_
        have f102 := f93.stp (S97.tr S100) rfl rfl
        have f103 := f94.stp (S97.tr S100) rfl rfl
        exact DN.meet _ ⟨(fun b => ren [(21, 9), (22, 10), (23, 11)] (K96 b)), b8, a36_0, u36_0, a36_1, u36_1, rfl, (Stp.ren ((S45.tr (S53.tr (S64.tr (S77.tr (S90.tr (S97.tr S100)))))).wk rfl) [(21, 9), (22, 10), (23, 11)] rfl), (f102.map (ren [(21, 9), (22, 10), (23, 11)]) rfl rfl), (f103.map (ren [(21, 9), (22, 10), (23, 11)]) rfl rfl), (f101.map (ren [(21, 9), (22, 10), (23, 11)]) rfl rfl)⟩ fun a ha => (ha.more (ha.more (ha.more (ha.more (ha.more ha.nil rfl) rfl) rfl) rfl) rfl)
       ·
        refine WO.alloc (κ := K76) 19 rfl rfl rfl rfl rfl Try.zeroValue82 rfl fun b8 w104 K105 S106 f107 => ⟨((S53.tr (S64.tr (S77.tr S106))).cl rfl), ?_⟩
        refine WO.wa ?_
        refine WA.seg (fuel := 0) [(6, 1), (7, 2), (8, 2), (9, 2), (11, 1), (12, 2)] (by kernel_rfl) (by kernel_rfl) rfl ?_
        have f108 := f67.stp (S77.tr S106) rfl rfl
        have f109 := f68.stp (S77.tr S106) rfl rfl
        have f110 := f80.stp S106 rfl rfl
        have f111 := f81.stp S106 rfl rfl
        refine WO.call rfl rfl rfl rfl rfl rfl Try.call61 (s_DuelOf_ok (κ := fun b => mp [] 0 (K105 b)) (p0 := x31) (p1 := x33) (p2 := x35) (Sl.map f108.rdc (mp [] 0) rfl rfl) (Sl.map f109.rdc (mp [] 0) rfl rfl) (Sl.map f110.rdc (mp [] 0) rfl rfl) (Sl.map f111.rdc (mp [] 0) rfl rfl) hx36) ?_
        rintro _ w112 ⟨k113, a36_0, u36_0, a36_1, u36_1, rfl, e114, f115, f116⟩
        obtain ⟨K117, S118, m119⟩ := Ent.mixed (l := []) (κ := K105) e114 20 rfl
        refine ⟨((S53.tr (S64.tr (S77.tr (S106.tr S118)))).cl rfl), ?_⟩
        have f121 := f115.mx (no_int _) m119 rfl (rfl : 20 + 2 = 22)
        have f122 := f116.mx (no_int _) m119 rfl (rfl : 20 + 3 = 23)
        refine WO.pn 3 rfl ?_
        have f123 := f107.stp S118 rfl rfl
        refine WO.stB0 (κ := K117) 19 (vc := [.slice a36_0 x36.1.Stem.length u36_0, .slice a36_1 x36.1.Loop.length u36_1]) rfl rfl rfl rfl rfl rfl rfl Try.sizeOf82 rfl rfl f123 rfl fun w124 S125 f126 => ⟨((S53.tr (S64.tr (S77.tr (S106.tr (S118.tr S125))))).cl rfl), ?_⟩
        refine WO.pn 1 rfl ?_
        refine WO.wa ?_
        refine WA.last [] (by kernel_rfl) (by kernel_rfl) rfl ?_
        refine WO.fin ?_
        have f127 := f121.stp S125 rfl rfl
        have f128 := f122.stp S125 rfl rfl
        exact DN.meet _ ⟨(fun b => ren [(22, 9), (23, 10), (19, 11)] (K117 b)), b8, a36_0, u36_0, a36_1, u36_1, rfl, (Stp.ren ((S45.tr (S53.tr (S64.tr (S77.tr (S106.tr (S118.tr S125)))))).wk rfl) [(22, 9), (23, 10), (19, 11)] rfl), (f127.map (ren [(22, 9), (23, 10), (19, 11)]) rfl rfl), (f128.map (ren [(22, 9), (23, 10), (19, 11)]) rfl rfl), (f126.map (ren [(22, 9), (23, 10), (19, 11)]) rfl rfl)⟩ fun a ha => (ha.more (ha.more (ha.more (ha.more (ha.more ha.nil rfl) rfl) rfl) rfl) rfl)
      ·
       refine WO.alloc (κ := K63) 15 rfl rfl rfl rfl rfl Try.zeroValue82 rfl fun b8 w129 K130 S131 f132 => ⟨((S53.tr (S64.tr S131)).cl rfl), ?_⟩
       refine WO.wa ?_
       refine WA.seg (fuel := 0) [(5, 1), (6, 1), (7, 2), (8, 2), (9, 2), (11, 1), (12, 2)] (by kernel_rfl) (by kernel_rfl) rfl ?_
       have f133 := f26.stp (S32.tr (S45.tr (S53.tr (S64.tr S131)))) rfl rfl
       have f134 := f27.stp (S32.tr (S45.tr (S53.tr (S64.tr S131)))) rfl rfl
       refine WO.call rfl rfl rfl rfl rfl rfl Try.call18 (l_toRival_ok (κ := fun b => mp [] 0 (K130 b)) (p0 := p2) (Sl.map f133 (mp [] 0) rfl rfl) (Sl.map f134 (mp [] 0) rfl rfl) hx35) ?_
       rintro _ w135 ⟨k136, a35_0, u35_0, a35_1, u35_1, rfl, e137, f138, f139⟩
       obtain ⟨K140, S141, m142⟩ := Ent.mixed (l := []) (κ := K130) e137 16 rfl
       refine ⟨((S53.tr (S64.tr (S131.tr S141))).cl rfl), ?_⟩
       have f144 := f138.mx (no_int _) m142 rfl (rfl : 16 + 2 = 18)
       have f145 := f139.mx (no_own (no_int _) _) m142 rfl (rfl : 16 + 3 = 19)
       have f146 := f67.stp (S131.tr S141) rfl rfl
       have f147 := f68.stp (S131.tr S141) rfl rfl
       refine WO.call rfl rfl rfl rfl rfl rfl Try.call61 (s_DuelOf_ok (κ := fun b => mp [] 0 (K140 b)) (p0 := x31) (p1 := x33) (p2 := x35) (Sl.map f146.rdc (mp [] 0) rfl rfl) (Sl.map f147.rdc (mp [] 0) rfl rfl) (Sl.map f144.rdc (mp [] 0) rfl rfl) (Sl.map f145.rdc (mp [] 0) rfl rfl) hx36) ?_
       rintro _ w148 ⟨k149, a36_0, u36_0, a36_1, u36_1, rfl, e150, f151, f152⟩
       obtain ⟨K153, S154, m155⟩ := Ent.mixed (l := []) (κ := K140) e150 20 rfl
       refine ⟨((S53.tr (S64.tr (S131.tr (S141.tr S154)))).cl rfl), ?_⟩
       have f157 := f151.mx (no_int _) m155 rfl (rfl : 20 + 2 = 22)
       have f158 := f152.mx (no_int _) m155 rfl (rfl : 20 + 3 = 23)
       refine WO.pn 3 rfl ?_
       have f159 := f132.stp (S141.tr S154) rfl rfl
       refine WO.stB0 (κ := K153) 15 (vc := [.slice a36_0 x36.1.Stem.length u36_0, .slice a36_1 x36.1.Loop.length u36_1]) rfl rfl rfl rfl rfl rfl rfl Try.sizeOf82 rfl rfl f159 rfl fun w160 S161 f162 => ⟨((S53.tr (S64.tr (S131.tr (S141.tr (S154.tr S161))))).cl rfl), ?_⟩
       refine WO.pn 1 rfl ?_
       refine WO.wa ?_
       refine WA.last [] (by kernel_rfl) (by kernel_rfl) rfl ?_
       refine WO.fin ?_
       have f163 := f157.stp S161 rfl rfl
       have f164 := f158.stp S161 rfl rfl
       exact DN.meet _ ⟨(fun b => ren [(22, 9), (23, 10), (15, 11)] (K153 b)), b8, a36_0, u36_0, a36_1, u36_1, rfl, (Stp.ren ((S45.tr (S53.tr (S64.tr (S131.tr (S141.tr (S154.tr S161)))))).wk rfl) [(22, 9), (23, 10), (15, 11)] rfl), (f163.map (ren [(22, 9), (23, 10), (15, 11)]) rfl rfl), (f164.map (ren [(22, 9), (23, 10), (15, 11)]) rfl rfl), (f162.map (ren [(22, 9), (23, 10), (15, 11)]) rfl rfl)⟩ fun a ha => (ha.more (ha.more (ha.more (ha.more (ha.more ha.nil rfl) rfl) rfl) rfl) rfl)
     ·
      refine WO.alloc (κ := K52) 11 rfl rfl rfl rfl rfl Try.zeroValue82 rfl fun b8 w165 K166 S167 f168 => ⟨((S53.tr S167).cl rfl), ?_⟩
      refine WO.wa ?_
      refine WA.seg (fuel := 0) [(3, 1), (5, 1), (6, 1), (7, 2), (8, 2), (9, 2), (11, 1), (12, 2)] (by kernel_rfl) (by kernel_rfl) rfl ?_
      have f169 := f14.stp (S20.tr (S32.tr (S45.tr (S53.tr S167)))) rfl rfl
      have f170 := f15.stp (S20.tr (S32.tr (S45.tr (S53.tr S167)))) rfl rfl
      refine WO.call rfl rfl rfl rfl rfl rfl Try.call48 (l_toMachine_ok (κ := fun b => mp [] 0 (K166 b)) (p0 := p1) (Sl.map f169 (mp [] 0) rfl rfl) (Sl.map f170 (mp [] 0) rfl rfl) hx33) ?_
      rintro _ w171 ⟨k172, a33_0, u33_0, a33_1, u33_1, rfl, e173, f174, f175⟩
      obtain ⟨K176, S177, m178⟩ := Ent.mixed (l := []) (κ := K166) e173 12 rfl
      refine ⟨((S53.tr (S167.tr S177)).cl rfl), ?_⟩
      have f180 := f174.mx (no_own (no_int _) _) m178 rfl (rfl : 12 + 2 = 14)
      have f181 := f175.mx (no_own (no_int _) _) m178 rfl (rfl : 12 + 3 = 15)
      have f182 := f26.stp (S32.tr (S45.tr (S53.tr (S167.tr S177)))) rfl rfl
      have f183 := f27.stp (S32.tr (S45.tr (S53.tr (S167.tr S177)))) rfl rfl
      refine WO.call rfl rfl rfl rfl rfl rfl Try.call18 (l_toRival_ok (κ := fun b => mp [] 0 (K176 b)) (p0 := p2) (Sl.map f182 (mp [] 0) rfl rfl) (Sl.map f183 (mp [] 0) rfl rfl) hx35) ?_
      rintro _ w184 ⟨k185, a35_0, u35_0, a35_1, u35_1, rfl, e186, f187, f188⟩
      obtain ⟨K189, S190, m191⟩ := Ent.mixed (l := []) (κ := K176) e186 16 rfl
      refine ⟨((S53.tr (S167.tr (S177.tr S190))).cl rfl), ?_⟩
      have f193 := f187.mx (no_int _) m191 rfl (rfl : 16 + 2 = 18)
      have f194 := f188.mx (no_own (no_int _) _) m191 rfl (rfl : 16 + 3 = 19)
      have f195 := f180.stp S190 rfl rfl
      have f196 := f181.stp S190 rfl rfl
      refine WO.call rfl rfl rfl rfl rfl rfl Try.call61 (s_DuelOf_ok (κ := fun b => mp [] 0 (K189 b)) (p0 := x31) (p1 := x33) (p2 := x35) (Sl.map f195.rdc (mp [] 0) rfl rfl) (Sl.map f196.rdc (mp [] 0) rfl rfl) (Sl.map f193.rdc (mp [] 0) rfl rfl) (Sl.map f194.rdc (mp [] 0) rfl rfl) hx36) ?_
      rintro _ w197 ⟨k198, a36_0, u36_0, a36_1, u36_1, rfl, e199, f200, f201⟩
      obtain ⟨K202, S203, m204⟩ := Ent.mixed (l := []) (κ := K189) e199 20 rfl
      refine ⟨((S53.tr (S167.tr (S177.tr (S190.tr S203)))).cl rfl), ?_⟩
      have f206 := f200.mx (no_int _) m204 rfl (rfl : 20 + 2 = 22)
      have f207 := f201.mx (no_int _) m204 rfl (rfl : 20 + 3 = 23)
      refine WO.pn 3 rfl ?_
      have f208 := f168.stp (S177.tr (S190.tr S203)) rfl rfl
      refine WO.stB0 (κ := K202) 11 (vc := [.slice a36_0 x36.1.Stem.length u36_0, .slice a36_1 x36.1.Loop.length u36_1]) rfl rfl rfl rfl rfl rfl rfl Try.sizeOf82 rfl rfl f208 rfl fun w209 S210 f211 => ⟨((S53.tr (S167.tr (S177.tr (S190.tr (S203.tr S210))))).cl rfl), ?_⟩
      refine WO.pn 1 rfl ?_
      refine WO.wa ?_
      refine WA.last [] (by kernel_rfl) (by kernel_rfl) rfl ?_
      refine WO.fin ?_
      have f212 := f206.stp S210 rfl rfl
      have f213 := f207.stp S210 rfl rfl
      exact DN.meet _ ⟨(fun b => ren [(22, 9), (23, 10)] (K202 b)), b8, a36_0, u36_0, a36_1, u36_1, rfl, (Stp.ren ((S45.tr (S53.tr (S167.tr (S177.tr (S190.tr (S203.tr S210)))))).wk rfl) [(22, 9), (23, 10)] rfl), (f212.map (ren [(22, 9), (23, 10)]) rfl rfl), (f213.map (ren [(22, 9), (23, 10)]) rfl rfl), (f211.map (ren [(22, 9), (23, 10)]) rfl rfl)⟩ fun a ha => (ha.more (ha.more (ha.more (ha.more (ha.more ha.nil rfl) rfl) rfl) rfl) rfl)
    ·
     refine WO.alloc (κ := K31) 9 rfl rfl rfl rfl rfl Try.zeroValue82 rfl fun b8 w214 K215 S216 f217 => ⟨(S216.cl rfl), ?_⟩
     refine WO.wa ?_
     refine WA.seg (fuel := 0) [(1, 1), (3, 1), (5, 1), (6, 1), (7, 2), (8, 2), (9, 2), (11, 1), (12, 2)] (by kernel_rfl) (by kernel_rfl) rfl ?_
     refine WO.call rfl rfl rfl rfl rfl rfl Try.call17 (l_toSig_ok (κ := fun b => mp [] 0 (K215 b)) (p0 := p0) hx31) ?_
     rintro _ w218 ⟨k219, rfl, e220⟩
     obtain ⟨K221, S222, m223⟩ := Ent.mixed (l := []) (κ := K215) e220 10 rfl
     refine ⟨((S216.tr S222).cl rfl), ?_⟩
     have f225 := f14.stp (S20.tr (S32.tr (S45.tr (S216.tr S222)))) rfl rfl
     have f226 := f15.stp (S20.tr (S32.tr (S45.tr (S216.tr S222)))) rfl rfl
     refine WO.call rfl rfl rfl rfl rfl rfl Try.call48 (l_toMachine_ok (κ := fun b => mp [] 0 (K221 b)) (p0 := p1) (Sl.map f225 (mp [] 0) rfl rfl) (Sl.map f226 (mp [] 0) rfl rfl) hx33) ?_
     rintro _ w227 ⟨k228, a33_0, u33_0, a33_1, u33_1, rfl, e229, f230, f231⟩
     obtain ⟨K232, S233, m234⟩ := Ent.mixed (l := []) (κ := K221) e229 12 rfl
     refine ⟨((S216.tr (S222.tr S233)).cl rfl), ?_⟩
     have f236 := f230.mx (no_own (no_int _) _) m234 rfl (rfl : 12 + 2 = 14)
     have f237 := f231.mx (no_own (no_int _) _) m234 rfl (rfl : 12 + 3 = 15)
     have f238 := f26.stp (S32.tr (S45.tr (S216.tr (S222.tr S233)))) rfl rfl
     have f239 := f27.stp (S32.tr (S45.tr (S216.tr (S222.tr S233)))) rfl rfl
     refine WO.call rfl rfl rfl rfl rfl rfl Try.call18 (l_toRival_ok (κ := fun b => mp [] 0 (K232 b)) (p0 := p2) (Sl.map f238 (mp [] 0) rfl rfl) (Sl.map f239 (mp [] 0) rfl rfl) hx35) ?_
     rintro _ w240 ⟨k241, a35_0, u35_0, a35_1, u35_1, rfl, e242, f243, f244⟩
     obtain ⟨K245, S246, m247⟩ := Ent.mixed (l := []) (κ := K232) e242 16 rfl
     refine ⟨((S216.tr (S222.tr (S233.tr S246))).cl rfl), ?_⟩
     have f249 := f243.mx (no_int _) m247 rfl (rfl : 16 + 2 = 18)
     have f250 := f244.mx (no_own (no_int _) _) m247 rfl (rfl : 16 + 3 = 19)
     have f251 := f236.stp S246 rfl rfl
     have f252 := f237.stp S246 rfl rfl
     refine WO.call rfl rfl rfl rfl rfl rfl Try.call61 (s_DuelOf_ok (κ := fun b => mp [] 0 (K245 b)) (p0 := x31) (p1 := x33) (p2 := x35) (Sl.map f251.rdc (mp [] 0) rfl rfl) (Sl.map f252.rdc (mp [] 0) rfl rfl) (Sl.map f249.rdc (mp [] 0) rfl rfl) (Sl.map f250.rdc (mp [] 0) rfl rfl) hx36) ?_
     rintro _ w253 ⟨k254, a36_0, u36_0, a36_1, u36_1, rfl, e255, f256, f257⟩
     obtain ⟨K258, S259, m260⟩ := Ent.mixed (l := []) (κ := K245) e255 20 rfl
     refine ⟨((S216.tr (S222.tr (S233.tr (S246.tr S259)))).cl rfl), ?_⟩
     have f262 := f256.mx (no_int _) m260 rfl (rfl : 20 + 2 = 22)
     have f263 := f257.mx (no_int _) m260 rfl (rfl : 20 + 3 = 23)
     refine WO.pn 3 rfl ?_
     have f264 := f217.stp (S222.tr (S233.tr (S246.tr S259))) rfl rfl
     refine WO.stB0 (κ := K258) 9 (vc := [.slice a36_0 x36.1.Stem.length u36_0, .slice a36_1 x36.1.Loop.length u36_1]) rfl rfl rfl rfl rfl rfl rfl Try.sizeOf82 rfl rfl f264 rfl fun w265 S266 f267 => ⟨((S216.tr (S222.tr (S233.tr (S246.tr (S259.tr S266))))).cl rfl), ?_⟩
     refine WO.pn 1 rfl ?_
     refine WO.wa ?_
     refine WA.last [] (by kernel_rfl) (by kernel_rfl) rfl ?_
     refine WO.fin ?_
     have f268 := f262.stp S266 rfl rfl
     have f269 := f263.stp S266 rfl rfl
     exact DN.meet _ ⟨(fun b => ren [(22, 9), (23, 10), (9, 11)] (K258 b)), b8, a36_0, u36_0, a36_1, u36_1, rfl, (Stp.ren ((S45.tr (S216.tr (S222.tr (S233.tr (S246.tr (S259.tr S266)))))).wk rfl) [(22, 9), (23, 10), (9, 11)] rfl), (f268.map (ren [(22, 9), (23, 10), (9, 11)]) rfl rfl), (f269.map (ren [(22, 9), (23, 10), (9, 11)]) rfl rfl), (f267.map (ren [(22, 9), (23, 10), (9, 11)]) rfl rfl)⟩ fun a ha => (ha.more (ha.more (ha.more (ha.more (ha.more ha.nil rfl) rfl) rfl) rfl) rfl)
   rintro _ w37 ⟨K38, b8, lar40_0, lur40_0, lar40_1, lur40_1, rfl, S39, f41, f42, f43⟩
   refine DN.seq ?_
   refine WC.seq ?_
   refine WC.rs [(0, 1), (1, 1), (2, 1), (3, 1)] rfl ?_
   have f270 := f13.stp (S20.tr (S32.tr S39)) rfl rfl
   refine WO.k1 trivial rfl rfl rfl rfl (rn_la (cs := [.slice a1_0 p1.Next.length u1_0, .slice a1_1 p1.Out.length u1_1]) Try.isAgg77 Try.sizeOf77 rfl rfl rfl (haE f270.cells)) ?_
   obtain ⟨x40, hx40, h⟩ := Option.bind_eq_some_iff.mp h
   have f271 := f14.stp (S20.tr (S32.tr S39)) rfl rfl
   have f272 := f15.stp (S20.tr (S32.tr S39)) rfl rfl
   refine WO.call rfl rfl rfl rfl rfl rfl Try.call48 (l_toMachine_ok (κ := fun b => mp [] 0 (K38 b)) (p0 := p1) (Sl.map f271 (mp [] 0) rfl rfl) (Sl.map f272 (mp [] 0) rfl rfl) hx40) ?_
   rintro _ w273 ⟨k274, a40_0, u40_0, a40_1, u40_1, rfl, e275, f276, f277⟩
   obtain ⟨K278, S279, m280⟩ := Ent.mixed (l := []) (κ := K38) e275 12 rfl
   refine ⟨trivial, ?_⟩
   have f282 := f276.mx (no_own (no_int _) _) m280 rfl (rfl : 12 + 2 = 14)
   have f283 := f277.mx (no_own (no_int _) _) m280 rfl (rfl : 12 + 3 = 15)
   refine WO.alloc (κ := K278) 16 rfl rfl rfl rfl rfl Try.zeroValue84 rfl fun b10 w284 K285 S286 f287 => ⟨trivial, ?_⟩
   refine WO.stB0 (κ := K285) 16 (vc := [.slice a40_0 x40.Next.length u40_0, .slice a40_1 x40.Out.length u40_1]) rfl rfl rfl rfl rfl rfl rfl Try.sizeOf84 rfl rfl f287 rfl fun w288 S289 f290 => ⟨trivial, ?_⟩
   refine WO.fin ?_
   refine DN.seq ?_
   refine WC.seq ?_
   refine WC.rs [(0, 1), (1, 1), (2, 1), (3, 1)] rfl ?_
   have f291 := f25.stp (S32.tr (S39.tr (S279.tr (S286.tr S289)))) rfl rfl
   refine WO.k1 trivial rfl rfl rfl rfl (rn_la (cs := [.slice a2_0 p2.In.length u2_0, .slice a2_1 p2.Next.length u2_1]) Try.isAgg27 Try.sizeOf27 rfl rfl rfl (haE f291.cells)) ?_
   obtain ⟨x42, hx42, h⟩ := Option.bind_eq_some_iff.mp h
   have f292 := f26.stp (S32.tr (S39.tr (S279.tr (S286.tr S289)))) rfl rfl
   have f293 := f27.stp (S32.tr (S39.tr (S279.tr (S286.tr S289)))) rfl rfl
   refine WO.call rfl rfl rfl rfl rfl rfl Try.call18 (l_toRival_ok (κ := fun b => mp [] 0 (K285 b)) (p0 := p2) (Sl.map f292 (mp [] 0) rfl rfl) (Sl.map f293 (mp [] 0) rfl rfl) hx42) ?_
   rintro _ w294 ⟨k295, a42_0, u42_0, a42_1, u42_1, rfl, e296, f297, f298⟩
   obtain ⟨K299, S300, m301⟩ := Ent.mixed (l := []) (κ := K285) e296 17 rfl
   refine ⟨trivial, ?_⟩
   have f303 := f297.mx (no_int _) m301 rfl (rfl : 17 + 2 = 19)
   have f304 := f298.mx (no_own (no_int _) _) m301 rfl (rfl : 17 + 3 = 20)
   refine WO.alloc (κ := K299) 21 rfl rfl rfl rfl rfl Try.zeroValue32 rfl fun b11 w305 K306 S307 f308 => ⟨trivial, ?_⟩
   refine WO.stB0 (κ := K306) 21 (vc := [.slice a42_0 x42.In.length u42_0, .slice a42_1 x42.Next.length u42_1]) rfl rfl rfl rfl rfl rfl rfl Try.sizeOf32 rfl rfl f308 rfl fun w309 S310 f311 => ⟨trivial, ?_⟩
   refine WO.fin ?_
   refine DN.seq ?_
   refine WC.seq ?_
   obtain ⟨x45, hx45, h⟩ := Option.bind_eq_some_iff.mp h
   obtain ⟨x48, hx48, h⟩ := Option.bind_eq_some_iff.mp h
   refine WC.meet (fun L w' => ∃ (κ' : Col) (b12 : Nat) (lar315_0 : Option Addr) (lur315_0 : Nat) (lar315_1 : Option Addr) (lur315_1 : Nat), L = [(3, .pointer (some ⟨b3, 0, none⟩)), (4, .pointer (some ⟨b4, 0, none⟩)), (5, .pointer (some ⟨b5, 0, none⟩)), (8, .pointer (some ⟨b8, 0, none⟩)), (9, .bool x36.2), (10, .pointer (some ⟨b10, 0, none⟩)), (11, .pointer (some ⟨b11, 0, none⟩)), (12, .pointer (some ⟨b12, 0, none⟩)), (13, .bool x48.2)] ∧ Stp [22, 24, 26, 27, 28] K306 w309 κ' w' ∧ Oc (Ep.int .i64) 2 κ' w' 22 lar315_0 lur315_0 x48.1.Stem ∧ Oc (Ep.int .i64) 2 κ' w' 23 lar315_1 lur315_1 x48.1.Loop ∧ Bc κ' w' 24 b12 82 [.slice lar315_0 x48.1.Stem.length lur315_0, .slice lar315_1 x48.1.Loop.length lur315_1]) ?_ ?_
   ·
    refine WC.rxt (κ := K306) 21 none (by kernel_rfl) fun w319 S320 => ?_
    refine WA.seg (fuel := 8) [(0, 0), (2, 0), (3, 0)] (by kernel_rfl) (by kernel_rfl) rfl ?_
    have f321 := f4.stp (S7.tr (S11.tr (S20.tr (S32.tr (S39.tr (S279.tr (S286.tr (S289.tr (S300.tr (S307.tr (S310.tr S320))))))))))) rfl rfl
    refine WO.k0 rfl rfl rfl rfl (rn_la (cs := [.int .i64 p0.In, .int .i64 p0.Out]) Try.isAgg23 Try.sizeOf23 rfl rfl rfl (haC f321.cells rfl)) ?_
    have f322 := f290.stp (S300.tr (S307.tr (S310.tr S320))) rfl rfl
    refine WO.k0 rfl rfl rfl rfl (rn_la (cs := [.slice a40_0 x40.Next.length u40_0, .slice a40_1 x40.Out.length u40_1]) Try.isAgg84 Try.sizeOf84 rfl rfl rfl (haC f322.cells rfl)) ?_
    have f323 := f311.stp S320 rfl rfl
    refine WO.k0 rfl rfl rfl rfl (rn_la (cs := [.slice a42_0 x42.In.length u42_0, .slice a42_1 x42.Next.length u42_1]) Try.isAgg32 Try.sizeOf32 rfl rfl rfl (haC f323.cells rfl)) ?_
    refine WO.wa ?_
    refine WA.fork2 (fuel := 7) 1 8 (by kernel_rfl) rfl ?_ ?_
    ·
     refine WO.call rfl rfl rfl rfl rfl rfl Try.call17 (l_toSig_ok (κ := fun b => mp [] 0 (K306 b)) (p0 := p0) hx45) ?_
     rintro _ w324 ⟨k325, rfl, e326⟩
     obtain ⟨K327, S328, m329⟩ := Ent.mixed (l := []) (κ := K306) e326 22 rfl
     refine ⟨(S328.cl rfl), ?_⟩
     refine WO.wa ?_
     refine WA.fork2 (fuel := 6) 4 8 (by kernel_rfl) rfl ?_ ?_
     ·
      have f331 := f282.stp (S286.tr (S289.tr (S300.tr (S307.tr (S310.tr (S320.tr S328)))))) rfl rfl
      have f332 := f283.stp (S286.tr (S289.tr (S300.tr (S307.tr (S310.tr (S320.tr S328)))))) rfl rfl
      have f333 := f303.stp (S307.tr (S310.tr (S320.tr S328))) rfl rfl
      have f334 := f304.stp (S307.tr (S310.tr (S320.tr S328))) rfl rfl
      refine WO.call rfl rfl rfl rfl rfl rfl Try.call62 (i_DuelOf_ok (κ := fun b => mp [] 0 (K327 b)) (p0 := x45) (p1 := x40) (p2 := x42) (Sl.map f331.rdc (mp [] 0) rfl rfl) (Sl.map f332.rdc (mp [] 0) rfl rfl) (Sl.map f333.rdc (mp [] 0) rfl rfl) (Sl.map f334.rdc (mp [] 0) rfl rfl) hx48) ?_
      rintro _ w335 ⟨k336, a48_0, u48_0, a48_1, u48_1, rfl, e337, f338, f339⟩
      obtain ⟨K340, S341, m342⟩ := Ent.mixed (l := []) (κ := K327) e337 24 rfl
      refine ⟨((S328.tr S341).cl rfl), ?_⟩
      have f344 := f338.mx (no_int _) m342 rfl (rfl : 24 + 2 = 26)
      have f345 := f339.mx (no_int _) m342 rfl (rfl : 24 + 3 = 27)
      refine WO.wa ?_
      refine WA.seg (fuel := 0) [(5, 2), (6, 2), (7, 2), (8, 1), (9, 1), (10, 2)] (by kernel_rfl) (by kernel_rfl) rfl ?_
      refine WO.pn 3 rfl ?_
      refine WO.alloc (κ := K340) 28 rfl rfl rfl rfl rfl Try.zeroValue82 rfl fun b12 w346 K347 S348 f349 => ⟨((S328.tr (S341.tr S348)).cl rfl), ?_⟩
      refine WO.stB0 (κ := K347) 28 (vc := [.slice a48_0 x48.1.Stem.length u48_0, .slice a48_1 x48.1.Loop.length u48_1]) rfl rfl rfl rfl rfl rfl rfl Try.sizeOf82 rfl rfl f349 rfl fun w350 S351 f352 => ⟨((S328.tr (S341.tr (S348.tr S351))).cl rfl), ?_⟩
      refine WO.pn 1 rfl ?_
      refine WO.wa ?_
      refine WA.last [] (by kernel_rfl) (by kernel_rfl) rfl ?_
      refine WO.fin ?_
      have f353 := f344.stp (S348.tr S351) rfl rfl
      have f354 := f345.stp (S348.tr S351) rfl rfl
      exact DN.meet _ ⟨(fun b => ren [(26, 22), (27, 23), (28, 24)] (K347 b)), b12, a48_0, u48_0, a48_1, u48_1, rfl, (Stp.ren ((S320.tr (S328.tr (S341.tr (S348.tr S351)))).wk rfl) [(26, 22), (27, 23), (28, 24)] rfl), (f353.map (ren [(26, 22), (27, 23), (28, 24)]) rfl rfl), (f354.map (ren [(26, 22), (27, 23), (28, 24)]) rfl rfl), (f352.map (ren [(26, 22), (27, 23), (28, 24)]) rfl rfl)⟩ fun a ha => (ha.more (ha.more (ha.more (ha.more (ha.more (ha.more (ha.more (ha.more (ha.more ha.nil rfl) rfl) rfl) rfl) rfl) rfl) rfl) rfl) rfl)
     ·
      refine WO.alloc (κ := K327) 24 rfl rfl rfl rfl rfl Try.zeroValue82 rfl fun b12 w355 K356 S357 f358 => ⟨((S328.tr S357).cl rfl), ?_⟩
      refine WO.wa ?_
      refine WA.seg (fuel := 0) [(4, 1), (5, 2), (6, 2), (7, 2), (9, 1), (10, 2)] (by kernel_rfl) (by kernel_rfl) rfl ?_
      have f359 := f282.stp (S286.tr (S289.tr (S300.tr (S307.tr (S310.tr (S320.tr (S328.tr S357))))))) rfl rfl
      have f360 := f283.stp (S286.tr (S289.tr (S300.tr (S307.tr (S310.tr (S320.tr (S328.tr S357))))))) rfl rfl
      have f361 := f303.stp (S307.tr (S310.tr (S320.tr (S328.tr S357)))) rfl rfl
      have f362 := f304.stp (S307.tr (S310.tr (S320.tr (S328.tr S357)))) rfl rfl
      refine WO.call rfl rfl rfl rfl rfl rfl Try.call62 (i_DuelOf_ok (κ := fun b => mp [] 0 (K356 b)) (p0 := x45) (p1 := x40) (p2 := x42) (Sl.map f359.rdc (mp [] 0) rfl rfl) (Sl.map f360.rdc (mp [] 0) rfl rfl) (Sl.map f361.rdc (mp [] 0) rfl rfl) (Sl.map f362.rdc (mp [] 0) rfl rfl) hx48) ?_
      rintro _ w363 ⟨k364, a48_0, u48_0, a48_1, u48_1, rfl, e365, f366, f367⟩
      obtain ⟨K368, S369, m370⟩ := Ent.mixed (l := []) (κ := K356) e365 25 rfl
      refine ⟨((S328.tr (S357.tr S369)).cl rfl), ?_⟩
      have f372 := f366.mx (no_int _) m370 rfl (rfl : 25 + 2 = 27)
      have f373 := f367.mx (no_int _) m370 rfl (rfl : 25 + 3 = 28)
      refine WO.pn 3 rfl ?_
      have f374 := f358.stp S369 rfl rfl
      refine WO.stB0 (κ := K368) 24 (vc := [.slice a48_0 x48.1.Stem.length u48_0, .slice a48_1 x48.1.Loop.length u48_1]) rfl rfl rfl rfl rfl rfl rfl Try.sizeOf82 rfl rfl f374 rfl fun w375 S376 f377 => ⟨((S328.tr (S357.tr (S369.tr S376))).cl rfl), ?_⟩
      refine WO.pn 1 rfl ?_
      refine WO.wa ?_
      refine WA.last [] (by kernel_rfl) (by kernel_rfl) rfl ?_
      refine WO.fin ?_
      have f378 := f372.stp S376 rfl rfl
      have f379 := f373.stp S376 rfl rfl
      exact DN.meet _ ⟨(fun b => ren [(27, 22), (28, 23)] (K368 b)), b12, a48_0, u48_0, a48_1, u48_1, rfl, (Stp.ren ((S320.tr (S328.tr (S357.tr (S369.tr S376)))).wk rfl) [(27, 22), (28, 23)] rfl), (f378.map (ren [(27, 22), (28, 23)]) rfl rfl), (f379.map (ren [(27, 22), (28, 23)]) rfl rfl), (f377.map (ren [(27, 22), (28, 23)]) rfl rfl)⟩ fun a ha => (ha.more (ha.more (ha.more (ha.more (ha.more (ha.more (ha.more (ha.more (ha.more ha.nil rfl) rfl) rfl) rfl) rfl) rfl) rfl) rfl) rfl)
    ·
     refine WO.alloc (κ := K306) 22 rfl rfl rfl rfl rfl Try.zeroValue82 rfl fun b12 w380 K381 S382 f383 => ⟨(S382.cl rfl), ?_⟩
     refine WO.wa ?_
     refine WA.seg (fuel := 0) [(1, 1), (4, 1), (5, 2), (6, 2), (7, 2), (9, 1), (10, 2)] (by kernel_rfl) (by kernel_rfl) rfl ?_
     refine WO.call rfl rfl rfl rfl rfl rfl Try.call17 (l_toSig_ok (κ := fun b => mp [] 0 (K381 b)) (p0 := p0) hx45) ?_
     rintro _ w384 ⟨k385, rfl, e386⟩
     obtain ⟨K387, S388, m389⟩ := Ent.mixed (l := []) (κ := K381) e386 23 rfl
     refine ⟨((S382.tr S388).cl rfl), ?_⟩
     have f391 := f282.stp (S286.tr (S289.tr (S300.tr (S307.tr (S310.tr (S320.tr (S382.tr S388))))))) rfl rfl
     have f392 := f283.stp (S286.tr (S289.tr (S300.tr (S307.tr (S310.tr (S320.tr (S382.tr S388))))))) rfl rfl
     have f393 := f303.stp (S307.tr (S310.tr (S320.tr (S382.tr S388)))) rfl rfl
     have f394 := f304.stp (S307.tr (S310.tr (S320.tr (S382.tr S388)))) rfl rfl
     refine WO.call rfl rfl rfl rfl rfl rfl Try.call62 (i_DuelOf_ok (κ := fun b => mp [] 0 (K387 b)) (p0 := x45) (p1 := x40) (p2 := x42) (Sl.map f391.rdc (mp [] 0) rfl rfl) (Sl.map f392.rdc (mp [] 0) rfl rfl) (Sl.map f393.rdc (mp [] 0) rfl rfl) (Sl.map f394.rdc (mp [] 0) rfl rfl) hx48) ?_
     rintro _ w395 ⟨k396, a48_0, u48_0, a48_1, u48_1, rfl, e397, f398, f399⟩
     obtain ⟨K400, S401, m402⟩ := Ent.mixed (l := []) (κ := K387) e397 25 rfl
     refine ⟨((S382.tr (S388.tr S401)).cl rfl), ?_⟩
     have f404 := f398.mx (no_int _) m402 rfl (rfl : 25 + 2 = 27)
     have f405 := f399.mx (no_int _) m402 rfl (rfl : 25 + 3 = 28)
     refine WO.pn 3 rfl ?_
     have f406 := f383.stp (S388.tr S401) rfl rfl
     refine WO.stB0 (κ := K400) 22 (vc := [.slice a48_0 x48.1.Stem.length u48_0, .slice a48_1 x48.1.Loop.length u48_1]) rfl rfl rfl rfl rfl rfl rfl Try.sizeOf82 rfl rfl f406 rfl fun w407 S408 f409 => ⟨((S382.tr (S388.tr (S401.tr S408))).cl rfl), ?_⟩
     refine WO.pn 1 rfl ?_
     refine WO.wa ?_
     refine WA.last [] (by kernel_rfl) (by kernel_rfl) rfl ?_
     refine WO.fin ?_
     have f410 := f404.stp S408 rfl rfl
     have f411 := f405.stp S408 rfl rfl
     exact DN.meet _ ⟨(fun b => ren [(27, 22), (28, 23), (22, 24)] (K400 b)), b12, a48_0, u48_0, a48_1, u48_1, rfl, (Stp.ren ((S320.tr (S382.tr (S388.tr (S401.tr S408)))).wk rfl) [(27, 22), (28, 23), (22, 24)] rfl), (f410.map (ren [(27, 22), (28, 23), (22, 24)]) rfl rfl), (f411.map (ren [(27, 22), (28, 23), (22, 24)]) rfl rfl), (f409.map (ren [(27, 22), (28, 23), (22, 24)]) rfl rfl)⟩ fun a ha => (ha.more (ha.more (ha.more (ha.more (ha.more (ha.more (ha.more (ha.more (ha.more ha.nil rfl) rfl) rfl) rfl) rfl) rfl) rfl) rfl) rfl)
   rintro _ w312 ⟨K313, b12, lar315_0, lur315_0, lar315_1, lur315_1, rfl, S314, f316, f317, f318⟩
   refine DN.seq ?_
   refine WC.seq ?_
   refine WC.seq ?_
   refine WC.rs [(0, 1), (1, 1), (2, 1), (3, 2), (4, 2), (5, 2), (6, 2), (7, 2), (8, 2)] rfl ?_
   refine WO.k1 trivial rfl rfl rfl rfl (rn_la (cs := [.slice lar315_0 x48.1.Stem.length lur315_0, .slice lar315_1 x48.1.Loop.length lur315_1]) Try.isAgg82 Try.sizeOf82 rfl rfl rfl (haE f318.cells)) ?_
   have f412 := f43.stp (S279.tr (S286.tr (S289.tr (S300.tr (S307.tr (S310.tr S314)))))) rfl rfl
   refine WO.k1 trivial rfl rfl rfl rfl (rn_la (cs := [.slice lar40_0 x36.1.Stem.length lur40_0, .slice lar40_1 x36.1.Loop.length lur40_1]) Try.isAgg82 Try.sizeOf82 rfl rfl rfl (haE f412.cells)) ?_
   obtain ⟨x53, hx53, h⟩ := Option.bind_eq_some_iff.mp h
   have f413 := f41.stp (S279.tr (S286.tr (S289.tr (S300.tr (S307.tr (S310.tr S314)))))) rfl rfl
   have f414 := f42.stp (S279.tr (S286.tr (S289.tr (S300.tr (S307.tr (S310.tr S314)))))) rfl rfl
   refine WO.call rfl rfl rfl rfl rfl rfl Try.call51 (l_eqWord_ok (κ := fun b => mp [] 0 (K313 b)) (p0 := x48.1) (p1 := x36.1) (Sl.map f316.rdc (mp [] 0) rfl rfl) (Sl.map f317.rdc (mp [] 0) rfl rfl) (Sl.map f413.rdc (mp [] 0) rfl rfl) (Sl.map f414.rdc (mp [] 0) rfl rfl) hx53) ?_
   rintro _ w415 ⟨k416, rfl, e417⟩
   obtain ⟨K418, S419, m420⟩ := Ent.mixed (l := []) (κ := K313) e417 25 rfl
   refine ⟨trivial, ?_⟩
   refine WO.pn 2 rfl ?_
   obtain ⟨p59, h, hK422⟩ := Option.bind_eq_some_iff.mp h
   refine WO.meet [(5, 2), (6, 2), (7, 2), (8, 2)] [] (fun L w' => L = [(3, .pointer (some ⟨b3, 0, none⟩)), (4, .pointer (some ⟨b4, 0, none⟩)), (5, .pointer (some ⟨b5, 0, none⟩)), (8, .pointer (some ⟨b8, 0, none⟩)), (9, .bool x36.2), (10, .pointer (some ⟨b10, 0, none⟩)), (11, .pointer (some ⟨b11, 0, none⟩)), (12, .pointer (some ⟨b12, 0, none⟩)), (13, .bool x48.2), (59, .bool p59)] ∧ ∃ κ', Stp [] K418 w415 κ' w') trivial ?_ ?_
   ·
    revert h
    cases ht423 : (!x53) with
    | true =>
     intro h; replace h := cT h
     refine WO.pn 4 rfl ?_
     obtain rfl := Option.some.inj h
     exact WO.met _ trivial ⟨rfl, _, (Stp.refl _ _).wk rfl⟩ fun a ha => (ha.more (ha.more (ha.more (ha.more (ha.more (ha.more (ha.more (ha.more (ha.more (ha.more ha.nil rfl) rfl) rfl) rfl) rfl) rfl) rfl) rfl) rfl) rfl)
    | false =>
     intro h; replace h := cF h
     refine WO.pn 2 rfl ?_
     refine WO.k2 rfl rfl rfl rfl (rn_neqB rfl rfl Try.runUnderlying4 rfl) ?_
     refine WO.pn 1 rfl ?_
     obtain rfl := Option.some.inj h
     exact WO.met _ trivial ⟨rfl, _, (Stp.refl _ _).wk rfl⟩ fun a ha => (ha.more (ha.more (ha.more (ha.more (ha.more (ha.more (ha.more (ha.more (ha.more (ha.more ha.nil rfl) rfl) rfl) rfl) rfl) rfl) rfl) rfl) rfl) rfl)
   rintro _ w424 _ ⟨rfl, K425, S426⟩
   have h := hK422
   refine WO.fin ?_
   refine DN.seq ?_
   revert h
   cases ht427 : p59 with
   | true =>
    intro h; replace h := cT h
    refine WC.ct rfl ?_
    refine WC.seq ?_
    refine WC.rs [(0, 2)] rfl ?_
    refine WO.pn 1 rfl ?_
    refine WO.fin ?_
    refine DN.seq ?_
    refine WC.ret ?_
    refine DN.retThen ?_
    have f428 := hE.stp (S3.tr (S7.tr (S11.tr (S20.tr (S32.tr (S39.tr (S279.tr (S286.tr (S289.tr (S300.tr (S307.tr (S310.tr (S314.tr (S419.tr S426)))))))))))))) rfl rfl
    refine DN.res (l := [.tmp 6]) Try.results12 (res_tmp rfl rfl) rfl ?_
    obtain rfl := Option.some.inj h
    exact ⟨K425, rfl, f428⟩
   | false =>
    intro h; replace h := cF h
    refine WC.cf rfl ?_
    refine WC.skip ?_
    refine DN.seq ?_
    refine WC.seq ?_
    refine WC.seq ?_
    refine WC.rx (κ := K425) 26 none [(0, 0), (1, 0), (2, 1), (3, 1), (4, 2)] [] (by kernel_rfl) (by kernel_rfl) fun w430 S429 => ?_
    have f431 := f290.stp (S300.tr (S307.tr (S310.tr (S314.tr (S419.tr (S426.tr S429)))))) rfl rfl
    refine WO.k0 rfl rfl rfl rfl (rn_la (cs := [.slice a40_0 x40.Next.length u40_0, .slice a40_1 x40.Out.length u40_1]) Try.isAgg84 Try.sizeOf84 rfl rfl rfl (haC f431.cells rfl)) ?_
    have f432 := f270.stp (S279.tr (S286.tr (S289.tr (S300.tr (S307.tr (S310.tr (S314.tr (S419.tr (S426.tr S429))))))))) rfl rfl
    refine WO.k0 rfl rfl rfl rfl (rn_la (cs := [.slice a1_0 p1.Next.length u1_0, .slice a1_1 p1.Out.length u1_1]) Try.isAgg77 Try.sizeOf77 rfl rfl rfl (haC f432.cells rfl)) ?_
    obtain ⟨x62, hx62, h⟩ := Option.bind_eq_some_iff.mp h
    have f433 := f271.stp (S279.tr (S286.tr (S289.tr (S300.tr (S307.tr (S310.tr (S314.tr (S419.tr (S426.tr S429))))))))) rfl rfl
    have f434 := f272.stp (S279.tr (S286.tr (S289.tr (S300.tr (S307.tr (S310.tr (S314.tr (S419.tr (S426.tr S429))))))))) rfl rfl
    refine WO.call rfl rfl rfl rfl rfl rfl Try.call48 (l_toMachine_ok (κ := fun b => mp [] 0 (K425 b)) (p0 := p1) (Sl.map f433 (mp [] 0) rfl rfl) (Sl.map f434 (mp [] 0) rfl rfl) hx62) ?_
    rintro _ w435 ⟨k436, a62_0, u62_0, a62_1, u62_1, rfl, e437, f438, f439⟩
    obtain ⟨K440, S441, m442⟩ := Ent.mixed (l := []) (κ := K425) e437 27 rfl
    refine ⟨(S441.cl rfl), ?_⟩
    have f444 := f438.mx (no_own (no_int _) _) m442 rfl (rfl : 27 + 2 = 29)
    have f445 := f439.mx (no_own (no_int _) _) m442 rfl (rfl : 27 + 3 = 30)
    obtain ⟨x63, hx63, h⟩ := Option.bind_eq_some_iff.mp h
    have f446 := f282.stp (S286.tr (S289.tr (S300.tr (S307.tr (S310.tr (S314.tr (S419.tr (S426.tr (S429.tr S441))))))))) rfl rfl
    have f447 := f283.stp (S286.tr (S289.tr (S300.tr (S307.tr (S310.tr (S314.tr (S419.tr (S426.tr (S429.tr S441))))))))) rfl rfl
    refine WO.call rfl rfl rfl rfl rfl rfl Try.call52 (l_eqMachine_ok (κ := fun b => mp [] 0 (K440 b)) (p0 := x40) (p1 := x62) (Sl.map f446.rdc (mp [] 0) rfl rfl) (Sl.map f447.rdc (mp [] 0) rfl rfl) (Sl.map f444.rdc (mp [] 0) rfl rfl) (Sl.map f445.rdc (mp [] 0) rfl rfl) hx63) ?_
    rintro _ w448 ⟨k449, rfl, e450⟩
    obtain ⟨K451, S452, m453⟩ := Ent.mixed (l := []) (κ := K440) e450 31 rfl
    refine ⟨((S441.tr S452).cl rfl), ?_⟩
    refine WO.pn 1 rfl ?_
    refine WO.nx ?_
    refine WO.fin ?_
    refine DN.seq ?_
    revert h
    cases ht455 : (!x63) with
    | true =>
     intro h; replace h := cT h
     refine WC.ct rfl ?_
     refine WC.seq ?_
     refine WC.rs [(0, 2)] rfl ?_
     refine WO.pn 1 rfl ?_
     refine WO.fin ?_
     refine DN.seq ?_
     refine WC.ret ?_
     refine DN.retThen ?_
     have f456 := hE.stp (S3.tr (S7.tr (S11.tr (S20.tr (S32.tr (S39.tr (S279.tr (S286.tr (S289.tr (S300.tr (S307.tr (S310.tr (S314.tr (S419.tr (S426.tr (S429.tr (S441.tr S452))))))))))))))))) rfl rfl
     refine DN.res (l := [.tmp 6]) Try.results12 (res_tmp rfl rfl) rfl ?_
     obtain rfl := Option.some.inj h
     exact ⟨K451, rfl, f456⟩
    | false =>
     intro h; replace h := cF h
     refine WC.cf rfl ?_
     refine WC.skip ?_
     refine DN.seq ?_
     refine WC.seq ?_
     refine WC.seq ?_
     refine WC.rx (κ := K451) 32 none [(0, 0), (1, 0), (2, 1), (3, 1), (4, 2)] [] (by kernel_rfl) (by kernel_rfl) fun w458 S457 => ?_
     have f459 := f311.stp (S314.tr (S419.tr (S426.tr (S429.tr (S441.tr (S452.tr S457)))))) rfl rfl
     refine WO.k0 rfl rfl rfl rfl (rn_la (cs := [.slice a42_0 x42.In.length u42_0, .slice a42_1 x42.Next.length u42_1]) Try.isAgg32 Try.sizeOf32 rfl rfl rfl (haC f459.cells rfl)) ?_
     have f460 := f291.stp (S300.tr (S307.tr (S310.tr (S314.tr (S419.tr (S426.tr (S429.tr (S441.tr (S452.tr S457))))))))) rfl rfl
     refine WO.k0 rfl rfl rfl rfl (rn_la (cs := [.slice a2_0 p2.In.length u2_0, .slice a2_1 p2.Next.length u2_1]) Try.isAgg27 Try.sizeOf27 rfl rfl rfl (haC f460.cells rfl)) ?_
     obtain ⟨x67, hx67, h⟩ := Option.bind_eq_some_iff.mp h
     have f461 := f292.stp (S300.tr (S307.tr (S310.tr (S314.tr (S419.tr (S426.tr (S429.tr (S441.tr (S452.tr S457))))))))) rfl rfl
     have f462 := f293.stp (S300.tr (S307.tr (S310.tr (S314.tr (S419.tr (S426.tr (S429.tr (S441.tr (S452.tr S457))))))))) rfl rfl
     refine WO.call rfl rfl rfl rfl rfl rfl Try.call18 (l_toRival_ok (κ := fun b => mp [] 0 (K451 b)) (p0 := p2) (Sl.map f461 (mp [] 0) rfl rfl) (Sl.map f462 (mp [] 0) rfl rfl) hx67) ?_
     rintro _ w463 ⟨k464, a67_0, u67_0, a67_1, u67_1, rfl, e465, f466, f467⟩
     obtain ⟨K468, S469, m470⟩ := Ent.mixed (l := []) (κ := K451) e465 33 rfl
     refine ⟨(S469.cl rfl), ?_⟩
     have f472 := f466.mx (no_int _) m470 rfl (rfl : 33 + 2 = 35)
     have f473 := f467.mx (no_own (no_int _) _) m470 rfl (rfl : 33 + 3 = 36)
     obtain ⟨x68, hx68, h⟩ := Option.bind_eq_some_iff.mp h
     have f474 := f303.stp (S307.tr (S310.tr (S314.tr (S419.tr (S426.tr (S429.tr (S441.tr (S452.tr (S457.tr S469))))))))) rfl rfl
     have f475 := f304.stp (S307.tr (S310.tr (S314.tr (S419.tr (S426.tr (S429.tr (S441.tr (S452.tr (S457.tr S469))))))))) rfl rfl
     refine WO.call rfl rfl rfl rfl rfl rfl Try.call20 (l_eqRival_ok (κ := fun b => mp [] 0 (K468 b)) (p0 := x42) (p1 := x67) (Sl.map f474.rdc (mp [] 0) rfl rfl) (Sl.map f475.rdc (mp [] 0) rfl rfl) (Sl.map f472.rdc (mp [] 0) rfl rfl) (Sl.map f473.rdc (mp [] 0) rfl rfl) hx68) ?_
     rintro _ w476 ⟨k477, rfl, e478⟩
     obtain ⟨K479, S480, m481⟩ := Ent.mixed (l := []) (κ := K468) e478 37 rfl
     refine ⟨((S469.tr S480).cl rfl), ?_⟩
     refine WO.pn 1 rfl ?_
     refine WO.nx ?_
     refine WO.fin ?_
     refine DN.seq ?_
     revert h
     cases ht483 : (!x68) with
     | true =>
      intro h; replace h := cT h
      refine WC.ct rfl ?_
      refine WC.seq ?_
      refine WC.rs [(0, 2)] rfl ?_
      refine WO.pn 1 rfl ?_
      refine WO.fin ?_
      refine DN.seq ?_
      refine WC.ret ?_
      refine DN.retThen ?_
      have f484 := hE.stp (S3.tr (S7.tr (S11.tr (S20.tr (S32.tr (S39.tr (S279.tr (S286.tr (S289.tr (S300.tr (S307.tr (S310.tr (S314.tr (S419.tr (S426.tr (S429.tr (S441.tr (S452.tr (S457.tr (S469.tr S480)))))))))))))))))))) rfl rfl
      refine DN.res (l := [.tmp 6]) Try.results12 (res_tmp rfl rfl) rfl ?_
      obtain rfl := Option.some.inj h
      exact ⟨K479, rfl, f484⟩
     | false =>
      intro h; replace h := cF h
      refine WC.cf rfl ?_
      refine WC.skip ?_
      refine DN.seq ?_
      refine WC.seq ?_
      refine WC.rs [(0, 2)] rfl ?_
      refine WO.pn 1 rfl ?_
      refine WO.fin ?_
      refine DN.seq ?_
      refine WC.seq ?_
      refine WC.rs [(0, 1), (1, 2), (2, 1), (3, 2)] rfl ?_
      have f485 := f431.stp (S441.tr (S452.tr (S457.tr (S469.tr S480)))) rfl rfl
      refine WO.k1 trivial rfl rfl rfl rfl (rn_la (cs := [.slice a40_0 x40.Next.length u40_0, .slice a40_1 x40.Out.length u40_1]) Try.isAgg84 Try.sizeOf84 rfl rfl rfl (haE f485.cells)) ?_
      refine WO.pn 1 rfl ?_
      obtain ⟨x72, hx72, h⟩ := Option.bind_eq_some_iff.mp h
      have f486 := f446.stp (S452.tr (S457.tr (S469.tr S480))) rfl rfl
      have f487 := f447.stp (S452.tr (S457.tr (S469.tr S480))) rfl rfl
      refine WO.call rfl rfl rfl rfl rfl rfl Try.call53 (l_markMachine_ok (κ := fun b => mp [(14, 2), (15, 3)] 0 (K479 b)) (p0 := x40) (f486.map (mp [(14, 2), (15, 3)] 0) rfl rfl) (f487.map (mp [(14, 2), (15, 3)] 0) rfl rfl) hx72) ?_
      rintro _ w488 ⟨k489, rfl, e490, f491, hn492, f493, hn494⟩
      obtain ⟨K495, S496, m497⟩ := Ent.mixed (l := [(14, 2), (15, 3)]) (κ := K479) e490 39 rfl
      refine ⟨trivial, ?_⟩
      have f499 := f491.mx (no_own (no_int _) _) m497 rfl (rfl : 39 + 2 = 41)
      have f500 := f493.mx (no_own (no_int _) _) m497 rfl (rfl : 39 + 3 = 42)
      refine WO.pn 1 rfl ?_
      refine WO.fin ?_
      refine DN.seq ?_
      refine WC.seq ?_
      refine WC.rs [(0, 1), (1, 2), (2, 1), (3, 2)] rfl ?_
      have f501 := f459.stp (S469.tr (S480.tr S496)) rfl rfl
      refine WO.k1 trivial rfl rfl rfl rfl (rn_la (cs := [.slice a42_0 x42.In.length u42_0, .slice a42_1 x42.Next.length u42_1]) Try.isAgg32 Try.sizeOf32 rfl rfl rfl (haE f501.cells)) ?_
      refine WO.pn 1 rfl ?_
      obtain ⟨x75, hx75, h⟩ := Option.bind_eq_some_iff.mp h
      have f502 := f474.stp (S480.tr S496) rfl rfl
      have f503 := f475.stp (S480.tr S496) rfl rfl
      refine WO.call rfl rfl rfl rfl rfl rfl Try.call25 (l_markRival_ok (κ := fun b => mp [(19, 2), (20, 3)] 0 (K495 b)) (p0 := x42) (f502.map (mp [(19, 2), (20, 3)] 0) rfl rfl) (f503.map (mp [(19, 2), (20, 3)] 0) rfl rfl) hx75) ?_
      rintro _ w504 ⟨k505, rfl, e506, f507, hn508, f509, hn510⟩
      obtain ⟨K511, S512, m513⟩ := Ent.mixed (l := [(19, 2), (20, 3)]) (κ := K495) e506 43 rfl
      refine ⟨trivial, ?_⟩
      have f515 := f507.mx (no_int _) m513 rfl (rfl : 43 + 2 = 45)
      have f516 := f509.mx (no_own (no_int _) _) m513 rfl (rfl : 43 + 3 = 46)
      refine WO.pn 1 rfl ?_
      refine WO.fin ?_
      refine DN.seq ?_
      refine WC.seq ?_
      refine WC.seq ?_
      refine WC.rs [(0, 2), (1, 2), (2, 2), (3, 1), (4, 1), (5, 1), (6, 2), (7, 2), (8, 2), (9, 2), (10, 2), (11, 2), (12, 2)] rfl ?_
      refine WO.pn 3 rfl ?_
      obtain ⟨p83, h, hK517⟩ := Option.bind_eq_some_iff.mp h
      refine WO.meet [(3, 1), (4, 1), (5, 1), (6, 2), (7, 2)] [(8, 2), (9, 2), (10, 2), (11, 2), (12, 2)] (fun L w' => L = [(3, .pointer (some ⟨b3, 0, none⟩)), (4, .pointer (some ⟨b4, 0, none⟩)), (5, .pointer (some ⟨b5, 0, none⟩)), (8, .pointer (some ⟨b8, 0, none⟩)), (9, .bool x36.2), (12, .pointer (some ⟨b12, 0, none⟩)), (13, .bool x48.2), (83, .bool p83)] ∧ ∃ κ', Stp [] K511 w504 κ' w') trivial ?_ ?_
      ·
       revert h
       cases ht518 : decide (x75.1 < 0) with
       | true =>
        intro h; replace h := cT h
        refine WO.ls rfl rfl rfl rfl ?_
        refine WO.ls rfl rfl rfl rfl ?_
        refine WO.ls rfl rfl rfl rfl ?_
        refine WO.pn 2 rfl ?_
        obtain rfl := Option.some.inj h
        exact WO.met _ trivial ⟨rfl, _, (Stp.refl _ _).wk rfl⟩ fun a ha => (ha.more (ha.more (ha.more (ha.more (ha.more (ha.more (ha.more (ha.more ha.nil rfl) rfl) rfl) rfl) rfl) rfl) rfl) rfl)
       | false =>
        intro h; replace h := cF h
        have f519 := f318.stp (S419.tr (S426.tr (S429.tr (S441.tr (S452.tr (S457.tr (S469.tr (S480.tr (S496.tr S512))))))))) rfl rfl
        refine WO.k1 trivial rfl rfl rfl rfl (rn_la (cs := [.slice lar315_0 x48.1.Stem.length lur315_0, .slice lar315_1 x48.1.Loop.length lur315_1]) Try.isAgg82 Try.sizeOf82 rfl rfl rfl (haE f519.cells)) ?_
        have f520 := f412.stp (S419.tr (S426.tr (S429.tr (S441.tr (S452.tr (S457.tr (S469.tr (S480.tr (S496.tr S512))))))))) rfl rfl
        refine WO.k1 trivial rfl rfl rfl rfl (rn_la (cs := [.slice lar40_0 x36.1.Stem.length lur40_0, .slice lar40_1 x36.1.Loop.length lur40_1]) Try.isAgg82 Try.sizeOf82 rfl rfl rfl (haE f520.cells)) ?_
        obtain ⟨x81, hx81, h⟩ := Option.bind_eq_some_iff.mp h
        have f521 := f316.stp (S419.tr (S426.tr (S429.tr (S441.tr (S452.tr (S457.tr (S469.tr (S480.tr (S496.tr S512))))))))) rfl rfl
        have f522 := f317.stp (S419.tr (S426.tr (S429.tr (S441.tr (S452.tr (S457.tr (S469.tr (S480.tr (S496.tr S512))))))))) rfl rfl
        have f523 := f413.stp (S419.tr (S426.tr (S429.tr (S441.tr (S452.tr (S457.tr (S469.tr (S480.tr (S496.tr S512))))))))) rfl rfl
        have f524 := f414.stp (S419.tr (S426.tr (S429.tr (S441.tr (S452.tr (S457.tr (S469.tr (S480.tr (S496.tr S512))))))))) rfl rfl
        refine WO.call rfl rfl rfl rfl rfl rfl Try.call51 (l_eqWord_ok (κ := fun b => mp [] 0 (K511 b)) (p0 := x48.1) (p1 := x36.1) (Sl.map f521.rdc (mp [] 0) rfl rfl) (Sl.map f522.rdc (mp [] 0) rfl rfl) (Sl.map f523.rdc (mp [] 0) rfl rfl) (Sl.map f524.rdc (mp [] 0) rfl rfl) hx81) ?_
        rintro _ w525 ⟨k526, rfl, e527⟩
        obtain ⟨K528, S529, m530⟩ := Ent.mixed (l := []) (κ := K511) e527 47 rfl
        refine ⟨trivial, ?_⟩
        refine WO.pn 2 rfl ?_
        obtain rfl := Option.some.inj h
        exact WO.met _ trivial ⟨rfl, _, S529.wk rfl⟩ fun a ha => (ha.more (ha.more (ha.more (ha.more (ha.more (ha.more (ha.more (ha.more ha.nil rfl) rfl) rfl) rfl) rfl) rfl) rfl) rfl)
      rintro _ w532 _ ⟨rfl, K533, S534⟩
      have h := hK517
      refine WO.pn 1 rfl ?_
      obtain ⟨p88, h, hK535⟩ := Option.bind_eq_some_iff.mp h
      refine WO.meet [(9, 2), (10, 2), (11, 2), (12, 2)] [] (fun L w' => L = [(3, .pointer (some ⟨b3, 0, none⟩)), (4, .pointer (some ⟨b4, 0, none⟩)), (5, .pointer (some ⟨b5, 0, none⟩)), (8, .pointer (some ⟨b8, 0, none⟩)), (9, .bool x36.2), (12, .pointer (some ⟨b12, 0, none⟩)), (88, .bool p88)] ∧ ∃ κ', Stp [] K533 w532 κ' w') trivial ?_ ?_
      ·
       revert h
       cases ht536 : p83 with
       | true =>
        intro h; replace h := cT h
        refine WO.pn 4 rfl ?_
        obtain rfl := Option.some.inj h
        exact WO.met _ trivial ⟨rfl, _, (Stp.refl _ _).wk rfl⟩ fun a ha => (ha.more (ha.more (ha.more (ha.more (ha.more (ha.more (ha.more ha.nil rfl) rfl) rfl) rfl) rfl) rfl) rfl)
       | false =>
        intro h; replace h := cF h
        refine WO.pn 2 rfl ?_
        refine WO.k2 rfl rfl rfl rfl (rn_neqB rfl rfl Try.runUnderlying4 rfl) ?_
        refine WO.pn 1 rfl ?_
        obtain rfl := Option.some.inj h
        exact WO.met _ trivial ⟨rfl, _, (Stp.refl _ _).wk rfl⟩ fun a ha => (ha.more (ha.more (ha.more (ha.more (ha.more (ha.more (ha.more ha.nil rfl) rfl) rfl) rfl) rfl) rfl) rfl)
      rintro _ w537 _ ⟨rfl, K538, S539⟩
      have h := hK535
      refine WO.fin ?_
      refine DN.seq ?_
      revert h
      cases ht540 : p88 with
      | true =>
       intro h; replace h := cT h
       refine WC.ct rfl ?_
       refine WC.seq ?_
       refine WC.rs [(0, 2)] rfl ?_
       refine WO.pn 1 rfl ?_
       refine WO.fin ?_
       refine DN.seq ?_
       refine WC.ret ?_
       refine DN.retThen ?_
       have f541 := hE.stp (S3.tr (S7.tr (S11.tr (S20.tr (S32.tr (S39.tr (S279.tr (S286.tr (S289.tr (S300.tr (S307.tr (S310.tr (S314.tr (S419.tr (S426.tr (S429.tr (S441.tr (S452.tr (S457.tr (S469.tr (S480.tr (S496.tr (S512.tr (S534.tr S539)))))))))))))))))))))))) rfl rfl
       refine DN.res (l := [.tmp 6]) Try.results12 (res_tmp rfl rfl) rfl ?_
       obtain rfl := Option.some.inj h
       exact ⟨K538, rfl, f541⟩
      | false =>
       intro h; replace h := cF h
       refine WC.cf rfl ?_
       refine WC.skip ?_
       refine DN.seq ?_
       refine WC.seq ?_
       refine WC.rs [(0, 2)] rfl ?_
       refine WO.pn 1 rfl ?_
       refine WO.fin ?_
       refine DN.seq ?_
       refine WC.seq ?_
       refine WC.rs [(0, 1), (1, 2), (2, 1), (3, 2)] rfl ?_
       have f542 := f318.stp (S419.tr (S426.tr (S429.tr (S441.tr (S452.tr (S457.tr (S469.tr (S480.tr (S496.tr (S512.tr (S534.tr S539))))))))))) rfl rfl
       refine WO.k1 trivial rfl rfl rfl rfl (rn_la (cs := [.slice lar315_0 x48.1.Stem.length lur315_0, .slice lar315_1 x48.1.Loop.length lur315_1]) Try.isAgg82 Try.sizeOf82 rfl rfl rfl (haE f542.cells)) ?_
       refine WO.pn 1 rfl ?_
       obtain ⟨x91, hx91, h⟩ := Option.bind_eq_some_iff.mp h
       have f543 := f316.stp (S419.tr (S426.tr (S429.tr (S441.tr (S452.tr (S457.tr (S469.tr (S480.tr (S496.tr (S512.tr (S534.tr S539))))))))))) rfl rfl
       have f544 := f317.stp (S419.tr (S426.tr (S429.tr (S441.tr (S452.tr (S457.tr (S469.tr (S480.tr (S496.tr (S512.tr (S534.tr S539))))))))))) rfl rfl
       refine WO.call rfl rfl rfl rfl rfl rfl Try.call54 (l_markWord_ok (κ := fun b => mp [(22, 2), (23, 3)] 0 (K538 b)) (p0 := x48.1) (f543.map (mp [(22, 2), (23, 3)] 0) rfl rfl) (f544.map (mp [(22, 2), (23, 3)] 0) rfl rfl) hx91) ?_
       rintro _ w545 ⟨k546, rfl, e547, f548, hn549, f550, hn551⟩
       obtain ⟨K552, S553, m554⟩ := Ent.mixed (l := [(22, 2), (23, 3)]) (κ := K538) e547 47 rfl
       refine ⟨trivial, ?_⟩
       have f556 := f548.mx (no_int _) m554 rfl (rfl : 47 + 2 = 49)
       have f557 := f550.mx (no_int _) m554 rfl (rfl : 47 + 3 = 50)
       refine WO.pn 1 rfl ?_
       refine WO.fin ?_
       refine DN.seq ?_
       refine WC.seq ?_
       refine WC.rs [(0, 2)] rfl ?_
       refine WO.pn 1 rfl ?_
       refine WO.fin ?_
       refine DN.seq ?_
       refine WC.seq ?_
       refine WC.rs [(0, 1), (1, 2), (2, 1), (3, 2)] rfl ?_
       have f558 := f542.stp S553 rfl rfl
       refine WO.k1 trivial rfl rfl rfl rfl (rn_la (cs := [.slice lar315_0 x48.1.Stem.length lur315_0, .slice lar315_1 x48.1.Loop.length lur315_1]) Try.isAgg82 Try.sizeOf82 rfl rfl rfl (haE f558.cells)) ?_
       refine WO.pn 1 rfl ?_
       obtain ⟨x94, hx94, h⟩ := Option.bind_eq_some_iff.mp h
       refine WO.call rfl rfl rfl rfl rfl rfl Try.call55 (Ret.cast (by simp only [(hn549), (hn551)]) (l_heldWord_ok (κ := fun b => mp [] 0 (K552 b)) (p0 := (⟨x91.2.1, x91.2.2⟩ : Word)) (Sl.map f556.rdc (mp [] 0) rfl rfl) (Sl.map f557.rdc (mp [] 0) rfl rfl) hx94)) ?_
       rintro _ w559 ⟨k560, rfl, e561⟩
       obtain ⟨K562, S563, m564⟩ := Ent.mixed (l := []) (κ := K552) e561 51 rfl
       refine ⟨trivial, ?_⟩
       refine WO.pn 1 rfl ?_
       refine WO.fin ?_
       refine DN.seq ?_
       refine WC.seq ?_
       refine WC.seq ?_
       refine WC.rs [(0, 2), (1, 2)] rfl ?_
       refine WO.pn 2 rfl ?_
       refine WO.fin ?_
       refine DN.seq ?_
       revert h
       cases ht566 : decide (x94 < 0) with
       | true =>
        intro h; replace h := cT h
        refine WC.ct rfl ?_
        refine WC.seq ?_
        refine WC.rs [(0, 2)] rfl ?_
        refine WO.pn 1 rfl ?_
        refine WO.fin ?_
        refine DN.seq ?_
        refine WC.ret ?_
        refine DN.retThen ?_
        have f567 := hE.stp (S3.tr (S7.tr (S11.tr (S20.tr (S32.tr (S39.tr (S279.tr (S286.tr (S289.tr (S300.tr (S307.tr (S310.tr (S314.tr (S419.tr (S426.tr (S429.tr (S441.tr (S452.tr (S457.tr (S469.tr (S480.tr (S496.tr (S512.tr (S534.tr (S539.tr (S553.tr S563)))))))))))))))))))))))))) rfl rfl
        refine DN.res (l := [.tmp 6]) Try.results12 (res_tmp rfl rfl) rfl ?_
        obtain rfl := Option.some.inj h
        exact ⟨K562, rfl, f567⟩
       | false =>
        intro h; replace h := cF h
        refine WC.cf rfl ?_
        refine WC.skip ?_
        refine DN.seq ?_
        refine WC.seq ?_
        refine WC.seq ?_
        refine WC.rs [(0, 2), (1, 2), (2, 2)] rfl ?_
        refine WO.pn 3 rfl ?_
        refine WO.fin ?_
        refine DN.seq ?_
        revert h
        cases ht568 : (x94 != x91.1) with
        | true =>
         intro h; replace h := cT h
         refine WC.ct rfl ?_
         refine WC.seq ?_
         refine WC.rs [(0, 2)] rfl ?_
         refine WO.pn 1 rfl ?_
         refine WO.fin ?_
         refine DN.seq ?_
         refine WC.ret ?_
         refine DN.retThen ?_
         have f569 := hE.stp (S3.tr (S7.tr (S11.tr (S20.tr (S32.tr (S39.tr (S279.tr (S286.tr (S289.tr (S300.tr (S307.tr (S310.tr (S314.tr (S419.tr (S426.tr (S429.tr (S441.tr (S452.tr (S457.tr (S469.tr (S480.tr (S496.tr (S512.tr (S534.tr (S539.tr (S553.tr S563)))))))))))))))))))))))))) rfl rfl
         refine DN.res (l := [.tmp 6]) Try.results12 (res_tmp rfl rfl) rfl ?_
         obtain rfl := Option.some.inj h
         exact ⟨K562, rfl, f569⟩
        | false =>
         intro h; replace h := cF h
         refine WC.cf rfl ?_
         refine WC.skip ?_
         refine DN.seq ?_
         refine WC.seq ?_
         obtain ⟨x102, hx102, h⟩ := Option.bind_eq_some_iff.mp h
         obtain ⟨x104, hx104, h⟩ := Option.bind_eq_some_iff.mp h
         obtain ⟨x106, hx106, h⟩ := Option.bind_eq_some_iff.mp h
         obtain ⟨x107, hx107, h⟩ := Option.bind_eq_some_iff.mp h
         refine WC.meet (fun L w' => ∃ (κ' : Col) (b17 : Nat) (lar573_0 : Option Addr) (lur573_0 : Nat) (lar573_1 : Option Addr) (lur573_1 : Nat), L = [(8, .pointer (some ⟨b8, 0, none⟩)), (9, .bool x36.2), (12, .pointer (some ⟨b12, 0, none⟩)), (15, .int .i64 x91.1), (17, .pointer (some ⟨b17, 0, none⟩)), (18, .bool x107.2)] ∧ Stp [53, 55, 59, 63, 65, 66, 67] K562 w559 κ' w' ∧ Oc (Ep.int .i64) 2 κ' w' 53 lar573_0 lur573_0 x107.1.Stem ∧ Oc (Ep.int .i64) 2 κ' w' 54 lar573_1 lur573_1 x107.1.Loop ∧ Bc κ' w' 55 b17 82 [.slice lar573_0 x107.1.Stem.length lur573_0, .slice lar573_1 x107.1.Loop.length lur573_1]) ?_ ?_
         ·
          refine WC.rxt (κ := K562) 52 none (by kernel_rfl) fun w577 S578 => ?_
          refine WA.seg (fuel := 10) [(0, 0), (2, 0), (4, 0)] (by kernel_rfl) (by kernel_rfl) rfl ?_
          have f579 := f4.stp (S7.tr (S11.tr (S20.tr (S32.tr (S39.tr (S279.tr (S286.tr (S289.tr (S300.tr (S307.tr (S310.tr (S314.tr (S419.tr (S426.tr (S429.tr (S441.tr (S452.tr (S457.tr (S469.tr (S480.tr (S496.tr (S512.tr (S534.tr (S539.tr (S553.tr (S563.tr S578)))))))))))))))))))))))))) rfl rfl
          refine WO.k0 rfl rfl rfl rfl (rn_la (cs := [.int .i64 p0.In, .int .i64 p0.Out]) Try.isAgg23 Try.sizeOf23 rfl rfl rfl (haC f579.cells rfl)) ?_
          have f580 := f432.stp (S441.tr (S452.tr (S457.tr (S469.tr (S480.tr (S496.tr (S512.tr (S534.tr (S539.tr (S553.tr (S563.tr S578))))))))))) rfl rfl
          refine WO.k0 rfl rfl rfl rfl (rn_la (cs := [.slice a1_0 p1.Next.length u1_0, .slice a1_1 p1.Out.length u1_1]) Try.isAgg77 Try.sizeOf77 rfl rfl rfl (haC f580.cells rfl)) ?_
          have f581 := f460.stp (S469.tr (S480.tr (S496.tr (S512.tr (S534.tr (S539.tr (S553.tr (S563.tr S578)))))))) rfl rfl
          refine WO.k0 rfl rfl rfl rfl (rn_la (cs := [.slice a2_0 p2.In.length u2_0, .slice a2_1 p2.Next.length u2_1]) Try.isAgg27 Try.sizeOf27 rfl rfl rfl (haC f581.cells rfl)) ?_
          refine WO.wa ?_
          refine WA.fork2 (fuel := 9) 1 10 (by kernel_rfl) rfl ?_ ?_
          ·
           refine WO.call rfl rfl rfl rfl rfl rfl Try.call17 (l_toSig_ok (κ := fun b => mp [] 0 (K562 b)) (p0 := p0) hx102) ?_
           rintro _ w582 ⟨k583, rfl, e584⟩
           obtain ⟨K585, S586, m587⟩ := Ent.mixed (l := []) (κ := K562) e584 53 rfl
           refine ⟨(S586.cl rfl), ?_⟩
           refine WO.wa ?_
           refine WA.fork2 (fuel := 8) 3 10 (by kernel_rfl) rfl ?_ ?_
           ·
            have f589 := f433.stp (S441.tr (S452.tr (S457.tr (S469.tr (S480.tr (S496.tr (S512.tr (S534.tr (S539.tr (S553.tr (S563.tr (S578.tr S586)))))))))))) rfl rfl
            have f590 := f434.stp (S441.tr (S452.tr (S457.tr (S469.tr (S480.tr (S496.tr (S512.tr (S534.tr (S539.tr (S553.tr (S563.tr (S578.tr S586)))))))))))) rfl rfl
            refine WO.call rfl rfl rfl rfl rfl rfl Try.call48 (l_toMachine_ok (κ := fun b => mp [] 0 (K585 b)) (p0 := p1) (Sl.map f589 (mp [] 0) rfl rfl) (Sl.map f590 (mp [] 0) rfl rfl) hx104) ?_
            rintro _ w591 ⟨k592, a104_0, u104_0, a104_1, u104_1, rfl, e593, f594, f595⟩
            obtain ⟨K596, S597, m598⟩ := Ent.mixed (l := []) (κ := K585) e593 55 rfl
            refine ⟨((S586.tr S597).cl rfl), ?_⟩
            have f600 := f594.mx (no_own (no_int _) _) m598 rfl (rfl : 55 + 2 = 57)
            have f601 := f595.mx (no_own (no_int _) _) m598 rfl (rfl : 55 + 3 = 58)
            refine WO.wa ?_
            refine WA.fork2 (fuel := 7) 5 10 (by kernel_rfl) rfl ?_ ?_
            ·
             have f602 := f461.stp (S469.tr (S480.tr (S496.tr (S512.tr (S534.tr (S539.tr (S553.tr (S563.tr (S578.tr (S586.tr S597)))))))))) rfl rfl
             have f603 := f462.stp (S469.tr (S480.tr (S496.tr (S512.tr (S534.tr (S539.tr (S553.tr (S563.tr (S578.tr (S586.tr S597)))))))))) rfl rfl
             refine WO.call rfl rfl rfl rfl rfl rfl Try.call18 (l_toRival_ok (κ := fun b => mp [] 0 (K596 b)) (p0 := p2) (Sl.map f602 (mp [] 0) rfl rfl) (Sl.map f603 (mp [] 0) rfl rfl) hx106) ?_
             rintro _ w604 ⟨k605, a106_0, u106_0, a106_1, u106_1, rfl, e606, f607, f608⟩
             obtain ⟨K609, S610, m611⟩ := Ent.mixed (l := []) (κ := K596) e606 59 rfl
             refine ⟨((S586.tr (S597.tr S610)).cl rfl), ?_⟩
             have f613 := f607.mx (no_int _) m611 rfl (rfl : 59 + 2 = 61)
             have f614 := f608.mx (no_own (no_int _) _) m611 rfl (rfl : 59 + 3 = 62)
             refine WO.wa ?_
             refine WA.fork2 (fuel := 6) 6 10 (by kernel_rfl) rfl ?_ ?_
             ·
              have f615 := f600.stp S610 rfl rfl
              have f616 := f601.stp S610 rfl rfl
              refine WO.call rfl rfl rfl rfl rfl rfl Try.call62 (i_DuelOf_ok (κ := fun b => mp [] 0 (K609 b)) (p0 := x102) (p1 := x104) (p2 := x106) (Sl.map f615.rdc (mp [] 0) rfl rfl) (Sl.map f616.rdc (mp [] 0) rfl rfl) (Sl.map f613.rdc (mp [] 0) rfl rfl) (Sl.map f614.rdc (mp [] 0) rfl rfl) hx107) ?_
              rintro _ w617 ⟨k618, a107_0, u107_0, a107_1, u107_1, rfl, e619, f620, f621⟩
              obtain ⟨K622, S623, m624⟩ := Ent.mixed (l := []) (κ := K609) e619 63 rfl
              refine ⟨((S586.tr (S597.tr (S610.tr S623))).cl rfl), ?_⟩
              have f626 := f620.mx (no_int _) m624 rfl (rfl : 63 + 2 = 65)
              have f627 := f621.mx (no_int _) m624 rfl (rfl : 63 + 3 = 66)
              refine WO.wa ?_
              refine WA.seg (fuel := 0) [(7, 2), (8, 2), (9, 2), (10, 1), (11, 1), (12, 2)] (by kernel_rfl) (by kernel_rfl) rfl ?_
              refine WO.pn 3 rfl ?_
              refine WO.alloc (κ := K622) 67 rfl rfl rfl rfl rfl Try.zeroValue82 rfl fun b17 w628 K629 S630 f631 => ⟨((S586.tr (S597.tr (S610.tr (S623.tr S630)))).cl rfl), ?_⟩
              refine WO.stB0 (κ := K629) 67 (vc := [.slice a107_0 x107.1.Stem.length u107_0, .slice a107_1 x107.1.Loop.length u107_1]) rfl rfl rfl rfl rfl rfl rfl Try.sizeOf82 rfl rfl f631 rfl fun w632 S633 f634 => ⟨((S586.tr (S597.tr (S610.tr (S623.tr (S630.tr S633))))).cl rfl), ?_⟩
              refine WO.pn 1 rfl ?_
              refine WO.wa ?_
              refine WA.last [] (by kernel_rfl) (by kernel_rfl) rfl ?_
              refine WO.fin ?_
              have f635 := f626.stp (S630.tr S633) rfl rfl
              have f636 := f627.stp (S630.tr S633) rfl rfl
              exact DN.meet _ ⟨(fun b => ren [(65, 53), (66, 54), (67, 55)] (K629 b)), b17, a107_0, u107_0, a107_1, u107_1, rfl, (Stp.ren ((S578.tr (S586.tr (S597.tr (S610.tr (S623.tr (S630.tr S633)))))).wk rfl) [(65, 53), (66, 54), (67, 55)] rfl), (f635.map (ren [(65, 53), (66, 54), (67, 55)]) rfl rfl), (f636.map (ren [(65, 53), (66, 54), (67, 55)]) rfl rfl), (f634.map (ren [(65, 53), (66, 54), (67, 55)]) rfl rfl)⟩ fun a ha => (ha.more (ha.more (ha.more (ha.more (ha.more (ha.more ha.nil rfl) rfl) rfl) rfl) rfl) rfl)
             ·
              refine WO.alloc (κ := K609) 63 rfl rfl rfl rfl rfl Try.zeroValue82 rfl fun b17 w637 K638 S639 f640 => ⟨((S586.tr (S597.tr (S610.tr S639))).cl rfl), ?_⟩
              refine WO.wa ?_
              refine WA.seg (fuel := 0) [(6, 1), (7, 2), (8, 2), (9, 2), (11, 1), (12, 2)] (by kernel_rfl) (by kernel_rfl) rfl ?_
              have f641 := f600.stp (S610.tr S639) rfl rfl
              have f642 := f601.stp (S610.tr S639) rfl rfl
              have f643 := f613.stp S639 rfl rfl
              have f644 := f614.stp S639 rfl rfl
              refine WO.call rfl rfl rfl rfl rfl rfl Try.call62 (i_DuelOf_ok (κ := fun b => mp [] 0 (K638 b)) (p0 := x102) (p1 := x104) (p2 := x106) (Sl.map f641.rdc (mp [] 0) rfl rfl) (Sl.map f642.rdc (mp [] 0) rfl rfl) (Sl.map f643.rdc (mp [] 0) rfl rfl) (Sl.map f644.rdc (mp [] 0) rfl rfl) hx107) ?_
              rintro _ w645 ⟨k646, a107_0, u107_0, a107_1, u107_1, rfl, e647, f648, f649⟩
              obtain ⟨K650, S651, m652⟩ := Ent.mixed (l := []) (κ := K638) e647 64 rfl
              refine ⟨((S586.tr (S597.tr (S610.tr (S639.tr S651)))).cl rfl), ?_⟩
              have f654 := f648.mx (no_int _) m652 rfl (rfl : 64 + 2 = 66)
              have f655 := f649.mx (no_int _) m652 rfl (rfl : 64 + 3 = 67)
              refine WO.pn 3 rfl ?_
              have f656 := f640.stp S651 rfl rfl
              refine WO.stB0 (κ := K650) 63 (vc := [.slice a107_0 x107.1.Stem.length u107_0, .slice a107_1 x107.1.Loop.length u107_1]) rfl rfl rfl rfl rfl rfl rfl Try.sizeOf82 rfl rfl f656 rfl fun w657 S658 f659 => ⟨((S586.tr (S597.tr (S610.tr (S639.tr (S651.tr S658))))).cl rfl), ?_⟩
              refine WO.pn 1 rfl ?_
              refine WO.wa ?_
              refine WA.last [] (by kernel_rfl) (by kernel_rfl) rfl ?_
              refine WO.fin ?_
              have f660 := f654.stp S658 rfl rfl
              have f661 := f655.stp S658 rfl rfl
              exact DN.meet _ ⟨(fun b => ren [(66, 53), (67, 54), (63, 55)] (K650 b)), b17, a107_0, u107_0, a107_1, u107_1, rfl, (Stp.ren ((S578.tr (S586.tr (S597.tr (S610.tr (S639.tr (S651.tr S658)))))).wk rfl) [(66, 53), (67, 54), (63, 55)] rfl), (f660.map (ren [(66, 53), (67, 54), (63, 55)]) rfl rfl), (f661.map (ren [(66, 53), (67, 54), (63, 55)]) rfl rfl), (f659.map (ren [(66, 53), (67, 54), (63, 55)]) rfl rfl)⟩ fun a ha => (ha.more (ha.more (ha.more (ha.more (ha.more (ha.more ha.nil rfl) rfl) rfl) rfl) rfl) rfl)
            ·
             refine WO.alloc (κ := K596) 59 rfl rfl rfl rfl rfl Try.zeroValue82 rfl fun b17 w662 K663 S664 f665 => ⟨((S586.tr (S597.tr S664)).cl rfl), ?_⟩
             refine WO.wa ?_
             refine WA.seg (fuel := 0) [(5, 1), (6, 1), (7, 2), (8, 2), (9, 2), (11, 1), (12, 2)] (by kernel_rfl) (by kernel_rfl) rfl ?_
             have f666 := f461.stp (S469.tr (S480.tr (S496.tr (S512.tr (S534.tr (S539.tr (S553.tr (S563.tr (S578.tr (S586.tr (S597.tr S664))))))))))) rfl rfl
             have f667 := f462.stp (S469.tr (S480.tr (S496.tr (S512.tr (S534.tr (S539.tr (S553.tr (S563.tr (S578.tr (S586.tr (S597.tr S664))))))))))) rfl rfl
             refine WO.call rfl rfl rfl rfl rfl rfl Try.call18 (l_toRival_ok (κ := fun b => mp [] 0 (K663 b)) (p0 := p2) (Sl.map f666 (mp [] 0) rfl rfl) (Sl.map f667 (mp [] 0) rfl rfl) hx106) ?_
             rintro _ w668 ⟨k669, a106_0, u106_0, a106_1, u106_1, rfl, e670, f671, f672⟩
             obtain ⟨K673, S674, m675⟩ := Ent.mixed (l := []) (κ := K663) e670 60 rfl
             refine ⟨((S586.tr (S597.tr (S664.tr S674))).cl rfl), ?_⟩
             have f677 := f671.mx (no_int _) m675 rfl (rfl : 60 + 2 = 62)
             have f678 := f672.mx (no_own (no_int _) _) m675 rfl (rfl : 60 + 3 = 63)
             have f679 := f600.stp (S664.tr S674) rfl rfl
             have f680 := f601.stp (S664.tr S674) rfl rfl
             refine WO.call rfl rfl rfl rfl rfl rfl Try.call62 (i_DuelOf_ok (κ := fun b => mp [] 0 (K673 b)) (p0 := x102) (p1 := x104) (p2 := x106) (Sl.map f679.rdc (mp [] 0) rfl rfl) (Sl.map f680.rdc (mp [] 0) rfl rfl) (Sl.map f677.rdc (mp [] 0) rfl rfl) (Sl.map f678.rdc (mp [] 0) rfl rfl) hx107) ?_
             rintro _ w681 ⟨k682, a107_0, u107_0, a107_1, u107_1, rfl, e683, f684, f685⟩
             obtain ⟨K686, S687, m688⟩ := Ent.mixed (l := []) (κ := K673) e683 64 rfl
             refine ⟨((S586.tr (S597.tr (S664.tr (S674.tr S687)))).cl rfl), ?_⟩
             have f690 := f684.mx (no_int _) m688 rfl (rfl : 64 + 2 = 66)
             have f691 := f685.mx (no_int _) m688 rfl (rfl : 64 + 3 = 67)
             refine WO.pn 3 rfl ?_
             have f692 := f665.stp (S674.tr S687) rfl rfl
             refine WO.stB0 (κ := K686) 59 (vc := [.slice a107_0 x107.1.Stem.length u107_0, .slice a107_1 x107.1.Loop.length u107_1]) rfl rfl rfl rfl rfl rfl rfl Try.sizeOf82 rfl rfl f692 rfl fun w693 S694 f695 => ⟨((S586.tr (S597.tr (S664.tr (S674.tr (S687.tr S694))))).cl rfl), ?_⟩
             refine WO.pn 1 rfl ?_
             refine WO.wa ?_
             refine WA.last [] (by kernel_rfl) (by kernel_rfl) rfl ?_
             refine WO.fin ?_
             have f696 := f690.stp S694 rfl rfl
             have f697 := f691.stp S694 rfl rfl
             exact DN.meet _ ⟨(fun b => ren [(66, 53), (67, 54), (59, 55)] (K686 b)), b17, a107_0, u107_0, a107_1, u107_1, rfl, (Stp.ren ((S578.tr (S586.tr (S597.tr (S664.tr (S674.tr (S687.tr S694)))))).wk rfl) [(66, 53), (67, 54), (59, 55)] rfl), (f696.map (ren [(66, 53), (67, 54), (59, 55)]) rfl rfl), (f697.map (ren [(66, 53), (67, 54), (59, 55)]) rfl rfl), (f695.map (ren [(66, 53), (67, 54), (59, 55)]) rfl rfl)⟩ fun a ha => (ha.more (ha.more (ha.more (ha.more (ha.more (ha.more ha.nil rfl) rfl) rfl) rfl) rfl) rfl)
           ·
            refine WO.alloc (κ := K585) 55 rfl rfl rfl rfl rfl Try.zeroValue82 rfl fun b17 w698 K699 S700 f701 => ⟨((S586.tr S700).cl rfl), ?_⟩
            refine WO.wa ?_
            refine WA.seg (fuel := 0) [(3, 1), (5, 1), (6, 1), (7, 2), (8, 2), (9, 2), (11, 1), (12, 2)] (by kernel_rfl) (by kernel_rfl) rfl ?_
            have f702 := f433.stp (S441.tr (S452.tr (S457.tr (S469.tr (S480.tr (S496.tr (S512.tr (S534.tr (S539.tr (S553.tr (S563.tr (S578.tr (S586.tr S700))))))))))))) rfl rfl
            have f703 := f434.stp (S441.tr (S452.tr (S457.tr (S469.tr (S480.tr (S496.tr (S512.tr (S534.tr (S539.tr (S553.tr (S563.tr (S578.tr (S586.tr S700))))))))))))) rfl rfl
            refine WO.call rfl rfl rfl rfl rfl rfl Try.call48 (l_toMachine_ok (κ := fun b => mp [] 0 (K699 b)) (p0 := p1) (Sl.map f702 (mp [] 0) rfl rfl) (Sl.map f703 (mp [] 0) rfl rfl) hx104) ?_
            rintro _ w704 ⟨k705, a104_0, u104_0, a104_1, u104_1, rfl, e706, f707, f708⟩
            obtain ⟨K709, S710, m711⟩ := Ent.mixed (l := []) (κ := K699) e706 56 rfl
            refine ⟨((S586.tr (S700.tr S710)).cl rfl), ?_⟩
            have f713 := f707.mx (no_own (no_int _) _) m711 rfl (rfl : 56 + 2 = 58)
            have f714 := f708.mx (no_own (no_int _) _) m711 rfl (rfl : 56 + 3 = 59)
            have f715 := f461.stp (S469.tr (S480.tr (S496.tr (S512.tr (S534.tr (S539.tr (S553.tr (S563.tr (S578.tr (S586.tr (S700.tr S710))))))))))) rfl rfl
            have f716 := f462.stp (S469.tr (S480.tr (S496.tr (S512.tr (S534.tr (S539.tr (S553.tr (S563.tr (S578.tr (S586.tr (S700.tr S710))))))))))) rfl rfl
            refine WO.call rfl rfl rfl rfl rfl rfl Try.call18 (l_toRival_ok (κ := fun b => mp [] 0 (K709 b)) (p0 := p2) (Sl.map f715 (mp [] 0) rfl rfl) (Sl.map f716 (mp [] 0) rfl rfl) hx106) ?_
            rintro _ w717 ⟨k718, a106_0, u106_0, a106_1, u106_1, rfl, e719, f720, f721⟩
            obtain ⟨K722, S723, m724⟩ := Ent.mixed (l := []) (κ := K709) e719 60 rfl
            refine ⟨((S586.tr (S700.tr (S710.tr S723))).cl rfl), ?_⟩
            have f726 := f720.mx (no_int _) m724 rfl (rfl : 60 + 2 = 62)
            have f727 := f721.mx (no_own (no_int _) _) m724 rfl (rfl : 60 + 3 = 63)
            have f728 := f713.stp S723 rfl rfl
            have f729 := f714.stp S723 rfl rfl
            refine WO.call rfl rfl rfl rfl rfl rfl Try.call62 (i_DuelOf_ok (κ := fun b => mp [] 0 (K722 b)) (p0 := x102) (p1 := x104) (p2 := x106) (Sl.map f728.rdc (mp [] 0) rfl rfl) (Sl.map f729.rdc (mp [] 0) rfl rfl) (Sl.map f726.rdc (mp [] 0) rfl rfl) (Sl.map f727.rdc (mp [] 0) rfl rfl) hx107) ?_
            rintro _ w730 ⟨k731, a107_0, u107_0, a107_1, u107_1, rfl, e732, f733, f734⟩
            obtain ⟨K735, S736, m737⟩ := Ent.mixed (l := []) (κ := K722) e732 64 rfl
            refine ⟨((S586.tr (S700.tr (S710.tr (S723.tr S736)))).cl rfl), ?_⟩
            have f739 := f733.mx (no_int _) m737 rfl (rfl : 64 + 2 = 66)
            have f740 := f734.mx (no_int _) m737 rfl (rfl : 64 + 3 = 67)
            refine WO.pn 3 rfl ?_
            have f741 := f701.stp (S710.tr (S723.tr S736)) rfl rfl
            refine WO.stB0 (κ := K735) 55 (vc := [.slice a107_0 x107.1.Stem.length u107_0, .slice a107_1 x107.1.Loop.length u107_1]) rfl rfl rfl rfl rfl rfl rfl Try.sizeOf82 rfl rfl f741 rfl fun w742 S743 f744 => ⟨((S586.tr (S700.tr (S710.tr (S723.tr (S736.tr S743))))).cl rfl), ?_⟩
            refine WO.pn 1 rfl ?_
            refine WO.wa ?_
            refine WA.last [] (by kernel_rfl) (by kernel_rfl) rfl ?_
            refine WO.fin ?_
            have f745 := f739.stp S743 rfl rfl
            have f746 := f740.stp S743 rfl rfl
            exact DN.meet _ ⟨(fun b => ren [(66, 53), (67, 54)] (K735 b)), b17, a107_0, u107_0, a107_1, u107_1, rfl, (Stp.ren ((S578.tr (S586.tr (S700.tr (S710.tr (S723.tr (S736.tr S743)))))).wk rfl) [(66, 53), (67, 54)] rfl), (f745.map (ren [(66, 53), (67, 54)]) rfl rfl), (f746.map (ren [(66, 53), (67, 54)]) rfl rfl), (f744.map (ren [(66, 53), (67, 54)]) rfl rfl)⟩ fun a ha => (ha.more (ha.more (ha.more (ha.more (ha.more (ha.more ha.nil rfl) rfl) rfl) rfl) rfl) rfl)
          ·
           refine WO.alloc (κ := K562) 53 rfl rfl rfl rfl rfl Try.zeroValue82 rfl fun b17 w747 K748 S749 f750 => ⟨(S749.cl rfl), ?_⟩
           refine WO.wa ?_
           refine WA.seg (fuel := 0) [(1, 1), (3, 1), (5, 1), (6, 1), (7, 2), (8, 2), (9, 2), (11, 1), (12, 2)] (by kernel_rfl) (by kernel_rfl) rfl ?_
           refine WO.call rfl rfl rfl rfl rfl rfl Try.call17 (l_toSig_ok (κ := fun b => mp [] 0 (K748 b)) (p0 := p0) hx102) ?_
           rintro _ w751 ⟨k752, rfl, e753⟩
           obtain ⟨K754, S755, m756⟩ := Ent.mixed (l := []) (κ := K748) e753 54 rfl
           refine ⟨((S749.tr S755).cl rfl), ?_⟩
           have f758 := f433.stp (S441.tr (S452.tr (S457.tr (S469.tr (S480.tr (S496.tr (S512.tr (S534.tr (S539.tr (S553.tr (S563.tr (S578.tr (S749.tr S755))))))))))))) rfl rfl
           have f759 := f434.stp (S441.tr (S452.tr (S457.tr (S469.tr (S480.tr (S496.tr (S512.tr (S534.tr (S539.tr (S553.tr (S563.tr (S578.tr (S749.tr S755))))))))))))) rfl rfl
           refine WO.call rfl rfl rfl rfl rfl rfl Try.call48 (l_toMachine_ok (κ := fun b => mp [] 0 (K754 b)) (p0 := p1) (Sl.map f758 (mp [] 0) rfl rfl) (Sl.map f759 (mp [] 0) rfl rfl) hx104) ?_
           rintro _ w760 ⟨k761, a104_0, u104_0, a104_1, u104_1, rfl, e762, f763, f764⟩
           obtain ⟨K765, S766, m767⟩ := Ent.mixed (l := []) (κ := K754) e762 56 rfl
           refine ⟨((S749.tr (S755.tr S766)).cl rfl), ?_⟩
           have f769 := f763.mx (no_own (no_int _) _) m767 rfl (rfl : 56 + 2 = 58)
           have f770 := f764.mx (no_own (no_int _) _) m767 rfl (rfl : 56 + 3 = 59)
           have f771 := f461.stp (S469.tr (S480.tr (S496.tr (S512.tr (S534.tr (S539.tr (S553.tr (S563.tr (S578.tr (S749.tr (S755.tr S766))))))))))) rfl rfl
           have f772 := f462.stp (S469.tr (S480.tr (S496.tr (S512.tr (S534.tr (S539.tr (S553.tr (S563.tr (S578.tr (S749.tr (S755.tr S766))))))))))) rfl rfl
           refine WO.call rfl rfl rfl rfl rfl rfl Try.call18 (l_toRival_ok (κ := fun b => mp [] 0 (K765 b)) (p0 := p2) (Sl.map f771 (mp [] 0) rfl rfl) (Sl.map f772 (mp [] 0) rfl rfl) hx106) ?_
           rintro _ w773 ⟨k774, a106_0, u106_0, a106_1, u106_1, rfl, e775, f776, f777⟩
           obtain ⟨K778, S779, m780⟩ := Ent.mixed (l := []) (κ := K765) e775 60 rfl
           refine ⟨((S749.tr (S755.tr (S766.tr S779))).cl rfl), ?_⟩
           have f782 := f776.mx (no_int _) m780 rfl (rfl : 60 + 2 = 62)
           have f783 := f777.mx (no_own (no_int _) _) m780 rfl (rfl : 60 + 3 = 63)
           have f784 := f769.stp S779 rfl rfl
           have f785 := f770.stp S779 rfl rfl
           refine WO.call rfl rfl rfl rfl rfl rfl Try.call62 (i_DuelOf_ok (κ := fun b => mp [] 0 (K778 b)) (p0 := x102) (p1 := x104) (p2 := x106) (Sl.map f784.rdc (mp [] 0) rfl rfl) (Sl.map f785.rdc (mp [] 0) rfl rfl) (Sl.map f782.rdc (mp [] 0) rfl rfl) (Sl.map f783.rdc (mp [] 0) rfl rfl) hx107) ?_
           rintro _ w786 ⟨k787, a107_0, u107_0, a107_1, u107_1, rfl, e788, f789, f790⟩
           obtain ⟨K791, S792, m793⟩ := Ent.mixed (l := []) (κ := K778) e788 64 rfl
           refine ⟨((S749.tr (S755.tr (S766.tr (S779.tr S792)))).cl rfl), ?_⟩
           have f795 := f789.mx (no_int _) m793 rfl (rfl : 64 + 2 = 66)
           have f796 := f790.mx (no_int _) m793 rfl (rfl : 64 + 3 = 67)
           refine WO.pn 3 rfl ?_
           have f797 := f750.stp (S755.tr (S766.tr (S779.tr S792))) rfl rfl
           refine WO.stB0 (κ := K791) 53 (vc := [.slice a107_0 x107.1.Stem.length u107_0, .slice a107_1 x107.1.Loop.length u107_1]) rfl rfl rfl rfl rfl rfl rfl Try.sizeOf82 rfl rfl f797 rfl fun w798 S799 f800 => ⟨((S749.tr (S755.tr (S766.tr (S779.tr (S792.tr S799))))).cl rfl), ?_⟩
           refine WO.pn 1 rfl ?_
           refine WO.wa ?_
           refine WA.last [] (by kernel_rfl) (by kernel_rfl) rfl ?_
           refine WO.fin ?_
           have f801 := f795.stp S799 rfl rfl
           have f802 := f796.stp S799 rfl rfl
           exact DN.meet _ ⟨(fun b => ren [(66, 53), (67, 54), (53, 55)] (K791 b)), b17, a107_0, u107_0, a107_1, u107_1, rfl, (Stp.ren ((S578.tr (S749.tr (S755.tr (S766.tr (S779.tr (S792.tr S799)))))).wk rfl) [(66, 53), (67, 54), (53, 55)] rfl), (f801.map (ren [(66, 53), (67, 54), (53, 55)]) rfl rfl), (f802.map (ren [(66, 53), (67, 54), (53, 55)]) rfl rfl), (f800.map (ren [(66, 53), (67, 54), (53, 55)]) rfl rfl)⟩ fun a ha => (ha.more (ha.more (ha.more (ha.more (ha.more (ha.more ha.nil rfl) rfl) rfl) rfl) rfl) rfl)
         rintro _ w570 ⟨K571, b17, lar573_0, lur573_0, lar573_1, lur573_1, rfl, S572, f574, f575, f576⟩
         refine DN.seq ?_
         refine WC.seq ?_
         refine WC.seq ?_
         refine WC.rs [(0, 1), (1, 1), (2, 1), (3, 2), (4, 2), (5, 2), (6, 2), (7, 2), (8, 2)] rfl ?_
         refine WO.k1 trivial rfl rfl rfl rfl (rn_la (cs := [.slice lar573_0 x107.1.Stem.length lur573_0, .slice lar573_1 x107.1.Loop.length lur573_1]) Try.isAgg82 Try.sizeOf82 rfl rfl rfl (haE f576.cells)) ?_
         have f803 := f412.stp (S419.tr (S426.tr (S429.tr (S441.tr (S452.tr (S457.tr (S469.tr (S480.tr (S496.tr (S512.tr (S534.tr (S539.tr (S553.tr (S563.tr S572)))))))))))))) rfl rfl
         refine WO.k1 trivial rfl rfl rfl rfl (rn_la (cs := [.slice lar40_0 x36.1.Stem.length lur40_0, .slice lar40_1 x36.1.Loop.length lur40_1]) Try.isAgg82 Try.sizeOf82 rfl rfl rfl (haE f803.cells)) ?_
         obtain ⟨x112, hx112, h⟩ := Option.bind_eq_some_iff.mp h
         have f804 := f413.stp (S419.tr (S426.tr (S429.tr (S441.tr (S452.tr (S457.tr (S469.tr (S480.tr (S496.tr (S512.tr (S534.tr (S539.tr (S553.tr (S563.tr S572)))))))))))))) rfl rfl
         have f805 := f414.stp (S419.tr (S426.tr (S429.tr (S441.tr (S452.tr (S457.tr (S469.tr (S480.tr (S496.tr (S512.tr (S534.tr (S539.tr (S553.tr (S563.tr S572)))))))))))))) rfl rfl
         refine WO.call rfl rfl rfl rfl rfl rfl Try.call51 (l_eqWord_ok (κ := fun b => mp [] 0 (K571 b)) (p0 := x107.1) (p1 := x36.1) (Sl.map f574.rdc (mp [] 0) rfl rfl) (Sl.map f575.rdc (mp [] 0) rfl rfl) (Sl.map f804.rdc (mp [] 0) rfl rfl) (Sl.map f805.rdc (mp [] 0) rfl rfl) hx112) ?_
         rintro _ w806 ⟨k807, rfl, e808⟩
         obtain ⟨K809, S810, m811⟩ := Ent.mixed (l := []) (κ := K571) e808 56 rfl
         refine ⟨trivial, ?_⟩
         refine WO.pn 2 rfl ?_
         obtain ⟨p118, h, hK813⟩ := Option.bind_eq_some_iff.mp h
         refine WO.meet [(5, 2), (6, 2), (7, 2), (8, 2)] [] (fun L w' => L = [(12, .pointer (some ⟨b12, 0, none⟩)), (15, .int .i64 x91.1), (118, .bool p118)] ∧ ∃ κ', Stp [] K809 w806 κ' w') trivial ?_ ?_
         ·
          revert h
          cases ht814 : (!x112) with
          | true =>
           intro h; replace h := cT h
           refine WO.pn 4 rfl ?_
           obtain rfl := Option.some.inj h
           exact WO.met _ trivial ⟨rfl, _, (Stp.refl _ _).wk rfl⟩ fun a ha => (ha.more (ha.more (ha.more ha.nil rfl) rfl) rfl)
          | false =>
           intro h; replace h := cF h
           refine WO.pn 2 rfl ?_
           refine WO.k2 rfl rfl rfl rfl (rn_neqB rfl rfl Try.runUnderlying4 rfl) ?_
           refine WO.pn 1 rfl ?_
           obtain rfl := Option.some.inj h
           exact WO.met _ trivial ⟨rfl, _, (Stp.refl _ _).wk rfl⟩ fun a ha => (ha.more (ha.more (ha.more ha.nil rfl) rfl) rfl)
         rintro _ w815 _ ⟨rfl, K816, S817⟩
         have h := hK813
         refine WO.fin ?_
         refine DN.seq ?_
         revert h
         cases ht818 : p118 with
         | true =>
          intro h; replace h := cT h
          refine WC.ct rfl ?_
          refine WC.seq ?_
          refine WC.rs [(0, 2)] rfl ?_
          refine WO.pn 1 rfl ?_
          refine WO.fin ?_
          refine DN.seq ?_
          refine WC.ret ?_
          refine DN.retThen ?_
          have f819 := hE.stp (S3.tr (S7.tr (S11.tr (S20.tr (S32.tr (S39.tr (S279.tr (S286.tr (S289.tr (S300.tr (S307.tr (S310.tr (S314.tr (S419.tr (S426.tr (S429.tr (S441.tr (S452.tr (S457.tr (S469.tr (S480.tr (S496.tr (S512.tr (S534.tr (S539.tr (S553.tr (S563.tr (S572.tr (S810.tr S817))))))))))))))))))))))))))))) rfl rfl
          refine DN.res (l := [.tmp 6]) Try.results12 (res_tmp rfl rfl) rfl ?_
          obtain rfl := Option.some.inj h
          exact ⟨K816, rfl, f819⟩
         | false =>
          intro h; replace h := cF h
          refine WC.cf rfl ?_
          refine WC.skip ?_
          refine DN.seq ?_
          refine WC.seq ?_
          refine WC.rs [(0, 2)] rfl ?_
          refine WO.pn 1 rfl ?_
          refine WO.fin ?_
          refine DN.seq ?_
          refine WC.seq ?_
          refine WC.rs [(0, 1), (1, 2), (2, 1), (3, 2)] rfl ?_
          have f820 := f558.stp (S563.tr (S572.tr (S810.tr S817))) rfl rfl
          refine WO.k1 trivial rfl rfl rfl rfl (rn_la (cs := [.slice lar315_0 x48.1.Stem.length lur315_0, .slice lar315_1 x48.1.Loop.length lur315_1]) Try.isAgg82 Try.sizeOf82 rfl rfl rfl (haE f820.cells)) ?_
          refine WO.pn 1 rfl ?_
          obtain ⟨x121, hx121, h⟩ := Option.bind_eq_some_iff.mp h
          have f821 := f556.stp (S563.tr (S572.tr (S810.tr S817))) rfl rfl
          have f822 := f557.stp (S563.tr (S572.tr (S810.tr S817))) rfl rfl
          refine WO.call rfl rfl rfl rfl rfl rfl Try.call55 (Ret.cast (by simp only [(hn549), (hn551)]) (l_heldWord_ok (κ := fun b => mp [] 0 (K816 b)) (p0 := (⟨x91.2.1, x91.2.2⟩ : Word)) (Sl.map f821.rdc (mp [] 0) rfl rfl) (Sl.map f822.rdc (mp [] 0) rfl rfl) hx121)) ?_
          rintro _ w823 ⟨k824, rfl, e825⟩
          obtain ⟨K826, S827, m828⟩ := Ent.mixed (l := []) (κ := K816) e825 58 rfl
          refine ⟨trivial, ?_⟩
          refine WO.pn 1 rfl ?_
          refine WO.fin ?_
          refine DN.seq ?_
          refine WC.seq ?_
          refine WC.seq ?_
          refine WC.rs [(0, 2), (1, 2)] rfl ?_
          refine WO.pn 2 rfl ?_
          refine WO.fin ?_
          refine DN.seq ?_
          revert h
          cases ht830 : decide (x121 < 0) with
          | true =>
           intro h; replace h := cT h
           refine WC.ct rfl ?_
           refine WC.seq ?_
           refine WC.rs [(0, 2)] rfl ?_
           refine WO.pn 1 rfl ?_
           refine WO.fin ?_
           refine DN.seq ?_
           refine WC.ret ?_
           refine DN.retThen ?_
           have f831 := hE.stp (S3.tr (S7.tr (S11.tr (S20.tr (S32.tr (S39.tr (S279.tr (S286.tr (S289.tr (S300.tr (S307.tr (S310.tr (S314.tr (S419.tr (S426.tr (S429.tr (S441.tr (S452.tr (S457.tr (S469.tr (S480.tr (S496.tr (S512.tr (S534.tr (S539.tr (S553.tr (S563.tr (S572.tr (S810.tr (S817.tr S827)))))))))))))))))))))))))))))) rfl rfl
           refine DN.res (l := [.tmp 6]) Try.results12 (res_tmp rfl rfl) rfl ?_
           obtain rfl := Option.some.inj h
           exact ⟨K826, rfl, f831⟩
          | false =>
           intro h; replace h := cF h
           refine WC.cf rfl ?_
           refine WC.skip ?_
           refine DN.seq ?_
           refine WC.seq ?_
           refine WC.seq ?_
           refine WC.rs [(0, 2), (1, 2), (2, 2)] rfl ?_
           refine WO.pn 3 rfl ?_
           refine WO.fin ?_
           refine DN.seq ?_
           revert h
           cases ht832 : (x121 != x91.1) with
           | true =>
            intro h; replace h := cT h
            refine WC.ct rfl ?_
            refine WC.seq ?_
            refine WC.rs [(0, 2)] rfl ?_
            refine WO.pn 1 rfl ?_
            refine WO.fin ?_
            refine DN.seq ?_
            refine WC.ret ?_
            refine DN.retThen ?_
            have f833 := hE.stp (S3.tr (S7.tr (S11.tr (S20.tr (S32.tr (S39.tr (S279.tr (S286.tr (S289.tr (S300.tr (S307.tr (S310.tr (S314.tr (S419.tr (S426.tr (S429.tr (S441.tr (S452.tr (S457.tr (S469.tr (S480.tr (S496.tr (S512.tr (S534.tr (S539.tr (S553.tr (S563.tr (S572.tr (S810.tr (S817.tr S827)))))))))))))))))))))))))))))) rfl rfl
            refine DN.res (l := [.tmp 6]) Try.results12 (res_tmp rfl rfl) rfl ?_
            obtain rfl := Option.some.inj h
            exact ⟨K826, rfl, f833⟩
           | false =>
            intro h; replace h := cF h
            refine WC.cf rfl ?_
            refine WC.skip ?_
            refine DN.seq ?_
            refine WC.seq ?_
            refine WC.rs [(0, 2)] rfl ?_
            refine WO.pn 1 rfl ?_
            refine WO.fin ?_
            refine DN.seq ?_
            refine WC.ret ?_
            have f834 := hE.stp (S3.tr (S7.tr (S11.tr (S20.tr (S32.tr (S39.tr (S279.tr (S286.tr (S289.tr (S300.tr (S307.tr (S310.tr (S314.tr (S419.tr (S426.tr (S429.tr (S441.tr (S452.tr (S457.tr (S469.tr (S480.tr (S496.tr (S512.tr (S534.tr (S539.tr (S553.tr (S563.tr (S572.tr (S810.tr (S817.tr S827)))))))))))))))))))))))))))))) rfl rfl
            refine DN.res (l := [.tmp 6]) Try.results12 (res_tmp rfl rfl) rfl ?_
            obtain rfl := Option.some.inj h
            exact ⟨K826, rfl, f834⟩

end Go.Proofs.Ytgniipbjjkodaaa
