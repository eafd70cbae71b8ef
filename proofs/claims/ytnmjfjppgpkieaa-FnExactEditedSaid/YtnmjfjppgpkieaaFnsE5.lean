/- The walks, part 5. By program. -/
import Derived.Test.YtnmjfjppgpkieaaSort
import Derived.Test.YtnmjfjppgpkieaaShelf
import Derived.Test.YtnmjfjppgpkieaaFnsE4
set_option linter.unusedVariables false
set_option linter.unusedSimpArgs false
namespace Go.Proofs.Ytnmjfjppgpkieaa
open Go Go.Wk Go.Proofs
set_option maxRecDepth 100000
set_option maxHeartbeats 1000000

/- loop.example/g00869/laws.FnExactEdited -/
theorem l_FnExactEdited_ok {w : World} {κ : Col} {a0_0_0 : Option Addr} {u0_0_0 : Nat} {a0_0_1 : Option Addr} {u0_0_1 : Nat} {a0_1 : Option Addr} {u0_1 : Nat} {p0 : Parity} {p1 : Edit} (g0_0_0 : Rd (Rp.int .i64) κ w 0 a0_0_0 u0_0_0 p0.Arena.Owner) (g0_0_1 : Rd (Rp.sl (Rp.int .i64)) κ w 0 a0_0_1 u0_0_1 p0.Arena.Next) (g0_1 : Rd (Rp.int .i64) κ w 0 a0_1 u0_1 p0.Prio) {r : Bool} (h : l_FnExactEdited p0 p1 = some r) : Ret Try.prog 5 [.agg #[.slice a0_0_0 p0.Arena.Owner.length u0_0_0, .slice a0_0_1 p0.Arena.Next.length u0_0_1, .slice a0_1 p0.Prio.length u0_1], .agg #[.int .i64 p1.Kind, .int .i64 p1.V, .int .i64 p1.N]] w (fun v w' => ∃ (κ' : Col), v = .bool r ∧ Ent κ w κ' w') := by
 unfold l_FnExactEdited at h
 refine Ret.enter Try.func5 rfl Try.ntmps5 rfl ?_
 dsimp only [envOf]
 have hE := Ent.refl κ w
 refine WC.seq ?_
 refine WC.rs [(0, 1), (1, 1), (2, 2)] rfl ?_
 refine WO.box (κ := κ) 2 rfl rfl rfl rfl rfl rfl rfl fun b2 w1 K2 S3 f4 => ⟨trivial, ?_⟩
 refine WO.box (κ := K2) 3 rfl rfl rfl rfl rfl rfl rfl fun b3 w5 K6 S7 f8 => ⟨trivial, ?_⟩
 refine WO.pn 1 rfl ?_
 refine WO.fin ?_
 refine DN.seq ?_
 refine WC.seq ?_
 refine WC.rs [(0, 2)] rfl ?_
 refine WO.pn 1 rfl ?_
 refine WO.fin ?_
 refine DN.seq ?_
 refine WC.seq ?_
 refine WC.rs [(0, 1), (1, 2), (2, 1), (3, 2)] rfl ?_
 have f9 := f4.stp S7 rfl rfl
 refine WO.k1 trivial rfl rfl rfl rfl (rn_la (cs := [.slice a0_0_0 p0.Arena.Owner.length u0_0_0, .slice a0_0_1 p0.Arena.Next.length u0_0_1, .slice a0_1 p0.Prio.length u0_1]) Try.isAgg68 Try.sizeOf68 rfl rfl rfl (haE f9.cells)) ?_
 refine WO.pn 1 rfl ?_
 obtain ⟨x18, hx18, h⟩ := Option.bind_eq_some_iff.mp h
 have f10 := g0_0_0.stp (S3.tr S7) rfl rfl
 have f11 := g0_0_1.stp (S3.tr S7) rfl rfl
 have f12 := g0_1.stp (S3.tr S7) rfl rfl
 refine WO.call rfl rfl rfl rfl rfl rfl Try.call32 (l_szParity_ok (κ := fun b => mp [] 0 (K6 b)) (p0 := p0) (Sl.map f10 (mp [] 0) rfl rfl) (Sl.map f11 (mp [] 0) rfl rfl) (Sl.map f12 (mp [] 0) rfl rfl) hx18) ?_
 rintro _ w13 ⟨k14, rfl, e15⟩
 obtain ⟨K16, S17, m18⟩ := Ent.mixed (l := []) (κ := K6) e15 4 rfl
 refine ⟨trivial, ?_⟩
 refine WO.pn 1 rfl ?_
 refine WO.fin ?_
 refine DN.seq ?_
 refine WC.seq ?_
 refine WC.seq ?_
 refine WC.rs [(0, 2), (1, 2)] rfl ?_
 refine WO.pn 2 rfl ?_
 refine WO.fin ?_
 refine DN.seq ?_
 revert h
 cases ht20 : decide (x18 < 0) with
 | true =>
  intro h; replace h := cT h
  refine WC.ct rfl ?_
  refine WC.seq ?_
  refine WC.rs [(0, 2)] rfl ?_
  refine WO.pn 1 rfl ?_
  refine WO.fin ?_
  refine DN.seq ?_
  refine WC.ret ?_
  refine DN.retThen ?_
  have f21 := hE.stp (S3.tr (S7.tr S17)) rfl rfl
  refine DN.res (l := [.tmp 4]) Try.results5 (res_tmp rfl rfl) rfl ?_
  obtain rfl := Option.some.inj h
  exact ⟨K16, rfl, f21⟩
 | false =>
  intro h; replace h := cF h
  refine WC.cf rfl ?_
  refine WC.skip ?_
  refine DN.seq ?_
  refine WC.seq ?_
  obtain ⟨x23, hx23, h⟩ := Option.bind_eq_some_iff.mp h
  obtain ⟨x25, hx25, h⟩ := Option.bind_eq_some_iff.mp h
  obtain ⟨x26, hx26, h⟩ := Option.bind_eq_some_iff.mp h
  refine WC.meet (fun L w' => ∃ (κ' : Col) (b6 : Nat) (lar25_0 : Option Addr) (lur25_0 : Nat) (lar25_1 : Option Addr) (lur25_1 : Nat) (lar25_2 : Option Addr) (lur25_2 : Nat), L = [(2, .pointer (some ⟨b2, 0, none⟩)), (3, .pointer (some ⟨b3, 0, none⟩)), (6, .pointer (some ⟨b6, 0, none⟩)), (7, .bool x26.2)] ∧ Stp [6, 8, 9, 10, 11, 13, 15, 16, 17, 18] K16 w13 κ' w' ∧ Oc (Ep.int .i64) 2 κ' w' 6 lar25_0 lur25_0 x26.1.Arena.Owner ∧ Oc (Ep.fz (Rp.sl (Rp.int .i64))) 28 κ' w' 7 lar25_1 lur25_1 x26.1.Arena.Next ∧ Oc (Ep.int .i64) 2 κ' w' 8 lar25_2 lur25_2 x26.1.Prio ∧ Bc κ' w' 9 b6 74 [.slice lar25_0 x26.1.Arena.Owner.length lur25_0, .slice lar25_1 x26.1.Arena.Next.length lur25_1, .slice lar25_2 x26.1.Prio.length lur25_2]) ?_ ?_
  ·
   refine WC.rxt (κ := K16) [2, 3] none (by kernel_rfl) fun w30 S31 => ?_
   refine WA.seg (fuel := 9) [(0, 0), (2, 0)] (by kernel_rfl) (by kernel_rfl) rfl ?_
   have f32 := f9.stp (S17.tr S31) rfl rfl
   refine WO.k0 rfl rfl rfl rfl (rn_la (cs := [.slice a0_0_0 p0.Arena.Owner.length u0_0_0, .slice a0_0_1 p0.Arena.Next.length u0_0_1, .slice a0_1 p0.Prio.length u0_1]) Try.isAgg68 Try.sizeOf68 rfl rfl rfl (haC f32.cells rfl)) ?_
   have f33 := f8.stp (S17.tr S31) rfl rfl
   refine WO.k0 rfl rfl rfl rfl (rn_la (cs := [.int .i64 p1.Kind, .int .i64 p1.V, .int .i64 p1.N]) Try.isAgg70 Try.sizeOf70 rfl rfl rfl (haC f33.cells rfl)) ?_
   refine WO.wa ?_
   refine WA.fork2 (fuel := 8) 1 8 (by kernel_rfl) rfl ?_ ?_
   ·
    have f34 := f10.stp (S17.tr S31) rfl rfl
    have f35 := f11.stp (S17.tr S31) rfl rfl
    have f36 := f12.stp (S17.tr S31) rfl rfl
    refine WO.call rfl rfl rfl rfl rfl rfl Try.call34 (l_toParity_ok (κ := fun b => mp [] 0 (K16 b)) (p0 := p0) (Sl.map f34 (mp [] 0) rfl rfl) (Sl.map f35 (mp [] 0) rfl rfl) (Sl.map f36 (mp [] 0) rfl rfl) hx23) ?_
    rintro _ w37 ⟨k38, a23_0, u23_0, a23_1, u23_1, a23_2, u23_2, rfl, e39, f40, f41, f42⟩
    obtain ⟨K43, S44, m45⟩ := Ent.mixed (l := []) (κ := K16) e39 6 rfl
    refine ⟨(S44.cl rfl), ?_⟩
    have f47 := f40.mx (no_int _) m45 rfl (rfl : 6 + 2 = 8)
    have f48 := f41.mx (no_own (no_int _) _) m45 rfl (rfl : 6 + 3 = 9)
    have f49 := f42.mx (no_int _) m45 rfl (rfl : 6 + 4 = 10)
    refine WO.wa ?_
    refine WA.fork2 (fuel := 7) 3 8 (by kernel_rfl) rfl ?_ ?_
    ·
     refine WO.call rfl rfl rfl rfl rfl rfl Try.call35 (l_toEdit_ok (κ := fun b => mp [] 0 (K43 b)) (p0 := p1) hx25) ?_
     rintro _ w50 ⟨k51, rfl, e52⟩
     obtain ⟨K53, S54, m55⟩ := Ent.mixed (l := []) (κ := K43) e52 11 rfl
     refine ⟨((S44.tr S54).cl rfl), ?_⟩
     refine WO.wa ?_
     refine WA.fork2 (fuel := 6) 4 8 (by kernel_rfl) rfl ?_ ?_
     ·
      have f57 := f47.stp S54 rfl rfl
      obtain ⟨K58, S59, z60⟩ := fz_ex K53 w50 8
      have f61 := Sl.st z60 f57.rdc
      have f62 := f48.stp (S54.tr S59) rfl rfl
      obtain ⟨K63, S64, z65⟩ := fz_ex K58 w50 9
      have f66 := Sl.st z65 f62.rdc
      have f67 := f49.stp (S54.tr (S59.tr S64)) rfl rfl
      obtain ⟨K68, S69, z70⟩ := fz_ex K63 w50 10
      have f71 := Sl.st z70 f67.rdc
      have f72 := f61.stp (S64.tr S69) rfl rfl
      have f73 := f66.stp S69 rfl rfl
      refine WO.call rfl rfl rfl rfl rfl rfl Try.call33 (s_Edited_ok (κ := fun b => mp [] 1 (K68 b)) (p0 := x23) (p1 := x25) (Sl.map f72 (mp [] 1) rfl rfl) (Sl.map f73 (mp [] 1) rfl rfl) (Sl.map f71 (mp [] 1) rfl rfl) hx26) ?_
      rintro _ w74 ⟨k75, a26_0, u26_0, a26_1, u26_1, a26_2, u26_2, rfl, e76, f77, f78, f79⟩
      obtain ⟨K80, S81, m82, z83⟩ := Ent.mixed0 (l := []) (κ := K68) e76 13 rfl
      refine ⟨((S44.tr (S54.tr (S59.tr (S64.tr (S69.tr S81))))).cl rfl), ?_⟩
      have f84 := f77.mx (no_int _) m82 rfl (rfl : 13 + 2 = 15)
      have f85 := f78.mxz z83 m82 rfl (rfl : 13 + 3 = 16)
      have f86 := f79.mx (no_int _) m82 rfl (rfl : 13 + 4 = 17)
      refine WO.wa ?_
      refine WA.seg (fuel := 0) [(5, 2), (6, 2), (7, 2), (8, 1), (9, 1), (10, 2)] (by kernel_rfl) (by kernel_rfl) rfl ?_
      refine WO.pn 3 rfl ?_
      refine WO.alloc (κ := K80) 18 rfl rfl rfl rfl rfl Try.zeroValue74 rfl fun b6 w87 K88 S89 f90 => ⟨((S44.tr (S54.tr (S59.tr (S64.tr (S69.tr (S81.tr S89)))))).cl rfl), ?_⟩
      refine WO.stB0 (κ := K88) 18 (vc := [.slice a26_0 x26.1.Arena.Owner.length u26_0, .slice a26_1 x26.1.Arena.Next.length u26_1, .slice a26_2 x26.1.Prio.length u26_2]) rfl rfl rfl rfl rfl rfl rfl Try.sizeOf74 rfl rfl f90 rfl fun w91 S92 f93 => ⟨((S44.tr (S54.tr (S59.tr (S64.tr (S69.tr (S81.tr (S89.tr S92))))))).cl rfl), ?_⟩
      refine WO.pn 1 rfl ?_
      refine WO.wa ?_
      refine WA.last [] (by kernel_rfl) (by kernel_rfl) rfl ?_
      refine WO.fin ?_
      have f94 := f84.stp (S89.tr S92) rfl rfl
      have f95 := f85.stp (S89.tr S92) rfl rfl
      have f96 := f86.stp (S89.tr S92) rfl rfl
      exact DN.meet _ ⟨(fun b => ren [(15, 6), (16, 7), (17, 8), (18, 9)] (K88 b)), b6, a26_0, u26_0, a26_1, u26_1, a26_2, u26_2, rfl, (Stp.ren ((S31.tr (S44.tr (S54.tr (S59.tr (S64.tr (S69.tr (S81.tr (S89.tr S92)))))))).wk rfl) [(15, 6), (16, 7), (17, 8), (18, 9)] rfl), (f94.map (ren [(15, 6), (16, 7), (17, 8), (18, 9)]) rfl rfl), (f95.map (ren [(15, 6), (16, 7), (17, 8), (18, 9)]) rfl rfl), (f96.map (ren [(15, 6), (16, 7), (17, 8), (18, 9)]) rfl rfl), (f93.map (ren [(15, 6), (16, 7), (17, 8), (18, 9)]) rfl rfl)⟩ fun a ha => (ha.more (ha.more (ha.more (ha.more ha.nil rfl) rfl) rfl) rfl)
     ·
      refine WO.alloc (κ := K53) 13 rfl rfl rfl rfl rfl Try.zeroValue74 rfl fun b6 w97 K98 S99 f100 => ⟨((S44.tr (S54.tr S99)).cl rfl), ?_⟩
      refine WO.wa ?_
      refine WA.seg (fuel := 0) [(4, 1), (5, 2), (6, 2), (7, 2), (9, 1), (10, 2)] (by kernel_rfl) (by kernel_rfl) rfl ?_
      have f101 := f47.stp (S54.tr S99) rfl rfl
      obtain ⟨K102, S103, z104⟩ := fz_ex K98 w97 8
      have f105 := Sl.st z104 f101.rdc
      have f106 := f48.stp (S54.tr (S99.tr S103)) rfl rfl
      obtain ⟨K107, S108, z109⟩ := fz_ex K102 w97 9
      have f110 := Sl.st z109 f106.rdc
      have f111 := f49.stp (S54.tr (S99.tr (S103.tr S108))) rfl rfl
      obtain ⟨K112, S113, z114⟩ := fz_ex K107 w97 10
      have f115 := Sl.st z114 f111.rdc
      have f116 := f105.stp (S108.tr S113) rfl rfl
      have f117 := f110.stp S113 rfl rfl
      refine WO.call rfl rfl rfl rfl rfl rfl Try.call33 (s_Edited_ok (κ := fun b => mp [] 1 (K112 b)) (p0 := x23) (p1 := x25) (Sl.map f116 (mp [] 1) rfl rfl) (Sl.map f117 (mp [] 1) rfl rfl) (Sl.map f115 (mp [] 1) rfl rfl) hx26) ?_
      rintro _ w118 ⟨k119, a26_0, u26_0, a26_1, u26_1, a26_2, u26_2, rfl, e120, f121, f122, f123⟩
      obtain ⟨K124, S125, m126, z127⟩ := Ent.mixed0 (l := []) (κ := K112) e120 14 rfl
      refine ⟨((S44.tr (S54.tr (S99.tr (S103.tr (S108.tr (S113.tr S125)))))).cl rfl), ?_⟩
      have f128 := f121.mx (no_int _) m126 rfl (rfl : 14 + 2 = 16)
      have f129 := f122.mxz z127 m126 rfl (rfl : 14 + 3 = 17)
      have f130 := f123.mx (no_int _) m126 rfl (rfl : 14 + 4 = 18)
      refine WO.pn 3 rfl ?_
      have f131 := f100.stp (S103.tr (S108.tr (S113.tr S125))) rfl rfl
      refine WO.stB0 (κ := K124) 13 (vc := [.slice a26_0 x26.1.Arena.Owner.length u26_0, .slice a26_1 x26.1.Arena.Next.length u26_1, .slice a26_2 x26.1.Prio.length u26_2]) rfl rfl rfl rfl rfl rfl rfl Try.sizeOf74 rfl rfl f131 rfl fun w132 S133 f134 => ⟨((S44.tr (S54.tr (S99.tr (S103.tr (S108.tr (S113.tr (S125.tr S133))))))).cl rfl), ?_⟩
      refine WO.pn 1 rfl ?_
      refine WO.wa ?_
      refine WA.last [] (by kernel_rfl) (by kernel_rfl) rfl ?_
      refine WO.fin ?_
      have f135 := f128.stp S133 rfl rfl
      have f136 := f129.stp S133 rfl rfl
      have f137 := f130.stp S133 rfl rfl
      exact DN.meet _ ⟨(fun b => ren [(16, 6), (17, 7), (18, 8), (13, 9)] (K124 b)), b6, a26_0, u26_0, a26_1, u26_1, a26_2, u26_2, rfl, (Stp.ren ((S31.tr (S44.tr (S54.tr (S99.tr (S103.tr (S108.tr (S113.tr (S125.tr S133)))))))).wk rfl) [(16, 6), (17, 7), (18, 8), (13, 9)] rfl), (f135.map (ren [(16, 6), (17, 7), (18, 8), (13, 9)]) rfl rfl), (f136.map (ren [(16, 6), (17, 7), (18, 8), (13, 9)]) rfl rfl), (f137.map (ren [(16, 6), (17, 7), (18, 8), (13, 9)]) rfl rfl), (f134.map (ren [(16, 6), (17, 7), (18, 8), (13, 9)]) rfl rfl)⟩ fun a ha => (ha.more (ha.more (ha.more (ha.more ha.nil rfl) rfl) rfl) rfl)
    ·
     refine WO.alloc (κ := K43) 11 rfl rfl rfl rfl rfl Try.zeroValue74 rfl fun b6 w138 K139 S140 f141 => ⟨((S44.tr S140).cl rfl), ?_⟩
     refine WO.wa ?_
     refine WA.seg (fuel := 0) [(3, 1), (4, 1), (5, 2), (6, 2), (7, 2), (9, 1), (10, 2)] (by kernel_rfl) (by kernel_rfl) rfl ?_
     refine WO.call rfl rfl rfl rfl rfl rfl Try.call35 (l_toEdit_ok (κ := fun b => mp [] 0 (K139 b)) (p0 := p1) hx25) ?_
     rintro _ w142 ⟨k143, rfl, e144⟩
     obtain ⟨K145, S146, m147⟩ := Ent.mixed (l := []) (κ := K139) e144 12 rfl
     refine ⟨((S44.tr (S140.tr S146)).cl rfl), ?_⟩
     have f149 := f47.stp (S140.tr S146) rfl rfl
     obtain ⟨K150, S151, z152⟩ := fz_ex K145 w142 8
     have f153 := Sl.st z152 f149.rdc
     have f154 := f48.stp (S140.tr (S146.tr S151)) rfl rfl
     obtain ⟨K155, S156, z157⟩ := fz_ex K150 w142 9
     have f158 := Sl.st z157 f154.rdc
     have f159 := f49.stp (S140.tr (S146.tr (S151.tr S156))) rfl rfl
     obtain ⟨K160, S161, z162⟩ := fz_ex K155 w142 10
     have f163 := Sl.st z162 f159.rdc
     have f164 := f153.stp (S156.tr S161) rfl rfl
     have f165 := f158.stp S161 rfl rfl
     refine WO.call rfl rfl rfl rfl rfl rfl Try.call33 (s_Edited_ok (κ := fun b => mp [] 1 (K160 b)) (p0 := x23) (p1 := x25) (Sl.map f164 (mp [] 1) rfl rfl) (Sl.map f165 (mp [] 1) rfl rfl) (Sl.map f163 (mp [] 1) rfl rfl) hx26) ?_
     rintro _ w166 ⟨k167, a26_0, u26_0, a26_1, u26_1, a26_2, u26_2, rfl, e168, f169, f170, f171⟩
     obtain ⟨K172, S173, m174, z175⟩ := Ent.mixed0 (l := []) (κ := K160) e168 14 rfl
     refine ⟨((S44.tr (S140.tr (S146.tr (S151.tr (S156.tr (S161.tr S173)))))).cl rfl), ?_⟩
     have f176 := f169.mx (no_int _) m174 rfl (rfl : 14 + 2 = 16)
     have f177 := f170.mxz z175 m174 rfl (rfl : 14 + 3 = 17)
     have f178 := f171.mx (no_int _) m174 rfl (rfl : 14 + 4 = 18)
     refine WO.pn 3 rfl ?_
     have f179 := f141.stp (S146.tr (S151.tr (S156.tr (S161.tr S173)))) rfl rfl
     refine WO.stB0 (κ := K172) 11 (vc := [.slice a26_0 x26.1.Arena.Owner.length u26_0, .slice a26_1 x26.1.Arena.Next.length u26_1, .slice a26_2 x26.1.Prio.length u26_2]) rfl rfl rfl rfl rfl rfl rfl Try.sizeOf74 rfl rfl f179 rfl fun w180 S181 f182 => ⟨((S44.tr (S140.tr (S146.tr (S151.tr (S156.tr (S161.tr (S173.tr S181))))))).cl rfl), ?_⟩
     refine WO.pn 1 rfl ?_
     refine WO.wa ?_
     refine WA.last [] (by kernel_rfl) (by kernel_rfl) rfl ?_
     refine WO.fin ?_
     have f183 := f176.stp S181 rfl rfl
     have f184 := f177.stp S181 rfl rfl
     have f185 := f178.stp S181 rfl rfl
     exact DN.meet _ ⟨(fun b => ren [(16, 6), (17, 7), (18, 8), (11, 9)] (K172 b)), b6, a26_0, u26_0, a26_1, u26_1, a26_2, u26_2, rfl, (Stp.ren ((S31.tr (S44.tr (S140.tr (S146.tr (S151.tr (S156.tr (S161.tr (S173.tr S181)))))))).wk rfl) [(16, 6), (17, 7), (18, 8), (11, 9)] rfl), (f183.map (ren [(16, 6), (17, 7), (18, 8), (11, 9)]) rfl rfl), (f184.map (ren [(16, 6), (17, 7), (18, 8), (11, 9)]) rfl rfl), (f185.map (ren [(16, 6), (17, 7), (18, 8), (11, 9)]) rfl rfl), (f182.map (ren [(16, 6), (17, 7), (18, 8), (11, 9)]) rfl rfl)⟩ fun a ha => (ha.more (ha.more (ha.more (ha.more ha.nil rfl) rfl) rfl) rfl)
   ·
    refine WO.alloc (κ := K16) 6 rfl rfl rfl rfl rfl Try.zeroValue74 rfl fun b6 w186 K187 S188 f189 => ⟨(S188.cl rfl), ?_⟩
    refine WO.wa ?_
    refine WA.seg (fuel := 0) [(1, 1), (3, 1), (4, 1), (5, 2), (6, 2), (7, 2), (9, 1), (10, 2)] (by kernel_rfl) (by kernel_rfl) rfl ?_
    have f190 := f10.stp (S17.tr (S31.tr S188)) rfl rfl
    have f191 := f11.stp (S17.tr (S31.tr S188)) rfl rfl
    have f192 := f12.stp (S17.tr (S31.tr S188)) rfl rfl
    refine WO.call rfl rfl rfl rfl rfl rfl Try.call34 (l_toParity_ok (κ := fun b => mp [] 0 (K187 b)) (p0 := p0) (Sl.map f190 (mp [] 0) rfl rfl) (Sl.map f191 (mp [] 0) rfl rfl) (Sl.map f192 (mp [] 0) rfl rfl) hx23) ?_
    rintro _ w193 ⟨k194, a23_0, u23_0, a23_1, u23_1, a23_2, u23_2, rfl, e195, f196, f197, f198⟩
    obtain ⟨K199, S200, m201⟩ := Ent.mixed (l := []) (κ := K187) e195 7 rfl
    refine ⟨((S188.tr S200).cl rfl), ?_⟩
    have f203 := f196.mx (no_int _) m201 rfl (rfl : 7 + 2 = 9)
    have f204 := f197.mx (no_own (no_int _) _) m201 rfl (rfl : 7 + 3 = 10)
    have f205 := f198.mx (no_int _) m201 rfl (rfl : 7 + 4 = 11)
    refine WO.call rfl rfl rfl rfl rfl rfl Try.call35 (l_toEdit_ok (κ := fun b => mp [] 0 (K199 b)) (p0 := p1) hx25) ?_
    rintro _ w206 ⟨k207, rfl, e208⟩
    obtain ⟨K209, S210, m211⟩ := Ent.mixed (l := []) (κ := K199) e208 12 rfl
    refine ⟨((S188.tr (S200.tr S210)).cl rfl), ?_⟩
    have f213 := f203.stp S210 rfl rfl
    obtain ⟨K214, S215, z216⟩ := fz_ex K209 w206 9
    have f217 := Sl.st z216 f213.rdc
    have f218 := f204.stp (S210.tr S215) rfl rfl
    obtain ⟨K219, S220, z221⟩ := fz_ex K214 w206 10
    have f222 := Sl.st z221 f218.rdc
    have f223 := f205.stp (S210.tr (S215.tr S220)) rfl rfl
    obtain ⟨K224, S225, z226⟩ := fz_ex K219 w206 11
    have f227 := Sl.st z226 f223.rdc
    have f228 := f217.stp (S220.tr S225) rfl rfl
    have f229 := f222.stp S225 rfl rfl
    refine WO.call rfl rfl rfl rfl rfl rfl Try.call33 (s_Edited_ok (κ := fun b => mp [] 1 (K224 b)) (p0 := x23) (p1 := x25) (Sl.map f228 (mp [] 1) rfl rfl) (Sl.map f229 (mp [] 1) rfl rfl) (Sl.map f227 (mp [] 1) rfl rfl) hx26) ?_
    rintro _ w230 ⟨k231, a26_0, u26_0, a26_1, u26_1, a26_2, u26_2, rfl, e232, f233, f234, f235⟩
    obtain ⟨K236, S237, m238, z239⟩ := Ent.mixed0 (l := []) (κ := K224) e232 14 rfl
    refine ⟨((S188.tr (S200.tr (S210.tr (S215.tr (S220.tr (S225.tr S237)))))).cl rfl), ?_⟩
    have f240 := f233.mx (no_int _) m238 rfl (rfl : 14 + 2 = 16)
    have f241 := f234.mxz z239 m238 rfl (rfl : 14 + 3 = 17)
    have f242 := f235.mx (no_int _) m238 rfl (rfl : 14 + 4 = 18)
    refine WO.pn 3 rfl ?_
    have f243 := f189.stp (S200.tr (S210.tr (S215.tr (S220.tr (S225.tr S237))))) rfl rfl
    refine WO.stB0 (κ := K236) 6 (vc := [.slice a26_0 x26.1.Arena.Owner.length u26_0, .slice a26_1 x26.1.Arena.Next.length u26_1, .slice a26_2 x26.1.Prio.length u26_2]) rfl rfl rfl rfl rfl rfl rfl Try.sizeOf74 rfl rfl f243 rfl fun w244 S245 f246 => ⟨((S188.tr (S200.tr (S210.tr (S215.tr (S220.tr (S225.tr (S237.tr S245))))))).cl rfl), ?_⟩
    refine WO.pn 1 rfl ?_
    refine WO.wa ?_
    refine WA.last [] (by kernel_rfl) (by kernel_rfl) rfl ?_
    refine WO.fin ?_
    have f247 := f240.stp S245 rfl rfl
    have f248 := f241.stp S245 rfl rfl
    have f249 := f242.stp S245 rfl rfl
    exact DN.meet _ ⟨(fun b => ren [(16, 6), (17, 7), (18, 8), (6, 9)] (K236 b)), b6, a26_0, u26_0, a26_1, u26_1, a26_2, u26_2, rfl, (Stp.ren ((S31.tr (S188.tr (S200.tr (S210.tr (S215.tr (S220.tr (S225.tr (S237.tr S245)))))))).wk rfl) [(16, 6), (17, 7), (18, 8), (6, 9)] rfl), (f247.map (ren [(16, 6), (17, 7), (18, 8), (6, 9)]) rfl rfl), (f248.map (ren [(16, 6), (17, 7), (18, 8), (6, 9)]) rfl rfl), (f249.map (ren [(16, 6), (17, 7), (18, 8), (6, 9)]) rfl rfl), (f246.map (ren [(16, 6), (17, 7), (18, 8), (6, 9)]) rfl rfl)⟩ fun a ha => (ha.more (ha.more (ha.more (ha.more ha.nil rfl) rfl) rfl) rfl)
  rintro _ w22 ⟨K23, b6, lar25_0, lur25_0, lar25_1, lur25_1, lar25_2, lur25_2, rfl, S24, f26, f27, f28, f29⟩
  refine DN.seq ?_
  refine WC.seq ?_
  refine WC.rs [(0, 1), (1, 1), (2, 1), (3, 1)] rfl ?_
  have f250 := f9.stp (S17.tr S24) rfl rfl
  refine WO.k1 trivial rfl rfl rfl rfl (rn_la (cs := [.slice a0_0_0 p0.Arena.Owner.length u0_0_0, .slice a0_0_1 p0.Arena.Next.length u0_0_1, .slice a0_1 p0.Prio.length u0_1]) Try.isAgg68 Try.sizeOf68 rfl rfl rfl (haE f250.cells)) ?_
  obtain ⟨x30, hx30, h⟩ := Option.bind_eq_some_iff.mp h
  have f251 := f10.stp (S17.tr S24) rfl rfl
  have f252 := f11.stp (S17.tr S24) rfl rfl
  have f253 := f12.stp (S17.tr S24) rfl rfl
  refine WO.call rfl rfl rfl rfl rfl rfl Try.call34 (l_toParity_ok (κ := fun b => mp [] 0 (K23 b)) (p0 := p0) (Sl.map f251 (mp [] 0) rfl rfl) (Sl.map f252 (mp [] 0) rfl rfl) (Sl.map f253 (mp [] 0) rfl rfl) hx30) ?_
  rintro _ w254 ⟨k255, a30_0, u30_0, a30_1, u30_1, a30_2, u30_2, rfl, e256, f257, f258, f259⟩
  obtain ⟨K260, S261, m262⟩ := Ent.mixed (l := []) (κ := K23) e256 10 rfl
  refine ⟨trivial, ?_⟩
  have f264 := f257.mx (no_int _) m262 rfl (rfl : 10 + 2 = 12)
  have f265 := f258.mx (no_own (no_int _) _) m262 rfl (rfl : 10 + 3 = 13)
  have f266 := f259.mx (no_int _) m262 rfl (rfl : 10 + 4 = 14)
  refine WO.alloc (κ := K260) 15 rfl rfl rfl rfl rfl Try.zeroValue74 rfl fun b8 w267 K268 S269 f270 => ⟨trivial, ?_⟩
  refine WO.stB0 (κ := K268) 15 (vc := [.slice a30_0 x30.Arena.Owner.length u30_0, .slice a30_1 x30.Arena.Next.length u30_1, .slice a30_2 x30.Prio.length u30_2]) rfl rfl rfl rfl rfl rfl rfl Try.sizeOf74 rfl rfl f270 rfl fun w271 S272 f273 => ⟨trivial, ?_⟩
  refine WO.fin ?_
  refine DN.seq ?_
  refine WC.seq ?_
  obtain ⟨x34, hx34, h⟩ := Option.bind_eq_some_iff.mp h
  obtain ⟨x35, hx35, h⟩ := Option.bind_eq_some_iff.mp h
  refine WC.meet (fun L w' => ∃ (κ' : Col) (b9 : Nat) (lar277_0 : Option Addr) (lur277_0 : Nat) (lar277_1 : Option Addr) (lur277_1 : Nat) (lar277_2 : Option Addr) (lur277_2 : Nat), L = [(2, .pointer (some ⟨b2, 0, none⟩)), (3, .pointer (some ⟨b3, 0, none⟩)), (6, .pointer (some ⟨b6, 0, none⟩)), (7, .bool x26.2), (8, .pointer (some ⟨b8, 0, none⟩)), (9, .pointer (some ⟨b9, 0, none⟩)), (10, .bool x35.2)] ∧ Stp [16, 18, 20, 21, 22, 23] K268 w271 κ' w' ∧ Oc (Ep.int .i64) 2 κ' w' 16 lar277_0 lur277_0 x35.1.Arena.Owner ∧ Oc (Ep.own (Ep.int .i64) 2) 28 κ' w' 17 lar277_1 lur277_1 x35.1.Arena.Next ∧ Oc (Ep.int .i64) 2 κ' w' 18 lar277_2 lur277_2 x35.1.Prio ∧ Bc κ' w' 19 b9 74 [.slice lar277_0 x35.1.Arena.Owner.length lur277_0, .slice lar277_1 x35.1.Arena.Next.length lur277_1, .slice lar277_2 x35.1.Prio.length lur277_2]) ?_ ?_
  ·
   refine WC.rxt (κ := K268) [3, 15] none (by kernel_rfl) fun w282 S283 => ?_
   refine WA.seg (fuel := 8) [(0, 0), (1, 0)] (by kernel_rfl) (by kernel_rfl) rfl ?_
   have f284 := f273.stp S283 rfl rfl
   refine WO.k0 rfl rfl rfl rfl (rn_la (cs := [.slice a30_0 x30.Arena.Owner.length u30_0, .slice a30_1 x30.Arena.Next.length u30_1, .slice a30_2 x30.Prio.length u30_2]) Try.isAgg74 Try.sizeOf74 rfl rfl rfl (haC f284.cells rfl)) ?_
   have f285 := f8.stp (S17.tr (S24.tr (S261.tr (S269.tr (S272.tr S283))))) rfl rfl
   refine WO.k0 rfl rfl rfl rfl (rn_la (cs := [.int .i64 p1.Kind, .int .i64 p1.V, .int .i64 p1.N]) Try.isAgg70 Try.sizeOf70 rfl rfl rfl (haC f285.cells rfl)) ?_
   refine WO.wa ?_
   refine WA.fork2 (fuel := 7) 2 7 (by kernel_rfl) rfl ?_ ?_
   ·
    refine WO.call rfl rfl rfl rfl rfl rfl Try.call35 (l_toEdit_ok (κ := fun b => mp [] 0 (K268 b)) (p0 := p1) hx34) ?_
    rintro _ w286 ⟨k287, rfl, e288⟩
    obtain ⟨K289, S290, m291⟩ := Ent.mixed (l := []) (κ := K268) e288 16 rfl
    refine ⟨(S290.cl rfl), ?_⟩
    refine WO.wa ?_
    refine WA.fork2 (fuel := 6) 3 7 (by kernel_rfl) rfl ?_ ?_
    ·
     have f293 := f264.stp (S269.tr (S272.tr (S283.tr S290))) rfl rfl
     have f294 := f265.stp (S269.tr (S272.tr (S283.tr S290))) rfl rfl
     have f295 := f266.stp (S269.tr (S272.tr (S283.tr S290))) rfl rfl
     refine WO.call rfl rfl rfl rfl rfl rfl Try.call36 (i_Edited_ok (κ := fun b => mp [] 0 (K289 b)) (p0 := x30) (p1 := x34) (Sl.map f293.rdc (mp [] 0) rfl rfl) (Sl.map f294.rdc (mp [] 0) rfl rfl) (Sl.map f295.rdc (mp [] 0) rfl rfl) hx35) ?_
     rintro _ w296 ⟨k297, a35_0, u35_0, a35_1, u35_1, a35_2, u35_2, rfl, e298, f299, f300, f301⟩
     obtain ⟨K302, S303, m304⟩ := Ent.mixed (l := []) (κ := K289) e298 18 rfl
     refine ⟨((S290.tr S303).cl rfl), ?_⟩
     have f306 := f299.mx (no_int _) m304 rfl (rfl : 18 + 2 = 20)
     have f307 := f300.mx (no_own (no_int _) _) m304 rfl (rfl : 18 + 3 = 21)
     have f308 := f301.mx (no_int _) m304 rfl (rfl : 18 + 4 = 22)
     refine WO.wa ?_
     refine WA.seg (fuel := 0) [(4, 2), (5, 2), (6, 2), (7, 1), (8, 1), (9, 2)] (by kernel_rfl) (by kernel_rfl) rfl ?_
     refine WO.pn 3 rfl ?_
     refine WO.alloc (κ := K302) 23 rfl rfl rfl rfl rfl Try.zeroValue74 rfl fun b9 w309 K310 S311 f312 => ⟨((S290.tr (S303.tr S311)).cl rfl), ?_⟩
     refine WO.stB0 (κ := K310) 23 (vc := [.slice a35_0 x35.1.Arena.Owner.length u35_0, .slice a35_1 x35.1.Arena.Next.length u35_1, .slice a35_2 x35.1.Prio.length u35_2]) rfl rfl rfl rfl rfl rfl rfl Try.sizeOf74 rfl rfl f312 rfl fun w313 S314 f315 => ⟨((S290.tr (S303.tr (S311.tr S314))).cl rfl), ?_⟩
     refine WO.pn 1 rfl ?_
     refine WO.wa ?_
     refine WA.last [] (by kernel_rfl) (by kernel_rfl) rfl ?_
     refine WO.fin ?_
     have f316 := f306.stp (S311.tr S314) rfl rfl
     have f317 := f307.stp (S311.tr S314) rfl rfl
     have f318 := f308.stp (S311.tr S314) rfl rfl
     exact DN.meet _ ⟨(fun b => ren [(20, 16), (21, 17), (22, 18), (23, 19)] (K310 b)), b9, a35_0, u35_0, a35_1, u35_1, a35_2, u35_2, rfl, (Stp.ren ((S283.tr (S290.tr (S303.tr (S311.tr S314)))).wk rfl) [(20, 16), (21, 17), (22, 18), (23, 19)] rfl), (f316.map (ren [(20, 16), (21, 17), (22, 18), (23, 19)]) rfl rfl), (f317.map (ren [(20, 16), (21, 17), (22, 18), (23, 19)]) rfl rfl), (f318.map (ren [(20, 16), (21, 17), (22, 18), (23, 19)]) rfl rfl), (f315.map (ren [(20, 16), (21, 17), (22, 18), (23, 19)]) rfl rfl)⟩ fun a ha => (ha.more (ha.more (ha.more (ha.more (ha.more (ha.more (ha.more ha.nil rfl) rfl) rfl) rfl) rfl) rfl) rfl)
    ·
     refine WO.alloc (κ := K289) 18 rfl rfl rfl rfl rfl Try.zeroValue74 rfl fun b9 w319 K320 S321 f322 => ⟨((S290.tr S321).cl rfl), ?_⟩
     refine WO.wa ?_
     refine WA.seg (fuel := 0) [(3, 1), (4, 2), (5, 2), (6, 2), (8, 1), (9, 2)] (by kernel_rfl) (by kernel_rfl) rfl ?_
     have f323 := f264.stp (S269.tr (S272.tr (S283.tr (S290.tr S321)))) rfl rfl
     have f324 := f265.stp (S269.tr (S272.tr (S283.tr (S290.tr S321)))) rfl rfl
     have f325 := f266.stp (S269.tr (S272.tr (S283.tr (S290.tr S321)))) rfl rfl
     refine WO.call rfl rfl rfl rfl rfl rfl Try.call36 (i_Edited_ok (κ := fun b => mp [] 0 (K320 b)) (p0 := x30) (p1 := x34) (Sl.map f323.rdc (mp [] 0) rfl rfl) (Sl.map f324.rdc (mp [] 0) rfl rfl) (Sl.map f325.rdc (mp [] 0) rfl rfl) hx35) ?_
     rintro _ w326 ⟨k327, a35_0, u35_0, a35_1, u35_1, a35_2, u35_2, rfl, e328, f329, f330, f331⟩
     obtain ⟨K332, S333, m334⟩ := Ent.mixed (l := []) (κ := K320) e328 19 rfl
     refine ⟨((S290.tr (S321.tr S333)).cl rfl), ?_⟩
     have f336 := f329.mx (no_int _) m334 rfl (rfl : 19 + 2 = 21)
     have f337 := f330.mx (no_own (no_int _) _) m334 rfl (rfl : 19 + 3 = 22)
     have f338 := f331.mx (no_int _) m334 rfl (rfl : 19 + 4 = 23)
     refine WO.pn 3 rfl ?_
     have f339 := f322.stp S333 rfl rfl
     refine WO.stB0 (κ := K332) 18 (vc := [.slice a35_0 x35.1.Arena.Owner.length u35_0, .slice a35_1 x35.1.Arena.Next.length u35_1, .slice a35_2 x35.1.Prio.length u35_2]) rfl rfl rfl rfl rfl rfl rfl Try.sizeOf74 rfl rfl f339 rfl fun w340 S341 f342 => ⟨((S290.tr (S321.tr (S333.tr S341))).cl rfl), ?_⟩
     refine WO.pn 1 rfl ?_
     refine WO.wa ?_
     refine WA.last [] (by kernel_rfl) (by kernel_rfl) rfl ?_
     refine WO.fin ?_
     have f343 := f336.stp S341 rfl rfl
     have f344 := f337.stp S341 rfl rfl
     have f345 := f338.stp S341 rfl rfl
     exact DN.meet _ ⟨(fun b => ren [(21, 16), (22, 17), (23, 18), (18, 19)] (K332 b)), b9, a35_0, u35_0, a35_1, u35_1, a35_2, u35_2, rfl, (Stp.ren ((S283.tr (S290.tr (S321.tr (S333.tr S341)))).wk rfl) [(21, 16), (22, 17), (23, 18), (18, 19)] rfl), (f343.map (ren [(21, 16), (22, 17), (23, 18), (18, 19)]) rfl rfl), (f344.map (ren [(21, 16), (22, 17), (23, 18), (18, 19)]) rfl rfl), (f345.map (ren [(21, 16), (22, 17), (23, 18), (18, 19)]) rfl rfl), (f342.map (ren [(21, 16), (22, 17), (23, 18), (18, 19)]) rfl rfl)⟩ fun a ha => (ha.more (ha.more (ha.more (ha.more (ha.more (ha.more (ha.more ha.nil rfl) rfl) rfl) rfl) rfl) rfl) rfl)
   ·
    refine WO.alloc (κ := K268) 16 rfl rfl rfl rfl rfl Try.zeroValue74 rfl fun b9 w346 K347 S348 f349 => ⟨(S348.cl rfl), ?_⟩
    refine WO.wa ?_
    refine WA.seg (fuel := 0) [(2, 1), (3, 1), (4, 2), (5, 2), (6, 2), (8, 1), (9, 2)] (by kernel_rfl) (by kernel_rfl) rfl ?_
    refine WO.call rfl rfl rfl rfl rfl rfl Try.call35 (l_toEdit_ok (κ := fun b => mp [] 0 (K347 b)) (p0 := p1) hx34) ?_
    rintro _ w350 ⟨k351, rfl, e352⟩
    obtain ⟨K353, S354, m355⟩ := Ent.mixed (l := []) (κ := K347) e352 17 rfl
    refine ⟨((S348.tr S354).cl rfl), ?_⟩
    have f357 := f264.stp (S269.tr (S272.tr (S283.tr (S348.tr S354)))) rfl rfl
    have f358 := f265.stp (S269.tr (S272.tr (S283.tr (S348.tr S354)))) rfl rfl
    have f359 := f266.stp (S269.tr (S272.tr (S283.tr (S348.tr S354)))) rfl rfl
    refine WO.call rfl rfl rfl rfl rfl rfl Try.call36 (i_Edited_ok (κ := fun b => mp [] 0 (K353 b)) (p0 := x30) (p1 := x34) (Sl.map f357.rdc (mp [] 0) rfl rfl) (Sl.map f358.rdc (mp [] 0) rfl rfl) (Sl.map f359.rdc (mp [] 0) rfl rfl) hx35) ?_
    rintro _ w360 ⟨k361, a35_0, u35_0, a35_1, u35_1, a35_2, u35_2, rfl, e362, f363, f364, f365⟩
    obtain ⟨K366, S367, m368⟩ := Ent.mixed (l := []) (κ := K353) e362 19 rfl
    refine ⟨((S348.tr (S354.tr S367)).cl rfl), ?_⟩
    have f370 := f363.mx (no_int _) m368 rfl (rfl : 19 + 2 = 21)
    have f371 := f364.mx (no_own (no_int _) _) m368 rfl (rfl : 19 + 3 = 22)
    have f372 := f365.mx (no_int _) m368 rfl (rfl : 19 + 4 = 23)
    refine WO.pn 3 rfl ?_
    have f373 := f349.stp (S354.tr S367) rfl rfl
    refine WO.stB0 (κ := K366) 16 (vc := [.slice a35_0 x35.1.Arena.Owner.length u35_0, .slice a35_1 x35.1.Arena.Next.length u35_1, .slice a35_2 x35.1.Prio.length u35_2]) rfl rfl rfl rfl rfl rfl rfl Try.sizeOf74 rfl rfl f373 rfl fun w374 S375 f376 => ⟨((S348.tr (S354.tr (S367.tr S375))).cl rfl), ?_⟩
    refine WO.pn 1 rfl ?_
    refine WO.wa ?_
    refine WA.last [] (by kernel_rfl) (by kernel_rfl) rfl ?_
    refine WO.fin ?_
    have f377 := f370.stp S375 rfl rfl
    have f378 := f371.stp S375 rfl rfl
    have f379 := f372.stp S375 rfl rfl
    exact DN.meet _ ⟨(fun b => ren [(21, 16), (22, 17), (23, 18), (16, 19)] (K366 b)), b9, a35_0, u35_0, a35_1, u35_1, a35_2, u35_2, rfl, (Stp.ren ((S283.tr (S348.tr (S354.tr (S367.tr S375)))).wk rfl) [(21, 16), (22, 17), (23, 18), (16, 19)] rfl), (f377.map (ren [(21, 16), (22, 17), (23, 18), (16, 19)]) rfl rfl), (f378.map (ren [(21, 16), (22, 17), (23, 18), (16, 19)]) rfl rfl), (f379.map (ren [(21, 16), (22, 17), (23, 18), (16, 19)]) rfl rfl), (f376.map (ren [(21, 16), (22, 17), (23, 18), (16, 19)]) rfl rfl)⟩ fun a ha => (ha.more (ha.more (ha.more (ha.more (ha.more (ha.more (ha.more ha.nil rfl) rfl) rfl) rfl) rfl) rfl) rfl)
  rintro _ w274 ⟨K275, b9, lar277_0, lur277_0, lar277_1, lur277_1, lar277_2, lur277_2, rfl, S276, f278, f279, f280, f281⟩
  refine DN.seq ?_
  refine WC.seq ?_
  refine WC.seq ?_
  refine WC.rs [(0, 1), (1, 1), (2, 1), (3, 2), (4, 2), (5, 2), (6, 2), (7, 2), (8, 2)] rfl ?_
  refine WO.k1 trivial rfl rfl rfl rfl (rn_la (cs := [.slice lar277_0 x35.1.Arena.Owner.length lur277_0, .slice lar277_1 x35.1.Arena.Next.length lur277_1, .slice lar277_2 x35.1.Prio.length lur277_2]) Try.isAgg74 Try.sizeOf74 rfl rfl rfl (haE f281.cells)) ?_
  have f380 := f29.stp (S261.tr (S269.tr (S272.tr S276))) rfl rfl
  refine WO.k1 trivial rfl rfl rfl rfl (rn_la (cs := [.slice lar25_0 x26.1.Arena.Owner.length lur25_0, .slice lar25_1 x26.1.Arena.Next.length lur25_1, .slice lar25_2 x26.1.Prio.length lur25_2]) Try.isAgg74 Try.sizeOf74 rfl rfl rfl (haE f380.cells)) ?_
  obtain ⟨x40, hx40, h⟩ := Option.bind_eq_some_iff.mp h
  have f381 := f26.stp (S261.tr (S269.tr (S272.tr S276))) rfl rfl
  have f382 := f27.stp (S261.tr (S269.tr (S272.tr S276))) rfl rfl
  have f383 := f28.stp (S261.tr (S269.tr (S272.tr S276))) rfl rfl
  refine WO.call rfl rfl rfl rfl rfl rfl Try.call37 (l_eqParity_ok (κ := fun b => mp [] 0 (K275 b)) (p0 := x35.1) (p1 := x26.1) (Sl.map f278.rdc (mp [] 0) rfl rfl) (Sl.map f279.rdc (mp [] 0) rfl rfl) (Sl.map f280.rdc (mp [] 0) rfl rfl) (Sl.map f381.rdc (mp [] 0) rfl rfl) (Sl.map f382.rdc (mp [] 0) rfl rfl) (Sl.map f383.rdc (mp [] 0) rfl rfl) hx40) ?_
  rintro _ w384 ⟨k385, rfl, e386⟩
  obtain ⟨K387, S388, m389⟩ := Ent.mixed (l := []) (κ := K275) e386 20 rfl
  refine ⟨trivial, ?_⟩
  refine WO.pn 2 rfl ?_
  obtain ⟨p46, h, hK391⟩ := Option.bind_eq_some_iff.mp h
  refine WO.meet [(5, 2), (6, 2), (7, 2), (8, 2)] [] (fun L w' => L = [(2, .pointer (some ⟨b2, 0, none⟩)), (3, .pointer (some ⟨b3, 0, none⟩)), (6, .pointer (some ⟨b6, 0, none⟩)), (7, .bool x26.2), (8, .pointer (some ⟨b8, 0, none⟩)), (9, .pointer (some ⟨b9, 0, none⟩)), (10, .bool x35.2), (46, .bool p46)] ∧ ∃ κ', Stp [] K387 w384 κ' w') trivial ?_ ?_
  ·
   revert h
   cases ht392 : (!x40) with
   | true =>
    intro h; replace h := cT h
    refine WO.pn 4 rfl ?_
    obtain rfl := Option.some.inj h
    exact WO.met _ trivial ⟨rfl, _, (Stp.refl _ _).wk rfl⟩ fun a ha => (ha.more (ha.more (ha.more (ha.more (ha.more (ha.more (ha.more (ha.more ha.nil rfl) rfl) rfl) rfl) rfl) rfl) rfl) rfl)
   | false =>
    intro h; replace h := cF h
    refine WO.pn 2 rfl ?_
    refine WO.k2 rfl rfl rfl rfl (rn_neqB rfl rfl Try.runUnderlying4 rfl) ?_
    refine WO.pn 1 rfl ?_
    obtain rfl := Option.some.inj h
    exact WO.met _ trivial ⟨rfl, _, (Stp.refl _ _).wk rfl⟩ fun a ha => (ha.more (ha.more (ha.more (ha.more (ha.more (ha.more (ha.more (ha.more ha.nil rfl) rfl) rfl) rfl) rfl) rfl) rfl) rfl)
  rintro _ w393 _ ⟨rfl, K394, S395⟩
  have h := hK391
  refine WO.fin ?_
  refine DN.seq ?_
  revert h
  cases ht396 : p46 with
  | true =>
   intro h; replace h := cT h
   refine WC.ct rfl ?_
   refine WC.seq ?_
   refine WC.rs [(0, 2)] rfl ?_
   refine WO.pn 1 rfl ?_
   refine WO.fin ?_
   refine DN.seq ?_
   refine WC.ret ?_
   refine DN.retThen ?_
   have f397 := hE.stp (S3.tr (S7.tr (S17.tr (S24.tr (S261.tr (S269.tr (S272.tr (S276.tr (S388.tr S395))))))))) rfl rfl
   refine DN.res (l := [.tmp 4]) Try.results5 (res_tmp rfl rfl) rfl ?_
   obtain rfl := Option.some.inj h
   exact ⟨K394, rfl, f397⟩
  | false =>
   intro h; replace h := cF h
   refine WC.cf rfl ?_
   refine WC.skip ?_
   refine DN.seq ?_
   refine WC.seq ?_
   refine WC.seq ?_
   refine WC.rx (κ := K394) [2, 15] none [(0, 0), (1, 0), (2, 1), (3, 1), (4, 2)] [] (by kernel_rfl) (by kernel_rfl) fun w399 S398 => ?_
   have f400 := f273.stp (S276.tr (S388.tr (S395.tr S398))) rfl rfl
   refine WO.k0 rfl rfl rfl rfl (rn_la (cs := [.slice a30_0 x30.Arena.Owner.length u30_0, .slice a30_1 x30.Arena.Next.length u30_1, .slice a30_2 x30.Prio.length u30_2]) Try.isAgg74 Try.sizeOf74 rfl rfl rfl (haC f400.cells rfl)) ?_
   have f401 := f250.stp (S261.tr (S269.tr (S272.tr (S276.tr (S388.tr (S395.tr S398)))))) rfl rfl
   refine WO.k0 rfl rfl rfl rfl (rn_la (cs := [.slice a0_0_0 p0.Arena.Owner.length u0_0_0, .slice a0_0_1 p0.Arena.Next.length u0_0_1, .slice a0_1 p0.Prio.length u0_1]) Try.isAgg68 Try.sizeOf68 rfl rfl rfl (haC f401.cells rfl)) ?_
   obtain ⟨x49, hx49, h⟩ := Option.bind_eq_some_iff.mp h
   have f402 := f251.stp (S261.tr (S269.tr (S272.tr (S276.tr (S388.tr (S395.tr S398)))))) rfl rfl
   have f403 := f252.stp (S261.tr (S269.tr (S272.tr (S276.tr (S388.tr (S395.tr S398)))))) rfl rfl
   have f404 := f253.stp (S261.tr (S269.tr (S272.tr (S276.tr (S388.tr (S395.tr S398)))))) rfl rfl
   refine WO.call rfl rfl rfl rfl rfl rfl Try.call34 (l_toParity_ok (κ := fun b => mp [] 0 (K394 b)) (p0 := p0) (Sl.map f402 (mp [] 0) rfl rfl) (Sl.map f403 (mp [] 0) rfl rfl) (Sl.map f404 (mp [] 0) rfl rfl) hx49) ?_
   rintro _ w405 ⟨k406, a49_0, u49_0, a49_1, u49_1, a49_2, u49_2, rfl, e407, f408, f409, f410⟩
   obtain ⟨K411, S412, m413⟩ := Ent.mixed (l := []) (κ := K394) e407 22 rfl
   refine ⟨(S412.cl rfl), ?_⟩
   have f415 := f408.mx (no_int _) m413 rfl (rfl : 22 + 2 = 24)
   have f416 := f409.mx (no_own (no_int _) _) m413 rfl (rfl : 22 + 3 = 25)
   have f417 := f410.mx (no_int _) m413 rfl (rfl : 22 + 4 = 26)
   obtain ⟨x50, hx50, h⟩ := Option.bind_eq_some_iff.mp h
   have f418 := f264.stp (S269.tr (S272.tr (S276.tr (S388.tr (S395.tr (S398.tr S412)))))) rfl rfl
   have f419 := f265.stp (S269.tr (S272.tr (S276.tr (S388.tr (S395.tr (S398.tr S412)))))) rfl rfl
   have f420 := f266.stp (S269.tr (S272.tr (S276.tr (S388.tr (S395.tr (S398.tr S412)))))) rfl rfl
   refine WO.call rfl rfl rfl rfl rfl rfl Try.call37 (l_eqParity_ok (κ := fun b => mp [] 0 (K411 b)) (p0 := x30) (p1 := x49) (Sl.map f418.rdc (mp [] 0) rfl rfl) (Sl.map f419.rdc (mp [] 0) rfl rfl) (Sl.map f420.rdc (mp [] 0) rfl rfl) (Sl.map f415.rdc (mp [] 0) rfl rfl) (Sl.map f416.rdc (mp [] 0) rfl rfl) (Sl.map f417.rdc (mp [] 0) rfl rfl) hx50) ?_
   rintro _ w421 ⟨k422, rfl, e423⟩
   obtain ⟨K424, S425, m426⟩ := Ent.mixed (l := []) (κ := K411) e423 27 rfl
   refine ⟨((S412.tr S425).cl rfl), ?_⟩
   refine WO.pn 1 rfl ?_
   refine WO.nx ?_
   refine WO.fin ?_
   refine DN.seq ?_
   revert h
   cases ht428 : (!x50) with
   | true =>
    intro h; replace h := cT h
    refine WC.ct rfl ?_
    refine WC.seq ?_
    refine WC.rs [(0, 2)] rfl ?_
    refine WO.pn 1 rfl ?_
    refine WO.fin ?_
    refine DN.seq ?_
    refine WC.ret ?_
    refine DN.retThen ?_
    have f429 := hE.stp (S3.tr (S7.tr (S17.tr (S24.tr (S261.tr (S269.tr (S272.tr (S276.tr (S388.tr (S395.tr (S398.tr (S412.tr S425)))))))))))) rfl rfl
    refine DN.res (l := [.tmp 4]) Try.results5 (res_tmp rfl rfl) rfl ?_
    obtain rfl := Option.some.inj h
    exact ⟨K424, rfl, f429⟩
   | false =>
    intro h; replace h := cF h
    refine WC.cf rfl ?_
    refine WC.skip ?_
    refine DN.seq ?_
    refine WC.seq ?_
    refine WC.rs [(0, 2)] rfl ?_
    refine WO.pn 1 rfl ?_
    refine WO.fin ?_
    refine DN.seq ?_
    refine WC.seq ?_
    refine WC.rs [(0, 1), (1, 2), (2, 1), (3, 2)] rfl ?_
    have f430 := f400.stp (S412.tr S425) rfl rfl
    refine WO.k1 trivial rfl rfl rfl rfl (rn_la (cs := [.slice a30_0 x30.Arena.Owner.length u30_0, .slice a30_1 x30.Arena.Next.length u30_1, .slice a30_2 x30.Prio.length u30_2]) Try.isAgg74 Try.sizeOf74 rfl rfl rfl (haE f430.cells)) ?_
    refine WO.pn 1 rfl ?_
    obtain ⟨x54, hx54, h⟩ := Option.bind_eq_some_iff.mp h
    have f431 := f418.stp S425 rfl rfl
    have f432 := f419.stp S425 rfl rfl
    have f433 := f420.stp S425 rfl rfl
    refine WO.call rfl rfl rfl rfl rfl rfl Try.call38 (l_markParity_ok (κ := fun b => mp [(12, 2), (13, 3), (14, 4)] 0 (K424 b)) (p0 := x30) (f431.map (mp [(12, 2), (13, 3), (14, 4)] 0) rfl rfl) (f432.map (mp [(12, 2), (13, 3), (14, 4)] 0) rfl rfl) (f433.map (mp [(12, 2), (13, 3), (14, 4)] 0) rfl rfl) hx54) ?_
    rintro _ w434 ⟨k435, rfl, e436, f437, hn438, f439, hn440, f441, hn442⟩
    obtain ⟨K443, S444, m445⟩ := Ent.mixed (l := [(12, 2), (13, 3), (14, 4)]) (κ := K424) e436 29 rfl
    refine ⟨trivial, ?_⟩
    have f447 := f437.mx (no_int _) m445 rfl (rfl : 29 + 2 = 31)
    have f448 := f439.mx (no_own (no_int _) _) m445 rfl (rfl : 29 + 3 = 32)
    have f449 := f441.mx (no_int _) m445 rfl (rfl : 29 + 4 = 33)
    refine WO.pn 1 rfl ?_
    refine WO.fin ?_
    refine DN.seq ?_
    refine WC.seq ?_
    refine WC.seq ?_
    refine WC.rs [(0, 2), (1, 2), (2, 2), (3, 1), (4, 1), (5, 1), (6, 2), (7, 2), (8, 2), (9, 2), (10, 2), (11, 2), (12, 2)] rfl ?_
    refine WO.pn 3 rfl ?_
    obtain ⟨p62, h, hK450⟩ := Option.bind_eq_some_iff.mp h
    refine WO.meet [(3, 1), (4, 1), (5, 1), (6, 2), (7, 2)] [(8, 2), (9, 2), (10, 2), (11, 2), (12, 2)] (fun L w' => L = [(2, .pointer (some ⟨b2, 0, none⟩)), (3, .pointer (some ⟨b3, 0, none⟩)), (6, .pointer (some ⟨b6, 0, none⟩)), (7, .bool x26.2), (9, .pointer (some ⟨b9, 0, none⟩)), (10, .bool x35.2), (62, .bool p62)] ∧ ∃ κ', Stp [] K443 w434 κ' w') trivial ?_ ?_
    ·
     revert h
     cases ht451 : decide (x54.1 < 0) with
     | true =>
      intro h; replace h := cT h
      refine WO.ls rfl rfl rfl rfl ?_
      refine WO.ls rfl rfl rfl rfl ?_
      refine WO.ls rfl rfl rfl rfl ?_
      refine WO.pn 2 rfl ?_
      obtain rfl := Option.some.inj h
      exact WO.met _ trivial ⟨rfl, _, (Stp.refl _ _).wk rfl⟩ fun a ha => (ha.more (ha.more (ha.more (ha.more (ha.more (ha.more (ha.more ha.nil rfl) rfl) rfl) rfl) rfl) rfl) rfl)
     | false =>
      intro h; replace h := cF h
      have f452 := f281.stp (S388.tr (S395.tr (S398.tr (S412.tr (S425.tr S444))))) rfl rfl
      refine WO.k1 trivial rfl rfl rfl rfl (rn_la (cs := [.slice lar277_0 x35.1.Arena.Owner.length lur277_0, .slice lar277_1 x35.1.Arena.Next.length lur277_1, .slice lar277_2 x35.1.Prio.length lur277_2]) Try.isAgg74 Try.sizeOf74 rfl rfl rfl (haE f452.cells)) ?_
      have f453 := f380.stp (S388.tr (S395.tr (S398.tr (S412.tr (S425.tr S444))))) rfl rfl
      refine WO.k1 trivial rfl rfl rfl rfl (rn_la (cs := [.slice lar25_0 x26.1.Arena.Owner.length lur25_0, .slice lar25_1 x26.1.Arena.Next.length lur25_1, .slice lar25_2 x26.1.Prio.length lur25_2]) Try.isAgg74 Try.sizeOf74 rfl rfl rfl (haE f453.cells)) ?_
      obtain ⟨x60, hx60, h⟩ := Option.bind_eq_some_iff.mp h
      have f454 := f278.stp (S388.tr (S395.tr (S398.tr (S412.tr (S425.tr S444))))) rfl rfl
      have f455 := f279.stp (S388.tr (S395.tr (S398.tr (S412.tr (S425.tr S444))))) rfl rfl
      have f456 := f280.stp (S388.tr (S395.tr (S398.tr (S412.tr (S425.tr S444))))) rfl rfl
      have f457 := f381.stp (S388.tr (S395.tr (S398.tr (S412.tr (S425.tr S444))))) rfl rfl
      have f458 := f382.stp (S388.tr (S395.tr (S398.tr (S412.tr (S425.tr S444))))) rfl rfl
      have f459 := f383.stp (S388.tr (S395.tr (S398.tr (S412.tr (S425.tr S444))))) rfl rfl
      refine WO.call rfl rfl rfl rfl rfl rfl Try.call37 (l_eqParity_ok (κ := fun b => mp [] 0 (K443 b)) (p0 := x35.1) (p1 := x26.1) (Sl.map f454.rdc (mp [] 0) rfl rfl) (Sl.map f455.rdc (mp [] 0) rfl rfl) (Sl.map f456.rdc (mp [] 0) rfl rfl) (Sl.map f457.rdc (mp [] 0) rfl rfl) (Sl.map f458.rdc (mp [] 0) rfl rfl) (Sl.map f459.rdc (mp [] 0) rfl rfl) hx60) ?_
      rintro _ w460 ⟨k461, rfl, e462⟩
      obtain ⟨K463, S464, m465⟩ := Ent.mixed (l := []) (κ := K443) e462 34 rfl
      refine ⟨trivial, ?_⟩
      refine WO.pn 2 rfl ?_
      obtain rfl := Option.some.inj h
      exact WO.met _ trivial ⟨rfl, _, S464.wk rfl⟩ fun a ha => (ha.more (ha.more (ha.more (ha.more (ha.more (ha.more (ha.more ha.nil rfl) rfl) rfl) rfl) rfl) rfl) rfl)
    rintro _ w467 _ ⟨rfl, K468, S469⟩
    have h := hK450
    refine WO.pn 1 rfl ?_
    obtain ⟨p67, h, hK470⟩ := Option.bind_eq_some_iff.mp h
    refine WO.meet [(9, 2), (10, 2), (11, 2), (12, 2)] [] (fun L w' => L = [(2, .pointer (some ⟨b2, 0, none⟩)), (3, .pointer (some ⟨b3, 0, none⟩)), (6, .pointer (some ⟨b6, 0, none⟩)), (7, .bool x26.2), (9, .pointer (some ⟨b9, 0, none⟩)), (67, .bool p67)] ∧ ∃ κ', Stp [] K468 w467 κ' w') trivial ?_ ?_
    ·
     revert h
     cases ht471 : p62 with
     | true =>
      intro h; replace h := cT h
      refine WO.pn 4 rfl ?_
      obtain rfl := Option.some.inj h
      exact WO.met _ trivial ⟨rfl, _, (Stp.refl _ _).wk rfl⟩ fun a ha => (ha.more (ha.more (ha.more (ha.more (ha.more (ha.more ha.nil rfl) rfl) rfl) rfl) rfl) rfl)
     | false =>
      intro h; replace h := cF h
      refine WO.pn 2 rfl ?_
      refine WO.k2 rfl rfl rfl rfl (rn_neqB rfl rfl Try.runUnderlying4 rfl) ?_
      refine WO.pn 1 rfl ?_
      obtain rfl := Option.some.inj h
      exact WO.met _ trivial ⟨rfl, _, (Stp.refl _ _).wk rfl⟩ fun a ha => (ha.more (ha.more (ha.more (ha.more (ha.more (ha.more ha.nil rfl) rfl) rfl) rfl) rfl) rfl)
    rintro _ w472 _ ⟨rfl, K473, S474⟩
    have h := hK470
    refine WO.fin ?_
    refine DN.seq ?_
    revert h
    cases ht475 : p67 with
    | true =>
     intro h; replace h := cT h
     refine WC.ct rfl ?_
     refine WC.seq ?_
     refine WC.rs [(0, 2)] rfl ?_
     refine WO.pn 1 rfl ?_
     refine WO.fin ?_
     refine DN.seq ?_
     refine WC.ret ?_
     refine DN.retThen ?_
     have f476 := hE.stp (S3.tr (S7.tr (S17.tr (S24.tr (S261.tr (S269.tr (S272.tr (S276.tr (S388.tr (S395.tr (S398.tr (S412.tr (S425.tr (S444.tr (S469.tr S474))))))))))))))) rfl rfl
     refine DN.res (l := [.tmp 4]) Try.results5 (res_tmp rfl rfl) rfl ?_
     obtain rfl := Option.some.inj h
     exact ⟨K473, rfl, f476⟩
    | false =>
     intro h; replace h := cF h
     refine WC.cf rfl ?_
     refine WC.skip ?_
     refine DN.seq ?_
     refine WC.seq ?_
     refine WC.rs [(0, 2)] rfl ?_
     refine WO.pn 1 rfl ?_
     refine WO.fin ?_
     refine DN.seq ?_
     refine WC.seq ?_
     refine WC.rs [(0, 1), (1, 2), (2, 1), (3, 2)] rfl ?_
     have f477 := f281.stp (S388.tr (S395.tr (S398.tr (S412.tr (S425.tr (S444.tr (S469.tr S474))))))) rfl rfl
     refine WO.k1 trivial rfl rfl rfl rfl (rn_la (cs := [.slice lar277_0 x35.1.Arena.Owner.length lur277_0, .slice lar277_1 x35.1.Arena.Next.length lur277_1, .slice lar277_2 x35.1.Prio.length lur277_2]) Try.isAgg74 Try.sizeOf74 rfl rfl rfl (haE f477.cells)) ?_
     refine WO.pn 1 rfl ?_
     obtain ⟨x70, hx70, h⟩ := Option.bind_eq_some_iff.mp h
     have f478 := f278.stp (S388.tr (S395.tr (S398.tr (S412.tr (S425.tr (S444.tr (S469.tr S474))))))) rfl rfl
     have f479 := f279.stp (S388.tr (S395.tr (S398.tr (S412.tr (S425.tr (S444.tr (S469.tr S474))))))) rfl rfl
     have f480 := f280.stp (S388.tr (S395.tr (S398.tr (S412.tr (S425.tr (S444.tr (S469.tr S474))))))) rfl rfl
     refine WO.call rfl rfl rfl rfl rfl rfl Try.call38 (l_markParity_ok (κ := fun b => mp [(16, 2), (17, 3), (18, 4)] 0 (K473 b)) (p0 := x35.1) (f478.map (mp [(16, 2), (17, 3), (18, 4)] 0) rfl rfl) (f479.map (mp [(16, 2), (17, 3), (18, 4)] 0) rfl rfl) (f480.map (mp [(16, 2), (17, 3), (18, 4)] 0) rfl rfl) hx70) ?_
     rintro _ w481 ⟨k482, rfl, e483, f484, hn485, f486, hn487, f488, hn489⟩
     obtain ⟨K490, S491, m492⟩ := Ent.mixed (l := [(16, 2), (17, 3), (18, 4)]) (κ := K473) e483 34 rfl
     refine ⟨trivial, ?_⟩
     have f494 := f484.mx (no_int _) m492 rfl (rfl : 34 + 2 = 36)
     have f495 := f486.mx (no_own (no_int _) _) m492 rfl (rfl : 34 + 3 = 37)
     have f496 := f488.mx (no_int _) m492 rfl (rfl : 34 + 4 = 38)
     refine WO.pn 1 rfl ?_
     refine WO.fin ?_
     refine DN.seq ?_
     refine WC.seq ?_
     refine WC.rs [(0, 2)] rfl ?_
     refine WO.pn 1 rfl ?_
     refine WO.fin ?_
     refine DN.seq ?_
     refine WC.seq ?_
     refine WC.rs [(0, 1), (1, 2), (2, 1), (3, 2)] rfl ?_
     have f497 := f477.stp S491 rfl rfl
     refine WO.k1 trivial rfl rfl rfl rfl (rn_la (cs := [.slice lar277_0 x35.1.Arena.Owner.length lur277_0, .slice lar277_1 x35.1.Arena.Next.length lur277_1, .slice lar277_2 x35.1.Prio.length lur277_2]) Try.isAgg74 Try.sizeOf74 rfl rfl rfl (haE f497.cells)) ?_
     refine WO.pn 1 rfl ?_
     obtain ⟨x73, hx73, h⟩ := Option.bind_eq_some_iff.mp h
     refine WO.call rfl rfl rfl rfl rfl rfl Try.call39 (Ret.cast (by simp only [(hn485), (hn487), (hn489), List.cons_append, List.nil_append]) (l_heldParity_ok (κ := fun b => mp [] 0 (K490 b)) (p0 := (⟨(⟨x70.2.1, x70.2.2.1⟩ : Arena), x70.2.2.2⟩ : Parity)) (Sl.map f494.rdc (mp [] 0) rfl rfl) (Sl.map f495.rdc (mp [] 0) rfl rfl) (Sl.map f496.rdc (mp [] 0) rfl rfl) hx73)) ?_
     rintro _ w498 ⟨k499, rfl, e500⟩
     obtain ⟨K501, S502, m503⟩ := Ent.mixed (l := []) (κ := K490) e500 39 rfl
     refine ⟨trivial, ?_⟩
     refine WO.pn 1 rfl ?_
     refine WO.fin ?_
     refine DN.seq ?_
     refine WC.seq ?_
     refine WC.seq ?_
     refine WC.rs [(0, 2), (1, 2)] rfl ?_
     refine WO.pn 2 rfl ?_
     refine WO.fin ?_
     refine DN.seq ?_
     revert h
     cases ht505 : decide (x73 < 0) with
     | true =>
      intro h; replace h := cT h
      refine WC.ct rfl ?_
      refine WC.seq ?_
      refine WC.rs [(0, 2)] rfl ?_
      refine WO.pn 1 rfl ?_
      refine WO.fin ?_
      refine DN.seq ?_
      refine WC.ret ?_
      refine DN.retThen ?_
      have f506 := hE.stp (S3.tr (S7.tr (S17.tr (S24.tr (S261.tr (S269.tr (S272.tr (S276.tr (S388.tr (S395.tr (S398.tr (S412.tr (S425.tr (S444.tr (S469.tr (S474.tr (S491.tr S502))))))))))))))))) rfl rfl
      refine DN.res (l := [.tmp 4]) Try.results5 (res_tmp rfl rfl) rfl ?_
      obtain rfl := Option.some.inj h
      exact ⟨K501, rfl, f506⟩
     | false =>
      intro h; replace h := cF h
      refine WC.cf rfl ?_
      refine WC.skip ?_
      refine DN.seq ?_
      refine WC.seq ?_
      refine WC.seq ?_
      refine WC.rs [(0, 2), (1, 2), (2, 2)] rfl ?_
      refine WO.pn 3 rfl ?_
      refine WO.fin ?_
      refine DN.seq ?_
      revert h
      cases ht507 : (x73 != x70.1) with
      | true =>
       intro h; replace h := cT h
       refine WC.ct rfl ?_
       refine WC.seq ?_
       refine WC.rs [(0, 2)] rfl ?_
       refine WO.pn 1 rfl ?_
       refine WO.fin ?_
       refine DN.seq ?_
       refine WC.ret ?_
       refine DN.retThen ?_
       have f508 := hE.stp (S3.tr (S7.tr (S17.tr (S24.tr (S261.tr (S269.tr (S272.tr (S276.tr (S388.tr (S395.tr (S398.tr (S412.tr (S425.tr (S444.tr (S469.tr (S474.tr (S491.tr S502))))))))))))))))) rfl rfl
       refine DN.res (l := [.tmp 4]) Try.results5 (res_tmp rfl rfl) rfl ?_
       obtain rfl := Option.some.inj h
       exact ⟨K501, rfl, f508⟩
      | false =>
       intro h; replace h := cF h
       refine WC.cf rfl ?_
       refine WC.skip ?_
       refine DN.seq ?_
       refine WC.seq ?_
       obtain ⟨x81, hx81, h⟩ := Option.bind_eq_some_iff.mp h
       obtain ⟨x83, hx83, h⟩ := Option.bind_eq_some_iff.mp h
       obtain ⟨x84, hx84, h⟩ := Option.bind_eq_some_iff.mp h
       refine WC.meet (fun L w' => ∃ (κ' : Col) (b14 : Nat) (lar512_0 : Option Addr) (lur512_0 : Nat) (lar512_1 : Option Addr) (lur512_1 : Nat) (lar512_2 : Option Addr) (lur512_2 : Nat), L = [(6, .pointer (some ⟨b6, 0, none⟩)), (7, .bool x26.2), (9, .pointer (some ⟨b9, 0, none⟩)), (12, .int .i64 x70.1), (14, .pointer (some ⟨b14, 0, none⟩)), (15, .bool x84.2)] ∧ Stp [41, 46, 48, 50, 51, 52, 53] K501 w498 κ' w' ∧ Oc (Ep.int .i64) 2 κ' w' 41 lar512_0 lur512_0 x84.1.Arena.Owner ∧ Oc (Ep.own (Ep.int .i64) 2) 28 κ' w' 42 lar512_1 lur512_1 x84.1.Arena.Next ∧ Oc (Ep.int .i64) 2 κ' w' 43 lar512_2 lur512_2 x84.1.Prio ∧ Bc κ' w' 44 b14 74 [.slice lar512_0 x84.1.Arena.Owner.length lur512_0, .slice lar512_1 x84.1.Arena.Next.length lur512_1, .slice lar512_2 x84.1.Prio.length lur512_2]) ?_ ?_
       ·
        refine WC.rxt (κ := K501) [2, 3] none (by kernel_rfl) fun w517 S518 => ?_
        refine WA.seg (fuel := 9) [(0, 0), (2, 0)] (by kernel_rfl) (by kernel_rfl) rfl ?_
        have f519 := f401.stp (S412.tr (S425.tr (S444.tr (S469.tr (S474.tr (S491.tr (S502.tr S518))))))) rfl rfl
        refine WO.k0 rfl rfl rfl rfl (rn_la (cs := [.slice a0_0_0 p0.Arena.Owner.length u0_0_0, .slice a0_0_1 p0.Arena.Next.length u0_0_1, .slice a0_1 p0.Prio.length u0_1]) Try.isAgg68 Try.sizeOf68 rfl rfl rfl (haC f519.cells rfl)) ?_
        have f520 := f8.stp (S17.tr (S24.tr (S261.tr (S269.tr (S272.tr (S276.tr (S388.tr (S395.tr (S398.tr (S412.tr (S425.tr (S444.tr (S469.tr (S474.tr (S491.tr (S502.tr S518)))))))))))))))) rfl rfl
        refine WO.k0 rfl rfl rfl rfl (rn_la (cs := [.int .i64 p1.Kind, .int .i64 p1.V, .int .i64 p1.N]) Try.isAgg70 Try.sizeOf70 rfl rfl rfl (haC f520.cells rfl)) ?_
        refine WO.wa ?_
        refine WA.fork2 (fuel := 8) 1 8 (by kernel_rfl) rfl ?_ ?_
        ·
         have f521 := f402.stp (S412.tr (S425.tr (S444.tr (S469.tr (S474.tr (S491.tr (S502.tr S518))))))) rfl rfl
         have f522 := f403.stp (S412.tr (S425.tr (S444.tr (S469.tr (S474.tr (S491.tr (S502.tr S518))))))) rfl rfl
         have f523 := f404.stp (S412.tr (S425.tr (S444.tr (S469.tr (S474.tr (S491.tr (S502.tr S518))))))) rfl rfl
         refine WO.call rfl rfl rfl rfl rfl rfl Try.call34 (l_toParity_ok (κ := fun b => mp [] 0 (K501 b)) (p0 := p0) (Sl.map f521 (mp [] 0) rfl rfl) (Sl.map f522 (mp [] 0) rfl rfl) (Sl.map f523 (mp [] 0) rfl rfl) hx81) ?_
         rintro _ w524 ⟨k525, a81_0, u81_0, a81_1, u81_1, a81_2, u81_2, rfl, e526, f527, f528, f529⟩
         obtain ⟨K530, S531, m532⟩ := Ent.mixed (l := []) (κ := K501) e526 41 rfl
         refine ⟨(S531.cl rfl), ?_⟩
         have f534 := f527.mx (no_int _) m532 rfl (rfl : 41 + 2 = 43)
         have f535 := f528.mx (no_own (no_int _) _) m532 rfl (rfl : 41 + 3 = 44)
         have f536 := f529.mx (no_int _) m532 rfl (rfl : 41 + 4 = 45)
         refine WO.wa ?_
         refine WA.fork2 (fuel := 7) 3 8 (by kernel_rfl) rfl ?_ ?_
         ·
          refine WO.call rfl rfl rfl rfl rfl rfl Try.call35 (l_toEdit_ok (κ := fun b => mp [] 0 (K530 b)) (p0 := p1) hx83) ?_
          rintro _ w537 ⟨k538, rfl, e539⟩
          obtain ⟨K540, S541, m542⟩ := Ent.mixed (l := []) (κ := K530) e539 46 rfl
          refine ⟨((S531.tr S541).cl rfl), ?_⟩
          refine WO.wa ?_
          refine WA.fork2 (fuel := 6) 4 8 (by kernel_rfl) rfl ?_ ?_
          ·
           have f544 := f534.stp S541 rfl rfl
           have f545 := f535.stp S541 rfl rfl
           have f546 := f536.stp S541 rfl rfl
           refine WO.call rfl rfl rfl rfl rfl rfl Try.call36 (i_Edited_ok (κ := fun b => mp [] 0 (K540 b)) (p0 := x81) (p1 := x83) (Sl.map f544.rdc (mp [] 0) rfl rfl) (Sl.map f545.rdc (mp [] 0) rfl rfl) (Sl.map f546.rdc (mp [] 0) rfl rfl) hx84) ?_
           rintro _ w547 ⟨k548, a84_0, u84_0, a84_1, u84_1, a84_2, u84_2, rfl, e549, f550, f551, f552⟩
           obtain ⟨K553, S554, m555⟩ := Ent.mixed (l := []) (κ := K540) e549 48 rfl
           refine ⟨((S531.tr (S541.tr S554)).cl rfl), ?_⟩
           have f557 := f550.mx (no_int _) m555 rfl (rfl : 48 + 2 = 50)
           have f558 := f551.mx (no_own (no_int _) _) m555 rfl (rfl : 48 + 3 = 51)
           have f559 := f552.mx (no_int _) m555 rfl (rfl : 48 + 4 = 52)
           refine WO.wa ?_
           refine WA.seg (fuel := 0) [(5, 2), (6, 2), (7, 2), (8, 1), (9, 1), (10, 2)] (by kernel_rfl) (by kernel_rfl) rfl ?_
           refine WO.pn 3 rfl ?_
           refine WO.alloc (κ := K553) 53 rfl rfl rfl rfl rfl Try.zeroValue74 rfl fun b14 w560 K561 S562 f563 => ⟨((S531.tr (S541.tr (S554.tr S562))).cl rfl), ?_⟩
           refine WO.stB0 (κ := K561) 53 (vc := [.slice a84_0 x84.1.Arena.Owner.length u84_0, .slice a84_1 x84.1.Arena.Next.length u84_1, .slice a84_2 x84.1.Prio.length u84_2]) rfl rfl rfl rfl rfl rfl rfl Try.sizeOf74 rfl rfl f563 rfl fun w564 S565 f566 => ⟨((S531.tr (S541.tr (S554.tr (S562.tr S565)))).cl rfl), ?_⟩
           refine WO.pn 1 rfl ?_
           refine WO.wa ?_
           refine WA.last [] (by kernel_rfl) (by kernel_rfl) rfl ?_
           refine WO.fin ?_
           have f567 := f557.stp (S562.tr S565) rfl rfl
           have f568 := f558.stp (S562.tr S565) rfl rfl
           have f569 := f559.stp (S562.tr S565) rfl rfl
           exact DN.meet _ ⟨(fun b => ren [(50, 41), (51, 42), (52, 43), (53, 44)] (K561 b)), b14, a84_0, u84_0, a84_1, u84_1, a84_2, u84_2, rfl, (Stp.ren ((S518.tr (S531.tr (S541.tr (S554.tr (S562.tr S565))))).wk rfl) [(50, 41), (51, 42), (52, 43), (53, 44)] rfl), (f567.map (ren [(50, 41), (51, 42), (52, 43), (53, 44)]) rfl rfl), (f568.map (ren [(50, 41), (51, 42), (52, 43), (53, 44)]) rfl rfl), (f569.map (ren [(50, 41), (51, 42), (52, 43), (53, 44)]) rfl rfl), (f566.map (ren [(50, 41), (51, 42), (52, 43), (53, 44)]) rfl rfl)⟩ fun a ha => (ha.more (ha.more (ha.more (ha.more (ha.more (ha.more ha.nil rfl) rfl) rfl) rfl) rfl) rfl)
          ·
           refine WO.alloc (κ := K540) 48 rfl rfl rfl rfl rfl Try.zeroValue74 rfl fun b14 w570 K571 S572 f573 => ⟨((S531.tr (S541.tr S572)).cl rfl), ?_⟩
           refine WO.wa ?_
           refine WA.seg (fuel := 0) [(4, 1), (5, 2), (6, 2), (7, 2), (9, 1), (10, 2)] (by kernel_rfl) (by kernel_rfl) rfl ?_
           have f574 := f534.stp (S541.tr S572) rfl rfl
           have f575 := f535.stp (S541.tr S572) rfl rfl
           have f576 := f536.stp (S541.tr S572) rfl rfl
           refine WO.call rfl rfl rfl rfl rfl rfl Try.call36 (i_Edited_ok (κ := fun b => mp [] 0 (K571 b)) (p0 := x81) (p1 := x83) (Sl.map f574.rdc (mp [] 0) rfl rfl) (Sl.map f575.rdc (mp [] 0) rfl rfl) (Sl.map f576.rdc (mp [] 0) rfl rfl) hx84) ?_
           rintro _ w577 ⟨k578, a84_0, u84_0, a84_1, u84_1, a84_2, u84_2, rfl, e579, f580, f581, f582⟩
           obtain ⟨K583, S584, m585⟩ := Ent.mixed (l := []) (κ := K571) e579 49 rfl
           refine ⟨((S531.tr (S541.tr (S572.tr S584))).cl rfl), ?_⟩
           have f587 := f580.mx (no_int _) m585 rfl (rfl : 49 + 2 = 51)
           have f588 := f581.mx (no_own (no_int _) _) m585 rfl (rfl : 49 + 3 = 52)
           have f589 := f582.mx (no_int _) m585 rfl (rfl : 49 + 4 = 53)
           refine WO.pn 3 rfl ?_
           have f590 := f573.stp S584 rfl rfl
           refine WO.stB0 (κ := K583) 48 (vc := [.slice a84_0 x84.1.Arena.Owner.length u84_0, .slice a84_1 x84.1.Arena.Next.length u84_1, .slice a84_2 x84.1.Prio.length u84_2]) rfl rfl rfl rfl rfl rfl rfl Try.sizeOf74 rfl rfl f590 rfl fun w591 S592 f593 => ⟨((S531.tr (S541.tr (S572.tr (S584.tr S592)))).cl rfl), ?_⟩
           refine WO.pn 1 rfl ?_
           refine WO.wa ?_
           refine WA.last [] (by kernel_rfl) (by kernel_rfl) rfl ?_
           refine WO.fin ?_
           have f594 := f587.stp S592 rfl rfl
           have f595 := f588.stp S592 rfl rfl
           have f596 := f589.stp S592 rfl rfl
           exact DN.meet _ ⟨(fun b => ren [(51, 41), (52, 42), (53, 43), (48, 44)] (K583 b)), b14, a84_0, u84_0, a84_1, u84_1, a84_2, u84_2, rfl, (Stp.ren ((S518.tr (S531.tr (S541.tr (S572.tr (S584.tr S592))))).wk rfl) [(51, 41), (52, 42), (53, 43), (48, 44)] rfl), (f594.map (ren [(51, 41), (52, 42), (53, 43), (48, 44)]) rfl rfl), (f595.map (ren [(51, 41), (52, 42), (53, 43), (48, 44)]) rfl rfl), (f596.map (ren [(51, 41), (52, 42), (53, 43), (48, 44)]) rfl rfl), (f593.map (ren [(51, 41), (52, 42), (53, 43), (48, 44)]) rfl rfl)⟩ fun a ha => (ha.more (ha.more (ha.more (ha.more (ha.more (ha.more ha.nil rfl) rfl) rfl) rfl) rfl) rfl)
         ·
          refine WO.alloc (κ := K530) 46 rfl rfl rfl rfl rfl Try.zeroValue74 rfl fun b14 w597 K598 S599 f600 => ⟨((S531.tr S599).cl rfl), ?_⟩
          refine WO.wa ?_
          refine WA.seg (fuel := 0) [(3, 1), (4, 1), (5, 2), (6, 2), (7, 2), (9, 1), (10, 2)] (by kernel_rfl) (by kernel_rfl) rfl ?_
          refine WO.call rfl rfl rfl rfl rfl rfl Try.call35 (l_toEdit_ok (κ := fun b => mp [] 0 (K598 b)) (p0 := p1) hx83) ?_
          rintro _ w601 ⟨k602, rfl, e603⟩
          obtain ⟨K604, S605, m606⟩ := Ent.mixed (l := []) (κ := K598) e603 47 rfl
          refine ⟨((S531.tr (S599.tr S605)).cl rfl), ?_⟩
          have f608 := f534.stp (S599.tr S605) rfl rfl
          have f609 := f535.stp (S599.tr S605) rfl rfl
          have f610 := f536.stp (S599.tr S605) rfl rfl
          refine WO.call rfl rfl rfl rfl rfl rfl Try.call36 (i_Edited_ok (κ := fun b => mp [] 0 (K604 b)) (p0 := x81) (p1 := x83) (Sl.map f608.rdc (mp [] 0) rfl rfl) (Sl.map f609.rdc (mp [] 0) rfl rfl) (Sl.map f610.rdc (mp [] 0) rfl rfl) hx84) ?_
          rintro _ w611 ⟨k612, a84_0, u84_0, a84_1, u84_1, a84_2, u84_2, rfl, e613, f614, f615, f616⟩
          obtain ⟨K617, S618, m619⟩ := Ent.mixed (l := []) (κ := K604) e613 49 rfl
          refine ⟨((S531.tr (S599.tr (S605.tr S618))).cl rfl), ?_⟩
          have f621 := f614.mx (no_int _) m619 rfl (rfl : 49 + 2 = 51)
          have f622 := f615.mx (no_own (no_int _) _) m619 rfl (rfl : 49 + 3 = 52)
          have f623 := f616.mx (no_int _) m619 rfl (rfl : 49 + 4 = 53)
          refine WO.pn 3 rfl ?_
          have f624 := f600.stp (S605.tr S618) rfl rfl
          refine WO.stB0 (κ := K617) 46 (vc := [.slice a84_0 x84.1.Arena.Owner.length u84_0, .slice a84_1 x84.1.Arena.Next.length u84_1, .slice a84_2 x84.1.Prio.length u84_2]) rfl rfl rfl rfl rfl rfl rfl Try.sizeOf74 rfl rfl f624 rfl fun w625 S626 f627 => ⟨((S531.tr (S599.tr (S605.tr (S618.tr S626)))).cl rfl), ?_⟩
          refine WO.pn 1 rfl ?_
          refine WO.wa ?_
          refine WA.last [] (by kernel_rfl) (by kernel_rfl) rfl ?_
          refine WO.fin ?_
          have f628 := f621.stp S626 rfl rfl
          have f629 := f622.stp S626 rfl rfl
          have f630 := f623.stp S626 rfl rfl
          exact DN.meet _ ⟨(fun b => ren [(51, 41), (52, 42), (53, 43), (46, 44)] (K617 b)), b14, a84_0, u84_0, a84_1, u84_1, a84_2, u84_2, rfl, (Stp.ren ((S518.tr (S531.tr (S599.tr (S605.tr (S618.tr S626))))).wk rfl) [(51, 41), (52, 42), (53, 43), (46, 44)] rfl), (f628.map (ren [(51, 41), (52, 42), (53, 43), (46, 44)]) rfl rfl), (f629.map (ren [(51, 41), (52, 42), (53, 43), (46, 44)]) rfl rfl), (f630.map (ren [(51, 41), (52, 42), (53, 43), (46, 44)]) rfl rfl), (f627.map (ren [(51, 41), (52, 42), (53, 43), (46, 44)]) rfl rfl)⟩ fun a ha => (ha.more (ha.more (ha.more (ha.more (ha.more (ha.more ha.nil rfl) rfl) rfl) rfl) rfl) rfl)
        ·
         refine WO.alloc (κ := K501) 41 rfl rfl rfl rfl rfl Try.zeroValue74 rfl fun b14 w631 K632 S633 f634 => ⟨(S633.cl rfl), ?_⟩
         refine WO.wa ?_
         refine WA.seg (fuel := 0) [(1, 1), (3, 1), (4, 1), (5, 2), (6, 2), (7, 2), (9, 1), (10, 2)] (by kernel_rfl) (by kernel_rfl) rfl ?_
         have f635 := f402.stp (S412.tr (S425.tr (S444.tr (S469.tr (S474.tr (S491.tr (S502.tr (S518.tr S633)))))))) rfl rfl
         have f636 := f403.stp (S412.tr (S425.tr (S444.tr (S469.tr (S474.tr (S491.tr (S502.tr (S518.tr S633)))))))) rfl rfl
         have f637 := f404.stp (S412.tr (S425.tr (S444.tr (S469.tr (S474.tr (S491.tr (S502.tr (S518.tr S633)))))))) rfl rfl
         refine WO.call rfl rfl rfl rfl rfl rfl Try.call34 (l_toParity_ok (κ := fun b => mp [] 0 (K632 b)) (p0 := p0) (Sl.map f635 (mp [] 0) rfl rfl) (Sl.map f636 (mp [] 0) rfl rfl) (Sl.map f637 (mp [] 0) rfl rfl) hx81) ?_
         rintro _ w638 ⟨k639, a81_0, u81_0, a81_1, u81_1, a81_2, u81_2, rfl, e640, f641, f642, f643⟩
         obtain ⟨K644, S645, m646⟩ := Ent.mixed (l := []) (κ := K632) e640 42 rfl
         refine ⟨((S633.tr S645).cl rfl), ?_⟩
         have f648 := f641.mx (no_int _) m646 rfl (rfl : 42 + 2 = 44)
         have f649 := f642.mx (no_own (no_int _) _) m646 rfl (rfl : 42 + 3 = 45)
         have f650 := f643.mx (no_int _) m646 rfl (rfl : 42 + 4 = 46)
         refine WO.call rfl rfl rfl rfl rfl rfl Try.call35 (l_toEdit_ok (κ := fun b => mp [] 0 (K644 b)) (p0 := p1) hx83) ?_
         rintro _ w651 ⟨k652, rfl, e653⟩
         obtain ⟨K654, S655, m656⟩ := Ent.mixed (l := []) (κ := K644) e653 47 rfl
         refine ⟨((S633.tr (S645.tr S655)).cl rfl), ?_⟩
         have f658 := f648.stp S655 rfl rfl
         have f659 := f649.stp S655 rfl rfl
         have f660 := f650.stp S655 rfl rfl
         refine WO.call rfl rfl rfl rfl rfl rfl Try.call36 (i_Edited_ok (κ := fun b => mp [] 0 (K654 b)) (p0 := x81) (p1 := x83) (Sl.map f658.rdc (mp [] 0) rfl rfl) (Sl.map f659.rdc (mp [] 0) rfl rfl) (Sl.map f660.rdc (mp [] 0) rfl rfl) hx84) ?_
         rintro _ w661 ⟨k662, a84_0, u84_0, a84_1, u84_1, a84_2, u84_2, rfl, e663, f664, f665, f666⟩
         obtain ⟨K667, S668, m669⟩ := Ent.mixed (l := []) (κ := K654) e663 49 rfl
         refine ⟨((S633.tr (S645.tr (S655.tr S668))).cl rfl), ?_⟩
         have f671 := f664.mx (no_int _) m669 rfl (rfl : 49 + 2 = 51)
         have f672 := f665.mx (no_own (no_int _) _) m669 rfl (rfl : 49 + 3 = 52)
         have f673 := f666.mx (no_int _) m669 rfl (rfl : 49 + 4 = 53)
         refine WO.pn 3 rfl ?_
         have f674 := f634.stp (S645.tr (S655.tr S668)) rfl rfl
         refine WO.stB0 (κ := K667) 41 (vc := [.slice a84_0 x84.1.Arena.Owner.length u84_0, .slice a84_1 x84.1.Arena.Next.length u84_1, .slice a84_2 x84.1.Prio.length u84_2]) rfl rfl rfl rfl rfl rfl rfl Try.sizeOf74 rfl rfl f674 rfl fun w675 S676 f677 => ⟨((S633.tr (S645.tr (S655.tr (S668.tr S676)))).cl rfl), ?_⟩
         refine WO.pn 1 rfl ?_
         refine WO.wa ?_
         refine WA.last [] (by kernel_rfl) (by kernel_rfl) rfl ?_
         refine WO.fin ?_
         have f678 := f671.stp S676 rfl rfl
         have f679 := f672.stp S676 rfl rfl
         have f680 := f673.stp S676 rfl rfl
         exact DN.meet _ ⟨(fun b => ren [(51, 41), (52, 42), (53, 43), (41, 44)] (K667 b)), b14, a84_0, u84_0, a84_1, u84_1, a84_2, u84_2, rfl, (Stp.ren ((S518.tr (S633.tr (S645.tr (S655.tr (S668.tr S676))))).wk rfl) [(51, 41), (52, 42), (53, 43), (41, 44)] rfl), (f678.map (ren [(51, 41), (52, 42), (53, 43), (41, 44)]) rfl rfl), (f679.map (ren [(51, 41), (52, 42), (53, 43), (41, 44)]) rfl rfl), (f680.map (ren [(51, 41), (52, 42), (53, 43), (41, 44)]) rfl rfl), (f677.map (ren [(51, 41), (52, 42), (53, 43), (41, 44)]) rfl rfl)⟩ fun a ha => (ha.more (ha.more (ha.more (ha.more (ha.more (ha.more ha.nil rfl) rfl) rfl) rfl) rfl) rfl)
       rintro _ w509 ⟨K510, b14, lar512_0, lur512_0, lar512_1, lur512_1, lar512_2, lur512_2, rfl, S511, f513, f514, f515, f516⟩
       refine DN.seq ?_
       refine WC.seq ?_
       refine WC.seq ?_
       refine WC.rs [(0, 1), (1, 1), (2, 1), (3, 2), (4, 2), (5, 2), (6, 2), (7, 2), (8, 2)] rfl ?_
       refine WO.k1 trivial rfl rfl rfl rfl (rn_la (cs := [.slice lar512_0 x84.1.Arena.Owner.length lur512_0, .slice lar512_1 x84.1.Arena.Next.length lur512_1, .slice lar512_2 x84.1.Prio.length lur512_2]) Try.isAgg74 Try.sizeOf74 rfl rfl rfl (haE f516.cells)) ?_
       have f681 := f380.stp (S388.tr (S395.tr (S398.tr (S412.tr (S425.tr (S444.tr (S469.tr (S474.tr (S491.tr (S502.tr S511)))))))))) rfl rfl
       refine WO.k1 trivial rfl rfl rfl rfl (rn_la (cs := [.slice lar25_0 x26.1.Arena.Owner.length lur25_0, .slice lar25_1 x26.1.Arena.Next.length lur25_1, .slice lar25_2 x26.1.Prio.length lur25_2]) Try.isAgg74 Try.sizeOf74 rfl rfl rfl (haE f681.cells)) ?_
       obtain ⟨x89, hx89, h⟩ := Option.bind_eq_some_iff.mp h
       have f682 := f381.stp (S388.tr (S395.tr (S398.tr (S412.tr (S425.tr (S444.tr (S469.tr (S474.tr (S491.tr (S502.tr S511)))))))))) rfl rfl
       have f683 := f382.stp (S388.tr (S395.tr (S398.tr (S412.tr (S425.tr (S444.tr (S469.tr (S474.tr (S491.tr (S502.tr S511)))))))))) rfl rfl
       have f684 := f383.stp (S388.tr (S395.tr (S398.tr (S412.tr (S425.tr (S444.tr (S469.tr (S474.tr (S491.tr (S502.tr S511)))))))))) rfl rfl
       refine WO.call rfl rfl rfl rfl rfl rfl Try.call37 (l_eqParity_ok (κ := fun b => mp [] 0 (K510 b)) (p0 := x84.1) (p1 := x26.1) (Sl.map f513.rdc (mp [] 0) rfl rfl) (Sl.map f514.rdc (mp [] 0) rfl rfl) (Sl.map f515.rdc (mp [] 0) rfl rfl) (Sl.map f682.rdc (mp [] 0) rfl rfl) (Sl.map f683.rdc (mp [] 0) rfl rfl) (Sl.map f684.rdc (mp [] 0) rfl rfl) hx89) ?_
       rintro _ w685 ⟨k686, rfl, e687⟩
       obtain ⟨K688, S689, m690⟩ := Ent.mixed (l := []) (κ := K510) e687 45 rfl
       refine ⟨trivial, ?_⟩
       refine WO.pn 2 rfl ?_
       obtain ⟨p95, h, hK692⟩ := Option.bind_eq_some_iff.mp h
       refine WO.meet [(5, 2), (6, 2), (7, 2), (8, 2)] [] (fun L w' => L = [(9, .pointer (some ⟨b9, 0, none⟩)), (12, .int .i64 x70.1), (95, .bool p95)] ∧ ∃ κ', Stp [] K688 w685 κ' w') trivial ?_ ?_
       ·
        revert h
        cases ht693 : (!x89) with
        | true =>
         intro h; replace h := cT h
         refine WO.pn 4 rfl ?_
         obtain rfl := Option.some.inj h
         exact WO.met _ trivial ⟨rfl, _, (Stp.refl _ _).wk rfl⟩ fun a ha => (ha.more (ha.more (ha.more ha.nil rfl) rfl) rfl)
        | false =>
         intro h; replace h := cF h
         refine WO.pn 2 rfl ?_
         refine WO.k2 rfl rfl rfl rfl (rn_neqB rfl rfl Try.runUnderlying4 rfl) ?_
         refine WO.pn 1 rfl ?_
         obtain rfl := Option.some.inj h
         exact WO.met _ trivial ⟨rfl, _, (Stp.refl _ _).wk rfl⟩ fun a ha => (ha.more (ha.more (ha.more ha.nil rfl) rfl) rfl)
       rintro _ w694 _ ⟨rfl, K695, S696⟩
       have h := hK692
       refine WO.fin ?_
       refine DN.seq ?_
       revert h
       cases ht697 : p95 with
       | true =>
        intro h; replace h := cT h
        refine WC.ct rfl ?_
        refine WC.seq ?_
        refine WC.rs [(0, 2)] rfl ?_
        refine WO.pn 1 rfl ?_
        refine WO.fin ?_
        refine DN.seq ?_
        refine WC.ret ?_
        refine DN.retThen ?_
        have f698 := hE.stp (S3.tr (S7.tr (S17.tr (S24.tr (S261.tr (S269.tr (S272.tr (S276.tr (S388.tr (S395.tr (S398.tr (S412.tr (S425.tr (S444.tr (S469.tr (S474.tr (S491.tr (S502.tr (S511.tr (S689.tr S696)))))))))))))))))))) rfl rfl
        refine DN.res (l := [.tmp 4]) Try.results5 (res_tmp rfl rfl) rfl ?_
        obtain rfl := Option.some.inj h
        exact ⟨K695, rfl, f698⟩
       | false =>
        intro h; replace h := cF h
        refine WC.cf rfl ?_
        refine WC.skip ?_
        refine DN.seq ?_
        refine WC.seq ?_
        refine WC.rs [(0, 2)] rfl ?_
        refine WO.pn 1 rfl ?_
        refine WO.fin ?_
        refine DN.seq ?_
        refine WC.seq ?_
        refine WC.rs [(0, 1), (1, 2), (2, 1), (3, 2)] rfl ?_
        have f699 := f497.stp (S502.tr (S511.tr (S689.tr S696))) rfl rfl
        refine WO.k1 trivial rfl rfl rfl rfl (rn_la (cs := [.slice lar277_0 x35.1.Arena.Owner.length lur277_0, .slice lar277_1 x35.1.Arena.Next.length lur277_1, .slice lar277_2 x35.1.Prio.length lur277_2]) Try.isAgg74 Try.sizeOf74 rfl rfl rfl (haE f699.cells)) ?_
        refine WO.pn 1 rfl ?_
        obtain ⟨x98, hx98, h⟩ := Option.bind_eq_some_iff.mp h
        have f700 := f494.stp (S502.tr (S511.tr (S689.tr S696))) rfl rfl
        have f701 := f495.stp (S502.tr (S511.tr (S689.tr S696))) rfl rfl
        have f702 := f496.stp (S502.tr (S511.tr (S689.tr S696))) rfl rfl
        refine WO.call rfl rfl rfl rfl rfl rfl Try.call39 (Ret.cast (by simp only [(hn485), (hn487), (hn489), List.cons_append, List.nil_append]) (l_heldParity_ok (κ := fun b => mp [] 0 (K695 b)) (p0 := (⟨(⟨x70.2.1, x70.2.2.1⟩ : Arena), x70.2.2.2⟩ : Parity)) (Sl.map f700.rdc (mp [] 0) rfl rfl) (Sl.map f701.rdc (mp [] 0) rfl rfl) (Sl.map f702.rdc (mp [] 0) rfl rfl) hx98)) ?_
        rintro _ w703 ⟨k704, rfl, e705⟩
        obtain ⟨K706, S707, m708⟩ := Ent.mixed (l := []) (κ := K695) e705 47 rfl
        refine ⟨trivial, ?_⟩
        refine WO.pn 1 rfl ?_
        refine WO.fin ?_
        refine DN.seq ?_
        refine WC.seq ?_
        refine WC.seq ?_
        refine WC.rs [(0, 2), (1, 2)] rfl ?_
        refine WO.pn 2 rfl ?_
        refine WO.fin ?_
        refine DN.seq ?_
        revert h
        cases ht710 : decide (x98 < 0) with
        | true =>
         intro h; replace h := cT h
         refine WC.ct rfl ?_
         refine WC.seq ?_
         refine WC.rs [(0, 2)] rfl ?_
         refine WO.pn 1 rfl ?_
         refine WO.fin ?_
         refine DN.seq ?_
         refine WC.ret ?_
         refine DN.retThen ?_
         have f711 := hE.stp (S3.tr (S7.tr (S17.tr (S24.tr (S261.tr (S269.tr (S272.tr (S276.tr (S388.tr (S395.tr (S398.tr (S412.tr (S425.tr (S444.tr (S469.tr (S474.tr (S491.tr (S502.tr (S511.tr (S689.tr (S696.tr S707))))))))))))))))))))) rfl rfl
         refine DN.res (l := [.tmp 4]) Try.results5 (res_tmp rfl rfl) rfl ?_
         obtain rfl := Option.some.inj h
         exact ⟨K706, rfl, f711⟩
        | false =>
         intro h; replace h := cF h
         refine WC.cf rfl ?_
         refine WC.skip ?_
         refine DN.seq ?_
         refine WC.seq ?_
         refine WC.seq ?_
         refine WC.rs [(0, 2), (1, 2), (2, 2)] rfl ?_
         refine WO.pn 3 rfl ?_
         refine WO.fin ?_
         refine DN.seq ?_
         revert h
         cases ht712 : (x98 != x70.1) with
         | true =>
          intro h; replace h := cT h
          refine WC.ct rfl ?_
          refine WC.seq ?_
          refine WC.rs [(0, 2)] rfl ?_
          refine WO.pn 1 rfl ?_
          refine WO.fin ?_
          refine DN.seq ?_
          refine WC.ret ?_
          refine DN.retThen ?_
          have f713 := hE.stp (S3.tr (S7.tr (S17.tr (S24.tr (S261.tr (S269.tr (S272.tr (S276.tr (S388.tr (S395.tr (S398.tr (S412.tr (S425.tr (S444.tr (S469.tr (S474.tr (S491.tr (S502.tr (S511.tr (S689.tr (S696.tr S707))))))))))))))))))))) rfl rfl
          refine DN.res (l := [.tmp 4]) Try.results5 (res_tmp rfl rfl) rfl ?_
          obtain rfl := Option.some.inj h
          exact ⟨K706, rfl, f713⟩
         | false =>
          intro h; replace h := cF h
          refine WC.cf rfl ?_
          refine WC.skip ?_
          refine DN.seq ?_
          refine WC.seq ?_
          refine WC.rs [(0, 2)] rfl ?_
          refine WO.pn 1 rfl ?_
          refine WO.fin ?_
          refine DN.seq ?_
          refine WC.ret ?_
          have f714 := hE.stp (S3.tr (S7.tr (S17.tr (S24.tr (S261.tr (S269.tr (S272.tr (S276.tr (S388.tr (S395.tr (S398.tr (S412.tr (S425.tr (S444.tr (S469.tr (S474.tr (S491.tr (S502.tr (S511.tr (S689.tr (S696.tr S707))))))))))))))))))))) rfl rfl
          refine DN.res (l := [.tmp 4]) Try.results5 (res_tmp rfl rfl) rfl ?_
          obtain rfl := Option.some.inj h
          exact ⟨K706, rfl, f714⟩

end Go.Proofs.Ytnmjfjppgpkieaa
