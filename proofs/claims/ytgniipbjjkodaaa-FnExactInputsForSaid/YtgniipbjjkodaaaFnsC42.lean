/- The walks, part 2. By program. -/
import Derived.Test.YtgniipbjjkodaaaFnsC41
set_option linter.unusedVariables false
set_option linter.unusedSimpArgs false
namespace Go.Proofs.Ytgniipbjjkodaaa
open Go Go.Wk Go.Proofs
set_option maxRecDepth 100000
set_option maxHeartbeats 1000000

/- loop.example/g00869/laws.FnExactInputsFor -/
theorem l_FnExactInputsFor_ok {w : World} {κ : Col} {p0 : Sig} {a1_0 : Option Addr} {u1_0 : Nat} {a1_1 : Option Addr} {u1_1 : Nat} {p1 : Rival} {a2 : Option Addr} {u2 : Nat} {p2 : (List Int)} (g1_0 : Rd (Rp.int .i64) κ w 0 a1_0 u1_0 p1.In) (g1_1 : Rd (Rp.sl (Rp.int .i64)) κ w 0 a1_1 u1_1 p1.Next) (g2 : Rd (Rp.int .i64) κ w 0 a2 u2 p2) {r : Bool} (h : l_FnExactInputsFor p0 p1 p2 = some r) : Ret Try.prog 4 [.agg #[.int .i64 p0.In, .int .i64 p0.Out], .agg #[.slice a1_0 p1.In.length u1_0, .slice a1_1 p1.Next.length u1_1], .slice a2 p2.length u2] w (fun v w' => ∃ (κ' : Col), v = .bool r ∧ Ent κ w κ' w') := by
 unfold l_FnExactInputsFor at h
 refine Ret.enter Try.func4 rfl Try.ntmps4 rfl ?_
 dsimp only [envOf]
 have hE := Ent.refl κ w
 refine WC.seq ?_
 refine WC.rs [(0, 1), (1, 1), (2, 2)] rfl ?_
 refine WO.box (κ := κ) 2 rfl rfl rfl rfl rfl rfl rfl fun b3 w1 K2 S3 f4 => ⟨trivial, ?_⟩
 refine WO.box (κ := K2) 3 rfl rfl rfl rfl rfl rfl rfl fun b4 w5 K6 S7 f8 => ⟨trivial, ?_⟩
 refine WO.pn 1 rfl ?_
 refine WO.fin ?_
 refine DN.seq ?_
 refine WC.seq ?_
 refine WC.seq ?_
 refine WC.rs [(0, 2), (1, 2), (2, 2)] rfl ?_
 refine WO.pn 1 rfl ?_
 refine WO.k2 rfl rfl rfl rfl (rn_len Try.runUnderlying24 rfl rfl) ?_
 refine WO.pn 1 rfl ?_
 refine WO.fin ?_
 refine DN.seq ?_
 revert h
 cases ht9 : decide (1048576 < (p2.length : Int)) with
 | true =>
  intro h; replace h := cT h
  refine WC.ct rfl ?_
  refine WC.seq ?_
  refine WC.rs [(0, 2)] rfl ?_
  refine WO.pn 1 rfl ?_
  refine WO.fin ?_
  refine DN.seq ?_
  refine WC.ret ?_
  refine DN.retThen ?_
  have f10 := hE.stp (S3.tr S7) rfl rfl
  refine DN.res (l := [.tmp 6]) Try.results4 (res_tmp rfl rfl) rfl ?_
  obtain rfl := Option.some.inj h
  exact ⟨K6, rfl, f10⟩
 | false =>
  intro h; replace h := cF h
  refine WC.cf rfl ?_
  refine WC.skip ?_
  refine DN.seq ?_
  refine WC.seq ?_
  refine WC.rs [(0, 2)] rfl ?_
  refine WO.pn 1 rfl ?_
  refine WO.fin ?_
  refine DN.seq ?_
  refine WC.seq ?_
  refine WC.rs [(0, 1), (1, 2), (2, 1), (3, 2)] rfl ?_
  refine WO.k1 trivial rfl rfl rfl rfl (rn_la (cs := [.slice a1_0 p1.In.length u1_0, .slice a1_1 p1.Next.length u1_1]) Try.isAgg27 Try.sizeOf27 rfl rfl rfl (haE f8.cells)) ?_
  refine WO.pn 1 rfl ?_
  obtain ⟨x21, hx21, h⟩ := Option.bind_eq_some_iff.mp h
  have f11 := g1_0.stp (S3.tr S7) rfl rfl
  have f12 := g1_1.stp (S3.tr S7) rfl rfl
  refine WO.call rfl rfl rfl rfl rfl rfl Try.call15 (l_szRival_ok (κ := fun b => mp [] 0 (K6 b)) (Sl.map f11 (mp [] 0) rfl rfl) (Sl.map f12 (mp [] 0) rfl rfl) hx21) ?_
  rintro _ w13 ⟨k14, rfl, e15⟩
  obtain ⟨K16, S17, m18⟩ := Ent.mixed (l := []) (κ := K6) e15 4 rfl
  refine ⟨trivial, ?_⟩
  refine WO.pn 1 rfl ?_
  refine WO.fin ?_
  refine DN.seq ?_
  refine WC.seq ?_
  refine WC.seq ?_
  refine WC.rs [(0, 2), (1, 2)] rfl ?_
  refine WO.pn 2 rfl ?_
  refine WO.fin ?_
  refine DN.seq ?_
  revert h
  cases ht20 : decide (x21 < 0) with
  | true =>
   intro h; replace h := cT h
   refine WC.ct rfl ?_
   refine WC.seq ?_
   refine WC.rs [(0, 2)] rfl ?_
   refine WO.pn 1 rfl ?_
   refine WO.fin ?_
   refine DN.seq ?_
   refine WC.ret ?_
   refine DN.retThen ?_
   have f21 := hE.stp (S3.tr (S7.tr S17)) rfl rfl
   refine DN.res (l := [.tmp 6]) Try.results4 (res_tmp rfl rfl) rfl ?_
   obtain rfl := Option.some.inj h
   exact ⟨K16, rfl, f21⟩
  | false =>
   intro h; replace h := cF h
   refine WC.cf rfl ?_
   refine WC.skip ?_
   refine DN.seq ?_
   refine WC.seq ?_
   refine WC.rx (κ := K16) 5 none [(4, 2), (0, 0), (2, 0), (1, 1), (3, 1), (5, 1), (6, 1), (7, 2)] [] (by kernel_rfl) (by kernel_rfl) fun w23 S22 => ?_
   refine WO.pn 1 rfl ?_
   have f24 := f4.stp (S7.tr (S17.tr S22)) rfl rfl
   refine WO.k0 rfl rfl rfl rfl (rn_la (cs := [.int .i64 p0.In, .int .i64 p0.Out]) Try.isAgg23 Try.sizeOf23 rfl rfl rfl (haC f24.cells rfl)) ?_
   have f25 := f8.stp (S17.tr S22) rfl rfl
   refine WO.k0 rfl rfl rfl rfl (rn_la (cs := [.slice a1_0 p1.In.length u1_0, .slice a1_1 p1.Next.length u1_1]) Try.isAgg27 Try.sizeOf27 rfl rfl rfl (haC f25.cells rfl)) ?_
   obtain ⟨x25, hx25, h⟩ := Option.bind_eq_some_iff.mp h
   refine WO.call rfl rfl rfl rfl rfl rfl Try.call17 (l_toSig_ok (κ := fun b => mp [] 0 (K16 b)) hx25) ?_
   rintro _ w26 ⟨k27, rfl, e28⟩
   obtain ⟨K29, S30, m31⟩ := Ent.mixed (l := []) (κ := K16) e28 6 rfl
   refine ⟨(S30.cl rfl), ?_⟩
   obtain ⟨x27, hx27, h⟩ := Option.bind_eq_some_iff.mp h
   have f33 := f11.stp (S17.tr (S22.tr S30)) rfl rfl
   have f34 := f12.stp (S17.tr (S22.tr S30)) rfl rfl
   refine WO.call rfl rfl rfl rfl rfl rfl Try.call18 (l_toRival_ok (κ := fun b => mp [] 0 (K29 b)) (Sl.map f33 (mp [] 0) rfl rfl) (Sl.map f34 (mp [] 0) rfl rfl) hx27) ?_
   rintro _ w35 ⟨k36, a27_0, u27_0, a27_1, u27_1, rfl, e37, f38, f39⟩
   obtain ⟨K40, S41, m42⟩ := Ent.mixed (l := []) (κ := K29) e37 8 rfl
   refine ⟨((S30.tr S41).cl rfl), ?_⟩
   have f44 := f38.mx (no_int _) m42 rfl (rfl : 8 + 2 = 10)
   have f45 := f39.mx (no_own (no_int _) _) m42 rfl (rfl : 8 + 3 = 11)
   obtain ⟨x29, hx29, h⟩ := Option.bind_eq_some_iff.mp h
   have f46 := g2.stp (S3.tr (S7.tr (S17.tr (S22.tr (S30.tr S41))))) rfl rfl
   refine WO.call rfl rfl rfl rfl rfl rfl Try.call22 (l_toInt64S_ok (κ := fun b => mp [] 0 (K40 b)) (Sl.map f46 (mp [] 0) rfl rfl) hx29) ?_
   rintro _ w47 ⟨k48, a29_0, u29_0, rfl, e49, f50⟩
   obtain ⟨K51, S52, m53⟩ := Ent.mixed (l := []) (κ := K40) e49 12 rfl
   refine ⟨((S30.tr (S41.tr S52)).cl rfl), ?_⟩
   have f55 := f50.mx (no_int _) m53 rfl (rfl : 12 + 2 = 14)
   obtain ⟨x30, hx30, h⟩ := Option.bind_eq_some_iff.mp h
   have f56 := f44.stp S52 rfl rfl
   have f57 := f45.stp S52 rfl rfl
   refine WO.call rfl rfl rfl rfl rfl rfl Try.call21 (s_InputsFor_ok (κ := fun b => mp [] 0 (K51 b)) (Sl.map f56.rdc (mp [] 0) rfl rfl) (Sl.map f57.rdc (mp [] 0) rfl rfl) (Sl.map f55.rdc (mp [] 0) rfl rfl) hx30) ?_
   rintro _ w58 ⟨k59, a30_0, u30_0, rfl, e60, f61⟩
   obtain ⟨K62, S63, m64⟩ := Ent.mixed (l := []) (κ := K51) e60 15 rfl
   refine ⟨((S30.tr (S41.tr (S52.tr S63))).cl rfl), ?_⟩
   have f66 := f61.mx (no_int _) m64 rfl (rfl : 15 + 2 = 17)
   refine WO.pn 1 rfl ?_
   refine WO.nx ?_
   refine WO.fin ?_
   refine DN.seq ?_
   refine WC.seq ?_
   refine WC.rs [(0, 1), (1, 1), (2, 1), (3, 1)] rfl ?_
   have f67 := f25.stp (S30.tr (S41.tr (S52.tr S63))) rfl rfl
   refine WO.k1 trivial rfl rfl rfl rfl (rn_la (cs := [.slice a1_0 p1.In.length u1_0, .slice a1_1 p1.Next.length u1_1]) Try.isAgg27 Try.sizeOf27 rfl rfl rfl (haE f67.cells)) ?_
   obtain ⟨x32, hx32, h⟩ := Option.bind_eq_some_iff.mp h
   have f68 := f33.stp (S41.tr (S52.tr S63)) rfl rfl
   have f69 := f34.stp (S41.tr (S52.tr S63)) rfl rfl
   refine WO.call rfl rfl rfl rfl rfl rfl Try.call18 (l_toRival_ok (κ := fun b => mp [] 0 (K62 b)) (Sl.map f68 (mp [] 0) rfl rfl) (Sl.map f69 (mp [] 0) rfl rfl) hx32) ?_
   rintro _ w70 ⟨k71, a32_0, u32_0, a32_1, u32_1, rfl, e72, f73, f74⟩
   obtain ⟨K75, S76, m77⟩ := Ent.mixed (l := []) (κ := K62) e72 18 rfl
   refine ⟨trivial, ?_⟩
   have f79 := f73.mx (no_int _) m77 rfl (rfl : 18 + 2 = 20)
   have f80 := f74.mx (no_own (no_int _) _) m77 rfl (rfl : 18 + 3 = 21)
   refine WO.alloc (κ := K75) 22 rfl rfl rfl rfl rfl Try.zeroValue32 rfl fun b9 w81 K82 S83 f84 => ⟨trivial, ?_⟩
   refine WO.stB0 (κ := K82) 22 (vc := [.slice a32_0 x32.In.length u32_0, .slice a32_1 x32.Next.length u32_1]) rfl rfl rfl rfl rfl rfl rfl Try.sizeOf32 rfl rfl f84 rfl fun w85 S86 f87 => ⟨trivial, ?_⟩
   refine WO.fin ?_
   refine DN.seq ?_
   refine WC.seq ?_
   refine WC.rs [(0, 2), (1, 1), (2, 2)] rfl ?_
   refine WO.pn 1 rfl ?_
   obtain ⟨x34, hx34, h⟩ := Option.bind_eq_some_iff.mp h
   have f88 := f46.stp (S52.tr (S63.tr (S76.tr (S83.tr S86)))) rfl rfl
   refine WO.call rfl rfl rfl rfl rfl rfl Try.call22 (l_toInt64S_ok (κ := fun b => mp [] 0 (K82 b)) (Sl.map f88 (mp [] 0) rfl rfl) hx34) ?_
   rintro _ w89 ⟨k90, a34_0, u34_0, rfl, e91, f92⟩
   obtain ⟨K93, S94, m95⟩ := Ent.mixed (l := []) (κ := K82) e91 23 rfl
   refine ⟨trivial, ?_⟩
   have f97 := f92.mx (no_int _) m95 rfl (rfl : 23 + 2 = 25)
   refine WO.pn 1 rfl ?_
   refine WO.fin ?_
   refine DN.seq ?_
   refine WC.seq ?_
   refine WC.rx (κ := K93) 25 none [(3, 2), (0, 0), (2, 0), (1, 1), (4, 1), (5, 2)] [] (by kernel_rfl) (by kernel_rfl) fun w99 S98 => ?_
   refine WO.pn 1 rfl ?_
   have f100 := f24.stp (S30.tr (S41.tr (S52.tr (S63.tr (S76.tr (S83.tr (S86.tr (S94.tr S98)))))))) rfl rfl
   refine WO.k0 rfl rfl rfl rfl (rn_la (cs := [.int .i64 p0.In, .int .i64 p0.Out]) Try.isAgg23 Try.sizeOf23 rfl rfl rfl (haC f100.cells rfl)) ?_
   have f101 := f87.stp (S94.tr S98) rfl rfl
   refine WO.k0 rfl rfl rfl rfl (rn_la (cs := [.slice a32_0 x32.In.length u32_0, .slice a32_1 x32.Next.length u32_1]) Try.isAgg32 Try.sizeOf32 rfl rfl rfl (haC f101.cells rfl)) ?_
   obtain ⟨x36, hx36, h⟩ := Option.bind_eq_some_iff.mp h
   refine WO.call rfl rfl rfl rfl rfl rfl Try.call17 (l_toSig_ok (κ := fun b => mp [] 0 (K93 b)) hx36) ?_
   rintro _ w102 ⟨k103, rfl, e104⟩
   obtain ⟨K105, S106, m107⟩ := Ent.mixed (l := []) (κ := K93) e104 26 rfl
   refine ⟨(S106.cl rfl), ?_⟩
   obtain ⟨x39, hx39, h⟩ := Option.bind_eq_some_iff.mp h
   have f109 := f79.stp (S83.tr (S86.tr (S94.tr (S98.tr S106)))) rfl rfl
   have f110 := f80.stp (S83.tr (S86.tr (S94.tr (S98.tr S106)))) rfl rfl
   have f111 := f97.stp (S98.tr S106) rfl rfl
   refine WO.call rfl rfl rfl rfl rfl rfl Try.call23 (i_InputsFor_ok (κ := fun b => mp [] 0 (K105 b)) (Sl.map f109.rdc (mp [] 0) rfl rfl) (Sl.map f110.rdc (mp [] 0) rfl rfl) (Sl.map f111.rdc (mp [] 0) rfl rfl) hx39) ?_
   rintro _ w112 ⟨k113, a39_0, u39_0, rfl, e114, f115⟩
   obtain ⟨K116, S117, m118⟩ := Ent.mixed (l := []) (κ := K105) e114 28 rfl
   refine ⟨((S106.tr S117).cl rfl), ?_⟩
   have f120 := f115.mx (no_int _) m118 rfl (rfl : 28 + 2 = 30)
   refine WO.pn 1 rfl ?_
   refine WO.nx ?_
   refine WO.fin ?_
   refine DN.seq ?_
   refine WC.seq ?_
   refine WC.seq ?_
   refine WC.rs [(0, 2), (1, 2), (2, 1), (3, 2)] rfl ?_
   refine WO.pn 2 rfl ?_
   obtain ⟨x42, hx42, h⟩ := Option.bind_eq_some_iff.mp h
   have f121 := f66.stp (S76.tr (S83.tr (S86.tr (S94.tr (S98.tr (S106.tr S117)))))) rfl rfl
   refine WO.call rfl rfl rfl rfl rfl rfl Try.call24 (l_eqInt64S_ok (κ := fun b => mp [] 0 (K116 b)) (Sl.map f120.rdc (mp [] 0) rfl rfl) (Sl.map f121.rdc (mp [] 0) rfl rfl) hx42) ?_
   rintro _ w122 ⟨k123, rfl, e124⟩
   obtain ⟨K125, S126, m127⟩ := Ent.mixed (l := []) (κ := K116) e124 31 rfl
   refine ⟨trivial, ?_⟩
   refine WO.pn 1 rfl ?_
   refine WO.fin ?_
   refine DN.seq ?_
   revert h
   cases ht129 : (!x42) with
   | true =>
    intro h; replace h := cT h
    refine WC.ct rfl ?_
    refine WC.seq ?_
    refine WC.rs [(0, 2)] rfl ?_
    refine WO.pn 1 rfl ?_
    refine WO.fin ?_
    refine DN.seq ?_
    refine WC.ret ?_
    refine DN.retThen ?_
    have f130 := hE.stp (S3.tr (S7.tr (S17.tr (S22.tr (S30.tr (S41.tr (S52.tr (S63.tr (S76.tr (S83.tr (S86.tr (S94.tr (S98.tr (S106.tr (S117.tr S126))))))))))))))) rfl rfl
    refine DN.res (l := [.tmp 6]) Try.results4 (res_tmp rfl rfl) rfl ?_
    obtain rfl := Option.some.inj h
    exact ⟨K125, rfl, f130⟩
   | false =>
    intro h; replace h := cF h
    refine WC.cf rfl ?_
    refine WC.skip ?_
    refine DN.seq ?_
    refine WC.seq ?_
    refine WC.seq ?_
    refine WC.rx (κ := K125) 32 none [(0, 0), (1, 0), (2, 1), (3, 1), (4, 2)] [] (by kernel_rfl) (by kernel_rfl) fun w132 S131 => ?_
    have f133 := f101.stp (S106.tr (S117.tr (S126.tr S131))) rfl rfl
    refine WO.k0 rfl rfl rfl rfl (rn_la (cs := [.slice a32_0 x32.In.length u32_0, .slice a32_1 x32.Next.length u32_1]) Try.isAgg32 Try.sizeOf32 rfl rfl rfl (haC f133.cells rfl)) ?_
    have f134 := f67.stp (S76.tr (S83.tr (S86.tr (S94.tr (S98.tr (S106.tr (S117.tr (S126.tr S131)))))))) rfl rfl
    refine WO.k0 rfl rfl rfl rfl (rn_la (cs := [.slice a1_0 p1.In.length u1_0, .slice a1_1 p1.Next.length u1_1]) Try.isAgg27 Try.sizeOf27 rfl rfl rfl (haC f134.cells rfl)) ?_
    obtain ⟨x46, hx46, h⟩ := Option.bind_eq_some_iff.mp h
    have f135 := f68.stp (S76.tr (S83.tr (S86.tr (S94.tr (S98.tr (S106.tr (S117.tr (S126.tr S131)))))))) rfl rfl
    have f136 := f69.stp (S76.tr (S83.tr (S86.tr (S94.tr (S98.tr (S106.tr (S117.tr (S126.tr S131)))))))) rfl rfl
    refine WO.call rfl rfl rfl rfl rfl rfl Try.call18 (l_toRival_ok (κ := fun b => mp [] 0 (K125 b)) (Sl.map f135 (mp [] 0) rfl rfl) (Sl.map f136 (mp [] 0) rfl rfl) hx46) ?_
    rintro _ w137 ⟨k138, a46_0, u46_0, a46_1, u46_1, rfl, e139, f140, f141⟩
    obtain ⟨K142, S143, m144⟩ := Ent.mixed (l := []) (κ := K125) e139 33 rfl
    refine ⟨(S143.cl rfl), ?_⟩
    have f146 := f140.mx (no_int _) m144 rfl (rfl : 33 + 2 = 35)
    have f147 := f141.mx (no_own (no_int _) _) m144 rfl (rfl : 33 + 3 = 36)
    obtain ⟨x47, hx47, h⟩ := Option.bind_eq_some_iff.mp h
    have f148 := f109.stp (S117.tr (S126.tr (S131.tr S143))) rfl rfl
    have f149 := f110.stp (S117.tr (S126.tr (S131.tr S143))) rfl rfl
    refine WO.call rfl rfl rfl rfl rfl rfl Try.call20 (l_eqRival_ok (κ := fun b => mp [] 0 (K142 b)) (Sl.map f148.rdc (mp [] 0) rfl rfl) (Sl.map f149.rdc (mp [] 0) rfl rfl) (Sl.map f146.rdc (mp [] 0) rfl rfl) (Sl.map f147.rdc (mp [] 0) rfl rfl) hx47) ?_
    rintro _ w150 ⟨k151, rfl, e152⟩
    obtain ⟨K153, S154, m155⟩ := Ent.mixed (l := []) (κ := K142) e152 37 rfl
    refine ⟨((S143.tr S154).cl rfl), ?_⟩
    refine WO.pn 1 rfl ?_
    refine WO.nx ?_
    refine WO.fin ?_
    refine DN.seq ?_
    revert h
    cases ht157 : (!x47) with
    | true =>
     intro h; replace h := cT h
     refine WC.ct rfl ?_
     refine WC.seq ?_
     refine WC.rs [(0, 2)] rfl ?_
     refine WO.pn 1 rfl ?_
     refine WO.fin ?_
     refine DN.seq ?_
     refine WC.ret ?_
     refine DN.retThen ?_
     have f158 := hE.stp (S3.tr (S7.tr (S17.tr (S22.tr (S30.tr (S41.tr (S52.tr (S63.tr (S76.tr (S83.tr (S86.tr (S94.tr (S98.tr (S106.tr (S117.tr (S126.tr (S131.tr (S143.tr S154)))))))))))))))))) rfl rfl
     refine DN.res (l := [.tmp 6]) Try.results4 (res_tmp rfl rfl) rfl ?_
     obtain rfl := Option.some.inj h
     exact ⟨K153, rfl, f158⟩
    | false =>
     intro h; replace h := cF h
     refine WC.cf rfl ?_
     refine WC.skip ?_
     refine DN.seq ?_
     refine WC.seq ?_
     refine WC.seq ?_
     refine WC.rs [(0, 2), (1, 2), (2, 1), (3, 1), (4, 2)] rfl ?_
     refine WO.pn 2 rfl ?_
     obtain ⟨x51, hx51, h⟩ := Option.bind_eq_some_iff.mp h
     have f159 := f88.stp (S94.tr (S98.tr (S106.tr (S117.tr (S126.tr (S131.tr (S143.tr S154))))))) rfl rfl
     refine WO.call rfl rfl rfl rfl rfl rfl Try.call22 (l_toInt64S_ok (κ := fun b => mp [] 0 (K153 b)) (Sl.map f159 (mp [] 0) rfl rfl) hx51) ?_
     rintro _ w160 ⟨k161, a51_0, u51_0, rfl, e162, f163⟩
     obtain ⟨K164, S165, m166⟩ := Ent.mixed (l := []) (κ := K153) e162 39 rfl
     refine ⟨trivial, ?_⟩
     have f168 := f163.mx (no_int _) m166 rfl (rfl : 39 + 2 = 41)
     obtain ⟨x52, hx52, h⟩ := Option.bind_eq_some_iff.mp h
     have f169 := f111.stp (S117.tr (S126.tr (S131.tr (S143.tr (S154.tr S165))))) rfl rfl
     refine WO.call rfl rfl rfl rfl rfl rfl Try.call24 (l_eqInt64S_ok (κ := fun b => mp [] 0 (K164 b)) (Sl.map f169.rdc (mp [] 0) rfl rfl) (Sl.map f168.rdc (mp [] 0) rfl rfl) hx52) ?_
     rintro _ w170 ⟨k171, rfl, e172⟩
     obtain ⟨K173, S174, m175⟩ := Ent.mixed (l := []) (κ := K164) e172 42 rfl
     refine ⟨trivial, ?_⟩
     refine WO.pn 1 rfl ?_
     refine WO.fin ?_
     refine DN.seq ?_
     revert h
     cases ht177 : (!x52) with
     | true =>
      intro h; replace h := cT h
      refine WC.ct rfl ?_
      refine WC.seq ?_
      refine WC.rs [(0, 2)] rfl ?_
      refine WO.pn 1 rfl ?_
      refine WO.fin ?_
      refine DN.seq ?_
      refine WC.ret ?_
      refine DN.retThen ?_
      have f178 := hE.stp (S3.tr (S7.tr (S17.tr (S22.tr (S30.tr (S41.tr (S52.tr (S63.tr (S76.tr (S83.tr (S86.tr (S94.tr (S98.tr (S106.tr (S117.tr (S126.tr (S131.tr (S143.tr (S154.tr (S165.tr S174)))))))))))))))))))) rfl rfl
      refine DN.res (l := [.tmp 6]) Try.results4 (res_tmp rfl rfl) rfl ?_
      obtain rfl := Option.some.inj h
      exact ⟨K173, rfl, f178⟩
     | false =>
      intro h; replace h := cF h
      refine WC.cf rfl ?_
      refine WC.skip ?_
      refine DN.seq ?_
      refine WC.seq ?_
      refine WC.rs [(0, 2)] rfl ?_
      refine WO.pn 1 rfl ?_
      refine WO.fin ?_
      refine DN.seq ?_
      refine WC.seq ?_
      refine WC.rs [(0, 1), (1, 2), (2, 1), (3, 2)] rfl ?_
      have f179 := f133.stp (S143.tr (S154.tr (S165.tr S174))) rfl rfl
      refine WO.k1 trivial rfl rfl rfl rfl (rn_la (cs := [.slice a32_0 x32.In.length u32_0, .slice a32_1 x32.Next.length u32_1]) Try.isAgg32 Try.sizeOf32 rfl rfl rfl (haE f179.cells)) ?_
      refine WO.pn 1 rfl ?_
      obtain ⟨x56, hx56, h⟩ := Option.bind_eq_some_iff.mp h
      have f180 := f148.stp (S154.tr (S165.tr S174)) rfl rfl
      have f181 := f149.stp (S154.tr (S165.tr S174)) rfl rfl
      refine WO.call rfl rfl rfl rfl rfl rfl Try.call25 (l_markRival_ok (κ := fun b => mp [(20, 2), (21, 3)] 0 (K173 b)) (f180.map (mp [(20, 2), (21, 3)] 0) rfl rfl) (f181.map (mp [(20, 2), (21, 3)] 0) rfl rfl) hx56) ?_
      rintro _ w182 ⟨k183, rfl, e184, f185, hn186, f187, hn188⟩
      obtain ⟨K189, S190, m191⟩ := Ent.mixed (l := [(20, 2), (21, 3)]) (κ := K173) e184 44 rfl
      refine ⟨trivial, ?_⟩
      have f193 := f185.mx (no_int _) m191 rfl (rfl : 44 + 2 = 46)
      have f194 := f187.mx (no_own (no_int _) _) m191 rfl (rfl : 44 + 3 = 47)
      refine WO.pn 1 rfl ?_
      refine WO.fin ?_
      refine DN.seq ?_
      refine WC.seq ?_
      refine WC.rs [(0, 2), (1, 2), (2, 1), (3, 2)] rfl ?_
      refine WO.pn 2 rfl ?_
      obtain ⟨x59, hx59, h⟩ := Option.bind_eq_some_iff.mp h
      have f195 := f169.stp (S174.tr S190) rfl rfl
      refine WO.call rfl rfl rfl rfl rfl rfl Try.call26 (l_markInt64S_ok (κ := fun b => mp [(25, 2)] 0 (K189 b)) (f195.map (mp [(25, 2)] 0) rfl rfl) hx59) ?_
      rintro _ w196 ⟨k197, rfl, e198, f199, hn200⟩
      obtain ⟨K201, S202, m203⟩ := Ent.mixed (l := [(25, 2)]) (κ := K189) e198 48 rfl
      refine ⟨trivial, ?_⟩
      have f205 := f199.mx (no_int _) m203 rfl (rfl : 48 + 2 = 50)
      refine WO.pn 1 rfl ?_
      refine WO.fin ?_
      refine DN.seq ?_
      refine WC.seq ?_
      refine WC.seq ?_
      refine WC.rs [(0, 2), (1, 2), (2, 2), (3, 2), (4, 2), (5, 1), (6, 2), (7, 2)] rfl ?_
      refine WO.pn 3 rfl ?_
      obtain ⟨p67, h, hK206⟩ := Option.bind_eq_some_iff.mp h
      refine WO.meet [(3, 2), (4, 2), (5, 1), (6, 2), (7, 2)] [] (fun L w' => L = [(2, .slice a2 p2.length u2), (3, .pointer (some ⟨b3, 0, none⟩)), (4, .pointer (some ⟨b4, 0, none⟩)), (8, .slice a30_0 x30.length u30_0), (11, .slice a39_0 x39.length u39_0), (67, .bool p67)] ∧ ∃ κ', Stp [] K201 w196 κ' w') trivial ?_ ?_
      ·
       revert h
       cases ht207 : decide (x59.1 < 0) with
       | true =>
        intro h; replace h := cT h
        refine WO.pn 2 rfl ?_
        refine WO.ls rfl rfl rfl rfl ?_
        refine WO.pn 2 rfl ?_
        obtain rfl := Option.some.inj h
        exact WO.met _ trivial ⟨rfl, _, (Stp.refl _ _).wk rfl⟩ fun a ha => (ha.more (ha.more (ha.more (ha.more (ha.more (ha.more ha.nil rfl) rfl) rfl) rfl) rfl) rfl)
       | false =>
        intro h; replace h := cF h
        refine WO.pn 2 rfl ?_
        obtain ⟨x65, hx65, h⟩ := Option.bind_eq_some_iff.mp h
        have f208 := f120.stp (S126.tr (S131.tr (S143.tr (S154.tr (S165.tr (S174.tr (S190.tr S202))))))) rfl rfl
        have f209 := f121.stp (S126.tr (S131.tr (S143.tr (S154.tr (S165.tr (S174.tr (S190.tr S202))))))) rfl rfl
        refine WO.call rfl rfl rfl rfl rfl rfl Try.call24 (l_eqInt64S_ok (κ := fun b => mp [] 0 (K201 b)) (Sl.map f208.rdc (mp [] 0) rfl rfl) (Sl.map f209.rdc (mp [] 0) rfl rfl) hx65) ?_
        rintro _ w210 ⟨k211, rfl, e212⟩
        obtain ⟨K213, S214, m215⟩ := Ent.mixed (l := []) (κ := K201) e212 51 rfl
        refine ⟨trivial, ?_⟩
        refine WO.pn 2 rfl ?_
        obtain rfl := Option.some.inj h
        exact WO.met _ trivial ⟨rfl, _, S214.wk rfl⟩ fun a ha => (ha.more (ha.more (ha.more (ha.more (ha.more (ha.more ha.nil rfl) rfl) rfl) rfl) rfl) rfl)
      rintro _ w217 _ ⟨rfl, K218, S219⟩
      have h := hK206
      refine WO.fin ?_
      refine DN.seq ?_
      revert h
      cases ht220 : p67 with
      | true =>
       intro h; replace h := cT h
       refine WC.ct rfl ?_
       refine WC.seq ?_
       refine WC.rs [(0, 2)] rfl ?_
       refine WO.pn 1 rfl ?_
       refine WO.fin ?_
       refine DN.seq ?_
       refine WC.ret ?_
       refine DN.retThen ?_
       have f221 := hE.stp (S3.tr (S7.tr (S17.tr (S22.tr (S30.tr (S41.tr (S52.tr (S63.tr (S76.tr (S83.tr (S86.tr (S94.tr (S98.tr (S106.tr (S117.tr (S126.tr (S131.tr (S143.tr (S154.tr (S165.tr (S174.tr (S190.tr (S202.tr S219))))))))))))))))))))))) rfl rfl
       refine DN.res (l := [.tmp 6]) Try.results4 (res_tmp rfl rfl) rfl ?_
       obtain rfl := Option.some.inj h
       exact ⟨K218, rfl, f221⟩
      | false =>
       intro h; replace h := cF h
       refine WC.cf rfl ?_
       refine WC.skip ?_
       refine DN.seq ?_
       refine WC.seq ?_
       refine WC.rs [(0, 2)] rfl ?_
       refine WO.pn 1 rfl ?_
       refine WO.fin ?_
       refine DN.seq ?_
       refine WC.seq ?_
       refine WC.rs [(0, 2), (1, 2), (2, 1), (3, 2)] rfl ?_
       refine WO.pn 2 rfl ?_
       obtain ⟨x70, hx70, h⟩ := Option.bind_eq_some_iff.mp h
       have f222 := f120.stp (S126.tr (S131.tr (S143.tr (S154.tr (S165.tr (S174.tr (S190.tr (S202.tr S219)))))))) rfl rfl
       refine WO.call rfl rfl rfl rfl rfl rfl Try.call26 (l_markInt64S_ok (κ := fun b => mp [(30, 2)] 0 (K218 b)) (f222.map (mp [(30, 2)] 0) rfl rfl) hx70) ?_
       rintro _ w223 ⟨k224, rfl, e225, f226, hn227⟩
       obtain ⟨K228, S229, m230⟩ := Ent.mixed (l := [(30, 2)]) (κ := K218) e225 51 rfl
       refine ⟨trivial, ?_⟩
       have f232 := f226.mx (no_int _) m230 rfl (rfl : 51 + 2 = 53)
       refine WO.pn 1 rfl ?_
       refine WO.fin ?_
       refine DN.seq ?_
       refine WC.seq ?_
       refine WC.rs [(0, 2)] rfl ?_
       refine WO.pn 1 rfl ?_
       refine WO.fin ?_
       refine DN.seq ?_
       refine WC.seq ?_
       refine WC.rs [(0, 2), (1, 2), (2, 1), (3, 2)] rfl ?_
       refine WO.pn 2 rfl ?_
       obtain ⟨x73, hx73, h⟩ := Option.bind_eq_some_iff.mp h
       refine WO.call rfl rfl rfl rfl rfl rfl Try.call27 (Ret.cast (by simp only [(hn227)]) (l_heldInt64S_ok (κ := fun b => mp [] 0 (K228 b)) (Sl.map f232.rdc (mp [] 0) rfl rfl) hx73)) ?_
       rintro _ w233 ⟨k234, rfl, e235⟩
       obtain ⟨K236, S237, m238⟩ := Ent.mixed (l := []) (κ := K228) e235 54 rfl
       refine ⟨trivial, ?_⟩
       refine WO.pn 1 rfl ?_
       refine WO.fin ?_
       refine DN.seq ?_
       refine WC.seq ?_
       refine WC.seq ?_
       refine WC.rs [(0, 2), (1, 2)] rfl ?_
       refine WO.pn 2 rfl ?_
       refine WO.fin ?_
       refine DN.seq ?_
       revert h
       cases ht240 : decide (x73 < 0) with
       | true =>
        intro h; replace h := cT h
        refine WC.ct rfl ?_
        refine WC.seq ?_
        refine WC.rs [(0, 2)] rfl ?_
        refine WO.pn 1 rfl ?_
        refine WO.fin ?_
        refine DN.seq ?_
        refine WC.ret ?_
        refine DN.retThen ?_
        have f241 := hE.stp (S3.tr (S7.tr (S17.tr (S22.tr (S30.tr (S41.tr (S52.tr (S63.tr (S76.tr (S83.tr (S86.tr (S94.tr (S98.tr (S106.tr (S117.tr (S126.tr (S131.tr (S143.tr (S154.tr (S165.tr (S174.tr (S190.tr (S202.tr (S219.tr (S229.tr S237))))))))))))))))))))))))) rfl rfl
        refine DN.res (l := [.tmp 6]) Try.results4 (res_tmp rfl rfl) rfl ?_
        obtain rfl := Option.some.inj h
        exact ⟨K236, rfl, f241⟩
       | false =>
        intro h; replace h := cF h
        refine WC.cf rfl ?_
        refine WC.skip ?_
        refine DN.seq ?_
        refine WC.seq ?_
        refine WC.seq ?_
        refine WC.rs [(0, 2), (1, 2), (2, 2)] rfl ?_
        refine WO.pn 3 rfl ?_
        refine WO.fin ?_
        refine DN.seq ?_
        revert h
        cases ht242 : (x73 != x70.1) with
        | true =>
         intro h; replace h := cT h
         refine WC.ct rfl ?_
         refine WC.seq ?_
         refine WC.rs [(0, 2)] rfl ?_
         refine WO.pn 1 rfl ?_
         refine WO.fin ?_
         refine DN.seq ?_
         refine WC.ret ?_
         refine DN.retThen ?_
         have f243 := hE.stp (S3.tr (S7.tr (S17.tr (S22.tr (S30.tr (S41.tr (S52.tr (S63.tr (S76.tr (S83.tr (S86.tr (S94.tr (S98.tr (S106.tr (S117.tr (S126.tr (S131.tr (S143.tr (S154.tr (S165.tr (S174.tr (S190.tr (S202.tr (S219.tr (S229.tr S237))))))))))))))))))))))))) rfl rfl
         refine DN.res (l := [.tmp 6]) Try.results4 (res_tmp rfl rfl) rfl ?_
         obtain rfl := Option.some.inj h
         exact ⟨K236, rfl, f243⟩
        | false =>
         intro h; replace h := cF h
         refine WC.cf rfl ?_
         refine WC.skip ?_
         refine DN.seq ?_
         refine WC.seq ?_
         refine WC.rx (κ := K236) 55 none [(4, 2), (0, 0), (2, 0), (1, 1), (3, 1), (5, 1), (6, 1), (7, 2)] [] (by kernel_rfl) (by kernel_rfl) fun w245 S244 => ?_
         refine WO.pn 1 rfl ?_
         have f246 := f100.stp (S106.tr (S117.tr (S126.tr (S131.tr (S143.tr (S154.tr (S165.tr (S174.tr (S190.tr (S202.tr (S219.tr (S229.tr (S237.tr S244))))))))))))) rfl rfl
         refine WO.k0 rfl rfl rfl rfl (rn_la (cs := [.int .i64 p0.In, .int .i64 p0.Out]) Try.isAgg23 Try.sizeOf23 rfl rfl rfl (haC f246.cells rfl)) ?_
         have f247 := f134.stp (S143.tr (S154.tr (S165.tr (S174.tr (S190.tr (S202.tr (S219.tr (S229.tr (S237.tr S244))))))))) rfl rfl
         refine WO.k0 rfl rfl rfl rfl (rn_la (cs := [.slice a1_0 p1.In.length u1_0, .slice a1_1 p1.Next.length u1_1]) Try.isAgg27 Try.sizeOf27 rfl rfl rfl (haC f247.cells rfl)) ?_
         obtain ⟨x80, hx80, h⟩ := Option.bind_eq_some_iff.mp h
         refine WO.call rfl rfl rfl rfl rfl rfl Try.call17 (l_toSig_ok (κ := fun b => mp [] 0 (K236 b)) hx80) ?_
         rintro _ w248 ⟨k249, rfl, e250⟩
         obtain ⟨K251, S252, m253⟩ := Ent.mixed (l := []) (κ := K236) e250 56 rfl
         refine ⟨(S252.cl rfl), ?_⟩
         obtain ⟨x82, hx82, h⟩ := Option.bind_eq_some_iff.mp h
         have f255 := f135.stp (S143.tr (S154.tr (S165.tr (S174.tr (S190.tr (S202.tr (S219.tr (S229.tr (S237.tr (S244.tr S252)))))))))) rfl rfl
         have f256 := f136.stp (S143.tr (S154.tr (S165.tr (S174.tr (S190.tr (S202.tr (S219.tr (S229.tr (S237.tr (S244.tr S252)))))))))) rfl rfl
         refine WO.call rfl rfl rfl rfl rfl rfl Try.call18 (l_toRival_ok (κ := fun b => mp [] 0 (K251 b)) (Sl.map f255 (mp [] 0) rfl rfl) (Sl.map f256 (mp [] 0) rfl rfl) hx82) ?_
         rintro _ w257 ⟨k258, a82_0, u82_0, a82_1, u82_1, rfl, e259, f260, f261⟩
         obtain ⟨K262, S263, m264⟩ := Ent.mixed (l := []) (κ := K251) e259 58 rfl
         refine ⟨((S252.tr S263).cl rfl), ?_⟩
         have f266 := f260.mx (no_int _) m264 rfl (rfl : 58 + 2 = 60)
         have f267 := f261.mx (no_own (no_int _) _) m264 rfl (rfl : 58 + 3 = 61)
         obtain ⟨x84, hx84, h⟩ := Option.bind_eq_some_iff.mp h
         have f268 := f159.stp (S165.tr (S174.tr (S190.tr (S202.tr (S219.tr (S229.tr (S237.tr (S244.tr (S252.tr S263))))))))) rfl rfl
         refine WO.call rfl rfl rfl rfl rfl rfl Try.call22 (l_toInt64S_ok (κ := fun b => mp [] 0 (K262 b)) (Sl.map f268 (mp [] 0) rfl rfl) hx84) ?_
         rintro _ w269 ⟨k270, a84_0, u84_0, rfl, e271, f272⟩
         obtain ⟨K273, S274, m275⟩ := Ent.mixed (l := []) (κ := K262) e271 62 rfl
         refine ⟨((S252.tr (S263.tr S274)).cl rfl), ?_⟩
         have f277 := f272.mx (no_int _) m275 rfl (rfl : 62 + 2 = 64)
         obtain ⟨x85, hx85, h⟩ := Option.bind_eq_some_iff.mp h
         have f278 := f266.stp S274 rfl rfl
         have f279 := f267.stp S274 rfl rfl
         refine WO.call rfl rfl rfl rfl rfl rfl Try.call23 (i_InputsFor_ok (κ := fun b => mp [] 0 (K273 b)) (Sl.map f278.rdc (mp [] 0) rfl rfl) (Sl.map f279.rdc (mp [] 0) rfl rfl) (Sl.map f277.rdc (mp [] 0) rfl rfl) hx85) ?_
         rintro _ w280 ⟨k281, a85_0, u85_0, rfl, e282, f283⟩
         obtain ⟨K284, S285, m286⟩ := Ent.mixed (l := []) (κ := K273) e282 65 rfl
         refine ⟨((S252.tr (S263.tr (S274.tr S285))).cl rfl), ?_⟩
         have f288 := f283.mx (no_int _) m286 rfl (rfl : 65 + 2 = 67)
         refine WO.pn 1 rfl ?_
         refine WO.nx ?_
         refine WO.fin ?_
         refine DN.seq ?_
         refine WC.seq ?_
         refine WC.seq ?_
         refine WC.rs [(0, 2), (1, 2), (2, 1), (3, 2)] rfl ?_
         refine WO.pn 2 rfl ?_
         obtain ⟨x88, hx88, h⟩ := Option.bind_eq_some_iff.mp h
         have f289 := f121.stp (S126.tr (S131.tr (S143.tr (S154.tr (S165.tr (S174.tr (S190.tr (S202.tr (S219.tr (S229.tr (S237.tr (S244.tr (S252.tr (S263.tr (S274.tr S285))))))))))))))) rfl rfl
         refine WO.call rfl rfl rfl rfl rfl rfl Try.call24 (l_eqInt64S_ok (κ := fun b => mp [] 0 (K284 b)) (Sl.map f288.rdc (mp [] 0) rfl rfl) (Sl.map f289.rdc (mp [] 0) rfl rfl) hx88) ?_
         rintro _ w290 ⟨k291, rfl, e292⟩
         obtain ⟨K293, S294, m295⟩ := Ent.mixed (l := []) (κ := K284) e292 68 rfl
         refine ⟨trivial, ?_⟩
         refine WO.pn 1 rfl ?_
         refine WO.fin ?_
         refine DN.seq ?_
         revert h
         cases ht297 : (!x88) with
         | true =>
          intro h; replace h := cT h
          refine WC.ct rfl ?_
          refine WC.seq ?_
          refine WC.rs [(0, 2)] rfl ?_
          refine WO.pn 1 rfl ?_
          refine WO.fin ?_
          refine DN.seq ?_
          refine WC.ret ?_
          refine DN.retThen ?_
          have f298 := hE.stp (S3.tr (S7.tr (S17.tr (S22.tr (S30.tr (S41.tr (S52.tr (S63.tr (S76.tr (S83.tr (S86.tr (S94.tr (S98.tr (S106.tr (S117.tr (S126.tr (S131.tr (S143.tr (S154.tr (S165.tr (S174.tr (S190.tr (S202.tr (S219.tr (S229.tr (S237.tr (S244.tr (S252.tr (S263.tr (S274.tr (S285.tr S294))))))))))))))))))))))))))))))) rfl rfl
          refine DN.res (l := [.tmp 6]) Try.results4 (res_tmp rfl rfl) rfl ?_
          obtain rfl := Option.some.inj h
          exact ⟨K293, rfl, f298⟩
         | false =>
          intro h; replace h := cF h
          refine WC.cf rfl ?_
          refine WC.skip ?_
          refine DN.seq ?_
          refine WC.seq ?_
          refine WC.rs [(0, 2)] rfl ?_
          refine WO.pn 1 rfl ?_
          refine WO.fin ?_
          refine DN.seq ?_
          refine WC.seq ?_
          refine WC.rs [(0, 2), (1, 2), (2, 1), (3, 2)] rfl ?_
          refine WO.pn 2 rfl ?_
          obtain ⟨x92, hx92, h⟩ := Option.bind_eq_some_iff.mp h
          have f299 := f232.stp (S237.tr (S244.tr (S252.tr (S263.tr (S274.tr (S285.tr S294)))))) rfl rfl
          refine WO.call rfl rfl rfl rfl rfl rfl Try.call27 (Ret.cast (by simp only [(hn227)]) (l_heldInt64S_ok (κ := fun b => mp [] 0 (K293 b)) (Sl.map f299.rdc (mp [] 0) rfl rfl) hx92)) ?_
          rintro _ w300 ⟨k301, rfl, e302⟩
          obtain ⟨K303, S304, m305⟩ := Ent.mixed (l := []) (κ := K293) e302 70 rfl
          refine ⟨trivial, ?_⟩
          refine WO.pn 1 rfl ?_
          refine WO.fin ?_
          refine DN.seq ?_
          refine WC.seq ?_
          refine WC.seq ?_
          refine WC.rs [(0, 2), (1, 2)] rfl ?_
          refine WO.pn 2 rfl ?_
          refine WO.fin ?_
          refine DN.seq ?_
          revert h
          cases ht307 : decide (x92 < 0) with
          | true =>
           intro h; replace h := cT h
           refine WC.ct rfl ?_
           refine WC.seq ?_
           refine WC.rs [(0, 2)] rfl ?_
           refine WO.pn 1 rfl ?_
           refine WO.fin ?_
           refine DN.seq ?_
           refine WC.ret ?_
           refine DN.retThen ?_
           have f308 := hE.stp (S3.tr (S7.tr (S17.tr (S22.tr (S30.tr (S41.tr (S52.tr (S63.tr (S76.tr (S83.tr (S86.tr (S94.tr (S98.tr (S106.tr (S117.tr (S126.tr (S131.tr (S143.tr (S154.tr (S165.tr (S174.tr (S190.tr (S202.tr (S219.tr (S229.tr (S237.tr (S244.tr (S252.tr (S263.tr (S274.tr (S285.tr (S294.tr S304)))))))))))))))))))))))))))))))) rfl rfl
           refine DN.res (l := [.tmp 6]) Try.results4 (res_tmp rfl rfl) rfl ?_
           obtain rfl := Option.some.inj h
           exact ⟨K303, rfl, f308⟩
          | false =>
           intro h; replace h := cF h
           refine WC.cf rfl ?_
           refine WC.skip ?_
           refine DN.seq ?_
           refine WC.seq ?_
           refine WC.seq ?_
           refine WC.rs [(0, 2), (1, 2), (2, 2)] rfl ?_
           refine WO.pn 3 rfl ?_
           refine WO.fin ?_
           refine DN.seq ?_
           revert h
           cases ht309 : (x92 != x70.1) with
           | true =>
            intro h; replace h := cT h
            refine WC.ct rfl ?_
            refine WC.seq ?_
            refine WC.rs [(0, 2)] rfl ?_
            refine WO.pn 1 rfl ?_
            refine WO.fin ?_
            refine DN.seq ?_
            refine WC.ret ?_
            refine DN.retThen ?_
            have f310 := hE.stp (S3.tr (S7.tr (S17.tr (S22.tr (S30.tr (S41.tr (S52.tr (S63.tr (S76.tr (S83.tr (S86.tr (S94.tr (S98.tr (S106.tr (S117.tr (S126.tr (S131.tr (S143.tr (S154.tr (S165.tr (S174.tr (S190.tr (S202.tr (S219.tr (S229.tr (S237.tr (S244.tr (S252.tr (S263.tr (S274.tr (S285.tr (S294.tr S304)))))))))))))))))))))))))))))))) rfl rfl
            refine DN.res (l := [.tmp 6]) Try.results4 (res_tmp rfl rfl) rfl ?_
            obtain rfl := Option.some.inj h
            exact ⟨K303, rfl, f310⟩
           | false =>
            intro h; replace h := cF h
            refine WC.cf rfl ?_
            refine WC.skip ?_
            refine DN.seq ?_
            refine WC.seq ?_
            refine WC.rs [(0, 2)] rfl ?_
            refine WO.pn 1 rfl ?_
            refine WO.fin ?_
            refine DN.seq ?_
            refine WC.ret ?_
            have f311 := hE.stp (S3.tr (S7.tr (S17.tr (S22.tr (S30.tr (S41.tr (S52.tr (S63.tr (S76.tr (S83.tr (S86.tr (S94.tr (S98.tr (S106.tr (S117.tr (S126.tr (S131.tr (S143.tr (S154.tr (S165.tr (S174.tr (S190.tr (S202.tr (S219.tr (S229.tr (S237.tr (S244.tr (S252.tr (S263.tr (S274.tr (S285.tr (S294.tr S304)))))))))))))))))))))))))))))))) rfl rfl
            refine DN.res (l := [.tmp 6]) Try.results4 (res_tmp rfl rfl) rfl ?_
            obtain rfl := Option.some.inj h
            exact ⟨K303, rfl, f311⟩

end Go.Proofs.Ytgniipbjjkodaaa
