/- The walks, part 5. By program. -/
import Derived.Test.YtnmjfjppgpkieaaFnsW44
set_option linter.unusedVariables false
set_option linter.unusedSimpArgs false
namespace Go.Proofs.Ytnmjfjppgpkieaa
open Go Go.Wk Go.Proofs
set_option maxRecDepth 100000
set_option maxHeartbeats 1000000

/- loop.example/g00869/laws.FnExactWatchOf -/
theorem l_FnExactWatchOf_ok {w : World} {κ : Col} {p0 : Sig} {a1_0 : Option Addr} {u1_0 : Nat} {a1_1 : Option Addr} {u1_1 : Nat} {p1 : Machine} {a2_0 : Option Addr} {u2_0 : Nat} {a2_1 : Option Addr} {u2_1 : Nat} {p2 : Det} (g1_0 : Rd (Rp.sl (Rp.int .i64)) κ w 0 a1_0 u1_0 p1.Next) (g1_1 : Rd (Rp.sl (Rp.int .i64)) κ w 0 a1_1 u1_1 p1.Out) (g2_0 : Rd (Rp.sl (Rp.int .i64)) κ w 0 a2_0 u2_0 p2.Next) (g2_1 : Rd Pair.rp κ w 0 a2_1 u2_1 p2.Pairs) {r : Bool} (h : l_FnExactWatchOf p0 p1 p2 = some r) : Ret Try.prog 4 [.agg #[.int .i64 p0.In, .int .i64 p0.Out], .agg #[.slice a1_0 p1.Next.length u1_0, .slice a1_1 p1.Out.length u1_1], .agg #[.slice a2_0 p2.Next.length u2_0, .slice a2_1 p2.Pairs.length u2_1]] w (fun v w' => ∃ (κ' : Col), v = .bool r ∧ Ent κ w κ' w') := by
 unfold l_FnExactWatchOf at h
 refine Ret.enter Try.func4 rfl Try.ntmps4 rfl ?_
 dsimp only [envOf]
 have hE := Ent.refl κ w
 refine WC.seq ?_
 refine WC.rs [(0, 1), (1, 1), (2, 1), (3, 2)] rfl ?_
 refine WO.box (κ := κ) 2 rfl rfl rfl rfl rfl rfl rfl fun b3 w1 K2 S3 f4 => ⟨trivial, ?_⟩
 refine WO.box (κ := K2) 3 rfl rfl rfl rfl rfl rfl rfl fun b4 w5 K6 S7 f8 => ⟨trivial, ?_⟩
 refine WO.box (κ := K6) 4 rfl rfl rfl rfl rfl rfl rfl fun b5 w9 K10 S11 f12 => ⟨trivial, ?_⟩
 refine WO.pn 1 rfl ?_
 refine WO.fin ?_
 refine DN.seq ?_
 refine WC.seq ?_
 refine WC.rs [(0, 2)] rfl ?_
 refine WO.pn 1 rfl ?_
 refine WO.fin ?_
 refine DN.seq ?_
 refine WC.seq ?_
 refine WC.rs [(0, 1), (1, 2), (2, 1), (3, 2)] rfl ?_
 have f13 := f8.stp S11 rfl rfl
 refine WO.k1 trivial rfl rfl rfl rfl (rn_la (cs := [.slice a1_0 p1.Next.length u1_0, .slice a1_1 p1.Out.length u1_1]) Try.isAgg26 Try.sizeOf26 rfl rfl rfl (haE f13.cells)) ?_
 refine WO.pn 1 rfl ?_
 obtain ⟨x24, hx24, h⟩ := Option.bind_eq_some_iff.mp h
 have f14 := g1_0.stp (S3.tr (S7.tr S11)) rfl rfl
 have f15 := g1_1.stp (S3.tr (S7.tr S11)) rfl rfl
 refine WO.call rfl rfl rfl rfl rfl rfl Try.call7 (l_szMachine_ok (κ := fun b => mp [] 0 (K10 b)) (p0 := p1) (Sl.map f14 (mp [] 0) rfl rfl) (Sl.map f15 (mp [] 0) rfl rfl) hx24) ?_
 rintro _ w16 ⟨k17, rfl, e18⟩
 obtain ⟨K19, S20, m21⟩ := Ent.mixed (l := []) (κ := K10) e18 5 rfl
 refine ⟨trivial, ?_⟩
 refine WO.pn 1 rfl ?_
 refine WO.fin ?_
 refine DN.seq ?_
 refine WC.seq ?_
 refine WC.seq ?_
 refine WC.rs [(0, 2), (1, 2)] rfl ?_
 refine WO.pn 2 rfl ?_
 refine WO.fin ?_
 refine DN.seq ?_
 revert h
 cases ht23 : decide (x24 < 0) with
 | true =>
  intro h; replace h := cT h
  refine WC.ct rfl ?_
  refine WC.seq ?_
  refine WC.rs [(0, 2)] rfl ?_
  refine WO.pn 1 rfl ?_
  refine WO.fin ?_
  refine DN.seq ?_
  refine WC.ret ?_
  refine DN.retThen ?_
  have f24 := hE.stp (S3.tr (S7.tr (S11.tr S20))) rfl rfl
  refine DN.res (l := [.tmp 6]) Try.results4 (res_tmp rfl rfl) rfl ?_
  obtain rfl := Option.some.inj h
  exact ⟨K19, rfl, f24⟩
 | false =>
  intro h; replace h := cF h
  refine WC.cf rfl ?_
  refine WC.skip ?_
  refine DN.seq ?_
  refine WC.seq ?_
  refine WC.rs [(0, 1), (1, 2), (2, 1), (3, 2)] rfl ?_
  have f25 := f12.stp S20 rfl rfl
  refine WO.k1 trivial rfl rfl rfl rfl (rn_la (cs := [.slice a2_0 p2.Next.length u2_0, .slice a2_1 p2.Pairs.length u2_1]) Try.isAgg49 Try.sizeOf49 rfl rfl rfl (haE f25.cells)) ?_
  refine WO.pn 1 rfl ?_
  obtain ⟨x29, hx29, h⟩ := Option.bind_eq_some_iff.mp h
  have f26 := g2_0.stp (S3.tr (S7.tr (S11.tr S20))) rfl rfl
  have f27 := g2_1.stp (S3.tr (S7.tr (S11.tr S20))) rfl rfl
  refine WO.call rfl rfl rfl rfl rfl rfl Try.call19 (l_szDet_ok (κ := fun b => mp [] 0 (K19 b)) (p0 := p2) (Sl.map f26 (mp [] 0) rfl rfl) (Sl.map f27 (mp [] 0) rfl rfl) hx29) ?_
  rintro _ w28 ⟨k29, rfl, e30⟩
  obtain ⟨K31, S32, m33⟩ := Ent.mixed (l := []) (κ := K19) e30 7 rfl
  refine ⟨trivial, ?_⟩
  refine WO.pn 1 rfl ?_
  refine WO.fin ?_
  refine DN.seq ?_
  refine WC.seq ?_
  refine WC.seq ?_
  refine WC.rs [(0, 2), (1, 2)] rfl ?_
  refine WO.pn 2 rfl ?_
  refine WO.fin ?_
  refine DN.seq ?_
  revert h
  cases ht35 : decide (x29 < 0) with
  | true =>
   intro h; replace h := cT h
   refine WC.ct rfl ?_
   refine WC.seq ?_
   refine WC.rs [(0, 2)] rfl ?_
   refine WO.pn 1 rfl ?_
   refine WO.fin ?_
   refine DN.seq ?_
   refine WC.ret ?_
   refine DN.retThen ?_
   have f36 := hE.stp (S3.tr (S7.tr (S11.tr (S20.tr S32)))) rfl rfl
   refine DN.res (l := [.tmp 6]) Try.results4 (res_tmp rfl rfl) rfl ?_
   obtain rfl := Option.some.inj h
   exact ⟨K31, rfl, f36⟩
  | false =>
   intro h; replace h := cF h
   refine WC.cf rfl ?_
   refine WC.skip ?_
   refine DN.seq ?_
   refine WC.seq ?_
   refine WC.rx (κ := K31) [2, 3, 4] none [(0, 0), (2, 0), (4, 0), (1, 1), (3, 1), (5, 1), (6, 1), (7, 2), (8, 2), (9, 2), (10, 2), (11, 2), (12, 2), (13, 2)] [] (by kernel_rfl) (by kernel_rfl) fun w38 S37 => ?_
   have f39 := f4.stp (S7.tr (S11.tr (S20.tr (S32.tr S37)))) rfl rfl
   refine WO.k0 rfl rfl rfl rfl (rn_la (cs := [.int .i64 p0.In, .int .i64 p0.Out]) Try.isAgg23 Try.sizeOf23 rfl rfl rfl (haC f39.cells rfl)) ?_
   have f40 := f13.stp (S20.tr (S32.tr S37)) rfl rfl
   refine WO.k0 rfl rfl rfl rfl (rn_la (cs := [.slice a1_0 p1.Next.length u1_0, .slice a1_1 p1.Out.length u1_1]) Try.isAgg26 Try.sizeOf26 rfl rfl rfl (haC f40.cells rfl)) ?_
   have f41 := f25.stp (S32.tr S37) rfl rfl
   refine WO.k0 rfl rfl rfl rfl (rn_la (cs := [.slice a2_0 p2.Next.length u2_0, .slice a2_1 p2.Pairs.length u2_1]) Try.isAgg49 Try.sizeOf49 rfl rfl rfl (haC f41.cells rfl)) ?_
   obtain ⟨x34, hx34, h⟩ := Option.bind_eq_some_iff.mp h
   refine WO.call rfl rfl rfl rfl rfl rfl Try.call11 (l_toSig_ok (κ := fun b => mp [] 0 (K31 b)) (p0 := p0) hx34) ?_
   rintro _ w42 ⟨k43, rfl, e44⟩
   obtain ⟨K45, S46, m47⟩ := Ent.mixed (l := []) (κ := K31) e44 9 rfl
   refine ⟨(S46.cl rfl), ?_⟩
   obtain ⟨x36, hx36, h⟩ := Option.bind_eq_some_iff.mp h
   have f49 := f14.stp (S20.tr (S32.tr (S37.tr S46))) rfl rfl
   have f50 := f15.stp (S20.tr (S32.tr (S37.tr S46))) rfl rfl
   refine WO.call rfl rfl rfl rfl rfl rfl Try.call12 (l_toMachine_ok (κ := fun b => mp [] 0 (K45 b)) (p0 := p1) (Sl.map f49 (mp [] 0) rfl rfl) (Sl.map f50 (mp [] 0) rfl rfl) hx36) ?_
   rintro _ w51 ⟨k52, a36_0, u36_0, a36_1, u36_1, rfl, e53, f54, f55⟩
   obtain ⟨K56, S57, m58⟩ := Ent.mixed (l := []) (κ := K45) e53 11 rfl
   refine ⟨((S46.tr S57).cl rfl), ?_⟩
   have f60 := f54.mx (no_own (no_int _) _) m58 rfl (rfl : 11 + 2 = 13)
   have f61 := f55.mx (no_own (no_int _) _) m58 rfl (rfl : 11 + 3 = 14)
   obtain ⟨x38, hx38, h⟩ := Option.bind_eq_some_iff.mp h
   have f62 := f26.stp (S32.tr (S37.tr (S46.tr S57))) rfl rfl
   have f63 := f27.stp (S32.tr (S37.tr (S46.tr S57))) rfl rfl
   refine WO.call rfl rfl rfl rfl rfl rfl Try.call21 (l_toDet_ok (κ := fun b => mp [] 0 (K56 b)) (p0 := p2) (Sl.map f62 (mp [] 0) rfl rfl) (Sl.map f63 (mp [] 0) rfl rfl) hx38) ?_
   rintro _ w64 ⟨k65, a38_0, u38_0, a38_1, u38_1, rfl, e66, f67, f68⟩
   obtain ⟨K69, S70, m71⟩ := Ent.mixed (l := []) (κ := K56) e66 15 rfl
   refine ⟨((S46.tr (S57.tr S70)).cl rfl), ?_⟩
   have f73 := f67.mx (no_own (no_int _) _) m71 rfl (rfl : 15 + 2 = 17)
   have f74 := f68.mx Pair.no113 m71 rfl (rfl : 15 + 3 = 18)
   obtain ⟨x39, hx39, h⟩ := Option.bind_eq_some_iff.mp h
   have f75 := f60.stp S70 rfl rfl
   have f76 := f61.stp S70 rfl rfl
   refine WO.call rfl rfl rfl rfl rfl rfl Try.call20 (s_WatchOf_ok (κ := fun b => mp [] 0 (K69 b)) (p0 := x34) (p1 := x36) (p2 := x38) (Sl.map f75.rdc (mp [] 0) rfl rfl) (Sl.map f76.rdc (mp [] 0) rfl rfl) (Sl.map f73.rdc (mp [] 0) rfl rfl) (Sl.map f74.rdc (mp [] 0) rfl rfl) hx39) ?_
   rintro _ w77 ⟨k78, a39_0, u39_0, a39_1, u39_1, rfl, e79, f80, f81⟩
   obtain ⟨K82, S83, m84⟩ := Ent.mixed (l := []) (κ := K69) e79 19 rfl
   refine ⟨((S46.tr (S57.tr (S70.tr S83))).cl rfl), ?_⟩
   have f86 := f80.mx (no_own (no_int _) _) m84 rfl (rfl : 19 + 2 = 21)
   have f87 := f81.mx Pair.no113 m84 rfl (rfl : 19 + 3 = 22)
   refine WO.pn 7 rfl ?_
   refine WO.nx ?_
   refine WO.fin ?_
   refine DN.seq ?_
   refine WC.seq ?_
   refine WC.rs [(0, 1), (1, 1), (2, 1), (3, 1)] rfl ?_
   have f88 := f40.stp (S46.tr (S57.tr (S70.tr S83))) rfl rfl
   refine WO.k1 trivial rfl rfl rfl rfl (rn_la (cs := [.slice a1_0 p1.Next.length u1_0, .slice a1_1 p1.Out.length u1_1]) Try.isAgg26 Try.sizeOf26 rfl rfl rfl (haE f88.cells)) ?_
   obtain ⟨x44, hx44, h⟩ := Option.bind_eq_some_iff.mp h
   have f89 := f49.stp (S57.tr (S70.tr S83)) rfl rfl
   have f90 := f50.stp (S57.tr (S70.tr S83)) rfl rfl
   refine WO.call rfl rfl rfl rfl rfl rfl Try.call12 (l_toMachine_ok (κ := fun b => mp [] 0 (K82 b)) (p0 := p1) (Sl.map f89 (mp [] 0) rfl rfl) (Sl.map f90 (mp [] 0) rfl rfl) hx44) ?_
   rintro _ w91 ⟨k92, a44_0, u44_0, a44_1, u44_1, rfl, e93, f94, f95⟩
   obtain ⟨K96, S97, m98⟩ := Ent.mixed (l := []) (κ := K82) e93 23 rfl
   refine ⟨trivial, ?_⟩
   have f100 := f94.mx (no_own (no_int _) _) m98 rfl (rfl : 23 + 2 = 25)
   have f101 := f95.mx (no_own (no_int _) _) m98 rfl (rfl : 23 + 3 = 26)
   refine WO.alloc (κ := K96) 27 rfl rfl rfl rfl rfl Try.zeroValue37 rfl fun b11 w102 K103 S104 f105 => ⟨trivial, ?_⟩
   refine WO.stB0 (κ := K103) 27 (vc := [.slice a44_0 x44.Next.length u44_0, .slice a44_1 x44.Out.length u44_1]) rfl rfl rfl rfl rfl rfl rfl Try.sizeOf37 rfl rfl f105 rfl fun w106 S107 f108 => ⟨trivial, ?_⟩
   refine WO.fin ?_
   refine DN.seq ?_
   refine WC.seq ?_
   refine WC.rs [(0, 1), (1, 1), (2, 1), (3, 1)] rfl ?_
   have f109 := f41.stp (S46.tr (S57.tr (S70.tr (S83.tr (S97.tr (S104.tr S107)))))) rfl rfl
   refine WO.k1 trivial rfl rfl rfl rfl (rn_la (cs := [.slice a2_0 p2.Next.length u2_0, .slice a2_1 p2.Pairs.length u2_1]) Try.isAgg49 Try.sizeOf49 rfl rfl rfl (haE f109.cells)) ?_
   obtain ⟨x46, hx46, h⟩ := Option.bind_eq_some_iff.mp h
   have f110 := f62.stp (S70.tr (S83.tr (S97.tr (S104.tr S107)))) rfl rfl
   have f111 := f63.stp (S70.tr (S83.tr (S97.tr (S104.tr S107)))) rfl rfl
   refine WO.call rfl rfl rfl rfl rfl rfl Try.call21 (l_toDet_ok (κ := fun b => mp [] 0 (K103 b)) (p0 := p2) (Sl.map f110 (mp [] 0) rfl rfl) (Sl.map f111 (mp [] 0) rfl rfl) hx46) ?_
   rintro _ w112 ⟨k113, a46_0, u46_0, a46_1, u46_1, rfl, e114, f115, f116⟩
   obtain ⟨K117, S118, m119⟩ := Ent.mixed (l := []) (κ := K103) e114 28 rfl
   refine ⟨trivial, ?_⟩
   have f121 := f115.mx (no_own (no_int _) _) m119 rfl (rfl : 28 + 2 = 30)
   have f122 := f116.mx Pair.no113 m119 rfl (rfl : 28 + 3 = 31)
   refine WO.alloc (κ := K117) 32 rfl rfl rfl rfl rfl Try.zeroValue55 rfl fun b12 w123 K124 S125 f126 => ⟨trivial, ?_⟩
   refine WO.stB0 (κ := K124) 32 (vc := [.slice a46_0 x46.Next.length u46_0, .slice a46_1 x46.Pairs.length u46_1]) rfl rfl rfl rfl rfl rfl rfl Try.sizeOf55 rfl rfl f126 rfl fun w127 S128 f129 => ⟨trivial, ?_⟩
   refine WO.fin ?_
   refine DN.seq ?_
   refine WC.seq ?_
   refine WC.rx (κ := K124) [2, 27, 32] none [(0, 0), (2, 0), (3, 0), (1, 1), (4, 1), (5, 2), (6, 2), (7, 2), (8, 2), (9, 2), (10, 2), (11, 2)] [] (by kernel_rfl) (by kernel_rfl) fun w131 S130 => ?_
   have f132 := f39.stp (S46.tr (S57.tr (S70.tr (S83.tr (S97.tr (S104.tr (S107.tr (S118.tr (S125.tr (S128.tr S130)))))))))) rfl rfl
   refine WO.k0 rfl rfl rfl rfl (rn_la (cs := [.int .i64 p0.In, .int .i64 p0.Out]) Try.isAgg23 Try.sizeOf23 rfl rfl rfl (haC f132.cells rfl)) ?_
   have f133 := f108.stp (S118.tr (S125.tr (S128.tr S130))) rfl rfl
   refine WO.k0 rfl rfl rfl rfl (rn_la (cs := [.slice a44_0 x44.Next.length u44_0, .slice a44_1 x44.Out.length u44_1]) Try.isAgg37 Try.sizeOf37 rfl rfl rfl (haC f133.cells rfl)) ?_
   have f134 := f129.stp S130 rfl rfl
   refine WO.k0 rfl rfl rfl rfl (rn_la (cs := [.slice a46_0 x46.Next.length u46_0, .slice a46_1 x46.Pairs.length u46_1]) Try.isAgg55 Try.sizeOf55 rfl rfl rfl (haC f134.cells rfl)) ?_
   obtain ⟨x49, hx49, h⟩ := Option.bind_eq_some_iff.mp h
   refine WO.call rfl rfl rfl rfl rfl rfl Try.call11 (l_toSig_ok (κ := fun b => mp [] 0 (K124 b)) (p0 := p0) hx49) ?_
   rintro _ w135 ⟨k136, rfl, e137⟩
   obtain ⟨K138, S139, m140⟩ := Ent.mixed (l := []) (κ := K124) e137 33 rfl
   refine ⟨(S139.cl rfl), ?_⟩
   obtain ⟨x52, hx52, h⟩ := Option.bind_eq_some_iff.mp h
   have f142 := f100.stp (S104.tr (S107.tr (S118.tr (S125.tr (S128.tr (S130.tr S139)))))) rfl rfl
   have f143 := f101.stp (S104.tr (S107.tr (S118.tr (S125.tr (S128.tr (S130.tr S139)))))) rfl rfl
   have f144 := f121.stp (S125.tr (S128.tr (S130.tr S139))) rfl rfl
   have f145 := f122.stp (S125.tr (S128.tr (S130.tr S139))) rfl rfl
   refine WO.call rfl rfl rfl rfl rfl rfl Try.call22 (i_WatchOf_ok (κ := fun b => mp [] 0 (K138 b)) (p0 := x49) (p1 := x44) (p2 := x46) (Sl.map f142.rdc (mp [] 0) rfl rfl) (Sl.map f143.rdc (mp [] 0) rfl rfl) (Sl.map f144.rdc (mp [] 0) rfl rfl) (Sl.map f145.rdc (mp [] 0) rfl rfl) hx52) ?_
   rintro _ w146 ⟨k147, a52_0, u52_0, a52_1, u52_1, rfl, e148, f149, f150⟩
   obtain ⟨K151, S152, m153⟩ := Ent.mixed (l := []) (κ := K138) e148 35 rfl
   refine ⟨((S139.tr S152).cl rfl), ?_⟩
   have f155 := f149.mx (no_own (no_int _) _) m153 rfl (rfl : 35 + 2 = 37)
   have f156 := f150.mx Pair.no113 m153 rfl (rfl : 35 + 3 = 38)
   refine WO.pn 7 rfl ?_
   refine WO.nx ?_
   refine WO.fin ?_
   refine DN.seq ?_
   refine WC.seq ?_
   refine WC.seq ?_
   refine WC.rs [(0, 2), (1, 2), (2, 1), (3, 2), (4, 2), (5, 2), (6, 2), (7, 1), (8, 2), (9, 2), (10, 2), (11, 2), (12, 2), (13, 2), (14, 2)] rfl ?_
   refine WO.pn 2 rfl ?_
   obtain ⟨x58, hx58, h⟩ := Option.bind_eq_some_iff.mp h
   have f157 := f86.stp (S97.tr (S104.tr (S107.tr (S118.tr (S125.tr (S128.tr (S130.tr (S139.tr S152)))))))) rfl rfl
   refine WO.call rfl rfl rfl rfl rfl rfl Try.call23 (l_eqInt64SS_ok (κ := fun b => mp [] 0 (K151 b)) (Sl.map f155.rdc (mp [] 0) rfl rfl) (Sl.map f157.rdc (mp [] 0) rfl rfl) hx58) ?_
   rintro _ w158 ⟨k159, rfl, e160⟩
   obtain ⟨K161, S162, m163⟩ := Ent.mixed (l := []) (κ := K151) e160 39 rfl
   refine ⟨trivial, ?_⟩
   refine WO.pn 2 rfl ?_
   obtain ⟨p65, h, hK165⟩ := Option.bind_eq_some_iff.mp h
   refine WO.meet [(5, 2), (6, 2), (7, 1), (8, 2), (9, 2)] [(10, 2), (11, 2), (12, 2), (13, 2), (14, 2)] (fun L w' => L = [(3, .pointer (some ⟨b3, 0, none⟩)), (4, .pointer (some ⟨b4, 0, none⟩)), (5, .pointer (some ⟨b5, 0, none⟩)), (8, .slice a39_0 x39.1.length u39_0), (9, .slice a39_1 x39.2.1.length u39_1), (10, .bool x39.2.2), (11, .pointer (some ⟨b11, 0, none⟩)), (12, .pointer (some ⟨b12, 0, none⟩)), (13, .slice a52_0 x52.1.length u52_0), (14, .slice a52_1 x52.2.1.length u52_1), (15, .bool x52.2.2), (65, .bool p65)] ∧ ∃ κ', Stp [] K161 w158 κ' w') trivial ?_ ?_
   ·
    revert h
    cases ht166 : (!x58) with
    | true =>
     intro h; replace h := cT h
     refine WO.pn 2 rfl ?_
     refine WO.ls rfl rfl rfl rfl ?_
     refine WO.pn 2 rfl ?_
     obtain rfl := Option.some.inj h
     exact WO.met _ trivial ⟨rfl, _, (Stp.refl _ _).wk rfl⟩ fun a ha => (ha.more (ha.more (ha.more (ha.more (ha.more (ha.more (ha.more (ha.more (ha.more (ha.more (ha.more (ha.more ha.nil rfl) rfl) rfl) rfl) rfl) rfl) rfl) rfl) rfl) rfl) rfl) rfl)
    | false =>
     intro h; replace h := cF h
     refine WO.pn 2 rfl ?_
     obtain ⟨x63, hx63, h⟩ := Option.bind_eq_some_iff.mp h
     have f167 := f156.stp S162 rfl rfl
     have f168 := f87.stp (S97.tr (S104.tr (S107.tr (S118.tr (S125.tr (S128.tr (S130.tr (S139.tr (S152.tr S162))))))))) rfl rfl
     refine WO.call rfl rfl rfl rfl rfl rfl Try.call24 (l_eqPairS_ok (κ := fun b => mp [] 0 (K161 b)) (Sl.map f167.rdc (mp [] 0) rfl rfl) (Sl.map f168.rdc (mp [] 0) rfl rfl) hx63) ?_
     rintro _ w169 ⟨k170, rfl, e171⟩
     obtain ⟨K172, S173, m174⟩ := Ent.mixed (l := []) (κ := K161) e171 41 rfl
     refine ⟨trivial, ?_⟩
     refine WO.pn 2 rfl ?_
     obtain rfl := Option.some.inj h
     exact WO.met _ trivial ⟨rfl, _, S173.wk rfl⟩ fun a ha => (ha.more (ha.more (ha.more (ha.more (ha.more (ha.more (ha.more (ha.more (ha.more (ha.more (ha.more (ha.more ha.nil rfl) rfl) rfl) rfl) rfl) rfl) rfl) rfl) rfl) rfl) rfl) rfl)
   rintro _ w176 _ ⟨rfl, K177, S178⟩
   have h := hK165
   refine WO.pn 1 rfl ?_
   obtain ⟨p70, h, hK179⟩ := Option.bind_eq_some_iff.mp h
   refine WO.meet [(11, 2), (12, 2), (13, 2), (14, 2)] [] (fun L w' => L = [(3, .pointer (some ⟨b3, 0, none⟩)), (4, .pointer (some ⟨b4, 0, none⟩)), (5, .pointer (some ⟨b5, 0, none⟩)), (8, .slice a39_0 x39.1.length u39_0), (9, .slice a39_1 x39.2.1.length u39_1), (10, .bool x39.2.2), (11, .pointer (some ⟨b11, 0, none⟩)), (12, .pointer (some ⟨b12, 0, none⟩)), (13, .slice a52_0 x52.1.length u52_0), (14, .slice a52_1 x52.2.1.length u52_1), (15, .bool x52.2.2), (70, .bool p70)] ∧ ∃ κ', Stp [] K177 w176 κ' w') trivial ?_ ?_
   ·
    revert h
    cases ht180 : p65 with
    | true =>
     intro h; replace h := cT h
     refine WO.pn 4 rfl ?_
     obtain rfl := Option.some.inj h
     exact WO.met _ trivial ⟨rfl, _, (Stp.refl _ _).wk rfl⟩ fun a ha => (ha.more (ha.more (ha.more (ha.more (ha.more (ha.more (ha.more (ha.more (ha.more (ha.more (ha.more (ha.more ha.nil rfl) rfl) rfl) rfl) rfl) rfl) rfl) rfl) rfl) rfl) rfl) rfl)
    | false =>
     intro h; replace h := cF h
     refine WO.pn 2 rfl ?_
     refine WO.k2 rfl rfl rfl rfl (rn_neqB rfl rfl Try.runUnderlying4 rfl) ?_
     refine WO.pn 1 rfl ?_
     obtain rfl := Option.some.inj h
     exact WO.met _ trivial ⟨rfl, _, (Stp.refl _ _).wk rfl⟩ fun a ha => (ha.more (ha.more (ha.more (ha.more (ha.more (ha.more (ha.more (ha.more (ha.more (ha.more (ha.more (ha.more ha.nil rfl) rfl) rfl) rfl) rfl) rfl) rfl) rfl) rfl) rfl) rfl) rfl)
   rintro _ w181 _ ⟨rfl, K182, S183⟩
   have h := hK179
   refine WO.fin ?_
   refine DN.seq ?_
   revert h
   cases ht184 : p70 with
   | true =>
    intro h; replace h := cT h
    refine WC.ct rfl ?_
    refine WC.seq ?_
    refine WC.rs [(0, 2)] rfl ?_
    refine WO.pn 1 rfl ?_
    refine WO.fin ?_
    refine DN.seq ?_
    refine WC.ret ?_
    refine DN.retThen ?_
    have f185 := hE.stp (S3.tr (S7.tr (S11.tr (S20.tr (S32.tr (S37.tr (S46.tr (S57.tr (S70.tr (S83.tr (S97.tr (S104.tr (S107.tr (S118.tr (S125.tr (S128.tr (S130.tr (S139.tr (S152.tr (S162.tr (S178.tr S183))))))))))))))))))))) rfl rfl
    refine DN.res (l := [.tmp 6]) Try.results4 (res_tmp rfl rfl) rfl ?_
    obtain rfl := Option.some.inj h
    exact ⟨K182, rfl, f185⟩
   | false =>
    intro h; replace h := cF h
    refine WC.cf rfl ?_
    refine WC.skip ?_
    refine DN.seq ?_
    refine WC.seq ?_
    refine WC.seq ?_
    refine WC.rx (κ := K182) [3, 27] none [(0, 0), (1, 0), (2, 1), (3, 1), (4, 2)] [] (by kernel_rfl) (by kernel_rfl) fun w187 S186 => ?_
    have f188 := f133.stp (S139.tr (S152.tr (S162.tr (S178.tr (S183.tr S186))))) rfl rfl
    refine WO.k0 rfl rfl rfl rfl (rn_la (cs := [.slice a44_0 x44.Next.length u44_0, .slice a44_1 x44.Out.length u44_1]) Try.isAgg37 Try.sizeOf37 rfl rfl rfl (haC f188.cells rfl)) ?_
    have f189 := f88.stp (S97.tr (S104.tr (S107.tr (S118.tr (S125.tr (S128.tr (S130.tr (S139.tr (S152.tr (S162.tr (S178.tr (S183.tr S186)))))))))))) rfl rfl
    refine WO.k0 rfl rfl rfl rfl (rn_la (cs := [.slice a1_0 p1.Next.length u1_0, .slice a1_1 p1.Out.length u1_1]) Try.isAgg26 Try.sizeOf26 rfl rfl rfl (haC f189.cells rfl)) ?_
    obtain ⟨x73, hx73, h⟩ := Option.bind_eq_some_iff.mp h
    have f190 := f89.stp (S97.tr (S104.tr (S107.tr (S118.tr (S125.tr (S128.tr (S130.tr (S139.tr (S152.tr (S162.tr (S178.tr (S183.tr S186)))))))))))) rfl rfl
    have f191 := f90.stp (S97.tr (S104.tr (S107.tr (S118.tr (S125.tr (S128.tr (S130.tr (S139.tr (S152.tr (S162.tr (S178.tr (S183.tr S186)))))))))))) rfl rfl
    refine WO.call rfl rfl rfl rfl rfl rfl Try.call12 (l_toMachine_ok (κ := fun b => mp [] 0 (K182 b)) (p0 := p1) (Sl.map f190 (mp [] 0) rfl rfl) (Sl.map f191 (mp [] 0) rfl rfl) hx73) ?_
    rintro _ w192 ⟨k193, a73_0, u73_0, a73_1, u73_1, rfl, e194, f195, f196⟩
    obtain ⟨K197, S198, m199⟩ := Ent.mixed (l := []) (κ := K182) e194 41 rfl
    refine ⟨(S198.cl rfl), ?_⟩
    have f201 := f195.mx (no_own (no_int _) _) m199 rfl (rfl : 41 + 2 = 43)
    have f202 := f196.mx (no_own (no_int _) _) m199 rfl (rfl : 41 + 3 = 44)
    obtain ⟨x74, hx74, h⟩ := Option.bind_eq_some_iff.mp h
    have f203 := f142.stp (S152.tr (S162.tr (S178.tr (S183.tr (S186.tr S198))))) rfl rfl
    have f204 := f143.stp (S152.tr (S162.tr (S178.tr (S183.tr (S186.tr S198))))) rfl rfl
    refine WO.call rfl rfl rfl rfl rfl rfl Try.call16 (l_eqMachine_ok (κ := fun b => mp [] 0 (K197 b)) (p0 := x44) (p1 := x73) (Sl.map f203.rdc (mp [] 0) rfl rfl) (Sl.map f204.rdc (mp [] 0) rfl rfl) (Sl.map f201.rdc (mp [] 0) rfl rfl) (Sl.map f202.rdc (mp [] 0) rfl rfl) hx74) ?_
    rintro _ w205 ⟨k206, rfl, e207⟩
    obtain ⟨K208, S209, m210⟩ := Ent.mixed (l := []) (κ := K197) e207 45 rfl
    refine ⟨((S198.tr S209).cl rfl), ?_⟩
    refine WO.pn 1 rfl ?_
    refine WO.nx ?_
    refine WO.fin ?_
    refine DN.seq ?_
    revert h
    cases ht212 : (!x74) with
    | true =>
     intro h; replace h := cT h
     refine WC.ct rfl ?_
     refine WC.seq ?_
     refine WC.rs [(0, 2)] rfl ?_
     refine WO.pn 1 rfl ?_
     refine WO.fin ?_
     refine DN.seq ?_
     refine WC.ret ?_
     refine DN.retThen ?_
     have f213 := hE.stp (S3.tr (S7.tr (S11.tr (S20.tr (S32.tr (S37.tr (S46.tr (S57.tr (S70.tr (S83.tr (S97.tr (S104.tr (S107.tr (S118.tr (S125.tr (S128.tr (S130.tr (S139.tr (S152.tr (S162.tr (S178.tr (S183.tr (S186.tr (S198.tr S209)))))))))))))))))))))))) rfl rfl
     refine DN.res (l := [.tmp 6]) Try.results4 (res_tmp rfl rfl) rfl ?_
     obtain rfl := Option.some.inj h
     exact ⟨K208, rfl, f213⟩
    | false =>
     intro h; replace h := cF h
     refine WC.cf rfl ?_
     refine WC.skip ?_
     refine DN.seq ?_
     refine WC.seq ?_
     refine WC.seq ?_
     refine WC.rx (κ := K208) [4, 32] none [(0, 0), (1, 0), (2, 1), (3, 1), (4, 2)] [] (by kernel_rfl) (by kernel_rfl) fun w215 S214 => ?_
     have f216 := f134.stp (S139.tr (S152.tr (S162.tr (S178.tr (S183.tr (S186.tr (S198.tr (S209.tr S214)))))))) rfl rfl
     refine WO.k0 rfl rfl rfl rfl (rn_la (cs := [.slice a46_0 x46.Next.length u46_0, .slice a46_1 x46.Pairs.length u46_1]) Try.isAgg55 Try.sizeOf55 rfl rfl rfl (haC f216.cells rfl)) ?_
     have f217 := f109.stp (S118.tr (S125.tr (S128.tr (S130.tr (S139.tr (S152.tr (S162.tr (S178.tr (S183.tr (S186.tr (S198.tr (S209.tr S214)))))))))))) rfl rfl
     refine WO.k0 rfl rfl rfl rfl (rn_la (cs := [.slice a2_0 p2.Next.length u2_0, .slice a2_1 p2.Pairs.length u2_1]) Try.isAgg49 Try.sizeOf49 rfl rfl rfl (haC f217.cells rfl)) ?_
     obtain ⟨x78, hx78, h⟩ := Option.bind_eq_some_iff.mp h
     have f218 := f110.stp (S118.tr (S125.tr (S128.tr (S130.tr (S139.tr (S152.tr (S162.tr (S178.tr (S183.tr (S186.tr (S198.tr (S209.tr S214)))))))))))) rfl rfl
     have f219 := f111.stp (S118.tr (S125.tr (S128.tr (S130.tr (S139.tr (S152.tr (S162.tr (S178.tr (S183.tr (S186.tr (S198.tr (S209.tr S214)))))))))))) rfl rfl
     refine WO.call rfl rfl rfl rfl rfl rfl Try.call21 (l_toDet_ok (κ := fun b => mp [] 0 (K208 b)) (p0 := p2) (Sl.map f218 (mp [] 0) rfl rfl) (Sl.map f219 (mp [] 0) rfl rfl) hx78) ?_
     rintro _ w220 ⟨k221, a78_0, u78_0, a78_1, u78_1, rfl, e222, f223, f224⟩
     obtain ⟨K225, S226, m227⟩ := Ent.mixed (l := []) (κ := K208) e222 47 rfl
     refine ⟨(S226.cl rfl), ?_⟩
     have f229 := f223.mx (no_own (no_int _) _) m227 rfl (rfl : 47 + 2 = 49)
     have f230 := f224.mx Pair.no113 m227 rfl (rfl : 47 + 3 = 50)
     obtain ⟨x79, hx79, h⟩ := Option.bind_eq_some_iff.mp h
     have f231 := f144.stp (S152.tr (S162.tr (S178.tr (S183.tr (S186.tr (S198.tr (S209.tr (S214.tr S226)))))))) rfl rfl
     have f232 := f145.stp (S152.tr (S162.tr (S178.tr (S183.tr (S186.tr (S198.tr (S209.tr (S214.tr S226)))))))) rfl rfl
     refine WO.call rfl rfl rfl rfl rfl rfl Try.call25 (l_eqDet_ok (κ := fun b => mp [] 0 (K225 b)) (p0 := x46) (p1 := x78) (Sl.map f231.rdc (mp [] 0) rfl rfl) (Sl.map f232.rdc (mp [] 0) rfl rfl) (Sl.map f229.rdc (mp [] 0) rfl rfl) (Sl.map f230.rdc (mp [] 0) rfl rfl) hx79) ?_
     rintro _ w233 ⟨k234, rfl, e235⟩
     obtain ⟨K236, S237, m238⟩ := Ent.mixed (l := []) (κ := K225) e235 51 rfl
     refine ⟨((S226.tr S237).cl rfl), ?_⟩
     refine WO.pn 1 rfl ?_
     refine WO.nx ?_
     refine WO.fin ?_
     refine DN.seq ?_
     revert h
     cases ht240 : (!x79) with
     | true =>
      intro h; replace h := cT h
      refine WC.ct rfl ?_
      refine WC.seq ?_
      refine WC.rs [(0, 2)] rfl ?_
      refine WO.pn 1 rfl ?_
      refine WO.fin ?_
      refine DN.seq ?_
      refine WC.ret ?_
      refine DN.retThen ?_
      have f241 := hE.stp (S3.tr (S7.tr (S11.tr (S20.tr (S32.tr (S37.tr (S46.tr (S57.tr (S70.tr (S83.tr (S97.tr (S104.tr (S107.tr (S118.tr (S125.tr (S128.tr (S130.tr (S139.tr (S152.tr (S162.tr (S178.tr (S183.tr (S186.tr (S198.tr (S209.tr (S214.tr (S226.tr S237))))))))))))))))))))))))))) rfl rfl
      refine DN.res (l := [.tmp 6]) Try.results4 (res_tmp rfl rfl) rfl ?_
      obtain rfl := Option.some.inj h
      exact ⟨K236, rfl, f241⟩
     | false =>
      intro h; replace h := cF h
      refine WC.cf rfl ?_
      refine WC.skip ?_
      refine DN.seq ?_
      refine WC.seq ?_
      refine WC.rs [(0, 2)] rfl ?_
      refine WO.pn 1 rfl ?_
      refine WO.fin ?_
      refine DN.seq ?_
      refine WC.seq ?_
      refine WC.rs [(0, 1), (1, 2), (2, 1), (3, 2)] rfl ?_
      have f242 := f188.stp (S198.tr (S209.tr (S214.tr (S226.tr S237)))) rfl rfl
      refine WO.k1 trivial rfl rfl rfl rfl (rn_la (cs := [.slice a44_0 x44.Next.length u44_0, .slice a44_1 x44.Out.length u44_1]) Try.isAgg37 Try.sizeOf37 rfl rfl rfl (haE f242.cells)) ?_
      refine WO.pn 1 rfl ?_
      obtain ⟨x83, hx83, h⟩ := Option.bind_eq_some_iff.mp h
      have f243 := f203.stp (S209.tr (S214.tr (S226.tr S237))) rfl rfl
      have f244 := f204.stp (S209.tr (S214.tr (S226.tr S237))) rfl rfl
      refine WO.call rfl rfl rfl rfl rfl rfl Try.call26 (l_markMachine_ok (κ := fun b => mp [(25, 2), (26, 3)] 0 (K236 b)) (p0 := x44) (f243.map (mp [(25, 2), (26, 3)] 0) rfl rfl) (f244.map (mp [(25, 2), (26, 3)] 0) rfl rfl) hx83) ?_
      rintro _ w245 ⟨k246, rfl, e247, f248, hn249, f250, hn251⟩
      obtain ⟨K252, S253, m254⟩ := Ent.mixed (l := [(25, 2), (26, 3)]) (κ := K236) e247 53 rfl
      refine ⟨trivial, ?_⟩
      have f256 := f248.mx (no_own (no_int _) _) m254 rfl (rfl : 53 + 2 = 55)
      have f257 := f250.mx (no_own (no_int _) _) m254 rfl (rfl : 53 + 3 = 56)
      refine WO.pn 1 rfl ?_
      refine WO.fin ?_
      refine DN.seq ?_
      refine WC.seq ?_
      refine WC.rs [(0, 1), (1, 2), (2, 1), (3, 2)] rfl ?_
      have f258 := f216.stp (S226.tr (S237.tr S253)) rfl rfl
      refine WO.k1 trivial rfl rfl rfl rfl (rn_la (cs := [.slice a46_0 x46.Next.length u46_0, .slice a46_1 x46.Pairs.length u46_1]) Try.isAgg55 Try.sizeOf55 rfl rfl rfl (haE f258.cells)) ?_
      refine WO.pn 1 rfl ?_
      obtain ⟨x86, hx86, h⟩ := Option.bind_eq_some_iff.mp h
      have f259 := f231.stp (S237.tr S253) rfl rfl
      have f260 := f232.stp (S237.tr S253) rfl rfl
      refine WO.call rfl rfl rfl rfl rfl rfl Try.call27 (l_markDet_ok (κ := fun b => mp [(30, 2), (31, 3)] 0 (K252 b)) (p0 := x46) (f259.map (mp [(30, 2), (31, 3)] 0) rfl rfl) (f260.map (mp [(30, 2), (31, 3)] 0) rfl rfl) hx86) ?_
      rintro _ w261 ⟨k262, rfl, e263, f264, hn265, f266, hn267⟩
      obtain ⟨K268, S269, m270⟩ := Ent.mixed (l := [(30, 2), (31, 3)]) (κ := K252) e263 57 rfl
      refine ⟨trivial, ?_⟩
      have f272 := f264.mx (no_own (no_int _) _) m270 rfl (rfl : 57 + 2 = 59)
      have f273 := f266.mx Pair.no113 m270 rfl (rfl : 57 + 3 = 60)
      refine WO.pn 1 rfl ?_
      refine WO.fin ?_
      refine DN.seq ?_
      refine WC.seq ?_
      refine WC.seq ?_
      refine WC.rs [(0, 2), (1, 2), (2, 2), (3, 2), (4, 2), (5, 1), (6, 2), (7, 2), (8, 2), (9, 2), (10, 2), (11, 1), (12, 2), (13, 2), (14, 2), (15, 2), (16, 2), (17, 2), (18, 2)] rfl ?_
      refine WO.pn 3 rfl ?_
      obtain ⟨p94, h, hK274⟩ := Option.bind_eq_some_iff.mp h
      refine WO.meet [(3, 2), (4, 2), (5, 1), (6, 2), (7, 2)] [(8, 2), (9, 2), (10, 2), (11, 1), (12, 2), (13, 2), (14, 2), (15, 2), (16, 2), (17, 2), (18, 2)] (fun L w' => L = [(3, .pointer (some ⟨b3, 0, none⟩)), (4, .pointer (some ⟨b4, 0, none⟩)), (5, .pointer (some ⟨b5, 0, none⟩)), (8, .slice a39_0 x39.1.length u39_0), (9, .slice a39_1 x39.2.1.length u39_1), (10, .bool x39.2.2), (13, .slice a52_0 x52.1.length u52_0), (14, .slice a52_1 x52.2.1.length u52_1), (15, .bool x52.2.2), (94, .bool p94)] ∧ ∃ κ', Stp [] K268 w261 κ' w') trivial ?_ ?_
      ·
       revert h
       cases ht275 : decide (x86.1 < 0) with
       | true =>
        intro h; replace h := cT h
        refine WO.pn 2 rfl ?_
        refine WO.ls rfl rfl rfl rfl ?_
        refine WO.pn 2 rfl ?_
        obtain rfl := Option.some.inj h
        exact WO.met _ trivial ⟨rfl, _, (Stp.refl _ _).wk rfl⟩ fun a ha => (ha.more (ha.more (ha.more (ha.more (ha.more (ha.more (ha.more (ha.more (ha.more (ha.more ha.nil rfl) rfl) rfl) rfl) rfl) rfl) rfl) rfl) rfl) rfl)
       | false =>
        intro h; replace h := cF h
        refine WO.pn 2 rfl ?_
        obtain ⟨x92, hx92, h⟩ := Option.bind_eq_some_iff.mp h
        have f276 := f155.stp (S162.tr (S178.tr (S183.tr (S186.tr (S198.tr (S209.tr (S214.tr (S226.tr (S237.tr (S253.tr S269)))))))))) rfl rfl
        have f277 := f157.stp (S162.tr (S178.tr (S183.tr (S186.tr (S198.tr (S209.tr (S214.tr (S226.tr (S237.tr (S253.tr S269)))))))))) rfl rfl
        refine WO.call rfl rfl rfl rfl rfl rfl Try.call23 (l_eqInt64SS_ok (κ := fun b => mp [] 0 (K268 b)) (Sl.map f276.rdc (mp [] 0) rfl rfl) (Sl.map f277.rdc (mp [] 0) rfl rfl) hx92) ?_
        rintro _ w278 ⟨k279, rfl, e280⟩
        obtain ⟨K281, S282, m283⟩ := Ent.mixed (l := []) (κ := K268) e280 61 rfl
        refine ⟨trivial, ?_⟩
        refine WO.pn 2 rfl ?_
        obtain rfl := Option.some.inj h
        exact WO.met _ trivial ⟨rfl, _, S282.wk rfl⟩ fun a ha => (ha.more (ha.more (ha.more (ha.more (ha.more (ha.more (ha.more (ha.more (ha.more (ha.more ha.nil rfl) rfl) rfl) rfl) rfl) rfl) rfl) rfl) rfl) rfl)
      rintro _ w285 _ ⟨rfl, K286, S287⟩
      have h := hK274
      refine WO.pn 1 rfl ?_
      obtain ⟨p100, h, hK288⟩ := Option.bind_eq_some_iff.mp h
      refine WO.meet [(9, 2), (10, 2), (11, 1), (12, 2), (13, 2)] [(14, 2), (15, 2), (16, 2), (17, 2), (18, 2)] (fun L w' => L = [(3, .pointer (some ⟨b3, 0, none⟩)), (4, .pointer (some ⟨b4, 0, none⟩)), (5, .pointer (some ⟨b5, 0, none⟩)), (8, .slice a39_0 x39.1.length u39_0), (9, .slice a39_1 x39.2.1.length u39_1), (10, .bool x39.2.2), (13, .slice a52_0 x52.1.length u52_0), (14, .slice a52_1 x52.2.1.length u52_1), (15, .bool x52.2.2), (100, .bool p100)] ∧ ∃ κ', Stp [] K286 w285 κ' w') trivial ?_ ?_
      ·
       revert h
       cases ht289 : p94 with
       | true =>
        intro h; replace h := cT h
        refine WO.pn 2 rfl ?_
        refine WO.ls rfl rfl rfl rfl ?_
        refine WO.pn 2 rfl ?_
        obtain rfl := Option.some.inj h
        exact WO.met _ trivial ⟨rfl, _, (Stp.refl _ _).wk rfl⟩ fun a ha => (ha.more (ha.more (ha.more (ha.more (ha.more (ha.more (ha.more (ha.more (ha.more (ha.more ha.nil rfl) rfl) rfl) rfl) rfl) rfl) rfl) rfl) rfl) rfl)
       | false =>
        intro h; replace h := cF h
        refine WO.pn 2 rfl ?_
        obtain ⟨x98, hx98, h⟩ := Option.bind_eq_some_iff.mp h
        have f290 := f156.stp (S162.tr (S178.tr (S183.tr (S186.tr (S198.tr (S209.tr (S214.tr (S226.tr (S237.tr (S253.tr (S269.tr S287))))))))))) rfl rfl
        have f291 := f87.stp (S97.tr (S104.tr (S107.tr (S118.tr (S125.tr (S128.tr (S130.tr (S139.tr (S152.tr (S162.tr (S178.tr (S183.tr (S186.tr (S198.tr (S209.tr (S214.tr (S226.tr (S237.tr (S253.tr (S269.tr S287)))))))))))))))))))) rfl rfl
        refine WO.call rfl rfl rfl rfl rfl rfl Try.call24 (l_eqPairS_ok (κ := fun b => mp [] 0 (K286 b)) (Sl.map f290.rdc (mp [] 0) rfl rfl) (Sl.map f291.rdc (mp [] 0) rfl rfl) hx98) ?_
        rintro _ w292 ⟨k293, rfl, e294⟩
        obtain ⟨K295, S296, m297⟩ := Ent.mixed (l := []) (κ := K286) e294 61 rfl
        refine ⟨trivial, ?_⟩
        refine WO.pn 2 rfl ?_
        obtain rfl := Option.some.inj h
        exact WO.met _ trivial ⟨rfl, _, S296.wk rfl⟩ fun a ha => (ha.more (ha.more (ha.more (ha.more (ha.more (ha.more (ha.more (ha.more (ha.more (ha.more ha.nil rfl) rfl) rfl) rfl) rfl) rfl) rfl) rfl) rfl) rfl)
      rintro _ w299 _ ⟨rfl, K300, S301⟩
      have h := hK288
      refine WO.pn 1 rfl ?_
      obtain ⟨p105, h, hK302⟩ := Option.bind_eq_some_iff.mp h
      refine WO.meet [(15, 2), (16, 2), (17, 2), (18, 2)] [] (fun L w' => L = [(3, .pointer (some ⟨b3, 0, none⟩)), (4, .pointer (some ⟨b4, 0, none⟩)), (5, .pointer (some ⟨b5, 0, none⟩)), (8, .slice a39_0 x39.1.length u39_0), (9, .slice a39_1 x39.2.1.length u39_1), (10, .bool x39.2.2), (13, .slice a52_0 x52.1.length u52_0), (14, .slice a52_1 x52.2.1.length u52_1), (105, .bool p105)] ∧ ∃ κ', Stp [] K300 w299 κ' w') trivial ?_ ?_
      ·
       revert h
       cases ht303 : p100 with
       | true =>
        intro h; replace h := cT h
        refine WO.pn 4 rfl ?_
        obtain rfl := Option.some.inj h
        exact WO.met _ trivial ⟨rfl, _, (Stp.refl _ _).wk rfl⟩ fun a ha => (ha.more (ha.more (ha.more (ha.more (ha.more (ha.more (ha.more (ha.more (ha.more ha.nil rfl) rfl) rfl) rfl) rfl) rfl) rfl) rfl) rfl)
       | false =>
        intro h; replace h := cF h
        refine WO.pn 2 rfl ?_
        refine WO.k2 rfl rfl rfl rfl (rn_neqB rfl rfl Try.runUnderlying4 rfl) ?_
        refine WO.pn 1 rfl ?_
        obtain rfl := Option.some.inj h
        exact WO.met _ trivial ⟨rfl, _, (Stp.refl _ _).wk rfl⟩ fun a ha => (ha.more (ha.more (ha.more (ha.more (ha.more (ha.more (ha.more (ha.more (ha.more ha.nil rfl) rfl) rfl) rfl) rfl) rfl) rfl) rfl) rfl)
      rintro _ w304 _ ⟨rfl, K305, S306⟩
      have h := hK302
      refine WO.fin ?_
      refine DN.seq ?_
      revert h
      cases ht307 : p105 with
      | true =>
       intro h; replace h := cT h
       refine WC.ct rfl ?_
       refine WC.seq ?_
       refine WC.rs [(0, 2)] rfl ?_
       refine WO.pn 1 rfl ?_
       refine WO.fin ?_
       refine DN.seq ?_
       refine WC.ret ?_
       refine DN.retThen ?_
       have f308 := hE.stp (S3.tr (S7.tr (S11.tr (S20.tr (S32.tr (S37.tr (S46.tr (S57.tr (S70.tr (S83.tr (S97.tr (S104.tr (S107.tr (S118.tr (S125.tr (S128.tr (S130.tr (S139.tr (S152.tr (S162.tr (S178.tr (S183.tr (S186.tr (S198.tr (S209.tr (S214.tr (S226.tr (S237.tr (S253.tr (S269.tr (S287.tr (S301.tr S306)))))))))))))))))))))))))))))))) rfl rfl
       refine DN.res (l := [.tmp 6]) Try.results4 (res_tmp rfl rfl) rfl ?_
       obtain rfl := Option.some.inj h
       exact ⟨K305, rfl, f308⟩
      | false =>
       intro h; replace h := cF h
       refine WC.cf rfl ?_
       refine WC.skip ?_
       refine DN.seq ?_
       refine WC.seq ?_
       refine WC.rs [(0, 2)] rfl ?_
       refine WO.pn 1 rfl ?_
       refine WO.fin ?_
       refine DN.seq ?_
       refine WC.seq ?_
       refine WC.rs [(0, 2), (1, 2), (2, 1), (3, 2)] rfl ?_
       refine WO.pn 2 rfl ?_
       obtain ⟨x108, hx108, h⟩ := Option.bind_eq_some_iff.mp h
       have f309 := f155.stp (S162.tr (S178.tr (S183.tr (S186.tr (S198.tr (S209.tr (S214.tr (S226.tr (S237.tr (S253.tr (S269.tr (S287.tr (S301.tr S306))))))))))))) rfl rfl
       refine WO.call rfl rfl rfl rfl rfl rfl Try.call28 (l_markInt64SS_ok (κ := fun b => mp [(37, 2)] 0 (K305 b)) (f309.map (mp [(37, 2)] 0) rfl rfl) hx108) ?_
       rintro _ w310 ⟨k311, rfl, e312, f313, hn314⟩
       obtain ⟨K315, S316, m317⟩ := Ent.mixed (l := [(37, 2)]) (κ := K305) e312 61 rfl
       refine ⟨trivial, ?_⟩
       have f319 := f313.mx (no_own (no_int _) _) m317 rfl (rfl : 61 + 2 = 63)
       refine WO.pn 1 rfl ?_
       refine WO.fin ?_
       refine DN.seq ?_
       refine WC.seq ?_
       refine WC.rs [(0, 2), (1, 2), (2, 1), (3, 2)] rfl ?_
       refine WO.pn 2 rfl ?_
       obtain ⟨x111, hx111, h⟩ := Option.bind_eq_some_iff.mp h
       have f320 := f156.stp (S162.tr (S178.tr (S183.tr (S186.tr (S198.tr (S209.tr (S214.tr (S226.tr (S237.tr (S253.tr (S269.tr (S287.tr (S301.tr (S306.tr S316)))))))))))))) rfl rfl
       refine WO.call rfl rfl rfl rfl rfl rfl Try.call29 (l_markPairS_ok (κ := fun b => mp [(38, 2)] 0 (K315 b)) (f320.map (mp [(38, 2)] 0) rfl rfl) hx111) ?_
       rintro _ w321 ⟨k322, rfl, e323, f324, hn325⟩
       obtain ⟨K326, S327, m328⟩ := Ent.mixed (l := [(38, 2)]) (κ := K315) e323 64 rfl
       refine ⟨trivial, ?_⟩
       have f330 := f324.mx Pair.no113 m328 rfl (rfl : 64 + 2 = 66)
       refine WO.pn 1 rfl ?_
       refine WO.fin ?_
       refine DN.seq ?_
       refine WC.seq ?_
       refine WC.rs [(0, 2)] rfl ?_
       refine WO.pn 1 rfl ?_
       refine WO.fin ?_
       refine DN.seq ?_
       refine WC.seq ?_
       refine WC.rs [(0, 2), (1, 2), (2, 1), (3, 2)] rfl ?_
       refine WO.pn 2 rfl ?_
       obtain ⟨x114, hx114, h⟩ := Option.bind_eq_some_iff.mp h
       have f331 := f319.stp S327 rfl rfl
       refine WO.call rfl rfl rfl rfl rfl rfl Try.call30 (Ret.cast (by simp only [(hn314), List.cons_append, List.nil_append]) (l_heldInt64SS_ok (κ := fun b => mp [] 0 (K326 b)) (Sl.map f331.rdc (mp [] 0) rfl rfl) hx114)) ?_
       rintro _ w332 ⟨k333, rfl, e334⟩
       obtain ⟨K335, S336, m337⟩ := Ent.mixed (l := []) (κ := K326) e334 67 rfl
       refine ⟨trivial, ?_⟩
       refine WO.pn 1 rfl ?_
       refine WO.fin ?_
       refine DN.seq ?_
       refine WC.seq ?_
       refine WC.seq ?_
       refine WC.rs [(0, 2), (1, 2)] rfl ?_
       refine WO.pn 2 rfl ?_
       refine WO.fin ?_
       refine DN.seq ?_
       revert h
       cases ht339 : decide (x114 < 0) with
       | true =>
        intro h; replace h := cT h
        refine WC.ct rfl ?_
        refine WC.seq ?_
        refine WC.rs [(0, 2)] rfl ?_
        refine WO.pn 1 rfl ?_
        refine WO.fin ?_
        refine DN.seq ?_
        refine WC.ret ?_
        refine DN.retThen ?_
        have f340 := hE.stp (S3.tr (S7.tr (S11.tr (S20.tr (S32.tr (S37.tr (S46.tr (S57.tr (S70.tr (S83.tr (S97.tr (S104.tr (S107.tr (S118.tr (S125.tr (S128.tr (S130.tr (S139.tr (S152.tr (S162.tr (S178.tr (S183.tr (S186.tr (S198.tr (S209.tr (S214.tr (S226.tr (S237.tr (S253.tr (S269.tr (S287.tr (S301.tr (S306.tr (S316.tr (S327.tr S336))))))))))))))))))))))))))))))))))) rfl rfl
        refine DN.res (l := [.tmp 6]) Try.results4 (res_tmp rfl rfl) rfl ?_
        obtain rfl := Option.some.inj h
        exact ⟨K335, rfl, f340⟩
       | false =>
        intro h; replace h := cF h
        refine WC.cf rfl ?_
        refine WC.skip ?_
        refine DN.seq ?_
        refine WC.seq ?_
        refine WC.rs [(0, 2), (1, 2), (2, 1), (3, 2)] rfl ?_
        refine WO.pn 2 rfl ?_
        obtain ⟨x119, hx119, h⟩ := Option.bind_eq_some_iff.mp h
        have f341 := f330.stp S336 rfl rfl
        refine WO.call rfl rfl rfl rfl rfl rfl Try.call31 (Ret.cast (by simp only [(hn325), List.cons_append, List.nil_append]) (l_heldPairS_ok (κ := fun b => mp [] 0 (K335 b)) (Sl.map f341.rdc (mp [] 0) rfl rfl) hx119)) ?_
        rintro _ w342 ⟨k343, rfl, e344⟩
        obtain ⟨K345, S346, m347⟩ := Ent.mixed (l := []) (κ := K335) e344 69 rfl
        refine ⟨trivial, ?_⟩
        refine WO.pn 1 rfl ?_
        refine WO.fin ?_
        refine DN.seq ?_
        refine WC.seq ?_
        refine WC.seq ?_
        refine WC.rs [(0, 2), (1, 2)] rfl ?_
        refine WO.pn 2 rfl ?_
        refine WO.fin ?_
        refine DN.seq ?_
        revert h
        cases ht349 : decide (x119 < 0) with
        | true =>
         intro h; replace h := cT h
         refine WC.ct rfl ?_
         refine WC.seq ?_
         refine WC.rs [(0, 2)] rfl ?_
         refine WO.pn 1 rfl ?_
         refine WO.fin ?_
         refine DN.seq ?_
         refine WC.ret ?_
         refine DN.retThen ?_
         have f350 := hE.stp (S3.tr (S7.tr (S11.tr (S20.tr (S32.tr (S37.tr (S46.tr (S57.tr (S70.tr (S83.tr (S97.tr (S104.tr (S107.tr (S118.tr (S125.tr (S128.tr (S130.tr (S139.tr (S152.tr (S162.tr (S178.tr (S183.tr (S186.tr (S198.tr (S209.tr (S214.tr (S226.tr (S237.tr (S253.tr (S269.tr (S287.tr (S301.tr (S306.tr (S316.tr (S327.tr (S336.tr S346)))))))))))))))))))))))))))))))))))) rfl rfl
         refine DN.res (l := [.tmp 6]) Try.results4 (res_tmp rfl rfl) rfl ?_
         obtain rfl := Option.some.inj h
         exact ⟨K345, rfl, f350⟩
        | false =>
         intro h; replace h := cF h
         refine WC.cf rfl ?_
         refine WC.skip ?_
         refine DN.seq ?_
         refine WC.seq ?_
         refine WC.seq ?_
         refine WC.rs [(0, 2), (1, 2), (2, 2)] rfl ?_
         refine WO.pn 3 rfl ?_
         refine WO.fin ?_
         refine DN.seq ?_
         revert h
         cases ht351 : (x119 != x111.1) with
         | true =>
          intro h; replace h := cT h
          refine WC.ct rfl ?_
          refine WC.seq ?_
          refine WC.rs [(0, 2)] rfl ?_
          refine WO.pn 1 rfl ?_
          refine WO.fin ?_
          refine DN.seq ?_
          refine WC.ret ?_
          refine DN.retThen ?_
          have f352 := hE.stp (S3.tr (S7.tr (S11.tr (S20.tr (S32.tr (S37.tr (S46.tr (S57.tr (S70.tr (S83.tr (S97.tr (S104.tr (S107.tr (S118.tr (S125.tr (S128.tr (S130.tr (S139.tr (S152.tr (S162.tr (S178.tr (S183.tr (S186.tr (S198.tr (S209.tr (S214.tr (S226.tr (S237.tr (S253.tr (S269.tr (S287.tr (S301.tr (S306.tr (S316.tr (S327.tr (S336.tr S346)))))))))))))))))))))))))))))))))))) rfl rfl
          refine DN.res (l := [.tmp 6]) Try.results4 (res_tmp rfl rfl) rfl ?_
          obtain rfl := Option.some.inj h
          exact ⟨K345, rfl, f352⟩
         | false =>
          intro h; replace h := cF h
          refine WC.cf rfl ?_
          refine WC.skip ?_
          refine DN.seq ?_
          refine WC.seq ?_
          refine WC.rx (κ := K345) [2, 3, 4] none [(0, 0), (2, 0), (4, 0), (1, 1), (3, 1), (5, 1), (6, 1), (7, 2), (8, 2), (9, 2), (10, 2), (11, 2), (12, 2), (13, 2)] [] (by kernel_rfl) (by kernel_rfl) fun w354 S353 => ?_
          have f355 := f132.stp (S139.tr (S152.tr (S162.tr (S178.tr (S183.tr (S186.tr (S198.tr (S209.tr (S214.tr (S226.tr (S237.tr (S253.tr (S269.tr (S287.tr (S301.tr (S306.tr (S316.tr (S327.tr (S336.tr (S346.tr S353)))))))))))))))))))) rfl rfl
          refine WO.k0 rfl rfl rfl rfl (rn_la (cs := [.int .i64 p0.In, .int .i64 p0.Out]) Try.isAgg23 Try.sizeOf23 rfl rfl rfl (haC f355.cells rfl)) ?_
          have f356 := f189.stp (S198.tr (S209.tr (S214.tr (S226.tr (S237.tr (S253.tr (S269.tr (S287.tr (S301.tr (S306.tr (S316.tr (S327.tr (S336.tr (S346.tr S353)))))))))))))) rfl rfl
          refine WO.k0 rfl rfl rfl rfl (rn_la (cs := [.slice a1_0 p1.Next.length u1_0, .slice a1_1 p1.Out.length u1_1]) Try.isAgg26 Try.sizeOf26 rfl rfl rfl (haC f356.cells rfl)) ?_
          have f357 := f217.stp (S226.tr (S237.tr (S253.tr (S269.tr (S287.tr (S301.tr (S306.tr (S316.tr (S327.tr (S336.tr (S346.tr S353))))))))))) rfl rfl
          refine WO.k0 rfl rfl rfl rfl (rn_la (cs := [.slice a2_0 p2.Next.length u2_0, .slice a2_1 p2.Pairs.length u2_1]) Try.isAgg49 Try.sizeOf49 rfl rfl rfl (haC f357.cells rfl)) ?_
          obtain ⟨x127, hx127, h⟩ := Option.bind_eq_some_iff.mp h
          refine WO.call rfl rfl rfl rfl rfl rfl Try.call11 (l_toSig_ok (κ := fun b => mp [] 0 (K345 b)) (p0 := p0) hx127) ?_
          rintro _ w358 ⟨k359, rfl, e360⟩
          obtain ⟨K361, S362, m363⟩ := Ent.mixed (l := []) (κ := K345) e360 71 rfl
          refine ⟨(S362.cl rfl), ?_⟩
          obtain ⟨x129, hx129, h⟩ := Option.bind_eq_some_iff.mp h
          have f365 := f190.stp (S198.tr (S209.tr (S214.tr (S226.tr (S237.tr (S253.tr (S269.tr (S287.tr (S301.tr (S306.tr (S316.tr (S327.tr (S336.tr (S346.tr (S353.tr S362))))))))))))))) rfl rfl
          have f366 := f191.stp (S198.tr (S209.tr (S214.tr (S226.tr (S237.tr (S253.tr (S269.tr (S287.tr (S301.tr (S306.tr (S316.tr (S327.tr (S336.tr (S346.tr (S353.tr S362))))))))))))))) rfl rfl
          refine WO.call rfl rfl rfl rfl rfl rfl Try.call12 (l_toMachine_ok (κ := fun b => mp [] 0 (K361 b)) (p0 := p1) (Sl.map f365 (mp [] 0) rfl rfl) (Sl.map f366 (mp [] 0) rfl rfl) hx129) ?_
          rintro _ w367 ⟨k368, a129_0, u129_0, a129_1, u129_1, rfl, e369, f370, f371⟩
          obtain ⟨K372, S373, m374⟩ := Ent.mixed (l := []) (κ := K361) e369 73 rfl
          refine ⟨((S362.tr S373).cl rfl), ?_⟩
          have f376 := f370.mx (no_own (no_int _) _) m374 rfl (rfl : 73 + 2 = 75)
          have f377 := f371.mx (no_own (no_int _) _) m374 rfl (rfl : 73 + 3 = 76)
          obtain ⟨x131, hx131, h⟩ := Option.bind_eq_some_iff.mp h
          have f378 := f218.stp (S226.tr (S237.tr (S253.tr (S269.tr (S287.tr (S301.tr (S306.tr (S316.tr (S327.tr (S336.tr (S346.tr (S353.tr (S362.tr S373))))))))))))) rfl rfl
          have f379 := f219.stp (S226.tr (S237.tr (S253.tr (S269.tr (S287.tr (S301.tr (S306.tr (S316.tr (S327.tr (S336.tr (S346.tr (S353.tr (S362.tr S373))))))))))))) rfl rfl
          refine WO.call rfl rfl rfl rfl rfl rfl Try.call21 (l_toDet_ok (κ := fun b => mp [] 0 (K372 b)) (p0 := p2) (Sl.map f378 (mp [] 0) rfl rfl) (Sl.map f379 (mp [] 0) rfl rfl) hx131) ?_
          rintro _ w380 ⟨k381, a131_0, u131_0, a131_1, u131_1, rfl, e382, f383, f384⟩
          obtain ⟨K385, S386, m387⟩ := Ent.mixed (l := []) (κ := K372) e382 77 rfl
          refine ⟨((S362.tr (S373.tr S386)).cl rfl), ?_⟩
          have f389 := f383.mx (no_own (no_int _) _) m387 rfl (rfl : 77 + 2 = 79)
          have f390 := f384.mx Pair.no113 m387 rfl (rfl : 77 + 3 = 80)
          obtain ⟨x132, hx132, h⟩ := Option.bind_eq_some_iff.mp h
          have f391 := f376.stp S386 rfl rfl
          have f392 := f377.stp S386 rfl rfl
          refine WO.call rfl rfl rfl rfl rfl rfl Try.call22 (i_WatchOf_ok (κ := fun b => mp [] 0 (K385 b)) (p0 := x127) (p1 := x129) (p2 := x131) (Sl.map f391.rdc (mp [] 0) rfl rfl) (Sl.map f392.rdc (mp [] 0) rfl rfl) (Sl.map f389.rdc (mp [] 0) rfl rfl) (Sl.map f390.rdc (mp [] 0) rfl rfl) hx132) ?_
          rintro _ w393 ⟨k394, a132_0, u132_0, a132_1, u132_1, rfl, e395, f396, f397⟩
          obtain ⟨K398, S399, m400⟩ := Ent.mixed (l := []) (κ := K385) e395 81 rfl
          refine ⟨((S362.tr (S373.tr (S386.tr S399))).cl rfl), ?_⟩
          have f402 := f396.mx (no_own (no_int _) _) m400 rfl (rfl : 81 + 2 = 83)
          have f403 := f397.mx Pair.no113 m400 rfl (rfl : 81 + 3 = 84)
          refine WO.pn 7 rfl ?_
          refine WO.nx ?_
          refine WO.fin ?_
          refine DN.seq ?_
          refine WC.seq ?_
          refine WC.seq ?_
          refine WC.rs [(0, 2), (1, 2), (2, 1), (3, 2), (4, 2), (5, 2), (6, 2), (7, 1), (8, 2), (9, 2), (10, 2), (11, 2), (12, 2), (13, 2), (14, 2)] rfl ?_
          refine WO.pn 2 rfl ?_
          obtain ⟨x138, hx138, h⟩ := Option.bind_eq_some_iff.mp h
          have f404 := f157.stp (S162.tr (S178.tr (S183.tr (S186.tr (S198.tr (S209.tr (S214.tr (S226.tr (S237.tr (S253.tr (S269.tr (S287.tr (S301.tr (S306.tr (S316.tr (S327.tr (S336.tr (S346.tr (S353.tr (S362.tr (S373.tr (S386.tr S399)))))))))))))))))))))) rfl rfl
          refine WO.call rfl rfl rfl rfl rfl rfl Try.call23 (l_eqInt64SS_ok (κ := fun b => mp [] 0 (K398 b)) (Sl.map f402.rdc (mp [] 0) rfl rfl) (Sl.map f404.rdc (mp [] 0) rfl rfl) hx138) ?_
          rintro _ w405 ⟨k406, rfl, e407⟩
          obtain ⟨K408, S409, m410⟩ := Ent.mixed (l := []) (κ := K398) e407 85 rfl
          refine ⟨trivial, ?_⟩
          refine WO.pn 2 rfl ?_
          obtain ⟨p145, h, hK412⟩ := Option.bind_eq_some_iff.mp h
          refine WO.meet [(5, 2), (6, 2), (7, 1), (8, 2), (9, 2)] [(10, 2), (11, 2), (12, 2), (13, 2), (14, 2)] (fun L w' => L = [(10, .bool x39.2.2), (13, .slice a52_0 x52.1.length u52_0), (14, .slice a52_1 x52.2.1.length u52_1), (17, .int .i64 x111.1), (21, .bool x132.2.2), (145, .bool p145)] ∧ ∃ κ', Stp [] K408 w405 κ' w') trivial ?_ ?_
          ·
           revert h
           cases ht413 : (!x138) with
           | true =>
            intro h; replace h := cT h
            refine WO.pn 2 rfl ?_
            refine WO.ls rfl rfl rfl rfl ?_
            refine WO.pn 2 rfl ?_
            obtain rfl := Option.some.inj h
            exact WO.met _ trivial ⟨rfl, _, (Stp.refl _ _).wk rfl⟩ fun a ha => (ha.more (ha.more (ha.more (ha.more (ha.more (ha.more ha.nil rfl) rfl) rfl) rfl) rfl) rfl)
           | false =>
            intro h; replace h := cF h
            refine WO.pn 2 rfl ?_
            obtain ⟨x143, hx143, h⟩ := Option.bind_eq_some_iff.mp h
            have f414 := f403.stp S409 rfl rfl
            have f415 := f87.stp (S97.tr (S104.tr (S107.tr (S118.tr (S125.tr (S128.tr (S130.tr (S139.tr (S152.tr (S162.tr (S178.tr (S183.tr (S186.tr (S198.tr (S209.tr (S214.tr (S226.tr (S237.tr (S253.tr (S269.tr (S287.tr (S301.tr (S306.tr (S316.tr (S327.tr (S336.tr (S346.tr (S353.tr (S362.tr (S373.tr (S386.tr (S399.tr S409)))))))))))))))))))))))))))))))) rfl rfl
            refine WO.call rfl rfl rfl rfl rfl rfl Try.call24 (l_eqPairS_ok (κ := fun b => mp [] 0 (K408 b)) (Sl.map f414.rdc (mp [] 0) rfl rfl) (Sl.map f415.rdc (mp [] 0) rfl rfl) hx143) ?_
            rintro _ w416 ⟨k417, rfl, e418⟩
            obtain ⟨K419, S420, m421⟩ := Ent.mixed (l := []) (κ := K408) e418 87 rfl
            refine ⟨trivial, ?_⟩
            refine WO.pn 2 rfl ?_
            obtain rfl := Option.some.inj h
            exact WO.met _ trivial ⟨rfl, _, S420.wk rfl⟩ fun a ha => (ha.more (ha.more (ha.more (ha.more (ha.more (ha.more ha.nil rfl) rfl) rfl) rfl) rfl) rfl)
          rintro _ w423 _ ⟨rfl, K424, S425⟩
          have h := hK412
          refine WO.pn 1 rfl ?_
          obtain ⟨p150, h, hK426⟩ := Option.bind_eq_some_iff.mp h
          refine WO.meet [(11, 2), (12, 2), (13, 2), (14, 2)] [] (fun L w' => L = [(13, .slice a52_0 x52.1.length u52_0), (14, .slice a52_1 x52.2.1.length u52_1), (17, .int .i64 x111.1), (150, .bool p150)] ∧ ∃ κ', Stp [] K424 w423 κ' w') trivial ?_ ?_
          ·
           revert h
           cases ht427 : p145 with
           | true =>
            intro h; replace h := cT h
            refine WO.pn 4 rfl ?_
            obtain rfl := Option.some.inj h
            exact WO.met _ trivial ⟨rfl, _, (Stp.refl _ _).wk rfl⟩ fun a ha => (ha.more (ha.more (ha.more (ha.more ha.nil rfl) rfl) rfl) rfl)
           | false =>
            intro h; replace h := cF h
            refine WO.pn 2 rfl ?_
            refine WO.k2 rfl rfl rfl rfl (rn_neqB rfl rfl Try.runUnderlying4 rfl) ?_
            refine WO.pn 1 rfl ?_
            obtain rfl := Option.some.inj h
            exact WO.met _ trivial ⟨rfl, _, (Stp.refl _ _).wk rfl⟩ fun a ha => (ha.more (ha.more (ha.more (ha.more ha.nil rfl) rfl) rfl) rfl)
          rintro _ w428 _ ⟨rfl, K429, S430⟩
          have h := hK426
          refine WO.fin ?_
          refine DN.seq ?_
          revert h
          cases ht431 : p150 with
          | true =>
           intro h; replace h := cT h
           refine WC.ct rfl ?_
           refine WC.seq ?_
           refine WC.rs [(0, 2)] rfl ?_
           refine WO.pn 1 rfl ?_
           refine WO.fin ?_
           refine DN.seq ?_
           refine WC.ret ?_
           refine DN.retThen ?_
           have f432 := hE.stp (S3.tr (S7.tr (S11.tr (S20.tr (S32.tr (S37.tr (S46.tr (S57.tr (S70.tr (S83.tr (S97.tr (S104.tr (S107.tr (S118.tr (S125.tr (S128.tr (S130.tr (S139.tr (S152.tr (S162.tr (S178.tr (S183.tr (S186.tr (S198.tr (S209.tr (S214.tr (S226.tr (S237.tr (S253.tr (S269.tr (S287.tr (S301.tr (S306.tr (S316.tr (S327.tr (S336.tr (S346.tr (S353.tr (S362.tr (S373.tr (S386.tr (S399.tr (S409.tr (S425.tr S430)))))))))))))))))))))))))))))))))))))))))))) rfl rfl
           refine DN.res (l := [.tmp 6]) Try.results4 (res_tmp rfl rfl) rfl ?_
           obtain rfl := Option.some.inj h
           exact ⟨K429, rfl, f432⟩
          | false =>
           intro h; replace h := cF h
           refine WC.cf rfl ?_
           refine WC.skip ?_
           refine DN.seq ?_
           refine WC.seq ?_
           refine WC.rs [(0, 2)] rfl ?_
           refine WO.pn 1 rfl ?_
           refine WO.fin ?_
           refine DN.seq ?_
           refine WC.seq ?_
           refine WC.rs [(0, 2), (1, 2), (2, 1), (3, 2)] rfl ?_
           refine WO.pn 2 rfl ?_
           obtain ⟨x153, hx153, h⟩ := Option.bind_eq_some_iff.mp h
           have f433 := f331.stp (S336.tr (S346.tr (S353.tr (S362.tr (S373.tr (S386.tr (S399.tr (S409.tr (S425.tr S430))))))))) rfl rfl
           refine WO.call rfl rfl rfl rfl rfl rfl Try.call30 (Ret.cast (by simp only [(hn314), List.cons_append, List.nil_append]) (l_heldInt64SS_ok (κ := fun b => mp [] 0 (K429 b)) (Sl.map f433.rdc (mp [] 0) rfl rfl) hx153)) ?_
           rintro _ w434 ⟨k435, rfl, e436⟩
           obtain ⟨K437, S438, m439⟩ := Ent.mixed (l := []) (κ := K429) e436 87 rfl
           refine ⟨trivial, ?_⟩
           refine WO.pn 1 rfl ?_
           refine WO.fin ?_
           refine DN.seq ?_
           refine WC.seq ?_
           refine WC.seq ?_
           refine WC.rs [(0, 2), (1, 2)] rfl ?_
           refine WO.pn 2 rfl ?_
           refine WO.fin ?_
           refine DN.seq ?_
           revert h
           cases ht441 : decide (x153 < 0) with
           | true =>
            intro h; replace h := cT h
            refine WC.ct rfl ?_
            refine WC.seq ?_
            refine WC.rs [(0, 2)] rfl ?_
            refine WO.pn 1 rfl ?_
            refine WO.fin ?_
            refine DN.seq ?_
            refine WC.ret ?_
            refine DN.retThen ?_
            have f442 := hE.stp (S3.tr (S7.tr (S11.tr (S20.tr (S32.tr (S37.tr (S46.tr (S57.tr (S70.tr (S83.tr (S97.tr (S104.tr (S107.tr (S118.tr (S125.tr (S128.tr (S130.tr (S139.tr (S152.tr (S162.tr (S178.tr (S183.tr (S186.tr (S198.tr (S209.tr (S214.tr (S226.tr (S237.tr (S253.tr (S269.tr (S287.tr (S301.tr (S306.tr (S316.tr (S327.tr (S336.tr (S346.tr (S353.tr (S362.tr (S373.tr (S386.tr (S399.tr (S409.tr (S425.tr (S430.tr S438))))))))))))))))))))))))))))))))))))))))))))) rfl rfl
            refine DN.res (l := [.tmp 6]) Try.results4 (res_tmp rfl rfl) rfl ?_
            obtain rfl := Option.some.inj h
            exact ⟨K437, rfl, f442⟩
           | false =>
            intro h; replace h := cF h
            refine WC.cf rfl ?_
            refine WC.skip ?_
            refine DN.seq ?_
            refine WC.seq ?_
            refine WC.rs [(0, 2), (1, 2), (2, 1), (3, 2)] rfl ?_
            refine WO.pn 2 rfl ?_
            obtain ⟨x158, hx158, h⟩ := Option.bind_eq_some_iff.mp h
            have f443 := f341.stp (S346.tr (S353.tr (S362.tr (S373.tr (S386.tr (S399.tr (S409.tr (S425.tr (S430.tr S438))))))))) rfl rfl
            refine WO.call rfl rfl rfl rfl rfl rfl Try.call31 (Ret.cast (by simp only [(hn325), List.cons_append, List.nil_append]) (l_heldPairS_ok (κ := fun b => mp [] 0 (K437 b)) (Sl.map f443.rdc (mp [] 0) rfl rfl) hx158)) ?_
            rintro _ w444 ⟨k445, rfl, e446⟩
            obtain ⟨K447, S448, m449⟩ := Ent.mixed (l := []) (κ := K437) e446 89 rfl
            refine ⟨trivial, ?_⟩
            refine WO.pn 1 rfl ?_
            refine WO.fin ?_
            refine DN.seq ?_
            refine WC.seq ?_
            refine WC.seq ?_
            refine WC.rs [(0, 2), (1, 2)] rfl ?_
            refine WO.pn 2 rfl ?_
            refine WO.fin ?_
            refine DN.seq ?_
            revert h
            cases ht451 : decide (x158 < 0) with
            | true =>
             intro h; replace h := cT h
             refine WC.ct rfl ?_
             refine WC.seq ?_
             refine WC.rs [(0, 2)] rfl ?_
             refine WO.pn 1 rfl ?_
             refine WO.fin ?_
             refine DN.seq ?_
             refine WC.ret ?_
             refine DN.retThen ?_
             have f452 := hE.stp (S3.tr (S7.tr (S11.tr (S20.tr (S32.tr (S37.tr (S46.tr (S57.tr (S70.tr (S83.tr (S97.tr (S104.tr (S107.tr (S118.tr (S125.tr (S128.tr (S130.tr (S139.tr (S152.tr (S162.tr (S178.tr (S183.tr (S186.tr (S198.tr (S209.tr (S214.tr (S226.tr (S237.tr (S253.tr (S269.tr (S287.tr (S301.tr (S306.tr (S316.tr (S327.tr (S336.tr (S346.tr (S353.tr (S362.tr (S373.tr (S386.tr (S399.tr (S409.tr (S425.tr (S430.tr (S438.tr S448)))))))))))))))))))))))))))))))))))))))))))))) rfl rfl
             refine DN.res (l := [.tmp 6]) Try.results4 (res_tmp rfl rfl) rfl ?_
             obtain rfl := Option.some.inj h
             exact ⟨K447, rfl, f452⟩
            | false =>
             intro h; replace h := cF h
             refine WC.cf rfl ?_
             refine WC.skip ?_
             refine DN.seq ?_
             refine WC.seq ?_
             refine WC.seq ?_
             refine WC.rs [(0, 2), (1, 2), (2, 2)] rfl ?_
             refine WO.pn 3 rfl ?_
             refine WO.fin ?_
             refine DN.seq ?_
             revert h
             cases ht453 : (x158 != x111.1) with
             | true =>
              intro h; replace h := cT h
              refine WC.ct rfl ?_
              refine WC.seq ?_
              refine WC.rs [(0, 2)] rfl ?_
              refine WO.pn 1 rfl ?_
              refine WO.fin ?_
              refine DN.seq ?_
              refine WC.ret ?_
              refine DN.retThen ?_
              have f454 := hE.stp (S3.tr (S7.tr (S11.tr (S20.tr (S32.tr (S37.tr (S46.tr (S57.tr (S70.tr (S83.tr (S97.tr (S104.tr (S107.tr (S118.tr (S125.tr (S128.tr (S130.tr (S139.tr (S152.tr (S162.tr (S178.tr (S183.tr (S186.tr (S198.tr (S209.tr (S214.tr (S226.tr (S237.tr (S253.tr (S269.tr (S287.tr (S301.tr (S306.tr (S316.tr (S327.tr (S336.tr (S346.tr (S353.tr (S362.tr (S373.tr (S386.tr (S399.tr (S409.tr (S425.tr (S430.tr (S438.tr S448)))))))))))))))))))))))))))))))))))))))))))))) rfl rfl
              refine DN.res (l := [.tmp 6]) Try.results4 (res_tmp rfl rfl) rfl ?_
              obtain rfl := Option.some.inj h
              exact ⟨K447, rfl, f454⟩
             | false =>
              intro h; replace h := cF h
              refine WC.cf rfl ?_
              refine WC.skip ?_
              refine DN.seq ?_
              refine WC.seq ?_
              refine WC.rs [(0, 2)] rfl ?_
              refine WO.pn 1 rfl ?_
              refine WO.fin ?_
              refine DN.seq ?_
              refine WC.ret ?_
              have f455 := hE.stp (S3.tr (S7.tr (S11.tr (S20.tr (S32.tr (S37.tr (S46.tr (S57.tr (S70.tr (S83.tr (S97.tr (S104.tr (S107.tr (S118.tr (S125.tr (S128.tr (S130.tr (S139.tr (S152.tr (S162.tr (S178.tr (S183.tr (S186.tr (S198.tr (S209.tr (S214.tr (S226.tr (S237.tr (S253.tr (S269.tr (S287.tr (S301.tr (S306.tr (S316.tr (S327.tr (S336.tr (S346.tr (S353.tr (S362.tr (S373.tr (S386.tr (S399.tr (S409.tr (S425.tr (S430.tr (S438.tr S448)))))))))))))))))))))))))))))))))))))))))))))) rfl rfl
              refine DN.res (l := [.tmp 6]) Try.results4 (res_tmp rfl rfl) rfl ?_
              obtain rfl := Option.some.inj h
              exact ⟨K447, rfl, f455⟩

end Go.Proofs.Ytnmjfjppgpkieaa
