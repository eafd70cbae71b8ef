/- The walks, part 4. By program. -/
import Derived.Test.YtnmjfjppgpkieaaFnsW42
import Derived.Test.YtnmjfjppgpkieaaFnsW43
set_option linter.unusedVariables false
set_option linter.unusedSimpArgs false
namespace Go.Proofs.Ytnmjfjppgpkieaa
open Go Go.Wk Go.Proofs
set_option maxRecDepth 100000
set_option maxHeartbeats 1000000

/- loop.example/g00869/laws.szDet -/
theorem l_szDet_ok {w : World} {κ : Col} {a0_0 : Option Addr} {u0_0 : Nat} {a0_1 : Option Addr} {u0_1 : Nat} {p0 : Det} {p1 : Int} (g0_0 : Rd (Rp.sl (Rp.int .i64)) κ w 0 a0_0 u0_0 p0.Next) (g0_1 : Rd Pair.rp κ w 0 a0_1 u0_1 p0.Pairs) {r : Int} (h : l_szDet p0 p1 = some r) : Ret Try.prog 19 [.agg #[.slice a0_0 p0.Next.length u0_0, .slice a0_1 p0.Pairs.length u0_1], .int .i64 p1] w (fun v w' => ∃ (κ' : Col), v = .int .i64 r ∧ Ent κ w κ' w') := by
 unfold l_szDet at h
 refine Ret.enter Try.func19 rfl Try.ntmps19 rfl ?_
 dsimp only [envOf]
 have hE := Ent.refl κ w
 refine WC.seq ?_
 refine WC.rs [(0, 1), (1, 2)] rfl ?_
 refine WO.box (κ := κ) 2 rfl rfl rfl rfl rfl rfl rfl fun b2 w1 K2 S3 f4 => ⟨trivial, ?_⟩
 refine WO.pn 1 rfl ?_
 refine WO.fin ?_
 refine DN.seq ?_
 refine WC.seq ?_
 refine WC.rs [(0, 2), (1, 1), (2, 2), (3, 1), (4, 2)] rfl ?_
 refine WO.k2 rfl rfl rfl rfl (rn_fieldAddr Try.runUnderlying49 rfl Try.sizeOf24 rfl rfl) ?_
 refine WO.k1 trivial rfl rfl rfl rfl (rn_ld Try.isAgg24 rfl rfl (hvE (f4.ld 0 rfl rfl))) ?_
 refine WO.pn 1 rfl ?_
 obtain ⟨x8, hx8, h⟩ := Option.bind_eq_some_iff.mp h
 have f5 := g0_0.stp S3 rfl rfl
 refine WO.call rfl rfl rfl rfl rfl rfl Try.call46 (l_szInt64SS_ok (κ := fun b => mp [] 0 (K2 b)) (Sl.map f5 (mp [] 0) rfl rfl) hx8) ?_
 rintro _ w6 ⟨k7, rfl, e8⟩
 obtain ⟨K9, S10, m11⟩ := Ent.mixed (l := []) (κ := K2) e8 3 rfl
 refine ⟨trivial, ?_⟩
 refine WO.pn 1 rfl ?_
 refine WO.fin ?_
 refine DN.seq ?_
 refine WC.seq ?_
 refine WC.seq ?_
 refine WC.rs [(0, 2), (1, 2)] rfl ?_
 refine WO.pn 2 rfl ?_
 refine WO.fin ?_
 refine DN.seq ?_
 revert h
 cases ht13 : decide (x8 < 0) with
 | true =>
  intro h; replace h := cT h
  refine WC.ct rfl ?_
  refine WC.seq ?_
  refine WC.rs [(0, 2)] rfl ?_
  refine WO.pn 1 rfl ?_
  refine WO.fin ?_
  refine DN.seq ?_
  refine WC.ret ?_
  refine DN.retThen ?_
  have f14 := hE.stp (S3.tr S10) rfl rfl
  refine DN.res (l := [.tmp 4]) Try.results19 (res_tmp rfl rfl) rfl ?_
  obtain rfl := Option.some.inj h
  exact ⟨K9, rfl, f14⟩
 | false =>
  intro h; replace h := cF h
  refine WC.cf rfl ?_
  refine WC.skip ?_
  refine DN.seq ?_
  refine WC.seq ?_
  refine WC.rs [(0, 2), (1, 1), (2, 2), (3, 1), (4, 2)] rfl ?_
  refine WO.k2 rfl rfl rfl rfl (rn_fieldAddr Try.runUnderlying49 rfl Try.sizeOf47 rfl rfl) ?_
  have f15 := f4.stp S10 rfl rfl
  refine WO.k1 trivial rfl rfl rfl rfl (rn_ld Try.isAgg47 rfl rfl (hvE (f15.ld 1 rfl rfl))) ?_
  refine WO.pn 1 rfl ?_
  obtain ⟨x14, hx14, h⟩ := Option.bind_eq_some_iff.mp h
  have f16 := g0_1.stp (S3.tr S10) rfl rfl
  refine WO.call rfl rfl rfl rfl rfl rfl Try.call58 (l_szPairS_ok (κ := fun b => mp [] 0 (K9 b)) (Sl.map f16 (mp [] 0) rfl rfl) hx14) ?_
  rintro _ w17 ⟨k18, rfl, e19⟩
  obtain ⟨K20, S21, m22⟩ := Ent.mixed (l := []) (κ := K9) e19 5 rfl
  refine ⟨trivial, ?_⟩
  refine WO.pn 1 rfl ?_
  refine WO.fin ?_
  refine DN.seq ?_
  refine WC.seq ?_
  refine WC.seq ?_
  refine WC.rs [(0, 2), (1, 2)] rfl ?_
  refine WO.pn 2 rfl ?_
  refine WO.fin ?_
  refine DN.seq ?_
  revert h
  cases ht24 : decide (x14 < 0) with
  | true =>
   intro h; replace h := cT h
   refine WC.ct rfl ?_
   refine WC.seq ?_
   refine WC.rs [(0, 2)] rfl ?_
   refine WO.pn 1 rfl ?_
   refine WO.fin ?_
   refine DN.seq ?_
   refine WC.ret ?_
   refine DN.retThen ?_
   have f25 := hE.stp (S3.tr (S10.tr S21)) rfl rfl
   refine DN.res (l := [.tmp 4]) Try.results19 (res_tmp rfl rfl) rfl ?_
   obtain rfl := Option.some.inj h
   exact ⟨K20, rfl, f25⟩
  | false =>
   intro h; replace h := cF h
   refine WC.cf rfl ?_
   refine WC.skip ?_
   refine DN.seq ?_
   refine WC.seq ?_
   refine WC.rs [(0, 2), (1, 2)] rfl ?_
   refine WO.pn 2 rfl ?_
   refine WO.fin ?_
   refine DN.seq ?_
   refine WC.ret ?_
   have f26 := hE.stp (S3.tr (S10.tr S21)) rfl rfl
   refine DN.res (l := [.tmp 4]) Try.results19 (res_tmp rfl rfl) rfl ?_
   obtain rfl := Option.some.inj h
   exact ⟨K20, rfl, f26⟩

/- loop.example/g00869/laws.toDet -/
theorem l_toDet_ok {w : World} {κ : Col} {a0_0 : Option Addr} {u0_0 : Nat} {a0_1 : Option Addr} {u0_1 : Nat} {p0 : Det} (g0_0 : Rd (Rp.sl (Rp.int .i64)) κ w 0 a0_0 u0_0 p0.Next) (g0_1 : Rd Pair.rp κ w 0 a0_1 u0_1 p0.Pairs) {r : Det} (h : l_toDet p0 = some r) : Ret Try.prog 21 [.agg #[.slice a0_0 p0.Next.length u0_0, .slice a0_1 p0.Pairs.length u0_1]] w (fun v w' => ∃ (κ' : Col) (ra0 : Option Addr) (ru0 : Nat) (ra1 : Option Addr) (ru1 : Nat), v = .agg #[.slice ra0 r.Next.length ru0, .slice ra1 r.Pairs.length ru1] ∧ Ent κ w κ' w' ∧ Oc (Ep.own (Ep.int .i64) 2) 28 κ' w' 2 ra0 ru0 r.Next ∧ Oc Pair.ep113 113 κ' w' 3 ra1 ru1 r.Pairs) := by
 unfold l_toDet at h
 refine Ret.enter Try.func21 rfl Try.ntmps21 rfl ?_
 dsimp only [envOf]
 have hE := Ent.refl κ w
 refine WC.seq ?_
 refine WC.rs [(0, 1), (1, 1)] rfl ?_
 refine WO.box (κ := κ) 2 rfl rfl rfl rfl rfl rfl rfl fun b1 w1 K2 S3 f4 => ⟨trivial, ?_⟩
 refine WO.alloc (κ := K2) 3 rfl rfl rfl rfl rfl Try.zeroValue55 rfl fun b2 w5 K6 S7 f8 => ⟨trivial, ?_⟩
 refine WO.fin ?_
 refine DN.seq ?_
 refine WC.seq ?_
 refine WC.rs [(0, 1)] rfl ?_
 refine WO.alloc (κ := K6) 4 rfl rfl rfl rfl rfl Try.zeroValue55 rfl fun b3 w9 K10 S11 f12 => ⟨trivial, ?_⟩
 refine WO.fin ?_
 refine DN.seq ?_
 refine WC.seq ?_
 refine WC.rs [(0, 2), (1, 1), (2, 1), (3, 2), (4, 1)] rfl ?_
 refine WO.k2 rfl rfl rfl rfl (rn_fieldAddr Try.runUnderlying49 rfl Try.sizeOf24 rfl rfl) ?_
 have f13 := f4.stp (S7.tr S11) rfl rfl
 refine WO.k1 trivial rfl rfl rfl rfl (rn_ld Try.isAgg24 rfl rfl (hvE (f13.ld 0 rfl rfl))) ?_
 obtain ⟨x6, hx6, h⟩ := Option.bind_eq_some_iff.mp h
 have f14 := g0_0.stp (S3.tr (S7.tr S11)) rfl rfl
 refine WO.call rfl rfl rfl rfl rfl rfl Try.call51 (l_toInt64SS_ok (κ := fun b => mp [] 0 (K10 b)) (Sl.map f14 (mp [] 0) rfl rfl) hx6) ?_
 rintro _ w15 ⟨k16, a6_0, u6_0, rfl, e17, f18⟩
 obtain ⟨K19, S20, m21⟩ := Ent.mixed (l := []) (κ := K10) e17 5 rfl
 refine ⟨trivial, ?_⟩
 have f23 := f18.mx (no_own (no_int _) _) m21 rfl (rfl : 5 + 2 = 7)
 refine WO.k2 rfl rfl rfl rfl (rn_fieldAddr Try.runUnderlying55 rfl Try.sizeOf24 rfl rfl) ?_
 have f24 := f12.stp S20 rfl rfl
 refine WO.stB (κ := K19) 4 (off := 0) (vc := [.slice a6_0 x6.length u6_0]) (cs' := [.slice a6_0 x6.length u6_0, .slice none 0 0]) rfl rfl rfl rfl rfl rfl rfl Try.sizeOf24 rfl rfl f24 rfl rfl fun w25 S26 f27 => ⟨trivial, ?_⟩
 refine WO.fin ?_
 refine DN.seq ?_
 refine WC.seq ?_
 refine WC.rs [(0, 2), (1, 1), (2, 1), (3, 2), (4, 1)] rfl ?_
 refine WO.k2 rfl rfl rfl rfl (rn_fieldAddr Try.runUnderlying49 rfl Try.sizeOf47 rfl rfl) ?_
 have f28 := f13.stp (S20.tr S26) rfl rfl
 refine WO.k1 trivial rfl rfl rfl rfl (rn_ld Try.isAgg47 rfl rfl (hvE (f28.ld 1 rfl rfl))) ?_
 obtain ⟨x10, hx10, h⟩ := Option.bind_eq_some_iff.mp h
 have f29 := g0_1.stp (S3.tr (S7.tr (S11.tr (S20.tr S26)))) rfl rfl
 refine WO.call rfl rfl rfl rfl rfl rfl Try.call63 (l_toPairS_ok (κ := fun b => mp [] 0 (K19 b)) (Sl.map f29 (mp [] 0) rfl rfl) hx10) ?_
 rintro _ w30 ⟨k31, a10_0, u10_0, rfl, e32, f33⟩
 obtain ⟨K34, S35, m36⟩ := Ent.mixed (l := []) (κ := K19) e32 8 rfl
 refine ⟨trivial, ?_⟩
 have f38 := f33.mx Pair.no113 m36 rfl (rfl : 8 + 2 = 10)
 refine WO.k2 rfl rfl rfl rfl (rn_fieldAddr Try.runUnderlying55 rfl Try.sizeOf51 rfl rfl) ?_
 have f39 := f27.stp S35 rfl rfl
 refine WO.stB (κ := K34) 4 (off := 1) (vc := [.slice a10_0 x10.length u10_0]) (cs' := [.slice a6_0 x6.length u6_0, .slice a10_0 x10.length u10_0]) rfl rfl rfl rfl rfl rfl rfl Try.sizeOf51 rfl rfl f39 rfl rfl fun w40 S41 f42 => ⟨trivial, ?_⟩
 refine WO.fin ?_
 refine DN.seq ?_
 refine WC.seq ?_
 refine WC.rs [(0, 1), (1, 1)] rfl ?_
 refine WO.k1 trivial rfl rfl rfl rfl (rn_la (cs := [.slice a6_0 x6.length u6_0, .slice a10_0 x10.length u10_0]) Try.isAgg55 Try.sizeOf55 rfl rfl rfl (haE f42.cells)) ?_
 have f43 := f8.stp (S11.tr (S20.tr (S26.tr (S35.tr S41)))) rfl rfl
 refine WO.stB0 (κ := K34) 3 (vc := [.slice a6_0 x6.length u6_0, .slice a10_0 x10.length u10_0]) rfl rfl rfl rfl rfl rfl rfl Try.sizeOf55 rfl rfl f43 rfl fun w44 S45 f46 => ⟨trivial, ?_⟩
 refine WO.fin ?_
 refine DN.seq ?_
 refine WC.ret ?_
 have f47 := hE.stp (S3.tr (S7.tr (S11.tr (S20.tr (S26.tr (S35.tr (S41.tr S45))))))) rfl rfl
 have f48 := f23.stp (S26.tr (S35.tr (S41.tr S45))) rfl rfl
 have f49 := f38.stp (S41.tr S45) rfl rfl
 refine DN.res (l := [.cell 2 55]) Try.results21 (res_cellA rfl f46 Try.isAgg55 Try.sizeOf55 rfl rfl) rfl ?_
 obtain rfl := Option.some.inj h
 exact ⟨(fun b => ren [(7, 2), (10, 3)] (K34 b)), a6_0, u6_0, a10_0, u10_0, rfl, (f47.map (ren [(7, 2), (10, 3)]) rfl rfl), (f48.map (ren [(7, 2), (10, 3)]) rfl rfl), (f49.map (ren [(7, 2), (10, 3)]) rfl rfl)⟩

/- loop.example/g00869/spec.SetOk -/
theorem s_SetOk_ok {w : World} {κ : Col} {a0 : Option Addr} {u0 : Nat} {p0 : (List Int)} {p1 : Int} (g0 : Rd (Rp.int .i64) κ w 0 a0 u0 p0) {r : Bool} (h : s_SetOk p0 p1 = some r) : Ret Try.prog 129 [.slice a0 p0.length u0, .int .i64 p1] w (fun v w' => ∃ (κ' : Col), v = .bool r ∧ Ent κ w κ' w') := by
 unfold s_SetOk at h
 refine Ret.enter Try.func129 rfl Try.ntmps129 rfl ?_
 dsimp only [envOf]
 have hE := Ent.refl κ w
 refine WC.seq ?_
 refine WC.rs [(0, 2)] rfl ?_
 refine WO.pn 1 rfl ?_
 refine WO.fin ?_
 refine DN.seq ?_
 refine WC.seq ?_
 refine WC.rs [(0, 2), (1, 1), (2, 2), (3, 2), (4, 2), (5, 1), (6, 2), (7, 2)] rfl ?_
 refine WO.pn 1 rfl ?_
 obtain ⟨x6, hx6, h⟩ := Option.bind_eq_some_iff.mp h
 refine WO.call rfl rfl rfl rfl rfl rfl Try.call96 (s_l1In_ok (κ := fun b => mp [] 0 (κ b)) hx6) ?_
 rintro _ w1 ⟨k2, rfl, e3⟩
 obtain ⟨K4, S5, m6⟩ := Ent.mixed (l := []) (κ := κ) e3 2 rfl
 refine ⟨trivial, ?_⟩
 refine WO.pn 1 rfl ?_
 obtain ⟨p11, h, hK8⟩ := Option.bind_eq_some_iff.mp h
 refine WO.meet [(3, 2), (4, 2), (5, 1), (6, 2)] [(7, 2)] (fun L w' => L = [(4, .bool false), (11, .bool p11)] ∧ ∃ κ', Stp [] K4 w1 κ' w') trivial ?_ ?_
 ·
  revert h
  cases ht9 : x6 with
  | true =>
   intro h; replace h := cT h
   refine WO.pn 2 rfl ?_
   obtain ⟨x10, hx10, h⟩ := Option.bind_eq_some_iff.mp h
   have f10 := g0.stp S5 rfl rfl
   refine WO.call rfl rfl rfl rfl rfl rfl Try.call136 (s_l1Set_ok (κ := fun b => mp [] 0 (K4 b)) (Sl.map f10 (mp [] 0) rfl rfl) hx10) ?_
   rintro _ w11 ⟨k12, rfl, e13⟩
   obtain ⟨K14, S15, m16⟩ := Ent.mixed (l := []) (κ := K4) e13 4 rfl
   refine ⟨trivial, ?_⟩
   refine WO.pn 1 rfl ?_
   obtain rfl := Option.some.inj h
   exact WO.met _ trivial ⟨rfl, _, S15.wk rfl⟩ fun a ha => (ha.more (ha.more ha.nil rfl) rfl)
  | false =>
   intro h; replace h := cF h
   refine WO.pn 2 rfl ?_
   refine WO.ls rfl rfl rfl rfl ?_
   refine WO.pn 1 rfl ?_
   obtain rfl := Option.some.inj h
   exact WO.met _ trivial ⟨rfl, _, (Stp.refl _ _).wk rfl⟩ fun a ha => (ha.more (ha.more ha.nil rfl) rfl)
 rintro _ w18 _ ⟨rfl, K19, S20⟩
 have h := hK8
 refine WO.pn 1 rfl ?_
 refine WO.fin ?_
 refine DN.seq ?_
 refine WC.ret ?_
 have f21 := hE.stp (S5.tr S20) rfl rfl
 refine DN.res (l := [.tmp 4]) Try.results129 (res_tmp rfl rfl) rfl ?_
 obtain rfl := Option.some.inj h
 exact ⟨K19, rfl, f21⟩

/- loop.example/g00869/spec.PairsOk -/
theorem s_PairsOk_ok {w : World} {κ : Col} {a0 : Option Addr} {u0 : Nat} {p0 : (List Pair)} {p1 : Int} (g0 : Rd Pair.rp κ w 0 a0 u0 p0) {r : Bool} (h : s_PairsOk p0 p1 = some r) : Ret Try.prog 101 [.slice a0 p0.length u0, .int .i64 p1] w (fun v w' => ∃ (κ' : Col), v = .bool r ∧ Ent κ w κ' w') := by
 unfold s_PairsOk at h
 refine Ret.enter Try.func101 rfl Try.ntmps101 rfl ?_
 dsimp only [envOf]
 have hE := Ent.refl κ w
 refine WC.seq ?_
 refine WC.rs [(0, 2)] rfl ?_
 refine WO.pn 1 rfl ?_
 refine WO.fin ?_
 refine DN.seq ?_
 refine WC.seq ?_
 refine WC.seq ?_
 refine WC.rs [(0, 2), (1, 1), (2, 2), (3, 2), (4, 2), (5, 2), (6, 2), (7, 2)] rfl ?_
 refine WO.pn 1 rfl ?_
 obtain ⟨x7, hx7, h⟩ := Option.bind_eq_some_iff.mp h
 refine WO.call rfl rfl rfl rfl rfl rfl Try.call96 (s_l1In_ok (κ := fun b => mp [] 0 (κ b)) hx7) ?_
 rintro _ w1 ⟨k2, rfl, e3⟩
 obtain ⟨K4, S5, m6⟩ := Ent.mixed (l := []) (κ := κ) e3 2 rfl
 refine ⟨trivial, ?_⟩
 refine WO.pn 2 rfl ?_
 obtain ⟨p13, h, hK8⟩ := Option.bind_eq_some_iff.mp h
 refine WO.meet [(4, 2), (5, 2), (6, 2), (7, 2)] [] (fun L w' => L = [(0, .slice a0 p0.length u0), (1, .int .i64 p1), (13, .bool p13)] ∧ ∃ κ', Stp [] K4 w1 κ' w') trivial ?_ ?_
 ·
  revert h
  cases ht9 : (!x7) with
  | true =>
   intro h; replace h := cT h
   refine WO.pn 4 rfl ?_
   obtain rfl := Option.some.inj h
   exact WO.met _ trivial ⟨rfl, _, (Stp.refl _ _).wk rfl⟩ fun a ha => (ha.more (ha.more (ha.more ha.nil rfl) rfl) rfl)
  | false =>
   intro h; replace h := cF h
   refine WO.pn 1 rfl ?_
   refine WO.k2 rfl rfl rfl rfl (rn_len Try.runUnderlying51 rfl rfl) ?_
   refine WO.pn 2 rfl ?_
   obtain rfl := Option.some.inj h
   exact WO.met _ trivial ⟨rfl, _, (Stp.refl _ _).wk rfl⟩ fun a ha => (ha.more (ha.more (ha.more ha.nil rfl) rfl) rfl)
 rintro _ w10 _ ⟨rfl, K11, S12⟩
 have h := hK8
 refine WO.fin ?_
 refine DN.seq ?_
 revert h
 cases ht13 : p13 with
 | true =>
  intro h; replace h := cT h
  refine WC.ct rfl ?_
  refine WC.seq ?_
  refine WC.rs [(0, 2)] rfl ?_
  refine WO.pn 1 rfl ?_
  refine WO.fin ?_
  refine DN.seq ?_
  refine WC.ret ?_
  refine DN.retThen ?_
  have f14 := hE.stp (S5.tr S12) rfl rfl
  refine DN.res (l := [.tmp 4]) Try.results101 (res_tmp rfl rfl) rfl ?_
  obtain rfl := Option.some.inj h
  exact ⟨K11, rfl, f14⟩
 | false =>
  intro h; replace h := cF h
  refine WC.cf rfl ?_
  refine WC.skip ?_
  refine DN.seq ?_
  refine WC.seq ?_
  refine WC.seq ?_
  refine WC.rs [(0, 2)] rfl ?_
  refine WO.pn 1 rfl ?_
  refine WO.fin ?_
  refine DN.seq ?_
  have hN15 : (p0.length : Int) ≤ 9223372036854775807 := g0.len_le
  obtain ⟨q2, hq17, hK16⟩ := Option.bind_eq_some_iff.mp h
  clear h
  refine WC.meet (fun L w' => ∃ (κ' : Col), L = [] ∧ Stp [] K11 w10 κ' w' ∧ q2 = Sum.inr ()) ?_ ?_
  ·
   refine WC.block ?_
   refine WC.loop (fun k L w' => ∃ (κ' : Col) (v5 : Int), L = [(0, .slice a0 p0.length u0), (1, .int .i64 p1), (5, .int .i64 v5)] ∧ Stp [] K11 w10 κ' w' ∧ 0 ≤ v5 ∧ Int.toNat ((p0.length : Int) - v5) = k ∧ cntM (s_PairsOk_b0 p0 p1) k v5 () = some q2) ⟨_, _, ⟨K11, 0, rfl, (Stp.refl _ _).wk rfl, (by decide), (by simp), hq17⟩, fun a ha => (ha.more (ha.more (ha.more ha.nil rfl) rfl) rfl)⟩ ?_
   rintro k _ w21 ⟨K22, v5, rfl, S23, hj15, hJ15, h⟩
   rcases k with _ | k
   ·
    have hk24 := h; obtain ⟨o15, h⟩ := ex_eq (Sum.inr (Sum.inl ()) : Bool ⊕ ((Unit) ⊕ (Unit)))
    have hc15 : decide (v5 < (p0.length : Int)) = false := decide_eq_false (by omega)
    refine WC.seq ?_
    refine WC.seq ?_
    refine WC.rs [(0, 2), (1, 2), (2, 2), (3, 2)] rfl ?_
    refine WO.pn 2 rfl ?_
    refine WO.k2 rfl rfl rfl rfl (rn_len Try.runUnderlying51 rfl rfl) ?_
    refine WO.pn 1 rfl ?_
    refine WO.fin ?_
    refine DN.seq ?_
    refine WC.cf' rfl hc15 ?_
    refine WC.exit ?_
    refine DN.exitThen ?_
    refine DN.exitThen ?_
    obtain rfl := Option.some.inj h
    have h := hk24
    refine DN.hit ?_
    obtain rfl := Option.some.inj h
    exact DN.meet _ ⟨K22, rfl, S23.wk rfl, rfl⟩ fun a ha => ha.nil
   ·
    obtain ⟨o15, h, hk24⟩ := Option.bind_eq_some_iff.mp h; unfold s_PairsOk_b0 at h
    have hc15 : decide (v5 < (p0.length : Int)) = true := decide_eq_true (by omega)
    refine WC.seq ?_
    refine WC.seq ?_
    refine WC.rs [(0, 2), (1, 2), (2, 2), (3, 2)] rfl ?_
    refine WO.pn 2 rfl ?_
    refine WO.k2 rfl rfl rfl rfl (rn_len Try.runUnderlying51 rfl rfl) ?_
    refine WO.pn 1 rfl ?_
    refine WO.fin ?_
    refine DN.seq ?_
    refine WC.ct' rfl hc15 ?_
    refine WC.skip ?_
    refine DN.seq ?_
    refine WC.seq ?_
    refine WC.block ?_
    refine WC.seq ?_
    refine WC.rs [(0, 2), (1, 2), (2, 2), (3, 2), (4, 1), (5, 2), (6, 1), (7, 2), (8, 2), (9, 2), (10, 2), (11, 2), (12, 2), (13, 1), (14, 2), (15, 1), (16, 2), (17, 2)] rfl ?_
    refine WO.pn 2 rfl ?_
    obtain ⟨x22, hx22, h⟩ := Option.bind_eq_some_iff.mp h
    refine WO.k2 rfl rfl rfl rfl (rn_index g0 hx22 Try.runUnderlying51 Try.sizeOf113 rfl rfl rfl rfl) ?_
    refine WO.k2 rfl rfl rfl rfl (rn_fieldAddr Try.runUnderlying113 rfl Try.sizeOf28 rfl rfl) ?_
    have f25 := g0.stp (S5.tr (S12.tr S23)) rfl rfl
    obtain ⟨cse26, hre26, hle26⟩ := (f25).gSt hx22
    obtain ⟨ae26_0, ue26_0, ae26_1, ue26_1, rfl, fe26_0, fe26_1⟩ := Pair.un hre26
    refine WO.k1 trivial rfl rfl rfl rfl (rn_ld Try.isAgg28 rfl rfl (hvE (fun w' hw' => hle26 w' hw' 0 _ rfl))) ?_
    refine WO.pn 1 rfl ?_
    obtain ⟨x26, hx26, h⟩ := Option.bind_eq_some_iff.mp h
    refine WO.call rfl rfl rfl rfl rfl rfl Try.call129 (s_SetOk_ok (κ := fun b => mp [] 0 (K22 b)) (Sl.map fe26_0 (mp [] 0) rfl rfl) hx26) ?_
    rintro _ w27 ⟨k28, rfl, e29⟩
    obtain ⟨K30, S31, m32⟩ := Ent.mixed (l := []) (κ := K22) e29 4 rfl
    refine ⟨trivial, ?_⟩
    refine WO.pn 2 rfl ?_
    obtain ⟨p37, h, hK34⟩ := Option.bind_eq_some_iff.mp h
    refine WO.meet [(9, 2), (10, 2), (11, 2), (12, 2), (13, 1), (14, 2), (15, 1), (16, 2), (17, 2)] [] (fun L w' => L = [(0, .slice a0 p0.length u0), (1, .int .i64 p1), (5, .int .i64 v5), (37, .bool p37)] ∧ ∃ κ', Stp [] K30 w27 κ' w') trivial ?_ ?_
    ·
     revert h
     cases ht35 : (!x26) with
     | true =>
      intro h; replace h := cT h
      refine WO.pn 4 rfl ?_
      refine WO.ls rfl rfl rfl rfl ?_
      refine WO.pn 1 rfl ?_
      refine WO.ls rfl rfl rfl rfl ?_
      refine WO.pn 2 rfl ?_
      obtain rfl := Option.some.inj h
      exact WO.met _ trivial ⟨rfl, _, (Stp.refl _ _).wk rfl⟩ fun a ha => (ha.more (ha.more (ha.more (ha.more ha.nil rfl) rfl) rfl) rfl)
     | false =>
      intro h; replace h := cF h
      refine WO.pn 2 rfl ?_
      obtain ⟨x31, hx31, h⟩ := Option.bind_eq_some_iff.mp h
      refine WO.k2 rfl rfl rfl rfl (rn_index f25 hx31 Try.runUnderlying51 Try.sizeOf113 rfl rfl rfl rfl) ?_
      refine WO.k2 rfl rfl rfl rfl (rn_fieldAddr Try.runUnderlying113 rfl Try.sizeOf28 rfl rfl) ?_
      have f36 := f25.stp S31 rfl rfl
      obtain ⟨cse37, hre37, hle37⟩ := (f36).gSt hx31
      obtain ⟨ae37_0, ue37_0, ae37_1, ue37_1, rfl, fe37_0, fe37_1⟩ := Pair.un hre37
      refine WO.k1 trivial rfl rfl rfl rfl (rn_ld Try.isAgg28 rfl rfl (hvE (fun w' hw' => hle37 w' hw' 1 _ rfl))) ?_
      refine WO.pn 1 rfl ?_
      obtain ⟨x35, hx35, h⟩ := Option.bind_eq_some_iff.mp h
      refine WO.call rfl rfl rfl rfl rfl rfl Try.call129 (s_SetOk_ok (κ := fun b => mp [] 0 (K30 b)) (Sl.map fe37_1 (mp [] 0) rfl rfl) hx35) ?_
      rintro _ w38 ⟨k39, rfl, e40⟩
      obtain ⟨K41, S42, m43⟩ := Ent.mixed (l := []) (κ := K30) e40 6 rfl
      refine ⟨trivial, ?_⟩
      refine WO.pn 2 rfl ?_
      obtain rfl := Option.some.inj h
      exact WO.met _ trivial ⟨rfl, _, S42.wk rfl⟩ fun a ha => (ha.more (ha.more (ha.more (ha.more ha.nil rfl) rfl) rfl) rfl)
    rintro _ w45 _ ⟨rfl, K46, S47⟩
    have h := hK34
    refine WO.fin ?_
    refine DN.seq ?_
    revert h
    cases ht48 : p37 with
    | true =>
     intro h; replace h := cT h
     refine WC.ct rfl ?_
     refine WC.seq ?_
     refine WC.rs [(0, 2)] rfl ?_
     refine WO.pn 1 rfl ?_
     refine WO.fin ?_
     refine DN.seq ?_
     refine WC.ret ?_
     refine DN.retBlock ?_
     refine DN.retThen ?_
     refine DN.retThen ?_
     obtain rfl := Option.some.inj h
     obtain rfl := Option.some.inj hk24
     have h := hK16
     dsimp only [aft] at h
     refine DN.retBlock ?_
     refine DN.retMeet ?_
     refine DN.retThen ?_
     have f49 := hE.stp (S5.tr (S12.tr (S23.tr (S31.tr S47)))) rfl rfl
     refine DN.res (l := [.tmp 4]) Try.results101 (res_tmp rfl rfl) rfl ?_
     obtain rfl := Option.some.inj h
     exact ⟨K46, rfl, f49⟩
    | false =>
     intro h; replace h := cF h
     refine WC.cf rfl ?_
     refine WC.skip ?_
     refine DN.block ?_
     refine DN.seq ?_
     refine WC.rs [(0, 2), (1, 2), (2, 2)] rfl ?_
     refine WO.pn 3 rfl ?_
     refine WO.fin ?_
     have hw15 : IntKind.wrap .i64 (v5 + 1) = v5 + 1 := wr1 hj15 (of_decide_eq_true hc15) hN15
     rw [hw15]
     have hc15 := of_decide_eq_true hc15
     obtain rfl := Option.some.inj h
     refine DN.round fun a ha => ?_
     exact ⟨k, _, Nat.lt_succ_self _, ⟨K46, v5 + 1, rfl, (S23.tr (S31.tr S47)).wk rfl, by omega, by omega, hk24⟩, (ha.more (ha.more (ha.more ha.nil rfl) rfl) rfl)⟩
  rintro _ w18 ⟨K19, rfl, S20, rfl⟩
  have h := hK16
  dsimp only [aft] at h
  refine DN.seq ?_
  refine WC.seq ?_
  refine WC.rs [(0, 2)] rfl ?_
  refine WO.pn 1 rfl ?_
  refine WO.fin ?_
  refine DN.seq ?_
  refine WC.ret ?_
  have f50 := hE.stp (S5.tr (S12.tr S20)) rfl rfl
  refine DN.res (l := [.tmp 4]) Try.results101 (res_tmp rfl rfl) rfl ?_
  obtain rfl := Option.some.inj h
  exact ⟨K19, rfl, f50⟩

/- loop.example/g00869/spec.DetOk -/
theorem s_DetOk_ok {w : World} {κ : Col} {p0 : Sig} {a1_0 : Option Addr} {u1_0 : Nat} {a1_1 : Option Addr} {u1_1 : Nat} {p1 : Det} (g1_0 : Rd (Rp.sl (Rp.int .i64)) κ w 0 a1_0 u1_0 p1.Next) (g1_1 : Rd Pair.rp κ w 0 a1_1 u1_1 p1.Pairs) {r : Bool} (h : s_DetOk p0 p1 = some r) : Ret Try.prog 60 [.agg #[.int .i64 p0.In, .int .i64 p0.Out], .agg #[.slice a1_0 p1.Next.length u1_0, .slice a1_1 p1.Pairs.length u1_1]] w (fun v w' => ∃ (κ' : Col), v = .bool r ∧ Ent κ w κ' w') := by
 unfold s_DetOk at h
 refine Ret.enter Try.func60 rfl Try.ntmps60 rfl ?_
 dsimp only [envOf]
 have hE := Ent.refl κ w
 refine WC.seq ?_
 refine WC.rs [(0, 1), (1, 1), (2, 2)] rfl ?_
 refine WO.box (κ := κ) 2 rfl rfl rfl rfl rfl rfl rfl fun b2 w1 K2 S3 f4 => ⟨trivial, ?_⟩
 refine WO.box (κ := K2) 3 rfl rfl rfl rfl rfl rfl rfl fun b3 w5 K6 S7 f8 => ⟨trivial, ?_⟩
 refine WO.pn 1 rfl ?_
 refine WO.fin ?_
 refine DN.seq ?_
 refine WC.seq ?_
 refine WC.rs [(0, 2), (1, 1), (2, 2), (3, 2)] rfl ?_
 refine WO.k2 rfl rfl rfl rfl (rn_fieldAddr Try.runUnderlying55 rfl Try.sizeOf24 rfl rfl) ?_
 refine WO.k1 trivial rfl rfl rfl rfl (rn_ld Try.isAgg24 rfl rfl (hvE (f8.ld 0 rfl rfl))) ?_
 refine WO.k2 rfl rfl rfl rfl (rn_len Try.runUnderlying24 rfl rfl) ?_
 refine WO.pn 1 rfl ?_
 refine WO.fin ?_
 refine DN.seq ?_
 refine WC.seq ?_
 refine WC.seq ?_
 refine WC.rs [(0, 1), (1, 1), (2, 2), (3, 2), (4, 2), (5, 1), (6, 2), (7, 2)] rfl ?_
 have f9 := f4.stp S7 rfl rfl
 refine WO.k1 trivial rfl rfl rfl rfl (rn_la (cs := [.int .i64 p0.In, .int .i64 p0.Out]) Try.isAgg35 Try.sizeOf35 rfl rfl rfl (haE f9.cells)) ?_
 obtain ⟨x11, hx11, h⟩ := Option.bind_eq_some_iff.mp h
 refine WO.call rfl rfl rfl rfl rfl rfl Try.call95 (s_SigOk_ok (κ := fun b => mp [] 0 (K6 b)) (p0 := p0) hx11) ?_
 rintro _ w10 ⟨k11, rfl, e12⟩
 obtain ⟨K13, S14, m15⟩ := Ent.mixed (l := []) (κ := K6) e12 4 rfl
 refine ⟨trivial, ?_⟩
 refine WO.pn 2 rfl ?_
 obtain ⟨p17, h, hK17⟩ := Option.bind_eq_some_iff.mp h
 refine WO.meet [(4, 2), (5, 1), (6, 2), (7, 2)] [] (fun L w' => L = [(2, .pointer (some ⟨b2, 0, none⟩)), (3, .pointer (some ⟨b3, 0, none⟩)), (5, .int .i64 (p1.Next.length : Int)), (17, .bool p17)] ∧ ∃ κ', Stp [] K13 w10 κ' w') trivial ?_ ?_
 ·
  revert h
  cases ht18 : (!x11) with
  | true =>
   intro h; replace h := cT h
   refine WO.pn 1 rfl ?_
   refine WO.ls rfl rfl rfl rfl ?_
   refine WO.pn 2 rfl ?_
   obtain rfl := Option.some.inj h
   exact WO.met _ trivial ⟨rfl, _, (Stp.refl _ _).wk rfl⟩ fun a ha => (ha.more (ha.more (ha.more (ha.more ha.nil rfl) rfl) rfl) rfl)
  | false =>
   intro h; replace h := cF h
   refine WO.pn 1 rfl ?_
   obtain ⟨x15, hx15, h⟩ := Option.bind_eq_some_iff.mp h
   refine WO.call rfl rfl rfl rfl rfl rfl Try.call96 (s_l1In_ok (κ := fun b => mp [] 0 (K13 b)) hx15) ?_
   rintro _ w19 ⟨k20, rfl, e21⟩
   obtain ⟨K22, S23, m24⟩ := Ent.mixed (l := []) (κ := K13) e21 6 rfl
   refine ⟨trivial, ?_⟩
   refine WO.pn 2 rfl ?_
   obtain rfl := Option.some.inj h
   exact WO.met _ trivial ⟨rfl, _, S23.wk rfl⟩ fun a ha => (ha.more (ha.more (ha.more (ha.more ha.nil rfl) rfl) rfl) rfl)
 rintro _ w26 _ ⟨rfl, K27, S28⟩
 have h := hK17
 refine WO.fin ?_
 refine DN.seq ?_
 revert h
 cases ht29 : p17 with
 | true =>
  intro h; replace h := cT h
  refine WC.ct rfl ?_
  refine WC.seq ?_
  refine WC.rs [(0, 2)] rfl ?_
  refine WO.pn 1 rfl ?_
  refine WO.fin ?_
  refine DN.seq ?_
  refine WC.ret ?_
  refine DN.retThen ?_
  have f30 := hE.stp (S3.tr (S7.tr (S14.tr S28))) rfl rfl
  refine DN.res (l := [.tmp 4]) Try.results60 (res_tmp rfl rfl) rfl ?_
  obtain rfl := Option.some.inj h
  exact ⟨K27, rfl, f30⟩
 | false =>
  intro h; replace h := cF h
  refine WC.cf rfl ?_
  refine WC.skip ?_
  refine DN.seq ?_
  refine WC.seq ?_
  refine WC.seq ?_
  refine WC.rs [(0, 2)] rfl ?_
  refine WO.pn 1 rfl ?_
  refine WO.fin ?_
  refine DN.seq ?_
  have hN31 : (p1.Next.length : Int) ≤ 9223372036854775807 := g1_0.len_le
  obtain ⟨q2, hq33, hK32⟩ := Option.bind_eq_some_iff.mp h
  clear h
  refine WC.meet (fun L w' => ∃ (κ' : Col), L = [(3, .pointer (some ⟨b3, 0, none⟩)), (5, .int .i64 (p1.Next.length : Int))] ∧ Stp [] K27 w26 κ' w' ∧ q2 = Sum.inr ()) ?_ ?_
  ·
   refine WC.block ?_
   refine WC.loop (fun k L w' => ∃ (κ' : Col) (v6 : Int), L = [(2, .pointer (some ⟨b2, 0, none⟩)), (3, .pointer (some ⟨b3, 0, none⟩)), (5, .int .i64 (p1.Next.length : Int)), (6, .int .i64 v6)] ∧ Stp [] K27 w26 κ' w' ∧ 0 ≤ v6 ∧ Int.toNat ((p1.Next.length : Int) - v6) = k ∧ cntM (s_DetOk_b0 p0 p1) k v6 () = some q2) ⟨_, _, ⟨K27, 0, rfl, (Stp.refl _ _).wk rfl, (by decide), (by simp), hq33⟩, fun a ha => (ha.more (ha.more (ha.more (ha.more ha.nil rfl) rfl) rfl) rfl)⟩ ?_
   rintro k _ w37 ⟨K38, v6, rfl, S39, hj31, hJ31, h⟩
   rcases k with _ | k
   ·
    have hk40 := h; obtain ⟨o31, h⟩ := ex_eq (Sum.inr (Sum.inl ()) : Bool ⊕ ((Unit) ⊕ (Unit)))
    have hc31 : decide (v6 < (p1.Next.length : Int)) = false := decide_eq_false (by omega)
    refine WC.seq ?_
    refine WC.seq ?_
    refine WC.rs [(0, 2), (1, 2), (2, 1), (3, 2), (4, 2)] rfl ?_
    refine WO.pn 1 rfl ?_
    refine WO.k2 rfl rfl rfl rfl (rn_fieldAddr Try.runUnderlying55 rfl Try.sizeOf24 rfl rfl) ?_
    have f41 := f8.stp (S14.tr (S28.tr S39)) rfl rfl
    refine WO.k1 trivial rfl rfl rfl rfl (rn_ld Try.isAgg24 rfl rfl (hvE (f41.ld 0 rfl rfl))) ?_
    refine WO.k2 rfl rfl rfl rfl (rn_len Try.runUnderlying24 rfl rfl) ?_
    refine WO.pn 1 rfl ?_
    refine WO.fin ?_
    refine DN.seq ?_
    refine WC.cf' rfl hc31 ?_
    refine WC.exit ?_
    refine DN.exitThen ?_
    refine DN.exitThen ?_
    obtain rfl := Option.some.inj h
    have h := hk40
    refine DN.hit ?_
    obtain rfl := Option.some.inj h
    exact DN.meet _ ⟨K38, rfl, S39.wk rfl, rfl⟩ fun a ha => (ha.more (ha.more ha.nil rfl) rfl)
   ·
    obtain ⟨o31, h, hk40⟩ := Option.bind_eq_some_iff.mp h; unfold s_DetOk_b0 at h
    have hc31 : decide (v6 < (p1.Next.length : Int)) = true := decide_eq_true (by omega)
    refine WC.seq ?_
    refine WC.seq ?_
    refine WC.rs [(0, 2), (1, 2), (2, 1), (3, 2), (4, 2)] rfl ?_
    refine WO.pn 1 rfl ?_
    refine WO.k2 rfl rfl rfl rfl (rn_fieldAddr Try.runUnderlying55 rfl Try.sizeOf24 rfl rfl) ?_
    have f42 := f8.stp (S14.tr (S28.tr S39)) rfl rfl
    refine WO.k1 trivial rfl rfl rfl rfl (rn_ld Try.isAgg24 rfl rfl (hvE (f42.ld 0 rfl rfl))) ?_
    refine WO.k2 rfl rfl rfl rfl (rn_len Try.runUnderlying24 rfl rfl) ?_
    refine WO.pn 1 rfl ?_
    refine WO.fin ?_
    refine DN.seq ?_
    refine WC.ct' rfl hc31 ?_
    refine WC.skip ?_
    refine DN.seq ?_
    refine WC.seq ?_
    refine WC.block ?_
    refine WC.seq ?_
    refine WC.rx (κ := K38) [0, 2, 3] none [(0, 2), (2, 2), (1, 0), (3, 2), (4, 0), (5, 2), (6, 0), (7, 1), (8, 2), (9, 2), (10, 2), (12, 2), (15, 2), (11, 0), (13, 2), (14, 0), (16, 1), (17, 2), (18, 2)] [] (by kernel_rfl) (by kernel_rfl) fun w44 S43 => ?_
    refine WO.k2 rfl rfl rfl rfl (rn_fieldAddr Try.runUnderlying55 rfl Try.sizeOf24 rfl rfl) ?_
    refine WO.pn 1 rfl ?_
    have f45 := f42.stp S43 rfl rfl
    refine WO.k0 rfl rfl rfl rfl (rn_ld Try.isAgg24 rfl rfl (hvC (f45.ld 0 rfl rfl) rfl)) ?_
    obtain ⟨x28, hx28, h⟩ := Option.bind_eq_some_iff.mp h
    refine WO.k2 rfl rfl rfl rfl (rn_index g1_0 hx28 Try.runUnderlying24 Try.sizeOf28 rfl rfl rfl rfl) ?_
    have f46 := g1_0.stp (S3.tr (S7.tr (S14.tr (S28.tr (S39.tr S43))))) rfl rfl
    obtain ⟨ax28, ux28, f47, hl48⟩ := f46.gSl hx28
    refine WO.k0 rfl rfl rfl rfl (rn_ld Try.isAgg28 rfl rfl (hvC hl48 rfl)) ?_
    refine WO.k2 rfl rfl rfl rfl (rn_len Try.runUnderlying28 rfl rfl) ?_
    have f49 := f9.stp (S14.tr (S28.tr (S39.tr S43))) rfl rfl
    refine WO.k0 rfl rfl rfl rfl (rn_la (cs := [.int .i64 p0.In, .int .i64 p0.Out]) Try.isAgg35 Try.sizeOf35 rfl rfl rfl (haC f49.cells rfl)) ?_
    obtain ⟨x32, hx32, h⟩ := Option.bind_eq_some_iff.mp h
    refine WO.call rfl rfl rfl rfl rfl rfl Try.call100 (s_LettersOf_ok (κ := fun b => mp [] 0 (K38 b)) (p0 := p0) hx32) ?_
    rintro _ w50 ⟨k51, rfl, e52⟩
    obtain ⟨K53, S54, m55⟩ := Ent.mixed (l := []) (κ := K38) e52 6 rfl
    refine ⟨(S54.cl rfl), ?_⟩
    refine WO.pn 2 rfl ?_
    obtain ⟨p43, h, hK57⟩ := Option.bind_eq_some_iff.mp h
    refine WO.meet [(10, 2), (12, 2), (15, 2), (11, 0), (13, 2), (14, 0), (16, 1), (17, 2), (18, 2)] [] (fun L w' => L = [(2, .pointer (some ⟨b2, 0, none⟩)), (3, .pointer (some ⟨b3, 0, none⟩)), (5, .int .i64 (p1.Next.length : Int)), (6, .int .i64 v6), (43, .bool p43)] ∧ ∃ κ', Stp [] K53 w50 κ' w') (S54.cl rfl) ?_ ?_
    ·
     revert h
     cases ht58 : ((x28.length : Int) != x32) with
     | true =>
      intro h; replace h := cT h
      refine WO.pn 3 rfl ?_
      refine WO.qs rfl rfl rfl rfl ?_
      refine WO.pn 1 rfl ?_
      refine WO.qs rfl rfl rfl rfl ?_
      refine WO.ls rfl rfl rfl rfl ?_
      refine WO.pn 2 rfl ?_
      obtain rfl := Option.some.inj h
      exact WO.met _ (S54.cl rfl) ⟨rfl, _, (Stp.refl _ _).wk rfl⟩ fun a ha => (ha.more (ha.more (ha.more (ha.more (ha.more ha.nil rfl) rfl) rfl) rfl) rfl)
     | false =>
      intro h; replace h := cF h
      refine WO.k2 rfl rfl rfl rfl (rn_fieldAddr Try.runUnderlying55 rfl Try.sizeOf24 rfl rfl) ?_
      refine WO.pn 2 rfl ?_
      refine WO.k0 rfl rfl rfl rfl (rn_ld Try.isAgg24 rfl rfl (hvC (f45.ld 0 rfl rfl) rfl)) ?_
      obtain ⟨x38, hx38, h⟩ := Option.bind_eq_some_iff.mp h
      refine WO.k2 rfl rfl rfl rfl (rn_index f46 hx38 Try.runUnderlying24 Try.sizeOf28 rfl rfl rfl rfl) ?_
      obtain ⟨ax38, ux38, f59, hl60⟩ := f46.gSl hx38
      refine WO.k0 rfl rfl rfl rfl (rn_ld Try.isAgg28 rfl rfl (hvC hl60 rfl)) ?_
      obtain ⟨x41, hx41, h⟩ := Option.bind_eq_some_iff.mp h
      have f61 := f59.stp S54 rfl rfl
      refine WO.call rfl rfl rfl rfl rfl rfl Try.call98 (s_l23Below_ok (κ := fun b => mp [] 0 (K53 b)) (Sl.map f61 (mp [] 0) rfl rfl) hx41) ?_
      rintro _ w62 ⟨k63, rfl, e64⟩
      obtain ⟨K65, S66, m67⟩ := Ent.mixed (l := []) (κ := K53) e64 8 rfl
      refine ⟨((S54.tr S66).cl rfl), ?_⟩
      refine WO.pn 2 rfl ?_
      obtain rfl := Option.some.inj h
      exact WO.met _ ((S54.tr S66).cl rfl) ⟨rfl, _, S66.wk rfl⟩ fun a ha => (ha.more (ha.more (ha.more (ha.more (ha.more ha.nil rfl) rfl) rfl) rfl) rfl)
    rintro _ w69 _ ⟨rfl, K70, S71⟩
    have h := hK57
    refine WO.nx ?_
    refine WO.fin ?_
    refine DN.seq ?_
    revert h
    cases ht72 : p43 with
    | true =>
     intro h; replace h := cT h
     refine WC.ct rfl ?_
     refine WC.seq ?_
     refine WC.rs [(0, 2)] rfl ?_
     refine WO.pn 1 rfl ?_
     refine WO.fin ?_
     refine DN.seq ?_
     refine WC.ret ?_
     refine DN.retBlock ?_
     refine DN.retThen ?_
     refine DN.retThen ?_
     obtain rfl := Option.some.inj h
     obtain rfl := Option.some.inj hk40
     have h := hK32
     dsimp only [aft] at h
     refine DN.retBlock ?_
     refine DN.retMeet ?_
     refine DN.retThen ?_
     have f73 := hE.stp (S3.tr (S7.tr (S14.tr (S28.tr (S39.tr (S43.tr (S54.tr S71))))))) rfl rfl
     refine DN.res (l := [.tmp 4]) Try.results60 (res_tmp rfl rfl) rfl ?_
     obtain rfl := Option.some.inj h
     exact ⟨K70, rfl, f73⟩
    | false =>
     intro h; replace h := cF h
     refine WC.cf rfl ?_
     refine WC.skip ?_
     refine DN.block ?_
     refine DN.seq ?_
     refine WC.rs [(0, 2), (1, 2), (2, 2)] rfl ?_
     refine WO.pn 3 rfl ?_
     refine WO.fin ?_
     have hw31 : IntKind.wrap .i64 (v6 + 1) = v6 + 1 := wr1 hj31 (of_decide_eq_true hc31) hN31
     rw [hw31]
     have hc31 := of_decide_eq_true hc31
     obtain rfl := Option.some.inj h
     refine DN.round fun a ha => ?_
     exact ⟨k, _, Nat.lt_succ_self _, ⟨K70, v6 + 1, rfl, (S39.tr (S43.tr (S54.tr S71))).wk rfl, by omega, by omega, hk40⟩, (ha.more (ha.more (ha.more (ha.more ha.nil rfl) rfl) rfl) rfl)⟩
  rintro _ w34 ⟨K35, rfl, S36, rfl⟩
  have h := hK32
  dsimp only [aft] at h
  refine DN.seq ?_
  refine WC.seq ?_
  refine WC.rs [(0, 2), (1, 1), (2, 2), (3, 1), (4, 2)] rfl ?_
  refine WO.k2 rfl rfl rfl rfl (rn_fieldAddr Try.runUnderlying55 rfl Try.sizeOf51 rfl rfl) ?_
  have f74 := f8.stp (S14.tr (S28.tr S36)) rfl rfl
  refine WO.k1 trivial rfl rfl rfl rfl (rn_ld Try.isAgg51 rfl rfl (hvE (f74.ld 1 rfl rfl))) ?_
  refine WO.pn 1 rfl ?_
  obtain ⟨x47, hx47, h⟩ := Option.bind_eq_some_iff.mp h
  have f75 := g1_1.stp (S3.tr (S7.tr (S14.tr (S28.tr S36)))) rfl rfl
  refine WO.call rfl rfl rfl rfl rfl rfl Try.call101 (s_PairsOk_ok (κ := fun b => mp [] 0 (K35 b)) (Sl.map f75 (mp [] 0) rfl rfl) hx47) ?_
  rintro _ w76 ⟨k77, rfl, e78⟩
  obtain ⟨K79, S80, m81⟩ := Ent.mixed (l := []) (κ := K35) e78 6 rfl
  refine ⟨trivial, ?_⟩
  refine WO.pn 1 rfl ?_
  refine WO.fin ?_
  refine DN.seq ?_
  refine WC.ret ?_
  have f83 := hE.stp (S3.tr (S7.tr (S14.tr (S28.tr (S36.tr S80))))) rfl rfl
  refine DN.res (l := [.tmp 4]) Try.results60 (res_tmp rfl rfl) rfl ?_
  obtain rfl := Option.some.inj h
  exact ⟨K79, rfl, f83⟩

/- loop.example/g00869/spec.WatchOf -/
theorem s_WatchOf_ok {w : World} {κ : Col} {p0 : Sig} {a1_0 : Option Addr} {u1_0 : Nat} {a1_1 : Option Addr} {u1_1 : Nat} {p1 : Machine} {a2_0 : Option Addr} {u2_0 : Nat} {a2_1 : Option Addr} {u2_1 : Nat} {p2 : Det} (g1_0 : Rd (Rp.sl (Rp.int .i64)) κ w 0 a1_0 u1_0 p1.Next) (g1_1 : Rd (Rp.sl (Rp.int .i64)) κ w 0 a1_1 u1_1 p1.Out) (g2_0 : Rd (Rp.sl (Rp.int .i64)) κ w 0 a2_0 u2_0 p2.Next) (g2_1 : Rd Pair.rp κ w 0 a2_1 u2_1 p2.Pairs) {r : (List (List Int)) × (List Pair) × Bool} (h : s_WatchOf p0 p1 p2 = some r) : Ret Try.prog 20 [.agg #[.int .i64 p0.In, .int .i64 p0.Out], .agg #[.slice a1_0 p1.Next.length u1_0, .slice a1_1 p1.Out.length u1_1], .agg #[.slice a2_0 p2.Next.length u2_0, .slice a2_1 p2.Pairs.length u2_1]] w (fun v w' => ∃ (κ' : Col) (ra0 : Option Addr) (ru0 : Nat) (ra1 : Option Addr) (ru1 : Nat), v = .tuple #[.slice ra0 r.1.length ru0, .slice ra1 r.2.1.length ru1, .bool r.2.2] ∧ Ent κ w κ' w' ∧ Oc (Ep.own (Ep.int .i64) 2) 28 κ' w' 2 ra0 ru0 r.1 ∧ Oc Pair.ep113 113 κ' w' 3 ra1 ru1 r.2.1) := by
 unfold s_WatchOf at h
 refine Ret.enter Try.func20 rfl Try.ntmps20 rfl ?_
 dsimp only [envOf]
 have hE := Ent.refl κ w
 refine WC.seq ?_
 refine WC.rs [(0, 1), (1, 1), (2, 1), (3, 2), (4, 2), (5, 2)] rfl ?_
 refine WO.box (κ := κ) 2 rfl rfl rfl rfl rfl rfl rfl fun b3 w1 K2 S3 f4 => ⟨trivial, ?_⟩
 refine WO.box (κ := K2) 3 rfl rfl rfl rfl rfl rfl rfl fun b4 w5 K6 S7 f8 => ⟨trivial, ?_⟩
 refine WO.box (κ := K6) 4 rfl rfl rfl rfl rfl rfl rfl fun b5 w9 K10 S11 f12 => ⟨trivial, ?_⟩
 refine WO.pn 3 rfl ?_
 refine WO.fin ?_
 refine DN.seq ?_
 refine WC.seq ?_
 refine WC.seq ?_
 refine WC.rs [(0, 1), (1, 1), (2, 1), (3, 2), (4, 2), (5, 1), (6, 1), (7, 1), (8, 2), (9, 2)] rfl ?_
 have f13 := f4.stp (S7.tr S11) rfl rfl
 refine WO.k1 trivial rfl rfl rfl rfl (rn_la (cs := [.int .i64 p0.In, .int .i64 p0.Out]) Try.isAgg35 Try.sizeOf35 rfl rfl rfl (haE f13.cells)) ?_
 have f14 := f8.stp S11 rfl rfl
 refine WO.k1 trivial rfl rfl rfl rfl (rn_la (cs := [.slice a1_0 p1.Next.length u1_0, .slice a1_1 p1.Out.length u1_1]) Try.isAgg37 Try.sizeOf37 rfl rfl rfl (haE f14.cells)) ?_
 obtain ⟨x15, hx15, h⟩ := Option.bind_eq_some_iff.mp h
 have f15 := g1_0.stp (S3.tr (S7.tr S11)) rfl rfl
 have f16 := g1_1.stp (S3.tr (S7.tr S11)) rfl rfl
 refine WO.call rfl rfl rfl rfl rfl rfl Try.call59 (s_MachineOk_ok (κ := fun b => mp [] 0 (K10 b)) (p0 := p0) (p1 := p1) (Sl.map f15 (mp [] 0) rfl rfl) (Sl.map f16 (mp [] 0) rfl rfl) hx15) ?_
 rintro _ w17 ⟨k18, rfl, e19⟩
 obtain ⟨K20, S21, m22⟩ := Ent.mixed (l := []) (κ := K10) e19 5 rfl
 refine ⟨trivial, ?_⟩
 refine WO.pn 2 rfl ?_
 obtain ⟨p22, h, hK24⟩ := Option.bind_eq_some_iff.mp h
 refine WO.meet [(5, 1), (6, 1), (7, 1), (8, 2), (9, 2)] [] (fun L w' => L = [(3, .pointer (some ⟨b3, 0, none⟩)), (4, .pointer (some ⟨b4, 0, none⟩)), (5, .pointer (some ⟨b5, 0, none⟩)), (22, .bool p22)] ∧ ∃ κ', Stp [] K20 w17 κ' w') trivial ?_ ?_
 ·
  revert h
  cases ht25 : (!x15) with
  | true =>
   intro h; replace h := cT h
   refine WO.ls rfl rfl rfl rfl ?_
   refine WO.ls rfl rfl rfl rfl ?_
   refine WO.ls rfl rfl rfl rfl ?_
   refine WO.pn 2 rfl ?_
   obtain rfl := Option.some.inj h
   exact WO.met _ trivial ⟨rfl, _, (Stp.refl _ _).wk rfl⟩ fun a ha => (ha.more (ha.more (ha.more (ha.more ha.nil rfl) rfl) rfl) rfl)
  | false =>
   intro h; replace h := cF h
   have f26 := f13.stp S21 rfl rfl
   refine WO.k1 trivial rfl rfl rfl rfl (rn_la (cs := [.int .i64 p0.In, .int .i64 p0.Out]) Try.isAgg35 Try.sizeOf35 rfl rfl rfl (haE f26.cells)) ?_
   have f27 := f12.stp S21 rfl rfl
   refine WO.k1 trivial rfl rfl rfl rfl (rn_la (cs := [.slice a2_0 p2.Next.length u2_0, .slice a2_1 p2.Pairs.length u2_1]) Try.isAgg55 Try.sizeOf55 rfl rfl rfl (haE f27.cells)) ?_
   obtain ⟨x20, hx20, h⟩ := Option.bind_eq_some_iff.mp h
   have f28 := g2_0.stp (S3.tr (S7.tr (S11.tr S21))) rfl rfl
   have f29 := g2_1.stp (S3.tr (S7.tr (S11.tr S21))) rfl rfl
   refine WO.call rfl rfl rfl rfl rfl rfl Try.call60 (s_DetOk_ok (κ := fun b => mp [] 0 (K20 b)) (p0 := p0) (p1 := p2) (Sl.map f28 (mp [] 0) rfl rfl) (Sl.map f29 (mp [] 0) rfl rfl) hx20) ?_
   rintro _ w30 ⟨k31, rfl, e32⟩
   obtain ⟨K33, S34, m35⟩ := Ent.mixed (l := []) (κ := K20) e32 7 rfl
   refine ⟨trivial, ?_⟩
   refine WO.pn 2 rfl ?_
   obtain rfl := Option.some.inj h
   exact WO.met _ trivial ⟨rfl, _, S34.wk rfl⟩ fun a ha => (ha.more (ha.more (ha.more (ha.more ha.nil rfl) rfl) rfl) rfl)
 rintro _ w37 _ ⟨rfl, K38, S39⟩
 have h := hK24
 refine WO.fin ?_
 refine DN.seq ?_
 revert h
 cases ht40 : p22 with
 | true =>
  intro h; replace h := cT h
  refine WC.ct rfl ?_
  refine WC.seq ?_
  refine WC.rs [(0, 1), (1, 1), (2, 2), (3, 2), (4, 2)] rfl ?_
  refine WO.bl0 (κ := K38) (E := (Ep.own (Ep.int .i64) 2)) 7 rfl rfl rfl rfl rfl Try.underlying24 Tryinfo28 rfl fun a23 u23 w41 K42 S43 f44 => ⟨trivial, ?_⟩
  refine WO.bl0 (κ := K42) (E := Pair.ep113) 8 rfl rfl rfl rfl rfl Try.underlying51 Tryinfo113 rfl fun a24 u24 w45 K46 S47 f48 => ⟨trivial, ?_⟩
  refine WO.pn 3 rfl ?_
  refine WO.fin ?_
  refine DN.seq ?_
  refine WC.ret ?_
  refine DN.retThen ?_
  have f49 := hE.stp (S3.tr (S7.tr (S11.tr (S21.tr (S39.tr (S43.tr S47)))))) rfl rfl
  have f50 := f44.stp S47 rfl rfl
  refine DN.res (l := [.tmp 6, .tmp 7, .tmp 8]) Try.results20 (res_tmp rfl (res_tmp rfl (res_tmp rfl rfl))) rfl ?_
  obtain rfl := Option.some.inj h
  exact ⟨(fun b => ren [(7, 2), (8, 3)] (K46 b)), a23, u23, a24, u24, rfl, (f49.map (ren [(7, 2), (8, 3)]) rfl rfl), (f50.map (ren [(7, 2), (8, 3)]) rfl rfl), (f48.map (ren [(7, 2), (8, 3)]) rfl rfl)⟩
 | false =>
  intro h; replace h := cF h
  refine WC.cf rfl ?_
  refine WC.skip ?_
  refine DN.seq ?_
  refine WC.seq ?_
  refine WC.rs [(0, 1), (1, 1), (2, 1), (3, 1), (4, 2), (5, 2), (6, 2), (7, 1), (8, 1), (9, 2)] rfl ?_
  have f51 := f13.stp (S21.tr S39) rfl rfl
  refine WO.k1 trivial rfl rfl rfl rfl (rn_la (cs := [.int .i64 p0.In, .int .i64 p0.Out]) Try.isAgg35 Try.sizeOf35 rfl rfl rfl (haE f51.cells)) ?_
  have f52 := f14.stp (S21.tr S39) rfl rfl
  refine WO.k1 trivial rfl rfl rfl rfl (rn_la (cs := [.slice a1_0 p1.Next.length u1_0, .slice a1_1 p1.Out.length u1_1]) Try.isAgg37 Try.sizeOf37 rfl rfl rfl (haE f52.cells)) ?_
  have f53 := f12.stp (S21.tr S39) rfl rfl
  refine WO.k1 trivial rfl rfl rfl rfl (rn_la (cs := [.slice a2_0 p2.Next.length u2_0, .slice a2_1 p2.Pairs.length u2_1]) Try.isAgg55 Try.sizeOf55 rfl rfl rfl (haE f53.cells)) ?_
  obtain ⟨x29, hx29, h⟩ := Option.bind_eq_some_iff.mp h
  have f54 := f15.stp (S21.tr S39) rfl rfl
  have f55 := f16.stp (S21.tr S39) rfl rfl
  have f56 := g2_0.stp (S3.tr (S7.tr (S11.tr (S21.tr S39)))) rfl rfl
  have f57 := g2_1.stp (S3.tr (S7.tr (S11.tr (S21.tr S39)))) rfl rfl
  refine WO.call rfl rfl rfl rfl rfl rfl Try.call61 (s_l30Watch_ok (κ := fun b => mp [] 0 (K38 b)) (p0 := p0) (p1 := p1) (p2 := p2) (Sl.map f54 (mp [] 0) rfl rfl) (Sl.map f55 (mp [] 0) rfl rfl) (Sl.map f56 (mp [] 0) rfl rfl) (Sl.map f57 (mp [] 0) rfl rfl) hx29) ?_
  rintro _ w58 ⟨k59, a29_0, u29_0, a29_1, u29_1, a29_2, u29_2, a29_3, u29_3, rfl, e60, f61, f62, f63, f64⟩
  obtain ⟨K65, S66, m67⟩ := Ent.mixed (l := []) (κ := K38) e60 7 rfl
  refine ⟨trivial, ?_⟩
  have f69 := f61.mx (no_int _) m67 rfl (rfl : 7 + 2 = 9)
  have f70 := f62.mx (no_int _) m67 rfl (rfl : 7 + 3 = 10)
  have f71 := f63.mx (no_own (no_int _) _) m67 rfl (rfl : 7 + 4 = 11)
  have f72 := f64.mx (no_own (no_int _) _) m67 rfl (rfl : 7 + 5 = 12)
  refine WO.pn 3 rfl ?_
  refine WO.alloc (κ := K65) 13 rfl rfl rfl rfl rfl Try.zeroValue108 rfl fun b9 w73 K74 S75 f76 => ⟨trivial, ?_⟩
  refine WO.stB0 (κ := K74) 13 (vc := [.slice a29_0 x29.1.of.length u29_0, .slice a29_1 x29.1.by0.length u29_1, .slice a29_2 x29.1.next.length u29_2, .slice a29_3 x29.1.letters.length u29_3]) rfl rfl rfl rfl rfl rfl rfl Try.sizeOf108 rfl rfl f76 rfl fun w77 S78 f79 => ⟨trivial, ?_⟩
  refine WO.pn 1 rfl ?_
  refine WO.fin ?_
  refine DN.seq ?_
  refine WC.seq ?_
  refine WC.seq ?_
  refine WC.rs [(0, 2), (1, 2)] rfl ?_
  refine WO.pn 2 rfl ?_
  refine WO.fin ?_
  refine DN.seq ?_
  revert h
  cases ht80 : (!x29.2) with
  | true =>
   intro h; replace h := cT h
   refine WC.ct rfl ?_
   refine WC.seq ?_
   refine WC.rs [(0, 1), (1, 1), (2, 2), (3, 2), (4, 2)] rfl ?_
   refine WO.bl0 (κ := K74) (E := (Ep.own (Ep.int .i64) 2)) 14 rfl rfl rfl rfl rfl Try.underlying24 Tryinfo28 rfl fun a34 u34 w81 K82 S83 f84 => ⟨trivial, ?_⟩
   refine WO.bl0 (κ := K82) (E := Pair.ep113) 15 rfl rfl rfl rfl rfl Try.underlying51 Tryinfo113 rfl fun a35 u35 w85 K86 S87 f88 => ⟨trivial, ?_⟩
   refine WO.pn 3 rfl ?_
   refine WO.fin ?_
   refine DN.seq ?_
   refine WC.ret ?_
   refine DN.retThen ?_
   have f89 := hE.stp (S3.tr (S7.tr (S11.tr (S21.tr (S39.tr (S66.tr (S75.tr (S78.tr (S83.tr S87))))))))) rfl rfl
   have f90 := f84.stp S87 rfl rfl
   refine DN.res (l := [.tmp 6, .tmp 7, .tmp 8]) Try.results20 (res_tmp rfl (res_tmp rfl (res_tmp rfl rfl))) rfl ?_
   obtain rfl := Option.some.inj h
   exact ⟨(fun b => ren [(14, 2), (15, 3)] (K86 b)), a34, u34, a35, u35, rfl, (f89.map (ren [(14, 2), (15, 3)]) rfl rfl), (f90.map (ren [(14, 2), (15, 3)]) rfl rfl), (f88.map (ren [(14, 2), (15, 3)]) rfl rfl)⟩
  | false =>
   intro h; replace h := cF h
   refine WC.cf rfl ?_
   refine WC.skip ?_
   refine DN.seq ?_
   refine WC.seq ?_
   refine WC.rs [(0, 1), (1, 2)] rfl ?_
   refine WO.bl0 (κ := K74) (E := Pair.ep113) 14 rfl rfl rfl rfl rfl Try.underlying51 Tryinfo113 rfl fun a36 u36 w91 K92 S93 f94 => ⟨trivial, ?_⟩
   refine WO.pn 1 rfl ?_
   refine WO.fin ?_
   refine DN.seq ?_
   refine WC.seq ?_
   refine WC.seq ?_
   refine WC.rs [(0, 2)] rfl ?_
   refine WO.pn 1 rfl ?_
   refine WO.fin ?_
   refine DN.seq ?_
   have hN95 : (p2.Pairs.length : Int) ≤ 9223372036854775807 := f57.len_le
   obtain ⟨q2, hq97, hK96⟩ := Option.bind_eq_some_iff.mp h
   clear h
   refine WC.meet (fun L w' => ∃ (κ' : Col) (s3 : (List Pair)) (las3_0 : Option Addr) (lus3_0 : Nat), L = [(9, .pointer (some ⟨b9, 0, none⟩)), (11, .slice las3_0 s3.length lus3_0)] ∧ Stp [14, 17, 20, 21] K92 w91 κ' w' ∧ Oc Pair.ep113 113 κ' w' 14 las3_0 lus3_0 s3 ∧ q2 = Sum.inr s3) ?_ ?_
   ·
    refine WC.block ?_
    refine WC.loop (fun k L w' => ∃ (κ' : Col) (v12 : Int) (s1 : (List Pair)) (las1_0 : Option Addr) (lus1_0 : Nat), L = [(5, .pointer (some ⟨b5, 0, none⟩)), (9, .pointer (some ⟨b9, 0, none⟩)), (11, .slice las1_0 s1.length lus1_0), (12, .int .i64 v12)] ∧ Stp [14, 17, 20, 21] K92 w91 κ' w' ∧ Oc Pair.ep113 113 κ' w' 14 las1_0 lus1_0 s1 ∧ 0 ≤ v12 ∧ Int.toNat ((p2.Pairs.length : Int) - v12) = k ∧ cntM (s_WatchOf_b0 p2 x29) k v12 s1 = some q2) ⟨_, _, ⟨K92, 0, (([] : List Pair) : (List Pair)), a36, u36, rfl, (Stp.refl _ _).wk rfl, f94, (by decide), (by simp), hq97⟩, fun a ha => (ha.more (ha.more (ha.more (ha.more ha.nil rfl) rfl) rfl) rfl)⟩ ?_
    rintro k _ w102 ⟨K103, v12, s1, las1_0, lus1_0, rfl, S104, f105, hj95, hJ95, h⟩
    rcases k with _ | k
    ·
     have hk106 := h; obtain ⟨o95, h⟩ := ex_eq (Sum.inr (Sum.inl s1) : ((List (List Int)) × (List Pair) × Bool) ⊕ (((List Pair)) ⊕ ((List Pair))))
     have hc95 : decide (v12 < (p2.Pairs.length : Int)) = false := decide_eq_false (by omega)
     refine WC.seq ?_
     refine WC.seq ?_
     refine WC.rs [(0, 2), (1, 2), (2, 1), (3, 2), (4, 2)] rfl ?_
     refine WO.pn 1 rfl ?_
     refine WO.k2 rfl rfl rfl rfl (rn_fieldAddr Try.runUnderlying55 rfl Try.sizeOf51 rfl rfl) ?_
     have f107 := f53.stp (S66.tr (S75.tr (S78.tr (S93.tr S104)))) rfl rfl
     refine WO.k1 trivial rfl rfl rfl rfl (rn_ld Try.isAgg51 rfl rfl (hvE (f107.ld 1 rfl rfl))) ?_
     refine WO.k2 rfl rfl rfl rfl (rn_len Try.runUnderlying51 rfl rfl) ?_
     refine WO.pn 1 rfl ?_
     refine WO.fin ?_
     refine DN.seq ?_
     refine WC.cf' rfl hc95 ?_
     refine WC.exit ?_
     refine DN.exitThen ?_
     refine DN.exitThen ?_
     obtain rfl := Option.some.inj h
     have h := hk106
     refine DN.hit ?_
     obtain rfl := Option.some.inj h
     exact DN.meet _ ⟨K103, (s1 : (List Pair)), las1_0, lus1_0, rfl, S104.wk rfl, f105, rfl⟩ fun a ha => (ha.more (ha.more ha.nil rfl) rfl)
    ·
     obtain ⟨o95, h, hk106⟩ := Option.bind_eq_some_iff.mp h; unfold s_WatchOf_b0 at h
     have hc95 : decide (v12 < (p2.Pairs.length : Int)) = true := decide_eq_true (by omega)
     refine WC.seq ?_
     refine WC.seq ?_
     refine WC.rs [(0, 2), (1, 2), (2, 1), (3, 2), (4, 2)] rfl ?_
     refine WO.pn 1 rfl ?_
     refine WO.k2 rfl rfl rfl rfl (rn_fieldAddr Try.runUnderlying55 rfl Try.sizeOf51 rfl rfl) ?_
     have f108 := f53.stp (S66.tr (S75.tr (S78.tr (S93.tr S104)))) rfl rfl
     refine WO.k1 trivial rfl rfl rfl rfl (rn_ld Try.isAgg51 rfl rfl (hvE (f108.ld 1 rfl rfl))) ?_
     refine WO.k2 rfl rfl rfl rfl (rn_len Try.runUnderlying51 rfl rfl) ?_
     refine WO.pn 1 rfl ?_
     refine WO.fin ?_
     refine DN.seq ?_
     refine WC.ct' rfl hc95 ?_
     refine WC.skip ?_
     refine DN.seq ?_
     refine WC.seq ?_
     refine WC.block ?_
     refine WC.rx (κ := K103) [0, 4, 13] none [(0, 2), (2, 2), (4, 2), (10, 2), (12, 2), (1, 0), (3, 0), (5, 2), (6, 2), (7, 0), (9, 0), (11, 0), (13, 2), (14, 2), (15, 0), (8, 1), (16, 1), (17, 2), (18, 1), (19, 1), (20, 2)] [] (by kernel_rfl) (by kernel_rfl) fun w110 S109 => ?_
     refine WO.pn 1 rfl ?_
     refine WO.k2 rfl rfl rfl rfl (rn_fieldAddr Try.runUnderlying55 rfl Try.sizeOf51 rfl rfl) ?_
     refine WO.pn 1 rfl ?_
     refine WO.k2 rfl rfl rfl rfl (rn_fieldAddr Try.runUnderlying55 rfl Try.sizeOf51 rfl rfl) ?_
     refine WO.pn 1 rfl ?_
     have f111 := f79.stp (S93.tr (S104.tr S109)) rfl rfl
     refine WO.k0 rfl rfl rfl rfl (rn_la (cs := [.slice a29_0 x29.1.of.length u29_0, .slice a29_1 x29.1.by0.length u29_1, .slice a29_2 x29.1.next.length u29_2, .slice a29_3 x29.1.letters.length u29_3]) Try.isAgg108 Try.sizeOf108 rfl rfl rfl (haC f111.cells rfl)) ?_
     have f112 := f108.stp S109 rfl rfl
     refine WO.k0 rfl rfl rfl rfl (rn_ld Try.isAgg51 rfl rfl (hvC (f112.ld 1 rfl rfl) rfl)) ?_
     obtain ⟨x49, hx49, h⟩ := Option.bind_eq_some_iff.mp h
     refine WO.k2 rfl rfl rfl rfl (rn_index f57 hx49 Try.runUnderlying51 Try.sizeOf113 rfl rfl rfl rfl) ?_
     refine WO.k2 rfl rfl rfl rfl (rn_fieldAddr Try.runUnderlying113 rfl Try.sizeOf28 rfl rfl) ?_
     have f113 := f57.stp (S66.tr (S75.tr (S78.tr (S93.tr (S104.tr S109))))) rfl rfl
     obtain ⟨cse114, hre114, hle114⟩ := (f113).gSt hx49
     obtain ⟨ae114_0, ue114_0, ae114_1, ue114_1, rfl, fe114_0, fe114_1⟩ := Pair.un hre114
     refine WO.k0 rfl rfl rfl rfl (rn_ld Try.isAgg28 rfl rfl (hvC (fun w' hw' => hle114 w' hw' 0 _ rfl) rfl)) ?_
     refine WO.k0 rfl rfl rfl rfl (rn_la (cs := [.slice a29_0 x29.1.of.length u29_0, .slice a29_1 x29.1.by0.length u29_1, .slice a29_2 x29.1.next.length u29_2, .slice a29_3 x29.1.letters.length u29_3]) Try.isAgg108 Try.sizeOf108 rfl rfl rfl (haC f111.cells rfl)) ?_
     refine WO.k0 rfl rfl rfl rfl (rn_ld Try.isAgg51 rfl rfl (hvC (f112.ld 1 rfl rfl) rfl)) ?_
     obtain ⟨x57, hx57, h⟩ := Option.bind_eq_some_iff.mp h
     refine WO.k2 rfl rfl rfl rfl (rn_index f113 hx57 Try.runUnderlying51 Try.sizeOf113 rfl rfl rfl rfl) ?_
     refine WO.k2 rfl rfl rfl rfl (rn_fieldAddr Try.runUnderlying113 rfl Try.sizeOf28 rfl rfl) ?_
     obtain ⟨cse115, hre115, hle115⟩ := (f113).gSt hx57
     obtain ⟨ae115_0, ue115_0, ae115_1, ue115_1, rfl, fe115_0, fe115_1⟩ := Pair.un hre115
     refine WO.k0 rfl rfl rfl rfl (rn_ld Try.isAgg28 rfl rfl (hvC (fun w' hw' => hle115 w' hw' 1 _ rfl) rfl)) ?_
     obtain ⟨x52, hx52, h⟩ := Option.bind_eq_some_iff.mp h
     have f116 := f69.stp (S75.tr (S78.tr (S93.tr (S104.tr S109)))) rfl rfl
     have f117 := f70.stp (S75.tr (S78.tr (S93.tr (S104.tr S109)))) rfl rfl
     have f118 := f71.stp (S75.tr (S78.tr (S93.tr (S104.tr S109)))) rfl rfl
     have f119 := f72.stp (S75.tr (S78.tr (S93.tr (S104.tr S109)))) rfl rfl
     refine WO.call rfl rfl rfl rfl rfl rfl Try.call62 (s_l30Part_ok (κ := fun b => mp [] 0 (K103 b)) (p0 := x29.1) (Sl.map f116.rdc (mp [] 0) rfl rfl) (Sl.map f117.rdc (mp [] 0) rfl rfl) (Sl.map f118.rdc (mp [] 0) rfl rfl) (Sl.map f119.rdc (mp [] 0) rfl rfl) (Sl.map fe114_0 (mp [] 0) rfl rfl) hx52) ?_
     rintro _ w120 ⟨k121, a52_0, u52_0, rfl, e122, f123⟩
     obtain ⟨K124, S125, m126⟩ := Ent.mixed (l := []) (κ := K103) e122 15 rfl
     refine ⟨(S125.cl rfl), ?_⟩
     have f128 := f123.mx (no_int _) m126 rfl (rfl : 15 + 2 = 17)
     obtain ⟨x60, hx60, h⟩ := Option.bind_eq_some_iff.mp h
     have f129 := f116.stp S125 rfl rfl
     have f130 := f117.stp S125 rfl rfl
     have f131 := f118.stp S125 rfl rfl
     have f132 := f119.stp S125 rfl rfl
     have f133 := fe115_1.stp S125 rfl rfl
     refine WO.call rfl rfl rfl rfl rfl rfl Try.call62 (s_l30Part_ok (κ := fun b => mp [] 0 (K124 b)) (p0 := x29.1) (Sl.map f129.rdc (mp [] 0) rfl rfl) (Sl.map f130.rdc (mp [] 0) rfl rfl) (Sl.map f131.rdc (mp [] 0) rfl rfl) (Sl.map f132.rdc (mp [] 0) rfl rfl) (Sl.map f133 (mp [] 0) rfl rfl) hx60) ?_
     rintro _ w134 ⟨k135, a60_0, u60_0, rfl, e136, f137⟩
     obtain ⟨K138, S139, m140⟩ := Ent.mixed (l := []) (κ := K124) e136 18 rfl
     refine ⟨((S125.tr S139).cl rfl), ?_⟩
     have f142 := f137.mx (no_int _) m140 rfl (rfl : 18 + 2 = 20)
     refine WO.k2 rfl rfl rfl rfl (rn_build (parts := [(0, .tmp 52), (1, .tmp 60)]) (cells := [.slice a52_0 x52.length u52_0, .slice a60_0 x60.length u60_0]) rfl rfl (by kernel_rfl)) ?_
     have f143 := f128.stp S139 rfl rfl
     refine WO.bl (κ := K138) (E := Pair.ep113) 21 [17, 20] (parts := [(0, .tmp 61)]) (cells := [.slice a52_0 x52.length u52_0, .slice a60_0 x60.length u60_0]) (xs := ([(⟨x52, x60⟩ : Pair)] : List Pair)) rfl rfl rfl rfl rfl rfl Try.underlying51 Tryinfo113 rfl rfl rfl rfl rfl rfl rfl rfl rfl rfl ⟨[.slice a52_0 x52.length u52_0, .slice a60_0 x60.length u60_0], [], Zl K138 w134 [17, 20], Zl K138 w134 [], rfl, Zl.sp (l1 := [17, 20]) (l2 := []) rfl, Zl.sr (l1 := [17, 20]) (l2 := []), ⟨[.slice a52_0 x52.length u52_0], [.slice a60_0 x60.length u60_0], Zl K138 w134 [17], Zl K138 w134 [20], rfl, Zl.sp (l1 := [17]) (l2 := [20]) rfl, Zl.sr (l1 := [17]) (l2 := [20]), ⟨_, _, rfl, f143⟩, ⟨_, _, rfl, f142⟩⟩, rfl⟩ fun a62 u62 w144 K145 S146 f147 => ⟨((S125.tr (S139.tr S146)).cl rfl), ?_⟩
     obtain ⟨x63, hx63, h⟩ := Option.bind_eq_some_iff.mp h
     have f148 := f105.stp (S109.tr (S125.tr (S139.tr S146))) rfl rfl
     refine WO.app (κ := K145) (E := Pair.ep113) 14 [21] rfl rfl rfl rfl rfl rfl rfl rfl rfl Try.underlying51 Tryinfo113 rfl rfl rfl rfl f148 f147.src (sy_one rfl) hx63 rfl fun a63 u63 w149 K150 S151 f152 => ⟨((S125.tr (S139.tr (S146.tr S151))).cl rfl), ?_⟩
     refine WO.pn 1 rfl ?_
     refine WO.nx ?_
     refine WO.fin ?_
     refine DN.block ?_
     refine DN.seq ?_
     refine WC.rs [(0, 2), (1, 2), (2, 2)] rfl ?_
     refine WO.pn 3 rfl ?_
     refine WO.fin ?_
     have hw95 : IntKind.wrap .i64 (v12 + 1) = v12 + 1 := wr1 hj95 (of_decide_eq_true hc95) hN95
     rw [hw95]
     have hc95 := of_decide_eq_true hc95
     obtain rfl := Option.some.inj h
     refine DN.round fun a ha => ?_
     exact ⟨k, _, Nat.lt_succ_self _, ⟨K150, v12 + 1, (x63 : (List Pair)), a63, u63, rfl, (S104.tr (S109.tr (S125.tr (S139.tr (S146.tr S151))))).wk rfl, f152, by omega, by omega, hk106⟩, (ha.more (ha.more (ha.more (ha.more ha.nil rfl) rfl) rfl) rfl)⟩
   rintro _ w98 ⟨K99, s3, las3_0, lus3_0, rfl, S100, f101, rfl⟩
   have h := hK96
   dsimp only [aft] at h
   refine DN.seq ?_
   refine WC.seq ?_
   refine WC.rs [(0, 2), (1, 1), (2, 2), (3, 2), (4, 2), (5, 2)] rfl ?_
   refine WO.k2 rfl rfl rfl rfl (rn_fieldAddr Try.runUnderlying108 rfl Try.sizeOf24 rfl rfl) ?_
   have f153 := f79.stp (S93.tr S100) rfl rfl
   refine WO.k1 trivial rfl rfl rfl rfl (rn_ld Try.isAgg24 rfl rfl (hvE (f153.ld 2 rfl rfl))) ?_
   refine WO.pn 4 rfl ?_
   refine WO.fin ?_
   refine DN.seq ?_
   refine WC.ret ?_
   have f154 := hE.stp (S3.tr (S7.tr (S11.tr (S21.tr (S39.tr (S66.tr (S75.tr (S78.tr (S93.tr S100))))))))) rfl rfl
   have f155 := f71.stp (S75.tr (S78.tr (S93.tr S100))) rfl rfl
   refine DN.res (l := [.tmp 6, .tmp 7, .tmp 8]) Try.results20 (res_tmp rfl (res_tmp rfl (res_tmp rfl rfl))) rfl ?_
   obtain rfl := Option.some.inj h
   exact ⟨(fun b => ren [(11, 2), (14, 3)] (K99 b)), a29_2, u29_2, las3_0, lus3_0, rfl, (f154.map (ren [(11, 2), (14, 3)]) rfl rfl), (f155.map (ren [(11, 2), (14, 3)]) rfl rfl), (f101.map (ren [(11, 2), (14, 3)]) rfl rfl)⟩

/- loop.example/g00869/impl.areLetters -/
theorem i_areLetters_ok {w : World} {κ : Col} {a0 : Option Addr} {u0 : Nat} {p0 : (List Int)} {p1 : Int} (g0 : Rd (Rp.int .i64) κ w 0 a0 u0 p0) {r : Bool} (h : i_areLetters p0 p1 = some r) : Ret Try.prog 105 [.slice a0 p0.length u0, .int .i64 p1] w (fun v w' => ∃ (κ' : Col), v = .bool r ∧ Ent κ w κ' w') := by
 unfold i_areLetters at h
 refine Ret.enter Try.func105 rfl Try.ntmps105 rfl ?_
 dsimp only [envOf]
 have hE := Ent.refl κ w
 refine WC.seq ?_
 refine WC.rs [(0, 1), (1, 2)] rfl ?_
 refine WO.box (κ := κ) 2 rfl rfl rfl rfl rfl rfl rfl fun b3 w1 K2 S3 f4 => ⟨trivial, ?_⟩
 refine WO.pn 1 rfl ?_
 refine WO.fin ?_
 refine DN.seq ?_
 refine WC.seq ?_
 refine WC.rs [(0, 2), (1, 2), (2, 1), (3, 2), (4, 2)] rfl ?_
 refine WO.pn 1 rfl ?_
 refine WO.k2 rfl rfl rfl rfl (rn_makeFunc (first := []) (captured := [.tmp 3]) rfl rfl rfl ⟨_, rfl⟩) ?_
 obtain ⟨x7, hx7, h⟩ := Option.bind_eq_some_iff.mp h
 have f5 := g0.stp S3 rfl rfl
 refine WO.call rfl rfl rfl rfl rfl rfl Try.call130 (slices_ContainsFunc_I_int64__i_areLetters_1_ok (κ := fun b => mp [] 0 (K2 b)) (Sl.map f5 (mp [] 0) rfl rfl) (f4.map (mp [] 0) rfl rfl) hx7) ?_
 rintro _ w6 ⟨k7, rfl, e8⟩
 obtain ⟨K9, S10, m11⟩ := Ent.mixed (l := []) (κ := K2) e8 3 rfl
 refine ⟨trivial, ?_⟩
 refine WO.pn 2 rfl ?_
 refine WO.fin ?_
 refine DN.seq ?_
 refine WC.ret ?_
 have f13 := hE.stp (S3.tr S10) rfl rfl
 refine DN.res (l := [.tmp 4]) Try.results105 (res_tmp rfl rfl) rfl ?_
 obtain rfl := Option.some.inj h
 exact ⟨K9, rfl, f13⟩

/- loop.example/g00869/impl.isMachine -/
theorem i_isMachine_ok {w : World} {κ : Col} {p0 : Sig} {a1_0 : Option Addr} {u1_0 : Nat} {a1_1 : Option Addr} {u1_1 : Nat} {p1 : Machine} (g1_0 : Rd (Rp.sl (Rp.int .i64)) κ w 0 a1_0 u1_0 p1.Next) (g1_1 : Rd (Rp.sl (Rp.int .i64)) κ w 0 a1_1 u1_1 p1.Out) {r : Bool} (h : i_isMachine p0 p1 = some r) : Ret Try.prog 65 [.agg #[.int .i64 p0.In, .int .i64 p0.Out], .agg #[.slice a1_0 p1.Next.length u1_0, .slice a1_1 p1.Out.length u1_1]] w (fun v w' => ∃ (κ' : Col), v = .bool r ∧ Ent κ w κ' w') := by
 unfold i_isMachine at h
 refine Ret.enter Try.func65 rfl Try.ntmps65 rfl ?_
 dsimp only [envOf]
 have hE := Ent.refl κ w
 refine WC.seq ?_
 refine WC.rs [(0, 1), (1, 1), (2, 2)] rfl ?_
 refine WO.box (κ := κ) 2 rfl rfl rfl rfl rfl rfl rfl fun b2 w1 K2 S3 f4 => ⟨trivial, ?_⟩
 refine WO.box (κ := K2) 3 rfl rfl rfl rfl rfl rfl rfl fun b3 w5 K6 S7 f8 => ⟨trivial, ?_⟩
 refine WO.pn 1 rfl ?_
 refine WO.fin ?_
 refine DN.seq ?_
 refine WC.seq ?_
 refine WC.rs [(0, 2), (1, 1), (2, 2), (3, 2)] rfl ?_
 refine WO.k2 rfl rfl rfl rfl (rn_fieldAddr Try.runUnderlying37 rfl Try.sizeOf24 rfl rfl) ?_
 refine WO.k1 trivial rfl rfl rfl rfl (rn_ld Try.isAgg24 rfl rfl (hvE (f8.ld 0 rfl rfl))) ?_
 refine WO.k2 rfl rfl rfl rfl (rn_len Try.runUnderlying24 rfl rfl) ?_
 refine WO.pn 1 rfl ?_
 refine WO.fin ?_
 refine DN.seq ?_
 refine WC.seq ?_
 refine WC.seq ?_
 refine WC.rs [(0, 2), (1, 2), (2, 2), (3, 2), (4, 2), (5, 2), (6, 2), (7, 2), (8, 1), (9, 2), (10, 2), (11, 1), (12, 2), (13, 2), (14, 2)] rfl ?_
 refine WO.pn 3 rfl ?_
 obtain ⟨p16, h, hK9⟩ := Option.bind_eq_some_iff.mp h
 refine WO.meet [(3, 2), (4, 2), (5, 2)] [(6, 2), (7, 2), (8, 1), (9, 2), (10, 2), (11, 1), (12, 2), (13, 2), (14, 2)] (fun L w' => L = [(2, .pointer (some ⟨b2, 0, none⟩)), (3, .pointer (some ⟨b3, 0, none⟩)), (5, .int .i64 (p1.Next.length : Int)), (16, .bool p16)] ∧ ∃ κ', Stp [] K6 w5 κ' w') trivial ?_ ?_
 ·
  revert h
  cases ht10 : decide ((p1.Next.length : Int) < 1) with
  | true =>
   intro h; replace h := cT h
   refine WO.pn 3 rfl ?_
   obtain rfl := Option.some.inj h
   exact WO.met _ trivial ⟨rfl, _, (Stp.refl _ _).wk rfl⟩ fun a ha => (ha.more (ha.more (ha.more (ha.more ha.nil rfl) rfl) rfl) rfl)
  | false =>
   intro h; replace h := cF h
   refine WO.pn 3 rfl ?_
   obtain rfl := Option.some.inj h
   exact WO.met _ trivial ⟨rfl, _, (Stp.refl _ _).wk rfl⟩ fun a ha => (ha.more (ha.more (ha.more (ha.more ha.nil rfl) rfl) rfl) rfl)
 rintro _ w11 _ ⟨rfl, K12, S13⟩
 have h := hK9
 refine WO.pn 1 rfl ?_
 obtain ⟨p25, h, hK14⟩ := Option.bind_eq_some_iff.mp h
 refine WO.meet [(7, 2), (8, 1), (9, 2), (10, 2), (11, 1), (12, 2), (13, 2), (14, 2)] [] (fun L w' => L = [(2, .pointer (some ⟨b2, 0, none⟩)), (3, .pointer (some ⟨b3, 0, none⟩)), (5, .int .i64 (p1.Next.length : Int)), (25, .bool p25)] ∧ ∃ κ', Stp [] K12 w11 κ' w') trivial ?_ ?_
 ·
  revert h
  cases ht15 : p16 with
  | true =>
   intro h; replace h := cT h
   refine WO.pn 1 rfl ?_
   refine WO.ls rfl rfl rfl rfl ?_
   refine WO.pn 2 rfl ?_
   refine WO.ls rfl rfl rfl rfl ?_
   refine WO.pn 3 rfl ?_
   obtain rfl := Option.some.inj h
   exact WO.met _ trivial ⟨rfl, _, (Stp.refl _ _).wk rfl⟩ fun a ha => (ha.more (ha.more (ha.more (ha.more ha.nil rfl) rfl) rfl) rfl)
  | false =>
   intro h; replace h := cF h
   refine WO.k2 rfl rfl rfl rfl (rn_fieldAddr Try.runUnderlying37 rfl Try.sizeOf24 rfl rfl) ?_
   have f16 := f8.stp S13 rfl rfl
   refine WO.k1 trivial rfl rfl rfl rfl (rn_ld Try.isAgg24 rfl rfl (hvE (f16.ld 1 rfl rfl))) ?_
   refine WO.k2 rfl rfl rfl rfl (rn_len Try.runUnderlying24 rfl rfl) ?_
   refine WO.k2 rfl rfl rfl rfl (rn_fieldAddr Try.runUnderlying37 rfl Try.sizeOf24 rfl rfl) ?_
   refine WO.k1 trivial rfl rfl rfl rfl (rn_ld Try.isAgg24 rfl rfl (hvE (f16.ld 0 rfl rfl))) ?_
   refine WO.k2 rfl rfl rfl rfl (rn_len Try.runUnderlying24 rfl rfl) ?_
   refine WO.pn 2 rfl ?_
   obtain rfl := Option.some.inj h
   exact WO.met _ trivial ⟨rfl, _, (Stp.refl _ _).wk rfl⟩ fun a ha => (ha.more (ha.more (ha.more (ha.more ha.nil rfl) rfl) rfl) rfl)
 rintro _ w17 _ ⟨rfl, K18, S19⟩
 have h := hK14
 refine WO.fin ?_
 refine DN.seq ?_
 revert h
 cases ht20 : p25 with
 | true =>
  intro h; replace h := cT h
  refine WC.ct rfl ?_
  refine WC.seq ?_
  refine WC.rs [(0, 2)] rfl ?_
  refine WO.pn 1 rfl ?_
  refine WO.fin ?_
  refine DN.seq ?_
  refine WC.ret ?_
  refine DN.retThen ?_
  have f21 := hE.stp (S3.tr (S7.tr (S13.tr S19))) rfl rfl
  refine DN.res (l := [.tmp 4]) Try.results65 (res_tmp rfl rfl) rfl ?_
  obtain rfl := Option.some.inj h
  exact ⟨K18, rfl, f21⟩
 | false =>
  intro h; replace h := cF h
  refine WC.cf rfl ?_
  refine WC.skip ?_
  refine DN.seq ?_
  refine WC.seq ?_
  refine WC.seq ?_
  refine WC.rs [(0, 2), (1, 1), (2, 2), (3, 2)] rfl ?_
  refine WO.k2 rfl rfl rfl rfl (rn_fieldAddr Try.runUnderlying37 rfl Try.sizeOf24 rfl rfl) ?_
  have f22 := f8.stp (S13.tr S19) rfl rfl
  refine WO.k1 trivial rfl rfl rfl rfl (rn_ld Try.isAgg24 rfl rfl (hvE (f22.ld 0 rfl rfl))) ?_
  refine WO.k2 rfl rfl rfl rfl (rn_len Try.runUnderlying24 rfl rfl) ?_
  refine WO.pn 1 rfl ?_
  refine WO.fin ?_
  refine DN.seq ?_
  have hN23 : (p1.Next.length : Int) ≤ 9223372036854775807 := g1_0.len_le
  obtain ⟨q2, hq25, hK24⟩ := Option.bind_eq_some_iff.mp h
  clear h
  refine WC.meet (fun L w' => ∃ (κ' : Col), L = [] ∧ Stp [] K18 w17 κ' w' ∧ q2 = Sum.inr ()) ?_ ?_
  ·
   refine WC.block ?_
   refine WC.loop (fun k L w' => ∃ (κ' : Col) (v29 : Int), L = [(2, .pointer (some ⟨b2, 0, none⟩)), (3, .pointer (some ⟨b3, 0, none⟩)), (5, .int .i64 (p1.Next.length : Int)), (27, .slice a1_0 p1.Next.length u1_0), (28, .int .i64 (p1.Next.length : Int)), (29, .int .i64 v29)] ∧ Stp [] K18 w17 κ' w' ∧ 0 ≤ v29 ∧ Int.toNat ((p1.Next.length : Int) - v29) = k ∧ cntM (i_isMachine_b0 p0 p1) k v29 () = some q2) ⟨_, _, ⟨K18, 0, rfl, (Stp.refl _ _).wk rfl, (by decide), (by simp), hq25⟩, fun a ha => (ha.more (ha.more (ha.more (ha.more (ha.more (ha.more ha.nil rfl) rfl) rfl) rfl) rfl) rfl)⟩ ?_
   rintro k _ w29 ⟨K30, v29, rfl, S31, hj23, hJ23, h⟩
   rcases k with _ | k
   ·
    have hk32 := h; obtain ⟨o23, h⟩ := ex_eq (Sum.inr (Sum.inl ()) : Bool ⊕ ((Unit) ⊕ (Unit)))
    have hc23 : decide (v29 < (p1.Next.length : Int)) = false := decide_eq_false (by omega)
    refine WC.seq ?_
    refine WC.rs [(0, 2)] rfl ?_
    refine WO.pn 1 rfl ?_
    refine WO.fin ?_
    refine DN.seq ?_
    refine WC.seq ?_
    refine WC.cf' rfl hc23 ?_
    refine WC.exit ?_
    refine DN.exitThen ?_
    refine DN.exitThen ?_
    obtain rfl := Option.some.inj h
    have h := hk32
    refine DN.hit ?_
    obtain rfl := Option.some.inj h
    exact DN.meet _ ⟨K30, rfl, S31.wk rfl, rfl⟩ fun a ha => ha.nil
   ·
    obtain ⟨o23, h, hk32⟩ := Option.bind_eq_some_iff.mp h; unfold i_isMachine_b0 at h
    have hc23 : decide (v29 < (p1.Next.length : Int)) = true := decide_eq_true (by omega)
    refine WC.seq ?_
    refine WC.rs [(0, 2)] rfl ?_
    refine WO.pn 1 rfl ?_
    refine WO.fin ?_
    refine DN.seq ?_
    refine WC.seq ?_
    refine WC.ct' rfl hc23 ?_
    refine WC.skip ?_
    refine DN.seq ?_
    refine WC.seq ?_
    refine WC.block ?_
    refine WC.seq ?_
    refine WC.rs [(0, 2), (1, 2), (2, 1), (3, 2), (4, 2)] rfl ?_
    refine WO.pn 1 rfl ?_
    obtain ⟨x32, hx32, h⟩ := Option.bind_eq_some_iff.mp h
    refine WO.k2 rfl rfl rfl rfl (rn_index g1_0 hx32 Try.runUnderlying24 Try.sizeOf28 rfl rfl rfl rfl) ?_
    have f33 := g1_0.stp (S3.tr (S7.tr (S13.tr (S19.tr S31)))) rfl rfl
    obtain ⟨ax32, ux32, f34, hl35⟩ := f33.gSl hx32
    refine WO.k1 trivial rfl rfl rfl rfl (rn_ld Try.isAgg28 rfl rfl (hvE hl35)) ?_
    refine WO.pn 2 rfl ?_
    refine WO.fin ?_
    refine DN.seq ?_
    refine WC.seq ?_
    refine WC.rx (κ := K30) [0, 2, 3] none [(0, 2), (1, 2), (2, 0), (3, 1), (4, 2), (5, 2), (6, 2), (8, 2), (12, 2), (13, 2), (7, 0), (9, 2), (10, 0), (11, 2), (14, 2), (15, 2), (16, 2), (17, 2), (18, 2), (19, 1), (20, 2), (21, 2), (22, 2), (23, 2), (25, 2), (28, 2), (24, 0), (26, 2), (27, 0), (29, 0), (30, 2), (31, 1), (32, 2), (33, 2)] [] (by kernel_rfl) (by kernel_rfl) fun w37 S36 => ?_
    refine WO.pn 1 rfl ?_
    refine WO.k2 rfl rfl rfl rfl (rn_len Try.runUnderlying28 rfl rfl) ?_
    have f38 := f4.stp (S7.tr (S13.tr (S19.tr (S31.tr S36)))) rfl rfl
    refine WO.k0 rfl rfl rfl rfl (rn_la (cs := [.int .i64 p0.In, .int .i64 p0.Out]) Try.isAgg35 Try.sizeOf35 rfl rfl rfl (haC f38.cells rfl)) ?_
    obtain ⟨x37, hx37, h⟩ := Option.bind_eq_some_iff.mp h
    refine WO.call rfl rfl rfl rfl rfl rfl Try.call91 (i_inputsOf_ok (κ := fun b => mp [] 0 (K30 b)) (p0 := p0) hx37) ?_
    rintro _ w39 ⟨k40, rfl, e41⟩
    obtain ⟨K42, S43, m44⟩ := Ent.mixed (l := []) (κ := K30) e41 4 rfl
    refine ⟨(S43.cl rfl), ?_⟩
    refine WO.pn 2 rfl ?_
    obtain ⟨p49, h, hK46⟩ := Option.bind_eq_some_iff.mp h
    refine WO.meet [(6, 2), (8, 2), (12, 2), (13, 2), (7, 0), (9, 2), (10, 0), (11, 2), (14, 2), (15, 2)] [(16, 2), (17, 2), (18, 2), (19, 1), (20, 2), (21, 2), (22, 2), (23, 2), (25, 2), (28, 2), (24, 0), (26, 2), (27, 0), (29, 0), (30, 2), (31, 1), (32, 2), (33, 2)] (fun L w' => L = [(2, .pointer (some ⟨b2, 0, none⟩)), (3, .pointer (some ⟨b3, 0, none⟩)), (5, .int .i64 (p1.Next.length : Int)), (6, .int .i64 v29), (7, .slice ax32 x32.length ux32), (27, .slice a1_0 p1.Next.length u1_0), (28, .int .i64 (p1.Next.length : Int)), (29, .int .i64 v29), (49, .bool p49)] ∧ ∃ κ', Stp [] K42 w39 κ' w') (S43.cl rfl) ?_ ?_
    ·
     revert h
     cases ht47 : ((x32.length : Int) != x37) with
     | true =>
      intro h; replace h := cT h
      refine WO.pn 4 rfl ?_
      refine WO.qs rfl rfl rfl rfl ?_
      refine WO.pn 1 rfl ?_
      refine WO.qs rfl rfl rfl rfl ?_
      refine WO.pn 3 rfl ?_
      obtain rfl := Option.some.inj h
      exact WO.met _ (S43.cl rfl) ⟨rfl, _, (Stp.refl _ _).wk rfl⟩ fun a ha => (ha.more (ha.more (ha.more (ha.more (ha.more (ha.more (ha.more (ha.more (ha.more ha.nil rfl) rfl) rfl) rfl) rfl) rfl) rfl) rfl) rfl)
     | false =>
      intro h; replace h := cF h
      refine WO.k2 rfl rfl rfl rfl (rn_fieldAddr Try.runUnderlying37 rfl Try.sizeOf24 rfl rfl) ?_
      refine WO.pn 2 rfl ?_
      refine WO.k2 rfl rfl rfl rfl (rn_len Try.runUnderlying28 rfl rfl) ?_
      have f48 := f22.stp (S31.tr S36) rfl rfl
      refine WO.k0 rfl rfl rfl rfl (rn_ld Try.isAgg24 rfl rfl (hvC (f48.ld 1 rfl rfl) rfl)) ?_
      obtain ⟨x43, hx43, h⟩ := Option.bind_eq_some_iff.mp h
      refine WO.k2 rfl rfl rfl rfl (rn_index g1_1 hx43 Try.runUnderlying24 Try.sizeOf28 rfl rfl rfl rfl) ?_
      have f49 := g1_1.stp (S3.tr (S7.tr (S13.tr (S19.tr (S31.tr S36))))) rfl rfl
      obtain ⟨ax43, ux43, f50, hl51⟩ := f49.gSl hx43
      refine WO.k0 rfl rfl rfl rfl (rn_ld Try.isAgg28 rfl rfl (hvC hl51 rfl)) ?_
      refine WO.k2 rfl rfl rfl rfl (rn_len Try.runUnderlying28 rfl rfl) ?_
      refine WO.pn 2 rfl ?_
      obtain rfl := Option.some.inj h
      exact WO.met _ (S43.cl rfl) ⟨rfl, _, (Stp.refl _ _).wk rfl⟩ fun a ha => (ha.more (ha.more (ha.more (ha.more (ha.more (ha.more (ha.more (ha.more (ha.more ha.nil rfl) rfl) rfl) rfl) rfl) rfl) rfl) rfl) rfl)
    rintro _ w52 _ ⟨rfl, K53, S54⟩
    have h := hK46
    refine WO.pn 1 rfl ?_
    obtain ⟨p55, h, hK55⟩ := Option.bind_eq_some_iff.mp h
    refine WO.meet [(17, 2), (18, 2), (19, 1), (20, 2), (21, 2)] [(22, 2), (23, 2), (25, 2), (28, 2), (24, 0), (26, 2), (27, 0), (29, 0), (30, 2), (31, 1), (32, 2), (33, 2)] (fun L w' => L = [(2, .pointer (some ⟨b2, 0, none⟩)), (3, .pointer (some ⟨b3, 0, none⟩)), (5, .int .i64 (p1.Next.length : Int)), (6, .int .i64 v29), (27, .slice a1_0 p1.Next.length u1_0), (28, .int .i64 (p1.Next.length : Int)), (29, .int .i64 v29), (55, .bool p55)] ∧ ∃ κ', Stp [] K53 w52 κ' w') ((S43.tr S54).cl rfl) ?_ ?_
    ·
     revert h
     cases ht56 : p49 with
     | true =>
      intro h; replace h := cT h
      refine WO.pn 2 rfl ?_
      refine WO.ls rfl rfl rfl rfl ?_
      refine WO.pn 2 rfl ?_
      obtain rfl := Option.some.inj h
      exact WO.met _ ((S43.tr S54).cl rfl) ⟨rfl, _, (Stp.refl _ _).wk rfl⟩ fun a ha => (ha.more (ha.more (ha.more (ha.more (ha.more (ha.more (ha.more (ha.more ha.nil rfl) rfl) rfl) rfl) rfl) rfl) rfl) rfl)
     | false =>
      intro h; replace h := cF h
      refine WO.pn 2 rfl ?_
      obtain ⟨x53, hx53, h⟩ := Option.bind_eq_some_iff.mp h
      have f57 := f34.stp (S36.tr (S43.tr S54)) rfl rfl
      refine WO.call rfl rfl rfl rfl rfl rfl Try.call105 (i_areLetters_ok (κ := fun b => mp [] 0 (K53 b)) (Sl.map f57 (mp [] 0) rfl rfl) hx53) ?_
      rintro _ w58 ⟨k59, rfl, e60⟩
      obtain ⟨K61, S62, m63⟩ := Ent.mixed (l := []) (κ := K53) e60 6 rfl
      refine ⟨((S43.tr (S54.tr S62)).cl rfl), ?_⟩
      refine WO.pn 2 rfl ?_
      obtain rfl := Option.some.inj h
      exact WO.met _ ((S43.tr (S54.tr S62)).cl rfl) ⟨rfl, _, S62.wk rfl⟩ fun a ha => (ha.more (ha.more (ha.more (ha.more (ha.more (ha.more (ha.more (ha.more ha.nil rfl) rfl) rfl) rfl) rfl) rfl) rfl) rfl)
    rintro _ w65 _ ⟨rfl, K66, S67⟩
    have h := hK55
    refine WO.pn 1 rfl ?_
    obtain ⟨p67, h, hK68⟩ := Option.bind_eq_some_iff.mp h
    refine WO.meet [(23, 2), (25, 2), (28, 2), (24, 0), (26, 2), (27, 0), (29, 0), (30, 2), (31, 1), (32, 2), (33, 2)] [] (fun L w' => L = [(2, .pointer (some ⟨b2, 0, none⟩)), (3, .pointer (some ⟨b3, 0, none⟩)), (5, .int .i64 (p1.Next.length : Int)), (27, .slice a1_0 p1.Next.length u1_0), (28, .int .i64 (p1.Next.length : Int)), (29, .int .i64 v29), (67, .bool p67)] ∧ ∃ κ', Stp [] K66 w65 κ' w') ((S43.tr (S54.tr S67)).cl rfl) ?_ ?_
    ·
     revert h
     cases ht69 : p55 with
     | true =>
      intro h; replace h := cT h
      refine WO.pn 3 rfl ?_
      refine WO.qs rfl rfl rfl rfl ?_
      refine WO.pn 1 rfl ?_
      refine WO.qs rfl rfl rfl rfl ?_
      refine WO.qs rfl rfl rfl rfl ?_
      refine WO.pn 1 rfl ?_
      refine WO.ls rfl rfl rfl rfl ?_
      refine WO.pn 2 rfl ?_
      obtain rfl := Option.some.inj h
      exact WO.met _ ((S43.tr (S54.tr S67)).cl rfl) ⟨rfl, _, (Stp.refl _ _).wk rfl⟩ fun a ha => (ha.more (ha.more (ha.more (ha.more (ha.more (ha.more (ha.more ha.nil rfl) rfl) rfl) rfl) rfl) rfl) rfl)
     | false =>
      intro h; replace h := cF h
      refine WO.k2 rfl rfl rfl rfl (rn_fieldAddr Try.runUnderlying37 rfl Try.sizeOf24 rfl rfl) ?_
      refine WO.pn 1 rfl ?_
      refine WO.k2 rfl rfl rfl rfl (rn_fieldAddr Try.runUnderlying35 rfl Try.sizeOf2 rfl rfl) ?_
      have f70 := f22.stp (S31.tr S36) rfl rfl
      refine WO.k0 rfl rfl rfl rfl (rn_ld Try.isAgg24 rfl rfl (hvC (f70.ld 1 rfl rfl) rfl)) ?_
      obtain ⟨x60, hx60, h⟩ := Option.bind_eq_some_iff.mp h
      refine WO.k2 rfl rfl rfl rfl (rn_index g1_1 hx60 Try.runUnderlying24 Try.sizeOf28 rfl rfl rfl rfl) ?_
      have f71 := g1_1.stp (S3.tr (S7.tr (S13.tr (S19.tr (S31.tr S36))))) rfl rfl
      obtain ⟨ax60, ux60, f72, hl73⟩ := f71.gSl hx60
      refine WO.k0 rfl rfl rfl rfl (rn_ld Try.isAgg28 rfl rfl (hvC hl73 rfl)) ?_
      refine WO.k0 rfl rfl rfl rfl (rn_ld Try.isAgg2 rfl rfl (hvC (f38.ld 1 rfl rfl) rfl)) ?_
      obtain ⟨_z64, hz64, h⟩ := Option.bind_eq_some_iff.mp h
      refine WO.k2 rfl rfl rfl rfl (rn_shl rfl rfl rfl (nn_ok hz64)) ?_
      obtain ⟨x65, hx65, h⟩ := Option.bind_eq_some_iff.mp h
      have f74 := f72.stp (S43.tr (S54.tr S67)) rfl rfl
      refine WO.call rfl rfl rfl rfl rfl rfl Try.call105 (i_areLetters_ok (κ := fun b => mp [] 0 (K66 b)) (Sl.map f74 (mp [] 0) rfl rfl) hx65) ?_
      rintro _ w75 ⟨k76, rfl, e77⟩
      obtain ⟨K78, S79, m80⟩ := Ent.mixed (l := []) (κ := K66) e77 6 rfl
      refine ⟨((S43.tr (S54.tr (S67.tr S79))).cl rfl), ?_⟩
      refine WO.pn 2 rfl ?_
      obtain rfl := Option.some.inj h
      exact WO.met _ ((S43.tr (S54.tr (S67.tr S79))).cl rfl) ⟨rfl, _, S79.wk rfl⟩ fun a ha => (ha.more (ha.more (ha.more (ha.more (ha.more (ha.more (ha.more ha.nil rfl) rfl) rfl) rfl) rfl) rfl) rfl)
    rintro _ w82 _ ⟨rfl, K83, S84⟩
    have h := hK68
    refine WO.nx ?_
    refine WO.fin ?_
    refine DN.seq ?_
    revert h
    cases ht85 : p67 with
    | true =>
     intro h; replace h := cT h
     refine WC.ct rfl ?_
     refine WC.seq ?_
     refine WC.rs [(0, 2)] rfl ?_
     refine WO.pn 1 rfl ?_
     refine WO.fin ?_
     refine DN.seq ?_
     refine WC.ret ?_
     refine DN.retBlock ?_
     refine DN.retThen ?_
     refine DN.retThen ?_
     obtain rfl := Option.some.inj h
     obtain rfl := Option.some.inj hk32
     have h := hK24
     dsimp only [aft] at h
     refine DN.retBlock ?_
     refine DN.retMeet ?_
     refine DN.retThen ?_
     have f86 := hE.stp (S3.tr (S7.tr (S13.tr (S19.tr (S31.tr (S36.tr (S43.tr (S54.tr (S67.tr S84))))))))) rfl rfl
     refine DN.res (l := [.tmp 4]) Try.results65 (res_tmp rfl rfl) rfl ?_
     obtain rfl := Option.some.inj h
     exact ⟨K83, rfl, f86⟩
    | false =>
     intro h; replace h := cF h
     refine WC.cf rfl ?_
     refine WC.skip ?_
     refine DN.block ?_
     refine DN.seq ?_
     refine WC.rs [(0, 2), (1, 2)] rfl ?_
     refine WO.pn 2 rfl ?_
     refine WO.fin ?_
     have hw23 : IntKind.wrap .i64 (v29 + 1) = v29 + 1 := wr1 hj23 (of_decide_eq_true hc23) hN23
     rw [hw23]
     have hc23 := of_decide_eq_true hc23
     obtain rfl := Option.some.inj h
     refine DN.round fun a ha => ?_
     exact ⟨k, _, Nat.lt_succ_self _, ⟨K83, v29 + 1, rfl, (S31.tr (S36.tr (S43.tr (S54.tr (S67.tr S84))))).wk rfl, by omega, by omega, hk32⟩, (ha.more (ha.more (ha.more (ha.more (ha.more (ha.more ha.nil rfl) rfl) rfl) rfl) rfl) rfl)⟩
  rintro _ w26 ⟨K27, rfl, S28, rfl⟩
  have h := hK24
  dsimp only [aft] at h
  refine DN.seq ?_
  refine WC.seq ?_
  refine WC.rs [(0, 2)] rfl ?_
  refine WO.pn 1 rfl ?_
  refine WO.fin ?_
  refine DN.seq ?_
  refine WC.ret ?_
  have f87 := hE.stp (S3.tr (S7.tr (S13.tr (S19.tr S28)))) rfl rfl
  refine DN.res (l := [.tmp 4]) Try.results65 (res_tmp rfl rfl) rfl ?_
  obtain rfl := Option.some.inj h
  exact ⟨K27, rfl, f87⟩

/- loop.example/g00869/impl.isDet -/
theorem i_isDet_ok {w : World} {κ : Col} {p0 : Sig} {a1_0 : Option Addr} {u1_0 : Nat} {a1_1 : Option Addr} {u1_1 : Nat} {p1 : Det} (g1_0 : Rd (Rp.sl (Rp.int .i64)) κ w 0 a1_0 u1_0 p1.Next) (g1_1 : Rd Pair.rp κ w 0 a1_1 u1_1 p1.Pairs) {r : Bool} (h : i_isDet p0 p1 = some r) : Ret Try.prog 66 [.agg #[.int .i64 p0.In, .int .i64 p0.Out], .agg #[.slice a1_0 p1.Next.length u1_0, .slice a1_1 p1.Pairs.length u1_1]] w (fun v w' => ∃ (κ' : Col), v = .bool r ∧ Ent κ w κ' w') := by
 unfold i_isDet at h
 refine Ret.enter Try.func66 rfl Try.ntmps66 rfl ?_
 dsimp only [envOf]
 have hE := Ent.refl κ w
 refine WC.seq ?_
 refine WC.rs [(0, 1), (1, 1), (2, 2)] rfl ?_
 refine WO.box (κ := κ) 2 rfl rfl rfl rfl rfl rfl rfl fun b2 w1 K2 S3 f4 => ⟨trivial, ?_⟩
 refine WO.box (κ := K2) 3 rfl rfl rfl rfl rfl rfl rfl fun b3 w5 K6 S7 f8 => ⟨trivial, ?_⟩
 refine WO.pn 1 rfl ?_
 refine WO.fin ?_
 refine DN.seq ?_
 refine WC.seq ?_
 refine WC.rs [(0, 2), (1, 1), (2, 2), (3, 2)] rfl ?_
 refine WO.k2 rfl rfl rfl rfl (rn_fieldAddr Try.runUnderlying55 rfl Try.sizeOf24 rfl rfl) ?_
 refine WO.k1 trivial rfl rfl rfl rfl (rn_ld Try.isAgg24 rfl rfl (hvE (f8.ld 0 rfl rfl))) ?_
 refine WO.k2 rfl rfl rfl rfl (rn_len Try.runUnderlying24 rfl rfl) ?_
 refine WO.pn 1 rfl ?_
 refine WO.fin ?_
 refine DN.seq ?_
 refine WC.seq ?_
 refine WC.seq ?_
 refine WC.rs [(0, 2), (1, 2), (2, 2), (3, 2), (4, 2), (5, 2), (6, 2), (7, 2), (8, 1), (9, 2), (10, 1), (11, 2), (12, 2)] rfl ?_
 refine WO.pn 3 rfl ?_
 obtain ⟨p16, h, hK9⟩ := Option.bind_eq_some_iff.mp h
 refine WO.meet [(3, 2), (4, 2), (5, 2)] [(6, 2), (7, 2), (8, 1), (9, 2), (10, 1), (11, 2), (12, 2)] (fun L w' => L = [(2, .pointer (some ⟨b2, 0, none⟩)), (3, .pointer (some ⟨b3, 0, none⟩)), (5, .int .i64 (p1.Next.length : Int)), (16, .bool p16)] ∧ ∃ κ', Stp [] K6 w5 κ' w') trivial ?_ ?_
 ·
  revert h
  cases ht10 : decide ((p1.Next.length : Int) < 1) with
  | true =>
   intro h; replace h := cT h
   refine WO.pn 3 rfl ?_
   obtain rfl := Option.some.inj h
   exact WO.met _ trivial ⟨rfl, _, (Stp.refl _ _).wk rfl⟩ fun a ha => (ha.more (ha.more (ha.more (ha.more ha.nil rfl) rfl) rfl) rfl)
  | false =>
   intro h; replace h := cF h
   refine WO.pn 3 rfl ?_
   obtain rfl := Option.some.inj h
   exact WO.met _ trivial ⟨rfl, _, (Stp.refl _ _).wk rfl⟩ fun a ha => (ha.more (ha.more (ha.more (ha.more ha.nil rfl) rfl) rfl) rfl)
 rintro _ w11 _ ⟨rfl, K12, S13⟩
 have h := hK9
 refine WO.pn 1 rfl ?_
 obtain ⟨p23, h, hK14⟩ := Option.bind_eq_some_iff.mp h
 refine WO.meet [(7, 2), (8, 1), (9, 2), (10, 1), (11, 2), (12, 2)] [] (fun L w' => L = [(2, .pointer (some ⟨b2, 0, none⟩)), (3, .pointer (some ⟨b3, 0, none⟩)), (5, .int .i64 (p1.Next.length : Int)), (23, .bool p23)] ∧ ∃ κ', Stp [] K12 w11 κ' w') trivial ?_ ?_
 ·
  revert h
  cases ht15 : p16 with
  | true =>
   intro h; replace h := cT h
   refine WO.pn 1 rfl ?_
   refine WO.ls rfl rfl rfl rfl ?_
   refine WO.pn 1 rfl ?_
   refine WO.ls rfl rfl rfl rfl ?_
   refine WO.pn 2 rfl ?_
   obtain rfl := Option.some.inj h
   exact WO.met _ trivial ⟨rfl, _, (Stp.refl _ _).wk rfl⟩ fun a ha => (ha.more (ha.more (ha.more (ha.more ha.nil rfl) rfl) rfl) rfl)
  | false =>
   intro h; replace h := cF h
   refine WO.k2 rfl rfl rfl rfl (rn_fieldAddr Try.runUnderlying55 rfl Try.sizeOf51 rfl rfl) ?_
   have f16 := f8.stp S13 rfl rfl
   refine WO.k1 trivial rfl rfl rfl rfl (rn_ld Try.isAgg51 rfl rfl (hvE (f16.ld 1 rfl rfl))) ?_
   refine WO.pn 1 rfl ?_
   obtain ⟨x21, hx21, h⟩ := Option.bind_eq_some_iff.mp h
   have f17 := g1_1.stp (S3.tr (S7.tr S13)) rfl rfl
   refine WO.call rfl rfl rfl rfl rfl rfl Try.call106 (i_arePairs_ok (κ := fun b => mp [] 0 (K12 b)) (Sl.map f17 (mp [] 0) rfl rfl) hx21) ?_
   rintro _ w18 ⟨k19, rfl, e20⟩
   obtain ⟨K21, S22, m23⟩ := Ent.mixed (l := []) (κ := K12) e20 4 rfl
   refine ⟨trivial, ?_⟩
   refine WO.pn 2 rfl ?_
   obtain rfl := Option.some.inj h
   exact WO.met _ trivial ⟨rfl, _, S22.wk rfl⟩ fun a ha => (ha.more (ha.more (ha.more (ha.more ha.nil rfl) rfl) rfl) rfl)
 rintro _ w25 _ ⟨rfl, K26, S27⟩
 have h := hK14
 refine WO.fin ?_
 refine DN.seq ?_
 revert h
 cases ht28 : p23 with
 | true =>
  intro h; replace h := cT h
  refine WC.ct rfl ?_
  refine WC.seq ?_
  refine WC.rs [(0, 2)] rfl ?_
  refine WO.pn 1 rfl ?_
  refine WO.fin ?_
  refine DN.seq ?_
  refine WC.ret ?_
  refine DN.retThen ?_
  have f29 := hE.stp (S3.tr (S7.tr (S13.tr S27))) rfl rfl
  refine DN.res (l := [.tmp 4]) Try.results66 (res_tmp rfl rfl) rfl ?_
  obtain rfl := Option.some.inj h
  exact ⟨K26, rfl, f29⟩
 | false =>
  intro h; replace h := cF h
  refine WC.cf rfl ?_
  refine WC.skip ?_
  refine DN.seq ?_
  refine WC.seq ?_
  refine WC.seq ?_
  refine WC.rs [(0, 2), (1, 1), (2, 2), (3, 2)] rfl ?_
  refine WO.k2 rfl rfl rfl rfl (rn_fieldAddr Try.runUnderlying55 rfl Try.sizeOf24 rfl rfl) ?_
  have f30 := f8.stp (S13.tr S27) rfl rfl
  refine WO.k1 trivial rfl rfl rfl rfl (rn_ld Try.isAgg24 rfl rfl (hvE (f30.ld 0 rfl rfl))) ?_
  refine WO.k2 rfl rfl rfl rfl (rn_len Try.runUnderlying24 rfl rfl) ?_
  refine WO.pn 1 rfl ?_
  refine WO.fin ?_
  refine DN.seq ?_
  have hN31 : (p1.Next.length : Int) ≤ 9223372036854775807 := g1_0.len_le
  obtain ⟨q2, hq33, hK32⟩ := Option.bind_eq_some_iff.mp h
  clear h
  refine WC.meet (fun L w' => ∃ (κ' : Col), L = [] ∧ Stp [] K26 w25 κ' w' ∧ q2 = Sum.inr ()) ?_ ?_
  ·
   refine WC.block ?_
   refine WC.loop (fun k L w' => ∃ (κ' : Col) (v27 : Int), L = [(2, .pointer (some ⟨b2, 0, none⟩)), (5, .int .i64 (p1.Next.length : Int)), (25, .slice a1_0 p1.Next.length u1_0), (26, .int .i64 (p1.Next.length : Int)), (27, .int .i64 v27)] ∧ Stp [] K26 w25 κ' w' ∧ 0 ≤ v27 ∧ Int.toNat ((p1.Next.length : Int) - v27) = k ∧ cntM (i_isDet_b0 p0 p1) k v27 () = some q2) ⟨_, _, ⟨K26, 0, rfl, (Stp.refl _ _).wk rfl, (by decide), (by simp), hq33⟩, fun a ha => (ha.more (ha.more (ha.more (ha.more (ha.more ha.nil rfl) rfl) rfl) rfl) rfl)⟩ ?_
   rintro k _ w37 ⟨K38, v27, rfl, S39, hj31, hJ31, h⟩
   rcases k with _ | k
   ·
    have hk40 := h; obtain ⟨o31, h⟩ := ex_eq (Sum.inr (Sum.inl ()) : Bool ⊕ ((Unit) ⊕ (Unit)))
    have hc31 : decide (v27 < (p1.Next.length : Int)) = false := decide_eq_false (by omega)
    refine WC.seq ?_
    refine WC.rs [(0, 2)] rfl ?_
    refine WO.pn 1 rfl ?_
    refine WO.fin ?_
    refine DN.seq ?_
    refine WC.seq ?_
    refine WC.cf' rfl hc31 ?_
    refine WC.exit ?_
    refine DN.exitThen ?_
    refine DN.exitThen ?_
    obtain rfl := Option.some.inj h
    have h := hk40
    refine DN.hit ?_
    obtain rfl := Option.some.inj h
    exact DN.meet _ ⟨K38, rfl, S39.wk rfl, rfl⟩ fun a ha => ha.nil
   ·
    obtain ⟨o31, h, hk40⟩ := Option.bind_eq_some_iff.mp h; unfold i_isDet_b0 at h
    have hc31 : decide (v27 < (p1.Next.length : Int)) = true := decide_eq_true (by omega)
    refine WC.seq ?_
    refine WC.rs [(0, 2)] rfl ?_
    refine WO.pn 1 rfl ?_
    refine WO.fin ?_
    refine DN.seq ?_
    refine WC.seq ?_
    refine WC.ct' rfl hc31 ?_
    refine WC.skip ?_
    refine DN.seq ?_
    refine WC.seq ?_
    refine WC.block ?_
    refine WC.seq ?_
    refine WC.rs [(0, 2), (1, 1), (2, 2)] rfl ?_
    obtain ⟨x29, hx29, h⟩ := Option.bind_eq_some_iff.mp h
    refine WO.k2 rfl rfl rfl rfl (rn_index g1_0 hx29 Try.runUnderlying24 Try.sizeOf28 rfl rfl rfl rfl) ?_
    have f41 := g1_0.stp (S3.tr (S7.tr (S13.tr (S27.tr S39)))) rfl rfl
    obtain ⟨ax29, ux29, f42, hl43⟩ := f41.gSl hx29
    refine WO.k1 trivial rfl rfl rfl rfl (rn_ld Try.isAgg28 rfl rfl (hvE hl43)) ?_
    refine WO.pn 1 rfl ?_
    refine WO.fin ?_
    refine DN.seq ?_
    refine WC.seq ?_
    refine WC.rs [(0, 2), (1, 2), (2, 1), (3, 1), (4, 2), (5, 2), (6, 2), (7, 2), (8, 1), (9, 2), (10, 2)] rfl ?_
    refine WO.pn 1 rfl ?_
    refine WO.k2 rfl rfl rfl rfl (rn_len Try.runUnderlying28 rfl rfl) ?_
    have f44 := f4.stp (S7.tr (S13.tr (S27.tr S39))) rfl rfl
    refine WO.k1 trivial rfl rfl rfl rfl (rn_la (cs := [.int .i64 p0.In, .int .i64 p0.Out]) Try.isAgg35 Try.sizeOf35 rfl rfl rfl (haE f44.cells)) ?_
    obtain ⟨x34, hx34, h⟩ := Option.bind_eq_some_iff.mp h
    refine WO.call rfl rfl rfl rfl rfl rfl Try.call107 (i_lettersOf_ok (κ := fun b => mp [] 0 (K38 b)) (p0 := p0) hx34) ?_
    rintro _ w45 ⟨k46, rfl, e47⟩
    obtain ⟨K48, S49, m50⟩ := Ent.mixed (l := []) (κ := K38) e47 4 rfl
    refine ⟨trivial, ?_⟩
    refine WO.pn 2 rfl ?_
    obtain ⟨p41, h, hK52⟩ := Option.bind_eq_some_iff.mp h
    refine WO.meet [(6, 2), (7, 2), (8, 1), (9, 2), (10, 2)] [] (fun L w' => L = [(2, .pointer (some ⟨b2, 0, none⟩)), (5, .int .i64 (p1.Next.length : Int)), (25, .slice a1_0 p1.Next.length u1_0), (26, .int .i64 (p1.Next.length : Int)), (27, .int .i64 v27), (41, .bool p41)] ∧ ∃ κ', Stp [] K48 w45 κ' w') trivial ?_ ?_
    ·
     revert h
     cases ht53 : ((x29.length : Int) != x34) with
     | true =>
      intro h; replace h := cT h
      refine WO.pn 2 rfl ?_
      refine WO.ls rfl rfl rfl rfl ?_
      refine WO.pn 2 rfl ?_
      obtain rfl := Option.some.inj h
      exact WO.met _ trivial ⟨rfl, _, (Stp.refl _ _).wk rfl⟩ fun a ha => (ha.more (ha.more (ha.more (ha.more (ha.more (ha.more ha.nil rfl) rfl) rfl) rfl) rfl) rfl)
     | false =>
      intro h; replace h := cF h
      refine WO.pn 2 rfl ?_
      obtain ⟨x39, hx39, h⟩ := Option.bind_eq_some_iff.mp h
      have f54 := f42.stp S49 rfl rfl
      refine WO.call rfl rfl rfl rfl rfl rfl Try.call105 (i_areLetters_ok (κ := fun b => mp [] 0 (K48 b)) (Sl.map f54 (mp [] 0) rfl rfl) hx39) ?_
      rintro _ w55 ⟨k56, rfl, e57⟩
      obtain ⟨K58, S59, m60⟩ := Ent.mixed (l := []) (κ := K48) e57 6 rfl
      refine ⟨trivial, ?_⟩
      refine WO.pn 2 rfl ?_
      obtain rfl := Option.some.inj h
      exact WO.met _ trivial ⟨rfl, _, S59.wk rfl⟩ fun a ha => (ha.more (ha.more (ha.more (ha.more (ha.more (ha.more ha.nil rfl) rfl) rfl) rfl) rfl) rfl)
    rintro _ w62 _ ⟨rfl, K63, S64⟩
    have h := hK52
    refine WO.fin ?_
    refine DN.seq ?_
    revert h
    cases ht65 : p41 with
    | true =>
     intro h; replace h := cT h
     refine WC.ct rfl ?_
     refine WC.seq ?_
     refine WC.rs [(0, 2)] rfl ?_
     refine WO.pn 1 rfl ?_
     refine WO.fin ?_
     refine DN.seq ?_
     refine WC.ret ?_
     refine DN.retBlock ?_
     refine DN.retThen ?_
     refine DN.retThen ?_
     obtain rfl := Option.some.inj h
     obtain rfl := Option.some.inj hk40
     have h := hK32
     dsimp only [aft] at h
     refine DN.retBlock ?_
     refine DN.retMeet ?_
     refine DN.retThen ?_
     have f66 := hE.stp (S3.tr (S7.tr (S13.tr (S27.tr (S39.tr (S49.tr S64)))))) rfl rfl
     refine DN.res (l := [.tmp 4]) Try.results66 (res_tmp rfl rfl) rfl ?_
     obtain rfl := Option.some.inj h
     exact ⟨K63, rfl, f66⟩
    | false =>
     intro h; replace h := cF h
     refine WC.cf rfl ?_
     refine WC.skip ?_
     refine DN.block ?_
     refine DN.seq ?_
     refine WC.rs [(0, 2), (1, 2)] rfl ?_
     refine WO.pn 2 rfl ?_
     refine WO.fin ?_
     have hw31 : IntKind.wrap .i64 (v27 + 1) = v27 + 1 := wr1 hj31 (of_decide_eq_true hc31) hN31
     rw [hw31]
     have hc31 := of_decide_eq_true hc31
     obtain rfl := Option.some.inj h
     refine DN.round fun a ha => ?_
     exact ⟨k, _, Nat.lt_succ_self _, ⟨K63, v27 + 1, rfl, (S39.tr (S49.tr S64)).wk rfl, by omega, by omega, hk40⟩, (ha.more (ha.more (ha.more (ha.more (ha.more ha.nil rfl) rfl) rfl) rfl) rfl)⟩
  rintro _ w34 ⟨K35, rfl, S36, rfl⟩
  have h := hK32
  dsimp only [aft] at h
  refine DN.seq ?_
  refine WC.seq ?_
  refine WC.rs [(0, 2)] rfl ?_
  refine WO.pn 1 rfl ?_
  refine WO.fin ?_
  refine DN.seq ?_
  refine WC.ret ?_
  have f67 := hE.stp (S3.tr (S7.tr (S13.tr (S27.tr S36)))) rfl rfl
  refine DN.res (l := [.tmp 4]) Try.results66 (res_tmp rfl rfl) rfl ?_
  obtain rfl := Option.some.inj h
  exact ⟨K35, rfl, f67⟩

/- loop.example/g00869/impl.WatchOf -/
theorem i_WatchOf_ok {w : World} {κ : Col} {p0 : Sig} {a1_0 : Option Addr} {u1_0 : Nat} {a1_1 : Option Addr} {u1_1 : Nat} {p1 : Machine} {a2_0 : Option Addr} {u2_0 : Nat} {a2_1 : Option Addr} {u2_1 : Nat} {p2 : Det} (g1_0 : Rd (Rp.sl (Rp.int .i64)) κ w 0 a1_0 u1_0 p1.Next) (g1_1 : Rd (Rp.sl (Rp.int .i64)) κ w 0 a1_1 u1_1 p1.Out) (g2_0 : Rd (Rp.sl (Rp.int .i64)) κ w 0 a2_0 u2_0 p2.Next) (g2_1 : Rd Pair.rp κ w 0 a2_1 u2_1 p2.Pairs) {r : (List (List Int)) × (List Pair) × Bool} (h : i_WatchOf p0 p1 p2 = some r) : Ret Try.prog 22 [.agg #[.int .i64 p0.In, .int .i64 p0.Out], .agg #[.slice a1_0 p1.Next.length u1_0, .slice a1_1 p1.Out.length u1_1], .agg #[.slice a2_0 p2.Next.length u2_0, .slice a2_1 p2.Pairs.length u2_1]] w (fun v w' => ∃ (κ' : Col) (ra0 : Option Addr) (ru0 : Nat) (ra1 : Option Addr) (ru1 : Nat), v = .tuple #[.slice ra0 r.1.length ru0, .slice ra1 r.2.1.length ru1, .bool r.2.2] ∧ Ent κ w κ' w' ∧ Oc (Ep.own (Ep.int .i64) 2) 28 κ' w' 2 ra0 ru0 r.1 ∧ Oc Pair.ep113 113 κ' w' 3 ra1 ru1 r.2.1) := by
 unfold i_WatchOf at h
 refine Ret.enter Try.func22 rfl Try.ntmps22 rfl ?_
 dsimp only [envOf]
 have hE := Ent.refl κ w
 refine WC.seq ?_
 refine WC.rs [(0, 1), (1, 1), (2, 1), (3, 2), (4, 2), (5, 2)] rfl ?_
 refine WO.box (κ := κ) 2 rfl rfl rfl rfl rfl rfl rfl fun b3 w1 K2 S3 f4 => ⟨trivial, ?_⟩
 refine WO.box (κ := K2) 3 rfl rfl rfl rfl rfl rfl rfl fun b4 w5 K6 S7 f8 => ⟨trivial, ?_⟩
 refine WO.box (κ := K6) 4 rfl rfl rfl rfl rfl rfl rfl fun b5 w9 K10 S11 f12 => ⟨trivial, ?_⟩
 refine WO.pn 3 rfl ?_
 refine WO.fin ?_
 refine DN.seq ?_
 refine WC.seq ?_
 refine WC.seq ?_
 refine WC.rs [(0, 1), (1, 1), (2, 2), (3, 2), (4, 1), (5, 1), (6, 1), (7, 2), (8, 2), (9, 2), (10, 1), (11, 1), (12, 1), (13, 2), (14, 2)] rfl ?_
 have f13 := f4.stp (S7.tr S11) rfl rfl
 refine WO.k1 trivial rfl rfl rfl rfl (rn_la (cs := [.int .i64 p0.In, .int .i64 p0.Out]) Try.isAgg35 Try.sizeOf35 rfl rfl rfl (haE f13.cells)) ?_
 obtain ⟨x12, hx12, h⟩ := Option.bind_eq_some_iff.mp h
 refine WO.call rfl rfl rfl rfl rfl rfl Try.call64 (i_isSig_ok (κ := fun b => mp [] 0 (K10 b)) (p0 := p0) hx12) ?_
 rintro _ w14 ⟨k15, rfl, e16⟩
 obtain ⟨K17, S18, m19⟩ := Ent.mixed (l := []) (κ := K10) e16 5 rfl
 refine ⟨trivial, ?_⟩
 refine WO.pn 2 rfl ?_
 obtain ⟨p19, h, hK21⟩ := Option.bind_eq_some_iff.mp h
 refine WO.meet [(4, 1), (5, 1), (6, 1), (7, 2), (8, 2)] [(9, 2), (10, 1), (11, 1), (12, 1), (13, 2), (14, 2)] (fun L w' => L = [(3, .pointer (some ⟨b3, 0, none⟩)), (4, .pointer (some ⟨b4, 0, none⟩)), (5, .pointer (some ⟨b5, 0, none⟩)), (19, .bool p19)] ∧ ∃ κ', Stp [] K17 w14 κ' w') trivial ?_ ?_
 ·
  revert h
  cases ht22 : (!x12) with
  | true =>
   intro h; replace h := cT h
   refine WO.ls rfl rfl rfl rfl ?_
   refine WO.ls rfl rfl rfl rfl ?_
   refine WO.ls rfl rfl rfl rfl ?_
   refine WO.pn 2 rfl ?_
   obtain rfl := Option.some.inj h
   exact WO.met _ trivial ⟨rfl, _, (Stp.refl _ _).wk rfl⟩ fun a ha => (ha.more (ha.more (ha.more (ha.more ha.nil rfl) rfl) rfl) rfl)
  | false =>
   intro h; replace h := cF h
   have f23 := f13.stp S18 rfl rfl
   refine WO.k1 trivial rfl rfl rfl rfl (rn_la (cs := [.int .i64 p0.In, .int .i64 p0.Out]) Try.isAgg35 Try.sizeOf35 rfl rfl rfl (haE f23.cells)) ?_
   have f24 := f8.stp (S11.tr S18) rfl rfl
   refine WO.k1 trivial rfl rfl rfl rfl (rn_la (cs := [.slice a1_0 p1.Next.length u1_0, .slice a1_1 p1.Out.length u1_1]) Try.isAgg37 Try.sizeOf37 rfl rfl rfl (haE f24.cells)) ?_
   obtain ⟨x17, hx17, h⟩ := Option.bind_eq_some_iff.mp h
   have f25 := g1_0.stp (S3.tr (S7.tr (S11.tr S18))) rfl rfl
   have f26 := g1_1.stp (S3.tr (S7.tr (S11.tr S18))) rfl rfl
   refine WO.call rfl rfl rfl rfl rfl rfl Try.call65 (i_isMachine_ok (κ := fun b => mp [] 0 (K17 b)) (p0 := p0) (p1 := p1) (Sl.map f25 (mp [] 0) rfl rfl) (Sl.map f26 (mp [] 0) rfl rfl) hx17) ?_
   rintro _ w27 ⟨k28, rfl, e29⟩
   obtain ⟨K30, S31, m32⟩ := Ent.mixed (l := []) (κ := K17) e29 7 rfl
   refine ⟨trivial, ?_⟩
   refine WO.pn 2 rfl ?_
   obtain rfl := Option.some.inj h
   exact WO.met _ trivial ⟨rfl, _, S31.wk rfl⟩ fun a ha => (ha.more (ha.more (ha.more (ha.more ha.nil rfl) rfl) rfl) rfl)
 rintro _ w34 _ ⟨rfl, K35, S36⟩
 have h := hK21
 refine WO.pn 1 rfl ?_
 obtain ⟨p25, h, hK37⟩ := Option.bind_eq_some_iff.mp h
 refine WO.meet [(10, 1), (11, 1), (12, 1), (13, 2), (14, 2)] [] (fun L w' => L = [(3, .pointer (some ⟨b3, 0, none⟩)), (4, .pointer (some ⟨b4, 0, none⟩)), (5, .pointer (some ⟨b5, 0, none⟩)), (25, .bool p25)] ∧ ∃ κ', Stp [] K35 w34 κ' w') trivial ?_ ?_
 ·
  revert h
  cases ht38 : p19 with
  | true =>
   intro h; replace h := cT h
   refine WO.ls rfl rfl rfl rfl ?_
   refine WO.ls rfl rfl rfl rfl ?_
   refine WO.ls rfl rfl rfl rfl ?_
   refine WO.pn 2 rfl ?_
   obtain rfl := Option.some.inj h
   exact WO.met _ trivial ⟨rfl, _, (Stp.refl _ _).wk rfl⟩ fun a ha => (ha.more (ha.more (ha.more (ha.more ha.nil rfl) rfl) rfl) rfl)
  | false =>
   intro h; replace h := cF h
   have f39 := f13.stp (S18.tr S36) rfl rfl
   refine WO.k1 trivial rfl rfl rfl rfl (rn_la (cs := [.int .i64 p0.In, .int .i64 p0.Out]) Try.isAgg35 Try.sizeOf35 rfl rfl rfl (haE f39.cells)) ?_
   have f40 := f12.stp (S18.tr S36) rfl rfl
   refine WO.k1 trivial rfl rfl rfl rfl (rn_la (cs := [.slice a2_0 p2.Next.length u2_0, .slice a2_1 p2.Pairs.length u2_1]) Try.isAgg55 Try.sizeOf55 rfl rfl rfl (haE f40.cells)) ?_
   obtain ⟨x23, hx23, h⟩ := Option.bind_eq_some_iff.mp h
   have f41 := g2_0.stp (S3.tr (S7.tr (S11.tr (S18.tr S36)))) rfl rfl
   have f42 := g2_1.stp (S3.tr (S7.tr (S11.tr (S18.tr S36)))) rfl rfl
   refine WO.call rfl rfl rfl rfl rfl rfl Try.call66 (i_isDet_ok (κ := fun b => mp [] 0 (K35 b)) (p0 := p0) (p1 := p2) (Sl.map f41 (mp [] 0) rfl rfl) (Sl.map f42 (mp [] 0) rfl rfl) hx23) ?_
   rintro _ w43 ⟨k44, rfl, e45⟩
   obtain ⟨K46, S47, m48⟩ := Ent.mixed (l := []) (κ := K35) e45 7 rfl
   refine ⟨trivial, ?_⟩
   refine WO.pn 2 rfl ?_
   obtain rfl := Option.some.inj h
   exact WO.met _ trivial ⟨rfl, _, S47.wk rfl⟩ fun a ha => (ha.more (ha.more (ha.more (ha.more ha.nil rfl) rfl) rfl) rfl)
 rintro _ w50 _ ⟨rfl, K51, S52⟩
 have h := hK37
 refine WO.fin ?_
 refine DN.seq ?_
 revert h
 cases ht53 : p25 with
 | true =>
  intro h; replace h := cT h
  refine WC.ct rfl ?_
  refine WC.seq ?_
  refine WC.rs [(0, 2), (1, 2), (2, 2)] rfl ?_
  refine WO.pn 3 rfl ?_
  refine WO.fin ?_
  refine DN.seq ?_
  refine WC.ret ?_
  refine DN.retThen ?_
  have f54 := hE.stp (S3.tr (S7.tr (S11.tr (S18.tr (S36.tr S52))))) rfl rfl
  refine DN.res (l := [.tmp 6, .tmp 7, .tmp 8]) Try.results22 (res_tmp rfl (res_tmp rfl (res_tmp rfl rfl))) rfl ?_
  obtain rfl := Option.some.inj h
  exact ⟨K51, none, 0, none, 0, rfl, f54, Ow.nil, Ow.nil⟩
 | false =>
  intro h; replace h := cF h
  refine WC.cf rfl ?_
  refine WC.skip ?_
  refine DN.seq ?_
  refine WC.seq ?_
  refine WC.rs [(0, 1), (1, 1), (2, 1), (3, 1), (4, 2), (5, 2), (6, 2), (7, 2), (8, 2)] rfl ?_
  have f55 := f13.stp (S18.tr (S36.tr S52)) rfl rfl
  refine WO.k1 trivial rfl rfl rfl rfl (rn_la (cs := [.int .i64 p0.In, .int .i64 p0.Out]) Try.isAgg35 Try.sizeOf35 rfl rfl rfl (haE f55.cells)) ?_
  have f56 := f8.stp (S11.tr (S18.tr (S36.tr S52))) rfl rfl
  refine WO.k1 trivial rfl rfl rfl rfl (rn_la (cs := [.slice a1_0 p1.Next.length u1_0, .slice a1_1 p1.Out.length u1_1]) Try.isAgg37 Try.sizeOf37 rfl rfl rfl (haE f56.cells)) ?_
  have f57 := f12.stp (S18.tr (S36.tr S52)) rfl rfl
  refine WO.k1 trivial rfl rfl rfl rfl (rn_la (cs := [.slice a2_0 p2.Next.length u2_0, .slice a2_1 p2.Pairs.length u2_1]) Try.isAgg55 Try.sizeOf55 rfl rfl rfl (haE f57.cells)) ?_
  obtain ⟨x30, hx30, h⟩ := Option.bind_eq_some_iff.mp h
  have f58 := g1_0.stp (S3.tr (S7.tr (S11.tr (S18.tr (S36.tr S52))))) rfl rfl
  have f59 := g1_1.stp (S3.tr (S7.tr (S11.tr (S18.tr (S36.tr S52))))) rfl rfl
  have f60 := g2_0.stp (S3.tr (S7.tr (S11.tr (S18.tr (S36.tr S52))))) rfl rfl
  have f61 := g2_1.stp (S3.tr (S7.tr (S11.tr (S18.tr (S36.tr S52))))) rfl rfl
  refine WO.call rfl rfl rfl rfl rfl rfl Try.call67 (i_watchOf_ok (κ := fun b => mp [] 0 (K51 b)) (p0 := p0) (p1 := p1) (p2 := p2) (Sl.map f58 (mp [] 0) rfl rfl) (Sl.map f59 (mp [] 0) rfl rfl) (Sl.map f60 (mp [] 0) rfl rfl) (Sl.map f61 (mp [] 0) rfl rfl) hx30) ?_
  rintro _ w62 ⟨k63, a30_0, u30_0, a30_1, u30_1, a30_2, u30_2, b30, rfl, e64, f65, f66, f67, f68⟩
  obtain ⟨K69, S70, m71⟩ := Ent.mixed (l := []) (κ := K51) e64 7 rfl
  refine ⟨trivial, ?_⟩
  have f73 := f65.mx (no_own (no_int _) _) m71 rfl (rfl : 7 + 2 = 9)
  have f74 := f66.mx (no_own (no_int _) _) m71 rfl (rfl : 7 + 3 = 10)
  have f75 := f67.mx Pair.no113 m71 rfl (rfl : 7 + 4 = 11)
  have f76 := fun hs => (f68 hs).mx m71 rfl (rfl : 7 + 5 = 12)
  refine WO.pn 5 rfl ?_
  refine WO.fin ?_
  refine DN.seq ?_
  refine WC.seq ?_
  refine WC.seq ?_
  refine WC.rs [(0, 2), (1, 2)] rfl ?_
  refine WO.pn 2 rfl ?_
  refine WO.fin ?_
  refine DN.seq ?_
  revert h
  cases ht77 : (!x30.2) with
  | true =>
   intro h; replace h := cT h
   refine WC.ct rfl ?_
   refine WC.seq ?_
   refine WC.rs [(0, 2), (1, 2), (2, 2)] rfl ?_
   refine WO.pn 3 rfl ?_
   refine WO.fin ?_
   refine DN.seq ?_
   refine WC.ret ?_
   refine DN.retThen ?_
   have f78 := hE.stp (S3.tr (S7.tr (S11.tr (S18.tr (S36.tr (S52.tr S70)))))) rfl rfl
   refine DN.res (l := [.tmp 6, .tmp 7, .tmp 8]) Try.results22 (res_tmp rfl (res_tmp rfl (res_tmp rfl rfl))) rfl ?_
   obtain rfl := Option.some.inj h
   exact ⟨K69, none, 0, none, 0, rfl, f78, Ow.nil, Ow.nil⟩
  | false =>
   intro h; replace h := cF h
   refine WC.cf rfl ?_
   refine WC.skip ?_
   refine DN.seq ?_
   refine WC.seq ?_
   refine WC.rx (κ := K69) [12] none [(0, 2), (1, 2), (2, 2), (4, 2), (5, 2), (6, 2), (3, 0), (8, 2), (7, 0), (9, 2), (10, 2)] [] (by kernel_rfl) (by kernel_rfl) fun w80 S79 => ?_
   refine WO.pn 1 rfl ?_
   obtain ⟨_g35, hg35, h⟩ := Option.bind_eq_some_iff.mp h
   have hs81 := guardS_ok hg35
   simp only [hs81, cond_true]
   have f82 := f76 hs81
   refine WO.k2 rfl rfl rfl rfl (rn_nilCheck rfl rfl) ?_
   refine WO.k2 rfl rfl rfl rfl (rn_fieldAddr Try.runUnderlying120 rfl Try.sizeOf24 rfl rfl) ?_
   refine WO.pn 1 rfl ?_
   refine WO.k2 rfl rfl rfl rfl (rn_nilCheck rfl rfl) ?_
   refine WO.k2 rfl rfl rfl rfl (rn_fieldAddr Try.runUnderlying120 rfl Try.sizeOf51 rfl rfl) ?_
   have f83 := f82.stp S79 rfl rfl
   refine WO.k0 rfl rfl rfl rfl (rn_ld Try.isAgg24 rfl rfl (hvC (f83.ld 0 rfl rfl) rfl)) ?_
   refine WO.pn 1 rfl ?_
   refine WO.k0 rfl rfl rfl rfl (rn_ld Try.isAgg51 rfl rfl (hvC (f83.ld 2 rfl rfl) rfl)) ?_
   refine WO.pn 2 rfl ?_
   refine WO.nx ?_
   refine WO.fin ?_
   refine DN.seq ?_
   refine WC.ret ?_
   have f84 := hE.stp (S3.tr (S7.tr (S11.tr (S18.tr (S36.tr (S52.tr (S70.tr S79))))))) rfl rfl
   have f85 := f73.stp S79 rfl rfl
   have f86 := f75.stp S79 rfl rfl
   refine DN.res (l := [.tmp 6, .tmp 7, .tmp 8]) Try.results22 (res_tmp rfl (res_tmp rfl (res_tmp rfl rfl))) rfl ?_
   obtain rfl := Option.some.inj h
   exact ⟨(fun b => ren [(9, 2), (11, 3)] (K69 b)), a30_0, u30_0, a30_2, u30_2, rfl, (f84.map (ren [(9, 2), (11, 3)]) rfl rfl), (f85.map (ren [(9, 2), (11, 3)]) rfl rfl), (f86.map (ren [(9, 2), (11, 3)]) rfl rfl)⟩

/- loop.example/g00869/laws.eqDet -/
theorem l_eqDet_ok {w : World} {κ : Col} {a0_0 : Option Addr} {u0_0 : Nat} {a0_1 : Option Addr} {u0_1 : Nat} {p0 : Det} {a1_0 : Option Addr} {u1_0 : Nat} {a1_1 : Option Addr} {u1_1 : Nat} {p1 : Det} (g0_0 : Rd (Rp.sl (Rp.int .i64)) κ w 0 a0_0 u0_0 p0.Next) (g0_1 : Rd Pair.rp κ w 0 a0_1 u0_1 p0.Pairs) (g1_0 : Rd (Rp.sl (Rp.int .i64)) κ w 0 a1_0 u1_0 p1.Next) (g1_1 : Rd Pair.rp κ w 0 a1_1 u1_1 p1.Pairs) {r : Bool} (h : l_eqDet p0 p1 = some r) : Ret Try.prog 25 [.agg #[.slice a0_0 p0.Next.length u0_0, .slice a0_1 p0.Pairs.length u0_1], .agg #[.slice a1_0 p1.Next.length u1_0, .slice a1_1 p1.Pairs.length u1_1]] w (fun v w' => ∃ (κ' : Col), v = .bool r ∧ Ent κ w κ' w') := by
 unfold l_eqDet at h
 refine Ret.enter Try.func25 rfl Try.ntmps25 rfl ?_
 dsimp only [envOf]
 have hE := Ent.refl κ w
 refine WC.seq ?_
 refine WC.rs [(0, 1), (1, 1), (2, 2)] rfl ?_
 refine WO.box (κ := κ) 2 rfl rfl rfl rfl rfl rfl rfl fun b2 w1 K2 S3 f4 => ⟨trivial, ?_⟩
 refine WO.box (κ := K2) 3 rfl rfl rfl rfl rfl rfl rfl fun b3 w5 K6 S7 f8 => ⟨trivial, ?_⟩
 refine WO.pn 1 rfl ?_
 refine WO.fin ?_
 refine DN.seq ?_
 refine WC.seq ?_
 refine WC.seq ?_
 refine WC.rs [(0, 2), (1, 1), (2, 2), (3, 1), (4, 1), (5, 2)] rfl ?_
 refine WO.k2 rfl rfl rfl rfl (rn_fieldAddr Try.runUnderlying55 rfl Try.sizeOf24 rfl rfl) ?_
 have f9 := f4.stp S7 rfl rfl
 refine WO.k1 trivial rfl rfl rfl rfl (rn_ld Try.isAgg24 rfl rfl (hvE (f9.ld 0 rfl rfl))) ?_
 refine WO.k2 rfl rfl rfl rfl (rn_fieldAddr Try.runUnderlying55 rfl Try.sizeOf24 rfl rfl) ?_
 refine WO.k1 trivial rfl rfl rfl rfl (rn_ld Try.isAgg24 rfl rfl (hvE (f8.ld 0 rfl rfl))) ?_
 obtain ⟨x9, hx9, h⟩ := Option.bind_eq_some_iff.mp h
 have f10 := g0_0.stp (S3.tr S7) rfl rfl
 have f11 := g1_0.stp (S3.tr S7) rfl rfl
 refine WO.call rfl rfl rfl rfl rfl rfl Try.call23 (l_eqInt64SS_ok (κ := fun b => mp [] 0 (K6 b)) (Sl.map f10 (mp [] 0) rfl rfl) (Sl.map f11 (mp [] 0) rfl rfl) hx9) ?_
 rintro _ w12 ⟨k13, rfl, e14⟩
 obtain ⟨K15, S16, m17⟩ := Ent.mixed (l := []) (κ := K6) e14 4 rfl
 refine ⟨trivial, ?_⟩
 refine WO.pn 1 rfl ?_
 refine WO.fin ?_
 refine DN.seq ?_
 revert h
 cases ht19 : (!x9) with
 | true =>
  intro h; replace h := cT h
  refine WC.ct rfl ?_
  refine WC.seq ?_
  refine WC.rs [(0, 2)] rfl ?_
  refine WO.pn 1 rfl ?_
  refine WO.fin ?_
  refine DN.seq ?_
  refine WC.ret ?_
  refine DN.retThen ?_
  have f20 := hE.stp (S3.tr (S7.tr S16)) rfl rfl
  refine DN.res (l := [.tmp 4]) Try.results25 (res_tmp rfl rfl) rfl ?_
  obtain rfl := Option.some.inj h
  exact ⟨K15, rfl, f20⟩
 | false =>
  intro h; replace h := cF h
  refine WC.cf rfl ?_
  refine WC.skip ?_
  refine DN.seq ?_
  refine WC.seq ?_
  refine WC.seq ?_
  refine WC.rs [(0, 2), (1, 1), (2, 2), (3, 1), (4, 1), (5, 2)] rfl ?_
  refine WO.k2 rfl rfl rfl rfl (rn_fieldAddr Try.runUnderlying55 rfl Try.sizeOf51 rfl rfl) ?_
  have f21 := f9.stp S16 rfl rfl
  refine WO.k1 trivial rfl rfl rfl rfl (rn_ld Try.isAgg51 rfl rfl (hvE (f21.ld 1 rfl rfl))) ?_
  refine WO.k2 rfl rfl rfl rfl (rn_fieldAddr Try.runUnderlying55 rfl Try.sizeOf51 rfl rfl) ?_
  have f22 := f8.stp S16 rfl rfl
  refine WO.k1 trivial rfl rfl rfl rfl (rn_ld Try.isAgg51 rfl rfl (hvE (f22.ld 1 rfl rfl))) ?_
  obtain ⟨x15, hx15, h⟩ := Option.bind_eq_some_iff.mp h
  have f23 := g0_1.stp (S3.tr (S7.tr S16)) rfl rfl
  have f24 := g1_1.stp (S3.tr (S7.tr S16)) rfl rfl
  refine WO.call rfl rfl rfl rfl rfl rfl Try.call24 (l_eqPairS_ok (κ := fun b => mp [] 0 (K15 b)) (Sl.map f23 (mp [] 0) rfl rfl) (Sl.map f24 (mp [] 0) rfl rfl) hx15) ?_
  rintro _ w25 ⟨k26, rfl, e27⟩
  obtain ⟨K28, S29, m30⟩ := Ent.mixed (l := []) (κ := K15) e27 6 rfl
  refine ⟨trivial, ?_⟩
  refine WO.pn 1 rfl ?_
  refine WO.fin ?_
  refine DN.seq ?_
  revert h
  cases ht32 : (!x15) with
  | true =>
   intro h; replace h := cT h
   refine WC.ct rfl ?_
   refine WC.seq ?_
   refine WC.rs [(0, 2)] rfl ?_
   refine WO.pn 1 rfl ?_
   refine WO.fin ?_
   refine DN.seq ?_
   refine WC.ret ?_
   refine DN.retThen ?_
   have f33 := hE.stp (S3.tr (S7.tr (S16.tr S29))) rfl rfl
   refine DN.res (l := [.tmp 4]) Try.results25 (res_tmp rfl rfl) rfl ?_
   obtain rfl := Option.some.inj h
   exact ⟨K28, rfl, f33⟩
  | false =>
   intro h; replace h := cF h
   refine WC.cf rfl ?_
   refine WC.skip ?_
   refine DN.seq ?_
   refine WC.seq ?_
   refine WC.rs [(0, 2)] rfl ?_
   refine WO.pn 1 rfl ?_
   refine WO.fin ?_
   refine DN.seq ?_
   refine WC.ret ?_
   have f34 := hE.stp (S3.tr (S7.tr (S16.tr S29))) rfl rfl
   refine DN.res (l := [.tmp 4]) Try.results25 (res_tmp rfl rfl) rfl ?_
   obtain rfl := Option.some.inj h
   exact ⟨K28, rfl, f34⟩

end Go.Proofs.Ytnmjfjppgpkieaa
