/- The walks, part 2. By program. -/
import Derived.Test.YtgniipbjjkodaaaFnsC121
set_option linter.unusedVariables false
set_option linter.unusedSimpArgs false
namespace Go.Proofs.Ytgniipbjjkodaaa
open Go Go.Wk Go.Proofs
set_option maxRecDepth 100000
set_option maxHeartbeats 1000000

/- loop.example/g00869/laws.szMachine -/
theorem l_szMachine_ok {w : World} {κ : Col} {a0_0 : Option Addr} {u0_0 : Nat} {a0_1 : Option Addr} {u0_1 : Nat} {p0 : Machine} {p1 : Int} (g0_0 : Rd (Rp.sl (Rp.int .i64)) κ w 0 a0_0 u0_0 p0.Next) (g0_1 : Rd (Rp.sl (Rp.int .i64)) κ w 0 a0_1 u0_1 p0.Out) {r : Int} (h : l_szMachine p0 p1 = some r) : Ret Try.prog 45 [.agg #[.slice a0_0 p0.Next.length u0_0, .slice a0_1 p0.Out.length u0_1], .int .i64 p1] w (fun v w' => ∃ (κ' : Col), v = .int .i64 r ∧ Ent κ w κ' w') := by
 unfold l_szMachine at h
 refine Ret.enter Try.func45 rfl Try.ntmps45 rfl ?_
 dsimp only [envOf]
 have hE := Ent.refl κ w
 refine WC.seq ?_
 refine WC.rs [(0, 1), (1, 2)] rfl ?_
 refine WO.box (κ := κ) 2 rfl rfl rfl rfl rfl rfl rfl fun b2 w1 K2 S3 f4 => ⟨trivial, ?_⟩
 refine WO.pn 1 rfl ?_
 refine WO.fin ?_
 refine DN.seq ?_
 refine WC.seq ?_
 refine WC.rs [(0, 2), (1, 1), (2, 2), (3, 1), (4, 2)] rfl ?_
 refine WO.k2 rfl rfl rfl rfl (rn_fieldAddr Try.runUnderlying77 rfl Try.sizeOf25 rfl rfl) ?_
 refine WO.k1 trivial rfl rfl rfl rfl (rn_ld Try.isAgg25 rfl rfl (hvE (f4.ld 0 rfl rfl))) ?_
 refine WO.pn 1 rfl ?_
 obtain ⟨x8, hx8, h⟩ := Option.bind_eq_some_iff.mp h
 have f5 := g0_0.stp S3 rfl rfl
 refine WO.call rfl rfl rfl rfl rfl rfl Try.call69 (l_szInt64SS_ok (κ := fun b => mp [] 0 (K2 b)) (Sl.map f5 (mp [] 0) rfl rfl) hx8) ?_
 rintro _ w6 ⟨k7, rfl, e8⟩
 obtain ⟨K9, S10, m11⟩ := Ent.mixed (l := []) (κ := K2) e8 3 rfl
 refine ⟨trivial, ?_⟩
 refine WO.pn 1 rfl ?_
 refine WO.fin ?_
 refine DN.seq ?_
 refine WC.seq ?_
 refine WC.seq ?_
 refine WC.rs [(0, 2), (1, 2)] rfl ?_
 refine WO.pn 2 rfl ?_
 refine WO.fin ?_
 refine DN.seq ?_
 revert h
 cases ht13 : decide (x8 < 0) with
 | true =>
  intro h; replace h := cT h
  refine WC.ct rfl ?_
  refine WC.seq ?_
  refine WC.rs [(0, 2)] rfl ?_
  refine WO.pn 1 rfl ?_
  refine WO.fin ?_
  refine DN.seq ?_
  refine WC.ret ?_
  refine DN.retThen ?_
  have f14 := hE.stp (S3.tr S10) rfl rfl
  refine DN.res (l := [.tmp 4]) Try.results45 (res_tmp rfl rfl) rfl ?_
  obtain rfl := Option.some.inj h
  exact ⟨K9, rfl, f14⟩
 | false =>
  intro h; replace h := cF h
  refine WC.cf rfl ?_
  refine WC.skip ?_
  refine DN.seq ?_
  refine WC.seq ?_
  refine WC.rs [(0, 2), (1, 1), (2, 2), (3, 1), (4, 2)] rfl ?_
  refine WO.k2 rfl rfl rfl rfl (rn_fieldAddr Try.runUnderlying77 rfl Try.sizeOf25 rfl rfl) ?_
  have f15 := f4.stp S10 rfl rfl
  refine WO.k1 trivial rfl rfl rfl rfl (rn_ld Try.isAgg25 rfl rfl (hvE (f15.ld 1 rfl rfl))) ?_
  refine WO.pn 1 rfl ?_
  obtain ⟨x14, hx14, h⟩ := Option.bind_eq_some_iff.mp h
  have f16 := g0_1.stp (S3.tr S10) rfl rfl
  refine WO.call rfl rfl rfl rfl rfl rfl Try.call69 (l_szInt64SS_ok (κ := fun b => mp [] 0 (K9 b)) (Sl.map f16 (mp [] 0) rfl rfl) hx14) ?_
  rintro _ w17 ⟨k18, rfl, e19⟩
  obtain ⟨K20, S21, m22⟩ := Ent.mixed (l := []) (κ := K9) e19 5 rfl
  refine ⟨trivial, ?_⟩
  refine WO.pn 1 rfl ?_
  refine WO.fin ?_
  refine DN.seq ?_
  refine WC.seq ?_
  refine WC.seq ?_
  refine WC.rs [(0, 2), (1, 2)] rfl ?_
  refine WO.pn 2 rfl ?_
  refine WO.fin ?_
  refine DN.seq ?_
  revert h
  cases ht24 : decide (x14 < 0) with
  | true =>
   intro h; replace h := cT h
   refine WC.ct rfl ?_
   refine WC.seq ?_
   refine WC.rs [(0, 2)] rfl ?_
   refine WO.pn 1 rfl ?_
   refine WO.fin ?_
   refine DN.seq ?_
   refine WC.ret ?_
   refine DN.retThen ?_
   have f25 := hE.stp (S3.tr (S10.tr S21)) rfl rfl
   refine DN.res (l := [.tmp 4]) Try.results45 (res_tmp rfl rfl) rfl ?_
   obtain rfl := Option.some.inj h
   exact ⟨K20, rfl, f25⟩
  | false =>
   intro h; replace h := cF h
   refine WC.cf rfl ?_
   refine WC.skip ?_
   refine DN.seq ?_
   refine WC.seq ?_
   refine WC.rs [(0, 2), (1, 2)] rfl ?_
   refine WO.pn 2 rfl ?_
   refine WO.fin ?_
   refine DN.seq ?_
   refine WC.ret ?_
   have f26 := hE.stp (S3.tr (S10.tr S21)) rfl rfl
   refine DN.res (l := [.tmp 4]) Try.results45 (res_tmp rfl rfl) rfl ?_
   obtain rfl := Option.some.inj h
   exact ⟨K20, rfl, f26⟩

/- loop.example/g00869/laws.szRival -/
theorem l_szRival_ok {w : World} {κ : Col} {a0_0 : Option Addr} {u0_0 : Nat} {a0_1 : Option Addr} {u0_1 : Nat} {p0 : Rival} {p1 : Int} (g0_0 : Rd (Rp.int .i64) κ w 0 a0_0 u0_0 p0.In) (g0_1 : Rd (Rp.sl (Rp.int .i64)) κ w 0 a0_1 u0_1 p0.Next) {r : Int} (h : l_szRival p0 p1 = some r) : Ret Try.prog 15 [.agg #[.slice a0_0 p0.In.length u0_0, .slice a0_1 p0.Next.length u0_1], .int .i64 p1] w (fun v w' => ∃ (κ' : Col), v = .int .i64 r ∧ Ent κ w κ' w') := by
 unfold l_szRival at h
 refine Ret.enter Try.func15 rfl Try.ntmps15 rfl ?_
 dsimp only [envOf]
 have hE := Ent.refl κ w
 refine WC.seq ?_
 refine WC.rs [(0, 1), (1, 2)] rfl ?_
 refine WO.box (κ := κ) 2 rfl rfl rfl rfl rfl rfl rfl fun b2 w1 K2 S3 f4 => ⟨trivial, ?_⟩
 refine WO.pn 1 rfl ?_
 refine WO.fin ?_
 refine DN.seq ?_
 refine WC.seq ?_
 refine WC.rs [(0, 2), (1, 1), (2, 2), (3, 1), (4, 2)] rfl ?_
 refine WO.k2 rfl rfl rfl rfl (rn_fieldAddr Try.runUnderlying27 rfl Try.sizeOf24 rfl rfl) ?_
 refine WO.k1 trivial rfl rfl rfl rfl (rn_ld Try.isAgg24 rfl rfl (hvE (f4.ld 0 rfl rfl))) ?_
 refine WO.pn 1 rfl ?_
 obtain ⟨x8, hx8, h⟩ := Option.bind_eq_some_iff.mp h
 have f5 := g0_0.stp S3 rfl rfl
 refine WO.call rfl rfl rfl rfl rfl rfl Try.call68 (l_szInt64S_ok (κ := fun b => mp [] 0 (K2 b)) (Sl.map f5 (mp [] 0) rfl rfl) hx8) ?_
 rintro _ w6 ⟨k7, rfl, e8⟩
 obtain ⟨K9, S10, m11⟩ := Ent.mixed (l := []) (κ := K2) e8 3 rfl
 refine ⟨trivial, ?_⟩
 refine WO.pn 1 rfl ?_
 refine WO.fin ?_
 refine DN.seq ?_
 refine WC.seq ?_
 refine WC.seq ?_
 refine WC.rs [(0, 2), (1, 2)] rfl ?_
 refine WO.pn 2 rfl ?_
 refine WO.fin ?_
 refine DN.seq ?_
 revert h
 cases ht13 : decide (x8 < 0) with
 | true =>
  intro h; replace h := cT h
  refine WC.ct rfl ?_
  refine WC.seq ?_
  refine WC.rs [(0, 2)] rfl ?_
  refine WO.pn 1 rfl ?_
  refine WO.fin ?_
  refine DN.seq ?_
  refine WC.ret ?_
  refine DN.retThen ?_
  have f14 := hE.stp (S3.tr S10) rfl rfl
  refine DN.res (l := [.tmp 4]) Try.results15 (res_tmp rfl rfl) rfl ?_
  obtain rfl := Option.some.inj h
  exact ⟨K9, rfl, f14⟩
 | false =>
  intro h; replace h := cF h
  refine WC.cf rfl ?_
  refine WC.skip ?_
  refine DN.seq ?_
  refine WC.seq ?_
  refine WC.rs [(0, 2), (1, 1), (2, 2), (3, 1), (4, 2)] rfl ?_
  refine WO.k2 rfl rfl rfl rfl (rn_fieldAddr Try.runUnderlying27 rfl Try.sizeOf25 rfl rfl) ?_
  have f15 := f4.stp S10 rfl rfl
  refine WO.k1 trivial rfl rfl rfl rfl (rn_ld Try.isAgg25 rfl rfl (hvE (f15.ld 1 rfl rfl))) ?_
  refine WO.pn 1 rfl ?_
  obtain ⟨x14, hx14, h⟩ := Option.bind_eq_some_iff.mp h
  have f16 := g0_1.stp (S3.tr S10) rfl rfl
  refine WO.call rfl rfl rfl rfl rfl rfl Try.call69 (l_szInt64SS_ok (κ := fun b => mp [] 0 (K9 b)) (Sl.map f16 (mp [] 0) rfl rfl) hx14) ?_
  rintro _ w17 ⟨k18, rfl, e19⟩
  obtain ⟨K20, S21, m22⟩ := Ent.mixed (l := []) (κ := K9) e19 5 rfl
  refine ⟨trivial, ?_⟩
  refine WO.pn 1 rfl ?_
  refine WO.fin ?_
  refine DN.seq ?_
  refine WC.seq ?_
  refine WC.seq ?_
  refine WC.rs [(0, 2), (1, 2)] rfl ?_
  refine WO.pn 2 rfl ?_
  refine WO.fin ?_
  refine DN.seq ?_
  revert h
  cases ht24 : decide (x14 < 0) with
  | true =>
   intro h; replace h := cT h
   refine WC.ct rfl ?_
   refine WC.seq ?_
   refine WC.rs [(0, 2)] rfl ?_
   refine WO.pn 1 rfl ?_
   refine WO.fin ?_
   refine DN.seq ?_
   refine WC.ret ?_
   refine DN.retThen ?_
   have f25 := hE.stp (S3.tr (S10.tr S21)) rfl rfl
   refine DN.res (l := [.tmp 4]) Try.results15 (res_tmp rfl rfl) rfl ?_
   obtain rfl := Option.some.inj h
   exact ⟨K20, rfl, f25⟩
  | false =>
   intro h; replace h := cF h
   refine WC.cf rfl ?_
   refine WC.skip ?_
   refine DN.seq ?_
   refine WC.seq ?_
   refine WC.rs [(0, 2), (1, 2)] rfl ?_
   refine WO.pn 2 rfl ?_
   refine WO.fin ?_
   refine DN.seq ?_
   refine WC.ret ?_
   have f26 := hE.stp (S3.tr (S10.tr S21)) rfl rfl
   refine DN.res (l := [.tmp 4]) Try.results15 (res_tmp rfl rfl) rfl ?_
   obtain rfl := Option.some.inj h
   exact ⟨K20, rfl, f26⟩

/- loop.example/g00869/laws.toMachine -/
theorem l_toMachine_ok {w : World} {κ : Col} {a0_0 : Option Addr} {u0_0 : Nat} {a0_1 : Option Addr} {u0_1 : Nat} {p0 : Machine} (g0_0 : Rd (Rp.sl (Rp.int .i64)) κ w 0 a0_0 u0_0 p0.Next) (g0_1 : Rd (Rp.sl (Rp.int .i64)) κ w 0 a0_1 u0_1 p0.Out) {r : Machine} (h : l_toMachine p0 = some r) : Ret Try.prog 48 [.agg #[.slice a0_0 p0.Next.length u0_0, .slice a0_1 p0.Out.length u0_1]] w (fun v w' => ∃ (κ' : Col) (ra0 : Option Addr) (ru0 : Nat) (ra1 : Option Addr) (ru1 : Nat), v = .agg #[.slice ra0 r.Next.length ru0, .slice ra1 r.Out.length ru1] ∧ Ent κ w κ' w' ∧ Oc (Ep.own (Ep.int .i64) 2) 24 κ' w' 2 ra0 ru0 r.Next ∧ Oc (Ep.own (Ep.int .i64) 2) 24 κ' w' 3 ra1 ru1 r.Out) := by
 unfold l_toMachine at h
 refine Ret.enter Try.func48 rfl Try.ntmps48 rfl ?_
 dsimp only [envOf]
 have hE := Ent.refl κ w
 refine WC.seq ?_
 refine WC.rs [(0, 1), (1, 1)] rfl ?_
 refine WO.box (κ := κ) 2 rfl rfl rfl rfl rfl rfl rfl fun b1 w1 K2 S3 f4 => ⟨trivial, ?_⟩
 refine WO.alloc (κ := K2) 3 rfl rfl rfl rfl rfl Try.zeroValue84 rfl fun b2 w5 K6 S7 f8 => ⟨trivial, ?_⟩
 refine WO.fin ?_
 refine DN.seq ?_
 refine WC.seq ?_
 refine WC.rs [(0, 1)] rfl ?_
 refine WO.alloc (κ := K6) 4 rfl rfl rfl rfl rfl Try.zeroValue84 rfl fun b3 w9 K10 S11 f12 => ⟨trivial, ?_⟩
 refine WO.fin ?_
 refine DN.seq ?_
 refine WC.seq ?_
 refine WC.rs [(0, 2), (1, 1), (2, 1), (3, 2), (4, 1)] rfl ?_
 refine WO.k2 rfl rfl rfl rfl (rn_fieldAddr Try.runUnderlying77 rfl Try.sizeOf25 rfl rfl) ?_
 have f13 := f4.stp (S7.tr S11) rfl rfl
 refine WO.k1 trivial rfl rfl rfl rfl (rn_ld Try.isAgg25 rfl rfl (hvE (f13.ld 0 rfl rfl))) ?_
 obtain ⟨x6, hx6, h⟩ := Option.bind_eq_some_iff.mp h
 have f14 := g0_0.stp (S3.tr (S7.tr S11)) rfl rfl
 refine WO.call rfl rfl rfl rfl rfl rfl Try.call72 (l_toInt64SS_ok (κ := fun b => mp [] 0 (K10 b)) (Sl.map f14 (mp [] 0) rfl rfl) hx6) ?_
 rintro _ w15 ⟨k16, a6_0, u6_0, rfl, e17, f18⟩
 obtain ⟨K19, S20, m21⟩ := Ent.mixed (l := []) (κ := K10) e17 5 rfl
 refine ⟨trivial, ?_⟩
 have f23 := f18.mx (no_own (no_int _) _) m21 rfl (rfl : 5 + 2 = 7)
 refine WO.k2 rfl rfl rfl rfl (rn_fieldAddr Try.runUnderlying84 rfl Try.sizeOf25 rfl rfl) ?_
 have f24 := f12.stp S20 rfl rfl
 refine WO.stB (κ := K19) 4 (off := 0) (vc := [.slice a6_0 x6.length u6_0]) (cs' := [.slice a6_0 x6.length u6_0, .slice none 0 0]) rfl rfl rfl rfl rfl rfl rfl Try.sizeOf25 rfl rfl f24 rfl rfl fun w25 S26 f27 => ⟨trivial, ?_⟩
 refine WO.fin ?_
 refine DN.seq ?_
 refine WC.seq ?_
 refine WC.rs [(0, 2), (1, 1), (2, 1), (3, 2), (4, 1)] rfl ?_
 refine WO.k2 rfl rfl rfl rfl (rn_fieldAddr Try.runUnderlying77 rfl Try.sizeOf25 rfl rfl) ?_
 have f28 := f13.stp (S20.tr S26) rfl rfl
 refine WO.k1 trivial rfl rfl rfl rfl (rn_ld Try.isAgg25 rfl rfl (hvE (f28.ld 1 rfl rfl))) ?_
 obtain ⟨x10, hx10, h⟩ := Option.bind_eq_some_iff.mp h
 have f29 := g0_1.stp (S3.tr (S7.tr (S11.tr (S20.tr S26)))) rfl rfl
 refine WO.call rfl rfl rfl rfl rfl rfl Try.call72 (l_toInt64SS_ok (κ := fun b => mp [] 0 (K19 b)) (Sl.map f29 (mp [] 0) rfl rfl) hx10) ?_
 rintro _ w30 ⟨k31, a10_0, u10_0, rfl, e32, f33⟩
 obtain ⟨K34, S35, m36⟩ := Ent.mixed (l := []) (κ := K19) e32 8 rfl
 refine ⟨trivial, ?_⟩
 have f38 := f33.mx (no_own (no_int _) _) m36 rfl (rfl : 8 + 2 = 10)
 refine WO.k2 rfl rfl rfl rfl (rn_fieldAddr Try.runUnderlying84 rfl Try.sizeOf25 rfl rfl) ?_
 have f39 := f27.stp S35 rfl rfl
 refine WO.stB (κ := K34) 4 (off := 1) (vc := [.slice a10_0 x10.length u10_0]) (cs' := [.slice a6_0 x6.length u6_0, .slice a10_0 x10.length u10_0]) rfl rfl rfl rfl rfl rfl rfl Try.sizeOf25 rfl rfl f39 rfl rfl fun w40 S41 f42 => ⟨trivial, ?_⟩
 refine WO.fin ?_
 refine DN.seq ?_
 refine WC.seq ?_
 refine WC.rs [(0, 1), (1, 1)] rfl ?_
 refine WO.k1 trivial rfl rfl rfl rfl (rn_la (cs := [.slice a6_0 x6.length u6_0, .slice a10_0 x10.length u10_0]) Try.isAgg84 Try.sizeOf84 rfl rfl rfl (haE f42.cells)) ?_
 have f43 := f8.stp (S11.tr (S20.tr (S26.tr (S35.tr S41)))) rfl rfl
 refine WO.stB0 (κ := K34) 3 (vc := [.slice a6_0 x6.length u6_0, .slice a10_0 x10.length u10_0]) rfl rfl rfl rfl rfl rfl rfl Try.sizeOf84 rfl rfl f43 rfl fun w44 S45 f46 => ⟨trivial, ?_⟩
 refine WO.fin ?_
 refine DN.seq ?_
 refine WC.ret ?_
 have f47 := hE.stp (S3.tr (S7.tr (S11.tr (S20.tr (S26.tr (S35.tr (S41.tr S45))))))) rfl rfl
 have f48 := f23.stp (S26.tr (S35.tr (S41.tr S45))) rfl rfl
 have f49 := f38.stp (S41.tr S45) rfl rfl
 refine DN.res (l := [.cell 2 84]) Try.results48 (res_cellA rfl f46 Try.isAgg84 Try.sizeOf84 rfl rfl) rfl ?_
 obtain rfl := Option.some.inj h
 exact ⟨(fun b => ren [(7, 2), (10, 3)] (K34 b)), a6_0, u6_0, a10_0, u10_0, rfl, (f47.map (ren [(7, 2), (10, 3)]) rfl rfl), (f48.map (ren [(7, 2), (10, 3)]) rfl rfl), (f49.map (ren [(7, 2), (10, 3)]) rfl rfl)⟩

/- loop.example/g00869/laws.toRival -/
theorem l_toRival_ok {w : World} {κ : Col} {a0_0 : Option Addr} {u0_0 : Nat} {a0_1 : Option Addr} {u0_1 : Nat} {p0 : Rival} (g0_0 : Rd (Rp.int .i64) κ w 0 a0_0 u0_0 p0.In) (g0_1 : Rd (Rp.sl (Rp.int .i64)) κ w 0 a0_1 u0_1 p0.Next) {r : Rival} (h : l_toRival p0 = some r) : Ret Try.prog 18 [.agg #[.slice a0_0 p0.In.length u0_0, .slice a0_1 p0.Next.length u0_1]] w (fun v w' => ∃ (κ' : Col) (ra0 : Option Addr) (ru0 : Nat) (ra1 : Option Addr) (ru1 : Nat), v = .agg #[.slice ra0 r.In.length ru0, .slice ra1 r.Next.length ru1] ∧ Ent κ w κ' w' ∧ Oc (Ep.int .i64) 2 κ' w' 2 ra0 ru0 r.In ∧ Oc (Ep.own (Ep.int .i64) 2) 24 κ' w' 3 ra1 ru1 r.Next) := by
 unfold l_toRival at h
 refine Ret.enter Try.func18 rfl Try.ntmps18 rfl ?_
 dsimp only [envOf]
 have hE := Ent.refl κ w
 refine WC.seq ?_
 refine WC.rs [(0, 1), (1, 1)] rfl ?_
 refine WO.box (κ := κ) 2 rfl rfl rfl rfl rfl rfl rfl fun b1 w1 K2 S3 f4 => ⟨trivial, ?_⟩
 refine WO.alloc (κ := K2) 3 rfl rfl rfl rfl rfl Try.zeroValue32 rfl fun b2 w5 K6 S7 f8 => ⟨trivial, ?_⟩
 refine WO.fin ?_
 refine DN.seq ?_
 refine WC.seq ?_
 refine WC.rs [(0, 1)] rfl ?_
 refine WO.alloc (κ := K6) 4 rfl rfl rfl rfl rfl Try.zeroValue32 rfl fun b3 w9 K10 S11 f12 => ⟨trivial, ?_⟩
 refine WO.fin ?_
 refine DN.seq ?_
 refine WC.seq ?_
 refine WC.rs [(0, 2), (1, 1), (2, 1), (3, 2), (4, 1)] rfl ?_
 refine WO.k2 rfl rfl rfl rfl (rn_fieldAddr Try.runUnderlying27 rfl Try.sizeOf24 rfl rfl) ?_
 have f13 := f4.stp (S7.tr S11) rfl rfl
 refine WO.k1 trivial rfl rfl rfl rfl (rn_ld Try.isAgg24 rfl rfl (hvE (f13.ld 0 rfl rfl))) ?_
 obtain ⟨x6, hx6, h⟩ := Option.bind_eq_some_iff.mp h
 have f14 := g0_0.stp (S3.tr (S7.tr S11)) rfl rfl
 refine WO.call rfl rfl rfl rfl rfl rfl Try.call22 (l_toInt64S_ok (κ := fun b => mp [] 0 (K10 b)) (Sl.map f14 (mp [] 0) rfl rfl) hx6) ?_
 rintro _ w15 ⟨k16, a6_0, u6_0, rfl, e17, f18⟩
 obtain ⟨K19, S20, m21⟩ := Ent.mixed (l := []) (κ := K10) e17 5 rfl
 refine ⟨trivial, ?_⟩
 have f23 := f18.mx (no_int _) m21 rfl (rfl : 5 + 2 = 7)
 refine WO.k2 rfl rfl rfl rfl (rn_fieldAddr Try.runUnderlying32 rfl Try.sizeOf24 rfl rfl) ?_
 have f24 := f12.stp S20 rfl rfl
 refine WO.stB (κ := K19) 4 (off := 0) (vc := [.slice a6_0 x6.length u6_0]) (cs' := [.slice a6_0 x6.length u6_0, .slice none 0 0]) rfl rfl rfl rfl rfl rfl rfl Try.sizeOf24 rfl rfl f24 rfl rfl fun w25 S26 f27 => ⟨trivial, ?_⟩
 refine WO.fin ?_
 refine DN.seq ?_
 refine WC.seq ?_
 refine WC.rs [(0, 2), (1, 1), (2, 1), (3, 2), (4, 1)] rfl ?_
 refine WO.k2 rfl rfl rfl rfl (rn_fieldAddr Try.runUnderlying27 rfl Try.sizeOf25 rfl rfl) ?_
 have f28 := f13.stp (S20.tr S26) rfl rfl
 refine WO.k1 trivial rfl rfl rfl rfl (rn_ld Try.isAgg25 rfl rfl (hvE (f28.ld 1 rfl rfl))) ?_
 obtain ⟨x10, hx10, h⟩ := Option.bind_eq_some_iff.mp h
 have f29 := g0_1.stp (S3.tr (S7.tr (S11.tr (S20.tr S26)))) rfl rfl
 refine WO.call rfl rfl rfl rfl rfl rfl Try.call72 (l_toInt64SS_ok (κ := fun b => mp [] 0 (K19 b)) (Sl.map f29 (mp [] 0) rfl rfl) hx10) ?_
 rintro _ w30 ⟨k31, a10_0, u10_0, rfl, e32, f33⟩
 obtain ⟨K34, S35, m36⟩ := Ent.mixed (l := []) (κ := K19) e32 8 rfl
 refine ⟨trivial, ?_⟩
 have f38 := f33.mx (no_own (no_int _) _) m36 rfl (rfl : 8 + 2 = 10)
 refine WO.k2 rfl rfl rfl rfl (rn_fieldAddr Try.runUnderlying32 rfl Try.sizeOf25 rfl rfl) ?_
 have f39 := f27.stp S35 rfl rfl
 refine WO.stB (κ := K34) 4 (off := 1) (vc := [.slice a10_0 x10.length u10_0]) (cs' := [.slice a6_0 x6.length u6_0, .slice a10_0 x10.length u10_0]) rfl rfl rfl rfl rfl rfl rfl Try.sizeOf25 rfl rfl f39 rfl rfl fun w40 S41 f42 => ⟨trivial, ?_⟩
 refine WO.fin ?_
 refine DN.seq ?_
 refine WC.seq ?_
 refine WC.rs [(0, 1), (1, 1)] rfl ?_
 refine WO.k1 trivial rfl rfl rfl rfl (rn_la (cs := [.slice a6_0 x6.length u6_0, .slice a10_0 x10.length u10_0]) Try.isAgg32 Try.sizeOf32 rfl rfl rfl (haE f42.cells)) ?_
 have f43 := f8.stp (S11.tr (S20.tr (S26.tr (S35.tr S41)))) rfl rfl
 refine WO.stB0 (κ := K34) 3 (vc := [.slice a6_0 x6.length u6_0, .slice a10_0 x10.length u10_0]) rfl rfl rfl rfl rfl rfl rfl Try.sizeOf32 rfl rfl f43 rfl fun w44 S45 f46 => ⟨trivial, ?_⟩
 refine WO.fin ?_
 refine DN.seq ?_
 refine WC.ret ?_
 have f47 := hE.stp (S3.tr (S7.tr (S11.tr (S20.tr (S26.tr (S35.tr (S41.tr S45))))))) rfl rfl
 have f48 := f23.stp (S26.tr (S35.tr (S41.tr S45))) rfl rfl
 have f49 := f38.stp (S41.tr S45) rfl rfl
 refine DN.res (l := [.cell 2 32]) Try.results18 (res_cellA rfl f46 Try.isAgg32 Try.sizeOf32 rfl rfl) rfl ?_
 obtain rfl := Option.some.inj h
 exact ⟨(fun b => ren [(7, 2), (10, 3)] (K34 b)), a6_0, u6_0, a10_0, u10_0, rfl, (f47.map (ren [(7, 2), (10, 3)]) rfl rfl), (f48.map (ren [(7, 2), (10, 3)]) rfl rfl), (f49.map (ren [(7, 2), (10, 3)]) rfl rfl)⟩

/- loop.example/g00869/spec.MachineOk -/
theorem s_MachineOk_ok {w : World} {κ : Col} {p0 : Sig} {a1_0 : Option Addr} {u1_0 : Nat} {a1_1 : Option Addr} {u1_1 : Nat} {p1 : Machine} (g1_0 : Rd (Rp.sl (Rp.int .i64)) κ w 0 a1_0 u1_0 p1.Next) (g1_1 : Rd (Rp.sl (Rp.int .i64)) κ w 0 a1_1 u1_1 p1.Out) {r : Bool} (h : s_MachineOk p0 p1 = some r) : Ret Try.prog 99 [.agg #[.int .i64 p0.In, .int .i64 p0.Out], .agg #[.slice a1_0 p1.Next.length u1_0, .slice a1_1 p1.Out.length u1_1]] w (fun v w' => ∃ (κ' : Col), v = .bool r ∧ Ent κ w κ' w') := by
 unfold s_MachineOk at h
 refine Ret.enter Try.func99 rfl Try.ntmps99 rfl ?_
 dsimp only [envOf]
 have hE := Ent.refl κ w
 refine WC.seq ?_
 refine WC.rs [(0, 1), (1, 1), (2, 2)] rfl ?_
 refine WO.box (κ := κ) 2 rfl rfl rfl rfl rfl rfl rfl fun b2 w1 K2 S3 f4 => ⟨trivial, ?_⟩
 refine WO.box (κ := K2) 3 rfl rfl rfl rfl rfl rfl rfl fun b3 w5 K6 S7 f8 => ⟨trivial, ?_⟩
 refine WO.pn 1 rfl ?_
 refine WO.fin ?_
 refine DN.seq ?_
 refine WC.seq ?_
 refine WC.rs [(0, 2), (1, 1), (2, 2), (3, 2)] rfl ?_
 refine WO.k2 rfl rfl rfl rfl (rn_fieldAddr Try.runUnderlying84 rfl Try.sizeOf25 rfl rfl) ?_
 refine WO.k1 trivial rfl rfl rfl rfl (rn_ld Try.isAgg25 rfl rfl (hvE (f8.ld 0 rfl rfl))) ?_
 refine WO.k2 rfl rfl rfl rfl (rn_len Try.runUnderlying25 rfl rfl) ?_
 refine WO.pn 1 rfl ?_
 refine WO.fin ?_
 refine DN.seq ?_
 refine WC.seq ?_
 refine WC.seq ?_
 refine WC.rs [(0, 1), (1, 1), (2, 2), (3, 2), (4, 2), (5, 1), (6, 2), (7, 2), (8, 2), (9, 2), (10, 1), (11, 2), (12, 2), (13, 1), (14, 2), (15, 2), (16, 2)] rfl ?_
 have f9 := f4.stp S7 rfl rfl
 refine WO.k1 trivial rfl rfl rfl rfl (rn_la (cs := [.int .i64 p0.In, .int .i64 p0.Out]) Try.isAgg30 Try.sizeOf30 rfl rfl rfl (haE f9.cells)) ?_
 obtain ⟨x11, hx11, h⟩ := Option.bind_eq_some_iff.mp h
 refine WO.call rfl rfl rfl rfl rfl rfl Try.call131 (s_SigOk_ok (κ := fun b => mp [] 0 (K6 b)) (p0 := p0) hx11) ?_
 rintro _ w10 ⟨k11, rfl, e12⟩
 obtain ⟨K13, S14, m15⟩ := Ent.mixed (l := []) (κ := K6) e12 4 rfl
 refine ⟨trivial, ?_⟩
 refine WO.pn 2 rfl ?_
 obtain ⟨p17, h, hK17⟩ := Option.bind_eq_some_iff.mp h
 refine WO.meet [(4, 2), (5, 1), (6, 2), (7, 2)] [(8, 2), (9, 2), (10, 1), (11, 2), (12, 2), (13, 1), (14, 2), (15, 2), (16, 2)] (fun L w' => L = [(2, .pointer (some ⟨b2, 0, none⟩)), (3, .pointer (some ⟨b3, 0, none⟩)), (5, .int .i64 (p1.Next.length : Int)), (17, .bool p17)] ∧ ∃ κ', Stp [] K13 w10 κ' w') trivial ?_ ?_
 ·
  revert h
  cases ht18 : (!x11) with
  | true =>
   intro h; replace h := cT h
   refine WO.pn 1 rfl ?_
   refine WO.ls rfl rfl rfl rfl ?_
   refine WO.pn 2 rfl ?_
   obtain rfl := Option.some.inj h
   exact WO.met _ trivial ⟨rfl, _, (Stp.refl _ _).wk rfl⟩ fun a ha => (ha.more (ha.more (ha.more (ha.more ha.nil rfl) rfl) rfl) rfl)
  | false =>
   intro h; replace h := cF h
   refine WO.pn 1 rfl ?_
   obtain ⟨x15, hx15, h⟩ := Option.bind_eq_some_iff.mp h
   refine WO.call rfl rfl rfl rfl rfl rfl Try.call84 (s_l1In_ok (κ := fun b => mp [] 0 (K13 b)) hx15) ?_
   rintro _ w19 ⟨k20, rfl, e21⟩
   obtain ⟨K22, S23, m24⟩ := Ent.mixed (l := []) (κ := K13) e21 6 rfl
   refine ⟨trivial, ?_⟩
   refine WO.pn 2 rfl ?_
   obtain rfl := Option.some.inj h
   exact WO.met _ trivial ⟨rfl, _, S23.wk rfl⟩ fun a ha => (ha.more (ha.more (ha.more (ha.more ha.nil rfl) rfl) rfl) rfl)
 rintro _ w26 _ ⟨rfl, K27, S28⟩
 have h := hK17
 refine WO.pn 1 rfl ?_
 obtain ⟨p26, h, hK29⟩ := Option.bind_eq_some_iff.mp h
 refine WO.meet [(9, 2), (10, 1), (11, 2), (12, 2), (13, 1), (14, 2), (15, 2), (16, 2)] [] (fun L w' => L = [(2, .pointer (some ⟨b2, 0, none⟩)), (3, .pointer (some ⟨b3, 0, none⟩)), (5, .int .i64 (p1.Next.length : Int)), (26, .bool p26)] ∧ ∃ κ', Stp [] K27 w26 κ' w') trivial ?_ ?_
 ·
  revert h
  cases ht30 : p17 with
  | true =>
   intro h; replace h := cT h
   refine WO.pn 1 rfl ?_
   refine WO.ls rfl rfl rfl rfl ?_
   refine WO.pn 2 rfl ?_
   refine WO.ls rfl rfl rfl rfl ?_
   refine WO.pn 3 rfl ?_
   obtain rfl := Option.some.inj h
   exact WO.met _ trivial ⟨rfl, _, (Stp.refl _ _).wk rfl⟩ fun a ha => (ha.more (ha.more (ha.more (ha.more ha.nil rfl) rfl) rfl) rfl)
  | false =>
   intro h; replace h := cF h
   refine WO.k2 rfl rfl rfl rfl (rn_fieldAddr Try.runUnderlying84 rfl Try.sizeOf25 rfl rfl) ?_
   have f31 := f8.stp (S14.tr S28) rfl rfl
   refine WO.k1 trivial rfl rfl rfl rfl (rn_ld Try.isAgg25 rfl rfl (hvE (f31.ld 1 rfl rfl))) ?_
   refine WO.k2 rfl rfl rfl rfl (rn_len Try.runUnderlying25 rfl rfl) ?_
   refine WO.k2 rfl rfl rfl rfl (rn_fieldAddr Try.runUnderlying84 rfl Try.sizeOf25 rfl rfl) ?_
   refine WO.k1 trivial rfl rfl rfl rfl (rn_ld Try.isAgg25 rfl rfl (hvE (f31.ld 0 rfl rfl))) ?_
   refine WO.k2 rfl rfl rfl rfl (rn_len Try.runUnderlying25 rfl rfl) ?_
   refine WO.pn 2 rfl ?_
   obtain rfl := Option.some.inj h
   exact WO.met _ trivial ⟨rfl, _, (Stp.refl _ _).wk rfl⟩ fun a ha => (ha.more (ha.more (ha.more (ha.more ha.nil rfl) rfl) rfl) rfl)
 rintro _ w32 _ ⟨rfl, K33, S34⟩
 have h := hK29
 refine WO.fin ?_
 refine DN.seq ?_
 revert h
 cases ht35 : p26 with
 | true =>
  intro h; replace h := cT h
  refine WC.ct rfl ?_
  refine WC.seq ?_
  refine WC.rs [(0, 2)] rfl ?_
  refine WO.pn 1 rfl ?_
  refine WO.fin ?_
  refine DN.seq ?_
  refine WC.ret ?_
  refine DN.retThen ?_
  have f36 := hE.stp (S3.tr (S7.tr (S14.tr (S28.tr S34)))) rfl rfl
  refine DN.res (l := [.tmp 4]) Try.results99 (res_tmp rfl rfl) rfl ?_
  obtain rfl := Option.some.inj h
  exact ⟨K33, rfl, f36⟩
 | false =>
  intro h; replace h := cF h
  refine WC.cf rfl ?_
  refine WC.skip ?_
  refine DN.seq ?_
  refine WC.seq ?_
  refine WC.seq ?_
  refine WC.rs [(0, 2)] rfl ?_
  refine WO.pn 1 rfl ?_
  refine WO.fin ?_
  refine DN.seq ?_
  have hN37 : (p1.Next.length : Int) ≤ 9223372036854775807 := g1_0.len_le
  obtain ⟨q2, hq39, hK38⟩ := Option.bind_eq_some_iff.mp h
  clear h
  refine WC.meet (fun L w' => ∃ (κ' : Col), L = [] ∧ Stp [] K33 w32 κ' w' ∧ q2 = Sum.inr ()) ?_ ?_
  ·
   refine WC.block ?_
   refine WC.loop (fun k L w' => ∃ (κ' : Col) (v6 : Int), L = [(2, .pointer (some ⟨b2, 0, none⟩)), (3, .pointer (some ⟨b3, 0, none⟩)), (5, .int .i64 (p1.Next.length : Int)), (6, .int .i64 v6)] ∧ Stp [] K33 w32 κ' w' ∧ 0 ≤ v6 ∧ Int.toNat ((p1.Next.length : Int) - v6) = k ∧ cntM (s_MachineOk_b0 p0 p1) k v6 () = some q2) ⟨_, _, ⟨K33, 0, rfl, (Stp.refl _ _).wk rfl, (by decide), (by simp), hq39⟩, fun a ha => (ha.more (ha.more (ha.more (ha.more ha.nil rfl) rfl) rfl) rfl)⟩ ?_
   rintro k _ w43 ⟨K44, v6, rfl, S45, hj37, hJ37, h⟩
   rcases k with _ | k
   ·
    have hk46 := h; obtain ⟨o37, h⟩ := ex_eq (Sum.inr (Sum.inl ()) : Bool ⊕ ((Unit) ⊕ (Unit)))
    have hc37 : decide (v6 < (p1.Next.length : Int)) = false := decide_eq_false (by omega)
    refine WC.seq ?_
    refine WC.seq ?_
    refine WC.rs [(0, 2), (1, 2), (2, 1), (3, 2), (4, 2)] rfl ?_
    refine WO.pn 1 rfl ?_
    refine WO.k2 rfl rfl rfl rfl (rn_fieldAddr Try.runUnderlying84 rfl Try.sizeOf25 rfl rfl) ?_
    have f47 := f8.stp (S14.tr (S28.tr (S34.tr S45))) rfl rfl
    refine WO.k1 trivial rfl rfl rfl rfl (rn_ld Try.isAgg25 rfl rfl (hvE (f47.ld 0 rfl rfl))) ?_
    refine WO.k2 rfl rfl rfl rfl (rn_len Try.runUnderlying25 rfl rfl) ?_
    refine WO.pn 1 rfl ?_
    refine WO.fin ?_
    refine DN.seq ?_
    refine WC.cf' rfl hc37 ?_
    refine WC.exit ?_
    refine DN.exitThen ?_
    refine DN.exitThen ?_
    obtain rfl := Option.some.inj h
    have h := hk46
    refine DN.hit ?_
    obtain rfl := Option.some.inj h
    exact DN.meet _ ⟨K44, rfl, S45.wk rfl, rfl⟩ fun a ha => ha.nil
   ·
    obtain ⟨o37, h, hk46⟩ := Option.bind_eq_some_iff.mp h; unfold s_MachineOk_b0 at h
    have hc37 : decide (v6 < (p1.Next.length : Int)) = true := decide_eq_true (by omega)
    refine WC.seq ?_
    refine WC.seq ?_
    refine WC.rs [(0, 2), (1, 2), (2, 1), (3, 2), (4, 2)] rfl ?_
    refine WO.pn 1 rfl ?_
    refine WO.k2 rfl rfl rfl rfl (rn_fieldAddr Try.runUnderlying84 rfl Try.sizeOf25 rfl rfl) ?_
    have f48 := f8.stp (S14.tr (S28.tr (S34.tr S45))) rfl rfl
    refine WO.k1 trivial rfl rfl rfl rfl (rn_ld Try.isAgg25 rfl rfl (hvE (f48.ld 0 rfl rfl))) ?_
    refine WO.k2 rfl rfl rfl rfl (rn_len Try.runUnderlying25 rfl rfl) ?_
    refine WO.pn 1 rfl ?_
    refine WO.fin ?_
    refine DN.seq ?_
    refine WC.ct' rfl hc37 ?_
    refine WC.skip ?_
    refine DN.seq ?_
    refine WC.seq ?_
    refine WC.block ?_
    refine WC.seq ?_
    refine WC.rx (κ := K44) 5 none [(0, 2), (2, 2), (1, 0), (3, 2), (4, 0), (5, 2), (6, 0), (7, 1), (8, 2), (9, 2), (10, 2), (12, 2), (16, 2), (18, 2), (11, 0), (13, 2), (14, 0), (15, 2), (17, 0), (19, 2), (20, 0), (21, 2), (22, 2), (23, 2), (24, 2), (25, 2), (27, 2), (30, 2), (26, 0), (28, 2), (29, 0), (31, 1), (32, 2), (33, 2), (34, 2), (35, 2), (37, 2), (40, 2), (36, 0), (38, 2), (39, 0), (41, 0), (42, 1), (43, 1), (44, 2), (45, 2)] [] (by kernel_rfl) (by kernel_rfl) fun w50 S49 => ?_
    refine WO.k2 rfl rfl rfl rfl (rn_fieldAddr Try.runUnderlying84 rfl Try.sizeOf25 rfl rfl) ?_
    refine WO.pn 1 rfl ?_
    have f51 := f48.stp S49 rfl rfl
    refine WO.k0 rfl rfl rfl rfl (rn_ld Try.isAgg25 rfl rfl (hvC (f51.ld 0 rfl rfl) rfl)) ?_
    obtain ⟨x37, hx37, h⟩ := Option.bind_eq_some_iff.mp h
    refine WO.k2 rfl rfl rfl rfl (rn_index g1_0 hx37 Try.runUnderlying25 Try.sizeOf24 rfl rfl rfl rfl) ?_
    have f52 := g1_0.stp (S3.tr (S7.tr (S14.tr (S28.tr (S34.tr (S45.tr S49)))))) rfl rfl
    obtain ⟨ax37, ux37, f53, hl54⟩ := f52.gSl hx37
    refine WO.k0 rfl rfl rfl rfl (rn_ld Try.isAgg24 rfl rfl (hvC hl54 rfl)) ?_
    refine WO.k2 rfl rfl rfl rfl (rn_len Try.runUnderlying24 rfl rfl) ?_
    have f55 := f9.stp (S14.tr (S28.tr (S34.tr (S45.tr S49)))) rfl rfl
    refine WO.k0 rfl rfl rfl rfl (rn_la (cs := [.int .i64 p0.In, .int .i64 p0.Out]) Try.isAgg30 Try.sizeOf30 rfl rfl rfl (haC f55.cells rfl)) ?_
    obtain ⟨x41, hx41, h⟩ := Option.bind_eq_some_iff.mp h
    refine WO.call rfl rfl rfl rfl rfl rfl Try.call146 (s_l29Ins_ok (κ := fun b => mp [] 0 (K44 b)) (p0 := p0) hx41) ?_
    rintro _ w56 ⟨k57, rfl, e58⟩
    obtain ⟨K59, S60, m61⟩ := Ent.mixed (l := []) (κ := K44) e58 6 rfl
    refine ⟨(S60.cl rfl), ?_⟩
    refine WO.pn 2 rfl ?_
    obtain ⟨p57, h, hK63⟩ := Option.bind_eq_some_iff.mp h
    refine WO.meet [(10, 2), (12, 2), (16, 2), (18, 2), (11, 0), (13, 2), (14, 0), (15, 2), (17, 0), (19, 2), (20, 0), (21, 2), (22, 2), (23, 2)] [(24, 2), (25, 2), (27, 2), (30, 2), (26, 0), (28, 2), (29, 0), (31, 1), (32, 2), (33, 2), (34, 2), (35, 2), (37, 2), (40, 2), (36, 0), (38, 2), (39, 0), (41, 0), (42, 1), (43, 1), (44, 2), (45, 2)] (fun L w' => L = [(2, .pointer (some ⟨b2, 0, none⟩)), (3, .pointer (some ⟨b3, 0, none⟩)), (5, .int .i64 (p1.Next.length : Int)), (6, .int .i64 v6), (57, .bool p57)] ∧ ∃ κ', Stp [] K59 w56 κ' w') (S60.cl rfl) ?_ ?_
    ·
     revert h
     cases ht64 : ((x37.length : Int) != x41) with
     | true =>
      intro h; replace h := cT h
      refine WO.pn 4 rfl ?_
      refine WO.qs rfl rfl rfl rfl ?_
      refine WO.pn 1 rfl ?_
      refine WO.qs rfl rfl rfl rfl ?_
      refine WO.pn 1 rfl ?_
      refine WO.qs rfl rfl rfl rfl ?_
      refine WO.pn 1 rfl ?_
      refine WO.qs rfl rfl rfl rfl ?_
      refine WO.pn 3 rfl ?_
      obtain rfl := Option.some.inj h
      exact WO.met _ (S60.cl rfl) ⟨rfl, _, (Stp.refl _ _).wk rfl⟩ fun a ha => (ha.more (ha.more (ha.more (ha.more (ha.more ha.nil rfl) rfl) rfl) rfl) rfl)
     | false =>
      intro h; replace h := cF h
      refine WO.k2 rfl rfl rfl rfl (rn_fieldAddr Try.runUnderlying84 rfl Try.sizeOf25 rfl rfl) ?_
      refine WO.pn 1 rfl ?_
      refine WO.k2 rfl rfl rfl rfl (rn_fieldAddr Try.runUnderlying84 rfl Try.sizeOf25 rfl rfl) ?_
      refine WO.pn 1 rfl ?_
      refine WO.k0 rfl rfl rfl rfl (rn_ld Try.isAgg25 rfl rfl (hvC (f51.ld 1 rfl rfl) rfl)) ?_
      obtain ⟨x47, hx47, h⟩ := Option.bind_eq_some_iff.mp h
      refine WO.k2 rfl rfl rfl rfl (rn_index g1_1 hx47 Try.runUnderlying25 Try.sizeOf24 rfl rfl rfl rfl) ?_
      have f65 := g1_1.stp (S3.tr (S7.tr (S14.tr (S28.tr (S34.tr (S45.tr S49)))))) rfl rfl
      obtain ⟨ax47, ux47, f66, hl67⟩ := f65.gSl hx47
      refine WO.k0 rfl rfl rfl rfl (rn_ld Try.isAgg24 rfl rfl (hvC hl67 rfl)) ?_
      refine WO.k2 rfl rfl rfl rfl (rn_len Try.runUnderlying24 rfl rfl) ?_
      refine WO.k0 rfl rfl rfl rfl (rn_ld Try.isAgg25 rfl rfl (hvC (f51.ld 0 rfl rfl) rfl)) ?_
      obtain ⟨x53, hx53, h⟩ := Option.bind_eq_some_iff.mp h
      refine WO.k2 rfl rfl rfl rfl (rn_index f52 hx53 Try.runUnderlying25 Try.sizeOf24 rfl rfl rfl rfl) ?_
      obtain ⟨ax53, ux53, f68, hl69⟩ := f52.gSl hx53
      refine WO.k0 rfl rfl rfl rfl (rn_ld Try.isAgg24 rfl rfl (hvC hl69 rfl)) ?_
      refine WO.k2 rfl rfl rfl rfl (rn_len Try.runUnderlying24 rfl rfl) ?_
      refine WO.pn 2 rfl ?_
      obtain rfl := Option.some.inj h
      exact WO.met _ (S60.cl rfl) ⟨rfl, _, (Stp.refl _ _).wk rfl⟩ fun a ha => (ha.more (ha.more (ha.more (ha.more (ha.more ha.nil rfl) rfl) rfl) rfl) rfl)
    rintro _ w70 _ ⟨rfl, K71, S72⟩
    have h := hK63
    refine WO.pn 1 rfl ?_
    obtain ⟨p67, h, hK73⟩ := Option.bind_eq_some_iff.mp h
    refine WO.meet [(25, 2), (27, 2), (30, 2), (26, 0), (28, 2), (29, 0), (31, 1), (32, 2), (33, 2)] [(34, 2), (35, 2), (37, 2), (40, 2), (36, 0), (38, 2), (39, 0), (41, 0), (42, 1), (43, 1), (44, 2), (45, 2)] (fun L w' => L = [(2, .pointer (some ⟨b2, 0, none⟩)), (3, .pointer (some ⟨b3, 0, none⟩)), (5, .int .i64 (p1.Next.length : Int)), (6, .int .i64 v6), (67, .bool p67)] ∧ ∃ κ', Stp [] K71 w70 κ' w') ((S60.tr S72).cl rfl) ?_ ?_
    ·
     revert h
     cases ht74 : p57 with
     | true =>
      intro h; replace h := cT h
      refine WO.pn 3 rfl ?_
      refine WO.qs rfl rfl rfl rfl ?_
      refine WO.pn 1 rfl ?_
      refine WO.qs rfl rfl rfl rfl ?_
      refine WO.ls rfl rfl rfl rfl ?_
      refine WO.pn 2 rfl ?_
      obtain rfl := Option.some.inj h
      exact WO.met _ ((S60.tr S72).cl rfl) ⟨rfl, _, (Stp.refl _ _).wk rfl⟩ fun a ha => (ha.more (ha.more (ha.more (ha.more (ha.more ha.nil rfl) rfl) rfl) rfl) rfl)
     | false =>
      intro h; replace h := cF h
      refine WO.k2 rfl rfl rfl rfl (rn_fieldAddr Try.runUnderlying84 rfl Try.sizeOf25 rfl rfl) ?_
      refine WO.pn 2 rfl ?_
      refine WO.k0 rfl rfl rfl rfl (rn_ld Try.isAgg25 rfl rfl (hvC (f51.ld 0 rfl rfl) rfl)) ?_
      obtain ⟨x62, hx62, h⟩ := Option.bind_eq_some_iff.mp h
      refine WO.k2 rfl rfl rfl rfl (rn_index f52 hx62 Try.runUnderlying25 Try.sizeOf24 rfl rfl rfl rfl) ?_
      obtain ⟨ax62, ux62, f75, hl76⟩ := f52.gSl hx62
      refine WO.k0 rfl rfl rfl rfl (rn_ld Try.isAgg24 rfl rfl (hvC hl76 rfl)) ?_
      obtain ⟨x65, hx65, h⟩ := Option.bind_eq_some_iff.mp h
      have f77 := f75.stp (S60.tr S72) rfl rfl
      refine WO.call rfl rfl rfl rfl rfl rfl Try.call78 (s_l23Below_ok (κ := fun b => mp [] 0 (K71 b)) (Sl.map f77 (mp [] 0) rfl rfl) hx65) ?_
      rintro _ w78 ⟨k79, rfl, e80⟩
      obtain ⟨K81, S82, m83⟩ := Ent.mixed (l := []) (κ := K71) e80 8 rfl
      refine ⟨((S60.tr (S72.tr S82)).cl rfl), ?_⟩
      refine WO.pn 2 rfl ?_
      obtain rfl := Option.some.inj h
      exact WO.met _ ((S60.tr (S72.tr S82)).cl rfl) ⟨rfl, _, S82.wk rfl⟩ fun a ha => (ha.more (ha.more (ha.more (ha.more (ha.more ha.nil rfl) rfl) rfl) rfl) rfl)
    rintro _ w85 _ ⟨rfl, K86, S87⟩
    have h := hK73
    refine WO.pn 1 rfl ?_
    obtain ⟨p79, h, hK88⟩ := Option.bind_eq_some_iff.mp h
    refine WO.meet [(35, 2), (37, 2), (40, 2), (36, 0), (38, 2), (39, 0), (41, 0), (42, 1), (43, 1), (44, 2), (45, 2)] [] (fun L w' => L = [(2, .pointer (some ⟨b2, 0, none⟩)), (3, .pointer (some ⟨b3, 0, none⟩)), (5, .int .i64 (p1.Next.length : Int)), (6, .int .i64 v6), (79, .bool p79)] ∧ ∃ κ', Stp [] K86 w85 κ' w') ((S60.tr (S72.tr S87)).cl rfl) ?_ ?_
    ·
     revert h
     cases ht89 : p67 with
     | true =>
      intro h; replace h := cT h
      refine WO.pn 3 rfl ?_
      refine WO.qs rfl rfl rfl rfl ?_
      refine WO.pn 1 rfl ?_
      refine WO.qs rfl rfl rfl rfl ?_
      refine WO.qs rfl rfl rfl rfl ?_
      refine WO.ls rfl rfl rfl rfl ?_
      refine WO.ls rfl rfl rfl rfl ?_
      refine WO.pn 2 rfl ?_
      obtain rfl := Option.some.inj h
      exact WO.met _ ((S60.tr (S72.tr S87)).cl rfl) ⟨rfl, _, (Stp.refl _ _).wk rfl⟩ fun a ha => (ha.more (ha.more (ha.more (ha.more (ha.more ha.nil rfl) rfl) rfl) rfl) rfl)
     | false =>
      intro h; replace h := cF h
      refine WO.k2 rfl rfl rfl rfl (rn_fieldAddr Try.runUnderlying84 rfl Try.sizeOf25 rfl rfl) ?_
      refine WO.pn 1 rfl ?_
      refine WO.k2 rfl rfl rfl rfl (rn_fieldAddr Try.runUnderlying30 rfl Try.sizeOf2 rfl rfl) ?_
      refine WO.k0 rfl rfl rfl rfl (rn_ld Try.isAgg25 rfl rfl (hvC (f51.ld 1 rfl rfl) rfl)) ?_
      obtain ⟨x72, hx72, h⟩ := Option.bind_eq_some_iff.mp h
      refine WO.k2 rfl rfl rfl rfl (rn_index g1_1 hx72 Try.runUnderlying25 Try.sizeOf24 rfl rfl rfl rfl) ?_
      have f90 := g1_1.stp (S3.tr (S7.tr (S14.tr (S28.tr (S34.tr (S45.tr S49)))))) rfl rfl
      obtain ⟨ax72, ux72, f91, hl92⟩ := f90.gSl hx72
      refine WO.k0 rfl rfl rfl rfl (rn_ld Try.isAgg24 rfl rfl (hvC hl92 rfl)) ?_
      refine WO.k0 rfl rfl rfl rfl (rn_ld Try.isAgg2 rfl rfl (hvC (f55.ld 1 rfl rfl) rfl)) ?_
      obtain ⟨x76, hx76, h⟩ := Option.bind_eq_some_iff.mp h
      refine WO.call rfl rfl rfl rfl rfl rfl Try.call133 (s_l23Power_ok (κ := fun b => mp [] 0 (K86 b)) hx76) ?_
      rintro _ w93 ⟨k94, rfl, e95⟩
      obtain ⟨K96, S97, m98⟩ := Ent.mixed (l := []) (κ := K86) e95 8 rfl
      refine ⟨((S60.tr (S72.tr (S87.tr S97))).cl rfl), ?_⟩
      obtain ⟨x77, hx77, h⟩ := Option.bind_eq_some_iff.mp h
      have f100 := f91.stp (S60.tr (S72.tr (S87.tr S97))) rfl rfl
      refine WO.call rfl rfl rfl rfl rfl rfl Try.call78 (s_l23Below_ok (κ := fun b => mp [] 0 (K96 b)) (Sl.map f100 (mp [] 0) rfl rfl) hx77) ?_
      rintro _ w101 ⟨k102, rfl, e103⟩
      obtain ⟨K104, S105, m106⟩ := Ent.mixed (l := []) (κ := K96) e103 10 rfl
      refine ⟨((S60.tr (S72.tr (S87.tr (S97.tr S105)))).cl rfl), ?_⟩
      refine WO.pn 2 rfl ?_
      obtain rfl := Option.some.inj h
      exact WO.met _ ((S60.tr (S72.tr (S87.tr (S97.tr S105)))).cl rfl) ⟨rfl, _, (S97.tr S105).wk rfl⟩ fun a ha => (ha.more (ha.more (ha.more (ha.more (ha.more ha.nil rfl) rfl) rfl) rfl) rfl)
    rintro _ w108 _ ⟨rfl, K109, S110⟩
    have h := hK88
    refine WO.nx ?_
    refine WO.fin ?_
    refine DN.seq ?_
    revert h
    cases ht111 : p79 with
    | true =>
     intro h; replace h := cT h
     refine WC.ct rfl ?_
     refine WC.seq ?_
     refine WC.rs [(0, 2)] rfl ?_
     refine WO.pn 1 rfl ?_
     refine WO.fin ?_
     refine DN.seq ?_
     refine WC.ret ?_
     refine DN.retBlock ?_
     refine DN.retThen ?_
     refine DN.retThen ?_
     obtain rfl := Option.some.inj h
     obtain rfl := Option.some.inj hk46
     have h := hK38
     dsimp only [aft] at h
     refine DN.retBlock ?_
     refine DN.retMeet ?_
     refine DN.retThen ?_
     have f112 := hE.stp (S3.tr (S7.tr (S14.tr (S28.tr (S34.tr (S45.tr (S49.tr (S60.tr (S72.tr (S87.tr S110)))))))))) rfl rfl
     refine DN.res (l := [.tmp 4]) Try.results99 (res_tmp rfl rfl) rfl ?_
     obtain rfl := Option.some.inj h
     exact ⟨K109, rfl, f112⟩
    | false =>
     intro h; replace h := cF h
     refine WC.cf rfl ?_
     refine WC.skip ?_
     refine DN.block ?_
     refine DN.seq ?_
     refine WC.rs [(0, 2), (1, 2), (2, 2)] rfl ?_
     refine WO.pn 3 rfl ?_
     refine WO.fin ?_
     have hw37 : IntKind.wrap .i64 (v6 + 1) = v6 + 1 := wr1 hj37 (of_decide_eq_true hc37) hN37
     rw [hw37]
     have hc37 := of_decide_eq_true hc37
     obtain rfl := Option.some.inj h
     refine DN.round fun a ha => ?_
     exact ⟨k, _, Nat.lt_succ_self _, ⟨K109, v6 + 1, rfl, (S45.tr (S49.tr (S60.tr (S72.tr (S87.tr S110))))).wk rfl, by omega, by omega, hk46⟩, (ha.more (ha.more (ha.more (ha.more ha.nil rfl) rfl) rfl) rfl)⟩
  rintro _ w40 ⟨K41, rfl, S42, rfl⟩
  have h := hK38
  dsimp only [aft] at h
  refine DN.seq ?_
  refine WC.seq ?_
  refine WC.rs [(0, 2)] rfl ?_
  refine WO.pn 1 rfl ?_
  refine WO.fin ?_
  refine DN.seq ?_
  refine WC.ret ?_
  have f113 := hE.stp (S3.tr (S7.tr (S14.tr (S28.tr (S34.tr S42))))) rfl rfl
  refine DN.res (l := [.tmp 4]) Try.results99 (res_tmp rfl rfl) rfl ?_
  obtain rfl := Option.some.inj h
  exact ⟨K41, rfl, f113⟩

/- loop.example/g00869/spec.RivalOk -/
theorem s_RivalOk_ok {w : World} {κ : Col} {p0 : Sig} {a1_0 : Option Addr} {u1_0 : Nat} {a1_1 : Option Addr} {u1_1 : Nat} {p1 : Rival} (g1_0 : Rd (Rp.int .i64) κ w 0 a1_0 u1_0 p1.In) (g1_1 : Rd (Rp.sl (Rp.int .i64)) κ w 0 a1_1 u1_1 p1.Next) {r : Bool} (h : s_RivalOk p0 p1 = some r) : Ret Try.prog 70 [.agg #[.int .i64 p0.In, .int .i64 p0.Out], .agg #[.slice a1_0 p1.In.length u1_0, .slice a1_1 p1.Next.length u1_1]] w (fun v w' => ∃ (κ' : Col), v = .bool r ∧ Ent κ w κ' w') := by
 unfold s_RivalOk at h
 refine Ret.enter Try.func70 rfl Try.ntmps70 rfl ?_
 dsimp only [envOf]
 have hE := Ent.refl κ w
 refine WC.seq ?_
 refine WC.rs [(0, 1), (1, 1), (2, 2)] rfl ?_
 refine WO.box (κ := κ) 2 rfl rfl rfl rfl rfl rfl rfl fun b2 w1 K2 S3 f4 => ⟨trivial, ?_⟩
 refine WO.box (κ := K2) 3 rfl rfl rfl rfl rfl rfl rfl fun b3 w5 K6 S7 f8 => ⟨trivial, ?_⟩
 refine WO.pn 1 rfl ?_
 refine WO.fin ?_
 refine DN.seq ?_
 refine WC.seq ?_
 refine WC.rs [(0, 2), (1, 1), (2, 2), (3, 2)] rfl ?_
 refine WO.k2 rfl rfl rfl rfl (rn_fieldAddr Try.runUnderlying32 rfl Try.sizeOf24 rfl rfl) ?_
 refine WO.k1 trivial rfl rfl rfl rfl (rn_ld Try.isAgg24 rfl rfl (hvE (f8.ld 0 rfl rfl))) ?_
 refine WO.k2 rfl rfl rfl rfl (rn_len Try.runUnderlying24 rfl rfl) ?_
 refine WO.pn 1 rfl ?_
 refine WO.fin ?_
 refine DN.seq ?_
 refine WC.seq ?_
 refine WC.seq ?_
 refine WC.rx (κ := K6) 3 none [(0, 0), (1, 1), (2, 2), (3, 2), (4, 2), (5, 1), (6, 2), (7, 2), (8, 2), (9, 2), (12, 2), (10, 0), (11, 2), (13, 0), (14, 2), (15, 2), (16, 2), (17, 2), (18, 2), (19, 0), (20, 0), (21, 1), (22, 1), (23, 2), (24, 2)] [] (by kernel_rfl) (by kernel_rfl) fun w10 S9 => ?_
 have f11 := f4.stp (S7.tr S9) rfl rfl
 refine WO.k0 rfl rfl rfl rfl (rn_la (cs := [.int .i64 p0.In, .int .i64 p0.Out]) Try.isAgg30 Try.sizeOf30 rfl rfl rfl (haC f11.cells rfl)) ?_
 obtain ⟨x11, hx11, h⟩ := Option.bind_eq_some_iff.mp h
 refine WO.call rfl rfl rfl rfl rfl rfl Try.call131 (s_SigOk_ok (κ := fun b => mp [] 0 (K6 b)) (p0 := p0) hx11) ?_
 rintro _ w12 ⟨k13, rfl, e14⟩
 obtain ⟨K15, S16, m17⟩ := Ent.mixed (l := []) (κ := K6) e14 4 rfl
 refine ⟨(S16.cl rfl), ?_⟩
 refine WO.pn 2 rfl ?_
 obtain ⟨p17, h, hK19⟩ := Option.bind_eq_some_iff.mp h
 refine WO.meet [(4, 2), (5, 1), (6, 2), (7, 2)] [(8, 2), (9, 2), (12, 2), (10, 0), (11, 2), (13, 0), (14, 2), (15, 2), (16, 2), (17, 2), (18, 2), (19, 0), (20, 0), (21, 1), (22, 1), (23, 2), (24, 2)] (fun L w' => L = [(2, .pointer (some ⟨b2, 0, none⟩)), (3, .pointer (some ⟨b3, 0, none⟩)), (5, .int .i64 (p1.In.length : Int)), (17, .bool p17)] ∧ ∃ κ', Stp [] K15 w12 κ' w') (S16.cl rfl) ?_ ?_
 ·
  revert h
  cases ht20 : (!x11) with
  | true =>
   intro h; replace h := cT h
   refine WO.pn 1 rfl ?_
   refine WO.ls rfl rfl rfl rfl ?_
   refine WO.pn 2 rfl ?_
   obtain rfl := Option.some.inj h
   exact WO.met _ (S16.cl rfl) ⟨rfl, _, (Stp.refl _ _).wk rfl⟩ fun a ha => (ha.more (ha.more (ha.more (ha.more ha.nil rfl) rfl) rfl) rfl)
  | false =>
   intro h; replace h := cF h
   refine WO.pn 1 rfl ?_
   obtain ⟨x15, hx15, h⟩ := Option.bind_eq_some_iff.mp h
   refine WO.call rfl rfl rfl rfl rfl rfl Try.call84 (s_l1In_ok (κ := fun b => mp [] 0 (K15 b)) hx15) ?_
   rintro _ w21 ⟨k22, rfl, e23⟩
   obtain ⟨K24, S25, m26⟩ := Ent.mixed (l := []) (κ := K15) e23 6 rfl
   refine ⟨((S16.tr S25).cl rfl), ?_⟩
   refine WO.pn 2 rfl ?_
   obtain rfl := Option.some.inj h
   exact WO.met _ ((S16.tr S25).cl rfl) ⟨rfl, _, S25.wk rfl⟩ fun a ha => (ha.more (ha.more (ha.more (ha.more ha.nil rfl) rfl) rfl) rfl)
 rintro _ w28 _ ⟨rfl, K29, S30⟩
 have h := hK19
 refine WO.pn 1 rfl ?_
 obtain ⟨p26, h, hK31⟩ := Option.bind_eq_some_iff.mp h
 refine WO.meet [(9, 2), (12, 2), (10, 0), (11, 2), (13, 0), (14, 2), (15, 2), (16, 2)] [(17, 2), (18, 2), (19, 0), (20, 0), (21, 1), (22, 1), (23, 2), (24, 2)] (fun L w' => L = [(2, .pointer (some ⟨b2, 0, none⟩)), (3, .pointer (some ⟨b3, 0, none⟩)), (5, .int .i64 (p1.In.length : Int)), (26, .bool p26)] ∧ ∃ κ', Stp [] K29 w28 κ' w') ((S16.tr S30).cl rfl) ?_ ?_
 ·
  revert h
  cases ht32 : p17 with
  | true =>
   intro h; replace h := cT h
   refine WO.pn 2 rfl ?_
   refine WO.qs rfl rfl rfl rfl ?_
   refine WO.pn 1 rfl ?_
   refine WO.qs rfl rfl rfl rfl ?_
   refine WO.pn 3 rfl ?_
   obtain rfl := Option.some.inj h
   exact WO.met _ ((S16.tr S30).cl rfl) ⟨rfl, _, (Stp.refl _ _).wk rfl⟩ fun a ha => (ha.more (ha.more (ha.more (ha.more ha.nil rfl) rfl) rfl) rfl)
  | false =>
   intro h; replace h := cF h
   refine WO.k2 rfl rfl rfl rfl (rn_fieldAddr Try.runUnderlying32 rfl Try.sizeOf25 rfl rfl) ?_
   refine WO.k2 rfl rfl rfl rfl (rn_fieldAddr Try.runUnderlying32 rfl Try.sizeOf24 rfl rfl) ?_
   have f33 := f8.stp S9 rfl rfl
   refine WO.k0 rfl rfl rfl rfl (rn_ld Try.isAgg25 rfl rfl (hvC (f33.ld 1 rfl rfl) rfl)) ?_
   refine WO.k2 rfl rfl rfl rfl (rn_len Try.runUnderlying25 rfl rfl) ?_
   refine WO.k0 rfl rfl rfl rfl (rn_ld Try.isAgg24 rfl rfl (hvC (f33.ld 0 rfl rfl) rfl)) ?_
   refine WO.k2 rfl rfl rfl rfl (rn_len Try.runUnderlying24 rfl rfl) ?_
   refine WO.pn 2 rfl ?_
   obtain rfl := Option.some.inj h
   exact WO.met _ ((S16.tr S30).cl rfl) ⟨rfl, _, (Stp.refl _ _).wk rfl⟩ fun a ha => (ha.more (ha.more (ha.more (ha.more ha.nil rfl) rfl) rfl) rfl)
 rintro _ w34 _ ⟨rfl, K35, S36⟩
 have h := hK31
 refine WO.pn 1 rfl ?_
 obtain ⟨p34, h, hK37⟩ := Option.bind_eq_some_iff.mp h
 refine WO.meet [(18, 2), (19, 0), (20, 0), (21, 1), (22, 1), (23, 2), (24, 2)] [] (fun L w' => L = [(2, .pointer (some ⟨b2, 0, none⟩)), (3, .pointer (some ⟨b3, 0, none⟩)), (5, .int .i64 (p1.In.length : Int)), (34, .bool p34)] ∧ ∃ κ', Stp [] K35 w34 κ' w') ((S16.tr (S30.tr S36)).cl rfl) ?_ ?_
 ·
  revert h
  cases ht38 : p26 with
  | true =>
   intro h; replace h := cT h
   refine WO.pn 1 rfl ?_
   refine WO.qs rfl rfl rfl rfl ?_
   refine WO.qs rfl rfl rfl rfl ?_
   refine WO.ls rfl rfl rfl rfl ?_
   refine WO.ls rfl rfl rfl rfl ?_
   refine WO.pn 2 rfl ?_
   obtain rfl := Option.some.inj h
   exact WO.met _ ((S16.tr (S30.tr S36)).cl rfl) ⟨rfl, _, (Stp.refl _ _).wk rfl⟩ fun a ha => (ha.more (ha.more (ha.more (ha.more ha.nil rfl) rfl) rfl) rfl)
  | false =>
   intro h; replace h := cF h
   refine WO.k2 rfl rfl rfl rfl (rn_fieldAddr Try.runUnderlying32 rfl Try.sizeOf24 rfl rfl) ?_
   have f39 := f8.stp S9 rfl rfl
   refine WO.k0 rfl rfl rfl rfl (rn_ld Try.isAgg24 rfl rfl (hvC (f39.ld 0 rfl rfl) rfl)) ?_
   refine WO.k0 rfl rfl rfl rfl (rn_la (cs := [.int .i64 p0.In, .int .i64 p0.Out]) Try.isAgg30 Try.sizeOf30 rfl rfl rfl (haC f11.cells rfl)) ?_
   obtain ⟨x31, hx31, h⟩ := Option.bind_eq_some_iff.mp h
   refine WO.call rfl rfl rfl rfl rfl rfl Try.call132 (s_l27Inputs_ok (κ := fun b => mp [] 0 (K35 b)) (p0 := p0) hx31) ?_
   rintro _ w40 ⟨k41, rfl, e42⟩
   obtain ⟨K43, S44, m45⟩ := Ent.mixed (l := []) (κ := K35) e42 6 rfl
   refine ⟨((S16.tr (S30.tr (S36.tr S44))).cl rfl), ?_⟩
   obtain ⟨x32, hx32, h⟩ := Option.bind_eq_some_iff.mp h
   have f47 := g1_0.stp (S3.tr (S7.tr (S9.tr (S16.tr (S30.tr (S36.tr S44)))))) rfl rfl
   refine WO.call rfl rfl rfl rfl rfl rfl Try.call78 (s_l23Below_ok (κ := fun b => mp [] 0 (K43 b)) (Sl.map f47 (mp [] 0) rfl rfl) hx32) ?_
   rintro _ w48 ⟨k49, rfl, e50⟩
   obtain ⟨K51, S52, m53⟩ := Ent.mixed (l := []) (κ := K43) e50 8 rfl
   refine ⟨((S16.tr (S30.tr (S36.tr (S44.tr S52)))).cl rfl), ?_⟩
   refine WO.pn 2 rfl ?_
   obtain rfl := Option.some.inj h
   exact WO.met _ ((S16.tr (S30.tr (S36.tr (S44.tr S52)))).cl rfl) ⟨rfl, _, (S44.tr S52).wk rfl⟩ fun a ha => (ha.more (ha.more (ha.more (ha.more ha.nil rfl) rfl) rfl) rfl)
 rintro _ w55 _ ⟨rfl, K56, S57⟩
 have h := hK37
 refine WO.nx ?_
 refine WO.fin ?_
 refine DN.seq ?_
 revert h
 cases ht58 : p34 with
 | true =>
  intro h; replace h := cT h
  refine WC.ct rfl ?_
  refine WC.seq ?_
  refine WC.rs [(0, 2)] rfl ?_
  refine WO.pn 1 rfl ?_
  refine WO.fin ?_
  refine DN.seq ?_
  refine WC.ret ?_
  refine DN.retThen ?_
  have f59 := hE.stp (S3.tr (S7.tr (S9.tr (S16.tr (S30.tr (S36.tr S57)))))) rfl rfl
  refine DN.res (l := [.tmp 4]) Try.results70 (res_tmp rfl rfl) rfl ?_
  obtain rfl := Option.some.inj h
  exact ⟨K56, rfl, f59⟩
 | false =>
  intro h; replace h := cF h
  refine WC.cf rfl ?_
  refine WC.skip ?_
  refine DN.seq ?_
  refine WC.seq ?_
  refine WC.seq ?_
  refine WC.rs [(0, 2)] rfl ?_
  refine WO.pn 1 rfl ?_
  refine WO.fin ?_
  refine DN.seq ?_
  have hN60 : (p1.Next.length : Int) ≤ 9223372036854775807 := g1_1.len_le
  obtain ⟨q2, hq62, hK61⟩ := Option.bind_eq_some_iff.mp h
  clear h
  refine WC.meet (fun L w' => ∃ (κ' : Col), L = [] ∧ Stp [] K56 w55 κ' w' ∧ q2 = Sum.inr ()) ?_ ?_
  ·
   refine WC.block ?_
   refine WC.loop (fun k L w' => ∃ (κ' : Col) (v6 : Int), L = [(2, .pointer (some ⟨b2, 0, none⟩)), (3, .pointer (some ⟨b3, 0, none⟩)), (5, .int .i64 (p1.In.length : Int)), (6, .int .i64 v6)] ∧ Stp [] K56 w55 κ' w' ∧ 0 ≤ v6 ∧ Int.toNat ((p1.Next.length : Int) - v6) = k ∧ cntM (s_RivalOk_b0 p0 p1) k v6 () = some q2) ⟨_, _, ⟨K56, 0, rfl, (Stp.refl _ _).wk rfl, (by decide), (by simp), hq62⟩, fun a ha => (ha.more (ha.more (ha.more (ha.more ha.nil rfl) rfl) rfl) rfl)⟩ ?_
   rintro k _ w66 ⟨K67, v6, rfl, S68, hj60, hJ60, h⟩
   rcases k with _ | k
   ·
    have hk69 := h; obtain ⟨o60, h⟩ := ex_eq (Sum.inr (Sum.inl ()) : Bool ⊕ ((Unit) ⊕ (Unit)))
    have hc60 : decide (v6 < (p1.Next.length : Int)) = false := decide_eq_false (by omega)
    refine WC.seq ?_
    refine WC.seq ?_
    refine WC.rs [(0, 2), (1, 2), (2, 1), (3, 2), (4, 2)] rfl ?_
    refine WO.pn 1 rfl ?_
    refine WO.k2 rfl rfl rfl rfl (rn_fieldAddr Try.runUnderlying32 rfl Try.sizeOf25 rfl rfl) ?_
    have f70 := f8.stp (S9.tr (S16.tr (S30.tr (S36.tr (S57.tr S68))))) rfl rfl
    refine WO.k1 trivial rfl rfl rfl rfl (rn_ld Try.isAgg25 rfl rfl (hvE (f70.ld 1 rfl rfl))) ?_
    refine WO.k2 rfl rfl rfl rfl (rn_len Try.runUnderlying25 rfl rfl) ?_
    refine WO.pn 1 rfl ?_
    refine WO.fin ?_
    refine DN.seq ?_
    refine WC.cf' rfl hc60 ?_
    refine WC.exit ?_
    refine DN.exitThen ?_
    refine DN.exitThen ?_
    obtain rfl := Option.some.inj h
    have h := hk69
    refine DN.hit ?_
    obtain rfl := Option.some.inj h
    exact DN.meet _ ⟨K67, rfl, S68.wk rfl, rfl⟩ fun a ha => ha.nil
   ·
    obtain ⟨o60, h, hk69⟩ := Option.bind_eq_some_iff.mp h; unfold s_RivalOk_b0 at h
    have hc60 : decide (v6 < (p1.Next.length : Int)) = true := decide_eq_true (by omega)
    refine WC.seq ?_
    refine WC.seq ?_
    refine WC.rs [(0, 2), (1, 2), (2, 1), (3, 2), (4, 2)] rfl ?_
    refine WO.pn 1 rfl ?_
    refine WO.k2 rfl rfl rfl rfl (rn_fieldAddr Try.runUnderlying32 rfl Try.sizeOf25 rfl rfl) ?_
    have f71 := f8.stp (S9.tr (S16.tr (S30.tr (S36.tr (S57.tr S68))))) rfl rfl
    refine WO.k1 trivial rfl rfl rfl rfl (rn_ld Try.isAgg25 rfl rfl (hvE (f71.ld 1 rfl rfl))) ?_
    refine WO.k2 rfl rfl rfl rfl (rn_len Try.runUnderlying25 rfl rfl) ?_
    refine WO.pn 1 rfl ?_
    refine WO.fin ?_
    refine DN.seq ?_
    refine WC.ct' rfl hc60 ?_
    refine WC.skip ?_
    refine DN.seq ?_
    refine WC.seq ?_
    refine WC.block ?_
    refine WC.seq ?_
    refine WC.rx (κ := K67) 5 none [(0, 2), (2, 2), (1, 0), (3, 2), (4, 0), (5, 2), (6, 0), (7, 1), (8, 2), (9, 2), (10, 2), (12, 2), (15, 2), (11, 0), (13, 2), (14, 0), (16, 1), (17, 2), (18, 2)] [] (by kernel_rfl) (by kernel_rfl) fun w73 S72 => ?_
    refine WO.k2 rfl rfl rfl rfl (rn_fieldAddr Try.runUnderlying32 rfl Try.sizeOf25 rfl rfl) ?_
    refine WO.pn 1 rfl ?_
    have f74 := f71.stp S72 rfl rfl
    refine WO.k0 rfl rfl rfl rfl (rn_ld Try.isAgg25 rfl rfl (hvC (f74.ld 1 rfl rfl) rfl)) ?_
    obtain ⟨x45, hx45, h⟩ := Option.bind_eq_some_iff.mp h
    refine WO.k2 rfl rfl rfl rfl (rn_index g1_1 hx45 Try.runUnderlying25 Try.sizeOf24 rfl rfl rfl rfl) ?_
    have f75 := g1_1.stp (S3.tr (S7.tr (S9.tr (S16.tr (S30.tr (S36.tr (S57.tr (S68.tr S72)))))))) rfl rfl
    obtain ⟨ax45, ux45, f76, hl77⟩ := f75.gSl hx45
    refine WO.k0 rfl rfl rfl rfl (rn_ld Try.isAgg24 rfl rfl (hvC hl77 rfl)) ?_
    refine WO.k2 rfl rfl rfl rfl (rn_len Try.runUnderlying24 rfl rfl) ?_
    have f78 := f11.stp (S16.tr (S30.tr (S36.tr (S57.tr (S68.tr S72))))) rfl rfl
    refine WO.k0 rfl rfl rfl rfl (rn_la (cs := [.int .i64 p0.In, .int .i64 p0.Out]) Try.isAgg30 Try.sizeOf30 rfl rfl rfl (haC f78.cells rfl)) ?_
    obtain ⟨x49, hx49, h⟩ := Option.bind_eq_some_iff.mp h
    refine WO.call rfl rfl rfl rfl rfl rfl Try.call79 (s_l33Outputs_ok (κ := fun b => mp [] 0 (K67 b)) (p0 := p0) hx49) ?_
    rintro _ w79 ⟨k80, rfl, e81⟩
    obtain ⟨K82, S83, m84⟩ := Ent.mixed (l := []) (κ := K67) e81 6 rfl
    refine ⟨(S83.cl rfl), ?_⟩
    refine WO.pn 2 rfl ?_
    obtain ⟨p60, h, hK86⟩ := Option.bind_eq_some_iff.mp h
    refine WO.meet [(10, 2), (12, 2), (15, 2), (11, 0), (13, 2), (14, 0), (16, 1), (17, 2), (18, 2)] [] (fun L w' => L = [(2, .pointer (some ⟨b2, 0, none⟩)), (3, .pointer (some ⟨b3, 0, none⟩)), (5, .int .i64 (p1.In.length : Int)), (6, .int .i64 v6), (60, .bool p60)] ∧ ∃ κ', Stp [] K82 w79 κ' w') (S83.cl rfl) ?_ ?_
    ·
     revert h
     cases ht87 : ((x45.length : Int) != x49) with
     | true =>
      intro h; replace h := cT h
      refine WO.pn 3 rfl ?_
      refine WO.qs rfl rfl rfl rfl ?_
      refine WO.pn 1 rfl ?_
      refine WO.qs rfl rfl rfl rfl ?_
      refine WO.ls rfl rfl rfl rfl ?_
      refine WO.pn 2 rfl ?_
      obtain rfl := Option.some.inj h
      exact WO.met _ (S83.cl rfl) ⟨rfl, _, (Stp.refl _ _).wk rfl⟩ fun a ha => (ha.more (ha.more (ha.more (ha.more (ha.more ha.nil rfl) rfl) rfl) rfl) rfl)
     | false =>
      intro h; replace h := cF h
      refine WO.k2 rfl rfl rfl rfl (rn_fieldAddr Try.runUnderlying32 rfl Try.sizeOf25 rfl rfl) ?_
      refine WO.pn 2 rfl ?_
      refine WO.k0 rfl rfl rfl rfl (rn_ld Try.isAgg25 rfl rfl (hvC (f74.ld 1 rfl rfl) rfl)) ?_
      obtain ⟨x55, hx55, h⟩ := Option.bind_eq_some_iff.mp h
      refine WO.k2 rfl rfl rfl rfl (rn_index f75 hx55 Try.runUnderlying25 Try.sizeOf24 rfl rfl rfl rfl) ?_
      obtain ⟨ax55, ux55, f88, hl89⟩ := f75.gSl hx55
      refine WO.k0 rfl rfl rfl rfl (rn_ld Try.isAgg24 rfl rfl (hvC hl89 rfl)) ?_
      obtain ⟨x58, hx58, h⟩ := Option.bind_eq_some_iff.mp h
      have f90 := f88.stp S83 rfl rfl
      refine WO.call rfl rfl rfl rfl rfl rfl Try.call78 (s_l23Below_ok (κ := fun b => mp [] 0 (K82 b)) (Sl.map f90 (mp [] 0) rfl rfl) hx58) ?_
      rintro _ w91 ⟨k92, rfl, e93⟩
      obtain ⟨K94, S95, m96⟩ := Ent.mixed (l := []) (κ := K82) e93 8 rfl
      refine ⟨((S83.tr S95).cl rfl), ?_⟩
      refine WO.pn 2 rfl ?_
      obtain rfl := Option.some.inj h
      exact WO.met _ ((S83.tr S95).cl rfl) ⟨rfl, _, S95.wk rfl⟩ fun a ha => (ha.more (ha.more (ha.more (ha.more (ha.more ha.nil rfl) rfl) rfl) rfl) rfl)
    rintro _ w98 _ ⟨rfl, K99, S100⟩
    have h := hK86
    refine WO.nx ?_
    refine WO.fin ?_
    refine DN.seq ?_
    revert h
    cases ht101 : p60 with
    | true =>
     intro h; replace h := cT h
     refine WC.ct rfl ?_
     refine WC.seq ?_
     refine WC.rs [(0, 2)] rfl ?_
     refine WO.pn 1 rfl ?_
     refine WO.fin ?_
     refine DN.seq ?_
     refine WC.ret ?_
     refine DN.retBlock ?_
     refine DN.retThen ?_
     refine DN.retThen ?_
     obtain rfl := Option.some.inj h
     obtain rfl := Option.some.inj hk69
     have h := hK61
     dsimp only [aft] at h
     refine DN.retBlock ?_
     refine DN.retMeet ?_
     refine DN.retThen ?_
     have f102 := hE.stp (S3.tr (S7.tr (S9.tr (S16.tr (S30.tr (S36.tr (S57.tr (S68.tr (S72.tr (S83.tr S100)))))))))) rfl rfl
     refine DN.res (l := [.tmp 4]) Try.results70 (res_tmp rfl rfl) rfl ?_
     obtain rfl := Option.some.inj h
     exact ⟨K99, rfl, f102⟩
    | false =>
     intro h; replace h := cF h
     refine WC.cf rfl ?_
     refine WC.skip ?_
     refine DN.block ?_
     refine DN.seq ?_
     refine WC.rs [(0, 2), (1, 2), (2, 2)] rfl ?_
     refine WO.pn 3 rfl ?_
     refine WO.fin ?_
     have hw60 : IntKind.wrap .i64 (v6 + 1) = v6 + 1 := wr1 hj60 (of_decide_eq_true hc60) hN60
     rw [hw60]
     have hc60 := of_decide_eq_true hc60
     obtain rfl := Option.some.inj h
     refine DN.round fun a ha => ?_
     exact ⟨k, _, Nat.lt_succ_self _, ⟨K99, v6 + 1, rfl, (S68.tr (S72.tr (S83.tr S100))).wk rfl, by omega, by omega, hk69⟩, (ha.more (ha.more (ha.more (ha.more ha.nil rfl) rfl) rfl) rfl)⟩
  rintro _ w63 ⟨K64, rfl, S65, rfl⟩
  have h := hK61
  dsimp only [aft] at h
  refine DN.seq ?_
  refine WC.seq ?_
  refine WC.rs [(0, 2)] rfl ?_
  refine WO.pn 1 rfl ?_
  refine WO.fin ?_
  refine DN.seq ?_
  refine WC.ret ?_
  have f103 := hE.stp (S3.tr (S7.tr (S9.tr (S16.tr (S30.tr (S36.tr (S57.tr S65))))))) rfl rfl
  refine DN.res (l := [.tmp 4]) Try.results70 (res_tmp rfl rfl) rfl ?_
  obtain rfl := Option.some.inj h
  exact ⟨K64, rfl, f103⟩

/- loop.example/g00869/spec.LetterOf -/
theorem s_LetterOf_ok {w : World} {κ : Col} {p0 : Sig} {p1 : Int} {p2 : Int}  {r : Int} (h : s_LetterOf p0 p1 p2 = some r) : Ret Try.prog 125 [.agg #[.int .i64 p0.In, .int .i64 p0.Out], .int .i64 p1, .int .i64 p2] w (fun v w' => ∃ (κ' : Col), v = .int .i64 r ∧ Ent κ w κ' w') := by
 unfold s_LetterOf at h
 refine Ret.enter Try.func125 rfl Try.ntmps125 rfl ?_
 dsimp only [envOf]
 have hE := Ent.refl κ w
 refine WC.seq ?_
 refine WC.rs [(0, 1), (1, 2)] rfl ?_
 refine WO.box (κ := κ) 2 rfl rfl rfl rfl rfl rfl rfl fun b3 w1 K2 S3 f4 => ⟨trivial, ?_⟩
 refine WO.pn 1 rfl ?_
 refine WO.fin ?_
 refine DN.seq ?_
 refine WC.seq ?_
 refine WC.seq ?_
 refine WC.rs [(0, 1), (1, 1), (2, 2), (3, 2), (4, 2), (5, 2), (6, 1), (7, 1), (8, 2), (9, 1), (10, 2), (11, 2), (12, 2), (13, 2), (14, 2), (15, 1), (16, 1), (17, 2), (18, 1), (19, 2), (20, 2)] rfl ?_
 refine WO.k1 trivial rfl rfl rfl rfl (rn_la (cs := [.int .i64 p0.In, .int .i64 p0.Out]) Try.isAgg30 Try.sizeOf30 rfl rfl rfl (haE f4.cells)) ?_
 obtain ⟨x8, hx8, h⟩ := Option.bind_eq_some_iff.mp h
 refine WO.call rfl rfl rfl rfl rfl rfl Try.call131 (s_SigOk_ok (κ := fun b => mp [] 0 (K2 b)) (p0 := p0) hx8) ?_
 rintro _ w5 ⟨k6, rfl, e7⟩
 obtain ⟨K8, S9, m10⟩ := Ent.mixed (l := []) (κ := K2) e7 3 rfl
 refine ⟨trivial, ?_⟩
 refine WO.pn 2 rfl ?_
 obtain ⟨p18, h, hK12⟩ := Option.bind_eq_some_iff.mp h
 refine WO.meet [(4, 2), (5, 2), (6, 1), (7, 1), (8, 2), (9, 1), (10, 2), (11, 2)] [(12, 2), (13, 2), (14, 2), (15, 1), (16, 1), (17, 2), (18, 1), (19, 2), (20, 2)] (fun L w' => L = [(1, .int .i64 p1), (2, .int .i64 p2), (3, .pointer (some ⟨b3, 0, none⟩)), (18, .bool p18)] ∧ ∃ κ', Stp [] K8 w5 κ' w') trivial ?_ ?_
 ·
  revert h
  cases ht13 : (!x8) with
  | true =>
   intro h; replace h := cT h
   refine WO.pn 2 rfl ?_
   refine WO.ls rfl rfl rfl rfl ?_
   refine WO.ls rfl rfl rfl rfl ?_
   refine WO.pn 1 rfl ?_
   refine WO.ls rfl rfl rfl rfl ?_
   refine WO.pn 2 rfl ?_
   obtain rfl := Option.some.inj h
   exact WO.met _ trivial ⟨rfl, _, (Stp.refl _ _).wk rfl⟩ fun a ha => (ha.more (ha.more (ha.more (ha.more ha.nil rfl) rfl) rfl) rfl)
  | false =>
   intro h; replace h := cF h
   refine WO.pn 1 rfl ?_
   refine WO.k2 rfl rfl rfl rfl (rn_fieldAddr Try.runUnderlying30 rfl Try.sizeOf2 rfl rfl) ?_
   have f14 := f4.stp S9 rfl rfl
   refine WO.k1 trivial rfl rfl rfl rfl (rn_ld Try.isAgg2 rfl rfl (hvE (f14.ld 0 rfl rfl))) ?_
   obtain ⟨x14, hx14, h⟩ := Option.bind_eq_some_iff.mp h
   refine WO.call rfl rfl rfl rfl rfl rfl Try.call133 (s_l23Power_ok (κ := fun b => mp [] 0 (K8 b)) hx14) ?_
   rintro _ w15 ⟨k16, rfl, e17⟩
   obtain ⟨K18, S19, m20⟩ := Ent.mixed (l := []) (κ := K8) e17 5 rfl
   refine ⟨trivial, ?_⟩
   refine WO.pn 1 rfl ?_
   obtain ⟨x16, hx16, h⟩ := Option.bind_eq_some_iff.mp h
   refine WO.call rfl rfl rfl rfl rfl rfl Try.call84 (s_l1In_ok (κ := fun b => mp [] 0 (K18 b)) hx16) ?_
   rintro _ w22 ⟨k23, rfl, e24⟩
   obtain ⟨K25, S26, m27⟩ := Ent.mixed (l := []) (κ := K18) e24 7 rfl
   refine ⟨trivial, ?_⟩
   refine WO.pn 2 rfl ?_
   obtain rfl := Option.some.inj h
   exact WO.met _ trivial ⟨rfl, _, (S19.tr S26).wk rfl⟩ fun a ha => (ha.more (ha.more (ha.more (ha.more ha.nil rfl) rfl) rfl) rfl)
 rintro _ w29 _ ⟨rfl, K30, S31⟩
 have h := hK12
 refine WO.pn 1 rfl ?_
 obtain ⟨p27, h, hK32⟩ := Option.bind_eq_some_iff.mp h
 refine WO.meet [(13, 2), (14, 2), (15, 1), (16, 1), (17, 2), (18, 1), (19, 2), (20, 2)] [] (fun L w' => L = [(1, .int .i64 p1), (2, .int .i64 p2), (3, .pointer (some ⟨b3, 0, none⟩)), (27, .bool p27)] ∧ ∃ κ', Stp [] K30 w29 κ' w') trivial ?_ ?_
 ·
  revert h
  cases ht33 : p18 with
  | true =>
   intro h; replace h := cT h
   refine WO.pn 2 rfl ?_
   refine WO.ls rfl rfl rfl rfl ?_
   refine WO.ls rfl rfl rfl rfl ?_
   refine WO.pn 1 rfl ?_
   refine WO.ls rfl rfl rfl rfl ?_
   refine WO.pn 2 rfl ?_
   obtain rfl := Option.some.inj h
   exact WO.met _ trivial ⟨rfl, _, (Stp.refl _ _).wk rfl⟩ fun a ha => (ha.more (ha.more (ha.more (ha.more ha.nil rfl) rfl) rfl) rfl)
  | false =>
   intro h; replace h := cF h
   refine WO.pn 1 rfl ?_
   refine WO.k2 rfl rfl rfl rfl (rn_fieldAddr Try.runUnderlying30 rfl Try.sizeOf2 rfl rfl) ?_
   have f34 := f4.stp (S9.tr S31) rfl rfl
   refine WO.k1 trivial rfl rfl rfl rfl (rn_ld Try.isAgg2 rfl rfl (hvE (f34.ld 1 rfl rfl))) ?_
   obtain ⟨x23, hx23, h⟩ := Option.bind_eq_some_iff.mp h
   refine WO.call rfl rfl rfl rfl rfl rfl Try.call133 (s_l23Power_ok (κ := fun b => mp [] 0 (K30 b)) hx23) ?_
   rintro _ w35 ⟨k36, rfl, e37⟩
   obtain ⟨K38, S39, m40⟩ := Ent.mixed (l := []) (κ := K30) e37 5 rfl
   refine ⟨trivial, ?_⟩
   refine WO.pn 1 rfl ?_
   obtain ⟨x25, hx25, h⟩ := Option.bind_eq_some_iff.mp h
   refine WO.call rfl rfl rfl rfl rfl rfl Try.call84 (s_l1In_ok (κ := fun b => mp [] 0 (K38 b)) hx25) ?_
   rintro _ w42 ⟨k43, rfl, e44⟩
   obtain ⟨K45, S46, m47⟩ := Ent.mixed (l := []) (κ := K38) e44 7 rfl
   refine ⟨trivial, ?_⟩
   refine WO.pn 2 rfl ?_
   obtain rfl := Option.some.inj h
   exact WO.met _ trivial ⟨rfl, _, (S39.tr S46).wk rfl⟩ fun a ha => (ha.more (ha.more (ha.more (ha.more ha.nil rfl) rfl) rfl) rfl)
 rintro _ w49 _ ⟨rfl, K50, S51⟩
 have h := hK32
 refine WO.fin ?_
 refine DN.seq ?_
 revert h
 cases ht52 : p27 with
 | true =>
  intro h; replace h := cT h
  refine WC.ct rfl ?_
  refine WC.seq ?_
  refine WC.rs [(0, 2)] rfl ?_
  refine WO.pn 1 rfl ?_
  refine WO.fin ?_
  refine DN.seq ?_
  refine WC.ret ?_
  refine DN.retThen ?_
  have f53 := hE.stp (S3.tr (S9.tr (S31.tr S51))) rfl rfl
  refine DN.res (l := [.tmp 6]) Try.results125 (res_tmp rfl rfl) rfl ?_
  obtain rfl := Option.some.inj h
  exact ⟨K50, rfl, f53⟩
 | false =>
  intro h; replace h := cF h
  refine WC.cf rfl ?_
  refine WC.skip ?_
  refine DN.seq ?_
  refine WC.seq ?_
  refine WC.rs [(0, 2), (1, 2), (2, 1), (3, 1), (4, 2), (5, 2), (6, 2), (7, 2)] rfl ?_
  refine WO.pn 1 rfl ?_
  refine WO.k2 rfl rfl rfl rfl (rn_fieldAddr Try.runUnderlying30 rfl Try.sizeOf2 rfl rfl) ?_
  have f54 := f4.stp (S9.tr (S31.tr S51)) rfl rfl
  refine WO.k1 trivial rfl rfl rfl rfl (rn_ld Try.isAgg2 rfl rfl (hvE (f54.ld 0 rfl rfl))) ?_
  obtain ⟨x31, hx31, h⟩ := Option.bind_eq_some_iff.mp h
  refine WO.call rfl rfl rfl rfl rfl rfl Try.call133 (s_l23Power_ok (κ := fun b => mp [] 0 (K50 b)) hx31) ?_
  rintro _ w55 ⟨k56, rfl, e57⟩
  obtain ⟨K58, S59, m60⟩ := Ent.mixed (l := []) (κ := K50) e57 5 rfl
  refine ⟨trivial, ?_⟩
  refine WO.pn 4 rfl ?_
  refine WO.fin ?_
  refine DN.seq ?_
  refine WC.ret ?_
  have f62 := hE.stp (S3.tr (S9.tr (S31.tr (S51.tr S59)))) rfl rfl
  refine DN.res (l := [.tmp 6]) Try.results125 (res_tmp rfl rfl) rfl ?_
  obtain rfl := Option.some.inj h
  exact ⟨K58, rfl, f62⟩

/- slices.ContainsFunc[[]int64,int64] -/
theorem slices_ContainsFunc_I_int64__i_areLetters_1_ok {w : World} {κ : Col} {a0 : Option Addr} {u0 : Nat} {p0 : (List Int)} {c1_0 : Int} {b1_0 : Nat} (g0 : Rd (Rp.int .i64) κ w 0 a0 u0 p0) (gb1_0 : Bc κ w 0 b1_0 2 [.int .i64 c1_0]) {r : Bool} (h : slices_ContainsFunc_I_int64__i_areLetters_1 p0 c1_0 = some r) : Ret Try.prog 134 [.slice a0 p0.length u0, .func (.func 135) #[] #[.pointer (some ⟨b1_0, 0, none⟩)]] w (fun v w' => ∃ (κ' : Col), v = .bool r ∧ Ent κ w κ' w') := by
 unfold slices_ContainsFunc_I_int64__i_areLetters_1 at h
 refine Ret.enter Try.func134 rfl Try.ntmps134 rfl ?_
 dsimp only [envOf]
 have hE := Ent.refl κ w
 refine WC.seq ?_
 refine WC.rs [(0, 2)] rfl ?_
 refine WO.pn 1 rfl ?_
 refine WO.fin ?_
 refine DN.seq ?_
 refine WC.seq ?_
 refine WC.rs [(0, 2), (1, 2), (2, 1), (3, 2), (4, 2)] rfl ?_
 refine WO.pn 2 rfl ?_
 obtain ⟨x7, hx7, h⟩ := Option.bind_eq_some_iff.mp h
 refine WO.call rfl rfl rfl rfl rfl rfl Try.call153 (slices_IndexFunc_I_int64__i_areLetters_1_ok (κ := fun b => mp [] 0 (κ b)) (Sl.map g0 (mp [] 0) rfl rfl) (gb1_0.map (mp [] 0) rfl rfl) hx7) ?_
 rintro _ w1 ⟨k2, rfl, e3⟩
 obtain ⟨K4, S5, m6⟩ := Ent.mixed (l := []) (κ := κ) e3 2 rfl
 refine ⟨trivial, ?_⟩
 refine WO.pn 2 rfl ?_
 refine WO.fin ?_
 refine DN.seq ?_
 refine WC.ret ?_
 have f8 := hE.stp S5 rfl rfl
 refine DN.res (l := [.tmp 4]) Try.results134 (res_tmp rfl rfl) rfl ?_
 obtain rfl := Option.some.inj h
 exact ⟨K4, rfl, f8⟩

/- loop.example/g00869/laws.eqMachine -/
theorem l_eqMachine_ok {w : World} {κ : Col} {a0_0 : Option Addr} {u0_0 : Nat} {a0_1 : Option Addr} {u0_1 : Nat} {p0 : Machine} {a1_0 : Option Addr} {u1_0 : Nat} {a1_1 : Option Addr} {u1_1 : Nat} {p1 : Machine} (g0_0 : Rd (Rp.sl (Rp.int .i64)) κ w 0 a0_0 u0_0 p0.Next) (g0_1 : Rd (Rp.sl (Rp.int .i64)) κ w 0 a0_1 u0_1 p0.Out) (g1_0 : Rd (Rp.sl (Rp.int .i64)) κ w 0 a1_0 u1_0 p1.Next) (g1_1 : Rd (Rp.sl (Rp.int .i64)) κ w 0 a1_1 u1_1 p1.Out) {r : Bool} (h : l_eqMachine p0 p1 = some r) : Ret Try.prog 52 [.agg #[.slice a0_0 p0.Next.length u0_0, .slice a0_1 p0.Out.length u0_1], .agg #[.slice a1_0 p1.Next.length u1_0, .slice a1_1 p1.Out.length u1_1]] w (fun v w' => ∃ (κ' : Col), v = .bool r ∧ Ent κ w κ' w') := by
 unfold l_eqMachine at h
 refine Ret.enter Try.func52 rfl Try.ntmps52 rfl ?_
 dsimp only [envOf]
 have hE := Ent.refl κ w
 refine WC.seq ?_
 refine WC.rs [(0, 1), (1, 1), (2, 2)] rfl ?_
 refine WO.box (κ := κ) 2 rfl rfl rfl rfl rfl rfl rfl fun b2 w1 K2 S3 f4 => ⟨trivial, ?_⟩
 refine WO.box (κ := K2) 3 rfl rfl rfl rfl rfl rfl rfl fun b3 w5 K6 S7 f8 => ⟨trivial, ?_⟩
 refine WO.pn 1 rfl ?_
 refine WO.fin ?_
 refine DN.seq ?_
 refine WC.seq ?_
 refine WC.seq ?_
 refine WC.rs [(0, 2), (1, 1), (2, 2), (3, 1), (4, 1), (5, 2)] rfl ?_
 refine WO.k2 rfl rfl rfl rfl (rn_fieldAddr Try.runUnderlying84 rfl Try.sizeOf25 rfl rfl) ?_
 have f9 := f4.stp S7 rfl rfl
 refine WO.k1 trivial rfl rfl rfl rfl (rn_ld Try.isAgg25 rfl rfl (hvE (f9.ld 0 rfl rfl))) ?_
 refine WO.k2 rfl rfl rfl rfl (rn_fieldAddr Try.runUnderlying84 rfl Try.sizeOf25 rfl rfl) ?_
 refine WO.k1 trivial rfl rfl rfl rfl (rn_ld Try.isAgg25 rfl rfl (hvE (f8.ld 0 rfl rfl))) ?_
 obtain ⟨x9, hx9, h⟩ := Option.bind_eq_some_iff.mp h
 have f10 := g0_0.stp (S3.tr S7) rfl rfl
 have f11 := g1_0.stp (S3.tr S7) rfl rfl
 refine WO.call rfl rfl rfl rfl rfl rfl Try.call77 (l_eqInt64SS_ok (κ := fun b => mp [] 0 (K6 b)) (Sl.map f10 (mp [] 0) rfl rfl) (Sl.map f11 (mp [] 0) rfl rfl) hx9) ?_
 rintro _ w12 ⟨k13, rfl, e14⟩
 obtain ⟨K15, S16, m17⟩ := Ent.mixed (l := []) (κ := K6) e14 4 rfl
 refine ⟨trivial, ?_⟩
 refine WO.pn 1 rfl ?_
 refine WO.fin ?_
 refine DN.seq ?_
 revert h
 cases ht19 : (!x9) with
 | true =>
  intro h; replace h := cT h
  refine WC.ct rfl ?_
  refine WC.seq ?_
  refine WC.rs [(0, 2)] rfl ?_
  refine WO.pn 1 rfl ?_
  refine WO.fin ?_
  refine DN.seq ?_
  refine WC.ret ?_
  refine DN.retThen ?_
  have f20 := hE.stp (S3.tr (S7.tr S16)) rfl rfl
  refine DN.res (l := [.tmp 4]) Try.results52 (res_tmp rfl rfl) rfl ?_
  obtain rfl := Option.some.inj h
  exact ⟨K15, rfl, f20⟩
 | false =>
  intro h; replace h := cF h
  refine WC.cf rfl ?_
  refine WC.skip ?_
  refine DN.seq ?_
  refine WC.seq ?_
  refine WC.seq ?_
  refine WC.rs [(0, 2), (1, 1), (2, 2), (3, 1), (4, 1), (5, 2)] rfl ?_
  refine WO.k2 rfl rfl rfl rfl (rn_fieldAddr Try.runUnderlying84 rfl Try.sizeOf25 rfl rfl) ?_
  have f21 := f9.stp S16 rfl rfl
  refine WO.k1 trivial rfl rfl rfl rfl (rn_ld Try.isAgg25 rfl rfl (hvE (f21.ld 1 rfl rfl))) ?_
  refine WO.k2 rfl rfl rfl rfl (rn_fieldAddr Try.runUnderlying84 rfl Try.sizeOf25 rfl rfl) ?_
  have f22 := f8.stp S16 rfl rfl
  refine WO.k1 trivial rfl rfl rfl rfl (rn_ld Try.isAgg25 rfl rfl (hvE (f22.ld 1 rfl rfl))) ?_
  obtain ⟨x15, hx15, h⟩ := Option.bind_eq_some_iff.mp h
  have f23 := g0_1.stp (S3.tr (S7.tr S16)) rfl rfl
  have f24 := g1_1.stp (S3.tr (S7.tr S16)) rfl rfl
  refine WO.call rfl rfl rfl rfl rfl rfl Try.call77 (l_eqInt64SS_ok (κ := fun b => mp [] 0 (K15 b)) (Sl.map f23 (mp [] 0) rfl rfl) (Sl.map f24 (mp [] 0) rfl rfl) hx15) ?_
  rintro _ w25 ⟨k26, rfl, e27⟩
  obtain ⟨K28, S29, m30⟩ := Ent.mixed (l := []) (κ := K15) e27 6 rfl
  refine ⟨trivial, ?_⟩
  refine WO.pn 1 rfl ?_
  refine WO.fin ?_
  refine DN.seq ?_
  revert h
  cases ht32 : (!x15) with
  | true =>
   intro h; replace h := cT h
   refine WC.ct rfl ?_
   refine WC.seq ?_
   refine WC.rs [(0, 2)] rfl ?_
   refine WO.pn 1 rfl ?_
   refine WO.fin ?_
   refine DN.seq ?_
   refine WC.ret ?_
   refine DN.retThen ?_
   have f33 := hE.stp (S3.tr (S7.tr (S16.tr S29))) rfl rfl
   refine DN.res (l := [.tmp 4]) Try.results52 (res_tmp rfl rfl) rfl ?_
   obtain rfl := Option.some.inj h
   exact ⟨K28, rfl, f33⟩
  | false =>
   intro h; replace h := cF h
   refine WC.cf rfl ?_
   refine WC.skip ?_
   refine DN.seq ?_
   refine WC.seq ?_
   refine WC.rs [(0, 2)] rfl ?_
   refine WO.pn 1 rfl ?_
   refine WO.fin ?_
   refine DN.seq ?_
   refine WC.ret ?_
   have f34 := hE.stp (S3.tr (S7.tr (S16.tr S29))) rfl rfl
   refine DN.res (l := [.tmp 4]) Try.results52 (res_tmp rfl rfl) rfl ?_
   obtain rfl := Option.some.inj h
   exact ⟨K28, rfl, f34⟩

/- loop.example/g00869/laws.eqRival -/
theorem l_eqRival_ok {w : World} {κ : Col} {a0_0 : Option Addr} {u0_0 : Nat} {a0_1 : Option Addr} {u0_1 : Nat} {p0 : Rival} {a1_0 : Option Addr} {u1_0 : Nat} {a1_1 : Option Addr} {u1_1 : Nat} {p1 : Rival} (g0_0 : Rd (Rp.int .i64) κ w 0 a0_0 u0_0 p0.In) (g0_1 : Rd (Rp.sl (Rp.int .i64)) κ w 0 a0_1 u0_1 p0.Next) (g1_0 : Rd (Rp.int .i64) κ w 0 a1_0 u1_0 p1.In) (g1_1 : Rd (Rp.sl (Rp.int .i64)) κ w 0 a1_1 u1_1 p1.Next) {r : Bool} (h : l_eqRival p0 p1 = some r) : Ret Try.prog 20 [.agg #[.slice a0_0 p0.In.length u0_0, .slice a0_1 p0.Next.length u0_1], .agg #[.slice a1_0 p1.In.length u1_0, .slice a1_1 p1.Next.length u1_1]] w (fun v w' => ∃ (κ' : Col), v = .bool r ∧ Ent κ w κ' w') := by
 unfold l_eqRival at h
 refine Ret.enter Try.func20 rfl Try.ntmps20 rfl ?_
 dsimp only [envOf]
 have hE := Ent.refl κ w
 refine WC.seq ?_
 refine WC.rs [(0, 1), (1, 1), (2, 2)] rfl ?_
 refine WO.box (κ := κ) 2 rfl rfl rfl rfl rfl rfl rfl fun b2 w1 K2 S3 f4 => ⟨trivial, ?_⟩
 refine WO.box (κ := K2) 3 rfl rfl rfl rfl rfl rfl rfl fun b3 w5 K6 S7 f8 => ⟨trivial, ?_⟩
 refine WO.pn 1 rfl ?_
 refine WO.fin ?_
 refine DN.seq ?_
 refine WC.seq ?_
 refine WC.seq ?_
 refine WC.rs [(0, 2), (1, 1), (2, 2), (3, 1), (4, 1), (5, 2)] rfl ?_
 refine WO.k2 rfl rfl rfl rfl (rn_fieldAddr Try.runUnderlying32 rfl Try.sizeOf24 rfl rfl) ?_
 have f9 := f4.stp S7 rfl rfl
 refine WO.k1 trivial rfl rfl rfl rfl (rn_ld Try.isAgg24 rfl rfl (hvE (f9.ld 0 rfl rfl))) ?_
 refine WO.k2 rfl rfl rfl rfl (rn_fieldAddr Try.runUnderlying32 rfl Try.sizeOf24 rfl rfl) ?_
 refine WO.k1 trivial rfl rfl rfl rfl (rn_ld Try.isAgg24 rfl rfl (hvE (f8.ld 0 rfl rfl))) ?_
 obtain ⟨x9, hx9, h⟩ := Option.bind_eq_some_iff.mp h
 have f10 := g0_0.stp (S3.tr S7) rfl rfl
 have f11 := g1_0.stp (S3.tr S7) rfl rfl
 refine WO.call rfl rfl rfl rfl rfl rfl Try.call24 (l_eqInt64S_ok (κ := fun b => mp [] 0 (K6 b)) (Sl.map f10 (mp [] 0) rfl rfl) (Sl.map f11 (mp [] 0) rfl rfl) hx9) ?_
 rintro _ w12 ⟨k13, rfl, e14⟩
 obtain ⟨K15, S16, m17⟩ := Ent.mixed (l := []) (κ := K6) e14 4 rfl
 refine ⟨trivial, ?_⟩
 refine WO.pn 1 rfl ?_
 refine WO.fin ?_
 refine DN.seq ?_
 revert h
 cases ht19 : (!x9) with
 | true =>
  intro h; replace h := cT h
  refine WC.ct rfl ?_
  refine WC.seq ?_
  refine WC.rs [(0, 2)] rfl ?_
  refine WO.pn 1 rfl ?_
  refine WO.fin ?_
  refine DN.seq ?_
  refine WC.ret ?_
  refine DN.retThen ?_
  have f20 := hE.stp (S3.tr (S7.tr S16)) rfl rfl
  refine DN.res (l := [.tmp 4]) Try.results20 (res_tmp rfl rfl) rfl ?_
  obtain rfl := Option.some.inj h
  exact ⟨K15, rfl, f20⟩
 | false =>
  intro h; replace h := cF h
  refine WC.cf rfl ?_
  refine WC.skip ?_
  refine DN.seq ?_
  refine WC.seq ?_
  refine WC.seq ?_
  refine WC.rs [(0, 2), (1, 1), (2, 2), (3, 1), (4, 1), (5, 2)] rfl ?_
  refine WO.k2 rfl rfl rfl rfl (rn_fieldAddr Try.runUnderlying32 rfl Try.sizeOf25 rfl rfl) ?_
  have f21 := f9.stp S16 rfl rfl
  refine WO.k1 trivial rfl rfl rfl rfl (rn_ld Try.isAgg25 rfl rfl (hvE (f21.ld 1 rfl rfl))) ?_
  refine WO.k2 rfl rfl rfl rfl (rn_fieldAddr Try.runUnderlying32 rfl Try.sizeOf25 rfl rfl) ?_
  have f22 := f8.stp S16 rfl rfl
  refine WO.k1 trivial rfl rfl rfl rfl (rn_ld Try.isAgg25 rfl rfl (hvE (f22.ld 1 rfl rfl))) ?_
  obtain ⟨x15, hx15, h⟩ := Option.bind_eq_some_iff.mp h
  have f23 := g0_1.stp (S3.tr (S7.tr S16)) rfl rfl
  have f24 := g1_1.stp (S3.tr (S7.tr S16)) rfl rfl
  refine WO.call rfl rfl rfl rfl rfl rfl Try.call77 (l_eqInt64SS_ok (κ := fun b => mp [] 0 (K15 b)) (Sl.map f23 (mp [] 0) rfl rfl) (Sl.map f24 (mp [] 0) rfl rfl) hx15) ?_
  rintro _ w25 ⟨k26, rfl, e27⟩
  obtain ⟨K28, S29, m30⟩ := Ent.mixed (l := []) (κ := K15) e27 6 rfl
  refine ⟨trivial, ?_⟩
  refine WO.pn 1 rfl ?_
  refine WO.fin ?_
  refine DN.seq ?_
  revert h
  cases ht32 : (!x15) with
  | true =>
   intro h; replace h := cT h
   refine WC.ct rfl ?_
   refine WC.seq ?_
   refine WC.rs [(0, 2)] rfl ?_
   refine WO.pn 1 rfl ?_
   refine WO.fin ?_
   refine DN.seq ?_
   refine WC.ret ?_
   refine DN.retThen ?_
   have f33 := hE.stp (S3.tr (S7.tr (S16.tr S29))) rfl rfl
   refine DN.res (l := [.tmp 4]) Try.results20 (res_tmp rfl rfl) rfl ?_
   obtain rfl := Option.some.inj h
   exact ⟨K28, rfl, f33⟩
  | false =>
   intro h; replace h := cF h
   refine WC.cf rfl ?_
   refine WC.skip ?_
   refine DN.seq ?_
   refine WC.seq ?_
   refine WC.rs [(0, 2)] rfl ?_
   refine WO.pn 1 rfl ?_
   refine WO.fin ?_
   refine DN.seq ?_
   refine WC.ret ?_
   have f34 := hE.stp (S3.tr (S7.tr (S16.tr S29))) rfl rfl
   refine DN.res (l := [.tmp 4]) Try.results20 (res_tmp rfl rfl) rfl ?_
   obtain rfl := Option.some.inj h
   exact ⟨K28, rfl, f34⟩

/- loop.example/g00869/laws.markMachine -/
theorem l_markMachine_ok {w : World} {κ : Col} {a0_0 : Option Addr} {u0_0 : Nat} {a0_1 : Option Addr} {u0_1 : Nat} {p0 : Machine} {p1 : Int} (g0_0 : Oc (Ep.own (Ep.int .i64) 2) 24 κ w 2 a0_0 u0_0 p0.Next) (g0_1 : Oc (Ep.own (Ep.int .i64) 2) 24 κ w 3 a0_1 u0_1 p0.Out) {r : Int × (List (List Int)) × (List (List Int))} (h : l_markMachine p0 p1 = some r) : Ret Try.prog 53 [.agg #[.slice a0_0 p0.Next.length u0_0, .slice a0_1 p0.Out.length u0_1], .int .i64 p1] w (fun v w' => ∃ (κ' : Col), v = .int .i64 r.1 ∧ Ent κ w κ' w' ∧ Oc (Ep.own (Ep.int .i64) 2) 24 κ' w' 2 a0_0 u0_0 r.2.1 ∧ p0.Next.length = r.2.1.length ∧ Oc (Ep.own (Ep.int .i64) 2) 24 κ' w' 3 a0_1 u0_1 r.2.2 ∧ p0.Out.length = r.2.2.length) := by
 unfold l_markMachine at h
 refine Ret.enter Try.func53 rfl Try.ntmps53 rfl ?_
 dsimp only [envOf]
 have hE := Ent.refl κ w
 refine WC.seq ?_
 refine WC.rs [(0, 1), (1, 2)] rfl ?_
 refine WO.box (κ := κ) 4 rfl rfl rfl rfl rfl rfl rfl fun b2 w1 K2 S3 f4 => ⟨trivial, ?_⟩
 refine WO.pn 1 rfl ?_
 refine WO.fin ?_
 refine DN.seq ?_
 refine WC.seq ?_
 refine WC.rs [(0, 2), (1, 1), (2, 2), (3, 1), (4, 2)] rfl ?_
 refine WO.k2 rfl rfl rfl rfl (rn_fieldAddr Try.runUnderlying84 rfl Try.sizeOf25 rfl rfl) ?_
 refine WO.k1 trivial rfl rfl rfl rfl (rn_ld Try.isAgg25 rfl rfl (hvE (f4.ld 0 rfl rfl))) ?_
 refine WO.pn 1 rfl ?_
 obtain ⟨x8, hx8, h⟩ := Option.bind_eq_some_iff.mp h
 have f5 := g0_0.stp S3 rfl rfl
 refine WO.call rfl rfl rfl rfl rfl rfl Try.call81 (l_markInt64SS_ok (κ := fun b => mp [(2, 2)] 0 (K2 b)) (f5.map (mp [(2, 2)] 0) rfl rfl) hx8) ?_
 rintro _ w6 ⟨k7, rfl, e8, f9, hn10⟩
 obtain ⟨K11, S12, m13⟩ := Ent.mixed (l := [(2, 2)]) (κ := K2) e8 5 rfl
 refine ⟨trivial, ?_⟩
 have f15 := f9.mx (no_own (no_int _) _) m13 rfl (rfl : 5 + 2 = 7)
 refine WO.pn 1 rfl ?_
 refine WO.fin ?_
 refine DN.seq ?_
 refine WC.seq ?_
 refine WC.rs [(0, 2), (1, 1), (2, 2), (3, 1), (4, 2)] rfl ?_
 refine WO.k2 rfl rfl rfl rfl (rn_fieldAddr Try.runUnderlying84 rfl Try.sizeOf25 rfl rfl) ?_
 have f16 := f4.stp S12 rfl rfl
 refine WO.k1 trivial rfl rfl rfl rfl (rn_ld Try.isAgg25 rfl rfl (hvE (f16.ld 1 rfl rfl))) ?_
 refine WO.pn 1 rfl ?_
 obtain ⟨x12, hx12, h⟩ := Option.bind_eq_some_iff.mp h
 have f17 := g0_1.stp (S3.tr S12) rfl rfl
 refine WO.call rfl rfl rfl rfl rfl rfl Try.call81 (l_markInt64SS_ok (κ := fun b => mp [(3, 2)] 0 (K11 b)) (f17.map (mp [(3, 2)] 0) rfl rfl) hx12) ?_
 rintro _ w18 ⟨k19, rfl, e20, f21, hn22⟩
 obtain ⟨K23, S24, m25⟩ := Ent.mixed (l := [(3, 2)]) (κ := K11) e20 8 rfl
 refine ⟨trivial, ?_⟩
 have f27 := f21.mx (no_own (no_int _) _) m25 rfl (rfl : 8 + 2 = 10)
 refine WO.pn 1 rfl ?_
 refine WO.fin ?_
 refine DN.seq ?_
 refine WC.seq ?_
 refine WC.rs [(0, 2), (1, 2)] rfl ?_
 refine WO.pn 2 rfl ?_
 refine WO.fin ?_
 refine DN.seq ?_
 refine WC.ret ?_
 have f28 := hE.stp (S3.tr (S12.tr S24)) rfl rfl
 have f29 := f15.stp S24 rfl rfl
 refine DN.res (l := [.tmp 4]) Try.results53 (res_tmp rfl rfl) rfl ?_
 obtain rfl := Option.some.inj h
 exact ⟨(fun b => ren [(7, 2), (10, 3)] (K23 b)), rfl, (f28.map (ren [(7, 2), (10, 3)]) rfl rfl), (f29.map (ren [(7, 2), (10, 3)]) rfl rfl), (hn10), (f27.map (ren [(7, 2), (10, 3)]) rfl rfl), (hn22)⟩

/- loop.example/g00869/laws.markRival -/
theorem l_markRival_ok {w : World} {κ : Col} {a0_0 : Option Addr} {u0_0 : Nat} {a0_1 : Option Addr} {u0_1 : Nat} {p0 : Rival} {p1 : Int} (g0_0 : Oc (Ep.int .i64) 2 κ w 2 a0_0 u0_0 p0.In) (g0_1 : Oc (Ep.own (Ep.int .i64) 2) 24 κ w 3 a0_1 u0_1 p0.Next) {r : Int × (List Int) × (List (List Int))} (h : l_markRival p0 p1 = some r) : Ret Try.prog 25 [.agg #[.slice a0_0 p0.In.length u0_0, .slice a0_1 p0.Next.length u0_1], .int .i64 p1] w (fun v w' => ∃ (κ' : Col), v = .int .i64 r.1 ∧ Ent κ w κ' w' ∧ Oc (Ep.int .i64) 2 κ' w' 2 a0_0 u0_0 r.2.1 ∧ p0.In.length = r.2.1.length ∧ Oc (Ep.own (Ep.int .i64) 2) 24 κ' w' 3 a0_1 u0_1 r.2.2 ∧ p0.Next.length = r.2.2.length) := by
 unfold l_markRival at h
 refine Ret.enter Try.func25 rfl Try.ntmps25 rfl ?_
 dsimp only [envOf]
 have hE := Ent.refl κ w
 refine WC.seq ?_
 refine WC.rs [(0, 1), (1, 2)] rfl ?_
 refine WO.box (κ := κ) 4 rfl rfl rfl rfl rfl rfl rfl fun b2 w1 K2 S3 f4 => ⟨trivial, ?_⟩
 refine WO.pn 1 rfl ?_
 refine WO.fin ?_
 refine DN.seq ?_
 refine WC.seq ?_
 refine WC.rs [(0, 2), (1, 1), (2, 2), (3, 1), (4, 2)] rfl ?_
 refine WO.k2 rfl rfl rfl rfl (rn_fieldAddr Try.runUnderlying32 rfl Try.sizeOf24 rfl rfl) ?_
 refine WO.k1 trivial rfl rfl rfl rfl (rn_ld Try.isAgg24 rfl rfl (hvE (f4.ld 0 rfl rfl))) ?_
 refine WO.pn 1 rfl ?_
 obtain ⟨x8, hx8, h⟩ := Option.bind_eq_some_iff.mp h
 have f5 := g0_0.stp S3 rfl rfl
 refine WO.call rfl rfl rfl rfl rfl rfl Try.call26 (l_markInt64S_ok (κ := fun b => mp [(2, 2)] 0 (K2 b)) (f5.map (mp [(2, 2)] 0) rfl rfl) hx8) ?_
 rintro _ w6 ⟨k7, rfl, e8, f9, hn10⟩
 obtain ⟨K11, S12, m13⟩ := Ent.mixed (l := [(2, 2)]) (κ := K2) e8 5 rfl
 refine ⟨trivial, ?_⟩
 have f15 := f9.mx (no_int _) m13 rfl (rfl : 5 + 2 = 7)
 refine WO.pn 1 rfl ?_
 refine WO.fin ?_
 refine DN.seq ?_
 refine WC.seq ?_
 refine WC.rs [(0, 2), (1, 1), (2, 2), (3, 1), (4, 2)] rfl ?_
 refine WO.k2 rfl rfl rfl rfl (rn_fieldAddr Try.runUnderlying32 rfl Try.sizeOf25 rfl rfl) ?_
 have f16 := f4.stp S12 rfl rfl
 refine WO.k1 trivial rfl rfl rfl rfl (rn_ld Try.isAgg25 rfl rfl (hvE (f16.ld 1 rfl rfl))) ?_
 refine WO.pn 1 rfl ?_
 obtain ⟨x12, hx12, h⟩ := Option.bind_eq_some_iff.mp h
 have f17 := g0_1.stp (S3.tr S12) rfl rfl
 refine WO.call rfl rfl rfl rfl rfl rfl Try.call81 (l_markInt64SS_ok (κ := fun b => mp [(3, 2)] 0 (K11 b)) (f17.map (mp [(3, 2)] 0) rfl rfl) hx12) ?_
 rintro _ w18 ⟨k19, rfl, e20, f21, hn22⟩
 obtain ⟨K23, S24, m25⟩ := Ent.mixed (l := [(3, 2)]) (κ := K11) e20 8 rfl
 refine ⟨trivial, ?_⟩
 have f27 := f21.mx (no_own (no_int _) _) m25 rfl (rfl : 8 + 2 = 10)
 refine WO.pn 1 rfl ?_
 refine WO.fin ?_
 refine DN.seq ?_
 refine WC.seq ?_
 refine WC.rs [(0, 2), (1, 2)] rfl ?_
 refine WO.pn 2 rfl ?_
 refine WO.fin ?_
 refine DN.seq ?_
 refine WC.ret ?_
 have f28 := hE.stp (S3.tr (S12.tr S24)) rfl rfl
 have f29 := f15.stp S24 rfl rfl
 refine DN.res (l := [.tmp 4]) Try.results25 (res_tmp rfl rfl) rfl ?_
 obtain rfl := Option.some.inj h
 exact ⟨(fun b => ren [(7, 2), (10, 3)] (K23 b)), rfl, (f28.map (ren [(7, 2), (10, 3)]) rfl rfl), (f29.map (ren [(7, 2), (10, 3)]) rfl rfl), (hn10), (f27.map (ren [(7, 2), (10, 3)]) rfl rfl), (hn22)⟩

/- loop.example/g00869/spec.l29Letters -/
theorem s_l29Letters_ok {w : World} {κ : Col} {p0 : Sig} {a1_0 : Option Addr} {u1_0 : Nat} {a1_1 : Option Addr} {u1_1 : Nat} {p1 : Machine} {p2 : Int} {a3 : Option Addr} {u3 : Nat} {p3 : (List Int)} (g1_0 : Rd (Rp.sl (Rp.int .i64)) κ w 0 a1_0 u1_0 p1.Next) (g1_1 : Rd (Rp.sl (Rp.int .i64)) κ w 0 a1_1 u1_1 p1.Out) (g3 : Rd (Rp.int .i64) κ w 0 a3 u3 p3) {r : (List Int)} (h : s_l29Letters p0 p1 p2 p3 = some r) : Ret Try.prog 103 [.agg #[.int .i64 p0.In, .int .i64 p0.Out], .agg #[.slice a1_0 p1.Next.length u1_0, .slice a1_1 p1.Out.length u1_1], .int .i64 p2, .slice a3 p3.length u3] w (fun v w' => ∃ (κ' : Col) (ra0 : Option Addr) (ru0 : Nat), v = .slice ra0 r.length ru0 ∧ Ent κ w κ' w' ∧ Oc (Ep.int .i64) 2 κ' w' 2 ra0 ru0 r) := by
 unfold s_l29Letters at h
 refine Ret.enter Try.func103 rfl Try.ntmps103 rfl ?_
 dsimp only [envOf]
 have hE := Ent.refl κ w
 refine WC.seq ?_
 refine WC.rs [(0, 1), (1, 1), (2, 2)] rfl ?_
 refine WO.box (κ := κ) 2 rfl rfl rfl rfl rfl rfl rfl fun b4 w1 K2 S3 f4 => ⟨trivial, ?_⟩
 refine WO.box (κ := K2) 3 rfl rfl rfl rfl rfl rfl rfl fun b5 w5 K6 S7 f8 => ⟨trivial, ?_⟩
 refine WO.pn 1 rfl ?_
 refine WO.fin ?_
 refine DN.seq ?_
 refine WC.seq ?_
 refine WC.rs [(0, 1), (1, 2)] rfl ?_
 refine WO.bl0 (κ := K6) (E := (Ep.int .i64)) 4 rfl rfl rfl rfl rfl Try.underlying24 Tryinfo2 rfl fun a11 u11 w9 K10 S11 f12 => ⟨trivial, ?_⟩
 refine WO.pn 1 rfl ?_
 refine WO.fin ?_
 refine DN.seq ?_
 refine WC.seq ?_
 refine WC.seq ?_
 refine WC.rs [(0, 2)] rfl ?_
 refine WO.pn 1 rfl ?_
 refine WO.fin ?_
 refine DN.seq ?_
 have hN13 : (p3.length : Int) ≤ 9223372036854775807 := g3.len_le
 obtain ⟨q2, hq15, hK14⟩ := Option.bind_eq_some_iff.mp h
 clear h
 refine WC.meet (fun L w' => ∃ (κ' : Col) (s3 : Int × (List Int)) (las3_0 : Option Addr) (lus3_0 : Nat), L = [(9, .slice las3_0 s3.2.length lus3_0)] ∧ Stp [4] K10 w9 κ' w' ∧ Oc (Ep.int .i64) 2 κ' w' 4 las3_0 lus3_0 s3.2 ∧ q2 = Sum.inr s3) ?_ ?_
 ·
  refine WC.block ?_
  refine WC.loop (fun k L w' => ∃ (κ' : Col) (v10 : Int) (s1 : Int × (List Int)) (las1_0 : Option Addr) (lus1_0 : Nat), L = [(2, .int .i64 s1.1), (3, .slice a3 p3.length u3), (4, .pointer (some ⟨b4, 0, none⟩)), (5, .pointer (some ⟨b5, 0, none⟩)), (9, .slice las1_0 s1.2.length lus1_0), (10, .int .i64 v10)] ∧ Stp [4] K10 w9 κ' w' ∧ Oc (Ep.int .i64) 2 κ' w' 4 las1_0 lus1_0 s1.2 ∧ 0 ≤ v10 ∧ Int.toNat ((p3.length : Int) - v10) = k ∧ cntM (s_l29Letters_b0 p0 p1 p3) k v10 s1 = some q2) ⟨_, _, ⟨K10, 0, ((p2 : Int), (([] : List Int) : (List Int))), a11, u11, rfl, (Stp.refl _ _).wk rfl, f12, (by decide), (by simp), hq15⟩, fun a ha => (ha.more (ha.more (ha.more (ha.more (ha.more (ha.more ha.nil rfl) rfl) rfl) rfl) rfl) rfl)⟩ ?_
  rintro k _ w20 ⟨K21, v10, s1, las1_0, lus1_0, rfl, S22, f23, hj13, hJ13, h⟩
  rcases k with _ | k
  ·
   have hk24 := h; obtain ⟨o13, h⟩ := ex_eq (Sum.inr (Sum.inl s1) : (List Int) ⊕ ((Int × (List Int)) ⊕ (Int × (List Int))))
   have hc13 : decide (v10 < (p3.length : Int)) = false := decide_eq_false (by omega)
   refine WC.seq ?_
   refine WC.seq ?_
   refine WC.rs [(0, 2), (1, 2), (2, 2), (3, 2)] rfl ?_
   refine WO.pn 2 rfl ?_
   refine WO.k2 rfl rfl rfl rfl (rn_len Try.runUnderlying24 rfl rfl) ?_
   refine WO.pn 1 rfl ?_
   refine WO.fin ?_
   refine DN.seq ?_
   refine WC.cf' rfl hc13 ?_
   refine WC.exit ?_
   refine DN.exitThen ?_
   refine DN.exitThen ?_
   obtain rfl := Option.some.inj h
   have h := hk24
   refine DN.hit ?_
   obtain rfl := Option.some.inj h
   exact DN.meet _ ⟨K21, ((s1.1 : Int), (s1.2 : (List Int))), las1_0, lus1_0, rfl, S22.wk rfl, f23, rfl⟩ fun a ha => (ha.more ha.nil rfl)
  ·
   obtain ⟨o13, h, hk24⟩ := Option.bind_eq_some_iff.mp h; unfold s_l29Letters_b0 at h
   have hc13 : decide (v10 < (p3.length : Int)) = true := decide_eq_true (by omega)
   refine WC.seq ?_
   refine WC.seq ?_
   refine WC.rs [(0, 2), (1, 2), (2, 2), (3, 2)] rfl ?_
   refine WO.pn 2 rfl ?_
   refine WO.k2 rfl rfl rfl rfl (rn_len Try.runUnderlying24 rfl rfl) ?_
   refine WO.pn 1 rfl ?_
   refine WO.fin ?_
   refine DN.seq ?_
   refine WC.ct' rfl hc13 ?_
   refine WC.skip ?_
   refine DN.seq ?_
   refine WC.seq ?_
   refine WC.block ?_
   refine WC.seq ?_
   refine WC.rx (κ := K21) 4 (some 21) [(0, 2), (1, 2), (3, 2), (6, 2), (7, 2), (8, 2), (15, 2), (16, 2), (17, 2), (2, 0), (4, 2), (5, 0), (9, 0), (10, 2), (11, 0), (12, 0), (18, 0), (13, 1), (14, 2), (19, 2), (20, 1)] [(21, 1), (22, 2)] (by kernel_rfl) (by kernel_rfl) fun w26 S25 => ?_
   refine WO.pn 1 rfl ?_
   refine WO.k2 rfl rfl rfl rfl (rn_fieldAddr Try.runUnderlying84 rfl Try.sizeOf25 rfl rfl) ?_
   refine WO.pn 3 rfl ?_
   obtain ⟨x26, hx26, h⟩ := Option.bind_eq_some_iff.mp h
   refine WO.k2 rfl rfl rfl rfl (rn_index g3 hx26 Try.runUnderlying24 Try.sizeOf2 rfl rfl rfl rfl) ?_
   refine WO.pn 2 rfl ?_
   obtain ⟨x35, hx35, h⟩ := Option.bind_eq_some_iff.mp h
   refine WO.k2 rfl rfl rfl rfl (rn_index g3 hx35 Try.runUnderlying24 Try.sizeOf2 rfl rfl rfl rfl) ?_
   have f27 := f8.stp (S11.tr (S22.tr S25)) rfl rfl
   refine WO.k0 rfl rfl rfl rfl (rn_ld Try.isAgg25 rfl rfl (hvC (f27.ld 1 rfl rfl) rfl)) ?_
   obtain ⟨x22, hx22, h⟩ := Option.bind_eq_some_iff.mp h
   refine WO.k2 rfl rfl rfl rfl (rn_index g1_1 hx22 Try.runUnderlying25 Try.sizeOf24 rfl rfl rfl rfl) ?_
   have f28 := g1_1.stp (S3.tr (S7.tr (S11.tr (S22.tr S25)))) rfl rfl
   obtain ⟨ax22, ux22, f29, hl30⟩ := f28.gSl hx22
   refine WO.k0 rfl rfl rfl rfl (rn_ld Try.isAgg24 rfl rfl (hvC hl30 rfl)) ?_
   have f31 := g3.stp (S3.tr (S7.tr (S11.tr (S22.tr S25)))) rfl rfl
   refine WO.k0 rfl rfl rfl rfl (rn_ld Try.isAgg2 rfl rfl (hvC (f31.gInt hx26) rfl)) ?_
   obtain ⟨x28, hx28, h⟩ := Option.bind_eq_some_iff.mp h
   refine WO.k2 rfl rfl rfl rfl (rn_index f29 hx28 Try.runUnderlying24 Try.sizeOf2 rfl rfl rfl rfl) ?_
   refine WO.k0 rfl rfl rfl rfl (rn_ld Try.isAgg2 rfl rfl (hvC (f29.gInt hx28) rfl)) ?_
   have f32 := f4.stp (S7.tr (S11.tr (S22.tr S25))) rfl rfl
   refine WO.k0 rfl rfl rfl rfl (rn_la (cs := [.int .i64 p0.In, .int .i64 p0.Out]) Try.isAgg30 Try.sizeOf30 rfl rfl rfl (haC f32.cells rfl)) ?_
   refine WO.k0 rfl rfl rfl rfl (rn_ld Try.isAgg2 rfl rfl (hvC (f31.gInt hx35) rfl)) ?_
   obtain ⟨x31, hx31, h⟩ := Option.bind_eq_some_iff.mp h
   refine WO.call rfl rfl rfl rfl rfl rfl Try.call146 (s_l29Ins_ok (κ := fun b => mp [] 0 (K21 b)) (p0 := p0) hx31) ?_
   rintro _ w33 ⟨k34, rfl, e35⟩
   obtain ⟨K36, S37, m38⟩ := Ent.mixed (l := []) (κ := K21) e35 5 rfl
   refine ⟨(S37.cl rfl), ?_⟩
   refine WO.pn 2 rfl ?_
   refine WO.bl (κ := K36) (E := (Ep.int .i64)) 7 [] (parts := [(0, .tmp 37)]) (cells := [.int .i64 (IntKind.i64.wrap ((IntKind.i64.wrap (x28 * x31)) + x35))]) (xs := ([(IntKind.i64.wrap ((IntKind.i64.wrap (x28 * x31)) + x35))] : List Int)) rfl rfl rfl rfl rfl rfl Try.underlying24 Tryinfo2 rfl rfl rfl rfl rfl rfl rfl rfl rfl rfl ⟨[.int .i64 (IntKind.i64.wrap ((IntKind.i64.wrap (x28 * x31)) + x35))], [], Zl K36 w33 [], Zl K36 w33 [], rfl, Zl.sp (l1 := []) (l2 := []) rfl, Zl.sr (l1 := []) (l2 := []), rfl, rfl⟩ fun a38 u38 w40 K41 S42 f43 => ⟨((S37.tr S42).cl rfl), ?_⟩
   refine WO.nx ?_
   obtain ⟨x39, hx39, h⟩ := Option.bind_eq_some_iff.mp h
   have f44 := f23.stp (S25.tr (S37.tr S42)) rfl rfl
   refine WO.app (κ := K41) (E := (Ep.int .i64)) 4 [] rfl rfl rfl rfl rfl rfl rfl rfl rfl Try.underlying24 Tryinfo2 rfl rfl rfl rfl f44 (Sl.srcP (pu_int _) f43.rdc) sy_false hx39 rfl fun a39 u39 w45 K46 S47 f48 => ⟨trivial, ?_⟩
   refine WO.pn 1 rfl ?_
   refine WO.fin ?_
   refine DN.seq ?_
   refine WC.rx (κ := K46) 7 none [(0, 2), (2, 2), (5, 2), (6, 2), (7, 2), (1, 0), (3, 2), (4, 0), (8, 0), (9, 2), (10, 0), (11, 2)] [] (by kernel_rfl) (by kernel_rfl) fun w50 S49 => ?_
   refine WO.k2 rfl rfl rfl rfl (rn_fieldAddr Try.runUnderlying84 rfl Try.sizeOf25 rfl rfl) ?_
   refine WO.pn 3 rfl ?_
   obtain ⟨x47, hx47, h⟩ := Option.bind_eq_some_iff.mp h
   refine WO.k2 rfl rfl rfl rfl (rn_index f31 hx47 Try.runUnderlying24 Try.sizeOf2 rfl rfl rfl rfl) ?_
   have f51 := f27.stp (S37.tr (S42.tr (S47.tr S49))) rfl rfl
   refine WO.k0 rfl rfl rfl rfl (rn_ld Try.isAgg25 rfl rfl (hvC (f51.ld 0 rfl rfl) rfl)) ?_
   obtain ⟨x43, hx43, h⟩ := Option.bind_eq_some_iff.mp h
   refine WO.k2 rfl rfl rfl rfl (rn_index g1_0 hx43 Try.runUnderlying25 Try.sizeOf24 rfl rfl rfl rfl) ?_
   have f52 := g1_0.stp (S3.tr (S7.tr (S11.tr (S22.tr (S25.tr (S37.tr (S42.tr (S47.tr S49)))))))) rfl rfl
   obtain ⟨ax43, ux43, f53, hl54⟩ := f52.gSl hx43
   refine WO.k0 rfl rfl rfl rfl (rn_ld Try.isAgg24 rfl rfl (hvC hl54 rfl)) ?_
   have f55 := f31.stp (S37.tr (S42.tr (S47.tr S49))) rfl rfl
   refine WO.k0 rfl rfl rfl rfl (rn_ld Try.isAgg2 rfl rfl (hvC (f55.gInt hx47) rfl)) ?_
   obtain ⟨x49, hx49, h⟩ := Option.bind_eq_some_iff.mp h
   refine WO.k2 rfl rfl rfl rfl (rn_index f53 hx49 Try.runUnderlying24 Try.sizeOf2 rfl rfl rfl rfl) ?_
   refine WO.k0 rfl rfl rfl rfl (rn_ld Try.isAgg2 rfl rfl (hvC (f53.gInt hx49) rfl)) ?_
   refine WO.pn 1 rfl ?_
   refine WO.nx ?_
   refine WO.fin ?_
   refine DN.block ?_
   refine DN.seq ?_
   refine WC.rs [(0, 2), (1, 2), (2, 2)] rfl ?_
   refine WO.pn 3 rfl ?_
   refine WO.fin ?_
   have hw13 : IntKind.wrap .i64 (v10 + 1) = v10 + 1 := wr1 hj13 (of_decide_eq_true hc13) hN13
   rw [hw13]
   have hc13 := of_decide_eq_true hc13
   have f56 := f48.stp S49 rfl rfl
   obtain rfl := Option.some.inj h
   refine DN.round fun a ha => ?_
   exact ⟨k, _, Nat.lt_succ_self _, ⟨K46, v10 + 1, ((x49 : Int), (x39 : (List Int))), a39, u39, rfl, (S22.tr (S25.tr (S37.tr (S42.tr (S47.tr S49))))).wk rfl, f56, by omega, by omega, hk24⟩, (ha.more (ha.more (ha.more (ha.more (ha.more (ha.more ha.nil rfl) rfl) rfl) rfl) rfl) rfl)⟩
 rintro _ w16 ⟨K17, s3, las3_0, lus3_0, rfl, S18, f19, rfl⟩
 have h := hK14
 dsimp only [aft] at h
 refine DN.seq ?_
 refine WC.seq ?_
 refine WC.rs [(0, 2), (1, 2)] rfl ?_
 refine WO.pn 2 rfl ?_
 refine WO.fin ?_
 refine DN.seq ?_
 refine WC.ret ?_
 have f57 := hE.stp (S3.tr (S7.tr (S11.tr S18))) rfl rfl
 refine DN.res (l := [.tmp 8]) Try.results103 (res_tmp rfl rfl) rfl ?_
 obtain rfl := Option.some.inj h
 exact ⟨(fun b => ren [(4, 2)] (K17 b)), las3_0, lus3_0, rfl, (f57.map (ren [(4, 2)]) rfl rfl), (f19.map (ren [(4, 2)]) rfl rfl)⟩

end Go.Proofs.Ytgniipbjjkodaaa
