/- The walks, part 2. By program. -/
import Derived.Test.YtfmkhnlnomkcfaaFnsC31
set_option linter.unusedVariables false
set_option linter.unusedSimpArgs false
namespace Go.Proofs.Ytfmkhnlnomkcfaa
open Go Go.Wk Go.Proofs
set_option maxRecDepth 100000
set_option maxHeartbeats 1000000

/- loop.example/g00869/laws.szArena -/
theorem l_szArena_ok {w : World} {κ : Col} {a0_0 : Option Addr} {u0_0 : Nat} {a0_1 : Option Addr} {u0_1 : Nat} {p0 : Arena} {p1 : Int} (g0_0 : Rd (Rp.int .i64) κ w 0 a0_0 u0_0 p0.Owner) (g0_1 : Rd (Rp.sl (Rp.int .i64)) κ w 0 a0_1 u0_1 p0.Next) {r : Int} (h : l_szArena p0 p1 = some r) : Ret Try.prog 84 [.agg #[.slice a0_0 p0.Owner.length u0_0, .slice a0_1 p0.Next.length u0_1], .int .i64 p1] w (fun v w' => ∃ (κ' : Col), v = .int .i64 r ∧ Ent κ w κ' w') := by
 unfold l_szArena at h
 refine Ret.enter Try.func84 rfl Try.ntmps84 rfl ?_
 dsimp only [envOf]
 have hE := Ent.refl κ w
 refine WC.seq ?_
 refine WC.rs [(0, 1), (1, 2)] rfl ?_
 refine WO.box (κ := κ) 2 rfl rfl rfl rfl rfl rfl rfl fun b2 w1 K2 S3 f4 => ⟨trivial, ?_⟩
 refine WO.pn 1 rfl ?_
 refine WO.fin ?_
 refine DN.seq ?_
 refine WC.seq ?_
 refine WC.rs [(0, 2), (1, 1), (2, 2), (3, 1), (4, 2)] rfl ?_
 refine WO.k2 rfl rfl rfl rfl (rn_fieldAddr Try.runUnderlying25 rfl Try.sizeOf22 rfl rfl) ?_
 refine WO.k1 trivial rfl rfl rfl rfl (rn_ld Try.isAgg22 rfl rfl (hvE (f4.ld 0 rfl rfl))) ?_
 refine WO.pn 1 rfl ?_
 obtain ⟨x8, hx8, h⟩ := Option.bind_eq_some_iff.mp h
 have f5 := g0_0.stp S3 rfl rfl
 refine WO.call rfl rfl rfl rfl rfl rfl Try.call85 (l_szInt64S_ok (κ := fun b => mp [] 0 (K2 b)) (Sl.map f5 (mp [] 0) rfl rfl) hx8) ?_
 rintro _ w6 ⟨k7, rfl, e8⟩
 obtain ⟨K9, S10, m11⟩ := Ent.mixed (l := []) (κ := K2) e8 3 rfl
 refine ⟨trivial, ?_⟩
 refine WO.pn 1 rfl ?_
 refine WO.fin ?_
 refine DN.seq ?_
 refine WC.seq ?_
 refine WC.seq ?_
 refine WC.rs [(0, 2), (1, 2)] rfl ?_
 refine WO.pn 2 rfl ?_
 refine WO.fin ?_
 refine DN.seq ?_
 revert h
 cases ht13 : decide (x8 < 0) with
 | true =>
  intro h; replace h := cT h
  refine WC.ct rfl ?_
  refine WC.seq ?_
  refine WC.rs [(0, 2)] rfl ?_
  refine WO.pn 1 rfl ?_
  refine WO.fin ?_
  refine DN.seq ?_
  refine WC.ret ?_
  refine DN.retThen ?_
  have f14 := hE.stp (S3.tr S10) rfl rfl
  refine DN.res (l := [.tmp 4]) Try.results84 (res_tmp rfl rfl) rfl ?_
  obtain rfl := Option.some.inj h
  exact ⟨K9, rfl, f14⟩
 | false =>
  intro h; replace h := cF h
  refine WC.cf rfl ?_
  refine WC.skip ?_
  refine DN.seq ?_
  refine WC.seq ?_
  refine WC.rs [(0, 2), (1, 1), (2, 2), (3, 1), (4, 2)] rfl ?_
  refine WO.k2 rfl rfl rfl rfl (rn_fieldAddr Try.runUnderlying25 rfl Try.sizeOf23 rfl rfl) ?_
  have f15 := f4.stp S10 rfl rfl
  refine WO.k1 trivial rfl rfl rfl rfl (rn_ld Try.isAgg23 rfl rfl (hvE (f15.ld 1 rfl rfl))) ?_
  refine WO.pn 1 rfl ?_
  obtain ⟨x14, hx14, h⟩ := Option.bind_eq_some_iff.mp h
  have f16 := g0_1.stp (S3.tr S10) rfl rfl
  refine WO.call rfl rfl rfl rfl rfl rfl Try.call111 (l_szInt64SS_ok (κ := fun b => mp [] 0 (K9 b)) (Sl.map f16 (mp [] 0) rfl rfl) hx14) ?_
  rintro _ w17 ⟨k18, rfl, e19⟩
  obtain ⟨K20, S21, m22⟩ := Ent.mixed (l := []) (κ := K9) e19 5 rfl
  refine ⟨trivial, ?_⟩
  refine WO.pn 1 rfl ?_
  refine WO.fin ?_
  refine DN.seq ?_
  refine WC.seq ?_
  refine WC.seq ?_
  refine WC.rs [(0, 2), (1, 2)] rfl ?_
  refine WO.pn 2 rfl ?_
  refine WO.fin ?_
  refine DN.seq ?_
  revert h
  cases ht24 : decide (x14 < 0) with
  | true =>
   intro h; replace h := cT h
   refine WC.ct rfl ?_
   refine WC.seq ?_
   refine WC.rs [(0, 2)] rfl ?_
   refine WO.pn 1 rfl ?_
   refine WO.fin ?_
   refine DN.seq ?_
   refine WC.ret ?_
   refine DN.retThen ?_
   have f25 := hE.stp (S3.tr (S10.tr S21)) rfl rfl
   refine DN.res (l := [.tmp 4]) Try.results84 (res_tmp rfl rfl) rfl ?_
   obtain rfl := Option.some.inj h
   exact ⟨K20, rfl, f25⟩
  | false =>
   intro h; replace h := cF h
   refine WC.cf rfl ?_
   refine WC.skip ?_
   refine DN.seq ?_
   refine WC.seq ?_
   refine WC.rs [(0, 2), (1, 2)] rfl ?_
   refine WO.pn 2 rfl ?_
   refine WO.fin ?_
   refine DN.seq ?_
   refine WC.ret ?_
   have f26 := hE.stp (S3.tr (S10.tr S21)) rfl rfl
   refine DN.res (l := [.tmp 4]) Try.results84 (res_tmp rfl rfl) rfl ?_
   obtain rfl := Option.some.inj h
   exact ⟨K20, rfl, f26⟩

/- loop.example/g00869/laws.szParity -/
theorem l_szParity_ok {w : World} {κ : Col} {a0_0_0 : Option Addr} {u0_0_0 : Nat} {a0_0_1 : Option Addr} {u0_0_1 : Nat} {a0_1 : Option Addr} {u0_1 : Nat} {p0 : Parity} {p1 : Int} (g0_0_0 : Rd (Rp.int .i64) κ w 0 a0_0_0 u0_0_0 p0.Arena.Owner) (g0_0_1 : Rd (Rp.sl (Rp.int .i64)) κ w 0 a0_0_1 u0_0_1 p0.Arena.Next) (g0_1 : Rd (Rp.int .i64) κ w 0 a0_1 u0_1 p0.Prio) {r : Int} (h : l_szParity p0 p1 = some r) : Ret Try.prog 13 [.agg #[.slice a0_0_0 p0.Arena.Owner.length u0_0_0, .slice a0_0_1 p0.Arena.Next.length u0_0_1, .slice a0_1 p0.Prio.length u0_1], .int .i64 p1] w (fun v w' => ∃ (κ' : Col), v = .int .i64 r ∧ Ent κ w κ' w') := by
 unfold l_szParity at h
 refine Ret.enter Try.func13 rfl Try.ntmps13 rfl ?_
 dsimp only [envOf]
 have hE := Ent.refl κ w
 refine WC.seq ?_
 refine WC.rs [(0, 1), (1, 2)] rfl ?_
 refine WO.box (κ := κ) 2 rfl rfl rfl rfl rfl rfl rfl fun b2 w1 K2 S3 f4 => ⟨trivial, ?_⟩
 refine WO.pn 1 rfl ?_
 refine WO.fin ?_
 refine DN.seq ?_
 refine WC.seq ?_
 refine WC.rs [(0, 2), (1, 1), (2, 2), (3, 1), (4, 2)] rfl ?_
 refine WO.k2 rfl rfl rfl rfl (rn_fieldAddr Try.runUnderlying27 rfl Try.sizeOf25 rfl rfl) ?_
 refine WO.k1 trivial rfl rfl rfl rfl (rn_la (cs := [.slice a0_0_0 p0.Arena.Owner.length u0_0_0, .slice a0_0_1 p0.Arena.Next.length u0_0_1]) Try.isAgg25 Try.sizeOf25 rfl rfl rfl (haE (f4.lds 0 2 rfl))) ?_
 refine WO.pn 1 rfl ?_
 obtain ⟨x8, hx8, h⟩ := Option.bind_eq_some_iff.mp h
 have f5 := g0_0_0.stp S3 rfl rfl
 have f6 := g0_0_1.stp S3 rfl rfl
 refine WO.call rfl rfl rfl rfl rfl rfl Try.call84 (l_szArena_ok (κ := fun b => mp [] 0 (K2 b)) (p0 := p0.Arena) (Sl.map f5 (mp [] 0) rfl rfl) (Sl.map f6 (mp [] 0) rfl rfl) hx8) ?_
 rintro _ w7 ⟨k8, rfl, e9⟩
 obtain ⟨K10, S11, m12⟩ := Ent.mixed (l := []) (κ := K2) e9 3 rfl
 refine ⟨trivial, ?_⟩
 refine WO.pn 1 rfl ?_
 refine WO.fin ?_
 refine DN.seq ?_
 refine WC.seq ?_
 refine WC.seq ?_
 refine WC.rs [(0, 2), (1, 2)] rfl ?_
 refine WO.pn 2 rfl ?_
 refine WO.fin ?_
 refine DN.seq ?_
 revert h
 cases ht14 : decide (x8 < 0) with
 | true =>
  intro h; replace h := cT h
  refine WC.ct rfl ?_
  refine WC.seq ?_
  refine WC.rs [(0, 2)] rfl ?_
  refine WO.pn 1 rfl ?_
  refine WO.fin ?_
  refine DN.seq ?_
  refine WC.ret ?_
  refine DN.retThen ?_
  have f15 := hE.stp (S3.tr S11) rfl rfl
  refine DN.res (l := [.tmp 4]) Try.results13 (res_tmp rfl rfl) rfl ?_
  obtain rfl := Option.some.inj h
  exact ⟨K10, rfl, f15⟩
 | false =>
  intro h; replace h := cF h
  refine WC.cf rfl ?_
  refine WC.skip ?_
  refine DN.seq ?_
  refine WC.seq ?_
  refine WC.rs [(0, 2), (1, 1), (2, 2), (3, 1), (4, 2)] rfl ?_
  refine WO.k2 rfl rfl rfl rfl (rn_fieldAddr Try.runUnderlying27 rfl Try.sizeOf22 rfl rfl) ?_
  have f16 := f4.stp S11 rfl rfl
  refine WO.k1 trivial rfl rfl rfl rfl (rn_ld Try.isAgg22 rfl rfl (hvE (f16.ld 2 rfl rfl))) ?_
  refine WO.pn 1 rfl ?_
  obtain ⟨x14, hx14, h⟩ := Option.bind_eq_some_iff.mp h
  have f17 := g0_1.stp (S3.tr S11) rfl rfl
  refine WO.call rfl rfl rfl rfl rfl rfl Try.call85 (l_szInt64S_ok (κ := fun b => mp [] 0 (K10 b)) (Sl.map f17 (mp [] 0) rfl rfl) hx14) ?_
  rintro _ w18 ⟨k19, rfl, e20⟩
  obtain ⟨K21, S22, m23⟩ := Ent.mixed (l := []) (κ := K10) e20 5 rfl
  refine ⟨trivial, ?_⟩
  refine WO.pn 1 rfl ?_
  refine WO.fin ?_
  refine DN.seq ?_
  refine WC.seq ?_
  refine WC.seq ?_
  refine WC.rs [(0, 2), (1, 2)] rfl ?_
  refine WO.pn 2 rfl ?_
  refine WO.fin ?_
  refine DN.seq ?_
  revert h
  cases ht25 : decide (x14 < 0) with
  | true =>
   intro h; replace h := cT h
   refine WC.ct rfl ?_
   refine WC.seq ?_
   refine WC.rs [(0, 2)] rfl ?_
   refine WO.pn 1 rfl ?_
   refine WO.fin ?_
   refine DN.seq ?_
   refine WC.ret ?_
   refine DN.retThen ?_
   have f26 := hE.stp (S3.tr (S11.tr S22)) rfl rfl
   refine DN.res (l := [.tmp 4]) Try.results13 (res_tmp rfl rfl) rfl ?_
   obtain rfl := Option.some.inj h
   exact ⟨K21, rfl, f26⟩
  | false =>
   intro h; replace h := cF h
   refine WC.cf rfl ?_
   refine WC.skip ?_
   refine DN.seq ?_
   refine WC.seq ?_
   refine WC.rs [(0, 2), (1, 2)] rfl ?_
   refine WO.pn 2 rfl ?_
   refine WO.fin ?_
   refine DN.seq ?_
   refine WC.ret ?_
   have f27 := hE.stp (S3.tr (S11.tr S22)) rfl rfl
   refine DN.res (l := [.tmp 4]) Try.results13 (res_tmp rfl rfl) rfl ?_
   obtain rfl := Option.some.inj h
   exact ⟨K21, rfl, f27⟩

/- loop.example/g00869/laws.toArena -/
theorem l_toArena_ok {w : World} {κ : Col} {a0_0 : Option Addr} {u0_0 : Nat} {a0_1 : Option Addr} {u0_1 : Nat} {p0 : Arena} (g0_0 : Rd (Rp.int .i64) κ w 0 a0_0 u0_0 p0.Owner) (g0_1 : Rd (Rp.sl (Rp.int .i64)) κ w 0 a0_1 u0_1 p0.Next) {r : Arena} (h : l_toArena p0 = some r) : Ret Try.prog 89 [.agg #[.slice a0_0 p0.Owner.length u0_0, .slice a0_1 p0.Next.length u0_1]] w (fun v w' => ∃ (κ' : Col) (ra0 : Option Addr) (ru0 : Nat) (ra1 : Option Addr) (ru1 : Nat), v = .agg #[.slice ra0 r.Owner.length ru0, .slice ra1 r.Next.length ru1] ∧ Ent κ w κ' w' ∧ Oc (Ep.int .i64) 2 κ' w' 2 ra0 ru0 r.Owner ∧ Oc (Ep.own (Ep.int .i64) 2) 22 κ' w' 3 ra1 ru1 r.Next) := by
 unfold l_toArena at h
 refine Ret.enter Try.func89 rfl Try.ntmps89 rfl ?_
 dsimp only [envOf]
 have hE := Ent.refl κ w
 refine WC.seq ?_
 refine WC.rs [(0, 1), (1, 1)] rfl ?_
 refine WO.box (κ := κ) 2 rfl rfl rfl rfl rfl rfl rfl fun b1 w1 K2 S3 f4 => ⟨trivial, ?_⟩
 refine WO.alloc (κ := K2) 3 rfl rfl rfl rfl rfl Try.zeroValue32 rfl fun b2 w5 K6 S7 f8 => ⟨trivial, ?_⟩
 refine WO.fin ?_
 refine DN.seq ?_
 refine WC.seq ?_
 refine WC.rs [(0, 1)] rfl ?_
 refine WO.alloc (κ := K6) 4 rfl rfl rfl rfl rfl Try.zeroValue32 rfl fun b3 w9 K10 S11 f12 => ⟨trivial, ?_⟩
 refine WO.fin ?_
 refine DN.seq ?_
 refine WC.seq ?_
 refine WC.rs [(0, 2), (1, 1), (2, 1), (3, 2), (4, 1)] rfl ?_
 refine WO.k2 rfl rfl rfl rfl (rn_fieldAddr Try.runUnderlying25 rfl Try.sizeOf22 rfl rfl) ?_
 have f13 := f4.stp (S7.tr S11) rfl rfl
 refine WO.k1 trivial rfl rfl rfl rfl (rn_ld Try.isAgg22 rfl rfl (hvE (f13.ld 0 rfl rfl))) ?_
 obtain ⟨x6, hx6, h⟩ := Option.bind_eq_some_iff.mp h
 have f14 := g0_0.stp (S3.tr (S7.tr S11)) rfl rfl
 refine WO.call rfl rfl rfl rfl rfl rfl Try.call90 (l_toInt64S_ok (κ := fun b => mp [] 0 (K10 b)) (Sl.map f14 (mp [] 0) rfl rfl) hx6) ?_
 rintro _ w15 ⟨k16, a6_0, u6_0, rfl, e17, f18⟩
 obtain ⟨K19, S20, m21⟩ := Ent.mixed (l := []) (κ := K10) e17 5 rfl
 refine ⟨trivial, ?_⟩
 have f23 := f18.mx (no_int _) m21 rfl (rfl : 5 + 2 = 7)
 refine WO.k2 rfl rfl rfl rfl (rn_fieldAddr Try.runUnderlying32 rfl Try.sizeOf22 rfl rfl) ?_
 have f24 := f12.stp S20 rfl rfl
 refine WO.stB (κ := K19) 4 (off := 0) (vc := [.slice a6_0 x6.length u6_0]) (cs' := [.slice a6_0 x6.length u6_0, .slice none 0 0]) rfl rfl rfl rfl rfl rfl rfl Try.sizeOf22 rfl rfl f24 rfl rfl fun w25 S26 f27 => ⟨trivial, ?_⟩
 refine WO.fin ?_
 refine DN.seq ?_
 refine WC.seq ?_
 refine WC.rs [(0, 2), (1, 1), (2, 1), (3, 2), (4, 1)] rfl ?_
 refine WO.k2 rfl rfl rfl rfl (rn_fieldAddr Try.runUnderlying25 rfl Try.sizeOf23 rfl rfl) ?_
 have f28 := f13.stp (S20.tr S26) rfl rfl
 refine WO.k1 trivial rfl rfl rfl rfl (rn_ld Try.isAgg23 rfl rfl (hvE (f28.ld 1 rfl rfl))) ?_
 obtain ⟨x10, hx10, h⟩ := Option.bind_eq_some_iff.mp h
 have f29 := g0_1.stp (S3.tr (S7.tr (S11.tr (S20.tr S26)))) rfl rfl
 refine WO.call rfl rfl rfl rfl rfl rfl Try.call112 (l_toInt64SS_ok (κ := fun b => mp [] 0 (K19 b)) (Sl.map f29 (mp [] 0) rfl rfl) hx10) ?_
 rintro _ w30 ⟨k31, a10_0, u10_0, rfl, e32, f33⟩
 obtain ⟨K34, S35, m36⟩ := Ent.mixed (l := []) (κ := K19) e32 8 rfl
 refine ⟨trivial, ?_⟩
 have f38 := f33.mx (no_own (no_int _) _) m36 rfl (rfl : 8 + 2 = 10)
 refine WO.k2 rfl rfl rfl rfl (rn_fieldAddr Try.runUnderlying32 rfl Try.sizeOf23 rfl rfl) ?_
 have f39 := f27.stp S35 rfl rfl
 refine WO.stB (κ := K34) 4 (off := 1) (vc := [.slice a10_0 x10.length u10_0]) (cs' := [.slice a6_0 x6.length u6_0, .slice a10_0 x10.length u10_0]) rfl rfl rfl rfl rfl rfl rfl Try.sizeOf23 rfl rfl f39 rfl rfl fun w40 S41 f42 => ⟨trivial, ?_⟩
 refine WO.fin ?_
 refine DN.seq ?_
 refine WC.seq ?_
 refine WC.rs [(0, 1), (1, 1)] rfl ?_
 refine WO.k1 trivial rfl rfl rfl rfl (rn_la (cs := [.slice a6_0 x6.length u6_0, .slice a10_0 x10.length u10_0]) Try.isAgg32 Try.sizeOf32 rfl rfl rfl (haE f42.cells)) ?_
 have f43 := f8.stp (S11.tr (S20.tr (S26.tr (S35.tr S41)))) rfl rfl
 refine WO.stB0 (κ := K34) 3 (vc := [.slice a6_0 x6.length u6_0, .slice a10_0 x10.length u10_0]) rfl rfl rfl rfl rfl rfl rfl Try.sizeOf32 rfl rfl f43 rfl fun w44 S45 f46 => ⟨trivial, ?_⟩
 refine WO.fin ?_
 refine DN.seq ?_
 refine WC.ret ?_
 have f47 := hE.stp (S3.tr (S7.tr (S11.tr (S20.tr (S26.tr (S35.tr (S41.tr S45))))))) rfl rfl
 have f48 := f23.stp (S26.tr (S35.tr (S41.tr S45))) rfl rfl
 have f49 := f38.stp (S41.tr S45) rfl rfl
 refine DN.res (l := [.cell 2 32]) Try.results89 (res_cellA rfl f46 Try.isAgg32 Try.sizeOf32 rfl rfl) rfl ?_
 obtain rfl := Option.some.inj h
 exact ⟨(fun b => ren [(7, 2), (10, 3)] (K34 b)), a6_0, u6_0, a10_0, u10_0, rfl, (f47.map (ren [(7, 2), (10, 3)]) rfl rfl), (f48.map (ren [(7, 2), (10, 3)]) rfl rfl), (f49.map (ren [(7, 2), (10, 3)]) rfl rfl)⟩

/- loop.example/g00869/laws.toParity -/
theorem l_toParity_ok {w : World} {κ : Col} {a0_0_0 : Option Addr} {u0_0_0 : Nat} {a0_0_1 : Option Addr} {u0_0_1 : Nat} {a0_1 : Option Addr} {u0_1 : Nat} {p0 : Parity} (g0_0_0 : Rd (Rp.int .i64) κ w 0 a0_0_0 u0_0_0 p0.Arena.Owner) (g0_0_1 : Rd (Rp.sl (Rp.int .i64)) κ w 0 a0_0_1 u0_0_1 p0.Arena.Next) (g0_1 : Rd (Rp.int .i64) κ w 0 a0_1 u0_1 p0.Prio) {r : Parity} (h : l_toParity p0 = some r) : Ret Try.prog 15 [.agg #[.slice a0_0_0 p0.Arena.Owner.length u0_0_0, .slice a0_0_1 p0.Arena.Next.length u0_0_1, .slice a0_1 p0.Prio.length u0_1]] w (fun v w' => ∃ (κ' : Col) (ra0 : Option Addr) (ru0 : Nat) (ra1 : Option Addr) (ru1 : Nat) (ra2 : Option Addr) (ru2 : Nat), v = .agg #[.slice ra0 r.Arena.Owner.length ru0, .slice ra1 r.Arena.Next.length ru1, .slice ra2 r.Prio.length ru2] ∧ Ent κ w κ' w' ∧ Oc (Ep.int .i64) 2 κ' w' 2 ra0 ru0 r.Arena.Owner ∧ Oc (Ep.own (Ep.int .i64) 2) 22 κ' w' 3 ra1 ru1 r.Arena.Next ∧ Oc (Ep.int .i64) 2 κ' w' 4 ra2 ru2 r.Prio) := by
 unfold l_toParity at h
 refine Ret.enter Try.func15 rfl Try.ntmps15 rfl ?_
 dsimp only [envOf]
 have hE := Ent.refl κ w
 refine WC.seq ?_
 refine WC.rs [(0, 1), (1, 1)] rfl ?_
 refine WO.box (κ := κ) 2 rfl rfl rfl rfl rfl rfl rfl fun b1 w1 K2 S3 f4 => ⟨trivial, ?_⟩
 refine WO.alloc (κ := K2) 3 rfl rfl rfl rfl rfl Try.zeroValue34 rfl fun b2 w5 K6 S7 f8 => ⟨trivial, ?_⟩
 refine WO.fin ?_
 refine DN.seq ?_
 refine WC.seq ?_
 refine WC.rs [(0, 1)] rfl ?_
 refine WO.alloc (κ := K6) 4 rfl rfl rfl rfl rfl Try.zeroValue34 rfl fun b3 w9 K10 S11 f12 => ⟨trivial, ?_⟩
 refine WO.fin ?_
 refine DN.seq ?_
 refine WC.seq ?_
 refine WC.rs [(0, 2), (1, 1), (2, 1), (3, 2), (4, 1)] rfl ?_
 refine WO.k2 rfl rfl rfl rfl (rn_fieldAddr Try.runUnderlying27 rfl Try.sizeOf25 rfl rfl) ?_
 have f13 := f4.stp (S7.tr S11) rfl rfl
 refine WO.k1 trivial rfl rfl rfl rfl (rn_la (cs := [.slice a0_0_0 p0.Arena.Owner.length u0_0_0, .slice a0_0_1 p0.Arena.Next.length u0_0_1]) Try.isAgg25 Try.sizeOf25 rfl rfl rfl (haE (f13.lds 0 2 rfl))) ?_
 obtain ⟨x6, hx6, h⟩ := Option.bind_eq_some_iff.mp h
 have f14 := g0_0_0.stp (S3.tr (S7.tr S11)) rfl rfl
 have f15 := g0_0_1.stp (S3.tr (S7.tr S11)) rfl rfl
 refine WO.call rfl rfl rfl rfl rfl rfl Try.call89 (l_toArena_ok (κ := fun b => mp [] 0 (K10 b)) (p0 := p0.Arena) (Sl.map f14 (mp [] 0) rfl rfl) (Sl.map f15 (mp [] 0) rfl rfl) hx6) ?_
 rintro _ w16 ⟨k17, a6_0, u6_0, a6_1, u6_1, rfl, e18, f19, f20⟩
 obtain ⟨K21, S22, m23⟩ := Ent.mixed (l := []) (κ := K10) e18 5 rfl
 refine ⟨trivial, ?_⟩
 have f25 := f19.mx (no_int _) m23 rfl (rfl : 5 + 2 = 7)
 have f26 := f20.mx (no_own (no_int _) _) m23 rfl (rfl : 5 + 3 = 8)
 refine WO.k2 rfl rfl rfl rfl (rn_fieldAddr Try.runUnderlying34 rfl Try.sizeOf32 rfl rfl) ?_
 have f27 := f12.stp S22 rfl rfl
 refine WO.stB (κ := K21) 4 (off := 0) (vc := [.slice a6_0 x6.Owner.length u6_0, .slice a6_1 x6.Next.length u6_1]) (cs' := [.slice a6_0 x6.Owner.length u6_0, .slice a6_1 x6.Next.length u6_1, .slice none 0 0]) rfl rfl rfl rfl rfl rfl rfl Try.sizeOf32 rfl rfl f27 rfl rfl fun w28 S29 f30 => ⟨trivial, ?_⟩
 refine WO.fin ?_
 refine DN.seq ?_
 refine WC.seq ?_
 refine WC.rs [(0, 2), (1, 1), (2, 1), (3, 2), (4, 1)] rfl ?_
 refine WO.k2 rfl rfl rfl rfl (rn_fieldAddr Try.runUnderlying27 rfl Try.sizeOf22 rfl rfl) ?_
 have f31 := f13.stp (S22.tr S29) rfl rfl
 refine WO.k1 trivial rfl rfl rfl rfl (rn_ld Try.isAgg22 rfl rfl (hvE (f31.ld 2 rfl rfl))) ?_
 obtain ⟨x10, hx10, h⟩ := Option.bind_eq_some_iff.mp h
 have f32 := g0_1.stp (S3.tr (S7.tr (S11.tr (S22.tr S29)))) rfl rfl
 refine WO.call rfl rfl rfl rfl rfl rfl Try.call90 (l_toInt64S_ok (κ := fun b => mp [] 0 (K21 b)) (Sl.map f32 (mp [] 0) rfl rfl) hx10) ?_
 rintro _ w33 ⟨k34, a10_0, u10_0, rfl, e35, f36⟩
 obtain ⟨K37, S38, m39⟩ := Ent.mixed (l := []) (κ := K21) e35 9 rfl
 refine ⟨trivial, ?_⟩
 have f41 := f36.mx (no_int _) m39 rfl (rfl : 9 + 2 = 11)
 refine WO.k2 rfl rfl rfl rfl (rn_fieldAddr Try.runUnderlying34 rfl Try.sizeOf22 rfl rfl) ?_
 have f42 := f30.stp S38 rfl rfl
 refine WO.stB (κ := K37) 4 (off := 2) (vc := [.slice a10_0 x10.length u10_0]) (cs' := [.slice a6_0 x6.Owner.length u6_0, .slice a6_1 x6.Next.length u6_1, .slice a10_0 x10.length u10_0]) rfl rfl rfl rfl rfl rfl rfl Try.sizeOf22 rfl rfl f42 rfl rfl fun w43 S44 f45 => ⟨trivial, ?_⟩
 refine WO.fin ?_
 refine DN.seq ?_
 refine WC.seq ?_
 refine WC.rs [(0, 1), (1, 1)] rfl ?_
 refine WO.k1 trivial rfl rfl rfl rfl (rn_la (cs := [.slice a6_0 x6.Owner.length u6_0, .slice a6_1 x6.Next.length u6_1, .slice a10_0 x10.length u10_0]) Try.isAgg34 Try.sizeOf34 rfl rfl rfl (haE f45.cells)) ?_
 have f46 := f8.stp (S11.tr (S22.tr (S29.tr (S38.tr S44)))) rfl rfl
 refine WO.stB0 (κ := K37) 3 (vc := [.slice a6_0 x6.Owner.length u6_0, .slice a6_1 x6.Next.length u6_1, .slice a10_0 x10.length u10_0]) rfl rfl rfl rfl rfl rfl rfl Try.sizeOf34 rfl rfl f46 rfl fun w47 S48 f49 => ⟨trivial, ?_⟩
 refine WO.fin ?_
 refine DN.seq ?_
 refine WC.ret ?_
 have f50 := hE.stp (S3.tr (S7.tr (S11.tr (S22.tr (S29.tr (S38.tr (S44.tr S48))))))) rfl rfl
 have f51 := f25.stp (S29.tr (S38.tr (S44.tr S48))) rfl rfl
 have f52 := f26.stp (S29.tr (S38.tr (S44.tr S48))) rfl rfl
 have f53 := f41.stp (S44.tr S48) rfl rfl
 refine DN.res (l := [.cell 2 34]) Try.results15 (res_cellA rfl f49 Try.isAgg34 Try.sizeOf34 rfl rfl) rfl ?_
 obtain rfl := Option.some.inj h
 exact ⟨(fun b => ren [(7, 2), (8, 3), (11, 4)] (K37 b)), a6_0, u6_0, a6_1, u6_1, a10_0, u10_0, rfl, (f50.map (ren [(7, 2), (8, 3), (11, 4)]) rfl rfl), (f51.map (ren [(7, 2), (8, 3), (11, 4)]) rfl rfl), (f52.map (ren [(7, 2), (8, 3), (11, 4)]) rfl rfl), (f53.map (ren [(7, 2), (8, 3), (11, 4)]) rfl rfl)⟩

/- loop.example/g00869/spec.l1Set -/
theorem s_l1Set_ok {w : World} {κ : Col} {a0 : Option Addr} {u0 : Nat} {p0 : (List Int)} {p1 : Int} (g0 : Rd (Rp.int .i64) κ w 0 a0 u0 p0) {r : Bool} (h : s_l1Set p0 p1 = some r) : Ret Try.prog 227 [.slice a0 p0.length u0, .int .i64 p1] w (fun v w' => ∃ (κ' : Col), v = .bool r ∧ Ent κ w κ' w') := by
 unfold s_l1Set at h
 refine Ret.enter Try.func227 rfl Try.ntmps227 rfl ?_
 dsimp only [envOf]
 have hE := Ent.refl κ w
 refine WC.seq ?_
 refine WC.rs [(0, 2)] rfl ?_
 refine WO.pn 1 rfl ?_
 refine WO.fin ?_
 refine DN.seq ?_
 refine WC.seq ?_
 refine WC.rs [(0, 2), (1, 2), (2, 2), (3, 2), (4, 2), (5, 2), (6, 2), (7, 1), (8, 2), (9, 2)] rfl ?_
 refine WO.pn 1 rfl ?_
 refine WO.k2 rfl rfl rfl rfl (rn_len Try.runUnderlying22 rfl rfl) ?_
 refine WO.pn 3 rfl ?_
 obtain ⟨p13, h, hK1⟩ := Option.bind_eq_some_iff.mp h
 refine WO.meet [(5, 2), (6, 2), (7, 1), (8, 2)] [(9, 2)] (fun L w' => L = [(4, .bool false), (13, .bool p13)] ∧ ∃ κ', Stp [] κ w κ' w') trivial ?_ ?_
 ·
  revert h
  cases ht2 : decide ((p0.length : Int) ≤ p1) with
  | true =>
   intro h; replace h := cT h
   refine WO.pn 2 rfl ?_
   obtain ⟨x12, hx12, h⟩ := Option.bind_eq_some_iff.mp h
   refine WO.call rfl rfl rfl rfl rfl rfl Try.call246 (s_l1Rises_ok (κ := fun b => mp [] 0 (κ b)) (Sl.map g0 (mp [] 0) rfl rfl) hx12) ?_
   rintro _ w3 ⟨k4, rfl, e5⟩
   obtain ⟨K6, S7, m8⟩ := Ent.mixed (l := []) (κ := κ) e5 2 rfl
   refine ⟨trivial, ?_⟩
   refine WO.pn 1 rfl ?_
   obtain rfl := Option.some.inj h
   exact WO.met _ trivial ⟨rfl, _, S7.wk rfl⟩ fun a ha => (ha.more (ha.more ha.nil rfl) rfl)
  | false =>
   intro h; replace h := cF h
   refine WO.pn 2 rfl ?_
   refine WO.ls rfl rfl rfl rfl ?_
   refine WO.pn 1 rfl ?_
   obtain rfl := Option.some.inj h
   exact WO.met _ trivial ⟨rfl, _, (Stp.refl _ _).wk rfl⟩ fun a ha => (ha.more (ha.more ha.nil rfl) rfl)
 rintro _ w10 _ ⟨rfl, K11, S12⟩
 have h := hK1
 refine WO.pn 1 rfl ?_
 refine WO.fin ?_
 refine DN.seq ?_
 refine WC.ret ?_
 have f13 := hE.stp S12 rfl rfl
 refine DN.res (l := [.tmp 4]) Try.results227 (res_tmp rfl rfl) rfl ?_
 obtain rfl := Option.some.inj h
 exact ⟨K11, rfl, f13⟩

/- loop.example/g00869/spec.ArenaOk -/
theorem s_ArenaOk_ok {w : World} {κ : Col} {a0_0 : Option Addr} {u0_0 : Nat} {a0_1 : Option Addr} {u0_1 : Nat} {p0 : Arena} (g0_0 : Rd (Rp.int .i64) κ w 0 a0_0 u0_0 p0.Owner) (g0_1 : Rd (Rp.sl (Rp.int .i64)) κ w 0 a0_1 u0_1 p0.Next) {r : Bool} (h : s_ArenaOk p0 = some r) : Ret Try.prog 204 [.agg #[.slice a0_0 p0.Owner.length u0_0, .slice a0_1 p0.Next.length u0_1]] w (fun v w' => ∃ (κ' : Col), v = .bool r ∧ Ent κ w κ' w') := by
 unfold s_ArenaOk at h
 refine Ret.enter Try.func204 rfl Try.ntmps204 rfl ?_
 dsimp only [envOf]
 have hE := Ent.refl κ w
 refine WC.seq ?_
 refine WC.rs [(0, 1), (1, 2)] rfl ?_
 refine WO.box (κ := κ) 2 rfl rfl rfl rfl rfl rfl rfl fun b1 w1 K2 S3 f4 => ⟨trivial, ?_⟩
 refine WO.pn 1 rfl ?_
 refine WO.fin ?_
 refine DN.seq ?_
 refine WC.seq ?_
 refine WC.rs [(0, 2), (1, 1), (2, 2), (3, 2)] rfl ?_
 refine WO.k2 rfl rfl rfl rfl (rn_fieldAddr Try.runUnderlying32 rfl Try.sizeOf22 rfl rfl) ?_
 refine WO.k1 trivial rfl rfl rfl rfl (rn_ld Try.isAgg22 rfl rfl (hvE (f4.ld 0 rfl rfl))) ?_
 refine WO.k2 rfl rfl rfl rfl (rn_len Try.runUnderlying22 rfl rfl) ?_
 refine WO.pn 1 rfl ?_
 refine WO.fin ?_
 refine DN.seq ?_
 refine WC.seq ?_
 refine WC.seq ?_
 refine WC.rs [(0, 2), (1, 1), (2, 2), (3, 2), (4, 2), (5, 1), (6, 2), (7, 2), (8, 1), (9, 2), (10, 2), (11, 2)] rfl ?_
 refine WO.pn 1 rfl ?_
 obtain ⟨x9, hx9, h⟩ := Option.bind_eq_some_iff.mp h
 refine WO.call rfl rfl rfl rfl rfl rfl Try.call150 (s_l1In_ok (κ := fun b => mp [] 0 (K2 b)) hx9) ?_
 rintro _ w5 ⟨k6, rfl, e7⟩
 obtain ⟨K8, S9, m10⟩ := Ent.mixed (l := []) (κ := K2) e7 3 rfl
 refine ⟨trivial, ?_⟩
 refine WO.pn 2 rfl ?_
 obtain ⟨p19, h, hK12⟩ := Option.bind_eq_some_iff.mp h
 refine WO.meet [(4, 2), (5, 1), (6, 2), (7, 2), (8, 1), (9, 2), (10, 2), (11, 2)] [] (fun L w' => L = [(1, .pointer (some ⟨b1, 0, none⟩)), (3, .int .i64 (p0.Owner.length : Int)), (19, .bool p19)] ∧ ∃ κ', Stp [] K8 w5 κ' w') trivial ?_ ?_
 ·
  revert h
  cases ht13 : (!x9) with
  | true =>
   intro h; replace h := cT h
   refine WO.pn 1 rfl ?_
   refine WO.ls rfl rfl rfl rfl ?_
   refine WO.pn 2 rfl ?_
   refine WO.ls rfl rfl rfl rfl ?_
   refine WO.pn 3 rfl ?_
   obtain rfl := Option.some.inj h
   exact WO.met _ trivial ⟨rfl, _, (Stp.refl _ _).wk rfl⟩ fun a ha => (ha.more (ha.more (ha.more ha.nil rfl) rfl) rfl)
  | false =>
   intro h; replace h := cF h
   refine WO.k2 rfl rfl rfl rfl (rn_fieldAddr Try.runUnderlying32 rfl Try.sizeOf23 rfl rfl) ?_
   have f14 := f4.stp S9 rfl rfl
   refine WO.k1 trivial rfl rfl rfl rfl (rn_ld Try.isAgg23 rfl rfl (hvE (f14.ld 1 rfl rfl))) ?_
   refine WO.k2 rfl rfl rfl rfl (rn_len Try.runUnderlying23 rfl rfl) ?_
   refine WO.k2 rfl rfl rfl rfl (rn_fieldAddr Try.runUnderlying32 rfl Try.sizeOf22 rfl rfl) ?_
   refine WO.k1 trivial rfl rfl rfl rfl (rn_ld Try.isAgg22 rfl rfl (hvE (f14.ld 0 rfl rfl))) ?_
   refine WO.k2 rfl rfl rfl rfl (rn_len Try.runUnderlying22 rfl rfl) ?_
   refine WO.pn 2 rfl ?_
   obtain rfl := Option.some.inj h
   exact WO.met _ trivial ⟨rfl, _, (Stp.refl _ _).wk rfl⟩ fun a ha => (ha.more (ha.more (ha.more ha.nil rfl) rfl) rfl)
 rintro _ w15 _ ⟨rfl, K16, S17⟩
 have h := hK12
 refine WO.fin ?_
 refine DN.seq ?_
 revert h
 cases ht18 : p19 with
 | true =>
  intro h; replace h := cT h
  refine WC.ct rfl ?_
  refine WC.seq ?_
  refine WC.rs [(0, 2)] rfl ?_
  refine WO.pn 1 rfl ?_
  refine WO.fin ?_
  refine DN.seq ?_
  refine WC.ret ?_
  refine DN.retThen ?_
  have f19 := hE.stp (S3.tr (S9.tr S17)) rfl rfl
  refine DN.res (l := [.tmp 2]) Try.results204 (res_tmp rfl rfl) rfl ?_
  obtain rfl := Option.some.inj h
  exact ⟨K16, rfl, f19⟩
 | false =>
  intro h; replace h := cF h
  refine WC.cf rfl ?_
  refine WC.skip ?_
  refine DN.seq ?_
  refine WC.seq ?_
  refine WC.seq ?_
  refine WC.rs [(0, 2)] rfl ?_
  refine WO.pn 1 rfl ?_
  refine WO.fin ?_
  refine DN.seq ?_
  have hN20 : (p0.Owner.length : Int) ≤ 9223372036854775807 := g0_0.len_le
  obtain ⟨q2, hq22, hK21⟩ := Option.bind_eq_some_iff.mp h
  clear h
  refine WC.meet (fun L w' => ∃ (κ' : Col), L = [] ∧ Stp [] K16 w15 κ' w' ∧ q2 = Sum.inr ()) ?_ ?_
  ·
   refine WC.block ?_
   refine WC.loop (fun k L w' => ∃ (κ' : Col) (v4 : Int), L = [(1, .pointer (some ⟨b1, 0, none⟩)), (3, .int .i64 (p0.Owner.length : Int)), (4, .int .i64 v4)] ∧ Stp [] K16 w15 κ' w' ∧ 0 ≤ v4 ∧ Int.toNat ((p0.Owner.length : Int) - v4) = k ∧ cntM (s_ArenaOk_b0 p0) k v4 () = some q2) ⟨_, _, ⟨K16, 0, rfl, (Stp.refl _ _).wk rfl, (by decide), (by simp), hq22⟩, fun a ha => (ha.more (ha.more (ha.more ha.nil rfl) rfl) rfl)⟩ ?_
   rintro k _ w26 ⟨K27, v4, rfl, S28, hj20, hJ20, h⟩
   rcases k with _ | k
   ·
    have hk29 := h; obtain ⟨o20, h⟩ := ex_eq (Sum.inr (Sum.inl ()) : Bool ⊕ ((Unit) ⊕ (Unit)))
    have hc20 : decide (v4 < (p0.Owner.length : Int)) = false := decide_eq_false (by omega)
    refine WC.seq ?_
    refine WC.seq ?_
    refine WC.rs [(0, 2), (1, 2), (2, 1), (3, 2), (4, 2)] rfl ?_
    refine WO.pn 1 rfl ?_
    refine WO.k2 rfl rfl rfl rfl (rn_fieldAddr Try.runUnderlying32 rfl Try.sizeOf22 rfl rfl) ?_
    have f30 := f4.stp (S9.tr (S17.tr S28)) rfl rfl
    refine WO.k1 trivial rfl rfl rfl rfl (rn_ld Try.isAgg22 rfl rfl (hvE (f30.ld 0 rfl rfl))) ?_
    refine WO.k2 rfl rfl rfl rfl (rn_len Try.runUnderlying22 rfl rfl) ?_
    refine WO.pn 1 rfl ?_
    refine WO.fin ?_
    refine DN.seq ?_
    refine WC.cf' rfl hc20 ?_
    refine WC.exit ?_
    refine DN.exitThen ?_
    refine DN.exitThen ?_
    obtain rfl := Option.some.inj h
    have h := hk29
    refine DN.hit ?_
    obtain rfl := Option.some.inj h
    exact DN.meet _ ⟨K27, rfl, S28.wk rfl, rfl⟩ fun a ha => ha.nil
   ·
    obtain ⟨o20, h, hk29⟩ := Option.bind_eq_some_iff.mp h; unfold s_ArenaOk_b0 at h
    have hc20 : decide (v4 < (p0.Owner.length : Int)) = true := decide_eq_true (by omega)
    refine WC.seq ?_
    refine WC.seq ?_
    refine WC.rs [(0, 2), (1, 2), (2, 1), (3, 2), (4, 2)] rfl ?_
    refine WO.pn 1 rfl ?_
    refine WO.k2 rfl rfl rfl rfl (rn_fieldAddr Try.runUnderlying32 rfl Try.sizeOf22 rfl rfl) ?_
    have f31 := f4.stp (S9.tr (S17.tr S28)) rfl rfl
    refine WO.k1 trivial rfl rfl rfl rfl (rn_ld Try.isAgg22 rfl rfl (hvE (f31.ld 0 rfl rfl))) ?_
    refine WO.k2 rfl rfl rfl rfl (rn_len Try.runUnderlying22 rfl rfl) ?_
    refine WO.pn 1 rfl ?_
    refine WO.fin ?_
    refine DN.seq ?_
    refine WC.ct' rfl hc20 ?_
    refine WC.skip ?_
    refine DN.seq ?_
    refine WC.seq ?_
    refine WC.block ?_
    refine WC.seq ?_
    refine WC.rs [(0, 2), (1, 1), (2, 2), (3, 2), (4, 1), (5, 1), (6, 2), (7, 2), (8, 2), (9, 1), (10, 2), (11, 2), (12, 1), (13, 2), (14, 2), (15, 2), (16, 2), (17, 2), (18, 1), (19, 2), (20, 2), (21, 1), (22, 2), (23, 2), (24, 2), (25, 2), (26, 2), (27, 1), (28, 2), (29, 2), (30, 1), (31, 2), (32, 1), (33, 2), (34, 2)] rfl ?_
    refine WO.k2 rfl rfl rfl rfl (rn_fieldAddr Try.runUnderlying32 rfl Try.sizeOf22 rfl rfl) ?_
    refine WO.k1 trivial rfl rfl rfl rfl (rn_ld Try.isAgg22 rfl rfl (hvE (f31.ld 0 rfl rfl))) ?_
    refine WO.pn 1 rfl ?_
    obtain ⟨x30, hx30, h⟩ := Option.bind_eq_some_iff.mp h
    refine WO.k2 rfl rfl rfl rfl (rn_index g0_0 hx30 Try.runUnderlying22 Try.sizeOf2 rfl rfl rfl rfl) ?_
    have f32 := g0_0.stp (S3.tr (S9.tr (S17.tr S28))) rfl rfl
    refine WO.k1 trivial rfl rfl rfl rfl (rn_ld Try.isAgg2 rfl rfl (hvE (f32.gInt hx30))) ?_
    obtain ⟨x32, hx32, h⟩ := Option.bind_eq_some_iff.mp h
    refine WO.call rfl rfl rfl rfl rfl rfl Try.call150 (s_l1In_ok (κ := fun b => mp [] 0 (K27 b)) hx32) ?_
    rintro _ w33 ⟨k34, rfl, e35⟩
    obtain ⟨K36, S37, m38⟩ := Ent.mixed (l := []) (κ := K27) e35 5 rfl
    refine ⟨trivial, ?_⟩
    refine WO.pn 2 rfl ?_
    obtain ⟨p42, h, hK40⟩ := Option.bind_eq_some_iff.mp h
    refine WO.meet [(8, 2), (9, 1), (10, 2), (11, 2), (12, 1), (13, 2), (14, 2), (15, 2)] [(16, 2), (17, 2), (18, 1), (19, 2), (20, 2), (21, 1), (22, 2), (23, 2), (24, 2), (25, 2), (26, 2), (27, 1), (28, 2), (29, 2), (30, 1), (31, 2), (32, 1), (33, 2), (34, 2)] (fun L w' => L = [(1, .pointer (some ⟨b1, 0, none⟩)), (3, .int .i64 (p0.Owner.length : Int)), (4, .int .i64 v4), (42, .bool p42)] ∧ ∃ κ', Stp [] K36 w33 κ' w') trivial ?_ ?_
    ·
     revert h
     cases ht41 : (!x32) with
     | true =>
      intro h; replace h := cT h
      refine WO.pn 1 rfl ?_
      refine WO.ls rfl rfl rfl rfl ?_
      refine WO.pn 2 rfl ?_
      refine WO.ls rfl rfl rfl rfl ?_
      refine WO.pn 3 rfl ?_
      obtain rfl := Option.some.inj h
      exact WO.met _ trivial ⟨rfl, _, (Stp.refl _ _).wk rfl⟩ fun a ha => (ha.more (ha.more (ha.more (ha.more ha.nil rfl) rfl) rfl) rfl)
     | false =>
      intro h; replace h := cF h
      refine WO.k2 rfl rfl rfl rfl (rn_fieldAddr Try.runUnderlying32 rfl Try.sizeOf23 rfl rfl) ?_
      have f42 := f31.stp S37 rfl rfl
      refine WO.k1 trivial rfl rfl rfl rfl (rn_ld Try.isAgg23 rfl rfl (hvE (f42.ld 1 rfl rfl))) ?_
      refine WO.pn 1 rfl ?_
      obtain ⟨x38, hx38, h⟩ := Option.bind_eq_some_iff.mp h
      refine WO.k2 rfl rfl rfl rfl (rn_index g0_1 hx38 Try.runUnderlying23 Try.sizeOf22 rfl rfl rfl rfl) ?_
      have f43 := g0_1.stp (S3.tr (S9.tr (S17.tr (S28.tr S37)))) rfl rfl
      obtain ⟨ax38, ux38, f44, hl45⟩ := f43.gSl hx38
      refine WO.k1 trivial rfl rfl rfl rfl (rn_ld Try.isAgg22 rfl rfl (hvE hl45)) ?_
      refine WO.k2 rfl rfl rfl rfl (rn_len Try.runUnderlying22 rfl rfl) ?_
      refine WO.pn 2 rfl ?_
      obtain rfl := Option.some.inj h
      exact WO.met _ trivial ⟨rfl, _, (Stp.refl _ _).wk rfl⟩ fun a ha => (ha.more (ha.more (ha.more (ha.more ha.nil rfl) rfl) rfl) rfl)
    rintro _ w46 _ ⟨rfl, K47, S48⟩
    have h := hK40
    refine WO.pn 1 rfl ?_
    obtain ⟨p51, h, hK49⟩ := Option.bind_eq_some_iff.mp h
    refine WO.meet [(17, 2), (18, 1), (19, 2), (20, 2), (21, 1), (22, 2), (23, 2), (24, 2)] [(25, 2), (26, 2), (27, 1), (28, 2), (29, 2), (30, 1), (31, 2), (32, 1), (33, 2), (34, 2)] (fun L w' => L = [(1, .pointer (some ⟨b1, 0, none⟩)), (3, .int .i64 (p0.Owner.length : Int)), (4, .int .i64 v4), (51, .bool p51)] ∧ ∃ κ', Stp [] K47 w46 κ' w') trivial ?_ ?_
    ·
     revert h
     cases ht50 : p42 with
     | true =>
      intro h; replace h := cT h
      refine WO.pn 1 rfl ?_
      refine WO.ls rfl rfl rfl rfl ?_
      refine WO.pn 2 rfl ?_
      refine WO.ls rfl rfl rfl rfl ?_
      refine WO.pn 3 rfl ?_
      obtain rfl := Option.some.inj h
      exact WO.met _ trivial ⟨rfl, _, (Stp.refl _ _).wk rfl⟩ fun a ha => (ha.more (ha.more (ha.more (ha.more ha.nil rfl) rfl) rfl) rfl)
     | false =>
      intro h; replace h := cF h
      refine WO.k2 rfl rfl rfl rfl (rn_fieldAddr Try.runUnderlying32 rfl Try.sizeOf23 rfl rfl) ?_
      have f51 := f31.stp (S37.tr S48) rfl rfl
      refine WO.k1 trivial rfl rfl rfl rfl (rn_ld Try.isAgg23 rfl rfl (hvE (f51.ld 1 rfl rfl))) ?_
      refine WO.pn 1 rfl ?_
      obtain ⟨x47, hx47, h⟩ := Option.bind_eq_some_iff.mp h
      refine WO.k2 rfl rfl rfl rfl (rn_index g0_1 hx47 Try.runUnderlying23 Try.sizeOf22 rfl rfl rfl rfl) ?_
      have f52 := g0_1.stp (S3.tr (S9.tr (S17.tr (S28.tr (S37.tr S48))))) rfl rfl
      obtain ⟨ax47, ux47, f53, hl54⟩ := f52.gSl hx47
      refine WO.k1 trivial rfl rfl rfl rfl (rn_ld Try.isAgg22 rfl rfl (hvE hl54)) ?_
      refine WO.k2 rfl rfl rfl rfl (rn_len Try.runUnderlying22 rfl rfl) ?_
      refine WO.pn 2 rfl ?_
      obtain rfl := Option.some.inj h
      exact WO.met _ trivial ⟨rfl, _, (Stp.refl _ _).wk rfl⟩ fun a ha => (ha.more (ha.more (ha.more (ha.more ha.nil rfl) rfl) rfl) rfl)
    rintro _ w55 _ ⟨rfl, K56, S57⟩
    have h := hK49
    refine WO.pn 1 rfl ?_
    obtain ⟨p61, h, hK58⟩ := Option.bind_eq_some_iff.mp h
    refine WO.meet [(26, 2), (27, 1), (28, 2), (29, 2), (30, 1), (31, 2), (32, 1), (33, 2), (34, 2)] [] (fun L w' => L = [(1, .pointer (some ⟨b1, 0, none⟩)), (3, .int .i64 (p0.Owner.length : Int)), (4, .int .i64 v4), (61, .bool p61)] ∧ ∃ κ', Stp [] K56 w55 κ' w') trivial ?_ ?_
    ·
     revert h
     cases ht59 : p51 with
     | true =>
      intro h; replace h := cT h
      refine WO.pn 1 rfl ?_
      refine WO.ls rfl rfl rfl rfl ?_
      refine WO.pn 2 rfl ?_
      refine WO.ls rfl rfl rfl rfl ?_
      refine WO.pn 1 rfl ?_
      refine WO.ls rfl rfl rfl rfl ?_
      refine WO.pn 2 rfl ?_
      obtain rfl := Option.some.inj h
      exact WO.met _ trivial ⟨rfl, _, (Stp.refl _ _).wk rfl⟩ fun a ha => (ha.more (ha.more (ha.more (ha.more ha.nil rfl) rfl) rfl) rfl)
     | false =>
      intro h; replace h := cF h
      refine WO.k2 rfl rfl rfl rfl (rn_fieldAddr Try.runUnderlying32 rfl Try.sizeOf23 rfl rfl) ?_
      have f60 := f31.stp (S37.tr (S48.tr S57)) rfl rfl
      refine WO.k1 trivial rfl rfl rfl rfl (rn_ld Try.isAgg23 rfl rfl (hvE (f60.ld 1 rfl rfl))) ?_
      refine WO.pn 1 rfl ?_
      obtain ⟨x56, hx56, h⟩ := Option.bind_eq_some_iff.mp h
      refine WO.k2 rfl rfl rfl rfl (rn_index g0_1 hx56 Try.runUnderlying23 Try.sizeOf22 rfl rfl rfl rfl) ?_
      have f61 := g0_1.stp (S3.tr (S9.tr (S17.tr (S28.tr (S37.tr (S48.tr S57)))))) rfl rfl
      obtain ⟨ax56, ux56, f62, hl63⟩ := f61.gSl hx56
      refine WO.k1 trivial rfl rfl rfl rfl (rn_ld Try.isAgg22 rfl rfl (hvE hl63)) ?_
      refine WO.pn 1 rfl ?_
      obtain ⟨x59, hx59, h⟩ := Option.bind_eq_some_iff.mp h
      refine WO.call rfl rfl rfl rfl rfl rfl Try.call227 (s_l1Set_ok (κ := fun b => mp [] 0 (K56 b)) (Sl.map f62 (mp [] 0) rfl rfl) hx59) ?_
      rintro _ w64 ⟨k65, rfl, e66⟩
      obtain ⟨K67, S68, m69⟩ := Ent.mixed (l := []) (κ := K56) e66 7 rfl
      refine ⟨trivial, ?_⟩
      refine WO.pn 2 rfl ?_
      obtain rfl := Option.some.inj h
      exact WO.met _ trivial ⟨rfl, _, S68.wk rfl⟩ fun a ha => (ha.more (ha.more (ha.more (ha.more ha.nil rfl) rfl) rfl) rfl)
    rintro _ w71 _ ⟨rfl, K72, S73⟩
    have h := hK58
    refine WO.fin ?_
    refine DN.seq ?_
    revert h
    cases ht74 : p61 with
    | true =>
     intro h; replace h := cT h
     refine WC.ct rfl ?_
     refine WC.seq ?_
     refine WC.rs [(0, 2)] rfl ?_
     refine WO.pn 1 rfl ?_
     refine WO.fin ?_
     refine DN.seq ?_
     refine WC.ret ?_
     refine DN.retBlock ?_
     refine DN.retThen ?_
     refine DN.retThen ?_
     obtain rfl := Option.some.inj h
     obtain rfl := Option.some.inj hk29
     have h := hK21
     dsimp only [aft] at h
     refine DN.retBlock ?_
     refine DN.retMeet ?_
     refine DN.retThen ?_
     have f75 := hE.stp (S3.tr (S9.tr (S17.tr (S28.tr (S37.tr (S48.tr (S57.tr S73))))))) rfl rfl
     refine DN.res (l := [.tmp 2]) Try.results204 (res_tmp rfl rfl) rfl ?_
     obtain rfl := Option.some.inj h
     exact ⟨K72, rfl, f75⟩
    | false =>
     intro h; replace h := cF h
     refine WC.cf rfl ?_
     refine WC.skip ?_
     refine DN.block ?_
     refine DN.seq ?_
     refine WC.rs [(0, 2), (1, 2), (2, 2)] rfl ?_
     refine WO.pn 3 rfl ?_
     refine WO.fin ?_
     have hw20 : IntKind.wrap .i64 (v4 + 1) = v4 + 1 := wr1 hj20 (of_decide_eq_true hc20) hN20
     rw [hw20]
     have hc20 := of_decide_eq_true hc20
     obtain rfl := Option.some.inj h
     refine DN.round fun a ha => ?_
     exact ⟨k, _, Nat.lt_succ_self _, ⟨K72, v4 + 1, rfl, (S28.tr (S37.tr (S48.tr (S57.tr S73)))).wk rfl, by omega, by omega, hk29⟩, (ha.more (ha.more (ha.more ha.nil rfl) rfl) rfl)⟩
  rintro _ w23 ⟨K24, rfl, S25, rfl⟩
  have h := hK21
  dsimp only [aft] at h
  refine DN.seq ?_
  refine WC.seq ?_
  refine WC.rs [(0, 2)] rfl ?_
  refine WO.pn 1 rfl ?_
  refine WO.fin ?_
  refine DN.seq ?_
  refine WC.ret ?_
  have f76 := hE.stp (S3.tr (S9.tr (S17.tr S25))) rfl rfl
  refine DN.res (l := [.tmp 2]) Try.results204 (res_tmp rfl rfl) rfl ?_
  obtain rfl := Option.some.inj h
  exact ⟨K24, rfl, f76⟩

/- loop.example/g00869/spec.ParityOk -/
theorem s_ParityOk_ok {w : World} {κ : Col} {a0_0_0 : Option Addr} {u0_0_0 : Nat} {a0_0_1 : Option Addr} {u0_0_1 : Nat} {a0_1 : Option Addr} {u0_1 : Nat} {p0 : Parity} (g0_0_0 : Rd (Rp.int .i64) κ w 0 a0_0_0 u0_0_0 p0.Arena.Owner) (g0_0_1 : Rd (Rp.sl (Rp.int .i64)) κ w 0 a0_0_1 u0_0_1 p0.Arena.Next) (g0_1 : Rd (Rp.int .i64) κ w 0 a0_1 u0_1 p0.Prio) {r : Bool} (h : s_ParityOk p0 = some r) : Ret Try.prog 145 [.agg #[.slice a0_0_0 p0.Arena.Owner.length u0_0_0, .slice a0_0_1 p0.Arena.Next.length u0_0_1, .slice a0_1 p0.Prio.length u0_1]] w (fun v w' => ∃ (κ' : Col), v = .bool r ∧ Ent κ w κ' w') := by
 unfold s_ParityOk at h
 refine Ret.enter Try.func145 rfl Try.ntmps145 rfl ?_
 dsimp only [envOf]
 have hE := Ent.refl κ w
 refine WC.seq ?_
 refine WC.rs [(0, 1), (1, 2)] rfl ?_
 refine WO.box (κ := κ) 2 rfl rfl rfl rfl rfl rfl rfl fun b1 w1 K2 S3 f4 => ⟨trivial, ?_⟩
 refine WO.pn 1 rfl ?_
 refine WO.fin ?_
 refine DN.seq ?_
 refine WC.seq ?_
 refine WC.seq ?_
 refine WC.rs [(0, 2), (1, 1), (2, 1), (3, 2), (4, 2), (5, 2), (6, 1), (7, 2), (8, 2), (9, 2), (10, 1), (11, 2), (12, 2), (13, 2)] rfl ?_
 refine WO.k2 rfl rfl rfl rfl (rn_fieldAddr Try.runUnderlying34 rfl Try.sizeOf32 rfl rfl) ?_
 refine WO.k1 trivial rfl rfl rfl rfl (rn_la (cs := [.slice a0_0_0 p0.Arena.Owner.length u0_0_0, .slice a0_0_1 p0.Arena.Next.length u0_0_1]) Try.isAgg32 Try.sizeOf32 rfl rfl rfl (haE (f4.lds 0 2 rfl))) ?_
 obtain ⟨x6, hx6, h⟩ := Option.bind_eq_some_iff.mp h
 have f5 := g0_0_0.stp S3 rfl rfl
 have f6 := g0_0_1.stp S3 rfl rfl
 refine WO.call rfl rfl rfl rfl rfl rfl Try.call204 (s_ArenaOk_ok (κ := fun b => mp [] 0 (K2 b)) (p0 := p0.Arena) (Sl.map f5 (mp [] 0) rfl rfl) (Sl.map f6 (mp [] 0) rfl rfl) hx6) ?_
 rintro _ w7 ⟨k8, rfl, e9⟩
 obtain ⟨K10, S11, m12⟩ := Ent.mixed (l := []) (κ := K2) e9 3 rfl
 refine ⟨trivial, ?_⟩
 refine WO.pn 2 rfl ?_
 obtain ⟨p17, h, hK14⟩ := Option.bind_eq_some_iff.mp h
 refine WO.meet [(5, 2), (6, 1), (7, 2), (8, 2), (9, 2), (10, 1), (11, 2), (12, 2), (13, 2)] [] (fun L w' => L = [(1, .pointer (some ⟨b1, 0, none⟩)), (17, .bool p17)] ∧ ∃ κ', Stp [] K10 w7 κ' w') trivial ?_ ?_
 ·
  revert h
  cases ht15 : (!x6) with
  | true =>
   intro h; replace h := cT h
   refine WO.pn 1 rfl ?_
   refine WO.ls rfl rfl rfl rfl ?_
   refine WO.pn 3 rfl ?_
   refine WO.ls rfl rfl rfl rfl ?_
   refine WO.pn 3 rfl ?_
   obtain rfl := Option.some.inj h
   exact WO.met _ trivial ⟨rfl, _, (Stp.refl _ _).wk rfl⟩ fun a ha => (ha.more (ha.more ha.nil rfl) rfl)
  | false =>
   intro h; replace h := cF h
   refine WO.k2 rfl rfl rfl rfl (rn_fieldAddr Try.runUnderlying34 rfl Try.sizeOf22 rfl rfl) ?_
   have f16 := f4.stp S11 rfl rfl
   refine WO.k1 trivial rfl rfl rfl rfl (rn_ld Try.isAgg22 rfl rfl (hvE (f16.ld 2 rfl rfl))) ?_
   refine WO.k2 rfl rfl rfl rfl (rn_len Try.runUnderlying22 rfl rfl) ?_
   refine WO.k2 rfl rfl rfl rfl (rn_fieldAddr Try.runUnderlying34 rfl Try.sizeOf32 rfl rfl) ?_
   refine WO.k2 rfl rfl rfl rfl (rn_fieldAddr Try.runUnderlying32 rfl Try.sizeOf22 rfl rfl) ?_
   refine WO.k1 trivial rfl rfl rfl rfl (rn_ld Try.isAgg22 rfl rfl (hvE (f16.ld 0 rfl rfl))) ?_
   refine WO.k2 rfl rfl rfl rfl (rn_len Try.runUnderlying22 rfl rfl) ?_
   refine WO.pn 2 rfl ?_
   obtain rfl := Option.some.inj h
   exact WO.met _ trivial ⟨rfl, _, (Stp.refl _ _).wk rfl⟩ fun a ha => (ha.more (ha.more ha.nil rfl) rfl)
 rintro _ w17 _ ⟨rfl, K18, S19⟩
 have h := hK14
 refine WO.fin ?_
 refine DN.seq ?_
 revert h
 cases ht20 : p17 with
 | true =>
  intro h; replace h := cT h
  refine WC.ct rfl ?_
  refine WC.seq ?_
  refine WC.rs [(0, 2)] rfl ?_
  refine WO.pn 1 rfl ?_
  refine WO.fin ?_
  refine DN.seq ?_
  refine WC.ret ?_
  refine DN.retThen ?_
  have f21 := hE.stp (S3.tr (S11.tr S19)) rfl rfl
  refine DN.res (l := [.tmp 2]) Try.results145 (res_tmp rfl rfl) rfl ?_
  obtain rfl := Option.some.inj h
  exact ⟨K18, rfl, f21⟩
 | false =>
  intro h; replace h := cF h
  refine WC.cf rfl ?_
  refine WC.skip ?_
  refine DN.seq ?_
  refine WC.seq ?_
  refine WC.seq ?_
  refine WC.rs [(0, 2)] rfl ?_
  refine WO.pn 1 rfl ?_
  refine WO.fin ?_
  refine DN.seq ?_
  have hN22 : (p0.Prio.length : Int) ≤ 9223372036854775807 := g0_1.len_le
  obtain ⟨q2, hq24, hK23⟩ := Option.bind_eq_some_iff.mp h
  clear h
  refine WC.meet (fun L w' => ∃ (κ' : Col), L = [] ∧ Stp [] K18 w17 κ' w' ∧ q2 = Sum.inr ()) ?_ ?_
  ·
   refine WC.block ?_
   refine WC.loop (fun k L w' => ∃ (κ' : Col) (v3 : Int), L = [(1, .pointer (some ⟨b1, 0, none⟩)), (3, .int .i64 v3)] ∧ Stp [] K18 w17 κ' w' ∧ 0 ≤ v3 ∧ Int.toNat ((p0.Prio.length : Int) - v3) = k ∧ cntM (s_ParityOk_b0 p0) k v3 () = some q2) ⟨_, _, ⟨K18, 0, rfl, (Stp.refl _ _).wk rfl, (by decide), (by simp), hq24⟩, fun a ha => (ha.more (ha.more ha.nil rfl) rfl)⟩ ?_
   rintro k _ w28 ⟨K29, v3, rfl, S30, hj22, hJ22, h⟩
   rcases k with _ | k
   ·
    have hk31 := h; obtain ⟨o22, h⟩ := ex_eq (Sum.inr (Sum.inl ()) : Bool ⊕ ((Unit) ⊕ (Unit)))
    have hc22 : decide (v3 < (p0.Prio.length : Int)) = false := decide_eq_false (by omega)
    refine WC.seq ?_
    refine WC.seq ?_
    refine WC.rs [(0, 2), (1, 2), (2, 1), (3, 2), (4, 2)] rfl ?_
    refine WO.pn 1 rfl ?_
    refine WO.k2 rfl rfl rfl rfl (rn_fieldAddr Try.runUnderlying34 rfl Try.sizeOf22 rfl rfl) ?_
    have f32 := f4.stp (S11.tr (S19.tr S30)) rfl rfl
    refine WO.k1 trivial rfl rfl rfl rfl (rn_ld Try.isAgg22 rfl rfl (hvE (f32.ld 2 rfl rfl))) ?_
    refine WO.k2 rfl rfl rfl rfl (rn_len Try.runUnderlying22 rfl rfl) ?_
    refine WO.pn 1 rfl ?_
    refine WO.fin ?_
    refine DN.seq ?_
    refine WC.cf' rfl hc22 ?_
    refine WC.exit ?_
    refine DN.exitThen ?_
    refine DN.exitThen ?_
    obtain rfl := Option.some.inj h
    have h := hk31
    refine DN.hit ?_
    obtain rfl := Option.some.inj h
    exact DN.meet _ ⟨K29, rfl, S30.wk rfl, rfl⟩ fun a ha => ha.nil
   ·
    obtain ⟨o22, h, hk31⟩ := Option.bind_eq_some_iff.mp h; unfold s_ParityOk_b0 at h
    have hc22 : decide (v3 < (p0.Prio.length : Int)) = true := decide_eq_true (by omega)
    refine WC.seq ?_
    refine WC.seq ?_
    refine WC.rs [(0, 2), (1, 2), (2, 1), (3, 2), (4, 2)] rfl ?_
    refine WO.pn 1 rfl ?_
    refine WO.k2 rfl rfl rfl rfl (rn_fieldAddr Try.runUnderlying34 rfl Try.sizeOf22 rfl rfl) ?_
    have f33 := f4.stp (S11.tr (S19.tr S30)) rfl rfl
    refine WO.k1 trivial rfl rfl rfl rfl (rn_ld Try.isAgg22 rfl rfl (hvE (f33.ld 2 rfl rfl))) ?_
    refine WO.k2 rfl rfl rfl rfl (rn_len Try.runUnderlying22 rfl rfl) ?_
    refine WO.pn 1 rfl ?_
    refine WO.fin ?_
    refine DN.seq ?_
    refine WC.ct' rfl hc22 ?_
    refine WC.skip ?_
    refine DN.seq ?_
    refine WC.seq ?_
    refine WC.block ?_
    refine WC.seq ?_
    refine WC.rs [(0, 2), (1, 1), (2, 2), (3, 2), (4, 1), (5, 1), (6, 2)] rfl ?_
    refine WO.k2 rfl rfl rfl rfl (rn_fieldAddr Try.runUnderlying34 rfl Try.sizeOf22 rfl rfl) ?_
    refine WO.k1 trivial rfl rfl rfl rfl (rn_ld Try.isAgg22 rfl rfl (hvE (f33.ld 2 rfl rfl))) ?_
    refine WO.pn 1 rfl ?_
    obtain ⟨x28, hx28, h⟩ := Option.bind_eq_some_iff.mp h
    refine WO.k2 rfl rfl rfl rfl (rn_index g0_1 hx28 Try.runUnderlying22 Try.sizeOf2 rfl rfl rfl rfl) ?_
    have f34 := g0_1.stp (S3.tr (S11.tr (S19.tr S30))) rfl rfl
    refine WO.k1 trivial rfl rfl rfl rfl (rn_ld Try.isAgg2 rfl rfl (hvE (f34.gInt hx28))) ?_
    obtain ⟨x30, hx30, h⟩ := Option.bind_eq_some_iff.mp h
    refine WO.call rfl rfl rfl rfl rfl rfl Try.call150 (s_l1In_ok (κ := fun b => mp [] 0 (K29 b)) hx30) ?_
    rintro _ w35 ⟨k36, rfl, e37⟩
    obtain ⟨K38, S39, m40⟩ := Ent.mixed (l := []) (κ := K29) e37 5 rfl
    refine ⟨trivial, ?_⟩
    refine WO.pn 1 rfl ?_
    refine WO.fin ?_
    refine DN.seq ?_
    revert h
    cases ht42 : (!x30) with
    | true =>
     intro h; replace h := cT h
     refine WC.ct rfl ?_
     refine WC.seq ?_
     refine WC.rs [(0, 2)] rfl ?_
     refine WO.pn 1 rfl ?_
     refine WO.fin ?_
     refine DN.seq ?_
     refine WC.ret ?_
     refine DN.retBlock ?_
     refine DN.retThen ?_
     refine DN.retThen ?_
     obtain rfl := Option.some.inj h
     obtain rfl := Option.some.inj hk31
     have h := hK23
     dsimp only [aft] at h
     refine DN.retBlock ?_
     refine DN.retMeet ?_
     refine DN.retThen ?_
     have f43 := hE.stp (S3.tr (S11.tr (S19.tr (S30.tr S39)))) rfl rfl
     refine DN.res (l := [.tmp 2]) Try.results145 (res_tmp rfl rfl) rfl ?_
     obtain rfl := Option.some.inj h
     exact ⟨K38, rfl, f43⟩
    | false =>
     intro h; replace h := cF h
     refine WC.cf rfl ?_
     refine WC.skip ?_
     refine DN.block ?_
     refine DN.seq ?_
     refine WC.rs [(0, 2), (1, 2), (2, 2)] rfl ?_
     refine WO.pn 3 rfl ?_
     refine WO.fin ?_
     have hw22 : IntKind.wrap .i64 (v3 + 1) = v3 + 1 := wr1 hj22 (of_decide_eq_true hc22) hN22
     rw [hw22]
     have hc22 := of_decide_eq_true hc22
     obtain rfl := Option.some.inj h
     refine DN.round fun a ha => ?_
     exact ⟨k, _, Nat.lt_succ_self _, ⟨K38, v3 + 1, rfl, (S30.tr S39).wk rfl, by omega, by omega, hk31⟩, (ha.more (ha.more ha.nil rfl) rfl)⟩
  rintro _ w25 ⟨K26, rfl, S27, rfl⟩
  have h := hK23
  dsimp only [aft] at h
  refine DN.seq ?_
  refine WC.seq ?_
  refine WC.rs [(0, 2)] rfl ?_
  refine WO.pn 1 rfl ?_
  refine WO.fin ?_
  refine DN.seq ?_
  refine WC.ret ?_
  have f44 := hE.stp (S3.tr (S11.tr (S19.tr S27))) rfl rfl
  refine DN.res (l := [.tmp 2]) Try.results145 (res_tmp rfl rfl) rfl ?_
  obtain rfl := Option.some.inj h
  exact ⟨K26, rfl, f44⟩

/- loop.example/g00869/impl.ParityOk -/
theorem i_ParityOk_ok {w : World} {κ : Col} {a0_0_0 : Option Addr} {u0_0_0 : Nat} {a0_0_1 : Option Addr} {u0_0_1 : Nat} {a0_1 : Option Addr} {u0_1 : Nat} {p0 : Parity} (g0_0_0 : Rd (Rp.int .i64) κ w 0 a0_0_0 u0_0_0 p0.Arena.Owner) (g0_0_1 : Rd (Rp.sl (Rp.int .i64)) κ w 0 a0_0_1 u0_0_1 p0.Arena.Next) (g0_1 : Rd (Rp.int .i64) κ w 0 a0_1 u0_1 p0.Prio) {r : Bool} (h : i_ParityOk p0 = some r) : Ret Try.prog 91 [.agg #[.slice a0_0_0 p0.Arena.Owner.length u0_0_0, .slice a0_0_1 p0.Arena.Next.length u0_0_1, .slice a0_1 p0.Prio.length u0_1]] w (fun v w' => ∃ (κ' : Col), v = .bool r ∧ Ent κ w κ' w') := by
 unfold i_ParityOk at h
 refine Ret.enter Try.func91 rfl Try.ntmps91 rfl ?_
 dsimp only [envOf]
 have hE := Ent.refl κ w
 refine WC.seq ?_
 refine WC.rs [(0, 1), (1, 2)] rfl ?_
 refine WO.box (κ := κ) 2 rfl rfl rfl rfl rfl rfl rfl fun b1 w1 K2 S3 f4 => ⟨trivial, ?_⟩
 refine WO.pn 1 rfl ?_
 refine WO.fin ?_
 refine DN.seq ?_
 refine WC.seq ?_
 refine WC.seq ?_
 refine WC.rs [(0, 2), (1, 1), (2, 1), (3, 2), (4, 2), (5, 2), (6, 1), (7, 2), (8, 2), (9, 2), (10, 1), (11, 2), (12, 2), (13, 2)] rfl ?_
 refine WO.k2 rfl rfl rfl rfl (rn_fieldAddr Try.runUnderlying34 rfl Try.sizeOf32 rfl rfl) ?_
 refine WO.k1 trivial rfl rfl rfl rfl (rn_la (cs := [.slice a0_0_0 p0.Arena.Owner.length u0_0_0, .slice a0_0_1 p0.Arena.Next.length u0_0_1]) Try.isAgg32 Try.sizeOf32 rfl rfl rfl (haE (f4.lds 0 2 rfl))) ?_
 obtain ⟨x7, hx7, h⟩ := Option.bind_eq_some_iff.mp h
 have f5 := g0_0_0.stp S3 rfl rfl
 have f6 := g0_0_1.stp S3 rfl rfl
 refine WO.call rfl rfl rfl rfl rfl rfl Try.call162 (i_ArenaOk_ok (κ := fun b => mp [] 0 (K2 b)) (p0 := p0.Arena) (Sl.map f5 (mp [] 0) rfl rfl) (Sl.map f6 (mp [] 0) rfl rfl) hx7) ?_
 rintro _ w7 ⟨k8, rfl, e9⟩
 obtain ⟨K10, S11, m12⟩ := Ent.mixed (l := []) (κ := K2) e9 3 rfl
 refine ⟨trivial, ?_⟩
 refine WO.pn 2 rfl ?_
 obtain ⟨p18, h, hK14⟩ := Option.bind_eq_some_iff.mp h
 refine WO.meet [(5, 2), (6, 1), (7, 2), (8, 2), (9, 2), (10, 1), (11, 2), (12, 2), (13, 2)] [] (fun L w' => L = [(1, .pointer (some ⟨b1, 0, none⟩)), (18, .bool p18)] ∧ ∃ κ', Stp [] K10 w7 κ' w') trivial ?_ ?_
 ·
  revert h
  cases ht15 : (!x7) with
  | true =>
   intro h; replace h := cT h
   refine WO.pn 1 rfl ?_
   refine WO.ls rfl rfl rfl rfl ?_
   refine WO.pn 3 rfl ?_
   refine WO.ls rfl rfl rfl rfl ?_
   refine WO.pn 3 rfl ?_
   obtain rfl := Option.some.inj h
   exact WO.met _ trivial ⟨rfl, _, (Stp.refl _ _).wk rfl⟩ fun a ha => (ha.more (ha.more ha.nil rfl) rfl)
  | false =>
   intro h; replace h := cF h
   refine WO.k2 rfl rfl rfl rfl (rn_fieldAddr Try.runUnderlying34 rfl Try.sizeOf22 rfl rfl) ?_
   have f16 := f4.stp S11 rfl rfl
   refine WO.k1 trivial rfl rfl rfl rfl (rn_ld Try.isAgg22 rfl rfl (hvE (f16.ld 2 rfl rfl))) ?_
   refine WO.k2 rfl rfl rfl rfl (rn_len Try.runUnderlying22 rfl rfl) ?_
   refine WO.k2 rfl rfl rfl rfl (rn_fieldAddr Try.runUnderlying34 rfl Try.sizeOf32 rfl rfl) ?_
   refine WO.k2 rfl rfl rfl rfl (rn_fieldAddr Try.runUnderlying32 rfl Try.sizeOf22 rfl rfl) ?_
   refine WO.k1 trivial rfl rfl rfl rfl (rn_ld Try.isAgg22 rfl rfl (hvE (f16.ld 0 rfl rfl))) ?_
   refine WO.k2 rfl rfl rfl rfl (rn_len Try.runUnderlying22 rfl rfl) ?_
   refine WO.pn 2 rfl ?_
   obtain rfl := Option.some.inj h
   exact WO.met _ trivial ⟨rfl, _, (Stp.refl _ _).wk rfl⟩ fun a ha => (ha.more (ha.more ha.nil rfl) rfl)
 rintro _ w17 _ ⟨rfl, K18, S19⟩
 have h := hK14
 refine WO.fin ?_
 refine DN.seq ?_
 revert h
 cases ht20 : p18 with
 | true =>
  intro h; replace h := cT h
  refine WC.ct rfl ?_
  refine WC.seq ?_
  refine WC.rs [(0, 2)] rfl ?_
  refine WO.pn 1 rfl ?_
  refine WO.fin ?_
  refine DN.seq ?_
  refine WC.ret ?_
  refine DN.retThen ?_
  have f21 := hE.stp (S3.tr (S11.tr S19)) rfl rfl
  refine DN.res (l := [.tmp 2]) Try.results91 (res_tmp rfl rfl) rfl ?_
  obtain rfl := Option.some.inj h
  exact ⟨K18, rfl, f21⟩
 | false =>
  intro h; replace h := cF h
  refine WC.cf rfl ?_
  refine WC.skip ?_
  refine DN.seq ?_
  refine WC.seq ?_
  refine WC.seq ?_
  refine WC.rs [(0, 2), (1, 1), (2, 2), (3, 2)] rfl ?_
  refine WO.k2 rfl rfl rfl rfl (rn_fieldAddr Try.runUnderlying34 rfl Try.sizeOf22 rfl rfl) ?_
  have f22 := f4.stp (S11.tr S19) rfl rfl
  refine WO.k1 trivial rfl rfl rfl rfl (rn_ld Try.isAgg22 rfl rfl (hvE (f22.ld 2 rfl rfl))) ?_
  refine WO.k2 rfl rfl rfl rfl (rn_len Try.runUnderlying22 rfl rfl) ?_
  refine WO.pn 1 rfl ?_
  refine WO.fin ?_
  refine DN.seq ?_
  have hN23 : (p0.Prio.length : Int) ≤ 9223372036854775807 := g0_1.len_le
  obtain ⟨q2, hq25, hK24⟩ := Option.bind_eq_some_iff.mp h
  clear h
  refine WC.meet (fun L w' => ∃ (κ' : Col), L = [] ∧ Stp [] K18 w17 κ' w' ∧ q2 = Sum.inr ()) ?_ ?_
  ·
   refine WC.block ?_
   refine WC.loop (fun k L w' => ∃ (κ' : Col) (v22 : Int), L = [(20, .slice a0_1 p0.Prio.length u0_1), (21, .int .i64 (p0.Prio.length : Int)), (22, .int .i64 v22)] ∧ Stp [] K18 w17 κ' w' ∧ 0 ≤ v22 ∧ Int.toNat ((p0.Prio.length : Int) - v22) = k ∧ cntM (i_ParityOk_b0 p0) k v22 () = some q2) ⟨_, _, ⟨K18, 0, rfl, (Stp.refl _ _).wk rfl, (by decide), (by simp), hq25⟩, fun a ha => (ha.more (ha.more (ha.more ha.nil rfl) rfl) rfl)⟩ ?_
   rintro k _ w29 ⟨K30, v22, rfl, S31, hj23, hJ23, h⟩
   rcases k with _ | k
   ·
    have hk32 := h; obtain ⟨o23, h⟩ := ex_eq (Sum.inr (Sum.inl ()) : Bool ⊕ ((Unit) ⊕ (Unit)))
    have hc23 : decide (v22 < (p0.Prio.length : Int)) = false := decide_eq_false (by omega)
    refine WC.seq ?_
    refine WC.rs [(0, 2)] rfl ?_
    refine WO.pn 1 rfl ?_
    refine WO.fin ?_
    refine DN.seq ?_
    refine WC.seq ?_
    refine WC.cf' rfl hc23 ?_
    refine WC.exit ?_
    refine DN.exitThen ?_
    refine DN.exitThen ?_
    obtain rfl := Option.some.inj h
    have h := hk32
    refine DN.hit ?_
    obtain rfl := Option.some.inj h
    exact DN.meet _ ⟨K30, rfl, S31.wk rfl, rfl⟩ fun a ha => ha.nil
   ·
    obtain ⟨o23, h, hk32⟩ := Option.bind_eq_some_iff.mp h; unfold i_ParityOk_b0 at h
    have hc23 : decide (v22 < (p0.Prio.length : Int)) = true := decide_eq_true (by omega)
    refine WC.seq ?_
    refine WC.rs [(0, 2)] rfl ?_
    refine WO.pn 1 rfl ?_
    refine WO.fin ?_
    refine DN.seq ?_
    refine WC.seq ?_
    refine WC.ct' rfl hc23 ?_
    refine WC.skip ?_
    refine DN.seq ?_
    refine WC.seq ?_
    refine WC.block ?_
    refine WC.seq ?_
    refine WC.rs [(0, 2), (1, 1), (2, 2)] rfl ?_
    obtain ⟨x24, hx24, h⟩ := Option.bind_eq_some_iff.mp h
    refine WO.k2 rfl rfl rfl rfl (rn_index g0_1 hx24 Try.runUnderlying22 Try.sizeOf2 rfl rfl rfl rfl) ?_
    have f33 := g0_1.stp (S3.tr (S11.tr (S19.tr S31))) rfl rfl
    refine WO.k1 trivial rfl rfl rfl rfl (rn_ld Try.isAgg2 rfl rfl (hvE (f33.gInt hx24))) ?_
    refine WO.pn 1 rfl ?_
    refine WO.fin ?_
    refine DN.seq ?_
    refine WC.seq ?_
    refine WC.rs [(0, 2), (1, 2), (2, 2), (3, 2), (4, 2), (5, 2)] rfl ?_
    refine WO.pn 3 rfl ?_
    obtain ⟨p31, h, hK34⟩ := Option.bind_eq_some_iff.mp h
    refine WO.meet [(3, 2), (4, 2), (5, 2)] [] (fun L w' => L = [(20, .slice a0_1 p0.Prio.length u0_1), (21, .int .i64 (p0.Prio.length : Int)), (22, .int .i64 v22), (31, .bool p31)] ∧ ∃ κ', Stp [] K30 w29 κ' w') trivial ?_ ?_
    ·
     revert h
     cases ht35 : decide (x24 < 0) with
     | true =>
      intro h; replace h := cT h
      refine WO.pn 3 rfl ?_
      obtain rfl := Option.some.inj h
      exact WO.met _ trivial ⟨rfl, _, (Stp.refl _ _).wk rfl⟩ fun a ha => (ha.more (ha.more (ha.more (ha.more ha.nil rfl) rfl) rfl) rfl)
     | false =>
      intro h; replace h := cF h
      refine WO.pn 3 rfl ?_
      obtain rfl := Option.some.inj h
      exact WO.met _ trivial ⟨rfl, _, (Stp.refl _ _).wk rfl⟩ fun a ha => (ha.more (ha.more (ha.more (ha.more ha.nil rfl) rfl) rfl) rfl)
    rintro _ w36 _ ⟨rfl, K37, S38⟩
    have h := hK34
    refine WO.fin ?_
    refine DN.seq ?_
    revert h
    cases ht39 : p31 with
    | true =>
     intro h; replace h := cT h
     refine WC.ct rfl ?_
     refine WC.seq ?_
     refine WC.rs [(0, 2)] rfl ?_
     refine WO.pn 1 rfl ?_
     refine WO.fin ?_
     refine DN.seq ?_
     refine WC.ret ?_
     refine DN.retBlock ?_
     refine DN.retThen ?_
     refine DN.retThen ?_
     obtain rfl := Option.some.inj h
     obtain rfl := Option.some.inj hk32
     have h := hK24
     dsimp only [aft] at h
     refine DN.retBlock ?_
     refine DN.retMeet ?_
     refine DN.retThen ?_
     have f40 := hE.stp (S3.tr (S11.tr (S19.tr (S31.tr S38)))) rfl rfl
     refine DN.res (l := [.tmp 2]) Try.results91 (res_tmp rfl rfl) rfl ?_
     obtain rfl := Option.some.inj h
     exact ⟨K37, rfl, f40⟩
    | false =>
     intro h; replace h := cF h
     refine WC.cf rfl ?_
     refine WC.skip ?_
     refine DN.block ?_
     refine DN.seq ?_
     refine WC.rs [(0, 2), (1, 2)] rfl ?_
     refine WO.pn 2 rfl ?_
     refine WO.fin ?_
     have hw23 : IntKind.wrap .i64 (v22 + 1) = v22 + 1 := wr1 hj23 (of_decide_eq_true hc23) hN23
     rw [hw23]
     have hc23 := of_decide_eq_true hc23
     obtain rfl := Option.some.inj h
     refine DN.round fun a ha => ?_
     exact ⟨k, _, Nat.lt_succ_self _, ⟨K37, v22 + 1, rfl, (S31.tr S38).wk rfl, by omega, by omega, hk32⟩, (ha.more (ha.more (ha.more ha.nil rfl) rfl) rfl)⟩
  rintro _ w26 ⟨K27, rfl, S28, rfl⟩
  have h := hK24
  dsimp only [aft] at h
  refine DN.seq ?_
  refine WC.seq ?_
  refine WC.rs [(0, 2)] rfl ?_
  refine WO.pn 1 rfl ?_
  refine WO.fin ?_
  refine DN.seq ?_
  refine WC.ret ?_
  have f41 := hE.stp (S3.tr (S11.tr (S19.tr S28))) rfl rfl
  refine DN.res (l := [.tmp 2]) Try.results91 (res_tmp rfl rfl) rfl ?_
  obtain rfl := Option.some.inj h
  exact ⟨K27, rfl, f41⟩

/- loop.example/g00869/impl.isEdit -/
theorem i_isEdit_ok {w : World} {κ : Col} {a0_0_0 : Option Addr} {u0_0_0 : Nat} {a0_0_1 : Option Addr} {u0_0_1 : Nat} {a0_1 : Option Addr} {u0_1 : Nat} {p0 : Parity} {p1 : Edit} (g0_0_0 : Rd (Rp.int .i64) κ w 0 a0_0_0 u0_0_0 p0.Arena.Owner) (g0_0_1 : Rd (Rp.sl (Rp.int .i64)) κ w 0 a0_0_1 u0_0_1 p0.Arena.Next) (g0_1 : Rd (Rp.int .i64) κ w 0 a0_1 u0_1 p0.Prio) {r : Bool} (h : i_isEdit p0 p1 = some r) : Ret Try.prog 92 [.agg #[.slice a0_0_0 p0.Arena.Owner.length u0_0_0, .slice a0_0_1 p0.Arena.Next.length u0_0_1, .slice a0_1 p0.Prio.length u0_1], .agg #[.int .i64 p1.Kind, .int .i64 p1.V, .int .i64 p1.N]] w (fun v w' => ∃ (κ' : Col), v = .bool r ∧ Ent κ w κ' w') := by
 unfold i_isEdit at h
 refine Ret.enter Try.func92 rfl Try.ntmps92 rfl ?_
 dsimp only [envOf]
 have hE := Ent.refl κ w
 refine WC.seq ?_
 refine WC.rs [(0, 1), (1, 1), (2, 2)] rfl ?_
 refine WO.box (κ := κ) 2 rfl rfl rfl rfl rfl rfl rfl fun b2 w1 K2 S3 f4 => ⟨trivial, ?_⟩
 refine WO.box (κ := K2) 3 rfl rfl rfl rfl rfl rfl rfl fun b3 w5 K6 S7 f8 => ⟨trivial, ?_⟩
 refine WO.pn 1 rfl ?_
 refine WO.fin ?_
 refine DN.seq ?_
 refine WC.seq ?_
 refine WC.seq ?_
 refine WC.rs [(0, 2), (1, 1), (2, 2), (3, 1), (4, 1), (5, 2)] rfl ?_
 refine WO.k2 rfl rfl rfl rfl (rn_fieldAddr Try.runUnderlying34 rfl Try.sizeOf32 rfl rfl) ?_
 have f9 := f4.stp S7 rfl rfl
 refine WO.k1 trivial rfl rfl rfl rfl (rn_la (cs := [.slice a0_0_0 p0.Arena.Owner.length u0_0_0, .slice a0_0_1 p0.Arena.Next.length u0_0_1]) Try.isAgg32 Try.sizeOf32 rfl rfl rfl (haE (f9.lds 0 2 rfl))) ?_
 refine WO.k2 rfl rfl rfl rfl (rn_fieldAddr Try.runUnderlying36 rfl Try.sizeOf2 rfl rfl) ?_
 refine WO.k1 trivial rfl rfl rfl rfl (rn_ld Try.isAgg2 rfl rfl (hvE (f8.ld 1 rfl rfl))) ?_
 obtain ⟨x10, hx10, h⟩ := Option.bind_eq_some_iff.mp h
 have f10 := g0_0_0.stp (S3.tr S7) rfl rfl
 have f11 := g0_0_1.stp (S3.tr S7) rfl rfl
 refine WO.call rfl rfl rfl rfl rfl rfl Try.call163 (i_hasVertex_ok (κ := fun b => mp [] 0 (K6 b)) (p0 := p0.Arena) (Sl.map f10 (mp [] 0) rfl rfl) (Sl.map f11 (mp [] 0) rfl rfl) hx10) ?_
 rintro _ w12 ⟨k13, rfl, e14⟩
 obtain ⟨K15, S16, m17⟩ := Ent.mixed (l := []) (κ := K6) e14 4 rfl
 refine ⟨trivial, ?_⟩
 refine WO.pn 1 rfl ?_
 refine WO.fin ?_
 refine DN.seq ?_
 revert h
 cases ht19 : (!x10) with
 | true =>
  intro h; replace h := cT h
  refine WC.ct rfl ?_
  refine WC.seq ?_
  refine WC.rs [(0, 2)] rfl ?_
  refine WO.pn 1 rfl ?_
  refine WO.fin ?_
  refine DN.seq ?_
  refine WC.ret ?_
  refine DN.retThen ?_
  have f20 := hE.stp (S3.tr (S7.tr S16)) rfl rfl
  refine DN.res (l := [.tmp 4]) Try.results92 (res_tmp rfl rfl) rfl ?_
  obtain rfl := Option.some.inj h
  exact ⟨K15, rfl, f20⟩
 | false =>
  intro h; replace h := cF h
  refine WC.cf rfl ?_
  refine WC.skip ?_
  refine DN.seq ?_
  refine WC.seq ?_
  refine WC.rs [(0, 2), (1, 2), (2, 1), (3, 2), (4, 1), (5, 2), (6, 1), (7, 2)] rfl ?_
  refine WO.k2 rfl rfl rfl rfl (rn_fieldAddr Try.runUnderlying34 rfl Try.sizeOf32 rfl rfl) ?_
  refine WO.k2 rfl rfl rfl rfl (rn_fieldAddr Try.runUnderlying32 rfl Try.sizeOf23 rfl rfl) ?_
  have f21 := f9.stp S16 rfl rfl
  refine WO.k1 trivial rfl rfl rfl rfl (rn_ld Try.isAgg23 rfl rfl (hvE (f21.ld 1 rfl rfl))) ?_
  refine WO.k2 rfl rfl rfl rfl (rn_fieldAddr Try.runUnderlying36 rfl Try.sizeOf2 rfl rfl) ?_
  have f22 := f8.stp S16 rfl rfl
  refine WO.k1 trivial rfl rfl rfl rfl (rn_ld Try.isAgg2 rfl rfl (hvE (f22.ld 1 rfl rfl))) ?_
  obtain ⟨x17, hx17, h⟩ := Option.bind_eq_some_iff.mp h
  refine WO.k2 rfl rfl rfl rfl (rn_index f11 hx17 Try.runUnderlying23 Try.sizeOf22 rfl rfl rfl rfl) ?_
  have f23 := f11.stp S16 rfl rfl
  obtain ⟨ax17, ux17, f24, hl25⟩ := f23.gSl hx17
  refine WO.k1 trivial rfl rfl rfl rfl (rn_ld Try.isAgg22 rfl rfl (hvE hl25)) ?_
  refine WO.pn 1 rfl ?_
  refine WO.fin ?_
  refine DN.seq ?_
  refine WC.seq ?_
  refine WC.seq ?_
  refine WC.rs [(0, 2), (1, 1)] rfl ?_
  refine WO.k2 rfl rfl rfl rfl (rn_fieldAddr Try.runUnderlying36 rfl Try.sizeOf2 rfl rfl) ?_
  refine WO.k1 trivial rfl rfl rfl rfl (rn_ld Try.isAgg2 rfl rfl (hvE (f22.ld 0 rfl rfl))) ?_
  refine WO.fin ?_
  refine DN.seq ?_
  refine WC.block ?_
  refine WC.seq ?_
  refine WC.rs [(0, 2), (1, 2)] rfl ?_
  refine WO.pn 2 rfl ?_
  refine WO.fin ?_
  refine DN.seq ?_
  revert h
  cases ht26 : (p1.Kind == 1) with
  | true =>
   intro h; replace h := cT h
   refine WC.ct rfl ?_
   refine WC.seq ?_
   refine WC.rs [(0, 2), (1, 1), (2, 2), (3, 2), (4, 2), (5, 1), (6, 2), (7, 2), (8, 2)] rfl ?_
   refine WO.k2 rfl rfl rfl rfl (rn_fieldAddr Try.runUnderlying36 rfl Try.sizeOf2 rfl rfl) ?_
   refine WO.k1 trivial rfl rfl rfl rfl (rn_ld Try.isAgg2 rfl rfl (hvE (f22.ld 2 rfl rfl))) ?_
   refine WO.pn 2 rfl ?_
   obtain ⟨p30, h, hK27⟩ := Option.bind_eq_some_iff.mp h
   refine WO.meet [(4, 2), (5, 1), (6, 2), (7, 2)] [(8, 2)] (fun L w' => L = [(4, .bool false), (30, .bool p30)] ∧ ∃ κ', Stp [] K15 w12 κ' w') trivial ?_ ?_
   ·
    revert h
    cases ht28 : decide (0 ≤ p1.N) with
    | true =>
     intro h; replace h := cT h
     refine WO.k2 rfl rfl rfl rfl (rn_fieldAddr Try.runUnderlying36 rfl Try.sizeOf2 rfl rfl) ?_
     refine WO.k1 trivial rfl rfl rfl rfl (rn_ld Try.isAgg2 rfl rfl (hvE (f22.ld 2 rfl rfl))) ?_
     refine WO.pn 2 rfl ?_
     obtain rfl := Option.some.inj h
     exact WO.met _ trivial ⟨rfl, _, (Stp.refl _ _).wk rfl⟩ fun a ha => (ha.more (ha.more ha.nil rfl) rfl)
    | false =>
     intro h; replace h := cF h
     refine WO.pn 1 rfl ?_
     refine WO.ls rfl rfl rfl rfl ?_
     refine WO.pn 2 rfl ?_
     obtain rfl := Option.some.inj h
     exact WO.met _ trivial ⟨rfl, _, (Stp.refl _ _).wk rfl⟩ fun a ha => (ha.more (ha.more ha.nil rfl) rfl)
   rintro _ w29 _ ⟨rfl, K30, S31⟩
   have h := hK27
   refine WO.pn 1 rfl ?_
   refine WO.fin ?_
   refine DN.seq ?_
   refine WC.ret ?_
   refine DN.retBlock ?_
   refine DN.retThen ?_
   have f32 := hE.stp (S3.tr (S7.tr (S16.tr S31))) rfl rfl
   refine DN.res (l := [.tmp 4]) Try.results92 (res_tmp rfl rfl) rfl ?_
   obtain rfl := Option.some.inj h
   exact ⟨K30, rfl, f32⟩
  | false =>
   intro h; replace h := cF h
   refine WC.cf rfl ?_
   refine WC.seq ?_
   refine WC.rs [(0, 2), (1, 2)] rfl ?_
   refine WO.pn 2 rfl ?_
   refine WO.fin ?_
   refine DN.seq ?_
   revert h
   cases ht33 : (p1.Kind == 2) with
   | true =>
    intro h; replace h := cT h
    refine WC.ct rfl ?_
    refine WC.seq ?_
    refine WC.rs [(0, 2), (1, 1), (2, 1), (3, 2)] rfl ?_
    refine WO.k2 rfl rfl rfl rfl (rn_fieldAddr Try.runUnderlying36 rfl Try.sizeOf2 rfl rfl) ?_
    refine WO.k1 trivial rfl rfl rfl rfl (rn_ld Try.isAgg2 rfl rfl (hvE (f22.ld 2 rfl rfl))) ?_
    obtain ⟨x35, hx35, h⟩ := Option.bind_eq_some_iff.mp h
    refine WO.call rfl rfl rfl rfl rfl rfl Try.call164 (i_isPlayer_ok (κ := fun b => mp [] 0 (K15 b)) hx35) ?_
    rintro _ w34 ⟨k35, rfl, e36⟩
    obtain ⟨K37, S38, m39⟩ := Ent.mixed (l := []) (κ := K15) e36 6 rfl
    refine ⟨trivial, ?_⟩
    refine WO.pn 1 rfl ?_
    refine WO.fin ?_
    refine DN.seq ?_
    refine WC.ret ?_
    refine DN.retBlock ?_
    refine DN.retThen ?_
    have f41 := hE.stp (S3.tr (S7.tr (S16.tr S38))) rfl rfl
    refine DN.res (l := [.tmp 4]) Try.results92 (res_tmp rfl rfl) rfl ?_
    obtain rfl := Option.some.inj h
    exact ⟨K37, rfl, f41⟩
   | false =>
    intro h; replace h := cF h
    refine WC.cf rfl ?_
    refine WC.seq ?_
    refine WC.rs [(0, 2), (1, 2)] rfl ?_
    refine WO.pn 2 rfl ?_
    refine WO.fin ?_
    refine DN.seq ?_
    revert h
    cases ht42 : (p1.Kind == 3) with
    | true =>
     intro h; replace h := cT h
     refine WC.ct rfl ?_
     refine WC.seq ?_
     refine WC.rs [(0, 2), (1, 1), (2, 2), (3, 1), (4, 1), (5, 2), (6, 2), (7, 2), (8, 1), (9, 1), (10, 2), (11, 2), (12, 2), (13, 2), (14, 2), (15, 2), (16, 2), (17, 2)] rfl ?_
     refine WO.k2 rfl rfl rfl rfl (rn_fieldAddr Try.runUnderlying34 rfl Try.sizeOf32 rfl rfl) ?_
     refine WO.k1 trivial rfl rfl rfl rfl (rn_la (cs := [.slice a0_0_0 p0.Arena.Owner.length u0_0_0, .slice a0_0_1 p0.Arena.Next.length u0_0_1]) Try.isAgg32 Try.sizeOf32 rfl rfl rfl (haE (f21.lds 0 2 rfl))) ?_
     refine WO.k2 rfl rfl rfl rfl (rn_fieldAddr Try.runUnderlying36 rfl Try.sizeOf2 rfl rfl) ?_
     refine WO.k1 trivial rfl rfl rfl rfl (rn_ld Try.isAgg2 rfl rfl (hvE (f22.ld 2 rfl rfl))) ?_
     obtain ⟨x42, hx42, h⟩ := Option.bind_eq_some_iff.mp h
     have f43 := f10.stp S16 rfl rfl
     refine WO.call rfl rfl rfl rfl rfl rfl Try.call163 (i_hasVertex_ok (κ := fun b => mp [] 0 (K15 b)) (p0 := p0.Arena) (Sl.map f43 (mp [] 0) rfl rfl) (Sl.map f23 (mp [] 0) rfl rfl) hx42) ?_
     rintro _ w44 ⟨k45, rfl, e46⟩
     obtain ⟨K47, S48, m49⟩ := Ent.mixed (l := []) (κ := K15) e46 6 rfl
     refine ⟨trivial, ?_⟩
     refine WO.pn 1 rfl ?_
     obtain ⟨p49, h, hK51⟩ := Option.bind_eq_some_iff.mp h
     refine WO.meet [(6, 2), (7, 2), (8, 1), (9, 1), (10, 2), (11, 2)] [(12, 2), (13, 2), (14, 2), (15, 2), (16, 2), (17, 2)] (fun L w' => L = [(4, .bool false), (5, .slice ax17 x17.length ux17), (49, .bool p49)] ∧ ∃ κ', Stp [] K47 w44 κ' w') trivial ?_ ?_
     ·
      revert h
      cases ht52 : x42 with
      | true =>
       intro h; replace h := cT h
       refine WO.pn 1 rfl ?_
       refine WO.k2 rfl rfl rfl rfl (rn_fieldAddr Try.runUnderlying36 rfl Try.sizeOf2 rfl rfl) ?_
       have f53 := f22.stp S48 rfl rfl
       refine WO.k1 trivial rfl rfl rfl rfl (rn_ld Try.isAgg2 rfl rfl (hvE (f53.ld 2 rfl rfl))) ?_
       obtain ⟨x47, hx47, h⟩ := Option.bind_eq_some_iff.mp h
       have f54 := f24.stp S48 rfl rfl
       refine WO.call rfl rfl rfl rfl rfl rfl Try.call165 (slices_Contains_I_int64_ok (κ := fun b => mp [] 0 (K47 b)) (Sl.map f54 (mp [] 0) rfl rfl) hx47) ?_
       rintro _ w55 ⟨k56, rfl, e57⟩
       obtain ⟨K58, S59, m60⟩ := Ent.mixed (l := []) (κ := K47) e57 8 rfl
       refine ⟨trivial, ?_⟩
       refine WO.pn 2 rfl ?_
       obtain rfl := Option.some.inj h
       exact WO.met _ trivial ⟨rfl, _, S59.wk rfl⟩ fun a ha => (ha.more (ha.more (ha.more ha.nil rfl) rfl) rfl)
      | false =>
       intro h; replace h := cF h
       refine WO.pn 2 rfl ?_
       refine WO.ls rfl rfl rfl rfl ?_
       refine WO.ls rfl rfl rfl rfl ?_
       refine WO.pn 2 rfl ?_
       obtain rfl := Option.some.inj h
       exact WO.met _ trivial ⟨rfl, _, (Stp.refl _ _).wk rfl⟩ fun a ha => (ha.more (ha.more (ha.more ha.nil rfl) rfl) rfl)
     rintro _ w62 _ ⟨rfl, K63, S64⟩
     have h := hK51
     refine WO.pn 1 rfl ?_
     obtain ⟨p54, h, hK65⟩ := Option.bind_eq_some_iff.mp h
     refine WO.meet [(13, 2), (14, 2), (15, 2), (16, 2)] [(17, 2)] (fun L w' => L = [(4, .bool false), (54, .bool p54)] ∧ ∃ κ', Stp [] K63 w62 κ' w') trivial ?_ ?_
     ·
      revert h
      cases ht66 : p49 with
      | true =>
       intro h; replace h := cT h
       refine WO.pn 1 rfl ?_
       refine WO.k2 rfl rfl rfl rfl (rn_len Try.runUnderlying22 rfl rfl) ?_
       refine WO.pn 2 rfl ?_
       obtain rfl := Option.some.inj h
       exact WO.met _ trivial ⟨rfl, _, (Stp.refl _ _).wk rfl⟩ fun a ha => (ha.more (ha.more ha.nil rfl) rfl)
      | false =>
       intro h; replace h := cF h
       refine WO.pn 4 rfl ?_
       obtain rfl := Option.some.inj h
       exact WO.met _ trivial ⟨rfl, _, (Stp.refl _ _).wk rfl⟩ fun a ha => (ha.more (ha.more ha.nil rfl) rfl)
     rintro _ w67 _ ⟨rfl, K68, S69⟩
     have h := hK65
     refine WO.pn 1 rfl ?_
     refine WO.fin ?_
     refine DN.seq ?_
     refine WC.ret ?_
     refine DN.retBlock ?_
     refine DN.retThen ?_
     have f70 := hE.stp (S3.tr (S7.tr (S16.tr (S48.tr (S64.tr S69))))) rfl rfl
     refine DN.res (l := [.tmp 4]) Try.results92 (res_tmp rfl rfl) rfl ?_
     obtain rfl := Option.some.inj h
     exact ⟨K68, rfl, f70⟩
    | false =>
     intro h; replace h := cF h
     refine WC.cf rfl ?_
     refine WC.seq ?_
     refine WC.rs [(0, 2), (1, 2)] rfl ?_
     refine WO.pn 2 rfl ?_
     refine WO.fin ?_
     refine DN.seq ?_
     revert h
     cases ht71 : (p1.Kind == 4) with
     | true =>
      intro h; replace h := cT h
      refine WC.ct rfl ?_
      refine WC.seq ?_
      refine WC.rs [(0, 2), (1, 2), (2, 1), (3, 1), (4, 2), (5, 2), (6, 2), (7, 2), (8, 2), (9, 2)] rfl ?_
      refine WO.pn 1 rfl ?_
      refine WO.k2 rfl rfl rfl rfl (rn_fieldAddr Try.runUnderlying36 rfl Try.sizeOf2 rfl rfl) ?_
      refine WO.k1 trivial rfl rfl rfl rfl (rn_ld Try.isAgg2 rfl rfl (hvE (f22.ld 2 rfl rfl))) ?_
      obtain ⟨x60, hx60, h⟩ := Option.bind_eq_some_iff.mp h
      refine WO.call rfl rfl rfl rfl rfl rfl Try.call165 (slices_Contains_I_int64_ok (κ := fun b => mp [] 0 (K15 b)) (Sl.map f24 (mp [] 0) rfl rfl) hx60) ?_
      rintro _ w72 ⟨k73, rfl, e74⟩
      obtain ⟨K75, S76, m77⟩ := Ent.mixed (l := []) (κ := K15) e74 6 rfl
      refine ⟨trivial, ?_⟩
      refine WO.pn 1 rfl ?_
      obtain ⟨p65, h, hK79⟩ := Option.bind_eq_some_iff.mp h
      refine WO.meet [(5, 2), (6, 2), (7, 2), (8, 2)] [(9, 2)] (fun L w' => L = [(4, .bool false), (65, .bool p65)] ∧ ∃ κ', Stp [] K75 w72 κ' w') trivial ?_ ?_
      ·
       revert h
       cases ht80 : x60 with
       | true =>
        intro h; replace h := cT h
        refine WO.pn 1 rfl ?_
        refine WO.k2 rfl rfl rfl rfl (rn_len Try.runUnderlying22 rfl rfl) ?_
        refine WO.pn 2 rfl ?_
        obtain rfl := Option.some.inj h
        exact WO.met _ trivial ⟨rfl, _, (Stp.refl _ _).wk rfl⟩ fun a ha => (ha.more (ha.more ha.nil rfl) rfl)
       | false =>
        intro h; replace h := cF h
        refine WO.pn 4 rfl ?_
        obtain rfl := Option.some.inj h
        exact WO.met _ trivial ⟨rfl, _, (Stp.refl _ _).wk rfl⟩ fun a ha => (ha.more (ha.more ha.nil rfl) rfl)
      rintro _ w81 _ ⟨rfl, K82, S83⟩
      have h := hK79
      refine WO.pn 1 rfl ?_
      refine WO.fin ?_
      refine DN.seq ?_
      refine WC.ret ?_
      refine DN.retBlock ?_
      refine DN.retThen ?_
      have f84 := hE.stp (S3.tr (S7.tr (S16.tr (S76.tr S83)))) rfl rfl
      refine DN.res (l := [.tmp 4]) Try.results92 (res_tmp rfl rfl) rfl ?_
      obtain rfl := Option.some.inj h
      exact ⟨K82, rfl, f84⟩
     | false =>
      intro h; replace h := cF h
      refine WC.cf rfl ?_
      refine WC.skip ?_
      refine DN.block ?_
      refine DN.seq ?_
      refine WC.seq ?_
      refine WC.rs [(0, 2)] rfl ?_
      refine WO.pn 1 rfl ?_
      refine WO.fin ?_
      refine DN.seq ?_
      refine WC.ret ?_
      have f85 := hE.stp (S3.tr (S7.tr S16)) rfl rfl
      refine DN.res (l := [.tmp 4]) Try.results92 (res_tmp rfl rfl) rfl ?_
      obtain rfl := Option.some.inj h
      exact ⟨K15, rfl, f85⟩

/- loop.example/g00869/impl.TouchedBy -/
theorem i_TouchedBy_ok {w : World} {κ : Col} {a0_0_0 : Option Addr} {u0_0_0 : Nat} {a0_0_1 : Option Addr} {u0_0_1 : Nat} {a0_1 : Option Addr} {u0_1 : Nat} {p0 : Parity} {p1 : Edit} (g0_0_0 : Rd (Rp.int .i64) κ w 0 a0_0_0 u0_0_0 p0.Arena.Owner) (g0_0_1 : Rd (Rp.sl (Rp.int .i64)) κ w 0 a0_0_1 u0_0_1 p0.Arena.Next) (g0_1 : Rd (Rp.int .i64) κ w 0 a0_1 u0_1 p0.Prio) {r : (List Int)} (h : i_TouchedBy p0 p1 = some r) : Ret Try.prog 17 [.agg #[.slice a0_0_0 p0.Arena.Owner.length u0_0_0, .slice a0_0_1 p0.Arena.Next.length u0_0_1, .slice a0_1 p0.Prio.length u0_1], .agg #[.int .i64 p1.Kind, .int .i64 p1.V, .int .i64 p1.N]] w (fun v w' => ∃ (κ' : Col) (ra0 : Option Addr) (ru0 : Nat), v = .slice ra0 r.length ru0 ∧ Ent κ w κ' w' ∧ Oc (Ep.int .i64) 2 κ' w' 2 ra0 ru0 r) := by
 unfold i_TouchedBy at h
 refine Ret.enter Try.func17 rfl Try.ntmps17 rfl ?_
 dsimp only [envOf]
 have hE := Ent.refl κ w
 refine WC.seq ?_
 refine WC.rs [(0, 1), (1, 1), (2, 2)] rfl ?_
 refine WO.box (κ := κ) 2 rfl rfl rfl rfl rfl rfl rfl fun b2 w1 K2 S3 f4 => ⟨trivial, ?_⟩
 refine WO.box (κ := K2) 3 rfl rfl rfl rfl rfl rfl rfl fun b3 w5 K6 S7 f8 => ⟨trivial, ?_⟩
 refine WO.pn 1 rfl ?_
 refine WO.fin ?_
 refine DN.seq ?_
 refine WC.seq ?_
 refine WC.seq ?_
 refine WC.rs [(0, 1), (1, 1), (2, 2), (3, 2), (4, 1), (5, 1), (6, 1), (7, 2), (8, 2)] rfl ?_
 have f9 := f4.stp S7 rfl rfl
 refine WO.k1 trivial rfl rfl rfl rfl (rn_la (cs := [.slice a0_0_0 p0.Arena.Owner.length u0_0_0, .slice a0_0_1 p0.Arena.Next.length u0_0_1, .slice a0_1 p0.Prio.length u0_1]) Try.isAgg34 Try.sizeOf34 rfl rfl rfl (haE f9.cells)) ?_
 obtain ⟨x6, hx6, h⟩ := Option.bind_eq_some_iff.mp h
 have f10 := g0_0_0.stp (S3.tr S7) rfl rfl
 have f11 := g0_0_1.stp (S3.tr S7) rfl rfl
 have f12 := g0_1.stp (S3.tr S7) rfl rfl
 refine WO.call rfl rfl rfl rfl rfl rfl Try.call91 (i_ParityOk_ok (κ := fun b => mp [] 0 (K6 b)) (p0 := p0) (Sl.map f10 (mp [] 0) rfl rfl) (Sl.map f11 (mp [] 0) rfl rfl) (Sl.map f12 (mp [] 0) rfl rfl) hx6) ?_
 rintro _ w13 ⟨k14, rfl, e15⟩
 obtain ⟨K16, S17, m18⟩ := Ent.mixed (l := []) (κ := K6) e15 4 rfl
 refine ⟨trivial, ?_⟩
 refine WO.pn 2 rfl ?_
 obtain ⟨p13, h, hK20⟩ := Option.bind_eq_some_iff.mp h
 refine WO.meet [(4, 1), (5, 1), (6, 1), (7, 2), (8, 2)] [] (fun L w' => L = [(2, .pointer (some ⟨b2, 0, none⟩)), (3, .pointer (some ⟨b3, 0, none⟩)), (13, .bool p13)] ∧ ∃ κ', Stp [] K16 w13 κ' w') trivial ?_ ?_
 ·
  revert h
  cases ht21 : (!x6) with
  | true =>
   intro h; replace h := cT h
   refine WO.ls rfl rfl rfl rfl ?_
   refine WO.ls rfl rfl rfl rfl ?_
   refine WO.ls rfl rfl rfl rfl ?_
   refine WO.pn 2 rfl ?_
   obtain rfl := Option.some.inj h
   exact WO.met _ trivial ⟨rfl, _, (Stp.refl _ _).wk rfl⟩ fun a ha => (ha.more (ha.more (ha.more ha.nil rfl) rfl) rfl)
  | false =>
   intro h; replace h := cF h
   have f22 := f9.stp S17 rfl rfl
   refine WO.k1 trivial rfl rfl rfl rfl (rn_la (cs := [.slice a0_0_0 p0.Arena.Owner.length u0_0_0, .slice a0_0_1 p0.Arena.Next.length u0_0_1, .slice a0_1 p0.Prio.length u0_1]) Try.isAgg34 Try.sizeOf34 rfl rfl rfl (haE f22.cells)) ?_
   have f23 := f8.stp S17 rfl rfl
   refine WO.k1 trivial rfl rfl rfl rfl (rn_la (cs := [.int .i64 p1.Kind, .int .i64 p1.V, .int .i64 p1.N]) Try.isAgg36 Try.sizeOf36 rfl rfl rfl (haE f23.cells)) ?_
   obtain ⟨x11, hx11, h⟩ := Option.bind_eq_some_iff.mp h
   have f24 := f10.stp S17 rfl rfl
   have f25 := f11.stp S17 rfl rfl
   have f26 := f12.stp S17 rfl rfl
   refine WO.call rfl rfl rfl rfl rfl rfl Try.call92 (i_isEdit_ok (κ := fun b => mp [] 0 (K16 b)) (p0 := p0) (p1 := p1) (Sl.map f24 (mp [] 0) rfl rfl) (Sl.map f25 (mp [] 0) rfl rfl) (Sl.map f26 (mp [] 0) rfl rfl) hx11) ?_
   rintro _ w27 ⟨k28, rfl, e29⟩
   obtain ⟨K30, S31, m32⟩ := Ent.mixed (l := []) (κ := K16) e29 6 rfl
   refine ⟨trivial, ?_⟩
   refine WO.pn 2 rfl ?_
   obtain rfl := Option.some.inj h
   exact WO.met _ trivial ⟨rfl, _, S31.wk rfl⟩ fun a ha => (ha.more (ha.more (ha.more ha.nil rfl) rfl) rfl)
 rintro _ w34 _ ⟨rfl, K35, S36⟩
 have h := hK20
 refine WO.fin ?_
 refine DN.seq ?_
 revert h
 cases ht37 : p13 with
 | true =>
  intro h; replace h := cT h
  refine WC.ct rfl ?_
  refine WC.seq ?_
  refine WC.rs [(0, 2)] rfl ?_
  refine WO.pn 1 rfl ?_
  refine WO.fin ?_
  refine DN.seq ?_
  refine WC.ret ?_
  refine DN.retThen ?_
  have f38 := hE.stp (S3.tr (S7.tr (S17.tr S36))) rfl rfl
  refine DN.res (l := [.tmp 4]) Try.results17 (res_tmp rfl rfl) rfl ?_
  obtain rfl := Option.some.inj h
  exact ⟨K35, none, 0, rfl, f38, Ow.nil⟩
 | false =>
  intro h; replace h := cF h
  refine WC.cf rfl ?_
  refine WC.skip ?_
  refine DN.seq ?_
  refine WC.seq ?_
  refine WC.rx (κ := K35) 5 none [(0, 2), (2, 2), (4, 2), (1, 0), (3, 0), (5, 0), (6, 1), (7, 1), (8, 1), (9, 1), (10, 2)] [] (by kernel_rfl) (by kernel_rfl) fun w40 S39 => ?_
  refine WO.k2 rfl rfl rfl rfl (rn_fieldAddr Try.runUnderlying34 rfl Try.sizeOf32 rfl rfl) ?_
  refine WO.k2 rfl rfl rfl rfl (rn_fieldAddr Try.runUnderlying34 rfl Try.sizeOf32 rfl rfl) ?_
  refine WO.k2 rfl rfl rfl rfl (rn_fieldAddr Try.runUnderlying36 rfl Try.sizeOf2 rfl rfl) ?_
  have f41 := f9.stp (S17.tr (S36.tr S39)) rfl rfl
  refine WO.k0 rfl rfl rfl rfl (rn_la (cs := [.slice a0_0_0 p0.Arena.Owner.length u0_0_0, .slice a0_0_1 p0.Arena.Next.length u0_0_1]) Try.isAgg32 Try.sizeOf32 rfl rfl rfl (haC (f41.lds 0 2 rfl) rfl)) ?_
  refine WO.k0 rfl rfl rfl rfl (rn_la (cs := [.slice a0_0_0 p0.Arena.Owner.length u0_0_0, .slice a0_0_1 p0.Arena.Next.length u0_0_1]) Try.isAgg32 Try.sizeOf32 rfl rfl rfl (haC (f41.lds 0 2 rfl) rfl)) ?_
  have f42 := f8.stp (S17.tr (S36.tr S39)) rfl rfl
  refine WO.k0 rfl rfl rfl rfl (rn_ld Try.isAgg2 rfl rfl (hvC (f42.ld 1 rfl rfl) rfl)) ?_
  refine WO.bl (κ := K35) (E := (Ep.int .i64)) 6 [] (parts := [(0, .tmp 19)]) (cells := [.int .i64 p1.V]) (xs := ([p1.V] : List Int)) rfl rfl rfl rfl rfl rfl Try.underlying22 Tryinfo2 rfl rfl rfl rfl rfl rfl rfl rfl rfl rfl ⟨[.int .i64 p1.V], [], Zl K35 w40 [], Zl K35 w40 [], rfl, Zl.sp (l1 := []) (l2 := []) rfl, Zl.sr (l1 := []) (l2 := []), rfl, rfl⟩ fun a20 u20 w43 K44 S45 f46 => ⟨(S45.cl rfl), ?_⟩
  obtain ⟨x21, hx21, h⟩ := Option.bind_eq_some_iff.mp h
  have f47 := f10.stp (S17.tr (S36.tr (S39.tr S45))) rfl rfl
  have f48 := f11.stp (S17.tr (S36.tr (S39.tr S45))) rfl rfl
  refine WO.call rfl rfl rfl rfl rfl rfl Try.call95 (i_markOf_ok (κ := fun b => mp [] 0 (K44 b)) (p0 := p0.Arena) (Sl.map f47 (mp [] 0) rfl rfl) (Sl.map f48 (mp [] 0) rfl rfl) (Sl.map f46.rdc (mp [] 0) rfl rfl) hx21) ?_
  rintro _ w49 ⟨k50, a21_0, u21_0, rfl, e51, f52⟩
  obtain ⟨K53, S54, m55⟩ := Ent.mixed (l := []) (κ := K44) e51 7 rfl
  refine ⟨((S45.tr S54).cl rfl), ?_⟩
  have f57 := f52.mx no_bool m55 rfl (rfl : 7 + 2 = 9)
  obtain ⟨x22, hx22, h⟩ := Option.bind_eq_some_iff.mp h
  have f58 := f47.stp S54 rfl rfl
  have f59 := f48.stp S54 rfl rfl
  refine WO.call rfl rfl rfl rfl rfl rfl Try.call94 (i_leadTo_ok (κ := fun b => mp [] 0 (K53 b)) (p0 := p0.Arena) (Sl.map f58 (mp [] 0) rfl rfl) (Sl.map f59 (mp [] 0) rfl rfl) (Sl.map f57.rdc (mp [] 0) rfl rfl) hx22) ?_
  rintro _ w60 ⟨k61, a22_0, u22_0, rfl, e62, f63⟩
  obtain ⟨K64, S65, m66⟩ := Ent.mixed (l := []) (κ := K53) e62 10 rfl
  refine ⟨((S45.tr (S54.tr S65)).cl rfl), ?_⟩
  have f68 := f63.mx no_bool m66 rfl (rfl : 10 + 2 = 12)
  obtain ⟨x23, hx23, h⟩ := Option.bind_eq_some_iff.mp h
  refine WO.call rfl rfl rfl rfl rfl rfl Try.call93 (i_listOf_ok (κ := fun b => mp [] 0 (K64 b)) (Sl.map f68.rdc (mp [] 0) rfl rfl) hx23) ?_
  rintro _ w69 ⟨k70, a23_0, u23_0, rfl, e71, f72⟩
  obtain ⟨K73, S74, m75⟩ := Ent.mixed (l := []) (κ := K64) e71 13 rfl
  refine ⟨((S45.tr (S54.tr (S65.tr S74))).cl rfl), ?_⟩
  have f77 := f72.mx (no_int _) m75 rfl (rfl : 13 + 2 = 15)
  refine WO.pn 1 rfl ?_
  refine WO.nx ?_
  refine WO.fin ?_
  refine DN.seq ?_
  refine WC.ret ?_
  have f78 := hE.stp (S3.tr (S7.tr (S17.tr (S36.tr (S39.tr (S45.tr (S54.tr (S65.tr S74)))))))) rfl rfl
  refine DN.res (l := [.tmp 4]) Try.results17 (res_tmp rfl rfl) rfl ?_
  obtain rfl := Option.some.inj h
  exact ⟨(fun b => ren [(15, 2)] (K73 b)), a23_0, u23_0, rfl, (f78.map (ren [(15, 2)]) rfl rfl), (f77.map (ren [(15, 2)]) rfl rfl)⟩

/- loop.example/g00869/laws.eqArena -/
theorem l_eqArena_ok {w : World} {κ : Col} {a0_0 : Option Addr} {u0_0 : Nat} {a0_1 : Option Addr} {u0_1 : Nat} {p0 : Arena} {a1_0 : Option Addr} {u1_0 : Nat} {a1_1 : Option Addr} {u1_1 : Nat} {p1 : Arena} (g0_0 : Rd (Rp.int .i64) κ w 0 a0_0 u0_0 p0.Owner) (g0_1 : Rd (Rp.sl (Rp.int .i64)) κ w 0 a0_1 u0_1 p0.Next) (g1_0 : Rd (Rp.int .i64) κ w 0 a1_0 u1_0 p1.Owner) (g1_1 : Rd (Rp.sl (Rp.int .i64)) κ w 0 a1_1 u1_1 p1.Next) {r : Bool} (h : l_eqArena p0 p1 = some r) : Ret Try.prog 96 [.agg #[.slice a0_0 p0.Owner.length u0_0, .slice a0_1 p0.Next.length u0_1], .agg #[.slice a1_0 p1.Owner.length u1_0, .slice a1_1 p1.Next.length u1_1]] w (fun v w' => ∃ (κ' : Col), v = .bool r ∧ Ent κ w κ' w') := by
 unfold l_eqArena at h
 refine Ret.enter Try.func96 rfl Try.ntmps96 rfl ?_
 dsimp only [envOf]
 have hE := Ent.refl κ w
 refine WC.seq ?_
 refine WC.rs [(0, 1), (1, 1), (2, 2)] rfl ?_
 refine WO.box (κ := κ) 2 rfl rfl rfl rfl rfl rfl rfl fun b2 w1 K2 S3 f4 => ⟨trivial, ?_⟩
 refine WO.box (κ := K2) 3 rfl rfl rfl rfl rfl rfl rfl fun b3 w5 K6 S7 f8 => ⟨trivial, ?_⟩
 refine WO.pn 1 rfl ?_
 refine WO.fin ?_
 refine DN.seq ?_
 refine WC.seq ?_
 refine WC.seq ?_
 refine WC.rs [(0, 2), (1, 1), (2, 2), (3, 1), (4, 1), (5, 2)] rfl ?_
 refine WO.k2 rfl rfl rfl rfl (rn_fieldAddr Try.runUnderlying32 rfl Try.sizeOf22 rfl rfl) ?_
 have f9 := f4.stp S7 rfl rfl
 refine WO.k1 trivial rfl rfl rfl rfl (rn_ld Try.isAgg22 rfl rfl (hvE (f9.ld 0 rfl rfl))) ?_
 refine WO.k2 rfl rfl rfl rfl (rn_fieldAddr Try.runUnderlying32 rfl Try.sizeOf22 rfl rfl) ?_
 refine WO.k1 trivial rfl rfl rfl rfl (rn_ld Try.isAgg22 rfl rfl (hvE (f8.ld 0 rfl rfl))) ?_
 obtain ⟨x9, hx9, h⟩ := Option.bind_eq_some_iff.mp h
 have f10 := g0_0.stp (S3.tr S7) rfl rfl
 have f11 := g1_0.stp (S3.tr S7) rfl rfl
 refine WO.call rfl rfl rfl rfl rfl rfl Try.call18 (l_eqInt64S_ok (κ := fun b => mp [] 0 (K6 b)) (Sl.map f10 (mp [] 0) rfl rfl) (Sl.map f11 (mp [] 0) rfl rfl) hx9) ?_
 rintro _ w12 ⟨k13, rfl, e14⟩
 obtain ⟨K15, S16, m17⟩ := Ent.mixed (l := []) (κ := K6) e14 4 rfl
 refine ⟨trivial, ?_⟩
 refine WO.pn 1 rfl ?_
 refine WO.fin ?_
 refine DN.seq ?_
 revert h
 cases ht19 : (!x9) with
 | true =>
  intro h; replace h := cT h
  refine WC.ct rfl ?_
  refine WC.seq ?_
  refine WC.rs [(0, 2)] rfl ?_
  refine WO.pn 1 rfl ?_
  refine WO.fin ?_
  refine DN.seq ?_
  refine WC.ret ?_
  refine DN.retThen ?_
  have f20 := hE.stp (S3.tr (S7.tr S16)) rfl rfl
  refine DN.res (l := [.tmp 4]) Try.results96 (res_tmp rfl rfl) rfl ?_
  obtain rfl := Option.some.inj h
  exact ⟨K15, rfl, f20⟩
 | false =>
  intro h; replace h := cF h
  refine WC.cf rfl ?_
  refine WC.skip ?_
  refine DN.seq ?_
  refine WC.seq ?_
  refine WC.seq ?_
  refine WC.rs [(0, 2), (1, 1), (2, 2), (3, 1), (4, 1), (5, 2)] rfl ?_
  refine WO.k2 rfl rfl rfl rfl (rn_fieldAddr Try.runUnderlying32 rfl Try.sizeOf23 rfl rfl) ?_
  have f21 := f9.stp S16 rfl rfl
  refine WO.k1 trivial rfl rfl rfl rfl (rn_ld Try.isAgg23 rfl rfl (hvE (f21.ld 1 rfl rfl))) ?_
  refine WO.k2 rfl rfl rfl rfl (rn_fieldAddr Try.runUnderlying32 rfl Try.sizeOf23 rfl rfl) ?_
  have f22 := f8.stp S16 rfl rfl
  refine WO.k1 trivial rfl rfl rfl rfl (rn_ld Try.isAgg23 rfl rfl (hvE (f22.ld 1 rfl rfl))) ?_
  obtain ⟨x15, hx15, h⟩ := Option.bind_eq_some_iff.mp h
  have f23 := g0_1.stp (S3.tr (S7.tr S16)) rfl rfl
  have f24 := g1_1.stp (S3.tr (S7.tr S16)) rfl rfl
  refine WO.call rfl rfl rfl rfl rfl rfl Try.call44 (l_eqInt64SS_ok (κ := fun b => mp [] 0 (K15 b)) (Sl.map f23 (mp [] 0) rfl rfl) (Sl.map f24 (mp [] 0) rfl rfl) hx15) ?_
  rintro _ w25 ⟨k26, rfl, e27⟩
  obtain ⟨K28, S29, m30⟩ := Ent.mixed (l := []) (κ := K15) e27 6 rfl
  refine ⟨trivial, ?_⟩
  refine WO.pn 1 rfl ?_
  refine WO.fin ?_
  refine DN.seq ?_
  revert h
  cases ht32 : (!x15) with
  | true =>
   intro h; replace h := cT h
   refine WC.ct rfl ?_
   refine WC.seq ?_
   refine WC.rs [(0, 2)] rfl ?_
   refine WO.pn 1 rfl ?_
   refine WO.fin ?_
   refine DN.seq ?_
   refine WC.ret ?_
   refine DN.retThen ?_
   have f33 := hE.stp (S3.tr (S7.tr (S16.tr S29))) rfl rfl
   refine DN.res (l := [.tmp 4]) Try.results96 (res_tmp rfl rfl) rfl ?_
   obtain rfl := Option.some.inj h
   exact ⟨K28, rfl, f33⟩
  | false =>
   intro h; replace h := cF h
   refine WC.cf rfl ?_
   refine WC.skip ?_
   refine DN.seq ?_
   refine WC.seq ?_
   refine WC.rs [(0, 2)] rfl ?_
   refine WO.pn 1 rfl ?_
   refine WO.fin ?_
   refine DN.seq ?_
   refine WC.ret ?_
   have f34 := hE.stp (S3.tr (S7.tr (S16.tr S29))) rfl rfl
   refine DN.res (l := [.tmp 4]) Try.results96 (res_tmp rfl rfl) rfl ?_
   obtain rfl := Option.some.inj h
   exact ⟨K28, rfl, f34⟩

/- loop.example/g00869/laws.eqParity -/
theorem l_eqParity_ok {w : World} {κ : Col} {a0_0_0 : Option Addr} {u0_0_0 : Nat} {a0_0_1 : Option Addr} {u0_0_1 : Nat} {a0_1 : Option Addr} {u0_1 : Nat} {p0 : Parity} {a1_0_0 : Option Addr} {u1_0_0 : Nat} {a1_0_1 : Option Addr} {u1_0_1 : Nat} {a1_1 : Option Addr} {u1_1 : Nat} {p1 : Parity} (g0_0_0 : Rd (Rp.int .i64) κ w 0 a0_0_0 u0_0_0 p0.Arena.Owner) (g0_0_1 : Rd (Rp.sl (Rp.int .i64)) κ w 0 a0_0_1 u0_0_1 p0.Arena.Next) (g0_1 : Rd (Rp.int .i64) κ w 0 a0_1 u0_1 p0.Prio) (g1_0_0 : Rd (Rp.int .i64) κ w 0 a1_0_0 u1_0_0 p1.Arena.Owner) (g1_0_1 : Rd (Rp.sl (Rp.int .i64)) κ w 0 a1_0_1 u1_0_1 p1.Arena.Next) (g1_1 : Rd (Rp.int .i64) κ w 0 a1_1 u1_1 p1.Prio) {r : Bool} (h : l_eqParity p0 p1 = some r) : Ret Try.prog 19 [.agg #[.slice a0_0_0 p0.Arena.Owner.length u0_0_0, .slice a0_0_1 p0.Arena.Next.length u0_0_1, .slice a0_1 p0.Prio.length u0_1], .agg #[.slice a1_0_0 p1.Arena.Owner.length u1_0_0, .slice a1_0_1 p1.Arena.Next.length u1_0_1, .slice a1_1 p1.Prio.length u1_1]] w (fun v w' => ∃ (κ' : Col), v = .bool r ∧ Ent κ w κ' w') := by
 unfold l_eqParity at h
 refine Ret.enter Try.func19 rfl Try.ntmps19 rfl ?_
 dsimp only [envOf]
 have hE := Ent.refl κ w
 refine WC.seq ?_
 refine WC.rs [(0, 1), (1, 1), (2, 2)] rfl ?_
 refine WO.box (κ := κ) 2 rfl rfl rfl rfl rfl rfl rfl fun b2 w1 K2 S3 f4 => ⟨trivial, ?_⟩
 refine WO.box (κ := K2) 3 rfl rfl rfl rfl rfl rfl rfl fun b3 w5 K6 S7 f8 => ⟨trivial, ?_⟩
 refine WO.pn 1 rfl ?_
 refine WO.fin ?_
 refine DN.seq ?_
 refine WC.seq ?_
 refine WC.seq ?_
 refine WC.rs [(0, 2), (1, 1), (2, 2), (3, 1), (4, 1), (5, 2)] rfl ?_
 refine WO.k2 rfl rfl rfl rfl (rn_fieldAddr Try.runUnderlying34 rfl Try.sizeOf32 rfl rfl) ?_
 have f9 := f4.stp S7 rfl rfl
 refine WO.k1 trivial rfl rfl rfl rfl (rn_la (cs := [.slice a0_0_0 p0.Arena.Owner.length u0_0_0, .slice a0_0_1 p0.Arena.Next.length u0_0_1]) Try.isAgg32 Try.sizeOf32 rfl rfl rfl (haE (f9.lds 0 2 rfl))) ?_
 refine WO.k2 rfl rfl rfl rfl (rn_fieldAddr Try.runUnderlying34 rfl Try.sizeOf32 rfl rfl) ?_
 refine WO.k1 trivial rfl rfl rfl rfl (rn_la (cs := [.slice a1_0_0 p1.Arena.Owner.length u1_0_0, .slice a1_0_1 p1.Arena.Next.length u1_0_1]) Try.isAgg32 Try.sizeOf32 rfl rfl rfl (haE (f8.lds 0 2 rfl))) ?_
 obtain ⟨x9, hx9, h⟩ := Option.bind_eq_some_iff.mp h
 have f10 := g0_0_0.stp (S3.tr S7) rfl rfl
 have f11 := g0_0_1.stp (S3.tr S7) rfl rfl
 have f12 := g1_0_0.stp (S3.tr S7) rfl rfl
 have f13 := g1_0_1.stp (S3.tr S7) rfl rfl
 refine WO.call rfl rfl rfl rfl rfl rfl Try.call96 (l_eqArena_ok (κ := fun b => mp [] 0 (K6 b)) (p0 := p0.Arena) (p1 := p1.Arena) (Sl.map f10 (mp [] 0) rfl rfl) (Sl.map f11 (mp [] 0) rfl rfl) (Sl.map f12 (mp [] 0) rfl rfl) (Sl.map f13 (mp [] 0) rfl rfl) hx9) ?_
 rintro _ w14 ⟨k15, rfl, e16⟩
 obtain ⟨K17, S18, m19⟩ := Ent.mixed (l := []) (κ := K6) e16 4 rfl
 refine ⟨trivial, ?_⟩
 refine WO.pn 1 rfl ?_
 refine WO.fin ?_
 refine DN.seq ?_
 revert h
 cases ht21 : (!x9) with
 | true =>
  intro h; replace h := cT h
  refine WC.ct rfl ?_
  refine WC.seq ?_
  refine WC.rs [(0, 2)] rfl ?_
  refine WO.pn 1 rfl ?_
  refine WO.fin ?_
  refine DN.seq ?_
  refine WC.ret ?_
  refine DN.retThen ?_
  have f22 := hE.stp (S3.tr (S7.tr S18)) rfl rfl
  refine DN.res (l := [.tmp 4]) Try.results19 (res_tmp rfl rfl) rfl ?_
  obtain rfl := Option.some.inj h
  exact ⟨K17, rfl, f22⟩
 | false =>
  intro h; replace h := cF h
  refine WC.cf rfl ?_
  refine WC.skip ?_
  refine DN.seq ?_
  refine WC.seq ?_
  refine WC.seq ?_
  refine WC.rs [(0, 2), (1, 1), (2, 2), (3, 1), (4, 1), (5, 2)] rfl ?_
  refine WO.k2 rfl rfl rfl rfl (rn_fieldAddr Try.runUnderlying34 rfl Try.sizeOf22 rfl rfl) ?_
  have f23 := f9.stp S18 rfl rfl
  refine WO.k1 trivial rfl rfl rfl rfl (rn_ld Try.isAgg22 rfl rfl (hvE (f23.ld 2 rfl rfl))) ?_
  refine WO.k2 rfl rfl rfl rfl (rn_fieldAddr Try.runUnderlying34 rfl Try.sizeOf22 rfl rfl) ?_
  have f24 := f8.stp S18 rfl rfl
  refine WO.k1 trivial rfl rfl rfl rfl (rn_ld Try.isAgg22 rfl rfl (hvE (f24.ld 2 rfl rfl))) ?_
  obtain ⟨x15, hx15, h⟩ := Option.bind_eq_some_iff.mp h
  have f25 := g0_1.stp (S3.tr (S7.tr S18)) rfl rfl
  have f26 := g1_1.stp (S3.tr (S7.tr S18)) rfl rfl
  refine WO.call rfl rfl rfl rfl rfl rfl Try.call18 (l_eqInt64S_ok (κ := fun b => mp [] 0 (K17 b)) (Sl.map f25 (mp [] 0) rfl rfl) (Sl.map f26 (mp [] 0) rfl rfl) hx15) ?_
  rintro _ w27 ⟨k28, rfl, e29⟩
  obtain ⟨K30, S31, m32⟩ := Ent.mixed (l := []) (κ := K17) e29 6 rfl
  refine ⟨trivial, ?_⟩
  refine WO.pn 1 rfl ?_
  refine WO.fin ?_
  refine DN.seq ?_
  revert h
  cases ht34 : (!x15) with
  | true =>
   intro h; replace h := cT h
   refine WC.ct rfl ?_
   refine WC.seq ?_
   refine WC.rs [(0, 2)] rfl ?_
   refine WO.pn 1 rfl ?_
   refine WO.fin ?_
   refine DN.seq ?_
   refine WC.ret ?_
   refine DN.retThen ?_
   have f35 := hE.stp (S3.tr (S7.tr (S18.tr S31))) rfl rfl
   refine DN.res (l := [.tmp 4]) Try.results19 (res_tmp rfl rfl) rfl ?_
   obtain rfl := Option.some.inj h
   exact ⟨K30, rfl, f35⟩
  | false =>
   intro h; replace h := cF h
   refine WC.cf rfl ?_
   refine WC.skip ?_
   refine DN.seq ?_
   refine WC.seq ?_
   refine WC.rs [(0, 2)] rfl ?_
   refine WO.pn 1 rfl ?_
   refine WO.fin ?_
   refine DN.seq ?_
   refine WC.ret ?_
   have f36 := hE.stp (S3.tr (S7.tr (S18.tr S31))) rfl rfl
   refine DN.res (l := [.tmp 4]) Try.results19 (res_tmp rfl rfl) rfl ?_
   obtain rfl := Option.some.inj h
   exact ⟨K30, rfl, f36⟩

/- loop.example/g00869/laws.markArena -/
theorem l_markArena_ok {w : World} {κ : Col} {a0_0 : Option Addr} {u0_0 : Nat} {a0_1 : Option Addr} {u0_1 : Nat} {p0 : Arena} {p1 : Int} (g0_0 : Oc (Ep.int .i64) 2 κ w 2 a0_0 u0_0 p0.Owner) (g0_1 : Oc (Ep.own (Ep.int .i64) 2) 22 κ w 3 a0_1 u0_1 p0.Next) {r : Int × (List Int) × (List (List Int))} (h : l_markArena p0 p1 = some r) : Ret Try.prog 97 [.agg #[.slice a0_0 p0.Owner.length u0_0, .slice a0_1 p0.Next.length u0_1], .int .i64 p1] w (fun v w' => ∃ (κ' : Col), v = .int .i64 r.1 ∧ Ent κ w κ' w' ∧ Oc (Ep.int .i64) 2 κ' w' 2 a0_0 u0_0 r.2.1 ∧ p0.Owner.length = r.2.1.length ∧ Oc (Ep.own (Ep.int .i64) 2) 22 κ' w' 3 a0_1 u0_1 r.2.2 ∧ p0.Next.length = r.2.2.length) := by
 unfold l_markArena at h
 refine Ret.enter Try.func97 rfl Try.ntmps97 rfl ?_
 dsimp only [envOf]
 have hE := Ent.refl κ w
 refine WC.seq ?_
 refine WC.rs [(0, 1), (1, 2)] rfl ?_
 refine WO.box (κ := κ) 4 rfl rfl rfl rfl rfl rfl rfl fun b2 w1 K2 S3 f4 => ⟨trivial, ?_⟩
 refine WO.pn 1 rfl ?_
 refine WO.fin ?_
 refine DN.seq ?_
 refine WC.seq ?_
 refine WC.rs [(0, 2), (1, 1), (2, 2), (3, 1), (4, 2)] rfl ?_
 refine WO.k2 rfl rfl rfl rfl (rn_fieldAddr Try.runUnderlying32 rfl Try.sizeOf22 rfl rfl) ?_
 refine WO.k1 trivial rfl rfl rfl rfl (rn_ld Try.isAgg22 rfl rfl (hvE (f4.ld 0 rfl rfl))) ?_
 refine WO.pn 1 rfl ?_
 obtain ⟨x8, hx8, h⟩ := Option.bind_eq_some_iff.mp h
 have f5 := g0_0.stp S3 rfl rfl
 refine WO.call rfl rfl rfl rfl rfl rfl Try.call21 (l_markInt64S_ok (κ := fun b => mp [(2, 2)] 0 (K2 b)) (f5.map (mp [(2, 2)] 0) rfl rfl) hx8) ?_
 rintro _ w6 ⟨k7, rfl, e8, f9, hn10⟩
 obtain ⟨K11, S12, m13⟩ := Ent.mixed (l := [(2, 2)]) (κ := K2) e8 5 rfl
 refine ⟨trivial, ?_⟩
 have f15 := f9.mx (no_int _) m13 rfl (rfl : 5 + 2 = 7)
 refine WO.pn 1 rfl ?_
 refine WO.fin ?_
 refine DN.seq ?_
 refine WC.seq ?_
 refine WC.rs [(0, 2), (1, 1), (2, 2), (3, 1), (4, 2)] rfl ?_
 refine WO.k2 rfl rfl rfl rfl (rn_fieldAddr Try.runUnderlying32 rfl Try.sizeOf23 rfl rfl) ?_
 have f16 := f4.stp S12 rfl rfl
 refine WO.k1 trivial rfl rfl rfl rfl (rn_ld Try.isAgg23 rfl rfl (hvE (f16.ld 1 rfl rfl))) ?_
 refine WO.pn 1 rfl ?_
 obtain ⟨x12, hx12, h⟩ := Option.bind_eq_some_iff.mp h
 have f17 := g0_1.stp (S3.tr S12) rfl rfl
 refine WO.call rfl rfl rfl rfl rfl rfl Try.call48 (l_markInt64SS_ok (κ := fun b => mp [(3, 2)] 0 (K11 b)) (f17.map (mp [(3, 2)] 0) rfl rfl) hx12) ?_
 rintro _ w18 ⟨k19, rfl, e20, f21, hn22⟩
 obtain ⟨K23, S24, m25⟩ := Ent.mixed (l := [(3, 2)]) (κ := K11) e20 8 rfl
 refine ⟨trivial, ?_⟩
 have f27 := f21.mx (no_own (no_int _) _) m25 rfl (rfl : 8 + 2 = 10)
 refine WO.pn 1 rfl ?_
 refine WO.fin ?_
 refine DN.seq ?_
 refine WC.seq ?_
 refine WC.rs [(0, 2), (1, 2)] rfl ?_
 refine WO.pn 2 rfl ?_
 refine WO.fin ?_
 refine DN.seq ?_
 refine WC.ret ?_
 have f28 := hE.stp (S3.tr (S12.tr S24)) rfl rfl
 have f29 := f15.stp S24 rfl rfl
 refine DN.res (l := [.tmp 4]) Try.results97 (res_tmp rfl rfl) rfl ?_
 obtain rfl := Option.some.inj h
 exact ⟨(fun b => ren [(7, 2), (10, 3)] (K23 b)), rfl, (f28.map (ren [(7, 2), (10, 3)]) rfl rfl), (f29.map (ren [(7, 2), (10, 3)]) rfl rfl), (hn10), (f27.map (ren [(7, 2), (10, 3)]) rfl rfl), (hn22)⟩

/- loop.example/g00869/laws.markParity -/
theorem l_markParity_ok {w : World} {κ : Col} {a0_0_0 : Option Addr} {u0_0_0 : Nat} {a0_0_1 : Option Addr} {u0_0_1 : Nat} {a0_1 : Option Addr} {u0_1 : Nat} {p0 : Parity} {p1 : Int} (g0_0_0 : Oc (Ep.int .i64) 2 κ w 2 a0_0_0 u0_0_0 p0.Arena.Owner) (g0_0_1 : Oc (Ep.own (Ep.int .i64) 2) 22 κ w 3 a0_0_1 u0_0_1 p0.Arena.Next) (g0_1 : Oc (Ep.int .i64) 2 κ w 4 a0_1 u0_1 p0.Prio) {r : Int × (List Int) × (List (List Int)) × (List Int)} (h : l_markParity p0 p1 = some r) : Ret Try.prog 20 [.agg #[.slice a0_0_0 p0.Arena.Owner.length u0_0_0, .slice a0_0_1 p0.Arena.Next.length u0_0_1, .slice a0_1 p0.Prio.length u0_1], .int .i64 p1] w (fun v w' => ∃ (κ' : Col), v = .int .i64 r.1 ∧ Ent κ w κ' w' ∧ Oc (Ep.int .i64) 2 κ' w' 2 a0_0_0 u0_0_0 r.2.1 ∧ p0.Arena.Owner.length = r.2.1.length ∧ Oc (Ep.own (Ep.int .i64) 2) 22 κ' w' 3 a0_0_1 u0_0_1 r.2.2.1 ∧ p0.Arena.Next.length = r.2.2.1.length ∧ Oc (Ep.int .i64) 2 κ' w' 4 a0_1 u0_1 r.2.2.2 ∧ p0.Prio.length = r.2.2.2.length) := by
 unfold l_markParity at h
 refine Ret.enter Try.func20 rfl Try.ntmps20 rfl ?_
 dsimp only [envOf]
 have hE := Ent.refl κ w
 refine WC.seq ?_
 refine WC.rs [(0, 1), (1, 2)] rfl ?_
 refine WO.box (κ := κ) 5 rfl rfl rfl rfl rfl rfl rfl fun b2 w1 K2 S3 f4 => ⟨trivial, ?_⟩
 refine WO.pn 1 rfl ?_
 refine WO.fin ?_
 refine DN.seq ?_
 refine WC.seq ?_
 refine WC.rs [(0, 2), (1, 1), (2, 2), (3, 1), (4, 2)] rfl ?_
 refine WO.k2 rfl rfl rfl rfl (rn_fieldAddr Try.runUnderlying34 rfl Try.sizeOf32 rfl rfl) ?_
 refine WO.k1 trivial rfl rfl rfl rfl (rn_la (cs := [.slice a0_0_0 p0.Arena.Owner.length u0_0_0, .slice a0_0_1 p0.Arena.Next.length u0_0_1]) Try.isAgg32 Try.sizeOf32 rfl rfl rfl (haE (f4.lds 0 2 rfl))) ?_
 refine WO.pn 1 rfl ?_
 obtain ⟨x8, hx8, h⟩ := Option.bind_eq_some_iff.mp h
 have f5 := g0_0_0.stp S3 rfl rfl
 have f6 := g0_0_1.stp S3 rfl rfl
 refine WO.call rfl rfl rfl rfl rfl rfl Try.call97 (l_markArena_ok (κ := fun b => mp [(2, 2), (3, 3)] 0 (K2 b)) (p0 := p0.Arena) (f5.map (mp [(2, 2), (3, 3)] 0) rfl rfl) (f6.map (mp [(2, 2), (3, 3)] 0) rfl rfl) hx8) ?_
 rintro _ w7 ⟨k8, rfl, e9, f10, hn11, f12, hn13⟩
 obtain ⟨K14, S15, m16⟩ := Ent.mixed (l := [(2, 2), (3, 3)]) (κ := K2) e9 6 rfl
 refine ⟨trivial, ?_⟩
 have f18 := f10.mx (no_int _) m16 rfl (rfl : 6 + 2 = 8)
 have f19 := f12.mx (no_own (no_int _) _) m16 rfl (rfl : 6 + 3 = 9)
 refine WO.pn 1 rfl ?_
 refine WO.fin ?_
 refine DN.seq ?_
 refine WC.seq ?_
 refine WC.rs [(0, 2), (1, 1), (2, 2), (3, 1), (4, 2)] rfl ?_
 refine WO.k2 rfl rfl rfl rfl (rn_fieldAddr Try.runUnderlying34 rfl Try.sizeOf22 rfl rfl) ?_
 have f20 := f4.stp S15 rfl rfl
 refine WO.k1 trivial rfl rfl rfl rfl (rn_ld Try.isAgg22 rfl rfl (hvE (f20.ld 2 rfl rfl))) ?_
 refine WO.pn 1 rfl ?_
 obtain ⟨x12, hx12, h⟩ := Option.bind_eq_some_iff.mp h
 have f21 := g0_1.stp (S3.tr S15) rfl rfl
 refine WO.call rfl rfl rfl rfl rfl rfl Try.call21 (l_markInt64S_ok (κ := fun b => mp [(4, 2)] 0 (K14 b)) (f21.map (mp [(4, 2)] 0) rfl rfl) hx12) ?_
 rintro _ w22 ⟨k23, rfl, e24, f25, hn26⟩
 obtain ⟨K27, S28, m29⟩ := Ent.mixed (l := [(4, 2)]) (κ := K14) e24 10 rfl
 refine ⟨trivial, ?_⟩
 have f31 := f25.mx (no_int _) m29 rfl (rfl : 10 + 2 = 12)
 refine WO.pn 1 rfl ?_
 refine WO.fin ?_
 refine DN.seq ?_
 refine WC.seq ?_
 refine WC.rs [(0, 2), (1, 2)] rfl ?_
 refine WO.pn 2 rfl ?_
 refine WO.fin ?_
 refine DN.seq ?_
 refine WC.ret ?_
 have f32 := hE.stp (S3.tr (S15.tr S28)) rfl rfl
 have f33 := f18.stp S28 rfl rfl
 have f34 := f19.stp S28 rfl rfl
 refine DN.res (l := [.tmp 4]) Try.results20 (res_tmp rfl rfl) rfl ?_
 obtain rfl := Option.some.inj h
 exact ⟨(fun b => ren [(8, 2), (9, 3), (12, 4)] (K27 b)), rfl, (f32.map (ren [(8, 2), (9, 3), (12, 4)]) rfl rfl), (f33.map (ren [(8, 2), (9, 3), (12, 4)]) rfl rfl), (hn11), (f34.map (ren [(8, 2), (9, 3), (12, 4)]) rfl rfl), (hn13), (f31.map (ren [(8, 2), (9, 3), (12, 4)]) rfl rfl), (hn26)⟩

/- slices.ContainsFunc[[]int64,int64] -/
theorem slices_ContainsFunc_I_int64__i_areLetters_1_ok {w : World} {κ : Col} {a0 : Option Addr} {u0 : Nat} {p0 : (List Int)} {c1_0 : Int} {b1_0 : Nat} (g0 : Rd (Rp.int .i64) κ w 0 a0 u0 p0) (gb1_0 : Bc κ w 0 b1_0 2 [.int .i64 c1_0]) {r : Bool} (h : slices_ContainsFunc_I_int64__i_areLetters_1 p0 c1_0 = some r) : Ret Try.prog 212 [.slice a0 p0.length u0, .func (.func 213) #[] #[.pointer (some ⟨b1_0, 0, none⟩)]] w (fun v w' => ∃ (κ' : Col), v = .bool r ∧ Ent κ w κ' w') := by
 unfold slices_ContainsFunc_I_int64__i_areLetters_1 at h
 refine Ret.enter Try.func212 rfl Try.ntmps212 rfl ?_
 dsimp only [envOf]
 have hE := Ent.refl κ w
 refine WC.seq ?_
 refine WC.rs [(0, 2)] rfl ?_
 refine WO.pn 1 rfl ?_
 refine WO.fin ?_
 refine DN.seq ?_
 refine WC.seq ?_
 refine WC.rs [(0, 2), (1, 2), (2, 1), (3, 2), (4, 2)] rfl ?_
 refine WO.pn 2 rfl ?_
 obtain ⟨x7, hx7, h⟩ := Option.bind_eq_some_iff.mp h
 refine WO.call rfl rfl rfl rfl rfl rfl Try.call229 (slices_IndexFunc_I_int64__i_areLetters_1_ok (κ := fun b => mp [] 0 (κ b)) (Sl.map g0 (mp [] 0) rfl rfl) (gb1_0.map (mp [] 0) rfl rfl) hx7) ?_
 rintro _ w1 ⟨k2, rfl, e3⟩
 obtain ⟨K4, S5, m6⟩ := Ent.mixed (l := []) (κ := κ) e3 2 rfl
 refine ⟨trivial, ?_⟩
 refine WO.pn 2 rfl ?_
 refine WO.fin ?_
 refine DN.seq ?_
 refine WC.ret ?_
 have f8 := hE.stp S5 rfl rfl
 refine DN.res (l := [.tmp 4]) Try.results212 (res_tmp rfl rfl) rfl ?_
 obtain rfl := Option.some.inj h
 exact ⟨K4, rfl, f8⟩

/- loop.example/g00869/impl.areLetters -/
theorem i_areLetters_ok {w : World} {κ : Col} {a0 : Option Addr} {u0 : Nat} {p0 : (List Int)} {p1 : Int} (g0 : Rd (Rp.int .i64) κ w 0 a0 u0 p0) {r : Bool} (h : i_areLetters p0 p1 = some r) : Ret Try.prog 170 [.slice a0 p0.length u0, .int .i64 p1] w (fun v w' => ∃ (κ' : Col), v = .bool r ∧ Ent κ w κ' w') := by
 unfold i_areLetters at h
 refine Ret.enter Try.func170 rfl Try.ntmps170 rfl ?_
 dsimp only [envOf]
 have hE := Ent.refl κ w
 refine WC.seq ?_
 refine WC.rs [(0, 1), (1, 2)] rfl ?_
 refine WO.box (κ := κ) 2 rfl rfl rfl rfl rfl rfl rfl fun b3 w1 K2 S3 f4 => ⟨trivial, ?_⟩
 refine WO.pn 1 rfl ?_
 refine WO.fin ?_
 refine DN.seq ?_
 refine WC.seq ?_
 refine WC.rs [(0, 2), (1, 2), (2, 1), (3, 2), (4, 2)] rfl ?_
 refine WO.pn 1 rfl ?_
 refine WO.k2 rfl rfl rfl rfl (rn_makeFunc (first := []) (captured := [.tmp 3]) rfl rfl rfl ⟨_, rfl⟩) ?_
 obtain ⟨x7, hx7, h⟩ := Option.bind_eq_some_iff.mp h
 have f5 := g0.stp S3 rfl rfl
 refine WO.call rfl rfl rfl rfl rfl rfl Try.call212 (slices_ContainsFunc_I_int64__i_areLetters_1_ok (κ := fun b => mp [] 0 (K2 b)) (Sl.map f5 (mp [] 0) rfl rfl) (f4.map (mp [] 0) rfl rfl) hx7) ?_
 rintro _ w6 ⟨k7, rfl, e8⟩
 obtain ⟨K9, S10, m11⟩ := Ent.mixed (l := []) (κ := K2) e8 3 rfl
 refine ⟨trivial, ?_⟩
 refine WO.pn 2 rfl ?_
 refine WO.fin ?_
 refine DN.seq ?_
 refine WC.ret ?_
 have f13 := hE.stp (S3.tr S10) rfl rfl
 refine DN.res (l := [.tmp 4]) Try.results170 (res_tmp rfl rfl) rfl ?_
 obtain rfl := Option.some.inj h
 exact ⟨K9, rfl, f13⟩

end Go.Proofs.Ytfmkhnlnomkcfaa
