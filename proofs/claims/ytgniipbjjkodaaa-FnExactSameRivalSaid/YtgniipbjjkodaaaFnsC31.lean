/- The walks, part 1. By program. -/
import Derived.Test.YtgniipbjjkodaaaFnsC30
set_option linter.unusedVariables false
set_option linter.unusedSimpArgs false
namespace Go.Proofs.Ytgniipbjjkodaaa
open Go Go.Wk Go.Proofs
set_option maxRecDepth 100000
set_option maxHeartbeats 1000000

/- loop.example/g00869/laws.szRival -/
theorem l_szRival_ok {w : World} {κ : Col} {a0_0 : Option Addr} {u0_0 : Nat} {a0_1 : Option Addr} {u0_1 : Nat} {p0 : Rival} {p1 : Int} (g0_0 : Rd (Rp.int .i64) κ w 0 a0_0 u0_0 p0.In) (g0_1 : Rd (Rp.sl (Rp.int .i64)) κ w 0 a0_1 u0_1 p0.Next) {r : Int} (h : l_szRival p0 p1 = some r) : Ret Try.prog 15 [.agg #[.slice a0_0 p0.In.length u0_0, .slice a0_1 p0.Next.length u0_1], .int .i64 p1] w (fun v w' => ∃ (κ' : Col), v = .int .i64 r ∧ Ent κ w κ' w') := by
 unfold l_szRival at h
 refine Ret.enter Try.func15 rfl Try.ntmps15 rfl ?_
 dsimp only [envOf]
 have hE := Ent.refl κ w
 refine WC.seq ?_
 refine WC.rs [(0, 1), (1, 2)] rfl ?_
 refine WO.box (κ := κ) 2 rfl rfl rfl rfl rfl rfl rfl fun b2 w1 K2 S3 f4 => ⟨trivial, ?_⟩
 refine WO.pn 1 rfl ?_
 refine WO.fin ?_
 refine DN.seq ?_
 refine WC.seq ?_
 refine WC.rs [(0, 2), (1, 1), (2, 2), (3, 1), (4, 2)] rfl ?_
 refine WO.k2 rfl rfl rfl rfl (rn_fieldAddr Try.runUnderlying27 rfl Try.sizeOf24 rfl rfl) ?_
 refine WO.k1 trivial rfl rfl rfl rfl (rn_ld Try.isAgg24 rfl rfl (hvE (f4.ld 0 rfl rfl))) ?_
 refine WO.pn 1 rfl ?_
 obtain ⟨x8, hx8, h⟩ := Option.bind_eq_some_iff.mp h
 have f5 := g0_0.stp S3 rfl rfl
 refine WO.call rfl rfl rfl rfl rfl rfl Try.call68 (l_szInt64S_ok (κ := fun b => mp [] 0 (K2 b)) (Sl.map f5 (mp [] 0) rfl rfl) hx8) ?_
 rintro _ w6 ⟨k7, rfl, e8⟩
 obtain ⟨K9, S10, m11⟩ := Ent.mixed (l := []) (κ := K2) e8 3 rfl
 refine ⟨trivial, ?_⟩
 refine WO.pn 1 rfl ?_
 refine WO.fin ?_
 refine DN.seq ?_
 refine WC.seq ?_
 refine WC.seq ?_
 refine WC.rs [(0, 2), (1, 2)] rfl ?_
 refine WO.pn 2 rfl ?_
 refine WO.fin ?_
 refine DN.seq ?_
 revert h
 cases ht13 : decide (x8 < 0) with
 | true =>
  intro h; replace h := cT h
  refine WC.ct rfl ?_
  refine WC.seq ?_
  refine WC.rs [(0, 2)] rfl ?_
  refine WO.pn 1 rfl ?_
  refine WO.fin ?_
  refine DN.seq ?_
  refine WC.ret ?_
  refine DN.retThen ?_
  have f14 := hE.stp (S3.tr S10) rfl rfl
  refine DN.res (l := [.tmp 4]) Try.results15 (res_tmp rfl rfl) rfl ?_
  obtain rfl := Option.some.inj h
  exact ⟨K9, rfl, f14⟩
 | false =>
  intro h; replace h := cF h
  refine WC.cf rfl ?_
  refine WC.skip ?_
  refine DN.seq ?_
  refine WC.seq ?_
  refine WC.rs [(0, 2), (1, 1), (2, 2), (3, 1), (4, 2)] rfl ?_
  refine WO.k2 rfl rfl rfl rfl (rn_fieldAddr Try.runUnderlying27 rfl Try.sizeOf25 rfl rfl) ?_
  have f15 := f4.stp S10 rfl rfl
  refine WO.k1 trivial rfl rfl rfl rfl (rn_ld Try.isAgg25 rfl rfl (hvE (f15.ld 1 rfl rfl))) ?_
  refine WO.pn 1 rfl ?_
  obtain ⟨x14, hx14, h⟩ := Option.bind_eq_some_iff.mp h
  have f16 := g0_1.stp (S3.tr S10) rfl rfl
  refine WO.call rfl rfl rfl rfl rfl rfl Try.call69 (l_szInt64SS_ok (κ := fun b => mp [] 0 (K9 b)) (Sl.map f16 (mp [] 0) rfl rfl) hx14) ?_
  rintro _ w17 ⟨k18, rfl, e19⟩
  obtain ⟨K20, S21, m22⟩ := Ent.mixed (l := []) (κ := K9) e19 5 rfl
  refine ⟨trivial, ?_⟩
  refine WO.pn 1 rfl ?_
  refine WO.fin ?_
  refine DN.seq ?_
  refine WC.seq ?_
  refine WC.seq ?_
  refine WC.rs [(0, 2), (1, 2)] rfl ?_
  refine WO.pn 2 rfl ?_
  refine WO.fin ?_
  refine DN.seq ?_
  revert h
  cases ht24 : decide (x14 < 0) with
  | true =>
   intro h; replace h := cT h
   refine WC.ct rfl ?_
   refine WC.seq ?_
   refine WC.rs [(0, 2)] rfl ?_
   refine WO.pn 1 rfl ?_
   refine WO.fin ?_
   refine DN.seq ?_
   refine WC.ret ?_
   refine DN.retThen ?_
   have f25 := hE.stp (S3.tr (S10.tr S21)) rfl rfl
   refine DN.res (l := [.tmp 4]) Try.results15 (res_tmp rfl rfl) rfl ?_
   obtain rfl := Option.some.inj h
   exact ⟨K20, rfl, f25⟩
  | false =>
   intro h; replace h := cF h
   refine WC.cf rfl ?_
   refine WC.skip ?_
   refine DN.seq ?_
   refine WC.seq ?_
   refine WC.rs [(0, 2), (1, 2)] rfl ?_
   refine WO.pn 2 rfl ?_
   refine WO.fin ?_
   refine DN.seq ?_
   refine WC.ret ?_
   have f26 := hE.stp (S3.tr (S10.tr S21)) rfl rfl
   refine DN.res (l := [.tmp 4]) Try.results15 (res_tmp rfl rfl) rfl ?_
   obtain rfl := Option.some.inj h
   exact ⟨K20, rfl, f26⟩

/- loop.example/g00869/laws.toRival -/
theorem l_toRival_ok {w : World} {κ : Col} {a0_0 : Option Addr} {u0_0 : Nat} {a0_1 : Option Addr} {u0_1 : Nat} {p0 : Rival} (g0_0 : Rd (Rp.int .i64) κ w 0 a0_0 u0_0 p0.In) (g0_1 : Rd (Rp.sl (Rp.int .i64)) κ w 0 a0_1 u0_1 p0.Next) {r : Rival} (h : l_toRival p0 = some r) : Ret Try.prog 18 [.agg #[.slice a0_0 p0.In.length u0_0, .slice a0_1 p0.Next.length u0_1]] w (fun v w' => ∃ (κ' : Col) (ra0 : Option Addr) (ru0 : Nat) (ra1 : Option Addr) (ru1 : Nat), v = .agg #[.slice ra0 r.In.length ru0, .slice ra1 r.Next.length ru1] ∧ Ent κ w κ' w' ∧ Oc (Ep.int .i64) 2 κ' w' 2 ra0 ru0 r.In ∧ Oc (Ep.own (Ep.int .i64) 2) 24 κ' w' 3 ra1 ru1 r.Next) := by
 unfold l_toRival at h
 refine Ret.enter Try.func18 rfl Try.ntmps18 rfl ?_
 dsimp only [envOf]
 have hE := Ent.refl κ w
 refine WC.seq ?_
 refine WC.rs [(0, 1), (1, 1)] rfl ?_
 refine WO.box (κ := κ) 2 rfl rfl rfl rfl rfl rfl rfl fun b1 w1 K2 S3 f4 => ⟨trivial, ?_⟩
 refine WO.alloc (κ := K2) 3 rfl rfl rfl rfl rfl Try.zeroValue32 rfl fun b2 w5 K6 S7 f8 => ⟨trivial, ?_⟩
 refine WO.fin ?_
 refine DN.seq ?_
 refine WC.seq ?_
 refine WC.rs [(0, 1)] rfl ?_
 refine WO.alloc (κ := K6) 4 rfl rfl rfl rfl rfl Try.zeroValue32 rfl fun b3 w9 K10 S11 f12 => ⟨trivial, ?_⟩
 refine WO.fin ?_
 refine DN.seq ?_
 refine WC.seq ?_
 refine WC.rs [(0, 2), (1, 1), (2, 1), (3, 2), (4, 1)] rfl ?_
 refine WO.k2 rfl rfl rfl rfl (rn_fieldAddr Try.runUnderlying27 rfl Try.sizeOf24 rfl rfl) ?_
 have f13 := f4.stp (S7.tr S11) rfl rfl
 refine WO.k1 trivial rfl rfl rfl rfl (rn_ld Try.isAgg24 rfl rfl (hvE (f13.ld 0 rfl rfl))) ?_
 obtain ⟨x6, hx6, h⟩ := Option.bind_eq_some_iff.mp h
 have f14 := g0_0.stp (S3.tr (S7.tr S11)) rfl rfl
 refine WO.call rfl rfl rfl rfl rfl rfl Try.call22 (l_toInt64S_ok (κ := fun b => mp [] 0 (K10 b)) (Sl.map f14 (mp [] 0) rfl rfl) hx6) ?_
 rintro _ w15 ⟨k16, a6_0, u6_0, rfl, e17, f18⟩
 obtain ⟨K19, S20, m21⟩ := Ent.mixed (l := []) (κ := K10) e17 5 rfl
 refine ⟨trivial, ?_⟩
 have f23 := f18.mx (no_int _) m21 rfl (rfl : 5 + 2 = 7)
 refine WO.k2 rfl rfl rfl rfl (rn_fieldAddr Try.runUnderlying32 rfl Try.sizeOf24 rfl rfl) ?_
 have f24 := f12.stp S20 rfl rfl
 refine WO.stB (κ := K19) 4 (off := 0) (vc := [.slice a6_0 x6.length u6_0]) (cs' := [.slice a6_0 x6.length u6_0, .slice none 0 0]) rfl rfl rfl rfl rfl rfl rfl Try.sizeOf24 rfl rfl f24 rfl rfl fun w25 S26 f27 => ⟨trivial, ?_⟩
 refine WO.fin ?_
 refine DN.seq ?_
 refine WC.seq ?_
 refine WC.rs [(0, 2), (1, 1), (2, 1), (3, 2), (4, 1)] rfl ?_
 refine WO.k2 rfl rfl rfl rfl (rn_fieldAddr Try.runUnderlying27 rfl Try.sizeOf25 rfl rfl) ?_
 have f28 := f13.stp (S20.tr S26) rfl rfl
 refine WO.k1 trivial rfl rfl rfl rfl (rn_ld Try.isAgg25 rfl rfl (hvE (f28.ld 1 rfl rfl))) ?_
 obtain ⟨x10, hx10, h⟩ := Option.bind_eq_some_iff.mp h
 have f29 := g0_1.stp (S3.tr (S7.tr (S11.tr (S20.tr S26)))) rfl rfl
 refine WO.call rfl rfl rfl rfl rfl rfl Try.call72 (l_toInt64SS_ok (κ := fun b => mp [] 0 (K19 b)) (Sl.map f29 (mp [] 0) rfl rfl) hx10) ?_
 rintro _ w30 ⟨k31, a10_0, u10_0, rfl, e32, f33⟩
 obtain ⟨K34, S35, m36⟩ := Ent.mixed (l := []) (κ := K19) e32 8 rfl
 refine ⟨trivial, ?_⟩
 have f38 := f33.mx (no_own (no_int _) _) m36 rfl (rfl : 8 + 2 = 10)
 refine WO.k2 rfl rfl rfl rfl (rn_fieldAddr Try.runUnderlying32 rfl Try.sizeOf25 rfl rfl) ?_
 have f39 := f27.stp S35 rfl rfl
 refine WO.stB (κ := K34) 4 (off := 1) (vc := [.slice a10_0 x10.length u10_0]) (cs' := [.slice a6_0 x6.length u6_0, .slice a10_0 x10.length u10_0]) rfl rfl rfl rfl rfl rfl rfl Try.sizeOf25 rfl rfl f39 rfl rfl fun w40 S41 f42 => ⟨trivial, ?_⟩
 refine WO.fin ?_
 refine DN.seq ?_
 refine WC.seq ?_
 refine WC.rs [(0, 1), (1, 1)] rfl ?_
 refine WO.k1 trivial rfl rfl rfl rfl (rn_la (cs := [.slice a6_0 x6.length u6_0, .slice a10_0 x10.length u10_0]) Try.isAgg32 Try.sizeOf32 rfl rfl rfl (haE f42.cells)) ?_
 have f43 := f8.stp (S11.tr (S20.tr (S26.tr (S35.tr S41)))) rfl rfl
 refine WO.stB0 (κ := K34) 3 (vc := [.slice a6_0 x6.length u6_0, .slice a10_0 x10.length u10_0]) rfl rfl rfl rfl rfl rfl rfl Try.sizeOf32 rfl rfl f43 rfl fun w44 S45 f46 => ⟨trivial, ?_⟩
 refine WO.fin ?_
 refine DN.seq ?_
 refine WC.ret ?_
 have f47 := hE.stp (S3.tr (S7.tr (S11.tr (S20.tr (S26.tr (S35.tr (S41.tr S45))))))) rfl rfl
 have f48 := f23.stp (S26.tr (S35.tr (S41.tr S45))) rfl rfl
 have f49 := f38.stp (S41.tr S45) rfl rfl
 refine DN.res (l := [.cell 2 32]) Try.results18 (res_cellA rfl f46 Try.isAgg32 Try.sizeOf32 rfl rfl) rfl ?_
 obtain rfl := Option.some.inj h
 exact ⟨(fun b => ren [(7, 2), (10, 3)] (K34 b)), a6_0, u6_0, a10_0, u10_0, rfl, (f47.map (ren [(7, 2), (10, 3)]) rfl rfl), (f48.map (ren [(7, 2), (10, 3)]) rfl rfl), (f49.map (ren [(7, 2), (10, 3)]) rfl rfl)⟩

/- loop.example/g00869/spec.RivalOk -/
theorem s_RivalOk_ok {w : World} {κ : Col} {p0 : Sig} {a1_0 : Option Addr} {u1_0 : Nat} {a1_1 : Option Addr} {u1_1 : Nat} {p1 : Rival} (g1_0 : Rd (Rp.int .i64) κ w 0 a1_0 u1_0 p1.In) (g1_1 : Rd (Rp.sl (Rp.int .i64)) κ w 0 a1_1 u1_1 p1.Next) {r : Bool} (h : s_RivalOk p0 p1 = some r) : Ret Try.prog 70 [.agg #[.int .i64 p0.In, .int .i64 p0.Out], .agg #[.slice a1_0 p1.In.length u1_0, .slice a1_1 p1.Next.length u1_1]] w (fun v w' => ∃ (κ' : Col), v = .bool r ∧ Ent κ w κ' w') := by
 unfold s_RivalOk at h
 refine Ret.enter Try.func70 rfl Try.ntmps70 rfl ?_
 dsimp only [envOf]
 have hE := Ent.refl κ w
 refine WC.seq ?_
 refine WC.rs [(0, 1), (1, 1), (2, 2)] rfl ?_
 refine WO.box (κ := κ) 2 rfl rfl rfl rfl rfl rfl rfl fun b2 w1 K2 S3 f4 => ⟨trivial, ?_⟩
 refine WO.box (κ := K2) 3 rfl rfl rfl rfl rfl rfl rfl fun b3 w5 K6 S7 f8 => ⟨trivial, ?_⟩
 refine WO.pn 1 rfl ?_
 refine WO.fin ?_
 refine DN.seq ?_
 refine WC.seq ?_
 refine WC.rs [(0, 2), (1, 1), (2, 2), (3, 2)] rfl ?_
 refine WO.k2 rfl rfl rfl rfl (rn_fieldAddr Try.runUnderlying32 rfl Try.sizeOf24 rfl rfl) ?_
 refine WO.k1 trivial rfl rfl rfl rfl (rn_ld Try.isAgg24 rfl rfl (hvE (f8.ld 0 rfl rfl))) ?_
 refine WO.k2 rfl rfl rfl rfl (rn_len Try.runUnderlying24 rfl rfl) ?_
 refine WO.pn 1 rfl ?_
 refine WO.fin ?_
 refine DN.seq ?_
 refine WC.seq ?_
 refine WC.seq ?_
 refine WC.rx (κ := K6) 3 none [(0, 0), (1, 1), (2, 2), (3, 2), (4, 2), (5, 1), (6, 2), (7, 2), (8, 2), (9, 2), (12, 2), (10, 0), (11, 2), (13, 0), (14, 2), (15, 2), (16, 2), (17, 2), (18, 2), (19, 0), (20, 0), (21, 1), (22, 1), (23, 2), (24, 2)] [] (by kernel_rfl) (by kernel_rfl) fun w10 S9 => ?_
 have f11 := f4.stp (S7.tr S9) rfl rfl
 refine WO.k0 rfl rfl rfl rfl (rn_la (cs := [.int .i64 p0.In, .int .i64 p0.Out]) Try.isAgg30 Try.sizeOf30 rfl rfl rfl (haC f11.cells rfl)) ?_
 obtain ⟨x11, hx11, h⟩ := Option.bind_eq_some_iff.mp h
 refine WO.call rfl rfl rfl rfl rfl rfl Try.call131 (s_SigOk_ok (κ := fun b => mp [] 0 (K6 b)) hx11) ?_
 rintro _ w12 ⟨k13, rfl, e14⟩
 obtain ⟨K15, S16, m17⟩ := Ent.mixed (l := []) (κ := K6) e14 4 rfl
 refine ⟨(S16.cl rfl), ?_⟩
 refine WO.pn 2 rfl ?_
 obtain ⟨p17, h, hK19⟩ := Option.bind_eq_some_iff.mp h
 refine WO.meet [(4, 2), (5, 1), (6, 2), (7, 2)] [(8, 2), (9, 2), (12, 2), (10, 0), (11, 2), (13, 0), (14, 2), (15, 2), (16, 2), (17, 2), (18, 2), (19, 0), (20, 0), (21, 1), (22, 1), (23, 2), (24, 2)] (fun L w' => L = [(2, .pointer (some ⟨b2, 0, none⟩)), (3, .pointer (some ⟨b3, 0, none⟩)), (5, .int .i64 (p1.In.length : Int)), (17, .bool p17)] ∧ ∃ κ', Stp [] K15 w12 κ' w') (S16.cl rfl) ?_ ?_
 ·
  revert h
  cases ht20 : (!x11) with
  | true =>
   intro h; replace h := cT h
   refine WO.pn 1 rfl ?_
   refine WO.ls rfl rfl rfl rfl ?_
   refine WO.pn 2 rfl ?_
   obtain rfl := Option.some.inj h
   exact WO.met _ (S16.cl rfl) ⟨rfl, _, (Stp.refl _ _).wk rfl⟩ fun a ha => (ha.more (ha.more (ha.more (ha.more ha.nil rfl) rfl) rfl) rfl)
  | false =>
   intro h; replace h := cF h
   refine WO.pn 1 rfl ?_
   obtain ⟨x15, hx15, h⟩ := Option.bind_eq_some_iff.mp h
   refine WO.call rfl rfl rfl rfl rfl rfl Try.call84 (s_l1In_ok (κ := fun b => mp [] 0 (K15 b)) hx15) ?_
   rintro _ w21 ⟨k22, rfl, e23⟩
   obtain ⟨K24, S25, m26⟩ := Ent.mixed (l := []) (κ := K15) e23 6 rfl
   refine ⟨((S16.tr S25).cl rfl), ?_⟩
   refine WO.pn 2 rfl ?_
   obtain rfl := Option.some.inj h
   exact WO.met _ ((S16.tr S25).cl rfl) ⟨rfl, _, S25.wk rfl⟩ fun a ha => (ha.more (ha.more (ha.more (ha.more ha.nil rfl) rfl) rfl) rfl)
 rintro _ w28 _ ⟨rfl, K29, S30⟩
 have h := hK19
 refine WO.pn 1 rfl ?_
 obtain ⟨p26, h, hK31⟩ := Option.bind_eq_some_iff.mp h
 refine WO.meet [(9, 2), (12, 2), (10, 0), (11, 2), (13, 0), (14, 2), (15, 2), (16, 2)] [(17, 2), (18, 2), (19, 0), (20, 0), (21, 1), (22, 1), (23, 2), (24, 2)] (fun L w' => L = [(2, .pointer (some ⟨b2, 0, none⟩)), (3, .pointer (some ⟨b3, 0, none⟩)), (5, .int .i64 (p1.In.length : Int)), (26, .bool p26)] ∧ ∃ κ', Stp [] K29 w28 κ' w') ((S16.tr S30).cl rfl) ?_ ?_
 ·
  revert h
  cases ht32 : p17 with
  | true =>
   intro h; replace h := cT h
   refine WO.pn 2 rfl ?_
   refine WO.qs rfl rfl rfl rfl ?_
   refine WO.pn 1 rfl ?_
   refine WO.qs rfl rfl rfl rfl ?_
   refine WO.pn 3 rfl ?_
   obtain rfl := Option.some.inj h
   exact WO.met _ ((S16.tr S30).cl rfl) ⟨rfl, _, (Stp.refl _ _).wk rfl⟩ fun a ha => (ha.more (ha.more (ha.more (ha.more ha.nil rfl) rfl) rfl) rfl)
  | false =>
   intro h; replace h := cF h
   refine WO.k2 rfl rfl rfl rfl (rn_fieldAddr Try.runUnderlying32 rfl Try.sizeOf25 rfl rfl) ?_
   refine WO.k2 rfl rfl rfl rfl (rn_fieldAddr Try.runUnderlying32 rfl Try.sizeOf24 rfl rfl) ?_
   have f33 := f8.stp S9 rfl rfl
   refine WO.k0 rfl rfl rfl rfl (rn_ld Try.isAgg25 rfl rfl (hvC (f33.ld 1 rfl rfl) rfl)) ?_
   refine WO.k2 rfl rfl rfl rfl (rn_len Try.runUnderlying25 rfl rfl) ?_
   refine WO.k0 rfl rfl rfl rfl (rn_ld Try.isAgg24 rfl rfl (hvC (f33.ld 0 rfl rfl) rfl)) ?_
   refine WO.k2 rfl rfl rfl rfl (rn_len Try.runUnderlying24 rfl rfl) ?_
   refine WO.pn 2 rfl ?_
   obtain rfl := Option.some.inj h
   exact WO.met _ ((S16.tr S30).cl rfl) ⟨rfl, _, (Stp.refl _ _).wk rfl⟩ fun a ha => (ha.more (ha.more (ha.more (ha.more ha.nil rfl) rfl) rfl) rfl)
 rintro _ w34 _ ⟨rfl, K35, S36⟩
 have h := hK31
 refine WO.pn 1 rfl ?_
 obtain ⟨p34, h, hK37⟩ := Option.bind_eq_some_iff.mp h
 refine WO.meet [(18, 2), (19, 0), (20, 0), (21, 1), (22, 1), (23, 2), (24, 2)] [] (fun L w' => L = [(2, .pointer (some ⟨b2, 0, none⟩)), (3, .pointer (some ⟨b3, 0, none⟩)), (5, .int .i64 (p1.In.length : Int)), (34, .bool p34)] ∧ ∃ κ', Stp [] K35 w34 κ' w') ((S16.tr (S30.tr S36)).cl rfl) ?_ ?_
 ·
  revert h
  cases ht38 : p26 with
  | true =>
   intro h; replace h := cT h
   refine WO.pn 1 rfl ?_
   refine WO.qs rfl rfl rfl rfl ?_
   refine WO.qs rfl rfl rfl rfl ?_
   refine WO.ls rfl rfl rfl rfl ?_
   refine WO.ls rfl rfl rfl rfl ?_
   refine WO.pn 2 rfl ?_
   obtain rfl := Option.some.inj h
   exact WO.met _ ((S16.tr (S30.tr S36)).cl rfl) ⟨rfl, _, (Stp.refl _ _).wk rfl⟩ fun a ha => (ha.more (ha.more (ha.more (ha.more ha.nil rfl) rfl) rfl) rfl)
  | false =>
   intro h; replace h := cF h
   refine WO.k2 rfl rfl rfl rfl (rn_fieldAddr Try.runUnderlying32 rfl Try.sizeOf24 rfl rfl) ?_
   have f39 := f8.stp S9 rfl rfl
   refine WO.k0 rfl rfl rfl rfl (rn_ld Try.isAgg24 rfl rfl (hvC (f39.ld 0 rfl rfl) rfl)) ?_
   refine WO.k0 rfl rfl rfl rfl (rn_la (cs := [.int .i64 p0.In, .int .i64 p0.Out]) Try.isAgg30 Try.sizeOf30 rfl rfl rfl (haC f11.cells rfl)) ?_
   obtain ⟨x31, hx31, h⟩ := Option.bind_eq_some_iff.mp h
   refine WO.call rfl rfl rfl rfl rfl rfl Try.call132 (s_l27Inputs_ok (κ := fun b => mp [] 0 (K35 b)) hx31) ?_
   rintro _ w40 ⟨k41, rfl, e42⟩
   obtain ⟨K43, S44, m45⟩ := Ent.mixed (l := []) (κ := K35) e42 6 rfl
   refine ⟨((S16.tr (S30.tr (S36.tr S44))).cl rfl), ?_⟩
   obtain ⟨x32, hx32, h⟩ := Option.bind_eq_some_iff.mp h
   have f47 := g1_0.stp (S3.tr (S7.tr (S9.tr (S16.tr (S30.tr (S36.tr S44)))))) rfl rfl
   refine WO.call rfl rfl rfl rfl rfl rfl Try.call78 (s_l23Below_ok (κ := fun b => mp [] 0 (K43 b)) (Sl.map f47 (mp [] 0) rfl rfl) hx32) ?_
   rintro _ w48 ⟨k49, rfl, e50⟩
   obtain ⟨K51, S52, m53⟩ := Ent.mixed (l := []) (κ := K43) e50 8 rfl
   refine ⟨((S16.tr (S30.tr (S36.tr (S44.tr S52)))).cl rfl), ?_⟩
   refine WO.pn 2 rfl ?_
   obtain rfl := Option.some.inj h
   exact WO.met _ ((S16.tr (S30.tr (S36.tr (S44.tr S52)))).cl rfl) ⟨rfl, _, (S44.tr S52).wk rfl⟩ fun a ha => (ha.more (ha.more (ha.more (ha.more ha.nil rfl) rfl) rfl) rfl)
 rintro _ w55 _ ⟨rfl, K56, S57⟩
 have h := hK37
 refine WO.nx ?_
 refine WO.fin ?_
 refine DN.seq ?_
 revert h
 cases ht58 : p34 with
 | true =>
  intro h; replace h := cT h
  refine WC.ct rfl ?_
  refine WC.seq ?_
  refine WC.rs [(0, 2)] rfl ?_
  refine WO.pn 1 rfl ?_
  refine WO.fin ?_
  refine DN.seq ?_
  refine WC.ret ?_
  refine DN.retThen ?_
  have f59 := hE.stp (S3.tr (S7.tr (S9.tr (S16.tr (S30.tr (S36.tr S57)))))) rfl rfl
  refine DN.res (l := [.tmp 4]) Try.results70 (res_tmp rfl rfl) rfl ?_
  obtain rfl := Option.some.inj h
  exact ⟨K56, rfl, f59⟩
 | false =>
  intro h; replace h := cF h
  refine WC.cf rfl ?_
  refine WC.skip ?_
  refine DN.seq ?_
  refine WC.seq ?_
  refine WC.seq ?_
  refine WC.rs [(0, 2)] rfl ?_
  refine WO.pn 1 rfl ?_
  refine WO.fin ?_
  refine DN.seq ?_
  have hN60 : (p1.Next.length : Int) ≤ 9223372036854775807 := g1_1.len_le
  obtain ⟨q2, hq62, hK61⟩ := Option.bind_eq_some_iff.mp h
  clear h
  refine WC.meet (fun L w' => ∃ (κ' : Col), L = [] ∧ Stp [] K56 w55 κ' w' ∧ q2 = Sum.inr ()) ?_ ?_
  ·
   refine WC.block ?_
   refine WC.loop (fun k L w' => ∃ (κ' : Col) (v6 : Int), L = [(2, .pointer (some ⟨b2, 0, none⟩)), (3, .pointer (some ⟨b3, 0, none⟩)), (5, .int .i64 (p1.In.length : Int)), (6, .int .i64 v6)] ∧ Stp [] K56 w55 κ' w' ∧ 0 ≤ v6 ∧ Int.toNat ((p1.Next.length : Int) - v6) = k ∧ cntM (s_RivalOk_b0 p0 p1) k v6 () = some q2) ⟨_, _, ⟨K56, 0, rfl, (Stp.refl _ _).wk rfl, (by decide), (by simp), hq62⟩, fun a ha => (ha.more (ha.more (ha.more (ha.more ha.nil rfl) rfl) rfl) rfl)⟩ ?_
   rintro k _ w66 ⟨K67, v6, rfl, S68, hj60, hJ60, h⟩
   rcases k with _ | k
   ·
    have hk69 := h; obtain ⟨o60, h⟩ := ex_eq (Sum.inr (Sum.inl ()) : Bool ⊕ ((Unit) ⊕ (Unit)))
    have hc60 : decide (v6 < (p1.Next.length : Int)) = false := decide_eq_false (by omega)
    refine WC.seq ?_
    refine WC.seq ?_
    refine WC.rs [(0, 2), (1, 2), (2, 1), (3, 2), (4, 2)] rfl ?_
    refine WO.pn 1 rfl ?_
    refine WO.k2 rfl rfl rfl rfl (rn_fieldAddr Try.runUnderlying32 rfl Try.sizeOf25 rfl rfl) ?_
    have f70 := f8.stp (S9.tr (S16.tr (S30.tr (S36.tr (S57.tr S68))))) rfl rfl
    refine WO.k1 trivial rfl rfl rfl rfl (rn_ld Try.isAgg25 rfl rfl (hvE (f70.ld 1 rfl rfl))) ?_
    refine WO.k2 rfl rfl rfl rfl (rn_len Try.runUnderlying25 rfl rfl) ?_
    refine WO.pn 1 rfl ?_
    refine WO.fin ?_
    refine DN.seq ?_
    refine WC.cf' rfl hc60 ?_
    refine WC.exit ?_
    refine DN.exitThen ?_
    refine DN.exitThen ?_
    obtain rfl := Option.some.inj h
    have h := hk69
    refine DN.hit ?_
    obtain rfl := Option.some.inj h
    exact DN.meet _ ⟨K67, rfl, S68.wk rfl, rfl⟩ fun a ha => ha.nil
   ·
    obtain ⟨o60, h, hk69⟩ := Option.bind_eq_some_iff.mp h; unfold s_RivalOk_b0 at h
    have hc60 : decide (v6 < (p1.Next.length : Int)) = true := decide_eq_true (by omega)
    refine WC.seq ?_
    refine WC.seq ?_
    refine WC.rs [(0, 2), (1, 2), (2, 1), (3, 2), (4, 2)] rfl ?_
    refine WO.pn 1 rfl ?_
    refine WO.k2 rfl rfl rfl rfl (rn_fieldAddr Try.runUnderlying32 rfl Try.sizeOf25 rfl rfl) ?_
    have f71 := f8.stp (S9.tr (S16.tr (S30.tr (S36.tr (S57.tr S68))))) rfl rfl
    refine WO.k1 trivial rfl rfl rfl rfl (rn_ld Try.isAgg25 rfl rfl (hvE (f71.ld 1 rfl rfl))) ?_
    refine WO.k2 rfl rfl rfl rfl (rn_len Try.runUnderlying25 rfl rfl) ?_
    refine WO.pn 1 rfl ?_
    refine WO.fin ?_
    refine DN.seq ?_
    refine WC.ct' rfl hc60 ?_
    refine WC.skip ?_
    refine DN.seq ?_
    refine WC.seq ?_
    refine WC.block ?_
    refine WC.seq ?_
    refine WC.rx (κ := K67) 5 none [(0, 2), (2, 2), (1, 0), (3, 2), (4, 0), (5, 2), (6, 0), (7, 1), (8, 2), (9, 2), (10, 2), (12, 2), (15, 2), (11, 0), (13, 2), (14, 0), (16, 1), (17, 2), (18, 2)] [] (by kernel_rfl) (by kernel_rfl) fun w73 S72 => ?_
    refine WO.k2 rfl rfl rfl rfl (rn_fieldAddr Try.runUnderlying32 rfl Try.sizeOf25 rfl rfl) ?_
    refine WO.pn 1 rfl ?_
    have f74 := f71.stp S72 rfl rfl
    refine WO.k0 rfl rfl rfl rfl (rn_ld Try.isAgg25 rfl rfl (hvC (f74.ld 1 rfl rfl) rfl)) ?_
    obtain ⟨x45, hx45, h⟩ := Option.bind_eq_some_iff.mp h
    refine WO.k2 rfl rfl rfl rfl (rn_index g1_1 hx45 Try.runUnderlying25 Try.sizeOf24 rfl rfl rfl rfl) ?_
    have f75 := g1_1.stp (S3.tr (S7.tr (S9.tr (S16.tr (S30.tr (S36.tr (S57.tr (S68.tr S72)))))))) rfl rfl
    obtain ⟨ax45, ux45, f76, hl77⟩ := f75.gSl hx45
    refine WO.k0 rfl rfl rfl rfl (rn_ld Try.isAgg24 rfl rfl (hvC hl77 rfl)) ?_
    refine WO.k2 rfl rfl rfl rfl (rn_len Try.runUnderlying24 rfl rfl) ?_
    have f78 := f11.stp (S16.tr (S30.tr (S36.tr (S57.tr (S68.tr S72))))) rfl rfl
    refine WO.k0 rfl rfl rfl rfl (rn_la (cs := [.int .i64 p0.In, .int .i64 p0.Out]) Try.isAgg30 Try.sizeOf30 rfl rfl rfl (haC f78.cells rfl)) ?_
    obtain ⟨x49, hx49, h⟩ := Option.bind_eq_some_iff.mp h
    refine WO.call rfl rfl rfl rfl rfl rfl Try.call79 (s_l33Outputs_ok (κ := fun b => mp [] 0 (K67 b)) hx49) ?_
    rintro _ w79 ⟨k80, rfl, e81⟩
    obtain ⟨K82, S83, m84⟩ := Ent.mixed (l := []) (κ := K67) e81 6 rfl
    refine ⟨(S83.cl rfl), ?_⟩
    refine WO.pn 2 rfl ?_
    obtain ⟨p60, h, hK86⟩ := Option.bind_eq_some_iff.mp h
    refine WO.meet [(10, 2), (12, 2), (15, 2), (11, 0), (13, 2), (14, 0), (16, 1), (17, 2), (18, 2)] [] (fun L w' => L = [(2, .pointer (some ⟨b2, 0, none⟩)), (3, .pointer (some ⟨b3, 0, none⟩)), (5, .int .i64 (p1.In.length : Int)), (6, .int .i64 v6), (60, .bool p60)] ∧ ∃ κ', Stp [] K82 w79 κ' w') (S83.cl rfl) ?_ ?_
    ·
     revert h
     cases ht87 : ((x45.length : Int) != x49) with
     | true =>
      intro h; replace h := cT h
      refine WO.pn 3 rfl ?_
      refine WO.qs rfl rfl rfl rfl ?_
      refine WO.pn 1 rfl ?_
      refine WO.qs rfl rfl rfl rfl ?_
      refine WO.ls rfl rfl rfl rfl ?_
      refine WO.pn 2 rfl ?_
      obtain rfl := Option.some.inj h
      exact WO.met _ (S83.cl rfl) ⟨rfl, _, (Stp.refl _ _).wk rfl⟩ fun a ha => (ha.more (ha.more (ha.more (ha.more (ha.more ha.nil rfl) rfl) rfl) rfl) rfl)
     | false =>
      intro h; replace h := cF h
      refine WO.k2 rfl rfl rfl rfl (rn_fieldAddr Try.runUnderlying32 rfl Try.sizeOf25 rfl rfl) ?_
      refine WO.pn 2 rfl ?_
      refine WO.k0 rfl rfl rfl rfl (rn_ld Try.isAgg25 rfl rfl (hvC (f74.ld 1 rfl rfl) rfl)) ?_
      obtain ⟨x55, hx55, h⟩ := Option.bind_eq_some_iff.mp h
      refine WO.k2 rfl rfl rfl rfl (rn_index f75 hx55 Try.runUnderlying25 Try.sizeOf24 rfl rfl rfl rfl) ?_
      obtain ⟨ax55, ux55, f88, hl89⟩ := f75.gSl hx55
      refine WO.k0 rfl rfl rfl rfl (rn_ld Try.isAgg24 rfl rfl (hvC hl89 rfl)) ?_
      obtain ⟨x58, hx58, h⟩ := Option.bind_eq_some_iff.mp h
      have f90 := f88.stp S83 rfl rfl
      refine WO.call rfl rfl rfl rfl rfl rfl Try.call78 (s_l23Below_ok (κ := fun b => mp [] 0 (K82 b)) (Sl.map f90 (mp [] 0) rfl rfl) hx58) ?_
      rintro _ w91 ⟨k92, rfl, e93⟩
      obtain ⟨K94, S95, m96⟩ := Ent.mixed (l := []) (κ := K82) e93 8 rfl
      refine ⟨((S83.tr S95).cl rfl), ?_⟩
      refine WO.pn 2 rfl ?_
      obtain rfl := Option.some.inj h
      exact WO.met _ ((S83.tr S95).cl rfl) ⟨rfl, _, S95.wk rfl⟩ fun a ha => (ha.more (ha.more (ha.more (ha.more (ha.more ha.nil rfl) rfl) rfl) rfl) rfl)
    rintro _ w98 _ ⟨rfl, K99, S100⟩
    have h := hK86
    refine WO.nx ?_
    refine WO.fin ?_
    refine DN.seq ?_
    revert h
    cases ht101 : p60 with
    | true =>
     intro h; replace h := cT h
     refine WC.ct rfl ?_
     refine WC.seq ?_
     refine WC.rs [(0, 2)] rfl ?_
     refine WO.pn 1 rfl ?_
     refine WO.fin ?_
     refine DN.seq ?_
     refine WC.ret ?_
     refine DN.retBlock ?_
     refine DN.retThen ?_
     refine DN.retThen ?_
     obtain rfl := Option.some.inj h
     obtain rfl := Option.some.inj hk69
     have h := hK61
     dsimp only [aft] at h
     refine DN.retBlock ?_
     refine DN.retMeet ?_
     refine DN.retThen ?_
     have f102 := hE.stp (S3.tr (S7.tr (S9.tr (S16.tr (S30.tr (S36.tr (S57.tr (S68.tr (S72.tr (S83.tr S100)))))))))) rfl rfl
     refine DN.res (l := [.tmp 4]) Try.results70 (res_tmp rfl rfl) rfl ?_
     obtain rfl := Option.some.inj h
     exact ⟨K99, rfl, f102⟩
    | false =>
     intro h; replace h := cF h
     refine WC.cf rfl ?_
     refine WC.skip ?_
     refine DN.block ?_
     refine DN.seq ?_
     refine WC.rs [(0, 2), (1, 2), (2, 2)] rfl ?_
     refine WO.pn 3 rfl ?_
     refine WO.fin ?_
     have hw60 : IntKind.wrap .i64 (v6 + 1) = v6 + 1 := wr1 hj60 (of_decide_eq_true hc60) hN60
     rw [hw60]
     have hc60 := of_decide_eq_true hc60
     obtain rfl := Option.some.inj h
     refine DN.round fun a ha => ?_
     exact ⟨k, _, Nat.lt_succ_self _, ⟨K99, v6 + 1, rfl, (S68.tr (S72.tr (S83.tr S100))).wk rfl, by omega, by omega, hk69⟩, (ha.more (ha.more (ha.more (ha.more ha.nil rfl) rfl) rfl) rfl)⟩
  rintro _ w63 ⟨K64, rfl, S65, rfl⟩
  have h := hK61
  dsimp only [aft] at h
  refine DN.seq ?_
  refine WC.seq ?_
  refine WC.rs [(0, 2)] rfl ?_
  refine WO.pn 1 rfl ?_
  refine WO.fin ?_
  refine DN.seq ?_
  refine WC.ret ?_
  have f103 := hE.stp (S3.tr (S7.tr (S9.tr (S16.tr (S30.tr (S36.tr (S57.tr S65))))))) rfl rfl
  refine DN.res (l := [.tmp 4]) Try.results70 (res_tmp rfl rfl) rfl ?_
  obtain rfl := Option.some.inj h
  exact ⟨K64, rfl, f103⟩

/- loop.example/g00869/spec.SameRival -/
theorem s_SameRival_ok {w : World} {κ : Col} {p0 : Sig} {a1_0 : Option Addr} {u1_0 : Nat} {a1_1 : Option Addr} {u1_1 : Nat} {p1 : Rival} {a2_0 : Option Addr} {u2_0 : Nat} {a2_1 : Option Addr} {u2_1 : Nat} {p2 : Rival} (g1_0 : Rd (Rp.int .i64) κ w 0 a1_0 u1_0 p1.In) (g1_1 : Rd (Rp.sl (Rp.int .i64)) κ w 0 a1_1 u1_1 p1.Next) (g2_0 : Rd (Rp.int .i64) κ w 0 a2_0 u2_0 p2.In) (g2_1 : Rd (Rp.sl (Rp.int .i64)) κ w 0 a2_1 u2_1 p2.Next) {r : Bool} (h : s_SameRival p0 p1 p2 = some r) : Ret Try.prog 16 [.agg #[.int .i64 p0.In, .int .i64 p0.Out], .agg #[.slice a1_0 p1.In.length u1_0, .slice a1_1 p1.Next.length u1_1], .agg #[.slice a2_0 p2.In.length u2_0, .slice a2_1 p2.Next.length u2_1]] w (fun v w' => ∃ (κ' : Col), v = .bool r ∧ Ent κ w κ' w') := by
 unfold s_SameRival at h
 refine Ret.enter Try.func16 rfl Try.ntmps16 rfl ?_
 dsimp only [envOf]
 have hE := Ent.refl κ w
 refine WC.seq ?_
 refine WC.rs [(0, 1), (1, 1), (2, 1), (3, 2)] rfl ?_
 refine WO.box (κ := κ) 2 rfl rfl rfl rfl rfl rfl rfl fun b3 w1 K2 S3 f4 => ⟨trivial, ?_⟩
 refine WO.box (κ := K2) 3 rfl rfl rfl rfl rfl rfl rfl fun b4 w5 K6 S7 f8 => ⟨trivial, ?_⟩
 refine WO.box (κ := K6) 4 rfl rfl rfl rfl rfl rfl rfl fun b5 w9 K10 S11 f12 => ⟨trivial, ?_⟩
 refine WO.pn 1 rfl ?_
 refine WO.fin ?_
 refine DN.seq ?_
 refine WC.seq ?_
 refine WC.seq ?_
 refine WC.rs [(0, 1), (1, 1), (2, 1), (3, 2), (4, 2), (5, 1), (6, 1), (7, 1), (8, 2), (9, 2), (10, 2), (11, 2), (12, 1), (13, 2), (14, 1), (15, 1), (16, 2), (17, 2)] rfl ?_
 have f13 := f4.stp (S7.tr S11) rfl rfl
 refine WO.k1 trivial rfl rfl rfl rfl (rn_la (cs := [.int .i64 p0.In, .int .i64 p0.Out]) Try.isAgg30 Try.sizeOf30 rfl rfl rfl (haE f13.cells)) ?_
 have f14 := f8.stp S11 rfl rfl
 refine WO.k1 trivial rfl rfl rfl rfl (rn_la (cs := [.slice a1_0 p1.In.length u1_0, .slice a1_1 p1.Next.length u1_1]) Try.isAgg32 Try.sizeOf32 rfl rfl rfl (haE f14.cells)) ?_
 obtain ⟨x10, hx10, h⟩ := Option.bind_eq_some_iff.mp h
 have f15 := g1_0.stp (S3.tr (S7.tr S11)) rfl rfl
 have f16 := g1_1.stp (S3.tr (S7.tr S11)) rfl rfl
 refine WO.call rfl rfl rfl rfl rfl rfl Try.call70 (s_RivalOk_ok (κ := fun b => mp [] 0 (K10 b)) (Sl.map f15 (mp [] 0) rfl rfl) (Sl.map f16 (mp [] 0) rfl rfl) hx10) ?_
 rintro _ w17 ⟨k18, rfl, e19⟩
 obtain ⟨K20, S21, m22⟩ := Ent.mixed (l := []) (κ := K10) e19 5 rfl
 refine ⟨trivial, ?_⟩
 refine WO.pn 2 rfl ?_
 obtain ⟨p17, h, hK24⟩ := Option.bind_eq_some_iff.mp h
 refine WO.meet [(5, 1), (6, 1), (7, 1), (8, 2), (9, 2)] [(10, 2), (11, 2), (12, 1), (13, 2), (14, 1), (15, 1), (16, 2), (17, 2)] (fun L w' => L = [(4, .pointer (some ⟨b4, 0, none⟩)), (5, .pointer (some ⟨b5, 0, none⟩)), (17, .bool p17)] ∧ ∃ κ', Stp [] K20 w17 κ' w') trivial ?_ ?_
 ·
  revert h
  cases ht25 : (!x10) with
  | true =>
   intro h; replace h := cT h
   refine WO.ls rfl rfl rfl rfl ?_
   refine WO.ls rfl rfl rfl rfl ?_
   refine WO.ls rfl rfl rfl rfl ?_
   refine WO.pn 2 rfl ?_
   obtain rfl := Option.some.inj h
   exact WO.met _ trivial ⟨rfl, _, (Stp.refl _ _).wk rfl⟩ fun a ha => (ha.more (ha.more (ha.more ha.nil rfl) rfl) rfl)
  | false =>
   intro h; replace h := cF h
   have f26 := f13.stp S21 rfl rfl
   refine WO.k1 trivial rfl rfl rfl rfl (rn_la (cs := [.int .i64 p0.In, .int .i64 p0.Out]) Try.isAgg30 Try.sizeOf30 rfl rfl rfl (haE f26.cells)) ?_
   have f27 := f12.stp S21 rfl rfl
   refine WO.k1 trivial rfl rfl rfl rfl (rn_la (cs := [.slice a2_0 p2.In.length u2_0, .slice a2_1 p2.Next.length u2_1]) Try.isAgg32 Try.sizeOf32 rfl rfl rfl (haE f27.cells)) ?_
   obtain ⟨x15, hx15, h⟩ := Option.bind_eq_some_iff.mp h
   have f28 := g2_0.stp (S3.tr (S7.tr (S11.tr S21))) rfl rfl
   have f29 := g2_1.stp (S3.tr (S7.tr (S11.tr S21))) rfl rfl
   refine WO.call rfl rfl rfl rfl rfl rfl Try.call70 (s_RivalOk_ok (κ := fun b => mp [] 0 (K20 b)) (Sl.map f28 (mp [] 0) rfl rfl) (Sl.map f29 (mp [] 0) rfl rfl) hx15) ?_
   rintro _ w30 ⟨k31, rfl, e32⟩
   obtain ⟨K33, S34, m35⟩ := Ent.mixed (l := []) (κ := K20) e32 7 rfl
   refine ⟨trivial, ?_⟩
   refine WO.pn 2 rfl ?_
   obtain rfl := Option.some.inj h
   exact WO.met _ trivial ⟨rfl, _, S34.wk rfl⟩ fun a ha => (ha.more (ha.more (ha.more ha.nil rfl) rfl) rfl)
 rintro _ w37 _ ⟨rfl, K38, S39⟩
 have h := hK24
 refine WO.pn 1 rfl ?_
 obtain ⟨p25, h, hK40⟩ := Option.bind_eq_some_iff.mp h
 refine WO.meet [(11, 2), (12, 1), (13, 2), (14, 1), (15, 1), (16, 2), (17, 2)] [] (fun L w' => L = [(4, .pointer (some ⟨b4, 0, none⟩)), (5, .pointer (some ⟨b5, 0, none⟩)), (25, .bool p25)] ∧ ∃ κ', Stp [] K38 w37 κ' w') trivial ?_ ?_
 ·
  revert h
  cases ht41 : p17 with
  | true =>
   intro h; replace h := cT h
   refine WO.pn 1 rfl ?_
   refine WO.ls rfl rfl rfl rfl ?_
   refine WO.pn 1 rfl ?_
   refine WO.ls rfl rfl rfl rfl ?_
   refine WO.ls rfl rfl rfl rfl ?_
   refine WO.pn 2 rfl ?_
   obtain rfl := Option.some.inj h
   exact WO.met _ trivial ⟨rfl, _, (Stp.refl _ _).wk rfl⟩ fun a ha => (ha.more (ha.more (ha.more ha.nil rfl) rfl) rfl)
  | false =>
   intro h; replace h := cF h
   refine WO.k2 rfl rfl rfl rfl (rn_fieldAddr Try.runUnderlying32 rfl Try.sizeOf24 rfl rfl) ?_
   have f42 := f14.stp (S21.tr S39) rfl rfl
   refine WO.k1 trivial rfl rfl rfl rfl (rn_ld Try.isAgg24 rfl rfl (hvE (f42.ld 0 rfl rfl))) ?_
   refine WO.k2 rfl rfl rfl rfl (rn_fieldAddr Try.runUnderlying32 rfl Try.sizeOf24 rfl rfl) ?_
   have f43 := f12.stp (S21.tr S39) rfl rfl
   refine WO.k1 trivial rfl rfl rfl rfl (rn_ld Try.isAgg24 rfl rfl (hvE (f43.ld 0 rfl rfl))) ?_
   obtain ⟨x23, hx23, h⟩ := Option.bind_eq_some_iff.mp h
   have f44 := f15.stp (S21.tr S39) rfl rfl
   have f45 := g2_0.stp (S3.tr (S7.tr (S11.tr (S21.tr S39)))) rfl rfl
   refine WO.call rfl rfl rfl rfl rfl rfl Try.call71 (s_l1Same_ok (κ := fun b => mp [] 0 (K38 b)) (Sl.map f44 (mp [] 0) rfl rfl) (Sl.map f45 (mp [] 0) rfl rfl) hx23) ?_
   rintro _ w46 ⟨k47, rfl, e48⟩
   obtain ⟨K49, S50, m51⟩ := Ent.mixed (l := []) (κ := K38) e48 7 rfl
   refine ⟨trivial, ?_⟩
   refine WO.pn 2 rfl ?_
   obtain rfl := Option.some.inj h
   exact WO.met _ trivial ⟨rfl, _, S50.wk rfl⟩ fun a ha => (ha.more (ha.more (ha.more ha.nil rfl) rfl) rfl)
 rintro _ w53 _ ⟨rfl, K54, S55⟩
 have h := hK40
 refine WO.fin ?_
 refine DN.seq ?_
 revert h
 cases ht56 : p25 with
 | true =>
  intro h; replace h := cT h
  refine WC.ct rfl ?_
  refine WC.seq ?_
  refine WC.rs [(0, 2)] rfl ?_
  refine WO.pn 1 rfl ?_
  refine WO.fin ?_
  refine DN.seq ?_
  refine WC.ret ?_
  refine DN.retThen ?_
  have f57 := hE.stp (S3.tr (S7.tr (S11.tr (S21.tr (S39.tr S55))))) rfl rfl
  refine DN.res (l := [.tmp 6]) Try.results16 (res_tmp rfl rfl) rfl ?_
  obtain rfl := Option.some.inj h
  exact ⟨K54, rfl, f57⟩
 | false =>
  intro h; replace h := cF h
  refine WC.cf rfl ?_
  refine WC.skip ?_
  refine DN.seq ?_
  refine WC.seq ?_
  refine WC.seq ?_
  refine WC.rs [(0, 2)] rfl ?_
  refine WO.pn 1 rfl ?_
  refine WO.fin ?_
  refine DN.seq ?_
  have hN58 : (p1.Next.length : Int) ≤ 9223372036854775807 := f16.len_le
  obtain ⟨q2, hq60, hK59⟩ := Option.bind_eq_some_iff.mp h
  clear h
  refine WC.meet (fun L w' => ∃ (κ' : Col), L = [] ∧ Stp [] K54 w53 κ' w' ∧ q2 = Sum.inr ()) ?_ ?_
  ·
   refine WC.block ?_
   refine WC.loop (fun k L w' => ∃ (κ' : Col) (v7 : Int), L = [(4, .pointer (some ⟨b4, 0, none⟩)), (5, .pointer (some ⟨b5, 0, none⟩)), (7, .int .i64 v7)] ∧ Stp [] K54 w53 κ' w' ∧ 0 ≤ v7 ∧ Int.toNat ((p1.Next.length : Int) - v7) = k ∧ cntM (s_SameRival_b0 p1 p2) k v7 () = some q2) ⟨_, _, ⟨K54, 0, rfl, (Stp.refl _ _).wk rfl, (by decide), (by simp), hq60⟩, fun a ha => (ha.more (ha.more (ha.more ha.nil rfl) rfl) rfl)⟩ ?_
   rintro k _ w64 ⟨K65, v7, rfl, S66, hj58, hJ58, h⟩
   rcases k with _ | k
   ·
    have hk67 := h; obtain ⟨o58, h⟩ := ex_eq (Sum.inr (Sum.inl ()) : Bool ⊕ ((Unit) ⊕ (Unit)))
    have hc58 : decide (v7 < (p1.Next.length : Int)) = false := decide_eq_false (by omega)
    refine WC.seq ?_
    refine WC.seq ?_
    refine WC.rs [(0, 2), (1, 2), (2, 1), (3, 2), (4, 2)] rfl ?_
    refine WO.pn 1 rfl ?_
    refine WO.k2 rfl rfl rfl rfl (rn_fieldAddr Try.runUnderlying32 rfl Try.sizeOf25 rfl rfl) ?_
    have f68 := f14.stp (S21.tr (S39.tr (S55.tr S66))) rfl rfl
    refine WO.k1 trivial rfl rfl rfl rfl (rn_ld Try.isAgg25 rfl rfl (hvE (f68.ld 1 rfl rfl))) ?_
    refine WO.k2 rfl rfl rfl rfl (rn_len Try.runUnderlying25 rfl rfl) ?_
    refine WO.pn 1 rfl ?_
    refine WO.fin ?_
    refine DN.seq ?_
    refine WC.cf' rfl hc58 ?_
    refine WC.exit ?_
    refine DN.exitThen ?_
    refine DN.exitThen ?_
    obtain rfl := Option.some.inj h
    have h := hk67
    refine DN.hit ?_
    obtain rfl := Option.some.inj h
    exact DN.meet _ ⟨K65, rfl, S66.wk rfl, rfl⟩ fun a ha => ha.nil
   ·
    obtain ⟨o58, h, hk67⟩ := Option.bind_eq_some_iff.mp h; unfold s_SameRival_b0 at h
    have hc58 : decide (v7 < (p1.Next.length : Int)) = true := decide_eq_true (by omega)
    refine WC.seq ?_
    refine WC.seq ?_
    refine WC.rs [(0, 2), (1, 2), (2, 1), (3, 2), (4, 2)] rfl ?_
    refine WO.pn 1 rfl ?_
    refine WO.k2 rfl rfl rfl rfl (rn_fieldAddr Try.runUnderlying32 rfl Try.sizeOf25 rfl rfl) ?_
    have f69 := f14.stp (S21.tr (S39.tr (S55.tr S66))) rfl rfl
    refine WO.k1 trivial rfl rfl rfl rfl (rn_ld Try.isAgg25 rfl rfl (hvE (f69.ld 1 rfl rfl))) ?_
    refine WO.k2 rfl rfl rfl rfl (rn_len Try.runUnderlying25 rfl rfl) ?_
    refine WO.pn 1 rfl ?_
    refine WO.fin ?_
    refine DN.seq ?_
    refine WC.ct' rfl hc58 ?_
    refine WC.skip ?_
    refine DN.seq ?_
    refine WC.seq ?_
    refine WC.block ?_
    refine WC.seq ?_
    refine WC.rx (κ := K65) 6 none [(0, 2), (2, 2), (5, 2), (7, 2), (1, 0), (3, 2), (4, 0), (6, 0), (8, 2), (9, 0), (10, 1), (11, 2)] [] (by kernel_rfl) (by kernel_rfl) fun w71 S70 => ?_
    refine WO.k2 rfl rfl rfl rfl (rn_fieldAddr Try.runUnderlying32 rfl Try.sizeOf25 rfl rfl) ?_
    refine WO.pn 1 rfl ?_
    refine WO.k2 rfl rfl rfl rfl (rn_fieldAddr Try.runUnderlying32 rfl Try.sizeOf25 rfl rfl) ?_
    refine WO.pn 1 rfl ?_
    have f72 := f69.stp S70 rfl rfl
    refine WO.k0 rfl rfl rfl rfl (rn_ld Try.isAgg25 rfl rfl (hvC (f72.ld 1 rfl rfl) rfl)) ?_
    obtain ⟨x36, hx36, h⟩ := Option.bind_eq_some_iff.mp h
    refine WO.k2 rfl rfl rfl rfl (rn_index f16 hx36 Try.runUnderlying25 Try.sizeOf24 rfl rfl rfl rfl) ?_
    have f73 := f16.stp (S21.tr (S39.tr (S55.tr (S66.tr S70)))) rfl rfl
    obtain ⟨ax36, ux36, f74, hl75⟩ := f73.gSl hx36
    refine WO.k0 rfl rfl rfl rfl (rn_ld Try.isAgg24 rfl rfl (hvC hl75 rfl)) ?_
    have f76 := f12.stp (S21.tr (S39.tr (S55.tr (S66.tr S70)))) rfl rfl
    refine WO.k0 rfl rfl rfl rfl (rn_ld Try.isAgg25 rfl rfl (hvC (f76.ld 1 rfl rfl) rfl)) ?_
    obtain ⟨x41, hx41, h⟩ := Option.bind_eq_some_iff.mp h
    refine WO.k2 rfl rfl rfl rfl (rn_index g2_1 hx41 Try.runUnderlying25 Try.sizeOf24 rfl rfl rfl rfl) ?_
    have f77 := g2_1.stp (S3.tr (S7.tr (S11.tr (S21.tr (S39.tr (S55.tr (S66.tr S70))))))) rfl rfl
    obtain ⟨ax41, ux41, f78, hl79⟩ := f77.gSl hx41
    refine WO.k0 rfl rfl rfl rfl (rn_ld Try.isAgg24 rfl rfl (hvC hl79 rfl)) ?_
    obtain ⟨x43, hx43, h⟩ := Option.bind_eq_some_iff.mp h
    refine WO.call rfl rfl rfl rfl rfl rfl Try.call71 (s_l1Same_ok (κ := fun b => mp [] 0 (K65 b)) (Sl.map f74 (mp [] 0) rfl rfl) (Sl.map f78 (mp [] 0) rfl rfl) hx43) ?_
    rintro _ w80 ⟨k81, rfl, e82⟩
    obtain ⟨K83, S84, m85⟩ := Ent.mixed (l := []) (κ := K65) e82 7 rfl
    refine ⟨(S84.cl rfl), ?_⟩
    refine WO.pn 1 rfl ?_
    refine WO.nx ?_
    refine WO.fin ?_
    refine DN.seq ?_
    revert h
    cases ht87 : (!x43) with
    | true =>
     intro h; replace h := cT h
     refine WC.ct rfl ?_
     refine WC.seq ?_
     refine WC.rs [(0, 2)] rfl ?_
     refine WO.pn 1 rfl ?_
     refine WO.fin ?_
     refine DN.seq ?_
     refine WC.ret ?_
     refine DN.retBlock ?_
     refine DN.retThen ?_
     refine DN.retThen ?_
     obtain rfl := Option.some.inj h
     obtain rfl := Option.some.inj hk67
     have h := hK59
     dsimp only [aft] at h
     refine DN.retBlock ?_
     refine DN.retMeet ?_
     refine DN.retThen ?_
     have f88 := hE.stp (S3.tr (S7.tr (S11.tr (S21.tr (S39.tr (S55.tr (S66.tr (S70.tr S84)))))))) rfl rfl
     refine DN.res (l := [.tmp 6]) Try.results16 (res_tmp rfl rfl) rfl ?_
     obtain rfl := Option.some.inj h
     exact ⟨K83, rfl, f88⟩
    | false =>
     intro h; replace h := cF h
     refine WC.cf rfl ?_
     refine WC.skip ?_
     refine DN.block ?_
     refine DN.seq ?_
     refine WC.rs [(0, 2), (1, 2), (2, 2)] rfl ?_
     refine WO.pn 3 rfl ?_
     refine WO.fin ?_
     have hw58 : IntKind.wrap .i64 (v7 + 1) = v7 + 1 := wr1 hj58 (of_decide_eq_true hc58) hN58
     rw [hw58]
     have hc58 := of_decide_eq_true hc58
     obtain rfl := Option.some.inj h
     refine DN.round fun a ha => ?_
     exact ⟨k, _, Nat.lt_succ_self _, ⟨K83, v7 + 1, rfl, (S66.tr (S70.tr S84)).wk rfl, by omega, by omega, hk67⟩, (ha.more (ha.more (ha.more ha.nil rfl) rfl) rfl)⟩
  rintro _ w61 ⟨K62, rfl, S63, rfl⟩
  have h := hK59
  dsimp only [aft] at h
  refine DN.seq ?_
  refine WC.seq ?_
  refine WC.rs [(0, 2)] rfl ?_
  refine WO.pn 1 rfl ?_
  refine WO.fin ?_
  refine DN.seq ?_
  refine WC.ret ?_
  have f89 := hE.stp (S3.tr (S7.tr (S11.tr (S21.tr (S39.tr (S55.tr S63)))))) rfl rfl
  refine DN.res (l := [.tmp 6]) Try.results16 (res_tmp rfl rfl) rfl ?_
  obtain rfl := Option.some.inj h
  exact ⟨K62, rfl, f89⟩

/- slices.ContainsFunc[[]int64,int64] -/
theorem slices_ContainsFunc_I_int64__i_areLetters_1_ok {w : World} {κ : Col} {a0 : Option Addr} {u0 : Nat} {p0 : (List Int)} {c1_0 : Int} {b1_0 : Nat} (g0 : Rd (Rp.int .i64) κ w 0 a0 u0 p0) (gb1_0 : Bc κ w 0 b1_0 2 [.int .i64 c1_0]) {r : Bool} (h : slices_ContainsFunc_I_int64__i_areLetters_1 p0 c1_0 = some r) : Ret Try.prog 134 [.slice a0 p0.length u0, .func (.func 135) #[] #[.pointer (some ⟨b1_0, 0, none⟩)]] w (fun v w' => ∃ (κ' : Col), v = .bool r ∧ Ent κ w κ' w') := by
 unfold slices_ContainsFunc_I_int64__i_areLetters_1 at h
 refine Ret.enter Try.func134 rfl Try.ntmps134 rfl ?_
 dsimp only [envOf]
 have hE := Ent.refl κ w
 refine WC.seq ?_
 refine WC.rs [(0, 2)] rfl ?_
 refine WO.pn 1 rfl ?_
 refine WO.fin ?_
 refine DN.seq ?_
 refine WC.seq ?_
 refine WC.rs [(0, 2), (1, 2), (2, 1), (3, 2), (4, 2)] rfl ?_
 refine WO.pn 2 rfl ?_
 obtain ⟨x7, hx7, h⟩ := Option.bind_eq_some_iff.mp h
 refine WO.call rfl rfl rfl rfl rfl rfl Try.call153 (slices_IndexFunc_I_int64__i_areLetters_1_ok (κ := fun b => mp [] 0 (κ b)) (Sl.map g0 (mp [] 0) rfl rfl) (gb1_0.map (mp [] 0) rfl rfl) hx7) ?_
 rintro _ w1 ⟨k2, rfl, e3⟩
 obtain ⟨K4, S5, m6⟩ := Ent.mixed (l := []) (κ := κ) e3 2 rfl
 refine ⟨trivial, ?_⟩
 refine WO.pn 2 rfl ?_
 refine WO.fin ?_
 refine DN.seq ?_
 refine WC.ret ?_
 have f8 := hE.stp S5 rfl rfl
 refine DN.res (l := [.tmp 4]) Try.results134 (res_tmp rfl rfl) rfl ?_
 obtain rfl := Option.some.inj h
 exact ⟨K4, rfl, f8⟩

/- loop.example/g00869/impl.areLetters -/
theorem i_areLetters_ok {w : World} {κ : Col} {a0 : Option Addr} {u0 : Nat} {p0 : (List Int)} {p1 : Int} (g0 : Rd (Rp.int .i64) κ w 0 a0 u0 p0) {r : Bool} (h : i_areLetters p0 p1 = some r) : Ret Try.prog 80 [.slice a0 p0.length u0, .int .i64 p1] w (fun v w' => ∃ (κ' : Col), v = .bool r ∧ Ent κ w κ' w') := by
 unfold i_areLetters at h
 refine Ret.enter Try.func80 rfl Try.ntmps80 rfl ?_
 dsimp only [envOf]
 have hE := Ent.refl κ w
 refine WC.seq ?_
 refine WC.rs [(0, 1), (1, 2)] rfl ?_
 refine WO.box (κ := κ) 2 rfl rfl rfl rfl rfl rfl rfl fun b3 w1 K2 S3 f4 => ⟨trivial, ?_⟩
 refine WO.pn 1 rfl ?_
 refine WO.fin ?_
 refine DN.seq ?_
 refine WC.seq ?_
 refine WC.rs [(0, 2), (1, 2), (2, 1), (3, 2), (4, 2)] rfl ?_
 refine WO.pn 1 rfl ?_
 refine WO.k2 rfl rfl rfl rfl (rn_makeFunc (first := []) (captured := [.tmp 3]) rfl rfl rfl ⟨_, rfl⟩) ?_
 obtain ⟨x7, hx7, h⟩ := Option.bind_eq_some_iff.mp h
 have f5 := g0.stp S3 rfl rfl
 refine WO.call rfl rfl rfl rfl rfl rfl Try.call134 (slices_ContainsFunc_I_int64__i_areLetters_1_ok (κ := fun b => mp [] 0 (K2 b)) (Sl.map f5 (mp [] 0) rfl rfl) (f4.map (mp [] 0) rfl rfl) hx7) ?_
 rintro _ w6 ⟨k7, rfl, e8⟩
 obtain ⟨K9, S10, m11⟩ := Ent.mixed (l := []) (κ := K2) e8 3 rfl
 refine ⟨trivial, ?_⟩
 refine WO.pn 2 rfl ?_
 refine WO.fin ?_
 refine DN.seq ?_
 refine WC.ret ?_
 have f13 := hE.stp (S3.tr S10) rfl rfl
 refine DN.res (l := [.tmp 4]) Try.results80 (res_tmp rfl rfl) rfl ?_
 obtain rfl := Option.some.inj h
 exact ⟨K9, rfl, f13⟩

/- loop.example/g00869/impl.isRival -/
theorem i_isRival_ok {w : World} {κ : Col} {p0 : Sig} {a1_0 : Option Addr} {u1_0 : Nat} {a1_1 : Option Addr} {u1_1 : Nat} {p1 : Rival} (g1_0 : Rd (Rp.int .i64) κ w 0 a1_0 u1_0 p1.In) (g1_1 : Rd (Rp.sl (Rp.int .i64)) κ w 0 a1_1 u1_1 p1.Next) {r : Bool} (h : i_isRival p0 p1 = some r) : Ret Try.prog 74 [.agg #[.int .i64 p0.In, .int .i64 p0.Out], .agg #[.slice a1_0 p1.In.length u1_0, .slice a1_1 p1.Next.length u1_1]] w (fun v w' => ∃ (κ' : Col), v = .bool r ∧ Ent κ w κ' w') := by
 unfold i_isRival at h
 refine Ret.enter Try.func74 rfl Try.ntmps74 rfl ?_
 dsimp only [envOf]
 have hE := Ent.refl κ w
 refine WC.seq ?_
 refine WC.rs [(0, 1), (1, 1), (2, 2)] rfl ?_
 refine WO.box (κ := κ) 2 rfl rfl rfl rfl rfl rfl rfl fun b2 w1 K2 S3 f4 => ⟨trivial, ?_⟩
 refine WO.box (κ := K2) 3 rfl rfl rfl rfl rfl rfl rfl fun b3 w5 K6 S7 f8 => ⟨trivial, ?_⟩
 refine WO.pn 1 rfl ?_
 refine WO.fin ?_
 refine DN.seq ?_
 refine WC.seq ?_
 refine WC.rs [(0, 2), (1, 1), (2, 2), (3, 2)] rfl ?_
 refine WO.k2 rfl rfl rfl rfl (rn_fieldAddr Try.runUnderlying32 rfl Try.sizeOf24 rfl rfl) ?_
 refine WO.k1 trivial rfl rfl rfl rfl (rn_ld Try.isAgg24 rfl rfl (hvE (f8.ld 0 rfl rfl))) ?_
 refine WO.k2 rfl rfl rfl rfl (rn_len Try.runUnderlying24 rfl rfl) ?_
 refine WO.pn 1 rfl ?_
 refine WO.fin ?_
 refine DN.seq ?_
 refine WC.seq ?_
 refine WC.seq ?_
 refine WC.rx (κ := K6) 3 none [(0, 2), (1, 2), (2, 2), (3, 2), (4, 2), (5, 2), (6, 2), (7, 2), (10, 2), (8, 0), (9, 2), (11, 0), (12, 2), (13, 2), (14, 2), (15, 2), (16, 2), (17, 0), (18, 0), (19, 1), (20, 1), (21, 2), (22, 2)] [] (by kernel_rfl) (by kernel_rfl) fun w10 S9 => ?_
 refine WO.pn 3 rfl ?_
 obtain ⟨p16, h, hK11⟩ := Option.bind_eq_some_iff.mp h
 refine WO.meet [(3, 2), (4, 2), (5, 2)] [(6, 2), (7, 2), (10, 2), (8, 0), (9, 2), (11, 0), (12, 2), (13, 2), (14, 2), (15, 2), (16, 2), (17, 0), (18, 0), (19, 1), (20, 1), (21, 2), (22, 2)] (fun L w' => L = [(2, .pointer (some ⟨b2, 0, none⟩)), (3, .pointer (some ⟨b3, 0, none⟩)), (5, .int .i64 (p1.In.length : Int)), (16, .bool p16)] ∧ ∃ κ', Stp [] K6 w10 κ' w') (Cl.refl _ _ _) ?_ ?_
 ·
  revert h
  cases ht12 : decide ((p1.In.length : Int) < 1) with
  | true =>
   intro h; replace h := cT h
   refine WO.pn 3 rfl ?_
   obtain rfl := Option.some.inj h
   exact WO.met _ (Cl.refl _ _ _) ⟨rfl, _, (Stp.refl _ _).wk rfl⟩ fun a ha => (ha.more (ha.more (ha.more (ha.more ha.nil rfl) rfl) rfl) rfl)
  | false =>
   intro h; replace h := cF h
   refine WO.pn 3 rfl ?_
   obtain rfl := Option.some.inj h
   exact WO.met _ (Cl.refl _ _ _) ⟨rfl, _, (Stp.refl _ _).wk rfl⟩ fun a ha => (ha.more (ha.more (ha.more (ha.more ha.nil rfl) rfl) rfl) rfl)
 rintro _ w13 _ ⟨rfl, K14, S15⟩
 have h := hK11
 refine WO.pn 1 rfl ?_
 obtain ⟨p25, h, hK16⟩ := Option.bind_eq_some_iff.mp h
 refine WO.meet [(7, 2), (10, 2), (8, 0), (9, 2), (11, 0), (12, 2), (13, 2), (14, 2)] [(15, 2), (16, 2), (17, 0), (18, 0), (19, 1), (20, 1), (21, 2), (22, 2)] (fun L w' => L = [(2, .pointer (some ⟨b2, 0, none⟩)), (3, .pointer (some ⟨b3, 0, none⟩)), (5, .int .i64 (p1.In.length : Int)), (25, .bool p25)] ∧ ∃ κ', Stp [] K14 w13 κ' w') (S15.cl rfl) ?_ ?_
 ·
  revert h
  cases ht17 : p16 with
  | true =>
   intro h; replace h := cT h
   refine WO.pn 2 rfl ?_
   refine WO.qs rfl rfl rfl rfl ?_
   refine WO.pn 1 rfl ?_
   refine WO.qs rfl rfl rfl rfl ?_
   refine WO.pn 3 rfl ?_
   obtain rfl := Option.some.inj h
   exact WO.met _ (S15.cl rfl) ⟨rfl, _, (Stp.refl _ _).wk rfl⟩ fun a ha => (ha.more (ha.more (ha.more (ha.more ha.nil rfl) rfl) rfl) rfl)
  | false =>
   intro h; replace h := cF h
   refine WO.k2 rfl rfl rfl rfl (rn_fieldAddr Try.runUnderlying32 rfl Try.sizeOf25 rfl rfl) ?_
   refine WO.k2 rfl rfl rfl rfl (rn_fieldAddr Try.runUnderlying32 rfl Try.sizeOf24 rfl rfl) ?_
   have f18 := f8.stp S9 rfl rfl
   refine WO.k0 rfl rfl rfl rfl (rn_ld Try.isAgg25 rfl rfl (hvC (f18.ld 1 rfl rfl) rfl)) ?_
   refine WO.k2 rfl rfl rfl rfl (rn_len Try.runUnderlying25 rfl rfl) ?_
   refine WO.k0 rfl rfl rfl rfl (rn_ld Try.isAgg24 rfl rfl (hvC (f18.ld 0 rfl rfl) rfl)) ?_
   refine WO.k2 rfl rfl rfl rfl (rn_len Try.runUnderlying24 rfl rfl) ?_
   refine WO.pn 2 rfl ?_
   obtain rfl := Option.some.inj h
   exact WO.met _ (S15.cl rfl) ⟨rfl, _, (Stp.refl _ _).wk rfl⟩ fun a ha => (ha.more (ha.more (ha.more (ha.more ha.nil rfl) rfl) rfl) rfl)
 rintro _ w19 _ ⟨rfl, K20, S21⟩
 have h := hK16
 refine WO.pn 1 rfl ?_
 obtain ⟨p33, h, hK22⟩ := Option.bind_eq_some_iff.mp h
 refine WO.meet [(16, 2), (17, 0), (18, 0), (19, 1), (20, 1), (21, 2), (22, 2)] [] (fun L w' => L = [(2, .pointer (some ⟨b2, 0, none⟩)), (3, .pointer (some ⟨b3, 0, none⟩)), (5, .int .i64 (p1.In.length : Int)), (33, .bool p33)] ∧ ∃ κ', Stp [] K20 w19 κ' w') ((S15.tr S21).cl rfl) ?_ ?_
 ·
  revert h
  cases ht23 : p25 with
  | true =>
   intro h; replace h := cT h
   refine WO.pn 1 rfl ?_
   refine WO.qs rfl rfl rfl rfl ?_
   refine WO.qs rfl rfl rfl rfl ?_
   refine WO.ls rfl rfl rfl rfl ?_
   refine WO.ls rfl rfl rfl rfl ?_
   refine WO.pn 2 rfl ?_
   obtain rfl := Option.some.inj h
   exact WO.met _ ((S15.tr S21).cl rfl) ⟨rfl, _, (Stp.refl _ _).wk rfl⟩ fun a ha => (ha.more (ha.more (ha.more (ha.more ha.nil rfl) rfl) rfl) rfl)
  | false =>
   intro h; replace h := cF h
   refine WO.k2 rfl rfl rfl rfl (rn_fieldAddr Try.runUnderlying32 rfl Try.sizeOf24 rfl rfl) ?_
   have f24 := f8.stp S9 rfl rfl
   refine WO.k0 rfl rfl rfl rfl (rn_ld Try.isAgg24 rfl rfl (hvC (f24.ld 0 rfl rfl) rfl)) ?_
   have f25 := f4.stp (S7.tr S9) rfl rfl
   refine WO.k0 rfl rfl rfl rfl (rn_la (cs := [.int .i64 p0.In, .int .i64 p0.Out]) Try.isAgg30 Try.sizeOf30 rfl rfl rfl (haC f25.cells rfl)) ?_
   obtain ⟨x30, hx30, h⟩ := Option.bind_eq_some_iff.mp h
   refine WO.call rfl rfl rfl rfl rfl rfl Try.call106 (i_inputsOf_ok (κ := fun b => mp [] 0 (K20 b)) hx30) ?_
   rintro _ w26 ⟨k27, rfl, e28⟩
   obtain ⟨K29, S30, m31⟩ := Ent.mixed (l := []) (κ := K20) e28 4 rfl
   refine ⟨((S15.tr (S21.tr S30)).cl rfl), ?_⟩
   obtain ⟨x31, hx31, h⟩ := Option.bind_eq_some_iff.mp h
   have f33 := g1_0.stp (S3.tr (S7.tr (S9.tr (S15.tr (S21.tr S30))))) rfl rfl
   refine WO.call rfl rfl rfl rfl rfl rfl Try.call80 (i_areLetters_ok (κ := fun b => mp [] 0 (K29 b)) (Sl.map f33 (mp [] 0) rfl rfl) hx31) ?_
   rintro _ w34 ⟨k35, rfl, e36⟩
   obtain ⟨K37, S38, m39⟩ := Ent.mixed (l := []) (κ := K29) e36 6 rfl
   refine ⟨((S15.tr (S21.tr (S30.tr S38))).cl rfl), ?_⟩
   refine WO.pn 2 rfl ?_
   obtain rfl := Option.some.inj h
   exact WO.met _ ((S15.tr (S21.tr (S30.tr S38))).cl rfl) ⟨rfl, _, (S30.tr S38).wk rfl⟩ fun a ha => (ha.more (ha.more (ha.more (ha.more ha.nil rfl) rfl) rfl) rfl)
 rintro _ w41 _ ⟨rfl, K42, S43⟩
 have h := hK22
 refine WO.nx ?_
 refine WO.fin ?_
 refine DN.seq ?_
 revert h
 cases ht44 : p33 with
 | true =>
  intro h; replace h := cT h
  refine WC.ct rfl ?_
  refine WC.seq ?_
  refine WC.rs [(0, 2)] rfl ?_
  refine WO.pn 1 rfl ?_
  refine WO.fin ?_
  refine DN.seq ?_
  refine WC.ret ?_
  refine DN.retThen ?_
  have f45 := hE.stp (S3.tr (S7.tr (S9.tr (S15.tr (S21.tr S43))))) rfl rfl
  refine DN.res (l := [.tmp 4]) Try.results74 (res_tmp rfl rfl) rfl ?_
  obtain rfl := Option.some.inj h
  exact ⟨K42, rfl, f45⟩
 | false =>
  intro h; replace h := cF h
  refine WC.cf rfl ?_
  refine WC.skip ?_
  refine DN.seq ?_
  refine WC.seq ?_
  refine WC.seq ?_
  refine WC.rs [(0, 2), (1, 1), (2, 2), (3, 2)] rfl ?_
  refine WO.k2 rfl rfl rfl rfl (rn_fieldAddr Try.runUnderlying32 rfl Try.sizeOf25 rfl rfl) ?_
  have f46 := f8.stp (S9.tr (S15.tr (S21.tr S43))) rfl rfl
  refine WO.k1 trivial rfl rfl rfl rfl (rn_ld Try.isAgg25 rfl rfl (hvE (f46.ld 1 rfl rfl))) ?_
  refine WO.k2 rfl rfl rfl rfl (rn_len Try.runUnderlying25 rfl rfl) ?_
  refine WO.pn 1 rfl ?_
  refine WO.fin ?_
  refine DN.seq ?_
  have hN47 : (p1.Next.length : Int) ≤ 9223372036854775807 := g1_1.len_le
  obtain ⟨q2, hq49, hK48⟩ := Option.bind_eq_some_iff.mp h
  clear h
  refine WC.meet (fun L w' => ∃ (κ' : Col), L = [] ∧ Stp [] K42 w41 κ' w' ∧ q2 = Sum.inr ()) ?_ ?_
  ·
   refine WC.block ?_
   refine WC.loop (fun k L w' => ∃ (κ' : Col) (v37 : Int), L = [(2, .pointer (some ⟨b2, 0, none⟩)), (5, .int .i64 (p1.In.length : Int)), (35, .slice a1_1 p1.Next.length u1_1), (36, .int .i64 (p1.Next.length : Int)), (37, .int .i64 v37)] ∧ Stp [] K42 w41 κ' w' ∧ 0 ≤ v37 ∧ Int.toNat ((p1.Next.length : Int) - v37) = k ∧ cntM (i_isRival_b0 p0 p1) k v37 () = some q2) ⟨_, _, ⟨K42, 0, rfl, (Stp.refl _ _).wk rfl, (by decide), (by simp), hq49⟩, fun a ha => (ha.more (ha.more (ha.more (ha.more (ha.more ha.nil rfl) rfl) rfl) rfl) rfl)⟩ ?_
   rintro k _ w53 ⟨K54, v37, rfl, S55, hj47, hJ47, h⟩
   rcases k with _ | k
   ·
    have hk56 := h; obtain ⟨o47, h⟩ := ex_eq (Sum.inr (Sum.inl ()) : Bool ⊕ ((Unit) ⊕ (Unit)))
    have hc47 : decide (v37 < (p1.Next.length : Int)) = false := decide_eq_false (by omega)
    refine WC.seq ?_
    refine WC.rs [(0, 2)] rfl ?_
    refine WO.pn 1 rfl ?_
    refine WO.fin ?_
    refine DN.seq ?_
    refine WC.seq ?_
    refine WC.cf' rfl hc47 ?_
    refine WC.exit ?_
    refine DN.exitThen ?_
    refine DN.exitThen ?_
    obtain rfl := Option.some.inj h
    have h := hk56
    refine DN.hit ?_
    obtain rfl := Option.some.inj h
    exact DN.meet _ ⟨K54, rfl, S55.wk rfl, rfl⟩ fun a ha => ha.nil
   ·
    obtain ⟨o47, h, hk56⟩ := Option.bind_eq_some_iff.mp h; unfold i_isRival_b0 at h
    have hc47 : decide (v37 < (p1.Next.length : Int)) = true := decide_eq_true (by omega)
    refine WC.seq ?_
    refine WC.rs [(0, 2)] rfl ?_
    refine WO.pn 1 rfl ?_
    refine WO.fin ?_
    refine DN.seq ?_
    refine WC.seq ?_
    refine WC.ct' rfl hc47 ?_
    refine WC.skip ?_
    refine DN.seq ?_
    refine WC.seq ?_
    refine WC.block ?_
    refine WC.seq ?_
    refine WC.rs [(0, 2), (1, 1), (2, 2)] rfl ?_
    obtain ⟨x39, hx39, h⟩ := Option.bind_eq_some_iff.mp h
    refine WO.k2 rfl rfl rfl rfl (rn_index g1_1 hx39 Try.runUnderlying25 Try.sizeOf24 rfl rfl rfl rfl) ?_
    have f57 := g1_1.stp (S3.tr (S7.tr (S9.tr (S15.tr (S21.tr (S43.tr S55)))))) rfl rfl
    obtain ⟨ax39, ux39, f58, hl59⟩ := f57.gSl hx39
    refine WO.k1 trivial rfl rfl rfl rfl (rn_ld Try.isAgg24 rfl rfl (hvE hl59)) ?_
    refine WO.pn 1 rfl ?_
    refine WO.fin ?_
    refine DN.seq ?_
    refine WC.seq ?_
    refine WC.rs [(0, 2), (1, 2), (2, 2), (3, 1), (4, 2), (5, 2), (6, 2), (7, 2), (8, 2), (9, 1), (10, 2), (11, 2)] rfl ?_
    refine WO.pn 1 rfl ?_
    refine WO.k2 rfl rfl rfl rfl (rn_len Try.runUnderlying24 rfl rfl) ?_
    refine WO.k2 rfl rfl rfl rfl (rn_fieldAddr Try.runUnderlying30 rfl Try.sizeOf2 rfl rfl) ?_
    have f60 := f4.stp (S7.tr (S9.tr (S15.tr (S21.tr (S43.tr S55))))) rfl rfl
    refine WO.k1 trivial rfl rfl rfl rfl (rn_ld Try.isAgg2 rfl rfl (hvE (f60.ld 1 rfl rfl))) ?_
    obtain ⟨_z45, hz45, h⟩ := Option.bind_eq_some_iff.mp h
    refine WO.k2 rfl rfl rfl rfl (rn_shl rfl rfl rfl (nn_ok hz45)) ?_
    refine WO.pn 2 rfl ?_
    obtain ⟨p52, h, hK61⟩ := Option.bind_eq_some_iff.mp h
    refine WO.meet [(7, 2), (8, 2), (9, 1), (10, 2), (11, 2)] [] (fun L w' => L = [(2, .pointer (some ⟨b2, 0, none⟩)), (5, .int .i64 (p1.In.length : Int)), (35, .slice a1_1 p1.Next.length u1_1), (36, .int .i64 (p1.Next.length : Int)), (37, .int .i64 v37), (52, .bool p52)] ∧ ∃ κ', Stp [] K54 w53 κ' w') trivial ?_ ?_
    ·
     revert h
     cases ht62 : ((x39.length : Int) != (IntKind.i64.wrap (1 * 2 ^ (min (Int.toNat p0.Out) (IntKind.bits IntKind.i64))))) with
     | true =>
      intro h; replace h := cT h
      refine WO.pn 2 rfl ?_
      refine WO.ls rfl rfl rfl rfl ?_
      refine WO.pn 2 rfl ?_
      obtain rfl := Option.some.inj h
      exact WO.met _ trivial ⟨rfl, _, (Stp.refl _ _).wk rfl⟩ fun a ha => (ha.more (ha.more (ha.more (ha.more (ha.more (ha.more ha.nil rfl) rfl) rfl) rfl) rfl) rfl)
     | false =>
      intro h; replace h := cF h
      refine WO.pn 2 rfl ?_
      obtain ⟨x50, hx50, h⟩ := Option.bind_eq_some_iff.mp h
      refine WO.call rfl rfl rfl rfl rfl rfl Try.call80 (i_areLetters_ok (κ := fun b => mp [] 0 (K54 b)) (Sl.map f58 (mp [] 0) rfl rfl) hx50) ?_
      rintro _ w63 ⟨k64, rfl, e65⟩
      obtain ⟨K66, S67, m68⟩ := Ent.mixed (l := []) (κ := K54) e65 4 rfl
      refine ⟨trivial, ?_⟩
      refine WO.pn 2 rfl ?_
      obtain rfl := Option.some.inj h
      exact WO.met _ trivial ⟨rfl, _, S67.wk rfl⟩ fun a ha => (ha.more (ha.more (ha.more (ha.more (ha.more (ha.more ha.nil rfl) rfl) rfl) rfl) rfl) rfl)
    rintro _ w70 _ ⟨rfl, K71, S72⟩
    have h := hK61
    refine WO.fin ?_
    refine DN.seq ?_
    revert h
    cases ht73 : p52 with
    | true =>
     intro h; replace h := cT h
     refine WC.ct rfl ?_
     refine WC.seq ?_
     refine WC.rs [(0, 2)] rfl ?_
     refine WO.pn 1 rfl ?_
     refine WO.fin ?_
     refine DN.seq ?_
     refine WC.ret ?_
     refine DN.retBlock ?_
     refine DN.retThen ?_
     refine DN.retThen ?_
     obtain rfl := Option.some.inj h
     obtain rfl := Option.some.inj hk56
     have h := hK48
     dsimp only [aft] at h
     refine DN.retBlock ?_
     refine DN.retMeet ?_
     refine DN.retThen ?_
     have f74 := hE.stp (S3.tr (S7.tr (S9.tr (S15.tr (S21.tr (S43.tr (S55.tr S72))))))) rfl rfl
     refine DN.res (l := [.tmp 4]) Try.results74 (res_tmp rfl rfl) rfl ?_
     obtain rfl := Option.some.inj h
     exact ⟨K71, rfl, f74⟩
    | false =>
     intro h; replace h := cF h
     refine WC.cf rfl ?_
     refine WC.skip ?_
     refine DN.block ?_
     refine DN.seq ?_
     refine WC.rs [(0, 2), (1, 2)] rfl ?_
     refine WO.pn 2 rfl ?_
     refine WO.fin ?_
     have hw47 : IntKind.wrap .i64 (v37 + 1) = v37 + 1 := wr1 hj47 (of_decide_eq_true hc47) hN47
     rw [hw47]
     have hc47 := of_decide_eq_true hc47
     obtain rfl := Option.some.inj h
     refine DN.round fun a ha => ?_
     exact ⟨k, _, Nat.lt_succ_self _, ⟨K71, v37 + 1, rfl, (S55.tr S72).wk rfl, by omega, by omega, hk56⟩, (ha.more (ha.more (ha.more (ha.more (ha.more ha.nil rfl) rfl) rfl) rfl) rfl)⟩
  rintro _ w50 ⟨K51, rfl, S52, rfl⟩
  have h := hK48
  dsimp only [aft] at h
  refine DN.seq ?_
  refine WC.seq ?_
  refine WC.rs [(0, 2)] rfl ?_
  refine WO.pn 1 rfl ?_
  refine WO.fin ?_
  refine DN.seq ?_
  refine WC.ret ?_
  have f75 := hE.stp (S3.tr (S7.tr (S9.tr (S15.tr (S21.tr (S43.tr S52)))))) rfl rfl
  refine DN.res (l := [.tmp 4]) Try.results74 (res_tmp rfl rfl) rfl ?_
  obtain rfl := Option.some.inj h
  exact ⟨K51, rfl, f75⟩

/- loop.example/g00869/impl.SameRival -/
theorem i_SameRival_ok {w : World} {κ : Col} {p0 : Sig} {a1_0 : Option Addr} {u1_0 : Nat} {a1_1 : Option Addr} {u1_1 : Nat} {p1 : Rival} {a2_0 : Option Addr} {u2_0 : Nat} {a2_1 : Option Addr} {u2_1 : Nat} {p2 : Rival} (g1_0 : Rd (Rp.int .i64) κ w 0 a1_0 u1_0 p1.In) (g1_1 : Rd (Rp.sl (Rp.int .i64)) κ w 0 a1_1 u1_1 p1.Next) (g2_0 : Rd (Rp.int .i64) κ w 0 a2_0 u2_0 p2.In) (g2_1 : Rd (Rp.sl (Rp.int .i64)) κ w 0 a2_1 u2_1 p2.Next) {r : Bool} (h : i_SameRival p0 p1 p2 = some r) : Ret Try.prog 19 [.agg #[.int .i64 p0.In, .int .i64 p0.Out], .agg #[.slice a1_0 p1.In.length u1_0, .slice a1_1 p1.Next.length u1_1], .agg #[.slice a2_0 p2.In.length u2_0, .slice a2_1 p2.Next.length u2_1]] w (fun v w' => ∃ (κ' : Col), v = .bool r ∧ Ent κ w κ' w') := by
 unfold i_SameRival at h
 refine Ret.enter Try.func19 rfl Try.ntmps19 rfl ?_
 dsimp only [envOf]
 have hE := Ent.refl κ w
 refine WC.seq ?_
 refine WC.rs [(0, 1), (1, 1), (2, 1), (3, 2)] rfl ?_
 refine WO.box (κ := κ) 2 rfl rfl rfl rfl rfl rfl rfl fun b3 w1 K2 S3 f4 => ⟨trivial, ?_⟩
 refine WO.box (κ := K2) 3 rfl rfl rfl rfl rfl rfl rfl fun b4 w5 K6 S7 f8 => ⟨trivial, ?_⟩
 refine WO.box (κ := K6) 4 rfl rfl rfl rfl rfl rfl rfl fun b5 w9 K10 S11 f12 => ⟨trivial, ?_⟩
 refine WO.pn 1 rfl ?_
 refine WO.fin ?_
 refine DN.seq ?_
 refine WC.seq ?_
 refine WC.seq ?_
 refine WC.rs [(0, 1), (1, 1), (2, 2), (3, 2), (4, 1), (5, 1), (6, 1), (7, 2), (8, 2), (9, 2), (10, 1), (11, 1), (12, 1), (13, 2), (14, 2)] rfl ?_
 have f13 := f4.stp (S7.tr S11) rfl rfl
 refine WO.k1 trivial rfl rfl rfl rfl (rn_la (cs := [.int .i64 p0.In, .int .i64 p0.Out]) Try.isAgg30 Try.sizeOf30 rfl rfl rfl (haE f13.cells)) ?_
 obtain ⟨x8, hx8, h⟩ := Option.bind_eq_some_iff.mp h
 refine WO.call rfl rfl rfl rfl rfl rfl Try.call73 (i_isSig_ok (κ := fun b => mp [] 0 (K10 b)) hx8) ?_
 rintro _ w14 ⟨k15, rfl, e16⟩
 obtain ⟨K17, S18, m19⟩ := Ent.mixed (l := []) (κ := K10) e16 5 rfl
 refine ⟨trivial, ?_⟩
 refine WO.pn 2 rfl ?_
 obtain ⟨p15, h, hK21⟩ := Option.bind_eq_some_iff.mp h
 refine WO.meet [(4, 1), (5, 1), (6, 1), (7, 2), (8, 2)] [(9, 2), (10, 1), (11, 1), (12, 1), (13, 2), (14, 2)] (fun L w' => L = [(3, .pointer (some ⟨b3, 0, none⟩)), (4, .pointer (some ⟨b4, 0, none⟩)), (5, .pointer (some ⟨b5, 0, none⟩)), (15, .bool p15)] ∧ ∃ κ', Stp [] K17 w14 κ' w') trivial ?_ ?_
 ·
  revert h
  cases ht22 : (!x8) with
  | true =>
   intro h; replace h := cT h
   refine WO.ls rfl rfl rfl rfl ?_
   refine WO.ls rfl rfl rfl rfl ?_
   refine WO.ls rfl rfl rfl rfl ?_
   refine WO.pn 2 rfl ?_
   obtain rfl := Option.some.inj h
   exact WO.met _ trivial ⟨rfl, _, (Stp.refl _ _).wk rfl⟩ fun a ha => (ha.more (ha.more (ha.more (ha.more ha.nil rfl) rfl) rfl) rfl)
  | false =>
   intro h; replace h := cF h
   have f23 := f13.stp S18 rfl rfl
   refine WO.k1 trivial rfl rfl rfl rfl (rn_la (cs := [.int .i64 p0.In, .int .i64 p0.Out]) Try.isAgg30 Try.sizeOf30 rfl rfl rfl (haE f23.cells)) ?_
   have f24 := f8.stp (S11.tr S18) rfl rfl
   refine WO.k1 trivial rfl rfl rfl rfl (rn_la (cs := [.slice a1_0 p1.In.length u1_0, .slice a1_1 p1.Next.length u1_1]) Try.isAgg32 Try.sizeOf32 rfl rfl rfl (haE f24.cells)) ?_
   obtain ⟨x13, hx13, h⟩ := Option.bind_eq_some_iff.mp h
   have f25 := g1_0.stp (S3.tr (S7.tr (S11.tr S18))) rfl rfl
   have f26 := g1_1.stp (S3.tr (S7.tr (S11.tr S18))) rfl rfl
   refine WO.call rfl rfl rfl rfl rfl rfl Try.call74 (i_isRival_ok (κ := fun b => mp [] 0 (K17 b)) (Sl.map f25 (mp [] 0) rfl rfl) (Sl.map f26 (mp [] 0) rfl rfl) hx13) ?_
   rintro _ w27 ⟨k28, rfl, e29⟩
   obtain ⟨K30, S31, m32⟩ := Ent.mixed (l := []) (κ := K17) e29 7 rfl
   refine ⟨trivial, ?_⟩
   refine WO.pn 2 rfl ?_
   obtain rfl := Option.some.inj h
   exact WO.met _ trivial ⟨rfl, _, S31.wk rfl⟩ fun a ha => (ha.more (ha.more (ha.more (ha.more ha.nil rfl) rfl) rfl) rfl)
 rintro _ w34 _ ⟨rfl, K35, S36⟩
 have h := hK21
 refine WO.pn 1 rfl ?_
 obtain ⟨p21, h, hK37⟩ := Option.bind_eq_some_iff.mp h
 refine WO.meet [(10, 1), (11, 1), (12, 1), (13, 2), (14, 2)] [] (fun L w' => L = [(4, .pointer (some ⟨b4, 0, none⟩)), (5, .pointer (some ⟨b5, 0, none⟩)), (21, .bool p21)] ∧ ∃ κ', Stp [] K35 w34 κ' w') trivial ?_ ?_
 ·
  revert h
  cases ht38 : p15 with
  | true =>
   intro h; replace h := cT h
   refine WO.ls rfl rfl rfl rfl ?_
   refine WO.ls rfl rfl rfl rfl ?_
   refine WO.ls rfl rfl rfl rfl ?_
   refine WO.pn 2 rfl ?_
   obtain rfl := Option.some.inj h
   exact WO.met _ trivial ⟨rfl, _, (Stp.refl _ _).wk rfl⟩ fun a ha => (ha.more (ha.more (ha.more ha.nil rfl) rfl) rfl)
  | false =>
   intro h; replace h := cF h
   have f39 := f13.stp (S18.tr S36) rfl rfl
   refine WO.k1 trivial rfl rfl rfl rfl (rn_la (cs := [.int .i64 p0.In, .int .i64 p0.Out]) Try.isAgg30 Try.sizeOf30 rfl rfl rfl (haE f39.cells)) ?_
   have f40 := f12.stp (S18.tr S36) rfl rfl
   refine WO.k1 trivial rfl rfl rfl rfl (rn_la (cs := [.slice a2_0 p2.In.length u2_0, .slice a2_1 p2.Next.length u2_1]) Try.isAgg32 Try.sizeOf32 rfl rfl rfl (haE f40.cells)) ?_
   obtain ⟨x19, hx19, h⟩ := Option.bind_eq_some_iff.mp h
   have f41 := g2_0.stp (S3.tr (S7.tr (S11.tr (S18.tr S36)))) rfl rfl
   have f42 := g2_1.stp (S3.tr (S7.tr (S11.tr (S18.tr S36)))) rfl rfl
   refine WO.call rfl rfl rfl rfl rfl rfl Try.call74 (i_isRival_ok (κ := fun b => mp [] 0 (K35 b)) (Sl.map f41 (mp [] 0) rfl rfl) (Sl.map f42 (mp [] 0) rfl rfl) hx19) ?_
   rintro _ w43 ⟨k44, rfl, e45⟩
   obtain ⟨K46, S47, m48⟩ := Ent.mixed (l := []) (κ := K35) e45 7 rfl
   refine ⟨trivial, ?_⟩
   refine WO.pn 2 rfl ?_
   obtain rfl := Option.some.inj h
   exact WO.met _ trivial ⟨rfl, _, S47.wk rfl⟩ fun a ha => (ha.more (ha.more (ha.more ha.nil rfl) rfl) rfl)
 rintro _ w50 _ ⟨rfl, K51, S52⟩
 have h := hK37
 refine WO.fin ?_
 refine DN.seq ?_
 revert h
 cases ht53 : p21 with
 | true =>
  intro h; replace h := cT h
  refine WC.ct rfl ?_
  refine WC.seq ?_
  refine WC.rs [(0, 2)] rfl ?_
  refine WO.pn 1 rfl ?_
  refine WO.fin ?_
  refine DN.seq ?_
  refine WC.ret ?_
  refine DN.retThen ?_
  have f54 := hE.stp (S3.tr (S7.tr (S11.tr (S18.tr (S36.tr S52))))) rfl rfl
  refine DN.res (l := [.tmp 6]) Try.results19 (res_tmp rfl rfl) rfl ?_
  obtain rfl := Option.some.inj h
  exact ⟨K51, rfl, f54⟩
 | false =>
  intro h; replace h := cF h
  refine WC.cf rfl ?_
  refine WC.skip ?_
  refine DN.seq ?_
  refine WC.seq ?_
  refine WC.rs [(0, 2), (1, 1), (2, 2), (3, 1), (4, 1), (5, 2), (6, 2), (7, 1), (8, 2), (9, 1), (10, 1), (11, 2), (12, 2)] rfl ?_
  refine WO.k2 rfl rfl rfl rfl (rn_fieldAddr Try.runUnderlying32 rfl Try.sizeOf24 rfl rfl) ?_
  have f55 := f8.stp (S11.tr (S18.tr (S36.tr S52))) rfl rfl
  refine WO.k1 trivial rfl rfl rfl rfl (rn_ld Try.isAgg24 rfl rfl (hvE (f55.ld 0 rfl rfl))) ?_
  refine WO.k2 rfl rfl rfl rfl (rn_fieldAddr Try.runUnderlying32 rfl Try.sizeOf24 rfl rfl) ?_
  have f56 := f12.stp (S18.tr (S36.tr S52)) rfl rfl
  refine WO.k1 trivial rfl rfl rfl rfl (rn_ld Try.isAgg24 rfl rfl (hvE (f56.ld 0 rfl rfl))) ?_
  obtain ⟨x26, hx26, h⟩ := Option.bind_eq_some_iff.mp h
  have f57 := g1_0.stp (S3.tr (S7.tr (S11.tr (S18.tr (S36.tr S52))))) rfl rfl
  have f58 := g2_0.stp (S3.tr (S7.tr (S11.tr (S18.tr (S36.tr S52))))) rfl rfl
  refine WO.call rfl rfl rfl rfl rfl rfl Try.call75 (slices_Equal_I_int64_ok (κ := fun b => mp [] 0 (K51 b)) (Sl.map f57 (mp [] 0) rfl rfl) (Sl.map f58 (mp [] 0) rfl rfl) hx26) ?_
  rintro _ w59 ⟨k60, rfl, e61⟩
  obtain ⟨K62, S63, m64⟩ := Ent.mixed (l := []) (κ := K51) e61 7 rfl
  refine ⟨trivial, ?_⟩
  refine WO.pn 1 rfl ?_
  obtain ⟨p33, h, hK66⟩ := Option.bind_eq_some_iff.mp h
  refine WO.meet [(6, 2), (7, 1), (8, 2), (9, 1), (10, 1), (11, 2)] [(12, 2)] (fun L w' => L = [(33, .bool p33)] ∧ ∃ κ', Stp [] K62 w59 κ' w') trivial ?_ ?_
  ·
   revert h
   cases ht67 : x26 with
   | true =>
    intro h; replace h := cT h
    refine WO.k2 rfl rfl rfl rfl (rn_fieldAddr Try.runUnderlying32 rfl Try.sizeOf25 rfl rfl) ?_
    have f68 := f55.stp S63 rfl rfl
    refine WO.k1 trivial rfl rfl rfl rfl (rn_ld Try.isAgg25 rfl rfl (hvE (f68.ld 1 rfl rfl))) ?_
    refine WO.k2 rfl rfl rfl rfl (rn_fieldAddr Try.runUnderlying32 rfl Try.sizeOf25 rfl rfl) ?_
    have f69 := f56.stp S63 rfl rfl
    refine WO.k1 trivial rfl rfl rfl rfl (rn_ld Try.isAgg25 rfl rfl (hvE (f69.ld 1 rfl rfl))) ?_
    obtain ⟨x32, hx32, h⟩ := Option.bind_eq_some_iff.mp h
    have f70 := g1_1.stp (S3.tr (S7.tr (S11.tr (S18.tr (S36.tr (S52.tr S63)))))) rfl rfl
    have f71 := g2_1.stp (S3.tr (S7.tr (S11.tr (S18.tr (S36.tr (S52.tr S63)))))) rfl rfl
    refine WO.call rfl rfl rfl rfl rfl rfl Try.call76 (slices_EqualFunc_I_I_I_I__slices_Equal_I_int64_ok (κ := fun b => mp [] 0 (K62 b)) (Sl.map f70 (mp [] 0) rfl rfl) (Sl.map f71 (mp [] 0) rfl rfl) hx32) ?_
    rintro _ w72 ⟨k73, rfl, e74⟩
    obtain ⟨K75, S76, m77⟩ := Ent.mixed (l := []) (κ := K62) e74 9 rfl
    refine ⟨trivial, ?_⟩
    refine WO.pn 1 rfl ?_
    obtain rfl := Option.some.inj h
    exact WO.met _ trivial ⟨rfl, _, S76.wk rfl⟩ fun a ha => (ha.more ha.nil rfl)
   | false =>
    intro h; replace h := cF h
    refine WO.pn 1 rfl ?_
    refine WO.ls rfl rfl rfl rfl ?_
    refine WO.pn 1 rfl ?_
    refine WO.ls rfl rfl rfl rfl ?_
    refine WO.ls rfl rfl rfl rfl ?_
    refine WO.pn 1 rfl ?_
    obtain rfl := Option.some.inj h
    exact WO.met _ trivial ⟨rfl, _, (Stp.refl _ _).wk rfl⟩ fun a ha => (ha.more ha.nil rfl)
  rintro _ w79 _ ⟨rfl, K80, S81⟩
  have h := hK66
  refine WO.pn 1 rfl ?_
  refine WO.fin ?_
  refine DN.seq ?_
  refine WC.ret ?_
  have f82 := hE.stp (S3.tr (S7.tr (S11.tr (S18.tr (S36.tr (S52.tr (S63.tr S81))))))) rfl rfl
  refine DN.res (l := [.tmp 6]) Try.results19 (res_tmp rfl rfl) rfl ?_
  obtain rfl := Option.some.inj h
  exact ⟨K80, rfl, f82⟩

/- loop.example/g00869/laws.eqRival -/
theorem l_eqRival_ok {w : World} {κ : Col} {a0_0 : Option Addr} {u0_0 : Nat} {a0_1 : Option Addr} {u0_1 : Nat} {p0 : Rival} {a1_0 : Option Addr} {u1_0 : Nat} {a1_1 : Option Addr} {u1_1 : Nat} {p1 : Rival} (g0_0 : Rd (Rp.int .i64) κ w 0 a0_0 u0_0 p0.In) (g0_1 : Rd (Rp.sl (Rp.int .i64)) κ w 0 a0_1 u0_1 p0.Next) (g1_0 : Rd (Rp.int .i64) κ w 0 a1_0 u1_0 p1.In) (g1_1 : Rd (Rp.sl (Rp.int .i64)) κ w 0 a1_1 u1_1 p1.Next) {r : Bool} (h : l_eqRival p0 p1 = some r) : Ret Try.prog 20 [.agg #[.slice a0_0 p0.In.length u0_0, .slice a0_1 p0.Next.length u0_1], .agg #[.slice a1_0 p1.In.length u1_0, .slice a1_1 p1.Next.length u1_1]] w (fun v w' => ∃ (κ' : Col), v = .bool r ∧ Ent κ w κ' w') := by
 unfold l_eqRival at h
 refine Ret.enter Try.func20 rfl Try.ntmps20 rfl ?_
 dsimp only [envOf]
 have hE := Ent.refl κ w
 refine WC.seq ?_
 refine WC.rs [(0, 1), (1, 1), (2, 2)] rfl ?_
 refine WO.box (κ := κ) 2 rfl rfl rfl rfl rfl rfl rfl fun b2 w1 K2 S3 f4 => ⟨trivial, ?_⟩
 refine WO.box (κ := K2) 3 rfl rfl rfl rfl rfl rfl rfl fun b3 w5 K6 S7 f8 => ⟨trivial, ?_⟩
 refine WO.pn 1 rfl ?_
 refine WO.fin ?_
 refine DN.seq ?_
 refine WC.seq ?_
 refine WC.seq ?_
 refine WC.rs [(0, 2), (1, 1), (2, 2), (3, 1), (4, 1), (5, 2)] rfl ?_
 refine WO.k2 rfl rfl rfl rfl (rn_fieldAddr Try.runUnderlying32 rfl Try.sizeOf24 rfl rfl) ?_
 have f9 := f4.stp S7 rfl rfl
 refine WO.k1 trivial rfl rfl rfl rfl (rn_ld Try.isAgg24 rfl rfl (hvE (f9.ld 0 rfl rfl))) ?_
 refine WO.k2 rfl rfl rfl rfl (rn_fieldAddr Try.runUnderlying32 rfl Try.sizeOf24 rfl rfl) ?_
 refine WO.k1 trivial rfl rfl rfl rfl (rn_ld Try.isAgg24 rfl rfl (hvE (f8.ld 0 rfl rfl))) ?_
 obtain ⟨x9, hx9, h⟩ := Option.bind_eq_some_iff.mp h
 have f10 := g0_0.stp (S3.tr S7) rfl rfl
 have f11 := g1_0.stp (S3.tr S7) rfl rfl
 refine WO.call rfl rfl rfl rfl rfl rfl Try.call24 (l_eqInt64S_ok (κ := fun b => mp [] 0 (K6 b)) (Sl.map f10 (mp [] 0) rfl rfl) (Sl.map f11 (mp [] 0) rfl rfl) hx9) ?_
 rintro _ w12 ⟨k13, rfl, e14⟩
 obtain ⟨K15, S16, m17⟩ := Ent.mixed (l := []) (κ := K6) e14 4 rfl
 refine ⟨trivial, ?_⟩
 refine WO.pn 1 rfl ?_
 refine WO.fin ?_
 refine DN.seq ?_
 revert h
 cases ht19 : (!x9) with
 | true =>
  intro h; replace h := cT h
  refine WC.ct rfl ?_
  refine WC.seq ?_
  refine WC.rs [(0, 2)] rfl ?_
  refine WO.pn 1 rfl ?_
  refine WO.fin ?_
  refine DN.seq ?_
  refine WC.ret ?_
  refine DN.retThen ?_
  have f20 := hE.stp (S3.tr (S7.tr S16)) rfl rfl
  refine DN.res (l := [.tmp 4]) Try.results20 (res_tmp rfl rfl) rfl ?_
  obtain rfl := Option.some.inj h
  exact ⟨K15, rfl, f20⟩
 | false =>
  intro h; replace h := cF h
  refine WC.cf rfl ?_
  refine WC.skip ?_
  refine DN.seq ?_
  refine WC.seq ?_
  refine WC.seq ?_
  refine WC.rs [(0, 2), (1, 1), (2, 2), (3, 1), (4, 1), (5, 2)] rfl ?_
  refine WO.k2 rfl rfl rfl rfl (rn_fieldAddr Try.runUnderlying32 rfl Try.sizeOf25 rfl rfl) ?_
  have f21 := f9.stp S16 rfl rfl
  refine WO.k1 trivial rfl rfl rfl rfl (rn_ld Try.isAgg25 rfl rfl (hvE (f21.ld 1 rfl rfl))) ?_
  refine WO.k2 rfl rfl rfl rfl (rn_fieldAddr Try.runUnderlying32 rfl Try.sizeOf25 rfl rfl) ?_
  have f22 := f8.stp S16 rfl rfl
  refine WO.k1 trivial rfl rfl rfl rfl (rn_ld Try.isAgg25 rfl rfl (hvE (f22.ld 1 rfl rfl))) ?_
  obtain ⟨x15, hx15, h⟩ := Option.bind_eq_some_iff.mp h
  have f23 := g0_1.stp (S3.tr (S7.tr S16)) rfl rfl
  have f24 := g1_1.stp (S3.tr (S7.tr S16)) rfl rfl
  refine WO.call rfl rfl rfl rfl rfl rfl Try.call77 (l_eqInt64SS_ok (κ := fun b => mp [] 0 (K15 b)) (Sl.map f23 (mp [] 0) rfl rfl) (Sl.map f24 (mp [] 0) rfl rfl) hx15) ?_
  rintro _ w25 ⟨k26, rfl, e27⟩
  obtain ⟨K28, S29, m30⟩ := Ent.mixed (l := []) (κ := K15) e27 6 rfl
  refine ⟨trivial, ?_⟩
  refine WO.pn 1 rfl ?_
  refine WO.fin ?_
  refine DN.seq ?_
  revert h
  cases ht32 : (!x15) with
  | true =>
   intro h; replace h := cT h
   refine WC.ct rfl ?_
   refine WC.seq ?_
   refine WC.rs [(0, 2)] rfl ?_
   refine WO.pn 1 rfl ?_
   refine WO.fin ?_
   refine DN.seq ?_
   refine WC.ret ?_
   refine DN.retThen ?_
   have f33 := hE.stp (S3.tr (S7.tr (S16.tr S29))) rfl rfl
   refine DN.res (l := [.tmp 4]) Try.results20 (res_tmp rfl rfl) rfl ?_
   obtain rfl := Option.some.inj h
   exact ⟨K28, rfl, f33⟩
  | false =>
   intro h; replace h := cF h
   refine WC.cf rfl ?_
   refine WC.skip ?_
   refine DN.seq ?_
   refine WC.seq ?_
   refine WC.rs [(0, 2)] rfl ?_
   refine WO.pn 1 rfl ?_
   refine WO.fin ?_
   refine DN.seq ?_
   refine WC.ret ?_
   have f34 := hE.stp (S3.tr (S7.tr (S16.tr S29))) rfl rfl
   refine DN.res (l := [.tmp 4]) Try.results20 (res_tmp rfl rfl) rfl ?_
   obtain rfl := Option.some.inj h
   exact ⟨K28, rfl, f34⟩

/- loop.example/g00869/laws.FnExactSameRival -/
theorem l_FnExactSameRival_ok {w : World} {κ : Col} {p0 : Sig} {a1_0 : Option Addr} {u1_0 : Nat} {a1_1 : Option Addr} {u1_1 : Nat} {p1 : Rival} {a2_0 : Option Addr} {u2_0 : Nat} {a2_1 : Option Addr} {u2_1 : Nat} {p2 : Rival} (g1_0 : Rd (Rp.int .i64) κ w 0 a1_0 u1_0 p1.In) (g1_1 : Rd (Rp.sl (Rp.int .i64)) κ w 0 a1_1 u1_1 p1.Next) (g2_0 : Rd (Rp.int .i64) κ w 0 a2_0 u2_0 p2.In) (g2_1 : Rd (Rp.sl (Rp.int .i64)) κ w 0 a2_1 u2_1 p2.Next) {r : Bool} (h : l_FnExactSameRival p0 p1 p2 = some r) : Ret Try.prog 3 [.agg #[.int .i64 p0.In, .int .i64 p0.Out], .agg #[.slice a1_0 p1.In.length u1_0, .slice a1_1 p1.Next.length u1_1], .agg #[.slice a2_0 p2.In.length u2_0, .slice a2_1 p2.Next.length u2_1]] w (fun v w' => ∃ (κ' : Col), v = .bool r ∧ Ent κ w κ' w') := by
 unfold l_FnExactSameRival at h
 refine Ret.enter Try.func3 rfl Try.ntmps3 rfl ?_
 dsimp only [envOf]
 have hE := Ent.refl κ w
 refine WC.seq ?_
 refine WC.rs [(0, 1), (1, 1), (2, 1), (3, 2)] rfl ?_
 refine WO.box (κ := κ) 2 rfl rfl rfl rfl rfl rfl rfl fun b3 w1 K2 S3 f4 => ⟨trivial, ?_⟩
 refine WO.box (κ := K2) 3 rfl rfl rfl rfl rfl rfl rfl fun b4 w5 K6 S7 f8 => ⟨trivial, ?_⟩
 refine WO.box (κ := K6) 4 rfl rfl rfl rfl rfl rfl rfl fun b5 w9 K10 S11 f12 => ⟨trivial, ?_⟩
 refine WO.pn 1 rfl ?_
 refine WO.fin ?_
 refine DN.seq ?_
 refine WC.seq ?_
 refine WC.rs [(0, 2)] rfl ?_
 refine WO.pn 1 rfl ?_
 refine WO.fin ?_
 refine DN.seq ?_
 refine WC.seq ?_
 refine WC.rs [(0, 1), (1, 2), (2, 1), (3, 2)] rfl ?_
 have f13 := f8.stp S11 rfl rfl
 refine WO.k1 trivial rfl rfl rfl rfl (rn_la (cs := [.slice a1_0 p1.In.length u1_0, .slice a1_1 p1.Next.length u1_1]) Try.isAgg27 Try.sizeOf27 rfl rfl rfl (haE f13.cells)) ?_
 refine WO.pn 1 rfl ?_
 obtain ⟨x14, hx14, h⟩ := Option.bind_eq_some_iff.mp h
 have f14 := g1_0.stp (S3.tr (S7.tr S11)) rfl rfl
 have f15 := g1_1.stp (S3.tr (S7.tr S11)) rfl rfl
 refine WO.call rfl rfl rfl rfl rfl rfl Try.call15 (l_szRival_ok (κ := fun b => mp [] 0 (K10 b)) (Sl.map f14 (mp [] 0) rfl rfl) (Sl.map f15 (mp [] 0) rfl rfl) hx14) ?_
 rintro _ w16 ⟨k17, rfl, e18⟩
 obtain ⟨K19, S20, m21⟩ := Ent.mixed (l := []) (κ := K10) e18 5 rfl
 refine ⟨trivial, ?_⟩
 refine WO.pn 1 rfl ?_
 refine WO.fin ?_
 refine DN.seq ?_
 refine WC.seq ?_
 refine WC.seq ?_
 refine WC.rs [(0, 2), (1, 2)] rfl ?_
 refine WO.pn 2 rfl ?_
 refine WO.fin ?_
 refine DN.seq ?_
 revert h
 cases ht23 : decide (x14 < 0) with
 | true =>
  intro h; replace h := cT h
  refine WC.ct rfl ?_
  refine WC.seq ?_
  refine WC.rs [(0, 2)] rfl ?_
  refine WO.pn 1 rfl ?_
  refine WO.fin ?_
  refine DN.seq ?_
  refine WC.ret ?_
  refine DN.retThen ?_
  have f24 := hE.stp (S3.tr (S7.tr (S11.tr S20))) rfl rfl
  refine DN.res (l := [.tmp 6]) Try.results3 (res_tmp rfl rfl) rfl ?_
  obtain rfl := Option.some.inj h
  exact ⟨K19, rfl, f24⟩
 | false =>
  intro h; replace h := cF h
  refine WC.cf rfl ?_
  refine WC.skip ?_
  refine DN.seq ?_
  refine WC.seq ?_
  refine WC.rs [(0, 1), (1, 2), (2, 1), (3, 2)] rfl ?_
  have f25 := f12.stp S20 rfl rfl
  refine WO.k1 trivial rfl rfl rfl rfl (rn_la (cs := [.slice a2_0 p2.In.length u2_0, .slice a2_1 p2.Next.length u2_1]) Try.isAgg27 Try.sizeOf27 rfl rfl rfl (haE f25.cells)) ?_
  refine WO.pn 1 rfl ?_
  obtain ⟨x19, hx19, h⟩ := Option.bind_eq_some_iff.mp h
  have f26 := g2_0.stp (S3.tr (S7.tr (S11.tr S20))) rfl rfl
  have f27 := g2_1.stp (S3.tr (S7.tr (S11.tr S20))) rfl rfl
  refine WO.call rfl rfl rfl rfl rfl rfl Try.call15 (l_szRival_ok (κ := fun b => mp [] 0 (K19 b)) (Sl.map f26 (mp [] 0) rfl rfl) (Sl.map f27 (mp [] 0) rfl rfl) hx19) ?_
  rintro _ w28 ⟨k29, rfl, e30⟩
  obtain ⟨K31, S32, m33⟩ := Ent.mixed (l := []) (κ := K19) e30 7 rfl
  refine ⟨trivial, ?_⟩
  refine WO.pn 1 rfl ?_
  refine WO.fin ?_
  refine DN.seq ?_
  refine WC.seq ?_
  refine WC.seq ?_
  refine WC.rs [(0, 2), (1, 2)] rfl ?_
  refine WO.pn 2 rfl ?_
  refine WO.fin ?_
  refine DN.seq ?_
  revert h
  cases ht35 : decide (x19 < 0) with
  | true =>
   intro h; replace h := cT h
   refine WC.ct rfl ?_
   refine WC.seq ?_
   refine WC.rs [(0, 2)] rfl ?_
   refine WO.pn 1 rfl ?_
   refine WO.fin ?_
   refine DN.seq ?_
   refine WC.ret ?_
   refine DN.retThen ?_
   have f36 := hE.stp (S3.tr (S7.tr (S11.tr (S20.tr S32)))) rfl rfl
   refine DN.res (l := [.tmp 6]) Try.results3 (res_tmp rfl rfl) rfl ?_
   obtain rfl := Option.some.inj h
   exact ⟨K31, rfl, f36⟩
  | false =>
   intro h; replace h := cF h
   refine WC.cf rfl ?_
   refine WC.skip ?_
   refine DN.seq ?_
   refine WC.seq ?_
   refine WC.rx (κ := K31) 8 none [(0, 0), (2, 0), (4, 0), (1, 1), (3, 1), (5, 1), (6, 1), (7, 2)] [] (by kernel_rfl) (by kernel_rfl) fun w38 S37 => ?_
   have f39 := f4.stp (S7.tr (S11.tr (S20.tr (S32.tr S37)))) rfl rfl
   refine WO.k0 rfl rfl rfl rfl (rn_la (cs := [.int .i64 p0.In, .int .i64 p0.Out]) Try.isAgg23 Try.sizeOf23 rfl rfl rfl (haC f39.cells rfl)) ?_
   have f40 := f13.stp (S20.tr (S32.tr S37)) rfl rfl
   refine WO.k0 rfl rfl rfl rfl (rn_la (cs := [.slice a1_0 p1.In.length u1_0, .slice a1_1 p1.Next.length u1_1]) Try.isAgg27 Try.sizeOf27 rfl rfl rfl (haC f40.cells rfl)) ?_
   have f41 := f25.stp (S32.tr S37) rfl rfl
   refine WO.k0 rfl rfl rfl rfl (rn_la (cs := [.slice a2_0 p2.In.length u2_0, .slice a2_1 p2.Next.length u2_1]) Try.isAgg27 Try.sizeOf27 rfl rfl rfl (haC f41.cells rfl)) ?_
   obtain ⟨x23, hx23, h⟩ := Option.bind_eq_some_iff.mp h
   refine WO.call rfl rfl rfl rfl rfl rfl Try.call17 (l_toSig_ok (κ := fun b => mp [] 0 (K31 b)) hx23) ?_
   rintro _ w42 ⟨k43, rfl, e44⟩
   obtain ⟨K45, S46, m47⟩ := Ent.mixed (l := []) (κ := K31) e44 9 rfl
   refine ⟨(S46.cl rfl), ?_⟩
   obtain ⟨x25, hx25, h⟩ := Option.bind_eq_some_iff.mp h
   have f49 := f14.stp (S20.tr (S32.tr (S37.tr S46))) rfl rfl
   have f50 := f15.stp (S20.tr (S32.tr (S37.tr S46))) rfl rfl
   refine WO.call rfl rfl rfl rfl rfl rfl Try.call18 (l_toRival_ok (κ := fun b => mp [] 0 (K45 b)) (Sl.map f49 (mp [] 0) rfl rfl) (Sl.map f50 (mp [] 0) rfl rfl) hx25) ?_
   rintro _ w51 ⟨k52, a25_0, u25_0, a25_1, u25_1, rfl, e53, f54, f55⟩
   obtain ⟨K56, S57, m58⟩ := Ent.mixed (l := []) (κ := K45) e53 11 rfl
   refine ⟨((S46.tr S57).cl rfl), ?_⟩
   have f60 := f54.mx (no_int _) m58 rfl (rfl : 11 + 2 = 13)
   have f61 := f55.mx (no_own (no_int _) _) m58 rfl (rfl : 11 + 3 = 14)
   obtain ⟨x27, hx27, h⟩ := Option.bind_eq_some_iff.mp h
   have f62 := f26.stp (S32.tr (S37.tr (S46.tr S57))) rfl rfl
   have f63 := f27.stp (S32.tr (S37.tr (S46.tr S57))) rfl rfl
   refine WO.call rfl rfl rfl rfl rfl rfl Try.call18 (l_toRival_ok (κ := fun b => mp [] 0 (K56 b)) (Sl.map f62 (mp [] 0) rfl rfl) (Sl.map f63 (mp [] 0) rfl rfl) hx27) ?_
   rintro _ w64 ⟨k65, a27_0, u27_0, a27_1, u27_1, rfl, e66, f67, f68⟩
   obtain ⟨K69, S70, m71⟩ := Ent.mixed (l := []) (κ := K56) e66 15 rfl
   refine ⟨((S46.tr (S57.tr S70)).cl rfl), ?_⟩
   have f73 := f67.mx (no_int _) m71 rfl (rfl : 15 + 2 = 17)
   have f74 := f68.mx (no_own (no_int _) _) m71 rfl (rfl : 15 + 3 = 18)
   obtain ⟨x28, hx28, h⟩ := Option.bind_eq_some_iff.mp h
   have f75 := f60.stp S70 rfl rfl
   have f76 := f61.stp S70 rfl rfl
   refine WO.call rfl rfl rfl rfl rfl rfl Try.call16 (s_SameRival_ok (κ := fun b => mp [] 0 (K69 b)) (Sl.map f75.rdc (mp [] 0) rfl rfl) (Sl.map f76.rdc (mp [] 0) rfl rfl) (Sl.map f73.rdc (mp [] 0) rfl rfl) (Sl.map f74.rdc (mp [] 0) rfl rfl) hx28) ?_
   rintro _ w77 ⟨k78, rfl, e79⟩
   obtain ⟨K80, S81, m82⟩ := Ent.mixed (l := []) (κ := K69) e79 19 rfl
   refine ⟨((S46.tr (S57.tr (S70.tr S81))).cl rfl), ?_⟩
   refine WO.pn 1 rfl ?_
   refine WO.nx ?_
   refine WO.fin ?_
   refine DN.seq ?_
   refine WC.seq ?_
   refine WC.rs [(0, 1), (1, 1), (2, 1), (3, 1)] rfl ?_
   have f84 := f40.stp (S46.tr (S57.tr (S70.tr S81))) rfl rfl
   refine WO.k1 trivial rfl rfl rfl rfl (rn_la (cs := [.slice a1_0 p1.In.length u1_0, .slice a1_1 p1.Next.length u1_1]) Try.isAgg27 Try.sizeOf27 rfl rfl rfl (haE f84.cells)) ?_
   obtain ⟨x30, hx30, h⟩ := Option.bind_eq_some_iff.mp h
   have f85 := f49.stp (S57.tr (S70.tr S81)) rfl rfl
   have f86 := f50.stp (S57.tr (S70.tr S81)) rfl rfl
   refine WO.call rfl rfl rfl rfl rfl rfl Try.call18 (l_toRival_ok (κ := fun b => mp [] 0 (K80 b)) (Sl.map f85 (mp [] 0) rfl rfl) (Sl.map f86 (mp [] 0) rfl rfl) hx30) ?_
   rintro _ w87 ⟨k88, a30_0, u30_0, a30_1, u30_1, rfl, e89, f90, f91⟩
   obtain ⟨K92, S93, m94⟩ := Ent.mixed (l := []) (κ := K80) e89 21 rfl
   refine ⟨trivial, ?_⟩
   have f96 := f90.mx (no_int _) m94 rfl (rfl : 21 + 2 = 23)
   have f97 := f91.mx (no_own (no_int _) _) m94 rfl (rfl : 21 + 3 = 24)
   refine WO.alloc (κ := K92) 25 rfl rfl rfl rfl rfl Try.zeroValue32 rfl fun b9 w98 K99 S100 f101 => ⟨trivial, ?_⟩
   refine WO.stB0 (κ := K99) 25 (vc := [.slice a30_0 x30.In.length u30_0, .slice a30_1 x30.Next.length u30_1]) rfl rfl rfl rfl rfl rfl rfl Try.sizeOf32 rfl rfl f101 rfl fun w102 S103 f104 => ⟨trivial, ?_⟩
   refine WO.fin ?_
   refine DN.seq ?_
   refine WC.seq ?_
   refine WC.rs [(0, 1), (1, 1), (2, 1), (3, 1)] rfl ?_
   have f105 := f41.stp (S46.tr (S57.tr (S70.tr (S81.tr (S93.tr (S100.tr S103)))))) rfl rfl
   refine WO.k1 trivial rfl rfl rfl rfl (rn_la (cs := [.slice a2_0 p2.In.length u2_0, .slice a2_1 p2.Next.length u2_1]) Try.isAgg27 Try.sizeOf27 rfl rfl rfl (haE f105.cells)) ?_
   obtain ⟨x32, hx32, h⟩ := Option.bind_eq_some_iff.mp h
   have f106 := f62.stp (S70.tr (S81.tr (S93.tr (S100.tr S103)))) rfl rfl
   have f107 := f63.stp (S70.tr (S81.tr (S93.tr (S100.tr S103)))) rfl rfl
   refine WO.call rfl rfl rfl rfl rfl rfl Try.call18 (l_toRival_ok (κ := fun b => mp [] 0 (K99 b)) (Sl.map f106 (mp [] 0) rfl rfl) (Sl.map f107 (mp [] 0) rfl rfl) hx32) ?_
   rintro _ w108 ⟨k109, a32_0, u32_0, a32_1, u32_1, rfl, e110, f111, f112⟩
   obtain ⟨K113, S114, m115⟩ := Ent.mixed (l := []) (κ := K99) e110 26 rfl
   refine ⟨trivial, ?_⟩
   have f117 := f111.mx (no_int _) m115 rfl (rfl : 26 + 2 = 28)
   have f118 := f112.mx (no_own (no_int _) _) m115 rfl (rfl : 26 + 3 = 29)
   refine WO.alloc (κ := K113) 30 rfl rfl rfl rfl rfl Try.zeroValue32 rfl fun b10 w119 K120 S121 f122 => ⟨trivial, ?_⟩
   refine WO.stB0 (κ := K120) 30 (vc := [.slice a32_0 x32.In.length u32_0, .slice a32_1 x32.Next.length u32_1]) rfl rfl rfl rfl rfl rfl rfl Try.sizeOf32 rfl rfl f122 rfl fun w123 S124 f125 => ⟨trivial, ?_⟩
   refine WO.fin ?_
   refine DN.seq ?_
   refine WC.seq ?_
   refine WC.rx (κ := K120) 30 none [(0, 0), (2, 0), (3, 0), (1, 1), (4, 1), (5, 2)] [] (by kernel_rfl) (by kernel_rfl) fun w127 S126 => ?_
   have f128 := f39.stp (S46.tr (S57.tr (S70.tr (S81.tr (S93.tr (S100.tr (S103.tr (S114.tr (S121.tr (S124.tr S126)))))))))) rfl rfl
   refine WO.k0 rfl rfl rfl rfl (rn_la (cs := [.int .i64 p0.In, .int .i64 p0.Out]) Try.isAgg23 Try.sizeOf23 rfl rfl rfl (haC f128.cells rfl)) ?_
   have f129 := f104.stp (S114.tr (S121.tr (S124.tr S126))) rfl rfl
   refine WO.k0 rfl rfl rfl rfl (rn_la (cs := [.slice a30_0 x30.In.length u30_0, .slice a30_1 x30.Next.length u30_1]) Try.isAgg32 Try.sizeOf32 rfl rfl rfl (haC f129.cells rfl)) ?_
   have f130 := f125.stp S126 rfl rfl
   refine WO.k0 rfl rfl rfl rfl (rn_la (cs := [.slice a32_0 x32.In.length u32_0, .slice a32_1 x32.Next.length u32_1]) Try.isAgg32 Try.sizeOf32 rfl rfl rfl (haC f130.cells rfl)) ?_
   obtain ⟨x34, hx34, h⟩ := Option.bind_eq_some_iff.mp h
   refine WO.call rfl rfl rfl rfl rfl rfl Try.call17 (l_toSig_ok (κ := fun b => mp [] 0 (K120 b)) hx34) ?_
   rintro _ w131 ⟨k132, rfl, e133⟩
   obtain ⟨K134, S135, m136⟩ := Ent.mixed (l := []) (κ := K120) e133 31 rfl
   refine ⟨(S135.cl rfl), ?_⟩
   obtain ⟨x37, hx37, h⟩ := Option.bind_eq_some_iff.mp h
   have f138 := f96.stp (S100.tr (S103.tr (S114.tr (S121.tr (S124.tr (S126.tr S135)))))) rfl rfl
   have f139 := f97.stp (S100.tr (S103.tr (S114.tr (S121.tr (S124.tr (S126.tr S135)))))) rfl rfl
   have f140 := f117.stp (S121.tr (S124.tr (S126.tr S135))) rfl rfl
   have f141 := f118.stp (S121.tr (S124.tr (S126.tr S135))) rfl rfl
   refine WO.call rfl rfl rfl rfl rfl rfl Try.call19 (i_SameRival_ok (κ := fun b => mp [] 0 (K134 b)) (Sl.map f138.rdc (mp [] 0) rfl rfl) (Sl.map f139.rdc (mp [] 0) rfl rfl) (Sl.map f140.rdc (mp [] 0) rfl rfl) (Sl.map f141.rdc (mp [] 0) rfl rfl) hx37) ?_
   rintro _ w142 ⟨k143, rfl, e144⟩
   obtain ⟨K145, S146, m147⟩ := Ent.mixed (l := []) (κ := K134) e144 33 rfl
   refine ⟨((S135.tr S146).cl rfl), ?_⟩
   refine WO.pn 1 rfl ?_
   refine WO.nx ?_
   refine WO.fin ?_
   refine DN.seq ?_
   refine WC.seq ?_
   refine WC.seq ?_
   refine WC.rs [(0, 2), (1, 2), (2, 2)] rfl ?_
   refine WO.pn 2 rfl ?_
   refine WO.k2 rfl rfl rfl rfl (rn_neqB rfl rfl Try.runUnderlying4 rfl) ?_
   refine WO.fin ?_
   refine DN.seq ?_
   revert h
   cases ht149 : (x37 != x28) with
   | true =>
    intro h; replace h := cT h
    refine WC.ct rfl ?_
    refine WC.seq ?_
    refine WC.rs [(0, 2)] rfl ?_
    refine WO.pn 1 rfl ?_
    refine WO.fin ?_
    refine DN.seq ?_
    refine WC.ret ?_
    refine DN.retThen ?_
    have f150 := hE.stp (S3.tr (S7.tr (S11.tr (S20.tr (S32.tr (S37.tr (S46.tr (S57.tr (S70.tr (S81.tr (S93.tr (S100.tr (S103.tr (S114.tr (S121.tr (S124.tr (S126.tr (S135.tr S146)))))))))))))))))) rfl rfl
    refine DN.res (l := [.tmp 6]) Try.results3 (res_tmp rfl rfl) rfl ?_
    obtain rfl := Option.some.inj h
    exact ⟨K145, rfl, f150⟩
   | false =>
    intro h; replace h := cF h
    refine WC.cf rfl ?_
    refine WC.skip ?_
    refine DN.seq ?_
    refine WC.seq ?_
    refine WC.seq ?_
    refine WC.rx (κ := K145) 34 none [(0, 0), (1, 0), (2, 1), (3, 1), (4, 2)] [] (by kernel_rfl) (by kernel_rfl) fun w152 S151 => ?_
    have f153 := f129.stp (S135.tr (S146.tr S151)) rfl rfl
    refine WO.k0 rfl rfl rfl rfl (rn_la (cs := [.slice a30_0 x30.In.length u30_0, .slice a30_1 x30.Next.length u30_1]) Try.isAgg32 Try.sizeOf32 rfl rfl rfl (haC f153.cells rfl)) ?_
    have f154 := f84.stp (S93.tr (S100.tr (S103.tr (S114.tr (S121.tr (S124.tr (S126.tr (S135.tr (S146.tr S151))))))))) rfl rfl
    refine WO.k0 rfl rfl rfl rfl (rn_la (cs := [.slice a1_0 p1.In.length u1_0, .slice a1_1 p1.Next.length u1_1]) Try.isAgg27 Try.sizeOf27 rfl rfl rfl (haC f154.cells rfl)) ?_
    obtain ⟨x43, hx43, h⟩ := Option.bind_eq_some_iff.mp h
    have f155 := f85.stp (S93.tr (S100.tr (S103.tr (S114.tr (S121.tr (S124.tr (S126.tr (S135.tr (S146.tr S151))))))))) rfl rfl
    have f156 := f86.stp (S93.tr (S100.tr (S103.tr (S114.tr (S121.tr (S124.tr (S126.tr (S135.tr (S146.tr S151))))))))) rfl rfl
    refine WO.call rfl rfl rfl rfl rfl rfl Try.call18 (l_toRival_ok (κ := fun b => mp [] 0 (K145 b)) (Sl.map f155 (mp [] 0) rfl rfl) (Sl.map f156 (mp [] 0) rfl rfl) hx43) ?_
    rintro _ w157 ⟨k158, a43_0, u43_0, a43_1, u43_1, rfl, e159, f160, f161⟩
    obtain ⟨K162, S163, m164⟩ := Ent.mixed (l := []) (κ := K145) e159 35 rfl
    refine ⟨(S163.cl rfl), ?_⟩
    have f166 := f160.mx (no_int _) m164 rfl (rfl : 35 + 2 = 37)
    have f167 := f161.mx (no_own (no_int _) _) m164 rfl (rfl : 35 + 3 = 38)
    obtain ⟨x44, hx44, h⟩ := Option.bind_eq_some_iff.mp h
    have f168 := f138.stp (S146.tr (S151.tr S163)) rfl rfl
    have f169 := f139.stp (S146.tr (S151.tr S163)) rfl rfl
    refine WO.call rfl rfl rfl rfl rfl rfl Try.call20 (l_eqRival_ok (κ := fun b => mp [] 0 (K162 b)) (Sl.map f168.rdc (mp [] 0) rfl rfl) (Sl.map f169.rdc (mp [] 0) rfl rfl) (Sl.map f166.rdc (mp [] 0) rfl rfl) (Sl.map f167.rdc (mp [] 0) rfl rfl) hx44) ?_
    rintro _ w170 ⟨k171, rfl, e172⟩
    obtain ⟨K173, S174, m175⟩ := Ent.mixed (l := []) (κ := K162) e172 39 rfl
    refine ⟨((S163.tr S174).cl rfl), ?_⟩
    refine WO.pn 1 rfl ?_
    refine WO.nx ?_
    refine WO.fin ?_
    refine DN.seq ?_
    revert h
    cases ht177 : (!x44) with
    | true =>
     intro h; replace h := cT h
     refine WC.ct rfl ?_
     refine WC.seq ?_
     refine WC.rs [(0, 2)] rfl ?_
     refine WO.pn 1 rfl ?_
     refine WO.fin ?_
     refine DN.seq ?_
     refine WC.ret ?_
     refine DN.retThen ?_
     have f178 := hE.stp (S3.tr (S7.tr (S11.tr (S20.tr (S32.tr (S37.tr (S46.tr (S57.tr (S70.tr (S81.tr (S93.tr (S100.tr (S103.tr (S114.tr (S121.tr (S124.tr (S126.tr (S135.tr (S146.tr (S151.tr (S163.tr S174))))))))))))))))))))) rfl rfl
     refine DN.res (l := [.tmp 6]) Try.results3 (res_tmp rfl rfl) rfl ?_
     obtain rfl := Option.some.inj h
     exact ⟨K173, rfl, f178⟩
    | false =>
     intro h; replace h := cF h
     refine WC.cf rfl ?_
     refine WC.skip ?_
     refine DN.seq ?_
     refine WC.seq ?_
     refine WC.seq ?_
     refine WC.rx (κ := K173) 40 none [(0, 0), (1, 0), (2, 1), (3, 1), (4, 2)] [] (by kernel_rfl) (by kernel_rfl) fun w180 S179 => ?_
     have f181 := f130.stp (S135.tr (S146.tr (S151.tr (S163.tr (S174.tr S179))))) rfl rfl
     refine WO.k0 rfl rfl rfl rfl (rn_la (cs := [.slice a32_0 x32.In.length u32_0, .slice a32_1 x32.Next.length u32_1]) Try.isAgg32 Try.sizeOf32 rfl rfl rfl (haC f181.cells rfl)) ?_
     have f182 := f105.stp (S114.tr (S121.tr (S124.tr (S126.tr (S135.tr (S146.tr (S151.tr (S163.tr (S174.tr S179))))))))) rfl rfl
     refine WO.k0 rfl rfl rfl rfl (rn_la (cs := [.slice a2_0 p2.In.length u2_0, .slice a2_1 p2.Next.length u2_1]) Try.isAgg27 Try.sizeOf27 rfl rfl rfl (haC f182.cells rfl)) ?_
     obtain ⟨x48, hx48, h⟩ := Option.bind_eq_some_iff.mp h
     have f183 := f106.stp (S114.tr (S121.tr (S124.tr (S126.tr (S135.tr (S146.tr (S151.tr (S163.tr (S174.tr S179))))))))) rfl rfl
     have f184 := f107.stp (S114.tr (S121.tr (S124.tr (S126.tr (S135.tr (S146.tr (S151.tr (S163.tr (S174.tr S179))))))))) rfl rfl
     refine WO.call rfl rfl rfl rfl rfl rfl Try.call18 (l_toRival_ok (κ := fun b => mp [] 0 (K173 b)) (Sl.map f183 (mp [] 0) rfl rfl) (Sl.map f184 (mp [] 0) rfl rfl) hx48) ?_
     rintro _ w185 ⟨k186, a48_0, u48_0, a48_1, u48_1, rfl, e187, f188, f189⟩
     obtain ⟨K190, S191, m192⟩ := Ent.mixed (l := []) (κ := K173) e187 41 rfl
     refine ⟨(S191.cl rfl), ?_⟩
     have f194 := f188.mx (no_int _) m192 rfl (rfl : 41 + 2 = 43)
     have f195 := f189.mx (no_own (no_int _) _) m192 rfl (rfl : 41 + 3 = 44)
     obtain ⟨x49, hx49, h⟩ := Option.bind_eq_some_iff.mp h
     have f196 := f140.stp (S146.tr (S151.tr (S163.tr (S174.tr (S179.tr S191))))) rfl rfl
     have f197 := f141.stp (S146.tr (S151.tr (S163.tr (S174.tr (S179.tr S191))))) rfl rfl
     refine WO.call rfl rfl rfl rfl rfl rfl Try.call20 (l_eqRival_ok (κ := fun b => mp [] 0 (K190 b)) (Sl.map f196.rdc (mp [] 0) rfl rfl) (Sl.map f197.rdc (mp [] 0) rfl rfl) (Sl.map f194.rdc (mp [] 0) rfl rfl) (Sl.map f195.rdc (mp [] 0) rfl rfl) hx49) ?_
     rintro _ w198 ⟨k199, rfl, e200⟩
     obtain ⟨K201, S202, m203⟩ := Ent.mixed (l := []) (κ := K190) e200 45 rfl
     refine ⟨((S191.tr S202).cl rfl), ?_⟩
     refine WO.pn 1 rfl ?_
     refine WO.nx ?_
     refine WO.fin ?_
     refine DN.seq ?_
     revert h
     cases ht205 : (!x49) with
     | true =>
      intro h; replace h := cT h
      refine WC.ct rfl ?_
      refine WC.seq ?_
      refine WC.rs [(0, 2)] rfl ?_
      refine WO.pn 1 rfl ?_
      refine WO.fin ?_
      refine DN.seq ?_
      refine WC.ret ?_
      refine DN.retThen ?_
      have f206 := hE.stp (S3.tr (S7.tr (S11.tr (S20.tr (S32.tr (S37.tr (S46.tr (S57.tr (S70.tr (S81.tr (S93.tr (S100.tr (S103.tr (S114.tr (S121.tr (S124.tr (S126.tr (S135.tr (S146.tr (S151.tr (S163.tr (S174.tr (S179.tr (S191.tr S202)))))))))))))))))))))))) rfl rfl
      refine DN.res (l := [.tmp 6]) Try.results3 (res_tmp rfl rfl) rfl ?_
      obtain rfl := Option.some.inj h
      exact ⟨K201, rfl, f206⟩
     | false =>
      intro h; replace h := cF h
      refine WC.cf rfl ?_
      refine WC.skip ?_
      refine DN.seq ?_
      refine WC.seq ?_
      refine WC.rs [(0, 2)] rfl ?_
      refine WO.pn 1 rfl ?_
      refine WO.fin ?_
      refine DN.seq ?_
      refine WC.ret ?_
      have f207 := hE.stp (S3.tr (S7.tr (S11.tr (S20.tr (S32.tr (S37.tr (S46.tr (S57.tr (S70.tr (S81.tr (S93.tr (S100.tr (S103.tr (S114.tr (S121.tr (S124.tr (S126.tr (S135.tr (S146.tr (S151.tr (S163.tr (S174.tr (S179.tr (S191.tr S202)))))))))))))))))))))))) rfl rfl
      refine DN.res (l := [.tmp 6]) Try.results3 (res_tmp rfl rfl) rfl ?_
      obtain rfl := Option.some.inj h
      exact ⟨K201, rfl, f207⟩

end Go.Proofs.Ytgniipbjjkodaaa
