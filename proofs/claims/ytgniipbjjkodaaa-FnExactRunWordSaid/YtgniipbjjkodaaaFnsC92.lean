/- The walks, part 2. By program. -/
import Derived.Test.YtgniipbjjkodaaaFnsC91
set_option linter.unusedVariables false
set_option linter.unusedSimpArgs false
namespace Go.Proofs.Ytgniipbjjkodaaa
open Go Go.Wk Go.Proofs
set_option maxRecDepth 100000
set_option maxHeartbeats 1000000

/- loop.example/g00869/laws.szMachine -/
theorem l_szMachine_ok {w : World} {κ : Col} {a0_0 : Option Addr} {u0_0 : Nat} {a0_1 : Option Addr} {u0_1 : Nat} {p0 : Machine} {p1 : Int} (g0_0 : Rd (Rp.sl (Rp.int .i64)) κ w 0 a0_0 u0_0 p0.Next) (g0_1 : Rd (Rp.sl (Rp.int .i64)) κ w 0 a0_1 u0_1 p0.Out) {r : Int} (h : l_szMachine p0 p1 = some r) : Ret Try.prog 45 [.agg #[.slice a0_0 p0.Next.length u0_0, .slice a0_1 p0.Out.length u0_1], .int .i64 p1] w (fun v w' => ∃ (κ' : Col), v = .int .i64 r ∧ Ent κ w κ' w') := by
 unfold l_szMachine at h
 refine Ret.enter Try.func45 rfl Try.ntmps45 rfl ?_
 dsimp only [envOf]
 have hE := Ent.refl κ w
 refine WC.seq ?_
 refine WC.rs [(0, 1), (1, 2)] rfl ?_
 refine WO.box (κ := κ) 2 rfl rfl rfl rfl rfl rfl rfl fun b2 w1 K2 S3 f4 => ⟨trivial, ?_⟩
 refine WO.pn 1 rfl ?_
 refine WO.fin ?_
 refine DN.seq ?_
 refine WC.seq ?_
 refine WC.rs [(0, 2), (1, 1), (2, 2), (3, 1), (4, 2)] rfl ?_
 refine WO.k2 rfl rfl rfl rfl (rn_fieldAddr Try.runUnderlying77 rfl Try.sizeOf25 rfl rfl) ?_
 refine WO.k1 trivial rfl rfl rfl rfl (rn_ld Try.isAgg25 rfl rfl (hvE (f4.ld 0 rfl rfl))) ?_
 refine WO.pn 1 rfl ?_
 obtain ⟨x8, hx8, h⟩ := Option.bind_eq_some_iff.mp h
 have f5 := g0_0.stp S3 rfl rfl
 refine WO.call rfl rfl rfl rfl rfl rfl Try.call69 (l_szInt64SS_ok (κ := fun b => mp [] 0 (K2 b)) (Sl.map f5 (mp [] 0) rfl rfl) hx8) ?_
 rintro _ w6 ⟨k7, rfl, e8⟩
 obtain ⟨K9, S10, m11⟩ := Ent.mixed (l := []) (κ := K2) e8 3 rfl
 refine ⟨trivial, ?_⟩
 refine WO.pn 1 rfl ?_
 refine WO.fin ?_
 refine DN.seq ?_
 refine WC.seq ?_
 refine WC.seq ?_
 refine WC.rs [(0, 2), (1, 2)] rfl ?_
 refine WO.pn 2 rfl ?_
 refine WO.fin ?_
 refine DN.seq ?_
 revert h
 cases ht13 : decide (x8 < 0) with
 | true =>
  intro h; replace h := cT h
  refine WC.ct rfl ?_
  refine WC.seq ?_
  refine WC.rs [(0, 2)] rfl ?_
  refine WO.pn 1 rfl ?_
  refine WO.fin ?_
  refine DN.seq ?_
  refine WC.ret ?_
  refine DN.retThen ?_
  have f14 := hE.stp (S3.tr S10) rfl rfl
  refine DN.res (l := [.tmp 4]) Try.results45 (res_tmp rfl rfl) rfl ?_
  obtain rfl := Option.some.inj h
  exact ⟨K9, rfl, f14⟩
 | false =>
  intro h; replace h := cF h
  refine WC.cf rfl ?_
  refine WC.skip ?_
  refine DN.seq ?_
  refine WC.seq ?_
  refine WC.rs [(0, 2), (1, 1), (2, 2), (3, 1), (4, 2)] rfl ?_
  refine WO.k2 rfl rfl rfl rfl (rn_fieldAddr Try.runUnderlying77 rfl Try.sizeOf25 rfl rfl) ?_
  have f15 := f4.stp S10 rfl rfl
  refine WO.k1 trivial rfl rfl rfl rfl (rn_ld Try.isAgg25 rfl rfl (hvE (f15.ld 1 rfl rfl))) ?_
  refine WO.pn 1 rfl ?_
  obtain ⟨x14, hx14, h⟩ := Option.bind_eq_some_iff.mp h
  have f16 := g0_1.stp (S3.tr S10) rfl rfl
  refine WO.call rfl rfl rfl rfl rfl rfl Try.call69 (l_szInt64SS_ok (κ := fun b => mp [] 0 (K9 b)) (Sl.map f16 (mp [] 0) rfl rfl) hx14) ?_
  rintro _ w17 ⟨k18, rfl, e19⟩
  obtain ⟨K20, S21, m22⟩ := Ent.mixed (l := []) (κ := K9) e19 5 rfl
  refine ⟨trivial, ?_⟩
  refine WO.pn 1 rfl ?_
  refine WO.fin ?_
  refine DN.seq ?_
  refine WC.seq ?_
  refine WC.seq ?_
  refine WC.rs [(0, 2), (1, 2)] rfl ?_
  refine WO.pn 2 rfl ?_
  refine WO.fin ?_
  refine DN.seq ?_
  revert h
  cases ht24 : decide (x14 < 0) with
  | true =>
   intro h; replace h := cT h
   refine WC.ct rfl ?_
   refine WC.seq ?_
   refine WC.rs [(0, 2)] rfl ?_
   refine WO.pn 1 rfl ?_
   refine WO.fin ?_
   refine DN.seq ?_
   refine WC.ret ?_
   refine DN.retThen ?_
   have f25 := hE.stp (S3.tr (S10.tr S21)) rfl rfl
   refine DN.res (l := [.tmp 4]) Try.results45 (res_tmp rfl rfl) rfl ?_
   obtain rfl := Option.some.inj h
   exact ⟨K20, rfl, f25⟩
  | false =>
   intro h; replace h := cF h
   refine WC.cf rfl ?_
   refine WC.skip ?_
   refine DN.seq ?_
   refine WC.seq ?_
   refine WC.rs [(0, 2), (1, 2)] rfl ?_
   refine WO.pn 2 rfl ?_
   refine WO.fin ?_
   refine DN.seq ?_
   refine WC.ret ?_
   have f26 := hE.stp (S3.tr (S10.tr S21)) rfl rfl
   refine DN.res (l := [.tmp 4]) Try.results45 (res_tmp rfl rfl) rfl ?_
   obtain rfl := Option.some.inj h
   exact ⟨K20, rfl, f26⟩

/- loop.example/g00869/laws.toMachine -/
theorem l_toMachine_ok {w : World} {κ : Col} {a0_0 : Option Addr} {u0_0 : Nat} {a0_1 : Option Addr} {u0_1 : Nat} {p0 : Machine} (g0_0 : Rd (Rp.sl (Rp.int .i64)) κ w 0 a0_0 u0_0 p0.Next) (g0_1 : Rd (Rp.sl (Rp.int .i64)) κ w 0 a0_1 u0_1 p0.Out) {r : Machine} (h : l_toMachine p0 = some r) : Ret Try.prog 48 [.agg #[.slice a0_0 p0.Next.length u0_0, .slice a0_1 p0.Out.length u0_1]] w (fun v w' => ∃ (κ' : Col) (ra0 : Option Addr) (ru0 : Nat) (ra1 : Option Addr) (ru1 : Nat), v = .agg #[.slice ra0 r.Next.length ru0, .slice ra1 r.Out.length ru1] ∧ Ent κ w κ' w' ∧ Oc (Ep.own (Ep.int .i64) 2) 24 κ' w' 2 ra0 ru0 r.Next ∧ Oc (Ep.own (Ep.int .i64) 2) 24 κ' w' 3 ra1 ru1 r.Out) := by
 unfold l_toMachine at h
 refine Ret.enter Try.func48 rfl Try.ntmps48 rfl ?_
 dsimp only [envOf]
 have hE := Ent.refl κ w
 refine WC.seq ?_
 refine WC.rs [(0, 1), (1, 1)] rfl ?_
 refine WO.box (κ := κ) 2 rfl rfl rfl rfl rfl rfl rfl fun b1 w1 K2 S3 f4 => ⟨trivial, ?_⟩
 refine WO.alloc (κ := K2) 3 rfl rfl rfl rfl rfl Try.zeroValue84 rfl fun b2 w5 K6 S7 f8 => ⟨trivial, ?_⟩
 refine WO.fin ?_
 refine DN.seq ?_
 refine WC.seq ?_
 refine WC.rs [(0, 1)] rfl ?_
 refine WO.alloc (κ := K6) 4 rfl rfl rfl rfl rfl Try.zeroValue84 rfl fun b3 w9 K10 S11 f12 => ⟨trivial, ?_⟩
 refine WO.fin ?_
 refine DN.seq ?_
 refine WC.seq ?_
 refine WC.rs [(0, 2), (1, 1), (2, 1), (3, 2), (4, 1)] rfl ?_
 refine WO.k2 rfl rfl rfl rfl (rn_fieldAddr Try.runUnderlying77 rfl Try.sizeOf25 rfl rfl) ?_
 have f13 := f4.stp (S7.tr S11) rfl rfl
 refine WO.k1 trivial rfl rfl rfl rfl (rn_ld Try.isAgg25 rfl rfl (hvE (f13.ld 0 rfl rfl))) ?_
 obtain ⟨x6, hx6, h⟩ := Option.bind_eq_some_iff.mp h
 have f14 := g0_0.stp (S3.tr (S7.tr S11)) rfl rfl
 refine WO.call rfl rfl rfl rfl rfl rfl Try.call72 (l_toInt64SS_ok (κ := fun b => mp [] 0 (K10 b)) (Sl.map f14 (mp [] 0) rfl rfl) hx6) ?_
 rintro _ w15 ⟨k16, a6_0, u6_0, rfl, e17, f18⟩
 obtain ⟨K19, S20, m21⟩ := Ent.mixed (l := []) (κ := K10) e17 5 rfl
 refine ⟨trivial, ?_⟩
 have f23 := f18.mx (no_own (no_int _) _) m21 rfl (rfl : 5 + 2 = 7)
 refine WO.k2 rfl rfl rfl rfl (rn_fieldAddr Try.runUnderlying84 rfl Try.sizeOf25 rfl rfl) ?_
 have f24 := f12.stp S20 rfl rfl
 refine WO.stB (κ := K19) 4 (off := 0) (vc := [.slice a6_0 x6.length u6_0]) (cs' := [.slice a6_0 x6.length u6_0, .slice none 0 0]) rfl rfl rfl rfl rfl rfl rfl Try.sizeOf25 rfl rfl f24 rfl rfl fun w25 S26 f27 => ⟨trivial, ?_⟩
 refine WO.fin ?_
 refine DN.seq ?_
 refine WC.seq ?_
 refine WC.rs [(0, 2), (1, 1), (2, 1), (3, 2), (4, 1)] rfl ?_
 refine WO.k2 rfl rfl rfl rfl (rn_fieldAddr Try.runUnderlying77 rfl Try.sizeOf25 rfl rfl) ?_
 have f28 := f13.stp (S20.tr S26) rfl rfl
 refine WO.k1 trivial rfl rfl rfl rfl (rn_ld Try.isAgg25 rfl rfl (hvE (f28.ld 1 rfl rfl))) ?_
 obtain ⟨x10, hx10, h⟩ := Option.bind_eq_some_iff.mp h
 have f29 := g0_1.stp (S3.tr (S7.tr (S11.tr (S20.tr S26)))) rfl rfl
 refine WO.call rfl rfl rfl rfl rfl rfl Try.call72 (l_toInt64SS_ok (κ := fun b => mp [] 0 (K19 b)) (Sl.map f29 (mp [] 0) rfl rfl) hx10) ?_
 rintro _ w30 ⟨k31, a10_0, u10_0, rfl, e32, f33⟩
 obtain ⟨K34, S35, m36⟩ := Ent.mixed (l := []) (κ := K19) e32 8 rfl
 refine ⟨trivial, ?_⟩
 have f38 := f33.mx (no_own (no_int _) _) m36 rfl (rfl : 8 + 2 = 10)
 refine WO.k2 rfl rfl rfl rfl (rn_fieldAddr Try.runUnderlying84 rfl Try.sizeOf25 rfl rfl) ?_
 have f39 := f27.stp S35 rfl rfl
 refine WO.stB (κ := K34) 4 (off := 1) (vc := [.slice a10_0 x10.length u10_0]) (cs' := [.slice a6_0 x6.length u6_0, .slice a10_0 x10.length u10_0]) rfl rfl rfl rfl rfl rfl rfl Try.sizeOf25 rfl rfl f39 rfl rfl fun w40 S41 f42 => ⟨trivial, ?_⟩
 refine WO.fin ?_
 refine DN.seq ?_
 refine WC.seq ?_
 refine WC.rs [(0, 1), (1, 1)] rfl ?_
 refine WO.k1 trivial rfl rfl rfl rfl (rn_la (cs := [.slice a6_0 x6.length u6_0, .slice a10_0 x10.length u10_0]) Try.isAgg84 Try.sizeOf84 rfl rfl rfl (haE f42.cells)) ?_
 have f43 := f8.stp (S11.tr (S20.tr (S26.tr (S35.tr S41)))) rfl rfl
 refine WO.stB0 (κ := K34) 3 (vc := [.slice a6_0 x6.length u6_0, .slice a10_0 x10.length u10_0]) rfl rfl rfl rfl rfl rfl rfl Try.sizeOf84 rfl rfl f43 rfl fun w44 S45 f46 => ⟨trivial, ?_⟩
 refine WO.fin ?_
 refine DN.seq ?_
 refine WC.ret ?_
 have f47 := hE.stp (S3.tr (S7.tr (S11.tr (S20.tr (S26.tr (S35.tr (S41.tr S45))))))) rfl rfl
 have f48 := f23.stp (S26.tr (S35.tr (S41.tr S45))) rfl rfl
 have f49 := f38.stp (S41.tr S45) rfl rfl
 refine DN.res (l := [.cell 2 84]) Try.results48 (res_cellA rfl f46 Try.isAgg84 Try.sizeOf84 rfl rfl) rfl ?_
 obtain rfl := Option.some.inj h
 exact ⟨(fun b => ren [(7, 2), (10, 3)] (K34 b)), a6_0, u6_0, a10_0, u10_0, rfl, (f47.map (ren [(7, 2), (10, 3)]) rfl rfl), (f48.map (ren [(7, 2), (10, 3)]) rfl rfl), (f49.map (ren [(7, 2), (10, 3)]) rfl rfl)⟩

/- loop.example/g00869/spec.MachineOk -/
theorem s_MachineOk_ok {w : World} {κ : Col} {p0 : Sig} {a1_0 : Option Addr} {u1_0 : Nat} {a1_1 : Option Addr} {u1_1 : Nat} {p1 : Machine} (g1_0 : Rd (Rp.sl (Rp.int .i64)) κ w 0 a1_0 u1_0 p1.Next) (g1_1 : Rd (Rp.sl (Rp.int .i64)) κ w 0 a1_1 u1_1 p1.Out) {r : Bool} (h : s_MachineOk p0 p1 = some r) : Ret Try.prog 99 [.agg #[.int .i64 p0.In, .int .i64 p0.Out], .agg #[.slice a1_0 p1.Next.length u1_0, .slice a1_1 p1.Out.length u1_1]] w (fun v w' => ∃ (κ' : Col), v = .bool r ∧ Ent κ w κ' w') := by
 unfold s_MachineOk at h
 refine Ret.enter Try.func99 rfl Try.ntmps99 rfl ?_
 dsimp only [envOf]
 have hE := Ent.refl κ w
 refine WC.seq ?_
 refine WC.rs [(0, 1), (1, 1), (2, 2)] rfl ?_
 refine WO.box (κ := κ) 2 rfl rfl rfl rfl rfl rfl rfl fun b2 w1 K2 S3 f4 => ⟨trivial, ?_⟩
 refine WO.box (κ := K2) 3 rfl rfl rfl rfl rfl rfl rfl fun b3 w5 K6 S7 f8 => ⟨trivial, ?_⟩
 refine WO.pn 1 rfl ?_
 refine WO.fin ?_
 refine DN.seq ?_
 refine WC.seq ?_
 refine WC.rs [(0, 2), (1, 1), (2, 2), (3, 2)] rfl ?_
 refine WO.k2 rfl rfl rfl rfl (rn_fieldAddr Try.runUnderlying84 rfl Try.sizeOf25 rfl rfl) ?_
 refine WO.k1 trivial rfl rfl rfl rfl (rn_ld Try.isAgg25 rfl rfl (hvE (f8.ld 0 rfl rfl))) ?_
 refine WO.k2 rfl rfl rfl rfl (rn_len Try.runUnderlying25 rfl rfl) ?_
 refine WO.pn 1 rfl ?_
 refine WO.fin ?_
 refine DN.seq ?_
 refine WC.seq ?_
 refine WC.seq ?_
 refine WC.rs [(0, 1), (1, 1), (2, 2), (3, 2), (4, 2), (5, 1), (6, 2), (7, 2), (8, 2), (9, 2), (10, 1), (11, 2), (12, 2), (13, 1), (14, 2), (15, 2), (16, 2)] rfl ?_
 have f9 := f4.stp S7 rfl rfl
 refine WO.k1 trivial rfl rfl rfl rfl (rn_la (cs := [.int .i64 p0.In, .int .i64 p0.Out]) Try.isAgg30 Try.sizeOf30 rfl rfl rfl (haE f9.cells)) ?_
 obtain ⟨x11, hx11, h⟩ := Option.bind_eq_some_iff.mp h
 refine WO.call rfl rfl rfl rfl rfl rfl Try.call131 (s_SigOk_ok (κ := fun b => mp [] 0 (K6 b)) (p0 := p0) hx11) ?_
 rintro _ w10 ⟨k11, rfl, e12⟩
 obtain ⟨K13, S14, m15⟩ := Ent.mixed (l := []) (κ := K6) e12 4 rfl
 refine ⟨trivial, ?_⟩
 refine WO.pn 2 rfl ?_
 obtain ⟨p17, h, hK17⟩ := Option.bind_eq_some_iff.mp h
 refine WO.meet [(4, 2), (5, 1), (6, 2), (7, 2)] [(8, 2), (9, 2), (10, 1), (11, 2), (12, 2), (13, 1), (14, 2), (15, 2), (16, 2)] (fun L w' => L = [(2, .pointer (some ⟨b2, 0, none⟩)), (3, .pointer (some ⟨b3, 0, none⟩)), (5, .int .i64 (p1.Next.length : Int)), (17, .bool p17)] ∧ ∃ κ', Stp [] K13 w10 κ' w') trivial ?_ ?_
 ·
  revert h
  cases ht18 : (!x11) with
  | true =>
   intro h; replace h := cT h
   refine WO.pn 1 rfl ?_
   refine WO.ls rfl rfl rfl rfl ?_
   refine WO.pn 2 rfl ?_
   obtain rfl := Option.some.inj h
   exact WO.met _ trivial ⟨rfl, _, (Stp.refl _ _).wk rfl⟩ fun a ha => (ha.more (ha.more (ha.more (ha.more ha.nil rfl) rfl) rfl) rfl)
  | false =>
   intro h; replace h := cF h
   refine WO.pn 1 rfl ?_
   obtain ⟨x15, hx15, h⟩ := Option.bind_eq_some_iff.mp h
   refine WO.call rfl rfl rfl rfl rfl rfl Try.call84 (s_l1In_ok (κ := fun b => mp [] 0 (K13 b)) hx15) ?_
   rintro _ w19 ⟨k20, rfl, e21⟩
   obtain ⟨K22, S23, m24⟩ := Ent.mixed (l := []) (κ := K13) e21 6 rfl
   refine ⟨trivial, ?_⟩
   refine WO.pn 2 rfl ?_
   obtain rfl := Option.some.inj h
   exact WO.met _ trivial ⟨rfl, _, S23.wk rfl⟩ fun a ha => (ha.more (ha.more (ha.more (ha.more ha.nil rfl) rfl) rfl) rfl)
 rintro _ w26 _ ⟨rfl, K27, S28⟩
 have h := hK17
 refine WO.pn 1 rfl ?_
 obtain ⟨p26, h, hK29⟩ := Option.bind_eq_some_iff.mp h
 refine WO.meet [(9, 2), (10, 1), (11, 2), (12, 2), (13, 1), (14, 2), (15, 2), (16, 2)] [] (fun L w' => L = [(2, .pointer (some ⟨b2, 0, none⟩)), (3, .pointer (some ⟨b3, 0, none⟩)), (5, .int .i64 (p1.Next.length : Int)), (26, .bool p26)] ∧ ∃ κ', Stp [] K27 w26 κ' w') trivial ?_ ?_
 ·
  revert h
  cases ht30 : p17 with
  | true =>
   intro h; replace h := cT h
   refine WO.pn 1 rfl ?_
   refine WO.ls rfl rfl rfl rfl ?_
   refine WO.pn 2 rfl ?_
   refine WO.ls rfl rfl rfl rfl ?_
   refine WO.pn 3 rfl ?_
   obtain rfl := Option.some.inj h
   exact WO.met _ trivial ⟨rfl, _, (Stp.refl _ _).wk rfl⟩ fun a ha => (ha.more (ha.more (ha.more (ha.more ha.nil rfl) rfl) rfl) rfl)
  | false =>
   intro h; replace h := cF h
   refine WO.k2 rfl rfl rfl rfl (rn_fieldAddr Try.runUnderlying84 rfl Try.sizeOf25 rfl rfl) ?_
   have f31 := f8.stp (S14.tr S28) rfl rfl
   refine WO.k1 trivial rfl rfl rfl rfl (rn_ld Try.isAgg25 rfl rfl (hvE (f31.ld 1 rfl rfl))) ?_
   refine WO.k2 rfl rfl rfl rfl (rn_len Try.runUnderlying25 rfl rfl) ?_
   refine WO.k2 rfl rfl rfl rfl (rn_fieldAddr Try.runUnderlying84 rfl Try.sizeOf25 rfl rfl) ?_
   refine WO.k1 trivial rfl rfl rfl rfl (rn_ld Try.isAgg25 rfl rfl (hvE (f31.ld 0 rfl rfl))) ?_
   refine WO.k2 rfl rfl rfl rfl (rn_len Try.runUnderlying25 rfl rfl) ?_
   refine WO.pn 2 rfl ?_
   obtain rfl := Option.some.inj h
   exact WO.met _ trivial ⟨rfl, _, (Stp.refl _ _).wk rfl⟩ fun a ha => (ha.more (ha.more (ha.more (ha.more ha.nil rfl) rfl) rfl) rfl)
 rintro _ w32 _ ⟨rfl, K33, S34⟩
 have h := hK29
 refine WO.fin ?_
 refine DN.seq ?_
 revert h
 cases ht35 : p26 with
 | true =>
  intro h; replace h := cT h
  refine WC.ct rfl ?_
  refine WC.seq ?_
  refine WC.rs [(0, 2)] rfl ?_
  refine WO.pn 1 rfl ?_
  refine WO.fin ?_
  refine DN.seq ?_
  refine WC.ret ?_
  refine DN.retThen ?_
  have f36 := hE.stp (S3.tr (S7.tr (S14.tr (S28.tr S34)))) rfl rfl
  refine DN.res (l := [.tmp 4]) Try.results99 (res_tmp rfl rfl) rfl ?_
  obtain rfl := Option.some.inj h
  exact ⟨K33, rfl, f36⟩
 | false =>
  intro h; replace h := cF h
  refine WC.cf rfl ?_
  refine WC.skip ?_
  refine DN.seq ?_
  refine WC.seq ?_
  refine WC.seq ?_
  refine WC.rs [(0, 2)] rfl ?_
  refine WO.pn 1 rfl ?_
  refine WO.fin ?_
  refine DN.seq ?_
  have hN37 : (p1.Next.length : Int) ≤ 9223372036854775807 := g1_0.len_le
  obtain ⟨q2, hq39, hK38⟩ := Option.bind_eq_some_iff.mp h
  clear h
  refine WC.meet (fun L w' => ∃ (κ' : Col), L = [] ∧ Stp [] K33 w32 κ' w' ∧ q2 = Sum.inr ()) ?_ ?_
  ·
   refine WC.block ?_
   refine WC.loop (fun k L w' => ∃ (κ' : Col) (v6 : Int), L = [(2, .pointer (some ⟨b2, 0, none⟩)), (3, .pointer (some ⟨b3, 0, none⟩)), (5, .int .i64 (p1.Next.length : Int)), (6, .int .i64 v6)] ∧ Stp [] K33 w32 κ' w' ∧ 0 ≤ v6 ∧ Int.toNat ((p1.Next.length : Int) - v6) = k ∧ cntM (s_MachineOk_b0 p0 p1) k v6 () = some q2) ⟨_, _, ⟨K33, 0, rfl, (Stp.refl _ _).wk rfl, (by decide), (by simp), hq39⟩, fun a ha => (ha.more (ha.more (ha.more (ha.more ha.nil rfl) rfl) rfl) rfl)⟩ ?_
   rintro k _ w43 ⟨K44, v6, rfl, S45, hj37, hJ37, h⟩
   rcases k with _ | k
   ·
    have hk46 := h; obtain ⟨o37, h⟩ := ex_eq (Sum.inr (Sum.inl ()) : Bool ⊕ ((Unit) ⊕ (Unit)))
    have hc37 : decide (v6 < (p1.Next.length : Int)) = false := decide_eq_false (by omega)
    refine WC.seq ?_
    refine WC.seq ?_
    refine WC.rs [(0, 2), (1, 2), (2, 1), (3, 2), (4, 2)] rfl ?_
    refine WO.pn 1 rfl ?_
    refine WO.k2 rfl rfl rfl rfl (rn_fieldAddr Try.runUnderlying84 rfl Try.sizeOf25 rfl rfl) ?_
    have f47 := f8.stp (S14.tr (S28.tr (S34.tr S45))) rfl rfl
    refine WO.k1 trivial rfl rfl rfl rfl (rn_ld Try.isAgg25 rfl rfl (hvE (f47.ld 0 rfl rfl))) ?_
    refine WO.k2 rfl rfl rfl rfl (rn_len Try.runUnderlying25 rfl rfl) ?_
    refine WO.pn 1 rfl ?_
    refine WO.fin ?_
    refine DN.seq ?_
    refine WC.cf' rfl hc37 ?_
    refine WC.exit ?_
    refine DN.exitThen ?_
    refine DN.exitThen ?_
    obtain rfl := Option.some.inj h
    have h := hk46
    refine DN.hit ?_
    obtain rfl := Option.some.inj h
    exact DN.meet _ ⟨K44, rfl, S45.wk rfl, rfl⟩ fun a ha => ha.nil
   ·
    obtain ⟨o37, h, hk46⟩ := Option.bind_eq_some_iff.mp h; unfold s_MachineOk_b0 at h
    have hc37 : decide (v6 < (p1.Next.length : Int)) = true := decide_eq_true (by omega)
    refine WC.seq ?_
    refine WC.seq ?_
    refine WC.rs [(0, 2), (1, 2), (2, 1), (3, 2), (4, 2)] rfl ?_
    refine WO.pn 1 rfl ?_
    refine WO.k2 rfl rfl rfl rfl (rn_fieldAddr Try.runUnderlying84 rfl Try.sizeOf25 rfl rfl) ?_
    have f48 := f8.stp (S14.tr (S28.tr (S34.tr S45))) rfl rfl
    refine WO.k1 trivial rfl rfl rfl rfl (rn_ld Try.isAgg25 rfl rfl (hvE (f48.ld 0 rfl rfl))) ?_
    refine WO.k2 rfl rfl rfl rfl (rn_len Try.runUnderlying25 rfl rfl) ?_
    refine WO.pn 1 rfl ?_
    refine WO.fin ?_
    refine DN.seq ?_
    refine WC.ct' rfl hc37 ?_
    refine WC.skip ?_
    refine DN.seq ?_
    refine WC.seq ?_
    refine WC.block ?_
    refine WC.seq ?_
    refine WC.rx (κ := K44) 5 none [(0, 2), (2, 2), (1, 0), (3, 2), (4, 0), (5, 2), (6, 0), (7, 1), (8, 2), (9, 2), (10, 2), (12, 2), (16, 2), (18, 2), (11, 0), (13, 2), (14, 0), (15, 2), (17, 0), (19, 2), (20, 0), (21, 2), (22, 2), (23, 2), (24, 2), (25, 2), (27, 2), (30, 2), (26, 0), (28, 2), (29, 0), (31, 1), (32, 2), (33, 2), (34, 2), (35, 2), (37, 2), (40, 2), (36, 0), (38, 2), (39, 0), (41, 0), (42, 1), (43, 1), (44, 2), (45, 2)] [] (by kernel_rfl) (by kernel_rfl) fun w50 S49 => ?_
    refine WO.k2 rfl rfl rfl rfl (rn_fieldAddr Try.runUnderlying84 rfl Try.sizeOf25 rfl rfl) ?_
    refine WO.pn 1 rfl ?_
    have f51 := f48.stp S49 rfl rfl
    refine WO.k0 rfl rfl rfl rfl (rn_ld Try.isAgg25 rfl rfl (hvC (f51.ld 0 rfl rfl) rfl)) ?_
    obtain ⟨x37, hx37, h⟩ := Option.bind_eq_some_iff.mp h
    refine WO.k2 rfl rfl rfl rfl (rn_index g1_0 hx37 Try.runUnderlying25 Try.sizeOf24 rfl rfl rfl rfl) ?_
    have f52 := g1_0.stp (S3.tr (S7.tr (S14.tr (S28.tr (S34.tr (S45.tr S49)))))) rfl rfl
    obtain ⟨ax37, ux37, f53, hl54⟩ := f52.gSl hx37
    refine WO.k0 rfl rfl rfl rfl (rn_ld Try.isAgg24 rfl rfl (hvC hl54 rfl)) ?_
    refine WO.k2 rfl rfl rfl rfl (rn_len Try.runUnderlying24 rfl rfl) ?_
    have f55 := f9.stp (S14.tr (S28.tr (S34.tr (S45.tr S49)))) rfl rfl
    refine WO.k0 rfl rfl rfl rfl (rn_la (cs := [.int .i64 p0.In, .int .i64 p0.Out]) Try.isAgg30 Try.sizeOf30 rfl rfl rfl (haC f55.cells rfl)) ?_
    obtain ⟨x41, hx41, h⟩ := Option.bind_eq_some_iff.mp h
    refine WO.call rfl rfl rfl rfl rfl rfl Try.call146 (s_l29Ins_ok (κ := fun b => mp [] 0 (K44 b)) (p0 := p0) hx41) ?_
    rintro _ w56 ⟨k57, rfl, e58⟩
    obtain ⟨K59, S60, m61⟩ := Ent.mixed (l := []) (κ := K44) e58 6 rfl
    refine ⟨(S60.cl rfl), ?_⟩
    refine WO.pn 2 rfl ?_
    obtain ⟨p57, h, hK63⟩ := Option.bind_eq_some_iff.mp h
    refine WO.meet [(10, 2), (12, 2), (16, 2), (18, 2), (11, 0), (13, 2), (14, 0), (15, 2), (17, 0), (19, 2), (20, 0), (21, 2), (22, 2), (23, 2)] [(24, 2), (25, 2), (27, 2), (30, 2), (26, 0), (28, 2), (29, 0), (31, 1), (32, 2), (33, 2), (34, 2), (35, 2), (37, 2), (40, 2), (36, 0), (38, 2), (39, 0), (41, 0), (42, 1), (43, 1), (44, 2), (45, 2)] (fun L w' => L = [(2, .pointer (some ⟨b2, 0, none⟩)), (3, .pointer (some ⟨b3, 0, none⟩)), (5, .int .i64 (p1.Next.length : Int)), (6, .int .i64 v6), (57, .bool p57)] ∧ ∃ κ', Stp [] K59 w56 κ' w') (S60.cl rfl) ?_ ?_
    ·
     revert h
     cases ht64 : ((x37.length : Int) != x41) with
     | true =>
      intro h; replace h := cT h
      refine WO.pn 4 rfl ?_
      refine WO.qs rfl rfl rfl rfl ?_
      refine WO.pn 1 rfl ?_
      refine WO.qs rfl rfl rfl rfl ?_
      refine WO.pn 1 rfl ?_
      refine WO.qs rfl rfl rfl rfl ?_
      refine WO.pn 1 rfl ?_
      refine WO.qs rfl rfl rfl rfl ?_
      refine WO.pn 3 rfl ?_
      obtain rfl := Option.some.inj h
      exact WO.met _ (S60.cl rfl) ⟨rfl, _, (Stp.refl _ _).wk rfl⟩ fun a ha => (ha.more (ha.more (ha.more (ha.more (ha.more ha.nil rfl) rfl) rfl) rfl) rfl)
     | false =>
      intro h; replace h := cF h
      refine WO.k2 rfl rfl rfl rfl (rn_fieldAddr Try.runUnderlying84 rfl Try.sizeOf25 rfl rfl) ?_
      refine WO.pn 1 rfl ?_
      refine WO.k2 rfl rfl rfl rfl (rn_fieldAddr Try.runUnderlying84 rfl Try.sizeOf25 rfl rfl) ?_
      refine WO.pn 1 rfl ?_
      refine WO.k0 rfl rfl rfl rfl (rn_ld Try.isAgg25 rfl rfl (hvC (f51.ld 1 rfl rfl) rfl)) ?_
      obtain ⟨x47, hx47, h⟩ := Option.bind_eq_some_iff.mp h
      refine WO.k2 rfl rfl rfl rfl (rn_index g1_1 hx47 Try.runUnderlying25 Try.sizeOf24 rfl rfl rfl rfl) ?_
      have f65 := g1_1.stp (S3.tr (S7.tr (S14.tr (S28.tr (S34.tr (S45.tr S49)))))) rfl rfl
      obtain ⟨ax47, ux47, f66, hl67⟩ := f65.gSl hx47
      refine WO.k0 rfl rfl rfl rfl (rn_ld Try.isAgg24 rfl rfl (hvC hl67 rfl)) ?_
      refine WO.k2 rfl rfl rfl rfl (rn_len Try.runUnderlying24 rfl rfl) ?_
      refine WO.k0 rfl rfl rfl rfl (rn_ld Try.isAgg25 rfl rfl (hvC (f51.ld 0 rfl rfl) rfl)) ?_
      obtain ⟨x53, hx53, h⟩ := Option.bind_eq_some_iff.mp h
      refine WO.k2 rfl rfl rfl rfl (rn_index f52 hx53 Try.runUnderlying25 Try.sizeOf24 rfl rfl rfl rfl) ?_
      obtain ⟨ax53, ux53, f68, hl69⟩ := f52.gSl hx53
      refine WO.k0 rfl rfl rfl rfl (rn_ld Try.isAgg24 rfl rfl (hvC hl69 rfl)) ?_
      refine WO.k2 rfl rfl rfl rfl (rn_len Try.runUnderlying24 rfl rfl) ?_
      refine WO.pn 2 rfl ?_
      obtain rfl := Option.some.inj h
      exact WO.met _ (S60.cl rfl) ⟨rfl, _, (Stp.refl _ _).wk rfl⟩ fun a ha => (ha.more (ha.more (ha.more (ha.more (ha.more ha.nil rfl) rfl) rfl) rfl) rfl)
    rintro _ w70 _ ⟨rfl, K71, S72⟩
    have h := hK63
    refine WO.pn 1 rfl ?_
    obtain ⟨p67, h, hK73⟩ := Option.bind_eq_some_iff.mp h
    refine WO.meet [(25, 2), (27, 2), (30, 2), (26, 0), (28, 2), (29, 0), (31, 1), (32, 2), (33, 2)] [(34, 2), (35, 2), (37, 2), (40, 2), (36, 0), (38, 2), (39, 0), (41, 0), (42, 1), (43, 1), (44, 2), (45, 2)] (fun L w' => L = [(2, .pointer (some ⟨b2, 0, none⟩)), (3, .pointer (some ⟨b3, 0, none⟩)), (5, .int .i64 (p1.Next.length : Int)), (6, .int .i64 v6), (67, .bool p67)] ∧ ∃ κ', Stp [] K71 w70 κ' w') ((S60.tr S72).cl rfl) ?_ ?_
    ·
     revert h
     cases ht74 : p57 with
     | true =>
      intro h; replace h := cT h
      refine WO.pn 3 rfl ?_
      refine WO.qs rfl rfl rfl rfl ?_
      refine WO.pn 1 rfl ?_
      refine WO.qs rfl rfl rfl rfl ?_
      refine WO.ls rfl rfl rfl rfl ?_
      refine WO.pn 2 rfl ?_
      obtain rfl := Option.some.inj h
      exact WO.met _ ((S60.tr S72).cl rfl) ⟨rfl, _, (Stp.refl _ _).wk rfl⟩ fun a ha => (ha.more (ha.more (ha.more (ha.more (ha.more ha.nil rfl) rfl) rfl) rfl) rfl)
     | false =>
      intro h; replace h := cF h
      refine WO.k2 rfl rfl rfl rfl (rn_fieldAddr Try.runUnderlying84 rfl Try.sizeOf25 rfl rfl) ?_
      refine WO.pn 2 rfl ?_
      refine WO.k0 rfl rfl rfl rfl (rn_ld Try.isAgg25 rfl rfl (hvC (f51.ld 0 rfl rfl) rfl)) ?_
      obtain ⟨x62, hx62, h⟩ := Option.bind_eq_some_iff.mp h
      refine WO.k2 rfl rfl rfl rfl (rn_index f52 hx62 Try.runUnderlying25 Try.sizeOf24 rfl rfl rfl rfl) ?_
      obtain ⟨ax62, ux62, f75, hl76⟩ := f52.gSl hx62
      refine WO.k0 rfl rfl rfl rfl (rn_ld Try.isAgg24 rfl rfl (hvC hl76 rfl)) ?_
      obtain ⟨x65, hx65, h⟩ := Option.bind_eq_some_iff.mp h
      have f77 := f75.stp (S60.tr S72) rfl rfl
      refine WO.call rfl rfl rfl rfl rfl rfl Try.call78 (s_l23Below_ok (κ := fun b => mp [] 0 (K71 b)) (Sl.map f77 (mp [] 0) rfl rfl) hx65) ?_
      rintro _ w78 ⟨k79, rfl, e80⟩
      obtain ⟨K81, S82, m83⟩ := Ent.mixed (l := []) (κ := K71) e80 8 rfl
      refine ⟨((S60.tr (S72.tr S82)).cl rfl), ?_⟩
      refine WO.pn 2 rfl ?_
      obtain rfl := Option.some.inj h
      exact WO.met _ ((S60.tr (S72.tr S82)).cl rfl) ⟨rfl, _, S82.wk rfl⟩ fun a ha => (ha.more (ha.more (ha.more (ha.more (ha.more ha.nil rfl) rfl) rfl) rfl) rfl)
    rintro _ w85 _ ⟨rfl, K86, S87⟩
    have h := hK73
    refine WO.pn 1 rfl ?_
    obtain ⟨p79, h, hK88⟩ := Option.bind_eq_some_iff.mp h
    refine WO.meet [(35, 2), (37, 2), (40, 2), (36, 0), (38, 2), (39, 0), (41, 0), (42, 1), (43, 1), (44, 2), (45, 2)] [] (fun L w' => L = [(2, .pointer (some ⟨b2, 0, none⟩)), (3, .pointer (some ⟨b3, 0, none⟩)), (5, .int .i64 (p1.Next.length : Int)), (6, .int .i64 v6), (79, .bool p79)] ∧ ∃ κ', Stp [] K86 w85 κ' w') ((S60.tr (S72.tr S87)).cl rfl) ?_ ?_
    ·
     revert h
     cases ht89 : p67 with
     | true =>
      intro h; replace h := cT h
      refine WO.pn 3 rfl ?_
      refine WO.qs rfl rfl rfl rfl ?_
      refine WO.pn 1 rfl ?_
      refine WO.qs rfl rfl rfl rfl ?_
      refine WO.qs rfl rfl rfl rfl ?_
      refine WO.ls rfl rfl rfl rfl ?_
      refine WO.ls rfl rfl rfl rfl ?_
      refine WO.pn 2 rfl ?_
      obtain rfl := Option.some.inj h
      exact WO.met _ ((S60.tr (S72.tr S87)).cl rfl) ⟨rfl, _, (Stp.refl _ _).wk rfl⟩ fun a ha => (ha.more (ha.more (ha.more (ha.more (ha.more ha.nil rfl) rfl) rfl) rfl) rfl)
     | false =>
      intro h; replace h := cF h
      refine WO.k2 rfl rfl rfl rfl (rn_fieldAddr Try.runUnderlying84 rfl Try.sizeOf25 rfl rfl) ?_
      refine WO.pn 1 rfl ?_
      refine WO.k2 rfl rfl rfl rfl (rn_fieldAddr Try.runUnderlying30 rfl Try.sizeOf2 rfl rfl) ?_
      refine WO.k0 rfl rfl rfl rfl (rn_ld Try.isAgg25 rfl rfl (hvC (f51.ld 1 rfl rfl) rfl)) ?_
      obtain ⟨x72, hx72, h⟩ := Option.bind_eq_some_iff.mp h
      refine WO.k2 rfl rfl rfl rfl (rn_index g1_1 hx72 Try.runUnderlying25 Try.sizeOf24 rfl rfl rfl rfl) ?_
      have f90 := g1_1.stp (S3.tr (S7.tr (S14.tr (S28.tr (S34.tr (S45.tr S49)))))) rfl rfl
      obtain ⟨ax72, ux72, f91, hl92⟩ := f90.gSl hx72
      refine WO.k0 rfl rfl rfl rfl (rn_ld Try.isAgg24 rfl rfl (hvC hl92 rfl)) ?_
      refine WO.k0 rfl rfl rfl rfl (rn_ld Try.isAgg2 rfl rfl (hvC (f55.ld 1 rfl rfl) rfl)) ?_
      obtain ⟨x76, hx76, h⟩ := Option.bind_eq_some_iff.mp h
      refine WO.call rfl rfl rfl rfl rfl rfl Try.call133 (s_l23Power_ok (κ := fun b => mp [] 0 (K86 b)) hx76) ?_
      rintro _ w93 ⟨k94, rfl, e95⟩
      obtain ⟨K96, S97, m98⟩ := Ent.mixed (l := []) (κ := K86) e95 8 rfl
      refine ⟨((S60.tr (S72.tr (S87.tr S97))).cl rfl), ?_⟩
      obtain ⟨x77, hx77, h⟩ := Option.bind_eq_some_iff.mp h
      have f100 := f91.stp (S60.tr (S72.tr (S87.tr S97))) rfl rfl
      refine WO.call rfl rfl rfl rfl rfl rfl Try.call78 (s_l23Below_ok (κ := fun b => mp [] 0 (K96 b)) (Sl.map f100 (mp [] 0) rfl rfl) hx77) ?_
      rintro _ w101 ⟨k102, rfl, e103⟩
      obtain ⟨K104, S105, m106⟩ := Ent.mixed (l := []) (κ := K96) e103 10 rfl
      refine ⟨((S60.tr (S72.tr (S87.tr (S97.tr S105)))).cl rfl), ?_⟩
      refine WO.pn 2 rfl ?_
      obtain rfl := Option.some.inj h
      exact WO.met _ ((S60.tr (S72.tr (S87.tr (S97.tr S105)))).cl rfl) ⟨rfl, _, (S97.tr S105).wk rfl⟩ fun a ha => (ha.more (ha.more (ha.more (ha.more (ha.more ha.nil rfl) rfl) rfl) rfl) rfl)
    rintro _ w108 _ ⟨rfl, K109, S110⟩
    have h := hK88
    refine WO.nx ?_
    refine WO.fin ?_
    refine DN.seq ?_
    revert h
    cases ht111 : p79 with
    | true =>
     intro h; replace h := cT h
     refine WC.ct rfl ?_
     refine WC.seq ?_
     refine WC.rs [(0, 2)] rfl ?_
     refine WO.pn 1 rfl ?_
     refine WO.fin ?_
     refine DN.seq ?_
     refine WC.ret ?_
     refine DN.retBlock ?_
     refine DN.retThen ?_
     refine DN.retThen ?_
     obtain rfl := Option.some.inj h
     obtain rfl := Option.some.inj hk46
     have h := hK38
     dsimp only [aft] at h
     refine DN.retBlock ?_
     refine DN.retMeet ?_
     refine DN.retThen ?_
     have f112 := hE.stp (S3.tr (S7.tr (S14.tr (S28.tr (S34.tr (S45.tr (S49.tr (S60.tr (S72.tr (S87.tr S110)))))))))) rfl rfl
     refine DN.res (l := [.tmp 4]) Try.results99 (res_tmp rfl rfl) rfl ?_
     obtain rfl := Option.some.inj h
     exact ⟨K109, rfl, f112⟩
    | false =>
     intro h; replace h := cF h
     refine WC.cf rfl ?_
     refine WC.skip ?_
     refine DN.block ?_
     refine DN.seq ?_
     refine WC.rs [(0, 2), (1, 2), (2, 2)] rfl ?_
     refine WO.pn 3 rfl ?_
     refine WO.fin ?_
     have hw37 : IntKind.wrap .i64 (v6 + 1) = v6 + 1 := wr1 hj37 (of_decide_eq_true hc37) hN37
     rw [hw37]
     have hc37 := of_decide_eq_true hc37
     obtain rfl := Option.some.inj h
     refine DN.round fun a ha => ?_
     exact ⟨k, _, Nat.lt_succ_self _, ⟨K109, v6 + 1, rfl, (S45.tr (S49.tr (S60.tr (S72.tr (S87.tr S110))))).wk rfl, by omega, by omega, hk46⟩, (ha.more (ha.more (ha.more (ha.more ha.nil rfl) rfl) rfl) rfl)⟩
  rintro _ w40 ⟨K41, rfl, S42, rfl⟩
  have h := hK38
  dsimp only [aft] at h
  refine DN.seq ?_
  refine WC.seq ?_
  refine WC.rs [(0, 2)] rfl ?_
  refine WO.pn 1 rfl ?_
  refine WO.fin ?_
  refine DN.seq ?_
  refine WC.ret ?_
  have f113 := hE.stp (S3.tr (S7.tr (S14.tr (S28.tr (S34.tr S42))))) rfl rfl
  refine DN.res (l := [.tmp 4]) Try.results99 (res_tmp rfl rfl) rfl ?_
  obtain rfl := Option.some.inj h
  exact ⟨K41, rfl, f113⟩

/- loop.example/g00869/spec.l29Inputs -/
theorem s_l29Inputs_ok {w : World} {κ : Col} {p0 : Sig} {a1 : Option Addr} {u1 : Nat} {p1 : (List Int)} (g1 : Rd (Rp.int .i64) κ w 0 a1 u1 p1) {r : Bool} (h : s_l29Inputs p0 p1 = some r) : Ret Try.prog 100 [.agg #[.int .i64 p0.In, .int .i64 p0.Out], .slice a1 p1.length u1] w (fun v w' => ∃ (κ' : Col), v = .bool r ∧ Ent κ w κ' w') := by
 unfold s_l29Inputs at h
 refine Ret.enter Try.func100 rfl Try.ntmps100 rfl ?_
 dsimp only [envOf]
 have hE := Ent.refl κ w
 refine WC.seq ?_
 refine WC.rs [(0, 1), (1, 2)] rfl ?_
 refine WO.box (κ := κ) 2 rfl rfl rfl rfl rfl rfl rfl fun b2 w1 K2 S3 f4 => ⟨trivial, ?_⟩
 refine WO.pn 1 rfl ?_
 refine WO.fin ?_
 refine DN.seq ?_
 refine WC.seq ?_
 refine WC.rs [(0, 2), (1, 2), (2, 2), (3, 2), (4, 2), (5, 1), (6, 1), (7, 1), (8, 2), (9, 2)] rfl ?_
 refine WO.pn 1 rfl ?_
 refine WO.k2 rfl rfl rfl rfl (rn_len Try.runUnderlying24 rfl rfl) ?_
 refine WO.pn 2 rfl ?_
 obtain ⟨p13, h, hK5⟩ := Option.bind_eq_some_iff.mp h
 refine WO.meet [(4, 2), (5, 1), (6, 1), (7, 1), (8, 2)] [(9, 2)] (fun L w' => L = [(4, .bool false), (13, .bool p13)] ∧ ∃ κ', Stp [] K2 w1 κ' w') trivial ?_ ?_
 ·
  revert h
  cases ht6 : decide ((p1.length : Int) ≤ 600) with
  | true =>
   intro h; replace h := cT h
   refine WO.pn 1 rfl ?_
   refine WO.k1 trivial rfl rfl rfl rfl (rn_la (cs := [.int .i64 p0.In, .int .i64 p0.Out]) Try.isAgg30 Try.sizeOf30 rfl rfl rfl (haE f4.cells)) ?_
   obtain ⟨x11, hx11, h⟩ := Option.bind_eq_some_iff.mp h
   refine WO.call rfl rfl rfl rfl rfl rfl Try.call146 (s_l29Ins_ok (κ := fun b => mp [] 0 (K2 b)) (p0 := p0) hx11) ?_
   rintro _ w7 ⟨k8, rfl, e9⟩
   obtain ⟨K10, S11, m12⟩ := Ent.mixed (l := []) (κ := K2) e9 3 rfl
   refine ⟨trivial, ?_⟩
   obtain ⟨x12, hx12, h⟩ := Option.bind_eq_some_iff.mp h
   have f14 := g1.stp (S3.tr S11) rfl rfl
   refine WO.call rfl rfl rfl rfl rfl rfl Try.call78 (s_l23Below_ok (κ := fun b => mp [] 0 (K10 b)) (Sl.map f14 (mp [] 0) rfl rfl) hx12) ?_
   rintro _ w15 ⟨k16, rfl, e17⟩
   obtain ⟨K18, S19, m20⟩ := Ent.mixed (l := []) (κ := K10) e17 5 rfl
   refine ⟨trivial, ?_⟩
   refine WO.pn 1 rfl ?_
   obtain rfl := Option.some.inj h
   exact WO.met _ trivial ⟨rfl, _, (S11.tr S19).wk rfl⟩ fun a ha => (ha.more (ha.more ha.nil rfl) rfl)
  | false =>
   intro h; replace h := cF h
   refine WO.pn 1 rfl ?_
   refine WO.ls rfl rfl rfl rfl ?_
   refine WO.ls rfl rfl rfl rfl ?_
   refine WO.ls rfl rfl rfl rfl ?_
   refine WO.pn 1 rfl ?_
   obtain rfl := Option.some.inj h
   exact WO.met _ trivial ⟨rfl, _, (Stp.refl _ _).wk rfl⟩ fun a ha => (ha.more (ha.more ha.nil rfl) rfl)
 rintro _ w22 _ ⟨rfl, K23, S24⟩
 have h := hK5
 refine WO.pn 1 rfl ?_
 refine WO.fin ?_
 refine DN.seq ?_
 refine WC.ret ?_
 have f25 := hE.stp (S3.tr S24) rfl rfl
 refine DN.res (l := [.tmp 4]) Try.results100 (res_tmp rfl rfl) rfl ?_
 obtain rfl := Option.some.inj h
 exact ⟨K23, rfl, f25⟩

/- loop.example/g00869/spec.l29Letters -/
theorem s_l29Letters_ok {w : World} {κ : Col} {p0 : Sig} {a1_0 : Option Addr} {u1_0 : Nat} {a1_1 : Option Addr} {u1_1 : Nat} {p1 : Machine} {p2 : Int} {a3 : Option Addr} {u3 : Nat} {p3 : (List Int)} (g1_0 : Rd (Rp.sl (Rp.int .i64)) κ w 0 a1_0 u1_0 p1.Next) (g1_1 : Rd (Rp.sl (Rp.int .i64)) κ w 0 a1_1 u1_1 p1.Out) (g3 : Rd (Rp.int .i64) κ w 0 a3 u3 p3) {r : (List Int)} (h : s_l29Letters p0 p1 p2 p3 = some r) : Ret Try.prog 103 [.agg #[.int .i64 p0.In, .int .i64 p0.Out], .agg #[.slice a1_0 p1.Next.length u1_0, .slice a1_1 p1.Out.length u1_1], .int .i64 p2, .slice a3 p3.length u3] w (fun v w' => ∃ (κ' : Col) (ra0 : Option Addr) (ru0 : Nat), v = .slice ra0 r.length ru0 ∧ Ent κ w κ' w' ∧ Oc (Ep.int .i64) 2 κ' w' 2 ra0 ru0 r) := by
 unfold s_l29Letters at h
 refine Ret.enter Try.func103 rfl Try.ntmps103 rfl ?_
 dsimp only [envOf]
 have hE := Ent.refl κ w
 refine WC.seq ?_
 refine WC.rs [(0, 1), (1, 1), (2, 2)] rfl ?_
 refine WO.box (κ := κ) 2 rfl rfl rfl rfl rfl rfl rfl fun b4 w1 K2 S3 f4 => ⟨trivial, ?_⟩
 refine WO.box (κ := K2) 3 rfl rfl rfl rfl rfl rfl rfl fun b5 w5 K6 S7 f8 => ⟨trivial, ?_⟩
 refine WO.pn 1 rfl ?_
 refine WO.fin ?_
 refine DN.seq ?_
 refine WC.seq ?_
 refine WC.rs [(0, 1), (1, 2)] rfl ?_
 refine WO.bl0 (κ := K6) (E := (Ep.int .i64)) 4 rfl rfl rfl rfl rfl Try.underlying24 Tryinfo2 rfl fun a11 u11 w9 K10 S11 f12 => ⟨trivial, ?_⟩
 refine WO.pn 1 rfl ?_
 refine WO.fin ?_
 refine DN.seq ?_
 refine WC.seq ?_
 refine WC.seq ?_
 refine WC.rs [(0, 2)] rfl ?_
 refine WO.pn 1 rfl ?_
 refine WO.fin ?_
 refine DN.seq ?_
 have hN13 : (p3.length : Int) ≤ 9223372036854775807 := g3.len_le
 obtain ⟨q2, hq15, hK14⟩ := Option.bind_eq_some_iff.mp h
 clear h
 refine WC.meet (fun L w' => ∃ (κ' : Col) (s3 : Int × (List Int)) (las3_0 : Option Addr) (lus3_0 : Nat), L = [(9, .slice las3_0 s3.2.length lus3_0)] ∧ Stp [4] K10 w9 κ' w' ∧ Oc (Ep.int .i64) 2 κ' w' 4 las3_0 lus3_0 s3.2 ∧ q2 = Sum.inr s3) ?_ ?_
 ·
  refine WC.block ?_
  refine WC.loop (fun k L w' => ∃ (κ' : Col) (v10 : Int) (s1 : Int × (List Int)) (las1_0 : Option Addr) (lus1_0 : Nat), L = [(2, .int .i64 s1.1), (3, .slice a3 p3.length u3), (4, .pointer (some ⟨b4, 0, none⟩)), (5, .pointer (some ⟨b5, 0, none⟩)), (9, .slice las1_0 s1.2.length lus1_0), (10, .int .i64 v10)] ∧ Stp [4] K10 w9 κ' w' ∧ Oc (Ep.int .i64) 2 κ' w' 4 las1_0 lus1_0 s1.2 ∧ 0 ≤ v10 ∧ Int.toNat ((p3.length : Int) - v10) = k ∧ cntM (s_l29Letters_b0 p0 p1 p3) k v10 s1 = some q2) ⟨_, _, ⟨K10, 0, ((p2 : Int), (([] : List Int) : (List Int))), a11, u11, rfl, (Stp.refl _ _).wk rfl, f12, (by decide), (by simp), hq15⟩, fun a ha => (ha.more (ha.more (ha.more (ha.more (ha.more (ha.more ha.nil rfl) rfl) rfl) rfl) rfl) rfl)⟩ ?_
  rintro k _ w20 ⟨K21, v10, s1, las1_0, lus1_0, rfl, S22, f23, hj13, hJ13, h⟩
  rcases k with _ | k
  ·
   have hk24 := h; obtain ⟨o13, h⟩ := ex_eq (Sum.inr (Sum.inl s1) : (List Int) ⊕ ((Int × (List Int)) ⊕ (Int × (List Int))))
   have hc13 : decide (v10 < (p3.length : Int)) = false := decide_eq_false (by omega)
   refine WC.seq ?_
   refine WC.seq ?_
   refine WC.rs [(0, 2), (1, 2), (2, 2), (3, 2)] rfl ?_
   refine WO.pn 2 rfl ?_
   refine WO.k2 rfl rfl rfl rfl (rn_len Try.runUnderlying24 rfl rfl) ?_
   refine WO.pn 1 rfl ?_
   refine WO.fin ?_
   refine DN.seq ?_
   refine WC.cf' rfl hc13 ?_
   refine WC.exit ?_
   refine DN.exitThen ?_
   refine DN.exitThen ?_
   obtain rfl := Option.some.inj h
   have h := hk24
   refine DN.hit ?_
   obtain rfl := Option.some.inj h
   exact DN.meet _ ⟨K21, ((s1.1 : Int), (s1.2 : (List Int))), las1_0, lus1_0, rfl, S22.wk rfl, f23, rfl⟩ fun a ha => (ha.more ha.nil rfl)
  ·
   obtain ⟨o13, h, hk24⟩ := Option.bind_eq_some_iff.mp h; unfold s_l29Letters_b0 at h
   have hc13 : decide (v10 < (p3.length : Int)) = true := decide_eq_true (by omega)
   refine WC.seq ?_
   refine WC.seq ?_
   refine WC.rs [(0, 2), (1, 2), (2, 2), (3, 2)] rfl ?_
   refine WO.pn 2 rfl ?_
   refine WO.k2 rfl rfl rfl rfl (rn_len Try.runUnderlying24 rfl rfl) ?_
   refine WO.pn 1 rfl ?_
   refine WO.fin ?_
   refine DN.seq ?_
   refine WC.ct' rfl hc13 ?_
   refine WC.skip ?_
   refine DN.seq ?_
   refine WC.seq ?_
   refine WC.block ?_
   refine WC.seq ?_
   refine WC.rx (κ := K21) 4 (some 21) [(0, 2), (1, 2), (3, 2), (6, 2), (7, 2), (8, 2), (15, 2), (16, 2), (17, 2), (2, 0), (4, 2), (5, 0), (9, 0), (10, 2), (11, 0), (12, 0), (18, 0), (13, 1), (14, 2), (19, 2), (20, 1)] [(21, 1), (22, 2)] (by kernel_rfl) (by kernel_rfl) fun w26 S25 => ?_
   refine WO.pn 1 rfl ?_
   refine WO.k2 rfl rfl rfl rfl (rn_fieldAddr Try.runUnderlying84 rfl Try.sizeOf25 rfl rfl) ?_
   refine WO.pn 3 rfl ?_
   obtain ⟨x26, hx26, h⟩ := Option.bind_eq_some_iff.mp h
   refine WO.k2 rfl rfl rfl rfl (rn_index g3 hx26 Try.runUnderlying24 Try.sizeOf2 rfl rfl rfl rfl) ?_
   refine WO.pn 2 rfl ?_
   obtain ⟨x35, hx35, h⟩ := Option.bind_eq_some_iff.mp h
   refine WO.k2 rfl rfl rfl rfl (rn_index g3 hx35 Try.runUnderlying24 Try.sizeOf2 rfl rfl rfl rfl) ?_
   have f27 := f8.stp (S11.tr (S22.tr S25)) rfl rfl
   refine WO.k0 rfl rfl rfl rfl (rn_ld Try.isAgg25 rfl rfl (hvC (f27.ld 1 rfl rfl) rfl)) ?_
   obtain ⟨x22, hx22, h⟩ := Option.bind_eq_some_iff.mp h
   refine WO.k2 rfl rfl rfl rfl (rn_index g1_1 hx22 Try.runUnderlying25 Try.sizeOf24 rfl rfl rfl rfl) ?_
   have f28 := g1_1.stp (S3.tr (S7.tr (S11.tr (S22.tr S25)))) rfl rfl
   obtain ⟨ax22, ux22, f29, hl30⟩ := f28.gSl hx22
   refine WO.k0 rfl rfl rfl rfl (rn_ld Try.isAgg24 rfl rfl (hvC hl30 rfl)) ?_
   have f31 := g3.stp (S3.tr (S7.tr (S11.tr (S22.tr S25)))) rfl rfl
   refine WO.k0 rfl rfl rfl rfl (rn_ld Try.isAgg2 rfl rfl (hvC (f31.gInt hx26) rfl)) ?_
   obtain ⟨x28, hx28, h⟩ := Option.bind_eq_some_iff.mp h
   refine WO.k2 rfl rfl rfl rfl (rn_index f29 hx28 Try.runUnderlying24 Try.sizeOf2 rfl rfl rfl rfl) ?_
   refine WO.k0 rfl rfl rfl rfl (rn_ld Try.isAgg2 rfl rfl (hvC (f29.gInt hx28) rfl)) ?_
   have f32 := f4.stp (S7.tr (S11.tr (S22.tr S25))) rfl rfl
   refine WO.k0 rfl rfl rfl rfl (rn_la (cs := [.int .i64 p0.In, .int .i64 p0.Out]) Try.isAgg30 Try.sizeOf30 rfl rfl rfl (haC f32.cells rfl)) ?_
   refine WO.k0 rfl rfl rfl rfl (rn_ld Try.isAgg2 rfl rfl (hvC (f31.gInt hx35) rfl)) ?_
   obtain ⟨x31, hx31, h⟩ := Option.bind_eq_some_iff.mp h
   refine WO.call rfl rfl rfl rfl rfl rfl Try.call146 (s_l29Ins_ok (κ := fun b => mp [] 0 (K21 b)) (p0 := p0) hx31) ?_
   rintro _ w33 ⟨k34, rfl, e35⟩
   obtain ⟨K36, S37, m38⟩ := Ent.mixed (l := []) (κ := K21) e35 5 rfl
   refine ⟨(S37.cl rfl), ?_⟩
   refine WO.pn 2 rfl ?_
   refine WO.bl (κ := K36) (E := (Ep.int .i64)) 7 [] (parts := [(0, .tmp 37)]) (cells := [.int .i64 (IntKind.i64.wrap ((IntKind.i64.wrap (x28 * x31)) + x35))]) (xs := ([(IntKind.i64.wrap ((IntKind.i64.wrap (x28 * x31)) + x35))] : List Int)) rfl rfl rfl rfl rfl rfl Try.underlying24 Tryinfo2 rfl rfl rfl rfl rfl rfl rfl rfl rfl rfl ⟨[.int .i64 (IntKind.i64.wrap ((IntKind.i64.wrap (x28 * x31)) + x35))], [], Zl K36 w33 [], Zl K36 w33 [], rfl, Zl.sp (l1 := []) (l2 := []) rfl, Zl.sr (l1 := []) (l2 := []), rfl, rfl⟩ fun a38 u38 w40 K41 S42 f43 => ⟨((S37.tr S42).cl rfl), ?_⟩
   refine WO.nx ?_
   obtain ⟨x39, hx39, h⟩ := Option.bind_eq_some_iff.mp h
   have f44 := f23.stp (S25.tr (S37.tr S42)) rfl rfl
   refine WO.app (κ := K41) (E := (Ep.int .i64)) 4 [] rfl rfl rfl rfl rfl rfl rfl rfl rfl Try.underlying24 Tryinfo2 rfl rfl rfl rfl f44 (Sl.srcP (pu_int _) f43.rdc) sy_false hx39 rfl fun a39 u39 w45 K46 S47 f48 => ⟨trivial, ?_⟩
   refine WO.pn 1 rfl ?_
   refine WO.fin ?_
   refine DN.seq ?_
   refine WC.rx (κ := K46) 7 none [(0, 2), (2, 2), (5, 2), (6, 2), (7, 2), (1, 0), (3, 2), (4, 0), (8, 0), (9, 2), (10, 0), (11, 2)] [] (by kernel_rfl) (by kernel_rfl) fun w50 S49 => ?_
   refine WO.k2 rfl rfl rfl rfl (rn_fieldAddr Try.runUnderlying84 rfl Try.sizeOf25 rfl rfl) ?_
   refine WO.pn 3 rfl ?_
   obtain ⟨x47, hx47, h⟩ := Option.bind_eq_some_iff.mp h
   refine WO.k2 rfl rfl rfl rfl (rn_index f31 hx47 Try.runUnderlying24 Try.sizeOf2 rfl rfl rfl rfl) ?_
   have f51 := f27.stp (S37.tr (S42.tr (S47.tr S49))) rfl rfl
   refine WO.k0 rfl rfl rfl rfl (rn_ld Try.isAgg25 rfl rfl (hvC (f51.ld 0 rfl rfl) rfl)) ?_
   obtain ⟨x43, hx43, h⟩ := Option.bind_eq_some_iff.mp h
   refine WO.k2 rfl rfl rfl rfl (rn_index g1_0 hx43 Try.runUnderlying25 Try.sizeOf24 rfl rfl rfl rfl) ?_
   have f52 := g1_0.stp (S3.tr (S7.tr (S11.tr (S22.tr (S25.tr (S37.tr (S42.tr (S47.tr S49)))))))) rfl rfl
   obtain ⟨ax43, ux43, f53, hl54⟩ := f52.gSl hx43
   refine WO.k0 rfl rfl rfl rfl (rn_ld Try.isAgg24 rfl rfl (hvC hl54 rfl)) ?_
   have f55 := f31.stp (S37.tr (S42.tr (S47.tr S49))) rfl rfl
   refine WO.k0 rfl rfl rfl rfl (rn_ld Try.isAgg2 rfl rfl (hvC (f55.gInt hx47) rfl)) ?_
   obtain ⟨x49, hx49, h⟩ := Option.bind_eq_some_iff.mp h
   refine WO.k2 rfl rfl rfl rfl (rn_index f53 hx49 Try.runUnderlying24 Try.sizeOf2 rfl rfl rfl rfl) ?_
   refine WO.k0 rfl rfl rfl rfl (rn_ld Try.isAgg2 rfl rfl (hvC (f53.gInt hx49) rfl)) ?_
   refine WO.pn 1 rfl ?_
   refine WO.nx ?_
   refine WO.fin ?_
   refine DN.block ?_
   refine DN.seq ?_
   refine WC.rs [(0, 2), (1, 2), (2, 2)] rfl ?_
   refine WO.pn 3 rfl ?_
   refine WO.fin ?_
   have hw13 : IntKind.wrap .i64 (v10 + 1) = v10 + 1 := wr1 hj13 (of_decide_eq_true hc13) hN13
   rw [hw13]
   have hc13 := of_decide_eq_true hc13
   have f56 := f48.stp S49 rfl rfl
   obtain rfl := Option.some.inj h
   refine DN.round fun a ha => ?_
   exact ⟨k, _, Nat.lt_succ_self _, ⟨K46, v10 + 1, ((x49 : Int), (x39 : (List Int))), a39, u39, rfl, (S22.tr (S25.tr (S37.tr (S42.tr (S47.tr S49))))).wk rfl, f56, by omega, by omega, hk24⟩, (ha.more (ha.more (ha.more (ha.more (ha.more (ha.more ha.nil rfl) rfl) rfl) rfl) rfl) rfl)⟩
 rintro _ w16 ⟨K17, s3, las3_0, lus3_0, rfl, S18, f19, rfl⟩
 have h := hK14
 dsimp only [aft] at h
 refine DN.seq ?_
 refine WC.seq ?_
 refine WC.rs [(0, 2), (1, 2)] rfl ?_
 refine WO.pn 2 rfl ?_
 refine WO.fin ?_
 refine DN.seq ?_
 refine WC.ret ?_
 have f57 := hE.stp (S3.tr (S7.tr (S11.tr S18))) rfl rfl
 refine DN.res (l := [.tmp 8]) Try.results103 (res_tmp rfl rfl) rfl ?_
 obtain rfl := Option.some.inj h
 exact ⟨(fun b => ren [(4, 2)] (K17 b)), las3_0, lus3_0, rfl, (f57.map (ren [(4, 2)]) rfl rfl), (f19.map (ren [(4, 2)]) rfl rfl)⟩

/- slices.ContainsFunc[[]int64,int64] -/
theorem slices_ContainsFunc_I_int64__i_areLetters_1_ok {w : World} {κ : Col} {a0 : Option Addr} {u0 : Nat} {p0 : (List Int)} {c1_0 : Int} {b1_0 : Nat} (g0 : Rd (Rp.int .i64) κ w 0 a0 u0 p0) (gb1_0 : Bc κ w 0 b1_0 2 [.int .i64 c1_0]) {r : Bool} (h : slices_ContainsFunc_I_int64__i_areLetters_1 p0 c1_0 = some r) : Ret Try.prog 134 [.slice a0 p0.length u0, .func (.func 135) #[] #[.pointer (some ⟨b1_0, 0, none⟩)]] w (fun v w' => ∃ (κ' : Col), v = .bool r ∧ Ent κ w κ' w') := by
 unfold slices_ContainsFunc_I_int64__i_areLetters_1 at h
 refine Ret.enter Try.func134 rfl Try.ntmps134 rfl ?_
 dsimp only [envOf]
 have hE := Ent.refl κ w
 refine WC.seq ?_
 refine WC.rs [(0, 2)] rfl ?_
 refine WO.pn 1 rfl ?_
 refine WO.fin ?_
 refine DN.seq ?_
 refine WC.seq ?_
 refine WC.rs [(0, 2), (1, 2), (2, 1), (3, 2), (4, 2)] rfl ?_
 refine WO.pn 2 rfl ?_
 obtain ⟨x7, hx7, h⟩ := Option.bind_eq_some_iff.mp h
 refine WO.call rfl rfl rfl rfl rfl rfl Try.call153 (slices_IndexFunc_I_int64__i_areLetters_1_ok (κ := fun b => mp [] 0 (κ b)) (Sl.map g0 (mp [] 0) rfl rfl) (gb1_0.map (mp [] 0) rfl rfl) hx7) ?_
 rintro _ w1 ⟨k2, rfl, e3⟩
 obtain ⟨K4, S5, m6⟩ := Ent.mixed (l := []) (κ := κ) e3 2 rfl
 refine ⟨trivial, ?_⟩
 refine WO.pn 2 rfl ?_
 refine WO.fin ?_
 refine DN.seq ?_
 refine WC.ret ?_
 have f8 := hE.stp S5 rfl rfl
 refine DN.res (l := [.tmp 4]) Try.results134 (res_tmp rfl rfl) rfl ?_
 obtain rfl := Option.some.inj h
 exact ⟨K4, rfl, f8⟩

/- loop.example/g00869/impl.runWord -/
theorem i_runWord_ok {w : World} {κ : Col} {p0 : Sig} {a1_0 : Option Addr} {u1_0 : Nat} {a1_1 : Option Addr} {u1_1 : Nat} {p1 : Machine} {a2_0 : Option Addr} {u2_0 : Nat} {a2_1 : Option Addr} {u2_1 : Nat} {p2 : Word} (g1_0 : Rd (Rp.sl (Rp.int .i64)) κ w 0 a1_0 u1_0 p1.Next) (g1_1 : Rd (Rp.sl (Rp.int .i64)) κ w 0 a1_1 u1_1 p1.Out) (g2_0 : Rd (Rp.int .i64) κ w 0 a2_0 u2_0 p2.Stem) (g2_1 : Rd (Rp.int .i64) κ w 0 a2_1 u2_1 p2.Loop) {r : Word × Bool} (h : i_runWord p0 p1 p2 = some r) : Ret Try.prog 107 [.agg #[.int .i64 p0.In, .int .i64 p0.Out], .agg #[.slice a1_0 p1.Next.length u1_0, .slice a1_1 p1.Out.length u1_1], .agg #[.slice a2_0 p2.Stem.length u2_0, .slice a2_1 p2.Loop.length u2_1]] w (fun v w' => ∃ (κ' : Col) (ra0 : Option Addr) (ru0 : Nat) (ra1 : Option Addr) (ru1 : Nat), v = .tuple #[.agg #[.slice ra0 r.1.Stem.length ru0, .slice ra1 r.1.Loop.length ru1], .bool r.2] ∧ Ent κ w κ' w' ∧ Oc (Ep.int .i64) 2 κ' w' 2 ra0 ru0 r.1.Stem ∧ Oc (Ep.int .i64) 2 κ' w' 3 ra1 ru1 r.1.Loop) := by
 unfold i_runWord at h
 refine Ret.enter Try.func107 rfl Try.ntmps107 rfl ?_
 dsimp only [envOf]
 have hE := Ent.refl κ w
 refine WC.seq ?_
 refine WC.rs [(0, 1), (1, 1), (2, 1), (3, 1), (4, 2)] rfl ?_
 refine WO.box (κ := κ) 2 rfl rfl rfl rfl rfl rfl rfl fun b3 w1 K2 S3 f4 => ⟨trivial, ?_⟩
 refine WO.box (κ := K2) 3 rfl rfl rfl rfl rfl rfl rfl fun b4 w5 K6 S7 f8 => ⟨trivial, ?_⟩
 refine WO.box (κ := K6) 4 rfl rfl rfl rfl rfl rfl rfl fun b5 w9 K10 S11 f12 => ⟨trivial, ?_⟩
 refine WO.alloc (κ := K10) 5 rfl rfl rfl rfl rfl Try.zeroValue82 rfl fun b6 w13 K14 S15 f16 => ⟨trivial, ?_⟩
 refine WO.pn 1 rfl ?_
 refine WO.fin ?_
 refine DN.seq ?_
 refine WC.seq ?_
 refine WC.rs [(0, 1), (1, 1), (2, 1)] rfl ?_
 refine WO.bl0 (κ := K14) (E := (Ep.int .i64)) 6 rfl rfl rfl rfl rfl Try.underlying24 Tryinfo2 rfl fun a14 u14 w17 K18 S19 f20 => ⟨trivial, ?_⟩
 refine WO.alloc (κ := K18) 7 rfl rfl rfl rfl rfl Try.zeroValue24 rfl fun b8 w21 K22 S23 f24 => ⟨trivial, ?_⟩
 refine WO.stB0 (κ := K22) 7 (vc := [.slice a14 ([] : List Int).length u14]) rfl rfl rfl rfl rfl rfl rfl Try.sizeOf24 rfl rfl f24 rfl fun w25 S26 f27 => ⟨trivial, ?_⟩
 refine WO.fin ?_
 refine DN.seq ?_
 refine WC.seq ?_
 refine WC.rs [(0, 1), (1, 1)] rfl ?_
 refine WO.alloc (κ := K22) 8 rfl rfl rfl rfl rfl Try.zeroValue2 rfl fun b9 w28 K29 S30 f31 => ⟨trivial, ?_⟩
 refine WO.stB0 (κ := K29) 8 (vc := [.int .i64 0]) rfl rfl rfl rfl rfl rfl rfl Try.sizeOf2 rfl rfl f31 rfl fun w32 S33 f34 => ⟨trivial, ?_⟩
 refine WO.fin ?_
 refine DN.seq ?_
 refine WC.seq ?_
 refine WC.rs [(0, 2), (1, 2)] rfl ?_
 refine WO.k2 rfl rfl rfl rfl (rn_makeFunc (first := []) (captured := [.tmp 8, .tmp 4, .tmp 9, .tmp 3]) rfl rfl rfl ⟨_, rfl⟩) ?_
 refine WO.pn 1 rfl ?_
 refine WO.fin ?_
 refine DN.seq ?_
 refine WC.seq ?_
 refine WC.rs [(0, 2), (1, 2), (2, 1), (3, 1)] rfl ?_
 refine WO.pn 1 rfl ?_
 refine WO.k2 rfl rfl rfl rfl (rn_fieldAddr Try.runUnderlying82 rfl Try.sizeOf24 rfl rfl) ?_
 have f35 := f12.stp (S15.tr (S19.tr (S23.tr (S26.tr (S30.tr S33))))) rfl rfl
 refine WO.k1 trivial rfl rfl rfl rfl (rn_ld Try.isAgg24 rfl rfl (hvE (f35.ld 0 rfl rfl))) ?_
 obtain ⟨x19, hx19, h⟩ := Option.bind_eq_some_iff.mp h
 have f36 := g2_0.stp (S3.tr (S7.tr (S11.tr (S15.tr (S19.tr (S23.tr (S26.tr (S30.tr S33)))))))) rfl rfl
 have f37 := f20.stp (S23.tr (S26.tr (S30.tr S33))) rfl rfl
 have f38 := g1_0.stp (S3.tr (S7.tr (S11.tr (S15.tr (S19.tr (S23.tr (S26.tr (S30.tr S33)))))))) rfl rfl
 have f39 := g1_1.stp (S3.tr (S7.tr (S11.tr (S15.tr (S19.tr (S23.tr (S26.tr (S30.tr S33)))))))) rfl rfl
 have f40 := f27.stp (S30.tr S33) rfl rfl
 have f41 := f8.stp (S11.tr (S15.tr (S19.tr (S23.tr (S26.tr (S30.tr S33)))))) rfl rfl
 have f42 := f4.stp (S7.tr (S11.tr (S15.tr (S19.tr (S23.tr (S26.tr (S30.tr S33))))))) rfl rfl
 refine WO.callV rfl rfl rfl rfl rfl rfl rfl rfl Try.call147 (i_runWord_1_ok (κ := fun b => mp [(6, 2), (7, 3), (8, 4)] 0 (K29 b)) (Sl.map f36 (mp [(6, 2), (7, 3), (8, 4)] 0) rfl rfl) (f37.map (mp [(6, 2), (7, 3), (8, 4)] 0) rfl rfl) (Sl.map f38 (mp [(6, 2), (7, 3), (8, 4)] 0) rfl rfl) (Sl.map f39 (mp [(6, 2), (7, 3), (8, 4)] 0) rfl rfl) (f40.map (mp [(6, 2), (7, 3), (8, 4)] 0) rfl rfl) (f41.map (mp [(6, 2), (7, 3), (8, 4)] 0) rfl rfl) (f34.map (mp [(6, 2), (7, 3), (8, 4)] 0) rfl rfl) (f42.map (mp [(6, 2), (7, 3), (8, 4)] 0) rfl rfl) hx19) ?_
 rintro _ w43 ⟨k44, a19_m0, u19_m0, rfl, e45, f46, f47, f48⟩
 obtain ⟨K49, S50, m51⟩ := Ent.mixed (l := [(6, 2), (7, 3), (8, 4)]) (κ := K29) e45 9 rfl
 refine ⟨trivial, ?_⟩
 have f53 := f46.mx (no_int _) m51 rfl (rfl : 9 + 2 = 11)
 have f54 := f47.mx m51 rfl (rfl : 9 + 3 = 12)
 have f55 := f48.mx m51 rfl (rfl : 9 + 4 = 13)
 refine WO.fin ?_
 refine DN.seq ?_
 refine WC.seq ?_
 refine WC.rs [(0, 1), (1, 2)] rfl ?_
 refine WO.bl0 (κ := K49) (E := (Ep.int .i64)) 14 rfl rfl rfl rfl rfl Try.underlying24 Tryinfo2 rfl fun a20 u20 w56 K57 S58 f59 => ⟨trivial, ?_⟩
 refine WO.pn 1 rfl ?_
 refine WO.fin ?_
 refine DN.seq ?_
 refine WC.seq ?_
 obtain ⟨q2, hq62, hK61⟩ := Option.bind_eq_some_iff.mp h
 clear h
 refine WC.meet (fun L w' => ∃ (κ' : Col) (s3 : (List Int) × (List Int) × Int) (las3_0 : Option Addr) (lus3_0 : Nat) (las3_1 : Option Addr) (lus3_1 : Nat), L = [(5, .pointer (some ⟨b5, 0, none⟩)), (6, .pointer (some ⟨b6, 0, none⟩)), (8, .pointer (some ⟨b8, 0, none⟩)), (9, .pointer (some ⟨b9, 0, none⟩)), (11, .slice las3_0 s3.1.length lus3_0)] ∧ Stp [11, 12, 13, 14, 20, 21, 22] K57 w56 κ' w' ∧ Oc (Ep.int .i64) 2 κ' w' 14 las3_0 lus3_0 s3.1 ∧ Oc (Ep.int .i64) 2 κ' w' 11 las3_1 lus3_1 s3.2.1 ∧ Bc κ' w' 12 b8 24 [.slice las3_1 s3.2.1.length lus3_1] ∧ Bc κ' w' 13 b9 2 [.int .i64 s3.2.2] ∧ q2 = Sum.inr s3) ?_ ?_
 ·
  refine WC.block ?_
  have f77 := f53.stp S58 rfl rfl
  have f78 := f54.stp S58 rfl rfl
  have f79 := f55.stp S58 rfl rfl
  refine WC.loop (fun k L w' => ∃ (κ' : Col) (s1 : (List Int) × (List Int) × Int) (las1_0 : Option Addr) (lus1_0 : Nat) (las1_1 : Option Addr) (lus1_1 : Nat), L = [(5, .pointer (some ⟨b5, 0, none⟩)), (6, .pointer (some ⟨b6, 0, none⟩)), (8, .pointer (some ⟨b8, 0, none⟩)), (9, .pointer (some ⟨b9, 0, none⟩)), (10, .func (.func 147) #[] #[.pointer (some ⟨b8, 0, none⟩), .pointer (some ⟨b4, 0, none⟩), .pointer (some ⟨b9, 0, none⟩), .pointer (some ⟨b3, 0, none⟩)]), (11, .slice las1_0 s1.1.length lus1_0)] ∧ Stp [11, 12, 13, 14, 20, 21, 22] K57 w56 κ' w' ∧ Oc (Ep.int .i64) 2 κ' w' 14 las1_0 lus1_0 s1.1 ∧ Oc (Ep.int .i64) 2 κ' w' 11 las1_1 lus1_1 s1.2.1 ∧ Bc κ' w' 12 b8 24 [.slice las1_1 s1.2.1.length lus1_1] ∧ Bc κ' w' 13 b9 2 [.int .i64 s1.2.2] ∧ whileM (i_runWord_b0 p0 p1 p2) k s1 = some q2) ⟨_, _, ⟨K57, ((([] : List Int) : (List Int)), (x19.1 : (List Int)), (x19.2 : Int)), a20, u20, a19_m0, u19_m0, rfl, (Stp.refl _ _).wk rfl, f59, f77, f78, f79, hq62⟩, fun a ha => (ha.more (ha.more (ha.more (ha.more (ha.more (ha.more ha.nil rfl) rfl) rfl) rfl) rfl) rfl)⟩ ?_
  rintro k _ w70 ⟨K71, s1, las1_0, lus1_0, las1_1, lus1_1, rfl, S72, f73, f74, f75, f76, h⟩
  rcases k with _ | k
  ·
   cases h
  ·
   obtain ⟨o60, h, hk80⟩ := Option.bind_eq_some_iff.mp h; unfold i_runWord_b0 at h
   refine WC.seq ?_
   refine WC.seq ?_
   refine WC.rs [(0, 2), (1, 1), (2, 1), (3, 2)] rfl ?_
   refine WO.pn 1 rfl ?_
   refine WO.k1 trivial rfl rfl rfl rfl (rn_ld Try.isAgg2 rfl rfl (hvE (f76.ld 0 rfl rfl))) ?_
   obtain ⟨x23, hx23, h⟩ := Option.bind_eq_some_iff.mp h
   refine WO.call rfl rfl rfl rfl rfl rfl Try.call113 (slices_Contains_I_int64_ok (κ := fun b => mp [] 0 (K71 b)) (Sl.map f73.rdc (mp [] 0) rfl rfl) hx23) ?_
   rintro _ w81 ⟨k82, rfl, e83⟩
   obtain ⟨K84, S85, m86⟩ := Ent.mixed (l := []) (κ := K71) e83 15 rfl
   refine ⟨trivial, ?_⟩
   refine WO.pn 1 rfl ?_
   refine WO.fin ?_
   refine DN.seq ?_
   revert h
   cases ht88 : (!x23) with
   | true =>
    intro h; replace h := cT h
    refine WC.ct rfl ?_
    refine WC.skip ?_
    refine DN.seq ?_
    refine WC.block ?_
    refine WC.seq ?_
    refine WC.rs [(0, 2), (1, 1), (2, 1), (3, 1), (4, 2)] rfl ?_
    refine WO.pn 1 rfl ?_
    have f89 := f76.stp S85 rfl rfl
    refine WO.k1 trivial rfl rfl rfl rfl (rn_ld Try.isAgg2 rfl rfl (hvE (f89.ld 0 rfl rfl))) ?_
    refine WO.bl (κ := K84) (E := (Ep.int .i64)) 17 [] (parts := [(0, .tmp 26)]) (cells := [.int .i64 s1.2.2]) (xs := ([s1.2.2] : List Int)) rfl rfl rfl rfl rfl rfl Try.underlying24 Tryinfo2 rfl rfl rfl rfl rfl rfl rfl rfl rfl rfl ⟨[.int .i64 s1.2.2], [], Zl K84 w81 [], Zl K84 w81 [], rfl, Zl.sp (l1 := []) (l2 := []) rfl, Zl.sr (l1 := []) (l2 := []), rfl, rfl⟩ fun a27 u27 w90 K91 S92 f93 => ⟨trivial, ?_⟩
    obtain ⟨x28, hx28, h⟩ := Option.bind_eq_some_iff.mp h
    have f94 := f73.stp (S85.tr S92) rfl rfl
    refine WO.app (κ := K91) (E := (Ep.int .i64)) 14 [] rfl rfl rfl rfl rfl rfl rfl rfl rfl Try.underlying24 Tryinfo2 rfl rfl rfl rfl f94 (Sl.srcP (pu_int _) f93.rdc) sy_false hx28 rfl fun a28 u28 w95 K96 S97 f98 => ⟨trivial, ?_⟩
    refine WO.pn 1 rfl ?_
    refine WO.fin ?_
    refine DN.seq ?_
    refine WC.rs [(0, 2), (1, 2), (2, 1), (3, 1)] rfl ?_
    refine WO.pn 1 rfl ?_
    refine WO.k2 rfl rfl rfl rfl (rn_fieldAddr Try.runUnderlying82 rfl Try.sizeOf24 rfl rfl) ?_
    have f99 := f35.stp (S50.tr (S58.tr (S72.tr (S85.tr (S92.tr S97))))) rfl rfl
    refine WO.k1 trivial rfl rfl rfl rfl (rn_ld Try.isAgg24 rfl rfl (hvE (f99.ld 1 rfl rfl))) ?_
    obtain ⟨x32, hx32, h⟩ := Option.bind_eq_some_iff.mp h
    have f100 := g2_1.stp (S3.tr (S7.tr (S11.tr (S15.tr (S19.tr (S23.tr (S26.tr (S30.tr (S33.tr (S50.tr (S58.tr (S72.tr (S85.tr (S92.tr S97)))))))))))))) rfl rfl
    have f101 := f74.stp (S85.tr (S92.tr S97)) rfl rfl
    have f102 := f38.stp (S50.tr (S58.tr (S72.tr (S85.tr (S92.tr S97))))) rfl rfl
    have f103 := f39.stp (S50.tr (S58.tr (S72.tr (S85.tr (S92.tr S97))))) rfl rfl
    have f104 := f75.stp (S85.tr (S92.tr S97)) rfl rfl
    have f105 := f41.stp (S50.tr (S58.tr (S72.tr (S85.tr (S92.tr S97))))) rfl rfl
    have f106 := f89.stp (S92.tr S97) rfl rfl
    have f107 := f42.stp (S50.tr (S58.tr (S72.tr (S85.tr (S92.tr S97))))) rfl rfl
    refine WO.callV rfl rfl rfl rfl rfl rfl rfl rfl Try.call147 (i_runWord_1_ok (κ := fun b => mp [(11, 2), (12, 3), (13, 4)] 0 (K96 b)) (Sl.map f100 (mp [(11, 2), (12, 3), (13, 4)] 0) rfl rfl) (f101.map (mp [(11, 2), (12, 3), (13, 4)] 0) rfl rfl) (Sl.map f102 (mp [(11, 2), (12, 3), (13, 4)] 0) rfl rfl) (Sl.map f103 (mp [(11, 2), (12, 3), (13, 4)] 0) rfl rfl) (f104.map (mp [(11, 2), (12, 3), (13, 4)] 0) rfl rfl) (f105.map (mp [(11, 2), (12, 3), (13, 4)] 0) rfl rfl) (f106.map (mp [(11, 2), (12, 3), (13, 4)] 0) rfl rfl) (f107.map (mp [(11, 2), (12, 3), (13, 4)] 0) rfl rfl) hx32) ?_
    rintro _ w108 ⟨k109, a32_m0, u32_m0, rfl, e110, f111, f112, f113⟩
    obtain ⟨K114, S115, m116⟩ := Ent.mixed (l := [(11, 2), (12, 3), (13, 4)]) (κ := K96) e110 18 rfl
    refine ⟨trivial, ?_⟩
    have f118 := f111.mx (no_int _) m116 rfl (rfl : 18 + 2 = 20)
    have f119 := f112.mx m116 rfl (rfl : 18 + 3 = 21)
    have f120 := f113.mx m116 rfl (rfl : 18 + 4 = 22)
    refine WO.fin ?_
    refine DN.block ?_
    have f121 := f98.stp S115 rfl rfl
    obtain rfl := Option.some.inj h
    refine DN.round fun a ha => ?_
    exact ⟨k, _, Nat.lt_succ_self _, ⟨(fun b => ren [(20, 11), (21, 12), (22, 13)] (K114 b)), ((x28 : (List Int)), (x32.1 : (List Int)), (x32.2 : Int)), a28, u28, a32_m0, u32_m0, rfl, (Stp.ren ((S72.tr (S85.tr (S92.tr (S97.tr S115)))).wk rfl) [(20, 11), (21, 12), (22, 13)] rfl), (f121.map (ren [(20, 11), (21, 12), (22, 13)]) rfl rfl), (f118.map (ren [(20, 11), (21, 12), (22, 13)]) rfl rfl), (f119.map (ren [(20, 11), (21, 12), (22, 13)]) rfl rfl), (f120.map (ren [(20, 11), (21, 12), (22, 13)]) rfl rfl), hk80⟩, (ha.more (ha.more (ha.more (ha.more (ha.more (ha.more ha.nil rfl) rfl) rfl) rfl) rfl) rfl)⟩
   | false =>
    intro h; replace h := cF h
    refine WC.cf rfl ?_
    refine WC.exit ?_
    refine DN.exitThen ?_
    refine DN.exitThen ?_
    obtain rfl := Option.some.inj h
    have h := hk80
    refine DN.hit ?_
    have f122 := f73.stp S85 rfl rfl
    have f123 := f74.stp S85 rfl rfl
    have f124 := f75.stp S85 rfl rfl
    have f125 := f76.stp S85 rfl rfl
    obtain rfl := Option.some.inj h
    exact DN.meet _ ⟨K84, ((s1.1 : (List Int)), (s1.2.1 : (List Int)), (s1.2.2 : Int)), las1_0, lus1_0, las1_1, lus1_1, rfl, (S72.tr S85).wk rfl, f122, f123, f124, f125, rfl⟩ fun a ha => (ha.more (ha.more (ha.more (ha.more (ha.more ha.nil rfl) rfl) rfl) rfl) rfl)
 rintro _ w63 ⟨K64, s3, las3_0, lus3_0, las3_1, lus3_1, rfl, S65, f66, f67, f68, f69, rfl⟩
 have h := hK61
 dsimp only [aft] at h
 refine DN.seq ?_
 refine WC.seq ?_
 refine WC.rx (κ := K64) 14 none [(0, 2), (3, 2), (6, 2), (1, 0), (2, 2), (4, 0), (7, 0), (8, 2), (5, 1), (9, 2), (10, 2), (11, 2)] [] (by kernel_rfl) (by kernel_rfl) fun w127 S126 => ?_
 refine WO.k2 rfl rfl rfl rfl (rn_fieldAddr Try.runUnderlying82 rfl Try.sizeOf24 rfl rfl) ?_
 refine WO.pn 1 rfl ?_
 refine WO.k2 rfl rfl rfl rfl (rn_fieldAddr Try.runUnderlying82 rfl Try.sizeOf24 rfl rfl) ?_
 have f128 := f35.stp (S50.tr (S58.tr (S65.tr S126))) rfl rfl
 refine WO.k0 rfl rfl rfl rfl (rn_ld Try.isAgg24 rfl rfl (hvC (f128.ld 0 rfl rfl) rfl)) ?_
 refine WO.k2 rfl rfl rfl rfl (rn_len Try.runUnderlying24 rfl rfl) ?_
 have f129 := f69.stp S126 rfl rfl
 refine WO.k0 rfl rfl rfl rfl (rn_ld Try.isAgg2 rfl rfl (hvC (f129.ld 0 rfl rfl) rfl)) ?_
 refine WO.k0 rfl rfl rfl rfl (rn_ld Try.isAgg24 rfl rfl (hvC (f128.ld 1 rfl rfl) rfl)) ?_
 refine WO.k2 rfl rfl rfl rfl (rn_len Try.runUnderlying24 rfl rfl) ?_
 obtain ⟨x38, hx38, h⟩ := Option.bind_eq_some_iff.mp h
 have f130 := f66.stp S126 rfl rfl
 refine WO.call rfl rfl rfl rfl rfl rfl Try.call115 (slices_Index_I_int64_ok (κ := fun b => mp [] 0 (K64 b)) (Sl.map f130.rdc (mp [] 0) rfl rfl) hx38) ?_
 rintro _ w131 ⟨k132, rfl, e133⟩
 obtain ⟨K134, S135, m136⟩ := Ent.mixed (l := []) (κ := K64) e133 15 rfl
 refine ⟨(S135.cl rfl), ?_⟩
 refine WO.pn 3 rfl ?_
 refine WO.nx ?_
 refine WO.fin ?_
 refine DN.seq ?_
 refine WC.seq ?_
 obtain ⟨x47, hx47, h⟩ := Option.bind_eq_some_iff.mp h
 obtain ⟨x52, hx52, h⟩ := Option.bind_eq_some_iff.mp h
 obtain ⟨x48, hx48, h⟩ := Option.bind_eq_some_iff.mp h
 obtain ⟨x53, hx53, h⟩ := Option.bind_eq_some_iff.mp h
 refine WC.meet (fun L w' => ∃ (κ' : Col) (b13 : Nat) (lar141_0 : Option Addr) (lur141_0 : Nat) (lar141_1 : Option Addr) (lur141_1 : Nat), L = [(6, .pointer (some ⟨b6, 0, none⟩)), (13, .pointer (some ⟨b13, 0, none⟩))] ∧ Stp [17, 18, 19] K134 w131 κ' w' ∧ Oc (Ep.int .i64) 2 κ' w' 17 lar141_0 lur141_0 ((⟨x48, x53⟩ : Word).Stem) ∧ Oc (Ep.int .i64) 2 κ' w' 18 lar141_1 lur141_1 ((⟨x48, x53⟩ : Word).Loop) ∧ Bc κ' w' 19 b13 82 [.slice lar141_0 ((⟨x48, x53⟩ : Word).Stem).length lur141_0, .slice lar141_1 ((⟨x48, x53⟩ : Word).Loop).length lur141_1]) ?_ ?_
 ·
  refine WC.rxt (κ := K134) 16 none (by kernel_rfl) fun w145 S146 => ?_
  refine WA.seg (fuel := 7) [(2, 2), (7, 2), (1, 0), (3, 2), (6, 0), (8, 2)] (by kernel_rfl) (by kernel_rfl) rfl ?_
  refine WO.pn 2 rfl ?_
  have f147 := f68.stp (S126.tr (S135.tr S146)) rfl rfl
  refine WO.k0 rfl rfl rfl rfl (rn_ld Try.isAgg24 rfl rfl (hvC (f147.ld 0 rfl rfl) rfl)) ?_
  refine WO.k2 rfl rfl rfl rfl (rn_slice (k1 := .i64) (k2 := .i64) Try.runUnderlying24 Try.sizeOf2 (.inl ⟨rfl, rfl⟩) (.inr ⟨_, rfl, rfl⟩) hx47 f67.rdc.1 rfl rfl rfl) ?_
  have f149 := f67.stp (S126.tr (S135.tr S146)) rfl rfl
  have f148 := f149.rdc.sub hx47
  refine WO.k0 rfl rfl rfl rfl (rn_ld Try.isAgg24 rfl rfl (hvC (f147.ld 0 rfl rfl) rfl)) ?_
  refine WO.k2 rfl rfl rfl rfl (rn_slice (k1 := .i64) (k2 := .i64) Try.runUnderlying24 Try.sizeOf2 (.inr ⟨_, rfl, rfl⟩) (.inl ⟨rfl, rfl⟩) hx52 f149.rdc.1 rfl rfl rfl) ?_
  have f150 := f149.rdc.sub hx52
  refine WO.wa ?_
  refine WA.fork3 (fuel := 6) 0 5 11 (by kernel_rfl) rfl ?_ ?_ ?_
  ·
   refine WO.bl0 (κ := K134) (E := (Ep.int .i64)) 17 rfl rfl rfl rfl rfl Try.underlying24 Tryinfo2 rfl fun a44 u44 w151 K152 S153 f154 => ⟨(S153.cl rfl), ?_⟩
   refine WO.wa ?_
   refine WA.fork3 (fuel := 5) 4 5 11 (by kernel_rfl) rfl ?_ ?_ ?_
   ·
    have f155 := f148.stp S153 rfl rfl
    refine WO.app (κ := K152) (E := (Ep.int .i64)) 17 [] rfl rfl rfl rfl rfl rfl rfl rfl rfl Try.underlying24 Tryinfo2 rfl rfl rfl rfl f154 (Sl.srcP (pu_int _) f155) sy_false hx48 rfl fun a48 u48 w156 K157 S158 f159 => ⟨((S153.tr S158).cl rfl), ?_⟩
    refine WO.wa ?_
    refine WA.fork2 (fuel := 4) 5 11 (by kernel_rfl) rfl ?_ ?_
    ·
     refine WO.bl0 (κ := K157) (E := (Ep.int .i64)) 18 rfl rfl rfl rfl rfl Try.underlying24 Tryinfo2 rfl fun a49 u49 w160 K161 S162 f163 => ⟨((S153.tr (S158.tr S162)).cl rfl), ?_⟩
     refine WO.wa ?_
     refine WA.fork2 (fuel := 3) 9 11 (by kernel_rfl) rfl ?_ ?_
     ·
      have f164 := f150.stp (S153.tr (S158.tr S162)) rfl rfl
      refine WO.app (κ := K161) (E := (Ep.int .i64)) 18 [] rfl rfl rfl rfl rfl rfl rfl rfl rfl Try.underlying24 Tryinfo2 rfl rfl rfl rfl f163 (Sl.srcP (pu_int _) f164) sy_false hx53 rfl fun a53 u53 w165 K166 S167 f168 => ⟨((S153.tr (S158.tr (S162.tr S167))).cl rfl), ?_⟩
      refine WO.wa ?_
      refine WA.seg (fuel := 0) [(10, 2), (11, 1), (12, 1)] (by kernel_rfl) (by kernel_rfl) rfl ?_
      refine WO.k2 rfl rfl rfl rfl (rn_build (parts := [(0, .tmp 48), (1, .tmp 53)]) (cells := [.slice a48 x48.length u48, .slice a53 x53.length u53]) rfl rfl (by kernel_rfl)) ?_
      refine WO.alloc (κ := K166) 19 rfl rfl rfl rfl rfl Try.zeroValue82 rfl fun b13 w169 K170 S171 f172 => ⟨((S153.tr (S158.tr (S162.tr (S167.tr S171)))).cl rfl), ?_⟩
      refine WO.stB0 (κ := K170) 19 (vc := [.slice a48 x48.length u48, .slice a53 x53.length u53]) rfl rfl rfl rfl rfl rfl rfl Try.sizeOf82 rfl rfl f172 rfl fun w173 S174 f175 => ⟨((S153.tr (S158.tr (S162.tr (S167.tr (S171.tr S174))))).cl rfl), ?_⟩
      refine WO.wa ?_
      refine WA.last [] (by kernel_rfl) (by kernel_rfl) rfl ?_
      refine WO.fin ?_
      have f176 := f159.stp (S162.tr (S167.tr (S171.tr S174))) rfl rfl
      have f177 := f168.stp (S171.tr S174) rfl rfl
      exact DN.meet _ ⟨K170, b13, a48, u48, a53, u53, rfl, (S146.tr (S153.tr (S158.tr (S162.tr (S167.tr (S171.tr S174)))))).wk rfl, f176, f177, f175⟩ fun a ha => (ha.more (ha.more ha.nil rfl) rfl)
     ·
      refine WO.alloc (κ := K161) 19 rfl rfl rfl rfl rfl Try.zeroValue82 rfl fun b13 w178 K179 S180 f181 => ⟨((S153.tr (S158.tr (S162.tr S180))).cl rfl), ?_⟩
      refine WO.wa ?_
      refine WA.seg (fuel := 0) [(9, 1), (10, 2), (12, 1)] (by kernel_rfl) (by kernel_rfl) rfl ?_
      have f182 := f150.stp (S153.tr (S158.tr (S162.tr S180))) rfl rfl
      have f183 := f163.stp S180 rfl rfl
      refine WO.app (κ := K179) (E := (Ep.int .i64)) 18 [] rfl rfl rfl rfl rfl rfl rfl rfl rfl Try.underlying24 Tryinfo2 rfl rfl rfl rfl f183 (Sl.srcP (pu_int _) f182) sy_false hx53 rfl fun a53 u53 w184 K185 S186 f187 => ⟨((S153.tr (S158.tr (S162.tr (S180.tr S186)))).cl rfl), ?_⟩
      refine WO.k2 rfl rfl rfl rfl (rn_build (parts := [(0, .tmp 48), (1, .tmp 53)]) (cells := [.slice a48 x48.length u48, .slice a53 x53.length u53]) rfl rfl (by kernel_rfl)) ?_
      have f188 := f181.stp S186 rfl rfl
      refine WO.stB0 (κ := K185) 19 (vc := [.slice a48 x48.length u48, .slice a53 x53.length u53]) rfl rfl rfl rfl rfl rfl rfl Try.sizeOf82 rfl rfl f188 rfl fun w189 S190 f191 => ⟨((S153.tr (S158.tr (S162.tr (S180.tr (S186.tr S190))))).cl rfl), ?_⟩
      refine WO.wa ?_
      refine WA.last [] (by kernel_rfl) (by kernel_rfl) rfl ?_
      refine WO.fin ?_
      have f192 := f159.stp (S162.tr (S180.tr (S186.tr S190))) rfl rfl
      have f193 := f187.stp S190 rfl rfl
      exact DN.meet _ ⟨K185, b13, a48, u48, a53, u53, rfl, (S146.tr (S153.tr (S158.tr (S162.tr (S180.tr (S186.tr S190)))))).wk rfl, f192, f193, f191⟩ fun a ha => (ha.more (ha.more ha.nil rfl) rfl)
    ·
     refine WO.alloc (κ := K157) 18 rfl rfl rfl rfl rfl Try.zeroValue82 rfl fun b13 w194 K195 S196 f197 => ⟨((S153.tr (S158.tr S196)).cl rfl), ?_⟩
     refine WO.wa ?_
     refine WA.seg (fuel := 0) [(5, 1), (9, 1), (10, 2), (12, 1)] (by kernel_rfl) (by kernel_rfl) rfl ?_
     refine WO.bl0 (κ := K195) (E := (Ep.int .i64)) 19 rfl rfl rfl rfl rfl Try.underlying24 Tryinfo2 rfl fun a49 u49 w198 K199 S200 f201 => ⟨((S153.tr (S158.tr (S196.tr S200))).cl rfl), ?_⟩
     have f202 := f150.stp (S153.tr (S158.tr (S196.tr S200))) rfl rfl
     refine WO.app (κ := K199) (E := (Ep.int .i64)) 19 [] rfl rfl rfl rfl rfl rfl rfl rfl rfl Try.underlying24 Tryinfo2 rfl rfl rfl rfl f201 (Sl.srcP (pu_int _) f202) sy_false hx53 rfl fun a53 u53 w203 K204 S205 f206 => ⟨((S153.tr (S158.tr (S196.tr (S200.tr S205)))).cl rfl), ?_⟩
     refine WO.k2 rfl rfl rfl rfl (rn_build (parts := [(0, .tmp 48), (1, .tmp 53)]) (cells := [.slice a48 x48.length u48, .slice a53 x53.length u53]) rfl rfl (by kernel_rfl)) ?_
     have f207 := f197.stp (S200.tr S205) rfl rfl
     refine WO.stB0 (κ := K204) 18 (vc := [.slice a48 x48.length u48, .slice a53 x53.length u53]) rfl rfl rfl rfl rfl rfl rfl Try.sizeOf82 rfl rfl f207 rfl fun w208 S209 f210 => ⟨((S153.tr (S158.tr (S196.tr (S200.tr (S205.tr S209))))).cl rfl), ?_⟩
     refine WO.wa ?_
     refine WA.last [] (by kernel_rfl) (by kernel_rfl) rfl ?_
     refine WO.fin ?_
     have f211 := f159.stp (S196.tr (S200.tr (S205.tr S209))) rfl rfl
     have f212 := f206.stp S209 rfl rfl
     exact DN.meet _ ⟨(fun b => ren [(19, 18), (18, 19)] (K204 b)), b13, a48, u48, a53, u53, rfl, (Stp.ren ((S146.tr (S153.tr (S158.tr (S196.tr (S200.tr (S205.tr S209)))))).wk rfl) [(19, 18), (18, 19)] rfl), (f211.map (ren [(19, 18), (18, 19)]) rfl rfl), (f212.map (ren [(19, 18), (18, 19)]) rfl rfl), (f210.map (ren [(19, 18), (18, 19)]) rfl rfl)⟩ fun a ha => (ha.more (ha.more ha.nil rfl) rfl)
   ·
    refine WO.bl0 (κ := K152) (E := (Ep.int .i64)) 18 rfl rfl rfl rfl rfl Try.underlying24 Tryinfo2 rfl fun a49 u49 w213 K214 S215 f216 => ⟨((S153.tr S215).cl rfl), ?_⟩
    refine WO.wa ?_
    refine WA.fork2 (fuel := 4) 4 11 (by kernel_rfl) rfl ?_ ?_
    ·
     have f217 := f148.stp (S153.tr S215) rfl rfl
     have f218 := f154.stp S215 rfl rfl
     refine WO.app (κ := K214) (E := (Ep.int .i64)) 17 [] rfl rfl rfl rfl rfl rfl rfl rfl rfl Try.underlying24 Tryinfo2 rfl rfl rfl rfl f218 (Sl.srcP (pu_int _) f217) sy_false hx48 rfl fun a48 u48 w219 K220 S221 f222 => ⟨((S153.tr (S215.tr S221)).cl rfl), ?_⟩
     refine WO.wa ?_
     refine WA.fork2 (fuel := 3) 9 11 (by kernel_rfl) rfl ?_ ?_
     ·
      have f223 := f150.stp (S153.tr (S215.tr S221)) rfl rfl
      have f224 := f216.stp S221 rfl rfl
      refine WO.app (κ := K220) (E := (Ep.int .i64)) 18 [] rfl rfl rfl rfl rfl rfl rfl rfl rfl Try.underlying24 Tryinfo2 rfl rfl rfl rfl f224 (Sl.srcP (pu_int _) f223) sy_false hx53 rfl fun a53 u53 w225 K226 S227 f228 => ⟨((S153.tr (S215.tr (S221.tr S227))).cl rfl), ?_⟩
      refine WO.wa ?_
      refine WA.seg (fuel := 0) [(10, 2), (11, 1), (12, 1)] (by kernel_rfl) (by kernel_rfl) rfl ?_
      refine WO.k2 rfl rfl rfl rfl (rn_build (parts := [(0, .tmp 48), (1, .tmp 53)]) (cells := [.slice a48 x48.length u48, .slice a53 x53.length u53]) rfl rfl (by kernel_rfl)) ?_
      refine WO.alloc (κ := K226) 19 rfl rfl rfl rfl rfl Try.zeroValue82 rfl fun b13 w229 K230 S231 f232 => ⟨((S153.tr (S215.tr (S221.tr (S227.tr S231)))).cl rfl), ?_⟩
      refine WO.stB0 (κ := K230) 19 (vc := [.slice a48 x48.length u48, .slice a53 x53.length u53]) rfl rfl rfl rfl rfl rfl rfl Try.sizeOf82 rfl rfl f232 rfl fun w233 S234 f235 => ⟨((S153.tr (S215.tr (S221.tr (S227.tr (S231.tr S234))))).cl rfl), ?_⟩
      refine WO.wa ?_
      refine WA.last [] (by kernel_rfl) (by kernel_rfl) rfl ?_
      refine WO.fin ?_
      have f236 := f222.stp (S227.tr (S231.tr S234)) rfl rfl
      have f237 := f228.stp (S231.tr S234) rfl rfl
      exact DN.meet _ ⟨K230, b13, a48, u48, a53, u53, rfl, (S146.tr (S153.tr (S215.tr (S221.tr (S227.tr (S231.tr S234)))))).wk rfl, f236, f237, f235⟩ fun a ha => (ha.more (ha.more ha.nil rfl) rfl)
     ·
      refine WO.alloc (κ := K220) 19 rfl rfl rfl rfl rfl Try.zeroValue82 rfl fun b13 w238 K239 S240 f241 => ⟨((S153.tr (S215.tr (S221.tr S240))).cl rfl), ?_⟩
      refine WO.wa ?_
      refine WA.seg (fuel := 0) [(9, 1), (10, 2), (12, 1)] (by kernel_rfl) (by kernel_rfl) rfl ?_
      have f242 := f150.stp (S153.tr (S215.tr (S221.tr S240))) rfl rfl
      have f243 := f216.stp (S221.tr S240) rfl rfl
      refine WO.app (κ := K239) (E := (Ep.int .i64)) 18 [] rfl rfl rfl rfl rfl rfl rfl rfl rfl Try.underlying24 Tryinfo2 rfl rfl rfl rfl f243 (Sl.srcP (pu_int _) f242) sy_false hx53 rfl fun a53 u53 w244 K245 S246 f247 => ⟨((S153.tr (S215.tr (S221.tr (S240.tr S246)))).cl rfl), ?_⟩
      refine WO.k2 rfl rfl rfl rfl (rn_build (parts := [(0, .tmp 48), (1, .tmp 53)]) (cells := [.slice a48 x48.length u48, .slice a53 x53.length u53]) rfl rfl (by kernel_rfl)) ?_
      have f248 := f241.stp S246 rfl rfl
      refine WO.stB0 (κ := K245) 19 (vc := [.slice a48 x48.length u48, .slice a53 x53.length u53]) rfl rfl rfl rfl rfl rfl rfl Try.sizeOf82 rfl rfl f248 rfl fun w249 S250 f251 => ⟨((S153.tr (S215.tr (S221.tr (S240.tr (S246.tr S250))))).cl rfl), ?_⟩
      refine WO.wa ?_
      refine WA.last [] (by kernel_rfl) (by kernel_rfl) rfl ?_
      refine WO.fin ?_
      have f252 := f222.stp (S240.tr (S246.tr S250)) rfl rfl
      have f253 := f247.stp S250 rfl rfl
      exact DN.meet _ ⟨K245, b13, a48, u48, a53, u53, rfl, (S146.tr (S153.tr (S215.tr (S221.tr (S240.tr (S246.tr S250)))))).wk rfl, f252, f253, f251⟩ fun a ha => (ha.more (ha.more ha.nil rfl) rfl)
    ·
     refine WO.alloc (κ := K214) 19 rfl rfl rfl rfl rfl Try.zeroValue82 rfl fun b13 w254 K255 S256 f257 => ⟨((S153.tr (S215.tr S256)).cl rfl), ?_⟩
     refine WO.wa ?_
     refine WA.seg (fuel := 0) [(4, 1), (9, 1), (10, 2), (12, 1)] (by kernel_rfl) (by kernel_rfl) rfl ?_
     have f258 := f148.stp (S153.tr (S215.tr S256)) rfl rfl
     have f259 := f154.stp (S215.tr S256) rfl rfl
     refine WO.app (κ := K255) (E := (Ep.int .i64)) 17 [] rfl rfl rfl rfl rfl rfl rfl rfl rfl Try.underlying24 Tryinfo2 rfl rfl rfl rfl f259 (Sl.srcP (pu_int _) f258) sy_false hx48 rfl fun a48 u48 w260 K261 S262 f263 => ⟨((S153.tr (S215.tr (S256.tr S262))).cl rfl), ?_⟩
     have f264 := f150.stp (S153.tr (S215.tr (S256.tr S262))) rfl rfl
     have f265 := f216.stp (S256.tr S262) rfl rfl
     refine WO.app (κ := K261) (E := (Ep.int .i64)) 18 [] rfl rfl rfl rfl rfl rfl rfl rfl rfl Try.underlying24 Tryinfo2 rfl rfl rfl rfl f265 (Sl.srcP (pu_int _) f264) sy_false hx53 rfl fun a53 u53 w266 K267 S268 f269 => ⟨((S153.tr (S215.tr (S256.tr (S262.tr S268)))).cl rfl), ?_⟩
     refine WO.k2 rfl rfl rfl rfl (rn_build (parts := [(0, .tmp 48), (1, .tmp 53)]) (cells := [.slice a48 x48.length u48, .slice a53 x53.length u53]) rfl rfl (by kernel_rfl)) ?_
     have f270 := f257.stp (S262.tr S268) rfl rfl
     refine WO.stB0 (κ := K267) 19 (vc := [.slice a48 x48.length u48, .slice a53 x53.length u53]) rfl rfl rfl rfl rfl rfl rfl Try.sizeOf82 rfl rfl f270 rfl fun w271 S272 f273 => ⟨((S153.tr (S215.tr (S256.tr (S262.tr (S268.tr S272))))).cl rfl), ?_⟩
     refine WO.wa ?_
     refine WA.last [] (by kernel_rfl) (by kernel_rfl) rfl ?_
     refine WO.fin ?_
     have f274 := f263.stp (S268.tr S272) rfl rfl
     have f275 := f269.stp S272 rfl rfl
     exact DN.meet _ ⟨K267, b13, a48, u48, a53, u53, rfl, (S146.tr (S153.tr (S215.tr (S256.tr (S262.tr (S268.tr S272)))))).wk rfl, f274, f275, f273⟩ fun a ha => (ha.more (ha.more ha.nil rfl) rfl)
   ·
    refine WO.alloc (κ := K152) 18 rfl rfl rfl rfl rfl Try.zeroValue82 rfl fun b13 w276 K277 S278 f279 => ⟨((S153.tr S278).cl rfl), ?_⟩
    refine WO.wa ?_
    refine WA.fork2 (fuel := 4) 4 5 (by kernel_rfl) rfl ?_ ?_
    ·
     have f280 := f148.stp (S153.tr S278) rfl rfl
     have f281 := f154.stp S278 rfl rfl
     refine WO.app (κ := K277) (E := (Ep.int .i64)) 17 [] rfl rfl rfl rfl rfl rfl rfl rfl rfl Try.underlying24 Tryinfo2 rfl rfl rfl rfl f281 (Sl.srcP (pu_int _) f280) sy_false hx48 rfl fun a48 u48 w282 K283 S284 f285 => ⟨((S153.tr (S278.tr S284)).cl rfl), ?_⟩
     refine WO.wa ?_
     refine WA.seg (fuel := 0) [(5, 1), (9, 1), (10, 2), (12, 1)] (by kernel_rfl) (by kernel_rfl) rfl ?_
     refine WO.bl0 (κ := K283) (E := (Ep.int .i64)) 19 rfl rfl rfl rfl rfl Try.underlying24 Tryinfo2 rfl fun a49 u49 w286 K287 S288 f289 => ⟨((S153.tr (S278.tr (S284.tr S288))).cl rfl), ?_⟩
     have f290 := f150.stp (S153.tr (S278.tr (S284.tr S288))) rfl rfl
     refine WO.app (κ := K287) (E := (Ep.int .i64)) 19 [] rfl rfl rfl rfl rfl rfl rfl rfl rfl Try.underlying24 Tryinfo2 rfl rfl rfl rfl f289 (Sl.srcP (pu_int _) f290) sy_false hx53 rfl fun a53 u53 w291 K292 S293 f294 => ⟨((S153.tr (S278.tr (S284.tr (S288.tr S293)))).cl rfl), ?_⟩
     refine WO.k2 rfl rfl rfl rfl (rn_build (parts := [(0, .tmp 48), (1, .tmp 53)]) (cells := [.slice a48 x48.length u48, .slice a53 x53.length u53]) rfl rfl (by kernel_rfl)) ?_
     have f295 := f279.stp (S284.tr (S288.tr S293)) rfl rfl
     refine WO.stB0 (κ := K292) 18 (vc := [.slice a48 x48.length u48, .slice a53 x53.length u53]) rfl rfl rfl rfl rfl rfl rfl Try.sizeOf82 rfl rfl f295 rfl fun w296 S297 f298 => ⟨((S153.tr (S278.tr (S284.tr (S288.tr (S293.tr S297))))).cl rfl), ?_⟩
     refine WO.wa ?_
     refine WA.last [] (by kernel_rfl) (by kernel_rfl) rfl ?_
     refine WO.fin ?_
     have f299 := f285.stp (S288.tr (S293.tr S297)) rfl rfl
     have f300 := f294.stp S297 rfl rfl
     exact DN.meet _ ⟨(fun b => ren [(19, 18), (18, 19)] (K292 b)), b13, a48, u48, a53, u53, rfl, (Stp.ren ((S146.tr (S153.tr (S278.tr (S284.tr (S288.tr (S293.tr S297)))))).wk rfl) [(19, 18), (18, 19)] rfl), (f299.map (ren [(19, 18), (18, 19)]) rfl rfl), (f300.map (ren [(19, 18), (18, 19)]) rfl rfl), (f298.map (ren [(19, 18), (18, 19)]) rfl rfl)⟩ fun a ha => (ha.more (ha.more ha.nil rfl) rfl)
    ·
     refine WO.bl0 (κ := K277) (E := (Ep.int .i64)) 19 rfl rfl rfl rfl rfl Try.underlying24 Tryinfo2 rfl fun a49 u49 w301 K302 S303 f304 => ⟨((S153.tr (S278.tr S303)).cl rfl), ?_⟩
     refine WO.wa ?_
     refine WA.seg (fuel := 0) [(4, 1), (9, 1), (10, 2), (12, 1)] (by kernel_rfl) (by kernel_rfl) rfl ?_
     have f305 := f148.stp (S153.tr (S278.tr S303)) rfl rfl
     have f306 := f154.stp (S278.tr S303) rfl rfl
     refine WO.app (κ := K302) (E := (Ep.int .i64)) 17 [] rfl rfl rfl rfl rfl rfl rfl rfl rfl Try.underlying24 Tryinfo2 rfl rfl rfl rfl f306 (Sl.srcP (pu_int _) f305) sy_false hx48 rfl fun a48 u48 w307 K308 S309 f310 => ⟨((S153.tr (S278.tr (S303.tr S309))).cl rfl), ?_⟩
     have f311 := f150.stp (S153.tr (S278.tr (S303.tr S309))) rfl rfl
     have f312 := f304.stp S309 rfl rfl
     refine WO.app (κ := K308) (E := (Ep.int .i64)) 19 [] rfl rfl rfl rfl rfl rfl rfl rfl rfl Try.underlying24 Tryinfo2 rfl rfl rfl rfl f312 (Sl.srcP (pu_int _) f311) sy_false hx53 rfl fun a53 u53 w313 K314 S315 f316 => ⟨((S153.tr (S278.tr (S303.tr (S309.tr S315)))).cl rfl), ?_⟩
     refine WO.k2 rfl rfl rfl rfl (rn_build (parts := [(0, .tmp 48), (1, .tmp 53)]) (cells := [.slice a48 x48.length u48, .slice a53 x53.length u53]) rfl rfl (by kernel_rfl)) ?_
     have f317 := f279.stp (S303.tr (S309.tr S315)) rfl rfl
     refine WO.stB0 (κ := K314) 18 (vc := [.slice a48 x48.length u48, .slice a53 x53.length u53]) rfl rfl rfl rfl rfl rfl rfl Try.sizeOf82 rfl rfl f317 rfl fun w318 S319 f320 => ⟨((S153.tr (S278.tr (S303.tr (S309.tr (S315.tr S319))))).cl rfl), ?_⟩
     refine WO.wa ?_
     refine WA.last [] (by kernel_rfl) (by kernel_rfl) rfl ?_
     refine WO.fin ?_
     have f321 := f310.stp (S315.tr S319) rfl rfl
     have f322 := f316.stp S319 rfl rfl
     exact DN.meet _ ⟨(fun b => ren [(19, 18), (18, 19)] (K314 b)), b13, a48, u48, a53, u53, rfl, (Stp.ren ((S146.tr (S153.tr (S278.tr (S303.tr (S309.tr (S315.tr S319)))))).wk rfl) [(19, 18), (18, 19)] rfl), (f321.map (ren [(19, 18), (18, 19)]) rfl rfl), (f322.map (ren [(19, 18), (18, 19)]) rfl rfl), (f320.map (ren [(19, 18), (18, 19)]) rfl rfl)⟩ fun a ha => (ha.more (ha.more ha.nil rfl) rfl)
  ·
   refine WO.bl0 (κ := K134) (E := (Ep.int .i64)) 17 rfl rfl rfl rfl rfl Try.underlying24 Tryinfo2 rfl fun a49 u49 w323 K324 S325 f326 => ⟨(S325.cl rfl), ?_⟩
   refine WO.wa ?_
   refine WA.fork2 (fuel := 5) 0 11 (by kernel_rfl) rfl ?_ ?_
   ·
    refine WO.bl0 (κ := K324) (E := (Ep.int .i64)) 18 rfl rfl rfl rfl rfl Try.underlying24 Tryinfo2 rfl fun a44 u44 w327 K328 S329 f330 => ⟨((S325.tr S329).cl rfl), ?_⟩
    refine WO.wa ?_
    refine WA.fork2 (fuel := 4) 4 11 (by kernel_rfl) rfl ?_ ?_
    ·
     have f331 := f148.stp (S325.tr S329) rfl rfl
     refine WO.app (κ := K328) (E := (Ep.int .i64)) 18 [] rfl rfl rfl rfl rfl rfl rfl rfl rfl Try.underlying24 Tryinfo2 rfl rfl rfl rfl f330 (Sl.srcP (pu_int _) f331) sy_false hx48 rfl fun a48 u48 w332 K333 S334 f335 => ⟨((S325.tr (S329.tr S334)).cl rfl), ?_⟩
     refine WO.wa ?_
     refine WA.fork2 (fuel := 3) 9 11 (by kernel_rfl) rfl ?_ ?_
     ·
      have f336 := f150.stp (S325.tr (S329.tr S334)) rfl rfl
      have f337 := f326.stp (S329.tr S334) rfl rfl
      refine WO.app (κ := K333) (E := (Ep.int .i64)) 17 [] rfl rfl rfl rfl rfl rfl rfl rfl rfl Try.underlying24 Tryinfo2 rfl rfl rfl rfl f337 (Sl.srcP (pu_int _) f336) sy_false hx53 rfl fun a53 u53 w338 K339 S340 f341 => ⟨((S325.tr (S329.tr (S334.tr S340))).cl rfl), ?_⟩
      refine WO.wa ?_
      refine WA.seg (fuel := 0) [(10, 2), (11, 1), (12, 1)] (by kernel_rfl) (by kernel_rfl) rfl ?_
      refine WO.k2 rfl rfl rfl rfl (rn_build (parts := [(0, .tmp 48), (1, .tmp 53)]) (cells := [.slice a48 x48.length u48, .slice a53 x53.length u53]) rfl rfl (by kernel_rfl)) ?_
      refine WO.alloc (κ := K339) 19 rfl rfl rfl rfl rfl Try.zeroValue82 rfl fun b13 w342 K343 S344 f345 => ⟨((S325.tr (S329.tr (S334.tr (S340.tr S344)))).cl rfl), ?_⟩
      refine WO.stB0 (κ := K343) 19 (vc := [.slice a48 x48.length u48, .slice a53 x53.length u53]) rfl rfl rfl rfl rfl rfl rfl Try.sizeOf82 rfl rfl f345 rfl fun w346 S347 f348 => ⟨((S325.tr (S329.tr (S334.tr (S340.tr (S344.tr S347))))).cl rfl), ?_⟩
      refine WO.wa ?_
      refine WA.last [] (by kernel_rfl) (by kernel_rfl) rfl ?_
      refine WO.fin ?_
      have f349 := f335.stp (S340.tr (S344.tr S347)) rfl rfl
      have f350 := f341.stp (S344.tr S347) rfl rfl
      exact DN.meet _ ⟨(fun b => ren [(18, 17), (17, 18)] (K343 b)), b13, a48, u48, a53, u53, rfl, (Stp.ren ((S146.tr (S325.tr (S329.tr (S334.tr (S340.tr (S344.tr S347)))))).wk rfl) [(18, 17), (17, 18)] rfl), (f349.map (ren [(18, 17), (17, 18)]) rfl rfl), (f350.map (ren [(18, 17), (17, 18)]) rfl rfl), (f348.map (ren [(18, 17), (17, 18)]) rfl rfl)⟩ fun a ha => (ha.more (ha.more ha.nil rfl) rfl)
     ·
      refine WO.alloc (κ := K333) 19 rfl rfl rfl rfl rfl Try.zeroValue82 rfl fun b13 w351 K352 S353 f354 => ⟨((S325.tr (S329.tr (S334.tr S353))).cl rfl), ?_⟩
      refine WO.wa ?_
      refine WA.seg (fuel := 0) [(9, 1), (10, 2), (12, 1)] (by kernel_rfl) (by kernel_rfl) rfl ?_
      have f355 := f150.stp (S325.tr (S329.tr (S334.tr S353))) rfl rfl
      have f356 := f326.stp (S329.tr (S334.tr S353)) rfl rfl
      refine WO.app (κ := K352) (E := (Ep.int .i64)) 17 [] rfl rfl rfl rfl rfl rfl rfl rfl rfl Try.underlying24 Tryinfo2 rfl rfl rfl rfl f356 (Sl.srcP (pu_int _) f355) sy_false hx53 rfl fun a53 u53 w357 K358 S359 f360 => ⟨((S325.tr (S329.tr (S334.tr (S353.tr S359)))).cl rfl), ?_⟩
      refine WO.k2 rfl rfl rfl rfl (rn_build (parts := [(0, .tmp 48), (1, .tmp 53)]) (cells := [.slice a48 x48.length u48, .slice a53 x53.length u53]) rfl rfl (by kernel_rfl)) ?_
      have f361 := f354.stp S359 rfl rfl
      refine WO.stB0 (κ := K358) 19 (vc := [.slice a48 x48.length u48, .slice a53 x53.length u53]) rfl rfl rfl rfl rfl rfl rfl Try.sizeOf82 rfl rfl f361 rfl fun w362 S363 f364 => ⟨((S325.tr (S329.tr (S334.tr (S353.tr (S359.tr S363))))).cl rfl), ?_⟩
      refine WO.wa ?_
      refine WA.last [] (by kernel_rfl) (by kernel_rfl) rfl ?_
      refine WO.fin ?_
      have f365 := f335.stp (S353.tr (S359.tr S363)) rfl rfl
      have f366 := f360.stp S363 rfl rfl
      exact DN.meet _ ⟨(fun b => ren [(18, 17), (17, 18)] (K358 b)), b13, a48, u48, a53, u53, rfl, (Stp.ren ((S146.tr (S325.tr (S329.tr (S334.tr (S353.tr (S359.tr S363)))))).wk rfl) [(18, 17), (17, 18)] rfl), (f365.map (ren [(18, 17), (17, 18)]) rfl rfl), (f366.map (ren [(18, 17), (17, 18)]) rfl rfl), (f364.map (ren [(18, 17), (17, 18)]) rfl rfl)⟩ fun a ha => (ha.more (ha.more ha.nil rfl) rfl)
    ·
     refine WO.alloc (κ := K328) 19 rfl rfl rfl rfl rfl Try.zeroValue82 rfl fun b13 w367 K368 S369 f370 => ⟨((S325.tr (S329.tr S369)).cl rfl), ?_⟩
     refine WO.wa ?_
     refine WA.seg (fuel := 0) [(4, 1), (9, 1), (10, 2), (12, 1)] (by kernel_rfl) (by kernel_rfl) rfl ?_
     have f371 := f148.stp (S325.tr (S329.tr S369)) rfl rfl
     have f372 := f330.stp S369 rfl rfl
     refine WO.app (κ := K368) (E := (Ep.int .i64)) 18 [] rfl rfl rfl rfl rfl rfl rfl rfl rfl Try.underlying24 Tryinfo2 rfl rfl rfl rfl f372 (Sl.srcP (pu_int _) f371) sy_false hx48 rfl fun a48 u48 w373 K374 S375 f376 => ⟨((S325.tr (S329.tr (S369.tr S375))).cl rfl), ?_⟩
     have f377 := f150.stp (S325.tr (S329.tr (S369.tr S375))) rfl rfl
     have f378 := f326.stp (S329.tr (S369.tr S375)) rfl rfl
     refine WO.app (κ := K374) (E := (Ep.int .i64)) 17 [] rfl rfl rfl rfl rfl rfl rfl rfl rfl Try.underlying24 Tryinfo2 rfl rfl rfl rfl f378 (Sl.srcP (pu_int _) f377) sy_false hx53 rfl fun a53 u53 w379 K380 S381 f382 => ⟨((S325.tr (S329.tr (S369.tr (S375.tr S381)))).cl rfl), ?_⟩
     refine WO.k2 rfl rfl rfl rfl (rn_build (parts := [(0, .tmp 48), (1, .tmp 53)]) (cells := [.slice a48 x48.length u48, .slice a53 x53.length u53]) rfl rfl (by kernel_rfl)) ?_
     have f383 := f370.stp (S375.tr S381) rfl rfl
     refine WO.stB0 (κ := K380) 19 (vc := [.slice a48 x48.length u48, .slice a53 x53.length u53]) rfl rfl rfl rfl rfl rfl rfl Try.sizeOf82 rfl rfl f383 rfl fun w384 S385 f386 => ⟨((S325.tr (S329.tr (S369.tr (S375.tr (S381.tr S385))))).cl rfl), ?_⟩
     refine WO.wa ?_
     refine WA.last [] (by kernel_rfl) (by kernel_rfl) rfl ?_
     refine WO.fin ?_
     have f387 := f376.stp (S381.tr S385) rfl rfl
     have f388 := f382.stp S385 rfl rfl
     exact DN.meet _ ⟨(fun b => ren [(18, 17), (17, 18)] (K380 b)), b13, a48, u48, a53, u53, rfl, (Stp.ren ((S146.tr (S325.tr (S329.tr (S369.tr (S375.tr (S381.tr S385)))))).wk rfl) [(18, 17), (17, 18)] rfl), (f387.map (ren [(18, 17), (17, 18)]) rfl rfl), (f388.map (ren [(18, 17), (17, 18)]) rfl rfl), (f386.map (ren [(18, 17), (17, 18)]) rfl rfl)⟩ fun a ha => (ha.more (ha.more ha.nil rfl) rfl)
   ·
    refine WO.alloc (κ := K324) 18 rfl rfl rfl rfl rfl Try.zeroValue82 rfl fun b13 w389 K390 S391 f392 => ⟨((S325.tr S391).cl rfl), ?_⟩
    refine WO.wa ?_
    refine WA.seg (fuel := 0) [(0, 1), (4, 1), (9, 1), (10, 2), (12, 1)] (by kernel_rfl) (by kernel_rfl) rfl ?_
    refine WO.bl0 (κ := K390) (E := (Ep.int .i64)) 19 rfl rfl rfl rfl rfl Try.underlying24 Tryinfo2 rfl fun a44 u44 w393 K394 S395 f396 => ⟨((S325.tr (S391.tr S395)).cl rfl), ?_⟩
    have f397 := f148.stp (S325.tr (S391.tr S395)) rfl rfl
    refine WO.app (κ := K394) (E := (Ep.int .i64)) 19 [] rfl rfl rfl rfl rfl rfl rfl rfl rfl Try.underlying24 Tryinfo2 rfl rfl rfl rfl f396 (Sl.srcP (pu_int _) f397) sy_false hx48 rfl fun a48 u48 w398 K399 S400 f401 => ⟨((S325.tr (S391.tr (S395.tr S400))).cl rfl), ?_⟩
    have f402 := f150.stp (S325.tr (S391.tr (S395.tr S400))) rfl rfl
    have f403 := f326.stp (S391.tr (S395.tr S400)) rfl rfl
    refine WO.app (κ := K399) (E := (Ep.int .i64)) 17 [] rfl rfl rfl rfl rfl rfl rfl rfl rfl Try.underlying24 Tryinfo2 rfl rfl rfl rfl f403 (Sl.srcP (pu_int _) f402) sy_false hx53 rfl fun a53 u53 w404 K405 S406 f407 => ⟨((S325.tr (S391.tr (S395.tr (S400.tr S406)))).cl rfl), ?_⟩
    refine WO.k2 rfl rfl rfl rfl (rn_build (parts := [(0, .tmp 48), (1, .tmp 53)]) (cells := [.slice a48 x48.length u48, .slice a53 x53.length u53]) rfl rfl (by kernel_rfl)) ?_
    have f408 := f392.stp (S395.tr (S400.tr S406)) rfl rfl
    refine WO.stB0 (κ := K405) 18 (vc := [.slice a48 x48.length u48, .slice a53 x53.length u53]) rfl rfl rfl rfl rfl rfl rfl Try.sizeOf82 rfl rfl f408 rfl fun w409 S410 f411 => ⟨((S325.tr (S391.tr (S395.tr (S400.tr (S406.tr S410))))).cl rfl), ?_⟩
    refine WO.wa ?_
    refine WA.last [] (by kernel_rfl) (by kernel_rfl) rfl ?_
    refine WO.fin ?_
    have f412 := f401.stp (S406.tr S410) rfl rfl
    have f413 := f407.stp S410 rfl rfl
    exact DN.meet _ ⟨(fun b => ren [(19, 17), (17, 18), (18, 19)] (K405 b)), b13, a48, u48, a53, u53, rfl, (Stp.ren ((S146.tr (S325.tr (S391.tr (S395.tr (S400.tr (S406.tr S410)))))).wk rfl) [(19, 17), (17, 18), (18, 19)] rfl), (f412.map (ren [(19, 17), (17, 18), (18, 19)]) rfl rfl), (f413.map (ren [(19, 17), (17, 18), (18, 19)]) rfl rfl), (f411.map (ren [(19, 17), (17, 18), (18, 19)]) rfl rfl)⟩ fun a ha => (ha.more (ha.more ha.nil rfl) rfl)
  ·
   refine WO.alloc (κ := K134) 17 rfl rfl rfl rfl rfl Try.zeroValue82 rfl fun b13 w414 K415 S416 f417 => ⟨(S416.cl rfl), ?_⟩
   refine WO.wa ?_
   refine WA.fork2 (fuel := 5) 0 5 (by kernel_rfl) rfl ?_ ?_
   ·
    refine WO.bl0 (κ := K415) (E := (Ep.int .i64)) 18 rfl rfl rfl rfl rfl Try.underlying24 Tryinfo2 rfl fun a44 u44 w418 K419 S420 f421 => ⟨((S416.tr S420).cl rfl), ?_⟩
    refine WO.wa ?_
    refine WA.fork2 (fuel := 4) 4 5 (by kernel_rfl) rfl ?_ ?_
    ·
     have f422 := f148.stp (S416.tr S420) rfl rfl
     refine WO.app (κ := K419) (E := (Ep.int .i64)) 18 [] rfl rfl rfl rfl rfl rfl rfl rfl rfl Try.underlying24 Tryinfo2 rfl rfl rfl rfl f421 (Sl.srcP (pu_int _) f422) sy_false hx48 rfl fun a48 u48 w423 K424 S425 f426 => ⟨((S416.tr (S420.tr S425)).cl rfl), ?_⟩
     refine WO.wa ?_
     refine WA.seg (fuel := 0) [(5, 1), (9, 1), (10, 2), (12, 1)] (by kernel_rfl) (by kernel_rfl) rfl ?_
     refine WO.bl0 (κ := K424) (E := (Ep.int .i64)) 19 rfl rfl rfl rfl rfl Try.underlying24 Tryinfo2 rfl fun a49 u49 w427 K428 S429 f430 => ⟨((S416.tr (S420.tr (S425.tr S429))).cl rfl), ?_⟩
     have f431 := f150.stp (S416.tr (S420.tr (S425.tr S429))) rfl rfl
     refine WO.app (κ := K428) (E := (Ep.int .i64)) 19 [] rfl rfl rfl rfl rfl rfl rfl rfl rfl Try.underlying24 Tryinfo2 rfl rfl rfl rfl f430 (Sl.srcP (pu_int _) f431) sy_false hx53 rfl fun a53 u53 w432 K433 S434 f435 => ⟨((S416.tr (S420.tr (S425.tr (S429.tr S434)))).cl rfl), ?_⟩
     refine WO.k2 rfl rfl rfl rfl (rn_build (parts := [(0, .tmp 48), (1, .tmp 53)]) (cells := [.slice a48 x48.length u48, .slice a53 x53.length u53]) rfl rfl (by kernel_rfl)) ?_
     have f436 := f417.stp (S420.tr (S425.tr (S429.tr S434))) rfl rfl
     refine WO.stB0 (κ := K433) 17 (vc := [.slice a48 x48.length u48, .slice a53 x53.length u53]) rfl rfl rfl rfl rfl rfl rfl Try.sizeOf82 rfl rfl f436 rfl fun w437 S438 f439 => ⟨((S416.tr (S420.tr (S425.tr (S429.tr (S434.tr S438))))).cl rfl), ?_⟩
     refine WO.wa ?_
     refine WA.last [] (by kernel_rfl) (by kernel_rfl) rfl ?_
     refine WO.fin ?_
     have f440 := f426.stp (S429.tr (S434.tr S438)) rfl rfl
     have f441 := f435.stp S438 rfl rfl
     exact DN.meet _ ⟨(fun b => ren [(18, 17), (19, 18), (17, 19)] (K433 b)), b13, a48, u48, a53, u53, rfl, (Stp.ren ((S146.tr (S416.tr (S420.tr (S425.tr (S429.tr (S434.tr S438)))))).wk rfl) [(18, 17), (19, 18), (17, 19)] rfl), (f440.map (ren [(18, 17), (19, 18), (17, 19)]) rfl rfl), (f441.map (ren [(18, 17), (19, 18), (17, 19)]) rfl rfl), (f439.map (ren [(18, 17), (19, 18), (17, 19)]) rfl rfl)⟩ fun a ha => (ha.more (ha.more ha.nil rfl) rfl)
    ·
     refine WO.bl0 (κ := K419) (E := (Ep.int .i64)) 19 rfl rfl rfl rfl rfl Try.underlying24 Tryinfo2 rfl fun a49 u49 w442 K443 S444 f445 => ⟨((S416.tr (S420.tr S444)).cl rfl), ?_⟩
     refine WO.wa ?_
     refine WA.seg (fuel := 0) [(4, 1), (9, 1), (10, 2), (12, 1)] (by kernel_rfl) (by kernel_rfl) rfl ?_
     have f446 := f148.stp (S416.tr (S420.tr S444)) rfl rfl
     have f447 := f421.stp S444 rfl rfl
     refine WO.app (κ := K443) (E := (Ep.int .i64)) 18 [] rfl rfl rfl rfl rfl rfl rfl rfl rfl Try.underlying24 Tryinfo2 rfl rfl rfl rfl f447 (Sl.srcP (pu_int _) f446) sy_false hx48 rfl fun a48 u48 w448 K449 S450 f451 => ⟨((S416.tr (S420.tr (S444.tr S450))).cl rfl), ?_⟩
     have f452 := f150.stp (S416.tr (S420.tr (S444.tr S450))) rfl rfl
     have f453 := f445.stp S450 rfl rfl
     refine WO.app (κ := K449) (E := (Ep.int .i64)) 19 [] rfl rfl rfl rfl rfl rfl rfl rfl rfl Try.underlying24 Tryinfo2 rfl rfl rfl rfl f453 (Sl.srcP (pu_int _) f452) sy_false hx53 rfl fun a53 u53 w454 K455 S456 f457 => ⟨((S416.tr (S420.tr (S444.tr (S450.tr S456)))).cl rfl), ?_⟩
     refine WO.k2 rfl rfl rfl rfl (rn_build (parts := [(0, .tmp 48), (1, .tmp 53)]) (cells := [.slice a48 x48.length u48, .slice a53 x53.length u53]) rfl rfl (by kernel_rfl)) ?_
     have f458 := f417.stp (S420.tr (S444.tr (S450.tr S456))) rfl rfl
     refine WO.stB0 (κ := K455) 17 (vc := [.slice a48 x48.length u48, .slice a53 x53.length u53]) rfl rfl rfl rfl rfl rfl rfl Try.sizeOf82 rfl rfl f458 rfl fun w459 S460 f461 => ⟨((S416.tr (S420.tr (S444.tr (S450.tr (S456.tr S460))))).cl rfl), ?_⟩
     refine WO.wa ?_
     refine WA.last [] (by kernel_rfl) (by kernel_rfl) rfl ?_
     refine WO.fin ?_
     have f462 := f451.stp (S456.tr S460) rfl rfl
     have f463 := f457.stp S460 rfl rfl
     exact DN.meet _ ⟨(fun b => ren [(18, 17), (19, 18), (17, 19)] (K455 b)), b13, a48, u48, a53, u53, rfl, (Stp.ren ((S146.tr (S416.tr (S420.tr (S444.tr (S450.tr (S456.tr S460)))))).wk rfl) [(18, 17), (19, 18), (17, 19)] rfl), (f462.map (ren [(18, 17), (19, 18), (17, 19)]) rfl rfl), (f463.map (ren [(18, 17), (19, 18), (17, 19)]) rfl rfl), (f461.map (ren [(18, 17), (19, 18), (17, 19)]) rfl rfl)⟩ fun a ha => (ha.more (ha.more ha.nil rfl) rfl)
   ·
    refine WO.bl0 (κ := K415) (E := (Ep.int .i64)) 18 rfl rfl rfl rfl rfl Try.underlying24 Tryinfo2 rfl fun a49 u49 w464 K465 S466 f467 => ⟨((S416.tr S466).cl rfl), ?_⟩
    refine WO.wa ?_
    refine WA.seg (fuel := 0) [(0, 1), (4, 1), (9, 1), (10, 2), (12, 1)] (by kernel_rfl) (by kernel_rfl) rfl ?_
    refine WO.bl0 (κ := K465) (E := (Ep.int .i64)) 19 rfl rfl rfl rfl rfl Try.underlying24 Tryinfo2 rfl fun a44 u44 w468 K469 S470 f471 => ⟨((S416.tr (S466.tr S470)).cl rfl), ?_⟩
    have f472 := f148.stp (S416.tr (S466.tr S470)) rfl rfl
    refine WO.app (κ := K469) (E := (Ep.int .i64)) 19 [] rfl rfl rfl rfl rfl rfl rfl rfl rfl Try.underlying24 Tryinfo2 rfl rfl rfl rfl f471 (Sl.srcP (pu_int _) f472) sy_false hx48 rfl fun a48 u48 w473 K474 S475 f476 => ⟨((S416.tr (S466.tr (S470.tr S475))).cl rfl), ?_⟩
    have f477 := f150.stp (S416.tr (S466.tr (S470.tr S475))) rfl rfl
    have f478 := f467.stp (S470.tr S475) rfl rfl
    refine WO.app (κ := K474) (E := (Ep.int .i64)) 18 [] rfl rfl rfl rfl rfl rfl rfl rfl rfl Try.underlying24 Tryinfo2 rfl rfl rfl rfl f478 (Sl.srcP (pu_int _) f477) sy_false hx53 rfl fun a53 u53 w479 K480 S481 f482 => ⟨((S416.tr (S466.tr (S470.tr (S475.tr S481)))).cl rfl), ?_⟩
    refine WO.k2 rfl rfl rfl rfl (rn_build (parts := [(0, .tmp 48), (1, .tmp 53)]) (cells := [.slice a48 x48.length u48, .slice a53 x53.length u53]) rfl rfl (by kernel_rfl)) ?_
    have f483 := f417.stp (S466.tr (S470.tr (S475.tr S481))) rfl rfl
    refine WO.stB0 (κ := K480) 17 (vc := [.slice a48 x48.length u48, .slice a53 x53.length u53]) rfl rfl rfl rfl rfl rfl rfl Try.sizeOf82 rfl rfl f483 rfl fun w484 S485 f486 => ⟨((S416.tr (S466.tr (S470.tr (S475.tr (S481.tr S485))))).cl rfl), ?_⟩
    refine WO.wa ?_
    refine WA.last [] (by kernel_rfl) (by kernel_rfl) rfl ?_
    refine WO.fin ?_
    have f487 := f476.stp (S481.tr S485) rfl rfl
    have f488 := f482.stp S485 rfl rfl
    exact DN.meet _ ⟨(fun b => ren [(19, 17), (17, 19)] (K480 b)), b13, a48, u48, a53, u53, rfl, (Stp.ren ((S146.tr (S416.tr (S466.tr (S470.tr (S475.tr (S481.tr S485)))))).wk rfl) [(19, 17), (17, 19)] rfl), (f487.map (ren [(19, 17), (17, 19)]) rfl rfl), (f488.map (ren [(19, 17), (17, 19)]) rfl rfl), (f486.map (ren [(19, 17), (17, 19)]) rfl rfl)⟩ fun a ha => (ha.more (ha.more ha.nil rfl) rfl)
 rintro _ w138 ⟨K139, b13, lar141_0, lur141_0, lar141_1, lur141_1, rfl, S140, f142, f143, f144⟩
 refine DN.seq ?_
 refine WC.seq ?_
 refine WC.meet (fun L w' => ∃ (κ' : Col) (lar492_0 : Option Addr) (lur492_0 : Nat) (lar492_1 : Option Addr) (lur492_1 : Nat), L = [(6, .pointer (some ⟨b6, 0, none⟩)), (7, .bool (bif decide ((((⟨x48, x53⟩ : Word).Stem).length : Int) ≤ 600) then decide ((((⟨x48, x53⟩ : Word).Loop).length : Int) ≤ 600) else false))] ∧ Stp [5, 17, 18] K139 w138 κ' w' ∧ Oc (Ep.int .i64) 2 κ' w' 20 lar492_0 lur492_0 ((⟨x48, x53⟩ : Word).Stem) ∧ Oc (Ep.int .i64) 2 κ' w' 21 lar492_1 lur492_1 ((⟨x48, x53⟩ : Word).Loop) ∧ Bc κ' w' 5 b6 82 [.slice lar492_0 ((⟨x48, x53⟩ : Word).Stem).length lur492_0, .slice lar492_1 ((⟨x48, x53⟩ : Word).Loop).length lur492_1]) ?_ ?_
 ·
  refine WC.rxt (κ := K139) 19 (some 11) (by kernel_rfl) fun w496 S497 => ?_
  refine WA.seg (fuel := 6) [(1, 2), (0, 0), (2, 0), (3, 2), (4, 2), (5, 2), (6, 2)] (by kernel_rfl) (by kernel_rfl) rfl ?_
  refine WO.k2 rfl rfl rfl rfl (rn_fieldAddr Try.runUnderlying82 rfl Try.sizeOf24 rfl rfl) ?_
  have f498 := f144.stp S497 rfl rfl
  refine WO.k0 rfl rfl rfl rfl (rn_la (cs := [.slice lar141_0 ((⟨x48, x53⟩ : Word).Stem).length lur141_0, .slice lar141_1 ((⟨x48, x53⟩ : Word).Loop).length lur141_1]) Try.isAgg82 Try.sizeOf82 rfl rfl rfl (haC f498.cells rfl)) ?_
  refine WO.k0 rfl rfl rfl rfl (rn_ld Try.isAgg24 rfl rfl (hvC (f498.ld 0 rfl rfl) rfl)) ?_
  refine WO.k2 rfl rfl rfl rfl (rn_len Try.runUnderlying24 rfl rfl) ?_
  refine WO.pn 2 rfl ?_
  cases ht499 : decide ((((⟨x48, x53⟩ : Word).Stem).length : Int) ≤ 600) with
  | true =>
   refine WO.k2 rfl rfl rfl rfl (rn_fieldAddr Try.runUnderlying82 rfl Try.sizeOf24 rfl rfl) ?_
   refine WO.wa ?_
   refine WA.forkB2r (fuel := 5) 7 11 (by kernel_rfl) rfl (by kernel_rfl) ?_ ?_
   ·
    refine WO.k1 (Cl.refl _ _ _) rfl rfl rfl rfl (rn_ld Try.isAgg24 rfl rfl (hvE (f498.ld 1 rfl rfl))) ?_
    refine WO.wa ?_
    refine WA.seg (fuel := 2) [(8, 2), (9, 2), (10, 2)] (by kernel_rfl) (by kernel_rfl) rfl ?_
    refine WO.k2 rfl rfl rfl rfl (rn_len Try.runUnderlying24 rfl rfl) ?_
    refine WO.pn 1 rfl ?_
    refine WO.pn 1 rfl ?_
    refine WO.wa ?_
    refine WA.last [(11, 1), (12, 2)] (by kernel_rfl) (by kernel_rfl) rfl ?_
    have f500 := f16.stp (S19.tr (S23.tr (S26.tr (S30.tr (S33.tr (S50.tr (S58.tr (S65.tr (S126.tr (S135.tr (S140.tr S497))))))))))) rfl rfl
    refine WO.stB0 (κ := K139) 5 (vc := [.slice lar141_0 ((⟨x48, x53⟩ : Word).Stem).length lur141_0, .slice lar141_1 ((⟨x48, x53⟩ : Word).Loop).length lur141_1]) rfl rfl rfl rfl rfl rfl rfl Try.sizeOf82 rfl rfl f500 rfl fun w501 S502 f503 => ⟨trivial, ?_⟩
    refine WO.pn 1 rfl ?_
    refine WO.fin ?_
    have f504 := f142.stp (S497.tr S502) rfl rfl
    have f505 := f143.stp (S497.tr S502) rfl rfl
    exact DN.meet _ ⟨(fun b => ren [(17, 20), (18, 21)] (K139 b)), lar141_0, lur141_0, lar141_1, lur141_1, rfl, (Stp.ren ((S497.tr S502).wk rfl) [(17, 20), (18, 21)] rfl), (f504.map (ren [(17, 20), (18, 21)]) rfl rfl), (f505.map (ren [(17, 20), (18, 21)]) rfl rfl), (f503.map (ren [(17, 20), (18, 21)]) rfl rfl)⟩ fun a ha => (ha.more (ha.more ha.nil rfl) rfl)
   ·
    have f506 := f16.stp (S19.tr (S23.tr (S26.tr (S30.tr (S33.tr (S50.tr (S58.tr (S65.tr (S126.tr (S135.tr (S140.tr S497))))))))))) rfl rfl
    refine WO.stB0 (κ := K139) 5 (vc := [.slice lar141_0 ((⟨x48, x53⟩ : Word).Stem).length lur141_0, .slice lar141_1 ((⟨x48, x53⟩ : Word).Loop).length lur141_1]) rfl rfl rfl rfl rfl rfl rfl Try.sizeOf82 rfl rfl f506 rfl fun w507 S508 f509 => ⟨trivial, ?_⟩
    refine WO.wa ?_
    refine WA.last [(7, 1), (8, 2), (9, 2), (10, 2), (12, 2)] (by kernel_rfl) (by kernel_rfl) rfl ?_
    have f510 := f498.stp S508 rfl rfl
    refine WO.k1 trivial rfl rfl rfl rfl (rn_ld Try.isAgg24 rfl rfl (hvE (f510.ld 1 rfl rfl))) ?_
    refine WO.k2 rfl rfl rfl rfl (rn_len Try.runUnderlying24 rfl rfl) ?_
    refine WO.pn 1 rfl ?_
    refine WO.pn 2 rfl ?_
    refine WO.fin ?_
    have f511 := f142.stp (S497.tr S508) rfl rfl
    have f512 := f143.stp (S497.tr S508) rfl rfl
    exact DN.meet _ ⟨(fun b => ren [(17, 20), (18, 21)] (K139 b)), lar141_0, lur141_0, lar141_1, lur141_1, rfl, (Stp.ren ((S497.tr S508).wk rfl) [(17, 20), (18, 21)] rfl), (f511.map (ren [(17, 20), (18, 21)]) rfl rfl), (f512.map (ren [(17, 20), (18, 21)]) rfl rfl), (f509.map (ren [(17, 20), (18, 21)]) rfl rfl)⟩ fun a ha => (ha.more (ha.more ha.nil rfl) rfl)
  | false =>
   refine WO.pn 1 rfl ?_
   refine WO.wa ?_
   refine WA.forkB2r (fuel := 5) 7 11 (by kernel_rfl) rfl (by kernel_rfl) ?_ ?_
   ·
    refine WO.ls rfl rfl rfl rfl ?_
    refine WO.wa ?_
    refine WA.seg (fuel := 2) [(8, 2), (9, 2), (10, 2)] (by kernel_rfl) (by kernel_rfl) rfl ?_
    refine WO.pn 1 rfl ?_
    refine WO.pn 1 rfl ?_
    refine WO.pn 1 rfl ?_
    refine WO.wa ?_
    refine WA.last [(11, 1), (12, 2)] (by kernel_rfl) (by kernel_rfl) rfl ?_
    have f513 := f16.stp (S19.tr (S23.tr (S26.tr (S30.tr (S33.tr (S50.tr (S58.tr (S65.tr (S126.tr (S135.tr (S140.tr S497))))))))))) rfl rfl
    refine WO.stB0 (κ := K139) 5 (vc := [.slice lar141_0 ((⟨x48, x53⟩ : Word).Stem).length lur141_0, .slice lar141_1 ((⟨x48, x53⟩ : Word).Loop).length lur141_1]) rfl rfl rfl rfl rfl rfl rfl Try.sizeOf82 rfl rfl f513 rfl fun w514 S515 f516 => ⟨trivial, ?_⟩
    refine WO.pn 1 rfl ?_
    refine WO.fin ?_
    have f517 := f142.stp (S497.tr S515) rfl rfl
    have f518 := f143.stp (S497.tr S515) rfl rfl
    exact DN.meet _ ⟨(fun b => ren [(17, 20), (18, 21)] (K139 b)), lar141_0, lur141_0, lar141_1, lur141_1, rfl, (Stp.ren ((S497.tr S515).wk rfl) [(17, 20), (18, 21)] rfl), (f517.map (ren [(17, 20), (18, 21)]) rfl rfl), (f518.map (ren [(17, 20), (18, 21)]) rfl rfl), (f516.map (ren [(17, 20), (18, 21)]) rfl rfl)⟩ fun a ha => (ha.more (ha.more ha.nil rfl) rfl)
   ·
    have f519 := f16.stp (S19.tr (S23.tr (S26.tr (S30.tr (S33.tr (S50.tr (S58.tr (S65.tr (S126.tr (S135.tr (S140.tr S497))))))))))) rfl rfl
    refine WO.stB0 (κ := K139) 5 (vc := [.slice lar141_0 ((⟨x48, x53⟩ : Word).Stem).length lur141_0, .slice lar141_1 ((⟨x48, x53⟩ : Word).Loop).length lur141_1]) rfl rfl rfl rfl rfl rfl rfl Try.sizeOf82 rfl rfl f519 rfl fun w520 S521 f522 => ⟨trivial, ?_⟩
    refine WO.wa ?_
    refine WA.last [(7, 1), (8, 2), (9, 2), (10, 2), (12, 2)] (by kernel_rfl) (by kernel_rfl) rfl ?_
    refine WO.ls rfl rfl rfl rfl ?_
    refine WO.pn 1 rfl ?_
    refine WO.pn 1 rfl ?_
    refine WO.pn 2 rfl ?_
    refine WO.fin ?_
    have f523 := f142.stp (S497.tr S521) rfl rfl
    have f524 := f143.stp (S497.tr S521) rfl rfl
    exact DN.meet _ ⟨(fun b => ren [(17, 20), (18, 21)] (K139 b)), lar141_0, lur141_0, lar141_1, lur141_1, rfl, (Stp.ren ((S497.tr S521).wk rfl) [(17, 20), (18, 21)] rfl), (f523.map (ren [(17, 20), (18, 21)]) rfl rfl), (f524.map (ren [(17, 20), (18, 21)]) rfl rfl), (f522.map (ren [(17, 20), (18, 21)]) rfl rfl)⟩ fun a ha => (ha.more (ha.more ha.nil rfl) rfl)
 rintro _ w489 ⟨K490, lar492_0, lur492_0, lar492_1, lur492_1, rfl, S491, f493, f494, f495⟩
 refine DN.seq ?_
 refine WC.ret ?_
 have f525 := hE.stp (S3.tr (S7.tr (S11.tr (S15.tr (S19.tr (S23.tr (S26.tr (S30.tr (S33.tr (S50.tr (S58.tr (S65.tr (S126.tr (S135.tr (S140.tr S491))))))))))))))) rfl rfl
 refine DN.res (l := [.cell 6 82, .tmp 7]) Try.results107 (res_cellA rfl f495 Try.isAgg82 Try.sizeOf82 rfl (res_tmp rfl rfl)) rfl ?_
 obtain rfl := Option.some.inj h
 exact ⟨(fun b => ren [(20, 2), (21, 3)] (K490 b)), lar492_0, lur492_0, lar492_1, lur492_1, rfl, (f525.map (ren [(20, 2), (21, 3)]) rfl rfl), (f493.map (ren [(20, 2), (21, 3)]) rfl rfl), (f494.map (ren [(20, 2), (21, 3)]) rfl rfl)⟩

/- loop.example/g00869/laws.eqMachine -/
theorem l_eqMachine_ok {w : World} {κ : Col} {a0_0 : Option Addr} {u0_0 : Nat} {a0_1 : Option Addr} {u0_1 : Nat} {p0 : Machine} {a1_0 : Option Addr} {u1_0 : Nat} {a1_1 : Option Addr} {u1_1 : Nat} {p1 : Machine} (g0_0 : Rd (Rp.sl (Rp.int .i64)) κ w 0 a0_0 u0_0 p0.Next) (g0_1 : Rd (Rp.sl (Rp.int .i64)) κ w 0 a0_1 u0_1 p0.Out) (g1_0 : Rd (Rp.sl (Rp.int .i64)) κ w 0 a1_0 u1_0 p1.Next) (g1_1 : Rd (Rp.sl (Rp.int .i64)) κ w 0 a1_1 u1_1 p1.Out) {r : Bool} (h : l_eqMachine p0 p1 = some r) : Ret Try.prog 52 [.agg #[.slice a0_0 p0.Next.length u0_0, .slice a0_1 p0.Out.length u0_1], .agg #[.slice a1_0 p1.Next.length u1_0, .slice a1_1 p1.Out.length u1_1]] w (fun v w' => ∃ (κ' : Col), v = .bool r ∧ Ent κ w κ' w') := by
 unfold l_eqMachine at h
 refine Ret.enter Try.func52 rfl Try.ntmps52 rfl ?_
 dsimp only [envOf]
 have hE := Ent.refl κ w
 refine WC.seq ?_
 refine WC.rs [(0, 1), (1, 1), (2, 2)] rfl ?_
 refine WO.box (κ := κ) 2 rfl rfl rfl rfl rfl rfl rfl fun b2 w1 K2 S3 f4 => ⟨trivial, ?_⟩
 refine WO.box (κ := K2) 3 rfl rfl rfl rfl rfl rfl rfl fun b3 w5 K6 S7 f8 => ⟨trivial, ?_⟩
 refine WO.pn 1 rfl ?_
 refine WO.fin ?_
 refine DN.seq ?_
 refine WC.seq ?_
 refine WC.seq ?_
 refine WC.rs [(0, 2), (1, 1), (2, 2), (3, 1), (4, 1), (5, 2)] rfl ?_
 refine WO.k2 rfl rfl rfl rfl (rn_fieldAddr Try.runUnderlying84 rfl Try.sizeOf25 rfl rfl) ?_
 have f9 := f4.stp S7 rfl rfl
 refine WO.k1 trivial rfl rfl rfl rfl (rn_ld Try.isAgg25 rfl rfl (hvE (f9.ld 0 rfl rfl))) ?_
 refine WO.k2 rfl rfl rfl rfl (rn_fieldAddr Try.runUnderlying84 rfl Try.sizeOf25 rfl rfl) ?_
 refine WO.k1 trivial rfl rfl rfl rfl (rn_ld Try.isAgg25 rfl rfl (hvE (f8.ld 0 rfl rfl))) ?_
 obtain ⟨x9, hx9, h⟩ := Option.bind_eq_some_iff.mp h
 have f10 := g0_0.stp (S3.tr S7) rfl rfl
 have f11 := g1_0.stp (S3.tr S7) rfl rfl
 refine WO.call rfl rfl rfl rfl rfl rfl Try.call77 (l_eqInt64SS_ok (κ := fun b => mp [] 0 (K6 b)) (Sl.map f10 (mp [] 0) rfl rfl) (Sl.map f11 (mp [] 0) rfl rfl) hx9) ?_
 rintro _ w12 ⟨k13, rfl, e14⟩
 obtain ⟨K15, S16, m17⟩ := Ent.mixed (l := []) (κ := K6) e14 4 rfl
 refine ⟨trivial, ?_⟩
 refine WO.pn 1 rfl ?_
 refine WO.fin ?_
 refine DN.seq ?_
 revert h
 cases ht19 : (!x9) with
 | true =>
  intro h; replace h := cT h
  refine WC.ct rfl ?_
  refine WC.seq ?_
  refine WC.rs [(0, 2)] rfl ?_
  refine WO.pn 1 rfl ?_
  refine WO.fin ?_
  refine DN.seq ?_
  refine WC.ret ?_
  refine DN.retThen ?_
  have f20 := hE.stp (S3.tr (S7.tr S16)) rfl rfl
  refine DN.res (l := [.tmp 4]) Try.results52 (res_tmp rfl rfl) rfl ?_
  obtain rfl := Option.some.inj h
  exact ⟨K15, rfl, f20⟩
 | false =>
  intro h; replace h := cF h
  refine WC.cf rfl ?_
  refine WC.skip ?_
  refine DN.seq ?_
  refine WC.seq ?_
  refine WC.seq ?_
  refine WC.rs [(0, 2), (1, 1), (2, 2), (3, 1), (4, 1), (5, 2)] rfl ?_
  refine WO.k2 rfl rfl rfl rfl (rn_fieldAddr Try.runUnderlying84 rfl Try.sizeOf25 rfl rfl) ?_
  have f21 := f9.stp S16 rfl rfl
  refine WO.k1 trivial rfl rfl rfl rfl (rn_ld Try.isAgg25 rfl rfl (hvE (f21.ld 1 rfl rfl))) ?_
  refine WO.k2 rfl rfl rfl rfl (rn_fieldAddr Try.runUnderlying84 rfl Try.sizeOf25 rfl rfl) ?_
  have f22 := f8.stp S16 rfl rfl
  refine WO.k1 trivial rfl rfl rfl rfl (rn_ld Try.isAgg25 rfl rfl (hvE (f22.ld 1 rfl rfl))) ?_
  obtain ⟨x15, hx15, h⟩ := Option.bind_eq_some_iff.mp h
  have f23 := g0_1.stp (S3.tr (S7.tr S16)) rfl rfl
  have f24 := g1_1.stp (S3.tr (S7.tr S16)) rfl rfl
  refine WO.call rfl rfl rfl rfl rfl rfl Try.call77 (l_eqInt64SS_ok (κ := fun b => mp [] 0 (K15 b)) (Sl.map f23 (mp [] 0) rfl rfl) (Sl.map f24 (mp [] 0) rfl rfl) hx15) ?_
  rintro _ w25 ⟨k26, rfl, e27⟩
  obtain ⟨K28, S29, m30⟩ := Ent.mixed (l := []) (κ := K15) e27 6 rfl
  refine ⟨trivial, ?_⟩
  refine WO.pn 1 rfl ?_
  refine WO.fin ?_
  refine DN.seq ?_
  revert h
  cases ht32 : (!x15) with
  | true =>
   intro h; replace h := cT h
   refine WC.ct rfl ?_
   refine WC.seq ?_
   refine WC.rs [(0, 2)] rfl ?_
   refine WO.pn 1 rfl ?_
   refine WO.fin ?_
   refine DN.seq ?_
   refine WC.ret ?_
   refine DN.retThen ?_
   have f33 := hE.stp (S3.tr (S7.tr (S16.tr S29))) rfl rfl
   refine DN.res (l := [.tmp 4]) Try.results52 (res_tmp rfl rfl) rfl ?_
   obtain rfl := Option.some.inj h
   exact ⟨K28, rfl, f33⟩
  | false =>
   intro h; replace h := cF h
   refine WC.cf rfl ?_
   refine WC.skip ?_
   refine DN.seq ?_
   refine WC.seq ?_
   refine WC.rs [(0, 2)] rfl ?_
   refine WO.pn 1 rfl ?_
   refine WO.fin ?_
   refine DN.seq ?_
   refine WC.ret ?_
   have f34 := hE.stp (S3.tr (S7.tr (S16.tr S29))) rfl rfl
   refine DN.res (l := [.tmp 4]) Try.results52 (res_tmp rfl rfl) rfl ?_
   obtain rfl := Option.some.inj h
   exact ⟨K28, rfl, f34⟩

/- loop.example/g00869/laws.markMachine -/
theorem l_markMachine_ok {w : World} {κ : Col} {a0_0 : Option Addr} {u0_0 : Nat} {a0_1 : Option Addr} {u0_1 : Nat} {p0 : Machine} {p1 : Int} (g0_0 : Oc (Ep.own (Ep.int .i64) 2) 24 κ w 2 a0_0 u0_0 p0.Next) (g0_1 : Oc (Ep.own (Ep.int .i64) 2) 24 κ w 3 a0_1 u0_1 p0.Out) {r : Int × (List (List Int)) × (List (List Int))} (h : l_markMachine p0 p1 = some r) : Ret Try.prog 53 [.agg #[.slice a0_0 p0.Next.length u0_0, .slice a0_1 p0.Out.length u0_1], .int .i64 p1] w (fun v w' => ∃ (κ' : Col), v = .int .i64 r.1 ∧ Ent κ w κ' w' ∧ Oc (Ep.own (Ep.int .i64) 2) 24 κ' w' 2 a0_0 u0_0 r.2.1 ∧ p0.Next.length = r.2.1.length ∧ Oc (Ep.own (Ep.int .i64) 2) 24 κ' w' 3 a0_1 u0_1 r.2.2 ∧ p0.Out.length = r.2.2.length) := by
 unfold l_markMachine at h
 refine Ret.enter Try.func53 rfl Try.ntmps53 rfl ?_
 dsimp only [envOf]
 have hE := Ent.refl κ w
 refine WC.seq ?_
 refine WC.rs [(0, 1), (1, 2)] rfl ?_
 refine WO.box (κ := κ) 4 rfl rfl rfl rfl rfl rfl rfl fun b2 w1 K2 S3 f4 => ⟨trivial, ?_⟩
 refine WO.pn 1 rfl ?_
 refine WO.fin ?_
 refine DN.seq ?_
 refine WC.seq ?_
 refine WC.rs [(0, 2), (1, 1), (2, 2), (3, 1), (4, 2)] rfl ?_
 refine WO.k2 rfl rfl rfl rfl (rn_fieldAddr Try.runUnderlying84 rfl Try.sizeOf25 rfl rfl) ?_
 refine WO.k1 trivial rfl rfl rfl rfl (rn_ld Try.isAgg25 rfl rfl (hvE (f4.ld 0 rfl rfl))) ?_
 refine WO.pn 1 rfl ?_
 obtain ⟨x8, hx8, h⟩ := Option.bind_eq_some_iff.mp h
 have f5 := g0_0.stp S3 rfl rfl
 refine WO.call rfl rfl rfl rfl rfl rfl Try.call81 (l_markInt64SS_ok (κ := fun b => mp [(2, 2)] 0 (K2 b)) (f5.map (mp [(2, 2)] 0) rfl rfl) hx8) ?_
 rintro _ w6 ⟨k7, rfl, e8, f9, hn10⟩
 obtain ⟨K11, S12, m13⟩ := Ent.mixed (l := [(2, 2)]) (κ := K2) e8 5 rfl
 refine ⟨trivial, ?_⟩
 have f15 := f9.mx (no_own (no_int _) _) m13 rfl (rfl : 5 + 2 = 7)
 refine WO.pn 1 rfl ?_
 refine WO.fin ?_
 refine DN.seq ?_
 refine WC.seq ?_
 refine WC.rs [(0, 2), (1, 1), (2, 2), (3, 1), (4, 2)] rfl ?_
 refine WO.k2 rfl rfl rfl rfl (rn_fieldAddr Try.runUnderlying84 rfl Try.sizeOf25 rfl rfl) ?_
 have f16 := f4.stp S12 rfl rfl
 refine WO.k1 trivial rfl rfl rfl rfl (rn_ld Try.isAgg25 rfl rfl (hvE (f16.ld 1 rfl rfl))) ?_
 refine WO.pn 1 rfl ?_
 obtain ⟨x12, hx12, h⟩ := Option.bind_eq_some_iff.mp h
 have f17 := g0_1.stp (S3.tr S12) rfl rfl
 refine WO.call rfl rfl rfl rfl rfl rfl Try.call81 (l_markInt64SS_ok (κ := fun b => mp [(3, 2)] 0 (K11 b)) (f17.map (mp [(3, 2)] 0) rfl rfl) hx12) ?_
 rintro _ w18 ⟨k19, rfl, e20, f21, hn22⟩
 obtain ⟨K23, S24, m25⟩ := Ent.mixed (l := [(3, 2)]) (κ := K11) e20 8 rfl
 refine ⟨trivial, ?_⟩
 have f27 := f21.mx (no_own (no_int _) _) m25 rfl (rfl : 8 + 2 = 10)
 refine WO.pn 1 rfl ?_
 refine WO.fin ?_
 refine DN.seq ?_
 refine WC.seq ?_
 refine WC.rs [(0, 2), (1, 2)] rfl ?_
 refine WO.pn 2 rfl ?_
 refine WO.fin ?_
 refine DN.seq ?_
 refine WC.ret ?_
 have f28 := hE.stp (S3.tr (S12.tr S24)) rfl rfl
 have f29 := f15.stp S24 rfl rfl
 refine DN.res (l := [.tmp 4]) Try.results53 (res_tmp rfl rfl) rfl ?_
 obtain rfl := Option.some.inj h
 exact ⟨(fun b => ren [(7, 2), (10, 3)] (K23 b)), rfl, (f28.map (ren [(7, 2), (10, 3)]) rfl rfl), (f29.map (ren [(7, 2), (10, 3)]) rfl rfl), (hn10), (f27.map (ren [(7, 2), (10, 3)]) rfl rfl), (hn22)⟩

end Go.Proofs.Ytgniipbjjkodaaa
