/- The walks, part 2. By program. -/
import Derived.Test.YtnmjfjppgpkieaaSort
import Derived.Test.YtnmjfjppgpkieaaShelf
import Derived.Test.YtnmjfjppgpkieaaFnsE1
set_option linter.unusedVariables false
set_option linter.unusedSimpArgs false
namespace Go.Proofs.Ytnmjfjppgpkieaa
open Go Go.Wk Go.Proofs
set_option maxRecDepth 100000
set_option maxHeartbeats 1000000

/- loop.example/g00869/laws.szArena -/
theorem l_szArena_ok {w : World} {κ : Col} {a0_0 : Option Addr} {u0_0 : Nat} {a0_1 : Option Addr} {u0_1 : Nat} {p0 : Arena} {p1 : Int} (g0_0 : Rd (Rp.int .i64) κ w 0 a0_0 u0_0 p0.Owner) (g0_1 : Rd (Rp.sl (Rp.int .i64)) κ w 0 a0_1 u0_1 p0.Next) {r : Int} (h : l_szArena p0 p1 = some r) : Ret Try.prog 71 [.agg #[.slice a0_0 p0.Owner.length u0_0, .slice a0_1 p0.Next.length u0_1], .int .i64 p1] w (fun v w' => ∃ (κ' : Col), v = .int .i64 r ∧ Ent κ w κ' w') := by
 unfold l_szArena at h
 refine Ret.enter Try.func71 rfl Try.ntmps71 rfl ?_
 dsimp only [envOf]
 have hE := Ent.refl κ w
 refine WC.seq ?_
 refine WC.rs [(0, 1), (1, 2)] rfl ?_
 refine WO.box (κ := κ) 2 rfl rfl rfl rfl rfl rfl rfl fun b2 w1 K2 S3 f4 => ⟨trivial, ?_⟩
 refine WO.pn 1 rfl ?_
 refine WO.fin ?_
 refine DN.seq ?_
 refine WC.seq ?_
 refine WC.rs [(0, 2), (1, 1), (2, 2), (3, 1), (4, 2)] rfl ?_
 refine WO.k2 rfl rfl rfl rfl (rn_fieldAddr Try.runUnderlying66 rfl Try.sizeOf28 rfl rfl) ?_
 refine WO.k1 trivial rfl rfl rfl rfl (rn_ld Try.isAgg28 rfl rfl (hvE (f4.ld 0 rfl rfl))) ?_
 refine WO.pn 1 rfl ?_
 obtain ⟨x8, hx8, h⟩ := Option.bind_eq_some_iff.mp h
 have f5 := g0_0.stp S3 rfl rfl
 refine WO.call rfl rfl rfl rfl rfl rfl Try.call48 (l_szInt64S_ok (κ := fun b => mp [] 0 (K2 b)) (Sl.map f5 (mp [] 0) rfl rfl) hx8) ?_
 rintro _ w6 ⟨k7, rfl, e8⟩
 obtain ⟨K9, S10, m11⟩ := Ent.mixed (l := []) (κ := K2) e8 3 rfl
 refine ⟨trivial, ?_⟩
 refine WO.pn 1 rfl ?_
 refine WO.fin ?_
 refine DN.seq ?_
 refine WC.seq ?_
 refine WC.seq ?_
 refine WC.rs [(0, 2), (1, 2)] rfl ?_
 refine WO.pn 2 rfl ?_
 refine WO.fin ?_
 refine DN.seq ?_
 revert h
 cases ht13 : decide (x8 < 0) with
 | true =>
  intro h; replace h := cT h
  refine WC.ct rfl ?_
  refine WC.seq ?_
  refine WC.rs [(0, 2)] rfl ?_
  refine WO.pn 1 rfl ?_
  refine WO.fin ?_
  refine DN.seq ?_
  refine WC.ret ?_
  refine DN.retThen ?_
  have f14 := hE.stp (S3.tr S10) rfl rfl
  refine DN.res (l := [.tmp 4]) Try.results71 (res_tmp rfl rfl) rfl ?_
  obtain rfl := Option.some.inj h
  exact ⟨K9, rfl, f14⟩
 | false =>
  intro h; replace h := cF h
  refine WC.cf rfl ?_
  refine WC.skip ?_
  refine DN.seq ?_
  refine WC.seq ?_
  refine WC.rs [(0, 2), (1, 1), (2, 2), (3, 1), (4, 2)] rfl ?_
  refine WO.k2 rfl rfl rfl rfl (rn_fieldAddr Try.runUnderlying66 rfl Try.sizeOf24 rfl rfl) ?_
  have f15 := f4.stp S10 rfl rfl
  refine WO.k1 trivial rfl rfl rfl rfl (rn_ld Try.isAgg24 rfl rfl (hvE (f15.ld 1 rfl rfl))) ?_
  refine WO.pn 1 rfl ?_
  obtain ⟨x14, hx14, h⟩ := Option.bind_eq_some_iff.mp h
  have f16 := g0_1.stp (S3.tr S10) rfl rfl
  refine WO.call rfl rfl rfl rfl rfl rfl Try.call46 (l_szInt64SS_ok (κ := fun b => mp [] 0 (K9 b)) (Sl.map f16 (mp [] 0) rfl rfl) hx14) ?_
  rintro _ w17 ⟨k18, rfl, e19⟩
  obtain ⟨K20, S21, m22⟩ := Ent.mixed (l := []) (κ := K9) e19 5 rfl
  refine ⟨trivial, ?_⟩
  refine WO.pn 1 rfl ?_
  refine WO.fin ?_
  refine DN.seq ?_
  refine WC.seq ?_
  refine WC.seq ?_
  refine WC.rs [(0, 2), (1, 2)] rfl ?_
  refine WO.pn 2 rfl ?_
  refine WO.fin ?_
  refine DN.seq ?_
  revert h
  cases ht24 : decide (x14 < 0) with
  | true =>
   intro h; replace h := cT h
   refine WC.ct rfl ?_
   refine WC.seq ?_
   refine WC.rs [(0, 2)] rfl ?_
   refine WO.pn 1 rfl ?_
   refine WO.fin ?_
   refine DN.seq ?_
   refine WC.ret ?_
   refine DN.retThen ?_
   have f25 := hE.stp (S3.tr (S10.tr S21)) rfl rfl
   refine DN.res (l := [.tmp 4]) Try.results71 (res_tmp rfl rfl) rfl ?_
   obtain rfl := Option.some.inj h
   exact ⟨K20, rfl, f25⟩
  | false =>
   intro h; replace h := cF h
   refine WC.cf rfl ?_
   refine WC.skip ?_
   refine DN.seq ?_
   refine WC.seq ?_
   refine WC.rs [(0, 2), (1, 2)] rfl ?_
   refine WO.pn 2 rfl ?_
   refine WO.fin ?_
   refine DN.seq ?_
   refine WC.ret ?_
   have f26 := hE.stp (S3.tr (S10.tr S21)) rfl rfl
   refine DN.res (l := [.tmp 4]) Try.results71 (res_tmp rfl rfl) rfl ?_
   obtain rfl := Option.some.inj h
   exact ⟨K20, rfl, f26⟩

/- loop.example/g00869/laws.toArena -/
theorem l_toArena_ok {w : World} {κ : Col} {a0_0 : Option Addr} {u0_0 : Nat} {a0_1 : Option Addr} {u0_1 : Nat} {p0 : Arena} (g0_0 : Rd (Rp.int .i64) κ w 0 a0_0 u0_0 p0.Owner) (g0_1 : Rd (Rp.sl (Rp.int .i64)) κ w 0 a0_1 u0_1 p0.Next) {r : Arena} (h : l_toArena p0 = some r) : Ret Try.prog 74 [.agg #[.slice a0_0 p0.Owner.length u0_0, .slice a0_1 p0.Next.length u0_1]] w (fun v w' => ∃ (κ' : Col) (ra0 : Option Addr) (ru0 : Nat) (ra1 : Option Addr) (ru1 : Nat), v = .agg #[.slice ra0 r.Owner.length ru0, .slice ra1 r.Next.length ru1] ∧ Ent κ w κ' w' ∧ Oc (Ep.int .i64) 2 κ' w' 2 ra0 ru0 r.Owner ∧ Oc (Ep.own (Ep.int .i64) 2) 28 κ' w' 3 ra1 ru1 r.Next) := by
 unfold l_toArena at h
 refine Ret.enter Try.func74 rfl Try.ntmps74 rfl ?_
 dsimp only [envOf]
 have hE := Ent.refl κ w
 refine WC.seq ?_
 refine WC.rs [(0, 1), (1, 1)] rfl ?_
 refine WO.box (κ := κ) 2 rfl rfl rfl rfl rfl rfl rfl fun b1 w1 K2 S3 f4 => ⟨trivial, ?_⟩
 refine WO.alloc (κ := K2) 3 rfl rfl rfl rfl rfl Try.zeroValue72 rfl fun b2 w5 K6 S7 f8 => ⟨trivial, ?_⟩
 refine WO.fin ?_
 refine DN.seq ?_
 refine WC.seq ?_
 refine WC.rs [(0, 1)] rfl ?_
 refine WO.alloc (κ := K6) 4 rfl rfl rfl rfl rfl Try.zeroValue72 rfl fun b3 w9 K10 S11 f12 => ⟨trivial, ?_⟩
 refine WO.fin ?_
 refine DN.seq ?_
 refine WC.seq ?_
 refine WC.rs [(0, 2), (1, 1), (2, 1), (3, 2), (4, 1)] rfl ?_
 refine WO.k2 rfl rfl rfl rfl (rn_fieldAddr Try.runUnderlying66 rfl Try.sizeOf28 rfl rfl) ?_
 have f13 := f4.stp (S7.tr S11) rfl rfl
 refine WO.k1 trivial rfl rfl rfl rfl (rn_ld Try.isAgg28 rfl rfl (hvE (f13.ld 0 rfl rfl))) ?_
 obtain ⟨x6, hx6, h⟩ := Option.bind_eq_some_iff.mp h
 have f14 := g0_0.stp (S3.tr (S7.tr S11)) rfl rfl
 refine WO.call rfl rfl rfl rfl rfl rfl Try.call53 (l_toInt64S_ok (κ := fun b => mp [] 0 (K10 b)) (Sl.map f14 (mp [] 0) rfl rfl) hx6) ?_
 rintro _ w15 ⟨k16, a6_0, u6_0, rfl, e17, f18⟩
 obtain ⟨K19, S20, m21⟩ := Ent.mixed (l := []) (κ := K10) e17 5 rfl
 refine ⟨trivial, ?_⟩
 have f23 := f18.mx (no_int _) m21 rfl (rfl : 5 + 2 = 7)
 refine WO.k2 rfl rfl rfl rfl (rn_fieldAddr Try.runUnderlying72 rfl Try.sizeOf28 rfl rfl) ?_
 have f24 := f12.stp S20 rfl rfl
 refine WO.stB (κ := K19) 4 (off := 0) (vc := [.slice a6_0 x6.length u6_0]) (cs' := [.slice a6_0 x6.length u6_0, .slice none 0 0]) rfl rfl rfl rfl rfl rfl rfl Try.sizeOf28 rfl rfl f24 rfl rfl fun w25 S26 f27 => ⟨trivial, ?_⟩
 refine WO.fin ?_
 refine DN.seq ?_
 refine WC.seq ?_
 refine WC.rs [(0, 2), (1, 1), (2, 1), (3, 2), (4, 1)] rfl ?_
 refine WO.k2 rfl rfl rfl rfl (rn_fieldAddr Try.runUnderlying66 rfl Try.sizeOf24 rfl rfl) ?_
 have f28 := f13.stp (S20.tr S26) rfl rfl
 refine WO.k1 trivial rfl rfl rfl rfl (rn_ld Try.isAgg24 rfl rfl (hvE (f28.ld 1 rfl rfl))) ?_
 obtain ⟨x10, hx10, h⟩ := Option.bind_eq_some_iff.mp h
 have f29 := g0_1.stp (S3.tr (S7.tr (S11.tr (S20.tr S26)))) rfl rfl
 refine WO.call rfl rfl rfl rfl rfl rfl Try.call51 (l_toInt64SS_ok (κ := fun b => mp [] 0 (K19 b)) (Sl.map f29 (mp [] 0) rfl rfl) hx10) ?_
 rintro _ w30 ⟨k31, a10_0, u10_0, rfl, e32, f33⟩
 obtain ⟨K34, S35, m36⟩ := Ent.mixed (l := []) (κ := K19) e32 8 rfl
 refine ⟨trivial, ?_⟩
 have f38 := f33.mx (no_own (no_int _) _) m36 rfl (rfl : 8 + 2 = 10)
 refine WO.k2 rfl rfl rfl rfl (rn_fieldAddr Try.runUnderlying72 rfl Try.sizeOf24 rfl rfl) ?_
 have f39 := f27.stp S35 rfl rfl
 refine WO.stB (κ := K34) 4 (off := 1) (vc := [.slice a10_0 x10.length u10_0]) (cs' := [.slice a6_0 x6.length u6_0, .slice a10_0 x10.length u10_0]) rfl rfl rfl rfl rfl rfl rfl Try.sizeOf24 rfl rfl f39 rfl rfl fun w40 S41 f42 => ⟨trivial, ?_⟩
 refine WO.fin ?_
 refine DN.seq ?_
 refine WC.seq ?_
 refine WC.rs [(0, 1), (1, 1)] rfl ?_
 refine WO.k1 trivial rfl rfl rfl rfl (rn_la (cs := [.slice a6_0 x6.length u6_0, .slice a10_0 x10.length u10_0]) Try.isAgg72 Try.sizeOf72 rfl rfl rfl (haE f42.cells)) ?_
 have f43 := f8.stp (S11.tr (S20.tr (S26.tr (S35.tr S41)))) rfl rfl
 refine WO.stB0 (κ := K34) 3 (vc := [.slice a6_0 x6.length u6_0, .slice a10_0 x10.length u10_0]) rfl rfl rfl rfl rfl rfl rfl Try.sizeOf72 rfl rfl f43 rfl fun w44 S45 f46 => ⟨trivial, ?_⟩
 refine WO.fin ?_
 refine DN.seq ?_
 refine WC.ret ?_
 have f47 := hE.stp (S3.tr (S7.tr (S11.tr (S20.tr (S26.tr (S35.tr (S41.tr S45))))))) rfl rfl
 have f48 := f23.stp (S26.tr (S35.tr (S41.tr S45))) rfl rfl
 have f49 := f38.stp (S41.tr S45) rfl rfl
 refine DN.res (l := [.cell 2 72]) Try.results74 (res_cellA rfl f46 Try.isAgg72 Try.sizeOf72 rfl rfl) rfl ?_
 obtain rfl := Option.some.inj h
 exact ⟨(fun b => ren [(7, 2), (10, 3)] (K34 b)), a6_0, u6_0, a10_0, u10_0, rfl, (f47.map (ren [(7, 2), (10, 3)]) rfl rfl), (f48.map (ren [(7, 2), (10, 3)]) rfl rfl), (f49.map (ren [(7, 2), (10, 3)]) rfl rfl)⟩

/- loop.example/g00869/spec.l1Set -/
theorem s_l1Set_ok {w : World} {κ : Col} {a0 : Option Addr} {u0 : Nat} {p0 : (List Int)} {p1 : Int} (g0 : Rd (Rp.int .i64) κ w 0 a0 u0 p0) {r : Bool} (h : s_l1Set p0 p1 = some r) : Ret Try.prog 136 [.slice a0 p0.length u0, .int .i64 p1] w (fun v w' => ∃ (κ' : Col), v = .bool r ∧ Ent κ w κ' w') := by
 unfold s_l1Set at h
 refine Ret.enter Try.func136 rfl Try.ntmps136 rfl ?_
 dsimp only [envOf]
 have hE := Ent.refl κ w
 refine WC.seq ?_
 refine WC.rs [(0, 2)] rfl ?_
 refine WO.pn 1 rfl ?_
 refine WO.fin ?_
 refine DN.seq ?_
 refine WC.seq ?_
 refine WC.rs [(0, 2), (1, 2), (2, 2), (3, 2), (4, 2), (5, 2), (6, 2), (7, 1), (8, 2), (9, 2)] rfl ?_
 refine WO.pn 1 rfl ?_
 refine WO.k2 rfl rfl rfl rfl (rn_len Try.runUnderlying28 rfl rfl) ?_
 refine WO.pn 3 rfl ?_
 obtain ⟨p13, h, hK1⟩ := Option.bind_eq_some_iff.mp h
 refine WO.meet [(5, 2), (6, 2), (7, 1), (8, 2)] [(9, 2)] (fun L w' => L = [(4, .bool false), (13, .bool p13)] ∧ ∃ κ', Stp [] κ w κ' w') trivial ?_ ?_
 ·
  revert h
  cases ht2 : decide ((p0.length : Int) ≤ p1) with
  | true =>
   intro h; replace h := cT h
   refine WO.pn 2 rfl ?_
   obtain ⟨x12, hx12, h⟩ := Option.bind_eq_some_iff.mp h
   refine WO.call rfl rfl rfl rfl rfl rfl Try.call155 (s_l1Rises_ok (κ := fun b => mp [] 0 (κ b)) (Sl.map g0 (mp [] 0) rfl rfl) hx12) ?_
   rintro _ w3 ⟨k4, rfl, e5⟩
   obtain ⟨K6, S7, m8⟩ := Ent.mixed (l := []) (κ := κ) e5 2 rfl
   refine ⟨trivial, ?_⟩
   refine WO.pn 1 rfl ?_
   obtain rfl := Option.some.inj h
   exact WO.met _ trivial ⟨rfl, _, S7.wk rfl⟩ fun a ha => (ha.more (ha.more ha.nil rfl) rfl)
  | false =>
   intro h; replace h := cF h
   refine WO.pn 2 rfl ?_
   refine WO.ls rfl rfl rfl rfl ?_
   refine WO.pn 1 rfl ?_
   obtain rfl := Option.some.inj h
   exact WO.met _ trivial ⟨rfl, _, (Stp.refl _ _).wk rfl⟩ fun a ha => (ha.more (ha.more ha.nil rfl) rfl)
 rintro _ w10 _ ⟨rfl, K11, S12⟩
 have h := hK1
 refine WO.pn 1 rfl ?_
 refine WO.fin ?_
 refine DN.seq ?_
 refine WC.ret ?_
 have f13 := hE.stp S12 rfl rfl
 refine DN.res (l := [.tmp 4]) Try.results136 (res_tmp rfl rfl) rfl ?_
 obtain rfl := Option.some.inj h
 exact ⟨K11, rfl, f13⟩

/- loop.example/g00869/spec.l4Copy -/
theorem s_l4Copy_ok {w : World} {κ : Col} {a0_0_0 : Option Addr} {u0_0_0 : Nat} {a0_0_1 : Option Addr} {u0_0_1 : Nat} {a0_1 : Option Addr} {u0_1 : Nat} {p0 : Parity} (g0_0_0 : Rd (Rp.int .i64) κ w 0 a0_0_0 u0_0_0 p0.Arena.Owner) (g0_0_1 : Rd (Rp.sl (Rp.int .i64)) κ w 0 a0_0_1 u0_0_1 p0.Arena.Next) (g0_1 : Rd (Rp.int .i64) κ w 0 a0_1 u0_1 p0.Prio) {r : Parity} (h : s_l4Copy p0 = some r) : Ret Try.prog 82 [.agg #[.slice a0_0_0 p0.Arena.Owner.length u0_0_0, .slice a0_0_1 p0.Arena.Next.length u0_0_1, .slice a0_1 p0.Prio.length u0_1]] w (fun v w' => ∃ (κ' : Col) (ra0 : Option Addr) (ru0 : Nat) (ra1 : Option Addr) (ru1 : Nat) (ra2 : Option Addr) (ru2 : Nat), v = .agg #[.slice ra0 r.Arena.Owner.length ru0, .slice ra1 r.Arena.Next.length ru1, .slice ra2 r.Prio.length ru2] ∧ Ent κ w κ' w' ∧ Oc (Ep.int .i64) 2 κ' w' 2 ra0 ru0 r.Arena.Owner ∧ Oc (Ep.fz (Rp.sl (Rp.int .i64))) 28 κ' w' 3 ra1 ru1 r.Arena.Next ∧ Oc (Ep.int .i64) 2 κ' w' 4 ra2 ru2 r.Prio) := by
 unfold s_l4Copy at h
 refine Ret.enter Try.func82 rfl Try.ntmps82 rfl ?_
 dsimp only [envOf]
 have hE := Ent.refl κ w
 refine WC.seq ?_
 refine WC.rs [(0, 1), (1, 1)] rfl ?_
 refine WO.box (κ := κ) 2 rfl rfl rfl rfl rfl rfl rfl fun b1 w1 K2 S3 f4 => ⟨trivial, ?_⟩
 refine WO.alloc (κ := K2) 3 rfl rfl rfl rfl rfl Try.zeroValue74 rfl fun b2 w5 K6 S7 f8 => ⟨trivial, ?_⟩
 refine WO.fin ?_
 refine DN.seq ?_
 refine WC.seq ?_
 refine WC.rx (κ := K6) [2] none [(0, 2), (3, 2), (1, 0), (4, 0), (2, 1), (5, 1), (6, 2), (7, 1)] [] (by kernel_rfl) (by kernel_rfl) fun w10 S9 => ?_
 refine WO.k2 rfl rfl rfl rfl (rn_fieldAddr Try.runUnderlying74 rfl Try.sizeOf72 rfl rfl) ?_
 refine WO.k2 rfl rfl rfl rfl (rn_fieldAddr Try.runUnderlying74 rfl Try.sizeOf28 rfl rfl) ?_
 have f11 := f4.stp (S7.tr S9) rfl rfl
 refine WO.k0 rfl rfl rfl rfl (rn_la (cs := [.slice a0_0_0 p0.Arena.Owner.length u0_0_0, .slice a0_0_1 p0.Arena.Next.length u0_0_1]) Try.isAgg72 Try.sizeOf72 rfl rfl rfl (haC (f11.lds 0 2 rfl) rfl)) ?_
 refine WO.k0 rfl rfl rfl rfl (rn_ld Try.isAgg28 rfl rfl (hvC (f11.ld 2 rfl rfl) rfl)) ?_
 obtain ⟨x5, hx5, h⟩ := Option.bind_eq_some_iff.mp h
 have f12 := g0_0_0.stp (S3.tr (S7.tr S9)) rfl rfl
 have f13 := g0_0_1.stp (S3.tr (S7.tr S9)) rfl rfl
 refine WO.call rfl rfl rfl rfl rfl rfl Try.call117 (s_l1CopyArena_ok (κ := fun b => mp [] 1 (K6 b)) (p0 := p0.Arena) (Sl.map f12 (mp [] 1) rfl rfl) (Sl.map f13 (mp [] 1) rfl rfl) hx5) ?_
 rintro _ w14 ⟨k15, a5_0, u5_0, a5_1, u5_1, rfl, e16, f17, f18⟩
 obtain ⟨K19, S20, m21, z22⟩ := Ent.mixed0 (l := []) (κ := K6) e16 4 rfl
 refine ⟨(S20.cl rfl), ?_⟩
 have f23 := f17.mx (no_int _) m21 rfl (rfl : 4 + 2 = 6)
 have f24 := f18.mxz z22 m21 rfl (rfl : 4 + 3 = 7)
 obtain ⟨x8, hx8, h⟩ := Option.bind_eq_some_iff.mp h
 have f25 := g0_1.stp (S3.tr (S7.tr (S9.tr S20))) rfl rfl
 refine WO.call rfl rfl rfl rfl rfl rfl Try.call118 (s_l1Copy_ok (κ := fun b => mp [] 0 (K19 b)) (Sl.map f25 (mp [] 0) rfl rfl) hx8) ?_
 rintro _ w26 ⟨k27, a8_0, u8_0, rfl, e28, f29⟩
 obtain ⟨K30, S31, m32⟩ := Ent.mixed (l := []) (κ := K19) e28 8 rfl
 refine ⟨((S20.tr S31).cl rfl), ?_⟩
 have f34 := f29.mx (no_int _) m32 rfl (rfl : 8 + 2 = 10)
 refine WO.k2 rfl rfl rfl rfl (rn_build (parts := [(0, .tmp 5), (1, .tmp 8)]) (cells := [.slice a5_0 x5.Owner.length u5_0, .slice a5_1 x5.Next.length u5_1, .slice a8_0 x8.length u8_0]) rfl rfl (by kernel_rfl)) ?_
 have f35 := f8.stp (S9.tr (S20.tr S31)) rfl rfl
 refine WO.stB0 (κ := K30) 3 (vc := [.slice a5_0 x5.Owner.length u5_0, .slice a5_1 x5.Next.length u5_1, .slice a8_0 x8.length u8_0]) rfl rfl rfl rfl rfl rfl rfl Try.sizeOf74 rfl rfl f35 rfl fun w36 S37 f38 => ⟨((S20.tr (S31.tr S37)).cl rfl), ?_⟩
 refine WO.nx ?_
 refine WO.fin ?_
 refine DN.seq ?_
 refine WC.ret ?_
 have f39 := hE.stp (S3.tr (S7.tr (S9.tr (S20.tr (S31.tr S37))))) rfl rfl
 have f40 := f23.stp (S31.tr S37) rfl rfl
 have f41 := f24.stp (S31.tr S37) rfl rfl
 have f42 := f34.stp S37 rfl rfl
 refine DN.res (l := [.cell 2 74]) Try.results82 (res_cellA rfl f38 Try.isAgg74 Try.sizeOf74 rfl rfl) rfl ?_
 obtain rfl := Option.some.inj h
 exact ⟨(fun b => ren [(6, 2), (7, 3), (10, 4)] (K30 b)), a5_0, u5_0, a5_1, u5_1, a8_0, u8_0, rfl, (f39.map (ren [(6, 2), (7, 3), (10, 4)]) rfl rfl), (f40.map (ren [(6, 2), (7, 3), (10, 4)]) rfl rfl), (f41.map (ren [(6, 2), (7, 3), (10, 4)]) rfl rfl), (f42.map (ren [(6, 2), (7, 3), (10, 4)]) rfl rfl)⟩

/- loop.example/g00869/impl.ParityOk -/
theorem i_ParityOk_ok {w : World} {κ : Col} {a0_0_0 : Option Addr} {u0_0_0 : Nat} {a0_0_1 : Option Addr} {u0_0_1 : Nat} {a0_1 : Option Addr} {u0_1 : Nat} {p0 : Parity} (g0_0_0 : Rd (Rp.int .i64) κ w 0 a0_0_0 u0_0_0 p0.Arena.Owner) (g0_0_1 : Rd (Rp.sl (Rp.int .i64)) κ w 0 a0_0_1 u0_0_1 p0.Arena.Next) (g0_1 : Rd (Rp.int .i64) κ w 0 a0_1 u0_1 p0.Prio) {r : Bool} (h : i_ParityOk p0 = some r) : Ret Try.prog 75 [.agg #[.slice a0_0_0 p0.Arena.Owner.length u0_0_0, .slice a0_0_1 p0.Arena.Next.length u0_0_1, .slice a0_1 p0.Prio.length u0_1]] w (fun v w' => ∃ (κ' : Col), v = .bool r ∧ Ent κ w κ' w') := by
 unfold i_ParityOk at h
 refine Ret.enter Try.func75 rfl Try.ntmps75 rfl ?_
 dsimp only [envOf]
 have hE := Ent.refl κ w
 refine WC.seq ?_
 refine WC.rs [(0, 1), (1, 2)] rfl ?_
 refine WO.box (κ := κ) 2 rfl rfl rfl rfl rfl rfl rfl fun b1 w1 K2 S3 f4 => ⟨trivial, ?_⟩
 refine WO.pn 1 rfl ?_
 refine WO.fin ?_
 refine DN.seq ?_
 refine WC.seq ?_
 refine WC.seq ?_
 refine WC.rs [(0, 2), (1, 1), (2, 1), (3, 2), (4, 2), (5, 2), (6, 1), (7, 2), (8, 2), (9, 2), (10, 1), (11, 2), (12, 2), (13, 2)] rfl ?_
 refine WO.k2 rfl rfl rfl rfl (rn_fieldAddr Try.runUnderlying74 rfl Try.sizeOf72 rfl rfl) ?_
 refine WO.k1 trivial rfl rfl rfl rfl (rn_la (cs := [.slice a0_0_0 p0.Arena.Owner.length u0_0_0, .slice a0_0_1 p0.Arena.Next.length u0_0_1]) Try.isAgg72 Try.sizeOf72 rfl rfl rfl (haE (f4.lds 0 2 rfl))) ?_
 obtain ⟨x7, hx7, h⟩ := Option.bind_eq_some_iff.mp h
 have f5 := g0_0_0.stp S3 rfl rfl
 have f6 := g0_0_1.stp S3 rfl rfl
 refine WO.call rfl rfl rfl rfl rfl rfl Try.call111 (i_ArenaOk_ok (κ := fun b => mp [] 0 (K2 b)) (p0 := p0.Arena) (Sl.map f5 (mp [] 0) rfl rfl) (Sl.map f6 (mp [] 0) rfl rfl) hx7) ?_
 rintro _ w7 ⟨k8, rfl, e9⟩
 obtain ⟨K10, S11, m12⟩ := Ent.mixed (l := []) (κ := K2) e9 3 rfl
 refine ⟨trivial, ?_⟩
 refine WO.pn 2 rfl ?_
 obtain ⟨p18, h, hK14⟩ := Option.bind_eq_some_iff.mp h
 refine WO.meet [(5, 2), (6, 1), (7, 2), (8, 2), (9, 2), (10, 1), (11, 2), (12, 2), (13, 2)] [] (fun L w' => L = [(1, .pointer (some ⟨b1, 0, none⟩)), (18, .bool p18)] ∧ ∃ κ', Stp [] K10 w7 κ' w') trivial ?_ ?_
 ·
  revert h
  cases ht15 : (!x7) with
  | true =>
   intro h; replace h := cT h
   refine WO.pn 1 rfl ?_
   refine WO.ls rfl rfl rfl rfl ?_
   refine WO.pn 3 rfl ?_
   refine WO.ls rfl rfl rfl rfl ?_
   refine WO.pn 3 rfl ?_
   obtain rfl := Option.some.inj h
   exact WO.met _ trivial ⟨rfl, _, (Stp.refl _ _).wk rfl⟩ fun a ha => (ha.more (ha.more ha.nil rfl) rfl)
  | false =>
   intro h; replace h := cF h
   refine WO.k2 rfl rfl rfl rfl (rn_fieldAddr Try.runUnderlying74 rfl Try.sizeOf28 rfl rfl) ?_
   have f16 := f4.stp S11 rfl rfl
   refine WO.k1 trivial rfl rfl rfl rfl (rn_ld Try.isAgg28 rfl rfl (hvE (f16.ld 2 rfl rfl))) ?_
   refine WO.k2 rfl rfl rfl rfl (rn_len Try.runUnderlying28 rfl rfl) ?_
   refine WO.k2 rfl rfl rfl rfl (rn_fieldAddr Try.runUnderlying74 rfl Try.sizeOf72 rfl rfl) ?_
   refine WO.k2 rfl rfl rfl rfl (rn_fieldAddr Try.runUnderlying72 rfl Try.sizeOf28 rfl rfl) ?_
   refine WO.k1 trivial rfl rfl rfl rfl (rn_ld Try.isAgg28 rfl rfl (hvE (f16.ld 0 rfl rfl))) ?_
   refine WO.k2 rfl rfl rfl rfl (rn_len Try.runUnderlying28 rfl rfl) ?_
   refine WO.pn 2 rfl ?_
   obtain rfl := Option.some.inj h
   exact WO.met _ trivial ⟨rfl, _, (Stp.refl _ _).wk rfl⟩ fun a ha => (ha.more (ha.more ha.nil rfl) rfl)
 rintro _ w17 _ ⟨rfl, K18, S19⟩
 have h := hK14
 refine WO.fin ?_
 refine DN.seq ?_
 revert h
 cases ht20 : p18 with
 | true =>
  intro h; replace h := cT h
  refine WC.ct rfl ?_
  refine WC.seq ?_
  refine WC.rs [(0, 2)] rfl ?_
  refine WO.pn 1 rfl ?_
  refine WO.fin ?_
  refine DN.seq ?_
  refine WC.ret ?_
  refine DN.retThen ?_
  have f21 := hE.stp (S3.tr (S11.tr S19)) rfl rfl
  refine DN.res (l := [.tmp 2]) Try.results75 (res_tmp rfl rfl) rfl ?_
  obtain rfl := Option.some.inj h
  exact ⟨K18, rfl, f21⟩
 | false =>
  intro h; replace h := cF h
  refine WC.cf rfl ?_
  refine WC.skip ?_
  refine DN.seq ?_
  refine WC.seq ?_
  refine WC.seq ?_
  refine WC.rs [(0, 2), (1, 1), (2, 2), (3, 2)] rfl ?_
  refine WO.k2 rfl rfl rfl rfl (rn_fieldAddr Try.runUnderlying74 rfl Try.sizeOf28 rfl rfl) ?_
  have f22 := f4.stp (S11.tr S19) rfl rfl
  refine WO.k1 trivial rfl rfl rfl rfl (rn_ld Try.isAgg28 rfl rfl (hvE (f22.ld 2 rfl rfl))) ?_
  refine WO.k2 rfl rfl rfl rfl (rn_len Try.runUnderlying28 rfl rfl) ?_
  refine WO.pn 1 rfl ?_
  refine WO.fin ?_
  refine DN.seq ?_
  have hN23 : (p0.Prio.length : Int) ≤ 9223372036854775807 := g0_1.len_le
  obtain ⟨q2, hq25, hK24⟩ := Option.bind_eq_some_iff.mp h
  clear h
  refine WC.meet (fun L w' => ∃ (κ' : Col), L = [] ∧ Stp [] K18 w17 κ' w' ∧ q2 = Sum.inr ()) ?_ ?_
  ·
   refine WC.block ?_
   refine WC.loop (fun k L w' => ∃ (κ' : Col) (v22 : Int), L = [(20, .slice a0_1 p0.Prio.length u0_1), (21, .int .i64 (p0.Prio.length : Int)), (22, .int .i64 v22)] ∧ Stp [] K18 w17 κ' w' ∧ 0 ≤ v22 ∧ Int.toNat ((p0.Prio.length : Int) - v22) = k ∧ cntM (i_ParityOk_b0 p0) k v22 () = some q2) ⟨_, _, ⟨K18, 0, rfl, (Stp.refl _ _).wk rfl, (by decide), (by simp), hq25⟩, fun a ha => (ha.more (ha.more (ha.more ha.nil rfl) rfl) rfl)⟩ ?_
   rintro k _ w29 ⟨K30, v22, rfl, S31, hj23, hJ23, h⟩
   rcases k with _ | k
   ·
    have hk32 := h; obtain ⟨o23, h⟩ := ex_eq (Sum.inr (Sum.inl ()) : Bool ⊕ ((Unit) ⊕ (Unit)))
    have hc23 : decide (v22 < (p0.Prio.length : Int)) = false := decide_eq_false (by omega)
    refine WC.seq ?_
    refine WC.rs [(0, 2)] rfl ?_
    refine WO.pn 1 rfl ?_
    refine WO.fin ?_
    refine DN.seq ?_
    refine WC.seq ?_
    refine WC.cf' rfl hc23 ?_
    refine WC.exit ?_
    refine DN.exitThen ?_
    refine DN.exitThen ?_
    obtain rfl := Option.some.inj h
    have h := hk32
    refine DN.hit ?_
    obtain rfl := Option.some.inj h
    exact DN.meet _ ⟨K30, rfl, S31.wk rfl, rfl⟩ fun a ha => ha.nil
   ·
    obtain ⟨o23, h, hk32⟩ := Option.bind_eq_some_iff.mp h; unfold i_ParityOk_b0 at h
    have hc23 : decide (v22 < (p0.Prio.length : Int)) = true := decide_eq_true (by omega)
    refine WC.seq ?_
    refine WC.rs [(0, 2)] rfl ?_
    refine WO.pn 1 rfl ?_
    refine WO.fin ?_
    refine DN.seq ?_
    refine WC.seq ?_
    refine WC.ct' rfl hc23 ?_
    refine WC.skip ?_
    refine DN.seq ?_
    refine WC.seq ?_
    refine WC.block ?_
    refine WC.seq ?_
    refine WC.rs [(0, 2), (1, 1), (2, 2)] rfl ?_
    obtain ⟨x24, hx24, h⟩ := Option.bind_eq_some_iff.mp h
    refine WO.k2 rfl rfl rfl rfl (rn_index g0_1 hx24 Try.runUnderlying28 Try.sizeOf2 rfl rfl rfl rfl) ?_
    have f33 := g0_1.stp (S3.tr (S11.tr (S19.tr S31))) rfl rfl
    refine WO.k1 trivial rfl rfl rfl rfl (rn_ld Try.isAgg2 rfl rfl (hvE (f33.gInt hx24))) ?_
    refine WO.pn 1 rfl ?_
    refine WO.fin ?_
    refine DN.seq ?_
    refine WC.seq ?_
    refine WC.rs [(0, 2), (1, 2), (2, 2), (3, 2), (4, 2), (5, 2)] rfl ?_
    refine WO.pn 3 rfl ?_
    obtain ⟨p31, h, hK34⟩ := Option.bind_eq_some_iff.mp h
    refine WO.meet [(3, 2), (4, 2), (5, 2)] [] (fun L w' => L = [(20, .slice a0_1 p0.Prio.length u0_1), (21, .int .i64 (p0.Prio.length : Int)), (22, .int .i64 v22), (31, .bool p31)] ∧ ∃ κ', Stp [] K30 w29 κ' w') trivial ?_ ?_
    ·
     revert h
     cases ht35 : decide (x24 < 0) with
     | true =>
      intro h; replace h := cT h
      refine WO.pn 3 rfl ?_
      obtain rfl := Option.some.inj h
      exact WO.met _ trivial ⟨rfl, _, (Stp.refl _ _).wk rfl⟩ fun a ha => (ha.more (ha.more (ha.more (ha.more ha.nil rfl) rfl) rfl) rfl)
     | false =>
      intro h; replace h := cF h
      refine WO.pn 3 rfl ?_
      obtain rfl := Option.some.inj h
      exact WO.met _ trivial ⟨rfl, _, (Stp.refl _ _).wk rfl⟩ fun a ha => (ha.more (ha.more (ha.more (ha.more ha.nil rfl) rfl) rfl) rfl)
    rintro _ w36 _ ⟨rfl, K37, S38⟩
    have h := hK34
    refine WO.fin ?_
    refine DN.seq ?_
    revert h
    cases ht39 : p31 with
    | true =>
     intro h; replace h := cT h
     refine WC.ct rfl ?_
     refine WC.seq ?_
     refine WC.rs [(0, 2)] rfl ?_
     refine WO.pn 1 rfl ?_
     refine WO.fin ?_
     refine DN.seq ?_
     refine WC.ret ?_
     refine DN.retBlock ?_
     refine DN.retThen ?_
     refine DN.retThen ?_
     obtain rfl := Option.some.inj h
     obtain rfl := Option.some.inj hk32
     have h := hK24
     dsimp only [aft] at h
     refine DN.retBlock ?_
     refine DN.retMeet ?_
     refine DN.retThen ?_
     have f40 := hE.stp (S3.tr (S11.tr (S19.tr (S31.tr S38)))) rfl rfl
     refine DN.res (l := [.tmp 2]) Try.results75 (res_tmp rfl rfl) rfl ?_
     obtain rfl := Option.some.inj h
     exact ⟨K37, rfl, f40⟩
    | false =>
     intro h; replace h := cF h
     refine WC.cf rfl ?_
     refine WC.skip ?_
     refine DN.block ?_
     refine DN.seq ?_
     refine WC.rs [(0, 2), (1, 2)] rfl ?_
     refine WO.pn 2 rfl ?_
     refine WO.fin ?_
     have hw23 : IntKind.wrap .i64 (v22 + 1) = v22 + 1 := wr1 hj23 (of_decide_eq_true hc23) hN23
     rw [hw23]
     have hc23 := of_decide_eq_true hc23
     obtain rfl := Option.some.inj h
     refine DN.round fun a ha => ?_
     exact ⟨k, _, Nat.lt_succ_self _, ⟨K37, v22 + 1, rfl, (S31.tr S38).wk rfl, by omega, by omega, hk32⟩, (ha.more (ha.more (ha.more ha.nil rfl) rfl) rfl)⟩
  rintro _ w26 ⟨K27, rfl, S28, rfl⟩
  have h := hK24
  dsimp only [aft] at h
  refine DN.seq ?_
  refine WC.seq ?_
  refine WC.rs [(0, 2)] rfl ?_
  refine WO.pn 1 rfl ?_
  refine WO.fin ?_
  refine DN.seq ?_
  refine WC.ret ?_
  have f41 := hE.stp (S3.tr (S11.tr (S19.tr S28))) rfl rfl
  refine DN.res (l := [.tmp 2]) Try.results75 (res_tmp rfl rfl) rfl ?_
  obtain rfl := Option.some.inj h
  exact ⟨K27, rfl, f41⟩

/- loop.example/g00869/impl.isEdit -/
theorem i_isEdit_ok {w : World} {κ : Col} {a0_0_0 : Option Addr} {u0_0_0 : Nat} {a0_0_1 : Option Addr} {u0_0_1 : Nat} {a0_1 : Option Addr} {u0_1 : Nat} {p0 : Parity} {p1 : Edit} (g0_0_0 : Rd (Rp.int .i64) κ w 0 a0_0_0 u0_0_0 p0.Arena.Owner) (g0_0_1 : Rd (Rp.sl (Rp.int .i64)) κ w 0 a0_0_1 u0_0_1 p0.Arena.Next) (g0_1 : Rd (Rp.int .i64) κ w 0 a0_1 u0_1 p0.Prio) {r : Bool} (h : i_isEdit p0 p1 = some r) : Ret Try.prog 76 [.agg #[.slice a0_0_0 p0.Arena.Owner.length u0_0_0, .slice a0_0_1 p0.Arena.Next.length u0_0_1, .slice a0_1 p0.Prio.length u0_1], .agg #[.int .i64 p1.Kind, .int .i64 p1.V, .int .i64 p1.N]] w (fun v w' => ∃ (κ' : Col), v = .bool r ∧ Ent κ w κ' w') := by
 unfold i_isEdit at h
 refine Ret.enter Try.func76 rfl Try.ntmps76 rfl ?_
 dsimp only [envOf]
 have hE := Ent.refl κ w
 refine WC.seq ?_
 refine WC.rs [(0, 1), (1, 1), (2, 2)] rfl ?_
 refine WO.box (κ := κ) 2 rfl rfl rfl rfl rfl rfl rfl fun b2 w1 K2 S3 f4 => ⟨trivial, ?_⟩
 refine WO.box (κ := K2) 3 rfl rfl rfl rfl rfl rfl rfl fun b3 w5 K6 S7 f8 => ⟨trivial, ?_⟩
 refine WO.pn 1 rfl ?_
 refine WO.fin ?_
 refine DN.seq ?_
 refine WC.seq ?_
 refine WC.seq ?_
 refine WC.rs [(0, 2), (1, 1), (2, 2), (3, 1), (4, 1), (5, 2)] rfl ?_
 refine WO.k2 rfl rfl rfl rfl (rn_fieldAddr Try.runUnderlying74 rfl Try.sizeOf72 rfl rfl) ?_
 have f9 := f4.stp S7 rfl rfl
 refine WO.k1 trivial rfl rfl rfl rfl (rn_la (cs := [.slice a0_0_0 p0.Arena.Owner.length u0_0_0, .slice a0_0_1 p0.Arena.Next.length u0_0_1]) Try.isAgg72 Try.sizeOf72 rfl rfl rfl (haE (f9.lds 0 2 rfl))) ?_
 refine WO.k2 rfl rfl rfl rfl (rn_fieldAddr Try.runUnderlying78 rfl Try.sizeOf2 rfl rfl) ?_
 refine WO.k1 trivial rfl rfl rfl rfl (rn_ld Try.isAgg2 rfl rfl (hvE (f8.ld 1 rfl rfl))) ?_
 obtain ⟨x10, hx10, h⟩ := Option.bind_eq_some_iff.mp h
 have f10 := g0_0_0.stp (S3.tr S7) rfl rfl
 have f11 := g0_0_1.stp (S3.tr S7) rfl rfl
 refine WO.call rfl rfl rfl rfl rfl rfl Try.call112 (i_hasVertex_ok (κ := fun b => mp [] 0 (K6 b)) (p0 := p0.Arena) (Sl.map f10 (mp [] 0) rfl rfl) (Sl.map f11 (mp [] 0) rfl rfl) hx10) ?_
 rintro _ w12 ⟨k13, rfl, e14⟩
 obtain ⟨K15, S16, m17⟩ := Ent.mixed (l := []) (κ := K6) e14 4 rfl
 refine ⟨trivial, ?_⟩
 refine WO.pn 1 rfl ?_
 refine WO.fin ?_
 refine DN.seq ?_
 revert h
 cases ht19 : (!x10) with
 | true =>
  intro h; replace h := cT h
  refine WC.ct rfl ?_
  refine WC.seq ?_
  refine WC.rs [(0, 2)] rfl ?_
  refine WO.pn 1 rfl ?_
  refine WO.fin ?_
  refine DN.seq ?_
  refine WC.ret ?_
  refine DN.retThen ?_
  have f20 := hE.stp (S3.tr (S7.tr S16)) rfl rfl
  refine DN.res (l := [.tmp 4]) Try.results76 (res_tmp rfl rfl) rfl ?_
  obtain rfl := Option.some.inj h
  exact ⟨K15, rfl, f20⟩
 | false =>
  intro h; replace h := cF h
  refine WC.cf rfl ?_
  refine WC.skip ?_
  refine DN.seq ?_
  refine WC.seq ?_
  refine WC.rs [(0, 2), (1, 2), (2, 1), (3, 2), (4, 1), (5, 2), (6, 1), (7, 2)] rfl ?_
  refine WO.k2 rfl rfl rfl rfl (rn_fieldAddr Try.runUnderlying74 rfl Try.sizeOf72 rfl rfl) ?_
  refine WO.k2 rfl rfl rfl rfl (rn_fieldAddr Try.runUnderlying72 rfl Try.sizeOf24 rfl rfl) ?_
  have f21 := f9.stp S16 rfl rfl
  refine WO.k1 trivial rfl rfl rfl rfl (rn_ld Try.isAgg24 rfl rfl (hvE (f21.ld 1 rfl rfl))) ?_
  refine WO.k2 rfl rfl rfl rfl (rn_fieldAddr Try.runUnderlying78 rfl Try.sizeOf2 rfl rfl) ?_
  have f22 := f8.stp S16 rfl rfl
  refine WO.k1 trivial rfl rfl rfl rfl (rn_ld Try.isAgg2 rfl rfl (hvE (f22.ld 1 rfl rfl))) ?_
  obtain ⟨x17, hx17, h⟩ := Option.bind_eq_some_iff.mp h
  refine WO.k2 rfl rfl rfl rfl (rn_index f11 hx17 Try.runUnderlying24 Try.sizeOf28 rfl rfl rfl rfl) ?_
  have f23 := f11.stp S16 rfl rfl
  obtain ⟨ax17, ux17, f24, hl25⟩ := f23.gSl hx17
  refine WO.k1 trivial rfl rfl rfl rfl (rn_ld Try.isAgg28 rfl rfl (hvE hl25)) ?_
  refine WO.pn 1 rfl ?_
  refine WO.fin ?_
  refine DN.seq ?_
  refine WC.seq ?_
  refine WC.seq ?_
  refine WC.rs [(0, 2), (1, 1)] rfl ?_
  refine WO.k2 rfl rfl rfl rfl (rn_fieldAddr Try.runUnderlying78 rfl Try.sizeOf2 rfl rfl) ?_
  refine WO.k1 trivial rfl rfl rfl rfl (rn_ld Try.isAgg2 rfl rfl (hvE (f22.ld 0 rfl rfl))) ?_
  refine WO.fin ?_
  refine DN.seq ?_
  refine WC.block ?_
  refine WC.seq ?_
  refine WC.rs [(0, 2), (1, 2)] rfl ?_
  refine WO.pn 2 rfl ?_
  refine WO.fin ?_
  refine DN.seq ?_
  revert h
  cases ht26 : (p1.Kind == 1) with
  | true =>
   intro h; replace h := cT h
   refine WC.ct rfl ?_
   refine WC.seq ?_
   refine WC.rs [(0, 2), (1, 1), (2, 2), (3, 2), (4, 2), (5, 1), (6, 2), (7, 2), (8, 2)] rfl ?_
   refine WO.k2 rfl rfl rfl rfl (rn_fieldAddr Try.runUnderlying78 rfl Try.sizeOf2 rfl rfl) ?_
   refine WO.k1 trivial rfl rfl rfl rfl (rn_ld Try.isAgg2 rfl rfl (hvE (f22.ld 2 rfl rfl))) ?_
   refine WO.pn 2 rfl ?_
   obtain ⟨p30, h, hK27⟩ := Option.bind_eq_some_iff.mp h
   refine WO.meet [(4, 2), (5, 1), (6, 2), (7, 2)] [(8, 2)] (fun L w' => L = [(4, .bool false), (30, .bool p30)] ∧ ∃ κ', Stp [] K15 w12 κ' w') trivial ?_ ?_
   ·
    revert h
    cases ht28 : decide (0 ≤ p1.N) with
    | true =>
     intro h; replace h := cT h
     refine WO.k2 rfl rfl rfl rfl (rn_fieldAddr Try.runUnderlying78 rfl Try.sizeOf2 rfl rfl) ?_
     refine WO.k1 trivial rfl rfl rfl rfl (rn_ld Try.isAgg2 rfl rfl (hvE (f22.ld 2 rfl rfl))) ?_
     refine WO.pn 2 rfl ?_
     obtain rfl := Option.some.inj h
     exact WO.met _ trivial ⟨rfl, _, (Stp.refl _ _).wk rfl⟩ fun a ha => (ha.more (ha.more ha.nil rfl) rfl)
    | false =>
     intro h; replace h := cF h
     refine WO.pn 1 rfl ?_
     refine WO.ls rfl rfl rfl rfl ?_
     refine WO.pn 2 rfl ?_
     obtain rfl := Option.some.inj h
     exact WO.met _ trivial ⟨rfl, _, (Stp.refl _ _).wk rfl⟩ fun a ha => (ha.more (ha.more ha.nil rfl) rfl)
   rintro _ w29 _ ⟨rfl, K30, S31⟩
   have h := hK27
   refine WO.pn 1 rfl ?_
   refine WO.fin ?_
   refine DN.seq ?_
   refine WC.ret ?_
   refine DN.retBlock ?_
   refine DN.retThen ?_
   have f32 := hE.stp (S3.tr (S7.tr (S16.tr S31))) rfl rfl
   refine DN.res (l := [.tmp 4]) Try.results76 (res_tmp rfl rfl) rfl ?_
   obtain rfl := Option.some.inj h
   exact ⟨K30, rfl, f32⟩
  | false =>
   intro h; replace h := cF h
   refine WC.cf rfl ?_
   refine WC.seq ?_
   refine WC.rs [(0, 2), (1, 2)] rfl ?_
   refine WO.pn 2 rfl ?_
   refine WO.fin ?_
   refine DN.seq ?_
   revert h
   cases ht33 : (p1.Kind == 2) with
   | true =>
    intro h; replace h := cT h
    refine WC.ct rfl ?_
    refine WC.seq ?_
    refine WC.rs [(0, 2), (1, 1), (2, 1), (3, 2)] rfl ?_
    refine WO.k2 rfl rfl rfl rfl (rn_fieldAddr Try.runUnderlying78 rfl Try.sizeOf2 rfl rfl) ?_
    refine WO.k1 trivial rfl rfl rfl rfl (rn_ld Try.isAgg2 rfl rfl (hvE (f22.ld 2 rfl rfl))) ?_
    obtain ⟨x35, hx35, h⟩ := Option.bind_eq_some_iff.mp h
    refine WO.call rfl rfl rfl rfl rfl rfl Try.call113 (i_isPlayer_ok (κ := fun b => mp [] 0 (K15 b)) hx35) ?_
    rintro _ w34 ⟨k35, rfl, e36⟩
    obtain ⟨K37, S38, m39⟩ := Ent.mixed (l := []) (κ := K15) e36 6 rfl
    refine ⟨trivial, ?_⟩
    refine WO.pn 1 rfl ?_
    refine WO.fin ?_
    refine DN.seq ?_
    refine WC.ret ?_
    refine DN.retBlock ?_
    refine DN.retThen ?_
    have f41 := hE.stp (S3.tr (S7.tr (S16.tr S38))) rfl rfl
    refine DN.res (l := [.tmp 4]) Try.results76 (res_tmp rfl rfl) rfl ?_
    obtain rfl := Option.some.inj h
    exact ⟨K37, rfl, f41⟩
   | false =>
    intro h; replace h := cF h
    refine WC.cf rfl ?_
    refine WC.seq ?_
    refine WC.rs [(0, 2), (1, 2)] rfl ?_
    refine WO.pn 2 rfl ?_
    refine WO.fin ?_
    refine DN.seq ?_
    revert h
    cases ht42 : (p1.Kind == 3) with
    | true =>
     intro h; replace h := cT h
     refine WC.ct rfl ?_
     refine WC.seq ?_
     refine WC.rs [(0, 2), (1, 1), (2, 2), (3, 1), (4, 1), (5, 2), (6, 2), (7, 2), (8, 1), (9, 1), (10, 2), (11, 2), (12, 2), (13, 2), (14, 2), (15, 2), (16, 2), (17, 2)] rfl ?_
     refine WO.k2 rfl rfl rfl rfl (rn_fieldAddr Try.runUnderlying74 rfl Try.sizeOf72 rfl rfl) ?_
     refine WO.k1 trivial rfl rfl rfl rfl (rn_la (cs := [.slice a0_0_0 p0.Arena.Owner.length u0_0_0, .slice a0_0_1 p0.Arena.Next.length u0_0_1]) Try.isAgg72 Try.sizeOf72 rfl rfl rfl (haE (f21.lds 0 2 rfl))) ?_
     refine WO.k2 rfl rfl rfl rfl (rn_fieldAddr Try.runUnderlying78 rfl Try.sizeOf2 rfl rfl) ?_
     refine WO.k1 trivial rfl rfl rfl rfl (rn_ld Try.isAgg2 rfl rfl (hvE (f22.ld 2 rfl rfl))) ?_
     obtain ⟨x42, hx42, h⟩ := Option.bind_eq_some_iff.mp h
     have f43 := f10.stp S16 rfl rfl
     refine WO.call rfl rfl rfl rfl rfl rfl Try.call112 (i_hasVertex_ok (κ := fun b => mp [] 0 (K15 b)) (p0 := p0.Arena) (Sl.map f43 (mp [] 0) rfl rfl) (Sl.map f23 (mp [] 0) rfl rfl) hx42) ?_
     rintro _ w44 ⟨k45, rfl, e46⟩
     obtain ⟨K47, S48, m49⟩ := Ent.mixed (l := []) (κ := K15) e46 6 rfl
     refine ⟨trivial, ?_⟩
     refine WO.pn 1 rfl ?_
     obtain ⟨p49, h, hK51⟩ := Option.bind_eq_some_iff.mp h
     refine WO.meet [(6, 2), (7, 2), (8, 1), (9, 1), (10, 2), (11, 2)] [(12, 2), (13, 2), (14, 2), (15, 2), (16, 2), (17, 2)] (fun L w' => L = [(4, .bool false), (5, .slice ax17 x17.length ux17), (49, .bool p49)] ∧ ∃ κ', Stp [] K47 w44 κ' w') trivial ?_ ?_
     ·
      revert h
      cases ht52 : x42 with
      | true =>
       intro h; replace h := cT h
       refine WO.pn 1 rfl ?_
       refine WO.k2 rfl rfl rfl rfl (rn_fieldAddr Try.runUnderlying78 rfl Try.sizeOf2 rfl rfl) ?_
       have f53 := f22.stp S48 rfl rfl
       refine WO.k1 trivial rfl rfl rfl rfl (rn_ld Try.isAgg2 rfl rfl (hvE (f53.ld 2 rfl rfl))) ?_
       obtain ⟨x47, hx47, h⟩ := Option.bind_eq_some_iff.mp h
       have f54 := f24.stp S48 rfl rfl
       refine WO.call rfl rfl rfl rfl rfl rfl Try.call108 (slices_Contains_I_int64_ok (κ := fun b => mp [] 0 (K47 b)) (Sl.map f54 (mp [] 0) rfl rfl) hx47) ?_
       rintro _ w55 ⟨k56, rfl, e57⟩
       obtain ⟨K58, S59, m60⟩ := Ent.mixed (l := []) (κ := K47) e57 8 rfl
       refine ⟨trivial, ?_⟩
       refine WO.pn 2 rfl ?_
       obtain rfl := Option.some.inj h
       exact WO.met _ trivial ⟨rfl, _, S59.wk rfl⟩ fun a ha => (ha.more (ha.more (ha.more ha.nil rfl) rfl) rfl)
      | false =>
       intro h; replace h := cF h
       refine WO.pn 2 rfl ?_
       refine WO.ls rfl rfl rfl rfl ?_
       refine WO.ls rfl rfl rfl rfl ?_
       refine WO.pn 2 rfl ?_
       obtain rfl := Option.some.inj h
       exact WO.met _ trivial ⟨rfl, _, (Stp.refl _ _).wk rfl⟩ fun a ha => (ha.more (ha.more (ha.more ha.nil rfl) rfl) rfl)
     rintro _ w62 _ ⟨rfl, K63, S64⟩
     have h := hK51
     refine WO.pn 1 rfl ?_
     obtain ⟨p54, h, hK65⟩ := Option.bind_eq_some_iff.mp h
     refine WO.meet [(13, 2), (14, 2), (15, 2), (16, 2)] [(17, 2)] (fun L w' => L = [(4, .bool false), (54, .bool p54)] ∧ ∃ κ', Stp [] K63 w62 κ' w') trivial ?_ ?_
     ·
      revert h
      cases ht66 : p49 with
      | true =>
       intro h; replace h := cT h
       refine WO.pn 1 rfl ?_
       refine WO.k2 rfl rfl rfl rfl (rn_len Try.runUnderlying28 rfl rfl) ?_
       refine WO.pn 2 rfl ?_
       obtain rfl := Option.some.inj h
       exact WO.met _ trivial ⟨rfl, _, (Stp.refl _ _).wk rfl⟩ fun a ha => (ha.more (ha.more ha.nil rfl) rfl)
      | false =>
       intro h; replace h := cF h
       refine WO.pn 4 rfl ?_
       obtain rfl := Option.some.inj h
       exact WO.met _ trivial ⟨rfl, _, (Stp.refl _ _).wk rfl⟩ fun a ha => (ha.more (ha.more ha.nil rfl) rfl)
     rintro _ w67 _ ⟨rfl, K68, S69⟩
     have h := hK65
     refine WO.pn 1 rfl ?_
     refine WO.fin ?_
     refine DN.seq ?_
     refine WC.ret ?_
     refine DN.retBlock ?_
     refine DN.retThen ?_
     have f70 := hE.stp (S3.tr (S7.tr (S16.tr (S48.tr (S64.tr S69))))) rfl rfl
     refine DN.res (l := [.tmp 4]) Try.results76 (res_tmp rfl rfl) rfl ?_
     obtain rfl := Option.some.inj h
     exact ⟨K68, rfl, f70⟩
    | false =>
     intro h; replace h := cF h
     refine WC.cf rfl ?_
     refine WC.seq ?_
     refine WC.rs [(0, 2), (1, 2)] rfl ?_
     refine WO.pn 2 rfl ?_
     refine WO.fin ?_
     refine DN.seq ?_
     revert h
     cases ht71 : (p1.Kind == 4) with
     | true =>
      intro h; replace h := cT h
      refine WC.ct rfl ?_
      refine WC.seq ?_
      refine WC.rs [(0, 2), (1, 2), (2, 1), (3, 1), (4, 2), (5, 2), (6, 2), (7, 2), (8, 2), (9, 2)] rfl ?_
      refine WO.pn 1 rfl ?_
      refine WO.k2 rfl rfl rfl rfl (rn_fieldAddr Try.runUnderlying78 rfl Try.sizeOf2 rfl rfl) ?_
      refine WO.k1 trivial rfl rfl rfl rfl (rn_ld Try.isAgg2 rfl rfl (hvE (f22.ld 2 rfl rfl))) ?_
      obtain ⟨x60, hx60, h⟩ := Option.bind_eq_some_iff.mp h
      refine WO.call rfl rfl rfl rfl rfl rfl Try.call108 (slices_Contains_I_int64_ok (κ := fun b => mp [] 0 (K15 b)) (Sl.map f24 (mp [] 0) rfl rfl) hx60) ?_
      rintro _ w72 ⟨k73, rfl, e74⟩
      obtain ⟨K75, S76, m77⟩ := Ent.mixed (l := []) (κ := K15) e74 6 rfl
      refine ⟨trivial, ?_⟩
      refine WO.pn 1 rfl ?_
      obtain ⟨p65, h, hK79⟩ := Option.bind_eq_some_iff.mp h
      refine WO.meet [(5, 2), (6, 2), (7, 2), (8, 2)] [(9, 2)] (fun L w' => L = [(4, .bool false), (65, .bool p65)] ∧ ∃ κ', Stp [] K75 w72 κ' w') trivial ?_ ?_
      ·
       revert h
       cases ht80 : x60 with
       | true =>
        intro h; replace h := cT h
        refine WO.pn 1 rfl ?_
        refine WO.k2 rfl rfl rfl rfl (rn_len Try.runUnderlying28 rfl rfl) ?_
        refine WO.pn 2 rfl ?_
        obtain rfl := Option.some.inj h
        exact WO.met _ trivial ⟨rfl, _, (Stp.refl _ _).wk rfl⟩ fun a ha => (ha.more (ha.more ha.nil rfl) rfl)
       | false =>
        intro h; replace h := cF h
        refine WO.pn 4 rfl ?_
        obtain rfl := Option.some.inj h
        exact WO.met _ trivial ⟨rfl, _, (Stp.refl _ _).wk rfl⟩ fun a ha => (ha.more (ha.more ha.nil rfl) rfl)
      rintro _ w81 _ ⟨rfl, K82, S83⟩
      have h := hK79
      refine WO.pn 1 rfl ?_
      refine WO.fin ?_
      refine DN.seq ?_
      refine WC.ret ?_
      refine DN.retBlock ?_
      refine DN.retThen ?_
      have f84 := hE.stp (S3.tr (S7.tr (S16.tr (S76.tr S83)))) rfl rfl
      refine DN.res (l := [.tmp 4]) Try.results76 (res_tmp rfl rfl) rfl ?_
      obtain rfl := Option.some.inj h
      exact ⟨K82, rfl, f84⟩
     | false =>
      intro h; replace h := cF h
      refine WC.cf rfl ?_
      refine WC.skip ?_
      refine DN.block ?_
      refine DN.seq ?_
      refine WC.seq ?_
      refine WC.rs [(0, 2)] rfl ?_
      refine WO.pn 1 rfl ?_
      refine WO.fin ?_
      refine DN.seq ?_
      refine WC.ret ?_
      have f85 := hE.stp (S3.tr (S7.tr S16)) rfl rfl
      refine DN.res (l := [.tmp 4]) Try.results76 (res_tmp rfl rfl) rfl ?_
      obtain rfl := Option.some.inj h
      exact ⟨K15, rfl, f85⟩

/- loop.example/g00869/impl.copyParity -/
theorem i_copyParity_ok {w : World} {κ : Col} {a0_0_0 : Option Addr} {u0_0_0 : Nat} {a0_0_1 : Option Addr} {u0_0_1 : Nat} {a0_1 : Option Addr} {u0_1 : Nat} {p0 : Parity} (g0_0_0 : Rd (Rp.int .i64) κ w 0 a0_0_0 u0_0_0 p0.Arena.Owner) (g0_0_1 : Rd (Rp.sl (Rp.int .i64)) κ w 0 a0_0_1 u0_0_1 p0.Arena.Next) (g0_1 : Rd (Rp.int .i64) κ w 0 a0_1 u0_1 p0.Prio) {r : Parity} (h : i_copyParity p0 = some r) : Ret Try.prog 83 [.agg #[.slice a0_0_0 p0.Arena.Owner.length u0_0_0, .slice a0_0_1 p0.Arena.Next.length u0_0_1, .slice a0_1 p0.Prio.length u0_1]] w (fun v w' => ∃ (κ' : Col) (ra0 : Option Addr) (ru0 : Nat) (ra1 : Option Addr) (ru1 : Nat) (ra2 : Option Addr) (ru2 : Nat), v = .agg #[.slice ra0 r.Arena.Owner.length ru0, .slice ra1 r.Arena.Next.length ru1, .slice ra2 r.Prio.length ru2] ∧ Ent κ w κ' w' ∧ Oc (Ep.int .i64) 2 κ' w' 2 ra0 ru0 r.Arena.Owner ∧ Oc (Ep.own (Ep.int .i64) 2) 28 κ' w' 3 ra1 ru1 r.Arena.Next ∧ Oc (Ep.int .i64) 2 κ' w' 4 ra2 ru2 r.Prio) := by
 unfold i_copyParity at h
 refine Ret.enter Try.func83 rfl Try.ntmps83 rfl ?_
 dsimp only [envOf]
 have hE := Ent.refl κ w
 refine WC.seq ?_
 refine WC.rs [(0, 1), (1, 1)] rfl ?_
 refine WO.box (κ := κ) 2 rfl rfl rfl rfl rfl rfl rfl fun b1 w1 K2 S3 f4 => ⟨trivial, ?_⟩
 refine WO.alloc (κ := K2) 3 rfl rfl rfl rfl rfl Try.zeroValue74 rfl fun b2 w5 K6 S7 f8 => ⟨trivial, ?_⟩
 refine WO.fin ?_
 refine DN.seq ?_
 refine WC.seq ?_
 obtain ⟨x5, hx5, h⟩ := Option.bind_eq_some_iff.mp h
 obtain ⟨x9, hx9, h⟩ := Option.bind_eq_some_iff.mp h
 refine WC.meet (fun L w' => ∃ (κ' : Col) (lar12_0 : Option Addr) (lur12_0 : Nat) (lar12_1 : Option Addr) (lur12_1 : Nat) (lar12_2 : Option Addr) (lur12_2 : Nat), L = [(2, .pointer (some ⟨b2, 0, none⟩))] ∧ Stp [3, 4, 6, 7, 8] K6 w5 κ' w' ∧ Oc (Ep.int .i64) 2 κ' w' 4 lar12_0 lur12_0 x5.Owner ∧ Oc (Ep.own (Ep.int .i64) 2) 28 κ' w' 5 lar12_1 lur12_1 x5.Next ∧ Oc (Ep.int .i64) 2 κ' w' 6 lar12_2 lur12_2 x9 ∧ Bc κ' w' 3 b2 74 [.slice lar12_0 x5.Owner.length lur12_0, .slice lar12_1 x5.Next.length lur12_1, .slice lar12_2 x9.length lur12_2]) ?_ ?_
 ·
  refine WC.rxt (κ := K6) [2] none (by kernel_rfl) fun w17 S18 => ?_
  refine WA.seg (fuel := 5) [(0, 2), (4, 2), (1, 0), (5, 0)] (by kernel_rfl) (by kernel_rfl) rfl ?_
  refine WO.k2 rfl rfl rfl rfl (rn_fieldAddr Try.runUnderlying74 rfl Try.sizeOf72 rfl rfl) ?_
  refine WO.k2 rfl rfl rfl rfl (rn_fieldAddr Try.runUnderlying74 rfl Try.sizeOf28 rfl rfl) ?_
  have f19 := f4.stp (S7.tr S18) rfl rfl
  refine WO.k0 rfl rfl rfl rfl (rn_la (cs := [.slice a0_0_0 p0.Arena.Owner.length u0_0_0, .slice a0_0_1 p0.Arena.Next.length u0_0_1]) Try.isAgg72 Try.sizeOf72 rfl rfl rfl (haC (f19.lds 0 2 rfl) rfl)) ?_
  refine WO.k0 rfl rfl rfl rfl (rn_ld Try.isAgg28 rfl rfl (hvC (f19.ld 2 rfl rfl) rfl)) ?_
  refine WO.wa ?_
  refine WA.fork2 (fuel := 4) 2 3 (by kernel_rfl) rfl ?_ ?_
  ·
   have f20 := g0_0_0.stp (S3.tr (S7.tr S18)) rfl rfl
   have f21 := g0_0_1.stp (S3.tr (S7.tr S18)) rfl rfl
   refine WO.call rfl rfl rfl rfl rfl rfl Try.call119 (i_copyArena_ok (κ := fun b => mp [] 0 (K6 b)) (p0 := p0.Arena) (Sl.map f20 (mp [] 0) rfl rfl) (Sl.map f21 (mp [] 0) rfl rfl) hx5) ?_
   rintro _ w22 ⟨k23, a5_0, u5_0, a5_1, u5_1, rfl, e24, f25, f26⟩
   obtain ⟨K27, S28, m29⟩ := Ent.mixed (l := []) (κ := K6) e24 4 rfl
   refine ⟨(S28.cl rfl), ?_⟩
   have f31 := f25.mx (no_int _) m29 rfl (rfl : 4 + 2 = 6)
   have f32 := f26.mx (no_own (no_int _) _) m29 rfl (rfl : 4 + 3 = 7)
   refine WO.wa ?_
   refine WA.seg (fuel := 0) [(3, 1), (6, 1), (7, 2), (8, 1)] (by kernel_rfl) (by kernel_rfl) rfl ?_
   refine WO.bl0 (κ := K27) (E := (Ep.int .i64)) 8 rfl rfl rfl rfl rfl Try.underlying28 Tryinfo2 rfl fun a6 u6 w33 K34 S35 f36 => ⟨((S28.tr S35).cl rfl), ?_⟩
   have f37 := g0_1.stp (S3.tr (S7.tr (S18.tr (S28.tr S35)))) rfl rfl
   refine WO.app (κ := K34) (E := (Ep.int .i64)) 8 [] rfl rfl rfl rfl rfl rfl rfl rfl rfl Try.underlying28 Tryinfo2 rfl rfl rfl rfl f36 (Sl.srcP (pu_int _) f37) sy_false hx9 rfl fun a9 u9 w38 K39 S40 f41 => ⟨((S28.tr (S35.tr S40)).cl rfl), ?_⟩
   refine WO.k2 rfl rfl rfl rfl (rn_build (parts := [(0, .tmp 5), (1, .tmp 9)]) (cells := [.slice a5_0 x5.Owner.length u5_0, .slice a5_1 x5.Next.length u5_1, .slice a9 x9.length u9]) rfl rfl (by kernel_rfl)) ?_
   have f42 := f8.stp (S18.tr (S28.tr (S35.tr S40))) rfl rfl
   refine WO.stB0 (κ := K39) 3 (vc := [.slice a5_0 x5.Owner.length u5_0, .slice a5_1 x5.Next.length u5_1, .slice a9 x9.length u9]) rfl rfl rfl rfl rfl rfl rfl Try.sizeOf74 rfl rfl f42 rfl fun w43 S44 f45 => ⟨((S28.tr (S35.tr (S40.tr S44))).cl rfl), ?_⟩
   refine WO.wa ?_
   refine WA.last [] (by kernel_rfl) (by kernel_rfl) rfl ?_
   refine WO.fin ?_
   have f46 := f31.stp (S35.tr (S40.tr S44)) rfl rfl
   have f47 := f32.stp (S35.tr (S40.tr S44)) rfl rfl
   have f48 := f41.stp S44 rfl rfl
   exact DN.meet _ ⟨(fun b => ren [(6, 4), (7, 5), (8, 6)] (K39 b)), a5_0, u5_0, a5_1, u5_1, a9, u9, rfl, (Stp.ren ((S18.tr (S28.tr (S35.tr (S40.tr S44)))).wk rfl) [(6, 4), (7, 5), (8, 6)] rfl), (f46.map (ren [(6, 4), (7, 5), (8, 6)]) rfl rfl), (f47.map (ren [(6, 4), (7, 5), (8, 6)]) rfl rfl), (f48.map (ren [(6, 4), (7, 5), (8, 6)]) rfl rfl), (f45.map (ren [(6, 4), (7, 5), (8, 6)]) rfl rfl)⟩ fun a ha => (ha.more ha.nil rfl)
  ·
   refine WO.bl0 (κ := K6) (E := (Ep.int .i64)) 4 rfl rfl rfl rfl rfl Try.underlying28 Tryinfo2 rfl fun a6 u6 w49 K50 S51 f52 => ⟨(S51.cl rfl), ?_⟩
   refine WO.wa ?_
   refine WA.seg (fuel := 0) [(2, 1), (6, 1), (7, 2), (8, 1)] (by kernel_rfl) (by kernel_rfl) rfl ?_
   have f53 := g0_0_0.stp (S3.tr (S7.tr (S18.tr S51))) rfl rfl
   have f54 := g0_0_1.stp (S3.tr (S7.tr (S18.tr S51))) rfl rfl
   refine WO.call rfl rfl rfl rfl rfl rfl Try.call119 (i_copyArena_ok (κ := fun b => mp [] 0 (K50 b)) (p0 := p0.Arena) (Sl.map f53 (mp [] 0) rfl rfl) (Sl.map f54 (mp [] 0) rfl rfl) hx5) ?_
   rintro _ w55 ⟨k56, a5_0, u5_0, a5_1, u5_1, rfl, e57, f58, f59⟩
   obtain ⟨K60, S61, m62⟩ := Ent.mixed (l := []) (κ := K50) e57 5 rfl
   refine ⟨((S51.tr S61).cl rfl), ?_⟩
   have f64 := f58.mx (no_int _) m62 rfl (rfl : 5 + 2 = 7)
   have f65 := f59.mx (no_own (no_int _) _) m62 rfl (rfl : 5 + 3 = 8)
   have f66 := g0_1.stp (S3.tr (S7.tr (S18.tr (S51.tr S61)))) rfl rfl
   have f67 := f52.stp S61 rfl rfl
   refine WO.app (κ := K60) (E := (Ep.int .i64)) 4 [] rfl rfl rfl rfl rfl rfl rfl rfl rfl Try.underlying28 Tryinfo2 rfl rfl rfl rfl f67 (Sl.srcP (pu_int _) f66) sy_false hx9 rfl fun a9 u9 w68 K69 S70 f71 => ⟨((S51.tr (S61.tr S70)).cl rfl), ?_⟩
   refine WO.k2 rfl rfl rfl rfl (rn_build (parts := [(0, .tmp 5), (1, .tmp 9)]) (cells := [.slice a5_0 x5.Owner.length u5_0, .slice a5_1 x5.Next.length u5_1, .slice a9 x9.length u9]) rfl rfl (by kernel_rfl)) ?_
   have f72 := f8.stp (S18.tr (S51.tr (S61.tr S70))) rfl rfl
   refine WO.stB0 (κ := K69) 3 (vc := [.slice a5_0 x5.Owner.length u5_0, .slice a5_1 x5.Next.length u5_1, .slice a9 x9.length u9]) rfl rfl rfl rfl rfl rfl rfl Try.sizeOf74 rfl rfl f72 rfl fun w73 S74 f75 => ⟨((S51.tr (S61.tr (S70.tr S74))).cl rfl), ?_⟩
   refine WO.wa ?_
   refine WA.last [] (by kernel_rfl) (by kernel_rfl) rfl ?_
   refine WO.fin ?_
   have f76 := f64.stp (S70.tr S74) rfl rfl
   have f77 := f65.stp (S70.tr S74) rfl rfl
   have f78 := f71.stp S74 rfl rfl
   exact DN.meet _ ⟨(fun b => ren [(7, 4), (8, 5), (4, 6)] (K69 b)), a5_0, u5_0, a5_1, u5_1, a9, u9, rfl, (Stp.ren ((S18.tr (S51.tr (S61.tr (S70.tr S74)))).wk rfl) [(7, 4), (8, 5), (4, 6)] rfl), (f76.map (ren [(7, 4), (8, 5), (4, 6)]) rfl rfl), (f77.map (ren [(7, 4), (8, 5), (4, 6)]) rfl rfl), (f78.map (ren [(7, 4), (8, 5), (4, 6)]) rfl rfl), (f75.map (ren [(7, 4), (8, 5), (4, 6)]) rfl rfl)⟩ fun a ha => (ha.more ha.nil rfl)
 rintro _ w9 ⟨K10, lar12_0, lur12_0, lar12_1, lur12_1, lar12_2, lur12_2, rfl, S11, f13, f14, f15, f16⟩
 refine DN.seq ?_
 refine WC.ret ?_
 have f79 := hE.stp (S3.tr (S7.tr S11)) rfl rfl
 refine DN.res (l := [.cell 2 74]) Try.results83 (res_cellA rfl f16 Try.isAgg74 Try.sizeOf74 rfl rfl) rfl ?_
 obtain rfl := Option.some.inj h
 exact ⟨(fun b => ren [(4, 2), (5, 3), (6, 4)] (K10 b)), lar12_0, lur12_0, lar12_1, lur12_1, lar12_2, lur12_2, rfl, (f79.map (ren [(4, 2), (5, 3), (6, 4)]) rfl rfl), (f13.map (ren [(4, 2), (5, 3), (6, 4)]) rfl rfl), (f14.map (ren [(4, 2), (5, 3), (6, 4)]) rfl rfl), (f15.map (ren [(4, 2), (5, 3), (6, 4)]) rfl rfl)⟩

/- slices.BinarySearch[[]int64,int64] -/
theorem slices_BinarySearch_I_int64_ok {w : World} {κ : Col} {a0 : Option Addr} {u0 : Nat} {p0 : (List Int)} {p1 : Int} (g0 : Rd (Rp.int .i64) κ w 0 a0 u0 p0) {r : Int × Bool} (h : slices_BinarySearch_I_int64 p0 p1 = some r) : Ret Try.prog 135 [.slice a0 p0.length u0, .int .i64 p1] w (fun v w' => ∃ (κ' : Col), v = .tuple #[.int .i64 r.1, .bool r.2] ∧ Ent κ w κ' w') := by
 unfold slices_BinarySearch_I_int64 at h
 refine Ret.enter Try.func135 rfl Try.ntmps135 rfl ?_
 dsimp only [envOf]
 have hE := Ent.refl κ w
 refine WC.seq ?_
 refine WC.rs [(0, 2), (1, 2)] rfl ?_
 refine WO.pn 2 rfl ?_
 refine WO.fin ?_
 refine DN.seq ?_
 refine WC.seq ?_
 refine WC.rs [(0, 2), (1, 2), (2, 2)] rfl ?_
 refine WO.pn 1 rfl ?_
 refine WO.k2 rfl rfl rfl rfl (rn_len Try.runUnderlying28 rfl rfl) ?_
 refine WO.pn 1 rfl ?_
 refine WO.fin ?_
 refine DN.seq ?_
 refine WC.seq ?_
 refine WC.rs [(0, 2), (1, 2), (2, 2)] rfl ?_
 refine WO.pn 3 rfl ?_
 refine WO.fin ?_
 refine DN.seq ?_
 refine WC.seq ?_
 obtain ⟨q2, hq3, hK2⟩ := Option.bind_eq_some_iff.mp h
 clear h
 refine WC.meet (fun L w' => ∃ (κ' : Col) (s3 : Int × Int), L = [(0, .slice a0 p0.length u0), (1, .int .i64 p1), (6, .int .i64 (p0.length : Int)), (7, .int .i64 s3.1)] ∧ Stp [] κ w κ' w' ∧ q2 = Sum.inr s3) ?_ ?_
 ·
  refine WC.block ?_
  refine WC.loop (fun k L w' => ∃ (κ' : Col) (s1 : Int × Int), L = [(0, .slice a0 p0.length u0), (1, .int .i64 p1), (6, .int .i64 (p0.length : Int)), (7, .int .i64 s1.1), (8, .int .i64 s1.2)] ∧ Stp [] κ w κ' w' ∧ whileM (slices_BinarySearch_I_int64_b0 p0 p1) k s1 = some q2) ⟨_, _, ⟨κ, ((0 : Int), ((p0.length : Int) : Int)), rfl, (Stp.refl _ _).wk rfl, hq3⟩, fun a ha => (ha.more (ha.more (ha.more (ha.more (ha.more ha.nil rfl) rfl) rfl) rfl) rfl)⟩ ?_
  rintro k _ w7 ⟨K8, s1, rfl, S9, h⟩
  rcases k with _ | k
  ·
   cases h
  ·
   obtain ⟨o1, h, hk10⟩ := Option.bind_eq_some_iff.mp h; unfold slices_BinarySearch_I_int64_b0 at h
   refine WC.seq ?_
   refine WC.seq ?_
   refine WC.rs [(0, 2), (1, 2), (2, 2)] rfl ?_
   refine WO.pn 3 rfl ?_
   refine WO.fin ?_
   refine DN.seq ?_
   revert h
   cases ht11 : decide (s1.1 < s1.2) with
   | true =>
    intro h; replace h := cT h
    refine WC.ct rfl ?_
    refine WC.skip ?_
    refine DN.seq ?_
    refine WC.block ?_
    refine WC.seq ?_
    refine WC.rs [(0, 2), (1, 2), (2, 2), (3, 2), (4, 2), (5, 2), (6, 2)] rfl ?_
    refine WO.pn 3 rfl ?_
    refine WO.k2 rfl rfl rfl rfl (rn_conv Try.runUnderlying3 Try.runUnderlying178 rfl rfl) ?_
    refine WO.k2 rfl rfl rfl rfl (rn_shr rfl rfl rfl (by decide)) ?_
    refine WO.k2 rfl rfl rfl rfl (rn_conv Try.runUnderlying178 Try.runUnderlying3 rfl rfl) ?_
    refine WO.pn 1 rfl ?_
    refine WO.fin ?_
    refine DN.seq ?_
    refine WC.seq ?_
    refine WC.rs [(0, 2), (1, 2), (2, 2), (3, 1), (4, 2), (5, 1)] rfl ?_
    refine WO.pn 2 rfl ?_
    obtain ⟨x24, hx24, h⟩ := Option.bind_eq_some_iff.mp h
    refine WO.k2 rfl rfl rfl rfl (rn_index g0 hx24 Try.runUnderlying28 Try.sizeOf2 rfl rfl rfl rfl) ?_
    have f12 := g0.stp S9 rfl rfl
    refine WO.k1 trivial rfl rfl rfl rfl (rn_ld Try.isAgg2 rfl rfl (hvE (f12.gInt hx24))) ?_
    refine WO.pn 1 rfl ?_
    obtain ⟨x27, hx27, h⟩ := Option.bind_eq_some_iff.mp h
    refine WO.call rfl rfl rfl rfl rfl rfl Try.call153 (cmp_Less_int64_ok (κ := fun b => mp [] 0 (K8 b)) hx27) ?_
    rintro _ w13 ⟨k14, rfl, e15⟩
    obtain ⟨K16, S17, m18⟩ := Ent.mixed (l := []) (κ := K8) e15 2 rfl
    refine ⟨trivial, ?_⟩
    refine WO.fin ?_
    refine DN.seq ?_
    obtain ⟨q4, h, hK20⟩ := Option.bind_eq_some_iff.mp h
    refine WC.meet (fun L w' => ∃ (κ' : Col), L = [(0, .slice a0 p0.length u0), (1, .int .i64 p1), (6, .int .i64 (p0.length : Int)), (7, .int .i64 q4.1), (8, .int .i64 q4.2)] ∧ Stp [] K16 w13 κ' w') ?_ ?_
    ·
     revert h
     cases ht24 : x27 with
     | true =>
      intro h; replace h := cT h
      refine WC.ct rfl ?_
      refine WC.rs [(0, 2), (1, 2), (2, 2)] rfl ?_
      refine WO.pn 3 rfl ?_
      refine WO.fin ?_
      obtain rfl := Option.some.inj h
      exact DN.meet _ ⟨K16, rfl, (Stp.refl _ _).wk rfl⟩ fun a ha => (ha.more (ha.more (ha.more (ha.more (ha.more ha.nil rfl) rfl) rfl) rfl) rfl)
     | false =>
      intro h; replace h := cF h
      refine WC.cf rfl ?_
      refine WC.rs [(0, 2), (1, 2)] rfl ?_
      refine WO.pn 2 rfl ?_
      refine WO.fin ?_
      obtain rfl := Option.some.inj h
      exact DN.meet _ ⟨K16, rfl, (Stp.refl _ _).wk rfl⟩ fun a ha => (ha.more (ha.more (ha.more (ha.more (ha.more ha.nil rfl) rfl) rfl) rfl) rfl)
    rintro _ w21 ⟨K22, rfl, S23⟩
    have h := hK20
    refine DN.block ?_
    obtain rfl := Option.some.inj h
    refine DN.round fun a ha => ?_
    exact ⟨k, _, Nat.lt_succ_self _, ⟨K22, ((q4.1 : Int), (q4.2 : Int)), rfl, (S9.tr (S17.tr S23)).wk rfl, hk10⟩, (ha.more (ha.more (ha.more (ha.more (ha.more ha.nil rfl) rfl) rfl) rfl) rfl)⟩
   | false =>
    intro h; replace h := cF h
    refine WC.cf rfl ?_
    refine WC.exit ?_
    refine DN.exitThen ?_
    refine DN.exitThen ?_
    obtain rfl := Option.some.inj h
    have h := hk10
    refine DN.hit ?_
    obtain rfl := Option.some.inj h
    exact DN.meet _ ⟨K8, ((s1.1 : Int), (s1.2 : Int)), rfl, S9.wk rfl, rfl⟩ fun a ha => (ha.more (ha.more (ha.more (ha.more ha.nil rfl) rfl) rfl) rfl)
 rintro _ w4 ⟨K5, s3, rfl, S6, rfl⟩
 have h := hK2
 dsimp only [aft] at h
 refine DN.seq ?_
 refine WC.seq ?_
 refine WC.rs [(0, 2), (1, 2), (2, 2), (3, 2), (4, 2), (5, 2), (6, 2), (7, 2), (8, 1), (9, 2), (10, 2), (11, 2), (12, 2), (13, 2), (14, 2), (15, 1), (16, 1), (17, 2), (18, 2), (19, 1), (20, 2), (21, 2), (22, 2), (23, 2), (24, 2)] rfl ?_
 refine WO.pn 5 rfl ?_
 obtain ⟨p53, h, hK25⟩ := Option.bind_eq_some_iff.mp h
 refine WO.meet [(5, 2), (6, 2), (7, 2), (8, 1), (9, 2), (10, 2), (11, 2), (12, 2), (13, 2), (14, 2), (15, 1), (16, 1), (17, 2), (18, 2), (19, 1), (20, 2), (21, 2), (22, 2)] [(23, 2), (24, 2)] (fun L w' => L = [(31, .int .i64 s3.1), (53, .bool p53)] ∧ ∃ κ', Stp [] K5 w4 κ' w') trivial ?_ ?_
 ·
  revert h
  cases ht26 : decide (s3.1 < (p0.length : Int)) with
  | true =>
   intro h; replace h := cT h
   refine WO.pn 2 rfl ?_
   obtain ⟨x38, hx38, h⟩ := Option.bind_eq_some_iff.mp h
   refine WO.k2 rfl rfl rfl rfl (rn_index g0 hx38 Try.runUnderlying28 Try.sizeOf2 rfl rfl rfl rfl) ?_
   have f27 := g0.stp S6 rfl rfl
   refine WO.k1 trivial rfl rfl rfl rfl (rn_ld Try.isAgg2 rfl rfl (hvE (f27.gInt hx38))) ?_
   refine WO.pn 3 rfl ?_
   obtain ⟨p52, h, hK28⟩ := Option.bind_eq_some_iff.mp h
   refine WO.meet [(12, 2), (13, 2), (14, 2), (15, 1), (16, 1), (17, 2), (18, 2), (19, 1), (20, 2), (21, 2)] [(22, 2)] (fun L w' => L = [(31, .int .i64 s3.1), (35, .bool true), (52, .bool p52)] ∧ ∃ κ', Stp [] K5 w4 κ' w') trivial ?_ ?_
   ·
    revert h
    cases ht29 : (x38 == p1) with
    | true =>
     intro h; replace h := cT h
     refine WO.pn 3 rfl ?_
     refine WO.ls rfl rfl rfl rfl ?_
     refine WO.ls rfl rfl rfl rfl ?_
     refine WO.pn 2 rfl ?_
     refine WO.ls rfl rfl rfl rfl ?_
     refine WO.pn 2 rfl ?_
     obtain rfl := Option.some.inj h
     exact WO.met _ trivial ⟨rfl, _, (Stp.refl _ _).wk rfl⟩ fun a ha => (ha.more (ha.more (ha.more ha.nil rfl) rfl) rfl)
    | false =>
     intro h; replace h := cF h
     refine WO.pn 2 rfl ?_
     obtain ⟨x45, hx45, h⟩ := Option.bind_eq_some_iff.mp h
     refine WO.k2 rfl rfl rfl rfl (rn_index f27 hx45 Try.runUnderlying28 Try.sizeOf2 rfl rfl rfl rfl) ?_
     refine WO.k1 trivial rfl rfl rfl rfl (rn_ld Try.isAgg2 rfl rfl (hvE (f27.gInt hx45))) ?_
     obtain ⟨x47, hx47, h⟩ := Option.bind_eq_some_iff.mp h
     refine WO.call rfl rfl rfl rfl rfl rfl Try.call154 (slices_isNaN_int64_ok (κ := fun b => mp [] 0 (K5 b)) hx47) ?_
     rintro _ w30 ⟨k31, rfl, e32⟩
     obtain ⟨K33, S34, m35⟩ := Ent.mixed (l := []) (κ := K5) e32 2 rfl
     refine ⟨trivial, ?_⟩
     refine WO.pn 1 rfl ?_
     obtain ⟨p51, h, hK37⟩ := Option.bind_eq_some_iff.mp h
     refine WO.meet [(18, 2), (19, 1), (20, 2)] [(21, 2)] (fun L w' => L = [(31, .int .i64 s3.1), (35, .bool true), (42, .bool false), (51, .bool p51)] ∧ ∃ κ', Stp [] K33 w30 κ' w') trivial ?_ ?_
     ·
      revert h
      cases ht38 : x47 with
      | true =>
       intro h; replace h := cT h
       refine WO.pn 1 rfl ?_
       obtain ⟨x50, hx50, h⟩ := Option.bind_eq_some_iff.mp h
       refine WO.call rfl rfl rfl rfl rfl rfl Try.call154 (slices_isNaN_int64_ok (κ := fun b => mp [] 0 (K33 b)) hx50) ?_
       rintro _ w39 ⟨k40, rfl, e41⟩
       obtain ⟨K42, S43, m44⟩ := Ent.mixed (l := []) (κ := K33) e41 4 rfl
       refine ⟨trivial, ?_⟩
       refine WO.pn 1 rfl ?_
       obtain rfl := Option.some.inj h
       exact WO.met _ trivial ⟨rfl, _, S43.wk rfl⟩ fun a ha => (ha.more (ha.more (ha.more (ha.more ha.nil rfl) rfl) rfl) rfl)
      | false =>
       intro h; replace h := cF h
       refine WO.pn 1 rfl ?_
       refine WO.ls rfl rfl rfl rfl ?_
       refine WO.pn 1 rfl ?_
       obtain rfl := Option.some.inj h
       exact WO.met _ trivial ⟨rfl, _, (Stp.refl _ _).wk rfl⟩ fun a ha => (ha.more (ha.more (ha.more (ha.more ha.nil rfl) rfl) rfl) rfl)
     rintro _ w46 _ ⟨rfl, K47, S48⟩
     have h := hK37
     refine WO.pn 1 rfl ?_
     obtain rfl := Option.some.inj h
     exact WO.met _ trivial ⟨rfl, _, (S34.tr S48).wk rfl⟩ fun a ha => (ha.more (ha.more (ha.more ha.nil rfl) rfl) rfl)
   rintro _ w49 _ ⟨rfl, K50, S51⟩
   have h := hK28
   refine WO.pn 1 rfl ?_
   obtain rfl := Option.some.inj h
   exact WO.met _ trivial ⟨rfl, _, S51.wk rfl⟩ fun a ha => (ha.more (ha.more ha.nil rfl) rfl)
  | false =>
   intro h; replace h := cF h
   refine WO.pn 3 rfl ?_
   refine WO.ls rfl rfl rfl rfl ?_
   refine WO.pn 6 rfl ?_
   refine WO.ls rfl rfl rfl rfl ?_
   refine WO.ls rfl rfl rfl rfl ?_
   refine WO.pn 2 rfl ?_
   refine WO.ls rfl rfl rfl rfl ?_
   refine WO.pn 3 rfl ?_
   obtain rfl := Option.some.inj h
   exact WO.met _ trivial ⟨rfl, _, (Stp.refl _ _).wk rfl⟩ fun a ha => (ha.more (ha.more ha.nil rfl) rfl)
 rintro _ w52 _ ⟨rfl, K53, S54⟩
 have h := hK25
 refine WO.pn 2 rfl ?_
 refine WO.fin ?_
 refine DN.seq ?_
 refine WC.ret ?_
 have f55 := hE.stp (S6.tr S54) rfl rfl
 refine DN.res (l := [.tmp 4, .tmp 5]) Try.results135 (res_tmp rfl (res_tmp rfl rfl)) rfl ?_
 obtain rfl := Option.some.inj h
 exact ⟨K53, rfl, f55⟩

/- loop.example/g00869/laws.eqArena -/
theorem l_eqArena_ok {w : World} {κ : Col} {a0_0 : Option Addr} {u0_0 : Nat} {a0_1 : Option Addr} {u0_1 : Nat} {p0 : Arena} {a1_0 : Option Addr} {u1_0 : Nat} {a1_1 : Option Addr} {u1_1 : Nat} {p1 : Arena} (g0_0 : Rd (Rp.int .i64) κ w 0 a0_0 u0_0 p0.Owner) (g0_1 : Rd (Rp.sl (Rp.int .i64)) κ w 0 a0_1 u0_1 p0.Next) (g1_0 : Rd (Rp.int .i64) κ w 0 a1_0 u1_0 p1.Owner) (g1_1 : Rd (Rp.sl (Rp.int .i64)) κ w 0 a1_1 u1_1 p1.Next) {r : Bool} (h : l_eqArena p0 p1 = some r) : Ret Try.prog 78 [.agg #[.slice a0_0 p0.Owner.length u0_0, .slice a0_1 p0.Next.length u0_1], .agg #[.slice a1_0 p1.Owner.length u1_0, .slice a1_1 p1.Next.length u1_1]] w (fun v w' => ∃ (κ' : Col), v = .bool r ∧ Ent κ w κ' w') := by
 unfold l_eqArena at h
 refine Ret.enter Try.func78 rfl Try.ntmps78 rfl ?_
 dsimp only [envOf]
 have hE := Ent.refl κ w
 refine WC.seq ?_
 refine WC.rs [(0, 1), (1, 1), (2, 2)] rfl ?_
 refine WO.box (κ := κ) 2 rfl rfl rfl rfl rfl rfl rfl fun b2 w1 K2 S3 f4 => ⟨trivial, ?_⟩
 refine WO.box (κ := K2) 3 rfl rfl rfl rfl rfl rfl rfl fun b3 w5 K6 S7 f8 => ⟨trivial, ?_⟩
 refine WO.pn 1 rfl ?_
 refine WO.fin ?_
 refine DN.seq ?_
 refine WC.seq ?_
 refine WC.seq ?_
 refine WC.rs [(0, 2), (1, 1), (2, 2), (3, 1), (4, 1), (5, 2)] rfl ?_
 refine WO.k2 rfl rfl rfl rfl (rn_fieldAddr Try.runUnderlying72 rfl Try.sizeOf28 rfl rfl) ?_
 have f9 := f4.stp S7 rfl rfl
 refine WO.k1 trivial rfl rfl rfl rfl (rn_ld Try.isAgg28 rfl rfl (hvE (f9.ld 0 rfl rfl))) ?_
 refine WO.k2 rfl rfl rfl rfl (rn_fieldAddr Try.runUnderlying72 rfl Try.sizeOf28 rfl rfl) ?_
 refine WO.k1 trivial rfl rfl rfl rfl (rn_ld Try.isAgg28 rfl rfl (hvE (f8.ld 0 rfl rfl))) ?_
 obtain ⟨x9, hx9, h⟩ := Option.bind_eq_some_iff.mp h
 have f10 := g0_0.stp (S3.tr S7) rfl rfl
 have f11 := g1_0.stp (S3.tr S7) rfl rfl
 refine WO.call rfl rfl rfl rfl rfl rfl Try.call57 (l_eqInt64S_ok (κ := fun b => mp [] 0 (K6 b)) (Sl.map f10 (mp [] 0) rfl rfl) (Sl.map f11 (mp [] 0) rfl rfl) hx9) ?_
 rintro _ w12 ⟨k13, rfl, e14⟩
 obtain ⟨K15, S16, m17⟩ := Ent.mixed (l := []) (κ := K6) e14 4 rfl
 refine ⟨trivial, ?_⟩
 refine WO.pn 1 rfl ?_
 refine WO.fin ?_
 refine DN.seq ?_
 revert h
 cases ht19 : (!x9) with
 | true =>
  intro h; replace h := cT h
  refine WC.ct rfl ?_
  refine WC.seq ?_
  refine WC.rs [(0, 2)] rfl ?_
  refine WO.pn 1 rfl ?_
  refine WO.fin ?_
  refine DN.seq ?_
  refine WC.ret ?_
  refine DN.retThen ?_
  have f20 := hE.stp (S3.tr (S7.tr S16)) rfl rfl
  refine DN.res (l := [.tmp 4]) Try.results78 (res_tmp rfl rfl) rfl ?_
  obtain rfl := Option.some.inj h
  exact ⟨K15, rfl, f20⟩
 | false =>
  intro h; replace h := cF h
  refine WC.cf rfl ?_
  refine WC.skip ?_
  refine DN.seq ?_
  refine WC.seq ?_
  refine WC.seq ?_
  refine WC.rs [(0, 2), (1, 1), (2, 2), (3, 1), (4, 1), (5, 2)] rfl ?_
  refine WO.k2 rfl rfl rfl rfl (rn_fieldAddr Try.runUnderlying72 rfl Try.sizeOf24 rfl rfl) ?_
  have f21 := f9.stp S16 rfl rfl
  refine WO.k1 trivial rfl rfl rfl rfl (rn_ld Try.isAgg24 rfl rfl (hvE (f21.ld 1 rfl rfl))) ?_
  refine WO.k2 rfl rfl rfl rfl (rn_fieldAddr Try.runUnderlying72 rfl Try.sizeOf24 rfl rfl) ?_
  have f22 := f8.stp S16 rfl rfl
  refine WO.k1 trivial rfl rfl rfl rfl (rn_ld Try.isAgg24 rfl rfl (hvE (f22.ld 1 rfl rfl))) ?_
  obtain ⟨x15, hx15, h⟩ := Option.bind_eq_some_iff.mp h
  have f23 := g0_1.stp (S3.tr (S7.tr S16)) rfl rfl
  have f24 := g1_1.stp (S3.tr (S7.tr S16)) rfl rfl
  refine WO.call rfl rfl rfl rfl rfl rfl Try.call23 (l_eqInt64SS_ok (κ := fun b => mp [] 0 (K15 b)) (Sl.map f23 (mp [] 0) rfl rfl) (Sl.map f24 (mp [] 0) rfl rfl) hx15) ?_
  rintro _ w25 ⟨k26, rfl, e27⟩
  obtain ⟨K28, S29, m30⟩ := Ent.mixed (l := []) (κ := K15) e27 6 rfl
  refine ⟨trivial, ?_⟩
  refine WO.pn 1 rfl ?_
  refine WO.fin ?_
  refine DN.seq ?_
  revert h
  cases ht32 : (!x15) with
  | true =>
   intro h; replace h := cT h
   refine WC.ct rfl ?_
   refine WC.seq ?_
   refine WC.rs [(0, 2)] rfl ?_
   refine WO.pn 1 rfl ?_
   refine WO.fin ?_
   refine DN.seq ?_
   refine WC.ret ?_
   refine DN.retThen ?_
   have f33 := hE.stp (S3.tr (S7.tr (S16.tr S29))) rfl rfl
   refine DN.res (l := [.tmp 4]) Try.results78 (res_tmp rfl rfl) rfl ?_
   obtain rfl := Option.some.inj h
   exact ⟨K28, rfl, f33⟩
  | false =>
   intro h; replace h := cF h
   refine WC.cf rfl ?_
   refine WC.skip ?_
   refine DN.seq ?_
   refine WC.seq ?_
   refine WC.rs [(0, 2)] rfl ?_
   refine WO.pn 1 rfl ?_
   refine WO.fin ?_
   refine DN.seq ?_
   refine WC.ret ?_
   have f34 := hE.stp (S3.tr (S7.tr (S16.tr S29))) rfl rfl
   refine DN.res (l := [.tmp 4]) Try.results78 (res_tmp rfl rfl) rfl ?_
   obtain rfl := Option.some.inj h
   exact ⟨K28, rfl, f34⟩

/- loop.example/g00869/laws.markArena -/
theorem l_markArena_ok {w : World} {κ : Col} {a0_0 : Option Addr} {u0_0 : Nat} {a0_1 : Option Addr} {u0_1 : Nat} {p0 : Arena} {p1 : Int} (g0_0 : Oc (Ep.int .i64) 2 κ w 2 a0_0 u0_0 p0.Owner) (g0_1 : Oc (Ep.own (Ep.int .i64) 2) 28 κ w 3 a0_1 u0_1 p0.Next) {r : Int × (List Int) × (List (List Int))} (h : l_markArena p0 p1 = some r) : Ret Try.prog 79 [.agg #[.slice a0_0 p0.Owner.length u0_0, .slice a0_1 p0.Next.length u0_1], .int .i64 p1] w (fun v w' => ∃ (κ' : Col), v = .int .i64 r.1 ∧ Ent κ w κ' w' ∧ Oc (Ep.int .i64) 2 κ' w' 2 a0_0 u0_0 r.2.1 ∧ p0.Owner.length = r.2.1.length ∧ Oc (Ep.own (Ep.int .i64) 2) 28 κ' w' 3 a0_1 u0_1 r.2.2 ∧ p0.Next.length = r.2.2.length) := by
 unfold l_markArena at h
 refine Ret.enter Try.func79 rfl Try.ntmps79 rfl ?_
 dsimp only [envOf]
 have hE := Ent.refl κ w
 refine WC.seq ?_
 refine WC.rs [(0, 1), (1, 2)] rfl ?_
 refine WO.box (κ := κ) 4 rfl rfl rfl rfl rfl rfl rfl fun b2 w1 K2 S3 f4 => ⟨trivial, ?_⟩
 refine WO.pn 1 rfl ?_
 refine WO.fin ?_
 refine DN.seq ?_
 refine WC.seq ?_
 refine WC.rs [(0, 2), (1, 1), (2, 2), (3, 1), (4, 2)] rfl ?_
 refine WO.k2 rfl rfl rfl rfl (rn_fieldAddr Try.runUnderlying72 rfl Try.sizeOf28 rfl rfl) ?_
 refine WO.k1 trivial rfl rfl rfl rfl (rn_ld Try.isAgg28 rfl rfl (hvE (f4.ld 0 rfl rfl))) ?_
 refine WO.pn 1 rfl ?_
 obtain ⟨x8, hx8, h⟩ := Option.bind_eq_some_iff.mp h
 have f5 := g0_0.stp S3 rfl rfl
 refine WO.call rfl rfl rfl rfl rfl rfl Try.call69 (l_markInt64S_ok (κ := fun b => mp [(2, 2)] 0 (K2 b)) (f5.map (mp [(2, 2)] 0) rfl rfl) hx8) ?_
 rintro _ w6 ⟨k7, rfl, e8, f9, hn10⟩
 obtain ⟨K11, S12, m13⟩ := Ent.mixed (l := [(2, 2)]) (κ := K2) e8 5 rfl
 refine ⟨trivial, ?_⟩
 have f15 := f9.mx (no_int _) m13 rfl (rfl : 5 + 2 = 7)
 refine WO.pn 1 rfl ?_
 refine WO.fin ?_
 refine DN.seq ?_
 refine WC.seq ?_
 refine WC.rs [(0, 2), (1, 1), (2, 2), (3, 1), (4, 2)] rfl ?_
 refine WO.k2 rfl rfl rfl rfl (rn_fieldAddr Try.runUnderlying72 rfl Try.sizeOf24 rfl rfl) ?_
 have f16 := f4.stp S12 rfl rfl
 refine WO.k1 trivial rfl rfl rfl rfl (rn_ld Try.isAgg24 rfl rfl (hvE (f16.ld 1 rfl rfl))) ?_
 refine WO.pn 1 rfl ?_
 obtain ⟨x12, hx12, h⟩ := Option.bind_eq_some_iff.mp h
 have f17 := g0_1.stp (S3.tr S12) rfl rfl
 refine WO.call rfl rfl rfl rfl rfl rfl Try.call28 (l_markInt64SS_ok (κ := fun b => mp [(3, 2)] 0 (K11 b)) (f17.map (mp [(3, 2)] 0) rfl rfl) hx12) ?_
 rintro _ w18 ⟨k19, rfl, e20, f21, hn22⟩
 obtain ⟨K23, S24, m25⟩ := Ent.mixed (l := [(3, 2)]) (κ := K11) e20 8 rfl
 refine ⟨trivial, ?_⟩
 have f27 := f21.mx (no_own (no_int _) _) m25 rfl (rfl : 8 + 2 = 10)
 refine WO.pn 1 rfl ?_
 refine WO.fin ?_
 refine DN.seq ?_
 refine WC.seq ?_
 refine WC.rs [(0, 2), (1, 2)] rfl ?_
 refine WO.pn 2 rfl ?_
 refine WO.fin ?_
 refine DN.seq ?_
 refine WC.ret ?_
 have f28 := hE.stp (S3.tr (S12.tr S24)) rfl rfl
 have f29 := f15.stp S24 rfl rfl
 refine DN.res (l := [.tmp 4]) Try.results79 (res_tmp rfl rfl) rfl ?_
 obtain rfl := Option.some.inj h
 exact ⟨(fun b => ren [(7, 2), (10, 3)] (K23 b)), rfl, (f28.map (ren [(7, 2), (10, 3)]) rfl rfl), (f29.map (ren [(7, 2), (10, 3)]) rfl rfl), (hn10), (f27.map (ren [(7, 2), (10, 3)]) rfl rfl), (hn22)⟩

/- loop.example/g00869/laws.heldArena -/
theorem l_heldArena_ok {w : World} {κ : Col} {a0_0 : Option Addr} {u0_0 : Nat} {a0_1 : Option Addr} {u0_1 : Nat} {p0 : Arena} {p1 : Int} (g0_0 : Rd (Rp.int .i64) κ w 0 a0_0 u0_0 p0.Owner) (g0_1 : Rd (Rp.sl (Rp.int .i64)) κ w 0 a0_1 u0_1 p0.Next) {r : Int} (h : l_heldArena p0 p1 = some r) : Ret Try.prog 80 [.agg #[.slice a0_0 p0.Owner.length u0_0, .slice a0_1 p0.Next.length u0_1], .int .i64 p1] w (fun v w' => ∃ (κ' : Col), v = .int .i64 r ∧ Ent κ w κ' w') := by
 unfold l_heldArena at h
 refine Ret.enter Try.func80 rfl Try.ntmps80 rfl ?_
 dsimp only [envOf]
 have hE := Ent.refl κ w
 refine WC.seq ?_
 refine WC.rs [(0, 1), (1, 2)] rfl ?_
 refine WO.box (κ := κ) 2 rfl rfl rfl rfl rfl rfl rfl fun b2 w1 K2 S3 f4 => ⟨trivial, ?_⟩
 refine WO.pn 1 rfl ?_
 refine WO.fin ?_
 refine DN.seq ?_
 refine WC.seq ?_
 refine WC.rs [(0, 2), (1, 1), (2, 2), (3, 1), (4, 2)] rfl ?_
 refine WO.k2 rfl rfl rfl rfl (rn_fieldAddr Try.runUnderlying72 rfl Try.sizeOf28 rfl rfl) ?_
 refine WO.k1 trivial rfl rfl rfl rfl (rn_ld Try.isAgg28 rfl rfl (hvE (f4.ld 0 rfl rfl))) ?_
 refine WO.pn 1 rfl ?_
 obtain ⟨x8, hx8, h⟩ := Option.bind_eq_some_iff.mp h
 have f5 := g0_0.stp S3 rfl rfl
 refine WO.call rfl rfl rfl rfl rfl rfl Try.call70 (l_heldInt64S_ok (κ := fun b => mp [] 0 (K2 b)) (Sl.map f5 (mp [] 0) rfl rfl) hx8) ?_
 rintro _ w6 ⟨k7, rfl, e8⟩
 obtain ⟨K9, S10, m11⟩ := Ent.mixed (l := []) (κ := K2) e8 3 rfl
 refine ⟨trivial, ?_⟩
 refine WO.pn 1 rfl ?_
 refine WO.fin ?_
 refine DN.seq ?_
 refine WC.seq ?_
 refine WC.seq ?_
 refine WC.rs [(0, 2), (1, 2)] rfl ?_
 refine WO.pn 2 rfl ?_
 refine WO.fin ?_
 refine DN.seq ?_
 revert h
 cases ht13 : decide (x8 < 0) with
 | true =>
  intro h; replace h := cT h
  refine WC.ct rfl ?_
  refine WC.seq ?_
  refine WC.rs [(0, 2)] rfl ?_
  refine WO.pn 1 rfl ?_
  refine WO.fin ?_
  refine DN.seq ?_
  refine WC.ret ?_
  refine DN.retThen ?_
  have f14 := hE.stp (S3.tr S10) rfl rfl
  refine DN.res (l := [.tmp 4]) Try.results80 (res_tmp rfl rfl) rfl ?_
  obtain rfl := Option.some.inj h
  exact ⟨K9, rfl, f14⟩
 | false =>
  intro h; replace h := cF h
  refine WC.cf rfl ?_
  refine WC.skip ?_
  refine DN.seq ?_
  refine WC.seq ?_
  refine WC.rs [(0, 2), (1, 1), (2, 2), (3, 1), (4, 2)] rfl ?_
  refine WO.k2 rfl rfl rfl rfl (rn_fieldAddr Try.runUnderlying72 rfl Try.sizeOf24 rfl rfl) ?_
  have f15 := f4.stp S10 rfl rfl
  refine WO.k1 trivial rfl rfl rfl rfl (rn_ld Try.isAgg24 rfl rfl (hvE (f15.ld 1 rfl rfl))) ?_
  refine WO.pn 1 rfl ?_
  obtain ⟨x14, hx14, h⟩ := Option.bind_eq_some_iff.mp h
  have f16 := g0_1.stp (S3.tr S10) rfl rfl
  refine WO.call rfl rfl rfl rfl rfl rfl Try.call30 (l_heldInt64SS_ok (κ := fun b => mp [] 0 (K9 b)) (Sl.map f16 (mp [] 0) rfl rfl) hx14) ?_
  rintro _ w17 ⟨k18, rfl, e19⟩
  obtain ⟨K20, S21, m22⟩ := Ent.mixed (l := []) (κ := K9) e19 5 rfl
  refine ⟨trivial, ?_⟩
  refine WO.pn 1 rfl ?_
  refine WO.fin ?_
  refine DN.seq ?_
  refine WC.seq ?_
  refine WC.seq ?_
  refine WC.rs [(0, 2), (1, 2)] rfl ?_
  refine WO.pn 2 rfl ?_
  refine WO.fin ?_
  refine DN.seq ?_
  revert h
  cases ht24 : decide (x14 < 0) with
  | true =>
   intro h; replace h := cT h
   refine WC.ct rfl ?_
   refine WC.seq ?_
   refine WC.rs [(0, 2)] rfl ?_
   refine WO.pn 1 rfl ?_
   refine WO.fin ?_
   refine DN.seq ?_
   refine WC.ret ?_
   refine DN.retThen ?_
   have f25 := hE.stp (S3.tr (S10.tr S21)) rfl rfl
   refine DN.res (l := [.tmp 4]) Try.results80 (res_tmp rfl rfl) rfl ?_
   obtain rfl := Option.some.inj h
   exact ⟨K20, rfl, f25⟩
  | false =>
   intro h; replace h := cF h
   refine WC.cf rfl ?_
   refine WC.skip ?_
   refine DN.seq ?_
   refine WC.seq ?_
   refine WC.rs [(0, 2), (1, 2)] rfl ?_
   refine WO.pn 2 rfl ?_
   refine WO.fin ?_
   refine DN.seq ?_
   refine WC.ret ?_
   have f26 := hE.stp (S3.tr (S10.tr S21)) rfl rfl
   refine DN.res (l := [.tmp 4]) Try.results80 (res_tmp rfl rfl) rfl ?_
   obtain rfl := Option.some.inj h
   exact ⟨K20, rfl, f26⟩

/- slices.ContainsFunc[[]int64,int64] -/
theorem slices_ContainsFunc_I_int64__i_areLetters_1_ok {w : World} {κ : Col} {a0 : Option Addr} {u0 : Nat} {p0 : (List Int)} {c1_0 : Int} {b1_0 : Nat} (g0 : Rd (Rp.int .i64) κ w 0 a0 u0 p0) (gb1_0 : Bc κ w 0 b1_0 2 [.int .i64 c1_0]) {r : Bool} (h : slices_ContainsFunc_I_int64__i_areLetters_1 p0 c1_0 = some r) : Ret Try.prog 130 [.slice a0 p0.length u0, .func (.func 131) #[] #[.pointer (some ⟨b1_0, 0, none⟩)]] w (fun v w' => ∃ (κ' : Col), v = .bool r ∧ Ent κ w κ' w') := by
 unfold slices_ContainsFunc_I_int64__i_areLetters_1 at h
 refine Ret.enter Try.func130 rfl Try.ntmps130 rfl ?_
 dsimp only [envOf]
 have hE := Ent.refl κ w
 refine WC.seq ?_
 refine WC.rs [(0, 2)] rfl ?_
 refine WO.pn 1 rfl ?_
 refine WO.fin ?_
 refine DN.seq ?_
 refine WC.seq ?_
 refine WC.rs [(0, 2), (1, 2), (2, 1), (3, 2), (4, 2)] rfl ?_
 refine WO.pn 2 rfl ?_
 obtain ⟨x7, hx7, h⟩ := Option.bind_eq_some_iff.mp h
 refine WO.call rfl rfl rfl rfl rfl rfl Try.call150 (slices_IndexFunc_I_int64__i_areLetters_1_ok (κ := fun b => mp [] 0 (κ b)) (Sl.map g0 (mp [] 0) rfl rfl) (gb1_0.map (mp [] 0) rfl rfl) hx7) ?_
 rintro _ w1 ⟨k2, rfl, e3⟩
 obtain ⟨K4, S5, m6⟩ := Ent.mixed (l := []) (κ := κ) e3 2 rfl
 refine ⟨trivial, ?_⟩
 refine WO.pn 2 rfl ?_
 refine WO.fin ?_
 refine DN.seq ?_
 refine WC.ret ?_
 have f8 := hE.stp S5 rfl rfl
 refine DN.res (l := [.tmp 4]) Try.results130 (res_tmp rfl rfl) rfl ?_
 obtain rfl := Option.some.inj h
 exact ⟨K4, rfl, f8⟩

end Go.Proofs.Ytnmjfjppgpkieaa
