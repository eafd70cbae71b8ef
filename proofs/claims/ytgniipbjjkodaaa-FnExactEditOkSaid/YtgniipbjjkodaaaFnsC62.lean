/- The walks, part 2. By program. -/
import Derived.Test.YtgniipbjjkodaaaFnsC61
set_option linter.unusedVariables false
set_option linter.unusedSimpArgs false
namespace Go.Proofs.Ytgniipbjjkodaaa
open Go Go.Wk Go.Proofs
set_option maxRecDepth 100000
set_option maxHeartbeats 1000000

/- loop.example/g00869/laws.szParity -/
theorem l_szParity_ok {w : World} {κ : Col} {a0_0_0 : Option Addr} {u0_0_0 : Nat} {a0_0_1 : Option Addr} {u0_0_1 : Nat} {a0_1 : Option Addr} {u0_1 : Nat} {p0 : Parity} {p1 : Int} (g0_0_0 : Rd (Rp.int .i64) κ w 0 a0_0_0 u0_0_0 p0.Arena.Owner) (g0_0_1 : Rd (Rp.sl (Rp.int .i64)) κ w 0 a0_0_1 u0_0_1 p0.Arena.Next) (g0_1 : Rd (Rp.int .i64) κ w 0 a0_1 u0_1 p0.Prio) {r : Int} (h : l_szParity p0 p1 = some r) : Ret Try.prog 33 [.agg #[.slice a0_0_0 p0.Arena.Owner.length u0_0_0, .slice a0_0_1 p0.Arena.Next.length u0_0_1, .slice a0_1 p0.Prio.length u0_1], .int .i64 p1] w (fun v w' => ∃ (κ' : Col), v = .int .i64 r ∧ Ent κ w κ' w') := by
 unfold l_szParity at h
 refine Ret.enter Try.func33 rfl Try.ntmps33 rfl ?_
 dsimp only [envOf]
 have hE := Ent.refl κ w
 refine WC.seq ?_
 refine WC.rs [(0, 1), (1, 2)] rfl ?_
 refine WO.box (κ := κ) 2 rfl rfl rfl rfl rfl rfl rfl fun b2 w1 K2 S3 f4 => ⟨trivial, ?_⟩
 refine WO.pn 1 rfl ?_
 refine WO.fin ?_
 refine DN.seq ?_
 refine WC.seq ?_
 refine WC.rs [(0, 2), (1, 1), (2, 2), (3, 1), (4, 2)] rfl ?_
 refine WO.k2 rfl rfl rfl rfl (rn_fieldAddr Try.runUnderlying57 rfl Try.sizeOf55 rfl rfl) ?_
 refine WO.k1 trivial rfl rfl rfl rfl (rn_la (cs := [.slice a0_0_0 p0.Arena.Owner.length u0_0_0, .slice a0_0_1 p0.Arena.Next.length u0_0_1]) Try.isAgg55 Try.sizeOf55 rfl rfl rfl (haE (f4.lds 0 2 rfl))) ?_
 refine WO.pn 1 rfl ?_
 obtain ⟨x8, hx8, h⟩ := Option.bind_eq_some_iff.mp h
 have f5 := g0_0_0.stp S3 rfl rfl
 have f6 := g0_0_1.stp S3 rfl rfl
 refine WO.call rfl rfl rfl rfl rfl rfl Try.call91 (l_szArena_ok (κ := fun b => mp [] 0 (K2 b)) (Sl.map f5 (mp [] 0) rfl rfl) (Sl.map f6 (mp [] 0) rfl rfl) hx8) ?_
 rintro _ w7 ⟨k8, rfl, e9⟩
 obtain ⟨K10, S11, m12⟩ := Ent.mixed (l := []) (κ := K2) e9 3 rfl
 refine ⟨trivial, ?_⟩
 refine WO.pn 1 rfl ?_
 refine WO.fin ?_
 refine DN.seq ?_
 refine WC.seq ?_
 refine WC.seq ?_
 refine WC.rs [(0, 2), (1, 2)] rfl ?_
 refine WO.pn 2 rfl ?_
 refine WO.fin ?_
 refine DN.seq ?_
 revert h
 cases ht14 : decide (x8 < 0) with
 | true =>
  intro h; replace h := cT h
  refine WC.ct rfl ?_
  refine WC.seq ?_
  refine WC.rs [(0, 2)] rfl ?_
  refine WO.pn 1 rfl ?_
  refine WO.fin ?_
  refine DN.seq ?_
  refine WC.ret ?_
  refine DN.retThen ?_
  have f15 := hE.stp (S3.tr S11) rfl rfl
  refine DN.res (l := [.tmp 4]) Try.results33 (res_tmp rfl rfl) rfl ?_
  obtain rfl := Option.some.inj h
  exact ⟨K10, rfl, f15⟩
 | false =>
  intro h; replace h := cF h
  refine WC.cf rfl ?_
  refine WC.skip ?_
  refine DN.seq ?_
  refine WC.seq ?_
  refine WC.rs [(0, 2), (1, 1), (2, 2), (3, 1), (4, 2)] rfl ?_
  refine WO.k2 rfl rfl rfl rfl (rn_fieldAddr Try.runUnderlying57 rfl Try.sizeOf24 rfl rfl) ?_
  have f16 := f4.stp S11 rfl rfl
  refine WO.k1 trivial rfl rfl rfl rfl (rn_ld Try.isAgg24 rfl rfl (hvE (f16.ld 2 rfl rfl))) ?_
  refine WO.pn 1 rfl ?_
  obtain ⟨x14, hx14, h⟩ := Option.bind_eq_some_iff.mp h
  have f17 := g0_1.stp (S3.tr S11) rfl rfl
  refine WO.call rfl rfl rfl rfl rfl rfl Try.call68 (l_szInt64S_ok (κ := fun b => mp [] 0 (K10 b)) (Sl.map f17 (mp [] 0) rfl rfl) hx14) ?_
  rintro _ w18 ⟨k19, rfl, e20⟩
  obtain ⟨K21, S22, m23⟩ := Ent.mixed (l := []) (κ := K10) e20 5 rfl
  refine ⟨trivial, ?_⟩
  refine WO.pn 1 rfl ?_
  refine WO.fin ?_
  refine DN.seq ?_
  refine WC.seq ?_
  refine WC.seq ?_
  refine WC.rs [(0, 2), (1, 2)] rfl ?_
  refine WO.pn 2 rfl ?_
  refine WO.fin ?_
  refine DN.seq ?_
  revert h
  cases ht25 : decide (x14 < 0) with
  | true =>
   intro h; replace h := cT h
   refine WC.ct rfl ?_
   refine WC.seq ?_
   refine WC.rs [(0, 2)] rfl ?_
   refine WO.pn 1 rfl ?_
   refine WO.fin ?_
   refine DN.seq ?_
   refine WC.ret ?_
   refine DN.retThen ?_
   have f26 := hE.stp (S3.tr (S11.tr S22)) rfl rfl
   refine DN.res (l := [.tmp 4]) Try.results33 (res_tmp rfl rfl) rfl ?_
   obtain rfl := Option.some.inj h
   exact ⟨K21, rfl, f26⟩
  | false =>
   intro h; replace h := cF h
   refine WC.cf rfl ?_
   refine WC.skip ?_
   refine DN.seq ?_
   refine WC.seq ?_
   refine WC.rs [(0, 2), (1, 2)] rfl ?_
   refine WO.pn 2 rfl ?_
   refine WO.fin ?_
   refine DN.seq ?_
   refine WC.ret ?_
   have f27 := hE.stp (S3.tr (S11.tr S22)) rfl rfl
   refine DN.res (l := [.tmp 4]) Try.results33 (res_tmp rfl rfl) rfl ?_
   obtain rfl := Option.some.inj h
   exact ⟨K21, rfl, f27⟩

/- loop.example/g00869/laws.toParity -/
theorem l_toParity_ok {w : World} {κ : Col} {a0_0_0 : Option Addr} {u0_0_0 : Nat} {a0_0_1 : Option Addr} {u0_0_1 : Nat} {a0_1 : Option Addr} {u0_1 : Nat} {p0 : Parity} (g0_0_0 : Rd (Rp.int .i64) κ w 0 a0_0_0 u0_0_0 p0.Arena.Owner) (g0_0_1 : Rd (Rp.sl (Rp.int .i64)) κ w 0 a0_0_1 u0_0_1 p0.Arena.Next) (g0_1 : Rd (Rp.int .i64) κ w 0 a0_1 u0_1 p0.Prio) {r : Parity} (h : l_toParity p0 = some r) : Ret Try.prog 35 [.agg #[.slice a0_0_0 p0.Arena.Owner.length u0_0_0, .slice a0_0_1 p0.Arena.Next.length u0_0_1, .slice a0_1 p0.Prio.length u0_1]] w (fun v w' => ∃ (κ' : Col) (ra0 : Option Addr) (ru0 : Nat) (ra1 : Option Addr) (ru1 : Nat) (ra2 : Option Addr) (ru2 : Nat), v = .agg #[.slice ra0 r.Arena.Owner.length ru0, .slice ra1 r.Arena.Next.length ru1, .slice ra2 r.Prio.length ru2] ∧ Ent κ w κ' w' ∧ Oc (Ep.int .i64) 2 κ' w' 2 ra0 ru0 r.Arena.Owner ∧ Oc (Ep.own (Ep.int .i64) 2) 24 κ' w' 3 ra1 ru1 r.Arena.Next ∧ Oc (Ep.int .i64) 2 κ' w' 4 ra2 ru2 r.Prio) := by
 unfold l_toParity at h
 refine Ret.enter Try.func35 rfl Try.ntmps35 rfl ?_
 dsimp only [envOf]
 have hE := Ent.refl κ w
 refine WC.seq ?_
 refine WC.rs [(0, 1), (1, 1)] rfl ?_
 refine WO.box (κ := κ) 2 rfl rfl rfl rfl rfl rfl rfl fun b1 w1 K2 S3 f4 => ⟨trivial, ?_⟩
 refine WO.alloc (κ := K2) 3 rfl rfl rfl rfl rfl Try.zeroValue64 rfl fun b2 w5 K6 S7 f8 => ⟨trivial, ?_⟩
 refine WO.fin ?_
 refine DN.seq ?_
 refine WC.seq ?_
 refine WC.rs [(0, 1)] rfl ?_
 refine WO.alloc (κ := K6) 4 rfl rfl rfl rfl rfl Try.zeroValue64 rfl fun b3 w9 K10 S11 f12 => ⟨trivial, ?_⟩
 refine WO.fin ?_
 refine DN.seq ?_
 refine WC.seq ?_
 refine WC.rs [(0, 2), (1, 1), (2, 1), (3, 2), (4, 1)] rfl ?_
 refine WO.k2 rfl rfl rfl rfl (rn_fieldAddr Try.runUnderlying57 rfl Try.sizeOf55 rfl rfl) ?_
 have f13 := f4.stp (S7.tr S11) rfl rfl
 refine WO.k1 trivial rfl rfl rfl rfl (rn_la (cs := [.slice a0_0_0 p0.Arena.Owner.length u0_0_0, .slice a0_0_1 p0.Arena.Next.length u0_0_1]) Try.isAgg55 Try.sizeOf55 rfl rfl rfl (haE (f13.lds 0 2 rfl))) ?_
 obtain ⟨x6, hx6, h⟩ := Option.bind_eq_some_iff.mp h
 have f14 := g0_0_0.stp (S3.tr (S7.tr S11)) rfl rfl
 have f15 := g0_0_1.stp (S3.tr (S7.tr S11)) rfl rfl
 refine WO.call rfl rfl rfl rfl rfl rfl Try.call94 (l_toArena_ok (κ := fun b => mp [] 0 (K10 b)) (Sl.map f14 (mp [] 0) rfl rfl) (Sl.map f15 (mp [] 0) rfl rfl) hx6) ?_
 rintro _ w16 ⟨k17, a6_0, u6_0, a6_1, u6_1, rfl, e18, f19, f20⟩
 obtain ⟨K21, S22, m23⟩ := Ent.mixed (l := []) (κ := K10) e18 5 rfl
 refine ⟨trivial, ?_⟩
 have f25 := f19.mx (no_int _) m23 rfl (rfl : 5 + 2 = 7)
 have f26 := f20.mx (no_own (no_int _) _) m23 rfl (rfl : 5 + 3 = 8)
 refine WO.k2 rfl rfl rfl rfl (rn_fieldAddr Try.runUnderlying64 rfl Try.sizeOf62 rfl rfl) ?_
 have f27 := f12.stp S22 rfl rfl
 refine WO.stB (κ := K21) 4 (off := 0) (vc := [.slice a6_0 x6.Owner.length u6_0, .slice a6_1 x6.Next.length u6_1]) (cs' := [.slice a6_0 x6.Owner.length u6_0, .slice a6_1 x6.Next.length u6_1, .slice none 0 0]) rfl rfl rfl rfl rfl rfl rfl Try.sizeOf62 rfl rfl f27 rfl rfl fun w28 S29 f30 => ⟨trivial, ?_⟩
 refine WO.fin ?_
 refine DN.seq ?_
 refine WC.seq ?_
 refine WC.rs [(0, 2), (1, 1), (2, 1), (3, 2), (4, 1)] rfl ?_
 refine WO.k2 rfl rfl rfl rfl (rn_fieldAddr Try.runUnderlying57 rfl Try.sizeOf24 rfl rfl) ?_
 have f31 := f13.stp (S22.tr S29) rfl rfl
 refine WO.k1 trivial rfl rfl rfl rfl (rn_ld Try.isAgg24 rfl rfl (hvE (f31.ld 2 rfl rfl))) ?_
 obtain ⟨x10, hx10, h⟩ := Option.bind_eq_some_iff.mp h
 have f32 := g0_1.stp (S3.tr (S7.tr (S11.tr (S22.tr S29)))) rfl rfl
 refine WO.call rfl rfl rfl rfl rfl rfl Try.call22 (l_toInt64S_ok (κ := fun b => mp [] 0 (K21 b)) (Sl.map f32 (mp [] 0) rfl rfl) hx10) ?_
 rintro _ w33 ⟨k34, a10_0, u10_0, rfl, e35, f36⟩
 obtain ⟨K37, S38, m39⟩ := Ent.mixed (l := []) (κ := K21) e35 9 rfl
 refine ⟨trivial, ?_⟩
 have f41 := f36.mx (no_int _) m39 rfl (rfl : 9 + 2 = 11)
 refine WO.k2 rfl rfl rfl rfl (rn_fieldAddr Try.runUnderlying64 rfl Try.sizeOf24 rfl rfl) ?_
 have f42 := f30.stp S38 rfl rfl
 refine WO.stB (κ := K37) 4 (off := 2) (vc := [.slice a10_0 x10.length u10_0]) (cs' := [.slice a6_0 x6.Owner.length u6_0, .slice a6_1 x6.Next.length u6_1, .slice a10_0 x10.length u10_0]) rfl rfl rfl rfl rfl rfl rfl Try.sizeOf24 rfl rfl f42 rfl rfl fun w43 S44 f45 => ⟨trivial, ?_⟩
 refine WO.fin ?_
 refine DN.seq ?_
 refine WC.seq ?_
 refine WC.rs [(0, 1), (1, 1)] rfl ?_
 refine WO.k1 trivial rfl rfl rfl rfl (rn_la (cs := [.slice a6_0 x6.Owner.length u6_0, .slice a6_1 x6.Next.length u6_1, .slice a10_0 x10.length u10_0]) Try.isAgg64 Try.sizeOf64 rfl rfl rfl (haE f45.cells)) ?_
 have f46 := f8.stp (S11.tr (S22.tr (S29.tr (S38.tr S44)))) rfl rfl
 refine WO.stB0 (κ := K37) 3 (vc := [.slice a6_0 x6.Owner.length u6_0, .slice a6_1 x6.Next.length u6_1, .slice a10_0 x10.length u10_0]) rfl rfl rfl rfl rfl rfl rfl Try.sizeOf64 rfl rfl f46 rfl fun w47 S48 f49 => ⟨trivial, ?_⟩
 refine WO.fin ?_
 refine DN.seq ?_
 refine WC.ret ?_
 have f50 := hE.stp (S3.tr (S7.tr (S11.tr (S22.tr (S29.tr (S38.tr (S44.tr S48))))))) rfl rfl
 have f51 := f25.stp (S29.tr (S38.tr (S44.tr S48))) rfl rfl
 have f52 := f26.stp (S29.tr (S38.tr (S44.tr S48))) rfl rfl
 have f53 := f41.stp (S44.tr S48) rfl rfl
 refine DN.res (l := [.cell 2 64]) Try.results35 (res_cellA rfl f49 Try.isAgg64 Try.sizeOf64 rfl rfl) rfl ?_
 obtain rfl := Option.some.inj h
 exact ⟨(fun b => ren [(7, 2), (8, 3), (11, 4)] (K37 b)), a6_0, u6_0, a6_1, u6_1, a10_0, u10_0, rfl, (f50.map (ren [(7, 2), (8, 3), (11, 4)]) rfl rfl), (f51.map (ren [(7, 2), (8, 3), (11, 4)]) rfl rfl), (f52.map (ren [(7, 2), (8, 3), (11, 4)]) rfl rfl), (f53.map (ren [(7, 2), (8, 3), (11, 4)]) rfl rfl)⟩

/- loop.example/g00869/spec.ArenaOk -/
theorem s_ArenaOk_ok {w : World} {κ : Col} {a0_0 : Option Addr} {u0_0 : Nat} {a0_1 : Option Addr} {u0_1 : Nat} {p0 : Arena} (g0_0 : Rd (Rp.int .i64) κ w 0 a0_0 u0_0 p0.Owner) (g0_1 : Rd (Rp.sl (Rp.int .i64)) κ w 0 a0_1 u0_1 p0.Next) {r : Bool} (h : s_ArenaOk p0 = some r) : Ret Try.prog 142 [.agg #[.slice a0_0 p0.Owner.length u0_0, .slice a0_1 p0.Next.length u0_1]] w (fun v w' => ∃ (κ' : Col), v = .bool r ∧ Ent κ w κ' w') := by
 unfold s_ArenaOk at h
 refine Ret.enter Try.func142 rfl Try.ntmps142 rfl ?_
 dsimp only [envOf]
 have hE := Ent.refl κ w
 refine WC.seq ?_
 refine WC.rs [(0, 1), (1, 2)] rfl ?_
 refine WO.box (κ := κ) 2 rfl rfl rfl rfl rfl rfl rfl fun b1 w1 K2 S3 f4 => ⟨trivial, ?_⟩
 refine WO.pn 1 rfl ?_
 refine WO.fin ?_
 refine DN.seq ?_
 refine WC.seq ?_
 refine WC.rs [(0, 2), (1, 1), (2, 2), (3, 2)] rfl ?_
 refine WO.k2 rfl rfl rfl rfl (rn_fieldAddr Try.runUnderlying62 rfl Try.sizeOf24 rfl rfl) ?_
 refine WO.k1 trivial rfl rfl rfl rfl (rn_ld Try.isAgg24 rfl rfl (hvE (f4.ld 0 rfl rfl))) ?_
 refine WO.k2 rfl rfl rfl rfl (rn_len Try.runUnderlying24 rfl rfl) ?_
 refine WO.pn 1 rfl ?_
 refine WO.fin ?_
 refine DN.seq ?_
 refine WC.seq ?_
 refine WC.seq ?_
 refine WC.rs [(0, 2), (1, 1), (2, 2), (3, 2), (4, 2), (5, 1), (6, 2), (7, 2), (8, 1), (9, 2), (10, 2), (11, 2)] rfl ?_
 refine WO.pn 1 rfl ?_
 obtain ⟨x9, hx9, h⟩ := Option.bind_eq_some_iff.mp h
 refine WO.call rfl rfl rfl rfl rfl rfl Try.call84 (s_l1In_ok (κ := fun b => mp [] 0 (K2 b)) hx9) ?_
 rintro _ w5 ⟨k6, rfl, e7⟩
 obtain ⟨K8, S9, m10⟩ := Ent.mixed (l := []) (κ := K2) e7 3 rfl
 refine ⟨trivial, ?_⟩
 refine WO.pn 2 rfl ?_
 obtain ⟨p19, h, hK12⟩ := Option.bind_eq_some_iff.mp h
 refine WO.meet [(4, 2), (5, 1), (6, 2), (7, 2), (8, 1), (9, 2), (10, 2), (11, 2)] [] (fun L w' => L = [(1, .pointer (some ⟨b1, 0, none⟩)), (3, .int .i64 (p0.Owner.length : Int)), (19, .bool p19)] ∧ ∃ κ', Stp [] K8 w5 κ' w') trivial ?_ ?_
 ·
  revert h
  cases ht13 : (!x9) with
  | true =>
   intro h; replace h := cT h
   refine WO.pn 1 rfl ?_
   refine WO.ls rfl rfl rfl rfl ?_
   refine WO.pn 2 rfl ?_
   refine WO.ls rfl rfl rfl rfl ?_
   refine WO.pn 3 rfl ?_
   obtain rfl := Option.some.inj h
   exact WO.met _ trivial ⟨rfl, _, (Stp.refl _ _).wk rfl⟩ fun a ha => (ha.more (ha.more (ha.more ha.nil rfl) rfl) rfl)
  | false =>
   intro h; replace h := cF h
   refine WO.k2 rfl rfl rfl rfl (rn_fieldAddr Try.runUnderlying62 rfl Try.sizeOf25 rfl rfl) ?_
   have f14 := f4.stp S9 rfl rfl
   refine WO.k1 trivial rfl rfl rfl rfl (rn_ld Try.isAgg25 rfl rfl (hvE (f14.ld 1 rfl rfl))) ?_
   refine WO.k2 rfl rfl rfl rfl (rn_len Try.runUnderlying25 rfl rfl) ?_
   refine WO.k2 rfl rfl rfl rfl (rn_fieldAddr Try.runUnderlying62 rfl Try.sizeOf24 rfl rfl) ?_
   refine WO.k1 trivial rfl rfl rfl rfl (rn_ld Try.isAgg24 rfl rfl (hvE (f14.ld 0 rfl rfl))) ?_
   refine WO.k2 rfl rfl rfl rfl (rn_len Try.runUnderlying24 rfl rfl) ?_
   refine WO.pn 2 rfl ?_
   obtain rfl := Option.some.inj h
   exact WO.met _ trivial ⟨rfl, _, (Stp.refl _ _).wk rfl⟩ fun a ha => (ha.more (ha.more (ha.more ha.nil rfl) rfl) rfl)
 rintro _ w15 _ ⟨rfl, K16, S17⟩
 have h := hK12
 refine WO.fin ?_
 refine DN.seq ?_
 revert h
 cases ht18 : p19 with
 | true =>
  intro h; replace h := cT h
  refine WC.ct rfl ?_
  refine WC.seq ?_
  refine WC.rs [(0, 2)] rfl ?_
  refine WO.pn 1 rfl ?_
  refine WO.fin ?_
  refine DN.seq ?_
  refine WC.ret ?_
  refine DN.retThen ?_
  have f19 := hE.stp (S3.tr (S9.tr S17)) rfl rfl
  refine DN.res (l := [.tmp 2]) Try.results142 (res_tmp rfl rfl) rfl ?_
  obtain rfl := Option.some.inj h
  exact ⟨K16, rfl, f19⟩
 | false =>
  intro h; replace h := cF h
  refine WC.cf rfl ?_
  refine WC.skip ?_
  refine DN.seq ?_
  refine WC.seq ?_
  refine WC.seq ?_
  refine WC.rs [(0, 2)] rfl ?_
  refine WO.pn 1 rfl ?_
  refine WO.fin ?_
  refine DN.seq ?_
  have hN20 : (p0.Owner.length : Int) ≤ 9223372036854775807 := g0_0.len_le
  obtain ⟨q2, hq22, hK21⟩ := Option.bind_eq_some_iff.mp h
  clear h
  refine WC.meet (fun L w' => ∃ (κ' : Col), L = [] ∧ Stp [] K16 w15 κ' w' ∧ q2 = Sum.inr ()) ?_ ?_
  ·
   refine WC.block ?_
   refine WC.loop (fun k L w' => ∃ (κ' : Col) (v4 : Int), L = [(1, .pointer (some ⟨b1, 0, none⟩)), (3, .int .i64 (p0.Owner.length : Int)), (4, .int .i64 v4)] ∧ Stp [] K16 w15 κ' w' ∧ 0 ≤ v4 ∧ Int.toNat ((p0.Owner.length : Int) - v4) = k ∧ cntM (s_ArenaOk_b0 p0) k v4 () = some q2) ⟨_, _, ⟨K16, 0, rfl, (Stp.refl _ _).wk rfl, (by decide), (by simp), hq22⟩, fun a ha => (ha.more (ha.more (ha.more ha.nil rfl) rfl) rfl)⟩ ?_
   rintro k _ w26 ⟨K27, v4, rfl, S28, hj20, hJ20, h⟩
   rcases k with _ | k
   ·
    have hk29 := h; obtain ⟨o20, h⟩ := ex_eq (Sum.inr (Sum.inl ()) : Bool ⊕ ((Unit) ⊕ (Unit)))
    have hc20 : decide (v4 < (p0.Owner.length : Int)) = false := decide_eq_false (by omega)
    refine WC.seq ?_
    refine WC.seq ?_
    refine WC.rs [(0, 2), (1, 2), (2, 1), (3, 2), (4, 2)] rfl ?_
    refine WO.pn 1 rfl ?_
    refine WO.k2 rfl rfl rfl rfl (rn_fieldAddr Try.runUnderlying62 rfl Try.sizeOf24 rfl rfl) ?_
    have f30 := f4.stp (S9.tr (S17.tr S28)) rfl rfl
    refine WO.k1 trivial rfl rfl rfl rfl (rn_ld Try.isAgg24 rfl rfl (hvE (f30.ld 0 rfl rfl))) ?_
    refine WO.k2 rfl rfl rfl rfl (rn_len Try.runUnderlying24 rfl rfl) ?_
    refine WO.pn 1 rfl ?_
    refine WO.fin ?_
    refine DN.seq ?_
    refine WC.cf' rfl hc20 ?_
    refine WC.exit ?_
    refine DN.exitThen ?_
    refine DN.exitThen ?_
    obtain rfl := Option.some.inj h
    have h := hk29
    refine DN.hit ?_
    obtain rfl := Option.some.inj h
    exact DN.meet _ ⟨K27, rfl, S28.wk rfl, rfl⟩ fun a ha => ha.nil
   ·
    obtain ⟨o20, h, hk29⟩ := Option.bind_eq_some_iff.mp h; unfold s_ArenaOk_b0 at h
    have hc20 : decide (v4 < (p0.Owner.length : Int)) = true := decide_eq_true (by omega)
    refine WC.seq ?_
    refine WC.seq ?_
    refine WC.rs [(0, 2), (1, 2), (2, 1), (3, 2), (4, 2)] rfl ?_
    refine WO.pn 1 rfl ?_
    refine WO.k2 rfl rfl rfl rfl (rn_fieldAddr Try.runUnderlying62 rfl Try.sizeOf24 rfl rfl) ?_
    have f31 := f4.stp (S9.tr (S17.tr S28)) rfl rfl
    refine WO.k1 trivial rfl rfl rfl rfl (rn_ld Try.isAgg24 rfl rfl (hvE (f31.ld 0 rfl rfl))) ?_
    refine WO.k2 rfl rfl rfl rfl (rn_len Try.runUnderlying24 rfl rfl) ?_
    refine WO.pn 1 rfl ?_
    refine WO.fin ?_
    refine DN.seq ?_
    refine WC.ct' rfl hc20 ?_
    refine WC.skip ?_
    refine DN.seq ?_
    refine WC.seq ?_
    refine WC.block ?_
    refine WC.seq ?_
    refine WC.rs [(0, 2), (1, 1), (2, 2), (3, 2), (4, 1), (5, 1), (6, 2), (7, 2), (8, 2), (9, 1), (10, 2), (11, 2), (12, 1), (13, 2), (14, 2), (15, 2), (16, 2), (17, 2), (18, 1), (19, 2), (20, 2), (21, 1), (22, 2), (23, 2), (24, 2), (25, 2), (26, 2), (27, 1), (28, 2), (29, 2), (30, 1), (31, 2), (32, 1), (33, 2), (34, 2)] rfl ?_
    refine WO.k2 rfl rfl rfl rfl (rn_fieldAddr Try.runUnderlying62 rfl Try.sizeOf24 rfl rfl) ?_
    refine WO.k1 trivial rfl rfl rfl rfl (rn_ld Try.isAgg24 rfl rfl (hvE (f31.ld 0 rfl rfl))) ?_
    refine WO.pn 1 rfl ?_
    obtain ⟨x30, hx30, h⟩ := Option.bind_eq_some_iff.mp h
    refine WO.k2 rfl rfl rfl rfl (rn_index g0_0 hx30 Try.runUnderlying24 Try.sizeOf2 rfl rfl rfl rfl) ?_
    have f32 := g0_0.stp (S3.tr (S9.tr (S17.tr S28))) rfl rfl
    refine WO.k1 trivial rfl rfl rfl rfl (rn_ld Try.isAgg2 rfl rfl (hvE (f32.gInt hx30))) ?_
    obtain ⟨x32, hx32, h⟩ := Option.bind_eq_some_iff.mp h
    refine WO.call rfl rfl rfl rfl rfl rfl Try.call84 (s_l1In_ok (κ := fun b => mp [] 0 (K27 b)) hx32) ?_
    rintro _ w33 ⟨k34, rfl, e35⟩
    obtain ⟨K36, S37, m38⟩ := Ent.mixed (l := []) (κ := K27) e35 5 rfl
    refine ⟨trivial, ?_⟩
    refine WO.pn 2 rfl ?_
    obtain ⟨p42, h, hK40⟩ := Option.bind_eq_some_iff.mp h
    refine WO.meet [(8, 2), (9, 1), (10, 2), (11, 2), (12, 1), (13, 2), (14, 2), (15, 2)] [(16, 2), (17, 2), (18, 1), (19, 2), (20, 2), (21, 1), (22, 2), (23, 2), (24, 2), (25, 2), (26, 2), (27, 1), (28, 2), (29, 2), (30, 1), (31, 2), (32, 1), (33, 2), (34, 2)] (fun L w' => L = [(1, .pointer (some ⟨b1, 0, none⟩)), (3, .int .i64 (p0.Owner.length : Int)), (4, .int .i64 v4), (42, .bool p42)] ∧ ∃ κ', Stp [] K36 w33 κ' w') trivial ?_ ?_
    ·
     revert h
     cases ht41 : (!x32) with
     | true =>
      intro h; replace h := cT h
      refine WO.pn 1 rfl ?_
      refine WO.ls rfl rfl rfl rfl ?_
      refine WO.pn 2 rfl ?_
      refine WO.ls rfl rfl rfl rfl ?_
      refine WO.pn 3 rfl ?_
      obtain rfl := Option.some.inj h
      exact WO.met _ trivial ⟨rfl, _, (Stp.refl _ _).wk rfl⟩ fun a ha => (ha.more (ha.more (ha.more (ha.more ha.nil rfl) rfl) rfl) rfl)
     | false =>
      intro h; replace h := cF h
      refine WO.k2 rfl rfl rfl rfl (rn_fieldAddr Try.runUnderlying62 rfl Try.sizeOf25 rfl rfl) ?_
      have f42 := f31.stp S37 rfl rfl
      refine WO.k1 trivial rfl rfl rfl rfl (rn_ld Try.isAgg25 rfl rfl (hvE (f42.ld 1 rfl rfl))) ?_
      refine WO.pn 1 rfl ?_
      obtain ⟨x38, hx38, h⟩ := Option.bind_eq_some_iff.mp h
      refine WO.k2 rfl rfl rfl rfl (rn_index g0_1 hx38 Try.runUnderlying25 Try.sizeOf24 rfl rfl rfl rfl) ?_
      have f43 := g0_1.stp (S3.tr (S9.tr (S17.tr (S28.tr S37)))) rfl rfl
      obtain ⟨ax38, ux38, f44, hl45⟩ := f43.gSl hx38
      refine WO.k1 trivial rfl rfl rfl rfl (rn_ld Try.isAgg24 rfl rfl (hvE hl45)) ?_
      refine WO.k2 rfl rfl rfl rfl (rn_len Try.runUnderlying24 rfl rfl) ?_
      refine WO.pn 2 rfl ?_
      obtain rfl := Option.some.inj h
      exact WO.met _ trivial ⟨rfl, _, (Stp.refl _ _).wk rfl⟩ fun a ha => (ha.more (ha.more (ha.more (ha.more ha.nil rfl) rfl) rfl) rfl)
    rintro _ w46 _ ⟨rfl, K47, S48⟩
    have h := hK40
    refine WO.pn 1 rfl ?_
    obtain ⟨p51, h, hK49⟩ := Option.bind_eq_some_iff.mp h
    refine WO.meet [(17, 2), (18, 1), (19, 2), (20, 2), (21, 1), (22, 2), (23, 2), (24, 2)] [(25, 2), (26, 2), (27, 1), (28, 2), (29, 2), (30, 1), (31, 2), (32, 1), (33, 2), (34, 2)] (fun L w' => L = [(1, .pointer (some ⟨b1, 0, none⟩)), (3, .int .i64 (p0.Owner.length : Int)), (4, .int .i64 v4), (51, .bool p51)] ∧ ∃ κ', Stp [] K47 w46 κ' w') trivial ?_ ?_
    ·
     revert h
     cases ht50 : p42 with
     | true =>
      intro h; replace h := cT h
      refine WO.pn 1 rfl ?_
      refine WO.ls rfl rfl rfl rfl ?_
      refine WO.pn 2 rfl ?_
      refine WO.ls rfl rfl rfl rfl ?_
      refine WO.pn 3 rfl ?_
      obtain rfl := Option.some.inj h
      exact WO.met _ trivial ⟨rfl, _, (Stp.refl _ _).wk rfl⟩ fun a ha => (ha.more (ha.more (ha.more (ha.more ha.nil rfl) rfl) rfl) rfl)
     | false =>
      intro h; replace h := cF h
      refine WO.k2 rfl rfl rfl rfl (rn_fieldAddr Try.runUnderlying62 rfl Try.sizeOf25 rfl rfl) ?_
      have f51 := f31.stp (S37.tr S48) rfl rfl
      refine WO.k1 trivial rfl rfl rfl rfl (rn_ld Try.isAgg25 rfl rfl (hvE (f51.ld 1 rfl rfl))) ?_
      refine WO.pn 1 rfl ?_
      obtain ⟨x47, hx47, h⟩ := Option.bind_eq_some_iff.mp h
      refine WO.k2 rfl rfl rfl rfl (rn_index g0_1 hx47 Try.runUnderlying25 Try.sizeOf24 rfl rfl rfl rfl) ?_
      have f52 := g0_1.stp (S3.tr (S9.tr (S17.tr (S28.tr (S37.tr S48))))) rfl rfl
      obtain ⟨ax47, ux47, f53, hl54⟩ := f52.gSl hx47
      refine WO.k1 trivial rfl rfl rfl rfl (rn_ld Try.isAgg24 rfl rfl (hvE hl54)) ?_
      refine WO.k2 rfl rfl rfl rfl (rn_len Try.runUnderlying24 rfl rfl) ?_
      refine WO.pn 2 rfl ?_
      obtain rfl := Option.some.inj h
      exact WO.met _ trivial ⟨rfl, _, (Stp.refl _ _).wk rfl⟩ fun a ha => (ha.more (ha.more (ha.more (ha.more ha.nil rfl) rfl) rfl) rfl)
    rintro _ w55 _ ⟨rfl, K56, S57⟩
    have h := hK49
    refine WO.pn 1 rfl ?_
    obtain ⟨p61, h, hK58⟩ := Option.bind_eq_some_iff.mp h
    refine WO.meet [(26, 2), (27, 1), (28, 2), (29, 2), (30, 1), (31, 2), (32, 1), (33, 2), (34, 2)] [] (fun L w' => L = [(1, .pointer (some ⟨b1, 0, none⟩)), (3, .int .i64 (p0.Owner.length : Int)), (4, .int .i64 v4), (61, .bool p61)] ∧ ∃ κ', Stp [] K56 w55 κ' w') trivial ?_ ?_
    ·
     revert h
     cases ht59 : p51 with
     | true =>
      intro h; replace h := cT h
      refine WO.pn 1 rfl ?_
      refine WO.ls rfl rfl rfl rfl ?_
      refine WO.pn 2 rfl ?_
      refine WO.ls rfl rfl rfl rfl ?_
      refine WO.pn 1 rfl ?_
      refine WO.ls rfl rfl rfl rfl ?_
      refine WO.pn 2 rfl ?_
      obtain rfl := Option.some.inj h
      exact WO.met _ trivial ⟨rfl, _, (Stp.refl _ _).wk rfl⟩ fun a ha => (ha.more (ha.more (ha.more (ha.more ha.nil rfl) rfl) rfl) rfl)
     | false =>
      intro h; replace h := cF h
      refine WO.k2 rfl rfl rfl rfl (rn_fieldAddr Try.runUnderlying62 rfl Try.sizeOf25 rfl rfl) ?_
      have f60 := f31.stp (S37.tr (S48.tr S57)) rfl rfl
      refine WO.k1 trivial rfl rfl rfl rfl (rn_ld Try.isAgg25 rfl rfl (hvE (f60.ld 1 rfl rfl))) ?_
      refine WO.pn 1 rfl ?_
      obtain ⟨x56, hx56, h⟩ := Option.bind_eq_some_iff.mp h
      refine WO.k2 rfl rfl rfl rfl (rn_index g0_1 hx56 Try.runUnderlying25 Try.sizeOf24 rfl rfl rfl rfl) ?_
      have f61 := g0_1.stp (S3.tr (S9.tr (S17.tr (S28.tr (S37.tr (S48.tr S57)))))) rfl rfl
      obtain ⟨ax56, ux56, f62, hl63⟩ := f61.gSl hx56
      refine WO.k1 trivial rfl rfl rfl rfl (rn_ld Try.isAgg24 rfl rfl (hvE hl63)) ?_
      refine WO.pn 1 rfl ?_
      obtain ⟨x59, hx59, h⟩ := Option.bind_eq_some_iff.mp h
      refine WO.call rfl rfl rfl rfl rfl rfl Try.call154 (s_l1Set_ok (κ := fun b => mp [] 0 (K56 b)) (Sl.map f62 (mp [] 0) rfl rfl) hx59) ?_
      rintro _ w64 ⟨k65, rfl, e66⟩
      obtain ⟨K67, S68, m69⟩ := Ent.mixed (l := []) (κ := K56) e66 7 rfl
      refine ⟨trivial, ?_⟩
      refine WO.pn 2 rfl ?_
      obtain rfl := Option.some.inj h
      exact WO.met _ trivial ⟨rfl, _, S68.wk rfl⟩ fun a ha => (ha.more (ha.more (ha.more (ha.more ha.nil rfl) rfl) rfl) rfl)
    rintro _ w71 _ ⟨rfl, K72, S73⟩
    have h := hK58
    refine WO.fin ?_
    refine DN.seq ?_
    revert h
    cases ht74 : p61 with
    | true =>
     intro h; replace h := cT h
     refine WC.ct rfl ?_
     refine WC.seq ?_
     refine WC.rs [(0, 2)] rfl ?_
     refine WO.pn 1 rfl ?_
     refine WO.fin ?_
     refine DN.seq ?_
     refine WC.ret ?_
     refine DN.retBlock ?_
     refine DN.retThen ?_
     refine DN.retThen ?_
     obtain rfl := Option.some.inj h
     obtain rfl := Option.some.inj hk29
     have h := hK21
     dsimp only [aft] at h
     refine DN.retBlock ?_
     refine DN.retMeet ?_
     refine DN.retThen ?_
     have f75 := hE.stp (S3.tr (S9.tr (S17.tr (S28.tr (S37.tr (S48.tr (S57.tr S73))))))) rfl rfl
     refine DN.res (l := [.tmp 2]) Try.results142 (res_tmp rfl rfl) rfl ?_
     obtain rfl := Option.some.inj h
     exact ⟨K72, rfl, f75⟩
    | false =>
     intro h; replace h := cF h
     refine WC.cf rfl ?_
     refine WC.skip ?_
     refine DN.block ?_
     refine DN.seq ?_
     refine WC.rs [(0, 2), (1, 2), (2, 2)] rfl ?_
     refine WO.pn 3 rfl ?_
     refine WO.fin ?_
     have hw20 : IntKind.wrap .i64 (v4 + 1) = v4 + 1 := wr1 hj20 (of_decide_eq_true hc20) hN20
     rw [hw20]
     have hc20 := of_decide_eq_true hc20
     obtain rfl := Option.some.inj h
     refine DN.round fun a ha => ?_
     exact ⟨k, _, Nat.lt_succ_self _, ⟨K72, v4 + 1, rfl, (S28.tr (S37.tr (S48.tr (S57.tr S73)))).wk rfl, by omega, by omega, hk29⟩, (ha.more (ha.more (ha.more ha.nil rfl) rfl) rfl)⟩
  rintro _ w23 ⟨K24, rfl, S25, rfl⟩
  have h := hK21
  dsimp only [aft] at h
  refine DN.seq ?_
  refine WC.seq ?_
  refine WC.rs [(0, 2)] rfl ?_
  refine WO.pn 1 rfl ?_
  refine WO.fin ?_
  refine DN.seq ?_
  refine WC.ret ?_
  have f76 := hE.stp (S3.tr (S9.tr (S17.tr S25))) rfl rfl
  refine DN.res (l := [.tmp 2]) Try.results142 (res_tmp rfl rfl) rfl ?_
  obtain rfl := Option.some.inj h
  exact ⟨K24, rfl, f76⟩

/- loop.example/g00869/spec.ParityOk -/
theorem s_ParityOk_ok {w : World} {κ : Col} {a0_0_0 : Option Addr} {u0_0_0 : Nat} {a0_0_1 : Option Addr} {u0_0_1 : Nat} {a0_1 : Option Addr} {u0_1 : Nat} {p0 : Parity} (g0_0_0 : Rd (Rp.int .i64) κ w 0 a0_0_0 u0_0_0 p0.Arena.Owner) (g0_0_1 : Rd (Rp.sl (Rp.int .i64)) κ w 0 a0_0_1 u0_0_1 p0.Arena.Next) (g0_1 : Rd (Rp.int .i64) κ w 0 a0_1 u0_1 p0.Prio) {r : Bool} (h : s_ParityOk p0 = some r) : Ret Try.prog 92 [.agg #[.slice a0_0_0 p0.Arena.Owner.length u0_0_0, .slice a0_0_1 p0.Arena.Next.length u0_0_1, .slice a0_1 p0.Prio.length u0_1]] w (fun v w' => ∃ (κ' : Col), v = .bool r ∧ Ent κ w κ' w') := by
 unfold s_ParityOk at h
 refine Ret.enter Try.func92 rfl Try.ntmps92 rfl ?_
 dsimp only [envOf]
 have hE := Ent.refl κ w
 refine WC.seq ?_
 refine WC.rs [(0, 1), (1, 2)] rfl ?_
 refine WO.box (κ := κ) 2 rfl rfl rfl rfl rfl rfl rfl fun b1 w1 K2 S3 f4 => ⟨trivial, ?_⟩
 refine WO.pn 1 rfl ?_
 refine WO.fin ?_
 refine DN.seq ?_
 refine WC.seq ?_
 refine WC.seq ?_
 refine WC.rs [(0, 2), (1, 1), (2, 1), (3, 2), (4, 2), (5, 2), (6, 1), (7, 2), (8, 2), (9, 2), (10, 1), (11, 2), (12, 2), (13, 2)] rfl ?_
 refine WO.k2 rfl rfl rfl rfl (rn_fieldAddr Try.runUnderlying64 rfl Try.sizeOf62 rfl rfl) ?_
 refine WO.k1 trivial rfl rfl rfl rfl (rn_la (cs := [.slice a0_0_0 p0.Arena.Owner.length u0_0_0, .slice a0_0_1 p0.Arena.Next.length u0_0_1]) Try.isAgg62 Try.sizeOf62 rfl rfl rfl (haE (f4.lds 0 2 rfl))) ?_
 obtain ⟨x6, hx6, h⟩ := Option.bind_eq_some_iff.mp h
 have f5 := g0_0_0.stp S3 rfl rfl
 have f6 := g0_0_1.stp S3 rfl rfl
 refine WO.call rfl rfl rfl rfl rfl rfl Try.call142 (s_ArenaOk_ok (κ := fun b => mp [] 0 (K2 b)) (Sl.map f5 (mp [] 0) rfl rfl) (Sl.map f6 (mp [] 0) rfl rfl) hx6) ?_
 rintro _ w7 ⟨k8, rfl, e9⟩
 obtain ⟨K10, S11, m12⟩ := Ent.mixed (l := []) (κ := K2) e9 3 rfl
 refine ⟨trivial, ?_⟩
 refine WO.pn 2 rfl ?_
 obtain ⟨p17, h, hK14⟩ := Option.bind_eq_some_iff.mp h
 refine WO.meet [(5, 2), (6, 1), (7, 2), (8, 2), (9, 2), (10, 1), (11, 2), (12, 2), (13, 2)] [] (fun L w' => L = [(1, .pointer (some ⟨b1, 0, none⟩)), (17, .bool p17)] ∧ ∃ κ', Stp [] K10 w7 κ' w') trivial ?_ ?_
 ·
  revert h
  cases ht15 : (!x6) with
  | true =>
   intro h; replace h := cT h
   refine WO.pn 1 rfl ?_
   refine WO.ls rfl rfl rfl rfl ?_
   refine WO.pn 3 rfl ?_
   refine WO.ls rfl rfl rfl rfl ?_
   refine WO.pn 3 rfl ?_
   obtain rfl := Option.some.inj h
   exact WO.met _ trivial ⟨rfl, _, (Stp.refl _ _).wk rfl⟩ fun a ha => (ha.more (ha.more ha.nil rfl) rfl)
  | false =>
   intro h; replace h := cF h
   refine WO.k2 rfl rfl rfl rfl (rn_fieldAddr Try.runUnderlying64 rfl Try.sizeOf24 rfl rfl) ?_
   have f16 := f4.stp S11 rfl rfl
   refine WO.k1 trivial rfl rfl rfl rfl (rn_ld Try.isAgg24 rfl rfl (hvE (f16.ld 2 rfl rfl))) ?_
   refine WO.k2 rfl rfl rfl rfl (rn_len Try.runUnderlying24 rfl rfl) ?_
   refine WO.k2 rfl rfl rfl rfl (rn_fieldAddr Try.runUnderlying64 rfl Try.sizeOf62 rfl rfl) ?_
   refine WO.k2 rfl rfl rfl rfl (rn_fieldAddr Try.runUnderlying62 rfl Try.sizeOf24 rfl rfl) ?_
   refine WO.k1 trivial rfl rfl rfl rfl (rn_ld Try.isAgg24 rfl rfl (hvE (f16.ld 0 rfl rfl))) ?_
   refine WO.k2 rfl rfl rfl rfl (rn_len Try.runUnderlying24 rfl rfl) ?_
   refine WO.pn 2 rfl ?_
   obtain rfl := Option.some.inj h
   exact WO.met _ trivial ⟨rfl, _, (Stp.refl _ _).wk rfl⟩ fun a ha => (ha.more (ha.more ha.nil rfl) rfl)
 rintro _ w17 _ ⟨rfl, K18, S19⟩
 have h := hK14
 refine WO.fin ?_
 refine DN.seq ?_
 revert h
 cases ht20 : p17 with
 | true =>
  intro h; replace h := cT h
  refine WC.ct rfl ?_
  refine WC.seq ?_
  refine WC.rs [(0, 2)] rfl ?_
  refine WO.pn 1 rfl ?_
  refine WO.fin ?_
  refine DN.seq ?_
  refine WC.ret ?_
  refine DN.retThen ?_
  have f21 := hE.stp (S3.tr (S11.tr S19)) rfl rfl
  refine DN.res (l := [.tmp 2]) Try.results92 (res_tmp rfl rfl) rfl ?_
  obtain rfl := Option.some.inj h
  exact ⟨K18, rfl, f21⟩
 | false =>
  intro h; replace h := cF h
  refine WC.cf rfl ?_
  refine WC.skip ?_
  refine DN.seq ?_
  refine WC.seq ?_
  refine WC.seq ?_
  refine WC.rs [(0, 2)] rfl ?_
  refine WO.pn 1 rfl ?_
  refine WO.fin ?_
  refine DN.seq ?_
  have hN22 : (p0.Prio.length : Int) ≤ 9223372036854775807 := g0_1.len_le
  obtain ⟨q2, hq24, hK23⟩ := Option.bind_eq_some_iff.mp h
  clear h
  refine WC.meet (fun L w' => ∃ (κ' : Col), L = [] ∧ Stp [] K18 w17 κ' w' ∧ q2 = Sum.inr ()) ?_ ?_
  ·
   refine WC.block ?_
   refine WC.loop (fun k L w' => ∃ (κ' : Col) (v3 : Int), L = [(1, .pointer (some ⟨b1, 0, none⟩)), (3, .int .i64 v3)] ∧ Stp [] K18 w17 κ' w' ∧ 0 ≤ v3 ∧ Int.toNat ((p0.Prio.length : Int) - v3) = k ∧ cntM (s_ParityOk_b0 p0) k v3 () = some q2) ⟨_, _, ⟨K18, 0, rfl, (Stp.refl _ _).wk rfl, (by decide), (by simp), hq24⟩, fun a ha => (ha.more (ha.more ha.nil rfl) rfl)⟩ ?_
   rintro k _ w28 ⟨K29, v3, rfl, S30, hj22, hJ22, h⟩
   rcases k with _ | k
   ·
    have hk31 := h; obtain ⟨o22, h⟩ := ex_eq (Sum.inr (Sum.inl ()) : Bool ⊕ ((Unit) ⊕ (Unit)))
    have hc22 : decide (v3 < (p0.Prio.length : Int)) = false := decide_eq_false (by omega)
    refine WC.seq ?_
    refine WC.seq ?_
    refine WC.rs [(0, 2), (1, 2), (2, 1), (3, 2), (4, 2)] rfl ?_
    refine WO.pn 1 rfl ?_
    refine WO.k2 rfl rfl rfl rfl (rn_fieldAddr Try.runUnderlying64 rfl Try.sizeOf24 rfl rfl) ?_
    have f32 := f4.stp (S11.tr (S19.tr S30)) rfl rfl
    refine WO.k1 trivial rfl rfl rfl rfl (rn_ld Try.isAgg24 rfl rfl (hvE (f32.ld 2 rfl rfl))) ?_
    refine WO.k2 rfl rfl rfl rfl (rn_len Try.runUnderlying24 rfl rfl) ?_
    refine WO.pn 1 rfl ?_
    refine WO.fin ?_
    refine DN.seq ?_
    refine WC.cf' rfl hc22 ?_
    refine WC.exit ?_
    refine DN.exitThen ?_
    refine DN.exitThen ?_
    obtain rfl := Option.some.inj h
    have h := hk31
    refine DN.hit ?_
    obtain rfl := Option.some.inj h
    exact DN.meet _ ⟨K29, rfl, S30.wk rfl, rfl⟩ fun a ha => ha.nil
   ·
    obtain ⟨o22, h, hk31⟩ := Option.bind_eq_some_iff.mp h; unfold s_ParityOk_b0 at h
    have hc22 : decide (v3 < (p0.Prio.length : Int)) = true := decide_eq_true (by omega)
    refine WC.seq ?_
    refine WC.seq ?_
    refine WC.rs [(0, 2), (1, 2), (2, 1), (3, 2), (4, 2)] rfl ?_
    refine WO.pn 1 rfl ?_
    refine WO.k2 rfl rfl rfl rfl (rn_fieldAddr Try.runUnderlying64 rfl Try.sizeOf24 rfl rfl) ?_
    have f33 := f4.stp (S11.tr (S19.tr S30)) rfl rfl
    refine WO.k1 trivial rfl rfl rfl rfl (rn_ld Try.isAgg24 rfl rfl (hvE (f33.ld 2 rfl rfl))) ?_
    refine WO.k2 rfl rfl rfl rfl (rn_len Try.runUnderlying24 rfl rfl) ?_
    refine WO.pn 1 rfl ?_
    refine WO.fin ?_
    refine DN.seq ?_
    refine WC.ct' rfl hc22 ?_
    refine WC.skip ?_
    refine DN.seq ?_
    refine WC.seq ?_
    refine WC.block ?_
    refine WC.seq ?_
    refine WC.rs [(0, 2), (1, 1), (2, 2), (3, 2), (4, 1), (5, 1), (6, 2)] rfl ?_
    refine WO.k2 rfl rfl rfl rfl (rn_fieldAddr Try.runUnderlying64 rfl Try.sizeOf24 rfl rfl) ?_
    refine WO.k1 trivial rfl rfl rfl rfl (rn_ld Try.isAgg24 rfl rfl (hvE (f33.ld 2 rfl rfl))) ?_
    refine WO.pn 1 rfl ?_
    obtain ⟨x28, hx28, h⟩ := Option.bind_eq_some_iff.mp h
    refine WO.k2 rfl rfl rfl rfl (rn_index g0_1 hx28 Try.runUnderlying24 Try.sizeOf2 rfl rfl rfl rfl) ?_
    have f34 := g0_1.stp (S3.tr (S11.tr (S19.tr S30))) rfl rfl
    refine WO.k1 trivial rfl rfl rfl rfl (rn_ld Try.isAgg2 rfl rfl (hvE (f34.gInt hx28))) ?_
    obtain ⟨x30, hx30, h⟩ := Option.bind_eq_some_iff.mp h
    refine WO.call rfl rfl rfl rfl rfl rfl Try.call84 (s_l1In_ok (κ := fun b => mp [] 0 (K29 b)) hx30) ?_
    rintro _ w35 ⟨k36, rfl, e37⟩
    obtain ⟨K38, S39, m40⟩ := Ent.mixed (l := []) (κ := K29) e37 5 rfl
    refine ⟨trivial, ?_⟩
    refine WO.pn 1 rfl ?_
    refine WO.fin ?_
    refine DN.seq ?_
    revert h
    cases ht42 : (!x30) with
    | true =>
     intro h; replace h := cT h
     refine WC.ct rfl ?_
     refine WC.seq ?_
     refine WC.rs [(0, 2)] rfl ?_
     refine WO.pn 1 rfl ?_
     refine WO.fin ?_
     refine DN.seq ?_
     refine WC.ret ?_
     refine DN.retBlock ?_
     refine DN.retThen ?_
     refine DN.retThen ?_
     obtain rfl := Option.some.inj h
     obtain rfl := Option.some.inj hk31
     have h := hK23
     dsimp only [aft] at h
     refine DN.retBlock ?_
     refine DN.retMeet ?_
     refine DN.retThen ?_
     have f43 := hE.stp (S3.tr (S11.tr (S19.tr (S30.tr S39)))) rfl rfl
     refine DN.res (l := [.tmp 2]) Try.results92 (res_tmp rfl rfl) rfl ?_
     obtain rfl := Option.some.inj h
     exact ⟨K38, rfl, f43⟩
    | false =>
     intro h; replace h := cF h
     refine WC.cf rfl ?_
     refine WC.skip ?_
     refine DN.block ?_
     refine DN.seq ?_
     refine WC.rs [(0, 2), (1, 2), (2, 2)] rfl ?_
     refine WO.pn 3 rfl ?_
     refine WO.fin ?_
     have hw22 : IntKind.wrap .i64 (v3 + 1) = v3 + 1 := wr1 hj22 (of_decide_eq_true hc22) hN22
     rw [hw22]
     have hc22 := of_decide_eq_true hc22
     obtain rfl := Option.some.inj h
     refine DN.round fun a ha => ?_
     exact ⟨k, _, Nat.lt_succ_self _, ⟨K38, v3 + 1, rfl, (S30.tr S39).wk rfl, by omega, by omega, hk31⟩, (ha.more (ha.more ha.nil rfl) rfl)⟩
  rintro _ w25 ⟨K26, rfl, S27, rfl⟩
  have h := hK23
  dsimp only [aft] at h
  refine DN.seq ?_
  refine WC.seq ?_
  refine WC.rs [(0, 2)] rfl ?_
  refine WO.pn 1 rfl ?_
  refine WO.fin ?_
  refine DN.seq ?_
  refine WC.ret ?_
  have f44 := hE.stp (S3.tr (S11.tr (S19.tr S27))) rfl rfl
  refine DN.res (l := [.tmp 2]) Try.results92 (res_tmp rfl rfl) rfl ?_
  obtain rfl := Option.some.inj h
  exact ⟨K26, rfl, f44⟩

/- loop.example/g00869/spec.EditOk -/
theorem s_EditOk_ok {w : World} {κ : Col} {a0_0_0 : Option Addr} {u0_0_0 : Nat} {a0_0_1 : Option Addr} {u0_0_1 : Nat} {a0_1 : Option Addr} {u0_1 : Nat} {p0 : Parity} {p1 : Edit} (g0_0_0 : Rd (Rp.int .i64) κ w 0 a0_0_0 u0_0_0 p0.Arena.Owner) (g0_0_1 : Rd (Rp.sl (Rp.int .i64)) κ w 0 a0_0_1 u0_0_1 p0.Arena.Next) (g0_1 : Rd (Rp.int .i64) κ w 0 a0_1 u0_1 p0.Prio) {r : Bool} (h : s_EditOk p0 p1 = some r) : Ret Try.prog 34 [.agg #[.slice a0_0_0 p0.Arena.Owner.length u0_0_0, .slice a0_0_1 p0.Arena.Next.length u0_0_1, .slice a0_1 p0.Prio.length u0_1], .agg #[.int .i64 p1.Kind, .int .i64 p1.V, .int .i64 p1.N]] w (fun v w' => ∃ (κ' : Col), v = .bool r ∧ Ent κ w κ' w') := by
 unfold s_EditOk at h
 refine Ret.enter Try.func34 rfl Try.ntmps34 rfl ?_
 dsimp only [envOf]
 have hE := Ent.refl κ w
 refine WC.seq ?_
 refine WC.rs [(0, 1), (1, 1), (2, 2)] rfl ?_
 refine WO.box (κ := κ) 2 rfl rfl rfl rfl rfl rfl rfl fun b2 w1 K2 S3 f4 => ⟨trivial, ?_⟩
 refine WO.box (κ := K2) 3 rfl rfl rfl rfl rfl rfl rfl fun b3 w5 K6 S7 f8 => ⟨trivial, ?_⟩
 refine WO.pn 1 rfl ?_
 refine WO.fin ?_
 refine DN.seq ?_
 refine WC.seq ?_
 refine WC.rs [(0, 2), (1, 1), (2, 2), (3, 2)] rfl ?_
 refine WO.k2 rfl rfl rfl rfl (rn_fieldAddr Try.runUnderlying64 rfl Try.sizeOf24 rfl rfl) ?_
 have f9 := f4.stp S7 rfl rfl
 refine WO.k1 trivial rfl rfl rfl rfl (rn_ld Try.isAgg24 rfl rfl (hvE (f9.ld 2 rfl rfl))) ?_
 refine WO.k2 rfl rfl rfl rfl (rn_len Try.runUnderlying24 rfl rfl) ?_
 refine WO.pn 1 rfl ?_
 refine WO.fin ?_
 refine DN.seq ?_
 refine WC.seq ?_
 refine WC.seq ?_
 refine WC.rs [(0, 1), (1, 1), (2, 2), (3, 2), (4, 2), (5, 1), (6, 2), (7, 2), (8, 1), (9, 2), (10, 2)] rfl ?_
 refine WO.k1 trivial rfl rfl rfl rfl (rn_la (cs := [.slice a0_0_0 p0.Arena.Owner.length u0_0_0, .slice a0_0_1 p0.Arena.Next.length u0_0_1, .slice a0_1 p0.Prio.length u0_1]) Try.isAgg64 Try.sizeOf64 rfl rfl rfl (haE f9.cells)) ?_
 obtain ⟨x11, hx11, h⟩ := Option.bind_eq_some_iff.mp h
 have f10 := g0_0_0.stp (S3.tr S7) rfl rfl
 have f11 := g0_0_1.stp (S3.tr S7) rfl rfl
 have f12 := g0_1.stp (S3.tr S7) rfl rfl
 refine WO.call rfl rfl rfl rfl rfl rfl Try.call92 (s_ParityOk_ok (κ := fun b => mp [] 0 (K6 b)) (Sl.map f10 (mp [] 0) rfl rfl) (Sl.map f11 (mp [] 0) rfl rfl) (Sl.map f12 (mp [] 0) rfl rfl) hx11) ?_
 rintro _ w13 ⟨k14, rfl, e15⟩
 obtain ⟨K16, S17, m18⟩ := Ent.mixed (l := []) (κ := K6) e15 4 rfl
 refine ⟨trivial, ?_⟩
 refine WO.pn 2 rfl ?_
 obtain ⟨p20, h, hK20⟩ := Option.bind_eq_some_iff.mp h
 refine WO.meet [(4, 2), (5, 1), (6, 2), (7, 2), (8, 1), (9, 2), (10, 2)] [] (fun L w' => L = [(2, .pointer (some ⟨b2, 0, none⟩)), (3, .pointer (some ⟨b3, 0, none⟩)), (5, .int .i64 (p0.Prio.length : Int)), (20, .bool p20)] ∧ ∃ κ', Stp [] K16 w13 κ' w') trivial ?_ ?_
 ·
  revert h
  cases ht21 : (!x11) with
  | true =>
   intro h; replace h := cT h
   refine WO.pn 1 rfl ?_
   refine WO.ls rfl rfl rfl rfl ?_
   refine WO.pn 2 rfl ?_
   refine WO.ls rfl rfl rfl rfl ?_
   refine WO.pn 2 rfl ?_
   obtain rfl := Option.some.inj h
   exact WO.met _ trivial ⟨rfl, _, (Stp.refl _ _).wk rfl⟩ fun a ha => (ha.more (ha.more (ha.more (ha.more ha.nil rfl) rfl) rfl) rfl)
  | false =>
   intro h; replace h := cF h
   refine WO.k2 rfl rfl rfl rfl (rn_fieldAddr Try.runUnderlying66 rfl Try.sizeOf2 rfl rfl) ?_
   have f22 := f8.stp S17 rfl rfl
   refine WO.k1 trivial rfl rfl rfl rfl (rn_ld Try.isAgg2 rfl rfl (hvE (f22.ld 1 rfl rfl))) ?_
   refine WO.pn 2 rfl ?_
   obtain ⟨x18, hx18, h⟩ := Option.bind_eq_some_iff.mp h
   refine WO.call rfl rfl rfl rfl rfl rfl Try.call84 (s_l1In_ok (κ := fun b => mp [] 0 (K16 b)) hx18) ?_
   rintro _ w23 ⟨k24, rfl, e25⟩
   obtain ⟨K26, S27, m28⟩ := Ent.mixed (l := []) (κ := K16) e25 6 rfl
   refine ⟨trivial, ?_⟩
   refine WO.pn 2 rfl ?_
   obtain rfl := Option.some.inj h
   exact WO.met _ trivial ⟨rfl, _, S27.wk rfl⟩ fun a ha => (ha.more (ha.more (ha.more (ha.more ha.nil rfl) rfl) rfl) rfl)
 rintro _ w30 _ ⟨rfl, K31, S32⟩
 have h := hK20
 refine WO.fin ?_
 refine DN.seq ?_
 revert h
 cases ht33 : p20 with
 | true =>
  intro h; replace h := cT h
  refine WC.ct rfl ?_
  refine WC.seq ?_
  refine WC.rs [(0, 2)] rfl ?_
  refine WO.pn 1 rfl ?_
  refine WO.fin ?_
  refine DN.seq ?_
  refine WC.ret ?_
  refine DN.retThen ?_
  have f34 := hE.stp (S3.tr (S7.tr (S17.tr S32))) rfl rfl
  refine DN.res (l := [.tmp 4]) Try.results34 (res_tmp rfl rfl) rfl ?_
  obtain rfl := Option.some.inj h
  exact ⟨K31, rfl, f34⟩
 | false =>
  intro h; replace h := cF h
  refine WC.cf rfl ?_
  refine WC.skip ?_
  refine DN.seq ?_
  refine WC.seq ?_
  refine WC.rs [(0, 2), (1, 2), (2, 1), (3, 2), (4, 1), (5, 2), (6, 1), (7, 2)] rfl ?_
  refine WO.k2 rfl rfl rfl rfl (rn_fieldAddr Try.runUnderlying64 rfl Try.sizeOf62 rfl rfl) ?_
  refine WO.k2 rfl rfl rfl rfl (rn_fieldAddr Try.runUnderlying62 rfl Try.sizeOf25 rfl rfl) ?_
  have f35 := f9.stp (S17.tr S32) rfl rfl
  refine WO.k1 trivial rfl rfl rfl rfl (rn_ld Try.isAgg25 rfl rfl (hvE (f35.ld 1 rfl rfl))) ?_
  refine WO.k2 rfl rfl rfl rfl (rn_fieldAddr Try.runUnderlying66 rfl Try.sizeOf2 rfl rfl) ?_
  have f36 := f8.stp (S17.tr S32) rfl rfl
  refine WO.k1 trivial rfl rfl rfl rfl (rn_ld Try.isAgg2 rfl rfl (hvE (f36.ld 1 rfl rfl))) ?_
  obtain ⟨x26, hx26, h⟩ := Option.bind_eq_some_iff.mp h
  refine WO.k2 rfl rfl rfl rfl (rn_index f11 hx26 Try.runUnderlying25 Try.sizeOf24 rfl rfl rfl rfl) ?_
  have f37 := f11.stp (S17.tr S32) rfl rfl
  obtain ⟨ax26, ux26, f38, hl39⟩ := f37.gSl hx26
  refine WO.k1 trivial rfl rfl rfl rfl (rn_ld Try.isAgg24 rfl rfl (hvE hl39)) ?_
  refine WO.pn 1 rfl ?_
  refine WO.fin ?_
  refine DN.seq ?_
  refine WC.seq ?_
  refine WC.seq ?_
  refine WC.rs [(0, 2), (1, 1)] rfl ?_
  refine WO.k2 rfl rfl rfl rfl (rn_fieldAddr Try.runUnderlying66 rfl Try.sizeOf2 rfl rfl) ?_
  refine WO.k1 trivial rfl rfl rfl rfl (rn_ld Try.isAgg2 rfl rfl (hvE (f36.ld 0 rfl rfl))) ?_
  refine WO.fin ?_
  refine DN.seq ?_
  refine WC.block ?_
  refine WC.seq ?_
  refine WC.rs [(0, 2), (1, 2)] rfl ?_
  refine WO.pn 2 rfl ?_
  refine WO.fin ?_
  refine DN.seq ?_
  revert h
  cases ht40 : (p1.Kind == 1) with
  | true =>
   intro h; replace h := cT h
   refine WC.ct rfl ?_
   refine WC.seq ?_
   refine WC.rs [(0, 2), (1, 1), (2, 1), (3, 2)] rfl ?_
   refine WO.k2 rfl rfl rfl rfl (rn_fieldAddr Try.runUnderlying66 rfl Try.sizeOf2 rfl rfl) ?_
   refine WO.k1 trivial rfl rfl rfl rfl (rn_ld Try.isAgg2 rfl rfl (hvE (f36.ld 2 rfl rfl))) ?_
   obtain ⟨x34, hx34, h⟩ := Option.bind_eq_some_iff.mp h
   refine WO.call rfl rfl rfl rfl rfl rfl Try.call84 (s_l1In_ok (κ := fun b => mp [] 0 (K31 b)) hx34) ?_
   rintro _ w41 ⟨k42, rfl, e43⟩
   obtain ⟨K44, S45, m46⟩ := Ent.mixed (l := []) (κ := K31) e43 6 rfl
   refine ⟨trivial, ?_⟩
   refine WO.pn 1 rfl ?_
   refine WO.fin ?_
   refine DN.seq ?_
   refine WC.ret ?_
   refine DN.retBlock ?_
   refine DN.retThen ?_
   have f48 := hE.stp (S3.tr (S7.tr (S17.tr (S32.tr S45)))) rfl rfl
   refine DN.res (l := [.tmp 4]) Try.results34 (res_tmp rfl rfl) rfl ?_
   obtain rfl := Option.some.inj h
   exact ⟨K44, rfl, f48⟩
  | false =>
   intro h; replace h := cF h
   refine WC.cf rfl ?_
   refine WC.seq ?_
   refine WC.rs [(0, 2), (1, 2)] rfl ?_
   refine WO.pn 2 rfl ?_
   refine WO.fin ?_
   refine DN.seq ?_
   revert h
   cases ht49 : (p1.Kind == 2) with
   | true =>
    intro h; replace h := cT h
    refine WC.ct rfl ?_
    refine WC.seq ?_
    refine WC.rs [(0, 2), (1, 1), (2, 1), (3, 2)] rfl ?_
    refine WO.k2 rfl rfl rfl rfl (rn_fieldAddr Try.runUnderlying66 rfl Try.sizeOf2 rfl rfl) ?_
    refine WO.k1 trivial rfl rfl rfl rfl (rn_ld Try.isAgg2 rfl rfl (hvE (f36.ld 2 rfl rfl))) ?_
    obtain ⟨x39, hx39, h⟩ := Option.bind_eq_some_iff.mp h
    refine WO.call rfl rfl rfl rfl rfl rfl Try.call84 (s_l1In_ok (κ := fun b => mp [] 0 (K31 b)) hx39) ?_
    rintro _ w50 ⟨k51, rfl, e52⟩
    obtain ⟨K53, S54, m55⟩ := Ent.mixed (l := []) (κ := K31) e52 6 rfl
    refine ⟨trivial, ?_⟩
    refine WO.pn 1 rfl ?_
    refine WO.fin ?_
    refine DN.seq ?_
    refine WC.ret ?_
    refine DN.retBlock ?_
    refine DN.retThen ?_
    have f57 := hE.stp (S3.tr (S7.tr (S17.tr (S32.tr S54)))) rfl rfl
    refine DN.res (l := [.tmp 4]) Try.results34 (res_tmp rfl rfl) rfl ?_
    obtain rfl := Option.some.inj h
    exact ⟨K53, rfl, f57⟩
   | false =>
    intro h; replace h := cF h
    refine WC.cf rfl ?_
    refine WC.seq ?_
    refine WC.rs [(0, 2), (1, 2)] rfl ?_
    refine WO.pn 2 rfl ?_
    refine WO.fin ?_
    refine DN.seq ?_
    revert h
    cases ht58 : (p1.Kind == 3) with
    | true =>
     intro h; replace h := cT h
     refine WC.ct rfl ?_
     refine WC.seq ?_
     refine WC.rs [(0, 2), (1, 1), (2, 2), (3, 2), (4, 1), (5, 2), (6, 2), (7, 2), (8, 1), (9, 1), (10, 2), (11, 2), (12, 2), (13, 2), (14, 2), (15, 2), (16, 2), (17, 2)] rfl ?_
     refine WO.k2 rfl rfl rfl rfl (rn_fieldAddr Try.runUnderlying66 rfl Try.sizeOf2 rfl rfl) ?_
     refine WO.k1 trivial rfl rfl rfl rfl (rn_ld Try.isAgg2 rfl rfl (hvE (f36.ld 2 rfl rfl))) ?_
     refine WO.pn 2 rfl ?_
     obtain ⟨x46, hx46, h⟩ := Option.bind_eq_some_iff.mp h
     refine WO.call rfl rfl rfl rfl rfl rfl Try.call84 (s_l1In_ok (κ := fun b => mp [] 0 (K31 b)) hx46) ?_
     rintro _ w59 ⟨k60, rfl, e61⟩
     obtain ⟨K62, S63, m64⟩ := Ent.mixed (l := []) (κ := K31) e61 6 rfl
     refine ⟨trivial, ?_⟩
     refine WO.pn 1 rfl ?_
     obtain ⟨p53, h, hK66⟩ := Option.bind_eq_some_iff.mp h
     refine WO.meet [(6, 2), (7, 2), (8, 1), (9, 1), (10, 2), (11, 2)] [(12, 2), (13, 2), (14, 2), (15, 2), (16, 2), (17, 2)] (fun L w' => L = [(6, .slice ax26 x26.length ux26), (53, .bool p53)] ∧ ∃ κ', Stp [] K62 w59 κ' w') trivial ?_ ?_
     ·
      revert h
      cases ht67 : x46 with
      | true =>
       intro h; replace h := cT h
       refine WO.pn 1 rfl ?_
       refine WO.k2 rfl rfl rfl rfl (rn_fieldAddr Try.runUnderlying66 rfl Try.sizeOf2 rfl rfl) ?_
       have f68 := f36.stp S63 rfl rfl
       refine WO.k1 trivial rfl rfl rfl rfl (rn_ld Try.isAgg2 rfl rfl (hvE (f68.ld 2 rfl rfl))) ?_
       obtain ⟨x51, hx51, h⟩ := Option.bind_eq_some_iff.mp h
       have f69 := f38.stp S63 rfl rfl
       refine WO.call rfl rfl rfl rfl rfl rfl Try.call93 (s_l16Has_ok (κ := fun b => mp [] 0 (K62 b)) (Sl.map f69 (mp [] 0) rfl rfl) hx51) ?_
       rintro _ w70 ⟨k71, rfl, e72⟩
       obtain ⟨K73, S74, m75⟩ := Ent.mixed (l := []) (κ := K62) e72 8 rfl
       refine ⟨trivial, ?_⟩
       refine WO.pn 2 rfl ?_
       obtain rfl := Option.some.inj h
       exact WO.met _ trivial ⟨rfl, _, S74.wk rfl⟩ fun a ha => (ha.more (ha.more ha.nil rfl) rfl)
      | false =>
       intro h; replace h := cF h
       refine WO.pn 2 rfl ?_
       refine WO.ls rfl rfl rfl rfl ?_
       refine WO.ls rfl rfl rfl rfl ?_
       refine WO.pn 2 rfl ?_
       obtain rfl := Option.some.inj h
       exact WO.met _ trivial ⟨rfl, _, (Stp.refl _ _).wk rfl⟩ fun a ha => (ha.more (ha.more ha.nil rfl) rfl)
     rintro _ w77 _ ⟨rfl, K78, S79⟩
     have h := hK66
     refine WO.pn 1 rfl ?_
     obtain ⟨p58, h, hK80⟩ := Option.bind_eq_some_iff.mp h
     refine WO.meet [(13, 2), (14, 2), (15, 2), (16, 2)] [(17, 2)] (fun L w' => L = [(58, .bool p58)] ∧ ∃ κ', Stp [] K78 w77 κ' w') trivial ?_ ?_
     ·
      revert h
      cases ht81 : p53 with
      | true =>
       intro h; replace h := cT h
       refine WO.pn 1 rfl ?_
       refine WO.k2 rfl rfl rfl rfl (rn_len Try.runUnderlying24 rfl rfl) ?_
       refine WO.pn 2 rfl ?_
       obtain rfl := Option.some.inj h
       exact WO.met _ trivial ⟨rfl, _, (Stp.refl _ _).wk rfl⟩ fun a ha => (ha.more ha.nil rfl)
      | false =>
       intro h; replace h := cF h
       refine WO.pn 4 rfl ?_
       obtain rfl := Option.some.inj h
       exact WO.met _ trivial ⟨rfl, _, (Stp.refl _ _).wk rfl⟩ fun a ha => (ha.more ha.nil rfl)
     rintro _ w82 _ ⟨rfl, K83, S84⟩
     have h := hK80
     refine WO.pn 1 rfl ?_
     refine WO.fin ?_
     refine DN.seq ?_
     refine WC.ret ?_
     refine DN.retBlock ?_
     refine DN.retThen ?_
     have f85 := hE.stp (S3.tr (S7.tr (S17.tr (S32.tr (S63.tr (S79.tr S84)))))) rfl rfl
     refine DN.res (l := [.tmp 4]) Try.results34 (res_tmp rfl rfl) rfl ?_
     obtain rfl := Option.some.inj h
     exact ⟨K83, rfl, f85⟩
    | false =>
     intro h; replace h := cF h
     refine WC.cf rfl ?_
     refine WC.seq ?_
     refine WC.rs [(0, 2), (1, 2)] rfl ?_
     refine WO.pn 2 rfl ?_
     refine WO.fin ?_
     refine DN.seq ?_
     revert h
     cases ht86 : (p1.Kind == 4) with
     | true =>
      intro h; replace h := cT h
      refine WC.ct rfl ?_
      refine WC.seq ?_
      refine WC.rs [(0, 2), (1, 2), (2, 1), (3, 1), (4, 2), (5, 2), (6, 2), (7, 2), (8, 2), (9, 2)] rfl ?_
      refine WO.pn 1 rfl ?_
      refine WO.k2 rfl rfl rfl rfl (rn_fieldAddr Try.runUnderlying66 rfl Try.sizeOf2 rfl rfl) ?_
      refine WO.k1 trivial rfl rfl rfl rfl (rn_ld Try.isAgg2 rfl rfl (hvE (f36.ld 2 rfl rfl))) ?_
      obtain ⟨x64, hx64, h⟩ := Option.bind_eq_some_iff.mp h
      refine WO.call rfl rfl rfl rfl rfl rfl Try.call93 (s_l16Has_ok (κ := fun b => mp [] 0 (K31 b)) (Sl.map f38 (mp [] 0) rfl rfl) hx64) ?_
      rintro _ w87 ⟨k88, rfl, e89⟩
      obtain ⟨K90, S91, m92⟩ := Ent.mixed (l := []) (κ := K31) e89 6 rfl
      refine ⟨trivial, ?_⟩
      refine WO.pn 1 rfl ?_
      obtain ⟨p69, h, hK94⟩ := Option.bind_eq_some_iff.mp h
      refine WO.meet [(5, 2), (6, 2), (7, 2), (8, 2)] [(9, 2)] (fun L w' => L = [(69, .bool p69)] ∧ ∃ κ', Stp [] K90 w87 κ' w') trivial ?_ ?_
      ·
       revert h
       cases ht95 : x64 with
       | true =>
        intro h; replace h := cT h
        refine WO.pn 1 rfl ?_
        refine WO.k2 rfl rfl rfl rfl (rn_len Try.runUnderlying24 rfl rfl) ?_
        refine WO.pn 2 rfl ?_
        obtain rfl := Option.some.inj h
        exact WO.met _ trivial ⟨rfl, _, (Stp.refl _ _).wk rfl⟩ fun a ha => (ha.more ha.nil rfl)
       | false =>
        intro h; replace h := cF h
        refine WO.pn 4 rfl ?_
        obtain rfl := Option.some.inj h
        exact WO.met _ trivial ⟨rfl, _, (Stp.refl _ _).wk rfl⟩ fun a ha => (ha.more ha.nil rfl)
      rintro _ w96 _ ⟨rfl, K97, S98⟩
      have h := hK94
      refine WO.pn 1 rfl ?_
      refine WO.fin ?_
      refine DN.seq ?_
      refine WC.ret ?_
      refine DN.retBlock ?_
      refine DN.retThen ?_
      have f99 := hE.stp (S3.tr (S7.tr (S17.tr (S32.tr (S91.tr S98))))) rfl rfl
      refine DN.res (l := [.tmp 4]) Try.results34 (res_tmp rfl rfl) rfl ?_
      obtain rfl := Option.some.inj h
      exact ⟨K97, rfl, f99⟩
     | false =>
      intro h; replace h := cF h
      refine WC.cf rfl ?_
      refine WC.skip ?_
      refine DN.block ?_
      refine DN.seq ?_
      refine WC.seq ?_
      refine WC.rs [(0, 2)] rfl ?_
      refine WO.pn 1 rfl ?_
      refine WO.fin ?_
      refine DN.seq ?_
      refine WC.ret ?_
      have f100 := hE.stp (S3.tr (S7.tr (S17.tr S32))) rfl rfl
      refine DN.res (l := [.tmp 4]) Try.results34 (res_tmp rfl rfl) rfl ?_
      obtain rfl := Option.some.inj h
      exact ⟨K31, rfl, f100⟩

/- loop.example/g00869/impl.EditOk -/
theorem i_EditOk_ok {w : World} {κ : Col} {a0_0_0 : Option Addr} {u0_0_0 : Nat} {a0_0_1 : Option Addr} {u0_0_1 : Nat} {a0_1 : Option Addr} {u0_1 : Nat} {p0 : Parity} {p1 : Edit} (g0_0_0 : Rd (Rp.int .i64) κ w 0 a0_0_0 u0_0_0 p0.Arena.Owner) (g0_0_1 : Rd (Rp.sl (Rp.int .i64)) κ w 0 a0_0_1 u0_0_1 p0.Arena.Next) (g0_1 : Rd (Rp.int .i64) κ w 0 a0_1 u0_1 p0.Prio) {r : Bool} (h : i_EditOk p0 p1 = some r) : Ret Try.prog 37 [.agg #[.slice a0_0_0 p0.Arena.Owner.length u0_0_0, .slice a0_0_1 p0.Arena.Next.length u0_0_1, .slice a0_1 p0.Prio.length u0_1], .agg #[.int .i64 p1.Kind, .int .i64 p1.V, .int .i64 p1.N]] w (fun v w' => ∃ (κ' : Col), v = .bool r ∧ Ent κ w κ' w') := by
 unfold i_EditOk at h
 refine Ret.enter Try.func37 rfl Try.ntmps37 rfl ?_
 dsimp only [envOf]
 have hE := Ent.refl κ w
 refine WC.seq ?_
 refine WC.rs [(0, 1), (1, 1), (2, 2)] rfl ?_
 refine WO.box (κ := κ) 2 rfl rfl rfl rfl rfl rfl rfl fun b2 w1 K2 S3 f4 => ⟨trivial, ?_⟩
 refine WO.box (κ := K2) 3 rfl rfl rfl rfl rfl rfl rfl fun b3 w5 K6 S7 f8 => ⟨trivial, ?_⟩
 refine WO.pn 1 rfl ?_
 refine WO.fin ?_
 refine DN.seq ?_
 refine WC.seq ?_
 refine WC.rs [(0, 1), (1, 1), (2, 2), (3, 1), (4, 1), (5, 1), (6, 2), (7, 2)] rfl ?_
 have f9 := f4.stp S7 rfl rfl
 refine WO.k1 trivial rfl rfl rfl rfl (rn_la (cs := [.slice a0_0_0 p0.Arena.Owner.length u0_0_0, .slice a0_0_1 p0.Arena.Next.length u0_0_1, .slice a0_1 p0.Prio.length u0_1]) Try.isAgg64 Try.sizeOf64 rfl rfl rfl (haE f9.cells)) ?_
 obtain ⟨x6, hx6, h⟩ := Option.bind_eq_some_iff.mp h
 have f10 := g0_0_0.stp (S3.tr S7) rfl rfl
 have f11 := g0_0_1.stp (S3.tr S7) rfl rfl
 have f12 := g0_1.stp (S3.tr S7) rfl rfl
 refine WO.call rfl rfl rfl rfl rfl rfl Try.call95 (i_ParityOk_ok (κ := fun b => mp [] 0 (K6 b)) (Sl.map f10 (mp [] 0) rfl rfl) (Sl.map f11 (mp [] 0) rfl rfl) (Sl.map f12 (mp [] 0) rfl rfl) hx6) ?_
 rintro _ w13 ⟨k14, rfl, e15⟩
 obtain ⟨K16, S17, m18⟩ := Ent.mixed (l := []) (κ := K6) e15 4 rfl
 refine ⟨trivial, ?_⟩
 refine WO.pn 1 rfl ?_
 obtain ⟨p11, h, hK20⟩ := Option.bind_eq_some_iff.mp h
 refine WO.meet [(3, 1), (4, 1), (5, 1), (6, 2)] [(7, 2)] (fun L w' => L = [(4, .bool false), (11, .bool p11)] ∧ ∃ κ', Stp [] K16 w13 κ' w') trivial ?_ ?_
 ·
  revert h
  cases ht21 : x6 with
  | true =>
   intro h; replace h := cT h
   have f22 := f9.stp S17 rfl rfl
   refine WO.k1 trivial rfl rfl rfl rfl (rn_la (cs := [.slice a0_0_0 p0.Arena.Owner.length u0_0_0, .slice a0_0_1 p0.Arena.Next.length u0_0_1, .slice a0_1 p0.Prio.length u0_1]) Try.isAgg64 Try.sizeOf64 rfl rfl rfl (haE f22.cells)) ?_
   have f23 := f8.stp S17 rfl rfl
   refine WO.k1 trivial rfl rfl rfl rfl (rn_la (cs := [.int .i64 p1.Kind, .int .i64 p1.V, .int .i64 p1.N]) Try.isAgg66 Try.sizeOf66 rfl rfl rfl (haE f23.cells)) ?_
   obtain ⟨x10, hx10, h⟩ := Option.bind_eq_some_iff.mp h
   have f24 := f10.stp S17 rfl rfl
   have f25 := f11.stp S17 rfl rfl
   have f26 := f12.stp S17 rfl rfl
   refine WO.call rfl rfl rfl rfl rfl rfl Try.call96 (i_isEdit_ok (κ := fun b => mp [] 0 (K16 b)) (Sl.map f24 (mp [] 0) rfl rfl) (Sl.map f25 (mp [] 0) rfl rfl) (Sl.map f26 (mp [] 0) rfl rfl) hx10) ?_
   rintro _ w27 ⟨k28, rfl, e29⟩
   obtain ⟨K30, S31, m32⟩ := Ent.mixed (l := []) (κ := K16) e29 6 rfl
   refine ⟨trivial, ?_⟩
   refine WO.pn 1 rfl ?_
   obtain rfl := Option.some.inj h
   exact WO.met _ trivial ⟨rfl, _, S31.wk rfl⟩ fun a ha => (ha.more (ha.more ha.nil rfl) rfl)
  | false =>
   intro h; replace h := cF h
   refine WO.ls rfl rfl rfl rfl ?_
   refine WO.ls rfl rfl rfl rfl ?_
   refine WO.ls rfl rfl rfl rfl ?_
   refine WO.pn 1 rfl ?_
   obtain rfl := Option.some.inj h
   exact WO.met _ trivial ⟨rfl, _, (Stp.refl _ _).wk rfl⟩ fun a ha => (ha.more (ha.more ha.nil rfl) rfl)
 rintro _ w34 _ ⟨rfl, K35, S36⟩
 have h := hK20
 refine WO.pn 1 rfl ?_
 refine WO.fin ?_
 refine DN.seq ?_
 refine WC.ret ?_
 have f37 := hE.stp (S3.tr (S7.tr (S17.tr S36))) rfl rfl
 refine DN.res (l := [.tmp 4]) Try.results37 (res_tmp rfl rfl) rfl ?_
 obtain rfl := Option.some.inj h
 exact ⟨K35, rfl, f37⟩

/- loop.example/g00869/laws.eqParity -/
theorem l_eqParity_ok {w : World} {κ : Col} {a0_0_0 : Option Addr} {u0_0_0 : Nat} {a0_0_1 : Option Addr} {u0_0_1 : Nat} {a0_1 : Option Addr} {u0_1 : Nat} {p0 : Parity} {a1_0_0 : Option Addr} {u1_0_0 : Nat} {a1_0_1 : Option Addr} {u1_0_1 : Nat} {a1_1 : Option Addr} {u1_1 : Nat} {p1 : Parity} (g0_0_0 : Rd (Rp.int .i64) κ w 0 a0_0_0 u0_0_0 p0.Arena.Owner) (g0_0_1 : Rd (Rp.sl (Rp.int .i64)) κ w 0 a0_0_1 u0_0_1 p0.Arena.Next) (g0_1 : Rd (Rp.int .i64) κ w 0 a0_1 u0_1 p0.Prio) (g1_0_0 : Rd (Rp.int .i64) κ w 0 a1_0_0 u1_0_0 p1.Arena.Owner) (g1_0_1 : Rd (Rp.sl (Rp.int .i64)) κ w 0 a1_0_1 u1_0_1 p1.Arena.Next) (g1_1 : Rd (Rp.int .i64) κ w 0 a1_1 u1_1 p1.Prio) {r : Bool} (h : l_eqParity p0 p1 = some r) : Ret Try.prog 38 [.agg #[.slice a0_0_0 p0.Arena.Owner.length u0_0_0, .slice a0_0_1 p0.Arena.Next.length u0_0_1, .slice a0_1 p0.Prio.length u0_1], .agg #[.slice a1_0_0 p1.Arena.Owner.length u1_0_0, .slice a1_0_1 p1.Arena.Next.length u1_0_1, .slice a1_1 p1.Prio.length u1_1]] w (fun v w' => ∃ (κ' : Col), v = .bool r ∧ Ent κ w κ' w') := by
 unfold l_eqParity at h
 refine Ret.enter Try.func38 rfl Try.ntmps38 rfl ?_
 dsimp only [envOf]
 have hE := Ent.refl κ w
 refine WC.seq ?_
 refine WC.rs [(0, 1), (1, 1), (2, 2)] rfl ?_
 refine WO.box (κ := κ) 2 rfl rfl rfl rfl rfl rfl rfl fun b2 w1 K2 S3 f4 => ⟨trivial, ?_⟩
 refine WO.box (κ := K2) 3 rfl rfl rfl rfl rfl rfl rfl fun b3 w5 K6 S7 f8 => ⟨trivial, ?_⟩
 refine WO.pn 1 rfl ?_
 refine WO.fin ?_
 refine DN.seq ?_
 refine WC.seq ?_
 refine WC.seq ?_
 refine WC.rs [(0, 2), (1, 1), (2, 2), (3, 1), (4, 1), (5, 2)] rfl ?_
 refine WO.k2 rfl rfl rfl rfl (rn_fieldAddr Try.runUnderlying64 rfl Try.sizeOf62 rfl rfl) ?_
 have f9 := f4.stp S7 rfl rfl
 refine WO.k1 trivial rfl rfl rfl rfl (rn_la (cs := [.slice a0_0_0 p0.Arena.Owner.length u0_0_0, .slice a0_0_1 p0.Arena.Next.length u0_0_1]) Try.isAgg62 Try.sizeOf62 rfl rfl rfl (haE (f9.lds 0 2 rfl))) ?_
 refine WO.k2 rfl rfl rfl rfl (rn_fieldAddr Try.runUnderlying64 rfl Try.sizeOf62 rfl rfl) ?_
 refine WO.k1 trivial rfl rfl rfl rfl (rn_la (cs := [.slice a1_0_0 p1.Arena.Owner.length u1_0_0, .slice a1_0_1 p1.Arena.Next.length u1_0_1]) Try.isAgg62 Try.sizeOf62 rfl rfl rfl (haE (f8.lds 0 2 rfl))) ?_
 obtain ⟨x9, hx9, h⟩ := Option.bind_eq_some_iff.mp h
 have f10 := g0_0_0.stp (S3.tr S7) rfl rfl
 have f11 := g0_0_1.stp (S3.tr S7) rfl rfl
 have f12 := g1_0_0.stp (S3.tr S7) rfl rfl
 have f13 := g1_0_1.stp (S3.tr S7) rfl rfl
 refine WO.call rfl rfl rfl rfl rfl rfl Try.call97 (l_eqArena_ok (κ := fun b => mp [] 0 (K6 b)) (Sl.map f10 (mp [] 0) rfl rfl) (Sl.map f11 (mp [] 0) rfl rfl) (Sl.map f12 (mp [] 0) rfl rfl) (Sl.map f13 (mp [] 0) rfl rfl) hx9) ?_
 rintro _ w14 ⟨k15, rfl, e16⟩
 obtain ⟨K17, S18, m19⟩ := Ent.mixed (l := []) (κ := K6) e16 4 rfl
 refine ⟨trivial, ?_⟩
 refine WO.pn 1 rfl ?_
 refine WO.fin ?_
 refine DN.seq ?_
 revert h
 cases ht21 : (!x9) with
 | true =>
  intro h; replace h := cT h
  refine WC.ct rfl ?_
  refine WC.seq ?_
  refine WC.rs [(0, 2)] rfl ?_
  refine WO.pn 1 rfl ?_
  refine WO.fin ?_
  refine DN.seq ?_
  refine WC.ret ?_
  refine DN.retThen ?_
  have f22 := hE.stp (S3.tr (S7.tr S18)) rfl rfl
  refine DN.res (l := [.tmp 4]) Try.results38 (res_tmp rfl rfl) rfl ?_
  obtain rfl := Option.some.inj h
  exact ⟨K17, rfl, f22⟩
 | false =>
  intro h; replace h := cF h
  refine WC.cf rfl ?_
  refine WC.skip ?_
  refine DN.seq ?_
  refine WC.seq ?_
  refine WC.seq ?_
  refine WC.rs [(0, 2), (1, 1), (2, 2), (3, 1), (4, 1), (5, 2)] rfl ?_
  refine WO.k2 rfl rfl rfl rfl (rn_fieldAddr Try.runUnderlying64 rfl Try.sizeOf24 rfl rfl) ?_
  have f23 := f9.stp S18 rfl rfl
  refine WO.k1 trivial rfl rfl rfl rfl (rn_ld Try.isAgg24 rfl rfl (hvE (f23.ld 2 rfl rfl))) ?_
  refine WO.k2 rfl rfl rfl rfl (rn_fieldAddr Try.runUnderlying64 rfl Try.sizeOf24 rfl rfl) ?_
  have f24 := f8.stp S18 rfl rfl
  refine WO.k1 trivial rfl rfl rfl rfl (rn_ld Try.isAgg24 rfl rfl (hvE (f24.ld 2 rfl rfl))) ?_
  obtain ⟨x15, hx15, h⟩ := Option.bind_eq_some_iff.mp h
  have f25 := g0_1.stp (S3.tr (S7.tr S18)) rfl rfl
  have f26 := g1_1.stp (S3.tr (S7.tr S18)) rfl rfl
  refine WO.call rfl rfl rfl rfl rfl rfl Try.call24 (l_eqInt64S_ok (κ := fun b => mp [] 0 (K17 b)) (Sl.map f25 (mp [] 0) rfl rfl) (Sl.map f26 (mp [] 0) rfl rfl) hx15) ?_
  rintro _ w27 ⟨k28, rfl, e29⟩
  obtain ⟨K30, S31, m32⟩ := Ent.mixed (l := []) (κ := K17) e29 6 rfl
  refine ⟨trivial, ?_⟩
  refine WO.pn 1 rfl ?_
  refine WO.fin ?_
  refine DN.seq ?_
  revert h
  cases ht34 : (!x15) with
  | true =>
   intro h; replace h := cT h
   refine WC.ct rfl ?_
   refine WC.seq ?_
   refine WC.rs [(0, 2)] rfl ?_
   refine WO.pn 1 rfl ?_
   refine WO.fin ?_
   refine DN.seq ?_
   refine WC.ret ?_
   refine DN.retThen ?_
   have f35 := hE.stp (S3.tr (S7.tr (S18.tr S31))) rfl rfl
   refine DN.res (l := [.tmp 4]) Try.results38 (res_tmp rfl rfl) rfl ?_
   obtain rfl := Option.some.inj h
   exact ⟨K30, rfl, f35⟩
  | false =>
   intro h; replace h := cF h
   refine WC.cf rfl ?_
   refine WC.skip ?_
   refine DN.seq ?_
   refine WC.seq ?_
   refine WC.rs [(0, 2)] rfl ?_
   refine WO.pn 1 rfl ?_
   refine WO.fin ?_
   refine DN.seq ?_
   refine WC.ret ?_
   have f36 := hE.stp (S3.tr (S7.tr (S18.tr S31))) rfl rfl
   refine DN.res (l := [.tmp 4]) Try.results38 (res_tmp rfl rfl) rfl ?_
   obtain rfl := Option.some.inj h
   exact ⟨K30, rfl, f36⟩

/- loop.example/g00869/laws.FnExactEditOk -/
theorem l_FnExactEditOk_ok {w : World} {κ : Col} {a0_0_0 : Option Addr} {u0_0_0 : Nat} {a0_0_1 : Option Addr} {u0_0_1 : Nat} {a0_1 : Option Addr} {u0_1 : Nat} {p0 : Parity} {p1 : Edit} (g0_0_0 : Rd (Rp.int .i64) κ w 0 a0_0_0 u0_0_0 p0.Arena.Owner) (g0_0_1 : Rd (Rp.sl (Rp.int .i64)) κ w 0 a0_0_1 u0_0_1 p0.Arena.Next) (g0_1 : Rd (Rp.int .i64) κ w 0 a0_1 u0_1 p0.Prio) {r : Bool} (h : l_FnExactEditOk p0 p1 = some r) : Ret Try.prog 6 [.agg #[.slice a0_0_0 p0.Arena.Owner.length u0_0_0, .slice a0_0_1 p0.Arena.Next.length u0_0_1, .slice a0_1 p0.Prio.length u0_1], .agg #[.int .i64 p1.Kind, .int .i64 p1.V, .int .i64 p1.N]] w (fun v w' => ∃ (κ' : Col), v = .bool r ∧ Ent κ w κ' w') := by
 unfold l_FnExactEditOk at h
 refine Ret.enter Try.func6 rfl Try.ntmps6 rfl ?_
 dsimp only [envOf]
 have hE := Ent.refl κ w
 refine WC.seq ?_
 refine WC.rs [(0, 1), (1, 1), (2, 2)] rfl ?_
 refine WO.box (κ := κ) 2 rfl rfl rfl rfl rfl rfl rfl fun b2 w1 K2 S3 f4 => ⟨trivial, ?_⟩
 refine WO.box (κ := K2) 3 rfl rfl rfl rfl rfl rfl rfl fun b3 w5 K6 S7 f8 => ⟨trivial, ?_⟩
 refine WO.pn 1 rfl ?_
 refine WO.fin ?_
 refine DN.seq ?_
 refine WC.seq ?_
 refine WC.rs [(0, 2)] rfl ?_
 refine WO.pn 1 rfl ?_
 refine WO.fin ?_
 refine DN.seq ?_
 refine WC.seq ?_
 refine WC.rs [(0, 1), (1, 2), (2, 1), (3, 2)] rfl ?_
 have f9 := f4.stp S7 rfl rfl
 refine WO.k1 trivial rfl rfl rfl rfl (rn_la (cs := [.slice a0_0_0 p0.Arena.Owner.length u0_0_0, .slice a0_0_1 p0.Arena.Next.length u0_0_1, .slice a0_1 p0.Prio.length u0_1]) Try.isAgg57 Try.sizeOf57 rfl rfl rfl (haE f9.cells)) ?_
 refine WO.pn 1 rfl ?_
 obtain ⟨x11, hx11, h⟩ := Option.bind_eq_some_iff.mp h
 have f10 := g0_0_0.stp (S3.tr S7) rfl rfl
 have f11 := g0_0_1.stp (S3.tr S7) rfl rfl
 have f12 := g0_1.stp (S3.tr S7) rfl rfl
 refine WO.call rfl rfl rfl rfl rfl rfl Try.call33 (l_szParity_ok (κ := fun b => mp [] 0 (K6 b)) (Sl.map f10 (mp [] 0) rfl rfl) (Sl.map f11 (mp [] 0) rfl rfl) (Sl.map f12 (mp [] 0) rfl rfl) hx11) ?_
 rintro _ w13 ⟨k14, rfl, e15⟩
 obtain ⟨K16, S17, m18⟩ := Ent.mixed (l := []) (κ := K6) e15 4 rfl
 refine ⟨trivial, ?_⟩
 refine WO.pn 1 rfl ?_
 refine WO.fin ?_
 refine DN.seq ?_
 refine WC.seq ?_
 refine WC.seq ?_
 refine WC.rs [(0, 2), (1, 2)] rfl ?_
 refine WO.pn 2 rfl ?_
 refine WO.fin ?_
 refine DN.seq ?_
 revert h
 cases ht20 : decide (x11 < 0) with
 | true =>
  intro h; replace h := cT h
  refine WC.ct rfl ?_
  refine WC.seq ?_
  refine WC.rs [(0, 2)] rfl ?_
  refine WO.pn 1 rfl ?_
  refine WO.fin ?_
  refine DN.seq ?_
  refine WC.ret ?_
  refine DN.retThen ?_
  have f21 := hE.stp (S3.tr (S7.tr S17)) rfl rfl
  refine DN.res (l := [.tmp 4]) Try.results6 (res_tmp rfl rfl) rfl ?_
  obtain rfl := Option.some.inj h
  exact ⟨K16, rfl, f21⟩
 | false =>
  intro h; replace h := cF h
  refine WC.cf rfl ?_
  refine WC.skip ?_
  refine DN.seq ?_
  refine WC.seq ?_
  refine WC.rx (κ := K16) 5 none [(0, 0), (2, 0), (1, 1), (3, 1), (4, 1), (5, 2)] [] (by kernel_rfl) (by kernel_rfl) fun w23 S22 => ?_
  have f24 := f9.stp (S17.tr S22) rfl rfl
  refine WO.k0 rfl rfl rfl rfl (rn_la (cs := [.slice a0_0_0 p0.Arena.Owner.length u0_0_0, .slice a0_0_1 p0.Arena.Next.length u0_0_1, .slice a0_1 p0.Prio.length u0_1]) Try.isAgg57 Try.sizeOf57 rfl rfl rfl (haC f24.cells rfl)) ?_
  have f25 := f8.stp (S17.tr S22) rfl rfl
  refine WO.k0 rfl rfl rfl rfl (rn_la (cs := [.int .i64 p1.Kind, .int .i64 p1.V, .int .i64 p1.N]) Try.isAgg59 Try.sizeOf59 rfl rfl rfl (haC f25.cells rfl)) ?_
  obtain ⟨x15, hx15, h⟩ := Option.bind_eq_some_iff.mp h
  have f26 := f10.stp (S17.tr S22) rfl rfl
  have f27 := f11.stp (S17.tr S22) rfl rfl
  have f28 := f12.stp (S17.tr S22) rfl rfl
  refine WO.call rfl rfl rfl rfl rfl rfl Try.call35 (l_toParity_ok (κ := fun b => mp [] 0 (K16 b)) (Sl.map f26 (mp [] 0) rfl rfl) (Sl.map f27 (mp [] 0) rfl rfl) (Sl.map f28 (mp [] 0) rfl rfl) hx15) ?_
  rintro _ w29 ⟨k30, a15_0, u15_0, a15_1, u15_1, a15_2, u15_2, rfl, e31, f32, f33, f34⟩
  obtain ⟨K35, S36, m37⟩ := Ent.mixed (l := []) (κ := K16) e31 6 rfl
  refine ⟨(S36.cl rfl), ?_⟩
  have f39 := f32.mx (no_int _) m37 rfl (rfl : 6 + 2 = 8)
  have f40 := f33.mx (no_own (no_int _) _) m37 rfl (rfl : 6 + 3 = 9)
  have f41 := f34.mx (no_int _) m37 rfl (rfl : 6 + 4 = 10)
  obtain ⟨x17, hx17, h⟩ := Option.bind_eq_some_iff.mp h
  refine WO.call rfl rfl rfl rfl rfl rfl Try.call36 (l_toEdit_ok (κ := fun b => mp [] 0 (K35 b)) hx17) ?_
  rintro _ w42 ⟨k43, rfl, e44⟩
  obtain ⟨K45, S46, m47⟩ := Ent.mixed (l := []) (κ := K35) e44 11 rfl
  refine ⟨((S36.tr S46).cl rfl), ?_⟩
  obtain ⟨x18, hx18, h⟩ := Option.bind_eq_some_iff.mp h
  have f49 := f39.stp S46 rfl rfl
  have f50 := f40.stp S46 rfl rfl
  have f51 := f41.stp S46 rfl rfl
  refine WO.call rfl rfl rfl rfl rfl rfl Try.call34 (s_EditOk_ok (κ := fun b => mp [] 0 (K45 b)) (Sl.map f49.rdc (mp [] 0) rfl rfl) (Sl.map f50.rdc (mp [] 0) rfl rfl) (Sl.map f51.rdc (mp [] 0) rfl rfl) hx18) ?_
  rintro _ w52 ⟨k53, rfl, e54⟩
  obtain ⟨K55, S56, m57⟩ := Ent.mixed (l := []) (κ := K45) e54 13 rfl
  refine ⟨((S36.tr (S46.tr S56)).cl rfl), ?_⟩
  refine WO.pn 1 rfl ?_
  refine WO.nx ?_
  refine WO.fin ?_
  refine DN.seq ?_
  refine WC.seq ?_
  refine WC.rs [(0, 1), (1, 1), (2, 1), (3, 1)] rfl ?_
  have f59 := f24.stp (S36.tr (S46.tr S56)) rfl rfl
  refine WO.k1 trivial rfl rfl rfl rfl (rn_la (cs := [.slice a0_0_0 p0.Arena.Owner.length u0_0_0, .slice a0_0_1 p0.Arena.Next.length u0_0_1, .slice a0_1 p0.Prio.length u0_1]) Try.isAgg57 Try.sizeOf57 rfl rfl rfl (haE f59.cells)) ?_
  obtain ⟨x20, hx20, h⟩ := Option.bind_eq_some_iff.mp h
  have f60 := f26.stp (S36.tr (S46.tr S56)) rfl rfl
  have f61 := f27.stp (S36.tr (S46.tr S56)) rfl rfl
  have f62 := f28.stp (S36.tr (S46.tr S56)) rfl rfl
  refine WO.call rfl rfl rfl rfl rfl rfl Try.call35 (l_toParity_ok (κ := fun b => mp [] 0 (K55 b)) (Sl.map f60 (mp [] 0) rfl rfl) (Sl.map f61 (mp [] 0) rfl rfl) (Sl.map f62 (mp [] 0) rfl rfl) hx20) ?_
  rintro _ w63 ⟨k64, a20_0, u20_0, a20_1, u20_1, a20_2, u20_2, rfl, e65, f66, f67, f68⟩
  obtain ⟨K69, S70, m71⟩ := Ent.mixed (l := []) (κ := K55) e65 15 rfl
  refine ⟨trivial, ?_⟩
  have f73 := f66.mx (no_int _) m71 rfl (rfl : 15 + 2 = 17)
  have f74 := f67.mx (no_own (no_int _) _) m71 rfl (rfl : 15 + 3 = 18)
  have f75 := f68.mx (no_int _) m71 rfl (rfl : 15 + 4 = 19)
  refine WO.alloc (κ := K69) 20 rfl rfl rfl rfl rfl Try.zeroValue64 rfl fun b7 w76 K77 S78 f79 => ⟨trivial, ?_⟩
  refine WO.stB0 (κ := K77) 20 (vc := [.slice a20_0 x20.Arena.Owner.length u20_0, .slice a20_1 x20.Arena.Next.length u20_1, .slice a20_2 x20.Prio.length u20_2]) rfl rfl rfl rfl rfl rfl rfl Try.sizeOf64 rfl rfl f79 rfl fun w80 S81 f82 => ⟨trivial, ?_⟩
  refine WO.fin ?_
  refine DN.seq ?_
  refine WC.seq ?_
  refine WC.rx (κ := K77) 20 none [(0, 0), (1, 0), (2, 1), (3, 1), (4, 2)] [] (by kernel_rfl) (by kernel_rfl) fun w84 S83 => ?_
  have f85 := f82.stp S83 rfl rfl
  refine WO.k0 rfl rfl rfl rfl (rn_la (cs := [.slice a20_0 x20.Arena.Owner.length u20_0, .slice a20_1 x20.Arena.Next.length u20_1, .slice a20_2 x20.Prio.length u20_2]) Try.isAgg64 Try.sizeOf64 rfl rfl rfl (haC f85.cells rfl)) ?_
  have f86 := f25.stp (S36.tr (S46.tr (S56.tr (S70.tr (S78.tr (S81.tr S83)))))) rfl rfl
  refine WO.k0 rfl rfl rfl rfl (rn_la (cs := [.int .i64 p1.Kind, .int .i64 p1.V, .int .i64 p1.N]) Try.isAgg59 Try.sizeOf59 rfl rfl rfl (haC f86.cells rfl)) ?_
  obtain ⟨x23, hx23, h⟩ := Option.bind_eq_some_iff.mp h
  refine WO.call rfl rfl rfl rfl rfl rfl Try.call36 (l_toEdit_ok (κ := fun b => mp [] 0 (K77 b)) hx23) ?_
  rintro _ w87 ⟨k88, rfl, e89⟩
  obtain ⟨K90, S91, m92⟩ := Ent.mixed (l := []) (κ := K77) e89 21 rfl
  refine ⟨(S91.cl rfl), ?_⟩
  obtain ⟨x24, hx24, h⟩ := Option.bind_eq_some_iff.mp h
  have f94 := f73.stp (S78.tr (S81.tr (S83.tr S91))) rfl rfl
  have f95 := f74.stp (S78.tr (S81.tr (S83.tr S91))) rfl rfl
  have f96 := f75.stp (S78.tr (S81.tr (S83.tr S91))) rfl rfl
  refine WO.call rfl rfl rfl rfl rfl rfl Try.call37 (i_EditOk_ok (κ := fun b => mp [] 0 (K90 b)) (Sl.map f94.rdc (mp [] 0) rfl rfl) (Sl.map f95.rdc (mp [] 0) rfl rfl) (Sl.map f96.rdc (mp [] 0) rfl rfl) hx24) ?_
  rintro _ w97 ⟨k98, rfl, e99⟩
  obtain ⟨K100, S101, m102⟩ := Ent.mixed (l := []) (κ := K90) e99 23 rfl
  refine ⟨((S91.tr S101).cl rfl), ?_⟩
  refine WO.pn 1 rfl ?_
  refine WO.nx ?_
  refine WO.fin ?_
  refine DN.seq ?_
  refine WC.seq ?_
  refine WC.seq ?_
  refine WC.rs [(0, 2), (1, 2), (2, 2)] rfl ?_
  refine WO.pn 2 rfl ?_
  refine WO.k2 rfl rfl rfl rfl (rn_neqB rfl rfl Try.runUnderlying4 rfl) ?_
  refine WO.fin ?_
  refine DN.seq ?_
  revert h
  cases ht104 : (x24 != x18) with
  | true =>
   intro h; replace h := cT h
   refine WC.ct rfl ?_
   refine WC.seq ?_
   refine WC.rs [(0, 2)] rfl ?_
   refine WO.pn 1 rfl ?_
   refine WO.fin ?_
   refine DN.seq ?_
   refine WC.ret ?_
   refine DN.retThen ?_
   have f105 := hE.stp (S3.tr (S7.tr (S17.tr (S22.tr (S36.tr (S46.tr (S56.tr (S70.tr (S78.tr (S81.tr (S83.tr (S91.tr S101)))))))))))) rfl rfl
   refine DN.res (l := [.tmp 4]) Try.results6 (res_tmp rfl rfl) rfl ?_
   obtain rfl := Option.some.inj h
   exact ⟨K100, rfl, f105⟩
  | false =>
   intro h; replace h := cF h
   refine WC.cf rfl ?_
   refine WC.skip ?_
   refine DN.seq ?_
   refine WC.seq ?_
   refine WC.seq ?_
   refine WC.rx (κ := K100) 24 none [(0, 0), (1, 0), (2, 1), (3, 1), (4, 2)] [] (by kernel_rfl) (by kernel_rfl) fun w107 S106 => ?_
   have f108 := f85.stp (S91.tr (S101.tr S106)) rfl rfl
   refine WO.k0 rfl rfl rfl rfl (rn_la (cs := [.slice a20_0 x20.Arena.Owner.length u20_0, .slice a20_1 x20.Arena.Next.length u20_1, .slice a20_2 x20.Prio.length u20_2]) Try.isAgg64 Try.sizeOf64 rfl rfl rfl (haC f108.cells rfl)) ?_
   have f109 := f59.stp (S70.tr (S78.tr (S81.tr (S83.tr (S91.tr (S101.tr S106)))))) rfl rfl
   refine WO.k0 rfl rfl rfl rfl (rn_la (cs := [.slice a0_0_0 p0.Arena.Owner.length u0_0_0, .slice a0_0_1 p0.Arena.Next.length u0_0_1, .slice a0_1 p0.Prio.length u0_1]) Try.isAgg57 Try.sizeOf57 rfl rfl rfl (haC f109.cells rfl)) ?_
   obtain ⟨x30, hx30, h⟩ := Option.bind_eq_some_iff.mp h
   have f110 := f60.stp (S70.tr (S78.tr (S81.tr (S83.tr (S91.tr (S101.tr S106)))))) rfl rfl
   have f111 := f61.stp (S70.tr (S78.tr (S81.tr (S83.tr (S91.tr (S101.tr S106)))))) rfl rfl
   have f112 := f62.stp (S70.tr (S78.tr (S81.tr (S83.tr (S91.tr (S101.tr S106)))))) rfl rfl
   refine WO.call rfl rfl rfl rfl rfl rfl Try.call35 (l_toParity_ok (κ := fun b => mp [] 0 (K100 b)) (Sl.map f110 (mp [] 0) rfl rfl) (Sl.map f111 (mp [] 0) rfl rfl) (Sl.map f112 (mp [] 0) rfl rfl) hx30) ?_
   rintro _ w113 ⟨k114, a30_0, u30_0, a30_1, u30_1, a30_2, u30_2, rfl, e115, f116, f117, f118⟩
   obtain ⟨K119, S120, m121⟩ := Ent.mixed (l := []) (κ := K100) e115 25 rfl
   refine ⟨(S120.cl rfl), ?_⟩
   have f123 := f116.mx (no_int _) m121 rfl (rfl : 25 + 2 = 27)
   have f124 := f117.mx (no_own (no_int _) _) m121 rfl (rfl : 25 + 3 = 28)
   have f125 := f118.mx (no_int _) m121 rfl (rfl : 25 + 4 = 29)
   obtain ⟨x31, hx31, h⟩ := Option.bind_eq_some_iff.mp h
   have f126 := f94.stp (S101.tr (S106.tr S120)) rfl rfl
   have f127 := f95.stp (S101.tr (S106.tr S120)) rfl rfl
   have f128 := f96.stp (S101.tr (S106.tr S120)) rfl rfl
   refine WO.call rfl rfl rfl rfl rfl rfl Try.call38 (l_eqParity_ok (κ := fun b => mp [] 0 (K119 b)) (Sl.map f126.rdc (mp [] 0) rfl rfl) (Sl.map f127.rdc (mp [] 0) rfl rfl) (Sl.map f128.rdc (mp [] 0) rfl rfl) (Sl.map f123.rdc (mp [] 0) rfl rfl) (Sl.map f124.rdc (mp [] 0) rfl rfl) (Sl.map f125.rdc (mp [] 0) rfl rfl) hx31) ?_
   rintro _ w129 ⟨k130, rfl, e131⟩
   obtain ⟨K132, S133, m134⟩ := Ent.mixed (l := []) (κ := K119) e131 30 rfl
   refine ⟨((S120.tr S133).cl rfl), ?_⟩
   refine WO.pn 1 rfl ?_
   refine WO.nx ?_
   refine WO.fin ?_
   refine DN.seq ?_
   revert h
   cases ht136 : (!x31) with
   | true =>
    intro h; replace h := cT h
    refine WC.ct rfl ?_
    refine WC.seq ?_
    refine WC.rs [(0, 2)] rfl ?_
    refine WO.pn 1 rfl ?_
    refine WO.fin ?_
    refine DN.seq ?_
    refine WC.ret ?_
    refine DN.retThen ?_
    have f137 := hE.stp (S3.tr (S7.tr (S17.tr (S22.tr (S36.tr (S46.tr (S56.tr (S70.tr (S78.tr (S81.tr (S83.tr (S91.tr (S101.tr (S106.tr (S120.tr S133))))))))))))))) rfl rfl
    refine DN.res (l := [.tmp 4]) Try.results6 (res_tmp rfl rfl) rfl ?_
    obtain rfl := Option.some.inj h
    exact ⟨K132, rfl, f137⟩
   | false =>
    intro h; replace h := cF h
    refine WC.cf rfl ?_
    refine WC.skip ?_
    refine DN.seq ?_
    refine WC.seq ?_
    refine WC.rs [(0, 2)] rfl ?_
    refine WO.pn 1 rfl ?_
    refine WO.fin ?_
    refine DN.seq ?_
    refine WC.ret ?_
    have f138 := hE.stp (S3.tr (S7.tr (S17.tr (S22.tr (S36.tr (S46.tr (S56.tr (S70.tr (S78.tr (S81.tr (S83.tr (S91.tr (S101.tr (S106.tr (S120.tr S133))))))))))))))) rfl rfl
    refine DN.res (l := [.tmp 4]) Try.results6 (res_tmp rfl rfl) rfl ?_
    obtain rfl := Option.some.inj h
    exact ⟨K132, rfl, f138⟩

/- loop.example/g00869/impl.areLetters -/
theorem i_areLetters_ok {w : World} {κ : Col} {a0 : Option Addr} {u0 : Nat} {p0 : (List Int)} {p1 : Int} (g0 : Rd (Rp.int .i64) κ w 0 a0 u0 p0) {r : Bool} (h : i_areLetters p0 p1 = some r) : Ret Try.prog 80 [.slice a0 p0.length u0, .int .i64 p1] w (fun v w' => ∃ (κ' : Col), v = .bool r ∧ Ent κ w κ' w') := by
 unfold i_areLetters at h
 refine Ret.enter Try.func80 rfl Try.ntmps80 rfl ?_
 dsimp only [envOf]
 have hE := Ent.refl κ w
 refine WC.seq ?_
 refine WC.rs [(0, 1), (1, 2)] rfl ?_
 refine WO.box (κ := κ) 2 rfl rfl rfl rfl rfl rfl rfl fun b3 w1 K2 S3 f4 => ⟨trivial, ?_⟩
 refine WO.pn 1 rfl ?_
 refine WO.fin ?_
 refine DN.seq ?_
 refine WC.seq ?_
 refine WC.rs [(0, 2), (1, 2), (2, 1), (3, 2), (4, 2)] rfl ?_
 refine WO.pn 1 rfl ?_
 refine WO.k2 rfl rfl rfl rfl (rn_makeFunc (first := []) (captured := [.tmp 3]) rfl rfl rfl ⟨_, rfl⟩) ?_
 obtain ⟨x7, hx7, h⟩ := Option.bind_eq_some_iff.mp h
 have f5 := g0.stp S3 rfl rfl
 refine WO.call rfl rfl rfl rfl rfl rfl Try.call134 (slices_ContainsFunc_I_int64__i_areLetters_1_ok (κ := fun b => mp [] 0 (K2 b)) (Sl.map f5 (mp [] 0) rfl rfl) (f4.map (mp [] 0) rfl rfl) hx7) ?_
 rintro _ w6 ⟨k7, rfl, e8⟩
 obtain ⟨K9, S10, m11⟩ := Ent.mixed (l := []) (κ := K2) e8 3 rfl
 refine ⟨trivial, ?_⟩
 refine WO.pn 2 rfl ?_
 refine WO.fin ?_
 refine DN.seq ?_
 refine WC.ret ?_
 have f13 := hE.stp (S3.tr S10) rfl rfl
 refine DN.res (l := [.tmp 4]) Try.results80 (res_tmp rfl rfl) rfl ?_
 obtain rfl := Option.some.inj h
 exact ⟨K9, rfl, f13⟩

end Go.Proofs.Ytgniipbjjkodaaa
