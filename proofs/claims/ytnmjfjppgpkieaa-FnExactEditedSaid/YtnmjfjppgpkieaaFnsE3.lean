/- The walks, part 3. By program. -/
import Derived.Test.YtnmjfjppgpkieaaSort
import Derived.Test.YtnmjfjppgpkieaaShelf
import Derived.Test.YtnmjfjppgpkieaaFnsE2
set_option linter.unusedVariables false
set_option linter.unusedSimpArgs false
namespace Go.Proofs.Ytnmjfjppgpkieaa
open Go Go.Wk Go.Proofs
set_option maxRecDepth 100000
set_option maxHeartbeats 1000000

/- loop.example/g00869/laws.szParity -/
theorem l_szParity_ok {w : World} {κ : Col} {a0_0_0 : Option Addr} {u0_0_0 : Nat} {a0_0_1 : Option Addr} {u0_0_1 : Nat} {a0_1 : Option Addr} {u0_1 : Nat} {p0 : Parity} {p1 : Int} (g0_0_0 : Rd (Rp.int .i64) κ w 0 a0_0_0 u0_0_0 p0.Arena.Owner) (g0_0_1 : Rd (Rp.sl (Rp.int .i64)) κ w 0 a0_0_1 u0_0_1 p0.Arena.Next) (g0_1 : Rd (Rp.int .i64) κ w 0 a0_1 u0_1 p0.Prio) {r : Int} (h : l_szParity p0 p1 = some r) : Ret Try.prog 32 [.agg #[.slice a0_0_0 p0.Arena.Owner.length u0_0_0, .slice a0_0_1 p0.Arena.Next.length u0_0_1, .slice a0_1 p0.Prio.length u0_1], .int .i64 p1] w (fun v w' => ∃ (κ' : Col), v = .int .i64 r ∧ Ent κ w κ' w') := by
 unfold l_szParity at h
 refine Ret.enter Try.func32 rfl Try.ntmps32 rfl ?_
 dsimp only [envOf]
 have hE := Ent.refl κ w
 refine WC.seq ?_
 refine WC.rs [(0, 1), (1, 2)] rfl ?_
 refine WO.box (κ := κ) 2 rfl rfl rfl rfl rfl rfl rfl fun b2 w1 K2 S3 f4 => ⟨trivial, ?_⟩
 refine WO.pn 1 rfl ?_
 refine WO.fin ?_
 refine DN.seq ?_
 refine WC.seq ?_
 refine WC.rs [(0, 2), (1, 1), (2, 2), (3, 1), (4, 2)] rfl ?_
 refine WO.k2 rfl rfl rfl rfl (rn_fieldAddr Try.runUnderlying68 rfl Try.sizeOf66 rfl rfl) ?_
 refine WO.k1 trivial rfl rfl rfl rfl (rn_la (cs := [.slice a0_0_0 p0.Arena.Owner.length u0_0_0, .slice a0_0_1 p0.Arena.Next.length u0_0_1]) Try.isAgg66 Try.sizeOf66 rfl rfl rfl (haE (f4.lds 0 2 rfl))) ?_
 refine WO.pn 1 rfl ?_
 obtain ⟨x8, hx8, h⟩ := Option.bind_eq_some_iff.mp h
 have f5 := g0_0_0.stp S3 rfl rfl
 have f6 := g0_0_1.stp S3 rfl rfl
 refine WO.call rfl rfl rfl rfl rfl rfl Try.call71 (l_szArena_ok (κ := fun b => mp [] 0 (K2 b)) (p0 := p0.Arena) (Sl.map f5 (mp [] 0) rfl rfl) (Sl.map f6 (mp [] 0) rfl rfl) hx8) ?_
 rintro _ w7 ⟨k8, rfl, e9⟩
 obtain ⟨K10, S11, m12⟩ := Ent.mixed (l := []) (κ := K2) e9 3 rfl
 refine ⟨trivial, ?_⟩
 refine WO.pn 1 rfl ?_
 refine WO.fin ?_
 refine DN.seq ?_
 refine WC.seq ?_
 refine WC.seq ?_
 refine WC.rs [(0, 2), (1, 2)] rfl ?_
 refine WO.pn 2 rfl ?_
 refine WO.fin ?_
 refine DN.seq ?_
 revert h
 cases ht14 : decide (x8 < 0) with
 | true =>
  intro h; replace h := cT h
  refine WC.ct rfl ?_
  refine WC.seq ?_
  refine WC.rs [(0, 2)] rfl ?_
  refine WO.pn 1 rfl ?_
  refine WO.fin ?_
  refine DN.seq ?_
  refine WC.ret ?_
  refine DN.retThen ?_
  have f15 := hE.stp (S3.tr S11) rfl rfl
  refine DN.res (l := [.tmp 4]) Try.results32 (res_tmp rfl rfl) rfl ?_
  obtain rfl := Option.some.inj h
  exact ⟨K10, rfl, f15⟩
 | false =>
  intro h; replace h := cF h
  refine WC.cf rfl ?_
  refine WC.skip ?_
  refine DN.seq ?_
  refine WC.seq ?_
  refine WC.rs [(0, 2), (1, 1), (2, 2), (3, 1), (4, 2)] rfl ?_
  refine WO.k2 rfl rfl rfl rfl (rn_fieldAddr Try.runUnderlying68 rfl Try.sizeOf28 rfl rfl) ?_
  have f16 := f4.stp S11 rfl rfl
  refine WO.k1 trivial rfl rfl rfl rfl (rn_ld Try.isAgg28 rfl rfl (hvE (f16.ld 2 rfl rfl))) ?_
  refine WO.pn 1 rfl ?_
  obtain ⟨x14, hx14, h⟩ := Option.bind_eq_some_iff.mp h
  have f17 := g0_1.stp (S3.tr S11) rfl rfl
  refine WO.call rfl rfl rfl rfl rfl rfl Try.call48 (l_szInt64S_ok (κ := fun b => mp [] 0 (K10 b)) (Sl.map f17 (mp [] 0) rfl rfl) hx14) ?_
  rintro _ w18 ⟨k19, rfl, e20⟩
  obtain ⟨K21, S22, m23⟩ := Ent.mixed (l := []) (κ := K10) e20 5 rfl
  refine ⟨trivial, ?_⟩
  refine WO.pn 1 rfl ?_
  refine WO.fin ?_
  refine DN.seq ?_
  refine WC.seq ?_
  refine WC.seq ?_
  refine WC.rs [(0, 2), (1, 2)] rfl ?_
  refine WO.pn 2 rfl ?_
  refine WO.fin ?_
  refine DN.seq ?_
  revert h
  cases ht25 : decide (x14 < 0) with
  | true =>
   intro h; replace h := cT h
   refine WC.ct rfl ?_
   refine WC.seq ?_
   refine WC.rs [(0, 2)] rfl ?_
   refine WO.pn 1 rfl ?_
   refine WO.fin ?_
   refine DN.seq ?_
   refine WC.ret ?_
   refine DN.retThen ?_
   have f26 := hE.stp (S3.tr (S11.tr S22)) rfl rfl
   refine DN.res (l := [.tmp 4]) Try.results32 (res_tmp rfl rfl) rfl ?_
   obtain rfl := Option.some.inj h
   exact ⟨K21, rfl, f26⟩
  | false =>
   intro h; replace h := cF h
   refine WC.cf rfl ?_
   refine WC.skip ?_
   refine DN.seq ?_
   refine WC.seq ?_
   refine WC.rs [(0, 2), (1, 2)] rfl ?_
   refine WO.pn 2 rfl ?_
   refine WO.fin ?_
   refine DN.seq ?_
   refine WC.ret ?_
   have f27 := hE.stp (S3.tr (S11.tr S22)) rfl rfl
   refine DN.res (l := [.tmp 4]) Try.results32 (res_tmp rfl rfl) rfl ?_
   obtain rfl := Option.some.inj h
   exact ⟨K21, rfl, f27⟩

/- loop.example/g00869/laws.toParity -/
theorem l_toParity_ok {w : World} {κ : Col} {a0_0_0 : Option Addr} {u0_0_0 : Nat} {a0_0_1 : Option Addr} {u0_0_1 : Nat} {a0_1 : Option Addr} {u0_1 : Nat} {p0 : Parity} (g0_0_0 : Rd (Rp.int .i64) κ w 0 a0_0_0 u0_0_0 p0.Arena.Owner) (g0_0_1 : Rd (Rp.sl (Rp.int .i64)) κ w 0 a0_0_1 u0_0_1 p0.Arena.Next) (g0_1 : Rd (Rp.int .i64) κ w 0 a0_1 u0_1 p0.Prio) {r : Parity} (h : l_toParity p0 = some r) : Ret Try.prog 34 [.agg #[.slice a0_0_0 p0.Arena.Owner.length u0_0_0, .slice a0_0_1 p0.Arena.Next.length u0_0_1, .slice a0_1 p0.Prio.length u0_1]] w (fun v w' => ∃ (κ' : Col) (ra0 : Option Addr) (ru0 : Nat) (ra1 : Option Addr) (ru1 : Nat) (ra2 : Option Addr) (ru2 : Nat), v = .agg #[.slice ra0 r.Arena.Owner.length ru0, .slice ra1 r.Arena.Next.length ru1, .slice ra2 r.Prio.length ru2] ∧ Ent κ w κ' w' ∧ Oc (Ep.int .i64) 2 κ' w' 2 ra0 ru0 r.Arena.Owner ∧ Oc (Ep.own (Ep.int .i64) 2) 28 κ' w' 3 ra1 ru1 r.Arena.Next ∧ Oc (Ep.int .i64) 2 κ' w' 4 ra2 ru2 r.Prio) := by
 unfold l_toParity at h
 refine Ret.enter Try.func34 rfl Try.ntmps34 rfl ?_
 dsimp only [envOf]
 have hE := Ent.refl κ w
 refine WC.seq ?_
 refine WC.rs [(0, 1), (1, 1)] rfl ?_
 refine WO.box (κ := κ) 2 rfl rfl rfl rfl rfl rfl rfl fun b1 w1 K2 S3 f4 => ⟨trivial, ?_⟩
 refine WO.alloc (κ := K2) 3 rfl rfl rfl rfl rfl Try.zeroValue74 rfl fun b2 w5 K6 S7 f8 => ⟨trivial, ?_⟩
 refine WO.fin ?_
 refine DN.seq ?_
 refine WC.seq ?_
 refine WC.rs [(0, 1)] rfl ?_
 refine WO.alloc (κ := K6) 4 rfl rfl rfl rfl rfl Try.zeroValue74 rfl fun b3 w9 K10 S11 f12 => ⟨trivial, ?_⟩
 refine WO.fin ?_
 refine DN.seq ?_
 refine WC.seq ?_
 refine WC.rs [(0, 2), (1, 1), (2, 1), (3, 2), (4, 1)] rfl ?_
 refine WO.k2 rfl rfl rfl rfl (rn_fieldAddr Try.runUnderlying68 rfl Try.sizeOf66 rfl rfl) ?_
 have f13 := f4.stp (S7.tr S11) rfl rfl
 refine WO.k1 trivial rfl rfl rfl rfl (rn_la (cs := [.slice a0_0_0 p0.Arena.Owner.length u0_0_0, .slice a0_0_1 p0.Arena.Next.length u0_0_1]) Try.isAgg66 Try.sizeOf66 rfl rfl rfl (haE (f13.lds 0 2 rfl))) ?_
 obtain ⟨x6, hx6, h⟩ := Option.bind_eq_some_iff.mp h
 have f14 := g0_0_0.stp (S3.tr (S7.tr S11)) rfl rfl
 have f15 := g0_0_1.stp (S3.tr (S7.tr S11)) rfl rfl
 refine WO.call rfl rfl rfl rfl rfl rfl Try.call74 (l_toArena_ok (κ := fun b => mp [] 0 (K10 b)) (p0 := p0.Arena) (Sl.map f14 (mp [] 0) rfl rfl) (Sl.map f15 (mp [] 0) rfl rfl) hx6) ?_
 rintro _ w16 ⟨k17, a6_0, u6_0, a6_1, u6_1, rfl, e18, f19, f20⟩
 obtain ⟨K21, S22, m23⟩ := Ent.mixed (l := []) (κ := K10) e18 5 rfl
 refine ⟨trivial, ?_⟩
 have f25 := f19.mx (no_int _) m23 rfl (rfl : 5 + 2 = 7)
 have f26 := f20.mx (no_own (no_int _) _) m23 rfl (rfl : 5 + 3 = 8)
 refine WO.k2 rfl rfl rfl rfl (rn_fieldAddr Try.runUnderlying74 rfl Try.sizeOf72 rfl rfl) ?_
 have f27 := f12.stp S22 rfl rfl
 refine WO.stB (κ := K21) 4 (off := 0) (vc := [.slice a6_0 x6.Owner.length u6_0, .slice a6_1 x6.Next.length u6_1]) (cs' := [.slice a6_0 x6.Owner.length u6_0, .slice a6_1 x6.Next.length u6_1, .slice none 0 0]) rfl rfl rfl rfl rfl rfl rfl Try.sizeOf72 rfl rfl f27 rfl rfl fun w28 S29 f30 => ⟨trivial, ?_⟩
 refine WO.fin ?_
 refine DN.seq ?_
 refine WC.seq ?_
 refine WC.rs [(0, 2), (1, 1), (2, 1), (3, 2), (4, 1)] rfl ?_
 refine WO.k2 rfl rfl rfl rfl (rn_fieldAddr Try.runUnderlying68 rfl Try.sizeOf28 rfl rfl) ?_
 have f31 := f13.stp (S22.tr S29) rfl rfl
 refine WO.k1 trivial rfl rfl rfl rfl (rn_ld Try.isAgg28 rfl rfl (hvE (f31.ld 2 rfl rfl))) ?_
 obtain ⟨x10, hx10, h⟩ := Option.bind_eq_some_iff.mp h
 have f32 := g0_1.stp (S3.tr (S7.tr (S11.tr (S22.tr S29)))) rfl rfl
 refine WO.call rfl rfl rfl rfl rfl rfl Try.call53 (l_toInt64S_ok (κ := fun b => mp [] 0 (K21 b)) (Sl.map f32 (mp [] 0) rfl rfl) hx10) ?_
 rintro _ w33 ⟨k34, a10_0, u10_0, rfl, e35, f36⟩
 obtain ⟨K37, S38, m39⟩ := Ent.mixed (l := []) (κ := K21) e35 9 rfl
 refine ⟨trivial, ?_⟩
 have f41 := f36.mx (no_int _) m39 rfl (rfl : 9 + 2 = 11)
 refine WO.k2 rfl rfl rfl rfl (rn_fieldAddr Try.runUnderlying74 rfl Try.sizeOf28 rfl rfl) ?_
 have f42 := f30.stp S38 rfl rfl
 refine WO.stB (κ := K37) 4 (off := 2) (vc := [.slice a10_0 x10.length u10_0]) (cs' := [.slice a6_0 x6.Owner.length u6_0, .slice a6_1 x6.Next.length u6_1, .slice a10_0 x10.length u10_0]) rfl rfl rfl rfl rfl rfl rfl Try.sizeOf28 rfl rfl f42 rfl rfl fun w43 S44 f45 => ⟨trivial, ?_⟩
 refine WO.fin ?_
 refine DN.seq ?_
 refine WC.seq ?_
 refine WC.rs [(0, 1), (1, 1)] rfl ?_
 refine WO.k1 trivial rfl rfl rfl rfl (rn_la (cs := [.slice a6_0 x6.Owner.length u6_0, .slice a6_1 x6.Next.length u6_1, .slice a10_0 x10.length u10_0]) Try.isAgg74 Try.sizeOf74 rfl rfl rfl (haE f45.cells)) ?_
 have f46 := f8.stp (S11.tr (S22.tr (S29.tr (S38.tr S44)))) rfl rfl
 refine WO.stB0 (κ := K37) 3 (vc := [.slice a6_0 x6.Owner.length u6_0, .slice a6_1 x6.Next.length u6_1, .slice a10_0 x10.length u10_0]) rfl rfl rfl rfl rfl rfl rfl Try.sizeOf74 rfl rfl f46 rfl fun w47 S48 f49 => ⟨trivial, ?_⟩
 refine WO.fin ?_
 refine DN.seq ?_
 refine WC.ret ?_
 have f50 := hE.stp (S3.tr (S7.tr (S11.tr (S22.tr (S29.tr (S38.tr (S44.tr S48))))))) rfl rfl
 have f51 := f25.stp (S29.tr (S38.tr (S44.tr S48))) rfl rfl
 have f52 := f26.stp (S29.tr (S38.tr (S44.tr S48))) rfl rfl
 have f53 := f41.stp (S44.tr S48) rfl rfl
 refine DN.res (l := [.cell 2 74]) Try.results34 (res_cellA rfl f49 Try.isAgg74 Try.sizeOf74 rfl rfl) rfl ?_
 obtain rfl := Option.some.inj h
 exact ⟨(fun b => ren [(7, 2), (8, 3), (11, 4)] (K37 b)), a6_0, u6_0, a6_1, u6_1, a10_0, u10_0, rfl, (f50.map (ren [(7, 2), (8, 3), (11, 4)]) rfl rfl), (f51.map (ren [(7, 2), (8, 3), (11, 4)]) rfl rfl), (f52.map (ren [(7, 2), (8, 3), (11, 4)]) rfl rfl), (f53.map (ren [(7, 2), (8, 3), (11, 4)]) rfl rfl)⟩

/- loop.example/g00869/spec.ArenaOk -/
theorem s_ArenaOk_ok {w : World} {κ : Col} {a0_0 : Option Addr} {u0_0 : Nat} {a0_1 : Option Addr} {u0_1 : Nat} {p0 : Arena} (g0_0 : Rd (Rp.int .i64) κ w 0 a0_0 u0_0 p0.Owner) (g0_1 : Rd (Rp.sl (Rp.int .i64)) κ w 0 a0_1 u0_1 p0.Next) {r : Bool} (h : s_ArenaOk p0 = some r) : Ret Try.prog 116 [.agg #[.slice a0_0 p0.Owner.length u0_0, .slice a0_1 p0.Next.length u0_1]] w (fun v w' => ∃ (κ' : Col), v = .bool r ∧ Ent κ w κ' w') := by
 unfold s_ArenaOk at h
 refine Ret.enter Try.func116 rfl Try.ntmps116 rfl ?_
 dsimp only [envOf]
 have hE := Ent.refl κ w
 refine WC.seq ?_
 refine WC.rs [(0, 1), (1, 2)] rfl ?_
 refine WO.box (κ := κ) 2 rfl rfl rfl rfl rfl rfl rfl fun b1 w1 K2 S3 f4 => ⟨trivial, ?_⟩
 refine WO.pn 1 rfl ?_
 refine WO.fin ?_
 refine DN.seq ?_
 refine WC.seq ?_
 refine WC.rs [(0, 2), (1, 1), (2, 2), (3, 2)] rfl ?_
 refine WO.k2 rfl rfl rfl rfl (rn_fieldAddr Try.runUnderlying72 rfl Try.sizeOf28 rfl rfl) ?_
 refine WO.k1 trivial rfl rfl rfl rfl (rn_ld Try.isAgg28 rfl rfl (hvE (f4.ld 0 rfl rfl))) ?_
 refine WO.k2 rfl rfl rfl rfl (rn_len Try.runUnderlying28 rfl rfl) ?_
 refine WO.pn 1 rfl ?_
 refine WO.fin ?_
 refine DN.seq ?_
 refine WC.seq ?_
 refine WC.seq ?_
 refine WC.rs [(0, 2), (1, 1), (2, 2), (3, 2), (4, 2), (5, 1), (6, 2), (7, 2), (8, 1), (9, 2), (10, 2), (11, 2)] rfl ?_
 refine WO.pn 1 rfl ?_
 obtain ⟨x9, hx9, h⟩ := Option.bind_eq_some_iff.mp h
 refine WO.call rfl rfl rfl rfl rfl rfl Try.call96 (s_l1In_ok (κ := fun b => mp [] 0 (K2 b)) hx9) ?_
 rintro _ w5 ⟨k6, rfl, e7⟩
 obtain ⟨K8, S9, m10⟩ := Ent.mixed (l := []) (κ := K2) e7 3 rfl
 refine ⟨trivial, ?_⟩
 refine WO.pn 2 rfl ?_
 obtain ⟨p19, h, hK12⟩ := Option.bind_eq_some_iff.mp h
 refine WO.meet [(4, 2), (5, 1), (6, 2), (7, 2), (8, 1), (9, 2), (10, 2), (11, 2)] [] (fun L w' => L = [(1, .pointer (some ⟨b1, 0, none⟩)), (3, .int .i64 (p0.Owner.length : Int)), (19, .bool p19)] ∧ ∃ κ', Stp [] K8 w5 κ' w') trivial ?_ ?_
 ·
  revert h
  cases ht13 : (!x9) with
  | true =>
   intro h; replace h := cT h
   refine WO.pn 1 rfl ?_
   refine WO.ls rfl rfl rfl rfl ?_
   refine WO.pn 2 rfl ?_
   refine WO.ls rfl rfl rfl rfl ?_
   refine WO.pn 3 rfl ?_
   obtain rfl := Option.some.inj h
   exact WO.met _ trivial ⟨rfl, _, (Stp.refl _ _).wk rfl⟩ fun a ha => (ha.more (ha.more (ha.more ha.nil rfl) rfl) rfl)
  | false =>
   intro h; replace h := cF h
   refine WO.k2 rfl rfl rfl rfl (rn_fieldAddr Try.runUnderlying72 rfl Try.sizeOf24 rfl rfl) ?_
   have f14 := f4.stp S9 rfl rfl
   refine WO.k1 trivial rfl rfl rfl rfl (rn_ld Try.isAgg24 rfl rfl (hvE (f14.ld 1 rfl rfl))) ?_
   refine WO.k2 rfl rfl rfl rfl (rn_len Try.runUnderlying24 rfl rfl) ?_
   refine WO.k2 rfl rfl rfl rfl (rn_fieldAddr Try.runUnderlying72 rfl Try.sizeOf28 rfl rfl) ?_
   refine WO.k1 trivial rfl rfl rfl rfl (rn_ld Try.isAgg28 rfl rfl (hvE (f14.ld 0 rfl rfl))) ?_
   refine WO.k2 rfl rfl rfl rfl (rn_len Try.runUnderlying28 rfl rfl) ?_
   refine WO.pn 2 rfl ?_
   obtain rfl := Option.some.inj h
   exact WO.met _ trivial ⟨rfl, _, (Stp.refl _ _).wk rfl⟩ fun a ha => (ha.more (ha.more (ha.more ha.nil rfl) rfl) rfl)
 rintro _ w15 _ ⟨rfl, K16, S17⟩
 have h := hK12
 refine WO.fin ?_
 refine DN.seq ?_
 revert h
 cases ht18 : p19 with
 | true =>
  intro h; replace h := cT h
  refine WC.ct rfl ?_
  refine WC.seq ?_
  refine WC.rs [(0, 2)] rfl ?_
  refine WO.pn 1 rfl ?_
  refine WO.fin ?_
  refine DN.seq ?_
  refine WC.ret ?_
  refine DN.retThen ?_
  have f19 := hE.stp (S3.tr (S9.tr S17)) rfl rfl
  refine DN.res (l := [.tmp 2]) Try.results116 (res_tmp rfl rfl) rfl ?_
  obtain rfl := Option.some.inj h
  exact ⟨K16, rfl, f19⟩
 | false =>
  intro h; replace h := cF h
  refine WC.cf rfl ?_
  refine WC.skip ?_
  refine DN.seq ?_
  refine WC.seq ?_
  refine WC.seq ?_
  refine WC.rs [(0, 2)] rfl ?_
  refine WO.pn 1 rfl ?_
  refine WO.fin ?_
  refine DN.seq ?_
  have hN20 : (p0.Owner.length : Int) ≤ 9223372036854775807 := g0_0.len_le
  obtain ⟨q2, hq22, hK21⟩ := Option.bind_eq_some_iff.mp h
  clear h
  refine WC.meet (fun L w' => ∃ (κ' : Col), L = [] ∧ Stp [] K16 w15 κ' w' ∧ q2 = Sum.inr ()) ?_ ?_
  ·
   refine WC.block ?_
   refine WC.loop (fun k L w' => ∃ (κ' : Col) (v4 : Int), L = [(1, .pointer (some ⟨b1, 0, none⟩)), (3, .int .i64 (p0.Owner.length : Int)), (4, .int .i64 v4)] ∧ Stp [] K16 w15 κ' w' ∧ 0 ≤ v4 ∧ Int.toNat ((p0.Owner.length : Int) - v4) = k ∧ cntM (s_ArenaOk_b0 p0) k v4 () = some q2) ⟨_, _, ⟨K16, 0, rfl, (Stp.refl _ _).wk rfl, (by decide), (by simp), hq22⟩, fun a ha => (ha.more (ha.more (ha.more ha.nil rfl) rfl) rfl)⟩ ?_
   rintro k _ w26 ⟨K27, v4, rfl, S28, hj20, hJ20, h⟩
   rcases k with _ | k
   ·
    have hk29 := h; obtain ⟨o20, h⟩ := ex_eq (Sum.inr (Sum.inl ()) : Bool ⊕ ((Unit) ⊕ (Unit)))
    have hc20 : decide (v4 < (p0.Owner.length : Int)) = false := decide_eq_false (by omega)
    refine WC.seq ?_
    refine WC.seq ?_
    refine WC.rs [(0, 2), (1, 2), (2, 1), (3, 2), (4, 2)] rfl ?_
    refine WO.pn 1 rfl ?_
    refine WO.k2 rfl rfl rfl rfl (rn_fieldAddr Try.runUnderlying72 rfl Try.sizeOf28 rfl rfl) ?_
    have f30 := f4.stp (S9.tr (S17.tr S28)) rfl rfl
    refine WO.k1 trivial rfl rfl rfl rfl (rn_ld Try.isAgg28 rfl rfl (hvE (f30.ld 0 rfl rfl))) ?_
    refine WO.k2 rfl rfl rfl rfl (rn_len Try.runUnderlying28 rfl rfl) ?_
    refine WO.pn 1 rfl ?_
    refine WO.fin ?_
    refine DN.seq ?_
    refine WC.cf' rfl hc20 ?_
    refine WC.exit ?_
    refine DN.exitThen ?_
    refine DN.exitThen ?_
    obtain rfl := Option.some.inj h
    have h := hk29
    refine DN.hit ?_
    obtain rfl := Option.some.inj h
    exact DN.meet _ ⟨K27, rfl, S28.wk rfl, rfl⟩ fun a ha => ha.nil
   ·
    obtain ⟨o20, h, hk29⟩ := Option.bind_eq_some_iff.mp h; unfold s_ArenaOk_b0 at h
    have hc20 : decide (v4 < (p0.Owner.length : Int)) = true := decide_eq_true (by omega)
    refine WC.seq ?_
    refine WC.seq ?_
    refine WC.rs [(0, 2), (1, 2), (2, 1), (3, 2), (4, 2)] rfl ?_
    refine WO.pn 1 rfl ?_
    refine WO.k2 rfl rfl rfl rfl (rn_fieldAddr Try.runUnderlying72 rfl Try.sizeOf28 rfl rfl) ?_
    have f31 := f4.stp (S9.tr (S17.tr S28)) rfl rfl
    refine WO.k1 trivial rfl rfl rfl rfl (rn_ld Try.isAgg28 rfl rfl (hvE (f31.ld 0 rfl rfl))) ?_
    refine WO.k2 rfl rfl rfl rfl (rn_len Try.runUnderlying28 rfl rfl) ?_
    refine WO.pn 1 rfl ?_
    refine WO.fin ?_
    refine DN.seq ?_
    refine WC.ct' rfl hc20 ?_
    refine WC.skip ?_
    refine DN.seq ?_
    refine WC.seq ?_
    refine WC.block ?_
    refine WC.seq ?_
    refine WC.rs [(0, 2), (1, 1), (2, 2), (3, 2), (4, 1), (5, 1), (6, 2), (7, 2), (8, 2), (9, 1), (10, 2), (11, 2), (12, 1), (13, 2), (14, 2), (15, 2), (16, 2), (17, 2), (18, 1), (19, 2), (20, 2), (21, 1), (22, 2), (23, 2), (24, 2), (25, 2), (26, 2), (27, 1), (28, 2), (29, 2), (30, 1), (31, 2), (32, 1), (33, 2), (34, 2)] rfl ?_
    refine WO.k2 rfl rfl rfl rfl (rn_fieldAddr Try.runUnderlying72 rfl Try.sizeOf28 rfl rfl) ?_
    refine WO.k1 trivial rfl rfl rfl rfl (rn_ld Try.isAgg28 rfl rfl (hvE (f31.ld 0 rfl rfl))) ?_
    refine WO.pn 1 rfl ?_
    obtain ⟨x30, hx30, h⟩ := Option.bind_eq_some_iff.mp h
    refine WO.k2 rfl rfl rfl rfl (rn_index g0_0 hx30 Try.runUnderlying28 Try.sizeOf2 rfl rfl rfl rfl) ?_
    have f32 := g0_0.stp (S3.tr (S9.tr (S17.tr S28))) rfl rfl
    refine WO.k1 trivial rfl rfl rfl rfl (rn_ld Try.isAgg2 rfl rfl (hvE (f32.gInt hx30))) ?_
    obtain ⟨x32, hx32, h⟩ := Option.bind_eq_some_iff.mp h
    refine WO.call rfl rfl rfl rfl rfl rfl Try.call96 (s_l1In_ok (κ := fun b => mp [] 0 (K27 b)) hx32) ?_
    rintro _ w33 ⟨k34, rfl, e35⟩
    obtain ⟨K36, S37, m38⟩ := Ent.mixed (l := []) (κ := K27) e35 5 rfl
    refine ⟨trivial, ?_⟩
    refine WO.pn 2 rfl ?_
    obtain ⟨p42, h, hK40⟩ := Option.bind_eq_some_iff.mp h
    refine WO.meet [(8, 2), (9, 1), (10, 2), (11, 2), (12, 1), (13, 2), (14, 2), (15, 2)] [(16, 2), (17, 2), (18, 1), (19, 2), (20, 2), (21, 1), (22, 2), (23, 2), (24, 2), (25, 2), (26, 2), (27, 1), (28, 2), (29, 2), (30, 1), (31, 2), (32, 1), (33, 2), (34, 2)] (fun L w' => L = [(1, .pointer (some ⟨b1, 0, none⟩)), (3, .int .i64 (p0.Owner.length : Int)), (4, .int .i64 v4), (42, .bool p42)] ∧ ∃ κ', Stp [] K36 w33 κ' w') trivial ?_ ?_
    ·
     revert h
     cases ht41 : (!x32) with
     | true =>
      intro h; replace h := cT h
      refine WO.pn 1 rfl ?_
      refine WO.ls rfl rfl rfl rfl ?_
      refine WO.pn 2 rfl ?_
      refine WO.ls rfl rfl rfl rfl ?_
      refine WO.pn 3 rfl ?_
      obtain rfl := Option.some.inj h
      exact WO.met _ trivial ⟨rfl, _, (Stp.refl _ _).wk rfl⟩ fun a ha => (ha.more (ha.more (ha.more (ha.more ha.nil rfl) rfl) rfl) rfl)
     | false =>
      intro h; replace h := cF h
      refine WO.k2 rfl rfl rfl rfl (rn_fieldAddr Try.runUnderlying72 rfl Try.sizeOf24 rfl rfl) ?_
      have f42 := f31.stp S37 rfl rfl
      refine WO.k1 trivial rfl rfl rfl rfl (rn_ld Try.isAgg24 rfl rfl (hvE (f42.ld 1 rfl rfl))) ?_
      refine WO.pn 1 rfl ?_
      obtain ⟨x38, hx38, h⟩ := Option.bind_eq_some_iff.mp h
      refine WO.k2 rfl rfl rfl rfl (rn_index g0_1 hx38 Try.runUnderlying24 Try.sizeOf28 rfl rfl rfl rfl) ?_
      have f43 := g0_1.stp (S3.tr (S9.tr (S17.tr (S28.tr S37)))) rfl rfl
      obtain ⟨ax38, ux38, f44, hl45⟩ := f43.gSl hx38
      refine WO.k1 trivial rfl rfl rfl rfl (rn_ld Try.isAgg28 rfl rfl (hvE hl45)) ?_
      refine WO.k2 rfl rfl rfl rfl (rn_len Try.runUnderlying28 rfl rfl) ?_
      refine WO.pn 2 rfl ?_
      obtain rfl := Option.some.inj h
      exact WO.met _ trivial ⟨rfl, _, (Stp.refl _ _).wk rfl⟩ fun a ha => (ha.more (ha.more (ha.more (ha.more ha.nil rfl) rfl) rfl) rfl)
    rintro _ w46 _ ⟨rfl, K47, S48⟩
    have h := hK40
    refine WO.pn 1 rfl ?_
    obtain ⟨p51, h, hK49⟩ := Option.bind_eq_some_iff.mp h
    refine WO.meet [(17, 2), (18, 1), (19, 2), (20, 2), (21, 1), (22, 2), (23, 2), (24, 2)] [(25, 2), (26, 2), (27, 1), (28, 2), (29, 2), (30, 1), (31, 2), (32, 1), (33, 2), (34, 2)] (fun L w' => L = [(1, .pointer (some ⟨b1, 0, none⟩)), (3, .int .i64 (p0.Owner.length : Int)), (4, .int .i64 v4), (51, .bool p51)] ∧ ∃ κ', Stp [] K47 w46 κ' w') trivial ?_ ?_
    ·
     revert h
     cases ht50 : p42 with
     | true =>
      intro h; replace h := cT h
      refine WO.pn 1 rfl ?_
      refine WO.ls rfl rfl rfl rfl ?_
      refine WO.pn 2 rfl ?_
      refine WO.ls rfl rfl rfl rfl ?_
      refine WO.pn 3 rfl ?_
      obtain rfl := Option.some.inj h
      exact WO.met _ trivial ⟨rfl, _, (Stp.refl _ _).wk rfl⟩ fun a ha => (ha.more (ha.more (ha.more (ha.more ha.nil rfl) rfl) rfl) rfl)
     | false =>
      intro h; replace h := cF h
      refine WO.k2 rfl rfl rfl rfl (rn_fieldAddr Try.runUnderlying72 rfl Try.sizeOf24 rfl rfl) ?_
      have f51 := f31.stp (S37.tr S48) rfl rfl
      refine WO.k1 trivial rfl rfl rfl rfl (rn_ld Try.isAgg24 rfl rfl (hvE (f51.ld 1 rfl rfl))) ?_
      refine WO.pn 1 rfl ?_
      obtain ⟨x47, hx47, h⟩ := Option.bind_eq_some_iff.mp h
      refine WO.k2 rfl rfl rfl rfl (rn_index g0_1 hx47 Try.runUnderlying24 Try.sizeOf28 rfl rfl rfl rfl) ?_
      have f52 := g0_1.stp (S3.tr (S9.tr (S17.tr (S28.tr (S37.tr S48))))) rfl rfl
      obtain ⟨ax47, ux47, f53, hl54⟩ := f52.gSl hx47
      refine WO.k1 trivial rfl rfl rfl rfl (rn_ld Try.isAgg28 rfl rfl (hvE hl54)) ?_
      refine WO.k2 rfl rfl rfl rfl (rn_len Try.runUnderlying28 rfl rfl) ?_
      refine WO.pn 2 rfl ?_
      obtain rfl := Option.some.inj h
      exact WO.met _ trivial ⟨rfl, _, (Stp.refl _ _).wk rfl⟩ fun a ha => (ha.more (ha.more (ha.more (ha.more ha.nil rfl) rfl) rfl) rfl)
    rintro _ w55 _ ⟨rfl, K56, S57⟩
    have h := hK49
    refine WO.pn 1 rfl ?_
    obtain ⟨p61, h, hK58⟩ := Option.bind_eq_some_iff.mp h
    refine WO.meet [(26, 2), (27, 1), (28, 2), (29, 2), (30, 1), (31, 2), (32, 1), (33, 2), (34, 2)] [] (fun L w' => L = [(1, .pointer (some ⟨b1, 0, none⟩)), (3, .int .i64 (p0.Owner.length : Int)), (4, .int .i64 v4), (61, .bool p61)] ∧ ∃ κ', Stp [] K56 w55 κ' w') trivial ?_ ?_
    ·
     revert h
     cases ht59 : p51 with
     | true =>
      intro h; replace h := cT h
      refine WO.pn 1 rfl ?_
      refine WO.ls rfl rfl rfl rfl ?_
      refine WO.pn 2 rfl ?_
      refine WO.ls rfl rfl rfl rfl ?_
      refine WO.pn 1 rfl ?_
      refine WO.ls rfl rfl rfl rfl ?_
      refine WO.pn 2 rfl ?_
      obtain rfl := Option.some.inj h
      exact WO.met _ trivial ⟨rfl, _, (Stp.refl _ _).wk rfl⟩ fun a ha => (ha.more (ha.more (ha.more (ha.more ha.nil rfl) rfl) rfl) rfl)
     | false =>
      intro h; replace h := cF h
      refine WO.k2 rfl rfl rfl rfl (rn_fieldAddr Try.runUnderlying72 rfl Try.sizeOf24 rfl rfl) ?_
      have f60 := f31.stp (S37.tr (S48.tr S57)) rfl rfl
      refine WO.k1 trivial rfl rfl rfl rfl (rn_ld Try.isAgg24 rfl rfl (hvE (f60.ld 1 rfl rfl))) ?_
      refine WO.pn 1 rfl ?_
      obtain ⟨x56, hx56, h⟩ := Option.bind_eq_some_iff.mp h
      refine WO.k2 rfl rfl rfl rfl (rn_index g0_1 hx56 Try.runUnderlying24 Try.sizeOf28 rfl rfl rfl rfl) ?_
      have f61 := g0_1.stp (S3.tr (S9.tr (S17.tr (S28.tr (S37.tr (S48.tr S57)))))) rfl rfl
      obtain ⟨ax56, ux56, f62, hl63⟩ := f61.gSl hx56
      refine WO.k1 trivial rfl rfl rfl rfl (rn_ld Try.isAgg28 rfl rfl (hvE hl63)) ?_
      refine WO.pn 1 rfl ?_
      obtain ⟨x59, hx59, h⟩ := Option.bind_eq_some_iff.mp h
      refine WO.call rfl rfl rfl rfl rfl rfl Try.call136 (s_l1Set_ok (κ := fun b => mp [] 0 (K56 b)) (Sl.map f62 (mp [] 0) rfl rfl) hx59) ?_
      rintro _ w64 ⟨k65, rfl, e66⟩
      obtain ⟨K67, S68, m69⟩ := Ent.mixed (l := []) (κ := K56) e66 7 rfl
      refine ⟨trivial, ?_⟩
      refine WO.pn 2 rfl ?_
      obtain rfl := Option.some.inj h
      exact WO.met _ trivial ⟨rfl, _, S68.wk rfl⟩ fun a ha => (ha.more (ha.more (ha.more (ha.more ha.nil rfl) rfl) rfl) rfl)
    rintro _ w71 _ ⟨rfl, K72, S73⟩
    have h := hK58
    refine WO.fin ?_
    refine DN.seq ?_
    revert h
    cases ht74 : p61 with
    | true =>
     intro h; replace h := cT h
     refine WC.ct rfl ?_
     refine WC.seq ?_
     refine WC.rs [(0, 2)] rfl ?_
     refine WO.pn 1 rfl ?_
     refine WO.fin ?_
     refine DN.seq ?_
     refine WC.ret ?_
     refine DN.retBlock ?_
     refine DN.retThen ?_
     refine DN.retThen ?_
     obtain rfl := Option.some.inj h
     obtain rfl := Option.some.inj hk29
     have h := hK21
     dsimp only [aft] at h
     refine DN.retBlock ?_
     refine DN.retMeet ?_
     refine DN.retThen ?_
     have f75 := hE.stp (S3.tr (S9.tr (S17.tr (S28.tr (S37.tr (S48.tr (S57.tr S73))))))) rfl rfl
     refine DN.res (l := [.tmp 2]) Try.results116 (res_tmp rfl rfl) rfl ?_
     obtain rfl := Option.some.inj h
     exact ⟨K72, rfl, f75⟩
    | false =>
     intro h; replace h := cF h
     refine WC.cf rfl ?_
     refine WC.skip ?_
     refine DN.block ?_
     refine DN.seq ?_
     refine WC.rs [(0, 2), (1, 2), (2, 2)] rfl ?_
     refine WO.pn 3 rfl ?_
     refine WO.fin ?_
     have hw20 : IntKind.wrap .i64 (v4 + 1) = v4 + 1 := wr1 hj20 (of_decide_eq_true hc20) hN20
     rw [hw20]
     have hc20 := of_decide_eq_true hc20
     obtain rfl := Option.some.inj h
     refine DN.round fun a ha => ?_
     exact ⟨k, _, Nat.lt_succ_self _, ⟨K72, v4 + 1, rfl, (S28.tr (S37.tr (S48.tr (S57.tr S73)))).wk rfl, by omega, by omega, hk29⟩, (ha.more (ha.more (ha.more ha.nil rfl) rfl) rfl)⟩
  rintro _ w23 ⟨K24, rfl, S25, rfl⟩
  have h := hK21
  dsimp only [aft] at h
  refine DN.seq ?_
  refine WC.seq ?_
  refine WC.rs [(0, 2)] rfl ?_
  refine WO.pn 1 rfl ?_
  refine WO.fin ?_
  refine DN.seq ?_
  refine WC.ret ?_
  have f76 := hE.stp (S3.tr (S9.tr (S17.tr S25))) rfl rfl
  refine DN.res (l := [.tmp 2]) Try.results116 (res_tmp rfl rfl) rfl ?_
  obtain rfl := Option.some.inj h
  exact ⟨K24, rfl, f76⟩

/- loop.example/g00869/spec.ParityOk -/
theorem s_ParityOk_ok {w : World} {κ : Col} {a0_0_0 : Option Addr} {u0_0_0 : Nat} {a0_0_1 : Option Addr} {u0_0_1 : Nat} {a0_1 : Option Addr} {u0_1 : Nat} {p0 : Parity} (g0_0_0 : Rd (Rp.int .i64) κ w 0 a0_0_0 u0_0_0 p0.Arena.Owner) (g0_0_1 : Rd (Rp.sl (Rp.int .i64)) κ w 0 a0_0_1 u0_0_1 p0.Arena.Next) (g0_1 : Rd (Rp.int .i64) κ w 0 a0_1 u0_1 p0.Prio) {r : Bool} (h : s_ParityOk p0 = some r) : Ret Try.prog 81 [.agg #[.slice a0_0_0 p0.Arena.Owner.length u0_0_0, .slice a0_0_1 p0.Arena.Next.length u0_0_1, .slice a0_1 p0.Prio.length u0_1]] w (fun v w' => ∃ (κ' : Col), v = .bool r ∧ Ent κ w κ' w') := by
 unfold s_ParityOk at h
 refine Ret.enter Try.func81 rfl Try.ntmps81 rfl ?_
 dsimp only [envOf]
 have hE := Ent.refl κ w
 refine WC.seq ?_
 refine WC.rs [(0, 1), (1, 2)] rfl ?_
 refine WO.box (κ := κ) 2 rfl rfl rfl rfl rfl rfl rfl fun b1 w1 K2 S3 f4 => ⟨trivial, ?_⟩
 refine WO.pn 1 rfl ?_
 refine WO.fin ?_
 refine DN.seq ?_
 refine WC.seq ?_
 refine WC.seq ?_
 refine WC.rs [(0, 2), (1, 1), (2, 1), (3, 2), (4, 2), (5, 2), (6, 1), (7, 2), (8, 2), (9, 2), (10, 1), (11, 2), (12, 2), (13, 2)] rfl ?_
 refine WO.k2 rfl rfl rfl rfl (rn_fieldAddr Try.runUnderlying74 rfl Try.sizeOf72 rfl rfl) ?_
 refine WO.k1 trivial rfl rfl rfl rfl (rn_la (cs := [.slice a0_0_0 p0.Arena.Owner.length u0_0_0, .slice a0_0_1 p0.Arena.Next.length u0_0_1]) Try.isAgg72 Try.sizeOf72 rfl rfl rfl (haE (f4.lds 0 2 rfl))) ?_
 obtain ⟨x6, hx6, h⟩ := Option.bind_eq_some_iff.mp h
 have f5 := g0_0_0.stp S3 rfl rfl
 have f6 := g0_0_1.stp S3 rfl rfl
 refine WO.call rfl rfl rfl rfl rfl rfl Try.call116 (s_ArenaOk_ok (κ := fun b => mp [] 0 (K2 b)) (p0 := p0.Arena) (Sl.map f5 (mp [] 0) rfl rfl) (Sl.map f6 (mp [] 0) rfl rfl) hx6) ?_
 rintro _ w7 ⟨k8, rfl, e9⟩
 obtain ⟨K10, S11, m12⟩ := Ent.mixed (l := []) (κ := K2) e9 3 rfl
 refine ⟨trivial, ?_⟩
 refine WO.pn 2 rfl ?_
 obtain ⟨p17, h, hK14⟩ := Option.bind_eq_some_iff.mp h
 refine WO.meet [(5, 2), (6, 1), (7, 2), (8, 2), (9, 2), (10, 1), (11, 2), (12, 2), (13, 2)] [] (fun L w' => L = [(1, .pointer (some ⟨b1, 0, none⟩)), (17, .bool p17)] ∧ ∃ κ', Stp [] K10 w7 κ' w') trivial ?_ ?_
 ·
  revert h
  cases ht15 : (!x6) with
  | true =>
   intro h; replace h := cT h
   refine WO.pn 1 rfl ?_
   refine WO.ls rfl rfl rfl rfl ?_
   refine WO.pn 3 rfl ?_
   refine WO.ls rfl rfl rfl rfl ?_
   refine WO.pn 3 rfl ?_
   obtain rfl := Option.some.inj h
   exact WO.met _ trivial ⟨rfl, _, (Stp.refl _ _).wk rfl⟩ fun a ha => (ha.more (ha.more ha.nil rfl) rfl)
  | false =>
   intro h; replace h := cF h
   refine WO.k2 rfl rfl rfl rfl (rn_fieldAddr Try.runUnderlying74 rfl Try.sizeOf28 rfl rfl) ?_
   have f16 := f4.stp S11 rfl rfl
   refine WO.k1 trivial rfl rfl rfl rfl (rn_ld Try.isAgg28 rfl rfl (hvE (f16.ld 2 rfl rfl))) ?_
   refine WO.k2 rfl rfl rfl rfl (rn_len Try.runUnderlying28 rfl rfl) ?_
   refine WO.k2 rfl rfl rfl rfl (rn_fieldAddr Try.runUnderlying74 rfl Try.sizeOf72 rfl rfl) ?_
   refine WO.k2 rfl rfl rfl rfl (rn_fieldAddr Try.runUnderlying72 rfl Try.sizeOf28 rfl rfl) ?_
   refine WO.k1 trivial rfl rfl rfl rfl (rn_ld Try.isAgg28 rfl rfl (hvE (f16.ld 0 rfl rfl))) ?_
   refine WO.k2 rfl rfl rfl rfl (rn_len Try.runUnderlying28 rfl rfl) ?_
   refine WO.pn 2 rfl ?_
   obtain rfl := Option.some.inj h
   exact WO.met _ trivial ⟨rfl, _, (Stp.refl _ _).wk rfl⟩ fun a ha => (ha.more (ha.more ha.nil rfl) rfl)
 rintro _ w17 _ ⟨rfl, K18, S19⟩
 have h := hK14
 refine WO.fin ?_
 refine DN.seq ?_
 revert h
 cases ht20 : p17 with
 | true =>
  intro h; replace h := cT h
  refine WC.ct rfl ?_
  refine WC.seq ?_
  refine WC.rs [(0, 2)] rfl ?_
  refine WO.pn 1 rfl ?_
  refine WO.fin ?_
  refine DN.seq ?_
  refine WC.ret ?_
  refine DN.retThen ?_
  have f21 := hE.stp (S3.tr (S11.tr S19)) rfl rfl
  refine DN.res (l := [.tmp 2]) Try.results81 (res_tmp rfl rfl) rfl ?_
  obtain rfl := Option.some.inj h
  exact ⟨K18, rfl, f21⟩
 | false =>
  intro h; replace h := cF h
  refine WC.cf rfl ?_
  refine WC.skip ?_
  refine DN.seq ?_
  refine WC.seq ?_
  refine WC.seq ?_
  refine WC.rs [(0, 2)] rfl ?_
  refine WO.pn 1 rfl ?_
  refine WO.fin ?_
  refine DN.seq ?_
  have hN22 : (p0.Prio.length : Int) ≤ 9223372036854775807 := g0_1.len_le
  obtain ⟨q2, hq24, hK23⟩ := Option.bind_eq_some_iff.mp h
  clear h
  refine WC.meet (fun L w' => ∃ (κ' : Col), L = [] ∧ Stp [] K18 w17 κ' w' ∧ q2 = Sum.inr ()) ?_ ?_
  ·
   refine WC.block ?_
   refine WC.loop (fun k L w' => ∃ (κ' : Col) (v3 : Int), L = [(1, .pointer (some ⟨b1, 0, none⟩)), (3, .int .i64 v3)] ∧ Stp [] K18 w17 κ' w' ∧ 0 ≤ v3 ∧ Int.toNat ((p0.Prio.length : Int) - v3) = k ∧ cntM (s_ParityOk_b0 p0) k v3 () = some q2) ⟨_, _, ⟨K18, 0, rfl, (Stp.refl _ _).wk rfl, (by decide), (by simp), hq24⟩, fun a ha => (ha.more (ha.more ha.nil rfl) rfl)⟩ ?_
   rintro k _ w28 ⟨K29, v3, rfl, S30, hj22, hJ22, h⟩
   rcases k with _ | k
   ·
    have hk31 := h; obtain ⟨o22, h⟩ := ex_eq (Sum.inr (Sum.inl ()) : Bool ⊕ ((Unit) ⊕ (Unit)))
    have hc22 : decide (v3 < (p0.Prio.length : Int)) = false := decide_eq_false (by omega)
    refine WC.seq ?_
    refine WC.seq ?_
    refine WC.rs [(0, 2), (1, 2), (2, 1), (3, 2), (4, 2)] rfl ?_
    refine WO.pn 1 rfl ?_
    refine WO.k2 rfl rfl rfl rfl (rn_fieldAddr Try.runUnderlying74 rfl Try.sizeOf28 rfl rfl) ?_
    have f32 := f4.stp (S11.tr (S19.tr S30)) rfl rfl
    refine WO.k1 trivial rfl rfl rfl rfl (rn_ld Try.isAgg28 rfl rfl (hvE (f32.ld 2 rfl rfl))) ?_
    refine WO.k2 rfl rfl rfl rfl (rn_len Try.runUnderlying28 rfl rfl) ?_
    refine WO.pn 1 rfl ?_
    refine WO.fin ?_
    refine DN.seq ?_
    refine WC.cf' rfl hc22 ?_
    refine WC.exit ?_
    refine DN.exitThen ?_
    refine DN.exitThen ?_
    obtain rfl := Option.some.inj h
    have h := hk31
    refine DN.hit ?_
    obtain rfl := Option.some.inj h
    exact DN.meet _ ⟨K29, rfl, S30.wk rfl, rfl⟩ fun a ha => ha.nil
   ·
    obtain ⟨o22, h, hk31⟩ := Option.bind_eq_some_iff.mp h; unfold s_ParityOk_b0 at h
    have hc22 : decide (v3 < (p0.Prio.length : Int)) = true := decide_eq_true (by omega)
    refine WC.seq ?_
    refine WC.seq ?_
    refine WC.rs [(0, 2), (1, 2), (2, 1), (3, 2), (4, 2)] rfl ?_
    refine WO.pn 1 rfl ?_
    refine WO.k2 rfl rfl rfl rfl (rn_fieldAddr Try.runUnderlying74 rfl Try.sizeOf28 rfl rfl) ?_
    have f33 := f4.stp (S11.tr (S19.tr S30)) rfl rfl
    refine WO.k1 trivial rfl rfl rfl rfl (rn_ld Try.isAgg28 rfl rfl (hvE (f33.ld 2 rfl rfl))) ?_
    refine WO.k2 rfl rfl rfl rfl (rn_len Try.runUnderlying28 rfl rfl) ?_
    refine WO.pn 1 rfl ?_
    refine WO.fin ?_
    refine DN.seq ?_
    refine WC.ct' rfl hc22 ?_
    refine WC.skip ?_
    refine DN.seq ?_
    refine WC.seq ?_
    refine WC.block ?_
    refine WC.seq ?_
    refine WC.rs [(0, 2), (1, 1), (2, 2), (3, 2), (4, 1), (5, 1), (6, 2)] rfl ?_
    refine WO.k2 rfl rfl rfl rfl (rn_fieldAddr Try.runUnderlying74 rfl Try.sizeOf28 rfl rfl) ?_
    refine WO.k1 trivial rfl rfl rfl rfl (rn_ld Try.isAgg28 rfl rfl (hvE (f33.ld 2 rfl rfl))) ?_
    refine WO.pn 1 rfl ?_
    obtain ⟨x28, hx28, h⟩ := Option.bind_eq_some_iff.mp h
    refine WO.k2 rfl rfl rfl rfl (rn_index g0_1 hx28 Try.runUnderlying28 Try.sizeOf2 rfl rfl rfl rfl) ?_
    have f34 := g0_1.stp (S3.tr (S11.tr (S19.tr S30))) rfl rfl
    refine WO.k1 trivial rfl rfl rfl rfl (rn_ld Try.isAgg2 rfl rfl (hvE (f34.gInt hx28))) ?_
    obtain ⟨x30, hx30, h⟩ := Option.bind_eq_some_iff.mp h
    refine WO.call rfl rfl rfl rfl rfl rfl Try.call96 (s_l1In_ok (κ := fun b => mp [] 0 (K29 b)) hx30) ?_
    rintro _ w35 ⟨k36, rfl, e37⟩
    obtain ⟨K38, S39, m40⟩ := Ent.mixed (l := []) (κ := K29) e37 5 rfl
    refine ⟨trivial, ?_⟩
    refine WO.pn 1 rfl ?_
    refine WO.fin ?_
    refine DN.seq ?_
    revert h
    cases ht42 : (!x30) with
    | true =>
     intro h; replace h := cT h
     refine WC.ct rfl ?_
     refine WC.seq ?_
     refine WC.rs [(0, 2)] rfl ?_
     refine WO.pn 1 rfl ?_
     refine WO.fin ?_
     refine DN.seq ?_
     refine WC.ret ?_
     refine DN.retBlock ?_
     refine DN.retThen ?_
     refine DN.retThen ?_
     obtain rfl := Option.some.inj h
     obtain rfl := Option.some.inj hk31
     have h := hK23
     dsimp only [aft] at h
     refine DN.retBlock ?_
     refine DN.retMeet ?_
     refine DN.retThen ?_
     have f43 := hE.stp (S3.tr (S11.tr (S19.tr (S30.tr S39)))) rfl rfl
     refine DN.res (l := [.tmp 2]) Try.results81 (res_tmp rfl rfl) rfl ?_
     obtain rfl := Option.some.inj h
     exact ⟨K38, rfl, f43⟩
    | false =>
     intro h; replace h := cF h
     refine WC.cf rfl ?_
     refine WC.skip ?_
     refine DN.block ?_
     refine DN.seq ?_
     refine WC.rs [(0, 2), (1, 2), (2, 2)] rfl ?_
     refine WO.pn 3 rfl ?_
     refine WO.fin ?_
     have hw22 : IntKind.wrap .i64 (v3 + 1) = v3 + 1 := wr1 hj22 (of_decide_eq_true hc22) hN22
     rw [hw22]
     have hc22 := of_decide_eq_true hc22
     obtain rfl := Option.some.inj h
     refine DN.round fun a ha => ?_
     exact ⟨k, _, Nat.lt_succ_self _, ⟨K38, v3 + 1, rfl, (S30.tr S39).wk rfl, by omega, by omega, hk31⟩, (ha.more (ha.more ha.nil rfl) rfl)⟩
  rintro _ w25 ⟨K26, rfl, S27, rfl⟩
  have h := hK23
  dsimp only [aft] at h
  refine DN.seq ?_
  refine WC.seq ?_
  refine WC.rs [(0, 2)] rfl ?_
  refine WO.pn 1 rfl ?_
  refine WO.fin ?_
  refine DN.seq ?_
  refine WC.ret ?_
  have f44 := hE.stp (S3.tr (S11.tr (S19.tr S27))) rfl rfl
  refine DN.res (l := [.tmp 2]) Try.results81 (res_tmp rfl rfl) rfl ?_
  obtain rfl := Option.some.inj h
  exact ⟨K26, rfl, f44⟩

/- loop.example/g00869/spec.l32Do -/
theorem s_l32Do_ok {w : World} {κ : Col} {a0_0_0 : Option Addr} {u0_0_0 : Nat} {a0_0_1 : Option Addr} {u0_0_1 : Nat} {a0_1 : Option Addr} {u0_1 : Nat} {p0 : Parity} {p1 : Edit} (g0_0_0 : Rd (Rp.int .i64) κ w 0 a0_0_0 u0_0_0 p0.Arena.Owner) (g0_0_1 : Rd (Rp.sl (Rp.int .i64)) κ w 0 a0_0_1 u0_0_1 p0.Arena.Next) (g0_1 : Rd (Rp.int .i64) κ w 0 a0_1 u0_1 p0.Prio) {r : Parity} (h : s_l32Do p0 p1 = some r) : Ret Try.prog 73 [.agg #[.slice a0_0_0 p0.Arena.Owner.length u0_0_0, .slice a0_0_1 p0.Arena.Next.length u0_0_1, .slice a0_1 p0.Prio.length u0_1], .agg #[.int .i64 p1.Kind, .int .i64 p1.V, .int .i64 p1.N]] w (fun v w' => ∃ (κ' : Col) (ra0 : Option Addr) (ru0 : Nat) (ra1 : Option Addr) (ru1 : Nat) (ra2 : Option Addr) (ru2 : Nat), v = .agg #[.slice ra0 r.Arena.Owner.length ru0, .slice ra1 r.Arena.Next.length ru1, .slice ra2 r.Prio.length ru2] ∧ Ent κ w κ' w' ∧ Oc (Ep.int .i64) 2 κ' w' 2 ra0 ru0 r.Arena.Owner ∧ Oc (Ep.fz (Rp.sl (Rp.int .i64))) 28 κ' w' 3 ra1 ru1 r.Arena.Next ∧ Oc (Ep.int .i64) 2 κ' w' 4 ra2 ru2 r.Prio) := by
 unfold s_l32Do at h
 refine Ret.enter Try.func73 rfl Try.ntmps73 rfl ?_
 dsimp only [envOf]
 have hE := Ent.refl κ w
 refine WC.seq ?_
 refine WC.rs [(0, 1), (1, 1), (2, 1)] rfl ?_
 refine WO.box (κ := κ) 2 rfl rfl rfl rfl rfl rfl rfl fun b2 w1 K2 S3 f4 => ⟨trivial, ?_⟩
 refine WO.box (κ := K2) 3 rfl rfl rfl rfl rfl rfl rfl fun b3 w5 K6 S7 f8 => ⟨trivial, ?_⟩
 refine WO.alloc (κ := K6) 4 rfl rfl rfl rfl rfl Try.zeroValue74 rfl fun b4 w9 K10 S11 f12 => ⟨trivial, ?_⟩
 refine WO.fin ?_
 refine DN.seq ?_
 refine WC.seq ?_
 refine WC.rs [(0, 1), (1, 1), (2, 1), (3, 1)] rfl ?_
 have f13 := f4.stp (S7.tr S11) rfl rfl
 refine WO.k1 trivial rfl rfl rfl rfl (rn_la (cs := [.slice a0_0_0 p0.Arena.Owner.length u0_0_0, .slice a0_0_1 p0.Arena.Next.length u0_0_1, .slice a0_1 p0.Prio.length u0_1]) Try.isAgg74 Try.sizeOf74 rfl rfl rfl (haE f13.cells)) ?_
 obtain ⟨x9, hx9, h⟩ := Option.bind_eq_some_iff.mp h
 have f14 := g0_0_0.stp (S3.tr (S7.tr S11)) rfl rfl
 have f15 := g0_0_1.stp (S3.tr (S7.tr S11)) rfl rfl
 have f16 := g0_1.stp (S3.tr (S7.tr S11)) rfl rfl
 refine WO.call rfl rfl rfl rfl rfl rfl Try.call82 (s_l4Copy_ok (κ := fun b => mp [] 1 (K10 b)) (p0 := p0) (Sl.map f14 (mp [] 1) rfl rfl) (Sl.map f15 (mp [] 1) rfl rfl) (Sl.map f16 (mp [] 1) rfl rfl) hx9) ?_
 rintro _ w17 ⟨k18, a9_0, u9_0, a9_1, u9_1, a9_2, u9_2, rfl, e19, f20, f21, f22⟩
 obtain ⟨K23, S24, m25, z26⟩ := Ent.mixed0 (l := []) (κ := K10) e19 5 rfl
 refine ⟨trivial, ?_⟩
 have f27 := f20.mx (no_int _) m25 rfl (rfl : 5 + 2 = 7)
 have f28 := f21.mxz z26 m25 rfl (rfl : 5 + 3 = 8)
 have f29 := f22.mx (no_int _) m25 rfl (rfl : 5 + 4 = 9)
 refine WO.alloc (κ := K23) 10 rfl rfl rfl rfl rfl Try.zeroValue74 rfl fun b5 w30 K31 S32 f33 => ⟨trivial, ?_⟩
 refine WO.stB0 (κ := K31) 10 (vc := [.slice a9_0 x9.Arena.Owner.length u9_0, .slice a9_1 x9.Arena.Next.length u9_1, .slice a9_2 x9.Prio.length u9_2]) rfl rfl rfl rfl rfl rfl rfl Try.sizeOf74 rfl rfl f33 rfl fun w34 S35 f36 => ⟨trivial, ?_⟩
 refine WO.fin ?_
 refine DN.seq ?_
 refine WC.seq ?_
 refine WC.seq ?_
 refine WC.rs [(0, 2), (1, 1)] rfl ?_
 refine WO.k2 rfl rfl rfl rfl (rn_fieldAddr Try.runUnderlying78 rfl Try.sizeOf2 rfl rfl) ?_
 have f37 := f8.stp (S11.tr (S24.tr (S32.tr S35))) rfl rfl
 refine WO.k1 trivial rfl rfl rfl rfl (rn_ld Try.isAgg2 rfl rfl (hvE (f37.ld 0 rfl rfl))) ?_
 refine WO.fin ?_
 refine DN.seq ?_
 refine WC.block ?_
 refine WC.seq ?_
 refine WC.rs [(0, 2), (1, 2)] rfl ?_
 refine WO.pn 2 rfl ?_
 refine WO.fin ?_
 refine DN.seq ?_
 obtain ⟨q1, h, hK38⟩ := Option.bind_eq_some_iff.mp h
 refine WC.meet (fun L w' => ∃ (κ' : Col), L = [(4, .pointer (some ⟨b4, 0, none⟩)), (5, .pointer (some ⟨b5, 0, none⟩))] ∧ Stp [7, 8, 9, 11] K31 w34 κ' w' ∧ Oc (Ep.int .i64) 2 κ' w' 7 a9_0 u9_0 q1.1 ∧ x9.Arena.Owner.length = q1.1.length ∧ Oc (Ep.fz (Rp.sl (Rp.int .i64))) 28 κ' w' 8 a9_1 u9_1 q1.2.1 ∧ x9.Arena.Next.length = q1.2.1.length ∧ Oc (Ep.int .i64) 2 κ' w' 9 a9_2 u9_2 q1.2.2 ∧ x9.Prio.length = q1.2.2.length) ?_ ?_
 ·
  revert h
  cases ht48 : (p1.Kind == 1) with
  | true =>
   intro h; replace h := cT h
   refine WC.ct rfl ?_
   refine WC.rs [(0, 2), (1, 1), (2, 2), (3, 1), (4, 2), (5, 1), (6, 2), (7, 1)] rfl ?_
   refine WO.k2 rfl rfl rfl rfl (rn_fieldAddr Try.runUnderlying74 rfl Try.sizeOf28 rfl rfl) ?_
   refine WO.k1 trivial rfl rfl rfl rfl (rn_ld Try.isAgg28 rfl rfl (hvE (f36.ld 2 rfl rfl))) ?_
   refine WO.k2 rfl rfl rfl rfl (rn_fieldAddr Try.runUnderlying78 rfl Try.sizeOf2 rfl rfl) ?_
   refine WO.k1 trivial rfl rfl rfl rfl (rn_ld Try.isAgg2 rfl rfl (hvE (f37.ld 1 rfl rfl))) ?_
   refine WO.k2 rfl rfl rfl rfl (rn_fieldAddr Try.runUnderlying78 rfl Try.sizeOf2 rfl rfl) ?_
   refine WO.k1 trivial rfl rfl rfl rfl (rn_ld Try.isAgg2 rfl rfl (hvE (f37.ld 2 rfl rfl))) ?_
   obtain ⟨x20, hx20, h⟩ := Option.bind_eq_some_iff.mp h
   refine WO.k2 rfl rfl rfl rfl (rn_index f29.rdc hx20 Try.runUnderlying28 Try.sizeOf2 rfl rfl rfl rfl) ?_
   have f49 := f29.stp (S32.tr S35) rfl rfl
   obtain ⟨y6, hy6, h⟩ := Option.bind_eq_some_iff.mp h
   refine WO.stI (κ := K31) (E := (Ep.int .i64)) 9 [] rfl rfl rfl rfl rfl rfl rfl rfl Try.sizeOf2 rfl rfl rfl rfl f49 hy6 fun w50 K51 S52 f53 => ⟨trivial, ?_⟩
   have hn54 : x9.Prio.length = y6.length := (setI_ok hy6).2.2.2.symm
   refine WO.fin ?_
   have f55 := f27.stp (S32.tr (S35.tr S52)) rfl rfl
   have f56 := f28.stp (S32.tr (S35.tr S52)) rfl rfl
   obtain rfl := Option.some.inj h
   exact DN.meet _ ⟨K51, rfl, S52.wk rfl, f55, rfl, f56, rfl, f53, hn54⟩ fun a ha => (ha.more (ha.more ha.nil rfl) rfl)
  | false =>
   intro h; replace h := cF h
   refine WC.cf rfl ?_
   refine WC.seq ?_
   refine WC.rs [(0, 2), (1, 2)] rfl ?_
   refine WO.pn 2 rfl ?_
   refine WO.fin ?_
   refine DN.seq ?_
   obtain ⟨q2, h, hK57⟩ := Option.bind_eq_some_iff.mp h
   refine WC.meet (fun L w' => ∃ (κ' : Col), L = [(4, .pointer (some ⟨b4, 0, none⟩)), (5, .pointer (some ⟨b5, 0, none⟩))] ∧ Stp [7, 8, 11] K31 w34 κ' w' ∧ Oc (Ep.int .i64) 2 κ' w' 7 a9_0 u9_0 q2.1 ∧ x9.Arena.Owner.length = q2.1.length ∧ Oc (Ep.fz (Rp.sl (Rp.int .i64))) 28 κ' w' 8 a9_1 u9_1 q2.2 ∧ x9.Arena.Next.length = q2.2.length) ?_ ?_
   ·
    revert h
    cases ht65 : (p1.Kind == 2) with
    | true =>
     intro h; replace h := cT h
     refine WC.ct rfl ?_
     refine WC.rs [(0, 2), (1, 2), (2, 1), (3, 2), (4, 1), (5, 2), (6, 1), (7, 2), (8, 1)] rfl ?_
     refine WO.k2 rfl rfl rfl rfl (rn_fieldAddr Try.runUnderlying74 rfl Try.sizeOf72 rfl rfl) ?_
     refine WO.k2 rfl rfl rfl rfl (rn_fieldAddr Try.runUnderlying72 rfl Try.sizeOf28 rfl rfl) ?_
     refine WO.k1 trivial rfl rfl rfl rfl (rn_ld Try.isAgg28 rfl rfl (hvE (f36.ld 0 rfl rfl))) ?_
     refine WO.k2 rfl rfl rfl rfl (rn_fieldAddr Try.runUnderlying78 rfl Try.sizeOf2 rfl rfl) ?_
     refine WO.k1 trivial rfl rfl rfl rfl (rn_ld Try.isAgg2 rfl rfl (hvE (f37.ld 1 rfl rfl))) ?_
     refine WO.k2 rfl rfl rfl rfl (rn_fieldAddr Try.runUnderlying78 rfl Try.sizeOf2 rfl rfl) ?_
     refine WO.k1 trivial rfl rfl rfl rfl (rn_ld Try.isAgg2 rfl rfl (hvE (f37.ld 2 rfl rfl))) ?_
     obtain ⟨x30, hx30, h⟩ := Option.bind_eq_some_iff.mp h
     refine WO.k2 rfl rfl rfl rfl (rn_index f27.rdc hx30 Try.runUnderlying28 Try.sizeOf2 rfl rfl rfl rfl) ?_
     have f66 := f27.stp (S32.tr S35) rfl rfl
     obtain ⟨y7, hy7, h⟩ := Option.bind_eq_some_iff.mp h
     refine WO.stI (κ := K31) (E := (Ep.int .i64)) 7 [] rfl rfl rfl rfl rfl rfl rfl rfl Try.sizeOf2 rfl rfl rfl rfl f66 hy7 fun w67 K68 S69 f70 => ⟨trivial, ?_⟩
     have hn71 : x9.Arena.Owner.length = y7.length := (setI_ok hy7).2.2.2.symm
     refine WO.fin ?_
     have f72 := f28.stp (S32.tr (S35.tr S69)) rfl rfl
     obtain rfl := Option.some.inj h
     exact DN.meet _ ⟨K68, rfl, S69.wk rfl, f70, hn71, f72, rfl⟩ fun a ha => (ha.more (ha.more ha.nil rfl) rfl)
    | false =>
     intro h; replace h := cF h
     refine WC.cf rfl ?_
     refine WC.seq ?_
     refine WC.rs [(0, 2), (1, 2)] rfl ?_
     refine WO.pn 2 rfl ?_
     refine WO.fin ?_
     refine DN.seq ?_
     obtain ⟨q3, h, hK73⟩ := Option.bind_eq_some_iff.mp h
     refine WC.meet (fun L w' => ∃ (κ' : Col), L = [(4, .pointer (some ⟨b4, 0, none⟩)), (5, .pointer (some ⟨b5, 0, none⟩))] ∧ Stp [8, 11] K31 w34 κ' w' ∧ Oc (Ep.fz (Rp.sl (Rp.int .i64))) 28 κ' w' 8 a9_1 u9_1 q3 ∧ x9.Arena.Next.length = q3.length) ?_ ?_
     ·
      revert h
      cases ht79 : (p1.Kind == 3) with
      | true =>
       intro h; replace h := cT h
       refine WC.ct rfl ?_
       refine WC.rx (κ := K31) [0, 3, 8, 10] (some 16) [(0, 2), (1, 2), (3, 2), (5, 2), (6, 2), (8, 2), (12, 2), (2, 0), (4, 0), (7, 0), (9, 0), (10, 2), (11, 0), (13, 0), (14, 1), (15, 2)] [(16, 1)] (by kernel_rfl) (by kernel_rfl) fun w81 S80 => ?_
       refine WO.k2 rfl rfl rfl rfl (rn_fieldAddr Try.runUnderlying74 rfl Try.sizeOf72 rfl rfl) ?_
       refine WO.k2 rfl rfl rfl rfl (rn_fieldAddr Try.runUnderlying72 rfl Try.sizeOf24 rfl rfl) ?_
       refine WO.k2 rfl rfl rfl rfl (rn_fieldAddr Try.runUnderlying78 rfl Try.sizeOf2 rfl rfl) ?_
       refine WO.k2 rfl rfl rfl rfl (rn_fieldAddr Try.runUnderlying74 rfl Try.sizeOf72 rfl rfl) ?_
       refine WO.k2 rfl rfl rfl rfl (rn_fieldAddr Try.runUnderlying72 rfl Try.sizeOf24 rfl rfl) ?_
       refine WO.k2 rfl rfl rfl rfl (rn_fieldAddr Try.runUnderlying78 rfl Try.sizeOf2 rfl rfl) ?_
       refine WO.k2 rfl rfl rfl rfl (rn_fieldAddr Try.runUnderlying78 rfl Try.sizeOf2 rfl rfl) ?_
       have f82 := f36.stp S80 rfl rfl
       refine WO.k0 rfl rfl rfl rfl (rn_ld Try.isAgg24 rfl rfl (hvC (f82.ld 1 rfl rfl) rfl)) ?_
       have f83 := f37.stp S80 rfl rfl
       refine WO.k0 rfl rfl rfl rfl (rn_ld Try.isAgg2 rfl rfl (hvC (f83.ld 1 rfl rfl) rfl)) ?_
       refine WO.k0 rfl rfl rfl rfl (rn_ld Try.isAgg24 rfl rfl (hvC (f82.ld 1 rfl rfl) rfl)) ?_
       refine WO.k0 rfl rfl rfl rfl (rn_ld Try.isAgg2 rfl rfl (hvC (f83.ld 1 rfl rfl) rfl)) ?_
       obtain ⟨x43, hx43, h⟩ := Option.bind_eq_some_iff.mp h
       refine WO.k2 rfl rfl rfl rfl (rn_index f28.rdc hx43 Try.runUnderlying24 Try.sizeOf28 rfl rfl rfl rfl) ?_
       have f84 := f28.stp (S32.tr (S35.tr S80)) rfl rfl
       obtain ⟨ax43, ux43, f85, hl86⟩ := f84.gZ hx43
       refine WO.k0 rfl rfl rfl rfl (rn_ld Try.isAgg28 rfl rfl (hvC hl86 rfl)) ?_
       refine WO.k0 rfl rfl rfl rfl (rn_ld Try.isAgg2 rfl rfl (hvC (f83.ld 2 rfl rfl) rfl)) ?_
       obtain ⟨x47, hx47, h⟩ := Option.bind_eq_some_iff.mp h
       refine WO.call rfl rfl rfl rfl rfl rfl Try.call110 (s_l1Into_ok (κ := fun b => mp [] 1 (K31 b)) (Sl.map f85 (mp [] 1) rfl rfl) hx47) ?_
       rintro _ w87 ⟨k88, a47_0, u47_0, rfl, e89, f90⟩
       obtain ⟨K91, S92, m93, z94⟩ := Ent.mixed0 (l := []) (κ := K31) e89 11 rfl
       refine ⟨(S92.cl rfl), ?_⟩
       have f95 := f90.mx z94
       obtain ⟨x48, hx48, h⟩ := Option.bind_eq_some_iff.mp h
       refine WO.k2 rfl rfl rfl rfl (rn_index f84.rdc hx48 Try.runUnderlying24 Try.sizeOf28 rfl rfl rfl rfl) ?_
       refine WO.nx ?_
       have f96 := f84.stp S92 rfl rfl
       obtain ⟨y9, hy9, h⟩ := Option.bind_eq_some_iff.mp h
       refine WO.stI (κ := K91) (E := (Ep.fz (Rp.sl (Rp.int .i64)))) 8 [] rfl rfl rfl rfl rfl rfl rfl rfl Try.sizeOf28 rfl ⟨_, _, rfl, (Sl.z1 f95)⟩ rfl rfl f96 hy9 fun w97 K98 S99 f100 => ⟨trivial, ?_⟩
       have hn101 : x9.Arena.Next.length = y9.length := (setI_ok hy9).2.2.2.symm
       refine WO.fin ?_
       obtain rfl := Option.some.inj h
       exact DN.meet _ ⟨K98, rfl, (S80.tr (S92.tr S99)).wk rfl, f100, hn101⟩ fun a ha => (ha.more (ha.more ha.nil rfl) rfl)
      | false =>
       intro h; replace h := cF h
       refine WC.cf rfl ?_
       refine WC.seq ?_
       refine WC.rs [(0, 2), (1, 2)] rfl ?_
       refine WO.pn 2 rfl ?_
       refine WO.fin ?_
       refine DN.seq ?_
       obtain ⟨q4, h, hK102⟩ := Option.bind_eq_some_iff.mp h
       refine WC.meet (fun L w' => ∃ (κ' : Col), L = [(4, .pointer (some ⟨b4, 0, none⟩)), (5, .pointer (some ⟨b5, 0, none⟩))] ∧ Stp [8, 11] K31 w34 κ' w' ∧ Oc (Ep.fz (Rp.sl (Rp.int .i64))) 28 κ' w' 8 a9_1 u9_1 q4 ∧ x9.Arena.Next.length = q4.length) ?_ ?_
       ·
        revert h
        cases ht108 : (p1.Kind == 4) with
        | true =>
         intro h; replace h := cT h
         refine WC.ct rfl ?_
         refine WC.seq ?_
         refine WC.rs [(0, 1), (1, 2)] rfl ?_
         refine WO.bl0 (κ := K31) (E := (Ep.int .i64)) 11 rfl rfl rfl rfl rfl Try.underlying28 Tryinfo2 rfl fun a51 u51 w109 K110 S111 f112 => ⟨trivial, ?_⟩
         refine WO.pn 1 rfl ?_
         refine WO.fin ?_
         refine DN.seq ?_
         refine WC.seq ?_
         refine WC.seq ?_
         refine WC.rs [(0, 2)] rfl ?_
         refine WO.pn 1 rfl ?_
         refine WO.fin ?_
         refine DN.seq ?_
         obtain ⟨q6, hq115, hK114⟩ := Option.bind_eq_some_iff.mp h
         clear h
         refine WC.meet (fun L w' => ∃ (κ' : Col) (s7 : (List Int) × Int) (las7_0 : Option Addr) (lus7_0 : Nat), L = [(3, .pointer (some ⟨b3, 0, none⟩)), (4, .pointer (some ⟨b4, 0, none⟩)), (5, .pointer (some ⟨b5, 0, none⟩)), (6, .slice las7_0 s7.1.length lus7_0)] ∧ Stp [11] K110 w109 κ' w' ∧ Oc (Ep.int .i64) 2 κ' w' 11 las7_0 lus7_0 s7.1 ∧ q6 = Sum.inr s7) ?_ ?_
         ·
          refine WC.block ?_
          refine WC.loop (fun k L w' => ∃ (κ' : Col) (s5 : (List Int) × Int) (las5_0 : Option Addr) (lus5_0 : Nat), L = [(2, .pointer (some ⟨b2, 0, none⟩)), (3, .pointer (some ⟨b3, 0, none⟩)), (4, .pointer (some ⟨b4, 0, none⟩)), (5, .pointer (some ⟨b5, 0, none⟩)), (6, .slice las5_0 s5.1.length lus5_0), (7, .int .i64 s5.2)] ∧ Stp [11] K110 w109 κ' w' ∧ Oc (Ep.int .i64) 2 κ' w' 11 las5_0 lus5_0 s5.1 ∧ whileM (s_l32Do_b1 p0 p1) k s5 = some q6) ⟨_, _, ⟨K110, ((([] : List Int) : (List Int)), (0 : Int)), a51, u51, rfl, (Stp.refl _ _).wk rfl, f112, hq115⟩, fun a ha => (ha.more (ha.more (ha.more (ha.more (ha.more (ha.more ha.nil rfl) rfl) rfl) rfl) rfl) rfl)⟩ ?_
          rintro k _ w120 ⟨K121, s5, las5_0, lus5_0, rfl, S122, f123, h⟩
          rcases k with _ | k
          ·
           cases h
          ·
           obtain ⟨o113, h, hk124⟩ := Option.bind_eq_some_iff.mp h; unfold s_l32Do_b1 at h
           refine WC.seq ?_
           refine WC.seq ?_
           refine WC.rs [(0, 2), (1, 2), (2, 2), (3, 1), (4, 2), (5, 1), (6, 2), (7, 1), (8, 2), (9, 2)] rfl ?_
           refine WO.pn 1 rfl ?_
           refine WO.k2 rfl rfl rfl rfl (rn_fieldAddr Try.runUnderlying74 rfl Try.sizeOf72 rfl rfl) ?_
           refine WO.k2 rfl rfl rfl rfl (rn_fieldAddr Try.runUnderlying72 rfl Try.sizeOf24 rfl rfl) ?_
           have f125 := f13.stp (S24.tr (S32.tr (S35.tr (S111.tr S122)))) rfl rfl
           refine WO.k1 trivial rfl rfl rfl rfl (rn_ld Try.isAgg24 rfl rfl (hvE (f125.ld 1 rfl rfl))) ?_
           refine WO.k2 rfl rfl rfl rfl (rn_fieldAddr Try.runUnderlying78 rfl Try.sizeOf2 rfl rfl) ?_
           have f126 := f37.stp (S111.tr S122) rfl rfl
           refine WO.k1 trivial rfl rfl rfl rfl (rn_ld Try.isAgg2 rfl rfl (hvE (f126.ld 1 rfl rfl))) ?_
           obtain ⟨x58, hx58, h⟩ := Option.bind_eq_some_iff.mp h
           refine WO.k2 rfl rfl rfl rfl (rn_index f15 hx58 Try.runUnderlying24 Try.sizeOf28 rfl rfl rfl rfl) ?_
           have f127 := f15.stp (S24.tr (S32.tr (S35.tr (S111.tr S122)))) rfl rfl
           obtain ⟨ax58, ux58, f128, hl129⟩ := f127.gSl hx58
           refine WO.k1 trivial rfl rfl rfl rfl (rn_ld Try.isAgg28 rfl rfl (hvE hl129)) ?_
           refine WO.k2 rfl rfl rfl rfl (rn_len Try.runUnderlying28 rfl rfl) ?_
           refine WO.pn 1 rfl ?_
           refine WO.fin ?_
           refine DN.seq ?_
           revert h
           cases ht130 : decide (s5.2 < (x58.length : Int)) with
           | true =>
            intro h; replace h := cT h
            refine WC.ct rfl ?_
            refine WC.skip ?_
            refine DN.seq ?_
            refine WC.seq ?_
            refine WC.block ?_
            refine WC.seq ?_
            refine WC.rx (κ := K121) [0, 2, 3] none [(0, 2), (1, 2), (3, 2), (7, 2), (10, 2), (2, 0), (4, 0), (5, 2), (6, 0), (8, 2), (9, 0), (11, 0), (12, 2)] [] (by kernel_rfl) (by kernel_rfl) fun w132 S131 => ?_
            refine WO.k2 rfl rfl rfl rfl (rn_fieldAddr Try.runUnderlying74 rfl Try.sizeOf72 rfl rfl) ?_
            refine WO.k2 rfl rfl rfl rfl (rn_fieldAddr Try.runUnderlying72 rfl Try.sizeOf24 rfl rfl) ?_
            refine WO.k2 rfl rfl rfl rfl (rn_fieldAddr Try.runUnderlying78 rfl Try.sizeOf2 rfl rfl) ?_
            refine WO.pn 1 rfl ?_
            refine WO.k2 rfl rfl rfl rfl (rn_fieldAddr Try.runUnderlying78 rfl Try.sizeOf2 rfl rfl) ?_
            have f133 := f125.stp S131 rfl rfl
            refine WO.k0 rfl rfl rfl rfl (rn_ld Try.isAgg24 rfl rfl (hvC (f133.ld 1 rfl rfl) rfl)) ?_
            have f134 := f126.stp S131 rfl rfl
            refine WO.k0 rfl rfl rfl rfl (rn_ld Try.isAgg2 rfl rfl (hvC (f134.ld 1 rfl rfl) rfl)) ?_
            obtain ⟨x69, hx69, h⟩ := Option.bind_eq_some_iff.mp h
            refine WO.k2 rfl rfl rfl rfl (rn_index f127 hx69 Try.runUnderlying24 Try.sizeOf28 rfl rfl rfl rfl) ?_
            have f135 := f127.stp S131 rfl rfl
            obtain ⟨ax69, ux69, f136, hl137⟩ := f135.gSl hx69
            refine WO.k0 rfl rfl rfl rfl (rn_ld Try.isAgg28 rfl rfl (hvC hl137 rfl)) ?_
            obtain ⟨x72, hx72, h⟩ := Option.bind_eq_some_iff.mp h
            refine WO.k2 rfl rfl rfl rfl (rn_index f136 hx72 Try.runUnderlying28 Try.sizeOf2 rfl rfl rfl rfl) ?_
            refine WO.k0 rfl rfl rfl rfl (rn_ld Try.isAgg2 rfl rfl (hvC (f136.gInt hx72) rfl)) ?_
            refine WO.k0 rfl rfl rfl rfl (rn_ld Try.isAgg2 rfl rfl (hvC (f134.ld 2 rfl rfl) rfl)) ?_
            refine WO.pn 1 rfl ?_
            refine WO.nx ?_
            refine WO.fin ?_
            refine DN.seq ?_
            obtain ⟨q8, h, hK138⟩ := Option.bind_eq_some_iff.mp h
            refine WC.meet (fun L w' => ∃ (κ' : Col) (laq8_0 : Option Addr) (luq8_0 : Nat), L = [(2, .pointer (some ⟨b2, 0, none⟩)), (3, .pointer (some ⟨b3, 0, none⟩)), (4, .pointer (some ⟨b4, 0, none⟩)), (5, .pointer (some ⟨b5, 0, none⟩)), (6, .slice laq8_0 q8.length luq8_0), (7, .int .i64 s5.2)] ∧ Stp [11] K121 w132 κ' w' ∧ Oc (Ep.int .i64) 2 κ' w' 11 laq8_0 luq8_0 q8) ?_ ?_
            ·
             revert h
             cases ht143 : (x72 != p1.N) with
             | true =>
              intro h; replace h := cT h
              refine WC.ct rfl ?_
              refine WC.rs [(0, 2), (1, 2), (2, 2), (3, 1), (4, 2), (5, 1), (6, 2), (7, 1), (8, 2), (9, 2), (10, 1), (11, 1), (12, 1), (13, 2)] rfl ?_
              refine WO.pn 1 rfl ?_
              refine WO.k2 rfl rfl rfl rfl (rn_fieldAddr Try.runUnderlying74 rfl Try.sizeOf72 rfl rfl) ?_
              refine WO.k2 rfl rfl rfl rfl (rn_fieldAddr Try.runUnderlying72 rfl Try.sizeOf24 rfl rfl) ?_
              refine WO.k1 trivial rfl rfl rfl rfl (rn_ld Try.isAgg24 rfl rfl (hvE (f133.ld 1 rfl rfl))) ?_
              refine WO.k2 rfl rfl rfl rfl (rn_fieldAddr Try.runUnderlying78 rfl Try.sizeOf2 rfl rfl) ?_
              refine WO.k1 trivial rfl rfl rfl rfl (rn_ld Try.isAgg2 rfl rfl (hvE (f134.ld 1 rfl rfl))) ?_
              obtain ⟨x83, hx83, h⟩ := Option.bind_eq_some_iff.mp h
              refine WO.k2 rfl rfl rfl rfl (rn_index f135 hx83 Try.runUnderlying24 Try.sizeOf28 rfl rfl rfl rfl) ?_
              obtain ⟨ax83, ux83, f144, hl145⟩ := f135.gSl hx83
              refine WO.k1 trivial rfl rfl rfl rfl (rn_ld Try.isAgg28 rfl rfl (hvE hl145)) ?_
              refine WO.pn 1 rfl ?_
              obtain ⟨x86, hx86, h⟩ := Option.bind_eq_some_iff.mp h
              refine WO.k2 rfl rfl rfl rfl (rn_index f144 hx86 Try.runUnderlying28 Try.sizeOf2 rfl rfl rfl rfl) ?_
              refine WO.k1 trivial rfl rfl rfl rfl (rn_ld Try.isAgg2 rfl rfl (hvE (f144.gInt hx86))) ?_
              refine WO.bl (κ := K121) (E := (Ep.int .i64)) 12 [] (parts := [(0, .tmp 87)]) (cells := [.int .i64 x86]) (xs := ([x86] : List Int)) rfl rfl rfl rfl rfl rfl Try.underlying28 Tryinfo2 rfl rfl rfl rfl rfl rfl rfl rfl rfl rfl ⟨[.int .i64 x86], [], Zl K121 w132 [], Zl K121 w132 [], rfl, Zl.sp (l1 := []) (l2 := []) rfl, Zl.sr (l1 := []) (l2 := []), rfl, rfl⟩ fun a88 u88 w146 K147 S148 f149 => ⟨trivial, ?_⟩
              obtain ⟨x89, hx89, h⟩ := Option.bind_eq_some_iff.mp h
              have f150 := f123.stp (S131.tr S148) rfl rfl
              refine WO.app (κ := K147) (E := (Ep.int .i64)) 11 [] rfl rfl rfl rfl rfl rfl rfl rfl rfl Try.underlying28 Tryinfo2 rfl rfl rfl rfl f150 (Sl.srcP (pu_int _) f149.rdc) sy_false hx89 rfl fun a89 u89 w151 K152 S153 f154 => ⟨trivial, ?_⟩
              refine WO.pn 1 rfl ?_
              refine WO.fin ?_
              obtain rfl := Option.some.inj h
              exact DN.meet _ ⟨K152, a89, u89, rfl, (S148.tr S153).wk rfl, f154⟩ fun a ha => (ha.more (ha.more (ha.more (ha.more (ha.more (ha.more ha.nil rfl) rfl) rfl) rfl) rfl) rfl)
             | false =>
              intro h; replace h := cF h
              refine WC.cf rfl ?_
              refine WC.skip ?_
              have f155 := f123.stp S131 rfl rfl
              obtain rfl := Option.some.inj h
              exact DN.meet _ ⟨K121, las5_0, lus5_0, rfl, (Stp.refl _ _).wk rfl, f155⟩ fun a ha => (ha.more (ha.more (ha.more (ha.more (ha.more (ha.more ha.nil rfl) rfl) rfl) rfl) rfl) rfl)
            rintro _ w139 ⟨K140, laq8_0, luq8_0, rfl, S141, f142⟩
            have h := hK138
            refine DN.block ?_
            refine DN.seq ?_
            refine WC.rs [(0, 2), (1, 2), (2, 2)] rfl ?_
            refine WO.pn 3 rfl ?_
            refine WO.fin ?_
            obtain rfl := Option.some.inj h
            refine DN.round fun a ha => ?_
            exact ⟨k, _, Nat.lt_succ_self _, ⟨K140, ((q8 : (List Int)), ((IntKind.i64.wrap (s5.2 + 1)) : Int)), laq8_0, luq8_0, rfl, (S122.tr (S131.tr S141)).wk rfl, f142, hk124⟩, (ha.more (ha.more (ha.more (ha.more (ha.more (ha.more ha.nil rfl) rfl) rfl) rfl) rfl) rfl)⟩
           | false =>
            intro h; replace h := cF h
            refine WC.cf rfl ?_
            refine WC.exit ?_
            refine DN.exitThen ?_
            refine DN.exitThen ?_
            obtain rfl := Option.some.inj h
            have h := hk124
            refine DN.hit ?_
            obtain rfl := Option.some.inj h
            exact DN.meet _ ⟨K121, ((s5.1 : (List Int)), (s5.2 : Int)), las5_0, lus5_0, rfl, S122.wk rfl, f123, rfl⟩ fun a ha => (ha.more (ha.more (ha.more (ha.more ha.nil rfl) rfl) rfl) rfl)
         rintro _ w116 ⟨K117, s7, las7_0, lus7_0, rfl, S118, f119, rfl⟩
         have h := hK114
         dsimp only [aft] at h
         refine DN.seq ?_
         refine WC.rs [(0, 2), (1, 2), (2, 1), (3, 2), (4, 1), (5, 2), (6, 2), (7, 1)] rfl ?_
         refine WO.k2 rfl rfl rfl rfl (rn_fieldAddr Try.runUnderlying74 rfl Try.sizeOf72 rfl rfl) ?_
         refine WO.k2 rfl rfl rfl rfl (rn_fieldAddr Try.runUnderlying72 rfl Try.sizeOf24 rfl rfl) ?_
         have f156 := f36.stp (S111.tr S118) rfl rfl
         refine WO.k1 trivial rfl rfl rfl rfl (rn_ld Try.isAgg24 rfl rfl (hvE (f156.ld 1 rfl rfl))) ?_
         refine WO.k2 rfl rfl rfl rfl (rn_fieldAddr Try.runUnderlying78 rfl Try.sizeOf2 rfl rfl) ?_
         have f157 := f37.stp (S111.tr S118) rfl rfl
         refine WO.k1 trivial rfl rfl rfl rfl (rn_ld Try.isAgg2 rfl rfl (hvE (f157.ld 1 rfl rfl))) ?_
         refine WO.pn 1 rfl ?_
         obtain ⟨x96, hx96, h⟩ := Option.bind_eq_some_iff.mp h
         refine WO.k2 rfl rfl rfl rfl (rn_index f28.rdc hx96 Try.runUnderlying24 Try.sizeOf28 rfl rfl rfl rfl) ?_
         obtain ⟨K158, S159, z160⟩ := fz_ex K117 w116 11
         have f161 := Sl.st z160 f119.rdc
         have f162 := f28.stp (S32.tr (S35.tr (S111.tr (S118.tr S159)))) rfl rfl
         obtain ⟨y12, hy12, h⟩ := Option.bind_eq_some_iff.mp h
         refine WO.stI (κ := K158) (E := (Ep.fz (Rp.sl (Rp.int .i64)))) 8 [] rfl rfl rfl rfl rfl rfl rfl rfl Try.sizeOf28 rfl ⟨_, _, rfl, (Sl.z1 f161)⟩ rfl rfl f162 hy12 fun w163 K164 S165 f166 => ⟨trivial, ?_⟩
         have hn167 : x9.Arena.Next.length = y12.length := (setI_ok hy12).2.2.2.symm
         refine WO.fin ?_
         obtain rfl := Option.some.inj h
         exact DN.meet _ ⟨K164, rfl, (S111.tr (S118.tr (S159.tr S165))).wk rfl, f166, hn167⟩ fun a ha => (ha.more (ha.more ha.nil rfl) rfl)
        | false =>
         intro h; replace h := cF h
         refine WC.cf rfl ?_
         refine WC.skip ?_
         have f168 := f28.stp (S32.tr S35) rfl rfl
         obtain rfl := Option.some.inj h
         exact DN.meet _ ⟨K31, rfl, (Stp.refl _ _).wk rfl, f168, rfl⟩ fun a ha => (ha.more (ha.more ha.nil rfl) rfl)
       rintro _ w103 ⟨K104, rfl, S105, f106, hn107⟩
       have h := hK102
       obtain rfl := Option.some.inj h
       exact DN.meet _ ⟨K104, rfl, S105.wk rfl, f106, hn107⟩ fun a ha => (ha.more (ha.more ha.nil rfl) rfl)
     rintro _ w74 ⟨K75, rfl, S76, f77, hn78⟩
     have h := hK73
     have f169 := f27.stp (S32.tr (S35.tr S76)) rfl rfl
     obtain rfl := Option.some.inj h
     exact DN.meet _ ⟨K75, rfl, S76.wk rfl, f169, rfl, f77, hn78⟩ fun a ha => (ha.more (ha.more ha.nil rfl) rfl)
   rintro _ w58 ⟨K59, rfl, S60, f61, hn62, f63, hn64⟩
   have h := hK57
   have f170 := f29.stp (S32.tr (S35.tr S60)) rfl rfl
   obtain rfl := Option.some.inj h
   exact DN.meet _ ⟨K59, rfl, S60.wk rfl, f61, hn62, f63, hn64, f170, rfl⟩ fun a ha => (ha.more (ha.more ha.nil rfl) rfl)
 rintro _ w39 ⟨K40, rfl, S41, f42, hn43, f44, hn45, f46, hn47⟩
 have h := hK38
 refine DN.block ?_
 refine DN.seq ?_
 refine WC.seq ?_
 refine WC.rs [(0, 1), (1, 1)] rfl ?_
 have f171 := f36.stp S41 rfl rfl
 refine WO.k1 trivial rfl rfl rfl rfl (rn_la (cs := [.slice a9_0 x9.Arena.Owner.length u9_0, .slice a9_1 x9.Arena.Next.length u9_1, .slice a9_2 x9.Prio.length u9_2]) Try.isAgg74 Try.sizeOf74 rfl rfl rfl (haE f171.cells)) ?_
 have f172 := f12.stp (S24.tr (S32.tr (S35.tr S41))) rfl rfl
 refine WO.stB0 (κ := K40) 4 (vc := [.slice a9_0 x9.Arena.Owner.length u9_0, .slice a9_1 x9.Arena.Next.length u9_1, .slice a9_2 x9.Prio.length u9_2]) rfl rfl rfl rfl rfl rfl rfl Try.sizeOf74 rfl rfl f172 rfl fun w173 S174 f175 => ⟨trivial, ?_⟩
 refine WO.fin ?_
 refine DN.seq ?_
 refine WC.ret ?_
 have f176 := hE.stp (S3.tr (S7.tr (S11.tr (S24.tr (S32.tr (S35.tr (S41.tr S174))))))) rfl rfl
 have f177 := f42.stp S174 rfl rfl
 have f178 := f44.stp S174 rfl rfl
 have f179 := f46.stp S174 rfl rfl
 refine DN.res (l := [.cell 4 74]) Try.results73 (res_cellA rfl f175 Try.isAgg74 Try.sizeOf74 rfl rfl) rfl ?_
 obtain rfl := Option.some.inj h
 exact ⟨(fun b => ren [(7, 2), (8, 3), (9, 4)] (K40 b)), a9_0, u9_0, a9_1, u9_1, a9_2, u9_2, (by simp only [hn43, hn45, hn47]), (f176.map (ren [(7, 2), (8, 3), (9, 4)]) rfl rfl), (f177.map (ren [(7, 2), (8, 3), (9, 4)]) rfl rfl), (f178.map (ren [(7, 2), (8, 3), (9, 4)]) rfl rfl), (f179.map (ren [(7, 2), (8, 3), (9, 4)]) rfl rfl)⟩

/- loop.example/g00869/impl.lessOf -/
theorem i_lessOf_ok {w : World} {κ : Col} {a0 : Option Addr} {u0 : Nat} {p0 : (List Int)} {a1 : Option Addr} {u1 : Nat} {p1 : (List Int)} (g0 : Rd (Rp.int .i64) κ w 0 a0 u0 p0) (g1 : Rd (Rp.int .i64) κ w 0 a1 u1 p1) {r : (List Int)} (h : i_lessOf p0 p1 = some r) : Ret Try.prog 115 [.slice a0 p0.length u0, .slice a1 p1.length u1] w (fun v w' => ∃ (κ' : Col) (ra0 : Option Addr) (ru0 : Nat), v = .slice ra0 r.length ru0 ∧ Ent κ w κ' w' ∧ Oc (Ep.int .i64) 2 κ' w' 2 ra0 ru0 r) := by
 unfold i_lessOf at h
 refine Ret.enter Try.func115 rfl Try.ntmps115 rfl ?_
 dsimp only [envOf]
 have hE := Ent.refl κ w
 refine WC.seq ?_
 refine WC.rs [(0, 2)] rfl ?_
 refine WO.pn 1 rfl ?_
 refine WO.fin ?_
 refine DN.seq ?_
 refine WC.seq ?_
 refine WC.rs [(0, 1), (1, 2)] rfl ?_
 refine WO.bl0 (κ := κ) (E := (Ep.int .i64)) 2 rfl rfl rfl rfl rfl Try.underlying28 Tryinfo2 rfl fun a10 u10 w1 K2 S3 f4 => ⟨trivial, ?_⟩
 refine WO.pn 1 rfl ?_
 refine WO.fin ?_
 refine DN.seq ?_
 refine WC.seq ?_
 refine WC.seq ?_
 refine WC.rs [(0, 2), (1, 2), (2, 2)] rfl ?_
 refine WO.pn 1 rfl ?_
 refine WO.k2 rfl rfl rfl rfl (rn_len Try.runUnderlying28 rfl rfl) ?_
 refine WO.pn 1 rfl ?_
 refine WO.fin ?_
 refine DN.seq ?_
 have hN5 : (p0.length : Int) ≤ 9223372036854775807 := g0.len_le
 obtain ⟨q2, hq7, hK6⟩ := Option.bind_eq_some_iff.mp h
 clear h
 refine WC.meet (fun L w' => ∃ (κ' : Col) (s3 : (List Int)) (las3_0 : Option Addr) (lus3_0 : Nat), L = [(5, .slice las3_0 s3.length lus3_0)] ∧ Stp [2] K2 w1 κ' w' ∧ Oc (Ep.int .i64) 2 κ' w' 2 las3_0 lus3_0 s3 ∧ q2 = Sum.inr s3) ?_ ?_
 ·
  refine WC.block ?_
  refine WC.loop (fun k L w' => ∃ (κ' : Col) (v13 : Int) (s1 : (List Int)) (las1_0 : Option Addr) (lus1_0 : Nat), L = [(1, .slice a1 p1.length u1), (5, .slice las1_0 s1.length lus1_0), (11, .slice a0 p0.length u0), (12, .int .i64 (p0.length : Int)), (13, .int .i64 v13)] ∧ Stp [2] K2 w1 κ' w' ∧ Oc (Ep.int .i64) 2 κ' w' 2 las1_0 lus1_0 s1 ∧ 0 ≤ v13 ∧ Int.toNat ((p0.length : Int) - v13) = k ∧ cntM (i_lessOf_b0 p0 p1) k v13 s1 = some q2) ⟨_, _, ⟨K2, 0, (([] : List Int) : (List Int)), a10, u10, rfl, (Stp.refl _ _).wk rfl, f4, (by decide), (by simp), hq7⟩, fun a ha => (ha.more (ha.more (ha.more (ha.more (ha.more ha.nil rfl) rfl) rfl) rfl) rfl)⟩ ?_
  rintro k _ w12 ⟨K13, v13, s1, las1_0, lus1_0, rfl, S14, f15, hj5, hJ5, h⟩
  rcases k with _ | k
  ·
   have hk16 := h; obtain ⟨o5, h⟩ := ex_eq (Sum.inr (Sum.inl s1) : (List Int) ⊕ (((List Int)) ⊕ ((List Int))))
   have hc5 : decide (v13 < (p0.length : Int)) = false := decide_eq_false (by omega)
   refine WC.seq ?_
   refine WC.rs [(0, 2)] rfl ?_
   refine WO.pn 1 rfl ?_
   refine WO.fin ?_
   refine DN.seq ?_
   refine WC.seq ?_
   refine WC.cf' rfl hc5 ?_
   refine WC.exit ?_
   refine DN.exitThen ?_
   refine DN.exitThen ?_
   obtain rfl := Option.some.inj h
   have h := hk16
   refine DN.hit ?_
   obtain rfl := Option.some.inj h
   exact DN.meet _ ⟨K13, (s1 : (List Int)), las1_0, lus1_0, rfl, S14.wk rfl, f15, rfl⟩ fun a ha => (ha.more ha.nil rfl)
  ·
   obtain ⟨o5, h, hk16⟩ := Option.bind_eq_some_iff.mp h; unfold i_lessOf_b0 at h
   have hc5 : decide (v13 < (p0.length : Int)) = true := decide_eq_true (by omega)
   refine WC.seq ?_
   refine WC.rs [(0, 2)] rfl ?_
   refine WO.pn 1 rfl ?_
   refine WO.fin ?_
   refine DN.seq ?_
   refine WC.seq ?_
   refine WC.ct' rfl hc5 ?_
   refine WC.skip ?_
   refine DN.seq ?_
   refine WC.seq ?_
   refine WC.block ?_
   refine WC.seq ?_
   refine WC.rs [(0, 2), (1, 1), (2, 2)] rfl ?_
   obtain ⟨x15, hx15, h⟩ := Option.bind_eq_some_iff.mp h
   refine WO.k2 rfl rfl rfl rfl (rn_index g0 hx15 Try.runUnderlying28 Try.sizeOf2 rfl rfl rfl rfl) ?_
   have f17 := g0.stp (S3.tr S14) rfl rfl
   refine WO.k1 trivial rfl rfl rfl rfl (rn_ld Try.isAgg2 rfl rfl (hvE (f17.gInt hx15))) ?_
   refine WO.pn 1 rfl ?_
   refine WO.fin ?_
   refine DN.seq ?_
   refine WC.seq ?_
   refine WC.rs [(0, 2), (1, 2), (2, 1), (3, 2), (4, 2), (5, 2), (6, 2), (7, 2)] rfl ?_
   refine WO.pn 2 rfl ?_
   obtain ⟨x20, hx20, h⟩ := Option.bind_eq_some_iff.mp h
   have f18 := g1.stp (S3.tr S14) rfl rfl
   refine WO.call rfl rfl rfl rfl rfl rfl Try.call135 (slices_BinarySearch_I_int64_ok (κ := fun b => mp [] 0 (K13 b)) (Sl.map f18 (mp [] 0) rfl rfl) hx20) ?_
   rintro _ w19 ⟨k20, rfl, e21⟩
   obtain ⟨K22, S23, m24⟩ := Ent.mixed (l := []) (κ := K13) e21 3 rfl
   refine ⟨trivial, ?_⟩
   refine WO.pn 5 rfl ?_
   refine WO.fin ?_
   refine DN.seq ?_
   refine WC.seq ?_
   refine WC.rs [(0, 2), (1, 2)] rfl ?_
   refine WO.pn 2 rfl ?_
   refine WO.fin ?_
   refine DN.seq ?_
   obtain ⟨q4, h, hK26⟩ := Option.bind_eq_some_iff.mp h
   refine WC.meet (fun L w' => ∃ (κ' : Col) (laq4_0 : Option Addr) (luq4_0 : Nat), L = [(1, .slice a1 p1.length u1), (5, .slice laq4_0 q4.length luq4_0), (11, .slice a0 p0.length u0), (12, .int .i64 (p0.length : Int)), (13, .int .i64 v13)] ∧ Stp [2] K22 w19 κ' w' ∧ Oc (Ep.int .i64) 2 κ' w' 2 laq4_0 luq4_0 q4) ?_ ?_
   ·
    revert h
    cases ht31 : (!x20.2) with
    | true =>
     intro h; replace h := cT h
     refine WC.ct rfl ?_
     refine WC.rs [(0, 2), (1, 2), (2, 1), (3, 1), (4, 2)] rfl ?_
     refine WO.pn 2 rfl ?_
     refine WO.bl (κ := K22) (E := (Ep.int .i64)) 5 [] (parts := [(0, .tmp 26)]) (cells := [.int .i64 x15]) (xs := ([x15] : List Int)) rfl rfl rfl rfl rfl rfl Try.underlying28 Tryinfo2 rfl rfl rfl rfl rfl rfl rfl rfl rfl rfl ⟨[.int .i64 x15], [], Zl K22 w19 [], Zl K22 w19 [], rfl, Zl.sp (l1 := []) (l2 := []) rfl, Zl.sr (l1 := []) (l2 := []), rfl, rfl⟩ fun a27 u27 w32 K33 S34 f35 => ⟨trivial, ?_⟩
     obtain ⟨x28, hx28, h⟩ := Option.bind_eq_some_iff.mp h
     have f36 := f15.stp (S23.tr S34) rfl rfl
     refine WO.app (κ := K33) (E := (Ep.int .i64)) 2 [] rfl rfl rfl rfl rfl rfl rfl rfl rfl Try.underlying28 Tryinfo2 rfl rfl rfl rfl f36 (Sl.srcP (pu_int _) f35.rdc) sy_false hx28 rfl fun a28 u28 w37 K38 S39 f40 => ⟨trivial, ?_⟩
     refine WO.pn 1 rfl ?_
     refine WO.fin ?_
     obtain rfl := Option.some.inj h
     exact DN.meet _ ⟨K38, a28, u28, rfl, (S34.tr S39).wk rfl, f40⟩ fun a ha => (ha.more (ha.more (ha.more (ha.more (ha.more ha.nil rfl) rfl) rfl) rfl) rfl)
    | false =>
     intro h; replace h := cF h
     refine WC.cf rfl ?_
     refine WC.skip ?_
     have f41 := f15.stp S23 rfl rfl
     obtain rfl := Option.some.inj h
     exact DN.meet _ ⟨K22, las1_0, lus1_0, rfl, (Stp.refl _ _).wk rfl, f41⟩ fun a ha => (ha.more (ha.more (ha.more (ha.more (ha.more ha.nil rfl) rfl) rfl) rfl) rfl)
   rintro _ w27 ⟨K28, laq4_0, luq4_0, rfl, S29, f30⟩
   have h := hK26
   refine DN.block ?_
   refine DN.seq ?_
   refine WC.rs [(0, 2), (1, 2)] rfl ?_
   refine WO.pn 2 rfl ?_
   refine WO.fin ?_
   have hw5 : IntKind.wrap .i64 (v13 + 1) = v13 + 1 := wr1 hj5 (of_decide_eq_true hc5) hN5
   rw [hw5]
   have hc5 := of_decide_eq_true hc5
   obtain rfl := Option.some.inj h
   refine DN.round fun a ha => ?_
   exact ⟨k, _, Nat.lt_succ_self _, ⟨K28, v13 + 1, (q4 : (List Int)), laq4_0, luq4_0, rfl, (S14.tr (S23.tr S29)).wk rfl, f30, by omega, by omega, hk16⟩, (ha.more (ha.more (ha.more (ha.more (ha.more ha.nil rfl) rfl) rfl) rfl) rfl)⟩
 rintro _ w8 ⟨K9, s3, las3_0, lus3_0, rfl, S10, f11, rfl⟩
 have h := hK6
 dsimp only [aft] at h
 refine DN.seq ?_
 refine WC.seq ?_
 refine WC.rs [(0, 2), (1, 2)] rfl ?_
 refine WO.pn 2 rfl ?_
 refine WO.fin ?_
 refine DN.seq ?_
 refine WC.ret ?_
 have f42 := hE.stp (S3.tr S10) rfl rfl
 refine DN.res (l := [.tmp 4]) Try.results115 (res_tmp rfl rfl) rfl ?_
 obtain rfl := Option.some.inj h
 exact ⟨K9, las3_0, lus3_0, rfl, f42, f11⟩

/- loop.example/g00869/impl.bothOf -/
theorem i_bothOf_ok {w : World} {κ : Col} {a0 : Option Addr} {u0 : Nat} {p0 : (List Int)} {a1 : Option Addr} {u1 : Nat} {p1 : (List Int)} (g0 : Rd (Rp.int .i64) κ w 0 a0 u0 p0) (g1 : Rd (Rp.int .i64) κ w 0 a1 u1 p1) {r : (List Int)} (h : i_bothOf p0 p1 = some r) : Ret Try.prog 114 [.slice a0 p0.length u0, .slice a1 p1.length u1] w (fun v w' => ∃ (κ' : Col) (ra0 : Option Addr) (ru0 : Nat), v = .slice ra0 r.length ru0 ∧ Ent κ w κ' w' ∧ Oc (Ep.int .i64) 2 κ' w' 2 ra0 ru0 r) := by
 unfold i_bothOf at h
 refine Ret.enter Try.func114 rfl Try.ntmps114 rfl ?_
 dsimp only [envOf]
 have hE := Ent.refl κ w
 refine WC.seq ?_
 refine WC.rs [(0, 2)] rfl ?_
 refine WO.pn 1 rfl ?_
 refine WO.fin ?_
 refine DN.seq ?_
 refine WC.seq ?_
 refine WC.rs [(0, 1), (1, 2), (2, 1), (3, 2), (4, 2), (5, 1), (6, 1), (7, 2)] rfl ?_
 refine WO.bl0 (κ := κ) (E := (Ep.int .i64)) 2 rfl rfl rfl rfl rfl Try.underlying28 Tryinfo2 rfl fun a6 u6 w1 K2 S3 f4 => ⟨trivial, ?_⟩
 refine WO.pn 1 rfl ?_
 obtain ⟨x8, hx8, h⟩ := Option.bind_eq_some_iff.mp h
 have f5 := g0.stp S3 rfl rfl
 refine WO.app (κ := K2) (E := (Ep.int .i64)) 2 [] rfl rfl rfl rfl rfl rfl rfl rfl rfl Try.underlying28 Tryinfo2 rfl rfl rfl rfl f4 (Sl.srcP (pu_int _) f5) sy_false hx8 rfl fun a8 u8 w6 K7 S8 f9 => ⟨trivial, ?_⟩
 refine WO.pn 2 rfl ?_
 obtain ⟨x11, hx11, h⟩ := Option.bind_eq_some_iff.mp h
 have f10 := g1.stp (S3.tr S8) rfl rfl
 have f11 := f5.stp S8 rfl rfl
 refine WO.call rfl rfl rfl rfl rfl rfl Try.call115 (i_lessOf_ok (κ := fun b => mp [] 0 (K7 b)) (Sl.map f10 (mp [] 0) rfl rfl) (Sl.map f11 (mp [] 0) rfl rfl) hx11) ?_
 rintro _ w12 ⟨k13, a11_0, u11_0, rfl, e14, f15⟩
 obtain ⟨K16, S17, m18⟩ := Ent.mixed (l := []) (κ := K7) e14 3 rfl
 refine ⟨trivial, ?_⟩
 have f20 := f15.mx (no_int _) m18 rfl (rfl : 3 + 2 = 5)
 obtain ⟨x12, hx12, h⟩ := Option.bind_eq_some_iff.mp h
 have f21 := f9.stp S17 rfl rfl
 refine WO.app (κ := K16) (E := (Ep.int .i64)) 2 [] rfl rfl rfl rfl rfl rfl rfl rfl rfl Try.underlying28 Tryinfo2 rfl rfl rfl rfl f21 (Sl.srcP (pu_int _) f20.rdc) sy_false hx12 rfl fun a12 u12 w22 K23 S24 f25 => ⟨trivial, ?_⟩
 refine WO.pn 1 rfl ?_
 refine WO.fin ?_
 refine DN.seq ?_
 refine WC.seq ?_
 refine WC.rs [(0, 2), (1, 1)] rfl ?_
 refine WO.pn 1 rfl ?_
 obtain ⟨x14, hx14, h⟩ := Option.bind_eq_some_iff.mp h
 refine WO.call rfl rfl rfl rfl rfl rfl Try.call134 (slices_Sort_I_int64_ok (κ := fun b => mp [(2, 2)] 0 (K23 b)) (f25.map (mp [(2, 2)] 0) rfl rfl) hx14) ?_
 rintro _ w26 ⟨k27, rfl, e28, f29, hn30⟩
 obtain ⟨K31, S32, m33⟩ := Ent.mixed (l := [(2, 2)]) (κ := K23) e28 6 rfl
 refine ⟨trivial, ?_⟩
 have f35 := f29.mx (no_int _) m33 rfl (rfl : 6 + 2 = 8)
 refine WO.fin ?_
 refine DN.seq ?_
 refine WC.seq ?_
 refine WC.rs [(0, 2), (1, 2)] rfl ?_
 refine WO.pn 2 rfl ?_
 refine WO.fin ?_
 refine DN.seq ?_
 refine WC.ret ?_
 have f36 := hE.stp (S3.tr (S8.tr (S17.tr (S24.tr S32)))) rfl rfl
 refine DN.res (l := [.tmp 4]) Try.results114 (res_tmp rfl rfl) rfl ?_
 obtain rfl := Option.some.inj h
 exact ⟨(fun b => ren [(8, 2)] (K31 b)), a12, u12, (by simp only [(hn30)]), (f36.map (ren [(8, 2)]) rfl rfl), (f35.map (ren [(8, 2)]) rfl rfl)⟩

/- loop.example/g00869/laws.eqParity -/
theorem l_eqParity_ok {w : World} {κ : Col} {a0_0_0 : Option Addr} {u0_0_0 : Nat} {a0_0_1 : Option Addr} {u0_0_1 : Nat} {a0_1 : Option Addr} {u0_1 : Nat} {p0 : Parity} {a1_0_0 : Option Addr} {u1_0_0 : Nat} {a1_0_1 : Option Addr} {u1_0_1 : Nat} {a1_1 : Option Addr} {u1_1 : Nat} {p1 : Parity} (g0_0_0 : Rd (Rp.int .i64) κ w 0 a0_0_0 u0_0_0 p0.Arena.Owner) (g0_0_1 : Rd (Rp.sl (Rp.int .i64)) κ w 0 a0_0_1 u0_0_1 p0.Arena.Next) (g0_1 : Rd (Rp.int .i64) κ w 0 a0_1 u0_1 p0.Prio) (g1_0_0 : Rd (Rp.int .i64) κ w 0 a1_0_0 u1_0_0 p1.Arena.Owner) (g1_0_1 : Rd (Rp.sl (Rp.int .i64)) κ w 0 a1_0_1 u1_0_1 p1.Arena.Next) (g1_1 : Rd (Rp.int .i64) κ w 0 a1_1 u1_1 p1.Prio) {r : Bool} (h : l_eqParity p0 p1 = some r) : Ret Try.prog 37 [.agg #[.slice a0_0_0 p0.Arena.Owner.length u0_0_0, .slice a0_0_1 p0.Arena.Next.length u0_0_1, .slice a0_1 p0.Prio.length u0_1], .agg #[.slice a1_0_0 p1.Arena.Owner.length u1_0_0, .slice a1_0_1 p1.Arena.Next.length u1_0_1, .slice a1_1 p1.Prio.length u1_1]] w (fun v w' => ∃ (κ' : Col), v = .bool r ∧ Ent κ w κ' w') := by
 unfold l_eqParity at h
 refine Ret.enter Try.func37 rfl Try.ntmps37 rfl ?_
 dsimp only [envOf]
 have hE := Ent.refl κ w
 refine WC.seq ?_
 refine WC.rs [(0, 1), (1, 1), (2, 2)] rfl ?_
 refine WO.box (κ := κ) 2 rfl rfl rfl rfl rfl rfl rfl fun b2 w1 K2 S3 f4 => ⟨trivial, ?_⟩
 refine WO.box (κ := K2) 3 rfl rfl rfl rfl rfl rfl rfl fun b3 w5 K6 S7 f8 => ⟨trivial, ?_⟩
 refine WO.pn 1 rfl ?_
 refine WO.fin ?_
 refine DN.seq ?_
 refine WC.seq ?_
 refine WC.seq ?_
 refine WC.rs [(0, 2), (1, 1), (2, 2), (3, 1), (4, 1), (5, 2)] rfl ?_
 refine WO.k2 rfl rfl rfl rfl (rn_fieldAddr Try.runUnderlying74 rfl Try.sizeOf72 rfl rfl) ?_
 have f9 := f4.stp S7 rfl rfl
 refine WO.k1 trivial rfl rfl rfl rfl (rn_la (cs := [.slice a0_0_0 p0.Arena.Owner.length u0_0_0, .slice a0_0_1 p0.Arena.Next.length u0_0_1]) Try.isAgg72 Try.sizeOf72 rfl rfl rfl (haE (f9.lds 0 2 rfl))) ?_
 refine WO.k2 rfl rfl rfl rfl (rn_fieldAddr Try.runUnderlying74 rfl Try.sizeOf72 rfl rfl) ?_
 refine WO.k1 trivial rfl rfl rfl rfl (rn_la (cs := [.slice a1_0_0 p1.Arena.Owner.length u1_0_0, .slice a1_0_1 p1.Arena.Next.length u1_0_1]) Try.isAgg72 Try.sizeOf72 rfl rfl rfl (haE (f8.lds 0 2 rfl))) ?_
 obtain ⟨x9, hx9, h⟩ := Option.bind_eq_some_iff.mp h
 have f10 := g0_0_0.stp (S3.tr S7) rfl rfl
 have f11 := g0_0_1.stp (S3.tr S7) rfl rfl
 have f12 := g1_0_0.stp (S3.tr S7) rfl rfl
 have f13 := g1_0_1.stp (S3.tr S7) rfl rfl
 refine WO.call rfl rfl rfl rfl rfl rfl Try.call78 (l_eqArena_ok (κ := fun b => mp [] 0 (K6 b)) (p0 := p0.Arena) (p1 := p1.Arena) (Sl.map f10 (mp [] 0) rfl rfl) (Sl.map f11 (mp [] 0) rfl rfl) (Sl.map f12 (mp [] 0) rfl rfl) (Sl.map f13 (mp [] 0) rfl rfl) hx9) ?_
 rintro _ w14 ⟨k15, rfl, e16⟩
 obtain ⟨K17, S18, m19⟩ := Ent.mixed (l := []) (κ := K6) e16 4 rfl
 refine ⟨trivial, ?_⟩
 refine WO.pn 1 rfl ?_
 refine WO.fin ?_
 refine DN.seq ?_
 revert h
 cases ht21 : (!x9) with
 | true =>
  intro h; replace h := cT h
  refine WC.ct rfl ?_
  refine WC.seq ?_
  refine WC.rs [(0, 2)] rfl ?_
  refine WO.pn 1 rfl ?_
  refine WO.fin ?_
  refine DN.seq ?_
  refine WC.ret ?_
  refine DN.retThen ?_
  have f22 := hE.stp (S3.tr (S7.tr S18)) rfl rfl
  refine DN.res (l := [.tmp 4]) Try.results37 (res_tmp rfl rfl) rfl ?_
  obtain rfl := Option.some.inj h
  exact ⟨K17, rfl, f22⟩
 | false =>
  intro h; replace h := cF h
  refine WC.cf rfl ?_
  refine WC.skip ?_
  refine DN.seq ?_
  refine WC.seq ?_
  refine WC.seq ?_
  refine WC.rs [(0, 2), (1, 1), (2, 2), (3, 1), (4, 1), (5, 2)] rfl ?_
  refine WO.k2 rfl rfl rfl rfl (rn_fieldAddr Try.runUnderlying74 rfl Try.sizeOf28 rfl rfl) ?_
  have f23 := f9.stp S18 rfl rfl
  refine WO.k1 trivial rfl rfl rfl rfl (rn_ld Try.isAgg28 rfl rfl (hvE (f23.ld 2 rfl rfl))) ?_
  refine WO.k2 rfl rfl rfl rfl (rn_fieldAddr Try.runUnderlying74 rfl Try.sizeOf28 rfl rfl) ?_
  have f24 := f8.stp S18 rfl rfl
  refine WO.k1 trivial rfl rfl rfl rfl (rn_ld Try.isAgg28 rfl rfl (hvE (f24.ld 2 rfl rfl))) ?_
  obtain ⟨x15, hx15, h⟩ := Option.bind_eq_some_iff.mp h
  have f25 := g0_1.stp (S3.tr (S7.tr S18)) rfl rfl
  have f26 := g1_1.stp (S3.tr (S7.tr S18)) rfl rfl
  refine WO.call rfl rfl rfl rfl rfl rfl Try.call57 (l_eqInt64S_ok (κ := fun b => mp [] 0 (K17 b)) (Sl.map f25 (mp [] 0) rfl rfl) (Sl.map f26 (mp [] 0) rfl rfl) hx15) ?_
  rintro _ w27 ⟨k28, rfl, e29⟩
  obtain ⟨K30, S31, m32⟩ := Ent.mixed (l := []) (κ := K17) e29 6 rfl
  refine ⟨trivial, ?_⟩
  refine WO.pn 1 rfl ?_
  refine WO.fin ?_
  refine DN.seq ?_
  revert h
  cases ht34 : (!x15) with
  | true =>
   intro h; replace h := cT h
   refine WC.ct rfl ?_
   refine WC.seq ?_
   refine WC.rs [(0, 2)] rfl ?_
   refine WO.pn 1 rfl ?_
   refine WO.fin ?_
   refine DN.seq ?_
   refine WC.ret ?_
   refine DN.retThen ?_
   have f35 := hE.stp (S3.tr (S7.tr (S18.tr S31))) rfl rfl
   refine DN.res (l := [.tmp 4]) Try.results37 (res_tmp rfl rfl) rfl ?_
   obtain rfl := Option.some.inj h
   exact ⟨K30, rfl, f35⟩
  | false =>
   intro h; replace h := cF h
   refine WC.cf rfl ?_
   refine WC.skip ?_
   refine DN.seq ?_
   refine WC.seq ?_
   refine WC.rs [(0, 2)] rfl ?_
   refine WO.pn 1 rfl ?_
   refine WO.fin ?_
   refine DN.seq ?_
   refine WC.ret ?_
   have f36 := hE.stp (S3.tr (S7.tr (S18.tr S31))) rfl rfl
   refine DN.res (l := [.tmp 4]) Try.results37 (res_tmp rfl rfl) rfl ?_
   obtain rfl := Option.some.inj h
   exact ⟨K30, rfl, f36⟩

/- loop.example/g00869/laws.markParity -/
theorem l_markParity_ok {w : World} {κ : Col} {a0_0_0 : Option Addr} {u0_0_0 : Nat} {a0_0_1 : Option Addr} {u0_0_1 : Nat} {a0_1 : Option Addr} {u0_1 : Nat} {p0 : Parity} {p1 : Int} (g0_0_0 : Oc (Ep.int .i64) 2 κ w 2 a0_0_0 u0_0_0 p0.Arena.Owner) (g0_0_1 : Oc (Ep.own (Ep.int .i64) 2) 28 κ w 3 a0_0_1 u0_0_1 p0.Arena.Next) (g0_1 : Oc (Ep.int .i64) 2 κ w 4 a0_1 u0_1 p0.Prio) {r : Int × (List Int) × (List (List Int)) × (List Int)} (h : l_markParity p0 p1 = some r) : Ret Try.prog 38 [.agg #[.slice a0_0_0 p0.Arena.Owner.length u0_0_0, .slice a0_0_1 p0.Arena.Next.length u0_0_1, .slice a0_1 p0.Prio.length u0_1], .int .i64 p1] w (fun v w' => ∃ (κ' : Col), v = .int .i64 r.1 ∧ Ent κ w κ' w' ∧ Oc (Ep.int .i64) 2 κ' w' 2 a0_0_0 u0_0_0 r.2.1 ∧ p0.Arena.Owner.length = r.2.1.length ∧ Oc (Ep.own (Ep.int .i64) 2) 28 κ' w' 3 a0_0_1 u0_0_1 r.2.2.1 ∧ p0.Arena.Next.length = r.2.2.1.length ∧ Oc (Ep.int .i64) 2 κ' w' 4 a0_1 u0_1 r.2.2.2 ∧ p0.Prio.length = r.2.2.2.length) := by
 unfold l_markParity at h
 refine Ret.enter Try.func38 rfl Try.ntmps38 rfl ?_
 dsimp only [envOf]
 have hE := Ent.refl κ w
 refine WC.seq ?_
 refine WC.rs [(0, 1), (1, 2)] rfl ?_
 refine WO.box (κ := κ) 5 rfl rfl rfl rfl rfl rfl rfl fun b2 w1 K2 S3 f4 => ⟨trivial, ?_⟩
 refine WO.pn 1 rfl ?_
 refine WO.fin ?_
 refine DN.seq ?_
 refine WC.seq ?_
 refine WC.rs [(0, 2), (1, 1), (2, 2), (3, 1), (4, 2)] rfl ?_
 refine WO.k2 rfl rfl rfl rfl (rn_fieldAddr Try.runUnderlying74 rfl Try.sizeOf72 rfl rfl) ?_
 refine WO.k1 trivial rfl rfl rfl rfl (rn_la (cs := [.slice a0_0_0 p0.Arena.Owner.length u0_0_0, .slice a0_0_1 p0.Arena.Next.length u0_0_1]) Try.isAgg72 Try.sizeOf72 rfl rfl rfl (haE (f4.lds 0 2 rfl))) ?_
 refine WO.pn 1 rfl ?_
 obtain ⟨x8, hx8, h⟩ := Option.bind_eq_some_iff.mp h
 have f5 := g0_0_0.stp S3 rfl rfl
 have f6 := g0_0_1.stp S3 rfl rfl
 refine WO.call rfl rfl rfl rfl rfl rfl Try.call79 (l_markArena_ok (κ := fun b => mp [(2, 2), (3, 3)] 0 (K2 b)) (p0 := p0.Arena) (f5.map (mp [(2, 2), (3, 3)] 0) rfl rfl) (f6.map (mp [(2, 2), (3, 3)] 0) rfl rfl) hx8) ?_
 rintro _ w7 ⟨k8, rfl, e9, f10, hn11, f12, hn13⟩
 obtain ⟨K14, S15, m16⟩ := Ent.mixed (l := [(2, 2), (3, 3)]) (κ := K2) e9 6 rfl
 refine ⟨trivial, ?_⟩
 have f18 := f10.mx (no_int _) m16 rfl (rfl : 6 + 2 = 8)
 have f19 := f12.mx (no_own (no_int _) _) m16 rfl (rfl : 6 + 3 = 9)
 refine WO.pn 1 rfl ?_
 refine WO.fin ?_
 refine DN.seq ?_
 refine WC.seq ?_
 refine WC.rs [(0, 2), (1, 1), (2, 2), (3, 1), (4, 2)] rfl ?_
 refine WO.k2 rfl rfl rfl rfl (rn_fieldAddr Try.runUnderlying74 rfl Try.sizeOf28 rfl rfl) ?_
 have f20 := f4.stp S15 rfl rfl
 refine WO.k1 trivial rfl rfl rfl rfl (rn_ld Try.isAgg28 rfl rfl (hvE (f20.ld 2 rfl rfl))) ?_
 refine WO.pn 1 rfl ?_
 obtain ⟨x12, hx12, h⟩ := Option.bind_eq_some_iff.mp h
 have f21 := g0_1.stp (S3.tr S15) rfl rfl
 refine WO.call rfl rfl rfl rfl rfl rfl Try.call69 (l_markInt64S_ok (κ := fun b => mp [(4, 2)] 0 (K14 b)) (f21.map (mp [(4, 2)] 0) rfl rfl) hx12) ?_
 rintro _ w22 ⟨k23, rfl, e24, f25, hn26⟩
 obtain ⟨K27, S28, m29⟩ := Ent.mixed (l := [(4, 2)]) (κ := K14) e24 10 rfl
 refine ⟨trivial, ?_⟩
 have f31 := f25.mx (no_int _) m29 rfl (rfl : 10 + 2 = 12)
 refine WO.pn 1 rfl ?_
 refine WO.fin ?_
 refine DN.seq ?_
 refine WC.seq ?_
 refine WC.rs [(0, 2), (1, 2)] rfl ?_
 refine WO.pn 2 rfl ?_
 refine WO.fin ?_
 refine DN.seq ?_
 refine WC.ret ?_
 have f32 := hE.stp (S3.tr (S15.tr S28)) rfl rfl
 have f33 := f18.stp S28 rfl rfl
 have f34 := f19.stp S28 rfl rfl
 refine DN.res (l := [.tmp 4]) Try.results38 (res_tmp rfl rfl) rfl ?_
 obtain rfl := Option.some.inj h
 exact ⟨(fun b => ren [(8, 2), (9, 3), (12, 4)] (K27 b)), rfl, (f32.map (ren [(8, 2), (9, 3), (12, 4)]) rfl rfl), (f33.map (ren [(8, 2), (9, 3), (12, 4)]) rfl rfl), (hn11), (f34.map (ren [(8, 2), (9, 3), (12, 4)]) rfl rfl), (hn13), (f31.map (ren [(8, 2), (9, 3), (12, 4)]) rfl rfl), (hn26)⟩

/- loop.example/g00869/laws.heldParity -/
theorem l_heldParity_ok {w : World} {κ : Col} {a0_0_0 : Option Addr} {u0_0_0 : Nat} {a0_0_1 : Option Addr} {u0_0_1 : Nat} {a0_1 : Option Addr} {u0_1 : Nat} {p0 : Parity} {p1 : Int} (g0_0_0 : Rd (Rp.int .i64) κ w 0 a0_0_0 u0_0_0 p0.Arena.Owner) (g0_0_1 : Rd (Rp.sl (Rp.int .i64)) κ w 0 a0_0_1 u0_0_1 p0.Arena.Next) (g0_1 : Rd (Rp.int .i64) κ w 0 a0_1 u0_1 p0.Prio) {r : Int} (h : l_heldParity p0 p1 = some r) : Ret Try.prog 39 [.agg #[.slice a0_0_0 p0.Arena.Owner.length u0_0_0, .slice a0_0_1 p0.Arena.Next.length u0_0_1, .slice a0_1 p0.Prio.length u0_1], .int .i64 p1] w (fun v w' => ∃ (κ' : Col), v = .int .i64 r ∧ Ent κ w κ' w') := by
 unfold l_heldParity at h
 refine Ret.enter Try.func39 rfl Try.ntmps39 rfl ?_
 dsimp only [envOf]
 have hE := Ent.refl κ w
 refine WC.seq ?_
 refine WC.rs [(0, 1), (1, 2)] rfl ?_
 refine WO.box (κ := κ) 2 rfl rfl rfl rfl rfl rfl rfl fun b2 w1 K2 S3 f4 => ⟨trivial, ?_⟩
 refine WO.pn 1 rfl ?_
 refine WO.fin ?_
 refine DN.seq ?_
 refine WC.seq ?_
 refine WC.rs [(0, 2), (1, 1), (2, 2), (3, 1), (4, 2)] rfl ?_
 refine WO.k2 rfl rfl rfl rfl (rn_fieldAddr Try.runUnderlying74 rfl Try.sizeOf72 rfl rfl) ?_
 refine WO.k1 trivial rfl rfl rfl rfl (rn_la (cs := [.slice a0_0_0 p0.Arena.Owner.length u0_0_0, .slice a0_0_1 p0.Arena.Next.length u0_0_1]) Try.isAgg72 Try.sizeOf72 rfl rfl rfl (haE (f4.lds 0 2 rfl))) ?_
 refine WO.pn 1 rfl ?_
 obtain ⟨x8, hx8, h⟩ := Option.bind_eq_some_iff.mp h
 have f5 := g0_0_0.stp S3 rfl rfl
 have f6 := g0_0_1.stp S3 rfl rfl
 refine WO.call rfl rfl rfl rfl rfl rfl Try.call80 (l_heldArena_ok (κ := fun b => mp [] 0 (K2 b)) (p0 := p0.Arena) (Sl.map f5 (mp [] 0) rfl rfl) (Sl.map f6 (mp [] 0) rfl rfl) hx8) ?_
 rintro _ w7 ⟨k8, rfl, e9⟩
 obtain ⟨K10, S11, m12⟩ := Ent.mixed (l := []) (κ := K2) e9 3 rfl
 refine ⟨trivial, ?_⟩
 refine WO.pn 1 rfl ?_
 refine WO.fin ?_
 refine DN.seq ?_
 refine WC.seq ?_
 refine WC.seq ?_
 refine WC.rs [(0, 2), (1, 2)] rfl ?_
 refine WO.pn 2 rfl ?_
 refine WO.fin ?_
 refine DN.seq ?_
 revert h
 cases ht14 : decide (x8 < 0) with
 | true =>
  intro h; replace h := cT h
  refine WC.ct rfl ?_
  refine WC.seq ?_
  refine WC.rs [(0, 2)] rfl ?_
  refine WO.pn 1 rfl ?_
  refine WO.fin ?_
  refine DN.seq ?_
  refine WC.ret ?_
  refine DN.retThen ?_
  have f15 := hE.stp (S3.tr S11) rfl rfl
  refine DN.res (l := [.tmp 4]) Try.results39 (res_tmp rfl rfl) rfl ?_
  obtain rfl := Option.some.inj h
  exact ⟨K10, rfl, f15⟩
 | false =>
  intro h; replace h := cF h
  refine WC.cf rfl ?_
  refine WC.skip ?_
  refine DN.seq ?_
  refine WC.seq ?_
  refine WC.rs [(0, 2), (1, 1), (2, 2), (3, 1), (4, 2)] rfl ?_
  refine WO.k2 rfl rfl rfl rfl (rn_fieldAddr Try.runUnderlying74 rfl Try.sizeOf28 rfl rfl) ?_
  have f16 := f4.stp S11 rfl rfl
  refine WO.k1 trivial rfl rfl rfl rfl (rn_ld Try.isAgg28 rfl rfl (hvE (f16.ld 2 rfl rfl))) ?_
  refine WO.pn 1 rfl ?_
  obtain ⟨x14, hx14, h⟩ := Option.bind_eq_some_iff.mp h
  have f17 := g0_1.stp (S3.tr S11) rfl rfl
  refine WO.call rfl rfl rfl rfl rfl rfl Try.call70 (l_heldInt64S_ok (κ := fun b => mp [] 0 (K10 b)) (Sl.map f17 (mp [] 0) rfl rfl) hx14) ?_
  rintro _ w18 ⟨k19, rfl, e20⟩
  obtain ⟨K21, S22, m23⟩ := Ent.mixed (l := []) (κ := K10) e20 5 rfl
  refine ⟨trivial, ?_⟩
  refine WO.pn 1 rfl ?_
  refine WO.fin ?_
  refine DN.seq ?_
  refine WC.seq ?_
  refine WC.seq ?_
  refine WC.rs [(0, 2), (1, 2)] rfl ?_
  refine WO.pn 2 rfl ?_
  refine WO.fin ?_
  refine DN.seq ?_
  revert h
  cases ht25 : decide (x14 < 0) with
  | true =>
   intro h; replace h := cT h
   refine WC.ct rfl ?_
   refine WC.seq ?_
   refine WC.rs [(0, 2)] rfl ?_
   refine WO.pn 1 rfl ?_
   refine WO.fin ?_
   refine DN.seq ?_
   refine WC.ret ?_
   refine DN.retThen ?_
   have f26 := hE.stp (S3.tr (S11.tr S22)) rfl rfl
   refine DN.res (l := [.tmp 4]) Try.results39 (res_tmp rfl rfl) rfl ?_
   obtain rfl := Option.some.inj h
   exact ⟨K21, rfl, f26⟩
  | false =>
   intro h; replace h := cF h
   refine WC.cf rfl ?_
   refine WC.skip ?_
   refine DN.seq ?_
   refine WC.seq ?_
   refine WC.rs [(0, 2), (1, 2)] rfl ?_
   refine WO.pn 2 rfl ?_
   refine WO.fin ?_
   refine DN.seq ?_
   refine WC.ret ?_
   have f27 := hE.stp (S3.tr (S11.tr S22)) rfl rfl
   refine DN.res (l := [.tmp 4]) Try.results39 (res_tmp rfl rfl) rfl ?_
   obtain rfl := Option.some.inj h
   exact ⟨K21, rfl, f27⟩

/- loop.example/g00869/impl.areLetters -/
theorem i_areLetters_ok {w : World} {κ : Col} {a0 : Option Addr} {u0 : Nat} {p0 : (List Int)} {p1 : Int} (g0 : Rd (Rp.int .i64) κ w 0 a0 u0 p0) {r : Bool} (h : i_areLetters p0 p1 = some r) : Ret Try.prog 105 [.slice a0 p0.length u0, .int .i64 p1] w (fun v w' => ∃ (κ' : Col), v = .bool r ∧ Ent κ w κ' w') := by
 unfold i_areLetters at h
 refine Ret.enter Try.func105 rfl Try.ntmps105 rfl ?_
 dsimp only [envOf]
 have hE := Ent.refl κ w
 refine WC.seq ?_
 refine WC.rs [(0, 1), (1, 2)] rfl ?_
 refine WO.box (κ := κ) 2 rfl rfl rfl rfl rfl rfl rfl fun b3 w1 K2 S3 f4 => ⟨trivial, ?_⟩
 refine WO.pn 1 rfl ?_
 refine WO.fin ?_
 refine DN.seq ?_
 refine WC.seq ?_
 refine WC.rs [(0, 2), (1, 2), (2, 1), (3, 2), (4, 2)] rfl ?_
 refine WO.pn 1 rfl ?_
 refine WO.k2 rfl rfl rfl rfl (rn_makeFunc (first := []) (captured := [.tmp 3]) rfl rfl rfl ⟨_, rfl⟩) ?_
 obtain ⟨x7, hx7, h⟩ := Option.bind_eq_some_iff.mp h
 have f5 := g0.stp S3 rfl rfl
 refine WO.call rfl rfl rfl rfl rfl rfl Try.call130 (slices_ContainsFunc_I_int64__i_areLetters_1_ok (κ := fun b => mp [] 0 (K2 b)) (Sl.map f5 (mp [] 0) rfl rfl) (f4.map (mp [] 0) rfl rfl) hx7) ?_
 rintro _ w6 ⟨k7, rfl, e8⟩
 obtain ⟨K9, S10, m11⟩ := Ent.mixed (l := []) (κ := K2) e8 3 rfl
 refine ⟨trivial, ?_⟩
 refine WO.pn 2 rfl ?_
 refine WO.fin ?_
 refine DN.seq ?_
 refine WC.ret ?_
 have f13 := hE.stp (S3.tr S10) rfl rfl
 refine DN.res (l := [.tmp 4]) Try.results105 (res_tmp rfl rfl) rfl ?_
 obtain rfl := Option.some.inj h
 exact ⟨K9, rfl, f13⟩

end Go.Proofs.Ytnmjfjppgpkieaa
