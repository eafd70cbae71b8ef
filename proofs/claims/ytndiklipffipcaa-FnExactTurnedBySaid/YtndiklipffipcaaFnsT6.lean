/- The walks, part 6. By program. -/
import Derived.Test.YtndiklipffipcaaSort
import Derived.Test.YtndiklipffipcaaShelf
import Derived.Test.YtndiklipffipcaaFnsT4
import Derived.Test.YtndiklipffipcaaFnsT5
set_option linter.unusedVariables false
set_option linter.unusedSimpArgs false
namespace Go.Proofs.Ytndiklipffipcaa
open Go Go.Wk Go.Proofs
set_option maxRecDepth 100000
set_option maxHeartbeats 1000000

/- loop.example/g00869/laws.szParity -/
theorem l_szParity_ok {w : World} {κ : Col} {a0_0_0 : Option Addr} {u0_0_0 : Nat} {a0_0_1 : Option Addr} {u0_0_1 : Nat} {a0_1 : Option Addr} {u0_1 : Nat} {p0 : Parity} {p1 : Int} (g0_0_0 : Rd (Rp.int .i64) κ w 0 a0_0_0 u0_0_0 p0.Arena.Owner) (g0_0_1 : Rd (Rp.sl (Rp.int .i64)) κ w 0 a0_0_1 u0_0_1 p0.Arena.Next) (g0_1 : Rd (Rp.int .i64) κ w 0 a0_1 u0_1 p0.Prio) {r : Int} (h : l_szParity p0 p1 = some r) : Ret Try.prog 7 [.agg #[.slice a0_0_0 p0.Arena.Owner.length u0_0_0, .slice a0_0_1 p0.Arena.Next.length u0_0_1, .slice a0_1 p0.Prio.length u0_1], .int .i64 p1] w (fun v w' => ∃ (κ' : Col), v = .int .i64 r ∧ Ent κ w κ' w') := by
 unfold l_szParity at h
 refine Ret.enter Try.func7 rfl Try.ntmps7 rfl ?_
 dsimp only [envOf]
 have hE := Ent.refl κ w
 refine WC.seq ?_
 refine WC.rs [(0, 1), (1, 2)] rfl ?_
 refine WO.box (κ := κ) 2 rfl rfl rfl rfl rfl rfl rfl fun b2 w1 K2 S3 f4 => ⟨trivial, ?_⟩
 refine WO.pn 1 rfl ?_
 refine WO.fin ?_
 refine DN.seq ?_
 refine WC.seq ?_
 refine WC.rs [(0, 2), (1, 1), (2, 2), (3, 1), (4, 2)] rfl ?_
 refine WO.k2 rfl rfl rfl rfl (rn_fieldAddr Try.runUnderlying27 rfl Try.sizeOf25 rfl rfl) ?_
 refine WO.k1 trivial rfl rfl rfl rfl (rn_la (cs := [.slice a0_0_0 p0.Arena.Owner.length u0_0_0, .slice a0_0_1 p0.Arena.Next.length u0_0_1]) Try.isAgg25 Try.sizeOf25 rfl rfl rfl (haE (f4.lds 0 2 rfl))) ?_
 refine WO.pn 1 rfl ?_
 obtain ⟨x8, hx8, h⟩ := Option.bind_eq_some_iff.mp h
 have f5 := g0_0_0.stp S3 rfl rfl
 have f6 := g0_0_1.stp S3 rfl rfl
 refine WO.call rfl rfl rfl rfl rfl rfl Try.call36 (l_szArena_ok (κ := fun b => mp [] 0 (K2 b)) (p0 := p0.Arena) (Sl.map f5 (mp [] 0) rfl rfl) (Sl.map f6 (mp [] 0) rfl rfl) hx8) ?_
 rintro _ w7 ⟨k8, rfl, e9⟩
 obtain ⟨K10, S11, m12⟩ := Ent.mixed (l := []) (κ := K2) e9 3 rfl
 refine ⟨trivial, ?_⟩
 refine WO.pn 1 rfl ?_
 refine WO.fin ?_
 refine DN.seq ?_
 refine WC.seq ?_
 refine WC.seq ?_
 refine WC.rs [(0, 2), (1, 2)] rfl ?_
 refine WO.pn 2 rfl ?_
 refine WO.fin ?_
 refine DN.seq ?_
 revert h
 cases ht14 : decide (x8 < 0) with
 | true =>
  intro h; replace h := cT h
  refine WC.ct rfl ?_
  refine WC.seq ?_
  refine WC.rs [(0, 2)] rfl ?_
  refine WO.pn 1 rfl ?_
  refine WO.fin ?_
  refine DN.seq ?_
  refine WC.ret ?_
  refine DN.retThen ?_
  have f15 := hE.stp (S3.tr S11) rfl rfl
  refine DN.res (l := [.tmp 4]) Try.results7 (res_tmp rfl rfl) rfl ?_
  obtain rfl := Option.some.inj h
  exact ⟨K10, rfl, f15⟩
 | false =>
  intro h; replace h := cF h
  refine WC.cf rfl ?_
  refine WC.skip ?_
  refine DN.seq ?_
  refine WC.seq ?_
  refine WC.rs [(0, 2), (1, 1), (2, 2), (3, 1), (4, 2)] rfl ?_
  refine WO.k2 rfl rfl rfl rfl (rn_fieldAddr Try.runUnderlying27 rfl Try.sizeOf22 rfl rfl) ?_
  have f16 := f4.stp S11 rfl rfl
  refine WO.k1 trivial rfl rfl rfl rfl (rn_ld Try.isAgg22 rfl rfl (hvE (f16.ld 2 rfl rfl))) ?_
  refine WO.pn 1 rfl ?_
  obtain ⟨x14, hx14, h⟩ := Option.bind_eq_some_iff.mp h
  have f17 := g0_1.stp (S3.tr S11) rfl rfl
  refine WO.call rfl rfl rfl rfl rfl rfl Try.call37 (l_szInt64S_ok (κ := fun b => mp [] 0 (K10 b)) (Sl.map f17 (mp [] 0) rfl rfl) hx14) ?_
  rintro _ w18 ⟨k19, rfl, e20⟩
  obtain ⟨K21, S22, m23⟩ := Ent.mixed (l := []) (κ := K10) e20 5 rfl
  refine ⟨trivial, ?_⟩
  refine WO.pn 1 rfl ?_
  refine WO.fin ?_
  refine DN.seq ?_
  refine WC.seq ?_
  refine WC.seq ?_
  refine WC.rs [(0, 2), (1, 2)] rfl ?_
  refine WO.pn 2 rfl ?_
  refine WO.fin ?_
  refine DN.seq ?_
  revert h
  cases ht25 : decide (x14 < 0) with
  | true =>
   intro h; replace h := cT h
   refine WC.ct rfl ?_
   refine WC.seq ?_
   refine WC.rs [(0, 2)] rfl ?_
   refine WO.pn 1 rfl ?_
   refine WO.fin ?_
   refine DN.seq ?_
   refine WC.ret ?_
   refine DN.retThen ?_
   have f26 := hE.stp (S3.tr (S11.tr S22)) rfl rfl
   refine DN.res (l := [.tmp 4]) Try.results7 (res_tmp rfl rfl) rfl ?_
   obtain rfl := Option.some.inj h
   exact ⟨K21, rfl, f26⟩
  | false =>
   intro h; replace h := cF h
   refine WC.cf rfl ?_
   refine WC.skip ?_
   refine DN.seq ?_
   refine WC.seq ?_
   refine WC.rs [(0, 2), (1, 2)] rfl ?_
   refine WO.pn 2 rfl ?_
   refine WO.fin ?_
   refine DN.seq ?_
   refine WC.ret ?_
   have f27 := hE.stp (S3.tr (S11.tr S22)) rfl rfl
   refine DN.res (l := [.tmp 4]) Try.results7 (res_tmp rfl rfl) rfl ?_
   obtain rfl := Option.some.inj h
   exact ⟨K21, rfl, f27⟩

/- loop.example/g00869/laws.toParity -/
theorem l_toParity_ok {w : World} {κ : Col} {a0_0_0 : Option Addr} {u0_0_0 : Nat} {a0_0_1 : Option Addr} {u0_0_1 : Nat} {a0_1 : Option Addr} {u0_1 : Nat} {p0 : Parity} (g0_0_0 : Rd (Rp.int .i64) κ w 0 a0_0_0 u0_0_0 p0.Arena.Owner) (g0_0_1 : Rd (Rp.sl (Rp.int .i64)) κ w 0 a0_0_1 u0_0_1 p0.Arena.Next) (g0_1 : Rd (Rp.int .i64) κ w 0 a0_1 u0_1 p0.Prio) {r : Parity} (h : l_toParity p0 = some r) : Ret Try.prog 9 [.agg #[.slice a0_0_0 p0.Arena.Owner.length u0_0_0, .slice a0_0_1 p0.Arena.Next.length u0_0_1, .slice a0_1 p0.Prio.length u0_1]] w (fun v w' => ∃ (κ' : Col) (ra0 : Option Addr) (ru0 : Nat) (ra1 : Option Addr) (ru1 : Nat) (ra2 : Option Addr) (ru2 : Nat), v = .agg #[.slice ra0 r.Arena.Owner.length ru0, .slice ra1 r.Arena.Next.length ru1, .slice ra2 r.Prio.length ru2] ∧ Ent κ w κ' w' ∧ Oc (Ep.int .i64) 2 κ' w' 2 ra0 ru0 r.Arena.Owner ∧ Oc (Ep.own (Ep.int .i64) 2) 22 κ' w' 3 ra1 ru1 r.Arena.Next ∧ Oc (Ep.int .i64) 2 κ' w' 4 ra2 ru2 r.Prio) := by
 unfold l_toParity at h
 refine Ret.enter Try.func9 rfl Try.ntmps9 rfl ?_
 dsimp only [envOf]
 have hE := Ent.refl κ w
 refine WC.seq ?_
 refine WC.rs [(0, 1), (1, 1)] rfl ?_
 refine WO.box (κ := κ) 2 rfl rfl rfl rfl rfl rfl rfl fun b1 w1 K2 S3 f4 => ⟨trivial, ?_⟩
 refine WO.alloc (κ := K2) 3 rfl rfl rfl rfl rfl Try.zeroValue34 rfl fun b2 w5 K6 S7 f8 => ⟨trivial, ?_⟩
 refine WO.fin ?_
 refine DN.seq ?_
 refine WC.seq ?_
 refine WC.rs [(0, 1)] rfl ?_
 refine WO.alloc (κ := K6) 4 rfl rfl rfl rfl rfl Try.zeroValue34 rfl fun b3 w9 K10 S11 f12 => ⟨trivial, ?_⟩
 refine WO.fin ?_
 refine DN.seq ?_
 refine WC.seq ?_
 refine WC.rs [(0, 2), (1, 1), (2, 1), (3, 2), (4, 1)] rfl ?_
 refine WO.k2 rfl rfl rfl rfl (rn_fieldAddr Try.runUnderlying27 rfl Try.sizeOf25 rfl rfl) ?_
 have f13 := f4.stp (S7.tr S11) rfl rfl
 refine WO.k1 trivial rfl rfl rfl rfl (rn_la (cs := [.slice a0_0_0 p0.Arena.Owner.length u0_0_0, .slice a0_0_1 p0.Arena.Next.length u0_0_1]) Try.isAgg25 Try.sizeOf25 rfl rfl rfl (haE (f13.lds 0 2 rfl))) ?_
 obtain ⟨x6, hx6, h⟩ := Option.bind_eq_some_iff.mp h
 have f14 := g0_0_0.stp (S3.tr (S7.tr S11)) rfl rfl
 have f15 := g0_0_1.stp (S3.tr (S7.tr S11)) rfl rfl
 refine WO.call rfl rfl rfl rfl rfl rfl Try.call41 (l_toArena_ok (κ := fun b => mp [] 0 (K10 b)) (p0 := p0.Arena) (Sl.map f14 (mp [] 0) rfl rfl) (Sl.map f15 (mp [] 0) rfl rfl) hx6) ?_
 rintro _ w16 ⟨k17, a6_0, u6_0, a6_1, u6_1, rfl, e18, f19, f20⟩
 obtain ⟨K21, S22, m23⟩ := Ent.mixed (l := []) (κ := K10) e18 5 rfl
 refine ⟨trivial, ?_⟩
 have f25 := f19.mx (no_int _) m23 rfl (rfl : 5 + 2 = 7)
 have f26 := f20.mx (no_own (no_int _) _) m23 rfl (rfl : 5 + 3 = 8)
 refine WO.k2 rfl rfl rfl rfl (rn_fieldAddr Try.runUnderlying34 rfl Try.sizeOf32 rfl rfl) ?_
 have f27 := f12.stp S22 rfl rfl
 refine WO.stB (κ := K21) 4 (off := 0) (vc := [.slice a6_0 x6.Owner.length u6_0, .slice a6_1 x6.Next.length u6_1]) (cs' := [.slice a6_0 x6.Owner.length u6_0, .slice a6_1 x6.Next.length u6_1, .slice none 0 0]) rfl rfl rfl rfl rfl rfl rfl Try.sizeOf32 rfl rfl f27 rfl rfl fun w28 S29 f30 => ⟨trivial, ?_⟩
 refine WO.fin ?_
 refine DN.seq ?_
 refine WC.seq ?_
 refine WC.rs [(0, 2), (1, 1), (2, 1), (3, 2), (4, 1)] rfl ?_
 refine WO.k2 rfl rfl rfl rfl (rn_fieldAddr Try.runUnderlying27 rfl Try.sizeOf22 rfl rfl) ?_
 have f31 := f13.stp (S22.tr S29) rfl rfl
 refine WO.k1 trivial rfl rfl rfl rfl (rn_ld Try.isAgg22 rfl rfl (hvE (f31.ld 2 rfl rfl))) ?_
 obtain ⟨x10, hx10, h⟩ := Option.bind_eq_some_iff.mp h
 have f32 := g0_1.stp (S3.tr (S7.tr (S11.tr (S22.tr S29)))) rfl rfl
 refine WO.call rfl rfl rfl rfl rfl rfl Try.call22 (l_toInt64S_ok (κ := fun b => mp [] 0 (K21 b)) (Sl.map f32 (mp [] 0) rfl rfl) hx10) ?_
 rintro _ w33 ⟨k34, a10_0, u10_0, rfl, e35, f36⟩
 obtain ⟨K37, S38, m39⟩ := Ent.mixed (l := []) (κ := K21) e35 9 rfl
 refine ⟨trivial, ?_⟩
 have f41 := f36.mx (no_int _) m39 rfl (rfl : 9 + 2 = 11)
 refine WO.k2 rfl rfl rfl rfl (rn_fieldAddr Try.runUnderlying34 rfl Try.sizeOf22 rfl rfl) ?_
 have f42 := f30.stp S38 rfl rfl
 refine WO.stB (κ := K37) 4 (off := 2) (vc := [.slice a10_0 x10.length u10_0]) (cs' := [.slice a6_0 x6.Owner.length u6_0, .slice a6_1 x6.Next.length u6_1, .slice a10_0 x10.length u10_0]) rfl rfl rfl rfl rfl rfl rfl Try.sizeOf22 rfl rfl f42 rfl rfl fun w43 S44 f45 => ⟨trivial, ?_⟩
 refine WO.fin ?_
 refine DN.seq ?_
 refine WC.seq ?_
 refine WC.rs [(0, 1), (1, 1)] rfl ?_
 refine WO.k1 trivial rfl rfl rfl rfl (rn_la (cs := [.slice a6_0 x6.Owner.length u6_0, .slice a6_1 x6.Next.length u6_1, .slice a10_0 x10.length u10_0]) Try.isAgg34 Try.sizeOf34 rfl rfl rfl (haE f45.cells)) ?_
 have f46 := f8.stp (S11.tr (S22.tr (S29.tr (S38.tr S44)))) rfl rfl
 refine WO.stB0 (κ := K37) 3 (vc := [.slice a6_0 x6.Owner.length u6_0, .slice a6_1 x6.Next.length u6_1, .slice a10_0 x10.length u10_0]) rfl rfl rfl rfl rfl rfl rfl Try.sizeOf34 rfl rfl f46 rfl fun w47 S48 f49 => ⟨trivial, ?_⟩
 refine WO.fin ?_
 refine DN.seq ?_
 refine WC.ret ?_
 have f50 := hE.stp (S3.tr (S7.tr (S11.tr (S22.tr (S29.tr (S38.tr (S44.tr S48))))))) rfl rfl
 have f51 := f25.stp (S29.tr (S38.tr (S44.tr S48))) rfl rfl
 have f52 := f26.stp (S29.tr (S38.tr (S44.tr S48))) rfl rfl
 have f53 := f41.stp (S44.tr S48) rfl rfl
 refine DN.res (l := [.cell 2 34]) Try.results9 (res_cellA rfl f49 Try.isAgg34 Try.sizeOf34 rfl rfl) rfl ?_
 obtain rfl := Option.some.inj h
 exact ⟨(fun b => ren [(7, 2), (8, 3), (11, 4)] (K37 b)), a6_0, u6_0, a6_1, u6_1, a10_0, u10_0, rfl, (f50.map (ren [(7, 2), (8, 3), (11, 4)]) rfl rfl), (f51.map (ren [(7, 2), (8, 3), (11, 4)]) rfl rfl), (f52.map (ren [(7, 2), (8, 3), (11, 4)]) rfl rfl), (f53.map (ren [(7, 2), (8, 3), (11, 4)]) rfl rfl)⟩

/- loop.example/g00869/spec.l7Win -/
theorem s_l7Win_ok (n : Nat) : ∀ {w : World} {κ : Col} {a0_0 : Option Addr} {u0_0 : Nat} {a0_1 : Option Addr} {u0_1 : Nat} {a0_2 : Option Addr} {u0_2 : Nat} {a0_3 : Option Addr} {u0_3 : Nat} {a0_4 : Option Addr} {u0_4 : Nat} {p0 : l7Game} {a1 : Option Addr} {u1 : Nat} {p1 : (List Bool)} (g0_0 : Rd (Rp.int .i64) κ w 0 a0_0 u0_0 p0.owner) (g0_1 : Rd (Rp.int .i64) κ w 0 a0_1 u0_1 p0.prio) (g0_2 : Rd (Rp.sl (Rp.int .i64)) κ w 0 a0_2 u0_2 p0.next) (g0_3 : Rd (Rp.sl (Rp.int .i64)) κ w 0 a0_3 u0_3 p0.prev) (g0_4 : Rd (Rp.int .i64) κ w 0 a0_4 u0_4 p0.pick) (g1 : Rd Rp.bool κ w 0 a1 u1 p1) {r : (List Bool)} (h : s_l7Win n p0 p1 = some r), Ret Try.prog 77 [.agg #[.slice a0_0 p0.owner.length u0_0, .slice a0_1 p0.prio.length u0_1, .slice a0_2 p0.next.length u0_2, .slice a0_3 p0.prev.length u0_3, .slice a0_4 p0.pick.length u0_4], .slice a1 p1.length u1] w (fun v w' => ∃ (κ' : Col) (ra0 : Option Addr) (ru0 : Nat), v = .slice ra0 r.length ru0 ∧ Ent κ w κ' w' ∧ Oc Ep.bool 4 κ' w' 2 ra0 ru0 r) := by
 induction n with
 | zero =>
  intro w κ a0_0 u0_0 a0_1 u0_1 a0_2 u0_2 a0_3 u0_3 a0_4 u0_4 p0 a1 u1 p1 g0_0 g0_1 g0_2 g0_3 g0_4 g1 r h
  cases h
 | succ n ih =>
  intro w κ a0_0 u0_0 a0_1 u0_1 a0_2 u0_2 a0_3 u0_3 a0_4 u0_4 p0 a1 u1 p1 g0_0 g0_1 g0_2 g0_3 g0_4 g1 r h
  have h : s_l7Win_s (s_l7Win n) p0 p1 = some r := h
  unfold s_l7Win_s at h
  refine Ret.enter Try.func77 rfl Try.ntmps77 rfl ?_
  dsimp only [envOf]
  have hE := Ent.refl κ w
  refine WC.seq ?_
  refine WC.rs [(0, 1), (1, 2)] rfl ?_
  refine WO.box (κ := κ) 2 rfl rfl rfl rfl rfl rfl rfl fun b2 w1 K2 S3 f4 => ⟨trivial, ?_⟩
  refine WO.pn 1 rfl ?_
  refine WO.fin ?_
  refine DN.seq ?_
  refine WC.seq ?_
  refine WC.rs [(0, 1), (1, 2), (2, 1), (3, 2)] rfl ?_
  refine WO.k1 trivial rfl rfl rfl rfl (rn_la (cs := [.slice a0_0 p0.owner.length u0_0, .slice a0_1 p0.prio.length u0_1, .slice a0_2 p0.next.length u0_2, .slice a0_3 p0.prev.length u0_3, .slice a0_4 p0.pick.length u0_4]) Try.isAgg121 Try.sizeOf121 rfl rfl rfl (haE f4.cells)) ?_
  refine WO.pn 1 rfl ?_
  obtain ⟨x21, hx21, h⟩ := Option.bind_eq_some_iff.mp h
  have f5 := g0_0.stp S3 rfl rfl
  have f6 := g0_1.stp S3 rfl rfl
  have f7 := g0_2.stp S3 rfl rfl
  have f8 := g0_3.stp S3 rfl rfl
  have f9 := g0_4.stp S3 rfl rfl
  have f10 := g1.stp S3 rfl rfl
  refine WO.call rfl rfl rfl rfl rfl rfl Try.call116 (s_l7Top_ok (κ := fun b => mp [] 0 (K2 b)) (p0 := p0) (Sl.map f5 (mp [] 0) rfl rfl) (Sl.map f6 (mp [] 0) rfl rfl) (Sl.map f7 (mp [] 0) rfl rfl) (Sl.map f8 (mp [] 0) rfl rfl) (Sl.map f9 (mp [] 0) rfl rfl) (Sl.map f10 (mp [] 0) rfl rfl) hx21) ?_
  rintro _ w11 ⟨k12, rfl, e13⟩
  obtain ⟨K14, S15, m16⟩ := Ent.mixed (l := []) (κ := K2) e13 3 rfl
  refine ⟨trivial, ?_⟩
  refine WO.pn 1 rfl ?_
  refine WO.fin ?_
  refine DN.seq ?_
  refine WC.seq ?_
  refine WC.rs [(0, 2), (1, 2), (2, 1), (3, 2)] rfl ?_
  refine WO.pn 1 rfl ?_
  refine WO.k2 rfl rfl rfl rfl (rn_len Try.runUnderlying118 rfl rfl) ?_
  obtain ⟨x24, hx24, h⟩ := Option.bind_eq_some_iff.mp h
  refine WO.mk (κ := K14) (E := Ep.bool) (z := (false : Bool)) 5 rfl rfl rfl rfl rfl rfl rfl Try.underlying118 Tryinfo4 rfl rfl rfl rfl rfl (fun _ _ _ => rfl) (mkS_C hx24) fun a24 u24 w18 K19 S20 f21 => ⟨trivial, ?_⟩
  refine WO.pn 1 rfl ?_
  refine WO.fin ?_
  refine DN.seq ?_
  refine WC.seq ?_
  refine WC.seq ?_
  refine WC.rs [(0, 2), (1, 2)] rfl ?_
  refine WO.pn 2 rfl ?_
  refine WO.fin ?_
  refine DN.seq ?_
  revert h
  cases ht22 : decide (x21 < 0) with
  | true =>
   intro h; replace h := cT h
   refine WC.ct rfl ?_
   refine WC.seq ?_
   refine WC.rs [(0, 2), (1, 2)] rfl ?_
   refine WO.pn 2 rfl ?_
   refine WO.fin ?_
   refine DN.seq ?_
   refine WC.ret ?_
   refine DN.retThen ?_
   have f23 := hE.stp (S3.tr (S15.tr S20)) rfl rfl
   refine DN.res (l := [.tmp 4]) Try.results77 (res_tmp rfl rfl) rfl ?_
   obtain rfl := Option.some.inj h
   exact ⟨(fun b => ren [(5, 2)] (K19 b)), a24, u24, rfl, (f23.map (ren [(5, 2)]) rfl rfl), (f21.map (ren [(5, 2)]) rfl rfl)⟩
  | false =>
   intro h; replace h := cF h
   refine WC.cf rfl ?_
   refine WC.skip ?_
   refine DN.seq ?_
   refine WC.seq ?_
   refine WC.rs [(0, 2), (1, 2), (2, 2)] rfl ?_
   refine WO.pn 1 rfl ?_
   refine WO.k2 rfl rfl rfl rfl (rn_rem rfl rfl rfl (by decide)) ?_
   refine WO.pn 1 rfl ?_
   refine WO.fin ?_
   refine DN.seq ?_
   refine WC.seq ?_
   refine WC.rs [(0, 2), (1, 2), (2, 1), (3, 2)] rfl ?_
   refine WO.pn 1 rfl ?_
   refine WO.k2 rfl rfl rfl rfl (rn_len Try.runUnderlying118 rfl rfl) ?_
   obtain ⟨x32, hx32, h⟩ := Option.bind_eq_some_iff.mp h
   refine WO.mk (κ := K19) (E := Ep.bool) (z := (false : Bool)) 6 rfl rfl rfl rfl rfl rfl rfl Try.underlying118 Tryinfo4 rfl rfl rfl rfl rfl (fun _ _ _ => rfl) (mkS_C hx32) fun a32 u32 w24 K25 S26 f27 => ⟨trivial, ?_⟩
   refine WO.pn 1 rfl ?_
   refine WO.fin ?_
   refine DN.seq ?_
   refine WC.seq ?_
   refine WC.seq ?_
   refine WC.rs [(0, 2)] rfl ?_
   refine WO.pn 1 rfl ?_
   refine WO.fin ?_
   refine DN.seq ?_
   have hN28 : (p1.length : Int) ≤ 9223372036854775807 := f10.len_le
   obtain ⟨q2, hq30, hK29⟩ := Option.bind_eq_some_iff.mp h
   clear h
   refine WC.meet (fun L w' => ∃ (κ' : Col) (s3 : (List Bool)), L = [(1, .slice a1 p1.length u1), (2, .pointer (some ⟨b2, 0, none⟩)), (6, .slice a24 x24.length u24), (7, .int .i64 (Int.tmod x21 2)), (8, .slice a32 x32.length u32)] ∧ Stp [6] K25 w24 κ' w' ∧ Oc Ep.bool 4 κ' w' 6 a32 u32 s3 ∧ x32.length = s3.length ∧ q2 = Sum.inr s3) ?_ ?_
   ·
    refine WC.block ?_
    refine WC.loop (fun k L w' => ∃ (κ' : Col) (v9 : Int) (s1 : (List Bool)), L = [(1, .slice a1 p1.length u1), (2, .pointer (some ⟨b2, 0, none⟩)), (5, .int .i64 x21), (6, .slice a24 x24.length u24), (7, .int .i64 (Int.tmod x21 2)), (8, .slice a32 x32.length u32), (9, .int .i64 v9)] ∧ Stp [6] K25 w24 κ' w' ∧ Oc Ep.bool 4 κ' w' 6 a32 u32 s1 ∧ x32.length = s1.length ∧ 0 ≤ v9 ∧ Int.toNat ((p1.length : Int) - v9) = k ∧ cntM (s_l7Win_b0 p0 p1 x21) k v9 s1 = some q2) ⟨_, _, ⟨K25, 0, (x32 : (List Bool)), rfl, (Stp.refl _ _).wk rfl, f27, rfl, (by decide), (by simp), hq30⟩, fun a ha => (ha.more (ha.more (ha.more (ha.more (ha.more (ha.more (ha.more ha.nil rfl) rfl) rfl) rfl) rfl) rfl) rfl)⟩ ?_
    rintro k _ w36 ⟨K37, v9, s1, rfl, S38, f39, hn40, hj28, hJ28, h⟩
    rcases k with _ | k
    ·
     have hk41 := h; obtain ⟨o28, h⟩ := ex_eq (Sum.inr (Sum.inl s1) : (List Bool) ⊕ (((List Bool)) ⊕ ((List Bool))))
     have hc28 : decide (v9 < (p1.length : Int)) = false := decide_eq_false (by omega)
     refine WC.seq ?_
     refine WC.seq ?_
     refine WC.rs [(0, 2), (1, 2), (2, 2), (3, 2)] rfl ?_
     refine WO.pn 2 rfl ?_
     refine WO.k2 rfl rfl rfl rfl (rn_len Try.runUnderlying118 rfl rfl) ?_
     refine WO.pn 1 rfl ?_
     refine WO.fin ?_
     refine DN.seq ?_
     refine WC.cf' rfl hc28 ?_
     refine WC.exit ?_
     refine DN.exitThen ?_
     refine DN.exitThen ?_
     obtain rfl := Option.some.inj h
     have h := hk41
     refine DN.hit ?_
     obtain rfl := Option.some.inj h
     exact DN.meet _ ⟨K37, (s1 : (List Bool)), rfl, S38.wk rfl, f39, hn40, rfl⟩ fun a ha => (ha.more (ha.more (ha.more (ha.more (ha.more ha.nil rfl) rfl) rfl) rfl) rfl)
    ·
     obtain ⟨o28, h, hk41⟩ := Option.bind_eq_some_iff.mp h; unfold s_l7Win_b0 at h
     have hc28 : decide (v9 < (p1.length : Int)) = true := decide_eq_true (by omega)
     refine WC.seq ?_
     refine WC.seq ?_
     refine WC.rs [(0, 2), (1, 2), (2, 2), (3, 2)] rfl ?_
     refine WO.pn 2 rfl ?_
     refine WO.k2 rfl rfl rfl rfl (rn_len Try.runUnderlying118 rfl rfl) ?_
     refine WO.pn 1 rfl ?_
     refine WO.fin ?_
     refine DN.seq ?_
     refine WC.ct' rfl hc28 ?_
     refine WC.skip ?_
     refine DN.seq ?_
     refine WC.seq ?_
     refine WC.block ?_
     refine WC.rs [(0, 2), (1, 2), (2, 2), (3, 2), (4, 2), (5, 1), (6, 2), (7, 2), (8, 1), (9, 2), (10, 2), (11, 1), (12, 2), (13, 2), (14, 2), (15, 2), (16, 1)] rfl ?_
     refine WO.pn 4 rfl ?_
     obtain ⟨x43, hx43, h⟩ := Option.bind_eq_some_iff.mp h
     refine WO.k2 rfl rfl rfl rfl (rn_index f10 hx43 Try.runUnderlying118 Try.sizeOf4 rfl rfl rfl rfl) ?_
     have f42 := f10.stp (S15.tr (S20.tr (S26.tr S38))) rfl rfl
     refine WO.k1 trivial rfl rfl rfl rfl (rn_ld Try.isAgg4 rfl rfl (hvE (f42.gBool hx43))) ?_
     refine WO.pn 1 rfl ?_
     obtain ⟨p53, h, hK43⟩ := Option.bind_eq_some_iff.mp h
     refine WO.meet [(7, 2), (8, 1), (9, 2), (10, 2), (11, 1), (12, 2), (13, 2), (14, 2)] [(15, 2), (16, 1)] (fun L w' => L = [(1, .slice a1 p1.length u1), (2, .pointer (some ⟨b2, 0, none⟩)), (5, .int .i64 x21), (6, .slice a24 x24.length u24), (7, .int .i64 (Int.tmod x21 2)), (8, .slice a32 x32.length u32), (9, .int .i64 v9), (39, .slice a32 x32.length u32), (40, .int .i64 v9), (53, .bool p53)] ∧ ∃ κ', Stp [] K37 w36 κ' w') trivial ?_ ?_
     ·
      revert h
      cases ht44 : x43 with
      | true =>
       intro h; replace h := cT h
       refine WO.k2 rfl rfl rfl rfl (rn_fieldAddr Try.runUnderlying121 rfl Try.sizeOf22 rfl rfl) ?_
       have f45 := f4.stp (S15.tr (S20.tr (S26.tr S38))) rfl rfl
       refine WO.k1 trivial rfl rfl rfl rfl (rn_ld Try.isAgg22 rfl rfl (hvE (f45.ld 1 rfl rfl))) ?_
       refine WO.pn 1 rfl ?_
       obtain ⟨x49, hx49, h⟩ := Option.bind_eq_some_iff.mp h
       refine WO.k2 rfl rfl rfl rfl (rn_index f6 hx49 Try.runUnderlying22 Try.sizeOf2 rfl rfl rfl rfl) ?_
       have f46 := f6.stp (S15.tr (S20.tr (S26.tr S38))) rfl rfl
       refine WO.k1 trivial rfl rfl rfl rfl (rn_ld Try.isAgg2 rfl rfl (hvE (f46.gInt hx49))) ?_
       refine WO.pn 3 rfl ?_
       obtain rfl := Option.some.inj h
       exact WO.met _ trivial ⟨rfl, _, (Stp.refl _ _).wk rfl⟩ fun a ha => (ha.more (ha.more (ha.more (ha.more (ha.more (ha.more (ha.more (ha.more (ha.more (ha.more ha.nil rfl) rfl) rfl) rfl) rfl) rfl) rfl) rfl) rfl) rfl)
      | false =>
       intro h; replace h := cF h
       refine WO.pn 1 rfl ?_
       refine WO.ls rfl rfl rfl rfl ?_
       refine WO.pn 2 rfl ?_
       refine WO.ls rfl rfl rfl rfl ?_
       refine WO.pn 3 rfl ?_
       obtain rfl := Option.some.inj h
       exact WO.met _ trivial ⟨rfl, _, (Stp.refl _ _).wk rfl⟩ fun a ha => (ha.more (ha.more (ha.more (ha.more (ha.more (ha.more (ha.more (ha.more (ha.more (ha.more ha.nil rfl) rfl) rfl) rfl) rfl) rfl) rfl) rfl) rfl) rfl)
     rintro _ w47 _ ⟨rfl, K48, S49⟩
     have h := hK43
     obtain ⟨x54, hx54, h⟩ := Option.bind_eq_some_iff.mp h
     refine WO.k2 rfl rfl rfl rfl (rn_index f39.rdc hx54 Try.runUnderlying118 Try.sizeOf4 rfl rfl hn40 rfl) ?_
     have f50 := f39.stp S49 rfl rfl
     obtain ⟨y14, hy14, h⟩ := Option.bind_eq_some_iff.mp h
     refine WO.stI (κ := K48) (E := Ep.bool) 6 [] rfl rfl rfl rfl rfl rfl rfl rfl Try.sizeOf4 rfl rfl rfl rfl f50 hy14 fun w51 K52 S53 f54 => ⟨trivial, ?_⟩
     have hn55 : x32.length = y14.length := hn40.trans (setI_ok hy14).2.2.2.symm
     refine WO.fin ?_
     refine DN.block ?_
     refine DN.seq ?_
     refine WC.rs [(0, 2), (1, 2), (2, 2)] rfl ?_
     refine WO.pn 3 rfl ?_
     refine WO.fin ?_
     have hw28 : IntKind.wrap .i64 (v9 + 1) = v9 + 1 := wr1 hj28 (of_decide_eq_true hc28) hN28
     rw [hw28]
     have hc28 := of_decide_eq_true hc28
     obtain rfl := Option.some.inj h
     refine DN.round fun a ha => ?_
     exact ⟨k, _, Nat.lt_succ_self _, ⟨K52, v9 + 1, (y14 : (List Bool)), rfl, (S38.tr (S49.tr S53)).wk rfl, f54, hn55, by omega, by omega, hk41⟩, (ha.more (ha.more (ha.more (ha.more (ha.more (ha.more (ha.more ha.nil rfl) rfl) rfl) rfl) rfl) rfl) rfl)⟩
   rintro _ w31 ⟨K32, s3, rfl, S33, f34, hn35, rfl⟩
   have h := hK29
   dsimp only [aft] at h
   refine DN.seq ?_
   refine WC.seq ?_
   refine WC.rs [(0, 2), (1, 1), (2, 2), (3, 2), (4, 2), (5, 1), (6, 1), (7, 2)] rfl ?_
   refine WO.pn 1 rfl ?_
   have f56 := f4.stp (S15.tr (S20.tr (S26.tr S33))) rfl rfl
   refine WO.k1 trivial rfl rfl rfl rfl (rn_la (cs := [.slice a0_0 p0.owner.length u0_0, .slice a0_1 p0.prio.length u0_1, .slice a0_2 p0.next.length u0_2, .slice a0_3 p0.prev.length u0_3, .slice a0_4 p0.pick.length u0_4]) Try.isAgg121 Try.sizeOf121 rfl rfl rfl (haE f56.cells)) ?_
   refine WO.pn 3 rfl ?_
   obtain ⟨x60, hx60, h⟩ := Option.bind_eq_some_iff.mp h
   have f57 := f5.stp (S15.tr (S20.tr (S26.tr S33))) rfl rfl
   have f58 := f6.stp (S15.tr (S20.tr (S26.tr S33))) rfl rfl
   have f59 := f7.stp (S15.tr (S20.tr (S26.tr S33))) rfl rfl
   have f60 := f8.stp (S15.tr (S20.tr (S26.tr S33))) rfl rfl
   have f61 := f9.stp (S15.tr (S20.tr (S26.tr S33))) rfl rfl
   have f62 := f10.stp (S15.tr (S20.tr (S26.tr S33))) rfl rfl
   refine WO.call rfl rfl rfl rfl rfl rfl Try.call118 (Ret.cast (by simp only [hn35, List.cons_append, List.nil_append]) (s_l7Attract_ok (κ := fun b => mp [] 0 (K32 b)) (p0 := p0) (Sl.map f57 (mp [] 0) rfl rfl) (Sl.map f58 (mp [] 0) rfl rfl) (Sl.map f59 (mp [] 0) rfl rfl) (Sl.map f60 (mp [] 0) rfl rfl) (Sl.map f61 (mp [] 0) rfl rfl) (Sl.map f62 (mp [] 0) rfl rfl) (Sl.map f34.rdc (mp [] 0) rfl rfl) hx60)) ?_
   rintro _ w63 ⟨k64, a60_0, u60_0, rfl, e65, f66⟩
   obtain ⟨K67, S68, m69⟩ := Ent.mixed (l := []) (κ := K32) e65 7 rfl
   refine ⟨trivial, ?_⟩
   have f71 := f66.mx no_bool m69 rfl (rfl : 7 + 2 = 9)
   obtain ⟨x61, hx61, h⟩ := Option.bind_eq_some_iff.mp h
   have f72 := f62.stp S68 rfl rfl
   refine WO.call rfl rfl rfl rfl rfl rfl Try.call117 (s_l7Less_ok (κ := fun b => mp [] 0 (K67 b)) (Sl.map f72 (mp [] 0) rfl rfl) (Sl.map f71.rdc (mp [] 0) rfl rfl) hx61) ?_
   rintro _ w73 ⟨k74, a61_0, u61_0, rfl, e75, f76⟩
   obtain ⟨K77, S78, m79⟩ := Ent.mixed (l := []) (κ := K67) e75 10 rfl
   refine ⟨trivial, ?_⟩
   have f81 := f76.mx no_bool m79 rfl (rfl : 10 + 2 = 12)
   refine WO.pn 1 rfl ?_
   refine WO.fin ?_
   refine DN.seq ?_
   refine WC.seq ?_
   refine WC.rs [(0, 1), (1, 2), (2, 1), (3, 2)] rfl ?_
   have f82 := f56.stp (S68.tr S78) rfl rfl
   refine WO.k1 trivial rfl rfl rfl rfl (rn_la (cs := [.slice a0_0 p0.owner.length u0_0, .slice a0_1 p0.prio.length u0_1, .slice a0_2 p0.next.length u0_2, .slice a0_3 p0.prev.length u0_3, .slice a0_4 p0.pick.length u0_4]) Try.isAgg121 Try.sizeOf121 rfl rfl rfl (haE f82.cells)) ?_
   refine WO.pn 1 rfl ?_
   obtain ⟨x64, hx64, h⟩ := Option.bind_eq_some_iff.mp h
   have f83 := f57.stp (S68.tr S78) rfl rfl
   have f84 := f58.stp (S68.tr S78) rfl rfl
   have f85 := f59.stp (S68.tr S78) rfl rfl
   have f86 := f60.stp (S68.tr S78) rfl rfl
   have f87 := f61.stp (S68.tr S78) rfl rfl
   refine WO.call rfl rfl rfl rfl rfl rfl Try.call77 (ih (κ := fun b => mp [] 0 (K77 b)) (p0 := p0) (Sl.map f83 (mp [] 0) rfl rfl) (Sl.map f84 (mp [] 0) rfl rfl) (Sl.map f85 (mp [] 0) rfl rfl) (Sl.map f86 (mp [] 0) rfl rfl) (Sl.map f87 (mp [] 0) rfl rfl) (Sl.map f81.rdc (mp [] 0) rfl rfl) hx64) ?_
   rintro _ w88 ⟨k89, a64_0, u64_0, rfl, e90, f91⟩
   obtain ⟨K92, S93, m94⟩ := Ent.mixed (l := []) (κ := K77) e90 13 rfl
   refine ⟨trivial, ?_⟩
   have f96 := f91.mx no_bool m94 rfl (rfl : 13 + 2 = 15)
   refine WO.pn 1 rfl ?_
   refine WO.fin ?_
   refine DN.seq ?_
   refine WC.seq ?_
   refine WC.rs [(0, 2), (1, 2), (2, 1), (3, 2)] rfl ?_
   refine WO.pn 1 rfl ?_
   refine WO.k2 rfl rfl rfl rfl (rn_len Try.runUnderlying118 rfl rfl) ?_
   obtain ⟨x67, hx67, h⟩ := Option.bind_eq_some_iff.mp h
   refine WO.mk (κ := K92) (E := Ep.bool) (z := (false : Bool)) 16 rfl rfl rfl rfl rfl rfl rfl Try.underlying118 Tryinfo4 rfl rfl rfl rfl rfl (fun _ _ _ => rfl) (mkS_C hx67) fun a67 u67 w97 K98 S99 f100 => ⟨trivial, ?_⟩
   refine WO.pn 1 rfl ?_
   refine WO.fin ?_
   refine DN.seq ?_
   refine WC.seq ?_
   refine WC.rs [(0, 2)] rfl ?_
   refine WO.pn 1 rfl ?_
   refine WO.fin ?_
   refine DN.seq ?_
   refine WC.seq ?_
   refine WC.seq ?_
   refine WC.rs [(0, 2)] rfl ?_
   refine WO.pn 1 rfl ?_
   refine WO.fin ?_
   refine DN.seq ?_
   have hN101 : (p1.length : Int) ≤ 9223372036854775807 := f72.len_le
   obtain ⟨q5, hq103, hK102⟩ := Option.bind_eq_some_iff.mp h
   clear h
   refine WC.meet (fun L w' => ∃ (κ' : Col) (s6 : Bool × (List Bool)), L = [(1, .slice a1 p1.length u1), (2, .pointer (some ⟨b2, 0, none⟩)), (6, .slice a24 x24.length u24), (7, .int .i64 (Int.tmod x21 2)), (12, .slice a67 x67.length u67), (13, .bool s6.1)] ∧ Stp [16] K98 w97 κ' w' ∧ Oc Ep.bool 4 κ' w' 16 a67 u67 s6.2 ∧ x67.length = s6.2.length ∧ q5 = Sum.inr s6) ?_ ?_
   ·
    refine WC.block ?_
    refine WC.loop (fun k L w' => ∃ (κ' : Col) (v14 : Int) (s4 : Bool × (List Bool)), L = [(1, .slice a1 p1.length u1), (2, .pointer (some ⟨b2, 0, none⟩)), (6, .slice a24 x24.length u24), (7, .int .i64 (Int.tmod x21 2)), (10, .slice a61_0 x61.length u61_0), (11, .slice a64_0 x64.length u64_0), (12, .slice a67 x67.length u67), (13, .bool s4.1), (14, .int .i64 v14)] ∧ Stp [16] K98 w97 κ' w' ∧ Oc Ep.bool 4 κ' w' 16 a67 u67 s4.2 ∧ x67.length = s4.2.length ∧ 0 ≤ v14 ∧ Int.toNat ((p1.length : Int) - v14) = k ∧ cntM (s_l7Win_b2 x21 x61 x64) k v14 s4 = some q5) ⟨_, _, ⟨K98, 0, ((false : Bool), (x67 : (List Bool))), rfl, (Stp.refl _ _).wk rfl, f100, rfl, (by decide), (by simp), hq103⟩, fun a ha => (ha.more (ha.more (ha.more (ha.more (ha.more (ha.more (ha.more (ha.more (ha.more ha.nil rfl) rfl) rfl) rfl) rfl) rfl) rfl) rfl) rfl)⟩ ?_
    rintro k _ w109 ⟨K110, v14, s4, rfl, S111, f112, hn113, hj101, hJ101, h⟩
    rcases k with _ | k
    ·
     have hk114 := h; obtain ⟨o101, h⟩ := ex_eq (Sum.inr (Sum.inl s4) : (List Bool) ⊕ ((Bool × (List Bool)) ⊕ (Bool × (List Bool))))
     have hc101 : decide (v14 < (p1.length : Int)) = false := decide_eq_false (by omega)
     refine WC.seq ?_
     refine WC.seq ?_
     refine WC.rs [(0, 2), (1, 2), (2, 2), (3, 2)] rfl ?_
     refine WO.pn 2 rfl ?_
     refine WO.k2 rfl rfl rfl rfl (rn_len Try.runUnderlying118 rfl rfl) ?_
     refine WO.pn 1 rfl ?_
     refine WO.fin ?_
     refine DN.seq ?_
     refine WC.cf' rfl hc101 ?_
     refine WC.exit ?_
     refine DN.exitThen ?_
     refine DN.exitThen ?_
     obtain rfl := Option.some.inj h
     have h := hk114
     refine DN.hit ?_
     obtain rfl := Option.some.inj h
     exact DN.meet _ ⟨K110, ((s4.1 : Bool), (s4.2 : (List Bool))), rfl, S111.wk rfl, f112, hn113, rfl⟩ fun a ha => (ha.more (ha.more (ha.more (ha.more (ha.more (ha.more ha.nil rfl) rfl) rfl) rfl) rfl) rfl)
    ·
     obtain ⟨o101, h, hk114⟩ := Option.bind_eq_some_iff.mp h; unfold s_l7Win_b2 at h
     have hc101 : decide (v14 < (p1.length : Int)) = true := decide_eq_true (by omega)
     refine WC.seq ?_
     refine WC.seq ?_
     refine WC.rs [(0, 2), (1, 2), (2, 2), (3, 2)] rfl ?_
     refine WO.pn 2 rfl ?_
     refine WO.k2 rfl rfl rfl rfl (rn_len Try.runUnderlying118 rfl rfl) ?_
     refine WO.pn 1 rfl ?_
     refine WO.fin ?_
     refine DN.seq ?_
     refine WC.ct' rfl hc101 ?_
     refine WC.skip ?_
     refine DN.seq ?_
     refine WC.seq ?_
     refine WC.block ?_
     refine WC.seq ?_
     refine WC.rs [(0, 2), (1, 2), (2, 2), (3, 2), (4, 2), (5, 1), (6, 2), (7, 2), (8, 2), (9, 2), (10, 1), (11, 2), (12, 2), (13, 2), (14, 2), (15, 2), (16, 1)] rfl ?_
     refine WO.pn 4 rfl ?_
     obtain ⟨x78, hx78, h⟩ := Option.bind_eq_some_iff.mp h
     refine WO.k2 rfl rfl rfl rfl (rn_index f81.rdc hx78 Try.runUnderlying118 Try.sizeOf4 rfl rfl rfl rfl) ?_
     have f115 := f81.stp (S93.tr (S99.tr S111)) rfl rfl
     refine WO.k1 trivial rfl rfl rfl rfl (rn_ld Try.isAgg4 rfl rfl (hvE (f115.rdc.gBool hx78))) ?_
     refine WO.pn 1 rfl ?_
     obtain ⟨p88, h, hK116⟩ := Option.bind_eq_some_iff.mp h
     refine WO.meet [(7, 2), (8, 2), (9, 2), (10, 1), (11, 2), (12, 2), (13, 2), (14, 2)] [(15, 2), (16, 1)] (fun L w' => L = [(1, .slice a1 p1.length u1), (2, .pointer (some ⟨b2, 0, none⟩)), (6, .slice a24 x24.length u24), (7, .int .i64 (Int.tmod x21 2)), (10, .slice a61_0 x61.length u61_0), (11, .slice a64_0 x64.length u64_0), (12, .slice a67 x67.length u67), (13, .bool s4.1), (14, .int .i64 v14), (74, .slice a67 x67.length u67), (75, .int .i64 v14), (88, .bool p88)] ∧ ∃ κ', Stp [] K110 w109 κ' w') trivial ?_ ?_
     ·
      revert h
      cases ht117 : x78 with
      | true =>
       intro h; replace h := cT h
       refine WO.pn 2 rfl ?_
       obtain ⟨x83, hx83, h⟩ := Option.bind_eq_some_iff.mp h
       refine WO.k2 rfl rfl rfl rfl (rn_index f96.rdc hx83 Try.runUnderlying118 Try.sizeOf4 rfl rfl rfl rfl) ?_
       have f118 := f96.stp (S99.tr S111) rfl rfl
       refine WO.k1 trivial rfl rfl rfl rfl (rn_ld Try.isAgg4 rfl rfl (hvE (f118.rdc.gBool hx83))) ?_
       refine WO.pn 2 rfl ?_
       refine WO.k2 rfl rfl rfl rfl (rn_neqB rfl rfl Try.runUnderlying4 rfl) ?_
       refine WO.pn 1 rfl ?_
       obtain rfl := Option.some.inj h
       exact WO.met _ trivial ⟨rfl, _, (Stp.refl _ _).wk rfl⟩ fun a ha => (ha.more (ha.more (ha.more (ha.more (ha.more (ha.more (ha.more (ha.more (ha.more (ha.more (ha.more (ha.more ha.nil rfl) rfl) rfl) rfl) rfl) rfl) rfl) rfl) rfl) rfl) rfl) rfl)
      | false =>
       intro h; replace h := cF h
       refine WO.pn 3 rfl ?_
       refine WO.ls rfl rfl rfl rfl ?_
       refine WO.pn 4 rfl ?_
       obtain rfl := Option.some.inj h
       exact WO.met _ trivial ⟨rfl, _, (Stp.refl _ _).wk rfl⟩ fun a ha => (ha.more (ha.more (ha.more (ha.more (ha.more (ha.more (ha.more (ha.more (ha.more (ha.more (ha.more (ha.more ha.nil rfl) rfl) rfl) rfl) rfl) rfl) rfl) rfl) rfl) rfl) rfl) rfl)
     rintro _ w119 _ ⟨rfl, K120, S121⟩
     have h := hK116
     obtain ⟨x89, hx89, h⟩ := Option.bind_eq_some_iff.mp h
     refine WO.k2 rfl rfl rfl rfl (rn_index f112.rdc hx89 Try.runUnderlying118 Try.sizeOf4 rfl rfl hn113 rfl) ?_
     have f122 := f112.stp S121 rfl rfl
     obtain ⟨y27, hy27, h⟩ := Option.bind_eq_some_iff.mp h
     refine WO.stI (κ := K120) (E := Ep.bool) 16 [] rfl rfl rfl rfl rfl rfl rfl rfl Try.sizeOf4 rfl rfl rfl rfl f122 hy27 fun w123 K124 S125 f126 => ⟨trivial, ?_⟩
     have hn127 : x67.length = y27.length := hn113.trans (setI_ok hy27).2.2.2.symm
     refine WO.fin ?_
     refine DN.seq ?_
     refine WC.rs [(0, 2), (1, 2), (2, 2), (3, 2), (4, 2), (5, 1), (6, 2), (7, 2)] rfl ?_
     refine WO.pn 2 rfl ?_
     obtain ⟨p96, h, hK128⟩ := Option.bind_eq_some_iff.mp h
     refine WO.meet [(2, 2), (3, 2), (4, 2), (5, 1), (6, 2)] [(7, 2)] (fun L w' => L = [(1, .slice a1 p1.length u1), (2, .pointer (some ⟨b2, 0, none⟩)), (6, .slice a24 x24.length u24), (7, .int .i64 (Int.tmod x21 2)), (10, .slice a61_0 x61.length u61_0), (11, .slice a64_0 x64.length u64_0), (12, .slice a67 x67.length u67), (13, .bool s4.1), (14, .int .i64 v14), (96, .bool p96)] ∧ ∃ κ', Stp [] K124 w123 κ' w') trivial ?_ ?_
     ·
      revert h
      cases ht129 : s4.1 with
      | true =>
       intro h; replace h := cT h
       refine WO.pn 3 rfl ?_
       refine WO.ls rfl rfl rfl rfl ?_
       refine WO.pn 1 rfl ?_
       obtain rfl := Option.some.inj h
       exact WO.met _ trivial ⟨rfl, _, (Stp.refl _ _).wk rfl⟩ fun a ha => (ha.more (ha.more (ha.more (ha.more (ha.more (ha.more (ha.more (ha.more (ha.more (ha.more ha.nil rfl) rfl) rfl) rfl) rfl) rfl) rfl) rfl) rfl) rfl)
      | false =>
       intro h; replace h := cF h
       refine WO.pn 2 rfl ?_
       obtain ⟨x94, hx94, h⟩ := Option.bind_eq_some_iff.mp h
       refine WO.k2 rfl rfl rfl rfl (rn_index f126.rdc hx94 Try.runUnderlying118 Try.sizeOf4 rfl rfl hn127 rfl) ?_
       refine WO.k1 trivial rfl rfl rfl rfl (rn_ld Try.isAgg4 rfl rfl (hvE (f126.rdc.gBool hx94))) ?_
       refine WO.pn 1 rfl ?_
       obtain rfl := Option.some.inj h
       exact WO.met _ trivial ⟨rfl, _, (Stp.refl _ _).wk rfl⟩ fun a ha => (ha.more (ha.more (ha.more (ha.more (ha.more (ha.more (ha.more (ha.more (ha.more (ha.more ha.nil rfl) rfl) rfl) rfl) rfl) rfl) rfl) rfl) rfl) rfl)
     rintro _ w130 _ ⟨rfl, K131, S132⟩
     have h := hK128
     refine WO.pn 1 rfl ?_
     refine WO.fin ?_
     refine DN.block ?_
     refine DN.seq ?_
     refine WC.rs [(0, 2), (1, 2), (2, 2)] rfl ?_
     refine WO.pn 3 rfl ?_
     refine WO.fin ?_
     have hw101 : IntKind.wrap .i64 (v14 + 1) = v14 + 1 := wr1 hj101 (of_decide_eq_true hc101) hN101
     rw [hw101]
     have hc101 := of_decide_eq_true hc101
     have f133 := f126.stp S132 rfl rfl
     obtain rfl := Option.some.inj h
     refine DN.round fun a ha => ?_
     exact ⟨k, _, Nat.lt_succ_self _, ⟨K131, v14 + 1, ((p96 : Bool), (y27 : (List Bool))), rfl, (S111.tr (S121.tr (S125.tr S132))).wk rfl, f133, hn127, by omega, by omega, hk114⟩, (ha.more (ha.more (ha.more (ha.more (ha.more (ha.more (ha.more (ha.more (ha.more ha.nil rfl) rfl) rfl) rfl) rfl) rfl) rfl) rfl) rfl)⟩
   rintro _ w104 ⟨K105, s6, rfl, S106, f107, hn108, rfl⟩
   have h := hK102
   dsimp only [aft] at h
   refine DN.seq ?_
   refine WC.seq ?_
   refine WC.seq ?_
   refine WC.rs [(0, 2), (1, 2)] rfl ?_
   refine WO.pn 2 rfl ?_
   refine WO.fin ?_
   refine DN.seq ?_
   revert h
   cases ht134 : (!s6.1) with
   | true =>
    intro h; replace h := cT h
    refine WC.ct rfl ?_
    refine WC.seq ?_
    refine WC.seq ?_
    refine WC.rs [(0, 2)] rfl ?_
    refine WO.pn 1 rfl ?_
    refine WO.fin ?_
    refine DN.seq ?_
    have hN135 : (p1.length : Int) ≤ 9223372036854775807 := f72.len_le
    obtain ⟨q8, hq137, hK136⟩ := Option.bind_eq_some_iff.mp h
    clear h
    refine WC.meet (fun L w' => ∃ (κ' : Col) (s9 : (List Bool)), L = [(6, .slice a24 x24.length u24)] ∧ Stp [5] K105 w104 κ' w' ∧ Oc Ep.bool 4 κ' w' 5 a24 u24 s9 ∧ x24.length = s9.length ∧ q8 = Sum.inr s9) ?_ ?_
    ·
     refine WC.block ?_
     have f148 := f21.stp (S26.tr (S33.tr (S68.tr (S78.tr (S93.tr (S99.tr S106)))))) rfl rfl
     refine WC.loop (fun k L w' => ∃ (κ' : Col) (v15 : Int) (s7 : (List Bool)), L = [(1, .slice a1 p1.length u1), (6, .slice a24 x24.length u24), (7, .int .i64 (Int.tmod x21 2)), (15, .int .i64 v15)] ∧ Stp [5] K105 w104 κ' w' ∧ Oc Ep.bool 4 κ' w' 5 a24 u24 s7 ∧ x24.length = s7.length ∧ 0 ≤ v15 ∧ Int.toNat ((p1.length : Int) - v15) = k ∧ cntM (s_l7Win_b4 p1 x21) k v15 s7 = some q8) ⟨_, _, ⟨K105, 0, (x24 : (List Bool)), rfl, (Stp.refl _ _).wk rfl, f148, rfl, (by decide), (by simp), hq137⟩, fun a ha => (ha.more (ha.more (ha.more (ha.more ha.nil rfl) rfl) rfl) rfl)⟩ ?_
     rintro k _ w143 ⟨K144, v15, s7, rfl, S145, f146, hn147, hj135, hJ135, h⟩
     rcases k with _ | k
     ·
      have hk149 := h; obtain ⟨o135, h⟩ := ex_eq (Sum.inr (Sum.inl s7) : (List Bool) ⊕ (((List Bool)) ⊕ ((List Bool))))
      have hc135 : decide (v15 < (p1.length : Int)) = false := decide_eq_false (by omega)
      refine WC.seq ?_
      refine WC.seq ?_
      refine WC.rs [(0, 2), (1, 2), (2, 2), (3, 2)] rfl ?_
      refine WO.pn 2 rfl ?_
      refine WO.k2 rfl rfl rfl rfl (rn_len Try.runUnderlying118 rfl rfl) ?_
      refine WO.pn 1 rfl ?_
      refine WO.fin ?_
      refine DN.seq ?_
      refine WC.cf' rfl hc135 ?_
      refine WC.exit ?_
      refine DN.exitThen ?_
      refine DN.exitThen ?_
      obtain rfl := Option.some.inj h
      have h := hk149
      refine DN.hit ?_
      obtain rfl := Option.some.inj h
      exact DN.meet _ ⟨K144, (s7 : (List Bool)), rfl, S145.wk rfl, f146, hn147, rfl⟩ fun a ha => (ha.more ha.nil rfl)
     ·
      obtain ⟨o135, h, hk149⟩ := Option.bind_eq_some_iff.mp h; unfold s_l7Win_b4 at h
      have hc135 : decide (v15 < (p1.length : Int)) = true := decide_eq_true (by omega)
      refine WC.seq ?_
      refine WC.seq ?_
      refine WC.rs [(0, 2), (1, 2), (2, 2), (3, 2)] rfl ?_
      refine WO.pn 2 rfl ?_
      refine WO.k2 rfl rfl rfl rfl (rn_len Try.runUnderlying118 rfl rfl) ?_
      refine WO.pn 1 rfl ?_
      refine WO.fin ?_
      refine DN.seq ?_
      refine WC.ct' rfl hc135 ?_
      refine WC.skip ?_
      refine DN.seq ?_
      refine WC.seq ?_
      refine WC.block ?_
      refine WC.rs [(0, 2), (1, 2), (2, 2), (3, 2), (4, 2), (5, 1), (6, 2), (7, 2), (8, 2), (9, 2), (10, 2), (11, 1)] rfl ?_
      refine WO.pn 4 rfl ?_
      obtain ⟨x109, hx109, h⟩ := Option.bind_eq_some_iff.mp h
      refine WO.k2 rfl rfl rfl rfl (rn_index f72 hx109 Try.runUnderlying118 Try.sizeOf4 rfl rfl rfl rfl) ?_
      have f150 := f72.stp (S78.tr (S93.tr (S99.tr (S106.tr S145)))) rfl rfl
      refine WO.k1 trivial rfl rfl rfl rfl (rn_ld Try.isAgg4 rfl rfl (hvE (f150.gBool hx109))) ?_
      refine WO.pn 1 rfl ?_
      obtain ⟨p114, h, hK151⟩ := Option.bind_eq_some_iff.mp h
      refine WO.meet [(7, 2), (8, 2), (9, 2)] [(10, 2), (11, 1)] (fun L w' => L = [(1, .slice a1 p1.length u1), (6, .slice a24 x24.length u24), (7, .int .i64 (Int.tmod x21 2)), (15, .int .i64 v15), (105, .slice a24 x24.length u24), (106, .int .i64 v15), (114, .bool p114)] ∧ ∃ κ', Stp [] K144 w143 κ' w') trivial ?_ ?_
      ·
       revert h
       cases ht152 : x109 with
       | true =>
        intro h; replace h := cT h
        refine WO.pn 3 rfl ?_
        obtain rfl := Option.some.inj h
        exact WO.met _ trivial ⟨rfl, _, (Stp.refl _ _).wk rfl⟩ fun a ha => (ha.more (ha.more (ha.more (ha.more (ha.more (ha.more (ha.more ha.nil rfl) rfl) rfl) rfl) rfl) rfl) rfl)
       | false =>
        intro h; replace h := cF h
        refine WO.pn 3 rfl ?_
        obtain rfl := Option.some.inj h
        exact WO.met _ trivial ⟨rfl, _, (Stp.refl _ _).wk rfl⟩ fun a ha => (ha.more (ha.more (ha.more (ha.more (ha.more (ha.more (ha.more ha.nil rfl) rfl) rfl) rfl) rfl) rfl) rfl)
      rintro _ w153 _ ⟨rfl, K154, S155⟩
      have h := hK151
      obtain ⟨x115, hx115, h⟩ := Option.bind_eq_some_iff.mp h
      refine WO.k2 rfl rfl rfl rfl (rn_index f146.rdc hx115 Try.runUnderlying118 Try.sizeOf4 rfl rfl hn147 rfl) ?_
      have f156 := f146.stp S155 rfl rfl
      obtain ⟨y28, hy28, h⟩ := Option.bind_eq_some_iff.mp h
      refine WO.stI (κ := K154) (E := Ep.bool) 5 [] rfl rfl rfl rfl rfl rfl rfl rfl Try.sizeOf4 rfl rfl rfl rfl f156 hy28 fun w157 K158 S159 f160 => ⟨trivial, ?_⟩
      have hn161 : x24.length = y28.length := hn147.trans (setI_ok hy28).2.2.2.symm
      refine WO.fin ?_
      refine DN.block ?_
      refine DN.seq ?_
      refine WC.rs [(0, 2), (1, 2), (2, 2)] rfl ?_
      refine WO.pn 3 rfl ?_
      refine WO.fin ?_
      have hw135 : IntKind.wrap .i64 (v15 + 1) = v15 + 1 := wr1 hj135 (of_decide_eq_true hc135) hN135
      rw [hw135]
      have hc135 := of_decide_eq_true hc135
      obtain rfl := Option.some.inj h
      refine DN.round fun a ha => ?_
      exact ⟨k, _, Nat.lt_succ_self _, ⟨K158, v15 + 1, (y28 : (List Bool)), rfl, (S145.tr (S155.tr S159)).wk rfl, f160, hn161, by omega, by omega, hk149⟩, (ha.more (ha.more (ha.more (ha.more ha.nil rfl) rfl) rfl) rfl)⟩
    rintro _ w138 ⟨K139, s9, rfl, S140, f141, hn142, rfl⟩
    have h := hK136
    dsimp only [aft] at h
    refine DN.seq ?_
    refine WC.seq ?_
    refine WC.rs [(0, 2), (1, 2)] rfl ?_
    refine WO.pn 2 rfl ?_
    refine WO.fin ?_
    refine DN.seq ?_
    refine WC.ret ?_
    refine DN.retThen ?_
    have f162 := hE.stp (S3.tr (S15.tr (S20.tr (S26.tr (S33.tr (S68.tr (S78.tr (S93.tr (S99.tr (S106.tr S140)))))))))) rfl rfl
    refine DN.res (l := [.tmp 4]) Try.results77 (res_tmp rfl rfl) rfl ?_
    obtain rfl := Option.some.inj h
    exact ⟨(fun b => ren [(5, 2)] (K139 b)), a24, u24, (by simp only [hn142]), (f162.map (ren [(5, 2)]) rfl rfl), (f141.map (ren [(5, 2)]) rfl rfl)⟩
   | false =>
    intro h; replace h := cF h
    refine WC.cf rfl ?_
    refine WC.skip ?_
    refine DN.seq ?_
    refine WC.seq ?_
    refine WC.rs [(0, 1), (1, 2), (2, 2), (3, 2), (4, 2), (5, 1), (6, 2)] rfl ?_
    have f163 := f82.stp (S93.tr (S99.tr S106)) rfl rfl
    refine WO.k1 trivial rfl rfl rfl rfl (rn_la (cs := [.slice a0_0 p0.owner.length u0_0, .slice a0_1 p0.prio.length u0_1, .slice a0_2 p0.next.length u0_2, .slice a0_3 p0.prev.length u0_3, .slice a0_4 p0.pick.length u0_4]) Try.isAgg121 Try.sizeOf121 rfl rfl rfl (haE f163.cells)) ?_
    refine WO.pn 4 rfl ?_
    obtain ⟨x122, hx122, h⟩ := Option.bind_eq_some_iff.mp h
    have f164 := f83.stp (S93.tr (S99.tr S106)) rfl rfl
    have f165 := f84.stp (S93.tr (S99.tr S106)) rfl rfl
    have f166 := f85.stp (S93.tr (S99.tr S106)) rfl rfl
    have f167 := f86.stp (S93.tr (S99.tr S106)) rfl rfl
    have f168 := f87.stp (S93.tr (S99.tr S106)) rfl rfl
    have f169 := f72.stp (S78.tr (S93.tr (S99.tr S106))) rfl rfl
    refine WO.call rfl rfl rfl rfl rfl rfl Try.call118 (Ret.cast (by simp only [hn108, List.cons_append, List.nil_append]) (s_l7Attract_ok (κ := fun b => mp [] 0 (K105 b)) (p0 := p0) (Sl.map f164 (mp [] 0) rfl rfl) (Sl.map f165 (mp [] 0) rfl rfl) (Sl.map f166 (mp [] 0) rfl rfl) (Sl.map f167 (mp [] 0) rfl rfl) (Sl.map f168 (mp [] 0) rfl rfl) (Sl.map f169 (mp [] 0) rfl rfl) (Sl.map f107.rdc (mp [] 0) rfl rfl) hx122)) ?_
    rintro _ w170 ⟨k171, a122_0, u122_0, rfl, e172, f173⟩
    obtain ⟨K174, S175, m176⟩ := Ent.mixed (l := []) (κ := K105) e172 17 rfl
    refine ⟨trivial, ?_⟩
    have f178 := f173.mx no_bool m176 rfl (rfl : 17 + 2 = 19)
    refine WO.pn 1 rfl ?_
    refine WO.fin ?_
    refine DN.seq ?_
    refine WC.seq ?_
    refine WC.rx (κ := K174) [2] none [(1, 2), (2, 2), (0, 0), (3, 1), (4, 1), (5, 2)] [] (by kernel_rfl) (by kernel_rfl) fun w180 S179 => ?_
    refine WO.pn 2 rfl ?_
    have f181 := f163.stp (S175.tr S179) rfl rfl
    refine WO.k0 rfl rfl rfl rfl (rn_la (cs := [.slice a0_0 p0.owner.length u0_0, .slice a0_1 p0.prio.length u0_1, .slice a0_2 p0.next.length u0_2, .slice a0_3 p0.prev.length u0_3, .slice a0_4 p0.pick.length u0_4]) Try.isAgg121 Try.sizeOf121 rfl rfl rfl (haC f181.cells rfl)) ?_
    obtain ⟨x126, hx126, h⟩ := Option.bind_eq_some_iff.mp h
    have f182 := f169.stp (S175.tr S179) rfl rfl
    have f183 := f178.stp S179 rfl rfl
    refine WO.call rfl rfl rfl rfl rfl rfl Try.call117 (s_l7Less_ok (κ := fun b => mp [] 0 (K174 b)) (Sl.map f182 (mp [] 0) rfl rfl) (Sl.map f183.rdc (mp [] 0) rfl rfl) hx126) ?_
    rintro _ w184 ⟨k185, a126_0, u126_0, rfl, e186, f187⟩
    obtain ⟨K188, S189, m190⟩ := Ent.mixed (l := []) (κ := K174) e186 20 rfl
    refine ⟨(S189.cl rfl), ?_⟩
    have f192 := f187.mx no_bool m190 rfl (rfl : 20 + 2 = 22)
    obtain ⟨x127, hx127, h⟩ := Option.bind_eq_some_iff.mp h
    have f193 := f164.stp (S175.tr (S179.tr S189)) rfl rfl
    have f194 := f165.stp (S175.tr (S179.tr S189)) rfl rfl
    have f195 := f166.stp (S175.tr (S179.tr S189)) rfl rfl
    have f196 := f167.stp (S175.tr (S179.tr S189)) rfl rfl
    have f197 := f168.stp (S175.tr (S179.tr S189)) rfl rfl
    refine WO.call rfl rfl rfl rfl rfl rfl Try.call77 (ih (κ := fun b => mp [] 0 (K188 b)) (p0 := p0) (Sl.map f193 (mp [] 0) rfl rfl) (Sl.map f194 (mp [] 0) rfl rfl) (Sl.map f195 (mp [] 0) rfl rfl) (Sl.map f196 (mp [] 0) rfl rfl) (Sl.map f197 (mp [] 0) rfl rfl) (Sl.map f192.rdc (mp [] 0) rfl rfl) hx127) ?_
    rintro _ w198 ⟨k199, a127_0, u127_0, rfl, e200, f201⟩
    obtain ⟨K202, S203, m204⟩ := Ent.mixed (l := []) (κ := K188) e200 23 rfl
    refine ⟨((S189.tr S203).cl rfl), ?_⟩
    have f206 := f201.mx no_bool m204 rfl (rfl : 23 + 2 = 25)
    refine WO.pn 1 rfl ?_
    refine WO.nx ?_
    refine WO.fin ?_
    refine DN.seq ?_
    refine WC.seq ?_
    refine WC.seq ?_
    refine WC.rs [(0, 2)] rfl ?_
    refine WO.pn 1 rfl ?_
    refine WO.fin ?_
    refine DN.seq ?_
    have hN207 : (p1.length : Int) ≤ 9223372036854775807 := f182.len_le
    obtain ⟨q11, hq209, hK208⟩ := Option.bind_eq_some_iff.mp h
    clear h
    refine WC.meet (fun L w' => ∃ (κ' : Col) (s12 : (List Bool)), L = [(6, .slice a24 x24.length u24)] ∧ Stp [5] K202 w198 κ' w' ∧ Oc Ep.bool 4 κ' w' 5 a24 u24 s12 ∧ x24.length = s12.length ∧ q11 = Sum.inr s12) ?_ ?_
    ·
     refine WC.block ?_
     have f220 := f21.stp (S26.tr (S33.tr (S68.tr (S78.tr (S93.tr (S99.tr (S106.tr (S175.tr (S179.tr (S189.tr S203)))))))))) rfl rfl
     refine WC.loop (fun k L w' => ∃ (κ' : Col) (v18 : Int) (s10 : (List Bool)), L = [(1, .slice a1 p1.length u1), (6, .slice a24 x24.length u24), (7, .int .i64 (Int.tmod x21 2)), (16, .slice a122_0 x122.length u122_0), (17, .slice a127_0 x127.length u127_0), (18, .int .i64 v18)] ∧ Stp [5] K202 w198 κ' w' ∧ Oc Ep.bool 4 κ' w' 5 a24 u24 s10 ∧ x24.length = s10.length ∧ 0 ≤ v18 ∧ Int.toNat ((p1.length : Int) - v18) = k ∧ cntM (s_l7Win_b6 x21 x122 x127) k v18 s10 = some q11) ⟨_, _, ⟨K202, 0, (x24 : (List Bool)), rfl, (Stp.refl _ _).wk rfl, f220, rfl, (by decide), (by simp), hq209⟩, fun a ha => (ha.more (ha.more (ha.more (ha.more (ha.more (ha.more ha.nil rfl) rfl) rfl) rfl) rfl) rfl)⟩ ?_
     rintro k _ w215 ⟨K216, v18, s10, rfl, S217, f218, hn219, hj207, hJ207, h⟩
     rcases k with _ | k
     ·
      have hk221 := h; obtain ⟨o207, h⟩ := ex_eq (Sum.inr (Sum.inl s10) : (List Bool) ⊕ (((List Bool)) ⊕ ((List Bool))))
      have hc207 : decide (v18 < (p1.length : Int)) = false := decide_eq_false (by omega)
      refine WC.seq ?_
      refine WC.seq ?_
      refine WC.rs [(0, 2), (1, 2), (2, 2), (3, 2)] rfl ?_
      refine WO.pn 2 rfl ?_
      refine WO.k2 rfl rfl rfl rfl (rn_len Try.runUnderlying118 rfl rfl) ?_
      refine WO.pn 1 rfl ?_
      refine WO.fin ?_
      refine DN.seq ?_
      refine WC.cf' rfl hc207 ?_
      refine WC.exit ?_
      refine DN.exitThen ?_
      refine DN.exitThen ?_
      obtain rfl := Option.some.inj h
      have h := hk221
      refine DN.hit ?_
      obtain rfl := Option.some.inj h
      exact DN.meet _ ⟨K216, (s10 : (List Bool)), rfl, S217.wk rfl, f218, hn219, rfl⟩ fun a ha => (ha.more ha.nil rfl)
     ·
      obtain ⟨o207, h, hk221⟩ := Option.bind_eq_some_iff.mp h; unfold s_l7Win_b6 at h
      have hc207 : decide (v18 < (p1.length : Int)) = true := decide_eq_true (by omega)
      refine WC.seq ?_
      refine WC.seq ?_
      refine WC.rs [(0, 2), (1, 2), (2, 2), (3, 2)] rfl ?_
      refine WO.pn 2 rfl ?_
      refine WO.k2 rfl rfl rfl rfl (rn_len Try.runUnderlying118 rfl rfl) ?_
      refine WO.pn 1 rfl ?_
      refine WO.fin ?_
      refine DN.seq ?_
      refine WC.ct' rfl hc207 ?_
      refine WC.skip ?_
      refine DN.seq ?_
      refine WC.seq ?_
      refine WC.block ?_
      refine WC.rs [(0, 2), (1, 2), (2, 2), (3, 2), (4, 2), (5, 1), (6, 2), (7, 2), (8, 2), (9, 2), (10, 1), (11, 2), (12, 2), (13, 2), (14, 2), (15, 2), (16, 2), (17, 1)] rfl ?_
      refine WO.pn 4 rfl ?_
      obtain ⟨x138, hx138, h⟩ := Option.bind_eq_some_iff.mp h
      refine WO.k2 rfl rfl rfl rfl (rn_index f206.rdc hx138 Try.runUnderlying118 Try.sizeOf4 rfl rfl rfl rfl) ?_
      have f222 := f206.stp S217 rfl rfl
      refine WO.k1 trivial rfl rfl rfl rfl (rn_ld Try.isAgg4 rfl rfl (hvE (f222.rdc.gBool hx138))) ?_
      refine WO.pn 1 rfl ?_
      obtain ⟨p149, h, hK223⟩ := Option.bind_eq_some_iff.mp h
      refine WO.meet [(7, 2), (8, 2), (9, 2), (10, 1), (11, 2), (12, 2), (13, 2), (14, 2), (15, 2)] [(16, 2), (17, 1)] (fun L w' => L = [(1, .slice a1 p1.length u1), (6, .slice a24 x24.length u24), (7, .int .i64 (Int.tmod x21 2)), (16, .slice a122_0 x122.length u122_0), (17, .slice a127_0 x127.length u127_0), (18, .int .i64 v18), (134, .slice a24 x24.length u24), (135, .int .i64 v18), (149, .bool p149)] ∧ ∃ κ', Stp [] K216 w215 κ' w') trivial ?_ ?_
      ·
       revert h
       cases ht224 : x138 with
       | true =>
        intro h; replace h := cT h
        refine WO.pn 3 rfl ?_
        refine WO.ls rfl rfl rfl rfl ?_
        refine WO.pn 5 rfl ?_
        obtain rfl := Option.some.inj h
        exact WO.met _ trivial ⟨rfl, _, (Stp.refl _ _).wk rfl⟩ fun a ha => (ha.more (ha.more (ha.more (ha.more (ha.more (ha.more (ha.more (ha.more (ha.more ha.nil rfl) rfl) rfl) rfl) rfl) rfl) rfl) rfl) rfl)
       | false =>
        intro h; replace h := cF h
        refine WO.pn 2 rfl ?_
        obtain ⟨x143, hx143, h⟩ := Option.bind_eq_some_iff.mp h
        refine WO.k2 rfl rfl rfl rfl (rn_index f183.rdc hx143 Try.runUnderlying118 Try.sizeOf4 rfl rfl rfl rfl) ?_
        have f225 := f183.stp (S189.tr (S203.tr S217)) rfl rfl
        refine WO.k1 trivial rfl rfl rfl rfl (rn_ld Try.isAgg4 rfl rfl (hvE (f225.rdc.gBool hx143))) ?_
        refine WO.pn 1 rfl ?_
        obtain ⟨p148, h, hK226⟩ := Option.bind_eq_some_iff.mp h
        refine WO.meet [(12, 2), (13, 2), (14, 2)] [(15, 2)] (fun L w' => L = [(1, .slice a1 p1.length u1), (6, .slice a24 x24.length u24), (7, .int .i64 (Int.tmod x21 2)), (16, .slice a122_0 x122.length u122_0), (17, .slice a127_0 x127.length u127_0), (18, .int .i64 v18), (134, .slice a24 x24.length u24), (135, .int .i64 v18), (140, .bool false), (141, .slice a122_0 x122.length u122_0), (142, .int .i64 v18), (143, .pointer (some (aAt a122_0 (v18.toNat * 1)))), (144, .bool x143), (145, .bool x143), (148, .bool p148)] ∧ ∃ κ', Stp [] K216 w215 κ' w') trivial ?_ ?_
        ·
         revert h
         cases ht227 : x143 with
         | true =>
          intro h; replace h := cT h
          refine WO.pn 3 rfl ?_
          obtain rfl := Option.some.inj h
          exact WO.met _ trivial ⟨rfl, _, (Stp.refl _ _).wk rfl⟩ fun a ha => (ha.more (ha.more (ha.more (ha.more (ha.more (ha.more (ha.more (ha.more (ha.more (ha.more (ha.more (ha.more (ha.more (ha.more (ha.more ha.nil rfl) rfl) rfl) rfl) rfl) rfl) rfl) rfl) rfl) rfl) rfl) rfl) rfl) rfl) rfl)
         | false =>
          intro h; replace h := cF h
          refine WO.pn 3 rfl ?_
          obtain rfl := Option.some.inj h
          exact WO.met _ trivial ⟨rfl, _, (Stp.refl _ _).wk rfl⟩ fun a ha => (ha.more (ha.more (ha.more (ha.more (ha.more (ha.more (ha.more (ha.more (ha.more (ha.more (ha.more (ha.more (ha.more (ha.more (ha.more ha.nil rfl) rfl) rfl) rfl) rfl) rfl) rfl) rfl) rfl) rfl) rfl) rfl) rfl) rfl) rfl)
        rintro _ w228 _ ⟨rfl, K229, S230⟩
        have h := hK226
        refine WO.pn 1 rfl ?_
        obtain rfl := Option.some.inj h
        exact WO.met _ trivial ⟨rfl, _, S230.wk rfl⟩ fun a ha => (ha.more (ha.more (ha.more (ha.more (ha.more (ha.more (ha.more (ha.more (ha.more ha.nil rfl) rfl) rfl) rfl) rfl) rfl) rfl) rfl) rfl)
      rintro _ w231 _ ⟨rfl, K232, S233⟩
      have h := hK223
      obtain ⟨x150, hx150, h⟩ := Option.bind_eq_some_iff.mp h
      refine WO.k2 rfl rfl rfl rfl (rn_index f218.rdc hx150 Try.runUnderlying118 Try.sizeOf4 rfl rfl hn219 rfl) ?_
      have f234 := f218.stp S233 rfl rfl
      obtain ⟨y29, hy29, h⟩ := Option.bind_eq_some_iff.mp h
      refine WO.stI (κ := K232) (E := Ep.bool) 5 [] rfl rfl rfl rfl rfl rfl rfl rfl Try.sizeOf4 rfl rfl rfl rfl f234 hy29 fun w235 K236 S237 f238 => ⟨trivial, ?_⟩
      have hn239 : x24.length = y29.length := hn219.trans (setI_ok hy29).2.2.2.symm
      refine WO.fin ?_
      refine DN.block ?_
      refine DN.seq ?_
      refine WC.rs [(0, 2), (1, 2), (2, 2)] rfl ?_
      refine WO.pn 3 rfl ?_
      refine WO.fin ?_
      have hw207 : IntKind.wrap .i64 (v18 + 1) = v18 + 1 := wr1 hj207 (of_decide_eq_true hc207) hN207
      rw [hw207]
      have hc207 := of_decide_eq_true hc207
      obtain rfl := Option.some.inj h
      refine DN.round fun a ha => ?_
      exact ⟨k, _, Nat.lt_succ_self _, ⟨K236, v18 + 1, (y29 : (List Bool)), rfl, (S217.tr (S233.tr S237)).wk rfl, f238, hn239, by omega, by omega, hk221⟩, (ha.more (ha.more (ha.more (ha.more (ha.more (ha.more ha.nil rfl) rfl) rfl) rfl) rfl) rfl)⟩
    rintro _ w210 ⟨K211, s12, rfl, S212, f213, hn214, rfl⟩
    have h := hK208
    dsimp only [aft] at h
    refine DN.seq ?_
    refine WC.seq ?_
    refine WC.rs [(0, 2), (1, 2)] rfl ?_
    refine WO.pn 2 rfl ?_
    refine WO.fin ?_
    refine DN.seq ?_
    refine WC.ret ?_
    have f240 := hE.stp (S3.tr (S15.tr (S20.tr (S26.tr (S33.tr (S68.tr (S78.tr (S93.tr (S99.tr (S106.tr (S175.tr (S179.tr (S189.tr (S203.tr S212)))))))))))))) rfl rfl
    refine DN.res (l := [.tmp 4]) Try.results77 (res_tmp rfl rfl) rfl ?_
    obtain rfl := Option.some.inj h
    exact ⟨(fun b => ren [(5, 2)] (K211 b)), a24, u24, (by simp only [hn214]), (f240.map (ren [(5, 2)]) rfl rfl), (f213.map (ren [(5, 2)]) rfl rfl)⟩

/- loop.example/g00869/impl.lessOf -/
theorem i_lessOf_ok {w : World} {κ : Col} {a0 : Option Addr} {u0 : Nat} {p0 : (List Int)} {a1 : Option Addr} {u1 : Nat} {p1 : (List Int)} (g0 : Rd (Rp.int .i64) κ w 0 a0 u0 p0) (g1 : Rd (Rp.int .i64) κ w 0 a1 u1 p1) {r : (List Int)} (h : i_lessOf p0 p1 = some r) : Ret Try.prog 91 [.slice a0 p0.length u0, .slice a1 p1.length u1] w (fun v w' => ∃ (κ' : Col) (ra0 : Option Addr) (ru0 : Nat), v = .slice ra0 r.length ru0 ∧ Ent κ w κ' w' ∧ Oc (Ep.int .i64) 2 κ' w' 2 ra0 ru0 r) := by
 unfold i_lessOf at h
 refine Ret.enter Try.func91 rfl Try.ntmps91 rfl ?_
 dsimp only [envOf]
 have hE := Ent.refl κ w
 refine WC.seq ?_
 refine WC.rs [(0, 2)] rfl ?_
 refine WO.pn 1 rfl ?_
 refine WO.fin ?_
 refine DN.seq ?_
 refine WC.seq ?_
 refine WC.rs [(0, 1), (1, 2)] rfl ?_
 refine WO.bl0 (κ := κ) (E := (Ep.int .i64)) 2 rfl rfl rfl rfl rfl Try.underlying22 Tryinfo2 rfl fun a10 u10 w1 K2 S3 f4 => ⟨trivial, ?_⟩
 refine WO.pn 1 rfl ?_
 refine WO.fin ?_
 refine DN.seq ?_
 refine WC.seq ?_
 refine WC.seq ?_
 refine WC.rs [(0, 2), (1, 2), (2, 2)] rfl ?_
 refine WO.pn 1 rfl ?_
 refine WO.k2 rfl rfl rfl rfl (rn_len Try.runUnderlying22 rfl rfl) ?_
 refine WO.pn 1 rfl ?_
 refine WO.fin ?_
 refine DN.seq ?_
 have hN5 : (p0.length : Int) ≤ 9223372036854775807 := g0.len_le
 obtain ⟨q2, hq7, hK6⟩ := Option.bind_eq_some_iff.mp h
 clear h
 refine WC.meet (fun L w' => ∃ (κ' : Col) (s3 : (List Int)) (las3_0 : Option Addr) (lus3_0 : Nat), L = [(5, .slice las3_0 s3.length lus3_0)] ∧ Stp [2] K2 w1 κ' w' ∧ Oc (Ep.int .i64) 2 κ' w' 2 las3_0 lus3_0 s3 ∧ q2 = Sum.inr s3) ?_ ?_
 ·
  refine WC.block ?_
  refine WC.loop (fun k L w' => ∃ (κ' : Col) (v13 : Int) (s1 : (List Int)) (las1_0 : Option Addr) (lus1_0 : Nat), L = [(1, .slice a1 p1.length u1), (5, .slice las1_0 s1.length lus1_0), (11, .slice a0 p0.length u0), (12, .int .i64 (p0.length : Int)), (13, .int .i64 v13)] ∧ Stp [2] K2 w1 κ' w' ∧ Oc (Ep.int .i64) 2 κ' w' 2 las1_0 lus1_0 s1 ∧ 0 ≤ v13 ∧ Int.toNat ((p0.length : Int) - v13) = k ∧ cntM (i_lessOf_b0 p0 p1) k v13 s1 = some q2) ⟨_, _, ⟨K2, 0, (([] : List Int) : (List Int)), a10, u10, rfl, (Stp.refl _ _).wk rfl, f4, (by decide), (by simp), hq7⟩, fun a ha => (ha.more (ha.more (ha.more (ha.more (ha.more ha.nil rfl) rfl) rfl) rfl) rfl)⟩ ?_
  rintro k _ w12 ⟨K13, v13, s1, las1_0, lus1_0, rfl, S14, f15, hj5, hJ5, h⟩
  rcases k with _ | k
  ·
   have hk16 := h; obtain ⟨o5, h⟩ := ex_eq (Sum.inr (Sum.inl s1) : (List Int) ⊕ (((List Int)) ⊕ ((List Int))))
   have hc5 : decide (v13 < (p0.length : Int)) = false := decide_eq_false (by omega)
   refine WC.seq ?_
   refine WC.rs [(0, 2)] rfl ?_
   refine WO.pn 1 rfl ?_
   refine WO.fin ?_
   refine DN.seq ?_
   refine WC.seq ?_
   refine WC.cf' rfl hc5 ?_
   refine WC.exit ?_
   refine DN.exitThen ?_
   refine DN.exitThen ?_
   obtain rfl := Option.some.inj h
   have h := hk16
   refine DN.hit ?_
   obtain rfl := Option.some.inj h
   exact DN.meet _ ⟨K13, (s1 : (List Int)), las1_0, lus1_0, rfl, S14.wk rfl, f15, rfl⟩ fun a ha => (ha.more ha.nil rfl)
  ·
   obtain ⟨o5, h, hk16⟩ := Option.bind_eq_some_iff.mp h; unfold i_lessOf_b0 at h
   have hc5 : decide (v13 < (p0.length : Int)) = true := decide_eq_true (by omega)
   refine WC.seq ?_
   refine WC.rs [(0, 2)] rfl ?_
   refine WO.pn 1 rfl ?_
   refine WO.fin ?_
   refine DN.seq ?_
   refine WC.seq ?_
   refine WC.ct' rfl hc5 ?_
   refine WC.skip ?_
   refine DN.seq ?_
   refine WC.seq ?_
   refine WC.block ?_
   refine WC.seq ?_
   refine WC.rs [(0, 2), (1, 1), (2, 2)] rfl ?_
   obtain ⟨x15, hx15, h⟩ := Option.bind_eq_some_iff.mp h
   refine WO.k2 rfl rfl rfl rfl (rn_index g0 hx15 Try.runUnderlying22 Try.sizeOf2 rfl rfl rfl rfl) ?_
   have f17 := g0.stp (S3.tr S14) rfl rfl
   refine WO.k1 trivial rfl rfl rfl rfl (rn_ld Try.isAgg2 rfl rfl (hvE (f17.gInt hx15))) ?_
   refine WO.pn 1 rfl ?_
   refine WO.fin ?_
   refine DN.seq ?_
   refine WC.seq ?_
   refine WC.rs [(0, 2), (1, 2), (2, 1), (3, 2), (4, 2), (5, 2), (6, 2), (7, 2)] rfl ?_
   refine WO.pn 2 rfl ?_
   obtain ⟨x20, hx20, h⟩ := Option.bind_eq_some_iff.mp h
   have f18 := g1.stp (S3.tr S14) rfl rfl
   refine WO.call rfl rfl rfl rfl rfl rfl Try.call131 (slices_BinarySearch_I_int64_ok (κ := fun b => mp [] 0 (K13 b)) (Sl.map f18 (mp [] 0) rfl rfl) hx20) ?_
   rintro _ w19 ⟨k20, rfl, e21⟩
   obtain ⟨K22, S23, m24⟩ := Ent.mixed (l := []) (κ := K13) e21 3 rfl
   refine ⟨trivial, ?_⟩
   refine WO.pn 5 rfl ?_
   refine WO.fin ?_
   refine DN.seq ?_
   refine WC.seq ?_
   refine WC.rs [(0, 2), (1, 2)] rfl ?_
   refine WO.pn 2 rfl ?_
   refine WO.fin ?_
   refine DN.seq ?_
   obtain ⟨q4, h, hK26⟩ := Option.bind_eq_some_iff.mp h
   refine WC.meet (fun L w' => ∃ (κ' : Col) (laq4_0 : Option Addr) (luq4_0 : Nat), L = [(1, .slice a1 p1.length u1), (5, .slice laq4_0 q4.length luq4_0), (11, .slice a0 p0.length u0), (12, .int .i64 (p0.length : Int)), (13, .int .i64 v13)] ∧ Stp [2] K22 w19 κ' w' ∧ Oc (Ep.int .i64) 2 κ' w' 2 laq4_0 luq4_0 q4) ?_ ?_
   ·
    revert h
    cases ht31 : (!x20.2) with
    | true =>
     intro h; replace h := cT h
     refine WC.ct rfl ?_
     refine WC.rs [(0, 2), (1, 2), (2, 1), (3, 1), (4, 2)] rfl ?_
     refine WO.pn 2 rfl ?_
     refine WO.bl (κ := K22) (E := (Ep.int .i64)) 5 [] (parts := [(0, .tmp 26)]) (cells := [.int .i64 x15]) (xs := ([x15] : List Int)) rfl rfl rfl rfl rfl rfl Try.underlying22 Tryinfo2 rfl rfl rfl rfl rfl rfl rfl rfl rfl rfl ⟨[.int .i64 x15], [], Zl K22 w19 [], Zl K22 w19 [], rfl, Zl.sp (l1 := []) (l2 := []) rfl, Zl.sr (l1 := []) (l2 := []), rfl, rfl⟩ fun a27 u27 w32 K33 S34 f35 => ⟨trivial, ?_⟩
     obtain ⟨x28, hx28, h⟩ := Option.bind_eq_some_iff.mp h
     have f36 := f15.stp (S23.tr S34) rfl rfl
     refine WO.app (κ := K33) (E := (Ep.int .i64)) 2 [] rfl rfl rfl rfl rfl rfl rfl rfl rfl Try.underlying22 Tryinfo2 rfl rfl rfl rfl f36 (Sl.srcP (pu_int _) f35.rdc) sy_false hx28 rfl fun a28 u28 w37 K38 S39 f40 => ⟨trivial, ?_⟩
     refine WO.pn 1 rfl ?_
     refine WO.fin ?_
     obtain rfl := Option.some.inj h
     exact DN.meet _ ⟨K38, a28, u28, rfl, (S34.tr S39).wk rfl, f40⟩ fun a ha => (ha.more (ha.more (ha.more (ha.more (ha.more ha.nil rfl) rfl) rfl) rfl) rfl)
    | false =>
     intro h; replace h := cF h
     refine WC.cf rfl ?_
     refine WC.skip ?_
     have f41 := f15.stp S23 rfl rfl
     obtain rfl := Option.some.inj h
     exact DN.meet _ ⟨K22, las1_0, lus1_0, rfl, (Stp.refl _ _).wk rfl, f41⟩ fun a ha => (ha.more (ha.more (ha.more (ha.more (ha.more ha.nil rfl) rfl) rfl) rfl) rfl)
   rintro _ w27 ⟨K28, laq4_0, luq4_0, rfl, S29, f30⟩
   have h := hK26
   refine DN.block ?_
   refine DN.seq ?_
   refine WC.rs [(0, 2), (1, 2)] rfl ?_
   refine WO.pn 2 rfl ?_
   refine WO.fin ?_
   have hw5 : IntKind.wrap .i64 (v13 + 1) = v13 + 1 := wr1 hj5 (of_decide_eq_true hc5) hN5
   rw [hw5]
   have hc5 := of_decide_eq_true hc5
   obtain rfl := Option.some.inj h
   refine DN.round fun a ha => ?_
   exact ⟨k, _, Nat.lt_succ_self _, ⟨K28, v13 + 1, (q4 : (List Int)), laq4_0, luq4_0, rfl, (S14.tr (S23.tr S29)).wk rfl, f30, by omega, by omega, hk16⟩, (ha.more (ha.more (ha.more (ha.more (ha.more ha.nil rfl) rfl) rfl) rfl) rfl)⟩
 rintro _ w8 ⟨K9, s3, las3_0, lus3_0, rfl, S10, f11, rfl⟩
 have h := hK6
 dsimp only [aft] at h
 refine DN.seq ?_
 refine WC.seq ?_
 refine WC.rs [(0, 2), (1, 2)] rfl ?_
 refine WO.pn 2 rfl ?_
 refine WO.fin ?_
 refine DN.seq ?_
 refine WC.ret ?_
 have f42 := hE.stp (S3.tr S10) rfl rfl
 refine DN.res (l := [.tmp 4]) Try.results91 (res_tmp rfl rfl) rfl ?_
 obtain rfl := Option.some.inj h
 exact ⟨K9, las3_0, lus3_0, rfl, f42, f11⟩

end Go.Proofs.Ytndiklipffipcaa
