/- The walks, part 1. By program. -/
import Derived.Test.YthjkonkcdfdfaaaFnsU0
set_option linter.unusedVariables false
set_option linter.unusedSimpArgs false
namespace Go.Proofs.Ythjkonkcdfdfaaa
open Go Go.Wk Go.Proofs
set_option maxRecDepth 100000
set_option maxHeartbeats 1000000

/- loop.example/g00869/spec.l1Below -/
theorem s_l1Below_ok {w : World} {κ : Col} {a0_0 : Option Addr} {u0_0 : Nat} {p0 : l1Cur} {p1 : Int} {b0 : Nat} (g0_0 : Rd (Rp.int .u8) κ w 0 a0_0 u0_0 p0.b) (gb0 : Bc κ w 2 b0 89 [.slice a0_0 p0.b.length u0_0, .int .i64 p0.i, .int .i64 p0.h]) {r : Int × Int × Int} (h : s_l1Below p0 p1 = some r) : Ret Try.prog 65 [.pointer (some ⟨b0, 0, none⟩), .int .i64 p1] w (fun v w' => ∃ (κ' : Col), v = .int .i64 r.1 ∧ Ent κ w κ' w' ∧ Bc κ' w' 2 b0 89 [.slice a0_0 p0.b.length u0_0, .int .i64 r.2.1, .int .i64 r.2.2]) := by
 unfold s_l1Below at h
 refine Ret.enter Try.func65 rfl Try.ntmps65 rfl ?_
 dsimp only [envOf]
 have hE := Ent.refl κ w
 refine WC.seq ?_
 refine WC.rs [(0, 2)] rfl ?_
 refine WO.pn 1 rfl ?_
 refine WO.fin ?_
 refine DN.seq ?_
 refine WC.seq ?_
 refine WC.seq ?_
 refine WC.rs [(0, 2), (1, 2)] rfl ?_
 refine WO.pn 2 rfl ?_
 refine WO.fin ?_
 refine DN.seq ?_
 revert h
 cases ht1 : decide (p1 ≤ 0) with
 | true =>
  intro h; replace h := cT h
  refine WC.ct rfl ?_
  refine WC.seq ?_
  refine WC.rs [(0, 2)] rfl ?_
  refine WO.pn 1 rfl ?_
  refine WO.fin ?_
  refine DN.seq ?_
  refine WC.ret ?_
  refine DN.retThen ?_
  refine DN.res (l := [.tmp 4]) Try.results65 (res_tmp rfl rfl) rfl ?_
  obtain rfl := Option.some.inj h
  exact ⟨κ, rfl, hE, gb0⟩
 | false =>
  intro h; replace h := cF h
  refine WC.cf rfl ?_
  refine WC.skip ?_
  refine DN.seq ?_
  refine WC.seq ?_
  refine WC.seq ?_
  refine WC.rs [(0, 2), (1, 2)] rfl ?_
  refine WO.pn 2 rfl ?_
  refine WO.fin ?_
  refine DN.seq ?_
  revert h
  cases ht2 : decide (p1 ≤ 256) with
  | true =>
   intro h; replace h := cT h
   refine WC.ct rfl ?_
   refine WC.seq ?_
   refine WC.rs [(0, 2), (1, 1), (2, 2), (3, 2), (4, 2)] rfl ?_
   refine WO.pn 1 rfl ?_
   obtain ⟨x14, hx14, h⟩ := Option.bind_eq_some_iff.mp h
   refine WO.call rfl rfl rfl rfl rfl rfl Try.call82 (s_l1Byte_ok (κ := fun b => mp [(2, 2)] 0 (κ b)) (p0 := p0) (Sl.map g0_0 (mp [(2, 2)] 0) rfl rfl) (gb0.map (mp [(2, 2)] 0) rfl rfl) hx14) ?_
   rintro _ w3 ⟨k4, rfl, e5, f6⟩
   obtain ⟨K7, S8, m9⟩ := Ent.mixed (l := [(2, 2)]) (κ := κ) e5 3 rfl
   refine ⟨trivial, ?_⟩
   have f11 := f6.mx m9 rfl (rfl : 3 + 2 = 5)
   refine WO.pn 1 rfl ?_
   obtain ⟨_z16, hz16, h⟩ := Option.bind_eq_some_iff.mp h
   refine WO.k2 rfl rfl rfl rfl (rn_rem rfl rfl rfl (nz_ok hz16)) ?_
   refine WO.pn 1 rfl ?_
   refine WO.fin ?_
   refine DN.seq ?_
   refine WC.ret ?_
   refine DN.retThen ?_
   have f12 := hE.stp S8 rfl rfl
   refine DN.res (l := [.tmp 4]) Try.results65 (res_tmp rfl rfl) rfl ?_
   obtain rfl := Option.some.inj h
   exact ⟨(fun b => ren [(5, 2)] (K7 b)), rfl, (f12.map (ren [(5, 2)]) rfl rfl), (f11.map (ren [(5, 2)]) rfl rfl)⟩
  | false =>
   intro h; replace h := cF h
   refine WC.cf rfl ?_
   refine WC.skip ?_
   refine DN.seq ?_
   refine WC.seq ?_
   refine WC.rs [(0, 2), (1, 1), (2, 2)] rfl ?_
   refine WO.pn 1 rfl ?_
   obtain ⟨x18, hx18, h⟩ := Option.bind_eq_some_iff.mp h
   refine WO.call rfl rfl rfl rfl rfl rfl Try.call82 (s_l1Byte_ok (κ := fun b => mp [(2, 2)] 0 (κ b)) (p0 := p0) (Sl.map g0_0 (mp [(2, 2)] 0) rfl rfl) (gb0.map (mp [(2, 2)] 0) rfl rfl) hx18) ?_
   rintro _ w13 ⟨k14, rfl, e15, f16⟩
   obtain ⟨K17, S18, m19⟩ := Ent.mixed (l := [(2, 2)]) (κ := κ) e15 3 rfl
   refine ⟨trivial, ?_⟩
   have f21 := f16.mx m19 rfl (rfl : 3 + 2 = 5)
   refine WO.pn 1 rfl ?_
   refine WO.fin ?_
   refine DN.seq ?_
   refine WC.seq ?_
   refine WC.rs [(0, 2), (1, 1), (2, 2)] rfl ?_
   refine WO.pn 1 rfl ?_
   obtain ⟨x20, hx20, h⟩ := Option.bind_eq_some_iff.mp h
   have f22 := g0_0.stp S18 rfl rfl
   refine WO.call rfl rfl rfl rfl rfl rfl Try.call82 (s_l1Byte_ok (κ := fun b => mp [(5, 2)] 0 (K17 b)) (p0 := (⟨p0.b, x18.2.1, x18.2.2⟩ : l1Cur)) (Sl.map f22 (mp [(5, 2)] 0) rfl rfl) (f21.map (mp [(5, 2)] 0) rfl rfl) hx20) ?_
   rintro _ w23 ⟨k24, rfl, e25, f26⟩
   obtain ⟨K27, S28, m29⟩ := Ent.mixed (l := [(5, 2)]) (κ := K17) e25 6 rfl
   refine ⟨trivial, ?_⟩
   have f31 := f26.mx m29 rfl (rfl : 6 + 2 = 8)
   refine WO.pn 1 rfl ?_
   refine WO.fin ?_
   refine DN.seq ?_
   refine WC.seq ?_
   refine WC.rs [(0, 2), (1, 1), (2, 2)] rfl ?_
   refine WO.pn 1 rfl ?_
   obtain ⟨x22, hx22, h⟩ := Option.bind_eq_some_iff.mp h
   have f32 := f22.stp S28 rfl rfl
   refine WO.call rfl rfl rfl rfl rfl rfl Try.call82 (s_l1Byte_ok (κ := fun b => mp [(8, 2)] 0 (K27 b)) (p0 := (⟨p0.b, x20.2.1, x20.2.2⟩ : l1Cur)) (Sl.map f32 (mp [(8, 2)] 0) rfl rfl) (f31.map (mp [(8, 2)] 0) rfl rfl) hx22) ?_
   rintro _ w33 ⟨k34, rfl, e35, f36⟩
   obtain ⟨K37, S38, m39⟩ := Ent.mixed (l := [(8, 2)]) (κ := K27) e35 9 rfl
   refine ⟨trivial, ?_⟩
   have f41 := f36.mx m39 rfl (rfl : 9 + 2 = 11)
   refine WO.pn 1 rfl ?_
   refine WO.fin ?_
   refine DN.seq ?_
   refine WC.seq ?_
   refine WC.rs [(0, 2), (1, 1), (2, 2)] rfl ?_
   refine WO.pn 1 rfl ?_
   obtain ⟨x24, hx24, h⟩ := Option.bind_eq_some_iff.mp h
   have f42 := f32.stp S38 rfl rfl
   refine WO.call rfl rfl rfl rfl rfl rfl Try.call82 (s_l1Byte_ok (κ := fun b => mp [(11, 2)] 0 (K37 b)) (p0 := (⟨p0.b, x22.2.1, x22.2.2⟩ : l1Cur)) (Sl.map f42 (mp [(11, 2)] 0) rfl rfl) (f41.map (mp [(11, 2)] 0) rfl rfl) hx24) ?_
   rintro _ w43 ⟨k44, rfl, e45, f46⟩
   obtain ⟨K47, S48, m49⟩ := Ent.mixed (l := [(11, 2)]) (κ := K37) e45 12 rfl
   refine ⟨trivial, ?_⟩
   have f51 := f46.mx m49 rfl (rfl : 12 + 2 = 14)
   refine WO.pn 1 rfl ?_
   refine WO.fin ?_
   refine DN.seq ?_
   refine WC.seq ?_
   refine WC.rs [(0, 2), (1, 2), (2, 2), (3, 2), (4, 2), (5, 2), (6, 2), (7, 2), (8, 2), (9, 2), (10, 2), (11, 2), (12, 2)] rfl ?_
   refine WO.pn 11 rfl ?_
   obtain ⟨_z36, hz36, h⟩ := Option.bind_eq_some_iff.mp h
   refine WO.k2 rfl rfl rfl rfl (rn_rem rfl rfl rfl (nz_ok hz36)) ?_
   refine WO.pn 1 rfl ?_
   refine WO.fin ?_
   refine DN.seq ?_
   refine WC.ret ?_
   have f52 := hE.stp (S18.tr (S28.tr (S38.tr S48))) rfl rfl
   refine DN.res (l := [.tmp 4]) Try.results65 (res_tmp rfl rfl) rfl ?_
   obtain rfl := Option.some.inj h
   exact ⟨(fun b => ren [(14, 2)] (K47 b)), rfl, (f52.map (ren [(14, 2)]) rfl rfl), (f51.map (ren [(14, 2)]) rfl rfl)⟩

/- slices.IndexFunc[[]int64,int64] -/
theorem slices_IndexFunc_I_int64__i_areLetters_1_ok {w : World} {κ : Col} {a0 : Option Addr} {u0 : Nat} {p0 : (List Int)} {c1_0 : Int} {b1_0 : Nat} (g0 : Rd (Rp.int .i64) κ w 0 a0 u0 p0) (gb1_0 : Bc κ w 0 b1_0 2 [.int .i64 c1_0]) {r : Int} (h : slices_IndexFunc_I_int64__i_areLetters_1 p0 c1_0 = some r) : Ret Try.prog 86 [.slice a0 p0.length u0, .func (.func 81) #[] #[.pointer (some ⟨b1_0, 0, none⟩)]] w (fun v w' => ∃ (κ' : Col), v = .int .i64 r ∧ Ent κ w κ' w') := by
 unfold slices_IndexFunc_I_int64__i_areLetters_1 at h
 refine Ret.enter Try.func86 rfl Try.ntmps86 rfl ?_
 dsimp only [envOf]
 have hE := Ent.refl κ w
 refine WC.seq ?_
 refine WC.rs [(0, 2)] rfl ?_
 refine WO.pn 1 rfl ?_
 refine WO.fin ?_
 refine DN.seq ?_
 refine WC.seq ?_
 refine WC.seq ?_
 refine WC.rs [(0, 2), (1, 2), (2, 2)] rfl ?_
 refine WO.pn 1 rfl ?_
 refine WO.k2 rfl rfl rfl rfl (rn_len Try.runUnderlying24 rfl rfl) ?_
 refine WO.pn 1 rfl ?_
 refine WO.fin ?_
 refine DN.seq ?_
 have hN1 : (p0.length : Int) ≤ 9223372036854775807 := g0.len_le
 obtain ⟨q2, hq3, hK2⟩ := Option.bind_eq_some_iff.mp h
 clear h
 refine WC.meet (fun L w' => ∃ (κ' : Col), L = [(1, .func (.func 81) #[] #[.pointer (some ⟨b1_0, 0, none⟩)])] ∧ Stp [] κ w κ' w' ∧ q2 = Sum.inr ()) ?_ ?_
 ·
  refine WC.block ?_
  refine WC.loop (fun k L w' => ∃ (κ' : Col) (v8 : Int), L = [(0, .slice a0 p0.length u0), (1, .func (.func 81) #[] #[.pointer (some ⟨b1_0, 0, none⟩)]), (7, .int .i64 (p0.length : Int)), (8, .int .i64 v8)] ∧ Stp [] κ w κ' w' ∧ 0 ≤ v8 ∧ Int.toNat ((p0.length : Int) - v8) = k ∧ cntM (slices_IndexFunc_I_int64__i_areLetters_1_b0 p0 c1_0) k v8 () = some q2) ⟨_, _, ⟨κ, 0, rfl, (Stp.refl _ _).wk rfl, (by decide), (by simp), hq3⟩, fun a ha => (ha.more (ha.more (ha.more (ha.more ha.nil rfl) rfl) rfl) rfl)⟩ ?_
  rintro k _ w7 ⟨K8, v8, rfl, S9, hj1, hJ1, h⟩
  rcases k with _ | k
  ·
   have hk10 := h; obtain ⟨o1, h⟩ := ex_eq (Sum.inr (Sum.inl ()) : Int ⊕ ((Unit) ⊕ (Unit)))
   have hc1 : decide (v8 < (p0.length : Int)) = false := decide_eq_false (by omega)
   refine WC.seq ?_
   refine WC.rs [(0, 2)] rfl ?_
   refine WO.pn 1 rfl ?_
   refine WO.fin ?_
   refine DN.seq ?_
   refine WC.seq ?_
   refine WC.cf' rfl hc1 ?_
   refine WC.exit ?_
   refine DN.exitThen ?_
   refine DN.exitThen ?_
   obtain rfl := Option.some.inj h
   have h := hk10
   refine DN.hit ?_
   obtain rfl := Option.some.inj h
   exact DN.meet _ ⟨K8, rfl, S9.wk rfl, rfl⟩ fun a ha => (ha.more ha.nil rfl)
  ·
   obtain ⟨o1, h, hk10⟩ := Option.bind_eq_some_iff.mp h; unfold slices_IndexFunc_I_int64__i_areLetters_1_b0 at h
   have hc1 : decide (v8 < (p0.length : Int)) = true := decide_eq_true (by omega)
   refine WC.seq ?_
   refine WC.rs [(0, 2)] rfl ?_
   refine WO.pn 1 rfl ?_
   refine WO.fin ?_
   refine DN.seq ?_
   refine WC.seq ?_
   refine WC.ct' rfl hc1 ?_
   refine WC.skip ?_
   refine DN.seq ?_
   refine WC.seq ?_
   refine WC.block ?_
   refine WC.seq ?_
   refine WC.rs [(0, 2), (1, 2)] rfl ?_
   refine WO.pn 2 rfl ?_
   refine WO.fin ?_
   refine DN.seq ?_
   refine WC.seq ?_
   refine WC.rs [(0, 2), (1, 2), (2, 2), (3, 2), (4, 1), (5, 1)] rfl ?_
   refine WO.pn 3 rfl ?_
   obtain ⟨x14, hx14, h⟩ := Option.bind_eq_some_iff.mp h
   refine WO.k2 rfl rfl rfl rfl (rn_index g0 hx14 Try.runUnderlying24 Try.sizeOf2 rfl rfl rfl rfl) ?_
   have f11 := g0.stp S9 rfl rfl
   refine WO.k1 trivial rfl rfl rfl rfl (rn_ld Try.isAgg2 rfl rfl (hvE (f11.gInt hx14))) ?_
   obtain ⟨x16, hx16, h⟩ := Option.bind_eq_some_iff.mp h
   have f12 := gb1_0.stp S9 rfl rfl
   refine WO.callV rfl rfl rfl rfl rfl rfl rfl rfl Try.call81 (i_areLetters_1_ok (κ := fun b => mp [] 0 (K8 b)) (f12.map (mp [] 0) rfl rfl) hx16) ?_
   rintro _ w13 ⟨k14, rfl, e15⟩
   obtain ⟨K16, S17, m18⟩ := Ent.mixed (l := []) (κ := K8) e15 2 rfl
   refine ⟨trivial, ?_⟩
   refine WO.fin ?_
   refine DN.seq ?_
   revert h
   cases ht20 : x16 with
   | true =>
    intro h; replace h := cT h
    refine WC.ct rfl ?_
    refine WC.seq ?_
    refine WC.rs [(0, 2), (1, 2)] rfl ?_
    refine WO.pn 2 rfl ?_
    refine WO.fin ?_
    refine DN.seq ?_
    refine WC.ret ?_
    refine DN.retBlock ?_
    refine DN.retThen ?_
    refine DN.retThen ?_
    obtain rfl := Option.some.inj h
    obtain rfl := Option.some.inj hk10
    have h := hK2
    dsimp only [aft] at h
    refine DN.retBlock ?_
    refine DN.retMeet ?_
    refine DN.retThen ?_
    have f21 := hE.stp (S9.tr S17) rfl rfl
    refine DN.res (l := [.tmp 4]) Try.results86 (res_tmp rfl rfl) rfl ?_
    obtain rfl := Option.some.inj h
    exact ⟨K16, rfl, f21⟩
   | false =>
    intro h; replace h := cF h
    refine WC.cf rfl ?_
    refine WC.skip ?_
    refine DN.block ?_
    refine DN.seq ?_
    refine WC.rs [(0, 2), (1, 2)] rfl ?_
    refine WO.pn 2 rfl ?_
    refine WO.fin ?_
    have hw1 : IntKind.wrap .i64 (v8 + 1) = v8 + 1 := wr1 hj1 (of_decide_eq_true hc1) hN1
    rw [hw1]
    have hc1 := of_decide_eq_true hc1
    obtain rfl := Option.some.inj h
    refine DN.round fun a ha => ?_
    exact ⟨k, _, Nat.lt_succ_self _, ⟨K16, v8 + 1, rfl, (S9.tr S17).wk rfl, by omega, by omega, hk10⟩, (ha.more (ha.more (ha.more (ha.more ha.nil rfl) rfl) rfl) rfl)⟩
 rintro _ w4 ⟨K5, rfl, S6, rfl⟩
 have h := hK2
 dsimp only [aft] at h
 refine DN.seq ?_
 refine WC.seq ?_
 refine WC.rs [(0, 2)] rfl ?_
 refine WO.pn 1 rfl ?_
 refine WO.fin ?_
 refine DN.seq ?_
 refine WC.ret ?_
 have f22 := hE.stp S6 rfl rfl
 refine DN.res (l := [.tmp 4]) Try.results86 (res_tmp rfl rfl) rfl ?_
 obtain rfl := Option.some.inj h
 exact ⟨K5, rfl, f22⟩

/- loop.example/g00869/impl.newBuilder -/
theorem i_newBuilder_ok {w : World} {κ : Col} {a0_2 : Option Addr} {u0_2 : Nat} {a0_3 : Option Addr} {u0_3 : Nat} {a0_4 : Option Addr} {u0_4 : Nat} {p0 : Circuit} (g0_2 : Rd (Rp.int .i64) κ w 0 a0_2 u0_2 p0.Next) (g0_3 : Rd Gate.rp κ w 0 a0_3 u0_3 p0.Gates) (g0_4 : Rd (Rp.int .i64) κ w 0 a0_4 u0_4 p0.Outs) {r : builder} (h : i_newBuilder p0 = some r) : Ret Try.prog 43 [.agg #[.int .i64 p0.Inputs, .int .i64 p0.Latches, .slice a0_2 p0.Next.length u0_2, .slice a0_3 p0.Gates.length u0_3, .slice a0_4 p0.Outs.length u0_4]] w (fun v w' => ∃ (κ' : Col) (ra0 : Option Addr) (ru0 : Nat) (ra1 : Option Addr) (ru1 : Nat) (ra2 : Option Addr) (ru2 : Nat) (rm3 : Nat) (rb4 : Nat), v = .pointer (some ⟨rb4, 0, none⟩) ∧ Ent κ w κ' w' ∧ Oc (Ep.int .i64) 2 κ' w' 2 ra0 ru0 r.c.Next ∧ Oc Gate.ep33 33 κ' w' 3 ra1 ru1 r.c.Gates ∧ Oc (Ep.int .i64) 2 κ' w' 4 ra2 ru2 r.c.Outs ∧ Mc kwGate kvGate (fun v : Int => .int .i64 v) κ' w' 5 rm3 r.known ∧ Bc κ' w' 6 rb4 72 [.int .i64 r.c.Inputs, .int .i64 r.c.Latches, .slice ra0 r.c.Next.length ru0, .slice ra1 r.c.Gates.length ru1, .slice ra2 r.c.Outs.length ru2, .bool r.full, .map (some rm3)]) := by
 unfold i_newBuilder at h
 refine Ret.enter Try.func43 rfl Try.ntmps43 rfl ?_
 dsimp only [envOf]
 have hE := Ent.refl κ w
 refine WC.seq ?_
 refine WC.rs [(0, 1), (1, 2)] rfl ?_
 refine WO.box (κ := κ) 2 rfl rfl rfl rfl rfl rfl rfl fun b1 w1 K2 S3 f4 => ⟨trivial, ?_⟩
 refine WO.pn 1 rfl ?_
 refine WO.fin ?_
 refine DN.seq ?_
 refine WC.seq ?_
 refine WC.rs [(0, 1), (1, 2), (2, 1), (3, 1), (4, 2), (5, 1)] rfl ?_
 refine WO.bl0 (κ := K2) (E := (Ep.int .i64)) 3 rfl rfl rfl rfl rfl Try.underlying24 Tryinfo2 rfl fun a7 u7 w5 K6 S7 f8 => ⟨trivial, ?_⟩
 refine WO.k2 rfl rfl rfl rfl (rn_fieldAddr Try.runUnderlying27 rfl Try.sizeOf24 rfl rfl) ?_
 have f9 := f4.stp S7 rfl rfl
 refine WO.k1 trivial rfl rfl rfl rfl (rn_ld Try.isAgg24 rfl rfl (hvE (f9.ld 2 rfl rfl))) ?_
 obtain ⟨x10, hx10, h⟩ := Option.bind_eq_some_iff.mp h
 have f10 := g0_2.stp (S3.tr S7) rfl rfl
 refine WO.app (κ := K6) (E := (Ep.int .i64)) 3 [] rfl rfl rfl rfl rfl rfl rfl rfl rfl Try.underlying24 Tryinfo2 rfl rfl rfl rfl f8 (Sl.srcP (pu_int _) f10) sy_false hx10 rfl fun a10 u10 w11 K12 S13 f14 => ⟨trivial, ?_⟩
 refine WO.k2 rfl rfl rfl rfl (rn_fieldAddr Try.runUnderlying27 rfl Try.sizeOf24 rfl rfl) ?_
 have f15 := f9.stp S13 rfl rfl
 refine WO.stB (κ := K12) 2 (off := 2) (vc := [.slice a10 x10.length u10]) (cs' := [.int .i64 p0.Inputs, .int .i64 p0.Latches, .slice a10 x10.length u10, .slice a0_3 p0.Gates.length u0_3, .slice a0_4 p0.Outs.length u0_4]) rfl rfl rfl rfl rfl rfl rfl Try.sizeOf24 rfl rfl f15 rfl rfl fun w16 S17 f18 => ⟨trivial, ?_⟩
 refine WO.fin ?_
 refine DN.seq ?_
 refine WC.seq ?_
 refine WC.rs [(0, 1), (1, 2), (2, 1), (3, 1), (4, 2), (5, 1)] rfl ?_
 refine WO.bl0 (κ := K12) (E := Gate.ep33) 4 rfl rfl rfl rfl rfl Try.underlying25 Tryinfo33 rfl fun a12 u12 w19 K20 S21 f22 => ⟨trivial, ?_⟩
 refine WO.k2 rfl rfl rfl rfl (rn_fieldAddr Try.runUnderlying27 rfl Try.sizeOf25 rfl rfl) ?_
 have f23 := f18.stp S21 rfl rfl
 refine WO.k1 trivial rfl rfl rfl rfl (rn_ld Try.isAgg25 rfl rfl (hvE (f23.ld 3 rfl rfl))) ?_
 obtain ⟨x15, hx15, h⟩ := Option.bind_eq_some_iff.mp h
 have f24 := g0_3.stp (S3.tr (S7.tr (S13.tr (S17.tr S21)))) rfl rfl
 refine WO.app (κ := K20) (E := Gate.ep33) 4 [] rfl rfl rfl rfl rfl rfl rfl rfl rfl Try.underlying25 Tryinfo33 rfl rfl rfl rfl f22 (Sl.srcP Gate.pu33 f24) sy_false hx15 rfl fun a15 u15 w25 K26 S27 f28 => ⟨trivial, ?_⟩
 refine WO.k2 rfl rfl rfl rfl (rn_fieldAddr Try.runUnderlying27 rfl Try.sizeOf25 rfl rfl) ?_
 have f29 := f23.stp S27 rfl rfl
 refine WO.stB (κ := K26) 2 (off := 3) (vc := [.slice a15 x15.length u15]) (cs' := [.int .i64 p0.Inputs, .int .i64 p0.Latches, .slice a10 x10.length u10, .slice a15 x15.length u15, .slice a0_4 p0.Outs.length u0_4]) rfl rfl rfl rfl rfl rfl rfl Try.sizeOf25 rfl rfl f29 rfl rfl fun w30 S31 f32 => ⟨trivial, ?_⟩
 refine WO.fin ?_
 refine DN.seq ?_
 refine WC.seq ?_
 refine WC.rs [(0, 1), (1, 2), (2, 1), (3, 1), (4, 2), (5, 1)] rfl ?_
 refine WO.bl0 (κ := K26) (E := (Ep.int .i64)) 5 rfl rfl rfl rfl rfl Try.underlying24 Tryinfo2 rfl fun a17 u17 w33 K34 S35 f36 => ⟨trivial, ?_⟩
 refine WO.k2 rfl rfl rfl rfl (rn_fieldAddr Try.runUnderlying27 rfl Try.sizeOf24 rfl rfl) ?_
 have f37 := f32.stp S35 rfl rfl
 refine WO.k1 trivial rfl rfl rfl rfl (rn_ld Try.isAgg24 rfl rfl (hvE (f37.ld 4 rfl rfl))) ?_
 obtain ⟨x20, hx20, h⟩ := Option.bind_eq_some_iff.mp h
 have f38 := g0_4.stp (S3.tr (S7.tr (S13.tr (S17.tr (S21.tr (S27.tr (S31.tr S35))))))) rfl rfl
 refine WO.app (κ := K34) (E := (Ep.int .i64)) 5 [] rfl rfl rfl rfl rfl rfl rfl rfl rfl Try.underlying24 Tryinfo2 rfl rfl rfl rfl f36 (Sl.srcP (pu_int _) f38) sy_false hx20 rfl fun a20 u20 w39 K40 S41 f42 => ⟨trivial, ?_⟩
 refine WO.k2 rfl rfl rfl rfl (rn_fieldAddr Try.runUnderlying27 rfl Try.sizeOf24 rfl rfl) ?_
 have f43 := f37.stp S41 rfl rfl
 refine WO.stB (κ := K40) 2 (off := 4) (vc := [.slice a20 x20.length u20]) (cs' := [.int .i64 p0.Inputs, .int .i64 p0.Latches, .slice a10 x10.length u10, .slice a15 x15.length u15, .slice a20 x20.length u20]) rfl rfl rfl rfl rfl rfl rfl Try.sizeOf24 rfl rfl f43 rfl rfl fun w44 S45 f46 => ⟨trivial, ?_⟩
 refine WO.fin ?_
 refine DN.seq ?_
 refine WC.seq ?_
 refine WC.rs [(0, 1), (1, 1), (2, 2), (3, 1), (4, 2)] rfl ?_
 refine WO.k1 trivial rfl rfl rfl rfl (rn_la (cs := [.int .i64 p0.Inputs, .int .i64 p0.Latches, .slice a10 x10.length u10, .slice a15 x15.length u15, .slice a20 x20.length u20]) Try.isAgg27 Try.sizeOf27 rfl rfl rfl (haE f46.cells)) ?_
 refine WO.mkmap (κ := K40) 6 rfl rfl rfl rfl rfl kwGate kvGate (fun v : Int => .int .i64 v) fun mb23 w47 K48 S49 f50 => ⟨trivial, ?_⟩
 refine WO.k2 rfl rfl rfl rfl (rn_build (parts := [(0, .tmp 22), (2, .tmp 23)]) (cells := [.int .i64 p0.Inputs, .int .i64 p0.Latches, .slice a10 x10.length u10, .slice a15 x15.length u15, .slice a20 x20.length u20, .bool false, .map (some mb23)]) rfl rfl (by kernel_rfl)) ?_
 refine WO.box (κ := K48) 7 rfl rfl rfl rfl rfl rfl rfl fun b25 w51 K52 S53 f54 => ⟨trivial, ?_⟩
 refine WO.pn 1 rfl ?_
 refine WO.fin ?_
 refine DN.seq ?_
 refine WC.seq ?_
 refine WC.rs [(0, 2), (1, 1), (2, 2), (3, 2), (4, 1), (5, 2), (6, 2)] rfl ?_
 refine WO.k2 rfl rfl rfl rfl (rn_fieldAddr Try.runUnderlying27 rfl Try.sizeOf2 rfl rfl) ?_
 have f55 := f46.stp (S49.tr S53) rfl rfl
 refine WO.k1 trivial rfl rfl rfl rfl (rn_ld Try.isAgg2 rfl rfl (hvE (f55.ld 0 rfl rfl))) ?_
 refine WO.pn 1 rfl ?_
 refine WO.k2 rfl rfl rfl rfl (rn_fieldAddr Try.runUnderlying27 rfl Try.sizeOf2 rfl rfl) ?_
 refine WO.k1 trivial rfl rfl rfl rfl (rn_ld Try.isAgg2 rfl rfl (hvE (f55.ld 1 rfl rfl))) ?_
 refine WO.pn 2 rfl ?_
 refine WO.fin ?_
 refine DN.seq ?_
 refine WC.seq ?_
 refine WC.seq ?_
 refine WC.rs [(0, 2), (1, 1), (2, 2), (3, 2)] rfl ?_
 refine WO.k2 rfl rfl rfl rfl (rn_fieldAddr Try.runUnderlying27 rfl Try.sizeOf25 rfl rfl) ?_
 refine WO.k1 trivial rfl rfl rfl rfl (rn_ld Try.isAgg25 rfl rfl (hvE (f55.ld 3 rfl rfl))) ?_
 refine WO.k2 rfl rfl rfl rfl (rn_len Try.runUnderlying25 rfl rfl) ?_
 refine WO.pn 1 rfl ?_
 refine WO.fin ?_
 refine DN.seq ?_
 have hN56 : (x15.length : Int) ≤ 9223372036854775807 := f28.len_le
 obtain ⟨q2, hq58, hK57⟩ := Option.bind_eq_some_iff.mp h
 clear h
 refine WC.meet (fun L w' => ∃ (κ' : Col) (s3 : (List (Gate × Int))), L = [(3, .pointer (some ⟨b25, 0, none⟩))] ∧ Stp [6, 8, 11] K52 w51 κ' w' ∧ Mc kwGate kvGate (fun v : Int => .int .i64 v) κ' w' 6 mb23 s3 ∧ q2 = Sum.inr s3) ?_ ?_
 ·
  refine WC.block ?_
  have f69 := f50.stp S53 rfl rfl
  refine WC.loop (fun k L w' => ∃ (κ' : Col) (v35 : Int) (s1 : (List (Gate × Int))), L = [(3, .pointer (some ⟨b25, 0, none⟩)), (4, .int .i64 (IntKind.i64.wrap ((IntKind.i64.wrap (1 + p0.Inputs)) + p0.Latches))), (33, .slice a15 x15.length u15), (34, .int .i64 (x15.length : Int)), (35, .int .i64 v35)] ∧ Stp [6, 8, 11] K52 w51 κ' w' ∧ Mc kwGate kvGate (fun v : Int => .int .i64 v) κ' w' 6 mb23 s1 ∧ 0 ≤ v35 ∧ Int.toNat ((x15.length : Int) - v35) = k ∧ cntM (i_newBuilder_b0 p0 x10 x15 x20) k v35 s1 = some q2) ⟨_, _, ⟨K52, 0, (([] : List (Gate × Int)) : (List (Gate × Int))), rfl, (Stp.refl _ _).wk rfl, f69, (by decide), (by simp), hq58⟩, fun a ha => (ha.more (ha.more (ha.more (ha.more (ha.more ha.nil rfl) rfl) rfl) rfl) rfl)⟩ ?_
  rintro k _ w64 ⟨K65, v35, s1, rfl, S66, f67, hj56, hJ56, h⟩
  rcases k with _ | k
  ·
   have hk70 := h; obtain ⟨o56, h⟩ := ex_eq (Sum.inr (Sum.inl s1) : builder ⊕ (((List (Gate × Int))) ⊕ ((List (Gate × Int)))))
   have hc56 : decide (v35 < (x15.length : Int)) = false := decide_eq_false (by omega)
   refine WC.seq ?_
   refine WC.rs [(0, 2)] rfl ?_
   refine WO.pn 1 rfl ?_
   refine WO.fin ?_
   refine DN.seq ?_
   refine WC.seq ?_
   refine WC.cf' rfl hc56 ?_
   refine WC.exit ?_
   refine DN.exitThen ?_
   refine DN.exitThen ?_
   obtain rfl := Option.some.inj h
   have h := hk70
   refine DN.hit ?_
   obtain rfl := Option.some.inj h
   exact DN.meet _ ⟨K65, (s1 : (List (Gate × Int))), rfl, S66.wk rfl, f67, rfl⟩ fun a ha => (ha.more ha.nil rfl)
  ·
   obtain ⟨o56, h, hk70⟩ := Option.bind_eq_some_iff.mp h; unfold i_newBuilder_b0 at h
   have hc56 : decide (v35 < (x15.length : Int)) = true := decide_eq_true (by omega)
   refine WC.seq ?_
   refine WC.rs [(0, 2)] rfl ?_
   refine WO.pn 1 rfl ?_
   refine WO.fin ?_
   refine DN.seq ?_
   refine WC.seq ?_
   refine WC.ct' rfl hc56 ?_
   refine WC.skip ?_
   refine DN.seq ?_
   refine WC.seq ?_
   refine WC.block ?_
   refine WC.seq ?_
   refine WC.rs [(0, 2), (1, 2), (2, 1), (3, 1), (4, 2), (5, 1)] rfl ?_
   refine WO.pn 1 rfl ?_
   obtain ⟨x38, hx38, h⟩ := Option.bind_eq_some_iff.mp h
   refine WO.k2 rfl rfl rfl rfl (rn_index f28.rdc hx38 Try.runUnderlying25 Try.sizeOf33 rfl rfl rfl rfl) ?_
   have f71 := f28.stp (S31.tr (S35.tr (S41.tr (S45.tr (S49.tr (S53.tr S66)))))) rfl rfl
   obtain ⟨cse72, hre72, hle72⟩ := (f71.rdc).gSt hx38
   obtain rfl := Gate.un hre72
   refine WO.k1 trivial rfl rfl rfl rfl (rn_la (cs := [.int .i64 x38.A, .int .i64 x38.B]) Try.isAgg33 Try.sizeOf33 rfl rfl rfl (haE hle72)) ?_
   refine WO.alloc (κ := K65) 8 rfl rfl rfl rfl rfl Try.zeroValue33 rfl fun b6 w73 K74 S75 f76 => ⟨trivial, ?_⟩
   refine WO.pn 1 rfl ?_
   refine WO.stB0 (κ := K74) 8 (vc := [.int .i64 x38.A, .int .i64 x38.B]) rfl rfl rfl rfl rfl rfl rfl Try.sizeOf33 rfl rfl f76 rfl fun w77 S78 f79 => ⟨trivial, ?_⟩
   refine WO.fin ?_
   refine DN.seq ?_
   refine WC.rs [(0, 2), (1, 1), (2, 2), (3, 2), (4, 2), (5, 2), (6, 1)] rfl ?_
   refine WO.pn 1 rfl ?_
   refine WO.k1 trivial rfl rfl rfl rfl (rn_la (cs := [.int .i64 x38.A, .int .i64 x38.B]) Try.isAgg33 Try.sizeOf33 rfl rfl rfl (haE f79.cells)) ?_
   refine WO.pn 4 rfl ?_
   obtain ⟨x46, hx46, h⟩ := Option.bind_eq_some_iff.mp h
   have f80 := f14.stp (S17.tr (S21.tr (S27.tr (S31.tr (S35.tr (S41.tr (S45.tr (S49.tr (S53.tr (S66.tr (S75.tr S78))))))))))) rfl rfl
   have f81 := f71.stp (S75.tr S78) rfl rfl
   have f82 := f42.stp (S45.tr (S49.tr (S53.tr (S66.tr (S75.tr S78))))) rfl rfl
   have f83 := f67.stp (S75.tr S78) rfl rfl
   have f84 := f54.stp (S66.tr (S75.tr S78)) rfl rfl
   refine WO.call rfl rfl rfl rfl rfl rfl Try.call72 (i_builder_learn_ok (κ := fun b => mp [(6, 2)] 0 (K74 b)) (p1 := x38) (p0 := (⟨(⟨p0.Inputs, p0.Latches, x10, x15, x20⟩ : Circuit), false, s1⟩ : builder)) (Sl.map f80.rdc (mp [(6, 2)] 0) rfl rfl) (Sl.map f81.rdc (mp [(6, 2)] 0) rfl rfl) (Sl.map f82.rdc (mp [(6, 2)] 0) rfl rfl) (f83.map (mp [(6, 2)] 0) rfl rfl) (f84.map (mp [(6, 2)] 0) rfl rfl) hx46) ?_
   rintro _ w85 ⟨k86, rfl, e87, f88⟩
   obtain ⟨K89, S90, m91⟩ := Ent.mixed (l := [(6, 2)]) (κ := K74) e87 9 rfl
   refine ⟨trivial, ?_⟩
   have f93 := f88.mx' m91 rfl (rfl : 9 + 2 = 11)
   refine WO.fin ?_
   refine DN.block ?_
   refine DN.seq ?_
   refine WC.rs [(0, 2), (1, 2)] rfl ?_
   refine WO.pn 2 rfl ?_
   refine WO.fin ?_
   have hw56 : IntKind.wrap .i64 (v35 + 1) = v35 + 1 := wr1 hj56 (of_decide_eq_true hc56) hN56
   rw [hw56]
   have hc56 := of_decide_eq_true hc56
   obtain rfl := Option.some.inj h
   refine DN.round fun a ha => ?_
   exact ⟨k, _, Nat.lt_succ_self _, ⟨(fun b => ren [(11, 6)] (K89 b)), v35 + 1, (x46 : (List (Gate × Int))), rfl, (Stp.ren ((S66.tr (S75.tr (S78.tr S90))).wk rfl) [(11, 6)] rfl), (f93.map (ren [(11, 6)]) rfl rfl), by omega, by omega, hk70⟩, (ha.more (ha.more (ha.more (ha.more (ha.more ha.nil rfl) rfl) rfl) rfl) rfl)⟩
 rintro _ w59 ⟨K60, s3, rfl, S61, f62, rfl⟩
 have h := hK57
 dsimp only [aft] at h
 refine DN.seq ?_
 refine WC.seq ?_
 refine WC.rs [(0, 2), (1, 2)] rfl ?_
 refine WO.pn 2 rfl ?_
 refine WO.fin ?_
 refine DN.seq ?_
 refine WC.ret ?_
 have f94 := hE.stp (S3.tr (S7.tr (S13.tr (S17.tr (S21.tr (S27.tr (S31.tr (S35.tr (S41.tr (S45.tr (S49.tr (S53.tr S61)))))))))))) rfl rfl
 have f95 := f14.stp (S17.tr (S21.tr (S27.tr (S31.tr (S35.tr (S41.tr (S45.tr (S49.tr (S53.tr S61))))))))) rfl rfl
 have f96 := f28.stp (S31.tr (S35.tr (S41.tr (S45.tr (S49.tr (S53.tr S61)))))) rfl rfl
 have f97 := f42.stp (S45.tr (S49.tr (S53.tr S61))) rfl rfl
 have f98 := f54.stp S61 rfl rfl
 refine DN.res (l := [.tmp 2]) Try.results43 (res_tmp rfl rfl) rfl ?_
 obtain rfl := Option.some.inj h
 exact ⟨(fun b => ren [(3, 2), (4, 3), (5, 4), (6, 5), (7, 6)] (K60 b)), a10, u10, a15, u15, a20, u20, mb23, b25, rfl, (f94.map (ren [(3, 2), (4, 3), (5, 4), (6, 5), (7, 6)]) rfl rfl), (f95.map (ren [(3, 2), (4, 3), (5, 4), (6, 5), (7, 6)]) rfl rfl), (f96.map (ren [(3, 2), (4, 3), (5, 4), (6, 5), (7, 6)]) rfl rfl), (f97.map (ren [(3, 2), (4, 3), (5, 4), (6, 5), (7, 6)]) rfl rfl), (f62.map (ren [(3, 2), (4, 3), (5, 4), (6, 5), (7, 6)]) rfl rfl), (f98.map (ren [(3, 2), (4, 3), (5, 4), (6, 5), (7, 6)]) rfl rfl)⟩

/- slices.Contains[[]bool,bool] -/
theorem slices_Contains_bool_bool_ok {w : World} {κ : Col} {a0 : Option Addr} {u0 : Nat} {p0 : (List Bool)} {p1 : Bool} (g0 : Rd Rp.bool κ w 0 a0 u0 p0) {r : Bool} (h : slices_Contains_bool_bool p0 p1 = some r) : Ret Try.prog 78 [.slice a0 p0.length u0, .bool p1] w (fun v w' => ∃ (κ' : Col), v = .bool r ∧ Ent κ w κ' w') := by
 unfold slices_Contains_bool_bool at h
 refine Ret.enter Try.func78 rfl Try.ntmps78 rfl ?_
 dsimp only [envOf]
 have hE := Ent.refl κ w
 refine WC.seq ?_
 refine WC.rs [(0, 2)] rfl ?_
 refine WO.pn 1 rfl ?_
 refine WO.fin ?_
 refine DN.seq ?_
 refine WC.seq ?_
 refine WC.rs [(0, 2), (1, 2), (2, 1), (3, 2), (4, 2)] rfl ?_
 refine WO.pn 2 rfl ?_
 obtain ⟨x7, hx7, h⟩ := Option.bind_eq_some_iff.mp h
 refine WO.call rfl rfl rfl rfl rfl rfl Try.call85 (slices_Index_bool_bool_ok (κ := fun b => mp [] 0 (κ b)) (Sl.map g0 (mp [] 0) rfl rfl) hx7) ?_
 rintro _ w1 ⟨k2, rfl, e3⟩
 obtain ⟨K4, S5, m6⟩ := Ent.mixed (l := []) (κ := κ) e3 2 rfl
 refine ⟨trivial, ?_⟩
 refine WO.pn 2 rfl ?_
 refine WO.fin ?_
 refine DN.seq ?_
 refine WC.ret ?_
 have f8 := hE.stp S5 rfl rfl
 refine DN.res (l := [.tmp 4]) Try.results78 (res_tmp rfl rfl) rfl ?_
 obtain rfl := Option.some.inj h
 exact ⟨K4, rfl, f8⟩

/- loop.example/g00869/spec.l23Below -/
theorem s_l23Below_ok {w : World} {κ : Col} {a0 : Option Addr} {u0 : Nat} {p0 : (List Int)} {p1 : Int} (g0 : Rd (Rp.int .i64) κ w 0 a0 u0 p0) {r : Bool} (h : s_l23Below p0 p1 = some r) : Ret Try.prog 57 [.slice a0 p0.length u0, .int .i64 p1] w (fun v w' => ∃ (κ' : Col), v = .bool r ∧ Ent κ w κ' w') := by
 unfold s_l23Below at h
 refine Ret.enter Try.func57 rfl Try.ntmps57 rfl ?_
 dsimp only [envOf]
 have hE := Ent.refl κ w
 refine WC.seq ?_
 refine WC.rs [(0, 2)] rfl ?_
 refine WO.pn 1 rfl ?_
 refine WO.fin ?_
 refine DN.seq ?_
 refine WC.seq ?_
 refine WC.seq ?_
 refine WC.rs [(0, 2)] rfl ?_
 refine WO.pn 1 rfl ?_
 refine WO.fin ?_
 refine DN.seq ?_
 have hN1 : (p0.length : Int) ≤ 9223372036854775807 := g0.len_le
 obtain ⟨q2, hq3, hK2⟩ := Option.bind_eq_some_iff.mp h
 clear h
 refine WC.meet (fun L w' => ∃ (κ' : Col), L = [] ∧ Stp [] κ w κ' w' ∧ q2 = Sum.inr ()) ?_ ?_
 ·
  refine WC.block ?_
  refine WC.loop (fun k L w' => ∃ (κ' : Col) (v5 : Int), L = [(0, .slice a0 p0.length u0), (1, .int .i64 p1), (5, .int .i64 v5)] ∧ Stp [] κ w κ' w' ∧ 0 ≤ v5 ∧ Int.toNat ((p0.length : Int) - v5) = k ∧ cntM (s_l23Below_b0 p0 p1) k v5 () = some q2) ⟨_, _, ⟨κ, 0, rfl, (Stp.refl _ _).wk rfl, (by decide), (by simp), hq3⟩, fun a ha => (ha.more (ha.more (ha.more ha.nil rfl) rfl) rfl)⟩ ?_
  rintro k _ w7 ⟨K8, v5, rfl, S9, hj1, hJ1, h⟩
  rcases k with _ | k
  ·
   have hk10 := h; obtain ⟨o1, h⟩ := ex_eq (Sum.inr (Sum.inl ()) : Bool ⊕ ((Unit) ⊕ (Unit)))
   have hc1 : decide (v5 < (p0.length : Int)) = false := decide_eq_false (by omega)
   refine WC.seq ?_
   refine WC.seq ?_
   refine WC.rs [(0, 2), (1, 2), (2, 2), (3, 2)] rfl ?_
   refine WO.pn 2 rfl ?_
   refine WO.k2 rfl rfl rfl rfl (rn_len Try.runUnderlying24 rfl rfl) ?_
   refine WO.pn 1 rfl ?_
   refine WO.fin ?_
   refine DN.seq ?_
   refine WC.cf' rfl hc1 ?_
   refine WC.exit ?_
   refine DN.exitThen ?_
   refine DN.exitThen ?_
   obtain rfl := Option.some.inj h
   have h := hk10
   refine DN.hit ?_
   obtain rfl := Option.some.inj h
   exact DN.meet _ ⟨K8, rfl, S9.wk rfl, rfl⟩ fun a ha => ha.nil
  ·
   obtain ⟨o1, h, hk10⟩ := Option.bind_eq_some_iff.mp h; unfold s_l23Below_b0 at h
   have hc1 : decide (v5 < (p0.length : Int)) = true := decide_eq_true (by omega)
   refine WC.seq ?_
   refine WC.seq ?_
   refine WC.rs [(0, 2), (1, 2), (2, 2), (3, 2)] rfl ?_
   refine WO.pn 2 rfl ?_
   refine WO.k2 rfl rfl rfl rfl (rn_len Try.runUnderlying24 rfl rfl) ?_
   refine WO.pn 1 rfl ?_
   refine WO.fin ?_
   refine DN.seq ?_
   refine WC.ct' rfl hc1 ?_
   refine WC.skip ?_
   refine DN.seq ?_
   refine WC.seq ?_
   refine WC.block ?_
   refine WC.seq ?_
   refine WC.rs [(0, 2), (1, 2), (2, 2), (3, 1), (4, 2), (5, 2), (6, 1), (7, 2)] rfl ?_
   refine WO.pn 2 rfl ?_
   obtain ⟨x14, hx14, h⟩ := Option.bind_eq_some_iff.mp h
   refine WO.k2 rfl rfl rfl rfl (rn_index g0 hx14 Try.runUnderlying24 Try.sizeOf2 rfl rfl rfl rfl) ?_
   have f11 := g0.stp S9 rfl rfl
   refine WO.k1 trivial rfl rfl rfl rfl (rn_ld Try.isAgg2 rfl rfl (hvE (f11.gInt hx14))) ?_
   refine WO.pn 2 rfl ?_
   obtain ⟨x18, hx18, h⟩ := Option.bind_eq_some_iff.mp h
   refine WO.call rfl rfl rfl rfl rfl rfl Try.call33 (s_l1In_ok (κ := fun b => mp [] 0 (K8 b)) hx18) ?_
   rintro _ w12 ⟨k13, rfl, e14⟩
   obtain ⟨K15, S16, m17⟩ := Ent.mixed (l := []) (κ := K8) e14 2 rfl
   refine ⟨trivial, ?_⟩
   refine WO.pn 1 rfl ?_
   refine WO.fin ?_
   refine DN.seq ?_
   revert h
   cases ht19 : (!x18) with
   | true =>
    intro h; replace h := cT h
    refine WC.ct rfl ?_
    refine WC.seq ?_
    refine WC.rs [(0, 2)] rfl ?_
    refine WO.pn 1 rfl ?_
    refine WO.fin ?_
    refine DN.seq ?_
    refine WC.ret ?_
    refine DN.retBlock ?_
    refine DN.retThen ?_
    refine DN.retThen ?_
    obtain rfl := Option.some.inj h
    obtain rfl := Option.some.inj hk10
    have h := hK2
    dsimp only [aft] at h
    refine DN.retBlock ?_
    refine DN.retMeet ?_
    refine DN.retThen ?_
    have f20 := hE.stp (S9.tr S16) rfl rfl
    refine DN.res (l := [.tmp 4]) Try.results57 (res_tmp rfl rfl) rfl ?_
    obtain rfl := Option.some.inj h
    exact ⟨K15, rfl, f20⟩
   | false =>
    intro h; replace h := cF h
    refine WC.cf rfl ?_
    refine WC.skip ?_
    refine DN.block ?_
    refine DN.seq ?_
    refine WC.rs [(0, 2), (1, 2), (2, 2)] rfl ?_
    refine WO.pn 3 rfl ?_
    refine WO.fin ?_
    have hw1 : IntKind.wrap .i64 (v5 + 1) = v5 + 1 := wr1 hj1 (of_decide_eq_true hc1) hN1
    rw [hw1]
    have hc1 := of_decide_eq_true hc1
    obtain rfl := Option.some.inj h
    refine DN.round fun a ha => ?_
    exact ⟨k, _, Nat.lt_succ_self _, ⟨K15, v5 + 1, rfl, (S9.tr S16).wk rfl, by omega, by omega, hk10⟩, (ha.more (ha.more (ha.more ha.nil rfl) rfl) rfl)⟩
 rintro _ w4 ⟨K5, rfl, S6, rfl⟩
 have h := hK2
 dsimp only [aft] at h
 refine DN.seq ?_
 refine WC.seq ?_
 refine WC.rs [(0, 2)] rfl ?_
 refine WO.pn 1 rfl ?_
 refine WO.fin ?_
 refine DN.seq ?_
 refine WC.ret ?_
 have f21 := hE.stp S6 rfl rfl
 refine DN.res (l := [.tmp 4]) Try.results57 (res_tmp rfl rfl) rfl ?_
 obtain rfl := Option.some.inj h
 exact ⟨K5, rfl, f21⟩

/- slices.Contains[[][2]int64,[2]int64] -/
theorem slices_Contains_2_int64_2_int64_ok {w : World} {κ : Col} {a0 : Option Addr} {u0 : Nat} {p0 : (List (Int × Int))} {p1 : (Int × Int)} (g0 : Rd (Rp.pair (Rp.int .i64) (Rp.int .i64)) κ w 0 a0 u0 p0) {r : Bool} (h : slices_Contains_2_int64_2_int64 p0 p1 = some r) : Ret Try.prog 60 [.slice a0 p0.length u0, .agg #[.int .i64 p1.1, .int .i64 p1.2]] w (fun v w' => ∃ (κ' : Col), v = .bool r ∧ Ent κ w κ' w') := by
 unfold slices_Contains_2_int64_2_int64 at h
 refine Ret.enter Try.func60 rfl Try.ntmps60 rfl ?_
 dsimp only [envOf]
 have hE := Ent.refl κ w
 refine WC.seq ?_
 refine WC.rs [(0, 1), (1, 2)] rfl ?_
 refine WO.box (κ := κ) 2 rfl rfl rfl rfl rfl rfl rfl fun b3 w1 K2 S3 f4 => ⟨trivial, ?_⟩
 refine WO.pn 1 rfl ?_
 refine WO.fin ?_
 refine DN.seq ?_
 refine WC.seq ?_
 refine WC.rs [(0, 2), (1, 1), (2, 1), (3, 2), (4, 2)] rfl ?_
 refine WO.pn 1 rfl ?_
 refine WO.k1 trivial rfl rfl rfl rfl (rn_la (cs := [.int .i64 p1.1, .int .i64 p1.2]) Try.isAgg81 Try.sizeOf81 rfl rfl rfl (haE f4.cells)) ?_
 obtain ⟨x7, hx7, h⟩ := Option.bind_eq_some_iff.mp h
 have f5 := g0.stp S3 rfl rfl
 refine WO.call rfl rfl rfl rfl rfl rfl Try.call79 (slices_Index_2_int64_2_int64_ok (κ := fun b => mp [] 0 (K2 b)) (p1 := p1) (Sl.map f5 (mp [] 0) rfl rfl) hx7) ?_
 rintro _ w6 ⟨k7, rfl, e8⟩
 obtain ⟨K9, S10, m11⟩ := Ent.mixed (l := []) (κ := K2) e8 3 rfl
 refine ⟨trivial, ?_⟩
 refine WO.pn 2 rfl ?_
 refine WO.fin ?_
 refine DN.seq ?_
 refine WC.ret ?_
 have f13 := hE.stp (S3.tr S10) rfl rfl
 refine DN.res (l := [.tmp 4]) Try.results60 (res_tmp rfl rfl) rfl ?_
 obtain rfl := Option.some.inj h
 exact ⟨K9, rfl, f13⟩

/- loop.example/g00869/spec.l31Join -/
theorem s_l31Join_ok {w : World} {κ : Col} {a0_2 : Option Addr} {u0_2 : Nat} {a0_3 : Option Addr} {u0_3 : Nat} {a0_4 : Option Addr} {u0_4 : Nat} {p0 : Circuit} {p1 : Int} {p2 : Int} (g0_2 : Rd (Rp.int .i64) κ w 0 a0_2 u0_2 p0.Next) (g0_3 : Oc Gate.ep33 33 κ w 2 a0_3 u0_3 p0.Gates) (g0_4 : Rd (Rp.int .i64) κ w 0 a0_4 u0_4 p0.Outs) {r : Circuit × Int} (h : s_l31Join p0 p1 p2 = some r) : Ret Try.prog 46 [.agg #[.int .i64 p0.Inputs, .int .i64 p0.Latches, .slice a0_2 p0.Next.length u0_2, .slice a0_3 p0.Gates.length u0_3, .slice a0_4 p0.Outs.length u0_4], .int .i64 p1, .int .i64 p2] w (fun v w' => ∃ (κ' : Col) (ra0 : Option Addr) (ru0 : Nat) (ra1 : Option Addr) (ru1 : Nat) (ra2 : Option Addr) (ru2 : Nat), v = .tuple #[.agg #[.int .i64 r.1.Inputs, .int .i64 r.1.Latches, .slice ra0 r.1.Next.length ru0, .slice ra1 r.1.Gates.length ru1, .slice ra2 r.1.Outs.length ru2], .int .i64 r.2] ∧ Ent κ w κ' w' ∧ Rd (Rp.int .i64) κ' w' 0 ra0 ru0 r.1.Next ∧ Oc Gate.ep33 33 κ' w' 4 ra1 ru1 r.1.Gates ∧ Rd (Rp.int .i64) κ' w' 0 ra2 ru2 r.1.Outs) := by
 unfold s_l31Join at h
 refine Ret.enter Try.func46 rfl Try.ntmps46 rfl ?_
 dsimp only [envOf]
 have hE := Ent.refl κ w
 refine WC.seq ?_
 refine WC.rs [(0, 1), (1, 1), (2, 2)] rfl ?_
 refine WO.box (κ := κ) 3 rfl rfl rfl rfl rfl rfl rfl fun b3 w1 K2 S3 f4 => ⟨trivial, ?_⟩
 refine WO.alloc (κ := K2) 4 rfl rfl rfl rfl rfl Try.zeroValue27 rfl fun b6 w5 K6 S7 f8 => ⟨trivial, ?_⟩
 refine WO.pn 1 rfl ?_
 refine WO.fin ?_
 refine DN.seq ?_
 refine WC.seq ?_
 refine WC.block ?_
 refine WC.seq ?_
 refine WC.rs [(0, 2), (1, 2), (2, 2), (3, 2), (4, 2), (5, 2), (6, 2), (7, 2), (8, 2), (9, 1), (10, 2), (11, 2), (12, 2)] rfl ?_
 refine WO.pn 3 rfl ?_
 obtain ⟨p16, h, hK9⟩ := Option.bind_eq_some_iff.mp h
 refine WO.meet [(3, 2), (4, 2), (5, 2)] [(6, 2), (7, 2), (8, 2), (9, 1), (10, 2), (11, 2), (12, 2)] (fun L w' => L = [(1, .int .i64 p1), (2, .int .i64 p2), (3, .pointer (some ⟨b3, 0, none⟩)), (6, .pointer (some ⟨b6, 0, none⟩)), (16, .bool p16)] ∧ ∃ κ', Stp [] K6 w5 κ' w') trivial ?_ ?_
 ·
  revert h
  cases ht10 : (p1 == 0) with
  | true =>
   intro h; replace h := cT h
   refine WO.pn 3 rfl ?_
   obtain rfl := Option.some.inj h
   exact WO.met _ trivial ⟨rfl, _, (Stp.refl _ _).wk rfl⟩ fun a ha => (ha.more (ha.more (ha.more (ha.more (ha.more ha.nil rfl) rfl) rfl) rfl) rfl)
  | false =>
   intro h; replace h := cF h
   refine WO.pn 3 rfl ?_
   obtain rfl := Option.some.inj h
   exact WO.met _ trivial ⟨rfl, _, (Stp.refl _ _).wk rfl⟩ fun a ha => (ha.more (ha.more (ha.more (ha.more (ha.more ha.nil rfl) rfl) rfl) rfl) rfl)
 rintro _ w11 _ ⟨rfl, K12, S13⟩
 have h := hK9
 refine WO.pn 1 rfl ?_
 obtain ⟨p22, h, hK14⟩ := Option.bind_eq_some_iff.mp h
 refine WO.meet [(7, 2), (8, 2), (9, 1), (10, 2), (11, 2)] [(12, 2)] (fun L w' => L = [(1, .int .i64 p1), (2, .int .i64 p2), (3, .pointer (some ⟨b3, 0, none⟩)), (6, .pointer (some ⟨b6, 0, none⟩)), (22, .bool p22)] ∧ ∃ κ', Stp [] K12 w11 κ' w') trivial ?_ ?_
 ·
  revert h
  cases ht15 : p16 with
  | true =>
   intro h; replace h := cT h
   refine WO.pn 2 rfl ?_
   refine WO.ls rfl rfl rfl rfl ?_
   refine WO.pn 2 rfl ?_
   obtain rfl := Option.some.inj h
   exact WO.met _ trivial ⟨rfl, _, (Stp.refl _ _).wk rfl⟩ fun a ha => (ha.more (ha.more (ha.more (ha.more (ha.more ha.nil rfl) rfl) rfl) rfl) rfl)
  | false =>
   intro h; replace h := cF h
   refine WO.pn 2 rfl ?_
   obtain ⟨x20, hx20, h⟩ := Option.bind_eq_some_iff.mp h
   refine WO.call rfl rfl rfl rfl rfl rfl Try.call73 (s_l31Turn_ok (κ := fun b => mp [] 0 (K12 b)) hx20) ?_
   rintro _ w16 ⟨k17, rfl, e18⟩
   obtain ⟨K19, S20, m21⟩ := Ent.mixed (l := []) (κ := K12) e18 5 rfl
   refine ⟨trivial, ?_⟩
   refine WO.pn 2 rfl ?_
   obtain rfl := Option.some.inj h
   exact WO.met _ trivial ⟨rfl, _, S20.wk rfl⟩ fun a ha => (ha.more (ha.more (ha.more (ha.more (ha.more ha.nil rfl) rfl) rfl) rfl) rfl)
 rintro _ w23 _ ⟨rfl, K24, S25⟩
 have h := hK14
 refine WO.pn 1 rfl ?_
 refine WO.fin ?_
 refine DN.seq ?_
 revert h
 cases ht26 : p22 with
 | true =>
  intro h; replace h := cT h
  refine WC.ct rfl ?_
  refine WC.seq ?_
  refine WC.rs [(0, 1), (1, 1), (2, 2)] rfl ?_
  have f27 := f4.stp (S7.tr (S13.tr S25)) rfl rfl
  refine WO.k1 trivial rfl rfl rfl rfl (rn_la (cs := [.int .i64 p0.Inputs, .int .i64 p0.Latches, .slice a0_2 p0.Next.length u0_2, .slice a0_3 p0.Gates.length u0_3, .slice a0_4 p0.Outs.length u0_4]) Try.isAgg27 Try.sizeOf27 rfl rfl rfl (haE f27.cells)) ?_
  have f28 := f8.stp (S13.tr S25) rfl rfl
  refine WO.stB0 (κ := K24) 4 (vc := [.int .i64 p0.Inputs, .int .i64 p0.Latches, .slice a0_2 p0.Next.length u0_2, .slice a0_3 p0.Gates.length u0_3, .slice a0_4 p0.Outs.length u0_4]) rfl rfl rfl rfl rfl rfl rfl Try.sizeOf27 rfl rfl f28 rfl fun w29 S30 f31 => ⟨trivial, ?_⟩
  refine WO.pn 1 rfl ?_
  refine WO.fin ?_
  refine DN.seq ?_
  refine WC.ret ?_
  refine DN.retBlock ?_
  refine DN.retThen ?_
  have f32 := hE.stp (S3.tr (S7.tr (S13.tr (S25.tr S30)))) rfl rfl
  have f33 := g0_2.stp (S3.tr (S7.tr (S13.tr (S25.tr S30)))) rfl rfl
  have f34 := g0_3.stp (S3.tr (S7.tr (S13.tr (S25.tr S30)))) rfl rfl
  have f35 := g0_4.stp (S3.tr (S7.tr (S13.tr (S25.tr S30)))) rfl rfl
  refine DN.res (l := [.cell 6 27, .tmp 7]) Try.results46 (res_cellA rfl f31 Try.isAgg27 Try.sizeOf27 rfl (res_tmp rfl rfl)) rfl ?_
  obtain rfl := Option.some.inj h
  exact ⟨(fun b => ren [(2, 4)] (K24 b)), a0_2, u0_2, a0_3, u0_3, a0_4, u0_4, rfl, (f32.map (ren [(2, 4)]) rfl rfl), (f33.map (ren [(2, 4)]) rfl rfl), (f34.map (ren [(2, 4)]) rfl rfl), (f35.map (ren [(2, 4)]) rfl rfl)⟩
 | false =>
  intro h; replace h := cF h
  refine WC.cf rfl ?_
  refine WC.seq ?_
  refine WC.rs [(0, 2), (1, 2), (2, 2)] rfl ?_
  refine WO.pn 3 rfl ?_
  refine WO.fin ?_
  refine DN.seq ?_
  revert h
  cases ht36 : (p1 == 1) with
  | true =>
   intro h; replace h := cT h
   refine WC.ct rfl ?_
   refine WC.seq ?_
   refine WC.rs [(0, 1), (1, 2), (2, 1), (3, 2)] rfl ?_
   have f37 := f4.stp (S7.tr (S13.tr S25)) rfl rfl
   refine WO.k1 trivial rfl rfl rfl rfl (rn_la (cs := [.int .i64 p0.Inputs, .int .i64 p0.Latches, .slice a0_2 p0.Next.length u0_2, .slice a0_3 p0.Gates.length u0_3, .slice a0_4 p0.Outs.length u0_4]) Try.isAgg27 Try.sizeOf27 rfl rfl rfl (haE f37.cells)) ?_
   refine WO.pn 1 rfl ?_
   have f38 := f8.stp (S13.tr S25) rfl rfl
   refine WO.stB0 (κ := K24) 4 (vc := [.int .i64 p0.Inputs, .int .i64 p0.Latches, .slice a0_2 p0.Next.length u0_2, .slice a0_3 p0.Gates.length u0_3, .slice a0_4 p0.Outs.length u0_4]) rfl rfl rfl rfl rfl rfl rfl Try.sizeOf27 rfl rfl f38 rfl fun w39 S40 f41 => ⟨trivial, ?_⟩
   refine WO.pn 1 rfl ?_
   refine WO.fin ?_
   refine DN.seq ?_
   refine WC.ret ?_
   refine DN.retBlock ?_
   refine DN.retThen ?_
   have f42 := hE.stp (S3.tr (S7.tr (S13.tr (S25.tr S40)))) rfl rfl
   have f43 := g0_2.stp (S3.tr (S7.tr (S13.tr (S25.tr S40)))) rfl rfl
   have f44 := g0_3.stp (S3.tr (S7.tr (S13.tr (S25.tr S40)))) rfl rfl
   have f45 := g0_4.stp (S3.tr (S7.tr (S13.tr (S25.tr S40)))) rfl rfl
   refine DN.res (l := [.cell 6 27, .tmp 7]) Try.results46 (res_cellA rfl f41 Try.isAgg27 Try.sizeOf27 rfl (res_tmp rfl rfl)) rfl ?_
   obtain rfl := Option.some.inj h
   exact ⟨(fun b => ren [(2, 4)] (K24 b)), a0_2, u0_2, a0_3, u0_3, a0_4, u0_4, rfl, (f42.map (ren [(2, 4)]) rfl rfl), (f43.map (ren [(2, 4)]) rfl rfl), (f44.map (ren [(2, 4)]) rfl rfl), (f45.map (ren [(2, 4)]) rfl rfl)⟩
  | false =>
   intro h; replace h := cF h
   refine WC.cf rfl ?_
   refine WC.seq ?_
   refine WC.rs [(0, 2), (1, 2), (2, 2), (3, 2), (4, 2), (5, 2), (6, 2), (7, 2)] rfl ?_
   refine WO.pn 3 rfl ?_
   obtain ⟨p36, h, hK46⟩ := Option.bind_eq_some_iff.mp h
   refine WO.meet [(3, 2), (4, 2), (5, 2), (6, 2)] [(7, 2)] (fun L w' => L = [(1, .int .i64 p1), (2, .int .i64 p2), (3, .pointer (some ⟨b3, 0, none⟩)), (6, .pointer (some ⟨b6, 0, none⟩)), (36, .bool p36)] ∧ ∃ κ', Stp [] K24 w23 κ' w') trivial ?_ ?_
   ·
    revert h
    cases ht47 : (p2 == 1) with
    | true =>
     intro h; replace h := cT h
     refine WO.pn 4 rfl ?_
     obtain rfl := Option.some.inj h
     exact WO.met _ trivial ⟨rfl, _, (Stp.refl _ _).wk rfl⟩ fun a ha => (ha.more (ha.more (ha.more (ha.more (ha.more ha.nil rfl) rfl) rfl) rfl) rfl)
    | false =>
     intro h; replace h := cF h
     refine WO.pn 4 rfl ?_
     obtain rfl := Option.some.inj h
     exact WO.met _ trivial ⟨rfl, _, (Stp.refl _ _).wk rfl⟩ fun a ha => (ha.more (ha.more (ha.more (ha.more (ha.more ha.nil rfl) rfl) rfl) rfl) rfl)
   rintro _ w48 _ ⟨rfl, K49, S50⟩
   have h := hK46
   refine WO.pn 1 rfl ?_
   refine WO.fin ?_
   refine DN.seq ?_
   revert h
   cases ht51 : p36 with
   | true =>
    intro h; replace h := cT h
    refine WC.ct rfl ?_
    refine WC.seq ?_
    refine WC.rs [(0, 1), (1, 2), (2, 1), (3, 2)] rfl ?_
    have f52 := f4.stp (S7.tr (S13.tr (S25.tr S50))) rfl rfl
    refine WO.k1 trivial rfl rfl rfl rfl (rn_la (cs := [.int .i64 p0.Inputs, .int .i64 p0.Latches, .slice a0_2 p0.Next.length u0_2, .slice a0_3 p0.Gates.length u0_3, .slice a0_4 p0.Outs.length u0_4]) Try.isAgg27 Try.sizeOf27 rfl rfl rfl (haE f52.cells)) ?_
    refine WO.pn 1 rfl ?_
    have f53 := f8.stp (S13.tr (S25.tr S50)) rfl rfl
    refine WO.stB0 (κ := K49) 4 (vc := [.int .i64 p0.Inputs, .int .i64 p0.Latches, .slice a0_2 p0.Next.length u0_2, .slice a0_3 p0.Gates.length u0_3, .slice a0_4 p0.Outs.length u0_4]) rfl rfl rfl rfl rfl rfl rfl Try.sizeOf27 rfl rfl f53 rfl fun w54 S55 f56 => ⟨trivial, ?_⟩
    refine WO.pn 1 rfl ?_
    refine WO.fin ?_
    refine DN.seq ?_
    refine WC.ret ?_
    refine DN.retBlock ?_
    refine DN.retThen ?_
    have f57 := hE.stp (S3.tr (S7.tr (S13.tr (S25.tr (S50.tr S55))))) rfl rfl
    have f58 := g0_2.stp (S3.tr (S7.tr (S13.tr (S25.tr (S50.tr S55))))) rfl rfl
    have f59 := g0_3.stp (S3.tr (S7.tr (S13.tr (S25.tr (S50.tr S55))))) rfl rfl
    have f60 := g0_4.stp (S3.tr (S7.tr (S13.tr (S25.tr (S50.tr S55))))) rfl rfl
    refine DN.res (l := [.cell 6 27, .tmp 7]) Try.results46 (res_cellA rfl f56 Try.isAgg27 Try.sizeOf27 rfl (res_tmp rfl rfl)) rfl ?_
    obtain rfl := Option.some.inj h
    exact ⟨(fun b => ren [(2, 4)] (K49 b)), a0_2, u0_2, a0_3, u0_3, a0_4, u0_4, rfl, (f57.map (ren [(2, 4)]) rfl rfl), (f58.map (ren [(2, 4)]) rfl rfl), (f59.map (ren [(2, 4)]) rfl rfl), (f60.map (ren [(2, 4)]) rfl rfl)⟩
   | false =>
    intro h; replace h := cF h
    refine WC.cf rfl ?_
    refine WC.skip ?_
    refine DN.block ?_
    refine DN.seq ?_
    refine WC.seq ?_
    refine WC.rs [(0, 2), (1, 2), (2, 1), (3, 2), (4, 2), (5, 1), (6, 2), (7, 1), (8, 1)] rfl ?_
    refine WO.pn 2 rfl ?_
    obtain ⟨x41, hx41, h⟩ := Option.bind_eq_some_iff.mp h
    refine WO.call rfl rfl rfl rfl rfl rfl Try.call74 (s_l1Min_ok (κ := fun b => mp [] 0 (K49 b)) hx41) ?_
    rintro _ w61 ⟨k62, rfl, e63⟩
    obtain ⟨K64, S65, m66⟩ := Ent.mixed (l := []) (κ := K49) e63 5 rfl
    refine ⟨trivial, ?_⟩
    refine WO.pn 2 rfl ?_
    obtain ⟨x44, hx44, h⟩ := Option.bind_eq_some_iff.mp h
    refine WO.call rfl rfl rfl rfl rfl rfl Try.call37 (s_l1Max_ok (κ := fun b => mp [] 0 (K64 b)) hx44) ?_
    rintro _ w68 ⟨k69, rfl, e70⟩
    obtain ⟨K71, S72, m73⟩ := Ent.mixed (l := []) (κ := K64) e70 7 rfl
    refine ⟨trivial, ?_⟩
    refine WO.k2 rfl rfl rfl rfl (rn_build (parts := [(0, .tmp 41), (1, .tmp 44)]) (cells := [.int .i64 x41, .int .i64 x44]) rfl rfl (by kernel_rfl)) ?_
    refine WO.alloc (κ := K71) 9 rfl rfl rfl rfl rfl Try.zeroValue33 rfl fun b8 w75 K76 S77 f78 => ⟨trivial, ?_⟩
    refine WO.stB0 (κ := K76) 9 (vc := [.int .i64 x41, .int .i64 x44]) rfl rfl rfl rfl rfl rfl rfl Try.sizeOf33 rfl rfl f78 rfl fun w79 S80 f81 => ⟨trivial, ?_⟩
    refine WO.fin ?_
    refine DN.seq ?_
    refine WC.seq ?_
    refine WC.seq ?_
    refine WC.rs [(0, 2)] rfl ?_
    refine WO.pn 1 rfl ?_
    refine WO.fin ?_
    refine DN.seq ?_
    have hN82 : (p0.Gates.length : Int) ≤ 9223372036854775807 := g0_3.len_le
    obtain ⟨q2, hq84, hK83⟩ := Option.bind_eq_some_iff.mp h
    clear h
    refine WC.meet (fun L w' => ∃ (κ' : Col), L = [(3, .pointer (some ⟨b3, 0, none⟩)), (6, .pointer (some ⟨b6, 0, none⟩)), (8, .pointer (some ⟨b8, 0, none⟩))] ∧ Stp [] K76 w79 κ' w' ∧ q2 = Sum.inr ()) ?_ ?_
    ·
     refine WC.block ?_
     refine WC.loop (fun k L w' => ∃ (κ' : Col) (v9 : Int), L = [(3, .pointer (some ⟨b3, 0, none⟩)), (6, .pointer (some ⟨b6, 0, none⟩)), (8, .pointer (some ⟨b8, 0, none⟩)), (9, .int .i64 v9)] ∧ Stp [] K76 w79 κ' w' ∧ 0 ≤ v9 ∧ Int.toNat ((p0.Gates.length : Int) - v9) = k ∧ cntM (s_l31Join_b1 p0 x41 x44) k v9 () = some q2) ⟨_, _, ⟨K76, 0, rfl, (Stp.refl _ _).wk rfl, (by decide), (by simp), hq84⟩, fun a ha => (ha.more (ha.more (ha.more (ha.more ha.nil rfl) rfl) rfl) rfl)⟩ ?_
     rintro k _ w88 ⟨K89, v9, rfl, S90, hj82, hJ82, h⟩
     rcases k with _ | k
     ·
      have hk91 := h; obtain ⟨o82, h⟩ := ex_eq (Sum.inr (Sum.inl ()) : (Circuit × Int) ⊕ ((Unit) ⊕ (Unit)))
      have hc82 : decide (v9 < (p0.Gates.length : Int)) = false := decide_eq_false (by omega)
      refine WC.seq ?_
      refine WC.seq ?_
      refine WC.rs [(0, 2), (1, 2), (2, 1), (3, 2), (4, 2)] rfl ?_
      refine WO.pn 1 rfl ?_
      refine WO.k2 rfl rfl rfl rfl (rn_fieldAddr Try.runUnderlying27 rfl Try.sizeOf25 rfl rfl) ?_
      have f92 := f4.stp (S7.tr (S13.tr (S25.tr (S50.tr (S65.tr (S72.tr (S77.tr (S80.tr S90)))))))) rfl rfl
      refine WO.k1 trivial rfl rfl rfl rfl (rn_ld Try.isAgg25 rfl rfl (hvE (f92.ld 3 rfl rfl))) ?_
      refine WO.k2 rfl rfl rfl rfl (rn_len Try.runUnderlying25 rfl rfl) ?_
      refine WO.pn 1 rfl ?_
      refine WO.fin ?_
      refine DN.seq ?_
      refine WC.cf' rfl hc82 ?_
      refine WC.exit ?_
      refine DN.exitThen ?_
      refine DN.exitThen ?_
      obtain rfl := Option.some.inj h
      have h := hk91
      refine DN.hit ?_
      obtain rfl := Option.some.inj h
      exact DN.meet _ ⟨K89, rfl, S90.wk rfl, rfl⟩ fun a ha => (ha.more (ha.more (ha.more ha.nil rfl) rfl) rfl)
     ·
      obtain ⟨o82, h, hk91⟩ := Option.bind_eq_some_iff.mp h; unfold s_l31Join_b1 at h
      have hc82 : decide (v9 < (p0.Gates.length : Int)) = true := decide_eq_true (by omega)
      refine WC.seq ?_
      refine WC.seq ?_
      refine WC.rs [(0, 2), (1, 2), (2, 1), (3, 2), (4, 2)] rfl ?_
      refine WO.pn 1 rfl ?_
      refine WO.k2 rfl rfl rfl rfl (rn_fieldAddr Try.runUnderlying27 rfl Try.sizeOf25 rfl rfl) ?_
      have f93 := f4.stp (S7.tr (S13.tr (S25.tr (S50.tr (S65.tr (S72.tr (S77.tr (S80.tr S90)))))))) rfl rfl
      refine WO.k1 trivial rfl rfl rfl rfl (rn_ld Try.isAgg25 rfl rfl (hvE (f93.ld 3 rfl rfl))) ?_
      refine WO.k2 rfl rfl rfl rfl (rn_len Try.runUnderlying25 rfl rfl) ?_
      refine WO.pn 1 rfl ?_
      refine WO.fin ?_
      refine DN.seq ?_
      refine WC.ct' rfl hc82 ?_
      refine WC.skip ?_
      refine DN.seq ?_
      refine WC.seq ?_
      refine WC.block ?_
      refine WC.seq ?_
      refine WC.rx (κ := K89) [0, 2, 3, 9] none [(0, 2), (2, 2), (1, 0), (3, 2), (4, 0), (5, 0), (6, 2), (7, 2), (8, 2), (10, 2), (14, 2), (9, 0), (11, 2), (12, 2), (13, 0), (15, 0), (16, 2), (17, 2), (18, 2), (20, 2), (24, 2), (19, 0), (21, 2), (22, 2), (23, 0), (25, 0), (26, 2), (27, 2), (28, 2)] [] (by kernel_rfl) (by kernel_rfl) fun w95 S94 => ?_
      refine WO.k2 rfl rfl rfl rfl (rn_fieldAddr Try.runUnderlying27 rfl Try.sizeOf25 rfl rfl) ?_
      refine WO.pn 1 rfl ?_
      have f96 := f93.stp S94 rfl rfl
      refine WO.k0 rfl rfl rfl rfl (rn_ld Try.isAgg25 rfl rfl (hvC (f96.ld 3 rfl rfl) rfl)) ?_
      obtain ⟨x56, hx56, h⟩ := Option.bind_eq_some_iff.mp h
      refine WO.k2 rfl rfl rfl rfl (rn_index g0_3.rdc hx56 Try.runUnderlying25 Try.sizeOf33 rfl rfl rfl rfl) ?_
      have f97 := g0_3.stp (S3.tr (S7.tr (S13.tr (S25.tr (S50.tr (S65.tr (S72.tr (S77.tr (S80.tr (S90.tr S94)))))))))) rfl rfl
      obtain ⟨cse98, hre98, hle98⟩ := (f97.rdc).gSt hx56
      obtain rfl := Gate.un hre98
      refine WO.k0 rfl rfl rfl rfl (rn_la (cs := [.int .i64 x56.A, .int .i64 x56.B]) Try.isAgg33 Try.sizeOf33 rfl rfl rfl (haC hle98 rfl)) ?_
      have f99 := f81.stp (S90.tr S94) rfl rfl
      refine WO.k0 rfl rfl rfl rfl (rn_la (cs := [.int .i64 x41, .int .i64 x44]) Try.isAgg33 Try.sizeOf33 rfl rfl rfl (haC f99.cells rfl)) ?_
      refine WO.k2 rfl rfl rfl rfl (rn_eqlS2 Try.underlying33 (by kernel_rfl) (by kernel_rfl) rfl rfl rfl rfl Try.isAgg2 Try.isAgg2 Try.runUnderlying2 Try.runUnderlying2 rfl rfl rfl) ?_
      refine WO.pn 1 rfl ?_
      obtain ⟨p81, h, hK100⟩ := Option.bind_eq_some_iff.mp h
      refine WO.meet [(8, 2), (10, 2), (14, 2), (9, 0), (11, 2), (12, 2), (13, 0), (15, 0), (16, 2), (17, 2), (18, 2), (20, 2), (24, 2), (19, 0), (21, 2), (22, 2), (23, 0), (25, 0), (26, 2), (27, 2), (28, 2)] [] (fun L w' => L = [(3, .pointer (some ⟨b3, 0, none⟩)), (6, .pointer (some ⟨b6, 0, none⟩)), (8, .pointer (some ⟨b8, 0, none⟩)), (9, .int .i64 v9), (81, .bool p81)] ∧ ∃ κ', Stp [] K89 w95 κ' w') (Cl.refl _ _ _) ?_ ?_
      ·
       revert h
       cases ht101 : ((x56.A == x41) && (x56.B == x44)) with
       | true =>
        intro h; replace h := cT h
        refine WO.pn 3 rfl ?_
        refine WO.qs rfl rfl rfl rfl ?_
        refine WO.pn 2 rfl ?_
        refine WO.qs rfl rfl rfl rfl ?_
        refine WO.qs rfl rfl rfl rfl ?_
        refine WO.pn 5 rfl ?_
        refine WO.qs rfl rfl rfl rfl ?_
        refine WO.pn 2 rfl ?_
        refine WO.qs rfl rfl rfl rfl ?_
        refine WO.qs rfl rfl rfl rfl ?_
        refine WO.pn 3 rfl ?_
        obtain rfl := Option.some.inj h
        exact WO.met _ (Cl.refl _ _ _) ⟨rfl, _, (Stp.refl _ _).wk rfl⟩ fun a ha => (ha.more (ha.more (ha.more (ha.more (ha.more ha.nil rfl) rfl) rfl) rfl) rfl)
       | false =>
        intro h; replace h := cF h
        refine WO.k2 rfl rfl rfl rfl (rn_fieldAddr Try.runUnderlying27 rfl Try.sizeOf25 rfl rfl) ?_
        refine WO.pn 1 rfl ?_
        refine WO.k2 rfl rfl rfl rfl (rn_fieldAddr Try.runUnderlying33 rfl Try.sizeOf2 rfl rfl) ?_
        refine WO.k0 rfl rfl rfl rfl (rn_ld Try.isAgg25 rfl rfl (hvC (f96.ld 3 rfl rfl) rfl)) ?_
        obtain ⟨x64, hx64, h⟩ := Option.bind_eq_some_iff.mp h
        refine WO.k2 rfl rfl rfl rfl (rn_index f97.rdc hx64 Try.runUnderlying25 Try.sizeOf33 rfl rfl rfl rfl) ?_
        refine WO.k2 rfl rfl rfl rfl (rn_fieldAddr Try.runUnderlying33 rfl Try.sizeOf2 rfl rfl) ?_
        obtain ⟨cse102, hre102, hle102⟩ := (f97.rdc).gSt hx64
        obtain rfl := Gate.un hre102
        refine WO.k0 rfl rfl rfl rfl (rn_ld Try.isAgg2 rfl rfl (hvC (fun w' hw' => hle102 w' hw' 0 _ rfl) rfl)) ?_
        refine WO.k0 rfl rfl rfl rfl (rn_ld Try.isAgg2 rfl rfl (hvC (f99.ld 1 rfl rfl) rfl)) ?_
        refine WO.pn 2 rfl ?_
        obtain ⟨p80, h, hK103⟩ := Option.bind_eq_some_iff.mp h
        refine WO.meet [(18, 2), (20, 2), (24, 2), (19, 0), (21, 2), (22, 2), (23, 0), (25, 0), (26, 2), (27, 2)] [(28, 2)] (fun L w' => L = [(3, .pointer (some ⟨b3, 0, none⟩)), (6, .pointer (some ⟨b6, 0, none⟩)), (8, .pointer (some ⟨b8, 0, none⟩)), (9, .int .i64 v9), (60, .bool false), (61, .pointer (some ((⟨b3, 0, none⟩ : Addr).add 3))), (62, .slice a0_3 p0.Gates.length u0_3), (63, .int .i64 v9), (64, .pointer (some (aAt a0_3 (v9.toNat * 2)))), (65, .pointer (some ((aAt a0_3 (v9.toNat * 2)).add 0))), (66, .int .i64 x64.A), (67, .pointer (some ((⟨b8, 0, none⟩ : Addr).add 1))), (68, .int .i64 x44), (69, .bool (x64.A == x44)), (70, .bool (x64.A == x44)), (80, .bool p80)] ∧ ∃ κ', Stp [] K89 w95 κ' w') (Cl.refl _ _ _) ?_ ?_
        ·
         revert h
         cases ht104 : (x64.A == x44) with
         | true =>
          intro h; replace h := cT h
          refine WO.k2 rfl rfl rfl rfl (rn_fieldAddr Try.runUnderlying27 rfl Try.sizeOf25 rfl rfl) ?_
          refine WO.pn 1 rfl ?_
          refine WO.k2 rfl rfl rfl rfl (rn_fieldAddr Try.runUnderlying33 rfl Try.sizeOf2 rfl rfl) ?_
          refine WO.k0 rfl rfl rfl rfl (rn_ld Try.isAgg25 rfl rfl (hvC (f96.ld 3 rfl rfl) rfl)) ?_
          obtain ⟨x74, hx74, h⟩ := Option.bind_eq_some_iff.mp h
          refine WO.k2 rfl rfl rfl rfl (rn_index f97.rdc hx74 Try.runUnderlying25 Try.sizeOf33 rfl rfl rfl rfl) ?_
          refine WO.k2 rfl rfl rfl rfl (rn_fieldAddr Try.runUnderlying33 rfl Try.sizeOf2 rfl rfl) ?_
          obtain ⟨cse105, hre105, hle105⟩ := (f97.rdc).gSt hx74
          obtain rfl := Gate.un hre105
          refine WO.k0 rfl rfl rfl rfl (rn_ld Try.isAgg2 rfl rfl (hvC (fun w' hw' => hle105 w' hw' 1 _ rfl) rfl)) ?_
          refine WO.k0 rfl rfl rfl rfl (rn_ld Try.isAgg2 rfl rfl (hvC (f99.ld 0 rfl rfl) rfl)) ?_
          refine WO.pn 2 rfl ?_
          obtain rfl := Option.some.inj h
          exact WO.met _ (Cl.refl _ _ _) ⟨rfl, _, (Stp.refl _ _).wk rfl⟩ fun a ha => (ha.more (ha.more (ha.more (ha.more (ha.more (ha.more (ha.more (ha.more (ha.more (ha.more (ha.more (ha.more (ha.more (ha.more (ha.more (ha.more ha.nil rfl) rfl) rfl) rfl) rfl) rfl) rfl) rfl) rfl) rfl) rfl) rfl) rfl) rfl) rfl) rfl)
         | false =>
          intro h; replace h := cF h
          refine WO.pn 3 rfl ?_
          refine WO.qs rfl rfl rfl rfl ?_
          refine WO.pn 2 rfl ?_
          refine WO.qs rfl rfl rfl rfl ?_
          refine WO.qs rfl rfl rfl rfl ?_
          refine WO.pn 2 rfl ?_
          obtain rfl := Option.some.inj h
          exact WO.met _ (Cl.refl _ _ _) ⟨rfl, _, (Stp.refl _ _).wk rfl⟩ fun a ha => (ha.more (ha.more (ha.more (ha.more (ha.more (ha.more (ha.more (ha.more (ha.more (ha.more (ha.more (ha.more (ha.more (ha.more (ha.more (ha.more ha.nil rfl) rfl) rfl) rfl) rfl) rfl) rfl) rfl) rfl) rfl) rfl) rfl) rfl) rfl) rfl) rfl)
        rintro _ w106 _ ⟨rfl, K107, S108⟩
        have h := hK103
        refine WO.pn 1 rfl ?_
        obtain rfl := Option.some.inj h
        exact WO.met _ (S108.cl rfl) ⟨rfl, _, S108.wk rfl⟩ fun a ha => (ha.more (ha.more (ha.more (ha.more (ha.more ha.nil rfl) rfl) rfl) rfl) rfl)
      rintro _ w109 _ ⟨rfl, K110, S111⟩
      have h := hK100
      refine WO.nx ?_
      refine WO.fin ?_
      refine DN.seq ?_
      revert h
      cases ht112 : p81 with
      | true =>
       intro h; replace h := cT h
       refine WC.ct rfl ?_
       refine WC.seq ?_
       refine WC.rx (κ := K110) [3] none [(1, 2), (4, 2), (7, 2), (0, 0), (2, 0), (3, 2), (5, 0), (6, 2), (8, 2), (9, 2), (10, 1), (11, 2)] [] (by kernel_rfl) (by kernel_rfl) fun w114 S113 => ?_
       refine WO.k2 rfl rfl rfl rfl (rn_fieldAddr Try.runUnderlying27 rfl Try.sizeOf2 rfl rfl) ?_
       refine WO.k2 rfl rfl rfl rfl (rn_fieldAddr Try.runUnderlying27 rfl Try.sizeOf2 rfl rfl) ?_
       refine WO.pn 1 rfl ?_
       have f115 := f96.stp (S111.tr S113) rfl rfl
       refine WO.k0 rfl rfl rfl rfl (rn_la (cs := [.int .i64 p0.Inputs, .int .i64 p0.Latches, .slice a0_2 p0.Next.length u0_2, .slice a0_3 p0.Gates.length u0_3, .slice a0_4 p0.Outs.length u0_4]) Try.isAgg27 Try.sizeOf27 rfl rfl rfl (haC f115.cells rfl)) ?_
       refine WO.k0 rfl rfl rfl rfl (rn_ld Try.isAgg2 rfl rfl (hvC (f115.ld 0 rfl rfl) rfl)) ?_
       refine WO.pn 1 rfl ?_
       refine WO.k0 rfl rfl rfl rfl (rn_ld Try.isAgg2 rfl rfl (hvC (f115.ld 1 rfl rfl) rfl)) ?_
       refine WO.pn 3 rfl ?_
       have f116 := f8.stp (S13.tr (S25.tr (S50.tr (S65.tr (S72.tr (S77.tr (S80.tr (S90.tr (S94.tr (S111.tr S113)))))))))) rfl rfl
       refine WO.stB0 (κ := K110) 4 (vc := [.int .i64 p0.Inputs, .int .i64 p0.Latches, .slice a0_2 p0.Next.length u0_2, .slice a0_3 p0.Gates.length u0_3, .slice a0_4 p0.Outs.length u0_4]) rfl rfl rfl rfl rfl rfl rfl Try.sizeOf27 rfl rfl f116 rfl fun w117 S118 f119 => ⟨(S118.cl rfl), ?_⟩
       refine WO.pn 1 rfl ?_
       refine WO.nx ?_
       refine WO.fin ?_
       refine DN.seq ?_
       refine WC.ret ?_
       refine DN.retBlock ?_
       refine DN.retThen ?_
       refine DN.retThen ?_
       obtain rfl := Option.some.inj h
       obtain rfl := Option.some.inj hk91
       have h := hK83
       dsimp only [aft] at h
       refine DN.retBlock ?_
       refine DN.retMeet ?_
       refine DN.retThen ?_
       have f120 := hE.stp (S3.tr (S7.tr (S13.tr (S25.tr (S50.tr (S65.tr (S72.tr (S77.tr (S80.tr (S90.tr (S94.tr (S111.tr (S113.tr S118))))))))))))) rfl rfl
       have f121 := g0_2.stp (S3.tr (S7.tr (S13.tr (S25.tr (S50.tr (S65.tr (S72.tr (S77.tr (S80.tr (S90.tr (S94.tr (S111.tr (S113.tr S118))))))))))))) rfl rfl
       have f122 := f97.stp (S111.tr (S113.tr S118)) rfl rfl
       have f123 := g0_4.stp (S3.tr (S7.tr (S13.tr (S25.tr (S50.tr (S65.tr (S72.tr (S77.tr (S80.tr (S90.tr (S94.tr (S111.tr (S113.tr S118))))))))))))) rfl rfl
       refine DN.res (l := [.cell 6 27, .tmp 7]) Try.results46 (res_cellA rfl f119 Try.isAgg27 Try.sizeOf27 rfl (res_tmp rfl rfl)) rfl ?_
       obtain rfl := Option.some.inj h
       exact ⟨(fun b => ren [(2, 4)] (K110 b)), a0_2, u0_2, a0_3, u0_3, a0_4, u0_4, rfl, (f120.map (ren [(2, 4)]) rfl rfl), (f121.map (ren [(2, 4)]) rfl rfl), (f122.map (ren [(2, 4)]) rfl rfl), (f123.map (ren [(2, 4)]) rfl rfl)⟩
      | false =>
       intro h; replace h := cF h
       refine WC.cf rfl ?_
       refine WC.skip ?_
       refine DN.block ?_
       refine DN.seq ?_
       refine WC.rs [(0, 2), (1, 2), (2, 2)] rfl ?_
       refine WO.pn 3 rfl ?_
       refine WO.fin ?_
       have hw82 : IntKind.wrap .i64 (v9 + 1) = v9 + 1 := wr1 hj82 (of_decide_eq_true hc82) hN82
       rw [hw82]
       have hc82 := of_decide_eq_true hc82
       obtain rfl := Option.some.inj h
       refine DN.round fun a ha => ?_
       exact ⟨k, _, Nat.lt_succ_self _, ⟨K110, v9 + 1, rfl, (S90.tr (S94.tr S111)).wk rfl, by omega, by omega, hk91⟩, (ha.more (ha.more (ha.more (ha.more ha.nil rfl) rfl) rfl) rfl)⟩
    rintro _ w85 ⟨K86, rfl, S87, rfl⟩
    have h := hK83
    dsimp only [aft] at h
    refine DN.seq ?_
    refine WC.seq ?_
    refine WC.seq ?_
    refine WC.rs [(0, 2), (1, 1), (2, 2), (3, 2)] rfl ?_
    refine WO.k2 rfl rfl rfl rfl (rn_fieldAddr Try.runUnderlying27 rfl Try.sizeOf25 rfl rfl) ?_
    have f124 := f4.stp (S7.tr (S13.tr (S25.tr (S50.tr (S65.tr (S72.tr (S77.tr (S80.tr S87)))))))) rfl rfl
    refine WO.k1 trivial rfl rfl rfl rfl (rn_ld Try.isAgg25 rfl rfl (hvE (f124.ld 3 rfl rfl))) ?_
    refine WO.k2 rfl rfl rfl rfl (rn_len Try.runUnderlying25 rfl rfl) ?_
    refine WO.pn 1 rfl ?_
    refine WO.fin ?_
    refine DN.seq ?_
    revert h
    cases ht125 : decide (8000 ≤ (p0.Gates.length : Int)) with
    | true =>
     intro h; replace h := cT h
     refine WC.ct rfl ?_
     refine WC.seq ?_
     refine WC.rs [(0, 2), (1, 1), (2, 2)] rfl ?_
     refine WO.k2 rfl rfl rfl rfl (rn_build (parts := []) (cells := [.int .i64 0, .int .i64 0, .slice none 0 0, .slice none 0 0, .slice none 0 0]) rfl rfl (by kernel_rfl)) ?_
     have f126 := f8.stp (S13.tr (S25.tr (S50.tr (S65.tr (S72.tr (S77.tr (S80.tr S87))))))) rfl rfl
     refine WO.stB0 (κ := K86) 4 (vc := [.int .i64 0, .int .i64 0, .slice none 0 0, .slice none 0 0, .slice none 0 0]) rfl rfl rfl rfl rfl rfl rfl Try.sizeOf27 rfl rfl f126 rfl fun w127 S128 f129 => ⟨trivial, ?_⟩
     refine WO.pn 1 rfl ?_
     refine WO.fin ?_
     refine DN.seq ?_
     refine WC.ret ?_
     refine DN.retThen ?_
     have f130 := hE.stp (S3.tr (S7.tr (S13.tr (S25.tr (S50.tr (S65.tr (S72.tr (S77.tr (S80.tr (S87.tr S128)))))))))) rfl rfl
     refine DN.res (l := [.cell 6 27, .tmp 7]) Try.results46 (res_cellA rfl f129 Try.isAgg27 Try.sizeOf27 rfl (res_tmp rfl rfl)) rfl ?_
     obtain rfl := Option.some.inj h
     exact ⟨K86, none, 0, none, 0, none, 0, rfl, f130, Sl.nil, Ow.nil, Sl.nil⟩
    | false =>
     intro h; replace h := cF h
     refine WC.cf rfl ?_
     refine WC.skip ?_
     refine DN.seq ?_
     refine WC.seq ?_
     refine WC.rs [(0, 2), (1, 1), (2, 1), (3, 1), (4, 1), (5, 2), (6, 1)] rfl ?_
     refine WO.k2 rfl rfl rfl rfl (rn_fieldAddr Try.runUnderlying27 rfl Try.sizeOf25 rfl rfl) ?_
     refine WO.k1 trivial rfl rfl rfl rfl (rn_ld Try.isAgg25 rfl rfl (hvE (f124.ld 3 rfl rfl))) ?_
     have f131 := f81.stp S87 rfl rfl
     refine WO.k1 trivial rfl rfl rfl rfl (rn_la (cs := [.int .i64 x41, .int .i64 x44]) Try.isAgg33 Try.sizeOf33 rfl rfl rfl (haE f131.cells)) ?_
     refine WO.bl (κ := K86) (E := Gate.ep33) 10 [] (parts := [(0, .tmp 99)]) (cells := [.int .i64 x41, .int .i64 x44]) (xs := ([(⟨x41, x44⟩ : Gate)] : List Gate)) rfl rfl rfl rfl rfl rfl Try.underlying25 Tryinfo33 rfl rfl rfl rfl rfl rfl rfl rfl rfl rfl ⟨[.int .i64 x41, .int .i64 x44], [], Zl K86 w85 [], Zl K86 w85 [], rfl, Zl.sp (l1 := []) (l2 := []) rfl, Zl.sr (l1 := []) (l2 := []), ⟨[.int .i64 x41], [.int .i64 x44], Zl K86 w85 [], Zl K86 w85 [], rfl, Zl.sp (l1 := []) (l2 := []) rfl, Zl.sr (l1 := []) (l2 := []), rfl, rfl⟩, rfl⟩ fun a100 u100 w132 K133 S134 f135 => ⟨trivial, ?_⟩
     obtain ⟨x101, hx101, h⟩ := Option.bind_eq_some_iff.mp h
     have f136 := g0_3.stp (S3.tr (S7.tr (S13.tr (S25.tr (S50.tr (S65.tr (S72.tr (S77.tr (S80.tr (S87.tr S134)))))))))) rfl rfl
     refine WO.app (κ := K133) (E := Gate.ep33) 2 [] rfl rfl rfl rfl rfl rfl rfl rfl rfl Try.underlying25 Tryinfo33 rfl rfl rfl rfl f136 (Sl.srcP Gate.pu33 f135.rdc) sy_false hx101 rfl fun a101 u101 w137 K138 S139 f140 => ⟨trivial, ?_⟩
     refine WO.k2 rfl rfl rfl rfl (rn_fieldAddr Try.runUnderlying27 rfl Try.sizeOf25 rfl rfl) ?_
     have f141 := f124.stp (S134.tr S139) rfl rfl
     refine WO.stB (κ := K138) 3 (off := 3) (vc := [.slice a101 x101.length u101]) (cs' := [.int .i64 p0.Inputs, .int .i64 p0.Latches, .slice a0_2 p0.Next.length u0_2, .slice a101 x101.length u101, .slice a0_4 p0.Outs.length u0_4]) rfl rfl rfl rfl rfl rfl rfl Try.sizeOf25 rfl rfl f141 rfl rfl fun w142 S143 f144 => ⟨trivial, ?_⟩
     refine WO.fin ?_
     refine DN.seq ?_
     refine WC.seq ?_
     refine WC.rx (κ := K138) [3] none [(0, 0), (1, 0), (2, 1), (3, 2), (4, 2), (5, 1), (6, 2)] [] (by kernel_rfl) (by kernel_rfl) fun w146 S145 => ?_
     have f147 := f144.stp S145 rfl rfl
     refine WO.k0 rfl rfl rfl rfl (rn_la (cs := [.int .i64 p0.Inputs, .int .i64 p0.Latches, .slice a0_2 p0.Next.length u0_2, .slice a101 x101.length u101, .slice a0_4 p0.Outs.length u0_4]) Try.isAgg27 Try.sizeOf27 rfl rfl rfl (haC f147.cells rfl)) ?_
     refine WO.k0 rfl rfl rfl rfl (rn_la (cs := [.int .i64 p0.Inputs, .int .i64 p0.Latches, .slice a0_2 p0.Next.length u0_2, .slice a101 x101.length u101, .slice a0_4 p0.Outs.length u0_4]) Try.isAgg27 Try.sizeOf27 rfl rfl rfl (haC f147.cells rfl)) ?_
     obtain ⟨x105, hx105, h⟩ := Option.bind_eq_some_iff.mp h
     have f148 := g0_2.stp (S3.tr (S7.tr (S13.tr (S25.tr (S50.tr (S65.tr (S72.tr (S77.tr (S80.tr (S87.tr (S134.tr (S139.tr (S143.tr S145))))))))))))) rfl rfl
     have f149 := f140.stp (S143.tr S145) rfl rfl
     have f150 := g0_4.stp (S3.tr (S7.tr (S13.tr (S25.tr (S50.tr (S65.tr (S72.tr (S77.tr (S80.tr (S87.tr (S134.tr (S139.tr (S143.tr S145))))))))))))) rfl rfl
     refine WO.call rfl rfl rfl rfl rfl rfl Try.call35 (s_l31Signals_ok (κ := fun b => mp [] 0 (K138 b)) (p0 := (⟨p0.Inputs, p0.Latches, p0.Next, x101, p0.Outs⟩ : Circuit)) (Sl.map f148 (mp [] 0) rfl rfl) (Sl.map f149.rdc (mp [] 0) rfl rfl) (Sl.map f150 (mp [] 0) rfl rfl) hx105) ?_
     rintro _ w151 ⟨k152, rfl, e153⟩
     obtain ⟨K154, S155, m156⟩ := Ent.mixed (l := []) (κ := K138) e153 11 rfl
     refine ⟨(S155.cl rfl), ?_⟩
     refine WO.pn 2 rfl ?_
     have f158 := f8.stp (S13.tr (S25.tr (S50.tr (S65.tr (S72.tr (S77.tr (S80.tr (S87.tr (S134.tr (S139.tr (S143.tr (S145.tr S155)))))))))))) rfl rfl
     refine WO.stB0 (κ := K154) 4 (vc := [.int .i64 p0.Inputs, .int .i64 p0.Latches, .slice a0_2 p0.Next.length u0_2, .slice a101 x101.length u101, .slice a0_4 p0.Outs.length u0_4]) rfl rfl rfl rfl rfl rfl rfl Try.sizeOf27 rfl rfl f158 rfl fun w159 S160 f161 => ⟨((S155.tr S160).cl rfl), ?_⟩
     refine WO.pn 1 rfl ?_
     refine WO.nx ?_
     refine WO.fin ?_
     refine DN.seq ?_
     refine WC.ret ?_
     have f162 := hE.stp (S3.tr (S7.tr (S13.tr (S25.tr (S50.tr (S65.tr (S72.tr (S77.tr (S80.tr (S87.tr (S134.tr (S139.tr (S143.tr (S145.tr (S155.tr S160))))))))))))))) rfl rfl
     have f163 := f148.stp (S155.tr S160) rfl rfl
     have f164 := f149.stp (S155.tr S160) rfl rfl
     have f165 := f150.stp (S155.tr S160) rfl rfl
     refine DN.res (l := [.cell 6 27, .tmp 7]) Try.results46 (res_cellA rfl f161 Try.isAgg27 Try.sizeOf27 rfl (res_tmp rfl rfl)) rfl ?_
     obtain rfl := Option.some.inj h
     exact ⟨(fun b => ren [(2, 4)] (K154 b)), a0_2, u0_2, a101, u101, a0_4, u0_4, rfl, (f162.map (ren [(2, 4)]) rfl rfl), (f163.map (ren [(2, 4)]) rfl rfl), (f164.map (ren [(2, 4)]) rfl rfl), (f165.map (ren [(2, 4)]) rfl rfl)⟩

end Go.Proofs.Ythjkonkcdfdfaaa
