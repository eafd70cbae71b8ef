/- The walks, part 2. By program. -/
import Derived.Test.YtnmjfjppgpkieaaFnsK1
set_option linter.unusedVariables false
set_option linter.unusedSimpArgs false
namespace Go.Proofs.Ytnmjfjppgpkieaa
open Go Go.Wk Go.Proofs
set_option maxRecDepth 100000
set_option maxHeartbeats 1000000

/- loop.example/g00869/laws.szMachine -/
theorem l_szMachine_ok {w : World} {κ : Col} {a0_0 : Option Addr} {u0_0 : Nat} {a0_1 : Option Addr} {u0_1 : Nat} {p0 : Machine} {p1 : Int} (g0_0 : Rd (Rp.sl (Rp.int .i64)) κ w 0 a0_0 u0_0 p0.Next) (g0_1 : Rd (Rp.sl (Rp.int .i64)) κ w 0 a0_1 u0_1 p0.Out) {r : Int} (h : l_szMachine p0 p1 = some r) : Ret Try.prog 7 [.agg #[.slice a0_0 p0.Next.length u0_0, .slice a0_1 p0.Out.length u0_1], .int .i64 p1] w (fun v w' => ∃ (κ' : Col), v = .int .i64 r ∧ Ent κ w κ' w') := by
 unfold l_szMachine at h
 refine Ret.enter Try.func7 rfl Try.ntmps7 rfl ?_
 dsimp only [envOf]
 have hE := Ent.refl κ w
 refine WC.seq ?_
 refine WC.rs [(0, 1), (1, 2)] rfl ?_
 refine WO.box (κ := κ) 2 rfl rfl rfl rfl rfl rfl rfl fun b2 w1 K2 S3 f4 => ⟨trivial, ?_⟩
 refine WO.pn 1 rfl ?_
 refine WO.fin ?_
 refine DN.seq ?_
 refine WC.seq ?_
 refine WC.rs [(0, 2), (1, 1), (2, 2), (3, 1), (4, 2)] rfl ?_
 refine WO.k2 rfl rfl rfl rfl (rn_fieldAddr Try.runUnderlying26 rfl Try.sizeOf24 rfl rfl) ?_
 refine WO.k1 trivial rfl rfl rfl rfl (rn_ld Try.isAgg24 rfl rfl (hvE (f4.ld 0 rfl rfl))) ?_
 refine WO.pn 1 rfl ?_
 obtain ⟨x8, hx8, h⟩ := Option.bind_eq_some_iff.mp h
 have f5 := g0_0.stp S3 rfl rfl
 refine WO.call rfl rfl rfl rfl rfl rfl Try.call46 (l_szInt64SS_ok (κ := fun b => mp [] 0 (K2 b)) (Sl.map f5 (mp [] 0) rfl rfl) hx8) ?_
 rintro _ w6 ⟨k7, rfl, e8⟩
 obtain ⟨K9, S10, m11⟩ := Ent.mixed (l := []) (κ := K2) e8 3 rfl
 refine ⟨trivial, ?_⟩
 refine WO.pn 1 rfl ?_
 refine WO.fin ?_
 refine DN.seq ?_
 refine WC.seq ?_
 refine WC.seq ?_
 refine WC.rs [(0, 2), (1, 2)] rfl ?_
 refine WO.pn 2 rfl ?_
 refine WO.fin ?_
 refine DN.seq ?_
 revert h
 cases ht13 : decide (x8 < 0) with
 | true =>
  intro h; replace h := cT h
  refine WC.ct rfl ?_
  refine WC.seq ?_
  refine WC.rs [(0, 2)] rfl ?_
  refine WO.pn 1 rfl ?_
  refine WO.fin ?_
  refine DN.seq ?_
  refine WC.ret ?_
  refine DN.retThen ?_
  have f14 := hE.stp (S3.tr S10) rfl rfl
  refine DN.res (l := [.tmp 4]) Try.results7 (res_tmp rfl rfl) rfl ?_
  obtain rfl := Option.some.inj h
  exact ⟨K9, rfl, f14⟩
 | false =>
  intro h; replace h := cF h
  refine WC.cf rfl ?_
  refine WC.skip ?_
  refine DN.seq ?_
  refine WC.seq ?_
  refine WC.rs [(0, 2), (1, 1), (2, 2), (3, 1), (4, 2)] rfl ?_
  refine WO.k2 rfl rfl rfl rfl (rn_fieldAddr Try.runUnderlying26 rfl Try.sizeOf24 rfl rfl) ?_
  have f15 := f4.stp S10 rfl rfl
  refine WO.k1 trivial rfl rfl rfl rfl (rn_ld Try.isAgg24 rfl rfl (hvE (f15.ld 1 rfl rfl))) ?_
  refine WO.pn 1 rfl ?_
  obtain ⟨x14, hx14, h⟩ := Option.bind_eq_some_iff.mp h
  have f16 := g0_1.stp (S3.tr S10) rfl rfl
  refine WO.call rfl rfl rfl rfl rfl rfl Try.call46 (l_szInt64SS_ok (κ := fun b => mp [] 0 (K9 b)) (Sl.map f16 (mp [] 0) rfl rfl) hx14) ?_
  rintro _ w17 ⟨k18, rfl, e19⟩
  obtain ⟨K20, S21, m22⟩ := Ent.mixed (l := []) (κ := K9) e19 5 rfl
  refine ⟨trivial, ?_⟩
  refine WO.pn 1 rfl ?_
  refine WO.fin ?_
  refine DN.seq ?_
  refine WC.seq ?_
  refine WC.seq ?_
  refine WC.rs [(0, 2), (1, 2)] rfl ?_
  refine WO.pn 2 rfl ?_
  refine WO.fin ?_
  refine DN.seq ?_
  revert h
  cases ht24 : decide (x14 < 0) with
  | true =>
   intro h; replace h := cT h
   refine WC.ct rfl ?_
   refine WC.seq ?_
   refine WC.rs [(0, 2)] rfl ?_
   refine WO.pn 1 rfl ?_
   refine WO.fin ?_
   refine DN.seq ?_
   refine WC.ret ?_
   refine DN.retThen ?_
   have f25 := hE.stp (S3.tr (S10.tr S21)) rfl rfl
   refine DN.res (l := [.tmp 4]) Try.results7 (res_tmp rfl rfl) rfl ?_
   obtain rfl := Option.some.inj h
   exact ⟨K20, rfl, f25⟩
  | false =>
   intro h; replace h := cF h
   refine WC.cf rfl ?_
   refine WC.skip ?_
   refine DN.seq ?_
   refine WC.seq ?_
   refine WC.rs [(0, 2), (1, 2)] rfl ?_
   refine WO.pn 2 rfl ?_
   refine WO.fin ?_
   refine DN.seq ?_
   refine WC.ret ?_
   have f26 := hE.stp (S3.tr (S10.tr S21)) rfl rfl
   refine DN.res (l := [.tmp 4]) Try.results7 (res_tmp rfl rfl) rfl ?_
   obtain rfl := Option.some.inj h
   exact ⟨K20, rfl, f26⟩

/- loop.example/g00869/laws.szClauseS -/
theorem l_szClauseS_ok {w : World} {κ : Col} {a0 : Option Addr} {u0 : Nat} {p0 : (List Clause)} {p1 : Int} (g0 : Rd Clause.rp κ w 0 a0 u0 p0) {r : Int} (h : l_szClauseS p0 p1 = some r) : Ret Try.prog 8 [.slice a0 p0.length u0, .int .i64 p1] w (fun v w' => ∃ (κ' : Col), v = .int .i64 r ∧ Ent κ w κ' w') := by
 unfold l_szClauseS at h
 refine Ret.enter Try.func8 rfl Try.ntmps8 rfl ?_
 dsimp only [envOf]
 have hE := Ent.refl κ w
 refine WC.seq ?_
 refine WC.rs [(0, 2)] rfl ?_
 refine WO.pn 1 rfl ?_
 refine WO.fin ?_
 refine DN.seq ?_
 refine WC.seq ?_
 refine WC.rs [(0, 2), (1, 2), (2, 2), (3, 2), (4, 2)] rfl ?_
 refine WO.pn 2 rfl ?_
 refine WO.k2 rfl rfl rfl rfl (rn_len Try.runUnderlying27 rfl rfl) ?_
 refine WO.pn 2 rfl ?_
 refine WO.fin ?_
 refine DN.seq ?_
 refine WC.seq ?_
 refine WC.seq ?_
 refine WC.rs [(0, 2), (1, 2)] rfl ?_
 refine WO.pn 2 rfl ?_
 refine WO.fin ?_
 refine DN.seq ?_
 revert h
 cases ht1 : decide ((IntKind.i64.wrap (p1 - (p0.length : Int))) < 0) with
 | true =>
  intro h; replace h := cT h
  refine WC.ct rfl ?_
  refine WC.seq ?_
  refine WC.rs [(0, 2)] rfl ?_
  refine WO.pn 1 rfl ?_
  refine WO.fin ?_
  refine DN.seq ?_
  refine WC.ret ?_
  refine DN.retThen ?_
  refine DN.res (l := [.tmp 4]) Try.results8 (res_tmp rfl rfl) rfl ?_
  obtain rfl := Option.some.inj h
  exact ⟨κ, rfl, hE⟩
 | false =>
  intro h; replace h := cF h
  refine WC.cf rfl ?_
  refine WC.skip ?_
  refine DN.seq ?_
  refine WC.seq ?_
  refine WC.seq ?_
  refine WC.rs [(0, 2)] rfl ?_
  refine WO.pn 1 rfl ?_
  refine WO.fin ?_
  refine DN.seq ?_
  have hN2 : (p0.length : Int) ≤ 9223372036854775807 := g0.len_le
  obtain ⟨q2, hq4, hK3⟩ := Option.bind_eq_some_iff.mp h
  clear h
  refine WC.meet (fun L w' => ∃ (κ' : Col) (s3 : Int), L = [(1, .int .i64 s3)] ∧ Stp [] κ w κ' w' ∧ q2 = Sum.inr s3) ?_ ?_
  ·
   refine WC.block ?_
   refine WC.loop (fun k L w' => ∃ (κ' : Col) (v5 : Int) (s1 : Int), L = [(0, .slice a0 p0.length u0), (1, .int .i64 s1), (5, .int .i64 v5)] ∧ Stp [] κ w κ' w' ∧ 0 ≤ v5 ∧ Int.toNat ((p0.length : Int) - v5) = k ∧ cntM (l_szClauseS_b0 p0) k v5 s1 = some q2) ⟨_, _, ⟨κ, 0, ((IntKind.i64.wrap (p1 - (p0.length : Int))) : Int), rfl, (Stp.refl _ _).wk rfl, (by decide), (by simp), hq4⟩, fun a ha => (ha.more (ha.more (ha.more ha.nil rfl) rfl) rfl)⟩ ?_
   rintro k _ w8 ⟨K9, v5, s1, rfl, S10, hj2, hJ2, h⟩
   rcases k with _ | k
   ·
    have hk11 := h; obtain ⟨o2, h⟩ := ex_eq (Sum.inr (Sum.inl s1) : Int ⊕ ((Int) ⊕ (Int)))
    have hc2 : decide (v5 < (p0.length : Int)) = false := decide_eq_false (by omega)
    refine WC.seq ?_
    refine WC.seq ?_
    refine WC.rs [(0, 2), (1, 2), (2, 2), (3, 2)] rfl ?_
    refine WO.pn 2 rfl ?_
    refine WO.k2 rfl rfl rfl rfl (rn_len Try.runUnderlying27 rfl rfl) ?_
    refine WO.pn 1 rfl ?_
    refine WO.fin ?_
    refine DN.seq ?_
    refine WC.cf' rfl hc2 ?_
    refine WC.exit ?_
    refine DN.exitThen ?_
    refine DN.exitThen ?_
    obtain rfl := Option.some.inj h
    have h := hk11
    refine DN.hit ?_
    obtain rfl := Option.some.inj h
    exact DN.meet _ ⟨K9, (s1 : Int), rfl, S10.wk rfl, rfl⟩ fun a ha => (ha.more ha.nil rfl)
   ·
    obtain ⟨o2, h, hk11⟩ := Option.bind_eq_some_iff.mp h; unfold l_szClauseS_b0 at h
    have hc2 : decide (v5 < (p0.length : Int)) = true := decide_eq_true (by omega)
    refine WC.seq ?_
    refine WC.seq ?_
    refine WC.rs [(0, 2), (1, 2), (2, 2), (3, 2)] rfl ?_
    refine WO.pn 2 rfl ?_
    refine WO.k2 rfl rfl rfl rfl (rn_len Try.runUnderlying27 rfl rfl) ?_
    refine WO.pn 1 rfl ?_
    refine WO.fin ?_
    refine DN.seq ?_
    refine WC.ct' rfl hc2 ?_
    refine WC.skip ?_
    refine DN.seq ?_
    refine WC.seq ?_
    refine WC.block ?_
    refine WC.seq ?_
    refine WC.rs [(0, 2), (1, 2), (2, 2), (3, 1), (4, 2), (5, 1), (6, 2)] rfl ?_
    refine WO.pn 2 rfl ?_
    obtain ⟨x20, hx20, h⟩ := Option.bind_eq_some_iff.mp h
    refine WO.k2 rfl rfl rfl rfl (rn_index g0 hx20 Try.runUnderlying27 Try.sizeOf94 rfl rfl rfl rfl) ?_
    have f12 := g0.stp S10 rfl rfl
    obtain ⟨cse13, hre13, hle13⟩ := (f12).gSt hx20
    obtain ⟨ae13_0, ue13_0, ae13_1, ue13_1, rfl, fe13_0, fe13_1⟩ := Clause.un hre13
    refine WO.k1 trivial rfl rfl rfl rfl (rn_la (cs := [.int .i64 x20.Kind, .slice ae13_0 x20.A.length ue13_0, .slice ae13_1 x20.B.length ue13_1]) Try.isAgg94 Try.sizeOf94 rfl rfl rfl (haE hle13)) ?_
    refine WO.pn 1 rfl ?_
    obtain ⟨x23, hx23, h⟩ := Option.bind_eq_some_iff.mp h
    refine WO.call rfl rfl rfl rfl rfl rfl Try.call47 (l_szClause_ok (κ := fun b => mp [] 0 (K9 b)) (p0 := x20) (Sl.map fe13_0 (mp [] 0) rfl rfl) (Sl.map fe13_1 (mp [] 0) rfl rfl) hx23) ?_
    rintro _ w14 ⟨k15, rfl, e16⟩
    obtain ⟨K17, S18, m19⟩ := Ent.mixed (l := []) (κ := K9) e16 2 rfl
    refine ⟨trivial, ?_⟩
    refine WO.pn 1 rfl ?_
    refine WO.fin ?_
    refine DN.seq ?_
    refine WC.seq ?_
    refine WC.rs [(0, 2), (1, 2)] rfl ?_
    refine WO.pn 2 rfl ?_
    refine WO.fin ?_
    refine DN.seq ?_
    revert h
    cases ht21 : decide (x23 < 0) with
    | true =>
     intro h; replace h := cT h
     refine WC.ct rfl ?_
     refine WC.seq ?_
     refine WC.rs [(0, 2)] rfl ?_
     refine WO.pn 1 rfl ?_
     refine WO.fin ?_
     refine DN.seq ?_
     refine WC.ret ?_
     refine DN.retBlock ?_
     refine DN.retThen ?_
     refine DN.retThen ?_
     obtain rfl := Option.some.inj h
     obtain rfl := Option.some.inj hk11
     have h := hK3
     dsimp only [aft] at h
     refine DN.retBlock ?_
     refine DN.retMeet ?_
     refine DN.retThen ?_
     have f22 := hE.stp (S10.tr S18) rfl rfl
     refine DN.res (l := [.tmp 4]) Try.results8 (res_tmp rfl rfl) rfl ?_
     obtain rfl := Option.some.inj h
     exact ⟨K17, rfl, f22⟩
    | false =>
     intro h; replace h := cF h
     refine WC.cf rfl ?_
     refine WC.skip ?_
     refine DN.block ?_
     refine DN.seq ?_
     refine WC.rs [(0, 2), (1, 2), (2, 2)] rfl ?_
     refine WO.pn 3 rfl ?_
     refine WO.fin ?_
     have hw2 : IntKind.wrap .i64 (v5 + 1) = v5 + 1 := wr1 hj2 (of_decide_eq_true hc2) hN2
     rw [hw2]
     have hc2 := of_decide_eq_true hc2
     obtain rfl := Option.some.inj h
     refine DN.round fun a ha => ?_
     exact ⟨k, _, Nat.lt_succ_self _, ⟨K17, v5 + 1, (x23 : Int), rfl, (S10.tr S18).wk rfl, by omega, by omega, hk11⟩, (ha.more (ha.more (ha.more ha.nil rfl) rfl) rfl)⟩
  rintro _ w5 ⟨K6, s3, rfl, S7, rfl⟩
  have h := hK3
  dsimp only [aft] at h
  refine DN.seq ?_
  refine WC.seq ?_
  refine WC.rs [(0, 2), (1, 2)] rfl ?_
  refine WO.pn 2 rfl ?_
  refine WO.fin ?_
  refine DN.seq ?_
  refine WC.ret ?_
  have f23 := hE.stp S7 rfl rfl
  refine DN.res (l := [.tmp 4]) Try.results8 (res_tmp rfl rfl) rfl ?_
  obtain rfl := Option.some.inj h
  exact ⟨K6, rfl, f23⟩

/- loop.example/g00869/laws.toMachine -/
theorem l_toMachine_ok {w : World} {κ : Col} {a0_0 : Option Addr} {u0_0 : Nat} {a0_1 : Option Addr} {u0_1 : Nat} {p0 : Machine} (g0_0 : Rd (Rp.sl (Rp.int .i64)) κ w 0 a0_0 u0_0 p0.Next) (g0_1 : Rd (Rp.sl (Rp.int .i64)) κ w 0 a0_1 u0_1 p0.Out) {r : Machine} (h : l_toMachine p0 = some r) : Ret Try.prog 12 [.agg #[.slice a0_0 p0.Next.length u0_0, .slice a0_1 p0.Out.length u0_1]] w (fun v w' => ∃ (κ' : Col) (ra0 : Option Addr) (ru0 : Nat) (ra1 : Option Addr) (ru1 : Nat), v = .agg #[.slice ra0 r.Next.length ru0, .slice ra1 r.Out.length ru1] ∧ Ent κ w κ' w' ∧ Oc (Ep.own (Ep.int .i64) 2) 28 κ' w' 2 ra0 ru0 r.Next ∧ Oc (Ep.own (Ep.int .i64) 2) 28 κ' w' 3 ra1 ru1 r.Out) := by
 unfold l_toMachine at h
 refine Ret.enter Try.func12 rfl Try.ntmps12 rfl ?_
 dsimp only [envOf]
 have hE := Ent.refl κ w
 refine WC.seq ?_
 refine WC.rs [(0, 1), (1, 1)] rfl ?_
 refine WO.box (κ := κ) 2 rfl rfl rfl rfl rfl rfl rfl fun b1 w1 K2 S3 f4 => ⟨trivial, ?_⟩
 refine WO.alloc (κ := K2) 3 rfl rfl rfl rfl rfl Try.zeroValue37 rfl fun b2 w5 K6 S7 f8 => ⟨trivial, ?_⟩
 refine WO.fin ?_
 refine DN.seq ?_
 refine WC.seq ?_
 refine WC.rs [(0, 1)] rfl ?_
 refine WO.alloc (κ := K6) 4 rfl rfl rfl rfl rfl Try.zeroValue37 rfl fun b3 w9 K10 S11 f12 => ⟨trivial, ?_⟩
 refine WO.fin ?_
 refine DN.seq ?_
 refine WC.seq ?_
 refine WC.rs [(0, 2), (1, 1), (2, 1), (3, 2), (4, 1)] rfl ?_
 refine WO.k2 rfl rfl rfl rfl (rn_fieldAddr Try.runUnderlying26 rfl Try.sizeOf24 rfl rfl) ?_
 have f13 := f4.stp (S7.tr S11) rfl rfl
 refine WO.k1 trivial rfl rfl rfl rfl (rn_ld Try.isAgg24 rfl rfl (hvE (f13.ld 0 rfl rfl))) ?_
 obtain ⟨x6, hx6, h⟩ := Option.bind_eq_some_iff.mp h
 have f14 := g0_0.stp (S3.tr (S7.tr S11)) rfl rfl
 refine WO.call rfl rfl rfl rfl rfl rfl Try.call51 (l_toInt64SS_ok (κ := fun b => mp [] 0 (K10 b)) (Sl.map f14 (mp [] 0) rfl rfl) hx6) ?_
 rintro _ w15 ⟨k16, a6_0, u6_0, rfl, e17, f18⟩
 obtain ⟨K19, S20, m21⟩ := Ent.mixed (l := []) (κ := K10) e17 5 rfl
 refine ⟨trivial, ?_⟩
 have f23 := f18.mx (no_own (no_int _) _) m21 rfl (rfl : 5 + 2 = 7)
 refine WO.k2 rfl rfl rfl rfl (rn_fieldAddr Try.runUnderlying37 rfl Try.sizeOf24 rfl rfl) ?_
 have f24 := f12.stp S20 rfl rfl
 refine WO.stB (κ := K19) 4 (off := 0) (vc := [.slice a6_0 x6.length u6_0]) (cs' := [.slice a6_0 x6.length u6_0, .slice none 0 0]) rfl rfl rfl rfl rfl rfl rfl Try.sizeOf24 rfl rfl f24 rfl rfl fun w25 S26 f27 => ⟨trivial, ?_⟩
 refine WO.fin ?_
 refine DN.seq ?_
 refine WC.seq ?_
 refine WC.rs [(0, 2), (1, 1), (2, 1), (3, 2), (4, 1)] rfl ?_
 refine WO.k2 rfl rfl rfl rfl (rn_fieldAddr Try.runUnderlying26 rfl Try.sizeOf24 rfl rfl) ?_
 have f28 := f13.stp (S20.tr S26) rfl rfl
 refine WO.k1 trivial rfl rfl rfl rfl (rn_ld Try.isAgg24 rfl rfl (hvE (f28.ld 1 rfl rfl))) ?_
 obtain ⟨x10, hx10, h⟩ := Option.bind_eq_some_iff.mp h
 have f29 := g0_1.stp (S3.tr (S7.tr (S11.tr (S20.tr S26)))) rfl rfl
 refine WO.call rfl rfl rfl rfl rfl rfl Try.call51 (l_toInt64SS_ok (κ := fun b => mp [] 0 (K19 b)) (Sl.map f29 (mp [] 0) rfl rfl) hx10) ?_
 rintro _ w30 ⟨k31, a10_0, u10_0, rfl, e32, f33⟩
 obtain ⟨K34, S35, m36⟩ := Ent.mixed (l := []) (κ := K19) e32 8 rfl
 refine ⟨trivial, ?_⟩
 have f38 := f33.mx (no_own (no_int _) _) m36 rfl (rfl : 8 + 2 = 10)
 refine WO.k2 rfl rfl rfl rfl (rn_fieldAddr Try.runUnderlying37 rfl Try.sizeOf24 rfl rfl) ?_
 have f39 := f27.stp S35 rfl rfl
 refine WO.stB (κ := K34) 4 (off := 1) (vc := [.slice a10_0 x10.length u10_0]) (cs' := [.slice a6_0 x6.length u6_0, .slice a10_0 x10.length u10_0]) rfl rfl rfl rfl rfl rfl rfl Try.sizeOf24 rfl rfl f39 rfl rfl fun w40 S41 f42 => ⟨trivial, ?_⟩
 refine WO.fin ?_
 refine DN.seq ?_
 refine WC.seq ?_
 refine WC.rs [(0, 1), (1, 1)] rfl ?_
 refine WO.k1 trivial rfl rfl rfl rfl (rn_la (cs := [.slice a6_0 x6.length u6_0, .slice a10_0 x10.length u10_0]) Try.isAgg37 Try.sizeOf37 rfl rfl rfl (haE f42.cells)) ?_
 have f43 := f8.stp (S11.tr (S20.tr (S26.tr (S35.tr S41)))) rfl rfl
 refine WO.stB0 (κ := K34) 3 (vc := [.slice a6_0 x6.length u6_0, .slice a10_0 x10.length u10_0]) rfl rfl rfl rfl rfl rfl rfl Try.sizeOf37 rfl rfl f43 rfl fun w44 S45 f46 => ⟨trivial, ?_⟩
 refine WO.fin ?_
 refine DN.seq ?_
 refine WC.ret ?_
 have f47 := hE.stp (S3.tr (S7.tr (S11.tr (S20.tr (S26.tr (S35.tr (S41.tr S45))))))) rfl rfl
 have f48 := f23.stp (S26.tr (S35.tr (S41.tr S45))) rfl rfl
 have f49 := f38.stp (S41.tr S45) rfl rfl
 refine DN.res (l := [.cell 2 37]) Try.results12 (res_cellA rfl f46 Try.isAgg37 Try.sizeOf37 rfl rfl) rfl ?_
 obtain rfl := Option.some.inj h
 exact ⟨(fun b => ren [(7, 2), (10, 3)] (K34 b)), a6_0, u6_0, a10_0, u10_0, rfl, (f47.map (ren [(7, 2), (10, 3)]) rfl rfl), (f48.map (ren [(7, 2), (10, 3)]) rfl rfl), (f49.map (ren [(7, 2), (10, 3)]) rfl rfl)⟩

/- loop.example/g00869/spec.LettersOf -/
theorem s_LettersOf_ok {w : World} {κ : Col} {p0 : Sig}  {r : Int} (h : s_LettersOf p0 = some r) : Ret Try.prog 100 [.agg #[.int .i64 p0.In, .int .i64 p0.Out]] w (fun v w' => ∃ (κ' : Col), v = .int .i64 r ∧ Ent κ w κ' w') := by
 unfold s_LettersOf at h
 refine Ret.enter Try.func100 rfl Try.ntmps100 rfl ?_
 dsimp only [envOf]
 have hE := Ent.refl κ w
 refine WC.seq ?_
 refine WC.rs [(0, 1), (1, 2)] rfl ?_
 refine WO.box (κ := κ) 2 rfl rfl rfl rfl rfl rfl rfl fun b1 w1 K2 S3 f4 => ⟨trivial, ?_⟩
 refine WO.pn 1 rfl ?_
 refine WO.fin ?_
 refine DN.seq ?_
 refine WC.seq ?_
 refine WC.seq ?_
 refine WC.rs [(0, 1), (1, 1), (2, 2)] rfl ?_
 refine WO.k1 trivial rfl rfl rfl rfl (rn_la (cs := [.int .i64 p0.In, .int .i64 p0.Out]) Try.isAgg35 Try.sizeOf35 rfl rfl rfl (haE f4.cells)) ?_
 obtain ⟨x4, hx4, h⟩ := Option.bind_eq_some_iff.mp h
 refine WO.call rfl rfl rfl rfl rfl rfl Try.call95 (s_SigOk_ok (κ := fun b => mp [] 0 (K2 b)) (p0 := p0) hx4) ?_
 rintro _ w5 ⟨k6, rfl, e7⟩
 obtain ⟨K8, S9, m10⟩ := Ent.mixed (l := []) (κ := K2) e7 3 rfl
 refine ⟨trivial, ?_⟩
 refine WO.pn 1 rfl ?_
 refine WO.fin ?_
 refine DN.seq ?_
 revert h
 cases ht12 : (!x4) with
 | true =>
  intro h; replace h := cT h
  refine WC.ct rfl ?_
  refine WC.seq ?_
  refine WC.rs [(0, 2)] rfl ?_
  refine WO.pn 1 rfl ?_
  refine WO.fin ?_
  refine DN.seq ?_
  refine WC.ret ?_
  refine DN.retThen ?_
  have f13 := hE.stp (S3.tr S9) rfl rfl
  refine DN.res (l := [.tmp 2]) Try.results100 (res_tmp rfl rfl) rfl ?_
  obtain rfl := Option.some.inj h
  exact ⟨K8, rfl, f13⟩
 | false =>
  intro h; replace h := cF h
  refine WC.cf rfl ?_
  refine WC.skip ?_
  refine DN.seq ?_
  refine WC.seq ?_
  refine WC.rs [(0, 2), (1, 1), (2, 2), (3, 1), (4, 2), (5, 1), (6, 2)] rfl ?_
  refine WO.k2 rfl rfl rfl rfl (rn_fieldAddr Try.runUnderlying35 rfl Try.sizeOf2 rfl rfl) ?_
  have f14 := f4.stp S9 rfl rfl
  refine WO.k1 trivial rfl rfl rfl rfl (rn_ld Try.isAgg2 rfl rfl (hvE (f14.ld 0 rfl rfl))) ?_
  refine WO.k2 rfl rfl rfl rfl (rn_fieldAddr Try.runUnderlying35 rfl Try.sizeOf2 rfl rfl) ?_
  refine WO.k1 trivial rfl rfl rfl rfl (rn_ld Try.isAgg2 rfl rfl (hvE (f14.ld 1 rfl rfl))) ?_
  refine WO.pn 1 rfl ?_
  obtain ⟨x11, hx11, h⟩ := Option.bind_eq_some_iff.mp h
  refine WO.call rfl rfl rfl rfl rfl rfl Try.call99 (s_l23Power_ok (κ := fun b => mp [] 0 (K8 b)) hx11) ?_
  rintro _ w15 ⟨k16, rfl, e17⟩
  obtain ⟨K18, S19, m20⟩ := Ent.mixed (l := []) (κ := K8) e17 5 rfl
  refine ⟨trivial, ?_⟩
  refine WO.pn 1 rfl ?_
  refine WO.fin ?_
  refine DN.seq ?_
  refine WC.ret ?_
  have f22 := hE.stp (S3.tr (S9.tr S19)) rfl rfl
  refine DN.res (l := [.tmp 2]) Try.results100 (res_tmp rfl rfl) rfl ?_
  obtain rfl := Option.some.inj h
  exact ⟨K18, rfl, f22⟩

/- loop.example/g00869/impl.runWord -/
theorem i_runWord_ok {w : World} {κ : Col} {p0 : Sig} {a1_0 : Option Addr} {u1_0 : Nat} {a1_1 : Option Addr} {u1_1 : Nat} {p1 : Machine} {a2_0 : Option Addr} {u2_0 : Nat} {a2_1 : Option Addr} {u2_1 : Nat} {p2 : Word} (g1_0 : Rd (Rp.sl (Rp.int .i64)) κ w 0 a1_0 u1_0 p1.Next) (g1_1 : Rd (Rp.sl (Rp.int .i64)) κ w 0 a1_1 u1_1 p1.Out) (g2_0 : Rd (Rp.int .i64) κ w 0 a2_0 u2_0 p2.Stem) (g2_1 : Rd (Rp.int .i64) κ w 0 a2_1 u2_1 p2.Loop) {r : Word × Bool} (h : i_runWord p0 p1 p2 = some r) : Ret Try.prog 92 [.agg #[.int .i64 p0.In, .int .i64 p0.Out], .agg #[.slice a1_0 p1.Next.length u1_0, .slice a1_1 p1.Out.length u1_1], .agg #[.slice a2_0 p2.Stem.length u2_0, .slice a2_1 p2.Loop.length u2_1]] w (fun v w' => ∃ (κ' : Col) (ra0 : Option Addr) (ru0 : Nat) (ra1 : Option Addr) (ru1 : Nat), v = .tuple #[.agg #[.slice ra0 r.1.Stem.length ru0, .slice ra1 r.1.Loop.length ru1], .bool r.2] ∧ Ent κ w κ' w' ∧ Oc (Ep.int .i64) 2 κ' w' 2 ra0 ru0 r.1.Stem ∧ Oc (Ep.int .i64) 2 κ' w' 3 ra1 ru1 r.1.Loop) := by
 unfold i_runWord at h
 refine Ret.enter Try.func92 rfl Try.ntmps92 rfl ?_
 dsimp only [envOf]
 have hE := Ent.refl κ w
 refine WC.seq ?_
 refine WC.rs [(0, 1), (1, 1), (2, 1), (3, 1), (4, 2)] rfl ?_
 refine WO.box (κ := κ) 2 rfl rfl rfl rfl rfl rfl rfl fun b3 w1 K2 S3 f4 => ⟨trivial, ?_⟩
 refine WO.box (κ := K2) 3 rfl rfl rfl rfl rfl rfl rfl fun b4 w5 K6 S7 f8 => ⟨trivial, ?_⟩
 refine WO.box (κ := K6) 4 rfl rfl rfl rfl rfl rfl rfl fun b5 w9 K10 S11 f12 => ⟨trivial, ?_⟩
 refine WO.alloc (κ := K10) 5 rfl rfl rfl rfl rfl Try.zeroValue41 rfl fun b6 w13 K14 S15 f16 => ⟨trivial, ?_⟩
 refine WO.pn 1 rfl ?_
 refine WO.fin ?_
 refine DN.seq ?_
 refine WC.seq ?_
 refine WC.rs [(0, 1), (1, 1), (2, 1)] rfl ?_
 refine WO.bl0 (κ := K14) (E := (Ep.int .i64)) 6 rfl rfl rfl rfl rfl Try.underlying28 Tryinfo2 rfl fun a14 u14 w17 K18 S19 f20 => ⟨trivial, ?_⟩
 refine WO.alloc (κ := K18) 7 rfl rfl rfl rfl rfl Try.zeroValue28 rfl fun b8 w21 K22 S23 f24 => ⟨trivial, ?_⟩
 refine WO.stB0 (κ := K22) 7 (vc := [.slice a14 ([] : List Int).length u14]) rfl rfl rfl rfl rfl rfl rfl Try.sizeOf28 rfl rfl f24 rfl fun w25 S26 f27 => ⟨trivial, ?_⟩
 refine WO.fin ?_
 refine DN.seq ?_
 refine WC.seq ?_
 refine WC.rs [(0, 1), (1, 1)] rfl ?_
 refine WO.alloc (κ := K22) 8 rfl rfl rfl rfl rfl Try.zeroValue2 rfl fun b9 w28 K29 S30 f31 => ⟨trivial, ?_⟩
 refine WO.stB0 (κ := K29) 8 (vc := [.int .i64 0]) rfl rfl rfl rfl rfl rfl rfl Try.sizeOf2 rfl rfl f31 rfl fun w32 S33 f34 => ⟨trivial, ?_⟩
 refine WO.fin ?_
 refine DN.seq ?_
 refine WC.seq ?_
 refine WC.rs [(0, 2), (1, 2)] rfl ?_
 refine WO.k2 rfl rfl rfl rfl (rn_makeFunc (first := []) (captured := [.tmp 8, .tmp 4, .tmp 9, .tmp 3]) rfl rfl rfl ⟨_, rfl⟩) ?_
 refine WO.pn 1 rfl ?_
 refine WO.fin ?_
 refine DN.seq ?_
 refine WC.seq ?_
 refine WC.rs [(0, 2), (1, 2), (2, 1), (3, 1)] rfl ?_
 refine WO.pn 1 rfl ?_
 refine WO.k2 rfl rfl rfl rfl (rn_fieldAddr Try.runUnderlying41 rfl Try.sizeOf28 rfl rfl) ?_
 have f35 := f12.stp (S15.tr (S19.tr (S23.tr (S26.tr (S30.tr S33))))) rfl rfl
 refine WO.k1 trivial rfl rfl rfl rfl (rn_ld Try.isAgg28 rfl rfl (hvE (f35.ld 0 rfl rfl))) ?_
 obtain ⟨x19, hx19, h⟩ := Option.bind_eq_some_iff.mp h
 have f36 := g2_0.stp (S3.tr (S7.tr (S11.tr (S15.tr (S19.tr (S23.tr (S26.tr (S30.tr S33)))))))) rfl rfl
 have f37 := f20.stp (S23.tr (S26.tr (S30.tr S33))) rfl rfl
 have f38 := g1_0.stp (S3.tr (S7.tr (S11.tr (S15.tr (S19.tr (S23.tr (S26.tr (S30.tr S33)))))))) rfl rfl
 have f39 := g1_1.stp (S3.tr (S7.tr (S11.tr (S15.tr (S19.tr (S23.tr (S26.tr (S30.tr S33)))))))) rfl rfl
 have f40 := f27.stp (S30.tr S33) rfl rfl
 have f41 := f8.stp (S11.tr (S15.tr (S19.tr (S23.tr (S26.tr (S30.tr S33)))))) rfl rfl
 have f42 := f4.stp (S7.tr (S11.tr (S15.tr (S19.tr (S23.tr (S26.tr (S30.tr S33))))))) rfl rfl
 refine WO.callV rfl rfl rfl rfl rfl rfl rfl rfl Try.call123 (i_runWord_1_ok (κ := fun b => mp [(6, 2), (7, 3), (8, 4)] 0 (K29 b)) (c1 := p1) (c3 := p0) (Sl.map f36 (mp [(6, 2), (7, 3), (8, 4)] 0) rfl rfl) (f37.map (mp [(6, 2), (7, 3), (8, 4)] 0) rfl rfl) (Sl.map f38 (mp [(6, 2), (7, 3), (8, 4)] 0) rfl rfl) (Sl.map f39 (mp [(6, 2), (7, 3), (8, 4)] 0) rfl rfl) (f40.map (mp [(6, 2), (7, 3), (8, 4)] 0) rfl rfl) (f41.map (mp [(6, 2), (7, 3), (8, 4)] 0) rfl rfl) (f34.map (mp [(6, 2), (7, 3), (8, 4)] 0) rfl rfl) (f42.map (mp [(6, 2), (7, 3), (8, 4)] 0) rfl rfl) hx19) ?_
 rintro _ w43 ⟨k44, a19_m0, u19_m0, rfl, e45, f46, f47, f48⟩
 obtain ⟨K49, S50, m51⟩ := Ent.mixed (l := [(6, 2), (7, 3), (8, 4)]) (κ := K29) e45 9 rfl
 refine ⟨trivial, ?_⟩
 have f53 := f46.mx (no_int _) m51 rfl (rfl : 9 + 2 = 11)
 have f54 := f47.mx m51 rfl (rfl : 9 + 3 = 12)
 have f55 := f48.mx m51 rfl (rfl : 9 + 4 = 13)
 refine WO.fin ?_
 refine DN.seq ?_
 refine WC.seq ?_
 refine WC.rs [(0, 1), (1, 2)] rfl ?_
 refine WO.bl0 (κ := K49) (E := (Ep.int .i64)) 14 rfl rfl rfl rfl rfl Try.underlying28 Tryinfo2 rfl fun a20 u20 w56 K57 S58 f59 => ⟨trivial, ?_⟩
 refine WO.pn 1 rfl ?_
 refine WO.fin ?_
 refine DN.seq ?_
 refine WC.seq ?_
 obtain ⟨q2, hq62, hK61⟩ := Option.bind_eq_some_iff.mp h
 clear h
 refine WC.meet (fun L w' => ∃ (κ' : Col) (s3 : (List Int) × (List Int) × Int) (las3_0 : Option Addr) (lus3_0 : Nat) (las3_1 : Option Addr) (lus3_1 : Nat), L = [(5, .pointer (some ⟨b5, 0, none⟩)), (6, .pointer (some ⟨b6, 0, none⟩)), (8, .pointer (some ⟨b8, 0, none⟩)), (9, .pointer (some ⟨b9, 0, none⟩)), (11, .slice las3_0 s3.1.length lus3_0)] ∧ Stp [11, 12, 13, 14, 20, 21, 22] K57 w56 κ' w' ∧ Oc (Ep.int .i64) 2 κ' w' 14 las3_0 lus3_0 s3.1 ∧ Oc (Ep.int .i64) 2 κ' w' 11 las3_1 lus3_1 s3.2.1 ∧ Bc κ' w' 12 b8 28 [.slice las3_1 s3.2.1.length lus3_1] ∧ Bc κ' w' 13 b9 2 [.int .i64 s3.2.2] ∧ q2 = Sum.inr s3) ?_ ?_
 ·
  refine WC.block ?_
  have f77 := f53.stp S58 rfl rfl
  have f78 := f54.stp S58 rfl rfl
  have f79 := f55.stp S58 rfl rfl
  refine WC.loop (fun k L w' => ∃ (κ' : Col) (s1 : (List Int) × (List Int) × Int) (las1_0 : Option Addr) (lus1_0 : Nat) (las1_1 : Option Addr) (lus1_1 : Nat), L = [(5, .pointer (some ⟨b5, 0, none⟩)), (6, .pointer (some ⟨b6, 0, none⟩)), (8, .pointer (some ⟨b8, 0, none⟩)), (9, .pointer (some ⟨b9, 0, none⟩)), (10, .func (.func 123) #[] #[.pointer (some ⟨b8, 0, none⟩), .pointer (some ⟨b4, 0, none⟩), .pointer (some ⟨b9, 0, none⟩), .pointer (some ⟨b3, 0, none⟩)]), (11, .slice las1_0 s1.1.length lus1_0)] ∧ Stp [11, 12, 13, 14, 20, 21, 22] K57 w56 κ' w' ∧ Oc (Ep.int .i64) 2 κ' w' 14 las1_0 lus1_0 s1.1 ∧ Oc (Ep.int .i64) 2 κ' w' 11 las1_1 lus1_1 s1.2.1 ∧ Bc κ' w' 12 b8 28 [.slice las1_1 s1.2.1.length lus1_1] ∧ Bc κ' w' 13 b9 2 [.int .i64 s1.2.2] ∧ whileM (i_runWord_b0 p0 p1 p2) k s1 = some q2) ⟨_, _, ⟨K57, ((([] : List Int) : (List Int)), (x19.1 : (List Int)), (x19.2 : Int)), a20, u20, a19_m0, u19_m0, rfl, (Stp.refl _ _).wk rfl, f59, f77, f78, f79, hq62⟩, fun a ha => (ha.more (ha.more (ha.more (ha.more (ha.more (ha.more ha.nil rfl) rfl) rfl) rfl) rfl) rfl)⟩ ?_
  rintro k _ w70 ⟨K71, s1, las1_0, lus1_0, las1_1, lus1_1, rfl, S72, f73, f74, f75, f76, h⟩
  rcases k with _ | k
  ·
   cases h
  ·
   obtain ⟨o60, h, hk80⟩ := Option.bind_eq_some_iff.mp h; unfold i_runWord_b0 at h
   refine WC.seq ?_
   refine WC.seq ?_
   refine WC.rs [(0, 2), (1, 1), (2, 1), (3, 2)] rfl ?_
   refine WO.pn 1 rfl ?_
   refine WO.k1 trivial rfl rfl rfl rfl (rn_ld Try.isAgg2 rfl rfl (hvE (f76.ld 0 rfl rfl))) ?_
   obtain ⟨x23, hx23, h⟩ := Option.bind_eq_some_iff.mp h
   refine WO.call rfl rfl rfl rfl rfl rfl Try.call108 (slices_Contains_I_int64_ok (κ := fun b => mp [] 0 (K71 b)) (Sl.map f73.rdc (mp [] 0) rfl rfl) hx23) ?_
   rintro _ w81 ⟨k82, rfl, e83⟩
   obtain ⟨K84, S85, m86⟩ := Ent.mixed (l := []) (κ := K71) e83 15 rfl
   refine ⟨trivial, ?_⟩
   refine WO.pn 1 rfl ?_
   refine WO.fin ?_
   refine DN.seq ?_
   revert h
   cases ht88 : (!x23) with
   | true =>
    intro h; replace h := cT h
    refine WC.ct rfl ?_
    refine WC.skip ?_
    refine DN.seq ?_
    refine WC.block ?_
    refine WC.seq ?_
    refine WC.rs [(0, 2), (1, 1), (2, 1), (3, 1), (4, 2)] rfl ?_
    refine WO.pn 1 rfl ?_
    have f89 := f76.stp S85 rfl rfl
    refine WO.k1 trivial rfl rfl rfl rfl (rn_ld Try.isAgg2 rfl rfl (hvE (f89.ld 0 rfl rfl))) ?_
    refine WO.bl (κ := K84) (E := (Ep.int .i64)) 17 [] (parts := [(0, .tmp 26)]) (cells := [.int .i64 s1.2.2]) (xs := ([s1.2.2] : List Int)) rfl rfl rfl rfl rfl rfl Try.underlying28 Tryinfo2 rfl rfl rfl rfl rfl rfl rfl rfl rfl rfl ⟨[.int .i64 s1.2.2], [], Zl K84 w81 [], Zl K84 w81 [], rfl, Zl.sp (l1 := []) (l2 := []) rfl, Zl.sr (l1 := []) (l2 := []), rfl, rfl⟩ fun a27 u27 w90 K91 S92 f93 => ⟨trivial, ?_⟩
    obtain ⟨x28, hx28, h⟩ := Option.bind_eq_some_iff.mp h
    have f94 := f73.stp (S85.tr S92) rfl rfl
    refine WO.app (κ := K91) (E := (Ep.int .i64)) 14 [] rfl rfl rfl rfl rfl rfl rfl rfl rfl Try.underlying28 Tryinfo2 rfl rfl rfl rfl f94 (Sl.srcP (pu_int _) f93.rdc) sy_false hx28 rfl fun a28 u28 w95 K96 S97 f98 => ⟨trivial, ?_⟩
    refine WO.pn 1 rfl ?_
    refine WO.fin ?_
    refine DN.seq ?_
    refine WC.rs [(0, 2), (1, 2), (2, 1), (3, 1)] rfl ?_
    refine WO.pn 1 rfl ?_
    refine WO.k2 rfl rfl rfl rfl (rn_fieldAddr Try.runUnderlying41 rfl Try.sizeOf28 rfl rfl) ?_
    have f99 := f35.stp (S50.tr (S58.tr (S72.tr (S85.tr (S92.tr S97))))) rfl rfl
    refine WO.k1 trivial rfl rfl rfl rfl (rn_ld Try.isAgg28 rfl rfl (hvE (f99.ld 1 rfl rfl))) ?_
    obtain ⟨x32, hx32, h⟩ := Option.bind_eq_some_iff.mp h
    have f100 := g2_1.stp (S3.tr (S7.tr (S11.tr (S15.tr (S19.tr (S23.tr (S26.tr (S30.tr (S33.tr (S50.tr (S58.tr (S72.tr (S85.tr (S92.tr S97)))))))))))))) rfl rfl
    have f101 := f74.stp (S85.tr (S92.tr S97)) rfl rfl
    have f102 := f38.stp (S50.tr (S58.tr (S72.tr (S85.tr (S92.tr S97))))) rfl rfl
    have f103 := f39.stp (S50.tr (S58.tr (S72.tr (S85.tr (S92.tr S97))))) rfl rfl
    have f104 := f75.stp (S85.tr (S92.tr S97)) rfl rfl
    have f105 := f41.stp (S50.tr (S58.tr (S72.tr (S85.tr (S92.tr S97))))) rfl rfl
    have f106 := f89.stp (S92.tr S97) rfl rfl
    have f107 := f42.stp (S50.tr (S58.tr (S72.tr (S85.tr (S92.tr S97))))) rfl rfl
    refine WO.callV rfl rfl rfl rfl rfl rfl rfl rfl Try.call123 (i_runWord_1_ok (κ := fun b => mp [(11, 2), (12, 3), (13, 4)] 0 (K96 b)) (c1 := p1) (c3 := p0) (Sl.map f100 (mp [(11, 2), (12, 3), (13, 4)] 0) rfl rfl) (f101.map (mp [(11, 2), (12, 3), (13, 4)] 0) rfl rfl) (Sl.map f102 (mp [(11, 2), (12, 3), (13, 4)] 0) rfl rfl) (Sl.map f103 (mp [(11, 2), (12, 3), (13, 4)] 0) rfl rfl) (f104.map (mp [(11, 2), (12, 3), (13, 4)] 0) rfl rfl) (f105.map (mp [(11, 2), (12, 3), (13, 4)] 0) rfl rfl) (f106.map (mp [(11, 2), (12, 3), (13, 4)] 0) rfl rfl) (f107.map (mp [(11, 2), (12, 3), (13, 4)] 0) rfl rfl) hx32) ?_
    rintro _ w108 ⟨k109, a32_m0, u32_m0, rfl, e110, f111, f112, f113⟩
    obtain ⟨K114, S115, m116⟩ := Ent.mixed (l := [(11, 2), (12, 3), (13, 4)]) (κ := K96) e110 18 rfl
    refine ⟨trivial, ?_⟩
    have f118 := f111.mx (no_int _) m116 rfl (rfl : 18 + 2 = 20)
    have f119 := f112.mx m116 rfl (rfl : 18 + 3 = 21)
    have f120 := f113.mx m116 rfl (rfl : 18 + 4 = 22)
    refine WO.fin ?_
    refine DN.block ?_
    have f121 := f98.stp S115 rfl rfl
    obtain rfl := Option.some.inj h
    refine DN.round fun a ha => ?_
    exact ⟨k, _, Nat.lt_succ_self _, ⟨(fun b => ren [(20, 11), (21, 12), (22, 13)] (K114 b)), ((x28 : (List Int)), (x32.1 : (List Int)), (x32.2 : Int)), a28, u28, a32_m0, u32_m0, rfl, (Stp.ren ((S72.tr (S85.tr (S92.tr (S97.tr S115)))).wk rfl) [(20, 11), (21, 12), (22, 13)] rfl), (f121.map (ren [(20, 11), (21, 12), (22, 13)]) rfl rfl), (f118.map (ren [(20, 11), (21, 12), (22, 13)]) rfl rfl), (f119.map (ren [(20, 11), (21, 12), (22, 13)]) rfl rfl), (f120.map (ren [(20, 11), (21, 12), (22, 13)]) rfl rfl), hk80⟩, (ha.more (ha.more (ha.more (ha.more (ha.more (ha.more ha.nil rfl) rfl) rfl) rfl) rfl) rfl)⟩
   | false =>
    intro h; replace h := cF h
    refine WC.cf rfl ?_
    refine WC.exit ?_
    refine DN.exitThen ?_
    refine DN.exitThen ?_
    obtain rfl := Option.some.inj h
    have h := hk80
    refine DN.hit ?_
    have f122 := f73.stp S85 rfl rfl
    have f123 := f74.stp S85 rfl rfl
    have f124 := f75.stp S85 rfl rfl
    have f125 := f76.stp S85 rfl rfl
    obtain rfl := Option.some.inj h
    exact DN.meet _ ⟨K84, ((s1.1 : (List Int)), (s1.2.1 : (List Int)), (s1.2.2 : Int)), las1_0, lus1_0, las1_1, lus1_1, rfl, (S72.tr S85).wk rfl, f122, f123, f124, f125, rfl⟩ fun a ha => (ha.more (ha.more (ha.more (ha.more (ha.more ha.nil rfl) rfl) rfl) rfl) rfl)
 rintro _ w63 ⟨K64, s3, las3_0, lus3_0, las3_1, lus3_1, rfl, S65, f66, f67, f68, f69, rfl⟩
 have h := hK61
 dsimp only [aft] at h
 refine DN.seq ?_
 refine WC.seq ?_
 refine WC.rx (κ := K64) [4, 13] none [(0, 2), (3, 2), (6, 2), (1, 0), (2, 2), (4, 0), (7, 0), (8, 2), (5, 1), (9, 2), (10, 2), (11, 2)] [] (by kernel_rfl) (by kernel_rfl) fun w127 S126 => ?_
 refine WO.k2 rfl rfl rfl rfl (rn_fieldAddr Try.runUnderlying41 rfl Try.sizeOf28 rfl rfl) ?_
 refine WO.pn 1 rfl ?_
 refine WO.k2 rfl rfl rfl rfl (rn_fieldAddr Try.runUnderlying41 rfl Try.sizeOf28 rfl rfl) ?_
 have f128 := f35.stp (S50.tr (S58.tr (S65.tr S126))) rfl rfl
 refine WO.k0 rfl rfl rfl rfl (rn_ld Try.isAgg28 rfl rfl (hvC (f128.ld 0 rfl rfl) rfl)) ?_
 refine WO.k2 rfl rfl rfl rfl (rn_len Try.runUnderlying28 rfl rfl) ?_
 have f129 := f69.stp S126 rfl rfl
 refine WO.k0 rfl rfl rfl rfl (rn_ld Try.isAgg2 rfl rfl (hvC (f129.ld 0 rfl rfl) rfl)) ?_
 refine WO.k0 rfl rfl rfl rfl (rn_ld Try.isAgg28 rfl rfl (hvC (f128.ld 1 rfl rfl) rfl)) ?_
 refine WO.k2 rfl rfl rfl rfl (rn_len Try.runUnderlying28 rfl rfl) ?_
 obtain ⟨x38, hx38, h⟩ := Option.bind_eq_some_iff.mp h
 have f130 := f66.stp S126 rfl rfl
 refine WO.call rfl rfl rfl rfl rfl rfl Try.call124 (slices_Index_I_int64_ok (κ := fun b => mp [] 0 (K64 b)) (Sl.map f130.rdc (mp [] 0) rfl rfl) hx38) ?_
 rintro _ w131 ⟨k132, rfl, e133⟩
 obtain ⟨K134, S135, m136⟩ := Ent.mixed (l := []) (κ := K64) e133 15 rfl
 refine ⟨(S135.cl rfl), ?_⟩
 refine WO.pn 3 rfl ?_
 refine WO.nx ?_
 refine WO.fin ?_
 refine DN.seq ?_
 refine WC.seq ?_
 obtain ⟨x47, hx47, h⟩ := Option.bind_eq_some_iff.mp h
 obtain ⟨x52, hx52, h⟩ := Option.bind_eq_some_iff.mp h
 obtain ⟨x48, hx48, h⟩ := Option.bind_eq_some_iff.mp h
 obtain ⟨x53, hx53, h⟩ := Option.bind_eq_some_iff.mp h
 refine WC.meet (fun L w' => ∃ (κ' : Col) (b13 : Nat) (lar141_0 : Option Addr) (lur141_0 : Nat) (lar141_1 : Option Addr) (lur141_1 : Nat), L = [(6, .pointer (some ⟨b6, 0, none⟩)), (13, .pointer (some ⟨b13, 0, none⟩))] ∧ Stp [17, 18, 19] K134 w131 κ' w' ∧ Oc (Ep.int .i64) 2 κ' w' 17 lar141_0 lur141_0 ((⟨x48, x53⟩ : Word).Stem) ∧ Oc (Ep.int .i64) 2 κ' w' 18 lar141_1 lur141_1 ((⟨x48, x53⟩ : Word).Loop) ∧ Bc κ' w' 19 b13 41 [.slice lar141_0 ((⟨x48, x53⟩ : Word).Stem).length lur141_0, .slice lar141_1 ((⟨x48, x53⟩ : Word).Loop).length lur141_1]) ?_ ?_
 ·
  refine WC.rxt (κ := K134) [12] none (by kernel_rfl) fun w145 S146 => ?_
  refine WA.seg (fuel := 7) [(2, 2), (7, 2), (1, 0), (3, 2), (6, 0), (8, 2)] (by kernel_rfl) (by kernel_rfl) rfl ?_
  refine WO.pn 2 rfl ?_
  have f147 := f68.stp (S126.tr (S135.tr S146)) rfl rfl
  refine WO.k0 rfl rfl rfl rfl (rn_ld Try.isAgg28 rfl rfl (hvC (f147.ld 0 rfl rfl) rfl)) ?_
  refine WO.k2 rfl rfl rfl rfl (rn_slice (k1 := .i64) (k2 := .i64) Try.runUnderlying28 Try.sizeOf2 (.inl ⟨rfl, rfl⟩) (.inr ⟨_, rfl, rfl⟩) hx47 f67.rdc.1 rfl rfl rfl) ?_
  have f149 := f67.stp (S126.tr (S135.tr S146)) rfl rfl
  have f148 := f149.rdc.sub hx47
  refine WO.k0 rfl rfl rfl rfl (rn_ld Try.isAgg28 rfl rfl (hvC (f147.ld 0 rfl rfl) rfl)) ?_
  refine WO.k2 rfl rfl rfl rfl (rn_slice (k1 := .i64) (k2 := .i64) Try.runUnderlying28 Try.sizeOf2 (.inr ⟨_, rfl, rfl⟩) (.inl ⟨rfl, rfl⟩) hx52 f149.rdc.1 rfl rfl rfl) ?_
  have f150 := f149.rdc.sub hx52
  refine WO.wa ?_
  refine WA.fork3 (fuel := 6) 0 5 11 (by kernel_rfl) rfl ?_ ?_ ?_
  ·
   refine WO.bl0 (κ := K134) (E := (Ep.int .i64)) 17 rfl rfl rfl rfl rfl Try.underlying28 Tryinfo2 rfl fun a44 u44 w151 K152 S153 f154 => ⟨(S153.cl rfl), ?_⟩
   refine WO.wa ?_
   refine WA.fork3 (fuel := 5) 4 5 11 (by kernel_rfl) rfl ?_ ?_ ?_
   ·
    have f155 := f148.stp S153 rfl rfl
    refine WO.app (κ := K152) (E := (Ep.int .i64)) 17 [] rfl rfl rfl rfl rfl rfl rfl rfl rfl Try.underlying28 Tryinfo2 rfl rfl rfl rfl f154 (Sl.srcP (pu_int _) f155) sy_false hx48 rfl fun a48 u48 w156 K157 S158 f159 => ⟨((S153.tr S158).cl rfl), ?_⟩
    refine WO.wa ?_
    refine WA.fork2 (fuel := 4) 5 11 (by kernel_rfl) rfl ?_ ?_
    ·
     refine WO.bl0 (κ := K157) (E := (Ep.int .i64)) 18 rfl rfl rfl rfl rfl Try.underlying28 Tryinfo2 rfl fun a49 u49 w160 K161 S162 f163 => ⟨((S153.tr (S158.tr S162)).cl rfl), ?_⟩
     refine WO.wa ?_
     refine WA.fork2 (fuel := 3) 9 11 (by kernel_rfl) rfl ?_ ?_
     ·
      have f164 := f150.stp (S153.tr (S158.tr S162)) rfl rfl
      refine WO.app (κ := K161) (E := (Ep.int .i64)) 18 [] rfl rfl rfl rfl rfl rfl rfl rfl rfl Try.underlying28 Tryinfo2 rfl rfl rfl rfl f163 (Sl.srcP (pu_int _) f164) sy_false hx53 rfl fun a53 u53 w165 K166 S167 f168 => ⟨((S153.tr (S158.tr (S162.tr S167))).cl rfl), ?_⟩
      refine WO.wa ?_
      refine WA.seg (fuel := 0) [(10, 2), (11, 1), (12, 1)] (by kernel_rfl) (by kernel_rfl) rfl ?_
      refine WO.k2 rfl rfl rfl rfl (rn_build (parts := [(0, .tmp 48), (1, .tmp 53)]) (cells := [.slice a48 x48.length u48, .slice a53 x53.length u53]) rfl rfl (by kernel_rfl)) ?_
      refine WO.alloc (κ := K166) 19 rfl rfl rfl rfl rfl Try.zeroValue41 rfl fun b13 w169 K170 S171 f172 => ⟨((S153.tr (S158.tr (S162.tr (S167.tr S171)))).cl rfl), ?_⟩
      refine WO.stB0 (κ := K170) 19 (vc := [.slice a48 x48.length u48, .slice a53 x53.length u53]) rfl rfl rfl rfl rfl rfl rfl Try.sizeOf41 rfl rfl f172 rfl fun w173 S174 f175 => ⟨((S153.tr (S158.tr (S162.tr (S167.tr (S171.tr S174))))).cl rfl), ?_⟩
      refine WO.wa ?_
      refine WA.last [] (by kernel_rfl) (by kernel_rfl) rfl ?_
      refine WO.fin ?_
      have f176 := f159.stp (S162.tr (S167.tr (S171.tr S174))) rfl rfl
      have f177 := f168.stp (S171.tr S174) rfl rfl
      exact DN.meet _ ⟨K170, b13, a48, u48, a53, u53, rfl, (S146.tr (S153.tr (S158.tr (S162.tr (S167.tr (S171.tr S174)))))).wk rfl, f176, f177, f175⟩ fun a ha => (ha.more (ha.more ha.nil rfl) rfl)
     ·
      refine WO.alloc (κ := K161) 19 rfl rfl rfl rfl rfl Try.zeroValue41 rfl fun b13 w178 K179 S180 f181 => ⟨((S153.tr (S158.tr (S162.tr S180))).cl rfl), ?_⟩
      refine WO.wa ?_
      refine WA.seg (fuel := 0) [(9, 1), (10, 2), (12, 1)] (by kernel_rfl) (by kernel_rfl) rfl ?_
      have f182 := f150.stp (S153.tr (S158.tr (S162.tr S180))) rfl rfl
      have f183 := f163.stp S180 rfl rfl
      refine WO.app (κ := K179) (E := (Ep.int .i64)) 18 [] rfl rfl rfl rfl rfl rfl rfl rfl rfl Try.underlying28 Tryinfo2 rfl rfl rfl rfl f183 (Sl.srcP (pu_int _) f182) sy_false hx53 rfl fun a53 u53 w184 K185 S186 f187 => ⟨((S153.tr (S158.tr (S162.tr (S180.tr S186)))).cl rfl), ?_⟩
      refine WO.k2 rfl rfl rfl rfl (rn_build (parts := [(0, .tmp 48), (1, .tmp 53)]) (cells := [.slice a48 x48.length u48, .slice a53 x53.length u53]) rfl rfl (by kernel_rfl)) ?_
      have f188 := f181.stp S186 rfl rfl
      refine WO.stB0 (κ := K185) 19 (vc := [.slice a48 x48.length u48, .slice a53 x53.length u53]) rfl rfl rfl rfl rfl rfl rfl Try.sizeOf41 rfl rfl f188 rfl fun w189 S190 f191 => ⟨((S153.tr (S158.tr (S162.tr (S180.tr (S186.tr S190))))).cl rfl), ?_⟩
      refine WO.wa ?_
      refine WA.last [] (by kernel_rfl) (by kernel_rfl) rfl ?_
      refine WO.fin ?_
      have f192 := f159.stp (S162.tr (S180.tr (S186.tr S190))) rfl rfl
      have f193 := f187.stp S190 rfl rfl
      exact DN.meet _ ⟨K185, b13, a48, u48, a53, u53, rfl, (S146.tr (S153.tr (S158.tr (S162.tr (S180.tr (S186.tr S190)))))).wk rfl, f192, f193, f191⟩ fun a ha => (ha.more (ha.more ha.nil rfl) rfl)
    ·
     refine WO.alloc (κ := K157) 18 rfl rfl rfl rfl rfl Try.zeroValue41 rfl fun b13 w194 K195 S196 f197 => ⟨((S153.tr (S158.tr S196)).cl rfl), ?_⟩
     refine WO.wa ?_
     refine WA.seg (fuel := 0) [(5, 1), (9, 1), (10, 2), (12, 1)] (by kernel_rfl) (by kernel_rfl) rfl ?_
     refine WO.bl0 (κ := K195) (E := (Ep.int .i64)) 19 rfl rfl rfl rfl rfl Try.underlying28 Tryinfo2 rfl fun a49 u49 w198 K199 S200 f201 => ⟨((S153.tr (S158.tr (S196.tr S200))).cl rfl), ?_⟩
     have f202 := f150.stp (S153.tr (S158.tr (S196.tr S200))) rfl rfl
     refine WO.app (κ := K199) (E := (Ep.int .i64)) 19 [] rfl rfl rfl rfl rfl rfl rfl rfl rfl Try.underlying28 Tryinfo2 rfl rfl rfl rfl f201 (Sl.srcP (pu_int _) f202) sy_false hx53 rfl fun a53 u53 w203 K204 S205 f206 => ⟨((S153.tr (S158.tr (S196.tr (S200.tr S205)))).cl rfl), ?_⟩
     refine WO.k2 rfl rfl rfl rfl (rn_build (parts := [(0, .tmp 48), (1, .tmp 53)]) (cells := [.slice a48 x48.length u48, .slice a53 x53.length u53]) rfl rfl (by kernel_rfl)) ?_
     have f207 := f197.stp (S200.tr S205) rfl rfl
     refine WO.stB0 (κ := K204) 18 (vc := [.slice a48 x48.length u48, .slice a53 x53.length u53]) rfl rfl rfl rfl rfl rfl rfl Try.sizeOf41 rfl rfl f207 rfl fun w208 S209 f210 => ⟨((S153.tr (S158.tr (S196.tr (S200.tr (S205.tr S209))))).cl rfl), ?_⟩
     refine WO.wa ?_
     refine WA.last [] (by kernel_rfl) (by kernel_rfl) rfl ?_
     refine WO.fin ?_
     have f211 := f159.stp (S196.tr (S200.tr (S205.tr S209))) rfl rfl
     have f212 := f206.stp S209 rfl rfl
     exact DN.meet _ ⟨(fun b => ren [(19, 18), (18, 19)] (K204 b)), b13, a48, u48, a53, u53, rfl, (Stp.ren ((S146.tr (S153.tr (S158.tr (S196.tr (S200.tr (S205.tr S209)))))).wk rfl) [(19, 18), (18, 19)] rfl), (f211.map (ren [(19, 18), (18, 19)]) rfl rfl), (f212.map (ren [(19, 18), (18, 19)]) rfl rfl), (f210.map (ren [(19, 18), (18, 19)]) rfl rfl)⟩ fun a ha => (ha.more (ha.more ha.nil rfl) rfl)
   ·
    refine WO.bl0 (κ := K152) (E := (Ep.int .i64)) 18 rfl rfl rfl rfl rfl Try.underlying28 Tryinfo2 rfl fun a49 u49 w213 K214 S215 f216 => ⟨((S153.tr S215).cl rfl), ?_⟩
    refine WO.wa ?_
    refine WA.fork2 (fuel := 4) 4 11 (by kernel_rfl) rfl ?_ ?_
    ·
     have f217 := f148.stp (S153.tr S215) rfl rfl
     have f218 := f154.stp S215 rfl rfl
     refine WO.app (κ := K214) (E := (Ep.int .i64)) 17 [] rfl rfl rfl rfl rfl rfl rfl rfl rfl Try.underlying28 Tryinfo2 rfl rfl rfl rfl f218 (Sl.srcP (pu_int _) f217) sy_false hx48 rfl fun a48 u48 w219 K220 S221 f222 => ⟨((S153.tr (S215.tr S221)).cl rfl), ?_⟩
     refine WO.wa ?_
     refine WA.fork2 (fuel := 3) 9 11 (by kernel_rfl) rfl ?_ ?_
     ·
      have f223 := f150.stp (S153.tr (S215.tr S221)) rfl rfl
      have f224 := f216.stp S221 rfl rfl
      refine WO.app (κ := K220) (E := (Ep.int .i64)) 18 [] rfl rfl rfl rfl rfl rfl rfl rfl rfl Try.underlying28 Tryinfo2 rfl rfl rfl rfl f224 (Sl.srcP (pu_int _) f223) sy_false hx53 rfl fun a53 u53 w225 K226 S227 f228 => ⟨((S153.tr (S215.tr (S221.tr S227))).cl rfl), ?_⟩
      refine WO.wa ?_
      refine WA.seg (fuel := 0) [(10, 2), (11, 1), (12, 1)] (by kernel_rfl) (by kernel_rfl) rfl ?_
      refine WO.k2 rfl rfl rfl rfl (rn_build (parts := [(0, .tmp 48), (1, .tmp 53)]) (cells := [.slice a48 x48.length u48, .slice a53 x53.length u53]) rfl rfl (by kernel_rfl)) ?_
      refine WO.alloc (κ := K226) 19 rfl rfl rfl rfl rfl Try.zeroValue41 rfl fun b13 w229 K230 S231 f232 => ⟨((S153.tr (S215.tr (S221.tr (S227.tr S231)))).cl rfl), ?_⟩
      refine WO.stB0 (κ := K230) 19 (vc := [.slice a48 x48.length u48, .slice a53 x53.length u53]) rfl rfl rfl rfl rfl rfl rfl Try.sizeOf41 rfl rfl f232 rfl fun w233 S234 f235 => ⟨((S153.tr (S215.tr (S221.tr (S227.tr (S231.tr S234))))).cl rfl), ?_⟩
      refine WO.wa ?_
      refine WA.last [] (by kernel_rfl) (by kernel_rfl) rfl ?_
      refine WO.fin ?_
      have f236 := f222.stp (S227.tr (S231.tr S234)) rfl rfl
      have f237 := f228.stp (S231.tr S234) rfl rfl
      exact DN.meet _ ⟨K230, b13, a48, u48, a53, u53, rfl, (S146.tr (S153.tr (S215.tr (S221.tr (S227.tr (S231.tr S234)))))).wk rfl, f236, f237, f235⟩ fun a ha => (ha.more (ha.more ha.nil rfl) rfl)
     ·
      refine WO.alloc (κ := K220) 19 rfl rfl rfl rfl rfl Try.zeroValue41 rfl fun b13 w238 K239 S240 f241 => ⟨((S153.tr (S215.tr (S221.tr S240))).cl rfl), ?_⟩
      refine WO.wa ?_
      refine WA.seg (fuel := 0) [(9, 1), (10, 2), (12, 1)] (by kernel_rfl) (by kernel_rfl) rfl ?_
      have f242 := f150.stp (S153.tr (S215.tr (S221.tr S240))) rfl rfl
      have f243 := f216.stp (S221.tr S240) rfl rfl
      refine WO.app (κ := K239) (E := (Ep.int .i64)) 18 [] rfl rfl rfl rfl rfl rfl rfl rfl rfl Try.underlying28 Tryinfo2 rfl rfl rfl rfl f243 (Sl.srcP (pu_int _) f242) sy_false hx53 rfl fun a53 u53 w244 K245 S246 f247 => ⟨((S153.tr (S215.tr (S221.tr (S240.tr S246)))).cl rfl), ?_⟩
      refine WO.k2 rfl rfl rfl rfl (rn_build (parts := [(0, .tmp 48), (1, .tmp 53)]) (cells := [.slice a48 x48.length u48, .slice a53 x53.length u53]) rfl rfl (by kernel_rfl)) ?_
      have f248 := f241.stp S246 rfl rfl
      refine WO.stB0 (κ := K245) 19 (vc := [.slice a48 x48.length u48, .slice a53 x53.length u53]) rfl rfl rfl rfl rfl rfl rfl Try.sizeOf41 rfl rfl f248 rfl fun w249 S250 f251 => ⟨((S153.tr (S215.tr (S221.tr (S240.tr (S246.tr S250))))).cl rfl), ?_⟩
      refine WO.wa ?_
      refine WA.last [] (by kernel_rfl) (by kernel_rfl) rfl ?_
      refine WO.fin ?_
      have f252 := f222.stp (S240.tr (S246.tr S250)) rfl rfl
      have f253 := f247.stp S250 rfl rfl
      exact DN.meet _ ⟨K245, b13, a48, u48, a53, u53, rfl, (S146.tr (S153.tr (S215.tr (S221.tr (S240.tr (S246.tr S250)))))).wk rfl, f252, f253, f251⟩ fun a ha => (ha.more (ha.more ha.nil rfl) rfl)
    ·
     refine WO.alloc (κ := K214) 19 rfl rfl rfl rfl rfl Try.zeroValue41 rfl fun b13 w254 K255 S256 f257 => ⟨((S153.tr (S215.tr S256)).cl rfl), ?_⟩
     refine WO.wa ?_
     refine WA.seg (fuel := 0) [(4, 1), (9, 1), (10, 2), (12, 1)] (by kernel_rfl) (by kernel_rfl) rfl ?_
     have f258 := f148.stp (S153.tr (S215.tr S256)) rfl rfl
     have f259 := f154.stp (S215.tr S256) rfl rfl
     refine WO.app (κ := K255) (E := (Ep.int .i64)) 17 [] rfl rfl rfl rfl rfl rfl rfl rfl rfl Try.underlying28 Tryinfo2 rfl rfl rfl rfl f259 (Sl.srcP (pu_int _) f258) sy_false hx48 rfl fun a48 u48 w260 K261 S262 f263 => ⟨((S153.tr (S215.tr (S256.tr S262))).cl rfl), ?_⟩
     have f264 := f150.stp (S153.tr (S215.tr (S256.tr S262))) rfl rfl
     have f265 := f216.stp (S256.tr S262) rfl rfl
     refine WO.app (κ := K261) (E := (Ep.int .i64)) 18 [] rfl rfl rfl rfl rfl rfl rfl rfl rfl Try.underlying28 Tryinfo2 rfl rfl rfl rfl f265 (Sl.srcP (pu_int _) f264) sy_false hx53 rfl fun a53 u53 w266 K267 S268 f269 => ⟨((S153.tr (S215.tr (S256.tr (S262.tr S268)))).cl rfl), ?_⟩
     refine WO.k2 rfl rfl rfl rfl (rn_build (parts := [(0, .tmp 48), (1, .tmp 53)]) (cells := [.slice a48 x48.length u48, .slice a53 x53.length u53]) rfl rfl (by kernel_rfl)) ?_
     have f270 := f257.stp (S262.tr S268) rfl rfl
     refine WO.stB0 (κ := K267) 19 (vc := [.slice a48 x48.length u48, .slice a53 x53.length u53]) rfl rfl rfl rfl rfl rfl rfl Try.sizeOf41 rfl rfl f270 rfl fun w271 S272 f273 => ⟨((S153.tr (S215.tr (S256.tr (S262.tr (S268.tr S272))))).cl rfl), ?_⟩
     refine WO.wa ?_
     refine WA.last [] (by kernel_rfl) (by kernel_rfl) rfl ?_
     refine WO.fin ?_
     have f274 := f263.stp (S268.tr S272) rfl rfl
     have f275 := f269.stp S272 rfl rfl
     exact DN.meet _ ⟨K267, b13, a48, u48, a53, u53, rfl, (S146.tr (S153.tr (S215.tr (S256.tr (S262.tr (S268.tr S272)))))).wk rfl, f274, f275, f273⟩ fun a ha => (ha.more (ha.more ha.nil rfl) rfl)
   ·
    refine WO.alloc (κ := K152) 18 rfl rfl rfl rfl rfl Try.zeroValue41 rfl fun b13 w276 K277 S278 f279 => ⟨((S153.tr S278).cl rfl), ?_⟩
    refine WO.wa ?_
    refine WA.fork2 (fuel := 4) 4 5 (by kernel_rfl) rfl ?_ ?_
    ·
     have f280 := f148.stp (S153.tr S278) rfl rfl
     have f281 := f154.stp S278 rfl rfl
     refine WO.app (κ := K277) (E := (Ep.int .i64)) 17 [] rfl rfl rfl rfl rfl rfl rfl rfl rfl Try.underlying28 Tryinfo2 rfl rfl rfl rfl f281 (Sl.srcP (pu_int _) f280) sy_false hx48 rfl fun a48 u48 w282 K283 S284 f285 => ⟨((S153.tr (S278.tr S284)).cl rfl), ?_⟩
     refine WO.wa ?_
     refine WA.seg (fuel := 0) [(5, 1), (9, 1), (10, 2), (12, 1)] (by kernel_rfl) (by kernel_rfl) rfl ?_
     refine WO.bl0 (κ := K283) (E := (Ep.int .i64)) 19 rfl rfl rfl rfl rfl Try.underlying28 Tryinfo2 rfl fun a49 u49 w286 K287 S288 f289 => ⟨((S153.tr (S278.tr (S284.tr S288))).cl rfl), ?_⟩
     have f290 := f150.stp (S153.tr (S278.tr (S284.tr S288))) rfl rfl
     refine WO.app (κ := K287) (E := (Ep.int .i64)) 19 [] rfl rfl rfl rfl rfl rfl rfl rfl rfl Try.underlying28 Tryinfo2 rfl rfl rfl rfl f289 (Sl.srcP (pu_int _) f290) sy_false hx53 rfl fun a53 u53 w291 K292 S293 f294 => ⟨((S153.tr (S278.tr (S284.tr (S288.tr S293)))).cl rfl), ?_⟩
     refine WO.k2 rfl rfl rfl rfl (rn_build (parts := [(0, .tmp 48), (1, .tmp 53)]) (cells := [.slice a48 x48.length u48, .slice a53 x53.length u53]) rfl rfl (by kernel_rfl)) ?_
     have f295 := f279.stp (S284.tr (S288.tr S293)) rfl rfl
     refine WO.stB0 (κ := K292) 18 (vc := [.slice a48 x48.length u48, .slice a53 x53.length u53]) rfl rfl rfl rfl rfl rfl rfl Try.sizeOf41 rfl rfl f295 rfl fun w296 S297 f298 => ⟨((S153.tr (S278.tr (S284.tr (S288.tr (S293.tr S297))))).cl rfl), ?_⟩
     refine WO.wa ?_
     refine WA.last [] (by kernel_rfl) (by kernel_rfl) rfl ?_
     refine WO.fin ?_
     have f299 := f285.stp (S288.tr (S293.tr S297)) rfl rfl
     have f300 := f294.stp S297 rfl rfl
     exact DN.meet _ ⟨(fun b => ren [(19, 18), (18, 19)] (K292 b)), b13, a48, u48, a53, u53, rfl, (Stp.ren ((S146.tr (S153.tr (S278.tr (S284.tr (S288.tr (S293.tr S297)))))).wk rfl) [(19, 18), (18, 19)] rfl), (f299.map (ren [(19, 18), (18, 19)]) rfl rfl), (f300.map (ren [(19, 18), (18, 19)]) rfl rfl), (f298.map (ren [(19, 18), (18, 19)]) rfl rfl)⟩ fun a ha => (ha.more (ha.more ha.nil rfl) rfl)
    ·
     refine WO.bl0 (κ := K277) (E := (Ep.int .i64)) 19 rfl rfl rfl rfl rfl Try.underlying28 Tryinfo2 rfl fun a49 u49 w301 K302 S303 f304 => ⟨((S153.tr (S278.tr S303)).cl rfl), ?_⟩
     refine WO.wa ?_
     refine WA.seg (fuel := 0) [(4, 1), (9, 1), (10, 2), (12, 1)] (by kernel_rfl) (by kernel_rfl) rfl ?_
     have f305 := f148.stp (S153.tr (S278.tr S303)) rfl rfl
     have f306 := f154.stp (S278.tr S303) rfl rfl
     refine WO.app (κ := K302) (E := (Ep.int .i64)) 17 [] rfl rfl rfl rfl rfl rfl rfl rfl rfl Try.underlying28 Tryinfo2 rfl rfl rfl rfl f306 (Sl.srcP (pu_int _) f305) sy_false hx48 rfl fun a48 u48 w307 K308 S309 f310 => ⟨((S153.tr (S278.tr (S303.tr S309))).cl rfl), ?_⟩
     have f311 := f150.stp (S153.tr (S278.tr (S303.tr S309))) rfl rfl
     have f312 := f304.stp S309 rfl rfl
     refine WO.app (κ := K308) (E := (Ep.int .i64)) 19 [] rfl rfl rfl rfl rfl rfl rfl rfl rfl Try.underlying28 Tryinfo2 rfl rfl rfl rfl f312 (Sl.srcP (pu_int _) f311) sy_false hx53 rfl fun a53 u53 w313 K314 S315 f316 => ⟨((S153.tr (S278.tr (S303.tr (S309.tr S315)))).cl rfl), ?_⟩
     refine WO.k2 rfl rfl rfl rfl (rn_build (parts := [(0, .tmp 48), (1, .tmp 53)]) (cells := [.slice a48 x48.length u48, .slice a53 x53.length u53]) rfl rfl (by kernel_rfl)) ?_
     have f317 := f279.stp (S303.tr (S309.tr S315)) rfl rfl
     refine WO.stB0 (κ := K314) 18 (vc := [.slice a48 x48.length u48, .slice a53 x53.length u53]) rfl rfl rfl rfl rfl rfl rfl Try.sizeOf41 rfl rfl f317 rfl fun w318 S319 f320 => ⟨((S153.tr (S278.tr (S303.tr (S309.tr (S315.tr S319))))).cl rfl), ?_⟩
     refine WO.wa ?_
     refine WA.last [] (by kernel_rfl) (by kernel_rfl) rfl ?_
     refine WO.fin ?_
     have f321 := f310.stp (S315.tr S319) rfl rfl
     have f322 := f316.stp S319 rfl rfl
     exact DN.meet _ ⟨(fun b => ren [(19, 18), (18, 19)] (K314 b)), b13, a48, u48, a53, u53, rfl, (Stp.ren ((S146.tr (S153.tr (S278.tr (S303.tr (S309.tr (S315.tr S319)))))).wk rfl) [(19, 18), (18, 19)] rfl), (f321.map (ren [(19, 18), (18, 19)]) rfl rfl), (f322.map (ren [(19, 18), (18, 19)]) rfl rfl), (f320.map (ren [(19, 18), (18, 19)]) rfl rfl)⟩ fun a ha => (ha.more (ha.more ha.nil rfl) rfl)
  ·
   refine WO.bl0 (κ := K134) (E := (Ep.int .i64)) 17 rfl rfl rfl rfl rfl Try.underlying28 Tryinfo2 rfl fun a49 u49 w323 K324 S325 f326 => ⟨(S325.cl rfl), ?_⟩
   refine WO.wa ?_
   refine WA.fork2 (fuel := 5) 0 11 (by kernel_rfl) rfl ?_ ?_
   ·
    refine WO.bl0 (κ := K324) (E := (Ep.int .i64)) 18 rfl rfl rfl rfl rfl Try.underlying28 Tryinfo2 rfl fun a44 u44 w327 K328 S329 f330 => ⟨((S325.tr S329).cl rfl), ?_⟩
    refine WO.wa ?_
    refine WA.fork2 (fuel := 4) 4 11 (by kernel_rfl) rfl ?_ ?_
    ·
     have f331 := f148.stp (S325.tr S329) rfl rfl
     refine WO.app (κ := K328) (E := (Ep.int .i64)) 18 [] rfl rfl rfl rfl rfl rfl rfl rfl rfl Try.underlying28 Tryinfo2 rfl rfl rfl rfl f330 (Sl.srcP (pu_int _) f331) sy_false hx48 rfl fun a48 u48 w332 K333 S334 f335 => ⟨((S325.tr (S329.tr S334)).cl rfl), ?_⟩
     refine WO.wa ?_
     refine WA.fork2 (fuel := 3) 9 11 (by kernel_rfl) rfl ?_ ?_
     ·
      have f336 := f150.stp (S325.tr (S329.tr S334)) rfl rfl
      have f337 := f326.stp (S329.tr S334) rfl rfl
      refine WO.app (κ := K333) (E := (Ep.int .i64)) 17 [] rfl rfl rfl rfl rfl rfl rfl rfl rfl Try.underlying28 Tryinfo2 rfl rfl rfl rfl f337 (Sl.srcP (pu_int _) f336) sy_false hx53 rfl fun a53 u53 w338 K339 S340 f341 => ⟨((S325.tr (S329.tr (S334.tr S340))).cl rfl), ?_⟩
      refine WO.wa ?_
      refine WA.seg (fuel := 0) [(10, 2), (11, 1), (12, 1)] (by kernel_rfl) (by kernel_rfl) rfl ?_
      refine WO.k2 rfl rfl rfl rfl (rn_build (parts := [(0, .tmp 48), (1, .tmp 53)]) (cells := [.slice a48 x48.length u48, .slice a53 x53.length u53]) rfl rfl (by kernel_rfl)) ?_
      refine WO.alloc (κ := K339) 19 rfl rfl rfl rfl rfl Try.zeroValue41 rfl fun b13 w342 K343 S344 f345 => ⟨((S325.tr (S329.tr (S334.tr (S340.tr S344)))).cl rfl), ?_⟩
      refine WO.stB0 (κ := K343) 19 (vc := [.slice a48 x48.length u48, .slice a53 x53.length u53]) rfl rfl rfl rfl rfl rfl rfl Try.sizeOf41 rfl rfl f345 rfl fun w346 S347 f348 => ⟨((S325.tr (S329.tr (S334.tr (S340.tr (S344.tr S347))))).cl rfl), ?_⟩
      refine WO.wa ?_
      refine WA.last [] (by kernel_rfl) (by kernel_rfl) rfl ?_
      refine WO.fin ?_
      have f349 := f335.stp (S340.tr (S344.tr S347)) rfl rfl
      have f350 := f341.stp (S344.tr S347) rfl rfl
      exact DN.meet _ ⟨(fun b => ren [(18, 17), (17, 18)] (K343 b)), b13, a48, u48, a53, u53, rfl, (Stp.ren ((S146.tr (S325.tr (S329.tr (S334.tr (S340.tr (S344.tr S347)))))).wk rfl) [(18, 17), (17, 18)] rfl), (f349.map (ren [(18, 17), (17, 18)]) rfl rfl), (f350.map (ren [(18, 17), (17, 18)]) rfl rfl), (f348.map (ren [(18, 17), (17, 18)]) rfl rfl)⟩ fun a ha => (ha.more (ha.more ha.nil rfl) rfl)
     ·
      refine WO.alloc (κ := K333) 19 rfl rfl rfl rfl rfl Try.zeroValue41 rfl fun b13 w351 K352 S353 f354 => ⟨((S325.tr (S329.tr (S334.tr S353))).cl rfl), ?_⟩
      refine WO.wa ?_
      refine WA.seg (fuel := 0) [(9, 1), (10, 2), (12, 1)] (by kernel_rfl) (by kernel_rfl) rfl ?_
      have f355 := f150.stp (S325.tr (S329.tr (S334.tr S353))) rfl rfl
      have f356 := f326.stp (S329.tr (S334.tr S353)) rfl rfl
      refine WO.app (κ := K352) (E := (Ep.int .i64)) 17 [] rfl rfl rfl rfl rfl rfl rfl rfl rfl Try.underlying28 Tryinfo2 rfl rfl rfl rfl f356 (Sl.srcP (pu_int _) f355) sy_false hx53 rfl fun a53 u53 w357 K358 S359 f360 => ⟨((S325.tr (S329.tr (S334.tr (S353.tr S359)))).cl rfl), ?_⟩
      refine WO.k2 rfl rfl rfl rfl (rn_build (parts := [(0, .tmp 48), (1, .tmp 53)]) (cells := [.slice a48 x48.length u48, .slice a53 x53.length u53]) rfl rfl (by kernel_rfl)) ?_
      have f361 := f354.stp S359 rfl rfl
      refine WO.stB0 (κ := K358) 19 (vc := [.slice a48 x48.length u48, .slice a53 x53.length u53]) rfl rfl rfl rfl rfl rfl rfl Try.sizeOf41 rfl rfl f361 rfl fun w362 S363 f364 => ⟨((S325.tr (S329.tr (S334.tr (S353.tr (S359.tr S363))))).cl rfl), ?_⟩
      refine WO.wa ?_
      refine WA.last [] (by kernel_rfl) (by kernel_rfl) rfl ?_
      refine WO.fin ?_
      have f365 := f335.stp (S353.tr (S359.tr S363)) rfl rfl
      have f366 := f360.stp S363 rfl rfl
      exact DN.meet _ ⟨(fun b => ren [(18, 17), (17, 18)] (K358 b)), b13, a48, u48, a53, u53, rfl, (Stp.ren ((S146.tr (S325.tr (S329.tr (S334.tr (S353.tr (S359.tr S363)))))).wk rfl) [(18, 17), (17, 18)] rfl), (f365.map (ren [(18, 17), (17, 18)]) rfl rfl), (f366.map (ren [(18, 17), (17, 18)]) rfl rfl), (f364.map (ren [(18, 17), (17, 18)]) rfl rfl)⟩ fun a ha => (ha.more (ha.more ha.nil rfl) rfl)
    ·
     refine WO.alloc (κ := K328) 19 rfl rfl rfl rfl rfl Try.zeroValue41 rfl fun b13 w367 K368 S369 f370 => ⟨((S325.tr (S329.tr S369)).cl rfl), ?_⟩
     refine WO.wa ?_
     refine WA.seg (fuel := 0) [(4, 1), (9, 1), (10, 2), (12, 1)] (by kernel_rfl) (by kernel_rfl) rfl ?_
     have f371 := f148.stp (S325.tr (S329.tr S369)) rfl rfl
     have f372 := f330.stp S369 rfl rfl
     refine WO.app (κ := K368) (E := (Ep.int .i64)) 18 [] rfl rfl rfl rfl rfl rfl rfl rfl rfl Try.underlying28 Tryinfo2 rfl rfl rfl rfl f372 (Sl.srcP (pu_int _) f371) sy_false hx48 rfl fun a48 u48 w373 K374 S375 f376 => ⟨((S325.tr (S329.tr (S369.tr S375))).cl rfl), ?_⟩
     have f377 := f150.stp (S325.tr (S329.tr (S369.tr S375))) rfl rfl
     have f378 := f326.stp (S329.tr (S369.tr S375)) rfl rfl
     refine WO.app (κ := K374) (E := (Ep.int .i64)) 17 [] rfl rfl rfl rfl rfl rfl rfl rfl rfl Try.underlying28 Tryinfo2 rfl rfl rfl rfl f378 (Sl.srcP (pu_int _) f377) sy_false hx53 rfl fun a53 u53 w379 K380 S381 f382 => ⟨((S325.tr (S329.tr (S369.tr (S375.tr S381)))).cl rfl), ?_⟩
     refine WO.k2 rfl rfl rfl rfl (rn_build (parts := [(0, .tmp 48), (1, .tmp 53)]) (cells := [.slice a48 x48.length u48, .slice a53 x53.length u53]) rfl rfl (by kernel_rfl)) ?_
     have f383 := f370.stp (S375.tr S381) rfl rfl
     refine WO.stB0 (κ := K380) 19 (vc := [.slice a48 x48.length u48, .slice a53 x53.length u53]) rfl rfl rfl rfl rfl rfl rfl Try.sizeOf41 rfl rfl f383 rfl fun w384 S385 f386 => ⟨((S325.tr (S329.tr (S369.tr (S375.tr (S381.tr S385))))).cl rfl), ?_⟩
     refine WO.wa ?_
     refine WA.last [] (by kernel_rfl) (by kernel_rfl) rfl ?_
     refine WO.fin ?_
     have f387 := f376.stp (S381.tr S385) rfl rfl
     have f388 := f382.stp S385 rfl rfl
     exact DN.meet _ ⟨(fun b => ren [(18, 17), (17, 18)] (K380 b)), b13, a48, u48, a53, u53, rfl, (Stp.ren ((S146.tr (S325.tr (S329.tr (S369.tr (S375.tr (S381.tr S385)))))).wk rfl) [(18, 17), (17, 18)] rfl), (f387.map (ren [(18, 17), (17, 18)]) rfl rfl), (f388.map (ren [(18, 17), (17, 18)]) rfl rfl), (f386.map (ren [(18, 17), (17, 18)]) rfl rfl)⟩ fun a ha => (ha.more (ha.more ha.nil rfl) rfl)
   ·
    refine WO.alloc (κ := K324) 18 rfl rfl rfl rfl rfl Try.zeroValue41 rfl fun b13 w389 K390 S391 f392 => ⟨((S325.tr S391).cl rfl), ?_⟩
    refine WO.wa ?_
    refine WA.seg (fuel := 0) [(0, 1), (4, 1), (9, 1), (10, 2), (12, 1)] (by kernel_rfl) (by kernel_rfl) rfl ?_
    refine WO.bl0 (κ := K390) (E := (Ep.int .i64)) 19 rfl rfl rfl rfl rfl Try.underlying28 Tryinfo2 rfl fun a44 u44 w393 K394 S395 f396 => ⟨((S325.tr (S391.tr S395)).cl rfl), ?_⟩
    have f397 := f148.stp (S325.tr (S391.tr S395)) rfl rfl
    refine WO.app (κ := K394) (E := (Ep.int .i64)) 19 [] rfl rfl rfl rfl rfl rfl rfl rfl rfl Try.underlying28 Tryinfo2 rfl rfl rfl rfl f396 (Sl.srcP (pu_int _) f397) sy_false hx48 rfl fun a48 u48 w398 K399 S400 f401 => ⟨((S325.tr (S391.tr (S395.tr S400))).cl rfl), ?_⟩
    have f402 := f150.stp (S325.tr (S391.tr (S395.tr S400))) rfl rfl
    have f403 := f326.stp (S391.tr (S395.tr S400)) rfl rfl
    refine WO.app (κ := K399) (E := (Ep.int .i64)) 17 [] rfl rfl rfl rfl rfl rfl rfl rfl rfl Try.underlying28 Tryinfo2 rfl rfl rfl rfl f403 (Sl.srcP (pu_int _) f402) sy_false hx53 rfl fun a53 u53 w404 K405 S406 f407 => ⟨((S325.tr (S391.tr (S395.tr (S400.tr S406)))).cl rfl), ?_⟩
    refine WO.k2 rfl rfl rfl rfl (rn_build (parts := [(0, .tmp 48), (1, .tmp 53)]) (cells := [.slice a48 x48.length u48, .slice a53 x53.length u53]) rfl rfl (by kernel_rfl)) ?_
    have f408 := f392.stp (S395.tr (S400.tr S406)) rfl rfl
    refine WO.stB0 (κ := K405) 18 (vc := [.slice a48 x48.length u48, .slice a53 x53.length u53]) rfl rfl rfl rfl rfl rfl rfl Try.sizeOf41 rfl rfl f408 rfl fun w409 S410 f411 => ⟨((S325.tr (S391.tr (S395.tr (S400.tr (S406.tr S410))))).cl rfl), ?_⟩
    refine WO.wa ?_
    refine WA.last [] (by kernel_rfl) (by kernel_rfl) rfl ?_
    refine WO.fin ?_
    have f412 := f401.stp (S406.tr S410) rfl rfl
    have f413 := f407.stp S410 rfl rfl
    exact DN.meet _ ⟨(fun b => ren [(19, 17), (17, 18), (18, 19)] (K405 b)), b13, a48, u48, a53, u53, rfl, (Stp.ren ((S146.tr (S325.tr (S391.tr (S395.tr (S400.tr (S406.tr S410)))))).wk rfl) [(19, 17), (17, 18), (18, 19)] rfl), (f412.map (ren [(19, 17), (17, 18), (18, 19)]) rfl rfl), (f413.map (ren [(19, 17), (17, 18), (18, 19)]) rfl rfl), (f411.map (ren [(19, 17), (17, 18), (18, 19)]) rfl rfl)⟩ fun a ha => (ha.more (ha.more ha.nil rfl) rfl)
  ·
   refine WO.alloc (κ := K134) 17 rfl rfl rfl rfl rfl Try.zeroValue41 rfl fun b13 w414 K415 S416 f417 => ⟨(S416.cl rfl), ?_⟩
   refine WO.wa ?_
   refine WA.fork2 (fuel := 5) 0 5 (by kernel_rfl) rfl ?_ ?_
   ·
    refine WO.bl0 (κ := K415) (E := (Ep.int .i64)) 18 rfl rfl rfl rfl rfl Try.underlying28 Tryinfo2 rfl fun a44 u44 w418 K419 S420 f421 => ⟨((S416.tr S420).cl rfl), ?_⟩
    refine WO.wa ?_
    refine WA.fork2 (fuel := 4) 4 5 (by kernel_rfl) rfl ?_ ?_
    ·
     have f422 := f148.stp (S416.tr S420) rfl rfl
     refine WO.app (κ := K419) (E := (Ep.int .i64)) 18 [] rfl rfl rfl rfl rfl rfl rfl rfl rfl Try.underlying28 Tryinfo2 rfl rfl rfl rfl f421 (Sl.srcP (pu_int _) f422) sy_false hx48 rfl fun a48 u48 w423 K424 S425 f426 => ⟨((S416.tr (S420.tr S425)).cl rfl), ?_⟩
     refine WO.wa ?_
     refine WA.seg (fuel := 0) [(5, 1), (9, 1), (10, 2), (12, 1)] (by kernel_rfl) (by kernel_rfl) rfl ?_
     refine WO.bl0 (κ := K424) (E := (Ep.int .i64)) 19 rfl rfl rfl rfl rfl Try.underlying28 Tryinfo2 rfl fun a49 u49 w427 K428 S429 f430 => ⟨((S416.tr (S420.tr (S425.tr S429))).cl rfl), ?_⟩
     have f431 := f150.stp (S416.tr (S420.tr (S425.tr S429))) rfl rfl
     refine WO.app (κ := K428) (E := (Ep.int .i64)) 19 [] rfl rfl rfl rfl rfl rfl rfl rfl rfl Try.underlying28 Tryinfo2 rfl rfl rfl rfl f430 (Sl.srcP (pu_int _) f431) sy_false hx53 rfl fun a53 u53 w432 K433 S434 f435 => ⟨((S416.tr (S420.tr (S425.tr (S429.tr S434)))).cl rfl), ?_⟩
     refine WO.k2 rfl rfl rfl rfl (rn_build (parts := [(0, .tmp 48), (1, .tmp 53)]) (cells := [.slice a48 x48.length u48, .slice a53 x53.length u53]) rfl rfl (by kernel_rfl)) ?_
     have f436 := f417.stp (S420.tr (S425.tr (S429.tr S434))) rfl rfl
     refine WO.stB0 (κ := K433) 17 (vc := [.slice a48 x48.length u48, .slice a53 x53.length u53]) rfl rfl rfl rfl rfl rfl rfl Try.sizeOf41 rfl rfl f436 rfl fun w437 S438 f439 => ⟨((S416.tr (S420.tr (S425.tr (S429.tr (S434.tr S438))))).cl rfl), ?_⟩
     refine WO.wa ?_
     refine WA.last [] (by kernel_rfl) (by kernel_rfl) rfl ?_
     refine WO.fin ?_
     have f440 := f426.stp (S429.tr (S434.tr S438)) rfl rfl
     have f441 := f435.stp S438 rfl rfl
     exact DN.meet _ ⟨(fun b => ren [(18, 17), (19, 18), (17, 19)] (K433 b)), b13, a48, u48, a53, u53, rfl, (Stp.ren ((S146.tr (S416.tr (S420.tr (S425.tr (S429.tr (S434.tr S438)))))).wk rfl) [(18, 17), (19, 18), (17, 19)] rfl), (f440.map (ren [(18, 17), (19, 18), (17, 19)]) rfl rfl), (f441.map (ren [(18, 17), (19, 18), (17, 19)]) rfl rfl), (f439.map (ren [(18, 17), (19, 18), (17, 19)]) rfl rfl)⟩ fun a ha => (ha.more (ha.more ha.nil rfl) rfl)
    ·
     refine WO.bl0 (κ := K419) (E := (Ep.int .i64)) 19 rfl rfl rfl rfl rfl Try.underlying28 Tryinfo2 rfl fun a49 u49 w442 K443 S444 f445 => ⟨((S416.tr (S420.tr S444)).cl rfl), ?_⟩
     refine WO.wa ?_
     refine WA.seg (fuel := 0) [(4, 1), (9, 1), (10, 2), (12, 1)] (by kernel_rfl) (by kernel_rfl) rfl ?_
     have f446 := f148.stp (S416.tr (S420.tr S444)) rfl rfl
     have f447 := f421.stp S444 rfl rfl
     refine WO.app (κ := K443) (E := (Ep.int .i64)) 18 [] rfl rfl rfl rfl rfl rfl rfl rfl rfl Try.underlying28 Tryinfo2 rfl rfl rfl rfl f447 (Sl.srcP (pu_int _) f446) sy_false hx48 rfl fun a48 u48 w448 K449 S450 f451 => ⟨((S416.tr (S420.tr (S444.tr S450))).cl rfl), ?_⟩
     have f452 := f150.stp (S416.tr (S420.tr (S444.tr S450))) rfl rfl
     have f453 := f445.stp S450 rfl rfl
     refine WO.app (κ := K449) (E := (Ep.int .i64)) 19 [] rfl rfl rfl rfl rfl rfl rfl rfl rfl Try.underlying28 Tryinfo2 rfl rfl rfl rfl f453 (Sl.srcP (pu_int _) f452) sy_false hx53 rfl fun a53 u53 w454 K455 S456 f457 => ⟨((S416.tr (S420.tr (S444.tr (S450.tr S456)))).cl rfl), ?_⟩
     refine WO.k2 rfl rfl rfl rfl (rn_build (parts := [(0, .tmp 48), (1, .tmp 53)]) (cells := [.slice a48 x48.length u48, .slice a53 x53.length u53]) rfl rfl (by kernel_rfl)) ?_
     have f458 := f417.stp (S420.tr (S444.tr (S450.tr S456))) rfl rfl
     refine WO.stB0 (κ := K455) 17 (vc := [.slice a48 x48.length u48, .slice a53 x53.length u53]) rfl rfl rfl rfl rfl rfl rfl Try.sizeOf41 rfl rfl f458 rfl fun w459 S460 f461 => ⟨((S416.tr (S420.tr (S444.tr (S450.tr (S456.tr S460))))).cl rfl), ?_⟩
     refine WO.wa ?_
     refine WA.last [] (by kernel_rfl) (by kernel_rfl) rfl ?_
     refine WO.fin ?_
     have f462 := f451.stp (S456.tr S460) rfl rfl
     have f463 := f457.stp S460 rfl rfl
     exact DN.meet _ ⟨(fun b => ren [(18, 17), (19, 18), (17, 19)] (K455 b)), b13, a48, u48, a53, u53, rfl, (Stp.ren ((S146.tr (S416.tr (S420.tr (S444.tr (S450.tr (S456.tr S460)))))).wk rfl) [(18, 17), (19, 18), (17, 19)] rfl), (f462.map (ren [(18, 17), (19, 18), (17, 19)]) rfl rfl), (f463.map (ren [(18, 17), (19, 18), (17, 19)]) rfl rfl), (f461.map (ren [(18, 17), (19, 18), (17, 19)]) rfl rfl)⟩ fun a ha => (ha.more (ha.more ha.nil rfl) rfl)
   ·
    refine WO.bl0 (κ := K415) (E := (Ep.int .i64)) 18 rfl rfl rfl rfl rfl Try.underlying28 Tryinfo2 rfl fun a49 u49 w464 K465 S466 f467 => ⟨((S416.tr S466).cl rfl), ?_⟩
    refine WO.wa ?_
    refine WA.seg (fuel := 0) [(0, 1), (4, 1), (9, 1), (10, 2), (12, 1)] (by kernel_rfl) (by kernel_rfl) rfl ?_
    refine WO.bl0 (κ := K465) (E := (Ep.int .i64)) 19 rfl rfl rfl rfl rfl Try.underlying28 Tryinfo2 rfl fun a44 u44 w468 K469 S470 f471 => ⟨((S416.tr (S466.tr S470)).cl rfl), ?_⟩
    have f472 := f148.stp (S416.tr (S466.tr S470)) rfl rfl
    refine WO.app (κ := K469) (E := (Ep.int .i64)) 19 [] rfl rfl rfl rfl rfl rfl rfl rfl rfl Try.underlying28 Tryinfo2 rfl rfl rfl rfl f471 (Sl.srcP (pu_int _) f472) sy_false hx48 rfl fun a48 u48 w473 K474 S475 f476 => ⟨((S416.tr (S466.tr (S470.tr S475))).cl rfl), ?_⟩
    have f477 := f150.stp (S416.tr (S466.tr (S470.tr S475))) rfl rfl
    have f478 := f467.stp (S470.tr S475) rfl rfl
    refine WO.app (κ := K474) (E := (Ep.int .i64)) 18 [] rfl rfl rfl rfl rfl rfl rfl rfl rfl Try.underlying28 Tryinfo2 rfl rfl rfl rfl f478 (Sl.srcP (pu_int _) f477) sy_false hx53 rfl fun a53 u53 w479 K480 S481 f482 => ⟨((S416.tr (S466.tr (S470.tr (S475.tr S481)))).cl rfl), ?_⟩
    refine WO.k2 rfl rfl rfl rfl (rn_build (parts := [(0, .tmp 48), (1, .tmp 53)]) (cells := [.slice a48 x48.length u48, .slice a53 x53.length u53]) rfl rfl (by kernel_rfl)) ?_
    have f483 := f417.stp (S466.tr (S470.tr (S475.tr S481))) rfl rfl
    refine WO.stB0 (κ := K480) 17 (vc := [.slice a48 x48.length u48, .slice a53 x53.length u53]) rfl rfl rfl rfl rfl rfl rfl Try.sizeOf41 rfl rfl f483 rfl fun w484 S485 f486 => ⟨((S416.tr (S466.tr (S470.tr (S475.tr (S481.tr S485))))).cl rfl), ?_⟩
    refine WO.wa ?_
    refine WA.last [] (by kernel_rfl) (by kernel_rfl) rfl ?_
    refine WO.fin ?_
    have f487 := f476.stp (S481.tr S485) rfl rfl
    have f488 := f482.stp S485 rfl rfl
    exact DN.meet _ ⟨(fun b => ren [(19, 17), (17, 19)] (K480 b)), b13, a48, u48, a53, u53, rfl, (Stp.ren ((S146.tr (S416.tr (S466.tr (S470.tr (S475.tr (S481.tr S485)))))).wk rfl) [(19, 17), (17, 19)] rfl), (f487.map (ren [(19, 17), (17, 19)]) rfl rfl), (f488.map (ren [(19, 17), (17, 19)]) rfl rfl), (f486.map (ren [(19, 17), (17, 19)]) rfl rfl)⟩ fun a ha => (ha.more (ha.more ha.nil rfl) rfl)
 rintro _ w138 ⟨K139, b13, lar141_0, lur141_0, lar141_1, lur141_1, rfl, S140, f142, f143, f144⟩
 refine DN.seq ?_
 refine WC.seq ?_
 refine WC.rx (κ := K139) [19] none [(1, 2), (0, 0), (2, 0), (3, 2), (4, 2), (5, 2), (6, 2), (7, 0), (8, 2), (9, 2), (10, 2), (11, 1), (12, 2)] [] (by kernel_rfl) (by kernel_rfl) fun w490 S489 => ?_
 refine WO.k2 rfl rfl rfl rfl (rn_fieldAddr Try.runUnderlying41 rfl Try.sizeOf28 rfl rfl) ?_
 have f491 := f144.stp S489 rfl rfl
 refine WO.k0 rfl rfl rfl rfl (rn_la (cs := [.slice lar141_0 ((⟨x48, x53⟩ : Word).Stem).length lur141_0, .slice lar141_1 ((⟨x48, x53⟩ : Word).Loop).length lur141_1]) Try.isAgg41 Try.sizeOf41 rfl rfl rfl (haC f491.cells rfl)) ?_
 refine WO.k0 rfl rfl rfl rfl (rn_ld Try.isAgg28 rfl rfl (hvC (f491.ld 0 rfl rfl) rfl)) ?_
 refine WO.k2 rfl rfl rfl rfl (rn_len Try.runUnderlying28 rfl rfl) ?_
 refine WO.pn 2 rfl ?_
 obtain ⟨p65, h, hK492⟩ := Option.bind_eq_some_iff.mp h
 refine WO.meet [(6, 2), (7, 0), (8, 2), (9, 2), (10, 2)] [(11, 1), (12, 2)] (fun L w' => L = [(6, .pointer (some ⟨b6, 0, none⟩)), (55, .agg #[.slice lar141_0 ((⟨x48, x53⟩ : Word).Stem).length lur141_0, .slice lar141_1 ((⟨x48, x53⟩ : Word).Loop).length lur141_1]), (65, .bool p65)] ∧ ∃ κ', Stp [] K139 w490 κ' w') (Cl.refl _ _ _) ?_ ?_
 ·
  revert h
  cases ht493 : decide ((((⟨x48, x53⟩ : Word).Stem).length : Int) ≤ 600) with
  | true =>
   intro h; replace h := cT h
   refine WO.k2 rfl rfl rfl rfl (rn_fieldAddr Try.runUnderlying41 rfl Try.sizeOf28 rfl rfl) ?_
   refine WO.k0 rfl rfl rfl rfl (rn_ld Try.isAgg28 rfl rfl (hvC (f491.ld 1 rfl rfl) rfl)) ?_
   refine WO.k2 rfl rfl rfl rfl (rn_len Try.runUnderlying28 rfl rfl) ?_
   refine WO.pn 2 rfl ?_
   obtain rfl := Option.some.inj h
   exact WO.met _ (Cl.refl _ _ _) ⟨rfl, _, (Stp.refl _ _).wk rfl⟩ fun a ha => (ha.more (ha.more (ha.more ha.nil rfl) rfl) rfl)
  | false =>
   intro h; replace h := cF h
   refine WO.pn 1 rfl ?_
   refine WO.qs rfl rfl rfl rfl ?_
   refine WO.pn 3 rfl ?_
   obtain rfl := Option.some.inj h
   exact WO.met _ (Cl.refl _ _ _) ⟨rfl, _, (Stp.refl _ _).wk rfl⟩ fun a ha => (ha.more (ha.more (ha.more ha.nil rfl) rfl) rfl)
 rintro _ w494 _ ⟨rfl, K495, S496⟩
 have h := hK492
 have f497 := f16.stp (S19.tr (S23.tr (S26.tr (S30.tr (S33.tr (S50.tr (S58.tr (S65.tr (S126.tr (S135.tr (S140.tr (S489.tr S496)))))))))))) rfl rfl
 refine WO.stB0 (κ := K495) 5 (vc := [.slice lar141_0 ((⟨x48, x53⟩ : Word).Stem).length lur141_0, .slice lar141_1 ((⟨x48, x53⟩ : Word).Loop).length lur141_1]) rfl rfl rfl rfl rfl rfl rfl Try.sizeOf41 rfl rfl f497 rfl fun w498 S499 f500 => ⟨((S496.tr S499).cl rfl), ?_⟩
 refine WO.pn 1 rfl ?_
 refine WO.nx ?_
 refine WO.fin ?_
 refine DN.seq ?_
 refine WC.ret ?_
 have f501 := hE.stp (S3.tr (S7.tr (S11.tr (S15.tr (S19.tr (S23.tr (S26.tr (S30.tr (S33.tr (S50.tr (S58.tr (S65.tr (S126.tr (S135.tr (S140.tr (S489.tr (S496.tr S499))))))))))))))))) rfl rfl
 have f502 := f142.stp (S489.tr (S496.tr S499)) rfl rfl
 have f503 := f143.stp (S489.tr (S496.tr S499)) rfl rfl
 refine DN.res (l := [.cell 6 41, .tmp 7]) Try.results92 (res_cellA rfl f500 Try.isAgg41 Try.sizeOf41 rfl (res_tmp rfl rfl)) rfl ?_
 obtain rfl := Option.some.inj h
 exact ⟨(fun b => ren [(17, 2), (18, 3)] (K495 b)), lar141_0, lur141_0, lar141_1, lur141_1, rfl, (f501.map (ren [(17, 2), (18, 3)]) rfl rfl), (f502.map (ren [(17, 2), (18, 3)]) rfl rfl), (f503.map (ren [(17, 2), (18, 3)]) rfl rfl)⟩

/- loop.example/g00869/impl.areClauses$1 -/
theorem i_areClauses_1_ok {w : World} {κ : Col} {a0_1 : Option Addr} {u0_1 : Nat} {a0_2 : Option Addr} {u0_2 : Nat} {p0 : Clause} {c0 : Sig} {b1 : Nat} (g0_1 : Rd (Rp.int .i64) κ w 0 a0_1 u0_1 p0.A) (g0_2 : Rd (Rp.int .i64) κ w 0 a0_2 u0_2 p0.B) (gb1 : Bc κ w 0 b1 35 [.int .i64 c0.In, .int .i64 c0.Out]) {r : Bool} (h : i_areClauses_1 p0 c0 = some r) : Ret Try.prog 145 [.agg #[.int .i64 p0.Kind, .slice a0_1 p0.A.length u0_1, .slice a0_2 p0.B.length u0_2], .pointer (some ⟨b1, 0, none⟩)] w (fun v w' => ∃ (κ' : Col), v = .bool r ∧ Ent κ w κ' w') := by
 unfold i_areClauses_1 at h
 refine Ret.enter Try.func145 rfl Try.ntmps145 rfl ?_
 dsimp only [envOf]
 have hE := Ent.refl κ w
 refine WC.seq ?_
 refine WC.rs [(0, 1), (1, 2)] rfl ?_
 refine WO.box (κ := κ) 2 rfl rfl rfl rfl rfl rfl rfl fun b2 w1 K2 S3 f4 => ⟨trivial, ?_⟩
 refine WO.pn 1 rfl ?_
 refine WO.fin ?_
 refine DN.seq ?_
 refine WC.seq ?_
 refine WC.rs [(0, 1), (1, 1), (2, 1), (3, 2), (4, 2)] rfl ?_
 have f5 := gb1.stp S3 rfl rfl
 refine WO.k1 trivial rfl rfl rfl rfl (rn_la (cs := [.int .i64 c0.In, .int .i64 c0.Out]) Try.isAgg35 Try.sizeOf35 rfl rfl rfl (haE f5.cells)) ?_
 refine WO.k1 trivial rfl rfl rfl rfl (rn_la (cs := [.int .i64 p0.Kind, .slice a0_1 p0.A.length u0_1, .slice a0_2 p0.B.length u0_2]) Try.isAgg99 Try.sizeOf99 rfl rfl rfl (haE f4.cells)) ?_
 obtain ⟨x6, hx6, h⟩ := Option.bind_eq_some_iff.mp h
 have f6 := g0_1.stp S3 rfl rfl
 have f7 := g0_2.stp S3 rfl rfl
 refine WO.call rfl rfl rfl rfl rfl rfl Try.call146 (i_isClause_ok (κ := fun b => mp [] 0 (K2 b)) (p0 := c0) (p1 := p0) (Sl.map f6 (mp [] 0) rfl rfl) (Sl.map f7 (mp [] 0) rfl rfl) hx6) ?_
 rintro _ w8 ⟨k9, rfl, e10⟩
 obtain ⟨K11, S12, m13⟩ := Ent.mixed (l := []) (κ := K2) e10 3 rfl
 refine ⟨trivial, ?_⟩
 refine WO.pn 2 rfl ?_
 refine WO.fin ?_
 refine DN.seq ?_
 refine WC.ret ?_
 have f15 := hE.stp (S3.tr S12) rfl rfl
 refine DN.res (l := [.tmp 3]) Try.results145 (res_tmp rfl rfl) rfl ?_
 obtain rfl := Option.some.inj h
 exact ⟨K11, rfl, f15⟩

/- loop.example/g00869/impl.holdsOn$2 -/
theorem i_holdsOn_2_ok {w : World} {κ : Col} {p0 : Int} {a1_1 : Option Addr} {u1_1 : Nat} {a1_2 : Option Addr} {u1_2 : Nat} {c0 : Clause} {b1 : Nat} (g1_1 : Rd (Rp.int .i64) κ w 0 a1_1 u1_1 c0.A) (g1_2 : Rd (Rp.int .i64) κ w 0 a1_2 u1_2 c0.B) (gb1 : Bc κ w 0 b1 99 [.int .i64 c0.Kind, .slice a1_1 c0.A.length u1_1, .slice a1_2 c0.B.length u1_2]) {r : Bool} (h : i_holdsOn_2 p0 c0 = some r) : Ret Try.prog 148 [.int .i64 p0, .pointer (some ⟨b1, 0, none⟩)] w (fun v w' => ∃ (κ' : Col), v = .bool r ∧ Ent κ w κ' w') := by
 unfold i_holdsOn_2 at h
 refine Ret.enter Try.func148 rfl Try.ntmps148 rfl ?_
 dsimp only [envOf]
 have hE := Ent.refl κ w
 refine WC.seq ?_
 refine WC.rs [(0, 2)] rfl ?_
 refine WO.pn 1 rfl ?_
 refine WO.fin ?_
 refine DN.seq ?_
 refine WC.seq ?_
 refine WC.rs [(0, 2), (1, 1), (2, 2), (3, 1), (4, 2)] rfl ?_
 refine WO.k2 rfl rfl rfl rfl (rn_fieldAddr Try.runUnderlying99 rfl Try.sizeOf28 rfl rfl) ?_
 refine WO.k1 trivial rfl rfl rfl rfl (rn_ld Try.isAgg28 rfl rfl (hvE (gb1.ld 2 rfl rfl))) ?_
 refine WO.pn 1 rfl ?_
 obtain ⟨x7, hx7, h⟩ := Option.bind_eq_some_iff.mp h
 refine WO.call rfl rfl rfl rfl rfl rfl Try.call108 (slices_Contains_I_int64_ok (κ := fun b => mp [] 0 (κ b)) (Sl.map g1_2 (mp [] 0) rfl rfl) hx7) ?_
 rintro _ w1 ⟨k2, rfl, e3⟩
 obtain ⟨K4, S5, m6⟩ := Ent.mixed (l := []) (κ := κ) e3 2 rfl
 refine ⟨trivial, ?_⟩
 refine WO.pn 1 rfl ?_
 refine WO.fin ?_
 refine DN.seq ?_
 refine WC.ret ?_
 have f8 := hE.stp S5 rfl rfl
 refine DN.res (l := [.tmp 3]) Try.results148 (res_tmp rfl rfl) rfl ?_
 obtain rfl := Option.some.inj h
 exact ⟨K4, rfl, f8⟩

end Go.Proofs.Ytnmjfjppgpkieaa
