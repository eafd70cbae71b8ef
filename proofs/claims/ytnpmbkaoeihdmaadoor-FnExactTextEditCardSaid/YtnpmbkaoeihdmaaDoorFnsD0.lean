/- The walks, part 0. By program. -/
import Derived.Test.YtnpmbkaoeihdmaaDoorText
import Derived.Test.YtnpmbkaoeihdmaaDoorShelf
import Derived.Test.YtnpmbkaoeihdmaaDoorFnsDM
set_option linter.unusedVariables false
set_option linter.unusedSimpArgs false
namespace Go.Proofs.YtnpmbkaoeihdmaaDoor
open Go Go.Wk Go.Proofs
set_option maxRecDepth 100000
set_option maxHeartbeats 1000000

/- loop.example/g00869/spec.l1Split -/
theorem s_l1Split_ok {w : World} {κ : Col} {p0 : ByteArray} {p1 : Int}  {r : (List ByteArray)} (h : s_l1Split p0 p1 = some r) : Ret Tryd.prog 51 [.string p0, .int .u8 p1] w (fun v w' => ∃ (κ' : Col) (ra0 : Option Addr) (ru0 : Nat), v = .slice ra0 r.length ru0 ∧ Ent κ w κ' w' ∧ Oc Ep.str 9 κ' w' 2 ra0 ru0 r) := by
 unfold s_l1Split at h
 refine Ret.enter Tryd.func51 rfl Tryd.ntmps51 rfl ?_
 dsimp only [envOf]
 have hE := Ent.refl κ w
 refine WC.seq ?_
 refine WC.rs [(0, 2)] rfl ?_
 refine WO.pn 1 rfl ?_
 refine WO.fin ?_
 refine DN.seq ?_
 refine WC.seq ?_
 refine WC.rs [(0, 1), (1, 2)] rfl ?_
 refine WO.bl0 (κ := κ) (E := Ep.str) 2 rfl rfl rfl rfl rfl Tryd.underlying57 Trydinfo9 rfl fun a8 u8 w1 K2 S3 f4 => ⟨trivial, ?_⟩
 refine WO.pn 1 rfl ?_
 refine WO.fin ?_
 refine DN.seq ?_
 refine WC.seq ?_
 refine WC.rs [(0, 2)] rfl ?_
 refine WO.pn 1 rfl ?_
 refine WO.fin ?_
 refine DN.seq ?_
 refine WC.seq ?_
 refine WC.seq ?_
 refine WC.rs [(0, 2)] rfl ?_
 refine WO.pn 1 rfl ?_
 refine WO.fin ?_
 refine DN.seq ?_
 obtain ⟨q2, hq7, hK6⟩ := Option.bind_eq_some_iff.mp h
 clear h
 refine WC.meet (fun L w' => ∃ (κ' : Col) (s3 : (List ByteArray) × Int × Int) (las3_0 : Option Addr) (lus3_0 : Nat), L = [(5, .slice las3_0 s3.1.length lus3_0)] ∧ Stp [2] K2 w1 κ' w' ∧ Oc Ep.str 9 κ' w' 2 las3_0 lus3_0 s3.1 ∧ q2 = Sum.inr s3) ?_ ?_
 ·
  refine WC.block ?_
  refine WC.loop (fun k L w' => ∃ (κ' : Col) (s1 : (List ByteArray) × Int × Int) (las1_0 : Option Addr) (lus1_0 : Nat), L = [(0, .string p0), (1, .int .u8 p1), (5, .slice las1_0 s1.1.length lus1_0), (6, .int .i64 s1.2.1), (7, .int .i64 s1.2.2)] ∧ Stp [2] K2 w1 κ' w' ∧ Oc Ep.str 9 κ' w' 2 las1_0 lus1_0 s1.1 ∧ whileM (s_l1Split_b0 p0 p1) k s1 = some q2) ⟨_, _, ⟨K2, ((([] : List ByteArray) : (List ByteArray)), (0 : Int), (0 : Int)), a8, u8, rfl, (Stp.refl _ _).wk rfl, f4, hq7⟩, fun a ha => (ha.more (ha.more (ha.more (ha.more (ha.more ha.nil rfl) rfl) rfl) rfl) rfl)⟩ ?_
  rintro k _ w12 ⟨K13, s1, las1_0, lus1_0, rfl, S14, f15, h⟩
  rcases k with _ | k
  ·
   cases h
  ·
   obtain ⟨o5, h, hk16⟩ := Option.bind_eq_some_iff.mp h; unfold s_l1Split_b0 at h
   refine WC.seq ?_
   refine WC.seq ?_
   refine WC.rs [(0, 2), (1, 2), (2, 2), (3, 2)] rfl ?_
   refine WO.pn 2 rfl ?_
   refine WO.k2 rfl rfl rfl rfl (rn_lenS Tryd.runUnderlying9 rfl rfl) ?_
   refine WO.pn 1 rfl ?_
   refine WO.fin ?_
   refine DN.seq ?_
   revert h
   cases ht17 : decide (s1.2.2 ≤ (p0.size : Int)) with
   | true =>
    intro h; replace h := cT h
    refine WC.ct rfl ?_
    refine WC.skip ?_
    refine DN.seq ?_
    refine WC.seq ?_
    refine WC.block ?_
    refine WC.seq ?_
    refine WC.rs [(0, 2), (1, 2), (2, 2), (3, 2), (4, 2), (5, 2), (6, 2), (7, 2), (8, 2), (9, 2), (10, 2)] rfl ?_
    refine WO.pn 2 rfl ?_
    refine WO.k2 rfl rfl rfl rfl (rn_lenS Tryd.runUnderlying9 rfl rfl) ?_
    refine WO.pn 2 rfl ?_
    obtain ⟨p25, h, hK18⟩ := Option.bind_eq_some_iff.mp h
    refine WO.meet [(5, 2), (6, 2), (7, 2), (8, 2), (9, 2), (10, 2)] [] (fun L w' => L = [(0, .string p0), (1, .int .u8 p1), (5, .slice las1_0 s1.1.length lus1_0), (6, .int .i64 s1.2.1), (7, .int .i64 s1.2.2), (25, .bool p25)] ∧ ∃ κ', Stp [] K13 w12 κ' w') trivial ?_ ?_
    ·
     revert h
     cases ht19 : (s1.2.2 == (p0.size : Int)) with
     | true =>
      intro h; replace h := cT h
      refine WO.pn 6 rfl ?_
      obtain rfl := Option.some.inj h
      exact WO.met _ trivial ⟨rfl, _, (Stp.refl _ _).wk rfl⟩ fun a ha => (ha.more (ha.more (ha.more (ha.more (ha.more (ha.more ha.nil rfl) rfl) rfl) rfl) rfl) rfl)
     | false =>
      intro h; replace h := cF h
      refine WO.pn 2 rfl ?_
      obtain ⟨x22, hx22, h⟩ := Option.bind_eq_some_iff.mp h
      refine WO.k2 rfl rfl rfl rfl (rn_indexSt Tryd.runUnderlying9 hx22 rfl rfl rfl) ?_
      refine WO.pn 3 rfl ?_
      obtain rfl := Option.some.inj h
      exact WO.met _ trivial ⟨rfl, _, (Stp.refl _ _).wk rfl⟩ fun a ha => (ha.more (ha.more (ha.more (ha.more (ha.more (ha.more ha.nil rfl) rfl) rfl) rfl) rfl) rfl)
    rintro _ w20 _ ⟨rfl, K21, S22⟩
    have h := hK18
    refine WO.fin ?_
    refine DN.seq ?_
    obtain ⟨q4, h, hK23⟩ := Option.bind_eq_some_iff.mp h
    refine WC.meet (fun L w' => ∃ (κ' : Col) (laq4_0 : Option Addr) (luq4_0 : Nat), L = [(0, .string p0), (1, .int .u8 p1), (5, .slice laq4_0 q4.1.length luq4_0), (6, .int .i64 q4.2), (7, .int .i64 s1.2.2)] ∧ Stp [2] K21 w20 κ' w' ∧ Oc Ep.str 9 κ' w' 2 laq4_0 luq4_0 q4.1) ?_ ?_
    ·
     revert h
     cases ht28 : p25 with
     | true =>
      intro h; replace h := cT h
      refine WC.ct rfl ?_
      refine WC.seq ?_
      refine WC.rs [(0, 2), (1, 2), (2, 2), (3, 2), (4, 2), (5, 1), (6, 1), (7, 2)] rfl ?_
      refine WO.pn 4 rfl ?_
      obtain ⟨x30, hx30, h⟩ := Option.bind_eq_some_iff.mp h
      refine WO.k2 rfl rfl rfl rfl (rn_sliceSt (k1 := .i64) (k2 := .i64) Tryd.runUnderlying9 (.inr ⟨_, rfl, rfl⟩) (.inr ⟨_, rfl, rfl⟩) hx30 rfl rfl) ?_
      refine WO.bl (κ := K21) (E := Ep.str) 3 [] (parts := [(0, .tmp 30)]) (cells := [.string x30]) (xs := ([x30] : List ByteArray)) rfl rfl rfl rfl rfl rfl Tryd.underlying57 Trydinfo9 rfl rfl rfl rfl rfl rfl rfl rfl rfl rfl ⟨[.string x30], [], Zl K21 w20 [], Zl K21 w20 [], rfl, Zl.sp (l1 := []) (l2 := []) rfl, Zl.sr (l1 := []) (l2 := []), rfl, rfl⟩ fun a31 u31 w29 K30 S31 f32 => ⟨trivial, ?_⟩
      obtain ⟨x32, hx32, h⟩ := Option.bind_eq_some_iff.mp h
      have f33 := f15.stp (S22.tr S31) rfl rfl
      refine WO.app (κ := K30) (E := Ep.str) 2 [] rfl rfl rfl rfl rfl rfl rfl rfl rfl Tryd.underlying57 Trydinfo9 rfl rfl rfl rfl f33 (Sl.srcP pu_str f32.rdc) sy_false hx32 rfl fun a32 u32 w34 K35 S36 f37 => ⟨trivial, ?_⟩
      refine WO.pn 1 rfl ?_
      refine WO.fin ?_
      refine DN.seq ?_
      refine WC.rs [(0, 2), (1, 2), (2, 2)] rfl ?_
      refine WO.pn 3 rfl ?_
      refine WO.fin ?_
      obtain rfl := Option.some.inj h
      exact DN.meet _ ⟨K35, a32, u32, rfl, (S31.tr S36).wk rfl, f37⟩ fun a ha => (ha.more (ha.more (ha.more (ha.more (ha.more ha.nil rfl) rfl) rfl) rfl) rfl)
     | false =>
      intro h; replace h := cF h
      refine WC.cf rfl ?_
      refine WC.skip ?_
      have f38 := f15.stp S22 rfl rfl
      obtain rfl := Option.some.inj h
      exact DN.meet _ ⟨K21, las1_0, lus1_0, rfl, (Stp.refl _ _).wk rfl, f38⟩ fun a ha => (ha.more (ha.more (ha.more (ha.more (ha.more ha.nil rfl) rfl) rfl) rfl) rfl)
    rintro _ w24 ⟨K25, laq4_0, luq4_0, rfl, S26, f27⟩
    have h := hK23
    refine DN.block ?_
    refine DN.seq ?_
    refine WC.rs [(0, 2), (1, 2), (2, 2)] rfl ?_
    refine WO.pn 3 rfl ?_
    refine WO.fin ?_
    obtain rfl := Option.some.inj h
    refine DN.round fun a ha => ?_
    exact ⟨k, _, Nat.lt_succ_self _, ⟨K25, ((q4.1 : (List ByteArray)), (q4.2 : Int), ((IntKind.i64.wrap (s1.2.2 + 1)) : Int)), laq4_0, luq4_0, rfl, (S14.tr (S22.tr S26)).wk rfl, f27, hk16⟩, (ha.more (ha.more (ha.more (ha.more (ha.more ha.nil rfl) rfl) rfl) rfl) rfl)⟩
   | false =>
    intro h; replace h := cF h
    refine WC.cf rfl ?_
    refine WC.exit ?_
    refine DN.exitThen ?_
    refine DN.exitThen ?_
    obtain rfl := Option.some.inj h
    have h := hk16
    refine DN.hit ?_
    obtain rfl := Option.some.inj h
    exact DN.meet _ ⟨K13, ((s1.1 : (List ByteArray)), (s1.2.1 : Int), (s1.2.2 : Int)), las1_0, lus1_0, rfl, S14.wk rfl, f15, rfl⟩ fun a ha => (ha.more ha.nil rfl)
 rintro _ w8 ⟨K9, s3, las3_0, lus3_0, rfl, S10, f11, rfl⟩
 have h := hK6
 dsimp only [aft] at h
 refine DN.seq ?_
 refine WC.seq ?_
 refine WC.rs [(0, 2), (1, 2)] rfl ?_
 refine WO.pn 2 rfl ?_
 refine WO.fin ?_
 refine DN.seq ?_
 refine WC.ret ?_
 have f39 := hE.stp (S3.tr S10) rfl rfl
 refine DN.res (l := [.tmp 4]) Tryd.results51 (res_tmp rfl rfl) rfl ?_
 obtain rfl := Option.some.inj h
 exact ⟨K9, las3_0, lus3_0, rfl, f39, f11⟩

/- loop.example/g00869/spec.l1Read -/
theorem s_l1Read_ok {w : World} {κ : Col} {p0 : ByteArray}  {r : Int × Bool} (h : s_l1Read p0 = some r) : Ret Tryd.prog 52 [.string p0] w (fun v w' => ∃ (κ' : Col), v = .tuple #[.int .i64 r.1, .bool r.2] ∧ Ent κ w κ' w') := by
 unfold s_l1Read at h
 refine Ret.enter Tryd.func52 rfl Tryd.ntmps52 rfl ?_
 dsimp only [envOf]
 have hE := Ent.refl κ w
 refine WC.seq ?_
 refine WC.rs [(0, 2), (1, 2)] rfl ?_
 refine WO.pn 2 rfl ?_
 refine WO.fin ?_
 refine DN.seq ?_
 refine WC.seq ?_
 refine WC.rs [(0, 2)] rfl ?_
 refine WO.pn 1 rfl ?_
 refine WO.fin ?_
 refine DN.seq ?_
 refine WC.seq ?_
 refine WC.seq ?_
 refine WC.rs [(0, 2), (1, 2), (2, 2), (3, 2), (4, 2), (5, 2), (6, 2), (7, 2), (8, 2), (9, 2), (10, 2), (11, 2), (12, 2), (13, 2), (14, 2), (15, 2), (16, 2), (17, 2)] rfl ?_
 refine WO.pn 1 rfl ?_
 refine WO.k2 rfl rfl rfl rfl (rn_lenS Tryd.runUnderlying9 rfl rfl) ?_
 refine WO.pn 2 rfl ?_
 obtain ⟨p13, h, hK1⟩ := Option.bind_eq_some_iff.mp h
 refine WO.meet [(4, 2), (5, 2), (6, 2), (7, 2)] [(8, 2), (9, 2), (10, 2), (11, 2), (12, 2), (13, 2), (14, 2), (15, 2), (16, 2), (17, 2)] (fun L w' => L = [(0, .string p0), (4, .int .i64 0), (13, .bool p13)] ∧ ∃ κ', Stp [] κ w κ' w') trivial ?_ ?_
 ·
  revert h
  cases ht2 : decide ((p0.size : Int) < 1) with
  | true =>
   intro h; replace h := cT h
   refine WO.pn 4 rfl ?_
   obtain rfl := Option.some.inj h
   exact WO.met _ trivial ⟨rfl, _, (Stp.refl _ _).wk rfl⟩ fun a ha => (ha.more (ha.more (ha.more ha.nil rfl) rfl) rfl)
  | false =>
   intro h; replace h := cF h
   refine WO.pn 1 rfl ?_
   refine WO.k2 rfl rfl rfl rfl (rn_lenS Tryd.runUnderlying9 rfl rfl) ?_
   refine WO.pn 2 rfl ?_
   obtain rfl := Option.some.inj h
   exact WO.met _ trivial ⟨rfl, _, (Stp.refl _ _).wk rfl⟩ fun a ha => (ha.more (ha.more (ha.more ha.nil rfl) rfl) rfl)
 rintro _ w3 _ ⟨rfl, K4, S5⟩
 have h := hK1
 refine WO.pn 1 rfl ?_
 obtain ⟨p23, h, hK6⟩ := Option.bind_eq_some_iff.mp h
 refine WO.meet [(9, 2), (10, 2), (11, 2), (12, 2), (13, 2), (14, 2), (15, 2), (16, 2), (17, 2)] [] (fun L w' => L = [(0, .string p0), (4, .int .i64 0), (23, .bool p23)] ∧ ∃ κ', Stp [] K4 w3 κ' w') trivial ?_ ?_
 ·
  revert h
  cases ht7 : p13 with
  | true =>
   intro h; replace h := cT h
   refine WO.pn 9 rfl ?_
   obtain rfl := Option.some.inj h
   exact WO.met _ trivial ⟨rfl, _, (Stp.refl _ _).wk rfl⟩ fun a ha => (ha.more (ha.more (ha.more ha.nil rfl) rfl) rfl)
  | false =>
   intro h; replace h := cF h
   refine WO.pn 1 rfl ?_
   obtain ⟨x16, hx16, h⟩ := Option.bind_eq_some_iff.mp h
   refine WO.k2 rfl rfl rfl rfl (rn_indexSt Tryd.runUnderlying9 hx16 rfl rfl rfl) ?_
   refine WO.pn 2 rfl ?_
   obtain ⟨p22, h, hK8⟩ := Option.bind_eq_some_iff.mp h
   refine WO.meet [(13, 2), (14, 2), (15, 2), (16, 2)] [(17, 2)] (fun L w' => L = [(0, .string p0), (4, .int .i64 0), (14, .bool false), (22, .bool p22)] ∧ ∃ κ', Stp [] K4 w3 κ' w') trivial ?_ ?_
   ·
    revert h
    cases ht9 : (x16 == 48) with
    | true =>
     intro h; replace h := cT h
     refine WO.pn 1 rfl ?_
     refine WO.k2 rfl rfl rfl rfl (rn_lenS Tryd.runUnderlying9 rfl rfl) ?_
     refine WO.pn 2 rfl ?_
     obtain rfl := Option.some.inj h
     exact WO.met _ trivial ⟨rfl, _, (Stp.refl _ _).wk rfl⟩ fun a ha => (ha.more (ha.more (ha.more (ha.more ha.nil rfl) rfl) rfl) rfl)
    | false =>
     intro h; replace h := cF h
     refine WO.pn 4 rfl ?_
     obtain rfl := Option.some.inj h
     exact WO.met _ trivial ⟨rfl, _, (Stp.refl _ _).wk rfl⟩ fun a ha => (ha.more (ha.more (ha.more (ha.more ha.nil rfl) rfl) rfl) rfl)
   rintro _ w10 _ ⟨rfl, K11, S12⟩
   have h := hK8
   refine WO.pn 1 rfl ?_
   obtain rfl := Option.some.inj h
   exact WO.met _ trivial ⟨rfl, _, S12.wk rfl⟩ fun a ha => (ha.more (ha.more (ha.more ha.nil rfl) rfl) rfl)
 rintro _ w13 _ ⟨rfl, K14, S15⟩
 have h := hK6
 refine WO.fin ?_
 refine DN.seq ?_
 revert h
 cases ht16 : p23 with
 | true =>
  intro h; replace h := cT h
  refine WC.ct rfl ?_
  refine WC.seq ?_
  refine WC.rs [(0, 2), (1, 2)] rfl ?_
  refine WO.pn 2 rfl ?_
  refine WO.fin ?_
  refine DN.seq ?_
  refine WC.ret ?_
  refine DN.retThen ?_
  have f17 := hE.stp (S5.tr S15) rfl rfl
  refine DN.res (l := [.tmp 2, .tmp 3]) Tryd.results52 (res_tmp rfl (res_tmp rfl rfl)) rfl ?_
  obtain rfl := Option.some.inj h
  exact ⟨K14, rfl, f17⟩
 | false =>
  intro h; replace h := cF h
  refine WC.cf rfl ?_
  refine WC.skip ?_
  refine DN.seq ?_
  refine WC.seq ?_
  refine WC.seq ?_
  refine WC.rs [(0, 2)] rfl ?_
  refine WO.pn 1 rfl ?_
  refine WO.fin ?_
  refine DN.seq ?_
  obtain ⟨_, hr18, h⟩ := Option.bind_eq_some_iff.mp h
  have hN18 := rng_ok hr18
  obtain ⟨q2, hq20, hK19⟩ := Option.bind_eq_some_iff.mp h
  clear h
  refine WC.meet (fun L w' => ∃ (κ' : Col) (s3 : Int), L = [(4, .int .i64 s3)] ∧ Stp [] K14 w13 κ' w' ∧ q2 = Sum.inr s3) ?_ ?_
  ·
   refine WC.block ?_
   refine WC.loop (fun k L w' => ∃ (κ' : Col) (v5 : Int) (s1 : Int), L = [(0, .string p0), (4, .int .i64 s1), (5, .int .i64 v5)] ∧ Stp [] K14 w13 κ' w' ∧ 0 ≤ v5 ∧ Int.toNat ((p0.size : Int) - v5) = k ∧ cntM (s_l1Read_b0 p0) k v5 s1 = some q2) ⟨_, _, ⟨K14, 0, (0 : Int), rfl, (Stp.refl _ _).wk rfl, (by decide), (by simp), hq20⟩, fun a ha => (ha.more (ha.more (ha.more ha.nil rfl) rfl) rfl)⟩ ?_
   rintro k _ w24 ⟨K25, v5, s1, rfl, S26, hj18, hJ18, h⟩
   rcases k with _ | k
   ·
    have hk27 := h; obtain ⟨o18, h⟩ := ex_eq (Sum.inr (Sum.inl s1) : (Int × Bool) ⊕ ((Int) ⊕ (Int)))
    have hc18 : decide (v5 < (p0.size : Int)) = false := decide_eq_false (by omega)
    refine WC.seq ?_
    refine WC.seq ?_
    refine WC.rs [(0, 2), (1, 2), (2, 2), (3, 2)] rfl ?_
    refine WO.pn 2 rfl ?_
    refine WO.k2 rfl rfl rfl rfl (rn_lenS Tryd.runUnderlying9 rfl rfl) ?_
    refine WO.pn 1 rfl ?_
    refine WO.fin ?_
    refine DN.seq ?_
    refine WC.cf' rfl hc18 ?_
    refine WC.exit ?_
    refine DN.exitThen ?_
    refine DN.exitThen ?_
    obtain rfl := Option.some.inj h
    have h := hk27
    refine DN.hit ?_
    obtain rfl := Option.some.inj h
    exact DN.meet _ ⟨K25, (s1 : Int), rfl, S26.wk rfl, rfl⟩ fun a ha => (ha.more ha.nil rfl)
   ·
    obtain ⟨o18, h, hk27⟩ := Option.bind_eq_some_iff.mp h; unfold s_l1Read_b0 at h
    have hc18 : decide (v5 < (p0.size : Int)) = true := decide_eq_true (by omega)
    refine WC.seq ?_
    refine WC.seq ?_
    refine WC.rs [(0, 2), (1, 2), (2, 2), (3, 2)] rfl ?_
    refine WO.pn 2 rfl ?_
    refine WO.k2 rfl rfl rfl rfl (rn_lenS Tryd.runUnderlying9 rfl rfl) ?_
    refine WO.pn 1 rfl ?_
    refine WO.fin ?_
    refine DN.seq ?_
    refine WC.ct' rfl hc18 ?_
    refine WC.skip ?_
    refine DN.seq ?_
    refine WC.seq ?_
    refine WC.block ?_
    refine WC.seq ?_
    refine WC.seq ?_
    refine WC.rs [(0, 2), (1, 2), (2, 2), (3, 2), (4, 2), (5, 2), (6, 2), (7, 2), (8, 2), (9, 2)] rfl ?_
    refine WO.pn 2 rfl ?_
    obtain ⟨x32, hx32, h⟩ := Option.bind_eq_some_iff.mp h
    refine WO.k2 rfl rfl rfl rfl (rn_indexSt Tryd.runUnderlying9 hx32 rfl rfl rfl) ?_
    refine WO.pn 2 rfl ?_
    obtain ⟨p39, h, hK28⟩ := Option.bind_eq_some_iff.mp h
    refine WO.meet [(5, 2), (6, 2), (7, 2), (8, 2), (9, 2)] [] (fun L w' => L = [(0, .string p0), (4, .int .i64 s1), (5, .int .i64 v5), (39, .bool p39)] ∧ ∃ κ', Stp [] K25 w24 κ' w') trivial ?_ ?_
    ·
     revert h
     cases ht29 : decide (x32 < 48) with
     | true =>
      intro h; replace h := cT h
      refine WO.pn 5 rfl ?_
      obtain rfl := Option.some.inj h
      exact WO.met _ trivial ⟨rfl, _, (Stp.refl _ _).wk rfl⟩ fun a ha => (ha.more (ha.more (ha.more (ha.more ha.nil rfl) rfl) rfl) rfl)
     | false =>
      intro h; replace h := cF h
      refine WO.pn 2 rfl ?_
      obtain ⟨x37, hx37, h⟩ := Option.bind_eq_some_iff.mp h
      refine WO.k2 rfl rfl rfl rfl (rn_indexSt Tryd.runUnderlying9 hx37 rfl rfl rfl) ?_
      refine WO.pn 2 rfl ?_
      obtain rfl := Option.some.inj h
      exact WO.met _ trivial ⟨rfl, _, (Stp.refl _ _).wk rfl⟩ fun a ha => (ha.more (ha.more (ha.more (ha.more ha.nil rfl) rfl) rfl) rfl)
    rintro _ w30 _ ⟨rfl, K31, S32⟩
    have h := hK28
    refine WO.fin ?_
    refine DN.seq ?_
    revert h
    cases ht33 : p39 with
    | true =>
     intro h; replace h := cT h
     refine WC.ct rfl ?_
     refine WC.seq ?_
     refine WC.rs [(0, 2), (1, 2)] rfl ?_
     refine WO.pn 2 rfl ?_
     refine WO.fin ?_
     refine DN.seq ?_
     refine WC.ret ?_
     refine DN.retThen ?_
     refine DN.retBlock ?_
     refine DN.retThen ?_
     refine DN.retThen ?_
     obtain rfl := Option.some.inj h
     obtain rfl := Option.some.inj hk27
     have h := hK19
     dsimp only [aft] at h
     refine DN.retBlock ?_
     refine DN.retMeet ?_
     refine DN.retThen ?_
     have f34 := hE.stp (S5.tr (S15.tr (S26.tr S32))) rfl rfl
     refine DN.res (l := [.tmp 2, .tmp 3]) Tryd.results52 (res_tmp rfl (res_tmp rfl rfl)) rfl ?_
     obtain rfl := Option.some.inj h
     exact ⟨K31, rfl, f34⟩
    | false =>
     intro h; replace h := cF h
     refine WC.cf rfl ?_
     refine WC.skip ?_
     refine DN.seq ?_
     refine WC.rs [(0, 2), (1, 2), (2, 2), (3, 2), (4, 2), (5, 2), (6, 2), (7, 2), (8, 2)] rfl ?_
     refine WO.pn 4 rfl ?_
     obtain ⟨x44, hx44, h⟩ := Option.bind_eq_some_iff.mp h
     refine WO.k2 rfl rfl rfl rfl (rn_indexSt Tryd.runUnderlying9 hx44 rfl rfl rfl) ?_
     refine WO.pn 1 rfl ?_
     refine WO.k2 rfl rfl rfl rfl (rn_conv Tryd.runUnderlying5 Tryd.runUnderlying2 rfl rfl) ?_
     refine WO.pn 2 rfl ?_
     refine WO.fin ?_
     refine DN.block ?_
     refine DN.seq ?_
     refine WC.rs [(0, 2), (1, 2), (2, 2)] rfl ?_
     refine WO.pn 3 rfl ?_
     refine WO.fin ?_
     have hw18 : IntKind.wrap .i64 (v5 + 1) = v5 + 1 := wr1 hj18 (of_decide_eq_true hc18) hN18
     rw [hw18]
     have hc18 := of_decide_eq_true hc18
     obtain rfl := Option.some.inj h
     refine DN.round fun a ha => ?_
     exact ⟨k, _, Nat.lt_succ_self _, ⟨K31, v5 + 1, ((IntKind.i64.wrap ((IntKind.i64.wrap (s1 * 10)) + (IntKind.i64.wrap (IntKind.u8.wrap (x44 - 48))))) : Int), rfl, (S26.tr S32).wk rfl, by omega, by omega, hk27⟩, (ha.more (ha.more (ha.more ha.nil rfl) rfl) rfl)⟩
  rintro _ w21 ⟨K22, s3, rfl, S23, rfl⟩
  have h := hK19
  dsimp only [aft] at h
  refine DN.seq ?_
  refine WC.seq ?_
  refine WC.rs [(0, 2), (1, 2), (2, 2)] rfl ?_
  refine WO.pn 3 rfl ?_
  refine WO.fin ?_
  refine DN.seq ?_
  refine WC.ret ?_
  have f35 := hE.stp (S5.tr (S15.tr S23)) rfl rfl
  refine DN.res (l := [.tmp 2, .tmp 3]) Tryd.results52 (res_tmp rfl (res_tmp rfl rfl)) rfl ?_
  obtain rfl := Option.some.inj h
  exact ⟨K22, rfl, f35⟩

/- loop.example/g00869/spec.l1In -/
theorem s_l1In_ok {w : World} {κ : Col} {p0 : Int} {p1 : Int} {p2 : Int}  {r : Bool} (h : s_l1In p0 p1 p2 = some r) : Ret Tryd.prog 37 [.int .i64 p0, .int .i64 p1, .int .i64 p2] w (fun v w' => ∃ (κ' : Col), v = .bool r ∧ Ent κ w κ' w') := by
 unfold s_l1In at h
 refine Ret.enter Tryd.func37 rfl Tryd.ntmps37 rfl ?_
 dsimp only [envOf]
 have hE := Ent.refl κ w
 refine WC.seq ?_
 refine WC.rs [(0, 2)] rfl ?_
 refine WO.pn 1 rfl ?_
 refine WO.fin ?_
 refine DN.seq ?_
 refine WC.seq ?_
 refine WC.rs [(0, 2), (1, 2), (2, 2), (3, 2), (4, 2), (5, 2), (6, 2), (7, 2), (8, 2)] rfl ?_
 refine WO.pn 4 rfl ?_
 obtain ⟨p14, h, hK1⟩ := Option.bind_eq_some_iff.mp h
 refine WO.meet [(4, 2), (5, 2), (6, 2), (7, 2)] [(8, 2)] (fun L w' => L = [(6, .bool false), (14, .bool p14)] ∧ ∃ κ', Stp [] κ w κ' w') trivial ?_ ?_
 ·
  revert h
  cases ht2 : decide (p1 ≤ p0) with
  | true =>
   intro h; replace h := cT h
   refine WO.pn 4 rfl ?_
   obtain rfl := Option.some.inj h
   exact WO.met _ trivial ⟨rfl, _, (Stp.refl _ _).wk rfl⟩ fun a ha => (ha.more (ha.more ha.nil rfl) rfl)
  | false =>
   intro h; replace h := cF h
   refine WO.pn 4 rfl ?_
   obtain rfl := Option.some.inj h
   exact WO.met _ trivial ⟨rfl, _, (Stp.refl _ _).wk rfl⟩ fun a ha => (ha.more (ha.more ha.nil rfl) rfl)
 rintro _ w3 _ ⟨rfl, K4, S5⟩
 have h := hK1
 refine WO.pn 1 rfl ?_
 refine WO.fin ?_
 refine DN.seq ?_
 refine WC.ret ?_
 have f6 := hE.stp S5 rfl rfl
 refine DN.res (l := [.tmp 6]) Tryd.results37 (res_tmp rfl rfl) rfl ?_
 obtain rfl := Option.some.inj h
 exact ⟨K4, rfl, f6⟩

/- loop.example/g00869/spec.l32Words -/
theorem s_l32Words_ok {w : World} {κ : Col}  {r : (List ByteArray)} (h : s_l32Words  = some r) : Ret Tryd.prog 38 [] w (fun v w' => ∃ (κ' : Col) (ra0 : Option Addr) (ru0 : Nat), v = .slice ra0 r.length ru0 ∧ Ent κ w κ' w' ∧ Oc Ep.str 9 κ' w' 2 ra0 ru0 r) := by
 unfold s_l32Words at h
 refine Ret.enter Tryd.func38 rfl Tryd.ntmps38 rfl ?_
 dsimp only [envOf]
 have hE := Ent.refl κ w
 refine WC.seq ?_
 refine WC.rs [(0, 2)] rfl ?_
 refine WO.pn 1 rfl ?_
 refine WO.fin ?_
 refine DN.seq ?_
 refine WC.seq ?_
 refine WC.rs [(0, 1), (1, 2)] rfl ?_
 refine WO.bl (κ := κ) (E := Ep.str) 2 [] (parts := [(0, .const (.string (ByteArray.mk #[]))), (1, .const (.string (ByteArray.mk #[112, 114, 105, 111]))), (2, .const (.string (ByteArray.mk #[111, 119, 110, 101, 114]))), (3, .const (.string (ByteArray.mk #[97, 100, 100]))), (4, .const (.string (ByteArray.mk #[99, 117, 116])))]) (cells := [.string (ByteArray.mk #[]), .string (ByteArray.mk #[112, 114, 105, 111]), .string (ByteArray.mk #[111, 119, 110, 101, 114]), .string (ByteArray.mk #[97, 100, 100]), .string (ByteArray.mk #[99, 117, 116])]) (xs := ([(ByteArray.mk #[]), (ByteArray.mk #[112, 114, 105, 111]), (ByteArray.mk #[111, 119, 110, 101, 114]), (ByteArray.mk #[97, 100, 100]), (ByteArray.mk #[99, 117, 116])] : List ByteArray)) rfl rfl rfl rfl rfl rfl Tryd.underlying57 Trydinfo9 rfl rfl rfl rfl rfl rfl rfl rfl rfl rfl ⟨[.string (ByteArray.mk #[])], [.string (ByteArray.mk #[112, 114, 105, 111]), .string (ByteArray.mk #[111, 119, 110, 101, 114]), .string (ByteArray.mk #[97, 100, 100]), .string (ByteArray.mk #[99, 117, 116])], Zl κ w [], Zl κ w [], rfl, Zl.sp (l1 := []) (l2 := []) rfl, Zl.sr (l1 := []) (l2 := []), rfl, ⟨[.string (ByteArray.mk #[112, 114, 105, 111])], [.string (ByteArray.mk #[111, 119, 110, 101, 114]), .string (ByteArray.mk #[97, 100, 100]), .string (ByteArray.mk #[99, 117, 116])], Zl κ w [], Zl κ w [], rfl, Zl.sp (l1 := []) (l2 := []) rfl, Zl.sr (l1 := []) (l2 := []), rfl, ⟨[.string (ByteArray.mk #[111, 119, 110, 101, 114])], [.string (ByteArray.mk #[97, 100, 100]), .string (ByteArray.mk #[99, 117, 116])], Zl κ w [], Zl κ w [], rfl, Zl.sp (l1 := []) (l2 := []) rfl, Zl.sr (l1 := []) (l2 := []), rfl, ⟨[.string (ByteArray.mk #[97, 100, 100])], [.string (ByteArray.mk #[99, 117, 116])], Zl κ w [], Zl κ w [], rfl, Zl.sp (l1 := []) (l2 := []) rfl, Zl.sr (l1 := []) (l2 := []), rfl, ⟨[.string (ByteArray.mk #[99, 117, 116])], [], Zl κ w [], Zl κ w [], rfl, Zl.sp (l1 := []) (l2 := []) rfl, Zl.sr (l1 := []) (l2 := []), rfl, rfl⟩⟩⟩⟩⟩ fun a1 u1 w1 K2 S3 f4 => ⟨trivial, ?_⟩
 refine WO.pn 1 rfl ?_
 refine WO.fin ?_
 refine DN.seq ?_
 refine WC.ret ?_
 have f5 := hE.stp S3 rfl rfl
 refine DN.res (l := [.tmp 0]) Tryd.results38 (res_tmp rfl rfl) rfl ?_
 obtain rfl := Option.some.inj h
 exact ⟨K2, a1, u1, rfl, f5, f4⟩

/- loop.example/g00869/spec.l1Int -/
theorem s_l1Int_ok {w : World} {κ : Col} {p0 : Int}  {r : ByteArray} (h : s_l1Int p0 = some r) : Ret Tryd.prog 39 [.int .i64 p0] w (fun v w' => ∃ (κ' : Col), v = .string r ∧ Ent κ w κ' w') := by
 unfold s_l1Int at h
 refine Ret.enter Tryd.func39 rfl Tryd.ntmps39 rfl ?_
 dsimp only [envOf]
 have hE := Ent.refl κ w
 refine WC.seq ?_
 refine WC.rs [(0, 2)] rfl ?_
 refine WO.pn 1 rfl ?_
 refine WO.fin ?_
 refine DN.seq ?_
 refine WC.seq ?_
 refine WC.rs [(0, 2)] rfl ?_
 refine WO.pn 1 rfl ?_
 refine WO.fin ?_
 refine DN.seq ?_
 refine WC.seq ?_
 refine WC.rs [(0, 2), (1, 2), (2, 2)] rfl ?_
 refine WO.pn 3 rfl ?_
 refine WO.fin ?_
 refine DN.seq ?_
 refine WC.seq ?_
 obtain ⟨q2, hq3, hK2⟩ := Option.bind_eq_some_iff.mp h
 clear h
 refine WC.meet (fun L w' => ∃ (κ' : Col) (s3 : Int × ByteArray), L = [(3, .string s3.2), (4, .bool (decide (p0 < 0)))] ∧ Stp [] κ w κ' w' ∧ q2 = Sum.inr s3) ?_ ?_
 ·
  refine WC.block ?_
  refine WC.loop (fun k L w' => ∃ (κ' : Col) (s1 : Int × ByteArray), L = [(0, .int .i64 s1.1), (3, .string s1.2), (4, .bool (decide (p0 < 0)))] ∧ Stp [] κ w κ' w' ∧ whileM s_l1Int_b0 k s1 = some q2) ⟨_, _, ⟨κ, ((p0 : Int), ((ByteArray.mk #[]) : ByteArray)), rfl, (Stp.refl _ _).wk rfl, hq3⟩, fun a ha => (ha.more (ha.more (ha.more ha.nil rfl) rfl) rfl)⟩ ?_
  rintro k _ w7 ⟨K8, s1, rfl, S9, h⟩
  rcases k with _ | k
  ·
   cases h
  ·
   obtain ⟨o1, h, hk10⟩ := Option.bind_eq_some_iff.mp h; unfold s_l1Int_b0 at h
   refine WC.seq ?_
   refine WC.seq ?_
   refine WC.rs [(0, 2), (1, 2), (2, 2), (3, 2), (4, 2), (5, 2)] rfl ?_
   refine WO.pn 1 rfl ?_
   refine WO.k2 rfl rfl rfl rfl (rn_eqlSt rfl rfl rfl) ?_
   refine WO.pn 1 rfl ?_
   obtain ⟨p13, h, hK11⟩ := Option.bind_eq_some_iff.mp h
   refine WO.meet [(3, 2), (4, 2), (5, 2)] [] (fun L w' => L = [(0, .int .i64 s1.1), (3, .string s1.2), (4, .bool (decide (p0 < 0))), (13, .bool p13)] ∧ ∃ κ', Stp [] K8 w7 κ' w') trivial ?_ ?_
   ·
    revert h
    cases ht12 : (eqB s1.2 (ByteArray.mk #[])) with
    | true =>
     intro h; replace h := cT h
     refine WO.pn 3 rfl ?_
     obtain rfl := Option.some.inj h
     exact WO.met _ trivial ⟨rfl, _, (Stp.refl _ _).wk rfl⟩ fun a ha => (ha.more (ha.more (ha.more (ha.more ha.nil rfl) rfl) rfl) rfl)
    | false =>
     intro h; replace h := cF h
     refine WO.pn 3 rfl ?_
     obtain rfl := Option.some.inj h
     exact WO.met _ trivial ⟨rfl, _, (Stp.refl _ _).wk rfl⟩ fun a ha => (ha.more (ha.more (ha.more (ha.more ha.nil rfl) rfl) rfl) rfl)
   rintro _ w13 _ ⟨rfl, K14, S15⟩
   have h := hK11
   refine WO.fin ?_
   refine DN.seq ?_
   revert h
   cases ht16 : p13 with
   | true =>
    intro h; replace h := cT h
    refine WC.ct rfl ?_
    refine WC.skip ?_
    refine DN.seq ?_
    refine WC.block ?_
    refine WC.seq ?_
    refine WC.rs [(0, 2), (1, 2), (2, 2)] rfl ?_
    refine WO.pn 1 rfl ?_
    refine WO.k2 rfl rfl rfl rfl (rn_rem rfl rfl rfl (by decide)) ?_
    refine WO.pn 1 rfl ?_
    refine WO.fin ?_
    refine DN.seq ?_
    refine WC.seq ?_
    refine WC.seq ?_
    refine WC.rs [(0, 2), (1, 2)] rfl ?_
    refine WO.pn 2 rfl ?_
    refine WO.fin ?_
    refine DN.seq ?_
    obtain ⟨q4, h, hK17⟩ := Option.bind_eq_some_iff.mp h
    refine WC.meet (fun L w' => ∃ (κ' : Col), L = [(0, .int .i64 s1.1), (3, .string s1.2), (4, .bool (decide (p0 < 0))), (5, .int .i64 q4)] ∧ Stp [] K14 w13 κ' w') ?_ ?_
    ·
     revert h
     cases ht21 : decide ((Int.tmod s1.1 10) < 0) with
     | true =>
      intro h; replace h := cT h
      refine WC.ct rfl ?_
      refine WC.rs [(0, 2), (1, 2), (2, 2)] rfl ?_
      refine WO.pn 1 rfl ?_
      refine WO.k2 rfl rfl rfl rfl (rn_neg rfl rfl) ?_
      refine WO.pn 1 rfl ?_
      refine WO.fin ?_
      obtain rfl := Option.some.inj h
      exact DN.meet _ ⟨K14, rfl, (Stp.refl _ _).wk rfl⟩ fun a ha => (ha.more (ha.more (ha.more (ha.more ha.nil rfl) rfl) rfl) rfl)
     | false =>
      intro h; replace h := cF h
      refine WC.cf rfl ?_
      refine WC.skip ?_
      obtain rfl := Option.some.inj h
      exact DN.meet _ ⟨K14, rfl, (Stp.refl _ _).wk rfl⟩ fun a ha => (ha.more (ha.more (ha.more (ha.more ha.nil rfl) rfl) rfl) rfl)
    rintro _ w18 ⟨K19, rfl, S20⟩
    have h := hK17
    refine DN.seq ?_
    refine WC.seq ?_
    refine WC.rs [(0, 2), (1, 2), (2, 2), (3, 1), (4, 1), (5, 2), (6, 2), (7, 2)] rfl ?_
    refine WO.pn 2 rfl ?_
    refine WO.k2 rfl rfl rfl rfl (rn_conv Tryd.runUnderlying2 Tryd.runUnderlying5 rfl rfl) ?_
    refine WO.bl (κ := K19) (E := (Ep.int .u8)) 2 [] (parts := [(0, .tmp 22)]) (cells := [.int .u8 (IntKind.u8.wrap (IntKind.i64.wrap (48 + q4)))]) (xs := ([(IntKind.u8.wrap (IntKind.i64.wrap (48 + q4)))] : List Int)) rfl rfl rfl rfl rfl rfl Tryd.underlying22 Trydinfo5 rfl rfl rfl rfl rfl rfl rfl rfl rfl rfl ⟨[.int .u8 (IntKind.u8.wrap (IntKind.i64.wrap (48 + q4)))], [], Zl K19 w18 [], Zl K19 w18 [], rfl, Zl.sp (l1 := []) (l2 := []) rfl, Zl.sr (l1 := []) (l2 := []), rfl, rfl⟩ fun a23 u23 w22 K23 S24 f25 => ⟨trivial, ?_⟩
    refine WO.k1 trivial rfl rfl rfl rfl (rn_b2s Tryd.underlying22 Tryd.underlying5 Tryd.underlying9 rfl (svE f25.rdc) rfl rfl) ?_
    refine WO.pn 1 rfl ?_
    obtain ⟨x26, hx26, h⟩ := Option.bind_eq_some_iff.mp h
    refine WO.k2 rfl rfl rfl rfl (rn_addS rfl rfl rfl hx26) ?_
    refine WO.pn 1 rfl ?_
    refine WO.fin ?_
    refine DN.seq ?_
    refine WC.rs [(0, 2), (1, 2), (2, 2)] rfl ?_
    refine WO.pn 1 rfl ?_
    refine WO.k2 rfl rfl rfl rfl (rn_quo rfl rfl rfl (by decide)) ?_
    refine WO.pn 1 rfl ?_
    refine WO.fin ?_
    refine DN.block ?_
    obtain rfl := Option.some.inj h
    refine DN.round fun a ha => ?_
    exact ⟨k, _, Nat.lt_succ_self _, ⟨K23, (((IntKind.i64.wrap (Int.tdiv s1.1 10)) : Int), (x26 : ByteArray)), rfl, (S9.tr (S15.tr (S20.tr S24))).wk rfl, hk10⟩, (ha.more (ha.more (ha.more ha.nil rfl) rfl) rfl)⟩
   | false =>
    intro h; replace h := cF h
    refine WC.cf rfl ?_
    refine WC.exit ?_
    refine DN.exitThen ?_
    refine DN.exitThen ?_
    obtain rfl := Option.some.inj h
    have h := hk10
    refine DN.hit ?_
    obtain rfl := Option.some.inj h
    exact DN.meet _ ⟨K14, ((s1.1 : Int), (s1.2 : ByteArray)), rfl, (S9.tr S15).wk rfl, rfl⟩ fun a ha => (ha.more (ha.more ha.nil rfl) rfl)
 rintro _ w4 ⟨K5, s3, rfl, S6, rfl⟩
 have h := hK2
 dsimp only [aft] at h
 refine DN.seq ?_
 refine WC.seq ?_
 refine WC.seq ?_
 refine WC.rs [(0, 2)] rfl ?_
 refine WO.pn 1 rfl ?_
 refine WO.fin ?_
 refine DN.seq ?_
 obtain ⟨q5, h, hK26⟩ := Option.bind_eq_some_iff.mp h
 refine WC.meet (fun L w' => ∃ (κ' : Col), L = [(3, .string q5)] ∧ Stp [] K5 w4 κ' w') ?_ ?_
 ·
  revert h
  cases ht30 : decide (p0 < 0) with
  | true =>
   intro h; replace h := cT h
   refine WC.ct rfl ?_
   refine WC.rs [(0, 2), (1, 2), (2, 2)] rfl ?_
   refine WO.pn 1 rfl ?_
   obtain ⟨x31, hx31, h⟩ := Option.bind_eq_some_iff.mp h
   refine WO.k2 rfl rfl rfl rfl (rn_addS rfl rfl rfl hx31) ?_
   refine WO.pn 1 rfl ?_
   refine WO.fin ?_
   obtain rfl := Option.some.inj h
   exact DN.meet _ ⟨K5, rfl, (Stp.refl _ _).wk rfl⟩ fun a ha => (ha.more ha.nil rfl)
  | false =>
   intro h; replace h := cF h
   refine WC.cf rfl ?_
   refine WC.skip ?_
   obtain rfl := Option.some.inj h
   exact DN.meet _ ⟨K5, rfl, (Stp.refl _ _).wk rfl⟩ fun a ha => (ha.more ha.nil rfl)
 rintro _ w27 ⟨K28, rfl, S29⟩
 have h := hK26
 refine DN.seq ?_
 refine WC.seq ?_
 refine WC.rs [(0, 2), (1, 2)] rfl ?_
 refine WO.pn 2 rfl ?_
 refine WO.fin ?_
 refine DN.seq ?_
 refine WC.ret ?_
 have f31 := hE.stp (S6.tr S29) rfl rfl
 refine DN.res (l := [.tmp 2]) Tryd.results39 (res_tmp rfl rfl) rfl ?_
 obtain rfl := Option.some.inj h
 exact ⟨K28, rfl, f31⟩

/- loop.example/g00869/spec.EditText -/
theorem s_EditText_ok {w : World} {κ : Col} {p0 : Edit}  {r : ByteArray} (h : s_EditText p0 = some r) : Ret Tryd.prog 12 [.agg #[.int .i64 p0.Kind, .int .i64 p0.V, .int .i64 p0.N]] w (fun v w' => ∃ (κ' : Col), v = .string r ∧ Ent κ w κ' w') := by
 unfold s_EditText at h
 refine Ret.enter Tryd.func12 rfl Tryd.ntmps12 rfl ?_
 dsimp only [envOf]
 have hE := Ent.refl κ w
 refine WC.seq ?_
 refine WC.rs [(0, 1), (1, 2)] rfl ?_
 refine WO.box (κ := κ) 2 rfl rfl rfl rfl rfl rfl rfl fun b1 w1 K2 S3 f4 => ⟨trivial, ?_⟩
 refine WO.pn 1 rfl ?_
 refine WO.fin ?_
 refine DN.seq ?_
 refine WC.seq ?_
 refine WC.seq ?_
 refine WC.rs [(0, 2), (1, 1), (2, 1), (3, 2), (4, 2), (5, 2), (6, 1), (7, 1), (8, 2), (9, 2), (10, 2), (11, 2), (12, 1), (13, 1), (14, 2), (15, 2)] rfl ?_
 refine WO.k2 rfl rfl rfl rfl (rn_fieldAddr Tryd.runUnderlying25 rfl Tryd.sizeOf2 rfl rfl) ?_
 refine WO.k1 trivial rfl rfl rfl rfl (rn_ld Tryd.isAgg2 rfl rfl (hvE (f4.ld 0 rfl rfl))) ?_
 obtain ⟨x5, hx5, h⟩ := Option.bind_eq_some_iff.mp h
 refine WO.call rfl rfl rfl rfl rfl rfl Tryd.call37 (s_l1In_ok (κ := fun b => mp [] 0 (K2 b)) hx5) ?_
 rintro _ w5 ⟨k6, rfl, e7⟩
 obtain ⟨K8, S9, m10⟩ := Ent.mixed (l := []) (κ := K2) e7 3 rfl
 refine ⟨trivial, ?_⟩
 refine WO.pn 2 rfl ?_
 obtain ⟨p12, h, hK12⟩ := Option.bind_eq_some_iff.mp h
 refine WO.meet [(5, 2), (6, 1), (7, 1), (8, 2), (9, 2)] [(10, 2), (11, 2), (12, 1), (13, 1), (14, 2), (15, 2)] (fun L w' => L = [(1, .pointer (some ⟨b1, 0, none⟩)), (12, .bool p12)] ∧ ∃ κ', Stp [] K8 w5 κ' w') trivial ?_ ?_
 ·
  revert h
  cases ht13 : (!x5) with
  | true =>
   intro h; replace h := cT h
   refine WO.pn 1 rfl ?_
   refine WO.ls rfl rfl rfl rfl ?_
   refine WO.ls rfl rfl rfl rfl ?_
   refine WO.pn 2 rfl ?_
   obtain rfl := Option.some.inj h
   exact WO.met _ trivial ⟨rfl, _, (Stp.refl _ _).wk rfl⟩ fun a ha => (ha.more (ha.more ha.nil rfl) rfl)
  | false =>
   intro h; replace h := cF h
   refine WO.k2 rfl rfl rfl rfl (rn_fieldAddr Tryd.runUnderlying25 rfl Tryd.sizeOf2 rfl rfl) ?_
   have f14 := f4.stp S9 rfl rfl
   refine WO.k1 trivial rfl rfl rfl rfl (rn_ld Tryd.isAgg2 rfl rfl (hvE (f14.ld 1 rfl rfl))) ?_
   obtain ⟨x10, hx10, h⟩ := Option.bind_eq_some_iff.mp h
   refine WO.call rfl rfl rfl rfl rfl rfl Tryd.call37 (s_l1In_ok (κ := fun b => mp [] 0 (K8 b)) hx10) ?_
   rintro _ w15 ⟨k16, rfl, e17⟩
   obtain ⟨K18, S19, m20⟩ := Ent.mixed (l := []) (κ := K8) e17 5 rfl
   refine ⟨trivial, ?_⟩
   refine WO.pn 2 rfl ?_
   obtain rfl := Option.some.inj h
   exact WO.met _ trivial ⟨rfl, _, S19.wk rfl⟩ fun a ha => (ha.more (ha.more ha.nil rfl) rfl)
 rintro _ w22 _ ⟨rfl, K23, S24⟩
 have h := hK12
 refine WO.pn 1 rfl ?_
 obtain ⟨p18, h, hK25⟩ := Option.bind_eq_some_iff.mp h
 refine WO.meet [(11, 2), (12, 1), (13, 1), (14, 2), (15, 2)] [] (fun L w' => L = [(1, .pointer (some ⟨b1, 0, none⟩)), (18, .bool p18)] ∧ ∃ κ', Stp [] K23 w22 κ' w') trivial ?_ ?_
 ·
  revert h
  cases ht26 : p12 with
  | true =>
   intro h; replace h := cT h
   refine WO.pn 1 rfl ?_
   refine WO.ls rfl rfl rfl rfl ?_
   refine WO.ls rfl rfl rfl rfl ?_
   refine WO.pn 2 rfl ?_
   obtain rfl := Option.some.inj h
   exact WO.met _ trivial ⟨rfl, _, (Stp.refl _ _).wk rfl⟩ fun a ha => (ha.more (ha.more ha.nil rfl) rfl)
  | false =>
   intro h; replace h := cF h
   refine WO.k2 rfl rfl rfl rfl (rn_fieldAddr Tryd.runUnderlying25 rfl Tryd.sizeOf2 rfl rfl) ?_
   have f27 := f4.stp (S9.tr S24) rfl rfl
   refine WO.k1 trivial rfl rfl rfl rfl (rn_ld Tryd.isAgg2 rfl rfl (hvE (f27.ld 2 rfl rfl))) ?_
   obtain ⟨x16, hx16, h⟩ := Option.bind_eq_some_iff.mp h
   refine WO.call rfl rfl rfl rfl rfl rfl Tryd.call37 (s_l1In_ok (κ := fun b => mp [] 0 (K23 b)) hx16) ?_
   rintro _ w28 ⟨k29, rfl, e30⟩
   obtain ⟨K31, S32, m33⟩ := Ent.mixed (l := []) (κ := K23) e30 5 rfl
   refine ⟨trivial, ?_⟩
   refine WO.pn 2 rfl ?_
   obtain rfl := Option.some.inj h
   exact WO.met _ trivial ⟨rfl, _, S32.wk rfl⟩ fun a ha => (ha.more (ha.more ha.nil rfl) rfl)
 rintro _ w35 _ ⟨rfl, K36, S37⟩
 have h := hK25
 refine WO.fin ?_
 refine DN.seq ?_
 revert h
 cases ht38 : p18 with
 | true =>
  intro h; replace h := cT h
  refine WC.ct rfl ?_
  refine WC.seq ?_
  refine WC.rs [(0, 2)] rfl ?_
  refine WO.pn 1 rfl ?_
  refine WO.fin ?_
  refine DN.seq ?_
  refine WC.ret ?_
  refine DN.retThen ?_
  have f39 := hE.stp (S3.tr (S9.tr (S24.tr S37))) rfl rfl
  refine DN.res (l := [.tmp 2]) Tryd.results12 (res_tmp rfl rfl) rfl ?_
  obtain rfl := Option.some.inj h
  exact ⟨K36, rfl, f39⟩
 | false =>
  intro h; replace h := cF h
  refine WC.cf rfl ?_
  refine WC.skip ?_
  refine DN.seq ?_
  refine WC.seq ?_
  obtain ⟨x19, hx19, h⟩ := Option.bind_eq_some_iff.mp h
  obtain ⟨x22, hx22, h⟩ := Option.bind_eq_some_iff.mp h
  obtain ⟨x24, hx24, h⟩ := Option.bind_eq_some_iff.mp h
  obtain ⟨x27, hx27, h⟩ := Option.bind_eq_some_iff.mp h
  obtain ⟨x28, hx28, h⟩ := Option.bind_eq_some_iff.mp h
  obtain ⟨x29, hx29, h⟩ := Option.bind_eq_some_iff.mp h
  obtain ⟨x32, hx32, h⟩ := Option.bind_eq_some_iff.mp h
  obtain ⟨x33, hx33, h⟩ := Option.bind_eq_some_iff.mp h
  refine WC.meet (fun L w' => ∃ (κ' : Col), L = [(2, .string x33)] ∧ Stp [] K36 w35 κ' w') ?_ ?_
  ·
   refine WC.rxt (κ := K36) [2] none (by kernel_rfl) fun w44 S45 => ?_
   refine WA.seg (fuel := 8) [(1, 2), (6, 2), (11, 2), (2, 0), (7, 0), (12, 0), (0, 1), (3, 2)] (by kernel_rfl) (by kernel_rfl) rfl ?_
   refine WO.k2 rfl rfl rfl rfl (rn_fieldAddr Tryd.runUnderlying25 rfl Tryd.sizeOf2 rfl rfl) ?_
   refine WO.k2 rfl rfl rfl rfl (rn_fieldAddr Tryd.runUnderlying25 rfl Tryd.sizeOf2 rfl rfl) ?_
   refine WO.k2 rfl rfl rfl rfl (rn_fieldAddr Tryd.runUnderlying25 rfl Tryd.sizeOf2 rfl rfl) ?_
   have f46 := f4.stp (S9.tr (S24.tr (S37.tr S45))) rfl rfl
   refine WO.k0 rfl rfl rfl rfl (rn_ld Tryd.isAgg2 rfl rfl (hvC (f46.ld 0 rfl rfl) rfl)) ?_
   refine WO.k0 rfl rfl rfl rfl (rn_ld Tryd.isAgg2 rfl rfl (hvC (f46.ld 1 rfl rfl) rfl)) ?_
   refine WO.k0 rfl rfl rfl rfl (rn_ld Tryd.isAgg2 rfl rfl (hvC (f46.ld 2 rfl rfl) rfl)) ?_
   refine WO.call rfl rfl rfl rfl rfl rfl Tryd.call38 (s_l32Words_ok (κ := fun b => mp [] 0 (K36 b)) hx19) ?_
   rintro _ w47 ⟨k48, a19_0, u19_0, rfl, e49, f50⟩
   obtain ⟨K51, S52, m53⟩ := Ent.mixed (l := []) (κ := K36) e49 5 rfl
   refine ⟨(S52.cl rfl), ?_⟩
   have f55 := f50.mx no_str m53 rfl (rfl : 5 + 2 = 7)
   refine WO.k2 rfl rfl rfl rfl (rn_index f55.rdc hx22 Tryd.runUnderlying57 Tryd.sizeOf9 rfl rfl rfl rfl) ?_
   refine WO.wa ?_
   refine WA.fork2 (fuel := 7) 4 8 (by kernel_rfl) rfl ?_ ?_
   ·
    refine WO.k1 (S52.cl rfl) rfl rfl rfl rfl (rn_ld Tryd.isAgg9 rfl rfl (hvE (f55.rdc.gStr hx22))) ?_
    refine WO.wa ?_
    refine WA.seg (fuel := 0) [(5, 2), (8, 1), (9, 2), (10, 2), (13, 1), (14, 2), (15, 2)] (by kernel_rfl) (by kernel_rfl) rfl ?_
    refine WO.k2 rfl rfl rfl rfl (rn_addS rfl rfl rfl hx24) ?_
    refine WO.call rfl rfl rfl rfl rfl rfl Tryd.call39 (s_l1Int_ok (κ := fun b => mp [] 0 (K51 b)) hx27) ?_
    rintro _ w56 ⟨k57, rfl, e58⟩
    obtain ⟨K59, S60, m61⟩ := Ent.mixed (l := []) (κ := K51) e58 8 rfl
    refine ⟨((S52.tr S60).cl rfl), ?_⟩
    refine WO.k2 rfl rfl rfl rfl (rn_addS rfl rfl rfl hx28) ?_
    refine WO.k2 rfl rfl rfl rfl (rn_addS rfl rfl rfl hx29) ?_
    refine WO.call rfl rfl rfl rfl rfl rfl Tryd.call39 (s_l1Int_ok (κ := fun b => mp [] 0 (K59 b)) hx32) ?_
    rintro _ w63 ⟨k64, rfl, e65⟩
    obtain ⟨K66, S67, m68⟩ := Ent.mixed (l := []) (κ := K59) e65 10 rfl
    refine ⟨((S52.tr (S60.tr S67)).cl rfl), ?_⟩
    refine WO.k2 rfl rfl rfl rfl (rn_addS rfl rfl rfl hx33) ?_
    refine WO.pn 1 rfl ?_
    refine WO.wa ?_
    refine WA.last [] (by kernel_rfl) (by kernel_rfl) rfl ?_
    refine WO.fin ?_
    exact DN.meet _ ⟨K66, rfl, (S45.tr (S52.tr (S60.tr S67))).wk rfl⟩ fun a ha => (ha.more ha.nil rfl)
   ·
    refine WO.call rfl rfl rfl rfl rfl rfl Tryd.call39 (s_l1Int_ok (κ := fun b => mp [] 0 (K51 b)) hx27) ?_
    rintro _ w70 ⟨k71, rfl, e72⟩
    obtain ⟨K73, S74, m75⟩ := Ent.mixed (l := []) (κ := K51) e72 8 rfl
    refine ⟨((S52.tr S74).cl rfl), ?_⟩
    refine WO.wa ?_
    refine WA.fork2 (fuel := 6) 4 13 (by kernel_rfl) rfl ?_ ?_
    ·
     have f77 := f55.stp S74 rfl rfl
     refine WO.k1 ((S52.tr S74).cl rfl) rfl rfl rfl rfl (rn_ld Tryd.isAgg9 rfl rfl (hvE (f77.rdc.gStr hx22))) ?_
     refine WO.wa ?_
     refine WA.seg (fuel := 0) [(5, 2), (9, 2), (10, 2), (13, 1), (14, 2), (15, 2)] (by kernel_rfl) (by kernel_rfl) rfl ?_
     refine WO.k2 rfl rfl rfl rfl (rn_addS rfl rfl rfl hx24) ?_
     refine WO.k2 rfl rfl rfl rfl (rn_addS rfl rfl rfl hx28) ?_
     refine WO.k2 rfl rfl rfl rfl (rn_addS rfl rfl rfl hx29) ?_
     refine WO.call rfl rfl rfl rfl rfl rfl Tryd.call39 (s_l1Int_ok (κ := fun b => mp [] 0 (K73 b)) hx32) ?_
     rintro _ w78 ⟨k79, rfl, e80⟩
     obtain ⟨K81, S82, m83⟩ := Ent.mixed (l := []) (κ := K73) e80 10 rfl
     refine ⟨((S52.tr (S74.tr S82)).cl rfl), ?_⟩
     refine WO.k2 rfl rfl rfl rfl (rn_addS rfl rfl rfl hx33) ?_
     refine WO.pn 1 rfl ?_
     refine WO.wa ?_
     refine WA.last [] (by kernel_rfl) (by kernel_rfl) rfl ?_
     refine WO.fin ?_
     exact DN.meet _ ⟨K81, rfl, (S45.tr (S52.tr (S74.tr S82))).wk rfl⟩ fun a ha => (ha.more ha.nil rfl)
    ·
     refine WO.call rfl rfl rfl rfl rfl rfl Tryd.call39 (s_l1Int_ok (κ := fun b => mp [] 0 (K73 b)) hx32) ?_
     rintro _ w85 ⟨k86, rfl, e87⟩
     obtain ⟨K88, S89, m90⟩ := Ent.mixed (l := []) (κ := K73) e87 10 rfl
     refine ⟨((S52.tr (S74.tr S89)).cl rfl), ?_⟩
     refine WO.wa ?_
     refine WA.seg (fuel := 0) [(4, 1), (5, 2), (9, 2), (10, 2), (14, 2), (15, 2)] (by kernel_rfl) (by kernel_rfl) rfl ?_
     have f92 := f55.stp (S74.tr S89) rfl rfl
     refine WO.k1 ((S52.tr (S74.tr S89)).cl rfl) rfl rfl rfl rfl (rn_ld Tryd.isAgg9 rfl rfl (hvE (f92.rdc.gStr hx22))) ?_
     refine WO.k2 rfl rfl rfl rfl (rn_addS rfl rfl rfl hx24) ?_
     refine WO.k2 rfl rfl rfl rfl (rn_addS rfl rfl rfl hx28) ?_
     refine WO.k2 rfl rfl rfl rfl (rn_addS rfl rfl rfl hx29) ?_
     refine WO.k2 rfl rfl rfl rfl (rn_addS rfl rfl rfl hx33) ?_
     refine WO.pn 1 rfl ?_
     refine WO.wa ?_
     refine WA.last [] (by kernel_rfl) (by kernel_rfl) rfl ?_
     refine WO.fin ?_
     exact DN.meet _ ⟨K88, rfl, (S45.tr (S52.tr (S74.tr S89))).wk rfl⟩ fun a ha => (ha.more ha.nil rfl)
  rintro _ w40 ⟨K41, rfl, S42⟩
  refine DN.seq ?_
  refine WC.ret ?_
  have f93 := hE.stp (S3.tr (S9.tr (S24.tr (S37.tr S42)))) rfl rfl
  refine DN.res (l := [.tmp 2]) Tryd.results12 (res_tmp rfl rfl) rfl ?_
  obtain rfl := Option.some.inj h
  exact ⟨K41, rfl, f93⟩

/- loop.example/g00869/spec.TextEdit -/
theorem s_TextEdit_ok {w : World} {κ : Col} {p0 : ByteArray}  {r : Edit × Bool} (h : s_TextEdit p0 = some r) : Ret Tryd.prog 21 [.string p0] w (fun v w' => ∃ (κ' : Col), v = .tuple #[.agg #[.int .i64 r.1.Kind, .int .i64 r.1.V, .int .i64 r.1.N], .bool r.2] ∧ Ent κ w κ' w') := by
 unfold s_TextEdit at h
 refine Ret.enter Tryd.func21 rfl Tryd.ntmps21 rfl ?_
 dsimp only [envOf]
 have hE := Ent.refl κ w
 refine WC.seq ?_
 refine WC.rs [(0, 1), (1, 2)] rfl ?_
 refine WO.alloc (κ := κ) 2 rfl rfl rfl rfl rfl Tryd.zeroValue25 rfl fun b2 w1 K2 S3 f4 => ⟨trivial, ?_⟩
 refine WO.pn 1 rfl ?_
 refine WO.fin ?_
 refine DN.seq ?_
 refine WC.seq ?_
 refine WC.seq ?_
 refine WC.rs [(0, 2), (1, 2), (2, 2)] rfl ?_
 refine WO.pn 1 rfl ?_
 refine WO.k2 rfl rfl rfl rfl (rn_lenS Tryd.runUnderlying9 rfl rfl) ?_
 refine WO.pn 1 rfl ?_
 refine WO.fin ?_
 refine DN.seq ?_
 revert h
 cases ht5 : decide (20 < (p0.size : Int)) with
 | true =>
  intro h; replace h := cT h
  refine WC.ct rfl ?_
  refine WC.seq ?_
  refine WC.rs [(0, 2), (1, 1), (2, 2)] rfl ?_
  refine WO.k2 rfl rfl rfl rfl (rn_build (parts := []) (cells := [.int .i64 0, .int .i64 0, .int .i64 0]) rfl rfl (by kernel_rfl)) ?_
  refine WO.stB0 (κ := K2) 2 (vc := [.int .i64 0, .int .i64 0, .int .i64 0]) rfl rfl rfl rfl rfl rfl rfl Tryd.sizeOf25 rfl rfl f4 rfl fun w6 S7 f8 => ⟨trivial, ?_⟩
  refine WO.pn 1 rfl ?_
  refine WO.fin ?_
  refine DN.seq ?_
  refine WC.ret ?_
  refine DN.retThen ?_
  have f9 := hE.stp (S3.tr S7) rfl rfl
  refine DN.res (l := [.cell 2 25, .tmp 3]) Tryd.results21 (res_cellA rfl f8 Tryd.isAgg25 Tryd.sizeOf25 rfl (res_tmp rfl rfl)) rfl ?_
  obtain rfl := Option.some.inj h
  exact ⟨K2, rfl, f9⟩
 | false =>
  intro h; replace h := cF h
  refine WC.cf rfl ?_
  refine WC.skip ?_
  refine DN.seq ?_
  refine WC.seq ?_
  refine WC.rs [(0, 2), (1, 1), (2, 2)] rfl ?_
  refine WO.pn 1 rfl ?_
  obtain ⟨x16, hx16, h⟩ := Option.bind_eq_some_iff.mp h
  refine WO.call rfl rfl rfl rfl rfl rfl Tryd.call51 (s_l1Split_ok (κ := fun b => mp [] 0 (K2 b)) hx16) ?_
  rintro _ w10 ⟨k11, a16_0, u16_0, rfl, e12, f13⟩
  obtain ⟨K14, S15, m16⟩ := Ent.mixed (l := []) (κ := K2) e12 3 rfl
  refine ⟨trivial, ?_⟩
  have f18 := f13.mx no_str m16 rfl (rfl : 3 + 2 = 5)
  refine WO.pn 1 rfl ?_
  refine WO.fin ?_
  refine DN.seq ?_
  refine WC.seq ?_
  refine WC.seq ?_
  refine WC.rs [(0, 2), (1, 2), (2, 2)] rfl ?_
  refine WO.pn 1 rfl ?_
  refine WO.k2 rfl rfl rfl rfl (rn_len Tryd.runUnderlying57 rfl rfl) ?_
  refine WO.pn 1 rfl ?_
  refine WO.fin ?_
  refine DN.seq ?_
  revert h
  cases ht19 : ((x16.length : Int) != 3) with
  | true =>
   intro h; replace h := cT h
   refine WC.ct rfl ?_
   refine WC.seq ?_
   refine WC.rs [(0, 2), (1, 1), (2, 2)] rfl ?_
   refine WO.k2 rfl rfl rfl rfl (rn_build (parts := []) (cells := [.int .i64 0, .int .i64 0, .int .i64 0]) rfl rfl (by kernel_rfl)) ?_
   have f20 := f4.stp S15 rfl rfl
   refine WO.stB0 (κ := K14) 2 (vc := [.int .i64 0, .int .i64 0, .int .i64 0]) rfl rfl rfl rfl rfl rfl rfl Tryd.sizeOf25 rfl rfl f20 rfl fun w21 S22 f23 => ⟨trivial, ?_⟩
   refine WO.pn 1 rfl ?_
   refine WO.fin ?_
   refine DN.seq ?_
   refine WC.ret ?_
   refine DN.retThen ?_
   have f24 := hE.stp (S3.tr (S15.tr S22)) rfl rfl
   refine DN.res (l := [.cell 2 25, .tmp 3]) Tryd.results21 (res_cellA rfl f23 Tryd.isAgg25 Tryd.sizeOf25 rfl (res_tmp rfl rfl)) rfl ?_
   obtain rfl := Option.some.inj h
   exact ⟨K14, rfl, f24⟩
  | false =>
   intro h; replace h := cF h
   refine WC.cf rfl ?_
   refine WC.skip ?_
   refine DN.seq ?_
   refine WC.seq ?_
   refine WC.rs [(0, 2), (1, 2), (2, 1), (3, 1), (4, 2), (5, 2), (6, 2), (7, 2), (8, 2)] rfl ?_
   refine WO.pn 1 rfl ?_
   obtain ⟨x23, hx23, h⟩ := Option.bind_eq_some_iff.mp h
   refine WO.k2 rfl rfl rfl rfl (rn_index f18.rdc hx23 Tryd.runUnderlying57 Tryd.sizeOf9 rfl rfl rfl rfl) ?_
   refine WO.k1 trivial rfl rfl rfl rfl (rn_ld Tryd.isAgg9 rfl rfl (hvE (f18.rdc.gStr hx23))) ?_
   obtain ⟨x25, hx25, h⟩ := Option.bind_eq_some_iff.mp h
   refine WO.call rfl rfl rfl rfl rfl rfl Tryd.call52 (s_l1Read_ok (κ := fun b => mp [] 0 (K14 b)) hx25) ?_
   rintro _ w25 ⟨k26, rfl, e27⟩
   obtain ⟨K28, S29, m30⟩ := Ent.mixed (l := []) (κ := K14) e27 6 rfl
   refine ⟨trivial, ?_⟩
   refine WO.pn 5 rfl ?_
   refine WO.fin ?_
   refine DN.seq ?_
   refine WC.seq ?_
   refine WC.rs [(0, 2), (1, 2), (2, 1), (3, 1), (4, 2), (5, 2), (6, 2), (7, 2), (8, 2)] rfl ?_
   refine WO.pn 1 rfl ?_
   obtain ⟨x30, hx30, h⟩ := Option.bind_eq_some_iff.mp h
   refine WO.k2 rfl rfl rfl rfl (rn_index f18.rdc hx30 Tryd.runUnderlying57 Tryd.sizeOf9 rfl rfl rfl rfl) ?_
   have f32 := f18.stp S29 rfl rfl
   refine WO.k1 trivial rfl rfl rfl rfl (rn_ld Tryd.isAgg9 rfl rfl (hvE (f32.rdc.gStr hx30))) ?_
   obtain ⟨x32, hx32, h⟩ := Option.bind_eq_some_iff.mp h
   refine WO.call rfl rfl rfl rfl rfl rfl Tryd.call52 (s_l1Read_ok (κ := fun b => mp [] 0 (K28 b)) hx32) ?_
   rintro _ w33 ⟨k34, rfl, e35⟩
   obtain ⟨K36, S37, m38⟩ := Ent.mixed (l := []) (κ := K28) e35 8 rfl
   refine ⟨trivial, ?_⟩
   refine WO.pn 5 rfl ?_
   refine WO.fin ?_
   refine DN.seq ?_
   refine WC.seq ?_
   refine WC.seq ?_
   refine WC.rs [(0, 2), (1, 2), (2, 2), (3, 2), (4, 2), (5, 2)] rfl ?_
   refine WO.pn 3 rfl ?_
   obtain ⟨p40, h, hK40⟩ := Option.bind_eq_some_iff.mp h
   refine WO.meet [(3, 2), (4, 2), (5, 2)] [] (fun L w' => L = [(0, .string p0), (2, .pointer (some ⟨b2, 0, none⟩)), (5, .int .i64 x25.1), (7, .int .i64 x32.1), (40, .bool p40)] ∧ ∃ κ', Stp [] K36 w33 κ' w') trivial ?_ ?_
   ·
    revert h
    cases ht41 : (!x25.2) with
    | true =>
     intro h; replace h := cT h
     refine WO.pn 3 rfl ?_
     obtain rfl := Option.some.inj h
     exact WO.met _ trivial ⟨rfl, _, (Stp.refl _ _).wk rfl⟩ fun a ha => (ha.more (ha.more (ha.more (ha.more (ha.more ha.nil rfl) rfl) rfl) rfl) rfl)
    | false =>
     intro h; replace h := cF h
     refine WO.pn 3 rfl ?_
     obtain rfl := Option.some.inj h
     exact WO.met _ trivial ⟨rfl, _, (Stp.refl _ _).wk rfl⟩ fun a ha => (ha.more (ha.more (ha.more (ha.more (ha.more ha.nil rfl) rfl) rfl) rfl) rfl)
   rintro _ w42 _ ⟨rfl, K43, S44⟩
   have h := hK40
   refine WO.fin ?_
   refine DN.seq ?_
   revert h
   cases ht45 : p40 with
   | true =>
    intro h; replace h := cT h
    refine WC.ct rfl ?_
    refine WC.seq ?_
    refine WC.rs [(0, 2), (1, 1), (2, 2)] rfl ?_
    refine WO.k2 rfl rfl rfl rfl (rn_build (parts := []) (cells := [.int .i64 0, .int .i64 0, .int .i64 0]) rfl rfl (by kernel_rfl)) ?_
    have f46 := f4.stp (S15.tr (S29.tr (S37.tr S44))) rfl rfl
    refine WO.stB0 (κ := K43) 2 (vc := [.int .i64 0, .int .i64 0, .int .i64 0]) rfl rfl rfl rfl rfl rfl rfl Tryd.sizeOf25 rfl rfl f46 rfl fun w47 S48 f49 => ⟨trivial, ?_⟩
    refine WO.pn 1 rfl ?_
    refine WO.fin ?_
    refine DN.seq ?_
    refine WC.ret ?_
    refine DN.retThen ?_
    have f50 := hE.stp (S3.tr (S15.tr (S29.tr (S37.tr (S44.tr S48))))) rfl rfl
    refine DN.res (l := [.cell 2 25, .tmp 3]) Tryd.results21 (res_cellA rfl f49 Tryd.isAgg25 Tryd.sizeOf25 rfl (res_tmp rfl rfl)) rfl ?_
    obtain rfl := Option.some.inj h
    exact ⟨K43, rfl, f50⟩
   | false =>
    intro h; replace h := cF h
    refine WC.cf rfl ?_
    refine WC.skip ?_
    refine DN.seq ?_
    refine WC.seq ?_
    refine WC.seq ?_
    refine WC.rs [(0, 2)] rfl ?_
    refine WO.pn 1 rfl ?_
    refine WO.fin ?_
    refine DN.seq ?_
    obtain ⟨q2, hq53, hK52⟩ := Option.bind_eq_some_iff.mp h
    clear h
    refine WC.meet (fun L w' => ∃ (κ' : Col) (s3 : Int), L = [(2, .pointer (some ⟨b2, 0, none⟩))] ∧ Stp [10] K43 w42 κ' w' ∧ q2 = Sum.inr s3) ?_ ?_
    ·
     refine WC.block ?_
     refine WC.loop (fun k L w' => ∃ (κ' : Col) (s1 : Int), L = [(0, .string p0), (2, .pointer (some ⟨b2, 0, none⟩)), (5, .int .i64 x25.1), (7, .int .i64 x32.1), (9, .int .i64 s1)] ∧ Stp [10] K43 w42 κ' w' ∧ whileM (s_TextEdit_b0 p0 x25 x32) k s1 = some q2) ⟨_, _, ⟨K43, (1 : Int), rfl, (Stp.refl _ _).wk rfl, hq53⟩, fun a ha => (ha.more (ha.more (ha.more (ha.more (ha.more ha.nil rfl) rfl) rfl) rfl) rfl)⟩ ?_
     rintro k _ w57 ⟨K58, s1, rfl, S59, h⟩
     rcases k with _ | k
     ·
      cases h
     ·
      obtain ⟨o51, h, hk60⟩ := Option.bind_eq_some_iff.mp h; unfold s_TextEdit_b0 at h
      refine WC.seq ?_
      refine WC.seq ?_
      refine WC.rs [(0, 2), (1, 2)] rfl ?_
      refine WO.pn 2 rfl ?_
      refine WO.fin ?_
      refine DN.seq ?_
      revert h
      cases ht61 : decide (s1 ≤ 4) with
      | true =>
       intro h; replace h := cT h
       refine WC.ct rfl ?_
       refine WC.skip ?_
       refine DN.seq ?_
       refine WC.seq ?_
       refine WC.block ?_
       refine WC.seq ?_
       refine WC.rs [(0, 2), (1, 2), (2, 2), (3, 2), (4, 1), (5, 1)] rfl ?_
       refine WO.pn 3 rfl ?_
       refine WO.k2 rfl rfl rfl rfl (rn_build (parts := [(0, .tmp 46), (1, .tmp 47), (2, .tmp 48)]) (cells := [.int .i64 s1, .int .i64 x25.1, .int .i64 x32.1]) rfl rfl (by kernel_rfl)) ?_
       refine WO.alloc (κ := K58) 10 rfl rfl rfl rfl rfl Tryd.zeroValue25 rfl fun b10 w62 K63 S64 f65 => ⟨trivial, ?_⟩
       refine WO.stB0 (κ := K63) 10 (vc := [.int .i64 s1, .int .i64 x25.1, .int .i64 x32.1]) rfl rfl rfl rfl rfl rfl rfl Tryd.sizeOf25 rfl rfl f65 rfl fun w66 S67 f68 => ⟨trivial, ?_⟩
       refine WO.fin ?_
       refine DN.seq ?_
       refine WC.seq ?_
       refine WC.rs [(0, 1), (1, 1), (2, 2), (3, 2), (4, 2), (5, 2), (6, 2), (7, 2)] rfl ?_
       refine WO.k1 trivial rfl rfl rfl rfl (rn_la (cs := [.int .i64 s1, .int .i64 x25.1, .int .i64 x32.1]) Tryd.isAgg25 Tryd.sizeOf25 rfl rfl rfl (haE f68.cells)) ?_
       obtain ⟨x51, hx51, h⟩ := Option.bind_eq_some_iff.mp h
       refine WO.call rfl rfl rfl rfl rfl rfl Tryd.call12 (s_EditText_ok (κ := fun b => mp [] 0 (K63 b)) (p0 := (⟨s1, x25.1, x32.1⟩ : Edit)) hx51) ?_
       rintro _ w69 ⟨k70, rfl, e71⟩
       obtain ⟨K72, S73, m74⟩ := Ent.mixed (l := []) (κ := K63) e71 11 rfl
       refine ⟨trivial, ?_⟩
       refine WO.pn 1 rfl ?_
       refine WO.k2 rfl rfl rfl rfl (rn_eqlSt rfl rfl rfl) ?_
       refine WO.pn 1 rfl ?_
       obtain ⟨p57, h, hK76⟩ := Option.bind_eq_some_iff.mp h
       refine WO.meet [(5, 2), (6, 2), (7, 2)] [] (fun L w' => L = [(0, .string p0), (2, .pointer (some ⟨b2, 0, none⟩)), (5, .int .i64 x25.1), (7, .int .i64 x32.1), (9, .int .i64 s1), (10, .pointer (some ⟨b10, 0, none⟩)), (57, .bool p57)] ∧ ∃ κ', Stp [] K72 w69 κ' w') trivial ?_ ?_
       ·
        revert h
        cases ht77 : (eqB x51 p0) with
        | true =>
         intro h; replace h := cT h
         refine WO.pn 1 rfl ?_
         refine WO.k2 rfl rfl rfl rfl (rn_neqSt rfl rfl rfl) ?_
         refine WO.pn 1 rfl ?_
         obtain rfl := Option.some.inj h
         exact WO.met _ trivial ⟨rfl, _, (Stp.refl _ _).wk rfl⟩ fun a ha => (ha.more (ha.more (ha.more (ha.more (ha.more (ha.more (ha.more ha.nil rfl) rfl) rfl) rfl) rfl) rfl) rfl)
        | false =>
         intro h; replace h := cF h
         refine WO.pn 3 rfl ?_
         obtain rfl := Option.some.inj h
         exact WO.met _ trivial ⟨rfl, _, (Stp.refl _ _).wk rfl⟩ fun a ha => (ha.more (ha.more (ha.more (ha.more (ha.more (ha.more (ha.more ha.nil rfl) rfl) rfl) rfl) rfl) rfl) rfl)
       rintro _ w78 _ ⟨rfl, K79, S80⟩
       have h := hK76
       refine WO.fin ?_
       refine DN.seq ?_
       revert h
       cases ht81 : p57 with
       | true =>
        intro h; replace h := cT h
        refine WC.ct rfl ?_
        refine WC.seq ?_
        refine WC.rs [(0, 1), (1, 1), (2, 2)] rfl ?_
        have f82 := f68.stp (S73.tr S80) rfl rfl
        refine WO.k1 trivial rfl rfl rfl rfl (rn_la (cs := [.int .i64 s1, .int .i64 x25.1, .int .i64 x32.1]) Tryd.isAgg25 Tryd.sizeOf25 rfl rfl rfl (haE f82.cells)) ?_
        have f83 := f4.stp (S15.tr (S29.tr (S37.tr (S44.tr (S59.tr (S64.tr (S67.tr (S73.tr S80)))))))) rfl rfl
        refine WO.stB0 (κ := K79) 2 (vc := [.int .i64 s1, .int .i64 x25.1, .int .i64 x32.1]) rfl rfl rfl rfl rfl rfl rfl Tryd.sizeOf25 rfl rfl f83 rfl fun w84 S85 f86 => ⟨trivial, ?_⟩
        refine WO.pn 1 rfl ?_
        refine WO.fin ?_
        refine DN.seq ?_
        refine WC.ret ?_
        refine DN.retBlock ?_
        refine DN.retThen ?_
        refine DN.retThen ?_
        obtain rfl := Option.some.inj h
        obtain rfl := Option.some.inj hk60
        have h := hK52
        dsimp only [aft] at h
        refine DN.retBlock ?_
        refine DN.retMeet ?_
        refine DN.retThen ?_
        have f87 := hE.stp (S3.tr (S15.tr (S29.tr (S37.tr (S44.tr (S59.tr (S64.tr (S67.tr (S73.tr (S80.tr S85)))))))))) rfl rfl
        refine DN.res (l := [.cell 2 25, .tmp 3]) Tryd.results21 (res_cellA rfl f86 Tryd.isAgg25 Tryd.sizeOf25 rfl (res_tmp rfl rfl)) rfl ?_
        obtain rfl := Option.some.inj h
        exact ⟨K79, rfl, f87⟩
       | false =>
        intro h; replace h := cF h
        refine WC.cf rfl ?_
        refine WC.skip ?_
        refine DN.block ?_
        refine DN.seq ?_
        refine WC.rs [(0, 2), (1, 2), (2, 2)] rfl ?_
        refine WO.pn 3 rfl ?_
        refine WO.fin ?_
        obtain rfl := Option.some.inj h
        refine DN.round fun a ha => ?_
        exact ⟨k, _, Nat.lt_succ_self _, ⟨K79, ((IntKind.i64.wrap (s1 + 1)) : Int), rfl, (S59.tr (S64.tr (S67.tr (S73.tr S80)))).wk rfl, hk60⟩, (ha.more (ha.more (ha.more (ha.more (ha.more ha.nil rfl) rfl) rfl) rfl) rfl)⟩
      | false =>
       intro h; replace h := cF h
       refine WC.cf rfl ?_
       refine WC.exit ?_
       refine DN.exitThen ?_
       refine DN.exitThen ?_
       obtain rfl := Option.some.inj h
       have h := hk60
       refine DN.hit ?_
       obtain rfl := Option.some.inj h
       exact DN.meet _ ⟨K58, (s1 : Int), rfl, S59.wk rfl, rfl⟩ fun a ha => (ha.more ha.nil rfl)
    rintro _ w54 ⟨K55, s3, rfl, S56, rfl⟩
    have h := hK52
    dsimp only [aft] at h
    refine DN.seq ?_
    refine WC.seq ?_
    refine WC.rs [(0, 2), (1, 1), (2, 2)] rfl ?_
    refine WO.k2 rfl rfl rfl rfl (rn_build (parts := []) (cells := [.int .i64 0, .int .i64 0, .int .i64 0]) rfl rfl (by kernel_rfl)) ?_
    have f88 := f4.stp (S15.tr (S29.tr (S37.tr (S44.tr S56)))) rfl rfl
    refine WO.stB0 (κ := K55) 2 (vc := [.int .i64 0, .int .i64 0, .int .i64 0]) rfl rfl rfl rfl rfl rfl rfl Tryd.sizeOf25 rfl rfl f88 rfl fun w89 S90 f91 => ⟨trivial, ?_⟩
    refine WO.pn 1 rfl ?_
    refine WO.fin ?_
    refine DN.seq ?_
    refine WC.ret ?_
    have f92 := hE.stp (S3.tr (S15.tr (S29.tr (S37.tr (S44.tr (S56.tr S90)))))) rfl rfl
    refine DN.res (l := [.cell 2 25, .tmp 3]) Tryd.results21 (res_cellA rfl f91 Tryd.isAgg25 Tryd.sizeOf25 rfl (res_tmp rfl rfl)) rfl ?_
    obtain rfl := Option.some.inj h
    exact ⟨K55, rfl, f92⟩

/- strings.Split -/
theorem strings_Split_ok {w : World} {κ : Col} {p0 p1 : ByteArray} (gGM : Vm 1 κ w) {r : (List ByteArray)} (h : strings_Split p0 p1 = some r) : Ret Tryd.prog 40 [.string p0, .string p1] w (fun v w' => ∃ (κ' : Col) (ra0 : Option Addr) (ru0 : Nat), v = .slice ra0 r.length ru0 ∧ Ent κ w κ' w' ∧ Oc Ep.str 9 κ' w' 2 ra0 ru0 r) := split_ok Tryd.strings_Split gGM h


/- slices.Index[[]string,string] -/
theorem slices_Index_string_string_ok {w : World} {κ : Col} {a0 : Option Addr} {u0 : Nat} {p0 : (List ByteArray)} {p1 : ByteArray} (g0 : Rd Rp.str κ w 0 a0 u0 p0) {r : Int} (h : slices_Index_string_string p0 p1 = some r) : Ret Tryd.prog 41 [.slice a0 p0.length u0, .string p1] w (fun v w' => ∃ (κ' : Col), v = .int .i64 r ∧ Ent κ w κ' w') := by
 unfold slices_Index_string_string at h
 refine Ret.enter Tryd.func41 rfl Tryd.ntmps41 rfl ?_
 dsimp only [envOf]
 have hE := Ent.refl κ w
 refine WC.seq ?_
 refine WC.rs [(0, 2)] rfl ?_
 refine WO.pn 1 rfl ?_
 refine WO.fin ?_
 refine DN.seq ?_
 refine WC.seq ?_
 refine WC.seq ?_
 refine WC.rs [(0, 2), (1, 2), (2, 2)] rfl ?_
 refine WO.pn 1 rfl ?_
 refine WO.k2 rfl rfl rfl rfl (rn_len Tryd.runUnderlying57 rfl rfl) ?_
 refine WO.pn 1 rfl ?_
 refine WO.fin ?_
 refine DN.seq ?_
 have hN1 : (p0.length : Int) ≤ 9223372036854775807 := g0.len_le
 obtain ⟨q2, hq3, hK2⟩ := Option.bind_eq_some_iff.mp h
 clear h
 refine WC.meet (fun L w' => ∃ (κ' : Col), L = [] ∧ Stp [] κ w κ' w' ∧ q2 = Sum.inr ()) ?_ ?_
 ·
  refine WC.block ?_
  refine WC.loop (fun k L w' => ∃ (κ' : Col) (v8 : Int), L = [(0, .slice a0 p0.length u0), (1, .string p1), (7, .int .i64 (p0.length : Int)), (8, .int .i64 v8)] ∧ Stp [] κ w κ' w' ∧ 0 ≤ v8 ∧ Int.toNat ((p0.length : Int) - v8) = k ∧ cntM (slices_Index_string_string_b0 p0 p1) k v8 () = some q2) ⟨_, _, ⟨κ, 0, rfl, (Stp.refl _ _).wk rfl, (by decide), (by simp), hq3⟩, fun a ha => (ha.more (ha.more (ha.more (ha.more ha.nil rfl) rfl) rfl) rfl)⟩ ?_
  rintro k _ w7 ⟨K8, v8, rfl, S9, hj1, hJ1, h⟩
  rcases k with _ | k
  ·
   have hk10 := h; obtain ⟨o1, h⟩ := ex_eq (Sum.inr (Sum.inl ()) : Int ⊕ ((Unit) ⊕ (Unit)))
   have hc1 : decide (v8 < (p0.length : Int)) = false := decide_eq_false (by omega)
   refine WC.seq ?_
   refine WC.rs [(0, 2)] rfl ?_
   refine WO.pn 1 rfl ?_
   refine WO.fin ?_
   refine DN.seq ?_
   refine WC.seq ?_
   refine WC.cf' rfl hc1 ?_
   refine WC.exit ?_
   refine DN.exitThen ?_
   refine DN.exitThen ?_
   obtain rfl := Option.some.inj h
   have h := hk10
   refine DN.hit ?_
   obtain rfl := Option.some.inj h
   exact DN.meet _ ⟨K8, rfl, S9.wk rfl, rfl⟩ fun a ha => ha.nil
  ·
   obtain ⟨o1, h, hk10⟩ := Option.bind_eq_some_iff.mp h; unfold slices_Index_string_string_b0 at h
   have hc1 : decide (v8 < (p0.length : Int)) = true := decide_eq_true (by omega)
   refine WC.seq ?_
   refine WC.rs [(0, 2)] rfl ?_
   refine WO.pn 1 rfl ?_
   refine WO.fin ?_
   refine DN.seq ?_
   refine WC.seq ?_
   refine WC.ct' rfl hc1 ?_
   refine WC.skip ?_
   refine DN.seq ?_
   refine WC.seq ?_
   refine WC.block ?_
   refine WC.seq ?_
   refine WC.rs [(0, 2), (1, 2)] rfl ?_
   refine WO.pn 2 rfl ?_
   refine WO.fin ?_
   refine DN.seq ?_
   refine WC.seq ?_
   refine WC.rs [(0, 2), (1, 2), (2, 2), (3, 2), (4, 1), (5, 2)] rfl ?_
   refine WO.pn 3 rfl ?_
   obtain ⟨x14, hx14, h⟩ := Option.bind_eq_some_iff.mp h
   refine WO.k2 rfl rfl rfl rfl (rn_index g0 hx14 Tryd.runUnderlying57 Tryd.sizeOf9 rfl rfl rfl rfl) ?_
   have f11 := g0.stp S9 rfl rfl
   refine WO.k1 trivial rfl rfl rfl rfl (rn_ld Tryd.isAgg9 rfl rfl (hvE (f11.gStr hx14))) ?_
   refine WO.k2 rfl rfl rfl rfl (rn_eqlSt rfl rfl rfl) ?_
   refine WO.fin ?_
   refine DN.seq ?_
   revert h
   cases ht12 : (eqB p1 x14) with
   | true =>
    intro h; replace h := cT h
    refine WC.ct rfl ?_
    refine WC.seq ?_
    refine WC.rs [(0, 2), (1, 2)] rfl ?_
    refine WO.pn 2 rfl ?_
    refine WO.fin ?_
    refine DN.seq ?_
    refine WC.ret ?_
    refine DN.retBlock ?_
    refine DN.retThen ?_
    refine DN.retThen ?_
    obtain rfl := Option.some.inj h
    obtain rfl := Option.some.inj hk10
    have h := hK2
    dsimp only [aft] at h
    refine DN.retBlock ?_
    refine DN.retMeet ?_
    refine DN.retThen ?_
    have f13 := hE.stp S9 rfl rfl
    refine DN.res (l := [.tmp 4]) Tryd.results41 (res_tmp rfl rfl) rfl ?_
    obtain rfl := Option.some.inj h
    exact ⟨K8, rfl, f13⟩
   | false =>
    intro h; replace h := cF h
    refine WC.cf rfl ?_
    refine WC.skip ?_
    refine DN.block ?_
    refine DN.seq ?_
    refine WC.rs [(0, 2), (1, 2)] rfl ?_
    refine WO.pn 2 rfl ?_
    refine WO.fin ?_
    have hw1 : IntKind.wrap .i64 (v8 + 1) = v8 + 1 := wr1 hj1 (of_decide_eq_true hc1) hN1
    rw [hw1]
    have hc1 := of_decide_eq_true hc1
    obtain rfl := Option.some.inj h
    refine DN.round fun a ha => ?_
    exact ⟨k, _, Nat.lt_succ_self _, ⟨K8, v8 + 1, rfl, S9.wk rfl, by omega, by omega, hk10⟩, (ha.more (ha.more (ha.more (ha.more ha.nil rfl) rfl) rfl) rfl)⟩
 rintro _ w4 ⟨K5, rfl, S6, rfl⟩
 have h := hK2
 dsimp only [aft] at h
 refine DN.seq ?_
 refine WC.seq ?_
 refine WC.rs [(0, 2)] rfl ?_
 refine WO.pn 1 rfl ?_
 refine WO.fin ?_
 refine DN.seq ?_
 refine WC.ret ?_
 have f14 := hE.stp S6 rfl rfl
 refine DN.res (l := [.tmp 4]) Tryd.results41 (res_tmp rfl rfl) rfl ?_
 obtain rfl := Option.some.inj h
 exact ⟨K5, rfl, f14⟩

/- loop.example/g00869/impl.readNumber -/
theorem i_readNumber_ok {w : World} {κ : Col} {p0 : ByteArray} {p1 : Int}  {r : Int × Bool} (h : i_readNumber p0 p1 = some r) : Ret Tryd.prog 42 [.string p0, .int .i64 p1] w (fun v w' => ∃ (κ' : Col), v = .tuple #[.int .i64 r.1, .bool r.2] ∧ Ent κ w κ' w') := by
 unfold i_readNumber at h
 refine Ret.enter Tryd.func42 rfl Tryd.ntmps42 rfl ?_
 dsimp only [envOf]
 have hE := Ent.refl κ w
 refine WC.seq ?_
 refine WC.rs [(0, 2), (1, 2)] rfl ?_
 refine WO.pn 2 rfl ?_
 refine WO.fin ?_
 refine DN.seq ?_
 refine WC.seq ?_
 refine WC.seq ?_
 refine WC.rs [(0, 2), (1, 2), (2, 2), (3, 2), (4, 2), (5, 2), (6, 2), (7, 2), (8, 2), (9, 2), (10, 2), (11, 2), (12, 2), (13, 2), (14, 2), (15, 2), (16, 2)] rfl ?_
 refine WO.pn 1 rfl ?_
 refine WO.k2 rfl rfl rfl rfl (rn_eqlSt rfl rfl rfl) ?_
 refine WO.pn 1 rfl ?_
 obtain ⟨p14, h, hK1⟩ := Option.bind_eq_some_iff.mp h
 refine WO.meet [(3, 2), (4, 2), (5, 2), (6, 2)] [(7, 2), (8, 2), (9, 2), (10, 2), (11, 2), (12, 2), (13, 2), (14, 2), (15, 2), (16, 2)] (fun L w' => L = [(0, .string p0), (1, .int .i64 p1), (14, .bool p14)] ∧ ∃ κ', Stp [] κ w κ' w') trivial ?_ ?_
 ·
  revert h
  cases ht2 : (eqB p0 (ByteArray.mk #[])) with
  | true =>
   intro h; replace h := cT h
   refine WO.pn 4 rfl ?_
   obtain rfl := Option.some.inj h
   exact WO.met _ trivial ⟨rfl, _, (Stp.refl _ _).wk rfl⟩ fun a ha => (ha.more (ha.more (ha.more ha.nil rfl) rfl) rfl)
  | false =>
   intro h; replace h := cF h
   refine WO.pn 1 rfl ?_
   refine WO.k2 rfl rfl rfl rfl (rn_lenS Tryd.runUnderlying9 rfl rfl) ?_
   refine WO.pn 2 rfl ?_
   obtain rfl := Option.some.inj h
   exact WO.met _ trivial ⟨rfl, _, (Stp.refl _ _).wk rfl⟩ fun a ha => (ha.more (ha.more (ha.more ha.nil rfl) rfl) rfl)
 rintro _ w3 _ ⟨rfl, K4, S5⟩
 have h := hK1
 refine WO.pn 1 rfl ?_
 obtain ⟨p24, h, hK6⟩ := Option.bind_eq_some_iff.mp h
 refine WO.meet [(8, 2), (9, 2), (10, 2), (11, 2), (12, 2), (13, 2), (14, 2), (15, 2), (16, 2)] [] (fun L w' => L = [(0, .string p0), (1, .int .i64 p1), (24, .bool p24)] ∧ ∃ κ', Stp [] K4 w3 κ' w') trivial ?_ ?_
 ·
  revert h
  cases ht7 : p14 with
  | true =>
   intro h; replace h := cT h
   refine WO.pn 9 rfl ?_
   obtain rfl := Option.some.inj h
   exact WO.met _ trivial ⟨rfl, _, (Stp.refl _ _).wk rfl⟩ fun a ha => (ha.more (ha.more (ha.more ha.nil rfl) rfl) rfl)
  | false =>
   intro h; replace h := cF h
   refine WO.pn 1 rfl ?_
   obtain ⟨x17, hx17, h⟩ := Option.bind_eq_some_iff.mp h
   refine WO.k2 rfl rfl rfl rfl (rn_indexSt Tryd.runUnderlying9 hx17 rfl rfl rfl) ?_
   refine WO.pn 2 rfl ?_
   obtain ⟨p23, h, hK8⟩ := Option.bind_eq_some_iff.mp h
   refine WO.meet [(12, 2), (13, 2), (14, 2), (15, 2)] [(16, 2)] (fun L w' => L = [(0, .string p0), (1, .int .i64 p1), (15, .bool false), (23, .bool p23)] ∧ ∃ κ', Stp [] K4 w3 κ' w') trivial ?_ ?_
   ·
    revert h
    cases ht9 : (x17 == 48) with
    | true =>
     intro h; replace h := cT h
     refine WO.pn 1 rfl ?_
     refine WO.k2 rfl rfl rfl rfl (rn_lenS Tryd.runUnderlying9 rfl rfl) ?_
     refine WO.pn 2 rfl ?_
     obtain rfl := Option.some.inj h
     exact WO.met _ trivial ⟨rfl, _, (Stp.refl _ _).wk rfl⟩ fun a ha => (ha.more (ha.more (ha.more (ha.more ha.nil rfl) rfl) rfl) rfl)
    | false =>
     intro h; replace h := cF h
     refine WO.pn 4 rfl ?_
     obtain rfl := Option.some.inj h
     exact WO.met _ trivial ⟨rfl, _, (Stp.refl _ _).wk rfl⟩ fun a ha => (ha.more (ha.more (ha.more (ha.more ha.nil rfl) rfl) rfl) rfl)
   rintro _ w10 _ ⟨rfl, K11, S12⟩
   have h := hK8
   refine WO.pn 1 rfl ?_
   obtain rfl := Option.some.inj h
   exact WO.met _ trivial ⟨rfl, _, S12.wk rfl⟩ fun a ha => (ha.more (ha.more (ha.more ha.nil rfl) rfl) rfl)
 rintro _ w13 _ ⟨rfl, K14, S15⟩
 have h := hK6
 refine WO.fin ?_
 refine DN.seq ?_
 revert h
 cases ht16 : p24 with
 | true =>
  intro h; replace h := cT h
  refine WC.ct rfl ?_
  refine WC.seq ?_
  refine WC.rs [(0, 2), (1, 2)] rfl ?_
  refine WO.pn 2 rfl ?_
  refine WO.fin ?_
  refine DN.seq ?_
  refine WC.ret ?_
  refine DN.retThen ?_
  have f17 := hE.stp (S5.tr S15) rfl rfl
  refine DN.res (l := [.tmp 4, .tmp 5]) Tryd.results42 (res_tmp rfl (res_tmp rfl rfl)) rfl ?_
  obtain rfl := Option.some.inj h
  exact ⟨K14, rfl, f17⟩
 | false =>
  intro h; replace h := cF h
  refine WC.cf rfl ?_
  refine WC.skip ?_
  refine DN.seq ?_
  refine WC.seq ?_
  refine WC.rs [(0, 2)] rfl ?_
  refine WO.pn 1 rfl ?_
  refine WO.fin ?_
  refine DN.seq ?_
  refine WC.seq ?_
  refine WC.seq ?_
  refine WC.rs [(0, 2)] rfl ?_
  refine WO.pn 1 rfl ?_
  refine WO.fin ?_
  refine DN.seq ?_
  obtain ⟨_, hr18, h⟩ := Option.bind_eq_some_iff.mp h
  have hN18 := rng_ok hr18
  obtain ⟨q2, hq20, hK19⟩ := Option.bind_eq_some_iff.mp h
  clear h
  refine WC.meet (fun L w' => ∃ (κ' : Col) (s3 : Int), L = [(1, .int .i64 p1), (6, .int .i64 s3)] ∧ Stp [] K14 w13 κ' w' ∧ q2 = Sum.inr s3) ?_ ?_
  ·
   refine WC.block ?_
   refine WC.loop (fun k L w' => ∃ (κ' : Col) (v7 : Int) (s1 : Int), L = [(0, .string p0), (1, .int .i64 p1), (6, .int .i64 s1), (7, .int .i64 v7)] ∧ Stp [] K14 w13 κ' w' ∧ 0 ≤ v7 ∧ Int.toNat ((p0.size : Int) - v7) = k ∧ cntM (i_readNumber_b0 p0) k v7 s1 = some q2) ⟨_, _, ⟨K14, 0, (0 : Int), rfl, (Stp.refl _ _).wk rfl, (by decide), (by simp), hq20⟩, fun a ha => (ha.more (ha.more (ha.more (ha.more ha.nil rfl) rfl) rfl) rfl)⟩ ?_
   rintro k _ w24 ⟨K25, v7, s1, rfl, S26, hj18, hJ18, h⟩
   rcases k with _ | k
   ·
    have hk27 := h; obtain ⟨o18, h⟩ := ex_eq (Sum.inr (Sum.inl s1) : (Int × Bool) ⊕ ((Int) ⊕ (Int)))
    have hc18 : decide (v7 < (p0.size : Int)) = false := decide_eq_false (by omega)
    refine WC.seq ?_
    refine WC.seq ?_
    refine WC.rs [(0, 2), (1, 2), (2, 2), (3, 2)] rfl ?_
    refine WO.pn 2 rfl ?_
    refine WO.k2 rfl rfl rfl rfl (rn_lenS Tryd.runUnderlying9 rfl rfl) ?_
    refine WO.pn 1 rfl ?_
    refine WO.fin ?_
    refine DN.seq ?_
    refine WC.cf' rfl hc18 ?_
    refine WC.exit ?_
    refine DN.exitThen ?_
    refine DN.exitThen ?_
    obtain rfl := Option.some.inj h
    have h := hk27
    refine DN.hit ?_
    obtain rfl := Option.some.inj h
    exact DN.meet _ ⟨K25, (s1 : Int), rfl, S26.wk rfl, rfl⟩ fun a ha => (ha.more (ha.more ha.nil rfl) rfl)
   ·
    obtain ⟨o18, h, hk27⟩ := Option.bind_eq_some_iff.mp h; unfold i_readNumber_b0 at h
    have hc18 : decide (v7 < (p0.size : Int)) = true := decide_eq_true (by omega)
    refine WC.seq ?_
    refine WC.seq ?_
    refine WC.rs [(0, 2), (1, 2), (2, 2), (3, 2)] rfl ?_
    refine WO.pn 2 rfl ?_
    refine WO.k2 rfl rfl rfl rfl (rn_lenS Tryd.runUnderlying9 rfl rfl) ?_
    refine WO.pn 1 rfl ?_
    refine WO.fin ?_
    refine DN.seq ?_
    refine WC.ct' rfl hc18 ?_
    refine WC.skip ?_
    refine DN.seq ?_
    refine WC.seq ?_
    refine WC.block ?_
    refine WC.seq ?_
    refine WC.seq ?_
    refine WC.rs [(0, 2), (1, 2), (2, 2), (3, 2), (4, 2), (5, 2), (6, 2), (7, 2), (8, 2), (9, 2)] rfl ?_
    refine WO.pn 2 rfl ?_
    obtain ⟨x33, hx33, h⟩ := Option.bind_eq_some_iff.mp h
    refine WO.k2 rfl rfl rfl rfl (rn_indexSt Tryd.runUnderlying9 hx33 rfl rfl rfl) ?_
    refine WO.pn 2 rfl ?_
    obtain ⟨p40, h, hK28⟩ := Option.bind_eq_some_iff.mp h
    refine WO.meet [(5, 2), (6, 2), (7, 2), (8, 2), (9, 2)] [] (fun L w' => L = [(0, .string p0), (1, .int .i64 p1), (6, .int .i64 s1), (7, .int .i64 v7), (40, .bool p40)] ∧ ∃ κ', Stp [] K25 w24 κ' w') trivial ?_ ?_
    ·
     revert h
     cases ht29 : decide (x33 < 48) with
     | true =>
      intro h; replace h := cT h
      refine WO.pn 5 rfl ?_
      obtain rfl := Option.some.inj h
      exact WO.met _ trivial ⟨rfl, _, (Stp.refl _ _).wk rfl⟩ fun a ha => (ha.more (ha.more (ha.more (ha.more (ha.more ha.nil rfl) rfl) rfl) rfl) rfl)
     | false =>
      intro h; replace h := cF h
      refine WO.pn 2 rfl ?_
      obtain ⟨x38, hx38, h⟩ := Option.bind_eq_some_iff.mp h
      refine WO.k2 rfl rfl rfl rfl (rn_indexSt Tryd.runUnderlying9 hx38 rfl rfl rfl) ?_
      refine WO.pn 2 rfl ?_
      obtain rfl := Option.some.inj h
      exact WO.met _ trivial ⟨rfl, _, (Stp.refl _ _).wk rfl⟩ fun a ha => (ha.more (ha.more (ha.more (ha.more (ha.more ha.nil rfl) rfl) rfl) rfl) rfl)
    rintro _ w30 _ ⟨rfl, K31, S32⟩
    have h := hK28
    refine WO.fin ?_
    refine DN.seq ?_
    revert h
    cases ht33 : p40 with
    | true =>
     intro h; replace h := cT h
     refine WC.ct rfl ?_
     refine WC.seq ?_
     refine WC.rs [(0, 2), (1, 2)] rfl ?_
     refine WO.pn 2 rfl ?_
     refine WO.fin ?_
     refine DN.seq ?_
     refine WC.ret ?_
     refine DN.retThen ?_
     refine DN.retBlock ?_
     refine DN.retThen ?_
     refine DN.retThen ?_
     obtain rfl := Option.some.inj h
     obtain rfl := Option.some.inj hk27
     have h := hK19
     dsimp only [aft] at h
     refine DN.retBlock ?_
     refine DN.retMeet ?_
     refine DN.retThen ?_
     have f34 := hE.stp (S5.tr (S15.tr (S26.tr S32))) rfl rfl
     refine DN.res (l := [.tmp 4, .tmp 5]) Tryd.results42 (res_tmp rfl (res_tmp rfl rfl)) rfl ?_
     obtain rfl := Option.some.inj h
     exact ⟨K31, rfl, f34⟩
    | false =>
     intro h; replace h := cF h
     refine WC.cf rfl ?_
     refine WC.skip ?_
     refine DN.seq ?_
     refine WC.rs [(0, 2), (1, 2), (2, 2), (3, 2), (4, 2), (5, 2), (6, 2), (7, 2), (8, 2)] rfl ?_
     refine WO.pn 4 rfl ?_
     obtain ⟨x45, hx45, h⟩ := Option.bind_eq_some_iff.mp h
     refine WO.k2 rfl rfl rfl rfl (rn_indexSt Tryd.runUnderlying9 hx45 rfl rfl rfl) ?_
     refine WO.pn 1 rfl ?_
     refine WO.k2 rfl rfl rfl rfl (rn_conv Tryd.runUnderlying5 Tryd.runUnderlying2 rfl rfl) ?_
     refine WO.pn 2 rfl ?_
     refine WO.fin ?_
     refine DN.block ?_
     refine DN.seq ?_
     refine WC.rs [(0, 2), (1, 2), (2, 2)] rfl ?_
     refine WO.pn 3 rfl ?_
     refine WO.fin ?_
     have hw18 : IntKind.wrap .i64 (v7 + 1) = v7 + 1 := wr1 hj18 (of_decide_eq_true hc18) hN18
     rw [hw18]
     have hc18 := of_decide_eq_true hc18
     obtain rfl := Option.some.inj h
     refine DN.round fun a ha => ?_
     exact ⟨k, _, Nat.lt_succ_self _, ⟨K31, v7 + 1, ((IntKind.i64.wrap ((IntKind.i64.wrap (10 * s1)) + (IntKind.i64.wrap (IntKind.u8.wrap (x45 - 48))))) : Int), rfl, (S26.tr S32).wk rfl, by omega, by omega, hk27⟩, (ha.more (ha.more (ha.more (ha.more ha.nil rfl) rfl) rfl) rfl)⟩
  rintro _ w21 ⟨K22, s3, rfl, S23, rfl⟩
  have h := hK19
  dsimp only [aft] at h
  refine DN.seq ?_
  refine WC.seq ?_
  refine WC.rs [(0, 2), (1, 2), (2, 2), (3, 2), (4, 2), (5, 2)] rfl ?_
  refine WO.pn 6 rfl ?_
  refine WO.fin ?_
  refine DN.seq ?_
  refine WC.ret ?_
  have f35 := hE.stp (S5.tr (S15.tr S23)) rfl rfl
  refine DN.res (l := [.tmp 4, .tmp 5]) Tryd.results42 (res_tmp rfl (res_tmp rfl rfl)) rfl ?_
  obtain rfl := Option.some.inj h
  exact ⟨K22, rfl, f35⟩

/- loop.example/g00869/impl.TextEdit -/
theorem i_TextEdit_ok {w : World} {κ : Col} {p0 : ByteArray} (gGE0 : Rd Rp.str κ w 0 (some ⟨0, 0, none⟩) 4 namesE0) (gGM : Vm 1 κ w) {r : Edit × Bool} (h : i_TextEdit p0 = some r) : Ret Tryd.prog 13 [.string p0] w (fun v w' => ∃ (κ' : Col), v = .tuple #[.agg #[.int .i64 r.1.Kind, .int .i64 r.1.V, .int .i64 r.1.N], .bool r.2] ∧ Ent κ w κ' w') := by
 unfold i_TextEdit at h
 refine Ret.enter Tryd.func13 rfl Tryd.ntmps13 rfl ?_
 dsimp only [envOf]
 have hE := Ent.refl κ w
 refine WC.seq ?_
 refine WC.rs [(0, 1), (1, 2)] rfl ?_
 refine WO.alloc (κ := κ) 2 rfl rfl rfl rfl rfl Tryd.zeroValue25 rfl fun b2 w1 K2 S3 f4 => ⟨trivial, ?_⟩
 refine WO.pn 1 rfl ?_
 refine WO.fin ?_
 refine DN.seq ?_
 refine WC.seq ?_
 refine WC.rs [(0, 2), (1, 1), (2, 2)] rfl ?_
 refine WO.pn 1 rfl ?_
 obtain ⟨x11, hx11, h⟩ := Option.bind_eq_some_iff.mp h
 have f5 := gGM.stp S3 rfl rfl
 refine WO.call rfl rfl rfl rfl rfl rfl Tryd.call40 (strings_Split_ok (κ := fun b => mp [] 0 (K2 b)) (f5.map (mp [] 0) rfl rfl) hx11) ?_
 rintro _ w6 ⟨k7, a11_0, u11_0, rfl, e8, f9⟩
 obtain ⟨K10, S11, m12⟩ := Ent.mixed (l := []) (κ := K2) e8 3 rfl
 refine ⟨trivial, ?_⟩
 have f14 := f9.mx no_str m12 rfl (rfl : 3 + 2 = 5)
 refine WO.pn 1 rfl ?_
 refine WO.fin ?_
 refine DN.seq ?_
 refine WC.seq ?_
 refine WC.rx (κ := K10) [0, 5] none [(0, 2), (1, 2), (2, 2), (3, 0), (4, 1), (5, 2)] [] (by kernel_rfl) (by kernel_rfl) fun w16 S15 => ?_
 refine WO.k2 rfl rfl rfl rfl (rn_sliceG Tryd.runUnderlying71 Tryd.sizeOf9 rfl rfl) ?_
 refine WO.pn 1 rfl ?_
 obtain ⟨x14, hx14, h⟩ := Option.bind_eq_some_iff.mp h
 refine WO.k2 rfl rfl rfl rfl (rn_index f14.rdc hx14 Tryd.runUnderlying57 Tryd.sizeOf9 rfl rfl rfl rfl) ?_
 have f17 := f14.stp S15 rfl rfl
 refine WO.k0 rfl rfl rfl rfl (rn_ld Tryd.isAgg9 rfl rfl (hvC (f17.rdc.gStr hx14) rfl)) ?_
 obtain ⟨x16, hx16, h⟩ := Option.bind_eq_some_iff.mp h
 have f18 := gGE0.stp (S3.tr (S11.tr S15)) rfl rfl
 refine WO.call rfl rfl rfl rfl rfl rfl Tryd.call41 (slices_Index_string_string_ok (κ := fun b => mp [] 0 (K10 b)) (Sl.map f18 (mp [] 0) rfl rfl) hx16) ?_
 rintro _ w19 ⟨k20, rfl, e21⟩
 obtain ⟨K22, S23, m24⟩ := Ent.mixed (l := []) (κ := K10) e21 6 rfl
 refine ⟨(S23.cl rfl), ?_⟩
 refine WO.pn 1 rfl ?_
 refine WO.nx ?_
 refine WO.fin ?_
 refine DN.seq ?_
 refine WC.seq ?_
 refine WC.seq ?_
 refine WC.rs [(0, 2), (1, 2), (2, 2), (3, 2), (4, 2), (5, 2), (6, 2)] rfl ?_
 refine WO.pn 3 rfl ?_
 obtain ⟨p23, h, hK26⟩ := Option.bind_eq_some_iff.mp h
 refine WO.meet [(3, 2), (4, 2), (5, 2), (6, 2)] [] (fun L w' => L = [(2, .pointer (some ⟨b2, 0, none⟩)), (4, .slice a11_0 x11.length u11_0), (5, .int .i64 x16), (23, .bool p23)] ∧ ∃ κ', Stp [] K22 w19 κ' w') trivial ?_ ?_
 ·
  revert h
  cases ht27 : decide (x16 < 0) with
  | true =>
   intro h; replace h := cT h
   refine WO.pn 4 rfl ?_
   obtain rfl := Option.some.inj h
   exact WO.met _ trivial ⟨rfl, _, (Stp.refl _ _).wk rfl⟩ fun a ha => (ha.more (ha.more (ha.more (ha.more ha.nil rfl) rfl) rfl) rfl)
  | false =>
   intro h; replace h := cF h
   refine WO.pn 1 rfl ?_
   refine WO.k2 rfl rfl rfl rfl (rn_len Tryd.runUnderlying57 rfl rfl) ?_
   refine WO.pn 2 rfl ?_
   obtain rfl := Option.some.inj h
   exact WO.met _ trivial ⟨rfl, _, (Stp.refl _ _).wk rfl⟩ fun a ha => (ha.more (ha.more (ha.more (ha.more ha.nil rfl) rfl) rfl) rfl)
 rintro _ w28 _ ⟨rfl, K29, S30⟩
 have h := hK26
 refine WO.fin ?_
 refine DN.seq ?_
 revert h
 cases ht31 : p23 with
 | true =>
  intro h; replace h := cT h
  refine WC.ct rfl ?_
  refine WC.seq ?_
  refine WC.rs [(0, 2), (1, 1), (2, 2)] rfl ?_
  refine WO.k2 rfl rfl rfl rfl (rn_build (parts := []) (cells := [.int .i64 0, .int .i64 0, .int .i64 0]) rfl rfl (by kernel_rfl)) ?_
  have f32 := f4.stp (S11.tr (S15.tr (S23.tr S30))) rfl rfl
  refine WO.stB0 (κ := K29) 2 (vc := [.int .i64 0, .int .i64 0, .int .i64 0]) rfl rfl rfl rfl rfl rfl rfl Tryd.sizeOf25 rfl rfl f32 rfl fun w33 S34 f35 => ⟨trivial, ?_⟩
  refine WO.pn 1 rfl ?_
  refine WO.fin ?_
  refine DN.seq ?_
  refine WC.ret ?_
  refine DN.retThen ?_
  have f36 := hE.stp (S3.tr (S11.tr (S15.tr (S23.tr (S30.tr S34))))) rfl rfl
  refine DN.res (l := [.cell 2 25, .tmp 3]) Tryd.results13 (res_cellA rfl f35 Tryd.isAgg25 Tryd.sizeOf25 rfl (res_tmp rfl rfl)) rfl ?_
  obtain rfl := Option.some.inj h
  exact ⟨K29, rfl, f36⟩
 | false =>
  intro h; replace h := cF h
  refine WC.cf rfl ?_
  refine WC.skip ?_
  refine DN.seq ?_
  refine WC.seq ?_
  refine WC.rs [(0, 2), (1, 2), (2, 1), (3, 1), (4, 2), (5, 2), (6, 2), (7, 2), (8, 2)] rfl ?_
  refine WO.pn 1 rfl ?_
  obtain ⟨x27, hx27, h⟩ := Option.bind_eq_some_iff.mp h
  refine WO.k2 rfl rfl rfl rfl (rn_index f17.rdc hx27 Tryd.runUnderlying57 Tryd.sizeOf9 rfl rfl rfl rfl) ?_
  have f37 := f17.stp (S23.tr S30) rfl rfl
  refine WO.k1 trivial rfl rfl rfl rfl (rn_ld Tryd.isAgg9 rfl rfl (hvE (f37.rdc.gStr hx27))) ?_
  obtain ⟨x29, hx29, h⟩ := Option.bind_eq_some_iff.mp h
  refine WO.call rfl rfl rfl rfl rfl rfl Tryd.call42 (i_readNumber_ok (κ := fun b => mp [] 0 (K29 b)) hx29) ?_
  rintro _ w38 ⟨k39, rfl, e40⟩
  obtain ⟨K41, S42, m43⟩ := Ent.mixed (l := []) (κ := K29) e40 8 rfl
  refine ⟨trivial, ?_⟩
  refine WO.pn 5 rfl ?_
  refine WO.fin ?_
  refine DN.seq ?_
  refine WC.seq ?_
  refine WC.rs [(0, 2), (1, 2), (2, 1), (3, 1), (4, 2), (5, 2), (6, 2), (7, 2), (8, 2)] rfl ?_
  refine WO.pn 1 rfl ?_
  obtain ⟨x34, hx34, h⟩ := Option.bind_eq_some_iff.mp h
  refine WO.k2 rfl rfl rfl rfl (rn_index f37.rdc hx34 Tryd.runUnderlying57 Tryd.sizeOf9 rfl rfl rfl rfl) ?_
  have f45 := f37.stp S42 rfl rfl
  refine WO.k1 trivial rfl rfl rfl rfl (rn_ld Tryd.isAgg9 rfl rfl (hvE (f45.rdc.gStr hx34))) ?_
  obtain ⟨x36, hx36, h⟩ := Option.bind_eq_some_iff.mp h
  refine WO.call rfl rfl rfl rfl rfl rfl Tryd.call42 (i_readNumber_ok (κ := fun b => mp [] 0 (K41 b)) hx36) ?_
  rintro _ w46 ⟨k47, rfl, e48⟩
  obtain ⟨K49, S50, m51⟩ := Ent.mixed (l := []) (κ := K41) e48 10 rfl
  refine ⟨trivial, ?_⟩
  refine WO.pn 5 rfl ?_
  refine WO.fin ?_
  refine DN.seq ?_
  refine WC.seq ?_
  refine WC.seq ?_
  refine WC.rs [(0, 2), (1, 2), (2, 2), (3, 2), (4, 2), (5, 2)] rfl ?_
  refine WO.pn 3 rfl ?_
  obtain ⟨p44, h, hK53⟩ := Option.bind_eq_some_iff.mp h
  refine WO.meet [(3, 2), (4, 2), (5, 2)] [] (fun L w' => L = [(2, .pointer (some ⟨b2, 0, none⟩)), (5, .int .i64 x16), (6, .int .i64 x29.1), (8, .int .i64 x36.1), (44, .bool p44)] ∧ ∃ κ', Stp [] K49 w46 κ' w') trivial ?_ ?_
  ·
   revert h
   cases ht54 : (!x29.2) with
   | true =>
    intro h; replace h := cT h
    refine WO.pn 3 rfl ?_
    obtain rfl := Option.some.inj h
    exact WO.met _ trivial ⟨rfl, _, (Stp.refl _ _).wk rfl⟩ fun a ha => (ha.more (ha.more (ha.more (ha.more (ha.more ha.nil rfl) rfl) rfl) rfl) rfl)
   | false =>
    intro h; replace h := cF h
    refine WO.pn 3 rfl ?_
    obtain rfl := Option.some.inj h
    exact WO.met _ trivial ⟨rfl, _, (Stp.refl _ _).wk rfl⟩ fun a ha => (ha.more (ha.more (ha.more (ha.more (ha.more ha.nil rfl) rfl) rfl) rfl) rfl)
  rintro _ w55 _ ⟨rfl, K56, S57⟩
  have h := hK53
  refine WO.fin ?_
  refine DN.seq ?_
  revert h
  cases ht58 : p44 with
  | true =>
   intro h; replace h := cT h
   refine WC.ct rfl ?_
   refine WC.seq ?_
   refine WC.rs [(0, 2), (1, 1), (2, 2)] rfl ?_
   refine WO.k2 rfl rfl rfl rfl (rn_build (parts := []) (cells := [.int .i64 0, .int .i64 0, .int .i64 0]) rfl rfl (by kernel_rfl)) ?_
   have f59 := f4.stp (S11.tr (S15.tr (S23.tr (S30.tr (S42.tr (S50.tr S57)))))) rfl rfl
   refine WO.stB0 (κ := K56) 2 (vc := [.int .i64 0, .int .i64 0, .int .i64 0]) rfl rfl rfl rfl rfl rfl rfl Tryd.sizeOf25 rfl rfl f59 rfl fun w60 S61 f62 => ⟨trivial, ?_⟩
   refine WO.pn 1 rfl ?_
   refine WO.fin ?_
   refine DN.seq ?_
   refine WC.ret ?_
   refine DN.retThen ?_
   have f63 := hE.stp (S3.tr (S11.tr (S15.tr (S23.tr (S30.tr (S42.tr (S50.tr (S57.tr S61)))))))) rfl rfl
   refine DN.res (l := [.cell 2 25, .tmp 3]) Tryd.results13 (res_cellA rfl f62 Tryd.isAgg25 Tryd.sizeOf25 rfl (res_tmp rfl rfl)) rfl ?_
   obtain rfl := Option.some.inj h
   exact ⟨K56, rfl, f63⟩
  | false =>
   intro h; replace h := cF h
   refine WC.cf rfl ?_
   refine WC.skip ?_
   refine DN.seq ?_
   refine WC.seq ?_
   refine WC.rs [(0, 2), (1, 2), (2, 2), (3, 2), (4, 2), (5, 1), (6, 2)] rfl ?_
   refine WO.pn 4 rfl ?_
   refine WO.k2 rfl rfl rfl rfl (rn_build (parts := [(0, .tmp 47), (1, .tmp 48), (2, .tmp 49)]) (cells := [.int .i64 (IntKind.i64.wrap (x16 + 1)), .int .i64 x29.1, .int .i64 x36.1]) rfl rfl (by kernel_rfl)) ?_
   have f64 := f4.stp (S11.tr (S15.tr (S23.tr (S30.tr (S42.tr (S50.tr S57)))))) rfl rfl
   refine WO.stB0 (κ := K56) 2 (vc := [.int .i64 (IntKind.i64.wrap (x16 + 1)), .int .i64 x29.1, .int .i64 x36.1]) rfl rfl rfl rfl rfl rfl rfl Tryd.sizeOf25 rfl rfl f64 rfl fun w65 S66 f67 => ⟨trivial, ?_⟩
   refine WO.pn 1 rfl ?_
   refine WO.fin ?_
   refine DN.seq ?_
   refine WC.ret ?_
   have f68 := hE.stp (S3.tr (S11.tr (S15.tr (S23.tr (S30.tr (S42.tr (S50.tr (S57.tr S66)))))))) rfl rfl
   refine DN.res (l := [.cell 2 25, .tmp 3]) Tryd.results13 (res_cellA rfl f67 Tryd.isAgg25 Tryd.sizeOf25 rfl (res_tmp rfl rfl)) rfl ?_
   obtain rfl := Option.some.inj h
   exact ⟨K56, rfl, f68⟩

/- loop.example/g00869/laws.eqEdit -/
theorem l_eqEdit_ok {w : World} {κ : Col} {p0 : Edit} {p1 : Edit}  {r : Bool} (h : l_eqEdit p0 p1 = some r) : Ret Tryd.prog 22 [.agg #[.int .i64 p0.Kind, .int .i64 p0.V, .int .i64 p0.N], .agg #[.int .i64 p1.Kind, .int .i64 p1.V, .int .i64 p1.N]] w (fun v w' => ∃ (κ' : Col), v = .bool r ∧ Ent κ w κ' w') := by
 unfold l_eqEdit at h
 refine Ret.enter Tryd.func22 rfl Tryd.ntmps22 rfl ?_
 dsimp only [envOf]
 have hE := Ent.refl κ w
 refine WC.seq ?_
 refine WC.rs [(0, 1), (1, 1), (2, 2)] rfl ?_
 refine WO.box (κ := κ) 2 rfl rfl rfl rfl rfl rfl rfl fun b2 w1 K2 S3 f4 => ⟨trivial, ?_⟩
 refine WO.box (κ := K2) 3 rfl rfl rfl rfl rfl rfl rfl fun b3 w5 K6 S7 f8 => ⟨trivial, ?_⟩
 refine WO.pn 1 rfl ?_
 refine WO.fin ?_
 refine DN.seq ?_
 refine WC.seq ?_
 refine WC.seq ?_
 refine WC.rs [(0, 2), (1, 1), (2, 2), (3, 1), (4, 2)] rfl ?_
 refine WO.k2 rfl rfl rfl rfl (rn_fieldAddr Tryd.runUnderlying25 rfl Tryd.sizeOf2 rfl rfl) ?_
 have f9 := f4.stp S7 rfl rfl
 refine WO.k1 trivial rfl rfl rfl rfl (rn_ld Tryd.isAgg2 rfl rfl (hvE (f9.ld 0 rfl rfl))) ?_
 refine WO.k2 rfl rfl rfl rfl (rn_fieldAddr Tryd.runUnderlying25 rfl Tryd.sizeOf2 rfl rfl) ?_
 refine WO.k1 trivial rfl rfl rfl rfl (rn_ld Tryd.isAgg2 rfl rfl (hvE (f8.ld 0 rfl rfl))) ?_
 refine WO.pn 1 rfl ?_
 refine WO.fin ?_
 refine DN.seq ?_
 revert h
 cases ht10 : (p0.Kind != p1.Kind) with
 | true =>
  intro h; replace h := cT h
  refine WC.ct rfl ?_
  refine WC.seq ?_
  refine WC.rs [(0, 2)] rfl ?_
  refine WO.pn 1 rfl ?_
  refine WO.fin ?_
  refine DN.seq ?_
  refine WC.ret ?_
  refine DN.retThen ?_
  have f11 := hE.stp (S3.tr S7) rfl rfl
  refine DN.res (l := [.tmp 4]) Tryd.results22 (res_tmp rfl rfl) rfl ?_
  obtain rfl := Option.some.inj h
  exact ⟨K6, rfl, f11⟩
 | false =>
  intro h; replace h := cF h
  refine WC.cf rfl ?_
  refine WC.skip ?_
  refine DN.seq ?_
  refine WC.seq ?_
  refine WC.seq ?_
  refine WC.rs [(0, 2), (1, 1), (2, 2), (3, 1), (4, 2)] rfl ?_
  refine WO.k2 rfl rfl rfl rfl (rn_fieldAddr Tryd.runUnderlying25 rfl Tryd.sizeOf2 rfl rfl) ?_
  refine WO.k1 trivial rfl rfl rfl rfl (rn_ld Tryd.isAgg2 rfl rfl (hvE (f9.ld 1 rfl rfl))) ?_
  refine WO.k2 rfl rfl rfl rfl (rn_fieldAddr Tryd.runUnderlying25 rfl Tryd.sizeOf2 rfl rfl) ?_
  refine WO.k1 trivial rfl rfl rfl rfl (rn_ld Tryd.isAgg2 rfl rfl (hvE (f8.ld 1 rfl rfl))) ?_
  refine WO.pn 1 rfl ?_
  refine WO.fin ?_
  refine DN.seq ?_
  revert h
  cases ht12 : (p0.V != p1.V) with
  | true =>
   intro h; replace h := cT h
   refine WC.ct rfl ?_
   refine WC.seq ?_
   refine WC.rs [(0, 2)] rfl ?_
   refine WO.pn 1 rfl ?_
   refine WO.fin ?_
   refine DN.seq ?_
   refine WC.ret ?_
   refine DN.retThen ?_
   have f13 := hE.stp (S3.tr S7) rfl rfl
   refine DN.res (l := [.tmp 4]) Tryd.results22 (res_tmp rfl rfl) rfl ?_
   obtain rfl := Option.some.inj h
   exact ⟨K6, rfl, f13⟩
  | false =>
   intro h; replace h := cF h
   refine WC.cf rfl ?_
   refine WC.skip ?_
   refine DN.seq ?_
   refine WC.seq ?_
   refine WC.seq ?_
   refine WC.rs [(0, 2), (1, 1), (2, 2), (3, 1), (4, 2)] rfl ?_
   refine WO.k2 rfl rfl rfl rfl (rn_fieldAddr Tryd.runUnderlying25 rfl Tryd.sizeOf2 rfl rfl) ?_
   refine WO.k1 trivial rfl rfl rfl rfl (rn_ld Tryd.isAgg2 rfl rfl (hvE (f9.ld 2 rfl rfl))) ?_
   refine WO.k2 rfl rfl rfl rfl (rn_fieldAddr Tryd.runUnderlying25 rfl Tryd.sizeOf2 rfl rfl) ?_
   refine WO.k1 trivial rfl rfl rfl rfl (rn_ld Tryd.isAgg2 rfl rfl (hvE (f8.ld 2 rfl rfl))) ?_
   refine WO.pn 1 rfl ?_
   refine WO.fin ?_
   refine DN.seq ?_
   revert h
   cases ht14 : (p0.N != p1.N) with
   | true =>
    intro h; replace h := cT h
    refine WC.ct rfl ?_
    refine WC.seq ?_
    refine WC.rs [(0, 2)] rfl ?_
    refine WO.pn 1 rfl ?_
    refine WO.fin ?_
    refine DN.seq ?_
    refine WC.ret ?_
    refine DN.retThen ?_
    have f15 := hE.stp (S3.tr S7) rfl rfl
    refine DN.res (l := [.tmp 4]) Tryd.results22 (res_tmp rfl rfl) rfl ?_
    obtain rfl := Option.some.inj h
    exact ⟨K6, rfl, f15⟩
   | false =>
    intro h; replace h := cF h
    refine WC.cf rfl ?_
    refine WC.skip ?_
    refine DN.seq ?_
    refine WC.seq ?_
    refine WC.rs [(0, 2)] rfl ?_
    refine WO.pn 1 rfl ?_
    refine WO.fin ?_
    refine DN.seq ?_
    refine WC.ret ?_
    have f16 := hE.stp (S3.tr S7) rfl rfl
    refine DN.res (l := [.tmp 4]) Tryd.results22 (res_tmp rfl rfl) rfl ?_
    obtain rfl := Option.some.inj h
    exact ⟨K6, rfl, f16⟩

/- loop.example/g00869/laws.FnExactTextEdit -/
theorem l_FnExactTextEdit_ok {w : World} {κ : Col} {p0 : ByteArray} (gGE0 : Rd Rp.str κ w 0 (some ⟨0, 0, none⟩) 4 namesE0) (gGM : Vm 1 κ w) {r : Bool} (h : l_FnExactTextEdit p0 = some r) : Ret Tryd.prog 6 [.string p0] w (fun v w' => ∃ (κ' : Col), v = .bool r ∧ Ent κ w κ' w') := by
 unfold l_FnExactTextEdit at h
 refine Ret.enter Tryd.func6 rfl Tryd.ntmps6 rfl ?_
 dsimp only [envOf]
 have hE := Ent.refl κ w
 refine WC.seq ?_
 refine WC.rs [(0, 2)] rfl ?_
 refine WO.pn 1 rfl ?_
 refine WO.fin ?_
 refine DN.seq ?_
 refine WC.seq ?_
 refine WC.seq ?_
 refine WC.rs [(0, 2), (1, 2), (2, 2)] rfl ?_
 refine WO.pn 1 rfl ?_
 refine WO.k2 rfl rfl rfl rfl (rn_lenS Tryd.runUnderlying9 rfl rfl) ?_
 refine WO.pn 1 rfl ?_
 refine WO.fin ?_
 refine DN.seq ?_
 revert h
 cases ht1 : decide (1048576 < (p0.size : Int)) with
 | true =>
  intro h; replace h := cT h
  refine WC.ct rfl ?_
  refine WC.seq ?_
  refine WC.rs [(0, 2)] rfl ?_
  refine WO.pn 1 rfl ?_
  refine WO.fin ?_
  refine DN.seq ?_
  refine WC.ret ?_
  refine DN.retThen ?_
  refine DN.res (l := [.tmp 2]) Tryd.results6 (res_tmp rfl rfl) rfl ?_
  obtain rfl := Option.some.inj h
  exact ⟨κ, rfl, hE⟩
 | false =>
  intro h; replace h := cF h
  refine WC.cf rfl ?_
  refine WC.skip ?_
  refine DN.seq ?_
  refine WC.seq ?_
  refine WC.rs [(0, 2), (1, 1), (2, 2), (3, 2), (4, 2), (5, 1), (6, 1), (7, 2)] rfl ?_
  refine WO.pn 1 rfl ?_
  obtain ⟨x12, hx12, h⟩ := Option.bind_eq_some_iff.mp h
  refine WO.call rfl rfl rfl rfl rfl rfl Tryd.call21 (s_TextEdit_ok (κ := fun b => mp [] 0 (κ b)) hx12) ?_
  rintro _ w2 ⟨k3, rfl, e4⟩
  obtain ⟨K5, S6, m7⟩ := Ent.mixed (l := []) (κ := κ) e4 2 rfl
  refine ⟨trivial, ?_⟩
  refine WO.pn 3 rfl ?_
  refine WO.alloc (κ := K5) 4 rfl rfl rfl rfl rfl Tryd.zeroValue25 rfl fun b3 w9 K10 S11 f12 => ⟨trivial, ?_⟩
  refine WO.stB0 (κ := K10) 4 (vc := [.int .i64 x12.1.Kind, .int .i64 x12.1.V, .int .i64 x12.1.N]) rfl rfl rfl rfl rfl rfl rfl Tryd.sizeOf25 rfl rfl f12 rfl fun w13 S14 f15 => ⟨trivial, ?_⟩
  refine WO.pn 1 rfl ?_
  refine WO.fin ?_
  refine DN.seq ?_
  refine WC.seq ?_
  refine WC.rs [(0, 2), (1, 1), (2, 2), (3, 2), (4, 2), (5, 1), (6, 1), (7, 2)] rfl ?_
  refine WO.pn 1 rfl ?_
  obtain ⟨x17, hx17, h⟩ := Option.bind_eq_some_iff.mp h
  have f16 := gGE0.stp (S6.tr (S11.tr S14)) rfl rfl
  have f17 := gGM.stp (S6.tr (S11.tr S14)) rfl rfl
  refine WO.call rfl rfl rfl rfl rfl rfl Tryd.call13 (i_TextEdit_ok (κ := fun b => mp [] 0 (K10 b)) (f16.map (mp [] 0) rfl rfl) (f17.map (mp [] 0) rfl rfl) hx17) ?_
  rintro _ w18 ⟨k19, rfl, e20⟩
  obtain ⟨K21, S22, m23⟩ := Ent.mixed (l := []) (κ := K10) e20 5 rfl
  refine ⟨trivial, ?_⟩
  refine WO.pn 3 rfl ?_
  refine WO.alloc (κ := K21) 7 rfl rfl rfl rfl rfl Tryd.zeroValue25 rfl fun b5 w25 K26 S27 f28 => ⟨trivial, ?_⟩
  refine WO.stB0 (κ := K26) 7 (vc := [.int .i64 x17.1.Kind, .int .i64 x17.1.V, .int .i64 x17.1.N]) rfl rfl rfl rfl rfl rfl rfl Tryd.sizeOf25 rfl rfl f28 rfl fun w29 S30 f31 => ⟨trivial, ?_⟩
  refine WO.pn 1 rfl ?_
  refine WO.fin ?_
  refine DN.seq ?_
  refine WC.seq ?_
  refine WC.seq ?_
  refine WC.rs [(0, 1), (1, 1), (2, 1), (3, 2), (4, 2), (5, 2), (6, 2), (7, 2), (8, 2)] rfl ?_
  refine WO.k1 trivial rfl rfl rfl rfl (rn_la (cs := [.int .i64 x17.1.Kind, .int .i64 x17.1.V, .int .i64 x17.1.N]) Tryd.isAgg25 Tryd.sizeOf25 rfl rfl rfl (haE f31.cells)) ?_
  have f32 := f15.stp (S22.tr (S27.tr S30)) rfl rfl
  refine WO.k1 trivial rfl rfl rfl rfl (rn_la (cs := [.int .i64 x12.1.Kind, .int .i64 x12.1.V, .int .i64 x12.1.N]) Tryd.isAgg25 Tryd.sizeOf25 rfl rfl rfl (haE f32.cells)) ?_
  obtain ⟨x22, hx22, h⟩ := Option.bind_eq_some_iff.mp h
  refine WO.call rfl rfl rfl rfl rfl rfl Tryd.call22 (l_eqEdit_ok (κ := fun b => mp [] 0 (K26 b)) (p0 := x17.1) (p1 := x12.1) hx22) ?_
  rintro _ w33 ⟨k34, rfl, e35⟩
  obtain ⟨K36, S37, m38⟩ := Ent.mixed (l := []) (κ := K26) e35 8 rfl
  refine ⟨trivial, ?_⟩
  refine WO.pn 2 rfl ?_
  obtain ⟨p28, h, hK40⟩ := Option.bind_eq_some_iff.mp h
  refine WO.meet [(5, 2), (6, 2), (7, 2), (8, 2)] [] (fun L w' => L = [(28, .bool p28)] ∧ ∃ κ', Stp [] K36 w33 κ' w') trivial ?_ ?_
  ·
   revert h
   cases ht41 : (!x22) with
   | true =>
    intro h; replace h := cT h
    refine WO.pn 4 rfl ?_
    obtain rfl := Option.some.inj h
    exact WO.met _ trivial ⟨rfl, _, (Stp.refl _ _).wk rfl⟩ fun a ha => (ha.more ha.nil rfl)
   | false =>
    intro h; replace h := cF h
    refine WO.pn 2 rfl ?_
    refine WO.k2 rfl rfl rfl rfl (rn_neqB rfl rfl Tryd.runUnderlying4 rfl) ?_
    refine WO.pn 1 rfl ?_
    obtain rfl := Option.some.inj h
    exact WO.met _ trivial ⟨rfl, _, (Stp.refl _ _).wk rfl⟩ fun a ha => (ha.more ha.nil rfl)
  rintro _ w42 _ ⟨rfl, K43, S44⟩
  have h := hK40
  refine WO.fin ?_
  refine DN.seq ?_
  revert h
  cases ht45 : p28 with
  | true =>
   intro h; replace h := cT h
   refine WC.ct rfl ?_
   refine WC.seq ?_
   refine WC.rs [(0, 2)] rfl ?_
   refine WO.pn 1 rfl ?_
   refine WO.fin ?_
   refine DN.seq ?_
   refine WC.ret ?_
   refine DN.retThen ?_
   have f46 := hE.stp (S6.tr (S11.tr (S14.tr (S22.tr (S27.tr (S30.tr (S37.tr S44))))))) rfl rfl
   refine DN.res (l := [.tmp 2]) Tryd.results6 (res_tmp rfl rfl) rfl ?_
   obtain rfl := Option.some.inj h
   exact ⟨K43, rfl, f46⟩
  | false =>
   intro h; replace h := cF h
   refine WC.cf rfl ?_
   refine WC.skip ?_
   refine DN.seq ?_
   refine WC.seq ?_
   refine WC.rs [(0, 2)] rfl ?_
   refine WO.pn 1 rfl ?_
   refine WO.fin ?_
   refine DN.seq ?_
   refine WC.ret ?_
   have f47 := hE.stp (S6.tr (S11.tr (S14.tr (S22.tr (S27.tr (S30.tr (S37.tr S44))))))) rfl rfl
   refine DN.res (l := [.tmp 2]) Tryd.results6 (res_tmp rfl rfl) rfl ?_
   obtain rfl := Option.some.inj h
   exact ⟨K43, rfl, f47⟩

/- strconv.FormatInt -/
theorem strconv_FormatInt_ok {w : World} {κ : Col} {p0 p1 : Int} (gGT : Tb Tryd.prog "internal/strconv.uint64pow10" .u64 Lib.pow10Tab κ w) {r : ByteArray} (h : strconv_FormatInt p0 p1 = some r) : Ret Tryd.prog 62 [.int .i64 p0, .int .i64 p1] w (fun v w' => ∃ (κ' : Col), v = .string r ∧ Ent κ w κ' w') := fmt_ok Tryd.strconv_FormatInt_10 gGT h


/- loop.example/g00869/impl.decimal -/
theorem i_decimal_ok {w : World} {κ : Col} {p0 : Int} (gGT : Tb Tryd.prog "internal/strconv.uint64pow10" .u64 Lib.pow10Tab κ w) {r : ByteArray} (h : i_decimal p0 = some r) : Ret Tryd.prog 36 [.int .i64 p0] w (fun v w' => ∃ (κ' : Col), v = .string r ∧ Ent κ w κ' w') := by
 unfold i_decimal at h
 refine Ret.enter Tryd.func36 rfl Tryd.ntmps36 rfl ?_
 dsimp only [envOf]
 have hE := Ent.refl κ w
 refine WC.seq ?_
 refine WC.rs [(0, 2)] rfl ?_
 refine WO.pn 1 rfl ?_
 refine WO.fin ?_
 refine DN.seq ?_
 refine WC.seq ?_
 refine WC.rs [(0, 2), (1, 1), (2, 2)] rfl ?_
 refine WO.pn 1 rfl ?_
 obtain ⟨x4, hx4, h⟩ := Option.bind_eq_some_iff.mp h
 refine WO.call rfl rfl rfl rfl rfl rfl Tryd.call62 (strconv_FormatInt_ok (κ := fun b => mp [] 0 (κ b)) (gGT.map (mp [] 0) rfl rfl) hx4) ?_
 rintro _ w1 ⟨k2, rfl, e3⟩
 obtain ⟨K4, S5, m6⟩ := Ent.mixed (l := []) (κ := κ) e3 2 rfl
 refine ⟨trivial, ?_⟩
 refine WO.pn 1 rfl ?_
 refine WO.fin ?_
 refine DN.seq ?_
 refine WC.ret ?_
 have f8 := hE.stp S5 rfl rfl
 refine DN.res (l := [.tmp 2]) Tryd.results36 (res_tmp rfl rfl) rfl ?_
 obtain rfl := Option.some.inj h
 exact ⟨K4, rfl, f8⟩

/- loop.example/g00869/impl.EditText -/
theorem i_EditText_ok {w : World} {κ : Col} {p0 : Edit} (gGE0 : Rd Rp.str κ w 0 (some ⟨0, 0, none⟩) 4 namesE0) (gGT : Tb Tryd.prog "internal/strconv.uint64pow10" .u64 Lib.pow10Tab κ w) {r : ByteArray} (h : i_EditText p0 = some r) : Ret Tryd.prog 11 [.agg #[.int .i64 p0.Kind, .int .i64 p0.V, .int .i64 p0.N]] w (fun v w' => ∃ (κ' : Col), v = .string r ∧ Ent κ w κ' w') := by
 unfold i_EditText at h
 refine Ret.enter Tryd.func11 rfl Tryd.ntmps11 rfl ?_
 dsimp only [envOf]
 have hE := Ent.refl κ w
 refine WC.seq ?_
 refine WC.rs [(0, 1), (1, 2)] rfl ?_
 refine WO.box (κ := κ) 2 rfl rfl rfl rfl rfl rfl rfl fun b1 w1 K2 S3 f4 => ⟨trivial, ?_⟩
 refine WO.pn 1 rfl ?_
 refine WO.fin ?_
 refine DN.seq ?_
 refine WC.seq ?_
 refine WC.seq ?_
 refine WC.rs [(0, 2), (1, 1), (2, 2), (3, 2), (4, 2), (5, 1), (6, 2), (7, 2), (8, 2), (9, 2), (10, 1), (11, 2), (12, 2), (13, 2), (14, 2), (15, 1), (16, 2), (17, 2), (18, 2), (19, 2), (20, 1), (21, 2), (22, 2), (23, 2), (24, 2), (25, 1), (26, 2), (27, 2)] rfl ?_
 refine WO.k2 rfl rfl rfl rfl (rn_fieldAddr Tryd.runUnderlying25 rfl Tryd.sizeOf2 rfl rfl) ?_
 refine WO.k1 trivial rfl rfl rfl rfl (rn_ld Tryd.isAgg2 rfl rfl (hvE (f4.ld 0 rfl rfl))) ?_
 refine WO.pn 2 rfl ?_
 obtain ⟨p10, h, hK5⟩ := Option.bind_eq_some_iff.mp h
 refine WO.meet [(4, 2), (5, 1), (6, 2), (7, 2)] [(8, 2), (9, 2), (10, 1), (11, 2), (12, 2), (13, 2), (14, 2), (15, 1), (16, 2), (17, 2), (18, 2), (19, 2), (20, 1), (21, 2), (22, 2), (23, 2), (24, 2), (25, 1), (26, 2), (27, 2)] (fun L w' => L = [(1, .pointer (some ⟨b1, 0, none⟩)), (10, .bool p10)] ∧ ∃ κ', Stp [] K2 w1 κ' w') trivial ?_ ?_
 ·
  revert h
  cases ht6 : decide (p0.Kind < 1) with
  | true =>
   intro h; replace h := cT h
   refine WO.pn 1 rfl ?_
   refine WO.ls rfl rfl rfl rfl ?_
   refine WO.pn 2 rfl ?_
   obtain rfl := Option.some.inj h
   exact WO.met _ trivial ⟨rfl, _, (Stp.refl _ _).wk rfl⟩ fun a ha => (ha.more (ha.more ha.nil rfl) rfl)
  | false =>
   intro h; replace h := cF h
   refine WO.k2 rfl rfl rfl rfl (rn_fieldAddr Tryd.runUnderlying25 rfl Tryd.sizeOf2 rfl rfl) ?_
   refine WO.k1 trivial rfl rfl rfl rfl (rn_ld Tryd.isAgg2 rfl rfl (hvE (f4.ld 0 rfl rfl))) ?_
   refine WO.pn 2 rfl ?_
   obtain rfl := Option.some.inj h
   exact WO.met _ trivial ⟨rfl, _, (Stp.refl _ _).wk rfl⟩ fun a ha => (ha.more (ha.more ha.nil rfl) rfl)
 rintro _ w7 _ ⟨rfl, K8, S9⟩
 have h := hK5
 refine WO.pn 1 rfl ?_
 obtain ⟨p15, h, hK10⟩ := Option.bind_eq_some_iff.mp h
 refine WO.meet [(9, 2), (10, 1), (11, 2), (12, 2)] [(13, 2), (14, 2), (15, 1), (16, 2), (17, 2), (18, 2), (19, 2), (20, 1), (21, 2), (22, 2), (23, 2), (24, 2), (25, 1), (26, 2), (27, 2)] (fun L w' => L = [(1, .pointer (some ⟨b1, 0, none⟩)), (15, .bool p15)] ∧ ∃ κ', Stp [] K8 w7 κ' w') trivial ?_ ?_
 ·
  revert h
  cases ht11 : p10 with
  | true =>
   intro h; replace h := cT h
   refine WO.pn 1 rfl ?_
   refine WO.ls rfl rfl rfl rfl ?_
   refine WO.pn 2 rfl ?_
   obtain rfl := Option.some.inj h
   exact WO.met _ trivial ⟨rfl, _, (Stp.refl _ _).wk rfl⟩ fun a ha => (ha.more (ha.more ha.nil rfl) rfl)
  | false =>
   intro h; replace h := cF h
   refine WO.k2 rfl rfl rfl rfl (rn_fieldAddr Tryd.runUnderlying25 rfl Tryd.sizeOf2 rfl rfl) ?_
   have f12 := f4.stp S9 rfl rfl
   refine WO.k1 trivial rfl rfl rfl rfl (rn_ld Tryd.isAgg2 rfl rfl (hvE (f12.ld 1 rfl rfl))) ?_
   refine WO.pn 2 rfl ?_
   obtain rfl := Option.some.inj h
   exact WO.met _ trivial ⟨rfl, _, (Stp.refl _ _).wk rfl⟩ fun a ha => (ha.more (ha.more ha.nil rfl) rfl)
 rintro _ w13 _ ⟨rfl, K14, S15⟩
 have h := hK10
 refine WO.pn 1 rfl ?_
 obtain ⟨p20, h, hK16⟩ := Option.bind_eq_some_iff.mp h
 refine WO.meet [(14, 2), (15, 1), (16, 2), (17, 2)] [(18, 2), (19, 2), (20, 1), (21, 2), (22, 2), (23, 2), (24, 2), (25, 1), (26, 2), (27, 2)] (fun L w' => L = [(1, .pointer (some ⟨b1, 0, none⟩)), (20, .bool p20)] ∧ ∃ κ', Stp [] K14 w13 κ' w') trivial ?_ ?_
 ·
  revert h
  cases ht17 : p15 with
  | true =>
   intro h; replace h := cT h
   refine WO.pn 1 rfl ?_
   refine WO.ls rfl rfl rfl rfl ?_
   refine WO.pn 2 rfl ?_
   obtain rfl := Option.some.inj h
   exact WO.met _ trivial ⟨rfl, _, (Stp.refl _ _).wk rfl⟩ fun a ha => (ha.more (ha.more ha.nil rfl) rfl)
  | false =>
   intro h; replace h := cF h
   refine WO.k2 rfl rfl rfl rfl (rn_fieldAddr Tryd.runUnderlying25 rfl Tryd.sizeOf2 rfl rfl) ?_
   have f18 := f4.stp (S9.tr S15) rfl rfl
   refine WO.k1 trivial rfl rfl rfl rfl (rn_ld Tryd.isAgg2 rfl rfl (hvE (f18.ld 1 rfl rfl))) ?_
   refine WO.pn 2 rfl ?_
   obtain rfl := Option.some.inj h
   exact WO.met _ trivial ⟨rfl, _, (Stp.refl _ _).wk rfl⟩ fun a ha => (ha.more (ha.more ha.nil rfl) rfl)
 rintro _ w19 _ ⟨rfl, K20, S21⟩
 have h := hK16
 refine WO.pn 1 rfl ?_
 obtain ⟨p25, h, hK22⟩ := Option.bind_eq_some_iff.mp h
 refine WO.meet [(19, 2), (20, 1), (21, 2), (22, 2)] [(23, 2), (24, 2), (25, 1), (26, 2), (27, 2)] (fun L w' => L = [(1, .pointer (some ⟨b1, 0, none⟩)), (25, .bool p25)] ∧ ∃ κ', Stp [] K20 w19 κ' w') trivial ?_ ?_
 ·
  revert h
  cases ht23 : p20 with
  | true =>
   intro h; replace h := cT h
   refine WO.pn 1 rfl ?_
   refine WO.ls rfl rfl rfl rfl ?_
   refine WO.pn 2 rfl ?_
   obtain rfl := Option.some.inj h
   exact WO.met _ trivial ⟨rfl, _, (Stp.refl _ _).wk rfl⟩ fun a ha => (ha.more (ha.more ha.nil rfl) rfl)
  | false =>
   intro h; replace h := cF h
   refine WO.k2 rfl rfl rfl rfl (rn_fieldAddr Tryd.runUnderlying25 rfl Tryd.sizeOf2 rfl rfl) ?_
   have f24 := f4.stp (S9.tr (S15.tr S21)) rfl rfl
   refine WO.k1 trivial rfl rfl rfl rfl (rn_ld Tryd.isAgg2 rfl rfl (hvE (f24.ld 2 rfl rfl))) ?_
   refine WO.pn 2 rfl ?_
   obtain rfl := Option.some.inj h
   exact WO.met _ trivial ⟨rfl, _, (Stp.refl _ _).wk rfl⟩ fun a ha => (ha.more (ha.more ha.nil rfl) rfl)
 rintro _ w25 _ ⟨rfl, K26, S27⟩
 have h := hK22
 refine WO.pn 1 rfl ?_
 obtain ⟨p30, h, hK28⟩ := Option.bind_eq_some_iff.mp h
 refine WO.meet [(24, 2), (25, 1), (26, 2), (27, 2)] [] (fun L w' => L = [(1, .pointer (some ⟨b1, 0, none⟩)), (30, .bool p30)] ∧ ∃ κ', Stp [] K26 w25 κ' w') trivial ?_ ?_
 ·
  revert h
  cases ht29 : p25 with
  | true =>
   intro h; replace h := cT h
   refine WO.pn 1 rfl ?_
   refine WO.ls rfl rfl rfl rfl ?_
   refine WO.pn 2 rfl ?_
   obtain rfl := Option.some.inj h
   exact WO.met _ trivial ⟨rfl, _, (Stp.refl _ _).wk rfl⟩ fun a ha => (ha.more (ha.more ha.nil rfl) rfl)
  | false =>
   intro h; replace h := cF h
   refine WO.k2 rfl rfl rfl rfl (rn_fieldAddr Tryd.runUnderlying25 rfl Tryd.sizeOf2 rfl rfl) ?_
   have f30 := f4.stp (S9.tr (S15.tr (S21.tr S27))) rfl rfl
   refine WO.k1 trivial rfl rfl rfl rfl (rn_ld Tryd.isAgg2 rfl rfl (hvE (f30.ld 2 rfl rfl))) ?_
   refine WO.pn 2 rfl ?_
   obtain rfl := Option.some.inj h
   exact WO.met _ trivial ⟨rfl, _, (Stp.refl _ _).wk rfl⟩ fun a ha => (ha.more (ha.more ha.nil rfl) rfl)
 rintro _ w31 _ ⟨rfl, K32, S33⟩
 have h := hK28
 refine WO.fin ?_
 refine DN.seq ?_
 revert h
 cases ht34 : p30 with
 | true =>
  intro h; replace h := cT h
  refine WC.ct rfl ?_
  refine WC.seq ?_
  refine WC.rs [(0, 2)] rfl ?_
  refine WO.pn 1 rfl ?_
  refine WO.fin ?_
  refine DN.seq ?_
  refine WC.ret ?_
  refine DN.retThen ?_
  have f35 := hE.stp (S3.tr (S9.tr (S15.tr (S21.tr (S27.tr S33))))) rfl rfl
  refine DN.res (l := [.tmp 2]) Tryd.results11 (res_tmp rfl rfl) rfl ?_
  obtain rfl := Option.some.inj h
  exact ⟨K32, rfl, f35⟩
 | false =>
  intro h; replace h := cF h
  refine WC.cf rfl ?_
  refine WC.skip ?_
  refine DN.seq ?_
  refine WC.seq ?_
  refine WC.rx (κ := K32) [0, 2] none [(0, 2), (6, 2), (11, 2), (1, 0), (2, 2), (3, 2), (4, 0), (5, 2), (7, 0), (12, 0), (8, 1), (9, 2), (10, 2), (13, 1), (14, 2), (15, 2)] [] (by kernel_rfl) (by kernel_rfl) fun w37 S36 => ?_
  refine WO.k2 rfl rfl rfl rfl (rn_fieldAddr Tryd.runUnderlying25 rfl Tryd.sizeOf2 rfl rfl) ?_
  refine WO.k2 rfl rfl rfl rfl (rn_fieldAddr Tryd.runUnderlying25 rfl Tryd.sizeOf2 rfl rfl) ?_
  refine WO.k2 rfl rfl rfl rfl (rn_fieldAddr Tryd.runUnderlying25 rfl Tryd.sizeOf2 rfl rfl) ?_
  have f38 := f4.stp (S9.tr (S15.tr (S21.tr (S27.tr (S33.tr S36))))) rfl rfl
  refine WO.k0 rfl rfl rfl rfl (rn_ld Tryd.isAgg2 rfl rfl (hvC (f38.ld 0 rfl rfl) rfl)) ?_
  refine WO.pn 1 rfl ?_
  obtain ⟨x34, hx34, h⟩ := Option.bind_eq_some_iff.mp h
  refine WO.k2 rfl rfl rfl rfl (rn_indexG hx34 rfl Tryd.runUnderlying71 Tryd.sizeOf9 rfl rfl rfl) ?_
  have f39 := gGE0.stp (S3.tr (S9.tr (S15.tr (S21.tr (S27.tr (S33.tr S36)))))) rfl rfl
  refine WO.k0 rfl rfl rfl rfl (rn_ld Tryd.isAgg9 rfl rfl (hvC (f39.gStr hx34) rfl)) ?_
  obtain ⟨x36, hx36, h⟩ := Option.bind_eq_some_iff.mp h
  refine WO.k2 rfl rfl rfl rfl (rn_addS rfl rfl rfl hx36) ?_
  refine WO.k0 rfl rfl rfl rfl (rn_ld Tryd.isAgg2 rfl rfl (hvC (f38.ld 1 rfl rfl) rfl)) ?_
  refine WO.k0 rfl rfl rfl rfl (rn_ld Tryd.isAgg2 rfl rfl (hvC (f38.ld 2 rfl rfl) rfl)) ?_
  obtain ⟨x39, hx39, h⟩ := Option.bind_eq_some_iff.mp h
  have f40 := gGT.stp (S3.tr (S9.tr (S15.tr (S21.tr (S27.tr (S33.tr S36)))))) rfl rfl
  refine WO.call rfl rfl rfl rfl rfl rfl Tryd.call36 (i_decimal_ok (κ := fun b => mp [] 0 (K32 b)) (f40.map (mp [] 0) rfl rfl) hx39) ?_
  rintro _ w41 ⟨k42, rfl, e43⟩
  obtain ⟨K44, S45, m46⟩ := Ent.mixed (l := []) (κ := K32) e43 3 rfl
  refine ⟨(S45.cl rfl), ?_⟩
  obtain ⟨x40, hx40, h⟩ := Option.bind_eq_some_iff.mp h
  refine WO.k2 rfl rfl rfl rfl (rn_addS rfl rfl rfl hx40) ?_
  obtain ⟨x41, hx41, h⟩ := Option.bind_eq_some_iff.mp h
  refine WO.k2 rfl rfl rfl rfl (rn_addS rfl rfl rfl hx41) ?_
  obtain ⟨x44, hx44, h⟩ := Option.bind_eq_some_iff.mp h
  have f48 := f40.stp S45 rfl rfl
  refine WO.call rfl rfl rfl rfl rfl rfl Tryd.call36 (i_decimal_ok (κ := fun b => mp [] 0 (K44 b)) (f48.map (mp [] 0) rfl rfl) hx44) ?_
  rintro _ w49 ⟨k50, rfl, e51⟩
  obtain ⟨K52, S53, m54⟩ := Ent.mixed (l := []) (κ := K44) e51 5 rfl
  refine ⟨((S45.tr S53).cl rfl), ?_⟩
  obtain ⟨x45, hx45, h⟩ := Option.bind_eq_some_iff.mp h
  refine WO.k2 rfl rfl rfl rfl (rn_addS rfl rfl rfl hx45) ?_
  refine WO.pn 1 rfl ?_
  refine WO.nx ?_
  refine WO.fin ?_
  refine DN.seq ?_
  refine WC.ret ?_
  have f56 := hE.stp (S3.tr (S9.tr (S15.tr (S21.tr (S27.tr (S33.tr (S36.tr (S45.tr S53)))))))) rfl rfl
  refine DN.res (l := [.tmp 2]) Tryd.results11 (res_tmp rfl rfl) rfl ?_
  obtain rfl := Option.some.inj h
  exact ⟨K52, rfl, f56⟩

end Go.Proofs.YtnpmbkaoeihdmaaDoor
