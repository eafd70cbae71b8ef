/- The walks, part 0. By program. -/
import Derived.Test.YtnmjfjppgpkieaaFnsW4M
set_option linter.unusedVariables false
set_option linter.unusedSimpArgs false
namespace Go.Proofs.Ytnmjfjppgpkieaa
open Go Go.Wk Go.Proofs
set_option maxRecDepth 100000
set_option maxHeartbeats 1000000

/- loop.example/g00869/laws.szInt64S -/
theorem l_szInt64S_ok {w : World} {κ : Col} {a0 : Option Addr} {u0 : Nat} {p0 : (List Int)} {p1 : Int} (g0 : Rd (Rp.int .i64) κ w 0 a0 u0 p0) {r : Int} (h : l_szInt64S p0 p1 = some r) : Ret Try.prog 48 [.slice a0 p0.length u0, .int .i64 p1] w (fun v w' => ∃ (κ' : Col), v = .int .i64 r ∧ Ent κ w κ' w') := by
 unfold l_szInt64S at h
 refine Ret.enter Try.func48 rfl Try.ntmps48 rfl ?_
 dsimp only [envOf]
 have hE := Ent.refl κ w
 refine WC.seq ?_
 refine WC.rs [(0, 2)] rfl ?_
 refine WO.pn 1 rfl ?_
 refine WO.fin ?_
 refine DN.seq ?_
 refine WC.seq ?_
 refine WC.rs [(0, 2), (1, 2), (2, 2), (3, 2), (4, 2)] rfl ?_
 refine WO.pn 2 rfl ?_
 refine WO.k2 rfl rfl rfl rfl (rn_len Try.runUnderlying28 rfl rfl) ?_
 refine WO.pn 2 rfl ?_
 refine WO.fin ?_
 refine DN.seq ?_
 refine WC.seq ?_
 refine WC.seq ?_
 refine WC.rs [(0, 2), (1, 2)] rfl ?_
 refine WO.pn 2 rfl ?_
 refine WO.fin ?_
 refine DN.seq ?_
 revert h
 cases ht1 : decide ((IntKind.i64.wrap (p1 - (p0.length : Int))) < 0) with
 | true =>
  intro h; replace h := cT h
  refine WC.ct rfl ?_
  refine WC.seq ?_
  refine WC.rs [(0, 2)] rfl ?_
  refine WO.pn 1 rfl ?_
  refine WO.fin ?_
  refine DN.seq ?_
  refine WC.ret ?_
  refine DN.retThen ?_
  refine DN.res (l := [.tmp 4]) Try.results48 (res_tmp rfl rfl) rfl ?_
  obtain rfl := Option.some.inj h
  exact ⟨κ, rfl, hE⟩
 | false =>
  intro h; replace h := cF h
  refine WC.cf rfl ?_
  refine WC.skip ?_
  refine DN.seq ?_
  refine WC.seq ?_
  refine WC.rs [(0, 2), (1, 2)] rfl ?_
  refine WO.pn 2 rfl ?_
  refine WO.fin ?_
  refine DN.seq ?_
  refine WC.ret ?_
  refine DN.res (l := [.tmp 4]) Try.results48 (res_tmp rfl rfl) rfl ?_
  obtain rfl := Option.some.inj h
  exact ⟨κ, rfl, hE⟩

/- loop.example/g00869/laws.toSig -/
theorem l_toSig_ok {w : World} {κ : Col} {p0 : Sig}  {r : Sig} (h : l_toSig p0 = some r) : Ret Try.prog 11 [.agg #[.int .i64 p0.In, .int .i64 p0.Out]] w (fun v w' => ∃ (κ' : Col), v = .agg #[.int .i64 r.In, .int .i64 r.Out] ∧ Ent κ w κ' w') := by
 unfold l_toSig at h
 refine Ret.enter Try.func11 rfl Try.ntmps11 rfl ?_
 dsimp only [envOf]
 have hE := Ent.refl κ w
 refine WC.seq ?_
 refine WC.rs [(0, 1), (1, 1)] rfl ?_
 refine WO.box (κ := κ) 2 rfl rfl rfl rfl rfl rfl rfl fun b1 w1 K2 S3 f4 => ⟨trivial, ?_⟩
 refine WO.alloc (κ := K2) 3 rfl rfl rfl rfl rfl Try.zeroValue35 rfl fun b2 w5 K6 S7 f8 => ⟨trivial, ?_⟩
 refine WO.fin ?_
 refine DN.seq ?_
 refine WC.seq ?_
 refine WC.rs [(0, 1)] rfl ?_
 refine WO.alloc (κ := K6) 4 rfl rfl rfl rfl rfl Try.zeroValue35 rfl fun b3 w9 K10 S11 f12 => ⟨trivial, ?_⟩
 refine WO.fin ?_
 refine DN.seq ?_
 refine WC.seq ?_
 refine WC.rs [(0, 2), (1, 1), (2, 2), (3, 1)] rfl ?_
 refine WO.k2 rfl rfl rfl rfl (rn_fieldAddr Try.runUnderlying23 rfl Try.sizeOf2 rfl rfl) ?_
 have f13 := f4.stp (S7.tr S11) rfl rfl
 refine WO.k1 trivial rfl rfl rfl rfl (rn_ld Try.isAgg2 rfl rfl (hvE (f13.ld 0 rfl rfl))) ?_
 refine WO.k2 rfl rfl rfl rfl (rn_fieldAddr Try.runUnderlying35 rfl Try.sizeOf2 rfl rfl) ?_
 refine WO.stB (κ := K10) 4 (off := 0) (vc := [.int .i64 p0.In]) (cs' := [.int .i64 p0.In, .int .i64 0]) rfl rfl rfl rfl rfl rfl rfl Try.sizeOf2 rfl rfl f12 rfl rfl fun w14 S15 f16 => ⟨trivial, ?_⟩
 refine WO.fin ?_
 refine DN.seq ?_
 refine WC.seq ?_
 refine WC.rs [(0, 2), (1, 1), (2, 2), (3, 1)] rfl ?_
 refine WO.k2 rfl rfl rfl rfl (rn_fieldAddr Try.runUnderlying23 rfl Try.sizeOf2 rfl rfl) ?_
 have f17 := f13.stp S15 rfl rfl
 refine WO.k1 trivial rfl rfl rfl rfl (rn_ld Try.isAgg2 rfl rfl (hvE (f17.ld 1 rfl rfl))) ?_
 refine WO.k2 rfl rfl rfl rfl (rn_fieldAddr Try.runUnderlying35 rfl Try.sizeOf2 rfl rfl) ?_
 refine WO.stB (κ := K10) 4 (off := 1) (vc := [.int .i64 p0.Out]) (cs' := [.int .i64 p0.In, .int .i64 p0.Out]) rfl rfl rfl rfl rfl rfl rfl Try.sizeOf2 rfl rfl f16 rfl rfl fun w18 S19 f20 => ⟨trivial, ?_⟩
 refine WO.fin ?_
 refine DN.seq ?_
 refine WC.seq ?_
 refine WC.rs [(0, 1), (1, 1)] rfl ?_
 refine WO.k1 trivial rfl rfl rfl rfl (rn_la (cs := [.int .i64 p0.In, .int .i64 p0.Out]) Try.isAgg35 Try.sizeOf35 rfl rfl rfl (haE f20.cells)) ?_
 have f21 := f8.stp (S11.tr (S15.tr S19)) rfl rfl
 refine WO.stB0 (κ := K10) 3 (vc := [.int .i64 p0.In, .int .i64 p0.Out]) rfl rfl rfl rfl rfl rfl rfl Try.sizeOf35 rfl rfl f21 rfl fun w22 S23 f24 => ⟨trivial, ?_⟩
 refine WO.fin ?_
 refine DN.seq ?_
 refine WC.ret ?_
 have f25 := hE.stp (S3.tr (S7.tr (S11.tr (S15.tr (S19.tr S23))))) rfl rfl
 refine DN.res (l := [.cell 2 35]) Try.results11 (res_cellA rfl f24 Try.isAgg35 Try.sizeOf35 rfl rfl) rfl ?_
 obtain rfl := Option.some.inj h
 exact ⟨K10, rfl, f25⟩

/- loop.example/g00869/laws.toInt64S -/
theorem l_toInt64S_ok {w : World} {κ : Col} {a0 : Option Addr} {u0 : Nat} {p0 : (List Int)} (g0 : Rd (Rp.int .i64) κ w 0 a0 u0 p0) {r : (List Int)} (h : l_toInt64S p0 = some r) : Ret Try.prog 53 [.slice a0 p0.length u0] w (fun v w' => ∃ (κ' : Col) (ra0 : Option Addr) (ru0 : Nat), v = .slice ra0 r.length ru0 ∧ Ent κ w κ' w' ∧ Oc (Ep.int .i64) 2 κ' w' 2 ra0 ru0 r) := by
 unfold l_toInt64S at h
 refine Ret.enter Try.func53 rfl Try.ntmps53 rfl ?_
 dsimp only [envOf]
 have hE := Ent.refl κ w
 refine WC.seq ?_
 refine WC.rs [(0, 2)] rfl ?_
 refine WO.pn 1 rfl ?_
 refine WO.fin ?_
 refine DN.seq ?_
 refine WC.seq ?_
 refine WC.rs [(0, 2), (1, 2), (2, 1), (3, 2)] rfl ?_
 refine WO.pn 1 rfl ?_
 refine WO.k2 rfl rfl rfl rfl (rn_len Try.runUnderlying28 rfl rfl) ?_
 obtain ⟨x7, hx7, h⟩ := Option.bind_eq_some_iff.mp h
 refine WO.mk (κ := κ) (E := (Ep.int .i64)) (z := (0 : Int)) 2 rfl rfl rfl rfl rfl rfl rfl Try.underlying28 Tryinfo2 rfl rfl rfl rfl rfl (fun _ _ _ => rfl) (mkS_C hx7) fun a7 u7 w1 K2 S3 f4 => ⟨trivial, ?_⟩
 refine WO.pn 1 rfl ?_
 refine WO.fin ?_
 refine DN.seq ?_
 refine WC.seq ?_
 refine WC.seq ?_
 refine WC.rs [(0, 2)] rfl ?_
 refine WO.pn 1 rfl ?_
 refine WO.fin ?_
 refine DN.seq ?_
 have hN5 : (p0.length : Int) ≤ 9223372036854775807 := g0.len_le
 obtain ⟨q2, hq7, hK6⟩ := Option.bind_eq_some_iff.mp h
 clear h
 refine WC.meet (fun L w' => ∃ (κ' : Col) (s3 : (List Int)), L = [(3, .slice a7 x7.length u7)] ∧ Stp [2] K2 w1 κ' w' ∧ Oc (Ep.int .i64) 2 κ' w' 2 a7 u7 s3 ∧ x7.length = s3.length ∧ q2 = Sum.inr s3) ?_ ?_
 ·
  refine WC.block ?_
  refine WC.loop (fun k L w' => ∃ (κ' : Col) (v4 : Int) (s1 : (List Int)), L = [(0, .slice a0 p0.length u0), (3, .slice a7 x7.length u7), (4, .int .i64 v4)] ∧ Stp [2] K2 w1 κ' w' ∧ Oc (Ep.int .i64) 2 κ' w' 2 a7 u7 s1 ∧ x7.length = s1.length ∧ 0 ≤ v4 ∧ Int.toNat ((p0.length : Int) - v4) = k ∧ cntM (l_toInt64S_b0 p0) k v4 s1 = some q2) ⟨_, _, ⟨K2, 0, (x7 : (List Int)), rfl, (Stp.refl _ _).wk rfl, f4, rfl, (by decide), (by simp), hq7⟩, fun a ha => (ha.more (ha.more (ha.more ha.nil rfl) rfl) rfl)⟩ ?_
  rintro k _ w13 ⟨K14, v4, s1, rfl, S15, f16, hn17, hj5, hJ5, h⟩
  rcases k with _ | k
  ·
   have hk18 := h; obtain ⟨o5, h⟩ := ex_eq (Sum.inr (Sum.inl s1) : (List Int) ⊕ (((List Int)) ⊕ ((List Int))))
   have hc5 : decide (v4 < (p0.length : Int)) = false := decide_eq_false (by omega)
   refine WC.seq ?_
   refine WC.seq ?_
   refine WC.rs [(0, 2), (1, 2), (2, 2), (3, 2)] rfl ?_
   refine WO.pn 2 rfl ?_
   refine WO.k2 rfl rfl rfl rfl (rn_len Try.runUnderlying28 rfl rfl) ?_
   refine WO.pn 1 rfl ?_
   refine WO.fin ?_
   refine DN.seq ?_
   refine WC.cf' rfl hc5 ?_
   refine WC.exit ?_
   refine DN.exitThen ?_
   refine DN.exitThen ?_
   obtain rfl := Option.some.inj h
   have h := hk18
   refine DN.hit ?_
   obtain rfl := Option.some.inj h
   exact DN.meet _ ⟨K14, (s1 : (List Int)), rfl, S15.wk rfl, f16, hn17, rfl⟩ fun a ha => (ha.more ha.nil rfl)
  ·
   obtain ⟨o5, h, hk18⟩ := Option.bind_eq_some_iff.mp h; unfold l_toInt64S_b0 at h
   have hc5 : decide (v4 < (p0.length : Int)) = true := decide_eq_true (by omega)
   refine WC.seq ?_
   refine WC.seq ?_
   refine WC.rs [(0, 2), (1, 2), (2, 2), (3, 2)] rfl ?_
   refine WO.pn 2 rfl ?_
   refine WO.k2 rfl rfl rfl rfl (rn_len Try.runUnderlying28 rfl rfl) ?_
   refine WO.pn 1 rfl ?_
   refine WO.fin ?_
   refine DN.seq ?_
   refine WC.ct' rfl hc5 ?_
   refine WC.skip ?_
   refine DN.seq ?_
   refine WC.seq ?_
   refine WC.block ?_
   refine WC.rs [(0, 2), (1, 2), (2, 2), (3, 2), (4, 2), (5, 1), (6, 2), (7, 1)] rfl ?_
   refine WO.pn 4 rfl ?_
   obtain ⟨x18, hx18, h⟩ := Option.bind_eq_some_iff.mp h
   refine WO.k2 rfl rfl rfl rfl (rn_index g0 hx18 Try.runUnderlying28 Try.sizeOf2 rfl rfl rfl rfl) ?_
   have f19 := g0.stp (S3.tr S15) rfl rfl
   refine WO.k1 trivial rfl rfl rfl rfl (rn_ld Try.isAgg2 rfl rfl (hvE (f19.gInt hx18))) ?_
   obtain ⟨x20, hx20, h⟩ := Option.bind_eq_some_iff.mp h
   refine WO.k2 rfl rfl rfl rfl (rn_index f16.rdc hx20 Try.runUnderlying28 Try.sizeOf2 rfl rfl hn17 rfl) ?_
   obtain ⟨y2, hy2, h⟩ := Option.bind_eq_some_iff.mp h
   refine WO.stI (κ := K14) (E := (Ep.int .i64)) 2 [] rfl rfl rfl rfl rfl rfl rfl rfl Try.sizeOf2 rfl rfl rfl rfl f16 hy2 fun w20 K21 S22 f23 => ⟨trivial, ?_⟩
   have hn24 : x7.length = y2.length := hn17.trans (setI_ok hy2).2.2.2.symm
   refine WO.fin ?_
   refine DN.block ?_
   refine DN.seq ?_
   refine WC.rs [(0, 2), (1, 2), (2, 2)] rfl ?_
   refine WO.pn 3 rfl ?_
   refine WO.fin ?_
   have hw5 : IntKind.wrap .i64 (v4 + 1) = v4 + 1 := wr1 hj5 (of_decide_eq_true hc5) hN5
   rw [hw5]
   have hc5 := of_decide_eq_true hc5
   obtain rfl := Option.some.inj h
   refine DN.round fun a ha => ?_
   exact ⟨k, _, Nat.lt_succ_self _, ⟨K21, v4 + 1, (y2 : (List Int)), rfl, (S15.tr S22).wk rfl, f23, hn24, by omega, by omega, hk18⟩, (ha.more (ha.more (ha.more ha.nil rfl) rfl) rfl)⟩
 rintro _ w8 ⟨K9, s3, rfl, S10, f11, hn12, rfl⟩
 have h := hK6
 dsimp only [aft] at h
 refine DN.seq ?_
 refine WC.seq ?_
 refine WC.rs [(0, 2), (1, 2)] rfl ?_
 refine WO.pn 2 rfl ?_
 refine WO.fin ?_
 refine DN.seq ?_
 refine WC.ret ?_
 have f25 := hE.stp (S3.tr S10) rfl rfl
 refine DN.res (l := [.tmp 2]) Try.results53 (res_tmp rfl rfl) rfl ?_
 obtain rfl := Option.some.inj h
 exact ⟨K9, a7, u7, (by simp only [hn12]), f25, f11⟩

/- loop.example/g00869/spec.l1In -/
theorem s_l1In_ok {w : World} {κ : Col} {p0 : Int} {p1 : Int} {p2 : Int}  {r : Bool} (h : s_l1In p0 p1 p2 = some r) : Ret Try.prog 96 [.int .i64 p0, .int .i64 p1, .int .i64 p2] w (fun v w' => ∃ (κ' : Col), v = .bool r ∧ Ent κ w κ' w') := by
 unfold s_l1In at h
 refine Ret.enter Try.func96 rfl Try.ntmps96 rfl ?_
 dsimp only [envOf]
 have hE := Ent.refl κ w
 refine WC.seq ?_
 refine WC.rs [(0, 2)] rfl ?_
 refine WO.pn 1 rfl ?_
 refine WO.fin ?_
 refine DN.seq ?_
 refine WC.seq ?_
 refine WC.rs [(0, 2), (1, 2), (2, 2), (3, 2), (4, 2), (5, 2), (6, 2), (7, 2), (8, 2)] rfl ?_
 refine WO.pn 4 rfl ?_
 obtain ⟨p14, h, hK1⟩ := Option.bind_eq_some_iff.mp h
 refine WO.meet [(4, 2), (5, 2), (6, 2), (7, 2)] [(8, 2)] (fun L w' => L = [(6, .bool false), (14, .bool p14)] ∧ ∃ κ', Stp [] κ w κ' w') trivial ?_ ?_
 ·
  revert h
  cases ht2 : decide (p1 ≤ p0) with
  | true =>
   intro h; replace h := cT h
   refine WO.pn 4 rfl ?_
   obtain rfl := Option.some.inj h
   exact WO.met _ trivial ⟨rfl, _, (Stp.refl _ _).wk rfl⟩ fun a ha => (ha.more (ha.more ha.nil rfl) rfl)
  | false =>
   intro h; replace h := cF h
   refine WO.pn 4 rfl ?_
   obtain rfl := Option.some.inj h
   exact WO.met _ trivial ⟨rfl, _, (Stp.refl _ _).wk rfl⟩ fun a ha => (ha.more (ha.more ha.nil rfl) rfl)
 rintro _ w3 _ ⟨rfl, K4, S5⟩
 have h := hK1
 refine WO.pn 1 rfl ?_
 refine WO.fin ?_
 refine DN.seq ?_
 refine WC.ret ?_
 have f6 := hE.stp S5 rfl rfl
 refine DN.res (l := [.tmp 6]) Try.results96 (res_tmp rfl rfl) rfl ?_
 obtain rfl := Option.some.inj h
 exact ⟨K4, rfl, f6⟩

/- loop.example/g00869/spec.l23Power -/
theorem s_l23Power_ok {w : World} {κ : Col} {p0 : Int}  {r : Int} (h : s_l23Power p0 = some r) : Ret Try.prog 99 [.int .i64 p0] w (fun v w' => ∃ (κ' : Col), v = .int .i64 r ∧ Ent κ w κ' w') := by
 unfold s_l23Power at h
 refine Ret.enter Try.func99 rfl Try.ntmps99 rfl ?_
 dsimp only [envOf]
 have hE := Ent.refl κ w
 refine WC.seq ?_
 refine WC.rs [(0, 2)] rfl ?_
 refine WO.pn 1 rfl ?_
 refine WO.fin ?_
 refine DN.seq ?_
 refine WC.seq ?_
 refine WC.rs [(0, 2)] rfl ?_
 refine WO.pn 1 rfl ?_
 refine WO.fin ?_
 refine DN.seq ?_
 refine WC.seq ?_
 obtain ⟨q2, hq3, hK2⟩ := Option.bind_eq_some_iff.mp h
 clear h
 refine WC.meet (fun L w' => ∃ (κ' : Col) (s3 : Int × Int), L = [(3, .int .i64 s3.2)] ∧ Stp [] κ w κ' w' ∧ q2 = Sum.inr s3) ?_ ?_
 ·
  refine WC.block ?_
  refine WC.loop (fun k L w' => ∃ (κ' : Col) (s1 : Int × Int), L = [(0, .int .i64 s1.1), (3, .int .i64 s1.2)] ∧ Stp [] κ w κ' w' ∧ whileM s_l23Power_b0 k s1 = some q2) ⟨_, _, ⟨κ, ((p0 : Int), (1 : Int)), rfl, (Stp.refl _ _).wk rfl, hq3⟩, fun a ha => (ha.more (ha.more ha.nil rfl) rfl)⟩ ?_
  rintro k _ w7 ⟨K8, s1, rfl, S9, h⟩
  rcases k with _ | k
  ·
   cases h
  ·
   obtain ⟨o1, h, hk10⟩ := Option.bind_eq_some_iff.mp h; unfold s_l23Power_b0 at h
   refine WC.seq ?_
   refine WC.seq ?_
   refine WC.rs [(0, 2), (1, 2)] rfl ?_
   refine WO.pn 2 rfl ?_
   refine WO.fin ?_
   refine DN.seq ?_
   revert h
   cases ht11 : decide (0 < s1.1) with
   | true =>
    intro h; replace h := cT h
    refine WC.ct rfl ?_
    refine WC.skip ?_
    refine DN.seq ?_
    refine WC.seq ?_
    refine WC.block ?_
    refine WC.rs [(0, 2), (1, 2), (2, 2)] rfl ?_
    refine WO.pn 3 rfl ?_
    refine WO.fin ?_
    refine DN.block ?_
    refine DN.seq ?_
    refine WC.rs [(0, 2), (1, 2), (2, 2)] rfl ?_
    refine WO.pn 3 rfl ?_
    refine WO.fin ?_
    obtain rfl := Option.some.inj h
    refine DN.round fun a ha => ?_
    exact ⟨k, _, Nat.lt_succ_self _, ⟨K8, (((IntKind.i64.wrap (s1.1 - 1)) : Int), ((IntKind.i64.wrap (s1.2 * 2)) : Int)), rfl, S9.wk rfl, hk10⟩, (ha.more (ha.more ha.nil rfl) rfl)⟩
   | false =>
    intro h; replace h := cF h
    refine WC.cf rfl ?_
    refine WC.exit ?_
    refine DN.exitThen ?_
    refine DN.exitThen ?_
    obtain rfl := Option.some.inj h
    have h := hk10
    refine DN.hit ?_
    obtain rfl := Option.some.inj h
    exact DN.meet _ ⟨K8, ((s1.1 : Int), (s1.2 : Int)), rfl, S9.wk rfl, rfl⟩ fun a ha => (ha.more ha.nil rfl)
 rintro _ w4 ⟨K5, s3, rfl, S6, rfl⟩
 have h := hK2
 dsimp only [aft] at h
 refine DN.seq ?_
 refine WC.seq ?_
 refine WC.rs [(0, 2), (1, 2)] rfl ?_
 refine WO.pn 2 rfl ?_
 refine WO.fin ?_
 refine DN.seq ?_
 refine WC.ret ?_
 have f12 := hE.stp S6 rfl rfl
 refine DN.res (l := [.tmp 2]) Try.results99 (res_tmp rfl rfl) rfl ?_
 obtain rfl := Option.some.inj h
 exact ⟨K5, rfl, f12⟩

/- loop.example/g00869/spec.l30Find -/
theorem s_l30Find_ok {w : World} {κ : Col} {a0_0 : Option Addr} {u0_0 : Nat} {a0_1 : Option Addr} {u0_1 : Nat} {a0_2 : Option Addr} {u0_2 : Nat} {a0_3 : Option Addr} {u0_3 : Nat} {p0 : l30Graph} {p1 : Int} {p2 : Int} {b0 : Nat} (g0_0 : Oc (Ep.int .i64) 2 κ w 2 a0_0 u0_0 p0.of) (g0_1 : Oc (Ep.int .i64) 2 κ w 3 a0_1 u0_1 p0.by0) (g0_2 : Rd (Rp.sl (Rp.int .i64)) κ w 0 a0_2 u0_2 p0.next) (g0_3 : Rd (Rp.sl (Rp.int .i64)) κ w 0 a0_3 u0_3 p0.letters) (gb0 : Bc κ w 4 b0 108 [.slice a0_0 p0.of.length u0_0, .slice a0_1 p0.by0.length u0_1, .slice a0_2 p0.next.length u0_2, .slice a0_3 p0.letters.length u0_3]) {r : Int × (List Int) × (List Int)} (h : s_l30Find p0 p1 p2 = some r) : Ret Try.prog 102 [.pointer (some ⟨b0, 0, none⟩), .int .i64 p1, .int .i64 p2] w (fun v w' => ∃ (κ' : Col) (ma0 : Option Addr) (mu0 : Nat) (ma1 : Option Addr) (mu1 : Nat), v = .int .i64 r.1 ∧ Ent κ w κ' w' ∧ Oc (Ep.int .i64) 2 κ' w' 2 ma0 mu0 r.2.1 ∧ Oc (Ep.int .i64) 2 κ' w' 3 ma1 mu1 r.2.2 ∧ Bc κ' w' 4 b0 108 [.slice ma0 r.2.1.length mu0, .slice ma1 r.2.2.length mu1, .slice a0_2 p0.next.length u0_2, .slice a0_3 p0.letters.length u0_3]) := by
 unfold s_l30Find at h
 refine Ret.enter Try.func102 rfl Try.ntmps102 rfl ?_
 dsimp only [envOf]
 have hE := Ent.refl κ w
 refine WC.seq ?_
 refine WC.rs [(0, 2)] rfl ?_
 refine WO.pn 1 rfl ?_
 refine WO.fin ?_
 refine DN.seq ?_
 refine WC.seq ?_
 refine WC.seq ?_
 refine WC.rs [(0, 2)] rfl ?_
 refine WO.pn 1 rfl ?_
 refine WO.fin ?_
 refine DN.seq ?_
 have hN1 : (p0.of.length : Int) ≤ 9223372036854775807 := g0_0.len_le
 obtain ⟨q2, hq3, hK2⟩ := Option.bind_eq_some_iff.mp h
 clear h
 refine WC.meet (fun L w' => ∃ (κ' : Col), L = [(0, .pointer (some ⟨b0, 0, none⟩)), (1, .int .i64 p1), (2, .int .i64 p2)] ∧ Stp [] κ w κ' w' ∧ q2 = Sum.inr ()) ?_ ?_
 ·
  refine WC.block ?_
  refine WC.loop (fun k L w' => ∃ (κ' : Col) (v7 : Int), L = [(0, .pointer (some ⟨b0, 0, none⟩)), (1, .int .i64 p1), (2, .int .i64 p2), (7, .int .i64 v7)] ∧ Stp [] κ w κ' w' ∧ 0 ≤ v7 ∧ Int.toNat ((p0.of.length : Int) - v7) = k ∧ cntM (s_l30Find_b0 p0 p1 p2) k v7 () = some q2) ⟨_, _, ⟨κ, 0, rfl, (Stp.refl _ _).wk rfl, (by decide), (by simp), hq3⟩, fun a ha => (ha.more (ha.more (ha.more (ha.more ha.nil rfl) rfl) rfl) rfl)⟩ ?_
  rintro k _ w7 ⟨K8, v7, rfl, S9, hj1, hJ1, h⟩
  rcases k with _ | k
  ·
   have hk10 := h; obtain ⟨o1, h⟩ := ex_eq (Sum.inr (Sum.inl ()) : (Int × (List Int) × (List Int)) ⊕ ((Unit) ⊕ (Unit)))
   have hc1 : decide (v7 < (p0.of.length : Int)) = false := decide_eq_false (by omega)
   refine WC.seq ?_
   refine WC.seq ?_
   refine WC.rs [(0, 2), (1, 2), (2, 2), (3, 2), (4, 1), (5, 2), (6, 2)] rfl ?_
   refine WO.pn 2 rfl ?_
   refine WO.k2 rfl rfl rfl rfl (rn_nilCheck rfl rfl) ?_
   refine WO.k2 rfl rfl rfl rfl (rn_fieldAddr Try.runUnderlying108 rfl Try.sizeOf28 rfl rfl) ?_
   have f11 := gb0.stp S9 rfl rfl
   refine WO.k1 trivial rfl rfl rfl rfl (rn_ld Try.isAgg28 rfl rfl (hvE (f11.ld 0 rfl rfl))) ?_
   refine WO.k2 rfl rfl rfl rfl (rn_len Try.runUnderlying28 rfl rfl) ?_
   refine WO.pn 1 rfl ?_
   refine WO.fin ?_
   refine DN.seq ?_
   refine WC.cf' rfl hc1 ?_
   refine WC.exit ?_
   refine DN.exitThen ?_
   refine DN.exitThen ?_
   obtain rfl := Option.some.inj h
   have h := hk10
   refine DN.hit ?_
   obtain rfl := Option.some.inj h
   exact DN.meet _ ⟨K8, rfl, S9.wk rfl, rfl⟩ fun a ha => (ha.more (ha.more (ha.more ha.nil rfl) rfl) rfl)
  ·
   obtain ⟨o1, h, hk10⟩ := Option.bind_eq_some_iff.mp h; unfold s_l30Find_b0 at h
   have hc1 : decide (v7 < (p0.of.length : Int)) = true := decide_eq_true (by omega)
   refine WC.seq ?_
   refine WC.seq ?_
   refine WC.rs [(0, 2), (1, 2), (2, 2), (3, 2), (4, 1), (5, 2), (6, 2)] rfl ?_
   refine WO.pn 2 rfl ?_
   refine WO.k2 rfl rfl rfl rfl (rn_nilCheck rfl rfl) ?_
   refine WO.k2 rfl rfl rfl rfl (rn_fieldAddr Try.runUnderlying108 rfl Try.sizeOf28 rfl rfl) ?_
   have f12 := gb0.stp S9 rfl rfl
   refine WO.k1 trivial rfl rfl rfl rfl (rn_ld Try.isAgg28 rfl rfl (hvE (f12.ld 0 rfl rfl))) ?_
   refine WO.k2 rfl rfl rfl rfl (rn_len Try.runUnderlying28 rfl rfl) ?_
   refine WO.pn 1 rfl ?_
   refine WO.fin ?_
   refine DN.seq ?_
   refine WC.ct' rfl hc1 ?_
   refine WC.skip ?_
   refine DN.seq ?_
   refine WC.seq ?_
   refine WC.block ?_
   refine WC.seq ?_
   refine WC.rs [(0, 2), (1, 2), (2, 2), (3, 1), (4, 2), (5, 2), (6, 1), (7, 2), (8, 2), (9, 2), (10, 2), (11, 2), (12, 2), (13, 1), (14, 2), (15, 2), (16, 1), (17, 2), (18, 2), (19, 2)] rfl ?_
   refine WO.pn 1 rfl ?_
   refine WO.k2 rfl rfl rfl rfl (rn_nilCheck rfl rfl) ?_
   refine WO.k2 rfl rfl rfl rfl (rn_fieldAddr Try.runUnderlying108 rfl Try.sizeOf28 rfl rfl) ?_
   refine WO.k1 trivial rfl rfl rfl rfl (rn_ld Try.isAgg28 rfl rfl (hvE (f12.ld 0 rfl rfl))) ?_
   refine WO.pn 1 rfl ?_
   obtain ⟨x22, hx22, h⟩ := Option.bind_eq_some_iff.mp h
   refine WO.k2 rfl rfl rfl rfl (rn_index g0_0.rdc hx22 Try.runUnderlying28 Try.sizeOf2 rfl rfl rfl rfl) ?_
   have f13 := g0_0.stp S9 rfl rfl
   refine WO.k1 trivial rfl rfl rfl rfl (rn_ld Try.isAgg2 rfl rfl (hvE (f13.rdc.gInt hx22))) ?_
   refine WO.pn 3 rfl ?_
   obtain ⟨p36, h, hK14⟩ := Option.bind_eq_some_iff.mp h
   refine WO.meet [(10, 2), (11, 2), (12, 2), (13, 1), (14, 2), (15, 2), (16, 1), (17, 2), (18, 2), (19, 2)] [] (fun L w' => L = [(0, .pointer (some ⟨b0, 0, none⟩)), (1, .int .i64 p1), (2, .int .i64 p2), (7, .int .i64 v7), (36, .bool p36)] ∧ ∃ κ', Stp [] K8 w7 κ' w') trivial ?_ ?_
   ·
    revert h
    cases ht15 : (x22 == p1) with
    | true =>
     intro h; replace h := cT h
     refine WO.pn 1 rfl ?_
     refine WO.k2 rfl rfl rfl rfl (rn_nilCheck rfl rfl) ?_
     refine WO.k2 rfl rfl rfl rfl (rn_fieldAddr Try.runUnderlying108 rfl Try.sizeOf28 rfl rfl) ?_
     refine WO.k1 trivial rfl rfl rfl rfl (rn_ld Try.isAgg28 rfl rfl (hvE (f12.ld 1 rfl rfl))) ?_
     refine WO.pn 1 rfl ?_
     obtain ⟨x32, hx32, h⟩ := Option.bind_eq_some_iff.mp h
     refine WO.k2 rfl rfl rfl rfl (rn_index g0_1.rdc hx32 Try.runUnderlying28 Try.sizeOf2 rfl rfl rfl rfl) ?_
     have f16 := g0_1.stp S9 rfl rfl
     refine WO.k1 trivial rfl rfl rfl rfl (rn_ld Try.isAgg2 rfl rfl (hvE (f16.rdc.gInt hx32))) ?_
     refine WO.pn 3 rfl ?_
     obtain rfl := Option.some.inj h
     exact WO.met _ trivial ⟨rfl, _, (Stp.refl _ _).wk rfl⟩ fun a ha => (ha.more (ha.more (ha.more (ha.more (ha.more ha.nil rfl) rfl) rfl) rfl) rfl)
    | false =>
     intro h; replace h := cF h
     refine WO.pn 3 rfl ?_
     refine WO.ls rfl rfl rfl rfl ?_
     refine WO.pn 2 rfl ?_
     refine WO.ls rfl rfl rfl rfl ?_
     refine WO.pn 3 rfl ?_
     obtain rfl := Option.some.inj h
     exact WO.met _ trivial ⟨rfl, _, (Stp.refl _ _).wk rfl⟩ fun a ha => (ha.more (ha.more (ha.more (ha.more (ha.more ha.nil rfl) rfl) rfl) rfl) rfl)
   rintro _ w17 _ ⟨rfl, K18, S19⟩
   have h := hK14
   refine WO.fin ?_
   refine DN.seq ?_
   revert h
   cases ht20 : p36 with
   | true =>
    intro h; replace h := cT h
    refine WC.ct rfl ?_
    refine WC.seq ?_
    refine WC.rs [(0, 2), (1, 2)] rfl ?_
    refine WO.pn 2 rfl ?_
    refine WO.fin ?_
    refine DN.seq ?_
    refine WC.ret ?_
    refine DN.retBlock ?_
    refine DN.retThen ?_
    refine DN.retThen ?_
    obtain rfl := Option.some.inj h
    obtain rfl := Option.some.inj hk10
    have h := hK2
    dsimp only [aft] at h
    refine DN.retBlock ?_
    refine DN.retMeet ?_
    refine DN.retThen ?_
    have f21 := hE.stp (S9.tr S19) rfl rfl
    have f22 := f13.stp S19 rfl rfl
    have f23 := g0_1.stp (S9.tr S19) rfl rfl
    have f24 := f12.stp S19 rfl rfl
    refine DN.res (l := [.tmp 6]) Try.results102 (res_tmp rfl rfl) rfl ?_
    obtain rfl := Option.some.inj h
    exact ⟨K18, a0_0, u0_0, a0_1, u0_1, rfl, f21, f22, f23, f24⟩
   | false =>
    intro h; replace h := cF h
    refine WC.cf rfl ?_
    refine WC.skip ?_
    refine DN.block ?_
    refine DN.seq ?_
    refine WC.rs [(0, 2), (1, 2), (2, 2)] rfl ?_
    refine WO.pn 3 rfl ?_
    refine WO.fin ?_
    have hw1 : IntKind.wrap .i64 (v7 + 1) = v7 + 1 := wr1 hj1 (of_decide_eq_true hc1) hN1
    rw [hw1]
    have hc1 := of_decide_eq_true hc1
    obtain rfl := Option.some.inj h
    refine DN.round fun a ha => ?_
    exact ⟨k, _, Nat.lt_succ_self _, ⟨K18, v7 + 1, rfl, (S9.tr S19).wk rfl, by omega, by omega, hk10⟩, (ha.more (ha.more (ha.more (ha.more ha.nil rfl) rfl) rfl) rfl)⟩
 rintro _ w4 ⟨K5, rfl, S6, rfl⟩
 have h := hK2
 dsimp only [aft] at h
 refine DN.seq ?_
 refine WC.seq ?_
 refine WC.rs [(0, 2), (1, 2), (2, 2), (3, 2), (4, 1), (5, 2), (6, 1), (7, 1), (8, 2), (9, 2), (10, 1)] rfl ?_
 refine WO.pn 2 rfl ?_
 refine WO.k2 rfl rfl rfl rfl (rn_nilCheck rfl rfl) ?_
 refine WO.k2 rfl rfl rfl rfl (rn_fieldAddr Try.runUnderlying108 rfl Try.sizeOf28 rfl rfl) ?_
 have f25 := gb0.stp S6 rfl rfl
 refine WO.k1 trivial rfl rfl rfl rfl (rn_ld Try.isAgg28 rfl rfl (hvE (f25.ld 0 rfl rfl))) ?_
 refine WO.pn 1 rfl ?_
 refine WO.bl (κ := K5) (E := (Ep.int .i64)) 5 [] (parts := [(0, .tmp 43)]) (cells := [.int .i64 p1]) (xs := ([p1] : List Int)) rfl rfl rfl rfl rfl rfl Try.underlying28 Tryinfo2 rfl rfl rfl rfl rfl rfl rfl rfl rfl rfl ⟨[.int .i64 p1], [], Zl K5 w4 [], Zl K5 w4 [], rfl, Zl.sp (l1 := []) (l2 := []) rfl, Zl.sr (l1 := []) (l2 := []), rfl, rfl⟩ fun a44 u44 w26 K27 S28 f29 => ⟨trivial, ?_⟩
 obtain ⟨x45, hx45, h⟩ := Option.bind_eq_some_iff.mp h
 have f30 := g0_0.stp (S6.tr S28) rfl rfl
 refine WO.app (κ := K27) (E := (Ep.int .i64)) 2 [] rfl rfl rfl rfl rfl rfl rfl rfl rfl Try.underlying28 Tryinfo2 rfl rfl rfl rfl f30 (Sl.srcP (pu_int _) f29.rdc) sy_false hx45 rfl fun a45 u45 w31 K32 S33 f34 => ⟨trivial, ?_⟩
 refine WO.k2 rfl rfl rfl rfl (rn_nilCheck rfl rfl) ?_
 refine WO.k2 rfl rfl rfl rfl (rn_fieldAddr Try.runUnderlying108 rfl Try.sizeOf28 rfl rfl) ?_
 have f35 := f25.stp (S28.tr S33) rfl rfl
 refine WO.stB (κ := K32) 4 (off := 0) (vc := [.slice a45 x45.length u45]) (cs' := [.slice a45 x45.length u45, .slice a0_1 p0.by0.length u0_1, .slice a0_2 p0.next.length u0_2, .slice a0_3 p0.letters.length u0_3]) rfl rfl rfl rfl rfl rfl rfl Try.sizeOf28 rfl rfl f35 rfl rfl fun w36 S37 f38 => ⟨trivial, ?_⟩
 refine WO.fin ?_
 refine DN.seq ?_
 refine WC.seq ?_
 refine WC.rs [(0, 2), (1, 2), (2, 2), (3, 2), (4, 1), (5, 2), (6, 1), (7, 1), (8, 2), (9, 2), (10, 1)] rfl ?_
 refine WO.pn 2 rfl ?_
 refine WO.k2 rfl rfl rfl rfl (rn_nilCheck rfl rfl) ?_
 refine WO.k2 rfl rfl rfl rfl (rn_fieldAddr Try.runUnderlying108 rfl Try.sizeOf28 rfl rfl) ?_
 refine WO.k1 trivial rfl rfl rfl rfl (rn_ld Try.isAgg28 rfl rfl (hvE (f38.ld 1 rfl rfl))) ?_
 refine WO.pn 1 rfl ?_
 refine WO.bl (κ := K32) (E := (Ep.int .i64)) 6 [] (parts := [(0, .tmp 53)]) (cells := [.int .i64 p2]) (xs := ([p2] : List Int)) rfl rfl rfl rfl rfl rfl Try.underlying28 Tryinfo2 rfl rfl rfl rfl rfl rfl rfl rfl rfl rfl ⟨[.int .i64 p2], [], Zl K32 w36 [], Zl K32 w36 [], rfl, Zl.sp (l1 := []) (l2 := []) rfl, Zl.sr (l1 := []) (l2 := []), rfl, rfl⟩ fun a54 u54 w39 K40 S41 f42 => ⟨trivial, ?_⟩
 obtain ⟨x55, hx55, h⟩ := Option.bind_eq_some_iff.mp h
 have f43 := g0_1.stp (S6.tr (S28.tr (S33.tr (S37.tr S41)))) rfl rfl
 refine WO.app (κ := K40) (E := (Ep.int .i64)) 3 [] rfl rfl rfl rfl rfl rfl rfl rfl rfl Try.underlying28 Tryinfo2 rfl rfl rfl rfl f43 (Sl.srcP (pu_int _) f42.rdc) sy_false hx55 rfl fun a55 u55 w44 K45 S46 f47 => ⟨trivial, ?_⟩
 refine WO.k2 rfl rfl rfl rfl (rn_nilCheck rfl rfl) ?_
 refine WO.k2 rfl rfl rfl rfl (rn_fieldAddr Try.runUnderlying108 rfl Try.sizeOf28 rfl rfl) ?_
 have f48 := f38.stp (S41.tr S46) rfl rfl
 refine WO.stB (κ := K45) 4 (off := 1) (vc := [.slice a55 x55.length u55]) (cs' := [.slice a45 x45.length u45, .slice a55 x55.length u55, .slice a0_2 p0.next.length u0_2, .slice a0_3 p0.letters.length u0_3]) rfl rfl rfl rfl rfl rfl rfl Try.sizeOf28 rfl rfl f48 rfl rfl fun w49 S50 f51 => ⟨trivial, ?_⟩
 refine WO.fin ?_
 refine DN.seq ?_
 refine WC.seq ?_
 refine WC.rs [(0, 2), (1, 2), (2, 2), (3, 1), (4, 2), (5, 2), (6, 2)] rfl ?_
 refine WO.pn 1 rfl ?_
 refine WO.k2 rfl rfl rfl rfl (rn_nilCheck rfl rfl) ?_
 refine WO.k2 rfl rfl rfl rfl (rn_fieldAddr Try.runUnderlying108 rfl Try.sizeOf28 rfl rfl) ?_
 refine WO.k1 trivial rfl rfl rfl rfl (rn_ld Try.isAgg28 rfl rfl (hvE (f51.ld 0 rfl rfl))) ?_
 refine WO.k2 rfl rfl rfl rfl (rn_len Try.runUnderlying28 rfl rfl) ?_
 refine WO.pn 2 rfl ?_
 refine WO.fin ?_
 refine DN.seq ?_
 refine WC.ret ?_
 have f52 := hE.stp (S6.tr (S28.tr (S33.tr (S37.tr (S41.tr (S46.tr S50)))))) rfl rfl
 have f53 := f34.stp (S37.tr (S41.tr (S46.tr S50))) rfl rfl
 have f54 := f47.stp S50 rfl rfl
 refine DN.res (l := [.tmp 6]) Try.results102 (res_tmp rfl rfl) rfl ?_
 obtain rfl := Option.some.inj h
 exact ⟨K45, a45, u45, a55, u55, rfl, f52, f53, f54, f51⟩

/- loop.example/g00869/spec.l1Has -/
theorem s_l1Has_ok {w : World} {κ : Col} {a0 : Option Addr} {u0 : Nat} {p0 : (List Int)} {p1 : Int} (g0 : Rd (Rp.int .i64) κ w 0 a0 u0 p0) {r : Bool} (h : s_l1Has p0 p1 = some r) : Ret Try.prog 103 [.slice a0 p0.length u0, .int .i64 p1] w (fun v w' => ∃ (κ' : Col), v = .bool r ∧ Ent κ w κ' w') := by
 unfold s_l1Has at h
 refine Ret.enter Try.func103 rfl Try.ntmps103 rfl ?_
 dsimp only [envOf]
 have hE := Ent.refl κ w
 refine WC.seq ?_
 refine WC.rs [(0, 2)] rfl ?_
 refine WO.pn 1 rfl ?_
 refine WO.fin ?_
 refine DN.seq ?_
 refine WC.seq ?_
 refine WC.seq ?_
 refine WC.rs [(0, 2)] rfl ?_
 refine WO.pn 1 rfl ?_
 refine WO.fin ?_
 refine DN.seq ?_
 have hN1 : (p0.length : Int) ≤ 9223372036854775807 := g0.len_le
 obtain ⟨q2, hq3, hK2⟩ := Option.bind_eq_some_iff.mp h
 clear h
 refine WC.meet (fun L w' => ∃ (κ' : Col), L = [] ∧ Stp [] κ w κ' w' ∧ q2 = Sum.inr ()) ?_ ?_
 ·
  refine WC.block ?_
  refine WC.loop (fun k L w' => ∃ (κ' : Col) (v5 : Int), L = [(0, .slice a0 p0.length u0), (1, .int .i64 p1), (5, .int .i64 v5)] ∧ Stp [] κ w κ' w' ∧ 0 ≤ v5 ∧ Int.toNat ((p0.length : Int) - v5) = k ∧ cntM (s_l1Has_b0 p0 p1) k v5 () = some q2) ⟨_, _, ⟨κ, 0, rfl, (Stp.refl _ _).wk rfl, (by decide), (by simp), hq3⟩, fun a ha => (ha.more (ha.more (ha.more ha.nil rfl) rfl) rfl)⟩ ?_
  rintro k _ w7 ⟨K8, v5, rfl, S9, hj1, hJ1, h⟩
  rcases k with _ | k
  ·
   have hk10 := h; obtain ⟨o1, h⟩ := ex_eq (Sum.inr (Sum.inl ()) : Bool ⊕ ((Unit) ⊕ (Unit)))
   have hc1 : decide (v5 < (p0.length : Int)) = false := decide_eq_false (by omega)
   refine WC.seq ?_
   refine WC.seq ?_
   refine WC.rs [(0, 2), (1, 2), (2, 2), (3, 2)] rfl ?_
   refine WO.pn 2 rfl ?_
   refine WO.k2 rfl rfl rfl rfl (rn_len Try.runUnderlying28 rfl rfl) ?_
   refine WO.pn 1 rfl ?_
   refine WO.fin ?_
   refine DN.seq ?_
   refine WC.cf' rfl hc1 ?_
   refine WC.exit ?_
   refine DN.exitThen ?_
   refine DN.exitThen ?_
   obtain rfl := Option.some.inj h
   have h := hk10
   refine DN.hit ?_
   obtain rfl := Option.some.inj h
   exact DN.meet _ ⟨K8, rfl, S9.wk rfl, rfl⟩ fun a ha => ha.nil
  ·
   obtain ⟨o1, h, hk10⟩ := Option.bind_eq_some_iff.mp h; unfold s_l1Has_b0 at h
   have hc1 : decide (v5 < (p0.length : Int)) = true := decide_eq_true (by omega)
   refine WC.seq ?_
   refine WC.seq ?_
   refine WC.rs [(0, 2), (1, 2), (2, 2), (3, 2)] rfl ?_
   refine WO.pn 2 rfl ?_
   refine WO.k2 rfl rfl rfl rfl (rn_len Try.runUnderlying28 rfl rfl) ?_
   refine WO.pn 1 rfl ?_
   refine WO.fin ?_
   refine DN.seq ?_
   refine WC.ct' rfl hc1 ?_
   refine WC.skip ?_
   refine DN.seq ?_
   refine WC.seq ?_
   refine WC.block ?_
   refine WC.seq ?_
   refine WC.rs [(0, 2), (1, 2), (2, 2), (3, 1), (4, 2), (5, 2)] rfl ?_
   refine WO.pn 2 rfl ?_
   obtain ⟨x14, hx14, h⟩ := Option.bind_eq_some_iff.mp h
   refine WO.k2 rfl rfl rfl rfl (rn_index g0 hx14 Try.runUnderlying28 Try.sizeOf2 rfl rfl rfl rfl) ?_
   have f11 := g0.stp S9 rfl rfl
   refine WO.k1 trivial rfl rfl rfl rfl (rn_ld Try.isAgg2 rfl rfl (hvE (f11.gInt hx14))) ?_
   refine WO.pn 2 rfl ?_
   refine WO.fin ?_
   refine DN.seq ?_
   revert h
   cases ht12 : (x14 == p1) with
   | true =>
    intro h; replace h := cT h
    refine WC.ct rfl ?_
    refine WC.seq ?_
    refine WC.rs [(0, 2)] rfl ?_
    refine WO.pn 1 rfl ?_
    refine WO.fin ?_
    refine DN.seq ?_
    refine WC.ret ?_
    refine DN.retBlock ?_
    refine DN.retThen ?_
    refine DN.retThen ?_
    obtain rfl := Option.some.inj h
    obtain rfl := Option.some.inj hk10
    have h := hK2
    dsimp only [aft] at h
    refine DN.retBlock ?_
    refine DN.retMeet ?_
    refine DN.retThen ?_
    have f13 := hE.stp S9 rfl rfl
    refine DN.res (l := [.tmp 4]) Try.results103 (res_tmp rfl rfl) rfl ?_
    obtain rfl := Option.some.inj h
    exact ⟨K8, rfl, f13⟩
   | false =>
    intro h; replace h := cF h
    refine WC.cf rfl ?_
    refine WC.skip ?_
    refine DN.block ?_
    refine DN.seq ?_
    refine WC.rs [(0, 2), (1, 2), (2, 2)] rfl ?_
    refine WO.pn 3 rfl ?_
    refine WO.fin ?_
    have hw1 : IntKind.wrap .i64 (v5 + 1) = v5 + 1 := wr1 hj1 (of_decide_eq_true hc1) hN1
    rw [hw1]
    have hc1 := of_decide_eq_true hc1
    obtain rfl := Option.some.inj h
    refine DN.round fun a ha => ?_
    exact ⟨k, _, Nat.lt_succ_self _, ⟨K8, v5 + 1, rfl, S9.wk rfl, by omega, by omega, hk10⟩, (ha.more (ha.more (ha.more ha.nil rfl) rfl) rfl)⟩
 rintro _ w4 ⟨K5, rfl, S6, rfl⟩
 have h := hK2
 dsimp only [aft] at h
 refine DN.seq ?_
 refine WC.seq ?_
 refine WC.rs [(0, 2)] rfl ?_
 refine WO.pn 1 rfl ?_
 refine WO.fin ?_
 refine DN.seq ?_
 refine WC.ret ?_
 have f14 := hE.stp S6 rfl rfl
 refine DN.res (l := [.tmp 4]) Try.results103 (res_tmp rfl rfl) rfl ?_
 obtain rfl := Option.some.inj h
 exact ⟨K5, rfl, f14⟩

/- loop.example/g00869/impl.isSig -/
theorem i_isSig_ok {w : World} {κ : Col} {p0 : Sig}  {r : Bool} (h : i_isSig p0 = some r) : Ret Try.prog 64 [.agg #[.int .i64 p0.In, .int .i64 p0.Out]] w (fun v w' => ∃ (κ' : Col), v = .bool r ∧ Ent κ w κ' w') := by
 unfold i_isSig at h
 refine Ret.enter Try.func64 rfl Try.ntmps64 rfl ?_
 dsimp only [envOf]
 have hE := Ent.refl κ w
 refine WC.seq ?_
 refine WC.rs [(0, 1), (1, 2)] rfl ?_
 refine WO.box (κ := κ) 2 rfl rfl rfl rfl rfl rfl rfl fun b1 w1 K2 S3 f4 => ⟨trivial, ?_⟩
 refine WO.pn 1 rfl ?_
 refine WO.fin ?_
 refine DN.seq ?_
 refine WC.seq ?_
 refine WC.rs [(0, 2), (1, 1), (2, 2), (3, 2), (4, 2), (5, 1), (6, 2), (7, 2), (8, 2), (9, 2), (10, 1), (11, 2), (12, 2), (13, 2), (14, 2), (15, 1), (16, 2), (17, 2), (18, 2)] rfl ?_
 refine WO.k2 rfl rfl rfl rfl (rn_fieldAddr Try.runUnderlying35 rfl Try.sizeOf2 rfl rfl) ?_
 refine WO.k1 trivial rfl rfl rfl rfl (rn_ld Try.isAgg2 rfl rfl (hvE (f4.ld 0 rfl rfl))) ?_
 refine WO.pn 2 rfl ?_
 obtain ⟨p10, h, hK5⟩ := Option.bind_eq_some_iff.mp h
 refine WO.meet [(4, 2), (5, 1), (6, 2), (7, 2)] [(8, 2), (9, 2), (10, 1), (11, 2), (12, 2), (13, 2), (14, 2), (15, 1), (16, 2), (17, 2), (18, 2)] (fun L w' => L = [(1, .pointer (some ⟨b1, 0, none⟩)), (2, .bool false), (10, .bool p10)] ∧ ∃ κ', Stp [] K2 w1 κ' w') trivial ?_ ?_
 ·
  revert h
  cases ht6 : decide (1 ≤ p0.In) with
  | true =>
   intro h; replace h := cT h
   refine WO.k2 rfl rfl rfl rfl (rn_fieldAddr Try.runUnderlying35 rfl Try.sizeOf2 rfl rfl) ?_
   refine WO.k1 trivial rfl rfl rfl rfl (rn_ld Try.isAgg2 rfl rfl (hvE (f4.ld 0 rfl rfl))) ?_
   refine WO.pn 2 rfl ?_
   obtain rfl := Option.some.inj h
   exact WO.met _ trivial ⟨rfl, _, (Stp.refl _ _).wk rfl⟩ fun a ha => (ha.more (ha.more (ha.more ha.nil rfl) rfl) rfl)
  | false =>
   intro h; replace h := cF h
   refine WO.pn 1 rfl ?_
   refine WO.ls rfl rfl rfl rfl ?_
   refine WO.pn 2 rfl ?_
   obtain rfl := Option.some.inj h
   exact WO.met _ trivial ⟨rfl, _, (Stp.refl _ _).wk rfl⟩ fun a ha => (ha.more (ha.more (ha.more ha.nil rfl) rfl) rfl)
 rintro _ w7 _ ⟨rfl, K8, S9⟩
 have h := hK5
 refine WO.pn 1 rfl ?_
 obtain ⟨p15, h, hK10⟩ := Option.bind_eq_some_iff.mp h
 refine WO.meet [(9, 2), (10, 1), (11, 2), (12, 2)] [(13, 2), (14, 2), (15, 1), (16, 2), (17, 2), (18, 2)] (fun L w' => L = [(1, .pointer (some ⟨b1, 0, none⟩)), (2, .bool false), (15, .bool p15)] ∧ ∃ κ', Stp [] K8 w7 κ' w') trivial ?_ ?_
 ·
  revert h
  cases ht11 : p10 with
  | true =>
   intro h; replace h := cT h
   refine WO.k2 rfl rfl rfl rfl (rn_fieldAddr Try.runUnderlying35 rfl Try.sizeOf2 rfl rfl) ?_
   have f12 := f4.stp S9 rfl rfl
   refine WO.k1 trivial rfl rfl rfl rfl (rn_ld Try.isAgg2 rfl rfl (hvE (f12.ld 1 rfl rfl))) ?_
   refine WO.pn 2 rfl ?_
   obtain rfl := Option.some.inj h
   exact WO.met _ trivial ⟨rfl, _, (Stp.refl _ _).wk rfl⟩ fun a ha => (ha.more (ha.more (ha.more ha.nil rfl) rfl) rfl)
  | false =>
   intro h; replace h := cF h
   refine WO.pn 1 rfl ?_
   refine WO.ls rfl rfl rfl rfl ?_
   refine WO.pn 2 rfl ?_
   obtain rfl := Option.some.inj h
   exact WO.met _ trivial ⟨rfl, _, (Stp.refl _ _).wk rfl⟩ fun a ha => (ha.more (ha.more (ha.more ha.nil rfl) rfl) rfl)
 rintro _ w13 _ ⟨rfl, K14, S15⟩
 have h := hK10
 refine WO.pn 1 rfl ?_
 obtain ⟨p20, h, hK16⟩ := Option.bind_eq_some_iff.mp h
 refine WO.meet [(14, 2), (15, 1), (16, 2), (17, 2)] [(18, 2)] (fun L w' => L = [(2, .bool false), (20, .bool p20)] ∧ ∃ κ', Stp [] K14 w13 κ' w') trivial ?_ ?_
 ·
  revert h
  cases ht17 : p15 with
  | true =>
   intro h; replace h := cT h
   refine WO.k2 rfl rfl rfl rfl (rn_fieldAddr Try.runUnderlying35 rfl Try.sizeOf2 rfl rfl) ?_
   have f18 := f4.stp (S9.tr S15) rfl rfl
   refine WO.k1 trivial rfl rfl rfl rfl (rn_ld Try.isAgg2 rfl rfl (hvE (f18.ld 1 rfl rfl))) ?_
   refine WO.pn 2 rfl ?_
   obtain rfl := Option.some.inj h
   exact WO.met _ trivial ⟨rfl, _, (Stp.refl _ _).wk rfl⟩ fun a ha => (ha.more (ha.more ha.nil rfl) rfl)
  | false =>
   intro h; replace h := cF h
   refine WO.pn 1 rfl ?_
   refine WO.ls rfl rfl rfl rfl ?_
   refine WO.pn 2 rfl ?_
   obtain rfl := Option.some.inj h
   exact WO.met _ trivial ⟨rfl, _, (Stp.refl _ _).wk rfl⟩ fun a ha => (ha.more (ha.more ha.nil rfl) rfl)
 rintro _ w19 _ ⟨rfl, K20, S21⟩
 have h := hK16
 refine WO.pn 1 rfl ?_
 refine WO.fin ?_
 refine DN.seq ?_
 refine WC.ret ?_
 have f22 := hE.stp (S3.tr (S9.tr (S15.tr S21))) rfl rfl
 refine DN.res (l := [.tmp 2]) Try.results64 (res_tmp rfl rfl) rfl ?_
 obtain rfl := Option.some.inj h
 exact ⟨K20, rfl, f22⟩

/- loop.example/g00869/impl.inputsOf -/
theorem i_inputsOf_ok {w : World} {κ : Col} {p0 : Sig}  {r : Int} (h : i_inputsOf p0 = some r) : Ret Try.prog 91 [.agg #[.int .i64 p0.In, .int .i64 p0.Out]] w (fun v w' => ∃ (κ' : Col), v = .int .i64 r ∧ Ent κ w κ' w') := by
 unfold i_inputsOf at h
 refine Ret.enter Try.func91 rfl Try.ntmps91 rfl ?_
 dsimp only [envOf]
 have hE := Ent.refl κ w
 refine WC.seq ?_
 refine WC.rs [(0, 1), (1, 2)] rfl ?_
 refine WO.box (κ := κ) 2 rfl rfl rfl rfl rfl rfl rfl fun b1 w1 K2 S3 f4 => ⟨trivial, ?_⟩
 refine WO.pn 1 rfl ?_
 refine WO.fin ?_
 refine DN.seq ?_
 refine WC.seq ?_
 refine WC.rs [(0, 2), (1, 1), (2, 2), (3, 2)] rfl ?_
 refine WO.k2 rfl rfl rfl rfl (rn_fieldAddr Try.runUnderlying35 rfl Try.sizeOf2 rfl rfl) ?_
 refine WO.k1 trivial rfl rfl rfl rfl (rn_ld Try.isAgg2 rfl rfl (hvE (f4.ld 0 rfl rfl))) ?_
 obtain ⟨_z5, hz5, h⟩ := Option.bind_eq_some_iff.mp h
 refine WO.k2 rfl rfl rfl rfl (rn_shl rfl rfl rfl (nn_ok hz5)) ?_
 refine WO.pn 1 rfl ?_
 refine WO.fin ?_
 refine DN.seq ?_
 refine WC.ret ?_
 have f5 := hE.stp S3 rfl rfl
 refine DN.res (l := [.tmp 2]) Try.results91 (res_tmp rfl rfl) rfl ?_
 obtain rfl := Option.some.inj h
 exact ⟨K2, rfl, f5⟩

/- loop.example/g00869/impl.areLetters$1 -/
theorem i_areLetters_1_ok {w : World} {κ : Col} {p0 : Int} {c0 : Int} {b1 : Nat} (gb1 : Bc κ w 0 b1 2 [.int .i64 c0]) {r : Bool} (h : i_areLetters_1 p0 c0 = some r) : Ret Try.prog 131 [.int .i64 p0, .pointer (some ⟨b1, 0, none⟩)] w (fun v w' => ∃ (κ' : Col), v = .bool r ∧ Ent κ w κ' w') := by
 unfold i_areLetters_1 at h
 refine Ret.enter Try.func131 rfl Try.ntmps131 rfl ?_
 dsimp only [envOf]
 have hE := Ent.refl κ w
 refine WC.seq ?_
 refine WC.rs [(0, 2)] rfl ?_
 refine WO.pn 1 rfl ?_
 refine WO.fin ?_
 refine DN.seq ?_
 refine WC.seq ?_
 refine WC.rs [(0, 2), (1, 2), (2, 2), (3, 2), (4, 1), (5, 2), (6, 2), (7, 2)] rfl ?_
 refine WO.pn 3 rfl ?_
 obtain ⟨p10, h, hK1⟩ := Option.bind_eq_some_iff.mp h
 refine WO.meet [(3, 2), (4, 1), (5, 2), (6, 2)] [(7, 2)] (fun L w' => L = [(1, .pointer (some ⟨b1, 0, none⟩)), (3, .bool false), (10, .bool p10)] ∧ ∃ κ', Stp [] κ w κ' w') trivial ?_ ?_
 ·
  revert h
  cases ht2 : decide (p0 < 0) with
  | true =>
   intro h; replace h := cT h
   refine WO.pn 1 rfl ?_
   refine WO.ls rfl rfl rfl rfl ?_
   refine WO.pn 2 rfl ?_
   obtain rfl := Option.some.inj h
   exact WO.met _ trivial ⟨rfl, _, (Stp.refl _ _).wk rfl⟩ fun a ha => (ha.more (ha.more (ha.more ha.nil rfl) rfl) rfl)
  | false =>
   intro h; replace h := cF h
   refine WO.pn 1 rfl ?_
   refine WO.k1 trivial rfl rfl rfl rfl (rn_ld Try.isAgg2 rfl rfl (hvE (gb1.ld 0 rfl rfl))) ?_
   refine WO.pn 2 rfl ?_
   obtain rfl := Option.some.inj h
   exact WO.met _ trivial ⟨rfl, _, (Stp.refl _ _).wk rfl⟩ fun a ha => (ha.more (ha.more (ha.more ha.nil rfl) rfl) rfl)
 rintro _ w3 _ ⟨rfl, K4, S5⟩
 have h := hK1
 refine WO.pn 1 rfl ?_
 refine WO.fin ?_
 refine DN.seq ?_
 refine WC.ret ?_
 have f6 := hE.stp S5 rfl rfl
 refine DN.res (l := [.tmp 3]) Try.results131 (res_tmp rfl rfl) rfl ?_
 obtain rfl := Option.some.inj h
 exact ⟨K4, rfl, f6⟩

/- loop.example/g00869/impl.isSet -/
theorem i_isSet_ok {w : World} {κ : Col} {a0 : Option Addr} {u0 : Nat} {p0 : (List Int)} {p1 : Int} (g0 : Rd (Rp.int .i64) κ w 0 a0 u0 p0) {r : Bool} (h : i_isSet p0 p1 = some r) : Ret Try.prog 132 [.slice a0 p0.length u0, .int .i64 p1] w (fun v w' => ∃ (κ' : Col), v = .bool r ∧ Ent κ w κ' w') := by
 unfold i_isSet at h
 refine Ret.enter Try.func132 rfl Try.ntmps132 rfl ?_
 dsimp only [envOf]
 have hE := Ent.refl κ w
 refine WC.seq ?_
 refine WC.rs [(0, 2)] rfl ?_
 refine WO.pn 1 rfl ?_
 refine WO.fin ?_
 refine DN.seq ?_
 refine WC.seq ?_
 refine WC.seq ?_
 refine WC.rs [(0, 2), (1, 2), (2, 2)] rfl ?_
 refine WO.pn 1 rfl ?_
 refine WO.k2 rfl rfl rfl rfl (rn_len Try.runUnderlying28 rfl rfl) ?_
 refine WO.pn 1 rfl ?_
 refine WO.fin ?_
 refine DN.seq ?_
 have hN1 : (p0.length : Int) ≤ 9223372036854775807 := g0.len_le
 obtain ⟨q2, hq3, hK2⟩ := Option.bind_eq_some_iff.mp h
 clear h
 refine WC.meet (fun L w' => ∃ (κ' : Col), L = [] ∧ Stp [] κ w κ' w' ∧ q2 = Sum.inr ()) ?_ ?_
 ·
  refine WC.block ?_
  refine WC.loop (fun k L w' => ∃ (κ' : Col) (v9 : Int), L = [(0, .slice a0 p0.length u0), (1, .int .i64 p1), (7, .slice a0 p0.length u0), (8, .int .i64 (p0.length : Int)), (9, .int .i64 v9)] ∧ Stp [] κ w κ' w' ∧ 0 ≤ v9 ∧ Int.toNat ((p0.length : Int) - v9) = k ∧ cntM (i_isSet_b0 p0 p1) k v9 () = some q2) ⟨_, _, ⟨κ, 0, rfl, (Stp.refl _ _).wk rfl, (by decide), (by simp), hq3⟩, fun a ha => (ha.more (ha.more (ha.more (ha.more (ha.more ha.nil rfl) rfl) rfl) rfl) rfl)⟩ ?_
  rintro k _ w7 ⟨K8, v9, rfl, S9, hj1, hJ1, h⟩
  rcases k with _ | k
  ·
   have hk10 := h; obtain ⟨o1, h⟩ := ex_eq (Sum.inr (Sum.inl ()) : Bool ⊕ ((Unit) ⊕ (Unit)))
   have hc1 : decide (v9 < (p0.length : Int)) = false := decide_eq_false (by omega)
   refine WC.seq ?_
   refine WC.rs [(0, 2)] rfl ?_
   refine WO.pn 1 rfl ?_
   refine WO.fin ?_
   refine DN.seq ?_
   refine WC.seq ?_
   refine WC.cf' rfl hc1 ?_
   refine WC.exit ?_
   refine DN.exitThen ?_
   refine DN.exitThen ?_
   obtain rfl := Option.some.inj h
   have h := hk10
   refine DN.hit ?_
   obtain rfl := Option.some.inj h
   exact DN.meet _ ⟨K8, rfl, S9.wk rfl, rfl⟩ fun a ha => ha.nil
  ·
   obtain ⟨o1, h, hk10⟩ := Option.bind_eq_some_iff.mp h; unfold i_isSet_b0 at h
   have hc1 : decide (v9 < (p0.length : Int)) = true := decide_eq_true (by omega)
   refine WC.seq ?_
   refine WC.rs [(0, 2)] rfl ?_
   refine WO.pn 1 rfl ?_
   refine WO.fin ?_
   refine DN.seq ?_
   refine WC.seq ?_
   refine WC.ct' rfl hc1 ?_
   refine WC.skip ?_
   refine DN.seq ?_
   refine WC.seq ?_
   refine WC.block ?_
   refine WC.seq ?_
   refine WC.rs [(0, 2), (1, 2), (2, 1), (3, 2), (4, 2)] rfl ?_
   refine WO.pn 1 rfl ?_
   obtain ⟨x12, hx12, h⟩ := Option.bind_eq_some_iff.mp h
   refine WO.k2 rfl rfl rfl rfl (rn_index g0 hx12 Try.runUnderlying28 Try.sizeOf2 rfl rfl rfl rfl) ?_
   have f11 := g0.stp S9 rfl rfl
   refine WO.k1 trivial rfl rfl rfl rfl (rn_ld Try.isAgg2 rfl rfl (hvE (f11.gInt hx12))) ?_
   refine WO.pn 2 rfl ?_
   refine WO.fin ?_
   refine DN.seq ?_
   refine WC.seq ?_
   refine WC.rs [(0, 2), (1, 2), (2, 2), (3, 2), (4, 2), (5, 2), (6, 2), (7, 2), (8, 2), (9, 2), (10, 2), (11, 2), (12, 2), (13, 2), (14, 2), (15, 2), (16, 1), (17, 2), (18, 2), (19, 2)] rfl ?_
   refine WO.pn 3 rfl ?_
   obtain ⟨p20, h, hK12⟩ := Option.bind_eq_some_iff.mp h
   refine WO.meet [(3, 2), (4, 2), (5, 2), (6, 2)] [(7, 2), (8, 2), (9, 2), (10, 2), (11, 2), (12, 2), (13, 2), (14, 2), (15, 2), (16, 1), (17, 2), (18, 2), (19, 2)] (fun L w' => L = [(0, .slice a0 p0.length u0), (1, .int .i64 p1), (5, .int .i64 v9), (6, .int .i64 x12), (7, .slice a0 p0.length u0), (8, .int .i64 (p0.length : Int)), (9, .int .i64 v9), (20, .bool p20)] ∧ ∃ κ', Stp [] K8 w7 κ' w') trivial ?_ ?_
   ·
    revert h
    cases ht13 : decide (x12 < 0) with
    | true =>
     intro h; replace h := cT h
     refine WO.pn 4 rfl ?_
     obtain rfl := Option.some.inj h
     exact WO.met _ trivial ⟨rfl, _, (Stp.refl _ _).wk rfl⟩ fun a ha => (ha.more (ha.more (ha.more (ha.more (ha.more (ha.more (ha.more (ha.more ha.nil rfl) rfl) rfl) rfl) rfl) rfl) rfl) rfl)
    | false =>
     intro h; replace h := cF h
     refine WO.pn 4 rfl ?_
     obtain rfl := Option.some.inj h
     exact WO.met _ trivial ⟨rfl, _, (Stp.refl _ _).wk rfl⟩ fun a ha => (ha.more (ha.more (ha.more (ha.more (ha.more (ha.more (ha.more (ha.more ha.nil rfl) rfl) rfl) rfl) rfl) rfl) rfl) rfl)
   rintro _ w14 _ ⟨rfl, K15, S16⟩
   have h := hK12
   refine WO.pn 1 rfl ?_
   obtain ⟨p33, h, hK17⟩ := Option.bind_eq_some_iff.mp h
   refine WO.meet [(8, 2), (9, 2), (10, 2), (11, 2), (12, 2), (13, 2), (14, 2), (15, 2), (16, 1), (17, 2), (18, 2), (19, 2)] [] (fun L w' => L = [(0, .slice a0 p0.length u0), (1, .int .i64 p1), (7, .slice a0 p0.length u0), (8, .int .i64 (p0.length : Int)), (9, .int .i64 v9), (33, .bool p33)] ∧ ∃ κ', Stp [] K15 w14 κ' w') trivial ?_ ?_
   ·
    revert h
    cases ht18 : p20 with
    | true =>
     intro h; replace h := cT h
     refine WO.pn 8 rfl ?_
     refine WO.ls rfl rfl rfl rfl ?_
     refine WO.pn 3 rfl ?_
     obtain rfl := Option.some.inj h
     exact WO.met _ trivial ⟨rfl, _, (Stp.refl _ _).wk rfl⟩ fun a ha => (ha.more (ha.more (ha.more (ha.more (ha.more (ha.more ha.nil rfl) rfl) rfl) rfl) rfl) rfl)
    | false =>
     intro h; replace h := cF h
     refine WO.pn 3 rfl ?_
     obtain ⟨p32, h, hK19⟩ := Option.bind_eq_some_iff.mp h
     refine WO.meet [(11, 2), (12, 2), (13, 2), (14, 2), (15, 2), (16, 1), (17, 2), (18, 2)] [(19, 2)] (fun L w' => L = [(0, .slice a0 p0.length u0), (1, .int .i64 p1), (7, .slice a0 p0.length u0), (8, .int .i64 (p0.length : Int)), (9, .int .i64 v9), (21, .bool false), (22, .int .i64 v9), (23, .bool (decide (0 < v9))), (24, .bool (decide (0 < v9))), (32, .bool p32)] ∧ ∃ κ', Stp [] K15 w14 κ' w') trivial ?_ ?_
     ·
      revert h
      cases ht20 : decide (0 < v9) with
      | true =>
       intro h; replace h := cT h
       refine WO.pn 4 rfl ?_
       obtain ⟨x29, hx29, h⟩ := Option.bind_eq_some_iff.mp h
       refine WO.k2 rfl rfl rfl rfl (rn_index f11 hx29 Try.runUnderlying28 Try.sizeOf2 rfl rfl rfl rfl) ?_
       have f21 := f11.stp S16 rfl rfl
       refine WO.k1 trivial rfl rfl rfl rfl (rn_ld Try.isAgg2 rfl rfl (hvE (f21.gInt hx29))) ?_
       refine WO.pn 2 rfl ?_
       obtain rfl := Option.some.inj h
       exact WO.met _ trivial ⟨rfl, _, (Stp.refl _ _).wk rfl⟩ fun a ha => (ha.more (ha.more (ha.more (ha.more (ha.more (ha.more (ha.more (ha.more (ha.more (ha.more ha.nil rfl) rfl) rfl) rfl) rfl) rfl) rfl) rfl) rfl) rfl)
      | false =>
       intro h; replace h := cF h
       refine WO.pn 5 rfl ?_
       refine WO.ls rfl rfl rfl rfl ?_
       refine WO.pn 2 rfl ?_
       obtain rfl := Option.some.inj h
       exact WO.met _ trivial ⟨rfl, _, (Stp.refl _ _).wk rfl⟩ fun a ha => (ha.more (ha.more (ha.more (ha.more (ha.more (ha.more (ha.more (ha.more (ha.more (ha.more ha.nil rfl) rfl) rfl) rfl) rfl) rfl) rfl) rfl) rfl) rfl)
     rintro _ w22 _ ⟨rfl, K23, S24⟩
     have h := hK19
     refine WO.pn 1 rfl ?_
     obtain rfl := Option.some.inj h
     exact WO.met _ trivial ⟨rfl, _, S24.wk rfl⟩ fun a ha => (ha.more (ha.more (ha.more (ha.more (ha.more (ha.more ha.nil rfl) rfl) rfl) rfl) rfl) rfl)
   rintro _ w25 _ ⟨rfl, K26, S27⟩
   have h := hK17
   refine WO.fin ?_
   refine DN.seq ?_
   revert h
   cases ht28 : p33 with
   | true =>
    intro h; replace h := cT h
    refine WC.ct rfl ?_
    refine WC.seq ?_
    refine WC.rs [(0, 2)] rfl ?_
    refine WO.pn 1 rfl ?_
    refine WO.fin ?_
    refine DN.seq ?_
    refine WC.ret ?_
    refine DN.retBlock ?_
    refine DN.retThen ?_
    refine DN.retThen ?_
    obtain rfl := Option.some.inj h
    obtain rfl := Option.some.inj hk10
    have h := hK2
    dsimp only [aft] at h
    refine DN.retBlock ?_
    refine DN.retMeet ?_
    refine DN.retThen ?_
    have f29 := hE.stp (S9.tr (S16.tr S27)) rfl rfl
    refine DN.res (l := [.tmp 4]) Try.results132 (res_tmp rfl rfl) rfl ?_
    obtain rfl := Option.some.inj h
    exact ⟨K26, rfl, f29⟩
   | false =>
    intro h; replace h := cF h
    refine WC.cf rfl ?_
    refine WC.skip ?_
    refine DN.block ?_
    refine DN.seq ?_
    refine WC.rs [(0, 2), (1, 2)] rfl ?_
    refine WO.pn 2 rfl ?_
    refine WO.fin ?_
    have hw1 : IntKind.wrap .i64 (v9 + 1) = v9 + 1 := wr1 hj1 (of_decide_eq_true hc1) hN1
    rw [hw1]
    have hc1 := of_decide_eq_true hc1
    obtain rfl := Option.some.inj h
    refine DN.round fun a ha => ?_
    exact ⟨k, _, Nat.lt_succ_self _, ⟨K26, v9 + 1, rfl, (S9.tr (S16.tr S27)).wk rfl, by omega, by omega, hk10⟩, (ha.more (ha.more (ha.more (ha.more (ha.more ha.nil rfl) rfl) rfl) rfl) rfl)⟩
 rintro _ w4 ⟨K5, rfl, S6, rfl⟩
 have h := hK2
 dsimp only [aft] at h
 refine DN.seq ?_
 refine WC.seq ?_
 refine WC.rs [(0, 2)] rfl ?_
 refine WO.pn 1 rfl ?_
 refine WO.fin ?_
 refine DN.seq ?_
 refine WC.ret ?_
 have f30 := hE.stp S6 rfl rfl
 refine DN.res (l := [.tmp 4]) Try.results132 (res_tmp rfl rfl) rfl ?_
 obtain rfl := Option.some.inj h
 exact ⟨K5, rfl, f30⟩

/- loop.example/g00869/impl.lettersOf -/
theorem i_lettersOf_ok {w : World} {κ : Col} {p0 : Sig}  {r : Int} (h : i_lettersOf p0 = some r) : Ret Try.prog 107 [.agg #[.int .i64 p0.In, .int .i64 p0.Out]] w (fun v w' => ∃ (κ' : Col), v = .int .i64 r ∧ Ent κ w κ' w') := by
 unfold i_lettersOf at h
 refine Ret.enter Try.func107 rfl Try.ntmps107 rfl ?_
 dsimp only [envOf]
 have hE := Ent.refl κ w
 refine WC.seq ?_
 refine WC.rs [(0, 1), (1, 2)] rfl ?_
 refine WO.box (κ := κ) 2 rfl rfl rfl rfl rfl rfl rfl fun b1 w1 K2 S3 f4 => ⟨trivial, ?_⟩
 refine WO.pn 1 rfl ?_
 refine WO.fin ?_
 refine DN.seq ?_
 refine WC.seq ?_
 refine WC.rs [(0, 2), (1, 1), (2, 2), (3, 1), (4, 2), (5, 2), (6, 2)] rfl ?_
 refine WO.k2 rfl rfl rfl rfl (rn_fieldAddr Try.runUnderlying35 rfl Try.sizeOf2 rfl rfl) ?_
 refine WO.k1 trivial rfl rfl rfl rfl (rn_ld Try.isAgg2 rfl rfl (hvE (f4.ld 0 rfl rfl))) ?_
 refine WO.k2 rfl rfl rfl rfl (rn_fieldAddr Try.runUnderlying35 rfl Try.sizeOf2 rfl rfl) ?_
 refine WO.k1 trivial rfl rfl rfl rfl (rn_ld Try.isAgg2 rfl rfl (hvE (f4.ld 1 rfl rfl))) ?_
 refine WO.pn 1 rfl ?_
 obtain ⟨_z8, hz8, h⟩ := Option.bind_eq_some_iff.mp h
 refine WO.k2 rfl rfl rfl rfl (rn_shl rfl rfl rfl (nn_ok hz8)) ?_
 refine WO.pn 1 rfl ?_
 refine WO.fin ?_
 refine DN.seq ?_
 refine WC.ret ?_
 have f5 := hE.stp S3 rfl rfl
 refine DN.res (l := [.tmp 2]) Try.results107 (res_tmp rfl rfl) rfl ?_
 obtain rfl := Option.some.inj h
 exact ⟨K2, rfl, f5⟩

/- slices.Index[[]int64,int64] -/
theorem slices_Index_I_int64_ok {w : World} {κ : Col} {a0 : Option Addr} {u0 : Nat} {p0 : (List Int)} {p1 : Int} (g0 : Rd (Rp.int .i64) κ w 0 a0 u0 p0) {r : Int} (h : slices_Index_I_int64 p0 p1 = some r) : Ret Try.prog 124 [.slice a0 p0.length u0, .int .i64 p1] w (fun v w' => ∃ (κ' : Col), v = .int .i64 r ∧ Ent κ w κ' w') := by
 unfold slices_Index_I_int64 at h
 refine Ret.enter Try.func124 rfl Try.ntmps124 rfl ?_
 dsimp only [envOf]
 have hE := Ent.refl κ w
 refine WC.seq ?_
 refine WC.rs [(0, 2)] rfl ?_
 refine WO.pn 1 rfl ?_
 refine WO.fin ?_
 refine DN.seq ?_
 refine WC.seq ?_
 refine WC.seq ?_
 refine WC.rs [(0, 2), (1, 2), (2, 2)] rfl ?_
 refine WO.pn 1 rfl ?_
 refine WO.k2 rfl rfl rfl rfl (rn_len Try.runUnderlying28 rfl rfl) ?_
 refine WO.pn 1 rfl ?_
 refine WO.fin ?_
 refine DN.seq ?_
 have hN1 : (p0.length : Int) ≤ 9223372036854775807 := g0.len_le
 obtain ⟨q2, hq3, hK2⟩ := Option.bind_eq_some_iff.mp h
 clear h
 refine WC.meet (fun L w' => ∃ (κ' : Col), L = [] ∧ Stp [] κ w κ' w' ∧ q2 = Sum.inr ()) ?_ ?_
 ·
  refine WC.block ?_
  refine WC.loop (fun k L w' => ∃ (κ' : Col) (v8 : Int), L = [(0, .slice a0 p0.length u0), (1, .int .i64 p1), (7, .int .i64 (p0.length : Int)), (8, .int .i64 v8)] ∧ Stp [] κ w κ' w' ∧ 0 ≤ v8 ∧ Int.toNat ((p0.length : Int) - v8) = k ∧ cntM (slices_Index_I_int64_b0 p0 p1) k v8 () = some q2) ⟨_, _, ⟨κ, 0, rfl, (Stp.refl _ _).wk rfl, (by decide), (by simp), hq3⟩, fun a ha => (ha.more (ha.more (ha.more (ha.more ha.nil rfl) rfl) rfl) rfl)⟩ ?_
  rintro k _ w7 ⟨K8, v8, rfl, S9, hj1, hJ1, h⟩
  rcases k with _ | k
  ·
   have hk10 := h; obtain ⟨o1, h⟩ := ex_eq (Sum.inr (Sum.inl ()) : Int ⊕ ((Unit) ⊕ (Unit)))
   have hc1 : decide (v8 < (p0.length : Int)) = false := decide_eq_false (by omega)
   refine WC.seq ?_
   refine WC.rs [(0, 2)] rfl ?_
   refine WO.pn 1 rfl ?_
   refine WO.fin ?_
   refine DN.seq ?_
   refine WC.seq ?_
   refine WC.cf' rfl hc1 ?_
   refine WC.exit ?_
   refine DN.exitThen ?_
   refine DN.exitThen ?_
   obtain rfl := Option.some.inj h
   have h := hk10
   refine DN.hit ?_
   obtain rfl := Option.some.inj h
   exact DN.meet _ ⟨K8, rfl, S9.wk rfl, rfl⟩ fun a ha => ha.nil
  ·
   obtain ⟨o1, h, hk10⟩ := Option.bind_eq_some_iff.mp h; unfold slices_Index_I_int64_b0 at h
   have hc1 : decide (v8 < (p0.length : Int)) = true := decide_eq_true (by omega)
   refine WC.seq ?_
   refine WC.rs [(0, 2)] rfl ?_
   refine WO.pn 1 rfl ?_
   refine WO.fin ?_
   refine DN.seq ?_
   refine WC.seq ?_
   refine WC.ct' rfl hc1 ?_
   refine WC.skip ?_
   refine DN.seq ?_
   refine WC.seq ?_
   refine WC.block ?_
   refine WC.seq ?_
   refine WC.rs [(0, 2), (1, 2)] rfl ?_
   refine WO.pn 2 rfl ?_
   refine WO.fin ?_
   refine DN.seq ?_
   refine WC.seq ?_
   refine WC.rs [(0, 2), (1, 2), (2, 2), (3, 2), (4, 1), (5, 2)] rfl ?_
   refine WO.pn 3 rfl ?_
   obtain ⟨x14, hx14, h⟩ := Option.bind_eq_some_iff.mp h
   refine WO.k2 rfl rfl rfl rfl (rn_index g0 hx14 Try.runUnderlying28 Try.sizeOf2 rfl rfl rfl rfl) ?_
   have f11 := g0.stp S9 rfl rfl
   refine WO.k1 trivial rfl rfl rfl rfl (rn_ld Try.isAgg2 rfl rfl (hvE (f11.gInt hx14))) ?_
   refine WO.pn 1 rfl ?_
   refine WO.fin ?_
   refine DN.seq ?_
   revert h
   cases ht12 : (p1 == x14) with
   | true =>
    intro h; replace h := cT h
    refine WC.ct rfl ?_
    refine WC.seq ?_
    refine WC.rs [(0, 2), (1, 2)] rfl ?_
    refine WO.pn 2 rfl ?_
    refine WO.fin ?_
    refine DN.seq ?_
    refine WC.ret ?_
    refine DN.retBlock ?_
    refine DN.retThen ?_
    refine DN.retThen ?_
    obtain rfl := Option.some.inj h
    obtain rfl := Option.some.inj hk10
    have h := hK2
    dsimp only [aft] at h
    refine DN.retBlock ?_
    refine DN.retMeet ?_
    refine DN.retThen ?_
    have f13 := hE.stp S9 rfl rfl
    refine DN.res (l := [.tmp 4]) Try.results124 (res_tmp rfl rfl) rfl ?_
    obtain rfl := Option.some.inj h
    exact ⟨K8, rfl, f13⟩
   | false =>
    intro h; replace h := cF h
    refine WC.cf rfl ?_
    refine WC.skip ?_
    refine DN.block ?_
    refine DN.seq ?_
    refine WC.rs [(0, 2), (1, 2)] rfl ?_
    refine WO.pn 2 rfl ?_
    refine WO.fin ?_
    have hw1 : IntKind.wrap .i64 (v8 + 1) = v8 + 1 := wr1 hj1 (of_decide_eq_true hc1) hN1
    rw [hw1]
    have hc1 := of_decide_eq_true hc1
    obtain rfl := Option.some.inj h
    refine DN.round fun a ha => ?_
    exact ⟨k, _, Nat.lt_succ_self _, ⟨K8, v8 + 1, rfl, S9.wk rfl, by omega, by omega, hk10⟩, (ha.more (ha.more (ha.more (ha.more ha.nil rfl) rfl) rfl) rfl)⟩
 rintro _ w4 ⟨K5, rfl, S6, rfl⟩
 have h := hK2
 dsimp only [aft] at h
 refine DN.seq ?_
 refine WC.seq ?_
 refine WC.rs [(0, 2)] rfl ?_
 refine WO.pn 1 rfl ?_
 refine WO.fin ?_
 refine DN.seq ?_
 refine WC.ret ?_
 have f14 := hE.stp S6 rfl rfl
 refine DN.res (l := [.tmp 4]) Try.results124 (res_tmp rfl rfl) rfl ?_
 obtain rfl := Option.some.inj h
 exact ⟨K5, rfl, f14⟩

/- loop.example/g00869/laws.eqInt64S -/
theorem l_eqInt64S_ok {w : World} {κ : Col} {a0 : Option Addr} {u0 : Nat} {p0 : (List Int)} {a1 : Option Addr} {u1 : Nat} {p1 : (List Int)} (g0 : Rd (Rp.int .i64) κ w 0 a0 u0 p0) (g1 : Rd (Rp.int .i64) κ w 0 a1 u1 p1) {r : Bool} (h : l_eqInt64S p0 p1 = some r) : Ret Try.prog 57 [.slice a0 p0.length u0, .slice a1 p1.length u1] w (fun v w' => ∃ (κ' : Col), v = .bool r ∧ Ent κ w κ' w') := by
 unfold l_eqInt64S at h
 refine Ret.enter Try.func57 rfl Try.ntmps57 rfl ?_
 dsimp only [envOf]
 have hE := Ent.refl κ w
 refine WC.seq ?_
 refine WC.rs [(0, 2)] rfl ?_
 refine WO.pn 1 rfl ?_
 refine WO.fin ?_
 refine DN.seq ?_
 refine WC.seq ?_
 refine WC.seq ?_
 refine WC.rs [(0, 2), (1, 2), (2, 2), (3, 2), (4, 2)] rfl ?_
 refine WO.pn 1 rfl ?_
 refine WO.k2 rfl rfl rfl rfl (rn_len Try.runUnderlying28 rfl rfl) ?_
 refine WO.pn 1 rfl ?_
 refine WO.k2 rfl rfl rfl rfl (rn_len Try.runUnderlying28 rfl rfl) ?_
 refine WO.pn 1 rfl ?_
 refine WO.fin ?_
 refine DN.seq ?_
 revert h
 cases ht1 : ((p0.length : Int) != (p1.length : Int)) with
 | true =>
  intro h; replace h := cT h
  refine WC.ct rfl ?_
  refine WC.seq ?_
  refine WC.rs [(0, 2)] rfl ?_
  refine WO.pn 1 rfl ?_
  refine WO.fin ?_
  refine DN.seq ?_
  refine WC.ret ?_
  refine DN.retThen ?_
  refine DN.res (l := [.tmp 4]) Try.results57 (res_tmp rfl rfl) rfl ?_
  obtain rfl := Option.some.inj h
  exact ⟨κ, rfl, hE⟩
 | false =>
  intro h; replace h := cF h
  refine WC.cf rfl ?_
  refine WC.skip ?_
  refine DN.seq ?_
  refine WC.seq ?_
  refine WC.seq ?_
  refine WC.rs [(0, 2)] rfl ?_
  refine WO.pn 1 rfl ?_
  refine WO.fin ?_
  refine DN.seq ?_
  have hN2 : (p0.length : Int) ≤ 9223372036854775807 := g0.len_le
  obtain ⟨q2, hq4, hK3⟩ := Option.bind_eq_some_iff.mp h
  clear h
  refine WC.meet (fun L w' => ∃ (κ' : Col), L = [] ∧ Stp [] κ w κ' w' ∧ q2 = Sum.inr ()) ?_ ?_
  ·
   refine WC.block ?_
   refine WC.loop (fun k L w' => ∃ (κ' : Col) (v5 : Int), L = [(0, .slice a0 p0.length u0), (1, .slice a1 p1.length u1), (5, .int .i64 v5)] ∧ Stp [] κ w κ' w' ∧ 0 ≤ v5 ∧ Int.toNat ((p0.length : Int) - v5) = k ∧ cntM (l_eqInt64S_b0 p0 p1) k v5 () = some q2) ⟨_, _, ⟨κ, 0, rfl, (Stp.refl _ _).wk rfl, (by decide), (by simp), hq4⟩, fun a ha => (ha.more (ha.more (ha.more ha.nil rfl) rfl) rfl)⟩ ?_
   rintro k _ w8 ⟨K9, v5, rfl, S10, hj2, hJ2, h⟩
   rcases k with _ | k
   ·
    have hk11 := h; obtain ⟨o2, h⟩ := ex_eq (Sum.inr (Sum.inl ()) : Bool ⊕ ((Unit) ⊕ (Unit)))
    have hc2 : decide (v5 < (p0.length : Int)) = false := decide_eq_false (by omega)
    refine WC.seq ?_
    refine WC.seq ?_
    refine WC.rs [(0, 2), (1, 2), (2, 2), (3, 2)] rfl ?_
    refine WO.pn 2 rfl ?_
    refine WO.k2 rfl rfl rfl rfl (rn_len Try.runUnderlying28 rfl rfl) ?_
    refine WO.pn 1 rfl ?_
    refine WO.fin ?_
    refine DN.seq ?_
    refine WC.cf' rfl hc2 ?_
    refine WC.exit ?_
    refine DN.exitThen ?_
    refine DN.exitThen ?_
    obtain rfl := Option.some.inj h
    have h := hk11
    refine DN.hit ?_
    obtain rfl := Option.some.inj h
    exact DN.meet _ ⟨K9, rfl, S10.wk rfl, rfl⟩ fun a ha => ha.nil
   ·
    obtain ⟨o2, h, hk11⟩ := Option.bind_eq_some_iff.mp h; unfold l_eqInt64S_b0 at h
    have hc2 : decide (v5 < (p0.length : Int)) = true := decide_eq_true (by omega)
    refine WC.seq ?_
    refine WC.seq ?_
    refine WC.rs [(0, 2), (1, 2), (2, 2), (3, 2)] rfl ?_
    refine WO.pn 2 rfl ?_
    refine WO.k2 rfl rfl rfl rfl (rn_len Try.runUnderlying28 rfl rfl) ?_
    refine WO.pn 1 rfl ?_
    refine WO.fin ?_
    refine DN.seq ?_
    refine WC.ct' rfl hc2 ?_
    refine WC.skip ?_
    refine DN.seq ?_
    refine WC.seq ?_
    refine WC.block ?_
    refine WC.seq ?_
    refine WC.rx (κ := K9) [0] none [(0, 2), (1, 2), (2, 2), (4, 2), (5, 2), (6, 2), (3, 0), (7, 0), (8, 2)] [] (by kernel_rfl) (by kernel_rfl) fun w13 S12 => ?_
    refine WO.pn 2 rfl ?_
    obtain ⟨x19, hx19, h⟩ := Option.bind_eq_some_iff.mp h
    refine WO.k2 rfl rfl rfl rfl (rn_index g0 hx19 Try.runUnderlying28 Try.sizeOf2 rfl rfl rfl rfl) ?_
    refine WO.pn 2 rfl ?_
    obtain ⟨x23, hx23, h⟩ := Option.bind_eq_some_iff.mp h
    refine WO.k2 rfl rfl rfl rfl (rn_index g1 hx23 Try.runUnderlying28 Try.sizeOf2 rfl rfl rfl rfl) ?_
    have f14 := g0.stp (S10.tr S12) rfl rfl
    refine WO.k0 rfl rfl rfl rfl (rn_ld Try.isAgg2 rfl rfl (hvC (f14.gInt hx19) rfl)) ?_
    have f15 := g1.stp (S10.tr S12) rfl rfl
    refine WO.k0 rfl rfl rfl rfl (rn_ld Try.isAgg2 rfl rfl (hvC (f15.gInt hx23) rfl)) ?_
    refine WO.pn 1 rfl ?_
    refine WO.nx ?_
    refine WO.fin ?_
    refine DN.seq ?_
    revert h
    cases ht16 : (x19 != x23) with
    | true =>
     intro h; replace h := cT h
     refine WC.ct rfl ?_
     refine WC.seq ?_
     refine WC.rs [(0, 2)] rfl ?_
     refine WO.pn 1 rfl ?_
     refine WO.fin ?_
     refine DN.seq ?_
     refine WC.ret ?_
     refine DN.retBlock ?_
     refine DN.retThen ?_
     refine DN.retThen ?_
     obtain rfl := Option.some.inj h
     obtain rfl := Option.some.inj hk11
     have h := hK3
     dsimp only [aft] at h
     refine DN.retBlock ?_
     refine DN.retMeet ?_
     refine DN.retThen ?_
     have f17 := hE.stp (S10.tr S12) rfl rfl
     refine DN.res (l := [.tmp 4]) Try.results57 (res_tmp rfl rfl) rfl ?_
     obtain rfl := Option.some.inj h
     exact ⟨K9, rfl, f17⟩
    | false =>
     intro h; replace h := cF h
     refine WC.cf rfl ?_
     refine WC.skip ?_
     refine DN.block ?_
     refine DN.seq ?_
     refine WC.rs [(0, 2), (1, 2), (2, 2)] rfl ?_
     refine WO.pn 3 rfl ?_
     refine WO.fin ?_
     have hw2 : IntKind.wrap .i64 (v5 + 1) = v5 + 1 := wr1 hj2 (of_decide_eq_true hc2) hN2
     rw [hw2]
     have hc2 := of_decide_eq_true hc2
     obtain rfl := Option.some.inj h
     refine DN.round fun a ha => ?_
     exact ⟨k, _, Nat.lt_succ_self _, ⟨K9, v5 + 1, rfl, (S10.tr S12).wk rfl, by omega, by omega, hk11⟩, (ha.more (ha.more (ha.more ha.nil rfl) rfl) rfl)⟩
  rintro _ w5 ⟨K6, rfl, S7, rfl⟩
  have h := hK3
  dsimp only [aft] at h
  refine DN.seq ?_
  refine WC.seq ?_
  refine WC.rs [(0, 2)] rfl ?_
  refine WO.pn 1 rfl ?_
  refine WO.fin ?_
  refine DN.seq ?_
  refine WC.ret ?_
  have f18 := hE.stp S7 rfl rfl
  refine DN.res (l := [.tmp 4]) Try.results57 (res_tmp rfl rfl) rfl ?_
  obtain rfl := Option.some.inj h
  exact ⟨K6, rfl, f18⟩

/- loop.example/g00869/laws.markInt64S -/
theorem l_markInt64S_ok {w : World} {κ : Col} {a0 : Option Addr} {u0 : Nat} {p0 : (List Int)} {p1 : Int} (g0 : Oc (Ep.int .i64) 2 κ w 2 a0 u0 p0) {r : Int × (List Int)} (h : l_markInt64S p0 p1 = some r) : Ret Try.prog 69 [.slice a0 p0.length u0, .int .i64 p1] w (fun v w' => ∃ (κ' : Col), v = .int .i64 r.1 ∧ Ent κ w κ' w' ∧ Oc (Ep.int .i64) 2 κ' w' 2 a0 u0 r.2 ∧ p0.length = r.2.length) := by
 unfold l_markInt64S at h
 refine Ret.enter Try.func69 rfl Try.ntmps69 rfl ?_
 dsimp only [envOf]
 have hE := Ent.refl κ w
 refine WC.seq ?_
 refine WC.rs [(0, 2)] rfl ?_
 refine WO.pn 1 rfl ?_
 refine WO.fin ?_
 refine DN.seq ?_
 refine WC.seq ?_
 refine WC.seq ?_
 refine WC.rs [(0, 2)] rfl ?_
 refine WO.pn 1 rfl ?_
 refine WO.fin ?_
 refine DN.seq ?_
 have hN1 : (p0.length : Int) ≤ 9223372036854775807 := g0.len_le
 obtain ⟨q2, hq3, hK2⟩ := Option.bind_eq_some_iff.mp h
 clear h
 refine WC.meet (fun L w' => ∃ (κ' : Col) (s3 : Int × (List Int)), L = [(1, .int .i64 s3.1)] ∧ Stp [2] κ w κ' w' ∧ Oc (Ep.int .i64) 2 κ' w' 2 a0 u0 s3.2 ∧ p0.length = s3.2.length ∧ q2 = Sum.inr s3) ?_ ?_
 ·
  refine WC.block ?_
  refine WC.loop (fun k L w' => ∃ (κ' : Col) (v5 : Int) (s1 : Int × (List Int)), L = [(0, .slice a0 p0.length u0), (1, .int .i64 s1.1), (5, .int .i64 v5)] ∧ Stp [2] κ w κ' w' ∧ Oc (Ep.int .i64) 2 κ' w' 2 a0 u0 s1.2 ∧ p0.length = s1.2.length ∧ 0 ≤ v5 ∧ Int.toNat ((p0.length : Int) - v5) = k ∧ cntM l_markInt64S_b0 k v5 s1 = some q2) ⟨_, _, ⟨κ, 0, ((p1 : Int), (p0 : (List Int))), rfl, (Stp.refl _ _).wk rfl, g0, rfl, (by decide), (by simp), hq3⟩, fun a ha => (ha.more (ha.more (ha.more ha.nil rfl) rfl) rfl)⟩ ?_
  rintro k _ w9 ⟨K10, v5, s1, rfl, S11, f12, hn13, hj1, hJ1, h⟩
  rcases k with _ | k
  ·
   have hk14 := h; obtain ⟨o1, h⟩ := ex_eq (Sum.inr (Sum.inl s1) : (Int × (List Int)) ⊕ ((Int × (List Int)) ⊕ (Int × (List Int))))
   have hc1 : decide (v5 < (p0.length : Int)) = false := decide_eq_false (by omega)
   refine WC.seq ?_
   refine WC.seq ?_
   refine WC.rs [(0, 2), (1, 2), (2, 2), (3, 2)] rfl ?_
   refine WO.pn 2 rfl ?_
   refine WO.k2 rfl rfl rfl rfl (rn_len Try.runUnderlying28 rfl rfl) ?_
   refine WO.pn 1 rfl ?_
   refine WO.fin ?_
   refine DN.seq ?_
   refine WC.cf' rfl hc1 ?_
   refine WC.exit ?_
   refine DN.exitThen ?_
   refine DN.exitThen ?_
   obtain rfl := Option.some.inj h
   have h := hk14
   refine DN.hit ?_
   obtain rfl := Option.some.inj h
   exact DN.meet _ ⟨K10, ((s1.1 : Int), (s1.2 : (List Int))), rfl, S11.wk rfl, f12, hn13, rfl⟩ fun a ha => (ha.more ha.nil rfl)
  ·
   obtain ⟨o1, h, hk14⟩ := Option.bind_eq_some_iff.mp h; unfold l_markInt64S_b0 at h
   have hc1 : decide (v5 < (p0.length : Int)) = true := decide_eq_true (by omega)
   refine WC.seq ?_
   refine WC.seq ?_
   refine WC.rs [(0, 2), (1, 2), (2, 2), (3, 2)] rfl ?_
   refine WO.pn 2 rfl ?_
   refine WO.k2 rfl rfl rfl rfl (rn_len Try.runUnderlying28 rfl rfl) ?_
   refine WO.pn 1 rfl ?_
   refine WO.fin ?_
   refine DN.seq ?_
   refine WC.ct' rfl hc1 ?_
   refine WC.skip ?_
   refine DN.seq ?_
   refine WC.seq ?_
   refine WC.block ?_
   refine WC.seq ?_
   refine WC.rs [(0, 2), (1, 2), (2, 2), (3, 2), (4, 1)] rfl ?_
   refine WO.pn 3 rfl ?_
   obtain ⟨x15, hx15, h⟩ := Option.bind_eq_some_iff.mp h
   refine WO.k2 rfl rfl rfl rfl (rn_index f12.rdc hx15 Try.runUnderlying28 Try.sizeOf2 rfl rfl hn13 rfl) ?_
   obtain ⟨y36, hy36, h⟩ := Option.bind_eq_some_iff.mp h
   refine WO.stI (κ := K10) (E := (Ep.int .i64)) 2 [] rfl rfl rfl rfl rfl rfl rfl rfl Try.sizeOf2 rfl rfl rfl rfl f12 hy36 fun w15 K16 S17 f18 => ⟨trivial, ?_⟩
   have hn19 : p0.length = y36.length := hn13.trans (setI_ok hy36).2.2.2.symm
   refine WO.fin ?_
   refine DN.seq ?_
   refine WC.rs [(0, 2), (1, 2), (2, 2)] rfl ?_
   refine WO.pn 3 rfl ?_
   refine WO.fin ?_
   refine DN.block ?_
   refine DN.seq ?_
   refine WC.rs [(0, 2), (1, 2), (2, 2)] rfl ?_
   refine WO.pn 3 rfl ?_
   refine WO.fin ?_
   have hw1 : IntKind.wrap .i64 (v5 + 1) = v5 + 1 := wr1 hj1 (of_decide_eq_true hc1) hN1
   rw [hw1]
   have hc1 := of_decide_eq_true hc1
   obtain rfl := Option.some.inj h
   refine DN.round fun a ha => ?_
   exact ⟨k, _, Nat.lt_succ_self _, ⟨K16, v5 + 1, (((IntKind.i64.wrap (s1.1 + 1)) : Int), (y36 : (List Int))), rfl, (S11.tr S17).wk rfl, f18, hn19, by omega, by omega, hk14⟩, (ha.more (ha.more (ha.more ha.nil rfl) rfl) rfl)⟩
 rintro _ w4 ⟨K5, s3, rfl, S6, f7, hn8, rfl⟩
 have h := hK2
 dsimp only [aft] at h
 refine DN.seq ?_
 refine WC.seq ?_
 refine WC.rs [(0, 2), (1, 2)] rfl ?_
 refine WO.pn 2 rfl ?_
 refine WO.fin ?_
 refine DN.seq ?_
 refine WC.ret ?_
 have f20 := hE.stp S6 rfl rfl
 refine DN.res (l := [.tmp 4]) Try.results69 (res_tmp rfl rfl) rfl ?_
 obtain rfl := Option.some.inj h
 exact ⟨K5, rfl, f20, f7, hn8⟩

/- loop.example/g00869/laws.heldInt64S -/
theorem l_heldInt64S_ok {w : World} {κ : Col} {a0 : Option Addr} {u0 : Nat} {p0 : (List Int)} {p1 : Int} (g0 : Rd (Rp.int .i64) κ w 0 a0 u0 p0) {r : Int} (h : l_heldInt64S p0 p1 = some r) : Ret Try.prog 70 [.slice a0 p0.length u0, .int .i64 p1] w (fun v w' => ∃ (κ' : Col), v = .int .i64 r ∧ Ent κ w κ' w') := by
 unfold l_heldInt64S at h
 refine Ret.enter Try.func70 rfl Try.ntmps70 rfl ?_
 dsimp only [envOf]
 have hE := Ent.refl κ w
 refine WC.seq ?_
 refine WC.rs [(0, 2)] rfl ?_
 refine WO.pn 1 rfl ?_
 refine WO.fin ?_
 refine DN.seq ?_
 refine WC.seq ?_
 refine WC.seq ?_
 refine WC.rs [(0, 2)] rfl ?_
 refine WO.pn 1 rfl ?_
 refine WO.fin ?_
 refine DN.seq ?_
 have hN1 : (p0.length : Int) ≤ 9223372036854775807 := g0.len_le
 obtain ⟨q2, hq3, hK2⟩ := Option.bind_eq_some_iff.mp h
 clear h
 refine WC.meet (fun L w' => ∃ (κ' : Col) (s3 : Int), L = [(1, .int .i64 s3)] ∧ Stp [] κ w κ' w' ∧ q2 = Sum.inr s3) ?_ ?_
 ·
  refine WC.block ?_
  refine WC.loop (fun k L w' => ∃ (κ' : Col) (v5 : Int) (s1 : Int), L = [(0, .slice a0 p0.length u0), (1, .int .i64 s1), (5, .int .i64 v5)] ∧ Stp [] κ w κ' w' ∧ 0 ≤ v5 ∧ Int.toNat ((p0.length : Int) - v5) = k ∧ cntM (l_heldInt64S_b0 p0) k v5 s1 = some q2) ⟨_, _, ⟨κ, 0, (p1 : Int), rfl, (Stp.refl _ _).wk rfl, (by decide), (by simp), hq3⟩, fun a ha => (ha.more (ha.more (ha.more ha.nil rfl) rfl) rfl)⟩ ?_
  rintro k _ w7 ⟨K8, v5, s1, rfl, S9, hj1, hJ1, h⟩
  rcases k with _ | k
  ·
   have hk10 := h; obtain ⟨o1, h⟩ := ex_eq (Sum.inr (Sum.inl s1) : Int ⊕ ((Int) ⊕ (Int)))
   have hc1 : decide (v5 < (p0.length : Int)) = false := decide_eq_false (by omega)
   refine WC.seq ?_
   refine WC.seq ?_
   refine WC.rs [(0, 2), (1, 2), (2, 2), (3, 2)] rfl ?_
   refine WO.pn 2 rfl ?_
   refine WO.k2 rfl rfl rfl rfl (rn_len Try.runUnderlying28 rfl rfl) ?_
   refine WO.pn 1 rfl ?_
   refine WO.fin ?_
   refine DN.seq ?_
   refine WC.cf' rfl hc1 ?_
   refine WC.exit ?_
   refine DN.exitThen ?_
   refine DN.exitThen ?_
   obtain rfl := Option.some.inj h
   have h := hk10
   refine DN.hit ?_
   obtain rfl := Option.some.inj h
   exact DN.meet _ ⟨K8, (s1 : Int), rfl, S9.wk rfl, rfl⟩ fun a ha => (ha.more ha.nil rfl)
  ·
   obtain ⟨o1, h, hk10⟩ := Option.bind_eq_some_iff.mp h; unfold l_heldInt64S_b0 at h
   have hc1 : decide (v5 < (p0.length : Int)) = true := decide_eq_true (by omega)
   refine WC.seq ?_
   refine WC.seq ?_
   refine WC.rs [(0, 2), (1, 2), (2, 2), (3, 2)] rfl ?_
   refine WO.pn 2 rfl ?_
   refine WO.k2 rfl rfl rfl rfl (rn_len Try.runUnderlying28 rfl rfl) ?_
   refine WO.pn 1 rfl ?_
   refine WO.fin ?_
   refine DN.seq ?_
   refine WC.ct' rfl hc1 ?_
   refine WC.skip ?_
   refine DN.seq ?_
   refine WC.seq ?_
   refine WC.block ?_
   refine WC.seq ?_
   refine WC.seq ?_
   refine WC.rs [(0, 2), (1, 2), (2, 2), (3, 1), (4, 2), (5, 2)] rfl ?_
   refine WO.pn 2 rfl ?_
   obtain ⟨x14, hx14, h⟩ := Option.bind_eq_some_iff.mp h
   refine WO.k2 rfl rfl rfl rfl (rn_index g0 hx14 Try.runUnderlying28 Try.sizeOf2 rfl rfl rfl rfl) ?_
   have f11 := g0.stp S9 rfl rfl
   refine WO.k1 trivial rfl rfl rfl rfl (rn_ld Try.isAgg2 rfl rfl (hvE (f11.gInt hx14))) ?_
   refine WO.pn 2 rfl ?_
   refine WO.fin ?_
   refine DN.seq ?_
   revert h
   cases ht12 : (x14 != s1) with
   | true =>
    intro h; replace h := cT h
    refine WC.ct rfl ?_
    refine WC.seq ?_
    refine WC.rs [(0, 2)] rfl ?_
    refine WO.pn 1 rfl ?_
    refine WO.fin ?_
    refine DN.seq ?_
    refine WC.ret ?_
    refine DN.retThen ?_
    refine DN.retBlock ?_
    refine DN.retThen ?_
    refine DN.retThen ?_
    obtain rfl := Option.some.inj h
    obtain rfl := Option.some.inj hk10
    have h := hK2
    dsimp only [aft] at h
    refine DN.retBlock ?_
    refine DN.retMeet ?_
    refine DN.retThen ?_
    have f13 := hE.stp S9 rfl rfl
    refine DN.res (l := [.tmp 4]) Try.results70 (res_tmp rfl rfl) rfl ?_
    obtain rfl := Option.some.inj h
    exact ⟨K8, rfl, f13⟩
   | false =>
    intro h; replace h := cF h
    refine WC.cf rfl ?_
    refine WC.skip ?_
    refine DN.seq ?_
    refine WC.rs [(0, 2), (1, 2), (2, 2)] rfl ?_
    refine WO.pn 3 rfl ?_
    refine WO.fin ?_
    refine DN.block ?_
    refine DN.seq ?_
    refine WC.rs [(0, 2), (1, 2), (2, 2)] rfl ?_
    refine WO.pn 3 rfl ?_
    refine WO.fin ?_
    have hw1 : IntKind.wrap .i64 (v5 + 1) = v5 + 1 := wr1 hj1 (of_decide_eq_true hc1) hN1
    rw [hw1]
    have hc1 := of_decide_eq_true hc1
    obtain rfl := Option.some.inj h
    refine DN.round fun a ha => ?_
    exact ⟨k, _, Nat.lt_succ_self _, ⟨K8, v5 + 1, ((IntKind.i64.wrap (s1 + 1)) : Int), rfl, S9.wk rfl, by omega, by omega, hk10⟩, (ha.more (ha.more (ha.more ha.nil rfl) rfl) rfl)⟩
 rintro _ w4 ⟨K5, s3, rfl, S6, rfl⟩
 have h := hK2
 dsimp only [aft] at h
 refine DN.seq ?_
 refine WC.seq ?_
 refine WC.rs [(0, 2), (1, 2)] rfl ?_
 refine WO.pn 2 rfl ?_
 refine WO.fin ?_
 refine DN.seq ?_
 refine WC.ret ?_
 have f14 := hE.stp S6 rfl rfl
 refine DN.res (l := [.tmp 4]) Try.results70 (res_tmp rfl rfl) rfl ?_
 obtain rfl := Option.some.inj h
 exact ⟨K5, rfl, f14⟩

end Go.Proofs.Ytnmjfjppgpkieaa
