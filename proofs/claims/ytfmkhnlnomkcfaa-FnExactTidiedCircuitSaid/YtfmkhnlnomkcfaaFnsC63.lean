/- The walks, part 3. By program. -/
import Derived.Test.YtfmkhnlnomkcfaaFnsC60
set_option linter.unusedVariables false
set_option linter.unusedSimpArgs false
namespace Go.Proofs.Ytfmkhnlnomkcfaa
open Go Go.Wk Go.Proofs
set_option maxRecDepth 100000
set_option maxHeartbeats 1000000

/- loop.example/g00869/laws.toGateS -/
theorem l_toGateS_ok {w : World} {κ : Col} {a0 : Option Addr} {u0 : Nat} {p0 : (List Gate)} (g0 : Rd Gate.rp κ w 0 a0 u0 p0) {r : (List Gate)} (h : l_toGateS p0 = some r) : Ret Try.prog 103 [.slice a0 p0.length u0] w (fun v w' => ∃ (κ' : Col) (ra0 : Option Addr) (ru0 : Nat), v = .slice ra0 r.length ru0 ∧ Ent κ w κ' w' ∧ Oc Gate.ep159 159 κ' w' 2 ra0 ru0 r) := by
 unfold l_toGateS at h
 refine Ret.enter Try.func103 rfl Try.ntmps103 rfl ?_
 dsimp only [envOf]
 have hE := Ent.refl κ w
 refine WC.seq ?_
 refine WC.rs [(0, 2)] rfl ?_
 refine WO.pn 1 rfl ?_
 refine WO.fin ?_
 refine DN.seq ?_
 refine WC.seq ?_
 refine WC.rs [(0, 2), (1, 2), (2, 1), (3, 2)] rfl ?_
 refine WO.pn 1 rfl ?_
 refine WO.k2 rfl rfl rfl rfl (rn_len Try.runUnderlying45 rfl rfl) ?_
 obtain ⟨x7, hx7, h⟩ := Option.bind_eq_some_iff.mp h
 refine WO.mk (κ := κ) (E := Gate.ep159) (z := ((⟨0, 0⟩ : Gate) : Gate)) 2 rfl rfl rfl rfl rfl rfl rfl Try.underlying55 Tryinfo159 rfl rfl rfl rfl rfl (fun _ _ _ => ⟨[.int .i64 0], [.int .i64 0], fun _ => False, fun _ => False, rfl, fun _ h => h.elim, fun _ h => h.elim, rfl, rfl⟩) (mkS_C hx7) fun a7 u7 w1 K2 S3 f4 => ⟨trivial, ?_⟩
 refine WO.pn 1 rfl ?_
 refine WO.fin ?_
 refine DN.seq ?_
 refine WC.seq ?_
 refine WC.seq ?_
 refine WC.rs [(0, 2)] rfl ?_
 refine WO.pn 1 rfl ?_
 refine WO.fin ?_
 refine DN.seq ?_
 have hN5 : (p0.length : Int) ≤ 9223372036854775807 := g0.len_le
 obtain ⟨q2, hq7, hK6⟩ := Option.bind_eq_some_iff.mp h
 clear h
 refine WC.meet (fun L w' => ∃ (κ' : Col) (s3 : (List Gate)), L = [(3, .slice a7 x7.length u7)] ∧ Stp [2] K2 w1 κ' w' ∧ Oc Gate.ep159 159 κ' w' 2 a7 u7 s3 ∧ x7.length = s3.length ∧ q2 = Sum.inr s3) ?_ ?_
 ·
  refine WC.block ?_
  refine WC.loop (fun k L w' => ∃ (κ' : Col) (v4 : Int) (s1 : (List Gate)), L = [(0, .slice a0 p0.length u0), (3, .slice a7 x7.length u7), (4, .int .i64 v4)] ∧ Stp [2] K2 w1 κ' w' ∧ Oc Gate.ep159 159 κ' w' 2 a7 u7 s1 ∧ x7.length = s1.length ∧ 0 ≤ v4 ∧ Int.toNat ((p0.length : Int) - v4) = k ∧ cntM (l_toGateS_b0 p0) k v4 s1 = some q2) ⟨_, _, ⟨K2, 0, (x7 : (List Gate)), rfl, (Stp.refl _ _).wk rfl, f4, rfl, (by decide), (by simp), hq7⟩, fun a ha => (ha.more (ha.more (ha.more ha.nil rfl) rfl) rfl)⟩ ?_
  rintro k _ w13 ⟨K14, v4, s1, rfl, S15, f16, hn17, hj5, hJ5, h⟩
  rcases k with _ | k
  ·
   have hk18 := h; obtain ⟨o5, h⟩ := ex_eq (Sum.inr (Sum.inl s1) : (List Gate) ⊕ (((List Gate)) ⊕ ((List Gate))))
   have hc5 : decide (v4 < (p0.length : Int)) = false := decide_eq_false (by omega)
   refine WC.seq ?_
   refine WC.seq ?_
   refine WC.rs [(0, 2), (1, 2), (2, 2), (3, 2)] rfl ?_
   refine WO.pn 2 rfl ?_
   refine WO.k2 rfl rfl rfl rfl (rn_len Try.runUnderlying45 rfl rfl) ?_
   refine WO.pn 1 rfl ?_
   refine WO.fin ?_
   refine DN.seq ?_
   refine WC.cf' rfl hc5 ?_
   refine WC.exit ?_
   refine DN.exitThen ?_
   refine DN.exitThen ?_
   obtain rfl := Option.some.inj h
   have h := hk18
   refine DN.hit ?_
   obtain rfl := Option.some.inj h
   exact DN.meet _ ⟨K14, (s1 : (List Gate)), rfl, S15.wk rfl, f16, hn17, rfl⟩ fun a ha => (ha.more ha.nil rfl)
  ·
   obtain ⟨o5, h, hk18⟩ := Option.bind_eq_some_iff.mp h; unfold l_toGateS_b0 at h
   have hc5 : decide (v4 < (p0.length : Int)) = true := decide_eq_true (by omega)
   refine WC.seq ?_
   refine WC.seq ?_
   refine WC.rs [(0, 2), (1, 2), (2, 2), (3, 2)] rfl ?_
   refine WO.pn 2 rfl ?_
   refine WO.k2 rfl rfl rfl rfl (rn_len Try.runUnderlying45 rfl rfl) ?_
   refine WO.pn 1 rfl ?_
   refine WO.fin ?_
   refine DN.seq ?_
   refine WC.ct' rfl hc5 ?_
   refine WC.skip ?_
   refine DN.seq ?_
   refine WC.seq ?_
   refine WC.block ?_
   refine WC.rs [(0, 2), (1, 2), (2, 2), (3, 2), (4, 2), (5, 1), (6, 1), (7, 2), (8, 1)] rfl ?_
   refine WO.pn 4 rfl ?_
   obtain ⟨x18, hx18, h⟩ := Option.bind_eq_some_iff.mp h
   refine WO.k2 rfl rfl rfl rfl (rn_index g0 hx18 Try.runUnderlying45 Try.sizeOf214 rfl rfl rfl rfl) ?_
   have f19 := g0.stp (S3.tr S15) rfl rfl
   obtain ⟨cse20, hre20, hle20⟩ := (f19).gSt hx18
   obtain rfl := Gate.un hre20
   refine WO.k1 trivial rfl rfl rfl rfl (rn_la (cs := [.int .i64 x18.A, .int .i64 x18.B]) Try.isAgg214 Try.sizeOf214 rfl rfl rfl (haE hle20)) ?_
   obtain ⟨x20, hx20, h⟩ := Option.bind_eq_some_iff.mp h
   refine WO.call rfl rfl rfl rfl rfl rfl Try.call169 (l_toGate_ok (κ := fun b => mp [] 0 (K14 b)) (p0 := x18) hx20) ?_
   rintro _ w21 ⟨k22, rfl, e23⟩
   obtain ⟨K24, S25, m26⟩ := Ent.mixed (l := []) (κ := K14) e23 3 rfl
   refine ⟨trivial, ?_⟩
   obtain ⟨x21, hx21, h⟩ := Option.bind_eq_some_iff.mp h
   refine WO.k2 rfl rfl rfl rfl (rn_index f16.rdc hx21 Try.runUnderlying55 Try.sizeOf159 rfl rfl hn17 rfl) ?_
   have f28 := f16.stp S25 rfl rfl
   obtain ⟨y3, hy3, h⟩ := Option.bind_eq_some_iff.mp h
   refine WO.stI (κ := K24) (E := Gate.ep159) 2 [] rfl rfl rfl rfl rfl rfl rfl rfl Try.sizeOf159 rfl ⟨[.int .i64 x20.A], [.int .i64 x20.B], Zl K24 w21 [], Zl K24 w21 [], rfl, Zl.sp (l1 := []) (l2 := []) rfl, Zl.sr (l1 := []) (l2 := []), rfl, rfl⟩ rfl rfl f28 hy3 fun w29 K30 S31 f32 => ⟨trivial, ?_⟩
   have hn33 : x7.length = y3.length := hn17.trans (setI_ok hy3).2.2.2.symm
   refine WO.fin ?_
   refine DN.block ?_
   refine DN.seq ?_
   refine WC.rs [(0, 2), (1, 2), (2, 2)] rfl ?_
   refine WO.pn 3 rfl ?_
   refine WO.fin ?_
   have hw5 : IntKind.wrap .i64 (v4 + 1) = v4 + 1 := wr1 hj5 (of_decide_eq_true hc5) hN5
   rw [hw5]
   have hc5 := of_decide_eq_true hc5
   obtain rfl := Option.some.inj h
   refine DN.round fun a ha => ?_
   exact ⟨k, _, Nat.lt_succ_self _, ⟨K30, v4 + 1, (y3 : (List Gate)), rfl, (S15.tr (S25.tr S31)).wk rfl, f32, hn33, by omega, by omega, hk18⟩, (ha.more (ha.more (ha.more ha.nil rfl) rfl) rfl)⟩
 rintro _ w8 ⟨K9, s3, rfl, S10, f11, hn12, rfl⟩
 have h := hK6
 dsimp only [aft] at h
 refine DN.seq ?_
 refine WC.seq ?_
 refine WC.rs [(0, 2), (1, 2)] rfl ?_
 refine WO.pn 2 rfl ?_
 refine WO.fin ?_
 refine DN.seq ?_
 refine WC.ret ?_
 have f34 := hE.stp (S3.tr S10) rfl rfl
 refine DN.res (l := [.tmp 2]) Try.results103 (res_tmp rfl rfl) rfl ?_
 obtain rfl := Option.some.inj h
 exact ⟨K9, a7, u7, (by simp only [hn12]), f34, f11⟩

/- loop.example/g00869/spec.l31Needed -/
theorem s_l31Needed_ok {w : World} {κ : Col} {a0_2 : Option Addr} {u0_2 : Nat} {a0_3 : Option Addr} {u0_3 : Nat} {a0_4 : Option Addr} {u0_4 : Nat} {p0 : Circuit} (g0_2 : Rd (Rp.int .i64) κ w 0 a0_2 u0_2 p0.Next) (g0_3 : Rd Gate.rp κ w 0 a0_3 u0_3 p0.Gates) (g0_4 : Rd (Rp.int .i64) κ w 0 a0_4 u0_4 p0.Outs) {r : (List Bool)} (h : s_l31Needed p0 = some r) : Ret Try.prog 119 [.agg #[.int .i64 p0.Inputs, .int .i64 p0.Latches, .slice a0_2 p0.Next.length u0_2, .slice a0_3 p0.Gates.length u0_3, .slice a0_4 p0.Outs.length u0_4]] w (fun v w' => ∃ (κ' : Col) (ra0 : Option Addr) (ru0 : Nat), v = .slice ra0 r.length ru0 ∧ Ent κ w κ' w' ∧ Oc Ep.bool 4 κ' w' 2 ra0 ru0 r) := by
 unfold s_l31Needed at h
 refine Ret.enter Try.func119 rfl Try.ntmps119 rfl ?_
 dsimp only [envOf]
 have hE := Ent.refl κ w
 refine WC.seq ?_
 refine WC.rs [(0, 1), (1, 2)] rfl ?_
 refine WO.box (κ := κ) 2 rfl rfl rfl rfl rfl rfl rfl fun b1 w1 K2 S3 f4 => ⟨trivial, ?_⟩
 refine WO.pn 1 rfl ?_
 refine WO.fin ?_
 refine DN.seq ?_
 refine WC.seq ?_
 refine WC.rs [(0, 1), (1, 1), (2, 1), (3, 2)] rfl ?_
 refine WO.k1 trivial rfl rfl rfl rfl (rn_la (cs := [.int .i64 p0.Inputs, .int .i64 p0.Latches, .slice a0_2 p0.Next.length u0_2, .slice a0_3 p0.Gates.length u0_3, .slice a0_4 p0.Outs.length u0_4]) Try.isAgg57 Try.sizeOf57 rfl rfl rfl (haE f4.cells)) ?_
 obtain ⟨x9, hx9, h⟩ := Option.bind_eq_some_iff.mp h
 have f5 := g0_2.stp S3 rfl rfl
 have f6 := g0_3.stp S3 rfl rfl
 have f7 := g0_4.stp S3 rfl rfl
 refine WO.call rfl rfl rfl rfl rfl rfl Try.call120 (s_l31Signals_ok (κ := fun b => mp [] 0 (K2 b)) (p0 := p0) (Sl.map f5 (mp [] 0) rfl rfl) (Sl.map f6 (mp [] 0) rfl rfl) (Sl.map f7 (mp [] 0) rfl rfl) hx9) ?_
 rintro _ w8 ⟨k9, rfl, e10⟩
 obtain ⟨K11, S12, m13⟩ := Ent.mixed (l := []) (κ := K2) e10 3 rfl
 refine ⟨trivial, ?_⟩
 obtain ⟨x10, hx10, h⟩ := Option.bind_eq_some_iff.mp h
 refine WO.mk (κ := K11) (E := Ep.bool) (z := (false : Bool)) 5 rfl rfl rfl rfl rfl rfl rfl Try.underlying131 Tryinfo4 rfl rfl rfl rfl rfl (fun _ _ _ => rfl) (mkS_C hx10) fun a10 u10 w15 K16 S17 f18 => ⟨trivial, ?_⟩
 refine WO.pn 1 rfl ?_
 refine WO.fin ?_
 refine DN.seq ?_
 refine WC.seq ?_
 refine WC.seq ?_
 refine WC.rs [(0, 2)] rfl ?_
 refine WO.pn 1 rfl ?_
 refine WO.fin ?_
 refine DN.seq ?_
 have hN19 : (p0.Next.length : Int) ≤ 9223372036854775807 := f5.len_le
 obtain ⟨q2, hq21, hK20⟩ := Option.bind_eq_some_iff.mp h
 clear h
 refine WC.meet (fun L w' => ∃ (κ' : Col) (s3 : (List Bool)), L = [(1, .pointer (some ⟨b1, 0, none⟩)), (3, .slice a10 x10.length u10)] ∧ Stp [5] K16 w15 κ' w' ∧ Oc Ep.bool 4 κ' w' 5 a10 u10 s3 ∧ x10.length = s3.length ∧ q2 = Sum.inr s3) ?_ ?_
 ·
  refine WC.block ?_
  refine WC.loop (fun k L w' => ∃ (κ' : Col) (v4 : Int) (s1 : (List Bool)), L = [(1, .pointer (some ⟨b1, 0, none⟩)), (3, .slice a10 x10.length u10), (4, .int .i64 v4)] ∧ Stp [5] K16 w15 κ' w' ∧ Oc Ep.bool 4 κ' w' 5 a10 u10 s1 ∧ x10.length = s1.length ∧ 0 ≤ v4 ∧ Int.toNat ((p0.Next.length : Int) - v4) = k ∧ cntM (s_l31Needed_b0 p0) k v4 s1 = some q2) ⟨_, _, ⟨K16, 0, (x10 : (List Bool)), rfl, (Stp.refl _ _).wk rfl, f18, rfl, (by decide), (by simp), hq21⟩, fun a ha => (ha.more (ha.more (ha.more ha.nil rfl) rfl) rfl)⟩ ?_
  rintro k _ w27 ⟨K28, v4, s1, rfl, S29, f30, hn31, hj19, hJ19, h⟩
  rcases k with _ | k
  ·
   have hk32 := h; obtain ⟨o19, h⟩ := ex_eq (Sum.inr (Sum.inl s1) : (List Bool) ⊕ (((List Bool)) ⊕ ((List Bool))))
   have hc19 : decide (v4 < (p0.Next.length : Int)) = false := decide_eq_false (by omega)
   refine WC.seq ?_
   refine WC.seq ?_
   refine WC.rs [(0, 2), (1, 2), (2, 1), (3, 2), (4, 2)] rfl ?_
   refine WO.pn 1 rfl ?_
   refine WO.k2 rfl rfl rfl rfl (rn_fieldAddr Try.runUnderlying57 rfl Try.sizeOf22 rfl rfl) ?_
   have f33 := f4.stp (S12.tr (S17.tr S29)) rfl rfl
   refine WO.k1 trivial rfl rfl rfl rfl (rn_ld Try.isAgg22 rfl rfl (hvE (f33.ld 2 rfl rfl))) ?_
   refine WO.k2 rfl rfl rfl rfl (rn_len Try.runUnderlying22 rfl rfl) ?_
   refine WO.pn 1 rfl ?_
   refine WO.fin ?_
   refine DN.seq ?_
   refine WC.cf' rfl hc19 ?_
   refine WC.exit ?_
   refine DN.exitThen ?_
   refine DN.exitThen ?_
   obtain rfl := Option.some.inj h
   have h := hk32
   refine DN.hit ?_
   obtain rfl := Option.some.inj h
   exact DN.meet _ ⟨K28, (s1 : (List Bool)), rfl, S29.wk rfl, f30, hn31, rfl⟩ fun a ha => (ha.more (ha.more ha.nil rfl) rfl)
  ·
   obtain ⟨o19, h, hk32⟩ := Option.bind_eq_some_iff.mp h; unfold s_l31Needed_b0 at h
   have hc19 : decide (v4 < (p0.Next.length : Int)) = true := decide_eq_true (by omega)
   refine WC.seq ?_
   refine WC.seq ?_
   refine WC.rs [(0, 2), (1, 2), (2, 1), (3, 2), (4, 2)] rfl ?_
   refine WO.pn 1 rfl ?_
   refine WO.k2 rfl rfl rfl rfl (rn_fieldAddr Try.runUnderlying57 rfl Try.sizeOf22 rfl rfl) ?_
   have f34 := f4.stp (S12.tr (S17.tr S29)) rfl rfl
   refine WO.k1 trivial rfl rfl rfl rfl (rn_ld Try.isAgg22 rfl rfl (hvE (f34.ld 2 rfl rfl))) ?_
   refine WO.k2 rfl rfl rfl rfl (rn_len Try.runUnderlying22 rfl rfl) ?_
   refine WO.pn 1 rfl ?_
   refine WO.fin ?_
   refine DN.seq ?_
   refine WC.ct' rfl hc19 ?_
   refine WC.skip ?_
   refine DN.seq ?_
   refine WC.seq ?_
   refine WC.block ?_
   refine WC.rs [(0, 2), (1, 2), (2, 1), (3, 2), (4, 2), (5, 1), (6, 2), (7, 2), (8, 1)] rfl ?_
   refine WO.pn 1 rfl ?_
   refine WO.k2 rfl rfl rfl rfl (rn_fieldAddr Try.runUnderlying57 rfl Try.sizeOf22 rfl rfl) ?_
   refine WO.k1 trivial rfl rfl rfl rfl (rn_ld Try.isAgg22 rfl rfl (hvE (f34.ld 2 rfl rfl))) ?_
   refine WO.pn 1 rfl ?_
   obtain ⟨x22, hx22, h⟩ := Option.bind_eq_some_iff.mp h
   refine WO.k2 rfl rfl rfl rfl (rn_index f5 hx22 Try.runUnderlying22 Try.sizeOf2 rfl rfl rfl rfl) ?_
   have f35 := f5.stp (S12.tr (S17.tr S29)) rfl rfl
   refine WO.k1 trivial rfl rfl rfl rfl (rn_ld Try.isAgg2 rfl rfl (hvE (f35.gInt hx22))) ?_
   refine WO.k2 rfl rfl rfl rfl (rn_quo rfl rfl rfl (by decide)) ?_
   obtain ⟨x25, hx25, h⟩ := Option.bind_eq_some_iff.mp h
   refine WO.k2 rfl rfl rfl rfl (rn_index f30.rdc hx25 Try.runUnderlying131 Try.sizeOf4 rfl rfl hn31 rfl) ?_
   obtain ⟨y11, hy11, h⟩ := Option.bind_eq_some_iff.mp h
   refine WO.stI (κ := K28) (E := Ep.bool) 5 [] rfl rfl rfl rfl rfl rfl rfl rfl Try.sizeOf4 rfl rfl rfl rfl f30 hy11 fun w36 K37 S38 f39 => ⟨trivial, ?_⟩
   have hn40 : x10.length = y11.length := hn31.trans (setI_ok hy11).2.2.2.symm
   refine WO.fin ?_
   refine DN.block ?_
   refine DN.seq ?_
   refine WC.rs [(0, 2), (1, 2), (2, 2)] rfl ?_
   refine WO.pn 3 rfl ?_
   refine WO.fin ?_
   have hw19 : IntKind.wrap .i64 (v4 + 1) = v4 + 1 := wr1 hj19 (of_decide_eq_true hc19) hN19
   rw [hw19]
   have hc19 := of_decide_eq_true hc19
   obtain rfl := Option.some.inj h
   refine DN.round fun a ha => ?_
   exact ⟨k, _, Nat.lt_succ_self _, ⟨K37, v4 + 1, (y11 : (List Bool)), rfl, (S29.tr S38).wk rfl, f39, hn40, by omega, by omega, hk32⟩, (ha.more (ha.more (ha.more ha.nil rfl) rfl) rfl)⟩
 rintro _ w22 ⟨K23, s3, rfl, S24, f25, hn26, rfl⟩
 have h := hK20
 dsimp only [aft] at h
 refine DN.seq ?_
 refine WC.seq ?_
 refine WC.seq ?_
 refine WC.rs [(0, 2)] rfl ?_
 refine WO.pn 1 rfl ?_
 refine WO.fin ?_
 refine DN.seq ?_
 have hN41 : (p0.Outs.length : Int) ≤ 9223372036854775807 := f7.len_le
 obtain ⟨q5, hq43, hK42⟩ := Option.bind_eq_some_iff.mp h
 clear h
 refine WC.meet (fun L w' => ∃ (κ' : Col) (s6 : (List Bool)), L = [(1, .pointer (some ⟨b1, 0, none⟩)), (3, .slice a10 x10.length u10)] ∧ Stp [5] K23 w22 κ' w' ∧ Oc Ep.bool 4 κ' w' 5 a10 u10 s6 ∧ x10.length = s6.length ∧ q5 = Sum.inr s6) ?_ ?_
 ·
  refine WC.block ?_
  refine WC.loop (fun k L w' => ∃ (κ' : Col) (v5 : Int) (s4 : (List Bool)), L = [(1, .pointer (some ⟨b1, 0, none⟩)), (3, .slice a10 x10.length u10), (5, .int .i64 v5)] ∧ Stp [5] K23 w22 κ' w' ∧ Oc Ep.bool 4 κ' w' 5 a10 u10 s4 ∧ x10.length = s4.length ∧ 0 ≤ v5 ∧ Int.toNat ((p0.Outs.length : Int) - v5) = k ∧ cntM (s_l31Needed_b2 p0) k v5 s4 = some q5) ⟨_, _, ⟨K23, 0, (s3 : (List Bool)), rfl, (Stp.refl _ _).wk rfl, f25, hn26, (by decide), (by simp), hq43⟩, fun a ha => (ha.more (ha.more (ha.more ha.nil rfl) rfl) rfl)⟩ ?_
  rintro k _ w49 ⟨K50, v5, s4, rfl, S51, f52, hn53, hj41, hJ41, h⟩
  rcases k with _ | k
  ·
   have hk54 := h; obtain ⟨o41, h⟩ := ex_eq (Sum.inr (Sum.inl s4) : (List Bool) ⊕ (((List Bool)) ⊕ ((List Bool))))
   have hc41 : decide (v5 < (p0.Outs.length : Int)) = false := decide_eq_false (by omega)
   refine WC.seq ?_
   refine WC.seq ?_
   refine WC.rs [(0, 2), (1, 2), (2, 1), (3, 2), (4, 2)] rfl ?_
   refine WO.pn 1 rfl ?_
   refine WO.k2 rfl rfl rfl rfl (rn_fieldAddr Try.runUnderlying57 rfl Try.sizeOf22 rfl rfl) ?_
   have f55 := f4.stp (S12.tr (S17.tr (S24.tr S51))) rfl rfl
   refine WO.k1 trivial rfl rfl rfl rfl (rn_ld Try.isAgg22 rfl rfl (hvE (f55.ld 4 rfl rfl))) ?_
   refine WO.k2 rfl rfl rfl rfl (rn_len Try.runUnderlying22 rfl rfl) ?_
   refine WO.pn 1 rfl ?_
   refine WO.fin ?_
   refine DN.seq ?_
   refine WC.cf' rfl hc41 ?_
   refine WC.exit ?_
   refine DN.exitThen ?_
   refine DN.exitThen ?_
   obtain rfl := Option.some.inj h
   have h := hk54
   refine DN.hit ?_
   obtain rfl := Option.some.inj h
   exact DN.meet _ ⟨K50, (s4 : (List Bool)), rfl, S51.wk rfl, f52, hn53, rfl⟩ fun a ha => (ha.more (ha.more ha.nil rfl) rfl)
  ·
   obtain ⟨o41, h, hk54⟩ := Option.bind_eq_some_iff.mp h; unfold s_l31Needed_b2 at h
   have hc41 : decide (v5 < (p0.Outs.length : Int)) = true := decide_eq_true (by omega)
   refine WC.seq ?_
   refine WC.seq ?_
   refine WC.rs [(0, 2), (1, 2), (2, 1), (3, 2), (4, 2)] rfl ?_
   refine WO.pn 1 rfl ?_
   refine WO.k2 rfl rfl rfl rfl (rn_fieldAddr Try.runUnderlying57 rfl Try.sizeOf22 rfl rfl) ?_
   have f56 := f4.stp (S12.tr (S17.tr (S24.tr S51))) rfl rfl
   refine WO.k1 trivial rfl rfl rfl rfl (rn_ld Try.isAgg22 rfl rfl (hvE (f56.ld 4 rfl rfl))) ?_
   refine WO.k2 rfl rfl rfl rfl (rn_len Try.runUnderlying22 rfl rfl) ?_
   refine WO.pn 1 rfl ?_
   refine WO.fin ?_
   refine DN.seq ?_
   refine WC.ct' rfl hc41 ?_
   refine WC.skip ?_
   refine DN.seq ?_
   refine WC.seq ?_
   refine WC.block ?_
   refine WC.rs [(0, 2), (1, 2), (2, 1), (3, 2), (4, 2), (5, 1), (6, 2), (7, 2), (8, 1)] rfl ?_
   refine WO.pn 1 rfl ?_
   refine WO.k2 rfl rfl rfl rfl (rn_fieldAddr Try.runUnderlying57 rfl Try.sizeOf22 rfl rfl) ?_
   refine WO.k1 trivial rfl rfl rfl rfl (rn_ld Try.isAgg22 rfl rfl (hvE (f56.ld 4 rfl rfl))) ?_
   refine WO.pn 1 rfl ?_
   obtain ⟨x37, hx37, h⟩ := Option.bind_eq_some_iff.mp h
   refine WO.k2 rfl rfl rfl rfl (rn_index f7 hx37 Try.runUnderlying22 Try.sizeOf2 rfl rfl rfl rfl) ?_
   have f57 := f7.stp (S12.tr (S17.tr (S24.tr S51))) rfl rfl
   refine WO.k1 trivial rfl rfl rfl rfl (rn_ld Try.isAgg2 rfl rfl (hvE (f57.gInt hx37))) ?_
   refine WO.k2 rfl rfl rfl rfl (rn_quo rfl rfl rfl (by decide)) ?_
   obtain ⟨x40, hx40, h⟩ := Option.bind_eq_some_iff.mp h
   refine WO.k2 rfl rfl rfl rfl (rn_index f52.rdc hx40 Try.runUnderlying131 Try.sizeOf4 rfl rfl hn53 rfl) ?_
   obtain ⟨y12, hy12, h⟩ := Option.bind_eq_some_iff.mp h
   refine WO.stI (κ := K50) (E := Ep.bool) 5 [] rfl rfl rfl rfl rfl rfl rfl rfl Try.sizeOf4 rfl rfl rfl rfl f52 hy12 fun w58 K59 S60 f61 => ⟨trivial, ?_⟩
   have hn62 : x10.length = y12.length := hn53.trans (setI_ok hy12).2.2.2.symm
   refine WO.fin ?_
   refine DN.block ?_
   refine DN.seq ?_
   refine WC.rs [(0, 2), (1, 2), (2, 2)] rfl ?_
   refine WO.pn 3 rfl ?_
   refine WO.fin ?_
   have hw41 : IntKind.wrap .i64 (v5 + 1) = v5 + 1 := wr1 hj41 (of_decide_eq_true hc41) hN41
   rw [hw41]
   have hc41 := of_decide_eq_true hc41
   obtain rfl := Option.some.inj h
   refine DN.round fun a ha => ?_
   exact ⟨k, _, Nat.lt_succ_self _, ⟨K59, v5 + 1, (y12 : (List Bool)), rfl, (S51.tr S60).wk rfl, f61, hn62, by omega, by omega, hk54⟩, (ha.more (ha.more (ha.more ha.nil rfl) rfl) rfl)⟩
 rintro _ w44 ⟨K45, s6, rfl, S46, f47, hn48, rfl⟩
 have h := hK42
 dsimp only [aft] at h
 refine DN.seq ?_
 refine WC.seq ?_
 refine WC.rs [(0, 2), (1, 1), (2, 2), (3, 2), (4, 1), (5, 2), (6, 2)] rfl ?_
 refine WO.k2 rfl rfl rfl rfl (rn_fieldAddr Try.runUnderlying57 rfl Try.sizeOf2 rfl rfl) ?_
 have f63 := f4.stp (S12.tr (S17.tr (S24.tr S46))) rfl rfl
 refine WO.k1 trivial rfl rfl rfl rfl (rn_ld Try.isAgg2 rfl rfl (hvE (f63.ld 0 rfl rfl))) ?_
 refine WO.pn 1 rfl ?_
 refine WO.k2 rfl rfl rfl rfl (rn_fieldAddr Try.runUnderlying57 rfl Try.sizeOf2 rfl rfl) ?_
 refine WO.k1 trivial rfl rfl rfl rfl (rn_ld Try.isAgg2 rfl rfl (hvE (f63.ld 1 rfl rfl))) ?_
 refine WO.pn 2 rfl ?_
 refine WO.fin ?_
 refine DN.seq ?_
 refine WC.seq ?_
 refine WC.seq ?_
 refine WC.rs [(0, 2), (1, 1), (2, 2), (3, 2), (4, 2)] rfl ?_
 refine WO.k2 rfl rfl rfl rfl (rn_fieldAddr Try.runUnderlying57 rfl Try.sizeOf55 rfl rfl) ?_
 refine WO.k1 trivial rfl rfl rfl rfl (rn_ld Try.isAgg55 rfl rfl (hvE (f63.ld 3 rfl rfl))) ?_
 refine WO.k2 rfl rfl rfl rfl (rn_len Try.runUnderlying55 rfl rfl) ?_
 refine WO.pn 2 rfl ?_
 refine WO.fin ?_
 refine DN.seq ?_
 obtain ⟨q8, hq66, hK65⟩ := Option.bind_eq_some_iff.mp h
 clear h
 refine WC.meet (fun L w' => ∃ (κ' : Col) (s9 : Int × (List Bool)), L = [(3, .slice a10 x10.length u10)] ∧ Stp [5] K45 w44 κ' w' ∧ Oc Ep.bool 4 κ' w' 5 a10 u10 s9.2 ∧ x10.length = s9.2.length ∧ q8 = Sum.inr s9) ?_ ?_
 ·
  refine WC.block ?_
  refine WC.loop (fun k L w' => ∃ (κ' : Col) (s7 : Int × (List Bool)), L = [(1, .pointer (some ⟨b1, 0, none⟩)), (3, .slice a10 x10.length u10), (6, .int .i64 (IntKind.i64.wrap ((IntKind.i64.wrap (1 + p0.Inputs)) + p0.Latches))), (7, .int .i64 s7.1)] ∧ Stp [5] K45 w44 κ' w' ∧ Oc Ep.bool 4 κ' w' 5 a10 u10 s7.2 ∧ x10.length = s7.2.length ∧ whileM (s_l31Needed_b4 p0) k s7 = some q8) ⟨_, _, ⟨K45, (((IntKind.i64.wrap ((p0.Gates.length : Int) - 1)) : Int), (s6 : (List Bool))), rfl, (Stp.refl _ _).wk rfl, f47, hn48, hq66⟩, fun a ha => (ha.more (ha.more (ha.more (ha.more ha.nil rfl) rfl) rfl) rfl)⟩ ?_
  rintro k _ w72 ⟨K73, s7, rfl, S74, f75, hn76, h⟩
  rcases k with _ | k
  ·
   cases h
  ·
   obtain ⟨o64, h, hk77⟩ := Option.bind_eq_some_iff.mp h; unfold s_l31Needed_b4 at h
   refine WC.seq ?_
   refine WC.seq ?_
   refine WC.rs [(0, 2), (1, 2)] rfl ?_
   refine WO.pn 2 rfl ?_
   refine WO.fin ?_
   refine DN.seq ?_
   revert h
   cases ht78 : decide (0 ≤ s7.1) with
   | true =>
    intro h; replace h := cT h
    refine WC.ct rfl ?_
    refine WC.skip ?_
    refine DN.seq ?_
    refine WC.seq ?_
    refine WC.block ?_
    refine WC.seq ?_
    refine WC.rs [(0, 2), (1, 2), (2, 2), (3, 2), (4, 2), (5, 1)] rfl ?_
    refine WO.pn 4 rfl ?_
    obtain ⟨x59, hx59, h⟩ := Option.bind_eq_some_iff.mp h
    refine WO.k2 rfl rfl rfl rfl (rn_index f75.rdc hx59 Try.runUnderlying131 Try.sizeOf4 rfl rfl hn76 rfl) ?_
    refine WO.k1 trivial rfl rfl rfl rfl (rn_ld Try.isAgg4 rfl rfl (hvE (f75.rdc.gBool hx59))) ?_
    refine WO.fin ?_
    refine DN.seq ?_
    obtain ⟨q10, h, hK79⟩ := Option.bind_eq_some_iff.mp h
    refine WC.meet (fun L w' => ∃ (κ' : Col), L = [(1, .pointer (some ⟨b1, 0, none⟩)), (3, .slice a10 x10.length u10), (6, .int .i64 (IntKind.i64.wrap ((IntKind.i64.wrap (1 + p0.Inputs)) + p0.Latches))), (7, .int .i64 s7.1)] ∧ Stp [5] K73 w72 κ' w' ∧ Oc Ep.bool 4 κ' w' 5 a10 u10 q10 ∧ x10.length = q10.length) ?_ ?_
    ·
     revert h
     cases ht85 : x59 with
     | true =>
      intro h; replace h := cT h
      refine WC.ct rfl ?_
      refine WC.seq ?_
      refine WC.rs [(0, 2), (1, 2), (2, 1), (3, 2), (4, 2), (5, 2), (6, 1), (7, 2), (8, 2), (9, 1)] rfl ?_
      refine WO.pn 1 rfl ?_
      refine WO.k2 rfl rfl rfl rfl (rn_fieldAddr Try.runUnderlying57 rfl Try.sizeOf55 rfl rfl) ?_
      have f86 := f63.stp S74 rfl rfl
      refine WO.k1 trivial rfl rfl rfl rfl (rn_ld Try.isAgg55 rfl rfl (hvE (f86.ld 3 rfl rfl))) ?_
      refine WO.pn 1 rfl ?_
      obtain ⟨x65, hx65, h⟩ := Option.bind_eq_some_iff.mp h
      refine WO.k2 rfl rfl rfl rfl (rn_index f6 hx65 Try.runUnderlying55 Try.sizeOf159 rfl rfl rfl rfl) ?_
      refine WO.k2 rfl rfl rfl rfl (rn_fieldAddr Try.runUnderlying159 rfl Try.sizeOf2 rfl rfl) ?_
      have f87 := f6.stp (S12.tr (S17.tr (S24.tr (S46.tr S74)))) rfl rfl
      obtain ⟨cse88, hre88, hle88⟩ := (f87).gSt hx65
      obtain rfl := Gate.un hre88
      refine WO.k1 trivial rfl rfl rfl rfl (rn_ld Try.isAgg2 rfl rfl (hvE (fun w' hw' => hle88 w' hw' 0 _ rfl))) ?_
      refine WO.k2 rfl rfl rfl rfl (rn_quo rfl rfl rfl (by decide)) ?_
      obtain ⟨x69, hx69, h⟩ := Option.bind_eq_some_iff.mp h
      refine WO.k2 rfl rfl rfl rfl (rn_index f75.rdc hx69 Try.runUnderlying131 Try.sizeOf4 rfl rfl hn76 rfl) ?_
      obtain ⟨y13, hy13, h⟩ := Option.bind_eq_some_iff.mp h
      refine WO.stI (κ := K73) (E := Ep.bool) 5 [] rfl rfl rfl rfl rfl rfl rfl rfl Try.sizeOf4 rfl rfl rfl rfl f75 hy13 fun w89 K90 S91 f92 => ⟨trivial, ?_⟩
      have hn93 : x10.length = y13.length := hn76.trans (setI_ok hy13).2.2.2.symm
      refine WO.fin ?_
      refine DN.seq ?_
      refine WC.rs [(0, 2), (1, 2), (2, 1), (3, 2), (4, 2), (5, 2), (6, 1), (7, 2), (8, 2), (9, 1)] rfl ?_
      refine WO.pn 1 rfl ?_
      refine WO.k2 rfl rfl rfl rfl (rn_fieldAddr Try.runUnderlying57 rfl Try.sizeOf55 rfl rfl) ?_
      have f94 := f86.stp S91 rfl rfl
      refine WO.k1 trivial rfl rfl rfl rfl (rn_ld Try.isAgg55 rfl rfl (hvE (f94.ld 3 rfl rfl))) ?_
      refine WO.pn 1 rfl ?_
      obtain ⟨x74, hx74, h⟩ := Option.bind_eq_some_iff.mp h
      refine WO.k2 rfl rfl rfl rfl (rn_index f87 hx74 Try.runUnderlying55 Try.sizeOf159 rfl rfl rfl rfl) ?_
      refine WO.k2 rfl rfl rfl rfl (rn_fieldAddr Try.runUnderlying159 rfl Try.sizeOf2 rfl rfl) ?_
      have f95 := f87.stp S91 rfl rfl
      obtain ⟨cse96, hre96, hle96⟩ := (f95).gSt hx74
      obtain rfl := Gate.un hre96
      refine WO.k1 trivial rfl rfl rfl rfl (rn_ld Try.isAgg2 rfl rfl (hvE (fun w' hw' => hle96 w' hw' 1 _ rfl))) ?_
      refine WO.k2 rfl rfl rfl rfl (rn_quo rfl rfl rfl (by decide)) ?_
      obtain ⟨x78, hx78, h⟩ := Option.bind_eq_some_iff.mp h
      refine WO.k2 rfl rfl rfl rfl (rn_index f92.rdc hx78 Try.runUnderlying131 Try.sizeOf4 rfl rfl hn93 rfl) ?_
      obtain ⟨y14, hy14, h⟩ := Option.bind_eq_some_iff.mp h
      refine WO.stI (κ := K90) (E := Ep.bool) 5 [] rfl rfl rfl rfl rfl rfl rfl rfl Try.sizeOf4 rfl rfl rfl rfl f92 hy14 fun w97 K98 S99 f100 => ⟨trivial, ?_⟩
      have hn101 : x10.length = y14.length := hn93.trans (setI_ok hy14).2.2.2.symm
      refine WO.fin ?_
      obtain rfl := Option.some.inj h
      exact DN.meet _ ⟨K98, rfl, (S91.tr S99).wk rfl, f100, hn101⟩ fun a ha => (ha.more (ha.more (ha.more (ha.more ha.nil rfl) rfl) rfl) rfl)
     | false =>
      intro h; replace h := cF h
      refine WC.cf rfl ?_
      refine WC.skip ?_
      obtain rfl := Option.some.inj h
      exact DN.meet _ ⟨K73, rfl, (Stp.refl _ _).wk rfl, f75, hn76⟩ fun a ha => (ha.more (ha.more (ha.more (ha.more ha.nil rfl) rfl) rfl) rfl)
    rintro _ w80 ⟨K81, rfl, S82, f83, hn84⟩
    have h := hK79
    refine DN.block ?_
    refine DN.seq ?_
    refine WC.rs [(0, 2), (1, 2), (2, 2)] rfl ?_
    refine WO.pn 3 rfl ?_
    refine WO.fin ?_
    obtain rfl := Option.some.inj h
    refine DN.round fun a ha => ?_
    exact ⟨k, _, Nat.lt_succ_self _, ⟨K81, (((IntKind.i64.wrap (s7.1 - 1)) : Int), (q10 : (List Bool))), rfl, (S74.tr S82).wk rfl, f83, hn84, hk77⟩, (ha.more (ha.more (ha.more (ha.more ha.nil rfl) rfl) rfl) rfl)⟩
   | false =>
    intro h; replace h := cF h
    refine WC.cf rfl ?_
    refine WC.exit ?_
    refine DN.exitThen ?_
    refine DN.exitThen ?_
    obtain rfl := Option.some.inj h
    have h := hk77
    refine DN.hit ?_
    obtain rfl := Option.some.inj h
    exact DN.meet _ ⟨K73, ((s7.1 : Int), (s7.2 : (List Bool))), rfl, S74.wk rfl, f75, hn76, rfl⟩ fun a ha => (ha.more ha.nil rfl)
 rintro _ w67 ⟨K68, s9, rfl, S69, f70, hn71, rfl⟩
 have h := hK65
 dsimp only [aft] at h
 refine DN.seq ?_
 refine WC.seq ?_
 refine WC.rs [(0, 2), (1, 2)] rfl ?_
 refine WO.pn 2 rfl ?_
 refine WO.fin ?_
 refine DN.seq ?_
 refine WC.ret ?_
 have f102 := hE.stp (S3.tr (S12.tr (S17.tr (S24.tr (S46.tr S69))))) rfl rfl
 refine DN.res (l := [.tmp 2]) Try.results119 (res_tmp rfl rfl) rfl ?_
 obtain rfl := Option.some.inj h
 exact ⟨(fun b => ren [(5, 2)] (K68 b)), a10, u10, (by simp only [hn71]), (f102.map (ren [(5, 2)]) rfl rfl), (f70.map (ren [(5, 2)]) rfl rfl)⟩

/- slices.IndexFunc[[]int64,int64] -/
theorem slices_IndexFunc_I_int64__i_areLetters_1_ok {w : World} {κ : Col} {a0 : Option Addr} {u0 : Nat} {p0 : (List Int)} {c1_0 : Int} {b1_0 : Nat} (g0 : Rd (Rp.int .i64) κ w 0 a0 u0 p0) (gb1_0 : Bc κ w 0 b1_0 2 [.int .i64 c1_0]) {r : Int} (h : slices_IndexFunc_I_int64__i_areLetters_1 p0 c1_0 = some r) : Ret Try.prog 229 [.slice a0 p0.length u0, .func (.func 213) #[] #[.pointer (some ⟨b1_0, 0, none⟩)]] w (fun v w' => ∃ (κ' : Col), v = .int .i64 r ∧ Ent κ w κ' w') := by
 unfold slices_IndexFunc_I_int64__i_areLetters_1 at h
 refine Ret.enter Try.func229 rfl Try.ntmps229 rfl ?_
 dsimp only [envOf]
 have hE := Ent.refl κ w
 refine WC.seq ?_
 refine WC.rs [(0, 2)] rfl ?_
 refine WO.pn 1 rfl ?_
 refine WO.fin ?_
 refine DN.seq ?_
 refine WC.seq ?_
 refine WC.seq ?_
 refine WC.rs [(0, 2), (1, 2), (2, 2)] rfl ?_
 refine WO.pn 1 rfl ?_
 refine WO.k2 rfl rfl rfl rfl (rn_len Try.runUnderlying22 rfl rfl) ?_
 refine WO.pn 1 rfl ?_
 refine WO.fin ?_
 refine DN.seq ?_
 have hN1 : (p0.length : Int) ≤ 9223372036854775807 := g0.len_le
 obtain ⟨q2, hq3, hK2⟩ := Option.bind_eq_some_iff.mp h
 clear h
 refine WC.meet (fun L w' => ∃ (κ' : Col), L = [(1, .func (.func 213) #[] #[.pointer (some ⟨b1_0, 0, none⟩)])] ∧ Stp [] κ w κ' w' ∧ q2 = Sum.inr ()) ?_ ?_
 ·
  refine WC.block ?_
  refine WC.loop (fun k L w' => ∃ (κ' : Col) (v8 : Int), L = [(0, .slice a0 p0.length u0), (1, .func (.func 213) #[] #[.pointer (some ⟨b1_0, 0, none⟩)]), (7, .int .i64 (p0.length : Int)), (8, .int .i64 v8)] ∧ Stp [] κ w κ' w' ∧ 0 ≤ v8 ∧ Int.toNat ((p0.length : Int) - v8) = k ∧ cntM (slices_IndexFunc_I_int64__i_areLetters_1_b0 p0 c1_0) k v8 () = some q2) ⟨_, _, ⟨κ, 0, rfl, (Stp.refl _ _).wk rfl, (by decide), (by simp), hq3⟩, fun a ha => (ha.more (ha.more (ha.more (ha.more ha.nil rfl) rfl) rfl) rfl)⟩ ?_
  rintro k _ w7 ⟨K8, v8, rfl, S9, hj1, hJ1, h⟩
  rcases k with _ | k
  ·
   have hk10 := h; obtain ⟨o1, h⟩ := ex_eq (Sum.inr (Sum.inl ()) : Int ⊕ ((Unit) ⊕ (Unit)))
   have hc1 : decide (v8 < (p0.length : Int)) = false := decide_eq_false (by omega)
   refine WC.seq ?_
   refine WC.rs [(0, 2)] rfl ?_
   refine WO.pn 1 rfl ?_
   refine WO.fin ?_
   refine DN.seq ?_
   refine WC.seq ?_
   refine WC.cf' rfl hc1 ?_
   refine WC.exit ?_
   refine DN.exitThen ?_
   refine DN.exitThen ?_
   obtain rfl := Option.some.inj h
   have h := hk10
   refine DN.hit ?_
   obtain rfl := Option.some.inj h
   exact DN.meet _ ⟨K8, rfl, S9.wk rfl, rfl⟩ fun a ha => (ha.more ha.nil rfl)
  ·
   obtain ⟨o1, h, hk10⟩ := Option.bind_eq_some_iff.mp h; unfold slices_IndexFunc_I_int64__i_areLetters_1_b0 at h
   have hc1 : decide (v8 < (p0.length : Int)) = true := decide_eq_true (by omega)
   refine WC.seq ?_
   refine WC.rs [(0, 2)] rfl ?_
   refine WO.pn 1 rfl ?_
   refine WO.fin ?_
   refine DN.seq ?_
   refine WC.seq ?_
   refine WC.ct' rfl hc1 ?_
   refine WC.skip ?_
   refine DN.seq ?_
   refine WC.seq ?_
   refine WC.block ?_
   refine WC.seq ?_
   refine WC.rs [(0, 2), (1, 2)] rfl ?_
   refine WO.pn 2 rfl ?_
   refine WO.fin ?_
   refine DN.seq ?_
   refine WC.seq ?_
   refine WC.rs [(0, 2), (1, 2), (2, 2), (3, 2), (4, 1), (5, 1)] rfl ?_
   refine WO.pn 3 rfl ?_
   obtain ⟨x14, hx14, h⟩ := Option.bind_eq_some_iff.mp h
   refine WO.k2 rfl rfl rfl rfl (rn_index g0 hx14 Try.runUnderlying22 Try.sizeOf2 rfl rfl rfl rfl) ?_
   have f11 := g0.stp S9 rfl rfl
   refine WO.k1 trivial rfl rfl rfl rfl (rn_ld Try.isAgg2 rfl rfl (hvE (f11.gInt hx14))) ?_
   obtain ⟨x16, hx16, h⟩ := Option.bind_eq_some_iff.mp h
   have f12 := gb1_0.stp S9 rfl rfl
   refine WO.callV rfl rfl rfl rfl rfl rfl rfl rfl Try.call213 (i_areLetters_1_ok (κ := fun b => mp [] 0 (K8 b)) (f12.map (mp [] 0) rfl rfl) hx16) ?_
   rintro _ w13 ⟨k14, rfl, e15⟩
   obtain ⟨K16, S17, m18⟩ := Ent.mixed (l := []) (κ := K8) e15 2 rfl
   refine ⟨trivial, ?_⟩
   refine WO.fin ?_
   refine DN.seq ?_
   revert h
   cases ht20 : x16 with
   | true =>
    intro h; replace h := cT h
    refine WC.ct rfl ?_
    refine WC.seq ?_
    refine WC.rs [(0, 2), (1, 2)] rfl ?_
    refine WO.pn 2 rfl ?_
    refine WO.fin ?_
    refine DN.seq ?_
    refine WC.ret ?_
    refine DN.retBlock ?_
    refine DN.retThen ?_
    refine DN.retThen ?_
    obtain rfl := Option.some.inj h
    obtain rfl := Option.some.inj hk10
    have h := hK2
    dsimp only [aft] at h
    refine DN.retBlock ?_
    refine DN.retMeet ?_
    refine DN.retThen ?_
    have f21 := hE.stp (S9.tr S17) rfl rfl
    refine DN.res (l := [.tmp 4]) Try.results229 (res_tmp rfl rfl) rfl ?_
    obtain rfl := Option.some.inj h
    exact ⟨K16, rfl, f21⟩
   | false =>
    intro h; replace h := cF h
    refine WC.cf rfl ?_
    refine WC.skip ?_
    refine DN.block ?_
    refine DN.seq ?_
    refine WC.rs [(0, 2), (1, 2)] rfl ?_
    refine WO.pn 2 rfl ?_
    refine WO.fin ?_
    have hw1 : IntKind.wrap .i64 (v8 + 1) = v8 + 1 := wr1 hj1 (of_decide_eq_true hc1) hN1
    rw [hw1]
    have hc1 := of_decide_eq_true hc1
    obtain rfl := Option.some.inj h
    refine DN.round fun a ha => ?_
    exact ⟨k, _, Nat.lt_succ_self _, ⟨K16, v8 + 1, rfl, (S9.tr S17).wk rfl, by omega, by omega, hk10⟩, (ha.more (ha.more (ha.more (ha.more ha.nil rfl) rfl) rfl) rfl)⟩
 rintro _ w4 ⟨K5, rfl, S6, rfl⟩
 have h := hK2
 dsimp only [aft] at h
 refine DN.seq ?_
 refine WC.seq ?_
 refine WC.rs [(0, 2)] rfl ?_
 refine WO.pn 1 rfl ?_
 refine WO.fin ?_
 refine DN.seq ?_
 refine WC.ret ?_
 have f22 := hE.stp S6 rfl rfl
 refine DN.res (l := [.tmp 4]) Try.results229 (res_tmp rfl rfl) rfl ?_
 obtain rfl := Option.some.inj h
 exact ⟨K5, rfl, f22⟩

/- loop.example/g00869/laws.markCircuit -/
theorem l_markCircuit_ok {w : World} {κ : Col} {a0_2 : Option Addr} {u0_2 : Nat} {a0_3 : Option Addr} {u0_3 : Nat} {a0_4 : Option Addr} {u0_4 : Nat} {p0 : Circuit} {p1 : Int} (g0_2 : Oc (Ep.int .i64) 2 κ w 2 a0_2 u0_2 p0.Next) (g0_3 : Oc Gate.ep159 159 κ w 3 a0_3 u0_3 p0.Gates) (g0_4 : Oc (Ep.int .i64) 2 κ w 4 a0_4 u0_4 p0.Outs) {r : Int × (List Int) × (List Gate) × (List Int)} (h : l_markCircuit p0 p1 = some r) : Ret Try.prog 30 [.agg #[.int .i64 p0.Inputs, .int .i64 p0.Latches, .slice a0_2 p0.Next.length u0_2, .slice a0_3 p0.Gates.length u0_3, .slice a0_4 p0.Outs.length u0_4], .int .i64 p1] w (fun v w' => ∃ (κ' : Col), v = .int .i64 r.1 ∧ Ent κ w κ' w' ∧ Oc (Ep.int .i64) 2 κ' w' 2 a0_2 u0_2 r.2.1 ∧ p0.Next.length = r.2.1.length ∧ Oc Gate.ep159 159 κ' w' 3 a0_3 u0_3 r.2.2.1 ∧ p0.Gates.length = r.2.2.1.length ∧ Oc (Ep.int .i64) 2 κ' w' 4 a0_4 u0_4 r.2.2.2 ∧ p0.Outs.length = r.2.2.2.length) := by
 unfold l_markCircuit at h
 refine Ret.enter Try.func30 rfl Try.ntmps30 rfl ?_
 dsimp only [envOf]
 have hE := Ent.refl κ w
 refine WC.seq ?_
 refine WC.rs [(0, 1), (1, 2)] rfl ?_
 refine WO.box (κ := κ) 5 rfl rfl rfl rfl rfl rfl rfl fun b2 w1 K2 S3 f4 => ⟨trivial, ?_⟩
 refine WO.pn 1 rfl ?_
 refine WO.fin ?_
 refine DN.seq ?_
 refine WC.seq ?_
 refine WC.rs [(0, 2), (1, 1), (2, 2), (3, 1), (4, 2)] rfl ?_
 refine WO.k2 rfl rfl rfl rfl (rn_fieldAddr Try.runUnderlying57 rfl Try.sizeOf22 rfl rfl) ?_
 refine WO.k1 trivial rfl rfl rfl rfl (rn_ld Try.isAgg22 rfl rfl (hvE (f4.ld 2 rfl rfl))) ?_
 refine WO.pn 1 rfl ?_
 obtain ⟨x8, hx8, h⟩ := Option.bind_eq_some_iff.mp h
 have f5 := g0_2.stp S3 rfl rfl
 refine WO.call rfl rfl rfl rfl rfl rfl Try.call21 (l_markInt64S_ok (κ := fun b => mp [(2, 2)] 0 (K2 b)) (f5.map (mp [(2, 2)] 0) rfl rfl) hx8) ?_
 rintro _ w6 ⟨k7, rfl, e8, f9, hn10⟩
 obtain ⟨K11, S12, m13⟩ := Ent.mixed (l := [(2, 2)]) (κ := K2) e8 6 rfl
 refine ⟨trivial, ?_⟩
 have f15 := f9.mx (no_int _) m13 rfl (rfl : 6 + 2 = 8)
 refine WO.pn 1 rfl ?_
 refine WO.fin ?_
 refine DN.seq ?_
 refine WC.seq ?_
 refine WC.rs [(0, 2), (1, 1), (2, 2), (3, 1), (4, 2)] rfl ?_
 refine WO.k2 rfl rfl rfl rfl (rn_fieldAddr Try.runUnderlying57 rfl Try.sizeOf55 rfl rfl) ?_
 have f16 := f4.stp S12 rfl rfl
 refine WO.k1 trivial rfl rfl rfl rfl (rn_ld Try.isAgg55 rfl rfl (hvE (f16.ld 3 rfl rfl))) ?_
 refine WO.pn 1 rfl ?_
 obtain ⟨x12, hx12, h⟩ := Option.bind_eq_some_iff.mp h
 have f17 := g0_3.stp (S3.tr S12) rfl rfl
 refine WO.call rfl rfl rfl rfl rfl rfl Try.call110 (l_markGateS_ok (κ := fun b => mp [(3, 2)] 0 (K11 b)) (f17.map (mp [(3, 2)] 0) rfl rfl) hx12) ?_
 rintro _ w18 ⟨k19, rfl, e20, f21, hn22⟩
 obtain ⟨K23, S24, m25⟩ := Ent.mixed (l := [(3, 2)]) (κ := K11) e20 9 rfl
 refine ⟨trivial, ?_⟩
 have f27 := f21.mx Gate.no159 m25 rfl (rfl : 9 + 2 = 11)
 refine WO.pn 1 rfl ?_
 refine WO.fin ?_
 refine DN.seq ?_
 refine WC.seq ?_
 refine WC.rs [(0, 2), (1, 1), (2, 2), (3, 1), (4, 2)] rfl ?_
 refine WO.k2 rfl rfl rfl rfl (rn_fieldAddr Try.runUnderlying57 rfl Try.sizeOf22 rfl rfl) ?_
 have f28 := f16.stp S24 rfl rfl
 refine WO.k1 trivial rfl rfl rfl rfl (rn_ld Try.isAgg22 rfl rfl (hvE (f28.ld 4 rfl rfl))) ?_
 refine WO.pn 1 rfl ?_
 obtain ⟨x16, hx16, h⟩ := Option.bind_eq_some_iff.mp h
 have f29 := g0_4.stp (S3.tr (S12.tr S24)) rfl rfl
 refine WO.call rfl rfl rfl rfl rfl rfl Try.call21 (l_markInt64S_ok (κ := fun b => mp [(4, 2)] 0 (K23 b)) (f29.map (mp [(4, 2)] 0) rfl rfl) hx16) ?_
 rintro _ w30 ⟨k31, rfl, e32, f33, hn34⟩
 obtain ⟨K35, S36, m37⟩ := Ent.mixed (l := [(4, 2)]) (κ := K23) e32 12 rfl
 refine ⟨trivial, ?_⟩
 have f39 := f33.mx (no_int _) m37 rfl (rfl : 12 + 2 = 14)
 refine WO.pn 1 rfl ?_
 refine WO.fin ?_
 refine DN.seq ?_
 refine WC.seq ?_
 refine WC.rs [(0, 2), (1, 2)] rfl ?_
 refine WO.pn 2 rfl ?_
 refine WO.fin ?_
 refine DN.seq ?_
 refine WC.ret ?_
 have f40 := hE.stp (S3.tr (S12.tr (S24.tr S36))) rfl rfl
 have f41 := f15.stp (S24.tr S36) rfl rfl
 have f42 := f27.stp S36 rfl rfl
 refine DN.res (l := [.tmp 4]) Try.results30 (res_tmp rfl rfl) rfl ?_
 obtain rfl := Option.some.inj h
 exact ⟨(fun b => ren [(8, 2), (11, 3), (14, 4)] (K35 b)), rfl, (f40.map (ren [(8, 2), (11, 3), (14, 4)]) rfl rfl), (f41.map (ren [(8, 2), (11, 3), (14, 4)]) rfl rfl), (hn10), (f42.map (ren [(8, 2), (11, 3), (14, 4)]) rfl rfl), (hn22), (f39.map (ren [(8, 2), (11, 3), (14, 4)]) rfl rfl), (hn34)⟩

/- loop.example/g00869/spec.SigOk -/
theorem s_SigOk_ok {w : World} {κ : Col} {p0 : Sig}  {r : Bool} (h : s_SigOk p0 = some r) : Ret Try.prog 99 [.agg #[.int .i64 p0.In, .int .i64 p0.Out]] w (fun v w' => ∃ (κ' : Col), v = .bool r ∧ Ent κ w κ' w') := by
 unfold s_SigOk at h
 refine Ret.enter Try.func99 rfl Try.ntmps99 rfl ?_
 dsimp only [envOf]
 have hE := Ent.refl κ w
 refine WC.seq ?_
 refine WC.rs [(0, 1), (1, 2)] rfl ?_
 refine WO.box (κ := κ) 2 rfl rfl rfl rfl rfl rfl rfl fun b1 w1 K2 S3 f4 => ⟨trivial, ?_⟩
 refine WO.pn 1 rfl ?_
 refine WO.fin ?_
 refine DN.seq ?_
 refine WC.seq ?_
 refine WC.rs [(0, 2), (1, 1), (2, 1), (3, 2), (4, 2), (5, 1), (6, 1), (7, 2), (8, 2)] rfl ?_
 refine WO.k2 rfl rfl rfl rfl (rn_fieldAddr Try.runUnderlying53 rfl Try.sizeOf2 rfl rfl) ?_
 refine WO.k1 trivial rfl rfl rfl rfl (rn_ld Try.isAgg2 rfl rfl (hvE (f4.ld 0 rfl rfl))) ?_
 obtain ⟨x5, hx5, h⟩ := Option.bind_eq_some_iff.mp h
 refine WO.call rfl rfl rfl rfl rfl rfl Try.call150 (s_l1In_ok (κ := fun b => mp [] 0 (K2 b)) hx5) ?_
 rintro _ w5 ⟨k6, rfl, e7⟩
 obtain ⟨K8, S9, m10⟩ := Ent.mixed (l := []) (κ := K2) e7 3 rfl
 refine ⟨trivial, ?_⟩
 refine WO.pn 1 rfl ?_
 obtain ⟨p10, h, hK12⟩ := Option.bind_eq_some_iff.mp h
 refine WO.meet [(4, 2), (5, 1), (6, 1), (7, 2)] [(8, 2)] (fun L w' => L = [(2, .bool false), (10, .bool p10)] ∧ ∃ κ', Stp [] K8 w5 κ' w') trivial ?_ ?_
 ·
  revert h
  cases ht13 : x5 with
  | true =>
   intro h; replace h := cT h
   refine WO.k2 rfl rfl rfl rfl (rn_fieldAddr Try.runUnderlying53 rfl Try.sizeOf2 rfl rfl) ?_
   have f14 := f4.stp S9 rfl rfl
   refine WO.k1 trivial rfl rfl rfl rfl (rn_ld Try.isAgg2 rfl rfl (hvE (f14.ld 1 rfl rfl))) ?_
   obtain ⟨x9, hx9, h⟩ := Option.bind_eq_some_iff.mp h
   refine WO.call rfl rfl rfl rfl rfl rfl Try.call150 (s_l1In_ok (κ := fun b => mp [] 0 (K8 b)) hx9) ?_
   rintro _ w15 ⟨k16, rfl, e17⟩
   obtain ⟨K18, S19, m20⟩ := Ent.mixed (l := []) (κ := K8) e17 5 rfl
   refine ⟨trivial, ?_⟩
   refine WO.pn 1 rfl ?_
   obtain rfl := Option.some.inj h
   exact WO.met _ trivial ⟨rfl, _, S19.wk rfl⟩ fun a ha => (ha.more (ha.more ha.nil rfl) rfl)
  | false =>
   intro h; replace h := cF h
   refine WO.pn 1 rfl ?_
   refine WO.ls rfl rfl rfl rfl ?_
   refine WO.ls rfl rfl rfl rfl ?_
   refine WO.pn 1 rfl ?_
   obtain rfl := Option.some.inj h
   exact WO.met _ trivial ⟨rfl, _, (Stp.refl _ _).wk rfl⟩ fun a ha => (ha.more (ha.more ha.nil rfl) rfl)
 rintro _ w22 _ ⟨rfl, K23, S24⟩
 have h := hK12
 refine WO.pn 1 rfl ?_
 refine WO.fin ?_
 refine DN.seq ?_
 refine WC.ret ?_
 have f25 := hE.stp (S3.tr (S9.tr S24)) rfl rfl
 refine DN.res (l := [.tmp 2]) Try.results99 (res_tmp rfl rfl) rfl ?_
 obtain rfl := Option.some.inj h
 exact ⟨K23, rfl, f25⟩

/- loop.example/g00869/impl.stepOf -/
theorem i_stepOf_ok {w : World} {κ : Col} {a0_2 : Option Addr} {u0_2 : Nat} {a0_3 : Option Addr} {u0_3 : Nat} {a0_4 : Option Addr} {u0_4 : Nat} {p0 : Circuit} {p1 : Int} {p2 : Int} (g0_2 : Rd (Rp.int .i64) κ w 0 a0_2 u0_2 p0.Next) (g0_3 : Rd Gate.rp κ w 0 a0_3 u0_3 p0.Gates) (g0_4 : Rd (Rp.int .i64) κ w 0 a0_4 u0_4 p0.Outs) {r : Int × Int} (h : i_stepOf p0 p1 p2 = some r) : Ret Try.prog 107 [.agg #[.int .i64 p0.Inputs, .int .i64 p0.Latches, .slice a0_2 p0.Next.length u0_2, .slice a0_3 p0.Gates.length u0_3, .slice a0_4 p0.Outs.length u0_4], .int .i64 p1, .int .i64 p2] w (fun v w' => ∃ (κ' : Col), v = .tuple #[.int .i64 r.1, .int .i64 r.2] ∧ Ent κ w κ' w') := by
 unfold i_stepOf at h
 refine Ret.enter Try.func107 rfl Try.ntmps107 rfl ?_
 dsimp only [envOf]
 have hE := Ent.refl κ w
 refine WC.seq ?_
 refine WC.rs [(0, 1), (1, 2), (2, 2)] rfl ?_
 refine WO.box (κ := κ) 2 rfl rfl rfl rfl rfl rfl rfl fun b3 w1 K2 S3 f4 => ⟨trivial, ?_⟩
 refine WO.pn 2 rfl ?_
 refine WO.fin ?_
 refine DN.seq ?_
 refine WC.seq ?_
 refine WC.rs [(0, 1), (1, 1), (2, 1), (3, 1), (4, 1)] rfl ?_
 refine WO.k1 trivial rfl rfl rfl rfl (rn_la (cs := [.int .i64 p0.Inputs, .int .i64 p0.Latches, .slice a0_2 p0.Next.length u0_2, .slice a0_3 p0.Gates.length u0_3, .slice a0_4 p0.Outs.length u0_4]) Try.isAgg57 Try.sizeOf57 rfl rfl rfl (haE f4.cells)) ?_
 obtain ⟨x21, hx21, h⟩ := Option.bind_eq_some_iff.mp h
 have f5 := g0_2.stp S3 rfl rfl
 have f6 := g0_3.stp S3 rfl rfl
 have f7 := g0_4.stp S3 rfl rfl
 refine WO.call rfl rfl rfl rfl rfl rfl Try.call171 (i_signalsOf_ok (κ := fun b => mp [] 0 (K2 b)) (p0 := p0) (Sl.map f5 (mp [] 0) rfl rfl) (Sl.map f6 (mp [] 0) rfl rfl) (Sl.map f7 (mp [] 0) rfl rfl) hx21) ?_
 rintro _ w8 ⟨k9, rfl, e10⟩
 obtain ⟨K11, S12, m13⟩ := Ent.mixed (l := []) (κ := K2) e10 3 rfl
 refine ⟨trivial, ?_⟩
 obtain ⟨x22, hx22, h⟩ := Option.bind_eq_some_iff.mp h
 refine WO.mk (κ := K11) (E := (Ep.int .i64)) (z := (0 : Int)) 5 rfl rfl rfl rfl rfl rfl rfl Try.underlying22 Tryinfo2 rfl rfl rfl rfl rfl (fun _ _ _ => rfl) hx22 fun a22 u22 w15 K16 S17 f18 => ⟨trivial, ?_⟩
 refine WO.alloc (κ := K16) 6 rfl rfl rfl rfl rfl Try.zeroValue22 rfl fun b8 w19 K20 S21 f22 => ⟨trivial, ?_⟩
 refine WO.stB0 (κ := K20) 6 (vc := [.slice a22 x22.length u22]) rfl rfl rfl rfl rfl rfl rfl Try.sizeOf22 rfl rfl f22 rfl fun w23 S24 f25 => ⟨trivial, ?_⟩
 refine WO.fin ?_
 refine DN.seq ?_
 refine WC.seq ?_
 refine WC.seq ?_
 refine WC.rs [(0, 2), (1, 1), (2, 2)] rfl ?_
 refine WO.k2 rfl rfl rfl rfl (rn_fieldAddr Try.runUnderlying57 rfl Try.sizeOf2 rfl rfl) ?_
 have f26 := f4.stp (S12.tr (S17.tr (S21.tr S24))) rfl rfl
 refine WO.k1 trivial rfl rfl rfl rfl (rn_ld Try.isAgg2 rfl rfl (hvE (f26.ld 0 rfl rfl))) ?_
 refine WO.pn 1 rfl ?_
 refine WO.fin ?_
 refine DN.seq ?_
 obtain ⟨_, hr27, h⟩ := Option.bind_eq_some_iff.mp h
 have hN27 := rng_ok hr27
 obtain ⟨q2, hq29, hK28⟩ := Option.bind_eq_some_iff.mp h
 clear h
 refine WC.meet (fun L w' => ∃ (κ' : Col) (s3 : (List Int)) (las3_0 : Option Addr) (lus3_0 : Nat), L = [(1, .int .i64 p1), (3, .pointer (some ⟨b3, 0, none⟩)), (8, .pointer (some ⟨b8, 0, none⟩))] ∧ Stp [5, 6] K20 w23 κ' w' ∧ Oc (Ep.int .i64) 2 κ' w' 5 las3_0 lus3_0 s3 ∧ Bc κ' w' 6 b8 22 [.slice las3_0 s3.length lus3_0] ∧ q2 = Sum.inr s3) ?_ ?_
 ·
  refine WC.block ?_
  have f40 := f18.stp (S21.tr S24) rfl rfl
  refine WC.loop (fun k L w' => ∃ (κ' : Col) (v25 : Int) (s1 : (List Int)) (las1_0 : Option Addr) (lus1_0 : Nat), L = [(1, .int .i64 p1), (2, .int .i64 p2), (3, .pointer (some ⟨b3, 0, none⟩)), (8, .pointer (some ⟨b8, 0, none⟩)), (24, .int .i64 p0.Inputs), (25, .int .i64 v25)] ∧ Stp [5, 6] K20 w23 κ' w' ∧ Oc (Ep.int .i64) 2 κ' w' 5 las1_0 lus1_0 s1 ∧ Bc κ' w' 6 b8 22 [.slice las1_0 s1.length lus1_0] ∧ 0 ≤ v25 ∧ Int.toNat (p0.Inputs - v25) = k ∧ cntM (i_stepOf_b0 p2) k v25 s1 = some q2) ⟨_, _, ⟨K20, 0, (x22 : (List Int)), a22, u22, rfl, (Stp.refl _ _).wk rfl, f40, f25, (by decide), (by simp), hq29⟩, fun a ha => (ha.more (ha.more (ha.more (ha.more (ha.more (ha.more ha.nil rfl) rfl) rfl) rfl) rfl) rfl)⟩ ?_
  rintro k _ w35 ⟨K36, v25, s1, las1_0, lus1_0, rfl, S37, f38, f39, hj27, hJ27, h⟩
  rcases k with _ | k
  ·
   have hk41 := h; obtain ⟨o27, h⟩ := ex_eq (Sum.inr (Sum.inl s1) : (Int × Int) ⊕ (((List Int)) ⊕ ((List Int))))
   have hc27 : decide (v25 < p0.Inputs) = false := decide_eq_false (by omega)
   refine WC.seq ?_
   refine WC.rs [(0, 2)] rfl ?_
   refine WO.pn 1 rfl ?_
   refine WO.fin ?_
   refine DN.seq ?_
   refine WC.seq ?_
   refine WC.cf' rfl hc27 ?_
   refine WC.exit ?_
   refine DN.exitThen ?_
   refine DN.exitThen ?_
   obtain rfl := Option.some.inj h
   have h := hk41
   refine DN.hit ?_
   obtain rfl := Option.some.inj h
   exact DN.meet _ ⟨K36, (s1 : (List Int)), las1_0, lus1_0, rfl, S37.wk rfl, f38, f39, rfl⟩ fun a ha => (ha.more (ha.more (ha.more ha.nil rfl) rfl) rfl)
  ·
   obtain ⟨o27, h, hk41⟩ := Option.bind_eq_some_iff.mp h; unfold i_stepOf_b0 at h
   have hc27 : decide (v25 < p0.Inputs) = true := decide_eq_true (by omega)
   refine WC.seq ?_
   refine WC.rs [(0, 2)] rfl ?_
   refine WO.pn 1 rfl ?_
   refine WO.fin ?_
   refine DN.seq ?_
   refine WC.seq ?_
   refine WC.ct' rfl hc27 ?_
   refine WC.skip ?_
   refine DN.seq ?_
   refine WC.seq ?_
   refine WC.block ?_
   refine WC.seq ?_
   refine WC.rs [(0, 2), (1, 2)] rfl ?_
   refine WO.pn 2 rfl ?_
   refine WO.fin ?_
   refine DN.seq ?_
   refine WC.rx (κ := K36) [6] (some 7) [(1, 2), (2, 2), (3, 2), (4, 2), (0, 0), (5, 1), (6, 1)] [(7, 1)] (by kernel_rfl) (by kernel_rfl) fun w43 S42 => ?_
   refine WO.pn 2 rfl ?_
   obtain ⟨_z31, hz31, h⟩ := Option.bind_eq_some_iff.mp h
   refine WO.k2 rfl rfl rfl rfl (rn_shr rfl rfl rfl (nn_ok hz31)) ?_
   refine WO.pn 1 rfl ?_
   have f44 := f39.stp S42 rfl rfl
   refine WO.k0 rfl rfl rfl rfl (rn_ld Try.isAgg22 rfl rfl (hvC (f44.ld 0 rfl rfl) rfl)) ?_
   refine WO.bl (κ := K36) (E := (Ep.int .i64)) 7 [] (parts := [(0, .tmp 32)]) (cells := [.int .i64 (IntKind.i64.wrap (BitVec.toNat (BitVec.ofInt (IntKind.bits IntKind.i64) (Int.fdiv p2 (2 ^ (min (Int.toNat v25) (IntKind.bits IntKind.i64)))) &&& BitVec.ofInt (IntKind.bits IntKind.i64) 1)))]) (xs := ([(IntKind.i64.wrap (BitVec.toNat (BitVec.ofInt (IntKind.bits IntKind.i64) (Int.fdiv p2 (2 ^ (min (Int.toNat v25) (IntKind.bits IntKind.i64)))) &&& BitVec.ofInt (IntKind.bits IntKind.i64) 1)))] : List Int)) rfl rfl rfl rfl rfl rfl Try.underlying22 Tryinfo2 rfl rfl rfl rfl rfl rfl rfl rfl rfl rfl ⟨[.int .i64 (IntKind.i64.wrap (BitVec.toNat (BitVec.ofInt (IntKind.bits IntKind.i64) (Int.fdiv p2 (2 ^ (min (Int.toNat v25) (IntKind.bits IntKind.i64)))) &&& BitVec.ofInt (IntKind.bits IntKind.i64) 1)))], [], Zl K36 w43 [], Zl K36 w43 [], rfl, Zl.sp (l1 := []) (l2 := []) rfl, Zl.sr (l1 := []) (l2 := []), rfl, rfl⟩ fun a33 u33 w45 K46 S47 f48 => ⟨(S47.cl rfl), ?_⟩
   obtain ⟨x34, hx34, h⟩ := Option.bind_eq_some_iff.mp h
   have f49 := f38.stp (S42.tr S47) rfl rfl
   refine WO.app (κ := K46) (E := (Ep.int .i64)) 5 [] rfl rfl rfl rfl rfl rfl rfl rfl rfl Try.underlying22 Tryinfo2 rfl rfl rfl rfl f49 (Sl.srcP (pu_int _) f48.rdc) sy_false hx34 rfl fun a34 u34 w50 K51 S52 f53 => ⟨((S47.tr S52).cl rfl), ?_⟩
   refine WO.nx ?_
   have f54 := f44.stp (S47.tr S52) rfl rfl
   refine WO.stB0 (κ := K51) 6 (vc := [.slice a34 x34.length u34]) rfl rfl rfl rfl rfl rfl rfl Try.sizeOf22 rfl rfl f54 rfl fun w55 S56 f57 => ⟨trivial, ?_⟩
   refine WO.fin ?_
   refine DN.block ?_
   refine DN.seq ?_
   refine WC.rs [(0, 2), (1, 2)] rfl ?_
   refine WO.pn 2 rfl ?_
   refine WO.fin ?_
   have hw27 : IntKind.wrap .i64 (v25 + 1) = v25 + 1 := wr1 hj27 (of_decide_eq_true hc27) hN27
   rw [hw27]
   have hc27 := of_decide_eq_true hc27
   have f58 := f53.stp S56 rfl rfl
   obtain rfl := Option.some.inj h
   refine DN.round fun a ha => ?_
   exact ⟨k, _, Nat.lt_succ_self _, ⟨K51, v25 + 1, (x34 : (List Int)), a34, u34, rfl, (S37.tr (S42.tr (S47.tr (S52.tr S56)))).wk rfl, f58, f57, by omega, by omega, hk41⟩, (ha.more (ha.more (ha.more (ha.more (ha.more (ha.more ha.nil rfl) rfl) rfl) rfl) rfl) rfl)⟩
 rintro _ w30 ⟨K31, s3, las3_0, lus3_0, rfl, S32, f33, f34, rfl⟩
 have h := hK28
 dsimp only [aft] at h
 refine DN.seq ?_
 refine WC.seq ?_
 refine WC.seq ?_
 refine WC.rs [(0, 2), (1, 1), (2, 2)] rfl ?_
 refine WO.k2 rfl rfl rfl rfl (rn_fieldAddr Try.runUnderlying57 rfl Try.sizeOf2 rfl rfl) ?_
 have f59 := f26.stp S32 rfl rfl
 refine WO.k1 trivial rfl rfl rfl rfl (rn_ld Try.isAgg2 rfl rfl (hvE (f59.ld 1 rfl rfl))) ?_
 refine WO.pn 1 rfl ?_
 refine WO.fin ?_
 refine DN.seq ?_
 obtain ⟨_, hr60, h⟩ := Option.bind_eq_some_iff.mp h
 have hN60 := rng_ok hr60
 obtain ⟨q5, hq62, hK61⟩ := Option.bind_eq_some_iff.mp h
 clear h
 refine WC.meet (fun L w' => ∃ (κ' : Col) (s6 : (List Int)) (las6_0 : Option Addr) (lus6_0 : Nat), L = [(3, .pointer (some ⟨b3, 0, none⟩)), (8, .pointer (some ⟨b8, 0, none⟩))] ∧ Stp [5, 6] K31 w30 κ' w' ∧ Oc (Ep.int .i64) 2 κ' w' 5 las6_0 lus6_0 s6 ∧ Bc κ' w' 6 b8 22 [.slice las6_0 s6.length lus6_0] ∧ q5 = Sum.inr s6) ?_ ?_
 ·
  refine WC.block ?_
  refine WC.loop (fun k L w' => ∃ (κ' : Col) (v38 : Int) (s4 : (List Int)) (las4_0 : Option Addr) (lus4_0 : Nat), L = [(1, .int .i64 p1), (3, .pointer (some ⟨b3, 0, none⟩)), (8, .pointer (some ⟨b8, 0, none⟩)), (37, .int .i64 p0.Latches), (38, .int .i64 v38)] ∧ Stp [5, 6] K31 w30 κ' w' ∧ Oc (Ep.int .i64) 2 κ' w' 5 las4_0 lus4_0 s4 ∧ Bc κ' w' 6 b8 22 [.slice las4_0 s4.length lus4_0] ∧ 0 ≤ v38 ∧ Int.toNat (p0.Latches - v38) = k ∧ cntM (i_stepOf_b2 p1) k v38 s4 = some q5) ⟨_, _, ⟨K31, 0, (s3 : (List Int)), las3_0, lus3_0, rfl, (Stp.refl _ _).wk rfl, f33, f34, (by decide), (by simp), hq62⟩, fun a ha => (ha.more (ha.more (ha.more (ha.more (ha.more ha.nil rfl) rfl) rfl) rfl) rfl)⟩ ?_
  rintro k _ w68 ⟨K69, v38, s4, las4_0, lus4_0, rfl, S70, f71, f72, hj60, hJ60, h⟩
  rcases k with _ | k
  ·
   have hk73 := h; obtain ⟨o60, h⟩ := ex_eq (Sum.inr (Sum.inl s4) : (Int × Int) ⊕ (((List Int)) ⊕ ((List Int))))
   have hc60 : decide (v38 < p0.Latches) = false := decide_eq_false (by omega)
   refine WC.seq ?_
   refine WC.rs [(0, 2)] rfl ?_
   refine WO.pn 1 rfl ?_
   refine WO.fin ?_
   refine DN.seq ?_
   refine WC.seq ?_
   refine WC.cf' rfl hc60 ?_
   refine WC.exit ?_
   refine DN.exitThen ?_
   refine DN.exitThen ?_
   obtain rfl := Option.some.inj h
   have h := hk73
   refine DN.hit ?_
   obtain rfl := Option.some.inj h
   exact DN.meet _ ⟨K69, (s4 : (List Int)), las4_0, lus4_0, rfl, S70.wk rfl, f71, f72, rfl⟩ fun a ha => (ha.more (ha.more ha.nil rfl) rfl)
  ·
   obtain ⟨o60, h, hk73⟩ := Option.bind_eq_some_iff.mp h; unfold i_stepOf_b2 at h
   have hc60 : decide (v38 < p0.Latches) = true := decide_eq_true (by omega)
   refine WC.seq ?_
   refine WC.rs [(0, 2)] rfl ?_
   refine WO.pn 1 rfl ?_
   refine WO.fin ?_
   refine DN.seq ?_
   refine WC.seq ?_
   refine WC.ct' rfl hc60 ?_
   refine WC.skip ?_
   refine DN.seq ?_
   refine WC.seq ?_
   refine WC.block ?_
   refine WC.seq ?_
   refine WC.rs [(0, 2), (1, 2)] rfl ?_
   refine WO.pn 2 rfl ?_
   refine WO.fin ?_
   refine DN.seq ?_
   refine WC.rx (κ := K69) [6] (some 7) [(1, 2), (2, 2), (3, 2), (4, 2), (0, 0), (5, 1), (6, 1)] [(7, 1)] (by kernel_rfl) (by kernel_rfl) fun w75 S74 => ?_
   refine WO.pn 2 rfl ?_
   obtain ⟨_z44, hz44, h⟩ := Option.bind_eq_some_iff.mp h
   refine WO.k2 rfl rfl rfl rfl (rn_shr rfl rfl rfl (nn_ok hz44)) ?_
   refine WO.pn 1 rfl ?_
   have f76 := f72.stp S74 rfl rfl
   refine WO.k0 rfl rfl rfl rfl (rn_ld Try.isAgg22 rfl rfl (hvC (f76.ld 0 rfl rfl) rfl)) ?_
   refine WO.bl (κ := K69) (E := (Ep.int .i64)) 7 [] (parts := [(0, .tmp 45)]) (cells := [.int .i64 (IntKind.i64.wrap (BitVec.toNat (BitVec.ofInt (IntKind.bits IntKind.i64) (Int.fdiv p1 (2 ^ (min (Int.toNat v38) (IntKind.bits IntKind.i64)))) &&& BitVec.ofInt (IntKind.bits IntKind.i64) 1)))]) (xs := ([(IntKind.i64.wrap (BitVec.toNat (BitVec.ofInt (IntKind.bits IntKind.i64) (Int.fdiv p1 (2 ^ (min (Int.toNat v38) (IntKind.bits IntKind.i64)))) &&& BitVec.ofInt (IntKind.bits IntKind.i64) 1)))] : List Int)) rfl rfl rfl rfl rfl rfl Try.underlying22 Tryinfo2 rfl rfl rfl rfl rfl rfl rfl rfl rfl rfl ⟨[.int .i64 (IntKind.i64.wrap (BitVec.toNat (BitVec.ofInt (IntKind.bits IntKind.i64) (Int.fdiv p1 (2 ^ (min (Int.toNat v38) (IntKind.bits IntKind.i64)))) &&& BitVec.ofInt (IntKind.bits IntKind.i64) 1)))], [], Zl K69 w75 [], Zl K69 w75 [], rfl, Zl.sp (l1 := []) (l2 := []) rfl, Zl.sr (l1 := []) (l2 := []), rfl, rfl⟩ fun a46 u46 w77 K78 S79 f80 => ⟨(S79.cl rfl), ?_⟩
   obtain ⟨x47, hx47, h⟩ := Option.bind_eq_some_iff.mp h
   have f81 := f71.stp (S74.tr S79) rfl rfl
   refine WO.app (κ := K78) (E := (Ep.int .i64)) 5 [] rfl rfl rfl rfl rfl rfl rfl rfl rfl Try.underlying22 Tryinfo2 rfl rfl rfl rfl f81 (Sl.srcP (pu_int _) f80.rdc) sy_false hx47 rfl fun a47 u47 w82 K83 S84 f85 => ⟨((S79.tr S84).cl rfl), ?_⟩
   refine WO.nx ?_
   have f86 := f76.stp (S79.tr S84) rfl rfl
   refine WO.stB0 (κ := K83) 6 (vc := [.slice a47 x47.length u47]) rfl rfl rfl rfl rfl rfl rfl Try.sizeOf22 rfl rfl f86 rfl fun w87 S88 f89 => ⟨trivial, ?_⟩
   refine WO.fin ?_
   refine DN.block ?_
   refine DN.seq ?_
   refine WC.rs [(0, 2), (1, 2)] rfl ?_
   refine WO.pn 2 rfl ?_
   refine WO.fin ?_
   have hw60 : IntKind.wrap .i64 (v38 + 1) = v38 + 1 := wr1 hj60 (of_decide_eq_true hc60) hN60
   rw [hw60]
   have hc60 := of_decide_eq_true hc60
   have f90 := f85.stp S88 rfl rfl
   obtain rfl := Option.some.inj h
   refine DN.round fun a ha => ?_
   exact ⟨k, _, Nat.lt_succ_self _, ⟨K83, v38 + 1, (x47 : (List Int)), a47, u47, rfl, (S70.tr (S74.tr (S79.tr (S84.tr S88)))).wk rfl, f90, f89, by omega, by omega, hk73⟩, (ha.more (ha.more (ha.more (ha.more (ha.more ha.nil rfl) rfl) rfl) rfl) rfl)⟩
 rintro _ w63 ⟨K64, s6, las6_0, lus6_0, rfl, S65, f66, f67, rfl⟩
 have h := hK61
 dsimp only [aft] at h
 refine DN.seq ?_
 refine WC.seq ?_
 refine WC.rs [(0, 2), (1, 2)] rfl ?_
 refine WO.k2 rfl rfl rfl rfl (rn_makeFunc (first := []) (captured := [.tmp 8]) rfl rfl rfl ⟨_, rfl⟩) ?_
 refine WO.pn 1 rfl ?_
 refine WO.fin ?_
 refine DN.seq ?_
 refine WC.seq ?_
 refine WC.seq ?_
 refine WC.rs [(0, 2), (1, 1), (2, 2), (3, 2)] rfl ?_
 refine WO.k2 rfl rfl rfl rfl (rn_fieldAddr Try.runUnderlying57 rfl Try.sizeOf55 rfl rfl) ?_
 have f91 := f59.stp S65 rfl rfl
 refine WO.k1 trivial rfl rfl rfl rfl (rn_ld Try.isAgg55 rfl rfl (hvE (f91.ld 3 rfl rfl))) ?_
 refine WO.k2 rfl rfl rfl rfl (rn_len Try.runUnderlying55 rfl rfl) ?_
 refine WO.pn 1 rfl ?_
 refine WO.fin ?_
 refine DN.seq ?_
 have hN92 : (p0.Gates.length : Int) ≤ 9223372036854775807 := f6.len_le
 obtain ⟨q8, hq94, hK93⟩ := Option.bind_eq_some_iff.mp h
 clear h
 refine WC.meet (fun L w' => ∃ (κ' : Col) (s9 : (List Int)) (las9_0 : Option Addr) (lus9_0 : Nat), L = [(3, .pointer (some ⟨b3, 0, none⟩)), (11, .func (.func 172) #[] #[.pointer (some ⟨b8, 0, none⟩)])] ∧ Stp [5, 6, 7] K64 w63 κ' w' ∧ Oc (Ep.int .i64) 2 κ' w' 5 las9_0 lus9_0 s9 ∧ Bc κ' w' 6 b8 22 [.slice las9_0 s9.length lus9_0] ∧ q8 = Sum.inr s9) ?_ ?_
 ·
  refine WC.block ?_
  refine WC.loop (fun k L w' => ∃ (κ' : Col) (v53 : Int) (s7 : (List Int)) (las7_0 : Option Addr) (lus7_0 : Nat), L = [(3, .pointer (some ⟨b3, 0, none⟩)), (8, .pointer (some ⟨b8, 0, none⟩)), (11, .func (.func 172) #[] #[.pointer (some ⟨b8, 0, none⟩)]), (51, .slice a0_3 p0.Gates.length u0_3), (52, .int .i64 (p0.Gates.length : Int)), (53, .int .i64 v53)] ∧ Stp [5, 6, 7] K64 w63 κ' w' ∧ Oc (Ep.int .i64) 2 κ' w' 5 las7_0 lus7_0 s7 ∧ Bc κ' w' 6 b8 22 [.slice las7_0 s7.length lus7_0] ∧ 0 ≤ v53 ∧ Int.toNat ((p0.Gates.length : Int) - v53) = k ∧ cntM (i_stepOf_b4 p0) k v53 s7 = some q8) ⟨_, _, ⟨K64, 0, (s6 : (List Int)), las6_0, lus6_0, rfl, (Stp.refl _ _).wk rfl, f66, f67, (by decide), (by simp), hq94⟩, fun a ha => (ha.more (ha.more (ha.more (ha.more (ha.more (ha.more ha.nil rfl) rfl) rfl) rfl) rfl) rfl)⟩ ?_
  rintro k _ w100 ⟨K101, v53, s7, las7_0, lus7_0, rfl, S102, f103, f104, hj92, hJ92, h⟩
  rcases k with _ | k
  ·
   have hk105 := h; obtain ⟨o92, h⟩ := ex_eq (Sum.inr (Sum.inl s7) : (Int × Int) ⊕ (((List Int)) ⊕ ((List Int))))
   have hc92 : decide (v53 < (p0.Gates.length : Int)) = false := decide_eq_false (by omega)
   refine WC.seq ?_
   refine WC.rs [(0, 2)] rfl ?_
   refine WO.pn 1 rfl ?_
   refine WO.fin ?_
   refine DN.seq ?_
   refine WC.seq ?_
   refine WC.cf' rfl hc92 ?_
   refine WC.exit ?_
   refine DN.exitThen ?_
   refine DN.exitThen ?_
   obtain rfl := Option.some.inj h
   have h := hk105
   refine DN.hit ?_
   obtain rfl := Option.some.inj h
   exact DN.meet _ ⟨K101, (s7 : (List Int)), las7_0, lus7_0, rfl, S102.wk rfl, f103, f104, rfl⟩ fun a ha => (ha.more (ha.more ha.nil rfl) rfl)
  ·
   obtain ⟨o92, h, hk105⟩ := Option.bind_eq_some_iff.mp h; unfold i_stepOf_b4 at h
   have hc92 : decide (v53 < (p0.Gates.length : Int)) = true := decide_eq_true (by omega)
   refine WC.seq ?_
   refine WC.rs [(0, 2)] rfl ?_
   refine WO.pn 1 rfl ?_
   refine WO.fin ?_
   refine DN.seq ?_
   refine WC.seq ?_
   refine WC.ct' rfl hc92 ?_
   refine WC.skip ?_
   refine DN.seq ?_
   refine WC.seq ?_
   refine WC.block ?_
   refine WC.seq ?_
   refine WC.rs [(0, 2), (1, 1), (2, 1), (3, 1)] rfl ?_
   obtain ⟨x55, hx55, h⟩ := Option.bind_eq_some_iff.mp h
   refine WO.k2 rfl rfl rfl rfl (rn_index f6 hx55 Try.runUnderlying55 Try.sizeOf159 rfl rfl rfl rfl) ?_
   have f106 := f6.stp (S12.tr (S17.tr (S21.tr (S24.tr (S32.tr (S65.tr S102)))))) rfl rfl
   obtain ⟨cse107, hre107, hle107⟩ := (f106).gSt hx55
   obtain rfl := Gate.un hre107
   refine WO.k1 trivial rfl rfl rfl rfl (rn_la (cs := [.int .i64 x55.A, .int .i64 x55.B]) Try.isAgg159 Try.sizeOf159 rfl rfl rfl (haE hle107)) ?_
   refine WO.alloc (κ := K101) 7 rfl rfl rfl rfl rfl Try.zeroValue159 rfl fun b13 w108 K109 S110 f111 => ⟨trivial, ?_⟩
   refine WO.stB0 (κ := K109) 7 (vc := [.int .i64 x55.A, .int .i64 x55.B]) rfl rfl rfl rfl rfl rfl rfl Try.sizeOf159 rfl rfl f111 rfl fun w112 S113 f114 => ⟨trivial, ?_⟩
   refine WO.fin ?_
   refine DN.seq ?_
   refine WC.rx (κ := K109) [6, 7] (some 12) [(1, 2), (2, 2), (5, 2), (6, 2), (0, 0), (3, 0), (7, 0), (4, 1), (8, 1), (9, 2), (10, 1), (11, 1)] [(12, 1)] (by kernel_rfl) (by kernel_rfl) fun w116 S115 => ?_
   refine WO.pn 1 rfl ?_
   refine WO.k2 rfl rfl rfl rfl (rn_fieldAddr Try.runUnderlying159 rfl Try.sizeOf2 rfl rfl) ?_
   refine WO.pn 1 rfl ?_
   refine WO.k2 rfl rfl rfl rfl (rn_fieldAddr Try.runUnderlying159 rfl Try.sizeOf2 rfl rfl) ?_
   have f117 := f104.stp (S110.tr (S113.tr S115)) rfl rfl
   refine WO.k0 rfl rfl rfl rfl (rn_ld Try.isAgg22 rfl rfl (hvC (f117.ld 0 rfl rfl) rfl)) ?_
   have f118 := f114.stp S115 rfl rfl
   refine WO.k0 rfl rfl rfl rfl (rn_ld Try.isAgg2 rfl rfl (hvC (f118.ld 0 rfl rfl) rfl)) ?_
   refine WO.k0 rfl rfl rfl rfl (rn_ld Try.isAgg2 rfl rfl (hvC (f118.ld 1 rfl rfl) rfl)) ?_
   obtain ⟨x61, hx61, h⟩ := Option.bind_eq_some_iff.mp h
   have f119 := f103.stp (S110.tr (S113.tr S115)) rfl rfl
   refine WO.callV rfl rfl rfl rfl rfl rfl rfl rfl Try.call172 (i_stepOf_1_ok (κ := fun b => mp [] 0 (K109 b)) (Sl.map f119.rdc (mp [] 0) rfl rfl) (f117.map (mp [] 0) rfl rfl) hx61) ?_
   rintro _ w120 ⟨k121, rfl, e122⟩
   obtain ⟨K123, S124, m125⟩ := Ent.mixed (l := []) (κ := K109) e122 8 rfl
   refine ⟨(S124.cl rfl), ?_⟩
   obtain ⟨x65, hx65, h⟩ := Option.bind_eq_some_iff.mp h
   have f127 := f119.stp S124 rfl rfl
   have f128 := f117.stp S124 rfl rfl
   refine WO.callV rfl rfl rfl rfl rfl rfl rfl rfl Try.call172 (i_stepOf_1_ok (κ := fun b => mp [] 0 (K123 b)) (Sl.map f127.rdc (mp [] 0) rfl rfl) (f128.map (mp [] 0) rfl rfl) hx65) ?_
   rintro _ w129 ⟨k130, rfl, e131⟩
   obtain ⟨K132, S133, m134⟩ := Ent.mixed (l := []) (κ := K123) e131 10 rfl
   refine ⟨((S124.tr S133).cl rfl), ?_⟩
   refine WO.pn 1 rfl ?_
   refine WO.bl (κ := K132) (E := (Ep.int .i64)) 12 [] (parts := [(0, .tmp 66)]) (cells := [.int .i64 (IntKind.i64.wrap (BitVec.toNat (BitVec.ofInt (IntKind.bits IntKind.i64) x61 &&& BitVec.ofInt (IntKind.bits IntKind.i64) x65)))]) (xs := ([(IntKind.i64.wrap (BitVec.toNat (BitVec.ofInt (IntKind.bits IntKind.i64) x61 &&& BitVec.ofInt (IntKind.bits IntKind.i64) x65)))] : List Int)) rfl rfl rfl rfl rfl rfl Try.underlying22 Tryinfo2 rfl rfl rfl rfl rfl rfl rfl rfl rfl rfl ⟨[.int .i64 (IntKind.i64.wrap (BitVec.toNat (BitVec.ofInt (IntKind.bits IntKind.i64) x61 &&& BitVec.ofInt (IntKind.bits IntKind.i64) x65)))], [], Zl K132 w129 [], Zl K132 w129 [], rfl, Zl.sp (l1 := []) (l2 := []) rfl, Zl.sr (l1 := []) (l2 := []), rfl, rfl⟩ fun a67 u67 w136 K137 S138 f139 => ⟨((S124.tr (S133.tr S138)).cl rfl), ?_⟩
   obtain ⟨x68, hx68, h⟩ := Option.bind_eq_some_iff.mp h
   have f140 := f127.stp (S133.tr S138) rfl rfl
   refine WO.app (κ := K137) (E := (Ep.int .i64)) 5 [] rfl rfl rfl rfl rfl rfl rfl rfl rfl Try.underlying22 Tryinfo2 rfl rfl rfl rfl f140 (Sl.srcP (pu_int _) f139.rdc) sy_false hx68 rfl fun a68 u68 w141 K142 S143 f144 => ⟨((S124.tr (S133.tr (S138.tr S143))).cl rfl), ?_⟩
   refine WO.nx ?_
   have f145 := f128.stp (S133.tr (S138.tr S143)) rfl rfl
   refine WO.stB0 (κ := K142) 6 (vc := [.slice a68 x68.length u68]) rfl rfl rfl rfl rfl rfl rfl Try.sizeOf22 rfl rfl f145 rfl fun w146 S147 f148 => ⟨trivial, ?_⟩
   refine WO.fin ?_
   refine DN.block ?_
   refine DN.seq ?_
   refine WC.rs [(0, 2), (1, 2)] rfl ?_
   refine WO.pn 2 rfl ?_
   refine WO.fin ?_
   have hw92 : IntKind.wrap .i64 (v53 + 1) = v53 + 1 := wr1 hj92 (of_decide_eq_true hc92) hN92
   rw [hw92]
   have hc92 := of_decide_eq_true hc92
   have f149 := f144.stp S147 rfl rfl
   obtain rfl := Option.some.inj h
   refine DN.round fun a ha => ?_
   exact ⟨k, _, Nat.lt_succ_self _, ⟨K142, v53 + 1, (x68 : (List Int)), a68, u68, rfl, (S102.tr (S110.tr (S113.tr (S115.tr (S124.tr (S133.tr (S138.tr (S143.tr S147)))))))).wk rfl, f149, f148, by omega, by omega, hk105⟩, (ha.more (ha.more (ha.more (ha.more (ha.more (ha.more ha.nil rfl) rfl) rfl) rfl) rfl) rfl)⟩
 rintro _ w95 ⟨K96, s9, las9_0, lus9_0, rfl, S97, f98, f99, rfl⟩
 have h := hK93
 dsimp only [aft] at h
 refine DN.seq ?_
 refine WC.seq ?_
 refine WC.rs [(0, 2), (1, 2)] rfl ?_
 refine WO.pn 2 rfl ?_
 refine WO.fin ?_
 refine DN.seq ?_
 refine WC.seq ?_
 refine WC.seq ?_
 refine WC.rs [(0, 2), (1, 1), (2, 2), (3, 2)] rfl ?_
 refine WO.k2 rfl rfl rfl rfl (rn_fieldAddr Try.runUnderlying57 rfl Try.sizeOf22 rfl rfl) ?_
 have f150 := f91.stp S97 rfl rfl
 refine WO.k1 trivial rfl rfl rfl rfl (rn_ld Try.isAgg22 rfl rfl (hvE (f150.ld 2 rfl rfl))) ?_
 refine WO.k2 rfl rfl rfl rfl (rn_len Try.runUnderlying22 rfl rfl) ?_
 refine WO.pn 1 rfl ?_
 refine WO.fin ?_
 refine DN.seq ?_
 have hN151 : (p0.Next.length : Int) ≤ 9223372036854775807 := f5.len_le
 obtain ⟨q11, hq153, hK152⟩ := Option.bind_eq_some_iff.mp h
 clear h
 refine WC.meet (fun L w' => ∃ (κ' : Col) (s12 : Int), L = [(3, .pointer (some ⟨b3, 0, none⟩)), (11, .func (.func 172) #[] #[.pointer (some ⟨b8, 0, none⟩)]), (14, .int .i64 s12), (15, .int .i64 0)] ∧ Stp [] K96 w95 κ' w' ∧ q11 = Sum.inr s12) ?_ ?_
 ·
  refine WC.block ?_
  refine WC.loop (fun k L w' => ∃ (κ' : Col) (v73 : Int) (s10 : Int), L = [(3, .pointer (some ⟨b3, 0, none⟩)), (11, .func (.func 172) #[] #[.pointer (some ⟨b8, 0, none⟩)]), (14, .int .i64 s10), (15, .int .i64 0), (71, .slice a0_2 p0.Next.length u0_2), (72, .int .i64 (p0.Next.length : Int)), (73, .int .i64 v73)] ∧ Stp [] K96 w95 κ' w' ∧ 0 ≤ v73 ∧ Int.toNat ((p0.Next.length : Int) - v73) = k ∧ cntM (i_stepOf_b6 p0 s9) k v73 s10 = some q11) ⟨_, _, ⟨K96, 0, (0 : Int), rfl, (Stp.refl _ _).wk rfl, (by decide), (by simp), hq153⟩, fun a ha => (ha.more (ha.more (ha.more (ha.more (ha.more (ha.more (ha.more ha.nil rfl) rfl) rfl) rfl) rfl) rfl) rfl)⟩ ?_
  rintro k _ w157 ⟨K158, v73, s10, rfl, S159, hj151, hJ151, h⟩
  rcases k with _ | k
  ·
   have hk160 := h; obtain ⟨o151, h⟩ := ex_eq (Sum.inr (Sum.inl s10) : (Int × Int) ⊕ ((Int) ⊕ (Int)))
   have hc151 : decide (v73 < (p0.Next.length : Int)) = false := decide_eq_false (by omega)
   refine WC.seq ?_
   refine WC.rs [(0, 2)] rfl ?_
   refine WO.pn 1 rfl ?_
   refine WO.fin ?_
   refine DN.seq ?_
   refine WC.seq ?_
   refine WC.cf' rfl hc151 ?_
   refine WC.exit ?_
   refine DN.exitThen ?_
   refine DN.exitThen ?_
   obtain rfl := Option.some.inj h
   have h := hk160
   refine DN.hit ?_
   obtain rfl := Option.some.inj h
   exact DN.meet _ ⟨K158, (s10 : Int), rfl, S159.wk rfl, rfl⟩ fun a ha => (ha.more (ha.more (ha.more (ha.more ha.nil rfl) rfl) rfl) rfl)
  ·
   obtain ⟨o151, h, hk160⟩ := Option.bind_eq_some_iff.mp h; unfold i_stepOf_b6 at h
   have hc151 : decide (v73 < (p0.Next.length : Int)) = true := decide_eq_true (by omega)
   refine WC.seq ?_
   refine WC.rs [(0, 2)] rfl ?_
   refine WO.pn 1 rfl ?_
   refine WO.fin ?_
   refine DN.seq ?_
   refine WC.seq ?_
   refine WC.ct' rfl hc151 ?_
   refine WC.skip ?_
   refine DN.seq ?_
   refine WC.seq ?_
   refine WC.block ?_
   refine WC.seq ?_
   refine WC.rs [(0, 2), (1, 2), (2, 1), (3, 2), (4, 2)] rfl ?_
   refine WO.pn 1 rfl ?_
   obtain ⟨x76, hx76, h⟩ := Option.bind_eq_some_iff.mp h
   refine WO.k2 rfl rfl rfl rfl (rn_index f5 hx76 Try.runUnderlying22 Try.sizeOf2 rfl rfl rfl rfl) ?_
   have f161 := f5.stp (S12.tr (S17.tr (S21.tr (S24.tr (S32.tr (S65.tr (S97.tr S159))))))) rfl rfl
   refine WO.k1 trivial rfl rfl rfl rfl (rn_ld Try.isAgg2 rfl rfl (hvE (f161.gInt hx76))) ?_
   refine WO.pn 2 rfl ?_
   refine WO.fin ?_
   refine DN.seq ?_
   refine WC.rs [(0, 2), (1, 2), (2, 2), (3, 1), (4, 2), (5, 2), (6, 2), (7, 2)] rfl ?_
   refine WO.pn 3 rfl ?_
   obtain ⟨x81, hx81, h⟩ := Option.bind_eq_some_iff.mp h
   have f162 := f98.stp S159 rfl rfl
   have f163 := f99.stp S159 rfl rfl
   refine WO.callV rfl rfl rfl rfl rfl rfl rfl rfl Try.call172 (i_stepOf_1_ok (κ := fun b => mp [] 0 (K158 b)) (Sl.map f162.rdc (mp [] 0) rfl rfl) (f163.map (mp [] 0) rfl rfl) hx81) ?_
   rintro _ w164 ⟨k165, rfl, e166⟩
   obtain ⟨K167, S168, m169⟩ := Ent.mixed (l := []) (κ := K158) e166 7 rfl
   refine ⟨trivial, ?_⟩
   refine WO.pn 1 rfl ?_
   obtain ⟨_z83, hz83, h⟩ := Option.bind_eq_some_iff.mp h
   refine WO.k2 rfl rfl rfl rfl (rn_shl rfl rfl rfl (nn_ok hz83)) ?_
   refine WO.pn 2 rfl ?_
   refine WO.fin ?_
   refine DN.block ?_
   refine DN.seq ?_
   refine WC.rs [(0, 2), (1, 2)] rfl ?_
   refine WO.pn 2 rfl ?_
   refine WO.fin ?_
   have hw151 : IntKind.wrap .i64 (v73 + 1) = v73 + 1 := wr1 hj151 (of_decide_eq_true hc151) hN151
   rw [hw151]
   have hc151 := of_decide_eq_true hc151
   obtain rfl := Option.some.inj h
   refine DN.round fun a ha => ?_
   exact ⟨k, _, Nat.lt_succ_self _, ⟨K167, v73 + 1, ((IntKind.i64.wrap (BitVec.toNat (BitVec.ofInt (IntKind.bits IntKind.i64) s10 ||| BitVec.ofInt (IntKind.bits IntKind.i64) (IntKind.i64.wrap (x81 * 2 ^ (min (Int.toNat v73) (IntKind.bits IntKind.i64))))))) : Int), rfl, (S159.tr S168).wk rfl, by omega, by omega, hk160⟩, (ha.more (ha.more (ha.more (ha.more (ha.more (ha.more (ha.more ha.nil rfl) rfl) rfl) rfl) rfl) rfl) rfl)⟩
 rintro _ w154 ⟨K155, s12, rfl, S156, rfl⟩
 have h := hK152
 dsimp only [aft] at h
 refine DN.seq ?_
 refine WC.seq ?_
 refine WC.seq ?_
 refine WC.rs [(0, 2), (1, 1), (2, 2), (3, 2)] rfl ?_
 refine WO.k2 rfl rfl rfl rfl (rn_fieldAddr Try.runUnderlying57 rfl Try.sizeOf22 rfl rfl) ?_
 have f171 := f150.stp S156 rfl rfl
 refine WO.k1 trivial rfl rfl rfl rfl (rn_ld Try.isAgg22 rfl rfl (hvE (f171.ld 4 rfl rfl))) ?_
 refine WO.k2 rfl rfl rfl rfl (rn_len Try.runUnderlying22 rfl rfl) ?_
 refine WO.pn 1 rfl ?_
 refine WO.fin ?_
 refine DN.seq ?_
 have hN172 : (p0.Outs.length : Int) ≤ 9223372036854775807 := f7.len_le
 obtain ⟨q14, hq174, hK173⟩ := Option.bind_eq_some_iff.mp h
 clear h
 refine WC.meet (fun L w' => ∃ (κ' : Col) (s15 : Int), L = [(14, .int .i64 s12), (15, .int .i64 s15)] ∧ Stp [] K155 w154 κ' w' ∧ q14 = Sum.inr s15) ?_ ?_
 ·
  refine WC.block ?_
  refine WC.loop (fun k L w' => ∃ (κ' : Col) (v89 : Int) (s13 : Int), L = [(11, .func (.func 172) #[] #[.pointer (some ⟨b8, 0, none⟩)]), (14, .int .i64 s12), (15, .int .i64 s13), (87, .slice a0_4 p0.Outs.length u0_4), (88, .int .i64 (p0.Outs.length : Int)), (89, .int .i64 v89)] ∧ Stp [] K155 w154 κ' w' ∧ 0 ≤ v89 ∧ Int.toNat ((p0.Outs.length : Int) - v89) = k ∧ cntM (i_stepOf_b8 p0 s9) k v89 s13 = some q14) ⟨_, _, ⟨K155, 0, (0 : Int), rfl, (Stp.refl _ _).wk rfl, (by decide), (by simp), hq174⟩, fun a ha => (ha.more (ha.more (ha.more (ha.more (ha.more (ha.more ha.nil rfl) rfl) rfl) rfl) rfl) rfl)⟩ ?_
  rintro k _ w178 ⟨K179, v89, s13, rfl, S180, hj172, hJ172, h⟩
  rcases k with _ | k
  ·
   have hk181 := h; obtain ⟨o172, h⟩ := ex_eq (Sum.inr (Sum.inl s13) : (Int × Int) ⊕ ((Int) ⊕ (Int)))
   have hc172 : decide (v89 < (p0.Outs.length : Int)) = false := decide_eq_false (by omega)
   refine WC.seq ?_
   refine WC.rs [(0, 2)] rfl ?_
   refine WO.pn 1 rfl ?_
   refine WO.fin ?_
   refine DN.seq ?_
   refine WC.seq ?_
   refine WC.cf' rfl hc172 ?_
   refine WC.exit ?_
   refine DN.exitThen ?_
   refine DN.exitThen ?_
   obtain rfl := Option.some.inj h
   have h := hk181
   refine DN.hit ?_
   obtain rfl := Option.some.inj h
   exact DN.meet _ ⟨K179, (s13 : Int), rfl, S180.wk rfl, rfl⟩ fun a ha => (ha.more (ha.more ha.nil rfl) rfl)
  ·
   obtain ⟨o172, h, hk181⟩ := Option.bind_eq_some_iff.mp h; unfold i_stepOf_b8 at h
   have hc172 : decide (v89 < (p0.Outs.length : Int)) = true := decide_eq_true (by omega)
   refine WC.seq ?_
   refine WC.rs [(0, 2)] rfl ?_
   refine WO.pn 1 rfl ?_
   refine WO.fin ?_
   refine DN.seq ?_
   refine WC.seq ?_
   refine WC.ct' rfl hc172 ?_
   refine WC.skip ?_
   refine DN.seq ?_
   refine WC.seq ?_
   refine WC.block ?_
   refine WC.seq ?_
   refine WC.rs [(0, 2), (1, 2), (2, 1), (3, 2), (4, 2)] rfl ?_
   refine WO.pn 1 rfl ?_
   obtain ⟨x92, hx92, h⟩ := Option.bind_eq_some_iff.mp h
   refine WO.k2 rfl rfl rfl rfl (rn_index f7 hx92 Try.runUnderlying22 Try.sizeOf2 rfl rfl rfl rfl) ?_
   have f182 := f7.stp (S12.tr (S17.tr (S21.tr (S24.tr (S32.tr (S65.tr (S97.tr (S156.tr S180)))))))) rfl rfl
   refine WO.k1 trivial rfl rfl rfl rfl (rn_ld Try.isAgg2 rfl rfl (hvE (f182.gInt hx92))) ?_
   refine WO.pn 2 rfl ?_
   refine WO.fin ?_
   refine DN.seq ?_
   refine WC.rs [(0, 2), (1, 2), (2, 2), (3, 1), (4, 2), (5, 2), (6, 2), (7, 2)] rfl ?_
   refine WO.pn 3 rfl ?_
   obtain ⟨x97, hx97, h⟩ := Option.bind_eq_some_iff.mp h
   have f183 := f98.stp (S156.tr S180) rfl rfl
   have f184 := f99.stp (S156.tr S180) rfl rfl
   refine WO.callV rfl rfl rfl rfl rfl rfl rfl rfl Try.call172 (i_stepOf_1_ok (κ := fun b => mp [] 0 (K179 b)) (Sl.map f183.rdc (mp [] 0) rfl rfl) (f184.map (mp [] 0) rfl rfl) hx97) ?_
   rintro _ w185 ⟨k186, rfl, e187⟩
   obtain ⟨K188, S189, m190⟩ := Ent.mixed (l := []) (κ := K179) e187 7 rfl
   refine ⟨trivial, ?_⟩
   refine WO.pn 1 rfl ?_
   obtain ⟨_z99, hz99, h⟩ := Option.bind_eq_some_iff.mp h
   refine WO.k2 rfl rfl rfl rfl (rn_shl rfl rfl rfl (nn_ok hz99)) ?_
   refine WO.pn 2 rfl ?_
   refine WO.fin ?_
   refine DN.block ?_
   refine DN.seq ?_
   refine WC.rs [(0, 2), (1, 2)] rfl ?_
   refine WO.pn 2 rfl ?_
   refine WO.fin ?_
   have hw172 : IntKind.wrap .i64 (v89 + 1) = v89 + 1 := wr1 hj172 (of_decide_eq_true hc172) hN172
   rw [hw172]
   have hc172 := of_decide_eq_true hc172
   obtain rfl := Option.some.inj h
   refine DN.round fun a ha => ?_
   exact ⟨k, _, Nat.lt_succ_self _, ⟨K188, v89 + 1, ((IntKind.i64.wrap (BitVec.toNat (BitVec.ofInt (IntKind.bits IntKind.i64) s13 ||| BitVec.ofInt (IntKind.bits IntKind.i64) (IntKind.i64.wrap (x97 * 2 ^ (min (Int.toNat v89) (IntKind.bits IntKind.i64))))))) : Int), rfl, (S180.tr S189).wk rfl, by omega, by omega, hk181⟩, (ha.more (ha.more (ha.more (ha.more (ha.more (ha.more ha.nil rfl) rfl) rfl) rfl) rfl) rfl)⟩
 rintro _ w175 ⟨K176, s15, rfl, S177, rfl⟩
 have h := hK173
 dsimp only [aft] at h
 refine DN.seq ?_
 refine WC.seq ?_
 refine WC.rs [(0, 2), (1, 2), (2, 2), (3, 2)] rfl ?_
 refine WO.pn 4 rfl ?_
 refine WO.fin ?_
 refine DN.seq ?_
 refine WC.ret ?_
 have f192 := hE.stp (S3.tr (S12.tr (S17.tr (S21.tr (S24.tr (S32.tr (S65.tr (S97.tr (S156.tr S177))))))))) rfl rfl
 refine DN.res (l := [.tmp 6, .tmp 7]) Try.results107 (res_tmp rfl (res_tmp rfl rfl)) rfl ?_
 obtain rfl := Option.some.inj h
 exact ⟨K176, rfl, f192⟩

end Go.Proofs.Ytfmkhnlnomkcfaa
