/- The functions on data, and the walks, part 0. By program. -/
import Derived.Test.YtpmnpdphailagaaTypes
set_option linter.unusedVariables false
set_option linter.unusedSimpArgs false
namespace Go.Proofs.Ytpmnpdphailagaa
open Go Go.Wk Go.Proofs
set_option maxRecDepth 100000
set_option maxHeartbeats 1000000

/- loop.example/g00869/laws.szInt64S -/
def l_szInt64S (p0 : (List Int)) (p1 : Int) : Option (Int) :=
  bif decide ((IntKind.i64.wrap (p1 - (p0.length : Int))) < 0) then
    some ((-1) : Int)
  else
    some ((IntKind.i64.wrap (p1 - (p0.length : Int))) : Int)

theorem l_szInt64S_ok {p0 : (List Int)} {a0 : Option Addr} {c0 : Nat} {p1 : Int} {w : World} (hs0 : Sl (Rp.int .i64) (Fz [] w) w a0 c0 p0) {r : Int} (h : l_szInt64S p0 p1 = some r) : Ret Try.prog 33 [.slice a0 p0.length c0, .int .i64 p1] w (fun v w' => v = .int .i64 r ∧ Ext w w') := by
  unfold l_szInt64S at h
  refine Ret.enter Try.func33 rfl Try.ntmps33 rfl ?_
  dsimp only [envOf]
  refine WC.seq ?_
  refine WC.regS [(0, 2)] rfl ?_
  refine WO.sp rfl rfl rfl rfl (rn_assign rfl rfl) ?_
  refine WO.fin ?_
  refine DN.seq ?_
  refine WC.seq ?_
  refine WC.regS [(0, 2), (1, 2), (2, 2), (3, 2), (4, 2)] rfl ?_
  refine WO.sp rfl rfl rfl rfl (rn_move rfl rfl) ?_
  refine WO.sp rfl rfl rfl rfl (rn_move rfl rfl) ?_
  refine WO.sp rfl rfl rfl rfl (rn_len Try.runUnderlying24 rfl rfl) ?_
  refine WO.sp rfl rfl rfl rfl (rn_sub rfl rfl rfl) ?_
  refine WO.sp rfl rfl rfl rfl (rn_assign rfl rfl) ?_
  refine WO.fin ?_
  refine DN.seq ?_
  refine WC.seq ?_
  refine WC.seq ?_
  refine WC.regS [(0, 2), (1, 2)] rfl ?_
  refine WO.sp rfl rfl rfl rfl (rn_move rfl rfl) ?_
  refine WO.sp rfl rfl rfl rfl (rn_lss rfl rfl rfl) ?_
  refine WO.fin ?_
  refine DN.seq ?_
  revert h
  cases ht1 : decide ((IntKind.i64.wrap (p1 - (p0.length : Int))) < 0) with
  | true =>
    intro h
    simp only [cond_true, cond_false, Option.bind_some, Option.bind_assoc, lpK_ret, lpK_brk, lpK_nxt, aft_inl, aft_inr] at h
    refine WC.ct rfl ?_
    refine WC.seq ?_
    refine WC.regS [(0, 2)] rfl ?_
    refine WO.sp rfl rfl rfl rfl (rn_assign rfl rfl) ?_
    refine WO.fin ?_
    refine DN.seq ?_
    refine WC.ret ?_
    refine DN.retThen ?_
    refine DN.ret1 Try.results33 rfl ?_
    obtain rfl := Option.some.inj h
    exact ⟨rfl, (Ext.refl w)⟩
  | false =>
    intro h
    simp only [cond_true, cond_false, Option.bind_some, Option.bind_assoc, lpK_ret, lpK_brk, lpK_nxt, aft_inl, aft_inr] at h
    refine WC.cf rfl ?_
    refine WC.skip ?_
    refine DN.seq ?_
    refine WC.seq ?_
    refine WC.regS [(0, 2), (1, 2)] rfl ?_
    refine WO.sp rfl rfl rfl rfl (rn_move rfl rfl) ?_
    refine WO.sp rfl rfl rfl rfl (rn_assign rfl rfl) ?_
    refine WO.fin ?_
    refine DN.seq ?_
    refine WC.ret ?_
    refine DN.ret1 Try.results33 rfl ?_
    obtain rfl := Option.some.inj h
    exact ⟨rfl, (Ext.refl w)⟩

/- loop.example/g00869/laws.szInt64SS -/
def l_szInt64SS_b0 (p0 : (List (List Int))) (v5 : Int) (s1 : Int) : Option (Int ⊕ ((Int) ⊕ (Int))) :=
  Option.bind (idx p0 v5) fun x20 =>
  Option.bind (l_szInt64S x20 s1) fun x23 =>
  bif decide (x23 < 0) then
    some (.inl ((-1) : Int))
  else
    some (.inr (.inr (x23 : Int)))
def l_szInt64SS (p0 : (List (List Int))) (p1 : Int) : Option (Int) :=
  bif decide ((IntKind.i64.wrap (p1 - (p0.length : Int))) < 0) then
    some ((-1) : Int)
  else
    Option.bind (cntM (l_szInt64SS_b0 p0) p0.length 0 ((IntKind.i64.wrap (p1 - (p0.length : Int))) : Int)) fun q2 =>
    aft (fun r => some r) (fun s3 =>
      some (s3 : Int)) q2

theorem l_szInt64SS_ok {p0 : (List (List Int))} {a0 : Option Addr} {c0 : Nat} {p1 : Int} {w : World} (hs0 : Sl (Rp.sl (Rp.int .i64)) (Fz [] w) w a0 c0 p0) {r : Int} (h : l_szInt64SS p0 p1 = some r) : Ret Try.prog 34 [.slice a0 p0.length c0, .int .i64 p1] w (fun v w' => v = .int .i64 r ∧ Ext w w') := by
  unfold l_szInt64SS at h
  refine Ret.enter Try.func34 rfl Try.ntmps34 rfl ?_
  dsimp only [envOf]
  refine WC.seq ?_
  refine WC.regS [(0, 2)] rfl ?_
  refine WO.sp rfl rfl rfl rfl (rn_assign rfl rfl) ?_
  refine WO.fin ?_
  refine DN.seq ?_
  refine WC.seq ?_
  refine WC.regS [(0, 2), (1, 2), (2, 2), (3, 2), (4, 2)] rfl ?_
  refine WO.sp rfl rfl rfl rfl (rn_move rfl rfl) ?_
  refine WO.sp rfl rfl rfl rfl (rn_move rfl rfl) ?_
  refine WO.sp rfl rfl rfl rfl (rn_len Try.runUnderlying25 rfl rfl) ?_
  refine WO.sp rfl rfl rfl rfl (rn_sub rfl rfl rfl) ?_
  refine WO.sp rfl rfl rfl rfl (rn_assign rfl rfl) ?_
  refine WO.fin ?_
  refine DN.seq ?_
  refine WC.seq ?_
  refine WC.seq ?_
  refine WC.regS [(0, 2), (1, 2)] rfl ?_
  refine WO.sp rfl rfl rfl rfl (rn_move rfl rfl) ?_
  refine WO.sp rfl rfl rfl rfl (rn_lss rfl rfl rfl) ?_
  refine WO.fin ?_
  refine DN.seq ?_
  revert h
  cases ht1 : decide ((IntKind.i64.wrap (p1 - (p0.length : Int))) < 0) with
  | true =>
    intro h
    simp only [cond_true, cond_false, Option.bind_some, Option.bind_assoc, lpK_ret, lpK_brk, lpK_nxt, aft_inl, aft_inr] at h
    refine WC.ct rfl ?_
    refine WC.seq ?_
    refine WC.regS [(0, 2)] rfl ?_
    refine WO.sp rfl rfl rfl rfl (rn_assign rfl rfl) ?_
    refine WO.fin ?_
    refine DN.seq ?_
    refine WC.ret ?_
    refine DN.retThen ?_
    refine DN.ret1 Try.results34 rfl ?_
    obtain rfl := Option.some.inj h
    exact ⟨rfl, (Ext.refl w)⟩
  | false =>
    intro h
    simp only [cond_true, cond_false, Option.bind_some, Option.bind_assoc, lpK_ret, lpK_brk, lpK_nxt, aft_inl, aft_inr] at h
    refine WC.cf rfl ?_
    refine WC.skip ?_
    refine DN.seq ?_
    refine WC.seq ?_
    refine WC.seq ?_
    refine WC.regS [(0, 2)] rfl ?_
    refine WO.sp rfl rfl rfl rfl (rn_assign rfl rfl) ?_
    refine WO.fin ?_
    refine DN.seq ?_
    refine WC.block ?_
    obtain ⟨q2, hq2, hk2⟩ := Option.bind_eq_some_iff.mp h
    clear h
    refine WC.loop (fun k L w' => ∃ (v1 : Int), ∃ (v5 : Int), L = [(0, .slice a0 p0.length c0), (1, .int .i64 v1), (5, .int .i64 v5)] ∧ Ext w w' ∧ Sl (Rp.sl (Rp.int .i64)) (Fz [] w') w' a0 c0 p0 ∧ 0 ≤ v5 ∧ Int.toNat ((p0.length : Int) - v5) = k ∧ cntM (l_szInt64SS_b0 p0) k v5 (v1 : Int) = some q2) ⟨_, _, ⟨(IntKind.i64.wrap (p1 - (p0.length : Int))), 0, rfl, (Ext.refl w), hs0, (by decide), (by simp), hq2⟩, fun a ha => (ha.more (ha.more (ha.more ha.nil rfl) rfl) rfl)⟩ ?_
    rintro k _ w3 ⟨v1, v5, rfl, hE4, hs0, hj2, hJ2, h⟩
    rcases k with _ | k
    ·
      simp only [cntM] at h
      have hc2 : decide (v5 < (p0.length : Int)) = false := decide_eq_false (by omega)
      refine WC.seq ?_
      refine WC.seq ?_
      refine WC.regS [(0, 2), (1, 2), (2, 2), (3, 2)] rfl ?_
      refine WO.sp rfl rfl rfl rfl (rn_move rfl rfl) ?_
      refine WO.sp rfl rfl rfl rfl (rn_move rfl rfl) ?_
      refine WO.sp rfl rfl rfl rfl (rn_len Try.runUnderlying25 rfl rfl) ?_
      refine WO.sp rfl rfl rfl rfl (rn_lss rfl rfl rfl) ?_
      refine WO.fin ?_
      refine DN.seq ?_
      refine WC.cf' rfl hc2 ?_
      refine WC.exit ?_
      refine DN.exitThen ?_
      refine DN.exitThen ?_
      obtain rfl := Option.some.inj h
      have h := hk2
      simp only [cond_true, cond_false, Option.bind_some, Option.bind_assoc, lpK_ret, lpK_brk, lpK_nxt, aft_inl, aft_inr] at h
      refine DN.hit ?_
      refine DN.seq ?_
      refine WC.seq ?_
      refine WC.regS [(0, 2), (1, 2)] rfl ?_
      refine WO.sp rfl rfl rfl rfl (rn_move rfl rfl) ?_
      refine WO.sp rfl rfl rfl rfl (rn_assign rfl rfl) ?_
      refine WO.fin ?_
      refine DN.seq ?_
      refine WC.ret ?_
      refine DN.ret1 Try.results34 rfl ?_
      obtain rfl := Option.some.inj h
      exact ⟨rfl, hE4⟩
    ·
      simp only [cntM, l_szInt64SS_b0, cond_true, cond_false, Option.bind_some, Option.bind_assoc, lpK_ret, lpK_brk, lpK_nxt, aft_inl, aft_inr] at h
      have hc2 : decide (v5 < (p0.length : Int)) = true := decide_eq_true (by omega)
      refine WC.seq ?_
      refine WC.seq ?_
      refine WC.regS [(0, 2), (1, 2), (2, 2), (3, 2)] rfl ?_
      refine WO.sp rfl rfl rfl rfl (rn_move rfl rfl) ?_
      refine WO.sp rfl rfl rfl rfl (rn_move rfl rfl) ?_
      refine WO.sp rfl rfl rfl rfl (rn_len Try.runUnderlying25 rfl rfl) ?_
      refine WO.sp rfl rfl rfl rfl (rn_lss rfl rfl rfl) ?_
      refine WO.fin ?_
      refine DN.seq ?_
      refine WC.ct' rfl hc2 ?_
      refine WC.skip ?_
      refine DN.seq ?_
      refine WC.seq ?_
      refine WC.block ?_
      refine WC.seq ?_
      refine WC.regS [(0, 2), (1, 2), (2, 2), (3, 1), (4, 2), (5, 1), (6, 2)] rfl ?_
      refine WO.sp rfl rfl rfl rfl (rn_move rfl rfl) ?_
      refine WO.sp rfl rfl rfl rfl (rn_move rfl rfl) ?_
      obtain ⟨x20, hx20, h⟩ := Option.bind_eq_some_iff.mp h
      refine WO.sp rfl rfl rfl rfl (rn_index hs0 hx20 Try.runUnderlying25 Try.sizeOf24 rfl rfl rfl rfl) ?_
      obtain ⟨ax20, cx20, hsx20, hlx20⟩ := hs0.getSl hx20
      refine WO.sq trivial rfl rfl rfl rfl (rn_load Try.isAgg24 rfl rfl hlx20) ?_
      refine WO.sp rfl rfl rfl rfl (rn_move rfl rfl) ?_
      obtain ⟨x23, hx23, h⟩ := Option.bind_eq_some_iff.mp h
      refine WO.call rfl rfl rfl rfl rfl rfl Try.call33 (l_szInt64S_ok (hsx20.toE (Ext.refl _)) hx23) ?_
      rintro _ w5 ⟨rfl, he6⟩
      refine ⟨trivial, ?_⟩
      have hst7 := St.ext (M := []) (Sub.refl _ _) he6
      have hs0 := hs0.stp hst7
      have hsx20 := hsx20.stp hst7
      have hE8 := hE4.trans he6
      refine WO.sp rfl rfl rfl rfl (rn_assign rfl rfl) ?_
      refine WO.fin ?_
      refine DN.seq ?_
      refine WC.seq ?_
      refine WC.regS [(0, 2), (1, 2)] rfl ?_
      refine WO.sp rfl rfl rfl rfl (rn_move rfl rfl) ?_
      refine WO.sp rfl rfl rfl rfl (rn_lss rfl rfl rfl) ?_
      refine WO.fin ?_
      refine DN.seq ?_
      revert h
      cases ht9 : decide (x23 < 0) with
      | true =>
        intro h
        simp only [cond_true, cond_false, Option.bind_some, Option.bind_assoc, lpK_ret, lpK_brk, lpK_nxt, aft_inl, aft_inr] at h
        refine WC.ct rfl ?_
        refine WC.seq ?_
        refine WC.regS [(0, 2)] rfl ?_
        refine WO.sp rfl rfl rfl rfl (rn_assign rfl rfl) ?_
        refine WO.fin ?_
        refine DN.seq ?_
        refine WC.ret ?_
        refine DN.retBlock ?_
        refine DN.retThen ?_
        refine DN.retThen ?_
        obtain rfl := Option.some.inj h
        have h := hk2
        simp only [cond_true, cond_false, Option.bind_some, Option.bind_assoc, lpK_ret, lpK_brk, lpK_nxt, aft_inl, aft_inr] at h
        refine DN.retBlock ?_
        refine DN.retThen ?_
        refine DN.ret1 Try.results34 rfl ?_
        obtain rfl := Option.some.inj h
        exact ⟨rfl, hE8⟩
      | false =>
        intro h
        simp only [cond_true, cond_false, Option.bind_some, Option.bind_assoc, lpK_ret, lpK_brk, lpK_nxt, aft_inl, aft_inr] at h
        refine WC.cf rfl ?_
        refine WC.skip ?_
        refine DN.block ?_
        refine DN.seq ?_
        refine WC.regS [(0, 2), (1, 2), (2, 2)] rfl ?_
        refine WO.sp rfl rfl rfl rfl (rn_move rfl rfl) ?_
        refine WO.sp rfl rfl rfl rfl (rn_add rfl rfl rfl) ?_
        refine WO.sp rfl rfl rfl rfl (rn_assign rfl rfl) ?_
        refine WO.fin ?_
        have hw2 : IntKind.wrap .i64 (v5 + 1) = v5 + 1 := wr1 hj2 (of_decide_eq_true hc2) hs0.len_le
        rw [hw2]
        have hc2 := of_decide_eq_true hc2
        refine DN.round fun a ha => ?_
        exact ⟨k, _, Nat.lt_succ_self _, ⟨x23, v5 + 1, rfl, hE8, hs0, by omega, by omega, h⟩, (ha.more (ha.more (ha.more ha.nil rfl) rfl) rfl)⟩

/- loop.example/g00869/laws.szRival -/
def l_szRival (p0 : Rival) (p1 : Int) : Option (Int) :=
  Option.bind (l_szInt64S p0.In p1) fun x8 =>
  bif decide (x8 < 0) then
    some ((-1) : Int)
  else
    Option.bind (l_szInt64SS p0.Next x8) fun x14 =>
    bif decide (x14 < 0) then
      some ((-1) : Int)
    else
      some (x14 : Int)

theorem l_szRival_ok {p0 : Rival} {a0_0 : Option Addr} {c0_0 : Nat} {a0_1 : Option Addr} {c0_1 : Nat} {p1 : Int} {w : World} (hs0_0 : Sl (Rp.int .i64) (Fz [] w) w a0_0 c0_0 p0.In) (hs0_1 : Sl (Rp.sl (Rp.int .i64)) (Fz [] w) w a0_1 c0_1 p0.Next) {r : Int} (h : l_szRival p0 p1 = some r) : Ret Try.prog 9 [.agg #[.slice a0_0 p0.In.length c0_0, .slice a0_1 p0.Next.length c0_1], .int .i64 p1] w (fun v w' => v = .int .i64 r ∧ Ext w w') := by
  unfold l_szRival at h
  refine Ret.enter Try.func9 rfl Try.ntmps9 rfl ?_
  dsimp only [envOf]
  refine WC.seq ?_
  refine WC.regS [(0, 1), (1, 2)] rfl ?_
  have hle2 : ∀ m, m ∈ [] → m ≤ w.heap.size := (le_nil _)
  refine WO.box rfl rfl rfl rfl rfl rfl rfl ?_
  intro b2 w1 he2 hbe2 hb2
  refine ⟨trivial, ?_⟩
  have hst3 := St.ext (M := []) (Sub.refl _ _) he2
  have hs0_0 := hs0_0.stp hst3
  have hs0_1 := hs0_1.stp hst3
  have hE4 := he2
  have hb2 : Bf [] w1 b2 27 [.slice a0_0 p0.In.length c0_0, .slice a0_1 p0.Next.length c0_1] := ⟨hb2, hb2.lt, fun hm => by have := hle2 _ hm; omega⟩
  refine WO.sp rfl rfl rfl rfl (rn_assign rfl rfl) ?_
  refine WO.fin ?_
  refine DN.seq ?_
  refine WC.seq ?_
  refine WC.regS [(0, 2), (1, 1), (2, 2), (3, 1), (4, 2)] rfl ?_
  refine WO.sp rfl rfl rfl rfl (rn_fieldAddr Try.runUnderlying27 rfl Try.sizeOf24 rfl rfl) ?_
  refine WO.sq trivial rfl rfl rfl rfl (rn_loadB hb2 Try.isAgg24 rfl rfl rfl) ?_
  refine WO.sp rfl rfl rfl rfl (rn_move rfl rfl) ?_
  obtain ⟨x8, hx8, h⟩ := Option.bind_eq_some_iff.mp h
  refine WO.call rfl rfl rfl rfl rfl rfl Try.call33 (l_szInt64S_ok (hs0_0.toE (Ext.refl _)) hx8) ?_
  rintro _ w5 ⟨rfl, he6⟩
  refine ⟨trivial, ?_⟩
  have hst7 := St.ext (M := []) (Sub.refl _ _) he6
  have hs0_0 := hs0_0.stp hst7
  have hs0_1 := hs0_1.stp hst7
  have hb2 := hb2.stp hst7
  have hE8 := hE4.trans he6
  refine WO.sp rfl rfl rfl rfl (rn_assign rfl rfl) ?_
  refine WO.fin ?_
  refine DN.seq ?_
  refine WC.seq ?_
  refine WC.seq ?_
  refine WC.regS [(0, 2), (1, 2)] rfl ?_
  refine WO.sp rfl rfl rfl rfl (rn_move rfl rfl) ?_
  refine WO.sp rfl rfl rfl rfl (rn_lss rfl rfl rfl) ?_
  refine WO.fin ?_
  refine DN.seq ?_
  revert h
  cases ht9 : decide (x8 < 0) with
  | true =>
    intro h
    simp only [cond_true, cond_false, Option.bind_some, Option.bind_assoc, lpK_ret, lpK_brk, lpK_nxt, aft_inl, aft_inr] at h
    refine WC.ct rfl ?_
    refine WC.seq ?_
    refine WC.regS [(0, 2)] rfl ?_
    refine WO.sp rfl rfl rfl rfl (rn_assign rfl rfl) ?_
    refine WO.fin ?_
    refine DN.seq ?_
    refine WC.ret ?_
    refine DN.retThen ?_
    refine DN.ret1 Try.results9 rfl ?_
    obtain rfl := Option.some.inj h
    exact ⟨rfl, hE8⟩
  | false =>
    intro h
    simp only [cond_true, cond_false, Option.bind_some, Option.bind_assoc, lpK_ret, lpK_brk, lpK_nxt, aft_inl, aft_inr] at h
    refine WC.cf rfl ?_
    refine WC.skip ?_
    refine DN.seq ?_
    refine WC.seq ?_
    refine WC.regS [(0, 2), (1, 1), (2, 2), (3, 1), (4, 2)] rfl ?_
    refine WO.sp rfl rfl rfl rfl (rn_fieldAddr Try.runUnderlying27 rfl Try.sizeOf25 rfl rfl) ?_
    refine WO.sq trivial rfl rfl rfl rfl (rn_loadB hb2 Try.isAgg25 rfl rfl rfl) ?_
    refine WO.sp rfl rfl rfl rfl (rn_move rfl rfl) ?_
    obtain ⟨x14, hx14, h⟩ := Option.bind_eq_some_iff.mp h
    refine WO.call rfl rfl rfl rfl rfl rfl Try.call34 (l_szInt64SS_ok (hs0_1.toE (Ext.refl _)) hx14) ?_
    rintro _ w10 ⟨rfl, he11⟩
    refine ⟨trivial, ?_⟩
    have hst12 := St.ext (M := []) (Sub.refl _ _) he11
    have hs0_0 := hs0_0.stp hst12
    have hs0_1 := hs0_1.stp hst12
    have hb2 := hb2.stp hst12
    have hE13 := hE8.trans he11
    refine WO.sp rfl rfl rfl rfl (rn_assign rfl rfl) ?_
    refine WO.fin ?_
    refine DN.seq ?_
    refine WC.seq ?_
    refine WC.seq ?_
    refine WC.regS [(0, 2), (1, 2)] rfl ?_
    refine WO.sp rfl rfl rfl rfl (rn_move rfl rfl) ?_
    refine WO.sp rfl rfl rfl rfl (rn_lss rfl rfl rfl) ?_
    refine WO.fin ?_
    refine DN.seq ?_
    revert h
    cases ht14 : decide (x14 < 0) with
    | true =>
      intro h
      simp only [cond_true, cond_false, Option.bind_some, Option.bind_assoc, lpK_ret, lpK_brk, lpK_nxt, aft_inl, aft_inr] at h
      refine WC.ct rfl ?_
      refine WC.seq ?_
      refine WC.regS [(0, 2)] rfl ?_
      refine WO.sp rfl rfl rfl rfl (rn_assign rfl rfl) ?_
      refine WO.fin ?_
      refine DN.seq ?_
      refine WC.ret ?_
      refine DN.retThen ?_
      refine DN.ret1 Try.results9 rfl ?_
      obtain rfl := Option.some.inj h
      exact ⟨rfl, hE13⟩
    | false =>
      intro h
      simp only [cond_true, cond_false, Option.bind_some, Option.bind_assoc, lpK_ret, lpK_brk, lpK_nxt, aft_inl, aft_inr] at h
      refine WC.cf rfl ?_
      refine WC.skip ?_
      refine DN.seq ?_
      refine WC.seq ?_
      refine WC.regS [(0, 2), (1, 2)] rfl ?_
      refine WO.sp rfl rfl rfl rfl (rn_move rfl rfl) ?_
      refine WO.sp rfl rfl rfl rfl (rn_assign rfl rfl) ?_
      refine WO.fin ?_
      refine DN.seq ?_
      refine WC.ret ?_
      refine DN.ret1 Try.results9 rfl ?_
      obtain rfl := Option.some.inj h
      exact ⟨rfl, hE13⟩

/- loop.example/g00869/spec.l1In -/
def s_l1In (p0 : Int) (p1 : Int) (p2 : Int) : Option (Bool) :=
  Option.bind (bif decide (p1 ≤ p0) then
  some (decide (p0 ≤ p2))
  else
  some false) fun p14 =>
  some (p14 : Bool)

theorem s_l1In_ok {p0 : Int} {p1 : Int} {p2 : Int} {w : World}  {r : Bool} (h : s_l1In p0 p1 p2 = some r) : Ret Try.prog 36 [.int .i64 p0, .int .i64 p1, .int .i64 p2] w (fun v w' => v = .bool r ∧ Ext w w') := by
  unfold s_l1In at h
  refine Ret.enter Try.func36 rfl Try.ntmps36 rfl ?_
  dsimp only [envOf]
  refine WC.seq ?_
  refine WC.regS [(0, 2)] rfl ?_
  refine WO.sp rfl rfl rfl rfl (rn_assign rfl rfl) ?_
  refine WO.fin ?_
  refine DN.seq ?_
  refine WC.seq ?_
  refine WC.regS [(0, 2), (1, 2), (2, 2), (3, 2), (4, 2), (5, 2), (6, 2), (7, 2), (8, 2)] rfl ?_
  refine WO.sp rfl rfl rfl rfl (rn_move rfl rfl) ?_
  refine WO.sp rfl rfl rfl rfl (rn_move rfl rfl) ?_
  refine WO.sp rfl rfl rfl rfl (rn_geq rfl rfl rfl) ?_
  refine WO.sp rfl rfl rfl rfl (rn_move rfl rfl) ?_
  revert h
  cases ht1 : decide (p1 ≤ p0) with
  | true =>
    intro h
    simp only [cond_true, cond_false, Option.bind_some, Option.bind_assoc, lpK_ret, lpK_brk, lpK_nxt, aft_inl, aft_inr] at h
    refine WO.sp rfl rfl rfl rfl (rn_move rfl rfl) ?_
    refine WO.sp rfl rfl rfl rfl (rn_move rfl rfl) ?_
    refine WO.sp rfl rfl rfl rfl (rn_leq rfl rfl rfl) ?_
    refine WO.sp rfl rfl rfl rfl (rn_pickT rfl rfl rfl) ?_
    refine WO.sp rfl rfl rfl rfl (rn_assign rfl rfl) ?_
    refine WO.fin ?_
    refine DN.seq ?_
    refine WC.ret ?_
    refine DN.ret1 Try.results36 rfl ?_
    obtain rfl := Option.some.inj h
    exact ⟨rfl, (Ext.refl w)⟩
  | false =>
    intro h
    simp only [cond_true, cond_false, Option.bind_some, Option.bind_assoc, lpK_ret, lpK_brk, lpK_nxt, aft_inl, aft_inr] at h
    refine WO.ps rfl rfl rfl rfl ?_
    refine WO.ps rfl rfl rfl rfl ?_
    refine WO.ps rfl rfl rfl rfl ?_
    refine WO.sp rfl rfl rfl rfl (rn_pickF rfl rfl rfl) ?_
    refine WO.sp rfl rfl rfl rfl (rn_assign rfl rfl) ?_
    refine WO.fin ?_
    refine DN.seq ?_
    refine WC.ret ?_
    refine DN.ret1 Try.results36 rfl ?_
    obtain rfl := Option.some.inj h
    exact ⟨rfl, (Ext.refl w)⟩

/- loop.example/g00869/spec.SigOk -/
def s_SigOk (p0 : Sig) : Option (Bool) :=
  Option.bind (s_l1In p0.In 1 2) fun x5 =>
  Option.bind (bif x5 then
  Option.bind (s_l1In p0.Out 1 2) fun x9 =>
  some x9
  else
  some false) fun p10 =>
  some (p10 : Bool)

theorem s_SigOk_ok {p0 : Sig} {w : World}  {r : Bool} (h : s_SigOk p0 = some r) : Ret Try.prog 35 [.agg #[.int .i64 p0.In, .int .i64 p0.Out]] w (fun v w' => v = .bool r ∧ Ext w w') := by
  unfold s_SigOk at h
  refine Ret.enter Try.func35 rfl Try.ntmps35 rfl ?_
  dsimp only [envOf]
  refine WC.seq ?_
  refine WC.regS [(0, 1), (1, 2)] rfl ?_
  have hle1 : ∀ m, m ∈ [] → m ≤ w.heap.size := (le_nil _)
  refine WO.box rfl rfl rfl rfl rfl rfl rfl ?_
  intro b1 w1 he2 hbe1 hb1
  refine ⟨trivial, ?_⟩
  have hst3 := St.ext (M := []) (Sub.refl _ _) he2
  have hE4 := he2
  have hb1 : Bf [] w1 b1 30 [.int .i64 p0.In, .int .i64 p0.Out] := ⟨hb1, hb1.lt, fun hm => by have := hle1 _ hm; omega⟩
  refine WO.sp rfl rfl rfl rfl (rn_assign rfl rfl) ?_
  refine WO.fin ?_
  refine DN.seq ?_
  refine WC.seq ?_
  refine WC.regS [(0, 2), (1, 1), (2, 1), (3, 2), (4, 2), (5, 1), (6, 1), (7, 2), (8, 2)] rfl ?_
  refine WO.sp rfl rfl rfl rfl (rn_fieldAddr Try.runUnderlying30 rfl Try.sizeOf2 rfl rfl) ?_
  refine WO.sq trivial rfl rfl rfl rfl (rn_loadB hb1 Try.isAgg2 rfl rfl rfl) ?_
  obtain ⟨x5, hx5, h⟩ := Option.bind_eq_some_iff.mp h
  refine WO.call rfl rfl rfl rfl rfl rfl Try.call36 (s_l1In_ok  hx5) ?_
  rintro _ w5 ⟨rfl, he6⟩
  refine ⟨trivial, ?_⟩
  have hst7 := St.ext (M := []) (Sub.refl _ _) he6
  have hb1 := hb1.stp hst7
  have hE8 := hE4.trans he6
  refine WO.sp rfl rfl rfl rfl (rn_move rfl rfl) ?_
  revert h
  cases ht9 : x5 with
  | true =>
    intro h
    simp only [cond_true, cond_false, Option.bind_some, Option.bind_assoc, lpK_ret, lpK_brk, lpK_nxt, aft_inl, aft_inr] at h
    refine WO.sp rfl rfl rfl rfl (rn_fieldAddr Try.runUnderlying30 rfl Try.sizeOf2 rfl rfl) ?_
    refine WO.sq trivial rfl rfl rfl rfl (rn_loadB hb1 Try.isAgg2 rfl rfl rfl) ?_
    obtain ⟨x9, hx9, h⟩ := Option.bind_eq_some_iff.mp h
    refine WO.call rfl rfl rfl rfl rfl rfl Try.call36 (s_l1In_ok  hx9) ?_
    rintro _ w10 ⟨rfl, he11⟩
    refine ⟨trivial, ?_⟩
    have hst12 := St.ext (M := []) (Sub.refl _ _) he11
    have hb1 := hb1.stp hst12
    have hE13 := hE8.trans he11
    refine WO.sp rfl rfl rfl rfl (rn_pickT rfl rfl rfl) ?_
    refine WO.sp rfl rfl rfl rfl (rn_assign rfl rfl) ?_
    refine WO.fin ?_
    refine DN.seq ?_
    refine WC.ret ?_
    refine DN.ret1 Try.results35 rfl ?_
    obtain rfl := Option.some.inj h
    exact ⟨rfl, hE13⟩
  | false =>
    intro h
    simp only [cond_true, cond_false, Option.bind_some, Option.bind_assoc, lpK_ret, lpK_brk, lpK_nxt, aft_inl, aft_inr] at h
    refine WO.ps rfl rfl rfl rfl ?_
    refine WO.ls rfl rfl rfl rfl ?_
    refine WO.ls rfl rfl rfl rfl ?_
    refine WO.sp rfl rfl rfl rfl (rn_pickF rfl rfl rfl) ?_
    refine WO.sp rfl rfl rfl rfl (rn_assign rfl rfl) ?_
    refine WO.fin ?_
    refine DN.seq ?_
    refine WC.ret ?_
    refine DN.ret1 Try.results35 rfl ?_
    obtain rfl := Option.some.inj h
    exact ⟨rfl, hE8⟩

/- loop.example/g00869/spec.l23Below -/
def s_l23Below_b0 (p0 : (List Int)) (p1 : Int) (v5 : Int) (s1 : Unit) : Option (Bool ⊕ ((Unit) ⊕ (Unit))) :=
  Option.bind (idx p0 v5) fun x14 =>
  Option.bind (s_l1In x14 0 (IntKind.i64.wrap (p1 - 1))) fun x18 =>
  bif (!x18) then
    some (.inl (false : Bool))
  else
    some (.inr (.inr ()))
def s_l23Below (p0 : (List Int)) (p1 : Int) : Option (Bool) :=
  Option.bind (cntM (s_l23Below_b0 p0 p1) p0.length 0 ()) fun q2 =>
  aft (fun r => some r) (fun s3 =>
    some (true : Bool)) q2

theorem s_l23Below_ok {p0 : (List Int)} {a0 : Option Addr} {c0 : Nat} {p1 : Int} {w : World} (hs0 : Sl (Rp.int .i64) (Fz [] w) w a0 c0 p0) {r : Bool} (h : s_l23Below p0 p1 = some r) : Ret Try.prog 37 [.slice a0 p0.length c0, .int .i64 p1] w (fun v w' => v = .bool r ∧ Ext w w') := by
  unfold s_l23Below at h
  refine Ret.enter Try.func37 rfl Try.ntmps37 rfl ?_
  dsimp only [envOf]
  refine WC.seq ?_
  refine WC.regS [(0, 2)] rfl ?_
  refine WO.sp rfl rfl rfl rfl (rn_assign rfl rfl) ?_
  refine WO.fin ?_
  refine DN.seq ?_
  refine WC.seq ?_
  refine WC.seq ?_
  refine WC.regS [(0, 2)] rfl ?_
  refine WO.sp rfl rfl rfl rfl (rn_assign rfl rfl) ?_
  refine WO.fin ?_
  refine DN.seq ?_
  refine WC.block ?_
  obtain ⟨q1, hq1, hk1⟩ := Option.bind_eq_some_iff.mp h
  clear h
  refine WC.loop (fun k L w' => ∃ (v5 : Int), L = [(0, .slice a0 p0.length c0), (1, .int .i64 p1), (5, .int .i64 v5)] ∧ Ext w w' ∧ Sl (Rp.int .i64) (Fz [] w') w' a0 c0 p0 ∧ 0 ≤ v5 ∧ Int.toNat ((p0.length : Int) - v5) = k ∧ cntM (s_l23Below_b0 p0 p1) k v5 () = some q1) ⟨_, _, ⟨0, rfl, (Ext.refl w), hs0, (by decide), (by simp), hq1⟩, fun a ha => (ha.more (ha.more (ha.more ha.nil rfl) rfl) rfl)⟩ ?_
  rintro k _ w2 ⟨v5, rfl, hE3, hs0, hj1, hJ1, h⟩
  rcases k with _ | k
  ·
    simp only [cntM] at h
    have hc1 : decide (v5 < (p0.length : Int)) = false := decide_eq_false (by omega)
    refine WC.seq ?_
    refine WC.seq ?_
    refine WC.regS [(0, 2), (1, 2), (2, 2), (3, 2)] rfl ?_
    refine WO.sp rfl rfl rfl rfl (rn_move rfl rfl) ?_
    refine WO.sp rfl rfl rfl rfl (rn_move rfl rfl) ?_
    refine WO.sp rfl rfl rfl rfl (rn_len Try.runUnderlying24 rfl rfl) ?_
    refine WO.sp rfl rfl rfl rfl (rn_lss rfl rfl rfl) ?_
    refine WO.fin ?_
    refine DN.seq ?_
    refine WC.cf' rfl hc1 ?_
    refine WC.exit ?_
    refine DN.exitThen ?_
    refine DN.exitThen ?_
    obtain rfl := Option.some.inj h
    have h := hk1
    simp only [cond_true, cond_false, Option.bind_some, Option.bind_assoc, lpK_ret, lpK_brk, lpK_nxt, aft_inl, aft_inr] at h
    refine DN.hit ?_
    refine DN.seq ?_
    refine WC.seq ?_
    refine WC.regS [(0, 2)] rfl ?_
    refine WO.sp rfl rfl rfl rfl (rn_assign rfl rfl) ?_
    refine WO.fin ?_
    refine DN.seq ?_
    refine WC.ret ?_
    refine DN.ret1 Try.results37 rfl ?_
    obtain rfl := Option.some.inj h
    exact ⟨rfl, hE3⟩
  ·
    simp only [cntM, s_l23Below_b0, cond_true, cond_false, Option.bind_some, Option.bind_assoc, lpK_ret, lpK_brk, lpK_nxt, aft_inl, aft_inr] at h
    have hc1 : decide (v5 < (p0.length : Int)) = true := decide_eq_true (by omega)
    refine WC.seq ?_
    refine WC.seq ?_
    refine WC.regS [(0, 2), (1, 2), (2, 2), (3, 2)] rfl ?_
    refine WO.sp rfl rfl rfl rfl (rn_move rfl rfl) ?_
    refine WO.sp rfl rfl rfl rfl (rn_move rfl rfl) ?_
    refine WO.sp rfl rfl rfl rfl (rn_len Try.runUnderlying24 rfl rfl) ?_
    refine WO.sp rfl rfl rfl rfl (rn_lss rfl rfl rfl) ?_
    refine WO.fin ?_
    refine DN.seq ?_
    refine WC.ct' rfl hc1 ?_
    refine WC.skip ?_
    refine DN.seq ?_
    refine WC.seq ?_
    refine WC.block ?_
    refine WC.seq ?_
    refine WC.regS [(0, 2), (1, 2), (2, 2), (3, 1), (4, 2), (5, 2), (6, 1), (7, 2)] rfl ?_
    refine WO.sp rfl rfl rfl rfl (rn_move rfl rfl) ?_
    refine WO.sp rfl rfl rfl rfl (rn_move rfl rfl) ?_
    obtain ⟨x14, hx14, h⟩ := Option.bind_eq_some_iff.mp h
    refine WO.sp rfl rfl rfl rfl (rn_index hs0 hx14 Try.runUnderlying24 Try.sizeOf2 rfl rfl rfl rfl) ?_
    refine WO.sq trivial rfl rfl rfl rfl (rn_load Try.isAgg2 rfl rfl ((hs0).getInt hx14)) ?_
    refine WO.sp rfl rfl rfl rfl (rn_move rfl rfl) ?_
    refine WO.sp rfl rfl rfl rfl (rn_sub rfl rfl rfl) ?_
    obtain ⟨x18, hx18, h⟩ := Option.bind_eq_some_iff.mp h
    refine WO.call rfl rfl rfl rfl rfl rfl Try.call36 (s_l1In_ok  hx18) ?_
    rintro _ w4 ⟨rfl, he5⟩
    refine ⟨trivial, ?_⟩
    have hst6 := St.ext (M := []) (Sub.refl _ _) he5
    have hs0 := hs0.stp hst6
    have hE7 := hE3.trans he5
    refine WO.sp rfl rfl rfl rfl (rn_not rfl rfl) ?_
    refine WO.fin ?_
    refine DN.seq ?_
    revert h
    cases ht8 : (!x18) with
    | true =>
      intro h
      simp only [cond_true, cond_false, Option.bind_some, Option.bind_assoc, lpK_ret, lpK_brk, lpK_nxt, aft_inl, aft_inr] at h
      refine WC.ct rfl ?_
      refine WC.seq ?_
      refine WC.regS [(0, 2)] rfl ?_
      refine WO.sp rfl rfl rfl rfl (rn_assign rfl rfl) ?_
      refine WO.fin ?_
      refine DN.seq ?_
      refine WC.ret ?_
      refine DN.retBlock ?_
      refine DN.retThen ?_
      refine DN.retThen ?_
      obtain rfl := Option.some.inj h
      have h := hk1
      simp only [cond_true, cond_false, Option.bind_some, Option.bind_assoc, lpK_ret, lpK_brk, lpK_nxt, aft_inl, aft_inr] at h
      refine DN.retBlock ?_
      refine DN.retThen ?_
      refine DN.ret1 Try.results37 rfl ?_
      obtain rfl := Option.some.inj h
      exact ⟨rfl, hE7⟩
    | false =>
      intro h
      simp only [cond_true, cond_false, Option.bind_some, Option.bind_assoc, lpK_ret, lpK_brk, lpK_nxt, aft_inl, aft_inr] at h
      refine WC.cf rfl ?_
      refine WC.skip ?_
      refine DN.block ?_
      refine DN.seq ?_
      refine WC.regS [(0, 2), (1, 2), (2, 2)] rfl ?_
      refine WO.sp rfl rfl rfl rfl (rn_move rfl rfl) ?_
      refine WO.sp rfl rfl rfl rfl (rn_add rfl rfl rfl) ?_
      refine WO.sp rfl rfl rfl rfl (rn_assign rfl rfl) ?_
      refine WO.fin ?_
      have hw1 : IntKind.wrap .i64 (v5 + 1) = v5 + 1 := wr1 hj1 (of_decide_eq_true hc1) hs0.len_le
      rw [hw1]
      have hc1 := of_decide_eq_true hc1
      refine DN.round fun a ha => ?_
      exact ⟨k, _, Nat.lt_succ_self _, ⟨v5 + 1, rfl, hE7, hs0, by omega, by omega, h⟩, (ha.more (ha.more (ha.more ha.nil rfl) rfl) rfl)⟩

/- loop.example/g00869/spec.l23Power -/
def s_l23Power_b0  (s1 : Int × Int) : Option (Int ⊕ ((Int × Int) ⊕ (Int × Int))) :=
  bif decide (0 < s1.1) then
    some (.inr (.inr (((IntKind.i64.wrap (s1.1 - 1)) : Int), ((IntKind.i64.wrap (s1.2 * 2)) : Int))))
  else
    some (.inr (.inl ((s1.1 : Int), (s1.2 : Int))))
def s_l23Power (p0 : Int) : Option (Int) :=
  Option.bind (whileM s_l23Power_b0 (2 ^ 64) ((p0 : Int), (1 : Int))) fun q2 =>
  aft (fun r => some r) (fun s3 =>
    some (s3.2 : Int)) q2

theorem s_l23Power_ok {p0 : Int} {w : World}  {r : Int} (h : s_l23Power p0 = some r) : Ret Try.prog 60 [.int .i64 p0] w (fun v w' => v = .int .i64 r ∧ Ext w w') := by
  unfold s_l23Power at h
  refine Ret.enter Try.func60 rfl Try.ntmps60 rfl ?_
  dsimp only [envOf]
  refine WC.seq ?_
  refine WC.regS [(0, 2)] rfl ?_
  refine WO.sp rfl rfl rfl rfl (rn_assign rfl rfl) ?_
  refine WO.fin ?_
  refine DN.seq ?_
  refine WC.seq ?_
  refine WC.regS [(0, 2)] rfl ?_
  refine WO.sp rfl rfl rfl rfl (rn_assign rfl rfl) ?_
  refine WO.fin ?_
  refine DN.seq ?_
  refine WC.seq ?_
  refine WC.block ?_
  obtain ⟨q1, hq1, hk1⟩ := Option.bind_eq_some_iff.mp h
  clear h
  refine WC.loop (fun k L w' => ∃ (v0 : Int), ∃ (v3 : Int), L = [(0, .int .i64 v0), (3, .int .i64 v3)] ∧ Ext w w' ∧ whileM s_l23Power_b0 k ((v0 : Int), (v3 : Int)) = some q1) ⟨_, _, ⟨p0, 1, rfl, (Ext.refl w), hq1⟩, fun a ha => (ha.more (ha.more ha.nil rfl) rfl)⟩ ?_
  rintro k _ w2 ⟨v0, v3, rfl, hE3, h⟩
  rcases k with _ | k
  ·
    cases h
  ·
    simp only [whileM, s_l23Power_b0, cond_true, cond_false, Option.bind_some, Option.bind_assoc, lpK_ret, lpK_brk, lpK_nxt, aft_inl, aft_inr] at h
    refine WC.seq ?_
    refine WC.seq ?_
    refine WC.regS [(0, 2), (1, 2)] rfl ?_
    refine WO.sp rfl rfl rfl rfl (rn_move rfl rfl) ?_
    refine WO.sp rfl rfl rfl rfl (rn_gtr rfl rfl rfl) ?_
    refine WO.fin ?_
    refine DN.seq ?_
    revert h
    cases ht4 : decide (0 < v0) with
    | true =>
      intro h
      simp only [cond_true, cond_false, Option.bind_some, Option.bind_assoc, lpK_ret, lpK_brk, lpK_nxt, aft_inl, aft_inr] at h
      refine WC.ct rfl ?_
      refine WC.skip ?_
      refine DN.seq ?_
      refine WC.seq ?_
      refine WC.block ?_
      refine WC.regS [(0, 2), (1, 2), (2, 2)] rfl ?_
      refine WO.sp rfl rfl rfl rfl (rn_move rfl rfl) ?_
      refine WO.sp rfl rfl rfl rfl (rn_mul rfl rfl rfl) ?_
      refine WO.sp rfl rfl rfl rfl (rn_assign rfl rfl) ?_
      refine WO.fin ?_
      refine DN.block ?_
      refine DN.seq ?_
      refine WC.regS [(0, 2), (1, 2), (2, 2)] rfl ?_
      refine WO.sp rfl rfl rfl rfl (rn_move rfl rfl) ?_
      refine WO.sp rfl rfl rfl rfl (rn_sub rfl rfl rfl) ?_
      refine WO.sp rfl rfl rfl rfl (rn_assign rfl rfl) ?_
      refine WO.fin ?_
      refine DN.round fun a ha => ?_
      exact ⟨k, _, Nat.lt_succ_self _, ⟨(IntKind.i64.wrap (v0 - 1)), (IntKind.i64.wrap (v3 * 2)), rfl, hE3, h⟩, (ha.more (ha.more ha.nil rfl) rfl)⟩
    | false =>
      intro h
      simp only [cond_true, cond_false, Option.bind_some, Option.bind_assoc, lpK_ret, lpK_brk, lpK_nxt, aft_inl, aft_inr] at h
      refine WC.cf rfl ?_
      refine WC.exit ?_
      refine DN.exitThen ?_
      refine DN.exitThen ?_
      obtain rfl := Option.some.inj h
      have h := hk1
      simp only [cond_true, cond_false, Option.bind_some, Option.bind_assoc, lpK_ret, lpK_brk, lpK_nxt, aft_inl, aft_inr] at h
      refine DN.hit ?_
      refine DN.seq ?_
      refine WC.seq ?_
      refine WC.regS [(0, 2), (1, 2)] rfl ?_
      refine WO.sp rfl rfl rfl rfl (rn_move rfl rfl) ?_
      refine WO.sp rfl rfl rfl rfl (rn_assign rfl rfl) ?_
      refine WO.fin ?_
      refine DN.seq ?_
      refine WC.ret ?_
      refine DN.ret1 Try.results60 rfl ?_
      obtain rfl := Option.some.inj h
      exact ⟨rfl, hE3⟩

/- loop.example/g00869/spec.l27Inputs -/
def s_l27Inputs (p0 : Sig) : Option (Int) :=
  Option.bind (s_l23Power p0.In) fun x5 =>
  some (x5 : Int)

theorem s_l27Inputs_ok {p0 : Sig} {w : World}  {r : Int} (h : s_l27Inputs p0 = some r) : Ret Try.prog 38 [.agg #[.int .i64 p0.In, .int .i64 p0.Out]] w (fun v w' => v = .int .i64 r ∧ Ext w w') := by
  unfold s_l27Inputs at h
  refine Ret.enter Try.func38 rfl Try.ntmps38 rfl ?_
  dsimp only [envOf]
  refine WC.seq ?_
  refine WC.regS [(0, 1), (1, 2)] rfl ?_
  have hle1 : ∀ m, m ∈ [] → m ≤ w.heap.size := (le_nil _)
  refine WO.box rfl rfl rfl rfl rfl rfl rfl ?_
  intro b1 w1 he2 hbe1 hb1
  refine ⟨trivial, ?_⟩
  have hst3 := St.ext (M := []) (Sub.refl _ _) he2
  have hE4 := he2
  have hb1 : Bf [] w1 b1 30 [.int .i64 p0.In, .int .i64 p0.Out] := ⟨hb1, hb1.lt, fun hm => by have := hle1 _ hm; omega⟩
  refine WO.sp rfl rfl rfl rfl (rn_assign rfl rfl) ?_
  refine WO.fin ?_
  refine DN.seq ?_
  refine WC.seq ?_
  refine WC.regS [(0, 2), (1, 1), (2, 1), (3, 2)] rfl ?_
  refine WO.sp rfl rfl rfl rfl (rn_fieldAddr Try.runUnderlying30 rfl Try.sizeOf2 rfl rfl) ?_
  refine WO.sq trivial rfl rfl rfl rfl (rn_loadB hb1 Try.isAgg2 rfl rfl rfl) ?_
  obtain ⟨x5, hx5, h⟩ := Option.bind_eq_some_iff.mp h
  refine WO.call rfl rfl rfl rfl rfl rfl Try.call60 (s_l23Power_ok  hx5) ?_
  rintro _ w5 ⟨rfl, he6⟩
  refine ⟨trivial, ?_⟩
  have hst7 := St.ext (M := []) (Sub.refl _ _) he6
  have hb1 := hb1.stp hst7
  have hE8 := hE4.trans he6
  refine WO.sp rfl rfl rfl rfl (rn_assign rfl rfl) ?_
  refine WO.fin ?_
  refine DN.seq ?_
  refine WC.ret ?_
  refine DN.ret1 Try.results38 rfl ?_
  obtain rfl := Option.some.inj h
  exact ⟨rfl, hE8⟩

/- loop.example/g00869/spec.l33Outputs -/
def s_l33Outputs (p0 : Sig) : Option (Int) :=
  Option.bind (s_l23Power p0.Out) fun x5 =>
  some (x5 : Int)

theorem s_l33Outputs_ok {p0 : Sig} {w : World}  {r : Int} (h : s_l33Outputs p0 = some r) : Ret Try.prog 39 [.agg #[.int .i64 p0.In, .int .i64 p0.Out]] w (fun v w' => v = .int .i64 r ∧ Ext w w') := by
  unfold s_l33Outputs at h
  refine Ret.enter Try.func39 rfl Try.ntmps39 rfl ?_
  dsimp only [envOf]
  refine WC.seq ?_
  refine WC.regS [(0, 1), (1, 2)] rfl ?_
  have hle1 : ∀ m, m ∈ [] → m ≤ w.heap.size := (le_nil _)
  refine WO.box rfl rfl rfl rfl rfl rfl rfl ?_
  intro b1 w1 he2 hbe1 hb1
  refine ⟨trivial, ?_⟩
  have hst3 := St.ext (M := []) (Sub.refl _ _) he2
  have hE4 := he2
  have hb1 : Bf [] w1 b1 30 [.int .i64 p0.In, .int .i64 p0.Out] := ⟨hb1, hb1.lt, fun hm => by have := hle1 _ hm; omega⟩
  refine WO.sp rfl rfl rfl rfl (rn_assign rfl rfl) ?_
  refine WO.fin ?_
  refine DN.seq ?_
  refine WC.seq ?_
  refine WC.regS [(0, 2), (1, 1), (2, 1), (3, 2)] rfl ?_
  refine WO.sp rfl rfl rfl rfl (rn_fieldAddr Try.runUnderlying30 rfl Try.sizeOf2 rfl rfl) ?_
  refine WO.sq trivial rfl rfl rfl rfl (rn_loadB hb1 Try.isAgg2 rfl rfl rfl) ?_
  obtain ⟨x5, hx5, h⟩ := Option.bind_eq_some_iff.mp h
  refine WO.call rfl rfl rfl rfl rfl rfl Try.call60 (s_l23Power_ok  hx5) ?_
  rintro _ w5 ⟨rfl, he6⟩
  refine ⟨trivial, ?_⟩
  have hst7 := St.ext (M := []) (Sub.refl _ _) he6
  have hb1 := hb1.stp hst7
  have hE8 := hE4.trans he6
  refine WO.sp rfl rfl rfl rfl (rn_assign rfl rfl) ?_
  refine WO.fin ?_
  refine DN.seq ?_
  refine WC.ret ?_
  refine DN.ret1 Try.results39 rfl ?_
  obtain rfl := Option.some.inj h
  exact ⟨rfl, hE8⟩

/- loop.example/g00869/spec.RivalOk -/
def s_RivalOk_b0 (p0 : Sig) (p1 : Rival) (v6 : Int) (s1 : Unit) : Option (Bool ⊕ ((Unit) ⊕ (Unit))) :=
  Option.bind (idx p1.Next v6) fun x45 =>
  Option.bind (s_l33Outputs p0) fun x49 =>
  Option.bind (bif ((x45.length : Int) != x49) then
  some true
  else
  Option.bind (idx p1.Next v6) fun x55 =>
  Option.bind (s_l23Below x55 (p1.In.length : Int)) fun x58 =>
  some (!x58)) fun p60 =>
  bif p60 then
    some (.inl (false : Bool))
  else
    some (.inr (.inr ()))
def s_RivalOk (p0 : Sig) (p1 : Rival) : Option (Bool) :=
  Option.bind (s_SigOk p0) fun x11 =>
  Option.bind (bif (!x11) then
  some true
  else
  Option.bind (s_l1In (p1.In.length : Int) 1 256) fun x15 =>
  some (!x15)) fun p17 =>
  Option.bind (bif p17 then
  some true
  else
  some ((p1.Next.length : Int) != (p1.In.length : Int))) fun p26 =>
  Option.bind (bif p26 then
  some true
  else
  Option.bind (s_l27Inputs p0) fun x31 =>
  Option.bind (s_l23Below p1.In x31) fun x32 =>
  some (!x32)) fun p34 =>
  bif p34 then
    some (false : Bool)
  else
    Option.bind (cntM (s_RivalOk_b0 p0 p1) p1.Next.length 0 ()) fun q2 =>
    aft (fun r => some r) (fun s3 =>
      some (true : Bool)) q2

theorem s_RivalOk_ok {p0 : Sig} {p1 : Rival} {a1_0 : Option Addr} {c1_0 : Nat} {a1_1 : Option Addr} {c1_1 : Nat} {w : World} (hs1_0 : Sl (Rp.int .i64) (Fz [] w) w a1_0 c1_0 p1.In) (hs1_1 : Sl (Rp.sl (Rp.int .i64)) (Fz [] w) w a1_1 c1_1 p1.Next) {r : Bool} (h : s_RivalOk p0 p1 = some r) : Ret Try.prog 10 [.agg #[.int .i64 p0.In, .int .i64 p0.Out], .agg #[.slice a1_0 p1.In.length c1_0, .slice a1_1 p1.Next.length c1_1]] w (fun v w' => v = .bool r ∧ Ext w w') := by
  unfold s_RivalOk at h
  refine Ret.enter Try.func10 rfl Try.ntmps10 rfl ?_
  dsimp only [envOf]
  refine WC.seq ?_
  refine WC.regS [(0, 1), (1, 1), (2, 2)] rfl ?_
  have hle2 : ∀ m, m ∈ [] → m ≤ w.heap.size := (le_nil _)
  refine WO.box rfl rfl rfl rfl rfl rfl rfl ?_
  intro b2 w1 he2 hbe2 hb2
  refine ⟨trivial, ?_⟩
  have hst3 := St.ext (M := []) (Sub.refl _ _) he2
  have hs1_0 := hs1_0.stp hst3
  have hs1_1 := hs1_1.stp hst3
  have hE4 := he2
  have hb2 : Bf [] w1 b2 30 [.int .i64 p0.In, .int .i64 p0.Out] := ⟨hb2, hb2.lt, fun hm => by have := hle2 _ hm; omega⟩
  have hle3 : ∀ m, m ∈ [] → m ≤ w1.heap.size := (le_nil _)
  refine WO.box rfl rfl rfl rfl rfl rfl rfl ?_
  intro b3 w5 he6 hbe3 hb3
  refine ⟨trivial, ?_⟩
  have hst7 := St.ext (M := []) (Sub.refl _ _) he6
  have hs1_0 := hs1_0.stp hst7
  have hs1_1 := hs1_1.stp hst7
  have hb2 := hb2.stp hst7
  have hE8 := hE4.trans he6
  have hb3 : Bf [] w5 b3 32 [.slice a1_0 p1.In.length c1_0, .slice a1_1 p1.Next.length c1_1] := ⟨hb3, hb3.lt, fun hm => by have := hle3 _ hm; omega⟩
  refine WO.sp rfl rfl rfl rfl (rn_assign rfl rfl) ?_
  refine WO.fin ?_
  refine DN.seq ?_
  refine WC.seq ?_
  refine WC.regS [(0, 2), (1, 1), (2, 2), (3, 2)] rfl ?_
  refine WO.sp rfl rfl rfl rfl (rn_fieldAddr Try.runUnderlying32 rfl Try.sizeOf24 rfl rfl) ?_
  refine WO.sq trivial rfl rfl rfl rfl (rn_loadB hb3 Try.isAgg24 rfl rfl rfl) ?_
  refine WO.sp rfl rfl rfl rfl (rn_len Try.runUnderlying24 rfl rfl) ?_
  refine WO.sp rfl rfl rfl rfl (rn_assign rfl rfl) ?_
  refine WO.fin ?_
  refine DN.seq ?_
  refine WC.seq ?_
  refine WC.seq ?_
  refine WC.regX none [(0, 0), (1, 1), (2, 2), (3, 2), (4, 2), (5, 1), (6, 2), (7, 2), (8, 2), (9, 2), (12, 2), (10, 0), (11, 2), (13, 0), (14, 2), (15, 2), (16, 2), (17, 2), (18, 2), (19, 0), (20, 0), (21, 1), (22, 1), (23, 2), (24, 2)] [] (by kernel_rfl) (by kernel_rfl) fun w9 he10 hh11 => ?_
  have hst12 := St.ext (M := []) (Sub.refl _ _) he10
  have hs1_0 := hs1_0.stp hst12
  have hs1_1 := hs1_1.stp hst12
  have hb2 := hb2.stp hst12
  have hb3 := hb3.stp hst12
  have hE13 := hE8.trans he10
  have z_hs1_0 := hs1_0
  have z_hs1_1 := hs1_1
  have z_hb2 := hb2
  have z_hb3 := hb3
  refine WO.dq rfl rfl rfl rfl (rn_loadBA hb2 Try.isAgg30 Try.sizeOf30 rfl rfl rfl) ?_
  obtain ⟨x11, hx11, h⟩ := Option.bind_eq_some_iff.mp h
  refine WO.call rfl rfl rfl rfl rfl rfl Try.call35 (s_SigOk_ok  hx11) ?_
  rintro _ w14 ⟨rfl, he15⟩
  have hx16 := he15
  refine ⟨hx16.cw, ?_⟩
  have hst17 := St.ext (M := []) (Sub.refl _ _) he15
  have hz18 := hst17
  have hs1_0 := hs1_0.stp hst17
  have hs1_1 := hs1_1.stp hst17
  have hb2 := hb2.stp hst17
  have hb3 := hb3.stp hst17
  have hE19 := hE13.trans he15
  refine WO.sp rfl rfl rfl rfl (rn_not rfl rfl) ?_
  refine WO.sp rfl rfl rfl rfl (rn_move rfl rfl) ?_
  revert h
  cases ht20 : (!x11) with
  | true =>
    intro h
    simp only [cond_true, cond_false, Option.bind_some, Option.bind_assoc, lpK_ret, lpK_brk, lpK_nxt, aft_inl, aft_inr] at h
    refine WO.ps rfl rfl rfl rfl ?_
    refine WO.ls rfl rfl rfl rfl ?_
    refine WO.ps rfl rfl rfl rfl ?_
    refine WO.sp rfl rfl rfl rfl (rn_pickT rfl rfl rfl) ?_
    refine WO.sp rfl rfl rfl rfl (rn_move rfl rfl) ?_
    refine WO.ps rfl rfl rfl rfl ?_
    refine WO.ps rfl rfl rfl rfl ?_
    refine WO.qs rfl rfl rfl rfl ?_
    refine WO.ps rfl rfl rfl rfl ?_
    refine WO.qs rfl rfl rfl rfl ?_
    refine WO.ps rfl rfl rfl rfl ?_
    refine WO.ps rfl rfl rfl rfl ?_
    refine WO.sp rfl rfl rfl rfl (rn_pickT rfl rfl rfl) ?_
    refine WO.sp rfl rfl rfl rfl (rn_move rfl rfl) ?_
    refine WO.ps rfl rfl rfl rfl ?_
    refine WO.qs rfl rfl rfl rfl ?_
    refine WO.qs rfl rfl rfl rfl ?_
    refine WO.ls rfl rfl rfl rfl ?_
    refine WO.ls rfl rfl rfl rfl ?_
    refine WO.ps rfl rfl rfl rfl ?_
    refine WO.sp rfl rfl rfl rfl (rn_pickT rfl rfl rfl) ?_
    refine WO.nx ?_
    refine WO.fin ?_
    refine DN.seq ?_
    refine WC.ct rfl ?_
    refine WC.seq ?_
    refine WC.regS [(0, 2)] rfl ?_
    refine WO.sp rfl rfl rfl rfl (rn_assign rfl rfl) ?_
    refine WO.fin ?_
    refine DN.seq ?_
    refine WC.ret ?_
    refine DN.retThen ?_
    refine DN.ret1 Try.results10 rfl ?_
    obtain rfl := Option.some.inj h
    exact ⟨rfl, hE19⟩
  | false =>
    intro h
    simp only [cond_true, cond_false, Option.bind_some, Option.bind_assoc, lpK_ret, lpK_brk, lpK_nxt, aft_inl, aft_inr] at h
    refine WO.sp rfl rfl rfl rfl (rn_move rfl rfl) ?_
    obtain ⟨x15, hx15, h⟩ := Option.bind_eq_some_iff.mp h
    refine WO.call rfl rfl rfl rfl rfl rfl Try.call36 (s_l1In_ok  hx15) ?_
    rintro _ w21 ⟨rfl, he22⟩
    have hx23 := hx16.trans he22
    refine ⟨hx23.cw, ?_⟩
    have hst24 := St.ext (M := []) (Sub.refl _ _) he22
    have hz25 := hz18.trans hst24
    have hs1_0 := hs1_0.stp hst24
    have hs1_1 := hs1_1.stp hst24
    have hb2 := hb2.stp hst24
    have hb3 := hb3.stp hst24
    have hE26 := hE19.trans he22
    refine WO.sp rfl rfl rfl rfl (rn_not rfl rfl) ?_
    refine WO.sp rfl rfl rfl rfl (rn_pickF rfl rfl rfl) ?_
    refine WO.sp rfl rfl rfl rfl (rn_move rfl rfl) ?_
    revert h
    cases ht27 : (!x15) with
    | true =>
      intro h
      simp only [cond_true, cond_false, Option.bind_some, Option.bind_assoc, lpK_ret, lpK_brk, lpK_nxt, aft_inl, aft_inr] at h
      refine WO.ps rfl rfl rfl rfl ?_
      refine WO.ps rfl rfl rfl rfl ?_
      refine WO.qs rfl rfl rfl rfl ?_
      refine WO.ps rfl rfl rfl rfl ?_
      refine WO.qs rfl rfl rfl rfl ?_
      refine WO.ps rfl rfl rfl rfl ?_
      refine WO.ps rfl rfl rfl rfl ?_
      refine WO.sp rfl rfl rfl rfl (rn_pickT rfl rfl rfl) ?_
      refine WO.sp rfl rfl rfl rfl (rn_move rfl rfl) ?_
      refine WO.ps rfl rfl rfl rfl ?_
      refine WO.qs rfl rfl rfl rfl ?_
      refine WO.qs rfl rfl rfl rfl ?_
      refine WO.ls rfl rfl rfl rfl ?_
      refine WO.ls rfl rfl rfl rfl ?_
      refine WO.ps rfl rfl rfl rfl ?_
      refine WO.sp rfl rfl rfl rfl (rn_pickT rfl rfl rfl) ?_
      refine WO.nx ?_
      refine WO.fin ?_
      refine DN.seq ?_
      refine WC.ct rfl ?_
      refine WC.seq ?_
      refine WC.regS [(0, 2)] rfl ?_
      refine WO.sp rfl rfl rfl rfl (rn_assign rfl rfl) ?_
      refine WO.fin ?_
      refine DN.seq ?_
      refine WC.ret ?_
      refine DN.retThen ?_
      refine DN.ret1 Try.results10 rfl ?_
      obtain rfl := Option.some.inj h
      exact ⟨rfl, hE26⟩
    | false =>
      intro h
      simp only [cond_true, cond_false, Option.bind_some, Option.bind_assoc, lpK_ret, lpK_brk, lpK_nxt, aft_inl, aft_inr] at h
      refine WO.sp rfl rfl rfl rfl (rn_fieldAddr Try.runUnderlying32 rfl Try.sizeOf25 rfl rfl) ?_
      refine WO.sp rfl rfl rfl rfl (rn_fieldAddr Try.runUnderlying32 rfl Try.sizeOf24 rfl rfl) ?_
      refine WO.dq rfl rfl rfl rfl (rn_loadB z_hb3 Try.isAgg25 rfl rfl rfl) ?_
      refine WO.sp rfl rfl rfl rfl (rn_len Try.runUnderlying25 rfl rfl) ?_
      refine WO.dq rfl rfl rfl rfl (rn_loadB z_hb3 Try.isAgg24 rfl rfl rfl) ?_
      refine WO.sp rfl rfl rfl rfl (rn_len Try.runUnderlying24 rfl rfl) ?_
      refine WO.sp rfl rfl rfl rfl (rn_neq rfl rfl rfl) ?_
      refine WO.sp rfl rfl rfl rfl (rn_pickF rfl rfl rfl) ?_
      refine WO.sp rfl rfl rfl rfl (rn_move rfl rfl) ?_
      revert h
      cases ht28 : ((p1.Next.length : Int) != (p1.In.length : Int)) with
      | true =>
        intro h
        simp only [cond_true, cond_false, Option.bind_some, Option.bind_assoc, lpK_ret, lpK_brk, lpK_nxt, aft_inl, aft_inr] at h
        refine WO.ps rfl rfl rfl rfl ?_
        refine WO.qs rfl rfl rfl rfl ?_
        refine WO.qs rfl rfl rfl rfl ?_
        refine WO.ls rfl rfl rfl rfl ?_
        refine WO.ls rfl rfl rfl rfl ?_
        refine WO.ps rfl rfl rfl rfl ?_
        refine WO.sp rfl rfl rfl rfl (rn_pickT rfl rfl rfl) ?_
        refine WO.nx ?_
        refine WO.fin ?_
        refine DN.seq ?_
        refine WC.ct rfl ?_
        refine WC.seq ?_
        refine WC.regS [(0, 2)] rfl ?_
        refine WO.sp rfl rfl rfl rfl (rn_assign rfl rfl) ?_
        refine WO.fin ?_
        refine DN.seq ?_
        refine WC.ret ?_
        refine DN.retThen ?_
        refine DN.ret1 Try.results10 rfl ?_
        obtain rfl := Option.some.inj h
        exact ⟨rfl, hE26⟩
      | false =>
        intro h
        simp only [cond_true, cond_false, Option.bind_some, Option.bind_assoc, lpK_ret, lpK_brk, lpK_nxt, aft_inl, aft_inr] at h
        refine WO.sp rfl rfl rfl rfl (rn_fieldAddr Try.runUnderlying32 rfl Try.sizeOf24 rfl rfl) ?_
        refine WO.dq rfl rfl rfl rfl (rn_loadB z_hb3 Try.isAgg24 rfl rfl rfl) ?_
        refine WO.dq rfl rfl rfl rfl (rn_loadBA z_hb2 Try.isAgg30 Try.sizeOf30 rfl rfl rfl) ?_
        obtain ⟨x31, hx31, h⟩ := Option.bind_eq_some_iff.mp h
        refine WO.call rfl rfl rfl rfl rfl rfl Try.call38 (s_l27Inputs_ok  hx31) ?_
        rintro _ w29 ⟨rfl, he30⟩
        have hx31 := hx23.trans he30
        refine ⟨hx31.cw, ?_⟩
        have hst32 := St.ext (M := []) (Sub.refl _ _) he30
        have hz33 := hz25.trans hst32
        have hs1_0 := hs1_0.stp hst32
        have hs1_1 := hs1_1.stp hst32
        have hb2 := hb2.stp hst32
        have hb3 := hb3.stp hst32
        have hE34 := hE26.trans he30
        obtain ⟨x32, hx32, h⟩ := Option.bind_eq_some_iff.mp h
        refine WO.call rfl rfl rfl rfl rfl rfl Try.call37 (s_l23Below_ok (hs1_0.toE (Ext.refl _)) hx32) ?_
        rintro _ w35 ⟨rfl, he36⟩
        have hx37 := hx31.trans he36
        refine ⟨hx37.cw, ?_⟩
        have hst38 := St.ext (M := []) (Sub.refl _ _) he36
        have hz39 := hz33.trans hst38
        have hs1_0 := hs1_0.stp hst38
        have hs1_1 := hs1_1.stp hst38
        have hb2 := hb2.stp hst38
        have hb3 := hb3.stp hst38
        have hE40 := hE34.trans he36
        refine WO.sp rfl rfl rfl rfl (rn_not rfl rfl) ?_
        refine WO.sp rfl rfl rfl rfl (rn_pickF rfl rfl rfl) ?_
        refine WO.nx ?_
        refine WO.fin ?_
        refine DN.seq ?_
        revert h
        cases ht41 : (!x32) with
        | true =>
          intro h
          simp only [cond_true, cond_false, Option.bind_some, Option.bind_assoc, lpK_ret, lpK_brk, lpK_nxt, aft_inl, aft_inr] at h
          refine WC.ct rfl ?_
          refine WC.seq ?_
          refine WC.regS [(0, 2)] rfl ?_
          refine WO.sp rfl rfl rfl rfl (rn_assign rfl rfl) ?_
          refine WO.fin ?_
          refine DN.seq ?_
          refine WC.ret ?_
          refine DN.retThen ?_
          refine DN.ret1 Try.results10 rfl ?_
          obtain rfl := Option.some.inj h
          exact ⟨rfl, hE40⟩
        | false =>
          intro h
          simp only [cond_true, cond_false, Option.bind_some, Option.bind_assoc, lpK_ret, lpK_brk, lpK_nxt, aft_inl, aft_inr] at h
          refine WC.cf rfl ?_
          refine WC.skip ?_
          refine DN.seq ?_
          refine WC.seq ?_
          refine WC.seq ?_
          refine WC.regS [(0, 2)] rfl ?_
          refine WO.sp rfl rfl rfl rfl (rn_assign rfl rfl) ?_
          refine WO.fin ?_
          refine DN.seq ?_
          refine WC.block ?_
          obtain ⟨q42, hq42, hk42⟩ := Option.bind_eq_some_iff.mp h
          clear h
          refine WC.loop (fun k L w' => ∃ (v6 : Int), L = [(2, .pointer (some ⟨b2, 0, none⟩)), (3, .pointer (some ⟨b3, 0, none⟩)), (5, .int .i64 (p1.In.length : Int)), (6, .int .i64 v6)] ∧ Ext w w' ∧ Sl (Rp.int .i64) (Fz [] w') w' a1_0 c1_0 p1.In ∧ Sl (Rp.sl (Rp.int .i64)) (Fz [] w') w' a1_1 c1_1 p1.Next ∧ Bf [] w' b2 30 [.int .i64 p0.In, .int .i64 p0.Out] ∧ Bf [] w' b3 32 [.slice a1_0 p1.In.length c1_0, .slice a1_1 p1.Next.length c1_1] ∧ 0 ≤ v6 ∧ Int.toNat ((p1.Next.length : Int) - v6) = k ∧ cntM (s_RivalOk_b0 p0 p1) k v6 () = some q42) ⟨_, _, ⟨0, rfl, hE40, hs1_0, hs1_1, hb2, hb3, (by decide), (by simp), hq42⟩, fun a ha => (ha.more (ha.more (ha.more (ha.more ha.nil rfl) rfl) rfl) rfl)⟩ ?_
          rintro k _ w43 ⟨v6, rfl, hE44, hs1_0, hs1_1, hb2, hb3, hj42, hJ42, h⟩
          rcases k with _ | k
          ·
            simp only [cntM] at h
            have hc42 : decide (v6 < (p1.Next.length : Int)) = false := decide_eq_false (by omega)
            refine WC.seq ?_
            refine WC.seq ?_
            refine WC.regS [(0, 2), (1, 2), (2, 1), (3, 2), (4, 2)] rfl ?_
            refine WO.sp rfl rfl rfl rfl (rn_move rfl rfl) ?_
            refine WO.sp rfl rfl rfl rfl (rn_fieldAddr Try.runUnderlying32 rfl Try.sizeOf25 rfl rfl) ?_
            refine WO.sq trivial rfl rfl rfl rfl (rn_loadB hb3 Try.isAgg25 rfl rfl rfl) ?_
            refine WO.sp rfl rfl rfl rfl (rn_len Try.runUnderlying25 rfl rfl) ?_
            refine WO.sp rfl rfl rfl rfl (rn_lss rfl rfl rfl) ?_
            refine WO.fin ?_
            refine DN.seq ?_
            refine WC.cf' rfl hc42 ?_
            refine WC.exit ?_
            refine DN.exitThen ?_
            refine DN.exitThen ?_
            obtain rfl := Option.some.inj h
            have h := hk42
            simp only [cond_true, cond_false, Option.bind_some, Option.bind_assoc, lpK_ret, lpK_brk, lpK_nxt, aft_inl, aft_inr] at h
            refine DN.hit ?_
            refine DN.seq ?_
            refine WC.seq ?_
            refine WC.regS [(0, 2)] rfl ?_
            refine WO.sp rfl rfl rfl rfl (rn_assign rfl rfl) ?_
            refine WO.fin ?_
            refine DN.seq ?_
            refine WC.ret ?_
            refine DN.ret1 Try.results10 rfl ?_
            obtain rfl := Option.some.inj h
            exact ⟨rfl, hE44⟩
          ·
            simp only [cntM, s_RivalOk_b0, cond_true, cond_false, Option.bind_some, Option.bind_assoc, lpK_ret, lpK_brk, lpK_nxt, aft_inl, aft_inr] at h
            have hc42 : decide (v6 < (p1.Next.length : Int)) = true := decide_eq_true (by omega)
            refine WC.seq ?_
            refine WC.seq ?_
            refine WC.regS [(0, 2), (1, 2), (2, 1), (3, 2), (4, 2)] rfl ?_
            refine WO.sp rfl rfl rfl rfl (rn_move rfl rfl) ?_
            refine WO.sp rfl rfl rfl rfl (rn_fieldAddr Try.runUnderlying32 rfl Try.sizeOf25 rfl rfl) ?_
            refine WO.sq trivial rfl rfl rfl rfl (rn_loadB hb3 Try.isAgg25 rfl rfl rfl) ?_
            refine WO.sp rfl rfl rfl rfl (rn_len Try.runUnderlying25 rfl rfl) ?_
            refine WO.sp rfl rfl rfl rfl (rn_lss rfl rfl rfl) ?_
            refine WO.fin ?_
            refine DN.seq ?_
            refine WC.ct' rfl hc42 ?_
            refine WC.skip ?_
            refine DN.seq ?_
            refine WC.seq ?_
            refine WC.block ?_
            refine WC.seq ?_
            refine WC.regX none [(0, 2), (2, 2), (1, 0), (3, 2), (4, 0), (5, 2), (6, 0), (7, 1), (8, 2), (9, 2), (10, 2), (12, 2), (15, 2), (11, 0), (13, 2), (14, 0), (16, 1), (17, 2), (18, 2)] [] (by kernel_rfl) (by kernel_rfl) fun w45 he46 hh47 => ?_
            have hst48 := St.ext (M := []) (Sub.refl _ _) he46
            have hs1_0 := hs1_0.stp hst48
            have hs1_1 := hs1_1.stp hst48
            have hb2 := hb2.stp hst48
            have hb3 := hb3.stp hst48
            have hE49 := hE44.trans he46
            have z_hs1_0 := hs1_0
            have z_hs1_1 := hs1_1
            have z_hb2 := hb2
            have z_hb3 := hb3
            refine WO.sp rfl rfl rfl rfl (rn_fieldAddr Try.runUnderlying32 rfl Try.sizeOf25 rfl rfl) ?_
            refine WO.sp rfl rfl rfl rfl (rn_move rfl rfl) ?_
            refine WO.dq rfl rfl rfl rfl (rn_loadB hb3 Try.isAgg25 rfl rfl rfl) ?_
            obtain ⟨x45, hx45, h⟩ := Option.bind_eq_some_iff.mp h
            refine WO.sp rfl rfl rfl rfl (rn_index hs1_1 hx45 Try.runUnderlying25 Try.sizeOf24 rfl rfl rfl rfl) ?_
            obtain ⟨ax45, cx45, hsx45, hlx45⟩ := hs1_1.getSl hx45
            refine WO.dq rfl rfl rfl rfl (rn_load Try.isAgg24 rfl rfl hlx45) ?_
            have z_hsx45 := hsx45
            refine WO.sp rfl rfl rfl rfl (rn_len Try.runUnderlying24 rfl rfl) ?_
            refine WO.dq rfl rfl rfl rfl (rn_loadBA hb2 Try.isAgg30 Try.sizeOf30 rfl rfl rfl) ?_
            obtain ⟨x49, hx49, h⟩ := Option.bind_eq_some_iff.mp h
            refine WO.call rfl rfl rfl rfl rfl rfl Try.call39 (s_l33Outputs_ok  hx49) ?_
            rintro _ w50 ⟨rfl, he51⟩
            have hx52 := he51
            refine ⟨hx52.cw, ?_⟩
            have hst53 := St.ext (M := []) (Sub.refl _ _) he51
            have hz54 := hst53
            have hs1_0 := hs1_0.stp hst53
            have hs1_1 := hs1_1.stp hst53
            have hb2 := hb2.stp hst53
            have hb3 := hb3.stp hst53
            have hsx45 := hsx45.stp hst53
            have hE55 := hE49.trans he51
            refine WO.sp rfl rfl rfl rfl (rn_neq rfl rfl rfl) ?_
            refine WO.sp rfl rfl rfl rfl (rn_move rfl rfl) ?_
            revert h
            cases ht56 : ((x45.length : Int) != x49) with
            | true =>
              intro h
              simp only [cond_true, cond_false, Option.bind_some, Option.bind_assoc, lpK_ret, lpK_brk, lpK_nxt, aft_inl, aft_inr] at h
              refine WO.ps rfl rfl rfl rfl ?_
              refine WO.ps rfl rfl rfl rfl ?_
              refine WO.ps rfl rfl rfl rfl ?_
              refine WO.qs rfl rfl rfl rfl ?_
              refine WO.ps rfl rfl rfl rfl ?_
              refine WO.qs rfl rfl rfl rfl ?_
              refine WO.ls rfl rfl rfl rfl ?_
              refine WO.ps rfl rfl rfl rfl ?_
              refine WO.sp rfl rfl rfl rfl (rn_pickT rfl rfl rfl) ?_
              refine WO.nx ?_
              refine WO.fin ?_
              refine DN.seq ?_
              refine WC.ct rfl ?_
              refine WC.seq ?_
              refine WC.regS [(0, 2)] rfl ?_
              refine WO.sp rfl rfl rfl rfl (rn_assign rfl rfl) ?_
              refine WO.fin ?_
              refine DN.seq ?_
              refine WC.ret ?_
              refine DN.retBlock ?_
              refine DN.retThen ?_
              refine DN.retThen ?_
              obtain rfl := Option.some.inj h
              have h := hk42
              simp only [cond_true, cond_false, Option.bind_some, Option.bind_assoc, lpK_ret, lpK_brk, lpK_nxt, aft_inl, aft_inr] at h
              refine DN.retBlock ?_
              refine DN.retThen ?_
              refine DN.ret1 Try.results10 rfl ?_
              obtain rfl := Option.some.inj h
              exact ⟨rfl, hE55⟩
            | false =>
              intro h
              simp only [cond_true, cond_false, Option.bind_some, Option.bind_assoc, lpK_ret, lpK_brk, lpK_nxt, aft_inl, aft_inr] at h
              refine WO.sp rfl rfl rfl rfl (rn_fieldAddr Try.runUnderlying32 rfl Try.sizeOf25 rfl rfl) ?_
              refine WO.sp rfl rfl rfl rfl (rn_move rfl rfl) ?_
              refine WO.sp rfl rfl rfl rfl (rn_move rfl rfl) ?_
              refine WO.dq rfl rfl rfl rfl (rn_loadB z_hb3 Try.isAgg25 rfl rfl rfl) ?_
              obtain ⟨x55, hx55, h⟩ := Option.bind_eq_some_iff.mp h
              refine WO.sp rfl rfl rfl rfl (rn_index hs1_1 hx55 Try.runUnderlying25 Try.sizeOf24 rfl rfl rfl rfl) ?_
              obtain ⟨ax55, cx55, hsx55, hlx55⟩ := z_hs1_1.getSl hx55
              refine WO.dq rfl rfl rfl rfl (rn_load Try.isAgg24 rfl rfl hlx55) ?_
              have z_hsx55 := hsx55
              have hsx55 := hsx55.stp hz54
              obtain ⟨x58, hx58, h⟩ := Option.bind_eq_some_iff.mp h
              refine WO.call rfl rfl rfl rfl rfl rfl Try.call37 (s_l23Below_ok (hsx55.toE (Ext.refl _)) hx58) ?_
              rintro _ w57 ⟨rfl, he58⟩
              have hx59 := hx52.trans he58
              refine ⟨hx59.cw, ?_⟩
              have hst60 := St.ext (M := []) (Sub.refl _ _) he58
              have hz61 := hz54.trans hst60
              have hs1_0 := hs1_0.stp hst60
              have hs1_1 := hs1_1.stp hst60
              have hb2 := hb2.stp hst60
              have hb3 := hb3.stp hst60
              have hsx45 := hsx45.stp hst60
              have hsx55 := hsx55.stp hst60
              have hE62 := hE55.trans he58
              refine WO.sp rfl rfl rfl rfl (rn_not rfl rfl) ?_
              refine WO.sp rfl rfl rfl rfl (rn_pickF rfl rfl rfl) ?_
              refine WO.nx ?_
              refine WO.fin ?_
              refine DN.seq ?_
              revert h
              cases ht63 : (!x58) with
              | true =>
                intro h
                simp only [cond_true, cond_false, Option.bind_some, Option.bind_assoc, lpK_ret, lpK_brk, lpK_nxt, aft_inl, aft_inr] at h
                refine WC.ct rfl ?_
                refine WC.seq ?_
                refine WC.regS [(0, 2)] rfl ?_
                refine WO.sp rfl rfl rfl rfl (rn_assign rfl rfl) ?_
                refine WO.fin ?_
                refine DN.seq ?_
                refine WC.ret ?_
                refine DN.retBlock ?_
                refine DN.retThen ?_
                refine DN.retThen ?_
                obtain rfl := Option.some.inj h
                have h := hk42
                simp only [cond_true, cond_false, Option.bind_some, Option.bind_assoc, lpK_ret, lpK_brk, lpK_nxt, aft_inl, aft_inr] at h
                refine DN.retBlock ?_
                refine DN.retThen ?_
                refine DN.ret1 Try.results10 rfl ?_
                obtain rfl := Option.some.inj h
                exact ⟨rfl, hE62⟩
              | false =>
                intro h
                simp only [cond_true, cond_false, Option.bind_some, Option.bind_assoc, lpK_ret, lpK_brk, lpK_nxt, aft_inl, aft_inr] at h
                refine WC.cf rfl ?_
                refine WC.skip ?_
                refine DN.block ?_
                refine DN.seq ?_
                refine WC.regS [(0, 2), (1, 2), (2, 2)] rfl ?_
                refine WO.sp rfl rfl rfl rfl (rn_move rfl rfl) ?_
                refine WO.sp rfl rfl rfl rfl (rn_add rfl rfl rfl) ?_
                refine WO.sp rfl rfl rfl rfl (rn_assign rfl rfl) ?_
                refine WO.fin ?_
                have hw42 : IntKind.wrap .i64 (v6 + 1) = v6 + 1 := wr1 hj42 (of_decide_eq_true hc42) hs1_1.len_le
                rw [hw42]
                have hc42 := of_decide_eq_true hc42
                refine DN.round fun a ha => ?_
                exact ⟨k, _, Nat.lt_succ_self _, ⟨v6 + 1, rfl, hE62, hs1_0, hs1_1, hb2, hb3, by omega, by omega, h⟩, (ha.more (ha.more (ha.more (ha.more ha.nil rfl) rfl) rfl) rfl)⟩

/- loop.example/g00869/laws.toSig -/
def l_toSig (p0 : Sig) : Option (Sig) :=
  some (⟨p0.In, p0.Out⟩ : Sig)

theorem l_toSig_ok {p0 : Sig} {w : World}  {r : Sig} (h : l_toSig p0 = some r) : Ret Try.prog 11 [.agg #[.int .i64 p0.In, .int .i64 p0.Out]] w (fun v w' => v = .agg #[.int .i64 r.In, .int .i64 r.Out] ∧ Ext w w') := by
  unfold l_toSig at h
  refine Ret.enter Try.func11 rfl Try.ntmps11 rfl ?_
  dsimp only [envOf]
  refine WC.seq ?_
  refine WC.regS [(0, 1), (1, 1)] rfl ?_
  have hle1 : ∀ m, m ∈ [] → m ≤ w.heap.size := (le_nil _)
  refine WO.box rfl rfl rfl rfl rfl rfl rfl ?_
  intro b1 w1 he2 hbe1 hb1
  refine ⟨trivial, ?_⟩
  have hst3 := St.ext (M := []) (Sub.refl _ _) he2
  have hE4 := he2
  have hb1 : Bf [] w1 b1 23 [.int .i64 p0.In, .int .i64 p0.Out] := ⟨hb1, hb1.lt, fun hm => by have := hle1 _ hm; omega⟩
  refine WO.alloc rfl rfl rfl rfl rfl Try.zeroValue30 rfl ?_
  intro b2 w5 he6 hbe2 hb2
  refine ⟨trivial, ?_⟩
  have hn2 : w1.heap.size < b2 + 1 := by omega
  have hF2 : (b2 + 1) = 0 ∨ w.heap.size < (b2 + 1) := f_new hE4 hn2
  have hst7 := St.ext (M := []) (Sub.new hn2 (Sub.refl _ _)) he6
  have hb1 := hb1.stp hst7
  have hE8 := hE4.trans he6
  refine WO.fin ?_
  refine DN.seq ?_
  refine WC.seq ?_
  refine WC.regS [(0, 1)] rfl ?_
  refine WO.alloc rfl rfl rfl rfl rfl Try.zeroValue30 rfl ?_
  intro b3 w9 he10 hbe3 hb3
  refine ⟨trivial, ?_⟩
  have hn3 : w5.heap.size < b3 + 1 := by omega
  have hd_b2_b3 : (b2 + 1) = 0 ∨ (b2 + 1) ≠ (b3 + 1) := d_new (Nat.succ_le_of_lt hb2.lt) hn3
  have hF3 : (b3 + 1) = 0 ∨ w.heap.size < (b3 + 1) := f_new hE8 hn3
  have hst11 := St.ext (M := ((b2 + 1) :: [])) (Sub.new hn3 (Sub.refl _ _)) he10
  have hb1 := hb1.stp hst11
  have hb2 := hb2.ext he10
  have hE12 := hE8.trans he10
  refine WO.fin ?_
  refine DN.seq ?_
  refine WC.seq ?_
  refine WC.regS [(0, 2), (1, 1), (2, 2), (3, 1)] rfl ?_
  refine WO.sp rfl rfl rfl rfl (rn_fieldAddr Try.runUnderlying23 rfl Try.sizeOf2 rfl rfl) ?_
  refine WO.sq trivial rfl rfl rfl rfl (rn_loadB hb1 Try.isAgg2 rfl rfl rfl) ?_
  refine WO.sp rfl rfl rfl rfl (rn_fieldAddr Try.runUnderlying30 rfl Try.sizeOf2 rfl rfl) ?_
  refine WO.stB (vc := [.int .i64 p0.In]) rfl rfl rfl rfl rfl rfl rfl Try.sizeOf2 rfl (by intro u hu; simp only [List.mem_cons, List.not_mem_nil, or_false] at hu; rcases hu with rfl <;> rfl) hb3 rfl rfl ?_
  intro w13 ht14 hb3
  refine ⟨trivial, ?_⟩
  have hst15 := Tch.st (M := ((b3 + 1) :: ((b2 + 1) :: []))) ht14 (.inr (.head _)) (Sub.refl _ _)
  have hb1 := hb1.stp hst15
  have hb2 := hb2.tch ht14 (d_ne hd_b2_b3)
  have hE16 := ht14.ext hE12 hF3
  refine WO.fin ?_
  refine DN.seq ?_
  refine WC.seq ?_
  refine WC.regS [(0, 2), (1, 1), (2, 2), (3, 1)] rfl ?_
  refine WO.sp rfl rfl rfl rfl (rn_fieldAddr Try.runUnderlying23 rfl Try.sizeOf2 rfl rfl) ?_
  refine WO.sq trivial rfl rfl rfl rfl (rn_loadB hb1 Try.isAgg2 rfl rfl rfl) ?_
  refine WO.sp rfl rfl rfl rfl (rn_fieldAddr Try.runUnderlying30 rfl Try.sizeOf2 rfl rfl) ?_
  refine WO.stB (vc := [.int .i64 p0.Out]) rfl rfl rfl rfl rfl rfl rfl Try.sizeOf2 rfl (by intro u hu; simp only [List.mem_cons, List.not_mem_nil, or_false] at hu; rcases hu with rfl <;> rfl) hb3 rfl rfl ?_
  intro w17 ht18 hb3
  refine ⟨trivial, ?_⟩
  have hst19 := Tch.st (M := ((b3 + 1) :: ((b2 + 1) :: []))) ht18 (.inr (.head _)) (Sub.refl _ _)
  have hb1 := hb1.stp hst19
  have hb2 := hb2.tch ht18 (d_ne hd_b2_b3)
  have hE20 := ht18.ext hE16 hF3
  refine WO.fin ?_
  refine DN.seq ?_
  refine WC.seq ?_
  refine WC.regS [(0, 1), (1, 1)] rfl ?_
  refine WO.sq trivial rfl rfl rfl rfl (rn_loadBA (Bf.of hb3) Try.isAgg30 Try.sizeOf30 rfl rfl rfl) ?_
  refine WO.stB0 (vc := [.int .i64 p0.In, .int .i64 p0.Out]) rfl rfl rfl rfl rfl rfl rfl Try.sizeOf30 rfl (by intro u hu; simp only [List.mem_cons, List.not_mem_nil, or_false] at hu; rcases hu with rfl | rfl <;> rfl) hb2 rfl ?_
  intro w21 ht22 hb2
  refine ⟨trivial, ?_⟩
  have hst23 := Tch.st (M := ((b3 + 1) :: ((b2 + 1) :: []))) ht22 (.inr (.tail _ (.head _))) (Sub.refl _ _)
  have hb1 := hb1.stp hst23
  have hb3 := hb3.tch ht22 (d_ne (d_sym hd_b2_b3))
  have hE24 := ht22.ext hE20 hF2
  refine WO.fin ?_
  refine DN.seq ?_
  refine WC.ret ?_
  refine DN.retC Try.results11 rfl hb2 Try.isAgg30 Try.sizeOf30 rfl ?_
  obtain rfl := Option.some.inj h
  exact ⟨rfl, hE24⟩

/- loop.example/g00869/laws.toInt64S -/
def l_toInt64S_b0 (p0 : (List Int)) (v4 : Int) (s1 : (List Int)) : Option ((List Int) ⊕ (((List Int)) ⊕ ((List Int)))) :=
  Option.bind (idx p0 v4) fun x18 =>
  Option.bind (idx s1 v4) fun x20 =>
  Option.bind (setI s1 v4 x18) fun y0 =>
  some (.inr (.inr (y0 : (List Int))))
def l_toInt64S (p0 : (List Int)) : Option ((List Int)) :=
  Option.bind (mkS 8 (p0.length : Int) (0 : Int)) fun x7 =>
  Option.bind (cntM (l_toInt64S_b0 p0) p0.length 0 (x7 : (List Int))) fun q2 =>
  aft (fun r => some r) (fun s3 =>
    some (s3 : (List Int))) q2

theorem l_toInt64S_ok {p0 : (List Int)} {a0 : Option Addr} {c0 : Nat} {M : List Nat} {w : World} (hs0 : Sl (Rp.int .i64) (Fz M w) w a0 c0 p0) (hM : ∀ m, m ∈ M → m ≤ w.heap.size) {r : (List Int)} (h : l_toInt64S p0 = some r) : Ret Try.prog 25 [.slice a0 p0.length c0] w (fun v w' => ∃ (ra1 : Option Addr) (rc1 : Nat), v = .slice ra1 r.length rc1 ∧ Ext w w' ∧ (nb ra1 = 0 ∨ w.heap.size < nb ra1) ∧ Ow (Rp.int .i64) 2 (Fz (nb ra1 :: M) w') w' ra1 rc1 r) := by
  unfold l_toInt64S at h
  refine Ret.enter Try.func25 rfl Try.ntmps25 rfl ?_
  dsimp only [envOf]
  refine WC.seq ?_
  refine WC.regS [(0, 2)] rfl ?_
  refine WO.sp rfl rfl rfl rfl (rn_assign rfl rfl) ?_
  refine WO.fin ?_
  refine DN.seq ?_
  refine WC.seq ?_
  refine WC.regS [(0, 2), (1, 2), (2, 1), (3, 2)] rfl ?_
  refine WO.sp rfl rfl rfl rfl (rn_move rfl rfl) ?_
  refine WO.sp rfl rfl rfl rfl (rn_len Try.runUnderlying24 rfl rfl) ?_
  obtain ⟨x7, hx7, h⟩ := Option.bind_eq_some_iff.mp h
  refine WO.make (E := (Rp.int .i64)) (M := M) rfl rfl rfl rfl rfl rfl Try.underlying24 Tryinfo2 rfl rfl rfl rfl (by decide) (fun _ _ => rfl) hx7 ?_
  intro a7 c7 w1 he2 hn7 ho7
  refine ⟨trivial, ?_⟩
  have hF7 : nb a7 = 0 ∨ w.heap.size < nb a7 := f_new (Ext.refl w) hn7
  have hst3 := St.ext (M := M) (Sub.new hn7 (Sub.refl _ _)) he2
  have hs0 := hs0.stp hst3
  have hE4 := he2
  refine WO.sp rfl rfl rfl rfl (rn_assign rfl rfl) ?_
  refine WO.fin ?_
  refine DN.seq ?_
  refine WC.seq ?_
  refine WC.seq ?_
  refine WC.regS [(0, 2)] rfl ?_
  refine WO.sp rfl rfl rfl rfl (rn_assign rfl rfl) ?_
  refine WO.fin ?_
  refine DN.seq ?_
  refine WC.block ?_
  obtain ⟨q5, hq5, hk5⟩ := Option.bind_eq_some_iff.mp h
  clear h
  refine WC.loop (fun k L w' => ∃ (v3 : List Int), ∃ (la3 : Option Addr), ∃ (lc3 : Nat), ∃ (v4 : Int), L = [(0, .slice a0 p0.length c0), (3, .slice la3 v3.length lc3), (4, .int .i64 v4)] ∧ Ext w w' ∧ Sl (Rp.int .i64) (Fz (nb la3 :: M) w') w' a0 c0 p0 ∧ Ow (Rp.int .i64) 2 (Fz (nb la3 :: M) w') w' la3 lc3 v3 ∧ (nb la3 = 0 ∨ w.heap.size < nb la3) ∧ 0 ≤ v4 ∧ Int.toNat ((p0.length : Int) - v4) = k ∧ cntM (l_toInt64S_b0 p0) k v4 (v3 : (List Int)) = some q5) ⟨_, _, ⟨x7, a7, c7, 0, rfl, hE4, hs0, ho7, hF7, (by decide), (by simp), hq5⟩, fun a ha => (ha.more (ha.more (ha.more ha.nil rfl) rfl) rfl)⟩ ?_
  rintro k _ w6 ⟨v3, la3, lc3, v4, rfl, hE7, hs0, lo3, lF3, hj5, hJ5, h⟩
  rcases k with _ | k
  ·
    simp only [cntM] at h
    have hc5 : decide (v4 < (p0.length : Int)) = false := decide_eq_false (by omega)
    refine WC.seq ?_
    refine WC.seq ?_
    refine WC.regS [(0, 2), (1, 2), (2, 2), (3, 2)] rfl ?_
    refine WO.sp rfl rfl rfl rfl (rn_move rfl rfl) ?_
    refine WO.sp rfl rfl rfl rfl (rn_move rfl rfl) ?_
    refine WO.sp rfl rfl rfl rfl (rn_len Try.runUnderlying24 rfl rfl) ?_
    refine WO.sp rfl rfl rfl rfl (rn_lss rfl rfl rfl) ?_
    refine WO.fin ?_
    refine DN.seq ?_
    refine WC.cf' rfl hc5 ?_
    refine WC.exit ?_
    refine DN.exitThen ?_
    refine DN.exitThen ?_
    obtain rfl := Option.some.inj h
    have h := hk5
    simp only [cond_true, cond_false, Option.bind_some, Option.bind_assoc, lpK_ret, lpK_brk, lpK_nxt, aft_inl, aft_inr] at h
    refine DN.hit ?_
    refine DN.seq ?_
    refine WC.seq ?_
    refine WC.regS [(0, 2), (1, 2)] rfl ?_
    refine WO.sp rfl rfl rfl rfl (rn_move rfl rfl) ?_
    refine WO.sp rfl rfl rfl rfl (rn_assign rfl rfl) ?_
    refine WO.fin ?_
    refine DN.seq ?_
    refine WC.ret ?_
    refine DN.ret1 Try.results25 rfl ?_
    obtain rfl := Option.some.inj h
    exact ⟨la3, lc3, rfl, hE7, lF3, (lo3.sbz (by intro x hx h0; simp only [List.mem_cons, nb] at *; first | (rcases hx with h | h; all_goals (first | (simp_all; done) | omega)) | simp_all))⟩
  ·
    simp only [cntM, l_toInt64S_b0, cond_true, cond_false, Option.bind_some, Option.bind_assoc, lpK_ret, lpK_brk, lpK_nxt, aft_inl, aft_inr] at h
    have hc5 : decide (v4 < (p0.length : Int)) = true := decide_eq_true (by omega)
    refine WC.seq ?_
    refine WC.seq ?_
    refine WC.regS [(0, 2), (1, 2), (2, 2), (3, 2)] rfl ?_
    refine WO.sp rfl rfl rfl rfl (rn_move rfl rfl) ?_
    refine WO.sp rfl rfl rfl rfl (rn_move rfl rfl) ?_
    refine WO.sp rfl rfl rfl rfl (rn_len Try.runUnderlying24 rfl rfl) ?_
    refine WO.sp rfl rfl rfl rfl (rn_lss rfl rfl rfl) ?_
    refine WO.fin ?_
    refine DN.seq ?_
    refine WC.ct' rfl hc5 ?_
    refine WC.skip ?_
    refine DN.seq ?_
    refine WC.seq ?_
    refine WC.block ?_
    refine WC.regS [(0, 2), (1, 2), (2, 2), (3, 2), (4, 2), (5, 1), (6, 2), (7, 1)] rfl ?_
    refine WO.sp rfl rfl rfl rfl (rn_move rfl rfl) ?_
    refine WO.sp rfl rfl rfl rfl (rn_move rfl rfl) ?_
    refine WO.sp rfl rfl rfl rfl (rn_move rfl rfl) ?_
    refine WO.sp rfl rfl rfl rfl (rn_move rfl rfl) ?_
    obtain ⟨x18, hx18, h⟩ := Option.bind_eq_some_iff.mp h
    refine WO.sp rfl rfl rfl rfl (rn_index hs0 hx18 Try.runUnderlying24 Try.sizeOf2 rfl rfl rfl rfl) ?_
    refine WO.sq trivial rfl rfl rfl rfl (rn_load Try.isAgg2 rfl rfl ((hs0).getInt hx18)) ?_
    obtain ⟨x20, hx20, h⟩ := Option.bind_eq_some_iff.mp h
    refine WO.sp rfl rfl rfl rfl (rn_index lo3.read hx20 Try.runUnderlying24 Try.sizeOf2 rfl rfl rfl rfl) ?_
    obtain ⟨y0, hy0, h⟩ := Option.bind_eq_some_iff.mp h
    have hlny0 := (setI_ok hy0).2.2.2
    refine WO.stI (E := (Rp.int .i64)) (M := (nb la3 :: M)) rfl rfl rfl rfl rfl rfl rfl rfl Try.sizeOf2 rfl rfl lo3 (.inr (.head _)) hy0 ?_
    intro w8 ht9 lo3
    refine ⟨trivial, ?_⟩
    have hst10 := Tch.st (M := (nb la3 :: M)) ht9 (.inr (.head _)) (Sub.refl _ _)
    have hs0 := hs0.stp hst10
    have hE11 := ht9.ext hE7 lF3
    try rw [← hlny0]
    refine WO.fin ?_
    refine DN.block ?_
    refine DN.seq ?_
    refine WC.regS [(0, 2), (1, 2), (2, 2)] rfl ?_
    refine WO.sp rfl rfl rfl rfl (rn_move rfl rfl) ?_
    refine WO.sp rfl rfl rfl rfl (rn_add rfl rfl rfl) ?_
    refine WO.sp rfl rfl rfl rfl (rn_assign rfl rfl) ?_
    refine WO.fin ?_
    have hw5 : IntKind.wrap .i64 (v4 + 1) = v4 + 1 := wr1 hj5 (of_decide_eq_true hc5) hs0.len_le
    rw [hw5]
    have hc5 := of_decide_eq_true hc5
    refine DN.round fun a ha => ?_
    exact ⟨k, _, Nat.lt_succ_self _, ⟨y0, la3, lc3, v4 + 1, rfl, hE11, hs0, lo3, lF3, by omega, by omega, h⟩, (ha.more (ha.more (ha.more ha.nil rfl) rfl) rfl)⟩

/- loop.example/g00869/laws.toInt64SS -/
def l_toInt64SS_b0 (p0 : (List (List Int))) (v4 : Int) (s1 : (List (List Int))) : Option ((List (List Int)) ⊕ (((List (List Int))) ⊕ ((List (List Int))))) :=
  Option.bind (idx p0 v4) fun x18 =>
  Option.bind (l_toInt64S x18) fun x20 =>
  Option.bind (idx s1 v4) fun x21 =>
  Option.bind (setI s1 v4 x20) fun y0 =>
  some (.inr (.inr (y0 : (List (List Int)))))
def l_toInt64SS (p0 : (List (List Int))) : Option ((List (List Int))) :=
  Option.bind (mkS 24 (p0.length : Int) ([] : (List Int))) fun x7 =>
  Option.bind (cntM (l_toInt64SS_b0 p0) p0.length 0 (x7 : (List (List Int)))) fun q2 =>
  aft (fun r => some r) (fun s3 =>
    some (s3 : (List (List Int)))) q2

theorem l_toInt64SS_ok {p0 : (List (List Int))} {a0 : Option Addr} {c0 : Nat} {M : List Nat} {w : World} (hs0 : Sl (Rp.sl (Rp.int .i64)) (Fz M w) w a0 c0 p0) (hM : ∀ m, m ∈ M → m ≤ w.heap.size) {r : (List (List Int))} (h : l_toInt64SS p0 = some r) : Ret Try.prog 40 [.slice a0 p0.length c0] w (fun v w' => ∃ (ra1 : Option Addr) (rc1 : Nat), v = .slice ra1 r.length rc1 ∧ Ext w w' ∧ (nb ra1 = 0 ∨ w.heap.size < nb ra1) ∧ Ow (Rp.sl (Rp.int .i64)) 24 (Fz (nb ra1 :: M) w') w' ra1 rc1 r) := by
  unfold l_toInt64SS at h
  refine Ret.enter Try.func40 rfl Try.ntmps40 rfl ?_
  dsimp only [envOf]
  refine WC.seq ?_
  refine WC.regS [(0, 2)] rfl ?_
  refine WO.sp rfl rfl rfl rfl (rn_assign rfl rfl) ?_
  refine WO.fin ?_
  refine DN.seq ?_
  refine WC.seq ?_
  refine WC.regS [(0, 2), (1, 2), (2, 1), (3, 2)] rfl ?_
  refine WO.sp rfl rfl rfl rfl (rn_move rfl rfl) ?_
  refine WO.sp rfl rfl rfl rfl (rn_len Try.runUnderlying25 rfl rfl) ?_
  obtain ⟨x7, hx7, h⟩ := Option.bind_eq_some_iff.mp h
  refine WO.make (E := (Rp.sl (Rp.int .i64))) (M := M) rfl rfl rfl rfl rfl rfl Try.underlying25 Tryinfo24 rfl rfl rfl rfl (by decide) (fun _ _ => ⟨none, 0, rfl, Sl.nil⟩) hx7 ?_
  intro a7 c7 w1 he2 hn7 ho7
  refine ⟨trivial, ?_⟩
  have hF7 : nb a7 = 0 ∨ w.heap.size < nb a7 := f_new (Ext.refl w) hn7
  have hst3 := St.ext (M := M) (Sub.new hn7 (Sub.refl _ _)) he2
  have hs0 := hs0.stp hst3
  have hE4 := he2
  refine WO.sp rfl rfl rfl rfl (rn_assign rfl rfl) ?_
  refine WO.fin ?_
  refine DN.seq ?_
  refine WC.seq ?_
  refine WC.seq ?_
  refine WC.regS [(0, 2)] rfl ?_
  refine WO.sp rfl rfl rfl rfl (rn_assign rfl rfl) ?_
  refine WO.fin ?_
  refine DN.seq ?_
  refine WC.block ?_
  obtain ⟨q5, hq5, hk5⟩ := Option.bind_eq_some_iff.mp h
  clear h
  refine WC.loop (fun k L w' => ∃ (v3 : List (List Int)), ∃ (la3 : Option Addr), ∃ (lc3 : Nat), ∃ (v4 : Int), L = [(0, .slice a0 p0.length c0), (3, .slice la3 v3.length lc3), (4, .int .i64 v4)] ∧ Ext w w' ∧ Sl (Rp.sl (Rp.int .i64)) (Fz (nb la3 :: M) w') w' a0 c0 p0 ∧ Ow (Rp.sl (Rp.int .i64)) 24 (Fz (nb la3 :: M) w') w' la3 lc3 v3 ∧ (nb la3 = 0 ∨ w.heap.size < nb la3) ∧ 0 ≤ v4 ∧ Int.toNat ((p0.length : Int) - v4) = k ∧ cntM (l_toInt64SS_b0 p0) k v4 (v3 : (List (List Int))) = some q5) ⟨_, _, ⟨x7, a7, c7, 0, rfl, hE4, hs0, ho7, hF7, (by decide), (by simp), hq5⟩, fun a ha => (ha.more (ha.more (ha.more ha.nil rfl) rfl) rfl)⟩ ?_
  rintro k _ w6 ⟨v3, la3, lc3, v4, rfl, hE7, hs0, lo3, lF3, hj5, hJ5, h⟩
  rcases k with _ | k
  ·
    simp only [cntM] at h
    have hc5 : decide (v4 < (p0.length : Int)) = false := decide_eq_false (by omega)
    refine WC.seq ?_
    refine WC.seq ?_
    refine WC.regS [(0, 2), (1, 2), (2, 2), (3, 2)] rfl ?_
    refine WO.sp rfl rfl rfl rfl (rn_move rfl rfl) ?_
    refine WO.sp rfl rfl rfl rfl (rn_move rfl rfl) ?_
    refine WO.sp rfl rfl rfl rfl (rn_len Try.runUnderlying25 rfl rfl) ?_
    refine WO.sp rfl rfl rfl rfl (rn_lss rfl rfl rfl) ?_
    refine WO.fin ?_
    refine DN.seq ?_
    refine WC.cf' rfl hc5 ?_
    refine WC.exit ?_
    refine DN.exitThen ?_
    refine DN.exitThen ?_
    obtain rfl := Option.some.inj h
    have h := hk5
    simp only [cond_true, cond_false, Option.bind_some, Option.bind_assoc, lpK_ret, lpK_brk, lpK_nxt, aft_inl, aft_inr] at h
    refine DN.hit ?_
    refine DN.seq ?_
    refine WC.seq ?_
    refine WC.regS [(0, 2), (1, 2)] rfl ?_
    refine WO.sp rfl rfl rfl rfl (rn_move rfl rfl) ?_
    refine WO.sp rfl rfl rfl rfl (rn_assign rfl rfl) ?_
    refine WO.fin ?_
    refine DN.seq ?_
    refine WC.ret ?_
    refine DN.ret1 Try.results40 rfl ?_
    obtain rfl := Option.some.inj h
    exact ⟨la3, lc3, rfl, hE7, lF3, (lo3.sbz (by intro x hx h0; simp only [List.mem_cons, nb] at *; first | (rcases hx with h | h; all_goals (first | (simp_all; done) | omega)) | simp_all))⟩
  ·
    simp only [cntM, l_toInt64SS_b0, cond_true, cond_false, Option.bind_some, Option.bind_assoc, lpK_ret, lpK_brk, lpK_nxt, aft_inl, aft_inr] at h
    have hc5 : decide (v4 < (p0.length : Int)) = true := decide_eq_true (by omega)
    refine WC.seq ?_
    refine WC.seq ?_
    refine WC.regS [(0, 2), (1, 2), (2, 2), (3, 2)] rfl ?_
    refine WO.sp rfl rfl rfl rfl (rn_move rfl rfl) ?_
    refine WO.sp rfl rfl rfl rfl (rn_move rfl rfl) ?_
    refine WO.sp rfl rfl rfl rfl (rn_len Try.runUnderlying25 rfl rfl) ?_
    refine WO.sp rfl rfl rfl rfl (rn_lss rfl rfl rfl) ?_
    refine WO.fin ?_
    refine DN.seq ?_
    refine WC.ct' rfl hc5 ?_
    refine WC.skip ?_
    refine DN.seq ?_
    refine WC.seq ?_
    refine WC.block ?_
    refine WC.regS [(0, 2), (1, 2), (2, 2), (3, 2), (4, 2), (5, 1), (6, 1), (7, 2), (8, 1)] rfl ?_
    refine WO.sp rfl rfl rfl rfl (rn_move rfl rfl) ?_
    refine WO.sp rfl rfl rfl rfl (rn_move rfl rfl) ?_
    refine WO.sp rfl rfl rfl rfl (rn_move rfl rfl) ?_
    refine WO.sp rfl rfl rfl rfl (rn_move rfl rfl) ?_
    obtain ⟨x18, hx18, h⟩ := Option.bind_eq_some_iff.mp h
    refine WO.sp rfl rfl rfl rfl (rn_index hs0 hx18 Try.runUnderlying25 Try.sizeOf24 rfl rfl rfl rfl) ?_
    obtain ⟨ax18, cx18, hsx18, hlx18⟩ := hs0.getSl hx18
    refine WO.sq trivial rfl rfl rfl rfl (rn_load Try.isAgg24 rfl rfl hlx18) ?_
    obtain ⟨x20, hx20, h⟩ := Option.bind_eq_some_iff.mp h
    refine WO.call rfl rfl rfl rfl rfl rfl Try.call25 (l_toInt64S_ok (M := (nb la3 :: M)) (hsx18.toM (Ext.refl _)) (le_cons lo3.nb_le (le_base hM hE7)) hx20) ?_
    rintro _ w8 ⟨ax20_1, cx20_1, rfl, he9, hfx20_1, hox20_1⟩
    refine ⟨trivial, ?_⟩
    have hFx20_1 : nb ax20_1 = 0 ∨ w.heap.size < nb ax20_1 := f_newO hE7 hfx20_1
    have hd_l3_x201 : nb la3 = 0 ∨ nb la3 ≠ nb ax20_1 := d_newO lo3.nb_le hfx20_1
    have hst10 := St.ext (M := (nb la3 :: M)) (Sub.newO hfx20_1 (Sub.refl _ _)) he9
    have hs0 := hs0.stp hst10
    have hsx18 := hsx18.stp hst10
    have lo3 := lo3.ext (Sub.newO hfx20_1 (Sub.refl _ _)) he9
    have hE11 := hE7.trans he9
    obtain ⟨x21, hx21, h⟩ := Option.bind_eq_some_iff.mp h
    refine WO.sp rfl rfl rfl rfl (rn_index lo3.read hx21 Try.runUnderlying25 Try.sizeOf24 rfl rfl rfl rfl) ?_
    have hzax20_1 := hox20_1.frzG (Sb.drop (Sb.same _ (Sb.refl _))) (nin_cons (d_sym hd_l3_x201) (nin_base hFx20_1 hM))
    have hs0 := hs0.stp (Sb.st (Sb.drop (Sb.same _ (Sb.refl _))))
    have hsx18 := hsx18.stp (Sb.st (Sb.drop (Sb.same _ (Sb.refl _))))
    have lo3 := lo3.sb (Sb.drop (Sb.same _ (Sb.refl _)))
    obtain ⟨y0, hy0, h⟩ := Option.bind_eq_some_iff.mp h
    have hlny0 := (setI_ok hy0).2.2.2
    refine WO.stI (E := (Rp.sl (Rp.int .i64))) (M := (nb la3 :: M)) rfl rfl rfl rfl rfl rfl rfl rfl Try.sizeOf24 rfl ⟨_, _, rfl, hzax20_1⟩ lo3 (.inr (.head _)) hy0 ?_
    intro w12 ht13 lo3
    refine ⟨trivial, ?_⟩
    have hst14 := Tch.st (M := (nb la3 :: M)) ht13 (.inr (.head _)) (Sub.refl _ _)
    have hs0 := hs0.stp hst14
    have hsx18 := hsx18.stp hst14
    have hzax20_1 := hzax20_1.stp hst14
    have hE15 := ht13.ext hE11 lF3
    try rw [← hlny0]
    refine WO.fin ?_
    refine DN.block ?_
    refine DN.seq ?_
    refine WC.regS [(0, 2), (1, 2), (2, 2)] rfl ?_
    refine WO.sp rfl rfl rfl rfl (rn_move rfl rfl) ?_
    refine WO.sp rfl rfl rfl rfl (rn_add rfl rfl rfl) ?_
    refine WO.sp rfl rfl rfl rfl (rn_assign rfl rfl) ?_
    refine WO.fin ?_
    have hw5 : IntKind.wrap .i64 (v4 + 1) = v4 + 1 := wr1 hj5 (of_decide_eq_true hc5) hs0.len_le
    rw [hw5]
    have hc5 := of_decide_eq_true hc5
    refine DN.round fun a ha => ?_
    exact ⟨k, _, Nat.lt_succ_self _, ⟨y0, la3, lc3, v4 + 1, rfl, hE15, hs0, lo3, lF3, by omega, by omega, h⟩, (ha.more (ha.more (ha.more ha.nil rfl) rfl) rfl)⟩

/- loop.example/g00869/laws.toRival -/
def l_toRival (p0 : Rival) : Option (Rival) :=
  Option.bind (l_toInt64S p0.In) fun x6 =>
  Option.bind (l_toInt64SS p0.Next) fun x10 =>
  some (⟨x6, x10⟩ : Rival)

theorem l_toRival_ok {p0 : Rival} {a0_0 : Option Addr} {c0_0 : Nat} {a0_1 : Option Addr} {c0_1 : Nat} {M : List Nat} {w : World} (hs0_0 : Sl (Rp.int .i64) (Fz M w) w a0_0 c0_0 p0.In) (hs0_1 : Sl (Rp.sl (Rp.int .i64)) (Fz M w) w a0_1 c0_1 p0.Next) (hM : ∀ m, m ∈ M → m ≤ w.heap.size) {r : Rival} (h : l_toRival p0 = some r) : Ret Try.prog 12 [.agg #[.slice a0_0 p0.In.length c0_0, .slice a0_1 p0.Next.length c0_1]] w (fun v w' => ∃ (ra1 : Option Addr) (rc1 : Nat), ∃ (ra2 : Option Addr) (rc2 : Nat), v = .agg #[.slice ra1 r.In.length rc1, .slice ra2 r.Next.length rc2] ∧ Ext w w' ∧ (nb ra1 = 0 ∨ w.heap.size < nb ra1) ∧ (nb ra2 = 0 ∨ w.heap.size < nb ra2) ∧ (nb ra1 = 0 ∨ nb ra1 ≠ nb ra2) ∧ Ow (Rp.int .i64) 2 (Fz (nb ra1 :: (nb ra2 :: M)) w') w' ra1 rc1 r.In ∧ Ow (Rp.sl (Rp.int .i64)) 24 (Fz (nb ra1 :: (nb ra2 :: M)) w') w' ra2 rc2 r.Next) := by
  unfold l_toRival at h
  refine Ret.enter Try.func12 rfl Try.ntmps12 rfl ?_
  dsimp only [envOf]
  refine WC.seq ?_
  refine WC.regS [(0, 1), (1, 1)] rfl ?_
  have hle1 : ∀ m, m ∈ M → m ≤ w.heap.size := (le_base hM (Ext.refl w))
  refine WO.box rfl rfl rfl rfl rfl rfl rfl ?_
  intro b1 w1 he2 hbe1 hb1
  refine ⟨trivial, ?_⟩
  have hst3 := St.ext (M := M) (Sub.refl _ _) he2
  have hs0_0 := hs0_0.stp hst3
  have hs0_1 := hs0_1.stp hst3
  have hE4 := he2
  have hb1 : Bf M w1 b1 27 [.slice a0_0 p0.In.length c0_0, .slice a0_1 p0.Next.length c0_1] := ⟨hb1, hb1.lt, fun hm => by have := hle1 _ hm; omega⟩
  refine WO.alloc rfl rfl rfl rfl rfl Try.zeroValue32 rfl ?_
  intro b2 w5 he6 hbe2 hb2
  refine ⟨trivial, ?_⟩
  have hn2 : w1.heap.size < b2 + 1 := by omega
  have hF2 : (b2 + 1) = 0 ∨ w.heap.size < (b2 + 1) := f_new hE4 hn2
  have hst7 := St.ext (M := M) (Sub.new hn2 (Sub.refl _ _)) he6
  have hs0_0 := hs0_0.stp hst7
  have hs0_1 := hs0_1.stp hst7
  have hb1 := hb1.stp hst7
  have hE8 := hE4.trans he6
  refine WO.fin ?_
  refine DN.seq ?_
  refine WC.seq ?_
  refine WC.regS [(0, 1)] rfl ?_
  refine WO.alloc rfl rfl rfl rfl rfl Try.zeroValue32 rfl ?_
  intro b3 w9 he10 hbe3 hb3
  refine ⟨trivial, ?_⟩
  have hn3 : w5.heap.size < b3 + 1 := by omega
  have hd_b2_b3 : (b2 + 1) = 0 ∨ (b2 + 1) ≠ (b3 + 1) := d_new (Nat.succ_le_of_lt hb2.lt) hn3
  have hF3 : (b3 + 1) = 0 ∨ w.heap.size < (b3 + 1) := f_new hE8 hn3
  have hst11 := St.ext (M := ((b2 + 1) :: M)) (Sub.new hn3 (Sub.refl _ _)) he10
  have hs0_0 := hs0_0.stp hst11
  have hs0_1 := hs0_1.stp hst11
  have hb1 := hb1.stp hst11
  have hb2 := hb2.ext he10
  have hE12 := hE8.trans he10
  refine WO.fin ?_
  refine DN.seq ?_
  refine WC.seq ?_
  refine WC.regS [(0, 2), (1, 1), (2, 1), (3, 2), (4, 1)] rfl ?_
  refine WO.sp rfl rfl rfl rfl (rn_fieldAddr Try.runUnderlying27 rfl Try.sizeOf24 rfl rfl) ?_
  refine WO.sq trivial rfl rfl rfl rfl (rn_loadB hb1 Try.isAgg24 rfl rfl rfl) ?_
  obtain ⟨x6, hx6, h⟩ := Option.bind_eq_some_iff.mp h
  refine WO.call rfl rfl rfl rfl rfl rfl Try.call25 (l_toInt64S_ok (M := ((b3 + 1) :: ((b2 + 1) :: M))) (hs0_0.toM (Ext.refl _)) (le_cons (Nat.succ_le_of_lt hb3.lt) (le_cons (Nat.succ_le_of_lt hb2.lt) (le_base hM hE12))) hx6) ?_
  rintro _ w13 ⟨ax6_1, cx6_1, rfl, he14, hfx6_1, hox6_1⟩
  refine ⟨trivial, ?_⟩
  have hFx6_1 : nb ax6_1 = 0 ∨ w.heap.size < nb ax6_1 := f_newO hE12 hfx6_1
  have hd_b3_x61 : (b3 + 1) = 0 ∨ (b3 + 1) ≠ nb ax6_1 := d_newO (Nat.succ_le_of_lt hb3.lt) hfx6_1
  have hd_b2_x61 : (b2 + 1) = 0 ∨ (b2 + 1) ≠ nb ax6_1 := d_newO (Nat.succ_le_of_lt hb2.lt) hfx6_1
  have hst15 := St.ext (M := ((b3 + 1) :: ((b2 + 1) :: M))) (Sub.newO hfx6_1 (Sub.refl _ _)) he14
  have hs0_0 := hs0_0.stp hst15
  have hs0_1 := hs0_1.stp hst15
  have hb1 := hb1.stp hst15
  have hb3 := hb3.ext he14
  have hb2 := hb2.ext he14
  have hE16 := hE12.trans he14
  refine WO.sp rfl rfl rfl rfl (rn_fieldAddr Try.runUnderlying32 rfl Try.sizeOf24 rfl rfl) ?_
  refine WO.stB (vc := [.slice ax6_1 x6.length cx6_1]) rfl rfl rfl rfl rfl rfl rfl Try.sizeOf24 rfl (by intro u hu; simp only [List.mem_cons, List.not_mem_nil, or_false] at hu; rcases hu with rfl <;> rfl) hb3 rfl rfl ?_
  intro w17 ht18 hb3
  refine ⟨trivial, ?_⟩
  have hst19 := Tch.st (M := (nb ax6_1 :: ((b3 + 1) :: ((b2 + 1) :: M)))) ht18 (.inr (.tail _ (.head _))) (Sub.refl _ _)
  have hs0_0 := hs0_0.stp hst19
  have hs0_1 := hs0_1.stp hst19
  have hb1 := hb1.stp hst19
  have hox6_1 := hox6_1.tch ht18 (.inr (.tail _ (.head _))) (Sub.refl _ _) (d_sym hd_b3_x61)
  have hb2 := hb2.tch ht18 (d_ne hd_b2_b3)
  have hE20 := ht18.ext hE16 hF3
  refine WO.fin ?_
  refine DN.seq ?_
  refine WC.seq ?_
  refine WC.regS [(0, 2), (1, 1), (2, 1), (3, 2), (4, 1)] rfl ?_
  refine WO.sp rfl rfl rfl rfl (rn_fieldAddr Try.runUnderlying27 rfl Try.sizeOf25 rfl rfl) ?_
  refine WO.sq trivial rfl rfl rfl rfl (rn_loadB hb1 Try.isAgg25 rfl rfl rfl) ?_
  obtain ⟨x10, hx10, h⟩ := Option.bind_eq_some_iff.mp h
  refine WO.call rfl rfl rfl rfl rfl rfl Try.call40 (l_toInt64SS_ok (M := (nb ax6_1 :: ((b3 + 1) :: ((b2 + 1) :: M)))) (hs0_1.toM (Ext.refl _)) (le_cons hox6_1.nb_le (le_cons (Nat.succ_le_of_lt hb3.lt) (le_cons (Nat.succ_le_of_lt hb2.lt) (le_base hM hE20)))) hx10) ?_
  rintro _ w21 ⟨ax10_1, cx10_1, rfl, he22, hfx10_1, hox10_1⟩
  refine ⟨trivial, ?_⟩
  have hFx10_1 : nb ax10_1 = 0 ∨ w.heap.size < nb ax10_1 := f_newO hE20 hfx10_1
  have hd_x61_x101 : nb ax6_1 = 0 ∨ nb ax6_1 ≠ nb ax10_1 := d_newO hox6_1.nb_le hfx10_1
  have hd_b3_x101 : (b3 + 1) = 0 ∨ (b3 + 1) ≠ nb ax10_1 := d_newO (Nat.succ_le_of_lt hb3.lt) hfx10_1
  have hd_b2_x101 : (b2 + 1) = 0 ∨ (b2 + 1) ≠ nb ax10_1 := d_newO (Nat.succ_le_of_lt hb2.lt) hfx10_1
  have hst23 := St.ext (M := (nb ax6_1 :: ((b3 + 1) :: ((b2 + 1) :: M)))) (Sub.newO hfx10_1 (Sub.refl _ _)) he22
  have hs0_0 := hs0_0.stp hst23
  have hs0_1 := hs0_1.stp hst23
  have hb1 := hb1.stp hst23
  have hox6_1 := hox6_1.ext (Sub.newO hfx10_1 (Sub.refl _ _)) he22
  have hb3 := hb3.ext he22
  have hb2 := hb2.ext he22
  have hE24 := hE20.trans he22
  refine WO.sp rfl rfl rfl rfl (rn_fieldAddr Try.runUnderlying32 rfl Try.sizeOf25 rfl rfl) ?_
  refine WO.stB (vc := [.slice ax10_1 x10.length cx10_1]) rfl rfl rfl rfl rfl rfl rfl Try.sizeOf25 rfl (by intro u hu; simp only [List.mem_cons, List.not_mem_nil, or_false] at hu; rcases hu with rfl <;> rfl) hb3 rfl rfl ?_
  intro w25 ht26 hb3
  refine ⟨trivial, ?_⟩
  have hst27 := Tch.st (M := (nb ax10_1 :: (nb ax6_1 :: ((b3 + 1) :: ((b2 + 1) :: M))))) ht26 (.inr (.tail _ (.tail _ (.head _)))) (Sub.refl _ _)
  have hs0_0 := hs0_0.stp hst27
  have hs0_1 := hs0_1.stp hst27
  have hb1 := hb1.stp hst27
  have hox10_1 := hox10_1.tch ht26 (.inr (.tail _ (.tail _ (.head _)))) (Sub.refl _ _) (d_sym hd_b3_x101)
  have hox6_1 := hox6_1.tch ht26 (.inr (.tail _ (.tail _ (.head _)))) (Sub.refl _ _) (d_sym hd_b3_x61)
  have hb2 := hb2.tch ht26 (d_ne hd_b2_b3)
  have hE28 := ht26.ext hE24 hF3
  refine WO.fin ?_
  refine DN.seq ?_
  refine WC.seq ?_
  refine WC.regS [(0, 1), (1, 1)] rfl ?_
  refine WO.sq trivial rfl rfl rfl rfl (rn_loadBA (Bf.of hb3) Try.isAgg32 Try.sizeOf32 rfl rfl rfl) ?_
  refine WO.stB0 (vc := [.slice ax6_1 x6.length cx6_1, .slice ax10_1 x10.length cx10_1]) rfl rfl rfl rfl rfl rfl rfl Try.sizeOf32 rfl (by intro u hu; simp only [List.mem_cons, List.not_mem_nil, or_false] at hu; rcases hu with rfl | rfl <;> rfl) hb2 rfl ?_
  intro w29 ht30 hb2
  refine ⟨trivial, ?_⟩
  have hst31 := Tch.st (M := (nb ax10_1 :: (nb ax6_1 :: ((b3 + 1) :: ((b2 + 1) :: M))))) ht30 (.inr (.tail _ (.tail _ (.tail _ (.head _))))) (Sub.refl _ _)
  have hs0_0 := hs0_0.stp hst31
  have hs0_1 := hs0_1.stp hst31
  have hb1 := hb1.stp hst31
  have hox10_1 := hox10_1.tch ht30 (.inr (.tail _ (.tail _ (.tail _ (.head _))))) (Sub.refl _ _) (d_sym hd_b2_x101)
  have hox6_1 := hox6_1.tch ht30 (.inr (.tail _ (.tail _ (.tail _ (.head _))))) (Sub.refl _ _) (d_sym hd_b2_x61)
  have hb3 := hb3.tch ht30 (d_ne (d_sym hd_b2_b3))
  have hE32 := ht30.ext hE28 hF2
  refine WO.fin ?_
  refine DN.seq ?_
  refine WC.ret ?_
  refine DN.retC Try.results12 rfl hb2 Try.isAgg32 Try.sizeOf32 rfl ?_
  obtain rfl := Option.some.inj h
  exact ⟨ax6_1, cx6_1, ax10_1, cx10_1, rfl, hE32, hFx6_1, hFx10_1, (by first | exact .inl rfl | (simp only [nb]; omega) | omega), (hox6_1.sbz (by intro x hx h0; simp only [List.mem_cons, nb] at *; first | (rcases hx with h | h | h; all_goals (first | (simp_all; done) | omega)) | simp_all)), (hox10_1.sbz (by intro x hx h0; simp only [List.mem_cons, nb] at *; first | (rcases hx with h | h | h; all_goals (first | (simp_all; done) | omega)) | simp_all))⟩

/- loop.example/g00869/impl.isSig -/
def i_isSig (p0 : Sig) : Option (Bool) :=
  Option.bind (bif decide (1 ≤ p0.In) then
  some (decide (p0.In ≤ 2))
  else
  some false) fun p10 =>
  Option.bind (bif p10 then
  some (decide (1 ≤ p0.Out))
  else
  some false) fun p15 =>
  Option.bind (bif p15 then
  some (decide (p0.Out ≤ 2))
  else
  some false) fun p20 =>
  some (p20 : Bool)

theorem i_isSig_ok {p0 : Sig} {w : World}  {r : Bool} (h : i_isSig p0 = some r) : Ret Try.prog 41 [.agg #[.int .i64 p0.In, .int .i64 p0.Out]] w (fun v w' => v = .bool r ∧ Ext w w') := by
  unfold i_isSig at h
  refine Ret.enter Try.func41 rfl Try.ntmps41 rfl ?_
  dsimp only [envOf]
  refine WC.seq ?_
  refine WC.regS [(0, 1), (1, 2)] rfl ?_
  have hle1 : ∀ m, m ∈ [] → m ≤ w.heap.size := (le_nil _)
  refine WO.box rfl rfl rfl rfl rfl rfl rfl ?_
  intro b1 w1 he2 hbe1 hb1
  refine ⟨trivial, ?_⟩
  have hst3 := St.ext (M := []) (Sub.refl _ _) he2
  have hE4 := he2
  have hb1 : Bf [] w1 b1 30 [.int .i64 p0.In, .int .i64 p0.Out] := ⟨hb1, hb1.lt, fun hm => by have := hle1 _ hm; omega⟩
  refine WO.sp rfl rfl rfl rfl (rn_assign rfl rfl) ?_
  refine WO.fin ?_
  refine DN.seq ?_
  refine WC.seq ?_
  refine WC.regS [(0, 2), (1, 1), (2, 2), (3, 2), (4, 2), (5, 1), (6, 2), (7, 2), (8, 2), (9, 2), (10, 1), (11, 2), (12, 2), (13, 2), (14, 2), (15, 1), (16, 2), (17, 2), (18, 2)] rfl ?_
  refine WO.sp rfl rfl rfl rfl (rn_fieldAddr Try.runUnderlying30 rfl Try.sizeOf2 rfl rfl) ?_
  refine WO.sq trivial rfl rfl rfl rfl (rn_loadB hb1 Try.isAgg2 rfl rfl rfl) ?_
  refine WO.sp rfl rfl rfl rfl (rn_geq rfl rfl rfl) ?_
  refine WO.sp rfl rfl rfl rfl (rn_move rfl rfl) ?_
  revert h
  cases ht5 : decide (1 ≤ p0.In) with
  | true =>
    intro h
    simp only [cond_true, cond_false, Option.bind_some, Option.bind_assoc, lpK_ret, lpK_brk, lpK_nxt, aft_inl, aft_inr] at h
    refine WO.sp rfl rfl rfl rfl (rn_fieldAddr Try.runUnderlying30 rfl Try.sizeOf2 rfl rfl) ?_
    refine WO.sq trivial rfl rfl rfl rfl (rn_loadB hb1 Try.isAgg2 rfl rfl rfl) ?_
    refine WO.sp rfl rfl rfl rfl (rn_leq rfl rfl rfl) ?_
    refine WO.sp rfl rfl rfl rfl (rn_pickT rfl rfl rfl) ?_
    refine WO.sp rfl rfl rfl rfl (rn_move rfl rfl) ?_
    revert h
    cases ht6 : decide (p0.In ≤ 2) with
    | true =>
      intro h
      simp only [cond_true, cond_false, Option.bind_some, Option.bind_assoc, lpK_ret, lpK_brk, lpK_nxt, aft_inl, aft_inr] at h
      refine WO.sp rfl rfl rfl rfl (rn_fieldAddr Try.runUnderlying30 rfl Try.sizeOf2 rfl rfl) ?_
      refine WO.sq trivial rfl rfl rfl rfl (rn_loadB hb1 Try.isAgg2 rfl rfl rfl) ?_
      refine WO.sp rfl rfl rfl rfl (rn_geq rfl rfl rfl) ?_
      refine WO.sp rfl rfl rfl rfl (rn_pickT rfl rfl rfl) ?_
      refine WO.sp rfl rfl rfl rfl (rn_move rfl rfl) ?_
      revert h
      cases ht7 : decide (1 ≤ p0.Out) with
      | true =>
        intro h
        simp only [cond_true, cond_false, Option.bind_some, Option.bind_assoc, lpK_ret, lpK_brk, lpK_nxt, aft_inl, aft_inr] at h
        refine WO.sp rfl rfl rfl rfl (rn_fieldAddr Try.runUnderlying30 rfl Try.sizeOf2 rfl rfl) ?_
        refine WO.sq trivial rfl rfl rfl rfl (rn_loadB hb1 Try.isAgg2 rfl rfl rfl) ?_
        refine WO.sp rfl rfl rfl rfl (rn_leq rfl rfl rfl) ?_
        refine WO.sp rfl rfl rfl rfl (rn_pickT rfl rfl rfl) ?_
        refine WO.sp rfl rfl rfl rfl (rn_assign rfl rfl) ?_
        refine WO.fin ?_
        refine DN.seq ?_
        refine WC.ret ?_
        refine DN.ret1 Try.results41 rfl ?_
        obtain rfl := Option.some.inj h
        exact ⟨rfl, hE4⟩
      | false =>
        intro h
        simp only [cond_true, cond_false, Option.bind_some, Option.bind_assoc, lpK_ret, lpK_brk, lpK_nxt, aft_inl, aft_inr] at h
        refine WO.ps rfl rfl rfl rfl ?_
        refine WO.ls rfl rfl rfl rfl ?_
        refine WO.ps rfl rfl rfl rfl ?_
        refine WO.sp rfl rfl rfl rfl (rn_pickF rfl rfl rfl) ?_
        refine WO.sp rfl rfl rfl rfl (rn_assign rfl rfl) ?_
        refine WO.fin ?_
        refine DN.seq ?_
        refine WC.ret ?_
        refine DN.ret1 Try.results41 rfl ?_
        obtain rfl := Option.some.inj h
        exact ⟨rfl, hE4⟩
    | false =>
      intro h
      simp only [cond_true, cond_false, Option.bind_some, Option.bind_assoc, lpK_ret, lpK_brk, lpK_nxt, aft_inl, aft_inr] at h
      refine WO.ps rfl rfl rfl rfl ?_
      refine WO.ls rfl rfl rfl rfl ?_
      refine WO.ps rfl rfl rfl rfl ?_
      refine WO.sp rfl rfl rfl rfl (rn_pickF rfl rfl rfl) ?_
      refine WO.sp rfl rfl rfl rfl (rn_move rfl rfl) ?_
      refine WO.ps rfl rfl rfl rfl ?_
      refine WO.ls rfl rfl rfl rfl ?_
      refine WO.ps rfl rfl rfl rfl ?_
      refine WO.sp rfl rfl rfl rfl (rn_pickF rfl rfl rfl) ?_
      refine WO.sp rfl rfl rfl rfl (rn_assign rfl rfl) ?_
      refine WO.fin ?_
      refine DN.seq ?_
      refine WC.ret ?_
      refine DN.ret1 Try.results41 rfl ?_
      obtain rfl := Option.some.inj h
      exact ⟨rfl, hE4⟩
  | false =>
    intro h
    simp only [cond_true, cond_false, Option.bind_some, Option.bind_assoc, lpK_ret, lpK_brk, lpK_nxt, aft_inl, aft_inr] at h
    refine WO.ps rfl rfl rfl rfl ?_
    refine WO.ls rfl rfl rfl rfl ?_
    refine WO.ps rfl rfl rfl rfl ?_
    refine WO.sp rfl rfl rfl rfl (rn_pickF rfl rfl rfl) ?_
    refine WO.sp rfl rfl rfl rfl (rn_move rfl rfl) ?_
    refine WO.ps rfl rfl rfl rfl ?_
    refine WO.ls rfl rfl rfl rfl ?_
    refine WO.ps rfl rfl rfl rfl ?_
    refine WO.sp rfl rfl rfl rfl (rn_pickF rfl rfl rfl) ?_
    refine WO.sp rfl rfl rfl rfl (rn_move rfl rfl) ?_
    refine WO.ps rfl rfl rfl rfl ?_
    refine WO.ls rfl rfl rfl rfl ?_
    refine WO.ps rfl rfl rfl rfl ?_
    refine WO.sp rfl rfl rfl rfl (rn_pickF rfl rfl rfl) ?_
    refine WO.sp rfl rfl rfl rfl (rn_assign rfl rfl) ?_
    refine WO.fin ?_
    refine DN.seq ?_
    refine WC.ret ?_
    refine DN.ret1 Try.results41 rfl ?_
    obtain rfl := Option.some.inj h
    exact ⟨rfl, hE4⟩

/- loop.example/g00869/impl.inputsOf -/
def i_inputsOf (p0 : Sig) : Option (Int) :=
  Option.bind (nn p0.In) fun _z5 =>
  some ((IntKind.i64.wrap (1 * 2 ^ (min (Int.toNat p0.In) (IntKind.bits IntKind.i64)))) : Int)

theorem i_inputsOf_ok {p0 : Sig} {w : World}  {r : Int} (h : i_inputsOf p0 = some r) : Ret Try.prog 61 [.agg #[.int .i64 p0.In, .int .i64 p0.Out]] w (fun v w' => v = .int .i64 r ∧ Ext w w') := by
  unfold i_inputsOf at h
  refine Ret.enter Try.func61 rfl Try.ntmps61 rfl ?_
  dsimp only [envOf]
  refine WC.seq ?_
  refine WC.regS [(0, 1), (1, 2)] rfl ?_
  have hle1 : ∀ m, m ∈ [] → m ≤ w.heap.size := (le_nil _)
  refine WO.box rfl rfl rfl rfl rfl rfl rfl ?_
  intro b1 w1 he2 hbe1 hb1
  refine ⟨trivial, ?_⟩
  have hst3 := St.ext (M := []) (Sub.refl _ _) he2
  have hE4 := he2
  have hb1 : Bf [] w1 b1 30 [.int .i64 p0.In, .int .i64 p0.Out] := ⟨hb1, hb1.lt, fun hm => by have := hle1 _ hm; omega⟩
  refine WO.sp rfl rfl rfl rfl (rn_assign rfl rfl) ?_
  refine WO.fin ?_
  refine DN.seq ?_
  refine WC.seq ?_
  refine WC.regS [(0, 2), (1, 1), (2, 2), (3, 2)] rfl ?_
  refine WO.sp rfl rfl rfl rfl (rn_fieldAddr Try.runUnderlying30 rfl Try.sizeOf2 rfl rfl) ?_
  refine WO.sq trivial rfl rfl rfl rfl (rn_loadB hb1 Try.isAgg2 rfl rfl rfl) ?_
  obtain ⟨_z5, hz5, h⟩ := Option.bind_eq_some_iff.mp h
  refine WO.sp rfl rfl rfl rfl (rn_shl rfl rfl rfl (nn_ok hz5)) ?_
  refine WO.sp rfl rfl rfl rfl (rn_assign rfl rfl) ?_
  refine WO.fin ?_
  refine DN.seq ?_
  refine WC.ret ?_
  refine DN.ret1 Try.results61 rfl ?_
  obtain rfl := Option.some.inj h
  exact ⟨rfl, hE4⟩

/- slices.IndexFunc[[]int64,int64] -/
def slices_IndexFunc_I_int64_b0 (p0 : (List Int)) (p1 : Int → Option Bool) (v8 : Int) (s1 : Unit) : Option (Int ⊕ ((Unit) ⊕ (Unit))) :=
  Option.bind (idx p0 v8) fun x14 =>
  Option.bind (p1 x14) fun x16 =>
  bif x16 then
    some (.inl (v8 : Int))
  else
    some (.inr (.inr ()))
def slices_IndexFunc_I_int64 (p0 : (List Int)) (p1 : Int → Option Bool) : Option (Int) :=
  Option.bind (cntM (slices_IndexFunc_I_int64_b0 p0 p1) p0.length 0 ()) fun q2 =>
  aft (fun r => some r) (fun s3 =>
    some ((-1) : Int)) q2

theorem slices_IndexFunc_I_int64_ok {p0 : (List Int)} {a0 : Option Addr} {c0 : Nat} {p1 : Int → Option Bool} {f1 : FuncId} {cap1 : List Value} {w : World} (hs0 : Sl (Rp.int .i64) (Fz [] w) w a0 c0 p0) (hf1 : FI Try.prog w f1 cap1 (Value.int .i64) Value.bool p1) {r : Int} (h : slices_IndexFunc_I_int64 p0 p1 = some r) : Ret Try.prog 69 [.slice a0 p0.length c0, .func (.func f1) #[] cap1.toArray] w (fun v w' => v = .int .i64 r ∧ Ext w w') := by
  unfold slices_IndexFunc_I_int64 at h
  refine Ret.enter Try.func69 rfl Try.ntmps69 rfl ?_
  dsimp only [envOf]
  refine WC.seq ?_
  refine WC.regS [(0, 2)] rfl ?_
  refine WO.sp rfl rfl rfl rfl (rn_assign rfl rfl) ?_
  refine WO.fin ?_
  refine DN.seq ?_
  refine WC.seq ?_
  refine WC.seq ?_
  refine WC.regS [(0, 2), (1, 2), (2, 2)] rfl ?_
  refine WO.sp rfl rfl rfl rfl (rn_move rfl rfl) ?_
  refine WO.sp rfl rfl rfl rfl (rn_len Try.runUnderlying24 rfl rfl) ?_
  refine WO.sp rfl rfl rfl rfl (rn_move rfl rfl) ?_
  refine WO.fin ?_
  refine DN.seq ?_
  refine WC.block ?_
  obtain ⟨q1, hq1, hk1⟩ := Option.bind_eq_some_iff.mp h
  clear h
  refine WC.loop (fun k L w' => ∃ (v8 : Int), L = [(0, .slice a0 p0.length c0), (1, .func (.func f1) #[] cap1.toArray), (7, .int .i64 (p0.length : Int)), (8, .int .i64 v8)] ∧ Ext w w' ∧ Sl (Rp.int .i64) (Fz [] w') w' a0 c0 p0 ∧ 0 ≤ v8 ∧ Int.toNat ((p0.length : Int) - v8) = k ∧ cntM (slices_IndexFunc_I_int64_b0 p0 p1) k v8 () = some q1) ⟨_, _, ⟨0, rfl, (Ext.refl w), hs0, (by decide), (by simp), hq1⟩, fun a ha => (ha.more (ha.more (ha.more (ha.more ha.nil rfl) rfl) rfl) rfl)⟩ ?_
  rintro k _ w2 ⟨v8, rfl, hE3, hs0, hj1, hJ1, h⟩
  rcases k with _ | k
  ·
    simp only [cntM] at h
    have hc1 : decide (v8 < (p0.length : Int)) = false := decide_eq_false (by omega)
    refine WC.seq ?_
    refine WC.regS [(0, 2)] rfl ?_
    refine WO.sp rfl rfl rfl rfl (rn_lss rfl rfl rfl) ?_
    refine WO.fin ?_
    refine DN.seq ?_
    refine WC.seq ?_
    refine WC.cf' rfl hc1 ?_
    refine WC.exit ?_
    refine DN.exitThen ?_
    refine DN.exitThen ?_
    obtain rfl := Option.some.inj h
    have h := hk1
    simp only [cond_true, cond_false, Option.bind_some, Option.bind_assoc, lpK_ret, lpK_brk, lpK_nxt, aft_inl, aft_inr] at h
    refine DN.hit ?_
    refine DN.seq ?_
    refine WC.seq ?_
    refine WC.regS [(0, 2)] rfl ?_
    refine WO.sp rfl rfl rfl rfl (rn_assign rfl rfl) ?_
    refine WO.fin ?_
    refine DN.seq ?_
    refine WC.ret ?_
    refine DN.ret1 Try.results69 rfl ?_
    obtain rfl := Option.some.inj h
    exact ⟨rfl, hE3⟩
  ·
    simp only [cntM, slices_IndexFunc_I_int64_b0, cond_true, cond_false, Option.bind_some, Option.bind_assoc, lpK_ret, lpK_brk, lpK_nxt, aft_inl, aft_inr] at h
    have hc1 : decide (v8 < (p0.length : Int)) = true := decide_eq_true (by omega)
    refine WC.seq ?_
    refine WC.regS [(0, 2)] rfl ?_
    refine WO.sp rfl rfl rfl rfl (rn_lss rfl rfl rfl) ?_
    refine WO.fin ?_
    refine DN.seq ?_
    refine WC.seq ?_
    refine WC.ct' rfl hc1 ?_
    refine WC.skip ?_
    refine DN.seq ?_
    refine WC.seq ?_
    refine WC.block ?_
    refine WC.seq ?_
    refine WC.regS [(0, 2), (1, 2)] rfl ?_
    refine WO.sp rfl rfl rfl rfl (rn_move rfl rfl) ?_
    refine WO.sp rfl rfl rfl rfl (rn_assign rfl rfl) ?_
    refine WO.fin ?_
    refine DN.seq ?_
    refine WC.seq ?_
    refine WC.regS [(0, 2), (1, 2), (2, 2), (3, 2), (4, 1), (5, 1)] rfl ?_
    refine WO.sp rfl rfl rfl rfl (rn_move rfl rfl) ?_
    refine WO.sp rfl rfl rfl rfl (rn_move rfl rfl) ?_
    refine WO.sp rfl rfl rfl rfl (rn_move rfl rfl) ?_
    obtain ⟨x14, hx14, h⟩ := Option.bind_eq_some_iff.mp h
    refine WO.sp rfl rfl rfl rfl (rn_index hs0 hx14 Try.runUnderlying24 Try.sizeOf2 rfl rfl rfl rfl) ?_
    refine WO.sq trivial rfl rfl rfl rfl (rn_load Try.isAgg2 rfl rfl ((hs0).getInt hx14)) ?_
    obtain ⟨x16, hx16, h⟩ := Option.bind_eq_some_iff.mp h
    refine WO.callV rfl rfl rfl rfl rfl rfl rfl hf1.call (hf1.ret _ hE3 _ _ hx16) ?_
    rintro _ w4 ⟨rfl, he5⟩
    refine ⟨trivial, ?_⟩
    have hst6 := St.ext (M := []) (Sub.refl _ _) he5
    have hs0 := hs0.stp hst6
    have hE7 := hE3.trans he5
    refine WO.fin ?_
    refine DN.seq ?_
    revert h
    cases ht8 : x16 with
    | true =>
      intro h
      simp only [cond_true, cond_false, Option.bind_some, Option.bind_assoc, lpK_ret, lpK_brk, lpK_nxt, aft_inl, aft_inr] at h
      refine WC.ct rfl ?_
      refine WC.seq ?_
      refine WC.regS [(0, 2), (1, 2)] rfl ?_
      refine WO.sp rfl rfl rfl rfl (rn_move rfl rfl) ?_
      refine WO.sp rfl rfl rfl rfl (rn_assign rfl rfl) ?_
      refine WO.fin ?_
      refine DN.seq ?_
      refine WC.ret ?_
      refine DN.retBlock ?_
      refine DN.retThen ?_
      refine DN.retThen ?_
      obtain rfl := Option.some.inj h
      have h := hk1
      simp only [cond_true, cond_false, Option.bind_some, Option.bind_assoc, lpK_ret, lpK_brk, lpK_nxt, aft_inl, aft_inr] at h
      refine DN.retBlock ?_
      refine DN.retThen ?_
      refine DN.ret1 Try.results69 rfl ?_
      obtain rfl := Option.some.inj h
      exact ⟨rfl, hE7⟩
    | false =>
      intro h
      simp only [cond_true, cond_false, Option.bind_some, Option.bind_assoc, lpK_ret, lpK_brk, lpK_nxt, aft_inl, aft_inr] at h
      refine WC.cf rfl ?_
      refine WC.skip ?_
      refine DN.block ?_
      refine DN.seq ?_
      refine WC.regS [(0, 2), (1, 2)] rfl ?_
      refine WO.sp rfl rfl rfl rfl (rn_add rfl rfl rfl) ?_
      refine WO.sp rfl rfl rfl rfl (rn_move rfl rfl) ?_
      refine WO.fin ?_
      have hw1 : IntKind.wrap .i64 (v8 + 1) = v8 + 1 := wr1 hj1 (of_decide_eq_true hc1) hs0.len_le
      rw [hw1]
      have hc1 := of_decide_eq_true hc1
      refine DN.round fun a ha => ?_
      exact ⟨k, _, Nat.lt_succ_self _, ⟨v8 + 1, rfl, hE7, hs0, by omega, by omega, h⟩, (ha.more (ha.more (ha.more (ha.more ha.nil rfl) rfl) rfl) rfl)⟩

/- slices.ContainsFunc[[]int64,int64] -/
def slices_ContainsFunc_I_int64 (p0 : (List Int)) (p1 : Int → Option Bool) : Option (Bool) :=
  Option.bind (slices_IndexFunc_I_int64 p0 p1) fun x7 =>
  some (decide (0 ≤ x7) : Bool)

theorem slices_ContainsFunc_I_int64_ok {p0 : (List Int)} {a0 : Option Addr} {c0 : Nat} {p1 : Int → Option Bool} {f1 : FuncId} {cap1 : List Value} {w : World} (hs0 : Sl (Rp.int .i64) (Fz [] w) w a0 c0 p0) (hf1 : FI Try.prog w f1 cap1 (Value.int .i64) Value.bool p1) {r : Bool} (h : slices_ContainsFunc_I_int64 p0 p1 = some r) : Ret Try.prog 64 [.slice a0 p0.length c0, .func (.func f1) #[] cap1.toArray] w (fun v w' => v = .bool r ∧ Ext w w') := by
  unfold slices_ContainsFunc_I_int64 at h
  refine Ret.enter Try.func64 rfl Try.ntmps64 rfl ?_
  dsimp only [envOf]
  refine WC.seq ?_
  refine WC.regS [(0, 2)] rfl ?_
  refine WO.sp rfl rfl rfl rfl (rn_assign rfl rfl) ?_
  refine WO.fin ?_
  refine DN.seq ?_
  refine WC.seq ?_
  refine WC.regS [(0, 2), (1, 2), (2, 1), (3, 2), (4, 2)] rfl ?_
  refine WO.sp rfl rfl rfl rfl (rn_move rfl rfl) ?_
  refine WO.sp rfl rfl rfl rfl (rn_move rfl rfl) ?_
  obtain ⟨x7, hx7, h⟩ := Option.bind_eq_some_iff.mp h
  refine WO.call rfl rfl rfl rfl rfl rfl Try.call69 (slices_IndexFunc_I_int64_ok (hs0.toE (Ext.refl _)) (hf1.ext (Ext.refl w)) hx7) ?_
  rintro _ w1 ⟨rfl, he2⟩
  refine ⟨trivial, ?_⟩
  have hst3 := St.ext (M := []) (Sub.refl _ _) he2
  have hs0 := hs0.stp hst3
  have hE4 := he2
  refine WO.sp rfl rfl rfl rfl (rn_geq rfl rfl rfl) ?_
  refine WO.sp rfl rfl rfl rfl (rn_assign rfl rfl) ?_
  refine WO.fin ?_
  refine DN.seq ?_
  refine WC.ret ?_
  refine DN.ret1 Try.results64 rfl ?_
  obtain rfl := Option.some.inj h
  exact ⟨rfl, hE4⟩

/- loop.example/g00869/impl.areLetters$1 -/
def i_areLetters_1 (p0 : Int) (c0 : Int) : Option (Bool) :=
  Option.bind (bif decide (p0 < 0) then
  some true
  else
  some (decide (c0 ≤ p0))) fun p10 =>
  some (p10 : Bool)

theorem i_areLetters_1_ok {p0 : Int} {c0 : Int} {b1 : Nat} {w : World} (hb1 : Bf [] w b1 2 [.int .i64 c0]) {r : Bool} (h : i_areLetters_1 p0 c0 = some r) : Ret Try.prog 65 [.int .i64 p0, .pointer (some ⟨b1, 0, none⟩)] w (fun v w' => v = .bool r ∧ Ext w w') := by
  unfold i_areLetters_1 at h
  refine Ret.enter Try.func65 rfl Try.ntmps65 rfl ?_
  dsimp only [envOf]
  refine WC.seq ?_
  refine WC.regS [(0, 2)] rfl ?_
  refine WO.sp rfl rfl rfl rfl (rn_assign rfl rfl) ?_
  refine WO.fin ?_
  refine DN.seq ?_
  refine WC.seq ?_
  refine WC.regS [(0, 2), (1, 2), (2, 2), (3, 2), (4, 1), (5, 2), (6, 2), (7, 2)] rfl ?_
  refine WO.sp rfl rfl rfl rfl (rn_move rfl rfl) ?_
  refine WO.sp rfl rfl rfl rfl (rn_lss rfl rfl rfl) ?_
  refine WO.sp rfl rfl rfl rfl (rn_move rfl rfl) ?_
  revert h
  cases ht1 : decide (p0 < 0) with
  | true =>
    intro h
    simp only [cond_true, cond_false, Option.bind_some, Option.bind_assoc, lpK_ret, lpK_brk, lpK_nxt, aft_inl, aft_inr] at h
    refine WO.ps rfl rfl rfl rfl ?_
    refine WO.ls rfl rfl rfl rfl ?_
    refine WO.ps rfl rfl rfl rfl ?_
    refine WO.sp rfl rfl rfl rfl (rn_pickT rfl rfl rfl) ?_
    refine WO.sp rfl rfl rfl rfl (rn_assign rfl rfl) ?_
    refine WO.fin ?_
    refine DN.seq ?_
    refine WC.ret ?_
    refine DN.ret1 Try.results65 rfl ?_
    obtain rfl := Option.some.inj h
    exact ⟨rfl, (Ext.refl w)⟩
  | false =>
    intro h
    simp only [cond_true, cond_false, Option.bind_some, Option.bind_assoc, lpK_ret, lpK_brk, lpK_nxt, aft_inl, aft_inr] at h
    refine WO.sp rfl rfl rfl rfl (rn_move rfl rfl) ?_
    refine WO.sq trivial rfl rfl rfl rfl (rn_loadB0 hb1 Try.isAgg2 rfl rfl rfl) ?_
    refine WO.sp rfl rfl rfl rfl (rn_geq rfl rfl rfl) ?_
    refine WO.sp rfl rfl rfl rfl (rn_pickF rfl rfl rfl) ?_
    refine WO.sp rfl rfl rfl rfl (rn_assign rfl rfl) ?_
    refine WO.fin ?_
    refine DN.seq ?_
    refine WC.ret ?_
    refine DN.ret1 Try.results65 rfl ?_
    obtain rfl := Option.some.inj h
    exact ⟨rfl, (Ext.refl w)⟩

/- loop.example/g00869/impl.areLetters -/
def i_areLetters (p0 : (List Int)) (p1 : Int) : Option (Bool) :=
  Option.bind (slices_ContainsFunc_I_int64 p0 (fun y => i_areLetters_1 y p1)) fun x7 =>
  some ((!x7) : Bool)

theorem i_areLetters_ok {p0 : (List Int)} {a0 : Option Addr} {c0 : Nat} {p1 : Int} {w : World} (hs0 : Sl (Rp.int .i64) (Fz [] w) w a0 c0 p0) {r : Bool} (h : i_areLetters p0 p1 = some r) : Ret Try.prog 55 [.slice a0 p0.length c0, .int .i64 p1] w (fun v w' => v = .bool r ∧ Ext w w') := by
  unfold i_areLetters at h
  refine Ret.enter Try.func55 rfl Try.ntmps55 rfl ?_
  dsimp only [envOf]
  refine WC.seq ?_
  refine WC.regS [(0, 1), (1, 2)] rfl ?_
  have hle3 : ∀ m, m ∈ [] → m ≤ w.heap.size := (le_nil _)
  refine WO.box rfl rfl rfl rfl rfl rfl rfl ?_
  intro b3 w1 he2 hbe3 hb3
  refine ⟨trivial, ?_⟩
  have hst3 := St.ext (M := []) (Sub.refl _ _) he2
  have hs0 := hs0.stp hst3
  have hE4 := he2
  have hb3 : Bf [] w1 b3 2 [.int .i64 p1] := ⟨hb3, hb3.lt, fun hm => by have := hle3 _ hm; omega⟩
  refine WO.sp rfl rfl rfl rfl (rn_assign rfl rfl) ?_
  refine WO.fin ?_
  refine DN.seq ?_
  refine WC.seq ?_
  refine WC.regS [(0, 2), (1, 2), (2, 1), (3, 2), (4, 2)] rfl ?_
  refine WO.sp rfl rfl rfl rfl (rn_move rfl rfl) ?_
  refine WO.sp rfl rfl rfl rfl (rn_makeFunc (first := []) (captured := [.tmp 3]) rfl rfl rfl ⟨_, rfl⟩) ?_
  obtain ⟨x7, hx7, h⟩ := Option.bind_eq_some_iff.mp h
  refine WO.call rfl rfl rfl rfl rfl rfl Try.call64 (slices_ContainsFunc_I_int64_ok (hs0.toE (Ext.refl _)) ⟨Try.call65, fun w' hw' _ _ hr => i_areLetters_1_ok (Bf.of ((hb3.1.ext (Ext.refl _)).ext hw')) hr⟩ hx7) ?_
  rintro _ w5 ⟨rfl, he6⟩
  refine ⟨trivial, ?_⟩
  have hst7 := St.ext (M := []) (Sub.refl _ _) he6
  have hs0 := hs0.stp hst7
  have hb3 := hb3.stp hst7
  have hE8 := hE4.trans he6
  refine WO.sp rfl rfl rfl rfl (rn_not rfl rfl) ?_
  refine WO.sp rfl rfl rfl rfl (rn_assign rfl rfl) ?_
  refine WO.fin ?_
  refine DN.seq ?_
  refine WC.ret ?_
  refine DN.ret1 Try.results55 rfl ?_
  obtain rfl := Option.some.inj h
  exact ⟨rfl, hE8⟩

/- loop.example/g00869/impl.isRival -/
def i_isRival_b0 (p0 : Sig) (p1 : Rival) (v37 : Int) (s1 : Unit) : Option (Bool ⊕ ((Unit) ⊕ (Unit))) :=
  Option.bind (idx p1.Next v37) fun x39 =>
  Option.bind (nn p0.Out) fun _z45 =>
  Option.bind (bif ((x39.length : Int) != (IntKind.i64.wrap (1 * 2 ^ (min (Int.toNat p0.Out) (IntKind.bits IntKind.i64))))) then
  some true
  else
  Option.bind (i_areLetters x39 (p1.In.length : Int)) fun x50 =>
  some (!x50)) fun p52 =>
  bif p52 then
    some (.inl (false : Bool))
  else
    some (.inr (.inr ()))
def i_isRival (p0 : Sig) (p1 : Rival) : Option (Bool) :=
  Option.bind (bif decide ((p1.In.length : Int) < 1) then
  some true
  else
  some (decide (256 < (p1.In.length : Int)))) fun p16 =>
  Option.bind (bif p16 then
  some true
  else
  some ((p1.Next.length : Int) != (p1.In.length : Int))) fun p25 =>
  Option.bind (bif p25 then
  some true
  else
  Option.bind (i_inputsOf p0) fun x30 =>
  Option.bind (i_areLetters p1.In x30) fun x31 =>
  some (!x31)) fun p33 =>
  bif p33 then
    some (false : Bool)
  else
    Option.bind (cntM (i_isRival_b0 p0 p1) p1.Next.length 0 ()) fun q2 =>
    aft (fun r => some r) (fun s3 =>
      some (true : Bool)) q2

theorem i_isRival_ok {p0 : Sig} {p1 : Rival} {a1_0 : Option Addr} {c1_0 : Nat} {a1_1 : Option Addr} {c1_1 : Nat} {w : World} (hs1_0 : Sl (Rp.int .i64) (Fz [] w) w a1_0 c1_0 p1.In) (hs1_1 : Sl (Rp.sl (Rp.int .i64)) (Fz [] w) w a1_1 c1_1 p1.Next) {r : Bool} (h : i_isRival p0 p1 = some r) : Ret Try.prog 42 [.agg #[.int .i64 p0.In, .int .i64 p0.Out], .agg #[.slice a1_0 p1.In.length c1_0, .slice a1_1 p1.Next.length c1_1]] w (fun v w' => v = .bool r ∧ Ext w w') := by
  unfold i_isRival at h
  refine Ret.enter Try.func42 rfl Try.ntmps42 rfl ?_
  dsimp only [envOf]
  refine WC.seq ?_
  refine WC.regS [(0, 1), (1, 1), (2, 2)] rfl ?_
  have hle2 : ∀ m, m ∈ [] → m ≤ w.heap.size := (le_nil _)
  refine WO.box rfl rfl rfl rfl rfl rfl rfl ?_
  intro b2 w1 he2 hbe2 hb2
  refine ⟨trivial, ?_⟩
  have hst3 := St.ext (M := []) (Sub.refl _ _) he2
  have hs1_0 := hs1_0.stp hst3
  have hs1_1 := hs1_1.stp hst3
  have hE4 := he2
  have hb2 : Bf [] w1 b2 30 [.int .i64 p0.In, .int .i64 p0.Out] := ⟨hb2, hb2.lt, fun hm => by have := hle2 _ hm; omega⟩
  have hle3 : ∀ m, m ∈ [] → m ≤ w1.heap.size := (le_nil _)
  refine WO.box rfl rfl rfl rfl rfl rfl rfl ?_
  intro b3 w5 he6 hbe3 hb3
  refine ⟨trivial, ?_⟩
  have hst7 := St.ext (M := []) (Sub.refl _ _) he6
  have hs1_0 := hs1_0.stp hst7
  have hs1_1 := hs1_1.stp hst7
  have hb2 := hb2.stp hst7
  have hE8 := hE4.trans he6
  have hb3 : Bf [] w5 b3 32 [.slice a1_0 p1.In.length c1_0, .slice a1_1 p1.Next.length c1_1] := ⟨hb3, hb3.lt, fun hm => by have := hle3 _ hm; omega⟩
  refine WO.sp rfl rfl rfl rfl (rn_assign rfl rfl) ?_
  refine WO.fin ?_
  refine DN.seq ?_
  refine WC.seq ?_
  refine WC.regS [(0, 2), (1, 1), (2, 2), (3, 2)] rfl ?_
  refine WO.sp rfl rfl rfl rfl (rn_fieldAddr Try.runUnderlying32 rfl Try.sizeOf24 rfl rfl) ?_
  refine WO.sq trivial rfl rfl rfl rfl (rn_loadB hb3 Try.isAgg24 rfl rfl rfl) ?_
  refine WO.sp rfl rfl rfl rfl (rn_len Try.runUnderlying24 rfl rfl) ?_
  refine WO.sp rfl rfl rfl rfl (rn_assign rfl rfl) ?_
  refine WO.fin ?_
  refine DN.seq ?_
  refine WC.seq ?_
  refine WC.seq ?_
  refine WC.regX none [(0, 2), (1, 2), (2, 2), (3, 2), (4, 2), (5, 2), (6, 2), (7, 2), (10, 2), (8, 0), (9, 2), (11, 0), (12, 2), (13, 2), (14, 2), (15, 2), (16, 2), (17, 0), (18, 0), (19, 1), (20, 1), (21, 2), (22, 2)] [] (by kernel_rfl) (by kernel_rfl) fun w9 he10 hh11 => ?_
  have hst12 := St.ext (M := []) (Sub.refl _ _) he10
  have hs1_0 := hs1_0.stp hst12
  have hs1_1 := hs1_1.stp hst12
  have hb2 := hb2.stp hst12
  have hb3 := hb3.stp hst12
  have hE13 := hE8.trans he10
  refine WO.sp rfl rfl rfl rfl (rn_move rfl rfl) ?_
  refine WO.sp rfl rfl rfl rfl (rn_lss rfl rfl rfl) ?_
  refine WO.sp rfl rfl rfl rfl (rn_move rfl rfl) ?_
  revert h
  cases ht14 : decide ((p1.In.length : Int) < 1) with
  | true =>
    intro h
    simp only [cond_true, cond_false, Option.bind_some, Option.bind_assoc, lpK_ret, lpK_brk, lpK_nxt, aft_inl, aft_inr] at h
    refine WO.ps rfl rfl rfl rfl ?_
    refine WO.ps rfl rfl rfl rfl ?_
    refine WO.sp rfl rfl rfl rfl (rn_pickT rfl rfl rfl) ?_
    refine WO.sp rfl rfl rfl rfl (rn_move rfl rfl) ?_
    refine WO.ps rfl rfl rfl rfl ?_
    refine WO.ps rfl rfl rfl rfl ?_
    refine WO.qs rfl rfl rfl rfl ?_
    refine WO.ps rfl rfl rfl rfl ?_
    refine WO.qs rfl rfl rfl rfl ?_
    refine WO.ps rfl rfl rfl rfl ?_
    refine WO.ps rfl rfl rfl rfl ?_
    refine WO.sp rfl rfl rfl rfl (rn_pickT rfl rfl rfl) ?_
    refine WO.sp rfl rfl rfl rfl (rn_move rfl rfl) ?_
    refine WO.ps rfl rfl rfl rfl ?_
    refine WO.qs rfl rfl rfl rfl ?_
    refine WO.qs rfl rfl rfl rfl ?_
    refine WO.ls rfl rfl rfl rfl ?_
    refine WO.ls rfl rfl rfl rfl ?_
    refine WO.ps rfl rfl rfl rfl ?_
    refine WO.sp rfl rfl rfl rfl (rn_pickT rfl rfl rfl) ?_
    refine WO.nx ?_
    refine WO.fin ?_
    refine DN.seq ?_
    refine WC.ct rfl ?_
    refine WC.seq ?_
    refine WC.regS [(0, 2)] rfl ?_
    refine WO.sp rfl rfl rfl rfl (rn_assign rfl rfl) ?_
    refine WO.fin ?_
    refine DN.seq ?_
    refine WC.ret ?_
    refine DN.retThen ?_
    refine DN.ret1 Try.results42 rfl ?_
    obtain rfl := Option.some.inj h
    exact ⟨rfl, hE13⟩
  | false =>
    intro h
    simp only [cond_true, cond_false, Option.bind_some, Option.bind_assoc, lpK_ret, lpK_brk, lpK_nxt, aft_inl, aft_inr] at h
    refine WO.sp rfl rfl rfl rfl (rn_move rfl rfl) ?_
    refine WO.sp rfl rfl rfl rfl (rn_gtr rfl rfl rfl) ?_
    refine WO.sp rfl rfl rfl rfl (rn_pickF rfl rfl rfl) ?_
    refine WO.sp rfl rfl rfl rfl (rn_move rfl rfl) ?_
    revert h
    cases ht15 : decide (256 < (p1.In.length : Int)) with
    | true =>
      intro h
      simp only [cond_true, cond_false, Option.bind_some, Option.bind_assoc, lpK_ret, lpK_brk, lpK_nxt, aft_inl, aft_inr] at h
      refine WO.ps rfl rfl rfl rfl ?_
      refine WO.ps rfl rfl rfl rfl ?_
      refine WO.qs rfl rfl rfl rfl ?_
      refine WO.ps rfl rfl rfl rfl ?_
      refine WO.qs rfl rfl rfl rfl ?_
      refine WO.ps rfl rfl rfl rfl ?_
      refine WO.ps rfl rfl rfl rfl ?_
      refine WO.sp rfl rfl rfl rfl (rn_pickT rfl rfl rfl) ?_
      refine WO.sp rfl rfl rfl rfl (rn_move rfl rfl) ?_
      refine WO.ps rfl rfl rfl rfl ?_
      refine WO.qs rfl rfl rfl rfl ?_
      refine WO.qs rfl rfl rfl rfl ?_
      refine WO.ls rfl rfl rfl rfl ?_
      refine WO.ls rfl rfl rfl rfl ?_
      refine WO.ps rfl rfl rfl rfl ?_
      refine WO.sp rfl rfl rfl rfl (rn_pickT rfl rfl rfl) ?_
      refine WO.nx ?_
      refine WO.fin ?_
      refine DN.seq ?_
      refine WC.ct rfl ?_
      refine WC.seq ?_
      refine WC.regS [(0, 2)] rfl ?_
      refine WO.sp rfl rfl rfl rfl (rn_assign rfl rfl) ?_
      refine WO.fin ?_
      refine DN.seq ?_
      refine WC.ret ?_
      refine DN.retThen ?_
      refine DN.ret1 Try.results42 rfl ?_
      obtain rfl := Option.some.inj h
      exact ⟨rfl, hE13⟩
    | false =>
      intro h
      simp only [cond_true, cond_false, Option.bind_some, Option.bind_assoc, lpK_ret, lpK_brk, lpK_nxt, aft_inl, aft_inr] at h
      refine WO.sp rfl rfl rfl rfl (rn_fieldAddr Try.runUnderlying32 rfl Try.sizeOf25 rfl rfl) ?_
      refine WO.sp rfl rfl rfl rfl (rn_fieldAddr Try.runUnderlying32 rfl Try.sizeOf24 rfl rfl) ?_
      refine WO.dq rfl rfl rfl rfl (rn_loadB hb3 Try.isAgg25 rfl rfl rfl) ?_
      refine WO.sp rfl rfl rfl rfl (rn_len Try.runUnderlying25 rfl rfl) ?_
      refine WO.dq rfl rfl rfl rfl (rn_loadB hb3 Try.isAgg24 rfl rfl rfl) ?_
      refine WO.sp rfl rfl rfl rfl (rn_len Try.runUnderlying24 rfl rfl) ?_
      refine WO.sp rfl rfl rfl rfl (rn_neq rfl rfl rfl) ?_
      refine WO.sp rfl rfl rfl rfl (rn_pickF rfl rfl rfl) ?_
      refine WO.sp rfl rfl rfl rfl (rn_move rfl rfl) ?_
      revert h
      cases ht16 : ((p1.Next.length : Int) != (p1.In.length : Int)) with
      | true =>
        intro h
        simp only [cond_true, cond_false, Option.bind_some, Option.bind_assoc, lpK_ret, lpK_brk, lpK_nxt, aft_inl, aft_inr] at h
        refine WO.ps rfl rfl rfl rfl ?_
        refine WO.qs rfl rfl rfl rfl ?_
        refine WO.qs rfl rfl rfl rfl ?_
        refine WO.ls rfl rfl rfl rfl ?_
        refine WO.ls rfl rfl rfl rfl ?_
        refine WO.ps rfl rfl rfl rfl ?_
        refine WO.sp rfl rfl rfl rfl (rn_pickT rfl rfl rfl) ?_
        refine WO.nx ?_
        refine WO.fin ?_
        refine DN.seq ?_
        refine WC.ct rfl ?_
        refine WC.seq ?_
        refine WC.regS [(0, 2)] rfl ?_
        refine WO.sp rfl rfl rfl rfl (rn_assign rfl rfl) ?_
        refine WO.fin ?_
        refine DN.seq ?_
        refine WC.ret ?_
        refine DN.retThen ?_
        refine DN.ret1 Try.results42 rfl ?_
        obtain rfl := Option.some.inj h
        exact ⟨rfl, hE13⟩
      | false =>
        intro h
        simp only [cond_true, cond_false, Option.bind_some, Option.bind_assoc, lpK_ret, lpK_brk, lpK_nxt, aft_inl, aft_inr] at h
        refine WO.sp rfl rfl rfl rfl (rn_fieldAddr Try.runUnderlying32 rfl Try.sizeOf24 rfl rfl) ?_
        refine WO.dq rfl rfl rfl rfl (rn_loadB hb3 Try.isAgg24 rfl rfl rfl) ?_
        refine WO.dq rfl rfl rfl rfl (rn_loadBA hb2 Try.isAgg30 Try.sizeOf30 rfl rfl rfl) ?_
        obtain ⟨x30, hx30, h⟩ := Option.bind_eq_some_iff.mp h
        refine WO.call rfl rfl rfl rfl rfl rfl Try.call61 (i_inputsOf_ok  hx30) ?_
        rintro _ w17 ⟨rfl, he18⟩
        have hx19 := he18
        refine ⟨hx19.cw, ?_⟩
        have hst20 := St.ext (M := []) (Sub.refl _ _) he18
        have hz21 := hst20
        have hs1_0 := hs1_0.stp hst20
        have hs1_1 := hs1_1.stp hst20
        have hb2 := hb2.stp hst20
        have hb3 := hb3.stp hst20
        have hE22 := hE13.trans he18
        obtain ⟨x31, hx31, h⟩ := Option.bind_eq_some_iff.mp h
        refine WO.call rfl rfl rfl rfl rfl rfl Try.call55 (i_areLetters_ok (hs1_0.toE (Ext.refl _)) hx31) ?_
        rintro _ w23 ⟨rfl, he24⟩
        have hx25 := hx19.trans he24
        refine ⟨hx25.cw, ?_⟩
        have hst26 := St.ext (M := []) (Sub.refl _ _) he24
        have hz27 := hz21.trans hst26
        have hs1_0 := hs1_0.stp hst26
        have hs1_1 := hs1_1.stp hst26
        have hb2 := hb2.stp hst26
        have hb3 := hb3.stp hst26
        have hE28 := hE22.trans he24
        refine WO.sp rfl rfl rfl rfl (rn_not rfl rfl) ?_
        refine WO.sp rfl rfl rfl rfl (rn_pickF rfl rfl rfl) ?_
        refine WO.nx ?_
        refine WO.fin ?_
        refine DN.seq ?_
        revert h
        cases ht29 : (!x31) with
        | true =>
          intro h
          simp only [cond_true, cond_false, Option.bind_some, Option.bind_assoc, lpK_ret, lpK_brk, lpK_nxt, aft_inl, aft_inr] at h
          refine WC.ct rfl ?_
          refine WC.seq ?_
          refine WC.regS [(0, 2)] rfl ?_
          refine WO.sp rfl rfl rfl rfl (rn_assign rfl rfl) ?_
          refine WO.fin ?_
          refine DN.seq ?_
          refine WC.ret ?_
          refine DN.retThen ?_
          refine DN.ret1 Try.results42 rfl ?_
          obtain rfl := Option.some.inj h
          exact ⟨rfl, hE28⟩
        | false =>
          intro h
          simp only [cond_true, cond_false, Option.bind_some, Option.bind_assoc, lpK_ret, lpK_brk, lpK_nxt, aft_inl, aft_inr] at h
          refine WC.cf rfl ?_
          refine WC.skip ?_
          refine DN.seq ?_
          refine WC.seq ?_
          refine WC.seq ?_
          refine WC.regS [(0, 2), (1, 1), (2, 2), (3, 2)] rfl ?_
          refine WO.sp rfl rfl rfl rfl (rn_fieldAddr Try.runUnderlying32 rfl Try.sizeOf25 rfl rfl) ?_
          refine WO.sq trivial rfl rfl rfl rfl (rn_loadB hb3 Try.isAgg25 rfl rfl rfl) ?_
          refine WO.sp rfl rfl rfl rfl (rn_len Try.runUnderlying25 rfl rfl) ?_
          refine WO.sp rfl rfl rfl rfl (rn_move rfl rfl) ?_
          refine WO.fin ?_
          refine DN.seq ?_
          refine WC.block ?_
          obtain ⟨q30, hq30, hk30⟩ := Option.bind_eq_some_iff.mp h
          clear h
          refine WC.loop (fun k L w' => ∃ (v37 : Int), L = [(2, .pointer (some ⟨b2, 0, none⟩)), (5, .int .i64 (p1.In.length : Int)), (35, .slice a1_1 p1.Next.length c1_1), (36, .int .i64 (p1.Next.length : Int)), (37, .int .i64 v37)] ∧ Ext w w' ∧ Sl (Rp.int .i64) (Fz [] w') w' a1_0 c1_0 p1.In ∧ Sl (Rp.sl (Rp.int .i64)) (Fz [] w') w' a1_1 c1_1 p1.Next ∧ Bf [] w' b2 30 [.int .i64 p0.In, .int .i64 p0.Out] ∧ Bf [] w' b3 32 [.slice a1_0 p1.In.length c1_0, .slice a1_1 p1.Next.length c1_1] ∧ 0 ≤ v37 ∧ Int.toNat ((p1.Next.length : Int) - v37) = k ∧ cntM (i_isRival_b0 p0 p1) k v37 () = some q30) ⟨_, _, ⟨0, rfl, hE28, hs1_0, hs1_1, hb2, hb3, (by decide), (by simp), hq30⟩, fun a ha => (ha.more (ha.more (ha.more (ha.more (ha.more ha.nil rfl) rfl) rfl) rfl) rfl)⟩ ?_
          rintro k _ w31 ⟨v37, rfl, hE32, hs1_0, hs1_1, hb2, hb3, hj30, hJ30, h⟩
          rcases k with _ | k
          ·
            simp only [cntM] at h
            have hc30 : decide (v37 < (p1.Next.length : Int)) = false := decide_eq_false (by omega)
            refine WC.seq ?_
            refine WC.regS [(0, 2)] rfl ?_
            refine WO.sp rfl rfl rfl rfl (rn_lss rfl rfl rfl) ?_
            refine WO.fin ?_
            refine DN.seq ?_
            refine WC.seq ?_
            refine WC.cf' rfl hc30 ?_
            refine WC.exit ?_
            refine DN.exitThen ?_
            refine DN.exitThen ?_
            obtain rfl := Option.some.inj h
            have h := hk30
            simp only [cond_true, cond_false, Option.bind_some, Option.bind_assoc, lpK_ret, lpK_brk, lpK_nxt, aft_inl, aft_inr] at h
            refine DN.hit ?_
            refine DN.seq ?_
            refine WC.seq ?_
            refine WC.regS [(0, 2)] rfl ?_
            refine WO.sp rfl rfl rfl rfl (rn_assign rfl rfl) ?_
            refine WO.fin ?_
            refine DN.seq ?_
            refine WC.ret ?_
            refine DN.ret1 Try.results42 rfl ?_
            obtain rfl := Option.some.inj h
            exact ⟨rfl, hE32⟩
          ·
            simp only [cntM, i_isRival_b0, cond_true, cond_false, Option.bind_some, Option.bind_assoc, lpK_ret, lpK_brk, lpK_nxt, aft_inl, aft_inr] at h
            have hc30 : decide (v37 < (p1.Next.length : Int)) = true := decide_eq_true (by omega)
            refine WC.seq ?_
            refine WC.regS [(0, 2)] rfl ?_
            refine WO.sp rfl rfl rfl rfl (rn_lss rfl rfl rfl) ?_
            refine WO.fin ?_
            refine DN.seq ?_
            refine WC.seq ?_
            refine WC.ct' rfl hc30 ?_
            refine WC.skip ?_
            refine DN.seq ?_
            refine WC.seq ?_
            refine WC.block ?_
            refine WC.seq ?_
            refine WC.regS [(0, 2), (1, 1), (2, 2)] rfl ?_
            obtain ⟨x39, hx39, h⟩ := Option.bind_eq_some_iff.mp h
            refine WO.sp rfl rfl rfl rfl (rn_index hs1_1 hx39 Try.runUnderlying25 Try.sizeOf24 rfl rfl rfl rfl) ?_
            obtain ⟨ax39, cx39, hsx39, hlx39⟩ := hs1_1.getSl hx39
            refine WO.sq trivial rfl rfl rfl rfl (rn_load Try.isAgg24 rfl rfl hlx39) ?_
            refine WO.sp rfl rfl rfl rfl (rn_assign rfl rfl) ?_
            refine WO.fin ?_
            refine DN.seq ?_
            refine WC.seq ?_
            refine WC.regS [(0, 2), (1, 2), (2, 2), (3, 1), (4, 2), (5, 2), (6, 2), (7, 2), (8, 2), (9, 1), (10, 2), (11, 2)] rfl ?_
            refine WO.sp rfl rfl rfl rfl (rn_move rfl rfl) ?_
            refine WO.sp rfl rfl rfl rfl (rn_len Try.runUnderlying24 rfl rfl) ?_
            refine WO.sp rfl rfl rfl rfl (rn_fieldAddr Try.runUnderlying30 rfl Try.sizeOf2 rfl rfl) ?_
            refine WO.sq trivial rfl rfl rfl rfl (rn_loadB hb2 Try.isAgg2 rfl rfl rfl) ?_
            obtain ⟨_z45, hz45, h⟩ := Option.bind_eq_some_iff.mp h
            refine WO.sp rfl rfl rfl rfl (rn_shl rfl rfl rfl (nn_ok hz45)) ?_
            refine WO.sp rfl rfl rfl rfl (rn_neq rfl rfl rfl) ?_
            refine WO.sp rfl rfl rfl rfl (rn_move rfl rfl) ?_
            revert h
            cases ht33 : ((x39.length : Int) != (IntKind.i64.wrap (1 * 2 ^ (min (Int.toNat p0.Out) (IntKind.bits IntKind.i64))))) with
            | true =>
              intro h
              simp only [cond_true, cond_false, Option.bind_some, Option.bind_assoc, lpK_ret, lpK_brk, lpK_nxt, aft_inl, aft_inr] at h
              refine WO.ps rfl rfl rfl rfl ?_
              refine WO.ps rfl rfl rfl rfl ?_
              refine WO.ls rfl rfl rfl rfl ?_
              refine WO.ps rfl rfl rfl rfl ?_
              refine WO.sp rfl rfl rfl rfl (rn_pickT rfl rfl rfl) ?_
              refine WO.fin ?_
              refine DN.seq ?_
              refine WC.ct rfl ?_
              refine WC.seq ?_
              refine WC.regS [(0, 2)] rfl ?_
              refine WO.sp rfl rfl rfl rfl (rn_assign rfl rfl) ?_
              refine WO.fin ?_
              refine DN.seq ?_
              refine WC.ret ?_
              refine DN.retBlock ?_
              refine DN.retThen ?_
              refine DN.retThen ?_
              obtain rfl := Option.some.inj h
              have h := hk30
              simp only [cond_true, cond_false, Option.bind_some, Option.bind_assoc, lpK_ret, lpK_brk, lpK_nxt, aft_inl, aft_inr] at h
              refine DN.retBlock ?_
              refine DN.retThen ?_
              refine DN.ret1 Try.results42 rfl ?_
              obtain rfl := Option.some.inj h
              exact ⟨rfl, hE32⟩
            | false =>
              intro h
              simp only [cond_true, cond_false, Option.bind_some, Option.bind_assoc, lpK_ret, lpK_brk, lpK_nxt, aft_inl, aft_inr] at h
              refine WO.sp rfl rfl rfl rfl (rn_move rfl rfl) ?_
              refine WO.sp rfl rfl rfl rfl (rn_move rfl rfl) ?_
              obtain ⟨x50, hx50, h⟩ := Option.bind_eq_some_iff.mp h
              refine WO.call rfl rfl rfl rfl rfl rfl Try.call55 (i_areLetters_ok (hsx39.toE (Ext.refl _)) hx50) ?_
              rintro _ w34 ⟨rfl, he35⟩
              refine ⟨trivial, ?_⟩
              have hst36 := St.ext (M := []) (Sub.refl _ _) he35
              have hs1_0 := hs1_0.stp hst36
              have hs1_1 := hs1_1.stp hst36
              have hb2 := hb2.stp hst36
              have hb3 := hb3.stp hst36
              have hsx39 := hsx39.stp hst36
              have hE37 := hE32.trans he35
              refine WO.sp rfl rfl rfl rfl (rn_not rfl rfl) ?_
              refine WO.sp rfl rfl rfl rfl (rn_pickF rfl rfl rfl) ?_
              refine WO.fin ?_
              refine DN.seq ?_
              revert h
              cases ht38 : (!x50) with
              | true =>
                intro h
                simp only [cond_true, cond_false, Option.bind_some, Option.bind_assoc, lpK_ret, lpK_brk, lpK_nxt, aft_inl, aft_inr] at h
                refine WC.ct rfl ?_
                refine WC.seq ?_
                refine WC.regS [(0, 2)] rfl ?_
                refine WO.sp rfl rfl rfl rfl (rn_assign rfl rfl) ?_
                refine WO.fin ?_
                refine DN.seq ?_
                refine WC.ret ?_
                refine DN.retBlock ?_
                refine DN.retThen ?_
                refine DN.retThen ?_
                obtain rfl := Option.some.inj h
                have h := hk30
                simp only [cond_true, cond_false, Option.bind_some, Option.bind_assoc, lpK_ret, lpK_brk, lpK_nxt, aft_inl, aft_inr] at h
                refine DN.retBlock ?_
                refine DN.retThen ?_
                refine DN.ret1 Try.results42 rfl ?_
                obtain rfl := Option.some.inj h
                exact ⟨rfl, hE37⟩
              | false =>
                intro h
                simp only [cond_true, cond_false, Option.bind_some, Option.bind_assoc, lpK_ret, lpK_brk, lpK_nxt, aft_inl, aft_inr] at h
                refine WC.cf rfl ?_
                refine WC.skip ?_
                refine DN.block ?_
                refine DN.seq ?_
                refine WC.regS [(0, 2), (1, 2)] rfl ?_
                refine WO.sp rfl rfl rfl rfl (rn_add rfl rfl rfl) ?_
                refine WO.sp rfl rfl rfl rfl (rn_move rfl rfl) ?_
                refine WO.fin ?_
                have hw30 : IntKind.wrap .i64 (v37 + 1) = v37 + 1 := wr1 hj30 (of_decide_eq_true hc30) hs1_1.len_le
                rw [hw30]
                have hc30 := of_decide_eq_true hc30
                refine DN.round fun a ha => ?_
                exact ⟨k, _, Nat.lt_succ_self _, ⟨v37 + 1, rfl, hE37, hs1_0, hs1_1, hb2, hb3, by omega, by omega, h⟩, (ha.more (ha.more (ha.more (ha.more (ha.more ha.nil rfl) rfl) rfl) rfl) rfl)⟩

/- loop.example/g00869/impl.RivalOk -/
def i_RivalOk (p0 : Sig) (p1 : Rival) : Option (Bool) :=
  Option.bind (i_isSig p0) fun x6 =>
  Option.bind (bif x6 then
  Option.bind (i_isRival p0 p1) fun x10 =>
  some x10
  else
  some false) fun p11 =>
  some (p11 : Bool)

theorem i_RivalOk_ok {p0 : Sig} {p1 : Rival} {a1_0 : Option Addr} {c1_0 : Nat} {a1_1 : Option Addr} {c1_1 : Nat} {w : World} (hs1_0 : Sl (Rp.int .i64) (Fz [] w) w a1_0 c1_0 p1.In) (hs1_1 : Sl (Rp.sl (Rp.int .i64)) (Fz [] w) w a1_1 c1_1 p1.Next) {r : Bool} (h : i_RivalOk p0 p1 = some r) : Ret Try.prog 13 [.agg #[.int .i64 p0.In, .int .i64 p0.Out], .agg #[.slice a1_0 p1.In.length c1_0, .slice a1_1 p1.Next.length c1_1]] w (fun v w' => v = .bool r ∧ Ext w w') := by
  unfold i_RivalOk at h
  refine Ret.enter Try.func13 rfl Try.ntmps13 rfl ?_
  dsimp only [envOf]
  refine WC.seq ?_
  refine WC.regS [(0, 1), (1, 1), (2, 2)] rfl ?_
  have hle2 : ∀ m, m ∈ [] → m ≤ w.heap.size := (le_nil _)
  refine WO.box rfl rfl rfl rfl rfl rfl rfl ?_
  intro b2 w1 he2 hbe2 hb2
  refine ⟨trivial, ?_⟩
  have hst3 := St.ext (M := []) (Sub.refl _ _) he2
  have hs1_0 := hs1_0.stp hst3
  have hs1_1 := hs1_1.stp hst3
  have hE4 := he2
  have hb2 : Bf [] w1 b2 30 [.int .i64 p0.In, .int .i64 p0.Out] := ⟨hb2, hb2.lt, fun hm => by have := hle2 _ hm; omega⟩
  have hle3 : ∀ m, m ∈ [] → m ≤ w1.heap.size := (le_nil _)
  refine WO.box rfl rfl rfl rfl rfl rfl rfl ?_
  intro b3 w5 he6 hbe3 hb3
  refine ⟨trivial, ?_⟩
  have hst7 := St.ext (M := []) (Sub.refl _ _) he6
  have hs1_0 := hs1_0.stp hst7
  have hs1_1 := hs1_1.stp hst7
  have hb2 := hb2.stp hst7
  have hE8 := hE4.trans he6
  have hb3 : Bf [] w5 b3 32 [.slice a1_0 p1.In.length c1_0, .slice a1_1 p1.Next.length c1_1] := ⟨hb3, hb3.lt, fun hm => by have := hle3 _ hm; omega⟩
  refine WO.sp rfl rfl rfl rfl (rn_assign rfl rfl) ?_
  refine WO.fin ?_
  refine DN.seq ?_
  refine WC.seq ?_
  refine WC.regS [(0, 1), (1, 1), (2, 2), (3, 1), (4, 1), (5, 1), (6, 2), (7, 2)] rfl ?_
  refine WO.sq trivial rfl rfl rfl rfl (rn_loadBA hb2 Try.isAgg30 Try.sizeOf30 rfl rfl rfl) ?_
  obtain ⟨x6, hx6, h⟩ := Option.bind_eq_some_iff.mp h
  refine WO.call rfl rfl rfl rfl rfl rfl Try.call41 (i_isSig_ok  hx6) ?_
  rintro _ w9 ⟨rfl, he10⟩
  refine ⟨trivial, ?_⟩
  have hst11 := St.ext (M := []) (Sub.refl _ _) he10
  have hs1_0 := hs1_0.stp hst11
  have hs1_1 := hs1_1.stp hst11
  have hb2 := hb2.stp hst11
  have hb3 := hb3.stp hst11
  have hE12 := hE8.trans he10
  refine WO.sp rfl rfl rfl rfl (rn_move rfl rfl) ?_
  revert h
  cases ht13 : x6 with
  | true =>
    intro h
    simp only [cond_true, cond_false, Option.bind_some, Option.bind_assoc, lpK_ret, lpK_brk, lpK_nxt, aft_inl, aft_inr] at h
    refine WO.sq trivial rfl rfl rfl rfl (rn_loadBA hb2 Try.isAgg30 Try.sizeOf30 rfl rfl rfl) ?_
    refine WO.sq trivial rfl rfl rfl rfl (rn_loadBA hb3 Try.isAgg32 Try.sizeOf32 rfl rfl rfl) ?_
    obtain ⟨x10, hx10, h⟩ := Option.bind_eq_some_iff.mp h
    refine WO.call rfl rfl rfl rfl rfl rfl Try.call42 (i_isRival_ok (hs1_0.toE (Ext.refl _)) (hs1_1.toE (Ext.refl _)) hx10) ?_
    rintro _ w14 ⟨rfl, he15⟩
    refine ⟨trivial, ?_⟩
    have hst16 := St.ext (M := []) (Sub.refl _ _) he15
    have hs1_0 := hs1_0.stp hst16
    have hs1_1 := hs1_1.stp hst16
    have hb2 := hb2.stp hst16
    have hb3 := hb3.stp hst16
    have hE17 := hE12.trans he15
    refine WO.sp rfl rfl rfl rfl (rn_pickT rfl rfl rfl) ?_
    refine WO.sp rfl rfl rfl rfl (rn_assign rfl rfl) ?_
    refine WO.fin ?_
    refine DN.seq ?_
    refine WC.ret ?_
    refine DN.ret1 Try.results13 rfl ?_
    obtain rfl := Option.some.inj h
    exact ⟨rfl, hE17⟩
  | false =>
    intro h
    simp only [cond_true, cond_false, Option.bind_some, Option.bind_assoc, lpK_ret, lpK_brk, lpK_nxt, aft_inl, aft_inr] at h
    refine WO.ls rfl rfl rfl rfl ?_
    refine WO.ls rfl rfl rfl rfl ?_
    refine WO.ls rfl rfl rfl rfl ?_
    refine WO.sp rfl rfl rfl rfl (rn_pickF rfl rfl rfl) ?_
    refine WO.sp rfl rfl rfl rfl (rn_assign rfl rfl) ?_
    refine WO.fin ?_
    refine DN.seq ?_
    refine WC.ret ?_
    refine DN.ret1 Try.results13 rfl ?_
    obtain rfl := Option.some.inj h
    exact ⟨rfl, hE12⟩

/- loop.example/g00869/laws.eqInt64S -/
def l_eqInt64S_b0 (p0 : (List Int)) (p1 : (List Int)) (v5 : Int) (s1 : Unit) : Option (Bool ⊕ ((Unit) ⊕ (Unit))) :=
  Option.bind (idx p0 v5) fun x19 =>
  Option.bind (idx p1 v5) fun x23 =>
  bif (x19 != x23) then
    some (.inl (false : Bool))
  else
    some (.inr (.inr ()))
def l_eqInt64S (p0 : (List Int)) (p1 : (List Int)) : Option (Bool) :=
  bif ((p0.length : Int) != (p1.length : Int)) then
    some (false : Bool)
  else
    Option.bind (cntM (l_eqInt64S_b0 p0 p1) p0.length 0 ()) fun q2 =>
    aft (fun r => some r) (fun s3 =>
      some (true : Bool)) q2

theorem l_eqInt64S_ok {p0 : (List Int)} {a0 : Option Addr} {c0 : Nat} {p1 : (List Int)} {a1 : Option Addr} {c1 : Nat} {w : World} (hs0 : Sl (Rp.int .i64) (Fz [] w) w a0 c0 p0) (hs1 : Sl (Rp.int .i64) (Fz [] w) w a1 c1 p1) {r : Bool} (h : l_eqInt64S p0 p1 = some r) : Ret Try.prog 27 [.slice a0 p0.length c0, .slice a1 p1.length c1] w (fun v w' => v = .bool r ∧ Ext w w') := by
  unfold l_eqInt64S at h
  refine Ret.enter Try.func27 rfl Try.ntmps27 rfl ?_
  dsimp only [envOf]
  refine WC.seq ?_
  refine WC.regS [(0, 2)] rfl ?_
  refine WO.sp rfl rfl rfl rfl (rn_assign rfl rfl) ?_
  refine WO.fin ?_
  refine DN.seq ?_
  refine WC.seq ?_
  refine WC.seq ?_
  refine WC.regS [(0, 2), (1, 2), (2, 2), (3, 2), (4, 2)] rfl ?_
  refine WO.sp rfl rfl rfl rfl (rn_move rfl rfl) ?_
  refine WO.sp rfl rfl rfl rfl (rn_len Try.runUnderlying24 rfl rfl) ?_
  refine WO.sp rfl rfl rfl rfl (rn_move rfl rfl) ?_
  refine WO.sp rfl rfl rfl rfl (rn_len Try.runUnderlying24 rfl rfl) ?_
  refine WO.sp rfl rfl rfl rfl (rn_neq rfl rfl rfl) ?_
  refine WO.fin ?_
  refine DN.seq ?_
  revert h
  cases ht1 : ((p0.length : Int) != (p1.length : Int)) with
  | true =>
    intro h
    simp only [cond_true, cond_false, Option.bind_some, Option.bind_assoc, lpK_ret, lpK_brk, lpK_nxt, aft_inl, aft_inr] at h
    refine WC.ct rfl ?_
    refine WC.seq ?_
    refine WC.regS [(0, 2)] rfl ?_
    refine WO.sp rfl rfl rfl rfl (rn_assign rfl rfl) ?_
    refine WO.fin ?_
    refine DN.seq ?_
    refine WC.ret ?_
    refine DN.retThen ?_
    refine DN.ret1 Try.results27 rfl ?_
    obtain rfl := Option.some.inj h
    exact ⟨rfl, (Ext.refl w)⟩
  | false =>
    intro h
    simp only [cond_true, cond_false, Option.bind_some, Option.bind_assoc, lpK_ret, lpK_brk, lpK_nxt, aft_inl, aft_inr] at h
    refine WC.cf rfl ?_
    refine WC.skip ?_
    refine DN.seq ?_
    refine WC.seq ?_
    refine WC.seq ?_
    refine WC.regS [(0, 2)] rfl ?_
    refine WO.sp rfl rfl rfl rfl (rn_assign rfl rfl) ?_
    refine WO.fin ?_
    refine DN.seq ?_
    refine WC.block ?_
    obtain ⟨q2, hq2, hk2⟩ := Option.bind_eq_some_iff.mp h
    clear h
    refine WC.loop (fun k L w' => ∃ (v5 : Int), L = [(0, .slice a0 p0.length c0), (1, .slice a1 p1.length c1), (5, .int .i64 v5)] ∧ Ext w w' ∧ Sl (Rp.int .i64) (Fz [] w') w' a0 c0 p0 ∧ Sl (Rp.int .i64) (Fz [] w') w' a1 c1 p1 ∧ 0 ≤ v5 ∧ Int.toNat ((p0.length : Int) - v5) = k ∧ cntM (l_eqInt64S_b0 p0 p1) k v5 () = some q2) ⟨_, _, ⟨0, rfl, (Ext.refl w), hs0, hs1, (by decide), (by simp), hq2⟩, fun a ha => (ha.more (ha.more (ha.more ha.nil rfl) rfl) rfl)⟩ ?_
    rintro k _ w3 ⟨v5, rfl, hE4, hs0, hs1, hj2, hJ2, h⟩
    rcases k with _ | k
    ·
      simp only [cntM] at h
      have hc2 : decide (v5 < (p0.length : Int)) = false := decide_eq_false (by omega)
      refine WC.seq ?_
      refine WC.seq ?_
      refine WC.regS [(0, 2), (1, 2), (2, 2), (3, 2)] rfl ?_
      refine WO.sp rfl rfl rfl rfl (rn_move rfl rfl) ?_
      refine WO.sp rfl rfl rfl rfl (rn_move rfl rfl) ?_
      refine WO.sp rfl rfl rfl rfl (rn_len Try.runUnderlying24 rfl rfl) ?_
      refine WO.sp rfl rfl rfl rfl (rn_lss rfl rfl rfl) ?_
      refine WO.fin ?_
      refine DN.seq ?_
      refine WC.cf' rfl hc2 ?_
      refine WC.exit ?_
      refine DN.exitThen ?_
      refine DN.exitThen ?_
      obtain rfl := Option.some.inj h
      have h := hk2
      simp only [cond_true, cond_false, Option.bind_some, Option.bind_assoc, lpK_ret, lpK_brk, lpK_nxt, aft_inl, aft_inr] at h
      refine DN.hit ?_
      refine DN.seq ?_
      refine WC.seq ?_
      refine WC.regS [(0, 2)] rfl ?_
      refine WO.sp rfl rfl rfl rfl (rn_assign rfl rfl) ?_
      refine WO.fin ?_
      refine DN.seq ?_
      refine WC.ret ?_
      refine DN.ret1 Try.results27 rfl ?_
      obtain rfl := Option.some.inj h
      exact ⟨rfl, hE4⟩
    ·
      simp only [cntM, l_eqInt64S_b0, cond_true, cond_false, Option.bind_some, Option.bind_assoc, lpK_ret, lpK_brk, lpK_nxt, aft_inl, aft_inr] at h
      have hc2 : decide (v5 < (p0.length : Int)) = true := decide_eq_true (by omega)
      refine WC.seq ?_
      refine WC.seq ?_
      refine WC.regS [(0, 2), (1, 2), (2, 2), (3, 2)] rfl ?_
      refine WO.sp rfl rfl rfl rfl (rn_move rfl rfl) ?_
      refine WO.sp rfl rfl rfl rfl (rn_move rfl rfl) ?_
      refine WO.sp rfl rfl rfl rfl (rn_len Try.runUnderlying24 rfl rfl) ?_
      refine WO.sp rfl rfl rfl rfl (rn_lss rfl rfl rfl) ?_
      refine WO.fin ?_
      refine DN.seq ?_
      refine WC.ct' rfl hc2 ?_
      refine WC.skip ?_
      refine DN.seq ?_
      refine WC.seq ?_
      refine WC.block ?_
      refine WC.seq ?_
      refine WC.regX none [(0, 2), (1, 2), (2, 2), (4, 2), (5, 2), (6, 2), (3, 0), (7, 0), (8, 2)] [] (by kernel_rfl) (by kernel_rfl) fun w5 he6 hh7 => ?_
      have hst8 := St.ext (M := []) (Sub.refl _ _) he6
      have hs0 := hs0.stp hst8
      have hs1 := hs1.stp hst8
      have hE9 := hE4.trans he6
      refine WO.sp rfl rfl rfl rfl (rn_move rfl rfl) ?_
      refine WO.sp rfl rfl rfl rfl (rn_move rfl rfl) ?_
      obtain ⟨x19, hx19, h⟩ := Option.bind_eq_some_iff.mp h
      refine WO.sp rfl rfl rfl rfl (rn_index hs0 hx19 Try.runUnderlying24 Try.sizeOf2 rfl rfl rfl rfl) ?_
      refine WO.sp rfl rfl rfl rfl (rn_move rfl rfl) ?_
      refine WO.sp rfl rfl rfl rfl (rn_move rfl rfl) ?_
      obtain ⟨x23, hx23, h⟩ := Option.bind_eq_some_iff.mp h
      refine WO.sp rfl rfl rfl rfl (rn_index hs1 hx23 Try.runUnderlying24 Try.sizeOf2 rfl rfl rfl rfl) ?_
      refine WO.dq rfl rfl rfl rfl (rn_load Try.isAgg2 rfl rfl ((hs0).getInt hx19)) ?_
      refine WO.dq rfl rfl rfl rfl (rn_load Try.isAgg2 rfl rfl ((hs1).getInt hx23)) ?_
      refine WO.sp rfl rfl rfl rfl (rn_neq rfl rfl rfl) ?_
      refine WO.nx ?_
      refine WO.fin ?_
      refine DN.seq ?_
      revert h
      cases ht10 : (x19 != x23) with
      | true =>
        intro h
        simp only [cond_true, cond_false, Option.bind_some, Option.bind_assoc, lpK_ret, lpK_brk, lpK_nxt, aft_inl, aft_inr] at h
        refine WC.ct rfl ?_
        refine WC.seq ?_
        refine WC.regS [(0, 2)] rfl ?_
        refine WO.sp rfl rfl rfl rfl (rn_assign rfl rfl) ?_
        refine WO.fin ?_
        refine DN.seq ?_
        refine WC.ret ?_
        refine DN.retBlock ?_
        refine DN.retThen ?_
        refine DN.retThen ?_
        obtain rfl := Option.some.inj h
        have h := hk2
        simp only [cond_true, cond_false, Option.bind_some, Option.bind_assoc, lpK_ret, lpK_brk, lpK_nxt, aft_inl, aft_inr] at h
        refine DN.retBlock ?_
        refine DN.retThen ?_
        refine DN.ret1 Try.results27 rfl ?_
        obtain rfl := Option.some.inj h
        exact ⟨rfl, hE9⟩
      | false =>
        intro h
        simp only [cond_true, cond_false, Option.bind_some, Option.bind_assoc, lpK_ret, lpK_brk, lpK_nxt, aft_inl, aft_inr] at h
        refine WC.cf rfl ?_
        refine WC.skip ?_
        refine DN.block ?_
        refine DN.seq ?_
        refine WC.regS [(0, 2), (1, 2), (2, 2)] rfl ?_
        refine WO.sp rfl rfl rfl rfl (rn_move rfl rfl) ?_
        refine WO.sp rfl rfl rfl rfl (rn_add rfl rfl rfl) ?_
        refine WO.sp rfl rfl rfl rfl (rn_assign rfl rfl) ?_
        refine WO.fin ?_
        have hw2 : IntKind.wrap .i64 (v5 + 1) = v5 + 1 := wr1 hj2 (of_decide_eq_true hc2) hs0.len_le
        rw [hw2]
        have hc2 := of_decide_eq_true hc2
        refine DN.round fun a ha => ?_
        exact ⟨k, _, Nat.lt_succ_self _, ⟨v5 + 1, rfl, hE9, hs0, hs1, by omega, by omega, h⟩, (ha.more (ha.more (ha.more ha.nil rfl) rfl) rfl)⟩

/- loop.example/g00869/laws.eqInt64SS -/
def l_eqInt64SS_b0 (p0 : (List (List Int))) (p1 : (List (List Int))) (v5 : Int) (s1 : Unit) : Option (Bool ⊕ ((Unit) ⊕ (Unit))) :=
  Option.bind (idx p0 v5) fun x19 =>
  Option.bind (idx p1 v5) fun x23 =>
  Option.bind (l_eqInt64S x19 x23) fun x25 =>
  bif (!x25) then
    some (.inl (false : Bool))
  else
    some (.inr (.inr ()))
def l_eqInt64SS (p0 : (List (List Int))) (p1 : (List (List Int))) : Option (Bool) :=
  bif ((p0.length : Int) != (p1.length : Int)) then
    some (false : Bool)
  else
    Option.bind (cntM (l_eqInt64SS_b0 p0 p1) p0.length 0 ()) fun q2 =>
    aft (fun r => some r) (fun s3 =>
      some (true : Bool)) q2

theorem l_eqInt64SS_ok {p0 : (List (List Int))} {a0 : Option Addr} {c0 : Nat} {p1 : (List (List Int))} {a1 : Option Addr} {c1 : Nat} {w : World} (hs0 : Sl (Rp.sl (Rp.int .i64)) (Fz [] w) w a0 c0 p0) (hs1 : Sl (Rp.sl (Rp.int .i64)) (Fz [] w) w a1 c1 p1) {r : Bool} (h : l_eqInt64SS p0 p1 = some r) : Ret Try.prog 43 [.slice a0 p0.length c0, .slice a1 p1.length c1] w (fun v w' => v = .bool r ∧ Ext w w') := by
  unfold l_eqInt64SS at h
  refine Ret.enter Try.func43 rfl Try.ntmps43 rfl ?_
  dsimp only [envOf]
  refine WC.seq ?_
  refine WC.regS [(0, 2)] rfl ?_
  refine WO.sp rfl rfl rfl rfl (rn_assign rfl rfl) ?_
  refine WO.fin ?_
  refine DN.seq ?_
  refine WC.seq ?_
  refine WC.seq ?_
  refine WC.regS [(0, 2), (1, 2), (2, 2), (3, 2), (4, 2)] rfl ?_
  refine WO.sp rfl rfl rfl rfl (rn_move rfl rfl) ?_
  refine WO.sp rfl rfl rfl rfl (rn_len Try.runUnderlying25 rfl rfl) ?_
  refine WO.sp rfl rfl rfl rfl (rn_move rfl rfl) ?_
  refine WO.sp rfl rfl rfl rfl (rn_len Try.runUnderlying25 rfl rfl) ?_
  refine WO.sp rfl rfl rfl rfl (rn_neq rfl rfl rfl) ?_
  refine WO.fin ?_
  refine DN.seq ?_
  revert h
  cases ht1 : ((p0.length : Int) != (p1.length : Int)) with
  | true =>
    intro h
    simp only [cond_true, cond_false, Option.bind_some, Option.bind_assoc, lpK_ret, lpK_brk, lpK_nxt, aft_inl, aft_inr] at h
    refine WC.ct rfl ?_
    refine WC.seq ?_
    refine WC.regS [(0, 2)] rfl ?_
    refine WO.sp rfl rfl rfl rfl (rn_assign rfl rfl) ?_
    refine WO.fin ?_
    refine DN.seq ?_
    refine WC.ret ?_
    refine DN.retThen ?_
    refine DN.ret1 Try.results43 rfl ?_
    obtain rfl := Option.some.inj h
    exact ⟨rfl, (Ext.refl w)⟩
  | false =>
    intro h
    simp only [cond_true, cond_false, Option.bind_some, Option.bind_assoc, lpK_ret, lpK_brk, lpK_nxt, aft_inl, aft_inr] at h
    refine WC.cf rfl ?_
    refine WC.skip ?_
    refine DN.seq ?_
    refine WC.seq ?_
    refine WC.seq ?_
    refine WC.regS [(0, 2)] rfl ?_
    refine WO.sp rfl rfl rfl rfl (rn_assign rfl rfl) ?_
    refine WO.fin ?_
    refine DN.seq ?_
    refine WC.block ?_
    obtain ⟨q2, hq2, hk2⟩ := Option.bind_eq_some_iff.mp h
    clear h
    refine WC.loop (fun k L w' => ∃ (v5 : Int), L = [(0, .slice a0 p0.length c0), (1, .slice a1 p1.length c1), (5, .int .i64 v5)] ∧ Ext w w' ∧ Sl (Rp.sl (Rp.int .i64)) (Fz [] w') w' a0 c0 p0 ∧ Sl (Rp.sl (Rp.int .i64)) (Fz [] w') w' a1 c1 p1 ∧ 0 ≤ v5 ∧ Int.toNat ((p0.length : Int) - v5) = k ∧ cntM (l_eqInt64SS_b0 p0 p1) k v5 () = some q2) ⟨_, _, ⟨0, rfl, (Ext.refl w), hs0, hs1, (by decide), (by simp), hq2⟩, fun a ha => (ha.more (ha.more (ha.more ha.nil rfl) rfl) rfl)⟩ ?_
    rintro k _ w3 ⟨v5, rfl, hE4, hs0, hs1, hj2, hJ2, h⟩
    rcases k with _ | k
    ·
      simp only [cntM] at h
      have hc2 : decide (v5 < (p0.length : Int)) = false := decide_eq_false (by omega)
      refine WC.seq ?_
      refine WC.seq ?_
      refine WC.regS [(0, 2), (1, 2), (2, 2), (3, 2)] rfl ?_
      refine WO.sp rfl rfl rfl rfl (rn_move rfl rfl) ?_
      refine WO.sp rfl rfl rfl rfl (rn_move rfl rfl) ?_
      refine WO.sp rfl rfl rfl rfl (rn_len Try.runUnderlying25 rfl rfl) ?_
      refine WO.sp rfl rfl rfl rfl (rn_lss rfl rfl rfl) ?_
      refine WO.fin ?_
      refine DN.seq ?_
      refine WC.cf' rfl hc2 ?_
      refine WC.exit ?_
      refine DN.exitThen ?_
      refine DN.exitThen ?_
      obtain rfl := Option.some.inj h
      have h := hk2
      simp only [cond_true, cond_false, Option.bind_some, Option.bind_assoc, lpK_ret, lpK_brk, lpK_nxt, aft_inl, aft_inr] at h
      refine DN.hit ?_
      refine DN.seq ?_
      refine WC.seq ?_
      refine WC.regS [(0, 2)] rfl ?_
      refine WO.sp rfl rfl rfl rfl (rn_assign rfl rfl) ?_
      refine WO.fin ?_
      refine DN.seq ?_
      refine WC.ret ?_
      refine DN.ret1 Try.results43 rfl ?_
      obtain rfl := Option.some.inj h
      exact ⟨rfl, hE4⟩
    ·
      simp only [cntM, l_eqInt64SS_b0, cond_true, cond_false, Option.bind_some, Option.bind_assoc, lpK_ret, lpK_brk, lpK_nxt, aft_inl, aft_inr] at h
      have hc2 : decide (v5 < (p0.length : Int)) = true := decide_eq_true (by omega)
      refine WC.seq ?_
      refine WC.seq ?_
      refine WC.regS [(0, 2), (1, 2), (2, 2), (3, 2)] rfl ?_
      refine WO.sp rfl rfl rfl rfl (rn_move rfl rfl) ?_
      refine WO.sp rfl rfl rfl rfl (rn_move rfl rfl) ?_
      refine WO.sp rfl rfl rfl rfl (rn_len Try.runUnderlying25 rfl rfl) ?_
      refine WO.sp rfl rfl rfl rfl (rn_lss rfl rfl rfl) ?_
      refine WO.fin ?_
      refine DN.seq ?_
      refine WC.ct' rfl hc2 ?_
      refine WC.skip ?_
      refine DN.seq ?_
      refine WC.seq ?_
      refine WC.block ?_
      refine WC.seq ?_
      refine WC.regX none [(0, 2), (1, 2), (2, 2), (4, 2), (5, 2), (6, 2), (3, 0), (7, 0), (8, 1), (9, 2)] [] (by kernel_rfl) (by kernel_rfl) fun w5 he6 hh7 => ?_
      have hst8 := St.ext (M := []) (Sub.refl _ _) he6
      have hs0 := hs0.stp hst8
      have hs1 := hs1.stp hst8
      have hE9 := hE4.trans he6
      refine WO.sp rfl rfl rfl rfl (rn_move rfl rfl) ?_
      refine WO.sp rfl rfl rfl rfl (rn_move rfl rfl) ?_
      obtain ⟨x19, hx19, h⟩ := Option.bind_eq_some_iff.mp h
      refine WO.sp rfl rfl rfl rfl (rn_index hs0 hx19 Try.runUnderlying25 Try.sizeOf24 rfl rfl rfl rfl) ?_
      refine WO.sp rfl rfl rfl rfl (rn_move rfl rfl) ?_
      refine WO.sp rfl rfl rfl rfl (rn_move rfl rfl) ?_
      obtain ⟨x23, hx23, h⟩ := Option.bind_eq_some_iff.mp h
      refine WO.sp rfl rfl rfl rfl (rn_index hs1 hx23 Try.runUnderlying25 Try.sizeOf24 rfl rfl rfl rfl) ?_
      obtain ⟨ax19, cx19, hsx19, hlx19⟩ := hs0.getSl hx19
      refine WO.dq rfl rfl rfl rfl (rn_load Try.isAgg24 rfl rfl hlx19) ?_
      have z_hsx19 := hsx19
      obtain ⟨ax23, cx23, hsx23, hlx23⟩ := hs1.getSl hx23
      refine WO.dq rfl rfl rfl rfl (rn_load Try.isAgg24 rfl rfl hlx23) ?_
      have z_hsx23 := hsx23
      obtain ⟨x25, hx25, h⟩ := Option.bind_eq_some_iff.mp h
      refine WO.call rfl rfl rfl rfl rfl rfl Try.call27 (l_eqInt64S_ok (hsx19.toE (Ext.refl _)) (hsx23.toE (Ext.refl _)) hx25) ?_
      rintro _ w10 ⟨rfl, he11⟩
      have hx12 := he11
      refine ⟨hx12.cw, ?_⟩
      have hst13 := St.ext (M := []) (Sub.refl _ _) he11
      have hz14 := hst13
      have hs0 := hs0.stp hst13
      have hs1 := hs1.stp hst13
      have hsx19 := hsx19.stp hst13
      have hsx23 := hsx23.stp hst13
      have hE15 := hE9.trans he11
      refine WO.sp rfl rfl rfl rfl (rn_not rfl rfl) ?_
      refine WO.nx ?_
      refine WO.fin ?_
      refine DN.seq ?_
      revert h
      cases ht16 : (!x25) with
      | true =>
        intro h
        simp only [cond_true, cond_false, Option.bind_some, Option.bind_assoc, lpK_ret, lpK_brk, lpK_nxt, aft_inl, aft_inr] at h
        refine WC.ct rfl ?_
        refine WC.seq ?_
        refine WC.regS [(0, 2)] rfl ?_
        refine WO.sp rfl rfl rfl rfl (rn_assign rfl rfl) ?_
        refine WO.fin ?_
        refine DN.seq ?_
        refine WC.ret ?_
        refine DN.retBlock ?_
        refine DN.retThen ?_
        refine DN.retThen ?_
        obtain rfl := Option.some.inj h
        have h := hk2
        simp only [cond_true, cond_false, Option.bind_some, Option.bind_assoc, lpK_ret, lpK_brk, lpK_nxt, aft_inl, aft_inr] at h
        refine DN.retBlock ?_
        refine DN.retThen ?_
        refine DN.ret1 Try.results43 rfl ?_
        obtain rfl := Option.some.inj h
        exact ⟨rfl, hE15⟩
      | false =>
        intro h
        simp only [cond_true, cond_false, Option.bind_some, Option.bind_assoc, lpK_ret, lpK_brk, lpK_nxt, aft_inl, aft_inr] at h
        refine WC.cf rfl ?_
        refine WC.skip ?_
        refine DN.block ?_
        refine DN.seq ?_
        refine WC.regS [(0, 2), (1, 2), (2, 2)] rfl ?_
        refine WO.sp rfl rfl rfl rfl (rn_move rfl rfl) ?_
        refine WO.sp rfl rfl rfl rfl (rn_add rfl rfl rfl) ?_
        refine WO.sp rfl rfl rfl rfl (rn_assign rfl rfl) ?_
        refine WO.fin ?_
        have hw2 : IntKind.wrap .i64 (v5 + 1) = v5 + 1 := wr1 hj2 (of_decide_eq_true hc2) hs0.len_le
        rw [hw2]
        have hc2 := of_decide_eq_true hc2
        refine DN.round fun a ha => ?_
        exact ⟨k, _, Nat.lt_succ_self _, ⟨v5 + 1, rfl, hE15, hs0, hs1, by omega, by omega, h⟩, (ha.more (ha.more (ha.more ha.nil rfl) rfl) rfl)⟩

/- loop.example/g00869/laws.eqRival -/
def l_eqRival (p0 : Rival) (p1 : Rival) : Option (Bool) :=
  Option.bind (l_eqInt64S p0.In p1.In) fun x9 =>
  bif (!x9) then
    some (false : Bool)
  else
    Option.bind (l_eqInt64SS p0.Next p1.Next) fun x15 =>
    bif (!x15) then
      some (false : Bool)
    else
      some (true : Bool)

theorem l_eqRival_ok {p0 : Rival} {a0_0 : Option Addr} {c0_0 : Nat} {a0_1 : Option Addr} {c0_1 : Nat} {p1 : Rival} {a1_0 : Option Addr} {c1_0 : Nat} {a1_1 : Option Addr} {c1_1 : Nat} {w : World} (hs0_0 : Sl (Rp.int .i64) (Fz [] w) w a0_0 c0_0 p0.In) (hs0_1 : Sl (Rp.sl (Rp.int .i64)) (Fz [] w) w a0_1 c0_1 p0.Next) (hs1_0 : Sl (Rp.int .i64) (Fz [] w) w a1_0 c1_0 p1.In) (hs1_1 : Sl (Rp.sl (Rp.int .i64)) (Fz [] w) w a1_1 c1_1 p1.Next) {r : Bool} (h : l_eqRival p0 p1 = some r) : Ret Try.prog 14 [.agg #[.slice a0_0 p0.In.length c0_0, .slice a0_1 p0.Next.length c0_1], .agg #[.slice a1_0 p1.In.length c1_0, .slice a1_1 p1.Next.length c1_1]] w (fun v w' => v = .bool r ∧ Ext w w') := by
  unfold l_eqRival at h
  refine Ret.enter Try.func14 rfl Try.ntmps14 rfl ?_
  dsimp only [envOf]
  refine WC.seq ?_
  refine WC.regS [(0, 1), (1, 1), (2, 2)] rfl ?_
  have hle2 : ∀ m, m ∈ [] → m ≤ w.heap.size := (le_nil _)
  refine WO.box rfl rfl rfl rfl rfl rfl rfl ?_
  intro b2 w1 he2 hbe2 hb2
  refine ⟨trivial, ?_⟩
  have hst3 := St.ext (M := []) (Sub.refl _ _) he2
  have hs0_0 := hs0_0.stp hst3
  have hs0_1 := hs0_1.stp hst3
  have hs1_0 := hs1_0.stp hst3
  have hs1_1 := hs1_1.stp hst3
  have hE4 := he2
  have hb2 : Bf [] w1 b2 32 [.slice a0_0 p0.In.length c0_0, .slice a0_1 p0.Next.length c0_1] := ⟨hb2, hb2.lt, fun hm => by have := hle2 _ hm; omega⟩
  have hle3 : ∀ m, m ∈ [] → m ≤ w1.heap.size := (le_nil _)
  refine WO.box rfl rfl rfl rfl rfl rfl rfl ?_
  intro b3 w5 he6 hbe3 hb3
  refine ⟨trivial, ?_⟩
  have hst7 := St.ext (M := []) (Sub.refl _ _) he6
  have hs0_0 := hs0_0.stp hst7
  have hs0_1 := hs0_1.stp hst7
  have hs1_0 := hs1_0.stp hst7
  have hs1_1 := hs1_1.stp hst7
  have hb2 := hb2.stp hst7
  have hE8 := hE4.trans he6
  have hb3 : Bf [] w5 b3 32 [.slice a1_0 p1.In.length c1_0, .slice a1_1 p1.Next.length c1_1] := ⟨hb3, hb3.lt, fun hm => by have := hle3 _ hm; omega⟩
  refine WO.sp rfl rfl rfl rfl (rn_assign rfl rfl) ?_
  refine WO.fin ?_
  refine DN.seq ?_
  refine WC.seq ?_
  refine WC.seq ?_
  refine WC.regS [(0, 2), (1, 1), (2, 2), (3, 1), (4, 1), (5, 2)] rfl ?_
  refine WO.sp rfl rfl rfl rfl (rn_fieldAddr Try.runUnderlying32 rfl Try.sizeOf24 rfl rfl) ?_
  refine WO.sq trivial rfl rfl rfl rfl (rn_loadB hb2 Try.isAgg24 rfl rfl rfl) ?_
  refine WO.sp rfl rfl rfl rfl (rn_fieldAddr Try.runUnderlying32 rfl Try.sizeOf24 rfl rfl) ?_
  refine WO.sq trivial rfl rfl rfl rfl (rn_loadB hb3 Try.isAgg24 rfl rfl rfl) ?_
  obtain ⟨x9, hx9, h⟩ := Option.bind_eq_some_iff.mp h
  refine WO.call rfl rfl rfl rfl rfl rfl Try.call27 (l_eqInt64S_ok (hs0_0.toE (Ext.refl _)) (hs1_0.toE (Ext.refl _)) hx9) ?_
  rintro _ w9 ⟨rfl, he10⟩
  refine ⟨trivial, ?_⟩
  have hst11 := St.ext (M := []) (Sub.refl _ _) he10
  have hs0_0 := hs0_0.stp hst11
  have hs0_1 := hs0_1.stp hst11
  have hs1_0 := hs1_0.stp hst11
  have hs1_1 := hs1_1.stp hst11
  have hb2 := hb2.stp hst11
  have hb3 := hb3.stp hst11
  have hE12 := hE8.trans he10
  refine WO.sp rfl rfl rfl rfl (rn_not rfl rfl) ?_
  refine WO.fin ?_
  refine DN.seq ?_
  revert h
  cases ht13 : (!x9) with
  | true =>
    intro h
    simp only [cond_true, cond_false, Option.bind_some, Option.bind_assoc, lpK_ret, lpK_brk, lpK_nxt, aft_inl, aft_inr] at h
    refine WC.ct rfl ?_
    refine WC.seq ?_
    refine WC.regS [(0, 2)] rfl ?_
    refine WO.sp rfl rfl rfl rfl (rn_assign rfl rfl) ?_
    refine WO.fin ?_
    refine DN.seq ?_
    refine WC.ret ?_
    refine DN.retThen ?_
    refine DN.ret1 Try.results14 rfl ?_
    obtain rfl := Option.some.inj h
    exact ⟨rfl, hE12⟩
  | false =>
    intro h
    simp only [cond_true, cond_false, Option.bind_some, Option.bind_assoc, lpK_ret, lpK_brk, lpK_nxt, aft_inl, aft_inr] at h
    refine WC.cf rfl ?_
    refine WC.skip ?_
    refine DN.seq ?_
    refine WC.seq ?_
    refine WC.seq ?_
    refine WC.regS [(0, 2), (1, 1), (2, 2), (3, 1), (4, 1), (5, 2)] rfl ?_
    refine WO.sp rfl rfl rfl rfl (rn_fieldAddr Try.runUnderlying32 rfl Try.sizeOf25 rfl rfl) ?_
    refine WO.sq trivial rfl rfl rfl rfl (rn_loadB hb2 Try.isAgg25 rfl rfl rfl) ?_
    refine WO.sp rfl rfl rfl rfl (rn_fieldAddr Try.runUnderlying32 rfl Try.sizeOf25 rfl rfl) ?_
    refine WO.sq trivial rfl rfl rfl rfl (rn_loadB hb3 Try.isAgg25 rfl rfl rfl) ?_
    obtain ⟨x15, hx15, h⟩ := Option.bind_eq_some_iff.mp h
    refine WO.call rfl rfl rfl rfl rfl rfl Try.call43 (l_eqInt64SS_ok (hs0_1.toE (Ext.refl _)) (hs1_1.toE (Ext.refl _)) hx15) ?_
    rintro _ w14 ⟨rfl, he15⟩
    refine ⟨trivial, ?_⟩
    have hst16 := St.ext (M := []) (Sub.refl _ _) he15
    have hs0_0 := hs0_0.stp hst16
    have hs0_1 := hs0_1.stp hst16
    have hs1_0 := hs1_0.stp hst16
    have hs1_1 := hs1_1.stp hst16
    have hb2 := hb2.stp hst16
    have hb3 := hb3.stp hst16
    have hE17 := hE12.trans he15
    refine WO.sp rfl rfl rfl rfl (rn_not rfl rfl) ?_
    refine WO.fin ?_
    refine DN.seq ?_
    revert h
    cases ht18 : (!x15) with
    | true =>
      intro h
      simp only [cond_true, cond_false, Option.bind_some, Option.bind_assoc, lpK_ret, lpK_brk, lpK_nxt, aft_inl, aft_inr] at h
      refine WC.ct rfl ?_
      refine WC.seq ?_
      refine WC.regS [(0, 2)] rfl ?_
      refine WO.sp rfl rfl rfl rfl (rn_assign rfl rfl) ?_
      refine WO.fin ?_
      refine DN.seq ?_
      refine WC.ret ?_
      refine DN.retThen ?_
      refine DN.ret1 Try.results14 rfl ?_
      obtain rfl := Option.some.inj h
      exact ⟨rfl, hE17⟩
    | false =>
      intro h
      simp only [cond_true, cond_false, Option.bind_some, Option.bind_assoc, lpK_ret, lpK_brk, lpK_nxt, aft_inl, aft_inr] at h
      refine WC.cf rfl ?_
      refine WC.skip ?_
      refine DN.seq ?_
      refine WC.seq ?_
      refine WC.regS [(0, 2)] rfl ?_
      refine WO.sp rfl rfl rfl rfl (rn_assign rfl rfl) ?_
      refine WO.fin ?_
      refine DN.seq ?_
      refine WC.ret ?_
      refine DN.ret1 Try.results14 rfl ?_
      obtain rfl := Option.some.inj h
      exact ⟨rfl, hE17⟩

/- loop.example/g00869/laws.FnExactRivalOk -/
def l_FnExactRivalOk (p0 : Sig) (p1 : Rival) : Option (Bool) :=
  Option.bind (l_szRival p1 1048576) fun x11 =>
  bif decide (x11 < 0) then
    some (true : Bool)
  else
    Option.bind (l_toSig p0) fun x15 =>
    Option.bind (l_toRival p1) fun x17 =>
    Option.bind (s_RivalOk x15 x17) fun x18 =>
    Option.bind (l_toRival p1) fun x20 =>
    Option.bind (l_toSig p0) fun x22 =>
    Option.bind (i_RivalOk x22 x20) fun x24 =>
    bif (x24 != x18) then
      some (false : Bool)
    else
      Option.bind (l_toRival p1) fun x30 =>
      Option.bind (l_eqRival x20 x30) fun x31 =>
      bif (!x31) then
        some (false : Bool)
      else
        some (true : Bool)

theorem l_FnExactRivalOk_ok {p0 : Sig} {p1 : Rival} {a1_0 : Option Addr} {c1_0 : Nat} {a1_1 : Option Addr} {c1_1 : Nat} {w : World} (hs1_0 : Sl (Rp.int .i64) (Fz [] w) w a1_0 c1_0 p1.In) (hs1_1 : Sl (Rp.sl (Rp.int .i64)) (Fz [] w) w a1_1 c1_1 p1.Next) {r : Bool} (h : l_FnExactRivalOk p0 p1 = some r) : Ret Try.prog 3 [.agg #[.int .i64 p0.In, .int .i64 p0.Out], .agg #[.slice a1_0 p1.In.length c1_0, .slice a1_1 p1.Next.length c1_1]] w (fun v w' => v = .bool r ∧ Ext w w') := by
  unfold l_FnExactRivalOk at h
  refine Ret.enter Try.func3 rfl Try.ntmps3 rfl ?_
  dsimp only [envOf]
  refine WC.seq ?_
  refine WC.regS [(0, 1), (1, 1), (2, 2)] rfl ?_
  have hle2 : ∀ m, m ∈ [] → m ≤ w.heap.size := (le_nil _)
  refine WO.box rfl rfl rfl rfl rfl rfl rfl ?_
  intro b2 w1 he2 hbe2 hb2
  refine ⟨trivial, ?_⟩
  have hst3 := St.ext (M := []) (Sub.refl _ _) he2
  have hs1_0 := hs1_0.stp hst3
  have hs1_1 := hs1_1.stp hst3
  have hE4 := he2
  have hb2 : Bf [] w1 b2 23 [.int .i64 p0.In, .int .i64 p0.Out] := ⟨hb2, hb2.lt, fun hm => by have := hle2 _ hm; omega⟩
  have hle3 : ∀ m, m ∈ [] → m ≤ w1.heap.size := (le_nil _)
  refine WO.box rfl rfl rfl rfl rfl rfl rfl ?_
  intro b3 w5 he6 hbe3 hb3
  refine ⟨trivial, ?_⟩
  have hst7 := St.ext (M := []) (Sub.refl _ _) he6
  have hs1_0 := hs1_0.stp hst7
  have hs1_1 := hs1_1.stp hst7
  have hb2 := hb2.stp hst7
  have hE8 := hE4.trans he6
  have hb3 : Bf [] w5 b3 27 [.slice a1_0 p1.In.length c1_0, .slice a1_1 p1.Next.length c1_1] := ⟨hb3, hb3.lt, fun hm => by have := hle3 _ hm; omega⟩
  refine WO.sp rfl rfl rfl rfl (rn_assign rfl rfl) ?_
  refine WO.fin ?_
  refine DN.seq ?_
  refine WC.seq ?_
  refine WC.regS [(0, 2)] rfl ?_
  refine WO.sp rfl rfl rfl rfl (rn_assign rfl rfl) ?_
  refine WO.fin ?_
  refine DN.seq ?_
  refine WC.seq ?_
  refine WC.regS [(0, 1), (1, 2), (2, 1), (3, 2)] rfl ?_
  refine WO.sq trivial rfl rfl rfl rfl (rn_loadBA hb3 Try.isAgg27 Try.sizeOf27 rfl rfl rfl) ?_
  refine WO.sp rfl rfl rfl rfl (rn_move rfl rfl) ?_
  obtain ⟨x11, hx11, h⟩ := Option.bind_eq_some_iff.mp h
  refine WO.call rfl rfl rfl rfl rfl rfl Try.call9 (l_szRival_ok (hs1_0.toE (Ext.refl _)) (hs1_1.toE (Ext.refl _)) hx11) ?_
  rintro _ w9 ⟨rfl, he10⟩
  refine ⟨trivial, ?_⟩
  have hst11 := St.ext (M := []) (Sub.refl _ _) he10
  have hs1_0 := hs1_0.stp hst11
  have hs1_1 := hs1_1.stp hst11
  have hb2 := hb2.stp hst11
  have hb3 := hb3.stp hst11
  have hE12 := hE8.trans he10
  refine WO.sp rfl rfl rfl rfl (rn_assign rfl rfl) ?_
  refine WO.fin ?_
  refine DN.seq ?_
  refine WC.seq ?_
  refine WC.seq ?_
  refine WC.regS [(0, 2), (1, 2)] rfl ?_
  refine WO.sp rfl rfl rfl rfl (rn_move rfl rfl) ?_
  refine WO.sp rfl rfl rfl rfl (rn_lss rfl rfl rfl) ?_
  refine WO.fin ?_
  refine DN.seq ?_
  revert h
  cases ht13 : decide (x11 < 0) with
  | true =>
    intro h
    simp only [cond_true, cond_false, Option.bind_some, Option.bind_assoc, lpK_ret, lpK_brk, lpK_nxt, aft_inl, aft_inr] at h
    refine WC.ct rfl ?_
    refine WC.seq ?_
    refine WC.regS [(0, 2)] rfl ?_
    refine WO.sp rfl rfl rfl rfl (rn_assign rfl rfl) ?_
    refine WO.fin ?_
    refine DN.seq ?_
    refine WC.ret ?_
    refine DN.retThen ?_
    refine DN.ret1 Try.results3 rfl ?_
    obtain rfl := Option.some.inj h
    exact ⟨rfl, hE12⟩
  | false =>
    intro h
    simp only [cond_true, cond_false, Option.bind_some, Option.bind_assoc, lpK_ret, lpK_brk, lpK_nxt, aft_inl, aft_inr] at h
    refine WC.cf rfl ?_
    refine WC.skip ?_
    refine DN.seq ?_
    refine WC.seq ?_
    refine WC.regX none [(0, 0), (2, 0), (1, 1), (3, 1), (4, 1), (5, 2)] [] (by kernel_rfl) (by kernel_rfl) fun w14 he15 hh16 => ?_
    have hst17 := St.ext (M := []) (Sub.refl _ _) he15
    have hs1_0 := hs1_0.stp hst17
    have hs1_1 := hs1_1.stp hst17
    have hb2 := hb2.stp hst17
    have hb3 := hb3.stp hst17
    have hE18 := hE12.trans he15
    refine WO.dq rfl rfl rfl rfl (rn_loadBA hb2 Try.isAgg23 Try.sizeOf23 rfl rfl rfl) ?_
    refine WO.dq rfl rfl rfl rfl (rn_loadBA hb3 Try.isAgg27 Try.sizeOf27 rfl rfl rfl) ?_
    obtain ⟨x15, hx15, h⟩ := Option.bind_eq_some_iff.mp h
    refine WO.call rfl rfl rfl rfl rfl rfl Try.call11 (l_toSig_ok  hx15) ?_
    rintro _ w19 ⟨rfl, he20⟩
    have hx21 := he20
    refine ⟨hx21.cw, ?_⟩
    have hst22 := St.ext (M := []) (Sub.refl _ _) he20
    have hz23 := hst22
    have hs1_0 := hs1_0.stp hst22
    have hs1_1 := hs1_1.stp hst22
    have hb2 := hb2.stp hst22
    have hb3 := hb3.stp hst22
    have hE24 := hE18.trans he20
    obtain ⟨x17, hx17, h⟩ := Option.bind_eq_some_iff.mp h
    refine WO.call rfl rfl rfl rfl rfl rfl Try.call12 (l_toRival_ok (M := []) (hs1_0.toM (Ext.refl _)) (hs1_1.toM (Ext.refl _)) (le_nil _) hx17) ?_
    rintro _ w25 ⟨ax17_1, cx17_1, ax17_2, cx17_2, rfl, he26, hfx17_1, hfx17_2, hddx17_1x17_2, hox17_1, hox17_2⟩
    have hx27 := hx21.trans he26
    refine ⟨hx27.cw, ?_⟩
    have hFx17_1 : nb ax17_1 = 0 ∨ w.heap.size < nb ax17_1 := f_newO hE24 hfx17_1
    have hFx17_2 : nb ax17_2 = 0 ∨ w.heap.size < nb ax17_2 := f_newO hE24 hfx17_2
    have hd_x171_x172 := hddx17_1x17_2
    have hst28 := St.ext (M := []) (Sub.newO hfx17_1 (Sub.newO hfx17_2 (Sub.refl _ _))) he26
    have hz29 := hz23.trans hst28
    have hs1_0 := hs1_0.stp hst28
    have hs1_1 := hs1_1.stp hst28
    have hb2 := hb2.stp hst28
    have hb3 := hb3.stp hst28
    have hE30 := hE24.trans he26
    obtain ⟨x18, hx18, h⟩ := Option.bind_eq_some_iff.mp h
    refine WO.call rfl rfl rfl rfl rfl rfl Try.call10 (s_RivalOk_ok (hox17_1.read.toE (Ext.refl _)) (hox17_2.read.toE (Ext.refl _)) hx18) ?_
    rintro _ w31 ⟨rfl, he32⟩
    have hx33 := hx27.trans he32
    refine ⟨hx33.cw, ?_⟩
    have hst34 := St.ext (M := (nb ax17_1 :: (nb ax17_2 :: []))) (Sub.refl _ _) he32
    have hz35 := hz29.trans hst34
    have hs1_0 := hs1_0.stp hst34
    have hs1_1 := hs1_1.stp hst34
    have hb2 := hb2.stp hst34
    have hb3 := hb3.stp hst34
    have hox17_1 := hox17_1.ext (Sub.refl _ _) he32
    have hox17_2 := hox17_2.ext (Sub.refl _ _) he32
    have hE36 := hE30.trans he32
    refine WO.sp rfl rfl rfl rfl (rn_assign rfl rfl) ?_
    refine WO.nx ?_
    refine WO.fin ?_
    have hsb37 : Sb (nb ax17_1 :: (nb ax17_2 :: [])) [] := (Sb.drop (Sb.drop (Sb.refl _)))
    have hs1_0 := hs1_0.stp hsb37.st
    have hs1_1 := hs1_1.stp hsb37.st
    have hb2 := hb2.stp hsb37.st
    have hb3 := hb3.stp hsb37.st
    refine DN.seq ?_
    refine WC.seq ?_
    refine WC.regS [(0, 1), (1, 1), (2, 1), (3, 1)] rfl ?_
    refine WO.sq trivial rfl rfl rfl rfl (rn_loadBA hb3 Try.isAgg27 Try.sizeOf27 rfl rfl rfl) ?_
    obtain ⟨x20, hx20, h⟩ := Option.bind_eq_some_iff.mp h
    refine WO.call rfl rfl rfl rfl rfl rfl Try.call12 (l_toRival_ok (M := []) (hs1_0.toM (Ext.refl _)) (hs1_1.toM (Ext.refl _)) (le_nil _) hx20) ?_
    rintro _ w38 ⟨ax20_1, cx20_1, ax20_2, cx20_2, rfl, he39, hfx20_1, hfx20_2, hddx20_1x20_2, hox20_1, hox20_2⟩
    refine ⟨trivial, ?_⟩
    have hFx20_1 : nb ax20_1 = 0 ∨ w.heap.size < nb ax20_1 := f_newO hE36 hfx20_1
    have hFx20_2 : nb ax20_2 = 0 ∨ w.heap.size < nb ax20_2 := f_newO hE36 hfx20_2
    have hd_x201_x202 := hddx20_1x20_2
    have hst40 := St.ext (M := []) (Sub.newO hfx20_1 (Sub.newO hfx20_2 (Sub.refl _ _))) he39
    have hs1_0 := hs1_0.stp hst40
    have hs1_1 := hs1_1.stp hst40
    have hb2 := hb2.stp hst40
    have hb3 := hb3.stp hst40
    have hE41 := hE36.trans he39
    refine WO.alloc rfl rfl rfl rfl rfl Try.zeroValue32 rfl ?_
    intro b7 w42 he43 hbe7 hb7
    refine ⟨trivial, ?_⟩
    have hn7 : w38.heap.size < b7 + 1 := by omega
    have hd_x201_b7 : nb ax20_1 = 0 ∨ nb ax20_1 ≠ (b7 + 1) := d_new hox20_1.nb_le hn7
    have hd_x202_b7 : nb ax20_2 = 0 ∨ nb ax20_2 ≠ (b7 + 1) := d_new hox20_2.nb_le hn7
    have hF7 : (b7 + 1) = 0 ∨ w.heap.size < (b7 + 1) := f_new hE41 hn7
    have hst44 := St.ext (M := (nb ax20_1 :: (nb ax20_2 :: []))) (Sub.new hn7 (Sub.refl _ _)) he43
    have hs1_0 := hs1_0.stp hst44
    have hs1_1 := hs1_1.stp hst44
    have hb2 := hb2.stp hst44
    have hb3 := hb3.stp hst44
    have hox20_1 := hox20_1.ext (Sub.new hn7 (Sub.refl _ _)) he43
    have hox20_2 := hox20_2.ext (Sub.new hn7 (Sub.refl _ _)) he43
    have hE45 := hE41.trans he43
    refine WO.stB0 (vc := [.slice ax20_1 x20.In.length cx20_1, .slice ax20_2 x20.Next.length cx20_2]) rfl rfl rfl rfl rfl rfl rfl Try.sizeOf32 rfl (by intro u hu; simp only [List.mem_cons, List.not_mem_nil, or_false] at hu; rcases hu with rfl | rfl <;> rfl) hb7 rfl ?_
    intro w46 ht47 hb7
    refine ⟨trivial, ?_⟩
    have hst48 := Tch.st (M := ((b7 + 1) :: (nb ax20_1 :: (nb ax20_2 :: [])))) ht47 (.inr (.head _)) (Sub.refl _ _)
    have hs1_0 := hs1_0.stp hst48
    have hs1_1 := hs1_1.stp hst48
    have hb2 := hb2.stp hst48
    have hb3 := hb3.stp hst48
    have hox20_1 := hox20_1.tch ht47 (.inr (.head _)) (Sub.refl _ _) hd_x201_b7
    have hox20_2 := hox20_2.tch ht47 (.inr (.head _)) (Sub.refl _ _) hd_x202_b7
    have hE49 := ht47.ext hE45 hF7
    refine WO.fin ?_
    refine DN.seq ?_
    refine WC.seq ?_
    refine WC.regX none [(0, 0), (2, 0), (1, 1), (3, 1), (4, 2)] [] (by kernel_rfl) (by kernel_rfl) fun w50 he51 hh52 => ?_
    have hst53 := St.ext (M := ((b7 + 1) :: (nb ax20_1 :: (nb ax20_2 :: [])))) (Sub.refl _ _) he51
    have hs1_0 := hs1_0.stp hst53
    have hs1_1 := hs1_1.stp hst53
    have hb2 := hb2.stp hst53
    have hb3 := hb3.stp hst53
    have hb7 := hb7.ext he51
    have hox20_1 := hox20_1.ext (Sub.refl _ _) he51
    have hox20_2 := hox20_2.ext (Sub.refl _ _) he51
    have hE54 := hE49.trans he51
    refine WO.dq rfl rfl rfl rfl (rn_loadBA hb2 Try.isAgg23 Try.sizeOf23 rfl rfl rfl) ?_
    refine WO.dq rfl rfl rfl rfl (rn_loadBA (Bf.of hb7) Try.isAgg32 Try.sizeOf32 rfl rfl rfl) ?_
    obtain ⟨x22, hx22, h⟩ := Option.bind_eq_some_iff.mp h
    refine WO.call rfl rfl rfl rfl rfl rfl Try.call11 (l_toSig_ok  hx22) ?_
    rintro _ w55 ⟨rfl, he56⟩
    have hx57 := he56
    refine ⟨hx57.cw, ?_⟩
    have hst58 := St.ext (M := ((b7 + 1) :: (nb ax20_1 :: (nb ax20_2 :: [])))) (Sub.refl _ _) he56
    have hz59 := hst58
    have hs1_0 := hs1_0.stp hst58
    have hs1_1 := hs1_1.stp hst58
    have hb2 := hb2.stp hst58
    have hb3 := hb3.stp hst58
    have hb7 := hb7.ext he56
    have hox20_1 := hox20_1.ext (Sub.refl _ _) he56
    have hox20_2 := hox20_2.ext (Sub.refl _ _) he56
    have hE60 := hE54.trans he56
    obtain ⟨x24, hx24, h⟩ := Option.bind_eq_some_iff.mp h
    refine WO.call rfl rfl rfl rfl rfl rfl Try.call13 (i_RivalOk_ok (hox20_1.read.toE (Ext.refl _)) (hox20_2.read.toE (Ext.refl _)) hx24) ?_
    rintro _ w61 ⟨rfl, he62⟩
    have hx63 := hx57.trans he62
    refine ⟨hx63.cw, ?_⟩
    have hst64 := St.ext (M := ((b7 + 1) :: (nb ax20_1 :: (nb ax20_2 :: [])))) (Sub.refl _ _) he62
    have hz65 := hz59.trans hst64
    have hs1_0 := hs1_0.stp hst64
    have hs1_1 := hs1_1.stp hst64
    have hb2 := hb2.stp hst64
    have hb3 := hb3.stp hst64
    have hb7 := hb7.ext he62
    have hox20_1 := hox20_1.ext (Sub.refl _ _) he62
    have hox20_2 := hox20_2.ext (Sub.refl _ _) he62
    have hE66 := hE60.trans he62
    refine WO.sp rfl rfl rfl rfl (rn_assign rfl rfl) ?_
    refine WO.nx ?_
    refine WO.fin ?_
    refine DN.seq ?_
    refine WC.seq ?_
    refine WC.seq ?_
    refine WC.regS [(0, 2), (1, 2), (2, 2)] rfl ?_
    refine WO.sp rfl rfl rfl rfl (rn_move rfl rfl) ?_
    refine WO.sp rfl rfl rfl rfl (rn_move rfl rfl) ?_
    refine WO.sp rfl rfl rfl rfl (rn_neqB rfl rfl Try.runUnderlying4 rfl) ?_
    refine WO.fin ?_
    refine DN.seq ?_
    revert h
    cases ht67 : (x24 != x18) with
    | true =>
      intro h
      simp only [cond_true, cond_false, Option.bind_some, Option.bind_assoc, lpK_ret, lpK_brk, lpK_nxt, aft_inl, aft_inr] at h
      refine WC.ct rfl ?_
      refine WC.seq ?_
      refine WC.regS [(0, 2)] rfl ?_
      refine WO.sp rfl rfl rfl rfl (rn_assign rfl rfl) ?_
      refine WO.fin ?_
      refine DN.seq ?_
      refine WC.ret ?_
      refine DN.retThen ?_
      refine DN.ret1 Try.results3 rfl ?_
      obtain rfl := Option.some.inj h
      exact ⟨rfl, hE66⟩
    | false =>
      intro h
      simp only [cond_true, cond_false, Option.bind_some, Option.bind_assoc, lpK_ret, lpK_brk, lpK_nxt, aft_inl, aft_inr] at h
      refine WC.cf rfl ?_
      refine WC.skip ?_
      refine DN.seq ?_
      refine WC.seq ?_
      refine WC.seq ?_
      refine WC.regX none [(0, 0), (1, 0), (2, 1), (3, 1), (4, 2)] [] (by kernel_rfl) (by kernel_rfl) fun w68 he69 hh70 => ?_
      have hst71 := St.ext (M := ((b7 + 1) :: (nb ax20_1 :: (nb ax20_2 :: [])))) (Sub.refl _ _) he69
      have hs1_0 := hs1_0.stp hst71
      have hs1_1 := hs1_1.stp hst71
      have hb2 := hb2.stp hst71
      have hb3 := hb3.stp hst71
      have hb7 := hb7.ext he69
      have hox20_1 := hox20_1.ext (Sub.refl _ _) he69
      have hox20_2 := hox20_2.ext (Sub.refl _ _) he69
      have hE72 := hE66.trans he69
      refine WO.dq rfl rfl rfl rfl (rn_loadBA (Bf.of hb7) Try.isAgg32 Try.sizeOf32 rfl rfl rfl) ?_
      refine WO.dq rfl rfl rfl rfl (rn_loadBA hb3 Try.isAgg27 Try.sizeOf27 rfl rfl rfl) ?_
      obtain ⟨x30, hx30, h⟩ := Option.bind_eq_some_iff.mp h
      refine WO.call rfl rfl rfl rfl rfl rfl Try.call12 (l_toRival_ok (M := ((b7 + 1) :: (nb ax20_1 :: (nb ax20_2 :: [])))) (hs1_0.toM (Ext.refl _)) (hs1_1.toM (Ext.refl _)) (le_cons (Nat.succ_le_of_lt hb7.lt) (le_cons hox20_1.nb_le (le_cons hox20_2.nb_le (le_nil _)))) hx30) ?_
      rintro _ w73 ⟨ax30_1, cx30_1, ax30_2, cx30_2, rfl, he74, hfx30_1, hfx30_2, hddx30_1x30_2, hox30_1, hox30_2⟩
      have hx75 := he74
      refine ⟨hx75.cw, ?_⟩
      have hFx30_1 : nb ax30_1 = 0 ∨ w.heap.size < nb ax30_1 := f_newO hE72 hfx30_1
      have hd_b7_x301 : (b7 + 1) = 0 ∨ (b7 + 1) ≠ nb ax30_1 := d_newO (Nat.succ_le_of_lt hb7.lt) hfx30_1
      have hd_x201_x301 : nb ax20_1 = 0 ∨ nb ax20_1 ≠ nb ax30_1 := d_newO hox20_1.nb_le hfx30_1
      have hd_x202_x301 : nb ax20_2 = 0 ∨ nb ax20_2 ≠ nb ax30_1 := d_newO hox20_2.nb_le hfx30_1
      have hFx30_2 : nb ax30_2 = 0 ∨ w.heap.size < nb ax30_2 := f_newO hE72 hfx30_2
      have hd_b7_x302 : (b7 + 1) = 0 ∨ (b7 + 1) ≠ nb ax30_2 := d_newO (Nat.succ_le_of_lt hb7.lt) hfx30_2
      have hd_x201_x302 : nb ax20_1 = 0 ∨ nb ax20_1 ≠ nb ax30_2 := d_newO hox20_1.nb_le hfx30_2
      have hd_x202_x302 : nb ax20_2 = 0 ∨ nb ax20_2 ≠ nb ax30_2 := d_newO hox20_2.nb_le hfx30_2
      have hd_x301_x302 := hddx30_1x30_2
      have hst76 := St.ext (M := ((b7 + 1) :: (nb ax20_1 :: (nb ax20_2 :: [])))) (Sub.newO hfx30_1 (Sub.newO hfx30_2 (Sub.refl _ _))) he74
      have hz77 := hst76
      have hs1_0 := hs1_0.stp hst76
      have hs1_1 := hs1_1.stp hst76
      have hb2 := hb2.stp hst76
      have hb3 := hb3.stp hst76
      have hb7 := hb7.ext he74
      have hox20_1 := hox20_1.ext (Sub.newO hfx30_1 (Sub.newO hfx30_2 (Sub.refl _ _))) he74
      have hox20_2 := hox20_2.ext (Sub.newO hfx30_1 (Sub.newO hfx30_2 (Sub.refl _ _))) he74
      have hE78 := hE72.trans he74
      obtain ⟨x31, hx31, h⟩ := Option.bind_eq_some_iff.mp h
      refine WO.call rfl rfl rfl rfl rfl rfl Try.call14 (l_eqRival_ok (hox20_1.read.toE (Ext.refl _)) (hox20_2.read.toE (Ext.refl _)) (hox30_1.read.toE (Ext.refl _)) (hox30_2.read.toE (Ext.refl _)) hx31) ?_
      rintro _ w79 ⟨rfl, he80⟩
      have hx81 := hx75.trans he80
      refine ⟨hx81.cw, ?_⟩
      have hst82 := St.ext (M := (nb ax30_1 :: (nb ax30_2 :: ((b7 + 1) :: (nb ax20_1 :: (nb ax20_2 :: [])))))) (Sub.refl _ _) he80
      have hz83 := hz77.trans hst82
      have hs1_0 := hs1_0.stp hst82
      have hs1_1 := hs1_1.stp hst82
      have hb2 := hb2.stp hst82
      have hb3 := hb3.stp hst82
      have hox30_1 := hox30_1.ext (Sub.refl _ _) he80
      have hox30_2 := hox30_2.ext (Sub.refl _ _) he80
      have hb7 := hb7.ext he80
      have hox20_1 := hox20_1.ext (Sub.refl _ _) he80
      have hox20_2 := hox20_2.ext (Sub.refl _ _) he80
      have hE84 := hE78.trans he80
      refine WO.sp rfl rfl rfl rfl (rn_not rfl rfl) ?_
      refine WO.nx ?_
      refine WO.fin ?_
      have hsb85 : Sb (nb ax30_1 :: (nb ax30_2 :: ((b7 + 1) :: (nb ax20_1 :: (nb ax20_2 :: []))))) [] := (Sb.drop (Sb.drop (Sb.drop (Sb.drop (Sb.drop (Sb.refl _))))))
      have hs1_0 := hs1_0.stp hsb85.st
      have hs1_1 := hs1_1.stp hsb85.st
      have hb2 := hb2.stp hsb85.st
      have hb3 := hb3.stp hsb85.st
      refine DN.seq ?_
      revert h
      cases ht86 : (!x31) with
      | true =>
        intro h
        simp only [cond_true, cond_false, Option.bind_some, Option.bind_assoc, lpK_ret, lpK_brk, lpK_nxt, aft_inl, aft_inr] at h
        refine WC.ct rfl ?_
        refine WC.seq ?_
        refine WC.regS [(0, 2)] rfl ?_
        refine WO.sp rfl rfl rfl rfl (rn_assign rfl rfl) ?_
        refine WO.fin ?_
        refine DN.seq ?_
        refine WC.ret ?_
        refine DN.retThen ?_
        refine DN.ret1 Try.results3 rfl ?_
        obtain rfl := Option.some.inj h
        exact ⟨rfl, hE84⟩
      | false =>
        intro h
        simp only [cond_true, cond_false, Option.bind_some, Option.bind_assoc, lpK_ret, lpK_brk, lpK_nxt, aft_inl, aft_inr] at h
        refine WC.cf rfl ?_
        refine WC.skip ?_
        refine DN.seq ?_
        refine WC.seq ?_
        refine WC.regS [(0, 2)] rfl ?_
        refine WO.sp rfl rfl rfl rfl (rn_assign rfl rfl) ?_
        refine WO.fin ?_
        refine DN.seq ?_
        refine WC.ret ?_
        refine DN.ret1 Try.results3 rfl ?_
        obtain rfl := Option.some.inj h
        exact ⟨rfl, hE84⟩

/- loop.example/g00869/spec.l31Literals -/
def s_l31Literals_b0 (p0 : (List Int)) (p1 : Int) (v5 : Int) (s1 : Unit) : Option (Bool ⊕ ((Unit) ⊕ (Unit))) :=
  Option.bind (idx p0 v5) fun x14 =>
  Option.bind (s_l1In x14 0 (IntKind.i64.wrap ((IntKind.i64.wrap (2 * p1)) - 1))) fun x19 =>
  bif (!x19) then
    some (.inl (false : Bool))
  else
    some (.inr (.inr ()))
def s_l31Literals (p0 : (List Int)) (p1 : Int) : Option (Bool) :=
  Option.bind (cntM (s_l31Literals_b0 p0 p1) p0.length 0 ()) fun q2 =>
  aft (fun r => some r) (fun s3 =>
    some (true : Bool)) q2

theorem s_l31Literals_ok {p0 : (List Int)} {a0 : Option Addr} {c0 : Nat} {p1 : Int} {w : World} (hs0 : Sl (Rp.int .i64) (Fz [] w) w a0 c0 p0) {r : Bool} (h : s_l31Literals p0 p1 = some r) : Ret Try.prog 45 [.slice a0 p0.length c0, .int .i64 p1] w (fun v w' => v = .bool r ∧ Ext w w') := by
  unfold s_l31Literals at h
  refine Ret.enter Try.func45 rfl Try.ntmps45 rfl ?_
  dsimp only [envOf]
  refine WC.seq ?_
  refine WC.regS [(0, 2)] rfl ?_
  refine WO.sp rfl rfl rfl rfl (rn_assign rfl rfl) ?_
  refine WO.fin ?_
  refine DN.seq ?_
  refine WC.seq ?_
  refine WC.seq ?_
  refine WC.regS [(0, 2)] rfl ?_
  refine WO.sp rfl rfl rfl rfl (rn_assign rfl rfl) ?_
  refine WO.fin ?_
  refine DN.seq ?_
  refine WC.block ?_
  obtain ⟨q1, hq1, hk1⟩ := Option.bind_eq_some_iff.mp h
  clear h
  refine WC.loop (fun k L w' => ∃ (v5 : Int), L = [(0, .slice a0 p0.length c0), (1, .int .i64 p1), (5, .int .i64 v5)] ∧ Ext w w' ∧ Sl (Rp.int .i64) (Fz [] w') w' a0 c0 p0 ∧ 0 ≤ v5 ∧ Int.toNat ((p0.length : Int) - v5) = k ∧ cntM (s_l31Literals_b0 p0 p1) k v5 () = some q1) ⟨_, _, ⟨0, rfl, (Ext.refl w), hs0, (by decide), (by simp), hq1⟩, fun a ha => (ha.more (ha.more (ha.more ha.nil rfl) rfl) rfl)⟩ ?_
  rintro k _ w2 ⟨v5, rfl, hE3, hs0, hj1, hJ1, h⟩
  rcases k with _ | k
  ·
    simp only [cntM] at h
    have hc1 : decide (v5 < (p0.length : Int)) = false := decide_eq_false (by omega)
    refine WC.seq ?_
    refine WC.seq ?_
    refine WC.regS [(0, 2), (1, 2), (2, 2), (3, 2)] rfl ?_
    refine WO.sp rfl rfl rfl rfl (rn_move rfl rfl) ?_
    refine WO.sp rfl rfl rfl rfl (rn_move rfl rfl) ?_
    refine WO.sp rfl rfl rfl rfl (rn_len Try.runUnderlying24 rfl rfl) ?_
    refine WO.sp rfl rfl rfl rfl (rn_lss rfl rfl rfl) ?_
    refine WO.fin ?_
    refine DN.seq ?_
    refine WC.cf' rfl hc1 ?_
    refine WC.exit ?_
    refine DN.exitThen ?_
    refine DN.exitThen ?_
    obtain rfl := Option.some.inj h
    have h := hk1
    simp only [cond_true, cond_false, Option.bind_some, Option.bind_assoc, lpK_ret, lpK_brk, lpK_nxt, aft_inl, aft_inr] at h
    refine DN.hit ?_
    refine DN.seq ?_
    refine WC.seq ?_
    refine WC.regS [(0, 2)] rfl ?_
    refine WO.sp rfl rfl rfl rfl (rn_assign rfl rfl) ?_
    refine WO.fin ?_
    refine DN.seq ?_
    refine WC.ret ?_
    refine DN.ret1 Try.results45 rfl ?_
    obtain rfl := Option.some.inj h
    exact ⟨rfl, hE3⟩
  ·
    simp only [cntM, s_l31Literals_b0, cond_true, cond_false, Option.bind_some, Option.bind_assoc, lpK_ret, lpK_brk, lpK_nxt, aft_inl, aft_inr] at h
    have hc1 : decide (v5 < (p0.length : Int)) = true := decide_eq_true (by omega)
    refine WC.seq ?_
    refine WC.seq ?_
    refine WC.regS [(0, 2), (1, 2), (2, 2), (3, 2)] rfl ?_
    refine WO.sp rfl rfl rfl rfl (rn_move rfl rfl) ?_
    refine WO.sp rfl rfl rfl rfl (rn_move rfl rfl) ?_
    refine WO.sp rfl rfl rfl rfl (rn_len Try.runUnderlying24 rfl rfl) ?_
    refine WO.sp rfl rfl rfl rfl (rn_lss rfl rfl rfl) ?_
    refine WO.fin ?_
    refine DN.seq ?_
    refine WC.ct' rfl hc1 ?_
    refine WC.skip ?_
    refine DN.seq ?_
    refine WC.seq ?_
    refine WC.block ?_
    refine WC.seq ?_
    refine WC.regS [(0, 2), (1, 2), (2, 2), (3, 1), (4, 2), (5, 2), (6, 2), (7, 1), (8, 2)] rfl ?_
    refine WO.sp rfl rfl rfl rfl (rn_move rfl rfl) ?_
    refine WO.sp rfl rfl rfl rfl (rn_move rfl rfl) ?_
    obtain ⟨x14, hx14, h⟩ := Option.bind_eq_some_iff.mp h
    refine WO.sp rfl rfl rfl rfl (rn_index hs0 hx14 Try.runUnderlying24 Try.sizeOf2 rfl rfl rfl rfl) ?_
    refine WO.sq trivial rfl rfl rfl rfl (rn_load Try.isAgg2 rfl rfl ((hs0).getInt hx14)) ?_
    refine WO.sp rfl rfl rfl rfl (rn_move rfl rfl) ?_
    refine WO.sp rfl rfl rfl rfl (rn_mul rfl rfl rfl) ?_
    refine WO.sp rfl rfl rfl rfl (rn_sub rfl rfl rfl) ?_
    obtain ⟨x19, hx19, h⟩ := Option.bind_eq_some_iff.mp h
    refine WO.call rfl rfl rfl rfl rfl rfl Try.call36 (s_l1In_ok  hx19) ?_
    rintro _ w4 ⟨rfl, he5⟩
    refine ⟨trivial, ?_⟩
    have hst6 := St.ext (M := []) (Sub.refl _ _) he5
    have hs0 := hs0.stp hst6
    have hE7 := hE3.trans he5
    refine WO.sp rfl rfl rfl rfl (rn_not rfl rfl) ?_
    refine WO.fin ?_
    refine DN.seq ?_
    revert h
    cases ht8 : (!x19) with
    | true =>
      intro h
      simp only [cond_true, cond_false, Option.bind_some, Option.bind_assoc, lpK_ret, lpK_brk, lpK_nxt, aft_inl, aft_inr] at h
      refine WC.ct rfl ?_
      refine WC.seq ?_
      refine WC.regS [(0, 2)] rfl ?_
      refine WO.sp rfl rfl rfl rfl (rn_assign rfl rfl) ?_
      refine WO.fin ?_
      refine DN.seq ?_
      refine WC.ret ?_
      refine DN.retBlock ?_
      refine DN.retThen ?_
      refine DN.retThen ?_
      obtain rfl := Option.some.inj h
      have h := hk1
      simp only [cond_true, cond_false, Option.bind_some, Option.bind_assoc, lpK_ret, lpK_brk, lpK_nxt, aft_inl, aft_inr] at h
      refine DN.retBlock ?_
      refine DN.retThen ?_
      refine DN.ret1 Try.results45 rfl ?_
      obtain rfl := Option.some.inj h
      exact ⟨rfl, hE7⟩
    | false =>
      intro h
      simp only [cond_true, cond_false, Option.bind_some, Option.bind_assoc, lpK_ret, lpK_brk, lpK_nxt, aft_inl, aft_inr] at h
      refine WC.cf rfl ?_
      refine WC.skip ?_
      refine DN.block ?_
      refine DN.seq ?_
      refine WC.regS [(0, 2), (1, 2), (2, 2)] rfl ?_
      refine WO.sp rfl rfl rfl rfl (rn_move rfl rfl) ?_
      refine WO.sp rfl rfl rfl rfl (rn_add rfl rfl rfl) ?_
      refine WO.sp rfl rfl rfl rfl (rn_assign rfl rfl) ?_
      refine WO.fin ?_
      have hw1 : IntKind.wrap .i64 (v5 + 1) = v5 + 1 := wr1 hj1 (of_decide_eq_true hc1) hs0.len_le
      rw [hw1]
      have hc1 := of_decide_eq_true hc1
      refine DN.round fun a ha => ?_
      exact ⟨k, _, Nat.lt_succ_self _, ⟨v5 + 1, rfl, hE7, hs0, by omega, by omega, h⟩, (ha.more (ha.more (ha.more ha.nil rfl) rfl) rfl)⟩

/- loop.example/g00869/spec.l31Signals -/
def s_l31Signals (p0 : Circuit) : Option (Int) :=
  some ((IntKind.i64.wrap ((IntKind.i64.wrap ((IntKind.i64.wrap (1 + p0.Inputs)) + p0.Latches)) + (p0.Gates.length : Int))) : Int)

theorem s_l31Signals_ok {p0 : Circuit} {a0_2 : Option Addr} {c0_2 : Nat} {a0_3 : Option Addr} {c0_3 : Nat} {a0_4 : Option Addr} {c0_4 : Nat} {w : World} (hs0_2 : Sl (Rp.int .i64) (Fz [] w) w a0_2 c0_2 p0.Next) (hs0_3 : Sl Gate.rp (Fz [] w) w a0_3 c0_3 p0.Gates) (hs0_4 : Sl (Rp.int .i64) (Fz [] w) w a0_4 c0_4 p0.Outs) {r : Int} (h : s_l31Signals p0 = some r) : Ret Try.prog 46 [.agg #[.int .i64 p0.Inputs, .int .i64 p0.Latches, .slice a0_2 p0.Next.length c0_2, .slice a0_3 p0.Gates.length c0_3, .slice a0_4 p0.Outs.length c0_4]] w (fun v w' => v = .int .i64 r ∧ Ext w w') := by
  unfold s_l31Signals at h
  refine Ret.enter Try.func46 rfl Try.ntmps46 rfl ?_
  dsimp only [envOf]
  refine WC.seq ?_
  refine WC.regS [(0, 1), (1, 2)] rfl ?_
  have hle1 : ∀ m, m ∈ [] → m ≤ w.heap.size := (le_nil _)
  refine WO.box rfl rfl rfl rfl rfl rfl rfl ?_
  intro b1 w1 he2 hbe1 hb1
  refine ⟨trivial, ?_⟩
  have hst3 := St.ext (M := []) (Sub.refl _ _) he2
  have hs0_2 := hs0_2.stp hst3
  have hs0_3 := hs0_3.stp hst3
  have hs0_4 := hs0_4.stp hst3
  have hE4 := he2
  have hb1 : Bf [] w1 b1 43 [.int .i64 p0.Inputs, .int .i64 p0.Latches, .slice a0_2 p0.Next.length c0_2, .slice a0_3 p0.Gates.length c0_3, .slice a0_4 p0.Outs.length c0_4] := ⟨hb1, hb1.lt, fun hm => by have := hle1 _ hm; omega⟩
  refine WO.sp rfl rfl rfl rfl (rn_assign rfl rfl) ?_
  refine WO.fin ?_
  refine DN.seq ?_
  refine WC.seq ?_
  refine WC.regS [(0, 2), (1, 1), (2, 2), (3, 2), (4, 1), (5, 2), (6, 2), (7, 1), (8, 2), (9, 2), (10, 2)] rfl ?_
  refine WO.sp rfl rfl rfl rfl (rn_fieldAddr Try.runUnderlying43 rfl Try.sizeOf2 rfl rfl) ?_
  refine WO.sq trivial rfl rfl rfl rfl (rn_loadB hb1 Try.isAgg2 rfl rfl rfl) ?_
  refine WO.sp rfl rfl rfl rfl (rn_add rfl rfl rfl) ?_
  refine WO.sp rfl rfl rfl rfl (rn_fieldAddr Try.runUnderlying43 rfl Try.sizeOf2 rfl rfl) ?_
  refine WO.sq trivial rfl rfl rfl rfl (rn_loadB hb1 Try.isAgg2 rfl rfl rfl) ?_
  refine WO.sp rfl rfl rfl rfl (rn_add rfl rfl rfl) ?_
  refine WO.sp rfl rfl rfl rfl (rn_fieldAddr Try.runUnderlying43 rfl Try.sizeOf41 rfl rfl) ?_
  refine WO.sq trivial rfl rfl rfl rfl (rn_loadB hb1 Try.isAgg41 rfl rfl rfl) ?_
  refine WO.sp rfl rfl rfl rfl (rn_len Try.runUnderlying41 rfl rfl) ?_
  refine WO.sp rfl rfl rfl rfl (rn_add rfl rfl rfl) ?_
  refine WO.sp rfl rfl rfl rfl (rn_assign rfl rfl) ?_
  refine WO.fin ?_
  refine DN.seq ?_
  refine WC.ret ?_
  refine DN.ret1 Try.results46 rfl ?_
  obtain rfl := Option.some.inj h
  exact ⟨rfl, hE4⟩

end Go.Proofs.Ytpmnpdphailagaa
