/- The functions on data, and the walks, part 1. By program. -/
import Derived.Test.YtpmnpdphailagaaFnsA0
set_option linter.unusedVariables false
set_option linter.unusedSimpArgs false
namespace Go.Proofs.Ytpmnpdphailagaa
open Go Go.Wk Go.Proofs
set_option maxRecDepth 100000
set_option maxHeartbeats 1000000

/- loop.example/g00869/spec.CircuitOk -/
def s_CircuitOk_b0 (p0 : Circuit) (v3 : Int) (s1 : Unit) : Option (Bool ⊕ ((Unit) ⊕ (Unit))) :=
  Option.bind (idx p0.Gates v3) fun x55 =>
  Option.bind (s_l1In x55.A 0 (IntKind.i64.wrap ((IntKind.i64.wrap (2 * (IntKind.i64.wrap ((IntKind.i64.wrap ((IntKind.i64.wrap (1 + p0.Inputs)) + p0.Latches)) + v3)))) - 1))) fun x59 =>
  Option.bind (bif (!x59) then
  some true
  else
  Option.bind (idx p0.Gates v3) fun x65 =>
  Option.bind (s_l1In x65.B 0 (IntKind.i64.wrap ((IntKind.i64.wrap (2 * (IntKind.i64.wrap ((IntKind.i64.wrap ((IntKind.i64.wrap (1 + p0.Inputs)) + p0.Latches)) + v3)))) - 1))) fun x69 =>
  some (!x69)) fun p71 =>
  bif p71 then
    some (.inl (false : Bool))
  else
    some (.inr (.inr ()))
def s_CircuitOk (p0 : Circuit) : Option (Bool) :=
  Option.bind (s_l1In p0.Inputs 0 4) fun x7 =>
  Option.bind (bif (!x7) then
  some true
  else
  Option.bind (s_l1In p0.Latches 0 6) fun x12 =>
  some (!x12)) fun p14 =>
  Option.bind (bif p14 then
  some true
  else
  some (decide (8000 < (p0.Gates.length : Int)))) fun p20 =>
  Option.bind (bif p20 then
  some true
  else
  some (decide (4 < (p0.Outs.length : Int)))) fun p26 =>
  Option.bind (bif p26 then
  some true
  else
  some ((p0.Next.length : Int) != p0.Latches)) fun p34 =>
  bif p34 then
    some (false : Bool)
  else
    Option.bind (cntM (s_CircuitOk_b0 p0) p0.Gates.length 0 ()) fun q2 =>
    aft (fun r => some r) (fun s3 =>
      Option.bind (s_l31Signals p0) fun x75 =>
      Option.bind (s_l31Literals p0.Next x75) fun x76 =>
      Option.bind (bif x76 then
      Option.bind (s_l31Signals p0) fun x81 =>
      Option.bind (s_l31Literals p0.Outs x81) fun x82 =>
      some x82
      else
      some false) fun p83 =>
      some (p83 : Bool)) q2

theorem s_CircuitOk_ok {p0 : Circuit} {a0_2 : Option Addr} {c0_2 : Nat} {a0_3 : Option Addr} {c0_3 : Nat} {a0_4 : Option Addr} {c0_4 : Nat} {w : World} (hs0_2 : Sl (Rp.int .i64) (Fz [] w) w a0_2 c0_2 p0.Next) (hs0_3 : Sl Gate.rp (Fz [] w) w a0_3 c0_3 p0.Gates) (hs0_4 : Sl (Rp.int .i64) (Fz [] w) w a0_4 c0_4 p0.Outs) {r : Bool} (h : s_CircuitOk p0 = some r) : Ret Try.prog 16 [.agg #[.int .i64 p0.Inputs, .int .i64 p0.Latches, .slice a0_2 p0.Next.length c0_2, .slice a0_3 p0.Gates.length c0_3, .slice a0_4 p0.Outs.length c0_4]] w (fun v w' => v = .bool r ∧ Ext w w') := by
  unfold s_CircuitOk at h
  refine Ret.enter Try.func16 rfl Try.ntmps16 rfl ?_
  dsimp only [envOf]
  refine WC.seq ?_
  refine WC.regS [(0, 1), (1, 2)] rfl ?_
  have hle1 : ∀ m, m ∈ [] → m ≤ w.heap.size := (le_nil _)
  refine WO.box rfl rfl rfl rfl rfl rfl rfl ?_
  intro b1 w1 he2 hbe1 hb1
  refine ⟨trivial, ?_⟩
  have hst3 := St.ext (M := []) (Sub.refl _ _) he2
  have hs0_2 := hs0_2.stp hst3
  have hs0_3 := hs0_3.stp hst3
  have hs0_4 := hs0_4.stp hst3
  have hE4 := he2
  have hb1 : Bf [] w1 b1 43 [.int .i64 p0.Inputs, .int .i64 p0.Latches, .slice a0_2 p0.Next.length c0_2, .slice a0_3 p0.Gates.length c0_3, .slice a0_4 p0.Outs.length c0_4] := ⟨hb1, hb1.lt, fun hm => by have := hle1 _ hm; omega⟩
  refine WO.sp rfl rfl rfl rfl (rn_assign rfl rfl) ?_
  refine WO.fin ?_
  refine DN.seq ?_
  refine WC.seq ?_
  refine WC.seq ?_
  refine WC.regS [(0, 2), (1, 1), (2, 1), (3, 2), (4, 2), (5, 2), (6, 1), (7, 1), (8, 2), (9, 2), (10, 2), (11, 2), (12, 1), (13, 2), (14, 2), (15, 2), (16, 2), (17, 2), (18, 1), (19, 2), (20, 2), (21, 2), (22, 2), (23, 2), (24, 1), (25, 2), (26, 2), (27, 1), (28, 2), (29, 2)] rfl ?_
  refine WO.sp rfl rfl rfl rfl (rn_fieldAddr Try.runUnderlying43 rfl Try.sizeOf2 rfl rfl) ?_
  refine WO.sq trivial rfl rfl rfl rfl (rn_loadB hb1 Try.isAgg2 rfl rfl rfl) ?_
  obtain ⟨x7, hx7, h⟩ := Option.bind_eq_some_iff.mp h
  refine WO.call rfl rfl rfl rfl rfl rfl Try.call36 (s_l1In_ok  hx7) ?_
  rintro _ w5 ⟨rfl, he6⟩
  refine ⟨trivial, ?_⟩
  have hst7 := St.ext (M := []) (Sub.refl _ _) he6
  have hs0_2 := hs0_2.stp hst7
  have hs0_3 := hs0_3.stp hst7
  have hs0_4 := hs0_4.stp hst7
  have hb1 := hb1.stp hst7
  have hE8 := hE4.trans he6
  refine WO.sp rfl rfl rfl rfl (rn_not rfl rfl) ?_
  refine WO.sp rfl rfl rfl rfl (rn_move rfl rfl) ?_
  revert h
  cases ht9 : (!x7) with
  | true =>
    intro h
    simp only [cond_true, cond_false, Option.bind_some, Option.bind_assoc, lpK_ret, lpK_brk, lpK_nxt, aft_inl, aft_inr] at h
    refine WO.ps rfl rfl rfl rfl ?_
    refine WO.ls rfl rfl rfl rfl ?_
    refine WO.ls rfl rfl rfl rfl ?_
    refine WO.ps rfl rfl rfl rfl ?_
    refine WO.sp rfl rfl rfl rfl (rn_pickT rfl rfl rfl) ?_
    refine WO.sp rfl rfl rfl rfl (rn_move rfl rfl) ?_
    refine WO.ps rfl rfl rfl rfl ?_
    refine WO.ls rfl rfl rfl rfl ?_
    refine WO.ps rfl rfl rfl rfl ?_
    refine WO.ps rfl rfl rfl rfl ?_
    refine WO.sp rfl rfl rfl rfl (rn_pickT rfl rfl rfl) ?_
    refine WO.sp rfl rfl rfl rfl (rn_move rfl rfl) ?_
    refine WO.ps rfl rfl rfl rfl ?_
    refine WO.ls rfl rfl rfl rfl ?_
    refine WO.ps rfl rfl rfl rfl ?_
    refine WO.ps rfl rfl rfl rfl ?_
    refine WO.sp rfl rfl rfl rfl (rn_pickT rfl rfl rfl) ?_
    refine WO.sp rfl rfl rfl rfl (rn_move rfl rfl) ?_
    refine WO.ps rfl rfl rfl rfl ?_
    refine WO.ls rfl rfl rfl rfl ?_
    refine WO.ps rfl rfl rfl rfl ?_
    refine WO.ps rfl rfl rfl rfl ?_
    refine WO.ls rfl rfl rfl rfl ?_
    refine WO.ps rfl rfl rfl rfl ?_
    refine WO.sp rfl rfl rfl rfl (rn_pickT rfl rfl rfl) ?_
    refine WO.fin ?_
    refine DN.seq ?_
    refine WC.ct rfl ?_
    refine WC.seq ?_
    refine WC.regS [(0, 2)] rfl ?_
    refine WO.sp rfl rfl rfl rfl (rn_assign rfl rfl) ?_
    refine WO.fin ?_
    refine DN.seq ?_
    refine WC.ret ?_
    refine DN.retThen ?_
    refine DN.ret1 Try.results16 rfl ?_
    obtain rfl := Option.some.inj h
    exact ⟨rfl, hE8⟩
  | false =>
    intro h
    simp only [cond_true, cond_false, Option.bind_some, Option.bind_assoc, lpK_ret, lpK_brk, lpK_nxt, aft_inl, aft_inr] at h
    refine WO.sp rfl rfl rfl rfl (rn_fieldAddr Try.runUnderlying43 rfl Try.sizeOf2 rfl rfl) ?_
    refine WO.sq trivial rfl rfl rfl rfl (rn_loadB hb1 Try.isAgg2 rfl rfl rfl) ?_
    obtain ⟨x12, hx12, h⟩ := Option.bind_eq_some_iff.mp h
    refine WO.call rfl rfl rfl rfl rfl rfl Try.call36 (s_l1In_ok  hx12) ?_
    rintro _ w10 ⟨rfl, he11⟩
    refine ⟨trivial, ?_⟩
    have hst12 := St.ext (M := []) (Sub.refl _ _) he11
    have hs0_2 := hs0_2.stp hst12
    have hs0_3 := hs0_3.stp hst12
    have hs0_4 := hs0_4.stp hst12
    have hb1 := hb1.stp hst12
    have hE13 := hE8.trans he11
    refine WO.sp rfl rfl rfl rfl (rn_not rfl rfl) ?_
    refine WO.sp rfl rfl rfl rfl (rn_pickF rfl rfl rfl) ?_
    refine WO.sp rfl rfl rfl rfl (rn_move rfl rfl) ?_
    revert h
    cases ht14 : (!x12) with
    | true =>
      intro h
      simp only [cond_true, cond_false, Option.bind_some, Option.bind_assoc, lpK_ret, lpK_brk, lpK_nxt, aft_inl, aft_inr] at h
      refine WO.ps rfl rfl rfl rfl ?_
      refine WO.ls rfl rfl rfl rfl ?_
      refine WO.ps rfl rfl rfl rfl ?_
      refine WO.ps rfl rfl rfl rfl ?_
      refine WO.sp rfl rfl rfl rfl (rn_pickT rfl rfl rfl) ?_
      refine WO.sp rfl rfl rfl rfl (rn_move rfl rfl) ?_
      refine WO.ps rfl rfl rfl rfl ?_
      refine WO.ls rfl rfl rfl rfl ?_
      refine WO.ps rfl rfl rfl rfl ?_
      refine WO.ps rfl rfl rfl rfl ?_
      refine WO.sp rfl rfl rfl rfl (rn_pickT rfl rfl rfl) ?_
      refine WO.sp rfl rfl rfl rfl (rn_move rfl rfl) ?_
      refine WO.ps rfl rfl rfl rfl ?_
      refine WO.ls rfl rfl rfl rfl ?_
      refine WO.ps rfl rfl rfl rfl ?_
      refine WO.ps rfl rfl rfl rfl ?_
      refine WO.ls rfl rfl rfl rfl ?_
      refine WO.ps rfl rfl rfl rfl ?_
      refine WO.sp rfl rfl rfl rfl (rn_pickT rfl rfl rfl) ?_
      refine WO.fin ?_
      refine DN.seq ?_
      refine WC.ct rfl ?_
      refine WC.seq ?_
      refine WC.regS [(0, 2)] rfl ?_
      refine WO.sp rfl rfl rfl rfl (rn_assign rfl rfl) ?_
      refine WO.fin ?_
      refine DN.seq ?_
      refine WC.ret ?_
      refine DN.retThen ?_
      refine DN.ret1 Try.results16 rfl ?_
      obtain rfl := Option.some.inj h
      exact ⟨rfl, hE13⟩
    | false =>
      intro h
      simp only [cond_true, cond_false, Option.bind_some, Option.bind_assoc, lpK_ret, lpK_brk, lpK_nxt, aft_inl, aft_inr] at h
      refine WO.sp rfl rfl rfl rfl (rn_fieldAddr Try.runUnderlying43 rfl Try.sizeOf41 rfl rfl) ?_
      refine WO.sq trivial rfl rfl rfl rfl (rn_loadB hb1 Try.isAgg41 rfl rfl rfl) ?_
      refine WO.sp rfl rfl rfl rfl (rn_len Try.runUnderlying41 rfl rfl) ?_
      refine WO.sp rfl rfl rfl rfl (rn_gtr rfl rfl rfl) ?_
      refine WO.sp rfl rfl rfl rfl (rn_pickF rfl rfl rfl) ?_
      refine WO.sp rfl rfl rfl rfl (rn_move rfl rfl) ?_
      revert h
      cases ht15 : decide (8000 < (p0.Gates.length : Int)) with
      | true =>
        intro h
        simp only [cond_true, cond_false, Option.bind_some, Option.bind_assoc, lpK_ret, lpK_brk, lpK_nxt, aft_inl, aft_inr] at h
        refine WO.ps rfl rfl rfl rfl ?_
        refine WO.ls rfl rfl rfl rfl ?_
        refine WO.ps rfl rfl rfl rfl ?_
        refine WO.ps rfl rfl rfl rfl ?_
        refine WO.sp rfl rfl rfl rfl (rn_pickT rfl rfl rfl) ?_
        refine WO.sp rfl rfl rfl rfl (rn_move rfl rfl) ?_
        refine WO.ps rfl rfl rfl rfl ?_
        refine WO.ls rfl rfl rfl rfl ?_
        refine WO.ps rfl rfl rfl rfl ?_
        refine WO.ps rfl rfl rfl rfl ?_
        refine WO.ls rfl rfl rfl rfl ?_
        refine WO.ps rfl rfl rfl rfl ?_
        refine WO.sp rfl rfl rfl rfl (rn_pickT rfl rfl rfl) ?_
        refine WO.fin ?_
        refine DN.seq ?_
        refine WC.ct rfl ?_
        refine WC.seq ?_
        refine WC.regS [(0, 2)] rfl ?_
        refine WO.sp rfl rfl rfl rfl (rn_assign rfl rfl) ?_
        refine WO.fin ?_
        refine DN.seq ?_
        refine WC.ret ?_
        refine DN.retThen ?_
        refine DN.ret1 Try.results16 rfl ?_
        obtain rfl := Option.some.inj h
        exact ⟨rfl, hE13⟩
      | false =>
        intro h
        simp only [cond_true, cond_false, Option.bind_some, Option.bind_assoc, lpK_ret, lpK_brk, lpK_nxt, aft_inl, aft_inr] at h
        refine WO.sp rfl rfl rfl rfl (rn_fieldAddr Try.runUnderlying43 rfl Try.sizeOf24 rfl rfl) ?_
        refine WO.sq trivial rfl rfl rfl rfl (rn_loadB hb1 Try.isAgg24 rfl rfl rfl) ?_
        refine WO.sp rfl rfl rfl rfl (rn_len Try.runUnderlying24 rfl rfl) ?_
        refine WO.sp rfl rfl rfl rfl (rn_gtr rfl rfl rfl) ?_
        refine WO.sp rfl rfl rfl rfl (rn_pickF rfl rfl rfl) ?_
        refine WO.sp rfl rfl rfl rfl (rn_move rfl rfl) ?_
        revert h
        cases ht16 : decide (4 < (p0.Outs.length : Int)) with
        | true =>
          intro h
          simp only [cond_true, cond_false, Option.bind_some, Option.bind_assoc, lpK_ret, lpK_brk, lpK_nxt, aft_inl, aft_inr] at h
          refine WO.ps rfl rfl rfl rfl ?_
          refine WO.ls rfl rfl rfl rfl ?_
          refine WO.ps rfl rfl rfl rfl ?_
          refine WO.ps rfl rfl rfl rfl ?_
          refine WO.ls rfl rfl rfl rfl ?_
          refine WO.ps rfl rfl rfl rfl ?_
          refine WO.sp rfl rfl rfl rfl (rn_pickT rfl rfl rfl) ?_
          refine WO.fin ?_
          refine DN.seq ?_
          refine WC.ct rfl ?_
          refine WC.seq ?_
          refine WC.regS [(0, 2)] rfl ?_
          refine WO.sp rfl rfl rfl rfl (rn_assign rfl rfl) ?_
          refine WO.fin ?_
          refine DN.seq ?_
          refine WC.ret ?_
          refine DN.retThen ?_
          refine DN.ret1 Try.results16 rfl ?_
          obtain rfl := Option.some.inj h
          exact ⟨rfl, hE13⟩
        | false =>
          intro h
          simp only [cond_true, cond_false, Option.bind_some, Option.bind_assoc, lpK_ret, lpK_brk, lpK_nxt, aft_inl, aft_inr] at h
          refine WO.sp rfl rfl rfl rfl (rn_fieldAddr Try.runUnderlying43 rfl Try.sizeOf24 rfl rfl) ?_
          refine WO.sq trivial rfl rfl rfl rfl (rn_loadB hb1 Try.isAgg24 rfl rfl rfl) ?_
          refine WO.sp rfl rfl rfl rfl (rn_len Try.runUnderlying24 rfl rfl) ?_
          refine WO.sp rfl rfl rfl rfl (rn_fieldAddr Try.runUnderlying43 rfl Try.sizeOf2 rfl rfl) ?_
          refine WO.sq trivial rfl rfl rfl rfl (rn_loadB hb1 Try.isAgg2 rfl rfl rfl) ?_
          refine WO.sp rfl rfl rfl rfl (rn_neq rfl rfl rfl) ?_
          refine WO.sp rfl rfl rfl rfl (rn_pickF rfl rfl rfl) ?_
          refine WO.fin ?_
          refine DN.seq ?_
          revert h
          cases ht17 : ((p0.Next.length : Int) != p0.Latches) with
          | true =>
            intro h
            simp only [cond_true, cond_false, Option.bind_some, Option.bind_assoc, lpK_ret, lpK_brk, lpK_nxt, aft_inl, aft_inr] at h
            refine WC.ct rfl ?_
            refine WC.seq ?_
            refine WC.regS [(0, 2)] rfl ?_
            refine WO.sp rfl rfl rfl rfl (rn_assign rfl rfl) ?_
            refine WO.fin ?_
            refine DN.seq ?_
            refine WC.ret ?_
            refine DN.retThen ?_
            refine DN.ret1 Try.results16 rfl ?_
            obtain rfl := Option.some.inj h
            exact ⟨rfl, hE13⟩
          | false =>
            intro h
            simp only [cond_true, cond_false, Option.bind_some, Option.bind_assoc, lpK_ret, lpK_brk, lpK_nxt, aft_inl, aft_inr] at h
            refine WC.cf rfl ?_
            refine WC.skip ?_
            refine DN.seq ?_
            refine WC.seq ?_
            refine WC.seq ?_
            refine WC.regS [(0, 2)] rfl ?_
            refine WO.sp rfl rfl rfl rfl (rn_assign rfl rfl) ?_
            refine WO.fin ?_
            refine DN.seq ?_
            refine WC.block ?_
            obtain ⟨q18, hq18, hk18⟩ := Option.bind_eq_some_iff.mp h
            clear h
            refine WC.loop (fun k L w' => ∃ (v3 : Int), L = [(1, .pointer (some ⟨b1, 0, none⟩)), (3, .int .i64 v3)] ∧ Ext w w' ∧ Sl (Rp.int .i64) (Fz [] w') w' a0_2 c0_2 p0.Next ∧ Sl Gate.rp (Fz [] w') w' a0_3 c0_3 p0.Gates ∧ Sl (Rp.int .i64) (Fz [] w') w' a0_4 c0_4 p0.Outs ∧ Bf [] w' b1 43 [.int .i64 p0.Inputs, .int .i64 p0.Latches, .slice a0_2 p0.Next.length c0_2, .slice a0_3 p0.Gates.length c0_3, .slice a0_4 p0.Outs.length c0_4] ∧ 0 ≤ v3 ∧ Int.toNat ((p0.Gates.length : Int) - v3) = k ∧ cntM (s_CircuitOk_b0 p0) k v3 () = some q18) ⟨_, _, ⟨0, rfl, hE13, hs0_2, hs0_3, hs0_4, hb1, (by decide), (by simp), hq18⟩, fun a ha => (ha.more (ha.more ha.nil rfl) rfl)⟩ ?_
            rintro k _ w19 ⟨v3, rfl, hE20, hs0_2, hs0_3, hs0_4, hb1, hj18, hJ18, h⟩
            rcases k with _ | k
            ·
              simp only [cntM] at h
              have hc18 : decide (v3 < (p0.Gates.length : Int)) = false := decide_eq_false (by omega)
              refine WC.seq ?_
              refine WC.seq ?_
              refine WC.regS [(0, 2), (1, 2), (2, 1), (3, 2), (4, 2)] rfl ?_
              refine WO.sp rfl rfl rfl rfl (rn_move rfl rfl) ?_
              refine WO.sp rfl rfl rfl rfl (rn_fieldAddr Try.runUnderlying43 rfl Try.sizeOf41 rfl rfl) ?_
              refine WO.sq trivial rfl rfl rfl rfl (rn_loadB hb1 Try.isAgg41 rfl rfl rfl) ?_
              refine WO.sp rfl rfl rfl rfl (rn_len Try.runUnderlying41 rfl rfl) ?_
              refine WO.sp rfl rfl rfl rfl (rn_lss rfl rfl rfl) ?_
              refine WO.fin ?_
              refine DN.seq ?_
              refine WC.cf' rfl hc18 ?_
              refine WC.exit ?_
              refine DN.exitThen ?_
              refine DN.exitThen ?_
              obtain rfl := Option.some.inj h
              have h := hk18
              simp only [cond_true, cond_false, Option.bind_some, Option.bind_assoc, lpK_ret, lpK_brk, lpK_nxt, aft_inl, aft_inr] at h
              refine DN.hit ?_
              refine DN.seq ?_
              refine WC.seq ?_
              refine WC.regX none [(0, 2), (1, 0), (2, 0), (3, 1), (4, 1), (5, 2), (6, 2), (7, 0), (8, 0), (9, 1), (10, 1), (11, 2), (12, 2)] [] (by kernel_rfl) (by kernel_rfl) fun w21 he22 hh23 => ?_
              have hst24 := St.ext (M := []) (Sub.refl _ _) he22
              have hs0_2 := hs0_2.stp hst24
              have hs0_3 := hs0_3.stp hst24
              have hs0_4 := hs0_4.stp hst24
              have hb1 := hb1.stp hst24
              have hE25 := hE20.trans he22
              have z_hs0_2 := hs0_2
              have z_hs0_3 := hs0_3
              have z_hs0_4 := hs0_4
              have z_hb1 := hb1
              refine WO.sp rfl rfl rfl rfl (rn_fieldAddr Try.runUnderlying43 rfl Try.sizeOf24 rfl rfl) ?_
              refine WO.dq rfl rfl rfl rfl (rn_loadB hb1 Try.isAgg24 rfl rfl rfl) ?_
              refine WO.dq rfl rfl rfl rfl (rn_loadBA hb1 Try.isAgg43 Try.sizeOf43 rfl rfl rfl) ?_
              obtain ⟨x75, hx75, h⟩ := Option.bind_eq_some_iff.mp h
              refine WO.call rfl rfl rfl rfl rfl rfl Try.call46 (s_l31Signals_ok (hs0_2.toE (Ext.refl _)) (hs0_3.toE (Ext.refl _)) (hs0_4.toE (Ext.refl _)) hx75) ?_
              rintro _ w26 ⟨rfl, he27⟩
              have hx28 := he27
              refine ⟨hx28.cw, ?_⟩
              have hst29 := St.ext (M := []) (Sub.refl _ _) he27
              have hz30 := hst29
              have hs0_2 := hs0_2.stp hst29
              have hs0_3 := hs0_3.stp hst29
              have hs0_4 := hs0_4.stp hst29
              have hb1 := hb1.stp hst29
              have hE31 := hE25.trans he27
              obtain ⟨x76, hx76, h⟩ := Option.bind_eq_some_iff.mp h
              refine WO.call rfl rfl rfl rfl rfl rfl Try.call45 (s_l31Literals_ok (hs0_2.toE (Ext.refl _)) hx76) ?_
              rintro _ w32 ⟨rfl, he33⟩
              have hx34 := hx28.trans he33
              refine ⟨hx34.cw, ?_⟩
              have hst35 := St.ext (M := []) (Sub.refl _ _) he33
              have hz36 := hz30.trans hst35
              have hs0_2 := hs0_2.stp hst35
              have hs0_3 := hs0_3.stp hst35
              have hs0_4 := hs0_4.stp hst35
              have hb1 := hb1.stp hst35
              have hE37 := hE31.trans he33
              refine WO.sp rfl rfl rfl rfl (rn_move rfl rfl) ?_
              revert h
              cases ht38 : x76 with
              | true =>
                intro h
                simp only [cond_true, cond_false, Option.bind_some, Option.bind_assoc, lpK_ret, lpK_brk, lpK_nxt, aft_inl, aft_inr] at h
                refine WO.sp rfl rfl rfl rfl (rn_fieldAddr Try.runUnderlying43 rfl Try.sizeOf24 rfl rfl) ?_
                refine WO.dq rfl rfl rfl rfl (rn_loadB z_hb1 Try.isAgg24 rfl rfl rfl) ?_
                refine WO.dq rfl rfl rfl rfl (rn_loadBA z_hb1 Try.isAgg43 Try.sizeOf43 rfl rfl rfl) ?_
                obtain ⟨x81, hx81, h⟩ := Option.bind_eq_some_iff.mp h
                refine WO.call rfl rfl rfl rfl rfl rfl Try.call46 (s_l31Signals_ok (hs0_2.toE (Ext.refl _)) (hs0_3.toE (Ext.refl _)) (hs0_4.toE (Ext.refl _)) hx81) ?_
                rintro _ w39 ⟨rfl, he40⟩
                have hx41 := hx34.trans he40
                refine ⟨hx41.cw, ?_⟩
                have hst42 := St.ext (M := []) (Sub.refl _ _) he40
                have hz43 := hz36.trans hst42
                have hs0_2 := hs0_2.stp hst42
                have hs0_3 := hs0_3.stp hst42
                have hs0_4 := hs0_4.stp hst42
                have hb1 := hb1.stp hst42
                have hE44 := hE37.trans he40
                obtain ⟨x82, hx82, h⟩ := Option.bind_eq_some_iff.mp h
                refine WO.call rfl rfl rfl rfl rfl rfl Try.call45 (s_l31Literals_ok (hs0_4.toE (Ext.refl _)) hx82) ?_
                rintro _ w45 ⟨rfl, he46⟩
                have hx47 := hx41.trans he46
                refine ⟨hx47.cw, ?_⟩
                have hst48 := St.ext (M := []) (Sub.refl _ _) he46
                have hz49 := hz43.trans hst48
                have hs0_2 := hs0_2.stp hst48
                have hs0_3 := hs0_3.stp hst48
                have hs0_4 := hs0_4.stp hst48
                have hb1 := hb1.stp hst48
                have hE50 := hE44.trans he46
                refine WO.sp rfl rfl rfl rfl (rn_pickT rfl rfl rfl) ?_
                refine WO.sp rfl rfl rfl rfl (rn_assign rfl rfl) ?_
                refine WO.nx ?_
                refine WO.fin ?_
                refine DN.seq ?_
                refine WC.ret ?_
                refine DN.ret1 Try.results16 rfl ?_
                obtain rfl := Option.some.inj h
                exact ⟨rfl, hE50⟩
              | false =>
                intro h
                simp only [cond_true, cond_false, Option.bind_some, Option.bind_assoc, lpK_ret, lpK_brk, lpK_nxt, aft_inl, aft_inr] at h
                refine WO.ps rfl rfl rfl rfl ?_
                refine WO.qs rfl rfl rfl rfl ?_
                refine WO.qs rfl rfl rfl rfl ?_
                refine WO.ls rfl rfl rfl rfl ?_
                refine WO.ls rfl rfl rfl rfl ?_
                refine WO.sp rfl rfl rfl rfl (rn_pickF rfl rfl rfl) ?_
                refine WO.sp rfl rfl rfl rfl (rn_assign rfl rfl) ?_
                refine WO.nx ?_
                refine WO.fin ?_
                refine DN.seq ?_
                refine WC.ret ?_
                refine DN.ret1 Try.results16 rfl ?_
                obtain rfl := Option.some.inj h
                exact ⟨rfl, hE37⟩
            ·
              simp only [cntM, s_CircuitOk_b0, cond_true, cond_false, Option.bind_some, Option.bind_assoc, lpK_ret, lpK_brk, lpK_nxt, aft_inl, aft_inr] at h
              have hc18 : decide (v3 < (p0.Gates.length : Int)) = true := decide_eq_true (by omega)
              refine WC.seq ?_
              refine WC.seq ?_
              refine WC.regS [(0, 2), (1, 2), (2, 1), (3, 2), (4, 2)] rfl ?_
              refine WO.sp rfl rfl rfl rfl (rn_move rfl rfl) ?_
              refine WO.sp rfl rfl rfl rfl (rn_fieldAddr Try.runUnderlying43 rfl Try.sizeOf41 rfl rfl) ?_
              refine WO.sq trivial rfl rfl rfl rfl (rn_loadB hb1 Try.isAgg41 rfl rfl rfl) ?_
              refine WO.sp rfl rfl rfl rfl (rn_len Try.runUnderlying41 rfl rfl) ?_
              refine WO.sp rfl rfl rfl rfl (rn_lss rfl rfl rfl) ?_
              refine WO.fin ?_
              refine DN.seq ?_
              refine WC.ct' rfl hc18 ?_
              refine WC.skip ?_
              refine DN.seq ?_
              refine WC.seq ?_
              refine WC.block ?_
              refine WC.seq ?_
              refine WC.regS [(0, 2), (1, 1), (2, 2), (3, 2), (4, 1), (5, 2), (6, 2), (7, 2), (8, 2), (9, 2), (10, 2)] rfl ?_
              refine WO.sp rfl rfl rfl rfl (rn_fieldAddr Try.runUnderlying43 rfl Try.sizeOf2 rfl rfl) ?_
              refine WO.sq trivial rfl rfl rfl rfl (rn_loadB hb1 Try.isAgg2 rfl rfl rfl) ?_
              refine WO.sp rfl rfl rfl rfl (rn_add rfl rfl rfl) ?_
              refine WO.sp rfl rfl rfl rfl (rn_fieldAddr Try.runUnderlying43 rfl Try.sizeOf2 rfl rfl) ?_
              refine WO.sq trivial rfl rfl rfl rfl (rn_loadB hb1 Try.isAgg2 rfl rfl rfl) ?_
              refine WO.sp rfl rfl rfl rfl (rn_add rfl rfl rfl) ?_
              refine WO.sp rfl rfl rfl rfl (rn_move rfl rfl) ?_
              refine WO.sp rfl rfl rfl rfl (rn_add rfl rfl rfl) ?_
              refine WO.sp rfl rfl rfl rfl (rn_mul rfl rfl rfl) ?_
              refine WO.sp rfl rfl rfl rfl (rn_sub rfl rfl rfl) ?_
              refine WO.sp rfl rfl rfl rfl (rn_assign rfl rfl) ?_
              refine WO.fin ?_
              refine DN.seq ?_
              refine WC.seq ?_
              refine WC.regS [(0, 2), (1, 1), (2, 2), (3, 2), (4, 2), (5, 1), (6, 2), (7, 1), (8, 2), (9, 2), (10, 2), (11, 1), (12, 2), (13, 2), (14, 2), (15, 1), (16, 2), (17, 1), (18, 2), (19, 2)] rfl ?_
              refine WO.sp rfl rfl rfl rfl (rn_fieldAddr Try.runUnderlying43 rfl Try.sizeOf41 rfl rfl) ?_
              refine WO.sq trivial rfl rfl rfl rfl (rn_loadB hb1 Try.isAgg41 rfl rfl rfl) ?_
              refine WO.sp rfl rfl rfl rfl (rn_move rfl rfl) ?_
              obtain ⟨x55, hx55, h⟩ := Option.bind_eq_some_iff.mp h
              refine WO.sp rfl rfl rfl rfl (rn_index hs0_3 hx55 Try.runUnderlying41 Try.sizeOf68 rfl rfl rfl rfl) ?_
              refine WO.sp rfl rfl rfl rfl (rn_fieldAddr Try.runUnderlying68 rfl Try.sizeOf2 rfl rfl) ?_
              obtain ⟨csx55, hrx55, hlx55⟩ := (hs0_3).get hx55
              obtain rfl := Gate.un hrx55
              refine WO.sq trivial rfl rfl rfl rfl (rn_load Try.isAgg2 rfl rfl fun w' hw' => hlx55 w' hw' 0 _ rfl) ?_
              refine WO.sp rfl rfl rfl rfl (rn_move rfl rfl) ?_
              obtain ⟨x59, hx59, h⟩ := Option.bind_eq_some_iff.mp h
              refine WO.call rfl rfl rfl rfl rfl rfl Try.call36 (s_l1In_ok  hx59) ?_
              rintro _ w51 ⟨rfl, he52⟩
              refine ⟨trivial, ?_⟩
              have hst53 := St.ext (M := []) (Sub.refl _ _) he52
              have hs0_2 := hs0_2.stp hst53
              have hs0_3 := hs0_3.stp hst53
              have hs0_4 := hs0_4.stp hst53
              have hb1 := hb1.stp hst53
              have hE54 := hE20.trans he52
              refine WO.sp rfl rfl rfl rfl (rn_not rfl rfl) ?_
              refine WO.sp rfl rfl rfl rfl (rn_move rfl rfl) ?_
              revert h
              cases ht55 : (!x59) with
              | true =>
                intro h
                simp only [cond_true, cond_false, Option.bind_some, Option.bind_assoc, lpK_ret, lpK_brk, lpK_nxt, aft_inl, aft_inr] at h
                refine WO.ps rfl rfl rfl rfl ?_
                refine WO.ls rfl rfl rfl rfl ?_
                refine WO.ps rfl rfl rfl rfl ?_
                refine WO.ps rfl rfl rfl rfl ?_
                refine WO.ps rfl rfl rfl rfl ?_
                refine WO.ls rfl rfl rfl rfl ?_
                refine WO.ps rfl rfl rfl rfl ?_
                refine WO.ls rfl rfl rfl rfl ?_
                refine WO.ps rfl rfl rfl rfl ?_
                refine WO.sp rfl rfl rfl rfl (rn_pickT rfl rfl rfl) ?_
                refine WO.fin ?_
                refine DN.seq ?_
                refine WC.ct rfl ?_
                refine WC.seq ?_
                refine WC.regS [(0, 2)] rfl ?_
                refine WO.sp rfl rfl rfl rfl (rn_assign rfl rfl) ?_
                refine WO.fin ?_
                refine DN.seq ?_
                refine WC.ret ?_
                refine DN.retBlock ?_
                refine DN.retThen ?_
                refine DN.retThen ?_
                obtain rfl := Option.some.inj h
                have h := hk18
                simp only [cond_true, cond_false, Option.bind_some, Option.bind_assoc, lpK_ret, lpK_brk, lpK_nxt, aft_inl, aft_inr] at h
                refine DN.retBlock ?_
                refine DN.retThen ?_
                refine DN.ret1 Try.results16 rfl ?_
                obtain rfl := Option.some.inj h
                exact ⟨rfl, hE54⟩
              | false =>
                intro h
                simp only [cond_true, cond_false, Option.bind_some, Option.bind_assoc, lpK_ret, lpK_brk, lpK_nxt, aft_inl, aft_inr] at h
                refine WO.sp rfl rfl rfl rfl (rn_fieldAddr Try.runUnderlying43 rfl Try.sizeOf41 rfl rfl) ?_
                refine WO.sq trivial rfl rfl rfl rfl (rn_loadB hb1 Try.isAgg41 rfl rfl rfl) ?_
                refine WO.sp rfl rfl rfl rfl (rn_move rfl rfl) ?_
                obtain ⟨x65, hx65, h⟩ := Option.bind_eq_some_iff.mp h
                refine WO.sp rfl rfl rfl rfl (rn_index hs0_3 hx65 Try.runUnderlying41 Try.sizeOf68 rfl rfl rfl rfl) ?_
                refine WO.sp rfl rfl rfl rfl (rn_fieldAddr Try.runUnderlying68 rfl Try.sizeOf2 rfl rfl) ?_
                obtain ⟨csx65, hrx65, hlx65⟩ := (hs0_3).get hx65
                obtain rfl := Gate.un hrx65
                refine WO.sq trivial rfl rfl rfl rfl (rn_load Try.isAgg2 rfl rfl fun w' hw' => hlx65 w' hw' 1 _ rfl) ?_
                refine WO.sp rfl rfl rfl rfl (rn_move rfl rfl) ?_
                obtain ⟨x69, hx69, h⟩ := Option.bind_eq_some_iff.mp h
                refine WO.call rfl rfl rfl rfl rfl rfl Try.call36 (s_l1In_ok  hx69) ?_
                rintro _ w56 ⟨rfl, he57⟩
                refine ⟨trivial, ?_⟩
                have hst58 := St.ext (M := []) (Sub.refl _ _) he57
                have hs0_2 := hs0_2.stp hst58
                have hs0_3 := hs0_3.stp hst58
                have hs0_4 := hs0_4.stp hst58
                have hb1 := hb1.stp hst58
                have hE59 := hE54.trans he57
                refine WO.sp rfl rfl rfl rfl (rn_not rfl rfl) ?_
                refine WO.sp rfl rfl rfl rfl (rn_pickF rfl rfl rfl) ?_
                refine WO.fin ?_
                refine DN.seq ?_
                revert h
                cases ht60 : (!x69) with
                | true =>
                  intro h
                  simp only [cond_true, cond_false, Option.bind_some, Option.bind_assoc, lpK_ret, lpK_brk, lpK_nxt, aft_inl, aft_inr] at h
                  refine WC.ct rfl ?_
                  refine WC.seq ?_
                  refine WC.regS [(0, 2)] rfl ?_
                  refine WO.sp rfl rfl rfl rfl (rn_assign rfl rfl) ?_
                  refine WO.fin ?_
                  refine DN.seq ?_
                  refine WC.ret ?_
                  refine DN.retBlock ?_
                  refine DN.retThen ?_
                  refine DN.retThen ?_
                  obtain rfl := Option.some.inj h
                  have h := hk18
                  simp only [cond_true, cond_false, Option.bind_some, Option.bind_assoc, lpK_ret, lpK_brk, lpK_nxt, aft_inl, aft_inr] at h
                  refine DN.retBlock ?_
                  refine DN.retThen ?_
                  refine DN.ret1 Try.results16 rfl ?_
                  obtain rfl := Option.some.inj h
                  exact ⟨rfl, hE59⟩
                | false =>
                  intro h
                  simp only [cond_true, cond_false, Option.bind_some, Option.bind_assoc, lpK_ret, lpK_brk, lpK_nxt, aft_inl, aft_inr] at h
                  refine WC.cf rfl ?_
                  refine WC.skip ?_
                  refine DN.block ?_
                  refine DN.seq ?_
                  refine WC.regS [(0, 2), (1, 2), (2, 2)] rfl ?_
                  refine WO.sp rfl rfl rfl rfl (rn_move rfl rfl) ?_
                  refine WO.sp rfl rfl rfl rfl (rn_add rfl rfl rfl) ?_
                  refine WO.sp rfl rfl rfl rfl (rn_assign rfl rfl) ?_
                  refine WO.fin ?_
                  have hw18 : IntKind.wrap .i64 (v3 + 1) = v3 + 1 := wr1 hj18 (of_decide_eq_true hc18) hs0_3.len_le
                  rw [hw18]
                  have hc18 := of_decide_eq_true hc18
                  refine DN.round fun a ha => ?_
                  exact ⟨k, _, Nat.lt_succ_self _, ⟨v3 + 1, rfl, hE59, hs0_2, hs0_3, hs0_4, hb1, by omega, by omega, h⟩, (ha.more (ha.more ha.nil rfl) rfl)⟩

/- loop.example/g00869/laws.toGate -/
def l_toGate (p0 : Gate) : Option (Gate) :=
  some (⟨p0.A, p0.B⟩ : Gate)

theorem l_toGate_ok {p0 : Gate} {w : World}  {r : Gate} (h : l_toGate p0 = some r) : Ret Try.prog 62 [.agg #[.int .i64 p0.A, .int .i64 p0.B]] w (fun v w' => v = .agg #[.int .i64 r.A, .int .i64 r.B] ∧ Ext w w') := by
  unfold l_toGate at h
  refine Ret.enter Try.func62 rfl Try.ntmps62 rfl ?_
  dsimp only [envOf]
  refine WC.seq ?_
  refine WC.regS [(0, 1), (1, 1)] rfl ?_
  have hle1 : ∀ m, m ∈ [] → m ≤ w.heap.size := (le_nil _)
  refine WO.box rfl rfl rfl rfl rfl rfl rfl ?_
  intro b1 w1 he2 hbe1 hb1
  refine ⟨trivial, ?_⟩
  have hst3 := St.ext (M := []) (Sub.refl _ _) he2
  have hE4 := he2
  have hb1 : Bf [] w1 b1 75 [.int .i64 p0.A, .int .i64 p0.B] := ⟨hb1, hb1.lt, fun hm => by have := hle1 _ hm; omega⟩
  refine WO.alloc rfl rfl rfl rfl rfl Try.zeroValue68 rfl ?_
  intro b2 w5 he6 hbe2 hb2
  refine ⟨trivial, ?_⟩
  have hn2 : w1.heap.size < b2 + 1 := by omega
  have hF2 : (b2 + 1) = 0 ∨ w.heap.size < (b2 + 1) := f_new hE4 hn2
  have hst7 := St.ext (M := []) (Sub.new hn2 (Sub.refl _ _)) he6
  have hb1 := hb1.stp hst7
  have hE8 := hE4.trans he6
  refine WO.fin ?_
  refine DN.seq ?_
  refine WC.seq ?_
  refine WC.regS [(0, 1)] rfl ?_
  refine WO.alloc rfl rfl rfl rfl rfl Try.zeroValue68 rfl ?_
  intro b3 w9 he10 hbe3 hb3
  refine ⟨trivial, ?_⟩
  have hn3 : w5.heap.size < b3 + 1 := by omega
  have hd_b2_b3 : (b2 + 1) = 0 ∨ (b2 + 1) ≠ (b3 + 1) := d_new (Nat.succ_le_of_lt hb2.lt) hn3
  have hF3 : (b3 + 1) = 0 ∨ w.heap.size < (b3 + 1) := f_new hE8 hn3
  have hst11 := St.ext (M := ((b2 + 1) :: [])) (Sub.new hn3 (Sub.refl _ _)) he10
  have hb1 := hb1.stp hst11
  have hb2 := hb2.ext he10
  have hE12 := hE8.trans he10
  refine WO.fin ?_
  refine DN.seq ?_
  refine WC.seq ?_
  refine WC.regS [(0, 2), (1, 1), (2, 2), (3, 1)] rfl ?_
  refine WO.sp rfl rfl rfl rfl (rn_fieldAddr Try.runUnderlying75 rfl Try.sizeOf2 rfl rfl) ?_
  refine WO.sq trivial rfl rfl rfl rfl (rn_loadB hb1 Try.isAgg2 rfl rfl rfl) ?_
  refine WO.sp rfl rfl rfl rfl (rn_fieldAddr Try.runUnderlying68 rfl Try.sizeOf2 rfl rfl) ?_
  refine WO.stB (vc := [.int .i64 p0.A]) rfl rfl rfl rfl rfl rfl rfl Try.sizeOf2 rfl (by intro u hu; simp only [List.mem_cons, List.not_mem_nil, or_false] at hu; rcases hu with rfl <;> rfl) hb3 rfl rfl ?_
  intro w13 ht14 hb3
  refine ⟨trivial, ?_⟩
  have hst15 := Tch.st (M := ((b3 + 1) :: ((b2 + 1) :: []))) ht14 (.inr (.head _)) (Sub.refl _ _)
  have hb1 := hb1.stp hst15
  have hb2 := hb2.tch ht14 (d_ne hd_b2_b3)
  have hE16 := ht14.ext hE12 hF3
  refine WO.fin ?_
  refine DN.seq ?_
  refine WC.seq ?_
  refine WC.regS [(0, 2), (1, 1), (2, 2), (3, 1)] rfl ?_
  refine WO.sp rfl rfl rfl rfl (rn_fieldAddr Try.runUnderlying75 rfl Try.sizeOf2 rfl rfl) ?_
  refine WO.sq trivial rfl rfl rfl rfl (rn_loadB hb1 Try.isAgg2 rfl rfl rfl) ?_
  refine WO.sp rfl rfl rfl rfl (rn_fieldAddr Try.runUnderlying68 rfl Try.sizeOf2 rfl rfl) ?_
  refine WO.stB (vc := [.int .i64 p0.B]) rfl rfl rfl rfl rfl rfl rfl Try.sizeOf2 rfl (by intro u hu; simp only [List.mem_cons, List.not_mem_nil, or_false] at hu; rcases hu with rfl <;> rfl) hb3 rfl rfl ?_
  intro w17 ht18 hb3
  refine ⟨trivial, ?_⟩
  have hst19 := Tch.st (M := ((b3 + 1) :: ((b2 + 1) :: []))) ht18 (.inr (.head _)) (Sub.refl _ _)
  have hb1 := hb1.stp hst19
  have hb2 := hb2.tch ht18 (d_ne hd_b2_b3)
  have hE20 := ht18.ext hE16 hF3
  refine WO.fin ?_
  refine DN.seq ?_
  refine WC.seq ?_
  refine WC.regS [(0, 1), (1, 1)] rfl ?_
  refine WO.sq trivial rfl rfl rfl rfl (rn_loadBA (Bf.of hb3) Try.isAgg68 Try.sizeOf68 rfl rfl rfl) ?_
  refine WO.stB0 (vc := [.int .i64 p0.A, .int .i64 p0.B]) rfl rfl rfl rfl rfl rfl rfl Try.sizeOf68 rfl (by intro u hu; simp only [List.mem_cons, List.not_mem_nil, or_false] at hu; rcases hu with rfl | rfl <;> rfl) hb2 rfl ?_
  intro w21 ht22 hb2
  refine ⟨trivial, ?_⟩
  have hst23 := Tch.st (M := ((b3 + 1) :: ((b2 + 1) :: []))) ht22 (.inr (.tail _ (.head _))) (Sub.refl _ _)
  have hb1 := hb1.stp hst23
  have hb3 := hb3.tch ht22 (d_ne (d_sym hd_b2_b3))
  have hE24 := ht22.ext hE20 hF2
  refine WO.fin ?_
  refine DN.seq ?_
  refine WC.ret ?_
  refine DN.retC Try.results62 rfl hb2 Try.isAgg68 Try.sizeOf68 rfl ?_
  obtain rfl := Option.some.inj h
  exact ⟨rfl, hE24⟩

/- loop.example/g00869/laws.toGateS -/
def l_toGateS_b0 (p0 : (List Gate)) (v4 : Int) (s1 : (List Gate)) : Option ((List Gate) ⊕ (((List Gate)) ⊕ ((List Gate)))) :=
  Option.bind (idx p0 v4) fun x18 =>
  Option.bind (l_toGate x18) fun x20 =>
  Option.bind (idx s1 v4) fun x21 =>
  Option.bind (setI s1 v4 x20) fun y0 =>
  some (.inr (.inr (y0 : (List Gate))))
def l_toGateS (p0 : (List Gate)) : Option ((List Gate)) :=
  Option.bind (mkS 16 (p0.length : Int) (⟨0, 0⟩ : Gate)) fun x7 =>
  Option.bind (cntM (l_toGateS_b0 p0) p0.length 0 (x7 : (List Gate))) fun q2 =>
  aft (fun r => some r) (fun s3 =>
    some (s3 : (List Gate))) q2

theorem l_toGateS_ok {p0 : (List Gate)} {a0 : Option Addr} {c0 : Nat} {M : List Nat} {w : World} (hs0 : Sl Gate.rp (Fz M w) w a0 c0 p0) (hM : ∀ m, m ∈ M → m ≤ w.heap.size) {r : (List Gate)} (h : l_toGateS p0 = some r) : Ret Try.prog 47 [.slice a0 p0.length c0] w (fun v w' => ∃ (ra1 : Option Addr) (rc1 : Nat), v = .slice ra1 r.length rc1 ∧ Ext w w' ∧ (nb ra1 = 0 ∨ w.heap.size < nb ra1) ∧ Ow Gate.rp 68 (Fz (nb ra1 :: M) w') w' ra1 rc1 r) := by
  unfold l_toGateS at h
  refine Ret.enter Try.func47 rfl Try.ntmps47 rfl ?_
  dsimp only [envOf]
  refine WC.seq ?_
  refine WC.regS [(0, 2)] rfl ?_
  refine WO.sp rfl rfl rfl rfl (rn_assign rfl rfl) ?_
  refine WO.fin ?_
  refine DN.seq ?_
  refine WC.seq ?_
  refine WC.regS [(0, 2), (1, 2), (2, 1), (3, 2)] rfl ?_
  refine WO.sp rfl rfl rfl rfl (rn_move rfl rfl) ?_
  refine WO.sp rfl rfl rfl rfl (rn_len Try.runUnderlying36 rfl rfl) ?_
  obtain ⟨x7, hx7, h⟩ := Option.bind_eq_some_iff.mp h
  refine WO.make (E := Gate.rp) (M := M) rfl rfl rfl rfl rfl rfl Try.underlying41 Tryinfo68 rfl rfl rfl rfl (by decide) (fun _ _ => Gate.mk_rel (x := ⟨0, 0⟩) ) hx7 ?_
  intro a7 c7 w1 he2 hn7 ho7
  refine ⟨trivial, ?_⟩
  have hF7 : nb a7 = 0 ∨ w.heap.size < nb a7 := f_new (Ext.refl w) hn7
  have hst3 := St.ext (M := M) (Sub.new hn7 (Sub.refl _ _)) he2
  have hs0 := hs0.stp hst3
  have hE4 := he2
  refine WO.sp rfl rfl rfl rfl (rn_assign rfl rfl) ?_
  refine WO.fin ?_
  refine DN.seq ?_
  refine WC.seq ?_
  refine WC.seq ?_
  refine WC.regS [(0, 2)] rfl ?_
  refine WO.sp rfl rfl rfl rfl (rn_assign rfl rfl) ?_
  refine WO.fin ?_
  refine DN.seq ?_
  refine WC.block ?_
  obtain ⟨q5, hq5, hk5⟩ := Option.bind_eq_some_iff.mp h
  clear h
  refine WC.loop (fun k L w' => ∃ (v3 : List Gate), ∃ (la3 : Option Addr), ∃ (lc3 : Nat), ∃ (v4 : Int), L = [(0, .slice a0 p0.length c0), (3, .slice la3 v3.length lc3), (4, .int .i64 v4)] ∧ Ext w w' ∧ Sl Gate.rp (Fz (nb la3 :: M) w') w' a0 c0 p0 ∧ Ow Gate.rp 68 (Fz (nb la3 :: M) w') w' la3 lc3 v3 ∧ (nb la3 = 0 ∨ w.heap.size < nb la3) ∧ 0 ≤ v4 ∧ Int.toNat ((p0.length : Int) - v4) = k ∧ cntM (l_toGateS_b0 p0) k v4 (v3 : (List Gate)) = some q5) ⟨_, _, ⟨x7, a7, c7, 0, rfl, hE4, hs0, ho7, hF7, (by decide), (by simp), hq5⟩, fun a ha => (ha.more (ha.more (ha.more ha.nil rfl) rfl) rfl)⟩ ?_
  rintro k _ w6 ⟨v3, la3, lc3, v4, rfl, hE7, hs0, lo3, lF3, hj5, hJ5, h⟩
  rcases k with _ | k
  ·
    simp only [cntM] at h
    have hc5 : decide (v4 < (p0.length : Int)) = false := decide_eq_false (by omega)
    refine WC.seq ?_
    refine WC.seq ?_
    refine WC.regS [(0, 2), (1, 2), (2, 2), (3, 2)] rfl ?_
    refine WO.sp rfl rfl rfl rfl (rn_move rfl rfl) ?_
    refine WO.sp rfl rfl rfl rfl (rn_move rfl rfl) ?_
    refine WO.sp rfl rfl rfl rfl (rn_len Try.runUnderlying36 rfl rfl) ?_
    refine WO.sp rfl rfl rfl rfl (rn_lss rfl rfl rfl) ?_
    refine WO.fin ?_
    refine DN.seq ?_
    refine WC.cf' rfl hc5 ?_
    refine WC.exit ?_
    refine DN.exitThen ?_
    refine DN.exitThen ?_
    obtain rfl := Option.some.inj h
    have h := hk5
    simp only [cond_true, cond_false, Option.bind_some, Option.bind_assoc, lpK_ret, lpK_brk, lpK_nxt, aft_inl, aft_inr] at h
    refine DN.hit ?_
    refine DN.seq ?_
    refine WC.seq ?_
    refine WC.regS [(0, 2), (1, 2)] rfl ?_
    refine WO.sp rfl rfl rfl rfl (rn_move rfl rfl) ?_
    refine WO.sp rfl rfl rfl rfl (rn_assign rfl rfl) ?_
    refine WO.fin ?_
    refine DN.seq ?_
    refine WC.ret ?_
    refine DN.ret1 Try.results47 rfl ?_
    obtain rfl := Option.some.inj h
    exact ⟨la3, lc3, rfl, hE7, lF3, (lo3.sbz (by intro x hx h0; simp only [List.mem_cons, nb] at *; first | (rcases hx with h | h; all_goals (first | (simp_all; done) | omega)) | simp_all))⟩
  ·
    simp only [cntM, l_toGateS_b0, cond_true, cond_false, Option.bind_some, Option.bind_assoc, lpK_ret, lpK_brk, lpK_nxt, aft_inl, aft_inr] at h
    have hc5 : decide (v4 < (p0.length : Int)) = true := decide_eq_true (by omega)
    refine WC.seq ?_
    refine WC.seq ?_
    refine WC.regS [(0, 2), (1, 2), (2, 2), (3, 2)] rfl ?_
    refine WO.sp rfl rfl rfl rfl (rn_move rfl rfl) ?_
    refine WO.sp rfl rfl rfl rfl (rn_move rfl rfl) ?_
    refine WO.sp rfl rfl rfl rfl (rn_len Try.runUnderlying36 rfl rfl) ?_
    refine WO.sp rfl rfl rfl rfl (rn_lss rfl rfl rfl) ?_
    refine WO.fin ?_
    refine DN.seq ?_
    refine WC.ct' rfl hc5 ?_
    refine WC.skip ?_
    refine DN.seq ?_
    refine WC.seq ?_
    refine WC.block ?_
    refine WC.regS [(0, 2), (1, 2), (2, 2), (3, 2), (4, 2), (5, 1), (6, 1), (7, 2), (8, 1)] rfl ?_
    refine WO.sp rfl rfl rfl rfl (rn_move rfl rfl) ?_
    refine WO.sp rfl rfl rfl rfl (rn_move rfl rfl) ?_
    refine WO.sp rfl rfl rfl rfl (rn_move rfl rfl) ?_
    refine WO.sp rfl rfl rfl rfl (rn_move rfl rfl) ?_
    obtain ⟨x18, hx18, h⟩ := Option.bind_eq_some_iff.mp h
    refine WO.sp rfl rfl rfl rfl (rn_index hs0 hx18 Try.runUnderlying36 Try.sizeOf75 rfl rfl rfl rfl) ?_
    obtain ⟨csx18, hrx18, hlx18⟩ := (hs0).get hx18
    obtain rfl := Gate.un hrx18
    refine WO.sq trivial rfl rfl rfl rfl (rn_loadAgg Try.isAgg75 Try.sizeOf75 rfl rfl hlx18 rfl) ?_
    obtain ⟨x20, hx20, h⟩ := Option.bind_eq_some_iff.mp h
    refine WO.call rfl rfl rfl rfl rfl rfl Try.call62 (l_toGate_ok  hx20) ?_
    rintro _ w8 ⟨rfl, he9⟩
    refine ⟨trivial, ?_⟩
    have hst10 := St.ext (M := (nb la3 :: M)) (Sub.refl _ _) he9
    have hs0 := hs0.stp hst10
    have lo3 := lo3.ext (Sub.refl _ _) he9
    have hE11 := hE7.trans he9
    obtain ⟨x21, hx21, h⟩ := Option.bind_eq_some_iff.mp h
    refine WO.sp rfl rfl rfl rfl (rn_index lo3.read hx21 Try.runUnderlying41 Try.sizeOf68 rfl rfl rfl rfl) ?_
    obtain ⟨y0, hy0, h⟩ := Option.bind_eq_some_iff.mp h
    have hlny0 := (setI_ok hy0).2.2.2
    refine WO.stI (E := Gate.rp) (M := (nb la3 :: M)) rfl rfl rfl rfl rfl rfl rfl rfl Try.sizeOf68 rfl (Gate.mk_rel ) lo3 (.inr (.head _)) hy0 ?_
    intro w12 ht13 lo3
    refine ⟨trivial, ?_⟩
    have hst14 := Tch.st (M := (nb la3 :: M)) ht13 (.inr (.head _)) (Sub.refl _ _)
    have hs0 := hs0.stp hst14
    have hE15 := ht13.ext hE11 lF3
    try rw [← hlny0]
    refine WO.fin ?_
    refine DN.block ?_
    refine DN.seq ?_
    refine WC.regS [(0, 2), (1, 2), (2, 2)] rfl ?_
    refine WO.sp rfl rfl rfl rfl (rn_move rfl rfl) ?_
    refine WO.sp rfl rfl rfl rfl (rn_add rfl rfl rfl) ?_
    refine WO.sp rfl rfl rfl rfl (rn_assign rfl rfl) ?_
    refine WO.fin ?_
    have hw5 : IntKind.wrap .i64 (v4 + 1) = v4 + 1 := wr1 hj5 (of_decide_eq_true hc5) hs0.len_le
    rw [hw5]
    have hc5 := of_decide_eq_true hc5
    refine DN.round fun a ha => ?_
    exact ⟨k, _, Nat.lt_succ_self _, ⟨y0, la3, lc3, v4 + 1, rfl, hE15, hs0, lo3, lF3, by omega, by omega, h⟩, (ha.more (ha.more (ha.more ha.nil rfl) rfl) rfl)⟩

/- loop.example/g00869/laws.toCircuit -/
def l_toCircuit (p0 : Circuit) : Option (Circuit) :=
  Option.bind (l_toInt64S p0.Next) fun x12 =>
  Option.bind (l_toGateS p0.Gates) fun x16 =>
  Option.bind (l_toInt64S p0.Outs) fun x20 =>
  some (⟨p0.Inputs, p0.Latches, x12, x16, x20⟩ : Circuit)

theorem l_toCircuit_ok {p0 : Circuit} {a0_2 : Option Addr} {c0_2 : Nat} {a0_3 : Option Addr} {c0_3 : Nat} {a0_4 : Option Addr} {c0_4 : Nat} {M : List Nat} {w : World} (hs0_2 : Sl (Rp.int .i64) (Fz M w) w a0_2 c0_2 p0.Next) (hs0_3 : Sl Gate.rp (Fz M w) w a0_3 c0_3 p0.Gates) (hs0_4 : Sl (Rp.int .i64) (Fz M w) w a0_4 c0_4 p0.Outs) (hM : ∀ m, m ∈ M → m ≤ w.heap.size) {r : Circuit} (h : l_toCircuit p0 = some r) : Ret Try.prog 17 [.agg #[.int .i64 p0.Inputs, .int .i64 p0.Latches, .slice a0_2 p0.Next.length c0_2, .slice a0_3 p0.Gates.length c0_3, .slice a0_4 p0.Outs.length c0_4]] w (fun v w' => ∃ (ra1 : Option Addr) (rc1 : Nat), ∃ (ra2 : Option Addr) (rc2 : Nat), ∃ (ra3 : Option Addr) (rc3 : Nat), v = .agg #[.int .i64 r.Inputs, .int .i64 r.Latches, .slice ra1 r.Next.length rc1, .slice ra2 r.Gates.length rc2, .slice ra3 r.Outs.length rc3] ∧ Ext w w' ∧ (nb ra1 = 0 ∨ w.heap.size < nb ra1) ∧ (nb ra2 = 0 ∨ w.heap.size < nb ra2) ∧ (nb ra3 = 0 ∨ w.heap.size < nb ra3) ∧ (nb ra1 = 0 ∨ nb ra1 ≠ nb ra2) ∧ (nb ra1 = 0 ∨ nb ra1 ≠ nb ra3) ∧ (nb ra2 = 0 ∨ nb ra2 ≠ nb ra3) ∧ Ow (Rp.int .i64) 2 (Fz (nb ra1 :: (nb ra2 :: (nb ra3 :: M))) w') w' ra1 rc1 r.Next ∧ Ow Gate.rp 68 (Fz (nb ra1 :: (nb ra2 :: (nb ra3 :: M))) w') w' ra2 rc2 r.Gates ∧ Ow (Rp.int .i64) 2 (Fz (nb ra1 :: (nb ra2 :: (nb ra3 :: M))) w') w' ra3 rc3 r.Outs) := by
  unfold l_toCircuit at h
  refine Ret.enter Try.func17 rfl Try.ntmps17 rfl ?_
  dsimp only [envOf]
  refine WC.seq ?_
  refine WC.regS [(0, 1), (1, 1)] rfl ?_
  have hle1 : ∀ m, m ∈ M → m ≤ w.heap.size := (le_base hM (Ext.refl w))
  refine WO.box rfl rfl rfl rfl rfl rfl rfl ?_
  intro b1 w1 he2 hbe1 hb1
  refine ⟨trivial, ?_⟩
  have hst3 := St.ext (M := M) (Sub.refl _ _) he2
  have hs0_2 := hs0_2.stp hst3
  have hs0_3 := hs0_3.stp hst3
  have hs0_4 := hs0_4.stp hst3
  have hE4 := he2
  have hb1 : Bf M w1 b1 38 [.int .i64 p0.Inputs, .int .i64 p0.Latches, .slice a0_2 p0.Next.length c0_2, .slice a0_3 p0.Gates.length c0_3, .slice a0_4 p0.Outs.length c0_4] := ⟨hb1, hb1.lt, fun hm => by have := hle1 _ hm; omega⟩
  refine WO.alloc rfl rfl rfl rfl rfl Try.zeroValue43 rfl ?_
  intro b2 w5 he6 hbe2 hb2
  refine ⟨trivial, ?_⟩
  have hn2 : w1.heap.size < b2 + 1 := by omega
  have hF2 : (b2 + 1) = 0 ∨ w.heap.size < (b2 + 1) := f_new hE4 hn2
  have hst7 := St.ext (M := M) (Sub.new hn2 (Sub.refl _ _)) he6
  have hs0_2 := hs0_2.stp hst7
  have hs0_3 := hs0_3.stp hst7
  have hs0_4 := hs0_4.stp hst7
  have hb1 := hb1.stp hst7
  have hE8 := hE4.trans he6
  refine WO.fin ?_
  refine DN.seq ?_
  refine WC.seq ?_
  refine WC.regS [(0, 1)] rfl ?_
  refine WO.alloc rfl rfl rfl rfl rfl Try.zeroValue43 rfl ?_
  intro b3 w9 he10 hbe3 hb3
  refine ⟨trivial, ?_⟩
  have hn3 : w5.heap.size < b3 + 1 := by omega
  have hd_b2_b3 : (b2 + 1) = 0 ∨ (b2 + 1) ≠ (b3 + 1) := d_new (Nat.succ_le_of_lt hb2.lt) hn3
  have hF3 : (b3 + 1) = 0 ∨ w.heap.size < (b3 + 1) := f_new hE8 hn3
  have hst11 := St.ext (M := ((b2 + 1) :: M)) (Sub.new hn3 (Sub.refl _ _)) he10
  have hs0_2 := hs0_2.stp hst11
  have hs0_3 := hs0_3.stp hst11
  have hs0_4 := hs0_4.stp hst11
  have hb1 := hb1.stp hst11
  have hb2 := hb2.ext he10
  have hE12 := hE8.trans he10
  refine WO.fin ?_
  refine DN.seq ?_
  refine WC.seq ?_
  refine WC.regS [(0, 2), (1, 1), (2, 2), (3, 1)] rfl ?_
  refine WO.sp rfl rfl rfl rfl (rn_fieldAddr Try.runUnderlying38 rfl Try.sizeOf2 rfl rfl) ?_
  refine WO.sq trivial rfl rfl rfl rfl (rn_loadB hb1 Try.isAgg2 rfl rfl rfl) ?_
  refine WO.sp rfl rfl rfl rfl (rn_fieldAddr Try.runUnderlying43 rfl Try.sizeOf2 rfl rfl) ?_
  refine WO.stB (vc := [.int .i64 p0.Inputs]) rfl rfl rfl rfl rfl rfl rfl Try.sizeOf2 rfl (by intro u hu; simp only [List.mem_cons, List.not_mem_nil, or_false] at hu; rcases hu with rfl <;> rfl) hb3 rfl rfl ?_
  intro w13 ht14 hb3
  refine ⟨trivial, ?_⟩
  have hst15 := Tch.st (M := ((b3 + 1) :: ((b2 + 1) :: M))) ht14 (.inr (.head _)) (Sub.refl _ _)
  have hs0_2 := hs0_2.stp hst15
  have hs0_3 := hs0_3.stp hst15
  have hs0_4 := hs0_4.stp hst15
  have hb1 := hb1.stp hst15
  have hb2 := hb2.tch ht14 (d_ne hd_b2_b3)
  have hE16 := ht14.ext hE12 hF3
  refine WO.fin ?_
  refine DN.seq ?_
  refine WC.seq ?_
  refine WC.regS [(0, 2), (1, 1), (2, 2), (3, 1)] rfl ?_
  refine WO.sp rfl rfl rfl rfl (rn_fieldAddr Try.runUnderlying38 rfl Try.sizeOf2 rfl rfl) ?_
  refine WO.sq trivial rfl rfl rfl rfl (rn_loadB hb1 Try.isAgg2 rfl rfl rfl) ?_
  refine WO.sp rfl rfl rfl rfl (rn_fieldAddr Try.runUnderlying43 rfl Try.sizeOf2 rfl rfl) ?_
  refine WO.stB (vc := [.int .i64 p0.Latches]) rfl rfl rfl rfl rfl rfl rfl Try.sizeOf2 rfl (by intro u hu; simp only [List.mem_cons, List.not_mem_nil, or_false] at hu; rcases hu with rfl <;> rfl) hb3 rfl rfl ?_
  intro w17 ht18 hb3
  refine ⟨trivial, ?_⟩
  have hst19 := Tch.st (M := ((b3 + 1) :: ((b2 + 1) :: M))) ht18 (.inr (.head _)) (Sub.refl _ _)
  have hs0_2 := hs0_2.stp hst19
  have hs0_3 := hs0_3.stp hst19
  have hs0_4 := hs0_4.stp hst19
  have hb1 := hb1.stp hst19
  have hb2 := hb2.tch ht18 (d_ne hd_b2_b3)
  have hE20 := ht18.ext hE16 hF3
  refine WO.fin ?_
  refine DN.seq ?_
  refine WC.seq ?_
  refine WC.regS [(0, 2), (1, 1), (2, 1), (3, 2), (4, 1)] rfl ?_
  refine WO.sp rfl rfl rfl rfl (rn_fieldAddr Try.runUnderlying38 rfl Try.sizeOf24 rfl rfl) ?_
  refine WO.sq trivial rfl rfl rfl rfl (rn_loadB hb1 Try.isAgg24 rfl rfl rfl) ?_
  obtain ⟨x12, hx12, h⟩ := Option.bind_eq_some_iff.mp h
  refine WO.call rfl rfl rfl rfl rfl rfl Try.call25 (l_toInt64S_ok (M := ((b3 + 1) :: ((b2 + 1) :: M))) (hs0_2.toM (Ext.refl _)) (le_cons (Nat.succ_le_of_lt hb3.lt) (le_cons (Nat.succ_le_of_lt hb2.lt) (le_base hM hE20))) hx12) ?_
  rintro _ w21 ⟨ax12_1, cx12_1, rfl, he22, hfx12_1, hox12_1⟩
  refine ⟨trivial, ?_⟩
  have hFx12_1 : nb ax12_1 = 0 ∨ w.heap.size < nb ax12_1 := f_newO hE20 hfx12_1
  have hd_b3_x121 : (b3 + 1) = 0 ∨ (b3 + 1) ≠ nb ax12_1 := d_newO (Nat.succ_le_of_lt hb3.lt) hfx12_1
  have hd_b2_x121 : (b2 + 1) = 0 ∨ (b2 + 1) ≠ nb ax12_1 := d_newO (Nat.succ_le_of_lt hb2.lt) hfx12_1
  have hst23 := St.ext (M := ((b3 + 1) :: ((b2 + 1) :: M))) (Sub.newO hfx12_1 (Sub.refl _ _)) he22
  have hs0_2 := hs0_2.stp hst23
  have hs0_3 := hs0_3.stp hst23
  have hs0_4 := hs0_4.stp hst23
  have hb1 := hb1.stp hst23
  have hb3 := hb3.ext he22
  have hb2 := hb2.ext he22
  have hE24 := hE20.trans he22
  refine WO.sp rfl rfl rfl rfl (rn_fieldAddr Try.runUnderlying43 rfl Try.sizeOf24 rfl rfl) ?_
  refine WO.stB (vc := [.slice ax12_1 x12.length cx12_1]) rfl rfl rfl rfl rfl rfl rfl Try.sizeOf24 rfl (by intro u hu; simp only [List.mem_cons, List.not_mem_nil, or_false] at hu; rcases hu with rfl <;> rfl) hb3 rfl rfl ?_
  intro w25 ht26 hb3
  refine ⟨trivial, ?_⟩
  have hst27 := Tch.st (M := (nb ax12_1 :: ((b3 + 1) :: ((b2 + 1) :: M)))) ht26 (.inr (.tail _ (.head _))) (Sub.refl _ _)
  have hs0_2 := hs0_2.stp hst27
  have hs0_3 := hs0_3.stp hst27
  have hs0_4 := hs0_4.stp hst27
  have hb1 := hb1.stp hst27
  have hox12_1 := hox12_1.tch ht26 (.inr (.tail _ (.head _))) (Sub.refl _ _) (d_sym hd_b3_x121)
  have hb2 := hb2.tch ht26 (d_ne hd_b2_b3)
  have hE28 := ht26.ext hE24 hF3
  refine WO.fin ?_
  refine DN.seq ?_
  refine WC.seq ?_
  refine WC.regS [(0, 2), (1, 1), (2, 1), (3, 2), (4, 1)] rfl ?_
  refine WO.sp rfl rfl rfl rfl (rn_fieldAddr Try.runUnderlying38 rfl Try.sizeOf36 rfl rfl) ?_
  refine WO.sq trivial rfl rfl rfl rfl (rn_loadB hb1 Try.isAgg36 rfl rfl rfl) ?_
  obtain ⟨x16, hx16, h⟩ := Option.bind_eq_some_iff.mp h
  refine WO.call rfl rfl rfl rfl rfl rfl Try.call47 (l_toGateS_ok (M := (nb ax12_1 :: ((b3 + 1) :: ((b2 + 1) :: M)))) (hs0_3.toM (Ext.refl _)) (le_cons hox12_1.nb_le (le_cons (Nat.succ_le_of_lt hb3.lt) (le_cons (Nat.succ_le_of_lt hb2.lt) (le_base hM hE28)))) hx16) ?_
  rintro _ w29 ⟨ax16_1, cx16_1, rfl, he30, hfx16_1, hox16_1⟩
  refine ⟨trivial, ?_⟩
  have hFx16_1 : nb ax16_1 = 0 ∨ w.heap.size < nb ax16_1 := f_newO hE28 hfx16_1
  have hd_x121_x161 : nb ax12_1 = 0 ∨ nb ax12_1 ≠ nb ax16_1 := d_newO hox12_1.nb_le hfx16_1
  have hd_b3_x161 : (b3 + 1) = 0 ∨ (b3 + 1) ≠ nb ax16_1 := d_newO (Nat.succ_le_of_lt hb3.lt) hfx16_1
  have hd_b2_x161 : (b2 + 1) = 0 ∨ (b2 + 1) ≠ nb ax16_1 := d_newO (Nat.succ_le_of_lt hb2.lt) hfx16_1
  have hst31 := St.ext (M := (nb ax12_1 :: ((b3 + 1) :: ((b2 + 1) :: M)))) (Sub.newO hfx16_1 (Sub.refl _ _)) he30
  have hs0_2 := hs0_2.stp hst31
  have hs0_3 := hs0_3.stp hst31
  have hs0_4 := hs0_4.stp hst31
  have hb1 := hb1.stp hst31
  have hox12_1 := hox12_1.ext (Sub.newO hfx16_1 (Sub.refl _ _)) he30
  have hb3 := hb3.ext he30
  have hb2 := hb2.ext he30
  have hE32 := hE28.trans he30
  refine WO.sp rfl rfl rfl rfl (rn_fieldAddr Try.runUnderlying43 rfl Try.sizeOf41 rfl rfl) ?_
  refine WO.stB (vc := [.slice ax16_1 x16.length cx16_1]) rfl rfl rfl rfl rfl rfl rfl Try.sizeOf41 rfl (by intro u hu; simp only [List.mem_cons, List.not_mem_nil, or_false] at hu; rcases hu with rfl <;> rfl) hb3 rfl rfl ?_
  intro w33 ht34 hb3
  refine ⟨trivial, ?_⟩
  have hst35 := Tch.st (M := (nb ax16_1 :: (nb ax12_1 :: ((b3 + 1) :: ((b2 + 1) :: M))))) ht34 (.inr (.tail _ (.tail _ (.head _)))) (Sub.refl _ _)
  have hs0_2 := hs0_2.stp hst35
  have hs0_3 := hs0_3.stp hst35
  have hs0_4 := hs0_4.stp hst35
  have hb1 := hb1.stp hst35
  have hox16_1 := hox16_1.tch ht34 (.inr (.tail _ (.tail _ (.head _)))) (Sub.refl _ _) (d_sym hd_b3_x161)
  have hox12_1 := hox12_1.tch ht34 (.inr (.tail _ (.tail _ (.head _)))) (Sub.refl _ _) (d_sym hd_b3_x121)
  have hb2 := hb2.tch ht34 (d_ne hd_b2_b3)
  have hE36 := ht34.ext hE32 hF3
  refine WO.fin ?_
  refine DN.seq ?_
  refine WC.seq ?_
  refine WC.regS [(0, 2), (1, 1), (2, 1), (3, 2), (4, 1)] rfl ?_
  refine WO.sp rfl rfl rfl rfl (rn_fieldAddr Try.runUnderlying38 rfl Try.sizeOf24 rfl rfl) ?_
  refine WO.sq trivial rfl rfl rfl rfl (rn_loadB hb1 Try.isAgg24 rfl rfl rfl) ?_
  obtain ⟨x20, hx20, h⟩ := Option.bind_eq_some_iff.mp h
  refine WO.call rfl rfl rfl rfl rfl rfl Try.call25 (l_toInt64S_ok (M := (nb ax16_1 :: (nb ax12_1 :: ((b3 + 1) :: ((b2 + 1) :: M))))) (hs0_4.toM (Ext.refl _)) (le_cons hox16_1.nb_le (le_cons hox12_1.nb_le (le_cons (Nat.succ_le_of_lt hb3.lt) (le_cons (Nat.succ_le_of_lt hb2.lt) (le_base hM hE36))))) hx20) ?_
  rintro _ w37 ⟨ax20_1, cx20_1, rfl, he38, hfx20_1, hox20_1⟩
  refine ⟨trivial, ?_⟩
  have hFx20_1 : nb ax20_1 = 0 ∨ w.heap.size < nb ax20_1 := f_newO hE36 hfx20_1
  have hd_x161_x201 : nb ax16_1 = 0 ∨ nb ax16_1 ≠ nb ax20_1 := d_newO hox16_1.nb_le hfx20_1
  have hd_x121_x201 : nb ax12_1 = 0 ∨ nb ax12_1 ≠ nb ax20_1 := d_newO hox12_1.nb_le hfx20_1
  have hd_b3_x201 : (b3 + 1) = 0 ∨ (b3 + 1) ≠ nb ax20_1 := d_newO (Nat.succ_le_of_lt hb3.lt) hfx20_1
  have hd_b2_x201 : (b2 + 1) = 0 ∨ (b2 + 1) ≠ nb ax20_1 := d_newO (Nat.succ_le_of_lt hb2.lt) hfx20_1
  have hst39 := St.ext (M := (nb ax16_1 :: (nb ax12_1 :: ((b3 + 1) :: ((b2 + 1) :: M))))) (Sub.newO hfx20_1 (Sub.refl _ _)) he38
  have hs0_2 := hs0_2.stp hst39
  have hs0_3 := hs0_3.stp hst39
  have hs0_4 := hs0_4.stp hst39
  have hb1 := hb1.stp hst39
  have hox16_1 := hox16_1.ext (Sub.newO hfx20_1 (Sub.refl _ _)) he38
  have hox12_1 := hox12_1.ext (Sub.newO hfx20_1 (Sub.refl _ _)) he38
  have hb3 := hb3.ext he38
  have hb2 := hb2.ext he38
  have hE40 := hE36.trans he38
  refine WO.sp rfl rfl rfl rfl (rn_fieldAddr Try.runUnderlying43 rfl Try.sizeOf24 rfl rfl) ?_
  refine WO.stB (vc := [.slice ax20_1 x20.length cx20_1]) rfl rfl rfl rfl rfl rfl rfl Try.sizeOf24 rfl (by intro u hu; simp only [List.mem_cons, List.not_mem_nil, or_false] at hu; rcases hu with rfl <;> rfl) hb3 rfl rfl ?_
  intro w41 ht42 hb3
  refine ⟨trivial, ?_⟩
  have hst43 := Tch.st (M := (nb ax20_1 :: (nb ax16_1 :: (nb ax12_1 :: ((b3 + 1) :: ((b2 + 1) :: M)))))) ht42 (.inr (.tail _ (.tail _ (.tail _ (.head _))))) (Sub.refl _ _)
  have hs0_2 := hs0_2.stp hst43
  have hs0_3 := hs0_3.stp hst43
  have hs0_4 := hs0_4.stp hst43
  have hb1 := hb1.stp hst43
  have hox20_1 := hox20_1.tch ht42 (.inr (.tail _ (.tail _ (.tail _ (.head _))))) (Sub.refl _ _) (d_sym hd_b3_x201)
  have hox16_1 := hox16_1.tch ht42 (.inr (.tail _ (.tail _ (.tail _ (.head _))))) (Sub.refl _ _) (d_sym hd_b3_x161)
  have hox12_1 := hox12_1.tch ht42 (.inr (.tail _ (.tail _ (.tail _ (.head _))))) (Sub.refl _ _) (d_sym hd_b3_x121)
  have hb2 := hb2.tch ht42 (d_ne hd_b2_b3)
  have hE44 := ht42.ext hE40 hF3
  refine WO.fin ?_
  refine DN.seq ?_
  refine WC.seq ?_
  refine WC.regS [(0, 1), (1, 1)] rfl ?_
  refine WO.sq trivial rfl rfl rfl rfl (rn_loadBA (Bf.of hb3) Try.isAgg43 Try.sizeOf43 rfl rfl rfl) ?_
  refine WO.stB0 (vc := [.int .i64 p0.Inputs, .int .i64 p0.Latches, .slice ax12_1 x12.length cx12_1, .slice ax16_1 x16.length cx16_1, .slice ax20_1 x20.length cx20_1]) rfl rfl rfl rfl rfl rfl rfl Try.sizeOf43 rfl (by intro u hu; simp only [List.mem_cons, List.not_mem_nil, or_false] at hu; rcases hu with rfl | rfl | rfl | rfl | rfl <;> rfl) hb2 rfl ?_
  intro w45 ht46 hb2
  refine ⟨trivial, ?_⟩
  have hst47 := Tch.st (M := (nb ax20_1 :: (nb ax16_1 :: (nb ax12_1 :: ((b3 + 1) :: ((b2 + 1) :: M)))))) ht46 (.inr (.tail _ (.tail _ (.tail _ (.tail _ (.head _)))))) (Sub.refl _ _)
  have hs0_2 := hs0_2.stp hst47
  have hs0_3 := hs0_3.stp hst47
  have hs0_4 := hs0_4.stp hst47
  have hb1 := hb1.stp hst47
  have hox20_1 := hox20_1.tch ht46 (.inr (.tail _ (.tail _ (.tail _ (.tail _ (.head _)))))) (Sub.refl _ _) (d_sym hd_b2_x201)
  have hox16_1 := hox16_1.tch ht46 (.inr (.tail _ (.tail _ (.tail _ (.tail _ (.head _)))))) (Sub.refl _ _) (d_sym hd_b2_x161)
  have hox12_1 := hox12_1.tch ht46 (.inr (.tail _ (.tail _ (.tail _ (.tail _ (.head _)))))) (Sub.refl _ _) (d_sym hd_b2_x121)
  have hb3 := hb3.tch ht46 (d_ne (d_sym hd_b2_b3))
  have hE48 := ht46.ext hE44 hF2
  refine WO.fin ?_
  refine DN.seq ?_
  refine WC.ret ?_
  refine DN.retC Try.results17 rfl hb2 Try.isAgg43 Try.sizeOf43 rfl ?_
  obtain rfl := Option.some.inj h
  exact ⟨ax12_1, cx12_1, ax16_1, cx16_1, ax20_1, cx20_1, rfl, hE48, hFx12_1, hFx16_1, hFx20_1, (by first | exact .inl rfl | (simp only [nb]; omega) | omega), (by first | exact .inl rfl | (simp only [nb]; omega) | omega), (by first | exact .inl rfl | (simp only [nb]; omega) | omega), (hox12_1.sbz (by intro x hx h0; simp only [List.mem_cons, nb] at *; first | (rcases hx with h | h | h | h; all_goals (first | (simp_all; done) | omega)) | simp_all)), (hox16_1.sbz (by intro x hx h0; simp only [List.mem_cons, nb] at *; first | (rcases hx with h | h | h | h; all_goals (first | (simp_all; done) | omega)) | simp_all)), (hox20_1.sbz (by intro x hx h0; simp only [List.mem_cons, nb] at *; first | (rcases hx with h | h | h | h; all_goals (first | (simp_all; done) | omega)) | simp_all))⟩

/- loop.example/g00869/impl.signalsOf -/
def i_signalsOf (p0 : Circuit) : Option (Int) :=
  some ((IntKind.i64.wrap ((IntKind.i64.wrap ((IntKind.i64.wrap (1 + p0.Inputs)) + p0.Latches)) + (p0.Gates.length : Int))) : Int)

theorem i_signalsOf_ok {p0 : Circuit} {a0_2 : Option Addr} {c0_2 : Nat} {a0_3 : Option Addr} {c0_3 : Nat} {a0_4 : Option Addr} {c0_4 : Nat} {w : World} (hs0_2 : Sl (Rp.int .i64) (Fz [] w) w a0_2 c0_2 p0.Next) (hs0_3 : Sl Gate.rp (Fz [] w) w a0_3 c0_3 p0.Gates) (hs0_4 : Sl (Rp.int .i64) (Fz [] w) w a0_4 c0_4 p0.Outs) {r : Int} (h : i_signalsOf p0 = some r) : Ret Try.prog 51 [.agg #[.int .i64 p0.Inputs, .int .i64 p0.Latches, .slice a0_2 p0.Next.length c0_2, .slice a0_3 p0.Gates.length c0_3, .slice a0_4 p0.Outs.length c0_4]] w (fun v w' => v = .int .i64 r ∧ Ext w w') := by
  unfold i_signalsOf at h
  refine Ret.enter Try.func51 rfl Try.ntmps51 rfl ?_
  dsimp only [envOf]
  refine WC.seq ?_
  refine WC.regS [(0, 1), (1, 2)] rfl ?_
  have hle1 : ∀ m, m ∈ [] → m ≤ w.heap.size := (le_nil _)
  refine WO.box rfl rfl rfl rfl rfl rfl rfl ?_
  intro b1 w1 he2 hbe1 hb1
  refine ⟨trivial, ?_⟩
  have hst3 := St.ext (M := []) (Sub.refl _ _) he2
  have hs0_2 := hs0_2.stp hst3
  have hs0_3 := hs0_3.stp hst3
  have hs0_4 := hs0_4.stp hst3
  have hE4 := he2
  have hb1 : Bf [] w1 b1 43 [.int .i64 p0.Inputs, .int .i64 p0.Latches, .slice a0_2 p0.Next.length c0_2, .slice a0_3 p0.Gates.length c0_3, .slice a0_4 p0.Outs.length c0_4] := ⟨hb1, hb1.lt, fun hm => by have := hle1 _ hm; omega⟩
  refine WO.sp rfl rfl rfl rfl (rn_assign rfl rfl) ?_
  refine WO.fin ?_
  refine DN.seq ?_
  refine WC.seq ?_
  refine WC.regS [(0, 2), (1, 1), (2, 2), (3, 2), (4, 1), (5, 2), (6, 2), (7, 1), (8, 2), (9, 2), (10, 2)] rfl ?_
  refine WO.sp rfl rfl rfl rfl (rn_fieldAddr Try.runUnderlying43 rfl Try.sizeOf2 rfl rfl) ?_
  refine WO.sq trivial rfl rfl rfl rfl (rn_loadB hb1 Try.isAgg2 rfl rfl rfl) ?_
  refine WO.sp rfl rfl rfl rfl (rn_add rfl rfl rfl) ?_
  refine WO.sp rfl rfl rfl rfl (rn_fieldAddr Try.runUnderlying43 rfl Try.sizeOf2 rfl rfl) ?_
  refine WO.sq trivial rfl rfl rfl rfl (rn_loadB hb1 Try.isAgg2 rfl rfl rfl) ?_
  refine WO.sp rfl rfl rfl rfl (rn_add rfl rfl rfl) ?_
  refine WO.sp rfl rfl rfl rfl (rn_fieldAddr Try.runUnderlying43 rfl Try.sizeOf41 rfl rfl) ?_
  refine WO.sq trivial rfl rfl rfl rfl (rn_loadB hb1 Try.isAgg41 rfl rfl rfl) ?_
  refine WO.sp rfl rfl rfl rfl (rn_len Try.runUnderlying41 rfl rfl) ?_
  refine WO.sp rfl rfl rfl rfl (rn_add rfl rfl rfl) ?_
  refine WO.sp rfl rfl rfl rfl (rn_assign rfl rfl) ?_
  refine WO.fin ?_
  refine DN.seq ?_
  refine WC.ret ?_
  refine DN.ret1 Try.results51 rfl ?_
  obtain rfl := Option.some.inj h
  exact ⟨rfl, hE4⟩

/- loop.example/g00869/impl.isCircuit -/
def i_isCircuit_b0 (p0 : Circuit) (v53 : Int) (s1 : Unit) : Option (Bool ⊕ ((Unit) ⊕ (Unit))) :=
  Option.bind (idx p0.Gates v53) fun x56 =>
  Option.bind (i_areLetters ([x56.A, x56.B] : List Int) (IntKind.i64.wrap (2 * (IntKind.i64.wrap ((IntKind.i64.wrap ((IntKind.i64.wrap (1 + p0.Inputs)) + p0.Latches)) + v53))))) fun x67 =>
  bif (!x67) then
    some (.inl (false : Bool))
  else
    some (.inr (.inr ()))
def i_isCircuit (p0 : Circuit) : Option (Bool) :=
  Option.bind (bif decide (p0.Inputs < 0) then
  some true
  else
  some (decide (4 < p0.Inputs))) fun p13 =>
  Option.bind (bif p13 then
  some true
  else
  some (decide (p0.Latches < 0))) fun p18 =>
  Option.bind (bif p18 then
  some true
  else
  some (decide (6 < p0.Latches))) fun p23 =>
  Option.bind (bif p23 then
  some true
  else
  some ((p0.Next.length : Int) != p0.Latches)) fun p31 =>
  Option.bind (bif p31 then
  some true
  else
  some (decide (8000 < (p0.Gates.length : Int)))) fun p37 =>
  Option.bind (bif p37 then
  some true
  else
  some (decide (4 < (p0.Outs.length : Int)))) fun p43 =>
  bif p43 then
    some (false : Bool)
  else
    Option.bind (cntM (i_isCircuit_b0 p0) p0.Gates.length 0 ()) fun q2 =>
    aft (fun r => some r) (fun s3 =>
      Option.bind (i_signalsOf p0) fun x73 =>
      Option.bind (i_areLetters p0.Next (IntKind.i64.wrap (2 * x73))) fun x75 =>
      Option.bind (bif x75 then
      Option.bind (i_signalsOf p0) fun x80 =>
      Option.bind (i_areLetters p0.Outs (IntKind.i64.wrap (2 * x80))) fun x82 =>
      some x82
      else
      some false) fun p83 =>
      some (p83 : Bool)) q2

theorem i_isCircuit_ok {p0 : Circuit} {a0_2 : Option Addr} {c0_2 : Nat} {a0_3 : Option Addr} {c0_3 : Nat} {a0_4 : Option Addr} {c0_4 : Nat} {w : World} (hs0_2 : Sl (Rp.int .i64) (Fz [] w) w a0_2 c0_2 p0.Next) (hs0_3 : Sl Gate.rp (Fz [] w) w a0_3 c0_3 p0.Gates) (hs0_4 : Sl (Rp.int .i64) (Fz [] w) w a0_4 c0_4 p0.Outs) {r : Bool} (h : i_isCircuit p0 = some r) : Ret Try.prog 48 [.agg #[.int .i64 p0.Inputs, .int .i64 p0.Latches, .slice a0_2 p0.Next.length c0_2, .slice a0_3 p0.Gates.length c0_3, .slice a0_4 p0.Outs.length c0_4]] w (fun v w' => v = .bool r ∧ Ext w w') := by
  unfold i_isCircuit at h
  refine Ret.enter Try.func48 rfl Try.ntmps48 rfl ?_
  dsimp only [envOf]
  refine WC.seq ?_
  refine WC.regS [(0, 1), (1, 2)] rfl ?_
  have hle1 : ∀ m, m ∈ [] → m ≤ w.heap.size := (le_nil _)
  refine WO.box rfl rfl rfl rfl rfl rfl rfl ?_
  intro b1 w1 he2 hbe1 hb1
  refine ⟨trivial, ?_⟩
  have hst3 := St.ext (M := []) (Sub.refl _ _) he2
  have hs0_2 := hs0_2.stp hst3
  have hs0_3 := hs0_3.stp hst3
  have hs0_4 := hs0_4.stp hst3
  have hE4 := he2
  have hb1 : Bf [] w1 b1 43 [.int .i64 p0.Inputs, .int .i64 p0.Latches, .slice a0_2 p0.Next.length c0_2, .slice a0_3 p0.Gates.length c0_3, .slice a0_4 p0.Outs.length c0_4] := ⟨hb1, hb1.lt, fun hm => by have := hle1 _ hm; omega⟩
  refine WO.sp rfl rfl rfl rfl (rn_assign rfl rfl) ?_
  refine WO.fin ?_
  refine DN.seq ?_
  refine WC.seq ?_
  refine WC.seq ?_
  refine WC.regS [(0, 2), (1, 1), (2, 2), (3, 2), (4, 2), (5, 1), (6, 2), (7, 2), (8, 2), (9, 2), (10, 1), (11, 2), (12, 2), (13, 2), (14, 2), (15, 1), (16, 2), (17, 2), (18, 2), (19, 2), (20, 1), (21, 2), (22, 2), (23, 1), (24, 2), (25, 2), (26, 2), (27, 2), (28, 1), (29, 2), (30, 2), (31, 2), (32, 2), (33, 2), (34, 1), (35, 2), (36, 2), (37, 2)] rfl ?_
  refine WO.sp rfl rfl rfl rfl (rn_fieldAddr Try.runUnderlying43 rfl Try.sizeOf2 rfl rfl) ?_
  refine WO.sq trivial rfl rfl rfl rfl (rn_loadB hb1 Try.isAgg2 rfl rfl rfl) ?_
  refine WO.sp rfl rfl rfl rfl (rn_lss rfl rfl rfl) ?_
  refine WO.sp rfl rfl rfl rfl (rn_move rfl rfl) ?_
  revert h
  cases ht5 : decide (p0.Inputs < 0) with
  | true =>
    intro h
    simp only [cond_true, cond_false, Option.bind_some, Option.bind_assoc, lpK_ret, lpK_brk, lpK_nxt, aft_inl, aft_inr] at h
    refine WO.ps rfl rfl rfl rfl ?_
    refine WO.ls rfl rfl rfl rfl ?_
    refine WO.ps rfl rfl rfl rfl ?_
    refine WO.sp rfl rfl rfl rfl (rn_pickT rfl rfl rfl) ?_
    refine WO.sp rfl rfl rfl rfl (rn_move rfl rfl) ?_
    refine WO.ps rfl rfl rfl rfl ?_
    refine WO.ls rfl rfl rfl rfl ?_
    refine WO.ps rfl rfl rfl rfl ?_
    refine WO.sp rfl rfl rfl rfl (rn_pickT rfl rfl rfl) ?_
    refine WO.sp rfl rfl rfl rfl (rn_move rfl rfl) ?_
    refine WO.ps rfl rfl rfl rfl ?_
    refine WO.ls rfl rfl rfl rfl ?_
    refine WO.ps rfl rfl rfl rfl ?_
    refine WO.sp rfl rfl rfl rfl (rn_pickT rfl rfl rfl) ?_
    refine WO.sp rfl rfl rfl rfl (rn_move rfl rfl) ?_
    refine WO.ps rfl rfl rfl rfl ?_
    refine WO.ls rfl rfl rfl rfl ?_
    refine WO.ps rfl rfl rfl rfl ?_
    refine WO.ps rfl rfl rfl rfl ?_
    refine WO.ls rfl rfl rfl rfl ?_
    refine WO.ps rfl rfl rfl rfl ?_
    refine WO.sp rfl rfl rfl rfl (rn_pickT rfl rfl rfl) ?_
    refine WO.sp rfl rfl rfl rfl (rn_move rfl rfl) ?_
    refine WO.ps rfl rfl rfl rfl ?_
    refine WO.ls rfl rfl rfl rfl ?_
    refine WO.ps rfl rfl rfl rfl ?_
    refine WO.ps rfl rfl rfl rfl ?_
    refine WO.sp rfl rfl rfl rfl (rn_pickT rfl rfl rfl) ?_
    refine WO.sp rfl rfl rfl rfl (rn_move rfl rfl) ?_
    refine WO.ps rfl rfl rfl rfl ?_
    refine WO.ls rfl rfl rfl rfl ?_
    refine WO.ps rfl rfl rfl rfl ?_
    refine WO.ps rfl rfl rfl rfl ?_
    refine WO.sp rfl rfl rfl rfl (rn_pickT rfl rfl rfl) ?_
    refine WO.fin ?_
    refine DN.seq ?_
    refine WC.ct rfl ?_
    refine WC.seq ?_
    refine WC.regS [(0, 2)] rfl ?_
    refine WO.sp rfl rfl rfl rfl (rn_assign rfl rfl) ?_
    refine WO.fin ?_
    refine DN.seq ?_
    refine WC.ret ?_
    refine DN.retThen ?_
    refine DN.ret1 Try.results48 rfl ?_
    obtain rfl := Option.some.inj h
    exact ⟨rfl, hE4⟩
  | false =>
    intro h
    simp only [cond_true, cond_false, Option.bind_some, Option.bind_assoc, lpK_ret, lpK_brk, lpK_nxt, aft_inl, aft_inr] at h
    refine WO.sp rfl rfl rfl rfl (rn_fieldAddr Try.runUnderlying43 rfl Try.sizeOf2 rfl rfl) ?_
    refine WO.sq trivial rfl rfl rfl rfl (rn_loadB hb1 Try.isAgg2 rfl rfl rfl) ?_
    refine WO.sp rfl rfl rfl rfl (rn_gtr rfl rfl rfl) ?_
    refine WO.sp rfl rfl rfl rfl (rn_pickF rfl rfl rfl) ?_
    refine WO.sp rfl rfl rfl rfl (rn_move rfl rfl) ?_
    revert h
    cases ht6 : decide (4 < p0.Inputs) with
    | true =>
      intro h
      simp only [cond_true, cond_false, Option.bind_some, Option.bind_assoc, lpK_ret, lpK_brk, lpK_nxt, aft_inl, aft_inr] at h
      refine WO.ps rfl rfl rfl rfl ?_
      refine WO.ls rfl rfl rfl rfl ?_
      refine WO.ps rfl rfl rfl rfl ?_
      refine WO.sp rfl rfl rfl rfl (rn_pickT rfl rfl rfl) ?_
      refine WO.sp rfl rfl rfl rfl (rn_move rfl rfl) ?_
      refine WO.ps rfl rfl rfl rfl ?_
      refine WO.ls rfl rfl rfl rfl ?_
      refine WO.ps rfl rfl rfl rfl ?_
      refine WO.sp rfl rfl rfl rfl (rn_pickT rfl rfl rfl) ?_
      refine WO.sp rfl rfl rfl rfl (rn_move rfl rfl) ?_
      refine WO.ps rfl rfl rfl rfl ?_
      refine WO.ls rfl rfl rfl rfl ?_
      refine WO.ps rfl rfl rfl rfl ?_
      refine WO.ps rfl rfl rfl rfl ?_
      refine WO.ls rfl rfl rfl rfl ?_
      refine WO.ps rfl rfl rfl rfl ?_
      refine WO.sp rfl rfl rfl rfl (rn_pickT rfl rfl rfl) ?_
      refine WO.sp rfl rfl rfl rfl (rn_move rfl rfl) ?_
      refine WO.ps rfl rfl rfl rfl ?_
      refine WO.ls rfl rfl rfl rfl ?_
      refine WO.ps rfl rfl rfl rfl ?_
      refine WO.ps rfl rfl rfl rfl ?_
      refine WO.sp rfl rfl rfl rfl (rn_pickT rfl rfl rfl) ?_
      refine WO.sp rfl rfl rfl rfl (rn_move rfl rfl) ?_
      refine WO.ps rfl rfl rfl rfl ?_
      refine WO.ls rfl rfl rfl rfl ?_
      refine WO.ps rfl rfl rfl rfl ?_
      refine WO.ps rfl rfl rfl rfl ?_
      refine WO.sp rfl rfl rfl rfl (rn_pickT rfl rfl rfl) ?_
      refine WO.fin ?_
      refine DN.seq ?_
      refine WC.ct rfl ?_
      refine WC.seq ?_
      refine WC.regS [(0, 2)] rfl ?_
      refine WO.sp rfl rfl rfl rfl (rn_assign rfl rfl) ?_
      refine WO.fin ?_
      refine DN.seq ?_
      refine WC.ret ?_
      refine DN.retThen ?_
      refine DN.ret1 Try.results48 rfl ?_
      obtain rfl := Option.some.inj h
      exact ⟨rfl, hE4⟩
    | false =>
      intro h
      simp only [cond_true, cond_false, Option.bind_some, Option.bind_assoc, lpK_ret, lpK_brk, lpK_nxt, aft_inl, aft_inr] at h
      refine WO.sp rfl rfl rfl rfl (rn_fieldAddr Try.runUnderlying43 rfl Try.sizeOf2 rfl rfl) ?_
      refine WO.sq trivial rfl rfl rfl rfl (rn_loadB hb1 Try.isAgg2 rfl rfl rfl) ?_
      refine WO.sp rfl rfl rfl rfl (rn_lss rfl rfl rfl) ?_
      refine WO.sp rfl rfl rfl rfl (rn_pickF rfl rfl rfl) ?_
      refine WO.sp rfl rfl rfl rfl (rn_move rfl rfl) ?_
      revert h
      cases ht7 : decide (p0.Latches < 0) with
      | true =>
        intro h
        simp only [cond_true, cond_false, Option.bind_some, Option.bind_assoc, lpK_ret, lpK_brk, lpK_nxt, aft_inl, aft_inr] at h
        refine WO.ps rfl rfl rfl rfl ?_
        refine WO.ls rfl rfl rfl rfl ?_
        refine WO.ps rfl rfl rfl rfl ?_
        refine WO.sp rfl rfl rfl rfl (rn_pickT rfl rfl rfl) ?_
        refine WO.sp rfl rfl rfl rfl (rn_move rfl rfl) ?_
        refine WO.ps rfl rfl rfl rfl ?_
        refine WO.ls rfl rfl rfl rfl ?_
        refine WO.ps rfl rfl rfl rfl ?_
        refine WO.ps rfl rfl rfl rfl ?_
        refine WO.ls rfl rfl rfl rfl ?_
        refine WO.ps rfl rfl rfl rfl ?_
        refine WO.sp rfl rfl rfl rfl (rn_pickT rfl rfl rfl) ?_
        refine WO.sp rfl rfl rfl rfl (rn_move rfl rfl) ?_
        refine WO.ps rfl rfl rfl rfl ?_
        refine WO.ls rfl rfl rfl rfl ?_
        refine WO.ps rfl rfl rfl rfl ?_
        refine WO.ps rfl rfl rfl rfl ?_
        refine WO.sp rfl rfl rfl rfl (rn_pickT rfl rfl rfl) ?_
        refine WO.sp rfl rfl rfl rfl (rn_move rfl rfl) ?_
        refine WO.ps rfl rfl rfl rfl ?_
        refine WO.ls rfl rfl rfl rfl ?_
        refine WO.ps rfl rfl rfl rfl ?_
        refine WO.ps rfl rfl rfl rfl ?_
        refine WO.sp rfl rfl rfl rfl (rn_pickT rfl rfl rfl) ?_
        refine WO.fin ?_
        refine DN.seq ?_
        refine WC.ct rfl ?_
        refine WC.seq ?_
        refine WC.regS [(0, 2)] rfl ?_
        refine WO.sp rfl rfl rfl rfl (rn_assign rfl rfl) ?_
        refine WO.fin ?_
        refine DN.seq ?_
        refine WC.ret ?_
        refine DN.retThen ?_
        refine DN.ret1 Try.results48 rfl ?_
        obtain rfl := Option.some.inj h
        exact ⟨rfl, hE4⟩
      | false =>
        intro h
        simp only [cond_true, cond_false, Option.bind_some, Option.bind_assoc, lpK_ret, lpK_brk, lpK_nxt, aft_inl, aft_inr] at h
        refine WO.sp rfl rfl rfl rfl (rn_fieldAddr Try.runUnderlying43 rfl Try.sizeOf2 rfl rfl) ?_
        refine WO.sq trivial rfl rfl rfl rfl (rn_loadB hb1 Try.isAgg2 rfl rfl rfl) ?_
        refine WO.sp rfl rfl rfl rfl (rn_gtr rfl rfl rfl) ?_
        refine WO.sp rfl rfl rfl rfl (rn_pickF rfl rfl rfl) ?_
        refine WO.sp rfl rfl rfl rfl (rn_move rfl rfl) ?_
        revert h
        cases ht8 : decide (6 < p0.Latches) with
        | true =>
          intro h
          simp only [cond_true, cond_false, Option.bind_some, Option.bind_assoc, lpK_ret, lpK_brk, lpK_nxt, aft_inl, aft_inr] at h
          refine WO.ps rfl rfl rfl rfl ?_
          refine WO.ls rfl rfl rfl rfl ?_
          refine WO.ps rfl rfl rfl rfl ?_
          refine WO.ps rfl rfl rfl rfl ?_
          refine WO.ls rfl rfl rfl rfl ?_
          refine WO.ps rfl rfl rfl rfl ?_
          refine WO.sp rfl rfl rfl rfl (rn_pickT rfl rfl rfl) ?_
          refine WO.sp rfl rfl rfl rfl (rn_move rfl rfl) ?_
          refine WO.ps rfl rfl rfl rfl ?_
          refine WO.ls rfl rfl rfl rfl ?_
          refine WO.ps rfl rfl rfl rfl ?_
          refine WO.ps rfl rfl rfl rfl ?_
          refine WO.sp rfl rfl rfl rfl (rn_pickT rfl rfl rfl) ?_
          refine WO.sp rfl rfl rfl rfl (rn_move rfl rfl) ?_
          refine WO.ps rfl rfl rfl rfl ?_
          refine WO.ls rfl rfl rfl rfl ?_
          refine WO.ps rfl rfl rfl rfl ?_
          refine WO.ps rfl rfl rfl rfl ?_
          refine WO.sp rfl rfl rfl rfl (rn_pickT rfl rfl rfl) ?_
          refine WO.fin ?_
          refine DN.seq ?_
          refine WC.ct rfl ?_
          refine WC.seq ?_
          refine WC.regS [(0, 2)] rfl ?_
          refine WO.sp rfl rfl rfl rfl (rn_assign rfl rfl) ?_
          refine WO.fin ?_
          refine DN.seq ?_
          refine WC.ret ?_
          refine DN.retThen ?_
          refine DN.ret1 Try.results48 rfl ?_
          obtain rfl := Option.some.inj h
          exact ⟨rfl, hE4⟩
        | false =>
          intro h
          simp only [cond_true, cond_false, Option.bind_some, Option.bind_assoc, lpK_ret, lpK_brk, lpK_nxt, aft_inl, aft_inr] at h
          refine WO.sp rfl rfl rfl rfl (rn_fieldAddr Try.runUnderlying43 rfl Try.sizeOf24 rfl rfl) ?_
          refine WO.sq trivial rfl rfl rfl rfl (rn_loadB hb1 Try.isAgg24 rfl rfl rfl) ?_
          refine WO.sp rfl rfl rfl rfl (rn_len Try.runUnderlying24 rfl rfl) ?_
          refine WO.sp rfl rfl rfl rfl (rn_fieldAddr Try.runUnderlying43 rfl Try.sizeOf2 rfl rfl) ?_
          refine WO.sq trivial rfl rfl rfl rfl (rn_loadB hb1 Try.isAgg2 rfl rfl rfl) ?_
          refine WO.sp rfl rfl rfl rfl (rn_neq rfl rfl rfl) ?_
          refine WO.sp rfl rfl rfl rfl (rn_pickF rfl rfl rfl) ?_
          refine WO.sp rfl rfl rfl rfl (rn_move rfl rfl) ?_
          revert h
          cases ht9 : ((p0.Next.length : Int) != p0.Latches) with
          | true =>
            intro h
            simp only [cond_true, cond_false, Option.bind_some, Option.bind_assoc, lpK_ret, lpK_brk, lpK_nxt, aft_inl, aft_inr] at h
            refine WO.ps rfl rfl rfl rfl ?_
            refine WO.ls rfl rfl rfl rfl ?_
            refine WO.ps rfl rfl rfl rfl ?_
            refine WO.ps rfl rfl rfl rfl ?_
            refine WO.sp rfl rfl rfl rfl (rn_pickT rfl rfl rfl) ?_
            refine WO.sp rfl rfl rfl rfl (rn_move rfl rfl) ?_
            refine WO.ps rfl rfl rfl rfl ?_
            refine WO.ls rfl rfl rfl rfl ?_
            refine WO.ps rfl rfl rfl rfl ?_
            refine WO.ps rfl rfl rfl rfl ?_
            refine WO.sp rfl rfl rfl rfl (rn_pickT rfl rfl rfl) ?_
            refine WO.fin ?_
            refine DN.seq ?_
            refine WC.ct rfl ?_
            refine WC.seq ?_
            refine WC.regS [(0, 2)] rfl ?_
            refine WO.sp rfl rfl rfl rfl (rn_assign rfl rfl) ?_
            refine WO.fin ?_
            refine DN.seq ?_
            refine WC.ret ?_
            refine DN.retThen ?_
            refine DN.ret1 Try.results48 rfl ?_
            obtain rfl := Option.some.inj h
            exact ⟨rfl, hE4⟩
          | false =>
            intro h
            simp only [cond_true, cond_false, Option.bind_some, Option.bind_assoc, lpK_ret, lpK_brk, lpK_nxt, aft_inl, aft_inr] at h
            refine WO.sp rfl rfl rfl rfl (rn_fieldAddr Try.runUnderlying43 rfl Try.sizeOf41 rfl rfl) ?_
            refine WO.sq trivial rfl rfl rfl rfl (rn_loadB hb1 Try.isAgg41 rfl rfl rfl) ?_
            refine WO.sp rfl rfl rfl rfl (rn_len Try.runUnderlying41 rfl rfl) ?_
            refine WO.sp rfl rfl rfl rfl (rn_gtr rfl rfl rfl) ?_
            refine WO.sp rfl rfl rfl rfl (rn_pickF rfl rfl rfl) ?_
            refine WO.sp rfl rfl rfl rfl (rn_move rfl rfl) ?_
            revert h
            cases ht10 : decide (8000 < (p0.Gates.length : Int)) with
            | true =>
              intro h
              simp only [cond_true, cond_false, Option.bind_some, Option.bind_assoc, lpK_ret, lpK_brk, lpK_nxt, aft_inl, aft_inr] at h
              refine WO.ps rfl rfl rfl rfl ?_
              refine WO.ls rfl rfl rfl rfl ?_
              refine WO.ps rfl rfl rfl rfl ?_
              refine WO.ps rfl rfl rfl rfl ?_
              refine WO.sp rfl rfl rfl rfl (rn_pickT rfl rfl rfl) ?_
              refine WO.fin ?_
              refine DN.seq ?_
              refine WC.ct rfl ?_
              refine WC.seq ?_
              refine WC.regS [(0, 2)] rfl ?_
              refine WO.sp rfl rfl rfl rfl (rn_assign rfl rfl) ?_
              refine WO.fin ?_
              refine DN.seq ?_
              refine WC.ret ?_
              refine DN.retThen ?_
              refine DN.ret1 Try.results48 rfl ?_
              obtain rfl := Option.some.inj h
              exact ⟨rfl, hE4⟩
            | false =>
              intro h
              simp only [cond_true, cond_false, Option.bind_some, Option.bind_assoc, lpK_ret, lpK_brk, lpK_nxt, aft_inl, aft_inr] at h
              refine WO.sp rfl rfl rfl rfl (rn_fieldAddr Try.runUnderlying43 rfl Try.sizeOf24 rfl rfl) ?_
              refine WO.sq trivial rfl rfl rfl rfl (rn_loadB hb1 Try.isAgg24 rfl rfl rfl) ?_
              refine WO.sp rfl rfl rfl rfl (rn_len Try.runUnderlying24 rfl rfl) ?_
              refine WO.sp rfl rfl rfl rfl (rn_gtr rfl rfl rfl) ?_
              refine WO.sp rfl rfl rfl rfl (rn_pickF rfl rfl rfl) ?_
              refine WO.fin ?_
              refine DN.seq ?_
              revert h
              cases ht11 : decide (4 < (p0.Outs.length : Int)) with
              | true =>
                intro h
                simp only [cond_true, cond_false, Option.bind_some, Option.bind_assoc, lpK_ret, lpK_brk, lpK_nxt, aft_inl, aft_inr] at h
                refine WC.ct rfl ?_
                refine WC.seq ?_
                refine WC.regS [(0, 2)] rfl ?_
                refine WO.sp rfl rfl rfl rfl (rn_assign rfl rfl) ?_
                refine WO.fin ?_
                refine DN.seq ?_
                refine WC.ret ?_
                refine DN.retThen ?_
                refine DN.ret1 Try.results48 rfl ?_
                obtain rfl := Option.some.inj h
                exact ⟨rfl, hE4⟩
              | false =>
                intro h
                simp only [cond_true, cond_false, Option.bind_some, Option.bind_assoc, lpK_ret, lpK_brk, lpK_nxt, aft_inl, aft_inr] at h
                refine WC.cf rfl ?_
                refine WC.skip ?_
                refine DN.seq ?_
                refine WC.seq ?_
                refine WC.regS [(0, 2), (1, 1), (2, 2), (3, 2), (4, 1), (5, 2), (6, 2)] rfl ?_
                refine WO.sp rfl rfl rfl rfl (rn_fieldAddr Try.runUnderlying43 rfl Try.sizeOf2 rfl rfl) ?_
                refine WO.sq trivial rfl rfl rfl rfl (rn_loadB hb1 Try.isAgg2 rfl rfl rfl) ?_
                refine WO.sp rfl rfl rfl rfl (rn_add rfl rfl rfl) ?_
                refine WO.sp rfl rfl rfl rfl (rn_fieldAddr Try.runUnderlying43 rfl Try.sizeOf2 rfl rfl) ?_
                refine WO.sq trivial rfl rfl rfl rfl (rn_loadB hb1 Try.isAgg2 rfl rfl rfl) ?_
                refine WO.sp rfl rfl rfl rfl (rn_add rfl rfl rfl) ?_
                refine WO.sp rfl rfl rfl rfl (rn_assign rfl rfl) ?_
                refine WO.fin ?_
                refine DN.seq ?_
                refine WC.seq ?_
                refine WC.seq ?_
                refine WC.regS [(0, 2), (1, 1), (2, 2), (3, 2)] rfl ?_
                refine WO.sp rfl rfl rfl rfl (rn_fieldAddr Try.runUnderlying43 rfl Try.sizeOf41 rfl rfl) ?_
                refine WO.sq trivial rfl rfl rfl rfl (rn_loadB hb1 Try.isAgg41 rfl rfl rfl) ?_
                refine WO.sp rfl rfl rfl rfl (rn_len Try.runUnderlying41 rfl rfl) ?_
                refine WO.sp rfl rfl rfl rfl (rn_move rfl rfl) ?_
                refine WO.fin ?_
                refine DN.seq ?_
                refine WC.block ?_
                obtain ⟨q12, hq12, hk12⟩ := Option.bind_eq_some_iff.mp h
                clear h
                refine WC.loop (fun k L w' => ∃ (v53 : Int), L = [(1, .pointer (some ⟨b1, 0, none⟩)), (3, .int .i64 (IntKind.i64.wrap ((IntKind.i64.wrap (1 + p0.Inputs)) + p0.Latches))), (51, .slice a0_3 p0.Gates.length c0_3), (52, .int .i64 (p0.Gates.length : Int)), (53, .int .i64 v53)] ∧ Ext w w' ∧ Sl (Rp.int .i64) (Fz [] w') w' a0_2 c0_2 p0.Next ∧ Sl Gate.rp (Fz [] w') w' a0_3 c0_3 p0.Gates ∧ Sl (Rp.int .i64) (Fz [] w') w' a0_4 c0_4 p0.Outs ∧ Bf [] w' b1 43 [.int .i64 p0.Inputs, .int .i64 p0.Latches, .slice a0_2 p0.Next.length c0_2, .slice a0_3 p0.Gates.length c0_3, .slice a0_4 p0.Outs.length c0_4] ∧ 0 ≤ v53 ∧ Int.toNat ((p0.Gates.length : Int) - v53) = k ∧ cntM (i_isCircuit_b0 p0) k v53 () = some q12) ⟨_, _, ⟨0, rfl, hE4, hs0_2, hs0_3, hs0_4, hb1, (by decide), (by simp), hq12⟩, fun a ha => (ha.more (ha.more (ha.more (ha.more (ha.more ha.nil rfl) rfl) rfl) rfl) rfl)⟩ ?_
                rintro k _ w13 ⟨v53, rfl, hE14, hs0_2, hs0_3, hs0_4, hb1, hj12, hJ12, h⟩
                rcases k with _ | k
                ·
                  simp only [cntM] at h
                  have hc12 : decide (v53 < (p0.Gates.length : Int)) = false := decide_eq_false (by omega)
                  refine WC.seq ?_
                  refine WC.regS [(0, 2)] rfl ?_
                  refine WO.sp rfl rfl rfl rfl (rn_lss rfl rfl rfl) ?_
                  refine WO.fin ?_
                  refine DN.seq ?_
                  refine WC.seq ?_
                  refine WC.cf' rfl hc12 ?_
                  refine WC.exit ?_
                  refine DN.exitThen ?_
                  refine DN.exitThen ?_
                  obtain rfl := Option.some.inj h
                  have h := hk12
                  simp only [cond_true, cond_false, Option.bind_some, Option.bind_assoc, lpK_ret, lpK_brk, lpK_nxt, aft_inl, aft_inr] at h
                  refine DN.hit ?_
                  refine DN.seq ?_
                  refine WC.seq ?_
                  refine WC.regX none [(0, 2), (1, 0), (2, 0), (3, 1), (4, 2), (5, 1), (6, 2), (7, 2), (8, 0), (9, 0), (10, 1), (11, 2), (12, 1), (13, 2), (14, 2)] [] (by kernel_rfl) (by kernel_rfl) fun w15 he16 hh17 => ?_
                  have hst18 := St.ext (M := []) (Sub.refl _ _) he16
                  have hs0_2 := hs0_2.stp hst18
                  have hs0_3 := hs0_3.stp hst18
                  have hs0_4 := hs0_4.stp hst18
                  have hb1 := hb1.stp hst18
                  have hE19 := hE14.trans he16
                  have z_hs0_2 := hs0_2
                  have z_hs0_3 := hs0_3
                  have z_hs0_4 := hs0_4
                  have z_hb1 := hb1
                  refine WO.sp rfl rfl rfl rfl (rn_fieldAddr Try.runUnderlying43 rfl Try.sizeOf24 rfl rfl) ?_
                  refine WO.dq rfl rfl rfl rfl (rn_loadB hb1 Try.isAgg24 rfl rfl rfl) ?_
                  refine WO.dq rfl rfl rfl rfl (rn_loadBA hb1 Try.isAgg43 Try.sizeOf43 rfl rfl rfl) ?_
                  obtain ⟨x73, hx73, h⟩ := Option.bind_eq_some_iff.mp h
                  refine WO.call rfl rfl rfl rfl rfl rfl Try.call51 (i_signalsOf_ok (hs0_2.toE (Ext.refl _)) (hs0_3.toE (Ext.refl _)) (hs0_4.toE (Ext.refl _)) hx73) ?_
                  rintro _ w20 ⟨rfl, he21⟩
                  have hx22 := he21
                  refine ⟨hx22.cw, ?_⟩
                  have hst23 := St.ext (M := []) (Sub.refl _ _) he21
                  have hz24 := hst23
                  have hs0_2 := hs0_2.stp hst23
                  have hs0_3 := hs0_3.stp hst23
                  have hs0_4 := hs0_4.stp hst23
                  have hb1 := hb1.stp hst23
                  have hE25 := hE19.trans he21
                  refine WO.sp rfl rfl rfl rfl (rn_mul rfl rfl rfl) ?_
                  obtain ⟨x75, hx75, h⟩ := Option.bind_eq_some_iff.mp h
                  refine WO.call rfl rfl rfl rfl rfl rfl Try.call55 (i_areLetters_ok (hs0_2.toE (Ext.refl _)) hx75) ?_
                  rintro _ w26 ⟨rfl, he27⟩
                  have hx28 := hx22.trans he27
                  refine ⟨hx28.cw, ?_⟩
                  have hst29 := St.ext (M := []) (Sub.refl _ _) he27
                  have hz30 := hz24.trans hst29
                  have hs0_2 := hs0_2.stp hst29
                  have hs0_3 := hs0_3.stp hst29
                  have hs0_4 := hs0_4.stp hst29
                  have hb1 := hb1.stp hst29
                  have hE31 := hE25.trans he27
                  refine WO.sp rfl rfl rfl rfl (rn_move rfl rfl) ?_
                  revert h
                  cases ht32 : x75 with
                  | true =>
                    intro h
                    simp only [cond_true, cond_false, Option.bind_some, Option.bind_assoc, lpK_ret, lpK_brk, lpK_nxt, aft_inl, aft_inr] at h
                    refine WO.sp rfl rfl rfl rfl (rn_fieldAddr Try.runUnderlying43 rfl Try.sizeOf24 rfl rfl) ?_
                    refine WO.dq rfl rfl rfl rfl (rn_loadB z_hb1 Try.isAgg24 rfl rfl rfl) ?_
                    refine WO.dq rfl rfl rfl rfl (rn_loadBA z_hb1 Try.isAgg43 Try.sizeOf43 rfl rfl rfl) ?_
                    obtain ⟨x80, hx80, h⟩ := Option.bind_eq_some_iff.mp h
                    refine WO.call rfl rfl rfl rfl rfl rfl Try.call51 (i_signalsOf_ok (hs0_2.toE (Ext.refl _)) (hs0_3.toE (Ext.refl _)) (hs0_4.toE (Ext.refl _)) hx80) ?_
                    rintro _ w33 ⟨rfl, he34⟩
                    have hx35 := hx28.trans he34
                    refine ⟨hx35.cw, ?_⟩
                    have hst36 := St.ext (M := []) (Sub.refl _ _) he34
                    have hz37 := hz30.trans hst36
                    have hs0_2 := hs0_2.stp hst36
                    have hs0_3 := hs0_3.stp hst36
                    have hs0_4 := hs0_4.stp hst36
                    have hb1 := hb1.stp hst36
                    have hE38 := hE31.trans he34
                    refine WO.sp rfl rfl rfl rfl (rn_mul rfl rfl rfl) ?_
                    obtain ⟨x82, hx82, h⟩ := Option.bind_eq_some_iff.mp h
                    refine WO.call rfl rfl rfl rfl rfl rfl Try.call55 (i_areLetters_ok (hs0_4.toE (Ext.refl _)) hx82) ?_
                    rintro _ w39 ⟨rfl, he40⟩
                    have hx41 := hx35.trans he40
                    refine ⟨hx41.cw, ?_⟩
                    have hst42 := St.ext (M := []) (Sub.refl _ _) he40
                    have hz43 := hz37.trans hst42
                    have hs0_2 := hs0_2.stp hst42
                    have hs0_3 := hs0_3.stp hst42
                    have hs0_4 := hs0_4.stp hst42
                    have hb1 := hb1.stp hst42
                    have hE44 := hE38.trans he40
                    refine WO.sp rfl rfl rfl rfl (rn_pickT rfl rfl rfl) ?_
                    refine WO.sp rfl rfl rfl rfl (rn_assign rfl rfl) ?_
                    refine WO.nx ?_
                    refine WO.fin ?_
                    refine DN.seq ?_
                    refine WC.ret ?_
                    refine DN.ret1 Try.results48 rfl ?_
                    obtain rfl := Option.some.inj h
                    exact ⟨rfl, hE44⟩
                  | false =>
                    intro h
                    simp only [cond_true, cond_false, Option.bind_some, Option.bind_assoc, lpK_ret, lpK_brk, lpK_nxt, aft_inl, aft_inr] at h
                    refine WO.ps rfl rfl rfl rfl ?_
                    refine WO.qs rfl rfl rfl rfl ?_
                    refine WO.qs rfl rfl rfl rfl ?_
                    refine WO.ls rfl rfl rfl rfl ?_
                    refine WO.ps rfl rfl rfl rfl ?_
                    refine WO.ls rfl rfl rfl rfl ?_
                    refine WO.sp rfl rfl rfl rfl (rn_pickF rfl rfl rfl) ?_
                    refine WO.sp rfl rfl rfl rfl (rn_assign rfl rfl) ?_
                    refine WO.nx ?_
                    refine WO.fin ?_
                    refine DN.seq ?_
                    refine WC.ret ?_
                    refine DN.ret1 Try.results48 rfl ?_
                    obtain rfl := Option.some.inj h
                    exact ⟨rfl, hE31⟩
                ·
                  simp only [cntM, i_isCircuit_b0, cond_true, cond_false, Option.bind_some, Option.bind_assoc, lpK_ret, lpK_brk, lpK_nxt, aft_inl, aft_inr] at h
                  have hc12 : decide (v53 < (p0.Gates.length : Int)) = true := decide_eq_true (by omega)
                  refine WC.seq ?_
                  refine WC.regS [(0, 2)] rfl ?_
                  refine WO.sp rfl rfl rfl rfl (rn_lss rfl rfl rfl) ?_
                  refine WO.fin ?_
                  refine DN.seq ?_
                  refine WC.seq ?_
                  refine WC.ct' rfl hc12 ?_
                  refine WC.skip ?_
                  refine DN.seq ?_
                  refine WC.seq ?_
                  refine WC.block ?_
                  refine WC.seq ?_
                  refine WC.regS [(0, 2), (1, 2), (2, 1), (3, 1), (4, 2), (5, 1)] rfl ?_
                  refine WO.sp rfl rfl rfl rfl (rn_move rfl rfl) ?_
                  obtain ⟨x56, hx56, h⟩ := Option.bind_eq_some_iff.mp h
                  refine WO.sp rfl rfl rfl rfl (rn_index hs0_3 hx56 Try.runUnderlying41 Try.sizeOf68 rfl rfl rfl rfl) ?_
                  obtain ⟨csx56, hrx56, hlx56⟩ := (hs0_3).get hx56
                  obtain rfl := Gate.un hrx56
                  refine WO.sq trivial rfl rfl rfl rfl (rn_loadAgg Try.isAgg68 Try.sizeOf68 rfl rfl hlx56 rfl) ?_
                  refine WO.alloc rfl rfl rfl rfl rfl Try.zeroValue68 rfl ?_
                  intro b5 w45 he46 hbe5 hb5
                  refine ⟨trivial, ?_⟩
                  have hn5 : w13.heap.size < b5 + 1 := by omega
                  have hF5 : (b5 + 1) = 0 ∨ w.heap.size < (b5 + 1) := f_new hE14 hn5
                  have hst47 := St.ext (M := []) (Sub.new hn5 (Sub.refl _ _)) he46
                  have hs0_2 := hs0_2.stp hst47
                  have hs0_3 := hs0_3.stp hst47
                  have hs0_4 := hs0_4.stp hst47
                  have hb1 := hb1.stp hst47
                  have hE48 := hE14.trans he46
                  refine WO.sp rfl rfl rfl rfl (rn_assign rfl rfl) ?_
                  refine WO.stB0 (vc := [.int .i64 x56.A, .int .i64 x56.B]) rfl rfl rfl rfl rfl rfl rfl Try.sizeOf68 rfl (by intro u hu; simp only [List.mem_cons, List.not_mem_nil, or_false] at hu; rcases hu with rfl | rfl <;> rfl) hb5 rfl ?_
                  intro w49 ht50 hb5
                  refine ⟨trivial, ?_⟩
                  have hst51 := Tch.st (M := ((b5 + 1) :: [])) ht50 (.inr (.head _)) (Sub.refl _ _)
                  have hs0_2 := hs0_2.stp hst51
                  have hs0_3 := hs0_3.stp hst51
                  have hs0_4 := hs0_4.stp hst51
                  have hb1 := hb1.stp hst51
                  have hE52 := ht50.ext hE48 hF5
                  refine WO.fin ?_
                  refine DN.seq ?_
                  refine WC.seq ?_
                  refine WC.regS [(0, 2), (1, 1), (2, 2), (3, 1), (4, 1), (5, 2), (6, 2), (7, 2), (8, 2), (9, 1), (10, 2)] rfl ?_
                  refine WO.sp rfl rfl rfl rfl (rn_fieldAddr Try.runUnderlying68 rfl Try.sizeOf2 rfl rfl) ?_
                  refine WO.sq trivial rfl rfl rfl rfl (rn_loadB (Bf.of hb5) Try.isAgg2 rfl rfl rfl) ?_
                  refine WO.sp rfl rfl rfl rfl (rn_fieldAddr Try.runUnderlying68 rfl Try.sizeOf2 rfl rfl) ?_
                  refine WO.sq trivial rfl rfl rfl rfl (rn_loadB (Bf.of hb5) Try.isAgg2 rfl rfl rfl) ?_
                  refine WO.bld (E := (Rp.int .i64)) (M := ((b5 + 1) :: [])) (parts := [(0, .tmp 59), (1, .tmp 61)]) (cells := [.int .i64 x56.A, .int .i64 x56.B]) (xs := ([x56.A, x56.B] : List Int)) rfl rfl rfl rfl rfl rfl Try.underlying24 Tryinfo2 rfl rfl rfl rfl rfl rfl rfl rfl (by intro v hv; simp only [List.mem_cons, List.not_mem_nil, or_false] at hv; rcases hv with rfl | rfl <;> rfl) ⟨_, _, rfl, rfl, ⟨_, _, rfl, rfl, rfl⟩⟩ ?_
                  intro a62 c62 w53 he54 hn62 ho62
                  refine ⟨trivial, ?_⟩
                  have hd_b5_62 : (b5 + 1) = 0 ∨ (b5 + 1) ≠ nb a62 := d_new (Nat.succ_le_of_lt hb5.lt) hn62
                  have hF62 : nb a62 = 0 ∨ w.heap.size < nb a62 := f_new hE52 hn62
                  have hst55 := St.ext (M := ((b5 + 1) :: [])) (Sub.new hn62 (Sub.refl _ _)) he54
                  have hs0_2 := hs0_2.stp hst55
                  have hs0_3 := hs0_3.stp hst55
                  have hs0_4 := hs0_4.stp hst55
                  have hb1 := hb1.stp hst55
                  have hb5 := hb5.ext he54
                  have hE56 := hE52.trans he54
                  refine WO.sp rfl rfl rfl rfl (rn_move rfl rfl) ?_
                  refine WO.sp rfl rfl rfl rfl (rn_move rfl rfl) ?_
                  refine WO.sp rfl rfl rfl rfl (rn_add rfl rfl rfl) ?_
                  refine WO.sp rfl rfl rfl rfl (rn_mul rfl rfl rfl) ?_
                  obtain ⟨x67, hx67, h⟩ := Option.bind_eq_some_iff.mp h
                  refine WO.call rfl rfl rfl rfl rfl rfl Try.call55 (i_areLetters_ok (ho62.read.toE (Ext.refl _)) hx67) ?_
                  rintro _ w57 ⟨rfl, he58⟩
                  refine ⟨trivial, ?_⟩
                  have hst59 := St.ext (M := (nb a62 :: ((b5 + 1) :: []))) (Sub.refl _ _) he58
                  have hs0_2 := hs0_2.stp hst59
                  have hs0_3 := hs0_3.stp hst59
                  have hs0_4 := hs0_4.stp hst59
                  have hb1 := hb1.stp hst59
                  have ho62 := ho62.ext (Sub.refl _ _) he58
                  have hb5 := hb5.ext he58
                  have hE60 := hE56.trans he58
                  refine WO.sp rfl rfl rfl rfl (rn_not rfl rfl) ?_
                  refine WO.fin ?_
                  have hsb61 : Sb (nb a62 :: ((b5 + 1) :: [])) [] := (Sb.drop (Sb.drop (Sb.refl _)))
                  have hs0_2 := hs0_2.stp hsb61.st
                  have hs0_3 := hs0_3.stp hsb61.st
                  have hs0_4 := hs0_4.stp hsb61.st
                  have hb1 := hb1.stp hsb61.st
                  refine DN.seq ?_
                  revert h
                  cases ht62 : (!x67) with
                  | true =>
                    intro h
                    simp only [cond_true, cond_false, Option.bind_some, Option.bind_assoc, lpK_ret, lpK_brk, lpK_nxt, aft_inl, aft_inr] at h
                    refine WC.ct rfl ?_
                    refine WC.seq ?_
                    refine WC.regS [(0, 2)] rfl ?_
                    refine WO.sp rfl rfl rfl rfl (rn_assign rfl rfl) ?_
                    refine WO.fin ?_
                    refine DN.seq ?_
                    refine WC.ret ?_
                    refine DN.retBlock ?_
                    refine DN.retThen ?_
                    refine DN.retThen ?_
                    obtain rfl := Option.some.inj h
                    have h := hk12
                    simp only [cond_true, cond_false, Option.bind_some, Option.bind_assoc, lpK_ret, lpK_brk, lpK_nxt, aft_inl, aft_inr] at h
                    refine DN.retBlock ?_
                    refine DN.retThen ?_
                    refine DN.ret1 Try.results48 rfl ?_
                    obtain rfl := Option.some.inj h
                    exact ⟨rfl, hE60⟩
                  | false =>
                    intro h
                    simp only [cond_true, cond_false, Option.bind_some, Option.bind_assoc, lpK_ret, lpK_brk, lpK_nxt, aft_inl, aft_inr] at h
                    refine WC.cf rfl ?_
                    refine WC.skip ?_
                    refine DN.block ?_
                    refine DN.seq ?_
                    refine WC.regS [(0, 2), (1, 2)] rfl ?_
                    refine WO.sp rfl rfl rfl rfl (rn_add rfl rfl rfl) ?_
                    refine WO.sp rfl rfl rfl rfl (rn_move rfl rfl) ?_
                    refine WO.fin ?_
                    have hw12 : IntKind.wrap .i64 (v53 + 1) = v53 + 1 := wr1 hj12 (of_decide_eq_true hc12) hs0_3.len_le
                    rw [hw12]
                    have hc12 := of_decide_eq_true hc12
                    refine DN.round fun a ha => ?_
                    exact ⟨k, _, Nat.lt_succ_self _, ⟨v53 + 1, rfl, hE60, hs0_2, hs0_3, hs0_4, hb1, by omega, by omega, h⟩, (ha.more (ha.more (ha.more (ha.more (ha.more ha.nil rfl) rfl) rfl) rfl) rfl)⟩

/- loop.example/g00869/impl.CircuitOk -/
def i_CircuitOk (p0 : Circuit) : Option (Bool) :=
  Option.bind (i_isCircuit p0) fun x4 =>
  some (x4 : Bool)

theorem i_CircuitOk_ok {p0 : Circuit} {a0_2 : Option Addr} {c0_2 : Nat} {a0_3 : Option Addr} {c0_3 : Nat} {a0_4 : Option Addr} {c0_4 : Nat} {w : World} (hs0_2 : Sl (Rp.int .i64) (Fz [] w) w a0_2 c0_2 p0.Next) (hs0_3 : Sl Gate.rp (Fz [] w) w a0_3 c0_3 p0.Gates) (hs0_4 : Sl (Rp.int .i64) (Fz [] w) w a0_4 c0_4 p0.Outs) {r : Bool} (h : i_CircuitOk p0 = some r) : Ret Try.prog 18 [.agg #[.int .i64 p0.Inputs, .int .i64 p0.Latches, .slice a0_2 p0.Next.length c0_2, .slice a0_3 p0.Gates.length c0_3, .slice a0_4 p0.Outs.length c0_4]] w (fun v w' => v = .bool r ∧ Ext w w') := by
  unfold i_CircuitOk at h
  refine Ret.enter Try.func18 rfl Try.ntmps18 rfl ?_
  dsimp only [envOf]
  refine WC.seq ?_
  refine WC.regS [(0, 1), (1, 2)] rfl ?_
  have hle1 : ∀ m, m ∈ [] → m ≤ w.heap.size := (le_nil _)
  refine WO.box rfl rfl rfl rfl rfl rfl rfl ?_
  intro b1 w1 he2 hbe1 hb1
  refine ⟨trivial, ?_⟩
  have hst3 := St.ext (M := []) (Sub.refl _ _) he2
  have hs0_2 := hs0_2.stp hst3
  have hs0_3 := hs0_3.stp hst3
  have hs0_4 := hs0_4.stp hst3
  have hE4 := he2
  have hb1 : Bf [] w1 b1 43 [.int .i64 p0.Inputs, .int .i64 p0.Latches, .slice a0_2 p0.Next.length c0_2, .slice a0_3 p0.Gates.length c0_3, .slice a0_4 p0.Outs.length c0_4] := ⟨hb1, hb1.lt, fun hm => by have := hle1 _ hm; omega⟩
  refine WO.sp rfl rfl rfl rfl (rn_assign rfl rfl) ?_
  refine WO.fin ?_
  refine DN.seq ?_
  refine WC.seq ?_
  refine WC.regS [(0, 1), (1, 1), (2, 2)] rfl ?_
  refine WO.sq trivial rfl rfl rfl rfl (rn_loadBA hb1 Try.isAgg43 Try.sizeOf43 rfl rfl rfl) ?_
  obtain ⟨x4, hx4, h⟩ := Option.bind_eq_some_iff.mp h
  refine WO.call rfl rfl rfl rfl rfl rfl Try.call48 (i_isCircuit_ok (hs0_2.toE (Ext.refl _)) (hs0_3.toE (Ext.refl _)) (hs0_4.toE (Ext.refl _)) hx4) ?_
  rintro _ w5 ⟨rfl, he6⟩
  refine ⟨trivial, ?_⟩
  have hst7 := St.ext (M := []) (Sub.refl _ _) he6
  have hs0_2 := hs0_2.stp hst7
  have hs0_3 := hs0_3.stp hst7
  have hs0_4 := hs0_4.stp hst7
  have hb1 := hb1.stp hst7
  have hE8 := hE4.trans he6
  refine WO.sp rfl rfl rfl rfl (rn_assign rfl rfl) ?_
  refine WO.fin ?_
  refine DN.seq ?_
  refine WC.ret ?_
  refine DN.ret1 Try.results18 rfl ?_
  obtain rfl := Option.some.inj h
  exact ⟨rfl, hE8⟩

/- loop.example/g00869/laws.eqGate -/
def l_eqGate (p0 : Gate) (p1 : Gate) : Option (Bool) :=
  bif (p0.A != p1.A) then
    some (false : Bool)
  else
    bif (p0.B != p1.B) then
      some (false : Bool)
    else
      some (true : Bool)

theorem l_eqGate_ok {p0 : Gate} {p1 : Gate} {w : World}  {r : Bool} (h : l_eqGate p0 p1 = some r) : Ret Try.prog 63 [.agg #[.int .i64 p0.A, .int .i64 p0.B], .agg #[.int .i64 p1.A, .int .i64 p1.B]] w (fun v w' => v = .bool r ∧ Ext w w') := by
  unfold l_eqGate at h
  refine Ret.enter Try.func63 rfl Try.ntmps63 rfl ?_
  dsimp only [envOf]
  refine WC.seq ?_
  refine WC.regS [(0, 1), (1, 1), (2, 2)] rfl ?_
  have hle2 : ∀ m, m ∈ [] → m ≤ w.heap.size := (le_nil _)
  refine WO.box rfl rfl rfl rfl rfl rfl rfl ?_
  intro b2 w1 he2 hbe2 hb2
  refine ⟨trivial, ?_⟩
  have hst3 := St.ext (M := []) (Sub.refl _ _) he2
  have hE4 := he2
  have hb2 : Bf [] w1 b2 68 [.int .i64 p0.A, .int .i64 p0.B] := ⟨hb2, hb2.lt, fun hm => by have := hle2 _ hm; omega⟩
  have hle3 : ∀ m, m ∈ [] → m ≤ w1.heap.size := (le_nil _)
  refine WO.box rfl rfl rfl rfl rfl rfl rfl ?_
  intro b3 w5 he6 hbe3 hb3
  refine ⟨trivial, ?_⟩
  have hst7 := St.ext (M := []) (Sub.refl _ _) he6
  have hb2 := hb2.stp hst7
  have hE8 := hE4.trans he6
  have hb3 : Bf [] w5 b3 68 [.int .i64 p1.A, .int .i64 p1.B] := ⟨hb3, hb3.lt, fun hm => by have := hle3 _ hm; omega⟩
  refine WO.sp rfl rfl rfl rfl (rn_assign rfl rfl) ?_
  refine WO.fin ?_
  refine DN.seq ?_
  refine WC.seq ?_
  refine WC.seq ?_
  refine WC.regS [(0, 2), (1, 1), (2, 2), (3, 1), (4, 2)] rfl ?_
  refine WO.sp rfl rfl rfl rfl (rn_fieldAddr Try.runUnderlying68 rfl Try.sizeOf2 rfl rfl) ?_
  refine WO.sq trivial rfl rfl rfl rfl (rn_loadB hb2 Try.isAgg2 rfl rfl rfl) ?_
  refine WO.sp rfl rfl rfl rfl (rn_fieldAddr Try.runUnderlying68 rfl Try.sizeOf2 rfl rfl) ?_
  refine WO.sq trivial rfl rfl rfl rfl (rn_loadB hb3 Try.isAgg2 rfl rfl rfl) ?_
  refine WO.sp rfl rfl rfl rfl (rn_neq rfl rfl rfl) ?_
  refine WO.fin ?_
  refine DN.seq ?_
  revert h
  cases ht9 : (p0.A != p1.A) with
  | true =>
    intro h
    simp only [cond_true, cond_false, Option.bind_some, Option.bind_assoc, lpK_ret, lpK_brk, lpK_nxt, aft_inl, aft_inr] at h
    refine WC.ct rfl ?_
    refine WC.seq ?_
    refine WC.regS [(0, 2)] rfl ?_
    refine WO.sp rfl rfl rfl rfl (rn_assign rfl rfl) ?_
    refine WO.fin ?_
    refine DN.seq ?_
    refine WC.ret ?_
    refine DN.retThen ?_
    refine DN.ret1 Try.results63 rfl ?_
    obtain rfl := Option.some.inj h
    exact ⟨rfl, hE8⟩
  | false =>
    intro h
    simp only [cond_true, cond_false, Option.bind_some, Option.bind_assoc, lpK_ret, lpK_brk, lpK_nxt, aft_inl, aft_inr] at h
    refine WC.cf rfl ?_
    refine WC.skip ?_
    refine DN.seq ?_
    refine WC.seq ?_
    refine WC.seq ?_
    refine WC.regS [(0, 2), (1, 1), (2, 2), (3, 1), (4, 2)] rfl ?_
    refine WO.sp rfl rfl rfl rfl (rn_fieldAddr Try.runUnderlying68 rfl Try.sizeOf2 rfl rfl) ?_
    refine WO.sq trivial rfl rfl rfl rfl (rn_loadB hb2 Try.isAgg2 rfl rfl rfl) ?_
    refine WO.sp rfl rfl rfl rfl (rn_fieldAddr Try.runUnderlying68 rfl Try.sizeOf2 rfl rfl) ?_
    refine WO.sq trivial rfl rfl rfl rfl (rn_loadB hb3 Try.isAgg2 rfl rfl rfl) ?_
    refine WO.sp rfl rfl rfl rfl (rn_neq rfl rfl rfl) ?_
    refine WO.fin ?_
    refine DN.seq ?_
    revert h
    cases ht10 : (p0.B != p1.B) with
    | true =>
      intro h
      simp only [cond_true, cond_false, Option.bind_some, Option.bind_assoc, lpK_ret, lpK_brk, lpK_nxt, aft_inl, aft_inr] at h
      refine WC.ct rfl ?_
      refine WC.seq ?_
      refine WC.regS [(0, 2)] rfl ?_
      refine WO.sp rfl rfl rfl rfl (rn_assign rfl rfl) ?_
      refine WO.fin ?_
      refine DN.seq ?_
      refine WC.ret ?_
      refine DN.retThen ?_
      refine DN.ret1 Try.results63 rfl ?_
      obtain rfl := Option.some.inj h
      exact ⟨rfl, hE8⟩
    | false =>
      intro h
      simp only [cond_true, cond_false, Option.bind_some, Option.bind_assoc, lpK_ret, lpK_brk, lpK_nxt, aft_inl, aft_inr] at h
      refine WC.cf rfl ?_
      refine WC.skip ?_
      refine DN.seq ?_
      refine WC.seq ?_
      refine WC.regS [(0, 2)] rfl ?_
      refine WO.sp rfl rfl rfl rfl (rn_assign rfl rfl) ?_
      refine WO.fin ?_
      refine DN.seq ?_
      refine WC.ret ?_
      refine DN.ret1 Try.results63 rfl ?_
      obtain rfl := Option.some.inj h
      exact ⟨rfl, hE8⟩

/- loop.example/g00869/laws.eqGateS -/
def l_eqGateS_b0 (p0 : (List Gate)) (p1 : (List Gate)) (v5 : Int) (s1 : Unit) : Option (Bool ⊕ ((Unit) ⊕ (Unit))) :=
  Option.bind (idx p0 v5) fun x19 =>
  Option.bind (idx p1 v5) fun x23 =>
  Option.bind (l_eqGate x19 x23) fun x25 =>
  bif (!x25) then
    some (.inl (false : Bool))
  else
    some (.inr (.inr ()))
def l_eqGateS (p0 : (List Gate)) (p1 : (List Gate)) : Option (Bool) :=
  bif ((p0.length : Int) != (p1.length : Int)) then
    some (false : Bool)
  else
    Option.bind (cntM (l_eqGateS_b0 p0 p1) p0.length 0 ()) fun q2 =>
    aft (fun r => some r) (fun s3 =>
      some (true : Bool)) q2

theorem l_eqGateS_ok {p0 : (List Gate)} {a0 : Option Addr} {c0 : Nat} {p1 : (List Gate)} {a1 : Option Addr} {c1 : Nat} {w : World} (hs0 : Sl Gate.rp (Fz [] w) w a0 c0 p0) (hs1 : Sl Gate.rp (Fz [] w) w a1 c1 p1) {r : Bool} (h : l_eqGateS p0 p1 = some r) : Ret Try.prog 49 [.slice a0 p0.length c0, .slice a1 p1.length c1] w (fun v w' => v = .bool r ∧ Ext w w') := by
  unfold l_eqGateS at h
  refine Ret.enter Try.func49 rfl Try.ntmps49 rfl ?_
  dsimp only [envOf]
  refine WC.seq ?_
  refine WC.regS [(0, 2)] rfl ?_
  refine WO.sp rfl rfl rfl rfl (rn_assign rfl rfl) ?_
  refine WO.fin ?_
  refine DN.seq ?_
  refine WC.seq ?_
  refine WC.seq ?_
  refine WC.regS [(0, 2), (1, 2), (2, 2), (3, 2), (4, 2)] rfl ?_
  refine WO.sp rfl rfl rfl rfl (rn_move rfl rfl) ?_
  refine WO.sp rfl rfl rfl rfl (rn_len Try.runUnderlying41 rfl rfl) ?_
  refine WO.sp rfl rfl rfl rfl (rn_move rfl rfl) ?_
  refine WO.sp rfl rfl rfl rfl (rn_len Try.runUnderlying41 rfl rfl) ?_
  refine WO.sp rfl rfl rfl rfl (rn_neq rfl rfl rfl) ?_
  refine WO.fin ?_
  refine DN.seq ?_
  revert h
  cases ht1 : ((p0.length : Int) != (p1.length : Int)) with
  | true =>
    intro h
    simp only [cond_true, cond_false, Option.bind_some, Option.bind_assoc, lpK_ret, lpK_brk, lpK_nxt, aft_inl, aft_inr] at h
    refine WC.ct rfl ?_
    refine WC.seq ?_
    refine WC.regS [(0, 2)] rfl ?_
    refine WO.sp rfl rfl rfl rfl (rn_assign rfl rfl) ?_
    refine WO.fin ?_
    refine DN.seq ?_
    refine WC.ret ?_
    refine DN.retThen ?_
    refine DN.ret1 Try.results49 rfl ?_
    obtain rfl := Option.some.inj h
    exact ⟨rfl, (Ext.refl w)⟩
  | false =>
    intro h
    simp only [cond_true, cond_false, Option.bind_some, Option.bind_assoc, lpK_ret, lpK_brk, lpK_nxt, aft_inl, aft_inr] at h
    refine WC.cf rfl ?_
    refine WC.skip ?_
    refine DN.seq ?_
    refine WC.seq ?_
    refine WC.seq ?_
    refine WC.regS [(0, 2)] rfl ?_
    refine WO.sp rfl rfl rfl rfl (rn_assign rfl rfl) ?_
    refine WO.fin ?_
    refine DN.seq ?_
    refine WC.block ?_
    obtain ⟨q2, hq2, hk2⟩ := Option.bind_eq_some_iff.mp h
    clear h
    refine WC.loop (fun k L w' => ∃ (v5 : Int), L = [(0, .slice a0 p0.length c0), (1, .slice a1 p1.length c1), (5, .int .i64 v5)] ∧ Ext w w' ∧ Sl Gate.rp (Fz [] w') w' a0 c0 p0 ∧ Sl Gate.rp (Fz [] w') w' a1 c1 p1 ∧ 0 ≤ v5 ∧ Int.toNat ((p0.length : Int) - v5) = k ∧ cntM (l_eqGateS_b0 p0 p1) k v5 () = some q2) ⟨_, _, ⟨0, rfl, (Ext.refl w), hs0, hs1, (by decide), (by simp), hq2⟩, fun a ha => (ha.more (ha.more (ha.more ha.nil rfl) rfl) rfl)⟩ ?_
    rintro k _ w3 ⟨v5, rfl, hE4, hs0, hs1, hj2, hJ2, h⟩
    rcases k with _ | k
    ·
      simp only [cntM] at h
      have hc2 : decide (v5 < (p0.length : Int)) = false := decide_eq_false (by omega)
      refine WC.seq ?_
      refine WC.seq ?_
      refine WC.regS [(0, 2), (1, 2), (2, 2), (3, 2)] rfl ?_
      refine WO.sp rfl rfl rfl rfl (rn_move rfl rfl) ?_
      refine WO.sp rfl rfl rfl rfl (rn_move rfl rfl) ?_
      refine WO.sp rfl rfl rfl rfl (rn_len Try.runUnderlying41 rfl rfl) ?_
      refine WO.sp rfl rfl rfl rfl (rn_lss rfl rfl rfl) ?_
      refine WO.fin ?_
      refine DN.seq ?_
      refine WC.cf' rfl hc2 ?_
      refine WC.exit ?_
      refine DN.exitThen ?_
      refine DN.exitThen ?_
      obtain rfl := Option.some.inj h
      have h := hk2
      simp only [cond_true, cond_false, Option.bind_some, Option.bind_assoc, lpK_ret, lpK_brk, lpK_nxt, aft_inl, aft_inr] at h
      refine DN.hit ?_
      refine DN.seq ?_
      refine WC.seq ?_
      refine WC.regS [(0, 2)] rfl ?_
      refine WO.sp rfl rfl rfl rfl (rn_assign rfl rfl) ?_
      refine WO.fin ?_
      refine DN.seq ?_
      refine WC.ret ?_
      refine DN.ret1 Try.results49 rfl ?_
      obtain rfl := Option.some.inj h
      exact ⟨rfl, hE4⟩
    ·
      simp only [cntM, l_eqGateS_b0, cond_true, cond_false, Option.bind_some, Option.bind_assoc, lpK_ret, lpK_brk, lpK_nxt, aft_inl, aft_inr] at h
      have hc2 : decide (v5 < (p0.length : Int)) = true := decide_eq_true (by omega)
      refine WC.seq ?_
      refine WC.seq ?_
      refine WC.regS [(0, 2), (1, 2), (2, 2), (3, 2)] rfl ?_
      refine WO.sp rfl rfl rfl rfl (rn_move rfl rfl) ?_
      refine WO.sp rfl rfl rfl rfl (rn_move rfl rfl) ?_
      refine WO.sp rfl rfl rfl rfl (rn_len Try.runUnderlying41 rfl rfl) ?_
      refine WO.sp rfl rfl rfl rfl (rn_lss rfl rfl rfl) ?_
      refine WO.fin ?_
      refine DN.seq ?_
      refine WC.ct' rfl hc2 ?_
      refine WC.skip ?_
      refine DN.seq ?_
      refine WC.seq ?_
      refine WC.block ?_
      refine WC.seq ?_
      refine WC.regX none [(0, 2), (1, 2), (2, 2), (4, 2), (5, 2), (6, 2), (3, 0), (7, 0), (8, 1), (9, 2)] [] (by kernel_rfl) (by kernel_rfl) fun w5 he6 hh7 => ?_
      have hst8 := St.ext (M := []) (Sub.refl _ _) he6
      have hs0 := hs0.stp hst8
      have hs1 := hs1.stp hst8
      have hE9 := hE4.trans he6
      refine WO.sp rfl rfl rfl rfl (rn_move rfl rfl) ?_
      refine WO.sp rfl rfl rfl rfl (rn_move rfl rfl) ?_
      obtain ⟨x19, hx19, h⟩ := Option.bind_eq_some_iff.mp h
      refine WO.sp rfl rfl rfl rfl (rn_index hs0 hx19 Try.runUnderlying41 Try.sizeOf68 rfl rfl rfl rfl) ?_
      refine WO.sp rfl rfl rfl rfl (rn_move rfl rfl) ?_
      refine WO.sp rfl rfl rfl rfl (rn_move rfl rfl) ?_
      obtain ⟨x23, hx23, h⟩ := Option.bind_eq_some_iff.mp h
      refine WO.sp rfl rfl rfl rfl (rn_index hs1 hx23 Try.runUnderlying41 Try.sizeOf68 rfl rfl rfl rfl) ?_
      obtain ⟨csx19, hrx19, hlx19⟩ := (hs0).get hx19
      obtain rfl := Gate.un hrx19
      refine WO.dq rfl rfl rfl rfl (rn_loadAgg Try.isAgg68 Try.sizeOf68 rfl rfl hlx19 rfl) ?_
      obtain ⟨csx23, hrx23, hlx23⟩ := (hs1).get hx23
      obtain rfl := Gate.un hrx23
      refine WO.dq rfl rfl rfl rfl (rn_loadAgg Try.isAgg68 Try.sizeOf68 rfl rfl hlx23 rfl) ?_
      obtain ⟨x25, hx25, h⟩ := Option.bind_eq_some_iff.mp h
      refine WO.call rfl rfl rfl rfl rfl rfl Try.call63 (l_eqGate_ok  hx25) ?_
      rintro _ w10 ⟨rfl, he11⟩
      have hx12 := he11
      refine ⟨hx12.cw, ?_⟩
      have hst13 := St.ext (M := []) (Sub.refl _ _) he11
      have hz14 := hst13
      have hs0 := hs0.stp hst13
      have hs1 := hs1.stp hst13
      have hE15 := hE9.trans he11
      refine WO.sp rfl rfl rfl rfl (rn_not rfl rfl) ?_
      refine WO.nx ?_
      refine WO.fin ?_
      refine DN.seq ?_
      revert h
      cases ht16 : (!x25) with
      | true =>
        intro h
        simp only [cond_true, cond_false, Option.bind_some, Option.bind_assoc, lpK_ret, lpK_brk, lpK_nxt, aft_inl, aft_inr] at h
        refine WC.ct rfl ?_
        refine WC.seq ?_
        refine WC.regS [(0, 2)] rfl ?_
        refine WO.sp rfl rfl rfl rfl (rn_assign rfl rfl) ?_
        refine WO.fin ?_
        refine DN.seq ?_
        refine WC.ret ?_
        refine DN.retBlock ?_
        refine DN.retThen ?_
        refine DN.retThen ?_
        obtain rfl := Option.some.inj h
        have h := hk2
        simp only [cond_true, cond_false, Option.bind_some, Option.bind_assoc, lpK_ret, lpK_brk, lpK_nxt, aft_inl, aft_inr] at h
        refine DN.retBlock ?_
        refine DN.retThen ?_
        refine DN.ret1 Try.results49 rfl ?_
        obtain rfl := Option.some.inj h
        exact ⟨rfl, hE15⟩
      | false =>
        intro h
        simp only [cond_true, cond_false, Option.bind_some, Option.bind_assoc, lpK_ret, lpK_brk, lpK_nxt, aft_inl, aft_inr] at h
        refine WC.cf rfl ?_
        refine WC.skip ?_
        refine DN.block ?_
        refine DN.seq ?_
        refine WC.regS [(0, 2), (1, 2), (2, 2)] rfl ?_
        refine WO.sp rfl rfl rfl rfl (rn_move rfl rfl) ?_
        refine WO.sp rfl rfl rfl rfl (rn_add rfl rfl rfl) ?_
        refine WO.sp rfl rfl rfl rfl (rn_assign rfl rfl) ?_
        refine WO.fin ?_
        have hw2 : IntKind.wrap .i64 (v5 + 1) = v5 + 1 := wr1 hj2 (of_decide_eq_true hc2) hs0.len_le
        rw [hw2]
        have hc2 := of_decide_eq_true hc2
        refine DN.round fun a ha => ?_
        exact ⟨k, _, Nat.lt_succ_self _, ⟨v5 + 1, rfl, hE15, hs0, hs1, by omega, by omega, h⟩, (ha.more (ha.more (ha.more ha.nil rfl) rfl) rfl)⟩

/- loop.example/g00869/laws.eqCircuit -/
def l_eqCircuit (p0 : Circuit) (p1 : Circuit) : Option (Bool) :=
  bif (p0.Inputs != p1.Inputs) then
    some (false : Bool)
  else
    bif (p0.Latches != p1.Latches) then
      some (false : Bool)
    else
      Option.bind (l_eqInt64S p0.Next p1.Next) fun x19 =>
      bif (!x19) then
        some (false : Bool)
      else
        Option.bind (l_eqGateS p0.Gates p1.Gates) fun x25 =>
        bif (!x25) then
          some (false : Bool)
        else
          Option.bind (l_eqInt64S p0.Outs p1.Outs) fun x31 =>
          bif (!x31) then
            some (false : Bool)
          else
            some (true : Bool)

theorem l_eqCircuit_ok {p0 : Circuit} {a0_2 : Option Addr} {c0_2 : Nat} {a0_3 : Option Addr} {c0_3 : Nat} {a0_4 : Option Addr} {c0_4 : Nat} {p1 : Circuit} {a1_2 : Option Addr} {c1_2 : Nat} {a1_3 : Option Addr} {c1_3 : Nat} {a1_4 : Option Addr} {c1_4 : Nat} {w : World} (hs0_2 : Sl (Rp.int .i64) (Fz [] w) w a0_2 c0_2 p0.Next) (hs0_3 : Sl Gate.rp (Fz [] w) w a0_3 c0_3 p0.Gates) (hs0_4 : Sl (Rp.int .i64) (Fz [] w) w a0_4 c0_4 p0.Outs) (hs1_2 : Sl (Rp.int .i64) (Fz [] w) w a1_2 c1_2 p1.Next) (hs1_3 : Sl Gate.rp (Fz [] w) w a1_3 c1_3 p1.Gates) (hs1_4 : Sl (Rp.int .i64) (Fz [] w) w a1_4 c1_4 p1.Outs) {r : Bool} (h : l_eqCircuit p0 p1 = some r) : Ret Try.prog 19 [.agg #[.int .i64 p0.Inputs, .int .i64 p0.Latches, .slice a0_2 p0.Next.length c0_2, .slice a0_3 p0.Gates.length c0_3, .slice a0_4 p0.Outs.length c0_4], .agg #[.int .i64 p1.Inputs, .int .i64 p1.Latches, .slice a1_2 p1.Next.length c1_2, .slice a1_3 p1.Gates.length c1_3, .slice a1_4 p1.Outs.length c1_4]] w (fun v w' => v = .bool r ∧ Ext w w') := by
  unfold l_eqCircuit at h
  refine Ret.enter Try.func19 rfl Try.ntmps19 rfl ?_
  dsimp only [envOf]
  refine WC.seq ?_
  refine WC.regS [(0, 1), (1, 1), (2, 2)] rfl ?_
  have hle2 : ∀ m, m ∈ [] → m ≤ w.heap.size := (le_nil _)
  refine WO.box rfl rfl rfl rfl rfl rfl rfl ?_
  intro b2 w1 he2 hbe2 hb2
  refine ⟨trivial, ?_⟩
  have hst3 := St.ext (M := []) (Sub.refl _ _) he2
  have hs0_2 := hs0_2.stp hst3
  have hs0_3 := hs0_3.stp hst3
  have hs0_4 := hs0_4.stp hst3
  have hs1_2 := hs1_2.stp hst3
  have hs1_3 := hs1_3.stp hst3
  have hs1_4 := hs1_4.stp hst3
  have hE4 := he2
  have hb2 : Bf [] w1 b2 43 [.int .i64 p0.Inputs, .int .i64 p0.Latches, .slice a0_2 p0.Next.length c0_2, .slice a0_3 p0.Gates.length c0_3, .slice a0_4 p0.Outs.length c0_4] := ⟨hb2, hb2.lt, fun hm => by have := hle2 _ hm; omega⟩
  have hle3 : ∀ m, m ∈ [] → m ≤ w1.heap.size := (le_nil _)
  refine WO.box rfl rfl rfl rfl rfl rfl rfl ?_
  intro b3 w5 he6 hbe3 hb3
  refine ⟨trivial, ?_⟩
  have hst7 := St.ext (M := []) (Sub.refl _ _) he6
  have hs0_2 := hs0_2.stp hst7
  have hs0_3 := hs0_3.stp hst7
  have hs0_4 := hs0_4.stp hst7
  have hs1_2 := hs1_2.stp hst7
  have hs1_3 := hs1_3.stp hst7
  have hs1_4 := hs1_4.stp hst7
  have hb2 := hb2.stp hst7
  have hE8 := hE4.trans he6
  have hb3 : Bf [] w5 b3 43 [.int .i64 p1.Inputs, .int .i64 p1.Latches, .slice a1_2 p1.Next.length c1_2, .slice a1_3 p1.Gates.length c1_3, .slice a1_4 p1.Outs.length c1_4] := ⟨hb3, hb3.lt, fun hm => by have := hle3 _ hm; omega⟩
  refine WO.sp rfl rfl rfl rfl (rn_assign rfl rfl) ?_
  refine WO.fin ?_
  refine DN.seq ?_
  refine WC.seq ?_
  refine WC.seq ?_
  refine WC.regS [(0, 2), (1, 1), (2, 2), (3, 1), (4, 2)] rfl ?_
  refine WO.sp rfl rfl rfl rfl (rn_fieldAddr Try.runUnderlying43 rfl Try.sizeOf2 rfl rfl) ?_
  refine WO.sq trivial rfl rfl rfl rfl (rn_loadB hb2 Try.isAgg2 rfl rfl rfl) ?_
  refine WO.sp rfl rfl rfl rfl (rn_fieldAddr Try.runUnderlying43 rfl Try.sizeOf2 rfl rfl) ?_
  refine WO.sq trivial rfl rfl rfl rfl (rn_loadB hb3 Try.isAgg2 rfl rfl rfl) ?_
  refine WO.sp rfl rfl rfl rfl (rn_neq rfl rfl rfl) ?_
  refine WO.fin ?_
  refine DN.seq ?_
  revert h
  cases ht9 : (p0.Inputs != p1.Inputs) with
  | true =>
    intro h
    simp only [cond_true, cond_false, Option.bind_some, Option.bind_assoc, lpK_ret, lpK_brk, lpK_nxt, aft_inl, aft_inr] at h
    refine WC.ct rfl ?_
    refine WC.seq ?_
    refine WC.regS [(0, 2)] rfl ?_
    refine WO.sp rfl rfl rfl rfl (rn_assign rfl rfl) ?_
    refine WO.fin ?_
    refine DN.seq ?_
    refine WC.ret ?_
    refine DN.retThen ?_
    refine DN.ret1 Try.results19 rfl ?_
    obtain rfl := Option.some.inj h
    exact ⟨rfl, hE8⟩
  | false =>
    intro h
    simp only [cond_true, cond_false, Option.bind_some, Option.bind_assoc, lpK_ret, lpK_brk, lpK_nxt, aft_inl, aft_inr] at h
    refine WC.cf rfl ?_
    refine WC.skip ?_
    refine DN.seq ?_
    refine WC.seq ?_
    refine WC.seq ?_
    refine WC.regS [(0, 2), (1, 1), (2, 2), (3, 1), (4, 2)] rfl ?_
    refine WO.sp rfl rfl rfl rfl (rn_fieldAddr Try.runUnderlying43 rfl Try.sizeOf2 rfl rfl) ?_
    refine WO.sq trivial rfl rfl rfl rfl (rn_loadB hb2 Try.isAgg2 rfl rfl rfl) ?_
    refine WO.sp rfl rfl rfl rfl (rn_fieldAddr Try.runUnderlying43 rfl Try.sizeOf2 rfl rfl) ?_
    refine WO.sq trivial rfl rfl rfl rfl (rn_loadB hb3 Try.isAgg2 rfl rfl rfl) ?_
    refine WO.sp rfl rfl rfl rfl (rn_neq rfl rfl rfl) ?_
    refine WO.fin ?_
    refine DN.seq ?_
    revert h
    cases ht10 : (p0.Latches != p1.Latches) with
    | true =>
      intro h
      simp only [cond_true, cond_false, Option.bind_some, Option.bind_assoc, lpK_ret, lpK_brk, lpK_nxt, aft_inl, aft_inr] at h
      refine WC.ct rfl ?_
      refine WC.seq ?_
      refine WC.regS [(0, 2)] rfl ?_
      refine WO.sp rfl rfl rfl rfl (rn_assign rfl rfl) ?_
      refine WO.fin ?_
      refine DN.seq ?_
      refine WC.ret ?_
      refine DN.retThen ?_
      refine DN.ret1 Try.results19 rfl ?_
      obtain rfl := Option.some.inj h
      exact ⟨rfl, hE8⟩
    | false =>
      intro h
      simp only [cond_true, cond_false, Option.bind_some, Option.bind_assoc, lpK_ret, lpK_brk, lpK_nxt, aft_inl, aft_inr] at h
      refine WC.cf rfl ?_
      refine WC.skip ?_
      refine DN.seq ?_
      refine WC.seq ?_
      refine WC.seq ?_
      refine WC.regS [(0, 2), (1, 1), (2, 2), (3, 1), (4, 1), (5, 2)] rfl ?_
      refine WO.sp rfl rfl rfl rfl (rn_fieldAddr Try.runUnderlying43 rfl Try.sizeOf24 rfl rfl) ?_
      refine WO.sq trivial rfl rfl rfl rfl (rn_loadB hb2 Try.isAgg24 rfl rfl rfl) ?_
      refine WO.sp rfl rfl rfl rfl (rn_fieldAddr Try.runUnderlying43 rfl Try.sizeOf24 rfl rfl) ?_
      refine WO.sq trivial rfl rfl rfl rfl (rn_loadB hb3 Try.isAgg24 rfl rfl rfl) ?_
      obtain ⟨x19, hx19, h⟩ := Option.bind_eq_some_iff.mp h
      refine WO.call rfl rfl rfl rfl rfl rfl Try.call27 (l_eqInt64S_ok (hs0_2.toE (Ext.refl _)) (hs1_2.toE (Ext.refl _)) hx19) ?_
      rintro _ w11 ⟨rfl, he12⟩
      refine ⟨trivial, ?_⟩
      have hst13 := St.ext (M := []) (Sub.refl _ _) he12
      have hs0_2 := hs0_2.stp hst13
      have hs0_3 := hs0_3.stp hst13
      have hs0_4 := hs0_4.stp hst13
      have hs1_2 := hs1_2.stp hst13
      have hs1_3 := hs1_3.stp hst13
      have hs1_4 := hs1_4.stp hst13
      have hb2 := hb2.stp hst13
      have hb3 := hb3.stp hst13
      have hE14 := hE8.trans he12
      refine WO.sp rfl rfl rfl rfl (rn_not rfl rfl) ?_
      refine WO.fin ?_
      refine DN.seq ?_
      revert h
      cases ht15 : (!x19) with
      | true =>
        intro h
        simp only [cond_true, cond_false, Option.bind_some, Option.bind_assoc, lpK_ret, lpK_brk, lpK_nxt, aft_inl, aft_inr] at h
        refine WC.ct rfl ?_
        refine WC.seq ?_
        refine WC.regS [(0, 2)] rfl ?_
        refine WO.sp rfl rfl rfl rfl (rn_assign rfl rfl) ?_
        refine WO.fin ?_
        refine DN.seq ?_
        refine WC.ret ?_
        refine DN.retThen ?_
        refine DN.ret1 Try.results19 rfl ?_
        obtain rfl := Option.some.inj h
        exact ⟨rfl, hE14⟩
      | false =>
        intro h
        simp only [cond_true, cond_false, Option.bind_some, Option.bind_assoc, lpK_ret, lpK_brk, lpK_nxt, aft_inl, aft_inr] at h
        refine WC.cf rfl ?_
        refine WC.skip ?_
        refine DN.seq ?_
        refine WC.seq ?_
        refine WC.seq ?_
        refine WC.regS [(0, 2), (1, 1), (2, 2), (3, 1), (4, 1), (5, 2)] rfl ?_
        refine WO.sp rfl rfl rfl rfl (rn_fieldAddr Try.runUnderlying43 rfl Try.sizeOf41 rfl rfl) ?_
        refine WO.sq trivial rfl rfl rfl rfl (rn_loadB hb2 Try.isAgg41 rfl rfl rfl) ?_
        refine WO.sp rfl rfl rfl rfl (rn_fieldAddr Try.runUnderlying43 rfl Try.sizeOf41 rfl rfl) ?_
        refine WO.sq trivial rfl rfl rfl rfl (rn_loadB hb3 Try.isAgg41 rfl rfl rfl) ?_
        obtain ⟨x25, hx25, h⟩ := Option.bind_eq_some_iff.mp h
        refine WO.call rfl rfl rfl rfl rfl rfl Try.call49 (l_eqGateS_ok (hs0_3.toE (Ext.refl _)) (hs1_3.toE (Ext.refl _)) hx25) ?_
        rintro _ w16 ⟨rfl, he17⟩
        refine ⟨trivial, ?_⟩
        have hst18 := St.ext (M := []) (Sub.refl _ _) he17
        have hs0_2 := hs0_2.stp hst18
        have hs0_3 := hs0_3.stp hst18
        have hs0_4 := hs0_4.stp hst18
        have hs1_2 := hs1_2.stp hst18
        have hs1_3 := hs1_3.stp hst18
        have hs1_4 := hs1_4.stp hst18
        have hb2 := hb2.stp hst18
        have hb3 := hb3.stp hst18
        have hE19 := hE14.trans he17
        refine WO.sp rfl rfl rfl rfl (rn_not rfl rfl) ?_
        refine WO.fin ?_
        refine DN.seq ?_
        revert h
        cases ht20 : (!x25) with
        | true =>
          intro h
          simp only [cond_true, cond_false, Option.bind_some, Option.bind_assoc, lpK_ret, lpK_brk, lpK_nxt, aft_inl, aft_inr] at h
          refine WC.ct rfl ?_
          refine WC.seq ?_
          refine WC.regS [(0, 2)] rfl ?_
          refine WO.sp rfl rfl rfl rfl (rn_assign rfl rfl) ?_
          refine WO.fin ?_
          refine DN.seq ?_
          refine WC.ret ?_
          refine DN.retThen ?_
          refine DN.ret1 Try.results19 rfl ?_
          obtain rfl := Option.some.inj h
          exact ⟨rfl, hE19⟩
        | false =>
          intro h
          simp only [cond_true, cond_false, Option.bind_some, Option.bind_assoc, lpK_ret, lpK_brk, lpK_nxt, aft_inl, aft_inr] at h
          refine WC.cf rfl ?_
          refine WC.skip ?_
          refine DN.seq ?_
          refine WC.seq ?_
          refine WC.seq ?_
          refine WC.regS [(0, 2), (1, 1), (2, 2), (3, 1), (4, 1), (5, 2)] rfl ?_
          refine WO.sp rfl rfl rfl rfl (rn_fieldAddr Try.runUnderlying43 rfl Try.sizeOf24 rfl rfl) ?_
          refine WO.sq trivial rfl rfl rfl rfl (rn_loadB hb2 Try.isAgg24 rfl rfl rfl) ?_
          refine WO.sp rfl rfl rfl rfl (rn_fieldAddr Try.runUnderlying43 rfl Try.sizeOf24 rfl rfl) ?_
          refine WO.sq trivial rfl rfl rfl rfl (rn_loadB hb3 Try.isAgg24 rfl rfl rfl) ?_
          obtain ⟨x31, hx31, h⟩ := Option.bind_eq_some_iff.mp h
          refine WO.call rfl rfl rfl rfl rfl rfl Try.call27 (l_eqInt64S_ok (hs0_4.toE (Ext.refl _)) (hs1_4.toE (Ext.refl _)) hx31) ?_
          rintro _ w21 ⟨rfl, he22⟩
          refine ⟨trivial, ?_⟩
          have hst23 := St.ext (M := []) (Sub.refl _ _) he22
          have hs0_2 := hs0_2.stp hst23
          have hs0_3 := hs0_3.stp hst23
          have hs0_4 := hs0_4.stp hst23
          have hs1_2 := hs1_2.stp hst23
          have hs1_3 := hs1_3.stp hst23
          have hs1_4 := hs1_4.stp hst23
          have hb2 := hb2.stp hst23
          have hb3 := hb3.stp hst23
          have hE24 := hE19.trans he22
          refine WO.sp rfl rfl rfl rfl (rn_not rfl rfl) ?_
          refine WO.fin ?_
          refine DN.seq ?_
          revert h
          cases ht25 : (!x31) with
          | true =>
            intro h
            simp only [cond_true, cond_false, Option.bind_some, Option.bind_assoc, lpK_ret, lpK_brk, lpK_nxt, aft_inl, aft_inr] at h
            refine WC.ct rfl ?_
            refine WC.seq ?_
            refine WC.regS [(0, 2)] rfl ?_
            refine WO.sp rfl rfl rfl rfl (rn_assign rfl rfl) ?_
            refine WO.fin ?_
            refine DN.seq ?_
            refine WC.ret ?_
            refine DN.retThen ?_
            refine DN.ret1 Try.results19 rfl ?_
            obtain rfl := Option.some.inj h
            exact ⟨rfl, hE24⟩
          | false =>
            intro h
            simp only [cond_true, cond_false, Option.bind_some, Option.bind_assoc, lpK_ret, lpK_brk, lpK_nxt, aft_inl, aft_inr] at h
            refine WC.cf rfl ?_
            refine WC.skip ?_
            refine DN.seq ?_
            refine WC.seq ?_
            refine WC.regS [(0, 2)] rfl ?_
            refine WO.sp rfl rfl rfl rfl (rn_assign rfl rfl) ?_
            refine WO.fin ?_
            refine DN.seq ?_
            refine WC.ret ?_
            refine DN.ret1 Try.results19 rfl ?_
            obtain rfl := Option.some.inj h
            exact ⟨rfl, hE24⟩

/- loop.example/g00869/laws.szGateS -/
def l_szGateS (p0 : (List Gate)) (p1 : Int) : Option (Int) :=
  bif decide ((IntKind.i64.wrap (p1 - (p0.length : Int))) < 0) then
    some ((-1) : Int)
  else
    some ((IntKind.i64.wrap (p1 - (p0.length : Int))) : Int)

theorem l_szGateS_ok {p0 : (List Gate)} {a0 : Option Addr} {c0 : Nat} {p1 : Int} {w : World} (hs0 : Sl Gate.rp (Fz [] w) w a0 c0 p0) {r : Int} (h : l_szGateS p0 p1 = some r) : Ret Try.prog 44 [.slice a0 p0.length c0, .int .i64 p1] w (fun v w' => v = .int .i64 r ∧ Ext w w') := by
  unfold l_szGateS at h
  refine Ret.enter Try.func44 rfl Try.ntmps44 rfl ?_
  dsimp only [envOf]
  refine WC.seq ?_
  refine WC.regS [(0, 2)] rfl ?_
  refine WO.sp rfl rfl rfl rfl (rn_assign rfl rfl) ?_
  refine WO.fin ?_
  refine DN.seq ?_
  refine WC.seq ?_
  refine WC.regS [(0, 2), (1, 2), (2, 2), (3, 2), (4, 2)] rfl ?_
  refine WO.sp rfl rfl rfl rfl (rn_move rfl rfl) ?_
  refine WO.sp rfl rfl rfl rfl (rn_move rfl rfl) ?_
  refine WO.sp rfl rfl rfl rfl (rn_len Try.runUnderlying36 rfl rfl) ?_
  refine WO.sp rfl rfl rfl rfl (rn_sub rfl rfl rfl) ?_
  refine WO.sp rfl rfl rfl rfl (rn_assign rfl rfl) ?_
  refine WO.fin ?_
  refine DN.seq ?_
  refine WC.seq ?_
  refine WC.seq ?_
  refine WC.regS [(0, 2), (1, 2)] rfl ?_
  refine WO.sp rfl rfl rfl rfl (rn_move rfl rfl) ?_
  refine WO.sp rfl rfl rfl rfl (rn_lss rfl rfl rfl) ?_
  refine WO.fin ?_
  refine DN.seq ?_
  revert h
  cases ht1 : decide ((IntKind.i64.wrap (p1 - (p0.length : Int))) < 0) with
  | true =>
    intro h
    simp only [cond_true, cond_false, Option.bind_some, Option.bind_assoc, lpK_ret, lpK_brk, lpK_nxt, aft_inl, aft_inr] at h
    refine WC.ct rfl ?_
    refine WC.seq ?_
    refine WC.regS [(0, 2)] rfl ?_
    refine WO.sp rfl rfl rfl rfl (rn_assign rfl rfl) ?_
    refine WO.fin ?_
    refine DN.seq ?_
    refine WC.ret ?_
    refine DN.retThen ?_
    refine DN.ret1 Try.results44 rfl ?_
    obtain rfl := Option.some.inj h
    exact ⟨rfl, (Ext.refl w)⟩
  | false =>
    intro h
    simp only [cond_true, cond_false, Option.bind_some, Option.bind_assoc, lpK_ret, lpK_brk, lpK_nxt, aft_inl, aft_inr] at h
    refine WC.cf rfl ?_
    refine WC.skip ?_
    refine DN.seq ?_
    refine WC.seq ?_
    refine WC.regS [(0, 2), (1, 2)] rfl ?_
    refine WO.sp rfl rfl rfl rfl (rn_move rfl rfl) ?_
    refine WO.sp rfl rfl rfl rfl (rn_assign rfl rfl) ?_
    refine WO.fin ?_
    refine DN.seq ?_
    refine WC.ret ?_
    refine DN.ret1 Try.results44 rfl ?_
    obtain rfl := Option.some.inj h
    exact ⟨rfl, (Ext.refl w)⟩

/- loop.example/g00869/laws.szCircuit -/
def l_szCircuit (p0 : Circuit) (p1 : Int) : Option (Int) :=
  Option.bind (l_szInt64S p0.Next p1) fun x8 =>
  bif decide (x8 < 0) then
    some ((-1) : Int)
  else
    Option.bind (l_szGateS p0.Gates x8) fun x14 =>
    bif decide (x14 < 0) then
      some ((-1) : Int)
    else
      Option.bind (l_szInt64S p0.Outs x14) fun x20 =>
      bif decide (x20 < 0) then
        some ((-1) : Int)
      else
        some (x20 : Int)

theorem l_szCircuit_ok {p0 : Circuit} {a0_2 : Option Addr} {c0_2 : Nat} {a0_3 : Option Addr} {c0_3 : Nat} {a0_4 : Option Addr} {c0_4 : Nat} {p1 : Int} {w : World} (hs0_2 : Sl (Rp.int .i64) (Fz [] w) w a0_2 c0_2 p0.Next) (hs0_3 : Sl Gate.rp (Fz [] w) w a0_3 c0_3 p0.Gates) (hs0_4 : Sl (Rp.int .i64) (Fz [] w) w a0_4 c0_4 p0.Outs) {r : Int} (h : l_szCircuit p0 p1 = some r) : Ret Try.prog 15 [.agg #[.int .i64 p0.Inputs, .int .i64 p0.Latches, .slice a0_2 p0.Next.length c0_2, .slice a0_3 p0.Gates.length c0_3, .slice a0_4 p0.Outs.length c0_4], .int .i64 p1] w (fun v w' => v = .int .i64 r ∧ Ext w w') := by
  unfold l_szCircuit at h
  refine Ret.enter Try.func15 rfl Try.ntmps15 rfl ?_
  dsimp only [envOf]
  refine WC.seq ?_
  refine WC.regS [(0, 1), (1, 2)] rfl ?_
  have hle2 : ∀ m, m ∈ [] → m ≤ w.heap.size := (le_nil _)
  refine WO.box rfl rfl rfl rfl rfl rfl rfl ?_
  intro b2 w1 he2 hbe2 hb2
  refine ⟨trivial, ?_⟩
  have hst3 := St.ext (M := []) (Sub.refl _ _) he2
  have hs0_2 := hs0_2.stp hst3
  have hs0_3 := hs0_3.stp hst3
  have hs0_4 := hs0_4.stp hst3
  have hE4 := he2
  have hb2 : Bf [] w1 b2 38 [.int .i64 p0.Inputs, .int .i64 p0.Latches, .slice a0_2 p0.Next.length c0_2, .slice a0_3 p0.Gates.length c0_3, .slice a0_4 p0.Outs.length c0_4] := ⟨hb2, hb2.lt, fun hm => by have := hle2 _ hm; omega⟩
  refine WO.sp rfl rfl rfl rfl (rn_assign rfl rfl) ?_
  refine WO.fin ?_
  refine DN.seq ?_
  refine WC.seq ?_
  refine WC.regS [(0, 2), (1, 1), (2, 2), (3, 1), (4, 2)] rfl ?_
  refine WO.sp rfl rfl rfl rfl (rn_fieldAddr Try.runUnderlying38 rfl Try.sizeOf24 rfl rfl) ?_
  refine WO.sq trivial rfl rfl rfl rfl (rn_loadB hb2 Try.isAgg24 rfl rfl rfl) ?_
  refine WO.sp rfl rfl rfl rfl (rn_move rfl rfl) ?_
  obtain ⟨x8, hx8, h⟩ := Option.bind_eq_some_iff.mp h
  refine WO.call rfl rfl rfl rfl rfl rfl Try.call33 (l_szInt64S_ok (hs0_2.toE (Ext.refl _)) hx8) ?_
  rintro _ w5 ⟨rfl, he6⟩
  refine ⟨trivial, ?_⟩
  have hst7 := St.ext (M := []) (Sub.refl _ _) he6
  have hs0_2 := hs0_2.stp hst7
  have hs0_3 := hs0_3.stp hst7
  have hs0_4 := hs0_4.stp hst7
  have hb2 := hb2.stp hst7
  have hE8 := hE4.trans he6
  refine WO.sp rfl rfl rfl rfl (rn_assign rfl rfl) ?_
  refine WO.fin ?_
  refine DN.seq ?_
  refine WC.seq ?_
  refine WC.seq ?_
  refine WC.regS [(0, 2), (1, 2)] rfl ?_
  refine WO.sp rfl rfl rfl rfl (rn_move rfl rfl) ?_
  refine WO.sp rfl rfl rfl rfl (rn_lss rfl rfl rfl) ?_
  refine WO.fin ?_
  refine DN.seq ?_
  revert h
  cases ht9 : decide (x8 < 0) with
  | true =>
    intro h
    simp only [cond_true, cond_false, Option.bind_some, Option.bind_assoc, lpK_ret, lpK_brk, lpK_nxt, aft_inl, aft_inr] at h
    refine WC.ct rfl ?_
    refine WC.seq ?_
    refine WC.regS [(0, 2)] rfl ?_
    refine WO.sp rfl rfl rfl rfl (rn_assign rfl rfl) ?_
    refine WO.fin ?_
    refine DN.seq ?_
    refine WC.ret ?_
    refine DN.retThen ?_
    refine DN.ret1 Try.results15 rfl ?_
    obtain rfl := Option.some.inj h
    exact ⟨rfl, hE8⟩
  | false =>
    intro h
    simp only [cond_true, cond_false, Option.bind_some, Option.bind_assoc, lpK_ret, lpK_brk, lpK_nxt, aft_inl, aft_inr] at h
    refine WC.cf rfl ?_
    refine WC.skip ?_
    refine DN.seq ?_
    refine WC.seq ?_
    refine WC.regS [(0, 2), (1, 1), (2, 2), (3, 1), (4, 2)] rfl ?_
    refine WO.sp rfl rfl rfl rfl (rn_fieldAddr Try.runUnderlying38 rfl Try.sizeOf36 rfl rfl) ?_
    refine WO.sq trivial rfl rfl rfl rfl (rn_loadB hb2 Try.isAgg36 rfl rfl rfl) ?_
    refine WO.sp rfl rfl rfl rfl (rn_move rfl rfl) ?_
    obtain ⟨x14, hx14, h⟩ := Option.bind_eq_some_iff.mp h
    refine WO.call rfl rfl rfl rfl rfl rfl Try.call44 (l_szGateS_ok (hs0_3.toE (Ext.refl _)) hx14) ?_
    rintro _ w10 ⟨rfl, he11⟩
    refine ⟨trivial, ?_⟩
    have hst12 := St.ext (M := []) (Sub.refl _ _) he11
    have hs0_2 := hs0_2.stp hst12
    have hs0_3 := hs0_3.stp hst12
    have hs0_4 := hs0_4.stp hst12
    have hb2 := hb2.stp hst12
    have hE13 := hE8.trans he11
    refine WO.sp rfl rfl rfl rfl (rn_assign rfl rfl) ?_
    refine WO.fin ?_
    refine DN.seq ?_
    refine WC.seq ?_
    refine WC.seq ?_
    refine WC.regS [(0, 2), (1, 2)] rfl ?_
    refine WO.sp rfl rfl rfl rfl (rn_move rfl rfl) ?_
    refine WO.sp rfl rfl rfl rfl (rn_lss rfl rfl rfl) ?_
    refine WO.fin ?_
    refine DN.seq ?_
    revert h
    cases ht14 : decide (x14 < 0) with
    | true =>
      intro h
      simp only [cond_true, cond_false, Option.bind_some, Option.bind_assoc, lpK_ret, lpK_brk, lpK_nxt, aft_inl, aft_inr] at h
      refine WC.ct rfl ?_
      refine WC.seq ?_
      refine WC.regS [(0, 2)] rfl ?_
      refine WO.sp rfl rfl rfl rfl (rn_assign rfl rfl) ?_
      refine WO.fin ?_
      refine DN.seq ?_
      refine WC.ret ?_
      refine DN.retThen ?_
      refine DN.ret1 Try.results15 rfl ?_
      obtain rfl := Option.some.inj h
      exact ⟨rfl, hE13⟩
    | false =>
      intro h
      simp only [cond_true, cond_false, Option.bind_some, Option.bind_assoc, lpK_ret, lpK_brk, lpK_nxt, aft_inl, aft_inr] at h
      refine WC.cf rfl ?_
      refine WC.skip ?_
      refine DN.seq ?_
      refine WC.seq ?_
      refine WC.regS [(0, 2), (1, 1), (2, 2), (3, 1), (4, 2)] rfl ?_
      refine WO.sp rfl rfl rfl rfl (rn_fieldAddr Try.runUnderlying38 rfl Try.sizeOf24 rfl rfl) ?_
      refine WO.sq trivial rfl rfl rfl rfl (rn_loadB hb2 Try.isAgg24 rfl rfl rfl) ?_
      refine WO.sp rfl rfl rfl rfl (rn_move rfl rfl) ?_
      obtain ⟨x20, hx20, h⟩ := Option.bind_eq_some_iff.mp h
      refine WO.call rfl rfl rfl rfl rfl rfl Try.call33 (l_szInt64S_ok (hs0_4.toE (Ext.refl _)) hx20) ?_
      rintro _ w15 ⟨rfl, he16⟩
      refine ⟨trivial, ?_⟩
      have hst17 := St.ext (M := []) (Sub.refl _ _) he16
      have hs0_2 := hs0_2.stp hst17
      have hs0_3 := hs0_3.stp hst17
      have hs0_4 := hs0_4.stp hst17
      have hb2 := hb2.stp hst17
      have hE18 := hE13.trans he16
      refine WO.sp rfl rfl rfl rfl (rn_assign rfl rfl) ?_
      refine WO.fin ?_
      refine DN.seq ?_
      refine WC.seq ?_
      refine WC.seq ?_
      refine WC.regS [(0, 2), (1, 2)] rfl ?_
      refine WO.sp rfl rfl rfl rfl (rn_move rfl rfl) ?_
      refine WO.sp rfl rfl rfl rfl (rn_lss rfl rfl rfl) ?_
      refine WO.fin ?_
      refine DN.seq ?_
      revert h
      cases ht19 : decide (x20 < 0) with
      | true =>
        intro h
        simp only [cond_true, cond_false, Option.bind_some, Option.bind_assoc, lpK_ret, lpK_brk, lpK_nxt, aft_inl, aft_inr] at h
        refine WC.ct rfl ?_
        refine WC.seq ?_
        refine WC.regS [(0, 2)] rfl ?_
        refine WO.sp rfl rfl rfl rfl (rn_assign rfl rfl) ?_
        refine WO.fin ?_
        refine DN.seq ?_
        refine WC.ret ?_
        refine DN.retThen ?_
        refine DN.ret1 Try.results15 rfl ?_
        obtain rfl := Option.some.inj h
        exact ⟨rfl, hE18⟩
      | false =>
        intro h
        simp only [cond_true, cond_false, Option.bind_some, Option.bind_assoc, lpK_ret, lpK_brk, lpK_nxt, aft_inl, aft_inr] at h
        refine WC.cf rfl ?_
        refine WC.skip ?_
        refine DN.seq ?_
        refine WC.seq ?_
        refine WC.regS [(0, 2), (1, 2)] rfl ?_
        refine WO.sp rfl rfl rfl rfl (rn_move rfl rfl) ?_
        refine WO.sp rfl rfl rfl rfl (rn_assign rfl rfl) ?_
        refine WO.fin ?_
        refine DN.seq ?_
        refine WC.ret ?_
        refine DN.ret1 Try.results15 rfl ?_
        obtain rfl := Option.some.inj h
        exact ⟨rfl, hE18⟩

/- loop.example/g00869/laws.FnExactCircuitOk -/
def l_FnExactCircuitOk (p0 : Circuit) : Option (Bool) :=
  Option.bind (l_szCircuit p0 1048576) fun x9 =>
  bif decide (x9 < 0) then
    some (true : Bool)
  else
    Option.bind (l_toCircuit p0) fun x13 =>
    Option.bind (s_CircuitOk x13) fun x14 =>
    Option.bind (l_toCircuit p0) fun x16 =>
    Option.bind (i_CircuitOk x16) fun x18 =>
    bif (x18 != x14) then
      some (false : Bool)
    else
      Option.bind (l_toCircuit p0) fun x24 =>
      Option.bind (l_eqCircuit x16 x24) fun x25 =>
      bif (!x25) then
        some (false : Bool)
      else
        some (true : Bool)

theorem l_FnExactCircuitOk_ok {p0 : Circuit} {a0_2 : Option Addr} {c0_2 : Nat} {a0_3 : Option Addr} {c0_3 : Nat} {a0_4 : Option Addr} {c0_4 : Nat} {w : World} (hs0_2 : Sl (Rp.int .i64) (Fz [] w) w a0_2 c0_2 p0.Next) (hs0_3 : Sl Gate.rp (Fz [] w) w a0_3 c0_3 p0.Gates) (hs0_4 : Sl (Rp.int .i64) (Fz [] w) w a0_4 c0_4 p0.Outs) {r : Bool} (h : l_FnExactCircuitOk p0 = some r) : Ret Try.prog 4 [.agg #[.int .i64 p0.Inputs, .int .i64 p0.Latches, .slice a0_2 p0.Next.length c0_2, .slice a0_3 p0.Gates.length c0_3, .slice a0_4 p0.Outs.length c0_4]] w (fun v w' => v = .bool r ∧ Ext w w') := by
  unfold l_FnExactCircuitOk at h
  refine Ret.enter Try.func4 rfl Try.ntmps4 rfl ?_
  dsimp only [envOf]
  refine WC.seq ?_
  refine WC.regS [(0, 1), (1, 2)] rfl ?_
  have hle1 : ∀ m, m ∈ [] → m ≤ w.heap.size := (le_nil _)
  refine WO.box rfl rfl rfl rfl rfl rfl rfl ?_
  intro b1 w1 he2 hbe1 hb1
  refine ⟨trivial, ?_⟩
  have hst3 := St.ext (M := []) (Sub.refl _ _) he2
  have hs0_2 := hs0_2.stp hst3
  have hs0_3 := hs0_3.stp hst3
  have hs0_4 := hs0_4.stp hst3
  have hE4 := he2
  have hb1 : Bf [] w1 b1 38 [.int .i64 p0.Inputs, .int .i64 p0.Latches, .slice a0_2 p0.Next.length c0_2, .slice a0_3 p0.Gates.length c0_3, .slice a0_4 p0.Outs.length c0_4] := ⟨hb1, hb1.lt, fun hm => by have := hle1 _ hm; omega⟩
  refine WO.sp rfl rfl rfl rfl (rn_assign rfl rfl) ?_
  refine WO.fin ?_
  refine DN.seq ?_
  refine WC.seq ?_
  refine WC.regS [(0, 2)] rfl ?_
  refine WO.sp rfl rfl rfl rfl (rn_assign rfl rfl) ?_
  refine WO.fin ?_
  refine DN.seq ?_
  refine WC.seq ?_
  refine WC.regS [(0, 1), (1, 2), (2, 1), (3, 2)] rfl ?_
  refine WO.sq trivial rfl rfl rfl rfl (rn_loadBA hb1 Try.isAgg38 Try.sizeOf38 rfl rfl rfl) ?_
  refine WO.sp rfl rfl rfl rfl (rn_move rfl rfl) ?_
  obtain ⟨x9, hx9, h⟩ := Option.bind_eq_some_iff.mp h
  refine WO.call rfl rfl rfl rfl rfl rfl Try.call15 (l_szCircuit_ok (hs0_2.toE (Ext.refl _)) (hs0_3.toE (Ext.refl _)) (hs0_4.toE (Ext.refl _)) hx9) ?_
  rintro _ w5 ⟨rfl, he6⟩
  refine ⟨trivial, ?_⟩
  have hst7 := St.ext (M := []) (Sub.refl _ _) he6
  have hs0_2 := hs0_2.stp hst7
  have hs0_3 := hs0_3.stp hst7
  have hs0_4 := hs0_4.stp hst7
  have hb1 := hb1.stp hst7
  have hE8 := hE4.trans he6
  refine WO.sp rfl rfl rfl rfl (rn_assign rfl rfl) ?_
  refine WO.fin ?_
  refine DN.seq ?_
  refine WC.seq ?_
  refine WC.seq ?_
  refine WC.regS [(0, 2), (1, 2)] rfl ?_
  refine WO.sp rfl rfl rfl rfl (rn_move rfl rfl) ?_
  refine WO.sp rfl rfl rfl rfl (rn_lss rfl rfl rfl) ?_
  refine WO.fin ?_
  refine DN.seq ?_
  revert h
  cases ht9 : decide (x9 < 0) with
  | true =>
    intro h
    simp only [cond_true, cond_false, Option.bind_some, Option.bind_assoc, lpK_ret, lpK_brk, lpK_nxt, aft_inl, aft_inr] at h
    refine WC.ct rfl ?_
    refine WC.seq ?_
    refine WC.regS [(0, 2)] rfl ?_
    refine WO.sp rfl rfl rfl rfl (rn_assign rfl rfl) ?_
    refine WO.fin ?_
    refine DN.seq ?_
    refine WC.ret ?_
    refine DN.retThen ?_
    refine DN.ret1 Try.results4 rfl ?_
    obtain rfl := Option.some.inj h
    exact ⟨rfl, hE8⟩
  | false =>
    intro h
    simp only [cond_true, cond_false, Option.bind_some, Option.bind_assoc, lpK_ret, lpK_brk, lpK_nxt, aft_inl, aft_inr] at h
    refine WC.cf rfl ?_
    refine WC.skip ?_
    refine DN.seq ?_
    refine WC.seq ?_
    refine WC.regS [(0, 1), (1, 1), (2, 1), (3, 2)] rfl ?_
    refine WO.sq trivial rfl rfl rfl rfl (rn_loadBA hb1 Try.isAgg38 Try.sizeOf38 rfl rfl rfl) ?_
    obtain ⟨x13, hx13, h⟩ := Option.bind_eq_some_iff.mp h
    refine WO.call rfl rfl rfl rfl rfl rfl Try.call17 (l_toCircuit_ok (M := []) (hs0_2.toM (Ext.refl _)) (hs0_3.toM (Ext.refl _)) (hs0_4.toM (Ext.refl _)) (le_nil _) hx13) ?_
    rintro _ w10 ⟨ax13_1, cx13_1, ax13_2, cx13_2, ax13_3, cx13_3, rfl, he11, hfx13_1, hfx13_2, hfx13_3, hddx13_1x13_2, hddx13_1x13_3, hddx13_2x13_3, hox13_1, hox13_2, hox13_3⟩
    refine ⟨trivial, ?_⟩
    have hFx13_1 : nb ax13_1 = 0 ∨ w.heap.size < nb ax13_1 := f_newO hE8 hfx13_1
    have hFx13_2 : nb ax13_2 = 0 ∨ w.heap.size < nb ax13_2 := f_newO hE8 hfx13_2
    have hFx13_3 : nb ax13_3 = 0 ∨ w.heap.size < nb ax13_3 := f_newO hE8 hfx13_3
    have hd_x131_x132 := hddx13_1x13_2
    have hd_x131_x133 := hddx13_1x13_3
    have hd_x132_x133 := hddx13_2x13_3
    have hst12 := St.ext (M := []) (Sub.newO hfx13_1 (Sub.newO hfx13_2 (Sub.newO hfx13_3 (Sub.refl _ _)))) he11
    have hs0_2 := hs0_2.stp hst12
    have hs0_3 := hs0_3.stp hst12
    have hs0_4 := hs0_4.stp hst12
    have hb1 := hb1.stp hst12
    have hE13 := hE8.trans he11
    obtain ⟨x14, hx14, h⟩ := Option.bind_eq_some_iff.mp h
    refine WO.call rfl rfl rfl rfl rfl rfl Try.call16 (s_CircuitOk_ok (hox13_1.read.toE (Ext.refl _)) (hox13_2.read.toE (Ext.refl _)) (hox13_3.read.toE (Ext.refl _)) hx14) ?_
    rintro _ w14 ⟨rfl, he15⟩
    refine ⟨trivial, ?_⟩
    have hst16 := St.ext (M := (nb ax13_1 :: (nb ax13_2 :: (nb ax13_3 :: [])))) (Sub.refl _ _) he15
    have hs0_2 := hs0_2.stp hst16
    have hs0_3 := hs0_3.stp hst16
    have hs0_4 := hs0_4.stp hst16
    have hb1 := hb1.stp hst16
    have hox13_1 := hox13_1.ext (Sub.refl _ _) he15
    have hox13_2 := hox13_2.ext (Sub.refl _ _) he15
    have hox13_3 := hox13_3.ext (Sub.refl _ _) he15
    have hE17 := hE13.trans he15
    refine WO.sp rfl rfl rfl rfl (rn_assign rfl rfl) ?_
    refine WO.fin ?_
    have hsb18 : Sb (nb ax13_1 :: (nb ax13_2 :: (nb ax13_3 :: []))) [] := (Sb.drop (Sb.drop (Sb.drop (Sb.refl _))))
    have hs0_2 := hs0_2.stp hsb18.st
    have hs0_3 := hs0_3.stp hsb18.st
    have hs0_4 := hs0_4.stp hsb18.st
    have hb1 := hb1.stp hsb18.st
    refine DN.seq ?_
    refine WC.seq ?_
    refine WC.regS [(0, 1), (1, 1), (2, 1), (3, 1)] rfl ?_
    refine WO.sq trivial rfl rfl rfl rfl (rn_loadBA hb1 Try.isAgg38 Try.sizeOf38 rfl rfl rfl) ?_
    obtain ⟨x16, hx16, h⟩ := Option.bind_eq_some_iff.mp h
    refine WO.call rfl rfl rfl rfl rfl rfl Try.call17 (l_toCircuit_ok (M := []) (hs0_2.toM (Ext.refl _)) (hs0_3.toM (Ext.refl _)) (hs0_4.toM (Ext.refl _)) (le_nil _) hx16) ?_
    rintro _ w19 ⟨ax16_1, cx16_1, ax16_2, cx16_2, ax16_3, cx16_3, rfl, he20, hfx16_1, hfx16_2, hfx16_3, hddx16_1x16_2, hddx16_1x16_3, hddx16_2x16_3, hox16_1, hox16_2, hox16_3⟩
    refine ⟨trivial, ?_⟩
    have hFx16_1 : nb ax16_1 = 0 ∨ w.heap.size < nb ax16_1 := f_newO hE17 hfx16_1
    have hFx16_2 : nb ax16_2 = 0 ∨ w.heap.size < nb ax16_2 := f_newO hE17 hfx16_2
    have hFx16_3 : nb ax16_3 = 0 ∨ w.heap.size < nb ax16_3 := f_newO hE17 hfx16_3
    have hd_x161_x162 := hddx16_1x16_2
    have hd_x161_x163 := hddx16_1x16_3
    have hd_x162_x163 := hddx16_2x16_3
    have hst21 := St.ext (M := []) (Sub.newO hfx16_1 (Sub.newO hfx16_2 (Sub.newO hfx16_3 (Sub.refl _ _)))) he20
    have hs0_2 := hs0_2.stp hst21
    have hs0_3 := hs0_3.stp hst21
    have hs0_4 := hs0_4.stp hst21
    have hb1 := hb1.stp hst21
    have hE22 := hE17.trans he20
    refine WO.alloc rfl rfl rfl rfl rfl Try.zeroValue43 rfl ?_
    intro b5 w23 he24 hbe5 hb5
    refine ⟨trivial, ?_⟩
    have hn5 : w19.heap.size < b5 + 1 := by omega
    have hd_x161_b5 : nb ax16_1 = 0 ∨ nb ax16_1 ≠ (b5 + 1) := d_new hox16_1.nb_le hn5
    have hd_x162_b5 : nb ax16_2 = 0 ∨ nb ax16_2 ≠ (b5 + 1) := d_new hox16_2.nb_le hn5
    have hd_x163_b5 : nb ax16_3 = 0 ∨ nb ax16_3 ≠ (b5 + 1) := d_new hox16_3.nb_le hn5
    have hF5 : (b5 + 1) = 0 ∨ w.heap.size < (b5 + 1) := f_new hE22 hn5
    have hst25 := St.ext (M := (nb ax16_1 :: (nb ax16_2 :: (nb ax16_3 :: [])))) (Sub.new hn5 (Sub.refl _ _)) he24
    have hs0_2 := hs0_2.stp hst25
    have hs0_3 := hs0_3.stp hst25
    have hs0_4 := hs0_4.stp hst25
    have hb1 := hb1.stp hst25
    have hox16_1 := hox16_1.ext (Sub.new hn5 (Sub.refl _ _)) he24
    have hox16_2 := hox16_2.ext (Sub.new hn5 (Sub.refl _ _)) he24
    have hox16_3 := hox16_3.ext (Sub.new hn5 (Sub.refl _ _)) he24
    have hE26 := hE22.trans he24
    refine WO.stB0 (vc := [.int .i64 x16.Inputs, .int .i64 x16.Latches, .slice ax16_1 x16.Next.length cx16_1, .slice ax16_2 x16.Gates.length cx16_2, .slice ax16_3 x16.Outs.length cx16_3]) rfl rfl rfl rfl rfl rfl rfl Try.sizeOf43 rfl (by intro u hu; simp only [List.mem_cons, List.not_mem_nil, or_false] at hu; rcases hu with rfl | rfl | rfl | rfl | rfl <;> rfl) hb5 rfl ?_
    intro w27 ht28 hb5
    refine ⟨trivial, ?_⟩
    have hst29 := Tch.st (M := ((b5 + 1) :: (nb ax16_1 :: (nb ax16_2 :: (nb ax16_3 :: []))))) ht28 (.inr (.head _)) (Sub.refl _ _)
    have hs0_2 := hs0_2.stp hst29
    have hs0_3 := hs0_3.stp hst29
    have hs0_4 := hs0_4.stp hst29
    have hb1 := hb1.stp hst29
    have hox16_1 := hox16_1.tch ht28 (.inr (.head _)) (Sub.refl _ _) hd_x161_b5
    have hox16_2 := hox16_2.tch ht28 (.inr (.head _)) (Sub.refl _ _) hd_x162_b5
    have hox16_3 := hox16_3.tch ht28 (.inr (.head _)) (Sub.refl _ _) hd_x163_b5
    have hE30 := ht28.ext hE26 hF5
    refine WO.fin ?_
    refine DN.seq ?_
    refine WC.seq ?_
    refine WC.regS [(0, 1), (1, 1), (2, 2)] rfl ?_
    refine WO.sq trivial rfl rfl rfl rfl (rn_loadBA (Bf.of hb5) Try.isAgg43 Try.sizeOf43 rfl rfl rfl) ?_
    obtain ⟨x18, hx18, h⟩ := Option.bind_eq_some_iff.mp h
    refine WO.call rfl rfl rfl rfl rfl rfl Try.call18 (i_CircuitOk_ok (hox16_1.read.toE (Ext.refl _)) (hox16_2.read.toE (Ext.refl _)) (hox16_3.read.toE (Ext.refl _)) hx18) ?_
    rintro _ w31 ⟨rfl, he32⟩
    refine ⟨trivial, ?_⟩
    have hst33 := St.ext (M := ((b5 + 1) :: (nb ax16_1 :: (nb ax16_2 :: (nb ax16_3 :: []))))) (Sub.refl _ _) he32
    have hs0_2 := hs0_2.stp hst33
    have hs0_3 := hs0_3.stp hst33
    have hs0_4 := hs0_4.stp hst33
    have hb1 := hb1.stp hst33
    have hb5 := hb5.ext he32
    have hox16_1 := hox16_1.ext (Sub.refl _ _) he32
    have hox16_2 := hox16_2.ext (Sub.refl _ _) he32
    have hox16_3 := hox16_3.ext (Sub.refl _ _) he32
    have hE34 := hE30.trans he32
    refine WO.sp rfl rfl rfl rfl (rn_assign rfl rfl) ?_
    refine WO.fin ?_
    refine DN.seq ?_
    refine WC.seq ?_
    refine WC.seq ?_
    refine WC.regS [(0, 2), (1, 2), (2, 2)] rfl ?_
    refine WO.sp rfl rfl rfl rfl (rn_move rfl rfl) ?_
    refine WO.sp rfl rfl rfl rfl (rn_move rfl rfl) ?_
    refine WO.sp rfl rfl rfl rfl (rn_neqB rfl rfl Try.runUnderlying4 rfl) ?_
    refine WO.fin ?_
    refine DN.seq ?_
    revert h
    cases ht35 : (x18 != x14) with
    | true =>
      intro h
      simp only [cond_true, cond_false, Option.bind_some, Option.bind_assoc, lpK_ret, lpK_brk, lpK_nxt, aft_inl, aft_inr] at h
      refine WC.ct rfl ?_
      refine WC.seq ?_
      refine WC.regS [(0, 2)] rfl ?_
      refine WO.sp rfl rfl rfl rfl (rn_assign rfl rfl) ?_
      refine WO.fin ?_
      refine DN.seq ?_
      refine WC.ret ?_
      refine DN.retThen ?_
      refine DN.ret1 Try.results4 rfl ?_
      obtain rfl := Option.some.inj h
      exact ⟨rfl, hE34⟩
    | false =>
      intro h
      simp only [cond_true, cond_false, Option.bind_some, Option.bind_assoc, lpK_ret, lpK_brk, lpK_nxt, aft_inl, aft_inr] at h
      refine WC.cf rfl ?_
      refine WC.skip ?_
      refine DN.seq ?_
      refine WC.seq ?_
      refine WC.seq ?_
      refine WC.regX none [(0, 0), (1, 0), (2, 1), (3, 1), (4, 2)] [] (by kernel_rfl) (by kernel_rfl) fun w36 he37 hh38 => ?_
      have hst39 := St.ext (M := ((b5 + 1) :: (nb ax16_1 :: (nb ax16_2 :: (nb ax16_3 :: []))))) (Sub.refl _ _) he37
      have hs0_2 := hs0_2.stp hst39
      have hs0_3 := hs0_3.stp hst39
      have hs0_4 := hs0_4.stp hst39
      have hb1 := hb1.stp hst39
      have hb5 := hb5.ext he37
      have hox16_1 := hox16_1.ext (Sub.refl _ _) he37
      have hox16_2 := hox16_2.ext (Sub.refl _ _) he37
      have hox16_3 := hox16_3.ext (Sub.refl _ _) he37
      have hE40 := hE34.trans he37
      refine WO.dq rfl rfl rfl rfl (rn_loadBA (Bf.of hb5) Try.isAgg43 Try.sizeOf43 rfl rfl rfl) ?_
      refine WO.dq rfl rfl rfl rfl (rn_loadBA hb1 Try.isAgg38 Try.sizeOf38 rfl rfl rfl) ?_
      obtain ⟨x24, hx24, h⟩ := Option.bind_eq_some_iff.mp h
      refine WO.call rfl rfl rfl rfl rfl rfl Try.call17 (l_toCircuit_ok (M := ((b5 + 1) :: (nb ax16_1 :: (nb ax16_2 :: (nb ax16_3 :: []))))) (hs0_2.toM (Ext.refl _)) (hs0_3.toM (Ext.refl _)) (hs0_4.toM (Ext.refl _)) (le_cons (Nat.succ_le_of_lt hb5.lt) (le_cons hox16_1.nb_le (le_cons hox16_2.nb_le (le_cons hox16_3.nb_le (le_nil _))))) hx24) ?_
      rintro _ w41 ⟨ax24_1, cx24_1, ax24_2, cx24_2, ax24_3, cx24_3, rfl, he42, hfx24_1, hfx24_2, hfx24_3, hddx24_1x24_2, hddx24_1x24_3, hddx24_2x24_3, hox24_1, hox24_2, hox24_3⟩
      have hx43 := he42
      refine ⟨hx43.cw, ?_⟩
      have hFx24_1 : nb ax24_1 = 0 ∨ w.heap.size < nb ax24_1 := f_newO hE40 hfx24_1
      have hd_b5_x241 : (b5 + 1) = 0 ∨ (b5 + 1) ≠ nb ax24_1 := d_newO (Nat.succ_le_of_lt hb5.lt) hfx24_1
      have hd_x161_x241 : nb ax16_1 = 0 ∨ nb ax16_1 ≠ nb ax24_1 := d_newO hox16_1.nb_le hfx24_1
      have hd_x162_x241 : nb ax16_2 = 0 ∨ nb ax16_2 ≠ nb ax24_1 := d_newO hox16_2.nb_le hfx24_1
      have hd_x163_x241 : nb ax16_3 = 0 ∨ nb ax16_3 ≠ nb ax24_1 := d_newO hox16_3.nb_le hfx24_1
      have hFx24_2 : nb ax24_2 = 0 ∨ w.heap.size < nb ax24_2 := f_newO hE40 hfx24_2
      have hd_b5_x242 : (b5 + 1) = 0 ∨ (b5 + 1) ≠ nb ax24_2 := d_newO (Nat.succ_le_of_lt hb5.lt) hfx24_2
      have hd_x161_x242 : nb ax16_1 = 0 ∨ nb ax16_1 ≠ nb ax24_2 := d_newO hox16_1.nb_le hfx24_2
      have hd_x162_x242 : nb ax16_2 = 0 ∨ nb ax16_2 ≠ nb ax24_2 := d_newO hox16_2.nb_le hfx24_2
      have hd_x163_x242 : nb ax16_3 = 0 ∨ nb ax16_3 ≠ nb ax24_2 := d_newO hox16_3.nb_le hfx24_2
      have hFx24_3 : nb ax24_3 = 0 ∨ w.heap.size < nb ax24_3 := f_newO hE40 hfx24_3
      have hd_b5_x243 : (b5 + 1) = 0 ∨ (b5 + 1) ≠ nb ax24_3 := d_newO (Nat.succ_le_of_lt hb5.lt) hfx24_3
      have hd_x161_x243 : nb ax16_1 = 0 ∨ nb ax16_1 ≠ nb ax24_3 := d_newO hox16_1.nb_le hfx24_3
      have hd_x162_x243 : nb ax16_2 = 0 ∨ nb ax16_2 ≠ nb ax24_3 := d_newO hox16_2.nb_le hfx24_3
      have hd_x163_x243 : nb ax16_3 = 0 ∨ nb ax16_3 ≠ nb ax24_3 := d_newO hox16_3.nb_le hfx24_3
      have hd_x241_x242 := hddx24_1x24_2
      have hd_x241_x243 := hddx24_1x24_3
      have hd_x242_x243 := hddx24_2x24_3
      have hst44 := St.ext (M := ((b5 + 1) :: (nb ax16_1 :: (nb ax16_2 :: (nb ax16_3 :: []))))) (Sub.newO hfx24_1 (Sub.newO hfx24_2 (Sub.newO hfx24_3 (Sub.refl _ _)))) he42
      have hz45 := hst44
      have hs0_2 := hs0_2.stp hst44
      have hs0_3 := hs0_3.stp hst44
      have hs0_4 := hs0_4.stp hst44
      have hb1 := hb1.stp hst44
      have hb5 := hb5.ext he42
      have hox16_1 := hox16_1.ext (Sub.newO hfx24_1 (Sub.newO hfx24_2 (Sub.newO hfx24_3 (Sub.refl _ _)))) he42
      have hox16_2 := hox16_2.ext (Sub.newO hfx24_1 (Sub.newO hfx24_2 (Sub.newO hfx24_3 (Sub.refl _ _)))) he42
      have hox16_3 := hox16_3.ext (Sub.newO hfx24_1 (Sub.newO hfx24_2 (Sub.newO hfx24_3 (Sub.refl _ _)))) he42
      have hE46 := hE40.trans he42
      obtain ⟨x25, hx25, h⟩ := Option.bind_eq_some_iff.mp h
      refine WO.call rfl rfl rfl rfl rfl rfl Try.call19 (l_eqCircuit_ok (hox16_1.read.toE (Ext.refl _)) (hox16_2.read.toE (Ext.refl _)) (hox16_3.read.toE (Ext.refl _)) (hox24_1.read.toE (Ext.refl _)) (hox24_2.read.toE (Ext.refl _)) (hox24_3.read.toE (Ext.refl _)) hx25) ?_
      rintro _ w47 ⟨rfl, he48⟩
      have hx49 := hx43.trans he48
      refine ⟨hx49.cw, ?_⟩
      have hst50 := St.ext (M := (nb ax24_1 :: (nb ax24_2 :: (nb ax24_3 :: ((b5 + 1) :: (nb ax16_1 :: (nb ax16_2 :: (nb ax16_3 :: [])))))))) (Sub.refl _ _) he48
      have hz51 := hz45.trans hst50
      have hs0_2 := hs0_2.stp hst50
      have hs0_3 := hs0_3.stp hst50
      have hs0_4 := hs0_4.stp hst50
      have hb1 := hb1.stp hst50
      have hox24_1 := hox24_1.ext (Sub.refl _ _) he48
      have hox24_2 := hox24_2.ext (Sub.refl _ _) he48
      have hox24_3 := hox24_3.ext (Sub.refl _ _) he48
      have hb5 := hb5.ext he48
      have hox16_1 := hox16_1.ext (Sub.refl _ _) he48
      have hox16_2 := hox16_2.ext (Sub.refl _ _) he48
      have hox16_3 := hox16_3.ext (Sub.refl _ _) he48
      have hE52 := hE46.trans he48
      refine WO.sp rfl rfl rfl rfl (rn_not rfl rfl) ?_
      refine WO.nx ?_
      refine WO.fin ?_
      have hsb53 : Sb (nb ax24_1 :: (nb ax24_2 :: (nb ax24_3 :: ((b5 + 1) :: (nb ax16_1 :: (nb ax16_2 :: (nb ax16_3 :: []))))))) [] := (Sb.drop (Sb.drop (Sb.drop (Sb.drop (Sb.drop (Sb.drop (Sb.drop (Sb.refl _))))))))
      have hs0_2 := hs0_2.stp hsb53.st
      have hs0_3 := hs0_3.stp hsb53.st
      have hs0_4 := hs0_4.stp hsb53.st
      have hb1 := hb1.stp hsb53.st
      refine DN.seq ?_
      revert h
      cases ht54 : (!x25) with
      | true =>
        intro h
        simp only [cond_true, cond_false, Option.bind_some, Option.bind_assoc, lpK_ret, lpK_brk, lpK_nxt, aft_inl, aft_inr] at h
        refine WC.ct rfl ?_
        refine WC.seq ?_
        refine WC.regS [(0, 2)] rfl ?_
        refine WO.sp rfl rfl rfl rfl (rn_assign rfl rfl) ?_
        refine WO.fin ?_
        refine DN.seq ?_
        refine WC.ret ?_
        refine DN.retThen ?_
        refine DN.ret1 Try.results4 rfl ?_
        obtain rfl := Option.some.inj h
        exact ⟨rfl, hE52⟩
      | false =>
        intro h
        simp only [cond_true, cond_false, Option.bind_some, Option.bind_assoc, lpK_ret, lpK_brk, lpK_nxt, aft_inl, aft_inr] at h
        refine WC.cf rfl ?_
        refine WC.skip ?_
        refine DN.seq ?_
        refine WC.seq ?_
        refine WC.regS [(0, 2)] rfl ?_
        refine WO.sp rfl rfl rfl rfl (rn_assign rfl rfl) ?_
        refine WO.fin ?_
        refine DN.seq ?_
        refine WC.ret ?_
        refine DN.ret1 Try.results4 rfl ?_
        obtain rfl := Option.some.inj h
        exact ⟨rfl, hE52⟩

/- loop.example/g00869/spec.l1Max -/
def s_l1Max (p0 : Int) (p1 : Int) : Option (Int) :=
  bif decide (p1 < p0) then
    some (p0 : Int)
  else
    some (p1 : Int)

theorem s_l1Max_ok {p0 : Int} {p1 : Int} {w : World}  {r : Int} (h : s_l1Max p0 p1 = some r) : Ret Try.prog 50 [.int .i64 p0, .int .i64 p1] w (fun v w' => v = .int .i64 r ∧ Ext w w') := by
  unfold s_l1Max at h
  refine Ret.enter Try.func50 rfl Try.ntmps50 rfl ?_
  dsimp only [envOf]
  refine WC.seq ?_
  refine WC.regS [(0, 2)] rfl ?_
  refine WO.sp rfl rfl rfl rfl (rn_assign rfl rfl) ?_
  refine WO.fin ?_
  refine DN.seq ?_
  refine WC.seq ?_
  refine WC.seq ?_
  refine WC.regS [(0, 2), (1, 2), (2, 2)] rfl ?_
  refine WO.sp rfl rfl rfl rfl (rn_move rfl rfl) ?_
  refine WO.sp rfl rfl rfl rfl (rn_move rfl rfl) ?_
  refine WO.sp rfl rfl rfl rfl (rn_gtr rfl rfl rfl) ?_
  refine WO.fin ?_
  refine DN.seq ?_
  revert h
  cases ht1 : decide (p1 < p0) with
  | true =>
    intro h
    simp only [cond_true, cond_false, Option.bind_some, Option.bind_assoc, lpK_ret, lpK_brk, lpK_nxt, aft_inl, aft_inr] at h
    refine WC.ct rfl ?_
    refine WC.seq ?_
    refine WC.regS [(0, 2), (1, 2)] rfl ?_
    refine WO.sp rfl rfl rfl rfl (rn_move rfl rfl) ?_
    refine WO.sp rfl rfl rfl rfl (rn_assign rfl rfl) ?_
    refine WO.fin ?_
    refine DN.seq ?_
    refine WC.ret ?_
    refine DN.retThen ?_
    refine DN.ret1 Try.results50 rfl ?_
    obtain rfl := Option.some.inj h
    exact ⟨rfl, (Ext.refl w)⟩
  | false =>
    intro h
    simp only [cond_true, cond_false, Option.bind_some, Option.bind_assoc, lpK_ret, lpK_brk, lpK_nxt, aft_inl, aft_inr] at h
    refine WC.cf rfl ?_
    refine WC.skip ?_
    refine DN.seq ?_
    refine WC.seq ?_
    refine WC.regS [(0, 2), (1, 2)] rfl ?_
    refine WO.sp rfl rfl rfl rfl (rn_move rfl rfl) ?_
    refine WO.sp rfl rfl rfl rfl (rn_assign rfl rfl) ?_
    refine WO.fin ?_
    refine DN.seq ?_
    refine WC.ret ?_
    refine DN.ret1 Try.results50 rfl ?_
    obtain rfl := Option.some.inj h
    exact ⟨rfl, (Ext.refl w)⟩

/- loop.example/g00869/spec.DepthOf -/
def s_DepthOf_b0 (p0 : Circuit) (v4 : Int) (s1 : (List Int)) : Option (Int ⊕ (((List Int)) ⊕ ((List Int)))) :=
  Option.bind (idx p0.Gates v4) fun x30 =>
  Option.bind (idx s1 (IntKind.i64.wrap (Int.tdiv x30.A 2))) fun x34 =>
  Option.bind (idx p0.Gates v4) fun x40 =>
  Option.bind (idx s1 (IntKind.i64.wrap (Int.tdiv x40.B 2))) fun x44 =>
  Option.bind (s_l1Max x34 x44) fun x46 =>
  Option.bind (appS 8 s1 ([(IntKind.i64.wrap (1 + x46))] : List Int)) fun x49 =>
  some (.inr (.inr (x49 : (List Int))))
def s_DepthOf_b2 (p0 : Circuit) (s3 : (List Int)) (v6 : Int) (s4 : Int) : Option (Int ⊕ ((Int) ⊕ (Int))) :=
  Option.bind (idx p0.Next v6) fun x62 =>
  Option.bind (idx s3 (IntKind.i64.wrap (Int.tdiv x62 2))) fun x65 =>
  Option.bind (s_l1Max s4 x65) fun x67 =>
  some (.inr (.inr (x67 : Int)))
def s_DepthOf_b4 (p0 : Circuit) (s3 : (List Int)) (v7 : Int) (s7 : Int) : Option (Int ⊕ ((Int) ⊕ (Int))) :=
  Option.bind (idx p0.Outs v7) fun x80 =>
  Option.bind (idx s3 (IntKind.i64.wrap (Int.tdiv x80 2))) fun x83 =>
  Option.bind (s_l1Max s7 x83) fun x85 =>
  some (.inr (.inr (x85 : Int)))
def s_DepthOf (p0 : Circuit) : Option (Int) :=
  Option.bind (s_CircuitOk p0) fun x9 =>
  bif (!x9) then
    some ((-1) : Int)
  else
    Option.bind (mkS 8 (IntKind.i64.wrap ((IntKind.i64.wrap (1 + p0.Inputs)) + p0.Latches)) (0 : Int)) fun x17 =>
    Option.bind (cntM (s_DepthOf_b0 p0) p0.Gates.length 0 (x17 : (List Int))) fun q2 =>
    aft (fun r => some r) (fun s3 =>
      Option.bind (cntM (s_DepthOf_b2 p0 s3) p0.Next.length 0 (0 : Int)) fun q5 =>
      aft (fun r => some r) (fun s6 =>
        Option.bind (cntM (s_DepthOf_b4 p0 s3) p0.Outs.length 0 (s6 : Int)) fun q8 =>
        aft (fun r => some r) (fun s9 =>
          some (s9 : Int)) q8) q5) q2

theorem s_DepthOf_ok {p0 : Circuit} {a0_2 : Option Addr} {c0_2 : Nat} {a0_3 : Option Addr} {c0_3 : Nat} {a0_4 : Option Addr} {c0_4 : Nat} {w : World} (hs0_2 : Sl (Rp.int .i64) (Fz [] w) w a0_2 c0_2 p0.Next) (hs0_3 : Sl Gate.rp (Fz [] w) w a0_3 c0_3 p0.Gates) (hs0_4 : Sl (Rp.int .i64) (Fz [] w) w a0_4 c0_4 p0.Outs) {r : Int} (h : s_DepthOf p0 = some r) : Ret Try.prog 20 [.agg #[.int .i64 p0.Inputs, .int .i64 p0.Latches, .slice a0_2 p0.Next.length c0_2, .slice a0_3 p0.Gates.length c0_3, .slice a0_4 p0.Outs.length c0_4]] w (fun v w' => v = .int .i64 r ∧ Ext w w') := by
  unfold s_DepthOf at h
  refine Ret.enter Try.func20 rfl Try.ntmps20 rfl ?_
  dsimp only [envOf]
  refine WC.seq ?_
  refine WC.regS [(0, 1), (1, 2)] rfl ?_
  have hle1 : ∀ m, m ∈ [] → m ≤ w.heap.size := (le_nil _)
  refine WO.box rfl rfl rfl rfl rfl rfl rfl ?_
  intro b1 w1 he2 hbe1 hb1
  refine ⟨trivial, ?_⟩
  have hst3 := St.ext (M := []) (Sub.refl _ _) he2
  have hs0_2 := hs0_2.stp hst3
  have hs0_3 := hs0_3.stp hst3
  have hs0_4 := hs0_4.stp hst3
  have hE4 := he2
  have hb1 : Bf [] w1 b1 43 [.int .i64 p0.Inputs, .int .i64 p0.Latches, .slice a0_2 p0.Next.length c0_2, .slice a0_3 p0.Gates.length c0_3, .slice a0_4 p0.Outs.length c0_4] := ⟨hb1, hb1.lt, fun hm => by have := hle1 _ hm; omega⟩
  refine WO.sp rfl rfl rfl rfl (rn_assign rfl rfl) ?_
  refine WO.fin ?_
  refine DN.seq ?_
  refine WC.seq ?_
  refine WC.seq ?_
  refine WC.regS [(0, 1), (1, 1), (2, 2)] rfl ?_
  refine WO.sq trivial rfl rfl rfl rfl (rn_loadBA hb1 Try.isAgg43 Try.sizeOf43 rfl rfl rfl) ?_
  obtain ⟨x9, hx9, h⟩ := Option.bind_eq_some_iff.mp h
  refine WO.call rfl rfl rfl rfl rfl rfl Try.call16 (s_CircuitOk_ok (hs0_2.toE (Ext.refl _)) (hs0_3.toE (Ext.refl _)) (hs0_4.toE (Ext.refl _)) hx9) ?_
  rintro _ w5 ⟨rfl, he6⟩
  refine ⟨trivial, ?_⟩
  have hst7 := St.ext (M := []) (Sub.refl _ _) he6
  have hs0_2 := hs0_2.stp hst7
  have hs0_3 := hs0_3.stp hst7
  have hs0_4 := hs0_4.stp hst7
  have hb1 := hb1.stp hst7
  have hE8 := hE4.trans he6
  refine WO.sp rfl rfl rfl rfl (rn_not rfl rfl) ?_
  refine WO.fin ?_
  refine DN.seq ?_
  revert h
  cases ht9 : (!x9) with
  | true =>
    intro h
    simp only [cond_true, cond_false, Option.bind_some, Option.bind_assoc, lpK_ret, lpK_brk, lpK_nxt, aft_inl, aft_inr] at h
    refine WC.ct rfl ?_
    refine WC.seq ?_
    refine WC.regS [(0, 2)] rfl ?_
    refine WO.sp rfl rfl rfl rfl (rn_assign rfl rfl) ?_
    refine WO.fin ?_
    refine DN.seq ?_
    refine WC.ret ?_
    refine DN.retThen ?_
    refine DN.ret1 Try.results20 rfl ?_
    obtain rfl := Option.some.inj h
    exact ⟨rfl, hE8⟩
  | false =>
    intro h
    simp only [cond_true, cond_false, Option.bind_some, Option.bind_assoc, lpK_ret, lpK_brk, lpK_nxt, aft_inl, aft_inr] at h
    refine WC.cf rfl ?_
    refine WC.skip ?_
    refine DN.seq ?_
    refine WC.seq ?_
    refine WC.regS [(0, 2), (1, 1), (2, 2), (3, 2), (4, 1), (5, 2), (6, 1), (7, 2)] rfl ?_
    refine WO.sp rfl rfl rfl rfl (rn_fieldAddr Try.runUnderlying43 rfl Try.sizeOf2 rfl rfl) ?_
    refine WO.sq trivial rfl rfl rfl rfl (rn_loadB hb1 Try.isAgg2 rfl rfl rfl) ?_
    refine WO.sp rfl rfl rfl rfl (rn_add rfl rfl rfl) ?_
    refine WO.sp rfl rfl rfl rfl (rn_fieldAddr Try.runUnderlying43 rfl Try.sizeOf2 rfl rfl) ?_
    refine WO.sq trivial rfl rfl rfl rfl (rn_loadB hb1 Try.isAgg2 rfl rfl rfl) ?_
    refine WO.sp rfl rfl rfl rfl (rn_add rfl rfl rfl) ?_
    obtain ⟨x17, hx17, h⟩ := Option.bind_eq_some_iff.mp h
    refine WO.make (E := (Rp.int .i64)) (M := []) rfl rfl rfl rfl rfl rfl Try.underlying24 Tryinfo2 rfl rfl rfl rfl (by decide) (fun _ _ => rfl) hx17 ?_
    intro a17 c17 w10 he11 hn17 ho17
    refine ⟨trivial, ?_⟩
    have hF17 : nb a17 = 0 ∨ w.heap.size < nb a17 := f_new hE8 hn17
    have hst12 := St.ext (M := []) (Sub.new hn17 (Sub.refl _ _)) he11
    have hs0_2 := hs0_2.stp hst12
    have hs0_3 := hs0_3.stp hst12
    have hs0_4 := hs0_4.stp hst12
    have hb1 := hb1.stp hst12
    have hE13 := hE8.trans he11
    refine WO.sp rfl rfl rfl rfl (rn_assign rfl rfl) ?_
    refine WO.fin ?_
    refine DN.seq ?_
    refine WC.seq ?_
    refine WC.seq ?_
    refine WC.regS [(0, 2)] rfl ?_
    refine WO.sp rfl rfl rfl rfl (rn_assign rfl rfl) ?_
    refine WO.fin ?_
    refine DN.seq ?_
    refine WC.block ?_
    obtain ⟨q14, hq14, hk14⟩ := Option.bind_eq_some_iff.mp h
    clear h
    refine WC.loop (fun k L w' => ∃ (v3 : List Int), ∃ (la3 : Option Addr), ∃ (lc3 : Nat), ∃ (v4 : Int), L = [(1, .pointer (some ⟨b1, 0, none⟩)), (3, .slice la3 v3.length lc3), (4, .int .i64 v4)] ∧ Ext w w' ∧ Sl (Rp.int .i64) (Fz (nb la3 :: []) w') w' a0_2 c0_2 p0.Next ∧ Sl Gate.rp (Fz (nb la3 :: []) w') w' a0_3 c0_3 p0.Gates ∧ Sl (Rp.int .i64) (Fz (nb la3 :: []) w') w' a0_4 c0_4 p0.Outs ∧ Bf (nb la3 :: []) w' b1 43 [.int .i64 p0.Inputs, .int .i64 p0.Latches, .slice a0_2 p0.Next.length c0_2, .slice a0_3 p0.Gates.length c0_3, .slice a0_4 p0.Outs.length c0_4] ∧ Ow (Rp.int .i64) 2 (Fz (nb la3 :: []) w') w' la3 lc3 v3 ∧ (nb la3 = 0 ∨ w.heap.size < nb la3) ∧ 0 ≤ v4 ∧ Int.toNat ((p0.Gates.length : Int) - v4) = k ∧ cntM (s_DepthOf_b0 p0) k v4 (v3 : (List Int)) = some q14) ⟨_, _, ⟨x17, a17, c17, 0, rfl, hE13, hs0_2, hs0_3, hs0_4, hb1, ho17, hF17, (by decide), (by simp), hq14⟩, fun a ha => (ha.more (ha.more (ha.more ha.nil rfl) rfl) rfl)⟩ ?_
    rintro k _ w15 ⟨v3, la3, lc3, v4, rfl, hE16, hs0_2, hs0_3, hs0_4, hb1, lo3, lF3, hj14, hJ14, h⟩
    rcases k with _ | k
    ·
      simp only [cntM] at h
      have hc14 : decide (v4 < (p0.Gates.length : Int)) = false := decide_eq_false (by omega)
      refine WC.seq ?_
      refine WC.seq ?_
      refine WC.regS [(0, 2), (1, 2), (2, 1), (3, 2), (4, 2)] rfl ?_
      refine WO.sp rfl rfl rfl rfl (rn_move rfl rfl) ?_
      refine WO.sp rfl rfl rfl rfl (rn_fieldAddr Try.runUnderlying43 rfl Try.sizeOf41 rfl rfl) ?_
      refine WO.sq trivial rfl rfl rfl rfl (rn_loadB hb1 Try.isAgg41 rfl rfl rfl) ?_
      refine WO.sp rfl rfl rfl rfl (rn_len Try.runUnderlying41 rfl rfl) ?_
      refine WO.sp rfl rfl rfl rfl (rn_lss rfl rfl rfl) ?_
      refine WO.fin ?_
      refine DN.seq ?_
      refine WC.cf' rfl hc14 ?_
      refine WC.exit ?_
      refine DN.exitThen ?_
      refine DN.exitThen ?_
      obtain rfl := Option.some.inj h
      have h := hk14
      simp only [cond_true, cond_false, Option.bind_some, Option.bind_assoc, lpK_ret, lpK_brk, lpK_nxt, aft_inl, aft_inr] at h
      refine DN.hit ?_
      refine DN.seq ?_
      refine WC.seq ?_
      refine WC.regS [(0, 2)] rfl ?_
      refine WO.sp rfl rfl rfl rfl (rn_assign rfl rfl) ?_
      refine WO.fin ?_
      refine DN.seq ?_
      refine WC.seq ?_
      refine WC.seq ?_
      refine WC.regS [(0, 2)] rfl ?_
      refine WO.sp rfl rfl rfl rfl (rn_assign rfl rfl) ?_
      refine WO.fin ?_
      refine DN.seq ?_
      refine WC.block ?_
      obtain ⟨q17, hq17, hk17⟩ := Option.bind_eq_some_iff.mp h
      clear h
      refine WC.loop (fun k L w' => ∃ (v5 : Int), ∃ (v6 : Int), L = [(1, .pointer (some ⟨b1, 0, none⟩)), (3, .slice la3 v3.length lc3), (5, .int .i64 v5), (6, .int .i64 v6)] ∧ Ext w w' ∧ Sl (Rp.int .i64) (Fz (nb la3 :: []) w') w' a0_2 c0_2 p0.Next ∧ Sl Gate.rp (Fz (nb la3 :: []) w') w' a0_3 c0_3 p0.Gates ∧ Sl (Rp.int .i64) (Fz (nb la3 :: []) w') w' a0_4 c0_4 p0.Outs ∧ Bf (nb la3 :: []) w' b1 43 [.int .i64 p0.Inputs, .int .i64 p0.Latches, .slice a0_2 p0.Next.length c0_2, .slice a0_3 p0.Gates.length c0_3, .slice a0_4 p0.Outs.length c0_4] ∧ Ow (Rp.int .i64) 2 (Fz (nb la3 :: []) w') w' la3 lc3 v3 ∧ 0 ≤ v6 ∧ Int.toNat ((p0.Next.length : Int) - v6) = k ∧ cntM (s_DepthOf_b2 p0 (v3 : (List Int))) k v6 (v5 : Int) = some q17) ⟨_, _, ⟨0, 0, rfl, hE16, hs0_2, hs0_3, hs0_4, hb1, lo3, (by decide), (by simp), hq17⟩, fun a ha => (ha.more (ha.more (ha.more (ha.more ha.nil rfl) rfl) rfl) rfl)⟩ ?_
      rintro k _ w18 ⟨v5, v6, rfl, hE19, hs0_2, hs0_3, hs0_4, hb1, lo3, hj17, hJ17, h⟩
      rcases k with _ | k
      ·
        simp only [cntM] at h
        have hc17 : decide (v6 < (p0.Next.length : Int)) = false := decide_eq_false (by omega)
        refine WC.seq ?_
        refine WC.seq ?_
        refine WC.regS [(0, 2), (1, 2), (2, 1), (3, 2), (4, 2)] rfl ?_
        refine WO.sp rfl rfl rfl rfl (rn_move rfl rfl) ?_
        refine WO.sp rfl rfl rfl rfl (rn_fieldAddr Try.runUnderlying43 rfl Try.sizeOf24 rfl rfl) ?_
        refine WO.sq trivial rfl rfl rfl rfl (rn_loadB hb1 Try.isAgg24 rfl rfl rfl) ?_
        refine WO.sp rfl rfl rfl rfl (rn_len Try.runUnderlying24 rfl rfl) ?_
        refine WO.sp rfl rfl rfl rfl (rn_lss rfl rfl rfl) ?_
        refine WO.fin ?_
        refine DN.seq ?_
        refine WC.cf' rfl hc17 ?_
        refine WC.exit ?_
        refine DN.exitThen ?_
        refine DN.exitThen ?_
        obtain rfl := Option.some.inj h
        have h := hk17
        simp only [cond_true, cond_false, Option.bind_some, Option.bind_assoc, lpK_ret, lpK_brk, lpK_nxt, aft_inl, aft_inr] at h
        refine DN.hit ?_
        refine DN.seq ?_
        refine WC.seq ?_
        refine WC.seq ?_
        refine WC.regS [(0, 2)] rfl ?_
        refine WO.sp rfl rfl rfl rfl (rn_assign rfl rfl) ?_
        refine WO.fin ?_
        refine DN.seq ?_
        refine WC.block ?_
        obtain ⟨q20, hq20, hk20⟩ := Option.bind_eq_some_iff.mp h
        clear h
        refine WC.loop (fun k L w' => ∃ (v5 : Int), ∃ (v7 : Int), L = [(1, .pointer (some ⟨b1, 0, none⟩)), (3, .slice la3 v3.length lc3), (5, .int .i64 v5), (7, .int .i64 v7)] ∧ Ext w w' ∧ Sl (Rp.int .i64) (Fz (nb la3 :: []) w') w' a0_2 c0_2 p0.Next ∧ Sl Gate.rp (Fz (nb la3 :: []) w') w' a0_3 c0_3 p0.Gates ∧ Sl (Rp.int .i64) (Fz (nb la3 :: []) w') w' a0_4 c0_4 p0.Outs ∧ Bf (nb la3 :: []) w' b1 43 [.int .i64 p0.Inputs, .int .i64 p0.Latches, .slice a0_2 p0.Next.length c0_2, .slice a0_3 p0.Gates.length c0_3, .slice a0_4 p0.Outs.length c0_4] ∧ Ow (Rp.int .i64) 2 (Fz (nb la3 :: []) w') w' la3 lc3 v3 ∧ 0 ≤ v7 ∧ Int.toNat ((p0.Outs.length : Int) - v7) = k ∧ cntM (s_DepthOf_b4 p0 (v3 : (List Int))) k v7 (v5 : Int) = some q20) ⟨_, _, ⟨v5, 0, rfl, hE19, hs0_2, hs0_3, hs0_4, hb1, lo3, (by decide), (by simp), hq20⟩, fun a ha => (ha.more (ha.more (ha.more (ha.more ha.nil rfl) rfl) rfl) rfl)⟩ ?_
        rintro k _ w21 ⟨v5, v7, rfl, hE22, hs0_2, hs0_3, hs0_4, hb1, lo3, hj20, hJ20, h⟩
        rcases k with _ | k
        ·
          simp only [cntM] at h
          have hc20 : decide (v7 < (p0.Outs.length : Int)) = false := decide_eq_false (by omega)
          refine WC.seq ?_
          refine WC.seq ?_
          refine WC.regS [(0, 2), (1, 2), (2, 1), (3, 2), (4, 2)] rfl ?_
          refine WO.sp rfl rfl rfl rfl (rn_move rfl rfl) ?_
          refine WO.sp rfl rfl rfl rfl (rn_fieldAddr Try.runUnderlying43 rfl Try.sizeOf24 rfl rfl) ?_
          refine WO.sq trivial rfl rfl rfl rfl (rn_loadB hb1 Try.isAgg24 rfl rfl rfl) ?_
          refine WO.sp rfl rfl rfl rfl (rn_len Try.runUnderlying24 rfl rfl) ?_
          refine WO.sp rfl rfl rfl rfl (rn_lss rfl rfl rfl) ?_
          refine WO.fin ?_
          refine DN.seq ?_
          refine WC.cf' rfl hc20 ?_
          refine WC.exit ?_
          refine DN.exitThen ?_
          refine DN.exitThen ?_
          obtain rfl := Option.some.inj h
          have h := hk20
          simp only [cond_true, cond_false, Option.bind_some, Option.bind_assoc, lpK_ret, lpK_brk, lpK_nxt, aft_inl, aft_inr] at h
          refine DN.hit ?_
          have hsb23 : Sb (nb la3 :: []) [] := (Sb.drop (Sb.refl _))
          have hs0_2 := hs0_2.stp hsb23.st
          have hs0_3 := hs0_3.stp hsb23.st
          have hs0_4 := hs0_4.stp hsb23.st
          have hb1 := hb1.stp hsb23.st
          refine DN.seq ?_
          refine WC.seq ?_
          refine WC.regS [(0, 2), (1, 2)] rfl ?_
          refine WO.sp rfl rfl rfl rfl (rn_move rfl rfl) ?_
          refine WO.sp rfl rfl rfl rfl (rn_assign rfl rfl) ?_
          refine WO.fin ?_
          refine DN.seq ?_
          refine WC.ret ?_
          refine DN.ret1 Try.results20 rfl ?_
          obtain rfl := Option.some.inj h
          exact ⟨rfl, hE22⟩
        ·
          simp only [cntM, s_DepthOf_b4, cond_true, cond_false, Option.bind_some, Option.bind_assoc, lpK_ret, lpK_brk, lpK_nxt, aft_inl, aft_inr] at h
          have hc20 : decide (v7 < (p0.Outs.length : Int)) = true := decide_eq_true (by omega)
          refine WC.seq ?_
          refine WC.seq ?_
          refine WC.regS [(0, 2), (1, 2), (2, 1), (3, 2), (4, 2)] rfl ?_
          refine WO.sp rfl rfl rfl rfl (rn_move rfl rfl) ?_
          refine WO.sp rfl rfl rfl rfl (rn_fieldAddr Try.runUnderlying43 rfl Try.sizeOf24 rfl rfl) ?_
          refine WO.sq trivial rfl rfl rfl rfl (rn_loadB hb1 Try.isAgg24 rfl rfl rfl) ?_
          refine WO.sp rfl rfl rfl rfl (rn_len Try.runUnderlying24 rfl rfl) ?_
          refine WO.sp rfl rfl rfl rfl (rn_lss rfl rfl rfl) ?_
          refine WO.fin ?_
          refine DN.seq ?_
          refine WC.ct' rfl hc20 ?_
          refine WC.skip ?_
          refine DN.seq ?_
          refine WC.seq ?_
          refine WC.block ?_
          refine WC.regS [(0, 2), (1, 2), (2, 2), (3, 1), (4, 2), (5, 2), (6, 1), (7, 2), (8, 2), (9, 1), (10, 1), (11, 2)] rfl ?_
          refine WO.sp rfl rfl rfl rfl (rn_move rfl rfl) ?_
          refine WO.sp rfl rfl rfl rfl (rn_move rfl rfl) ?_
          refine WO.sp rfl rfl rfl rfl (rn_fieldAddr Try.runUnderlying43 rfl Try.sizeOf24 rfl rfl) ?_
          refine WO.sq trivial rfl rfl rfl rfl (rn_loadB hb1 Try.isAgg24 rfl rfl rfl) ?_
          refine WO.sp rfl rfl rfl rfl (rn_move rfl rfl) ?_
          obtain ⟨x80, hx80, h⟩ := Option.bind_eq_some_iff.mp h
          refine WO.sp rfl rfl rfl rfl (rn_index hs0_4 hx80 Try.runUnderlying24 Try.sizeOf2 rfl rfl rfl rfl) ?_
          refine WO.sq trivial rfl rfl rfl rfl (rn_load Try.isAgg2 rfl rfl ((hs0_4).getInt hx80)) ?_
          refine WO.sp rfl rfl rfl rfl (rn_quo rfl rfl rfl (by decide)) ?_
          obtain ⟨x83, hx83, h⟩ := Option.bind_eq_some_iff.mp h
          refine WO.sp rfl rfl rfl rfl (rn_index lo3.read hx83 Try.runUnderlying24 Try.sizeOf2 rfl rfl rfl rfl) ?_
          refine WO.sq trivial rfl rfl rfl rfl (rn_load Try.isAgg2 rfl rfl ((lo3.read).getInt hx83)) ?_
          obtain ⟨x85, hx85, h⟩ := Option.bind_eq_some_iff.mp h
          refine WO.call rfl rfl rfl rfl rfl rfl Try.call50 (s_l1Max_ok  hx85) ?_
          rintro _ w24 ⟨rfl, he25⟩
          refine ⟨trivial, ?_⟩
          have hst26 := St.ext (M := (nb la3 :: [])) (Sub.refl _ _) he25
          have hs0_2 := hs0_2.stp hst26
          have hs0_3 := hs0_3.stp hst26
          have hs0_4 := hs0_4.stp hst26
          have hb1 := hb1.stp hst26
          have lo3 := lo3.ext (Sub.refl _ _) he25
          have hE27 := hE22.trans he25
          refine WO.sp rfl rfl rfl rfl (rn_assign rfl rfl) ?_
          refine WO.fin ?_
          refine DN.block ?_
          refine DN.seq ?_
          refine WC.regS [(0, 2), (1, 2), (2, 2)] rfl ?_
          refine WO.sp rfl rfl rfl rfl (rn_move rfl rfl) ?_
          refine WO.sp rfl rfl rfl rfl (rn_add rfl rfl rfl) ?_
          refine WO.sp rfl rfl rfl rfl (rn_assign rfl rfl) ?_
          refine WO.fin ?_
          have hw20 : IntKind.wrap .i64 (v7 + 1) = v7 + 1 := wr1 hj20 (of_decide_eq_true hc20) hs0_4.len_le
          rw [hw20]
          have hc20 := of_decide_eq_true hc20
          refine DN.round fun a ha => ?_
          exact ⟨k, _, Nat.lt_succ_self _, ⟨x85, v7 + 1, rfl, hE27, hs0_2, hs0_3, hs0_4, hb1, lo3, by omega, by omega, h⟩, (ha.more (ha.more (ha.more (ha.more ha.nil rfl) rfl) rfl) rfl)⟩
      ·
        simp only [cntM, s_DepthOf_b2, cond_true, cond_false, Option.bind_some, Option.bind_assoc, lpK_ret, lpK_brk, lpK_nxt, aft_inl, aft_inr] at h
        have hc17 : decide (v6 < (p0.Next.length : Int)) = true := decide_eq_true (by omega)
        refine WC.seq ?_
        refine WC.seq ?_
        refine WC.regS [(0, 2), (1, 2), (2, 1), (3, 2), (4, 2)] rfl ?_
        refine WO.sp rfl rfl rfl rfl (rn_move rfl rfl) ?_
        refine WO.sp rfl rfl rfl rfl (rn_fieldAddr Try.runUnderlying43 rfl Try.sizeOf24 rfl rfl) ?_
        refine WO.sq trivial rfl rfl rfl rfl (rn_loadB hb1 Try.isAgg24 rfl rfl rfl) ?_
        refine WO.sp rfl rfl rfl rfl (rn_len Try.runUnderlying24 rfl rfl) ?_
        refine WO.sp rfl rfl rfl rfl (rn_lss rfl rfl rfl) ?_
        refine WO.fin ?_
        refine DN.seq ?_
        refine WC.ct' rfl hc17 ?_
        refine WC.skip ?_
        refine DN.seq ?_
        refine WC.seq ?_
        refine WC.block ?_
        refine WC.regS [(0, 2), (1, 2), (2, 2), (3, 1), (4, 2), (5, 2), (6, 1), (7, 2), (8, 2), (9, 1), (10, 1), (11, 2)] rfl ?_
        refine WO.sp rfl rfl rfl rfl (rn_move rfl rfl) ?_
        refine WO.sp rfl rfl rfl rfl (rn_move rfl rfl) ?_
        refine WO.sp rfl rfl rfl rfl (rn_fieldAddr Try.runUnderlying43 rfl Try.sizeOf24 rfl rfl) ?_
        refine WO.sq trivial rfl rfl rfl rfl (rn_loadB hb1 Try.isAgg24 rfl rfl rfl) ?_
        refine WO.sp rfl rfl rfl rfl (rn_move rfl rfl) ?_
        obtain ⟨x62, hx62, h⟩ := Option.bind_eq_some_iff.mp h
        refine WO.sp rfl rfl rfl rfl (rn_index hs0_2 hx62 Try.runUnderlying24 Try.sizeOf2 rfl rfl rfl rfl) ?_
        refine WO.sq trivial rfl rfl rfl rfl (rn_load Try.isAgg2 rfl rfl ((hs0_2).getInt hx62)) ?_
        refine WO.sp rfl rfl rfl rfl (rn_quo rfl rfl rfl (by decide)) ?_
        obtain ⟨x65, hx65, h⟩ := Option.bind_eq_some_iff.mp h
        refine WO.sp rfl rfl rfl rfl (rn_index lo3.read hx65 Try.runUnderlying24 Try.sizeOf2 rfl rfl rfl rfl) ?_
        refine WO.sq trivial rfl rfl rfl rfl (rn_load Try.isAgg2 rfl rfl ((lo3.read).getInt hx65)) ?_
        obtain ⟨x67, hx67, h⟩ := Option.bind_eq_some_iff.mp h
        refine WO.call rfl rfl rfl rfl rfl rfl Try.call50 (s_l1Max_ok  hx67) ?_
        rintro _ w28 ⟨rfl, he29⟩
        refine ⟨trivial, ?_⟩
        have hst30 := St.ext (M := (nb la3 :: [])) (Sub.refl _ _) he29
        have hs0_2 := hs0_2.stp hst30
        have hs0_3 := hs0_3.stp hst30
        have hs0_4 := hs0_4.stp hst30
        have hb1 := hb1.stp hst30
        have lo3 := lo3.ext (Sub.refl _ _) he29
        have hE31 := hE19.trans he29
        refine WO.sp rfl rfl rfl rfl (rn_assign rfl rfl) ?_
        refine WO.fin ?_
        refine DN.block ?_
        refine DN.seq ?_
        refine WC.regS [(0, 2), (1, 2), (2, 2)] rfl ?_
        refine WO.sp rfl rfl rfl rfl (rn_move rfl rfl) ?_
        refine WO.sp rfl rfl rfl rfl (rn_add rfl rfl rfl) ?_
        refine WO.sp rfl rfl rfl rfl (rn_assign rfl rfl) ?_
        refine WO.fin ?_
        have hw17 : IntKind.wrap .i64 (v6 + 1) = v6 + 1 := wr1 hj17 (of_decide_eq_true hc17) hs0_2.len_le
        rw [hw17]
        have hc17 := of_decide_eq_true hc17
        refine DN.round fun a ha => ?_
        exact ⟨k, _, Nat.lt_succ_self _, ⟨x67, v6 + 1, rfl, hE31, hs0_2, hs0_3, hs0_4, hb1, lo3, by omega, by omega, h⟩, (ha.more (ha.more (ha.more (ha.more ha.nil rfl) rfl) rfl) rfl)⟩
    ·
      simp only [cntM, s_DepthOf_b0, cond_true, cond_false, Option.bind_some, Option.bind_assoc, lpK_ret, lpK_brk, lpK_nxt, aft_inl, aft_inr] at h
      have hc14 : decide (v4 < (p0.Gates.length : Int)) = true := decide_eq_true (by omega)
      refine WC.seq ?_
      refine WC.seq ?_
      refine WC.regS [(0, 2), (1, 2), (2, 1), (3, 2), (4, 2)] rfl ?_
      refine WO.sp rfl rfl rfl rfl (rn_move rfl rfl) ?_
      refine WO.sp rfl rfl rfl rfl (rn_fieldAddr Try.runUnderlying43 rfl Try.sizeOf41 rfl rfl) ?_
      refine WO.sq trivial rfl rfl rfl rfl (rn_loadB hb1 Try.isAgg41 rfl rfl rfl) ?_
      refine WO.sp rfl rfl rfl rfl (rn_len Try.runUnderlying41 rfl rfl) ?_
      refine WO.sp rfl rfl rfl rfl (rn_lss rfl rfl rfl) ?_
      refine WO.fin ?_
      refine DN.seq ?_
      refine WC.ct' rfl hc14 ?_
      refine WC.skip ?_
      refine DN.seq ?_
      refine WC.seq ?_
      refine WC.block ?_
      refine WC.regX (some 24) [(0, 2), (1, 2), (2, 2), (4, 2), (11, 2), (12, 2), (14, 2), (3, 0), (5, 2), (6, 2), (7, 0), (8, 2), (9, 2), (10, 0), (13, 0), (15, 2), (16, 2), (17, 0), (18, 2), (19, 2), (20, 0), (21, 1), (22, 2), (23, 1)] [(24, 1), (25, 2)] (by kernel_rfl) (by kernel_rfl) fun w32 he33 hh34 => ?_
      have hst35 := St.ext (M := (nb la3 :: [])) (Sub.refl _ _) he33
      have hs0_2 := hs0_2.stp hst35
      have hs0_3 := hs0_3.stp hst35
      have hs0_4 := hs0_4.stp hst35
      have hb1 := hb1.stp hst35
      have lo3 := lo3.ext (Sub.refl _ _) he33
      have hE36 := hE16.trans he33
      refine WO.sp rfl rfl rfl rfl (rn_move rfl rfl) ?_
      refine WO.sp rfl rfl rfl rfl (rn_move rfl rfl) ?_
      refine WO.sp rfl rfl rfl rfl (rn_fieldAddr Try.runUnderlying43 rfl Try.sizeOf41 rfl rfl) ?_
      refine WO.sp rfl rfl rfl rfl (rn_move rfl rfl) ?_
      refine WO.sp rfl rfl rfl rfl (rn_move rfl rfl) ?_
      refine WO.sp rfl rfl rfl rfl (rn_fieldAddr Try.runUnderlying43 rfl Try.sizeOf41 rfl rfl) ?_
      refine WO.sp rfl rfl rfl rfl (rn_move rfl rfl) ?_
      refine WO.dq rfl rfl rfl rfl (rn_loadB hb1 Try.isAgg41 rfl rfl rfl) ?_
      obtain ⟨x30, hx30, h⟩ := Option.bind_eq_some_iff.mp h
      refine WO.sp rfl rfl rfl rfl (rn_index hs0_3 hx30 Try.runUnderlying41 Try.sizeOf68 rfl rfl rfl rfl) ?_
      refine WO.sp rfl rfl rfl rfl (rn_fieldAddr Try.runUnderlying68 rfl Try.sizeOf2 rfl rfl) ?_
      obtain ⟨csx30, hrx30, hlx30⟩ := (hs0_3).get hx30
      obtain rfl := Gate.un hrx30
      refine WO.dq rfl rfl rfl rfl (rn_load Try.isAgg2 rfl rfl fun w' hw' => hlx30 w' hw' 0 _ rfl) ?_
      refine WO.sp rfl rfl rfl rfl (rn_quo rfl rfl rfl (by decide)) ?_
      obtain ⟨x34, hx34, h⟩ := Option.bind_eq_some_iff.mp h
      refine WO.sp rfl rfl rfl rfl (rn_index lo3.read hx34 Try.runUnderlying24 Try.sizeOf2 rfl rfl rfl rfl) ?_
      refine WO.dq rfl rfl rfl rfl (rn_load Try.isAgg2 rfl rfl ((lo3.read).getInt hx34)) ?_
      refine WO.dq rfl rfl rfl rfl (rn_loadB hb1 Try.isAgg41 rfl rfl rfl) ?_
      obtain ⟨x40, hx40, h⟩ := Option.bind_eq_some_iff.mp h
      refine WO.sp rfl rfl rfl rfl (rn_index hs0_3 hx40 Try.runUnderlying41 Try.sizeOf68 rfl rfl rfl rfl) ?_
      refine WO.sp rfl rfl rfl rfl (rn_fieldAddr Try.runUnderlying68 rfl Try.sizeOf2 rfl rfl) ?_
      obtain ⟨csx40, hrx40, hlx40⟩ := (hs0_3).get hx40
      obtain rfl := Gate.un hrx40
      refine WO.dq rfl rfl rfl rfl (rn_load Try.isAgg2 rfl rfl fun w' hw' => hlx40 w' hw' 1 _ rfl) ?_
      refine WO.sp rfl rfl rfl rfl (rn_quo rfl rfl rfl (by decide)) ?_
      obtain ⟨x44, hx44, h⟩ := Option.bind_eq_some_iff.mp h
      refine WO.sp rfl rfl rfl rfl (rn_index lo3.read hx44 Try.runUnderlying24 Try.sizeOf2 rfl rfl rfl rfl) ?_
      refine WO.dq rfl rfl rfl rfl (rn_load Try.isAgg2 rfl rfl ((lo3.read).getInt hx44)) ?_
      obtain ⟨x46, hx46, h⟩ := Option.bind_eq_some_iff.mp h
      refine WO.call rfl rfl rfl rfl rfl rfl Try.call50 (s_l1Max_ok  hx46) ?_
      rintro _ w37 ⟨rfl, he38⟩
      have hx39 := he38
      refine ⟨hx39.cw, ?_⟩
      have hst40 := St.ext (M := (nb la3 :: [])) (Sub.refl _ _) he38
      have hz41 := hst40
      have hs0_2 := hs0_2.stp hst40
      have hs0_3 := hs0_3.stp hst40
      have hs0_4 := hs0_4.stp hst40
      have hb1 := hb1.stp hst40
      have lo3 := lo3.ext (Sub.refl _ _) he38
      have hE42 := hE36.trans he38
      refine WO.sp rfl rfl rfl rfl (rn_add rfl rfl rfl) ?_
      refine WO.bld (E := (Rp.int .i64)) (M := (nb la3 :: [])) (parts := [(0, .tmp 47)]) (cells := [.int .i64 (IntKind.i64.wrap (1 + x46))]) (xs := ([(IntKind.i64.wrap (1 + x46))] : List Int)) rfl rfl rfl rfl rfl rfl Try.underlying24 Tryinfo2 rfl rfl rfl rfl rfl rfl rfl rfl (by intro v hv; simp only [List.mem_cons, List.not_mem_nil, or_false] at hv; rcases hv with rfl <;> rfl) ⟨_, _, rfl, rfl, rfl⟩ ?_
      intro a48 c48 w43 he44 hn48 ho48
      have hx45 := hx39.trans he44
      refine ⟨hx45.cw, ?_⟩
      have hd_l3_48 : nb la3 = 0 ∨ nb la3 ≠ nb a48 := d_new lo3.nb_le hn48
      have hF48 : nb a48 = 0 ∨ w.heap.size < nb a48 := f_new hE42 hn48
      have hst46 := St.ext (M := (nb la3 :: [])) (Sub.new hn48 (Sub.refl _ _)) he44
      have hz47 := hz41.trans hst46
      have hs0_2 := hs0_2.stp hst46
      have hs0_3 := hs0_3.stp hst46
      have hs0_4 := hs0_4.stp hst46
      have hb1 := hb1.stp hst46
      have lo3 := lo3.ext (Sub.new hn48 (Sub.refl _ _)) he44
      have hE48 := hE42.trans he44
      refine WO.nx ?_
      obtain ⟨x49, hx49, h⟩ := Option.bind_eq_some_iff.mp h
      refine WO.app (E := (Rp.int .i64)) (M := (nb a48 :: (nb la3 :: []))) rfl rfl rfl rfl rfl rfl rfl rfl rfl Try.underlying24 Tryinfo2 rfl rfl rfl rfl (by decide) lo3 (.inr (.tail _ (.head _))) ho48.src hx49 ?_
      intro a49 c49 w49 hn49 ht50 hO49
      refine ⟨trivial, ?_⟩
      have hF49 : nb a49 = 0 ∨ w.heap.size < nb a49 := f_turn hE48 hn49 lF3
      have hd_48_49 : nb a48 = 0 ∨ nb a48 ≠ nb a49 := d_turn ho48.nb_le hn49 (d_sym hd_l3_48)
      have hst51 := Tch.st (M := (nb a48 :: (nb la3 :: []))) ht50 (.inr (.tail _ (.head _))) (Sub.same _ (Sub.turn hn49 (Sub.refl _ _)))
      have hs0_2 := hs0_2.stp hst51
      have hs0_3 := hs0_3.stp hst51
      have hs0_4 := hs0_4.stp hst51
      have hb1 := hb1.stp hst51
      have ho48 := ho48.tch ht50 (.inr (.tail _ (.head _))) (Sub.same _ (Sub.turn hn49 (Sub.refl _ _))) (d_sym hd_l3_48)
      have ho49 := hO49 _ (Sub.same _ (Sub.turn hn49 (Sub.refl _ _)))
      have hE52 := ht50.ext hE48 lF3
      have hs0_2 := hs0_2.stp (Sb.st (Sb.drop (Sb.same _ (Sb.refl _))))
      have hs0_3 := hs0_3.stp (Sb.st (Sb.drop (Sb.same _ (Sb.refl _))))
      have hs0_4 := hs0_4.stp (Sb.st (Sb.drop (Sb.same _ (Sb.refl _))))
      have hb1 := hb1.stp (Sb.st (Sb.drop (Sb.same _ (Sb.refl _))))
      have ho49 := ho49.sb (Sb.drop (Sb.same _ (Sb.refl _)))
      refine WO.sp rfl rfl rfl rfl (rn_assign rfl rfl) ?_
      refine WO.fin ?_
      refine DN.block ?_
      refine DN.seq ?_
      refine WC.regS [(0, 2), (1, 2), (2, 2)] rfl ?_
      refine WO.sp rfl rfl rfl rfl (rn_move rfl rfl) ?_
      refine WO.sp rfl rfl rfl rfl (rn_add rfl rfl rfl) ?_
      refine WO.sp rfl rfl rfl rfl (rn_assign rfl rfl) ?_
      refine WO.fin ?_
      have hw14 : IntKind.wrap .i64 (v4 + 1) = v4 + 1 := wr1 hj14 (of_decide_eq_true hc14) hs0_3.len_le
      rw [hw14]
      have hc14 := of_decide_eq_true hc14
      refine DN.round fun a ha => ?_
      exact ⟨k, _, Nat.lt_succ_self _, ⟨x49, a49, c49, v4 + 1, rfl, hE52, hs0_2, hs0_3, hs0_4, hb1, ho49, hF49, by omega, by omega, h⟩, (ha.more (ha.more (ha.more ha.nil rfl) rfl) rfl)⟩

end Go.Proofs.Ytpmnpdphailagaa
