/- FnJoined: the law. -/
import Derived.Test.YthjkonkcdfdfaaaDrawC2J4
import Derived.Test.YthjkonkcdfdfaaaEvalStepJ4
import Derived.Test.YthjkonkcdfdfaaaStepOfSJ4
import Derived.Test.YthjkonkcdfdfaaaJoinedBySJ4
import Derived.Test.YthjkonkcdfdfaaaChosenBySJ4
set_option linter.unusedVariables false
set_option linter.unusedSimpArgs false
namespace Go.Proofs.Ythjkonkcdfdfaaa
open Go Go.Wk Go.Proofs

/-- the circuit with other gates and outputs -/
def circW (c : Circuit) (G : List Gate) (O : List Int) : Circuit := ⟨c.Inputs, c.Latches, c.Next, G, O⟩
theorem gok_of {c : Circuit} (hc : circOk c = true) : GOk (base c) c.Gates := fun i g hg => by
  have h := (circOk_spec hc).2.1 i g hg
  unfold gateOk at h
  rw [Bool.and_eq_true] at h
  obtain ⟨a0, a1⟩ := inR_iff.1 h.1
  obtain ⟨b0, b1⟩ := inR_iff.1 h.2
  unfold base
  exact ⟨a0, a1, b0, b1⟩
theorem circW_ok {c : Circuit} (hc : circOk c = true) {G : List Gate} {O : List Int} (hG : GOk (base c) G) (h8 : G.length ≤ 8000) (hl : c.Gates.length ≤ G.length) (hO : O.length ≤ 4) (hOr : ∀ x ∈ O, 0 ≤ x ∧ x < 2 * (base c + G.length)) : circOk (circW c G O) = true := by
  obtain ⟨hh, _, hn, _⟩ := circOk_spec hc
  have hb := circHead_in hh
  have hs : sigs (circW c G O) = base c + G.length := rfl
  have hs' : sigs c = base c + c.Gates.length := rfl
  unfold circOk
  rw [hs]
  simp only [Bool.and_eq_true, List.all_eq_true]
  refine ⟨⟨⟨?_, fun x hx => ?_⟩, fun x hx => ?_⟩, fun x hx => ?_⟩
  · unfold circHead at hh ⊢
    simp only [Bool.and_eq_true, decide_eq_true_eq, beq_iff_eq] at hh ⊢
    simp only [circW]
    omega
  · obtain ⟨g, i⟩ := x
    rw [List.mem_zipIdx_iff_getElem?] at hx
    have hx : G[i]? = some g := hx
    obtain ⟨a0, a1, b0, b1⟩ := hG i g hx
    unfold base at a1 b1
    unfold gateOk
    rw [Bool.and_eq_true]
    exact ⟨inR_iff.2 ⟨a0, a1⟩, inR_iff.2 ⟨b0, b1⟩⟩
  · rw [List.all_eq_true] at hn
    have := inR_iff.1 (hn x hx)
    exact inR_iff.2 ⟨this.1, by omega⟩
  · exact inR_iff.2 (hOr x hx)
/-- a step from no latch, by the truths -/
theorem stepOf_sem {c : Circuit} (hc : circOk c = true) (v : Nat) (hv : v ≤ 3) : s_StepOf c 0 (v : Int) = (if (v : Int) < 2 ^ c.Inputs.toNat then some (numAt (evG (V0 c.Inputs.toNat c.Latches.toNat 0 v) c.Gates) 0 c.Next, numAt (evG (V0 c.Inputs.toNat c.Latches.toNat 0 v) c.Gates) 0 c.Outs) else some (-1, -1)) := by
  have hb := circHead_in (circOk_spec hc).1
  have pI := pow_in (j := c.Inputs.toNat) (by omega)
  have pL := pow_in (j := c.Latches.toNat) (by omega)
  unfold s_StepOf
  rw [s_CircuitOk_eq, hc]
  simp only [Option.bind_some, Bool.not_true, cond_false, l31Pow_int hb.1 (by omega : c.Inputs ≤ 40), l31Pow_int hb.2.2.1 (by omega : c.Latches ≤ 40)]
  rw [wr' (by omega) (by omega), wr' (by omega) (by omega)]
  simp only [s_l1In_eq, inR_eq, Option.bind_some]
  have e1 : inR (2 ^ c.Latches.toNat) 0 = true := inR_iff.2 ⟨by omega, by omega⟩
  rw [e1]
  simp only [Bool.not_true, cond_false]
  by_cases h : (v : Int) < 2 ^ c.Inputs.toNat
  · have e2 : inR (2 ^ c.Inputs.toNat) (v : Int) = true := inR_iff.2 ⟨by omega, h⟩
    rw [e2, if_pos h]
    simp only [Bool.not_true, cond_false]
    rw [step_sem hc (by omega) (by omega) (by omega) (by omega)]
    rfl
  · have e2 : inR (2 ^ c.Inputs.toNat) (v : Int) = false := by
      rw [Bool.eq_false_iff]
      intro hh
      exact h (inR_iff.1 hh).2
    rw [e2, if_neg h]
    rfl
theorem FnJoined_law {p0 : List Int} (ok0 : okS U8 p0) : l_FnJoined p0 = some true := by
  unfold l_FnJoined l_big
  rw [Option.bind_some]
  by_cases hbig : 4096 < (p0.length : Int)
  · simp only [hbig, decide_true, cond_true]
  · simp only [hbig, decide_false, cond_false]
    obtain ⟨c, x, a, b, e0, hg⟩ := chosen_d (b := p0) (by omega)
    obtain ⟨r1, y1, f1, f2, _⟩ := JoinedBy_same c a b
    obtain ⟨r2, y2, k1, k2, _⟩ := ChosenBy_same c x a b
    rw [e0, Option.bind_some]
    dsimp only
    simp only [f1, f2, k1, k2, Option.bind_some, bne_self_eq_false, cond_false, beq_self_eq_true, cond_true]
    by_cases hy1 : y1 < 0
    · simp only [hy1, decide_true, cond_true, Option.bind_some]
    · by_cases hy2 : y2 < 0
      · simp only [hy1, hy2, decide_true, decide_false, cond_true, cond_false, Option.bind_some]
      · simp only [hy1, hy2, decide_false, cond_false, Option.bind_some]
        -- both are right
        unfold s_ChosenBy at k1
        unfold s_JoinedBy at f1
        rw [s_CircuitOk_eq] at k1 f1
        cases hc : circOk c with
        | false =>
          rw [hc] at f1
          have : (-1 : Int) = y1 := congrArg Prod.snd (Option.some.inj f1)
          exact absurd (show y1 < 0 by omega) hy1
        | true =>
          rw [hc] at k1 f1
          obtain ⟨hh, _⟩ := circOk_spec hc
          have hb := circHead_in hh
          have hs := sigs_in hh
          have hsg : sigs c = base c + c.Gates.length := rfl
          simp only [Option.bind_some, Bool.not_true, cond_false, s_l31Signals_eq hh, s_l31Literals_eq _ (show 0 ≤ sigs c by omega) (by omega), List.all_cons, List.all_nil, Bool.and_true] at k1 f1
          cases hx : inR (2 * sigs c) x with
          | false =>
            rw [hx] at k1
            simp only [Bool.false_and, Bool.not_false, cond_true] at k1
            have : (-1 : Int) = y2 := congrArg Prod.snd (Option.some.inj k1)
            exact absurd (show y2 < 0 by omega) hy2
          | true =>
            cases ha : inR (2 * sigs c) a with
            | false =>
              rw [ha] at f1
              simp only [Bool.false_and, Bool.not_false, cond_true] at f1
              have : (-1 : Int) = y1 := congrArg Prod.snd (Option.some.inj f1)
              exact absurd (show y1 < 0 by omega) hy1
            | true =>
              cases hb' : inR (2 * sigs c) b with
              | false =>
                rw [ha, hb'] at f1
                simp only [Bool.and_false, Bool.not_false, cond_true] at f1
                have : (-1 : Int) = y1 := congrArg Prod.snd (Option.some.inj f1)
                exact absurd (show y1 < 0 by omega) hy1
              | true =>
                rw [ha, hb'] at f1
                rw [hx, ha, hb'] at k1
                simp only [Bool.and_self, Bool.not_true, cond_false, s_l31Copy_eq hh, Option.bind_some] at f1 k1
                obtain ⟨x0, x1⟩ := inR_iff.1 hx
                obtain ⟨a0, a1⟩ := inR_iff.1 ha
                obtain ⟨b0, b1⟩ := inR_iff.1 hb'
                have hH := Head.of hh
                have hGO := gok_of hc
                have hbase : base c = 1 + c.Inputs + c.Latches := rfl
                have hVl : ∀ v : Nat, ((V0 c.Inputs.toNat c.Latches.toNat 0 v).length : Int) = base c := fun v => by rw [V0_len]; omega
                obtain ⟨z1, G1, j1, ⟨W1, w1⟩, j2, j3, j4, j5, _⟩ := join_sem hH (hVl 0) (V0_zero _ _ _ _) hGO a0 a1 b0 b1 (by omega)
                obtain ⟨z2, G2, m1, ⟨W2, w2⟩, m2, m3, m4, m5, _⟩ := choose_sem hH (hVl 0) (V0_zero _ _ _ _) hGO x0 x1 a0 a1 b0 b1 (by omega)
                rw [j1] at f1
                rw [m1] at k1
                have f1 : (withG c G1, z1) = (r1, y1) := Option.some.inj f1
                have k1 : (withG c G2, z2) = (r2, y2) := Option.some.inj k1
                have u1 : withG c G1 = r1 := congrArg Prod.fst f1
                have u2 : z1 = y1 := congrArg Prod.snd f1
                have u3 : withG c G2 = r2 := congrArg Prod.fst k1
                have u4 : z2 = y2 := congrArg Prod.snd k1
                subst u1 u2 u3 u4
                have hl1 : c.Gates.length ≤ G1.length := by rw [w1, List.length_append]; omega
                have hl2 : c.Gates.length ≤ G2.length := by rw [w2, List.length_append]; omega
                have o1 : circOk (withG c G1) = true := circW_ok hc (O := c.Outs) j3 (by omega) hl1 (by omega) (fun y hy => by
                  have := (circOk_spec hc).2.2.2
                  rw [List.all_eq_true] at this
                  have := inR_iff.1 (this y hy)
                  omega)
                have o2 : circOk (withG c G2) = true := circW_ok hc (O := c.Outs) m3 (by omega) hl2 (by omega) (fun y hy => by
                  have := (circOk_spec hc).2.2.2
                  rw [List.all_eq_true] at this
                  have := inR_iff.1 (this y hy)
                  omega)
                have q1 : decide (IntKind.i64.wrap ((c.Gates.length : Int) + 1) < ((withG c G1).Gates.length : Int)) = false := by
                  rw [wr' (by omega) (by omega)]
                  exact decide_eq_false (by show ¬ _ < (G1.length : Int); omega)
                have q2 : decide (IntKind.i64.wrap ((c.Gates.length : Int) + 3) < ((withG c G2).Gates.length : Int)) = false := by
                  rw [wr' (by omega) (by omega)]
                  exact decide_eq_false (by show ¬ _ < (G2.length : Int); omega)
                rw [s_CircuitOk_eq, s_CircuitOk_eq, o1, o2]
                simp only [Option.bind_some, Bool.not_true, cond_false, q1, q2]
                -- the four inputs
                have t0 : circOk (circW c c.Gates [a, b, x]) = true := circW_ok hc hGO (by omega) (Nat.le_refl _) (by simp) (fun y hy => by
                  simp only [List.mem_cons, List.not_mem_nil, or_false] at hy
                  rcases hy with rfl | rfl | rfl <;> omega)
                have t1 : circOk (circW c G1 [z1]) = true := circW_ok hc j3 (by omega) hl1 (by simp) (fun y hy => by
                  simp only [List.mem_cons, List.not_mem_nil, or_false] at hy
                  subst hy; omega)
                have t2 : circOk (circW c G2 [z2]) = true := circW_ok hc m3 (by omega) hl2 (by simp) (fun y hy => by
                  simp only [List.mem_cons, List.not_mem_nil, or_false] at hy
                  subst hy; omega)
                have hsame : ∀ (d : Circuit) (v : Int), i_StepOf d 0 v = s_StepOf d 0 v := fun d v => by
                  obtain ⟨u1, u2, h1, h2⟩ := StepOf_same d 0 v
                  rw [h1, h2]
                obtain ⟨_, n1, _⟩ := cnt_inv (f := l_FnJoined_b0 (c, x, a, b) (withG c G1, z1) (withG c G2, z2)) (fun _ _ => True) 4 (s := ()) trivial (fun v s hv _ => by
                  refine ⟨(), ?_, trivial⟩
                  unfold l_FnJoined_b0
                  rw [hsame, hsame]
                  dsimp only
                  rw [show (⟨c.Inputs, c.Latches, c.Next, c.Gates, [a, b, x]⟩ : Circuit) = circW c c.Gates [a, b, x] from rfl, show (⟨(withG c G1).Inputs, (withG c G1).Latches, (withG c G1).Next, (withG c G1).Gates, [z1]⟩ : Circuit) = circW c G1 [z1] from rfl, show (⟨(withG c G2).Inputs, (withG c G2).Latches, (withG c G2).Next, (withG c G2).Gates, [z2]⟩ : Circuit) = circW c G2 [z2] from rfl, stepOf_sem t0 v (by omega), stepOf_sem t1 v (by omega), stepOf_sem t2 v (by omega)]
                  rw [show (circW c c.Gates [a, b, x]).Inputs = c.Inputs from rfl, show (circW c G1 [z1]).Inputs = c.Inputs from rfl, show (circW c G2 [z2]).Inputs = c.Inputs from rfl]
                  by_cases hin : (v : Int) < 2 ^ c.Inputs.toNat
                  · rw [if_pos hin, if_pos hin, if_pos hin]
                    simp only [Option.bind_some]
                    rw [show (circW c c.Gates [a, b, x]).Latches = c.Latches from rfl, show (circW c G1 [z1]).Latches = c.Latches from rfl, show (circW c G2 [z2]).Latches = c.Latches from rfl, show (circW c c.Gates [a, b, x]).Gates = c.Gates from rfl, show (circW c G1 [z1]).Gates = G1 from rfl, show (circW c G2 [z2]).Gates = G2 from rfl, show (circW c c.Gates [a, b, x]).Outs = [a, b, x] from rfl, show (circW c G1 [z1]).Outs = [z1] from rfl, show (circW c G2 [z2]).Outs = [z2] from rfl]
                    obtain ⟨z1', G1', j1', _, _, _, _, _, j6⟩ := join_sem hH (hVl v) (V0_zero _ _ _ _) hGO a0 a1 b0 b1 (by omega)
                    obtain ⟨z2', G2', m1', _, _, _, _, _, m6⟩ := choose_sem hH (hVl v) (V0_zero _ _ _ _) hGO x0 x1 a0 a1 b0 b1 (by omega)
                    have g1 : (withG c G1, z1) = (withG c G1', z1') := Option.some.inj (j1.symm.trans j1')
                    have g2 : (withG c G2, z2) = (withG c G2', z2') := Option.some.inj (m1.symm.trans m1')
                    have g1a : G1 = G1' := congrArg (fun q => q.1.Gates) g1
                    have g1b : z1 = z1' := congrArg Prod.snd g1
                    have g2a : G2 = G2' := congrArg (fun q => q.1.Gates) g2
                    have g2b : z2 = z2' := congrArg Prod.snd g2
                    rw [← g1a, ← g1b] at j6
                    rw [← g2a, ← g2b] at m6
                    simp only [numAt, j6, m6]
                    rcases Bool.eq_false_or_eq_true (lit (evG (V0 c.Inputs.toNat c.Latches.toNat 0 v) c.Gates) x) with h1 | h1 <;> rcases Bool.eq_false_or_eq_true (lit (evG (V0 c.Inputs.toNat c.Latches.toNat 0 v) c.Gates) a) with h2 | h2 <;> rcases Bool.eq_false_or_eq_true (lit (evG (V0 c.Inputs.toNat c.Latches.toNat 0 v) c.Gates) b) with h3 | h3 <;> simp only [h1, h2, h3] <;> rfl
                  · rw [if_neg hin, if_neg hin, if_neg hin]
                    rfl)
                rw [show Int.toNat (4 - 0) = 4 from rfl, n1]
                rfl
end Go.Proofs.Ythjkonkcdfdfaaa
