/- StepOf: both sides compute the same. -/
import Derived.Test.YthjkonkcdfdfaaaStepOfT
set_option linter.unusedVariables false
set_option linter.unusedSimpArgs false
namespace Go.Proofs.Ythjkonkcdfdfaaa
open Go Go.Wk Go.Proofs
theorem StepOf_same (c : Circuit) (l n : Int) : ∃ a b, s_StepOf c l n = some (a, b) ∧ i_StepOf c l n = some (a, b) := by
  unfold s_StepOf i_StepOf
  rw [s_CircuitOk_eq, i_isCircuit_eq, Option.bind_some, Option.bind_some]
  cases hc : circOk c with
  | false => exact ⟨-1, -1, rfl, rfl⟩
  | true =>
    obtain ⟨hh, _⟩ := circOk_spec hc
    have hb := circHead_in hh
    have pI := pow_in (j := c.Inputs.toNat) (by omega)
    have pL := pow_in (j := c.Latches.toNat) (by omega)
    simp only [Bool.not_true, cond_false, l31Pow_int hb.1 (by omega : c.Inputs ≤ 40), l31Pow_int hb.2.2.1 (by omega : c.Latches ≤ 40), (shl_int hb.1 (by omega : c.Inputs ≤ 40)).1, (shl_int hb.1 (by omega : c.Inputs ≤ 40)).2, (shl_int hb.2.2.1 (by omega : c.Latches ≤ 40)).1, (shl_int hb.2.2.1 (by omega : c.Latches ≤ 40)).2, Option.bind_some]
    rw [wr' (by omega) (by omega), wr' (by omega) (by omega)]
    simp only [s_l1In_eq, inR_eq, Option.bind_some, orE]
    have e1 : (decide (l < 0) || decide (2 ^ c.Latches.toNat ≤ l)) = !(inR (2 ^ c.Latches.toNat) l) := by
      unfold inR
      by_cases h1 : l < 0 <;> by_cases h2 : 2 ^ c.Latches.toNat ≤ l <;> simp [h1, h2] <;> omega
    have e2 : (decide (n < 0) || decide (2 ^ c.Inputs.toNat ≤ n)) = !(inR (2 ^ c.Inputs.toNat) n) := by
      unfold inR
      by_cases h1 : n < 0 <;> by_cases h2 : 2 ^ c.Inputs.toNat ≤ n <;> simp [h1, h2] <;> omega
    rw [e1, Bool.or_assoc, e2]
    cases h1 : inR (2 ^ c.Latches.toNat) l with
    | false => exact ⟨-1, -1, by simp, by simp⟩
    | true =>
      cases h2 : inR (2 ^ c.Inputs.toNat) n with
      | false => exact ⟨-1, -1, by simp, by simp⟩
      | true =>
        obtain ⟨a, b, k1, k2, _⟩ := step_same hc (inR_iff.1 h1).1 (inR_iff.1 h1).2 (inR_iff.1 h2).1 (inR_iff.1 h2).2
        exact ⟨a, b, by simp [k1], by simp [k2]⟩
end Go.Proofs.Ythjkonkcdfdfaaa
