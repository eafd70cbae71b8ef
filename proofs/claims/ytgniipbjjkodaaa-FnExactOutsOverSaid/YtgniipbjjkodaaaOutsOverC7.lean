/- OutsOver: both sides compute the same. -/
import Derived.Test.YtgniipbjjkodaaaStepOfC7
set_option linter.unusedVariables false
set_option linter.unusedSimpArgs false
namespace Go.Proofs.Ytgniipbjjkodaaa
open Go Go.Wk Go.Proofs

theorem OutsOver_same (c : Circuit) (xs : List Int) : ∃ z, s_OutsOver c xs = some z ∧ i_OutsOver c xs = some z ∧ z.length ≤ 100 := by
  unfold s_OutsOver i_OutsOver
  rw [s_CircuitOk_eq, i_isCircuit_eq, Option.bind_some, Option.bind_some]
  by_cases hl : 64 < (xs.length : Int)
  · refine ⟨[], by simp [hl], ?_, by simp⟩
    cases circOk c <;> simp [hl]
  cases hc : circOk c with
  | false => exact ⟨[], by simp [hl], by simp [hl], by simp⟩
  | true =>
    obtain ⟨hh, _⟩ := circOk_spec hc
    have hb := circHead_in hh
    have pI := pow_in (j := c.Inputs.toNat) (by omega)
    have pL := pow_in (j := c.Latches.toNat) (by omega)
    simp only [hl, decide_false, Bool.not_true, cond_false, Option.bind_some, (shl_int hb.1 (by omega : c.Inputs ≤ 40)).1, (shl_int hb.1 (by omega : c.Inputs ≤ 40)).2, i_areLetters_eq]
    have hm := cnt_all0 (f := s_OutsOver_b0 c xs) (r := ([] : List Int)) (inR (2 ^ c.Inputs.toNat)) (xs := xs) rfl (fun i y hy => by
      unfold s_OutsOver_b0
      rw [idx_nat, hy, Option.bind_some, l31Pow_int hb.1 (by omega), Option.bind_some, wr' (by omega) (by omega), s_l1In_eq, Option.bind_some, inR_eq]
      cases inR (2 ^ c.Inputs.toNat) y <;> rfl)
    rw [hm]
    cases hx : xs.all (inR (2 ^ c.Inputs.toNat)) with
    | false => exact ⟨[], by simp [aft], by simp, by simp⟩
    | true =>
      simp only [if_true, Option.bind_some, aft_inr, Bool.not_true, cond_false]
      obtain ⟨s, t, h1, h2, h3, h4, _⟩ := cnt_sim (f := s_OutsOver_b2 c xs) (g := i_OutsOver_b0 c xs) (fun j (s t : List Int × Int) => s = t ∧ s.1.length = j ∧ 0 ≤ s.2 ∧ s.2 < 2 ^ c.Latches.toNat) xs.length (s := ([], 0)) (t := ([], 0)) ⟨rfl, rfl, by simp; omega⟩ (fun j s t hj ⟨h1, h2, h3, h4⟩ => by
        subst h1
        have hy : xs[j]? = some xs[j] := by simp [hj]
        rw [List.all_eq_true] at hx
        have hr := inR_iff.1 (hx _ (List.mem_of_getElem? hy))
        obtain ⟨a, b, k1, k2, k3, k4, _⟩ := step_same hc h3 h4 hr.1 hr.2
        unfold s_OutsOver_b2 i_OutsOver_b0
        rw [idx_nat, hy]
        simp only [Option.bind_some, k1, k2]
        rw [app1 (by omega) rfl]
        exact ⟨_, _, rfl, rfl, rfl, by simp; omega, k3, k4⟩)
      rw [h1, h2, ← h3]
      exact ⟨s.1, rfl, rfl, by omega⟩
theorem FnExactOutsOver_law {p0 : Circuit} (ok0 : Circuit.ok p0) {p1 : List Int} (ok1 : okS I64 p1) : l_FnExactOutsOver p0 p1 = some true :=
  FnExactOutsOver_of ok0 ok1 fun _ _ => by
    obtain ⟨z, h1, h2, h3⟩ := OutsOver_same p0 p1
    exact ⟨z, h1, h2, by rw [ctL_one]; omega⟩
end Go.Proofs.Ytgniipbjjkodaaa
