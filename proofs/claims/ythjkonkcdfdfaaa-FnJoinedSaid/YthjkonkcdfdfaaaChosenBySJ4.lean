/- ChosenBy: the law. -/
import Derived.Test.YthjkonkcdfdfaaaChosenByJ4
set_option linter.unusedVariables false
set_option linter.unusedSimpArgs false
namespace Go.Proofs.Ythjkonkcdfdfaaa
open Go Go.Wk Go.Proofs
theorem ChosenBy_same (c : Circuit) (x a b : Int) : ∃ r y, s_ChosenBy c x a b = some (r, y) ∧ i_ChosenBy c x a b = some (r, y) ∧ (r = zeroC ∨ r.Next.length ≤ 6 ∧ r.Gates.length ≤ 8000 ∧ r.Outs.length ≤ 4) := by
  unfold s_ChosenBy i_ChosenBy
  rw [s_CircuitOk_eq, i_isCircuit_eq, Option.bind_some, Option.bind_some]
  cases hc : circOk c with
  | false => exact ⟨zeroC, -1, rfl, rfl, .inl rfl⟩
  | true =>
    obtain ⟨hh, _⟩ := circOk_spec hc
    have hb := circHead_in hh
    have hs := sigs_in hh
    simp only [Bool.not_true, cond_false, s_l31Signals_eq hh, s_l31Literals_eq _ (show 0 ≤ sigs c by omega) (by omega), i_isLiteral_eq hh, Option.bind_some, orE, List.all_cons, List.all_nil, Bool.and_true]
    cases hx : inR (2 * sigs c) x with
    | false => exact ⟨zeroC, -1, rfl, rfl, .inl rfl⟩
    | true =>
      cases ha : inR (2 * sigs c) a with
      | false => exact ⟨zeroC, -1, rfl, rfl, .inl rfl⟩
      | true =>
        cases hb' : inR (2 * sigs c) b with
        | false => exact ⟨zeroC, -1, rfl, rfl, .inl rfl⟩
        | true =>
          obtain ⟨x0, x1⟩ := inR_iff.1 hx
          obtain ⟨a0, a1⟩ := inR_iff.1 ha
          obtain ⟨b0, b1⟩ := inR_iff.1 hb'
          obtain ⟨kn, k1, k2⟩ := newBuilder_eq hc
          obtain ⟨y, G, fl, kn', j1, j2, j3, j4, j5, j6, j7⟩ := choose_same hh k2 x0 x1 a0 a1 b0 b1 false
          rw [s_l31Copy_eq hh, k1]
          simp only [Bool.and_self, Bool.not_true, Bool.or_self, cond_false, Option.bind_some, j1]
          rcases j7 with ⟨rfl, j8⟩ | ⟨rfl, j8⟩
          · rw [j8]
            exact ⟨withG c G, y, rfl, rfl, .inr ⟨by show c.Next.length ≤ 6; omega, j2, by show c.Outs.length ≤ 4; omega⟩⟩
          · rw [j8]
            exact ⟨zeroC, -1, rfl, rfl, .inl rfl⟩
end Go.Proofs.Ythjkonkcdfdfaaa
