/- EditedAll: the law. -/
import Derived.Test.YtnmjfjppgpkieaaEditedE
set_option linter.unusedVariables false
set_option linter.unusedSimpArgs false
namespace Go.Proofs.Ytnmjfjppgpkieaa
open Go Go.Wk Go.Proofs
theorem EditedAll_same (g : Parity) (es : List Edit) : ∃ r k, s_EditedAll g es = some (r, k) ∧ i_EditedAll g es = some (r, k) ∧ (r = zeroP ∨ parityOk r = true) := by
  unfold s_EditedAll i_EditedAll
  rw [s_ParityOk_eq, i_ParityOk_eq, Option.bind_some, Option.bind_some]
  cases hp : parityOk g with
  | false => exact ⟨zeroP, -1, rfl, rfl, .inl rfl⟩
  | true =>
    by_cases hl : 64 < (es.length : Int)
    · simp only [hl, decide_true, Bool.not_true, cond_false, cond_true, Option.bind_some]
      exact ⟨zeroP, -1, rfl, rfl, .inl rfl⟩
    · simp only [hl, decide_false, Bool.not_true, cond_false, Option.bind_some, s_l4Copy_eq hp, i_copyParity_eq hp]
      obtain ⟨o, q, h1, h2, h3⟩ := cnt_sim2 (f := s_EditedAll_b0 es) (g := i_EditedAll_b0 es) (fun _ (s t : List Int × List (List Int) × List Int) => s = t ∧ parityOk ⟨⟨s.1, s.2.1⟩, s.2.2⟩ = true) (fun r r' => r = r' ∧ parityOk r.1 = true) (fun _ _ => False) es.length
        (fun j s t hj ⟨e, hs⟩ => by
          subst e
          have hx : es[j]? = some es[j] := by simp [hj]
          generalize es[j] = e at hx
          unfold s_EditedAll_b0 i_EditedAll_b0
          rw [idx_nat, hx, Option.bind_some, Option.bind_some, i_isEdit_eq hs]
          unfold s_Edited
          rw [s_EditOk_eq, hs]
          cases he : editOk ⟨⟨s.1, s.2.1⟩, s.2.2⟩ e with
          | false => exact ⟨_, _, rfl, rfl, rfl, hs⟩
          | true =>
            obtain ⟨r, d1, d2, d3⟩ := do_same hs he
            simp only [Bool.and_self, Bool.not_true, cond_false, Option.bind_some, d1, d2]
            exact ⟨_, _, rfl, rfl, rfl, d3⟩)
        es.length 0 (g.Arena.Owner, g.Arena.Next, g.Prio) (g.Arena.Owner, g.Arena.Next, g.Prio) (by omega) ⟨rfl, hp⟩
      have h1 : cntM (s_EditedAll_b0 es) es.length 0 (g.Arena.Owner, g.Arena.Next, g.Prio) = some o := h1
      have h2 : cntM (i_EditedAll_b0 es) es.length 0 (g.Arena.Owner, g.Arena.Next, g.Prio) = some q := h2
      rw [h1, h2]
      match o, q, h3 with
      | .inl r, .inl r', ⟨e, h⟩ => subst e; exact ⟨_, _, rfl, rfl, .inr h⟩
      | .inr s, .inr t, .inl ⟨e, h⟩ =>
        subst e
        exact ⟨_, _, rfl, rfl, .inr h⟩
theorem FnExactEditedAll_law {p0 : Parity} (ok0 : Parity.ok p0) {p1 : List Edit} (ok1 : okS Edit.ok p1) : l_FnExactEditedAll p0 p1 = some true :=
  FnExactEditedAll_of ok0 ok1 fun _ _ => by
    obtain ⟨r, b, h1, h2, h3⟩ := EditedAll_same p0 p1
    refine ⟨r, b, h1, h2, ?_⟩
    rcases h3 with rfl | h3
    · exact ⟨by decide, by decide, by decide⟩
    · exact parity_ct h3
end Go.Proofs.Ytnmjfjppgpkieaa
