/- UndoneBy: both sides compute the same. -/
import Derived.Test.YtgniipbjjkodaaaEditC8
set_option linter.unusedVariables false
set_option linter.unusedSimpArgs false
namespace Go.Proofs.Ytgniipbjjkodaaa
open Go Go.Wk Go.Proofs
theorem UndoneBy_same (g : Parity) (e : Edit) : ∃ a b, s_UndoneBy g e = some (a, b) ∧ i_UndoneBy g e = some (a, b) := by
  unfold s_UndoneBy i_UndoneBy
  rw [s_EditOk_eq, i_ParityOk_eq, Option.bind_some, Option.bind_some]
  cases hp : parityOk g with
  | false => exact ⟨_, _, rfl, rfl⟩
  | true =>
    rw [i_isEdit_eq hp]
    cases he : editOk g e with
    | false => exact ⟨_, _, rfl, rfl⟩
    | true =>
      obtain ⟨h1, h2, h3, h4, h5⟩ := parityOk_spec hp
      have he' := he
      unfold editOk at he'
      rw [Bool.and_eq_true] at he'
      obtain ⟨v0, v1⟩ := inR_iff.1 he'.1
      have ha : g.Prio[e.V.toNat]? = some (g.Prio[e.V.toNat]'(by omega)) := List.getElem?_eq_getElem (by omega)
      have hb : g.Arena.Owner[e.V.toNat]? = some (g.Arena.Owner[e.V.toNat]'(by omega)) := List.getElem?_eq_getElem (by omega)
      have hr : g.Arena.Next[e.V.toNat]? = some (g.Arena.Next[e.V.toNat]'(by omega)) := List.getElem?_eq_getElem (by omega)
      have hk := he'.2
      rw [hr] at hk
      simp only [editRow] at hk
      rw [idx_int v0, idx_int v0, ha, hb]
      simp only [Bool.and_self, Bool.not_true, cond_false, Option.bind_some]
      cases k1 : e.Kind == 1 with
      | true => exact ⟨_, _, rfl, rfl⟩
      | false =>
        cases k2 : e.Kind == 2 with
        | true => exact ⟨_, _, rfl, rfl⟩
        | false =>
          cases k3 : e.Kind == 3 with
          | true => exact ⟨_, _, rfl, rfl⟩
          | false =>
            cases k4 : e.Kind == 4 with
            | true => exact ⟨_, _, rfl, rfl⟩
            | false => rw [k1, k2, k3, k4] at hk; cases hk
theorem FnExactUndoneBy_law {p0 : Parity} (ok0 : Parity.ok p0) {p1 : Edit} (ok1 : Edit.ok p1) : l_FnExactUndoneBy p0 p1 = some true :=
  FnExactUndoneBy_of ok0 ok1 fun _ => UndoneBy_same p0 p1
end Go.Proofs.Ytgniipbjjkodaaa
