/- TurnedBy: both sides compute the same. -/
import Derived.Test.YtndiklipffipcaaWonLT
set_option linter.unusedVariables false
set_option linter.unusedSimpArgs false
namespace Go.Proofs.Ytndiklipffipcaa
open Go Go.Wk Go.Proofs

theorem TurnedBy_same (g : Parity) (e : Edit) : ∃ r, s_TurnedBy g e = some r ∧ i_TurnedBy g e = some r ∧ r.length ≤ 256 := by
  unfold s_TurnedBy i_TurnedBy
  rw [s_EditOk_eq, i_ParityOk_eq, Option.bind_some, Option.bind_some]
  cases hp : parityOk g with
  | false => exact ⟨[], rfl, rfl, by simp⟩
  | true =>
    rw [i_isEdit_eq hp]
    cases he : editOk g e with
    | false => exact ⟨[], rfl, rfl, by simp⟩
    | true =>
      obtain ⟨r, d1, d2, d3, d4⟩ := do_same2 hp he
      obtain ⟨h1, h2, h3, h4, h5⟩ := parityOk_spec hp
      obtain ⟨r1, r2, r3, r4, r5⟩ := parityOk_spec d3
      obtain ⟨W, a1, a2, _⟩ := won_same (GOk.of hp) (rows_some hp)
      obtain ⟨V, b1, b2, _⟩ := won_same (GOk.of d3) (rows_some d3)
      have hlen : r.Prio.length = g.Prio.length := by omega
      rw [hlen] at b1 b2
      simp only [Bool.and_self, Bool.not_true, cond_false, Option.bind_some, d1, d2, a1, a2, b1, b2]
      generalize hA : wonL g.Prio.length W = A
      generalize hB : wonL g.Prio.length V = B
      have lA : A.length = g.Prio.length := by rw [← hA, wonL_len]
      have lB : B.length = g.Prio.length := by rw [← hB, wonL_len]
      obtain ⟨s, t, k1, k2, k3, k4⟩ := cnt_sim (f := s_TurnedBy_b0 A B) (g := i_TurnedBy_b0 A B) (fun j (s t : List Int) => s = t ∧ s.length ≤ j) A.length (s := []) (t := []) ⟨rfl, by simp⟩ (fun j s t hj ⟨e1, e2⟩ => by
        subst e1
        have x1 : A[j]? = some A[j] := List.getElem?_eq_getElem hj
        have x2 : B[j]? = some (B[j]'(by omega)) := List.getElem?_eq_getElem (by omega)
        unfold s_TurnedBy_b0 i_TurnedBy_b0
        rw [idx_nat, idx_nat, x1, x2, Option.bind_some, Option.bind_some, app1 (by omega) rfl]
        cases (A[j] != B[j]'(by omega)) with
        | true => exact ⟨_, _, rfl, rfl, rfl, by rw [List.length_append]; simp; omega⟩
        | false => exact ⟨_, _, rfl, rfl, rfl, by omega⟩)
      subst k3
      rw [k1, k2]
      exact ⟨s, rfl, rfl, by omega⟩
theorem FnExactTurnedBy_law {p0 : Parity} (ok0 : Parity.ok p0) {p1 : Edit} (ok1 : Edit.ok p1) : l_FnExactTurnedBy p0 p1 = some true :=
  FnExactTurnedBy_of ok0 ok1 fun _ => by
    obtain ⟨r, h1, h2, h3⟩ := TurnedBy_same p0 p1
    exact ⟨r, h1, h2, by rw [ctL_one]; omega⟩
end Go.Proofs.Ytndiklipffipcaa
