/- InputsFor: both sides compute the same. -/
import Derived.Test.YtgniipbjjkodaaaRivalC4
set_option linter.unusedVariables false
set_option linter.unusedSimpArgs false
namespace Go.Proofs.Ytgniipbjjkodaaa
open Go Go.Wk Go.Proofs

theorem InputsFor_same (p : Sig) (r : Rival) (outs : List Int) (hr : r.In.length ≤ 1048576) : ∃ z, s_InputsFor p r outs = some z ∧ i_InputsFor p r outs = some z ∧ z.length ≤ 1000 := by
  unfold s_InputsFor i_InputsFor
  rw [s_RivalOk_eq p r hr, Option.bind_some, i_isSig_eq, Option.bind_some]
  cases hs : sigOk p with
  | false => exact ⟨[], by simp, by simp, by simp⟩
  | true =>
    obtain ⟨h1, h2⟩ := sigOk_in hs
    have hp := pw_le p.Out
    simp only [i_isRival_eq p r hs, s_l33Outputs, s_l23Power_eq h2, (i_shift h2).1, (i_shift h2).2, i_areLetters_eq, s_l23Below_eq outs (n := pw p.Out) (by omega) (by omega), Option.bind_some, Bool.true_and]
    cases hr1 : rivalOk p r with
    | false => exact ⟨[], by simp, by simp, by simp⟩
    | true =>
      obtain ⟨i1, i2, i3, i4, i5⟩ := rivalOk_spec hr1
      by_cases hl : 600 < (outs.length : Int)
      · exact ⟨[], by simp [hl], by simp [hl], by simp⟩
      · cases ho : outs.all (inR (pw p.Out)) with
        | false => exact ⟨[], by simp [hl], by simp [hl], by simp⟩
        | true =>
          simp only [List.all_eq_true, inR_iff] at ho
          simp only [hl, Bool.not_true, Bool.not_false, decide_false, cond_false, cond_true, Option.bind_some]
          obtain ⟨x0, hx0, _⟩ := get_in (xs := r.In) (z := 0) (by omega) (by omega)
          rw [hx0, Option.bind_some, Option.bind_some]
          have hb : i_InputsFor_b0 = s_InputsFor_b0 := rfl
          rw [hb]
          obtain ⟨st, h3, h4⟩ := cnt_inv (f := s_InputsFor_b0 r outs) (fun j (t : Int × List Int) => 0 ≤ t.1 ∧ t.1 < r.In.length ∧ t.2.length = j + 1) outs.length (s := (0, [x0])) ⟨by omega, by simp; omega, by simp⟩ (fun j t hj ⟨j1, j2, j3⟩ => by
            have hy : outs[j]? = some outs[j] := by simp [hj]
            have ho' := ho _ (List.mem_of_getElem? hy)
            obtain ⟨row, k1, k2⟩ := get_in (xs := r.Next) (z := t.1) j1 (by omega)
            obtain ⟨l1, l2⟩ := i5 row k2
            obtain ⟨q, k3, k4⟩ := get_in (xs := row) (z := outs[j]) ho'.1 (by omega)
            obtain ⟨l3, l4⟩ := l2 q k4
            obtain ⟨y, k5, k6⟩ := get_in (xs := r.In) (z := q) l3 l4
            have happ : appS 8 t.2 [y] = some (t.2 ++ [y]) := by
              unfold appS; rw [if_pos]; simp; omega
            refine ⟨(q, t.2 ++ [y]), ?_, l3, l4, by simp; omega⟩
            unfold s_InputsFor_b0
            rw [idx_nat, hy, Option.bind_some, k1, Option.bind_some, k3, Option.bind_some, k5, Option.bind_some, happ, Option.bind_some])
          rw [h3]
          exact ⟨st.2, rfl, rfl, by omega⟩
theorem FnExactInputsFor_law {p0 : Sig} {p1 : Rival} {p2 : List Int} (ok0 : Sig.ok p0) (ok1 : Rival.ok p1) (ok2 : okS I64 p2) : l_FnExactInputsFor p0 p1 p2 = some true :=
  FnExactInputsFor_of ok0 ok1 ok2 fun b1 b2 => by
    obtain ⟨z, h1, h2, h3⟩ := InputsFor_same p0 p1 p2 b1.1.1
    exact ⟨z, h1, h2, by rw [ctL_one]; omega⟩
end Go.Proofs.Ytgniipbjjkodaaa
