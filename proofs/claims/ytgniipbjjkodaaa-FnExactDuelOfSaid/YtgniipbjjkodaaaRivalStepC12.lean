/- Rivals: their steps. -/
import Derived.Test.YtgniipbjjkodaaaRivalC12
set_option linter.unusedVariables false
set_option linter.unusedSimpArgs false
namespace Go.Proofs.Ytgniipbjjkodaaa
open Go Go.Wk Go.Proofs
theorem s_LetterOf_eq {p : Sig} (hs : sigOk p = true) {x o : Int} (x0 : 0 ≤ x) (x1 : x < pw p.In) (o0 : 0 ≤ o) (o1 : o < pw p.Out) : s_LetterOf p x o = some (o * pw p.In + x) := by
  have pI := pw_le p.In
  have pO := pw_le p.Out
  obtain ⟨hi, ho⟩ := sigOk_in hs
  have hmul : 0 ≤ o * pw p.In := Int.mul_nonneg o0 (by omega)
  have hmul2 : o * pw p.In ≤ 4 * 4 := Int.mul_le_mul (by omega) (by omega) (by omega) (by omega)
  unfold s_LetterOf
  simp only [s_SigOk_eq, hs, Option.bind_some, Bool.not_true, cond_false, s_l23Power_eq hi, s_l23Power_eq ho]
  rw [wr' (z := pw p.In - 1) (by omega) (by omega), wr' (z := pw p.Out - 1) (by omega) (by omega), wr' (z := o * pw p.In) (by omega) (by omega), wr' (by omega) (by omega)]
  simp only [s_l1In_eq, inR_one, Option.bind_some, inR_iff.2 ⟨x0, x1⟩, inR_iff.2 ⟨o0, o1⟩, Bool.not_true, cond_false]
/-- the input at a state -/
def inAt (r : Rival) (q : Int) : Int := r.In.getD q.toNat 0
section
variable {p : Sig} {r : Rival} (hr : rivalOk p r = true)
include hr
theorem inAt_in {q : Int} (q0 : 0 ≤ q) (q1 : q < r.In.length) : idx r.In q = some (inAt r q) ∧ 0 ≤ inAt r q ∧ inAt r q < pw p.In := by
  obtain ⟨_, _, _, h4, _⟩ := rivalOk_spec hr
  obtain ⟨x, h5, h6⟩ := get_el (xs := r.In) q0 q1
  have e : inAt r q = x := by
    unfold inAt
    rw [idx_int q0] at h5
    rw [List.getD_eq_getElem?_getD, h5, Option.getD_some]
  rw [e]
  exact ⟨h5, h4 x h6⟩
theorem next_in {q o : Int} (q0 : 0 ≤ q) (q1 : q < r.In.length) (o0 : 0 ≤ o) (o1 : o < pw p.Out) : ∃ row, idx r.Next q = some row ∧ idx row o = some (tab r.Next q o) ∧ 0 ≤ tab r.Next q o ∧ tab r.Next q o < r.In.length := by
  obtain ⟨_, _, h3, _, h5⟩ := rivalOk_spec hr
  exact tab_in (t := r.Next) (n := r.In.length) (l := pw p.Out) h5 q0 (by omega) o0 o1
end
end Go.Proofs.Ytgniipbjjkodaaa
