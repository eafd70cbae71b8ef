/- Words and members. -/
import Derived.Test.YtnmjfjppgpkieaaWordOkK
import Derived.Test.YtnmjfjppgpkieaaLassoK
set_option linter.unusedVariables false
set_option linter.unusedSimpArgs false
namespace Go.Proofs.Ytnmjfjppgpkieaa
open Go Go.Wk Go.Proofs

theorem s_l23Word_eq (w : Word) {n : Int} (h0 : -1000000000000000000 ≤ n) (h1 : n ≤ 1000000000000000000) : s_l23Word w n = some (wordOk w n) := by
  unfold s_l23Word wordOk
  simp only [orE, Option.bind_some, s_l23Below_eq _ h0 h1, andE, gt_not]
  have : decide (1 ≤ (w.Loop.length : Int)) = !((w.Loop.length : Int) == 0) := by
    by_cases h : (w.Loop.length : Int) = 0
    · simp [h]
    · have h1 : 1 ≤ (w.Loop.length : Int) := by omega
      have h2 : ((w.Loop.length : Int) == 0) = false := by rw [beq_eq_false_iff_ne]; exact h
      rw [h2, decide_eq_true h1]; rfl
  rw [this]
  generalize decide ((w.Stem.length : Int) ≤ 600) = b1
  generalize w.Stem.all (inR n) = b2
  generalize decide ((w.Loop.length : Int) ≤ 600) = b3
  generalize w.Loop.all (inR n) = b4
  generalize ((w.Loop.length : Int) == 0) = b5
  cases b1 <;> cases b2 <;> cases b3 <;> cases b4 <;> cases b5 <;> rfl
theorem s_l1Has_eq (row : List Int) (v : Int) : s_l1Has row v = some (decide (v ∈ row)) := by
  unfold s_l1Has
  rw [cnt_all0 (f := s_l1Has_b0 row v) (r := true) (fun x => !(v == x)) (xs := row) rfl (fun i y hy => by
    unfold s_l1Has_b0
    rw [idx_nat, hy, Option.bind_some, show (y == v) = (v == y) from BEq.comm]
    cases v == y <;> rfl), ← any_mem, List.any_eq_not_all_not]
  cases row.all (fun x => !(v == x)) <;> rfl
end Go.Proofs.Ytnmjfjppgpkieaa
