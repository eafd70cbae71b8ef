/- Infinite words. -/
import Derived.Test.YtnmjfjppgpkieaaSigK
set_option linter.unusedVariables false
set_option linter.unusedSimpArgs false
namespace Go.Proofs.Ytnmjfjppgpkieaa
open Go Go.Wk Go.Proofs
/-- an infinite word over n letters -/
def wordOk (w : Word) (n : Int) : Bool := decide ((w.Stem.length : Int) ≤ 600) && decide (1 ≤ (w.Loop.length : Int)) && decide ((w.Loop.length : Int) ≤ 600) && w.Stem.all (inR n) && w.Loop.all (inR n)
theorem wordOk_spec {w : Word} {n : Int} (h : wordOk w n = true) : w.Stem.length ≤ 600 ∧ 1 ≤ w.Loop.length ∧ w.Loop.length ≤ 600 ∧ w.Stem.all (inR n) = true ∧ w.Loop.all (inR n) = true := by
  simp only [wordOk, Bool.and_eq_true, decide_eq_true_eq] at h
  obtain ⟨⟨⟨⟨h1, h2⟩, h3⟩, h4⟩, h5⟩ := h
  exact ⟨by omega, by omega, by omega, h4, h5⟩
theorem i_isWord_eq (w : Word) (n : Int) : i_isWord w n = some (wordOk w n) := by
  unfold i_isWord wordOk
  simp only [i_areLetters_eq, Option.bind_some, andE]
end Go.Proofs.Ytnmjfjppgpkieaa
