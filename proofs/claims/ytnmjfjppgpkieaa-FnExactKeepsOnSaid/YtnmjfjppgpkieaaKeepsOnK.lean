/- KeepsOn: the law. -/
import Derived.Test.YtnmjfjppgpkieaaClauseK
import Derived.Test.YtnmjfjppgpkieaaRunWordSK
set_option linter.unusedVariables false
set_option linter.unusedSimpArgs false
namespace Go.Proofs.Ytnmjfjppgpkieaa
open Go Go.Wk Go.Proofs

theorem FnExactKeepsOn_law {p0 : Sig} (ok0 : Sig.ok p0) {p1 : Machine} (ok1 : Machine.ok p1) {p2 : List Clause} (ok2 : okS Clause.ok p2) {p3 : Word} (ok3 : Word.ok p3) : l_FnExactKeepsOn p0 p1 p2 p3 = some true :=
  FnExactKeepsOn_of ok0 ok1 ok2 ok3 fun _ hb _ => by
    obtain ⟨r, h1, h2, _⟩ := RunWord_same p0 p1 p3
    obtain ⟨v, k1, k2, k3⟩ := FirstBroken_same p0 hb.2 r
    unfold s_KeepsOn i_KeepsOn s_AllHold i_AllHold
    rw [h1, h2, Option.bind_some, Option.bind_some, k1, k2]
    simp only [Option.bind_some]
    by_cases h : 0 < (r.Loop.length : Int)
    · simp only [h, decide_true, cond_true, Option.bind_some]
      exact ⟨_, rfl, rfl⟩
    · simp only [h, decide_false, cond_false, Option.bind_some]
      rw [k3 (by omega)]
      exact ⟨false, rfl, rfl⟩
end Go.Proofs.Ytnmjfjppgpkieaa
