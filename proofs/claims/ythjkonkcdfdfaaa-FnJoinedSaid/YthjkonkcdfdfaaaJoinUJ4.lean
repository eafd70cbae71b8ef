/- Joins: literals, copies. -/
import Derived.Test.YthjkonkcdfdfaaaJoinJ4
set_option linter.unusedVariables false
set_option linter.unusedSimpArgs false
namespace Go.Proofs.Ythjkonkcdfdfaaa
open Go Go.Wk Go.Proofs

theorem i_isLiteral_eq {c : Circuit} (hh : circHead c = true) (x : Int) : i_isLiteral c x = some (inR (2 * sigs c) x) := by
  have hs := sigs_in hh
  unfold i_isLiteral inR
  rw [i_signalsOf_eq hh, Option.bind_some, wr' (by omega) (by omega), andE, Option.bind_some]
theorem s_l31Copy_eq {c : Circuit} (hh : circHead c = true) : s_l31Copy c = some c := by
  have hb := circHead_in hh
  unfold s_l31Copy
  rw [appL (by rw [List.length_nil]; omega) rfl, appL (by rw [List.length_nil]; omega) rfl, appL (by rw [List.length_nil]; omega) rfl]
  rfl
end Go.Proofs.Ythjkonkcdfdfaaa
