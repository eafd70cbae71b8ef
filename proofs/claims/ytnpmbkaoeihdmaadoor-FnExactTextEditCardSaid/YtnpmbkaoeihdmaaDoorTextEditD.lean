/- TextEdit: the law. -/
import Derived.Test.YtnpmbkaoeihdmaaDoorTEditD
set_option linter.unusedVariables false
set_option linter.unusedSimpArgs false
namespace Go.Proofs.YtnpmbkaoeihdmaaDoor
open Go Go.Wk Go.Proofs

theorem FnExactTextEdit_law {p0 : ByteArray} (ok0 : okStr p0) : l_FnExactTextEdit p0 = some true :=
  FnExactTextEdit_of ok0 fun hb => by
    have hl : p0.data.toList.length ≤ 100000000 := by rw [← size_len]; omega
    have h1 := s_TextEdit_eq hl
    have h2 := i_TextEdit_eq hl
    rw [ofL_self] at h1 h2
    exact ⟨(resE (sp 32 p0.data.toList)).1, (resE (sp 32 p0.data.toList)).2, h1, h2⟩
end Go.Proofs.YtnpmbkaoeihdmaaDoor
