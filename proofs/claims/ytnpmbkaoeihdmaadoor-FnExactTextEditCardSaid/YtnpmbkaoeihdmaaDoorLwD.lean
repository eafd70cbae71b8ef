/- The structs opened; the sizes, the copies, the comparisons: plain laws. By program. -/
import Derived.Test.YtnpmbkaoeihdmaaDoorFnsDM
import Derived.Test.YtnpmbkaoeihdmaaDoorLaw
set_option linter.unusedVariables false
set_option linter.unusedSimpArgs false
namespace Go.Proofs.YtnpmbkaoeihdmaaDoor
open Go Go.Wk Go.Proofs
set_option maxRecDepth 100000

def Edit.ok (x : Edit) : Prop := I64 x.Kind ∧ I64 x.V ∧ I64 x.N
def Edit.bd (x : Edit) : Prop := True ∧ True ∧ True
theorem Edit.bdt (x : Edit) : Edit.bd x := by unfold Edit.bd; simp
theorem Edit.opn25 : Opn Tryd.prog 25 Edit.rp Edit.ok :=
  opn_iso (ok := fun (p : Int × Int × Int) => I64 p.1 ∧ I64 p.2.1 ∧ I64 p.2.2) _ (fun p => ⟨p.1, p.2.1, p.2.2⟩) (fun _ => rfl) (opn_struct Tryd.underlying25 rfl (by kernel_rfl) (opnF_cons rfl (by kernel_rfl) (opn_i64 Tryd.underlying2) (opnF_cons rfl (by kernel_rfl) (opn_i64 Tryd.underlying2) (opnF_one rfl (by kernel_rfl) (opn_i64 Tryd.underlying2)))))


theorem l_eqEdit_refl (x : Edit) : l_eqEdit x x = some true := by
  simp [l_eqEdit]

theorem FnExactTextEdit_of {p0 : ByteArray} (ok0 : okStr p0) (hm : p0.size ≤ 1048576 → ∃ (r0 : Edit) (r1 : Bool), s_TextEdit p0 = some (r0, r1) ∧ i_TextEdit p0 = some (r0, r1)) : l_FnExactTextEdit p0 = some true := by
  unfold l_FnExactTextEdit
  by_cases g0 : 1048576 < (p0.size : Int)
  · simp only [g0, decide_true, cond_true]
  simp only [g0, decide_false, cond_false]
  have b0 : p0.size ≤ 1048576 := by omega
  obtain ⟨r0, r1, hs, hi⟩ := hm b0
  simp (disch := omega) only [l_eqEdit_refl, hs, hi, Option.bind_some, cond_true, cond_false, Bool.not_true, Bool.not_false, bne_self_eq_false, dlt]

end Go.Proofs.YtnpmbkaoeihdmaaDoor
