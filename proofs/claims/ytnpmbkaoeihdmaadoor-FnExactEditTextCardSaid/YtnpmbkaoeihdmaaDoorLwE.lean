/- The structs opened; the sizes, the copies, the comparisons: plain laws. By program. -/
import Derived.Test.YtnpmbkaoeihdmaaDoorFnsEM
import Derived.Test.YtnpmbkaoeihdmaaDoorLaw
set_option linter.unusedVariables false
set_option linter.unusedSimpArgs false
namespace Go.Proofs.YtnpmbkaoeihdmaaDoor
open Go Go.Wk Go.Proofs
set_option maxRecDepth 100000

def Edit.ok (x : Edit) : Prop := I64 x.Kind ∧ I64 x.V ∧ I64 x.N
def Edit.bd (x : Edit) : Prop := True ∧ True ∧ True
theorem Edit.bdt (x : Edit) : Edit.bd x := by unfold Edit.bd; simp
theorem Edit.opn30 : Opn Tryd.prog 30 Edit.rp Edit.ok :=
  opn_iso (ok := fun (p : Int × Int × Int) => I64 p.1 ∧ I64 p.2.1 ∧ I64 p.2.2) _ (fun p => ⟨p.1, p.2.1, p.2.2⟩) (fun _ => rfl) (opn_struct Tryd.underlying30 rfl (by kernel_rfl) (opnF_cons rfl (by kernel_rfl) (opn_i64 Tryd.underlying2) (opnF_cons rfl (by kernel_rfl) (opn_i64 Tryd.underlying2) (opnF_one rfl (by kernel_rfl) (opn_i64 Tryd.underlying2)))))


theorem l_toEdit_id {x : Edit} (h : Edit.bd x) : l_toEdit x = some x := by
  rfl

theorem FnExactEditText_of {p0 : Edit} (ok0 : Edit.ok p0) (hm : ∃ (r0 : ByteArray), s_EditText p0 = some r0 ∧ i_EditText p0 = some r0) : l_FnExactEditText p0 = some true := by
  unfold l_FnExactEditText
  obtain ⟨r0, hs, hi⟩ := hm
  simp (disch := omega) only [l_toEdit_id (Edit.bdt _), eqB_refl, hs, hi, Option.bind_some, cond_true, cond_false, Bool.not_true, Bool.not_false, bne_self_eq_false, dlt]

end Go.Proofs.YtnpmbkaoeihdmaaDoor
