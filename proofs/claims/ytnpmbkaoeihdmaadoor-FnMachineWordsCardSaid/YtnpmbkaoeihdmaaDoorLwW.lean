/- The structs opened; the sizes, the copies, the comparisons: plain laws. By program. -/
import Derived.Test.YtnpmbkaoeihdmaaDoorFnsWM
import Derived.Test.YtnpmbkaoeihdmaaDoorLaw
set_option linter.unusedVariables false
set_option linter.unusedSimpArgs false
namespace Go.Proofs.YtnpmbkaoeihdmaaDoor
open Go Go.Wk Go.Proofs
set_option maxRecDepth 100000

def Sig.ok (x : Sig) : Prop := I64 x.In ∧ I64 x.Out
def Sig.bd (x : Sig) : Prop := True ∧ True
theorem Sig.bdt (x : Sig) : Sig.bd x := by unfold Sig.bd; simp
theorem Sig.opn40 : Opn Tryd.prog 40 Sig.rp Sig.ok :=
  opn_iso (ok := fun (p : Int × Int) => I64 p.1 ∧ I64 p.2) _ (fun p => ⟨p.1, p.2⟩) (fun _ => rfl) (opn_struct Tryd.underlying40 rfl (by kernel_rfl) (opnF_cons rfl (by kernel_rfl) (opn_i64 Tryd.underlying2) (opnF_one rfl (by kernel_rfl) (opn_i64 Tryd.underlying2))))

theorem slices_IndexFunc_I_int64__i_areLetters_1_eq {p0 : (List Int)} {c1_0 : Int} (g : Int → Bool) (hp : ∀ x ∈ p0, i_areLetters_1 x c1_0 = some (g x)) : slices_IndexFunc_I_int64__i_areLetters_1 p0 c1_0 = some (match p0.findIdx? g with | some i => (i : Int) | none => -1) := by
  unfold slices_IndexFunc_I_int64__i_areLetters_1
  rw [cnt_find0 (f := slices_IndexFunc_I_int64__i_areLetters_1_b0 p0 c1_0) g (fun i => (i : Int)) (xs := p0) (fun i x hx => by
    unfold slices_IndexFunc_I_int64__i_areLetters_1_b0
    rw [idx_nat, hx, Option.bind_some, hp x (List.mem_of_getElem? hx), Option.bind_some]
    cases g x <;> rfl), Option.bind_some]
  cases p0.findIdx? g <;> rfl

theorem slices_ContainsFunc_I_int64__i_areLetters_1_eq {p0 : (List Int)} {c1_0 : Int} (g : Int → Bool) (hp : ∀ x ∈ p0, i_areLetters_1 x c1_0 = some (g x)) : slices_ContainsFunc_I_int64__i_areLetters_1 p0 c1_0 = some (p0.any g) := by
  unfold slices_ContainsFunc_I_int64__i_areLetters_1
  rw [slices_IndexFunc_I_int64__i_areLetters_1_eq g hp, Option.bind_some]
  exact congrArg some (findIdx_any g p0)


end Go.Proofs.YtnpmbkaoeihdmaaDoor
