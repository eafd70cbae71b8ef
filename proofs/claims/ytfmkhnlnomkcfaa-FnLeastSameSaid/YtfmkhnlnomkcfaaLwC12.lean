/- The structs opened; the sizes, the copies, the comparisons: plain laws. By program. -/
import Derived.Test.YtfmkhnlnomkcfaaFnsC12M
import Derived.Test.YtfmkhnlnomkcfaaLaw
set_option linter.unusedVariables false
set_option linter.unusedSimpArgs false
namespace Go.Proofs.Ytfmkhnlnomkcfaa
open Go Go.Wk Go.Proofs
set_option maxRecDepth 100000

def Sig.ok (x : Sig) : Prop := I64 x.In ∧ I64 x.Out
def Sig.bd (x : Sig) : Prop := True ∧ True
theorem Sig.bdt (x : Sig) : Sig.bd x := by unfold Sig.bd; simp
theorem Sig.opn53 : Opn Try.prog 53 Sig.rp Sig.ok :=
  opn_iso (ok := fun (p : Int × Int) => I64 p.1 ∧ I64 p.2) _ (fun p => ⟨p.1, p.2⟩) (fun _ => rfl) (opn_struct Try.underlying53 rfl (by kernel_rfl) (opnF_cons rfl (by kernel_rfl) (opn_i64 Try.underlying2) (opnF_one rfl (by kernel_rfl) (opn_i64 Try.underlying2))))

theorem slices_IndexFunc_I_int64__i_areLetters_1_eq {p0 : (List Int)} {c1_0 : Int} (g : Int → Bool) (hp : ∀ x ∈ p0, i_areLetters_1 x c1_0 = some (g x)) : slices_IndexFunc_I_int64__i_areLetters_1 p0 c1_0 = some (match p0.findIdx? g with | some i => (i : Int) | none => -1) := by
  unfold slices_IndexFunc_I_int64__i_areLetters_1
  rw [cnt_find0 (f := slices_IndexFunc_I_int64__i_areLetters_1_b0 p0 c1_0) g (fun i => (i : Int)) (xs := p0) (fun i x hx => by
    unfold slices_IndexFunc_I_int64__i_areLetters_1_b0
    rw [idx_nat, hx, Option.bind_some, hp x (List.mem_of_getElem? hx), Option.bind_some]
    cases g x <;> rfl), Option.bind_some]
  cases p0.findIdx? g <;> rfl

theorem slices_ContainsFunc_I_int64__i_areLetters_1_eq {p0 : (List Int)} {c1_0 : Int} (g : Int → Bool) (hp : ∀ x ∈ p0, i_areLetters_1 x c1_0 = some (g x)) : slices_ContainsFunc_I_int64__i_areLetters_1 p0 c1_0 = some (p0.any g) := by
  unfold slices_ContainsFunc_I_int64__i_areLetters_1
  rw [slices_IndexFunc_I_int64__i_areLetters_1_eq g hp, Option.bind_some]
  exact congrArg some (findIdx_any g p0)

theorem slices_Equal_I_int64_eq (p0 p1 : List Int) : slices_Equal_I_int64 p0 p1 = some (decide (p0 = p1)) := by
  unfold slices_Equal_I_int64
  rw [len_ne]
  by_cases h : p0.length = p1.length
  · simp only [h, decide_true, Bool.not_true, cond_false]
    rw [show p1.length = p0.length from h.symm, cnt_two (f := slices_Equal_I_int64_b0 p0 p1) (r := false) (fun x y => decide (x = y)) h (fun i x y hx hy => by
      unfold slices_Equal_I_int64_b0
      rw [idx_nat, hx, Option.bind_some, idx_nat, hy, Option.bind_some]
      by_cases e : x = y
      · subst e; simp
      · have e' : (x == y) = false := by simp [e]
        simp [bne, e', e]), zip_all_eq h]
    by_cases e : p0 = p1
    · simp [e, aft]
    · simp [e, aft]
  · have : ¬ (p0 = p1) := fun e => h (by rw [e])
    simp [h, this]

theorem slices_Index_I_int64_eq (p0 : List Int) (p1 : Int) : slices_Index_I_int64 p0 p1 = some (match p0.findIdx? (fun x => p1 == x) with | some i => (i : Int) | none => -1) := by
  unfold slices_Index_I_int64
  rw [cnt_find0 (f := slices_Index_I_int64_b0 p0 p1) (fun x => p1 == x) (fun i => (i : Int)) (xs := p0) (fun i x hx => by
    unfold slices_Index_I_int64_b0
    simp only [idx_nat, hx, Option.bind_some]
    cases p1 == x <;> rfl), Option.bind_some]
  cases p0.findIdx? (fun x => p1 == x) <;> rfl


end Go.Proofs.Ytfmkhnlnomkcfaa
