/- The structs opened; the sizes, the copies, the comparisons: plain laws. By program. -/
import Derived.Test.YtcmamhmpoinmnaaFnsMMC
import Derived.Test.YtcmamhmpoinmnaaLawMC
set_option linter.unusedVariables false
set_option linter.unusedSimpArgs false
namespace Go.Proofs.Ytcmamhmpoinmnaa
open Go Go.Wk Go.Proofs
set_option maxRecDepth 100000
def Sig.ok (x : Sig) : Prop := I64 x.In ∧ I64 x.Out
def Sig.bd (x : Sig) : Prop := True ∧ True
def Clause.ok (x : Clause) : Prop := I64 x.Kind ∧ (okS I64) x.A ∧ (okS I64) x.B
def Clause.bd (x : Clause) : Prop := True ∧ (List.length x.A ≤ 1048576 ∧ ∀ y0 ∈ x.A, True) ∧ (List.length x.B ≤ 1048576 ∧ ∀ y0 ∈ x.B, True)
theorem slices_IndexFunc_I_int64__i_areLetters_1_eq {p0 : (List Int)} {c1_0 : Int} (g : Int → Bool) (hp : ∀ x ∈ p0, i_areLetters_1 x c1_0 = some (g x)) : slices_IndexFunc_I_int64__i_areLetters_1 p0 c1_0 = some (match p0.findIdx? g with | some i => (i : Int) | none => -1) := by
 unfold slices_IndexFunc_I_int64__i_areLetters_1
 rw [cnt_find0 (f := slices_IndexFunc_I_int64__i_areLetters_1_b0 p0 c1_0) g (fun i => (i : Int)) (xs := p0) (fun i x hx => by
  unfold slices_IndexFunc_I_int64__i_areLetters_1_b0
  rw [idx_nat, hx, Option.bind_some, hp x (List.mem_of_getElem? hx), Option.bind_some]
  cases g x <;> rfl), Option.bind_some]
 cases p0.findIdx? g <;> rfl
theorem slices_ContainsFunc_I_int64__i_areLetters_1_eq {p0 : (List Int)} {c1_0 : Int} (g : Int → Bool) (hp : ∀ x ∈ p0, i_areLetters_1 x c1_0 = some (g x)) : slices_ContainsFunc_I_int64__i_areLetters_1 p0 c1_0 = some (p0.any g) := by
 unfold slices_ContainsFunc_I_int64__i_areLetters_1
 rw [slices_IndexFunc_I_int64__i_areLetters_1_eq g hp, Option.bind_some]
 exact congrArg some (findIdx_any g p0)
theorem slices_IndexFunc_i_Clause_i_Clause__i_areClauses_1_eq {p0 : (List Clause)} {c1_0 : Sig} (g : Clause → Bool) (hp : ∀ x ∈ p0, i_areClauses_1 x c1_0 = some (g x)) : slices_IndexFunc_i_Clause_i_Clause__i_areClauses_1 p0 c1_0 = some (match p0.findIdx? g with | some i => (i : Int) | none => -1) := by
 unfold slices_IndexFunc_i_Clause_i_Clause__i_areClauses_1
 rw [cnt_find0 (f := slices_IndexFunc_i_Clause_i_Clause__i_areClauses_1_b0 p0 c1_0) g (fun i => (i : Int)) (xs := p0) (fun i x hx => by
  unfold slices_IndexFunc_i_Clause_i_Clause__i_areClauses_1_b0
  rw [idx_nat, hx, Option.bind_some, hp x (List.mem_of_getElem? hx), Option.bind_some]
  cases g x <;> rfl), Option.bind_some]
 cases p0.findIdx? g <;> rfl
theorem slices_ContainsFunc_i_Clause_i_Clause__i_areClauses_1_eq {p0 : (List Clause)} {c1_0 : Sig} (g : Clause → Bool) (hp : ∀ x ∈ p0, i_areClauses_1 x c1_0 = some (g x)) : slices_ContainsFunc_i_Clause_i_Clause__i_areClauses_1 p0 c1_0 = some (p0.any g) := by
 unfold slices_ContainsFunc_i_Clause_i_Clause__i_areClauses_1
 rw [slices_IndexFunc_i_Clause_i_Clause__i_areClauses_1_eq g hp, Option.bind_some]
 exact congrArg some (findIdx_any g p0)
theorem slices_Index_I_int64_eq (p0 : List Int) (p1 : Int) : slices_Index_I_int64 p0 p1 = some (match p0.findIdx? (fun x => p1 == x) with | some i => (i : Int) | none => -1) := by
 unfold slices_Index_I_int64
 rw [cnt_find0 (f := slices_Index_I_int64_b0 p0 p1) (fun x => p1 == x) (fun i => (i : Int)) (xs := p0) (fun i x hx => by
  unfold slices_Index_I_int64_b0
  simp only [idx_nat, hx, Option.bind_some]
  cases p1 == x <;> rfl), Option.bind_some]
 cases p0.findIdx? (fun x => p1 == x) <;> rfl
theorem slices_Contains_I_int64_eq (p0 : List Int) (p1 : Int) : slices_Contains_I_int64 p0 p1 = some (p0.any (fun x => p1 == x)) := by
 unfold slices_Contains_I_int64
 rw [slices_Index_I_int64_eq, Option.bind_some]
 exact congrArg some (findIdx_any _ p0)
end Go.Proofs.Ytcmamhmpoinmnaa
