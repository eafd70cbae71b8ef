/- Marks, and the least marks that are closed: plain laws. -/
import Derived.Test.YthjkonkcdfdfaaaSigU
set_option linter.unusedVariables false
set_option linter.unusedSimpArgs false
namespace Go.Proofs.Ythjkonkcdfdfaaa
open Go Go.Wk Go.Proofs

def bAt (B : List Bool) (v : Int) : Bool := B.getD v.toNat false
theorem bAt_get {B : List Bool} {v : Int} (v0 : 0 ≤ v) (v1 : v < B.length) : idx B v = some (bAt B v) := by
  obtain ⟨x, h, _⟩ := get_el (xs := B) v0 v1
  unfold bAt
  rw [h]
  rw [idx_int v0] at h
  rw [List.getD_eq_getElem?_getD, h, Option.getD_some]
theorem bAt_set {B : List Bool} {i : Nat} (hi : i < B.length) (v : Int) (v0 : 0 ≤ v) : bAt (B.set i true) v = (bAt B v || decide (v = (i : Int))) := by
  unfold bAt
  rw [List.getD_eq_getElem?_getD, List.getD_eq_getElem?_getD, List.getElem?_set]
  by_cases h : i = v.toNat
  · have : v = (i : Int) := by omega
    simp [this, hi]
  · have : ¬ v = (i : Int) := by omega
    simp [this, h]
/-- how many are not marked -/
def falses : List Bool → Nat
  | [] => 0
  | b :: r => (if b then 0 else 1) + falses r
theorem falses_le : ∀ B : List Bool, falses B ≤ B.length
  | [] => Nat.le_refl _
  | b :: r => by have := falses_le r; simp only [falses, List.length_cons]; split <;> omega
theorem falses_set : ∀ {B : List Bool} {i : Nat}, B[i]? = some false → falses (B.set i true) + 1 = falses B
  | [], _, h => by simp at h
  | b :: r, 0, h => by
    simp only [List.getElem?_cons_zero, Option.some.injEq] at h
    subst h
    simp [falses]; omega
  | b :: r, i + 1, h => by
    simp only [List.getElem?_cons_succ] at h
    have := falses_set h
    simp only [List.set_cons_succ, falses]
    omega
/-- closed against the rows: whoever comes to a marked one is marked -/
def Closed (N : List (List Int)) (B : List Bool) : Prop := ∀ (v : Nat) row u, N[v]? = some row → u ∈ row → bAt B u = true → bAt B v = true
def Sub (A B : List Bool) : Prop := ∀ v : Nat, bAt A v = true → bAt B v = true
structure LeastB (N : List (List Int)) (goal B : List Bool) : Prop where
  len : B.length = goal.length
  sub : Sub goal B
  closed : Closed N B
  least : ∀ C, C.length = goal.length → Sub goal C → Closed N C → Sub B C
theorem LeastB.uniq {N : List (List Int)} {goal A B : List Bool} (hA : LeastB N goal A) (hB : LeastB N goal B) : A = B := by
  have h1 := hA.least B hB.len hB.sub hB.closed
  have h2 := hB.least A hA.len hA.sub hA.closed
  apply List.ext_getElem?
  intro i
  by_cases hi : i < goal.length
  · have ha : A[i]? = some (bAt A i) := by
      have := bAt_get (B := A) (v := i) (by omega) (by rw [hA.len]; omega)
      rwa [idx_nat] at this
    have hb : B[i]? = some (bAt B i) := by
      have := bAt_get (B := B) (v := i) (by omega) (by rw [hB.len]; omega)
      rwa [idx_nat] at this
    rw [ha, hb]
    have h3 := h1 i
    have h4 := h2 i
    cases ea : bAt A i with
    | true => rw [h3 ea]
    | false =>
      cases eb : bAt B i with
      | true => rw [h4 eb] at ea; cases ea
      | false => rfl
  · rw [List.getElem?_eq_none (by rw [hA.len]; omega), List.getElem?_eq_none (by rw [hB.len]; omega)]
end Go.Proofs.Ythjkonkcdfdfaaa
