/- Rows of names: plain laws. -/
import Derived.Test.YthjkonkcdfdfaaaLassoU
set_option linter.unusedVariables false
set_option linter.unusedSimpArgs false
namespace Go.Proofs.Ythjkonkcdfdfaaa
open Go Go.Wk Go.Proofs

/-- a number joins a row that lacks it -/
def addN (xs : List Int) (u : Int) : List Int := if u ∈ xs then xs else xs ++ [u]
theorem place_new {xs : List Int} {u : Int} (h : u ∉ xs) : placeOf (xs ++ [u]) u = (xs.length : Nat) := by
  unfold placeOf
  have : (xs ++ [u]).findIdx? (fun x => u == x) = some xs.length := by
    rw [List.findIdx?_append]
    have h1 : xs.findIdx? (fun x => u == x) = none := by
      rw [List.findIdx?_eq_none_iff]
      intro x hx
      simp only [beq_eq_false_iff_ne]
      exact fun e => h (e ▸ hx)
    rw [h1]
    simp
  rw [this]
/-- names of states -/
def Names (n : Nat) (xs : List Int) : Prop := xs.Nodup ∧ ∀ x ∈ xs, 0 ≤ x ∧ x < n
theorem Names.len {n : Nat} {xs : List Int} (h : Names n xs) : xs.length ≤ n := nodup_lenN n xs h.1 h.2
theorem Names.add {n : Nat} {xs : List Int} (h : Names n xs) {u : Int} (u0 : 0 ≤ u) (u1 : u < n) : Names n (addN xs u) ∧ ∀ (k : Nat) v, xs[k]? = some v → (addN xs u)[k]? = some v := by
  unfold addN
  by_cases hu : u ∈ xs
  · rw [if_pos hu]; exact ⟨h, fun k v hk => hk⟩
  · rw [if_neg hu]
    refine ⟨⟨?_, fun x hx => ?_⟩, fun k v hk => ?_⟩
    · rw [List.nodup_append]
      refine ⟨h.1, by simp, fun a ha c hc e => ?_⟩
      rw [List.mem_singleton] at hc
      exact hu (by rw [← hc, ← e]; exact ha)
    · rw [List.mem_append, List.mem_singleton] at hx
      rcases hx with hx | rfl
      · exact h.2 x hx
      · exact ⟨u0, u1⟩
    · rw [List.getElem?_append_left (List.getElem?_eq_some_iff.1 hk).1]; exact hk
theorem place_first {xs : List Int} {v : Int} {j : Nat} (h : xs[j]? = some v) (hb : ∀ i, i < j → xs[i]? ≠ some v) : placeOf xs v = (j : Int) := by
  have hlt := (List.getElem?_eq_some_iff.1 h).1
  unfold placeOf
  have : xs.findIdx? (fun x => v == x) = some j := by
    rw [List.findIdx?_eq_some_iff_getElem]
    refine ⟨hlt, ?_, fun i hi => ?_⟩
    · have := (List.getElem?_eq_some_iff.1 h).2
      simp [this]
    · have h1 := hb i hi
      rw [List.getElem?_eq_getElem (by omega)] at h1
      simp only [Bool.not_eq_true, beq_eq_false_iff_ne]
      exact fun e => h1 (by rw [e])
  rw [this]
theorem addN_le (xs : List Int) (u : Int) : xs.length ≤ (addN xs u).length ∧ (addN xs u).length ≤ xs.length + 1 := by
  unfold addN
  split
  · omega
  · simp
end Go.Proofs.Ythjkonkcdfdfaaa
