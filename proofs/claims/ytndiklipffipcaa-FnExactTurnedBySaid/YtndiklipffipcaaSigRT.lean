/- Ranges. -/
import Derived.Test.YtndiklipffipcaaSimT
set_option linter.unusedVariables false
set_option linter.unusedSimpArgs false
namespace Go.Proofs.Ytndiklipffipcaa
open Go Go.Wk Go.Proofs

def inR (n x : Int) : Bool := decide (0 ≤ x) && decide (x < n)
theorem inR_iff {n x : Int} : inR n x = true ↔ 0 ≤ x ∧ x < n := by unfold inR; simp

theorem inR_one (n x : Int) : (decide (0 ≤ x) && decide (x ≤ n - 1)) = inR n x := by
  unfold inR
  congr 1
  exact decide_eq_decide.2 (by omega)
theorem not_inR (n x : Int) : (decide (x < 0) || decide (n ≤ x)) = !(inR n x) := by
  unfold inR
  by_cases h1 : x < 0 <;> by_cases h2 : n ≤ x <;> simp [h1, h2] <;> omega
theorem in2 (o : Int) : (decide (0 ≤ o) && decide (o ≤ 1)) = inR 2 o := by
  unfold inR; congr 1; exact decide_eq_decide.2 (by omega)
theorem in41 (o : Int) : (decide (0 ≤ o) && decide (o ≤ 40)) = inR 41 o := by
  unfold inR; congr 1; exact decide_eq_decide.2 (by omega)
theorem gt_not (a b : Int) : decide (a < b) = !decide (b ≤ a) := by rw [← decide_not]; exact decide_eq_decide.2 (by omega)
theorem s_l1In_eq (a b c : Int) : s_l1In a b c = some (decide (b ≤ a) && decide (a ≤ c)) := by
  unfold s_l1In
  by_cases h : b ≤ a <;> simp [h]
theorem nodup_lenN : ∀ (n : Nat) (xs : List Int), xs.Nodup → (∀ x ∈ xs, 0 ≤ x ∧ x < n) → xs.length ≤ n
  | 0, [], _, _ => by simp
  | 0, x :: xs, _, h => by have := h x (List.mem_cons_self ..); omega
  | n + 1, xs, hn, h => by
    by_cases hm : (n : Int) ∈ xs
    · have h1 := List.length_erase_of_mem hm
      have h2 := nodup_lenN n (xs.erase (n : Int)) (hn.erase _) (fun x hx => by
        rw [hn.mem_erase_iff] at hx
        have := h x hx.2
        have := hx.1
        omega)
      omega
    · have := nodup_lenN n xs hn (fun x hx => by
        have h3 := h x hx
        have : x ≠ n := fun e => hm (e ▸ hx)
        omega)
      omega
end Go.Proofs.Ytndiklipffipcaa
