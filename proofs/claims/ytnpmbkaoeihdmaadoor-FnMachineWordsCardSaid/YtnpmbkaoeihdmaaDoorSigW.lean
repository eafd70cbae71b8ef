/- Signatures, letters, powers: what both sides compute. -/
import Derived.Test.YtnpmbkaoeihdmaaDoorSimW
set_option linter.unusedVariables false
set_option linter.unusedSimpArgs false
namespace Go.Proofs.YtnpmbkaoeihdmaaDoor
open Go Go.Wk Go.Proofs

def inR (n x : Int) : Bool := decide (0 ≤ x) && decide (x < n)
theorem inR_iff {n x : Int} : inR n x = true ↔ 0 ≤ x ∧ x < n := by unfold inR; simp

theorem inR_one (n x : Int) : (decide (0 ≤ x) && decide (x ≤ n - 1)) = inR n x := by
  unfold inR
  congr 1
  exact decide_eq_decide.2 (by omega)
theorem not_inR (n x : Int) : (decide (x < 0) || decide (n ≤ x)) = !(inR n x) := by
  unfold inR
  by_cases h1 : x < 0 <;> by_cases h2 : n ≤ x <;> simp [h1, h2] <;> omega
theorem in2 (o : Int) : (decide (0 ≤ o) && decide (o ≤ 1)) = inR 2 o := by
  unfold inR; congr 1; exact decide_eq_decide.2 (by omega)
theorem in41 (o : Int) : (decide (0 ≤ o) && decide (o ≤ 40)) = inR 41 o := by
  unfold inR; congr 1; exact decide_eq_decide.2 (by omega)
theorem gt_not (a b : Int) : decide (a < b) = !decide (b ≤ a) := by rw [← decide_not]; exact decide_eq_decide.2 (by omega)
theorem s_l1In_eq (a b c : Int) : s_l1In a b c = some (decide (b ≤ a) && decide (a ≤ c)) := by
  unfold s_l1In
  by_cases h : b ≤ a <;> simp [h]
def sigOk (p : Sig) : Bool := (decide (1 ≤ p.In) && decide (p.In ≤ 2)) && (decide (1 ≤ p.Out) && decide (p.Out ≤ 2))
theorem s_SigOk_eq (p : Sig) : s_SigOk p = some (sigOk p) := by
  unfold s_SigOk sigOk
  simp only [s_l1In_eq, Option.bind_some]
  cases (decide (1 ≤ p.In) && decide (p.In ≤ 2)) <;> simp
theorem i_isSig_eq (p : Sig) : i_isSig p = some (sigOk p) := by
  unfold i_isSig sigOk
  by_cases h1 : 1 ≤ p.In <;> by_cases h2 : p.In ≤ 2 <;> by_cases h3 : 1 ≤ p.Out <;> by_cases h4 : p.Out ≤ 2 <;> simp [h1, h2, h3, h4]
theorem s_l23Below_eq (xs : List Int) {n : Int} (h0 : -1000000000000000000 ≤ n) (h1 : n ≤ 1000000000000000000) : s_l23Below xs n = some (xs.all (inR n)) := by
  unfold s_l23Below
  have hm := cnt_all0 (f := s_l23Below_b0 xs n) (r := false) (inR n) (xs := xs) rfl (fun i y hy => by
    unfold s_l23Below_b0
    rw [wr' (by omega) (by omega), idx_nat, hy, Option.bind_some, s_l1In_eq, Option.bind_some]
    have : (decide (0 ≤ y) && decide (y ≤ n - 1)) = inR n y := by
      unfold inR
      congr 1
      exact decide_eq_decide.2 (by omega)
    rw [this]
    cases inR n y <;> rfl)
  rw [hm, Option.bind_some]
  cases xs.all (inR n) <;> rfl
theorem i_areLetters_eq (xs : List Int) (n : Int) : i_areLetters xs n = some (xs.all (inR n)) := by
  unfold i_areLetters
  rw [slices_ContainsFunc_I_int64__i_areLetters_1_eq (fun x => decide (x < 0) || decide (n ≤ x)) (fun x _ => by
    unfold i_areLetters_1
    by_cases h : x < 0 <;> simp [h]), Option.bind_some]
  congr 1
  rw [List.all_eq_not_any_not]
  congr 2
  funext x
  unfold inR
  by_cases h : x < 0 <;> by_cases h' : n ≤ x <;> simp [h, h'] <;> omega

/-- two to the power of a number of signals -/
def pw (n : Int) : Int := if n = 1 then 2 else 4
theorem s_l23Power_eq {n : Int} (h : n = 1 ∨ n = 2) : s_l23Power n = some (pw n) := by
  unfold s_l23Power
  rcases h with rfl | rfl
  · rw [whileM_pos (by omega)]
    have : s_l23Power_b0 (1, 1) = some (.inr (.inr (0, 2))) := by decide
    rw [this, Option.bind_some, lpK_nxt, whileM_pos (by omega)]
    rfl
  · rw [whileM_pos (by omega)]
    have : s_l23Power_b0 (2, 1) = some (.inr (.inr (1, 2))) := by decide
    rw [this, Option.bind_some, lpK_nxt, whileM_pos (by omega)]
    have : s_l23Power_b0 (1, 2) = some (.inr (.inr (0, 4))) := by decide
    rw [this, Option.bind_some, lpK_nxt, whileM_pos (by omega)]
    rfl
theorem i_shift {n : Int} (h : n = 1 ∨ n = 2) : nn n = some () ∧ IntKind.i64.wrap (1 * 2 ^ (min (Int.toNat n) (IntKind.bits IntKind.i64))) = pw n := by
  rcases h with rfl | rfl <;> decide
theorem sigOk_in {p : Sig} (h : sigOk p = true) : (p.In = 1 ∨ p.In = 2) ∧ (p.Out = 1 ∨ p.Out = 2) := by
  simp only [sigOk, Bool.and_eq_true, decide_eq_true_eq] at h
  omega
theorem pw_le (n : Int) : 2 ≤ pw n ∧ pw n ≤ 4 := by unfold pw; split <;> omega
end Go.Proofs.YtnpmbkaoeihdmaaDoor
