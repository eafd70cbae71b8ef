/- Rows of marks that are made by a loop. Plain law. -/
import Derived.Test.YtndiklipffipcaaPrvT
set_option linter.unusedVariables false
set_option linter.unusedSimpArgs false
namespace Go.Proofs.Ytndiklipffipcaa
open Go Go.Wk Go.Proofs

theorem fill {ρ α : Type} {f : Int → List α → Option (ρ ⊕ (List α ⊕ List α))} (val : Nat → α) (n : Nat) {s0 : List α} (h0 : s0.length = n)
    (step : ∀ (j : Nat) s, j < n → s.length = n → f (j : Int) s = Option.bind (idx s (j : Int)) fun _ => Option.bind (setI s (j : Int) (val j)) fun y => some (.inr (.inr y))) :
    ∃ s, cntM f n 0 s0 = some (.inr s) ∧ s.length = n ∧ ∀ j : Nat, j < n → idx s (j : Int) = some (val j) := by
  obtain ⟨s, h1, h2, h3⟩ := cnt_inv (f := f) (fun j (s : List α) => s.length = n ∧ ∀ i : Nat, i < j → idx s (i : Int) = some (val i)) n (s := s0) ⟨h0, fun i hi => absurd hi (Nat.not_lt_zero i)⟩ (fun j s hj ⟨q1, q2⟩ => by
    obtain ⟨old, ho⟩ := idx_some (xs := s) (i := (j : Int)) (by omega) (by omega)
    obtain ⟨s', hs, hl⟩ := setI_some (xs := s) (i := (j : Int)) (val j) (by omega) (by omega)
    rw [step j s hj q1, ho, Option.bind_some, hs, Option.bind_some]
    refine ⟨_, rfl, by omega, fun i hi => ?_⟩
    rw [idx_setI hs]
    by_cases e : (i : Int) = (j : Int)
    · have : i = j := by omega
      subst this
      rw [if_pos rfl]
    · rw [if_neg e]; exact q2 i (by omega))
  exact ⟨s, h1, h2, h3⟩
/-- marks by a loop -/
theorem fillB {ρ : Type} {f : Int → List Bool → Option (ρ ⊕ (List Bool ⊕ List Bool))} (P : Int → Prop) [∀ v, Decidable (P v)] (n : Nat) {s0 : List Bool} (h0 : s0.length = n)
    (step : ∀ (j : Nat) s, j < n → s.length = n → f (j : Int) s = Option.bind (idx s (j : Int)) fun _ => Option.bind (setI s (j : Int) (decide (P (j : Int)))) fun y => some (.inr (.inr y))) (hP : ∀ v, P v → 0 ≤ v ∧ v < n) :
    ∃ s, cntM f n 0 s0 = some (.inr s) ∧ s.length = n ∧ ∀ v, In s v ↔ P v := by
  obtain ⟨s, h1, h2, h3⟩ := fill (f := f) (fun j => decide (P (j : Int))) n h0 step
  refine ⟨s, h1, h2, fun v => ?_⟩
  constructor
  · intro h
    obtain ⟨v0, v1⟩ := idx_rng h
    obtain ⟨j, hj⟩ := ex_nat v0
    subst hj
    have := h3 j (by omega)
    unfold In at h
    rw [h] at this
    exact of_decide_eq_true (Option.some.inj this).symm
  · intro h
    obtain ⟨v0, v1⟩ := hP v h
    obtain ⟨j, hj⟩ := ex_nat v0
    subst hj
    unfold In
    rw [h3 j (by omega), decide_eq_true h]
instance (B : List Bool) (v : Int) : Decidable (In B v) := by unfold In; exact inferInstance
theorem In_dec {B : List Bool} {v : Int} {b : Bool} (h : idx B v = some b) : b = decide (In B v) := by
  have : In B v ↔ b = true := by unfold In; rw [h]; simp
  rw [Bool.eq_iff_iff]; simp [this]
theorem In_get {B : List Bool} {v : Int} (h0 : 0 ≤ v) (h1 : v < B.length) : idx B v = some (decide (In B v)) := by
  obtain ⟨b, hb⟩ := idx_some (xs := B) h0 h1
  rw [← In_dec hb]; exact hb
theorem In_of {B : List Bool} {n : Nat} (hB : B.length = n) {v : Int} (h : In B v) : 0 ≤ v ∧ v < n := by
  have := idx_rng h
  rw [hB] at this
  exact this
/-- the marked ones in a row -/
theorem listI_eq {B : List Bool} (hl : B.length ≤ 1000000) : i_listOf B = some (marksL B B.length) := by
  obtain ⟨s, h1, h2⟩ := cnt_inv (f := i_listOf_b0 B) (fun j (s : List Int) => s = marksL B j) B.length (s := []) rfl (fun j s hj hs => by
    subst hs
    have hb : B[j]? = some B[j] := List.getElem?_eq_getElem hj
    generalize B[j] = b at hb
    have hlen := marksL_len B j
    unfold i_listOf_b0
    rw [idx_nat, hb, Option.bind_some, marksL_succ hb]
    cases b with
    | true =>
      simp only [cond_true]
      rw [app1 (by omega) rfl, Option.bind_some, Option.bind_some]
      exact ⟨_, rfl, rfl⟩
    | false =>
      simp only [cond_false, Option.bind_some]
      exact ⟨_, rfl, by simp⟩)
  unfold i_listOf
  rw [h1, Option.bind_some, aft_inr, h2]
/-- marks without marks -/
theorem without_eq {A B : List Bool} {n : Nat} (hA : A.length = n) (hB : B.length = n) (hn : n ≤ 256) : ∃ R, i_without A B = some R ∧ R.length = n ∧ ∀ v, In R v ↔ In A v ∧ ¬ In B v := by
  unfold i_without
  rw [hA, mkS_nat (by omega) rfl, Option.bind_some]
  obtain ⟨R, h1, h2, h3⟩ := fillB (f := i_without_b0 A B) (fun v => In A v ∧ ¬ In B v) n (s0 := List.replicate n false) (by simp) (fun j s hj hs => by
    unfold i_without_b0
    rw [In_get (B := A) (by omega) (by omega), Option.bind_some, In_get (B := B) (by omega) (by omega), Option.bind_some, andE, Option.bind_some]
    congr 1
    funext _
    congr 2
    rw [Bool.eq_iff_iff]; simp) (fun v hv => In_of hA hv.1)
  rw [h1, Option.bind_some, aft_inr]
  exact ⟨R, rfl, h2, h3⟩
end Go.Proofs.Ytndiklipffipcaa
