/- Sets of numbers. Arenas, parity games, edits: what both sides compute. -/
import Derived.Test.YtndiklipffipcaaSigRT
set_option linter.unusedVariables false
set_option linter.unusedSimpArgs false
namespace Go.Proofs.Ytndiklipffipcaa
open Go Go.Wk Go.Proofs

/-- an ascending row of numbers under n -/
def stepUp (n : Int) (xs : List Int) (i : Nat) (x : Int) : Bool := inR n x && (!decide (0 < i) || (match xs[i - 1]? with | some y => decide (y < x) | none => false))
def setOk (n : Int) (xs : List Int) : Bool := xs.zipIdx.all (fun p => stepUp n xs p.2 p.1)
theorem setOk_spec {n : Int} {xs : List Int} (h : setOk n xs = true) : (∀ (i : Nat) x, xs[i]? = some x → 0 ≤ x ∧ x < n) ∧ ∀ (i : Nat) x y, xs[i]? = some x → xs[i + 1]? = some y → x < y := by
  unfold setOk at h
  rw [List.all_eq_true] at h
  refine ⟨fun i x hx => ?_, fun i x y hx hy => ?_⟩
  · have := h (x, i) (List.mem_zipIdx_iff_getElem?.2 hx)
    unfold stepUp at this
    rw [Bool.and_eq_true] at this
    exact inR_iff.1 this.1
  · have := h (y, i + 1) (List.mem_zipIdx_iff_getElem?.2 hy)
    unfold stepUp at this
    simp only [Nat.add_sub_cancel, hx] at this
    have h2 := ((Bool.and_eq_true _ _).mp this).2
    simp at h2
    exact h2
theorem setOk_ge {n : Int} {xs : List Int} (h : setOk n xs = true) : ∀ (i : Nat) x, xs[i]? = some x → (i : Int) ≤ x
  | 0, x, hx => by have := ((setOk_spec h).1 0 x hx).1; omega
  | i + 1, x, hx => by
    have hi : i < xs.length := by have := (List.getElem?_eq_some_iff.1 hx).1; omega
    have hy : xs[i]? = some xs[i] := by simp [hi]
    have := setOk_ge h i _ hy
    have := (setOk_spec h).2 i _ _ hy hx
    omega
theorem setOk_len {n : Int} {xs : List Int} (h : setOk n xs = true) (h0 : 0 ≤ n) : (xs.length : Int) ≤ n := by
  by_cases he : xs.length = 0
  · omega
  · have hx : xs[xs.length - 1]? = some (xs[xs.length - 1]'(by omega)) := List.getElem?_eq_getElem (by omega)
    have := setOk_ge h _ _ hx
    have := ((setOk_spec h).1 _ _ hx).2
    omega
theorem prev_get {xs : List Int} {i : Nat} (hi : i < xs.length) (h : 0 < i) : ∃ y, idx xs (IntKind.i64.wrap ((i : Int) - 1)) = some y ∧ xs[i - 1]? = some y ∨ 1000000000 ≤ i := by
  by_cases hb : 1000000000 ≤ i
  · exact ⟨0, .inr hb⟩
  · refine ⟨xs[i - 1]'(by omega), .inl ⟨?_, List.getElem?_eq_getElem (by omega)⟩⟩
    rw [wr' (by omega) (by omega), show ((i : Int) - 1) = ((i - 1 : Nat) : Int) from by omega, idx_nat]
    exact List.getElem?_eq_getElem (by omega)
theorem s_l1Rises_eq {xs : List Int} {n : Int} (h0 : 0 ≤ n) (h1 : n ≤ 1000000000) (hl : xs.length ≤ 1000000000) : s_l1Rises xs n = some (setOk n xs) := by
  unfold s_l1Rises
  rw [cnt_allP (f := s_l1Rises_b0 xs n) (r := false) (stepUp n xs) (xs := xs) rfl (fun i x hx => by
    have hi := (List.getElem?_eq_some_iff.1 hx).1
    unfold s_l1Rises_b0 stepUp
    rw [idx_nat, hx]
    simp only [Option.bind_some, wr' (z := n - 1) (by omega) (by omega), s_l1In_eq, inR_one]
    cases inR n x with
    | false => rfl
    | true =>
      by_cases hi0 : 0 < i
      · obtain ⟨y, ⟨e1, e2⟩ | e⟩ := prev_get hi hi0
        · have e3 : decide (x ≤ y) = !decide (y < x) := by rw [← decide_not]; exact decide_eq_decide.2 (by omega)
          simp only [e1, e2, show (0 : Int) < (i : Int) from by omega, hi0, decide_true, Bool.not_true, cond_false, cond_true, Option.bind_some, e3, Bool.true_and, Bool.false_or]
          cases decide (y < x) <;> rfl
        · omega
      · have : ¬ (0 : Int) < (i : Int) := by omega
        simp [hi0, this])]
  unfold setOk
  cases List.all xs.zipIdx (fun p => stepUp n xs p.2 p.1) <;> rfl
theorem s_l1Set_eq {xs : List Int} {n : Int} (h0 : 0 ≤ n) (h1 : n ≤ 1000000000) (hl : xs.length ≤ 1000000000) : s_l1Set xs n = some (setOk n xs) := by
  unfold s_l1Set
  rw [s_l1Rises_eq h0 h1 hl]
  by_cases h : (xs.length : Int) ≤ n
  · simp [h]
  · have : setOk n xs = false := by
      cases hs : setOk n xs with
      | false => rfl
      | true => exact absurd (setOk_len hs h0) h
    simp [h, this]
theorem i_isSet_eq {xs : List Int} {n : Int} (hl : xs.length ≤ 1000000000) : i_isSet xs n = some (setOk n xs) := by
  unfold i_isSet
  rw [cnt_allP (f := i_isSet_b0 xs n) (r := false) (stepUp n xs) (xs := xs) rfl (fun i x hx => by
    have hi := (List.getElem?_eq_some_iff.1 hx).1
    unfold i_isSet_b0 stepUp
    rw [idx_nat, hx]
    simp only [Option.bind_some, orE, not_inR]
    cases inR n x with
    | false => rfl
    | true =>
      by_cases hi0 : 0 < i
      · obtain ⟨y, ⟨e1, e2⟩ | e⟩ := prev_get hi hi0
        · have e3 : decide (x ≤ y) = !decide (y < x) := by rw [← decide_not]; exact decide_eq_decide.2 (by omega)
          simp only [e1, e2, show (0 : Int) < (i : Int) from by omega, hi0, decide_true, Bool.not_true, cond_false, cond_true, Option.bind_some, e3, Bool.true_and, Bool.false_or]
          cases decide (y < x) <;> rfl
        · omega
      · have : ¬ (0 : Int) < (i : Int) := by omega
        simp [hi0, this])]
  unfold setOk
  cases List.all xs.zipIdx (fun p => stepUp n xs p.2 p.1) <;> rfl
end Go.Proofs.Ytndiklipffipcaa
