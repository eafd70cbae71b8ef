/- Automata: what both sides say of the right ones. -/
import Derived.Test.YtnmjfjppgpkieaaSetEW4
set_option linter.unusedVariables false
set_option linter.unusedSimpArgs false
namespace Go.Proofs.Ytnmjfjppgpkieaa
open Go Go.Wk Go.Proofs

/-- the number of letters -/
def ltd (p : Sig) : Int := pw p.In * pw p.Out
theorem s_LettersOf_eqD {p : Sig} (hs : sigOk p = true) : s_LettersOf p = some (ltd p) := by
  unfold s_LettersOf
  rw [s_SigOk_eq, hs]
  obtain ⟨hi, ho⟩ := sigOk_in hs
  unfold ltd
  simp only [Option.bind_some, Bool.not_true, cond_false]
  rcases hi with h | h <;> rcases ho with k | k <;> rw [h, k] <;> decide
theorem i_lettersOf_eqD {p : Sig} (hs : sigOk p = true) : i_lettersOf p = some (ltd p) := by
  obtain ⟨h1, h2⟩ := sigOk_in hs
  unfold i_lettersOf ltd
  rcases h1 with h1 | h1 <;> rcases h2 with h2 | h2 <;> rw [h1, h2] <;> decide
def pairOk (n : Int) (x : Pair) : Bool := setOk n x.Ask && setOk n x.Give
def pairsOk (xs : List Pair) (n : Int) : Bool := decide ((xs.length : Int) ≤ 4) && xs.all (pairOk n)
section
variable {xs : List Pair} {n : Int} (h0 : 0 ≤ n) (h1 : n ≤ 256) (hb : ∀ x ∈ xs, x.Ask.length ≤ 1000000000 ∧ x.Give.length ≤ 1000000000)
include h0 h1 hb
omit hb in
theorem s_SetOk_eqD {s : List Int} (hl : s.length ≤ 1000000000) : s_SetOk s n = some (setOk n s) := by
  unfold s_SetOk
  rw [s_l1In_eq, s_l1Set_eq h0 (by omega) hl]
  simp [h0, h1]
theorem s_PairsOk_eqD : s_PairsOk xs n = some (pairsOk xs n) := by
  unfold s_PairsOk pairsOk
  rw [s_l1In_eq]
  simp only [h0, h1, decide_true, Bool.and_self, Option.bind_some, Bool.not_true, cond_false, gt_not]
  cases decide ((xs.length : Int) ≤ 4) with
  | false => rfl
  | true =>
    rw [cnt_all0 (f := s_PairsOk_b0 xs n) (r := false) (pairOk n) (xs := xs) rfl (fun i x hx => by
      obtain ⟨b1, b2⟩ := hb x (List.mem_of_getElem? hx)
      unfold s_PairsOk_b0 pairOk
      rw [idx_nat, hx]
      simp only [Option.bind_some, s_SetOk_eqD h0 h1 b1, s_SetOk_eqD h0 h1 b2]
      cases setOk n x.Ask <;> cases setOk n x.Give <;> rfl)]
    simp only [Bool.not_true, cond_false, Option.bind_some, Bool.true_and]
    cases xs.all (pairOk n) <;> rfl
omit h0 h1 in
theorem i_arePairs_eqD : i_arePairs xs n = some (pairsOk xs n) := by
  unfold i_arePairs pairsOk
  rw [cnt_all0 (f := i_arePairs_b0 xs n) (r := false) (pairOk n) (xs := xs) rfl (fun i x hx => by
    obtain ⟨b1, b2⟩ := hb x (List.mem_of_getElem? hx)
    unfold i_arePairs_b0 pairOk
    rw [idx_nat, hx]
    simp only [Option.bind_some, i_isSet_eq b1, i_isSet_eq b2]
    cases setOk n x.Ask <;> cases setOk n x.Give <;> rfl)]
  cases xs.all (pairOk n) <;> simp [aft]
end
def detRow (p : Sig) (n : Int) (row : List Int) : Bool := ((row.length : Int) == ltd p) && row.all (inR n)
def detOk (p : Sig) (d : Det) : Bool := decide (1 ≤ (d.Next.length : Int)) && decide ((d.Next.length : Int) ≤ 48) && pairsOk d.Pairs d.Next.length && d.Next.all (detRow p d.Next.length)
section
variable {p : Sig} {d : Det} (hs : sigOk p = true) (hb : ∀ x ∈ d.Pairs, x.Ask.length ≤ 1000000000 ∧ x.Give.length ≤ 1000000000)
include hs hb
theorem s_DetOk_eqD : s_DetOk p d = some (detOk p d) := by
  unfold s_DetOk detOk
  rw [s_SigOk_eq, hs]
  simp only [Option.bind_some, Bool.not_true, cond_false, s_l1In_eq]
  cases h1 : (decide (1 ≤ (d.Next.length : Int)) && decide ((d.Next.length : Int) ≤ 48)) with
  | false => rfl
  | true =>
    simp only [Bool.and_eq_true, decide_eq_true_eq] at h1
    rw [cnt_all0 (f := s_DetOk_b0 p d) (r := false) (detRow p d.Next.length) (xs := d.Next) rfl (fun i row hx => by
      unfold s_DetOk_b0 detRow
      rw [idx_nat, hx]
      simp only [Option.bind_some, s_LettersOf_eqD hs, s_l23Below_eq row (n := (d.Next.length : Int)) (by omega) (by omega), bne]
      cases ((row.length : Int) == ltd p) <;> cases row.all (inR d.Next.length) <;> rfl), s_PairsOk_eqD (by omega) (by omega) hb]
    simp only [Bool.not_true, cond_false, Option.bind_some, Bool.true_and]
    cases d.Next.all (detRow p d.Next.length) <;> cases pairsOk d.Pairs d.Next.length <;> rfl
theorem i_isDet_eqD : i_isDet p d = some (detOk p d) := by
  unfold i_isDet detOk
  simp only [gt_not, orE, Option.bind_some]
  rw [← Bool.not_and]
  cases h1 : (decide (1 ≤ (d.Next.length : Int)) && decide ((d.Next.length : Int) ≤ 48)) with
  | false => rfl
  | true =>
    simp only [Bool.and_eq_true, decide_eq_true_eq] at h1
    rw [cnt_all0 (f := i_isDet_b0 p d) (r := false) (detRow p d.Next.length) (xs := d.Next) rfl (fun i row hx => by
      unfold i_isDet_b0 detRow
      rw [idx_nat, hx]
      simp only [Option.bind_some, i_lettersOf_eqD hs, i_areLetters_eq, bne]
      cases ((row.length : Int) == ltd p) <;> cases row.all (inR d.Next.length) <;> rfl), i_arePairs_eqD hb]
    simp only [Bool.not_true, cond_false, Option.bind_some, Bool.true_and]
    cases d.Next.all (detRow p d.Next.length) <;> cases pairsOk d.Pairs d.Next.length <;> rfl
omit hs hb in
theorem detOk_spec (h : detOk p d = true) : 1 ≤ d.Next.length ∧ d.Next.length ≤ 48 ∧ d.Pairs.length ≤ 4 ∧ ∀ row ∈ d.Next, RowIn d.Next.length (ltd p) row := by
  simp only [detOk, pairsOk, Bool.and_eq_true, decide_eq_true_eq, List.all_eq_true] at h
  obtain ⟨⟨⟨h1, h2⟩, h3, _⟩, h4⟩ := h
  refine ⟨by omega, by omega, by omega, fun row hr => ?_⟩
  have := h4 row hr
  simp only [detRow, Bool.and_eq_true, beq_iff_eq, List.all_eq_true, inR_iff] at this
  exact this
end
end Go.Proofs.Ytnmjfjppgpkieaa
