/- Ascending rows: plain laws; a search in one, one more in one. -/
import Derived.Test.YtndiklipffipcaaSetET
set_option linter.unusedVariables false
set_option linter.unusedSimpArgs false
namespace Go.Proofs.Ytndiklipffipcaa
open Go Go.Wk Go.Proofs

abbrev Asc (xs : List Int) : Prop := xs.Pairwise (· < ·)
theorem asc_eq : ∀ {xs ys : List Int}, Asc xs → Asc ys → (∀ z, z ∈ xs ↔ z ∈ ys) → xs = ys
  | [], [], _, _, _ => rfl
  | [], y :: ys, _, _, h => by have := (h y).2 (List.mem_cons_self ..); cases this
  | x :: xs, [], _, _, h => by have := (h x).1 (List.mem_cons_self ..); cases this
  | x :: xs, y :: ys, hx, hy, h => by
    have hx' := List.pairwise_cons.1 hx
    have hy' := List.pairwise_cons.1 hy
    have e : x = y := by
      have h1 := (h x).1 (List.mem_cons_self ..)
      have h2 := (h y).2 (List.mem_cons_self ..)
      rcases List.mem_cons.1 h1 with h1 | h1
      · exact h1
      · rcases List.mem_cons.1 h2 with h2 | h2
        · exact h2.symm
        · have := hx'.1 y h2
          have := hy'.1 x h1
          omega
    subst e
    congr 1
    refine asc_eq hx'.2 hy'.2 fun z => ?_
    have hz := h z
    rw [List.mem_cons, List.mem_cons] at hz
    constructor
    · intro hm
      have := hx'.1 z hm
      rcases hz.1 (.inr hm) with e | hm'
      · omega
      · exact hm'
    · intro hm
      have := hy'.1 z hm
      rcases hz.2 (.inr hm) with e | hm'
      · omega
      · exact hm'
theorem asc_of : ∀ {xs : List Int}, (∀ (i : Nat) x y, xs[i]? = some x → xs[i + 1]? = some y → x < y) → Asc xs
  | [], _ => List.Pairwise.nil
  | [x], _ => by simp
  | x :: y :: r, h => by
    have ih := asc_of (xs := y :: r) (fun i a b ha hb => h (i + 1) a b ha hb)
    have hxy := h 0 x y rfl rfl
    refine List.pairwise_cons.2 ⟨fun z hz => ?_, ih⟩
    rcases List.mem_cons.1 hz with rfl | hz
    · exact hxy
    · have := (List.pairwise_cons.1 ih).1 z hz
      omega
theorem setOk_iff {n : Int} {xs : List Int} : setOk n xs = true ↔ (∀ x ∈ xs, 0 ≤ x ∧ x < n) ∧ Asc xs := by
  constructor
  · intro h
    obtain ⟨h1, h2⟩ := setOk_spec h
    refine ⟨fun x hx => ?_, asc_of h2⟩
    obtain ⟨i, hi⟩ := List.mem_iff_getElem?.1 hx
    exact h1 i x hi
  · rintro ⟨h1, h2⟩
    unfold setOk
    rw [List.all_eq_true]
    rintro ⟨x, i⟩ hx
    have hx := List.mem_zipIdx_iff_getElem?.1 hx
    dsimp only at hx ⊢
    unfold stepUp
    rw [Bool.and_eq_true]
    refine ⟨inR_iff.2 (h1 x (List.mem_of_getElem? hx)), ?_⟩
    by_cases hi : 0 < i
    · have hlt := (List.getElem?_eq_some_iff.1 hx).1
      have hy : xs[i - 1]? = some (xs[i - 1]'(by omega)) := List.getElem?_eq_getElem (by omega)
      have := List.pairwise_iff_getElem.1 h2 (i - 1) i (by omega) hlt (by omega)
      rw [(List.getElem?_eq_some_iff.1 hx).2] at this
      rw [hy]
      simp [this]
    · simp [hi]
theorem asc_get {xs : List Int} (h : Asc xs) {i j : Nat} {x y : Int} (hi : xs[i]? = some x) (hj : xs[j]? = some y) (hij : i < j) : x < y := by
  obtain ⟨h1, e1⟩ := List.getElem?_eq_some_iff.1 hi
  obtain ⟨h2, e2⟩ := List.getElem?_eq_some_iff.1 hj
  rw [← e1, ← e2]
  exact List.pairwise_iff_getElem.1 h i j h1 h2 hij
theorem asc_nodup {xs : List Int} (h : Asc xs) : xs.Nodup := List.Pairwise.imp (fun h e => by omega) h
/-- a sorted row of different numbers -/
theorem sort_asc {xs : List Int} (h : xs.Nodup) : Asc (xs.mergeSort fun x y => decide (x ≤ y)) := by
  have h1 : (xs.mergeSort fun x y => decide (x ≤ y)).Pairwise (fun a b => decide (a ≤ b) = true) := List.pairwise_mergeSort (fun a b c h1 h2 => by simp only [decide_eq_true_eq] at *; omega) (fun a b => by simp only [Bool.or_eq_true, decide_eq_true_eq]; omega) xs
  have h2 : (xs.mergeSort fun x y => decide (x ≤ y)).Nodup := (List.mergeSort_perm xs _).nodup_iff.2 h
  have h3 := List.Pairwise.and h1 h2
  exact h3.imp fun ⟨ha, hb⟩ => by
    simp only [decide_eq_true_eq] at ha
    have : ∀ {a b : Int}, a ≤ b → a ≠ b → a < b := fun h1 h2 => by omega
    exact this ha hb
/-- one more number in its place -/
def ins (n : Int) (xs : List Int) : List Int := xs.filter (fun x => decide (x < n)) ++ n :: xs.filter (fun x => decide (n < x))
theorem ins_mem {n : Int} {xs : List Int} (hn : n ∉ xs) (z : Int) : z ∈ ins n xs ↔ z = n ∨ z ∈ xs := by
  unfold ins
  simp only [List.mem_append, List.mem_cons, List.mem_filter, decide_eq_true_eq]
  constructor
  · rintro (⟨h, _⟩ | rfl | ⟨h, _⟩)
    · exact .inr h
    · exact .inl rfl
    · exact .inr h
  · rintro (rfl | h)
    · exact .inr (.inl rfl)
    · rcases Int.lt_trichotomy z n with hlt | heq | hgt
      · exact .inl ⟨h, hlt⟩
      · exact absurd (heq ▸ h) hn
      · exact .inr (.inr ⟨h, hgt⟩)
theorem ins_asc {n : Int} {xs : List Int} (h : Asc xs) : Asc (ins n xs) := by
  unfold ins
  refine List.pairwise_append.2 ⟨h.filter _, List.pairwise_cons.2 ⟨fun z hz => ?_, h.filter _⟩, fun a ha b hb => ?_⟩
  · simp only [List.mem_filter, decide_eq_true_eq] at hz; exact hz.2
  · simp only [List.mem_filter, decide_eq_true_eq] at ha
    rcases List.mem_cons.1 hb with rfl | hb
    · exact ha.2
    · simp only [List.mem_filter, decide_eq_true_eq] at hb; omega
theorem ins_length {n : Int} {xs : List Int} (hn : n ∉ xs) (h : Asc xs) : (ins n xs).length = xs.length + 1 := by
  have h1 : (n :: xs).Nodup := List.nodup_cons.2 ⟨hn, asc_nodup h⟩
  have h2 : (ins n xs).Perm (n :: xs) := (List.perm_ext_iff_of_nodup (asc_nodup (ins_asc h)) h1).2 fun z => by rw [ins_mem hn, List.mem_cons]
  rw [h2.length_eq, List.length_cons]
/-- cut in two at the first that is not less -/
theorem ins_cut {n : Int} {xs : List Int} (h : Asc xs) (hn : n ∉ xs) {k : Nat} (hk : k ≤ xs.length) (h1 : ∀ (i : Nat) x, i < k → xs[i]? = some x → x < n) (h2 : ∀ x, xs[k]? = some x → n < x) : xs.take k ++ n :: xs.drop k = ins n xs := by
  refine asc_eq ?_ (ins_asc h) fun z => ?_
  · have hT : ∀ z ∈ xs.take k, z < n := fun z hz => by
      obtain ⟨i, hi⟩ := List.mem_iff_getElem?.1 hz
      rw [List.getElem?_take] at hi
      split at hi
      · rename_i hik; exact h1 i z hik hi
      · cases hi
    have hD : ∀ z ∈ xs.drop k, n < z := fun z hz => by
      obtain ⟨i, hi⟩ := List.mem_iff_getElem?.1 hz
      rw [List.getElem?_drop] at hi
      have hlt := (List.getElem?_eq_some_iff.1 hi).1
      have hx : xs[k]? = some (xs[k]'(by omega)) := List.getElem?_eq_getElem (by omega)
      have := h2 _ hx
      rcases Nat.eq_zero_or_pos i with e | e
      · subst e
        rw [Nat.add_zero, hx] at hi
        cases hi; exact this
      · have := asc_get h hx hi (by omega)
        omega
    refine List.pairwise_append.2 ⟨h.sublist (List.take_sublist ..), List.pairwise_cons.2 ⟨hD, h.sublist (List.drop_sublist ..)⟩, fun a ha b hb => ?_⟩
    have := hT a ha
    rcases List.mem_cons.1 hb with rfl | hb
    · exact this
    · have := hD b hb; omega
  · rw [ins_mem hn, List.mem_append, List.mem_cons]
    have : z ∈ xs ↔ z ∈ xs.take k ∨ z ∈ xs.drop k := by rw [← List.mem_append, List.take_append_drop]
    rw [this]
    constructor
    · rintro (h | h | h)
      · exact .inr (.inl h)
      · exact .inl h
      · exact .inr (.inr h)
    · rintro (h | h | h)
      · exact .inr (.inl h)
      · exact .inl h
      · exact .inr (.inr h)
theorem sort_ins {n : Int} {xs : List Int} (h : Asc xs) (hn : n ∉ xs) : ((xs ++ [n]).mergeSort fun x y => decide (x ≤ y)) = ins n xs := by
  refine asc_eq (sort_asc ?_) (ins_asc h) fun z => ?_
  · rw [List.nodup_append]
    refine ⟨asc_nodup h, by simp, fun a ha b hb e => ?_⟩
    rw [List.mem_singleton] at hb
    subst hb
    exact hn (e ▸ ha)
  · rw [(List.mergeSort_perm _ _).mem_iff, ins_mem hn, List.mem_append, List.mem_singleton]
    exact Or.comm
end Go.Proofs.Ytndiklipffipcaa
