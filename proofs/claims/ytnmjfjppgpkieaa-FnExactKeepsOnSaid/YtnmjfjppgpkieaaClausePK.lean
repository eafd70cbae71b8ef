/- Clauses on words: plain laws. -/
import Derived.Test.YtnmjfjppgpkieaaSimK
set_option linter.unusedVariables false
set_option linter.unusedSimpArgs false
namespace Go.Proofs.Ytnmjfjppgpkieaa
open Go Go.Wk Go.Proofs

/-- is something asked at the end, and not answered? -/
def dang (a b : Int → Bool) : List Int → Bool
  | [] => false
  | x :: r => (a x && (x :: r).all (fun y => !b y)) || dang a b r
theorem pend_eq (a b : Int → Bool) : ∀ (xs : List Int) (p : Bool), xs.foldl (fun p x => (p || a x) && !b x) p = ((p && xs.all (fun y => !b y)) || dang a b xs)
  | [], p => by simp [dang]
  | x :: r, p => by
    rw [List.foldl_cons, pend_eq a b r]
    simp only [dang, List.all_cons]
    generalize r.all (fun y => !b y) = u
    generalize dang a b r = v
    generalize a x = ax
    generalize b x = bx
    cases p <;> cases ax <;> cases bx <;> cases u <;> cases v <;> rfl
theorem dang_no {a b : Int → Bool} : ∀ {xs : List Int}, dang a b xs = false ↔ ∀ (i : Nat) x, xs[i]? = some x → a x = true → (xs.drop i).any b = true
  | [] => by simp [dang]
  | x :: r => by
    simp only [dang, Bool.or_eq_false_iff, dang_no (xs := r)]
    constructor
    · rintro ⟨h1, h2⟩ i y hy ha
      match i, hy with
      | 0, hy =>
        simp only [List.getElem?_cons_zero, Option.some.injEq] at hy
        subst hy
        rw [ha, Bool.true_and] at h1
        rw [List.drop_zero]
        cases h : (x :: r).any b with
        | true => rfl
        | false =>
          exfalso
          rw [Bool.eq_false_iff] at h1
          apply h1
          rw [List.all_eq_true]
          intro z hz
          rw [List.any_eq_false] at h
          have := h z hz
          cases hb : b z <;> simp_all
      | i + 1, hy =>
        rw [List.drop_succ_cons]
        exact h2 i y hy ha
    · intro h
      refine ⟨?_, fun i y hy ha => ?_⟩
      · cases ha : a x with
        | false => rfl
        | true =>
          have := h 0 x rfl ha
          rw [List.drop_zero, List.any_eq_true] at this
          obtain ⟨z, hz, hb⟩ := this
          rw [Bool.true_and, Bool.eq_false_iff]
          intro hall
          rw [List.all_eq_true] at hall
          have := hall z hz
          rw [hb] at this
          cases this
      · have := h (i + 1) y hy ha
        rwa [List.drop_succ_cons] at this
/-- the next letter, the last one's too -/
theorem next_same {pa pb : Int → Bool} {all : List Int} {back : Nat} {z : Int} (hz : all[back]? = some z) :
    (∀ (i : Nat) x y, all[i]? = some x → all[if i + 1 < all.length then i + 1 else back]? = some y → pa x = true → pb y = true) ↔
    (∀ (i : Nat) x y, (all ++ [z])[i]? = some x → (all ++ [z])[i + 1]? = some y → pa x = true → pb y = true) := by
  constructor
  · intro h i x y hx hy
    have hi := (List.getElem?_eq_some_iff.1 hy).1
    rw [List.length_append, List.length_singleton] at hi
    rw [List.getElem?_append_left (by omega)] at hx
    refine h i x y hx ?_
    by_cases hl : i + 1 < all.length
    · rw [if_pos hl]
      rw [List.getElem?_append_left hl] at hy
      exact hy
    · rw [if_neg hl, hz]
      rw [List.getElem?_append_right (by omega), show i + 1 - all.length = 0 from by omega] at hy
      exact hy
  · intro h i x y hx hy
    have hi := (List.getElem?_eq_some_iff.1 hx).1
    refine h i x y (by rw [List.getElem?_append_left hi]; exact hx) ?_
    by_cases hl : i + 1 < all.length
    · rw [if_pos hl] at hy
      rw [List.getElem?_append_left hl]
      exact hy
    · rw [if_neg hl, hz] at hy
      rw [List.getElem?_append_right (by omega), show i + 1 - all.length = 0 from by omega]
      exact hy
theorem all_again {p : Int → Bool} {xs : List Int} {z : Int} (hz : z ∈ xs) : (xs ++ [z]).all p = xs.all p := by
  rw [List.all_append, Bool.eq_iff_iff]
  simp only [Bool.and_eq_true, List.all_eq_true, List.mem_singleton, forall_eq]
  exact ⟨fun h => h.1, fun h => ⟨h, h z hz⟩⟩
theorem any_again {p : Int → Bool} {xs : List Int} {z : Int} (hz : z ∈ xs) : (xs ++ [z]).any p = xs.any p := by
  rw [List.any_append, Bool.eq_iff_iff]
  simp only [Bool.or_eq_true, List.any_eq_true, List.mem_singleton, exists_eq_left]
  exact ⟨fun h => h.elim id fun h => ⟨z, hz, h⟩, fun h => .inl h⟩
end Go.Proofs.Ytnmjfjppgpkieaa
