/- Runs that come back: plain laws. -/
import Derived.Test.YtnmjfjppgpkieaaSigK
set_option linter.unusedVariables false
set_option linter.unusedSimpArgs false
namespace Go.Proofs.Ytnmjfjppgpkieaa
open Go Go.Wk Go.Proofs

theorem nodup_lenN : ∀ (n : Nat) (xs : List Int), xs.Nodup → (∀ x ∈ xs, 0 ≤ x ∧ x < n) → xs.length ≤ n
  | 0, [], _, _ => by simp
  | 0, x :: xs, _, h => by have := h x (List.mem_cons_self ..); omega
  | n + 1, xs, hn, h => by
    by_cases hm : (n : Int) ∈ xs
    · have h1 := List.length_erase_of_mem hm
      have h2 := nodup_lenN n (xs.erase (n : Int)) (hn.erase _) (fun x hx => by
        rw [hn.mem_erase_iff] at hx
        have := h x hx.2
        have := hx.1
        omega)
      omega
    · have := nodup_lenN n xs hn (fun x hx => by
        have h3 := h x hx
        have : x ≠ n := fun e => hm (e ▸ hx)
        omega)
      omega
/-- from place to place, till one comes again -/
def lasso (b : Int → Int) : Nat → List Int → Int → List Int × Int
  | 0, T, q => (T, q)
  | k + 1, T, q => if q ∈ T then (T, q) else lasso b k (T ++ [q]) (b q)
theorem lasso_spec {b : Int → Int} {n : Nat} (hb : ∀ q : Int, 0 ≤ q → q < n → 0 ≤ b q ∧ b q < n) : ∀ (k : Nat) (T : List Int) (q : Int), n < k + T.length → T.Nodup → (∀ x ∈ T, 0 ≤ x ∧ x < n) → 0 ≤ q → q < n →
    (lasso b k T q).2 ∈ (lasso b k T q).1 ∧ (lasso b k T q).1.Nodup ∧ (∀ x ∈ (lasso b k T q).1, 0 ≤ x ∧ x < n)
  | 0, T, q, hk, hn, hr, _, _ => absurd (nodup_lenN n T hn hr) (by omega)
  | k + 1, T, q, hk, hn, hr, q0, q1 => by
    unfold lasso
    by_cases hq : q ∈ T
    · rw [if_pos hq]; exact ⟨hq, hn, hr⟩
    · rw [if_neg hq]
      have hn' : (T ++ [q]).Nodup := by
        rw [List.nodup_append]
        refine ⟨hn, by simp, fun a ha c hc e => ?_⟩
        rw [List.mem_singleton] at hc
        exact hq (by rw [← hc, ← e]; exact ha)
      exact lasso_spec hb k (T ++ [q]) (b q) (by simp; omega) hn' (fun x hx => by
        rw [List.mem_append, List.mem_singleton] at hx
        rcases hx with hx | rfl
        · exact hr x hx
        · exact ⟨q0, q1⟩) (hb q q0 q1).1 (hb q q0 q1).2
/-- a loop that runs so -/
theorem lasso_run {ρ σ : Type} {f : σ → Option (ρ ⊕ (σ ⊕ σ))} (st : List Int → Int → σ) {b : Int → Int} {n : Nat} (hb : ∀ q : Int, 0 ≤ q → q < n → 0 ≤ b q ∧ b q < n)
    (hf : ∀ (T : List Int) (q : Int), T.length ≤ n → (∀ x ∈ T, 0 ≤ x ∧ x < (n : Int)) → 0 ≤ q → q < n → f (st T q) = some (if q ∈ T then .inr (.inl (st T q)) else .inr (.inr (st (T ++ [q]) (b q))))) :
    ∀ (k : Nat) (K : Nat) (T : List Int) (q : Int), n < k + T.length → k ≤ K → T.Nodup → (∀ x ∈ T, 0 ≤ x ∧ x < n) → 0 ≤ q → q < n → whileM f K (st T q) = some (.inr (st (lasso b k T q).1 (lasso b k T q).2))
  | 0, K, T, q, hk, _, hn, hr, _, _ => absurd (nodup_lenN n T hn hr) (by omega)
  | k + 1, K, T, q, hk, hK, hn, hr, q0, q1 => by
    rw [whileM_pos (by omega), hf T q (nodup_lenN n T hn hr) hr q0 q1, Option.bind_some]
    unfold lasso
    by_cases hq : q ∈ T
    · simp only [hq, if_true]; rfl
    · simp only [hq, if_false]
      have hn' : (T ++ [q]).Nodup := by
        rw [List.nodup_append]
        refine ⟨hn, by simp, fun a ha c hc e => ?_⟩
        rw [List.mem_singleton] at hc
        exact hq (by rw [← hc, ← e]; exact ha)
      exact lasso_run st hb hf k (K - 1) (T ++ [q]) (b q) (by simp; omega) (by omega) hn' (fun x hx => by
        rw [List.mem_append, List.mem_singleton] at hx
        rcases hx with hx | rfl
        · exact hr x hx
        · exact ⟨q0, q1⟩) (hb q q0 q1).1 (hb q q0 q1).2
/-- a loop that runs so, and hands out at the end -/
theorem lasso_ret {ρ σ : Type} {f : σ → Option (ρ ⊕ (σ ⊕ σ))} (st : List Int → Int → σ) (g : List Int → Int → ρ) {b : Int → Int} {n : Nat} (hb : ∀ q : Int, 0 ≤ q → q < n → 0 ≤ b q ∧ b q < n)
    (hf : ∀ (T : List Int) (q : Int), T.Nodup → (∀ x ∈ T, 0 ≤ x ∧ x < (n : Int)) → 0 ≤ q → q < n → f (st T q) = some (if q ∈ T then .inl (g T q) else .inr (.inr (st (T ++ [q]) (b q))))) :
    ∀ (k : Nat) (K : Nat) (T : List Int) (q : Int), n < k + T.length → k ≤ K → T.Nodup → (∀ x ∈ T, 0 ≤ x ∧ x < n) → 0 ≤ q → q < n → whileM f K (st T q) = some (.inl (g (lasso b k T q).1 (lasso b k T q).2))
  | 0, K, T, q, hk, _, hn, hr, _, _ => absurd (nodup_lenN n T hn hr) (by omega)
  | k + 1, K, T, q, hk, hK, hn, hr, q0, q1 => by
    rw [whileM_pos (by omega), hf T q hn hr q0 q1, Option.bind_some]
    unfold lasso
    by_cases hq : q ∈ T
    · simp only [hq, if_true]; rfl
    · simp only [hq, if_false]
      have hn' : (T ++ [q]).Nodup := by
        rw [List.nodup_append]
        refine ⟨hn, by simp, fun a ha c hc e => ?_⟩
        rw [List.mem_singleton] at hc
        exact hq (by rw [← hc, ← e]; exact ha)
      exact lasso_ret st g hb hf k (K - 1) (T ++ [q]) (b q) (by simp; omega) (by omega) hn' (fun x hx => by
        rw [List.mem_append, List.mem_singleton] at hx
        rcases hx with hx | rfl
        · exact hr x hx
        · exact ⟨q0, q1⟩) (hb q q0 q1).1 (hb q q0 q1).2
/-- the place of a number in a row, as the programs say it -/
def placeOf (xs : List Int) (v : Int) : Int := match xs.findIdx? (fun x => v == x) with | some i => (i : Int) | none => -1
theorem place_not {xs : List Int} {v : Int} (h : v ∉ xs) : placeOf xs v = -1 := by
  unfold placeOf
  have : xs.findIdx? (fun x => v == x) = none := by
    rw [List.findIdx?_eq_none_iff]
    intro x hx
    simp only [beq_eq_false_iff_ne]
    exact fun e => h (e ▸ hx)
  rw [this]
theorem place_in {xs : List Int} {v : Int} (h : v ∈ xs) : ∃ i : Nat, placeOf xs v = (i : Int) ∧ i < xs.length ∧ xs[i]? = some v := by
  unfold placeOf
  cases hf : xs.findIdx? (fun x => v == x) with
  | none =>
    rw [List.findIdx?_eq_none_iff] at hf
    have := hf v h
    simp at this
  | some i =>
    rw [List.findIdx?_eq_some_iff_getElem] at hf
    obtain ⟨h1, h2, _⟩ := hf
    refine ⟨i, rfl, h1, ?_⟩
    rw [List.getElem?_eq_getElem h1]
    have := beq_iff_eq.1 h2
    rw [← this]
theorem any_mem (xs : List Int) (v : Int) : xs.any (fun x => v == x) = decide (v ∈ xs) := by
  rw [Bool.eq_iff_iff, List.any_eq_true, decide_eq_true_eq]
  constructor
  · rintro ⟨x, hx, e⟩
    rw [beq_iff_eq] at e
    exact e ▸ hx
  · exact fun h => ⟨v, h, by simp⟩
theorem place_lt (xs : List Int) (v : Int) : decide (placeOf xs v < 0) = !decide (v ∈ xs) := by
  by_cases h : v ∈ xs
  · obtain ⟨i, h1, _⟩ := place_in h
    rw [h1]
    have : ¬ (i : Int) < 0 := by omega
    simp [h, this]
  · rw [place_not h]
    simp [h]
/-- parts of one length, one behind another -/
theorem flat_len {part : Int → List Int} {l : Nat} (hp : ∀ x, (part x).length = l) : ∀ T : List Int, (T.flatMap part).length = T.length * l
  | [] => by simp
  | x :: T => by rw [List.flatMap_cons, List.length_append, hp, flat_len hp T, List.length_cons, Nat.add_mul, Nat.one_mul, Nat.add_comm]
theorem flat_take {part : Int → List Int} {l : Nat} (hp : ∀ x, (part x).length = l) (T : List Int) (k : Nat) : (T.flatMap part).take (k * l) = (T.take k).flatMap part ∧ (T.flatMap part).drop (k * l) = (T.drop k).flatMap part := by
  by_cases hk : k ≤ T.length
  · have e : T.flatMap part = (T.take k).flatMap part ++ (T.drop k).flatMap part := by rw [← List.flatMap_append, List.take_append_drop]
    have hl : ((T.take k).flatMap part).length = k * l := by rw [flat_len hp, List.length_take, Nat.min_eq_left hk]
    rw [e]
    exact ⟨by rw [List.take_append_of_le_length (by omega), List.take_of_length_le (by omega)], by rw [List.drop_append_of_le_length (by omega), List.drop_of_length_le (by omega), List.nil_append]⟩
  · have hl := flat_len hp T
    have : T.length * l ≤ k * l := Nat.mul_le_mul_right _ (by omega)
    rw [List.take_of_length_le (by omega), List.drop_of_length_le (by omega), List.take_of_length_le (by omega), List.drop_of_length_le (by omega)]
    exact ⟨rfl, rfl⟩
/-- the two parts of such a run -/
theorem cut_eq {part : Int → List Int} {l : Nat} (hp : ∀ x, (part x).length = l) (A : List Int) {T : List Int} {k : Nat} (hk : k ≤ T.length) :
    subS (A ++ T.flatMap part) 0 ((A.length + k * l : Nat) : Int) = some (A ++ (T.take k).flatMap part) ∧ subS (A ++ T.flatMap part) ((A.length + k * l : Nat) : Int) ((A ++ T.flatMap part).length : Int) = some ((T.drop k).flatMap part) := by
  have hkl : k * l ≤ T.length * l := Nat.mul_le_mul_right _ hk
  have hlen : (A ++ T.flatMap part).length = A.length + T.length * l := by rw [List.length_append, flat_len hp]
  have ht := flat_take hp T k
  constructor
  · unfold subS
    rw [if_pos ⟨by omega, by omega, by rw [hlen]; omega⟩]
    rw [Int.toNat_natCast, Int.toNat_zero, List.drop_zero, List.take_length_add_append, ht.1]
  · unfold subS
    rw [if_pos ⟨by omega, by rw [hlen]; omega, by omega⟩]
    rw [Int.toNat_natCast, Int.toNat_natCast, List.take_length, List.drop_length_add_append, ht.2]
end Go.Proofs.Ytnmjfjppgpkieaa
