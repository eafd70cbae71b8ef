/- Plain laws: two loops side by side, bits, Boolean chains. -/
import Derived.Test.YtcmamhmpoinmnaaLwFF
import Derived.Test.YtcmamhmpoinmnaaLawFF
set_option linter.unusedVariables false
set_option linter.unusedSimpArgs false
namespace Go.Proofs.Ytcmamhmpoinmnaa
open Go Go.Wk Go.Proofs
theorem orE (b c : Bool) : (bif b then some true else some c) = some (b || c) := by cases b <;> rfl
theorem cnt_allP {ρ α : Type} {f : Int → Unit → Option (ρ ⊕ (Unit ⊕ Unit))} {r : ρ} (g : Nat → α → Bool) {xs : List α} {n : Nat} (hn : n = xs.length) (h : ∀ (i : Nat) x, xs[i]? = some x → f (i : Int) () = some (if g i x then .inr (.inr ()) else .inl r)) :
 cntM f n 0 () = some (if xs.zipIdx.all (fun p => g p.2 p.1) then .inr () else .inl r) := by
 subst hn
 have := cnt_all0 (f := f) (r := r) (fun p : α × Nat => g p.2 p.1) (xs := xs.zipIdx) (n := xs.length) (by simp) (fun i x hx => by
  rw [List.getElem?_zipIdx] at hx
  cases hy : xs[i]? with
  | none => rw [hy] at hx; cases hx
  | some y =>
   rw [hy] at hx
   simp at hx
   subst hx
   exact h i y hy)
 exact this
theorem while_out {ρ σ : Type} {f : σ → Option (ρ ⊕ (σ ⊕ σ))} (I : Nat → σ → Prop) (R : ρ → Prop) (B : σ → Prop) (N : Nat)
 (step : ∀ (j : Nat) s, I j s → ∃ o, f s = some o ∧ (match o with
  | .inl r => R r
  | .inr (.inl s') => B s'
  | .inr (.inr s') => j < N ∧ I (j + 1) s')) :
 ∀ (k j : Nat) (s : σ), N < k + j → I j s → (0 < k) → ∃ o, whileM f k s = some o ∧ (match o with
  | .inl r => R r
  | .inr s' => B s')
 | 0, _, _, _, _, h => absurd h (Nat.lt_irrefl 0)
 | k + 1, j, s, hk, h, _ => by
  obtain ⟨o, ho, hm⟩ := step j s h
  show ∃ o, Option.bind (f s) _ = some o ∧ _
  rw [ho]
  match o, hm with
  | .inl r, hm => exact ⟨.inl r, rfl, hm⟩
  | .inr (.inl s'), hm => exact ⟨.inr s', rfl, hm⟩
  | .inr (.inr s'), hm =>
   obtain ⟨o', h1, h2⟩ := while_out I R B N step k (j + 1) s' (by omega) hm.2 (by omega)
   exact ⟨o', h1, h2⟩
theorem toNat_ofInt64 {x : Int} (h0 : 0 ≤ x) (h1 : x < 9223372036854775808) : (BitVec.ofInt (IntKind.bits IntKind.i64) x).toNat = x.toNat := by
 show (BitVec.ofInt 64 x).toNat = x.toNat
 rw [BitVec.toNat_ofInt]
 congr 1
 omega
theorem fdiv_pos {x y : Int} (h : 0 ≤ y) : Int.fdiv x y = x / y := Int.fdiv_eq_ediv_of_nonneg x h
theorem ex_nat {z : Int} (h : 0 ≤ z) : ∃ n : Nat, z = n := ⟨z.toNat, by omega⟩
theorem appL {α : Type} {b : Nat} {xs ys : List α} (h : xs.length + ys.length ≤ 100000000000) (hb : Nat.ble b 1024 = true) : appS b xs ys = some (xs ++ ys) := by
 have hb := Nat.ble_eq.mp hb
 have : (xs.length + ys.length) * b ≤ 100000000000 * 1024 := Nat.mul_le_mul h hb
 unfold appS
 rw [if_pos (by omega)]
theorem app1 {α : Type} {b : Nat} {xs : List α} {x : α} (h : xs.length ≤ 10000000000) (hb : Nat.ble b 1024 = true) : appS b xs [x] = some (xs ++ [x]) := appL (by simp only [List.length_cons, List.length_nil]; omega) hb
theorem get_el {α : Type} {xs : List α} {z : Int} (h0 : 0 ≤ z) (h1 : z < xs.length) : ∃ x, idx xs z = some x ∧ x ∈ xs := by
 have hz : z.toNat < xs.length := by omega
 exact ⟨xs[z.toNat], by rw [idx_int h0]; simp [hz], by simp⟩
end Go.Proofs.Ytcmamhmpoinmnaa
set_option linter.unusedVariables false
set_option linter.unusedSimpArgs false
namespace Go.Proofs.Ytcmamhmpoinmnaa
open Go Go.Wk Go.Proofs
def inR (n x : Int) : Bool := decide (0 ≤ x) && decide (x < n)
theorem inR_iff {n x : Int} : inR n x = true ↔ 0 ≤ x ∧ x < n := by unfold inR; simp
theorem inR_one (n x : Int) : (decide (0 ≤ x) && decide (x ≤ n - 1)) = inR n x := by
 unfold inR
 congr 1
 exact decide_eq_decide.2 (by omega)
theorem not_inR (n x : Int) : (decide (x < 0) || decide (n ≤ x)) = !(inR n x) := by
 unfold inR
 by_cases h1 : x < 0 <;> by_cases h2 : n ≤ x <;> simp [h1, h2] <;> omega
theorem gt_not (a b : Int) : decide (a < b) = !decide (b ≤ a) := by rw [← decide_not]; exact decide_eq_decide.2 (by omega)
theorem s_l1In_eq (a b c : Int) : s_l1In a b c = some (decide (b ≤ a) && decide (a ≤ c)) := by
 unfold s_l1In
 by_cases h : b ≤ a <;> simp [h]
theorem nodup_lenN : ∀ (n : Nat) (xs : List Int), xs.Nodup → (∀ x ∈ xs, 0 ≤ x ∧ x < n) → xs.length ≤ n
 | 0, [], _, _ => by simp
 | 0, x :: xs, _, h => by have := h x (List.mem_cons_self ..); omega
 | n + 1, xs, hn, h => by
  by_cases hm : (n : Int) ∈ xs
  · have h1 := List.length_erase_of_mem hm
    have h2 := nodup_lenN n (xs.erase (n : Int)) (hn.erase _) (fun x hx => by
     rw [hn.mem_erase_iff] at hx
     have := h x hx.2
     have := hx.1
     omega)
    omega
  · have := nodup_lenN n xs hn (fun x hx => by
     have h3 := h x hx
     have : x ≠ n := fun e => hm (e ▸ hx)
     omega)
    omega
end Go.Proofs.Ytcmamhmpoinmnaa
set_option linter.unusedVariables false
set_option linter.unusedSimpArgs false
namespace Go.Proofs.Ytcmamhmpoinmnaa
open Go Go.Wk Go.Proofs
def stepUp (n : Int) (xs : List Int) (i : Nat) (x : Int) : Bool := inR n x && (!decide (0 < i) || (match xs[i - 1]? with | some y => decide (y < x) | none => false))
def setOk (n : Int) (xs : List Int) : Bool := xs.zipIdx.all (fun p => stepUp n xs p.2 p.1)
theorem setOk_spec {n : Int} {xs : List Int} (h : setOk n xs = true) : (∀ (i : Nat) x, xs[i]? = some x → 0 ≤ x ∧ x < n) ∧ ∀ (i : Nat) x y, xs[i]? = some x → xs[i + 1]? = some y → x < y := by
 unfold setOk at h
 rw [List.all_eq_true] at h
 refine ⟨fun i x hx => ?_, fun i x y hx hy => ?_⟩
 · have := h (x, i) (List.mem_zipIdx_iff_getElem?.2 hx)
   unfold stepUp at this
   rw [Bool.and_eq_true] at this
   exact inR_iff.1 this.1
 · have := h (y, i + 1) (List.mem_zipIdx_iff_getElem?.2 hy)
   unfold stepUp at this
   simp only [Nat.add_sub_cancel, hx] at this
   have h2 := ((Bool.and_eq_true _ _).mp this).2
   simp at h2
   exact h2
theorem setOk_ge {n : Int} {xs : List Int} (h : setOk n xs = true) : ∀ (i : Nat) x, xs[i]? = some x → (i : Int) ≤ x
 | 0, x, hx => by have := ((setOk_spec h).1 0 x hx).1; omega
 | i + 1, x, hx => by
  have hi : i < xs.length := by have := (List.getElem?_eq_some_iff.1 hx).1; omega
  have hy : xs[i]? = some xs[i] := by simp [hi]
  have := setOk_ge h i _ hy
  have := (setOk_spec h).2 i _ _ hy hx
  omega
theorem setOk_len {n : Int} {xs : List Int} (h : setOk n xs = true) (h0 : 0 ≤ n) : (xs.length : Int) ≤ n := by
 by_cases he : xs.length = 0
 · omega
 · have hx : xs[xs.length - 1]? = some (xs[xs.length - 1]'(by omega)) := List.getElem?_eq_getElem (by omega)
   have := setOk_ge h _ _ hx
   have := ((setOk_spec h).1 _ _ hx).2
   omega
theorem prev_get {xs : List Int} {i : Nat} (hi : i < xs.length) (h : 0 < i) : ∃ y, idx xs (IntKind.i64.wrap ((i : Int) - 1)) = some y ∧ xs[i - 1]? = some y ∨ 1000000000 ≤ i := by
 by_cases hb : 1000000000 ≤ i
 · exact ⟨0, .inr hb⟩
 · refine ⟨xs[i - 1]'(by omega), .inl ⟨?_, List.getElem?_eq_getElem (by omega)⟩⟩
   rw [wr' (by omega) (by omega), show ((i : Int) - 1) = ((i - 1 : Nat) : Int) from by omega, idx_nat]
   exact List.getElem?_eq_getElem (by omega)
theorem s_l1Rises_eq {xs : List Int} {n : Int} (h0 : 0 ≤ n) (h1 : n ≤ 1000000000) (hl : xs.length ≤ 1000000000) : s_l1Rises xs n = some (setOk n xs) := by
 unfold s_l1Rises
 rw [cnt_allP (f := s_l1Rises_b0 xs n) (r := false) (stepUp n xs) (xs := xs) rfl (fun i x hx => by
  have hi := (List.getElem?_eq_some_iff.1 hx).1
  unfold s_l1Rises_b0 stepUp
  rw [idx_nat, hx]
  simp only [Option.bind_some, wr' (z := n - 1) (by omega) (by omega), s_l1In_eq, inR_one]
  cases inR n x with
  | false => rfl
  | true =>
   by_cases hi0 : 0 < i
   · obtain ⟨y, ⟨e1, e2⟩ | e⟩ := prev_get hi hi0
     · have e3 : decide (x ≤ y) = !decide (y < x) := by rw [← decide_not]; exact decide_eq_decide.2 (by omega)
       simp only [e1, e2, show (0 : Int) < (i : Int) from by omega, hi0, decide_true, Bool.not_true, cond_false, cond_true, Option.bind_some, e3, Bool.true_and, Bool.false_or]
       cases decide (y < x) <;> rfl
     · omega
   · have : ¬ (0 : Int) < (i : Int) := by omega
     simp [hi0, this])]
 unfold setOk
 cases List.all xs.zipIdx (fun p => stepUp n xs p.2 p.1) <;> rfl
theorem s_l1Set_eq {xs : List Int} {n : Int} (h0 : 0 ≤ n) (h1 : n ≤ 1000000000) (hl : xs.length ≤ 1000000000) : s_l1Set xs n = some (setOk n xs) := by
 unfold s_l1Set
 rw [s_l1Rises_eq h0 h1 hl]
 by_cases h : (xs.length : Int) ≤ n
 · simp [h]
 · have : setOk n xs = false := by
    cases hs : setOk n xs with
    | false => rfl
    | true => exact absurd (setOk_len hs h0) h
   simp [h, this]
theorem i_isSet_eq {xs : List Int} {n : Int} (hl : xs.length ≤ 1000000000) : i_isSet xs n = some (setOk n xs) := by
 unfold i_isSet
 rw [cnt_allP (f := i_isSet_b0 xs n) (r := false) (stepUp n xs) (xs := xs) rfl (fun i x hx => by
  have hi := (List.getElem?_eq_some_iff.1 hx).1
  unfold i_isSet_b0 stepUp
  rw [idx_nat, hx]
  simp only [Option.bind_some, orE, not_inR]
  cases inR n x with
  | false => rfl
  | true =>
   by_cases hi0 : 0 < i
   · obtain ⟨y, ⟨e1, e2⟩ | e⟩ := prev_get hi hi0
     · have e3 : decide (x ≤ y) = !decide (y < x) := by rw [← decide_not]; exact decide_eq_decide.2 (by omega)
       simp only [e1, e2, show (0 : Int) < (i : Int) from by omega, hi0, decide_true, Bool.not_true, cond_false, cond_true, Option.bind_some, e3, Bool.true_and, Bool.false_or]
       cases decide (y < x) <;> rfl
     · omega
   · have : ¬ (0 : Int) < (i : Int) := by omega
     simp [hi0, this])]
 unfold setOk
 cases List.all xs.zipIdx (fun p => stepUp n xs p.2 p.1) <;> rfl
end Go.Proofs.Ytcmamhmpoinmnaa
set_option linter.unusedVariables false
set_option linter.unusedSimpArgs false
namespace Go.Proofs.Ytcmamhmpoinmnaa
open Go Go.Wk Go.Proofs
abbrev Asc (xs : List Int) : Prop := xs.Pairwise (· < ·)
theorem asc_eq : ∀ {xs ys : List Int}, Asc xs → Asc ys → (∀ z, z ∈ xs ↔ z ∈ ys) → xs = ys
 | [], [], _, _, _ => rfl
 | [], y :: ys, _, _, h => by have := (h y).2 (List.mem_cons_self ..); cases this
 | x :: xs, [], _, _, h => by have := (h x).1 (List.mem_cons_self ..); cases this
 | x :: xs, y :: ys, hx, hy, h => by
  have hx' := List.pairwise_cons.1 hx
  have hy' := List.pairwise_cons.1 hy
  have e : x = y := by
   have h1 := (h x).1 (List.mem_cons_self ..)
   have h2 := (h y).2 (List.mem_cons_self ..)
   rcases List.mem_cons.1 h1 with h1 | h1
   · exact h1
   · rcases List.mem_cons.1 h2 with h2 | h2
     · exact h2.symm
     · have := hx'.1 y h2
       have := hy'.1 x h1
       omega
  subst e
  congr 1
  refine asc_eq hx'.2 hy'.2 fun z => ?_
  have hz := h z
  rw [List.mem_cons, List.mem_cons] at hz
  constructor
  · intro hm
    have := hx'.1 z hm
    rcases hz.1 (.inr hm) with e | hm'
    · omega
    · exact hm'
  · intro hm
    have := hy'.1 z hm
    rcases hz.2 (.inr hm) with e | hm'
    · omega
    · exact hm'
theorem asc_of : ∀ {xs : List Int}, (∀ (i : Nat) x y, xs[i]? = some x → xs[i + 1]? = some y → x < y) → Asc xs
 | [], _ => List.Pairwise.nil
 | [x], _ => by simp
 | x :: y :: r, h => by
  have ih := asc_of (xs := y :: r) (fun i a b ha hb => h (i + 1) a b ha hb)
  have hxy := h 0 x y rfl rfl
  refine List.pairwise_cons.2 ⟨fun z hz => ?_, ih⟩
  rcases List.mem_cons.1 hz with rfl | hz
  · exact hxy
  · have := (List.pairwise_cons.1 ih).1 z hz
    omega
theorem setOk_iff {n : Int} {xs : List Int} : setOk n xs = true ↔ (∀ x ∈ xs, 0 ≤ x ∧ x < n) ∧ Asc xs := by
 constructor
 · intro h
   obtain ⟨h1, h2⟩ := setOk_spec h
   refine ⟨fun x hx => ?_, asc_of h2⟩
   obtain ⟨i, hi⟩ := List.mem_iff_getElem?.1 hx
   exact h1 i x hi
 · rintro ⟨h1, h2⟩
   unfold setOk
   rw [List.all_eq_true]
   rintro ⟨x, i⟩ hx
   have hx := List.mem_zipIdx_iff_getElem?.1 hx
   dsimp only at hx ⊢
   unfold stepUp
   rw [Bool.and_eq_true]
   refine ⟨inR_iff.2 (h1 x (List.mem_of_getElem? hx)), ?_⟩
   by_cases hi : 0 < i
   · have hlt := (List.getElem?_eq_some_iff.1 hx).1
     have hy : xs[i - 1]? = some (xs[i - 1]'(by omega)) := List.getElem?_eq_getElem (by omega)
     have := List.pairwise_iff_getElem.1 h2 (i - 1) i (by omega) hlt (by omega)
     rw [(List.getElem?_eq_some_iff.1 hx).2] at this
     rw [hy]
     simp [this]
   · simp [hi]
theorem asc_get {xs : List Int} (h : Asc xs) {i j : Nat} {x y : Int} (hi : xs[i]? = some x) (hj : xs[j]? = some y) (hij : i < j) : x < y := by
 obtain ⟨h1, e1⟩ := List.getElem?_eq_some_iff.1 hi
 obtain ⟨h2, e2⟩ := List.getElem?_eq_some_iff.1 hj
 rw [← e1, ← e2]
 exact List.pairwise_iff_getElem.1 h i j h1 h2 hij
theorem asc_nodup {xs : List Int} (h : Asc xs) : xs.Nodup := List.Pairwise.imp (fun h e => by omega) h
theorem sort_asc {xs : List Int} (h : xs.Nodup) : Asc (xs.mergeSort fun x y => decide (x ≤ y)) := by
 have h1 : (xs.mergeSort fun x y => decide (x ≤ y)).Pairwise (fun a b => decide (a ≤ b) = true) := List.pairwise_mergeSort (fun a b c h1 h2 => by simp only [decide_eq_true_eq] at *; omega) (fun a b => by simp only [Bool.or_eq_true, decide_eq_true_eq]; omega) xs
 have h2 : (xs.mergeSort fun x y => decide (x ≤ y)).Nodup := (List.mergeSort_perm xs _).nodup_iff.2 h
 have h3 := List.Pairwise.and h1 h2
 exact h3.imp fun ⟨ha, hb⟩ => by
  simp only [decide_eq_true_eq] at ha
  have : ∀ {a b : Int}, a ≤ b → a ≠ b → a < b := fun h1 h2 => by omega
  exact this ha hb
def ins (n : Int) (xs : List Int) : List Int := xs.filter (fun x => decide (x < n)) ++ n :: xs.filter (fun x => decide (n < x))
theorem ins_mem {n : Int} {xs : List Int} (hn : n ∉ xs) (z : Int) : z ∈ ins n xs ↔ z = n ∨ z ∈ xs := by
 unfold ins
 simp only [List.mem_append, List.mem_cons, List.mem_filter, decide_eq_true_eq]
 constructor
 · rintro (⟨h, _⟩ | rfl | ⟨h, _⟩)
   · exact .inr h
   · exact .inl rfl
   · exact .inr h
 · rintro (rfl | h)
   · exact .inr (.inl rfl)
   · rcases Int.lt_trichotomy z n with hlt | heq | hgt
     · exact .inl ⟨h, hlt⟩
     · exact absurd (heq ▸ h) hn
     · exact .inr (.inr ⟨h, hgt⟩)
theorem ins_asc {n : Int} {xs : List Int} (h : Asc xs) : Asc (ins n xs) := by
 unfold ins
 refine List.pairwise_append.2 ⟨h.filter _, List.pairwise_cons.2 ⟨fun z hz => ?_, h.filter _⟩, fun a ha b hb => ?_⟩
 · simp only [List.mem_filter, decide_eq_true_eq] at hz; exact hz.2
 · simp only [List.mem_filter, decide_eq_true_eq] at ha
   rcases List.mem_cons.1 hb with rfl | hb
   · exact ha.2
   · simp only [List.mem_filter, decide_eq_true_eq] at hb; omega
theorem ins_cut {n : Int} {xs : List Int} (h : Asc xs) (hn : n ∉ xs) {k : Nat} (hk : k ≤ xs.length) (h1 : ∀ (i : Nat) x, i < k → xs[i]? = some x → x < n) (h2 : ∀ x, xs[k]? = some x → n < x) : xs.take k ++ n :: xs.drop k = ins n xs := by
 refine asc_eq ?_ (ins_asc h) fun z => ?_
 · have hT : ∀ z ∈ xs.take k, z < n := fun z hz => by
    obtain ⟨i, hi⟩ := List.mem_iff_getElem?.1 hz
    rw [List.getElem?_take] at hi
    split at hi
    · rename_i hik; exact h1 i z hik hi
    · cases hi
   have hD : ∀ z ∈ xs.drop k, n < z := fun z hz => by
    obtain ⟨i, hi⟩ := List.mem_iff_getElem?.1 hz
    rw [List.getElem?_drop] at hi
    have hlt := (List.getElem?_eq_some_iff.1 hi).1
    have hx : xs[k]? = some (xs[k]'(by omega)) := List.getElem?_eq_getElem (by omega)
    have := h2 _ hx
    rcases Nat.eq_zero_or_pos i with e | e
    · subst e
      rw [Nat.add_zero, hx] at hi
      cases hi; exact this
    · have := asc_get h hx hi (by omega)
      omega
   refine List.pairwise_append.2 ⟨h.sublist (List.take_sublist ..), List.pairwise_cons.2 ⟨hD, h.sublist (List.drop_sublist ..)⟩, fun a ha b hb => ?_⟩
   have := hT a ha
   rcases List.mem_cons.1 hb with rfl | hb
   · exact this
   · have := hD b hb; omega
 · rw [ins_mem hn, List.mem_append, List.mem_cons]
   have : z ∈ xs ↔ z ∈ xs.take k ∨ z ∈ xs.drop k := by rw [← List.mem_append, List.take_append_drop]
   rw [this]
   constructor
   · rintro (h | h | h)
     · exact .inr (.inl h)
     · exact .inl h
     · exact .inr (.inr h)
   · rintro (h | h | h)
     · exact .inr (.inl h)
     · exact .inl h
     · exact .inr (.inr h)
end Go.Proofs.Ytcmamhmpoinmnaa
set_option linter.unusedVariables false
set_option linter.unusedSimpArgs false
namespace Go.Proofs.Ytcmamhmpoinmnaa
open Go Go.Wk Go.Proofs
theorem less_eq (a b : Int) : cmp_Less_int64 a b = some (decide (a < b)) := by
 unfold cmp_Less_int64 cmp_isNaN_int64
 simp
theorem mid_eq {i j : Int} (h0 : 0 ≤ i) (h1 : 0 ≤ j) (h2 : i + j ≤ 1000000) : IntKind.i64.wrap (Int.fdiv (IntKind.u64.wrap (IntKind.i64.wrap (i + j))) (2 ^ (min (Int.toNat 1) (IntKind.bits IntKind.u64)))) = (i + j) / 2 := by
 have e1 : (2 : Int) ^ (min (Int.toNat 1) (IntKind.bits IntKind.u64)) = 2 := by decide
 have e2 : IntKind.u64.wrap (i + j) = i + j := by rw [IntKind.wrap_u64]; omega
 rw [e1, wr' (z := i + j) (by omega) (by omega), e2, fdiv_pos (by omega), wr' (by omega) (by omega)]
theorem search_eq {xs : List Int} (h : Asc xs) (hl : xs.length ≤ 100000) (x : Int) : ∃ p, slices_BinarySearch_I_int64 xs x = some (p, decide (x ∈ xs)) := by
 obtain ⟨o, w1, w2⟩ := while_out (f := slices_BinarySearch_I_int64_b0 xs x) (fun c (s : Int × Int) => 0 ≤ s.1 ∧ s.1 ≤ s.2 ∧ s.2 ≤ xs.length ∧ s.2 - s.1 + c ≤ xs.length ∧ (∀ (k : Nat) y, (k : Int) < s.1 → xs[k]? = some y → y < x) ∧ (∀ (k : Nat) y, s.2 ≤ (k : Int) → xs[k]? = some y → x ≤ y)) (fun _ => False)
  (fun s => s.1 = s.2 ∧ 0 ≤ s.1 ∧ s.2 ≤ xs.length ∧ (∀ (k : Nat) y, (k : Int) < s.1 → xs[k]? = some y → y < x) ∧ (∀ (k : Nat) y, s.2 ≤ (k : Int) → xs[k]? = some y → x ≤ y)) xs.length
  (fun c s ⟨i0, i1, i2, i3, i4, i5⟩ => by
   obtain ⟨i, j⟩ := s
   dsimp only at i0 i1 i2 i3 i4 i5 ⊢
   unfold slices_BinarySearch_I_int64_b0
   dsimp only
   by_cases hlt : i < j
   · have hm := mid_eq (i := i) (j := j) i0 (by omega) (by omega)
     obtain ⟨y, hy, _⟩ := get_el (xs := xs) (z := (i + j) / 2) (by omega) (by omega)
     simp only [hlt, decide_true, cond_true, hm, hy, Option.bind_some, less_eq]
     obtain ⟨m, hmn⟩ := ex_nat (z := (i + j) / 2) (by omega)
     rw [hmn, idx_nat] at hy
     rw [hmn]
     by_cases hyx : y < x
     · simp only [hyx, decide_true, cond_true, Option.bind_some]
       rw [wr' (by omega) (by omega)]
       refine ⟨_, rfl, by omega, ?_, ?_, ?_, ?_, ?_, i5⟩
       · dsimp only; omega
       · dsimp only; omega
       · dsimp only; omega
       · dsimp only; omega
       · intro k z hk hz
         dsimp only at hk
         by_cases hkm : k = m
         · subst hkm; rw [hy] at hz; cases hz; exact hyx
         · have := asc_get h hz hy (by omega); omega
     · simp only [hyx, decide_false, cond_false, Option.bind_some]
       refine ⟨_, rfl, by omega, i0, ?_, ?_, ?_, i4, ?_⟩
       · dsimp only; omega
       · dsimp only; omega
       · dsimp only; omega
       · intro k z hk hz
         dsimp only at hk
         by_cases hkm : k = m
         · subst hkm; rw [hy] at hz; cases hz; omega
         · have := asc_get h hy hz (by omega); omega
   · simp only [hlt, decide_false, cond_false]
     exact ⟨_, rfl, by dsimp only; omega, i0, by dsimp only; omega, i4, i5⟩)
  (2 ^ 64) 0 (0, (xs.length : Int)) (by omega) ⟨Int.le_refl 0, by dsimp only; omega, by dsimp only; omega, by dsimp only; omega, fun k y hk => by dsimp only at hk; omega, fun k y hk hy => by have := (List.getElem?_eq_some_iff.1 hy).1; dsimp only at hk; omega⟩ (by omega)
 match o, w2 with
 | .inr s, ⟨e, i0, i2, i4, i5⟩ =>
  obtain ⟨i, j⟩ := s
  dsimp only at e i0 i2 i4 i5
  subst e
  obtain ⟨i, rfl⟩ := ex_nat i0
  refine ⟨(i : Int), ?_⟩
  unfold slices_BinarySearch_I_int64
  rw [w1, Option.bind_some, aft_inr]
  dsimp only
  by_cases hlt : (i : Int) < (xs.length : Int)
  · have hy : xs[i]? = some (xs[i]'(by omega)) := List.getElem?_eq_getElem (by omega)
    have hiy := i5 i _ (by omega) hy
    have hym := List.getElem_mem (show i < xs.length by omega)
    generalize xs[i]'(by omega) = y at hy hiy hym
    simp only [hlt, decide_true, cond_true, idx_nat, hy, Option.bind_some]
    by_cases hyx : y = x
    · subst hyx
      simp [hym]
    · have hb : (y == x) = false := by simp [hyx]
      have hno : x ∉ xs := fun hm => by
       obtain ⟨k, hk⟩ := List.mem_iff_getElem?.1 hm
       rcases Nat.lt_trichotomy k i with hki | hki | hki
       · have := i4 k x (by omega) hk; omega
       · subst hki; rw [hy] at hk; exact hyx (Option.some.inj hk)
       · have := asc_get h hy hk hki; omega
      unfold slices_isNaN_int64
      simp [hb, hno]
  · have hno : x ∉ xs := fun hm => by
     obtain ⟨k, hk⟩ := List.mem_iff_getElem?.1 hm
     have := (List.getElem?_eq_some_iff.1 hk).1
     have := i4 k x (by omega) hk
     omega
    simp [hlt, hno]
theorem lessOf_eq {xs ys : List Int} (h : Asc ys) (hl : ys.length ≤ 100000) (hx : xs.length ≤ 100000) : i_lessOf xs ys = some (xs.filter fun x => !decide (x ∈ ys)) := by
 unfold i_lessOf
 obtain ⟨s, h1, h2⟩ := cnt_inv (f := i_lessOf_b0 xs ys) (fun j s => s = (xs.take j).filter fun x => !decide (x ∈ ys)) xs.length (s := []) rfl (fun j s hj hs => by
  subst hs
  have hxj : xs[j]? = some xs[j] := by simp [hj]
  obtain ⟨p, hp⟩ := search_eq h hl xs[j]
  have hlen : ((xs.take j).filter fun x => !decide (x ∈ ys)).length ≤ 100000 := Nat.le_trans (List.length_filter_le ..) (by rw [List.length_take]; omega)
  unfold i_lessOf_b0
  rw [idx_nat, hxj, Option.bind_some, hp, Option.bind_some, List.take_add_one, hxj]
  simp only [Option.toList_some, List.filter_append]
  cases hd : decide (xs[j] ∈ ys) with
  | true =>
   refine ⟨_, rfl, ?_⟩
   simp only [decide_eq_true_eq] at hd
   simp [hd]
  | false =>
   simp only [Bool.not_false, cond_true]
   rw [app1 (by omega) rfl]
   refine ⟨_, rfl, ?_⟩
   simp only [decide_eq_false_iff_not] at hd
   simp [hd])
 rw [h1, h2, List.take_length]
 rfl
end Go.Proofs.Ytcmamhmpoinmnaa
set_option linter.unusedVariables false
set_option linter.unusedSimpArgs false
namespace Go.Proofs.Ytcmamhmpoinmnaa
open Go Go.Wk Go.Proofs
theorem into_eq {xs : List Int} (h : Asc xs) {n : Int} (hn : n ∉ xs) (hl : xs.length ≤ 100000) : s_l1Into xs n = some (ins n xs) := by
 obtain ⟨o, w1, w2⟩ := while_out (f := s_l1Into_b0 xs n) (fun j (s : Int) => s = (j : Int) ∧ j ≤ xs.length ∧ ∀ (i : Nat) x, i < j → xs[i]? = some x → x < n) (fun _ => False) (fun s => ∃ k : Nat, s = (k : Int) ∧ k ≤ xs.length ∧ (∀ (i : Nat) x, i < k → xs[i]? = some x → x < n) ∧ ∀ x, xs[k]? = some x → n < x) xs.length (fun j s ⟨e, hj, hall⟩ => by
  subst e
  unfold s_l1Into_b0
  by_cases hlt : (j : Int) < (xs.length : Int)
  · have hxj : xs[j]? = some (xs[j]'(by omega)) := List.getElem?_eq_getElem (by omega)
    have hm := List.getElem_mem (show j < xs.length by omega)
    generalize xs[j]'(by omega) = x at hxj hm
    simp only [hlt, decide_true, cond_true, idx_nat, hxj, Option.bind_some]
    by_cases hxn : x < n
    · simp only [hxn, decide_true, cond_true]
      refine ⟨_, rfl, by omega, by rw [wr' (by omega) (by omega)]; omega, by omega, fun i y hi hy => ?_⟩
      by_cases hij : i = j
      · subst hij; rw [hxj] at hy; cases hy; exact hxn
      · exact hall i y (by omega) hy
    · simp only [hxn, decide_false, cond_false]
      refine ⟨_, rfl, j, rfl, hj, hall, fun y hy => ?_⟩
      rw [hxj] at hy
      cases hy
      have : x ≠ n := fun e => hn (e ▸ hm)
      omega
  · simp only [hlt, decide_false, cond_false, Option.bind_some]
    exact ⟨_, rfl, j, rfl, hj, hall, fun y hy => by have := (List.getElem?_eq_some_iff.1 hy).1; omega⟩)
  (2 ^ 64) 0 0 (by omega) ⟨rfl, by omega, fun i x hi => by omega⟩ (by omega)
 match o, w2 with
 | .inr s, ⟨k, e, hk, h1, h2⟩ =>
  subst e
  unfold s_l1Into
  rw [w1, Option.bind_some, aft_inr]
  have hc : (Option.bind (bif decide ((k : Int) < (xs.length : Int)) then Option.bind (idx xs (k : Int)) fun x28 => some (x28 == n) else some false) fun p32 => bif p32 then some xs else
   Option.bind (subS xs 0 (k : Int)) fun x36 => Option.bind (s_l1Copy x36) fun x37 => Option.bind (appS 8 x37 [n]) fun x40 => Option.bind (subS xs (k : Int) (xs.length : Int)) fun x44 => Option.bind (appS 8 x40 x44) fun x45 => some x45) = some (xs.take k ++ [n] ++ xs.drop k) := by
   have hp : (bif decide ((k : Int) < (xs.length : Int)) then Option.bind (idx xs (k : Int)) fun x28 => some (x28 == n) else some false) = some false := by
    by_cases hlt : (k : Int) < (xs.length : Int)
    · have hxk : xs[k]? = some (xs[k]'(by omega)) := List.getElem?_eq_getElem (by omega)
      have := h2 _ hxk
      have hne : (xs[k]'(by omega) == n) = false := by
       rw [beq_eq_false_iff_ne]; omega
      simp only [hlt, decide_true, cond_true, idx_nat, hxk, Option.bind_some, hne]
    · simp only [hlt, decide_false, cond_false]
   have hs1 : subS xs 0 (k : Int) = some (xs.take k) := by
    unfold subS
    rw [if_pos (by omega), Int.toNat_natCast]; rfl
   have hs2 : subS xs (k : Int) (xs.length : Int) = some (xs.drop k) := by
    unfold subS
    rw [if_pos (by omega), Int.toNat_natCast, Int.toNat_natCast, List.take_length]
   have ht : (xs.take k).length ≤ 100000 := by rw [List.length_take]; omega
   rw [hp, Option.bind_some]
   simp only [cond_false]
   rw [hs1, Option.bind_some]
   unfold s_l1Copy
   rw [appL (by rw [List.length_nil]; omega) rfl, Option.bind_some, Option.bind_some, List.nil_append, app1 (by omega) rfl, Option.bind_some, hs2, Option.bind_some, appL (by rw [List.length_append, List.length_drop, List.length_singleton]; omega) rfl]
   rfl
  rw [hc, List.append_assoc, List.singleton_append, ins_cut h hn hk h1 h2]
theorem s_copy {xs : List Int} (hl : xs.length ≤ 10000000) : s_l1Copy xs = some xs := by
 unfold s_l1Copy
 rw [appL (by rw [List.length_nil]; omega) rfl]; rfl
end Go.Proofs.Ytcmamhmpoinmnaa
set_option linter.unusedVariables false
set_option linter.unusedSimpArgs false
namespace Go.Proofs.Ytcmamhmpoinmnaa
open Go Go.Wk Go.Proofs
def pairOk (n : Int) (x : Pair) : Bool := setOk n x.Ask && setOk n x.Give
def pairsOk (xs : List Pair) (n : Int) : Bool := decide ((xs.length : Int) ≤ 4) && xs.all (pairOk n)
section
variable {xs : List Pair} {n : Int} (h0 : 0 ≤ n) (h1 : n ≤ 256) (hb : ∀ x ∈ xs, x.Ask.length ≤ 1000000000 ∧ x.Give.length ≤ 1000000000)
include h0 h1 hb
omit hb in
theorem s_SetOk_eqD {s : List Int} (hl : s.length ≤ 1000000000) : s_SetOk s n = some (setOk n s) := by
 unfold s_SetOk
 rw [s_l1In_eq, s_l1Set_eq h0 (by omega) hl]
 simp [h0, h1]
theorem s_PairsOk_eqD : s_PairsOk xs n = some (pairsOk xs n) := by
 unfold s_PairsOk pairsOk
 rw [s_l1In_eq]
 simp only [h0, h1, decide_true, Bool.and_self, Option.bind_some, Bool.not_true, cond_false, gt_not]
 cases decide ((xs.length : Int) ≤ 4) with
 | false => rfl
 | true =>
  rw [cnt_all0 (f := s_PairsOk_b0 xs n) (r := false) (pairOk n) (xs := xs) rfl (fun i x hx => by
   obtain ⟨b1, b2⟩ := hb x (List.mem_of_getElem? hx)
   unfold s_PairsOk_b0 pairOk
   rw [idx_nat, hx]
   simp only [Option.bind_some, s_SetOk_eqD h0 h1 b1, s_SetOk_eqD h0 h1 b2]
   cases setOk n x.Ask <;> cases setOk n x.Give <;> rfl)]
  simp only [Bool.not_true, cond_false, Option.bind_some, Bool.true_and]
  cases xs.all (pairOk n) <;> rfl
omit h0 h1 in
theorem i_arePairs_eqD : i_arePairs xs n = some (pairsOk xs n) := by
 unfold i_arePairs pairsOk
 rw [cnt_all0 (f := i_arePairs_b0 xs n) (r := false) (pairOk n) (xs := xs) rfl (fun i x hx => by
  obtain ⟨b1, b2⟩ := hb x (List.mem_of_getElem? hx)
  unfold i_arePairs_b0 pairOk
  rw [idx_nat, hx]
  simp only [Option.bind_some, i_isSet_eq b1, i_isSet_eq b2]
  cases setOk n x.Ask <;> cases setOk n x.Give <;> rfl)]
 cases xs.all (pairOk n) <;> simp [aft]
end
end Go.Proofs.Ytcmamhmpoinmnaa
set_option linter.unusedVariables false
set_option linter.unusedSimpArgs false
namespace Go.Proofs.Ytcmamhmpoinmnaa
open Go Go.Wk Go.Proofs
theorem s_hasM {row : List Int} {v : Int} : s_l1Has row v = some (decide (v ∈ row)) := by
 unfold s_l1Has
 rw [cnt_all0 (f := s_l1Has_b0 row v) (r := true) (xs := row) (fun x => !(x == v)) rfl (fun i x hx => by
  unfold s_l1Has_b0
  rw [idx_nat, hx, Option.bind_some]
  cases x == v <;> rfl)]
 by_cases h : v ∈ row
 · have : (row.all fun x => !(x == v)) = false := by
    rw [List.all_eq_false]
    exact ⟨v, h, by simp⟩
   rw [this, decide_eq_true h]; rfl
 · have : (row.all fun x => !(x == v)) = true := by
    rw [List.all_eq_true]
    intro x hx
    have : x ≠ v := fun e => h (e ▸ hx)
    simp [this]
   rw [this, decide_eq_false h]; rfl
theorem into_in {xs : List Int} (h : Asc xs) {n : Int} (hn : n ∈ xs) (hl : xs.length ≤ 100000) : s_l1Into xs n = some xs := by
 obtain ⟨k, hk⟩ := List.getElem?_of_mem hn
 have hkl := (List.getElem?_eq_some_iff.1 hk).1
 obtain ⟨o, w1, w2⟩ := while_out (f := s_l1Into_b0 xs n) (fun j (s : Int) => s = (j : Int) ∧ j ≤ k) (fun _ => False) (fun s => s = (k : Int)) xs.length (fun j s ⟨e, hj⟩ => by
  subst e
  have hxj : xs[j]? = some (xs[j]'(by omega)) := List.getElem?_eq_getElem (by omega)
  generalize xs[j]'(by omega) = x at hxj
  unfold s_l1Into_b0
  rw [decide_eq_true (show (j : Int) < (xs.length : Int) by omega), cond_true, idx_nat, hxj, Option.bind_some, Option.bind_some]
  by_cases e : j = k
  · subst e
    rw [hxj] at hk
    cases hk
    rw [decide_eq_false (Int.lt_irrefl _), cond_false]
    exact ⟨_, rfl, rfl⟩
  · have := asc_get h hxj hk (by omega)
    rw [decide_eq_true this, cond_true]
    exact ⟨_, rfl, by omega, by rw [wr' (by omega) (by omega)]; omega, by omega⟩)
  (2 ^ 64) 0 0 (by omega) ⟨rfl, Nat.zero_le _⟩ (by omega)
 match o, w2 with
 | .inr s, e =>
  have e : s = (k : Int) := e
  subst e
  unfold s_l1Into
  rw [w1, Option.bind_some, aft_inr, decide_eq_true (show (k : Int) < (xs.length : Int) by omega), cond_true, idx_nat, hk, Option.bind_some, Option.bind_some]
  simp
theorem into_all {xs : List Int} (h : Asc xs) (n : Int) (hl : xs.length ≤ 100000) : ∃ R, s_l1Into xs n = some R ∧ Asc R ∧ ∀ z, z ∈ R ↔ z = n ∨ z ∈ xs := by
 by_cases hn : n ∈ xs
 · exact ⟨xs, into_in h hn hl, h, fun z => ⟨.inr, fun k => k.elim (fun e => e ▸ hn) id⟩⟩
 · exact ⟨_, into_eq h hn hl, ins_asc h, ins_mem hn⟩
structure St (n : Nat) (xs : List Int) : Prop where
 asc : Asc xs
 rng : ∀ x ∈ xs, 0 ≤ x ∧ x < n
theorem St.len {n : Nat} {xs : List Int} (h : St n xs) : xs.length ≤ n := nodup_lenN n xs (asc_nodup h.asc) h.rng
theorem St.ok {n : Nat} {xs : List Int} (h : St n xs) {m : Int} (hm : (n : Int) ≤ m) : setOk m xs = true := setOk_iff.2 ⟨fun x hx => by have := h.rng x hx; omega, h.asc⟩
theorem St.of {n : Nat} {xs : List Int} (h : setOk (n : Int) xs = true) : St n xs := ⟨(setOk_iff.1 h).2, (setOk_iff.1 h).1⟩
theorem St.filter {n : Nat} {xs : List Int} (h : St n xs) (p : Int → Bool) : St n (xs.filter p) := ⟨h.asc.filter _, fun x hx => h.rng x (List.mem_filter.1 hx).1⟩
section
variable {n : Nat} {xs ys : List Int} (hn : n ≤ 256) (hx : St n xs) (hy : St n ys)
include hn hx hy
theorem s_l2Both_eq : s_l2Both xs ys = some true := by
 have a := hx.len
 have b := hy.len
 unfold s_l2Both
 rw [s_SetOk_eqD (by omega) (by omega) (by omega), hx.ok (by omega), Option.bind_some, cond_true, s_SetOk_eqD (by omega) (by omega) (by omega), hy.ok (by omega)]
 rfl
theorem s_MeetOf_eq : s_MeetOf xs ys = some (xs.filter fun x => decide (x ∈ ys)) := by
 have a := hx.len
 unfold s_MeetOf
 rw [s_l2Both_eq hn hx hy, Option.bind_some, Bool.not_true, cond_false]
 obtain ⟨s, h1, h2⟩ := cnt_inv (f := s_MeetOf_b0 xs ys) (fun j s => s = (xs.take j).filter fun x => decide (x ∈ ys)) xs.length (s := []) rfl (fun j s hj hs => by
  subst hs
  have hxj : xs[j]? = some xs[j] := by simp [hj]
  generalize xs[j] = x at hxj
  have hlen : ((xs.take j).filter fun x => decide (x ∈ ys)).length ≤ 100000 := Nat.le_trans (List.length_filter_le ..) (by rw [List.length_take]; omega)
  unfold s_MeetOf_b0
  rw [idx_nat, hxj, Option.bind_some, s_hasM, Option.bind_some, List.take_add_one, hxj]
  simp only [Option.toList_some, List.filter_append]
  by_cases hd : x ∈ ys
  · simp only [decide_eq_true hd, cond_true, Option.bind_some]
    rw [app1 (by omega) rfl]
    exact ⟨_, rfl, by simp [hd]⟩
  · simp only [decide_eq_false hd, cond_false]
    exact ⟨_, rfl, by simp [hd]⟩)
 rw [h1, h2, List.take_length]
 rfl
theorem s_LessOf_eq : s_LessOf xs ys = some (xs.filter fun x => !decide (x ∈ ys)) := by
 have a := hx.len
 unfold s_LessOf
 rw [s_l2Both_eq hn hx hy, Option.bind_some, Bool.not_true, cond_false]
 obtain ⟨s, h1, h2⟩ := cnt_inv (f := s_LessOf_b0 xs ys) (fun j s => s = (xs.take j).filter fun x => !decide (x ∈ ys)) xs.length (s := []) rfl (fun j s hj hs => by
  subst hs
  have hxj : xs[j]? = some xs[j] := by simp [hj]
  generalize xs[j] = x at hxj
  have hlen : ((xs.take j).filter fun x => !decide (x ∈ ys)).length ≤ 100000 := Nat.le_trans (List.length_filter_le ..) (by rw [List.length_take]; omega)
  unfold s_LessOf_b0
  rw [idx_nat, hxj, Option.bind_some, s_hasM, Option.bind_some, List.take_add_one, hxj]
  simp only [Option.toList_some, List.filter_append]
  by_cases hd : x ∈ ys
  · simp only [decide_eq_true hd, Bool.not_true, cond_false]
    exact ⟨_, rfl, by simp [hd]⟩
  · simp only [decide_eq_false hd, Bool.not_false, cond_true, Option.bind_some]
    rw [app1 (by omega) rfl]
    exact ⟨_, rfl, by simp [hd]⟩)
 rw [h1, h2, List.take_length]
 rfl
theorem s_BothOf_eq : ∃ R, s_BothOf xs ys = some R ∧ St n R ∧ ∀ z, z ∈ R ↔ z ∈ xs ∨ z ∈ ys := by
 have a := hx.len
 unfold s_BothOf
 rw [s_l2Both_eq hn hx hy, Option.bind_some, Bool.not_true, cond_false, s_copy (by omega), Option.bind_some]
 obtain ⟨s, h1, h2, h3⟩ := cnt_inv (f := s_BothOf_b0 ys) (fun j s => St n s ∧ ∀ z, z ∈ s ↔ z ∈ xs ∨ z ∈ ys.take j) ys.length (s := xs) ⟨hx, fun z => by simp⟩ (fun j s hj ⟨a1, a2⟩ => by
  have hyj : ys[j]? = some ys[j] := by simp [hj]
  generalize ys[j] = y at hyj
  obtain ⟨R, r1, r2, r3⟩ := into_all a1.asc y (by have := a1.len; omega)
  unfold s_BothOf_b0
  rw [idx_nat, hyj, Option.bind_some, r1, Option.bind_some]
  refine ⟨_, rfl, ⟨r2, fun x hxR => ?_⟩, fun z => ?_⟩
  · rcases (r3 x).1 hxR with e | e
    · subst e; exact hy.rng x (List.mem_of_getElem? hyj)
    · exact a1.rng x e
  · rw [r3, a2, List.take_add_one, hyj]
    simp only [Option.toList_some, List.mem_append, List.mem_singleton]
    constructor
    · rintro (h | h | h) <;> simp [h]
    · rintro (h | h | h) <;> simp [h])
 rw [List.take_length] at h3
 rw [h1, Option.bind_some, aft_inr]
 exact ⟨s, rfl, h2, h3⟩
end
end Go.Proofs.Ytcmamhmpoinmnaa
set_option linter.unusedVariables false
set_option linter.unusedSimpArgs false
namespace Go.Proofs.Ytcmamhmpoinmnaa.Par
open Classical
structure Gm where
 own : Int → Bool
 pri : Int → Int
 E : Int → Int → Prop
variable (G : Gm)
def oddP (d : Int) : Bool := decide (d % 2 = 1)
def Play (p : Bool) (D : Int → Prop) (σ : Int → Int) (π : Nat → Int) : Prop := ∀ n, D (π n) ∧ G.E (π n) (π (n + 1)) ∧ (G.own (π n) = p → π (n + 1) = σ (π n))
def Wins (p : Bool) (π : Nat → Int) : Prop := ∃ d, oddP d = p ∧ (∀ N, ∃ n, N ≤ n ∧ G.pri (π n) = d) ∧ ∃ N, ∀ n, N ≤ n → G.pri (π n) ≤ d
def Dom (X : Int → Prop) (p : Bool) (D : Int → Prop) : Prop := ∃ σ : Int → Int, (∀ v, D v → X v) ∧ (∀ v, D v → G.own v = p → G.E v (σ v) ∧ D (σ v)) ∧ (∀ v u, D v → ¬ G.own v = p → G.E v u → X u → D u) ∧ ∀ π, Play G p D σ π → Wins G p π
structure IsAttr (X : Int → Prop) (p : Bool) (S A : Int → Prop) : Prop where
 sub : ∀ v, A v → X v
 base : ∀ v, X v → S v → A v
 rank : ∃ r : Int → Nat, ∀ v, A v → S v ∨ (G.own v = p ∧ ∃ u, G.E v u ∧ A u ∧ r u < r v) ∨ (¬ G.own v = p ∧ ∀ u, G.E v u → X u → A u ∧ r u < r v)
 mine : ∀ v u, X v → ¬ A v → G.own v = p → G.E v u → X u → ¬ A u
 yours : ∀ v, X v → ¬ A v → ¬ G.own v = p → ∃ u, G.E v u ∧ X u ∧ ¬ A u
def Mn (X A : Int → Prop) : Int → Prop := fun v => X v ∧ ¬ A v
variable {G} {X : Int → Prop} {p : Bool} {S A D D' : Int → Prop}
theorem Wins.tail {π : Nat → Int} (k : Nat) (h : Wins G p (fun n => π (n + k))) : Wins G p π := by
 obtain ⟨d, h1, h2, N, h3⟩ := h
 refine ⟨d, h1, fun M => ?_, N + k, fun n hn => ?_⟩
 · obtain ⟨n, hn, he⟩ := h2 M
   exact ⟨n + k, by omega, he⟩
 · have := h3 (n - k) (by omega)
   dsimp only at this
   rwa [show n - k + k = n from by omega] at this
theorem Play.tail {σ : Int → Int} {π : Nat → Int} (h : Play G p D σ π) (k : Nat) : Play G p D σ (fun n => π (n + k)) := fun n => by
 have := h (n + k)
 rwa [show n + k + 1 = n + 1 + k from by omega] at this
theorem Dom.empty : Dom G X p (fun _ => False) := ⟨id, fun _ h => h.elim, fun _ h => h.elim, fun _ _ h => h.elim, fun π h => (h 0).1.elim⟩
theorem Dom.congr (h : Dom G X p D) (e : ∀ v, D v ↔ D' v) : Dom G X p D' := by
 have : D = D' := funext fun v => propext (e v)
 exact this ▸ h
theorem descent {r : Nat → Nat} (h : ∀ n, r (n + 1) < r n) : False := by
 have : ∀ n, r n + n ≤ r 0 := fun n => by
  induction n with
  | zero => omega
  | succ n ih => have := h n; omega
 have := this (r 0 + 1)
 omega
theorem Dom.grow (h1 : Dom G X p D) (hA : IsAttr G X p D A) (h2 : Dom G (Mn X A) p D') : Dom G X p (fun v => A v ∨ D' v) := by
 obtain ⟨σ, a1, a2, a3, a4⟩ := h1
 obtain ⟨τ, b1, b2, b3, b4⟩ := h2
 obtain ⟨r, hr⟩ := hA.rank
 have hDA : ∀ v, D v → A v := fun v hv => hA.base v (a1 v hv) hv
 let f : Int → Int := fun v => if D v then σ v else if h : ∃ u, G.E v u ∧ A u ∧ r u < r v then h.choose else τ v
 have fD : ∀ v, D v → f v = σ v := fun v hv => if_pos hv
 have fA : ∀ v, A v → ¬ D v → G.own v = p → G.E v (f v) ∧ A (f v) ∧ r (f v) < r v := fun v hv hd ho => by
  rcases hr v hv with h | ⟨_, h⟩ | ⟨h, _⟩
  · exact absurd h hd
  · have e : f v = h.choose := by show (if D v then _ else _) = _; rw [if_neg hd, dif_pos h]
    rw [e]; exact h.choose_spec
  · exact absurd ho h
 have fT : ∀ v, D' v → G.own v = p → f v = τ v := fun v hv ho => by
  obtain ⟨hx, ha⟩ := b1 v hv
  have : ¬ ∃ u, G.E v u ∧ A u ∧ r u < r v := fun ⟨u, k1, k2, _⟩ => hA.mine v u hx ha ho k1 (hA.sub u k2) k2
  show (if D v then _ else _) = _
  rw [if_neg (fun h => ha (hDA v h)), dif_neg this]
 refine ⟨f, ?_, ?_, ?_, ?_⟩
 · rintro v (h | h)
   · exact hA.sub v h
   · exact (b1 v h).1
 · rintro v (h | h) ho
   · by_cases hd : D v
     · rw [fD v hd]; exact ⟨(a2 v hd ho).1, .inl (hDA _ (a2 v hd ho).2)⟩
     · exact ⟨(fA v h hd ho).1, .inl (fA v h hd ho).2.1⟩
   · rw [fT v h ho]; exact ⟨(b2 v h ho).1, .inr (b2 v h ho).2⟩
 · rintro v u (h | h) ho he hx
   · by_cases hd : D v
     · exact .inl (hDA u (a3 v u hd ho he hx))
     · rcases hr v h with h' | ⟨h', _⟩ | ⟨_, h'⟩
       · exact absurd h' hd
       · exact absurd h' ho
       · exact .inl (h' u he hx).1
   · by_cases ha : A u
     · exact .inl ha
     · exact .inr (b3 v u h ho he ⟨hx, ha⟩)
 · intro π hπ
   have hX : ∀ n, X (π n) := fun n => by
    rcases (hπ n).1 with h | h
    · exact hA.sub _ h
    · exact (b1 _ h).1
   by_cases hD : ∃ n, D (π n)
   · obtain ⟨n, hn⟩ := hD
     have st : ∀ k, D (π (k + n)) := fun k => by
      induction k with
      | zero => rwa [Nat.zero_add]
      | succ k ih =>
       have e : k + 1 + n = k + n + 1 := by omega
       by_cases ho : G.own (π (k + n)) = p
       · have := (hπ (k + n)).2.2 ho
         rw [fD _ ih] at this
         rw [e, this]
         exact (a2 _ ih ho).2
       · rw [e]; exact a3 _ _ ih ho (hπ (k + n)).2.1 (hX _)
     refine Wins.tail n (a4 _ fun k => ⟨st k, ?_, fun ho => ?_⟩)
     · have := (hπ (k + n)).2.1
       rwa [show k + n + 1 = k + 1 + n from by omega] at this
     · have := (hπ (k + n)).2.2 ho
       rw [fD _ (st k), show k + n + 1 = k + 1 + n from by omega] at this
       exact this
   · have hD : ∀ n, ¬ D (π n) := fun n h => hD ⟨n, h⟩
     by_cases hA' : ∃ n, A (π n)
     · obtain ⟨n, hn⟩ := hA'
       have step : ∀ m, A (π m) → A (π (m + 1)) ∧ r (π (m + 1)) < r (π m) := fun m hm => by
        by_cases ho : G.own (π m) = p
        · rw [(hπ m).2.2 ho]; exact (fA _ hm (hD m) ho).2
        · rcases hr _ hm with h' | ⟨h', _⟩ | ⟨_, h'⟩
          · exact absurd h' (hD m)
          · exact absurd h' ho
          · exact h' _ (hπ m).2.1 (hX _)
       have st : ∀ k, A (π (k + n)) := fun k => by
        induction k with
        | zero => rwa [Nat.zero_add]
        | succ k ih => rw [show k + 1 + n = k + n + 1 from by omega]; exact (step _ ih).1
       exact (descent (r := fun k => r (π (k + n))) fun k => by
        have := (step _ (st k)).2
        rwa [show k + n + 1 = k + 1 + n from by omega] at this).elim
     · have hT : ∀ n, D' (π n) := fun n => (hπ n).1.resolve_left fun h => hA' ⟨n, h⟩
       refine b4 π fun n => ⟨hT n, (hπ n).2.1, fun ho => ?_⟩
       rw [(hπ n).2.2 ho, fT _ (hT n) ho]
structure Sol (G : Gm) (X : Int → Prop) (p : Bool) (W : Int → Prop) : Prop where
 sub : ∀ v, W v → X v
 mine : Dom G X p W
 yours : Dom G X (!p) (Mn X W)
theorem Sol.congr {W W' : Int → Prop} (h : Sol G X p W) (e : ∀ v, W v ↔ W' v) : Sol G X p W' := by
 have : W = W' := funext fun v => propext (e v)
 exact this ▸ h
end Go.Proofs.Ytcmamhmpoinmnaa.Par
set_option linter.unusedVariables false
set_option linter.unusedSimpArgs false
namespace Go.Proofs.Ytcmamhmpoinmnaa
open Go Go.Wk Go.Proofs
theorem idx_setI {α : Type} {xs ys : List α} {i v : Int} {x : α} (h : setI xs i x = some ys) : idx ys v = if v = i then some x else idx xs v := by
 obtain ⟨h0, h1, rfl, _⟩ := setI_ok h
 unfold idx
 by_cases hv : 0 ≤ v
 · rw [if_pos hv, if_pos hv]
   by_cases e : v = i
   · subst e
     rw [if_pos rfl, List.getElem?_set_self (by omega)]
   · rw [if_neg e, List.getElem?_set_ne (by omega)]
 · rw [if_neg hv, if_neg hv, if_neg (by omega)]
theorem setI_some {α : Type} {xs : List α} {i : Int} (x : α) (h0 : 0 ≤ i) (h1 : i < xs.length) : ∃ ys, setI xs i x = some ys ∧ ys.length = xs.length := by
 have : setI xs i x = some (xs.set i.toNat x) := by unfold setI; rw [if_pos ⟨h0, h1⟩]
 exact ⟨_, this, (setI_ok this).2.2.2⟩
theorem idx_some {α : Type} {xs : List α} {i : Int} (h0 : 0 ≤ i) (h1 : i < xs.length) : ∃ x, idx xs i = some x := by
 obtain ⟨x, h, _⟩ := get_el h0 h1
 exact ⟨x, h⟩
theorem idx_rng {α : Type} {xs : List α} {i : Int} {x : α} (h : idx xs i = some x) : 0 ≤ i ∧ i < xs.length := ⟨(idx_ok h).1, (idx_ok h).2.1⟩
def In (B : List Bool) (v : Int) : Prop := idx B v = some true
section
variable (row : Int → List Int) (own : Int → Bool) (pri : Int → Int) (inn : Int → Prop) (p : Bool) (goal : Int → Prop)
structure Cert (Q : List Int) : Prop where
 nd : Q.Nodup
 mem : ∀ v ∈ Q, inn v
 why : ∀ (k : Nat) v, Q[k]? = some v → goal v ∨ (own v = p ∧ ∃ u ∈ Q.take k, u ∈ row v) ∨ (¬ own v = p ∧ ∀ u ∈ row v, inn u → u ∈ Q.take k)
variable {row own pri inn p goal}
theorem Cert.snoc {Q : List Int} (h : Cert row own inn p goal Q) {v : Int} (hv : v ∉ Q) (hi : inn v) (hw : goal v ∨ (own v = p ∧ ∃ u ∈ Q, u ∈ row v) ∨ (¬ own v = p ∧ ∀ u ∈ row v, inn u → u ∈ Q)) : Cert row own inn p goal (Q ++ [v]) := by
 refine ⟨?_, ?_, ?_⟩
 · rw [List.nodup_append]
   exact ⟨h.nd, by simp, fun a ha b hb => by simp at hb; subst hb; exact fun e => hv (e ▸ ha)⟩
 · intro x hx
   rcases List.mem_append.1 hx with hx | hx
   · exact h.mem x hx
   · simp at hx; subst hx; exact hi
 · intro k x hk
   by_cases hlt : k < Q.length
   · rw [List.getElem?_append_left hlt] at hk
     rw [List.take_append_of_le_length (by omega)]
     exact h.why k x hk
   · have : k = Q.length := by
      have := (List.getElem?_eq_some_iff.1 hk).1
      simp at this; omega
     subst this
     rw [List.getElem?_append_right (Nat.le_refl _), Nat.sub_self] at hk
     simp at hk
     subst hk
     rw [List.take_append_of_le_length (Nat.le_refl _), List.take_length]
     exact hw
def Trap (row : Int → List Int) (own : Int → Bool) (inn : Int → Prop) (p : Bool) (Q : List Int) (d : Int → Int → Prop) : Prop := ∀ v, inn v → v ∉ Q → (own v = p → ∀ y ∈ row v, inn y → ¬ d v y) ∧ (¬ own v = p → ∃ y ∈ row v, inn y ∧ ¬ d v y)
end
open Classical in
noncomputable def lf (row : List Int) (inn d : Int → Prop) : Nat := (row.filter (fun y => decide (inn y ∧ ¬ d y))).length
theorem lf_zero {row : List Int} {inn d : Int → Prop} : lf row inn d = 0 ↔ ∀ y ∈ row, inn y → d y := by
 classical
 unfold lf
 rw [List.length_eq_zero_iff, List.filter_eq_nil_iff]
 constructor
 · intro h y hy hi
   by_cases hd : d y
   · exact hd
   · exact absurd (by simp; exact ⟨hi, hd⟩) (h y hy)
 · intro h y hy hc
   simp at hc
   exact hc.2 (h y hy hc.1)
def dn (T : List Int) (u : Int) (L : List Int) (v y : Int) : Prop := y ∈ T ∨ (y = u ∧ v ∈ L)
structure Mid (row : Int → List Int) (own : Int → Bool) (inn : Int → Prop) (p : Bool) (goal : Int → Prop) (T : List Int) (u : Int) (L Q : List Int) : Prop where
 cert : Cert row own inn p goal Q
 hu : ∃ R, Q = T ++ u :: R
 trap : Trap row own inn p Q (dn T u L)
section
variable {row : Int → List Int} {own : Int → Bool} {inn : Int → Prop} {p : Bool} {goal : Int → Prop} {T : List Int} {u : Int} {L Q : List Int}
theorem Mid.u_in (h : Mid row own inn p goal T u L Q) : u ∈ Q ∧ u ∉ T ∧ inn u := by
 obtain ⟨R, e⟩ := h.hu
 have hq : u ∈ Q := by rw [e]; simp
 refine ⟨hq, ?_, h.cert.mem u hq⟩
 have := h.cert.nd
 rw [e, List.nodup_append] at this
 exact fun ht => this.2.2 u ht u (by simp) rfl
theorem dn_other {v w y : Int} (h : w ≠ v) : dn T u (L ++ [v]) w y ↔ dn T u L w y := by
 unfold dn
 rw [List.mem_append, List.mem_singleton]
 constructor
 · rintro (h1 | ⟨h1, h2 | h2⟩)
   · exact .inl h1
   · exact .inr ⟨h1, h2⟩
   · exact absurd h2 h
 · rintro (h1 | ⟨h1, h2⟩)
   · exact .inl h1
   · exact .inr ⟨h1, .inl h2⟩
theorem dn_self0 {v y : Int} (h : v ∉ L) : dn T u L v y ↔ y ∈ T := by
 unfold dn; simp [h]
theorem Mid.skip (h : Mid row own inn p goal T u L Q) {v : Int} (hv : ¬ inn v ∨ v ∈ Q ∨ u ∉ row v) : Mid row own inn p goal T u (L ++ [v]) Q := by
 refine ⟨h.cert, h.hu, fun w hw hq => ?_⟩
 obtain ⟨t1, t2⟩ := h.trap w hw hq
 by_cases e : w = v
 · subst e
   have hu : u ∉ row w := by
    rcases hv with hv | hv | hv
    · exact absurd hw hv
    · exact absurd hv hq
    · exact hv
   have key : ∀ y ∈ row w, (dn T u (L ++ [w]) w y ↔ dn T u L w y) := fun y hy => by
    have hyu : y ≠ u := fun e => hu (e ▸ hy)
    unfold dn; simp [hyu]
   refine ⟨fun ho y hy hi => fun hd => t1 ho y hy hi ((key y hy).1 hd), fun ho => ?_⟩
   obtain ⟨y, h1, h2, h3⟩ := t2 ho
   exact ⟨y, h1, h2, fun hd => h3 ((key y h1).1 hd)⟩
 · refine ⟨fun ho y hy hi => fun hd => t1 ho y hy hi ((dn_other e).1 hd), fun ho => ?_⟩
   obtain ⟨y, h1, h2, h3⟩ := t2 ho
   exact ⟨y, h1, h2, fun hd => h3 ((dn_other e).1 hd)⟩
theorem Mid.add (h : Mid row own inn p goal T u L Q) {v : Int} (hi : inn v) (hq : v ∉ Q) (hu : u ∈ row v) (hw : own v = p ∨ lf (row v) inn (fun y => y ∈ T ∨ y = u) = 0) : Mid row own inn p goal T u (L ++ [v]) (Q ++ [v]) := by
 obtain ⟨R, e⟩ := h.hu
 have hTQ : ∀ y, y ∈ T ∨ y = u → y ∈ Q := fun y hy => by
  rw [e]
  rcases hy with hy | hy
  · simp [hy]
  · simp [hy]
 refine ⟨h.cert.snoc hq hi ?_, ⟨R ++ [v], by rw [e]; simp⟩, fun w hw' hq' => ?_⟩
 · by_cases ho : own v = p
   · exact .inr (.inl ⟨ho, u, h.u_in.1, hu⟩)
   · exact .inr (.inr ⟨ho, fun y hy hyi => hTQ y ((lf_zero.1 (hw.resolve_left ho)) y hy hyi)⟩)
 · rw [List.mem_append, List.mem_singleton, not_or] at hq'
   obtain ⟨t1, t2⟩ := h.trap w hw' hq'.1
   refine ⟨fun ho y hy hi => fun hd => t1 ho y hy hi ((dn_other hq'.2).1 hd), fun ho => ?_⟩
   obtain ⟨y, h1, h2, h3⟩ := t2 ho
   exact ⟨y, h1, h2, fun hd => h3 ((dn_other hq'.2).1 hd)⟩
theorem Mid.first {R : List Int} (hc : Cert row own inn p goal (T ++ u :: R)) (ht : Trap row own inn p (T ++ u :: R) (fun _ y => y ∈ T)) : Mid row own inn p goal T u [] (T ++ u :: R) := by
 refine ⟨hc, ⟨R, rfl⟩, fun v hv hq => ?_⟩
 obtain ⟨t1, t2⟩ := ht v hv hq
 refine ⟨fun ho y hy hi hd => t1 ho y hy hi ((dn_self0 (by simp)).1 hd), fun ho => ?_⟩
 obtain ⟨y, h1, h2, h3⟩ := t2 ho
 exact ⟨y, h1, h2, fun hd => h3 ((dn_self0 (by simp)).1 hd)⟩
theorem Mid.last (h : Mid row own inn p goal T u L Q) (hL : ∀ v, inn v → u ∈ row v → v ∈ L) : Trap row own inn p Q (fun _ y => y ∈ T ++ [u]) := fun v hv hq => by
 obtain ⟨t1, t2⟩ := h.trap v hv hq
 have key : ∀ y ∈ row v, (y ∈ T ++ [u] → dn T u L v y) := fun y hy hm => by
  rw [List.mem_append, List.mem_singleton] at hm
  rcases hm with hm | hm
  · exact .inl hm
  · exact .inr ⟨hm, hL v hv (hm ▸ hy)⟩
 refine ⟨fun ho y hy hi hd => t1 ho y hy hi (key y hy hd), fun ho => ?_⟩
 obtain ⟨y, h1, h2, h3⟩ := t2 ho
 exact ⟨y, h1, h2, fun hd => h3 (by
  rcases List.mem_append.1 hd with hm | hm
  · exact .inl hm
  · rw [List.mem_singleton] at hm
    exact .inr ⟨hm, hL v hv (hm ▸ h1)⟩)⟩
end
end Go.Proofs.Ytcmamhmpoinmnaa
set_option linter.unusedVariables false
set_option linter.unusedSimpArgs false
namespace Go.Proofs.Ytcmamhmpoinmnaa
open Go Go.Wk Go.Proofs
def hasN (N : List (List Int)) (u : Int) (v : Nat) : Bool := match N[v]? with
 | some r => decide (u ∈ r)
 | none => false
def prevL (N : List (List Int)) (u : Int) (j : Nat) : List Int := ((List.range j).filter (hasN N u)).map Int.ofNat
theorem prevL_succ (N : List (List Int)) (u : Int) (j : Nat) : prevL N u (j + 1) = prevL N u j ++ (if hasN N u j = true then [(j : Int)] else []) := by
 unfold prevL
 rw [List.range_succ, List.filter_append, List.map_append]
 congr 1
 by_cases h : hasN N u j = true
 · rw [if_pos h, List.filter_cons, if_pos h]; rfl
 · rw [if_neg h, List.filter_cons, if_neg h]; rfl
theorem nodup_mapN : ∀ {xs : List Nat}, xs.Nodup → (xs.map Int.ofNat).Nodup
 | [], _ => by simp
 | x :: xs, h => by
  obtain ⟨h1, h2⟩ := List.nodup_cons.1 h
  rw [List.map_cons, List.nodup_cons]
  refine ⟨fun hm => ?_, nodup_mapN h2⟩
  obtain ⟨y, hy, e⟩ := List.mem_map.1 hm
  have : y = x := Int.ofNat.inj e
  exact h1 (this ▸ hy)
theorem prevL_len (N : List (List Int)) (u : Int) (j : Nat) : (prevL N u j).length ≤ j := by
 unfold prevL
 rw [List.length_map]
 exact Nat.le_trans (List.length_filter_le _ _) (by rw [List.length_range]; omega)
def PrevM (N : List (List Int)) (n j : Nat) (row : List Int) (i : Nat) (t : List (List Int)) : Prop := t.length = n ∧ ∀ u : Int, 0 ≤ u → u < n → idx t u = some (prevL N u j ++ (if u ∈ row.take i then [(j : Int)] else []))
def PrevT (N : List (List Int)) (n j : Nat) (t : List (List Int)) : Prop := t.length = n ∧ ∀ u : Int, 0 ≤ u → u < n → idx t u = some (prevL N u j)
theorem PrevT.zero {N : List (List Int)} {n : Nat} : PrevT N n 0 (List.replicate n []) := ⟨by simp, fun u u0 u1 => by
 rw [idx_int u0, List.getElem?_replicate, if_pos (by omega)]; rfl⟩
theorem PrevT.first {N : List (List Int)} {n j : Nat} {t : List (List Int)} (h : PrevT N n j t) (row : List Int) : PrevM N n j row 0 t := ⟨h.1, fun u u0 u1 => by rw [h.2 u u0 u1]; simp⟩
theorem PrevM.last {N : List (List Int)} {n j : Nat} {row : List Int} {t : List (List Int)} (hr : N[j]? = some row) (h : PrevM N n j row row.length t) : PrevT N n (j + 1) t := ⟨h.1, fun u u0 u1 => by
 rw [h.2 u u0 u1, prevL_succ, List.take_length]
 unfold hasN
 rw [hr]
 by_cases hu : u ∈ row <;> simp [hu]⟩
theorem PrevM.step {N : List (List Int)} {n j i : Nat} {row : List Int} {t : List (List Int)} {u : Int} (h : PrevM N n j row i t) (hu : row[i]? = some u) (hn : row.Nodup) (u0 : 0 ≤ u) (u1 : u < n) :
 ∃ old, idx t u = some old ∧ old.length ≤ j + 1 ∧ ∃ t', setI t u (old ++ [(j : Int)]) = some t' ∧ PrevM N n j row (i + 1) t' := by
 refine ⟨_, h.2 u u0 u1, ?_, ?_⟩
 · have := prevL_len N u j
   rw [List.length_append]
   split
   · simp; omega
   · simp; omega
 · have hnot : u ∉ row.take i := by
    have h2 := hn.sublist (List.take_sublist (i + 1) row)
    rw [List.take_add_one, hu, List.nodup_append] at h2
    exact fun hm => h2.2.2 u hm u (by simp) rfl
   obtain ⟨t', h1, h2⟩ := setI_some (xs := t) (i := u) (prevL N u j ++ (if u ∈ row.take i then [(j : Int)] else []) ++ [(j : Int)]) u0 (by rw [h.1]; exact u1)
   refine ⟨t', h1, by rw [h2]; exact h.1, fun w w0 w1 => ?_⟩
   have htk : row.take (i + 1) = row.take i ++ [u] := by rw [List.take_add_one, hu]; rfl
   rw [idx_setI h1, htk]
   by_cases e : w = u
   · subst e
     rw [if_pos rfl, if_neg hnot]
     simp
   · rw [if_neg e, h.2 w w0 w1]
     congr 2
     simp [e]
def marksL (B : List Bool) (j : Nat) : List Int := ((List.range j).filter (fun v => B[v]?.getD false)).map Int.ofNat
theorem marksL_nodup (B : List Bool) (j : Nat) : (marksL B j).Nodup := by
 unfold marksL
 exact nodup_mapN (List.nodup_range.filter _)
theorem marksL_len (B : List Bool) (j : Nat) : (marksL B j).length ≤ j := by
 unfold marksL
 rw [List.length_map]
 exact Nat.le_trans (List.length_filter_le _ _) (by rw [List.length_range]; omega)
theorem mem_marksL {B : List Bool} {v : Int} : v ∈ marksL B B.length ↔ In B v := by
 unfold marksL In
 rw [List.mem_map]
 constructor
 · rintro ⟨w, hw, rfl⟩
   obtain ⟨h1, h2⟩ := List.mem_filter.1 hw
   rw [List.mem_range] at h1
   rw [show (Int.ofNat w) = (w : Int) from rfl, idx_nat]
   have e : B[w]? = some B[w] := List.getElem?_eq_getElem h1
   rw [e] at h2 ⊢
   simpa using h2
 · intro h
   obtain ⟨h0, h1⟩ := idx_rng h
   obtain ⟨w, hw⟩ := ex_nat h0
   subst hw
   rw [idx_nat] at h
   exact ⟨w, List.mem_filter.2 ⟨List.mem_range.2 (by omega), by rw [h]; rfl⟩, rfl⟩
theorem nodup_sub {ys : List Int} : ∀ {xs : List Int}, xs.Nodup → (∀ x ∈ xs, x ∈ ys) → xs.length ≤ ys.length := by
 induction ys with
 | nil =>
  intro xs _ h
  cases xs with
  | nil => simp
  | cons x xs => exact absurd (h x (List.mem_cons_self ..)) (by simp)
 | cons y ys ih =>
  intro xs hn h
  by_cases hm : y ∈ xs
  · have h1 := List.length_erase_of_mem hm
    have h2 := ih (xs := xs.erase y) (hn.erase _) (fun x hx => by
     rw [hn.mem_erase_iff] at hx
     exact (List.mem_cons.1 (h x hx.2)).resolve_left hx.1)
    rw [List.length_cons]
    omega
  · have := ih (xs := xs) hn (fun x hx => (List.mem_cons.1 (h x hx)).resolve_left fun e => hm (e ▸ hx))
    rw [List.length_cons]
    omega
def cnt (B : List Bool) : Nat := (marksL B B.length).length
theorem cnt_le (B : List Bool) : cnt B ≤ B.length := marksL_len _ _
theorem cnt_lt {A B : List Bool} (h : ∀ v, In A v → In B v) {w : Int} (hw : In B w) (hn : ¬ In A w) : cnt A < cnt B := by
 have hs : ∀ v ∈ w :: marksL A A.length, v ∈ marksL B B.length := fun v hv => by
  rcases List.mem_cons.1 hv with rfl | hv
  · exact mem_marksL.2 hw
  · exact mem_marksL.2 (h v (mem_marksL.1 hv))
 have hd : (w :: marksL A A.length).Nodup := List.nodup_cons.2 ⟨fun hm => hn (mem_marksL.1 hm), marksL_nodup _ _⟩
 have := nodup_sub hd hs
 rw [List.length_cons] at this
 exact this
end Go.Proofs.Ytcmamhmpoinmnaa
set_option linter.unusedVariables false
set_option linter.unusedSimpArgs false
namespace Go.Proofs.Ytcmamhmpoinmnaa
open Go Go.Wk Go.Proofs
theorem fill {ρ α : Type} {f : Int → List α → Option (ρ ⊕ (List α ⊕ List α))} (val : Nat → α) (n : Nat) {s0 : List α} (h0 : s0.length = n)
 (step : ∀ (j : Nat) s, j < n → s.length = n → f (j : Int) s = Option.bind (idx s (j : Int)) fun _ => Option.bind (setI s (j : Int) (val j)) fun y => some (.inr (.inr y))) :
 ∃ s, cntM f n 0 s0 = some (.inr s) ∧ s.length = n ∧ ∀ j : Nat, j < n → idx s (j : Int) = some (val j) := by
 obtain ⟨s, h1, h2, h3⟩ := cnt_inv (f := f) (fun j (s : List α) => s.length = n ∧ ∀ i : Nat, i < j → idx s (i : Int) = some (val i)) n (s := s0) ⟨h0, fun i hi => absurd hi (Nat.not_lt_zero i)⟩ (fun j s hj ⟨q1, q2⟩ => by
  obtain ⟨old, ho⟩ := idx_some (xs := s) (i := (j : Int)) (by omega) (by omega)
  obtain ⟨s', hs, hl⟩ := setI_some (xs := s) (i := (j : Int)) (val j) (by omega) (by omega)
  rw [step j s hj q1, ho, Option.bind_some, hs, Option.bind_some]
  refine ⟨_, rfl, by omega, fun i hi => ?_⟩
  rw [idx_setI hs]
  by_cases e : (i : Int) = (j : Int)
  · have : i = j := by omega
    subst this
    rw [if_pos rfl]
  · rw [if_neg e]; exact q2 i (by omega))
 exact ⟨s, h1, h2, h3⟩
instance (B : List Bool) (v : Int) : Decidable (In B v) := by unfold In; exact inferInstance
theorem In_dec {B : List Bool} {v : Int} {b : Bool} (h : idx B v = some b) : b = decide (In B v) := by
 have : In B v ↔ b = true := by unfold In; rw [h]; simp
 rw [Bool.eq_iff_iff]; simp [this]
theorem In_get {B : List Bool} {v : Int} (h0 : 0 ≤ v) (h1 : v < B.length) : idx B v = some (decide (In B v)) := by
 obtain ⟨b, hb⟩ := idx_some (xs := B) h0 h1
 rw [← In_dec hb]; exact hb
theorem In_of {B : List Bool} {n : Nat} (hB : B.length = n) {v : Int} (h : In B v) : 0 ≤ v ∧ v < n := by
 have := idx_rng h
 rw [hB] at this
 exact this
end Go.Proofs.Ytcmamhmpoinmnaa
set_option linter.unusedVariables false
set_option linter.unusedSimpArgs false
namespace Go.Proofs.Ytcmamhmpoinmnaa
open Go Go.Wk Go.Proofs
open Classical
structure BF (row : Int → List Int) (Y S0 Base Src : Int → Prop) (n : Nat) (cur : Int → List Int → Prop) (todo : List Int) (out : List Bool) : Prop where
 len : out.length = n
 sound : ∀ x, In out x → Src x
 base : ∀ x, Base x → In out x
 tod : ∀ x ∈ todo, S0 x ∨ In out x
 clo : ∀ x, S0 x ∨ In out x → x ∈ todo ∨ (∃ T, cur x T ∧ ∀ u ∈ T, Y u → In out u) ∨ ∀ u ∈ row x, Y u → In out u
section
variable {row : Int → List Int} {Y S0 Base Src : Int → Prop} {n : Nat} {cur : Int → List Int → Prop} {todo todo' : List Int} {out : List Bool} {c : Int}
def noC : Int → List Int → Prop := fun _ _ => False
def onC (c : Int) (T : List Int) : Int → List Int → Prop := fun x T' => x = c ∧ T' = T
theorem BF.pop (h : BF row Y S0 Base Src n noC todo out) (h1 : ∀ x ∈ todo, x = c ∨ x ∈ todo') (h2 : ∀ x ∈ todo', x ∈ todo) : BF row Y S0 Base Src n (onC c []) todo' out := by
 refine ⟨h.len, h.sound, h.base, fun x hx => h.tod x (h2 x hx), fun x hx => ?_⟩
 rcases h.clo x hx with k | ⟨T, k, _⟩ | k
 · rcases h1 x k with e | e
   · exact .inr (.inl ⟨[], ⟨e, rfl⟩, fun u hu => by cases hu⟩)
   · exact .inl e
 · exact k.elim
 · exact .inr (.inr k)
theorem BF.done (h : BF row Y S0 Base Src n (onC c (row c)) todo out) : BF row Y S0 Base Src n noC todo out := by
 refine ⟨h.len, h.sound, h.base, h.tod, fun x hx => ?_⟩
 rcases h.clo x hx with k | ⟨T, ⟨e1, e2⟩, k⟩ | k
 · exact .inl k
 · subst e1 e2
   exact .inr (.inr k)
 · exact .inr (.inr k)
theorem BF.skip {T : List Int} {u : Int} (h : BF row Y S0 Base Src n (onC c T) todo out) (hu : Y u → In out u) : BF row Y S0 Base Src n (onC c (T ++ [u])) todo out := by
 refine ⟨h.len, h.sound, h.base, h.tod, fun x hx => ?_⟩
 rcases h.clo x hx with k | ⟨T', ⟨e1, e2⟩, k⟩ | k
 · exact .inl k
 · subst e1 e2
   refine .inr (.inl ⟨_, ⟨rfl, rfl⟩, fun w hw => ?_⟩)
   rcases List.mem_append.1 hw with hw | hw
   · exact k w hw
   · rw [List.mem_singleton] at hw
     subst hw; exact hu
 · exact .inr (.inr k)
theorem BF.mark {T : List Int} {u : Int} {out' : List Bool} (h : BF row Y S0 Base Src n (onC c T) todo out) (hs : setI out u true = some out') (hsrc : Src u) : BF row Y S0 Base Src n (onC c (T ++ [u])) (todo ++ [u]) out' := by
 have hin : ∀ x, In out' x ↔ x = u ∨ In out x := fun x => by
  unfold In
  rw [idx_setI hs]
  by_cases e : x = u
  · rw [if_pos e]; simp [e]
  · rw [if_neg e]; simp [e]
 have hl : out'.length = out.length := (setI_ok hs).2.2.2 
 refine ⟨hl.trans h.len, fun x hx => ?_, fun x hx => (hin x).2 (.inr (h.base x hx)), fun x hx => ?_, fun x hx => ?_⟩
 · rcases (hin x).1 hx with e | e
   · subst e; exact hsrc
   · exact h.sound x e
 · rcases List.mem_append.1 hx with hx | hx
   · exact (h.tod x hx).imp id fun k => (hin x).2 (.inr k)
   · rw [List.mem_singleton] at hx
     exact .inr ((hin x).2 (.inl hx))
 · have hx' : x = u ∨ (S0 x ∨ In out x) := by
    rcases hx with k | k
    · exact .inr (.inl k)
    · rcases (hin x).1 k with e | e
      · exact .inl e
      · exact .inr (.inr e)
   rcases hx' with e | hx'
   · exact .inl (List.mem_append_right _ (by simp [e]))
   · rcases h.clo x hx' with k | ⟨T', ⟨e1, e2⟩, k⟩ | k
     · exact .inl (List.mem_append_left _ k)
     · subst e1 e2
       refine .inr (.inl ⟨_, ⟨rfl, rfl⟩, fun w hw hy => (hin w).2 ?_⟩)
       rcases List.mem_append.1 hw with hw | hw
       · exact .inr (k w hw hy)
       · rw [List.mem_singleton] at hw
         exact .inl hw
     · exact .inr (.inr fun w hw hy => (hin w).2 (.inr (k w hw hy)))
theorem BF.fin (h : BF row Y S0 Base Src n noC [] out) (hmin : ∀ C : Int → Prop, (∀ x, Base x → C x) → (∀ x u, S0 x ∨ C x → u ∈ row x → Y u → C u) → ∀ x, Src x → C x) (x : Int) : In out x ↔ Src x := by
 refine ⟨h.sound x, hmin _ h.base (fun y u hy hu hY => ?_) x⟩
 rcases h.clo y hy with k | ⟨T, k, _⟩ | k
 · cases k
 · exact k.elim
 · exact k u hu hY
noncomputable def msr (n : Nat) (todo : List Int) (out : List Bool) : Nat := todo.length + 2 * (n - cnt out)
theorem msr_mark {out' : List Bool} {u : Int} (hl : out.length = n) (hs : setI out u true = some out') (hn : ¬ In out u) : msr n (todo ++ [u]) out' + 1 ≤ msr n todo out := by
 have hin : ∀ x, In out' x ↔ x = u ∨ In out x := fun x => by
  unfold In
  rw [idx_setI hs]
  by_cases e : x = u
  · rw [if_pos e]; simp [e]
  · rw [if_neg e]; simp [e]
 have hl' : out'.length = out.length := (setI_ok hs).2.2.2 
 have h1 := cnt_lt (A := out) (B := out') (fun v hv => (hin v).2 (.inr hv)) ((hin u).2 (.inl rfl)) hn
 have h2 := cnt_le out'
 unfold msr
 rw [List.length_append]
 simp only [List.length_cons, List.length_nil]
 omega
variable {N : List (List Int)} {low : List Bool} (hR : ∀ v : Int, 0 ≤ v → v < n → idx N v = some (row v) ∧ (row v).length ≤ 10000 ∧ ∀ u ∈ row v, 0 ≤ u ∧ u < n) (hn : n ≤ 256) (hl : low.length = n) (hY : ∀ v, In low v ↔ Y v) (hstep : ∀ x u, S0 x ∨ Src x → u ∈ row x → Y u → Src u)
include hR hn hl hY hstep
omit hn in
theorem s_beyond_row (c0 : 0 ≤ c) (c1 : c < n) (h : BF row Y S0 Base Src n (onC c []) todo out) (hc : S0 c ∨ In out c) (htl : todo.length ≤ 100000) : ∃ i todo' out', whileM (s_l1Beyond_b2 N low c) (2 ^ 64) (todo, 0, out) = some (.inr (todo', i, out')) ∧ BF row Y S0 Base Src n noC todo' out' ∧ msr n todo' out' ≤ msr n todo out := by
 obtain ⟨r1, r2, r3⟩ := hR c c0 c1
 obtain ⟨o, w1, w2⟩ := while_out (f := s_l1Beyond_b2 N low c) (fun j (t : List Int × Int × List Bool) => t.2.1 = (j : Int) ∧ j ≤ (row c).length ∧ BF row Y S0 Base Src n (onC c ((row c).take j)) t.1 t.2.2 ∧ (∀ x, In out x → In t.2.2 x) ∧ msr n t.1 t.2.2 ≤ msr n todo out ∧ t.1.length ≤ 100000 + j) (fun _ => False) (fun t => BF row Y S0 Base Src n (onC c (row c)) t.1 t.2.2 ∧ msr n t.1 t.2.2 ≤ msr n todo out) (row c).length (fun j t ⟨a1, a2, a3, a4, a5, a6⟩ => by
  obtain ⟨q, j', t⟩ := t
  dsimp only at a1 a3 a4 a5 a6
  subst a1
  unfold s_l1Beyond_b2
  dsimp only
  rw [r1, Option.bind_some]
  by_cases hlt : j < (row c).length
  · have hw : IntKind.i64.wrap ((j : Int) + 1) = ((j + 1 : Nat) : Int) := by rw [wr' (by omega) (by omega)]; omega
    have hu : (row c)[j]? = some (row c)[j] := List.getElem?_eq_getElem hlt
    generalize (row c)[j] = u at hu
    obtain ⟨u0, u1⟩ := r3 u (List.mem_of_getElem? hu)
    have htk : (row c).take (j + 1) = (row c).take j ++ [u] := by rw [List.take_add_one, hu]; rfl
    have htl' := a3.len
    rw [decide_eq_true (show (j : Int) < ((row c).length : Int) by omega), cond_true, Option.bind_some, idx_nat, hu, Option.bind_some, In_get (B := low) u0 (by omega), Option.bind_some, In_get (B := t) u0 (by omega)]
    by_cases hy : In low u
    · by_cases ho : In t u
      · simp only [decide_eq_true hy, decide_eq_true ho, cond_true, Option.bind_some, Bool.not_true, cond_false, hw]
        exact ⟨_, rfl, hlt, rfl, by omega, by rw [htk]; exact a3.skip fun _ => ho, a4, a5, by dsimp only; omega⟩
      · obtain ⟨t', ht', _⟩ := setI_some (xs := t) (i := u) true u0 (by omega)
        have hm := msr_mark (n := n) (todo := q) htl' ht' ho
        have hcm : S0 c ∨ Src c := hc.imp id fun k => a3.sound c (a4 c k)
        simp only [decide_eq_true hy, decide_eq_false ho, cond_true, Option.bind_some, Bool.not_false, ht', app1 (show q.length ≤ 10000000000 by omega) (show Nat.ble 8 1024 = true from rfl), hw]
        refine ⟨_, rfl, hlt, rfl, by omega, by rw [htk]; exact a3.mark ht' (hstep c u hcm (List.mem_of_getElem? hu) ((hY u).1 hy)), fun x hx => ?_, by dsimp only; omega, by simp; omega⟩
        have := a4 x hx
        dsimp only at this ⊢
        unfold In at this ⊢
        rw [idx_setI ht']
        by_cases e : x = u
        · rw [if_pos e]
        · rw [if_neg e]; exact this
    · simp only [decide_eq_false hy, cond_false, Option.bind_some, hw]
      exact ⟨_, rfl, hlt, rfl, by omega, by rw [htk]; exact a3.skip fun hY' => absurd ((hY u).2 hY') hy, a4, a5, by dsimp only; omega⟩
  · rw [decide_eq_false (by omega), cond_false]
    have e : j = (row c).length := by omega
    subst e
    rw [List.take_length] at a3
    exact ⟨_, rfl, a3, a5⟩) (2 ^ 64) 0 (todo, 0, out) (by omega) ⟨rfl, by omega, h, fun _ h => h, Nat.le_refl _, by omega⟩ (by omega)
 match o, w2 with
 | .inr (q, i, t), w2 => exact ⟨i, q, t, w1, w2.1.done, w2.2⟩
theorem s_beyond (hN : N.length = n) (c0 : 0 ≤ c) (c1 : c < n) (hS : ∀ x, S0 x ↔ x = c) (hB : ∀ x, ¬ Base x) (hmin : ∀ C : Int → Prop, (∀ x, Base x → C x) → (∀ x u, S0 x ∨ C x → u ∈ row x → Y u → C u) → ∀ x, Src x → C x) : ∃ R, s_l1Beyond N low [c] = some R ∧ R.length = n ∧ ∀ x, In R x ↔ Src x := by
 unfold s_l1Beyond
 rw [hN, mkS_nat (by omega) rfl, Option.bind_some, show s_l1Copy [c] = some [c] from by unfold s_l1Copy; rw [appL (by simp) rfl]; rfl, Option.bind_some]
 have h0 : ∀ x, ¬ In (List.replicate n false) x := fun x hx => by
  obtain ⟨x0, x1⟩ := In_of (n := n) (by simp) hx
  unfold In at hx
  rw [idx_int x0, List.getElem?_replicate, if_pos (by omega)] at hx
  cases hx
 obtain ⟨o, w1, w2⟩ := while_out (f := s_l1Beyond_b0 N low) (fun j (t : List Int × List Bool) => BF row Y S0 Base Src n noC t.1 t.2 ∧ j + msr n t.1 t.2 ≤ 3 * n + 1) (fun _ => False) (fun t => BF row Y S0 Base Src n noC [] t.2) (3 * n + 1) (fun j t ⟨a1, a2⟩ => by
  obtain ⟨q, t⟩ := t
  dsimp only at a1 a2
  unfold s_l1Beyond_b0
  dsimp only
  have hq : q.length ≤ 1000 := by unfold msr at a2; omega
  rcases List.eq_nil_or_concat q with e | ⟨q', y, e⟩
  · subst e
    simp only [List.length_nil, Int.natCast_zero, Int.lt_irrefl, decide_false, cond_false]
    exact ⟨_, rfl, a1⟩
  · rw [List.concat_eq_append] at e
    subst e
    have hlen : (q' ++ [y]).length = q'.length + 1 := by simp
    have hw : IntKind.i64.wrap (((q' ++ [y]).length : Int) - 1) = (q'.length : Int) := by rw [hlen, wr' (by omega) (by omega)]; omega
    have hget : idx (q' ++ [y]) (q'.length : Int) = some y := by rw [idx_nat, List.getElem?_append_right (Nat.le_refl _), Nat.sub_self]; rfl
    have hsub : subS (q' ++ [y]) 0 (q'.length : Int) = some q' := by
     unfold subS
     rw [if_pos ⟨by omega, by omega, by rw [hlen]; omega⟩]
     simp
    have hyr : 0 ≤ y ∧ y < n := by
     rcases a1.tod y (by simp) with k | k
     · rw [(hS y).1 k]; exact ⟨c0, c1⟩
     · exact In_of a1.len k
    rw [decide_eq_true (show (0 : Int) < ((q' ++ [y]).length : Int) by omega), cond_true, hw, hget, Option.bind_some, hsub, Option.bind_some]
    obtain ⟨i, q2, t2, k1, k2, k3⟩ := s_beyond_row hR hl hY hstep hyr.1 hyr.2 (a1.pop (c := y) (todo' := q') (fun x hx => by
     rcases List.mem_append.1 hx with h | h
     · exact .inr h
     · exact .inl (by simpa using h)) (fun x hx => List.mem_append_left _ hx)) (a1.tod y (by simp)) (by omega)
    rw [k1, Option.bind_some, aft_inr]
    refine ⟨_, rfl, ?_, k2, ?_⟩
    · unfold msr at a2; omega
    · dsimp only
      unfold msr at a2 k3 ⊢
      omega) (2 ^ 64) 0 ([c], List.replicate n false) (by omega) ⟨⟨by simp, fun x hx => absurd hx (h0 x), fun x hx => absurd hx (hB x), fun x hx => .inl ((hS x).2 (by simpa using hx)), fun x hx => .inl (by
    rcases hx with k | k
    · rw [(hS x).1 k]; simp
    · exact absurd k (h0 x))⟩, by unfold msr; simp; omega⟩ (by omega)
 match o, w2 with
 | .inr (q, t), w2 =>
  rw [w1, Option.bind_some, aft_inr]
  exact ⟨t, rfl, w2.len, w2.fin hmin⟩
end
end Go.Proofs.Ytcmamhmpoinmnaa
set_option linter.unusedVariables false
set_option linter.unusedSimpArgs false
namespace Go.Proofs.Ytcmamhmpoinmnaa
open Go Go.Wk Go.Proofs
open Classical
inductive Wy (sc : Int → List Int) (D : Int → Prop) : Int → Int → Prop
 | one {x} (h : ¬ D x) : Wy sc D x x
 | cons {x y z} (h : ¬ D x) (e : y ∈ sc x) (w : Wy sc D y z) : Wy sc D x z
namespace Wy
variable {sc bk : Int → List Int} {D D' : Int → Prop} {x y z : Int}
theorem first (w : Wy sc D x y) : ¬ D x := by cases w <;> assumption
theorem last (w : Wy sc D x y) : ¬ D y := by induction w <;> assumption
theorem trans (w : Wy sc D x y) (v : Wy sc D y z) : Wy sc D x z := by
 induction w with
 | one _ => exact v
 | cons h e _ ih => exact .cons h e (ih v)
theorem snoc (w : Wy sc D x y) (e : z ∈ sc y) (h : ¬ D z) : Wy sc D x z := w.trans (.cons w.last e (.one h))
theorem mono (h : ∀ x, D' x → D x) (w : Wy sc D x y) : Wy sc D' x y := by
 induction w with
 | one k => exact .one fun d => k (h _ d)
 | cons k e _ ih => exact .cons (fun d => k (h _ d)) e ih
theorem rev (hb : ∀ x y, y ∈ bk x → x ∈ sc y) (w : Wy bk D x y) : Wy sc D y x := by
 induction w with
 | one k => exact .one k
 | cons k e _ ih => exact ih.snoc (hb _ _ e) k
theorem closed {T : Int → Prop} (hT : ∀ a b, T a → b ∈ sc a → ¬ D b → T b) (w : Wy sc D x y) (hx : T x) : T y := by
 induction w with
 | one _ => exact hx
 | cons _ e w ih => exact ih (hT _ _ hx e w.first)
theorem either {T : Int → Prop} (hT : ∀ a b, T a → b ∈ sc a → ¬ D b → T b) (w : Wy sc D x y) : T y ∨ Wy sc (fun a => D a ∨ T a) x y := by
 induction w with
 | @one x k =>
  by_cases t : T x
  · exact .inl t
  · exact .inr (.one fun h => h.elim k t)
 | @cons x y z k e w ih =>
  rcases ih with ih | ih
  · exact .inl ih
  · by_cases t : T x
    · exact .inl (w.closed hT (hT _ _ t e w.first))
    · exact .inr (.cons (fun h => h.elim k t) e ih)
theorem avoid {u : Int} (w : Wy sc D x y) : Wy sc D x u ∨ Wy sc (fun a => D a ∨ a = u) x y := by
 induction w with
 | @one x k =>
  by_cases t : x = u
  · subst t; exact .inl (.one k)
  · exact .inr (.one fun h => h.elim k t)
 | @cons x y z k e w ih =>
  rcases ih with ih | ih
  · exact .inl (.cons k e ih)
  · by_cases t : x = u
    · subst t; exact .inl (.one k)
    · exact .inr (.cons (fun h => h.elim k t) e ih)
end Wy
inductive Dfs (sc : Int → List Int) : (Int → Prop) → List Int → List Int → Prop
 | nil {D} : Dfs sc D [] []
 | skip {D u us S} (h : D u) (k : Dfs sc D us S) : Dfs sc D (u :: us) S
 | step {D u us S1 S2} (h : ¬ D u) (k1 : Dfs sc (fun x => D x ∨ x = u) (sc u) S1) (k2 : Dfs sc (fun x => D x ∨ x = u ∨ x ∈ S1) us S2) : Dfs sc D (u :: us) (S1 ++ u :: S2)
namespace Dfs
variable {sc bk : Int → List Int} {D : Int → Prop} {us S : List Int}
theorem out (k : Dfs sc D us S) : ∀ x ∈ S, ¬ D x := by
 induction k with
 | nil => intro x h; cases h
 | skip _ _ ih => exact ih
 | step h _ _ i1 i2 =>
  intro x hx
  rcases List.mem_append.1 hx with hx | hx
  · exact fun d => i1 x hx (.inl d)
  · rcases List.mem_cons.1 hx with e | hx
    · subst e; exact h
    · exact fun d => i2 x hx (.inl d)
theorem nodup (k : Dfs sc D us S) : S.Nodup := by
 induction k with
 | nil => exact List.nodup_nil
 | skip _ _ ih => exact ih
 | step h k1 k2 i1 i2 =>
  refine List.nodup_append.2 ⟨i1, List.nodup_cons.2 ⟨fun hm => k2.out _ hm (.inr (.inl rfl)), i2⟩, fun a ha b hb e => ?_⟩
  subst e
  rcases List.mem_cons.1 hb with e | hb
  · exact k1.out _ ha (.inr e)
  · exact k2.out _ hb (.inr (.inr ha))
theorem clo (k : Dfs sc D us S) : (∀ u ∈ us, D u ∨ u ∈ S) ∧ ∀ x ∈ S, ∀ y ∈ sc x, D y ∨ y ∈ S := by
 induction k with
 | nil => exact ⟨fun u h => (by cases h), fun u h => (by cases h)⟩
 | skip h _ ih =>
  refine ⟨fun u hu => ?_, ih.2⟩
  rcases List.mem_cons.1 hu with e | hu
  · subst e; exact .inl h
  · exact ih.1 u hu
 | @step D u us S1 S2 h k1 k2 i1 i2 =>
  have c1 : ∀ y, (D y ∨ y = u) ∨ y ∈ S1 → D y ∨ y ∈ S1 ++ u :: S2 := fun y hy => by
   rcases hy with (d | e) | m
   · exact .inl d
   · subst e; exact .inr (by simp)
   · exact .inr (by simp [m])
  have c2 : ∀ y, (D y ∨ y = u ∨ y ∈ S1) ∨ y ∈ S2 → D y ∨ y ∈ S1 ++ u :: S2 := fun y hy => by
   rcases hy with (d | e | m) | m
   · exact .inl d
   · subst e; exact .inr (by simp)
   · exact .inr (by simp [m])
   · exact .inr (by simp [m])
  refine ⟨fun x hx => ?_, fun x hx y hy => ?_⟩
  · rcases List.mem_cons.1 hx with e | hx
    · subst e; exact .inr (by simp)
    · exact c2 _ (i2.1 x hx)
  · rcases List.mem_append.1 hx with hx | hx
    · exact c1 _ (i1.2 x hx y hy)
    · rcases List.mem_cons.1 hx with e | hx
      · subst e; exact c1 _ (i1.1 y hy)
      · exact c2 _ (i2.2 x hx y hy)
theorem sound (k : Dfs sc D us S) : ∀ x ∈ S, ∃ u ∈ us, Wy sc D u x := by
 induction k with
 | nil => intro x h; cases h
 | skip _ _ ih =>
  intro x hx
  obtain ⟨u, h1, h2⟩ := ih x hx
  exact ⟨u, List.mem_cons_of_mem _ h1, h2⟩
 | @step D u us S1 S2 h k1 k2 i1 i2 =>
  intro x hx
  rcases List.mem_append.1 hx with hx | hx
  · obtain ⟨c, h1, h2⟩ := i1 x hx
    exact ⟨u, by simp, .cons h h1 (h2.mono fun _ d => .inl d)⟩
  · rcases List.mem_cons.1 hx with e | hx
    · subst e; exact ⟨x, by simp, .one h⟩
    · obtain ⟨c, h1, h2⟩ := i2 x hx
      exact ⟨c, List.mem_cons_of_mem _ h1, h2.mono fun _ d => .inl d⟩
theorem mem_iff (k : Dfs sc D us S) (x : Int) : x ∈ S ↔ ∃ u ∈ us, Wy sc D u x := by
 refine ⟨k.sound x, fun ⟨u, h1, h2⟩ => ?_⟩
 have hT : ∀ a b, a ∈ S → b ∈ sc a → ¬ D b → b ∈ S := fun a b ha hb hd => (k.clo.2 a ha b hb).resolve_left hd
 exact h2.closed (T := fun a => a ∈ S) hT ((k.clo.1 u h1).resolve_left h2.first)
theorem kos (k : Dfs sc D us S) : ∀ x ∈ S, ∀ v, Wy sc D x v → ∃ x', Wy sc D x x' ∧ Wy sc D x' x ∧ ∃ A B, S = A ++ x' :: B ∧ (v ∈ A ∨ v = x') := by
 induction k with
 | nil => intro x h; cases h
 | skip _ _ ih => exact ih
 | @step D u us S1 S2 h k1 k2 i1 i2 =>
  intro x hx v w
  have hT : ∀ a b, (a ∈ S1 ∨ a = u) → b ∈ sc a → ¬ D b → (b ∈ S1 ∨ b = u) := fun a b ha hb hd => by
   have : (D b ∨ b = u) ∨ b ∈ S1 := by
    rcases ha with ha | ha
    · exact k1.clo.2 a ha b hb
    · subst ha; exact k1.clo.1 b hb
   rcases this with (d | e) | m
   · exact absurd d hd
   · exact .inr e
   · exact .inl m
  have atU : Wy sc D x u → (x ∈ S1 ∨ x = u) → ∃ x', Wy sc D x x' ∧ Wy sc D x' x ∧ ∃ A B, S1 ++ u :: S2 = A ++ x' :: B ∧ (v ∈ A ∨ v = x') := fun wu hx' => by
   refine ⟨u, wu, ?_, S1, S2, rfl, w.closed (T := fun a => a ∈ S1 ∨ a = u) hT hx'⟩
   rcases hx' with m | e
   · obtain ⟨c, h1, h2⟩ := k1.sound x m
     exact .cons h h1 (h2.mono fun _ d => .inl d)
   · subst e; exact .one h
  rcases List.mem_append.1 hx with m | m
  · by_cases wu : Wy sc D x u
    · exact atU wu (.inl m)
    · rcases w.avoid (u := u) with k | k
      · exact absurd k wu
      · obtain ⟨x', w1, w2, A, B, e, hv⟩ := i1 x m v k
        exact ⟨x', w1.mono fun _ d => .inl d, w2.mono fun _ d => .inl d, A, B ++ u :: S2, by rw [e]; simp, hv⟩
  · rcases List.mem_cons.1 m with e | m
    · subst e; exact atU (.one w.first) (.inr rfl)
    · rcases w.either (T := fun a => a ∈ S1 ∨ a = u) hT with t | t
      · obtain ⟨A, B, e⟩ := List.append_of_mem m
        refine ⟨x, .one w.first, .one w.first, S1 ++ u :: A, B, by rw [e]; simp, .inl ?_⟩
        rcases t with t | t
        · simp [t]
        · simp [t]
      · have t' : Wy sc (fun a => D a ∨ a = u ∨ a ∈ S1) x v := t.mono fun a ha => by
         rcases ha with d | e | s
         · exact .inl d
         · exact .inr (.inr e)
         · exact .inr (.inl s)
        obtain ⟨x', w1, w2, A, B, e, hv⟩ := i2 x m v t'
        refine ⟨x', w1.mono fun _ d => .inl d, w2.mono fun _ d => .inl d, S1 ++ u :: A, B, by rw [e]; simp, ?_⟩
        rcases hv with hv | hv
        · exact .inl (by simp [hv])
        · exact .inr hv
end Dfs
inductive Kos (bk : Int → List Int) : (Int → Prop) → List Int → List (List Int) → Prop
 | nil {D} : Kos bk D [] []
 | skip {D v R P} (h : D v) (k : Kos bk D R P) : Kos bk D (v :: R) P
 | step {D v R S P} (h : ¬ D v) (d : Dfs bk D [v] S) (k : Kos bk (fun x => D x ∨ x ∈ S) R P) : Kos bk D (v :: R) (S :: P)
def noV : Int → Prop := fun _ => False
def Akin (sc : Int → List Int) (x y : Int) : Prop := Wy sc noV x y ∧ Wy sc noV y x
section
variable {sc bk : Int → List Int}
theorem Akin.refl (x : Int) : Akin sc x x := ⟨.one id, .one id⟩
theorem Akin.symm {x y : Int} (h : Akin sc x y) : Akin sc y x := ⟨h.2, h.1⟩
theorem Akin.trans {x y z : Int} (h : Akin sc x y) (k : Akin sc y z) : Akin sc x z := ⟨h.1.trans k.1, k.2.trans h.2⟩
theorem ahead {Q R A B : List Int} {v y : Int} (hn : (Q ++ v :: R).Nodup) (e : Q ++ v :: R = B ++ y :: A) (h : v ∈ A) : y ∈ Q := by
 have hy : y ∈ Q ++ v :: R := by rw [e]; simp
 rcases List.mem_append.1 hy with m | m
 · exact m
 · exfalso
   have h1 : (B ++ y :: A).Nodup := by rw [← e]; exact hn
   obtain ⟨n1, n2, n3⟩ := List.nodup_append.1 hn
   obtain ⟨m1, m2, m3⟩ := List.nodup_append.1 h1
   have hB : v ∉ B := fun hv => m3 v hv v (List.mem_cons_of_mem _ h) rfl
   -- v stands in A, so B ++ [y] is ahead of it: it is a part of Q
   rcases List.append_eq_append_iff.1 e with ⟨T, e1, e2⟩ | ⟨T, e1, e2⟩
   · cases T with
     | nil =>
      rw [List.nil_append] at e2
      injection e2 with e3 e4
      subst e3
      exact (List.nodup_cons.1 m2).1 h
     | cons t T =>
      injection e2 with e3 e4
      subst e3
      exact hB (by rw [e1]; simp)
   · cases T with
     | nil =>
      rw [List.nil_append] at e2
      injection e2 with e3 e4
      subst e3
      exact (List.nodup_cons.1 m2).1 h
     | cons t T =>
      injection e2 with e3 e4
      subst e3
      exact n3 y (by rw [e1]; simp) y m rfl
theorem kos_parts {L : List Int} (hb : ∀ x y, y ∈ bk x ↔ x ∈ sc y) {vs : List Int} (hd : Dfs sc noV vs L) (hL : ∀ a b, b ∈ sc a → a ∈ L) :
 ∀ (D : Int → Prop) (R : List Int) (P : List (List Int)), Kos bk D R P → ∀ Q, L.reverse = Q ++ R → (∀ x, D x ↔ ∃ q ∈ Q, Akin sc q x) →
 (∀ S ∈ P, S.Nodup ∧ ∃ v ∈ R, (¬ D v) ∧ ∀ x, x ∈ S ↔ Akin sc v x) ∧ (∀ v ∈ R, D v ∨ ∃ S ∈ P, v ∈ S) ∧ P.Pairwise (fun S T => ∀ x ∈ S, x ∉ T) ∧ ∀ S ∈ P, ∀ x ∈ S, ¬ D x := by
 intro D R P hk
 induction hk with
 | nil => exact fun Q _ _ => ⟨fun S h => (by cases h), fun S h => (by cases h), List.Pairwise.nil, fun S h => by cases h⟩
 | @skip D v R P h k ih =>
  intro Q hQ hD
  obtain ⟨a1, a2, a3, a4⟩ := ih (Q ++ [v]) (by rw [hQ]; simp) (fun x => by
   rw [hD]
   refine ⟨fun ⟨q, h1, h2⟩ => ⟨q, by simp [h1], h2⟩, fun ⟨q, h1, h2⟩ => ?_⟩
   rcases List.mem_append.1 h1 with m | m
   · exact ⟨q, m, h2⟩
   · rw [List.mem_singleton] at m
     subst m
     obtain ⟨p, h3, h4⟩ := (hD q).1 h
     exact ⟨p, h3, h4.trans h2⟩)
  refine ⟨fun S hS => ?_, fun x hx => ?_, a3, a4⟩
  · obtain ⟨h1, y, h2, h3⟩ := a1 S hS
    exact ⟨h1, y, List.mem_cons_of_mem _ h2, h3⟩
  · rcases List.mem_cons.1 hx with e | hx
    · subst e; exact .inl h
    · exact a2 x hx
 | @step D v R S P h d k ih =>
  intro Q hQ hD
  have hvL : v ∈ L := by
   have : v ∈ L.reverse := by rw [hQ]; simp
   exact List.mem_reverse.1 this
  have hS : ∀ x, x ∈ S ↔ Akin sc v x := fun x => by
   rw [d.mem_iff]
   constructor
   · rintro ⟨u, hu, w⟩
     rw [List.mem_singleton] at hu
     subst hu
     have w' := w.rev (sc := sc) (fun a b e => (hb a b).1 e)
     have hx : x ∈ L := by
      cases w' with
      | one _ => exact hvL
      | cons _ e _ => exact hL _ _ e
     obtain ⟨x', w1, w2, A, B, e, hv⟩ := hd.kos x hx u (w'.mono fun _ f => f.elim)
     rcases hv with hv | hv
     · exfalso
       have e' : Q ++ u :: R = B.reverse ++ x' :: A.reverse := by rw [← hQ, e]; simp
       have hn : (Q ++ u :: R).Nodup := by rw [← hQ]; exact (List.reverse_perm L).nodup_iff.2 hd.nodup
       have hq := ahead hn e' (List.mem_reverse.2 hv)
       exact w.last ((hD x).2 ⟨x', hq, w2, w1⟩)
     · subst hv; exact ⟨w2, w1⟩
   · intro hx
     refine ⟨v, by simp, ?_⟩
     have nD : ∀ y, Akin sc v y → ¬ D y := fun y hy hd' => by
      obtain ⟨q, h1, h2⟩ := (hD y).1 hd'
      exact h ((hD v).2 ⟨q, h1, h2.trans hy.symm⟩)
     have key : ∀ {a b : Int}, Wy sc noV a b → Wy sc noV b a → Akin sc v b → Wy sc D a b := fun {a b} w => by
      induction w with
      | one _ => exact fun _ hb' => .one (nD _ hb')
      | @cons a c b h e w ih => exact fun w' hb' => .cons (nD _ (hb'.trans ⟨w', .cons h e w⟩)) e (ih (w'.snoc e id) hb')
     exact (key hx.2 hx.1 (Akin.refl v)).rev fun a b e => (hb b a).2 e
  obtain ⟨a1, a2, a3, a4⟩ := ih (Q ++ [v]) (by rw [hQ]; simp) (fun x => by
   show (D x ∨ x ∈ S) ↔ _
   rw [hD, hS]
   constructor
   · rintro (⟨q, h1, h2⟩ | h2)
     · exact ⟨q, by simp [h1], h2⟩
     · exact ⟨v, by simp, h2⟩
   · rintro ⟨q, h1, h2⟩
     rcases List.mem_append.1 h1 with m | m
     · exact .inl ⟨q, m, h2⟩
     · rw [List.mem_singleton] at m
       subst m; exact .inr h2)
  refine ⟨fun T hT => ?_, fun x hx => ?_, List.pairwise_cons.2 ⟨fun T hT x hx hx' => a4 T hT x hx' (.inr hx), a3⟩, fun T hT x hx hx' => ?_⟩
  · rcases List.mem_cons.1 hT with e | hT
    · subst e
      exact ⟨d.nodup, v, by simp, h, hS⟩
    · obtain ⟨h1, y, h2, h3, h4⟩ := a1 T hT
      exact ⟨h1, y, List.mem_cons_of_mem _ h2, fun k => h3 (.inl k), h4⟩
  · rcases List.mem_cons.1 hx with e | hx
    · subst e; exact .inr ⟨S, by simp, (hS x).2 (Akin.refl x)⟩
    · rcases a2 x hx with (k | k) | ⟨T, h1, h2⟩
      · exact .inl k
      · exact .inr ⟨S, by simp, k⟩
      · exact .inr ⟨T, List.mem_cons_of_mem _ h1, h2⟩
  · rcases List.mem_cons.1 hT with e | hT
    · subst e; exact d.out x hx hx'
    · exact a4 T hT x hx (.inl hx')
end
end Go.Proofs.Ytcmamhmpoinmnaa
