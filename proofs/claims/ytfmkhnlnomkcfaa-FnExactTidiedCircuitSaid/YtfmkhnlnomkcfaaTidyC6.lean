/- TidiedCircuit: the parts. -/
import Derived.Test.YtfmkhnlnomkcfaaJoinC6
import Derived.Test.YtfmkhnlnomkcfaaLeastC6
set_option linter.unusedVariables false
set_option linter.unusedSimpArgs false
namespace Go.Proofs.Ytfmkhnlnomkcfaa
open Go Go.Wk Go.Proofs

def evens (n : Nat) : List Int := (List.range n).map fun i : Nat => 2 * (i : Int)
theorem evens_len (n : Nat) : (evens n).length = n := by simp [evens]
theorem evens_succ (n : Nat) : evens (n + 1) = evens n ++ [2 * (n : Int)] := by simp [evens, List.range_succ]
theorem evens_get {n i : Nat} (h : i < n) : (evens n)[i]? = some (2 * (i : Int)) := by
  unfold evens
  rw [List.getElem?_map, List.getElem?_range h]; rfl
/-- an entry -/
def at0 (B : List Int) (s : Int) : Int := B.getD s.toNat 0
theorem at0_get {B : List Int} {s : Int} (s0 : 0 ≤ s) (s1 : s < B.length) : idx B s = some (at0 B s) ∧ at0 B s ∈ B := by
  obtain ⟨x, h, hm⟩ := get_el (xs := B) s0 s1
  have e : at0 B s = x := by
    unfold at0
    have h' := h
    rw [idx_int s0] at h'
    rw [List.getD_eq_getElem?_getD, h', Option.getD_some]
  rw [e]
  exact ⟨h, hm⟩
/-- what a literal became -/
def bec (B : List Int) (x : Int) : Int := if x % 2 = 1 then turn (at0 B (x / 2)) else at0 B (x / 2)
theorem half_in {x : Int} {n : Int} (x0 : 0 ≤ x) (x1 : x < 2 * n) : 0 ≤ x / 2 ∧ x / 2 < n := by omega
theorem became_eq {B : List Int} (hB : ∀ y ∈ B, 0 ≤ y ∧ y < 1000000) {x : Int} (x0 : 0 ≤ x) (x1 : x < 2 * (B.length : Int)) (hl : B.length ≤ 100000) : s_l31Became B x = some (bec B x) := by
  obtain ⟨h0, h1⟩ := half_in x0 x1
  obtain ⟨e1, e2⟩ := at0_get h0 h1
  obtain ⟨y0, y1⟩ := hB _ e2
  unfold s_l31Became bec
  rw [tdiv_pos x0, Int.tmod_eq_emod_of_nonneg x0, wr' (z := x / 2) (by omega) (by omega), e1]
  by_cases h : x % 2 = 1
  · rw [if_pos h, h, Option.bind_some, s_l31Turn_eq y0 y1]; rfl
  · rw [if_neg h]
    have : (x % 2 == 1) = false := by rw [beq_eq_false_iff_ne]; exact h
    rw [this]; rfl
theorem tidied1_eq {B : List Int} (hB : ∀ y ∈ B, 0 ≤ y ∧ y < 1000000) {x : Int} (x0 : 0 ≤ x) (x1 : x < 2 * (B.length : Int)) (hl : B.length ≤ 100000) : i_tidied_1 x B = some (bec B x) := by
  obtain ⟨h0, h1⟩ := half_in x0 x1
  obtain ⟨e1, e2⟩ := at0_get h0 h1
  obtain ⟨y0, y1⟩ := hB _ e2
  unfold i_tidied_1 bec
  rw [tdiv_pos x0, wr' (z := x / 2) (by omega) (by omega), e1, Option.bind_some, and1 x0 (by omega)]
  by_cases h : x % 2 = 1
  · rw [if_pos h, h, i_turn y0 y1]
  · rw [if_neg h, show x % 2 = 0 from by omega, bxor y0 (by omega) (by omega) (by omega)]
    simp only [Int.toNat_zero, Nat.xor_zero]
    congr 1
    omega
theorem bec_in {B : List Int} {n : Int} (hB : ∀ y ∈ B, 0 ≤ y ∧ y < 2 * n) {x : Int} (x0 : 0 ≤ x) (x1 : x < 2 * (B.length : Int)) : 0 ≤ bec B x ∧ bec B x < 2 * n := by
  obtain ⟨h0, h1⟩ := half_in x0 x1
  obtain ⟨y0, y1⟩ := hB _ (at0_get h0 h1).2
  unfold bec
  split
  · exact turn_in y0 y1
  · exact ⟨y0, y1⟩
/-- a loop that appends what it makes of each -/
theorem cnt_map {ρ : Type} {f : Int → List Int → Option (ρ ⊕ (List Int ⊕ List Int))} (g : Int → Int) {xs : List Int} (h : ∀ (i : Nat) x s, xs[i]? = some x → s.length = i → f (i : Int) s = some (.inr (.inr (s ++ [g x])))) : cntM f xs.length 0 [] = some (.inr (xs.map g)) := by
  have h1 := (cnt_foldI (f := f) (fun s x => s ++ [g x]) (fun j s => s.length = j) (xs := xs) (fun i x s hx hs => ⟨h i x s hx hs, by simp [hs]⟩) (s := []) rfl).1
  rw [h1]
  have : ∀ (xs : List Int) (a : List Int), xs.foldl (fun s x => s ++ [g x]) a = a ++ xs.map g := fun xs => by
    induction xs with
    | nil => intro a; simp
    | cons x xs ih => intro a; rw [List.foldl_cons, ih]; simp
  rw [this]; rfl
/-! marks -/
def marks (M : List Bool) (xs : List Int) : List Bool := xs.foldl (fun M x => M.set (x / 2).toNat true) M
theorem marks_len : ∀ (xs : List Int) (M : List Bool), (marks M xs).length = M.length
  | [], _ => rfl
  | x :: xs, M => by
    show (marks (M.set (x / 2).toNat true) xs).length = _
    rw [marks_len xs, List.length_set]
theorem marks_mono : ∀ (xs : List Int) (M : List Bool) (v : Int), 0 ≤ v → (∀ x ∈ xs, 0 ≤ x ∧ x / 2 < M.length) → bAt M v = true → bAt (marks M xs) v = true
  | [], _, _, _, _, h => h
  | x :: xs, M, v, v0, hx, h => by
    have h1 := hx x (List.mem_cons_self ..)
    refine marks_mono xs _ v v0 (fun y hy => ?_) ?_
    · rw [List.length_set]; exact hx y (List.mem_cons_of_mem _ hy)
    · rw [bAt_set (by omega) v v0, h]; rfl
theorem marks_all : ∀ (xs : List Int) (M : List Bool), (∀ x ∈ xs, 0 ≤ x ∧ x / 2 < M.length) → ∀ x ∈ xs, bAt (marks M xs) (x / 2) = true
  | [], _, _, _, h => by cases h
  | y :: xs, M, hx, x, hm => by
    have h1 := hx y (List.mem_cons_self ..)
    have h2 : ∀ z ∈ xs, 0 ≤ z ∧ z / 2 < ((M.set (y / 2).toNat true).length : Int) := fun z hz => by rw [List.length_set]; exact hx z (List.mem_cons_of_mem _ hz)
    rcases List.mem_cons.1 hm with rfl | hm
    · refine marks_mono xs _ _ (by omega) h2 ?_
      rw [bAt_set (by omega) _ (by omega)]
      have : x / 2 = ((x / 2).toNat : Int) := by omega
      simp [← this]
    · exact marks_all xs _ h2 x hm
theorem mark1 {M : List Bool} {n : Nat} (hM : M.length = n) {x : Int} (x0 : 0 ≤ x) (x1 : x < 2 * (n : Int)) (hn : n ≤ 100000) : (∃ b, idx M (IntKind.i64.wrap (Int.tdiv x 2)) = some b) ∧ setI M (IntKind.i64.wrap (Int.tdiv x 2)) true = some (M.set (x / 2).toNat true) := by
  rw [tdiv_pos x0, wr' (z := x / 2) (by omega) (by omega)]
  refine ⟨⟨_, bAt_get (by omega) (by omega)⟩, ?_⟩
  unfold setI
  rw [if_pos (by omega)]
theorem cnt_marks {ρ : Type} {f : Int → List Bool → Option (ρ ⊕ (List Bool ⊕ List Bool))} {xs : List Int} {n : Nat} (hn : n ≤ 100000) (hx : ∀ x ∈ xs, 0 ≤ x ∧ x < 2 * (n : Int))
    (h : ∀ (i : Nat) x s, xs[i]? = some x → f (i : Int) s = Option.bind (idx s (IntKind.i64.wrap (Int.tdiv x 2))) fun _ => Option.bind (setI s (IntKind.i64.wrap (Int.tdiv x 2)) true) fun y => some (.inr (.inr y))) {M : List Bool} (hM : M.length = n) : cntM f xs.length 0 M = some (.inr (marks M xs)) :=
  (cnt_foldI (f := f) (fun (M : List Bool) (x : Int) => M.set (x / 2).toNat true) (fun j s => s.length = n) (xs := xs) (fun i x s hx' hs => by
    obtain ⟨x0, x1⟩ := hx x (List.mem_of_getElem? hx')
    obtain ⟨⟨b, e1⟩, e2⟩ := mark1 hs x0 x1 hn
    rw [h i x s hx', e1, Option.bind_some, e2]
    exact ⟨rfl, by rw [List.length_set, hs]⟩) (s := M) hM).1
/-- gates that look back only -/
def GOk (bs : Int) (G : List Gate) : Prop := ∀ (i : Nat) g, G[i]? = some g → 0 ≤ g.A ∧ g.A < 2 * (bs + i) ∧ 0 ≤ g.B ∧ g.B < 2 * (bs + i)
theorem GOk.add {bs : Int} {G : List Gate} (h : GOk bs G) {g : Gate} (a0 : 0 ≤ g.A) (a1 : g.A < 2 * (bs + G.length)) (b0 : 0 ≤ g.B) (b1 : g.B < 2 * (bs + G.length)) : GOk bs (G ++ [g]) := fun i x hx => by
  rw [List.getElem?_append] at hx
  split at hx
  · exact h i x hx
  · rename_i hl
    have : i - G.length = 0 := by
      rcases Nat.eq_zero_or_pos (i - G.length) with e | e
      · exact e
      · rw [List.getElem?_eq_none (by simp; omega)] at hx; cases hx
    rw [this] at hx
    cases hx
    have : i = G.length := by omega
    subst this
    exact ⟨a0, a1, b0, b1⟩
/-- what is marked above a place is closed -/
def ClosedFrom (bs : Int) (G : List Gate) (M : List Bool) (j : Int) : Prop := ∀ (i : Nat) g, G[i]? = some g → j < i → bAt M (bs + i) = true → bAt M (g.A / 2) = true ∧ bAt M (g.B / 2) = true
end Go.Proofs.Ytfmkhnlnomkcfaa
