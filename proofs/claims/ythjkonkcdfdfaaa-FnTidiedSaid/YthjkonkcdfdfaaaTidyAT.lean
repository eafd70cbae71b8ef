/- Tidying: the parts that one side computes. -/
import Derived.Test.YthjkonkcdfdfaaaLeastT
import Derived.Test.YthjkonkcdfdfaaaEvalT
set_option linter.unusedVariables false
set_option linter.unusedSimpArgs false
namespace Go.Proofs.Ythjkonkcdfdfaaa
open Go Go.Wk Go.Proofs

def evens (n : Nat) : List Int := (List.range n).map fun i : Nat => 2 * (i : Int)
theorem evens_len (n : Nat) : (evens n).length = n := by simp [evens]
theorem evens_succ (n : Nat) : evens (n + 1) = evens n ++ [2 * (n : Int)] := by simp [evens, List.range_succ]
theorem evens_get {n i : Nat} (h : i < n) : (evens n)[i]? = some (2 * (i : Int)) := by
  unfold evens
  rw [List.getElem?_map, List.getElem?_range h]; rfl
/-- an entry -/
def at0 (B : List Int) (s : Int) : Int := B.getD s.toNat 0
theorem at0_get {B : List Int} {s : Int} (s0 : 0 ≤ s) (s1 : s < B.length) : idx B s = some (at0 B s) ∧ at0 B s ∈ B := by
  obtain ⟨x, h, hm⟩ := get_el (xs := B) s0 s1
  have e : at0 B s = x := by
    unfold at0
    have h' := h
    rw [idx_int s0] at h'
    rw [List.getD_eq_getElem?_getD, h', Option.getD_some]
  rw [e]
  exact ⟨h, hm⟩
/-- what a literal became -/
def bec (B : List Int) (x : Int) : Int := if x % 2 = 1 then turn (at0 B (x / 2)) else at0 B (x / 2)
theorem half_in {x : Int} {n : Int} (x0 : 0 ≤ x) (x1 : x < 2 * n) : 0 ≤ x / 2 ∧ x / 2 < n := by omega
theorem tidied1_eq {B : List Int} (hB : ∀ y ∈ B, 0 ≤ y ∧ y < 1000000) {x : Int} (x0 : 0 ≤ x) (x1 : x < 2 * (B.length : Int)) (hl : B.length ≤ 100000) : i_tidied_1 x B = some (bec B x) := by
  obtain ⟨h0, h1⟩ := half_in x0 x1
  obtain ⟨e1, e2⟩ := at0_get h0 h1
  obtain ⟨y0, y1⟩ := hB _ e2
  unfold i_tidied_1 bec
  rw [tdiv_pos x0, wr' (z := x / 2) (by omega) (by omega), e1, Option.bind_some, and1 x0 (by omega)]
  by_cases h : x % 2 = 1
  · rw [if_pos h, h, i_turn y0 y1]
  · rw [if_neg h, show x % 2 = 0 from by omega, bxor y0 (by omega) (by omega) (by omega)]
    simp only [Int.toNat_zero, Nat.xor_zero]
    congr 1
    omega
theorem bec_in {B : List Int} {n : Int} (hB : ∀ y ∈ B, 0 ≤ y ∧ y < 2 * n) {x : Int} (x0 : 0 ≤ x) (x1 : x < 2 * (B.length : Int)) : 0 ≤ bec B x ∧ bec B x < 2 * n := by
  obtain ⟨h0, h1⟩ := half_in x0 x1
  obtain ⟨y0, y1⟩ := hB _ (at0_get h0 h1).2
  unfold bec
  split
  · exact turn_in y0 y1
  · exact ⟨y0, y1⟩
/-! marks -/
def marks (M : List Bool) (xs : List Int) : List Bool := xs.foldl (fun M x => M.set (x / 2).toNat true) M
theorem marks_len : ∀ (xs : List Int) (M : List Bool), (marks M xs).length = M.length
  | [], _ => rfl
  | x :: xs, M => by
    show (marks (M.set (x / 2).toNat true) xs).length = _
    rw [marks_len xs, List.length_set]
theorem marks_mono : ∀ (xs : List Int) (M : List Bool) (v : Int), 0 ≤ v → (∀ x ∈ xs, 0 ≤ x ∧ x / 2 < M.length) → bAt M v = true → bAt (marks M xs) v = true
  | [], _, _, _, _, h => h
  | x :: xs, M, v, v0, hx, h => by
    have h1 := hx x (List.mem_cons_self ..)
    refine marks_mono xs _ v v0 (fun y hy => ?_) ?_
    · rw [List.length_set]; exact hx y (List.mem_cons_of_mem _ hy)
    · rw [bAt_set (by omega) v v0, h]; rfl
theorem marks_all : ∀ (xs : List Int) (M : List Bool), (∀ x ∈ xs, 0 ≤ x ∧ x / 2 < M.length) → ∀ x ∈ xs, bAt (marks M xs) (x / 2) = true
  | [], _, _, _, h => by cases h
  | y :: xs, M, hx, x, hm => by
    have h1 := hx y (List.mem_cons_self ..)
    have h2 : ∀ z ∈ xs, 0 ≤ z ∧ z / 2 < ((M.set (y / 2).toNat true).length : Int) := fun z hz => by rw [List.length_set]; exact hx z (List.mem_cons_of_mem _ hz)
    rcases List.mem_cons.1 hm with rfl | hm
    · refine marks_mono xs _ _ (by omega) h2 ?_
      rw [bAt_set (by omega) _ (by omega)]
      have : x / 2 = ((x / 2).toNat : Int) := by omega
      simp [← this]
    · exact marks_all xs _ h2 x hm
theorem mark1 {M : List Bool} {n : Nat} (hM : M.length = n) {x : Int} (x0 : 0 ≤ x) (x1 : x < 2 * (n : Int)) (hn : n ≤ 100000) : (∃ b, idx M (IntKind.i64.wrap (Int.tdiv x 2)) = some b) ∧ setI M (IntKind.i64.wrap (Int.tdiv x 2)) true = some (M.set (x / 2).toNat true) := by
  rw [tdiv_pos x0, wr' (z := x / 2) (by omega) (by omega)]
  refine ⟨⟨_, bAt_get (by omega) (by omega)⟩, ?_⟩
  unfold setI
  rw [if_pos (by omega)]
theorem cnt_marks {ρ : Type} {f : Int → List Bool → Option (ρ ⊕ (List Bool ⊕ List Bool))} {xs : List Int} {n : Nat} (hn : n ≤ 100000) (hx : ∀ x ∈ xs, 0 ≤ x ∧ x < 2 * (n : Int))
    (h : ∀ (i : Nat) x s, xs[i]? = some x → f (i : Int) s = Option.bind (idx s (IntKind.i64.wrap (Int.tdiv x 2))) fun _ => Option.bind (setI s (IntKind.i64.wrap (Int.tdiv x 2)) true) fun y => some (.inr (.inr y))) {M : List Bool} (hM : M.length = n) : cntM f xs.length 0 M = some (.inr (marks M xs)) :=
  (cnt_foldI (f := f) (fun (M : List Bool) (x : Int) => M.set (x / 2).toNat true) (fun j s => s.length = n) (xs := xs) (fun i x s hx' hs => by
    obtain ⟨x0, x1⟩ := hx x (List.mem_of_getElem? hx')
    obtain ⟨⟨b, e1⟩, e2⟩ := mark1 hs x0 x1 hn
    rw [h i x s hx', e1, Option.bind_some, e2]
    exact ⟨rfl, by rw [List.length_set, hs]⟩) (s := M) hM).1
/-- what is marked above a place is closed -/
def ClosedFrom (bs : Int) (G : List Gate) (M : List Bool) (j : Int) : Prop := ∀ (i : Nat) g, G[i]? = some g → j < i → bAt M (bs + i) = true → bAt M (g.A / 2) = true ∧ bAt M (g.B / 2) = true
theorem bAt_nn {M : List Bool} {n : Nat} (hM : M.length = n) {v : Int} (v0 : 0 ≤ v) (v1 : v < (n : Int)) : idx M v = some (bAt M v) := bAt_get v0 (by omega)
section
variable {c : Circuit} (hc : circOk c = true) {b : Nat} (hb : base c = (b : Int))
include hc hb
theorem tidy_b : b ≤ 11 ∧ 1 ≤ b ∧ IntKind.i64.wrap (IntKind.i64.wrap (1 + c.Inputs) + c.Latches) = (b : Int) ∧ (c.Gates.length : Int) ≤ 8000 := by
  have h := circHead_in (circOk_spec hc).1
  unfold base at hb
  refine ⟨by omega, by omega, ?_, h.2.2.2.2.1⟩
  rw [wr' (z := 1 + c.Inputs) (by omega) (by omega), wr' (by omega) (by omega)]; omega
omit hc hb in
theorem i_start {b : Nat} (b1 : b ≤ 100) : cntM i_tidied_b0 b 0 [] = some (.inr (evens b)) := by
  obtain ⟨s, h1, h2⟩ := cnt_inv (f := i_tidied_b0) (fun j s => s = evens j) b (s := []) rfl (fun j s hj hs => by
    subst hs
    unfold i_tidied_b0
    rw [wr' (z := 2 * (j : Int)) (by omega) (by omega), app1 (by rw [evens_len]; omega) rfl]
    exact ⟨_, rfl, (evens_succ j).symm⟩)
  rw [h1, h2]
/-- the circuit that grows -/
def grown (c : Circuit) (G : List Gate) : Circuit := ⟨c.Inputs, c.Latches, [], G, []⟩
theorem grown_head {G : List Gate} (hG : G.length ≤ 8000) : Head (grown c G) ∧ sigs (grown c G) = (b : Int) + G.length := by
  have h := circHead_in (circOk_spec hc).1
  refine ⟨⟨h.1, h.2.1, h.2.2.1, h.2.2.2.1, by show (G.length : Int) ≤ 8000; omega⟩, ?_⟩
  rw [← hb]; rfl
end
/-- the literal that the second pass of the other side makes -/
def bec2 (R : List Int) (x : Int) : Int := 2 * at0 R (x / 2) + x % 2
theorem unused1_eq {R : List Int} (hR : ∀ y ∈ R, 0 ≤ y ∧ y < 1000000) {x : Int} (x0 : 0 ≤ x) (x1 : x < 2 * (R.length : Int)) (hl : R.length ≤ 100000) : i_withoutUnused_1 x R = some (bec2 R x) := by
  obtain ⟨h0, h1⟩ := half_in x0 x1
  obtain ⟨e1, e2⟩ := at0_get h0 h1
  obtain ⟨y0, y1⟩ := hR _ e2
  unfold i_withoutUnused_1 bec2
  rw [tdiv_pos x0, wr' (z := x / 2) (by omega) (by omega), e1, Option.bind_some, and1 x0 (by omega), wr' (z := 2 * at0 R (x / 2)) (by omega) (by omega), wr' (by omega) (by omega)]
theorem bec_eq {B R : List Int} {x : Int} (h : at0 B (x / 2) = 2 * at0 R (x / 2)) : bec B x = bec2 R x := by
  unfold bec bec2 turn
  rw [h]
  split
  · rw [if_neg (by omega)]; omega
  · omega
theorem at0_app {B : List Int} {x s : Int} (s0 : 0 ≤ s) : at0 (B ++ [x]) s = if s < B.length then at0 B s else if s = B.length then x else 0 := by
  unfold at0
  rw [List.getD_eq_getElem?_getD, List.getD_eq_getElem?_getD, List.getElem?_append]
  by_cases h : s < (B.length : Int)
  · rw [if_pos h, if_pos (by omega)]
  · rw [if_neg h, if_neg (by omega)]
    by_cases h2 : s = (B.length : Int)
    · rw [if_pos h2, show s.toNat - B.length = 0 from by omega]; rfl
    · rw [if_neg h2, List.getElem?_eq_none (by simp; omega)]; rfl
theorem at0_set {B : List Int} {k : Nat} (hk : k < B.length) {x s : Int} (s0 : 0 ≤ s) : at0 (B.set k x) s = if s = (k : Int) then x else at0 B s := by
  unfold at0
  rw [List.getD_eq_getElem?_getD, List.getD_eq_getElem?_getD, List.getElem?_set]
  by_cases h : s = (k : Int)
  · rw [if_pos h, if_pos (by omega), if_pos hk]; rfl
  · rw [if_neg h, if_neg (by omega)]
/-- what a literal became has its truth -/
theorem bec_lit {B : List Int} {U W : List Bool} (hB : ∀ y ∈ B, 0 ≤ y) (h : ∀ s : Nat, s < B.length → lit U (at0 B s) = W.getD s false) {x : Int} (x0 : 0 ≤ x) (x1 : x < 2 * (B.length : Int)) : lit U (bec B x) = lit W x := by
  obtain ⟨h0, h1⟩ := half_in x0 x1
  have hs := h (x / 2).toNat (by omega)
  rw [show (((x / 2).toNat : Nat) : Int) = x / 2 from by omega] at hs
  have hy := hB _ (at0_get h0 h1).2
  unfold bec
  by_cases h2 : x % 2 = 1
  · rw [if_pos h2, lit_turn hy, hs]
    unfold lit
    rw [decide_eq_true h2]
    cases W.getD (x / 2).toNat false <;> rfl
  · rw [if_neg h2, hs]
    unfold lit
    rw [decide_eq_false h2]
    cases W.getD (x / 2).toNat false <;> rfl
end Go.Proofs.Ythjkonkcdfdfaaa
