/- Lists of marks, lists of predecessors. Plain law. -/
import Derived.Test.YtndiklipffipcaaAttT
set_option linter.unusedVariables false
set_option linter.unusedSimpArgs false
namespace Go.Proofs.Ytndiklipffipcaa
open Go Go.Wk Go.Proofs

/-- is u a successor of v -/
def hasN (N : List (List Int)) (u : Int) (v : Nat) : Bool := match N[v]? with
  | some r => decide (u ∈ r)
  | none => false
/-- the predecessors of u under j -/
def prevL (N : List (List Int)) (u : Int) (j : Nat) : List Int := ((List.range j).filter (hasN N u)).map Int.ofNat
theorem prevL_succ (N : List (List Int)) (u : Int) (j : Nat) : prevL N u (j + 1) = prevL N u j ++ (if hasN N u j = true then [(j : Int)] else []) := by
  unfold prevL
  rw [List.range_succ, List.filter_append, List.map_append]
  congr 1
  by_cases h : hasN N u j = true
  · rw [if_pos h, List.filter_cons, if_pos h]; rfl
  · rw [if_neg h, List.filter_cons, if_neg h]; rfl
theorem nodup_mapN : ∀ {xs : List Nat}, xs.Nodup → (xs.map Int.ofNat).Nodup
  | [], _ => by simp
  | x :: xs, h => by
    obtain ⟨h1, h2⟩ := List.nodup_cons.1 h
    rw [List.map_cons, List.nodup_cons]
    refine ⟨fun hm => ?_, nodup_mapN h2⟩
    obtain ⟨y, hy, e⟩ := List.mem_map.1 hm
    have : y = x := Int.ofNat.inj e
    exact h1 (this ▸ hy)
theorem prevL_nodup (N : List (List Int)) (u : Int) (j : Nat) : (prevL N u j).Nodup := by
  unfold prevL
  exact nodup_mapN (List.nodup_range.filter _)
theorem prevL_len (N : List (List Int)) (u : Int) (j : Nat) : (prevL N u j).length ≤ j := by
  unfold prevL
  rw [List.length_map]
  exact Nat.le_trans (List.length_filter_le _ _) (by rw [List.length_range]; omega)
theorem mem_prevL {N : List (List Int)} {u v : Int} {n : Nat} (hn : N.length = n) : v ∈ prevL N u n ↔ ∃ r, idx N v = some r ∧ u ∈ r := by
  unfold prevL
  rw [List.mem_map]
  constructor
  · rintro ⟨w, hw, rfl⟩
    obtain ⟨h1, h2⟩ := List.mem_filter.1 hw
    unfold hasN at h2
    rw [List.mem_range] at h1
    have e : N[w]? = some N[w] := List.getElem?_eq_getElem (by omega)
    rw [e] at h2
    exact ⟨N[w], by rw [show (Int.ofNat w) = (w : Int) from rfl, idx_nat, e], by simpa using h2⟩
  · rintro ⟨r, hr, hu⟩
    obtain ⟨h0, h1⟩ := idx_rng hr
    obtain ⟨w, hw⟩ := ex_nat h0
    subst hw
    rw [idx_nat] at hr
    refine ⟨w, List.mem_filter.2 ⟨List.mem_range.2 (by omega), ?_⟩, rfl⟩
    unfold hasN
    rw [hr]
    simpa using hu
/-- the table amid row j, after i of its entries -/
def PrevM (N : List (List Int)) (n j : Nat) (row : List Int) (i : Nat) (t : List (List Int)) : Prop := t.length = n ∧ ∀ u : Int, 0 ≤ u → u < n → idx t u = some (prevL N u j ++ (if u ∈ row.take i then [(j : Int)] else []))
def PrevT (N : List (List Int)) (n j : Nat) (t : List (List Int)) : Prop := t.length = n ∧ ∀ u : Int, 0 ≤ u → u < n → idx t u = some (prevL N u j)
theorem PrevT.zero {N : List (List Int)} {n : Nat} : PrevT N n 0 (List.replicate n []) := ⟨by simp, fun u u0 u1 => by
  rw [idx_int u0, List.getElem?_replicate, if_pos (by omega)]; rfl⟩
theorem PrevT.first {N : List (List Int)} {n j : Nat} {t : List (List Int)} (h : PrevT N n j t) (row : List Int) : PrevM N n j row 0 t := ⟨h.1, fun u u0 u1 => by rw [h.2 u u0 u1]; simp⟩
theorem PrevM.last {N : List (List Int)} {n j : Nat} {row : List Int} {t : List (List Int)} (hr : N[j]? = some row) (h : PrevM N n j row row.length t) : PrevT N n (j + 1) t := ⟨h.1, fun u u0 u1 => by
  rw [h.2 u u0 u1, prevL_succ, List.take_length]
  unfold hasN
  rw [hr]
  by_cases hu : u ∈ row <;> simp [hu]⟩
theorem PrevM.step {N : List (List Int)} {n j i : Nat} {row : List Int} {t : List (List Int)} {u : Int} (h : PrevM N n j row i t) (hu : row[i]? = some u) (hn : row.Nodup) (u0 : 0 ≤ u) (u1 : u < n) :
    ∃ old, idx t u = some old ∧ old.length ≤ j + 1 ∧ ∃ t', setI t u (old ++ [(j : Int)]) = some t' ∧ PrevM N n j row (i + 1) t' := by
  refine ⟨_, h.2 u u0 u1, ?_, ?_⟩
  · have := prevL_len N u j
    rw [List.length_append]
    split
    · simp; omega
    · simp; omega
  · have hnot : u ∉ row.take i := by
      have h2 := hn.sublist (List.take_sublist (i + 1) row)
      rw [List.take_add_one, hu, List.nodup_append] at h2
      exact fun hm => h2.2.2 u hm u (by simp) rfl
    obtain ⟨t', h1, h2⟩ := setI_some (xs := t) (i := u) (prevL N u j ++ (if u ∈ row.take i then [(j : Int)] else []) ++ [(j : Int)]) u0 (by rw [h.1]; exact u1)
    refine ⟨t', h1, by rw [h2]; exact h.1, fun w w0 w1 => ?_⟩
    have htk : row.take (i + 1) = row.take i ++ [u] := by rw [List.take_add_one, hu]; rfl
    rw [idx_setI h1, htk]
    by_cases e : w = u
    · subst e
      rw [if_pos rfl, if_neg hnot]
      simp
    · rw [if_neg e, h.2 w w0 w1]
      congr 2
      simp [e]
/-- the marked ones, in a row -/
def marksL (B : List Bool) (j : Nat) : List Int := ((List.range j).filter (fun v => B[v]?.getD false)).map Int.ofNat
theorem marksL_succ {B : List Bool} {j : Nat} {b : Bool} (h : B[j]? = some b) : marksL B (j + 1) = marksL B j ++ (if b = true then [(j : Int)] else []) := by
  unfold marksL
  rw [List.range_succ, List.filter_append, List.map_append]
  congr 1
  rw [List.filter_cons, h]
  cases b <;> rfl
theorem marksL_nodup (B : List Bool) (j : Nat) : (marksL B j).Nodup := by
  unfold marksL
  exact nodup_mapN (List.nodup_range.filter _)
theorem marksL_len (B : List Bool) (j : Nat) : (marksL B j).length ≤ j := by
  unfold marksL
  rw [List.length_map]
  exact Nat.le_trans (List.length_filter_le _ _) (by rw [List.length_range]; omega)
theorem mem_marksL {B : List Bool} {v : Int} : v ∈ marksL B B.length ↔ In B v := by
  unfold marksL In
  rw [List.mem_map]
  constructor
  · rintro ⟨w, hw, rfl⟩
    obtain ⟨h1, h2⟩ := List.mem_filter.1 hw
    rw [List.mem_range] at h1
    rw [show (Int.ofNat w) = (w : Int) from rfl, idx_nat]
    have e : B[w]? = some B[w] := List.getElem?_eq_getElem h1
    rw [e] at h2 ⊢
    simpa using h2
  · intro h
    obtain ⟨h0, h1⟩ := idx_rng h
    obtain ⟨w, hw⟩ := ex_nat h0
    subst hw
    rw [idx_nat] at h
    exact ⟨w, List.mem_filter.2 ⟨List.mem_range.2 (by omega), by rw [h]; rfl⟩, rfl⟩
theorem nodup_sub {ys : List Int} : ∀ {xs : List Int}, xs.Nodup → (∀ x ∈ xs, x ∈ ys) → xs.length ≤ ys.length := by
  induction ys with
  | nil =>
    intro xs _ h
    cases xs with
    | nil => simp
    | cons x xs => exact absurd (h x (List.mem_cons_self ..)) (by simp)
  | cons y ys ih =>
    intro xs hn h
    by_cases hm : y ∈ xs
    · have h1 := List.length_erase_of_mem hm
      have h2 := ih (xs := xs.erase y) (hn.erase _) (fun x hx => by
        rw [hn.mem_erase_iff] at hx
        exact (List.mem_cons.1 (h x hx.2)).resolve_left hx.1)
      rw [List.length_cons]
      omega
    · have := ih (xs := xs) hn (fun x hx => (List.mem_cons.1 (h x hx)).resolve_left fun e => hm (e ▸ hx))
      rw [List.length_cons]
      omega
/-- how many are marked -/
def cnt (B : List Bool) : Nat := (marksL B B.length).length
theorem cnt_le (B : List Bool) : cnt B ≤ B.length := marksL_len _ _
theorem cnt_sub {A B : List Bool} (h : ∀ v, In A v → In B v) : cnt A ≤ cnt B := by
  unfold cnt
  exact nodup_sub (marksL_nodup _ _) fun v hv => mem_marksL.2 (h v (mem_marksL.1 hv))
theorem cnt_lt {A B : List Bool} (h : ∀ v, In A v → In B v) {w : Int} (hw : In B w) (hn : ¬ In A w) : cnt A < cnt B := by
  have hs : ∀ v ∈ w :: marksL A A.length, v ∈ marksL B B.length := fun v hv => by
    rcases List.mem_cons.1 hv with rfl | hv
    · exact mem_marksL.2 hw
    · exact mem_marksL.2 (h v (mem_marksL.1 hv))
  have hd : (w :: marksL A A.length).Nodup := List.nodup_cons.2 ⟨fun hm => hn (mem_marksL.1 hm), marksL_nodup _ _⟩
  have := nodup_sub hd hs
  rw [List.length_cons] at this
  exact this
theorem cnt_zero {B : List Bool} (h : cnt B = 0) (v : Int) : ¬ In B v := fun hv => by
  have := mem_marksL.2 hv
  unfold cnt at h
  rw [List.length_eq_zero_iff] at h
  rw [h] at this
  cases this
end Go.Proofs.Ytndiklipffipcaa
