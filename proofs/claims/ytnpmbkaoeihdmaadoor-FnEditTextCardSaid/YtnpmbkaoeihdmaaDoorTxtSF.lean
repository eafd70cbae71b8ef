/- Texts cut at a byte: both sides cut alike. -/
import Derived.Test.YtnpmbkaoeihdmaaDoorTxtF
import Derived.Test.YtnpmbkaoeihdmaaDoorLwF
import Derived.Lib.SplitLaws
import Derived.Lib.IndexBytes
set_option linter.unusedVariables false
set_option linter.unusedSimpArgs false
namespace Go.Proofs.YtnpmbkaoeihdmaaDoor
open Go Go.Wk Go.Proofs

/-- the pieces between the bytes c -/
def sp (c : UInt8) : List UInt8 → List (List UInt8)
  | [] => [[]]
  | b :: l => if b = c then [] :: sp c l else match sp c l with
    | w :: ws => (b :: w) :: ws
    | [] => [[b]]
theorem sp_ne (c : UInt8) : ∀ l, sp c l ≠ []
  | [] => by simp [sp]
  | b :: l => by
    unfold sp
    split
    · simp
    · cases sp c l <;> simp
theorem sp_other {c b : UInt8} {l w : List UInt8} {ws : List (List UInt8)} (h : ¬ b = c) (e : sp c l = w :: ws) : sp c (b :: l) = (b :: w) :: ws := by
  unfold sp
  rw [if_neg h, e]
theorem sp_same {c : UInt8} (l : List UInt8) : sp c (c :: l) = [] :: sp c l := by
  rw [sp, if_pos rfl]
theorem sp_len (c : UInt8) : ∀ l, (sp c l).length ≤ l.length + 1 ∧ ∀ w ∈ sp c l, w.length ≤ l.length
  | [] => by simp [sp]
  | b :: l => by
    obtain ⟨h1, h2⟩ := sp_len c l
    by_cases h : b = c
    · subst h
      rw [sp_same]
      refine ⟨by simp only [List.length_cons]; omega, fun w hw => ?_⟩
      rcases List.mem_cons.1 hw with rfl | hw
      · simp
      · have := h2 w hw; simp only [List.length_cons]; omega
    · obtain ⟨w, ws, e⟩ := List.exists_cons_of_ne_nil (sp_ne c l)
      rw [sp_other h e]
      rw [e] at h1 h2
      refine ⟨by simp only [List.length_cons] at h1 ⊢; omega, fun x hx => ?_⟩
      rcases List.mem_cons.1 hx with rfl | hx
      · have := h2 w (List.mem_cons_self ..)
        simp only [List.length_cons]; omega
      · have := h2 x (List.mem_cons_of_mem _ hx); simp only [List.length_cons]; omega
/-- a byte behind -/
theorem sp_snoc (c x : UInt8) : ∀ (l : List UInt8) (d : List (List UInt8)) (w : List UInt8), sp c l = d ++ [w] → sp c (l ++ [x]) = if x = c then d ++ [w] ++ [[]] else d ++ [w ++ [x]]
  | [], d, w, h => by
    have : d = [] ∧ w = [] := by
      cases d with
      | nil => simpa [sp] using h.symm
      | cons y d => simp [sp] at h
    obtain ⟨rfl, rfl⟩ := this
    by_cases hx : x = c
    · subst hx; simp [sp]
    · simp [sp, hx]
  | b :: l, d, w, h => by
    by_cases hb : b = c
    · subst hb
      rw [sp_same] at h
      rw [List.cons_append, sp_same]
      cases d with
      | nil =>
        simp only [List.nil_append, List.cons.injEq] at h
        exact absurd h.2 (sp_ne _ _)
      | cons y d =>
        simp only [List.cons_append, List.cons.injEq] at h
        obtain ⟨rfl, h⟩ := h
        rw [sp_snoc b x l d w h]
        split <;> simp
    · obtain ⟨w1, ws, e⟩ := List.exists_cons_of_ne_nil (sp_ne c l)
      rw [sp_other hb e] at h
      cases d with
      | nil =>
        simp only [List.nil_append, List.cons.injEq] at h
        obtain ⟨rfl, rfl⟩ := h
        have := sp_snoc c x l [] w1 (by rw [e]; rfl)
        rw [List.cons_append]
        by_cases hx : x = c
        · rw [if_pos hx] at this ⊢
          rw [sp_other hb (w := w1) (ws := [[]]) (by rw [this]; rfl)]
          rfl
        · rw [if_neg hx] at this ⊢
          rw [sp_other hb (w := w1 ++ [x]) (ws := []) (by rw [this]; rfl)]
          rfl
      | cons y d =>
        simp only [List.cons_append, List.cons.injEq] at h
        obtain ⟨rfl, rfl⟩ := h
        have := sp_snoc c x l (w1 :: d) w (by rw [e]; rfl)
        rw [List.cons_append]
        by_cases hx : x = c
        · rw [if_pos hx] at this ⊢
          rw [sp_other hb (w := w1) (ws := d ++ [w] ++ [[]]) (by rw [this]; rfl)]
          rfl
        · rw [if_neg hx] at this ⊢
          rw [sp_other hb (w := w1) (ws := d ++ [w ++ [x]]) (by rw [this]; rfl)]
          rfl
/-- the pieces joined again -/
theorem sp_join (c : UInt8) : ∀ l, Lib.join (sp c l) [c] = l
  | [] => by simp [sp, Lib.join_one]
  | b :: l => by
    have ih := sp_join c l
    obtain ⟨w, ws, e⟩ := List.exists_cons_of_ne_nil (sp_ne c l)
    rw [e, Lib.join_cons] at ih
    by_cases hb : b = c
    · subst hb
      rw [sp_same, Lib.join_cons, e, List.nil_append]
      show ((([b] ++ w) :: (ws.map ([b] ++ ·)))).flatten = _
      rw [List.flatten_cons]
      show [b] ++ w ++ Lib.joinTail [b] ws = _
      rw [List.append_assoc, ih]; rfl
    · rw [sp_other hb e, Lib.join_cons, List.cons_append, ih]
theorem sp_none {c : UInt8} : ∀ {l : List UInt8}, c ∉ l → sp c l = [l]
  | [], _ => rfl
  | b :: l, h => by
    have h1 : ¬ b = c := fun e => h (by rw [e]; exact List.mem_cons_self ..)
    exact sp_other h1 (sp_none fun hm => h (List.mem_cons_of_mem _ hm))
theorem sp_first {c : UInt8} (r : List UInt8) : ∀ {w : List UInt8}, c ∉ w → sp c (w ++ c :: r) = w :: sp c r
  | [], _ => sp_same r
  | b :: w, h => by
    have h1 : ¬ b = c := fun e => h (by rw [e]; exact List.mem_cons_self ..)
    exact sp_other h1 (sp_first r fun hm => h (List.mem_cons_of_mem _ hm))
theorem sp_mem {c : UInt8} : ∀ {l w : List UInt8}, w ∈ sp c l → c ∉ w
  | [], w, h => by
    simp only [sp, List.mem_singleton] at h
    rw [h]; simp
  | b :: l, w, h => by
    by_cases hb : b = c
    · subst hb
      rw [sp_same] at h
      rcases List.mem_cons.1 h with rfl | h
      · simp
      · exact sp_mem h
    · obtain ⟨w1, ws, e⟩ := List.exists_cons_of_ne_nil (sp_ne c l)
      rw [sp_other hb e] at h
      rcases List.mem_cons.1 h with rfl | h
      · intro hm
        rcases List.mem_cons.1 hm with hm | hm
        · exact hb hm.symm
        · exact sp_mem (l := l) (by rw [e]; exact List.mem_cons_self ..) hm
      · exact sp_mem (l := l) (by rw [e]; exact List.mem_cons_of_mem _ h)
theorem index_cons1 (b c : UInt8) (l : List UInt8) : Lib.index (b :: l) [c] = if b = c then 0 else if Lib.index l [c] == -1 then -1 else Lib.index l [c] + 1 := by
  conv => lhs; unfold Lib.index
  by_cases h : b = c
  · subst h; simp [List.isPrefixOf]
  · have : ¬ c = b := fun e => h e.symm
    simp [List.isPrefixOf, h, this]
theorem splitK_sp (c : UInt8) : ∀ (l : List UInt8) (k : Nat), l.count c ≤ k → Lib.splitK [c] 0 k l = sp c l
  | [], 0, _ => rfl
  | [], k + 1, _ => by
    have : (Lib.index [] [c] == -1) = true := by simp [Lib.index]
    unfold Lib.splitK
    rw [if_pos this]; rfl
  | b :: l, k, h => by
    by_cases hb : b = c
    · subst hb
      rw [List.count_cons_self] at h
      obtain ⟨k, rfl⟩ : ∃ j, k = j + 1 := ⟨k - 1, by omega⟩
      unfold Lib.splitK
      rw [index_cons1, if_pos rfl, sp_same]
      simp only [show ((0 : Int) == -1) = false from rfl, Bool.false_eq_true, if_false]
      show [] :: Lib.splitK [b] 0 k l = _
      rw [splitK_sp b l k (by omega)]
    · rw [List.count_cons_of_ne hb] at h
      have ih := splitK_sp c l k h
      cases k with
      | zero =>
        have e : sp c l = [l] := ih.symm
        rw [sp_other hb e]; rfl
      | succ k =>
        unfold Lib.splitK at ih ⊢
        rw [index_cons1, if_neg hb]
        by_cases hi : (Lib.index l [c] == -1) = true
        · rw [if_pos hi] at ih
          rw [if_pos hi]
          simp only [beq_self_eq_true, if_true]
          rw [sp_other hb ih.symm]
        · rw [if_neg hi] at ih
          rw [if_neg hi]
          have hge := Lib.index_ge l [c]
          have hne : Lib.index l [c] ≠ -1 := fun e => hi (by rw [e]; rfl)
          have h2 : ((Lib.index l [c] + 1) == -1) = false := by rw [beq_eq_false_iff_ne]; omega
          rw [h2]
          simp only [Bool.false_eq_true, if_false]
          have hn : (Lib.index l [c] + 1).toNat = (Lib.index l [c]).toNat + 1 := by omega
          rw [hn, sp_other hb ih.symm]
          simp only [Nat.add_zero, List.length_singleton]
          rfl
theorem splitS_ofL {c : UInt8} {l : List UInt8} (h : l.length < 4294967281) : splitS (ofL l) (ofL [c]) = some ((sp c l).map ofL) := by
  have hd := Lib.splitB_data (ofL [c]) 0 (Lib.countB (ofL l) (ofL [c])) (ofL l)
  have hc : Lib.countB (ofL l) (ofL [c]) = l.count c := Lib.count_one c l
  unfold splitS
  rw [if_pos ⟨h, by rw [ofL_size]; simp⟩, hc]
  rw [hc] at hd
  rw [ofL_data, ofL_data, splitK_sp c l _ (Nat.le_refl _)] at hd
  rw [← hd, List.map_map]
  congr 1
  conv => lhs; rw [← List.map_id (Lib.splitB _ _ _ _)]
  apply List.map_congr_left
  intro x _
  exact (ofL_self x).symm
theorem take_snoc {α : Type} {l : List α} {i : Nat} {x : α} (h : l[i]? = some x) : l.take (i + 1) = l.take i ++ [x] := by
  rw [List.take_add_one, h]; rfl
theorem extract_ofL (l : List UInt8) (a b : Nat) : (ofL l).extract a b = ofL ((l.take b).drop a) := by
  apply ByteArray.ext
  apply Array.toList_inj.1
  rw [Lib.extract_data, ofL_data, ofL_data]
  exact (List.drop_take ..).symm
theorem subB_ofL {l : List UInt8} {a b : Nat} (h1 : a ≤ b) (h2 : b ≤ l.length) : subB (ofL l) (a : Int) (b : Int) = some (ofL ((l.take b).drop a)) := by
  unfold subB
  rw [ofL_size, if_pos ⟨by omega, by omega, by omega⟩, Int.toNat_natCast, Int.toNat_natCast, extract_ofL]
theorem idxB_ofL {l : List UInt8} {i : Nat} {x : UInt8} (h : l[i]? = some x) : idxB (ofL l) (i : Int) = some (x.toNat : Int) := by
  have hi := (List.getElem?_eq_some_iff.1 h).1
  unfold idxB
  rw [ofL_size, if_pos ⟨by omega, by omega⟩, Int.toNat_natCast, ofL_data, List.getD_eq_getElem?_getD, h]; rfl
theorem u8_eq (x c : UInt8) : ((x.toNat : Int) == (c.toNat : Int)) = decide (x = c) := by
  by_cases h : x = c
  · subst h; simp
  · have : x.toNat ≠ c.toNat := fun e => h (UInt8.toNat_inj.1 e)
    rw [decide_eq_false h, beq_eq_false_iff_ne]; omega
theorem s_l1Split_eq {c : UInt8} {l : List UInt8} (h : l.length ≤ 10000000) : s_l1Split (ofL l) (c.toNat : Int) = some ((sp c l).map ofL) := by
  obtain ⟨o, h1, h2⟩ := while_out (f := s_l1Split_b0 (ofL l) (c.toNat : Int)) (fun j (s : List ByteArray × Int × Int) => j ≤ l.length + 1 ∧
      ((j ≤ l.length ∧ ∃ (d : List (List UInt8)) (from0 : Nat), from0 ≤ j ∧ s = (d.map ofL, (from0 : Int), (j : Int)) ∧ sp c (l.take j) = d ++ [(l.take j).drop from0]) ∨ (j = l.length + 1 ∧ ∃ z, s = ((sp c l).map ofL, z, (j : Int)))))
    (fun _ => False) (fun s => s.1 = (sp c l).map ofL) (l.length + 1) (fun j s ⟨hj, hI⟩ => by
    rcases hI with ⟨hjl, d, f0, hf, hs, hsp⟩ | ⟨hjl, z, hs⟩
    · subst hs
      have hlen := (sp_len c (l.take j)).1
      rw [hsp, List.length_take] at hlen
      simp only [List.length_append, List.length_singleton] at hlen
      unfold s_l1Split_b0
      rw [ofL_size]
      have hle : (j : Int) ≤ ((l.length : Nat) : Int) := by omega
      simp only [hle, decide_true, cond_true]
      by_cases he : j = l.length
      · subst he
        simp only [beq_self_eq_true, cond_true, Option.bind_some]
        rw [subB_ofL hf (Nat.le_refl _), Option.bind_some, app1 (by rw [List.length_map]; omega) rfl, Option.bind_some, Option.bind_some]
        rw [List.take_length] at hsp
        refine ⟨_, rfl, by omega, by omega, .inr ⟨by first | rfl | trivial, ((l.length + 1 : Nat) : Int), ?_⟩⟩
        rw [wr' (z := (l.length : Int) + 1) (by omega) (by omega), hsp, List.map_append, List.take_length]
        rfl
      · have hlt : j < l.length := by omega
        obtain ⟨x, hx⟩ : ∃ x, l[j]? = some x := ⟨_, List.getElem?_eq_getElem hlt⟩
        have hne : ((j : Int) == ((l.length : Nat) : Int)) = false := by rw [beq_eq_false_iff_ne]; omega
        have hsn := sp_snoc c x (l.take j) d _ hsp
        rw [← take_snoc hx] at hsn
        rw [hne]
        simp only [cond_false]
        rw [idxB_ofL hx, Option.bind_some, Option.bind_some, u8_eq]
        have hdr : (l.take (j + 1)).drop f0 = (l.take j).drop f0 ++ [x] := by
          rw [take_snoc hx, List.drop_append_of_le_length (by rw [List.length_take]; omega)]
        by_cases hxc : x = c
        · rw [if_pos hxc] at hsn
          simp only [hxc, decide_true, cond_true]
          rw [subB_ofL hf (by omega), Option.bind_some, app1 (by rw [List.length_map]; omega) rfl, Option.bind_some, Option.bind_some]
          refine ⟨_, rfl, by omega, by omega, .inl ⟨by omega, d ++ [(l.take j).drop f0], j + 1, Nat.le_refl _, ?_, ?_⟩⟩
          · rw [wr' (z := (j : Int) + 1) (by omega) (by omega), List.map_append]
            rfl
          · have e0 : (l.take (j + 1)).drop (j + 1) = [] := List.drop_eq_nil_of_le (by rw [List.length_take]; omega)
            rw [hsn, e0]
        · rw [if_neg hxc] at hsn
          simp only [hxc, decide_false, cond_false, Option.bind_some]
          refine ⟨_, rfl, by omega, by omega, .inl ⟨by omega, d, f0, by omega, ?_, ?_⟩⟩
          · rw [wr' (z := (j : Int) + 1) (by omega) (by omega)]
            rfl
          · rw [hsn, hdr]
    · subst hs hjl
      unfold s_l1Split_b0
      rw [ofL_size]
      have : ¬ (((l.length + 1 : Nat) : Int) ≤ ((l.length : Nat) : Int)) := by omega
      refine ⟨.inr (.inl ((sp c l).map ofL, z, ((l.length + 1 : Nat) : Int))), ?_, rfl⟩
      simp only [this, decide_false, cond_false]) (2 ^ 64) 0 ([], 0, 0) (by omega) ⟨by omega, .inl ⟨by omega, [], 0, Nat.le_refl _, rfl, by simp [sp]⟩⟩ (by omega)
  unfold s_l1Split
  match o, h2 with
  | .inr s, h2 => rw [h1, Option.bind_some, aft_inr, h2]
/-- a text cut at the first byte c -/
def ct (c : UInt8) : List UInt8 → List UInt8 × List UInt8 × Bool
  | [] => ([], [], false)
  | b :: l => if b = c then ([], l, true) else (b :: (ct c l).1, (ct c l).2.1, (ct c l).2.2)
theorem cut_ct (c : UInt8) : ∀ l : List UInt8, Lib.cut l [c] = ct c l
  | [] => by simp [Lib.cut, Lib.index, ct]
  | b :: l => by
    have ih := cut_ct c l
    unfold Lib.cut at ih ⊢
    rw [index_cons1]
    by_cases hb : b = c
    · subst hb; simp [ct]
    · rw [if_neg hb]
      have hge := Lib.index_ge l [c]
      by_cases hi : (Lib.index l [c] == -1) = true
      · have e : Lib.index l [c] = -1 := beq_iff_eq.1 hi
        rw [if_pos hi]
        rw [e] at ih
        simp only [show ¬ (0 : Int) ≤ -1 from by omega, if_false] at ih ⊢
        unfold ct
        rw [if_neg hb, ← ih]
      · have hne : Lib.index l [c] ≠ -1 := fun e => hi (by rw [e]; rfl)
        rw [if_neg hi]
        rw [if_pos (by omega)] at ih
        rw [if_pos (by omega)]
        have hn : (Lib.index l [c] + 1).toNat = (Lib.index l [c]).toNat + 1 := by omega
        unfold ct
        rw [if_neg hb, ← ih, hn]
        simp only [List.length_singleton, List.take_succ_cons]
        rfl
theorem ct_sp (c : UInt8) : ∀ l : List UInt8, ((ct c l).2.2 = true ∧ sp c l = (ct c l).1 :: sp c (ct c l).2.1) ∨ ((ct c l).2.2 = false ∧ sp c l = [l])
  | [] => .inr ⟨rfl, rfl⟩
  | b :: l => by
    by_cases hb : b = c
    · subst hb
      refine .inl ⟨by simp [ct], ?_⟩
      rw [sp_same]; simp [ct]
    · rcases ct_sp c l with ⟨h1, h2⟩ | ⟨h1, h2⟩
      · refine .inl ⟨by unfold ct; rw [if_neg hb]; exact h1, ?_⟩
        rw [sp_other hb h2]
        conv => rhs; unfold ct
        rw [if_neg hb]
      · refine .inr ⟨by unfold ct; rw [if_neg hb]; exact h1, sp_other hb h2⟩
theorem ct_len (c : UInt8) : ∀ l : List UInt8, (ct c l).1.length ≤ l.length ∧ (ct c l).2.1.length ≤ l.length
  | [] => by simp [ct]
  | b :: l => by
    obtain ⟨h1, h2⟩ := ct_len c l
    unfold ct
    split
    · simp
    · simp only [List.length_cons]; omega
theorem cutB_ofL {c : UInt8} {l : List UInt8} (h : l.length < 4294967281) : cutB (ofL l) (ofL [c]) = some (ofL (ct c l).1, ofL (ct c l).2.1, (ct c l).2.2) := by
  unfold cutB
  rw [ofL_size, if_pos h, ofL_data, ofL_data, cut_ct]; rfl
end Go.Proofs.YtnpmbkaoeihdmaaDoor
