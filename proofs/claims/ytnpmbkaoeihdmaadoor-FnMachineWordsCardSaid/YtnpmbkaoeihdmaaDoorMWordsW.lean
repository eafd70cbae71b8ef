/- The text of a machine, read again. -/
import Derived.Test.YtnpmbkaoeihdmaaDoorTMachW
import Derived.Test.YtnpmbkaoeihdmaaDoorMTextW
set_option linter.unusedVariables false
set_option linter.unusedSimpArgs false
namespace Go.Proofs.YtnpmbkaoeihdmaaDoor
open Go Go.Wk Go.Proofs

theorem toNat48 {d : Nat} (h : d < 10) : (UInt8.ofNat (48 + d)).toNat = 48 + d := by
  rw [UInt8.toNat_ofNat']; omega
theorem rdN_small {n : Nat} (h : n < 100) : rdN (Lib.decDigits n) = some n := by
  by_cases h1 : n < 10
  · rw [dec_small h1]
    unfold rdN
    rw [if_neg (by simp)]
    unfold foldDig
    rw [toNat48 h1, if_pos (by omega)]
    unfold foldDig
    congr 1; omega
  · rw [dec_big h1, dec_small (by omega)]
    unfold rdN
    have h2 : ¬ UInt8.ofNat (48 + n / 10) = 48 := fun e => by
      have := congrArg UInt8.toNat e
      rw [toNat48 (by omega)] at this
      have e48 : (48 : UInt8).toNat = 48 := rfl
      omega
    rw [if_neg (fun hh => by
      rcases hh with hh | hh | ⟨hh, _⟩
      · simp at hh
      · simp at hh
      · exact h2 (Option.some.inj hh))]
    show foldDig 0 [UInt8.ofNat (48 + n / 10), UInt8.ofNat (48 + n % 10)] = _
    unfold foldDig
    rw [toNat48 (by omega), if_pos (by omega)]
    unfold foldDig
    rw [toNat48 (by omega), if_pos (by omega)]
    unfold foldDig
    congr 1; omega
theorem dec_dig {n : Nat} (h : n < 100) : ∀ x ∈ Lib.decDigits n, 48 ≤ x.toNat ∧ x.toNat ≤ 57 := rdN_dig (rdN_small h)
theorem dec_len2 {n : Nat} (h : n < 100) : (Lib.decDigits n).length ≤ 2 := by
  by_cases h1 : n < 10
  · rw [dec_small h1]; simp
  · rw [dec_big h1, dec_small (by omega)]; simp
theorem cellP_cell {a b : Int} (a0 : 0 ≤ a) (a1 : a < 100) (b0 : 0 ≤ b) (b1 : b < 100) : cellP (cell1 a b) = some (a, b) := by
  obtain ⟨m, rfl⟩ := ex_nat a0
  obtain ⟨n, rfl⟩ := ex_nat b0
  have h1 : (47 : UInt8) ∉ Lib.decDigits m := fun hm => by have := dec_dig (by omega) _ hm; simp at this
  have h2 : (47 : UInt8) ∉ Lib.decDigits n := fun hm => by have := dec_dig (by omega) _ hm; simp at this
  have hs : sp 47 (cell1 (m : Int) (n : Int)) = [Lib.decDigits m, Lib.decDigits n] := by
    unfold cell1
    rw [Int.toNat_natCast, Int.toNat_natCast, List.append_assoc, List.singleton_append, sp_first _ h1, sp_none h2]
  rw [cellP_one hs, rdN_small (by omega), rdN_small (by omega)]
theorem cell_no {a b : Int} (a0 : 0 ≤ a) (a1 : a < 100) (b0 : 0 ≤ b) (b1 : b < 100) : (32 : UInt8) ∉ cell1 a b ∧ (10 : UInt8) ∉ cell1 a b ∧ (cell1 a b).length ≤ 5 := by
  obtain ⟨m, rfl⟩ := ex_nat a0
  obtain ⟨n, rfl⟩ := ex_nat b0
  have d1 := dec_dig (n := m) (by omega)
  have d2 := dec_dig (n := n) (by omega)
  have l1 := dec_len2 (n := m) (by omega)
  have l2 := dec_len2 (n := n) (by omega)
  unfold cell1
  rw [Int.toNat_natCast, Int.toNat_natCast]
  refine ⟨fun hm => ?_, fun hm => ?_, by simp only [List.length_append, List.length_singleton]; omega⟩
  · simp only [List.mem_append, List.mem_singleton] at hm
    rcases hm with (hm | hm) | hm
    · have := d1 _ hm; simp at this
    · exact absurd hm (by decide)
    · have := d2 _ hm; simp at this
  · simp only [List.mem_append, List.mem_singleton] at hm
    rcases hm with (hm | hm) | hm
    · have := d1 _ hm; simp at this
    · exact absurd hm (by decide)
    · have := d2 _ hm; simp at this
theorem sp_joined {c : UInt8} : ∀ {w : List UInt8} {ws : List (List UInt8)}, (∀ x ∈ w :: ws, c ∉ x) → sp c (Lib.join (w :: ws) [c]) = w :: ws
  | w, [], h => by rw [Lib.join_one]; exact sp_none (h w (List.mem_cons_self ..))
  | w, v :: ws, h => by
    have ih := sp_joined (w := v) (ws := ws) fun x hx => h x (List.mem_cons_of_mem _ hx)
    have e : Lib.join (w :: v :: ws) [c] = w ++ c :: Lib.join (v :: ws) [c] := by
      rw [Lib.join_cons, Lib.join_cons]
      simp [Lib.joinTail]
    rw [e, sp_first _ (h w (List.mem_cons_self ..)), ih]
theorem sp_lines {c : UInt8} {r : List UInt8} (hr : c ∉ r) : ∀ {Ls : List (List UInt8)}, (∀ x ∈ Ls, c ∉ x) → sp c ((Ls.map fun x => x ++ [c]).flatten ++ r) = Ls ++ [r]
  | [], _ => sp_none hr
  | x :: Ls, h => by
    have ih := sp_lines hr (Ls := Ls) fun y hy => h y (List.mem_cons_of_mem _ hy)
    rw [List.map_cons, List.flatten_cons, List.append_assoc, List.append_assoc, List.singleton_append, sp_first _ (h x (List.mem_cons_self ..)), ih]; rfl
theorem sp_count (c : UInt8) : ∀ l : List UInt8, (sp c l).length = l.count c + 1
  | [] => rfl
  | b :: l => by
    have ih := sp_count c l
    by_cases hb : b = c
    · subst hb
      rw [sp_same, List.length_cons, ih, List.count_cons_self]
    · obtain ⟨w, ws, e⟩ := List.exists_cons_of_ne_nil (sp_ne c l)
      rw [sp_other hb e, List.count_cons_of_ne hb, ← ih, e]; rfl
theorem join_no {c d : UInt8} (hcd : c ≠ d) : ∀ {ws : List (List UInt8)}, (∀ x ∈ ws, c ∉ x) → c ∉ Lib.join ws [d]
  | [], _ => by simp [Lib.join_nil]
  | w :: ws, h => by
    rw [Lib.join_cons]
    intro hm
    rcases List.mem_append.1 hm with hm | hm
    · exact h w (List.mem_cons_self ..) hm
    · unfold Lib.joinTail at hm
      obtain ⟨y, hy, hm⟩ := List.mem_flatten.1 hm
      obtain ⟨x, hx, rfl⟩ := List.mem_map.1 hy
      rcases List.mem_append.1 hm with hm | hm
      · exact hcd (List.mem_singleton.1 hm)
      · exact h x (List.mem_cons_of_mem _ hx) hm
/-- the lines of a machine without their ends -/
def bodyM (m : Machine) : List (List UInt8) := (m.Next.zip m.Out).map fun p => Lib.join (wordsM p.1 p.2) [32]
theorem textM_body (m : Machine) : textM m = ((bodyM m).map fun x => x ++ [10]).flatten := by
  unfold textM linesM bodyM
  rw [List.map_map]; rfl
section
variable {p : Sig} {m : Machine} (hm : machOk p m = true)
include hm
theorem pair_in {row outs : List Int} (h : (row, outs) ∈ m.Next.zip m.Out) : outs.length = row.length ∧ 1 ≤ row.length ∧ row.length ≤ 4 ∧ (∀ x ∈ row, 0 ≤ x ∧ x < 48) ∧ ∀ x ∈ outs, 0 ≤ x ∧ x < 4 := by
  obtain ⟨i, hi⟩ := List.mem_iff_getElem?.1 h
  obtain ⟨m1, m2, m3, m4, m5⟩ := machOk_spec hm
  obtain ⟨h1, h2⟩ : m.Next[i]? = some row ∧ m.Out[i]? = some outs := by
    rw [List.getElem?_zip_eq_some] at hi; exact hi
  obtain ⟨outs', ho, e1, e2, e3, e4⟩ := machRow hm h1
  rw [h2] at ho
  cases ho
  have := (m4 row (List.mem_of_getElem? h1)).1
  have pI := pw_le p.In
  exact ⟨e1, by omega, e2, e3, e4⟩
theorem words_no {row outs : List Int} (h : (row, outs) ∈ m.Next.zip m.Out) : ∀ w ∈ wordsM row outs, (32 : UInt8) ∉ w ∧ (10 : UInt8) ∉ w ∧ w.length ≤ 5 := by
  obtain ⟨e1, e0, e2, e3, e4⟩ := pair_in hm h
  intro w hw
  unfold wordsM at hw
  obtain ⟨⟨a, b⟩, hp, rfl⟩ := List.mem_map.1 hw
  have h8 := List.of_mem_zip hp
  have h9 := e3 a h8.1
  have h10 := e4 b h8.2
  exact cell_no h9.1 (by omega) h10.1 (by omega)
theorem body_no : ∀ x ∈ bodyM m, (10 : UInt8) ∉ x := fun x hx => by
  obtain ⟨⟨row, outs⟩, hp, rfl⟩ := List.mem_map.1 hx
  exact join_no (by decide) fun w hw => (words_no hm hp w hw).2.1
theorem body_row {row outs : List Int} (h : (row, outs) ∈ m.Next.zip m.Out) : rowP (Lib.join (wordsM row outs) [32]) = some (row, outs) ∧ (Lib.join (wordsM row outs) [32]).length ≤ 30 := by
  obtain ⟨e1, e0, e2, e3, e4⟩ := pair_in hm h
  have hn := words_no hm h
  have hwl := wordsM_len e1
  obtain ⟨w, ws, hw⟩ := List.exists_cons_of_ne_nil (show wordsM row outs ≠ [] from fun e => by rw [e] at hwl; simp at hwl; omega)
  have hsp : sp 32 (Lib.join (wordsM row outs) [32]) = wordsM row outs := by
    rw [hw]
    exact sp_joined fun x hx => (hn x (by rw [hw]; exact hx)).1
  have hz : mapO cellP (wordsM row outs) = some (row.zip outs) := by
    unfold wordsM
    have : ∀ (ps : List (Int × Int)), (∀ q ∈ ps, 0 ≤ q.1 ∧ q.1 < 48 ∧ 0 ≤ q.2 ∧ q.2 < 4) → mapO cellP (ps.map fun p => cell1 p.1 p.2) = some ps := fun ps => by
      induction ps with
      | nil => intro _; rfl
      | cons q ps ih =>
        intro hq
        have h1 := hq q (List.mem_cons_self ..)
        rw [List.map_cons, mapO_cons (cellP_cell h1.1 (by omega) h1.2.2.1 (by omega)), ih fun x hx => hq x (List.mem_cons_of_mem _ hx)]; rfl
    exact this _ fun q hq => by
      obtain ⟨a, b⟩ := q
      have h8 := List.of_mem_zip hq
      have h9 := e3 a h8.1
      have h10 := e4 b h8.2
      exact ⟨h9.1, h9.2, h10.1, h10.2⟩
  refine ⟨?_, ?_⟩
  · unfold rowP
    rw [hsp, hz]
    show some ((row.zip outs).map (·.1), (row.zip outs).map (·.2)) = _
    rw [List.map_fst_zip (by omega), List.map_snd_zip (by omega)]
  · have hb : ∀ (xs : List (List UInt8)), (∀ x ∈ xs, x.length ≤ 5) → (Lib.joinTail [32] xs).length ≤ 6 * xs.length := fun xs => by
      induction xs with
      | nil => intro _; simp [Lib.joinTail]
      | cons x xs ih =>
        intro hx
        have h1 := hx x (List.mem_cons_self ..)
        have h2 := ih fun y hy => hx y (List.mem_cons_of_mem _ hy)
        unfold Lib.joinTail at h2 ⊢
        simp only [List.map_cons, List.flatten_cons, List.length_append, List.length_singleton, List.length_cons, List.length_nil] at h2 ⊢
        omega
    rw [hw, Lib.join_cons, List.length_append]
    have h1 := (hn w (by rw [hw]; exact List.mem_cons_self ..)).2.2
    have h2 := hb ws fun x hx => (hn x (by rw [hw]; exact List.mem_cons_of_mem _ hx)).2.2
    have h3 : ws.length + 1 ≤ 4 := by
      rw [hw] at hwl
      simp only [List.length_cons] at hwl
      omega
    omega
theorem body_len : (bodyM m).length = m.Next.length := by
  obtain ⟨m1, m2, m3, m4, m5⟩ := machOk_spec hm
  unfold bodyM
  rw [List.length_map, List.length_zip, m3, Nat.min_self]
theorem text_len : (textM m).length ≤ 2000 := by
  have hb : ∀ (xs : List (List UInt8)), (∀ x ∈ xs, x.length ≤ 30) → ((xs.map fun x => x ++ [10]).flatten : List UInt8).length ≤ 31 * xs.length := fun xs => by
    induction xs with
    | nil => intro _; simp
    | cons x xs ih =>
      intro hx
      have h1 := hx x (List.mem_cons_self ..)
      have h2 := ih fun y hy => hx y (List.mem_cons_of_mem _ hy)
      simp only [List.map_cons, List.flatten_cons, List.length_append, List.length_singleton, List.length_cons, List.length_nil] at h2 ⊢
      omega
  have h1 := hb (bodyM m) fun x hx => by
    obtain ⟨⟨row, outs⟩, hp, rfl⟩ := List.mem_map.1 hx
    exact (body_row hm hp).2
  have h2 := body_len hm
  have h3 := (machOk_spec hm).2.1
  rw [textM_body]
  omega
theorem body_map : mapO rowP (bodyM m) = some (m.Next.zip m.Out) := by
  unfold bodyM
  have : ∀ (ps : List (List Int × List Int)), (∀ q ∈ ps, q ∈ m.Next.zip m.Out) → mapO rowP (ps.map fun p => Lib.join (wordsM p.1 p.2) [32]) = some ps := fun ps => by
    induction ps with
    | nil => intro _; rfl
    | cons q ps ih =>
      intro hq
      rw [List.map_cons, mapO_cons (body_row hm (hq q (List.mem_cons_self ..))).1, ih fun x hx => hq x (List.mem_cons_of_mem _ hx)]; rfl
  exact this _ fun q hq => hq
/-- what is written is read -/
theorem read_text (hs : sigOk p = true) : i_TextMachine p (ofL (textM m)) = some (m, true) := by
  obtain ⟨m1, m2, m3, m4, m5⟩ := machOk_spec hm
  have hl := text_len hm
  have hsp : sp 10 (textM m) = bodyM m ++ [[]] := by
    have := sp_lines (c := 10) (r := []) (by simp) (Ls := bodyM m) (body_no hm)
    rw [List.append_nil] at this
    rw [textM_body]; exact this
  have hL : linesT (textM m) = bodyM m := by unfold linesT; rw [hsp, List.dropLast_concat]
  have hM : moreT (textM m) = false := by unfold moreT; rw [hsp]; simp
  have hmm : machOf (m.Next.zip m.Out) = m := by
    unfold machOf
    rw [List.map_fst_zip (by omega), List.map_snd_zip (by omega)]
  rw [i_TextMachine_eq, if_neg (by omega), hL, hM]
  unfold finP
  rw [body_map hm]
  dsimp only
  rw [hmm, hs, hm]; rfl
theorem read_more : ∃ x, i_TextMachine p (ofL (textM m ++ [48, 47, 48])) = some (x, false) := by
  have hl := text_len hm
  have hsp : sp 10 (textM m ++ [48, 47, 48]) = bodyM m ++ [[48, 47, 48]] := by
    rw [textM_body]
    exact sp_lines (c := 10) (r := [48, 47, 48]) (by decide) (Ls := bodyM m) (body_no hm)
  have hM : moreT (textM m ++ [48, 47, 48]) = true := by unfold moreT; rw [hsp]; simp
  rw [i_TextMachine_eq, if_neg (by simp only [List.length_append, List.length_cons, List.length_nil]; omega), hM]
  refine ⟨⟨[], []⟩, ?_⟩
  unfold finP
  cases mapO rowP (linesT (textM m ++ [48, 47, 48])) <;> simp [zeroM]
theorem lines_text : ∃ ls, l_lines (ofL (textM m)) = some ls ∧ ls.length = m.Next.length := by
  have hl := text_len hm
  have hc : (textM m).count 10 = m.Next.length := by
    have h1 := sp_count 10 (textM m)
    have := sp_lines (c := 10) (r := []) (by simp) (Ls := bodyM m) (body_no hm)
    rw [List.append_nil, ← textM_body] at this
    rw [this, List.length_append, body_len hm] at h1
    simp at h1
    omega
  obtain ⟨s', h1, h2, h3, h4⟩ := cnt_inv (f := l_lines_b0 (ofL (textM m))) (fun j (s : List ByteArray × Int) => s.1.length = ((textM m).take j).count 10 ∧ 0 ≤ s.2 ∧ s.2 ≤ j) (textM m).length (s := ([], 0)) ⟨by simp, by simp, by simp⟩ (fun j s hj ⟨g1, g2, g3⟩ => by
    obtain ⟨x, hx⟩ : ∃ x, (textM m)[j]? = some x := ⟨_, List.getElem?_eq_getElem hj⟩
    obtain ⟨f0, hf⟩ := ex_nat g2
    have hcnt : ((textM m).take j).count 10 ≤ j := Nat.le_trans List.count_le_length (by rw [List.length_take]; omega)
    unfold l_lines_b0
    rw [idxB_ofL hx, Option.bind_some, show (10 : Int) = ((10 : UInt8).toNat : Int) from rfl, u8_eq, take_snoc hx, List.count_append]
    by_cases hx10 : x = 10
    · subst hx10
      simp only [decide_true, cond_true]
      rw [hf, subB_ofL (by omega) (by omega), Option.bind_some, app1 (by omega) rfl, Option.bind_some, Option.bind_some, wr' (by omega) (by omega)]
      exact ⟨_, rfl, by simp [g1], by dsimp only; omega, by dsimp only; omega⟩
    · simp only [hx10, decide_false, cond_false, Option.bind_some]
      exact ⟨_, rfl, by simp [g1, List.count_singleton, hx10], g2, by dsimp only; omega⟩)
  rw [List.take_length, hc] at h2
  unfold l_lines
  have hr : rng ((ofL (textM m)).size : Int) = some () := by unfold rng; rw [if_pos (by rw [ofL_size]; omega)]
  rw [hr, Option.bind_some, Int.sub_zero, Int.toNat_natCast, ofL_size, h1]
  exact ⟨_, rfl, h2⟩
end
end Go.Proofs.YtnpmbkaoeihdmaaDoor
