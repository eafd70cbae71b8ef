/- MachineText: both sides write the same. -/
import Derived.Test.YtnpmbkaoeihdmaaDoorTxtIW
import Derived.Test.YtnpmbkaoeihdmaaDoorMachW
set_option linter.unusedVariables false
set_option linter.unusedSimpArgs false
namespace Go.Proofs.YtnpmbkaoeihdmaaDoor
open Go Go.Wk Go.Proofs

/-- the words of a line -/
def cell1 (a b : Int) : List UInt8 := Lib.decDigits a.toNat ++ [47] ++ Lib.decDigits b.toNat
def wordsM (row outs : List Int) : List (List UInt8) := (row.zip outs).map fun p => cell1 p.1 p.2
def lineM (row outs : List Int) : List UInt8 := Lib.join (wordsM row outs) [32] ++ [10]
def linesM (ts : List (List Int × List Int)) : List UInt8 := (ts.map fun p => lineM p.1 p.2).flatten
theorem cell1_len {a b : Int} (h1 : 0 ≤ a) (h2 : a < 100) (h3 : 0 ≤ b) (h4 : b < 100) : (cell1 a b).length ≤ 300 := by
  unfold cell1
  have := dec_len a.toNat
  have := dec_len b.toNat
  simp only [List.length_append, List.length_cons, List.length_nil]
  omega
theorem s_l1Words_eq {xs : List (List UInt8)} (hl : xs.length ≤ 100) (hx : ∀ x ∈ xs, x.length ≤ 1000) : s_l1Words (xs.map ofL) (ofL [32]) = some (ofL (Lib.join xs [32])) ∧ (Lib.join xs [32]).length ≤ 1001 * xs.length := by
  obtain ⟨s', h1, h2, h3⟩ := cnt_inv (f := s_l1Words_b0 (xs.map ofL) (ofL [32])) (fun j s => s = ofL (Lib.join (xs.take j) [32]) ∧ (Lib.join (xs.take j) [32]).length ≤ 1001 * j) xs.length (s := ofL []) ⟨rfl, by simp [Lib.join_nil]⟩ (fun j s hj ⟨hs, hlen⟩ => by
    subst hs
    obtain ⟨x, e⟩ : ∃ x, xs[j]? = some x := ⟨_, List.getElem?_eq_getElem hj⟩
    have hxl := hx x (List.mem_of_getElem? e)
    have hsn : Lib.join (xs.take (j + 1)) [32] = if xs.take j = [] then x else Lib.join (xs.take j) [32] ++ [32] ++ x := by
      rw [List.take_add_one, e]; exact join_snoc [32] x (xs.take j)
    unfold s_l1Words_b0
    rw [idx_nat, List.getElem?_map, e]
    by_cases h0 : j = 0
    · subst h0
      simp only [Nat.lt_irrefl, show ¬ (0 : Int) < ((0 : Nat) : Int) from by omega, decide_false, cond_false, Option.bind_some, Option.map_some]
      rw [catB_ofL (by rw [List.take_zero, Lib.join_nil]; simp only [List.length_nil]; omega), Option.bind_some]
      refine ⟨_, rfl, ?_, ?_⟩
      · rw [hsn]; simp [Lib.join_nil]
      · rw [hsn]; simp; omega
    · have hne : xs.take j ≠ [] := fun e => by
        have := congrArg List.length e
        rw [List.length_take, List.length_nil] at this
        omega
      simp only [show (0 : Int) < (j : Int) from by omega, decide_true, cond_true, Option.map_some]
      rw [catB_ofL (by rw [List.length_singleton]; omega), Option.bind_some, Option.bind_some, Option.bind_some, catB_ofL (by simp only [List.length_append, List.length_cons, List.length_nil]; omega), Option.bind_some]
      refine ⟨_, rfl, ?_, ?_⟩
      · rw [hsn, if_neg hne]
      · rw [hsn, if_neg hne]
        simp only [List.length_append, List.length_cons, List.length_nil]
        omega)
  rw [List.take_length] at h2 h3
  refine ⟨?_, h3⟩
  unfold s_l1Words
  rw [List.length_map, show ByteArray.mk #[] = ofL [] from rfl, h1, h2]; rfl
section
variable {p : Sig} {m : Machine} (hm : machOk p m = true)
include hm
theorem machRow {q : Nat} {row : List Int} (hr : m.Next[q]? = some row) : ∃ outs, m.Out[q]? = some outs ∧ outs.length = row.length ∧ row.length ≤ 4 ∧ (∀ x ∈ row, 0 ≤ x ∧ x < 48) ∧ ∀ x ∈ outs, 0 ≤ x ∧ x < 4 := by
  obtain ⟨m1, m2, m3, m4, m5⟩ := machOk_spec hm
  have hq := (List.getElem?_eq_some_iff.1 hr).1
  obtain ⟨outs, ho⟩ : ∃ o, m.Out[q]? = some o := ⟨_, List.getElem?_eq_getElem (by omega)⟩
  obtain ⟨a1, a2⟩ := m4 row (List.mem_of_getElem? hr)
  obtain ⟨b1, b2⟩ := m5 outs (List.mem_of_getElem? ho)
  have pI := pw_le p.In
  have pO := pw_le p.Out
  exact ⟨outs, ho, by omega, by omega, fun x hx => ⟨(a2 x hx).1, by have := (a2 x hx).2; omega⟩, fun x hx => ⟨(b2 x hx).1, by have := (b2 x hx).2; omega⟩⟩
omit hm in
theorem wordsM_take {row outs : List Int} (hl : outs.length = row.length) {j : Nat} {a b : Int} (ha : row[j]? = some a) (hb : outs[j]? = some b) : wordsM (row.take (j + 1)) (outs.take (j + 1)) = wordsM (row.take j) (outs.take j) ++ [cell1 a b] := by
  have hj := (List.getElem?_eq_some_iff.1 ha).1
  unfold wordsM
  rw [List.take_add_one, List.take_add_one, ha, hb]
  simp only [Option.toList_some]
  rw [List.zip_append (by rw [List.length_take, List.length_take, hl]), List.map_append]
  rfl
omit hm in
theorem wordsM_len {row outs : List Int} (hl : outs.length = row.length) : (wordsM row outs).length = row.length := by
  unfold wordsM
  rw [List.length_map, List.length_zip, hl, Nat.min_self]
omit hm in
theorem cells_bytes {a b : Int} (h1 : 0 ≤ a) (h2 : a < 100) (h3 : 0 ≤ b) (h4 : b < 100) (f : Int → Option ByteArray) (hf : ∀ m : Nat, m ≤ 1000000000000 → f (m : Int) = some (ofL (Lib.decDigits m))) :
    Option.bind (f a) (fun x => Option.bind (catB x (ByteArray.mk #[47])) fun y => Option.bind (f b) fun z => catB y z) = some (ofL (cell1 a b)) := by
  obtain ⟨a', rfl⟩ := ex_nat h1
  obtain ⟨b', rfl⟩ := ex_nat h3
  have := dec_len a'
  have := dec_len b'
  rw [hf a' (by omega), Option.bind_some, show ByteArray.mk #[47] = ofL [47] from rfl, catB_ofL (by simp only [List.length_cons, List.length_nil]; omega), Option.bind_some, hf b' (by omega), Option.bind_some, catB_ofL (by simp only [List.length_append, List.length_cons, List.length_nil]; omega)]
  rfl
omit hm in
theorem i_words {q : Nat} {row outs : List Int} (hr : m.Next[q]? = some row) (ho : m.Out[q]? = some outs) (hl : outs.length = row.length) (h4 : row.length ≤ 4) (hx : ∀ x ∈ row, 0 ≤ x ∧ x < 48) (hy : ∀ x ∈ outs, 0 ≤ x ∧ x < 4) :
    cntM (i_MachineText_b2 m q row) row.length 0 [] = some (.inr ((wordsM row outs).map ofL)) := by
  obtain ⟨s', h1, h2⟩ := cnt_inv (f := i_MachineText_b2 m q row) (fun j s => s = (wordsM (row.take j) (outs.take j)).map ofL) row.length (s := []) rfl (fun j s hj hs' => by
    subst hs'
    obtain ⟨a, ha⟩ : ∃ x, row[j]? = some x := ⟨_, List.getElem?_eq_getElem hj⟩
    obtain ⟨b, hb⟩ : ∃ x, outs[j]? = some x := ⟨_, List.getElem?_eq_getElem (by omega)⟩
    have a1 := hx a (List.mem_of_getElem? ha)
    have b1 := hy b (List.mem_of_getElem? hb)
    have hc := cells_bytes (a := a) (b := b) a1.1 (by omega) b1.1 (by omega) i_decimal fun m h => i_decimal_eq h
    have hwl : (wordsM (row.take j) (outs.take j)).length ≤ 4 := by
      rw [wordsM_len (by rw [List.length_take, List.length_take, hl]), List.length_take]; omega
    refine ⟨_, ?_, rfl⟩
    unfold i_MachineText_b2
    rw [idx_nat, idx_nat, ha, ho, Option.bind_some, Option.bind_some, idx_nat, hb, Option.bind_some]
    obtain ⟨x1, e1, hc⟩ := Option.bind_eq_some_iff.1 hc
    obtain ⟨x2, e2, hc⟩ := Option.bind_eq_some_iff.1 hc
    obtain ⟨x3, e3, hc⟩ := Option.bind_eq_some_iff.1 hc
    rw [e1, Option.bind_some, e2, Option.bind_some, e3, Option.bind_some, hc, Option.bind_some, app1 (by rw [List.length_map]; omega) rfl, Option.bind_some, wordsM_take hl ha hb, List.map_append]
    rfl)
  rw [h1, h2, List.take_length, ← hl, List.take_length]
omit hm in
theorem s_words {q : Nat} {row outs : List Int} (hr : m.Next[q]? = some row) (ho : m.Out[q]? = some outs) (hl : outs.length = row.length) (h4 : row.length ≤ 4) (hx : ∀ x ∈ row, 0 ≤ x ∧ x < 48) (hy : ∀ x ∈ outs, 0 ≤ x ∧ x < 4) :
    ∃ z, whileM (s_MachineText_b2 m q) (2 ^ 64) ([], 0) = some (.inr ((wordsM row outs).map ofL, z)) := by
  obtain ⟨o, h1, h2⟩ := while_out (f := s_MachineText_b2 m q) (fun j s => s = ((wordsM (row.take j) (outs.take j)).map ofL, (j : Int)) ∧ j ≤ row.length) (fun _ => False) (fun s => s = ((wordsM row outs).map ofL, (row.length : Int))) row.length (fun j s ⟨hs', hj⟩ => by
    subst hs'
    unfold s_MachineText_b2
    rw [idx_nat, hr, Option.bind_some]
    by_cases hlt : (j : Int) < (row.length : Int)
    · obtain ⟨a, ha⟩ : ∃ x, row[j]? = some x := ⟨_, List.getElem?_eq_getElem (by omega)⟩
      obtain ⟨b, hb⟩ : ∃ x, outs[j]? = some x := ⟨_, List.getElem?_eq_getElem (by omega)⟩
      have a1 := hx a (List.mem_of_getElem? ha)
      have b1 := hy b (List.mem_of_getElem? hb)
      have hc := cells_bytes (a := a) (b := b) a1.1 (by omega) b1.1 (by omega) s_l1Int fun m h => s_l1Int_eq h
      have hwl : (wordsM (row.take j) (outs.take j)).length ≤ 4 := by
        rw [wordsM_len (by rw [List.length_take, List.length_take, hl]), List.length_take]; omega
      refine ⟨.inr (.inr ((wordsM (row.take (j + 1)) (outs.take (j + 1))).map ofL, ((j + 1 : Nat) : Int))), ?_, by omega, rfl, by omega⟩
      simp only [hlt, decide_true, cond_true]
      rw [Option.bind_some, idx_nat, ha, Option.bind_some, idx_nat, ho, Option.bind_some, idx_nat, hb, Option.bind_some]
      obtain ⟨x1, e1, hc⟩ := Option.bind_eq_some_iff.1 hc
      obtain ⟨x2, e2, hc⟩ := Option.bind_eq_some_iff.1 hc
      obtain ⟨x3, e3, hc⟩ := Option.bind_eq_some_iff.1 hc
      rw [e1, Option.bind_some, e2, Option.bind_some, e3, Option.bind_some, hc, Option.bind_some, app1 (by rw [List.length_map]; omega) rfl, Option.bind_some, wr' (by omega) (by omega), wordsM_take hl ha hb, List.map_append]
      rfl
    · have : j = row.length := by omega
      subst this
      refine ⟨.inr (.inl _), ?_, rfl⟩
      simp only [hlt, decide_false, cond_false]
      rw [List.take_length, ← hl, List.take_length]) (2 ^ 64) 0 ([], 0) (by omega) ⟨rfl, by omega⟩ (by omega)
  match o, h2 with
  | .inr s, h2 => exact ⟨_, by rw [h1, h2]⟩
theorem text_same : ∃ (l : List UInt8), cntM (s_MachineText_b0 m) m.Next.length 0 [] = some (.inr (l.map fun b => (b.toNat : Int))) ∧ cntM (i_MachineText_b0 m) m.Next.length 0 (ofL []) = some (.inr (ofL l)) ∧ l = linesM (m.Next.zip m.Out) ∧ l.length ≤ 1000000 := by
  obtain ⟨m1, m2, m3, m4, m5⟩ := machOk_spec hm
  obtain ⟨s', t', h1, h2, l, h3, h4, h5, h6⟩ := cnt_sim (f := s_MachineText_b0 m) (g := i_MachineText_b0 m) (fun j s t => ∃ l : List UInt8, s = l.map (fun b => (b.toNat : Int)) ∧ t = ofL l ∧ l = linesM ((m.Next.take j).zip (m.Out.take j)) ∧ l.length ≤ 5000 * j) m.Next.length (s := []) (t := ofL []) ⟨[], rfl, rfl, rfl, by simp⟩ (fun j s t hj ⟨l, e1, e2, e3, e4⟩ => by
    obtain ⟨row, hr⟩ : ∃ x, m.Next[j]? = some x := ⟨_, List.getElem?_eq_getElem hj⟩
    obtain ⟨outs, ho, hl, h4, hx, hy⟩ := machRow hm hr
    subst e1 e2
    have hwl := wordsM_len hl
    have hwx : ∀ x ∈ wordsM row outs, x.length ≤ 1000 := fun x hx' => by
      unfold wordsM at hx'
      obtain ⟨⟨a, b⟩, hp, rfl⟩ := List.mem_map.1 hx'
      have h8 := List.of_mem_zip hp
      have h9 := hx a h8.1
      have h10 := hy b h8.2
      have := cell1_len (a := a) (b := b) h9.1 (by omega) h10.1 (by omega)
      show (cell1 a b).length ≤ 1000
      omega
    obtain ⟨w1, w2⟩ := s_l1Words_eq (xs := wordsM row outs) (by omega) hwx
    obtain ⟨z, hz⟩ := s_words hr ho hl h4 hx hy
    have hi := i_words hr ho hl h4 hx hy
    have hjl : (Lib.join (wordsM row outs) [32]).length ≤ 4100 := by
      have : 1001 * (wordsM row outs).length ≤ 1001 * 4 := Nat.mul_le_mul_left _ (by omega)
      omega
    refine ⟨(l ++ lineM row outs).map (fun b => (b.toNat : Int)), ofL (l ++ lineM row outs), ?_, ?_, l ++ lineM row outs, rfl, rfl, ?_, ?_⟩
    · unfold s_MachineText_b0
      rw [hz, Option.bind_some]
      simp only [aft_inr]
      rw [show ByteArray.mk #[32] = ofL [32] from rfl, w1, Option.bind_some, bytesB_ofL, appL (by rw [List.length_map, List.length_map]; omega) rfl, Option.bind_some, app1 (by rw [List.length_append, List.length_map, List.length_map]; omega) rfl, Option.bind_some]
      unfold lineM
      rw [List.map_append, List.map_append, List.append_assoc]
      rfl
    · unfold i_MachineText_b0
      rw [idx_nat, hr, Option.bind_some, hi, Option.bind_some]
      simp only [aft_inr]
      unfold strings_Join
      rw [show ByteArray.mk #[32] = ofL [32] from rfl, joinB_ofL (by omega) (by omega), Option.bind_some, show ByteArray.mk #[10] = ofL [10] from rfl, catB_ofL (by simp only [List.length_cons, List.length_nil]; omega), Option.bind_some, catB_ofL (by simp only [List.length_append, List.length_cons, List.length_nil]; omega), Option.bind_some]
      rfl
    · rw [List.take_add_one, List.take_add_one, hr, ho]
      simp only [Option.toList_some]
      unfold linesM at e3 ⊢
      rw [List.zip_append (by rw [List.length_take, List.length_take, m3]), List.map_append, List.flatten_append, ← e3]
      simp [List.zip]
    · unfold lineM
      simp only [List.length_append, List.length_cons, List.length_nil]
      omega)
  rw [List.take_length, show m.Out.take m.Next.length = m.Out from by rw [← m3, List.take_length]] at h5
  exact ⟨l, by rw [h1, h3], by rw [h2, h4], h5, by omega⟩
end
def textM (m : Machine) : List UInt8 := linesM (m.Next.zip m.Out)
theorem MachineText_eq (p : Sig) (m : Machine) : ∃ r, s_MachineText p m = some r ∧ i_MachineText p m = some r ∧ r = (if (sigOk p && machOk p m) = true then ofL (textM m) else ofL []) := by
  unfold s_MachineText i_MachineText
  rw [s_MachineOk_eq, i_isSig_eq]
  cases hs : sigOk p with
  | false => exact ⟨ofL [], by simp [ofL], by simp [ofL], by simp⟩
  | true =>
    rw [i_isMachine_eq hs]
    cases hm : machOk p m with
    | false => exact ⟨ofL [], by simp [ofL], by simp [ofL], by simp⟩
    | true =>
      obtain ⟨l, h1, h2, h3, h4⟩ := text_same hm
      simp only [Option.bind_some, Bool.not_true, cond_false, Bool.and_self, h1, show ByteArray.mk #[] = ofL [] from rfl, h2, aft_inr, strB_bytes, if_true]
      exact ⟨_, rfl, rfl, by rw [h3]; rfl⟩
end Go.Proofs.YtnpmbkaoeihdmaaDoor
