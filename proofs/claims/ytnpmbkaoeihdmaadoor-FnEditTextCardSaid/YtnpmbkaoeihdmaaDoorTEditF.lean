/- TextEdit: both sides read the same. -/
import Derived.Test.YtnpmbkaoeihdmaaDoorTxtRF
import Derived.Test.YtnpmbkaoeihdmaaDoorETextF
set_option linter.unusedVariables false
set_option linter.unusedSimpArgs false
namespace Go.Proofs.YtnpmbkaoeihdmaaDoor
open Go Go.Wk Go.Proofs

def zeroE : Edit × Bool := (⟨0, 0, 0⟩, false)
def kindOf (w : List UInt8) : Nat := if w = edName 1 then 1 else if w = edName 2 then 2 else if w = edName 3 then 3 else if w = edName 4 then 4 else 0
theorem kindOf_le (w : List UInt8) : kindOf w ≤ 4 := by
  unfold kindOf
  repeat (split; omega)
  omega
theorem kindOf_name {w : List UInt8} (h : kindOf w ≠ 0) : w = edName (kindOf w) := by
  unfold kindOf at h ⊢
  split
  · assumption
  · split
    · assumption
    · split
      · assumption
      · split
        · assumption
        · simp_all
theorem kindOf_iff {w : List UInt8} {k : Nat} (h1 : 1 ≤ k) (h4 : k ≤ 4) : w = edName k ↔ kindOf w = k := by
  constructor
  · intro e
    subst e
    have : k = 1 ∨ k = 2 ∨ k = 3 ∨ k = 4 := by omega
    rcases this with rfl | rfl | rfl | rfl <;> decide
  · intro e
    rw [← e]
    exact kindOf_name (by omega)
theorem dec_len3 {v : Nat} (h : v < 1000) : (Lib.decDigits v).length ≤ 3 := by
  by_cases h1 : v < 10
  · rw [dec_small h1]; simp
  · rw [dec_big h1, List.length_append]
    by_cases h2 : v / 10 < 10
    · rw [dec_small h2]; simp
    · rw [dec_big h2, List.length_append, dec_small (by omega)]; simp
theorem index_names (w : List UInt8) : slices_Index_string_string namesE0 (ofL w) = some ((kindOf w : Int) - 1) := by
  unfold slices_Index_string_string
  rw [cnt_find0 (f := slices_Index_string_string_b0 namesE0 (ofL w)) (fun x => eqB (ofL w) x) (fun i => (i : Int)) (xs := namesE0) (fun i x hx => by
    unfold slices_Index_string_string_b0
    rw [idx_nat, hx, Option.bind_some]
    cases eqB (ofL w) x <;> rfl), Option.bind_some]
  have e1 : eqB (ofL w) (ByteArray.mk #[112, 114, 105, 111]) = decide (w = edName 1) := rfl
  have e2 : eqB (ofL w) (ByteArray.mk #[111, 119, 110, 101, 114]) = decide (w = edName 2) := rfl
  have e3 : eqB (ofL w) (ByteArray.mk #[97, 100, 100]) = decide (w = edName 3) := rfl
  have e4 : eqB (ofL w) (ByteArray.mk #[99, 117, 116]) = decide (w = edName 4) := rfl
  unfold namesE0 kindOf
  simp only [List.findIdx?_cons, e1, e2, e3, e4, List.findIdx?_nil]
  by_cases h1 : w = edName 1
  · simp [h1, aft]
  · by_cases h2 : w = edName 2
    · have : ¬ edName 2 = edName 1 := by decide
      simp [h2, this, aft]
    · by_cases h3 : w = edName 3
      · have a : ¬ edName 3 = edName 1 := by decide
        have b : ¬ edName 3 = edName 2 := by decide
        simp [h3, a, b, aft]
      · by_cases h4 : w = edName 4
        · have a : ¬ edName 4 = edName 1 := by decide
          have b : ¬ edName 4 = edName 2 := by decide
          have c : ¬ edName 4 = edName 3 := by decide
          simp [h4, a, b, c, aft]
        · simp [h1, h2, h3, h4, aft]
/-- the edit of a text -/
def resE (ws : List (List UInt8)) : Edit × Bool := match ws with
  | [w0, w1, w2] => (match rdN w1, rdN w2 with
    | some v, some n => if kindOf w0 ≠ 0 ∧ v < 256 ∧ n < 256 then (⟨(kindOf w0 : Int), (v : Int), (n : Int)⟩, true) else zeroE
    | _, _ => zeroE)
  | _ => zeroE
theorem resE_no {ws : List (List UInt8)} (h : ws.length ≠ 3) : resE ws = zeroE := by
  match ws, h with
  | [], _ => rfl
  | [_], _ => rfl
  | [_, _], _ => rfl
  | [_, _, _], h => exact absurd rfl h
  | _ :: _ :: _ :: _ :: _, _ => rfl
theorem three {ws : List (List UInt8)} (h : ws.length = 3) : ∃ a b c, ws = [a, b, c] := by
  match ws, h with
  | [a, b, c], _ => exact ⟨a, b, c, rfl⟩
theorem i_TextEdit_eq {l : List UInt8} (hl : l.length ≤ 100000000) : i_TextEdit (ofL l) = some (resE (sp 32 l)) := by
  unfold i_TextEdit strings_Split
  rw [show ByteArray.mk #[32] = ofL [32] from rfl, splitS_ofL (by omega), Option.bind_some]
  obtain ⟨w, ws, e⟩ := List.exists_cons_of_ne_nil (sp_ne 32 l)
  have i0 : idx ((sp 32 l).map ofL) 0 = some (ofL w) := by rw [e]; rfl
  have hk := kindOf_le w
  rw [i0, Option.bind_some, index_names, Option.bind_some]
  simp only [orE, Option.bind_some, List.length_map]
  by_cases h3 : (sp 32 l).length = 3
  · obtain ⟨a, b, c, habc⟩ := three h3
    have hw : w = a := by rw [habc] at e; simp at e; exact e.1.symm
    subst hw
    have c3 : ((((sp 32 l).length : Nat) : Int) != 3) = false := by rw [h3]; rfl
    rw [c3]
    unfold resE
    rw [habc]
    dsimp only
    by_cases hz : kindOf w = 0
    · have : decide (((kindOf w : Nat) : Int) - 1 < 0) = true := by simp; omega
      rw [this]
      simp only [Bool.or_false, cond_true]
      cases rdN b with
      | none => rfl
      | some v =>
        cases rdN c with
        | none => rfl
        | some n => simp [hz, zeroE]
    · have : decide (((kindOf w : Nat) : Int) - 1 < 0) = false := by simp; omega
      rw [this]
      simp only [Bool.or_false, cond_false]
      have i1 : idx ([w, b, c].map ofL) 1 = some (ofL b) := rfl
      have i2 : idx ([w, b, c].map ofL) 2 = some (ofL c) := rfl
      rw [i1, Option.bind_some, i_readNumber_eq, Option.bind_some, i2, Option.bind_some, i_readNumber_eq, Option.bind_some, wr' (by omega) (by omega)]
      cases rdN b with
      | none => rfl
      | some v =>
        cases rdN c with
        | none =>
          dsimp only
          cases decide ((v : Int) < 256) <;> rfl
        | some n =>
          dsimp only
          by_cases hv : v < 256
          · by_cases hn : n < 256
            · have hv' : (v : Int) < 256 := by omega
              have hn' : (n : Int) < 256 := by omega
              simp [hv, hn, hv', hn', hz]
            · have hv' : (v : Int) < 256 := by omega
              have hn' : ¬ (n : Int) < 256 := by omega
              simp [hv, hn, hv', hn', zeroE]
          · have hv' : ¬ (v : Int) < 256 := by omega
            simp [hv, hv', zeroE]
  · have c3 : ((((sp 32 l).length : Nat) : Int) != 3) = true := by simp only [bne, Bool.not_eq_true', beq_eq_false_iff_ne]; omega
    rw [c3, resE_no h3]
    simp only [Bool.or_true, cond_true]
    rfl
theorem s_TextEdit_eq {l : List UInt8} (hl : l.length ≤ 100000000) : s_TextEdit (ofL l) = some (resE (sp 32 l)) := by
  have hj := sp_join 32 l
  unfold s_TextEdit
  rw [ofL_size]
  by_cases h20 : 20 < l.length
  · have : (20 : Int) < (l.length : Int) := by omega
    simp only [this, decide_true, cond_true]
    by_cases h3 : (sp 32 l).length = 3
    · obtain ⟨a, b, c, habc⟩ := three h3
      rw [habc] at hj ⊢
      unfold resE
      dsimp only
      cases hb : rdN b with
      | none => rfl
      | some v =>
        cases hc : rdN c with
        | none => rfl
        | some n =>
          dsimp only
          by_cases hh : kindOf a ≠ 0 ∧ v < 256 ∧ n < 256
          · exfalso
            obtain ⟨h1, h2, h4⟩ := hh
            have e1 := kindOf_name h1
            have l1 := edName_len (k := (kindOf a : Int))
            rw [← e1] at l1
            have l2 := dec_len3 (v := v) (by omega)
            have l3 := dec_len3 (v := n) (by omega)
            rw [rdN_canon hb] at l2
            rw [rdN_canon hc] at l3
            have := congrArg List.length hj
            simp only [Lib.join_cons, Lib.joinTail, List.map_cons, List.map_nil, List.flatten_cons, List.flatten_nil, List.length_append, List.length_singleton, List.length_nil] at this
            omega
          · rw [if_neg hh]; rfl
    · rw [resE_no h3]; rfl
  · have : ¬ (20 : Int) < (l.length : Int) := by omega
    simp only [this, decide_false, cond_false]
    rw [show (32 : Int) = ((32 : UInt8).toNat : Int) from rfl, s_l1Split_eq (by omega), Option.bind_some, List.length_map]
    by_cases h3 : (sp 32 l).length = 3
    · obtain ⟨a, b, c, habc⟩ := three h3
      have c3 : ((((sp 32 l).length : Nat) : Int) != 3) = false := by rw [h3]; rfl
      rw [c3, habc]
      simp only [cond_false]
      have i1 : idx ([a, b, c].map ofL) 1 = some (ofL b) := rfl
      have i2 : idx ([a, b, c].map ofL) 2 = some (ofL c) := rfl
      rw [i1, Option.bind_some, s_l1Read_eq, Option.bind_some, i2, Option.bind_some, s_l1Read_eq, Option.bind_some]
      unfold resE
      dsimp only
      cases hb : rdN b with
      | none => rfl
      | some v =>
        cases hc : rdN c with
        | none => rfl
        | some n =>
          simp only [Bool.not_true, cond_false, Option.bind_some]
          rw [habc] at hj
          have hl2 : l = a ++ [32] ++ Lib.decDigits v ++ [32] ++ Lib.decDigits n := by
            rw [rdN_canon hb, rdN_canon hc, ← hj, Lib.join_cons]
            simp [Lib.joinTail]
          have hne : l ≠ [] := by rw [hl2]; simp
          -- a round
          have round : ∀ k : Nat, 1 ≤ k → k ≤ 4 → s_TextEdit_b0 (ofL l) ((v : Int), true) ((n : Int), true) (k : Int) = some (if kindOf a = k ∧ v < 256 ∧ n < 256 then .inl (⟨(k : Int), (v : Int), (n : Int)⟩, true) else .inr (.inr ((k + 1 : Nat) : Int))) := fun k k1 k4 => by
            unfold s_TextEdit_b0
            have : (k : Int) ≤ 4 := by omega
            simp only [this, decide_true, cond_true]
            rw [s_EditText_eq, Option.bind_some, show ByteArray.mk #[] = ofL [] from rfl, eqB_ofL, decide_eq_false hne]
            by_cases hvn : v < 256 ∧ n < 256
            · have hok : edOk ⟨(k : Int), (v : Int), (n : Int)⟩ = true := by
                unfold edOk
                simp only [decide_eq_true_eq]
                omega
              rw [if_pos hok, eqB_ofL]
              have : (edText ⟨(k : Int), (v : Int), (n : Int)⟩ = l) ↔ kindOf a = k := by
                rw [← kindOf_iff k1 k4, hl2]
                unfold edText
                dsimp only
                rw [Int.toNat_natCast, Int.toNat_natCast, List.append_cancel_right_eq, List.append_cancel_right_eq, List.append_cancel_right_eq, List.append_cancel_right_eq]
                exact eq_comm
              by_cases hk : kindOf a = k
              · rw [decide_eq_true (this.2 hk), if_pos ⟨hk, hvn⟩]; rfl
              · rw [decide_eq_false (fun e => hk (this.1 e)), if_neg (fun hh => hk hh.1)]
                simp only [cond_false, Option.bind_some]
                rw [wr' (by omega) (by omega)]; rfl
            · have hok : ¬ edOk ⟨(k : Int), (v : Int), (n : Int)⟩ = true := by
                unfold edOk
                simp only [decide_eq_true_eq]
                omega
              rw [if_neg hok, eqB_ofL, decide_eq_false (fun e => hne e.symm), if_neg (fun hh => hvn hh.2)]
              simp only [cond_false, Option.bind_some]
              rw [wr' (by omega) (by omega)]; rfl
          have stop : s_TextEdit_b0 (ofL l) ((v : Int), true) ((n : Int), true) 5 = some (.inr (.inl 5)) := by
            unfold s_TextEdit_b0; rfl
          have hk4 := kindOf_le a
          have run : ∀ (k : Nat), 1 ≤ k → k ≤ 5 → ∀ F, 10 ≤ F → whileM (s_TextEdit_b0 (ofL l) ((v : Int), true) ((n : Int), true)) F (k : Int) = Option.bind (s_TextEdit_b0 (ofL l) ((v : Int), true) ((n : Int), true) (k : Int)) (lpK (whileM (s_TextEdit_b0 (ofL l) ((v : Int), true) ((n : Int), true)) (F - 1))) := fun k _ _ F hF => whileM_pos (by omega) _
          rw [show (1 : Int) = ((1 : Nat) : Int) from rfl, run 1 (by omega) (by omega) (2 ^ 64) (by omega), round 1 (by omega) (by omega)]
          by_cases hvn : v < 256 ∧ n < 256
          · by_cases hk0 : kindOf a = 0
            · rw [if_neg (by omega), Option.bind_some, lpK_nxt, run 2 (by omega) (by omega) _ (by omega), round 2 (by omega) (by omega), if_neg (by omega), Option.bind_some, lpK_nxt, run 3 (by omega) (by omega) _ (by omega), round 3 (by omega) (by omega), if_neg (by omega),
                Option.bind_some, lpK_nxt, run 4 (by omega) (by omega) _ (by omega), round 4 (by omega) (by omega), if_neg (by omega), Option.bind_some, lpK_nxt, run 5 (by omega) (by omega) _ (by omega), show ((5 : Nat) : Int) = 5 from rfl, stop, if_neg (fun hh => hh.1 hk0)]
              rfl
            · have hR : (if kindOf a ≠ 0 ∧ v < 256 ∧ n < 256 then ((⟨(kindOf a : Int), (v : Int), (n : Int)⟩ : Edit), true) else zeroE) = (⟨(kindOf a : Int), (v : Int), (n : Int)⟩, true) := if_pos ⟨hk0, hvn⟩
              rw [hR]
              have : kindOf a = 1 ∨ kindOf a = 2 ∨ kindOf a = 3 ∨ kindOf a = 4 := by omega
              rcases this with e | e | e | e
              · rw [if_pos ⟨e, hvn⟩, e]; rfl
              · rw [if_neg (by omega), Option.bind_some, lpK_nxt, run 2 (by omega) (by omega) _ (by omega), round 2 (by omega) (by omega), if_pos ⟨e, hvn⟩, e]; rfl
              · rw [if_neg (by omega), Option.bind_some, lpK_nxt, run 2 (by omega) (by omega) _ (by omega), round 2 (by omega) (by omega), if_neg (by omega), Option.bind_some, lpK_nxt, run 3 (by omega) (by omega) _ (by omega), round 3 (by omega) (by omega), if_pos ⟨e, hvn⟩, e]; rfl
              · rw [if_neg (by omega), Option.bind_some, lpK_nxt, run 2 (by omega) (by omega) _ (by omega), round 2 (by omega) (by omega), if_neg (by omega), Option.bind_some, lpK_nxt, run 3 (by omega) (by omega) _ (by omega), round 3 (by omega) (by omega), if_neg (by omega),
                  Option.bind_some, lpK_nxt, run 4 (by omega) (by omega) _ (by omega), round 4 (by omega) (by omega), if_pos ⟨e, hvn⟩, e]; rfl
          · rw [if_neg (fun hh => hvn hh.2), Option.bind_some, lpK_nxt, run 2 (by omega) (by omega) _ (by omega), round 2 (by omega) (by omega), if_neg (fun hh => hvn hh.2), Option.bind_some, lpK_nxt, run 3 (by omega) (by omega) _ (by omega), round 3 (by omega) (by omega), if_neg (fun hh => hvn hh.2),
              Option.bind_some, lpK_nxt, run 4 (by omega) (by omega) _ (by omega), round 4 (by omega) (by omega), if_neg (fun hh => hvn hh.2), Option.bind_some, lpK_nxt, run 5 (by omega) (by omega) _ (by omega), show ((5 : Nat) : Int) = 5 from rfl, stop, if_neg (fun hh => hvn hh.2)]
            rfl
    · have c3 : ((((sp 32 l).length : Nat) : Int) != 3) = true := by simp only [bne, Bool.not_eq_true', beq_eq_false_iff_ne]; omega
      rw [c3, resE_no h3]; rfl
end Go.Proofs.YtnpmbkaoeihdmaaDoor
