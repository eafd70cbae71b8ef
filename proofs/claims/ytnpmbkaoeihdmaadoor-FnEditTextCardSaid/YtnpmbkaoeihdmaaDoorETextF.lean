/- EditText: what both sides write. -/
import Derived.Test.YtnpmbkaoeihdmaaDoorTxtIF
import Derived.Test.YtnpmbkaoeihdmaaDoorLwF
set_option linter.unusedVariables false
set_option linter.unusedSimpArgs false
namespace Go.Proofs.YtnpmbkaoeihdmaaDoor
open Go Go.Wk Go.Proofs

def edName (k : Int) : List UInt8 := ([[], [112, 114, 105, 111], [111, 119, 110, 101, 114], [97, 100, 100], [99, 117, 116]] : List (List UInt8)).getD k.toNat []
def edOk (e : Edit) : Bool := decide (1 ≤ e.Kind ∧ e.Kind ≤ 4 ∧ 0 ≤ e.V ∧ e.V < 256 ∧ 0 ≤ e.N ∧ e.N < 256)
def edText (e : Edit) : List UInt8 := edName e.Kind ++ [32] ++ Lib.decDigits e.V.toNat ++ [32] ++ Lib.decDigits e.N.toNat
theorem edName_len {k : Int} : (edName k).length ≤ 5 := by
  unfold edName
  generalize k.toNat = n
  match n with
  | 0 => decide
  | 1 => decide
  | 2 => decide
  | 3 => decide
  | 4 => decide
  | n + 5 => simp
theorem cat5 {a b c : List UInt8} (ha : a.length ≤ 5) (hb : b.length ≤ 1000) (hc : c.length ≤ 1000) (f : Int → Option ByteArray) (v n : Int) (hv : f v = some (ofL b)) (hn : f n = some (ofL c)) :
    (Option.bind (catB (ofL a) (ByteArray.mk #[32])) fun x24 => Option.bind (f v) fun x27 => Option.bind (catB x24 x27) fun x28 => Option.bind (catB x28 (ByteArray.mk #[32])) fun x29 => Option.bind (f n) fun x32 => Option.bind (catB x29 x32) fun x33 => some x33) = some (ofL (a ++ [32] ++ b ++ [32] ++ c)) := by
  rw [show ByteArray.mk #[32] = ofL [32] from rfl, catB_ofL (by rw [List.length_singleton]; omega), Option.bind_some, hv, Option.bind_some, catB_ofL (by simp only [List.length_append, List.length_singleton]; omega), Option.bind_some, catB_ofL (by simp only [List.length_append, List.length_singleton]; omega), Option.bind_some, hn, Option.bind_some, catB_ofL (by simp only [List.length_append, List.length_singleton]; omega)]
  rfl
theorem s_EditText_eq (e : Edit) : s_EditText e = some (if edOk e = true then ofL (edText e) else ofL []) := by
  unfold s_EditText
  have s_in : ∀ a b c : Int, s_l1In a b c = some (decide (b ≤ a) && decide (a ≤ c)) := fun a b c => by
    unfold s_l1In
    simp only [andE, Option.bind_some]
  rw [s_in, s_in, s_in]
  simp only [Option.bind_some, orE]
  by_cases h : edOk e = true
  · rw [if_pos h]
    unfold edOk at h
    obtain ⟨h1, h2, h3, h4, h5, h6⟩ := of_decide_eq_true h
    obtain ⟨K, V, N⟩ := e
    dsimp only at h1 h2 h3 h4 h5 h6
    obtain ⟨v, rfl⟩ := ex_nat h3
    obtain ⟨n, rfl⟩ := ex_nat h5
    have hl1 := dec_len v
    have hl2 := dec_len n
    have c1 : (decide (1 ≤ K) && decide (K ≤ 4)) = true := by simp [h1, h2]
    have c2 : (decide (0 ≤ (v : Int)) && decide ((v : Int) ≤ 255)) = true := by simp; omega
    have c3 : (decide (0 ≤ (n : Int)) && decide ((n : Int) ≤ 255)) = true := by simp; omega
    simp only [c1, c2, c3, Bool.not_true, Bool.or_self, cond_false]
    unfold s_l32Words
    rw [Option.bind_some]
    have hi : idx ([(ByteArray.mk #[]), (ByteArray.mk #[112, 114, 105, 111]), (ByteArray.mk #[111, 119, 110, 101, 114]), (ByteArray.mk #[97, 100, 100]), (ByteArray.mk #[99, 117, 116])] : List ByteArray) K = some (ofL (edName K)) := by
      have : K = 1 ∨ K = 2 ∨ K = 3 ∨ K = 4 := by omega
      rcases this with rfl | rfl | rfl | rfl <;> rfl
    rw [hi, Option.bind_some]
    exact cat5 (b := Lib.decDigits v) (c := Lib.decDigits n) edName_len (by omega) (by omega) s_l1Int v n (s_l1Int_eq (by omega)) (s_l1Int_eq (by omega))
  · rw [if_neg h]
    have : ((!(decide (1 ≤ e.Kind) && decide (e.Kind ≤ 4))) || (!(decide (0 ≤ e.V) && decide (e.V ≤ 255))) || (!(decide (0 ≤ e.N) && decide (e.N ≤ 255)))) = true := by
      unfold edOk at h
      rw [decide_eq_true_eq] at h
      simp only [Bool.or_eq_true, Bool.not_eq_true', Bool.and_eq_false_iff, decide_eq_false_iff_not]
      omega
    simp only [this, cond_true]
    rfl
theorem i_EditText_eq (e : Edit) : i_EditText e = some (if edOk e = true then ofL (edText e) else ofL []) := by
  unfold i_EditText
  simp only [orE, Option.bind_some]
  by_cases h : edOk e = true
  · rw [if_pos h]
    unfold edOk at h
    obtain ⟨h1, h2, h3, h4, h5, h6⟩ := of_decide_eq_true h
    obtain ⟨K, V, N⟩ := e
    dsimp only at h1 h2 h3 h4 h5 h6
    obtain ⟨v, rfl⟩ := ex_nat h3
    obtain ⟨n, rfl⟩ := ex_nat h5
    have hl1 := dec_len v
    have hl2 := dec_len n
    have c : (decide (K < 1) || decide (4 < K) || decide ((v : Int) < 0) || decide (256 ≤ (v : Int)) || decide ((n : Int) < 0) || decide (256 ≤ (n : Int))) = false := by
      simp only [Bool.or_eq_false_iff, decide_eq_false_iff_not]
      omega
    simp only [c, cond_false]
    have hi : idx namesE0 (IntKind.i64.wrap (K - 1)) = some (ofL (edName K)) := by
      have : K = 1 ∨ K = 2 ∨ K = 3 ∨ K = 4 := by omega
      rcases this with rfl | rfl | rfl | rfl <;> rfl
    rw [hi, Option.bind_some]
    exact cat5 (b := Lib.decDigits v) (c := Lib.decDigits n) edName_len (by omega) (by omega) i_decimal v n (i_decimal_eq (by omega)) (i_decimal_eq (by omega))
  · rw [if_neg h]
    have : (decide (e.Kind < 1) || decide (4 < e.Kind) || decide (e.V < 0) || decide (256 ≤ e.V) || decide (e.N < 0) || decide (256 ≤ e.N)) = true := by
      unfold edOk at h
      rw [decide_eq_true_eq] at h
      simp only [Bool.or_eq_true, decide_eq_true_eq]
      omega
    simp only [this, cond_true]
    rfl
end Go.Proofs.YtnpmbkaoeihdmaaDoor
