/- FnEditText: the law. -/
import Derived.Test.YtnpmbkaoeihdmaaDoorTEditF
import Derived.Test.YtnpmbkaoeihdmaaDoorDrawEF
set_option linter.unusedVariables false
set_option linter.unusedSimpArgs false
namespace Go.Proofs.YtnpmbkaoeihdmaaDoor
open Go Go.Wk Go.Proofs

theorem rdN_small3 {n : Nat} (h : n < 1000) : rdN (Lib.decDigits n) = some n := by
  have key : ∀ n : Nat, n < 1000 → foldDig 0 (Lib.decDigits n) = some n ∧ (Lib.decDigits n).length ≤ 3 ∧ 1 ≤ (Lib.decDigits n).length ∧ ((Lib.decDigits n).head? = some 48 → (Lib.decDigits n).length = 1) := fun n h => by
    have t48 : ∀ d : Nat, d < 10 → (UInt8.ofNat (48 + d)).toNat = 48 + d := fun d h => by rw [UInt8.toNat_ofNat']; omega
    have n48 : ∀ d : Nat, d < 10 → 1 ≤ d → ¬ UInt8.ofNat (48 + d) = 48 := fun d h h1 e => by
      have := congrArg UInt8.toNat e
      rw [t48 d h] at this
      have e48 : (48 : UInt8).toNat = 48 := rfl
      omega
    by_cases h1 : n < 10
    · rw [dec_small h1]
      refine ⟨?_, by simp, by simp, by simp⟩
      unfold foldDig
      rw [t48 n h1, if_pos (by omega)]
      unfold foldDig
      congr 1; omega
    · by_cases h2 : n < 100
      · rw [dec_big h1, dec_small (u := n / 10) (by omega)]
        refine ⟨?_, by simp, by simp, fun e => absurd (Option.some.inj e) (n48 _ (by omega) (by omega))⟩
        show foldDig 0 [UInt8.ofNat (48 + n / 10), UInt8.ofNat (48 + n % 10)] = _
        unfold foldDig
        rw [t48 _ (by omega), if_pos (by omega)]
        unfold foldDig
        rw [t48 _ (by omega), if_pos (by omega)]
        unfold foldDig
        congr 1; omega
      · rw [dec_big h1, dec_big (u := n / 10) (by omega), dec_small (u := n / 10 / 10) (by omega)]
        refine ⟨?_, by simp, by simp, fun e => absurd (Option.some.inj e) (n48 _ (by omega) (by omega))⟩
        show foldDig 0 [UInt8.ofNat (48 + n / 10 / 10), UInt8.ofNat (48 + n / 10 % 10), UInt8.ofNat (48 + n % 10)] = _
        unfold foldDig
        rw [t48 _ (by omega), if_pos (by omega)]
        unfold foldDig
        rw [t48 _ (by omega), if_pos (by omega)]
        unfold foldDig
        rw [t48 _ (by omega), if_pos (by omega)]
        unfold foldDig
        congr 1; omega
  obtain ⟨k1, k2, k3, k4⟩ := key n h
  unfold rdN
  rw [if_neg (fun hh => by
    rcases hh with hh | hh | ⟨hh, h2⟩
    · omega
    · omega
    · have := k4 hh; omega), k1]
theorem edName_no {k : Int} : (32 : UInt8) ∉ edName k := by
  unfold edName
  generalize k.toNat = n
  match n with
  | 0 => decide
  | 1 => decide
  | 2 => decide
  | 3 => decide
  | 4 => decide
  | n + 5 => simp
theorem resE_text {e : Edit} (h : edOk e = true) : resE (sp 32 (edText e)) = (e, true) := by
  unfold edOk at h
  obtain ⟨h1, h2, h3, h4, h5, h6⟩ := of_decide_eq_true h
  obtain ⟨K, V, N⟩ := e
  dsimp only at h1 h2 h3 h4 h5 h6
  obtain ⟨k, rfl⟩ := ex_nat (z := K) (by omega)
  obtain ⟨v, rfl⟩ := ex_nat h3
  obtain ⟨n, rfl⟩ := ex_nat h5
  have r1 := rdN_small3 (n := v) (by omega)
  have r2 := rdN_small3 (n := n) (by omega)
  have d1 : (32 : UInt8) ∉ Lib.decDigits v := fun hm => by have := rdN_dig r1 _ hm; simp at this
  have d2 : (32 : UInt8) ∉ Lib.decDigits n := fun hm => by have := rdN_dig r2 _ hm; simp at this
  have hs : sp 32 (edText ⟨(k : Int), (v : Int), (n : Int)⟩) = [edName (k : Int), Lib.decDigits v, Lib.decDigits n] := by
    unfold edText
    dsimp only
    rw [Int.toNat_natCast, Int.toNat_natCast, List.append_assoc, List.append_assoc, List.append_assoc, List.singleton_append, sp_first _ edName_no, List.singleton_append, sp_first _ d1, sp_none d2]
  have hk : kindOf (edName (k : Int)) = k := (kindOf_iff (by omega) (by omega)).1 rfl
  rw [hs]
  unfold resE
  dsimp only
  rw [r1, r2, hk]
  dsimp only
  rw [if_pos ⟨by omega, by omega, by omega⟩]
theorem FnEditText_law {p0 : List Int} (ok0 : okS U8 p0) : l_FnEditText p0 = some true := by
  unfold l_FnEditText l_big
  rw [Option.bind_some]
  by_cases hbig : 4096 < (p0.length : Int)
  · simp only [hbig, decide_true, cond_true]
  · simp only [hbig, decide_false, cond_false]
    obtain ⟨e, he⟩ := drawEdit_d (b := p0) (by omega)
    rw [he, Option.bind_some, i_EditText_eq, Option.bind_some, s_EditText_eq, Option.bind_some, eqB_refl]
    simp only [Bool.not_true, cond_false]
    by_cases hok : edOk e = true
    · rw [if_pos hok]
      have hlen : (edText e).length ≤ 100000000 := by
        unfold edOk at hok
        obtain ⟨h1, h2, h3, h4, h5, h6⟩ := of_decide_eq_true hok
        have l1 := edName_len (k := e.Kind)
        have l2 := dec_len3 (v := e.V.toNat) (by omega)
        have l3 := dec_len3 (v := e.N.toNat) (by omega)
        unfold edText
        simp only [List.length_append, List.length_singleton]
        omega
      have hne : edText e ≠ [] := by unfold edText; simp
      rw [i_TextEdit_eq hlen, resE_text hok, show ByteArray.mk #[] = ofL [] from rfl, eqB_ofL, decide_eq_false hne]
      simp
    · rw [if_neg hok]
      have : resE (sp 32 []) = zeroE := rfl
      rw [i_TextEdit_eq (by simp), this, show ByteArray.mk #[] = ofL [] from rfl, eqB_ofL]
      simp [zeroE]
end Go.Proofs.YtnpmbkaoeihdmaaDoor
