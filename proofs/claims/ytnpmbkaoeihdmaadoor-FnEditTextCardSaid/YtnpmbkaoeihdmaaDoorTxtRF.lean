/- Numerals read: both sides read alike; what is read is the numeral of its number. -/
import Derived.Test.YtnpmbkaoeihdmaaDoorTxtSF
set_option linter.unusedVariables false
set_option linter.unusedSimpArgs false
namespace Go.Proofs.YtnpmbkaoeihdmaaDoor
open Go Go.Wk Go.Proofs

def foldDig : Nat → List UInt8 → Option Nat
  | a, [] => some a
  | a, x :: r => if 48 ≤ x.toNat ∧ x.toNat ≤ 57 then foldDig (a * 10 + (x.toNat - 48)) r else none
def rdN (l : List UInt8) : Option Nat := if l.length < 1 ∨ 9 < l.length ∨ (l.head? = some 48 ∧ 1 < l.length) then none else foldDig 0 l
theorem fold_bound : ∀ (l : List UInt8) (a n : Nat), foldDig a l = some n → n < (a + 1) * 10 ^ l.length
  | [], a, n, h => by
    simp only [foldDig, Option.some.injEq] at h
    subst h; simp
  | x :: r, a, n, h => by
    unfold foldDig at h
    split at h
    · have := fold_bound r _ n h
      rw [List.length_cons, Nat.pow_succ]
      refine Nat.lt_of_lt_of_le this ?_
      rw [Nat.mul_comm (10 ^ r.length) 10, ← Nat.mul_assoc]
      exact Nat.mul_le_mul_right _ (by omega)
    · cases h
theorem rdN_bound {l : List UInt8} {n : Nat} (h : rdN l = some n) : n < 1000000000 ∧ 1 ≤ l.length ∧ l.length ≤ 9 := by
  unfold rdN at h
  split at h
  · cases h
  · rename_i hc
    have h1 := fold_bound l 0 n h
    have h2 : l.length ≤ 9 ∧ 1 ≤ l.length := by omega
    have h3 : 10 ^ l.length ≤ 10 ^ 9 := Nat.pow_le_pow_right (by omega) h2.1
    omega
theorem fold_dig : ∀ (l : List UInt8) (a n : Nat), foldDig a l = some n → ∀ x ∈ l, 48 ≤ x.toNat ∧ x.toNat ≤ 57
  | [], _, _, _, x, hx => by cases hx
  | y :: r, a, n, h, x, hx => by
    unfold foldDig at h
    split at h
    · rename_i hy
      rcases List.mem_cons.1 hx with rfl | hx
      · exact hy
      · exact fold_dig r _ n h x hx
    · cases h
theorem rdN_dig {l : List UInt8} {n : Nat} (h : rdN l = some n) : ∀ x ∈ l, 48 ≤ x.toNat ∧ x.toNat ≤ 57 := by
  unfold rdN at h
  split at h
  · cases h
  · exact fold_dig l 0 n h
theorem fold_canon : ∀ (l : List UInt8) (a n : Nat), 0 < a → foldDig a l = some n → Lib.decDigits n = Lib.decDigits a ++ l
  | [], a, n, _, h => by
    simp only [foldDig, Option.some.injEq] at h
    subst h; simp
  | x :: r, a, n, ha, h => by
    unfold foldDig at h
    split at h
    · rename_i hx
      rw [fold_canon r _ n (by omega) h, dec_big (u := a * 10 + (x.toNat - 48)) (by omega), show (a * 10 + (x.toNat - 48)) / 10 = a from by omega, show (a * 10 + (x.toNat - 48)) % 10 = x.toNat - 48 from by omega,
        show 48 + (x.toNat - 48) = x.toNat from by omega, List.append_assoc]
      simp
    · cases h
/-- what is read is the numeral -/
theorem rdN_canon {l : List UInt8} {n : Nat} (h : rdN l = some n) : Lib.decDigits n = l := by
  unfold rdN at h
  split at h
  · cases h
  · rename_i hc
    cases l with
    | nil => simp at hc
    | cons x r =>
      unfold foldDig at h
      split at h
      · rename_i hx
        rw [Nat.zero_mul, Nat.zero_add] at h
        by_cases h0 : x.toNat = 48
        · have hr : r = [] := by
            have h48 : x = 48 := UInt8.toNat_inj.1 h0
            cases r with
            | nil => rfl
            | cons y r => exact absurd (.inr (.inr ⟨by simp [h48], by simp⟩)) hc
          subst hr
          simp only [foldDig, Option.some.injEq] at h
          subst h
          rw [dec_small (by omega), show 48 + (x.toNat - 48) = x.toNat from by omega]
          simp
        · rw [fold_canon r _ n (by omega) h, dec_small (by omega), show 48 + (x.toNat - 48) = x.toNat from by omega]
          simp
      · cases h
theorem read_step {l : List UInt8} {i : Nat} {x : UInt8} (hx : l[i]? = some x) (a : Nat) (ha : a ≤ 100000000000) :
    s_l1Read_b0 (ofL l) (i : Int) (a : Int) = some (if 48 ≤ x.toNat ∧ x.toNat ≤ 57 then .inr (.inr ((a * 10 + (x.toNat - 48) : Nat) : Int)) else .inl (0, false)) := by
  unfold s_l1Read_b0
  rw [idxB_ofL hx]
  have hlt := x.toNat_lt
  simp only [Option.bind_some, orE]
  by_cases h : 48 ≤ x.toNat ∧ x.toNat ≤ 57
  · have c1 : (decide ((x.toNat : Int) < 48) || decide (57 < (x.toNat : Int))) = false := by simp; omega
    rw [c1, if_pos h]
    simp only [cond_false]
    have hu : IntKind.u8.wrap ((x.toNat : Int) - 48) = ((x.toNat - 48 : Nat) : Int) := by
      obtain ⟨d, hd⟩ : ∃ d, x.toNat = 48 + d := ⟨x.toNat - 48, by omega⟩
      have hd10 : d < 10 := by omega
      rw [hd, show ((48 + d : Nat) : Int) - 48 = (d : Int) from by omega, show 48 + d - 48 = d from by omega]
      have : ∀ d : Nat, d < 10 → IntKind.u8.wrap (d : Int) = (d : Int) := by decide
      exact this d hd10
    rw [hu, wr' (z := ((x.toNat - 48 : Nat) : Int)) (by omega) (by omega), wr' (z := (a : Int) * 10) (by omega) (by omega), wr' (by omega) (by omega)]
    congr 3
  · have c1 : (decide ((x.toNat : Int) < 48) || decide (57 < (x.toNat : Int))) = true := by simp; omega
    rw [c1, if_neg h]
    rfl
theorem read_same (p : ByteArray) (v s : Int) : i_readNumber_b0 p v s = s_l1Read_b0 p v s := by
  unfold i_readNumber_b0 s_l1Read_b0
  rw [Int.mul_comm 10 s]
theorem read_loop : ∀ (l : List UInt8) (j a : Nat) (L : List UInt8), L.length ≤ 9 → L.drop j = l → a < 10 ^ j →
    cntM (s_l1Read_b0 (ofL L)) l.length (j : Int) (a : Int) = some (match foldDig a l with | some n => .inr (n : Int) | none => .inl (0, false))
  | [], j, a, L, _, _, _ => rfl
  | x :: r, j, a, L, hL, hd, ha => by
    have hx : L[j]? = some x := by
      have := congrArg (·[0]?) hd
      simpa using this
    have hj : j < L.length := (List.getElem?_eq_some_iff.1 hx).1
    have hp : 10 ^ j ≤ 10 ^ 9 := Nat.pow_le_pow_right (by omega) (by omega)
    show Option.bind (s_l1Read_b0 (ofL L) (j : Int) (a : Int)) (lpK fun s' => cntM _ r.length ((j : Int) + 1) s') = _
    rw [read_step hx a (by omega)]
    conv => rhs; unfold foldDig
    by_cases h : 48 ≤ x.toNat ∧ x.toNat ≤ 57
    · rw [if_pos h, if_pos h, Option.bind_some, lpK_nxt, show (j : Int) + 1 = ((j + 1 : Nat) : Int) from by omega]
      refine read_loop r (j + 1) _ L hL ?_ ?_
      · rw [← List.drop_drop, hd]; rfl
      · rw [Nat.pow_succ]; omega
    · rw [if_neg h, if_neg h]; rfl
theorem head48 {l : List UInt8} (h : 1 ≤ l.length) : idxB (ofL l) 0 = some ((l.headD 0).toNat : Int) := by
  cases l with
  | nil => simp at h
  | cons x r => exact idxB_ofL (i := 0) (x := x) rfl
theorem guard48 {l : List UInt8} (h : 1 ≤ l.length) : (Option.bind (idxB (ofL l) 0) fun x16 => Option.bind (bif (x16 == 48) then some (decide (1 < ((ofL l).size : Int))) else some false) fun p22 => some p22) = some (decide (l.head? = some 48 ∧ 1 < l.length)) := by
  rw [head48 h, Option.bind_some]
  cases l with
  | nil => simp at h
  | cons x r =>
    have h1 : ((((x :: r).headD 0).toNat : Int) == 48) = decide (x = 48) := u8_eq x 48
    rw [h1]
    by_cases hx : x = 48
    · subst hx
      simp [ofL_size]
      exact decide_eq_decide.2 (by omega)
    · simp [hx]
theorem s_l1Read_eq {l : List UInt8} : s_l1Read (ofL l) = some (match rdN l with | some n => ((n : Int), true) | none => (0, false)) := by
  unfold s_l1Read rdN
  simp only [orE, Option.bind_some]
  by_cases h0 : l.length < 1 ∨ 9 < l.length
  · have c : (decide (((ofL l).size : Int) < 1) || decide (9 < ((ofL l).size : Int))) = true := by rw [ofL_size]; simp; omega
    rw [c, if_pos (by omega)]
    rfl
  · have c : (decide (((ofL l).size : Int) < 1) || decide (9 < ((ofL l).size : Int))) = false := by rw [ofL_size]; simp; omega
    rw [c]
    have g := guard48 (l := l) (by omega)
    simp only [cond_false]
    rw [g, Option.bind_some]
    by_cases h1 : l.head? = some 48 ∧ 1 < l.length
    · rw [if_pos (.inr (.inr h1)), decide_eq_true h1]; rfl
    · rw [if_neg (fun hh => by
        rcases hh with hh | hh | hh
        · omega
        · omega
        · exact h1 hh), decide_eq_false h1]
      have hr : rng ((ofL l).size : Int) = some () := by unfold rng; rw [if_pos (by rw [ofL_size]; omega)]
      simp only [cond_false, hr, Option.bind_some, Int.sub_zero, Int.toNat_natCast]
      rw [ofL_size]
      have := read_loop l 0 0 l (by omega) rfl (by simp)
      rw [show ((0 : Nat) : Int) = 0 from rfl] at this
      rw [this]
      cases foldDig 0 l <;> rfl
theorem i_readNumber_eq {l : List UInt8} (lim : Int) : i_readNumber (ofL l) lim = some (match rdN l with | some n => ((n : Int), decide ((n : Int) < lim)) | none => (0, false)) := by
  unfold i_readNumber rdN
  simp only [orE, Option.bind_some, show ByteArray.mk #[] = ofL [] from rfl, eqB_ofL]
  by_cases h0 : l.length < 1 ∨ 9 < l.length
  · have c : (decide (l = []) || decide (9 < ((ofL l).size : Int))) = true := by
      rcases h0 with h | h
      · have : l = [] := List.eq_nil_of_length_eq_zero (by omega)
        simp [this]
      · rw [ofL_size]; simp; omega
    rw [c, if_pos (by omega)]
    rfl
  · have c : (decide (l = []) || decide (9 < ((ofL l).size : Int))) = false := by
      have : l ≠ [] := fun e => by rw [e] at h0; simp at h0
      rw [ofL_size]; simp [this]; omega
    rw [c]
    have g := guard48 (l := l) (by omega)
    simp only [cond_false]
    rw [g, Option.bind_some]
    by_cases h1 : l.head? = some 48 ∧ 1 < l.length
    · rw [if_pos (.inr (.inr h1)), decide_eq_true h1]; rfl
    · rw [if_neg (fun hh => by
        rcases hh with hh | hh | hh
        · omega
        · omega
        · exact h1 hh), decide_eq_false h1]
      have hr : rng ((ofL l).size : Int) = some () := by unfold rng; rw [if_pos (by rw [ofL_size]; omega)]
      simp only [cond_false, hr, Option.bind_some, Int.sub_zero, Int.toNat_natCast]
      rw [ofL_size]
      have hf : i_readNumber_b0 (ofL l) = s_l1Read_b0 (ofL l) := by funext v s; exact read_same _ v s
      have := read_loop l 0 0 l (by omega) rfl (by simp)
      rw [show ((0 : Nat) : Int) = 0 from rfl] at this
      rw [hf, this]
      cases foldDig 0 l <;> rfl
end Go.Proofs.YtnpmbkaoeihdmaaDoor
