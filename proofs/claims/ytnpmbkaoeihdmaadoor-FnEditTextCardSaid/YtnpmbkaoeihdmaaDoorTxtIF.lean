/- Numerals: both sides write the same. -/
import Derived.Test.YtnpmbkaoeihdmaaDoorTxtF
import Derived.Test.YtnpmbkaoeihdmaaDoorLwF
set_option linter.unusedVariables false
set_option linter.unusedSimpArgs false
namespace Go.Proofs.YtnpmbkaoeihdmaaDoor
open Go Go.Wk Go.Proofs

theorem l1Int_step {m : Nat} (hm : m ≤ 1000000000000) {acc : List UInt8} (ha : acc.length ≤ 1000000000000000) (h : acc = [] ∨ m ≠ 0) :
    s_l1Int_b0 ((m : Int), ofL acc) = some (.inr (.inr (((m / 10 : Nat) : Int), ofL (UInt8.ofNat (48 + m % 10) :: acc)))) := by
  have hc : (bif (eqB (ofL acc) (ByteArray.mk #[])) then some true else some ((m : Int) != 0)) = some true := by
    rw [show ByteArray.mk #[] = ofL [] from rfl, eqB_ofL]
    rcases h with h | h
    · simp [h]
    · have : ((m : Int) != 0) = true := by simp [bne]; omega
      rw [this]; cases decide (acc = []) <;> rfl
  have hd : Int.tmod (m : Int) 10 = ((m % 10 : Nat) : Int) := by rw [Int.tmod_eq_emod_of_nonneg (by omega)]; omega
  have hq : Int.tdiv (m : Int) 10 = ((m / 10 : Nat) : Int) := by rw [Int.tdiv_eq_ediv_of_nonneg (by omega)]; omega
  unfold s_l1Int_b0
  rw [hc, hd, hq]
  have h10 : ¬ ((m % 10 : Nat) : Int) < 0 := by omega
  simp only [Option.bind_some, cond_true, h10, decide_false, cond_false]
  rw [wr' (z := 48 + ((m % 10 : Nat) : Int)) (by omega) (by omega), wr' (by omega) (by omega)]
  have hu : IntKind.u8.wrap (48 + ((m % 10 : Nat) : Int)) = ((48 + m % 10 : Nat) : Int) := by
    have h1 : m % 10 < 10 := Nat.mod_lt _ (by omega)
    generalize m % 10 = d at h1
    have : ∀ d : Nat, d < 10 → IntKind.u8.wrap (48 + (d : Int)) = ((48 + d : Nat) : Int) := by decide
    exact this d h1
  rw [hu]
  have hs : strB [((48 + m % 10 : Nat) : Int)] = ofL [UInt8.ofNat (48 + m % 10)] := by
    show ByteArray.mk #[UInt8.ofNat (((48 + m % 10 : Nat) : Int)).toNat] = _
    rw [Int.toNat_natCast]; rfl
  rw [hs, catB_ofL (by simp only [List.length_cons, List.length_nil]; omega)]
  rfl
theorem l1Int_run : ∀ (m : Nat), m ≤ 1000000000000 → ∀ (k : Nat), m + 2 ≤ k → ∀ (acc : List UInt8), acc.length + m ≤ 100000000000000 → (acc = [] ∨ m ≠ 0) →
    whileM s_l1Int_b0 k ((m : Int), ofL acc) = some (.inr (0, ofL (Lib.decDigits m ++ acc))) := fun m => by
  induction m using Nat.strongRecOn with
  | _ m ih =>
    intro hm k hk acc ha h
    rw [whileM_pos (by omega), l1Int_step hm (by omega) h, Option.bind_some, lpK_nxt]
    by_cases h10 : m < 10
    · have e0 : m / 10 = 0 := by omega
      have e1 : m % 10 = m := by omega
      rw [e0, e1, dec_small h10, whileM_pos (by omega)]
      have : s_l1Int_b0 (((0 : Nat) : Int), ofL (UInt8.ofNat (48 + m) :: acc)) = some (.inr (.inl (0, ofL (UInt8.ofNat (48 + m) :: acc)))) := by
        unfold s_l1Int_b0
        rw [show ByteArray.mk #[] = ofL [] from rfl, eqB_ofL]
        simp
      rw [this]; rfl
    · rw [dec_big h10, ih (m / 10) (by omega) (by omega) (k - 1) (by omega) _ (by simp only [List.length_cons]; omega) (.inr (by omega))]
      rw [List.append_assoc]; rfl
theorem s_l1Int_eq {m : Nat} (hm : m ≤ 1000000000000) : s_l1Int (m : Int) = some (ofL (Lib.decDigits m)) := by
  unfold s_l1Int
  rw [show ByteArray.mk #[] = ofL [] from rfl, l1Int_run m hm (2 ^ 64) (by omega) [] (by simp; omega) (.inl rfl), List.append_nil]
  have h0 : ¬ (m : Int) < 0 := by omega
  simp only [Option.bind_some, aft_inr, h0, decide_false, cond_false]
theorem i_decimal_eq {m : Nat} (hm : m ≤ 1000000000000) : i_decimal (m : Int) = some (ofL (Lib.decDigits m)) := by
  unfold i_decimal strconv_FormatInt fmtB
  rw [if_pos ⟨rfl, by omega, by omega⟩, itoa_nat]; rfl
end Go.Proofs.YtnpmbkaoeihdmaaDoor
