/- Steps of circuits. -/
import Derived.Test.YthjkonkcdfdfaaaStepOfU
set_option linter.unusedVariables false
set_option linter.unusedSimpArgs false
namespace Go.Proofs.Ythjkonkcdfdfaaa
open Go Go.Wk Go.Proofs

/-- a step of a right circuit -/
def stp (c : Circuit) (l n : Int) : Int × Int := (s_l31Step c l n).getD (0, 0)
theorem stp_eq {c : Circuit} {l n : Int} (hc : circOk c = true) (hl0 : 0 ≤ l) (hl1 : l < 2 ^ c.Latches.toNat) (hn0 : 0 ≤ n) (hn1 : n < 2 ^ c.Inputs.toNat) :
    s_l31Step c l n = some (stp c l n) ∧ i_stepOf c l n = some (stp c l n) ∧ 0 ≤ (stp c l n).1 ∧ (stp c l n).1 < 2 ^ c.Latches.toNat ∧ 0 ≤ (stp c l n).2 ∧ (stp c l n).2 < 2 ^ c.Outs.length := by
  obtain ⟨a, b, h1, h2, h3⟩ := step_same hc hl0 hl1 hn0 hn1
  have e : stp c l n = (a, b) := by unfold stp; rw [h1]; rfl
  rw [e]
  exact ⟨h1, h2, h3⟩
theorem pow_le64 {c : Circuit} (h : circHead c = true) : (2 : Int) ^ c.Latches.toNat ≤ 64 := by
  have hb := circHead_in h
  have h8 : 2 ^ c.Latches.toNat ≤ 2 ^ 6 := Nat.pow_le_pow_right (by omega) (by omega)
  have h9 : ((2 ^ c.Latches.toNat : Nat) : Int) = (2 : Int) ^ c.Latches.toNat := by simp
  omega
def ints (n : Nat) : List Int := (List.range n).map (fun i : Nat => (i : Int))
theorem ints_get {n i : Nat} {x : Int} (h : (ints n)[i]? = some x) : x = (i : Int) ∧ i < n := by
  unfold ints at h
  rw [List.getElem?_map] at h
  have hlt : i < n := by
    rcases Nat.lt_or_ge i n with h' | h'
    · exact h'
    · rw [List.getElem?_eq_none (by simpa using h')] at h; cases h
  rw [List.getElem?_range hlt] at h
  simp only [Option.map_some, Option.some.injEq] at h
  exact ⟨h.symm, hlt⟩
theorem ints_len (n : Nat) : (ints n).length = n := by simp [ints]
theorem ints_succ (n : Nat) : ints (n + 1) = ints n ++ [(n : Int)] := by simp [ints, List.range_succ]
theorem s_fits_eq (p : Sig) (c : Circuit) : s_l31Fits p c = some (circOk c && (c.Inputs == p.In) && ((c.Outs.length : Int) == p.Out)) := by
  unfold s_l31Fits
  rw [s_CircuitOk_eq]
  simp only [Option.bind_some, andE]
theorem pow_pw {p : Sig} (hs : sigOk p = true) : s_l31Pow p.In = some (pw p.In) ∧ (2 : Int) ^ p.In.toNat = pw p.In := by
  obtain ⟨hi, _⟩ := sigOk_in hs
  rcases hi with h | h <;> rw [h] <;> exact ⟨by decide, by decide⟩
end Go.Proofs.Ythjkonkcdfdfaaa
