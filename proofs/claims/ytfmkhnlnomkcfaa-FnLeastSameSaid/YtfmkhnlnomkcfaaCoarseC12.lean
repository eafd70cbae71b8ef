/- The parting rests, and is the coarsest one that is stable. -/
import Derived.Test.YtfmkhnlnomkcfaaLeastOfC12
set_option linter.unusedVariables false
set_option linter.unusedSimpArgs false
namespace Go.Proofs.Ytfmkhnlnomkcfaa
open Go Go.Wk Go.Proofs

theorem rest_fixed {m : Machine} : ∀ (k : Nat) (L : List Int), Low L → L.length ≤ 48 → left L < k → part1 m (rest m k L) = rest m k L
  | 0, _, _, _, h => absurd h (Nat.not_lt_zero _)
  | k + 1, L, hlow, hl, h => by
    simp only [rest]
    by_cases he : part1 m L = L
    · rw [if_pos he, he]
    · rw [if_neg he]
      have := left_lt hlow hl he
      exact rest_fixed k _ (part1_low m L) (by rw [part1_len]; exact hl) (by omega)
/-- states that stand together stay together -/
def Stable (m : Machine) (n : Nat) (E : Nat → Nat → Prop) : Prop := ∀ p q, p < n → q < n → E p q → m.Out.getD p [] = m.Out.getD q [] ∧ ∀ (i : Nat) a b, (m.Next.getD p [])[i]? = some a → (m.Next.getD q [])[i]? = some b → E a.toNat b.toNat
section
variable {l : Int} {n : Nat} {m : Machine} (hm : Mok l n m) {E : Nat → Nat → Prop} (hE : Stable m n E)
include hm hE
theorem coarse_step {L : List Int} (hL : L.length = n) (h : ∀ p q, p < n → q < n → E p q → atL L p = atL L q) : ∀ p q, p < n → q < n → E p q → atL (part1 m L) p = atL (part1 m L) q := fun p q hp hq he => by
  obtain ⟨k1, k2⟩ := hE p q hp hq he
  obtain ⟨rp, _, a2, a3, a4⟩ := hm.nx p hp
  obtain ⟨rq, _, b2, b3, b4⟩ := hm.nx q hq
  rw [a2, b2] at k2
  have e1 := h p q hp hq he
  have e3 : (m.Next.getD p []).map (atL L) = (m.Next.getD q []).map (atL L) := by
    rw [a2, b2]
    apply List.ext_getElem?
    intro i
    rw [List.getElem?_map, List.getElem?_map]
    cases ha : rp[i]? with
    | none =>
      rw [List.getElem?_eq_none_iff] at ha
      rw [List.getElem?_eq_none (by omega)]
    | some a =>
      have hlt := (List.getElem?_eq_some_iff.1 ha).1
      have hb : rq[i]? = some (rq[i]'(by omega)) := List.getElem?_eq_getElem (by omega)
      generalize rq[i]'(by omega) = b at hb
      rw [hb]
      obtain ⟨x0, x1⟩ := a4 a (List.mem_of_getElem? ha)
      obtain ⟨y0, y1⟩ := b4 b (List.mem_of_getElem? hb)
      have := h a.toNat b.toNat (by omega) (by omega) (k2 i a b ha hb)
      rw [show ((a.toNat : Nat) : Int) = a from by omega, show ((b.toNat : Nat) : Int) = b from by omega] at this
      simp [this]
  have hn : ∀ x, near m L x p = near m L x q := fun x => by
    unfold near
    rw [e1, k1, e3]
  rw [part1_at (by omega), part1_at (by omega)]
  congr 1
  obtain ⟨f1, f2, f3⟩ := firstN_near m L p
  exact firstN_uniq (c := fun x => near m L x q) (near_refl m L q) (by rw [← hn]; exact f2) (fun i hi => by rw [← hn]; exact f3 i hi)
theorem coarse : ∀ (k : Nat) (L : List Int), L.length = n → (∀ p q, p < n → q < n → E p q → atL L p = atL L q) → ∀ p q, p < n → q < n → E p q → atL (rest m k L) p = atL (rest m k L) q
  | 0, _, _, h => h
  | k + 1, L, hL, h => by
    simp only [rest]
    split
    · exact h
    · exact coarse k _ (by rw [part1_len]; exact hL) (coarse_step hm hE hL h)
end
section
variable {l : Int} {n : Nat} {m : Machine} (hm : Mok l n m)
include hm
theorem alike_full : ∃ L, s_l29Alike m = some L ∧ i_alikeStates m = some L ∧ Low L ∧ L.length = n ∧ part1 m L = L ∧ ∀ E, Stable m n E → ∀ p q, p < n → q < n → E p q → atL L p = atL L q := by
  obtain ⟨n0, n1⟩ := hm.hn
  have hlen : (List.replicate n (0 : Int)).length = n := by simp
  have hl0 : left (List.replicate n 0) < 2500 := by
    have := sumL_bd (low_mem (low0 n) (by omega))
    unfold left; omega
  have hl1 : left (part1 m (List.replicate n 0)) < 2500 := by
    have := sumL_bd (low_mem (part1_low m (List.replicate n 0)) (by rw [part1_len]; omega))
    unfold left; omega
  refine ⟨rest m 2500 (part1 m (List.replicate n 0)), ?_, ?_, ?_, ?_, ?_, ?_⟩
  · unfold s_l29Alike
    rw [hm.next, mkS_nat (by omega) rfl, Option.bind_some, s_rest hm 2501 (2 ^ 64) _ hlen (low0 n) (by omega) (by omega), Option.bind_some, aft_inl]
    rw [show rest m 2501 (List.replicate n 0) = if part1 m (List.replicate n 0) = List.replicate n 0 then List.replicate n 0 else rest m 2500 (part1 m (List.replicate n 0)) from rfl]
    split
    · rename_i he; rw [he, rest_fix he]
    · rfl
  · unfold i_alikeStates
    rw [hm.next, mkS_nat (by omega) rfl, Option.bind_some, hlen, i_first hm, Option.bind_some, aft_inr, i_rest hm 2500 (2 ^ 64) _ (by rw [part1_len]; exact hlen) (part1_low _ _) (part1_apart _ _) hl1 (by omega), Option.bind_some, aft_inl]
  · exact (rest_low (m := m) 2500 _ (part1_low m (List.replicate n 0))).1
  · have := (rest_low (m := m) 2500 _ (part1_low m (List.replicate n 0))).2
    rw [part1_len, hlen] at this
    exact this
  · exact rest_fixed 2500 _ (part1_low m _) (by rw [part1_len]; omega) hl1
  · intro E hE
    refine coarse hm hE 2500 _ (by rw [part1_len]; exact hlen) (coarse_step hm hE hlen fun p q hp hq _ => ?_)
    unfold atL
    rw [List.getD_eq_getElem?_getD, List.getD_eq_getElem?_getD, List.getElem?_replicate, List.getElem?_replicate]
    split <;> split <;> rfl
end
/-- what a parting that rests says of two states -/
theorem fixed_near {m : Machine} {L : List Int} (h : part1 m L = L) {q : Nat} (hq : q < L.length) : ∃ p : Nat, atL L q = (p : Int) ∧ p ≤ q ∧ near m L p q = true := by
  obtain ⟨f1, f2, f3⟩ := firstN_near m L q
  refine ⟨_, ?_, f1, f2⟩
  have := part1_at (m := m) hq
  rw [h] at this
  exact this
end Go.Proofs.Ytfmkhnlnomkcfaa
