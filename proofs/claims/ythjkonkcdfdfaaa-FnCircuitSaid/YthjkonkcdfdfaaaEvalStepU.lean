/- A circuit's step, by the truths of its signals. -/
import Derived.Test.YthjkonkcdfdfaaaEvalU
set_option linter.unusedVariables false
set_option linter.unusedSimpArgs false
namespace Go.Proofs.Ythjkonkcdfdfaaa
open Go Go.Wk Go.Proofs

def bitv (n : Int) (j : Nat) : Bool := (n / 2 ^ j) % 2 == 1
/-- the truths ahead of the gates -/
def V0 (I L : Nat) (l n : Int) : List Bool := [false] ++ (List.range I).map (bitv n) ++ (List.range L).map (bitv l)
theorem V0_len (I L : Nat) (l n : Int) : (V0 I L l n).length = 1 + I + L := by simp [V0]; omega
theorem V0_zero (I L : Nat) (l n : Int) : (V0 I L l n)[0]? = some false := rfl
/-- the number that some literals tell -/
def numAt (V : List Bool) : Nat → List Int → Int
  | _, [] => 0
  | k, x :: xs => (if lit V x then 2 ^ k else 0) + numAt V (k + 1) xs
theorem numAt_in (V : List Bool) : ∀ (xs : List Int) (k : Nat), 0 ≤ numAt V k xs ∧ numAt V k xs + 2 ^ k ≤ 2 ^ (k + xs.length)
  | [], k => by simp [numAt]
  | x :: xs, k => by
    obtain ⟨h0, h1⟩ := numAt_in V xs (k + 1)
    have hp : (0 : Int) < 2 ^ k := Int.pow_pos (by omega)
    have e : (2 : Int) ^ (k + 1) = 2 * 2 ^ k := by rw [Int.pow_succ]; omega
    rw [show k + 1 + xs.length = k + (x :: xs).length from by simp; omega] at h1
    simp only [numAt]
    split <;> omega
theorem true_sem {V : List Bool} {x : Int} (x0 : 0 ≤ x) (x1 : x < 2 * (V.length : Int)) (hl : V.length ≤ 1000000) : s_l31True V x = some (lit V x) := by
  obtain ⟨y, hy, _⟩ := get_el (xs := V) (z := x / 2) (by omega) (by omega)
  unfold s_l31True lit
  rw [tdiv_pos x0, wr' (z := x / 2) (by omega) (by omega), hy, Option.bind_some, Int.tmod_eq_emod_of_nonneg x0]
  rw [idx_int (by omega)] at hy
  rw [List.getD_eq_getElem?_getD, hy]
  by_cases h : x % 2 = 1
  · simp [h]
  · have : (x % 2 == 1) = false := by rw [beq_eq_false_iff_ne]; exact h
    simp [h, this]
theorem number_sem {V : List Bool} {xs : List Int} (hx : ∀ x ∈ xs, 0 ≤ x ∧ x < 2 * (V.length : Int)) (hl : V.length ≤ 1000000) (hn : xs.length ≤ 8) : s_l31Number V xs = some (numAt V 0 xs) := by
  obtain ⟨s, h1, h2, h3, h4⟩ := cnt_inv (f := s_l31Number_b0 V xs) (fun j (s : Int) => s + numAt V j (xs.drop j) = numAt V 0 xs ∧ 0 ≤ s ∧ s ≤ 256) xs.length (s := 0) ⟨by simp, by omega, by omega⟩ (fun j s hj ⟨e, s0, s1⟩ => by
    have hxj : xs[j]? = some (xs[j]'hj) := List.getElem?_eq_getElem hj
    have hd : xs.drop j = xs[j]'hj :: xs.drop (j + 1) := List.drop_eq_getElem_cons hj
    obtain ⟨x0, x1⟩ := hx _ (List.getElem_mem hj)
    generalize xs[j]'hj = x at hxj hd x0 x1
    obtain ⟨m0, m1⟩ := numAt_in V (xs.drop (j + 1)) (j + 1)
    obtain ⟨t0, t1⟩ := numAt_in V xs 0
    have hp := pow_in (j := j) (by omega)
    have h8 : (2 : Int) ^ (0 + xs.length) ≤ 256 := by
      have : 2 ^ (0 + xs.length) ≤ 2 ^ 8 := Nat.pow_le_pow_right (by omega) (by omega)
      have e : ((2 ^ (0 + xs.length) : Nat) : Int) = (2 : Int) ^ (0 + xs.length) := by simp
      omega
    rw [hd] at e
    simp only [numAt] at e
    unfold s_l31Number_b0
    rw [idx_nat, hxj, Option.bind_some, true_sem x0 x1 hl, Option.bind_some]
    cases hb : lit V x with
    | true =>
      rw [hb] at e
      simp only [if_true] at e
      simp only [cond_true]
      rw [l31Pow_eq (by omega), Option.bind_some, wr' (by omega) (by omega), Option.bind_some]
      exact ⟨_, rfl, by omega, by omega, by omega⟩
    | false =>
      rw [hb] at e
      simp only [Bool.false_eq_true, if_false] at e
      simp only [cond_false, Option.bind_some]
      exact ⟨_, rfl, by omega, by omega, by omega⟩)
  unfold s_l31Number
  rw [h1, Option.bind_some, aft_inr]
  rw [List.drop_length] at h2
  simp only [numAt] at h2
  congr 1
  omega
theorem step_sem {c : Circuit} (hc : circOk c = true) {l n : Int} (hl0 : 0 ≤ l) (hl1 : l < 1000000) (hn0 : 0 ≤ n) (hn1 : n < 1000000) :
    s_l31Step c l n = some (numAt (evG (V0 c.Inputs.toNat c.Latches.toNat l n) c.Gates) 0 c.Next, numAt (evG (V0 c.Inputs.toNat c.Latches.toNat l n) c.Gates) 0 c.Outs) := by
  obtain ⟨hh, hgates, hnext, houts⟩ := circOk_spec hc
  have hb := circHead_in hh
  obtain ⟨I, hI⟩ := ex_nat hb.1
  obtain ⟨L, hL⟩ := ex_nat hb.2.2.1
  have hr : ∀ z : Int, z ≤ 100 → rng z = some () := fun z hz => by unfold rng; rw [if_pos (by omega)]
  unfold s_l31Step
  simp only [hr c.Inputs (by omega), hr c.Latches (by omega), Option.bind_some, Int.sub_zero]
  rw [hI, hL, Int.toNat_natCast, Int.toNat_natCast]
  obtain ⟨s1, e1, e2⟩ := cnt_inv (f := s_l31Step_b0 n) (fun j s => s = [false] ++ (List.range j).map (bitv n)) I (s := [false]) (by simp) (fun j s hj hs => by
    subst hs
    have hd := pow_div hn0 hn1 (j := j) (by omega)
    unfold s_l31Step_b0
    rw [l31Pow_eq (by omega), Option.bind_some, nz_pow (by omega), Option.bind_some, tdiv_pos hn0, wr' (by omega) (by omega), Int.tmod_eq_emod_of_nonneg hd.1, app1 (by simp; omega) rfl]
    exact ⟨_, rfl, by rw [List.range_succ, List.map_append, List.append_assoc]; rfl⟩)
  rw [e1, Option.bind_some, aft_inr, e2]
  obtain ⟨s2, e3, e4⟩ := cnt_inv (f := s_l31Step_b2 l) (fun j s => s = [false] ++ (List.range I).map (bitv n) ++ (List.range j).map (bitv l)) L (s := [false] ++ (List.range I).map (bitv n)) (by simp) (fun j s hj hs => by
    subst hs
    have hd := pow_div hl0 hl1 (j := j) (by omega)
    unfold s_l31Step_b2
    rw [l31Pow_eq (by omega), Option.bind_some, nz_pow (by omega), Option.bind_some, tdiv_pos hl0, wr' (by omega) (by omega), Int.tmod_eq_emod_of_nonneg hd.1, app1 (by simp; omega) rfl]
    exact ⟨_, rfl, by rw [List.range_succ, List.map_append, List.append_assoc]; rfl⟩)
  rw [e3, Option.bind_some, aft_inr, e4]
  have hV : V0 I L l n = [false] ++ (List.range I).map (bitv n) ++ (List.range L).map (bitv l) := rfl
  rw [← hV]
  have hVl := V0_len I L l n
  generalize V0 I L l n = V at hVl
  obtain ⟨s3, e5, e6⟩ := cnt_inv (f := s_l31Step_b4 c) (fun j s => s = evG V (c.Gates.take j)) c.Gates.length (s := V) rfl (fun j s hj hs => by
    subst hs
    have hy : c.Gates[j]? = some c.Gates[j] := by simp [hj]
    have hg := hgates j _ hy
    generalize c.Gates[j] = g at hy hg
    have hlen : (evG V (c.Gates.take j)).length = V.length + j := by rw [evG_len, List.length_take]; omega
    unfold gateOk at hg
    rw [Bool.and_eq_true] at hg
    obtain ⟨a0, a1⟩ := inR_iff.1 hg.1
    obtain ⟨b0, b1⟩ := inR_iff.1 hg.2
    unfold s_l31Step_b4
    rw [idx_nat, hy]
    simp only [Option.bind_some, true_sem (V := evG V (c.Gates.take j)) a0 (by omega) (by omega), true_sem (V := evG V (c.Gates.take j)) b0 (by omega) (by omega)]
    have hst : evG V (c.Gates.take (j + 1)) = evG V (c.Gates.take j) ++ [lit (evG V (c.Gates.take j)) g.A && lit (evG V (c.Gates.take j)) g.B] := by
      rw [List.take_add_one, hy, evG_append]; rfl
    rw [hst]
    generalize evG V (c.Gates.take j) = U at hlen
    cases lit U g.A
    · simp only [cond_false, Option.bind_some, Bool.false_and]
      rw [app1 (by omega) rfl]
      exact ⟨_, rfl, rfl⟩
    · simp only [cond_true, Option.bind_some, Bool.true_and]
      rw [app1 (by omega) rfl]
      exact ⟨_, rfl, rfl⟩)
  rw [List.take_length] at e6
  rw [e5, Option.bind_some, aft_inr, e6]
  have hEl := evG_len c.Gates V
  have hsg : sigs c = ((evG V c.Gates).length : Int) := by unfold sigs; omega
  rw [List.all_eq_true] at hnext houts
  rw [number_sem (fun x hx => by have := inR_iff.1 (hnext x hx); omega) (by omega) (by omega), number_sem (fun x hx => by have := inR_iff.1 (houts x hx); omega) (by omega) (by omega)]
  rfl
end Go.Proofs.Ythjkonkcdfdfaaa
