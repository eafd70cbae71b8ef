/- CircuitOk: what both sides compute. -/
import Derived.Test.YthjkonkcdfdfaaaSigU
set_option linter.unusedVariables false
set_option linter.unusedSimpArgs false
namespace Go.Proofs.Ythjkonkcdfdfaaa
open Go Go.Wk Go.Proofs

/-- the head of the check: the numbers alone -/
def circHead (c : Circuit) : Bool :=
  decide (0 ≤ c.Inputs) && decide (c.Inputs ≤ 4) && (decide (0 ≤ c.Latches) && decide (c.Latches ≤ 6)) && decide ((c.Gates.length : Int) ≤ 8000) && decide ((c.Outs.length : Int) ≤ 4) && ((c.Next.length : Int) == c.Latches)
def gateOk (c : Circuit) (i : Nat) (g : Gate) : Bool := inR (2 * (1 + c.Inputs + c.Latches + i)) g.A && inR (2 * (1 + c.Inputs + c.Latches + i)) g.B
def sigs (c : Circuit) : Int := 1 + c.Inputs + c.Latches + (c.Gates.length : Int)
theorem circHead_in {c : Circuit} (h : circHead c = true) : 0 ≤ c.Inputs ∧ c.Inputs ≤ 4 ∧ 0 ≤ c.Latches ∧ c.Latches ≤ 6 ∧ (c.Gates.length : Int) ≤ 8000 ∧ (c.Outs.length : Int) ≤ 4 ∧ (c.Next.length : Int) = c.Latches := by
  simp only [circHead, Bool.and_eq_true, decide_eq_true_eq, beq_iff_eq] at h
  omega

theorem inR_eq (n x : Int) : (decide (0 ≤ x) && decide (x ≤ n - 1)) = inR n x := by
  unfold inR
  congr 1
  exact decide_eq_decide.2 (by omega)

/-- a loop that asks of each element, by its place -/
theorem cnt_allI {ρ α : Type} {f : Int → Unit → Option (ρ ⊕ (Unit ⊕ Unit))} {r : ρ} (g : Nat → α → Bool) {xs : List α} (h : ∀ (i : Nat) x, xs[i]? = some x → f (i : Int) () = some (if g i x then .inr (.inr ()) else .inl r)) :
    cntM f xs.length 0 () = some (if xs.zipIdx.all (fun p => g p.2 p.1) then .inr () else .inl r) := by
  have := cnt_all0 (f := f) (r := r) (fun p : α × Nat => g p.2 p.1) (xs := xs.zipIdx) (n := xs.length) (by simp) (fun i x hx => by
    rw [List.getElem?_zipIdx] at hx
    cases hy : xs[i]? with
    | none => rw [hy] at hx; cases hx
    | some y =>
      rw [hy] at hx
      simp at hx
      subst hx
      exact h i y hy)
  exact this

def circOk (c : Circuit) : Bool := circHead c && c.Gates.zipIdx.all (fun p => gateOk c p.2 p.1) && c.Next.all (inR (2 * sigs c)) && c.Outs.all (inR (2 * sigs c))

theorem s_l31Literals_eq (xs : List Int) {n : Int} (h0 : 0 ≤ n) (h1 : n ≤ 1000000000000000) : s_l31Literals xs n = some (xs.all (inR (2 * n))) := by
  unfold s_l31Literals
  have hm := cnt_all0 (f := s_l31Literals_b0 xs n) (r := false) (inR (2 * n)) (xs := xs) rfl (fun i y hy => by
    unfold s_l31Literals_b0
    rw [wr' (z := 2 * n) (by omega) (by omega), wr' (by omega) (by omega), idx_nat, hy, Option.bind_some, s_l1In_eq, Option.bind_some, inR_eq]
    cases inR (2 * n) y <;> rfl)
  rw [hm, Option.bind_some]
  cases xs.all (inR (2 * n)) <;> rfl
theorem s_l31Signals_eq {c : Circuit} (h : circHead c = true) : s_l31Signals c = some (sigs c) := by
  have := circHead_in h
  unfold s_l31Signals sigs
  rw [wr' (z := 1 + c.Inputs) (by omega) (by omega), wr' (z := 1 + c.Inputs + c.Latches) (by omega) (by omega), wr' (by omega) (by omega)]
theorem i_signalsOf_eq {c : Circuit} (h : circHead c = true) : i_signalsOf c = some (sigs c) := s_l31Signals_eq h
theorem sigs_in {c : Circuit} (h : circHead c = true) : 1 ≤ sigs c ∧ sigs c ≤ 8011 := by
  have := circHead_in h
  unfold sigs; omega

theorem s_CircuitOk_eq (c : Circuit) : s_CircuitOk c = some (circOk c) := by
  unfold s_CircuitOk
  simp only [s_l1In_eq, Option.bind_some]
  have hhead : ∀ (X : Option Bool), (Option.bind (bif (!(decide (0 ≤ c.Inputs) && decide (c.Inputs ≤ 4))) then some true else some (!(decide (0 ≤ c.Latches) && decide (c.Latches ≤ 6)))) fun p14 =>
    Option.bind (bif p14 then some true else some (decide (8000 < (c.Gates.length : Int)))) fun p20 =>
    Option.bind (bif p20 then some true else some (decide (4 < (c.Outs.length : Int)))) fun p26 =>
    Option.bind (bif p26 then some true else some ((c.Next.length : Int) != c.Latches)) fun p34 =>
    bif p34 then some false else X) = bif circHead c then X else some false := fun X => by
    have e1 : decide (8000 < (c.Gates.length : Int)) = !(decide ((c.Gates.length : Int) ≤ 8000)) := by rw [← decide_not]; exact decide_eq_decide.2 (by omega)
    have e2 : decide (4 < (c.Outs.length : Int)) = !(decide ((c.Outs.length : Int) ≤ 4)) := by rw [← decide_not]; exact decide_eq_decide.2 (by omega)
    rw [e1, e2, bne]
    unfold circHead
    generalize (decide (0 ≤ c.Inputs) && decide (c.Inputs ≤ 4)) = b1
    generalize (decide (0 ≤ c.Latches) && decide (c.Latches ≤ 6)) = b2
    generalize decide ((c.Gates.length : Int) ≤ 8000) = b3
    generalize decide ((c.Outs.length : Int) ≤ 4) = b4
    generalize ((c.Next.length : Int) == c.Latches) = b5
    cases b1 <;> cases b2 <;> cases b3 <;> cases b4 <;> cases b5 <;> rfl
  rw [hhead]
  unfold circOk
  cases hh : circHead c with
  | false => rfl
  | true =>
    have hb := circHead_in hh
    have hs := sigs_in hh
    have hm := cnt_allI (f := s_CircuitOk_b0 c) (r := false) (gateOk c) (xs := c.Gates) (fun i y hy => by
      have hi := (List.getElem?_eq_some_iff.1 hy).1
      unfold s_CircuitOk_b0 gateOk
      simp only [idx_nat, hy, Option.bind_some]
      rw [wr' (z := 1 + c.Inputs) (by omega) (by omega), wr' (z := 1 + c.Inputs + c.Latches) (by omega) (by omega), wr' (z := 1 + c.Inputs + c.Latches + i) (by omega) (by omega), wr' (z := 2 * (1 + c.Inputs + c.Latches + i)) (by omega) (by omega), wr' (by omega) (by omega)]
      simp only [s_l1In_eq, Option.bind_some, inR_eq]
      generalize inR (2 * (1 + c.Inputs + c.Latches + i)) y.A = b1
      generalize inR (2 * (1 + c.Inputs + c.Latches + i)) y.B = b2
      cases b1 <;> cases b2 <;> rfl)
    rw [hm]
    simp only [cond_true, Option.bind_some, s_l31Signals_eq hh, s_l31Literals_eq _ (show 0 ≤ sigs c by omega) (by omega)]
    generalize c.Gates.zipIdx.all (fun p => gateOk c p.2 p.1) = b1
    generalize c.Next.all (inR (2 * sigs c)) = b2
    generalize c.Outs.all (inR (2 * sigs c)) = b3
    cases b1 <;> cases b2 <;> cases b3 <;> rfl

theorem i_isCircuit_eq (c : Circuit) : i_isCircuit c = some (circOk c) := by
  unfold i_isCircuit
  have hhead : ∀ (X : Option Bool), (Option.bind (bif decide (c.Inputs < 0) then some true else some (decide (4 < c.Inputs))) fun p13 =>
    Option.bind (bif p13 then some true else some (decide (c.Latches < 0))) fun p18 =>
    Option.bind (bif p18 then some true else some (decide (6 < c.Latches))) fun p23 =>
    Option.bind (bif p23 then some true else some ((c.Next.length : Int) != c.Latches)) fun p31 =>
    Option.bind (bif p31 then some true else some (decide (8000 < (c.Gates.length : Int)))) fun p37 =>
    Option.bind (bif p37 then some true else some (decide (4 < (c.Outs.length : Int)))) fun p43 =>
    bif p43 then some false else X) = bif circHead c then X else some false := fun X => by
    have e1 : decide (8000 < (c.Gates.length : Int)) = !(decide ((c.Gates.length : Int) ≤ 8000)) := by rw [← decide_not]; exact decide_eq_decide.2 (by omega)
    have e2 : decide (4 < (c.Outs.length : Int)) = !(decide ((c.Outs.length : Int) ≤ 4)) := by rw [← decide_not]; exact decide_eq_decide.2 (by omega)
    have e3 : decide (c.Inputs < 0) = !(decide (0 ≤ c.Inputs)) := by rw [← decide_not]; exact decide_eq_decide.2 (by omega)
    have e4 : decide (c.Latches < 0) = !(decide (0 ≤ c.Latches)) := by rw [← decide_not]; exact decide_eq_decide.2 (by omega)
    have e5 : decide (4 < c.Inputs) = !(decide (c.Inputs ≤ 4)) := by rw [← decide_not]; exact decide_eq_decide.2 (by omega)
    have e6 : decide (6 < c.Latches) = !(decide (c.Latches ≤ 6)) := by rw [← decide_not]; exact decide_eq_decide.2 (by omega)
    rw [e1, e2, e3, e4, e5, e6, bne]
    unfold circHead
    generalize decide (0 ≤ c.Inputs) = b1
    generalize decide (c.Inputs ≤ 4) = b2
    generalize decide (0 ≤ c.Latches) = b6
    generalize decide (c.Latches ≤ 6) = b7
    generalize decide ((c.Gates.length : Int) ≤ 8000) = b3
    generalize decide ((c.Outs.length : Int) ≤ 4) = b4
    generalize ((c.Next.length : Int) == c.Latches) = b5
    cases b1 <;> cases b2 <;> cases b3 <;> cases b4 <;> cases b5 <;> cases b6 <;> cases b7 <;> rfl
  rw [hhead]
  unfold circOk
  cases hh : circHead c with
  | false => rfl
  | true =>
    have hb := circHead_in hh
    have hs := sigs_in hh
    have hm := cnt_allI (f := i_isCircuit_b0 c) (r := false) (gateOk c) (xs := c.Gates) (fun i y hy => by
      have hi := (List.getElem?_eq_some_iff.1 hy).1
      unfold i_isCircuit_b0 gateOk
      simp only [idx_nat, hy, Option.bind_some]
      rw [wr' (z := 1 + c.Inputs) (by omega) (by omega), wr' (z := 1 + c.Inputs + c.Latches) (by omega) (by omega), wr' (z := 1 + c.Inputs + c.Latches + i) (by omega) (by omega), wr' (z := 2 * (1 + c.Inputs + c.Latches + i)) (by omega) (by omega)]
      simp only [i_areLetters_eq, Option.bind_some, List.all_cons, List.all_nil, Bool.and_true]
      generalize inR (2 * (1 + c.Inputs + c.Latches + i)) y.A = b1
      generalize inR (2 * (1 + c.Inputs + c.Latches + i)) y.B = b2
      cases b1 <;> cases b2 <;> rfl)
    rw [hm]
    simp only [cond_true, Option.bind_some, i_signalsOf_eq hh, i_areLetters_eq, wr' (z := 2 * sigs c) (by omega) (by omega)]
    generalize c.Gates.zipIdx.all (fun p => gateOk c p.2 p.1) = b1
    generalize c.Next.all (inR (2 * sigs c)) = b2
    generalize c.Outs.all (inR (2 * sigs c)) = b3
    cases b1 <;> cases b2 <;> cases b3 <;> rfl

end Go.Proofs.Ythjkonkcdfdfaaa
