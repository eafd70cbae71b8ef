/- RivalOk and CircuitOk: what both sides compute. -/
import Derived.Test.YtpmnpdphailagaaLwA
set_option linter.unusedVariables false
set_option linter.unusedSimpArgs false
namespace Go.Proofs.Ytpmnpdphailagaa
open Go Go.Wk Go.Proofs

def inR (n x : Int) : Bool := decide (0 ≤ x) && decide (x < n)

theorem s_l1In_eq (a b c : Int) : s_l1In a b c = some (decide (b ≤ a) && decide (a ≤ c)) := by
  unfold s_l1In
  by_cases h : b ≤ a <;> simp [h]
def sigOk (p : Sig) : Bool := (decide (1 ≤ p.In) && decide (p.In ≤ 2)) && (decide (1 ≤ p.Out) && decide (p.Out ≤ 2))
theorem s_SigOk_eq (p : Sig) : s_SigOk p = some (sigOk p) := by
  unfold s_SigOk sigOk
  simp only [s_l1In_eq, Option.bind_some]
  cases (decide (1 ≤ p.In) && decide (p.In ≤ 2)) <;> simp
theorem i_isSig_eq (p : Sig) : i_isSig p = some (sigOk p) := by
  unfold i_isSig sigOk
  by_cases h1 : 1 ≤ p.In <;> by_cases h2 : p.In ≤ 2 <;> by_cases h3 : 1 ≤ p.Out <;> by_cases h4 : p.Out ≤ 2 <;> simp [h1, h2, h3, h4]
theorem s_l23Below_eq (xs : List Int) {n : Int} (h0 : -1000000000000000000 ≤ n) (h1 : n ≤ 1000000000000000000) : s_l23Below xs n = some (xs.all (inR n)) := by
  unfold s_l23Below
  have hm := cnt_all0 (f := s_l23Below_b0 xs n) (r := false) (inR n) (xs := xs) rfl (fun i y hy => by
    unfold s_l23Below_b0
    rw [wr' (by omega) (by omega), idx_nat, hy, Option.bind_some, s_l1In_eq, Option.bind_some]
    have : (decide (0 ≤ y) && decide (y ≤ n - 1)) = inR n y := by
      unfold inR
      congr 1
      exact decide_eq_decide.2 (by omega)
    rw [this]
    cases inR n y <;> rfl)
  rw [hm, Option.bind_some]
  cases xs.all (inR n) <;> rfl
theorem contains_eq (xs : List Int) {p : Int → Option Bool} (g : Int → Bool) (hp : ∀ x, p x = some (g x)) : slices_ContainsFunc_I_int64 xs p = some (xs.any g) := by
  unfold slices_ContainsFunc_I_int64 slices_IndexFunc_I_int64
  obtain ⟨o, ho, hm⟩ := cnt_out0 (f := slices_IndexFunc_I_int64_b0 xs p) (fun j _ => ∀ (i : Nat) y, i < j → xs[i]? = some y → g y = false) (fun r => 0 ≤ r ∧ xs.any g = true) (fun _ => False) xs.length (s := ()) (fun _ _ h => absurd h (Nat.not_lt_zero _)) (fun j s hj hi => by
    have hx : xs[j]? = some xs[j] := by simp [hj]
    unfold slices_IndexFunc_I_int64_b0
    rw [idx_nat, hx, Option.bind_some, hp, Option.bind_some]
    cases hg : g xs[j] with
    | true => exact ⟨_, rfl, by omega, List.any_eq_true.2 ⟨xs[j], by simp, hg⟩⟩
    | false =>
      refine ⟨_, rfl, fun i y hi' hy => ?_⟩
      by_cases e : i = j
      · subst e; rw [hx] at hy; cases hy; exact hg
      · exact hi i y (by omega) hy)
  rw [ho, Option.bind_some]
  match o, hm with
  | .inl r, hm => simp [aft, hm.1, hm.2]
  | .inr s, hm =>
    have h := hm.resolve_right id
    have : xs.any g = false := by
      rw [List.any_eq_false]
      intro y hy
      obtain ⟨i, hi⟩ := List.getElem?_of_mem hy
      simp [h i y (List.getElem?_eq_some_iff.1 hi).1 hi]
    simp [aft, this]
theorem i_areLetters_eq (xs : List Int) (n : Int) : i_areLetters xs n = some (xs.all (inR n)) := by
  unfold i_areLetters
  rw [contains_eq xs (fun x => decide (x < 0) || decide (n ≤ x)) (fun x => by
    unfold i_areLetters_1
    by_cases h : x < 0 <;> simp [h]), Option.bind_some]
  congr 1
  rw [List.all_eq_not_any_not]
  congr 2
  funext x
  unfold inR
  by_cases h : x < 0 <;> by_cases h' : n ≤ x <;> simp [h, h'] <;> omega

/-- two to the power of a number of signals -/
def pw (n : Int) : Int := if n = 1 then 2 else 4
theorem s_l23Power_eq {n : Int} (h : n = 1 ∨ n = 2) : s_l23Power n = some (pw n) := by
  unfold s_l23Power
  rcases h with rfl | rfl
  · rw [whileM_pos (by omega)]
    have : s_l23Power_b0 (1, 1) = some (.inr (.inr (0, 2))) := by decide
    rw [this, Option.bind_some, lpK_nxt, whileM_pos (by omega)]
    rfl
  · rw [whileM_pos (by omega)]
    have : s_l23Power_b0 (2, 1) = some (.inr (.inr (1, 2))) := by decide
    rw [this, Option.bind_some, lpK_nxt, whileM_pos (by omega)]
    have : s_l23Power_b0 (1, 2) = some (.inr (.inr (0, 4))) := by decide
    rw [this, Option.bind_some, lpK_nxt, whileM_pos (by omega)]
    rfl
theorem i_shift {n : Int} (h : n = 1 ∨ n = 2) : nn n = some () ∧ IntKind.i64.wrap (1 * 2 ^ (min (Int.toNat n) (IntKind.bits IntKind.i64))) = pw n := by
  rcases h with rfl | rfl <;> decide

def rivalOk (p : Sig) (r : Rival) : Bool :=
  decide (1 ≤ (r.In.length : Int)) && decide ((r.In.length : Int) ≤ 256) && ((r.Next.length : Int) == (r.In.length : Int)) && r.In.all (inR (pw p.In)) && r.Next.all (fun xs => ((xs.length : Int) == pw p.Out) && xs.all (inR (r.In.length : Int)))

theorem sigOk_in {p : Sig} (h : sigOk p = true) : (p.In = 1 ∨ p.In = 2) ∧ (p.Out = 1 ∨ p.Out = 2) := by
  simp only [sigOk, Bool.and_eq_true, decide_eq_true_eq] at h
  omega
theorem pw_le (n : Int) : 2 ≤ pw n ∧ pw n ≤ 4 := by unfold pw; split <;> omega

theorem s_RivalOk_eq (p : Sig) (r : Rival) (hr : r.In.length ≤ 1048576) : s_RivalOk p r = some (sigOk p && rivalOk p r) := by
  unfold s_RivalOk
  rw [s_SigOk_eq, Option.bind_some]
  cases hs : sigOk p with
  | false => simp
  | true =>
    obtain ⟨h1, h2⟩ := sigOk_in hs
    simp only [Bool.not_true, cond_false, s_l1In_eq, Option.bind_some, s_l27Inputs, s_l23Power_eq h1]
    unfold rivalOk
    have hp := pw_le p.In
    rw [s_l23Below_eq _ (by omega) (by omega)]
    have hm := cnt_all0 (f := s_RivalOk_b0 p r) (r := false) (fun xs => ((xs.length : Int) == pw p.Out) && xs.all (inR (r.In.length : Int))) (xs := r.Next) rfl (fun i y hy => by
      unfold s_RivalOk_b0
      simp only [idx_nat, hy, Option.bind_some, s_l33Outputs, s_l23Power_eq h2, s_l23Below_eq y (n := (r.In.length : Int)) (by omega) (by omega), bne]
      generalize y.all (inR (r.In.length : Int)) = b1
      generalize ((y.length : Int) == pw p.Out) = b2
      cases b1 <;> cases b2 <;> rfl)
    rw [hm, bne]
    generalize (r.Next.all (fun xs => ((xs.length : Int) == pw p.Out) && xs.all (inR (r.In.length : Int)))) = b1
    generalize ((r.Next.length : Int) == (r.In.length : Int)) = b2
    generalize r.In.all (inR (pw p.In)) = b3
    generalize (decide (1 ≤ (r.In.length : Int)) && decide ((r.In.length : Int) ≤ 256)) = b4
    cases b1 <;> cases b2 <;> cases b3 <;> cases b4 <;> rfl
theorem i_RivalOk_eq (p : Sig) (r : Rival) : i_RivalOk p r = some (sigOk p && rivalOk p r) := by
  unfold i_RivalOk
  rw [i_isSig_eq, Option.bind_some]
  cases hs : sigOk p with
  | false => rfl
  | true =>
    obtain ⟨h1, h2⟩ := sigOk_in hs
    simp only [cond_true, Bool.true_and]
    unfold i_isRival rivalOk i_inputsOf
    simp only [(i_shift h1).1, (i_shift h1).2, Option.bind_some, i_areLetters_eq]
    have hm := cnt_all0 (f := i_isRival_b0 p r) (r := false) (fun xs => ((xs.length : Int) == pw p.Out) && xs.all (inR (r.In.length : Int))) (xs := r.Next) rfl (fun i y hy => by
      unfold i_isRival_b0
      simp only [idx_nat, hy, Option.bind_some, (i_shift h2).1, (i_shift h2).2, i_areLetters_eq, bne]
      generalize y.all (inR (r.In.length : Int)) = b1
      generalize ((y.length : Int) == pw p.Out) = b2
      cases b1 <;> cases b2 <;> rfl)
    rw [hm, bne]
    have e1 : decide ((r.In.length : Int) < 1) = !(decide (1 ≤ (r.In.length : Int))) := by rw [← decide_not]; exact decide_eq_decide.2 (by omega)
    have e2 : decide (256 < (r.In.length : Int)) = !(decide ((r.In.length : Int) ≤ 256)) := by rw [← decide_not]; exact decide_eq_decide.2 (by omega)
    rw [e1, e2]
    generalize (r.Next.all (fun xs => ((xs.length : Int) == pw p.Out) && xs.all (inR (r.In.length : Int)))) = b1
    generalize ((r.Next.length : Int) == (r.In.length : Int)) = b2
    generalize r.In.all (inR (pw p.In)) = b3
    generalize (decide (1 ≤ (r.In.length : Int))) = b4
    generalize (decide ((r.In.length : Int) ≤ 256)) = b5
    cases b1 <;> cases b2 <;> cases b3 <;> cases b4 <;> cases b5 <;> rfl
theorem FnExactRivalOk_law {p : Sig} {r : Rival} (ok : r.ok) : l_FnExactRivalOk p r = some true := by
  unfold l_FnExactRivalOk
  obtain ⟨v, hv, _, hb⟩ := l_szRival_law ok (m := 1048576) (by omega) (by omega)
  rw [hv, Option.bind_some]
  by_cases h : v < 0
  · simp only [h, decide_true, cond_true]
  · have hb := hb (by omega)
    have hb' := hb
    unfold Rival.bd at hb'
    simp only [h, decide_false, cond_false, l_toRival_id hb, l_toSig, Option.bind_some, s_RivalOk_eq p r hb'.1.1, i_RivalOk_eq, l_eqRival_refl, bne_self_eq_false, Bool.not_true]
end Go.Proofs.Ytpmnpdphailagaa
