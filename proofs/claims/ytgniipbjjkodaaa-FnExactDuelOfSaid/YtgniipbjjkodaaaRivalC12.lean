/- Rivals: RivalOk, SameRival, InputsFor: what both sides compute. -/
import Derived.Test.YtgniipbjjkodaaaSigC12
set_option linter.unusedVariables false
set_option linter.unusedSimpArgs false
namespace Go.Proofs.Ytgniipbjjkodaaa
open Go Go.Wk Go.Proofs

def rivalOk (p : Sig) (r : Rival) : Bool :=
  decide (1 ≤ (r.In.length : Int)) && decide ((r.In.length : Int) ≤ 256) && ((r.Next.length : Int) == (r.In.length : Int)) && r.In.all (inR (pw p.In)) && r.Next.all (fun xs => ((xs.length : Int) == pw p.Out) && xs.all (inR (r.In.length : Int)))

theorem s_RivalOk_eq (p : Sig) (r : Rival) (hr : r.In.length ≤ 1048576) : s_RivalOk p r = some (sigOk p && rivalOk p r) := by
  unfold s_RivalOk
  rw [s_SigOk_eq, Option.bind_some]
  cases hs : sigOk p with
  | false => simp
  | true =>
    obtain ⟨h1, h2⟩ := sigOk_in hs
    simp only [Bool.not_true, cond_false, s_l1In_eq, Option.bind_some, s_l27Inputs, s_l23Power_eq h1]
    unfold rivalOk
    have hp := pw_le p.In
    rw [s_l23Below_eq _ (by omega) (by omega)]
    have hm := cnt_all0 (f := s_RivalOk_b0 p r) (r := false) (fun xs => ((xs.length : Int) == pw p.Out) && xs.all (inR (r.In.length : Int))) (xs := r.Next) rfl (fun i y hy => by
      unfold s_RivalOk_b0
      simp only [idx_nat, hy, Option.bind_some, s_l33Outputs, s_l23Power_eq h2, s_l23Below_eq y (n := (r.In.length : Int)) (by omega) (by omega), bne]
      generalize y.all (inR (r.In.length : Int)) = b1
      generalize ((y.length : Int) == pw p.Out) = b2
      cases b1 <;> cases b2 <;> rfl)
    rw [hm, bne]
    generalize (r.Next.all (fun xs => ((xs.length : Int) == pw p.Out) && xs.all (inR (r.In.length : Int)))) = b1
    generalize ((r.Next.length : Int) == (r.In.length : Int)) = b2
    generalize r.In.all (inR (pw p.In)) = b3
    generalize (decide (1 ≤ (r.In.length : Int)) && decide ((r.In.length : Int) ≤ 256)) = b4
    cases b1 <;> cases b2 <;> cases b3 <;> cases b4 <;> rfl
theorem i_isRival_eq (p : Sig) (r : Rival) (hs : sigOk p = true) : i_isRival p r = some (rivalOk p r) := by
  obtain ⟨h1, h2⟩ := sigOk_in hs
  unfold i_isRival rivalOk i_inputsOf
  simp only [(i_shift h1).1, (i_shift h1).2, Option.bind_some, i_areLetters_eq]
  have hm := cnt_all0 (f := i_isRival_b0 p r) (r := false) (fun xs => ((xs.length : Int) == pw p.Out) && xs.all (inR (r.In.length : Int))) (xs := r.Next) rfl (fun i y hy => by
    unfold i_isRival_b0
    simp only [idx_nat, hy, Option.bind_some, (i_shift h2).1, (i_shift h2).2, i_areLetters_eq, bne]
    generalize y.all (inR (r.In.length : Int)) = b1
    generalize ((y.length : Int) == pw p.Out) = b2
    cases b1 <;> cases b2 <;> rfl)
  rw [hm, bne]
  have e1 : decide ((r.In.length : Int) < 1) = !(decide (1 ≤ (r.In.length : Int))) := by rw [← decide_not]; exact decide_eq_decide.2 (by omega)
  have e2 : decide (256 < (r.In.length : Int)) = !(decide ((r.In.length : Int) ≤ 256)) := by rw [← decide_not]; exact decide_eq_decide.2 (by omega)
  rw [e1, e2]
  generalize (r.Next.all (fun xs => ((xs.length : Int) == pw p.Out) && xs.all (inR (r.In.length : Int)))) = b1
  generalize ((r.Next.length : Int) == (r.In.length : Int)) = b2
  generalize r.In.all (inR (pw p.In)) = b3
  generalize (decide (1 ≤ (r.In.length : Int))) = b4
  generalize (decide ((r.In.length : Int) ≤ 256)) = b5
  cases b1 <;> cases b2 <;> cases b3 <;> cases b4 <;> cases b5 <;> rfl
/-- what a right rival is -/
theorem rivalOk_spec {p : Sig} {r : Rival} (h : rivalOk p r = true) : 1 ≤ r.In.length ∧ r.In.length ≤ 256 ∧ r.Next.length = r.In.length ∧ (∀ x ∈ r.In, 0 ≤ x ∧ x < pw p.In) ∧ ∀ xs ∈ r.Next, (xs.length : Int) = pw p.Out ∧ ∀ x ∈ xs, 0 ≤ x ∧ x < r.In.length := by
  simp only [rivalOk, Bool.and_eq_true, decide_eq_true_eq, beq_iff_eq, List.all_eq_true, inR_iff] at h
  obtain ⟨⟨⟨⟨h1, h2⟩, h3⟩, h4⟩, h5⟩ := h
  exact ⟨by omega, by omega, by omega, h4, h5⟩
theorem get_in {α : Type} {xs : List α} {z : Int} (h0 : 0 ≤ z) (h1 : z < xs.length) : ∃ x, idx xs z = some x ∧ x ∈ xs := by
  have hz : z.toNat < xs.length := by omega
  exact ⟨xs[z.toNat], by rw [idx_int h0]; simp [hz], by simp⟩
end Go.Proofs.Ytgniipbjjkodaaa
