/- Machines: MachineOk, the steps, the letters; what both sides compute. -/
import Derived.Test.YtnpmbkaoeihdmaaDoorSigW
set_option linter.unusedVariables false
set_option linter.unusedSimpArgs false
namespace Go.Proofs.YtnpmbkaoeihdmaaDoor
open Go Go.Wk Go.Proofs

def rowOk (p : Sig) (m : Machine) (i : Nat) (row : List Int) : Bool :=
  match m.Out[i]? with
  | some o => ((row.length : Int) == pw p.In) && ((o.length : Int) == (row.length : Int)) && row.all (inR (m.Next.length : Int)) && o.all (inR (pw p.Out))
  | none => false
def machOk (p : Sig) (m : Machine) : Bool := decide (1 ≤ (m.Next.length : Int)) && decide ((m.Next.length : Int) ≤ 48) && ((m.Out.length : Int) == (m.Next.length : Int)) && m.Next.zipIdx.all (fun x => rowOk p m x.2 x.1)
theorem s_MachineOk_eq (p : Sig) (m : Machine) : s_MachineOk p m = some (sigOk p && machOk p m) := by
  unfold s_MachineOk machOk
  rw [s_SigOk_eq, Option.bind_some]
  cases hs : sigOk p with
  | false => rfl
  | true =>
    obtain ⟨hi, ho⟩ := sigOk_in hs
    have pI := pw_le p.In
    have pO := pw_le p.Out
    simp only [Bool.not_true, cond_false, s_l1In_eq, Option.bind_some, Bool.true_and]
    cases h1 : (decide (1 ≤ (m.Next.length : Int)) && decide ((m.Next.length : Int) ≤ 48)) with
    | false => rfl
    | true =>
      simp only [Bool.and_eq_true, decide_eq_true_eq] at h1
      simp only [Bool.not_true, cond_false, Option.bind_some, Bool.true_and, bne]
      cases h2 : ((m.Out.length : Int) == (m.Next.length : Int)) with
      | false => rfl
      | true =>
        have h2 := beq_iff_eq.1 h2
        rw [cnt_allP (f := s_MachineOk_b0 p m) (r := false) (rowOk p m) (xs := m.Next) rfl (fun i row hx => by
          have hlt := (List.getElem?_eq_some_iff.1 hx).1
          obtain ⟨o, hout⟩ : ∃ o, m.Out[i]? = some o := ⟨_, List.getElem?_eq_getElem (by omega)⟩
          have hv : rowOk p m i row = (((row.length : Int) == pw p.In) && ((o.length : Int) == (row.length : Int)) && row.all (inR (m.Next.length : Int)) && o.all (inR (pw p.Out))) := by unfold rowOk; rw [hout]
          rw [hv]
          unfold s_MachineOk_b0
          rw [idx_nat, idx_nat, hx, hout]
          simp only [Option.bind_some, s_l29Ins, s_l23Power_eq hi, s_l23Power_eq ho, s_l23Below_eq row (n := (m.Next.length : Int)) (by omega) (by omega), s_l23Below_eq o (n := pw p.Out) (by omega) (by omega), bne]
          generalize ((row.length : Int) == pw p.In) = b1
          generalize ((o.length : Int) == (row.length : Int)) = b2
          generalize row.all (inR (m.Next.length : Int)) = b3
          generalize o.all (inR (pw p.Out)) = b4
          cases b1 <;> cases b2 <;> cases b3 <;> cases b4 <;> rfl)]
        simp only [Bool.not_true, cond_false, Option.bind_some, Bool.true_and]
        cases List.all m.Next.zipIdx (fun x => rowOk p m x.2 x.1) <;> rfl
theorem i_inputsOf_eq {p : Sig} (hs : sigOk p = true) : i_inputsOf p = some (pw p.In) := by
  obtain ⟨hi, _⟩ := sigOk_in hs
  unfold i_inputsOf
  rw [(i_shift hi).1, Option.bind_some, (i_shift hi).2]
theorem i_isMachine_eq {p : Sig} (hs : sigOk p = true) (m : Machine) : i_isMachine p m = some (machOk p m) := by
  unfold i_isMachine machOk
  obtain ⟨hi, ho⟩ := sigOk_in hs
  simp only [orE, Option.bind_some, gt_not, bne]
  rw [← Bool.not_and, ← Bool.not_and]
  cases h1 : (decide (1 ≤ (m.Next.length : Int)) && decide ((m.Next.length : Int) ≤ 48) && ((m.Out.length : Int) == (m.Next.length : Int))) with
  | false => rfl
  | true =>
    simp only [Bool.and_eq_true, decide_eq_true_eq, beq_iff_eq] at h1
    simp only [Bool.not_true, cond_false, Option.bind_some, Bool.true_and]
    rw [cnt_allP (f := i_isMachine_b0 p m) (r := false) (rowOk p m) (xs := m.Next) rfl (fun i row hx => by
      have hlt := (List.getElem?_eq_some_iff.1 hx).1
      obtain ⟨o, hout⟩ : ∃ o, m.Out[i]? = some o := ⟨_, List.getElem?_eq_getElem (by omega)⟩
      have hv : rowOk p m i row = (((row.length : Int) == pw p.In) && ((o.length : Int) == (row.length : Int)) && row.all (inR (m.Next.length : Int)) && o.all (inR (pw p.Out))) := by unfold rowOk; rw [hout]
      rw [hv]
      unfold i_isMachine_b0
      rw [idx_nat, idx_nat, hx, hout]
      simp only [Option.bind_some, i_inputsOf_eq hs, (i_shift ho).1, (i_shift ho).2, i_areLetters_eq, bne]
      generalize ((row.length : Int) == pw p.In) = b1
      generalize ((o.length : Int) == (row.length : Int)) = b2
      generalize row.all (inR (m.Next.length : Int)) = b3
      generalize o.all (inR (pw p.Out)) = b4
      cases b1 <;> cases b2 <;> cases b3 <;> cases b4 <;> rfl)]
    cases List.all m.Next.zipIdx (fun x => rowOk p m x.2 x.1) <;> rfl
theorem machOk_spec {p : Sig} {m : Machine} (h : machOk p m = true) : 1 ≤ m.Next.length ∧ m.Next.length ≤ 48 ∧ m.Out.length = m.Next.length ∧
    (∀ row ∈ m.Next, RowIn m.Next.length (pw p.In) row) ∧ (∀ row ∈ m.Out, RowIn (pw p.Out) (pw p.In) row) := by
  simp only [machOk, Bool.and_eq_true, decide_eq_true_eq, beq_iff_eq] at h
  obtain ⟨⟨⟨h1, h2⟩, h3⟩, h4⟩ := h
  rw [List.all_eq_true] at h4
  have key : ∀ (i : Nat) row, m.Next[i]? = some row → ∃ o, m.Out[i]? = some o ∧ RowIn m.Next.length (pw p.In) row ∧ RowIn (pw p.Out) (pw p.In) o := fun i row hr => by
    have := h4 (row, i) (List.mem_zipIdx_iff_getElem?.2 hr)
    unfold rowOk at this
    cases ho : m.Out[i]? with
    | none => simp [ho] at this
    | some o =>
      simp only [ho, Bool.and_eq_true, beq_iff_eq, List.all_eq_true, inR_iff] at this
      obtain ⟨⟨⟨k1, k2⟩, k3⟩, k4⟩ := this
      exact ⟨o, rfl, ⟨k1, k3⟩, ⟨by omega, k4⟩⟩
  refine ⟨by omega, by omega, by omega, fun row hr => ?_, fun o ho => ?_⟩
  · obtain ⟨i, hi⟩ := List.mem_iff_getElem?.1 hr
    exact (key i row hi).choose_spec.2.1
  · obtain ⟨i, hi⟩ := List.mem_iff_getElem?.1 ho
    have hlt := (List.getElem?_eq_some_iff.1 hi).1
    obtain ⟨o', h5, _, h6⟩ := key i _ (List.getElem?_eq_getElem (by omega))
    rw [hi] at h5
    cases h5
    exact h6
end Go.Proofs.YtnpmbkaoeihdmaaDoor
