/- Arenas, parity games, edits: what both sides compute. -/
import Derived.Test.YtndiklipffipcaaSetET
set_option linter.unusedVariables false
set_option linter.unusedSimpArgs false
namespace Go.Proofs.Ytndiklipffipcaa
open Go Go.Wk Go.Proofs

/-- a vertex of an arena -/
def vertOk (a : Arena) (i : Nat) (row : List Int) : Bool := (match a.Owner[i]? with | some o => inR 2 o | none => false) && decide ((1 : Int) ≤ row.length) && decide ((row.length : Int) ≤ 16) && setOk (a.Owner.length : Int) row
def arenaOk (a : Arena) : Bool := decide (1 ≤ (a.Owner.length : Int)) && decide ((a.Owner.length : Int) ≤ 256) && ((a.Next.length : Int) == (a.Owner.length : Int)) && a.Next.zipIdx.all (fun p => vertOk a p.2 p.1)
def parityOk (g : Parity) : Bool := arenaOk g.Arena && ((g.Prio.length : Int) == (g.Arena.Owner.length : Int)) && g.Prio.all (inR 41)
theorem s_ArenaOk_eq (a : Arena) : s_ArenaOk a = some (arenaOk a) := by
  unfold s_ArenaOk arenaOk
  rw [s_l1In_eq, Option.bind_some]
  cases h1 : (decide (1 ≤ (a.Owner.length : Int)) && decide ((a.Owner.length : Int) ≤ 256)) with
  | false => rfl
  | true =>
    simp only [Bool.and_eq_true, decide_eq_true_eq] at h1
    simp only [Bool.not_true, cond_false, Option.bind_some, Bool.true_and, bne]
    cases h2 : ((a.Next.length : Int) == (a.Owner.length : Int)) with
    | false => rfl
    | true =>
      have hl : a.Owner.length = a.Next.length := by have := beq_iff_eq.1 h2; omega
      rw [cnt_allP (f := s_ArenaOk_b0 a) (r := false) (vertOk a) (xs := a.Next) hl (fun i row hx => by
        have hi := (List.getElem?_eq_some_iff.1 hx).1
        obtain ⟨o, ho⟩ : ∃ o, a.Owner[i]? = some o := ⟨_, List.getElem?_eq_getElem (by omega)⟩
        have hv : vertOk a i row = (inR 2 o && decide ((1 : Int) ≤ row.length) && decide ((row.length : Int) ≤ 16) && setOk (a.Owner.length : Int) row) := by unfold vertOk; rw [ho]
        rw [hv]
        unfold s_ArenaOk_b0
        rw [idx_nat, idx_nat, ho, hx]
        simp only [Option.bind_some, s_l1In_eq, in2]
        cases inR 2 o with
        | false => rfl
        | true =>
          simp only [Bool.not_true, cond_false, Option.bind_some, gt_not, Bool.true_and]
          cases h3 : decide ((1 : Int) ≤ row.length) with
          | false => rfl
          | true =>
            simp only [Bool.not_true, cond_false, Option.bind_some, Bool.true_and]
            cases h4 : decide ((row.length : Int) ≤ 16) with
            | false => rfl
            | true =>
              have h4 := of_decide_eq_true h4
              rw [s_l1Set_eq (by omega) (by omega) (by omega)]
              simp only [Bool.not_true, cond_false, Option.bind_some, Bool.true_and]
              cases setOk (a.Owner.length : Int) row <;> rfl)]
      simp only [Bool.not_true, cond_false, Option.bind_some, Bool.true_and]
      cases List.all a.Next.zipIdx (fun p => vertOk a p.2 p.1) <;> rfl
theorem i_ArenaOk_eq (a : Arena) : i_ArenaOk a = some (arenaOk a) := by
  unfold i_ArenaOk arenaOk
  simp only [orE, Option.bind_some, gt_not, bne]
  rw [show (!decide (1 ≤ (a.Owner.length : Int)) || !decide ((a.Owner.length : Int) ≤ 256) || !((a.Next.length : Int) == (a.Owner.length : Int))) = !(decide (1 ≤ (a.Owner.length : Int)) && decide ((a.Owner.length : Int) ≤ 256) && ((a.Next.length : Int) == (a.Owner.length : Int))) from by simp only [Bool.not_and]]
  cases h1 : (decide (1 ≤ (a.Owner.length : Int)) && decide ((a.Owner.length : Int) ≤ 256) && ((a.Next.length : Int) == (a.Owner.length : Int))) with
  | false => rfl
  | true =>
    simp only [Bool.and_eq_true, decide_eq_true_eq, beq_iff_eq] at h1
    simp only [Bool.not_true, cond_false, Option.bind_some, Bool.true_and]
    rw [cnt_allP (f := i_ArenaOk_b0 a) (r := false) (vertOk a) (xs := a.Next) rfl (fun i row hx => by
      have hi := (List.getElem?_eq_some_iff.1 hx).1
      obtain ⟨o, ho⟩ : ∃ o, a.Owner[i]? = some o := ⟨_, List.getElem?_eq_getElem (by omega)⟩
      have hv : vertOk a i row = (inR 2 o && decide ((1 : Int) ≤ row.length) && decide ((row.length : Int) ≤ 16) && setOk (a.Owner.length : Int) row) := by unfold vertOk; rw [ho]
      rw [hv]
      unfold i_ArenaOk_b0
      rw [idx_nat, idx_nat, ho, hx]
      simp only [Option.bind_some]
      have hx2 : (decide (o < 0) || decide (1 < o)) = !(inR 2 o) := by
        rw [← not_inR]; congr 1
      rw [orE, Option.bind_some, hx2]
      cases inR 2 o with
      | false => rfl
      | true =>
        simp only [Bool.not_true, cond_false, Option.bind_some, gt_not, Bool.true_and]
        cases h3 : decide ((1 : Int) ≤ row.length) with
        | false => rfl
        | true =>
          simp only [Bool.not_true, cond_false, Option.bind_some, Bool.true_and]
          cases h4 : decide ((row.length : Int) ≤ 16) with
          | false => rfl
          | true =>
            have h4 := of_decide_eq_true h4
            rw [i_isSet_eq (by omega)]
            simp only [Bool.not_true, cond_false, Option.bind_some, Bool.true_and]
            cases setOk (a.Owner.length : Int) row <;> rfl)]
    simp only [Bool.not_true, cond_false, Option.bind_some, Bool.true_and]
    cases List.all a.Next.zipIdx (fun p => vertOk a p.2 p.1) <;> rfl
theorem s_ParityOk_eq (g : Parity) : s_ParityOk g = some (parityOk g) := by
  unfold s_ParityOk parityOk
  rw [s_ArenaOk_eq, Option.bind_some, orE, Option.bind_some, bne, ← Bool.not_and]
  cases h1 : (arenaOk g.Arena && ((g.Prio.length : Int) == (g.Arena.Owner.length : Int))) with
  | false => rfl
  | true =>
    simp only [Bool.not_true, cond_false]
    rw [cnt_all0 (f := s_ParityOk_b0 g) (r := false) (inR 41) (xs := g.Prio) rfl (fun i y hy => by
      unfold s_ParityOk_b0
      rw [idx_nat, hy, Option.bind_some, s_l1In_eq, Option.bind_some, in41]
      cases inR 41 y <;> rfl)]
    cases g.Prio.all (inR 41) <;> rfl
theorem i_ParityOk_eq (g : Parity) : i_ParityOk g = some (parityOk g) := by
  unfold i_ParityOk parityOk
  rw [i_ArenaOk_eq, Option.bind_some, orE, Option.bind_some, bne, ← Bool.not_and]
  cases h1 : (arenaOk g.Arena && ((g.Prio.length : Int) == (g.Arena.Owner.length : Int))) with
  | false => rfl
  | true =>
    simp only [Bool.not_true, cond_false]
    rw [cnt_all0 (f := i_ParityOk_b0 g) (r := false) (inR 41) (xs := g.Prio) rfl (fun i y hy => by
      unfold i_ParityOk_b0
      rw [idx_nat, hy, Option.bind_some, orE, Option.bind_some]
      have hx2 : (decide (y < 0) || decide (40 < y)) = !(inR 41 y) := by
        rw [← not_inR]; congr 1
      rw [hx2]
      cases inR 41 y <;> rfl)]
    cases g.Prio.all (inR 41) <;> rfl
/-- what a right game is -/
theorem parityOk_spec {g : Parity} (h : parityOk g = true) : 1 ≤ g.Arena.Owner.length ∧ g.Arena.Owner.length ≤ 256 ∧ g.Arena.Next.length = g.Arena.Owner.length ∧ g.Prio.length = g.Arena.Owner.length ∧
    (∀ (i : Nat) row, g.Arena.Next[i]? = some row → 1 ≤ row.length ∧ row.length ≤ 16 ∧ setOk (g.Arena.Owner.length : Int) row = true) := by
  simp only [parityOk, arenaOk, Bool.and_eq_true, decide_eq_true_eq, beq_iff_eq] at h
  obtain ⟨⟨⟨⟨⟨h1, h2⟩, h3⟩, h4⟩, h5⟩, h6⟩ := h
  refine ⟨by omega, by omega, by omega, by omega, fun i row hr => ?_⟩
  rw [List.all_eq_true] at h4
  have := h4 (row, i) (List.mem_zipIdx_iff_getElem?.2 hr)
  simp only [vertOk, Bool.and_eq_true, decide_eq_true_eq] at this
  exact ⟨by omega, by omega, this.2⟩
def hasI (row : List Int) (v : Int) : Bool := row.any (fun x => v == x)
theorem s_l16Has_eq (row : List Int) (v : Int) : s_l16Has row v = some (hasI row v) := by
  unfold s_l16Has
  rw [cnt_all0 (f := s_l16Has_b0 row v) (r := true) (fun x => !(v == x)) (xs := row) rfl (fun i y hy => by
    unfold s_l16Has_b0
    rw [idx_nat, hy, Option.bind_some, show (y == v) = (v == y) from BEq.comm]
    cases v == y <;> rfl)]
  unfold hasI
  rw [List.any_eq_not_all_not]
  cases row.all (fun x => !(v == x)) <;> rfl
def editRow (n : Int) (row : List Int) (e : Edit) : Bool :=
  bif e.Kind == 1 then inR 41 e.N else bif e.Kind == 2 then inR 2 e.N else bif e.Kind == 3 then inR n e.N && !(hasI row e.N) && decide ((row.length : Int) < 16) else bif e.Kind == 4 then hasI row e.N && decide (1 < (row.length : Int)) else false
def editOk (g : Parity) (e : Edit) : Bool := inR (g.Arena.Owner.length : Int) e.V && (match g.Arena.Next[e.V.toNat]? with | some row => editRow (g.Arena.Owner.length : Int) row e | none => false)
theorem s_EditOk_eq (g : Parity) (e : Edit) : s_EditOk g e = some (parityOk g && editOk g e) := by
  unfold s_EditOk editOk
  rw [s_ParityOk_eq, Option.bind_some]
  cases hp : parityOk g with
  | false => rfl
  | true =>
    obtain ⟨h1, h2, h3, h4, h5⟩ := parityOk_spec hp
    simp only [Bool.not_true, cond_false, h4, wr' (z := (g.Arena.Owner.length : Int) - 1) (by omega) (by omega), s_l1In_eq, inR_one, Option.bind_some, Bool.true_and]
    cases hv : inR (g.Arena.Owner.length : Int) e.V with
    | false => rfl
    | true =>
      obtain ⟨v0, v1⟩ := inR_iff.1 hv
      have hr : g.Arena.Next[e.V.toNat]? = some (g.Arena.Next[e.V.toNat]'(by omega)) := List.getElem?_eq_getElem (by omega)
      rw [idx_int v0, hr]
      generalize g.Arena.Next[e.V.toNat]'(by omega) = row
      simp only [Bool.not_true, cond_false, Option.bind_some, Bool.true_and, in41, in2, s_l16Has_eq]
      unfold editRow
      cases e.Kind == 1 <;> cases e.Kind == 2 <;> cases e.Kind == 3 <;> cases e.Kind == 4 <;> cases inR (g.Arena.Owner.length : Int) e.N <;> cases hasI row e.N <;> rfl
theorem i_hasVertex_eq (a : Arena) (v : Int) : i_hasVertex a v = some (inR (a.Owner.length : Int) v) := by
  unfold i_hasVertex i_size inR
  simp only [Option.bind_some, andE]
theorem i_isPlayer_eq (v : Int) : i_isPlayer v = some (inR 2 v) := by
  unfold i_isPlayer
  rw [orE, Option.bind_some]
  congr 1
  by_cases h0 : v = 0
  · subst h0; rfl
  · by_cases h1 : v = 1
    · subst h1; rfl
    · have e1 : (v == 0) = false := by simp [h0]
      have e2 : (v == 1) = false := by simp [h1]
      rw [e1, e2]
      unfold inR
      by_cases h2 : 0 ≤ v
      · have : ¬ v < 2 := by omega
        simp [this]
      · simp [h2]
theorem i_isEdit_eq {g : Parity} (hp : parityOk g = true) (e : Edit) : i_isEdit g e = some (editOk g e) := by
  unfold i_isEdit editOk
  obtain ⟨h1, h2, h3, h4, h5⟩ := parityOk_spec hp
  simp only [i_hasVertex_eq, Option.bind_some, i_isPlayer_eq, andE, in41]
  cases hv : inR (g.Arena.Owner.length : Int) e.V with
  | false => rfl
  | true =>
    obtain ⟨v0, v1⟩ := inR_iff.1 hv
    have hr : g.Arena.Next[e.V.toNat]? = some (g.Arena.Next[e.V.toNat]'(by omega)) := List.getElem?_eq_getElem (by omega)
    rw [idx_int v0, hr]
    generalize g.Arena.Next[e.V.toNat]'(by omega) = row
    simp only [Bool.not_true, cond_false, Option.bind_some, Bool.true_and, slices_Contains_I_int64_eq]
    unfold editRow
    rw [show (row.any fun x => e.N == x) = hasI row e.N from rfl]
    cases e.Kind == 1 <;> cases e.Kind == 2 <;> cases e.Kind == 3 <;> cases e.Kind == 4 <;> cases inR (g.Arena.Owner.length : Int) e.N <;> cases hasI row e.N <;> rfl
end Go.Proofs.Ytndiklipffipcaa
