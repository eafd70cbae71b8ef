/- The program's solver finds who wins. -/
import Derived.Test.YtndiklipffipcaaAttI2T
import Derived.Test.YtndiklipffipcaaWonST
set_option linter.unusedVariables false
set_option linter.unusedSimpArgs false
namespace Go.Proofs.Ytndiklipffipcaa
open Go Go.Wk Go.Proofs

theorem hasTrue_eq {B : List Bool} : ∃ b, slices_Contains_bool_bool B true = some b ∧ (b = true ↔ ∃ v, In B v) := by
  unfold slices_Contains_bool_bool slices_Index_bool_bool
  obtain ⟨o, h1, h2⟩ := cnt_out0 (f := slices_Index_bool_bool_b0 B true) (fun j (_ : Unit) => ∀ v, v < (j : Int) → ¬ In B v) (fun r => 0 ≤ r ∧ ∃ v, In B v) (fun _ => False) B.length (s := ()) (fun v hv hi => by have := idx_rng hi; omega) (fun j s hj hi => by
    unfold slices_Index_bool_bool_b0
    rw [In_get (B := B) (by omega) (by omega), Option.bind_some]
    by_cases h : In B (j : Int)
    · simp only [h, decide_true, BEq.rfl, cond_true]
      exact ⟨_, rfl, by omega, _, h⟩
    · have : (true == decide (In B (j : Int))) = false := by simp [h]
      simp only [this, cond_false]
      refine ⟨_, rfl, fun v hv hi' => ?_⟩
      by_cases e : v = (j : Int)
      · subst e; exact h hi'
      · exact hi v (by omega) hi')
  match o, h2 with
  | .inl r, ⟨h0, hv⟩ =>
    rw [h1, Option.bind_some]
    exact ⟨_, rfl, fun _ => hv, fun _ => decide_eq_true h0⟩
  | .inr _, h2 =>
    have h2 := h2.resolve_right id
    rw [h1, Option.bind_some, aft_inr]
    refine ⟨_, rfl, fun h => absurd h (by decide), fun ⟨v, hv⟩ => absurd hv (h2 v (by have := idx_rng hv; omega))⟩
section
variable {x : solver} {n : Nat} (wf : WfI x n) (hp : PriOk x.game.Prio)
include wf hp
theorem i_top {B : List Bool} (hB : B.length = n) {w : Int} (hw : In B w) : ∃ d : Int, i_topIn x.game (marksL B B.length) = some d ∧ 0 ≤ d ∧ (∀ v, In B v → priL x.game.Prio v ≤ d) ∧ ∃ v, In B v ∧ priL x.game.Prio v = d := by
  have hlp := wf.lp
  obtain ⟨s, h1, h2, h3⟩ := cnt_inv (f := i_topIn_b0 x.game (marksL B B.length)) (fun j (s : Int) => (∀ v ∈ (marksL B B.length).take j, priL x.game.Prio v ≤ s) ∧ ((s = -1 ∧ j = 0) ∨ (0 ≤ s ∧ ∃ v, In B v ∧ priL x.game.Prio v = s))) (marksL B B.length).length (s := (-1 : Int)) ⟨fun v hv => by simp at hv, .inl ⟨rfl, rfl⟩⟩ (fun j s hj ⟨q2, q3⟩ => by
    have hu : (marksL B B.length)[j]? = some (marksL B B.length)[j] := List.getElem?_eq_getElem hj
    generalize (marksL B B.length)[j] = u at hu
    have hi := mem_marksL.1 (List.mem_of_getElem? hu)
    obtain ⟨u0, u1⟩ := In_of hB hi
    have hq := priL_get (P := x.game.Prio) (v := u) (by omega) (by omega)
    obtain ⟨d0, d1⟩ := hp _ _ hq
    unfold i_topIn_b0
    rw [idx_nat, hu, Option.bind_some, hq, Option.bind_some, take_one hu]
    refine ⟨_, rfl, fun v hv => ?_, .inr ?_⟩
    · rcases List.mem_append.1 hv with hv | hv
      · have := q2 v hv
        split <;> omega
      · rw [List.mem_singleton] at hv
        subst hv
        split <;> omega
    · by_cases hlt : s < priL x.game.Prio u
      · rw [if_pos hlt]; exact ⟨d0, u, hi, rfl⟩
      · rw [if_neg hlt]
        rcases q3 with ⟨e, _⟩ | h
        · omega
        · exact h)
  unfold i_topIn
  rw [h1, Option.bind_some, aft_inr]
  rw [List.take_length] at h2
  have hm := mem_marksL.2 hw
  rcases h3 with ⟨_, e⟩ | ⟨h0, h4⟩
  · rw [List.length_eq_zero_iff] at e
    rw [e] at hm
    cases hm
  · exact ⟨s, rfl, h0, fun v hv => h2 v (mem_marksL.2 hv), h4⟩
/-- the solver -/
theorem i_won : ∀ (k : Nat) (B : List Bool) (f : Nat), B.length = n → Par.NoDead (gI x.game) (In B) → cnt B ≤ k → k < f → ∃ R q, i_solver_won f x B = some (R, b2i q) ∧ R.length = n ∧ Par.Sol (gI x.game) (In B) q (In R) := by
  have hn := wf.n256
  intro k
  induction k with
  | zero =>
    intro B f hB hN hk hf
    obtain ⟨f, rfl⟩ : ∃ g, f = g + 1 := ⟨f - 1, by omega⟩
    show ∃ R q, i_solver_won_s (i_solver_won f) x B = some (R, b2i q) ∧ _
    unfold i_solver_won_s
    have h0 : cnt B = 0 := by omega
    have hno := cnt_zero h0
    rw [listI_eq (by omega), Option.bind_some]
    have e : ((marksL B B.length).length : Int) = 0 := by
      unfold cnt at h0; omega
    rw [e]
    exact ⟨B, false, rfl, hB, Par.Sol.void hno⟩
  | succ k ih =>
    intro B f hB hN hk hf
    obtain ⟨f, rfl⟩ : ∃ g, f = g + 1 := ⟨f - 1, by omega⟩
    show ∃ R q, i_solver_won_s (i_solver_won f) x B = some (R, b2i q) ∧ _
    unfold i_solver_won_s
    by_cases h0 : cnt B = 0
    · have hno := cnt_zero h0
      rw [listI_eq (by omega), Option.bind_some]
      have e : ((marksL B B.length).length : Int) = 0 := by
        unfold cnt at h0; omega
      rw [e]
      exact ⟨B, false, rfl, hB, Par.Sol.void hno⟩
    · have hw : ∃ w, In B w := by
        apply Classical.byContradiction
        intro hc
        apply h0
        unfold cnt
        rw [List.length_eq_zero_iff]
        cases hm : marksL B B.length with
        | nil => rfl
        | cons v vs => exact absurd ⟨v, mem_marksL.1 (by rw [hm]; exact List.mem_cons_self ..)⟩ hc
      obtain ⟨w, hw⟩ := hw
      obtain ⟨d, t1, hd0, t3, wt, hwt, hwd⟩ := i_top wf hp hB hw
      have hne : ((((marksL B B.length).length : Int)) == 0) = false := by
        unfold cnt at h0
        have : ((marksL B B.length).length : Int) ≠ 0 := by omega
        simpa using this
      have hwho := tmod_who hd0
      generalize hpe : Par.oddP d = p at hwho
      rw [listI_eq (by omega), Option.bind_some, hne, cond_false, t1, Option.bind_some, appL (by rw [List.length_nil]; omega) rfl, Option.bind_some, List.nil_append]
      obtain ⟨o, w1, w2⟩ := while_out (f := i_solver_won_b0 (i_solver_won f) x B d) (fun j (now : List Bool) => now.length = n ∧ Par.Red (gI x.game) (In B) (In now) p ∧ Par.NoDead (gI x.game) (In now) ∧ (cnt now < cnt B ∨ ∀ v, In B v → In now v) ∧ cnt now + j ≤ cnt B)
        (fun r => ∃ R, r = (R, b2i p) ∧ R.length = n ∧ Par.Sol (gI x.game) (In B) p (In R)) (fun _ => False) (cnt B) (fun j now ⟨q1, q2, q3, q4, q5⟩ => by
        unfold i_solver_won_b0
        rw [hB, mkS_nat (by omega) rfl, Option.bind_some]
        obtain ⟨goal, g1, g2, g3⟩ := fillB (f := i_solver_won_b2 x d now) (fun v => In now v ∧ priL x.game.Prio v = d) n (s0 := List.replicate n false) (by simp) (fun j s hj hs => by
          unfold i_solver_won_b2
          rw [In_get (B := now) (by omega) (by omega), Option.bind_some, priL_get (P := x.game.Prio) (by omega) (by rw [wf.lp]; omega), Option.bind_some, andE, Option.bind_some]
          congr 1
          funext _
          congr 2
          rw [Bool.eq_iff_iff]; simp) (fun v hv => In_of q1 hv.1)
        rw [List.length_replicate, g1, Option.bind_some, aft_inr, hwho]
        obtain ⟨A, a1, a2, a3⟩ := i_attr wf q1 g2 p q3 fun v hv => ((g3 v).1 hv).1
        have hA : Par.IsAttr (gI x.game) (In now) p (fun v => (gI x.game).pri v = d) (In A) := a3.congrS fun v hv => by rw [g3]; exact ⟨fun h => h.2, fun h => ⟨hv, h⟩⟩
        obtain ⟨rest, r1, r2, r3⟩ := without_eq q1 a2 hn
        have hX1 : ∀ v, Par.Mn (In now) (In A) v ↔ In rest v := fun v => (r3 v).symm
        have e1 : Par.Mn (In now) (In A) = In rest := funext fun v => propext (hX1 v)
        have hN1 : Par.NoDead (gI x.game) (In rest) := e1 ▸ q3.less hA
        have hcn : cnt rest ≤ cnt now := cnt_sub fun v hv => ((r3 v).1 hv).1
        have hc1 : cnt rest < cnt B := by
          rcases q4 with h | h
          · omega
          · have hwn := h wt hwt
            have := cnt_lt (fun v hv => ((r3 v).1 hv).1) hwn fun h => ((r3 wt).1 h).2 (a3.base wt hwn ((g3 wt).2 ⟨hwn, hwd⟩))
            omega
        obtain ⟨W, q, l1, l2, l3⟩ := ih rest f r2 hN1 (by omega) (by omega)
        simp only [a1, Option.bind_some, r1, l1, b2i_beq]
        have hW := l3.asP p
        -- what is lost
        have hlost : ∃ L, (bif q == p then Option.bind (i_without rest W) fun x80 => some (x80 : List Bool) else some W) = some L ∧ L.length = n ∧ ∀ v, In L v ↔ Par.Mn (In rest) (fun v => In rest v ∧ (In W v ↔ p = q)) v := by
          by_cases e : q = p
          · subst e
            obtain ⟨L, m1, m2, m3⟩ := without_eq r2 l2 hn
            refine ⟨L, by rw [m1, show (q == q) = true from by simp]; rfl, m2, fun v => ?_⟩
            rw [m3]
            unfold Par.Mn
            by_cases h1 : In rest v <;> by_cases h2 : In W v <;> simp [h1, h2]
          · have hb : (q == p) = false := by simpa using e
            refine ⟨W, by rw [hb]; rfl, l2, fun v => ?_⟩
            have := l3.sub v
            unfold Par.Mn
            have e' : ¬ p = q := fun h => e h.symm
            by_cases h1 : In rest v <;> by_cases h2 : In W v <;> simp [h1, h2, e'] at this ⊢
        obtain ⟨L, m1, m2, m3⟩ := hlost
        have eL : Par.Mn (In rest) (fun v => In rest v ∧ (In W v ↔ p = q)) = In L := funext fun v => propext (m3 v).symm
        obtain ⟨b, c1, c2⟩ := hasTrue_eq (B := L)
        simp only [m1, Option.bind_some, c1]
        cases hb : b with
        | false =>
          simp only [Bool.not_false, cond_true]
          have hno : ∀ v, ¬ In L v := fun v hv => by
            have := c2.2 ⟨v, hv⟩
            rw [hb] at this; cases this
          refine ⟨_, rfl, now, rfl, q1, q2.sol (Par.Sol.top q3 (fun v hv => t3 v (q2.sub v hv)) hpe hA (e1.symm ▸ hW) fun v hv => ?_)⟩
          have hv' := (hX1 v).1 hv
          apply Classical.byContradiction
          intro hc
          exact hno v ((m3 v).2 ⟨hv', fun h => hc ⟨hv, h.2⟩⟩)
        | true =>
          simp only [Bool.not_true, cond_false]
          obtain ⟨w2, hw2⟩ := c2.1 hb
          have hLn : ∀ v, In L v → In now v := fun v hv => ((r3 v).1 ((m3 v).1 hv).1).1
          obtain ⟨A2, b1, b2, b3⟩ := i_attr wf q1 m2 (!p) q3 hLn
          obtain ⟨now2, n1, n2, n3⟩ := without_eq q1 b2 hn
          have e2 : Par.Mn (In now) (In A2) = In now2 := funext fun v => propext (n3 v).symm
          have hN2 : Par.NoDead (gI x.game) (In now2) := e2 ▸ q3.less b3
          have hc2 : cnt now2 < cnt now := cnt_lt (fun v hv => ((n3 v).1 hv).1) (hLn w2 hw2) fun h => ((n3 w2).1 h).2 (b3.base w2 (hLn w2 hw2) hw2)
          have hRed : Par.Red (gI x.game) (In B) (In now2) p := by
            have := q2.step hA (e1.symm ▸ hW) (by rw [e1, eL]; exact b3)
            rwa [e2] at this
          obtain ⟨b', c1', c2'⟩ := hasTrue_eq (B := now2)
          rw [b2i_other]
          simp only [b1, Option.bind_some, n1, c1']
          cases hb' : b' with
          | false =>
            simp only [Bool.not_false, cond_true]
            refine ⟨_, rfl, now2, rfl, n2, hRed.sol (Par.Sol.void fun v hv => ?_)⟩
            have := c2'.2 ⟨v, hv⟩
            rw [hb'] at this; cases this
          | true =>
            simp only [Bool.not_true, cond_false]
            exact ⟨_, rfl, by omega, n2, hRed, hN2, .inl (by omega), by omega⟩) (2 ^ 64) 0 B (by have := cnt_le B; omega) ⟨hB, Par.Red.refl, hN, .inr fun _ h => h, by omega⟩ (by omega)
      match o, w2 with
      | .inl r, ⟨R, k1, k2, k3⟩ =>
        subst k1
        rw [w1, Option.bind_some]
        exact ⟨R, p, rfl, k2, k3⟩
end
end Go.Proofs.Ytndiklipffipcaa
