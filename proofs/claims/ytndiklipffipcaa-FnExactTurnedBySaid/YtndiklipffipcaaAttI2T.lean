/- The program's attractor, whole. -/
import Derived.Test.YtndiklipffipcaaAttIT
import Derived.Test.YtndiklipffipcaaFillT
set_option linter.unusedVariables false
set_option linter.unusedSimpArgs false
namespace Go.Proofs.Ytndiklipffipcaa
open Go Go.Wk Go.Proofs
section
variable {x : solver} {n : Nat} (wf : WfI x n) {B : List Bool} (hB : B.length = n)
include wf hB
omit wf in
theorem certI_len {p : Bool} {goal : Int → Prop} {Q : List Int} (h : Cert (rowI x.game.Arena) (ownL x.game.Arena.Owner) (In B) p goal Q) : Q.length ≤ n := nodup_lenN n Q h.nd fun v hv => InI_rng hB (h.mem v hv)
/-- the program's attractor is one -/
theorem i_attr {goal : List Bool} (hG : goal.length = n) (p : Bool) (hN : Par.NoDead (gI x.game) (In B)) (hsub : ∀ v, In goal v → In B v) : ∃ A, i_solver_pull x (b2i p) B goal = some A ∧ A.length = n ∧ Par.IsAttr (gI x.game) (In B) p (In goal) (In A) := by
  have hn := wf.n256
  unfold i_solver_pull
  rw [appL (by rw [List.length_nil]; omega) rfl, Option.bind_some, hB, mkS_nat (by omega) rfl, Option.bind_some, listI_eq (by omega), Option.bind_some, List.nil_append]
  have hgm : ∀ v, v ∈ marksL goal goal.length ↔ In goal v := fun v => mem_marksL
  have hc0 : Cert (rowI x.game.Arena) (ownL x.game.Arena.Owner) (In B) p (In goal) (marksL goal goal.length) := ⟨marksL_nodup _ _, fun v hv => hsub v ((hgm v).1 hv), fun k v hk => .inl ((hgm v).1 (List.mem_of_getElem? hk))⟩
  have ht0 : Trap (rowI x.game.Arena) (ownL x.game.Arena.Owner) (In B) p (marksL goal goal.length) (fun _ y => y ∈ ([] : List Int)) := fun v hv hq => ⟨fun _ y _ _ h => by simp at h, fun ho => by
    obtain ⟨u, e1, e2⟩ := hN v hv
    exact ⟨u, e1, e2, by simp⟩⟩
  obtain ⟨o, w1, w2⟩ := while_out (f := i_solver_pull_b0 x (b2i p) B) (fun j (s : List Int × List Bool × List Int) => ∃ T Q, Q = T ++ s.1 ∧ T.length = j ∧ Cert (rowI x.game.Arena) (ownL x.game.Arena.Owner) (In B) p (In goal) Q ∧ (∀ v, In goal v → v ∈ Q) ∧ Trap (rowI x.game.Arena) (ownL x.game.Arena.Owner) (In B) p Q (fun _ y => y ∈ T) ∧
      (s.2.1.length = n ∧ ∀ v : Int, 0 ≤ v → v < n → idx s.2.1 v = some (decide (v ∈ Q))) ∧ (s.2.2.length = n ∧ ∀ w, In B w → w ∉ Q → ¬ ownL x.game.Arena.Owner w = p → LI x B s.2.2 w (fun y => y ∈ T))) (fun _ => False)
      (fun s => ∃ Q, Cert (rowI x.game.Arena) (ownL x.game.Arena.Owner) (In B) p (In goal) Q ∧ (∀ v, In goal v → v ∈ Q) ∧ Trap (rowI x.game.Arena) (ownL x.game.Arena.Owner) (In B) p Q (fun _ y => y ∈ Q) ∧ (s.2.1.length = n ∧ ∀ v : Int, 0 ≤ v → v < n → idx s.2.1 v = some (decide (v ∈ Q)))) n (fun j s ⟨T, Q, a1, a2, a3, a4, a5, a6, a7⟩ => by
    obtain ⟨R, out, left⟩ := s
    dsimp only at a1 a6 a7
    have hQn := certI_len hB a3
    unfold i_solver_pull_b0
    dsimp only
    cases R with
    | nil =>
      rw [List.append_nil] at a1
      subst a1
      simp only [List.length_nil, Int.natCast_zero, Int.lt_irrefl, decide_false, cond_false]
      exact ⟨_, rfl, Q, a3, a4, a5, a6⟩
    | cons u R =>
      have hlt : (0 : Int) < ((u :: R).length : Int) := by simp only [List.length_cons]; omega
      obtain ⟨u0, u1⟩ := InI_rng hB (a3.mem u (by rw [a1]; simp))
      obtain ⟨P, hP⟩ := idx_some (xs := x.preds) u0 (by rw [wf.lv]; exact u1)
      obtain ⟨p1, p2, p3⟩ := wf.prev u P hP
      have e2 : idx (u :: R) 0 = some u := rfl
      have e3 : subS (u :: R) 1 ((u :: R).length : Int) = some R := by
        unfold subS
        rw [if_pos ⟨by omega, by simp only [List.length_cons]; omega, by omega⟩, Int.toNat_natCast, List.take_length]
        rfl
      have hm0 : Mid (rowI x.game.Arena) (ownL x.game.Arena.Owner) (In B) p (In goal) T u [] Q := by
        have := Mid.first (T := T) (u := u) (R := R) (a1 ▸ a3) (a1 ▸ a5)
        rwa [← a1] at this
      obtain ⟨s', v1, v2⟩ := cnt_inv (f := i_solver_pull_b2 x (b2i p) B P) (fun k (s : List Int × List Bool × List Int) => Mid (rowI x.game.Arena) (ownL x.game.Arena.Owner) (In B) p (In goal) T u (P.take k) (T ++ u :: s.1) ∧
          (s.2.1.length = n ∧ ∀ v : Int, 0 ≤ v → v < n → idx s.2.1 v = some (decide (v ∈ T ++ u :: s.1))) ∧ (s.2.2.length = n ∧ ∀ w, In B w → w ∉ T ++ u :: s.1 → ¬ ownL x.game.Arena.Owner w = p → LI x B s.2.2 w (dn T u (P.take k) w)) ∧ (∀ v ∈ Q, v ∈ T ++ u :: s.1)) P.length (s := (R, out, left))
          ⟨by dsimp only; rw [← a1]; simpa using hm0, by dsimp only; rw [← a1]; exact a6, ⟨a7.1, fun w hw hq ho => by
            dsimp only at hq
            rw [← a1] at hq
            exact LI.congr (a7.2 w hw hq ho) fun y _ _ => (dn_self0 (by simp)).symm⟩, fun v hv => by dsimp only; rw [← a1]; exact hv⟩ (fun k s hk ⟨b3, b4, b5, b6⟩ => by
        obtain ⟨R', out', left'⟩ := s
        dsimp only at b3 b4 b5 b6
        have hv : P[k]? = some P[k] := List.getElem?_eq_getElem hk
        generalize P[k] = v at hv
        have hQ'n := certI_len hB b3.cert
        obtain ⟨R2, o2, l2, c1, c2, c3, c4, c5⟩ := i_prev_step wf hB b3 rfl (nodup_take p1 hv) hP hv (by omega) b4 b5
        refine ⟨_, c1, ?_, c3, ?_, fun v hv => c5 v (b6 v hv)⟩
        · rw [take_one hv]; exact c2
        · rw [take_one hv]; exact c4)
      obtain ⟨R', out', left'⟩ := s'
      obtain ⟨c1, c2, c3, c4⟩ := v2
      rw [List.take_length] at c1 c3
      dsimp only at c1 c2 c3 c4
      simp only [hlt, decide_true, cond_true, e2, e3, Option.bind_some, hP, v1, aft_inr]
      have hall : ∀ v, In B v → u ∈ rowI x.game.Arena v → v ∈ P := fun v hv hu => by
        rw [p3]
        unfold rowI at hu
        cases hr : idx x.game.Arena.Next v with
        | none => rw [hr] at hu; simp at hu
        | some r => rw [hr] at hu; exact ⟨r, rfl, hu⟩
      have hjn : j < n := by
        have := congrArg List.length a1
        rw [List.length_append, List.length_cons] at this
        omega
      refine ⟨_, rfl, hjn, T ++ [u], T ++ u :: R', by simp, by rw [List.length_append, a2]; rfl, c1.cert, fun v hg => c4 v (a4 v hg), c1.last hall, c2, c3.1, fun w hw hq ho => ?_⟩
      refine LI.congr (c3.2 w hw hq ho) fun y hy _ => ?_
      unfold dn
      rw [List.mem_append, List.mem_singleton]
      constructor
      · rintro (h | ⟨h, _⟩)
        · exact .inl h
        · exact .inr h
      · rintro (h | h)
        · exact .inl h
        · exact .inr ⟨h, hall w hw (h ▸ hy)⟩) (2 ^ 64) 0 (marksL goal goal.length, goal, List.replicate n 0) (by omega) ⟨[], marksL goal goal.length, rfl, rfl, hc0, fun v hg => (hgm v).2 hg, ht0, ⟨hG, fun v v0 v1 => by
        dsimp only
        rw [In_get (B := goal) v0 (by omega)]
        congr 1
        exact decide_eq_decide.2 (hgm v).symm⟩, ⟨by simp, fun w hw hq ho => .inr ⟨by
        have := InI_rng hB hw
        dsimp only
        rw [idx_int this.1, List.getElem?_replicate, if_pos (by omega)], fun y _ _ h => by simp at h⟩⟩⟩ (by omega)
  match o, w2 with
  | .inr s, ⟨Q, k1, k2, k3, k4⟩ =>
    rw [w1, Option.bind_some, aft_inr]
    refine ⟨_, rfl, k4.1, ?_⟩
    have ha := k1.attr (pri := priL x.game.Prio) (fun v _ hg => k2 v hg) k3
    have e : (fun v => v ∈ Q) = In s.2.1 := by
      funext v
      apply propext
      constructor
      · intro hv
        obtain ⟨v0, v1⟩ := InI_rng hB (k1.mem v hv)
        unfold In; rw [k4.2 v v0 v1]; simp [hv]
      · intro hv
        have hr := idx_rng hv
        unfold In at hv
        rw [k4.2 v hr.1 (by omega)] at hv
        simpa using hv
    rw [← e]; exact ha
end
end Go.Proofs.Ytndiklipffipcaa
