/- CircuitMachine: both sides compute the same. -/
import Derived.Test.YtfmkhnlnomkcfaaPlaceIC4
import Derived.Test.YtfmkhnlnomkcfaaNamesC4
import Derived.Test.YtfmkhnlnomkcfaaStpC4
set_option linter.unusedVariables false
set_option linter.unusedSimpArgs false
namespace Go.Proofs.Ytfmkhnlnomkcfaa
open Go Go.Wk Go.Proofs

abbrev Row3 := List Int × List Int × List Int
def stepC (c : Circuit) (l : Int) (s : Row3) (x : Int) : Row3 := (addN s.1 (stp c l x).1, s.2.1 ++ [placeOf (addN s.1 (stp c l x).1) (stp c l x).1], s.2.2 ++ [(stp c l x).2])
section
variable {c : Circuit} (hc : circOk c = true) {n : Nat} (hn : (2 : Int) ^ c.Latches.toNat = n) {k : Nat} (hk : (k : Int) ≤ 2 ^ c.Inputs.toNat)
include hc hn hk
theorem fold_in {l : Int} (l0 : 0 ≤ l) (l1 : l < n) : ∀ (j : Nat), j ≤ k → ∀ {s : Row3}, Names n s.1 →
    Names n ((ints j).foldl (stepC c l) s).1 ∧ ((ints j).foldl (stepC c l) s).2.1.length = s.2.1.length + j ∧ ((ints j).foldl (stepC c l) s).2.2.length = s.2.2.length + j ∧ (∀ (i : Nat) v, s.1[i]? = some v → ((ints j).foldl (stepC c l) s).1[i]? = some v)
  | 0, _, s, h => ⟨h, rfl, rfl, fun _ _ h => h⟩
  | j + 1, hj, s, h => by
    obtain ⟨h1, h2, h3, h4⟩ := fold_in l0 l1 j (by omega) h
    obtain ⟨_, _, a0, a1, _, _⟩ := stp_eq hc (l := l) (n := (j : Int)) l0 (by omega) (by omega) (by omega)
    obtain ⟨b1, b2⟩ := h1.add (u := (stp c l j).1) a0 (by omega)
    rw [ints_succ, List.foldl_append]
    refine ⟨b1, ?_, ?_, fun i v hv => b2 i v (h4 i v hv)⟩
    · show ((_ : List Int) ++ [_]).length = _
      rw [List.length_append, h2]; rfl
    · show ((_ : List Int) ++ [_]).length = _
      rw [List.length_append, h3]; rfl
omit hc hn hk in
theorem fold_mono (c : Circuit) (l : Int) : ∀ (xs : List Int) (s : Row3), s.1.length ≤ (xs.foldl (stepC c l) s).1.length
  | [], s => Nat.le_refl _
  | x :: xs, s => Nat.le_trans (addN_le s.1 _).1 (fold_mono c l xs (stepC c l s x))
theorem i_rowC {s1 : List Int × Int × List (List Int) × List (List Int)} {i : Nat} (hi : s1.2.1 = (i : Int)) {l : Int} (hl : s1.1[i]? = some l) (l0 : 0 ≤ l) (l1 : l < n) (hN : Names n s1.1) (hn64 : n ≤ 64) (hk4 : k ≤ 16) :
    cntM (i_CircuitMachine_b2 c s1) k 0 (s1.1, [], []) = some (.inr ((ints k).foldl (stepC c l) (s1.1, [], []))) := by
  have := (cnt_foldI (f := i_CircuitMachine_b2 c s1) (stepC c l) (fun j s => s = (ints j).foldl (stepC c l) (s1.1, [], [])) (xs := ints k) (fun j x s hx hs => by
    obtain ⟨rfl, hjk⟩ := ints_get hx
    obtain ⟨h1, h2, h3, h4⟩ := fold_in hc hn hk l0 l1 j (by omega) (s := (s1.1, [], [])) hN
    subst hs
    have hlen := h1.len
    obtain ⟨_, e2, a0, a1, _, _⟩ := stp_eq hc (l := l) (n := (j : Int)) l0 (by omega) (by omega) (by omega)
    have hst : (ints (j + 1)).foldl (stepC c l) (s1.1, [], []) = stepC c l ((ints j).foldl (stepC c l) (s1.1, [], [])) j := by rw [ints_succ, List.foldl_append]; rfl
    refine ⟨?_, hst.symm⟩
    generalize (ints j).foldl (stepC c l) (s1.1, [], []) = F at *
    have f2 : F.2.1.length = j := by rw [h2]; simp
    have f3 : F.2.2.length = j := by rw [h3]; simp
    unfold i_CircuitMachine_b2
    rw [hi, idx_nat, h4 i l hl, Option.bind_some, e2, Option.bind_some, index_place, Option.bind_some, place_lt]
    by_cases hu : (stp c l j).1 ∈ F.1
    · simp only [hu, decide_true, Bool.not_true, cond_false, Option.bind_some]
      rw [app1 (by omega) rfl, Option.bind_some, app1 (by omega) rfl]
      simp [stepC, addN, hu]
    · simp only [hu, decide_false, Bool.not_false, cond_true]
      rw [app1 (by omega) rfl, Option.bind_some, Option.bind_some, app1 (by omega) rfl, Option.bind_some, app1 (by omega) rfl]
      simp [stepC, addN, hu, place_new hu]) (s := (s1.1, [], [])) rfl).1
  rw [ints_len] at this
  exact this
/-- the place of a number, or the place behind all -/
def at_ (xs : List Int) (v : Int) : Int := if v ∈ xs then placeOf xs v else (xs.length : Int)
omit hc hn hk in
theorem s_seek {s4 : List Int × List Int × List Int × Int} {x49 : Int × Int} (hlen : s4.1.length ≤ 100000) : whileM (s_CircuitMachine_b4 s4 x49) (2 ^ 64) 0 = some (.inr (at_ s4.1 x49.1)) := by
  obtain ⟨o, h1, h2⟩ := while_out (f := s_CircuitMachine_b4 s4 x49) (fun j (s : Int) => s = (j : Int) ∧ j ≤ s4.1.length ∧ ∀ i, i < j → s4.1[i]? ≠ some x49.1) (fun _ => False) (fun s => s = at_ s4.1 x49.1) s4.1.length (fun j s ⟨hs, hj, hall⟩ => by
    subst hs
    unfold s_CircuitMachine_b4
    by_cases hlt : (j : Int) < (s4.1.length : Int)
    · have e1 : s4.1[j]? = some (s4.1[j]'(by omega)) := List.getElem?_eq_getElem (by omega)
      generalize s4.1[j]'(by omega) = x at e1
      simp only [hlt, decide_true, cond_true, idx_nat, e1, Option.bind_some, bne]
      by_cases hx : x = x49.1
      · subst hx
        simp only [beq_self_eq_true, Bool.not_true, cond_false]
        refine ⟨_, rfl, ?_⟩
        unfold at_
        rw [if_pos (List.mem_of_getElem? e1), place_first e1 hall]
      · have : (x == x49.1) = false := by rw [beq_eq_false_iff_ne]; exact hx
        rw [this]
        simp only [Bool.not_false, cond_true]
        refine ⟨_, rfl, by omega, ?_, by omega, fun i hi => ?_⟩
        · rw [wr' (by omega) (by omega)]; omega
        · by_cases hij : i = j
          · rw [hij, e1]; exact fun h => hx (Option.some.inj h)
          · exact hall i (by omega)
    · simp only [hlt, decide_false, cond_false, Option.bind_some]
      refine ⟨_, rfl, ?_⟩
      have hnot : x49.1 ∉ s4.1 := fun hm => by
        obtain ⟨i, hi⟩ := List.mem_iff_getElem?.1 hm
        exact hall i (by have := (List.getElem?_eq_some_iff.1 hi).1; omega) hi
      unfold at_
      rw [if_neg hnot]; omega) (2 ^ 64) 0 0 (by omega) ⟨rfl, by omega, fun i hi => absurd hi (Nat.not_lt_zero i)⟩ (by omega)
  match o, h2 with
  | .inr s, h2 => rw [h1, h2]
theorem s_rowC {p : Sig} (hp : s_l31Pow p.In = some (k : Int)) {s1 : List Int × Int × List (List Int) × List (List Int)} {i : Nat} (hi : s1.2.1 = (i : Int)) {l : Int} (hl : s1.1[i]? = some l) (l0 : 0 ≤ l) (l1 : l < n) (hN : Names n s1.1) (hn64 : n ≤ 64) (hk4 : k ≤ 16) (h48 : s1.1.length ≤ 48) :
    (∃ z, whileM (s_CircuitMachine_b2 p c s1) (2 ^ 64) (s1.1, [], [], 0) = some (.inr (((ints k).foldl (stepC c l) (s1.1, [], [])).1, ((ints k).foldl (stepC c l) (s1.1, [], [])).2.1, ((ints k).foldl (stepC c l) (s1.1, [], [])).2.2, z)) ∧ ((ints k).foldl (stepC c l) (s1.1, [], [])).1.length ≤ 48) ∨
    (whileM (s_CircuitMachine_b2 p c s1) (2 ^ 64) (s1.1, [], [], 0) = some (.inl (⟨[], []⟩, false)) ∧ 48 < ((ints k).foldl (stepC c l) (s1.1, [], [])).1.length) := by
  obtain ⟨o, h1, h2⟩ := while_out (f := s_CircuitMachine_b2 p c s1) (fun j (s : List Int × List Int × List Int × Int) => s = (((ints j).foldl (stepC c l) (s1.1, [], [])).1, ((ints j).foldl (stepC c l) (s1.1, [], [])).2.1, ((ints j).foldl (stepC c l) (s1.1, [], [])).2.2, (j : Int)) ∧ j ≤ k ∧ ((ints j).foldl (stepC c l) (s1.1, [], [])).1.length ≤ 48)
    (fun r => r = (⟨[], []⟩, false) ∧ 48 < ((ints k).foldl (stepC c l) (s1.1, [], [])).1.length) (fun s => (∃ z, s = (((ints k).foldl (stepC c l) (s1.1, [], [])).1, ((ints k).foldl (stepC c l) (s1.1, [], [])).2.1, ((ints k).foldl (stepC c l) (s1.1, [], [])).2.2, z)) ∧ ((ints k).foldl (stepC c l) (s1.1, [], [])).1.length ≤ 48) k (fun j s ⟨hs, hj, hl48⟩ => by
    subst hs
    obtain ⟨g1, g2, g3, g4⟩ := fold_in hc hn hk l0 l1 j hj (s := (s1.1, [], [])) hN
    unfold s_CircuitMachine_b2
    dsimp only
    rw [hp, Option.bind_some]
    by_cases hlt : (j : Int) < (k : Int)
    · obtain ⟨e1, _, a0, a1, _, _⟩ := stp_eq hc (l := l) (n := (j : Int)) l0 (by omega) (by omega) (by omega)
      have hst : (ints (j + 1)).foldl (stepC c l) (s1.1, [], []) = stepC c l ((ints j).foldl (stepC c l) (s1.1, [], [])) j := by rw [ints_succ, List.foldl_append]; rfl
      have hmono : ((ints (j + 1)).foldl (stepC c l) (s1.1, [], [])).1.length ≤ ((ints k).foldl (stepC c l) (s1.1, [], [])).1.length := by
        have hsplit : ints k = ints (j + 1) ++ (ints k).drop (j + 1) := by
          have : (ints k).take (j + 1) = ints (j + 1) := by
            unfold ints
            rw [← List.map_take, List.take_range, Nat.min_eq_left (by omega)]
          rw [← this, List.take_append_drop]
        rw [hsplit, List.foldl_append]
        exact fold_mono c l _ _
      rw [hst] at hmono
      have f2 : ((ints j).foldl (stepC c l) (s1.1, [], [])).2.1.length = j := by rw [g2]; simp
      have f3 : ((ints j).foldl (stepC c l) (s1.1, [], [])).2.2.length = j := by rw [g3]; simp
      simp only [hlt, decide_true, cond_true]
      rw [hi, idx_nat, g4 i l hl, Option.bind_some, e1, Option.bind_some, s_seek (by dsimp only; omega), Option.bind_some, aft_inr]
      dsimp only
      generalize (ints j).foldl (stepC c l) (s1.1, [], []) = F at *
      unfold at_
      by_cases hu : (stp c l j).1 ∈ F.1
      · obtain ⟨q, p1, p2, _⟩ := place_in hu
        have : ((placeOf F.1 (stp c l j).1) == (F.1.length : Int)) = false := by rw [beq_eq_false_iff_ne, p1]; omega
        simp only [hu, if_true, this, cond_false, Option.bind_some, aft_inr]
        rw [app1 (by omega) rfl, Option.bind_some, app1 (by omega) rfl]
        refine ⟨_, rfl, by omega, ?_, by omega, ?_⟩
        · rw [hst, wr' (by omega) (by omega)]
          simp [stepC, addN, hu]
        · rw [hst]
          show (addN F.1 _).length ≤ 48
          unfold addN; rw [if_pos hu]; exact hl48
      · simp only [hu, if_false, beq_self_eq_true, cond_true]
        by_cases hfull : 48 ≤ (F.1.length : Int)
        · simp only [hfull, decide_true, cond_true, Option.bind_some, aft_inl]
          refine ⟨_, rfl, rfl, ?_⟩
          have : (stepC c l F j).1.length = F.1.length + 1 := by
            show (addN F.1 _).length = _
            unfold addN; rw [if_neg hu]; simp
          omega
        · simp only [hfull, decide_false, cond_false]
          rw [app1 (by omega) rfl, Option.bind_some, Option.bind_some, aft_inr, app1 (by omega) rfl, Option.bind_some, app1 (by omega) rfl]
          refine ⟨_, rfl, by omega, ?_, by omega, ?_⟩
          · rw [hst, wr' (by omega) (by omega)]
            simp [stepC, addN, hu, place_new hu]
          · rw [hst]
            show (addN F.1 _).length ≤ 48
            unfold addN; rw [if_neg hu]; simp; omega
    · simp only [hlt, decide_false, cond_false]
      have hjk : j = k := by omega
      subst hjk
      exact ⟨_, rfl, ⟨_, rfl⟩, hl48⟩) (2 ^ 64) 0 (s1.1, [], [], 0) (by omega) ⟨rfl, by omega, h48⟩ (by omega)
  match o, h2 with
  | .inl r, h2 => exact .inr ⟨by rw [h1, h2.1], h2.2⟩
  | .inr s, ⟨⟨z, h2⟩, h3⟩ => exact .inl ⟨z, by rw [h1, h2], h3⟩
end
end Go.Proofs.Ytfmkhnlnomkcfaa
