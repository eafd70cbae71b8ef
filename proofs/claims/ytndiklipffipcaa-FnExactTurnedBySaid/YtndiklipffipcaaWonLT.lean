/- The winners of a game: both sides find the same. -/
import Derived.Test.YtndiklipffipcaaWonT
set_option linter.unusedVariables false
set_option linter.unusedSimpArgs false
namespace Go.Proofs.Ytndiklipffipcaa
open Go Go.Wk Go.Proofs
open Classical

theorem allOf_eq {a : Arena} (h : a.Owner.length ≤ 256) : i_allOf a = some ((List.range a.Owner.length).map Int.ofNat) := by
  unfold i_allOf i_size i_AllOf
  rw [Option.bind_some, show decide ((a.Owner.length : Int) < 0) = false from by simp]
  simp only [cond_false, Option.bind_some]
  rw [show decide ((256 : Int) < (a.Owner.length : Int)) = false from by simp; omega, cond_false, show Int.toNat ((a.Owner.length : Int) - 0) = a.Owner.length from by omega]
  obtain ⟨s, h1, h2⟩ := cnt_inv (f := i_AllOf_b0) (fun j (s : List Int) => s = (List.range j).map Int.ofNat) a.Owner.length (s := []) rfl (fun j s hj hs => by
    subst hs
    unfold i_AllOf_b0
    rw [app1 (by rw [List.length_map, List.length_range]; omega) rfl, Option.bind_some]
    exact ⟨_, rfl, by rw [List.range_succ, List.map_append]; rfl⟩)
  rw [h1]
  subst h2
  have : rng (a.Owner.length : Int) = some () := by
    unfold rng
    first
      | rfl
      | rw [if_pos (by omega)]
  rw [this]; rfl
/-- the row of the winners -/
noncomputable def wonL (n : Nat) (W : Int → Prop) : List Int := (List.range n).map fun (v : Nat) => b2i (decide (¬ W (v : Int)))
theorem wonL_len (n : Nat) (W : Int → Prop) : (wonL n W).length = n := by unfold wonL; rw [List.length_map, List.length_range]
theorem wonL_get {n : Nat} {W : Int → Prop} {v : Nat} (h : v < n) : (wonL n W)[v]? = some (b2i (decide (¬ W (v : Int)))) := by
  unfold wonL
  rw [List.getElem?_map, List.getElem?_range h]; rfl
theorem wonL_of {n : Nat} {W : Int → Prop} {l : List Int} (hl : l.length = n) (h : ∀ v : Nat, v < n → l[v]? = some (b2i (decide (¬ W (v : Int))))) : l = wonL n W := by
  apply List.ext_getElem?
  intro i
  by_cases hi : i < n
  · rw [h i hi, wonL_get hi]
  · rw [List.getElem?_eq_none (by omega), List.getElem?_eq_none (by rw [wonL_len]; omega)]
theorem noDead_all {g : Parity} {n : Nat} (h : GOk g n) (hr : ∀ v r, idx g.Arena.Next v = some r → r ≠ []) : Par.NoDead (gI g) (fun v => 0 ≤ v ∧ v < n) := fun v ⟨v0, v1⟩ => by
  obtain ⟨r, hv⟩ := idx_some (xs := g.Arena.Next) v0 (by have := h.ln; omega)
  cases r with
  | nil => exact absurd rfl (hr v [] hv)
  | cons u us =>
    refine ⟨u, ?_, (h.row v _ hv).2.2 u (List.mem_cons_self ..)⟩
    show u ∈ rowI g.Arena v
    rw [rowI_eq hv]; exact List.mem_cons_self ..
/-- both sides find the winners -/
theorem won_same {g : Parity} {n : Nat} (h : GOk g n) (hr : ∀ v r, idx g.Arena.Next v = some r → r ≠ []) : ∃ W, s_l7Won g = some (wonL n W) ∧ i_winners g = some (wonL n W) ∧ Par.Sol (gI g) (fun v => 0 ≤ v ∧ v < n) false W := by
  have hn := h.n256
  have hN := noDead_all h hr
  -- the program
  have hmem : ∀ v : Int, v ∈ (List.range n).map Int.ofNat ↔ 0 ≤ v ∧ v < n := fun v => by
    rw [List.mem_map]
    constructor
    · rintro ⟨w, hw, rfl⟩
      rw [List.mem_range] at hw
      exact ⟨Int.natCast_nonneg w, by show (w : Int) < n; omega⟩
    · rintro ⟨v0, v1⟩
      obtain ⟨w, hw⟩ := ex_nat v0
      subst hw
      exact ⟨w, List.mem_range.2 (by omega), rfl⟩
  have eX : (fun v => v ∈ (List.range n).map Int.ofNat) = fun v : Int => 0 ≤ v ∧ v < n := funext fun v => propext (hmem v)
  obtain ⟨E, O, W, k1, k2, k3, k4, k5, k6⟩ := wonIn_eq h (L := (List.range n).map Int.ofNat) (fun v hv => (hmem v).1 hv) (by rw [eX]; exact hN)
  rw [eX] at k2
  refine ⟨W, ?_, ?_, k2⟩
  · -- the reference
    obtain ⟨P, p1, p2⟩ := s_of_ok h
    have hg := gS_none h P
    have hA : In (List.replicate n true) = fun v : Int => 0 ≤ v ∧ v < n := funext fun v => propext (In_all v)
    obtain ⟨R, r1, r2, r3⟩ := s_win (h.wfS p2 (k := List.replicate n (-1)) (by simp)) h.pri n (List.replicate n true) (2 ^ 64) (by simp) (by rw [hA, hg]; exact hN) (by have := cnt_le (List.replicate n true); simp at this; exact this) (by omega)
    rw [hg, hA] at r3
    have huq := r3.uniq k2
    unfold s_l7Won
    rw [p1, Option.bind_some, all_eq h, Option.bind_some, r1, Option.bind_some, r2]
    obtain ⟨s, h1, h2, h3⟩ := cnt_inv (f := s_l7Won_b0 R) (fun j (s : List Int) => s.length = j ∧ ∀ i : Nat, i < j → s[i]? = some (b2i (decide (¬ W (i : Int))))) n (s := []) ⟨rfl, fun i hi => absurd hi (Nat.not_lt_zero i)⟩ (fun j s hj ⟨q1, q2⟩ => by
      unfold s_l7Won_b0
      rw [In_get (B := R) (by omega) (by omega), Option.bind_some]
      have hf : s_l1Flag (decide (In R (j : Int))) = some (b2i (decide (In R (j : Int)))) := by
        unfold s_l1Flag
        cases decide (In R (j : Int)) <;> rfl
      rw [hf, Option.bind_some, b2i_other, app1 (by omega) rfl, Option.bind_some]
      refine ⟨_, rfl, by rw [List.length_append]; simp; omega, fun i hi => ?_⟩
      by_cases e : i < j
      · rw [List.getElem?_append_left (by omega)]; exact q2 i e
      · have : i = j := by omega
        subst this
        rw [List.getElem?_append_right (by omega), q1, Nat.sub_self]
        show some _ = some _
        congr 2
        rw [← decide_not]
        exact decide_eq_decide.2 (not_congr (huq _)))
    rw [h1, Option.bind_some, aft_inr, wonL_of h2 h3]
  · unfold i_winners
    rw [h.lp, mkS_nat (by omega) rfl, Option.bind_some, allOf_eq (by have := h.lo; omega), h.lo, Option.bind_some, k1, Option.bind_some]
    obtain ⟨s, h1, h2, h3⟩ := cnt_inv (f := i_winners_b0 (E, O)) (fun j (s : List Int) => s.length = n ∧ ∀ v : Int, 0 ≤ v → v < n → idx s v = some (b2i (decide (v ∈ O.take j)))) O.length (s := List.replicate n 0) ⟨by simp, fun v v0 v1 => by
        rw [idx_int v0, List.getElem?_replicate, if_pos (by omega)]; simp [b2i]⟩ (fun j s hj ⟨q1, q2⟩ => by
      have hu : O[j]? = some O[j] := List.getElem?_eq_getElem hj
      generalize O[j] = u at hu
      obtain ⟨u0, u1⟩ := (hmem u).1 ((k4 u).1 (List.mem_of_getElem? hu)).1
      obtain ⟨s', hs, hl⟩ := setI_some (xs := s) (i := u) 1 u0 (by omega)
      unfold i_winners_b0
      dsimp only
      rw [idx_nat, hu, Option.bind_some, q2 u u0 u1, Option.bind_some, hs, Option.bind_some]
      refine ⟨_, rfl, by omega, fun v v0 v1 => ?_⟩
      rw [idx_setI hs, take_one hu]
      by_cases e : v = u
      · rw [if_pos e]; simp [e, b2i]
      · rw [if_neg e, q2 v v0 v1]; simp [e])
    dsimp only
    rw [h1, Option.bind_some, aft_inr]
    congr 1
    rw [List.take_length] at h3
    refine wonL_of h2 fun v hv => ?_
    rw [← idx_nat, h3 _ (by omega) (by omega)]
    congr 2
    refine decide_eq_decide.2 ?_
    rw [k4, hmem]
    exact ⟨fun h => h.2, fun h => ⟨⟨by omega, by omega⟩, h⟩⟩
theorem rows_some {g : Parity} (hp : parityOk g = true) : ∀ v r, idx g.Arena.Next v = some r → r ≠ [] := fun v r hr e => by
  obtain ⟨h1, h2, h3, h4, h5⟩ := parityOk_spec hp
  obtain ⟨v0, _⟩ := idx_rng hr
  obtain ⟨i, hi⟩ := ex_nat v0
  subst hi
  rw [idx_nat] at hr
  have := (h5 i r hr).1
  rw [e] at this
  simp at this
end Go.Proofs.Ytndiklipffipcaa
