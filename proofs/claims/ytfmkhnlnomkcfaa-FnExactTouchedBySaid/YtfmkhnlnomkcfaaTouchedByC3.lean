/- TouchedBy: both sides compute the same. -/
import Derived.Test.YtfmkhnlnomkcfaaEditC3
import Derived.Test.YtfmkhnlnomkcfaaLeastC3
set_option linter.unusedVariables false
set_option linter.unusedSimpArgs false
namespace Go.Proofs.Ytfmkhnlnomkcfaa
open Go Go.Wk Go.Proofs

/-- an arena's rows -/
structure Rows (n : Nat) (N : List (List Int)) : Prop where
  len : N.length = n
  rng : ∀ (v : Nat) row, N[v]? = some row → row.length ≤ 16 ∧ ∀ u ∈ row, 0 ≤ u ∧ u < n
theorem Rows.of {g : Parity} (h : parityOk g = true) : Rows g.Arena.Owner.length g.Arena.Next := by
  obtain ⟨_, _, h3, _, h5⟩ := parityOk_spec h
  refine ⟨h3, fun v row hr => ?_⟩
  obtain ⟨k1, k2, k3⟩ := h5 v row hr
  refine ⟨k2, fun u hu => ?_⟩
  obtain ⟨i, hi⟩ := List.mem_iff_getElem?.1 hu
  exact (setOk_spec k3).1 i u hi
def anyOut (out : List Bool) (row : List Int) : Bool := row.any (bAt out)
/-- one vertex of a pass -/
def visit (v : Nat) (row : List Int) (s : Bool × List Bool) : Bool × List Bool := if bAt s.2 v = false ∧ anyOut s.2 row = true then (true, s.2.set v true) else s
section
variable {a : Arena} {n : Nat} (hN : Rows n a.Next) (hn : n ≤ 256)
include hN hn
omit hn in
theorem s_visit {v : Nat} {row : List Int} (hr : a.Next[v]? = some row) {s : Bool × List Bool} (hl : s.2.length = n) : s_l16Before_b2 a v s = some (.inr (.inr (visit v row s))) := by
  have hv : v < n := by have := (List.getElem?_eq_some_iff.1 hr).1; rw [hN.len] at this; exact this
  obtain ⟨r1, r2⟩ := hN.rng v row hr
  obtain ⟨m, out⟩ := s
  dsimp only at hl
  obtain ⟨o, h1, h2⟩ := while_out (f := s_l16Before_b4 a v) (fun j (s : Bool × Int × List Bool) => (s = (m, (j : Int), out) ∧ j ≤ row.length ∧ ∀ (i : Nat) x, i < j → row[i]? = some x → bAt out x = false) ∨ (∃ z : Int, s = (true, z, out.set v true) ∧ 0 ≤ z ∧ z ≤ 17 ∧ bAt out v = false ∧ anyOut out row = true ∧ j ≤ row.length)) (fun _ => False) (fun s => (s.1, s.2.2) = visit v row (m, out)) (row.length + 1) (fun j s hI => by
    unfold s_l16Before_b4
    rw [idx_nat, hr]
    simp only [Option.bind_some]
    rcases hI with ⟨rfl, hj, hall⟩ | ⟨z, rfl, z0, z1, hov, hany, hj⟩
    · dsimp only
      by_cases hlt : (j : Int) < (row.length : Int)
      · have e1 : row[j]? = some (row[j]'(by omega)) := List.getElem?_eq_getElem (by omega)
        generalize row[j]'(by omega) = x at e1
        obtain ⟨x0, x1⟩ := r2 x (List.mem_of_getElem? e1)
        have ev := bAt_get (B := out) (v := (v : Int)) (by omega) (by omega)
        rw [idx_nat] at ev
        simp only [hlt, decide_true, cond_true, idx_nat, ev, Option.bind_some, e1, bAt_get (B := out) x0 (by omega)]
        cases hov : bAt out v with
        | true =>
          simp only [Bool.not_true, cond_false]
          refine ⟨_, rfl, ?_⟩
          simp [visit, hov]
        | false =>
          simp only [Bool.not_false, cond_true]
          cases hox : bAt out x with
          | true =>
            simp only [cond_true, setI_nat (show v < out.length by omega), Option.bind_some]
            refine ⟨_, rfl, by omega, .inr ⟨_, rfl, ?_, ?_, by first | exact hov | trivial, ?_, by omega⟩⟩
            · rw [wr' (by omega) (by omega)]; omega
            · rw [wr' (by omega) (by omega)]; omega
            · unfold anyOut; rw [List.any_eq_true]; exact ⟨x, List.mem_of_getElem? e1, hox⟩
          | false =>
            simp only [cond_false, Option.bind_some]
            refine ⟨_, rfl, by omega, .inl ⟨?_, by omega, fun i y hi hy => ?_⟩⟩
            · rw [wr' (by omega) (by omega)]; rfl
            · by_cases hij : i = j
              · subst hij; rw [e1] at hy; cases hy; exact hox
              · exact hall i y (by omega) hy
      · simp only [hlt, decide_false, cond_false, Option.bind_some]
        refine ⟨_, rfl, ?_⟩
        have hno : anyOut out row = false := by
          unfold anyOut
          rw [List.any_eq_false]
          intro x hx
          obtain ⟨i, hi⟩ := List.mem_iff_getElem?.1 hx
          have := hall i x (by have := (List.getElem?_eq_some_iff.1 hi).1; omega) hi
          simp [this]
        simp [visit, hno]
    · dsimp only
      have ev : (out.set v true)[v]? = some true := by rw [List.getElem?_set_self (by omega)]
      have hvis : visit v row (m, out) = (true, out.set v true) := by simp [visit, hov, hany]
      by_cases hlt : z < (row.length : Int)
      · simp only [hlt, decide_true, cond_true, idx_nat, ev, Option.bind_some, Bool.not_true, cond_false]
        exact ⟨_, rfl, hvis.symm⟩
      · simp only [hlt, decide_false, cond_false, Option.bind_some]
        exact ⟨_, rfl, hvis.symm⟩) (2 ^ 64) 0 (m, 0, out) (by omega) (.inl ⟨rfl, by omega, fun i x hi => absurd hi (Nat.not_lt_zero i)⟩) (by omega)
  match o, h2 with
  | .inr t, h2 =>
    unfold s_l16Before_b2
    rw [h1, Option.bind_some, aft_inr, ← h2]
/-- what holds of marks on the way -/
structure Way (N : List (List Int)) (goal out : List Bool) : Prop where
  len : out.length = goal.length
  sub : Sub goal out
  least : ∀ C, C.length = goal.length → Sub goal C → Closed N C → Sub out C
omit hn in
theorem Way.set {goal out : List Bool} (hg : goal.length = n) (h : Way a.Next goal out) {v : Nat} {row : List Int} (hr : a.Next[v]? = some row) (hany : anyOut out row = true) : Way a.Next goal (out.set v true) := by
  have hv : v < n := by have := (List.getElem?_eq_some_iff.1 hr).1; rw [hN.len] at this; exact this
  refine ⟨by rw [List.length_set]; exact h.len, fun u hu => ?_, fun C hC hs hc u hu => ?_⟩
  · rw [bAt_set (by rw [h.len]; omega) _ (by omega), h.sub u hu]; rfl
  · rw [bAt_set (by rw [h.len]; omega) _ (by omega), Bool.or_eq_true] at hu
    rcases hu with hu | hu
    · exact h.least C hC hs hc u hu
    · have : u = v := by have := of_decide_eq_true hu; omega
      subst this
      unfold anyOut at hany
      rw [List.any_eq_true] at hany
      obtain ⟨x, hx, hox⟩ := hany
      obtain ⟨x0, _⟩ := (hN.rng u row hr).2 x hx
      have := h.least C hC hs hc x.toNat (by rw [show ((x.toNat : Nat) : Int) = x from by omega]; exact hox)
      rw [show ((x.toNat : Nat) : Int) = x from by omega] at this
      exact hc u row x hr hx this
omit hn in
theorem s_pass {goal out : List Bool} (hg : goal.length = n) (h : Way a.Next goal out) : ∃ m out', cntM (s_l16Before_b2 a) a.Next.length 0 (false, out) = some (.inr (m, out')) ∧ Way a.Next goal out' ∧ ((m = false ∧ out' = out ∧ Closed a.Next out) ∨ (m = true ∧ falses out' < falses out)) := by
  obtain ⟨s, h1, h2, h3⟩ := cnt_inv (f := s_l16Before_b2 a) (fun j (s : Bool × List Bool) => Way a.Next goal s.2 ∧ ((s.1 = false ∧ s.2 = out ∧ ∀ (v : Nat) row, v < j → a.Next[v]? = some row → bAt out v = false → anyOut out row = false) ∨ (s.1 = true ∧ falses s.2 < falses out))) a.Next.length (s := (false, out)) ⟨h, .inl ⟨rfl, rfl, fun v row hv => absurd hv (Nat.not_lt_zero v)⟩⟩ (fun j s hj ⟨hW, hI⟩ => by
    have hr : a.Next[j]? = some a.Next[j] := List.getElem?_eq_getElem hj
    generalize a.Next[j] = row at hr
    have hl : s.2.length = n := by rw [hW.len, hg]
    refine ⟨_, s_visit hN hr hl, ?_⟩
    unfold visit
    by_cases hc : bAt s.2 j = false ∧ anyOut s.2 row = true
    · rw [if_pos hc]
      have hf : s.2[j]? = some false := by
        have := bAt_get (B := s.2) (v := (j : Int)) (by omega) (by rw [hN.len] at hj; omega)
        rw [idx_nat, hc.1] at this
        exact this
      have hfs := falses_set hf
      refine ⟨hW.set hN hg hr hc.2, .inr ⟨rfl, ?_⟩⟩
      rcases hI with ⟨_, e, _⟩ | ⟨_, e⟩
      · rw [e] at hfs; dsimp only; rw [e]; omega
      · dsimp only; omega
    · rw [if_neg hc]
      refine ⟨hW, ?_⟩
      rcases hI with ⟨e1, e2, e3⟩ | hI
      · refine .inl ⟨e1, e2, fun v r hv hvr hov => ?_⟩
        by_cases hvj : v = j
        · subst hvj
          rw [hr] at hvr
          cases hvr
          rw [e2] at hc
          cases ha : anyOut out row with
          | false => rfl
          | true => exact absurd ⟨hov, ha⟩ hc
        · exact e3 v r (by omega) hvr hov
      · exact .inr hI)
  refine ⟨s.1, s.2, h1, h2, ?_⟩
  rcases h3 with ⟨e1, e2, e3⟩ | h3
  · refine .inl ⟨e1, e2, fun v row u hvr hu hou => ?_⟩
    cases hov : bAt out v with
    | true => rfl
    | false =>
      have h4 := e3 v row (List.getElem?_eq_some_iff.1 hvr).1 hvr hov
      unfold anyOut at h4
      rw [List.any_eq_false] at h4
      exact absurd hou (h4 u hu)
  · exact .inr h3
theorem s_before {goal : List Bool} (hg : goal.length = n) : ∃ B, s_l16Before a goal = some B ∧ LeastB a.Next goal B := by
  have hW0 : Way a.Next goal goal := ⟨rfl, fun _ h => h, fun C _ hs _ => hs⟩
  unfold s_l16Before
  rw [appL (by rw [List.length_nil]; omega) rfl, Option.bind_some, List.nil_append]
  obtain ⟨o, h1, h2⟩ := while_out (f := s_l16Before_b0 a) (fun j (s : Bool × List Bool) => Way a.Next goal s.2 ∧ ((s.1 = true ∧ j + falses s.2 ≤ n) ∨ (s.1 = false ∧ j ≤ n + 1 ∧ Closed a.Next s.2))) (fun _ => False) (fun s => LeastB a.Next goal s.2) (n + 2) (fun j s ⟨hW, hI⟩ => by
    unfold s_l16Before_b0
    rcases hI with ⟨e1, e2⟩ | ⟨e1, e2, e3⟩
    · obtain ⟨m, out', k1, k2, k3⟩ := s_pass hN hg hW
      rw [e1, cond_true, k1, Option.bind_some, aft_inr]
      refine ⟨_, rfl, by omega, k2, ?_⟩
      rcases k3 with ⟨rfl, rfl, k4⟩ | ⟨rfl, k4⟩
      · exact .inr ⟨rfl, by omega, k4⟩
      · exact .inl ⟨rfl, by dsimp only; omega⟩
    · rw [e1, cond_false]
      exact ⟨_, rfl, hW.len, hW.sub, e3, hW.least⟩) (2 ^ 64) 0 (true, goal) (by omega) ⟨hW0, .inl ⟨rfl, by have := falses_le goal; dsimp only; omega⟩⟩ (by omega)
  match o, h2 with
  | .inr s, h2 => rw [h1]; exact ⟨s.2, rfl, h2⟩
/-- who leads to whom -/
structure Preds (n : Nat) (N : List (List Int)) (P : List (List Int)) : Prop where
  len : P.length = n
  mem : ∀ (u : Nat) row, P[u]? = some row → (row.length ≤ 100000 ∧ ∀ x, x ∈ row ↔ ∃ (v : Nat) (r : List Int), x = (v : Int) ∧ N[v]? = some r ∧ (u : Int) ∈ r)
theorem i_preds (hO : a.Owner.length = n) : ∃ P, i_predsOf a = some P ∧ Preds n a.Next P := by
  unfold i_predsOf
  rw [hO, mkS_nat (by omega) rfl, Option.bind_some]
  obtain ⟨s, h1, h2, h3⟩ := cnt_inv (f := i_predsOf_b0 a) (fun j (s : List (List Int)) => s.length = n ∧ ∀ (u : Nat) row, s[u]? = some row → (row.length ≤ j * 16 ∧ ∀ x, x ∈ row ↔ ∃ (v : Nat) (r : List Int), v < j ∧ x = (v : Int) ∧ a.Next[v]? = some r ∧ (u : Int) ∈ r)) a.Next.length (s := List.replicate n ([] : List Int)) ⟨by simp, fun u row hu => by
      rw [List.getElem?_replicate] at hu
      split at hu
      · cases hu
        exact ⟨by simp, fun x => ⟨fun h => (by cases h), fun ⟨v, r, hv, _⟩ => absurd hv (Nat.not_lt_zero v)⟩⟩
      · cases hu⟩ (fun j s hj ⟨hl, hs⟩ => by
    have hr : a.Next[j]? = some a.Next[j] := List.getElem?_eq_getElem hj
    generalize a.Next[j] = row at hr
    obtain ⟨r1, r2⟩ := hN.rng j row hr
    rw [hN.len] at hj
    unfold i_predsOf_b0
    rw [idx_nat, hr, Option.bind_some]
    obtain ⟨t, k1, k2, k3⟩ := cnt_inv (f := i_predsOf_b2 (j : Int) row) (fun i (t : List (List Int)) => t.length = n ∧ ∀ (u : Nat) rw_, t[u]? = some rw_ → (rw_.length ≤ j * 16 + i ∧ ∀ x, x ∈ rw_ ↔ (∃ (v : Nat) (r : List Int), v < j ∧ x = (v : Int) ∧ a.Next[v]? = some r ∧ (u : Int) ∈ r) ∨ (x = (j : Int) ∧ (u : Int) ∈ row.take i))) row.length (s := s) ⟨hl, fun u rw_ hu => by
        obtain ⟨m1, m2⟩ := hs u rw_ hu
        exact ⟨by omega, fun x => by rw [m2 x]; simp⟩⟩ (fun i t hi ⟨tl, ts⟩ => by
      have e1 : row[i]? = some row[i] := List.getElem?_eq_getElem hi
      generalize row[i] = y at e1
      obtain ⟨y0, y1⟩ := r2 y (List.mem_of_getElem? e1)
      obtain ⟨u, hu⟩ := ex_nat y0
      subst hu
      have e2 : t[u]? = some (t[u]'(by omega)) := List.getElem?_eq_getElem (by omega)
      generalize t[u]'(by omega) = old at e2
      obtain ⟨m1, m2⟩ := ts u old e2
      have hj16 : j * 16 ≤ 256 * 16 := Nat.mul_le_mul_right _ (by omega)
      unfold i_predsOf_b2
      rw [idx_nat, e1, Option.bind_some, idx_nat, e2, Option.bind_some, app1 (by omega) rfl, Option.bind_some, Option.bind_some, setI_nat (by omega), Option.bind_some]
      refine ⟨_, rfl, by rw [List.length_set]; exact tl, fun w rw_ hw => ?_⟩
      have htk : row.take (i + 1) = row.take i ++ [(u : Int)] := by rw [List.take_add_one, e1]; rfl
      rw [htk]
      by_cases hwu : u = w
      · subst hwu
        rw [List.getElem?_set_self (by omega)] at hw
        cases hw
        refine ⟨by rw [List.length_append]; simp; omega, fun x => ?_⟩
        rw [List.mem_append, List.mem_singleton, m2 x, List.mem_append, List.mem_singleton]
        constructor
        · rintro ((h | h) | h)
          · exact .inl h
          · exact .inr ⟨h.1, .inl h.2⟩
          · exact .inr ⟨h, .inr rfl⟩
        · rintro (h | ⟨h, h' | h'⟩)
          · exact .inl (.inl h)
          · exact .inl (.inr ⟨h, h'⟩)
          · exact .inr h
      · rw [List.getElem?_set_ne hwu] at hw
        obtain ⟨q1, q2⟩ := ts w rw_ hw
        refine ⟨by omega, fun x => ?_⟩
        rw [q2 x, List.mem_append, List.mem_singleton]
        have : ¬ ((w : Int) = (u : Int)) := by omega
        simp [this])
    rw [k1]
    refine ⟨t, rfl, k2, fun u rw_ hu => ?_⟩
    obtain ⟨q1, q2⟩ := k3 u rw_ hu
    refine ⟨by omega, fun x => ?_⟩
    rw [q2 x, List.take_length]
    constructor
    · rintro (⟨v, r, hv, h⟩ | ⟨h1, h2⟩)
      · exact ⟨v, r, by omega, h⟩
      · exact ⟨j, row, by omega, h1, hr, h2⟩
    · rintro ⟨v, r, hv, hx, hvr, hu'⟩
      by_cases hvj : v = j
      · subst hvj
        rw [hr] at hvr
        cases hvr
        exact .inr ⟨hx, hu'⟩
      · exact .inl ⟨v, r, by omega, hx, hvr, hu'⟩)
  rw [h1]
  refine ⟨s, rfl, h2, fun u row hu => ?_⟩
  obtain ⟨q1, q2⟩ := h3 u row hu
  have hj16 : a.Next.length * 16 ≤ 256 * 16 := Nat.mul_le_mul_right _ (by rw [hN.len]; omega)
  refine ⟨by omega, fun x => ?_⟩
  rw [q2 x]
  constructor
  · rintro ⟨v, r, _, h⟩; exact ⟨v, r, h⟩
  · rintro ⟨v, r, hx, hvr, h⟩; exact ⟨v, r, (List.getElem?_eq_some_iff.1 hvr).1, hx, hvr, h⟩
end
/-- the marked ones in a row -/
theorem listOf_eq (B : List Bool) (hl : B.length ≤ 1000000) : ∃ L, i_listOf B = some L ∧ s_l16List B = some L ∧ L.length ≤ B.length ∧ ∀ x, x ∈ L ↔ ∃ v : Nat, x = (v : Int) ∧ B[v]? = some true := by
  obtain ⟨s, h1, h2, h3⟩ := cnt_inv (f := i_listOf_b0 B) (fun j (s : List Int) => s.length ≤ j ∧ ∀ x, x ∈ s ↔ ∃ v : Nat, v < j ∧ x = (v : Int) ∧ B[v]? = some true) B.length (s := []) ⟨by simp, fun x => ⟨fun h => (by cases h), fun ⟨v, hv, _⟩ => absurd hv (Nat.not_lt_zero v)⟩⟩ (fun j s hj ⟨hl', hs⟩ => by
    have hb : B[j]? = some B[j] := List.getElem?_eq_getElem hj
    generalize B[j] = b at hb
    unfold i_listOf_b0
    rw [idx_nat, hb, Option.bind_some]
    cases b with
    | true =>
      simp only [cond_true]
      rw [app1 (by omega) rfl, Option.bind_some, Option.bind_some]
      refine ⟨_, rfl, by simp; omega, fun x => ?_⟩
      rw [List.mem_append, List.mem_singleton, hs x]
      constructor
      · rintro (⟨v, hv, h⟩ | rfl)
        · exact ⟨v, by omega, h⟩
        · exact ⟨j, by omega, rfl, hb⟩
      · rintro ⟨v, hv, hx, hv'⟩
        by_cases hvj : v = j
        · subst hvj; exact .inr hx
        · exact .inl ⟨v, by omega, hx, hv'⟩
    | false =>
      simp only [cond_false, Option.bind_some]
      refine ⟨_, rfl, by omega, fun x => ?_⟩
      rw [hs x]
      constructor
      · rintro ⟨v, hv, h⟩; exact ⟨v, by omega, h⟩
      · rintro ⟨v, hv, hx, hv'⟩
        by_cases hvj : v = j
        · subst hvj; rw [hb] at hv'; cases hv'
        · exact ⟨v, by omega, hx, hv'⟩)
  have e : i_listOf B = some s := by unfold i_listOf; rw [h1]; rfl
  refine ⟨s, e, ?_, h2, fun x => ?_⟩
  · rw [← e]; rfl
  · rw [h3 x]
    constructor
    · rintro ⟨v, _, h⟩; exact ⟨v, h⟩
    · rintro ⟨v, hx, hv⟩; exact ⟨v, (List.getElem?_eq_some_iff.1 hv).1, hx, hv⟩
end Go.Proofs.Ytfmkhnlnomkcfaa
