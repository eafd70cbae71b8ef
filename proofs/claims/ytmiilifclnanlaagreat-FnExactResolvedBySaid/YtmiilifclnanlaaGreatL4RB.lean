/- TouchedBy: both sides compute the same. -/
import Derived.Test.YtmiilifclnanlaaGreatL1RB
import Derived.Test.YtmiilifclnanlaaGreatL3RB
import Derived.Test.YtmiilifclnanlaaGreatL2RB
set_option linter.unusedVariables false
set_option linter.unusedSimpArgs false
namespace Go.Proofs.YtmiilifclnanlaaGreat
open Go Go.Wk Go.Proofs
structure Rows (n : Nat) (N : List (List Int)) : Prop where
 len : N.length = n
 rng : ∀ (v : Nat) row, N[v]? = some row → row.length ≤ 16 ∧ ∀ u ∈ row, 0 ≤ u ∧ u < n
theorem Rows.of {g : Parity} (h : parityOk g = true) : Rows g.Arena.Owner.length g.Arena.Next := by
 obtain ⟨_, _, h3, _, h5⟩ := parityOk_spec h
 refine ⟨h3, fun v row hr => ?_⟩
 obtain ⟨k1, k2, k3⟩ := h5 v row hr
 refine ⟨k2, fun u hu => ?_⟩
 obtain ⟨i, hi⟩ := List.mem_iff_getElem?.1 hu
 exact (setOk_spec k3).1 i u hi
def anyOut (out : List Bool) (row : List Int) : Bool := row.any (bAt out)
def visit (v : Nat) (row : List Int) (s : Bool × List Bool) : Bool × List Bool := if bAt s.2 v = false ∧ anyOut s.2 row = true then (true, s.2.set v true) else s
section
variable {a : Arena} {n : Nat} (hN : Rows n a.Next) (hn : n ≤ 256)
include hN hn
omit hn in
theorem s_visit {v : Nat} {row : List Int} (hr : a.Next[v]? = some row) {s : Bool × List Bool} (hl : s.2.length = n) : s_l16Before_b2 a v s = some (.inr (.inr (visit v row s))) := by
 have hv : v < n := by have := (List.getElem?_eq_some_iff.1 hr).1; rw [hN.len] at this; exact this
 obtain ⟨r1, r2⟩ := hN.rng v row hr
 obtain ⟨m, out⟩ := s
 dsimp only at hl
 obtain ⟨o, h1, h2⟩ := while_out (f := s_l16Before_b4 a v) (fun j (s : Bool × Int × List Bool) => (s = (m, (j : Int), out) ∧ j ≤ row.length ∧ ∀ (i : Nat) x, i < j → row[i]? = some x → bAt out x = false) ∨ (∃ z : Int, s = (true, z, out.set v true) ∧ 0 ≤ z ∧ z ≤ 17 ∧ bAt out v = false ∧ anyOut out row = true ∧ j ≤ row.length)) (fun _ => False) (fun s => (s.1, s.2.2) = visit v row (m, out)) (row.length + 1) (fun j s hI => by
  unfold s_l16Before_b4
  rw [idx_nat, hr]
  simp only [Option.bind_some]
  rcases hI with ⟨rfl, hj, hall⟩ | ⟨z, rfl, z0, z1, hov, hany, hj⟩
  · dsimp only
    by_cases hlt : (j : Int) < (row.length : Int)
    · have e1 : row[j]? = some (row[j]'(by omega)) := List.getElem?_eq_getElem (by omega)
      generalize row[j]'(by omega) = x at e1
      obtain ⟨x0, x1⟩ := r2 x (List.mem_of_getElem? e1)
      have ev := bAt_get (B := out) (v := (v : Int)) (by omega) (by omega)
      rw [idx_nat] at ev
      simp only [hlt, decide_true, cond_true, idx_nat, ev, Option.bind_some, e1, bAt_get (B := out) x0 (by omega)]
      cases hov : bAt out v with
      | true =>
       simp only [Bool.not_true, cond_false]
       refine ⟨_, rfl, ?_⟩
       simp [visit, hov]
      | false =>
       simp only [Bool.not_false, cond_true]
       cases hox : bAt out x with
       | true =>
        simp only [cond_true, setI_nat (show v < out.length by omega), Option.bind_some]
        refine ⟨_, rfl, by omega, .inr ⟨_, rfl, ?_, ?_, by first | exact hov | trivial, ?_, by omega⟩⟩
        · rw [wr' (by omega) (by omega)]; omega
        · rw [wr' (by omega) (by omega)]; omega
        · unfold anyOut; rw [List.any_eq_true]; exact ⟨x, List.mem_of_getElem? e1, hox⟩
       | false =>
        simp only [cond_false, Option.bind_some]
        refine ⟨_, rfl, by omega, .inl ⟨?_, by omega, fun i y hi hy => ?_⟩⟩
        · rw [wr' (by omega) (by omega)]; rfl
        · by_cases hij : i = j
          · subst hij; rw [e1] at hy; cases hy; exact hox
          · exact hall i y (by omega) hy
    · simp only [hlt, decide_false, cond_false, Option.bind_some]
      refine ⟨_, rfl, ?_⟩
      have hno : anyOut out row = false := by
       unfold anyOut
       rw [List.any_eq_false]
       intro x hx
       obtain ⟨i, hi⟩ := List.mem_iff_getElem?.1 hx
       have := hall i x (by have := (List.getElem?_eq_some_iff.1 hi).1; omega) hi
       simp [this]
      simp [visit, hno]
  · dsimp only
    have ev : (out.set v true)[v]? = some true := by rw [List.getElem?_set_self (by omega)]
    have hvis : visit v row (m, out) = (true, out.set v true) := by simp [visit, hov, hany]
    by_cases hlt : z < (row.length : Int)
    · simp only [hlt, decide_true, cond_true, idx_nat, ev, Option.bind_some, Bool.not_true, cond_false]
      exact ⟨_, rfl, hvis.symm⟩
    · simp only [hlt, decide_false, cond_false, Option.bind_some]
      exact ⟨_, rfl, hvis.symm⟩) (2 ^ 64) 0 (m, 0, out) (by omega) (.inl ⟨rfl, by omega, fun i x hi => absurd hi (Nat.not_lt_zero i)⟩) (by omega)
 match o, h2 with
 | .inr t, h2 =>
  unfold s_l16Before_b2
  rw [h1, Option.bind_some, aft_inr, ← h2]
structure Way (N : List (List Int)) (goal out : List Bool) : Prop where
 len : out.length = goal.length
 sub : Sub goal out
 least : ∀ C, C.length = goal.length → Sub goal C → Closed N C → Sub out C
omit hn in
theorem Way.set {goal out : List Bool} (hg : goal.length = n) (h : Way a.Next goal out) {v : Nat} {row : List Int} (hr : a.Next[v]? = some row) (hany : anyOut out row = true) : Way a.Next goal (out.set v true) := by
 have hv : v < n := by have := (List.getElem?_eq_some_iff.1 hr).1; rw [hN.len] at this; exact this
 refine ⟨by rw [List.length_set]; exact h.len, fun u hu => ?_, fun C hC hs hc u hu => ?_⟩
 · rw [bAt_set (by rw [h.len]; omega) _ (by omega), h.sub u hu]; rfl
 · rw [bAt_set (by rw [h.len]; omega) _ (by omega), Bool.or_eq_true] at hu
   rcases hu with hu | hu
   · exact h.least C hC hs hc u hu
   · have : u = v := by have := of_decide_eq_true hu; omega
     subst this
     unfold anyOut at hany
     rw [List.any_eq_true] at hany
     obtain ⟨x, hx, hox⟩ := hany
     obtain ⟨x0, _⟩ := (hN.rng u row hr).2 x hx
     have := h.least C hC hs hc x.toNat (by rw [show ((x.toNat : Nat) : Int) = x from by omega]; exact hox)
     rw [show ((x.toNat : Nat) : Int) = x from by omega] at this
     exact hc u row x hr hx this
omit hn in
theorem s_pass {goal out : List Bool} (hg : goal.length = n) (h : Way a.Next goal out) : ∃ m out', cntM (s_l16Before_b2 a) a.Next.length 0 (false, out) = some (.inr (m, out')) ∧ Way a.Next goal out' ∧ ((m = false ∧ out' = out ∧ Closed a.Next out) ∨ (m = true ∧ falses out' < falses out)) := by
 obtain ⟨s, h1, h2, h3⟩ := cnt_inv (f := s_l16Before_b2 a) (fun j (s : Bool × List Bool) => Way a.Next goal s.2 ∧ ((s.1 = false ∧ s.2 = out ∧ ∀ (v : Nat) row, v < j → a.Next[v]? = some row → bAt out v = false → anyOut out row = false) ∨ (s.1 = true ∧ falses s.2 < falses out))) a.Next.length (s := (false, out)) ⟨h, .inl ⟨rfl, rfl, fun v row hv => absurd hv (Nat.not_lt_zero v)⟩⟩ (fun j s hj ⟨hW, hI⟩ => by
  have hr : a.Next[j]? = some a.Next[j] := List.getElem?_eq_getElem hj
  generalize a.Next[j] = row at hr
  have hl : s.2.length = n := by rw [hW.len, hg]
  refine ⟨_, s_visit hN hr hl, ?_⟩
  unfold visit
  by_cases hc : bAt s.2 j = false ∧ anyOut s.2 row = true
  · rw [if_pos hc]
    have hf : s.2[j]? = some false := by
     have := bAt_get (B := s.2) (v := (j : Int)) (by omega) (by rw [hN.len] at hj; omega)
     rw [idx_nat, hc.1] at this
     exact this
    have hfs := falses_set hf
    refine ⟨hW.set hN hg hr hc.2, .inr ⟨rfl, ?_⟩⟩
    rcases hI with ⟨_, e, _⟩ | ⟨_, e⟩
    · rw [e] at hfs; dsimp only; rw [e]; omega
    · dsimp only; omega
  · rw [if_neg hc]
    refine ⟨hW, ?_⟩
    rcases hI with ⟨e1, e2, e3⟩ | hI
    · refine .inl ⟨e1, e2, fun v r hv hvr hov => ?_⟩
      by_cases hvj : v = j
      · subst hvj
        rw [hr] at hvr
        cases hvr
        rw [e2] at hc
        cases ha : anyOut out row with
        | false => rfl
        | true => exact absurd ⟨hov, ha⟩ hc
      · exact e3 v r (by omega) hvr hov
    · exact .inr hI)
 refine ⟨s.1, s.2, h1, h2, ?_⟩
 rcases h3 with ⟨e1, e2, e3⟩ | h3
 · refine .inl ⟨e1, e2, fun v row u hvr hu hou => ?_⟩
   cases hov : bAt out v with
   | true => rfl
   | false =>
    have h4 := e3 v row (List.getElem?_eq_some_iff.1 hvr).1 hvr hov
    unfold anyOut at h4
    rw [List.any_eq_false] at h4
    exact absurd hou (h4 u hu)
 · exact .inr h3
theorem s_before {goal : List Bool} (hg : goal.length = n) : ∃ B, s_l16Before a goal = some B ∧ LeastB a.Next goal B := by
 have hW0 : Way a.Next goal goal := ⟨rfl, fun _ h => h, fun C _ hs _ => hs⟩
 unfold s_l16Before
 rw [appL (by rw [List.length_nil]; omega) rfl, Option.bind_some, List.nil_append]
 obtain ⟨o, h1, h2⟩ := while_out (f := s_l16Before_b0 a) (fun j (s : Bool × List Bool) => Way a.Next goal s.2 ∧ ((s.1 = true ∧ j + falses s.2 ≤ n) ∨ (s.1 = false ∧ j ≤ n + 1 ∧ Closed a.Next s.2))) (fun _ => False) (fun s => LeastB a.Next goal s.2) (n + 2) (fun j s ⟨hW, hI⟩ => by
  unfold s_l16Before_b0
  rcases hI with ⟨e1, e2⟩ | ⟨e1, e2, e3⟩
  · obtain ⟨m, out', k1, k2, k3⟩ := s_pass hN hg hW
    rw [e1, cond_true, k1, Option.bind_some, aft_inr]
    refine ⟨_, rfl, by omega, k2, ?_⟩
    rcases k3 with ⟨rfl, rfl, k4⟩ | ⟨rfl, k4⟩
    · exact .inr ⟨rfl, by omega, k4⟩
    · exact .inl ⟨rfl, by dsimp only; omega⟩
  · rw [e1, cond_false]
    exact ⟨_, rfl, hW.len, hW.sub, e3, hW.least⟩) (2 ^ 64) 0 (true, goal) (by omega) ⟨hW0, .inl ⟨rfl, by have := falses_le goal; dsimp only; omega⟩⟩ (by omega)
 match o, h2 with
 | .inr s, h2 => rw [h1]; exact ⟨s.2, rfl, h2⟩
structure Preds (n : Nat) (N : List (List Int)) (P : List (List Int)) : Prop where
 len : P.length = n
 mem : ∀ (u : Nat) row, P[u]? = some row → (row.length ≤ 100000 ∧ ∀ x, x ∈ row ↔ ∃ (v : Nat) (r : List Int), x = (v : Int) ∧ N[v]? = some r ∧ (u : Int) ∈ r)
theorem i_preds (hO : a.Owner.length = n) : ∃ P, i_predsOf a = some P ∧ Preds n a.Next P := by
 unfold i_predsOf
 rw [hO, mkS_nat (by omega) rfl, Option.bind_some]
 obtain ⟨s, h1, h2, h3⟩ := cnt_inv (f := i_predsOf_b0 a) (fun j (s : List (List Int)) => s.length = n ∧ ∀ (u : Nat) row, s[u]? = some row → (row.length ≤ j * 16 ∧ ∀ x, x ∈ row ↔ ∃ (v : Nat) (r : List Int), v < j ∧ x = (v : Int) ∧ a.Next[v]? = some r ∧ (u : Int) ∈ r)) a.Next.length (s := List.replicate n ([] : List Int)) ⟨by simp, fun u row hu => by
  rw [List.getElem?_replicate] at hu
  split at hu
  · cases hu
    exact ⟨by simp, fun x => ⟨fun h => (by cases h), fun ⟨v, r, hv, _⟩ => absurd hv (Nat.not_lt_zero v)⟩⟩
  · cases hu⟩ (fun j s hj ⟨hl, hs⟩ => by
  have hr : a.Next[j]? = some a.Next[j] := List.getElem?_eq_getElem hj
  generalize a.Next[j] = row at hr
  obtain ⟨r1, r2⟩ := hN.rng j row hr
  rw [hN.len] at hj
  unfold i_predsOf_b0
  rw [idx_nat, hr, Option.bind_some]
  obtain ⟨t, k1, k2, k3⟩ := cnt_inv (f := i_predsOf_b2 (j : Int) row) (fun i (t : List (List Int)) => t.length = n ∧ ∀ (u : Nat) rw_, t[u]? = some rw_ → (rw_.length ≤ j * 16 + i ∧ ∀ x, x ∈ rw_ ↔ (∃ (v : Nat) (r : List Int), v < j ∧ x = (v : Int) ∧ a.Next[v]? = some r ∧ (u : Int) ∈ r) ∨ (x = (j : Int) ∧ (u : Int) ∈ row.take i))) row.length (s := s) ⟨hl, fun u rw_ hu => by
   obtain ⟨m1, m2⟩ := hs u rw_ hu
   exact ⟨by omega, fun x => by rw [m2 x]; simp⟩⟩ (fun i t hi ⟨tl, ts⟩ => by
   have e1 : row[i]? = some row[i] := List.getElem?_eq_getElem hi
   generalize row[i] = y at e1
   obtain ⟨y0, y1⟩ := r2 y (List.mem_of_getElem? e1)
   obtain ⟨u, hu⟩ := ex_nat y0
   subst hu
   have e2 : t[u]? = some (t[u]'(by omega)) := List.getElem?_eq_getElem (by omega)
   generalize t[u]'(by omega) = old at e2
   obtain ⟨m1, m2⟩ := ts u old e2
   have hj16 : j * 16 ≤ 256 * 16 := Nat.mul_le_mul_right _ (by omega)
   unfold i_predsOf_b2
   rw [idx_nat, e1, Option.bind_some, idx_nat, e2, Option.bind_some, app1 (by omega) rfl, Option.bind_some, Option.bind_some, setI_nat (by omega), Option.bind_some]
   refine ⟨_, rfl, by rw [List.length_set]; exact tl, fun w rw_ hw => ?_⟩
   have htk : row.take (i + 1) = row.take i ++ [(u : Int)] := by rw [List.take_add_one, e1]; rfl
   rw [htk]
   by_cases hwu : u = w
   · subst hwu
     rw [List.getElem?_set_self (by omega)] at hw
     cases hw
     refine ⟨by rw [List.length_append]; simp; omega, fun x => ?_⟩
     rw [List.mem_append, List.mem_singleton, m2 x, List.mem_append, List.mem_singleton]
     constructor
     · rintro ((h | h) | h)
       · exact .inl h
       · exact .inr ⟨h.1, .inl h.2⟩
       · exact .inr ⟨h, .inr rfl⟩
     · rintro (h | ⟨h, h' | h'⟩)
       · exact .inl (.inl h)
       · exact .inl (.inr ⟨h, h'⟩)
       · exact .inr h
   · rw [List.getElem?_set_ne hwu] at hw
     obtain ⟨q1, q2⟩ := ts w rw_ hw
     refine ⟨by omega, fun x => ?_⟩
     rw [q2 x, List.mem_append, List.mem_singleton]
     have : ¬ ((w : Int) = (u : Int)) := by omega
     simp [this])
  rw [k1]
  refine ⟨t, rfl, k2, fun u rw_ hu => ?_⟩
  obtain ⟨q1, q2⟩ := k3 u rw_ hu
  refine ⟨by omega, fun x => ?_⟩
  rw [q2 x, List.take_length]
  constructor
  · rintro (⟨v, r, hv, h⟩ | ⟨h1, h2⟩)
    · exact ⟨v, r, by omega, h⟩
    · exact ⟨j, row, by omega, h1, hr, h2⟩
  · rintro ⟨v, r, hv, hx, hvr, hu'⟩
    by_cases hvj : v = j
    · subst hvj
      rw [hr] at hvr
      cases hvr
      exact .inr ⟨hx, hu'⟩
    · exact .inl ⟨v, r, by omega, hx, hvr, hu'⟩)
 rw [h1]
 refine ⟨s, rfl, h2, fun u row hu => ?_⟩
 obtain ⟨q1, q2⟩ := h3 u row hu
 have hj16 : a.Next.length * 16 ≤ 256 * 16 := Nat.mul_le_mul_right _ (by rw [hN.len]; omega)
 refine ⟨by omega, fun x => ?_⟩
 rw [q2 x]
 constructor
 · rintro ⟨v, r, _, h⟩; exact ⟨v, r, h⟩
 · rintro ⟨v, r, hx, hvr, h⟩; exact ⟨v, r, (List.getElem?_eq_some_iff.1 hvr).1, hx, hvr, h⟩
end
theorem listOf_eqI (B : List Bool) (hl : B.length ≤ 1000000) : ∃ L, i_listOf B = some L ∧ True ∧ L.length ≤ B.length ∧ ∀ x, x ∈ L ↔ ∃ v : Nat, x = (v : Int) ∧ B[v]? = some true := by
 obtain ⟨s, h1, h2, h3⟩ := cnt_inv (f := i_listOf_b0 B) (fun j (s : List Int) => s.length ≤ j ∧ ∀ x, x ∈ s ↔ ∃ v : Nat, v < j ∧ x = (v : Int) ∧ B[v]? = some true) B.length (s := []) ⟨by simp, fun x => ⟨fun h => (by cases h), fun ⟨v, hv, _⟩ => absurd hv (Nat.not_lt_zero v)⟩⟩ (fun j s hj ⟨hl', hs⟩ => by
  have hb : B[j]? = some B[j] := List.getElem?_eq_getElem hj
  generalize B[j] = b at hb
  unfold i_listOf_b0
  rw [idx_nat, hb, Option.bind_some]
  cases b with
  | true =>
   simp only [cond_true]
   rw [app1 (by omega) rfl, Option.bind_some, Option.bind_some]
   refine ⟨_, rfl, by simp; omega, fun x => ?_⟩
   rw [List.mem_append, List.mem_singleton, hs x]
   constructor
   · rintro (⟨v, hv, h⟩ | rfl)
     · exact ⟨v, by omega, h⟩
     · exact ⟨j, by omega, rfl, hb⟩
   · rintro ⟨v, hv, hx, hv'⟩
     by_cases hvj : v = j
     · subst hvj; exact .inr hx
     · exact .inl ⟨v, by omega, hx, hv'⟩
  | false =>
   simp only [cond_false, Option.bind_some]
   refine ⟨_, rfl, by omega, fun x => ?_⟩
   rw [hs x]
   constructor
   · rintro ⟨v, hv, h⟩; exact ⟨v, by omega, h⟩
   · rintro ⟨v, hv, hx, hv'⟩
     by_cases hvj : v = j
     · subst hvj; rw [hb] at hv'; cases hv'
     · exact ⟨v, by omega, hx, hv'⟩)
 have e : i_listOf B = some s := by unfold i_listOf; rw [h1]; rfl
 refine ⟨s, e, ?_, h2, fun x => ?_⟩
 · trivial
 · rw [h3 x]
   constructor
   · rintro ⟨v, _, h⟩; exact ⟨v, h⟩
   · rintro ⟨v, hx, hv⟩; exact ⟨v, (List.getElem?_eq_some_iff.1 hv).1, hx, hv⟩
end Go.Proofs.YtmiilifclnanlaaGreat
set_option linter.unusedVariables false
set_option linter.unusedSimpArgs false
namespace Go.Proofs.YtmiilifclnanlaaGreat
open Go Go.Wk Go.Proofs
section
variable {a : Arena} {n : Nat} (hN : Rows n a.Next) (hn : n ≤ 256) {P : List (List Int)} (hP : Preds n a.Next P)
include hN hn hP
def Bfs (n : Nat) (N P : List (List Int)) (goal : List Bool) (v : Option Int) (s : List Int × List Bool) : Prop :=
 Way N goal s.2 ∧ (∀ x ∈ s.1, 0 ≤ x ∧ x < n ∧ bAt s.2 x = true) ∧ (∀ (u : Nat) row, P[u]? = some row → bAt s.2 u = true → (u : Int) ∈ s.1 ∨ some (u : Int) = v ∨ ∀ x ∈ row, bAt s.2 x = true)
omit hn in
theorem pred_rng {u : Nat} {row : List Int} (h : P[u]? = some row) {x : Int} (hx : x ∈ row) : 0 ≤ x ∧ x < n := by
 obtain ⟨v, r, rfl, hv, _⟩ := ((hP.mem u row h).2 x).1 hx
 have := (List.getElem?_eq_some_iff.1 hv).1
 rw [hN.len] at this
 omega
theorem i_visitB {goal : List Bool} (hg : goal.length = n) {v : Nat} {row : List Int} (hv : P[v]? = some row) {q : List Int} {out : List Bool} (hI : Bfs n a.Next P goal (some (v : Int)) (q, out)) (hov : bAt out v = true) (hql : q.length + 2 * falses out ≤ 3 * n) :
 ∃ q' out', cntM (i_leadTo_b2 row) row.length 0 (q, out) = some (.inr (q', out')) ∧ Bfs n a.Next P goal none (q', out') ∧ q'.length + 2 * falses out' ≤ q.length + 2 * falses out := by
 obtain ⟨s, h1, h2, h3, h4⟩ := cnt_inv (f := i_leadTo_b2 row) (fun j (s : List Int × List Bool) => Bfs n a.Next P goal (some (v : Int)) s ∧ s.1.length + 2 * falses s.2 ≤ q.length + 2 * falses out ∧ bAt s.2 v = true ∧ ∀ x ∈ row.take j, bAt s.2 x = true) row.length (s := (q, out)) ⟨hI, Nat.le_refl _, hov, fun x hx => by simp at hx⟩ (fun j s hj ⟨⟨hW, hq, hc⟩, hm, hv', ht⟩ => by
  have e1 : row[j]? = some row[j] := List.getElem?_eq_getElem hj
  generalize row[j] = x at e1
  have hxm := List.mem_of_getElem? e1
  obtain ⟨x0, x1⟩ := pred_rng hN hP hv hxm
  have hl : s.2.length = n := by rw [hW.len, hg]
  have htk : row.take (j + 1) = row.take j ++ [x] := by rw [List.take_add_one, e1]; rfl
  unfold i_leadTo_b2
  rw [idx_nat, e1, Option.bind_some, bAt_get x0 (by omega), Option.bind_some]
  cases hox : bAt s.2 x with
  | true =>
   simp only [Bool.not_true, cond_false, Option.bind_some]
   refine ⟨_, rfl, ⟨hW, hq, hc⟩, hm, hv', fun y hy => ?_⟩
   rw [htk, List.mem_append, List.mem_singleton] at hy
   rcases hy with hy | rfl
   · exact ht y hy
   · exact hox
  | false =>
   obtain ⟨u, hu⟩ := ex_nat x0
   subst hu
   have hf : s.2[u]? = some false := by
    have := bAt_get (B := s.2) x0 (by omega)
    rw [idx_nat, hox] at this
    exact this
   have hfs := falses_set hf
   simp only [Bool.not_false, cond_true, Option.bind_some]
   rw [setI_nat (by omega), Option.bind_some, app1 (by omega) rfl, Option.bind_some, Option.bind_some]
   have hmono : ∀ y : Int, 0 ≤ y → bAt s.2 y = true → bAt (s.2.set u true) y = true := fun y y0 hy => by rw [bAt_set (by omega) _ y0, hy]; rfl
   obtain ⟨w, r, hw1, hw2, hw3⟩ := ((hP.mem v row hv).2 u).1 hxm
   have huw : u = w := by omega
   subst huw
   have hany : anyOut s.2 r = true := by
    unfold anyOut
    rw [List.any_eq_true]
    exact ⟨v, hw3, hv'⟩
   refine ⟨_, rfl, ⟨hW.set hN hg hw2 hany, fun y hy => ?_, fun z rz hz hoz => ?_⟩, ?_, hmono v (by omega) hv', fun y hy => ?_⟩
   · dsimp only at hy ⊢
     rw [List.mem_append, List.mem_singleton] at hy
     rcases hy with hy | rfl
     · obtain ⟨y0, y1, y2⟩ := hq y hy
       exact ⟨y0, y1, hmono y y0 y2⟩
     · exact ⟨x0, x1, by rw [bAt_set (by omega) _ x0]; simp⟩
   · dsimp only at hoz ⊢
     rw [bAt_set (by omega) _ (by omega), Bool.or_eq_true] at hoz
     rcases hoz with hoz | hoz
     · rcases hc z rz hz hoz with h | h | h
       · exact .inl (List.mem_append_left _ h)
       · exact .inr (.inl h)
       · exact .inr (.inr fun y hy => hmono y (pred_rng hN hP hz hy).1 (h y hy))
     · have := of_decide_eq_true hoz
       exact .inl (by rw [this]; simp)
   · dsimp only
     rw [List.length_append]
     simp only [List.length_cons, List.length_nil]
     omega
   · dsimp only
     rw [htk, List.mem_append, List.mem_singleton] at hy
     rcases hy with hy | rfl
     · exact hmono y (pred_rng hN hP hv (List.mem_of_mem_take hy)).1 (ht y hy)
     · rw [bAt_set (by omega) _ x0]; simp)
 obtain ⟨hW, hq, hc⟩ := h2
 refine ⟨s.1, s.2, h1, ⟨hW, hq, fun u r hu hou => ?_⟩, h3⟩
 rcases hc u r hu hou with h | h | h
 · exact .inl h
 · have huv : u = v := by have := Option.some.inj h; omega
   subst huv
   rw [hv] at hu
   cases hu
   refine .inr (.inr fun x hx => ?_)
   have := h4.2 x (by rw [List.take_length]; exact hx)
   exact this
 · exact .inr (.inr h)
theorem i_leadTo_eq (hp : i_predsOf a = some P) {goal : List Bool} (hg : goal.length = n) : ∃ B, i_leadTo a goal = some B ∧ LeastB a.Next goal B := by
 obtain ⟨L, k1, _, k3, k4⟩ := listOf_eqI goal (by omega)
 unfold i_leadTo
 rw [hp, Option.bind_some, appL (by rw [List.length_nil]; omega) rfl, Option.bind_some, k1, Option.bind_some, List.nil_append]
 have hfl := falses_le goal
 obtain ⟨o, h1, h2⟩ := while_out (f := i_leadTo_b0 P) (fun j (s : List Int × List Bool) => Bfs n a.Next P goal none s ∧ j + (s.1.length + 2 * falses s.2) ≤ 3 * n) (fun _ => False) (fun s => LeastB a.Next goal s.2) (3 * n) (fun j s ⟨⟨hW, hq, hc⟩, hm⟩ => by
  unfold i_leadTo_b0
  obtain ⟨q, out⟩ := s
  dsimp only at hW hq hc hm ⊢
  cases q with
  | nil =>
   simp only [List.length_nil, Int.natCast_zero, Int.lt_irrefl, decide_false, cond_false]
   refine ⟨_, rfl, hW.len, hW.sub, fun v row u hv hu hou => ?_, hW.least⟩
   obtain ⟨u0, u1⟩ := (hN.rng v row hv).2 u hu
   obtain ⟨w, hw⟩ := ex_nat u0
   subst hw
   have e1 : P[w]? = some (P[w]'(by rw [hP.len]; omega)) := List.getElem?_eq_getElem (by rw [hP.len]; omega)
   generalize P[w]'(by rw [hP.len]; omega) = r at e1
   rcases hc w r e1 hou with h | h | h
   · cases h
   · cases h
   · exact h v (((hP.mem w r e1).2 v).2 ⟨v, row, rfl, hv, hu⟩)
  | cons x q =>
   have hlt : (0 : Int) < ((x :: q).length : Int) := by simp only [List.length_cons]; omega
   obtain ⟨x0, x1, x2⟩ := hq x (List.mem_cons_self ..)
   obtain ⟨v, hv⟩ := ex_nat x0
   subst hv
   have e1 : P[v]? = some (P[v]'(by rw [hP.len]; omega)) := List.getElem?_eq_getElem (by rw [hP.len]; omega)
   generalize P[v]'(by rw [hP.len]; omega) = row at e1
   have e2 : idx ((v : Int) :: q) 0 = some (v : Int) := rfl
   have e3 : subS ((v : Int) :: q) 1 (((v : Int) :: q).length : Int) = some q := by
    unfold subS
    rw [if_pos ⟨by omega, by simp only [List.length_cons]; omega, by omega⟩, Int.toNat_natCast, List.take_length]
    rfl
   simp only [List.length_cons] at hm
   obtain ⟨q', out', w1, w2, w3⟩ := i_visitB hN hn hP hg e1 (q := q) (out := out) ⟨hW, fun y hy => hq y (List.mem_cons_of_mem _ hy), fun u r hu hou => by
    rcases hc u r hu hou with h | h | h
    · rcases List.mem_cons.1 h with h | h
      · exact .inr (.inl (by rw [h]))
      · exact .inl h
    · cases h
    · exact .inr (.inr h)⟩ x2 (by omega)
   simp only [hlt, decide_true, cond_true, e2, e3, Option.bind_some, idx_nat, e1, w1, aft_inr]
   exact ⟨_, rfl, by omega, w2, by dsimp only; omega⟩) (2 ^ 64) 0 (L, goal) (by omega) ⟨⟨⟨rfl, fun _ h => h, fun C _ hs _ => hs⟩, fun x hx => by
    obtain ⟨v, rfl, hv⟩ := (k4 x).1 hx
    have hlt := (List.getElem?_eq_some_iff.1 hv).1
    have := bAt_get (B := goal) (v := (v : Int)) (by omega) (by omega)
    rw [idx_nat, hv] at this
    exact ⟨by omega, by omega, (Option.some.inj this).symm⟩, fun u row hu hou => .inl ((k4 u).2 ⟨u, rfl, by
    have hlt := (List.getElem?_eq_some_iff.1 hu).1
    have := bAt_get (B := goal) (v := (u : Int)) (by omega) (by rw [hP.len] at hlt; omega)
    rw [idx_nat, hou] at this
    exact this⟩)⟩, by dsimp only; omega⟩ (by omega)
 match o, h2 with
 | .inr s, h2 => rw [h1]; exact ⟨s.2, rfl, h2⟩
end
end Go.Proofs.YtmiilifclnanlaaGreat
set_option linter.unusedVariables false
set_option linter.unusedSimpArgs false
namespace Go.Proofs.YtmiilifclnanlaaGreat
open Go Go.Wk Go.Proofs
open Classical
theorem i_noPlan_eq {g : Parity} {n : Nat} (h : GOk g n) : i_noPlan g.Arena = some (List.replicate n (-1)) := by
 have hn := h.n256
 unfold i_noPlan
 rw [h.lo, mkS_nat (by omega) rfl, Option.bind_some, List.length_replicate]
 obtain ⟨s, h1, h2, h3⟩ := fill (f := i_noPlan_b0) (fun _ => -1) n (s0 := List.replicate n 0) (by simp) (fun j s hj hs => rfl)
 rw [h1, Option.bind_some, aft_inr]
 congr 1
 apply List.ext_getElem?
 intro i
 rw [List.getElem?_replicate]
 by_cases hi : i < n
 · rw [if_pos hi, ← idx_nat]; exact h3 i hi
 · rw [if_neg hi]; exact List.getElem?_eq_none (by omega)
theorem s_l7None_eq {n : Nat} (hn : n ≤ 256) : s_l7None (n : Int) = some (List.replicate n (-1)) := by
 unfold s_l7None
 have hr : rng (n : Int) = some () := by
  unfold rng
  first
   | rfl
   | rw [if_pos (by omega)]
 rw [hr, Option.bind_some, show Int.toNat ((n : Int) - 0) = n from by omega]
 obtain ⟨s, h1, h2⟩ := cnt_inv (f := s_l7None_b0) (fun j (s : List Int) => s = List.replicate j (-1)) n (s := []) rfl (fun j s hj hs => by
  subst hs
  unfold s_l7None_b0
  rw [app1 (by simp; omega) rfl, Option.bind_some]
  exact ⟨_, rfl, by rw [List.replicate_succ']⟩)
 rw [h1, Option.bind_some, aft_inr, h2]
structure Solv (g : Parity) (W : Int → Prop) (k : List Int) : Prop where
 sol : Par.Sol (gI g) (Xn g.Prio.length) false W
 len : k.length = g.Prio.length
 pick : ∀ v x, idx k v = some x → x = -1 ∨ 0 ≤ x
 ans : Par.Ans (gI g) (Xn g.Prio.length) (wB W) (pkL k)
theorem Solved_same {g : Parity} (hp : parityOk g = true) : ∃ W k, s_Solved g = some ⟨wonL g.Prio.length W, k⟩ ∧ i_Solved g = some ⟨wonL g.Prio.length W, k⟩ ∧ s_l7Won g = some (wonL g.Prio.length W) ∧ i_winners g = some (wonL g.Prio.length W) ∧ Solv g W k := by
 have h := GOk.of hp
 obtain ⟨W, a1, a2, a3⟩ := won_same h (rows_some hp)
 obtain ⟨k, k1, k2, k3, k4, k5⟩ := solve_same hp rfl a3 a1
 refine ⟨W, k, ?_, ?_, a1, a2, a3, k3, k4, k5⟩
 · unfold s_Solved
   rw [s_ParityOk_eq, hp, Option.bind_some, Bool.not_true, cond_false, s_l7None_eq h.n256, Option.bind_some, k1]; rfl
 · unfold i_Solved
   rw [i_ParityOk_eq, hp, Option.bind_some, Bool.not_true, cond_false, i_noPlan_eq h, Option.bind_some, a2, Option.bind_some, k2]; rfl
theorem touched_same {g : Parity} (hp : parityOk g = true) {e : Edit} (he : editOk g e = true) : ∃ M A, s_l32Touched g e = some A ∧ i_markOf g.Arena [e.V] = some M ∧ i_leadTo g.Arena M = some A ∧ A.length = g.Prio.length ∧ Xn g.Prio.length e.V ∧ bAt A e.V = true ∧ ∀ v u, (gI g).E v u → bAt A u = true → bAt A v = true := by
 obtain ⟨h1, h2, h3, h4, h5⟩ := parityOk_spec hp
 have hN := Rows.of hp
 have he' := he
 unfold editOk at he'
 rw [Bool.and_eq_true] at he'
 obtain ⟨v0, v1⟩ := inR_iff.1 he'.1
 obtain ⟨v, hv⟩ := ex_nat v0
 have hlen : ((List.replicate g.Arena.Owner.length false).set v true).length = g.Arena.Owner.length := by simp
 obtain ⟨P, p1, p2⟩ := i_preds (a := g.Arena) hN (by omega) rfl
 obtain ⟨A, a1, a2⟩ := s_before (a := g.Arena) hN (by omega) hlen
 obtain ⟨B, b1, b2⟩ := i_leadTo_eq (a := g.Arena) hN (by omega) p2 p1 hlen
 have hAB := a2.uniq b2
 subst hAB
 have hmark : i_markOf g.Arena [e.V] = some ((List.replicate g.Arena.Owner.length false).set v true) := by
  unfold i_markOf
  rw [mkS_nat (by omega) rfl, Option.bind_some]
  show Option.bind (Option.bind (i_markOf_b0 [e.V] 0 _) _) _ = _
  unfold i_markOf_b0
  have e0 : idx [e.V] 0 = some e.V := rfl
  have e1 : idx (List.replicate g.Arena.Owner.length false) (v : Int) = some false := by
   rw [idx_nat, List.getElem?_replicate, if_pos (by omega)]
  rw [e0, Option.bind_some, hv, e1, Option.bind_some, setI_nat (by simp; omega), Option.bind_some]
  rfl
 have htouch : s_l32Touched g e = some A := by
  unfold s_l32Touched
  have e1 : idx (List.replicate g.Arena.Owner.length false) (v : Int) = some false := by
   rw [idx_nat, List.getElem?_replicate, if_pos (by omega)]
  rw [h4, mkS_nat (by omega) rfl, Option.bind_some, hv, e1, Option.bind_some, setI_nat (by simp; omega), Option.bind_some, a1]
  rfl
 refine ⟨_, A, htouch, hmark, b1, by rw [a2.len, hlen]; omega, ⟨by omega, by omega⟩, ?_, fun x u hE hu => ?_⟩
 · rw [hv]
   refine a2.sub v ?_
   rw [bAt_set (by simp; omega) _ (by omega)]
   simp
 · have hE' : u ∈ rowI g.Arena x := hE
   cases hr : idx g.Arena.Next x with
   | none => rw [rowI_none hr] at hE'; cases hE'
   | some row =>
    rw [rowI_eq hr] at hE'
    obtain ⟨i, hi⟩ := ex_nat (idx_rng hr).1
    subst hi
    rw [idx_nat] at hr
    exact a2.closed i row u hr hE' hu
noncomputable def mixL (A : List Bool) (old new : List Int) : List Int := (List.range A.length).map fun (v : Nat) => if bAt A (v : Int) = true then (idx new (v : Int)).getD 0 else (idx old (v : Int)).getD 0
theorem mixL_len {A : List Bool} {old new : List Int} : (mixL A old new).length = A.length := by unfold mixL; rw [List.length_map, List.length_range]
theorem mixL_get {A : List Bool} {old new : List Int} {n : Nat} (hA : A.length = n) (ho : old.length = n) (hw : new.length = n) {v : Int} (hv : Xn n v) : idx (mixL A old new) v = if bAt A v = true then idx new v else idx old v := by
 obtain ⟨i, hi⟩ := ex_nat hv.1
 subst hi
 have hi : i < n := by have := hv.2; omega
 rw [idx_nat]
 unfold mixL
 rw [List.getElem?_map, List.getElem?_range (by omega)]
 obtain ⟨x, hx⟩ := idx_some (xs := old) (i := (i : Int)) (by omega) (by omega)
 obtain ⟨y, hy⟩ := idx_some (xs := new) (i := (i : Int)) (by omega) (by omega)
 rw [hx, hy]
 by_cases c : bAt A (i : Int) = true
 · simp [c, hy]
 · simp [c, hx]
theorem mix_same {A : List Bool} {n : Nat} {old new : Answer} (hA : A.length = n) (hn : n ≤ 256) (h1 : old.Won.length = n) (h2 : old.Plan.length = n) (h3 : new.Won.length = n) (h4 : new.Plan.length = n) :
 cntM (s_ResolvedBy_b0 old A new) A.length 0 ([], []) = some (.inr (mixL A old.Won new.Won, mixL A old.Plan new.Plan)) ∧ cntM (i_ResolvedBy_b0 old A) A.length 0 (new.Won, new.Plan) = some (.inr (mixL A old.Won new.Won, mixL A old.Plan new.Plan)) := by
 have hg : ∀ {L : List Int}, L.length = n → ∀ j : Nat, j < n → ∃ x, L[j]? = some x := fun hL j hj => ⟨_, List.getElem?_eq_getElem (by omega)⟩
 have hmw : ∀ (o w : List Int), o.length = n → w.length = n → ∀ j : Nat, j < n → (mixL A o w)[j]? = if bAt A (j : Int) = true then w[j]? else o[j]? := fun o w ho hw j hj => by
  have := mixL_get hA ho hw (v := (j : Int)) ⟨by omega, by omega⟩
  rw [idx_nat, idx_nat, idx_nat] at this
  exact this
 constructor
 · obtain ⟨s, e1, e2, e3⟩ := cnt_inv (f := s_ResolvedBy_b0 old A new) (fun j (s : List Int × List Int) => s.1 = (mixL A old.Won new.Won).take j ∧ s.2 = (mixL A old.Plan new.Plan).take j) A.length (s := ([], [])) ⟨rfl, rfl⟩ (fun j s hj ⟨q1, q2⟩ => by
    obtain ⟨s, t⟩ := s
    dsimp only at q1 q2
    subst q1 q2
    obtain ⟨a, ha⟩ := hg h1 j (by omega)
    obtain ⟨b, hb⟩ := hg h2 j (by omega)
    obtain ⟨c, hc⟩ := hg h3 j (by omega)
    obtain ⟨d, hd⟩ := hg h4 j (by omega)
    have m1 := hmw old.Won new.Won h1 h3 j (by omega)
    have m2 := hmw old.Plan new.Plan h2 h4 j (by omega)
    have l1 : ((mixL A old.Won new.Won).take j).length ≤ 10000000000 := by rw [List.length_take]; omega
    have l2 : ((mixL A old.Plan new.Plan).take j).length ≤ 10000000000 := by rw [List.length_take]; omega
    unfold s_ResolvedBy_b0
    dsimp only
    rw [bAt_get (B := A) (by omega) (by omega), Option.bind_some, idx_nat, idx_nat, idx_nat, idx_nat, ha, hb, hc, hd]
    simp only [Option.bind_some, app1 l1 (show Nat.ble 8 1024 = true from rfl), app1 l2 (show Nat.ble 8 1024 = true from rfl)]
    rw [List.take_add_one, List.take_add_one, m1, m2, ha, hb, hc, hd]
    cases bAt A (j : Int) <;> exact ⟨_, rfl, rfl, rfl⟩)
   rw [e1]
   rw [List.take_of_length_le (Nat.le_of_eq mixL_len)] at e2 e3
   rw [← e2, ← e3]
 · obtain ⟨s, e1, e2, e3, e4⟩ := cnt_inv (f := i_ResolvedBy_b0 old A) (fun j (s : List Int × List Int) => s.1.length = n ∧ s.2.length = n ∧ ∀ i : Nat, i < n → s.1[i]? = (if i < j then (mixL A old.Won new.Won)[i]? else new.Won[i]?) ∧ s.2[i]? = (if i < j then (mixL A old.Plan new.Plan)[i]? else new.Plan[i]?)) A.length (s := (new.Won, new.Plan)) ⟨h3, h4, fun i hi => by simp⟩ (fun j s hj ⟨q1, q2, q3⟩ => by
    obtain ⟨s, t⟩ := s
    dsimp only at q1 q2 q3
    obtain ⟨a, ha⟩ := hg h1 j (by omega)
    obtain ⟨b, hb⟩ := hg h2 j (by omega)
    have m1 := hmw old.Won new.Won h1 h3 j (by omega)
    have m2 := hmw old.Plan new.Plan h2 h4 j (by omega)
    obtain ⟨z1, hz1⟩ := hg q1 j (by omega)
    obtain ⟨z2, hz2⟩ := hg q2 j (by omega)
    unfold i_ResolvedBy_b0
    dsimp only
    rw [bAt_get (B := A) (by omega) (by omega), Option.bind_some, idx_nat, idx_nat, idx_nat, idx_nat, ha, hb, hz1, hz2]
    simp only [Option.bind_some, setI_nat (xs := s) (i := j) (x := a) (by omega), setI_nat (xs := t) (i := j) (x := b) (by omega)]
    cases hc : bAt A (j : Int) with
    | true =>
     rw [hc, if_pos rfl] at m1 m2
     refine ⟨_, rfl, q1, q2, fun i hi => ?_⟩
     obtain ⟨r1, r2⟩ := q3 i hi
     by_cases c1 : i < j
     · rw [if_pos c1] at r1 r2
       rw [if_pos (by omega), if_pos (by omega)]; exact ⟨r1, r2⟩
     · rw [if_neg c1] at r1 r2
       by_cases c2 : i = j
       · subst c2
         rw [if_pos (by omega), if_pos (by omega), m1, m2]; exact ⟨r1, r2⟩
       · rw [if_neg (by omega), if_neg (by omega)]; exact ⟨r1, r2⟩
    | false =>
     rw [hc, if_neg (by simp)] at m1 m2
     refine ⟨_, rfl, by simpa using q1, by simpa using q2, fun i hi => ?_⟩
     obtain ⟨r1, r2⟩ := q3 i hi
     dsimp only
     rw [List.getElem?_set, List.getElem?_set]
     by_cases c2 : j = i
     · subst c2
       rw [if_pos rfl, if_pos rfl, if_pos (by omega), if_pos (by omega), if_pos (by omega), if_pos (by omega), m1, m2, ha, hb]
       exact ⟨rfl, rfl⟩
     · rw [if_neg c2, if_neg c2]
       by_cases c1 : i < j
       · rw [if_pos c1] at r1 r2
         rw [if_pos (by omega), if_pos (by omega)]; exact ⟨r1, r2⟩
       · rw [if_neg c1] at r1 r2
         rw [if_neg (by omega), if_neg (by omega)]; exact ⟨r1, r2⟩)
   rw [e1]
   obtain ⟨s, t⟩ := s
   dsimp only at e2 e3 e4
   have f1 : s = mixL A old.Won new.Won := by
    apply List.ext_getElem?
    intro i
    by_cases hi : i < n
    · rw [(e4 i hi).1, if_pos (by omega)]
    · rw [List.getElem?_eq_none (by omega), List.getElem?_eq_none (by rw [mixL_len]; omega)]
   have f2 : t = mixL A old.Plan new.Plan := by
    apply List.ext_getElem?
    intro i
    by_cases hi : i < n
    · rw [(e4 i hi).2, if_pos (by omega)]
    · rw [List.getElem?_eq_none (by omega), List.getElem?_eq_none (by rw [mixL_len]; omega)]
   rw [f1, f2]
theorem Resolved_ok {g : Parity} {old : Answer} {e : Edit} (hR : RightA g old) (he : editOk g e = true) : ∃ A W k, s_ResolvedBy g old e = some (⟨mixL A old.Won (wonL g.Prio.length W), mixL A old.Plan k⟩, true) ∧ i_ResolvedBy g old e = some (⟨mixL A old.Won (wonL g.Prio.length W), mixL A old.Plan k⟩, true) ∧ A.length = g.Prio.length ∧ Xn g.Prio.length e.V ∧ bAt A e.V = true ∧ (∀ v u, (gI g).E v u → bAt A u = true → bAt A v = true) ∧ parityOk (editF g e) = true ∧ (editF g e).Prio.length = g.Prio.length ∧ s_Solved (editF g e) = some ⟨wonL g.Prio.length W, k⟩ ∧ Solv (editF g e) W k ∧ s_l32Do g e = some (editF g e) ∧ i_edited g e = some (editF g e) := by
 obtain ⟨hp, W0, w1, w2, w3, w4⟩ := hR
 have h := GOk.of hp
 obtain ⟨M, A, t1, t2, t3, t4, t5, t6, t7⟩ := touched_same hp he
 obtain ⟨r, d1, d2, d3, d4, d5⟩ := do_same3 hp he
 subst d5
 have hq := GOk.of d3
 have hl : (editF g e).Prio.length = g.Prio.length := by rw [← hq.lo, d4, h.lo]
 obtain ⟨W, k, s1, s2, s3, s4, s5⟩ := Solved_same d3
 have hsl := s5.len
 rw [hl] at s1 s2 hsl
 have hold : old.Won.length = g.Prio.length := by rw [w1]; exact wonL_len _ _
 obtain ⟨m1, m2⟩ := mix_same (new := ⟨wonL g.Prio.length W, k⟩) t4 h.n256 hold w2 (wonL_len _ _) hsl
 obtain ⟨b, b1, b2, b3⟩ := AnswerOk_same g old
 have hb : b = true := b3.2 ⟨hp, W0, w1, w2, w3, w4⟩
 subst hb
 refine ⟨A, W, k, ?_, ?_, t4, t5, t6, t7, d3, hl, s1, s5, d1, d2⟩
 · unfold s_ResolvedBy
   rw [s_EditOk_eq, hp, he, b1]
   simp only [Bool.and_self, Bool.not_true, cond_false, Option.bind_some, t1, d1, s1, m1, aft_inr]
 · unfold i_ResolvedBy
   rw [b2, i_isEdit_eq hp, he]
   simp only [Bool.not_true, cond_false, Option.bind_some, d2, s2, t2, t3, m2, aft_inr]
theorem Resolved_no {g : Parity} {old : Answer} {e : Edit} (h : ¬ (RightA g old ∧ editOk g e = true)) : s_ResolvedBy g old e = some (⟨[], []⟩, false) ∧ i_ResolvedBy g old e = some (⟨[], []⟩, false) := by
 obtain ⟨b, b1, b2, b3⟩ := AnswerOk_same g old
 unfold s_ResolvedBy i_ResolvedBy
 rw [s_EditOk_eq, b1, b2]
 cases hb : b with
 | false =>
  refine ⟨?_, rfl⟩
  cases (parityOk g && editOk g e) <;> rfl
 | true =>
  have hR := b3.1 hb
  have hp := hR.1
  have he : editOk g e = false := by
   cases c : editOk g e with
   | false => rfl
   | true => exact absurd ⟨hR, c⟩ h
  rw [i_isEdit_eq hp, he, Bool.and_false]
  exact ⟨rfl, rfl⟩
end Go.Proofs.YtmiilifclnanlaaGreat
set_option linter.unusedVariables false
set_option linter.unusedSimpArgs false
namespace Go.Proofs.YtmiilifclnanlaaGreat
open Go Go.Wk Go.Proofs
open Classical
theorem ResolvedBy_same (g : Parity) (old : Answer) (e : Edit) : ∃ r b, s_ResolvedBy g old e = some (r, b) ∧ i_ResolvedBy g old e = some (r, b) ∧ r.Won.length ≤ 256 ∧ r.Plan.length ≤ 256 := by
 by_cases hc : RightA g old ∧ editOk g e = true
 · obtain ⟨A, W, k, h1, h2, h3, _⟩ := Resolved_ok hc.1 hc.2
   have h := GOk.of hc.1.1
   refine ⟨_, _, h1, h2, ?_, ?_⟩
   · dsimp only; rw [mixL_len]; have := h.n256; omega
   · dsimp only; rw [mixL_len]; have := h.n256; omega
 · obtain ⟨h1, h2⟩ := Resolved_no hc
   exact ⟨_, _, h1, h2, by simp, by simp⟩
theorem FnExactResolvedBy_law {p0 : Parity} (ok0 : Parity.ok p0) {p1 : Answer} (ok1 : Answer.ok p1) {p2 : Edit} (ok2 : Edit.ok p2) : l_FnExactResolvedBy p0 p1 p2 = some true :=
 FnExactResolvedBy_of ok0 ok1 ok2 fun h0 h1 => by
  obtain ⟨r, b, a1, a2, a3, a4⟩ := ResolvedBy_same p0 p1 p2
  exact ⟨r, b, a1, a2, by rw [ctL_one]; omega, by rw [ctL_one]; omega⟩
end Go.Proofs.YtmiilifclnanlaaGreat
