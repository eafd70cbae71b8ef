/- TouchedBy: the law. -/
import Derived.Test.YtfmkhnlnomkcfaaTouchedByC3
set_option linter.unusedVariables false
set_option linter.unusedSimpArgs false
namespace Go.Proofs.Ytfmkhnlnomkcfaa
open Go Go.Wk Go.Proofs
section
variable {a : Arena} {n : Nat} (hN : Rows n a.Next) (hn : n ≤ 256) {P : List (List Int)} (hP : Preds n a.Next P)
include hN hn hP
/-- the search: what holds on the way -/
def Bfs (n : Nat) (N P : List (List Int)) (goal : List Bool) (v : Option Int) (s : List Int × List Bool) : Prop :=
  Way N goal s.2 ∧ (∀ x ∈ s.1, 0 ≤ x ∧ x < n ∧ bAt s.2 x = true) ∧ (∀ (u : Nat) row, P[u]? = some row → bAt s.2 u = true → (u : Int) ∈ s.1 ∨ some (u : Int) = v ∨ ∀ x ∈ row, bAt s.2 x = true)
omit hn in
theorem pred_rng {u : Nat} {row : List Int} (h : P[u]? = some row) {x : Int} (hx : x ∈ row) : 0 ≤ x ∧ x < n := by
  obtain ⟨v, r, rfl, hv, _⟩ := ((hP.mem u row h).2 x).1 hx
  have := (List.getElem?_eq_some_iff.1 hv).1
  rw [hN.len] at this
  omega
theorem i_visitB {goal : List Bool} (hg : goal.length = n) {v : Nat} {row : List Int} (hv : P[v]? = some row) {q : List Int} {out : List Bool} (hI : Bfs n a.Next P goal (some (v : Int)) (q, out)) (hov : bAt out v = true) (hql : q.length + 2 * falses out ≤ 3 * n) :
    ∃ q' out', cntM (i_leadTo_b2 row) row.length 0 (q, out) = some (.inr (q', out')) ∧ Bfs n a.Next P goal none (q', out') ∧ q'.length + 2 * falses out' ≤ q.length + 2 * falses out := by
  obtain ⟨s, h1, h2, h3, h4⟩ := cnt_inv (f := i_leadTo_b2 row) (fun j (s : List Int × List Bool) => Bfs n a.Next P goal (some (v : Int)) s ∧ s.1.length + 2 * falses s.2 ≤ q.length + 2 * falses out ∧ bAt s.2 v = true ∧ ∀ x ∈ row.take j, bAt s.2 x = true) row.length (s := (q, out)) ⟨hI, Nat.le_refl _, hov, fun x hx => by simp at hx⟩ (fun j s hj ⟨⟨hW, hq, hc⟩, hm, hv', ht⟩ => by
    have e1 : row[j]? = some row[j] := List.getElem?_eq_getElem hj
    generalize row[j] = x at e1
    have hxm := List.mem_of_getElem? e1
    obtain ⟨x0, x1⟩ := pred_rng hN hP hv hxm
    have hl : s.2.length = n := by rw [hW.len, hg]
    have htk : row.take (j + 1) = row.take j ++ [x] := by rw [List.take_add_one, e1]; rfl
    unfold i_leadTo_b2
    rw [idx_nat, e1, Option.bind_some, bAt_get x0 (by omega), Option.bind_some]
    cases hox : bAt s.2 x with
    | true =>
      simp only [Bool.not_true, cond_false, Option.bind_some]
      refine ⟨_, rfl, ⟨hW, hq, hc⟩, hm, hv', fun y hy => ?_⟩
      rw [htk, List.mem_append, List.mem_singleton] at hy
      rcases hy with hy | rfl
      · exact ht y hy
      · exact hox
    | false =>
      obtain ⟨u, hu⟩ := ex_nat x0
      subst hu
      have hf : s.2[u]? = some false := by
        have := bAt_get (B := s.2) x0 (by omega)
        rw [idx_nat, hox] at this
        exact this
      have hfs := falses_set hf
      simp only [Bool.not_false, cond_true, Option.bind_some]
      rw [setI_nat (by omega), Option.bind_some, app1 (by omega) rfl, Option.bind_some, Option.bind_some]
      have hmono : ∀ y : Int, 0 ≤ y → bAt s.2 y = true → bAt (s.2.set u true) y = true := fun y y0 hy => by rw [bAt_set (by omega) _ y0, hy]; rfl
      obtain ⟨w, r, hw1, hw2, hw3⟩ := ((hP.mem v row hv).2 u).1 hxm
      have huw : u = w := by omega
      subst huw
      have hany : anyOut s.2 r = true := by
        unfold anyOut
        rw [List.any_eq_true]
        exact ⟨v, hw3, hv'⟩
      refine ⟨_, rfl, ⟨hW.set hN hg hw2 hany, fun y hy => ?_, fun z rz hz hoz => ?_⟩, ?_, hmono v (by omega) hv', fun y hy => ?_⟩
      · dsimp only at hy ⊢
        rw [List.mem_append, List.mem_singleton] at hy
        rcases hy with hy | rfl
        · obtain ⟨y0, y1, y2⟩ := hq y hy
          exact ⟨y0, y1, hmono y y0 y2⟩
        · exact ⟨x0, x1, by rw [bAt_set (by omega) _ x0]; simp⟩
      · dsimp only at hoz ⊢
        rw [bAt_set (by omega) _ (by omega), Bool.or_eq_true] at hoz
        rcases hoz with hoz | hoz
        · rcases hc z rz hz hoz with h | h | h
          · exact .inl (List.mem_append_left _ h)
          · exact .inr (.inl h)
          · exact .inr (.inr fun y hy => hmono y (pred_rng hN hP hz hy).1 (h y hy))
        · have := of_decide_eq_true hoz
          exact .inl (by rw [this]; simp)
      · dsimp only
        rw [List.length_append]
        simp only [List.length_cons, List.length_nil]
        omega
      · dsimp only
        rw [htk, List.mem_append, List.mem_singleton] at hy
        rcases hy with hy | rfl
        · exact hmono y (pred_rng hN hP hv (List.mem_of_mem_take hy)).1 (ht y hy)
        · rw [bAt_set (by omega) _ x0]; simp)
  obtain ⟨hW, hq, hc⟩ := h2
  refine ⟨s.1, s.2, h1, ⟨hW, hq, fun u r hu hou => ?_⟩, h3⟩
  rcases hc u r hu hou with h | h | h
  · exact .inl h
  · have huv : u = v := by have := Option.some.inj h; omega
    subst huv
    rw [hv] at hu
    cases hu
    refine .inr (.inr fun x hx => ?_)
    have := h4.2 x (by rw [List.take_length]; exact hx)
    exact this
  · exact .inr (.inr h)
theorem i_leadTo_eq (hp : i_predsOf a = some P) {goal : List Bool} (hg : goal.length = n) : ∃ B, i_leadTo a goal = some B ∧ LeastB a.Next goal B := by
  obtain ⟨L, k1, _, k3, k4⟩ := listOf_eq goal (by omega)
  unfold i_leadTo
  rw [hp, Option.bind_some, appL (by rw [List.length_nil]; omega) rfl, Option.bind_some, k1, Option.bind_some, List.nil_append]
  have hfl := falses_le goal
  obtain ⟨o, h1, h2⟩ := while_out (f := i_leadTo_b0 P) (fun j (s : List Int × List Bool) => Bfs n a.Next P goal none s ∧ j + (s.1.length + 2 * falses s.2) ≤ 3 * n) (fun _ => False) (fun s => LeastB a.Next goal s.2) (3 * n) (fun j s ⟨⟨hW, hq, hc⟩, hm⟩ => by
    unfold i_leadTo_b0
    obtain ⟨q, out⟩ := s
    dsimp only at hW hq hc hm ⊢
    cases q with
    | nil =>
      simp only [List.length_nil, Int.natCast_zero, Int.lt_irrefl, decide_false, cond_false]
      refine ⟨_, rfl, hW.len, hW.sub, fun v row u hv hu hou => ?_, hW.least⟩
      obtain ⟨u0, u1⟩ := (hN.rng v row hv).2 u hu
      obtain ⟨w, hw⟩ := ex_nat u0
      subst hw
      have e1 : P[w]? = some (P[w]'(by rw [hP.len]; omega)) := List.getElem?_eq_getElem (by rw [hP.len]; omega)
      generalize P[w]'(by rw [hP.len]; omega) = r at e1
      rcases hc w r e1 hou with h | h | h
      · cases h
      · cases h
      · exact h v (((hP.mem w r e1).2 v).2 ⟨v, row, rfl, hv, hu⟩)
    | cons x q =>
      have hlt : (0 : Int) < ((x :: q).length : Int) := by simp only [List.length_cons]; omega
      obtain ⟨x0, x1, x2⟩ := hq x (List.mem_cons_self ..)
      obtain ⟨v, hv⟩ := ex_nat x0
      subst hv
      have e1 : P[v]? = some (P[v]'(by rw [hP.len]; omega)) := List.getElem?_eq_getElem (by rw [hP.len]; omega)
      generalize P[v]'(by rw [hP.len]; omega) = row at e1
      have e2 : idx ((v : Int) :: q) 0 = some (v : Int) := rfl
      have e3 : subS ((v : Int) :: q) 1 (((v : Int) :: q).length : Int) = some q := by
        unfold subS
        rw [if_pos ⟨by omega, by simp only [List.length_cons]; omega, by omega⟩, Int.toNat_natCast, List.take_length]
        rfl
      simp only [List.length_cons] at hm
      obtain ⟨q', out', w1, w2, w3⟩ := i_visitB hN hn hP hg e1 (q := q) (out := out) ⟨hW, fun y hy => hq y (List.mem_cons_of_mem _ hy), fun u r hu hou => by
        rcases hc u r hu hou with h | h | h
        · rcases List.mem_cons.1 h with h | h
          · exact .inr (.inl (by rw [h]))
          · exact .inl h
        · cases h
        · exact .inr (.inr h)⟩ x2 (by omega)
      simp only [hlt, decide_true, cond_true, e2, e3, Option.bind_some, idx_nat, e1, w1, aft_inr]
      exact ⟨_, rfl, by omega, w2, by dsimp only; omega⟩) (2 ^ 64) 0 (L, goal) (by omega) ⟨⟨⟨rfl, fun _ h => h, fun C _ hs _ => hs⟩, fun x hx => by
        obtain ⟨v, rfl, hv⟩ := (k4 x).1 hx
        have hlt := (List.getElem?_eq_some_iff.1 hv).1
        have := bAt_get (B := goal) (v := (v : Int)) (by omega) (by omega)
        rw [idx_nat, hv] at this
        exact ⟨by omega, by omega, (Option.some.inj this).symm⟩, fun u row hu hou => .inl ((k4 u).2 ⟨u, rfl, by
        have hlt := (List.getElem?_eq_some_iff.1 hu).1
        have := bAt_get (B := goal) (v := (u : Int)) (by omega) (by rw [hP.len] at hlt; omega)
        rw [idx_nat, hou] at this
        exact this⟩)⟩, by dsimp only; omega⟩ (by omega)
  match o, h2 with
  | .inr s, h2 => rw [h1]; exact ⟨s.2, rfl, h2⟩
end
theorem TouchedBy_same (g : Parity) (e : Edit) : ∃ r, s_TouchedBy g e = some r ∧ i_TouchedBy g e = some r ∧ r.length ≤ 256 := by
  unfold s_TouchedBy i_TouchedBy
  rw [s_EditOk_eq, i_ParityOk_eq, Option.bind_some, Option.bind_some]
  cases hp : parityOk g with
  | false => exact ⟨[], rfl, rfl, by simp⟩
  | true =>
    rw [i_isEdit_eq hp]
    cases he : editOk g e with
    | false => exact ⟨[], rfl, rfl, by simp⟩
    | true =>
      obtain ⟨h1, h2, h3, h4, h5⟩ := parityOk_spec hp
      have hN := Rows.of hp
      have he' := he
      unfold editOk at he'
      rw [Bool.and_eq_true] at he'
      obtain ⟨v0, v1⟩ := inR_iff.1 he'.1
      obtain ⟨v, hv⟩ := ex_nat v0
      have hlen : ((List.replicate g.Arena.Owner.length false).set v true).length = g.Arena.Owner.length := by simp
      obtain ⟨P, p1, p2⟩ := i_preds (a := g.Arena) hN (by omega) rfl
      obtain ⟨A, a1, a2⟩ := s_before (a := g.Arena) hN (by omega) hlen
      obtain ⟨B, b1, b2⟩ := i_leadTo_eq (a := g.Arena) hN (by omega) p2 p1 hlen
      have hAB := a2.uniq b2
      subst hAB
      obtain ⟨L, l1, l2, l3, _⟩ := listOf_eq A (by rw [a2.len, hlen]; omega)
      have hmark : i_markOf g.Arena [e.V] = some ((List.replicate g.Arena.Owner.length false).set v true) := by
        unfold i_markOf
        rw [mkS_nat (by omega) rfl, Option.bind_some]
        show Option.bind (Option.bind (i_markOf_b0 [e.V] 0 _) _) _ = _
        unfold i_markOf_b0
        have e0 : idx [e.V] 0 = some e.V := rfl
        have e1 : idx (List.replicate g.Arena.Owner.length false) (v : Int) = some false := by
          rw [idx_nat, List.getElem?_replicate, if_pos (by omega)]
        rw [e0, Option.bind_some, hv, e1, Option.bind_some, setI_nat (by simp; omega), Option.bind_some]
        rfl
      have htouch : s_l32Touched g e = some A := by
        unfold s_l32Touched
        have e1 : idx (List.replicate g.Arena.Owner.length false) (v : Int) = some false := by
          rw [idx_nat, List.getElem?_replicate, if_pos (by omega)]
        rw [h4, mkS_nat (by omega) rfl, Option.bind_some, hv, e1, Option.bind_some, setI_nat (by simp; omega), Option.bind_some, a1]
        rfl
      simp only [Bool.and_self, Bool.not_true, cond_false, Option.bind_some, htouch, l1, l2, hmark, b1]
      exact ⟨L, rfl, rfl, by rw [a2.len, hlen] at l3; omega⟩
theorem FnExactTouchedBy_law {p0 : Parity} (ok0 : Parity.ok p0) {p1 : Edit} (ok1 : Edit.ok p1) : l_FnExactTouchedBy p0 p1 = some true :=
  FnExactTouchedBy_of ok0 ok1 fun _ => by
    obtain ⟨r, h1, h2, h3⟩ := TouchedBy_same p0 p1
    exact ⟨r, h1, h2, by rw [ctL_one]; omega⟩
end Go.Proofs.Ytfmkhnlnomkcfaa
