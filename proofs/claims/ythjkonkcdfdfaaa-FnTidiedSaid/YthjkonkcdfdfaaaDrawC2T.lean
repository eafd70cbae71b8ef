/- Drawn circuits and literals. -/
import Derived.Test.YthjkonkcdfdfaaaDrawCT
set_option linter.unusedVariables false
set_option linter.unusedSimpArgs false
namespace Go.Proofs.Ythjkonkcdfdfaaa
open Go Go.Wk Go.Proofs
section
variable {b : List Int} (hl : b.length ≤ 4096)
include hl
theorem outs_d {i h : Int} (hi : Cur i) {p : l1Cur} (hp : p.b = b) {O : List Int} (hO : O.length ≤ 2) : ∃ s : Int × Int × List Int, whileM (s_l31DrawAny_b1 p) (2 ^ 64) (i, h, O) = some (.inr s) ∧ Cur s.1 := by
  obtain ⟨o, w1, w2⟩ := while_out (f := s_l31DrawAny_b1 p) (fun j (s : Int × Int × List Int) => Cur s.1 ∧ s.2.2.length = O.length + j ∧ s.2.2.length ≤ 5) (fun _ => False) (fun s => Cur s.1) 6 (fun j s ⟨k1, k2, k3⟩ => by
    obtain ⟨x, i', h', e, x0, x1, c⟩ := below_d hl (h := s.2.1) k1 2
    have x1 := x1 (by omega)
    unfold s_l31DrawAny_b1
    rw [hp, e, Option.bind_some]
    dsimp only
    rw [wr' (z := 4 + x) (by omega) (by omega)]
    by_cases hlt : (s.2.2.length : Int) < 4 + x
    · simp only [hlt, decide_true, cond_true]
      rw [app1 (by omega) rfl]
      exact ⟨_, rfl, by omega, c, by dsimp only; rw [List.length_append, k2]; simp; omega, by dsimp only; rw [List.length_append]; simp; omega⟩
    · simp only [hlt, decide_false, cond_false]
      exact ⟨_, rfl, c⟩) (2 ^ 64) 0 (i, h, O) (by omega) ⟨hi, rfl, by dsimp only; omega⟩ (by omega)
  match o, w2 with
  | .inr s, w2 => exact ⟨s, w1, w2⟩
theorem any_d {i h : Int} (hi : Cur i) : ∃ c i' h', s_l31DrawAny ⟨b, i, h⟩ = some (c, i', h') ∧ Cur i' ∧ c.Gates.length ≤ 9 := by
  obtain ⟨c, i1, h1, e1, c1, g1, g2, g3⟩ := draw_d hl (h := h) hi
  obtain ⟨x2, i2, h2, e2, c2⟩ := once_d hl (h := h1) c1 7
  unfold s_l31DrawAny
  rw [e1, Option.bind_some]
  dsimp only
  rw [e2, Option.bind_some]
  dsimp only
  cases x2 with
  | false => exact ⟨_, _, _, rfl, c2, by dsimp only; omega⟩
  | true =>
    obtain ⟨x3, i3, h3, e3, a0, a1, c3⟩ := below_d hl (h := h2) c2 6
    have a1 := a1 (by omega)
    simp only [cond_true, e3, Option.bind_some]
    rcases (by omega : x3 = 0 ∨ x3 = 1 ∨ x3 = 2 ∨ x3 = 3 ∨ x3 = 4 ∨ x3 = 5) with rfl | rfl | rfl | rfl | rfl | rfl
    · obtain ⟨x4, i4, h4, e4, d0, d1, c4⟩ := below_d hl (h := h3) c3 4
      have d1 := d1 (by omega)
      obtain ⟨y, hy, _⟩ := get_el (xs := ([(-1), 0, 4, 5] : List Int)) d0 (by simp; omega)
      simp only [show ((0 : Int) == 0) = true from rfl, cond_true, e4, hy, Option.bind_some]
      exact ⟨_, _, _, rfl, c4, by dsimp only; omega⟩
    · obtain ⟨x4, i4, h4, e4, c4⟩ := num_d hl (h := h3) c3 6
      simp only [show ((1 : Int) == 0) = false from rfl, show ((1 : Int) == 1) = true from rfl, cond_true, cond_false, e4, Option.bind_some]
      exact ⟨_, _, _, rfl, c4, by dsimp only; omega⟩
    · obtain ⟨z, hz⟩ : ∃ z, s_l31Signals c = some z := ⟨_, rfl⟩
      obtain ⟨x4, i4, h4, e4, c4⟩ := num_d hl (h := h3) c3 (IntKind.i64.wrap (2 * z))
      simp only [show ((2 : Int) == 0) = false from rfl, show ((2 : Int) == 1) = false from rfl, show ((2 : Int) == 2) = true from rfl, cond_true, cond_false, hz, e4, Option.bind_some]
      rw [app1 (by omega) rfl]
      exact ⟨_, _, _, rfl, c4, by dsimp only; omega⟩
    · obtain ⟨x4, i4, h4, e4, c4⟩ := num_d hl (h := h3) c3 30
      obtain ⟨x5, i5, h5, e5, c5⟩ := num_d hl (h := h4) c4 30
      simp only [show ((3 : Int) == 0) = false from rfl, show ((3 : Int) == 1) = false from rfl, show ((3 : Int) == 2) = false from rfl, show ((3 : Int) == 3) = true from rfl, cond_true, cond_false, e4, e5, Option.bind_some]
      rw [app1 (by omega) rfl]
      exact ⟨_, _, _, rfl, c5, by dsimp only; rw [List.length_append]; simp; omega⟩
    · obtain ⟨s, e4, c4⟩ := outs_d hl (h := h3) c3 (p := ⟨b, i, h⟩) rfl g3
      simp only [show ((4 : Int) == 0) = false from rfl, show ((4 : Int) == 1) = false from rfl, show ((4 : Int) == 2) = false from rfl, show ((4 : Int) == 3) = false from rfl, show ((4 : Int) == 4) = true from rfl, cond_true, cond_false, e4, Option.bind_some, aft_inr]
      exact ⟨_, _, _, rfl, c4, by dsimp only; omega⟩
    · simp only [show ((5 : Int) == 0) = false from rfl, show ((5 : Int) == 1) = false from rfl, show ((5 : Int) == 2) = false from rfl, show ((5 : Int) == 3) = false from rfl, show ((5 : Int) == 4) = false from rfl, show ((5 : Int) == 5) = true from rfl, cond_true, cond_false]
      rw [app1 (by omega) rfl]
      exact ⟨_, _, _, rfl, c3, by dsimp only; omega⟩
theorem lit_d {i h : Int} (hi : Cur i) (c : Circuit) : ∃ x i' h', s_l31DrawLiteral ⟨b, i, h⟩ c = some (x, i', h') ∧ Cur i' := by
  obtain ⟨x1, i1, h1, e1, c1⟩ := once_d hl (h := h) hi 12
  unfold s_l31DrawLiteral
  rw [e1, Option.bind_some, s_CircuitOk_eq]
  dsimp only
  cases x1 with
  | true =>
    obtain ⟨x2, i2, h2, e2, c2⟩ := num_d hl (h := h1) c1 40
    simp only [cond_true, e2, Option.bind_some]
    exact ⟨_, _, _, rfl, c2⟩
  | false =>
    simp only [cond_false, Option.bind_some]
    cases circOk c with
    | false =>
      obtain ⟨x2, i2, h2, e2, _, _, c2⟩ := below_d hl (h := h1) c1 4
      simp only [Bool.not_false, cond_true, e2, Option.bind_some]
      exact ⟨_, _, _, rfl, c2⟩
    | true =>
      obtain ⟨z, hz⟩ : ∃ z, s_l31Signals c = some z := ⟨_, rfl⟩
      obtain ⟨x2, i2, h2, e2, _, _, c2⟩ := below_d hl (h := h1) c1 (IntKind.i64.wrap (2 * z))
      simp only [Bool.not_true, cond_false, hz, e2, Option.bind_some]
      exact ⟨_, _, _, rfl, c2⟩
omit hl in
theorem new_d : ∃ h, s_l1New b = some ⟨b, 0, h⟩ := by
  unfold s_l1New
  obtain ⟨s, h1, _⟩ := cnt_inv (f := s_l1New_b0 b) (fun _ _ => True) b.length (s := (IntKind.i64.wrap (560017 + (b.length : Int)))) trivial (fun j s hj _ => by
    have hx : b[j]? = some b[j] := by simp [hj]
    unfold s_l1New_b0
    rw [idx_nat, hx]
    exact ⟨_, rfl, trivial⟩)
  rw [h1]
  exact ⟨s, rfl⟩
theorem chosen_d : ∃ c x a y, s_DrawChosenBy b = some (c, x, a, y) ∧ c.Gates.length ≤ 9 := by
  obtain ⟨h, e0⟩ := new_d (b := b)
  obtain ⟨c, i1, h1, e1, c1, g1⟩ := any_d hl (h := h) (show Cur 0 by unfold Cur; omega)
  obtain ⟨x2, i2, h2, e2, c2⟩ := lit_d hl (h := h1) c1 c
  obtain ⟨x3, i3, h3, e3, c3⟩ := lit_d hl (h := h2) c2 c
  obtain ⟨x4, i4, h4, e4, c4⟩ := lit_d hl (h := h3) c3 c
  unfold s_DrawChosenBy
  simp only [e0, e1, e2, e3, e4, Option.bind_some]
  exact ⟨_, _, _, _, rfl, g1⟩
end
end Go.Proofs.Ythjkonkcdfdfaaa
