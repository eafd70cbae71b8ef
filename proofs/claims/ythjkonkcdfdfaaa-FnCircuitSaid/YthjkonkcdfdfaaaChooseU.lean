/- Joins and choices with room for more gates. -/
import Derived.Test.YthjkonkcdfdfaaaJoinU
set_option linter.unusedVariables false
set_option linter.unusedSimpArgs false
namespace Go.Proofs.Ythjkonkcdfdfaaa
open Go Go.Wk Go.Proofs

theorem join_ok {c : Circuit} (hh : Head c) {f : Bool} {kn : List (Gate × Int)} (hk : Known (base c) c.Gates kn) {a b : Int} (a0 : 0 ≤ a) (a1 : a < 2 * sigs c) (b0 : 0 ≤ b) (b1 : b < 2 * sigs c) (hl : c.Gates.length < 8000) :
    ∃ x G kn', i_builder_join ⟨c, f, kn⟩ a b = some (x, G, f, kn') ∧ s_l31Join c a b = some (withG c G, x) ∧ c.Gates.length ≤ G.length ∧ G.length ≤ c.Gates.length + 1 ∧ 0 ≤ x ∧ x < 2 * (base c + G.length) ∧ Known (base c) G kn' := by
  obtain ⟨x, G, fl, kn', j1, j2, j3, j4, j5, j6, j7, j8⟩ := join_head hh (f := f) hk a0 a1 b0 b1
  obtain ⟨rfl, j9⟩ := j7.resolve_right fun hz => by have := hz.2.2; omega
  refine ⟨x, G, kn', j1, j9, j3, ?_, j4, j5, j6⟩
  rcases j8 with rfl | rfl
  · omega
  · rw [List.length_append]; simp
/-- a choice, by both -/
theorem choose_ok {c : Circuit} (hh : Head c) {kn : List (Gate × Int)} (hk : Known (base c) c.Gates kn) {x a b : Int} (x0 : 0 ≤ x) (x1 : x < 2 * sigs c) (a0 : 0 ≤ a) (a1 : a < 2 * sigs c) (b0 : 0 ≤ b) (b1 : b < 2 * sigs c) (f : Bool) (hl : c.Gates.length + 3 ≤ 8000) :
    ∃ y G kn', i_builder_choose ⟨c, f, kn⟩ x a b = some (y, G, f, kn') ∧ s_l31Choose c x a b = some (withG c G, y) ∧ c.Gates.length ≤ G.length ∧ G.length ≤ c.Gates.length + 3 ∧ 0 ≤ y ∧ y < 2 * (base c + G.length) ∧ Known (base c) G kn' := by
  have hb := hh
  unfold Head at hb
  have hs := hh.sig
  have hsg : sigs c = base c + c.Gates.length := rfl
  unfold i_builder_choose s_l31Choose
  cases e1 : (a == b) with
  | true => exact ⟨a, c.Gates, kn, rfl, rfl, Nat.le_refl _, by omega, a0, by omega, hk⟩
  | false =>
    simp only [cond_false]
    obtain ⟨tx0, tx1⟩ := turn_in x0 x1
    obtain ⟨q, G1, kn1, j1, j2, j3, j3', j4, j5, j6⟩ := join_ok hh (f := f) hk x0 x1 a0 a1 (by omega)
    obtain ⟨h1, s1⟩ := hh.wth (G := G1) (by omega)
    obtain ⟨r, G2, kn2, l1, l2, l3, l3', l4, l5, l6⟩ := join_ok h1 (f := f) j6 tx0 (by omega : turn x < 2 * sigs (withG c G1)) b0 (by omega : b < 2 * sigs (withG c G1)) (by show G1.length < 8000; omega)
    have l3 : G1.length ≤ G2.length := l3
    have l3' : G2.length ≤ G1.length + 1 := l3'
    have l5 : r < 2 * (base c + G2.length) := l5
    obtain ⟨h2, s2⟩ := hh.wth (G := G2) (by omega)
    obtain ⟨tq0, tq1⟩ := turn_in j4 (n := base c + G2.length) (by omega)
    obtain ⟨tr0, tr1⟩ := turn_in l4 (n := base c + G2.length) (by omega)
    obtain ⟨p, G3, kn3, m1, m2, m3, m3', m4, m5, m6⟩ := join_ok h2 (f := f) l6 tq0 (by omega : turn q < 2 * sigs (withG c G2)) tr0 (by omega : turn r < 2 * sigs (withG c G2)) (by show G2.length < 8000; omega)
    have m3 : G2.length ≤ G3.length := m3
    have m3' : G3.length ≤ G2.length + 1 := m3'
    have m5 : p < 2 * (base c + G3.length) := m5
    have hbs : base c ≤ 11 := by unfold base; omega
    have bq : q < 1000000 := by omega
    have br : r < 1000000 := by omega
    have bp : p < 1000000 := by omega
    obtain ⟨tp0, tp1⟩ := turn_in m4 (n := base c + G3.length) (by omega)
    have hneg : ∀ {z : Int}, 0 ≤ z → decide (z < 0) = false := fun h => decide_eq_false (by omega)
    refine ⟨turn p, G3, kn3, ?_, ?_, by omega, by omega, tp0, tp1, m6⟩
    · rw [j1, Option.bind_some]
      dsimp only
      rw [i_turn x0 (by omega)]
      rw [show (⟨⟨c.Inputs, c.Latches, c.Next, G1, c.Outs⟩, f, kn1⟩ : builder) = ⟨withG c G1, f, kn1⟩ from rfl, l1, Option.bind_some]
      dsimp only
      rw [i_turn j4 bq, i_turn l4 br, show (⟨⟨c.Inputs, c.Latches, c.Next, G2, c.Outs⟩, f, kn2⟩ : builder) = ⟨withG c G2, f, kn2⟩ from rfl, m1, Option.bind_some]
      dsimp only
      rw [i_turn m4 bp]
    · rw [j2, Option.bind_some]
      simp only [hneg j4, cond_false, s_l31Turn_eq x0 (by omega : x < 1000000), Option.bind_some]
      rw [l2, Option.bind_some]
      simp only [hneg l4, cond_false, s_l31Turn_eq j4 bq, s_l31Turn_eq l4 br, Option.bind_some]
      rw [show withG (withG c G1) G2 = withG c G2 from rfl, m2, Option.bind_some]
      simp only [hneg m4, cond_false, s_l31Turn_eq m4 bp, Option.bind_some]
      rfl
end Go.Proofs.Ythjkonkcdfdfaaa
