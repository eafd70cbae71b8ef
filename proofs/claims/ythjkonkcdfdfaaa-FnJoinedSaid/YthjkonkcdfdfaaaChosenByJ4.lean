/- ChosenBy: the law. -/
import Derived.Test.YthjkonkcdfdfaaaJoinUJ4
set_option linter.unusedVariables false
set_option linter.unusedSimpArgs false
namespace Go.Proofs.Ythjkonkcdfdfaaa
open Go Go.Wk Go.Proofs
/-- a choice, by both -/
theorem choose_same {c : Circuit} (hh : circHead c = true) {kn : List (Gate × Int)} (hk : Known (base c) c.Gates kn) {x a b : Int} (x0 : 0 ≤ x) (x1 : x < 2 * sigs c) (a0 : 0 ≤ a) (a1 : a < 2 * sigs c) (b0 : 0 ≤ b) (b1 : b < 2 * sigs c) (f : Bool) :
    ∃ y G fl kn', i_builder_choose ⟨c, f, kn⟩ x a b = some (y, G, fl, kn') ∧ G.length ≤ 8000 ∧ c.Gates.length ≤ G.length ∧ 0 ≤ y ∧ y < 2 * (base c + G.length) ∧ Known (base c) G kn' ∧
      ((fl = f ∧ s_l31Choose c x a b = some (withG c G, y)) ∨ (fl = true ∧ s_l31Choose c x a b = some (zeroC, -1))) := by
  have hb := circHead_in hh
  have hs := sigs_in hh
  have hsg : sigs c = base c + c.Gates.length := rfl
  unfold i_builder_choose s_l31Choose
  cases e1 : (a == b) with
  | true => exact ⟨a, c.Gates, f, kn, rfl, by omega, Nat.le_refl _, a0, by omega, hk, .inl ⟨rfl, rfl⟩⟩
  | false =>
    simp only [cond_false]
    obtain ⟨tx0, tx1⟩ := turn_in x0 x1
    obtain ⟨q, G1, f1, kn1, j1, j2, j3, j4, j5, j6, j7⟩ := join_same hh (f := f) hk x0 x1 a0 a1
    obtain ⟨h1, s1⟩ := head_with hh j2
    obtain ⟨r, G2, f2, kn2, l1, l2, l3, l4, l5, l6, l7⟩ := join_same h1 (f := f1) j6 tx0 (by omega : turn x < 2 * sigs (withG c G1)) b0 (by omega : b < 2 * sigs (withG c G1))
    have l3' : G1.length ≤ G2.length := l3
    have l5' : r < 2 * (base c + G2.length) := l5
    obtain ⟨h2, s2⟩ := head_with hh l2
    obtain ⟨tq0, tq1⟩ := turn_in j4 (n := base c + G2.length) (by omega)
    obtain ⟨tr0, tr1⟩ := turn_in l4 (n := base c + G2.length) (by omega)
    obtain ⟨p, G3, f3, kn3, m1, m2, m3, m4, m5, m6, m7⟩ := join_same h2 (f := f2) l6 tq0 (by omega : turn q < 2 * sigs (withG c G2)) tr0 (by omega : turn r < 2 * sigs (withG c G2))
    have m3' : G2.length ≤ G3.length := m3
    have m5' : p < 2 * (base c + G3.length) := m5
    have bq : q < 1000000 := by unfold base at j5; omega
    have br : r < 1000000 := by unfold base at l5'; omega
    have bp : p < 1000000 := by unfold base at m5'; omega
    obtain ⟨tp0, tp1⟩ := turn_in m4 (n := base c + G3.length) (by omega)
    rw [j1, Option.bind_some]
    dsimp only
    rw [i_turn x0 (by omega)]
    rw [show (⟨⟨c.Inputs, c.Latches, c.Next, G1, c.Outs⟩, f1, kn1⟩ : builder) = ⟨withG c G1, f1, kn1⟩ from rfl, l1, Option.bind_some]
    dsimp only
    rw [i_turn j4 bq, i_turn l4 br, show (⟨⟨c.Inputs, c.Latches, c.Next, G2, c.Outs⟩, f2, kn2⟩ : builder) = ⟨withG c G2, f2, kn2⟩ from rfl, m1, Option.bind_some]
    dsimp only
    rw [i_turn m4 bp]
    refine ⟨turn p, G3, f3, kn3, rfl, m2, by omega, tp0, tp1, m6, ?_⟩
    have hneg : ∀ {z : Int}, 0 ≤ z → decide (z < 0) = false := fun h => decide_eq_false (by omega)
    rcases j7 with ⟨e2, j8⟩ | ⟨e2, j8⟩
    · rw [j8, Option.bind_some]
      simp only [hneg j4, cond_false, s_l31Turn_eq x0 (by omega : x < 1000000), Option.bind_some]
      rcases l7 with ⟨e3, l8⟩ | ⟨e3, l8⟩
      · rw [l8, Option.bind_some]
        simp only [hneg l4, cond_false, s_l31Turn_eq j4 bq, s_l31Turn_eq l4 br, Option.bind_some]
        rw [show withG (withG c G1) G2 = withG c G2 from rfl]
        rcases m7 with ⟨e4, m8⟩ | ⟨e4, m8⟩
        · rw [m8, Option.bind_some]
          simp only [hneg m4, cond_false, s_l31Turn_eq m4 bp, Option.bind_some]
          exact .inl ⟨by rw [e4, e3, e2], rfl⟩
        · rw [m8]
          exact .inr ⟨e4, rfl⟩
      · rw [l8]
        refine .inr ⟨?_, rfl⟩
        rcases m7 with ⟨e4, _⟩ | ⟨e4, _⟩
        · rw [e4, e3]
        · exact e4
    · rw [j8]
      refine .inr ⟨?_, rfl⟩
      rcases m7 with ⟨e4, _⟩ | ⟨e4, _⟩
      · rcases l7 with ⟨e3, _⟩ | ⟨e3, _⟩
        · rw [e4, e3, e2]
        · rw [e4, e3]
      · exact e4
end Go.Proofs.Ythjkonkcdfdfaaa
