/- ChosenBy: the law. -/
import Derived.Test.YtgniipbjjkodaaaChosenByC14
set_option linter.unusedVariables false
set_option linter.unusedSimpArgs false
namespace Go.Proofs.Ytgniipbjjkodaaa
open Go Go.Wk Go.Proofs
theorem ChosenBy_same (c : Circuit) (x a b : Int) : ∃ r y, s_ChosenBy c x a b = some (r, y) ∧ i_ChosenBy c x a b = some (r, y) ∧ (r = zeroC ∨ r.Next.length ≤ 6 ∧ r.Gates.length ≤ 8000 ∧ r.Outs.length ≤ 4) := by
  unfold s_ChosenBy i_ChosenBy
  rw [s_CircuitOk_eq, i_isCircuit_eq, Option.bind_some, Option.bind_some]
  cases hc : circOk c with
  | false => exact ⟨zeroC, -1, rfl, rfl, .inl rfl⟩
  | true =>
    obtain ⟨hh, _⟩ := circOk_spec hc
    have hb := circHead_in hh
    have hs := sigs_in hh
    simp only [Bool.not_true, cond_false, s_l31Signals_eq hh, s_l31Literals_eq _ (show 0 ≤ sigs c by omega) (by omega), i_isLiteral_eq hh, Option.bind_some, orE, List.all_cons, List.all_nil, Bool.and_true]
    cases hx : inR (2 * sigs c) x with
    | false => exact ⟨zeroC, -1, rfl, rfl, .inl rfl⟩
    | true =>
      cases ha : inR (2 * sigs c) a with
      | false => exact ⟨zeroC, -1, rfl, rfl, .inl rfl⟩
      | true =>
        cases hb' : inR (2 * sigs c) b with
        | false => exact ⟨zeroC, -1, rfl, rfl, .inl rfl⟩
        | true =>
          obtain ⟨x0, x1⟩ := inR_iff.1 hx
          obtain ⟨a0, a1⟩ := inR_iff.1 ha
          obtain ⟨b0, b1⟩ := inR_iff.1 hb'
          obtain ⟨kn, k1, k2⟩ := newBuilder_eq hc
          obtain ⟨y, G, fl, kn', j1, j2, j3, j4, j5, j6, j7⟩ := choose_same hh k2 x0 x1 a0 a1 b0 b1 false
          rw [s_l31Copy_eq hh, k1]
          simp only [Bool.and_self, Bool.not_true, Bool.or_self, cond_false, Option.bind_some, j1]
          rcases j7 with ⟨rfl, j8⟩ | ⟨rfl, j8⟩
          · rw [j8]
            exact ⟨withG c G, y, rfl, rfl, .inr ⟨by show c.Next.length ≤ 6; omega, j2, by show c.Outs.length ≤ 4; omega⟩⟩
          · rw [j8]
            exact ⟨zeroC, -1, rfl, rfl, .inl rfl⟩
theorem circ_bds {r : Circuit} (h : r = zeroC ∨ r.Next.length ≤ 6 ∧ r.Gates.length ≤ 8000 ∧ r.Outs.length ≤ 4) : ((ctL (fun _ => 1)) r.Next : Nat) ≤ 1000000000000000 ∧ ((ctL (fun _ => 2)) r.Gates : Nat) ≤ 1000000000000000 ∧ ((ctL (fun _ => 1)) r.Outs : Nat) ≤ 1000000000000000 := by
  rcases h with rfl | ⟨h1, h2, h3⟩
  · exact ⟨by decide, by decide, by decide⟩
  · have := ctL_bd (c := fun _ : Gate => 2) (N := 8000) (M := 2) (xs := r.Gates) h2 (fun _ _ => Nat.le_refl 2)
    rw [ctL_one, ctL_one]
    omega
theorem FnExactChosenBy_law {p0 : Circuit} (ok0 : Circuit.ok p0) {p1 : Int} (ok1 : I64 p1) {p2 : Int} (ok2 : I64 p2) {p3 : Int} (ok3 : I64 p3) : l_FnExactChosenBy p0 p1 p2 p3 = some true :=
  FnExactChosenBy_of ok0 ok1 ok2 ok3 fun _ => by
    obtain ⟨r, x, h1, h2, h3⟩ := ChosenBy_same p0 p1 p2 p3
    obtain ⟨c1, c2, c3⟩ := circ_bds h3
    exact ⟨r, x, h1, h2, c1, c2, c3⟩
end Go.Proofs.Ytgniipbjjkodaaa
