/- SameRival: both sides compute the same. -/
import Derived.Test.YtgniipbjjkodaaaRivalC3
set_option linter.unusedVariables false
set_option linter.unusedSimpArgs false
namespace Go.Proofs.Ytgniipbjjkodaaa
open Go Go.Wk Go.Proofs

theorem s_l1Same_eq (p0 p1 : List Int) : s_l1Same p0 p1 = some (decide (p0 = p1)) := slices_Equal_I_int64_eq p0 p1
theorem equalFunc_eq (p0 p1 : List (List Int)) : slices_EqualFunc_I_I_I_I__slices_Equal_I_int64 p0 p1 = some (decide (p0 = p1)) := by
  unfold slices_EqualFunc_I_I_I_I__slices_Equal_I_int64
  rw [len_ne]
  by_cases h : p0.length = p1.length
  · simp only [h, decide_true, Bool.not_true, cond_false]
    rw [show p1.length = p0.length from h.symm, cnt_two (f := slices_EqualFunc_I_I_I_I__slices_Equal_I_int64_b0 p0 p1) (r := false) (fun x y => decide (x = y)) h (fun i x y hx hy => by
      unfold slices_EqualFunc_I_I_I_I__slices_Equal_I_int64_b0
      rw [idx_nat, hx, Option.bind_some, idx_nat, hy, Option.bind_some, slices_Equal_I_int64_eq, Option.bind_some]
      by_cases e : x = y
      · subst e; simp
      · simp [e]), zip_all_eq h]
    by_cases e : p0 = p1
    · simp [e, aft]
    · simp [e, aft]
  · have : ¬ (p0 = p1) := fun e => h (by rw [e])
    simp [h, this]
theorem s_SameRival_eq (p : Sig) (a b : Rival) (ha : a.In.length ≤ 1048576) (hb : b.In.length ≤ 1048576) : s_SameRival p a b = some (sigOk p && rivalOk p a && rivalOk p b && decide (a.In = b.In) && decide (a.Next = b.Next)) := by
  unfold s_SameRival
  rw [s_RivalOk_eq p a ha, s_RivalOk_eq p b hb, Option.bind_some, Option.bind_some, s_l1Same_eq, Option.bind_some]
  cases hs : sigOk p with
  | false => simp
  | true =>
    cases h1 : rivalOk p a with
    | false => simp
    | true =>
      cases h2 : rivalOk p b with
      | false => simp
      | true =>
        by_cases h3 : a.In = b.In
        · simp only [h3, decide_true, Bool.not_true, Bool.and_self, cond_false, Option.bind_some, Bool.true_and]
          obtain ⟨_, _, i1, _⟩ := rivalOk_spec h1
          obtain ⟨_, _, i2, _⟩ := rivalOk_spec h2
          have hl : a.Next.length = b.Next.length := by rw [i1, i2, h3]
          rw [cnt_two (f := s_SameRival_b0 a b) (r := false) (fun x y => decide (x = y)) hl (fun i x y hx hy => by
            unfold s_SameRival_b0
            rw [idx_nat, hx, Option.bind_some, idx_nat, hy, Option.bind_some, s_l1Same_eq, Option.bind_some]
            by_cases e : x = y
            · subst e; simp
            · simp [e]), zip_all_eq hl]
          by_cases e : a.Next = b.Next
          · simp [e, aft]
          · simp [e, aft]
        · simp [h3]
theorem i_SameRival_eq (p : Sig) (a b : Rival) : i_SameRival p a b = some (sigOk p && rivalOk p a && rivalOk p b && decide (a.In = b.In) && decide (a.Next = b.Next)) := by
  unfold i_SameRival
  rw [i_isSig_eq, Option.bind_some]
  cases hs : sigOk p with
  | false => simp
  | true =>
    rw [i_isRival_eq p a hs, i_isRival_eq p b hs, slices_Equal_I_int64_eq, equalFunc_eq]
    cases rivalOk p a <;> cases rivalOk p b <;> by_cases h3 : a.In = b.In <;> simp [h3]
theorem FnExactSameRival_law {p0 : Sig} {p1 p2 : Rival} (ok0 : Sig.ok p0) (ok1 : Rival.ok p1) (ok2 : Rival.ok p2) : l_FnExactSameRival p0 p1 p2 = some true :=
  FnExactSameRival_of ok0 ok1 ok2 fun b1 b2 => ⟨_, s_SameRival_eq p0 p1 p2 b1.1.1 b2.1.1, i_SameRival_eq p0 p1 p2⟩
end Go.Proofs.Ytgniipbjjkodaaa
