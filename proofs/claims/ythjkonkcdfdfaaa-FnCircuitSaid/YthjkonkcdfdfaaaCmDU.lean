/- The draws of FnCircuit. -/
import Derived.Test.YthjkonkcdfdfaaaDrawNU
set_option linter.unusedVariables false
set_option linter.unusedSimpArgs false
namespace Go.Proofs.Ythjkonkcdfdfaaa
open Go Go.Wk Go.Proofs

section
variable {b : List Int} (hl : b.length ≤ 4096)
include hl
theorem sig_d {i h : Int} (hi : Cur i) : ∃ (p : Sig) (i' h' : Int), s_l31DrawSig ⟨b, i, h⟩ = some (p, i', h') ∧ (p.In = 1 ∨ p.In = 2) ∧ (p.Out = 1 ∨ p.Out = 2) ∧ Cur i' := by
  obtain ⟨x1, i1, h1, e1, a0, a1, c1⟩ := below_d hl (h := h) hi 2
  obtain ⟨x2, i2, h2, e2, b0, b1, c2⟩ := below_d hl (h := h1) c1 2
  have a1 := a1 (by omega)
  have b1 := b1 (by omega)
  unfold s_l31DrawSig
  simp only [e1, e2, Option.bind_some]
  rw [wr' (z := 1 + x1) (by omega) (by omega), wr' (z := 1 + x2) (by omega) (by omega)]
  exact ⟨_, _, _, rfl, by dsimp only; omega, by dsimp only; omega, c2⟩
theorem machine_d {p : Sig} (hp : p.In = 1 ∨ p.In = 2) (hq : p.Out = 1 ∨ p.Out = 2) {i h : Int} (hi : Cur i) : ∃ (m : Machine) (i' h' : Int), s_l31DrawMachine ⟨b, i, h⟩ p = some (m, i', h') ∧ Cur i' ∧ 1 ≤ m.Next.length ∧ 1 ≤ m.Out.length ∧ (∀ r ∈ m.Next, 1 ≤ r.length) ∧ (∀ r ∈ m.Out, 1 ≤ r.length) := by
  obtain ⟨x1, i1, h1, e1, a0, a1, c1⟩ := below_d hl (h := h) hi 6
  have a1 := a1 (by omega)
  obtain ⟨n, hn⟩ := ex_nat (z := 1 + x1) (by omega)
  have hpw : ∀ z : Int, z = 1 ∨ z = 2 → s_l31Pow z = some (2 ^ z.toNat) := fun z hz => l31Pow_int (by omega) (by omega)
  have hpI : (2 : Int) ^ p.In.toNat = 2 ∨ (2 : Int) ^ p.In.toNat = 4 := by rcases hp with h | h <;> rw [h] <;> decide
  have hpO : 1 ≤ (2 : Int) ^ p.Out.toNat := by rcases hq with h | h <;> rw [h] <;> decide
  unfold s_l31DrawMachine
  rw [e1, Option.bind_some]
  have hrng : rng (n : Int) = some () := by unfold rng; rw [if_pos (by omega)]
  have hw : IntKind.i64.wrap (1 + x1) = (n : Int) := by rw [wr' (by omega) (by omega), hn]
  dsimp only
  rw [hw, hrng, Option.bind_some, Int.sub_zero, Int.toNat_natCast]
  obtain ⟨s, q1, q2, q3, q4, q5, q6⟩ := cnt_inv (f := s_l31DrawMachine_b0 ⟨b, i, h⟩ p (x1, i1, h1)) (fun j (s : Int × Int × List (List Int) × List (List Int)) => Cur s.1 ∧ s.2.2.1.length = j ∧ s.2.2.2.length = j ∧ (∀ r ∈ s.2.2.1, 1 ≤ r.length) ∧ (∀ r ∈ s.2.2.2, 1 ≤ r.length)) n (s := (i1, h1, [], [])) ⟨c1, rfl, rfl, by simp, by simp⟩ (fun j s hj ⟨k1, k2, k3, k4, k5⟩ => by
    obtain ⟨i2, h2, nx, ot⟩ := s
    dsimp only at k1 k2 k3 k4 k5
    obtain ⟨o, w1, w2⟩ := while_out (f := s_l31DrawMachine_b2 ⟨b, i, h⟩ p (x1, i1, h1)) (fun j (s : List Int × List Int × Int × Int × Int) => s.2.2.1 = (j : Int) ∧ s.1.length = j ∧ s.2.1.length = j ∧ Cur s.2.2.2.1) (fun _ => False) (fun s => 1 ≤ s.1.length ∧ 1 ≤ s.2.1.length ∧ Cur s.2.2.2.1) 4 (fun j s ⟨z1, z2, z3, z4⟩ => by
      obtain ⟨r1, r2, v, i3, h3⟩ := s
      dsimp only at z1 z2 z3 z4
      subst z1
      unfold s_l31DrawMachine_b2
      dsimp only
      rw [hpw _ hp, Option.bind_some]
      by_cases hlt : (j : Int) < 2 ^ p.In.toNat
      · obtain ⟨x3, i4, h4, e3, _, _, c3⟩ := below_d hl (h := h3) z4 (IntKind.i64.wrap (1 + x1))
        obtain ⟨x4, i5, h5, e4, _, _, c4⟩ := below_d hl (h := h4) c3 (2 ^ p.Out.toNat)
        simp only [hlt, decide_true, cond_true, e3, Option.bind_some]
        rw [app1 (by omega) rfl, Option.bind_some, hpw _ hq, Option.bind_some, e4, Option.bind_some, app1 (by omega) rfl]
        refine ⟨_, rfl, by omega, ?_, ?_, ?_, c4⟩
        · dsimp only; rw [wr' (by omega) (by omega)]; omega
        · dsimp only; rw [List.length_append, z2]; rfl
        · dsimp only; rw [List.length_append, z3]; rfl
      · simp only [hlt, decide_false, cond_false]
        exact ⟨_, rfl, by dsimp only; omega, by dsimp only; omega, z4⟩)
      (2 ^ 64) 0 ([], [], 0, i2, h2) (by omega) ⟨rfl, rfl, rfl, k1⟩ (by omega)
    match o, w2 with
    | .inr t, ⟨t1, t2, t3⟩ =>
      unfold s_l31DrawMachine_b0
      dsimp only
      rw [w1, Option.bind_some, aft_inr, app1 (by omega) rfl, Option.bind_some, app1 (by omega) rfl]
      refine ⟨_, rfl, t3, by dsimp only; rw [List.length_append, k2]; rfl, by dsimp only; rw [List.length_append, k3]; rfl, fun r hr => ?_, fun r hr => ?_⟩
      · rcases List.mem_append.1 hr with hr | hr
        · exact k4 r hr
        · rw [List.mem_singleton.1 hr]; exact t1
      · rcases List.mem_append.1 hr with hr | hr
        · exact k5 r hr
        · rw [List.mem_singleton.1 hr]; exact t2)
  rw [q1, Option.bind_some, aft_inr]
  exact ⟨_, _, _, rfl, q2, by dsimp only; omega, by dsimp only; omega, q5, q6⟩
omit hl in
theorem set00 {T : List (List Int)} (h1 : 1 ≤ T.length) (h2 : ∀ r ∈ T, 1 ≤ r.length) (x : Int) : ∃ r y r' T', idx T 0 = some r ∧ idx r 0 = some y ∧ setI r 0 x = some r' ∧ setI T 0 r' = some T' := by
  obtain ⟨r, e1, e2⟩ := get_el (xs := T) (z := 0) (by omega) (by omega)
  have hr := h2 r e2
  obtain ⟨y, e3, _⟩ := get_el (xs := r) (z := 0) (by omega) (by omega)
  exact ⟨r, y, _, _, e1, e3, setI_nat (i := 0) (by omega), setI_nat (i := 0) (by omega)⟩
theorem pair_d {i h : Int} (hi : Cur i) : ∃ (p : Sig) (m : Machine) (i' h' : Int), s_l31DrawPair ⟨b, i, h⟩ = some (p, m, i', h') := by
  obtain ⟨p, i1, h1, e1, p1, p2, c1⟩ := sig_d hl (h := h) hi
  obtain ⟨m, i2, h2, e2, c2, m1, m2, m3, m4⟩ := machine_d hl p1 p2 (h := h1) c1
  obtain ⟨x3, i3, h3, e3, c3⟩ := once_d hl (h := h2) c2 8
  unfold s_l31DrawPair
  simp only [e1, e2, e3, Option.bind_some]
  cases x3 with
  | false => exact ⟨_, _, _, _, rfl⟩
  | true =>
    obtain ⟨x4, i4, h4, e4, _, _, c4⟩ := below_d hl (h := h3) c3 3
    simp only [cond_true, e4, Option.bind_some]
    cases d0 : (x4 == 0) with
    | true =>
      obtain ⟨x5, i5, h5, e5, c5⟩ := num_d hl (h := h4) c4 7
      obtain ⟨r, y, r', T', f1, f2, f3, f4⟩ := set00 m1 m3 x5
      simp only [cond_true, f1, e5, f2, f3, f4, Option.bind_some]
      exact ⟨_, _, _, _, rfl⟩
    | false =>
      cases d1 : (x4 == 1) with
      | true =>
        obtain ⟨x5, i5, h5, e5, c5⟩ := num_d hl (h := h4) c4 4
        obtain ⟨r, y, r', T', f1, f2, f3, f4⟩ := set00 m2 m4 x5
        simp only [cond_true, cond_false, f1, e5, f2, f3, f4, Option.bind_some]
        exact ⟨_, _, _, _, rfl⟩
      | false =>
        cases d2 : (x4 == 2) with
        | true =>
          obtain ⟨x5, i5, h5, e5, _, _, c5⟩ := below_d hl (h := h4) c4 (IntKind.i64.wrap (IntKind.i64.wrap (3 - 0) + 1))
          have e6 : s_l1From ⟨b, i4, h4⟩ 0 3 = some (IntKind.i64.wrap (0 + x5), i5, h5) := by
            unfold s_l1From
            rw [e5]
            rfl
          simp only [cond_true, cond_false, e6, Option.bind_some]
          exact ⟨_, _, _, _, rfl⟩
        | false =>
          simp only [cond_false, Option.bind_some]
          exact ⟨_, _, _, _, rfl⟩
theorem circuitOf_d : ∃ (p : Sig) (m : Machine), s_DrawCircuitOf b = some (p, m) := by
  obtain ⟨h, e0⟩ : ∃ h, s_l1New b = some ⟨b, 0, h⟩ := by
    unfold s_l1New
    obtain ⟨s, h1, _⟩ := cnt_inv (f := s_l1New_b0 b) (fun _ _ => True) b.length (s := (IntKind.i64.wrap (560017 + (b.length : Int)))) trivial (fun j s hj _ => by
      have hx : b[j]? = some b[j] := by simp [hj]
      unfold s_l1New_b0
      rw [idx_nat, hx]
      exact ⟨_, rfl, trivial⟩)
    rw [h1]
    exact ⟨s, rfl⟩
  obtain ⟨p, m, i', h', e1⟩ := pair_d hl (h := h) (show Cur 0 by unfold Cur; omega)
  unfold s_DrawCircuitOf
  rw [e0, Option.bind_some, e1]
  exact ⟨p, m, rfl⟩
end
/-! the dice -/
theorem and24 (A : BitVec (IntKind.bits IntKind.u64)) : 0 ≤ IntKind.i64.wrap (IntKind.u64.wrap ((A &&& BitVec.ofInt (IntKind.bits IntKind.u64) 16777215).toNat : Int)) ∧ IntKind.i64.wrap (IntKind.u64.wrap ((A &&& BitVec.ofInt (IntKind.bits IntKind.u64) 16777215).toNat : Int)) ≤ 16777215 := by
  have h : (A &&& BitVec.ofInt (IntKind.bits IntKind.u64) 16777215).toNat ≤ 16777215 := by
    rw [BitVec.toNat_and]
    exact Nat.le_trans Nat.and_le_right (by decide)
  have e : IntKind.u64.wrap ((A &&& BitVec.ofInt (IntKind.bits IntKind.u64) 16777215).toNat : Int) = ((A &&& BitVec.ofInt (IntKind.bits IntKind.u64) 16777215).toNat : Int) := by rw [IntKind.wrap_u64]; omega
  rw [e, wr' (by omega) (by omega)]
  omega
section
variable {b : List Int} (hl : b.length ≤ 4096) (hb : ∀ x ∈ b, U8 x)
include hl hb
theorem dice_d {i h : Int} (hi : Cur i) {n : Int} (n1 : 1 ≤ n) : ∃ x i' h', l_dice_below ⟨b, i, h⟩ n = some (x, i', h') ∧ 0 ≤ x ∧ x < n ∧ Cur i' := by
  obtain ⟨i0, i1⟩ := hi
  have hnz : nz n = some () := by unfold nz; rw [if_neg (by omega)]
  unfold l_dice_below
  dsimp only
  have key := and24 (BitVec.ofInt (IntKind.bits IntKind.u64) (Int.fdiv (IntKind.u64.wrap (IntKind.u64.wrap (h * 6364136223846793005) + 1442695040888963407)) (2 ^ (min (Int.toNat 33) (IntKind.bits IntKind.u64)))))
  by_cases hlt : i < (b.length : Int)
  · obtain ⟨y, hy, hym⟩ := get_el (xs := b) i0 hlt
    have hu := hb y hym
    unfold U8 at hu
    simp only [hlt, decide_true, cond_true, hy, Option.bind_some, hnz]
    rw [wr' (z := y) (by omega) (by omega), wr' (z := i + 1) (by omega) (by omega), wr' (by omega) (by omega), Int.tmod_eq_emod_of_nonneg (by omega)]
    exact ⟨_, _, _, rfl, Int.emod_nonneg _ (by omega), Int.emod_lt_of_pos _ (by omega), by unfold Cur; omega⟩
  · simp only [hlt, decide_false, cond_false, Option.bind_some, hnz]
    rw [Int.tmod_eq_emod_of_nonneg key.1]
    exact ⟨_, _, _, rfl, Int.emod_nonneg _ (by omega), Int.emod_lt_of_pos _ (by omega), by unfold Cur; omega⟩
omit hl hb in
theorem roll_d (k : Int) : ∃ h, l_roll b k = some ⟨b, 0, h⟩ := by
  unfold l_roll
  obtain ⟨s, h1, _⟩ := cnt_inv (f := l_roll_b0 b) (fun _ _ => True) b.length (s := (IntKind.u64.wrap (IntKind.u64.wrap (k * 7919) + IntKind.u64.wrap (b.length : Int)))) trivial (fun j s hj _ => by
    have hx : b[j]? = some b[j] := by simp [hj]
    unfold l_roll_b0
    rw [idx_nat, hx]
    exact ⟨_, rfl, trivial⟩)
  rw [h1]
  exact ⟨s, rfl⟩
end
end Go.Proofs.Ythjkonkcdfdfaaa
