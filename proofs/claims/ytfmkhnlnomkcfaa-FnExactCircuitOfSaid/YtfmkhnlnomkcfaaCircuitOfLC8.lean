/- CircuitOf: the law. -/
import Derived.Test.YtfmkhnlnomkcfaaCircuitOfC8
set_option linter.unusedVariables false
set_option linter.unusedSimpArgs false
namespace Go.Proofs.Ytfmkhnlnomkcfaa
open Go Go.Wk Go.Proofs

/-- the state of the one loop of the one side -/
abbrev St8 := List Int × List Int × Int × Int × Int × List Int × List Gate × List Int
section
variable {p : Sig} {m : Machine} (hs : sigOk p = true) (hm : machOk p m = true) {I L w : Nat} (hI : p.In = (I : Int)) (hI2 : I ≤ 2) (hL : L ≤ 6) (hw : pw p.In = (w : Int)) (hwI : 2 ^ I = w)
include hs hm hI hI2 hL hw hwI
omit hs hI hI2 in
theorem tbl_next {j : Nat} (hj : j < L) (xs ys : List Int) (G : List Gate) : cntM (s_CircuitOf_b4 m (w : Int) (xs, ys, (j : Int), (I : Int), (L : Int), [], G, [])) (2 ^ L) 0 [] = some (.inr (bits m.Next m.Next.length w j (2 ^ L * w))) := by
  obtain ⟨n1, n2, n3, n4, n5⟩ := machOk_spec hm
  have pI := pw_le p.In
  rw [hw] at n4
  refine s_bits n4 n1 (by omega) (by omega) hL (by omega) (G := fun q => s_CircuitOf_b6 m (xs, ys, (j : Int), (I : Int), (L : Int), [], G, []) q) (fun v s => rfl) fun q i s row x r1 r2 x0 x1 hsl => ?_
  have hlt : (j : Int) < (L : Int) := by omega
  have hp := pow_in (j := j) (by omega)
  have hd : 0 ≤ x / 2 ^ j ∧ x / 2 ^ j ≤ x := ⟨Int.ediv_nonneg x0 (by omega), Int.ediv_le_self _ x0⟩
  show s_CircuitOf_b6 m (xs, ys, (j : Int), (I : Int), (L : Int), [], G, []) q (i : Int) s = _
  unfold s_CircuitOf_b6
  dsimp only
  simp only [hlt, decide_true, cond_true, r1, r2, l31Pow_eq (by omega : j ≤ 40), nz_pow (by omega : j ≤ 40), Option.bind_some]
  rw [tdiv_pos x0, wr' (z := x / 2 ^ j) (by omega) (by omega), Int.tmod_eq_emod_of_nonneg hd.1, app1 (by omega) rfl]
  rfl
omit hs hI hI2 in
theorem tbl_out {j : Nat} (hj : j ≤ 2) (xs ys : List Int) (G : List Gate) : cntM (s_CircuitOf_b4 m (w : Int) (xs, ys, ((L + j : Nat) : Int), (I : Int), (L : Int), [], G, [])) (2 ^ L) 0 [] = some (.inr (bits m.Out m.Next.length w j (2 ^ L * w))) := by
  obtain ⟨n1, n2, n3, n4, n5⟩ := machOk_spec hm
  have pI := pw_le p.In
  have pO := pw_le p.Out
  rw [hw] at n5
  rw [← n3]
  refine s_bits n5 (by omega) (by omega) (by omega) hL (by omega) (G := fun q => s_CircuitOf_b6 m (xs, ys, ((L + j : Nat) : Int), (I : Int), (L : Int), [], G, []) q) (fun v s => by unfold s_CircuitOf_b4; rw [n3]) fun q i s row x r1 r2 x0 x1 hsl => ?_
  have hlt : ¬ ((L + j : Nat) : Int) < (L : Int) := by omega
  have hp := pow_in (j := j) (by omega)
  have hd : 0 ≤ x / 2 ^ j ∧ x / 2 ^ j ≤ x := ⟨Int.ediv_nonneg x0 (by omega), Int.ediv_le_self _ x0⟩
  have hsub : IntKind.i64.wrap (((L + j : Nat) : Int) - (L : Int)) = (j : Int) := by rw [wr' (by omega) (by omega)]; omega
  show s_CircuitOf_b6 m (xs, ys, ((L + j : Nat) : Int), (I : Int), (L : Int), [], G, []) q (i : Int) s = _
  unfold s_CircuitOf_b6
  dsimp only
  simp only [hlt, decide_false, cond_false, r1, r2, hsub, l31Pow_eq (by omega : j ≤ 40), nz_pow (by omega : j ≤ 40), Option.bind_some]
  rw [tdiv_pos x0, wr' (z := x / 2 ^ j) (by omega) (by omega), Int.tmod_eq_emod_of_nonneg hd.1, app1 (by omega) rfl]
  rfl
omit hm hI hw hwI in
theorem s_step {k : Nat} (hk : (k : Int) < (L : Int) + p.Out) {bs : List Bool} {xs ys : List Int} {G G' : List Gate} {y : Int} (hb : cntM (s_CircuitOf_b4 m (w : Int) (xs, ys, (k : Int), (I : Int), (L : Int), [], G, [])) (2 ^ L) 0 [] = some (.inr bs))
    (ht : s_l31Table (2 ^ 64) (grow2 I L G) bs ((I + L : Nat) : Int) = some (grow2 I L G', y)) (hx : xs.length ≤ 100) (hy : ys.length ≤ 100) :
    s_CircuitOf_b2 p m (w : Int) ((2 ^ L : Nat) : Int) (xs, ys, (k : Int), (I : Int), (L : Int), [], G, []) = some (.inr (.inr ((if (k : Int) < (L : Int) then xs ++ [y] else xs), (if (k : Int) < (L : Int) then ys else ys ++ [y]), ((k + 1 : Nat) : Int), (I : Int), (L : Int), [], G', []))) := by
  obtain ⟨_, ho⟩ := sigOk_in hs
  have hz : 2 ^ L ≤ 2 ^ 6 := Nat.pow_le_pow_right (by omega) hL
  have c1 : (k : Int) < IntKind.i64.wrap ((L : Int) + p.Out) := by rw [wr' (by omega) (by omega)]; exact hk
  have hrng : rng ((2 ^ L : Nat) : Int) = some () := by unfold rng; rw [if_pos (by omega)]
  have hw1 : IntKind.i64.wrap ((I : Int) + (L : Int)) = ((I + L : Nat) : Int) := by rw [wr' (by omega) (by omega)]; omega
  have hw2 : IntKind.i64.wrap ((k : Int) + 1) = ((k + 1 : Nat) : Int) := by rw [wr' (by omega) (by omega)]; omega
  unfold s_CircuitOf_b2
  dsimp only
  simp only [c1, decide_true, cond_true, hrng, Option.bind_some, Int.sub_zero, Int.toNat_natCast, hw1, hw2]
  rw [hb, Option.bind_some, aft_inr, show (⟨(I : Int), (L : Int), [], G, []⟩ : Circuit) = grow2 I L G from rfl, ht, Option.bind_some]
  rw [show (grow2 (I : Int) (L : Int) G').Latches = (L : Int) from rfl]
  by_cases h : (k : Int) < (L : Int)
  · simp only [h, decide_true, cond_true, if_true]
    rw [app1 (by omega) rfl]; rfl
  · simp only [h, decide_false, cond_false, if_false]
    rw [app1 (by omega) rfl]; rfl
omit hI in
theorem both (Z : List Int) : ∃ xs ys G, whileM (s_CircuitOf_b2 p m (w : Int) ((2 ^ L : Nat) : Int)) (2 ^ 64) ([], [], 0, (I : Int), (L : Int), [], [], []) = some (.inr (xs, ys, (L : Int) + p.Out, (I : Int), (L : Int), [], G, [])) ∧
    (∃ G0 kn0, cntM (i_CircuitOf_b2 m (w : Int) (L : Int) ⟨⟨(I : Int), (L : Int), Z, [], []⟩, false, []⟩) L 0 ([], [], false, []) = some (.inr (xs, G0, false, kn0)) ∧
      ∃ kn, cntM (i_CircuitOf_b4 m (w : Int) (L : Int) ⟨⟨(I : Int), (L : Int), Z, [], []⟩, false, []⟩) p.Out.toNat 0 ([], G0, false, kn0) = some (.inr (ys, G, false, kn))) ∧ xs.length = L ∧ ys.length ≤ 2 ∧ G.length ≤ 8000 := by
  obtain ⟨n1, n2, n3, n4, n5⟩ := machOk_spec hm
  obtain ⟨_, ho⟩ := sigOk_in hs
  have pI := pw_le p.In
  have pO := pw_le p.Out
  rw [hw] at n4 n5
  have hbl : ∀ T k, (bits T m.Next.length w k (2 ^ L * w)).length = 2 ^ (I + L) := fun T k => by
    rw [bits_len, ← hwI, Nat.pow_add, Nat.mul_comm]
  obtain ⟨O, hO⟩ := ex_nat (z := p.Out) (by omega)
  have hO2 : O ≤ 2 := by omega
  -- the next states
  obtain ⟨s1, t1, e1, e2, xs, G0, kn0, rfl, rfl, k0, g0, l0⟩ := cnt_skip (f := i_CircuitOf_b2 m (w : Int) (L : Int) ⟨⟨(I : Int), (L : Int), Z, [], []⟩, false, []⟩) (g := s_CircuitOf_b2 p m (w : Int) ((2 ^ L : Nat) : Int)) (fun j s t => ∃ xs G kn, s = (xs, G, false, kn) ∧ t = (xs, [], (j : Int), (I : Int), (L : Int), [], G, []) ∧ Known (1 + (I : Int) + L) G kn ∧ G.length ≤ 765 * j ∧ xs.length = j) L
    (fun j s t hj ⟨xs, G, kn, h1, h2, hk, hG, hx⟩ => by
      subst h1 h2
      obtain ⟨y, G', kn', a1, a2, a3, a4⟩ := one_table (I := I) (L := L) hI2 hL hk (hbl m.Next j) (by omega)
      have b1 := s_step hs hI2 hL (k := j) (by omega) (tbl_next hm hL hw hwI hj xs [] G) a1 (by omega) (by simp)
      have hjl : (j : Int) < (L : Int) := by omega
      rw [if_pos hjl, if_pos hjl] at b1
      refine ⟨_, _, ?_, b1, xs ++ [y], G', kn', rfl, rfl, a4, by omega, by rw [List.length_append, hx]; rfl⟩
      unfold i_CircuitOf_b2
      rw [i_bits n4 n1 (by omega) (by omega) (by omega) hL (by omega), Option.bind_some]
      dsimp only
      rw [lit_indep, show (⟨⟨(I : Int), (L : Int), [], G, []⟩, false, kn⟩ : builder) = ⟨grow2 I L G, false, kn⟩ from rfl, a2, Option.bind_some, app1 (by omega) rfl]
      rfl)
    L 0 ([], [], false, []) ([], [], 0, (I : Int), (L : Int), [], [], []) (2 ^ 64 - L) (by omega) ⟨[], [], [], rfl, rfl, fun g => rfl, by simp, rfl⟩
  -- the outputs
  obtain ⟨s2, t2, e3, e4, ys, G, kn, rfl, rfl, k1, g1, l1⟩ := cnt_skip (f := i_CircuitOf_b4 m (w : Int) (L : Int) ⟨⟨(I : Int), (L : Int), Z, [], []⟩, false, []⟩) (g := s_CircuitOf_b2 p m (w : Int) ((2 ^ L : Nat) : Int)) (fun j s t => ∃ ys G kn, s = (ys, G, false, kn) ∧ t = (xs, ys, ((L + j : Nat) : Int), (I : Int), (L : Int), [], G, []) ∧ Known (1 + (I : Int) + L) G kn ∧ G.length ≤ 765 * (L + j) ∧ ys.length = j) O
    (fun j s t hj ⟨ys, G, kn, h1, h2, hk, hG, hx⟩ => by
      subst h1 h2
      obtain ⟨y, G', kn', a1, a2, a3, a4⟩ := one_table (I := I) (L := L) hI2 hL hk (hbl m.Out j) (by omega)
      have b1 := s_step hs hI2 hL (k := L + j) (by omega) (tbl_out hm hL hw hwI (by omega) xs ys G) a1 (by omega) (by omega)
      have hjl : ¬ ((L + j : Nat) : Int) < (L : Int) := by omega
      rw [if_neg hjl, if_neg hjl] at b1
      refine ⟨_, _, ?_, b1, ys ++ [y], G', kn', rfl, rfl, a4, by omega, by rw [List.length_append, hx]; rfl⟩
      unfold i_CircuitOf_b4
      rw [← n3, i_bits n5 (by omega) (by omega) (by omega) (by omega) hL (by omega), Option.bind_some]
      dsimp only
      rw [n3, lit_indep, show (⟨⟨(I : Int), (L : Int), [], G, []⟩, false, kn⟩ : builder) = ⟨grow2 I L G, false, kn⟩ from rfl, a2, Option.bind_some, app1 (by omega) rfl]
      rfl)
    O 0 ([], G0, false, kn0) (xs, [], (L : Int), (I : Int), (L : Int), [], G0, []) (2 ^ 64 - L - O) (by omega) ⟨[], G0, kn0, rfl, rfl, k0, by omega, rfl⟩
  rw [show L + (2 ^ 64 - L) = 2 ^ 64 from by omega] at e2
  rw [show O + (2 ^ 64 - L - O) = 2 ^ 64 - L from by omega] at e4
  refine ⟨xs, ys, G, ?_, ⟨G0, kn0, e1, kn, by rw [hO, Int.toNat_natCast]; exact e3⟩, l0, by omega, by omega⟩
  rw [e2, e4]
  obtain ⟨z, hz⟩ : ∃ z, 2 ^ 64 - L - O = z + 1 := ⟨2 ^ 64 - L - O - 1, by omega⟩
  rw [hz]
  show Option.bind (s_CircuitOf_b2 p m (w : Int) ((2 ^ L : Nat) : Int) (xs, ys, ((L + O : Nat) : Int), (I : Int), (L : Int), [], G, [])) _ = _
  unfold s_CircuitOf_b2
  have c1 : ¬ ((L + O : Nat) : Int) < IntKind.i64.wrap ((L : Int) + p.Out) := by rw [wr' (by omega) (by omega)]; omega
  dsimp only
  simp only [c1, decide_false, cond_false]
  rw [hO, ← Int.natCast_add]
  rfl
end
theorem CircuitOf_same (p : Sig) (m : Machine) : ∃ r b, s_CircuitOf p m = some (r, b) ∧ i_CircuitOf p m = some (r, b) ∧ r.Next.length ≤ 6 ∧ r.Gates.length ≤ 8000 ∧ r.Outs.length ≤ 4 := by
  unfold s_CircuitOf i_CircuitOf
  rw [s_MachineOk_eq, i_isSig_eq]
  simp only [Option.bind_some]
  cases hs : sigOk p with
  | false => exact ⟨⟨0, 0, [], [], []⟩, false, rfl, rfl, by simp, by simp, by simp⟩
  | true =>
    rw [i_isMachine_eq hs]
    cases hm : machOk p m with
    | false => exact ⟨⟨0, 0, [], [], []⟩, false, rfl, rfl, by simp, by simp, by simp⟩
    | true =>
      simp only [Bool.and_self, Bool.not_true, cond_false, Option.bind_some]
      obtain ⟨n1, n2, n3, n4, n5⟩ := machOk_spec hm
      obtain ⟨hi, ho⟩ := sigOk_in hs
      have pI := pw_le p.In
      obtain ⟨I, hI⟩ := ex_nat (z := p.In) (by omega)
      obtain ⟨w, hw⟩ := ex_nat (z := pw p.In) (by omega)
      have hpw := pow_pw hs
      have hwI : 2 ^ I = w := by
        have := hpw.2
        rw [hI, Int.toNat_natCast] at this
        have e : ((2 ^ I : Nat) : Int) = (2 : Int) ^ I := by simp
        rw [← hI] at this
        omega
      obtain ⟨L, hL, hLn, w1, w2⟩ := latches_eq n2
      have hz : 2 ^ L ≤ 2 ^ 6 := Nat.pow_le_pow_right (by omega) hL
      have eL : ((2 ^ L : Nat) : Int) = (2 : Int) ^ L := by simp
      obtain ⟨xs, ys, G, b1, ⟨G0, kn0, b2, kn, b3⟩, b4, b5, b6⟩ := both hs hm (by omega) hL hw hwI (List.replicate L 0)
      have hmk : mkS 8 (L : Int) (0 : Int) = some (List.replicate L 0) := by
        unfold mkS
        rw [if_pos (by omega), Int.toNat_natCast]
      have hnb : i_newBuilder ⟨(I : Int), (L : Int), List.replicate L 0, [], []⟩ = some ⟨⟨(I : Int), (L : Int), List.replicate L 0, [], []⟩, false, []⟩ := by
        unfold i_newBuilder
        dsimp only
        rw [appL (by simp; omega) rfl, Option.bind_some, appL (by simp) rfl, Option.bind_some, appL (by simp) rfl]
        rfl
      have hr1 : rng (L : Int) = some () := by unfold rng; rw [if_pos (by omega)]
      have hr2 : rng p.Out = some () := by unfold rng; rw [if_pos (by omega)]
      refine ⟨⟨(I : Int), (L : Int), xs, G, ys⟩, true, ?_, ?_, by dsimp only; omega, b6, by dsimp only; omega⟩
      · rw [w1, Option.bind_some, aft_inr, hpw.1, Option.bind_some, l31Pow_eq (by omega), Option.bind_some, hw, hI, ← eL, b1]
        rfl
      · rw [i_inputsOf_eq hs, Option.bind_some, hw, w2, Option.bind_some, aft_inr, hmk, Option.bind_some, hI, hnb, Option.bind_some, hr1, Option.bind_some, Int.sub_zero, Int.toNat_natCast]
        dsimp only
        rw [b2, Option.bind_some, aft_inr, hr2, Option.bind_some, Int.sub_zero]
        dsimp only
        rw [b3]
        rfl
theorem FnExactCircuitOf_law {p0 : Sig} (ok0 : Sig.ok p0) {p1 : Machine} (ok1 : Machine.ok p1) : l_FnExactCircuitOf p0 p1 = some true :=
  FnExactCircuitOf_of ok0 ok1 fun _ => by
    obtain ⟨r, b, h1, h2, h3, h4, h5⟩ := CircuitOf_same p0 p1
    have := ctL_bd (c := fun _ : Gate => 2) (N := 8000) (M := 2) (xs := r.Gates) h4 (fun _ _ => Nat.le_refl 2)
    exact ⟨r, b, h1, h2, by rw [ctL_one]; omega, by omega, by rw [ctL_one]; omega⟩
end Go.Proofs.Ytfmkhnlnomkcfaa
