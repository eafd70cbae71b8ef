/- CircuitOf: what the circuit of a machine computes; the tables. -/
import Derived.Test.YthjkonkcdfdfaaaChooseU
import Derived.Test.YthjkonkcdfdfaaaEvalStepU
import Derived.Test.YthjkonkcdfdfaaaMachU
import Derived.Test.YthjkonkcdfdfaaaStpU
set_option linter.unusedVariables false
set_option linter.unusedSimpArgs false
namespace Go.Proofs.Ythjkonkcdfdfaaa
open Go Go.Wk Go.Proofs

theorem contains_b (xs : List Bool) (v : Bool) : slices_Contains_bool_bool xs v = some (xs.any (fun x => v == x)) := by
  unfold slices_Contains_bool_bool slices_Index_bool_bool
  rw [cnt_find0 (f := slices_Index_bool_bool_b0 xs v) (fun x => v == x) (fun i => (i : Int)) (xs := xs) (fun i x hx => by
    unfold slices_Index_bool_bool_b0
    rw [idx_nat, hx]
    cases v <;> cases x <;> rfl), Option.bind_some]
  rw [← findIdx_any]
  cases xs.findIdx? (fun x => v == x) <;> rfl
/-- the number of the variable -/
theorem var_eq {xs : List Bool} {k : Nat} (hk : k + 1 ≤ 20) (hl : xs.length = 2 ^ (k + 1)) : whileM (i_builder_literalOf_b0 xs) (2 ^ 64) 0 = some (.inr (k : Int)) := by
  have hp : ∀ j : Nat, j ≤ 20 → (2 : Int) ^ j ≤ 1048576 := fun j hj => by
    have : 2 ^ j ≤ 2 ^ 20 := Nat.pow_le_pow_right (by omega) hj
    have e : ((2 ^ j : Nat) : Int) = (2 : Int) ^ j := by simp
    omega
  have hstep : ∀ j : Nat, j ≤ 20 → i_builder_literalOf_b0 xs (j : Int) = if j < k then some (.inr (.inr ((j + 1 : Nat) : Int))) else some (.inr (.inl (j : Int))) := fun j hj => by
    obtain ⟨e1, e2⟩ := shl_pow (x := 2) (j := j) (by omega) (by omega) (by omega)
    unfold i_builder_literalOf_b0
    rw [e1, Option.bind_some, e2, hl]
    have e3 : (2 : Int) * 2 ^ j = ((2 ^ (j + 1) : Nat) : Int) := by simp [Int.pow_succ]; omega
    rw [e3]
    by_cases h : j < k
    · have : ((2 ^ (j + 1) : Nat) : Int) < ((2 ^ (k + 1) : Nat) : Int) := by
        have : 2 ^ (j + 1) < 2 ^ (k + 1) := Nat.pow_lt_pow_right (by omega) (by omega)
        omega
      rw [if_pos h]
      simp only [this, decide_true, cond_true]
      rw [wr' (by omega) (by omega)]; rfl
    · have : ¬ ((2 ^ (j + 1) : Nat) : Int) < ((2 ^ (k + 1) : Nat) : Int) := by
        have : 2 ^ (k + 1) ≤ 2 ^ (j + 1) := Nat.pow_le_pow_right (by omega) (by omega)
        omega
      rw [if_neg h]
      simp only [this, decide_false, cond_false]
  have h1 := while_skip (f := i_builder_literalOf_b0 xs) (fun i => (i : Int)) k (2 ^ 64 - k) (fun i hi => by rw [hstep i (by omega), if_pos hi])
  rw [show k + (2 ^ 64 - k) = 2 ^ 64 from by omega] at h1
  rw [show (0 : Int) = ((0 : Nat) : Int) from rfl, h1]
  obtain ⟨z, hz⟩ : ∃ z, 2 ^ 64 - k = z + 1 := ⟨2 ^ 64 - k - 1, by omega⟩
  rw [hz]
  show Option.bind (i_builder_literalOf_b0 xs (k : Int)) _ = _
  rw [hstep k (by omega), if_neg (by omega)]
  rfl
/-- the place in a table that some truths tell -/
def idxV (V : List Bool) : Nat → Nat
  | 0 => 0
  | k + 1 => idxV V k + if V.getD (k + 1) false then 2 ^ k else 0
theorem idxV_lt (V : List Bool) : ∀ k, idxV V k < 2 ^ k
  | 0 => by simp [idxV]
  | k + 1 => by
    have := idxV_lt V k
    rw [Nat.pow_succ]
    simp only [idxV]
    split <;> omega
theorem any_no {xs : List Bool} {v : Bool} (h : xs.any (fun x => v == x) = false) {i : Nat} (hi : i < xs.length) : xs.getD i false = !v := by
  rw [List.getD_eq_getElem?_getD, List.getElem?_eq_getElem hi, Option.getD_some]
  rw [Bool.eq_false_iff] at h
  have : ¬ xs[i] = v := fun e => h (List.any_eq_true.2 ⟨xs[i], List.getElem_mem hi, by rw [e]; simp⟩)
  revert this
  cases xs[i] <;> cases v <;> simp
theorem table_sem (k : Nat) : ∀ (m' : Nat) (c : Circuit) (f : Bool) (kn : List (Gate × Int)) (xs : List Bool), k ≤ 10 → (k : Int) ≤ c.Inputs + c.Latches → xs.length = 2 ^ k → k < m' → Head c → Known (base c) c.Gates kn → GOk (base c) c.Gates → c.Gates.length + 3 * (2 ^ k - 1) ≤ 8000 →
    ∃ y G kn', i_builder_literalOf m' ⟨c, f, kn⟩ xs = some (y, G, f, kn') ∧ (∃ W, G = c.Gates ++ W) ∧ G.length ≤ c.Gates.length + 3 * (2 ^ k - 1) ∧ GOk (base c) G ∧ 0 ≤ y ∧ y < 2 * (base c + G.length) ∧ Known (base c) G kn' ∧
      ∀ V : List Bool, (V.length : Int) = base c → V[0]? = some false → lit (evG V G) y = xs.getD (idxV V k) false := by
  have hconst : ∀ (c : Circuit), Head c → ∀ V : List Bool, V[0]? = some false → lit (evG V c.Gates) 0 = false ∧ lit (evG V c.Gates) 1 = true := fun c hh V hz => by
    refine lit_zero ?_
    obtain ⟨W, hW⟩ := evG_ext c.Gates V
    have hlt := (List.getElem?_eq_some_iff.1 hz).1
    rw [hW, List.getElem?_append_left hlt, hz]
  induction k with
  | zero =>
    intro m' c f kn xs hk hv hl hm' hh hkn hGO hg
    obtain ⟨m', rfl⟩ : ∃ z, m' = z + 1 := ⟨m' - 1, by omega⟩
    have hb := hh
    unfold Head at hb
    match xs, hl with
    | [x], _ =>
      show ∃ y G kn', i_builder_literalOf_s (i_builder_literalOf m') _ [x] = _ ∧ _
      unfold i_builder_literalOf_s
      rw [contains_b, contains_b]
      cases x
      · exact ⟨0, c.Gates, kn, rfl, ⟨[], by simp⟩, by omega, hGO, by omega, by unfold base; omega, hkn, fun V hV hz => (hconst c hh V hz).1⟩
      · exact ⟨1, c.Gates, kn, rfl, ⟨[], by simp⟩, by omega, hGO, by omega, by unfold base; omega, hkn, fun V hV hz => (hconst c hh V hz).2⟩
  | succ k ih =>
    intro m' c f kn xs hk hv hl hm' hh hkn hGO hg
    obtain ⟨m', rfl⟩ : ∃ z, m' = z + 1 := ⟨m' - 1, by omega⟩
    have hb := hh
    unfold Head at hb
    have hp1 : 1 ≤ 2 ^ k := Nat.one_le_two_pow
    have hp2 : 2 ^ (k + 1) = 2 * 2 ^ k := by rw [Nat.pow_succ]; omega
    show ∃ y G kn', i_builder_literalOf_s (i_builder_literalOf m') _ xs = _ ∧ _
    unfold i_builder_literalOf_s
    rw [contains_b, contains_b]
    simp only [Option.bind_some]
    cases ht : xs.any (fun x => true == x) with
    | false =>
      refine ⟨0, c.Gates, kn, rfl, ⟨[], by simp⟩, by omega, hGO, by omega, by unfold base; omega, hkn, fun V hV hz => ?_⟩
      rw [any_no ht (by rw [hl]; exact idxV_lt V (k + 1))]
      exact (hconst c hh V hz).1
    | true =>
      cases hf : xs.any (fun x => false == x) with
      | false =>
        refine ⟨1, c.Gates, kn, rfl, ⟨[], by simp⟩, by omega, hGO, by omega, by unfold base; omega, hkn, fun V hV hz => ?_⟩
        rw [any_no hf (by rw [hl]; exact idxV_lt V (k + 1))]
        exact (hconst c hh V hz).2
      | true =>
        have hlen : (xs.length : Int) = 2 * ((2 ^ k : Nat) : Int) := by omega
        have hpk : 2 ^ k ≤ 2 ^ 10 := Nat.pow_le_pow_right (by omega) (by omega)
        have hhalf : IntKind.i64.wrap (Int.tdiv (xs.length : Int) 2) = ((2 ^ k : Nat) : Int) := by
          rw [tdiv_pos (by omega), hlen, wr' (by omega) (by omega)]; omega
        have hsub1 : subS xs ((2 ^ k : Nat) : Int) (xs.length : Int) = some (xs.drop (2 ^ k)) := by
          unfold subS
          rw [if_pos (by omega), show ((xs.length : Nat) : Int).toNat = xs.length from Int.toNat_natCast _, List.take_length, Int.toNat_natCast]
        have hsub2 : subS xs 0 ((2 ^ k : Nat) : Int) = some (xs.take (2 ^ k)) := by
          unfold subS
          rw [if_pos (by omega), Int.toNat_natCast]; rfl
        obtain ⟨y1, G1, kn1, a2, ⟨W1, a3⟩, a4, a8, a5, a6, a7, a9⟩ := ih m' c f kn (xs.drop (2 ^ k)) (by omega) (by omega) (by rw [List.length_drop]; omega) (by omega) hh hkn hGO (by omega)
        obtain ⟨h1, s1⟩ := hh.wth (G := G1) (by omega)
        obtain ⟨y2, G2, kn2, b2, ⟨W2, b3⟩, b4, b8, b5, b6, b7, b9⟩ := ih m' (withG c G1) f kn1 (xs.take (2 ^ k)) (by omega) (by show (k : Int) ≤ c.Inputs + c.Latches; omega) (by rw [List.length_take]; omega) (by omega) h1 a7 a8 (by show G1.length + _ ≤ 8000; omega)
        have b3 : G2 = G1 ++ W2 := b3
        have b4 : G2.length ≤ G1.length + 3 * (2 ^ k - 1) := b4
        have b6 : y2 < 2 * (base c + G2.length) := b6
        have l1 : c.Gates.length ≤ G1.length := by rw [a3, List.length_append]; omega
        have l2 : G1.length ≤ G2.length := by rw [b3, List.length_append]; omega
        obtain ⟨h2, s2⟩ := hh.wth (G := G2) (by omega)
        have hbs : base c = 1 + c.Inputs + c.Latches := rfl
        have x0 : 0 ≤ 2 * ((k + 1 : Nat) : Int) := by omega
        have x1 : 2 * ((k + 1 : Nat) : Int) < 2 * sigs (withG c G2) := by omega
        have y11 : y1 < 2 * sigs (withG c G2) := by omega
        have y21 : y2 < 2 * sigs (withG c G2) := by omega
        obtain ⟨y3, G3, kn3, d1, d2, d3, d4, d5, d6, d7⟩ := choose_ok h2 (kn := kn2) b7 x0 x1 a5 y11 b5 y21 f (by show G2.length + 3 ≤ 8000; omega)
        have d4 : G3.length ≤ G2.length + 3 := d4
        have d6 : y3 < 2 * (base c + G3.length) := d6
        have hw2 : IntKind.i64.wrap (2 * IntKind.i64.wrap (1 + (k : Int))) = 2 * ((k + 1 : Nat) : Int) := by
          rw [wr' (z := 1 + (k : Int)) (by omega) (by omega), wr' (by omega) (by omega)]; omega
        -- what the choice says, from any truths
        have hsem : ∀ V : List Bool, (V.length : Int) = base c → V[0]? = some false → (∃ W, G3 = G2 ++ W) ∧ GOk (base c) G3 ∧ lit (evG V G3) y3 = (if lit (evG V G2) (2 * ((k + 1 : Nat) : Int)) then lit (evG V G2) y1 else lit (evG V G2) y2) := fun V hV hz => by
          obtain ⟨y', G', e1, e2, e3, e4, e5, e6, e7⟩ := choose_sem h2 (V := V) hV hz b8 x0 x1 a5 y11 b5 y21 (by show G2.length + 3 ≤ 8000; omega)
          have e := Option.some.inj (d2.symm.trans e1)
          have ea : G3 = G' := congrArg (fun q => q.1.Gates) e
          have eb : y3 = y' := congrArg Prod.snd e
          rw [ea, eb]
          exact ⟨e2, e4, e7⟩
        have hV1 : ((([false] ++ List.replicate (c.Inputs + c.Latches).toNat false) : List Bool).length : Int) = base c := by
          rw [List.length_append, List.length_replicate]; simp; omega
        obtain ⟨⟨W3, f1⟩, f2, _⟩ := hsem _ hV1 rfl
        refine ⟨y3, G3, kn3, ?_, ⟨W1 ++ W2 ++ W3, by rw [f1, b3, a3]; simp⟩, by omega, f2, d5, d6, d7, fun V hV hz => ?_⟩
        · simp only [Bool.not_true, cond_false]
          rw [var_eq (k := k) (by omega) hl]
          simp only [Option.bind_some, aft_inr, hhalf, hsub1, hsub2, a2]
          rw [show (⟨⟨c.Inputs, c.Latches, c.Next, G1, c.Outs⟩, f, kn1⟩ : builder) = ⟨withG c G1, f, kn1⟩ from rfl, b2]
          simp only [Option.bind_some]
          rw [hw2, show (⟨⟨c.Inputs, c.Latches, c.Next, G2, c.Outs⟩, f, kn2⟩ : builder) = ⟨withG c G2, f, kn2⟩ from rfl, d1]
          rfl
        · obtain ⟨_, _, g3⟩ := hsem V hV hz
          have k1 : lit (evG V G2) y1 = lit (evG V G1) y1 := lit_keep (c := withG c G1) hV b3 a5 (by rw [s1]; exact a6)
          have k2 : lit (evG V G2) (2 * ((k + 1 : Nat) : Int)) = V.getD (k + 1) false := by
            rw [lit_ev G2 x0 (by omega)]
            unfold lit
            rw [show (2 * ((k + 1 : Nat) : Int)) / 2 = ((k + 1 : Nat) : Int) from by omega, Int.toNat_natCast, decide_eq_false (by omega)]
            cases V.getD (k + 1) false <;> rfl
          have hi := idxV_lt V k
          rw [g3, k1, k2, a9 V hV hz, b9 V hV hz]
          simp only [idxV]
          by_cases h : V.getD (k + 1) false = true
          · rw [if_pos h, if_pos h, List.getD_eq_getElem?_getD, List.getElem?_drop, List.getD_eq_getElem?_getD, Nat.add_comm]
          · rw [if_neg h, if_neg h, List.getD_eq_getElem?_getD, List.getElem?_take, if_pos hi, List.getD_eq_getElem?_getD, Nat.add_zero]
/-- the place that a latch code and an input tell -/
theorem idxV_V0 {I L l n : Nat} (hn : n < 2 ^ I) (hl : l < 2 ^ L) : idxV (V0 I L l n) (I + L) = n + l * 2 ^ I := by
  have hb : ∀ (x j : Nat), bitv (x : Int) j = (x / 2 ^ j % 2 == 1) := fun x j => by
    unfold bitv
    have e : ((x : Int) / 2 ^ j) % 2 = ((x / 2 ^ j % 2 : Nat) : Int) := by simp
    rw [e, Bool.eq_iff_iff]
    simp only [beq_iff_eq]
    omega
  have hin : ∀ k, k < I → (V0 I L (l : Int) (n : Int)).getD (k + 1) false = (n / 2 ^ k % 2 == 1) := fun k hk => by
    unfold V0
    rw [List.getD_eq_getElem?_getD, List.append_assoc, List.getElem?_append_right (by simp), List.getElem?_append_left (by simp; omega), List.getElem?_map]
    simp only [List.length_cons, List.length_nil, Nat.zero_add, Nat.add_sub_cancel]
    rw [List.getElem?_range hk, ← hb]; rfl
  have hla : ∀ k, k < L → (V0 I L (l : Int) (n : Int)).getD (I + k + 1) false = (l / 2 ^ k % 2 == 1) := fun k hk => by
    unfold V0
    rw [List.getD_eq_getElem?_getD, List.getElem?_append_right (by simp), List.getElem?_map]
    have : I + k + 1 - ([false] ++ List.map (bitv (n : Int)) (List.range I)).length = k := by simp
    rw [this, List.getElem?_range hk, ← hb]; rfl
  have h1 : ∀ k, k ≤ I → idxV (V0 I L (l : Int) (n : Int)) k = n % 2 ^ k := by
    intro k
    induction k with
    | zero => intro _; simp [idxV, Nat.mod_one]
    | succ k ih =>
      intro hk
      simp only [idxV]
      rw [ih (by omega), hin k (by omega), Nat.mod_pow_succ]
      have : n / 2 ^ k % 2 = 0 ∨ n / 2 ^ k % 2 = 1 := by omega
      rcases this with h | h <;> rw [h] <;> simp
  have h2 : ∀ k, k ≤ L → idxV (V0 I L (l : Int) (n : Int)) (I + k) = n + (l % 2 ^ k) * 2 ^ I := by
    intro k
    induction k with
    | zero =>
      intro _
      rw [Nat.add_zero, h1 I (Nat.le_refl _), Nat.mod_eq_of_lt hn]
      simp [Nat.mod_one]
    | succ k ih =>
      intro hk
      show idxV (V0 I L (l : Int) (n : Int)) (I + k) + (if (V0 I L (l : Int) (n : Int)).getD (I + k + 1) false then 2 ^ (I + k) else 0) = _
      rw [ih (by omega), hla k (by omega), Nat.mod_pow_succ]
      have : l / 2 ^ k % 2 = 0 ∨ l / 2 ^ k % 2 = 1 := by omega
      rcases this with h | h <;> rw [h]
      · simp
      · simp only [beq_self_eq_true, if_true, Nat.mul_one]
        rw [Nat.add_mul, Nat.pow_add, Nat.mul_comm (2 ^ k) (2 ^ I)]
        omega
  rw [h2 L (Nat.le_refl _), Nat.mod_eq_of_lt hl]
/-- a number out of its bits -/
theorem numAt_bits {V : List Bool} {v : Nat} : ∀ (xs : List Int) (k : Nat), (∀ (i : Nat) x, xs[i]? = some x → lit V x = (v / 2 ^ (k + i) % 2 == 1)) → numAt V k xs = ((2 ^ k * (v / 2 ^ k % 2 ^ xs.length) : Nat) : Int)
  | [], k, _ => by simp [numAt, Nat.mod_one]
  | x :: xs, k, h => by
    have h0 := h 0 x rfl
    rw [Nat.add_zero] at h0
    have ih := numAt_bits (v := v) xs (k + 1) (fun i y hy => by
      have := h (i + 1) y hy
      rw [show k + 1 + i = k + (i + 1) from by omega]; exact this)
    simp only [numAt, h0, ih, List.length_cons]
    have e1 : v / 2 ^ (k + 1) = v / 2 ^ k / 2 := by rw [Nat.pow_succ, Nat.div_div_eq_div_mul]
    rw [e1]
    generalize v / 2 ^ k = u
    have e2 : u % 2 ^ (xs.length + 1) = u % 2 + 2 * (u / 2 % 2 ^ xs.length) := by
      rw [Nat.pow_succ, Nat.mul_comm, Nat.mod_mul]
    rw [e2, Nat.mul_add, Nat.pow_succ]
    have e3 : ((2 ^ k : Nat) : Int) = (2 : Int) ^ k := by simp
    have : u % 2 = 0 ∨ u % 2 = 1 := by omega
    rcases this with h | h <;> rw [h]
    · simp only [Nat.mul_zero, Nat.zero_add]
      rw [Nat.mul_assoc, show ((0 : Nat) == 1) = false from rfl, if_neg (by simp), Int.zero_add]
    · simp only [beq_self_eq_true, if_true, Nat.mul_one]
      rw [← e3, Nat.mul_assoc, Int.natCast_add]
end Go.Proofs.Ythjkonkcdfdfaaa
