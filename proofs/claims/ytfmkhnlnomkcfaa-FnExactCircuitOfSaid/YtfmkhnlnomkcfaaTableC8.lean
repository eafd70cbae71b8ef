/- CircuitOf: the tables. -/
import Derived.Test.YtfmkhnlnomkcfaaChooseC8
set_option linter.unusedVariables false
set_option linter.unusedSimpArgs false
namespace Go.Proofs.Ytfmkhnlnomkcfaa
open Go Go.Wk Go.Proofs

theorem contains_b (xs : List Bool) (v : Bool) : slices_Contains_bool_bool xs v = some (xs.any (fun x => v == x)) := by
  unfold slices_Contains_bool_bool slices_Index_bool_bool
  rw [cnt_find0 (f := slices_Index_bool_bool_b0 xs v) (fun x => v == x) (fun i => (i : Int)) (xs := xs) (fun i x hx => by
    unfold slices_Index_bool_bool_b0
    rw [idx_nat, hx]
    cases v <;> cases x <;> rfl), Option.bind_some]
  rw [← findIdx_any]
  cases xs.findIdx? (fun x => v == x) <;> rfl
/-- are all bits the first? -/
theorem same_eq {xs : List Bool} {x : Bool} (hx : xs[0]? = some x) : cntM (s_l31Table_b0 xs) xs.length 0 true = some (.inr (xs.all (fun y => y == x))) := by
  have h1 := (cnt_foldI (f := s_l31Table_b0 xs) (fun s y => s && (y == x)) (fun _ _ => True) (xs := xs) (fun i y s hy _ => by
    unfold s_l31Table_b0
    have e0 : idx xs 0 = some x := by rw [show (0 : Int) = ((0 : Nat) : Int) from rfl, idx_nat, hx]
    rw [idx_nat, hy, e0]
    cases s <;> exact ⟨rfl, trivial⟩) (s := true) trivial).1
  rw [h1]
  have : ∀ (ys : List Bool) (a : Bool), ys.foldl (fun s y => s && (y == x)) a = (a && ys.all (fun y => y == x)) := fun ys => by
    induction ys with
    | nil => intro a; simp
    | cons y ys ih => intro a; rw [List.foldl_cons, ih, List.all_cons, Bool.and_assoc]
  rw [this]; rfl
/-- the number of the variable -/
theorem var_eq {xs : List Bool} {k : Nat} (hk : k + 1 ≤ 20) (hl : xs.length = 2 ^ (k + 1)) : whileM (i_builder_literalOf_b0 xs) (2 ^ 64) 0 = some (.inr (k : Int)) := by
  have hp : ∀ j : Nat, j ≤ 20 → (2 : Int) ^ j ≤ 1048576 := fun j hj => by
    have : 2 ^ j ≤ 2 ^ 20 := Nat.pow_le_pow_right (by omega) hj
    have e : ((2 ^ j : Nat) : Int) = (2 : Int) ^ j := by simp
    omega
  have hstep : ∀ j : Nat, j ≤ 20 → i_builder_literalOf_b0 xs (j : Int) = if j < k then some (.inr (.inr ((j + 1 : Nat) : Int))) else some (.inr (.inl (j : Int))) := fun j hj => by
    obtain ⟨e1, e2⟩ := shl_pow (x := 2) (j := j) (by omega) (by omega) (by omega)
    unfold i_builder_literalOf_b0
    rw [e1, Option.bind_some, e2, hl]
    have e3 : (2 : Int) * 2 ^ j = ((2 ^ (j + 1) : Nat) : Int) := by simp [Int.pow_succ]; omega
    rw [e3]
    by_cases h : j < k
    · have : ((2 ^ (j + 1) : Nat) : Int) < ((2 ^ (k + 1) : Nat) : Int) := by
        have : 2 ^ (j + 1) < 2 ^ (k + 1) := Nat.pow_lt_pow_right (by omega) (by omega)
        omega
      rw [if_pos h]
      simp only [this, decide_true, cond_true]
      rw [wr' (by omega) (by omega)]; rfl
    · have : ¬ ((2 ^ (j + 1) : Nat) : Int) < ((2 ^ (k + 1) : Nat) : Int) := by
        have : 2 ^ (k + 1) ≤ 2 ^ (j + 1) := Nat.pow_le_pow_right (by omega) (by omega)
        omega
      rw [if_neg h]
      simp only [this, decide_false, cond_false]
  have h1 := while_skip (f := i_builder_literalOf_b0 xs) (fun i => (i : Int)) k (2 ^ 64 - k) (fun i hi => by rw [hstep i (by omega), if_pos hi])
  rw [show k + (2 ^ 64 - k) = 2 ^ 64 from by omega] at h1
  rw [show (0 : Int) = ((0 : Nat) : Int) from rfl, h1]
  obtain ⟨z, hz⟩ : ∃ z, 2 ^ 64 - k = z + 1 := ⟨2 ^ 64 - k - 1, by omega⟩
  rw [hz]
  show Option.bind (i_builder_literalOf_b0 xs (k : Int)) _ = _
  rw [hstep k (by omega), if_neg (by omega)]
  rfl
theorem table_same (k : Nat) : ∀ (m m' : Nat) (c : Circuit) (f : Bool) (kn : List (Gate × Int)) (xs : List Bool), k ≤ 10 → (k : Int) ≤ c.Inputs + c.Latches → xs.length = 2 ^ k → k < m → k < m' → Head c → Known (base c) c.Gates kn → c.Gates.length + 3 * (2 ^ k - 1) ≤ 8000 →
    ∃ y G kn', s_l31Table m c xs (k : Int) = some (withG c G, y) ∧ i_builder_literalOf m' ⟨c, f, kn⟩ xs = some (y, G, f, kn') ∧ c.Gates.length ≤ G.length ∧ G.length ≤ c.Gates.length + 3 * (2 ^ k - 1) ∧ 0 ≤ y ∧ y < 2 * (base c + G.length) ∧ Known (base c) G kn' := by
  induction k with
  | zero =>
    intro m m' c f kn xs hk hv hl hm hm' hh hkn hg
    obtain ⟨m, rfl⟩ : ∃ z, m = z + 1 := ⟨m - 1, by omega⟩
    obtain ⟨m', rfl⟩ : ∃ z, m' = z + 1 := ⟨m' - 1, by omega⟩
    have hb := hh
    unfold Head at hb
    match xs, hl with
    | [x], _ =>
      show ∃ y G kn', s_l31Table_s (s_l31Table m) c [x] _ = _ ∧ i_builder_literalOf_s (i_builder_literalOf m') _ [x] = _ ∧ _
      unfold s_l31Table_s i_builder_literalOf_s
      rw [same_eq (x := x) rfl, contains_b, contains_b]
      cases x
      · exact ⟨0, c.Gates, kn, rfl, rfl, Nat.le_refl _, by omega, by omega, by unfold base; omega, hkn⟩
      · exact ⟨1, c.Gates, kn, rfl, rfl, Nat.le_refl _, by omega, by omega, by unfold base; omega, hkn⟩
  | succ k ih =>
    intro m m' c f kn xs hk hv hl hm hm' hh hkn hg
    obtain ⟨m, rfl⟩ : ∃ z, m = z + 1 := ⟨m - 1, by omega⟩
    obtain ⟨m', rfl⟩ : ∃ z, m' = z + 1 := ⟨m' - 1, by omega⟩
    have hb := hh
    unfold Head at hb
    have hp1 : 1 ≤ 2 ^ k := Nat.one_le_two_pow
    have hp2 : 2 ^ (k + 1) = 2 * 2 ^ k := by rw [Nat.pow_succ]; omega
    obtain ⟨x, hx⟩ : ∃ x, xs[0]? = some x := ⟨_, List.getElem?_eq_getElem (by omega : 0 < xs.length)⟩
    show ∃ y G kn', s_l31Table_s (s_l31Table m) c xs _ = _ ∧ i_builder_literalOf_s (i_builder_literalOf m') _ xs = _ ∧ _
    unfold s_l31Table_s i_builder_literalOf_s
    rw [same_eq hx, contains_b, contains_b]
    simp only [Option.bind_some, aft_inr]
    have hxm : x ∈ xs := List.mem_of_getElem? hx
    have e0 : idx xs 0 = some x := by rw [show (0 : Int) = ((0 : Nat) : Int) from rfl, idx_nat, hx]
    cases hall : xs.all (fun y => y == x) with
    | true =>
      rw [List.all_eq_true] at hall
      have hno : xs.any (fun y => (!x) == y) = false := by
        rw [Bool.eq_false_iff]
        intro h
        rw [List.any_eq_true] at h
        obtain ⟨y, hy, e⟩ := h
        have := hall y hy
        rw [beq_iff_eq] at this e
        subst this
        cases y <;> cases e
      have hyes : xs.any (fun y => x == y) = true := by rw [List.any_eq_true]; exact ⟨x, hxm, by simp⟩
      simp only [cond_true, e0, Option.bind_some]
      cases x with
      | false =>
        rw [show (xs.any fun x => true == x) = false from hno]
        exact ⟨0, c.Gates, kn, rfl, rfl, Nat.le_refl _, by omega, by omega, by unfold base; omega, hkn⟩
      | true =>
        rw [show (xs.any fun x => true == x) = true from hyes, show (xs.any fun x => false == x) = false from hno]
        exact ⟨1, c.Gates, kn, rfl, rfl, Nat.le_refl _, by omega, by omega, by unfold base; omega, hkn⟩
    | false =>
      have hex : ∃ y ∈ xs, y = !x := by
        rw [← Bool.not_eq_true, List.all_eq_true] at hall
        apply Classical.byContradiction
        intro hn
        apply hall
        intro y hy
        rw [beq_iff_eq]
        apply Classical.byContradiction
        intro hne
        exact hn ⟨y, hy, by cases y <;> cases x <;> first | rfl | exact absurd rfl hne⟩
      have hboth : (xs.any fun x => true == x) = true ∧ (xs.any fun x => false == x) = true := by
        obtain ⟨y, hy, e⟩ := hex
        rw [List.any_eq_true, List.any_eq_true]
        cases x
        · subst e; exact ⟨⟨_, hy, rfl⟩, ⟨_, hxm, rfl⟩⟩
        · subst e; exact ⟨⟨_, hxm, rfl⟩, ⟨_, hy, rfl⟩⟩
      have hlen : (xs.length : Int) = 2 * ((2 ^ k : Nat) : Int) := by omega
      have hpk : 2 ^ k ≤ 2 ^ 10 := Nat.pow_le_pow_right (by omega) (by omega)
      have hhalf : IntKind.i64.wrap (Int.tdiv (xs.length : Int) 2) = ((2 ^ k : Nat) : Int) := by
        rw [tdiv_pos (by omega), hlen, wr' (by omega) (by omega)]; omega
      have hsub1 : subS xs ((2 ^ k : Nat) : Int) (xs.length : Int) = some (xs.drop (2 ^ k)) := by
        unfold subS
        rw [if_pos (by omega), show ((xs.length : Nat) : Int).toNat = xs.length from Int.toNat_natCast _, List.take_length, Int.toNat_natCast]
      have hsub2 : subS xs 0 ((2 ^ k : Nat) : Int) = some (xs.take (2 ^ k)) := by
        unfold subS
        rw [if_pos (by omega), Int.toNat_natCast]; rfl
      have hkk : IntKind.i64.wrap (((k + 1 : Nat) : Int) - 1) = (k : Int) := by rw [wr' (by omega) (by omega)]; omega
      obtain ⟨y1, G1, kn1, a1, a2, a3, a4, a5, a6, a7⟩ := ih m m' c f kn (xs.drop (2 ^ k)) (by omega) (by omega) (by rw [List.length_drop]; omega) (by omega) (by omega) hh hkn (by omega)
      obtain ⟨h1, s1⟩ := hh.wth (G := G1) (by omega)
      obtain ⟨y2, G2, kn2, b1, b2, b3, b4, b5, b6, b7⟩ := ih m m' (withG c G1) f kn1 (xs.take (2 ^ k)) (by omega) (by show (k : Int) ≤ c.Inputs + c.Latches; omega) (by rw [List.length_take]; omega) (by omega) (by omega) h1 a7 (by show G1.length + _ ≤ 8000; omega)
      have b3 : G1.length ≤ G2.length := b3
      have b4 : G2.length ≤ G1.length + 3 * (2 ^ k - 1) := b4
      have b6 : y2 < 2 * (base c + G2.length) := b6
      obtain ⟨h2, s2⟩ := hh.wth (G := G2) (by omega)
      have hbs : base c = 1 + c.Inputs + c.Latches := rfl
      obtain ⟨y3, G3, kn3, d1, d2, d3, d4, d5, d6, d7⟩ := choose_ok h2 (kn := kn2) b7 (x := 2 * ((k + 1 : Nat) : Int)) (a := y1) (b := y2) (by omega) (by omega) a5 (by omega) b5 (by omega) f (by show G2.length + 3 ≤ 8000; omega)
      have d3 : G2.length ≤ G3.length := d3
      have d4 : G3.length ≤ G2.length + 3 := d4
      have d6 : y3 < 2 * (base c + G3.length) := d6
      have hw1 : IntKind.i64.wrap (2 * ((k + 1 : Nat) : Int)) = 2 * ((k + 1 : Nat) : Int) := wr' (by omega) (by omega)
      have hw2 : IntKind.i64.wrap (2 * IntKind.i64.wrap (1 + (k : Int))) = 2 * ((k + 1 : Nat) : Int) := by
        rw [wr' (z := 1 + (k : Int)) (by omega) (by omega), wr' (by omega) (by omega)]; omega
      refine ⟨y3, G3, kn3, ?_, ?_, by omega, by omega, d5, d6, d7⟩
      · simp only [cond_false, hhalf, hsub1, hsub2, hkk, a1, b1, Option.bind_some]
        rw [hw1, show withG (withG c G1) G2 = withG c G2 from rfl, d2]
        rfl
      · rw [hboth.1, hboth.2]
        simp only [Bool.not_true, cond_false]
        rw [var_eq (k := k) (by omega) hl]
        simp only [Option.bind_some, aft_inr, hhalf, hsub1, hsub2, a2]
        rw [show (⟨⟨c.Inputs, c.Latches, c.Next, G1, c.Outs⟩, f, kn1⟩ : builder) = ⟨withG c G1, f, kn1⟩ from rfl, b2]
        simp only [Option.bind_some]
        rw [hw2, show (⟨⟨c.Inputs, c.Latches, c.Next, G2, c.Outs⟩, f, kn2⟩ : builder) = ⟨withG c G2, f, kn2⟩ from rfl, d1]
        rfl
/-- the next literals of the circuit do not matter -/
theorem lit_indep (m : Nat) : ∀ (i l : Int) (Z O : List Int) (G : List Gate) (f : Bool) (kn : List (Gate × Int)) (xs : List Bool), i_builder_literalOf m ⟨⟨i, l, Z, G, O⟩, f, kn⟩ xs = i_builder_literalOf m ⟨⟨i, l, [], G, []⟩, f, kn⟩ xs := by
  induction m with
  | zero => intros; rfl
  | succ m ih =>
    intro i l Z O G f kn xs
    show i_builder_literalOf_s (i_builder_literalOf m) _ xs = i_builder_literalOf_s (i_builder_literalOf m) _ xs
    unfold i_builder_literalOf_s
    dsimp only
    simp only [ih i l Z O]
    rfl
end Go.Proofs.Ytfmkhnlnomkcfaa
