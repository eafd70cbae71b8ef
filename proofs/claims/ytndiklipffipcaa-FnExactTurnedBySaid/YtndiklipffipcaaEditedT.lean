/- Edited games: both sides compute the same, and they stay right. -/
import Derived.Test.YtndiklipffipcaaEditT
import Derived.Test.YtndiklipffipcaaAscT
set_option linter.unusedVariables false
set_option linter.unusedSimpArgs false
namespace Go.Proofs.Ytndiklipffipcaa
open Go Go.Wk Go.Proofs

theorem less_eq (a b : Int) : cmp_Less_int64 a b = some (decide (a < b)) := by
  unfold cmp_Less_int64 cmp_isNaN_int64
  simp
/-- the place in the middle -/
theorem mid_eq {i j : Int} (h0 : 0 ≤ i) (h1 : 0 ≤ j) (h2 : i + j ≤ 1000000) : IntKind.i64.wrap (Int.fdiv (IntKind.u64.wrap (IntKind.i64.wrap (i + j))) (2 ^ (min (Int.toNat 1) (IntKind.bits IntKind.u64)))) = (i + j) / 2 := by
  have e1 : (2 : Int) ^ (min (Int.toNat 1) (IntKind.bits IntKind.u64)) = 2 := by decide
  have e2 : IntKind.u64.wrap (i + j) = i + j := by rw [IntKind.wrap_u64]; omega
  rw [e1, wr' (z := i + j) (by omega) (by omega), e2, fdiv_pos (by omega), wr' (by omega) (by omega)]
/-- a search in an ascending row -/
theorem search_eq {xs : List Int} (h : Asc xs) (hl : xs.length ≤ 100000) (x : Int) : ∃ p, slices_BinarySearch_I_int64 xs x = some (p, decide (x ∈ xs)) := by
  obtain ⟨o, w1, w2⟩ := while_out (f := slices_BinarySearch_I_int64_b0 xs x) (fun c (s : Int × Int) => 0 ≤ s.1 ∧ s.1 ≤ s.2 ∧ s.2 ≤ xs.length ∧ s.2 - s.1 + c ≤ xs.length ∧ (∀ (k : Nat) y, (k : Int) < s.1 → xs[k]? = some y → y < x) ∧ (∀ (k : Nat) y, s.2 ≤ (k : Int) → xs[k]? = some y → x ≤ y)) (fun _ => False)
    (fun s => s.1 = s.2 ∧ 0 ≤ s.1 ∧ s.2 ≤ xs.length ∧ (∀ (k : Nat) y, (k : Int) < s.1 → xs[k]? = some y → y < x) ∧ (∀ (k : Nat) y, s.2 ≤ (k : Int) → xs[k]? = some y → x ≤ y)) xs.length
    (fun c s ⟨i0, i1, i2, i3, i4, i5⟩ => by
      obtain ⟨i, j⟩ := s
      dsimp only at i0 i1 i2 i3 i4 i5 ⊢
      unfold slices_BinarySearch_I_int64_b0
      dsimp only
      by_cases hlt : i < j
      · have hm := mid_eq (i := i) (j := j) i0 (by omega) (by omega)
        obtain ⟨y, hy, _⟩ := get_el (xs := xs) (z := (i + j) / 2) (by omega) (by omega)
        simp only [hlt, decide_true, cond_true, hm, hy, Option.bind_some, less_eq]
        obtain ⟨m, hmn⟩ := ex_nat (z := (i + j) / 2) (by omega)
        rw [hmn, idx_nat] at hy
        rw [hmn]
        by_cases hyx : y < x
        · simp only [hyx, decide_true, cond_true, Option.bind_some]
          rw [wr' (by omega) (by omega)]
          refine ⟨_, rfl, by omega, ?_, ?_, ?_, ?_, ?_, i5⟩
          · dsimp only; omega
          · dsimp only; omega
          · dsimp only; omega
          · dsimp only; omega
          · intro k z hk hz
            dsimp only at hk
            by_cases hkm : k = m
            · subst hkm; rw [hy] at hz; cases hz; exact hyx
            · have := asc_get h hz hy (by omega); omega
        · simp only [hyx, decide_false, cond_false, Option.bind_some]
          refine ⟨_, rfl, by omega, i0, ?_, ?_, ?_, i4, ?_⟩
          · dsimp only; omega
          · dsimp only; omega
          · dsimp only; omega
          · intro k z hk hz
            dsimp only at hk
            by_cases hkm : k = m
            · subst hkm; rw [hy] at hz; cases hz; omega
            · have := asc_get h hy hz (by omega); omega
      · simp only [hlt, decide_false, cond_false]
        exact ⟨_, rfl, by dsimp only; omega, i0, by dsimp only; omega, i4, i5⟩)
    (2 ^ 64) 0 (0, (xs.length : Int)) (by omega) ⟨Int.le_refl 0, by dsimp only; omega, by dsimp only; omega, by dsimp only; omega, fun k y hk => by dsimp only at hk; omega, fun k y hk hy => by have := (List.getElem?_eq_some_iff.1 hy).1; dsimp only at hk; omega⟩ (by omega)
  match o, w2 with
  | .inr s, ⟨e, i0, i2, i4, i5⟩ =>
    obtain ⟨i, j⟩ := s
    dsimp only at e i0 i2 i4 i5
    subst e
    obtain ⟨i, rfl⟩ := ex_nat i0
    refine ⟨(i : Int), ?_⟩
    unfold slices_BinarySearch_I_int64
    rw [w1, Option.bind_some, aft_inr]
    dsimp only
    by_cases hlt : (i : Int) < (xs.length : Int)
    · have hy : xs[i]? = some (xs[i]'(by omega)) := List.getElem?_eq_getElem (by omega)
      have hiy := i5 i _ (by omega) hy
      have hym := List.getElem_mem (show i < xs.length by omega)
      generalize xs[i]'(by omega) = y at hy hiy hym
      simp only [hlt, decide_true, cond_true, idx_nat, hy, Option.bind_some]
      by_cases hyx : y = x
      · subst hyx
        simp [hym]
      · have hb : (y == x) = false := by simp [hyx]
        have hno : x ∉ xs := fun hm => by
          obtain ⟨k, hk⟩ := List.mem_iff_getElem?.1 hm
          rcases Nat.lt_trichotomy k i with hki | hki | hki
          · have := i4 k x (by omega) hk; omega
          · subst hki; rw [hy] at hk; exact hyx (Option.some.inj hk)
          · have := asc_get h hy hk hki; omega
        unfold slices_isNaN_int64
        simp [hb, hno]
    · have hno : x ∉ xs := fun hm => by
        obtain ⟨k, hk⟩ := List.mem_iff_getElem?.1 hm
        have := (List.getElem?_eq_some_iff.1 hk).1
        have := i4 k x (by omega) hk
        omega
      simp [hlt, hno]
theorem lessOf_eq {xs ys : List Int} (h : Asc ys) (hl : ys.length ≤ 100000) (hx : xs.length ≤ 100000) : i_lessOf xs ys = some (xs.filter fun x => !decide (x ∈ ys)) := by
  unfold i_lessOf
  obtain ⟨s, h1, h2⟩ := cnt_inv (f := i_lessOf_b0 xs ys) (fun j s => s = (xs.take j).filter fun x => !decide (x ∈ ys)) xs.length (s := []) rfl (fun j s hj hs => by
    subst hs
    have hxj : xs[j]? = some xs[j] := by simp [hj]
    obtain ⟨p, hp⟩ := search_eq h hl xs[j]
    have hlen : ((xs.take j).filter fun x => !decide (x ∈ ys)).length ≤ 100000 := Nat.le_trans (List.length_filter_le ..) (by rw [List.length_take]; omega)
    unfold i_lessOf_b0
    rw [idx_nat, hxj, Option.bind_some, hp, Option.bind_some, List.take_add_one, hxj]
    simp only [Option.toList_some, List.filter_append]
    cases hd : decide (xs[j] ∈ ys) with
    | true =>
      refine ⟨_, rfl, ?_⟩
      simp only [decide_eq_true_eq] at hd
      simp [hd]
    | false =>
      simp only [Bool.not_false, cond_true]
      rw [app1 (by omega) rfl]
      refine ⟨_, rfl, ?_⟩
      simp only [decide_eq_false_iff_not] at hd
      simp [hd])
  rw [h1, h2, List.take_length]
  rfl
theorem bothOf_eq {xs : List Int} (h : Asc xs) {n : Int} (hn : n ∉ xs) (hl : xs.length ≤ 100000) : i_bothOf xs [n] = some (ins n xs) := by
  unfold i_bothOf
  rw [appL (by rw [List.length_nil]; omega) rfl, Option.bind_some, lessOf_eq h hl (by simp)]
  have e : ([n].filter fun x => !decide (x ∈ xs)) = [n] := by simp [hn]
  rw [Option.bind_some, e, List.nil_append, app1 (by omega) rfl, Option.bind_some]
  unfold slices_Sort_I_int64
  rw [if_pos (by rw [List.length_append, List.length_singleton]; omega), sort_ins h hn]
  rfl
theorem into_eq {xs : List Int} (h : Asc xs) {n : Int} (hn : n ∉ xs) (hl : xs.length ≤ 100000) : s_l1Into xs n = some (ins n xs) := by
  obtain ⟨o, w1, w2⟩ := while_out (f := s_l1Into_b0 xs n) (fun j (s : Int) => s = (j : Int) ∧ j ≤ xs.length ∧ ∀ (i : Nat) x, i < j → xs[i]? = some x → x < n) (fun _ => False) (fun s => ∃ k : Nat, s = (k : Int) ∧ k ≤ xs.length ∧ (∀ (i : Nat) x, i < k → xs[i]? = some x → x < n) ∧ ∀ x, xs[k]? = some x → n < x) xs.length (fun j s ⟨e, hj, hall⟩ => by
    subst e
    unfold s_l1Into_b0
    by_cases hlt : (j : Int) < (xs.length : Int)
    · have hxj : xs[j]? = some (xs[j]'(by omega)) := List.getElem?_eq_getElem (by omega)
      have hm := List.getElem_mem (show j < xs.length by omega)
      generalize xs[j]'(by omega) = x at hxj hm
      simp only [hlt, decide_true, cond_true, idx_nat, hxj, Option.bind_some]
      by_cases hxn : x < n
      · simp only [hxn, decide_true, cond_true]
        refine ⟨_, rfl, by omega, by rw [wr' (by omega) (by omega)]; omega, by omega, fun i y hi hy => ?_⟩
        by_cases hij : i = j
        · subst hij; rw [hxj] at hy; cases hy; exact hxn
        · exact hall i y (by omega) hy
      · simp only [hxn, decide_false, cond_false]
        refine ⟨_, rfl, j, rfl, hj, hall, fun y hy => ?_⟩
        rw [hxj] at hy
        cases hy
        have : x ≠ n := fun e => hn (e ▸ hm)
        omega
    · simp only [hlt, decide_false, cond_false, Option.bind_some]
      exact ⟨_, rfl, j, rfl, hj, hall, fun y hy => by have := (List.getElem?_eq_some_iff.1 hy).1; omega⟩)
    (2 ^ 64) 0 0 (by omega) ⟨rfl, by omega, fun i x hi => by omega⟩ (by omega)
  match o, w2 with
  | .inr s, ⟨k, e, hk, h1, h2⟩ =>
    subst e
    unfold s_l1Into
    rw [w1, Option.bind_some, aft_inr]
    have hc : (Option.bind (bif decide ((k : Int) < (xs.length : Int)) then Option.bind (idx xs (k : Int)) fun x28 => some (x28 == n) else some false) fun p32 => bif p32 then some xs else
        Option.bind (subS xs 0 (k : Int)) fun x36 => Option.bind (s_l1Copy x36) fun x37 => Option.bind (appS 8 x37 [n]) fun x40 => Option.bind (subS xs (k : Int) (xs.length : Int)) fun x44 => Option.bind (appS 8 x40 x44) fun x45 => some x45) = some (xs.take k ++ [n] ++ xs.drop k) := by
      have hp : (bif decide ((k : Int) < (xs.length : Int)) then Option.bind (idx xs (k : Int)) fun x28 => some (x28 == n) else some false) = some false := by
        by_cases hlt : (k : Int) < (xs.length : Int)
        · have hxk : xs[k]? = some (xs[k]'(by omega)) := List.getElem?_eq_getElem (by omega)
          have := h2 _ hxk
          have hne : (xs[k]'(by omega) == n) = false := by
            rw [beq_eq_false_iff_ne]; omega
          simp only [hlt, decide_true, cond_true, idx_nat, hxk, Option.bind_some, hne]
        · simp only [hlt, decide_false, cond_false]
      have hs1 : subS xs 0 (k : Int) = some (xs.take k) := by
        unfold subS
        rw [if_pos (by omega), Int.toNat_natCast]; rfl
      have hs2 : subS xs (k : Int) (xs.length : Int) = some (xs.drop k) := by
        unfold subS
        rw [if_pos (by omega), Int.toNat_natCast, Int.toNat_natCast, List.take_length]
      have ht : (xs.take k).length ≤ 100000 := by rw [List.length_take]; omega
      rw [hp, Option.bind_some]
      simp only [cond_false]
      rw [hs1, Option.bind_some]
      unfold s_l1Copy
      rw [appL (by rw [List.length_nil]; omega) rfl, Option.bind_some, Option.bind_some, List.nil_append, app1 (by omega) rfl, Option.bind_some, hs2, Option.bind_some, appL (by rw [List.length_append, List.length_drop, List.length_singleton]; omega) rfl]
      rfl
    rw [hc, List.append_assoc, List.singleton_append, ins_cut h hn hk h1 h2]
/-! copies -/
theorem s_copy {xs : List Int} (hl : xs.length ≤ 10000000) : s_l1Copy xs = some xs := by
  unfold s_l1Copy
  rw [appL (by rw [List.length_nil]; omega) rfl]; rfl
theorem s_l4Copy_eq {g : Parity} (hp : parityOk g = true) : s_l4Copy g = some g := by
  obtain ⟨h1, h2, h3, h4, h5⟩ := parityOk_spec hp
  unfold s_l4Copy s_l1CopyArena
  rw [s_copy (by omega), Option.bind_some]
  obtain ⟨s, e1, e2⟩ := cnt_inv (f := s_l1CopyArena_b0 g.Arena) (fun j s => s = g.Arena.Next.take j) g.Arena.Next.length (s := []) rfl (fun j s hj hs => by
    subst hs
    have hx : g.Arena.Next[j]? = some g.Arena.Next[j] := by simp [hj]
    have := h5 j _ hx
    unfold s_l1CopyArena_b0
    rw [idx_nat, hx, Option.bind_some, s_copy (by omega), Option.bind_some, app1 (by rw [List.length_take]; omega) rfl]
    refine ⟨_, rfl, ?_⟩
    rw [List.take_add_one, hx]; rfl)
  rw [e1, e2, List.take_length, Option.bind_some, aft_inr, Option.bind_some, s_copy (by omega)]
  rfl
theorem i_copyParity_eq {g : Parity} (hp : parityOk g = true) : i_copyParity g = some g := by
  obtain ⟨h1, h2, h3, h4, h5⟩ := parityOk_spec hp
  unfold i_copyParity i_copyArena i_copyLists
  rw [appL (by rw [List.length_nil]; omega) rfl, Option.bind_some]
  obtain ⟨s, e1, e2⟩ := cnt_inv (f := i_copyLists_b0 g.Arena.Next) (fun j s => s = g.Arena.Next.take j) g.Arena.Next.length (s := []) rfl (fun j s hj hs => by
    subst hs
    have hx : g.Arena.Next[j]? = some g.Arena.Next[j] := by simp [hj]
    have := h5 j _ hx
    unfold i_copyLists_b0
    rw [idx_nat, hx, Option.bind_some, appL (by rw [List.length_nil]; omega) rfl, Option.bind_some, app1 (by rw [List.length_take]; omega) rfl]
    refine ⟨_, rfl, ?_⟩
    rw [List.take_add_one, hx]; rfl)
  rw [e1, e2, List.take_length, Option.bind_some, aft_inr, Option.bind_some, Option.bind_some, appL (by rw [List.length_nil]; omega) rfl]
  rfl
/-! a right game, by its parts -/
theorem parity_get {g : Parity} (h : parityOk g = true) : (∀ o ∈ g.Arena.Owner, inR 2 o = true) ∧ (∀ x ∈ g.Prio, inR 41 x = true) := by
  have h' := parityOk_spec h
  simp only [parityOk, arenaOk, Bool.and_eq_true, decide_eq_true_eq, beq_iff_eq] at h
  obtain ⟨⟨⟨⟨⟨h1, h2⟩, h3⟩, h4⟩, h5⟩, h6⟩ := h
  rw [List.all_eq_true] at h4 h6
  refine ⟨fun o ho => ?_, h6⟩
  obtain ⟨i, hi⟩ := List.mem_iff_getElem?.1 ho
  have hlt := (List.getElem?_eq_some_iff.1 hi).1
  have hr : g.Arena.Next[i]? = some (g.Arena.Next[i]'(by omega)) := List.getElem?_eq_getElem (by omega)
  have := h4 (_, i) (List.mem_zipIdx_iff_getElem?.2 hr)
  simp only [vertOk, hi, Bool.and_eq_true] at this
  exact this.1.1.1
theorem parity_mk {g : Parity} (h1 : 1 ≤ g.Arena.Owner.length) (h2 : g.Arena.Owner.length ≤ 256) (h3 : g.Arena.Next.length = g.Arena.Owner.length) (h4 : g.Prio.length = g.Arena.Owner.length) (h5 : ∀ row ∈ g.Arena.Next, 1 ≤ row.length ∧ row.length ≤ 16 ∧ setOk (g.Arena.Owner.length : Int) row = true) (h6 : ∀ o ∈ g.Arena.Owner, inR 2 o = true) (h7 : ∀ x ∈ g.Prio, inR 41 x = true) : parityOk g = true := by
  simp only [parityOk, arenaOk, Bool.and_eq_true, decide_eq_true_eq, beq_iff_eq]
  refine ⟨⟨⟨⟨⟨by omega, by omega⟩, by omega⟩, ?_⟩, by omega⟩, by rw [List.all_eq_true]; exact h7⟩
  rw [List.all_eq_true]
  rintro ⟨row, i⟩ hx
  have hx := List.mem_zipIdx_iff_getElem?.1 hx
  dsimp only at hx ⊢
  have hlt := (List.getElem?_eq_some_iff.1 hx).1
  obtain ⟨k1, k2, k3⟩ := h5 row (List.mem_of_getElem? hx)
  have ho : g.Arena.Owner[i]? = some (g.Arena.Owner[i]'(by omega)) := List.getElem?_eq_getElem (by omega)
  have := h6 _ (List.getElem_mem (show i < g.Arena.Owner.length by omega))
  unfold vertOk
  simp only [ho, this, k3, Bool.and_true, Bool.true_and, Bool.and_eq_true, decide_eq_true_eq]
  exact ⟨by omega, by omega⟩
/-- an edit, done by both -/
theorem do_same2 {g : Parity} (hp : parityOk g = true) {e : Edit} (he : editOk g e = true) : ∃ r, s_l32Do g e = some r ∧ i_edited g e = some r ∧ parityOk r = true ∧ r.Arena.Owner.length = g.Arena.Owner.length := by
  obtain ⟨h1, h2, h3, h4, h5⟩ := parityOk_spec hp
  obtain ⟨hO, hP⟩ := parity_get hp
  have h5' : ∀ row ∈ g.Arena.Next, 1 ≤ row.length ∧ row.length ≤ 16 ∧ setOk (g.Arena.Owner.length : Int) row = true := fun row hr => by
    obtain ⟨i, hi⟩ := List.mem_iff_getElem?.1 hr
    exact h5 i row hi
  have he' := he
  unfold editOk at he'
  rw [Bool.and_eq_true] at he'
  obtain ⟨v0, v1⟩ := inR_iff.1 he'.1
  obtain ⟨v, hv⟩ := ex_nat v0
  have hr : g.Arena.Next[v]? = some (g.Arena.Next[v]'(by omega)) := List.getElem?_eq_getElem (by omega)
  have hpv : g.Prio[v]? = some (g.Prio[v]'(by omega)) := List.getElem?_eq_getElem (by omega)
  have hov : g.Arena.Owner[v]? = some (g.Arena.Owner[v]'(by omega)) := List.getElem?_eq_getElem (by omega)
  have hk := he'.2
  rw [hv, Int.toNat_natCast, hr] at hk
  have hrow := h5 v _ hr
  generalize g.Arena.Next[v]'(by omega) = row at hr hk hrow
  obtain ⟨r1, r2, r3⟩ := hrow
  obtain ⟨r4, r5⟩ := setOk_iff.1 r3
  have hmem : ∀ z, hasI row z = decide (z ∈ row) := fun z => by
    unfold hasI
    rw [Bool.eq_iff_iff]
    simp only [List.any_eq_true, beq_iff_eq, decide_eq_true_eq]
    exact ⟨fun ⟨x, hx, e⟩ => e ▸ hx, fun h => ⟨z, h, rfl⟩⟩
  simp only [editRow] at hk
  unfold s_l32Do i_edited
  rw [s_l4Copy_eq hp, i_copyParity_eq hp, Option.bind_some, Option.bind_some, hv]
  cases k1 : e.Kind == 1 with
  | true =>
    rw [k1] at hk
    have hk : inR 41 e.N = true := hk
    simp only [cond_true, idx_nat, hpv, Option.bind_some, setI_nat (xs := g.Prio) (x := e.N) (i := v) (by omega)]
    refine ⟨_, rfl, rfl, parity_mk h1 h2 h3 (by dsimp only; rw [List.length_set]; exact h4) h5' hO fun x hx => ?_, rfl⟩
    rcases List.mem_or_eq_of_mem_set hx with hx | rfl
    · exact hP x hx
    · exact hk
  | false =>
    cases k2 : e.Kind == 2 with
    | true =>
      rw [k1, k2] at hk
      have hk : inR 2 e.N = true := hk
      simp only [cond_true, cond_false, idx_nat, hov, Option.bind_some, setI_nat (xs := g.Arena.Owner) (x := e.N) (i := v) (by omega)]
      refine ⟨_, rfl, rfl, parity_mk (by dsimp only; rw [List.length_set]; exact h1) (by dsimp only; rw [List.length_set]; exact h2) (by dsimp only; rw [List.length_set]; exact h3) (by dsimp only; rw [List.length_set]; exact h4) (by dsimp only; rw [List.length_set]; exact h5') (fun x hx => ?_) hP, by dsimp only; rw [List.length_set]⟩
      rcases List.mem_or_eq_of_mem_set hx with hx | rfl
      · exact hO x hx
      · exact hk
    | false =>
      -- a new row
      have hnew : ∀ row' : List Int, 1 ≤ row'.length → row'.length ≤ 16 → setOk (g.Arena.Owner.length : Int) row' = true → parityOk ⟨⟨g.Arena.Owner, g.Arena.Next.set v row'⟩, g.Prio⟩ = true := fun row' q1 q2 q3 => by
        refine parity_mk h1 h2 (by dsimp only; rw [List.length_set]; exact h3) h4 (fun x hx => ?_) hO hP
        rcases List.mem_or_eq_of_mem_set hx with hx | rfl
        · exact h5' x hx
        · exact ⟨q1, q2, q3⟩
      cases k3 : e.Kind == 3 with
      | true =>
        rw [k1, k2, k3] at hk
        have hk : (inR (g.Arena.Owner.length : Int) e.N && !(hasI row e.N) && decide ((row.length : Int) < 16)) = true := hk
        rw [hmem] at hk
        simp only [Bool.and_eq_true, Bool.not_eq_true', decide_eq_false_iff_not, decide_eq_true_eq] at hk
        obtain ⟨⟨n0, n1⟩, n2⟩ := hk
        simp only [cond_true, cond_false, idx_nat, hr, Option.bind_some, into_eq r5 n1 (by omega), bothOf_eq r5 n1 (by omega), setI_nat (xs := g.Arena.Next) (x := ins e.N row) (i := v) (by omega)]
        refine ⟨_, rfl, rfl, hnew _ ?_ ?_ (setOk_iff.2 ⟨fun x hx => ?_, ins_asc r5⟩), rfl⟩
        · rw [ins_length n1 r5]; omega
        · rw [ins_length n1 r5]; omega
        · rcases (ins_mem n1 x).1 hx with rfl | hx
          · exact inR_iff.1 n0
          · exact r4 x hx
      | false =>
        cases k4 : e.Kind == 4 with
        | false => rw [k1, k2, k3, k4] at hk; cases hk
        | true =>
          rw [k1, k2, k3, k4] at hk
          have hk : (hasI row e.N && decide (1 < (row.length : Int))) = true := hk
          rw [hmem] at hk
          simp only [Bool.and_eq_true, decide_eq_true_eq] at hk
          obtain ⟨n0, n1⟩ := hk
          have hfl : (row.filter fun x => !decide (x ∈ [e.N])) = row.filter fun x => x != e.N := by
            congr 1
            funext x
            rw [Bool.eq_iff_iff]
            simp
          obtain ⟨o, w1, w2⟩ := while_out (f := s_l32Do_b1 g e) (fun j (s : List Int × Int) => s.2 = (j : Int) ∧ j ≤ row.length ∧ s.1 = (row.take j).filter fun x => x != e.N) (fun _ => False) (fun s => s.1 = row.filter fun x => x != e.N) row.length (fun j s ⟨z1, z2, z3⟩ => by
            obtain ⟨acc, i⟩ := s
            dsimp only at z1 z2 z3
            subst z1 z3
            unfold s_l32Do_b1
            dsimp only
            rw [hv, idx_nat, hr, Option.bind_some]
            by_cases hlt : (j : Int) < (row.length : Int)
            · have hxj : row[j]? = some (row[j]'(by omega)) := List.getElem?_eq_getElem (by omega)
              have hlen : ((row.take j).filter fun x => x != e.N).length ≤ 100000 := Nat.le_trans (List.length_filter_le ..) (by rw [List.length_take]; omega)
              generalize row[j]'(by omega) = x at hxj
              simp only [hlt, decide_true, cond_true, Option.bind_some, idx_nat, hxj]
              have hw : IntKind.i64.wrap ((j : Int) + 1) = ((j + 1 : Nat) : Int) := by rw [wr' (by omega) (by omega)]; omega
              rw [hw]
              cases hx : (x != e.N) with
              | true =>
                simp only [cond_true]
                rw [app1 (by omega) rfl]
                refine ⟨_, rfl, by omega, rfl, by omega, ?_⟩
                rw [List.take_add_one, hxj, List.filter_append]
                simp [hx]
              | false =>
                refine ⟨_, rfl, by omega, rfl, by omega, ?_⟩
                rw [List.take_add_one, hxj, List.filter_append]
                simp [hx]
            · simp only [hlt, decide_false, cond_false]
              refine ⟨_, rfl, ?_⟩
              dsimp only
              rw [List.take_of_length_le (by omega)])
            (2 ^ 64) 0 ([], 0) (by omega) ⟨rfl, by omega, rfl⟩ (by omega)
          match o, w2 with
          | .inr s, w2 =>
            simp only [cond_true, cond_false, idx_nat, hr, Option.bind_some, w1, aft_inr, w2, lessOf_eq (xs := row) (ys := [e.N]) (by simp) (by simp) (by omega), hfl, setI_nat (xs := g.Arena.Next) (x := row.filter fun x => x != e.N) (i := v) (by omega)]
            refine ⟨_, rfl, rfl, hnew _ ?_ ?_ (setOk_iff.2 ⟨fun x hx => r4 x (List.mem_filter.1 hx).1, r5.filter _⟩), rfl⟩
            · -- one that differs is left
              have : ∃ x ∈ row, x ≠ e.N := by
                apply Classical.byContradiction
                intro hno
                have hall : ∀ x ∈ row, x = e.N := fun x hx => Classical.byContradiction fun h => hno ⟨x, hx, h⟩
                have a0 : row[0]? = some (row[0]'(by omega)) := List.getElem?_eq_getElem (by omega)
                have a1 : row[1]? = some (row[1]'(by omega)) := List.getElem?_eq_getElem (by omega)
                have := asc_get r5 a0 a1 (by omega)
                have b0 := hall _ (List.mem_of_getElem? a0)
                have b1 := hall _ (List.mem_of_getElem? a1)
                omega
              obtain ⟨x, hx, hne⟩ := this
              exact List.length_pos_of_mem (List.mem_filter.2 ⟨hx, by simp [hne]⟩)
            · exact Nat.le_trans (List.length_filter_le ..) (by omega)
theorem do_same {g : Parity} (hp : parityOk g = true) {e : Edit} (he : editOk g e = true) : ∃ r, s_l32Do g e = some r ∧ i_edited g e = some r ∧ parityOk r = true := by
  obtain ⟨r, h1, h2, h3, _⟩ := do_same2 hp he
  exact ⟨r, h1, h2, h3⟩
theorem parity_ct {g : Parity} (hp : parityOk g = true) : ((ctL (fun _ => 1)) g.Arena.Owner : Nat) ≤ 1000000000000000 ∧ ((ctL (ctL (fun _ => 1))) g.Arena.Next : Nat) ≤ 1000000000000000 ∧ ((ctL (fun _ => 1)) g.Prio : Nat) ≤ 1000000000000000 := by
  obtain ⟨h1, h2, h3, h4, h5⟩ := parityOk_spec hp
  have := ctL_bd (c := ctL (fun _ : Int => 1)) (N := 256) (M := 16) (xs := g.Arena.Next) (by omega) (fun row hr => by
    obtain ⟨i, hi⟩ := List.mem_iff_getElem?.1 hr
    rw [ctL_one]
    exact (h5 i row hi).2.1)
  rw [ctL_one, ctL_one]
  omega
end Go.Proofs.Ytndiklipffipcaa
