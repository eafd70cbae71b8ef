/- LeastOf: both sides compute the same. -/
import Derived.Test.YtfmkhnlnomkcfaaLassoC12
import Derived.Test.YtfmkhnlnomkcfaaMachC12
set_option linter.unusedVariables false
set_option linter.unusedSimpArgs false
namespace Go.Proofs.Ytfmkhnlnomkcfaa
open Go Go.Wk Go.Proofs

def atL (L : List Int) (q : Int) : Int := L.getD q.toNat 0
theorem atL_get {L : List Int} {q : Int} (q0 : 0 ≤ q) (q1 : q < L.length) : idx L q = some (atL L q) := by
  obtain ⟨x, h5, _⟩ := get_el (xs := L) q0 q1
  unfold atL
  rw [h5]
  rw [idx_int q0] at h5
  rw [List.getD_eq_getElem?_getD, h5, Option.getD_some]
def near (m : Machine) (L : List Int) (p q : Nat) : Bool :=
  decide (atL L p = atL L q) && (decide (m.Out.getD p [] = m.Out.getD q []) && decide ((m.Next.getD p []).map (atL L) = (m.Next.getD q []).map (atL L)))
theorem near_refl (m : Machine) (L : List Int) (q : Nat) : near m L q q = true := by simp [near]
/-- a machine with its rows -/
structure Mok (l : Int) (n : Nat) (m : Machine) : Prop where
  hn : 1 ≤ n ∧ n ≤ 48
  next : m.Next.length = n
  out : m.Out.length = n
  nx : ∀ q, q < n → ∃ row, m.Next[q]? = some row ∧ m.Next.getD q [] = row ∧ (row.length : Int) = l ∧ ∀ x ∈ row, 0 ≤ x ∧ x < n
  ou : ∀ q, q < n → ∃ row, m.Out[q]? = some row ∧ m.Out.getD q [] = row ∧ (row.length : Int) = l
  hl : 0 ≤ l ∧ l ≤ 4
theorem Mok.of {p : Sig} {m : Machine} (h : machOk p m = true) : Mok (pw p.In) m.Next.length m := by
  obtain ⟨h1, h2, h3, h4, h5⟩ := machOk_spec h
  have pI := pw_le p.In
  refine ⟨⟨h1, h2⟩, rfl, h3, fun q hq => ?_, fun q hq => ?_, by omega⟩
  · refine ⟨m.Next[q], List.getElem?_eq_getElem hq, by simp [hq], ?_⟩
    exact h4 _ (List.getElem_mem hq)
  · have hq' : q < m.Out.length := by omega
    refine ⟨m.Out[q], List.getElem?_eq_getElem hq', by simp [hq'], ?_⟩
    exact (h5 _ (List.getElem_mem hq')).1
section
variable {l : Int} {n : Nat} {m : Machine} (hm : Mok l n m)
include hm
theorem s_l29Near_eq {L : List Int} (hL : L.length = n) {p q : Nat} (hp : p < n) (hq : q < n) : s_l29Near m L p q = some (near m L p q) := by
  obtain ⟨rp, a1, a2, a3, a4⟩ := hm.nx p hp
  obtain ⟨rq, b1, b2, b3, b4⟩ := hm.nx q hq
  obtain ⟨op, c1, c2, c3⟩ := hm.ou p hp
  obtain ⟨oq, d1, d2, d3⟩ := hm.ou q hq
  obtain ⟨n0, n1⟩ := hm.hn
  obtain ⟨l0, l1⟩ := hm.hl
  unfold s_l29Near
  rw [atL_get (by omega) (by omega), Option.bind_some, atL_get (by omega) (by omega), Option.bind_some]
  have hv : near m L p q = (decide (atL L p = atL L q) && (decide (op = oq) && decide (rp.map (atL L) = rq.map (atL L)))) := by unfold near; rw [a2, b2, c2, d2]
  rw [hv, bne]
  by_cases he : atL L p = atL L q
  · have : ((atL L p == atL L q) : Bool) = true := by rw [beq_iff_eq]; exact he
    rw [this]
    simp only [Bool.not_true, cond_false, he, decide_true, Bool.true_and]
    obtain ⟨o, h1, h2⟩ := while_out (f := s_l29Near_b0 m L p q) (fun j (s : Int) => s = (j : Int) ∧ j ≤ rp.length ∧ ∀ i, i < j → op[i]? = oq[i]? ∧ (rp.map (atL L))[i]? = (rq.map (atL L))[i]?) (fun r => r = false ∧ ¬ (op = oq ∧ rp.map (atL L) = rq.map (atL L))) (fun _ => op = oq ∧ rp.map (atL L) = rq.map (atL L)) 4 (fun j s ⟨hs, hj, hall⟩ => by
      subst hs
      unfold s_l29Near_b0
      rw [idx_nat, idx_nat, idx_nat, idx_nat, a1, b1, c1, d1]
      simp only [Option.bind_some]
      by_cases hlt : (j : Int) < (rp.length : Int)
      · have e1 : rp[j]? = some (rp[j]'(by omega)) := List.getElem?_eq_getElem (by omega)
        have e2 : rq[j]? = some (rq[j]'(by omega)) := List.getElem?_eq_getElem (by omega)
        have e3 : op[j]? = some (op[j]'(by omega)) := List.getElem?_eq_getElem (by omega)
        have e4 : oq[j]? = some (oq[j]'(by omega)) := List.getElem?_eq_getElem (by omega)
        generalize rp[j]'(by omega) = x at e1
        generalize rq[j]'(by omega) = y at e2
        generalize op[j]'(by omega) = u at e3
        generalize oq[j]'(by omega) = v at e4
        obtain ⟨x0, x1⟩ := a4 x (List.mem_of_getElem? e1)
        obtain ⟨y0, y1⟩ := b4 y (List.mem_of_getElem? e2)
        simp only [hlt, decide_true, cond_true, idx_nat, e1, e2, e3, e4, Option.bind_some, atL_get x0 (by omega : x < L.length), atL_get y0 (by omega : y < L.length), orE, bne]
        by_cases k1 : u = v
        · by_cases k2 : atL L x = atL L y
          · have z1 : (u == v) = true := by rw [beq_iff_eq]; exact k1
            have z2 : (atL L x == atL L y) = true := by rw [beq_iff_eq]; exact k2
            rw [z1, z2]
            refine ⟨_, rfl, by omega, ?_, by omega, fun i hi => ?_⟩
            · rw [wr' (by omega) (by omega)]; omega
            · by_cases hij : i = j
              · subst hij
                rw [e3, e4, List.getElem?_map, List.getElem?_map, e1, e2]
                simp [k1, k2]
              · exact hall i (by omega)
          · have z2 : (atL L x == atL L y) = false := by rw [beq_eq_false_iff_ne]; exact k2
            rw [z2]
            simp only [Bool.not_false, Bool.or_true, cond_true]
            refine ⟨_, rfl, rfl, fun ⟨_, hh⟩ => k2 ?_⟩
            have := congrArg (fun z => z[j]?) hh
            simp only [List.getElem?_map, e1, e2, Option.map_some, Option.some.injEq] at this
            exact this
        · have z1 : (u == v) = false := by rw [beq_eq_false_iff_ne]; exact k1
          rw [z1]
          simp only [Bool.not_false, Bool.true_or, cond_true]
          refine ⟨_, rfl, rfl, fun ⟨hh, _⟩ => k1 ?_⟩
          rw [hh, e4] at e3
          exact (Option.some.inj e3).symm
      · simp only [hlt, decide_false, cond_false]
        refine ⟨_, rfl, List.ext_getElem? fun i => ?_, List.ext_getElem? fun i => ?_⟩
        · by_cases hi : i < j
          · exact (hall i hi).1
          · rw [List.getElem?_eq_none (by omega), List.getElem?_eq_none (by omega)]
        · by_cases hi : i < j
          · exact (hall i hi).2
          · rw [List.getElem?_eq_none (by rw [List.length_map]; omega), List.getElem?_eq_none (by rw [List.length_map]; omega)]) (2 ^ 64) 0 0 (by omega) ⟨rfl, by omega, fun i hi => absurd hi (Nat.not_lt_zero i)⟩ (by omega)
    rw [h1]
    match o, h2 with
    | .inl r, h2 =>
      rw [h2.1]
      have : (decide (op = oq) && decide (rp.map (atL L) = rq.map (atL L))) = false := by
        rw [Bool.eq_false_iff]
        intro hh
        simp only [Bool.and_eq_true, decide_eq_true_eq] at hh
        exact h2.2 hh
      rw [this]; rfl
    | .inr s, h2 =>
      rw [decide_eq_true h2.1, decide_eq_true h2.2]; rfl
  · have : ((atL L p == atL L q) : Bool) = false := by rw [beq_eq_false_iff_ne]; exact he
    rw [this]
    simp [he]
end
theorem near_out {m : Machine} {L : List Int} {p q : Nat} (h : near m L p q = true) : atL L p = atL L q ∧ m.Out.getD p [] = m.Out.getD q [] := by
  simp only [near, Bool.and_eq_true, decide_eq_true_eq] at h
  exact ⟨h.1, h.2.1⟩
/-- the first state near to one -/
def firstN (c : Nat → Bool) (q : Nat) : Nat := ((List.range (q + 1)).find? c).getD q
theorem firstN_spec {c : Nat → Bool} {q : Nat} (h : c q = true) : firstN c q ≤ q ∧ c (firstN c q) = true ∧ ∀ p, p < firstN c q → c p = false := by
  unfold firstN
  cases hf : (List.range (q + 1)).find? c with
  | none =>
    rw [List.find?_eq_none] at hf
    exact absurd h (hf q (by simp))
  | some p =>
    rw [List.find?_range_eq_some] at hf
    obtain ⟨h1, h2, h3⟩ := hf
    rw [List.mem_range] at h2
    refine ⟨by show p ≤ q; omega, h1, fun i hi => ?_⟩
    have := h3 i hi
    simpa using this
theorem firstN_near (m : Machine) (L : List Int) (q : Nat) : firstN (fun p => near m L p q) q ≤ q ∧ near m L (firstN (fun p => near m L p q) q) q = true ∧ ∀ p, p < firstN (fun p => near m L p q) q → near m L p q = false := firstN_spec (c := fun p => near m L p q) (near_refl m L q)
theorem firstN_uniq {c : Nat → Bool} {q p : Nat} (h : c q = true) (h1 : c p = true) (h2 : ∀ i, i < p → c i = false) : p = firstN c q := by
  obtain ⟨a1, a2, a3⟩ := firstN_spec h
  rcases Nat.lt_trichotomy p (firstN c q) with h' | h' | h'
  · rw [a3 p h'] at h1; cases h1
  · exact h'
  · rw [h2 _ h'] at a2; cases a2
/-- one turn of the parting -/
def part1 (m : Machine) (L : List Int) : List Int := (List.range L.length).map (fun q => ((firstN (fun p => near m L p q) q : Nat) : Int))
theorem part1_len (m : Machine) (L : List Int) : (part1 m L).length = L.length := by simp [part1]
theorem part1_at {m : Machine} {L : List Int} {q : Nat} (hq : q < L.length) : atL (part1 m L) q = (firstN (fun p => near m L p q) q : Nat) := by
  simp [atL, part1, hq]
/-- the states' numbers are not above the states -/
def Low (L : List Int) : Prop := ∀ q : Nat, q < L.length → 0 ≤ atL L q ∧ atL L q ≤ q
theorem part1_low (m : Machine) (L : List Int) : Low (part1 m L) := fun q hq => by
  rw [part1_len] at hq
  rw [part1_at hq]
  have := (firstN_near m L q).1
  omega
theorem part1_ge {m : Machine} {L : List Int} (h : Low L) {q : Nat} (hq : q < L.length) : atL L q ≤ atL (part1 m L) q := by
  rw [part1_at hq]
  obtain ⟨a1, a2, _⟩ := firstN_near m L q
  have h2 := (h (firstN (fun p => near m L p q) q) (by omega)).2
  have a3 := (near_out a2).1
  rw [a3] at h2
  exact h2
def sumL : List Int → Int
  | [] => 0
  | x :: xs => x + sumL xs
theorem sumL_le : ∀ {xs ys : List Int}, xs.length = ys.length → (∀ (i : Nat) x y, xs[i]? = some x → ys[i]? = some y → x ≤ y) → sumL xs ≤ sumL ys ∧ (sumL xs = sumL ys → xs = ys)
  | [], [], _, _ => ⟨Int.le_refl _, fun _ => rfl⟩
  | [], _ :: _, h, _ => by cases h
  | _ :: _, [], h, _ => by cases h
  | x :: xs, y :: ys, h, hh => by
    have h1 := hh 0 x y rfl rfl
    obtain ⟨h2, h3⟩ := sumL_le (xs := xs) (ys := ys) (by simpa using h) fun i a b ha hb => hh (i + 1) a b (by simpa using ha) (by simpa using hb)
    refine ⟨by simp only [sumL]; omega, fun e => ?_⟩
    simp only [sumL] at e
    rw [h3 (by omega), show x = y from by omega]
theorem sumL_bd {n : Int} : ∀ {xs : List Int}, (∀ x ∈ xs, 0 ≤ x ∧ x ≤ n) → 0 ≤ sumL xs ∧ sumL xs ≤ xs.length * n
  | [], _ => by simp [sumL]
  | x :: xs, h => by
    have h1 := h x (List.mem_cons_self ..)
    have h2 := sumL_bd (n := n) (xs := xs) fun y hy => h y (List.mem_cons_of_mem _ hy)
    simp only [sumL, List.length_cons]
    have e : ((xs.length + 1 : Nat) : Int) * n = xs.length * n + n := by rw [Int.natCast_add, Int.add_mul]; simp
    omega
/-- how far the parting may still go -/
def left (L : List Int) : Nat := (2400 - sumL L).toNat
theorem atL_eq {L : List Int} {q : Nat} {x : Int} (h : L[q]? = some x) : atL L q = x := by simp [atL, h]
theorem low_mem {L : List Int} (h : Low L) (hl : L.length ≤ 48) : ∀ x ∈ L, 0 ≤ x ∧ x ≤ 48 := fun x hx => by
  obtain ⟨q, hq⟩ := List.mem_iff_getElem?.1 hx
  have hlt := (List.getElem?_eq_some_iff.1 hq).1
  have := h q hlt
  rw [atL_eq hq] at this
  omega
theorem left_lt {m : Machine} {L : List Int} (h : Low L) (hl : L.length ≤ 48) (hne : part1 m L ≠ L) : left (part1 m L) < left L := by
  have hge := sumL_le (xs := L) (ys := part1 m L) (part1_len m L).symm fun i x y hx hy => by
    have hlt := (List.getElem?_eq_some_iff.1 hx).1
    have := part1_ge (m := m) h hlt
    rw [atL_eq hx, atL_eq hy] at this
    exact this
  have hlt : sumL L < sumL (part1 m L) := by
    rcases Int.lt_or_eq_of_le hge.1 with h' | h'
    · exact h'
    · exact absurd (hge.2 h').symm hne
  have hl' : (part1 m L).length ≤ 48 := by rw [part1_len]; exact hl
  have b1 := sumL_bd (low_mem (part1_low m L) hl')
  have b2 : ((part1 m L).length : Int) * 48 ≤ 48 * 48 := Int.mul_le_mul_of_nonneg_right (by omega) (by omega)
  unfold left
  omega
/-- the parting, till it rests -/
def rest (m : Machine) : Nat → List Int → List Int
  | 0, L => L
  | k + 1, L => if part1 m L = L then L else rest m k (part1 m L)
theorem rest_fix {m : Machine} {L : List Int} (h : part1 m L = L) : ∀ k, rest m k L = L
  | 0 => rfl
  | k + 1 => by simp [rest, h]
theorem rest_more {m : Machine} : ∀ (k k' : Nat) (L : List Int), Low L → L.length ≤ 48 → left L < k → left L < k' → rest m k L = rest m k' L
  | 0, _, _, _, _, h, _ => absurd h (Nat.not_lt_zero _)
  | _, 0, _, _, _, _, h => absurd h (Nat.not_lt_zero _)
  | k + 1, k' + 1, L, hlow, hl, h1, h2 => by
    simp only [rest]
    by_cases he : part1 m L = L
    · rw [if_pos he, if_pos he]
    · rw [if_neg he, if_neg he]
      have := left_lt hlow hl he
      exact rest_more k k' _ (part1_low m L) (by rw [part1_len]; exact hl) (by omega) (by omega)
theorem rest_low {m : Machine} : ∀ (k : Nat) (L : List Int), Low L → Low (rest m k L) ∧ (rest m k L).length = L.length
  | 0, L, h => ⟨h, rfl⟩
  | k + 1, L, h => by
    simp only [rest]
    split
    · exact ⟨h, rfl⟩
    · have := rest_low (m := m) k _ (part1_low m L)
      rw [part1_len] at this
      exact this
section
variable {l : Int} {n : Nat} {m : Machine} (hm : Mok l n m)
include hm
theorem s_turn {L : List Int} (hL : L.length = n) : cntM (s_l29Alike_b2 m L) L.length 0 ([] : List Int) = some (.inr (part1 m L)) := by
  obtain ⟨n0, n1⟩ := hm.hn
  obtain ⟨s, h1, h2⟩ := cnt_inv (f := s_l29Alike_b2 m L) (fun j s => s = (List.range j).map (fun q => ((firstN (fun p => near m L p q) q : Nat) : Int))) L.length (s := []) rfl (fun j s hj hs => by
    subst hs
    unfold s_l29Alike_b2
    obtain ⟨a1, a2, a3⟩ := firstN_near m L j
    obtain ⟨o, k1, k2⟩ := while_out (f := s_l29Alike_b4 m L j) (fun i (s : Int) => s = (i : Int) ∧ i ≤ j ∧ ∀ p, p < i → near m L p j = false) (fun _ => False) (fun s => s = (firstN (fun p => near m L p j) j : Nat)) j (fun i s ⟨hs, hi, hall⟩ => by
      subst hs
      unfold s_l29Alike_b4
      rw [s_l29Near_eq hm hL (by omega) (by omega), Option.bind_some]
      cases hn : near m L i j with
      | true => exact ⟨_, rfl, by rw [firstN_uniq (c := fun p => near m L p j) (near_refl m L j) hn hall]⟩
      | false =>
        have hij : i ≠ j := fun e => by rw [e, near_refl] at hn; cases hn
        refine ⟨_, rfl, by omega, ?_, by omega, fun p hp => ?_⟩
        · rw [wr' (by omega) (by omega)]; omega
        · by_cases hpi : p = i
          · rw [hpi]; exact hn
          · exact hall p (by omega)) (2 ^ 64) 0 0 (by omega) ⟨rfl, by omega, fun p hp => absurd hp (Nat.not_lt_zero p)⟩ (by omega)
    match o, k2 with
    | .inr s, k2 =>
      rw [show ((0 : Int)) = ((0 : Int)) from rfl, k1, Option.bind_some, aft_inr, k2, app1 (by simp; omega) rfl]
      exact ⟨_, rfl, by rw [List.range_succ, List.map_append]; rfl⟩)
  rw [h1, h2]
  rfl
omit hm in
theorem s_l7Same_eq (xs ys : List Int) : s_l7Same xs ys = some (decide (xs = ys)) := by
  unfold s_l7Same
  rw [len_ne]
  by_cases h : xs.length = ys.length
  · simp only [h, decide_true, Bool.not_true, cond_false]
    rw [← h, cnt_two (f := s_l7Same_b0 xs ys) (r := false) (fun x y => decide (x = y)) h (fun i x y hx hy => by
      unfold s_l7Same_b0
      rw [idx_nat, hx, Option.bind_some, idx_nat, hy, Option.bind_some]
      by_cases e : x = y
      · subst e; simp
      · have e' : (x == y) = false := by simp [e]
        simp [bne, e', e]), zip_all_eq h]
    by_cases e : xs = ys
    · simp [e, aft]
    · simp [e, aft]
  · have : ¬ (xs = ys) := fun e => h (by rw [e])
    simp [h, this]
theorem s_rest : ∀ (k K : Nat) (L : List Int), L.length = n → Low L → left L < k → k ≤ K → whileM (s_l29Alike_b0 m) K L = some (.inl (rest m k L))
  | 0, _, _, _, _, h, _ => absurd h (Nat.not_lt_zero _)
  | k + 1, K, L, hL, hlow, hk, hK => by
    obtain ⟨n0, n1⟩ := hm.hn
    rw [whileM_pos (by omega)]
    have hb : s_l29Alike_b0 m L = some (if part1 m L = L then .inl L else .inr (.inr (part1 m L))) := by
      unfold s_l29Alike_b0
      rw [s_turn hm hL, Option.bind_some, aft_inr, s_l7Same_eq, Option.bind_some]
      by_cases he : part1 m L = L
      · simp [he]
      · simp [he]
    rw [hb, Option.bind_some]
    simp only [rest]
    by_cases he : part1 m L = L
    · rw [if_pos he, if_pos he]; rfl
    · rw [if_neg he, if_neg he, lpK_nxt]
      have := left_lt (m := m) hlow (by omega) he
      exact s_rest k (K - 1) _ (by rw [part1_len]; exact hL) (part1_low m L) (by omega) (by omega)
/-- the states with like outputs -/
theorem first_part {q : Nat} (hq : q < n) (p : Nat) : near m (List.replicate n 0) p q = decide (m.Out.getD p [] = m.Out.getD q []) ∨ n ≤ p := by
  by_cases hp : p < n
  · left
    have h0 : ∀ x : Int, atL (List.replicate n 0) x = 0 := fun x => by
      unfold atL
      rw [List.getD_eq_getElem?_getD, List.getElem?_replicate]
      split <;> rfl
    unfold near
    obtain ⟨rp, a1, a2, a3, a4⟩ := hm.nx p hp
    obtain ⟨rq, b1, b2, b3, b4⟩ := hm.nx q hq
    have : rp.map (atL (List.replicate n 0)) = rq.map (atL (List.replicate n 0)) := by
      have e : ∀ r : List Int, r.map (atL (List.replicate n 0)) = List.replicate r.length 0 := fun r => by
        induction r with
        | nil => rfl
        | cons x r ih => rw [List.map_cons, ih, h0]; rfl
      rw [e, e, show rp.length = rq.length from by omega]
    rw [a2, b2, this, h0, h0]
    simp
  · exact .inr (by omega)
end
section
variable {l : Int} {n : Nat} {m : Machine} (hm : Mok l n m)
include hm
/-- a parting that keeps unlike outputs apart -/
def Apart (m : Machine) (L : List Int) : Prop := ∀ p q : Nat, p < L.length → q < L.length → atL L p = atL L q → m.Out.getD p [] = m.Out.getD q []
omit hm in
theorem part1_apart (m : Machine) (L : List Int) : Apart m (part1 m L) := fun p q hp hq he => by
  rw [part1_len] at hp hq
  rw [part1_at hp, part1_at hq] at he
  have a := (firstN_near m L p).2.1
  have b := (firstN_near m L q).2.1
  have a := near_out a
  have b := near_out b
  have he : firstN (fun p_1 => near m L p_1 p) p = firstN (fun p_1 => near m L p_1 q) q := by omega
  rw [← a.2, ← b.2, he]
omit hm in
/-- a search that fills one place -/
theorem search_go {f : Int → List Int → Option (List Int ⊕ (List Int ⊕ List Int))} {c : Nat → Bool} {q : Nat} {s : List Int} (hq : c q = true)
    (h : ∀ i : Nat, i ≤ q → f (i : Int) s = some (if c i then .inr (.inl (s.set q (i : Int))) else .inr (.inr s))) : ∀ (k j : Nat), j + k = q + 1 → (∀ i, i < j → c i = false) → cntM f k (j : Int) s = some (.inr (s.set q ((firstN c q : Nat) : Int)))
  | 0, j, hj, hall => by rw [hall q (by omega)] at hq; cases hq
  | k + 1, j, hj, hall => by
    show Option.bind (f j s) _ = _
    rw [h j (by omega), Option.bind_some]
    cases hc : c j with
    | true =>
      rw [← firstN_uniq hq hc hall]
      rfl
    | false =>
      simp only [Bool.false_eq_true, if_false, lpK_nxt]
      have := search_go hq h k (j + 1) (by omega) fun i hi => by
        by_cases e : i = j
        · rw [e]; exact hc
        · exact hall i (by omega)
      exact this

omit hm in
theorem search_fill {f : Int → List Int → Option (List Int ⊕ (List Int ⊕ List Int))} (c : Nat → Bool) {q : Nat} {s : List Int} (hq : c q = true) (hs : q < s.length)
    (h : ∀ i : Nat, i ≤ q → f (i : Int) s = some (if c i then .inr (.inl (s.set q (i : Int))) else .inr (.inr s))) : cntM f (q + 1) 0 s = some (.inr (s.set q ((firstN c q : Nat) : Int))) := by
  exact search_go hq h (q + 1) 0 (by omega) fun i hi => absurd hi (Nat.not_lt_zero i)
theorem i_first : cntM (i_alikeStates_b0 m) n 0 (List.replicate n (0 : Int)) = some (.inr (part1 m (List.replicate n 0))) := by
  obtain ⟨n0, n1⟩ := hm.hn
  obtain ⟨s, h1, h2, h3⟩ := cnt_inv (f := i_alikeStates_b0 m) (fun j (s : List Int) => s.length = n ∧ ∀ q : Nat, q < j → s[q]? = some ((firstN (fun p => near m (List.replicate n 0) p q) q : Nat) : Int)) n (s := List.replicate n (0 : Int)) ⟨by simp, fun q hq => absurd hq (Nat.not_lt_zero q)⟩ (fun j s hj ⟨h2, h3⟩ => by
    unfold i_alikeStates_b0
    have hw : IntKind.i64.wrap ((j : Int) + 1) = ((j + 1 : Nat) : Int) := by rw [wr' (by omega) (by omega)]; omega
    have hr : rng ((j + 1 : Nat) : Int) = some () := by unfold rng; rw [if_pos (by omega)]
    obtain ⟨oj, d1, d2, d3⟩ := hm.ou j hj
    have hs := search_fill (f := i_alikeStates_b2 m j) (fun p => near m (List.replicate n 0) p j) (q := j) (s := s) (near_refl _ _ _) (by omega) (fun i hi => by
      obtain ⟨oi, c1, c2, c3⟩ := hm.ou i (by omega)
      unfold i_alikeStates_b2
      have hfp := (first_part hm hj i).resolve_right (by omega)
      rw [hfp, c2, d2, idx_nat, idx_nat, c1, d1]
      simp only [Option.bind_some, slices_Equal_I_int64_eq]
      have : idx s (j : Int) = some (s[j]'(by omega)) := by rw [idx_nat]; exact List.getElem?_eq_getElem (by omega)
      by_cases e : oj = oi
      · subst e
        simp only [decide_true, cond_true, this, Option.bind_some, setI_nat (show j < s.length by omega), if_true]
      · have e' : ¬ oi = oj := fun h => e h.symm
        simp [e, e'])
    rw [hw, hr, Option.bind_some, Int.sub_zero, Int.toNat_natCast, hs]
    refine ⟨_, rfl, by rw [List.length_set]; exact h2, fun q hq => ?_⟩
    by_cases e : q = j
    · subst e; rw [List.getElem?_set_self (by omega)]
    · rw [List.getElem?_set_ne (fun h => e h.symm)]
      exact h3 q (by omega))
  rw [h1]
  congr 2
  apply List.ext_getElem?
  intro q
  by_cases hq : q < n
  · rw [h3 q hq]; simp [part1, hq]
  · rw [List.getElem?_eq_none (by omega), List.getElem?_eq_none (by rw [part1_len]; simp; omega)]
theorem i_near {L : List Int} (hL : L.length = n) (ha : Apart m L) {p q : Nat} (hp : p < n) (hq : q < n) {row : List Int} (hr : m.Next[q]? = some row) :
    cntM (i_alikeStates_b10 m L q p) row.length 0 (atL L q == atL L p) = some (.inr (near m L p q)) := by
  obtain ⟨rp, a1, a2, a3, a4⟩ := hm.nx p hp
  obtain ⟨rq, b1, b2, b3, b4⟩ := hm.nx q hq
  rw [b1] at hr
  obtain rfl : rq = row := Option.some.inj hr
  obtain ⟨s, h1, h2⟩ := cnt_inv (f := i_alikeStates_b10 m L q p) (fun j (s : Bool) => s = (decide (atL L p = atL L q) && decide ((rp.map (atL L)).take j = (rq.map (atL L)).take j))) rq.length (s := (atL L q == atL L p)) (by
    by_cases e : atL L p = atL L q
    · simp [e]
    · have e' : ¬ atL L q = atL L p := fun h => e h.symm
      simp [e, e']) (fun j s hj hs => by
    have e1 : rp[j]? = some (rp[j]'(by omega)) := List.getElem?_eq_getElem (by omega)
    have e2 : rq[j]? = some (rq[j]'(by omega)) := List.getElem?_eq_getElem (by omega)
    generalize rp[j]'(by omega) = x at e1
    generalize rq[j]'(by omega) = y at e2
    obtain ⟨x0, x1⟩ := a4 x (List.mem_of_getElem? e1)
    obtain ⟨y0, y1⟩ := b4 y (List.mem_of_getElem? e2)
    unfold i_alikeStates_b10
    rw [idx_nat, idx_nat, a1, b1]
    simp only [Option.bind_some, idx_nat, e1, e2, atL_get x0 (by omega : x < L.length), atL_get y0 (by omega : y < L.length), andE]
    refine ⟨_, rfl, ?_⟩
    have t1 : (rp.map (atL L)).take (j + 1) = (rp.map (atL L)).take j ++ [atL L x] := by rw [List.take_add_one, List.getElem?_map, e1]; rfl
    have t2 : (rq.map (atL L)).take (j + 1) = (rq.map (atL L)).take j ++ [atL L y] := by rw [List.take_add_one, List.getElem?_map, e2]; rfl
    have hlen : ((rp.map (atL L)).take j).length = ((rq.map (atL L)).take j).length := by simp; omega
    rw [t1, t2, hs, Bool.and_assoc]
    congr 1
    rw [Bool.eq_iff_iff]
    simp only [Bool.and_eq_true, decide_eq_true_eq, beq_iff_eq]
    constructor
    · rintro ⟨h1, h2⟩
      rw [h1, h2]
    · intro h
      have := List.append_inj h hlen
      exact ⟨this.1, by simpa using this.2.symm⟩)
  rw [h1, h2]
  congr 2
  unfold near
  rw [a2, b2]
  rw [List.take_of_length_le (by rw [List.length_map]; omega), List.take_of_length_le (by rw [List.length_map]; omega)]
  by_cases he : atL L p = atL L q
  · have := ha p q (by omega) (by omega) he
    rw [decide_eq_true he, decide_eq_true this]
    rfl
  · rw [decide_eq_false he]
    rfl
theorem i_turn {L : List Int} (hL : L.length = n) (ha : Apart m L) : cntM (i_alikeStates_b6 m L) L.length 0 (List.replicate n (0 : Int)) = some (.inr (part1 m L)) := by
  obtain ⟨n0, n1⟩ := hm.hn
  obtain ⟨s, h1, h2, h3⟩ := cnt_inv (f := i_alikeStates_b6 m L) (fun j (s : List Int) => s.length = n ∧ ∀ q : Nat, q < j → s[q]? = some ((firstN (fun p => near m L p q) q : Nat) : Int)) L.length (s := List.replicate n (0 : Int)) ⟨by simp, fun q hq => absurd hq (Nat.not_lt_zero q)⟩ (fun j s hj ⟨h2, h3⟩ => by
    unfold i_alikeStates_b6
    have hw : IntKind.i64.wrap ((j : Int) + 1) = ((j + 1 : Nat) : Int) := by rw [wr' (by omega) (by omega)]; omega
    have hr : rng ((j + 1 : Nat) : Int) = some () := by unfold rng; rw [if_pos (by omega)]
    obtain ⟨row, d1, d2, d3⟩ := hm.nx j (by omega)
    have hs := search_fill (f := i_alikeStates_b8 m L j) (fun p => near m L p j) (q := j) (s := s) (near_refl _ _ _) (by omega) (fun i hi => by
      unfold i_alikeStates_b8
      rw [atL_get (by omega) (by omega), Option.bind_some, atL_get (by omega) (by omega), Option.bind_some, idx_nat, d1, Option.bind_some, i_near hm hL ha (by omega) (by omega) d1, Option.bind_some, aft_inr]
      have : idx s (j : Int) = some (s[j]'(by omega)) := by rw [idx_nat]; exact List.getElem?_eq_getElem (by omega)
      cases near m L i j with
      | true => simp only [cond_true, this, Option.bind_some, setI_nat (show j < s.length by omega), if_true]
      | false => rfl)
    rw [hw, hr, Option.bind_some, Int.sub_zero, Int.toNat_natCast, hs]
    refine ⟨_, rfl, by rw [List.length_set]; exact h2, fun q hq => ?_⟩
    by_cases e : q = j
    · subst e; rw [List.getElem?_set_self (by omega)]
    · rw [List.getElem?_set_ne (fun h => e h.symm)]
      exact h3 q (by omega))
  rw [h1]
  congr 2
  apply List.ext_getElem?
  intro q
  by_cases hq : q < n
  · rw [h3 q (by omega)]; simp [part1, hq, hL]
  · rw [List.getElem?_eq_none (by omega), List.getElem?_eq_none (by rw [part1_len]; omega)]
theorem i_rest : ∀ (k K : Nat) (L : List Int), L.length = n → Low L → Apart m L → left L < k → k ≤ K → whileM (i_alikeStates_b4 m) K L = some (.inl (rest m k L))
  | 0, _, _, _, _, _, h, _ => absurd h (Nat.not_lt_zero _)
  | k + 1, K, L, hL, hlow, ha, hk, hK => by
    obtain ⟨n0, n1⟩ := hm.hn
    rw [whileM_pos (by omega)]
    have hb : i_alikeStates_b4 m L = some (if part1 m L = L then .inl L else .inr (.inr (part1 m L))) := by
      unfold i_alikeStates_b4
      rw [mkS_nat (by omega) rfl, Option.bind_some, hL]
      have := i_turn hm hL ha
      rw [hL] at this
      rw [this, Option.bind_some, aft_inr, slices_Equal_I_int64_eq, Option.bind_some]
      by_cases he : part1 m L = L
      · simp [he]
      · simp [he]
    rw [hb, Option.bind_some]
    simp only [rest]
    by_cases he : part1 m L = L
    · rw [if_pos he, if_pos he]; rfl
    · rw [if_neg he, if_neg he, lpK_nxt]
      have := left_lt (m := m) hlow (by omega) he
      exact i_rest k (K - 1) _ (by rw [part1_len]; exact hL) (part1_low m L) (part1_apart m L) (by omega) (by omega)
omit hm in
theorem low0 (n : Nat) : Low (List.replicate n 0) := fun q hq => by
  have : atL (List.replicate n 0) q = 0 := by
    unfold atL
    rw [List.getD_eq_getElem?_getD, List.getElem?_replicate]
    split <;> rfl
  rw [this]; omega
theorem alike_same : ∃ L, s_l29Alike m = some L ∧ i_alikeStates m = some L ∧ Low L ∧ L.length = n := by
  obtain ⟨n0, n1⟩ := hm.hn
  have hlen : (List.replicate n (0 : Int)).length = n := by simp
  have hl0 : left (List.replicate n 0) < 2500 := by
    have := sumL_bd (low_mem (low0 n) (by omega))
    unfold left; omega
  have hl1 : left (part1 m (List.replicate n 0)) < 2500 := by
    have := sumL_bd (low_mem (part1_low m (List.replicate n 0)) (by rw [part1_len]; omega))
    unfold left; omega
  refine ⟨rest m 2500 (part1 m (List.replicate n 0)), ?_, ?_, ?_⟩
  · unfold s_l29Alike
    rw [hm.next, mkS_nat (by omega) rfl, Option.bind_some, s_rest hm 2501 (2 ^ 64) _ hlen (low0 n) (by omega) (by omega), Option.bind_some, aft_inl]
    rw [show rest m 2501 (List.replicate n 0) = if part1 m (List.replicate n 0) = List.replicate n 0 then List.replicate n 0 else rest m 2500 (part1 m (List.replicate n 0)) from rfl]
    split
    · rename_i he; rw [he, rest_fix he]
    · rfl
  · unfold i_alikeStates
    rw [hm.next, mkS_nat (by omega) rfl, Option.bind_some, hlen, i_first hm, Option.bind_some, aft_inr, i_rest hm 2500 (2 ^ 64) _ (by rw [part1_len]; exact hlen) (part1_low _ _) (part1_apart _ _) hl1 (by omega), Option.bind_some, aft_inl]
  · have := rest_low (m := m) 2500 _ (part1_low m (List.replicate n 0))
    rw [part1_len, hlen] at this
    exact this
end
end Go.Proofs.Ytfmkhnlnomkcfaa
