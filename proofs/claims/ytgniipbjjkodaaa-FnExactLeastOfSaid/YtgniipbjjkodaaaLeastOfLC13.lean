/- LeastOf: the law. -/
import Derived.Test.YtgniipbjjkodaaaLeastOfC13
set_option linter.unusedVariables false
set_option linter.unusedSimpArgs false
namespace Go.Proofs.Ytgniipbjjkodaaa
open Go Go.Wk Go.Proofs

/-- a number joins a row that lacks it -/
def addN (xs : List Int) (u : Int) : List Int := if u ∈ xs then xs else xs ++ [u]
def stepN (L : List Int) (s : List Int × List Int) (x : Int) : List Int × List Int := (addN s.1 (atL L x), s.2 ++ [placeOf (addN s.1 (atL L x)) (atL L x)])
theorem place_new {xs : List Int} {u : Int} (h : u ∉ xs) : placeOf (xs ++ [u]) u = (xs.length : Nat) := by
  unfold placeOf
  have : (xs ++ [u]).findIdx? (fun x => u == x) = some xs.length := by
    rw [List.findIdx?_append]
    have h1 : xs.findIdx? (fun x => u == x) = none := by
      rw [List.findIdx?_eq_none_iff]
      intro x hx
      simp only [beq_eq_false_iff_ne]
      exact fun e => h (e ▸ hx)
    rw [h1]
    simp
  rw [this]
/-- names of states -/
def Names (n : Nat) (xs : List Int) : Prop := xs.Nodup ∧ ∀ x ∈ xs, 0 ≤ x ∧ x < n
theorem Names.len {n : Nat} {xs : List Int} (h : Names n xs) : xs.length ≤ n := nodup_lenN n xs h.1 h.2
theorem Names.add {n : Nat} {xs : List Int} (h : Names n xs) {u : Int} (u0 : 0 ≤ u) (u1 : u < n) : Names n (addN xs u) ∧ ∀ (k : Nat) v, xs[k]? = some v → (addN xs u)[k]? = some v := by
  unfold addN
  by_cases hu : u ∈ xs
  · rw [if_pos hu]; exact ⟨h, fun k v hk => hk⟩
  · rw [if_neg hu]
    refine ⟨⟨?_, fun x hx => ?_⟩, fun k v hk => ?_⟩
    · rw [List.nodup_append]
      refine ⟨h.1, by simp, fun a ha c hc e => ?_⟩
      rw [List.mem_singleton] at hc
      exact hu (by rw [← hc, ← e]; exact ha)
    · rw [List.mem_append, List.mem_singleton] at hx
      rcases hx with hx | rfl
      · exact h.2 x hx
      · exact ⟨u0, u1⟩
    · rw [List.getElem?_append_left (List.getElem?_eq_some_iff.1 hk).1]; exact hk
theorem fold_names {n : Nat} {L : List Int} (hL : Low L) (hl : L.length = n) (hn : n ≤ 48) : ∀ (row : List Int) (s : List Int × List Int), (∀ x ∈ row, 0 ≤ x ∧ x < n) → Names n s.1 →
    Names n (row.foldl (stepN L) s).1 ∧ (row.foldl (stepN L) s).2.length = s.2.length + row.length ∧ ∀ (k : Nat) v, s.1[k]? = some v → (row.foldl (stepN L) s).1[k]? = some v
  | [], s, _, h => ⟨h, rfl, fun _ _ h => h⟩
  | x :: row, s, hr, h => by
    obtain ⟨x0, x1⟩ := hr x (List.mem_cons_self ..)
    have hx := hL x.toNat (by omega)
    rw [show ((x.toNat : Nat) : Int) = x from by omega] at hx
    obtain ⟨a1, a2⟩ := h.add (u := atL L x) hx.1 (by omega)
    obtain ⟨b1, b2, b3⟩ := fold_names hL hl hn row (stepN L s x) (fun y hy => hr y (List.mem_cons_of_mem _ hy)) a1
    rw [List.foldl_cons]
    refine ⟨b1, ?_, fun k v hk => b3 k v (a2 k v hk)⟩
    rw [b2]
    simp [stepN]; omega
section
variable {l : Int} {n : Nat} {m : Machine} (hm : Mok l n m) {L : List Int} (hL : Low L) (hl : L.length = n)
include hm hL hl
omit hm in
theorem low_in {x : Int} (x0 : 0 ≤ x) (x1 : x < n) : 0 ≤ atL L x ∧ atL L x < n := by
  have hx := hL x.toNat (by omega)
  rw [show ((x.toNat : Nat) : Int) = x from by omega] at hx
  omega
theorem i_row {names : List Int} (hN : Names n names) {row : List Int} (hr : ∀ x ∈ row, 0 ≤ x ∧ x < n) (hlen : row.length ≤ 4) : cntM (i_LeastOf_b2 L row) row.length 0 (names, []) = some (.inr (row.foldl (stepN L) (names, []))) := by
  obtain ⟨n0, n1⟩ := hm.hn
  refine (cnt_foldI (f := i_LeastOf_b2 L row) (stepN L) (fun j s => Names n s.1 ∧ s.2.length = j) (fun j x s hj ⟨h1, h2⟩ => ?_) ⟨hN, rfl⟩).1
  obtain ⟨x0, x1⟩ := hr x (List.mem_of_getElem? hj)
  obtain ⟨u0, u1⟩ := low_in hL hl x0 x1
  have hlt := (List.getElem?_eq_some_iff.1 hj).1
  have hlen := h1.len
  obtain ⟨a1, a2⟩ := h1.add u0 u1
  unfold i_LeastOf_b2
  rw [idx_nat, hj, Option.bind_some, atL_get x0 (by omega), Option.bind_some, index_place, Option.bind_some, place_lt]
  by_cases hu : atL L x ∈ s.1
  · simp only [hu, decide_true, Bool.not_true, cond_false, Option.bind_some]
    rw [app1 (by omega) rfl]
    refine ⟨?_, a1, by simp [stepN]; omega⟩
    simp [stepN, addN, hu]
  · simp only [hu, decide_false, Bool.not_false, cond_true, Option.bind_some]
    rw [app1 (by omega) rfl, Option.bind_some, Option.bind_some]
    dsimp only
    rw [app1 (by omega) rfl]
    refine ⟨?_, a1, by simp [stepN]; omega⟩
    simp [stepN, addN, hu, place_new hu]
theorem s_row {s1 : List Int × Int × List (List Int) × List (List Int)} (hN : Names n s1.1) {q : Int} {k : Nat} (hk : s1.2.1 = (k : Int)) (hq : s1.1[k]? = some q) (q0 : 0 ≤ q) (q1 : q < n) {row : List Int} (hrow : idx m.Next q = some row) (hr : ∀ x ∈ row, 0 ≤ x ∧ x < n) (hlen : row.length ≤ 4) :
    ∃ z, whileM (s_l29Least_b2 m L s1) (2 ^ 64) (s1.1, [], 0) = some (.inr ((row.foldl (stepN L) (s1.1, [])).1, (row.foldl (stepN L) (s1.1, [])).2, z)) := by
  obtain ⟨n0, n1⟩ := hm.hn
  obtain ⟨o, h1, h2⟩ := while_out (f := s_l29Least_b2 m L s1) (fun j (s : List Int × List Int × Int) => s = (((row.take j).foldl (stepN L) (s1.1, [])).1, ((row.take j).foldl (stepN L) (s1.1, [])).2, (j : Int)) ∧ j ≤ row.length) (fun _ => False) (fun s => ∃ z, s = ((row.foldl (stepN L) (s1.1, [])).1, (row.foldl (stepN L) (s1.1, [])).2, z)) row.length (fun j s ⟨hs, hj⟩ => by
    subst hs
    obtain ⟨b1, b2, b3⟩ := fold_names hL hl n1 (row.take j) (s1.1, []) (fun x hx => hr x (List.mem_of_mem_take hx)) hN
    have hkq := b3 k q hq
    have hlen := b1.len
    unfold s_l29Least_b2
    dsimp only
    rw [hk, idx_nat, hkq, Option.bind_some, hrow, Option.bind_some]
    by_cases hlt : (j : Int) < (row.length : Int)
    · have e1 : row[j]? = some (row[j]'(by omega)) := List.getElem?_eq_getElem (by omega)
      generalize row[j]'(by omega) = x at e1
      obtain ⟨x0, x1⟩ := hr x (List.mem_of_getElem? e1)
      obtain ⟨u0, u1⟩ := low_in hL hl x0 x1
      have et : (row.take (j + 1)).foldl (stepN L) (s1.1, []) = stepN L ((row.take j).foldl (stepN L) (s1.1, [])) x := by rw [List.take_add_one, e1, List.foldl_append]; rfl
      obtain ⟨a1, a2⟩ := b1.add u0 u1
      generalize (row.take j).foldl (stepN L) (s1.1, []) = F at *
      simp only [hlt, decide_true, cond_true, Option.bind_some, idx_nat, hkq, hrow, e1, atL_get x0 (by omega : x < L.length), s_l1Place_eq, place_lt]
      have hlt2 : F.2.length ≤ 4 := by rw [b2, List.length_take]; simp; omega
      by_cases hu : atL L x ∈ F.1
      · simp only [hu, decide_true, Bool.not_true, cond_false, Option.bind_some]
        rw [app1 (by omega) rfl]
        refine ⟨_, rfl, by omega, ?_, by omega⟩
        rw [et, wr' (by omega) (by omega)]
        simp [stepN, addN, hu]
      · simp only [hu, decide_false, Bool.not_false, cond_true]
        rw [app1 (by omega) rfl, Option.bind_some, Option.bind_some, app1 (by omega) rfl]
        refine ⟨_, rfl, by omega, ?_, by omega⟩
        rw [et, wr' (by omega) (by omega)]
        simp [stepN, addN, hu]
    · simp only [hlt, decide_false, cond_false]
      have : row.take j = row := List.take_of_length_le (by omega)
      exact ⟨_, rfl, _, by rw [this]⟩) (2 ^ 64) 0 (s1.1, [], 0) (by omega) ⟨rfl, by omega⟩ (by omega)
  match o, h2 with
  | .inr s, ⟨z, h2⟩ => exact ⟨z, by rw [h1, h2]⟩
/-- the rows made so far -/
def Made (t : List (List Int)) (k : Int) : Prop := (t.length : Int) = k ∧ ∀ r ∈ t, r.length ≤ 4
theorem least_same : ∃ r : Machine, Option.bind (whileM (s_l29Least_b0 m L) (2 ^ 64) ((([0] : List Int) : (List Int)), (0 : Int), (([] : List (List Int)) : (List (List Int))), (([] : List (List Int)) : (List (List Int))))) (fun q2 =>
  aft (fun r => some r) (fun s3 =>
    some ((⟨s3.2.2.1, s3.2.2.2⟩ : Machine) : Machine)) q2) = some r ∧
    Option.bind (whileM (i_LeastOf_b0 m L) (2 ^ 64) ((([0] : List Int) : (List Int)), (0 : Int), (([] : List (List Int)) : (List (List Int))), (([] : List (List Int)) : (List (List Int))))) (fun q2 =>
    aft (fun r => some r) (fun s3 =>
      some ((⟨s3.2.2.1, s3.2.2.2⟩ : Machine) : Machine)) q2) = some r ∧ r.Next.length ≤ 48 ∧ r.Out.length ≤ 48 ∧ (∀ x ∈ r.Next, x.length ≤ 4) ∧ (∀ x ∈ r.Out, x.length ≤ 4) := by
  obtain ⟨n0, n1⟩ := hm.hn
  obtain ⟨l0, l1⟩ := hm.hl
  obtain ⟨o, p, h1, h2, h3⟩ := while_sim (f := s_l29Least_b0 m L) (g := i_LeastOf_b0 m L) (fun s t => s = t ∧ Names n s.1 ∧ 0 ≤ s.2.1 ∧ s.2.1 ≤ s.1.length ∧ Made s.2.2.1 s.2.1 ∧ Made s.2.2.2 s.2.1) (fun s => 50 - s.2.1.toNat) (fun _ _ => False) (fun s t => s = t ∧ s.2.2.1.length ≤ 48 ∧ s.2.2.2.length ≤ 48 ∧ (∀ x ∈ s.2.2.1, x.length ≤ 4) ∧ (∀ x ∈ s.2.2.2, x.length ≤ 4)) (fun s t ⟨hst, hN, k0, k1, m1, m2⟩ => by
    subst hst
    have hlen := hN.len
    unfold s_l29Least_b0 i_LeastOf_b0
    by_cases hlt : s.2.1 < (s.1.length : Int)
    · obtain ⟨k, hk⟩ := ex_nat k0
      have hq : s.1[k]? = some (s.1[k]'(by omega)) := List.getElem?_eq_getElem (by omega)
      have hqm := hN.2 _ (List.getElem_mem (show k < s.1.length by omega))
      generalize s.1[k]'(by omega) = q at hq hqm
      obtain ⟨q0, q1⟩ := hqm
      obtain ⟨row, a1, a2, a3, a4⟩ := hm.nx q.toNat (by omega)
      obtain ⟨out, b1, b2, b3⟩ := hm.ou q.toNat (by omega)
      have hrow : idx m.Next q = some row := by rw [idx_int q0]; exact a1
      have hout : idx m.Out q = some out := by rw [idx_int q0]; exact b1
      obtain ⟨z, hz⟩ := s_row hm hL hl hN hk hq q0 q1 hrow a4 (by omega)
      obtain ⟨f1, f2, f3⟩ := fold_names hL hl n1 row (s.1, []) a4 hN
      have hkq := f3 k q hq
      have hidx : idx (row.foldl (stepN L) (s.1, [])).1 s.2.1 = some q := by rw [hk, idx_nat]; exact hkq
      have hidx0 : idx s.1 s.2.1 = some q := by rw [hk, idx_nat]; exact hq
      simp only [hlt, decide_true, cond_true, hz, hidx0, hrow, Option.bind_some, aft_inr, i_row hm hL hl hN a4 (by omega : row.length ≤ 4), hidx, hout, s_l1Copy]
      have hr2 : (row.foldl (stepN L) (s.1, [])).2.length ≤ 4 := by rw [f2]; simp; omega
      have c1 : s.2.2.1.length ≤ 48 := by have := m1.1; omega
      have c2 : s.2.2.2.length ≤ 48 := by have := m2.1; omega
      rw [app1 (by omega) rfl, appL (by rw [List.length_nil]; omega) rfl]
      simp only [Option.bind_some, List.nil_append]
      rw [app1 (by omega) rfl, wr' (by omega) (by omega)]
      refine ⟨_, _, rfl, rfl, ⟨rfl, f1, (show 0 ≤ s.2.1 + 1 by omega), ?_, ⟨?_, ?_⟩, ⟨?_, ?_⟩⟩, ?_⟩
      · have := f1.len
        have hh := (List.getElem?_eq_some_iff.1 hkq).1
        show s.2.1 + 1 ≤ (((row.foldl (stepN L) (s.1, [])).1.length : Nat) : Int)
        omega
      · show ((s.2.2.1 ++ [_]).length : Int) = _; rw [List.length_append]; have := m1.1; simp; omega
      · intro r hr
        dsimp only at hr
        rw [List.mem_append, List.mem_singleton] at hr
        rcases hr with hr | rfl
        · exact m1.2 r hr
        · exact hr2
      · show ((s.2.2.2 ++ [_]).length : Int) = _; rw [List.length_append]; have := m2.1; simp; omega
      · intro r hr
        dsimp only at hr
        rw [List.mem_append, List.mem_singleton] at hr
        rcases hr with hr | rfl
        · exact m2.2 r hr
        · omega
      · show 50 - (s.2.1 + 1).toNat < 50 - s.2.1.toNat
        omega
    · simp only [hlt, decide_false, cond_false]
      have := m1.1
      have := m2.1
      exact ⟨_, _, rfl, rfl, rfl, by dsimp only; omega, by dsimp only; omega, m1.2, m2.2⟩) (2 ^ 64) (2 ^ 64) ([0], 0, [], []) ([0], 0, [], []) (by simp) (by simp) ⟨rfl, ⟨by simp, by simp; omega⟩, by simp, by simp, ⟨rfl, by simp⟩, ⟨rfl, by simp⟩⟩
  match o, p, h3 with
  | .inr s, .inr t, ⟨h3, h4⟩ =>
    subst h3
    rw [h1, h2]
    exact ⟨_, rfl, rfl, h4⟩
end
theorem LeastOf_same (p : Sig) (m : Machine) : ∃ r, s_LeastOf p m = some r ∧ i_LeastOf p m = some r ∧ r.Next.length ≤ 48 ∧ r.Out.length ≤ 48 ∧ (∀ x ∈ r.Next, x.length ≤ 4) ∧ (∀ x ∈ r.Out, x.length ≤ 4) := by
  unfold s_LeastOf i_LeastOf
  rw [s_MachineOk_eq, i_isSig_eq, Option.bind_some, Option.bind_some]
  cases hs : sigOk p with
  | false => exact ⟨_, rfl, rfl, by simp, by simp, by simp, by simp⟩
  | true =>
    rw [i_isMachine_eq hs]
    cases hm : machOk p m with
    | false => exact ⟨_, rfl, rfl, by simp, by simp, by simp, by simp⟩
    | true =>
      have hk := Mok.of hm
      obtain ⟨n0, n1⟩ := hk.hn
      obtain ⟨L, h1, h2, h3, h4⟩ := alike_same hk
      have h0 : idx L 0 = some 0 := by
        rw [atL_get (by omega) (by omega)]
        have := h3 0 (by omega)
        simp only [Int.natCast_zero] at this
        rw [show atL L 0 = 0 from by omega]
      unfold s_l29Least
      rw [h1, h2]
      simp only [Bool.and_self, Bool.not_true, cond_false, Option.bind_some, h0]
      obtain ⟨r, k1, k2, k3⟩ := least_same hk h3 h4
      rw [k1, k2]
      exact ⟨r, rfl, rfl, k3⟩
theorem FnExactLeastOf_law {p0 : Sig} (ok0 : Sig.ok p0) {p1 : Machine} (ok1 : Machine.ok p1) : l_FnExactLeastOf p0 p1 = some true :=
  FnExactLeastOf_of ok0 ok1 fun _ => by
    obtain ⟨r, h1, h2, h3, h4, h5, h6⟩ := LeastOf_same p0 p1
    refine ⟨r, h1, h2, ?_, ?_⟩
    · have := ctL_bd (c := ctL (fun _ => 1)) (N := 48) (M := 4) (xs := r.Next) h3 (fun x hx => by rw [ctL_one]; exact h5 x hx)
      omega
    · have := ctL_bd (c := ctL (fun _ => 1)) (N := 48) (M := 4) (xs := r.Out) h4 (fun x hx => by rw [ctL_one]; exact h6 x hx)
      omega
end Go.Proofs.Ytgniipbjjkodaaa
