/- DuelOf: both sides compute the same. -/
import Derived.Test.YtgniipbjjkodaaaLassoC12
import Derived.Test.YtgniipbjjkodaaaMachC12
import Derived.Test.YtgniipbjjkodaaaRivalStepC12
set_option linter.unusedVariables false
set_option linter.unusedSimpArgs false
namespace Go.Proofs.Ytgniipbjjkodaaa
open Go Go.Wk Go.Proofs

/-- a pair of states as one number -/
def dq (n z : Int) : Int := z / n
def ds (n z : Int) : Int := z % n
theorem d_in {n m z : Int} (hn : 1 ≤ n) (z0 : 0 ≤ z) (z1 : z < m * n) : 0 ≤ dq n z ∧ dq n z < m ∧ 0 ≤ ds n z ∧ ds n z < n :=
  ⟨Int.ediv_nonneg z0 (by omega), Int.ediv_lt_of_lt_mul (by omega) z1, Int.emod_nonneg _ (by omega), Int.emod_lt_of_pos _ (by omega)⟩
theorem d_inj {n x y : Int} (h1 : dq n x = dq n y) (h2 : ds n x = ds n y) : x = y := by
  have e1 := Int.mul_ediv_add_emod x n
  have e2 := Int.mul_ediv_add_emod y n
  unfold dq at h1
  unfold ds at h2
  rw [← e1, ← e2, h1, h2]
theorem d_code {n q s : Int} (hn : 1 ≤ n) (s0 : 0 ≤ s) (s1 : s < n) : dq n (q * n + s) = q ∧ ds n (q * n + s) = s := by
  unfold dq ds
  constructor
  · rw [Int.add_comm, Int.add_mul_ediv_right _ _ (by omega), Int.ediv_eq_zero_of_lt s0 s1]; omega
  · rw [Int.add_comm, Int.add_mul_emod_self_right, Int.emod_eq_of_lt s0 s1]
theorem d_eq {n x z : Int} : ((dq n x == dq n z) && (ds n x == ds n z)) = (z == x) := by
  rw [Bool.eq_iff_iff]
  simp only [Bool.and_eq_true, beq_iff_eq]
  exact ⟨fun h => (d_inj h.1 h.2).symm, fun h => by rw [h]; exact ⟨rfl, rfl⟩⟩
section
variable (n : Int) (T : List Int) (z : Int)
theorem s_l26Place_eq : s_l26Place (T.map fun x => [dq n x, ds n x]) (dq n z) (ds n z) = some (placeOf T z) := by
  unfold s_l26Place placeOf
  rw [List.length_map, cnt_find0 (f := s_l26Place_b0 (T.map fun x => [dq n x, ds n x]) (dq n z) (ds n z)) (fun x => z == x) (fun i => (i : Int)) (xs := T) (fun i x hx => by
    unfold s_l26Place_b0
    rw [idx_nat, List.getElem?_map, hx]
    have i0 : idx [dq n x, ds n x] 0 = some (dq n x) := rfl
    have i1 : idx [dq n x, ds n x] 1 = some (ds n x) := rfl
    simp only [Option.map_some, Option.bind_some, i0, i1, andE, d_eq]
    cases z == x <;> rfl), Option.bind_some]
  cases T.findIdx? (fun x => z == x) <;> rfl
/-- what was seen -/
def seenOf (n : Int) : Nat → List Int → List ((Int × Int) × Int)
  | _, [] => []
  | k, x :: T => ((dq n x, ds n x), (k : Int)) :: seenOf n (k + 1) T
theorem seen_get : ∀ (T : List Int) (k : Nat), getK (seenOf n k T) (dq n z, ds n z) = (T.findIdx? (fun x => z == x)).map (fun i => ((k + i : Nat) : Int))
  | [], _ => rfl
  | x :: T, k => by
    simp only [seenOf, getK, List.findIdx?_cons]
    by_cases h : z = x
    · simp [h]
    · have h1 : ¬ ((dq n z, ds n z) = (dq n x, ds n x)) := fun e => h (d_inj (Prod.mk.injEq .. ▸ e).1 (Prod.mk.injEq .. ▸ e).2)
      have h2 : (z == x) = false := by rw [beq_eq_false_iff_ne]; exact h
      rw [if_neg h1, h2, seen_get T (k + 1)]
      cases T.findIdx? (fun x => z == x) with
      | none => rfl
      | some i => simp; omega
theorem seen_put : ∀ (T : List Int) (k : Nat) (v : Int), z ∉ T → v = ((k + T.length : Nat) : Int) → putK (seenOf n k T) (dq n z, ds n z) v = seenOf n k (T ++ [z])
  | [], k, v, _, hv => by simp [seenOf, putK, hv]
  | x :: T, k, v, hz, hv => by
    have h : ¬ z = x := fun e => hz (by rw [e]; exact List.mem_cons_self ..)
    have h1 : ¬ ((dq n z, ds n z) = (dq n x, ds n x)) := fun e => h (d_inj (Prod.mk.injEq .. ▸ e).1 (Prod.mk.injEq .. ▸ e).2)
    simp only [seenOf, putK, List.cons_append]
    rw [if_neg h1, seen_put T (k + 1) v (fun hm => hz (List.mem_cons_of_mem _ hm)) (by rw [hv, List.length_cons]; omega)]
end
theorem DuelOf_same (p : Sig) (m : Machine) (r : Rival) (hri : r.In.length ≤ 1048576) : ∃ a b, s_DuelOf p m r = some (a, b) ∧ i_DuelOf p m r = some (a, b) ∧ a.Stem.length ≤ 600 ∧ a.Loop.length ≤ 600 := by
  unfold s_DuelOf i_DuelOf
  rw [s_MachineOk_eq, s_RivalOk_eq p r hri, i_isSig_eq, Option.bind_some, Option.bind_some]
  cases hs : sigOk p with
  | false => exact ⟨_, _, rfl, rfl, by simp, by simp⟩
  | true =>
    rw [i_isMachine_eq hs, i_isRival_eq p r hs]
    cases hm : machOk p m with
    | false => exact ⟨_, _, rfl, rfl, by simp, by simp⟩
    | true =>
      cases hr : rivalOk p r with
      | false => exact ⟨_, _, rfl, rfl, by simp, by simp⟩
      | true =>
        simp only [Bool.and_self, Bool.not_true, cond_false, Option.bind_some]
        have pI := pw_le p.In
        have pO := pw_le p.Out
        obtain ⟨n1, n2, n3, n4, n5⟩ := machOk_spec hm
        obtain ⟨k1, k2, _⟩ := rivalOk_spec hr
        -- the letter, the next pair
        generalize hnn : (r.In.length : Int) = n
        generalize hmm : (m.Next.length : Int) = k
        have hn1 : 1 ≤ n := by omega
        have hk1 : 1 ≤ k := by omega
        obtain ⟨M, hM⟩ := ex_nat (z := k * n) (Int.mul_nonneg (by omega) (by omega))
        have hMb : k * n ≤ 48 * 256 := Int.mul_le_mul (by omega) (by omega) (by omega) (by omega)
        let u : Int → Int := fun z => inAt r (ds n z)
        let o : Int → Int := fun z => tab m.Out (dq n z) (u z)
        let b : Int → Int := fun z => tab m.Next (dq n z) (u z) * n + tab r.Next (ds n z) (o z)
        let part : Int → List Int := fun z => [o z * pw p.In + u z]
        have hpart : ∀ x, (part x).length = 1 := fun x => rfl
        have hz : ∀ z, 0 ≤ z → z < (M : Int) → (0 ≤ dq n z ∧ dq n z < m.Next.length ∧ 0 ≤ ds n z ∧ ds n z < r.In.length) ∧ (idx r.In (ds n z) = some (u z) ∧ 0 ≤ u z ∧ u z < pw p.In) ∧ (∃ row, idx m.Out (dq n z) = some row ∧ idx row (u z) = some (o z) ∧ 0 ≤ o z ∧ o z < pw p.Out) ∧
            (∃ row, idx m.Next (dq n z) = some row ∧ idx row (u z) = some (tab m.Next (dq n z) (u z)) ∧ 0 ≤ tab m.Next (dq n z) (u z) ∧ tab m.Next (dq n z) (u z) < m.Next.length) ∧ (∃ row, idx r.Next (ds n z) = some row ∧ idx row (o z) = some (tab r.Next (ds n z) (o z)) ∧ 0 ≤ tab r.Next (ds n z) (o z) ∧ tab r.Next (ds n z) (o z) < r.In.length) ∧
            dq n (b z) = tab m.Next (dq n z) (u z) ∧ ds n (b z) = tab r.Next (ds n z) (o z) := fun z z0 z1 => by
          obtain ⟨d0, d1, d2, d3⟩ := d_in (m := k) hn1 z0 (by omega)
          have hu := inAt_in hr d2 (by omega : ds n z < r.In.length)
          have ho := tab_in n5 d0 (by omega : dq n z < m.Out.length) hu.2.1 hu.2.2
          have hx := tab_in n4 d0 (by omega : dq n z < m.Next.length) hu.2.1 hu.2.2
          have o0 := ho.choose_spec.2.2.1
          have o1 := ho.choose_spec.2.2.2
          have hy := next_in hr d2 (by omega : ds n z < r.In.length) o0 o1
          have y0 := hy.choose_spec.2.2.1
          have y1 := hy.choose_spec.2.2.2
          have hc := d_code (n := n) (q := tab m.Next (dq n z) (u z)) hn1 y0 (by omega)
          exact ⟨⟨d0, by omega, d2, by omega⟩, hu, ho, hx, hy, hc.1, hc.2⟩
        have hb : ∀ q : Int, 0 ≤ q → q < (M : Nat) → 0 ≤ b q ∧ b q < (M : Nat) := fun z z0 z1 => by
          obtain ⟨_, _, _, ⟨_, _, _, x0, x1⟩, ⟨_, _, _, y0, y1⟩, _⟩ := hz z z0 z1
          have h1 : 0 ≤ tab m.Next (dq n z) (u z) * n := Int.mul_nonneg x0 (by omega)
          have h2 : (tab m.Next (dq n z) (u z) + 1) * n ≤ k * n := Int.mul_le_mul_of_nonneg_right (by omega) (by omega)
          rw [Int.add_mul, Int.one_mul] at h2
          show 0 ≤ tab m.Next (dq n z) (u z) * n + tab r.Next (ds n z) (o z) ∧ tab m.Next (dq n z) (u z) * n + tab r.Next (ds n z) (o z) < (M : Int)
          omega
        have hlet : ∀ z, 0 ≤ z → z < (M : Int) → IntKind.i64.wrap (IntKind.i64.wrap (o z * pw p.In) + u z) = o z * pw p.In + u z := fun z z0 z1 => by
          obtain ⟨_, ⟨_, u0, u1⟩, ⟨_, _, _, o0, o1⟩, _⟩ := hz z z0 z1
          have hmul : 0 ≤ o z * pw p.In := Int.mul_nonneg o0 (by omega)
          have hmul2 : o z * pw p.In ≤ 4 * 4 := Int.mul_le_mul (by omega) (by omega) (by omega) (by omega)
          rw [wr' (z := o z * pw p.In) (by omega) (by omega), wr' (by omega) (by omega)]
        have z00 : dq n 0 = 0 ∧ ds n 0 = 0 := by unfold dq ds; simp
        have r1 := lasso_run (f := s_DuelOf_b0 p m r) (fun T z => (T.map (fun x => [dq n x, ds n x]), T.flatMap part, dq n z, ds n z)) hb (fun T z hT hr' a0 a1 => by
          obtain ⟨_, ⟨u1, u2, u3⟩, ⟨ro, o1, o2, o3, o4⟩, ⟨rx, x1, x2, _⟩, ⟨ry, y1, y2, _⟩, c1, c2⟩ := hz z a0 a1
          have hfl := flat_len (part := part) hpart T
          unfold s_DuelOf_b0
          dsimp only
          rw [s_l26Place_eq, Option.bind_some, place_lt]
          by_cases hq : z ∈ T
          · simp only [hq, decide_true, Bool.not_true, cond_false, if_true]
          · simp only [hq, decide_false, Bool.not_false, cond_true, if_false]
            rw [app1 (by rw [List.length_map]; omega) rfl, Option.bind_some, u1, Option.bind_some, o1, Option.bind_some, o2, Option.bind_some, s_LetterOf_eq hs u2 u3 o3 o4, Option.bind_some, app1 (by rw [hfl]; omega) rfl, Option.bind_some, x1, Option.bind_some, x2, Option.bind_some, y1, Option.bind_some, y2, Option.bind_some, List.map_append, List.flatMap_append, c1, c2]
            simp only [List.map_cons, List.map_nil, List.flatMap_cons, List.flatMap_nil, List.append_nil]
            rfl) (M + 1) (2 ^ 64) [] 0 (by simp) (by omega) (by simp) (by simp) (by omega) (by have : 1 * 1 ≤ k * n := Int.mul_le_mul hk1 hn1 (by omega) (by omega); omega)
        have r2 := lasso_ret (f := i_DuelOf_b0 p m r) (fun T z => (T.flatMap part, dq n z, ds n z, seenOf n 0 T)) (fun T z => match i_cutWord (T.flatMap part) (placeOf T z) with | some x => x | none => (⟨[], []⟩, false)) hb (fun T z hn' hr' a0 a1 => by
          obtain ⟨⟨d0, d1, d2, d3⟩, ⟨u1, u2, u3⟩, ⟨ro, o1, o2, o3, o4⟩, ⟨rx, x1, x2, _⟩, ⟨ry, y1, y2, _⟩, c1, c2⟩ := hz z a0 a1
          have hfl := flat_len (part := part) hpart T
          have hT := nodup_lenN M T hn' hr'
          have hwf : kwI2 (dq n z, ds n z) = true := by
            unfold kwI2 wf2
            exact decide_eq_true ⟨by omega, by omega, by omega, by omega⟩
          unfold i_DuelOf_b0
          dsimp only
          unfold mget mset
          rw [if_pos hwf, if_pos hwf, seen_get]
          by_cases hq : z ∈ T
          · obtain ⟨i, p1, p2, p3⟩ := place_in hq
            have hfi : T.findIdx? (fun x => z == x) = some i := by
              unfold placeOf at p1
              cases hh : T.findIdx? (fun x => z == x) with
              | none => rw [hh] at p1; simp only at p1; omega
              | some j => rw [hh] at p1; simp only at p1; congr 1; omega
            have hcw : ∃ x, i_cutWord (T.flatMap part) (placeOf T z) = some x := by
              unfold i_cutWord
              rw [p1, wr' (by omega) (by omega), orE, Option.bind_some]
              cases (decide (600 < (i : Int)) || decide (600 < ((T.flatMap part).length : Int) - (i : Int))) with
              | true => exact ⟨_, rfl⟩
              | false =>
                obtain ⟨g1, g2⟩ := cut_eq (part := part) hpart [] (T := T) (k := i) (by omega)
                simp only [List.nil_append, List.length_nil, Nat.zero_add, Nat.mul_one] at g1 g2
                rw [g1, g2]
                simp only [cond_false, Option.bind_some]
                have f1 := flat_len (part := part) hpart (T.take i)
                have f2 := flat_len (part := part) hpart (T.drop i)
                rw [List.length_take] at f1
                rw [List.length_drop] at f2
                rw [appL (by rw [List.length_nil]; omega) rfl, appL (by rw [List.length_nil]; omega) rfl]
                exact ⟨_, rfl⟩
            obtain ⟨x, hx⟩ := hcw
            simp only [hfi, hq, Option.map_some, Nat.zero_add, Option.bind_some, cond_true, if_true]
            rw [hx]
            rw [← p1, hx]
            rfl
          · have hfi : T.findIdx? (fun x => z == x) = none := by
              rw [List.findIdx?_eq_none_iff]
              intro x hx
              rw [beq_eq_false_iff_ne]
              exact fun e => hq (e ▸ hx)
            simp only [hfi, hq, Option.map_none, Option.bind_some, cond_false, if_false]
            rw [seen_put n z T 0 _ hq (by rw [hfl]; omega), u1, Option.bind_some, o1, Option.bind_some, o2, Option.bind_some, i_inputsOf_eq hs, Option.bind_some, hlet z a0 a1, app1 (by rw [hfl]; omega) rfl, Option.bind_some, x1, Option.bind_some, x2, Option.bind_some, y1, Option.bind_some, y2, Option.bind_some, List.flatMap_append, c1, c2]
            simp only [List.flatMap_cons, List.flatMap_nil, List.append_nil]
            rfl) (M + 1) (2 ^ 64) [] 0 (by simp) (by omega) (by simp) (by simp) (by omega) (by have : 1 * 1 ≤ k * n := Int.mul_le_mul hk1 hn1 (by omega) (by omega); omega)
        obtain ⟨l1, l2, l3⟩ := lasso_spec hb (M + 1) [] 0 (by simp) (by simp) (by simp) (by omega) (by have : 1 * 1 ≤ k * n := Int.mul_le_mul hk1 hn1 (by omega) (by omega); omega)
        generalize lasso b (M + 1) [] 0 = L at r1 r2 l1 l2 l3
        obtain ⟨T, z⟩ := L
        dsimp only at r1 r2 l1 l2 l3
        have hT := nodup_lenN _ T l2 l3
        have hfl := flat_len (part := part) hpart T
        rw [z00.1, z00.2] at r1 r2
        simp only [List.map_nil, List.flatMap_nil] at r1 r2
        rw [show seenOf n 0 [] = [] from rfl] at r2
        rw [r1, r2]
        simp only [Option.bind_some, aft_inr, aft_inl, s_l26Place_eq]
        obtain ⟨i, p1, p2, p3⟩ := place_in l1
        obtain ⟨g1, g2⟩ := cut_eq (part := part) hpart [] (T := T) (k := i) (by omega)
        simp only [List.nil_append, List.length_nil, Nat.zero_add, Nat.mul_one] at g1 g2
        have f1 := flat_len (part := part) hpart (T.take i)
        have f2 := flat_len (part := part) hpart (T.drop i)
        rw [List.length_take, Nat.min_eq_left (by omega)] at f1
        rw [List.length_drop] at f2
        rw [p1]
        unfold i_cutWord s_l1Copy
        rw [g1, g2]
        simp only [Option.bind_some]
        rw [appL (by rw [List.length_nil]; omega) rfl, appL (by rw [List.length_nil]; omega) rfl, wr' (by omega) (by omega)]
        simp only [Option.bind_some, List.nil_append, orE]
        rw [show (((T.take i).flatMap part).length : Int) = (i : Int) from by omega, show ((T.flatMap part).length : Int) - (i : Int) = (((T.drop i).flatMap part).length : Int) from by omega]
        cases hc : (decide (600 < (i : Int)) || decide (600 < (((T.drop i).flatMap part).length : Int))) with
        | true => exact ⟨_, _, rfl, rfl, by simp, by simp⟩
        | false =>
          rw [Bool.or_eq_false_iff, decide_eq_false_iff_not, decide_eq_false_iff_not] at hc
          exact ⟨_, _, rfl, rfl, by dsimp only; omega, by dsimp only; omega⟩
theorem FnExactDuelOf_law {p0 : Sig} (ok0 : Sig.ok p0) {p1 : Machine} (ok1 : Machine.ok p1) {p2 : Rival} (ok2 : Rival.ok p2) : l_FnExactDuelOf p0 p1 p2 = some true :=
  FnExactDuelOf_of ok0 ok1 ok2 fun _ b2 => by
    obtain ⟨a, b, h1, h2, h3, h4⟩ := DuelOf_same p0 p1 p2 b2.1.1
    exact ⟨a, b, h1, h2, by rw [ctL_one]; omega, by rw [ctL_one]; omega⟩
end Go.Proofs.Ytgniipbjjkodaaa
