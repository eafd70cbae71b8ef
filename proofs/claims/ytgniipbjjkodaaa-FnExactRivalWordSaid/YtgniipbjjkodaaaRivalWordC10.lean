/- RivalWord: both sides compute the same. -/
import Derived.Test.YtgniipbjjkodaaaLassoC10
import Derived.Test.YtgniipbjjkodaaaRivalC10
set_option linter.unusedVariables false
set_option linter.unusedSimpArgs false
namespace Go.Proofs.Ytgniipbjjkodaaa
open Go Go.Wk Go.Proofs

theorem s_l23Word_eq (w : Word) {n : Int} (h0 : -1000000000000000000 ≤ n) (h1 : n ≤ 1000000000000000000) : s_l23Word w n = some (wordOk w n) := by
  unfold s_l23Word wordOk
  simp only [orE, Option.bind_some, s_l23Below_eq _ h0 h1, andE, gt_not]
  have : decide (1 ≤ (w.Loop.length : Int)) = !((w.Loop.length : Int) == 0) := by
    by_cases h : (w.Loop.length : Int) = 0
    · simp [h]
    · have h1 : 1 ≤ (w.Loop.length : Int) := by omega
      have h2 : ((w.Loop.length : Int) == 0) = false := by rw [beq_eq_false_iff_ne]; exact h
      rw [h2, decide_eq_true h1]; rfl
  rw [this]
  generalize decide ((w.Stem.length : Int) ≤ 600) = b1
  generalize w.Stem.all (inR n) = b2
  generalize decide ((w.Loop.length : Int) ≤ 600) = b3
  generalize w.Loop.all (inR n) = b4
  generalize ((w.Loop.length : Int) == 0) = b5
  cases b1 <;> cases b2 <;> cases b3 <;> cases b4 <;> cases b5 <;> rfl
theorem s_l1Has_eq (row : List Int) (v : Int) : s_l1Has row v = some (decide (v ∈ row)) := by
  unfold s_l1Has
  rw [cnt_all0 (f := s_l1Has_b0 row v) (r := true) (fun x => !(v == x)) (xs := row) rfl (fun i y hy => by
    unfold s_l1Has_b0
    rw [idx_nat, hy, Option.bind_some, show (y == v) = (v == y) from BEq.comm]
    cases v == y <;> rfl), ← any_mem, List.any_eq_not_all_not]
  cases row.all (fun x => !(v == x)) <;> rfl
theorem s_LetterOf_eq {p : Sig} (hs : sigOk p = true) {x o : Int} (x0 : 0 ≤ x) (x1 : x < pw p.In) (o0 : 0 ≤ o) (o1 : o < pw p.Out) : s_LetterOf p x o = some (o * pw p.In + x) := by
  have pI := pw_le p.In
  have pO := pw_le p.Out
  obtain ⟨hi, ho⟩ := sigOk_in hs
  have hmul : 0 ≤ o * pw p.In := Int.mul_nonneg o0 (by omega)
  have hmul2 : o * pw p.In ≤ 4 * 4 := Int.mul_le_mul (by omega) (by omega) (by omega) (by omega)
  unfold s_LetterOf
  simp only [s_SigOk_eq, hs, Option.bind_some, Bool.not_true, cond_false, s_l23Power_eq hi, s_l23Power_eq ho]
  rw [wr' (z := pw p.In - 1) (by omega) (by omega), wr' (z := pw p.Out - 1) (by omega) (by omega), wr' (z := o * pw p.In) (by omega) (by omega), wr' (by omega) (by omega)]
  simp only [s_l1In_eq, inR_one, Option.bind_some, inR_iff.2 ⟨x0, x1⟩, inR_iff.2 ⟨o0, o1⟩, Bool.not_true, cond_false]
theorem i_inputsOf_eq' {p : Sig} (hs : sigOk p = true) : i_inputsOf p = some (pw p.In) := by
  obtain ⟨hi, _⟩ := sigOk_in hs
  unfold i_inputsOf
  rw [(i_shift hi).1, Option.bind_some, (i_shift hi).2]
/-- the input at a state -/
def inAt (r : Rival) (q : Int) : Int := r.In.getD q.toNat 0
def behindR (r : Rival) (q : Int) (os : List Int) : Int := os.foldl (fun q o => tab r.Next q o) q
def lettersR (p : Sig) (r : Rival) : Int → List Int → List Int
  | _, [] => []
  | q, o :: os => (o * pw p.In + inAt r q) :: lettersR p r (tab r.Next q o) os
theorem lettersR_length (p : Sig) (r : Rival) : ∀ (os : List Int) (q : Int), (lettersR p r q os).length = os.length
  | [], _ => rfl
  | o :: os, q => by simp [lettersR, lettersR_length p r os]
section
variable {p : Sig} {r : Rival} (hr : rivalOk p r = true) (hs : sigOk p = true)
include hr
theorem inAt_in {q : Int} (q0 : 0 ≤ q) (q1 : q < r.In.length) : idx r.In q = some (inAt r q) ∧ 0 ≤ inAt r q ∧ inAt r q < pw p.In := by
  obtain ⟨_, _, _, h4, _⟩ := rivalOk_spec hr
  obtain ⟨x, h5, h6⟩ := get_el (xs := r.In) q0 q1
  have e : inAt r q = x := by
    unfold inAt
    rw [idx_int q0] at h5
    rw [List.getD_eq_getElem?_getD, h5, Option.getD_some]
  rw [e]
  exact ⟨h5, h4 x h6⟩
theorem next_in {q o : Int} (q0 : 0 ≤ q) (q1 : q < r.In.length) (o0 : 0 ≤ o) (o1 : o < pw p.Out) : ∃ row, idx r.Next q = some row ∧ idx row o = some (tab r.Next q o) ∧ 0 ≤ tab r.Next q o ∧ tab r.Next q o < r.In.length := by
  obtain ⟨_, _, h3, _, h5⟩ := rivalOk_spec hr
  exact tab_in (t := r.Next) (n := r.In.length) (l := pw p.Out) h5 q0 (by omega) o0 o1
theorem behindR_in {q : Int} {xs : List Int} (q0 : 0 ≤ q) (q1 : q < r.In.length) (hx : xs.all (inR (pw p.Out)) = true) : 0 ≤ behindR r q xs ∧ behindR r q xs < r.In.length := by
  induction xs generalizing q with
  | nil => exact ⟨q0, q1⟩
  | cons x xs ih =>
    rw [List.all_cons, Bool.and_eq_true] at hx
    obtain ⟨i0, i1⟩ := inR_iff.1 hx.1
    obtain ⟨_, _, _, t0, t1⟩ := next_in hr q0 q1 i0 i1
    exact ih t0 t1 hx.2
include hs
theorem s_l33Go_eq {q : Int} {xs : List Int} (q0 : 0 ≤ q) (q1 : q < r.In.length) (hx : xs.all (inR (pw p.Out)) = true) (hl : xs.length ≤ 1000000) : s_l33Go p r q xs = some (lettersR p r q xs, behindR r q xs) := by
  rw [List.all_eq_true] at hx
  unfold s_l33Go
  rw [(cnt_foldI (f := s_l33Go_b0 p r xs) (fun (s : Int × List Int) o => (tab r.Next s.1 o, s.2 ++ [o * pw p.In + inAt r s.1])) (fun j s => 0 ≤ s.1 ∧ s.1 < r.In.length ∧ s.2.length = j) (fun i x s hi ⟨k0, k1, k2⟩ => by
    obtain ⟨i0, i1⟩ := inR_iff.1 (hx x (List.mem_of_getElem? hi))
    obtain ⟨row, t1, t2, t3⟩ := next_in hr k0 k1 i0 i1
    obtain ⟨u1, u2, u3⟩ := inAt_in hr k0 k1
    have hlt := (List.getElem?_eq_some_iff.1 hi).1
    unfold s_l33Go_b0
    rw [idx_nat, hi, Option.bind_some, u1, Option.bind_some, s_LetterOf_eq hs u2 u3 i0 i1, Option.bind_some, app1 (by omega) rfl, Option.bind_some, Option.bind_some, t1, Option.bind_some, t2]
    exact ⟨rfl, t3.1, t3.2, by simp; omega⟩) (s := (q, [])) ⟨q0, q1, rfl⟩).1]
  have e : ∀ (xs : List Int) (q : Int) (acc : List Int), xs.foldl (fun (s : Int × List Int) o => (tab r.Next s.1 o, s.2 ++ [o * pw p.In + inAt r s.1])) (q, acc) = (behindR r q xs, acc ++ lettersR p r q xs) := by
    intro xs
    induction xs with
    | nil => intro q acc; simp [behindR, lettersR]
    | cons x xs ih => intro q acc; rw [List.foldl_cons, ih]; simp [behindR, lettersR]
  rw [e]
  rfl
theorem i_RivalWord_1_eq {q : Int} {xs acc : List Int} (q0 : 0 ≤ q) (q1 : q < r.In.length) (hx : xs.all (inR (pw p.Out)) = true) (hl : xs.length + acc.length ≤ 1000000) : i_RivalWord_1 xs acc p r q = some (acc ++ lettersR p r q xs, behindR r q xs) := by
  rw [List.all_eq_true] at hx
  have pI := pw_le p.In
  have pO := pw_le p.Out
  unfold i_RivalWord_1
  rw [(cnt_foldI (f := i_RivalWord_1_b0 xs p r) (fun (s : List Int × Int) o => (s.1 ++ [o * pw p.In + inAt r s.2], tab r.Next s.2 o)) (fun j s => 0 ≤ s.2 ∧ s.2 < r.In.length ∧ s.1.length = acc.length + j) (fun i x s hi ⟨k0, k1, k2⟩ => by
    obtain ⟨i0, i1⟩ := inR_iff.1 (hx x (List.mem_of_getElem? hi))
    obtain ⟨row, t1, t2, t3⟩ := next_in hr k0 k1 i0 i1
    obtain ⟨u1, u2, u3⟩ := inAt_in hr k0 k1
    have hlt := (List.getElem?_eq_some_iff.1 hi).1
    have hmul : 0 ≤ x * pw p.In := Int.mul_nonneg i0 (by omega)
    have hmul2 : x * pw p.In ≤ 4 * 4 := Int.mul_le_mul (by omega) (by omega) (by omega) (by omega)
    unfold i_RivalWord_1_b0
    rw [idx_nat, hi, Option.bind_some, u1, Option.bind_some, i_inputsOf_eq' hs, Option.bind_some, wr' (z := x * pw p.In) (by omega) (by omega), wr' (by omega) (by omega), app1 (by omega) rfl, Option.bind_some, t1, Option.bind_some, t2]
    exact ⟨rfl, t3.1, t3.2, by simp; omega⟩) (s := (acc, q)) ⟨q0, q1, rfl⟩).1]
  have e : ∀ (xs : List Int) (q : Int) (acc : List Int), xs.foldl (fun (s : List Int × Int) o => (s.1 ++ [o * pw p.In + inAt r s.2], tab r.Next s.2 o)) (acc, q) = (acc ++ lettersR p r q xs, behindR r q xs) := by
    intro xs
    induction xs with
    | nil => intro q acc; simp [behindR, lettersR]
    | cons x xs ih => intro q acc; rw [List.foldl_cons, ih]; simp [behindR, lettersR]
  rw [e]
  rfl
end
theorem RivalWord_same (p : Sig) (r : Rival) (w : Word) (hri : r.In.length ≤ 1048576) : ∃ a b, s_RivalWord p r w = some (a, b) ∧ i_RivalWord p r w = some (a, b) ∧ a.Stem.length ≤ 600 ∧ a.Loop.length ≤ 600 := by
  unfold s_RivalWord i_RivalWord
  rw [s_RivalOk_eq p r hri, i_isSig_eq, Option.bind_some, Option.bind_some]
  cases hs : sigOk p with
  | false => exact ⟨_, _, rfl, rfl, by simp, by simp⟩
  | true =>
    rw [i_isRival_eq p r hs]
    cases hr : rivalOk p r with
    | false => exact ⟨_, _, rfl, rfl, by simp, by simp⟩
    | true =>
      have pO := pw_le p.Out
      obtain ⟨hi, ho⟩ := sigOk_in hs
      simp only [Bool.and_self, Bool.not_true, cond_false, Option.bind_some, s_l33Outputs, s_l23Power_eq ho, (i_shift ho).1, (i_shift ho).2, i_isWord_eq, s_l23Word_eq w (n := pw p.Out) (by omega) (by omega)]
      cases hw : wordOk w (pw p.Out) with
      | false => exact ⟨_, _, rfl, rfl, by simp, by simp⟩
      | true =>
        obtain ⟨w1, w2, w3, w4, w5⟩ := wordOk_spec hw
        obtain ⟨n1, n2, _⟩ := rivalOk_spec hr
        simp only [Bool.not_true, cond_false]
        rw [s_l33Go_eq hr hs (by omega) (by omega) w4 (by omega), i_RivalWord_1_eq hr hs (by omega) (by omega) w4 (by simp; omega), Option.bind_some, Option.bind_some, List.nil_append]
        dsimp only
        have q0 := behindR_in hr (q := 0) (by omega) (by omega) w4
        generalize hq : behindR r 0 w.Stem = q at q0
        have hb : ∀ q : Int, 0 ≤ q → q < (r.In.length : Nat) → 0 ≤ behindR r q w.Loop ∧ behindR r q w.Loop < (r.In.length : Nat) := fun q a b => behindR_in hr a b w5
        have hpart : ∀ x, (lettersR p r x w.Loop).length = w.Loop.length := fun x => lettersR_length p r _ _
        have hbase : (lettersR p r 0 w.Stem).length = w.Stem.length := lettersR_length p r _ _
        have r1 := lasso_run (f := s_RivalWord_b0 p r w) (fun T q => (lettersR p r 0 w.Stem ++ T.flatMap (fun q => lettersR p r q w.Loop), q, T, (List.range T.length).map (fun j => ((w.Stem.length + j * w.Loop.length : Nat) : Int)))) hb (fun T q hT hrr a0 a1 => by
          unfold s_RivalWord_b0
          dsimp only
          rw [s_l1Has_eq, Option.bind_some]
          by_cases hq : q ∈ T
          · simp [hq]
          · have hfl := flat_len (part := fun q => lettersR p r q w.Loop) hpart T
            have hmul : T.length * w.Loop.length ≤ 256 * 600 := Nat.mul_le_mul (by omega) w3
            rw [app1 (by omega) rfl, app1 (by rw [List.length_map, List.length_range]; omega) rfl, s_l33Go_eq hr hs a0 a1 w5 (by omega)]
            simp only [hq, decide_false, Bool.not_false, cond_true, Option.bind_some, if_false]
            rw [appL (by rw [List.length_append, hfl, hbase, hpart]; omega) rfl, Option.bind_some]
            have e1 : ((lettersR p r 0 w.Stem ++ T.flatMap (fun q => lettersR p r q w.Loop)).length : Int) = ((w.Stem.length + T.length * w.Loop.length : Nat) : Int) := by rw [List.length_append, hfl, hbase]
            rw [e1]
            simp [List.range_succ]) (r.In.length + 1) (2 ^ 64) [] q (by simp) (by omega) (by simp) (by simp) q0.1 q0.2
        have r2 := lasso_run (f := i_RivalWord_b0 p r w) (fun T q => (T, lettersR p r 0 w.Stem ++ T.flatMap (fun q => lettersR p r q w.Loop), q)) hb (fun T q hT hrr a0 a1 => by
          unfold i_RivalWord_b0
          dsimp only
          rw [slices_Contains_I_int64_eq, Option.bind_some, any_mem]
          by_cases hq : q ∈ T
          · simp [hq]
          · have hfl := flat_len (part := fun q => lettersR p r q w.Loop) hpart T
            have hmul : T.length * w.Loop.length ≤ 256 * 600 := Nat.mul_le_mul (by omega) w3
            rw [app1 (by omega) rfl, i_RivalWord_1_eq hr hs a0 a1 w5 (by rw [List.length_append, hfl]; omega)]
            simp [hq]) (r.In.length + 1) (2 ^ 64) [] q (by simp) (by omega) (by simp) (by simp) q0.1 q0.2
        obtain ⟨l1, l2, l3⟩ := lasso_spec hb (r.In.length + 1) [] q (by simp) (by simp) (by simp) q0.1 q0.2
        generalize lasso (fun q => behindR r q w.Loop) (r.In.length + 1) [] q = L at r1 r2 l1 l2 l3
        obtain ⟨T, z⟩ := L
        dsimp only at r1 r2 l1 l2 l3
        have hT := nodup_lenN _ T l2 l3
        have hmul : T.length * w.Loop.length ≤ 256 * 600 := Nat.mul_le_mul (by omega) w3
        have hfl := flat_len (part := fun q => lettersR p r q w.Loop) hpart T
        simp only [List.flatMap_nil, List.append_nil, List.length_nil, List.range_zero, List.map_nil] at r1 r2
        rw [r1, r2]
        simp only [Option.bind_some, aft_inr, s_l1Place_eq, index_place]
        obtain ⟨k, p1, p2, p3⟩ := place_in l1
        rw [p1]
        have hkl : k * w.Loop.length ≤ T.length * w.Loop.length := Nat.mul_le_mul_right _ (by omega)
        have e1 : IntKind.i64.wrap ((w.Stem.length : Int) + IntKind.i64.wrap ((k : Int) * (w.Loop.length : Int))) = ((w.Stem.length + k * w.Loop.length : Nat) : Int) := by
          have : ((k * w.Loop.length : Nat) : Int) = (k : Int) * (w.Loop.length : Int) := by simp
          rw [wr' (z := (k : Int) * (w.Loop.length : Int)) (by omega) (by omega), wr' (by omega) (by omega)]
          omega
        have e0 : idx ((List.range T.length).map (fun j => ((w.Stem.length + j * w.Loop.length : Nat) : Int))) (k : Int) = some ((w.Stem.length + k * w.Loop.length : Nat) : Int) := by
          rw [idx_nat, List.getElem?_map, List.getElem?_range p2]; rfl
        obtain ⟨e2, e3⟩ := cut_eq (part := fun q => lettersR p r q w.Loop) hpart (lettersR p r 0 w.Stem) (T := T) (k := k) (by omega)
        rw [hbase] at e2 e3
        have g1 := flat_len (part := fun q => lettersR p r q w.Loop) hpart (T.take k)
        have g2 := flat_len (part := fun q => lettersR p r q w.Loop) hpart (T.drop k)
        rw [List.length_take, Nat.min_eq_left (by omega)] at g1
        rw [List.length_drop, Nat.sub_mul] at g2
        rw [e0, e1]
        unfold i_cutWord s_l1Copy
        have hlen : (lettersR p r 0 w.Stem ++ T.flatMap (fun q => lettersR p r q w.Loop)).length = w.Stem.length + T.length * w.Loop.length := by rw [List.length_append, hbase, hfl]
        simp only [Option.bind_some]
        rw [e2, e3]
        simp only [Option.bind_some]
        rw [appL (by rw [List.length_nil, List.length_append, g1, hbase]; omega) rfl, appL (by rw [List.length_nil, g2]; omega) rfl]
        simp only [Option.bind_some, List.nil_append, orE]
        have hA : ((lettersR p r 0 w.Stem ++ (T.take k).flatMap (fun q => lettersR p r q w.Loop)).length : Int) = ((w.Stem.length + k * w.Loop.length : Nat) : Int) := by rw [List.length_append, g1, hbase]
        have hB : (((T.drop k).flatMap (fun q => lettersR p r q w.Loop)).length : Int) = IntKind.i64.wrap (((lettersR p r 0 w.Stem ++ T.flatMap (fun q => lettersR p r q w.Loop)).length : Int) - ((w.Stem.length + k * w.Loop.length : Nat) : Int)) := by
          rw [hlen, g2, wr' (by omega) (by omega)]; omega
        rw [hA, ← hB]
        cases hc : (decide (600 < ((w.Stem.length + k * w.Loop.length : Nat) : Int)) || decide (600 < (((T.drop k).flatMap (fun q => lettersR p r q w.Loop)).length : Int))) with
        | true => exact ⟨_, _, rfl, rfl, by simp, by simp⟩
        | false =>
          rw [Bool.or_eq_false_iff, decide_eq_false_iff_not, decide_eq_false_iff_not] at hc
          exact ⟨_, _, rfl, rfl, by dsimp only; omega, by dsimp only; omega⟩
theorem FnExactRivalWord_law {p0 : Sig} (ok0 : Sig.ok p0) {p1 : Rival} (ok1 : Rival.ok p1) {p2 : Word} (ok2 : Word.ok p2) : l_FnExactRivalWord p0 p1 p2 = some true :=
  FnExactRivalWord_of ok0 ok1 ok2 fun b1 _ => by
    obtain ⟨a, b, h1, h2, h3, h4⟩ := RivalWord_same p0 p1 p2 b1.1.1
    exact ⟨a, b, h1, h2, by rw [ctL_one]; omega, by rw [ctL_one]; omega⟩
end Go.Proofs.Ytgniipbjjkodaaa
