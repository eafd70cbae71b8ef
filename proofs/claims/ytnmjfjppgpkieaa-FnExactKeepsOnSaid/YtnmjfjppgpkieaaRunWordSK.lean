/- RunWord: both sides compute the same. -/
import Derived.Test.YtnmjfjppgpkieaaWordOkK
import Derived.Test.YtnmjfjppgpkieaaPlaceIK
import Derived.Test.YtnmjfjppgpkieaaPlaceSK
import Derived.Test.YtnmjfjppgpkieaaLassoK
import Derived.Test.YtnmjfjppgpkieaaMachBK
set_option linter.unusedVariables false
set_option linter.unusedSimpArgs false
namespace Go.Proofs.Ytnmjfjppgpkieaa
open Go Go.Wk Go.Proofs

section
variable {p : Sig} {m : Machine} (hm : machOk p m = true) (hs : sigOk p = true)
include hm hs
theorem i_runWord_1_eq {q : Int} {xs acc : List Int} (q0 : 0 ≤ q) (q1 : q < m.Next.length) (hx : xs.all (inR (pw p.In)) = true) (hl : xs.length + acc.length ≤ 1000000) : i_runWord_1 xs acc m q p = some (acc ++ lettersM p m q xs, behind m q xs) := by
  obtain ⟨_, _, h3, h4, h5⟩ := machOk_spec hm
  rw [List.all_eq_true] at hx
  have pI := pw_le p.In
  have pO := pw_le p.Out
  unfold i_runWord_1
  have key := cnt_foldI (f := i_runWord_1_b0 xs m p) (fun (s : List Int × Int) x => (s.1 ++ [tab m.Out s.2 x * pw p.In + x], tab m.Next s.2 x)) (fun j s => 0 ≤ s.2 ∧ s.2 < m.Next.length ∧ s.1.length = acc.length + j) (xs := xs) (fun i x s hi ⟨k0, k1, k2⟩ => by
    obtain ⟨i0, i1⟩ := inR_iff.1 (hx x (List.mem_of_getElem? hi))
    obtain ⟨row, t1, t2, t3⟩ := tab_in h4 k0 k1 i0 i1
    obtain ⟨row', u1, u2, u3⟩ := tab_in h5 k0 (by omega) i0 i1
    have hlt := (List.getElem?_eq_some_iff.1 hi).1
    have hmul : 0 ≤ tab m.Out s.2 x * pw p.In := Int.mul_nonneg u3.1 (by omega)
    have hmul2 : tab m.Out s.2 x * pw p.In ≤ 4 * 4 := Int.mul_le_mul (by omega) (by omega) (by omega) (by omega)
    unfold i_runWord_1_b0
    rw [idx_nat, hi, Option.bind_some, u1, Option.bind_some, u2, Option.bind_some, i_inputsOf_eq hs, Option.bind_some, wr' (z := tab m.Out s.2 x * pw p.In) (by omega) (by omega), wr' (by omega) (by omega), app1 (by omega) rfl, Option.bind_some, t1, Option.bind_some, t2]
    exact ⟨rfl, t3.1, t3.2, by simp; omega⟩) (s := (acc, q)) ⟨q0, q1, rfl⟩
  rw [key.1]
  have e : ∀ (xs : List Int) (q : Int) (acc : List Int), xs.foldl (fun (s : List Int × Int) x => (s.1 ++ [tab m.Out s.2 x * pw p.In + x], tab m.Next s.2 x)) (acc, q) = (acc ++ lettersM p m q xs, behind m q xs) := by
    intro xs
    induction xs with
    | nil => intro q acc; simp [behind, lettersM]
    | cons x xs ih => intro q acc; rw [List.foldl_cons, ih]; simp [behind, lettersM]
  rw [e]
  rfl
theorem RunWord_same' {w : Word} (hw : wordOk w (pw p.In) = true) : ∃ a b : List Int, a.length + b.length ≤ 30000 ∧
    Option.bind (s_l29Behind m 0 w.Stem) (fun x42 =>
    Option.bind (whileM (s_RunWord_b0 m w) (2 ^ 64) ((([] : List Int) : (List Int)), (x42 : Int))) fun q2 =>
    aft (fun r => some r) (fun s3 =>
      Option.bind (s_l1Place s3.1 s3.2) fun x58 =>
      Option.bind (s_l29Letters p m 0 w.Stem) fun x63 =>
      Option.bind (cntM (s_RunWord_b2 p m w s3 x58) s3.1.length 0 ((x63 : (List Int)), (([] : List Int) : (List Int)))) fun q5 =>
      aft (fun r => some r) (fun s6 =>
        bif (decide (600 < (s6.1.length : Int)) || decide (600 < (s6.2.length : Int))) then
          some ((⟨([] : List Int), ([] : List Int)⟩ : Word) : Word)
        else
          some ((⟨s6.1, s6.2⟩ : Word) : Word)) q5) q2) = some (bif decide (600 < (a.length : Int)) || decide (600 < (b.length : Int)) then ⟨[], []⟩ else ⟨a, b⟩) ∧
    i_runWord p m w = some (⟨a, b⟩, decide ((a.length : Int) ≤ 600) && decide ((b.length : Int) ≤ 600)) := by
  obtain ⟨n1, n2, h3, h4, h5⟩ := machOk_spec hm
  obtain ⟨w1, w2, w3, w4, w5⟩ := wordOk_spec hw
  rw [s_l29Behind_eq hm (by omega) (by omega) w4, Option.bind_some]
  unfold i_runWord
  rw [i_runWord_1_eq hm hs (by omega) (by omega) w4 (by simp; omega), Option.bind_some, List.nil_append]
  have q0 := behind_in hm (q := 0) (by omega) (by omega) w4
  generalize hq : behind m 0 w.Stem = q at q0
  have hb : ∀ q : Int, 0 ≤ q → q < (m.Next.length : Nat) → 0 ≤ behind m q w.Loop ∧ behind m q w.Loop < (m.Next.length : Nat) := fun q a b => behind_in hm a b w5
  have hpart : ∀ x, (lettersM p m x w.Loop).length = w.Loop.length := fun x => lettersM_length p m _ _
  have hbase : (lettersM p m 0 w.Stem).length = w.Stem.length := lettersM_length p m _ _
  have r1 := lasso_run (f := s_RunWord_b0 m w) (fun T q => (T, q)) hb (fun T q hT hr a0 a1 => by
    unfold s_RunWord_b0
    dsimp only
    rw [s_l1Place_eq, Option.bind_some, place_lt]
    by_cases hq : q ∈ T
    · simp [hq]
    · rw [app1 (by omega) rfl, s_l29Behind_eq hm a0 a1 w5]
      simp [hq]) (m.Next.length + 1) (2 ^ 64) [] q (by simp) (by omega) (by simp) (by simp) q0.1 q0.2
  have r2 := lasso_run (f := i_runWord_b0 p m w) (fun T q => (T, lettersM p m 0 w.Stem ++ T.flatMap (fun q => lettersM p m q w.Loop), q)) hb (fun T q hT hr a0 a1 => by
    unfold i_runWord_b0
    dsimp only
    rw [slices_Contains_I_int64_eq, Option.bind_some, any_mem]
    by_cases hq : q ∈ T
    · simp [hq]
    · have hfl := flat_len (part := fun q => lettersM p m q w.Loop) hpart T
      have hmul : T.length * w.Loop.length ≤ 48 * 600 := Nat.mul_le_mul (by omega) w3
      rw [app1 (by omega) rfl, i_runWord_1_eq hm hs a0 a1 w5 (by rw [List.length_append, hfl]; omega)]
      simp [hq]) (m.Next.length + 1) (2 ^ 64) [] q (by simp) (by omega) (by simp) (by simp) q0.1 q0.2
  obtain ⟨l1, l2, l3⟩ := lasso_spec hb (m.Next.length + 1) [] q (by simp) (by simp) (by simp) q0.1 q0.2
  generalize lasso (fun q => behind m q w.Loop) (m.Next.length + 1) [] q = L at r1 r2 l1 l2 l3
  obtain ⟨T, z⟩ := L
  dsimp only at r1 r2 l1 l2 l3
  have hT := nodup_lenN _ T l2 l3
  have hmul : T.length * w.Loop.length ≤ 48 * 600 := Nat.mul_le_mul (by omega) w3
  have hfl := flat_len (part := fun q => lettersM p m q w.Loop) hpart T
  rw [List.flatMap_nil, List.append_nil] at r2
  rw [r1, r2]
  simp only [Option.bind_some, aft_inr, s_l1Place_eq, index_place]
  obtain ⟨k, p1, p2, p3⟩ := place_in l1
  rw [p1, s_l29Letters_eq hm hs (by omega) (by omega) w4 (by omega), Option.bind_some]
  have hkl : k * w.Loop.length ≤ T.length * w.Loop.length := Nat.mul_le_mul_right _ (by omega)
  have ht := flat_take (part := fun q => lettersM p m q w.Loop) hpart T k
  -- the second loop
  obtain ⟨s, c1, c2⟩ := cnt_inv (f := s_RunWord_b2 p m w (T, z) (k : Int)) (fun j (s : List Int × List Int) => s = (lettersM p m 0 w.Stem ++ ((T.take j).take k).flatMap (fun q => lettersM p m q w.Loop), ((T.take j).drop k).flatMap (fun q => lettersM p m q w.Loop))) T.length (s := (lettersM p m 0 w.Stem, [])) (by simp) (fun j s hj hsj => by
    have hx : T[j]? = some T[j] := by simp [hj]
    obtain ⟨x0, x1⟩ := l3 T[j] (by simp)
    have hlj : (T.take j).length = j := by rw [List.length_take]; omega
    have hjl : j * w.Loop.length ≤ T.length * w.Loop.length := Nat.mul_le_mul_right _ (by omega)
    have f1 := flat_len (part := fun q => lettersM p m q w.Loop) hpart ((T.take j).take k)
    have f2 := flat_len (part := fun q => lettersM p m q w.Loop) hpart ((T.take j).drop k)
    have f3 : ((T.take j).take k).length * w.Loop.length ≤ T.length * w.Loop.length := Nat.mul_le_mul_right _ (by rw [List.length_take]; omega)
    have f4 : ((T.take j).drop k).length * w.Loop.length ≤ T.length * w.Loop.length := Nat.mul_le_mul_right _ (by rw [List.length_drop]; omega)
    subst hsj
    unfold s_RunWord_b2
    dsimp only
    rw [idx_nat, hx, Option.bind_some, s_l29Letters_eq hm hs x0 x1 w5 (by omega), Option.bind_some]
    have hT1 : T.take (j + 1) = T.take j ++ [T[j]] := by rw [List.take_add_one, hx]; rfl
    have hl1 : (T.take j ++ [T[j]]).length = j + 1 := by rw [List.length_append, hlj]; rfl
    rw [hT1]
    by_cases hjk : j < k
    · simp only [show (j : Int) < (k : Int) from by omega, decide_true, cond_true]
      rw [appL (by rw [List.length_append, f1, hbase, hpart]; omega) rfl, Option.bind_some, Option.bind_some]
      refine ⟨_, rfl, ?_⟩
      rw [List.take_of_length_le (show (T.take j).length ≤ k by omega), List.drop_of_length_le (show (T.take j).length ≤ k by omega), List.take_of_length_le (show (T.take j ++ [T[j]]).length ≤ k by omega), List.drop_of_length_le (show (T.take j ++ [T[j]]).length ≤ k by omega)]
      simp only [List.flatMap_append, List.flatMap_cons, List.flatMap_nil, List.append_nil, List.append_assoc]
    · simp only [show ¬ (j : Int) < (k : Int) from by omega, decide_false, cond_false]
      rw [appL (by rw [f2, hpart]; omega) rfl, Option.bind_some, Option.bind_some]
      refine ⟨_, rfl, ?_⟩
      rw [List.take_append_of_le_length (show k ≤ (T.take j).length by omega), List.drop_append_of_le_length (show k ≤ (T.take j).length by omega)]
      simp)
  rw [c1, c2, List.take_length]
  simp only [Option.bind_some, aft_inr, orE]
  have e1 : IntKind.i64.wrap ((w.Stem.length : Int) + IntKind.i64.wrap ((k : Int) * (w.Loop.length : Int))) = ((w.Stem.length + k * w.Loop.length : Nat) : Int) := by
    have : ((k * w.Loop.length : Nat) : Int) = (k : Int) * (w.Loop.length : Int) := by simp
    rw [wr' (z := (k : Int) * (w.Loop.length : Int)) (by omega) (by omega), wr' (by omega) (by omega)]
    omega
  obtain ⟨e2, e3⟩ := cut_eq (part := fun q => lettersM p m q w.Loop) hpart (lettersM p m 0 w.Stem) (T := T) (k := k) (by omega)
  rw [hbase] at e2 e3
  rw [e1, e2, e3]
  have g1 := flat_len (part := fun q => lettersM p m q w.Loop) hpart (T.take k)
  have g2 := flat_len (part := fun q => lettersM p m q w.Loop) hpart (T.drop k)
  have g3 : (T.take k).length * w.Loop.length ≤ T.length * w.Loop.length := Nat.mul_le_mul_right _ (by rw [List.length_take]; omega)
  have g4 : (T.drop k).length * w.Loop.length ≤ T.length * w.Loop.length := Nat.mul_le_mul_right _ (by rw [List.length_drop]; omega)
  have g5 : (lettersM p m 0 w.Stem ++ (T.take k).flatMap (fun q => lettersM p m q w.Loop)).length ≤ 600 + 28800 := by rw [List.length_append, g1, hbase]; omega
  have g6 : (T.take k).length + (T.drop k).length = T.length := by rw [List.length_take, List.length_drop]; omega
  have g7 : (T.take k).length * w.Loop.length + (T.drop k).length * w.Loop.length = T.length * w.Loop.length := by rw [← Nat.add_mul, g6]
  refine ⟨_, _, ?_, iteE _ _ _, ?_⟩
  · rw [List.length_append, g1, g2, hbase]; omega
  · simp only [Option.bind_some]
    rw [appL (by rw [List.length_nil]; omega) rfl, appL (by rw [List.length_nil, g2]; omega) rfl]
    simp only [Option.bind_some, List.nil_append, andE, bifA]
end
theorem RunWord_same (p : Sig) (m : Machine) (w : Word) : ∃ r, s_RunWord p m w = some r ∧ i_RunWord p m w = some r ∧ r.Stem.length ≤ 30000 ∧ r.Loop.length ≤ 30000 := by
  unfold s_RunWord i_RunWord
  rw [s_MachineOk_eq, i_isSig_eq, Option.bind_some, Option.bind_some]
  cases hs : sigOk p with
  | false => exact ⟨_, rfl, rfl, by simp, by simp⟩
  | true =>
    rw [i_isMachine_eq hs]
    cases hm : machOk p m with
    | false => exact ⟨_, rfl, rfl, by simp, by simp⟩
    | true =>
      have pI := pw_le p.In
      have hin : ∀ xs : List Int, s_l29Inputs p xs = some (decide ((xs.length : Int) ≤ 600) && xs.all (inR (pw p.In))) := fun xs => by
        unfold s_l29Inputs
        rw [s_l29Ins, s_l23Power_eq (sigOk_in hs).1, Option.bind_some, Option.bind_some, s_l23Below_eq xs (by omega) (by omega), Option.bind_some, andE, Option.bind_some]
      simp only [hin, i_inputsOf_eq hs, i_isWord_eq, Bool.not_true, Bool.and_self, cond_false, Option.bind_some, orE]
      have hc : (!(decide ((w.Stem.length : Int) ≤ 600) && w.Stem.all (inR (pw p.In))) || !(decide ((w.Loop.length : Int) ≤ 600) && w.Loop.all (inR (pw p.In))) || ((w.Loop.length : Int) == 0)) = !(wordOk w (pw p.In)) := by
        unfold wordOk
        have : decide (1 ≤ (w.Loop.length : Int)) = !((w.Loop.length : Int) == 0) := by
          by_cases h : (w.Loop.length : Int) = 0
          · simp [h]
          · have h1 : 1 ≤ (w.Loop.length : Int) := by omega
            have h2 : ((w.Loop.length : Int) == 0) = false := by rw [beq_eq_false_iff_ne]; exact h
            rw [h2, decide_eq_true h1]; rfl
        rw [this]
        generalize decide ((w.Stem.length : Int) ≤ 600) = b1
        generalize w.Stem.all (inR (pw p.In)) = b2
        generalize decide ((w.Loop.length : Int) ≤ 600) = b3
        generalize w.Loop.all (inR (pw p.In)) = b4
        generalize ((w.Loop.length : Int) == 0) = b5
        cases b1 <;> cases b2 <;> cases b3 <;> cases b4 <;> cases b5 <;> rfl
      rw [hc]
      cases hw : wordOk w (pw p.In) with
      | false => exact ⟨_, rfl, rfl, by simp, by simp⟩
      | true =>
        obtain ⟨a, b, hl, h1, h2⟩ := RunWord_same' hm hs hw
        simp only [Bool.not_true, cond_false]
        rw [h1, h2, Option.bind_some]
        refine ⟨_, rfl, ?_, ?_, ?_⟩
        · by_cases k1 : (a.length : Int) ≤ 600
          · by_cases k2 : (b.length : Int) ≤ 600
            · have k1' : ¬ 600 < (a.length : Int) := by omega
              have k2' : ¬ 600 < (b.length : Int) := by omega
              simp [k1, k2, k1', k2']
            · have k2' : 600 < (b.length : Int) := by omega
              simp [k1, k2, k2']
          · have k1' : 600 < (a.length : Int) := by omega
            simp [k1, k1']
        · cases (decide (600 < (a.length : Int)) || decide (600 < (b.length : Int)))
          · show a.length ≤ 30000; omega
          · simp
        · cases (decide (600 < (a.length : Int)) || decide (600 < (b.length : Int)))
          · show b.length ≤ 30000; omega
          · simp
end Go.Proofs.Ytnmjfjppgpkieaa
