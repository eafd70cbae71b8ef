/- Machines: words that they run. -/
import Derived.Test.YtnmjfjppgpkieaaMachK
set_option linter.unusedVariables false
set_option linter.unusedSimpArgs false
namespace Go.Proofs.Ytnmjfjppgpkieaa
open Go Go.Wk Go.Proofs

/-- the state behind some inputs -/
def behind (m : Machine) (q : Int) (xs : List Int) : Int := xs.foldl (fun q x => tab m.Next q x) q
/-- the letters for some inputs -/
def lettersM (p : Sig) (m : Machine) : Int → List Int → List Int
  | _, [] => []
  | q, x :: xs => (tab m.Out q x * pw p.In + x) :: lettersM p m (tab m.Next q x) xs
theorem lettersM_length (p : Sig) (m : Machine) : ∀ (xs : List Int) (q : Int), (lettersM p m q xs).length = xs.length
  | [], _ => rfl
  | x :: xs, q => by simp [lettersM, lettersM_length p m xs]
theorem fold_letters (p : Sig) (m : Machine) : ∀ (xs : List Int) (q : Int) (acc : List Int), xs.foldl (fun (s : Int × List Int) x => (tab m.Next s.1 x, s.2 ++ [tab m.Out s.1 x * pw p.In + x])) (q, acc) = (behind m q xs, acc ++ lettersM p m q xs)
  | [], q, acc => by simp [behind, lettersM]
  | x :: xs, q, acc => by
    rw [List.foldl_cons, fold_letters p m xs]
    simp [behind, lettersM]
section
variable {p : Sig} {m : Machine} (hm : machOk p m = true)
include hm
theorem behind_in {q : Int} {xs : List Int} (q0 : 0 ≤ q) (q1 : q < m.Next.length) (hx : xs.all (inR (pw p.In)) = true) : 0 ≤ behind m q xs ∧ behind m q xs < m.Next.length := by
  obtain ⟨_, _, _, h4, _⟩ := machOk_spec hm
  induction xs generalizing q with
  | nil => exact ⟨q0, q1⟩
  | cons x xs ih =>
    rw [List.all_cons, Bool.and_eq_true] at hx
    obtain ⟨i0, i1⟩ := inR_iff.1 hx.1
    obtain ⟨_, _, _, t0, t1⟩ := tab_in h4 q0 q1 i0 i1
    exact ih t0 t1 hx.2
theorem s_l29Letters_eq (hs : sigOk p = true) {q : Int} {xs : List Int} (q0 : 0 ≤ q) (q1 : q < m.Next.length) (hx : xs.all (inR (pw p.In)) = true) (hl : xs.length ≤ 1000000) : s_l29Letters p m q xs = some (lettersM p m q xs) := by
  obtain ⟨_, _, h3, h4, h5⟩ := machOk_spec hm
  rw [List.all_eq_true] at hx
  have pI := pw_le p.In
  have pO := pw_le p.Out
  unfold s_l29Letters
  rw [(cnt_foldI (f := s_l29Letters_b0 p m xs) (fun (s : Int × List Int) x => (tab m.Next s.1 x, s.2 ++ [tab m.Out s.1 x * pw p.In + x])) (fun j s => 0 ≤ s.1 ∧ s.1 < m.Next.length ∧ s.2.length = j) (fun i x s hi ⟨k0, k1, k2⟩ => by
    obtain ⟨i0, i1⟩ := inR_iff.1 (hx x (List.mem_of_getElem? hi))
    obtain ⟨row, t1, t2, t3⟩ := tab_in h4 k0 k1 i0 i1
    obtain ⟨row', u1, u2, u3⟩ := tab_in h5 k0 (by omega) i0 i1
    have hlt := (List.getElem?_eq_some_iff.1 hi).1
    have hmul : 0 ≤ tab m.Out s.1 x * pw p.In := Int.mul_nonneg u3.1 (by omega)
    have hmul2 : tab m.Out s.1 x * pw p.In ≤ 4 * 4 := Int.mul_le_mul (by omega) (by omega) (by omega) (by omega)
    unfold s_l29Letters_b0
    rw [idx_nat, hi, Option.bind_some, Option.bind_some, u1, Option.bind_some, u2, Option.bind_some, s_l29Ins, s_l23Power_eq (sigOk_in hs).1, Option.bind_some, Option.bind_some, wr' (z := tab m.Out s.1 x * pw p.In) (by omega) (by omega), wr' (by omega) (by omega), app1 (by omega) rfl, Option.bind_some, Option.bind_some, t1, Option.bind_some, t2]
    exact ⟨rfl, t3.1, t3.2, by simp; omega⟩) (s := (q, [])) ⟨q0, q1, rfl⟩).1, fold_letters]
  rfl
end
end Go.Proofs.Ytnmjfjppgpkieaa
