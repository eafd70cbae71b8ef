/- Machines: the state behind some inputs. -/
import Derived.Test.YtnmjfjppgpkieaaMachWK
set_option linter.unusedVariables false
set_option linter.unusedSimpArgs false
namespace Go.Proofs.Ytnmjfjppgpkieaa
open Go Go.Wk Go.Proofs
section
variable {p : Sig} {m : Machine} (hm : machOk p m = true)
include hm
theorem s_l29Behind_eq {q : Int} {xs : List Int} (q0 : 0 ≤ q) (q1 : q < m.Next.length) (hx : xs.all (inR (pw p.In)) = true) : s_l29Behind m q xs = some (behind m q xs) := by
  obtain ⟨_, _, _, h4, _⟩ := machOk_spec hm
  rw [List.all_eq_true] at hx
  unfold s_l29Behind
  rw [(cnt_foldI (f := s_l29Behind_b0 m xs) (fun q x => tab m.Next q x) (fun _ q => 0 ≤ q ∧ q < m.Next.length) (fun i x q hi ⟨k0, k1⟩ => by
    obtain ⟨i0, i1⟩ := inR_iff.1 (hx x (List.mem_of_getElem? hi))
    obtain ⟨row, t1, t2, t3⟩ := tab_in h4 k0 k1 i0 i1
    unfold s_l29Behind_b0
    rw [idx_nat, hi, Option.bind_some, t1, Option.bind_some, t2]
    exact ⟨rfl, t3⟩) ⟨q0, q1⟩).1]
  rfl
end
end Go.Proofs.Ytnmjfjppgpkieaa
