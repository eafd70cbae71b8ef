/- TextMachine: the law. -/
import Derived.Test.YtnpmbkaoeihdmaaDoorTMachT
set_option linter.unusedVariables false
set_option linter.unusedSimpArgs false
namespace Go.Proofs.YtnpmbkaoeihdmaaDoor
open Go Go.Wk Go.Proofs

theorem finP_small (p : Sig) (ls : List (List UInt8)) (more : Bool) : (finP p ls more).1.Next.length ≤ 48 ∧ (finP p ls more).1.Out.length ≤ 48 ∧ (∀ x ∈ (finP p ls more).1.Next, x.length ≤ 4) ∧ ∀ x ∈ (finP p ls more).1.Out, x.length ≤ 4 := by
  unfold finP
  cases mapO rowP ls with
  | none => simp [zeroM]
  | some R =>
    dsimp only
    split
    · rename_i h
      simp only [Bool.and_eq_true] at h
      obtain ⟨m1, m2, m3, m4, m5⟩ := machOk_spec h.2.2
      have pI := pw_le p.In
      exact ⟨m2, by show (machOf R).Out.length ≤ 48; omega, fun x hx => by have := (m4 x hx).1; omega, fun x hx => by have := (m5 x hx).1; omega⟩
    · simp [zeroM]
theorem FnExactTextMachine_law {p0 : Sig} (ok0 : Sig.ok p0) {p1 : ByteArray} (ok1 : okStr p1) : l_FnExactTextMachine p0 p1 = some true :=
  FnExactTextMachine_of ok0 ok1 fun _ => by
    have h1 := s_TextMachine_eq p0 (l := p1.data.toList)
    have h2 := i_TextMachine_eq p0 (l := p1.data.toList)
    rw [ofL_self] at h1 h2
    have hr : ∃ r : Machine × Bool, r = (if 20000 < p1.data.toList.length then zeroM else finP p0 (linesT p1.data.toList) (moreT p1.data.toList)) ∧ r.1.Next.length ≤ 48 ∧ r.1.Out.length ≤ 48 ∧ (∀ x ∈ r.1.Next, x.length ≤ 4) ∧ ∀ x ∈ r.1.Out, x.length ≤ 4 := by
      refine ⟨_, rfl, ?_⟩
      split
      · simp [zeroM]
      · exact finP_small _ _ _
    obtain ⟨⟨m, b⟩, e, b1, b2, b3, b4⟩ := hr
    refine ⟨m, b, by rw [h1, e], by rw [h2, e], ?_, ?_⟩
    · have := ctL_bd (c := ctL (fun _ => 1)) (N := 48) (M := 4) (xs := m.Next) b1 (fun x hx => by rw [ctL_one]; exact b3 x hx)
      omega
    · have := ctL_bd (c := ctL (fun _ => 1)) (N := 48) (M := 4) (xs := m.Out) b2 (fun x hx => by rw [ctL_one]; exact b4 x hx)
      omega
end Go.Proofs.YtnpmbkaoeihdmaaDoor
