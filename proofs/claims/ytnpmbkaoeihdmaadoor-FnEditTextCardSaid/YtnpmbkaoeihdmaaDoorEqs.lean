/- Equality of structs of three numbers. -/
import Derived.Test.YtnpmbkaoeihdmaaDoorMap
set_option linter.unusedVariables false
set_option linter.unusedSimpArgs false
namespace Go.Wk
open Go
variable {P : Program} {n : Nat} {C : World → Prop} {L : Env} {o : Oper}
theorem run_equalS3 {t : TypeId} {f1 f2 f3 : Field} {k : IntKind} {p1 p2 p3 q1 q2 q3 : Int} (ht : P.underlying t = some (.struct #[f1, f2, f3])) (hst : P.stoodInHeld t = false) (n1 : (f1.name != "_") = true) (n2 : (f2.name != "_") = true) (n3 : (f3.name != "_") = true) (o1 : f1.offset = 0) (o2 : f2.offset = 1) (o3 : f3.offset = 2)
    (a1 : ∀ w, (isAgg f1.type).run P w = .ok false w) (a2 : ∀ w, (isAgg f2.type).run P w = .ok false w) (a3 : ∀ w, (isAgg f3.type).run P w = .ok false w) (u1 : ∀ w, (underlying f1.type).run P w = .ok (.int k) w) (u2 : ∀ w, (underlying f2.type).run P w = .ok (.int k) w) (u3 : ∀ w, (underlying f3.type).run P w = .ok (.int k) w) (w : World) :
    (Op.equal t (.agg #[.int k p1, .int k p2, .int k p3]) (.agg #[.int k q1, .int k q2, .int k q3])).run P w = .ok ((p1 == q1) && (p2 == q2) && (p3 == q3)) w := by
  have m1 : f1.name ≠ "_" := by simpa using n1
  have m2 : f2.name ≠ "_" := by simpa using n2
  have m3 : f3.name ≠ "_" := by simpa using n3
  have hf : P.fieldsOf t = #[f1, f2, f3] := by simp [Program.fieldsOf, ht]
  unfold Op.equal
  obtain ⟨d, hd⟩ : ∃ d, Op.maxDepth = (d + 1) + 1 := ⟨9998, rfl⟩
  rw [hd, run_equalIn_struct w (d + 1) t _ _ (by rw [hf]; exact ht) hst, hf]
  have x1 : ∀ p q r : Int, (part f1.type #[.int k p, .int k q, .int k r] f1.offset).run P w = .ok (.int k p) w := fun p q r => by simp [part, a1, o1]
  have x2 : ∀ p q r : Int, (part f2.type #[.int k p, .int k q, .int k r] f2.offset).run P w = .ok (.int k q) w := fun p q r => by simp [part, a2, o2]
  have x3 : ∀ p q r : Int, (part f3.type #[.int k p, .int k q, .int k r] f3.offset).run P w = .ok (.int k r) w := fun p q r => by simp [part, a3, o3]
  simp only [Op.eqFields, m1, m2, m3, ne_eq, not_false_eq_true, if_true, Sem.run_bind, x1, x2, x3, Result.andThen_ok, run_eqInt u1, run_eqInt u2, run_eqInt u3]
  cases e1 : (p1 == q1) <;> cases e2 : (p2 == q2) <;> cases e3 : (p3 == q3) <;> simp [Result.andThen, run_eqInt u2, run_eqInt u3, x2, x3, e2, e3]
theorem rn_eqlS3 {x y : Operand} {t t' : TypeId} {f1 f2 f3 : Field} {k : IntKind} {p1 p2 p3 q1 q2 q3 : Int} (ht : P.underlying t = some (.struct #[f1, f2, f3])) (hg : P.eqGuardType P.depth t = false) (hst : P.stoodInHeld t = false) (n1 : (f1.name != "_") = true) (n2 : (f2.name != "_") = true) (n3 : (f3.name != "_") = true) (o1 : f1.offset = 0) (o2 : f2.offset = 1) (o3 : f3.offset = 2)
    (a1 : ∀ w, (isAgg f1.type).run P w = .ok false w) (a2 : ∀ w, (isAgg f2.type).run P w = .ok false w) (a3 : ∀ w, (isAgg f3.type).run P w = .ok false w) (u1 : ∀ w, (underlying f1.type).run P w = .ok (.int k) w) (u2 : ∀ w, (underlying f2.type).run P w = .ok (.int k) w) (u3 : ∀ w, (underlying f3.type).run P w = .ok (.int k) w)
    (ho : o.op = .binOp .eql t x y t') (hx : opd L x = some (.agg #[.int k p1, .int k p2, .int k p3])) (hy : opd L y = some (.agg #[.int k q1, .int k q2, .int k q3])) : Rn P n C o L (.bool ((p1 == q1) && (p2 == q2) && (p3 == q3))) := fun a w ha _ => by
  simp only [execOp, ho, ha.eval hx, ha.eval hy, eqGuard, binOp, Sem.run_bind, run_program, Sem.run_pure, Result.andThen_ok, hg, run_equalS3 ht hst n1 n2 n3 o1 o2 o3 a1 a2 a3 u1 u2 u3]
  simp [Result.andThen, hg]
end Go.Wk
