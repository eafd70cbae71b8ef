/- The walk's steps, an operation each; how data lie in memory. -/
import Derived.Test.YtndiklipffipcaaBase
set_option linter.unusedVariables false
set_option linter.unusedSimpArgs false
namespace Go.Wk
open Go

/-! ### operations that leave the world alone -/
def Rn (P : Program) (n : Nat) (C : World → Prop) (o : Oper) (L : Env) (v : Value) : Prop := ∀ a w, Kn n L a → C w → (execOp a.eval o).run P w = .ok (.value v) w

section
variable {P : Program} {n : Nat} {C : World → Prop} {o : Oper} {L : Env}

theorem WO.qq {ops : Array Oper} {N : Act → World → Prop} {r : List (Nat × Nat)} {w : World} {i d : Nat} (ho : ops[i]? = some o) (hg : gd ops L o = some true) (hd : o.dst = some d) (hb : Nat.blt d n = true) {v : Value}
    (hr : Rn P n C o L v) (k : WO P n ops C N r ((d, v) :: L) w) : WO P n ops C N ((i, 0) :: r) L w := WO.q ho hg hd hb hr k

/-- the same operation, in the world as it is -/
theorem WO.lq {ops : Array Oper} {N : Act → World → Prop} {r : List (Nat × Nat)} {w : World} {i d : Nat} (ho : ops[i]? = some o) (hg : gd ops L o = some true) (hd : o.dst = some d) (hb : Nat.blt d n = true) {v : Value}
    (hC : C w) (hr : Rn P n (fun x => x = w) o L v) (k : WO P n ops C N r ((d, v) :: L) w) : WO P n ops C N ((i, 1) :: r) L w :=
  WO.l ho hg hd hb fun a ha => by unfold Runs; rw [hr a w ha rfl]; exact ⟨hC, k⟩

theorem rn_move {x : Operand} {v : Value} (ho : o.op = .move x) (hx : opd L x = some v) : Rn P n C o L v := fun a w ha _ => by simp [execOp, ho, ha.eval hx]
theorem rn_assign {x : Operand} {v : Value} (ho : o.op = .assign x) (hx : opd L x = some v) : Rn P n C o L v := fun a w ha _ => by simp [execOp, ho, ha.eval hx]
theorem rn_pickT {c x y : Operand} {v : Value} (ho : o.op = .pick c x y) (hc : opd L c = some (.bool true)) (hx : opd L x = some v) : Rn P n C o L v := fun a w ha _ => by
  simp [execOp, ho, ha.eval hx, ha.eval hc, asBool]
theorem rn_pickF {c x y : Operand} {v : Value} (ho : o.op = .pick c x y) (hc : opd L c = some (.bool false)) (hx : opd L y = some v) : Rn P n C o L v := fun a w ha _ => by
  simp [execOp, ho, ha.eval hx, ha.eval hc, asBool]
theorem rn_not {x : Operand} {t : TypeId} {b : Bool} (ho : o.op = .unOp .not t x) (hx : opd L x = some (.bool b)) : Rn P n C o L (.bool (!b)) := fun a w ha _ => by
  simp [execOp, ho, ha.eval hx, Op.unary]
theorem rn_neg {x : Operand} {t : TypeId} {k : IntKind} {m : Int} (ho : o.op = .unOp .neg t x) (hx : opd L x = some (.int k m)) : Rn P n C o L (.int k (k.wrap (0 - m))) := fun a w ha _ => by
  simp [execOp, ho, ha.eval hx, Op.unary, Op.intArith]

section ints
variable {x y : Operand} {t t' : TypeId} {k : IntKind} {p q : Int} (hx : opd L x = some (.int k p)) (hy : opd L y = some (.int k q))
include hx hy
theorem rn_add (ho : o.op = .binOp .add t x y t') : Rn P n C o L (.int k (k.wrap (p + q))) := fun a w ha _ => by simp [execOp, ho, ha.eval hx, ha.eval hy, eqGuard, binOp, Op.intArith]
theorem rn_sub (ho : o.op = .binOp .sub t x y t') : Rn P n C o L (.int k (k.wrap (p - q))) := fun a w ha _ => by simp [execOp, ho, ha.eval hx, ha.eval hy, eqGuard, binOp, Op.intArith]
theorem rn_mul (ho : o.op = .binOp .mul t x y t') : Rn P n C o L (.int k (k.wrap (p * q))) := fun a w ha _ => by simp [execOp, ho, ha.eval hx, ha.eval hy, eqGuard, binOp, Op.intArith]
theorem rn_quo (ho : o.op = .binOp .quo t x y t') (h0 : ¬ q = 0) : Rn P n C o L (.int k (k.wrap (p.tdiv q))) := fun a w ha _ => by simp [execOp, ho, ha.eval hx, ha.eval hy, eqGuard, binOp, Op.intDiv, h0]
theorem rn_rem (ho : o.op = .binOp .rem t x y t') (h0 : ¬ q = 0) : Rn P n C o L (.int k (p.tmod q)) := fun a w ha _ => by simp [execOp, ho, ha.eval hx, ha.eval hy, eqGuard, binOp, Op.intDiv, h0]
theorem rn_and (ho : o.op = .binOp .and t x y t') : Rn P n C o L (.int k (k.wrap (BitVec.ofInt k.bits p &&& BitVec.ofInt k.bits q).toNat)) := fun a w ha _ => by simp [execOp, ho, ha.eval hx, ha.eval hy, eqGuard, binOp, Op.intBits]
theorem rn_or (ho : o.op = .binOp .or t x y t') : Rn P n C o L (.int k (k.wrap (BitVec.ofInt k.bits p ||| BitVec.ofInt k.bits q).toNat)) := fun a w ha _ => by simp [execOp, ho, ha.eval hx, ha.eval hy, eqGuard, binOp, Op.intBits]
theorem rn_xor (ho : o.op = .binOp .xor t x y t') : Rn P n C o L (.int k (k.wrap (BitVec.ofInt k.bits p ^^^ BitVec.ofInt k.bits q).toNat)) := fun a w ha _ => by simp [execOp, ho, ha.eval hx, ha.eval hy, eqGuard, binOp, Op.intBits]
theorem rn_lss (ho : o.op = .binOp .lss t x y t') : Rn P n C o L (.bool (decide (p < q))) := fun a w ha _ => by simp [execOp, ho, ha.eval hx, ha.eval hy, eqGuard, binOp, Op.intCmp]
theorem rn_leq (ho : o.op = .binOp .leq t x y t') : Rn P n C o L (.bool (decide (p ≤ q))) := fun a w ha _ => by simp [execOp, ho, ha.eval hx, ha.eval hy, eqGuard, binOp, Op.intCmp]
theorem rn_gtr (ho : o.op = .binOp .gtr t x y t') : Rn P n C o L (.bool (decide (q < p))) := fun a w ha _ => by simp [execOp, ho, ha.eval hx, ha.eval hy, eqGuard, binOp, Op.intCmp]
theorem rn_geq (ho : o.op = .binOp .geq t x y t') : Rn P n C o L (.bool (decide (q ≤ p))) := fun a w ha _ => by simp [execOp, ho, ha.eval hx, ha.eval hy, eqGuard, binOp, Op.intCmp]
theorem rn_eql (ho : o.op = .binOp .eql t x y t') : Rn P n C o L (.bool (p == q)) := fun a w ha _ => by simp [execOp, ho, ha.eval hx, ha.eval hy, eqGuard, binOp, Op.intCmp]
theorem rn_neq (ho : o.op = .binOp .neq t x y t') : Rn P n C o L (.bool (p != q)) := fun a w ha _ => by simp [execOp, ho, ha.eval hx, ha.eval hy, eqGuard, binOp, Op.intCmp]
end ints
section shifts
variable {x y : Operand} {t t' : TypeId} {k k' : IntKind} {p q : Int} (hx : opd L x = some (.int k p)) (hy : opd L y = some (.int k' q))
include hx hy
theorem rn_shl (ho : o.op = .binOp .shl t x y t') (h0 : ¬ q < 0) : Rn P n C o L (.int k (k.wrap (p * 2 ^ (min q.toNat k.bits)))) := fun a w ha _ => by simp [execOp, ho, ha.eval hx, ha.eval hy, eqGuard, binOp, Op.shift, h0]
theorem rn_shr (ho : o.op = .binOp .shr t x y t') (h0 : ¬ q < 0) : Rn P n C o L (.int k (p.fdiv (2 ^ (min q.toNat k.bits)))) := fun a w ha _ => by simp [execOp, ho, ha.eval hx, ha.eval hy, eqGuard, binOp, Op.shift, h0]
end shifts
theorem run_equalB {t : TypeId} (ht : ∀ w, (underlying t).run P w = .ok .bool w) (p q : Bool) (w : World) : (Op.equal t (.bool p) (.bool q)).run P w = .ok (p == q) w := by
  unfold Op.equal
  obtain ⟨d, hd⟩ : ∃ d, Op.maxDepth = d + 1 := ⟨9999, rfl⟩
  rw [hd]
  simp only [Op.equalIn, Sem.run_bind, ht, Result.andThen_ok, Sem.run_pure]
section bools
variable {x y : Operand} {t t' : TypeId} {p q : Bool} (hx : opd L x = some (.bool p)) (hy : opd L y = some (.bool q)) (ht : ∀ w, (underlying t).run P w = .ok .bool w)
include hx hy ht
theorem rn_eqlB (ho : o.op = .binOp .eql t x y t') : Rn P n C o L (.bool (p == q)) := fun a w ha _ => by
  simp only [execOp, ho, ha.eval hx, ha.eval hy, eqGuard, binOp, Sem.run_bind, Sem.run_pure, Result.andThen_ok, run_equalB ht]
  simp
theorem rn_neqB (ho : o.op = .binOp .neq t x y t') : Rn P n C o L (.bool (p != q)) := fun a w ha _ => by
  simp only [execOp, ho, ha.eval hx, ha.eval hy, eqGuard, binOp, Sem.run_bind, Sem.run_pure, Result.andThen_ok, run_equalB ht]
  simp [bne]
end bools

theorem rn_conv {x : Operand} {src dst : TypeId} {k k' : IntKind} {p : Int} {ds : TypeDesc} (hs : ∀ w, (underlying src).run P w = .ok ds w) (hd : ∀ w, (underlying dst).run P w = .ok (.int k') w) (ho : o.op = .convert src dst x) (hx : opd L x = some (.int k p)) : Rn P n C o L (.int k' (k'.wrap p)) := fun a w ha _ => by
  simp [execOp, ho, ha.eval hx, convert, hs, hd, Conv.intToInt]

def opds (L : Env) : List Operand → Option (List Value)
  | [] => some []
  | x :: r => match opd L x, opds L r with
    | some v, some vs => some (v :: vs)
    | _, _ => none
theorem Kn.evals {a : Act} (h : Kn n L a) : ∀ {l : List Operand} {vs : List Value}, opds L l = some vs → l.toArray.map a.eval = vs.toArray := by
  intro l
  induction l with
  | nil => intro vs hv; simp only [opds, Option.some.injEq] at hv; subst hv; simp
  | cons x r ih =>
    intro vs hv
    simp only [opds] at hv
    split at hv
    · rename_i v us h1 h2
      simp only [Option.some.injEq] at hv
      subst hv
      have := ih h2
      simp only [List.map_toArray, List.map_cons] at this ⊢
      have h3 : List.map a.eval r = us := by simpa using this
      rw [h3, h.eval h1]
    · cases hv

theorem rn_len {x : Operand} {t e : TypeId} {a0 : Option Addr} {l c : Nat} (ht : ∀ w, (underlying t).run P w = .ok (.slice e) w) (ho : o.op = .call { callee := .builtin .len, args := #[x], argTypes := #[t] })
    (hx : opd L x = some (.slice a0 l c)) : Rn P n C o L (.int .i64 (l : Int)) := fun a w ha _ => by
  simp [execOp, ho, ha.eval hx, resolve, invoke, builtin, Builtin.len_, ht, goInt]
theorem rn_lenS {x : Operand} {t : TypeId} {s : ByteArray} (ht : ∀ w, (underlying t).run P w = .ok .string w) (ho : o.op = .call { callee := .builtin .len, args := #[x], argTypes := #[t] })
    (hx : opd L x = some (.string s)) : Rn P n C o L (.int .i64 (s.size : Int)) := fun a w ha _ => by
  simp [execOp, ho, ha.eval hx, resolve, invoke, builtin, Builtin.len_, ht, goInt]
theorem rn_extract {x : Operand} {i : Nat} {vs : Array Value} {v : Value} (ho : o.op = .extract x i) (hx : opd L x = some (.tuple vs)) (hv : vs[i]? = some v) : Rn P n C o L v := fun a w ha _ => by
  simp [execOp, ho, ha.eval hx, Instr.extract, hv]
theorem rn_max {x y : Operand} {t t' : TypeId} {k : IntKind} {p q : Int} (ho : o.op = .call { callee := .builtin .max, args := #[x, y], argTypes := #[t, t'] }) (hx : opd L x = some (.int k p)) (hy : opd L y = some (.int k q)) :
    Rn P n C o L (.int k (if p < q then q else p)) := fun a w ha _ => by
  simp [execOp, ho, ha.eval hx, ha.eval hy, resolve, invoke, builtin, Builtin.max_, Builtin.max2]
theorem rn_makeFunc {fn : Fn} {first captured : List Operand} {fs cs : List Value} (ho : o.op = .makeFunc fn first.toArray captured.toArray) (hf : opds L first = some fs) (hc : opds L captured = some cs) (hn : ∃ f, fn = .func f) :
    Rn P n C o L (.func fn fs.toArray cs.toArray) := fun a w ha _ => by
  obtain ⟨f, rfl⟩ := hn
  have h1 := ha.evals hf
  have h2 := ha.evals hc
  simp [execOp, ho, h1, h2, Instr.makeFunc]

/-! addresses -/
theorem rn_fieldAddr {x : Operand} {t : TypeId} {i : Nat} {p : Addr} {fs : Array Field} {f : Field} {k : Nat} (ht : ∀ w, (underlying t).run P w = .ok (.struct fs) w) (hf : fs[i]? = some f) (hk : ∀ w, (sizeOf f.type).run P w = .ok (k + 1) w)
    (ho : o.op = .fieldAddr t x i) (hx : opd L x = some (.pointer (some p))) : Rn P n C o L (.pointer (some (p.add f.offset))) := fun a w ha _ => by
  simp [execOp, ho, ha.eval hx, Instr.fieldAt, ht, hf, Instr.sureAddr, fieldPlace, hk]
theorem rn_load {x : Operand} {t : TypeId} {p : Addr} {v : Value} (ht : ∀ w, (isAgg t).run P w = .ok false w) (ho : o.op = .load t x) (hx : opd L x = some (.pointer (some p))) (hv : ∀ w, C w → w.cell? p = some v) : Rn P n C o L v := fun a w ha hc => by
  simp [execOp, ho, ha.eval hx, Instr.loadAt, Instr.sureAddr, loadVar, ht, hv w hc]
theorem rn_loadAgg {x : Operand} {t : TypeId} {p : Addr} {cs : List Value} (ht : ∀ w, (isAgg t).run P w = .ok true w) {k : Nat} (hk : ∀ w, (sizeOf t).run P w = .ok k w) (ho : o.op = .load t x) (hx : opd L x = some (.pointer (some p)))
    (hv : ∀ w, C w → ∀ j v, cs[j]? = some v → w.cell? (p.add j) = some v) (hl : cs.length = k) : Rn P n C o L (.agg cs.toArray) := fun a w ha hc => by
  subst hl
  simp [execOp, ho, ha.eval hx, Instr.loadAt, Instr.sureAddr, loadVar, ht, hk, run_loadCells_list w p cs (hv w hc)]
end
end Go.Wk
