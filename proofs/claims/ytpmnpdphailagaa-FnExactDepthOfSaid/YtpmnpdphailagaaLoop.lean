/- Loops on data; small facts for the walks that a program writes. -/
import Derived.Test.YtpmnpdphailagaaMem
set_option linter.unusedVariables false
set_option linter.unusedSimpArgs false
namespace Go.Wk
open Go

def lpK {ρ σ : Type} (next : σ → Option (ρ ⊕ σ)) : ρ ⊕ (σ ⊕ σ) → Option (ρ ⊕ σ)
  | .inl r => some (.inl r)
  | .inr (.inl s) => some (.inr s)
  | .inr (.inr s) => next s
theorem lpK_ret {ρ σ : Type} (next : σ → Option (ρ ⊕ σ)) (r : ρ) : lpK next (.inl r) = some (.inl r) := rfl
theorem lpK_brk {ρ σ : Type} (next : σ → Option (ρ ⊕ σ)) (s : σ) : lpK next (.inr (.inl s)) = some (.inr s) := rfl
theorem lpK_nxt {ρ σ : Type} (next : σ → Option (ρ ⊕ σ)) (s : σ) : lpK next (.inr (.inr s)) = next s := rfl
def aft {ρ σ α : Type} (fr : ρ → α) (fs : σ → α) : ρ ⊕ σ → α
  | .inl r => fr r
  | .inr s => fs s
theorem aft_inl {ρ σ α : Type} (fr : ρ → α) (fs : σ → α) (r : ρ) : aft fr fs (.inl r) = fr r := rfl
theorem aft_inr {ρ σ α : Type} (fr : ρ → α) (fs : σ → α) (s : σ) : aft fr fs (.inr s) = fs s := rfl

/-- k rounds, counted from j -/
def cntM {ρ σ : Type} (f : Int → σ → Option (ρ ⊕ (σ ⊕ σ))) : Nat → Int → σ → Option (ρ ⊕ σ)
  | 0, _, s => some (.inr s)
  | k + 1, j, s => Option.bind (f j s) (lpK (cntM f k (j + 1)))
/-- at most k rounds -/
def whileM {ρ σ : Type} (f : σ → Option (ρ ⊕ (σ ⊕ σ))) : Nat → σ → Option (ρ ⊕ σ)
  | 0, _ => none
  | k + 1, s => Option.bind (f s) (lpK (whileM f k))

def nz (z : Int) : Option Unit := if z = 0 then none else some ()
theorem nz_ok {z : Int} {u : Unit} (h : nz z = some u) : ¬ z = 0 := by unfold nz at h; split at h <;> simp_all
def nn (z : Int) : Option Unit := if z < 0 then none else some ()
theorem nn_ok {z : Int} {u : Unit} (h : nn z = some u) : ¬ z < 0 := by
  unfold nn at h
  split at h
  · cases h
  · assumption
def rng (z : Int) : Option Unit := if z ≤ 9223372036854775807 then some () else none
theorem rng_ok {z : Int} {u : Unit} (h : rng z = some u) : z ≤ 9223372036854775807 := by
  unfold rng at h
  split at h
  · assumption
  · cases h

theorem wr1 {v N : Int} (h0 : 0 ≤ v) (h1 : v < N) (h2 : N ≤ 9223372036854775807) : IntKind.wrap .i64 (v + 1) = v + 1 := by
  rw [IntKind.wrap_i64]; omega
theorem Sl.len_le {α : Type} {E : Rp α} {S : Nat → Prop} {w : World} {a : Option Addr} {c : Nat} {xs : List α} (h : Sl E S w a c xs) : (xs.length : Int) ≤ 9223372036854775807 := by
  have h1 := h.1
  have h2 := h.2.1
  unfold maxLen at h2
  omega
theorem Sl.nil {α : Type} {E : Rp α} {S : Nat → Prop} {w : World} : Sl E S w none 0 [] := ⟨by simp, by simp, .inl ⟨rfl, fun _ => rfl⟩⟩

section
variable {P : Program} {n : Nat} {Q : Exit → Act → World → Prop} {L : Env} {w : World}
theorem WC.ct' {c : Operand} {x y : Code} {b : Bool} (hc : opd L c = some (.bool b)) (hb : b = true) (h : WC P n x Q L w) : WC P n (.cond c x y) Q L w := WC.ct (by rw [hc, hb]) h
theorem WC.cf' {c : Operand} {x y : Code} {b : Bool} (hc : opd L c = some (.bool b)) (hb : b = false) (h : WC P n y Q L w) : WC P n (.cond c x y) Q L w := WC.cf (by rw [hc, hb]) h
theorem WO.fin {ops : Array Oper} {C : World → Prop} (h : DN n Q .normal L w) : WO P n ops C (fun a w => Q .normal a w) [] L w := h
theorem Cw.sub {M : List Nat} {w w' : World} (h : Cw [] w w') : Cw M w w' := Fr.mono h fun _ hb => ⟨hb.1, by simp⟩
/-- in a region whose order is drawn: a look at memory that stays -/
theorem WO.dq {ops : Array Oper} {N : Act → World → Prop} {r : List (Nat × Nat)} {w0 : World} {M : List Nat} {i d : Nat} {o : Oper} {v : Value} (ho : ops[i]? = some o) (hg : gd ops L o = some true) (hd : o.dst = some d) (hb : Nat.blt d n = true)
    (hr : Rn P n (Cw M w0) o L v) (k : WO P n ops (Cw [] w0) N r ((d, v) :: L) w) : WO P n ops (Cw [] w0) N ((i, 0) :: r) L w := WO.q ho hg hd hb (fun a w' ha hw => hr a w' ha hw.sub) k
/-- a look at memory, in the world as it is -/
theorem WO.sq {ops : Array Oper} {C : World → Prop} {N : Act → World → Prop} {r : List (Nat × Nat)} {M : List Nat} {i d : Nat} {o : Oper} {v : Value} (hC : C w) (ho : ops[i]? = some o) (hg : gd ops L o = some true) (hd : o.dst = some d) (hb : Nat.blt d n = true)
    (hr : Rn P n (Cw M w) o L v) (k : WO P n ops C N r ((d, v) :: L) w) : WO P n ops C N ((i, 1) :: r) L w :=
  WO.l ho hg hd hb fun a ha => by unfold Runs; rw [hr a w ha (Cw.refl w)]; exact ⟨hC, k⟩
/-- an operation that looks at no memory -/
theorem WO.sp {ops : Array Oper} {C : World → Prop} {N : Act → World → Prop} {r : List (Nat × Nat)} {i d : Nat} {o : Oper} {v : Value} (ho : ops[i]? = some o) (hg : gd ops L o = some true) (hd : o.dst = some d) (hb : Nat.blt d n = true)
    (hr : Rn P n (fun _ => True) o L v) (k : WO P n ops C N r ((d, v) :: L) w) : WO P n ops C N ((i, 2) :: r) L w := WO.p ho hg hd hb (fun a w' ha => hr a w' ha trivial) k
theorem WC.regS {id : Nat} {ops : Array Oper} (order : List (Nat × Nat)) (hB : order.map (·.1) = List.range ops.size)
    (h : WO P n ops (fun _ => True) (fun a w => Q .normal a w) order L w) : WC P n (.region id ops false) Q L w := WC.reg (fun _ => True) order hB trivial h
theorem WC.regX {id : Nat} {ops : Array Oper} (l : Option Nat) (o1 o2 : List (Nat × Nat)) (hm : P.follows .mixedOrders = true) (hB : ordOk ops l o1 o2 = true)
    (h : ∀ w1, Ext w w1 → w1.heap = w.heap → WO P n ops (Cw [] w1) (fun a w => Wlk P ops (fun _ => True) (fun a w => Q .normal a w) o2 a w) o1 L w1) : WC P n (.region id ops true) Q L w :=
  WC.regd (Cw [] { w with drawn := w.drawn + 1 }) l o1 o2 hm hB (Cw.refl _) (h _ (Ext.drew w) rfl)
theorem WO.nx {ops : Array Oper} {C : World → Prop} {N : Act → World → Prop} {o2 : List (Nat × Nat)} (h : WO P n ops (fun _ => True) N o2 L w) : WO P n ops C (fun a w => Wlk P ops (fun _ => True) N o2 a w) [] L w := h
end

theorem DN.round {n : Nat} {Q : Exit → Act → World → Prop} {L : Env} {w : World} {K : Act → World → Prop} (h : ∀ a, Kn n L a → K a w) : DN n (Exit.then K Q) .normal L w := h

/-- a function value that computes g -/
structure FI (P : Program) (w : World) (f : FuncId) (cap : List Value) {α β : Type} (av : α → Value) (rv : β → Value) (g : α → Option β) : Prop where
  call : ∀ (as : Array Value) (w : World), (callFunc f as).run P w = .ok (.enter f as) w
  ret : ∀ w', Ext w w' → ∀ x r, g x = some r → Ret P f ([av x] ++ cap) w' (fun v w'' => v = rv r ∧ Ext w' w'')
theorem FI.ext {P : Program} {w w1 : World} {f : FuncId} {cap : List Value} {α β : Type} {av : α → Value} {rv : β → Value} {g : α → Option β} (h : FI P w f cap av rv g) (e : Ext w w1) : FI P w1 f cap av rv g :=
  ⟨h.call, fun w' e' => h.ret w' (e.trans e')⟩
end Go.Wk
