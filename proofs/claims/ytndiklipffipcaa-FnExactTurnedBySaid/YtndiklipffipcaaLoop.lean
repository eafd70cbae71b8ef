/- Loops on data; small facts for the walks that a program writes. -/
import Derived.Test.YtndiklipffipcaaOwn
set_option linter.unusedVariables false
set_option linter.unusedSimpArgs false
namespace Go.Wk
open Go

def lpK {ρ σ : Type} (next : σ → Option (ρ ⊕ σ)) : ρ ⊕ (σ ⊕ σ) → Option (ρ ⊕ σ)
  | .inl r => some (.inl r)
  | .inr (.inl s) => some (.inr s)
  | .inr (.inr s) => next s
theorem lpK_ret {ρ σ : Type} (next : σ → Option (ρ ⊕ σ)) (r : ρ) : lpK next (.inl r) = some (.inl r) := rfl
theorem lpK_brk {ρ σ : Type} (next : σ → Option (ρ ⊕ σ)) (s : σ) : lpK next (.inr (.inl s)) = some (.inr s) := rfl
theorem lpK_nxt {ρ σ : Type} (next : σ → Option (ρ ⊕ σ)) (s : σ) : lpK next (.inr (.inr s)) = next s := rfl
def aft {ρ σ α : Type} (fr : ρ → α) (fs : σ → α) : ρ ⊕ σ → α
  | .inl r => fr r
  | .inr s => fs s
theorem aft_inl {ρ σ α : Type} (fr : ρ → α) (fs : σ → α) (r : ρ) : aft fr fs (.inl r) = fr r := rfl
theorem aft_inr {ρ σ α : Type} (fr : ρ → α) (fs : σ → α) (s : σ) : aft fr fs (.inr s) = fs s := rfl

/-- k rounds, counted from j -/
def cntM {ρ σ : Type} (f : Int → σ → Option (ρ ⊕ (σ ⊕ σ))) : Nat → Int → σ → Option (ρ ⊕ σ)
  | 0, _, s => some (.inr s)
  | k + 1, j, s => Option.bind (f j s) (lpK (cntM f k (j + 1)))
/-- at most k rounds -/
def whileM {ρ σ : Type} (f : σ → Option (ρ ⊕ (σ ⊕ σ))) : Nat → σ → Option (ρ ⊕ σ)
  | 0, _ => none
  | k + 1, s => Option.bind (f s) (lpK (whileM f k))

def nz (z : Int) : Option Unit := if z = 0 then none else some ()
theorem nz_ok {z : Int} {u : Unit} (h : nz z = some u) : ¬ z = 0 := by unfold nz at h; split at h <;> simp_all
def nn (z : Int) : Option Unit := if z < 0 then none else some ()
theorem nn_ok {z : Int} {u : Unit} (h : nn z = some u) : ¬ z < 0 := by
  unfold nn at h
  split at h
  · cases h
  · assumption
def rng (z : Int) : Option Unit := if z ≤ 9223372036854775807 then some () else none
theorem rng_ok {z : Int} {u : Unit} (h : rng z = some u) : z ≤ 9223372036854775807 := by
  unfold rng at h
  split at h
  · assumption
  · cases h

theorem wr1 {v N : Int} (h0 : 0 ≤ v) (h1 : v < N) (h2 : N ≤ 9223372036854775807) : IntKind.wrap .i64 (v + 1) = v + 1 := by
  rw [IntKind.wrap_i64]; omega
theorem Kn.moreE {n : Nat} {L L' : Env} {a : Act} (h : Kn n L a) (h' : Kn n L' a) {t : Nat} {v v' : Value} (ht : look L t = some v) (e : v = v') : Kn n ((t, v') :: L') a := by
  subst e; exact h.more h' ht
theorem ex_eq {α : Type} (x : α) : ∃ o, some x = some o := ⟨x, rfl⟩
end Go.Wk
