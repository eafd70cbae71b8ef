/- Plain laws: two loops side by side, bits, Boolean chains. -/
import Derived.Test.YtndiklipffipcaaLwT
set_option linter.unusedVariables false
set_option linter.unusedSimpArgs false
namespace Go.Proofs.Ytndiklipffipcaa
open Go Go.Wk Go.Proofs

theorem orE (b c : Bool) : (bif b then some true else some c) = some (b || c) := by cases b <;> rfl
theorem andE (b c : Bool) : (bif b then some c else some false) = some (b && c) := by cases b <;> rfl
theorem iteE {α : Type} (b : Bool) (x y : α) : (bif b then some x else some y) = some (bif b then x else y) := by cases b <;> rfl
theorem bifA (a b : Bool) : (bif a then b else false) = (a && b) := by cases a <;> rfl
theorem bindbif {α β : Type} (b : Bool) (x y : Option α) (f : α → Option β) : Option.bind (bif b then x else y) f = bif b then Option.bind x f else Option.bind y f := by cases b <;> rfl

/-- two loops with a count, side by side -/
theorem cnt_sim2 {ρ ρ' σ τ : Type} {f : Int → σ → Option (ρ ⊕ (σ ⊕ σ))} {g : Int → τ → Option (ρ' ⊕ (τ ⊕ τ))} (R : Nat → σ → τ → Prop) (O : ρ → ρ' → Prop) (B : σ → τ → Prop) (N : Nat)
    (step : ∀ (j : Nat) s t, j < N → R j s t → ∃ o p, f j s = some o ∧ g j t = some p ∧ (match o, p with
      | .inl r, .inl r' => O r r'
      | .inr (.inl s'), .inr (.inl t') => B s' t'
      | .inr (.inr s'), .inr (.inr t') => R (j + 1) s' t'
      | _, _ => False)) :
    ∀ (k j : Nat) (s : σ) (t : τ), j + k = N → R j s t → ∃ o p, cntM f k j s = some o ∧ cntM g k j t = some p ∧ (match o, p with
      | .inl r, .inl r' => O r r'
      | .inr s', .inr t' => R N s' t' ∨ B s' t'
      | _, _ => False)
  | 0, j, s, t, hj, h => ⟨.inr s, .inr t, rfl, rfl, .inl (by rw [← hj]; exact h)⟩
  | k + 1, j, s, t, hj, h => by
    obtain ⟨o, p, ho, hp, hm⟩ := step j s t (by omega) h
    show ∃ o p, Option.bind (f j s) _ = some o ∧ Option.bind (g j t) _ = some p ∧ _
    rw [ho, hp]
    match o, p, hm with
    | .inl r, .inl r', hm => exact ⟨.inl r, .inl r', rfl, rfl, hm⟩
    | .inr (.inl s'), .inr (.inl t'), hm => exact ⟨.inr s', .inr t', rfl, rfl, .inr hm⟩
    | .inr (.inr s'), .inr (.inr t'), hm =>
      obtain ⟨o', p', h1, h2, h3⟩ := cnt_sim2 R O B N step k (j + 1) s' t' (by omega) hm
      exact ⟨o', p', h1, h2, h3⟩
/-- and neither leaves -/
theorem cnt_sim {ρ ρ' σ τ : Type} {f : Int → σ → Option (ρ ⊕ (σ ⊕ σ))} {g : Int → τ → Option (ρ' ⊕ (τ ⊕ τ))} (R : Nat → σ → τ → Prop) (N : Nat) {s : σ} {t : τ} (h0 : R 0 s t)
    (step : ∀ (j : Nat) s t, j < N → R j s t → ∃ s' t', f j s = some (.inr (.inr s')) ∧ g j t = some (.inr (.inr t')) ∧ R (j + 1) s' t') :
    ∃ s' t', cntM f N 0 s = some (.inr s') ∧ cntM g N 0 t = some (.inr t') ∧ R N s' t' := by
  obtain ⟨o, p, h1, h2, h3⟩ := cnt_sim2 (f := f) (g := g) R (fun _ _ => False) (fun _ _ => False) N (fun j s t hj hr => by
    obtain ⟨s', t', h4, h5, h6⟩ := step j s t hj hr
    exact ⟨_, _, h4, h5, h6⟩) N 0 s t (by omega) h0
  match o, p, h3 with
  | .inr s', .inr t', h3 => exact ⟨s', t', h1, h2, h3.resolve_right id⟩

/-- a loop that asks of each element, by its place -/
theorem cnt_allP {ρ α : Type} {f : Int → Unit → Option (ρ ⊕ (Unit ⊕ Unit))} {r : ρ} (g : Nat → α → Bool) {xs : List α} {n : Nat} (hn : n = xs.length) (h : ∀ (i : Nat) x, xs[i]? = some x → f (i : Int) () = some (if g i x then .inr (.inr ()) else .inl r)) :
    cntM f n 0 () = some (if xs.zipIdx.all (fun p => g p.2 p.1) then .inr () else .inl r) := by
  subst hn
  have := cnt_all0 (f := f) (r := r) (fun p : α × Nat => g p.2 p.1) (xs := xs.zipIdx) (n := xs.length) (by simp) (fun i x hx => by
    rw [List.getElem?_zipIdx] at hx
    cases hy : xs[i]? with
    | none => rw [hy] at hx; cases hx
    | some y =>
      rw [hy] at hx
      simp at hx
      subst hx
      exact h i y hy)
  exact this
/-- a loop, by a measure -/
theorem while_out {ρ σ : Type} {f : σ → Option (ρ ⊕ (σ ⊕ σ))} (I : Nat → σ → Prop) (R : ρ → Prop) (B : σ → Prop) (N : Nat)
    (step : ∀ (j : Nat) s, I j s → ∃ o, f s = some o ∧ (match o with
      | .inl r => R r
      | .inr (.inl s') => B s'
      | .inr (.inr s') => j < N ∧ I (j + 1) s')) :
    ∀ (k j : Nat) (s : σ), N < k + j → I j s → (0 < k) → ∃ o, whileM f k s = some o ∧ (match o with
      | .inl r => R r
      | .inr s' => B s')
  | 0, _, _, _, _, h => absurd h (Nat.lt_irrefl 0)
  | k + 1, j, s, hk, h, _ => by
    obtain ⟨o, ho, hm⟩ := step j s h
    show ∃ o, Option.bind (f s) _ = some o ∧ _
    rw [ho]
    match o, hm with
    | .inl r, hm => exact ⟨.inl r, rfl, hm⟩
    | .inr (.inl s'), hm => exact ⟨.inr s', rfl, hm⟩
    | .inr (.inr s'), hm =>
      obtain ⟨o', h1, h2⟩ := while_out I R B N step k (j + 1) s' (by omega) hm.2 (by omega)
      exact ⟨o', h1, h2⟩
/-- two loops side by side, by a measure -/
theorem while_sim {ρ ρ' σ τ : Type} {f : σ → Option (ρ ⊕ (σ ⊕ σ))} {g : τ → Option (ρ' ⊕ (τ ⊕ τ))} (R : σ → τ → Prop) (μ : σ → Nat) (O : ρ → ρ' → Prop) (B : σ → τ → Prop)
    (step : ∀ s t, R s t → ∃ o p, f s = some o ∧ g t = some p ∧ (match o, p with
      | .inl r, .inl r' => O r r'
      | .inr (.inl s'), .inr (.inl t') => B s' t'
      | .inr (.inr s'), .inr (.inr t') => R s' t' ∧ μ s' < μ s
      | _, _ => False)) :
    ∀ (k k' : Nat) (s : σ) (t : τ), μ s < k → μ s < k' → R s t → ∃ o p, whileM f k s = some o ∧ whileM g k' t = some p ∧ (match o, p with
      | .inl r, .inl r' => O r r'
      | .inr s', .inr t' => B s' t'
      | _, _ => False)
  | 0, _, _, _, h, _, _ => absurd h (Nat.not_lt_zero _)
  | _, 0, _, _, _, h, _ => absurd h (Nat.not_lt_zero _)
  | k + 1, k' + 1, s, t, hk, hk', h => by
    obtain ⟨o, p, ho, hp, hm⟩ := step s t h
    show ∃ o p, Option.bind (f s) _ = some o ∧ Option.bind (g t) _ = some p ∧ _
    rw [ho, hp]
    match o, p, hm with
    | .inl r, .inl r', hm => exact ⟨.inl r, .inl r', rfl, rfl, hm⟩
    | .inr (.inl s'), .inr (.inl t'), hm => exact ⟨.inr s', .inr t', rfl, rfl, hm⟩
    | .inr (.inr s'), .inr (.inr t'), hm =>
      obtain ⟨o', p', h1, h2, h3⟩ := while_sim R μ O B step k k' s' t' (by omega) (by omega) hm.1
      exact ⟨o', p', h1, h2, h3⟩
/-- a loop with a count beside a loop -/
theorem cnt_while {ρ ρ' σ τ : Type} {f : Int → σ → Option (ρ ⊕ (σ ⊕ σ))} {g : τ → Option (ρ' ⊕ (τ ⊕ τ))} (R : Nat → σ → τ → Prop) (O : ρ → ρ' → Prop) (B : σ → τ → Prop) (N : Nat)
    (step : ∀ (j : Nat) s t, j < N → R j s t → ∃ o p, f j s = some o ∧ g t = some p ∧ (match o, p with
      | .inl r, .inl r' => O r r'
      | .inr (.inr s'), .inr (.inr t') => R (j + 1) s' t'
      | _, _ => False))
    (stop : ∀ s t, R N s t → ∃ t', g t = some (.inr (.inl t')) ∧ B s t') :
    ∀ (k j : Nat) (s : σ) (t : τ) (k' : Nat), j + k = N → k < k' → R j s t → ∃ o p, cntM f k j s = some o ∧ whileM g k' t = some p ∧ (match o, p with
      | .inl r, .inl r' => O r r'
      | .inr s', .inr t' => B s' t'
      | _, _ => False)
  | _, _, _, _, 0, _, h, _ => absurd h (Nat.not_lt_zero _)
  | 0, j, s, t, k' + 1, hj, hk, h => by
    obtain ⟨t', h1, h2⟩ := stop s t (by rw [← hj]; exact h)
    refine ⟨.inr s, .inr t', rfl, ?_, h2⟩
    show Option.bind (g t) _ = _
    rw [h1]; rfl
  | k + 1, j, s, t, k' + 1, hj, hk, h => by
    obtain ⟨o, p, ho, hp, hm⟩ := step j s t (by omega) h
    show ∃ o p, Option.bind (f j s) _ = some o ∧ Option.bind (g t) _ = some p ∧ _
    rw [ho, hp]
    match o, p, hm with
    | .inl r, .inl r', hm => exact ⟨.inl r, .inl r', rfl, rfl, hm⟩
    | .inr (.inr s'), .inr (.inr t'), hm =>
      obtain ⟨o', p', h1, h2, h3⟩ := cnt_while R O B N step stop k (j + 1) s' t' k' (by omega) (by omega) hm
      exact ⟨o', p', h1, h2, h3⟩
/-- the rounds that a loop makes for certain -/
theorem while_skip {ρ σ : Type} {f : σ → Option (ρ ⊕ (σ ⊕ σ))} (st : Nat → σ) : ∀ (n k : Nat) (_ : ∀ i, i < n → f (st i) = some (.inr (.inr (st (i + 1))))), whileM f (n + k) (st 0) = whileM f k (st n) := by
  intro n k
  induction n generalizing st with
  | zero => intro _; rw [Nat.zero_add]
  | succ n ih =>
    intro h
    rw [show n + 1 + k = (n + k) + 1 from by omega]
    show Option.bind (f (st 0)) _ = _
    rw [h 0 (by omega), Option.bind_some]
    show whileM f (n + k) (st 1) = _
    exact ih (fun i => st (i + 1)) (fun i hi => h (i + 1) (by omega))
/-! bits -/
theorem toNat_ofInt64 {x : Int} (h0 : 0 ≤ x) (h1 : x < 9223372036854775808) : (BitVec.ofInt (IntKind.bits IntKind.i64) x).toNat = x.toNat := by
  show (BitVec.ofInt 64 x).toNat = x.toNat
  rw [BitVec.toNat_ofInt]
  congr 1
  omega
theorem band {x y : Int} (hx : 0 ≤ x) (hx' : x < 9223372036854775808) (hy : 0 ≤ y) (hy' : y < 9223372036854775808) :
    IntKind.i64.wrap ((BitVec.ofInt (IntKind.bits IntKind.i64) x &&& BitVec.ofInt (IntKind.bits IntKind.i64) y).toNat : Int) = ((x.toNat &&& y.toNat : Nat) : Int) := by
  rw [BitVec.toNat_and, toNat_ofInt64 hx hx', toNat_ofInt64 hy hy']
  have : (x.toNat &&& y.toNat) ≤ x.toNat := Nat.and_le_left
  exact wr' (by omega) (by omega)
theorem bor {x y : Int} (hx : 0 ≤ x) (hx' : x < 9223372036854775808) (hy : 0 ≤ y) (hy' : y < 9223372036854775808) :
    IntKind.i64.wrap ((BitVec.ofInt (IntKind.bits IntKind.i64) x ||| BitVec.ofInt (IntKind.bits IntKind.i64) y).toNat : Int) = ((x.toNat ||| y.toNat : Nat) : Int) := by
  rw [BitVec.toNat_or, toNat_ofInt64 hx hx', toNat_ofInt64 hy hy']
  have : (x.toNat ||| y.toNat) < 2 ^ 63 := Nat.or_lt_two_pow (by omega) (by omega)
  exact wr' (by omega) (by omega)
theorem bxor {x y : Int} (hx : 0 ≤ x) (hx' : x < 9223372036854775808) (hy : 0 ≤ y) (hy' : y < 9223372036854775808) :
    IntKind.i64.wrap ((BitVec.ofInt (IntKind.bits IntKind.i64) x ^^^ BitVec.ofInt (IntKind.bits IntKind.i64) y).toNat : Int) = ((x.toNat ^^^ y.toNat : Nat) : Int) := by
  rw [BitVec.toNat_xor, toNat_ofInt64 hx hx', toNat_ofInt64 hy hy']
  have : (x.toNat ^^^ y.toNat) < 2 ^ 63 := Nat.xor_lt_two_pow (by omega) (by omega)
  exact wr' (by omega) (by omega)
theorem and1 {x : Int} (hx : 0 ≤ x) (hx' : x < 9223372036854775808) :
    IntKind.i64.wrap ((BitVec.ofInt (IntKind.bits IntKind.i64) x &&& BitVec.ofInt (IntKind.bits IntKind.i64) 1).toNat : Int) = x % 2 := by
  rw [band hx hx' (by omega) (by omega)]
  show ((x.toNat &&& 1 : Nat) : Int) = _
  rw [Nat.and_one_is_mod]
  omega
/-- truth as a number -/
def b2i (b : Bool) : Int := if b then 1 else 0
theorem b2i_in (b : Bool) : 0 ≤ b2i b ∧ b2i b ≤ 1 := by cases b <;> decide
theorem b2i_mod {x : Int} (h : 0 ≤ x) : x % 2 = b2i (Int.tmod x 2 == 1) := by
  rw [Int.tmod_eq_emod_of_nonneg h]
  rcases (by omega : x % 2 = 0 ∨ x % 2 = 1) with e | e <;> rw [e] <;> rfl
theorem bxor_b2i (a b : Bool) : IntKind.i64.wrap ((BitVec.ofInt (IntKind.bits IntKind.i64) (b2i a) ^^^ BitVec.ofInt (IntKind.bits IntKind.i64) (b2i b)).toNat : Int) = b2i (a != b) := by cases a <;> cases b <;> decide
theorem band_b2i (a b : Bool) : IntKind.i64.wrap ((BitVec.ofInt (IntKind.bits IntKind.i64) (b2i a) &&& BitVec.ofInt (IntKind.bits IntKind.i64) (b2i b)).toNat : Int) = b2i (a && b) := by cases a <;> cases b <;> decide
theorem tdiv_pos {x y : Int} (h : 0 ≤ x) : Int.tdiv x y = x / y := Int.tdiv_eq_ediv_of_nonneg h
theorem fdiv_pos {x y : Int} (h : 0 ≤ y) : Int.fdiv x y = x / y := Int.fdiv_eq_ediv_of_nonneg x h
theorem pow_in {j : Nat} (h : j ≤ 40) : 1 ≤ (2 : Int) ^ j ∧ (2 : Int) ^ j ≤ 1099511627776 := by
  have h1 : 2 ^ j ≤ 2 ^ 40 := Nat.pow_le_pow_right (by omega) h
  have h2 : 1 ≤ 2 ^ j := Nat.one_le_two_pow
  have h3 : ((2 ^ j : Nat) : Int) = (2 : Int) ^ j := by simp
  omega
theorem shl_pow {x : Int} {j : Nat} (h : j ≤ 40) (h0 : 0 ≤ x) (h1 : x ≤ 1000000) : nn (j : Int) = some () ∧ IntKind.i64.wrap (x * 2 ^ (min (Int.toNat (j : Int)) (IntKind.bits IntKind.i64))) = x * 2 ^ j := by
  have hp := pow_in h
  refine ⟨by unfold nn; rw [if_neg (by omega)], ?_⟩
  have : min (Int.toNat (j : Int)) (IntKind.bits IntKind.i64) = j := by show min _ 64 = j; omega
  rw [this]
  have h2 : x * 2 ^ j ≤ 1000000 * 1099511627776 := Int.mul_le_mul h1 hp.2 (by omega) (by omega)
  have h3 : 0 ≤ x * 2 ^ j := Int.mul_nonneg h0 (by omega)
  exact wr' (by omega) (by omega)
theorem shr_pow {x : Int} {j : Nat} (h : j ≤ 40) : nn (j : Int) = some () ∧ Int.fdiv x (2 ^ (min (Int.toNat (j : Int)) (IntKind.bits IntKind.i64))) = x / 2 ^ j := by
  have hp := pow_in h
  refine ⟨by unfold nn; rw [if_neg (by omega)], ?_⟩
  have : min (Int.toNat (j : Int)) (IntKind.bits IntKind.i64) = j := by show min _ 64 = j; omega
  rw [this, fdiv_pos (by omega)]
theorem ex_nat {z : Int} (h : 0 ≤ z) : ∃ n : Nat, z = n := ⟨z.toNat, by omega⟩
/-- appending -/
theorem appL {α : Type} {b : Nat} {xs ys : List α} (h : xs.length + ys.length ≤ 100000000000) (hb : Nat.ble b 1024 = true) : appS b xs ys = some (xs ++ ys) := by
  have hb := Nat.ble_eq.mp hb
  have : (xs.length + ys.length) * b ≤ 100000000000 * 1024 := Nat.mul_le_mul h hb
  unfold appS
  rw [if_pos (by omega)]
theorem app1 {α : Type} {b : Nat} {xs : List α} {x : α} (h : xs.length ≤ 10000000000) (hb : Nat.ble b 1024 = true) : appS b xs [x] = some (xs ++ [x]) := appL (by simp only [List.length_cons, List.length_nil]; omega) hb
theorem get_el {α : Type} {xs : List α} {z : Int} (h0 : 0 ≤ z) (h1 : z < xs.length) : ∃ x, idx xs z = some x ∧ x ∈ xs := by
  have hz : z.toNat < xs.length := by omega
  exact ⟨xs[z.toNat], by rw [idx_int h0]; simp [hz], by simp⟩
/-- a row of numbers in a range, of a length -/
def RowIn (n : Int) (l : Int) (row : List Int) : Prop := (row.length : Int) = l ∧ ∀ x ∈ row, 0 ≤ x ∧ x < n
/-- an entry of a table -/
def tab (t : List (List Int)) (q i : Int) : Int := (t.getD q.toNat []).getD i.toNat 0
theorem tab_in {t : List (List Int)} {n l : Int} (h : ∀ row ∈ t, RowIn n l row) {q i : Int} (q0 : 0 ≤ q) (q1 : q < t.length) (i0 : 0 ≤ i) (i1 : i < l) :
    ∃ row, idx t q = some row ∧ idx row i = some (tab t q i) ∧ 0 ≤ tab t q i ∧ tab t q i < n := by
  obtain ⟨row, h1, h2⟩ := get_el (xs := t) q0 q1
  obtain ⟨h3, h4⟩ := h row h2
  obtain ⟨x, h5, h6⟩ := get_el (xs := row) i0 (by omega)
  have e : tab t q i = x := by
    unfold tab
    rw [idx_int q0] at h1
    rw [idx_int i0] at h5
    rw [List.getD_eq_getElem?_getD, List.getD_eq_getElem?_getD, h1, Option.getD_some, h5, Option.getD_some]
  rw [e]
  exact ⟨row, h1, h5, h4 x h6⟩
/-- a loop that folds over a row, with what holds on the way -/
theorem cnt_foldI {ρ σ α : Type} {f : Int → σ → Option (ρ ⊕ (σ ⊕ σ))} (g : σ → α → σ) (I : Nat → σ → Prop) {xs : List α}
    (h : ∀ (i : Nat) x s, xs[i]? = some x → I i s → f (i : Int) s = some (.inr (.inr (g s x))) ∧ I (i + 1) (g s x)) {s : σ} (h0 : I 0 s) :
    cntM f xs.length 0 s = some (.inr (xs.foldl g s)) ∧ I xs.length (xs.foldl g s) := by
  obtain ⟨s', h1, h2, h3⟩ := cnt_inv (f := f) (fun j t => t = (xs.take j).foldl g s ∧ I j t) xs.length (s := s) ⟨by simp, h0⟩ fun j t hj ⟨ht, hI⟩ => by
    have hx : xs[j]? = some xs[j] := by simp [hj]
    obtain ⟨h1, h2⟩ := h j _ t hx hI
    refine ⟨_, h1, ?_, h2⟩
    rw [List.take_add_one, hx, List.foldl_append, ← ht]
    rfl
  rw [h1, h2, List.take_length]
  rw [h2, List.take_length] at h3
  exact ⟨rfl, h3⟩
/-- a loop that appends what it makes of each -/
theorem cnt_map {ρ : Type} {f : Int → List Int → Option (ρ ⊕ (List Int ⊕ List Int))} (g : Int → Int) {xs : List Int} (h : ∀ (i : Nat) x s, xs[i]? = some x → s.length = i → f (i : Int) s = some (.inr (.inr (s ++ [g x])))) : cntM f xs.length 0 [] = some (.inr (xs.map g)) := by
  have h1 := (cnt_foldI (f := f) (fun s x => s ++ [g x]) (fun j s => s.length = j) (xs := xs) (fun i x s hx hs => ⟨h i x s hx hs, by simp [hs]⟩) (s := []) rfl).1
  rw [h1]
  have : ∀ (xs : List Int) (a : List Int), xs.foldl (fun s x => s ++ [g x]) a = a ++ xs.map g := fun xs => by
    induction xs with
    | nil => intro a; simp
    | cons x xs ih => intro a; rw [List.foldl_cons, ih]; simp
  rw [this]; rfl
end Go.Proofs.Ytndiklipffipcaa
