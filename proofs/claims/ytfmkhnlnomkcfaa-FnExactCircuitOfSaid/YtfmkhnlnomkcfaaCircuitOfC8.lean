/- CircuitOf: both sides compute the same. -/
import Derived.Test.YtfmkhnlnomkcfaaTableC8
import Derived.Test.YtfmkhnlnomkcfaaMachC8
import Derived.Test.YtfmkhnlnomkcfaaStpC8
set_option linter.unusedVariables false
set_option linter.unusedSimpArgs false
namespace Go.Proofs.Ytfmkhnlnomkcfaa
open Go Go.Wk Go.Proofs

/-- rounds of a count that are rounds of a loop -/
theorem cnt_skip {ρ ρ' σ τ : Type} {f : Int → σ → Option (ρ ⊕ (σ ⊕ σ))} {g : τ → Option (ρ' ⊕ (τ ⊕ τ))} (R : Nat → σ → τ → Prop) (N : Nat)
    (step : ∀ (j : Nat) s t, j < N → R j s t → ∃ s' t', f j s = some (.inr (.inr s')) ∧ g t = some (.inr (.inr t')) ∧ R (j + 1) s' t') :
    ∀ (k j : Nat) (s : σ) (t : τ) (k' : Nat), j + k = N → R j s t → ∃ s' t', cntM f k j s = some (.inr s') ∧ whileM g (k + k') t = whileM g k' t' ∧ R N s' t'
  | 0, j, s, t, k', hj, h => ⟨s, t, rfl, by rw [Nat.zero_add], by rw [← hj]; exact h⟩
  | k + 1, j, s, t, k', hj, h => by
    obtain ⟨s', t', ho, hp, hm⟩ := step j s t (by omega) h
    obtain ⟨s'', t'', h1, h2, h3⟩ := cnt_skip R N step k (j + 1) s' t' k' (by omega) hm
    refine ⟨s'', t'', ?_, ?_, h3⟩
    · show Option.bind (f j s) _ = _
      rw [ho]; exact h1
    · rw [show k + 1 + k' = (k + k') + 1 from by omega]
      show Option.bind (g t) _ = _
      rw [hp]; exact h2
theorem latches_eq {m : Machine} (hn : m.Next.length ≤ 48) : ∃ L : Nat, L ≤ 6 ∧ (m.Next.length : Int) ≤ 2 ^ L ∧ whileM (s_CircuitOf_b0 m) (2 ^ 64) 0 = some (.inr (L : Int)) ∧ whileM (i_CircuitOf_b0 m) (2 ^ 64) 0 = some (.inr (L : Int)) := by
  obtain ⟨o, q, w1, w2, w3⟩ := while_sim (f := s_CircuitOf_b0 m) (g := i_CircuitOf_b0 m) (fun s t => s = t ∧ ∃ j : Nat, s = (j : Int) ∧ j ≤ 6) (fun s => (7 - s).toNat) (fun _ _ => False) (fun s t => s = t ∧ ∃ j : Nat, s = (j : Int) ∧ j ≤ 6 ∧ (m.Next.length : Int) ≤ 2 ^ j)
    (fun s t ⟨e, j, e2, hj⟩ => by
      subst e e2
      obtain ⟨s1, s2⟩ := shl_pow (x := 1) (j := j) (by omega) (by omega) (by omega)
      have hp := pow_in (j := j) (by omega)
      unfold s_CircuitOf_b0 i_CircuitOf_b0
      rw [l31Pow_eq (by omega), s1, s2, Option.bind_some, Option.bind_some, Int.one_mul]
      by_cases h : (2 : Int) ^ j < (m.Next.length : Int)
      · have hj6 : j < 6 := by
          rcases Nat.lt_or_ge j 6 with h6 | h6
          · exact h6
          · have : j = 6 := by omega
            subst this
            have : (2 : Int) ^ 6 = 64 := by decide
            omega
        simp only [h, decide_true, cond_true]
        refine ⟨_, _, rfl, rfl, ⟨rfl, j + 1, ?_, by omega⟩, ?_⟩
        · rw [wr' (by omega) (by omega)]; omega
        · rw [wr' (by omega) (by omega)]; omega
      · simp only [h, decide_false, cond_false]
        exact ⟨_, _, rfl, rfl, rfl, j, rfl, hj, by omega⟩)
    (2 ^ 64) (2 ^ 64) 0 0 (by omega) (by omega) ⟨rfl, 0, rfl, by omega⟩
  match o, q, w3 with
  | .inr s, .inr t, ⟨e, j, e2, hj, hle⟩ =>
    subst e e2
    exact ⟨j, hj, hle, w1, w2⟩
/-- a bit of a table -/
def bt (T : List (List Int)) (n w : Int) (k : Nat) (j : Nat) : Bool := (tab T (if n ≤ (j : Int) / w then 0 else (j : Int) / w) ((j : Int) % w) / 2 ^ k) % 2 == 1
def bits (T : List (List Int)) (n w : Int) (k N : Nat) : List Bool := (List.range N).map (bt T n w k)
theorem bits_len (T : List (List Int)) (n w : Int) (k N : Nat) : (bits T n w k N).length = N := by simp [bits]
theorem bits_succ (T : List (List Int)) (n w : Int) (k N : Nat) : bits T n w k (N + 1) = bits T n w k N ++ [bt T n w k N] := by simp [bits, List.range_succ]
section
variable {T : List (List Int)} {B : Int} {w L : Nat} (hT : ∀ row ∈ T, RowIn B w row) (hT1 : 1 ≤ T.length) (hTn : T.length ≤ 48) (hB : B ≤ 48) (w1 : 1 ≤ w) (w4 : w ≤ 4) (hL : L ≤ 6)
include hT hT1 w1
theorem ent {j : Nat} : ∃ row, idx T (if (T.length : Int) ≤ (j : Int) / w then 0 else (j : Int) / w) = some row ∧ idx row ((j : Int) % w) = some (tab T (if (T.length : Int) ≤ (j : Int) / w then 0 else (j : Int) / w) ((j : Int) % w)) ∧ 0 ≤ tab T (if (T.length : Int) ≤ (j : Int) / w then 0 else (j : Int) / w) ((j : Int) % w) ∧ tab T (if (T.length : Int) ≤ (j : Int) / w then 0 else (j : Int) / w) ((j : Int) % w) < B := by
  have hd : 0 ≤ (j : Int) / w := Int.ediv_nonneg (by omega) (by omega)
  exact tab_in hT (by split <;> omega) (by split <;> omega) (Int.emod_nonneg _ (by omega)) (Int.emod_lt_of_pos _ (by omega))
include hTn hB w4 hL
omit hTn in
theorem i_bits {k : Nat} (hk : k ≤ 6) : i_CircuitOf_1 T (k : Int) (w : Int) (L : Int) (T.length : Int) = some (bits T T.length w k (2 ^ L * w)) := by
  obtain ⟨s1, s2⟩ := shl_pow (x := (w : Int)) (j := L) (by omega) (by omega) (by omega)
  obtain ⟨z1, z2⟩ := shr_pow (x := 0) (j := k) (by omega)
  have hz : 2 ^ L ≤ 2 ^ 6 := Nat.pow_le_pow_right (by omega) hL
  have hN : 2 ^ L * w ≤ 256 := Nat.le_trans (Nat.mul_le_mul hz w4) (by decide)
  have e : (w : Int) * 2 ^ L = ((2 ^ L * w : Nat) : Int) := by simp [Int.mul_comm]
  unfold i_CircuitOf_1
  rw [s1, s2, e]
  have hrng : rng ((2 ^ L * w : Nat) : Int) = some () := by unfold rng; rw [if_pos (by omega)]
  rw [hrng, Option.bind_some, Option.bind_some, Int.sub_zero, Int.toNat_natCast]
  generalize 2 ^ L * w = N at hN
  obtain ⟨s, h1, h2⟩ := cnt_inv (f := i_CircuitOf_1_b0 T (k : Int) (w : Int) (T.length : Int)) (fun j s => s = bits T T.length w k j) N (s := []) rfl (fun j s hj hs => by
    subst hs
    obtain ⟨row, r1, r2, r3, r4⟩ := ent hT hT1 w1 (j := j)
    have hnz : nz (w : Int) = some () := by unfold nz; rw [if_neg (by omega)]
    have hd : 0 ≤ (j : Int) / w ∧ (j : Int) / w ≤ j := ⟨Int.ediv_nonneg (by omega) (by omega), Int.ediv_le_self _ (by omega)⟩
    have hq : (bif decide ((T.length : Int) ≤ (j : Int) / w) then some (0 : Int) else some ((j : Int) / w)) = some (if (T.length : Int) ≤ (j : Int) / w then 0 else (j : Int) / w) := by
      by_cases h : (T.length : Int) ≤ (j : Int) / w <;> simp [h]
    obtain ⟨q1, q2⟩ := shr_pow (x := tab T (if (T.length : Int) ≤ (j : Int) / w then 0 else (j : Int) / w) ((j : Int) % w)) (j := k) (by omega)
    have hpk := pow_in (j := k) (by omega)
    have hdk : 0 ≤ tab T (if (T.length : Int) ≤ (j : Int) / w then 0 else (j : Int) / w) ((j : Int) % w) / 2 ^ k ∧ tab T (if (T.length : Int) ≤ (j : Int) / w then 0 else (j : Int) / w) ((j : Int) % w) / 2 ^ k ≤ tab T (if (T.length : Int) ≤ (j : Int) / w then 0 else (j : Int) / w) ((j : Int) % w) := ⟨Int.ediv_nonneg r3 (by omega), Int.ediv_le_self _ r3⟩
    unfold i_CircuitOf_1_b0
    rw [hnz, Option.bind_some, tdiv_pos (by omega), wr' (z := (j : Int) / w) (by omega) (by omega), hq, Option.bind_some, r1, Option.bind_some, Option.bind_some, Int.tmod_eq_emod_of_nonneg (by omega), r2, Option.bind_some, q1, Option.bind_some, q2, and1 hdk.1 (by omega), app1 (by rw [bits_len]; omega) rfl]
    exact ⟨_, rfl, (bits_succ T T.length w k j).symm⟩)
  rw [h1, h2]
  rfl
omit hTn hB in
theorem s_bits {F : Int → List Bool → Option ((Circuit × Bool) ⊕ (List Bool ⊕ List Bool))} {G : Int → Int → List Bool → Option ((Circuit × Bool) ⊕ (List Bool ⊕ List Bool))} {k : Nat} (hk : k ≤ 6)
    (hF : ∀ (v : Nat) s, F (v : Int) s = Option.bind (bif decide ((T.length : Int) ≤ (v : Int)) then some (0 : Int) else some (v : Int)) fun q10 => Option.bind (rng (w : Int)) fun _ => Option.bind (cntM (G q10) (Int.toNat ((w : Int) - 0)) 0 s) fun q12 => aft (fun r => some (.inl r)) (fun s13 => some (.inr (.inr s13))) q12)
    (hG : ∀ (q : Int) (i : Nat) s row x, idx T q = some row → idx row (i : Int) = some x → 0 ≤ x → x < B → s.length ≤ 1000 → G q (i : Int) s = some (.inr (.inr (s ++ [(x / 2 ^ k) % 2 == 1])))) :
    cntM F (2 ^ L) 0 [] = some (.inr (bits T T.length w k (2 ^ L * w))) := by
  have hz : 2 ^ L ≤ 2 ^ 6 := Nat.pow_le_pow_right (by omega) hL
  generalize 2 ^ L = N at hz
  obtain ⟨s, h1, h2⟩ := cnt_inv (f := F) (fun v s => s = bits T T.length w k (v * w)) N (s := []) (by rw [Nat.zero_mul]; rfl) (fun v s hv hs => by
    subst hs
    have hvw : v * w ≤ 64 * 4 := Nat.mul_le_mul (by omega) w4
    have hrng : rng (w : Int) = some () := by unfold rng; rw [if_pos (by omega)]
    have hq : (bif decide ((T.length : Int) ≤ (v : Int)) then some (0 : Int) else some (v : Int)) = some (if (T.length : Int) ≤ (v : Int) then 0 else (v : Int)) := by
      by_cases h : (T.length : Int) ≤ (v : Int) <;> simp [h]
    obtain ⟨s', i1, i2⟩ := cnt_inv (f := G (if (T.length : Int) ≤ (v : Int) then 0 else (v : Int))) (fun i s => s = bits T T.length w k (v * w + i)) w (s := bits T T.length w k (v * w)) rfl (fun i s hi hs => by
      subst hs
      obtain ⟨row, r1, r2, r3, r4⟩ := ent hT hT1 w1 (j := v * w + i)
      have e1 : ((v * w + i : Nat) : Int) / w = (v : Int) := by
        rw [show ((v * w + i : Nat) : Int) = (i : Int) + (v : Int) * w from by rw [Int.natCast_add, Int.natCast_mul]; omega, Int.add_mul_ediv_right _ _ (by omega), Int.ediv_eq_zero_of_lt (by omega) (by omega)]; omega
      have e2 : ((v * w + i : Nat) : Int) % w = (i : Int) := by
        rw [show ((v * w + i : Nat) : Int) = (i : Int) + (v : Int) * w from by rw [Int.natCast_add, Int.natCast_mul]; omega, Int.add_mul_emod_self_right, Int.emod_eq_of_lt (by omega) (by omega)]
      rw [e1, e2] at r2 r3 r4
      rw [e1] at r1
      refine ⟨_, hG _ i _ row _ r1 r2 r3 r4 (by rw [bits_len]; omega), ?_⟩
      rw [show v * w + (i + 1) = v * w + i + 1 from rfl, bits_succ]
      unfold bt
      rw [e1, e2])
    rw [hF, hq, Option.bind_some, hrng, Option.bind_some, Int.sub_zero, Int.toNat_natCast, i1]
    exact ⟨_, rfl, by rw [i2, Nat.add_mul, Nat.one_mul]⟩)
  rw [h1, h2]
end
/-- the circuit that grows -/
def grow2 (I L : Int) (G : List Gate) : Circuit := ⟨I, L, [], G, []⟩
theorem one_table {I L : Nat} (hI : I ≤ 2) (hL : L ≤ 6) {G : List Gate} {kn : List (Gate × Int)} (hk : Known (1 + (I : Int) + L) G kn) {xs : List Bool} (hx : xs.length = 2 ^ (I + L)) (hG : G.length + 765 ≤ 8000) :
    ∃ y G' kn', s_l31Table (2 ^ 64) (grow2 I L G) xs ((I + L : Nat) : Int) = some (grow2 I L G', y) ∧ i_builder_literalOf (2 ^ 64) ⟨grow2 I L G, false, kn⟩ xs = some (y, G', false, kn') ∧ G'.length ≤ G.length + 765 ∧ Known (1 + (I : Int) + L) G' kn' := by
  have hp : 2 ^ (I + L) ≤ 2 ^ 8 := Nat.pow_le_pow_right (by omega) (by omega)
  have h1 : 1 ≤ 2 ^ (I + L) := Nat.one_le_two_pow
  obtain ⟨y, G', kn', a1, a2, a3, a4, a5, a6, a7⟩ := table_same (I + L) (2 ^ 64) (2 ^ 64) (grow2 I L G) false kn xs (by omega) (by show ((I + L : Nat) : Int) ≤ (I : Int) + L; omega) hx (by omega) (by omega) ⟨by show (0 : Int) ≤ I; omega, by show (I : Int) ≤ 4; omega, by show (0 : Int) ≤ L; omega, by show (L : Int) ≤ 6; omega, by show (G.length : Int) ≤ 8000; omega⟩ hk (by show G.length + _ ≤ 8000; omega)
  have a4 : G'.length ≤ G.length + 3 * (2 ^ (I + L) - 1) := a4
  exact ⟨y, G', kn', a1, a2, by omega, a7⟩
end Go.Proofs.Ytfmkhnlnomkcfaa
