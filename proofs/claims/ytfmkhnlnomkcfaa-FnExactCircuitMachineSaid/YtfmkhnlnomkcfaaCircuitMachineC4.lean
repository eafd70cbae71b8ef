/- CircuitMachine: the law. -/
import Derived.Test.YtfmkhnlnomkcfaaCircMachC4
set_option linter.unusedVariables false
set_option linter.unusedSimpArgs false
namespace Go.Proofs.Ytfmkhnlnomkcfaa
open Go Go.Wk Go.Proofs

/-- two loops, of which the first may leave while the second goes on -/
theorem while_sim3 {ρ ρ' σ τ : Type} {f : σ → Option (ρ ⊕ (σ ⊕ σ))} {g : τ → Option (ρ' ⊕ (τ ⊕ τ))} (R : σ → τ → Prop) (μ : τ → Nat) (O : ρ → Prop) (E : τ → Prop) (B : σ → τ → Prop) (Z : τ → Prop)
    (step : ∀ s t, R s t → ∃ o p, f s = some o ∧ g t = some p ∧ (match o, p with
      | .inl r, .inr (.inr t') => O r ∧ E t' ∧ μ t' < μ t
      | .inr (.inl s'), .inr (.inl t') => B s' t'
      | .inr (.inr s'), .inr (.inr t') => R s' t' ∧ μ t' < μ t
      | _, _ => False))
    (alone : ∀ t, E t → ∃ p, g t = some p ∧ (match p with
      | .inr (.inl t') => Z t'
      | .inr (.inr t') => E t' ∧ μ t' < μ t
      | _ => False)) :
    ∀ (k k' : Nat) (s : σ) (t : τ), μ t < k → μ t < k' → R s t → ∃ o p, whileM f k s = some o ∧ whileM g k' t = some p ∧ (match o, p with
      | .inl r, .inr t' => O r ∧ Z t'
      | .inr s', .inr t' => B s' t'
      | _, _ => False) := by
  have go : ∀ (k' : Nat) (t : τ), μ t < k' → E t → ∃ t', whileM g k' t = some (.inr t') ∧ Z t' := by
    intro k'
    induction k' with
    | zero => intro t h; exact absurd h (Nat.not_lt_zero _)
    | succ k' ih =>
      intro t hk hE
      obtain ⟨p, hp, hm⟩ := alone t hE
      show ∃ t', Option.bind (g t) (lpK (whileM g k')) = some (Sum.inr t') ∧ Z t'
      rw [hp]
      match p, hm with
      | .inr (.inl t'), hm => exact ⟨t', rfl, hm⟩
      | .inr (.inr t'), hm => exact ih t' (by omega) hm.1
  intro k
  induction k with
  | zero => intro k' s t h; exact absurd h (Nat.not_lt_zero _)
  | succ k ih =>
    intro k' s t hk hk' h
    obtain ⟨k', rfl⟩ : ∃ j, k' = j + 1 := ⟨k' - 1, by omega⟩
    obtain ⟨o, p, ho, hp, hm⟩ := step s t h
    show ∃ o p, Option.bind (f s) _ = some o ∧ Option.bind (g t) _ = some p ∧ _
    rw [ho, hp]
    match o, p, hm with
    | .inl r, .inr (.inr t'), hm =>
      obtain ⟨t'', h1, h2⟩ := go k' t' (by omega) hm.2.1
      exact ⟨.inl r, .inr t'', rfl, h1, hm.1, h2⟩
    | .inr (.inl s'), .inr (.inl t'), hm => exact ⟨.inr s', .inr t', rfl, rfl, hm⟩
    | .inr (.inr s'), .inr (.inr t'), hm => exact ih k' s' t' (by omega) (by omega) hm.1
/-- the state of the outer loop -/
abbrev Out4 := List Int × Int × List (List Int) × List (List Int)
def InvC (n k : Nat) (s : Out4) : Prop := Names n s.1 ∧ 0 ≤ s.2.1 ∧ s.2.1 ≤ s.1.length ∧ (s.2.2.1.length : Int) = s.2.1 ∧ (s.2.2.2.length : Int) = s.2.1 ∧ (∀ r ∈ s.2.2.1, r.length = k) ∧ (∀ r ∈ s.2.2.2, r.length = k)
section
variable {c : Circuit} (hc : circOk c = true) {n : Nat} (hn : (2 : Int) ^ c.Latches.toNat = n) {k : Nat} (hk : (k : Int) ≤ 2 ^ c.Inputs.toNat) (hn64 : n ≤ 64) (hk4 : k ≤ 16)
include hc hn hk hn64 hk4
/-- what a round makes -/
def round (c : Circuit) (k : Nat) (s : Out4) : Out4 :=
  let F := (ints k).foldl (stepC c (s.1.getD s.2.1.toNat 0)) (s.1, [], [])
  (F.1, s.2.1 + 1, s.2.2.1 ++ [F.2.1], s.2.2.2 ++ [F.2.2])
theorem i_round {p : Sig} (hp : i_inputsOf p = some (k : Int)) {s : Out4} (hI : InvC n k s) (hlt : s.2.1 < (s.1.length : Int)) : i_CircuitMachine_b0 p c s = some (.inr (.inr (round c k s))) ∧ InvC n k (round c k s) ∧ s.1.length ≤ (round c k s).1.length := by
  obtain ⟨hN, i0, i1, m1, m2, m3, m4⟩ := hI
  obtain ⟨i, hi⟩ := ex_nat i0
  have hl : s.1[i]? = some (s.1[i]'(by omega)) := List.getElem?_eq_getElem (by omega)
  have hlm := hN.2 _ (List.getElem_mem (show i < s.1.length by omega))
  have hgd : s.1.getD s.2.1.toNat 0 = s.1[i]'(by omega) := by
    rw [hi, Int.toNat_natCast, List.getD_eq_getElem?_getD, hl]; rfl
  have hlen := hN.len
  have h1 := i_rowC hc hn hk (s1 := s) hi hl hlm.1 (by omega) hN hn64 hk4
  obtain ⟨g1, g2, g3, g4⟩ := fold_in hc hn hk hlm.1 (by omega) k (Nat.le_refl _) (s := (s.1, [], [])) hN
  have hmono := fold_mono c (s.1[i]'(by omega)) (ints k) (s.1, [], [])
  have hr : round c k s = (((ints k).foldl (stepC c (s.1[i]'(by omega))) (s.1, [], [])).1, s.2.1 + 1, s.2.2.1 ++ [((ints k).foldl (stepC c (s.1[i]'(by omega))) (s.1, [], [])).2.1], s.2.2.2 ++ [((ints k).foldl (stepC c (s.1[i]'(by omega))) (s.1, [], [])).2.2]) := by unfold round; rw [hgd]
  rw [hr]
  generalize (ints k).foldl (stepC c (s.1[i]'(by omega))) (s.1, [], []) = F at *
  refine ⟨?_, ⟨g1, (show 0 ≤ s.2.1 + 1 by omega), ?_, ?_, ?_, ?_, ?_⟩, hmono⟩
  · unfold i_CircuitMachine_b0
    have hrng : rng (k : Int) = some () := by unfold rng; rw [if_pos (by omega)]
    simp only [hlt, decide_true, cond_true, hp, hrng, Option.bind_some, Int.sub_zero, Int.toNat_natCast, h1, aft_inr]
    rw [app1 (by omega) rfl, Option.bind_some, app1 (by omega) rfl, Option.bind_some, wr' (by omega) (by omega)]
  · have := g4 i _ hl
    have hlt' := (List.getElem?_eq_some_iff.1 this).1
    show s.2.1 + 1 ≤ ((F.1.length : Nat) : Int)
    omega
  · show ((s.2.2.1 ++ [F.2.1]).length : Int) = s.2.1 + 1
    simp; omega
  · show ((s.2.2.2 ++ [F.2.2]).length : Int) = s.2.1 + 1
    simp; omega
  · intro r hr
    rw [List.mem_append, List.mem_singleton] at hr
    rcases hr with hr | rfl
    · exact m3 r hr
    · rw [g2]; simp
  · intro r hr
    rw [List.mem_append, List.mem_singleton] at hr
    rcases hr with hr | rfl
    · exact m4 r hr
    · rw [g3]; simp
theorem circMach_same {p : Sig} (hp : s_l31Pow p.In = some (k : Int)) (hp' : i_inputsOf p = some (k : Int)) : ∃ o t, whileM (s_CircuitMachine_b0 p c) (2 ^ 64) ([0], 0, [], []) = some o ∧ whileM (i_CircuitMachine_b0 p c) (2 ^ 64) ([0], 0, [], []) = some (.inr t) ∧
    ((o = .inr t ∧ t.1.length ≤ 48 ∧ InvC n k t) ∨ (o = .inl (⟨[], []⟩, false) ∧ 48 < t.1.length)) := by
  have hn1 : 1 ≤ n := by have := (pow_in (j := c.Latches.toNat) (by have := circHead_in (circOk_spec hc).1; omega)).1; omega
  obtain ⟨o, q, h1, h2, h3⟩ := while_sim3 (f := s_CircuitMachine_b0 p c) (g := i_CircuitMachine_b0 p c) (fun s t => s = t ∧ InvC n k t ∧ t.1.length ≤ 48) (fun t => 70 - t.2.1.toNat) (fun r => r = (⟨[], []⟩, false)) (fun t => InvC n k t ∧ 48 < t.1.length) (fun s t => s = t ∧ t.1.length ≤ 48 ∧ InvC n k t) (fun t => 48 < t.1.length)
    (fun s t ⟨hst, hI, h48⟩ => by
      subst hst
      by_cases hlt : s.2.1 < (s.1.length : Int)
      · obtain ⟨r1, r2, r3⟩ := i_round hc hn hk hn64 hk4 hp' hI hlt
        obtain ⟨hN, i0, i1, m1, m2, m3, m4⟩ := hI
        obtain ⟨i, hi⟩ := ex_nat i0
        have hl : s.1[i]? = some (s.1[i]'(by omega)) := List.getElem?_eq_getElem (by omega)
        have hlm := hN.2 _ (List.getElem_mem (show i < s.1.length by omega))
        have hgd : s.1.getD s.2.1.toNat 0 = s.1[i]'(by omega) := by
          rw [hi, Int.toNat_natCast, List.getD_eq_getElem?_getD, hl]; rfl
        have hlen := hN.len
        have hr : round c k s = (((ints k).foldl (stepC c (s.1[i]'(by omega))) (s.1, [], [])).1, s.2.1 + 1, s.2.2.1 ++ [((ints k).foldl (stepC c (s.1[i]'(by omega))) (s.1, [], [])).2.1], s.2.2.2 ++ [((ints k).foldl (stepC c (s.1[i]'(by omega))) (s.1, [], [])).2.2]) := by unfold round; rw [hgd]
        rcases s_rowC hc hn hk hp (s1 := s) hi hl hlm.1 (by omega) hN hn64 hk4 h48 with ⟨z, e1, e2⟩ | ⟨e1, e2⟩
        · refine ⟨.inr (.inr (round c k s)), _, ?_, r1, ⟨rfl, r2, by rw [hr]; exact e2⟩, ?_⟩
          · unfold s_CircuitMachine_b0
            simp only [hlt, decide_true, cond_true, e1, Option.bind_some, aft_inr]
            rw [app1 (by omega) rfl, Option.bind_some, app1 (by omega) rfl, Option.bind_some, wr' (by omega) (by omega), hr]
          · rw [hr]; show 70 - (s.2.1 + 1).toNat < 70 - s.2.1.toNat; omega
        · refine ⟨.inl (⟨[], []⟩, false), _, ?_, r1, rfl, ⟨r2, by rw [hr]; exact e2⟩, ?_⟩
          · unfold s_CircuitMachine_b0
            simp only [hlt, decide_true, cond_true, e1, Option.bind_some, aft_inl]
          · rw [hr]; show 70 - (s.2.1 + 1).toNat < 70 - s.2.1.toNat; omega
      · refine ⟨.inr (.inl s), .inr (.inl s), ?_, ?_, rfl, h48, hI⟩
        · unfold s_CircuitMachine_b0; simp only [hlt, decide_false, cond_false]
        · unfold i_CircuitMachine_b0; simp only [hlt, decide_false, cond_false])
    (fun t ⟨hI, h48⟩ => by
      by_cases hlt : t.2.1 < (t.1.length : Int)
      · obtain ⟨r1, r2, r3⟩ := i_round hc hn hk hn64 hk4 hp' hI hlt
        refine ⟨_, r1, ⟨r2, by omega⟩, ?_⟩
        have := hI.1.len
        have := hI.2.1
        show 70 - (t.2.1 + 1).toNat < 70 - t.2.1.toNat
        omega
      · refine ⟨.inr (.inl t), ?_, h48⟩
        unfold i_CircuitMachine_b0; simp only [hlt, decide_false, cond_false])
    (2 ^ 64) (2 ^ 64) ([0], 0, [], []) ([0], 0, [], []) (by simp) (by simp) ⟨rfl, ⟨⟨by simp, by simp; omega⟩, by simp, by simp, by simp, by simp, by simp, by simp⟩, by simp⟩
  match o, q, h3 with
  | .inl r, .inr t, h3 => exact ⟨_, t, h1, h2, .inr ⟨by rw [h3.1], h3.2⟩⟩
  | .inr s, .inr t, h3 => exact ⟨_, t, h1, h2, .inl ⟨by rw [h3.1], h3.2⟩⟩
end
theorem i_inputsOf_eq2 {p : Sig} (hs : sigOk p = true) : i_inputsOf p = some (pw p.In) := by
  obtain ⟨hi, _⟩ := sigOk_in hs
  unfold i_inputsOf
  rw [(i_shift hi).1, Option.bind_some, (i_shift hi).2]
theorem CircuitMachine_same (p : Sig) (c : Circuit) : ∃ r b, s_CircuitMachine p c = some (r, b) ∧ i_CircuitMachine p c = some (r, b) ∧ r.Next.length ≤ 48 ∧ r.Out.length ≤ 48 ∧ (∀ x ∈ r.Next, x.length ≤ 4) ∧ (∀ x ∈ r.Out, x.length ≤ 4) := by
  unfold s_CircuitMachine i_CircuitMachine
  rw [s_SigOk_eq, s_fits_eq, i_isSig_eq, i_isCircuit_eq]
  simp only [Option.bind_some, orE, bne]
  cases hs : sigOk p with
  | false => exact ⟨⟨[], []⟩, false, by simp, by simp, by simp, by simp, by simp, by simp⟩
  | true =>
    cases hc : circOk c with
    | false => exact ⟨⟨[], []⟩, false, by simp, by simp, by simp, by simp, by simp, by simp⟩
    | true =>
      cases h1 : (c.Inputs == p.In) with
      | false => exact ⟨⟨[], []⟩, false, by simp, by simp, by simp, by simp, by simp, by simp⟩
      | true =>
        cases h2 : ((c.Outs.length : Int) == p.Out) with
        | false => exact ⟨⟨[], []⟩, false, by simp, by simp, by simp, by simp, by simp, by simp⟩
        | true =>
          have h1 := beq_iff_eq.1 h1
          have pI := pw_le p.In
          obtain ⟨k, hk⟩ := ex_nat (z := pw p.In) (by omega)
          have hpw := pow_pw hs
          obtain ⟨n, hn⟩ := ex_nat (z := (2 : Int) ^ c.Latches.toNat) (by have := (pow_in (j := c.Latches.toNat) (by have := circHead_in (circOk_spec hc).1; omega)).1; omega)
          have h64 := pow_le64 (circOk_spec hc).1
          obtain ⟨o, t, w1, w2, w3⟩ := circMach_same hc hn (k := k) (by rw [h1, hpw.2]; omega) (by omega) (by omega) (p := p) (by rw [hpw.1, hk]) (by rw [i_inputsOf_eq2 hs, hk])
          simp only [Bool.and_self, Bool.not_true, Bool.or_self, cond_false]
          rw [w1, w2]
          rcases w3 with ⟨rfl, h48, hI⟩ | ⟨rfl, h48⟩
          · have : ¬ 48 < (t.1.length : Int) := by omega
            simp only [Option.bind_some, aft_inr, this, decide_false, cond_false]
            obtain ⟨_, _, i1, m1, m2, m3, m4⟩ := hI
            exact ⟨_, _, rfl, rfl, by dsimp only; omega, by dsimp only; omega, fun x hx => by have := m3 x hx; omega, fun x hx => by have := m4 x hx; omega⟩
          · have : 48 < (t.1.length : Int) := by omega
            simp only [Option.bind_some, aft_inr, aft_inl, this, decide_true, cond_true]
            exact ⟨_, _, rfl, rfl, by simp, by simp, by simp, by simp⟩
theorem FnExactCircuitMachine_law {p0 : Sig} (ok0 : Sig.ok p0) {p1 : Circuit} (ok1 : Circuit.ok p1) : l_FnExactCircuitMachine p0 p1 = some true :=
  FnExactCircuitMachine_of ok0 ok1 fun _ => by
    obtain ⟨r, b, h1, h2, h3, h4, h5, h6⟩ := CircuitMachine_same p0 p1
    refine ⟨r, b, h1, h2, ?_, ?_⟩
    · have := ctL_bd (c := ctL (fun _ => 1)) (N := 48) (M := 4) (xs := r.Next) h3 (fun x hx => by rw [ctL_one]; exact h5 x hx)
      omega
    · have := ctL_bd (c := ctL (fun _ => 1)) (N := 48) (M := 4) (xs := r.Out) h4 (fun x hx => by rw [ctL_one]; exact h6 x hx)
      omega
end Go.Proofs.Ytfmkhnlnomkcfaa
