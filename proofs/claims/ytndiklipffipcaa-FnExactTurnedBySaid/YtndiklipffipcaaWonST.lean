/- The reference's solver finds who wins. -/
import Derived.Test.YtndiklipffipcaaFillT
import Derived.Test.YtndiklipffipcaaAttS2T
import Derived.Test.YtndiklipffipcaaParST
set_option linter.unusedVariables false
set_option linter.unusedSimpArgs false
namespace Go.Proofs.Ytndiklipffipcaa
open Go Go.Wk Go.Proofs

theorem priL_get {P : List Int} {v : Int} (h0 : 0 ≤ v) (h1 : v < P.length) : idx P v = some (priL P v) := by
  obtain ⟨q, hq⟩ := idx_some (xs := P) h0 h1
  unfold priL; rw [hq]; rfl
/-- what the priorities are -/
def PriOk (P : List Int) : Prop := ∀ v q, idx P v = some q → 0 ≤ q ∧ q ≤ 40
theorem tmod_who {d : Int} (h : 0 ≤ d) : Int.tmod d 2 = b2i (Par.oddP d) := by
  rw [Int.tmod_eq_emod_of_nonneg h]
  unfold Par.oddP b2i
  by_cases e : d % 2 = 1
  · simp [e]
  · simp [e]; omega
theorem b2i_beq0 (p : Bool) : (b2i p == 0) = !p := by cases p <;> rfl
theorem b2i_beq1 (p : Bool) : (b2i p == 1) = p := by cases p <;> rfl
theorem b2i_beq (p q : Bool) : (b2i p == b2i q) = (p == q) := by cases p <;> cases q <;> rfl
theorem b2i_other (p : Bool) : IntKind.i64.wrap (1 - b2i p) = b2i (!p) := by cases p <;> decide
theorem l7Less_eq {A B : List Bool} {n : Nat} (hA : A.length = n) (hB : B.length = n) (hn : n ≤ 256) : ∃ R, s_l7Less A B = some R ∧ R.length = n ∧ ∀ v, In R v ↔ In A v ∧ ¬ In B v := by
  unfold s_l7Less
  rw [hA, mkS_nat (by omega) rfl, Option.bind_some]
  obtain ⟨R, h1, h2, h3⟩ := fillB (f := s_l7Less_b0 A B) (fun v => In A v ∧ ¬ In B v) n (s0 := List.replicate n false) (by simp) (fun j s hj hs => by
    unfold s_l7Less_b0
    rw [In_get (B := A) (by omega) (by omega), Option.bind_some, In_get (B := B) (by omega) (by omega), Option.bind_some, andE, Option.bind_some]
    congr 1
    funext _
    congr 2
    rw [Bool.eq_iff_iff]; simp) (fun v hv => In_of hA hv.1)
  rw [h1, Option.bind_some, aft_inr]
  exact ⟨R, rfl, h2, h3⟩
section
variable {x : l7Game} {n : Nat} (wf : WfS x n) (hp : PriOk x.prio)
include wf hp
theorem s_top {B : List Bool} (hB : B.length = n) : ∃ d : Int, s_l7Top x B = some d ∧ d ≤ 40 ∧ (∀ v, In B v → priL x.prio v ≤ d) ∧ ((d = -1 ∧ ∀ v, ¬ In B v) ∨ (0 ≤ d ∧ ∃ v, In B v ∧ priL x.prio v = d)) := by
  have hlp := wf.lp
  obtain ⟨s, h1, h2, h3, h4⟩ := cnt_inv (f := s_l7Top_b0 x B) (fun j (s : Int) => s ≤ 40 ∧ (∀ v, v < (j : Int) → In B v → priL x.prio v ≤ s) ∧ ((s = -1 ∧ ∀ v, v < (j : Int) → ¬ In B v) ∨ (0 ≤ s ∧ ∃ v, In B v ∧ priL x.prio v = s))) B.length (s := (-1 : Int)) ⟨by omega, fun v hv hi => by
      have := In_of hB hi; omega, .inl ⟨rfl, fun v hv hi => by have := In_of hB hi; omega⟩⟩ (fun j s hj ⟨q1, q2, q3⟩ => by
    rw [hB] at hj
    unfold s_l7Top_b0
    have hq := priL_get (P := x.prio) (v := (j : Int)) (by omega) (by omega)
    obtain ⟨d0, d1⟩ := hp _ _ hq
    rw [In_get (B := B) (by omega) (by omega), Option.bind_some, hq]
    by_cases hi : In B (j : Int)
    · simp only [hi, decide_true, cond_true, Option.bind_some]
      unfold s_l1Max
      by_cases hlt : priL x.prio (j : Int) < s
      · simp only [hlt, decide_true, cond_true, Option.bind_some]
        refine ⟨_, rfl, q1, fun v hv hi' => ?_, ?_⟩
        · by_cases e : v = (j : Int)
          · subst e; omega
          · exact q2 v (by omega) hi'
        · rcases q3 with ⟨e, _⟩ | h
          · omega
          · exact .inr h
      · simp only [hlt, decide_false, cond_false, Option.bind_some]
        refine ⟨_, rfl, d1, fun v hv hi' => ?_, .inr ⟨d0, (j : Int), hi, rfl⟩⟩
        by_cases e : v = (j : Int)
        · subst e; omega
        · have := q2 v (by omega) hi'; omega
    · simp only [hi, decide_false, cond_false, Option.bind_some]
      refine ⟨_, rfl, q1, fun v hv hi' => ?_, ?_⟩
      · by_cases e : v = (j : Int)
        · subst e; exact absurd hi' hi
        · exact q2 v (by omega) hi'
      · rcases q3 with ⟨e, h⟩ | h
        · refine .inl ⟨e, fun v hv hi' => ?_⟩
          by_cases e : v = (j : Int)
          · subst e; exact hi hi'
          · exact h v (by omega) hi'
        · exact .inr h)
  unfold s_l7Top
  rw [h1, Option.bind_some, aft_inr]
  refine ⟨s, rfl, h2, fun v hv => h3 v (by have := In_of hB hv; omega) hv, ?_⟩
  rcases h4 with ⟨e, h⟩ | h
  · exact .inl ⟨e, fun v hv => h v (by have := In_of hB hv; omega) hv⟩
  · exact .inr h
omit wf hp in
/-- whom the other one wins against -/
theorem s_lost {rest low : List Bool} {d : Int} {p : Bool} (hd : Int.tmod d 2 = b2i p) (hr : rest.length = n) (hl : low.length = n) : ∃ L b, cntM (s_l7Win_b2 d rest low) n 0 (false, List.replicate n false) = some (.inr (b, L)) ∧ L.length = n ∧ (∀ v, In L v ↔ In rest v ∧ (In low v ↔ p = true)) ∧ (b = true ↔ ∃ v, In L v) := by
  let val : Nat → Bool := fun j => decide (In rest (j : Int) ∧ (In low (j : Int) ↔ p = true))
  obtain ⟨s, h1, h2, h3, h4⟩ := cnt_inv (f := s_l7Win_b2 d rest low) (fun j (s : Bool × List Bool) => s.2.length = n ∧ (∀ i : Nat, i < j → idx s.2 (i : Int) = some (val i)) ∧ (s.1 = true ↔ ∃ i : Nat, i < j ∧ val i = true)) n (s := (false, List.replicate n false)) ⟨by simp, fun i hi => absurd hi (Nat.not_lt_zero i), by simp⟩ (fun j s hj ⟨q1, q2, q3⟩ => by
    obtain ⟨b, L⟩ := s
    dsimp only at q1 q2 q3
    obtain ⟨old, ho⟩ := idx_some (xs := L) (i := (j : Int)) (by omega) (by omega)
    obtain ⟨L', hs, hl'⟩ := setI_some (xs := L) (i := (j : Int)) (val j) (by omega) (by omega)
    have hv : (decide (In rest (j : Int)) && (decide (In low (j : Int)) != !p)) = val j := by
      show _ = decide (In rest (j : Int) ∧ (In low (j : Int) ↔ p = true))
      rw [Bool.eq_iff_iff]
      cases p <;> simp
    have hnew : idx L' (j : Int) = some (val j) := by rw [idx_setI hs, if_pos rfl]
    unfold s_l7Win_b2
    dsimp only
    rw [In_get (B := rest) (by omega) (by omega), Option.bind_some, In_get (B := low) (by omega) (by omega), Option.bind_some, andE, Option.bind_some, hd, b2i_beq0, hv, ho, Option.bind_some, hs, Option.bind_some, hnew, Option.bind_some, orE, Option.bind_some]
    refine ⟨_, rfl, by dsimp only; omega, fun i hi => ?_, ?_⟩
    · dsimp only
      rw [idx_setI hs]
      by_cases e : (i : Int) = (j : Int)
      · have : i = j := by omega
        subst this
        rw [if_pos rfl]
      · rw [if_neg e]; exact q2 i (by omega)
    · dsimp only
      rw [Bool.or_eq_true, q3]
      constructor
      · rintro (⟨i, hi, h⟩ | h)
        · exact ⟨i, by omega, h⟩
        · exact ⟨j, by omega, h⟩
      · rintro ⟨i, hi, h⟩
        by_cases e : i = j
        · subst e; exact .inr h
        · exact .inl ⟨i, by omega, h⟩)
  obtain ⟨b, L⟩ := s
  dsimp only at h2 h3 h4
  have hIn : ∀ v, In L v ↔ In rest v ∧ (In low v ↔ p = true) := fun v => by
    constructor
    · intro h
      obtain ⟨v0, v1⟩ := idx_rng h
      obtain ⟨j, hj⟩ := ex_nat v0
      subst hj
      have := h3 j (by omega)
      unfold In at h
      rw [h] at this
      exact of_decide_eq_true (Option.some.inj this).symm
    · intro h
      obtain ⟨v0, v1⟩ := In_of hr h.1
      obtain ⟨j, hj⟩ := ex_nat v0
      subst hj
      unfold In
      rw [h3 j (by omega)]
      congr 1
      exact decide_eq_true h
  refine ⟨L, b, h1, h2, hIn, ?_⟩
  rw [h4]
  constructor
  · rintro ⟨i, hi, h⟩
    exact ⟨(i : Int), (hIn _).2 (of_decide_eq_true h)⟩
  · rintro ⟨v, hv⟩
    obtain ⟨v0, v1⟩ := In_of h2 hv
    obtain ⟨j, hj⟩ := ex_nat v0
    subst hj
    exact ⟨j, by omega, decide_eq_true ((hIn _).1 hv)⟩
/-- the solver -/
theorem s_win : ∀ (k : Nat) (B : List Bool) (f : Nat), B.length = n → Par.NoDead (gS x) (In B) → cnt B ≤ k → k < f → ∃ R, s_l7Win f x B = some R ∧ R.length = n ∧ Par.Sol (gS x) (In B) false (In R) := by
  have hn := wf.n256
  intro k
  induction k with
  | zero =>
    intro B f hB hN hk hf
    obtain ⟨f, rfl⟩ : ∃ g, f = g + 1 := ⟨f - 1, by omega⟩
    show ∃ R, s_l7Win_s (s_l7Win f) x B = some R ∧ _
    unfold s_l7Win_s
    obtain ⟨d, t1, t2, t3, t4⟩ := s_top wf hp hB
    have hno := cnt_zero (B := B) (by omega)
    rcases t4 with ⟨e, _⟩ | ⟨_, v, hv, _⟩
    · subst e
      rw [t1, Option.bind_some, hB, mkS_nat (by omega) rfl, Option.bind_some]
      refine ⟨_, rfl, by simp, (Par.Sol.void hno).congr fun v => ⟨fun h => absurd h (hno v), fun h => ?_⟩⟩
      have hr := idx_rng h
      unfold In at h
      rw [idx_int hr.1, List.getElem?_replicate] at h
      split at h <;> simp at h
    · exact absurd hv (hno v)
  | succ k ih =>
    intro B f hB hN hk hf
    obtain ⟨f, rfl⟩ : ∃ g, f = g + 1 := ⟨f - 1, by omega⟩
    show ∃ R, s_l7Win_s (s_l7Win f) x B = some R ∧ _
    unfold s_l7Win_s
    obtain ⟨d, t1, t2, t3, t4⟩ := s_top wf hp hB
    rcases t4 with ⟨e, hno⟩ | ⟨hd0, w, hw, hwd⟩
    · subst e
      rw [t1, Option.bind_some, hB, mkS_nat (by omega) rfl, Option.bind_some]
      refine ⟨_, rfl, by simp, (Par.Sol.void hno).congr fun v => ⟨fun h => absurd h (hno v), fun h => ?_⟩⟩
      have hr := idx_rng h
      unfold In at h
      rw [idx_int hr.1, List.getElem?_replicate] at h
      split at h <;> simp at h
    · have hneg : decide (d < 0) = false := by simp; omega
      have hwho := tmod_who hd0
      generalize hpe : Par.oddP d = p at hwho
      rw [t1, Option.bind_some, hB, mkS_nat (by omega) rfl, Option.bind_some]
      simp only [hneg, cond_false, Option.bind_some]
      obtain ⟨goal, g1, g2, g3⟩ := fillB (f := s_l7Win_b0 x B d) (fun v => In B v ∧ priL x.prio v = d) n (s0 := List.replicate n false) (by simp) (fun j s hj hs => by
        unfold s_l7Win_b0
        rw [In_get (B := B) (by omega) (by omega), Option.bind_some, priL_get (P := x.prio) (by omega) (by rw [wf.lp]; omega), Option.bind_some, andE, Option.bind_some]
        congr 1
        funext _
        congr 2
        rw [Bool.eq_iff_iff]; simp) (fun v hv => In_of hB hv.1)
      rw [g1, Option.bind_some, aft_inr, hwho]
      obtain ⟨A, a1, a2, a3⟩ := s_attr wf hB g2 p hN
      have hA : Par.IsAttr (gS x) (In B) p (fun v => (gS x).pri v = d) (In A) := a3.congrS fun v hv => by rw [g3]; exact ⟨fun h => h.2, fun h => ⟨hv, h⟩⟩
      obtain ⟨rest, r1, r2, r3⟩ := l7Less_eq hB a2 hn
      have hX1 : ∀ v, Par.Mn (In B) (In A) v ↔ In rest v := fun v => (r3 v).symm
      have e1 : Par.Mn (In B) (In A) = In rest := funext fun v => propext (hX1 v)
      have hN1 : Par.NoDead (gS x) (In rest) := e1 ▸ hN.less hA
      have hc1 : cnt rest < cnt B := cnt_lt (fun v hv => ((r3 v).1 hv).1) hw fun h => ((r3 w).1 h).2 (a3.base w hw ((g3 w).2 ⟨hw, hwd⟩))
      obtain ⟨low, l1, l2, l3⟩ := ih rest f r2 hN1 (by omega) (by omega)
      obtain ⟨L, b, m1, m2, m3, m4⟩ := s_lost hwho r2 l2
      simp only [a1, Option.bind_some, r1, l1, m1, aft_inr]
      have hW := l3.asP p
      have hLe : ∀ v, In L v ↔ Par.Mn (In rest) (fun v => In rest v ∧ (In low v ↔ p = false)) v := fun v => by
        rw [m3]
        unfold Par.Mn
        by_cases h1 : In rest v <;> by_cases h2 : In low v <;> cases p <;> simp [h1, h2]
      have eL : Par.Mn (In rest) (fun v => In rest v ∧ (In low v ↔ p = false)) = In L := funext fun v => propext (hLe v).symm
      cases hb : b with
      | false =>
        simp only [Bool.not_false, cond_true]
        have hno : ∀ v, ¬ In L v := fun v hv => by
          have := m4.2 ⟨v, hv⟩
          rw [hb] at this; cases this
        obtain ⟨R, o1, o2, o3⟩ := fillB (f := s_l7Win_b4 B d) (fun v => In B v ∧ p = false) n (s0 := List.replicate n false) (by simp) (fun j s hj hs => by
          unfold s_l7Win_b4
          rw [In_get (B := B) (by omega) (by omega), Option.bind_some, andE, Option.bind_some, hwho, b2i_beq0]
          congr 1
          funext _
          congr 2
          rw [Bool.eq_iff_iff]; simp) (fun v hv => In_of hB hv.1)
        rw [o1, Option.bind_some, aft_inr]
        refine ⟨R, rfl, o2, ?_⟩
        have hS : Par.Sol (gS x) (In B) p (In B) := Par.Sol.top hN t3 hpe hA (e1.symm ▸ hW) fun v hv => by
          have hv := (hX1 v).1 hv
          apply Classical.byContradiction
          intro hc
          exact hno v ((hLe v).2 ⟨hv, fun h => hc ⟨(hX1 v).2 hv, h.2⟩⟩)
        refine (hS.asP false).congr fun v => ?_
        rw [o3]
        constructor
        · rintro ⟨k1, k2⟩; exact ⟨k1, (k2.1 k1).symm⟩
        · rintro ⟨k1, k2⟩; exact ⟨k1, fun _ => k2.symm, fun _ => k1⟩
      | true =>
        simp only [Bool.not_true, cond_false]
        obtain ⟨w2, hw2⟩ := m4.1 hb
        obtain ⟨A2, b1, b2, b3⟩ := s_attr wf hB m2 (!p) hN
        obtain ⟨rest2, c1, c2, c3⟩ := l7Less_eq hB b2 hn
        have e2 : Par.Mn (In B) (In A2) = In rest2 := funext fun v => propext (c3 v).symm
        have hN2 : Par.NoDead (gS x) (In rest2) := e2 ▸ hN.less b3
        have hw2B : In B w2 := ((r3 w2).1 ((m3 w2).1 hw2).1).1
        have hc2 : cnt rest2 < cnt B := cnt_lt (fun v hv => ((c3 v).1 hv).1) hw2B fun h => ((c3 w2).1 h).2 (b3.base w2 hw2B hw2)
        obtain ⟨again, d1, d2, d3⟩ := ih rest2 f c2 hN2 (by omega) (by omega)
        rw [b2i_other]
        simp only [b1, Option.bind_some, c1, d1]
        obtain ⟨R, o1, o2, o3⟩ := fillB (f := s_l7Win_b6 d A2 again) (fun v => In again v ∨ (In A2 v ∧ p = true)) n (s0 := List.replicate n false) (by simp) (fun j s hj hs => by
          unfold s_l7Win_b6
          rw [In_get (B := again) (by omega) (by omega), Option.bind_some, In_get (B := A2) (by omega) (by omega), Option.bind_some, andE, Option.bind_some, orE, Option.bind_some, hwho, b2i_beq1]
          congr 1
          funext _
          congr 2
          rw [Bool.eq_iff_iff]; simp) (fun v hv => by
            rcases hv with h | h
            · exact In_of d2 h
            · exact In_of b2 h.1)
        rw [o1, Option.bind_some, aft_inr]
        refine ⟨R, rfl, o2, ?_⟩
        have hRed : Par.Red (gS x) (In B) (Par.Mn (In B) (In A2)) p := Par.Red.refl.step hA (e1.symm ▸ hW) (by rw [e1, eL]; exact b3)
        have hS := hRed.sol (e2.symm ▸ d3.asP p)
        refine (hS.asP false).congr fun v => ?_
        rw [o3]
        have k1 : In again v → In rest2 v := d3.sub v
        have k2 : In A2 v → In B v := b3.sub v
        have k3 := c3 v
        by_cases h1 : In B v <;> by_cases h2 : In A2 v <;> by_cases h3 : In again v <;> cases hpp : p <;> simp [h1, h2] at k1 k2 k3 <;> simp [h1, h2, h3, k3] <;> simp_all
end
end Go.Proofs.Ytndiklipffipcaa
