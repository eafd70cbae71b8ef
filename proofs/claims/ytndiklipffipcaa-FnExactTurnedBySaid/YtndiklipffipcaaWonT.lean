/- Who wins where: both sides find the same. -/
import Derived.Test.YtndiklipffipcaaWonIT
import Derived.Test.YtndiklipffipcaaEditedT
set_option linter.unusedVariables false
set_option linter.unusedSimpArgs false
namespace Go.Proofs.Ytndiklipffipcaa
open Go Go.Wk Go.Proofs

/-- a game on n vertices -/
structure GOk (g : Parity) (n : Nat) : Prop where
  n256 : n ≤ 256
  lo : g.Arena.Owner.length = n
  lp : g.Prio.length = n
  ln : g.Arena.Next.length = n
  ow : ∀ v o, idx g.Arena.Owner v = some o → o = 0 ∨ o = 1
  row : ∀ v r, idx g.Arena.Next v = some r → r.length ≤ 16 ∧ r.Nodup ∧ ∀ u ∈ r, 0 ≤ u ∧ u < n
  pri : PriOk g.Prio
theorem mem_idx {α : Type} {xs : List α} {v : Int} {x : α} (h : idx xs v = some x) : x ∈ xs := by
  obtain ⟨h0, _⟩ := idx_rng h
  rw [idx_int h0] at h
  exact List.mem_of_getElem? h
theorem GOk.of {g : Parity} (h : parityOk g = true) : GOk g g.Prio.length := by
  obtain ⟨h1, h2, h3, h4, h5⟩ := parityOk_spec h
  obtain ⟨hO, hP⟩ := parity_get h
  refine ⟨by omega, by omega, rfl, by omega, fun v o ho => ?_, fun v r hr => ?_, fun v q hq => ?_⟩
  · have := inR_iff.1 (hO o (mem_idx ho))
    omega
  · obtain ⟨v0, _⟩ := idx_rng hr
    obtain ⟨i, hi⟩ := ex_nat v0
    subst hi
    rw [idx_nat] at hr
    obtain ⟨r1, r2, r3⟩ := h5 i r hr
    obtain ⟨r4, r5⟩ := setOk_iff.1 r3
    exact ⟨r2, asc_nodup r5, fun u hu => by have := r4 u hu; omega⟩
  · have := inR_iff.1 (hP q (mem_idx hq))
    omega
section
variable {g : Parity} {n : Nat} (h : GOk g n)
include h
/-- the predecessors, by the program -/
theorem i_preds_ok : ∃ P, i_predsOf g.Arena = some P ∧ PrevT g.Arena.Next n n P := by
  have hn := h.n256
  unfold i_predsOf
  rw [h.lo, mkS_nat (by omega) rfl, Option.bind_some, h.ln]
  obtain ⟨s, h1, h2⟩ := cnt_inv (f := i_predsOf_b0 g.Arena) (fun j (s : List (List Int)) => PrevT g.Arena.Next n j s) n (s := List.replicate n []) PrevT.zero (fun j s hj hs => by
    have hr : g.Arena.Next[j]? = some (g.Arena.Next[j]'(by rw [h.ln]; exact hj)) := List.getElem?_eq_getElem (by rw [h.ln]; exact hj)
    generalize g.Arena.Next[j]'(by rw [h.ln]; exact hj) = row at hr
    obtain ⟨r1, r2, r3⟩ := h.row (j : Int) row (by rw [idx_nat]; exact hr)
    unfold i_predsOf_b0
    rw [idx_nat, hr, Option.bind_some]
    obtain ⟨t, k1, k2⟩ := cnt_inv (f := i_predsOf_b2 (j : Int) row) (fun i (t : List (List Int)) => PrevM g.Arena.Next n j row i t) row.length (s := s) (hs.first row) (fun i t hi ht => by
      have hu : row[i]? = some row[i] := List.getElem?_eq_getElem hi
      generalize row[i] = u at hu
      obtain ⟨u0, u1⟩ := r3 u (List.mem_of_getElem? hu)
      obtain ⟨old, m1, m2, t', m3, m4⟩ := ht.step hu r2 u0 u1
      unfold i_predsOf_b2
      rw [idx_nat, hu, Option.bind_some, m1, Option.bind_some, app1 (by omega) rfl, Option.bind_some, Option.bind_some, m3, Option.bind_some]
      exact ⟨_, rfl, m4⟩)
    rw [k1, Option.bind_some, aft_inr]
    exact ⟨_, rfl, k2.last hr⟩)
  rw [h1, Option.bind_some, aft_inr]
  exact ⟨s, rfl, h2⟩
/-- and by the reference -/
theorem s_of_ok : ∃ P, s_l7Of g = some ⟨g.Arena.Owner, g.Prio, g.Arena.Next, P, List.replicate n (-1)⟩ ∧ PrevT g.Arena.Next n n P := by
  have hn := h.n256
  unfold s_l7Of
  rw [h.lp, mkS_nat (by omega) rfl, Option.bind_some, mkS_nat (by omega) rfl, Option.bind_some]
  obtain ⟨s, h1, h2, h3, h4⟩ := cnt_inv (f := s_l7Of_b0 g) (fun j (s : List (List Int) × List Int) => PrevT g.Arena.Next n j s.1 ∧ s.2.length = n ∧ ∀ i : Nat, i < j → idx s.2 (i : Int) = some (-1)) n (s := (List.replicate n [], List.replicate n 0)) ⟨PrevT.zero, by simp, fun i hi => absurd hi (Nat.not_lt_zero i)⟩ (fun j s hj ⟨hs, q1, q2⟩ => by
    obtain ⟨s, k⟩ := s
    dsimp only at hs q1 q2
    have hr : g.Arena.Next[j]? = some (g.Arena.Next[j]'(by rw [h.ln]; exact hj)) := List.getElem?_eq_getElem (by rw [h.ln]; exact hj)
    generalize g.Arena.Next[j]'(by rw [h.ln]; exact hj) = row at hr
    obtain ⟨r1, r2, r3⟩ := h.row (j : Int) row (by rw [idx_nat]; exact hr)
    obtain ⟨old, ho⟩ := idx_some (xs := k) (i := (j : Int)) (by omega) (by omega)
    obtain ⟨k', hk, hkl⟩ := setI_some (xs := k) (i := (j : Int)) (-1) (by omega) (by omega)
    unfold s_l7Of_b0
    dsimp only
    rw [ho, Option.bind_some, hk, Option.bind_some]
    obtain ⟨o, w1, w2⟩ := while_out (f := s_l7Of_b2 g (j : Int)) (fun i (t : Int × List (List Int)) => t.1 = (i : Int) ∧ i ≤ row.length ∧ PrevM g.Arena.Next n j row i t.2) (fun _ => False) (fun t => PrevM g.Arena.Next n j row row.length t.2) row.length (fun i t ⟨a1, a2, a3⟩ => by
      obtain ⟨i', t⟩ := t
      dsimp only at a1 a3
      subst a1
      unfold s_l7Of_b2
      dsimp only
      rw [idx_nat, hr, Option.bind_some]
      by_cases hlt : i < row.length
      · have hlt' : (i : Int) < (row.length : Int) := by omega
        have hu : row[i]? = some row[i] := List.getElem?_eq_getElem hlt
        generalize row[i] = u at hu
        obtain ⟨u0, u1⟩ := r3 u (List.mem_of_getElem? hu)
        obtain ⟨old, m1, m2, t', m3, m4⟩ := a3.step hu r2 u0 u1
        have hw : IntKind.i64.wrap ((i : Int) + 1) = ((i + 1 : Nat) : Int) := by rw [wr' (by omega) (by omega)]; omega
        simp only [hlt', decide_true, cond_true, Option.bind_some, idx_nat, hu, m1, app1 (show old.length ≤ 10000000000 by omega) (show Nat.ble 8 1024 = true from rfl), m3, hw]
        exact ⟨_, rfl, hlt, rfl, by omega, m4⟩
      · have hlt' : ¬ (i : Int) < (row.length : Int) := by omega
        simp only [hlt', decide_false, cond_false]
        have e : i = row.length := by omega
        subst e
        exact ⟨_, rfl, a3⟩) (2 ^ 64) 0 (0, s) (by omega) ⟨rfl, by omega, hs.first row⟩ (by omega)
    match o, w2 with
    | .inr t, w2 =>
      rw [w1, Option.bind_some, aft_inr]
      refine ⟨_, rfl, w2.last hr, by dsimp only; omega, fun i hi => ?_⟩
      dsimp only
      rw [idx_setI hk]
      by_cases e : (i : Int) = (j : Int)
      · rw [if_pos e]
      · rw [if_neg e]; exact q2 i (by omega))
  rw [h1, Option.bind_some, aft_inr]
  have e : s.2 = List.replicate n (-1) := by
    apply List.ext_getElem?
    intro i
    rw [List.getElem?_replicate]
    by_cases hi : i < n
    · rw [if_pos hi, ← idx_nat]; exact h4 i hi
    · rw [if_neg hi]; exact List.getElem?_eq_none (by omega)
  refine ⟨s.1, ?_, h2⟩
  rw [e]
theorem GOk.wfI {P : List (List Int)} (hP : PrevT g.Arena.Next n n P) : WfI ⟨g, P⟩ n := by
  refine ⟨h.n256, h.lo, h.lp, h.ln, hP.1, h.ow, h.row, fun u Q hQ => ?_⟩
  obtain ⟨u0, u1⟩ := idx_rng hQ
  have u1 : u < (P.length : Int) := u1
  have hQ : idx P u = some Q := hQ
  rw [hP.2 u u0 (by have := hP.1; omega)] at hQ
  cases hQ
  have := prevL_len g.Arena.Next u n
  have := h.n256
  exact ⟨prevL_nodup _ _ _, by omega, fun v => mem_prevL h.ln⟩
theorem GOk.wfS {P : List (List Int)} (hP : PrevT g.Arena.Next n n P) {k : List Int} (hk : k.length = n) : WfS ⟨g.Arena.Owner, g.Prio, g.Arena.Next, P, k⟩ n := by
  refine ⟨h.n256, h.lo, h.lp, h.ln, hk, hP.1, h.ow, h.row, fun u Q hQ => ?_⟩
  obtain ⟨u0, u1⟩ := idx_rng hQ
  have u1 : u < (P.length : Int) := u1
  have hQ : idx P u = some Q := hQ
  rw [hP.2 u u0 (by have := hP.1; omega)] at hQ
  cases hQ
  have := prevL_len g.Arena.Next u n
  have := h.n256
  exact ⟨prevL_nodup _ _ _, by omega, fun v => mem_prevL h.ln⟩
/-- without picks both see one game -/
theorem gS_none (P : List (List Int)) : gS ⟨g.Arena.Owner, g.Prio, g.Arena.Next, P, List.replicate n (-1)⟩ = gI g := by
  unfold gS gI
  congr 1
  funext v
  unfold rowS rowI
  dsimp only
  cases hr : idx g.Arena.Next v with
  | none => rfl
  | some r =>
    obtain ⟨v0, v1⟩ := idx_rng hr
    have : idx (List.replicate n (-1 : Int)) v = some (-1) := by
      rw [idx_int v0, List.getElem?_replicate, if_pos (by have := h.ln; omega)]
    rw [this]
    show r.filter (okE (-1)) = r
    rw [List.filter_eq_self]
    intro a _
    rfl
theorem all_eq : s_l7All (g.Prio.length : Int) = some (List.replicate n true) := by
  have hn := h.n256
  unfold s_l7All
  have hr : rng (n : Int) = some () ∨ True := .inr trivial
  rw [h.lp, mkS_nat (by omega) rfl, Option.bind_some, show Int.toNat ((n : Int) - 0) = n from by omega]
  obtain ⟨s, h1, h2, h3⟩ := fill (f := s_l7All_b0) (fun _ => true) n (s0 := List.replicate n false) (by simp) (fun j s hj hs => by
    unfold s_l7All_b0
    rfl)
  rw [h1]
  have e : s = List.replicate n true := by
    apply List.ext_getElem?
    intro i
    rw [List.getElem?_replicate]
    by_cases hi : i < n
    · rw [if_pos hi, ← idx_nat]; exact h3 i hi
    · rw [if_neg hi]; exact List.getElem?_eq_none (by omega)
  subst e
  have : rng (n : Int) = some () := by
    unfold rng
    first
      | rfl
      | rw [if_pos (by omega)]
  rw [this]; rfl
omit h in
theorem In_all (v : Int) : In (List.replicate n true) v ↔ 0 ≤ v ∧ v < n := by
  constructor
  · intro h
    have := idx_rng h
    simpa using this
  · rintro ⟨h0, h1⟩
    unfold In
    rw [idx_int h0, List.getElem?_replicate, if_pos (by omega)]
/-- marks of a row -/
theorem markI_eq {L : List Int} (hL : ∀ v ∈ L, 0 ≤ v ∧ v < n) : ∃ R, i_markOf g.Arena L = some R ∧ R.length = n ∧ ∀ v, In R v ↔ v ∈ L := by
  have hn := h.n256
  unfold i_markOf
  rw [h.lo, mkS_nat (by omega) rfl, Option.bind_some]
  obtain ⟨s, h1, h2, h3⟩ := cnt_inv (f := i_markOf_b0 L) (fun j (s : List Bool) => s.length = n ∧ ∀ v : Int, 0 ≤ v → v < n → idx s v = some (decide (v ∈ L.take j))) L.length (s := List.replicate n false) ⟨by simp, fun v v0 v1 => by
      rw [idx_int v0, List.getElem?_replicate, if_pos (by omega)]; simp⟩ (fun j s hj ⟨q1, q2⟩ => by
    have hu : L[j]? = some L[j] := List.getElem?_eq_getElem hj
    generalize L[j] = u at hu
    obtain ⟨u0, u1⟩ := hL u (List.mem_of_getElem? hu)
    obtain ⟨s', hs, hl⟩ := setI_some (xs := s) (i := u) true u0 (by omega)
    unfold i_markOf_b0
    rw [idx_nat, hu, Option.bind_some, q2 u u0 u1, Option.bind_some, hs, Option.bind_some]
    refine ⟨_, rfl, by omega, fun v v0 v1 => ?_⟩
    rw [idx_setI hs, take_one hu]
    by_cases e : v = u
    · rw [if_pos e]; simp [e]
    · rw [if_neg e, q2 v v0 v1]; simp [e])
  rw [h1, Option.bind_some, aft_inr]
  refine ⟨s, rfl, h2, fun v => ?_⟩
  rw [List.take_length] at h3
  constructor
  · intro hi
    have hi' := In_of h2 hi
    unfold In at hi
    rw [h3 v hi'.1 hi'.2] at hi
    simpa using hi
  · intro hm
    obtain ⟨v0, v1⟩ := hL v hm
    unfold In
    rw [h3 v v0 v1]
    simpa using hm
/-- a part, solved by the program -/
theorem wonIn_eq {L : List Int} (hL : ∀ v ∈ L, 0 ≤ v ∧ v < n) (hN : Par.NoDead (gI g) (fun v => v ∈ L)) : ∃ E O W, i_wonIn g L = some (E, O) ∧ Par.Sol (gI g) (fun v => v ∈ L) false W ∧ (∀ v, v ∈ E ↔ W v) ∧ (∀ v, v ∈ O ↔ v ∈ L ∧ ¬ W v) ∧ E.length ≤ n ∧ O.length ≤ n := by
  have hn := h.n256
  obtain ⟨P, p1, p2⟩ := i_preds_ok h
  obtain ⟨M, m1, m2, m3⟩ := markI_eq h hL
  have eM : In M = fun v => v ∈ L := funext fun v => propext (m3 v)
  obtain ⟨R, q, r1, r2, r3⟩ := i_won (h.wfI p2) h.pri n M (2 ^ 64) m2 (by rw [eM]; exact hN) (by have := cnt_le M; omega) (by omega)
  obtain ⟨X, x1, x2, x3⟩ := without_eq m2 r2 hn
  have lR := marksL_len R R.length
  have lX := marksL_len X X.length
  have r3 : Par.Sol (gI g) (In M) q (In R) := r3
  unfold i_wonIn
  rw [p1, Option.bind_some, m1, Option.bind_some, r1, Option.bind_some]
  dsimp only
  rw [b2i_beq0, listI_eq (by omega), x1]
  simp only [Option.bind_some]
  rw [listI_eq (by omega)]
  simp only [Option.bind_some]
  have hsol := r3.asP false
  rw [eM] at hsol
  have hsub := r3.sub
  cases q with
  | false =>
    simp only [Bool.not_false, cond_true]
    refine ⟨_, _, _, rfl, hsol, fun v => ?_, fun v => ?_, by omega, by omega⟩
    · rw [mem_marksL]
      exact ⟨fun hv => ⟨(m3 v).1 (hsub v hv), fun _ => rfl, fun _ => hv⟩, fun hv => hv.2.2 rfl⟩
    · rw [mem_marksL, x3, m3]
      exact ⟨fun hv => ⟨hv.1, fun hw => hv.2 (hw.2.2 rfl)⟩, fun hv => ⟨hv.1, fun hr => hv.2 ⟨hv.1, fun _ => rfl, fun _ => hr⟩⟩⟩
  | true =>
    simp only [Bool.not_true, cond_false]
    refine ⟨_, _, _, rfl, hsol, fun v => ?_, fun v => ?_, by omega, by omega⟩
    · rw [mem_marksL, x3, m3]
      exact ⟨fun hv => ⟨hv.1, fun hr => absurd hr hv.2, fun hf => absurd hf (by decide)⟩, fun hv => ⟨hv.1, fun hr => absurd (hv.2.1 hr) (by decide)⟩⟩
    · rw [mem_marksL]
      constructor
      · intro hr
        exact ⟨(m3 v).1 (hsub v hr), fun hw => absurd (hw.2.1 hr) (by decide)⟩
      · rintro ⟨hl, hw⟩
        apply Classical.byContradiction
        intro hr
        exact hw ⟨hl, fun h' => absurd h' hr, fun hf => absurd hf (by decide)⟩
end
end Go.Proofs.Ytndiklipffipcaa
