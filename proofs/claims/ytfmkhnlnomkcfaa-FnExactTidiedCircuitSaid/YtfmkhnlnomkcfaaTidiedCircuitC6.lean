/- TidiedCircuit: the law. -/
import Derived.Test.YtfmkhnlnomkcfaaTidyBC6
set_option linter.unusedVariables false
set_option linter.unusedSimpArgs false
namespace Go.Proofs.Ytfmkhnlnomkcfaa
open Go Go.Wk Go.Proofs

/-- the literal that the second pass of the other side makes -/
def bec2 (R : List Int) (x : Int) : Int := 2 * at0 R (x / 2) + x % 2
theorem unused1_eq {R : List Int} (hR : ∀ y ∈ R, 0 ≤ y ∧ y < 1000000) {x : Int} (x0 : 0 ≤ x) (x1 : x < 2 * (R.length : Int)) (hl : R.length ≤ 100000) : i_withoutUnused_1 x R = some (bec2 R x) := by
  obtain ⟨h0, h1⟩ := half_in x0 x1
  obtain ⟨e1, e2⟩ := at0_get h0 h1
  obtain ⟨y0, y1⟩ := hR _ e2
  unfold i_withoutUnused_1 bec2
  rw [tdiv_pos x0, wr' (z := x / 2) (by omega) (by omega), e1, Option.bind_some, and1 x0 (by omega), wr' (z := 2 * at0 R (x / 2)) (by omega) (by omega), wr' (by omega) (by omega)]
theorem bec_eq {B R : List Int} {x : Int} (h : at0 B (x / 2) = 2 * at0 R (x / 2)) : bec B x = bec2 R x := by
  unfold bec bec2 turn
  rw [h]
  split
  · rw [if_neg (by omega)]; omega
  · omega
theorem at0_app {B : List Int} {x s : Int} (s0 : 0 ≤ s) : at0 (B ++ [x]) s = if s < B.length then at0 B s else if s = B.length then x else 0 := by
  unfold at0
  rw [List.getD_eq_getElem?_getD, List.getD_eq_getElem?_getD, List.getElem?_append]
  by_cases h : s < (B.length : Int)
  · rw [if_pos h, if_pos (by omega)]
  · rw [if_neg h, if_neg (by omega)]
    by_cases h2 : s = (B.length : Int)
    · rw [if_pos h2, show s.toNat - B.length = 0 from by omega]; rfl
    · rw [if_neg h2, List.getElem?_eq_none (by simp; omega)]; rfl
theorem at0_set {B : List Int} {k : Nat} (hk : k < B.length) {x s : Int} (s0 : 0 ≤ s) : at0 (B.set k x) s = if s = (k : Int) then x else at0 B s := by
  unfold at0
  rw [List.getD_eq_getElem?_getD, List.getD_eq_getElem?_getD, List.getElem?_set]
  by_cases h : s = (k : Int)
  · rw [if_pos h, if_pos (by omega), if_pos hk]; rfl
  · rw [if_neg h, if_neg (by omega)]
section
variable {c : Circuit} (hc : circOk c = true) {b : Nat} (hb : base c = (b : Int)) {G : List Gate} (hG : G.length ≤ 8000) (hGO : GOk b G) {n : Nat} (hn : n = b + G.length) {N O : List Int} {M : List Bool} (hM : M.length = n) (hcl : ClosedFrom b G M (-1))
include hc hb hG hGO hn hM hcl
/-- how the numbers of both sides stand to each other -/
structure Rn (b n : Nat) (M : List Bool) (j : Nat) (B R : List Int) (H : List Gate) : Prop where
  len : R.length = n
  blen : B.length = b + j
  rng : ∀ y ∈ R, 0 ≤ y ∧ y < 10000
  brng : ∀ y ∈ B, 0 ≤ y ∧ y < 20000
  same : ∀ s : Int, 0 ≤ s → s < (b + j : Nat) → (bAt M s = true ∨ s < (b : Int)) → at0 B s = 2 * at0 R s
  hlen : H.length ≤ j
omit hcl in
theorem second_f {j : Nat} (hj : j < G.length) {B R : List Int} {H : List Gate} (hR : Rn b n M j B R H) (hbt : bAt M ((b + j : Nat) : Int) = false) : ∃ B' R' H', i_withoutUnused_b2 ⟨c.Inputs, c.Latches, N, G, O⟩ M (j : Int) (H, R) = some (.inr (.inr (H', R'))) ∧
    s_TidiedCircuit_b4 c ⟨c.Inputs, c.Latches, N, G, O⟩ M (B, ((b + j : Nat) : Int), H) = some (.inr (.inr (B', ((b + (j + 1) : Nat) : Int), H'))) ∧ Rn b n M (j + 1) B' R' H' := by
  obtain ⟨b1, b2, b3, b4⟩ := tidy_b hc hb
  have hb' := hb
  unfold base at hb'
  have h := circHead_in (circOk_spec hc).1
  have hcH : Head ⟨c.Inputs, c.Latches, N, G, O⟩ := ⟨h.1, h.2.1, h.2.2.1, h.2.2.2.1, by show (G.length : Int) ≤ 8000; omega⟩
  have hcS : sigs ⟨c.Inputs, c.Latches, N, G, O⟩ = (n : Int) := by show 1 + c.Inputs + c.Latches + (G.length : Int) = _; omega
  have hx : G[j]? = some G[j] := by simp [hj]
  generalize G[j] = g at hx
  obtain ⟨a0, a1, d0, d1⟩ := hGO j g hx
  have hHl := hR.hlen
  obtain ⟨hh, hs⟩ := grown_head hc hb (G := H) (by omega)
  have hw1 : IntKind.i64.wrap ((b : Int) + (j : Int)) = ((b + j : Nat) : Int) := by rw [wr' (by omega) (by omega)]; omega
  have hidx := bAt_nn hM (v := ((b + j : Nat) : Int)) (by omega) (by omega)
  have c1 : ((b + j : Nat) : Int) < (n : Int) := by omega
  have hw2 : IntKind.i64.wrap (IntKind.i64.wrap (IntKind.i64.wrap (((b + j : Nat) : Int) - 1) - c.Inputs) - c.Latches) = (j : Int) := by
    rw [wr' (z := ((b + j : Nat) : Int) - 1) (by omega) (by omega), wr' (z := ((b + j : Nat) : Int) - 1 - c.Inputs) (by omega) (by omega), wr' (by omega) (by omega)]; omega
  have c2 : ¬ ((j : Int) < 0) := by omega
  have hbl := hR.blen
  have hw3 : IntKind.i64.wrap (2 * ((b : Int) + H.length)) = 2 * ((b : Int) + H.length) := wr' (by omega) (by omega)
  have hwn : IntKind.i64.wrap (((b + j : Nat) : Int) + 1) = ((b + (j + 1) : Nat) : Int) := by rw [wr' (by omega) (by omega)]; omega
  unfold i_withoutUnused_b2 s_TidiedCircuit_b4
  rw [hcH.s_eq, hcS]
  dsimp only
  rw [show (⟨c.Inputs, c.Latches, [], H, []⟩ : Circuit) = grown c H from rfl, hh.s_eq, hh.i_eq, hs]
  simp only [Option.bind_some, c1, c2, decide_true, decide_false, cond_true, cond_false, b3, hw1, hw2, hw3, hwn, idx_nat, hx]
  rw [app1 (by omega) rfl, Option.bind_some]
  rw [idx_nat] at hidx
  simp only [hidx, Option.bind_some]
  -- what one more entry makes
  have hB' : ∀ y ∈ B ++ [2 * ((b : Int) + H.length)], 0 ≤ y ∧ y < 20000 := fun y hy => by
    rw [List.mem_append, List.mem_singleton] at hy
    rcases hy with hy | rfl
    · exact hR.brng y hy
    · omega
  have hBl' : (B ++ [2 * ((b : Int) + H.length)]).length = b + (j + 1) := by rw [List.length_append, hbl]; rfl
  rw [hbt]
  simp only [cond_false, Option.bind_some]
  refine ⟨_, _, _, rfl, rfl, hR.len, hBl', hR.rng, hB', fun s s0 s1 hs' => ?_, by omega⟩
  rw [at0_app s0]
  by_cases hlt : s < (B.length : Int)
  · rw [if_pos hlt]; exact hR.same s s0 (by omega) hs'
  · have : s = ((b + j : Nat) : Int) := by omega
    rw [this, hbt] at hs'
    rcases hs' with hs' | hs'
    · cases hs'
    · omega
theorem second_t {j : Nat} (hj : j < G.length) {B R : List Int} {H : List Gate} (hR : Rn b n M j B R H) (hbt : bAt M ((b + j : Nat) : Int) = true) : ∃ B' R' H', i_withoutUnused_b2 ⟨c.Inputs, c.Latches, N, G, O⟩ M (j : Int) (H, R) = some (.inr (.inr (H', R'))) ∧
    s_TidiedCircuit_b4 c ⟨c.Inputs, c.Latches, N, G, O⟩ M (B, ((b + j : Nat) : Int), H) = some (.inr (.inr (B', ((b + (j + 1) : Nat) : Int), H'))) ∧ Rn b n M (j + 1) B' R' H' := by
  obtain ⟨b1, b2, b3, b4⟩ := tidy_b hc hb
  have hb' := hb
  unfold base at hb'
  have h := circHead_in (circOk_spec hc).1
  have hcH : Head ⟨c.Inputs, c.Latches, N, G, O⟩ := ⟨h.1, h.2.1, h.2.2.1, h.2.2.2.1, by show (G.length : Int) ≤ 8000; omega⟩
  have hcS : sigs ⟨c.Inputs, c.Latches, N, G, O⟩ = (n : Int) := by show 1 + c.Inputs + c.Latches + (G.length : Int) = _; omega
  have hx : G[j]? = some G[j] := by simp [hj]
  generalize G[j] = g at hx
  obtain ⟨a0, a1, d0, d1⟩ := hGO j g hx
  have hHl := hR.hlen
  obtain ⟨hh, hs⟩ := grown_head hc hb (G := H) (by omega)
  have hw1 : IntKind.i64.wrap ((b : Int) + (j : Int)) = ((b + j : Nat) : Int) := by rw [wr' (by omega) (by omega)]; omega
  have hidx := bAt_nn hM (v := ((b + j : Nat) : Int)) (by omega) (by omega)
  have c1 : ((b + j : Nat) : Int) < (n : Int) := by omega
  have hw2 : IntKind.i64.wrap (IntKind.i64.wrap (IntKind.i64.wrap (((b + j : Nat) : Int) - 1) - c.Inputs) - c.Latches) = (j : Int) := by
    rw [wr' (z := ((b + j : Nat) : Int) - 1) (by omega) (by omega), wr' (z := ((b + j : Nat) : Int) - 1 - c.Inputs) (by omega) (by omega), wr' (by omega) (by omega)]; omega
  have c2 : ¬ ((j : Int) < 0) := by omega
  have hbl := hR.blen
  have hw3 : IntKind.i64.wrap (2 * ((b : Int) + H.length)) = 2 * ((b : Int) + H.length) := wr' (by omega) (by omega)
  have hwn : IntKind.i64.wrap (((b + j : Nat) : Int) + 1) = ((b + (j + 1) : Nat) : Int) := by rw [wr' (by omega) (by omega)]; omega
  unfold i_withoutUnused_b2 s_TidiedCircuit_b4
  rw [hcH.s_eq, hcS]
  dsimp only
  rw [show (⟨c.Inputs, c.Latches, [], H, []⟩ : Circuit) = grown c H from rfl, hh.s_eq, hh.i_eq, hs]
  simp only [Option.bind_some, c1, c2, decide_true, decide_false, cond_true, cond_false, b3, hw1, hw2, hw3, hwn, idx_nat, hx]
  rw [app1 (by omega) rfl, Option.bind_some]
  rw [idx_nat] at hidx
  simp only [hidx, Option.bind_some]
  -- what one more entry makes
  have hB' : ∀ y ∈ B ++ [2 * ((b : Int) + H.length)], 0 ≤ y ∧ y < 20000 := fun y hy => by
    rw [List.mem_append, List.mem_singleton] at hy
    rcases hy with hy | rfl
    · exact hR.brng y hy
    · omega
  have hBl' : (B ++ [2 * ((b : Int) + H.length)]).length = b + (j + 1) := by rw [List.length_append, hbl]; rfl
  rw [hbt]
  have hRl := hR.len
  obtain ⟨x, hx', _⟩ := get_el (xs := R) (z := ((b + j : Nat) : Int)) (by omega) (by omega)
  have hset : setI R ((b + j : Nat) : Int) ((b : Int) + H.length) = some (R.set (b + j) ((b : Int) + H.length)) := by
    unfold setI
    rw [if_pos (by omega), Int.toNat_natCast]
  rw [idx_nat] at hx'
  have hR' : ∀ y ∈ R.set (b + j) ((b : Int) + H.length), 0 ≤ y ∧ y < 10000 := fun y hy => by
    rcases List.mem_or_eq_of_mem_set hy with hy | rfl
    · exact hR.rng y hy
    · omega
  have hRl' : (R.set (b + j) ((b : Int) + H.length)).length = n := by rw [List.length_set, hRl]
  have hsame : ∀ s : Int, 0 ≤ s → s < (b + (j + 1) : Nat) → (bAt M s = true ∨ s < (b : Int)) → at0 (B ++ [2 * ((b : Int) + H.length)]) s = 2 * at0 (R.set (b + j) ((b : Int) + H.length)) s := fun s s0 s1 hs' => by
    rw [at0_app s0, at0_set (by omega) s0]
    by_cases hlt : s < (B.length : Int)
    · rw [if_pos hlt, if_neg (by omega)]; exact hR.same s s0 (by omega) hs'
    · rw [if_neg hlt, if_pos (by omega), if_pos (by omega)]
  obtain ⟨mA, mB⟩ := hcl j g hx (by omega) (by rw [show (b : Int) + j = ((b + j : Nat) : Int) from by omega]; exact hbt)
  have eA := became_eq (B := B ++ [2 * ((b : Int) + H.length)]) (fun y hy => by have := hB' y hy; omega) (x := g.A) a0 (by omega) (by omega)
  have eB := became_eq (B := B ++ [2 * ((b : Int) + H.length)]) (fun y hy => by have := hB' y hy; omega) (x := g.B) d0 (by omega) (by omega)
  have fA := unused1_eq (R := R.set (b + j) ((b : Int) + H.length)) (fun y hy => by have := hR' y hy; omega) (x := g.A) a0 (by omega) (by omega)
  have fB := unused1_eq (R := R.set (b + j) ((b : Int) + H.length)) (fun y hy => by have := hR' y hy; omega) (x := g.B) d0 (by omega) (by omega)
  rw [bec_eq (hsame _ (by omega) (by omega) (.inl mA))] at eA
  rw [bec_eq (hsame _ (by omega) (by omega) (.inl mB))] at eB
  simp only [cond_true, hx', hset, eA, eB, fA, fB, Option.bind_some]
  rw [app1 (by omega) rfl]
  exact ⟨_, _, _, rfl, rfl, hRl', hBl', hR', hB', hsame, by rw [List.length_append]; simp; omega⟩
theorem second_step {j : Nat} (hj : j < G.length) {B R : List Int} {H : List Gate} (hR : Rn b n M j B R H) : ∃ B' R' H', i_withoutUnused_b2 ⟨c.Inputs, c.Latches, N, G, O⟩ M (j : Int) (H, R) = some (.inr (.inr (H', R'))) ∧
    s_TidiedCircuit_b4 c ⟨c.Inputs, c.Latches, N, G, O⟩ M (B, ((b + j : Nat) : Int), H) = some (.inr (.inr (B', ((b + (j + 1) : Nat) : Int), H'))) ∧ Rn b n M (j + 1) B' R' H' := by
  cases hbt : bAt M ((b + j : Nat) : Int) with
  | false => exact second_f hc hb hG hGO hn hM hj hR hbt
  | true => exact second_t hc hb hG hGO hn hM hcl hj hR hbt
theorem second : ∃ B R H, whileM (s_TidiedCircuit_b4 c ⟨c.Inputs, c.Latches, N, G, O⟩ M) (2 ^ 64) ([], 0, []) = some (.inr (B, (n : Int), H)) ∧
    (∃ R0, mkS 8 (n : Int) (0 : Int) = some R0 ∧ ∃ R1, cntM i_withoutUnused_b0 b 0 R0 = some (.inr R1) ∧ cntM (i_withoutUnused_b2 ⟨c.Inputs, c.Latches, N, G, O⟩ M) G.length 0 ([], R1) = some (.inr (H, R))) ∧ Rn b n M G.length B R H := by
  obtain ⟨b1, b2, b3, b4⟩ := tidy_b hc hb
  have hb' := hb
  unfold base at hb'
  have h := circHead_in (circOk_spec hc).1
  have hcH : Head ⟨c.Inputs, c.Latches, N, G, O⟩ := ⟨h.1, h.2.1, h.2.2.1, h.2.2.2.1, by show (G.length : Int) ≤ 8000; omega⟩
  have hcS : sigs ⟨c.Inputs, c.Latches, N, G, O⟩ = (n : Int) := by show 1 + c.Inputs + c.Latches + (G.length : Int) = _; omega
  -- the signals before the gates
  have s1 := while_skip (f := s_TidiedCircuit_b4 c ⟨c.Inputs, c.Latches, N, G, O⟩ M) (fun i => (evens i, (i : Int), [])) b (2 ^ 64 - b) (fun i hi => by
    unfold s_TidiedCircuit_b4
    rw [hcH.s_eq, hcS]
    have c1 : (i : Int) < (n : Int) := by omega
    have c2 : IntKind.i64.wrap (IntKind.i64.wrap (IntKind.i64.wrap ((i : Int) - 1) - c.Inputs) - c.Latches) < 0 := by
      rw [wr' (z := (i : Int) - 1) (by omega) (by omega), wr' (z := (i : Int) - 1 - c.Inputs) (by omega) (by omega), wr' (by omega) (by omega)]; omega
    dsimp only
    simp only [Option.bind_some, c1, c2, decide_true, cond_true]
    rw [wr' (z := 2 * (i : Int)) (by omega) (by omega), app1 (by rw [evens_len]; omega) rfl, wr' (by omega) (by omega), evens_succ]
    rfl)
  rw [show b + (2 ^ 64 - b) = 2 ^ 64 from by omega] at s1
  have hmk : mkS 8 (n : Int) (0 : Int) = some (List.replicate n 0) := by
    unfold mkS
    rw [if_pos (by omega)]; simp
  obtain ⟨R1, i1, i2, i3, i4⟩ := cnt_inv (f := i_withoutUnused_b0) (fun j R => R.length = n ∧ (∀ y ∈ R, 0 ≤ y ∧ y < 10000) ∧ ∀ s : Int, 0 ≤ s → s < (j : Int) → at0 R s = s) b (s := List.replicate n 0) ⟨by simp, fun y hy => by have := List.eq_of_mem_replicate hy; omega, fun s s0 s1 => by omega⟩ (fun j R hj ⟨k1, k2, k3⟩ => by
    obtain ⟨x, hx, _⟩ := get_el (xs := R) (z := (j : Int)) (by omega) (by omega)
    have hset : setI R (j : Int) (j : Int) = some (R.set j (j : Int)) := by
      unfold setI
      rw [if_pos (by omega)]; simp
    unfold i_withoutUnused_b0
    rw [hx, Option.bind_some, hset]
    refine ⟨_, rfl, by rw [List.length_set, k1], fun y hy => ?_, fun s s0 s1 => ?_⟩
    · rcases List.mem_or_eq_of_mem_set hy with hy | rfl
      · exact k2 y hy
      · omega
    · rw [at0_set (by omega) s0]
      split
      · omega
      · exact k3 s s0 (by omega))
  have hev : ∀ s : Int, 0 ≤ s → s < (b : Int) → at0 (evens b) s = 2 * s := fun s s0 s1 => by
    obtain ⟨k, rfl⟩ := ex_nat s0
    have e := evens_get (n := b) (i := k) (by omega)
    unfold at0
    rw [List.getD_eq_getElem?_getD, Int.toNat_natCast, e]; rfl
  obtain ⟨o, q, w1, w2, w3⟩ := cnt_while (f := i_withoutUnused_b2 ⟨c.Inputs, c.Latches, N, G, O⟩ M) (g := s_TidiedCircuit_b4 c ⟨c.Inputs, c.Latches, N, G, O⟩ M) (fun j s t => ∃ B R H, s = (H, R) ∧ t = (B, ((b + j : Nat) : Int), H) ∧ Rn b n M j B R H) (fun _ _ => False) (fun s t => ∃ B R H, s = (H, R) ∧ t = (B, ((b + G.length : Nat) : Int), H) ∧ Rn b n M G.length B R H) G.length
    (fun j s t hj ⟨B, R, H, e1, e2, hR⟩ => by
      subst e1 e2
      obtain ⟨B', R', H', q1, q2, q3⟩ := second_step hc hb hG hGO hn hM hcl (N := N) (O := O) hj hR
      exact ⟨_, _, q1, q2, B', R', H', rfl, rfl, q3⟩)
    (fun s t ⟨B, R, H, e1, e2, hR⟩ => by
      refine ⟨t, ?_, B, R, H, e1, e2, hR⟩
      subst e2
      unfold s_TidiedCircuit_b4
      rw [hcH.s_eq, hcS]
      have c1 : ¬ ((b + G.length : Nat) : Int) < (n : Int) := by omega
      dsimp only
      simp only [Option.bind_some, c1, decide_false, cond_false])
    G.length 0 ([], R1) (evens b, (b : Int), []) (2 ^ 64 - b) (by omega) (by omega) ⟨evens b, R1, [], rfl, rfl, i2, by rw [evens_len]; rfl, i3, fun y hy => by
      unfold evens at hy
      rw [List.mem_map] at hy
      obtain ⟨i, hi, rfl⟩ := hy
      rw [List.mem_range] at hi
      omega, fun s s0 s1 _ => by rw [hev s s0 (by omega), i4 s s0 (by omega)], Nat.le_refl _⟩
  match o, q, w3 with
  | .inr s, .inr t, ⟨B, R, H, e1, e2, hR⟩ =>
    subst e1 e2
    refine ⟨B, R, H, ?_, ⟨_, hmk, R1, i1, w1⟩, hR⟩
    rw [show (([] : List Int), (0 : Int), ([] : List Gate)) = (evens 0, ((0 : Nat) : Int), []) from rfl, s1]
    have w2 : whileM (s_TidiedCircuit_b4 c ⟨c.Inputs, c.Latches, N, G, O⟩ M) (2 ^ 64 - b) (evens b, (b : Int), []) = _ := w2
    rw [w2, hn]
end
theorem ends_eq {c1 c2 : Circuit} {B : List Int} (h1 : c2.Next = []) (h2 : c2.Outs = []) (hB : ∀ y ∈ B, 0 ≤ y ∧ y < 1000000) (hl : B.length ≤ 100000) (hN : ∀ x ∈ c1.Next, 0 ≤ x ∧ x < 2 * (B.length : Int)) (hO : ∀ x ∈ c1.Outs, 0 ≤ x ∧ x < 2 * (B.length : Int)) (hNl : c1.Next.length ≤ 100) (hOl : c1.Outs.length ≤ 100) :
    s_l31Ends c1 c2 B = some ⟨c2.Inputs, c2.Latches, c1.Next.map (bec B), c2.Gates, c1.Outs.map (bec B)⟩ := by
  unfold s_l31Ends
  rw [h1, h2, cnt_map (f := s_l31Ends_b0 c1 B) (bec B) (xs := c1.Next) (fun i x s hx hs => by
    have hi := (List.getElem?_eq_some_iff.1 hx).1
    obtain ⟨x0, x1⟩ := hN x (List.mem_of_getElem? hx)
    unfold s_l31Ends_b0
    rw [idx_nat, hx, Option.bind_some, became_eq hB x0 x1 hl, Option.bind_some, app1 (by omega) rfl]
    rfl), Option.bind_some, aft_inr, cnt_map (f := s_l31Ends_b2 c1 B) (bec B) (xs := c1.Outs) (fun i x s hx hs => by
    have hi := (List.getElem?_eq_some_iff.1 hx).1
    obtain ⟨x0, x1⟩ := hO x (List.mem_of_getElem? hx)
    unfold s_l31Ends_b2
    rw [idx_nat, hx, Option.bind_some, became_eq hB x0 x1 hl, Option.bind_some, app1 (by omega) rfl]
    rfl), Option.bind_some, aft_inr]
theorem TidiedCircuit_same (c : Circuit) : ∃ r, s_TidiedCircuit c = some r ∧ i_TidiedCircuit c = some r ∧ r.Next.length ≤ 6 ∧ r.Gates.length ≤ 8000 ∧ r.Outs.length ≤ 4 := by
  unfold s_TidiedCircuit i_TidiedCircuit
  rw [s_CircuitOk_eq, i_isCircuit_eq]
  simp only [Option.bind_some]
  cases hc : circOk c with
  | false => exact ⟨⟨0, 0, [], [], []⟩, rfl, rfl, by simp, by simp, by simp⟩
  | true =>
    simp only [Bool.not_true, cond_false]
    have h := circHead_in (circOk_spec hc).1
    obtain ⟨_, _, hnx, hot⟩ := circOk_spec hc
    obtain ⟨b, hb⟩ := ex_nat (z := base c) (by unfold base; omega)
    obtain ⟨b1, b2, b3, b4⟩ := tidy_b hc hb
    obtain ⟨B, G, kn, e1, e2, g1, g2, g3, g4⟩ := joined hc hb
    have hsg : sigs c = (b : Int) + c.Gates.length := by rw [← hb]; rfl
    have hBm : ∀ y ∈ B, 0 ≤ y ∧ y < 1000000 := fun y hy => by have := g3 y hy; omega
    rw [List.all_eq_true] at hnx hot
    have hN : ∀ x ∈ c.Next, 0 ≤ x ∧ x < 2 * (B.length : Int) := fun x hx => by have := inR_iff.1 (hnx x hx); omega
    have hO : ∀ x ∈ c.Outs, 0 ≤ x ∧ x < 2 * (B.length : Int) := fun x hx => by have := inR_iff.1 (hot x hx); omega
    have x1 := ends_eq (c1 := c) (c2 := ⟨c.Inputs, c.Latches, [], G, []⟩) (B := B) rfl rfl hBm (by omega) hN hO (by omega) (by omega)
    have hN1 : ∀ x ∈ c.Next.map (bec B), 0 ≤ x ∧ x < 2 * ((b + G.length : Nat) : Int) := fun x hx => by
      rw [List.mem_map] at hx
      obtain ⟨y, hy, rfl⟩ := hx
      obtain ⟨y0, y1⟩ := hN y hy
      have := bec_in g3 y0 y1
      omega
    have hO1 : ∀ x ∈ c.Outs.map (bec B), 0 ≤ x ∧ x < 2 * ((b + G.length : Nat) : Int) := fun x hx => by
      rw [List.mem_map] at hx
      obtain ⟨y, hy, rfl⟩ := hx
      obtain ⟨y0, y1⟩ := hO y hy
      have := bec_in g3 y0 y1
      omega
    have i1 := cnt_map (f := i_tidied_b4 c (B, G, false, kn)) (bec B) (xs := c.Next) (fun i x s hx hs => by
      have hi := (List.getElem?_eq_some_iff.1 hx).1
      obtain ⟨x0, x1⟩ := hN x (List.mem_of_getElem? hx)
      unfold i_tidied_b4
      rw [idx_nat, hx, Option.bind_some, tidied1_eq hBm x0 x1 (by omega), Option.bind_some, app1 (by omega) rfl]
      rfl)
    have i2 := cnt_map (f := i_tidied_b6 c (B, G, false, kn)) (bec B) (xs := c.Outs) (fun i x s hx hs => by
      have hi := (List.getElem?_eq_some_iff.1 hx).1
      obtain ⟨x0, x1⟩ := hO x (List.mem_of_getElem? hx)
      unfold i_tidied_b6
      rw [idx_nat, hx, Option.bind_some, tidied1_eq hBm x0 x1 (by omega), Option.bind_some, app1 (by omega) rfl]
      rfl)
    have hNl : (c.Next.map (bec B)).length ≤ 6 := by rw [List.length_map]; omega
    have hOl : (c.Outs.map (bec B)).length ≤ 4 := by rw [List.length_map]; omega
    obtain ⟨M, n1, ⟨z, n2, n3⟩, n4, n5, n6⟩ := needed hc hb (B := B) (kn := kn) (G := G) (by omega) g4 rfl hN1 hO1 hNl hOl
    obtain ⟨B2, R2, H, t1, ⟨R0, t2, R1, t3, t4⟩, hR⟩ := second hc hb (G := G) (by omega) g4 rfl (N := c.Next.map (bec B)) (O := c.Outs.map (bec B)) n4 n6
    generalize hNd : c.Next.map (bec B) = N at *
    generalize hOd : c.Outs.map (bec B) = O at *
    have hHl := hR.hlen
    have hBl := hR.blen
    have hRl := hR.len
    have hcH : Head ⟨c.Inputs, c.Latches, N, G, O⟩ := ⟨h.1, h.2.1, h.2.2.1, h.2.2.2.1, by show (G.length : Int) ≤ 8000; omega⟩
    have hcS : sigs ⟨c.Inputs, c.Latches, N, G, O⟩ = ((b + G.length : Nat) : Int) := by
      show 1 + c.Inputs + c.Latches + (G.length : Int) = _
      unfold base at hb
      omega
    have hB2m : ∀ y ∈ B2, 0 ≤ y ∧ y < 1000000 := fun y hy => by have := hR.brng y hy; omega
    have hR2m : ∀ y ∈ R2, 0 ≤ y ∧ y < 1000000 := fun y hy => by have := hR.rng y hy; omega
    have x2 := ends_eq (c1 := ⟨c.Inputs, c.Latches, N, G, O⟩) (c2 := ⟨c.Inputs, c.Latches, [], H, []⟩) (B := B2) rfl rfl hB2m (by omega) (fun x hx => by have := hN1 x hx; omega) (fun x hx => by have := hO1 x hx; omega) (by dsimp only; omega) (by dsimp only; omega)
    have hmapN : N.map (bec B2) = N.map (bec2 R2) := List.map_congr_left fun x hx => by
      have := hN1 x hx
      exact bec_eq (hR.same _ (by omega) (by omega) (.inl (n5 x (List.mem_append_left _ hx))))
    have hmapO : O.map (bec B2) = O.map (bec2 R2) := List.map_congr_left fun x hx => by
      have := hO1 x hx
      exact bec_eq (hR.same _ (by omega) (by omega) (.inl (n5 x (List.mem_append_right _ hx))))
    refine ⟨⟨c.Inputs, c.Latches, N.map (bec B2), H, O.map (bec B2)⟩, ?_, ?_, by dsimp only; rw [List.length_map]; omega, by dsimp only; omega, by dsimp only; rw [List.length_map]; omega⟩
    · rw [s_start hc hb, Option.bind_some, aft_inr, e1, Option.bind_some, aft_inr]
      dsimp only
      rw [x1, Option.bind_some]
      dsimp only
      rw [n1, Option.bind_some, t1, Option.bind_some, aft_inr]
      dsimp only
      rw [x2]
      rfl
    · have hnb : i_newBuilder ⟨c.Inputs, c.Latches, [], [], []⟩ = some ⟨⟨c.Inputs, c.Latches, [], [], []⟩, false, []⟩ := by
        unfold i_newBuilder
        dsimp only
        rw [appL (by simp) rfl, appL (by simp) rfl]
        rfl
      have hrng : rng (b : Int) = some () := by unfold rng; rw [if_pos (by omega)]
      unfold i_tidied
      simp only [b3, hnb, hrng, Option.bind_some, Int.sub_zero, Int.toNat_natCast]
      rw [i_start (by omega), Option.bind_some, aft_inr, e2, Option.bind_some, aft_inr, i1, Option.bind_some, aft_inr, i2, Option.bind_some, aft_inr]
      have hmk : mkS 1 ((b + G.length : Nat) : Int) false = some (List.replicate (b + G.length) false) := by
        unfold mkS
        rw [if_pos (by omega), Int.toNat_natCast]
      dsimp only
      rw [hcH.i_eq, hcS, Option.bind_some, hmk, Option.bind_some, appL (by rw [List.length_nil]; omega) rfl, Option.bind_some, appL (by rw [List.nil_append]; omega) rfl, Option.bind_some, List.nil_append]
      have hfin : i_withoutUnused ⟨c.Inputs, c.Latches, N, G, O⟩ M = some ⟨c.Inputs, c.Latches, N.map (bec B2), H, O.map (bec B2)⟩ := by
        have j1 := cnt_map (f := i_withoutUnused_b4 ⟨c.Inputs, c.Latches, N, G, O⟩ (H, R2)) (bec2 R2) (xs := N) (fun i x s hx hs => by
          have hi := (List.getElem?_eq_some_iff.1 hx).1
          obtain ⟨x0, x1⟩ := hN1 x (List.mem_of_getElem? hx)
          unfold i_withoutUnused_b4
          dsimp only
          rw [idx_nat, hx, Option.bind_some, unused1_eq hR2m x0 (by omega) (by omega), Option.bind_some, app1 (by omega) rfl]
          rfl)
        have j2 := cnt_map (f := i_withoutUnused_b6 ⟨c.Inputs, c.Latches, N, G, O⟩ (H, R2)) (bec2 R2) (xs := O) (fun i x s hx hs => by
          have hi := (List.getElem?_eq_some_iff.1 hx).1
          obtain ⟨x0, x1⟩ := hO1 x (List.mem_of_getElem? hx)
          unfold i_withoutUnused_b6
          dsimp only
          rw [idx_nat, hx, Option.bind_some, unused1_eq hR2m x0 (by omega) (by omega), Option.bind_some, app1 (by omega) rfl]
          rfl)
        unfold i_withoutUnused
        rw [hcH.i_eq, hcS, Option.bind_some, t2, Option.bind_some]
        dsimp only
        rw [b3, hrng, Option.bind_some, Int.sub_zero, Int.toNat_natCast, t3, Option.bind_some, aft_inr, t4, Option.bind_some, aft_inr, j1, Option.bind_some, aft_inr, j2, Option.bind_some, aft_inr, hmapN, hmapO]
      rw [n3, hfin] at n2
      have hid : ∀ (o : Option Circuit), Option.bind o (fun x => some x) = o := fun o => by cases o <;> rfl
      simp only [hid]
      exact n2
theorem FnExactTidiedCircuit_law {p0 : Circuit} (ok0 : Circuit.ok p0) : l_FnExactTidiedCircuit p0 = some true :=
  FnExactTidiedCircuit_of ok0 fun _ => by
    obtain ⟨r, h1, h2, h3, h4, h5⟩ := TidiedCircuit_same p0
    have := ctL_bd (c := fun _ : Gate => 2) (N := 8000) (M := 2) (xs := r.Gates) h4 (fun _ _ => Nat.le_refl 2)
    exact ⟨r, h1, h2, by rw [ctL_one]; omega, by omega, by rw [ctL_one]; omega⟩
end Go.Proofs.Ytfmkhnlnomkcfaa
