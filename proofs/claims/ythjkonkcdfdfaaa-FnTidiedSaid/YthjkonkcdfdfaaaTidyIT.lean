/- Tidying: what the program computes is what the plain functions say. -/
import Derived.Test.YthjkonkcdfdfaaaTidyMT
set_option linter.unusedVariables false
set_option linter.unusedSimpArgs false
namespace Go.Proofs.Ythjkonkcdfdfaaa
open Go Go.Wk Go.Proofs

theorem gok_of {c : Circuit} (hc : circOk c = true) : GOk (base c) c.Gates := fun i g hg => by
  have h := (circOk_spec hc).2.1 i g hg
  unfold gateOk at h
  rw [Bool.and_eq_true] at h
  obtain ⟨a0, a1⟩ := inR_iff.1 h.1
  obtain ⟨b0, b1⟩ := inR_iff.1 h.2
  unfold base
  exact ⟨a0, a1, b0, b1⟩
theorem take_fold {α σ : Type} (f : σ → α → σ) (s : σ) {l : List α} {j : Nat} {x : α} (h : l[j]? = some x) : (l.take (j + 1)).foldl f s = f ((l.take j).foldl f s) x := by
  rw [List.take_add_one, h]
  simp only [Option.toList_some, List.foldl_append, List.foldl_cons, List.foldl_nil]
theorem marks_only : ∀ (xs : List Int) (M : List Bool) (v : Int), 0 ≤ v → (∀ x ∈ xs, 0 ≤ x ∧ x / 2 < M.length) → bAt (marks M xs) v = true → bAt M v = true ∨ ∃ x ∈ xs, x / 2 = v
  | [], _, _, _, _, h => .inl h
  | x :: xs, M, v, v0, hx, h => by
    have h1 := hx x (List.mem_cons_self ..)
    rcases marks_only xs (M.set (x / 2).toNat true) v v0 (fun y hy => by rw [List.length_set]; exact hx y (List.mem_cons_of_mem _ hy)) h with h | ⟨y, hy, e⟩
    · rw [bAt_set (by omega) v v0, Bool.or_eq_true, decide_eq_true_eq] at h
      rcases h with h | h
      · exact .inl h
      · exact .inr ⟨x, List.mem_cons_self .., by omega⟩
    · exact .inr ⟨y, List.mem_cons_of_mem _ hy, e⟩
section
variable {c : Circuit} (hc : circOk c = true) {b : Nat} (hb : base c = (b : Int))
include hc hb
theorem p1_walk : ∃ kn, cntM (i_tidied_b2 c ⟨⟨c.Inputs, c.Latches, [], [], []⟩, false, []⟩) c.Gates.length 0 (evens b, [], false, []) = some (.inr ((p1 b c.Gates).1, (p1 b c.Gates).2, false, kn)) := by
  obtain ⟨b1, b2, b3, b4⟩ := tidy_b hc hb
  have hg := gok_of hc
  rw [hb] at hg
  obtain ⟨s, h1, kn, h2, _⟩ := cnt_inv (f := i_tidied_b2 c ⟨⟨c.Inputs, c.Latches, [], [], []⟩, false, []⟩)
    (fun j s => ∃ kn, s = ((p1 b (c.Gates.take j)).1, (p1 b (c.Gates.take j)).2, false, kn) ∧ Known (b : Int) (p1 b (c.Gates.take j)).2 kn) c.Gates.length (s := (evens b, [], false, []))
    ⟨[], rfl, fun g => rfl⟩ (fun j s hj ⟨kn, e, hk⟩ => by
      subst e
      have hx : c.Gates[j]? = some c.Gates[j] := by simp [hj]
      have hp := p1_inv b2 (gok_take hg j)
      obtain ⟨a0, a1, c0, c1⟩ := hg j _ hx
      generalize c.Gates[j] = g at hx a0 a1 c0 c1
      have hst : p1 b (c.Gates.take (j + 1)) = p1s b (p1 b (c.Gates.take j)) g := take_fold _ _ hx
      rw [hst]
      obtain ⟨hl, hle, hr, hG, hN, hS, hD⟩ := hp
      have htl : (c.Gates.take j).length = j := by rw [List.length_take]; omega
      rw [htl] at hl hle
      unfold p1s
      generalize (p1 b (c.Gates.take j)).1 = B at *
      generalize (p1 b (c.Gates.take j)).2 = G at *
      have hBm : ∀ y ∈ B, 0 ≤ y ∧ y < 1000000 := fun y hy => by have := hr y hy; omega
      have yA := tidied1_eq hBm (x := g.A) a0 (by omega) (by omega)
      have yB := tidied1_eq hBm (x := g.B) c0 (by omega) (by omega)
      obtain ⟨u0, u1⟩ := bec_in hr (x := g.A) a0 (by omega)
      obtain ⟨v0, v1⟩ := bec_in hr (x := g.B) c0 (by omega)
      obtain ⟨hh, hs⟩ := grown_head hc hb (G := G) (by omega)
      have hbg : base (grown c G) = (b : Int) := hb
      obtain ⟨kn', j1, j2⟩ := jn_eq hh (f := false) (kn := kn) (by rw [hbg]; exact hk) u0 (by rw [hs]; exact u1) v0 (by rw [hs]; exact v1) (by show G.length < 8000; omega)
      rw [hbg] at j1 j2
      refine ⟨_, ?_, kn', rfl, j2⟩
      unfold i_tidied_b2
      rw [idx_nat, hx]
      simp only [Option.bind_some, yA, yB]
      rw [show (⟨⟨c.Inputs, c.Latches, [], G, []⟩, false, kn⟩ : builder) = ⟨grown c G, false, kn⟩ from rfl, j1, Option.bind_some, app1 (by omega) rfl]
      rfl)
  rw [List.take_length] at h2
  rw [h1, h2]
  exact ⟨kn, rfl⟩
/-- whatever is marked is marked for a cause that was seen -/
def JustM (b : Nat) (G : List Gate) (R : List Int) (M : List Bool) (j : Int) : Prop := ∀ i : Nat, i < G.length → bAt M ((b + i : Nat) : Int) = true → (∃ x ∈ R, x / 2 = ((b + i : Nat) : Int)) ∨ ∃ (i' : Nat) (g : Gate), G[i']? = some g ∧ i < i' ∧ j < i' ∧ bAt M ((b + i' : Nat) : Int) = true ∧ (g.A / 2 = ((b + i : Nat) : Int) ∨ g.B / 2 = ((b + i : Nat) : Int))
theorem needed_walk {B : List Int} {G : List Gate} {kn : List (Gate × Int)} (hG : G.length ≤ 8000) (hGO : GOk b G) {R : List Int} {n : Nat} (hn : n = b + G.length) (hR : ∀ x ∈ R, 0 ≤ x ∧ x < 2 * (n : Int)) :
    ∃ M0 M t, cntM (i_tidied_b8 R) R.length 0 (List.replicate n false) = some (.inr M0) ∧ whileM (i_tidied_b10 c (B, G, false, kn)) (2 ^ 64) (((G.length : Int) - 1), M0) = some (.inr (t, M)) ∧ M.length = n ∧ (∀ x ∈ R, bAt M (x / 2) = true) ∧ ClosedFrom b G M (-1) ∧ Just b G R M := by
  obtain ⟨b1, b2, b3, b4⟩ := tidy_b hc hb
  have hb' := hb
  unfold base at hb'
  have h := circHead_in (circOk_spec hc).1
  have hrep : (List.replicate n false).length = n := by simp
  have hin : ∀ x ∈ R, 0 ≤ x ∧ x / 2 < (List.replicate n false).length := fun x hx => by have := hR x hx; rw [hrep]; omega
  have m3 := cnt_marks (f := i_tidied_b8 R) (n := n) (by omega) hR (fun i x s hx => by
    unfold i_tidied_b8
    rw [idx_nat, hx, Option.bind_some]) hrep
  have hall := marks_all R (List.replicate n false) hin
  have hl2 : (marks (List.replicate n false) R).length = n := by rw [marks_len, hrep]
  have hju : JustM b G R (marks (List.replicate n false) R) ((G.length : Int) - 1) := fun i hi hm => by
    rcases marks_only R _ _ (by omega) hin hm with h | h
    · unfold bAt at h
      rw [List.getD_eq_getElem?_getD, List.getElem?_replicate] at h
      split at h <;> cases h
    · exact .inl h
  generalize marks (List.replicate n false) R = M0 at m3 hall hl2 hju
  obtain ⟨o, q, w1, w2, w3⟩ := while_sim (f := i_tidied_b10 c (B, G, false, kn)) (g := i_tidied_b10 c (B, G, false, kn)) (fun s t => s = t ∧ -1 ≤ s.1 ∧ s.1 < (G.length : Int) ∧ s.2.length = n ∧ (∀ x ∈ R, bAt s.2 (x / 2) = true) ∧ ClosedFrom b G s.2 s.1 ∧ JustM b G R s.2 s.1) (fun s => (s.1 + 1).toNat) (fun _ _ => False) (fun s t => s = t ∧ s.2.length = n ∧ (∀ x ∈ R, bAt s.2 (x / 2) = true) ∧ ClosedFrom b G s.2 (-1) ∧ JustM b G R s.2 (-1))
    (fun s t ⟨e, j0, j1, hl, hm, hcl, hj⟩ => by
      subst e
      obtain ⟨j, M⟩ := s
      dsimp only at j0 j1 hl hm hcl hj ⊢
      by_cases hj0 : 0 ≤ j
      · obtain ⟨k, rfl⟩ := ex_nat hj0
        have hx : G[k]? = some (G[k]'(by omega)) := List.getElem?_eq_getElem (by omega)
        generalize G[k]'(by omega) = g at hx
        obtain ⟨a0, a1, c0, c1⟩ := hGO k g hx
        have hidx := bAt_nn hl (v := (b : Int) + k) (by omega) (by omega)
        obtain ⟨⟨z1, p1⟩, p2⟩ := mark1 (M := M) hl (x := g.A) a0 (by omega) (by omega)
        have hl3 : (M.set (g.A / 2).toNat true).length = n := by rw [List.length_set, hl]
        obtain ⟨⟨z2, p3⟩, p4⟩ := mark1 (M := M.set (g.A / 2).toNat true) hl3 (x := g.B) c0 (by omega) (by omega)
        have hw : IntKind.i64.wrap ((b : Int) + k) = (b : Int) + k := wr' (by omega) (by omega)
        have hbk : ((b + k : Nat) : Int) = (b : Int) + k := by omega
        unfold i_tidied_b10
        dsimp only
        simp only [hj0, decide_true, cond_true, b3, hw, hidx, Option.bind_some, idx_nat, hx]
        have hcl' : ∀ M' : List Bool, (∀ v : Int, 0 ≤ v → bAt M v = true → bAt M' v = true) → (∀ v : Int, (b : Int) + k ≤ v → bAt M' v = bAt M v) → (bAt M' (b + k) = true → bAt M' (g.A / 2) = true ∧ bAt M' (g.B / 2) = true) → ClosedFrom b G M' ((k : Int) - 1) := fun M' mono same hk i x hxi hij hbt => by
          by_cases hik : i = k
          · subst hik
            rw [hx] at hxi; cases hxi
            exact hk hbt
          · have h1 := hcl i x hxi (by omega) (by rw [← same _ (by omega)]; exact hbt)
            obtain ⟨q0, _, q1, _⟩ := hGO i x hxi
            exact ⟨mono _ (by omega) h1.1, mono _ (by omega) h1.2⟩
        cases hbt : bAt M ((b : Int) + k) with
        | false =>
          simp only [cond_false, Option.bind_some]
          refine ⟨_, _, rfl, rfl, ⟨rfl, ?_, ?_, hl, hm, ?_, ?_⟩, ?_⟩
          · dsimp only; rw [wr' (by omega) (by omega)]; omega
          · dsimp only; rw [wr' (by omega) (by omega)]; omega
          · dsimp only; rw [wr' (by omega) (by omega)]
            exact hcl' M (fun _ _ h => h) (fun _ _ => rfl) (fun h => by rw [hbt] at h; cases h)
          · dsimp only; rw [wr' (by omega) (by omega)]
            intro i hi hmi
            rcases hj i hi hmi with h | ⟨i', g', k1, k2, k3, k4⟩
            · exact .inl h
            · exact .inr ⟨i', g', k1, k2, by omega, k4⟩
          · dsimp only; rw [wr' (by omega) (by omega)]; omega
        | true =>
          simp only [cond_true, p1, p2, p3, p4, Option.bind_some]
          have key : ∀ v : Int, 0 ≤ v → bAt ((M.set (g.A / 2).toNat true).set (g.B / 2).toNat true) v = (bAt M v || decide (v = ((g.A / 2).toNat : Int)) || decide (v = ((g.B / 2).toNat : Int))) := fun v v0 => by
            rw [bAt_set (by omega) v v0, bAt_set (by omega) v v0]
          refine ⟨_, _, rfl, rfl, ⟨rfl, ?_, ?_, by rw [List.length_set, hl3], fun x hx => ?_, ?_, ?_⟩, ?_⟩
          · dsimp only; rw [wr' (by omega) (by omega)]; omega
          · dsimp only; rw [wr' (by omega) (by omega)]; omega
          · have := hR x hx
            dsimp only
            rw [key _ (by omega), hm x hx]; rfl
          · dsimp only; rw [wr' (by omega) (by omega)]
            refine hcl' _ (fun v v0 h => by rw [key v v0, h]; rfl) (fun v hv => ?_) (fun _ => ⟨?_, ?_⟩)
            · rw [key v (by omega)]
              have n1 : ¬ v = ((g.A / 2).toNat : Int) := by omega
              have n2 : ¬ v = ((g.B / 2).toNat : Int) := by omega
              rw [decide_eq_false n1, decide_eq_false n2, Bool.or_false, Bool.or_false]
            · rw [key _ (by omega)]
              have : g.A / 2 = ((g.A / 2).toNat : Int) := by omega
              simp [← this]
            · rw [key _ (by omega)]
              have : g.B / 2 = ((g.B / 2).toNat : Int) := by omega
              simp [← this]
          · dsimp only; rw [wr' (by omega) (by omega)]
            have hmk : bAt ((M.set (g.A / 2).toNat true).set (g.B / 2).toNat true) ((b + k : Nat) : Int) = true := by
              rw [key _ (by omega), hbk, hbt]; rfl
            intro i hi hmi
            rw [key _ (by omega), Bool.or_eq_true, Bool.or_eq_true, decide_eq_true_eq, decide_eq_true_eq] at hmi
            rcases hmi with (hmi | hmi) | hmi
            · rcases hj i hi hmi with h | ⟨i', g', k1, k2, k3, k4, k5⟩
              · exact .inl h
              · exact .inr ⟨i', g', k1, k2, by omega, by rw [key _ (by omega), k4]; rfl, k5⟩
            · exact .inr ⟨k, g, hx, by omega, by omega, hmk, .inl (by omega)⟩
            · exact .inr ⟨k, g, hx, by omega, by omega, hmk, .inr (by omega)⟩
          · dsimp only; rw [wr' (by omega) (by omega)]; omega
      · unfold i_tidied_b10
        dsimp only
        simp only [hj0, decide_false, cond_false]
        exact ⟨_, _, rfl, rfl, rfl, hl, hm, by rw [show (-1 : Int) = j from by omega]; exact hcl, by rw [show (-1 : Int) = j from by omega]; exact hj⟩)
    (2 ^ 64) (2 ^ 64) ((G.length : Int) - 1, M0) ((G.length : Int) - 1, M0) (by dsimp only; omega) (by dsimp only; omega) ⟨rfl, by dsimp only; omega, by dsimp only; omega, hl2, hall, fun i g hg hlt => by
      have := (List.getElem?_eq_some_iff.1 hg).1
      dsimp only at hlt
      omega, hju⟩
  match o, q, w3 with
  | .inr s, .inr t, ⟨e, k1, k2, k3, k4⟩ =>
    refine ⟨M0, s.2, s.1, m3, w1, k1, k2, k3, fun i hi hm => ?_⟩
    rcases k4 i hi hm with h | ⟨i', g, j1, j2, _, j3⟩
    · exact .inl h
    · exact .inr ⟨i', g, j1, j2, j3⟩
end
/-! the second pass -/
section
variable {c : Circuit} (hc : circOk c = true) {b : Nat} (hb : base c = (b : Int)) {G : List Gate} (hG : G.length ≤ 8000) (hGO : GOk b G) {n : Nat} (hn : n = b + G.length) {N O : List Int} {M : List Bool} (hM : M.length = n) (hcl : ClosedFrom b G M (-1))
include hc hb hG hGO hn hM hcl
/-- how the numbers of both tellings stand to each other -/
structure Rn (b n : Nat) (M : List Bool) (j : Nat) (B R : List Int) (H : List Gate) : Prop where
  len : R.length = n
  blen : B.length = b + j
  rng : ∀ y ∈ R, 0 ≤ y ∧ y < 10000
  same : ∀ s : Int, 0 ≤ s → s < (b + j : Nat) → (bAt M s = true ∨ s < (b : Int)) → at0 B s = 2 * at0 R s
  hlen : H.length ≤ j
theorem second_i {j : Nat} (hj : j < G.length) {B R : List Int} {H : List Gate} (hR : Rn b n M j B R H) {g : Gate} (hx : G[j]? = some g) :
    ∃ R', i_withoutUnused_b2 ⟨c.Inputs, c.Latches, N, G, O⟩ M (j : Int) (H, R) = some (.inr (.inr ((p2s b M (B, H) g).2, R'))) ∧ Rn b n M (j + 1) (p2s b M (B, H) g).1 R' (p2s b M (B, H) g).2 := by
  obtain ⟨b1, b2, b3, b4⟩ := tidy_b hc hb
  have hb' := hb
  unfold base at hb'
  have h := circHead_in (circOk_spec hc).1
  obtain ⟨a0, a1, d0, d1⟩ := hGO j g hx
  have hHl := hR.hlen
  have hbl := hR.blen
  obtain ⟨hh, hs⟩ := grown_head hc hb (G := H) (by omega)
  have hw1 : IntKind.i64.wrap ((b : Int) + (j : Int)) = ((b + j : Nat) : Int) := by rw [wr' (by omega) (by omega)]; omega
  have hidx := bAt_nn hM (v := ((b + j : Nat) : Int)) (by omega) (by omega)
  have hBj : (B.length : Int) = ((b + j : Nat) : Int) := by omega
  unfold i_withoutUnused_b2 p2s
  dsimp only
  rw [show (⟨c.Inputs, c.Latches, [], H, []⟩ : Circuit) = grown c H from rfl, hh.i_eq, hs, hBj]
  simp only [Option.bind_some, b3, hw1, idx_nat, hx]
  rw [idx_nat] at hidx
  simp only [hidx, Option.bind_some]
  have hBl' : (B ++ [2 * ((b : Int) + H.length)]).length = b + (j + 1) := by rw [List.length_append, hbl]; rfl
  cases hbt : bAt M ((b + j : Nat) : Int) with
  | false =>
    simp only [cond_false, Option.bind_some, Bool.false_eq_true, if_false]
    refine ⟨_, rfl, hR.len, hBl', hR.rng, fun s s0 s1 hs' => ?_, by omega⟩
    rw [at0_app s0]
    by_cases hlt : s < (B.length : Int)
    · rw [if_pos hlt]; exact hR.same s s0 (by omega) hs'
    · have : s = ((b + j : Nat) : Int) := by omega
      rw [this, hbt] at hs'
      rcases hs' with hs' | hs'
      · cases hs'
      · omega
  | true =>
    have hRl := hR.len
    obtain ⟨x, hx', _⟩ := get_el (xs := R) (z := ((b + j : Nat) : Int)) (by omega) (by omega)
    have hset : setI R ((b + j : Nat) : Int) ((b : Int) + H.length) = some (R.set (b + j) ((b : Int) + H.length)) := by
      unfold setI
      rw [if_pos (by omega), Int.toNat_natCast]
    rw [idx_nat] at hx'
    have hR' : ∀ y ∈ R.set (b + j) ((b : Int) + H.length), 0 ≤ y ∧ y < 10000 := fun y hy => by
      rcases List.mem_or_eq_of_mem_set hy with hy | rfl
      · exact hR.rng y hy
      · omega
    have hRl' : (R.set (b + j) ((b : Int) + H.length)).length = n := by rw [List.length_set, hRl]
    have hsame : ∀ s : Int, 0 ≤ s → s < (b + (j + 1) : Nat) → (bAt M s = true ∨ s < (b : Int)) → at0 (B ++ [2 * ((b : Int) + H.length)]) s = 2 * at0 (R.set (b + j) ((b : Int) + H.length)) s := fun s s0 s1 hs' => by
      rw [at0_app s0, at0_set (by omega) s0]
      by_cases hlt : s < (B.length : Int)
      · rw [if_pos hlt, if_neg (by omega)]; exact hR.same s s0 (by omega) hs'
      · rw [if_neg hlt, if_pos (by omega), if_pos (by omega)]
    obtain ⟨mA, mB⟩ := hcl j g hx (by omega) (by rw [show (b : Int) + j = ((b + j : Nat) : Int) from by omega]; exact hbt)
    have fA := unused1_eq (R := R.set (b + j) ((b : Int) + H.length)) (fun y hy => by have := hR' y hy; omega) (x := g.A) a0 (by omega) (by omega)
    have fB := unused1_eq (R := R.set (b + j) ((b : Int) + H.length)) (fun y hy => by have := hR' y hy; omega) (x := g.B) d0 (by omega) (by omega)
    rw [← bec_eq (hsame _ (by omega) (by omega) (.inl mA)), bec_push a0 (by omega)] at fA
    rw [← bec_eq (hsame _ (by omega) (by omega) (.inl mB)), bec_push d0 (by omega)] at fB
    simp only [cond_true, hx', hset, fA, fB, Option.bind_some, if_true]
    rw [app1 (by omega) rfl]
    exact ⟨_, rfl, hRl', hBl', hR', hsame, by rw [List.length_append]; simp; omega⟩
theorem p2_walk : ∃ R0 R1 R, mkS 8 (n : Int) (0 : Int) = some R0 ∧ cntM i_withoutUnused_b0 b 0 R0 = some (.inr R1) ∧ cntM (i_withoutUnused_b2 ⟨c.Inputs, c.Latches, N, G, O⟩ M) G.length 0 ([], R1) = some (.inr ((p2 b M G).2, R)) ∧ Rn b n M G.length (p2 b M G).1 R (p2 b M G).2 := by
  obtain ⟨b1, b2, b3, b4⟩ := tidy_b hc hb
  have hmk : mkS 8 (n : Int) (0 : Int) = some (List.replicate n 0) := by
    unfold mkS
    rw [if_pos (by omega)]; simp
  obtain ⟨R1, i1, i2, i3, i4⟩ := cnt_inv (f := i_withoutUnused_b0) (fun j R => R.length = n ∧ (∀ y ∈ R, 0 ≤ y ∧ y < 10000) ∧ ∀ s : Int, 0 ≤ s → s < (j : Int) → at0 R s = s) b (s := List.replicate n 0) ⟨by simp, fun y hy => by have := List.eq_of_mem_replicate hy; omega, fun s s0 s1 => by omega⟩ (fun j R hj ⟨k1, k2, k3⟩ => by
    obtain ⟨x, hx, _⟩ := get_el (xs := R) (z := (j : Int)) (by omega) (by omega)
    have hset : setI R (j : Int) (j : Int) = some (R.set j (j : Int)) := by
      unfold setI
      rw [if_pos (by omega)]; simp
    unfold i_withoutUnused_b0
    rw [hx, Option.bind_some, hset]
    refine ⟨_, rfl, by rw [List.length_set, k1], fun y hy => ?_, fun s s0 s1 => ?_⟩
    · rcases List.mem_or_eq_of_mem_set hy with hy | rfl
      · exact k2 y hy
      · omega
    · rw [at0_set (by omega) s0]
      split
      · omega
      · exact k3 s s0 (by omega))
  have hev : ∀ s : Int, 0 ≤ s → s < (b : Int) → at0 (evens b) s = 2 * s := fun s s0 s1 => by
    obtain ⟨k, rfl⟩ := ex_nat s0
    exact at0_evens (by omega)
  obtain ⟨s, w1, R, w2, w3⟩ := cnt_inv (f := i_withoutUnused_b2 ⟨c.Inputs, c.Latches, N, G, O⟩ M) (fun j s => ∃ R, s = ((p2 b M (G.take j)).2, R) ∧ Rn b n M j (p2 b M (G.take j)).1 R (p2 b M (G.take j)).2) G.length (s := ([], R1))
    ⟨R1, rfl, i2, by show (evens b).length = _; rw [evens_len]; rfl, i3, fun s s0 s1 _ => by show at0 (evens b) s = _; rw [hev s s0 (by omega), i4 s s0 (by omega)], Nat.le_refl _⟩
    (fun j s hj ⟨R, e, hR⟩ => by
      subst e
      have hx : G[j]? = some G[j] := by simp [hj]
      obtain ⟨R', q1, q2⟩ := second_i hc hb hG hGO hn hM hcl (N := N) (O := O) hj hR hx
      have hst : p2 b M (G.take (j + 1)) = p2s b M (p2 b M (G.take j)) G[j] := take_fold _ _ hx
      rw [hst]
      exact ⟨_, q1, R', rfl, q2⟩)
  rw [List.take_length] at w2 w3
  rw [w2] at w1
  exact ⟨_, R1, R, hmk, i1, w1, w3⟩
end
/-- what tidying makes of a circuit -/
theorem tidied_eq {c : Circuit} (hc : circOk c = true) {b : Nat} (hb : base c = (b : Int)) {B : List Int} {G : List Gate} (hp : p1 b c.Gates = (B, G)) :
    ∃ M, M.length = b + G.length ∧ (∀ x ∈ c.Next.map (bec B) ++ c.Outs.map (bec B), bAt M (x / 2) = true) ∧ ClosedFrom b G M (-1) ∧ Just b G (c.Next.map (bec B) ++ c.Outs.map (bec B)) M ∧
      i_TidiedCircuit c = some ⟨c.Inputs, c.Latches, (c.Next.map (bec B)).map (bec (p2 b M G).1), (p2 b M G).2, (c.Outs.map (bec B)).map (bec (p2 b M G).1)⟩ := by
  have h := circHead_in (circOk_spec hc).1
  obtain ⟨_, _, hnx, hot⟩ := circOk_spec hc
  obtain ⟨b1, b2, b3, b4⟩ := tidy_b hc hb
  have hg := gok_of hc
  rw [hb] at hg
  obtain ⟨kn, e2⟩ := p1_walk hc hb
  have hP := p1_inv b2 hg
  rw [hp] at e2 hP
  obtain ⟨g2, g1, g3, g4, gN, _, _⟩ := hP
  dsimp only at e2 g1 g2 g3 g4 gN
  have hsg : sigs c = (b : Int) + c.Gates.length := by rw [← hb]; rfl
  have hBm : ∀ y ∈ B, 0 ≤ y ∧ y < 1000000 := fun y hy => by have := g3 y hy; omega
  rw [List.all_eq_true] at hnx hot
  have hN : ∀ x ∈ c.Next, 0 ≤ x ∧ x < 2 * (B.length : Int) := fun x hx => by have := inR_iff.1 (hnx x hx); omega
  have hO : ∀ x ∈ c.Outs, 0 ≤ x ∧ x < 2 * (B.length : Int) := fun x hx => by have := inR_iff.1 (hot x hx); omega
  have hN1 : ∀ x ∈ c.Next.map (bec B), 0 ≤ x ∧ x < 2 * ((b + G.length : Nat) : Int) := fun x hx => by
    rw [List.mem_map] at hx
    obtain ⟨y, hy, rfl⟩ := hx
    obtain ⟨y0, y1⟩ := hN y hy
    have := bec_in g3 y0 y1
    omega
  have hO1 : ∀ x ∈ c.Outs.map (bec B), 0 ≤ x ∧ x < 2 * ((b + G.length : Nat) : Int) := fun x hx => by
    rw [List.mem_map] at hx
    obtain ⟨y, hy, rfl⟩ := hx
    obtain ⟨y0, y1⟩ := hO y hy
    have := bec_in g3 y0 y1
    omega
  have i1 := cnt_map (f := i_tidied_b4 c (B, G, false, kn)) (bec B) (xs := c.Next) (fun i x s hx hs => by
    have hi := (List.getElem?_eq_some_iff.1 hx).1
    obtain ⟨x0, x1⟩ := hN x (List.mem_of_getElem? hx)
    unfold i_tidied_b4
    rw [idx_nat, hx, Option.bind_some, tidied1_eq hBm x0 x1 (by omega), Option.bind_some, app1 (by omega) rfl]
    rfl)
  have i2 := cnt_map (f := i_tidied_b6 c (B, G, false, kn)) (bec B) (xs := c.Outs) (fun i x s hx hs => by
    have hi := (List.getElem?_eq_some_iff.1 hx).1
    obtain ⟨x0, x1⟩ := hO x (List.mem_of_getElem? hx)
    unfold i_tidied_b6
    rw [idx_nat, hx, Option.bind_some, tidied1_eq hBm x0 x1 (by omega), Option.bind_some, app1 (by omega) rfl]
    rfl)
  have hNl : (c.Next.map (bec B)).length ≤ 6 := by rw [List.length_map]; omega
  have hOl : (c.Outs.map (bec B)).length ≤ 4 := by rw [List.length_map]; omega
  generalize c.Next.map (bec B) = N at *
  generalize c.Outs.map (bec B) = O at *
  have hNO : ∀ x ∈ N ++ O, 0 ≤ x ∧ x < 2 * ((b + G.length : Nat) : Int) := fun x hx => by
    rw [List.mem_append] at hx
    exact hx.elim (hN1 x) (hO1 x)
  obtain ⟨M0, M, t, m1, m2, n4, n5, n6, n7⟩ := needed_walk hc hb (B := B) (kn := kn) (G := G) (by omega) g4 rfl hNO
  obtain ⟨R0, R1, R2, t2, t3, t4, hR⟩ := p2_walk hc hb (G := G) (by omega) g4 rfl (N := N) (O := O) n4 n6
  refine ⟨M, n4, n5, n6, n7, ?_⟩
  have hHl := hR.hlen
  have hRl := hR.len
  generalize (p2 b M G).1 = B2 at *
  generalize (p2 b M G).2 = H at *
  have hcH : Head ⟨c.Inputs, c.Latches, N, G, O⟩ := ⟨h.1, h.2.1, h.2.2.1, h.2.2.2.1, by show (G.length : Int) ≤ 8000; omega⟩
  have hcS : sigs ⟨c.Inputs, c.Latches, N, G, O⟩ = ((b + G.length : Nat) : Int) := by
    show 1 + c.Inputs + c.Latches + (G.length : Int) = _
    unfold base at hb
    omega
  have hR2m : ∀ y ∈ R2, 0 ≤ y ∧ y < 1000000 := fun y hy => by have := hR.rng y hy; omega
  have hmapN : N.map (bec B2) = N.map (bec2 R2) := List.map_congr_left fun x hx => by
    have := hN1 x hx
    exact bec_eq (hR.same _ (by omega) (by omega) (.inl (n5 x (List.mem_append_left _ hx))))
  have hmapO : O.map (bec B2) = O.map (bec2 R2) := List.map_congr_left fun x hx => by
    have := hO1 x hx
    exact bec_eq (hR.same _ (by omega) (by omega) (.inl (n5 x (List.mem_append_right _ hx))))
  have hnb : i_newBuilder ⟨c.Inputs, c.Latches, [], [], []⟩ = some ⟨⟨c.Inputs, c.Latches, [], [], []⟩, false, []⟩ := by
    unfold i_newBuilder
    dsimp only
    rw [appL (by simp) rfl, appL (by simp) rfl]
    rfl
  have hrng : rng (b : Int) = some () := by unfold rng; rw [if_pos (by omega)]
  have hfin : i_withoutUnused ⟨c.Inputs, c.Latches, N, G, O⟩ M = some ⟨c.Inputs, c.Latches, N.map (bec B2), H, O.map (bec B2)⟩ := by
    have j1 := cnt_map (f := i_withoutUnused_b4 ⟨c.Inputs, c.Latches, N, G, O⟩ (H, R2)) (bec2 R2) (xs := N) (fun i x s hx hs => by
      have hi := (List.getElem?_eq_some_iff.1 hx).1
      obtain ⟨x0, x1⟩ := hN1 x (List.mem_of_getElem? hx)
      unfold i_withoutUnused_b4
      dsimp only
      rw [idx_nat, hx, Option.bind_some, unused1_eq hR2m x0 (by omega) (by omega), Option.bind_some, app1 (by omega) rfl]
      rfl)
    have j2 := cnt_map (f := i_withoutUnused_b6 ⟨c.Inputs, c.Latches, N, G, O⟩ (H, R2)) (bec2 R2) (xs := O) (fun i x s hx hs => by
      have hi := (List.getElem?_eq_some_iff.1 hx).1
      obtain ⟨x0, x1⟩ := hO1 x (List.mem_of_getElem? hx)
      unfold i_withoutUnused_b6
      dsimp only
      rw [idx_nat, hx, Option.bind_some, unused1_eq hR2m x0 (by omega) (by omega), Option.bind_some, app1 (by omega) rfl]
      rfl)
    unfold i_withoutUnused
    rw [hcH.i_eq, hcS, Option.bind_some, t2, Option.bind_some]
    dsimp only
    rw [b3, hrng, Option.bind_some, Int.sub_zero, Int.toNat_natCast, t3, Option.bind_some, aft_inr, t4, Option.bind_some, aft_inr, j1, Option.bind_some, aft_inr, j2, Option.bind_some, aft_inr, hmapN, hmapO]
  have hmk : mkS 1 ((b + G.length : Nat) : Int) false = some (List.replicate (b + G.length) false) := by
    unfold mkS
    rw [if_pos (by omega), Int.toNat_natCast]
  unfold i_TidiedCircuit
  rw [i_isCircuit_eq, hc]
  simp only [Option.bind_some, Bool.not_true, cond_false]
  unfold i_tidied
  simp only [b3, hnb, hrng, Option.bind_some, Int.sub_zero, Int.toNat_natCast]
  rw [i_start (by omega), Option.bind_some, aft_inr, e2, Option.bind_some, aft_inr, i1, Option.bind_some, aft_inr, i2, Option.bind_some, aft_inr]
  dsimp only
  rw [hcH.i_eq, hcS, Option.bind_some, hmk, Option.bind_some, appL (by rw [List.length_nil]; omega) rfl, Option.bind_some, appL (by rw [List.nil_append]; omega) rfl, Option.bind_some, List.nil_append, m1, Option.bind_some, aft_inr, wr' (by omega) (by omega), m2, Option.bind_some, aft_inr]
  dsimp only
  rw [hfin]
  rfl
end Go.Proofs.Ythjkonkcdfdfaaa
