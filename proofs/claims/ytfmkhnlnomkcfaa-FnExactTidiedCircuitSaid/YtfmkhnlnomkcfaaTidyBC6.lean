/- TidiedCircuit: both sides compute the same. -/
import Derived.Test.YtfmkhnlnomkcfaaTidyC6
set_option linter.unusedVariables false
set_option linter.unusedSimpArgs false
namespace Go.Proofs.Ytfmkhnlnomkcfaa
open Go Go.Wk Go.Proofs

theorem bAt_nn {M : List Bool} {n : Nat} (hM : M.length = n) {v : Int} (v0 : 0 ≤ v) (v1 : v < (n : Int)) : idx M v = some (bAt M v) := bAt_get v0 (by omega)
section
variable {c : Circuit} (hc : circOk c = true) {b : Nat} (hb : base c = (b : Int))
include hc hb
theorem tidy_b : b ≤ 11 ∧ 1 ≤ b ∧ IntKind.i64.wrap (IntKind.i64.wrap (1 + c.Inputs) + c.Latches) = (b : Int) ∧ (c.Gates.length : Int) ≤ 8000 := by
  have h := circHead_in (circOk_spec hc).1
  unfold base at hb
  refine ⟨by omega, by omega, ?_, h.2.2.2.2.1⟩
  rw [wr' (z := 1 + c.Inputs) (by omega) (by omega), wr' (by omega) (by omega)]; omega
theorem s_start : whileM (s_TidiedCircuit_b0 c) (2 ^ 64) ([], 0) = some (.inr (evens b, (b : Int))) := by
  obtain ⟨b1, b2, b3, b4⟩ := tidy_b hc hb
  have h := circHead_in (circOk_spec hc).1
  have hb' := hb
  unfold base at hb'
  have := while_skip (f := s_TidiedCircuit_b0 c) (fun i => (evens i, (i : Int))) b (2 ^ 64 - b) (fun i hi => by
    unfold s_TidiedCircuit_b0
    have hl : (i : Int) ≤ IntKind.i64.wrap (c.Inputs + c.Latches) := by rw [wr' (by omega) (by omega)]; omega
    dsimp only
    simp only [hl, decide_true, cond_true]
    rw [wr' (z := 2 * (i : Int)) (by omega) (by omega), app1 (by rw [evens_len]; omega) rfl, wr' (by omega) (by omega), evens_succ]
    rfl)
  rw [show b + (2 ^ 64 - b) = 2 ^ 64 from by omega] at this
  rw [show (([] : List Int), (0 : Int)) = (evens 0, ((0 : Nat) : Int)) from rfl, this]
  obtain ⟨k, hk⟩ : ∃ k, 2 ^ 64 - b = k + 1 := ⟨2 ^ 64 - b - 1, by omega⟩
  rw [hk]
  show Option.bind (s_TidiedCircuit_b0 c (evens b, (b : Int))) _ = _
  unfold s_TidiedCircuit_b0
  have hl : ¬ (b : Int) ≤ IntKind.i64.wrap (c.Inputs + c.Latches) := by rw [wr' (by omega) (by omega)]; omega
  dsimp only
  simp only [hl, decide_false, cond_false]
  rfl
omit hc hb in
theorem i_start {b : Nat} (b1 : b ≤ 100) : cntM i_tidied_b0 b 0 [] = some (.inr (evens b)) := by
  obtain ⟨s, h1, h2⟩ := cnt_inv (f := i_tidied_b0) (fun j s => s = evens j) b (s := []) rfl (fun j s hj hs => by
    subst hs
    unfold i_tidied_b0
    rw [wr' (z := 2 * (j : Int)) (by omega) (by omega), app1 (by rw [evens_len]; omega) rfl]
    exact ⟨_, rfl, (evens_succ j).symm⟩)
  rw [h1, h2]
/-- the circuit that grows -/
def grown (c : Circuit) (G : List Gate) : Circuit := ⟨c.Inputs, c.Latches, [], G, []⟩
theorem grown_head {G : List Gate} (hG : G.length ≤ 8000) : Head (grown c G) ∧ sigs (grown c G) = (b : Int) + G.length := by
  have h := circHead_in (circOk_spec hc).1
  refine ⟨⟨h.1, h.2.1, h.2.2.1, h.2.2.2.1, by show (G.length : Int) ≤ 8000; omega⟩, ?_⟩
  rw [← hb]; rfl
/-- the gates, joined one after another -/
theorem joined : ∃ B G kn, cntM (s_TidiedCircuit_b2 c) c.Gates.length 0 (evens b, c.Inputs, c.Latches, [], [], []) = some (.inr (B, c.Inputs, c.Latches, [], G, [])) ∧
    cntM (i_tidied_b2 c ⟨⟨c.Inputs, c.Latches, [], [], []⟩, false, []⟩) c.Gates.length 0 (evens b, [], false, []) = some (.inr (B, G, false, kn)) ∧
    G.length ≤ c.Gates.length ∧ B.length = b + c.Gates.length ∧ (∀ y ∈ B, 0 ≤ y ∧ y < 2 * ((b : Int) + G.length)) ∧ GOk b G := by
  obtain ⟨b1, b2, b3, b4⟩ := tidy_b hc hb
  obtain ⟨_, hgates, _, _⟩ := circOk_spec hc
  obtain ⟨s, t, h1, h2, B, G, kn, e1, e2, _, h3, h4, h5, h6⟩ := cnt_sim (f := s_TidiedCircuit_b2 c) (g := i_tidied_b2 c ⟨⟨c.Inputs, c.Latches, [], [], []⟩, false, []⟩)
    (fun j s t => ∃ B G kn, s = (B, c.Inputs, c.Latches, [], G, []) ∧ t = (B, G, false, kn) ∧ Known (b : Int) G kn ∧ G.length ≤ j ∧ B.length = b + j ∧ (∀ y ∈ B, 0 ≤ y ∧ y < 2 * ((b : Int) + G.length)) ∧ GOk b G) c.Gates.length
    (s := (evens b, c.Inputs, c.Latches, [], [], [])) (t := (evens b, [], false, []))
    ⟨evens b, [], [], rfl, rfl, fun g => rfl, by simp, by rw [evens_len]; rfl, fun y hy => by
      unfold evens at hy
      rw [List.mem_map] at hy
      obtain ⟨i, hi, rfl⟩ := hy
      rw [List.mem_range] at hi
      simp only [List.length_nil]; omega, fun i g hg => by simp at hg⟩
    (fun j s t hj ⟨B, G, kn, e1, e2, hk, hG, hB, hBr, hGO⟩ => by
      subst e1 e2
      have hx : c.Gates[j]? = some c.Gates[j] := by simp [hj]
      have hg := hgates j _ hx
      generalize c.Gates[j] = g at hx hg
      unfold gateOk at hg
      rw [Bool.and_eq_true] at hg
      obtain ⟨g1, g2⟩ := inR_iff.1 hg.1
      obtain ⟨g3, g4⟩ := inR_iff.1 hg.2
      have hb' := hb
      unfold base at hb'
      have hBm : ∀ y ∈ B, 0 ≤ y ∧ y < 1000000 := fun y hy => by have := hBr y hy; omega
      have xA := became_eq hBm (x := g.A) g1 (by omega) (by omega)
      have xB := became_eq hBm (x := g.B) g3 (by omega) (by omega)
      have yA := tidied1_eq hBm (x := g.A) g1 (by omega) (by omega)
      have yB := tidied1_eq hBm (x := g.B) g3 (by omega) (by omega)
      obtain ⟨a0, a1⟩ := bec_in hBr (x := g.A) g1 (by omega)
      obtain ⟨c0, c1⟩ := bec_in hBr (x := g.B) g3 (by omega)
      obtain ⟨hh, hs⟩ := grown_head hc hb (G := G) (by omega)
      have hkb : Known (base (grown c G)) (grown c G).Gates kn := by rw [show base (grown c G) = (b : Int) from hb]; exact hk
      obtain ⟨x, G', fl, kn', j1, j2, j3, j4, j5, j6, j7, j8⟩ := join_head hh (f := false) hkb a0 (by rw [hs]; exact a1) c0 (by rw [hs]; exact c1)
      rw [show base (grown c G) = (b : Int) from hb] at j5 j6
      have j3 : G.length ≤ G'.length := j3
      have j8 : G' = G ∨ G' = G ++ [⟨if bec B g.B < bec B g.A then bec B g.B else bec B g.A, if bec B g.A < bec B g.B then bec B g.B else bec B g.A⟩] := j8
      have hG' : G'.length ≤ j + 1 := by
        rcases j8 with rfl | rfl
        · omega
        · rw [List.length_append]; simp; omega
      obtain ⟨rfl, j9⟩ := j7.resolve_right fun hz => by
        have h3 : 8000 ≤ G.length := hz.2.2
        omega
      refine ⟨(B ++ [x], c.Inputs, c.Latches, [], G', []), (B ++ [x], G', false, kn'), ?_, ?_, B ++ [x], G', kn', rfl, rfl, j6, hG', by rw [List.length_append, hB]; rfl, ?_, ?_⟩
      · unfold s_TidiedCircuit_b2
        rw [idx_nat, hx]
        simp only [Option.bind_some, xA, xB]
        rw [show (⟨c.Inputs, c.Latches, [], G, []⟩ : Circuit) = grown c G from rfl, j9, Option.bind_some, app1 (by omega) rfl]
        rfl
      · unfold i_tidied_b2
        rw [idx_nat, hx]
        simp only [Option.bind_some, yA, yB]
        rw [show (⟨⟨c.Inputs, c.Latches, [], G, []⟩, false, kn⟩ : builder) = ⟨grown c G, false, kn⟩ from rfl, j1, Option.bind_some, app1 (by omega) rfl]
        rfl
      · intro y hy
        rw [List.mem_append, List.mem_singleton] at hy
        rcases hy with hy | rfl
        · have := hBr y hy; omega
        · omega
      · rcases j8 with rfl | rfl
        · exact hGO
        · refine hGO.add ?_ ?_ ?_ ?_ <;> (dsimp only; split <;> assumption))
  rw [e1] at h1
  rw [e2] at h2
  exact ⟨B, G, kn, h1, h2, h3, h4, h5, h6⟩
/-- what is needed -/
theorem needed {B : List Int} {G : List Gate} {kn : List (Gate × Int)} (hG : G.length ≤ 8000) (hGO : GOk b G) {N O : List Int} {n : Nat} (hn : n = b + G.length) (hN : ∀ x ∈ N, 0 ≤ x ∧ x < 2 * (n : Int)) (hO : ∀ x ∈ O, 0 ≤ x ∧ x < 2 * (n : Int)) (hNl : N.length ≤ 6) (hOl : O.length ≤ 4) :
    ∃ M, s_l31Needed ⟨c.Inputs, c.Latches, N, G, O⟩ = some M ∧
      (∃ z, Option.bind (cntM (i_tidied_b8 (N ++ O)) (N ++ O).length 0 (List.replicate n false)) (fun q14 => aft (fun r => some r) (fun s15 =>
            Option.bind (whileM (i_tidied_b10 c (B, G, false, kn)) (2 ^ 64) (((IntKind.i64.wrap ((G.length : Int) - 1)) : Int), (s15 : (List Bool)))) fun q17 =>
            aft (fun r => some r) (fun s18 => i_withoutUnused ⟨c.Inputs, c.Latches, N, G, O⟩ s18.2) q17) q14) = z ∧ z = i_withoutUnused ⟨c.Inputs, c.Latches, N, G, O⟩ M) ∧
      M.length = n ∧ (∀ x ∈ N ++ O, bAt M (x / 2) = true) ∧ ClosedFrom b G M (-1) := by
  obtain ⟨b1, b2, b3, b4⟩ := tidy_b hc hb
  have hb' := hb
  unfold base at hb'
  have h := circHead_in (circOk_spec hc).1
  have hcH : Head ⟨c.Inputs, c.Latches, N, G, O⟩ := ⟨h.1, h.2.1, h.2.2.1, h.2.2.2.1, by show (G.length : Int) ≤ 8000; omega⟩
  have hcS : sigs ⟨c.Inputs, c.Latches, N, G, O⟩ = (n : Int) := by show 1 + c.Inputs + c.Latches + (G.length : Int) = _; omega
  have hNO : ∀ x ∈ N ++ O, 0 ≤ x ∧ x < 2 * (n : Int) := fun x hx => by
    rw [List.mem_append] at hx
    exact hx.elim (hN x) (hO x)
  have hrep : (List.replicate n false).length = n := by simp
  have m1 := cnt_marks (f := s_l31Needed_b0 ⟨c.Inputs, c.Latches, N, G, O⟩) (n := n) (by omega) hN (fun i x s hx => by
    unfold s_l31Needed_b0
    dsimp only
    rw [idx_nat, hx, Option.bind_some]) hrep
  have hl1 : (marks (List.replicate n false) N).length = n := by rw [marks_len, hrep]
  have m2 := cnt_marks (f := s_l31Needed_b2 ⟨c.Inputs, c.Latches, N, G, O⟩) (n := n) (by omega) hO (fun i x s hx => by
    unfold s_l31Needed_b2
    dsimp only
    rw [idx_nat, hx, Option.bind_some]) hl1
  have m3 := cnt_marks (f := i_tidied_b8 (N ++ O)) (n := n) (by omega) hNO (fun i x s hx => by
    unfold i_tidied_b8
    rw [idx_nat, hx, Option.bind_some]) hrep
  have hmm : marks (marks (List.replicate n false) N) O = marks (List.replicate n false) (N ++ O) := by unfold marks; rw [List.foldl_append]
  rw [hmm] at m2
  have hall := marks_all (N ++ O) (List.replicate n false) (fun x hx => by have := hNO x hx; rw [hrep]; omega)
  have hl2 : (marks (List.replicate n false) (N ++ O)).length = n := by rw [marks_len, hrep]
  generalize marks (List.replicate n false) (N ++ O) = M0 at m2 m3 hall hl2
  obtain ⟨o, q, w1, w2, w3⟩ := while_sim (f := s_l31Needed_b4 ⟨c.Inputs, c.Latches, N, G, O⟩) (g := i_tidied_b10 c (B, G, false, kn)) (fun s t => s = t ∧ -1 ≤ s.1 ∧ s.1 < (G.length : Int) ∧ s.2.length = n ∧ (∀ x ∈ N ++ O, bAt s.2 (x / 2) = true) ∧ ClosedFrom b G s.2 s.1) (fun s => (s.1 + 1).toNat) (fun _ _ => False) (fun s t => s = t ∧ s.2.length = n ∧ (∀ x ∈ N ++ O, bAt s.2 (x / 2) = true) ∧ ClosedFrom b G s.2 (-1))
    (fun s t ⟨e, j0, j1, hl, hm, hcl⟩ => by
      subst e
      obtain ⟨j, M⟩ := s
      dsimp only at j0 j1 hl hm hcl ⊢
      by_cases hj : 0 ≤ j
      · obtain ⟨k, rfl⟩ := ex_nat hj
        have hx : G[k]? = some (G[k]'(by omega)) := List.getElem?_eq_getElem (by omega)
        generalize G[k]'(by omega) = g at hx
        obtain ⟨a0, a1, c0, c1⟩ := hGO k g hx
        have hidx := bAt_nn hl (v := (b : Int) + k) (by omega) (by omega)
        obtain ⟨⟨z1, p1⟩, p2⟩ := mark1 (M := M) hl (x := g.A) a0 (by omega) (by omega)
        have hl3 : (M.set (g.A / 2).toNat true).length = n := by rw [List.length_set, hl]
        obtain ⟨⟨z2, p3⟩, p4⟩ := mark1 (M := M.set (g.A / 2).toNat true) hl3 (x := g.B) c0 (by omega) (by omega)
        have hw : IntKind.i64.wrap ((b : Int) + k) = (b : Int) + k := wr' (by omega) (by omega)
        unfold s_l31Needed_b4 i_tidied_b10
        dsimp only
        simp only [hj, decide_true, cond_true, b3, hw, hidx, Option.bind_some, idx_nat, hx]
        have hcl' : ∀ M' : List Bool, (∀ v : Int, 0 ≤ v → bAt M v = true → bAt M' v = true) → (∀ v : Int, (b : Int) + k ≤ v → bAt M' v = bAt M v) → (bAt M' (b + k) = true → bAt M' (g.A / 2) = true ∧ bAt M' (g.B / 2) = true) → ClosedFrom b G M' ((k : Int) - 1) := fun M' mono same hk i x hxi hij hbt => by
          by_cases hik : i = k
          · subst hik
            rw [hx] at hxi; cases hxi
            exact hk hbt
          · have h1 := hcl i x hxi (by omega) (by rw [← same _ (by omega)]; exact hbt)
            obtain ⟨q0, _, q1, _⟩ := hGO i x hxi
            exact ⟨mono _ (by omega) h1.1, mono _ (by omega) h1.2⟩
        cases hbt : bAt M ((b : Int) + k) with
        | false =>
          simp only [cond_false, Option.bind_some]
          refine ⟨_, _, rfl, rfl, ⟨rfl, ?_, ?_, hl, hm, ?_⟩, ?_⟩
          · dsimp only; rw [wr' (by omega) (by omega)]; omega
          · dsimp only; rw [wr' (by omega) (by omega)]; omega
          · dsimp only; rw [wr' (by omega) (by omega)]
            exact hcl' M (fun _ _ h => h) (fun _ _ => rfl) (fun h => by rw [hbt] at h; cases h)
          · dsimp only; rw [wr' (by omega) (by omega)]; omega
        | true =>
          simp only [cond_true, p1, p2, p3, p4, Option.bind_some]
          have key : ∀ v : Int, 0 ≤ v → bAt ((M.set (g.A / 2).toNat true).set (g.B / 2).toNat true) v = (bAt M v || decide (v = ((g.A / 2).toNat : Int)) || decide (v = ((g.B / 2).toNat : Int))) := fun v v0 => by
            rw [bAt_set (by omega) v v0, bAt_set (by omega) v v0]
          refine ⟨_, _, rfl, rfl, ⟨rfl, ?_, ?_, by rw [List.length_set, hl3], fun x hx => ?_, ?_⟩, ?_⟩
          · dsimp only; rw [wr' (by omega) (by omega)]; omega
          · dsimp only; rw [wr' (by omega) (by omega)]; omega
          · have := hNO x hx
            dsimp only
            rw [key _ (by omega), hm x hx]; rfl
          · dsimp only; rw [wr' (by omega) (by omega)]
            refine hcl' _ (fun v v0 h => by rw [key v v0, h]; rfl) (fun v hv => ?_) (fun _ => ⟨?_, ?_⟩)
            · rw [key v (by omega)]
              have n1 : ¬ v = ((g.A / 2).toNat : Int) := by omega
              have n2 : ¬ v = ((g.B / 2).toNat : Int) := by omega
              rw [decide_eq_false n1, decide_eq_false n2, Bool.or_false, Bool.or_false]
            · rw [key _ (by omega)]
              have : g.A / 2 = ((g.A / 2).toNat : Int) := by omega
              simp [← this]
            · rw [key _ (by omega)]
              have : g.B / 2 = ((g.B / 2).toNat : Int) := by omega
              simp [← this]
          · dsimp only; rw [wr' (by omega) (by omega)]; omega
      · unfold s_l31Needed_b4 i_tidied_b10
        dsimp only
        simp only [hj, decide_false, cond_false]
        exact ⟨_, _, rfl, rfl, rfl, hl, hm, by rw [show (-1 : Int) = j from by omega]; exact hcl⟩)
    (2 ^ 64) (2 ^ 64) ((G.length : Int) - 1, M0) ((G.length : Int) - 1, M0) (by dsimp only; omega) (by dsimp only; omega) ⟨rfl, by dsimp only; omega, by dsimp only; omega, hl2, hall, fun i g hg hlt => by
      have := (List.getElem?_eq_some_iff.1 hg).1
      dsimp only at hlt
      omega⟩
  match o, q, w3 with
  | .inr s, .inr t, ⟨e, k1, k2, k3⟩ =>
    subst e
    refine ⟨s.2, ?_, ⟨_, rfl, ?_⟩, k1, k2, k3⟩
    · unfold s_l31Needed
      have hmk : mkS 1 (n : Int) false = some (List.replicate n false) := by
        unfold mkS
        rw [if_pos (by omega)]; simp
      rw [hcH.s_eq, hcS, Option.bind_some, hmk, Option.bind_some]
      dsimp only
      rw [m1, Option.bind_some, aft_inr, m2, Option.bind_some, aft_inr, wr' (by omega) (by omega), w1]
      rfl
    · rw [m3, Option.bind_some, aft_inr, wr' (by omega) (by omega), w2]
      rfl
end
end Go.Proofs.Ytfmkhnlnomkcfaa
