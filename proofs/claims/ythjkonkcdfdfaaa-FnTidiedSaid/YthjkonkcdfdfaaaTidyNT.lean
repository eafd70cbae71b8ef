/- Tidying as plain functions: a join, the first pass; what they keep. -/
import Derived.Test.YthjkonkcdfdfaaaTidyAT
set_option linter.unusedVariables false
set_option linter.unusedSimpArgs false
namespace Go.Proofs.Ythjkonkcdfdfaaa
open Go Go.Wk Go.Proofs

def mk2 (x y : Int) : Gate := ⟨if y < x then y else x, if x < y then y else x⟩
/-- a join -/
def jn (b : Int) (G : List Gate) (x y : Int) : List Gate × Int :=
  bif (x == 0 || y == 0 || x == turn y) then (G, 0) else bif (x == 1) then (G, y) else bif (y == 1 || x == y) then (G, x) else
  match findG G (mk2 x y) with
  | some i => (G, 2 * (b + (i : Int)))
  | none => (G ++ [mk2 x y], 2 * (b + (G.length : Int)))
theorem jn_cases (b : Int) (G : List Gate) (x y : Int) :
    (∃ z, jn b G x y = (G, z) ∧ ((z = 0 ∧ (x = 0 ∨ y = 0 ∨ x = turn y)) ∨ (x = 1 ∧ z = y) ∨ ((y = 1 ∨ x = y) ∧ z = x) ∨ ∃ (i : Nat) (g : Gate), G[i]? = some g ∧ nrm g = mk2 x y ∧ z = 2 * (b + (i : Int)))) ∨
    (jn b G x y = (G ++ [mk2 x y], 2 * (b + (G.length : Int))) ∧ x ≠ 0 ∧ y ≠ 0 ∧ x ≠ turn y ∧ x ≠ 1 ∧ y ≠ 1 ∧ x ≠ y ∧ ∀ (i : Nat) g, G[i]? = some g → nrm g ≠ mk2 x y) := by
  unfold jn
  cases e1 : (x == 0 || y == 0 || x == turn y) with
  | true =>
    simp only [Bool.or_eq_true, beq_iff_eq, or_assoc] at e1
    exact .inl ⟨0, rfl, .inl ⟨rfl, e1⟩⟩
  | false =>
    cases e2 : (x == 1) with
    | true =>
      rw [beq_iff_eq] at e2
      exact .inl ⟨y, rfl, .inr (.inl ⟨e2, rfl⟩)⟩
    | false =>
      cases e3 : (y == 1 || x == y) with
      | true =>
        simp only [Bool.or_eq_true, beq_iff_eq] at e3
        exact .inl ⟨x, rfl, .inr (.inr (.inl ⟨e3, rfl⟩))⟩
      | false =>
        simp only [Bool.or_eq_false_iff, beq_eq_false_iff_ne] at e1 e2 e3
        simp only [cond_false]
        cases hf : findG G (mk2 x y) with
        | some i =>
          unfold findG at hf
          rw [List.findIdx?_eq_some_iff_getElem] at hf
          obtain ⟨hi, hp, _⟩ := hf
          rw [decide_eq_true_eq] at hp
          exact .inl ⟨_, rfl, .inr (.inr (.inr ⟨i, G[i], by simp [hi], hp, rfl⟩))⟩
        | none =>
          unfold findG at hf
          rw [List.findIdx?_eq_none_iff] at hf
          refine .inr ⟨rfl, e1.1.1, e1.1.2, e1.2, e2, e3.1, e3.2, fun i g hg h => ?_⟩
          have := hf g (List.mem_of_getElem? hg)
          rw [decide_eq_false_iff_not] at this
          exact this h
/-- the other side's join is this one -/
theorem jn_eq {c : Circuit} (hh : Head c) {f : Bool} {kn : List (Gate × Int)} (hk : Known (base c) c.Gates kn) {a b : Int} (a0 : 0 ≤ a) (a1 : a < 2 * sigs c) (b0 : 0 ≤ b) (b1 : b < 2 * sigs c) (hl : c.Gates.length < 8000) :
    ∃ kn', i_builder_join ⟨c, f, kn⟩ a b = some ((jn (base c) c.Gates a b).2, (jn (base c) c.Gates a b).1, f, kn') ∧ Known (base c) (jn (base c) c.Gates a b).1 kn' := by
  have hb := hh
  unfold Head at hb
  have hs := hh.sig
  have hsg : sigs c = base c + c.Gates.length := rfl
  unfold i_builder_join jn
  simp only [orE, Option.bind_some, i_turn b0 (by omega : b < 1000000)]
  cases e1 : (a == 0 || b == 0 || a == turn b) with
  | true => exact ⟨kn, rfl, hk⟩
  | false =>
    cases e2 : (a == 1) with
    | true => exact ⟨kn, rfl, hk⟩
    | false =>
      cases e3 : (b == 1 || a == b) with
      | true => exact ⟨kn, rfl, hk⟩
      | false =>
        simp only [cond_false]
        have hg : kwGate (mk2 a b) = true := nrm_in (g := ⟨a, b⟩) a0 (by show a < _; omega) b0 (by show b < _; omega)
        have hn : nrm (mk2 a b) = mk2 a b := nrm_nrm ⟨a, b⟩
        rw [show (⟨if b < a then b else a, if a < b then b else a⟩ : Gate) = mk2 a b from rfl]
        unfold mget
        rw [if_pos hg, hk]
        cases hf : findG c.Gates (mk2 a b) with
        | some i => exact ⟨kn, rfl, hk⟩
        | none =>
          simp only [Option.map_none, Option.bind_some, aft_inr, cond_false]
          have hfull : ¬ 8000 ≤ (c.Gates.length : Int) := by omega
          simp only [hfull, decide_false, cond_false, hh.i_eq, Option.bind_some]
          rw [app1 (by omega) rfl, Option.bind_some, wr' (z := 2 * sigs c) (by omega) (by omega)]
          obtain ⟨kn', k1, k2⟩ := learn_eq (k := ⟨withG c (c.Gates ++ [mk2 a b]), f, kn⟩) (base := base c) (G := c.Gates) hk (g := mk2 a b) (by rw [hn]; exact hg) (x := 2 * sigs c) (by rw [hsg])
          rw [show (⟨⟨c.Inputs, c.Latches, c.Next, c.Gates ++ [mk2 a b], c.Outs⟩, f, kn⟩ : builder) = ⟨withG c (c.Gates ++ [mk2 a b]), f, kn⟩ from rfl, k1]
          exact ⟨kn', rfl, k2⟩
/-! depths -/
def dep (D : List Int) (x : Int) : Int := D.getD (x / 2).toNat 0
def mx2 (a b : Int) : Int := if a < b then b else a
def dG (D : List Int) : List Gate → List Int
  | [] => D
  | g :: G => dG (D ++ [1 + mx2 (dep D g.A) (dep D g.B)]) G
theorem dG_append : ∀ (G H : List Gate) (D : List Int), dG D (G ++ H) = dG (dG D G) H
  | [], _, _ => rfl
  | g :: G, H, D => dG_append G H _
theorem dG_len : ∀ (G : List Gate) (D : List Int), (dG D G).length = D.length + G.length
  | [], _ => rfl
  | g :: G, D => by
    show (dG (D ++ [1 + mx2 (dep D g.A) (dep D g.B)]) G).length = _
    rw [dG_len G, List.length_append, List.length_cons, List.length_cons, List.length_nil]; omega
theorem dG_ext : ∀ (G : List Gate) (D : List Int), ∃ W, dG D G = D ++ W
  | [], D => ⟨[], by simp [dG]⟩
  | g :: G, D => by
    obtain ⟨W, h⟩ := dG_ext G (D ++ [1 + mx2 (dep D g.A) (dep D g.B)])
    exact ⟨[1 + mx2 (dep D g.A) (dep D g.B)] ++ W, by show dG _ G = _; rw [h, List.append_assoc]⟩
theorem dep_app {D W : List Int} {x : Int} (x0 : 0 ≤ x) (x1 : x < 2 * (D.length : Int)) : dep (D ++ W) x = dep D x := by
  unfold dep
  rw [List.getD_eq_getElem?_getD, List.getD_eq_getElem?_getD, List.getElem?_append_left (by omega)]
theorem dep_dG {D : List Int} (G : List Gate) {x : Int} (x0 : 0 ≤ x) (x1 : x < 2 * (D.length : Int)) : dep (dG D G) x = dep D x := by
  obtain ⟨W, h⟩ := dG_ext G D
  rw [h, dep_app x0 x1]
theorem dep_last {D : List Int} {d x : Int} (hx : x / 2 = (D.length : Int)) : dep (D ++ [d]) x = d := by
  unfold dep
  rw [hx, Int.toNat_natCast, List.getD_eq_getElem?_getD, List.getElem?_append_right (Nat.le_refl _), Nat.sub_self]; rfl
theorem d_gate {D : List Int} {G : List Gate} (hG : ∀ (i : Nat) g, G[i]? = some g → 0 ≤ g.A ∧ g.A < 2 * ((D.length : Int) + i) ∧ 0 ≤ g.B ∧ g.B < 2 * ((D.length : Int) + i)) {i : Nat} {g : Gate} (hi : G[i]? = some g) {x : Int} (hx : x / 2 = (D.length : Int) + i) :
    dep (dG D G) x = 1 + mx2 (dep (dG D G) g.A) (dep (dG D G) g.B) := by
  obtain ⟨a0, a1, b0, b1⟩ := hG i g hi
  have hlt := (List.getElem?_eq_some_iff.1 hi).1
  have hsp : G = G.take i ++ g :: G.drop (i + 1) := by
    have := List.take_append_drop i G
    rw [List.drop_eq_getElem_cons hlt, (List.getElem?_eq_some_iff.1 hi).2] at this
    exact this.symm
  have hlen : (dG D (G.take i)).length = D.length + i := by rw [dG_len, List.length_take]; omega
  have e : dG D G = dG (dG D (G.take i) ++ [1 + mx2 (dep (dG D (G.take i)) g.A) (dep (dG D (G.take i)) g.B)]) (G.drop (i + 1)) := by
    conv => lhs; rw [hsp]
    rw [dG_append]
    rfl
  generalize dG D (G.take i) = U at hlen e
  have l1 : ((U ++ [1 + mx2 (dep U g.A) (dep U g.B)]).length : Int) = (D.length : Int) + i + 1 := by rw [List.length_append, hlen]; simp
  rw [e, dep_dG _ (by omega) (by omega), dep_dG _ a0 (by omega), dep_dG _ b0 (by omega), dep_app a0 (by omega), dep_app b0 (by omega)]
  exact dep_last (by omega)
theorem mx2_comm (a b : Int) : mx2 a b = mx2 b a := by unfold mx2; split <;> split <;> omega
theorem nrm_dep {D : List Int} {g h : Gate} (e : nrm g = nrm h) : mx2 (dep D g.A) (dep D g.B) = mx2 (dep D h.A) (dep D h.B) := by
  have key : ∀ g : Gate, mx2 (dep D (nrm g).A) (dep D (nrm g).B) = mx2 (dep D g.A) (dep D g.B) := fun g => by
    unfold nrm
    dsimp only
    by_cases h1 : g.B < g.A
    · have h2 : ¬ g.A < g.B := by omega
      rw [if_pos h1, if_neg h2, mx2_comm]
    · rw [if_neg h1]
      by_cases h2 : g.A < g.B
      · rw [if_pos h2]
      · rw [if_neg h2, show g.B = g.A from by omega]
  rw [← key g, ← key h, e]
theorem dG_nn : ∀ (G : List Gate) (D : List Int), (∀ x ∈ D, 0 ≤ x) → ∀ x ∈ dG D G, 0 ≤ x
  | [], _, h => h
  | g :: G, D, h => dG_nn G _ fun x hx => by
    have hd : ∀ y : Int, 0 ≤ dep D y := fun y => by
      unfold dep
      rw [List.getD_eq_getElem?_getD]
      cases e : D[(y / 2).toNat]? with
      | none => exact Int.le_refl 0
      | some z => exact h z (List.mem_of_getElem? e)
    rcases List.mem_append.1 hx with hx | hx
    · exact h x hx
    · have := List.mem_singleton.1 hx
      have h1 := hd g.A
      have h2 := hd g.B
      subst this
      unfold mx2
      split <;> omega
theorem dep_nn {D : List Int} (h : ∀ x ∈ D, 0 ≤ x) (y : Int) : 0 ≤ dep D y := by
  unfold dep
  rw [List.getD_eq_getElem?_getD]
  cases e : D[(y / 2).toNat]? with
  | none => exact Int.le_refl 0
  | some z => exact h z (List.mem_of_getElem? e)
/-- gates in their order, none of which is plain, no two alike -/
def Neat (G : List Gate) : Prop := (∀ (i : Nat) g, G[i]? = some g → 2 ≤ g.A ∧ g.A < g.B ∧ g.A / 2 ≠ g.B / 2) ∧ ∀ (i k : Nat) g h, G[i]? = some g → G[k]? = some h → i < k → g ≠ h
theorem push_get {α : Type} {G : List α} {g x : α} {i : Nat} (h : (G ++ [g])[i]? = some x) : G[i]? = some x ∨ (i = G.length ∧ x = g) := by
  rw [List.getElem?_append] at h
  split at h
  · exact .inl h
  · rename_i hl
    have : i - G.length = 0 := by
      rcases Nat.eq_zero_or_pos (i - G.length) with e | e
      · exact e
      · rw [List.getElem?_eq_none (by simp; omega)] at h; cases h
    rw [this] at h
    cases h
    exact .inr ⟨by omega, rfl⟩
theorem Neat.push {G : List Gate} (h : Neat G) {g : Gate} (h1 : 2 ≤ g.A ∧ g.A < g.B ∧ g.A / 2 ≠ g.B / 2) (h2 : ∀ (i : Nat) x, G[i]? = some x → x ≠ g) : Neat (G ++ [g]) := by
  refine ⟨fun i x hx => ?_, fun i k x y hx hy hik => ?_⟩
  · rcases push_get hx with hx | ⟨_, rfl⟩
    · exact h.1 i x hx
    · exact h1
  · rcases push_get hy with hy | ⟨e, rfl⟩
    · rcases push_get hx with hx | ⟨e', _⟩
      · exact h.2 i k x y hx hy hik
      · have := (List.getElem?_eq_some_iff.1 hy).1
        omega
    · rcases push_get hx with hx | ⟨e', _⟩
      · exact h2 i x hx
      · omega
theorem nrm_neat {g : Gate} (h : g.A < g.B) : nrm g = g := by
  unfold nrm
  rw [if_neg (by omega), if_pos h]
/-! folds -/
theorem fold_inv {α σ : Type} {f : σ → α → σ} (I : List α → σ → Prop) {s : σ} (h0 : I [] s) (gs : List α) (h : ∀ (j : Nat) x, gs[j]? = some x → ∀ s, I (gs.take j) s → I (gs.take j ++ [x]) (f s x)) : I gs (gs.foldl f s) := by
  have key : ∀ n, n ≤ gs.length → I (gs.take n) ((gs.take n).foldl f s) := by
    intro n
    induction n with
    | zero => intro _; exact h0
    | succ n ih =>
      intro hn
      have hx : gs[n]? = some (gs[n]'(by omega)) := List.getElem?_eq_getElem (by omega)
      have := h n _ hx _ (ih (by omega))
      rw [List.take_add_one, hx]
      simp only [Option.toList_some, List.foldl_append, List.foldl_cons, List.foldl_nil]
      exact this
  have := key gs.length (Nat.le_refl _)
  rwa [List.take_length] at this
theorem gok_take {b : Int} {G : List Gate} (h : GOk b G) (j : Nat) : GOk b (G.take j) := fun i g hg => by
  rw [List.getElem?_take] at hg
  split at hg
  · exact h i g hg
  · cases hg
/-! the first pass -/
def p1s (b : Nat) (st : List Int × List Gate) (g : Gate) : List Int × List Gate := (st.1 ++ [(jn b st.2 (bec st.1 g.A) (bec st.1 g.B)).2], (jn b st.2 (bec st.1 g.A) (bec st.1 g.B)).1)
def p1 (b : Nat) (gs : List Gate) : List Int × List Gate := gs.foldl (p1s b) (evens b, [])
structure P1 (b : Nat) (gs : List Gate) (st : List Int × List Gate) : Prop where
  len : st.1.length = b + gs.length
  le : st.2.length ≤ gs.length
  rng : ∀ y ∈ st.1, 0 ≤ y ∧ y < 2 * ((b : Int) + st.2.length)
  gok : GOk b st.2
  neat : Neat st.2
  sem : ∀ V : List Bool, V.length = b → V[0]? = some false → ∀ s : Nat, s < st.1.length → lit (evG V st.2) (at0 st.1 s) = (evG V gs).getD s false
  dp : ∀ s : Nat, s < st.1.length → dep (dG (List.replicate b 0) st.2) (at0 st.1 s) ≤ (dG (List.replicate b 0) gs).getD s 0
theorem at0_evens {n s : Nat} (h : s < n) : at0 (evens n) s = 2 * (s : Int) := by
  unfold at0
  rw [List.getD_eq_getElem?_getD, Int.toNat_natCast, evens_get h]; rfl
theorem evens_in {n : Nat} {y : Int} (hy : y ∈ evens n) : 0 ≤ y ∧ y < 2 * (n : Int) := by
  unfold evens at hy
  rw [List.mem_map] at hy
  obtain ⟨i, hi, rfl⟩ := hy
  rw [List.mem_range] at hi
  omega
theorem lit_even {V : List Bool} (s : Nat) : lit V (2 * (s : Int)) = V.getD s false := by
  unfold lit
  rw [show (2 * (s : Int)) / 2 = (s : Int) from by omega, Int.toNat_natCast, decide_eq_false (by omega)]
  cases V.getD s false <;> rfl
theorem p1_zero (b : Nat) : P1 b [] (evens b, []) := by
  refine ⟨by rw [evens_len]; rfl, Nat.le_refl _, fun y hy => ?_, fun i g hg => by simp at hg, ⟨fun i g hg => by simp at hg, fun i k g h hg => by simp at hg⟩, fun V hV hz s hs => ?_, fun s hs => ?_⟩
  · have := evens_in hy
    simp only [List.length_nil]; omega
  · dsimp only at hs ⊢
    rw [evens_len] at hs
    rw [at0_evens hs]
    exact lit_even s
  · dsimp only at hs ⊢
    rw [evens_len] at hs
    rw [at0_evens hs]
    show dep (List.replicate b 0) _ ≤ (List.replicate b (0 : Int)).getD s 0
    unfold dep
    rw [show (2 * (s : Int)) / 2 = (s : Int) from by omega, Int.toNat_natCast]
    exact Int.le_refl _
/-- a join, once more: what the new literal says and how deep it lies -/
theorem jn_facts {b : Nat} (b1 : 1 ≤ b) {G : List Gate} (hG : GOk b G) (hN : Neat G) {x y : Int} (x0 : 0 ≤ x) (x1 : x < 2 * ((b : Int) + G.length)) (y0 : 0 ≤ y) (y1 : y < 2 * ((b : Int) + G.length)) {G' : List Gate} {z : Int} (hj : jn b G x y = (G', z)) :
    (∃ W, G' = G ++ W) ∧ G.length ≤ G'.length ∧ G'.length ≤ G.length + 1 ∧ GOk b G' ∧ Neat G' ∧ 0 ≤ z ∧ z < 2 * ((b : Int) + G'.length) ∧
    (∀ V : List Bool, V.length = b → V[0]? = some false → lit (evG V G') z = (lit (evG V G) x && lit (evG V G) y)) ∧
    dep (dG (List.replicate b 0) G') z ≤ 1 + mx2 (dep (dG (List.replicate b 0) G) x) (dep (dG (List.replicate b 0) G) y) := by
  have hnn := dG_nn G (List.replicate b 0) (fun x hx => by rw [List.eq_of_mem_replicate hx]; exact Int.le_refl 0)
  have dx := dep_nn hnn x
  have dy := dep_nn hnn y
  have hmx : dep (dG (List.replicate b 0) G) x ≤ mx2 (dep (dG (List.replicate b 0) G) x) (dep (dG (List.replicate b 0) G) y) ∧ dep (dG (List.replicate b 0) G) y ≤ mx2 (dep (dG (List.replicate b 0) G) x) (dep (dG (List.replicate b 0) G) y) := by
    unfold mx2
    split <;> omega
  have hlD : (List.replicate b (0 : Int)).length = b := List.length_replicate
  have hd0 : dep (dG (List.replicate b 0) G) 0 = 0 := by
    rw [dep_dG _ (by omega) (by rw [hlD]; omega)]
    unfold dep
    rw [show ((0 : Int) / 2).toNat = 0 from rfl, List.getD_eq_getElem?_getD, List.getElem?_replicate, if_pos (by omega)]; rfl
  have hzero : ∀ V : List Bool, V.length = b → V[0]? = some false → lit (evG V G) 0 = false ∧ lit (evG V G) 1 = true := fun V hV hz => by
    have := lit_zero (V := evG V G) (by
      obtain ⟨W, hW⟩ := evG_ext G V
      have hlt := (List.getElem?_eq_some_iff.1 hz).1
      rw [hW, List.getElem?_append_left hlt, hz])
    exact this
  rcases jn_cases b G x y with ⟨z', h, hc⟩ | ⟨h, n1, n2, n3, n4, n5, n6, n7⟩
  · rw [h] at hj
    cases hj
    refine ⟨⟨[], by simp⟩, Nat.le_refl _, Nat.le_succ _, hG, hN, ?_⟩
    rcases hc with ⟨rfl, hc⟩ | ⟨rfl, rfl⟩ | ⟨hc, rfl⟩ | ⟨i, g, hi, hn, rfl⟩
    · refine ⟨Int.le_refl 0, by omega, fun V hV hz => ?_, by omega⟩
      obtain ⟨z0, _⟩ := hzero V hV hz
      rw [z0]
      rcases hc with rfl | rfl | rfl
      · rw [z0]; rfl
      · rw [z0, Bool.and_false]
      · rw [lit_turn y0]
        cases lit (evG V G) y <;> rfl
    · refine ⟨y0, y1, fun V hV hz => ?_, by omega⟩
      rw [(hzero V hV hz).2]; rfl
    · refine ⟨x0, x1, fun V hV hz => ?_, by omega⟩
      rcases hc with rfl | rfl
      · rw [(hzero V hV hz).2, Bool.and_true]
      · rw [Bool.and_self]
    · have hi' := (List.getElem?_eq_some_iff.1 hi).1
      have hn' : nrm g = nrm ⟨x, y⟩ := hn
      refine ⟨by omega, by omega, fun V hV hz => ?_, ?_⟩
      · rw [← hV, ev_gate (fun i g h => by rw [hV]; exact hG i g h) hi]
        exact nrm_lit (h := ⟨x, y⟩) hn'
      · rw [d_gate (fun i g h => by rw [hlD]; exact hG i g h) hi (by rw [hlD]; omega), nrm_dep (h := ⟨x, y⟩) hn']
        exact Int.le_refl _
  · rw [h] at hj
    cases hj
    have hlen : (G ++ [mk2 x y]).length = G.length + 1 := by simp
    have hmk : 2 ≤ (mk2 x y).A ∧ (mk2 x y).A < (mk2 x y).B ∧ (mk2 x y).A / 2 ≠ (mk2 x y).B / 2 := by
      unfold turn at n3
      unfold mk2
      dsimp only
      split at n3 <;> split <;> split <;> omega
    have hnr : nrm (⟨x, y⟩ : Gate) = nrm (mk2 x y) := (nrm_nrm ⟨x, y⟩).symm
    refine ⟨⟨_, rfl⟩, by omega, by omega, ?_, ?_, by omega, by omega, fun V hV hz => ?_, ?_⟩
    · refine hG.add ?_ ?_ ?_ ?_ <;> (unfold mk2; dsimp only; split <;> omega)
    · refine hN.push hmk fun i g hg e => n7 i g hg ?_
      rw [nrm_neat (hN.1 i g hg).2.1, e]
    · rw [evG_append]
      have hl' := evG_len G V
      have e2 := nrm_lit (V := evG V G) hnr
      dsimp only at e2
      rw [e2]
      generalize evG V G = U at hl' ⊢
      show lit (U ++ [_]) _ = _
      unfold lit
      rw [show (2 * ((b : Int) + (G.length : Int))) / 2 = ((U.length : Nat) : Int) from by omega, show decide ((2 * ((b : Int) + (G.length : Int))) % 2 = 1) = false from decide_eq_false (by omega), Int.toNat_natCast, List.getD_eq_getElem?_getD, List.getElem?_append_right (Nat.le_refl _), Nat.sub_self]
      simp
    · rw [dG_append]
      have hl' := dG_len G (List.replicate b 0)
      rw [hlD] at hl'
      have e2 := nrm_dep (D := dG (List.replicate b 0) G) hnr
      dsimp only at e2
      rw [e2]
      generalize dG (List.replicate b 0) G = U at hl' ⊢
      show dep (U ++ [_]) _ ≤ _
      rw [dep_last (by omega)]
      exact Int.le_refl _
theorem at0_push {B : List Int} {z : Int} {s : Nat} (hs : s < B.length + 1) : (s < B.length ∧ at0 (B ++ [z]) s = at0 B s) ∨ (s = B.length ∧ at0 (B ++ [z]) s = z) := by
  rw [at0_app (by omega)]
  by_cases h : s < B.length
  · rw [if_pos (by omega)]; exact .inl ⟨h, rfl⟩
  · rw [if_neg (by omega), if_pos (by omega)]; exact .inr ⟨by omega, rfl⟩
theorem bec_dep {B D E : List Int} (hB : ∀ y ∈ B, 0 ≤ y) (h : ∀ s : Nat, s < B.length → dep D (at0 B s) ≤ E.getD s 0) {x : Int} (x0 : 0 ≤ x) (x1 : x < 2 * (B.length : Int)) : dep D (bec B x) ≤ dep E x := by
  obtain ⟨h0, h1⟩ := half_in x0 x1
  have hs := h (x / 2).toNat (by omega)
  rw [show (((x / 2).toNat : Nat) : Int) = x / 2 from by omega] at hs
  have hy := hB _ (at0_get h0 h1).2
  have ht : dep D (turn (at0 B (x / 2))) = dep D (at0 B (x / 2)) := by
    unfold dep turn
    split
    · rw [show (at0 B (x / 2) - 1) / 2 = at0 B (x / 2) / 2 from by omega]
    · rw [show (at0 B (x / 2) + 1) / 2 = at0 B (x / 2) / 2 from by omega]
  show dep D (bec B x) ≤ E.getD (x / 2).toNat 0
  unfold bec
  split
  · rw [ht]; exact hs
  · exact hs
theorem p1_step {b : Nat} (b1 : 1 ≤ b) {gs : List Gate} {st : List Int × List Gate} (h : P1 b gs st) {g : Gate} (a0 : 0 ≤ g.A) (a1 : g.A < 2 * ((b : Int) + gs.length)) (c0 : 0 ≤ g.B) (c1 : g.B < 2 * ((b : Int) + gs.length)) : P1 b (gs ++ [g]) (p1s b st g) := by
  obtain ⟨B, G⟩ := st
  obtain ⟨hl, hle, hr, hG, hN, hS, hD⟩ := h
  dsimp only at hl hle hr hG hN hS hD
  obtain ⟨u0, u1⟩ := bec_in hr (x := g.A) a0 (by omega)
  obtain ⟨v0, v1⟩ := bec_in hr (x := g.B) c0 (by omega)
  have hBn : ∀ y ∈ B, 0 ≤ y := fun y hy => (hr y hy).1
  have eA := bec_dep (D := dG (List.replicate b 0) G) (E := dG (List.replicate b 0) gs) hBn hD a0 (by omega)
  have eB := bec_dep (D := dG (List.replicate b 0) G) (E := dG (List.replicate b 0) gs) hBn hD c0 (by omega)
  unfold p1s
  dsimp only
  cases hj : jn b G (bec B g.A) (bec B g.B) with
  | mk G' z =>
    obtain ⟨⟨W, w⟩, k1, k2, k3, k4, k5, k6, k7, k8⟩ := jn_facts b1 hG hN u0 u1 v0 v1 hj
    dsimp only
    refine ⟨by simp [hl]; omega, by simp; omega, fun y hy => ?_, k3, k4, fun V hV hz s hs => ?_, fun s hs => ?_⟩
    · dsimp only at hy ⊢
      rcases List.mem_append.1 hy with hy | hy
      · have := hr y hy; omega
      · rw [List.mem_singleton.1 hy]; omega
    · dsimp only at hs ⊢
      rw [List.length_append, List.length_singleton] at hs
      have hst : evG V (gs ++ [g]) = evG V gs ++ [lit (evG V gs) g.A && lit (evG V gs) g.B] := by rw [evG_append]; rfl
      have hlen : (evG V gs).length = b + gs.length := by rw [evG_len]; omega
      rw [hst, List.getD_eq_getElem?_getD, List.getElem?_append]
      rcases at0_push (B := B) (z := z) hs with ⟨hsl, e⟩ | ⟨hse, e⟩
      · rw [e, if_pos (by omega), ← List.getD_eq_getElem?_getD, ← hS V hV hz s hsl, w, evG_append]
        obtain ⟨y0, y1⟩ := hr _ (at0_get (B := B) (s := (s : Int)) (by omega) (by omega)).2
        exact lit_ev W y0 (by rw [evG_len]; omega)
      · rw [e, if_neg (by omega), show s - (evG V gs).length = 0 from by omega, k7 V hV hz, bec_lit hBn (hS V hV hz) a0 (by omega), bec_lit hBn (hS V hV hz) c0 (by omega)]
        rfl
    · dsimp only at hs ⊢
      rw [List.length_append, List.length_singleton] at hs
      have hst : dG (List.replicate b 0) (gs ++ [g]) = dG (List.replicate b 0) gs ++ [1 + mx2 (dep (dG (List.replicate b 0) gs) g.A) (dep (dG (List.replicate b 0) gs) g.B)] := by rw [dG_append]; rfl
      have hlen : (dG (List.replicate b 0) gs).length = b + gs.length := by rw [dG_len, List.length_replicate]
      have hlen' : (dG (List.replicate b 0) G).length = b + G.length := by rw [dG_len, List.length_replicate]
      rw [hst, List.getD_eq_getElem?_getD, List.getElem?_append]
      rcases at0_push (B := B) (z := z) hs with ⟨hsl, e⟩ | ⟨hse, e⟩
      · rw [e, if_pos (by omega), ← List.getD_eq_getElem?_getD, w, dG_append]
        obtain ⟨y0, y1⟩ := hr _ (at0_get (B := B) (s := (s : Int)) (by omega) (by omega)).2
        rw [dep_dG W y0 (by omega)]
        exact hD s hsl
      · rw [e, if_neg (by omega), show s - (dG (List.replicate b 0) gs).length = 0 from by omega]
        refine Int.le_trans k8 ?_
        show _ ≤ 1 + mx2 _ _
        unfold mx2
        split <;> split <;> omega
theorem p1_inv {b : Nat} (b1 : 1 ≤ b) {gs : List Gate} (hg : GOk b gs) : P1 b gs (p1 b gs) :=
  fold_inv (P1 b) (p1_zero b) gs fun j x hx s hs => by
    obtain ⟨a0, a1, c0, c1⟩ := hg j x hx
    have hj := (List.getElem?_eq_some_iff.1 hx).1
    have hl : (gs.take j).length = j := by rw [List.length_take]; omega
    exact p1_step b1 hs a0 (by rw [hl]; exact a1) c0 (by rw [hl]; exact c1)
/-- neat gates come through as they are -/
theorem p1_neat {b : Nat} {gs : List Gate} (hg : GOk b gs) (hN : Neat gs) : p1 b gs = (evens (b + gs.length), gs) :=
  fold_inv (fun l (st : List Int × List Gate) => st = (evens (b + l.length), l)) (by rfl) gs fun j x hx s hs => by
    subst hs
    obtain ⟨a0, a1, c0, c1⟩ := hg j x hx
    obtain ⟨n1, n2, n3⟩ := hN.1 j x hx
    have hj := (List.getElem?_eq_some_iff.1 hx).1
    have hl : (gs.take j).length = j := by rw [List.length_take]; omega
    have hb : ∀ y : Int, 0 ≤ y → y < 2 * ((b : Int) + j) → bec (evens (b + j)) y = y := fun y y0 y1 => by
      have e := at0_evens (n := b + j) (s := (y / 2).toNat) (by omega)
      rw [show (((y / 2).toNat : Nat) : Int) = y / 2 from by omega] at e
      unfold bec turn
      rw [e]
      split
      · rw [if_neg (by omega)]; omega
      · omega
    unfold p1s
    dsimp only
    rw [hl, hb _ a0 a1, hb _ c0 c1]
    have hmk : mk2 x.A x.B = x := by
      unfold mk2
      rw [if_neg (by omega), if_pos n2]
    rcases jn_cases b (gs.take j) x.A x.B with ⟨z', h, hc⟩ | ⟨h, _⟩
    · exfalso
      rcases hc with ⟨_, hc⟩ | ⟨hc, _⟩ | ⟨hc, _⟩ | ⟨i, g, hi, hn, _⟩
      · unfold turn at hc
        split at hc <;> omega
      · omega
      · omega
      · rw [List.getElem?_take] at hi
        split at hi
        · rename_i hij
          rw [hmk, nrm_neat (hN.1 i g hi).2.1] at hn
          exact hN.2 i j g x hi hx hij hn
        · cases hi
    · rw [h, hmk, hl, List.length_append, hl]
      dsimp only
      rw [show b + (j + [x].length) = (b + j) + 1 from rfl, evens_succ]
      congr 3
end Go.Proofs.Ythjkonkcdfdfaaa
