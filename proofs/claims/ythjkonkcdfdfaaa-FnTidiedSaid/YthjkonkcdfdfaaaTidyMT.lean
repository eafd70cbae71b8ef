/- Tidying as plain functions: the second pass; what it keeps. -/
import Derived.Test.YthjkonkcdfdfaaaTidyNT
set_option linter.unusedVariables false
set_option linter.unusedSimpArgs false
namespace Go.Proofs.Ythjkonkcdfdfaaa
open Go Go.Wk Go.Proofs

def p2s (b : Nat) (M : List Bool) (st : List Int × List Gate) (g : Gate) : List Int × List Gate :=
  (st.1 ++ [2 * ((b : Int) + st.2.length)], if bAt M (st.1.length : Int) = true then st.2 ++ [⟨bec st.1 g.A, bec st.1 g.B⟩] else st.2)
def p2 (b : Nat) (M : List Bool) (gs : List Gate) : List Int × List Gate := gs.foldl (p2s b M) (evens b, [])
def Kp (b : Nat) (M : List Bool) (s : Nat) : Prop := bAt M s = true ∨ s < b
structure P2 (b : Nat) (M : List Bool) (gs : List Gate) (st : List Int × List Gate) : Prop where
  len : st.1.length = b + gs.length
  le : st.2.length ≤ gs.length
  ev : ∀ s : Nat, s < st.1.length → at0 st.1 s % 2 = 0 ∧ 0 ≤ at0 st.1 s ∧ at0 st.1 s ≤ 2 * ((b : Int) + st.2.length)
  kp : ∀ s : Nat, s < st.1.length → Kp b M s → at0 st.1 s < 2 * ((b : Int) + st.2.length)
  low : ∀ s : Nat, s < b → at0 st.1 s = 2 * (s : Int)
  mono : ∀ s t : Nat, s < t → t < st.1.length → Kp b M s → at0 st.1 s < at0 st.1 t
  gok : GOk b st.2
  neat : Neat st.2
  sem : ∀ V : List Bool, V.length = b → ∀ s : Nat, s < st.1.length → Kp b M s → lit (evG V st.2) (at0 st.1 s) = (evG V gs).getD s false
  dp : ∀ s : Nat, s < st.1.length → Kp b M s → dep (dG (List.replicate b 0) st.2) (at0 st.1 s) = (dG (List.replicate b 0) gs).getD s 0
  link : ∀ (i : Nat) g, gs[i]? = some g → bAt M ((b + i : Nat) : Int) = true → ∃ k : Nat, at0 st.1 ((b + i : Nat) : Int) = 2 * ((b : Int) + k) ∧ st.2[k]? = some ⟨bec st.1 g.A, bec st.1 g.B⟩
  onto : ∀ (k : Nat) h, st.2[k]? = some h → ∃ (i : Nat) (g : Gate), gs[i]? = some g ∧ bAt M ((b + i : Nat) : Int) = true ∧ at0 st.1 ((b + i : Nat) : Int) = 2 * ((b : Int) + k) ∧ h = ⟨bec st.1 g.A, bec st.1 g.B⟩
theorem hn {x : Int} (x0 : 0 ≤ x) : (((x / 2).toNat : Nat) : Int) = x / 2 := by omega
theorem bec_even {B : List Int} {x : Int} (x0 : 0 ≤ x) (h : at0 B ((x / 2).toNat : Nat) % 2 = 0) : bec B x = at0 B ((x / 2).toNat : Nat) + x % 2 := by
  rw [hn x0] at h ⊢
  unfold bec turn
  split
  · rw [if_neg (by omega)]; omega
  · omega
theorem bec_push {B : List Int} {z x : Int} (x0 : 0 ≤ x) (x1 : x < 2 * (B.length : Int)) : bec (B ++ [z]) x = bec B x := by
  have : at0 (B ++ [z]) (x / 2) = at0 B (x / 2) := by
    rw [at0_app (by omega), if_pos (by omega)]
  unfold bec
  rw [this]
theorem bec_lit1 {B : List Int} {U W : List Bool} {x : Int} (x0 : 0 ≤ x) (hy : 0 ≤ at0 B ((x / 2).toNat : Nat)) (hs : lit U (at0 B ((x / 2).toNat : Nat)) = W.getD (x / 2).toNat false) : lit U (bec B x) = lit W x := by
  rw [hn x0] at hy hs
  unfold bec
  by_cases h2 : x % 2 = 1
  · rw [if_pos h2, lit_turn hy, hs]
    unfold lit
    rw [decide_eq_true h2]
    cases W.getD (x / 2).toNat false <;> rfl
  · rw [if_neg h2, hs]
    unfold lit
    rw [decide_eq_false h2]
    cases W.getD (x / 2).toNat false <;> rfl
theorem bec_dep1 {B D E : List Int} {x : Int} (x0 : 0 ≤ x) (he : at0 B ((x / 2).toNat : Nat) % 2 = 0) (hs : dep D (at0 B ((x / 2).toNat : Nat)) = E.getD (x / 2).toNat 0) : dep D (bec B x) = dep E x := by
  rw [bec_even x0 he]
  show D.getD ((at0 B ((x / 2).toNat : Nat) + x % 2) / 2).toNat 0 = E.getD (x / 2).toNat 0
  rw [show (at0 B ((x / 2).toNat : Nat) + x % 2) / 2 = at0 B ((x / 2).toNat : Nat) / 2 from by omega]
  exact hs
theorem P2.inj {b : Nat} {M : List Bool} {gs : List Gate} {st : List Int × List Gate} (h : P2 b M gs st) {x y : Int} (x0 : 0 ≤ x) (x1 : x < 2 * ((b : Int) + gs.length)) (y0 : 0 ≤ y) (y1 : y < 2 * ((b : Int) + gs.length)) (kx : Kp b M (x / 2).toNat) (ky : Kp b M (y / 2).toNat) (e : bec st.1 x = bec st.1 y) : x = y := by
  have hl := h.len
  have ex := h.ev (x / 2).toNat (by omega)
  have ey := h.ev (y / 2).toNat (by omega)
  rw [bec_even x0 ex.1, bec_even y0 ey.1] at e
  rcases Nat.lt_trichotomy (x / 2).toNat (y / 2).toNat with hlt | heq | hgt
  · have := h.mono _ _ hlt (by omega) kx
    omega
  · rw [heq] at e
    omega
  · have := h.mono _ _ hgt (by omega) ky
    omega
theorem p2_zero (b : Nat) (M : List Bool) : P2 b M [] (evens b, []) := by
  refine ⟨by rw [evens_len]; rfl, Nat.le_refl _, fun s hs => ?_, fun s hs _ => ?_, fun s hs => at0_evens hs, fun s t hst ht _ => ?_, fun i g hg => by simp at hg, ⟨fun i g hg => by simp at hg, fun i k g h hg => by simp at hg⟩, fun V hV s hs _ => ?_, fun s hs _ => ?_, fun i g hg => by simp at hg, fun i g hg => by simp at hg⟩ <;> dsimp only at * <;> rw [evens_len] at *
  · rw [at0_evens hs]; simp only [List.length_nil]; omega
  · rw [at0_evens hs]; simp only [List.length_nil]; omega
  · rw [at0_evens ht, at0_evens (by omega)]; omega
  · rw [at0_evens hs]; exact lit_even s
  · rw [at0_evens hs]
    show dep (List.replicate b 0) _ = (List.replicate b (0 : Int)).getD s 0
    unfold dep
    rw [show (2 * (s : Int)) / 2 = (s : Int) from by omega, Int.toNat_natCast]
theorem p2_step {b : Nat} (b1 : 1 ≤ b) {M : List Bool} {gs : List Gate} {st : List Int × List Gate} (h : P2 b M gs st) (hg : GOk b gs) {g : Gate} (a0 : 0 ≤ g.A) (a1 : g.A < 2 * ((b : Int) + gs.length)) (c0 : 0 ≤ g.B) (c1 : g.B < 2 * ((b : Int) + gs.length))
    (hn1 : 2 ≤ g.A ∧ g.A < g.B ∧ g.A / 2 ≠ g.B / 2) (hn2 : ∀ (i : Nat) x, gs[i]? = some x → x ≠ g) (hc : ∀ (i : Nat) x, gs[i]? = some x → bAt M ((b + i : Nat) : Int) = true → bAt M (x.A / 2) = true ∧ bAt M (x.B / 2) = true) (hcg : bAt M ((b + gs.length : Nat) : Int) = true → bAt M (g.A / 2) = true ∧ bAt M (g.B / 2) = true) :
    P2 b M (gs ++ [g]) (p2s b M st g) := by
  have hinj := @P2.inj b M gs st h
  obtain ⟨B, H⟩ := st
  obtain ⟨hl, hle, hev, hkp, hlow, hmono, hG, hN, hS, hD, hlk, hon⟩ := h
  dsimp only at hl hle hev hkp hlow hmono hG hN hS hD hlk hon hinj
  have hpush : ∀ x : Int, 0 ≤ x → x < 2 * ((b : Int) + gs.length) → bec (B ++ [2 * ((b : Int) + H.length)]) x = bec B x := fun x x0 x1 => bec_push x0 (by omega)
  have hold : ∀ s : Nat, s < B.length → at0 (B ++ [2 * ((b : Int) + H.length)]) s = at0 B s := fun s hs => by rw [at0_app (by omega), if_pos (by omega)]
  have hnew : at0 (B ++ [2 * ((b : Int) + H.length)]) (B.length : Nat) = 2 * ((b : Int) + H.length) := by rw [at0_app (by omega), if_neg (by omega), if_pos rfl]
  have hlenE : ∀ V : List Bool, V.length = b → (evG V gs).length = b + gs.length := fun V hV => by rw [evG_len]; omega
  have hlenH : ∀ V : List Bool, V.length = b → (evG V H).length = b + H.length := fun V hV => by rw [evG_len]; omega
  have hlenD : (dG (List.replicate b 0) gs).length = b + gs.length := by rw [dG_len, List.length_replicate]
  have hlenDH : (dG (List.replicate b 0) H).length = b + H.length := by rw [dG_len, List.length_replicate]
  have hstE : ∀ V : List Bool, evG V (gs ++ [g]) = evG V gs ++ [lit (evG V gs) g.A && lit (evG V gs) g.B] := fun V => by rw [evG_append]; rfl
  have hstD : dG (List.replicate b 0) (gs ++ [g]) = dG (List.replicate b 0) gs ++ [1 + mx2 (dep (dG (List.replicate b 0) gs) g.A) (dep (dG (List.replicate b 0) gs) g.B)] := by rw [dG_append]; rfl
  -- what depends on whether the gate is kept
  unfold p2s
  dsimp only
  cases hm : bAt M (B.length : Int) with
  | false =>
    simp only [Bool.false_eq_true, if_false]
    have hnk : ¬ Kp b M B.length := fun h => by
      rcases h with h | h
      · rw [hm] at h; cases h
      · omega
    refine ⟨by simp [hl]; omega, by simp; omega, fun s hs => ?_, fun s hs hk => ?_, fun s hs => ?_, fun s t hst ht hk => ?_, hG, hN, fun V hV s hs hk => ?_, fun s hs hk => ?_, fun i x hx hb => ?_, fun k x hx => ?_⟩ <;> dsimp only at *
    · rw [List.length_append, List.length_singleton] at hs
      rcases at0_push (z := 2 * ((b : Int) + H.length)) hs with ⟨hsl, e⟩ | ⟨hse, e⟩
      · rw [e]; exact hev s hsl
      · rw [e]; omega
    · rw [List.length_append, List.length_singleton] at hs
      rcases at0_push (z := 2 * ((b : Int) + H.length)) hs with ⟨hsl, e⟩ | ⟨hse, e⟩
      · rw [e]; exact hkp s hsl hk
      · subst hse; exact absurd hk hnk
    · rw [hold s (by omega)]; exact hlow s hs
    · rw [List.length_append, List.length_singleton] at ht
      rw [hold s (by omega)]
      rcases at0_push (z := 2 * ((b : Int) + H.length)) ht with ⟨hsl, e⟩ | ⟨hse, e⟩
      · rw [e]; exact hmono s t hst hsl hk
      · rw [e]; exact hkp s (by omega) hk
    · rw [List.length_append, List.length_singleton] at hs
      have hsl : s < B.length := by
        rcases Nat.lt_or_ge s B.length with h | h
        · exact h
        · have : s = B.length := by omega
          subst this; exact absurd hk hnk
      have := hlenE V hV
      rw [hold s hsl, hstE, List.getD_eq_getElem?_getD, List.getElem?_append_left (by omega), ← List.getD_eq_getElem?_getD]
      exact hS V hV s hsl hk
    · rw [List.length_append, List.length_singleton] at hs
      have hsl : s < B.length := by
        rcases Nat.lt_or_ge s B.length with h | h
        · exact h
        · have : s = B.length := by omega
          subst this; exact absurd hk hnk
      rw [hold s hsl, hstD, List.getD_eq_getElem?_getD, List.getElem?_append_left (by omega), ← List.getD_eq_getElem?_getD]
      exact hD s hsl hk
    · rcases push_get hx with hx | ⟨rfl, rfl⟩
      · obtain ⟨q0, q1, q2, q3⟩ := hg i x hx
        have hi := (List.getElem?_eq_some_iff.1 hx).1
        obtain ⟨k, k1, k2⟩ := hlk i x hx hb
        refine ⟨k, by rw [hold _ (by omega)]; exact k1, ?_⟩
        rw [hpush _ q0 (by omega), hpush _ q2 (by omega)]
        exact k2
      · rw [← hl, hm] at hb; cases hb
    · obtain ⟨i, y, i1, i2, i3, i4⟩ := hon k x hx
      obtain ⟨q0, q1, q2, q3⟩ := hg i y i1
      have hi := (List.getElem?_eq_some_iff.1 i1).1
      refine ⟨i, y, by rw [List.getElem?_append_left hi]; exact i1, i2, by rw [hold _ (by omega)]; exact i3, ?_⟩
      rw [hpush _ q0 (by omega), hpush _ q2 (by omega)]
      exact i4
  | true =>
    simp only [if_true]
    have hm' : bAt M ((b + gs.length : Nat) : Int) = true := by rw [← hl]; exact hm
    obtain ⟨mA, mB⟩ := hcg hm'
    have kA : Kp b M (g.A / 2).toNat := .inl (by rw [hn a0]; exact mA)
    have kB : Kp b M (g.B / 2).toNat := .inl (by rw [hn c0]; exact mB)
    have eA := hev (g.A / 2).toNat (by omega)
    have eB := hev (g.B / 2).toNat (by omega)
    have lA := hkp (g.A / 2).toNat (by omega) kA
    have lB := hkp (g.B / 2).toNat (by omega) kB
    have xA := bec_even (B := B) a0 eA.1
    have xB := bec_even (B := B) c0 eB.1
    have hAB := hmono (g.A / 2).toNat (g.B / 2).toNat (by omega) (by omega) kA
    have h0 := hlow 0 (by omega)
    have h0A := hmono 0 (g.A / 2).toNat (by omega) (by omega) (.inr (by omega))
    have hlen' : (H ++ [(⟨bec B g.A, bec B g.B⟩ : Gate)]).length = H.length + 1 := by simp
    have hevH : ∀ V : List Bool, evG V (H ++ [⟨bec B g.A, bec B g.B⟩]) = evG V H ++ [lit (evG V H) (bec B g.A) && lit (evG V H) (bec B g.B)] := fun V => by rw [evG_append]; rfl
    have hdH : dG (List.replicate b 0) (H ++ [⟨bec B g.A, bec B g.B⟩]) = dG (List.replicate b 0) H ++ [1 + mx2 (dep (dG (List.replicate b 0) H) (bec B g.A)) (dep (dG (List.replicate b 0) H) (bec B g.B))] := by rw [dG_append]; rfl
    refine ⟨by simp [hl]; omega, by simp; omega, fun s hs => ?_, fun s hs hk => ?_, fun s hs => ?_, fun s t hst ht hk => ?_, ?_, ?_, fun V hV s hs hk => ?_, fun s hs hk => ?_, fun i x hx hb => ?_, fun k x hx => ?_⟩ <;> dsimp only at *
    · rw [List.length_append, List.length_singleton] at hs
      rw [hlen']
      rcases at0_push (z := 2 * ((b : Int) + H.length)) hs with ⟨hsl, e⟩ | ⟨hse, e⟩
      · rw [e]; have := hev s hsl; omega
      · rw [e]; omega
    · rw [List.length_append, List.length_singleton] at hs
      rw [hlen']
      rcases at0_push (z := 2 * ((b : Int) + H.length)) hs with ⟨hsl, e⟩ | ⟨hse, e⟩
      · rw [e]; have := hkp s hsl hk; omega
      · rw [e]; omega
    · rw [hold s (by omega)]; exact hlow s hs
    · rw [List.length_append, List.length_singleton] at ht
      rw [hold s (by omega)]
      rcases at0_push (z := 2 * ((b : Int) + H.length)) ht with ⟨hsl, e⟩ | ⟨hse, e⟩
      · rw [e]; exact hmono s t hst hsl hk
      · rw [e]; exact hkp s (by omega) hk
    · refine hG.add ?_ ?_ ?_ ?_ <;> dsimp only <;> omega
    · refine hN.push (by dsimp only; omega) fun k x hx e => ?_
      obtain ⟨i, y, i1, i2, i3, i4⟩ := hon k x hx
      obtain ⟨q0, q1, q2, q3⟩ := hg i y i1
      have hi := (List.getElem?_eq_some_iff.1 i1).1
      obtain ⟨pA, pB⟩ := hc i y i1 i2
      rw [i4] at e
      have e1 : bec B y.A = bec B g.A := congrArg Gate.A e
      have e2 : bec B y.B = bec B g.B := congrArg Gate.B e
      have f1 := hinj q0 (by omega) a0 a1 (.inl (by rw [hn q0]; exact pA)) kA e1
      have f2 := hinj q2 (by omega) c0 c1 (.inl (by rw [hn q2]; exact pB)) kB e2
      refine hn2 i y i1 ?_
      obtain ⟨yA, yB⟩ := y
      obtain ⟨gA, gB⟩ := g
      dsimp only at f1 f2
      rw [f1, f2]
    · rw [List.length_append, List.length_singleton] at hs
      have hE := hlenE V hV
      have hH := hlenH V hV
      rw [hstE, hevH, List.getD_eq_getElem?_getD, List.getElem?_append]
      rcases at0_push (z := 2 * ((b : Int) + H.length)) hs with ⟨hsl, e⟩ | ⟨hse, e⟩
      · have h1 := hev s hsl
        have h2 := hkp s hsl hk
        rw [e, if_pos (by omega), ← List.getD_eq_getElem?_getD, lit_app h1.2.1 (by omega)]
        exact hS V hV s hsl hk
      · rw [e, if_neg (by omega), show s - (evG V gs).length = 0 from by omega, bec_lit1 (W := evG V gs) a0 eA.2.1 (hS V hV _ (by omega) kA), bec_lit1 (W := evG V gs) c0 eB.2.1 (hS V hV _ (by omega) kB)]
        unfold lit
        rw [show (2 * ((b : Int) + (H.length : Int))) / 2 = (((evG V H).length : Nat) : Int) from by omega, Int.toNat_natCast, List.getD_eq_getElem?_getD, List.getElem?_append_right (Nat.le_refl _), Nat.sub_self, show decide ((2 * ((b : Int) + (H.length : Int))) % 2 = 1) = false from decide_eq_false (by omega)]
        simp
    · rw [List.length_append, List.length_singleton] at hs
      rw [hstD, hdH, List.getD_eq_getElem?_getD, List.getElem?_append]
      rcases at0_push (z := 2 * ((b : Int) + H.length)) hs with ⟨hsl, e⟩ | ⟨hse, e⟩
      · have h1 := hev s hsl
        have h2 := hkp s hsl hk
        rw [e, if_pos (by omega), ← List.getD_eq_getElem?_getD, dep_app h1.2.1 (by omega)]
        exact hD s hsl hk
      · rw [e, if_neg (by omega), show s - (dG (List.replicate b 0) gs).length = 0 from by omega, bec_dep1 (E := dG (List.replicate b 0) gs) a0 eA.1 (hD _ (by omega) kA), bec_dep1 (E := dG (List.replicate b 0) gs) c0 eB.1 (hD _ (by omega) kB), dep_last (by omega)]
        rfl
    · rcases push_get hx with hx | ⟨rfl, rfl⟩
      · obtain ⟨q0, q1, q2, q3⟩ := hg i x hx
        have hi := (List.getElem?_eq_some_iff.1 hx).1
        obtain ⟨k, k1, k2⟩ := hlk i x hx hb
        refine ⟨k, by rw [hold _ (by omega)]; exact k1, ?_⟩
        rw [hpush _ q0 (by omega), hpush _ q2 (by omega), List.getElem?_append_left (List.getElem?_eq_some_iff.1 k2).1]
        exact k2
      · refine ⟨H.length, by rw [← hl]; exact hnew, ?_⟩
        rw [hpush _ a0 (by omega), hpush _ c0 (by omega), List.getElem?_append_right (Nat.le_refl _), Nat.sub_self]
        rfl
    · rcases push_get hx with hx | ⟨rfl, rfl⟩
      · obtain ⟨i, y, i1, i2, i3, i4⟩ := hon k x hx
        obtain ⟨q0, q1, q2, q3⟩ := hg i y i1
        have hi := (List.getElem?_eq_some_iff.1 i1).1
        refine ⟨i, y, by rw [List.getElem?_append_left hi]; exact i1, i2, by rw [hold _ (by omega)]; exact i3, ?_⟩
        rw [hpush _ q0 (by omega), hpush _ q2 (by omega)]
        exact i4
      · refine ⟨gs.length, g, by rw [List.getElem?_append_right (Nat.le_refl _), Nat.sub_self]; rfl, hm', by rw [← hl]; exact hnew, ?_⟩
        rw [hpush _ a0 (by omega), hpush _ c0 (by omega)]
theorem p2_inv {b : Nat} (b1 : 1 ≤ b) {M : List Bool} {gs : List Gate} (hg : GOk b gs) (hN : Neat gs) (hc : ∀ (i : Nat) x, gs[i]? = some x → bAt M ((b + i : Nat) : Int) = true → bAt M (x.A / 2) = true ∧ bAt M (x.B / 2) = true) : P2 b M gs (p2 b M gs) :=
  fold_inv (P2 b M) (p2_zero b M) gs fun j x hx s hs => by
    obtain ⟨a0, a1, c0, c1⟩ := hg j x hx
    have hj := (List.getElem?_eq_some_iff.1 hx).1
    have hl : (gs.take j).length = j := by rw [List.length_take]; omega
    have htk : ∀ (i : Nat) y, (gs.take j)[i]? = some y → gs[i]? = some y ∧ i < j := fun i y hy => by
      rw [List.getElem?_take] at hy
      split at hy
      · rename_i h; exact ⟨hy, h⟩
      · cases hy
    refine p2_step b1 hs (gok_take hg j) a0 (by rw [hl]; exact a1) c0 (by rw [hl]; exact c1) (hN.1 j x hx) (fun i y hy => ?_) (fun i y hy => hc i y (htk i y hy).1) (by rw [hl]; exact hc j x hx)
    obtain ⟨h1, h2⟩ := htk i y hy
    exact hN.2 i j y x h1 hx h2
theorem p2_all {b : Nat} {M : List Bool} {gs : List Gate} (hg : GOk b gs) (hM : ∀ i : Nat, i < gs.length → bAt M ((b + i : Nat) : Int) = true) : p2 b M gs = (evens (b + gs.length), gs) :=
  fold_inv (fun l (st : List Int × List Gate) => st = (evens (b + l.length), l)) (by rfl) gs fun j x hx s hs => by
    subst hs
    obtain ⟨a0, a1, c0, c1⟩ := hg j x hx
    have hj := (List.getElem?_eq_some_iff.1 hx).1
    have hl : (gs.take j).length = j := by rw [List.length_take]; omega
    have hb : ∀ y : Int, 0 ≤ y → y < 2 * ((b : Int) + j) → bec (evens (b + j)) y = y := fun y y0 y1 => by
      have e := at0_evens (n := b + j) (s := (y / 2).toNat) (by omega)
      rw [bec_even y0 (by rw [e]; omega), e]
      omega
    unfold p2s
    dsimp only
    rw [hl, evens_len, hM j hj, if_pos rfl, hb _ a0 a1, hb _ c0 c1, List.length_append, hl]
    rw [show b + (j + [x].length) = (b + j) + 1 from rfl, evens_succ]
    congr 3
/-- every gate is needed -/
def Used (b : Nat) (H : List Gate) (R : List Int) : Prop := ∀ k : Nat, k < H.length → (∃ x ∈ R, x / 2 = ((b + k : Nat) : Int)) ∨ ∃ (k' : Nat) (h : Gate), k < k' ∧ H[k']? = some h ∧ (h.A / 2 = ((b + k : Nat) : Int) ∨ h.B / 2 = ((b + k : Nat) : Int))
/-- whatever is marked is marked for a cause -/
def Just (b : Nat) (G : List Gate) (R : List Int) (M : List Bool) : Prop := ∀ i : Nat, i < G.length → bAt M ((b + i : Nat) : Int) = true → (∃ x ∈ R, x / 2 = ((b + i : Nat) : Int)) ∨ ∃ (i' : Nat) (g : Gate), G[i']? = some g ∧ i < i' ∧ bAt M ((b + i' : Nat) : Int) = true ∧ (g.A / 2 = ((b + i : Nat) : Int) ∨ g.B / 2 = ((b + i : Nat) : Int))
theorem used_of {b : Nat} {M : List Bool} {gs : List Gate} {st : List Int × List Gate} (h : P2 b M gs st) (hg : GOk b gs) {R : List Int} (hR : ∀ x ∈ R, 0 ≤ x ∧ x < 2 * ((b : Int) + gs.length)) (hJ : Just b gs R M) : Used b st.2 (R.map (bec st.1)) := fun k hk => by
  have hl := h.len
  obtain ⟨i, g, i1, i2, i3, _⟩ := h.onto k _ (List.getElem?_eq_getElem hk)
  have hi := (List.getElem?_eq_some_iff.1 i1).1
  -- the image of a literal of this signal
  have himg : ∀ x : Int, 0 ≤ x → x / 2 = ((b + i : Nat) : Int) → bec st.1 x / 2 = ((b + k : Nat) : Int) := fun x x0 hx => by
    have e : (x / 2).toNat = b + i := by omega
    rw [bec_even x0 (by rw [e, i3]; omega), e, i3]
    omega
  rcases hJ i hi i2 with ⟨x, hx, e⟩ | ⟨i', g', j1, j2, j3, j4⟩
  · exact .inl ⟨bec st.1 x, List.mem_map_of_mem hx, himg x (hR x hx).1 e⟩
  · obtain ⟨q0, q1, q2, q3⟩ := hg i' g' j1
    have hi' := (List.getElem?_eq_some_iff.1 j1).1
    obtain ⟨k', k1, k2⟩ := h.link i' g' j1 j3
    have := h.mono (b + i) (b + i') (by omega) (by omega) (.inl i2)
    refine .inr ⟨k', _, by omega, k2, ?_⟩
    rcases j4 with j4 | j4
    · exact .inl (himg _ q0 j4)
    · exact .inr (himg _ q2 j4)
theorem all_marked {b : Nat} {H : List Gate} {R : List Int} {M : List Bool} (hU : Used b H R) (hR : ∀ x ∈ R, bAt M (x / 2) = true) (hc : ∀ (i : Nat) x, H[i]? = some x → bAt M ((b + i : Nat) : Int) = true → bAt M (x.A / 2) = true ∧ bAt M (x.B / 2) = true) : ∀ k : Nat, k < H.length → bAt M ((b + k : Nat) : Int) = true := by
  have key : ∀ n k : Nat, k < H.length → H.length - k ≤ n → bAt M ((b + k : Nat) : Int) = true := by
    intro n
    induction n with
    | zero => intro k hk h; omega
    | succ n ih =>
      intro k hk h
      rcases hU k hk with ⟨x, hx, e⟩ | ⟨k', g, k1, k2, k3⟩
      · rw [← e]; exact hR x hx
      · have hk' := (List.getElem?_eq_some_iff.1 k2).1
        have hm := hc k' g k2 (ih k' hk' (by omega))
        rcases k3 with e | e
        · rw [← e]; exact hm.1
        · rw [← e]; exact hm.2
  exact fun k hk => key _ k hk (Nat.le_refl _)
end Go.Proofs.Ythjkonkcdfdfaaa
