/- FnTidied: the law. -/
import Derived.Test.YthjkonkcdfdfaaaDrawC2T
import Derived.Test.YthjkonkcdfdfaaaTidyDT
import Derived.Test.YthjkonkcdfdfaaaStepOfST
import Derived.Test.YthjkonkcdfdfaaaEvalStepT
set_option linter.unusedVariables false
set_option linter.unusedSimpArgs false
namespace Go.Proofs.Ythjkonkcdfdfaaa
open Go Go.Wk Go.Proofs

theorem tidied_d {b : List Int} (hl : b.length ≤ 4096) : ∃ c, s_DrawTidiedCircuit b = some c ∧ c.Gates.length ≤ 9 := by
  obtain ⟨h, e0⟩ := new_d (b := b)
  obtain ⟨c, i1, h1, e1, c1, g1⟩ := any_d (by omega) (h := h) (show Cur 0 by unfold Cur; omega)
  unfold s_DrawTidiedCircuit
  simp only [e0, e1, Option.bind_some]
  exact ⟨_, rfl, g1⟩
/-- the numbers that literals tell, after both passes -/
theorem numAt_map {U W : List Bool} {f : Int → Int} : ∀ (xs : List Int) (k : Nat), (∀ x ∈ xs, lit U (f x) = lit W x) → numAt U k (xs.map f) = numAt W k xs
  | [], _, _ => rfl
  | x :: xs, k, h => by
    have h1 := h x (List.mem_cons_self ..)
    have h2 := numAt_map xs (k + 1) (fun y hy => h y (List.mem_cons_of_mem _ hy))
    simp only [List.map_cons, numAt, h1, h2]
theorem step_eq {c d : Circuit} (hc : circOk c = true) (hd : circOk d = true) (hI : d.Inputs = c.Inputs) (hL : d.Latches = c.Latches) (h : ∀ l n : Int, numAt (evG (V0 c.Inputs.toNat c.Latches.toNat l n) d.Gates) 0 d.Next = numAt (evG (V0 c.Inputs.toNat c.Latches.toNat l n) c.Gates) 0 c.Next ∧ numAt (evG (V0 c.Inputs.toNat c.Latches.toNat l n) d.Gates) 0 d.Outs = numAt (evG (V0 c.Inputs.toNat c.Latches.toNat l n) c.Gates) 0 c.Outs) (l n : Int) : ∃ x y, s_StepOf d l n = some (x, y) ∧ s_StepOf c l n = some (x, y) := by
  have hb := circHead_in (circOk_spec hc).1
  have pI := pow_in (j := c.Inputs.toNat) (by omega)
  have pL := pow_in (j := c.Latches.toNat) (by omega)
  unfold s_StepOf
  rw [s_CircuitOk_eq, s_CircuitOk_eq, hc, hd, hI, hL]
  simp only [Option.bind_some, Bool.not_true, cond_false, l31Pow_int hb.1 (by omega : c.Inputs ≤ 40), l31Pow_int hb.2.2.1 (by omega : c.Latches ≤ 40)]
  rw [wr' (by omega) (by omega), wr' (by omega) (by omega)]
  simp only [s_l1In_eq, inR_eq, Option.bind_some]
  cases h1 : inR (2 ^ c.Latches.toNat) l with
  | false => exact ⟨-1, -1, rfl, rfl⟩
  | true =>
    cases h2 : inR (2 ^ c.Inputs.toNat) n with
    | false => exact ⟨-1, -1, rfl, rfl⟩
    | true =>
      obtain ⟨l0, l1⟩ := inR_iff.1 h1
      obtain ⟨n0, n1⟩ := inR_iff.1 h2
      have q1 : (2 : Int) ^ c.Latches.toNat ≤ 64 := by
        have : 2 ^ c.Latches.toNat ≤ 2 ^ 6 := Nat.pow_le_pow_right (by omega) (by omega)
        have e : ((2 ^ c.Latches.toNat : Nat) : Int) = (2 : Int) ^ c.Latches.toNat := by simp
        omega
      have q2 : (2 : Int) ^ c.Inputs.toNat ≤ 16 := by
        have : 2 ^ c.Inputs.toNat ≤ 2 ^ 4 := Nat.pow_le_pow_right (by omega) (by omega)
        have e : ((2 ^ c.Inputs.toNat : Nat) : Int) = (2 : Int) ^ c.Inputs.toNat := by simp
        omega
      simp only [Bool.not_true, cond_false]
      rw [step_sem hc l0 (by omega) n0 (by omega), step_sem hd l0 (by omega) n0 (by omega), hI, hL, (h l n).1, (h l n).2]
      exact ⟨_, _, rfl, rfl⟩
theorem likeInts_refl (xs : List Int) : l_likeInts xs xs = some true := by
  unfold l_likeInts
  have : ((xs.length : Int) != (xs.length : Int)) = false := by simp
  rw [this, cond_false]
  obtain ⟨_, h1, _⟩ := cnt_inv (f := l_likeInts_b0 xs xs) (fun _ _ => True) xs.length (s := ()) trivial (fun j s hj _ => by
    have hx : xs[j]? = some xs[j] := by simp [hj]
    unfold l_likeInts_b0
    rw [idx_nat, hx]
    refine ⟨(), ?_, trivial⟩
    simp only [Option.bind_some, bne_self_eq_false, cond_false])
  rw [h1]
  rfl
theorem circT_ok {c : Circuit} (hc : circOk c = true) {b : Nat} (hb : base c = (b : Int)) {H : List Gate} {N O : List Int} (hG : GOk b H) (hl : H.length ≤ c.Gates.length) (hNl : N.length = c.Next.length) (hOl : O.length = c.Outs.length) (hN : ∀ x ∈ N, 0 ≤ x ∧ x < 2 * ((b : Int) + H.length)) (hO : ∀ x ∈ O, 0 ≤ x ∧ x < 2 * ((b : Int) + H.length)) : circOk ⟨c.Inputs, c.Latches, N, H, O⟩ = true := by
  obtain ⟨hh, _⟩ := circOk_spec hc
  have hbd := circHead_in hh
  have hs : sigs ⟨c.Inputs, c.Latches, N, H, O⟩ = (b : Int) + H.length := by rw [← hb]; rfl
  unfold circOk
  rw [hs]
  simp only [Bool.and_eq_true, List.all_eq_true]
  refine ⟨⟨⟨?_, fun x hx => ?_⟩, fun x hx => inR_iff.2 (hN x hx)⟩, fun x hx => inR_iff.2 (hO x hx)⟩
  · unfold circHead at hh ⊢
    simp only [Bool.and_eq_true, decide_eq_true_eq, beq_iff_eq] at hh ⊢
    omega
  · obtain ⟨g, i⟩ := x
    rw [List.mem_zipIdx_iff_getElem?] at hx
    have hx : H[i]? = some g := hx
    obtain ⟨a0, a1, b0, b1⟩ := hG i g hx
    rw [← hb] at a1 b1
    unfold base at a1 b1
    unfold gateOk
    rw [Bool.and_eq_true]
    exact ⟨inR_iff.2 ⟨a0, a1⟩, inR_iff.2 ⟨b0, b1⟩⟩
/-- all that tidying keeps and makes -/
theorem tidied_all {c : Circuit} (hc : circOk c = true) : ∃ t, i_TidiedCircuit c = some t ∧ circOk t = true ∧ t.Inputs = c.Inputs ∧ t.Latches = c.Latches ∧ t.Gates.length ≤ c.Gates.length ∧ t.Outs.length = c.Outs.length ∧ Neat t.Gates ∧
    (∃ x y, i_DepthOf t = some x ∧ s_DepthOf c = some y ∧ x ≤ y) ∧ (∀ l n : Int, ∃ x y, s_StepOf t l n = some (x, y) ∧ s_StepOf c l n = some (x, y)) ∧ i_TidiedCircuit t = some t := by
  have h := circHead_in (circOk_spec hc).1
  obtain ⟨_, _, hnx, hot⟩ := circOk_spec hc
  obtain ⟨b, hb⟩ := ex_nat (z := base c) (by unfold base; omega)
  obtain ⟨b1, b2, b3, b4⟩ := tidy_b hc hb
  have hg := gok_of hc
  rw [hb] at hg
  have hsg : sigs c = (b : Int) + c.Gates.length := by rw [← hb]; rfl
  rw [List.all_eq_true] at hnx hot
  have hP := p1_inv b2 hg
  cases hp : p1 b c.Gates with
  | mk B G =>
    rw [hp] at hP
    obtain ⟨M, m1, m2, m3, m4, e1⟩ := tidied_eq hc hb hp
    have hcl : ∀ (i : Nat) x, G[i]? = some x → bAt M ((b + i : Nat) : Int) = true → bAt M (x.A / 2) = true ∧ bAt M (x.B / 2) = true := fun i x hx hm => m3 i x hx (by omega) (by rw [show (b : Int) + i = ((b + i : Nat) : Int) from by omega]; exact hm)
    have hQ := p2_inv b2 (M := M) hP.gok hP.neat hcl
    cases hq : p2 b M G with
    | mk B2 H =>
      rw [hq] at hQ e1
      have hQ0 := hQ
      obtain ⟨g2, g1, g3, g4, gN, gS, gD⟩ := hP
      obtain ⟨k2, k1, kev, kkp, _, _, k4, kN, kS, kD, _, _⟩ := hQ
      dsimp only at g1 g2 g3 g4 gN gS gD k1 k2 kev kkp k4 kN kS kD e1
      -- one literal, all the way
      have hin : ∀ x ∈ c.Next ++ c.Outs, 0 ≤ x ∧ x < 2 * (B.length : Int) := fun x hx => by
        have := inR_iff.1 ((List.mem_append.1 hx).elim (hnx x) (hot x))
        omega
      have hmid : ∀ x ∈ c.Next ++ c.Outs, 0 ≤ bec B x ∧ bec B x < 2 * ((b : Int) + G.length) ∧ Kp b M (bec B x / 2).toNat := fun x hx => by
        obtain ⟨x0, x1⟩ := hin x hx
        obtain ⟨y0, y1⟩ := bec_in g3 x0 x1
        have := m2 (bec B x) (by rw [← List.map_append]; exact List.mem_map_of_mem hx)
        exact ⟨y0, y1, .inl (by rw [hn y0]; exact this)⟩
      have hout : ∀ x ∈ c.Next ++ c.Outs, 0 ≤ bec B2 (bec B x) ∧ bec B2 (bec B x) < 2 * ((b : Int) + H.length) := fun x hx => by
        obtain ⟨y0, y1, yk⟩ := hmid x hx
        have h1 := kev (bec B x / 2).toNat (by omega)
        have h2 := kkp (bec B x / 2).toNat (by omega) yk
        rw [bec_even y0 h1.1]
        omega
      have hBn : ∀ y ∈ B, 0 ≤ y := fun y hy => (g3 y hy).1
      have hlit : ∀ V : List Bool, V.length = b → V[0]? = some false → ∀ x ∈ c.Next ++ c.Outs, lit (evG V H) (bec B2 (bec B x)) = lit (evG V c.Gates) x := fun V hV hz x hx => by
        obtain ⟨x0, x1⟩ := hin x hx
        obtain ⟨y0, y1, yk⟩ := hmid x hx
        have h1 := kev (bec B x / 2).toNat (by omega)
        rw [bec_lit1 (W := evG V G) y0 h1.2.1 (kS V hV _ (by omega) yk), bec_lit hBn (gS V hV hz) x0 x1]
      have hdep : ∀ x ∈ c.Next ++ c.Outs, dep (dG (List.replicate b 0) H) (bec B2 (bec B x)) ≤ dep (dG (List.replicate b 0) c.Gates) x := fun x hx => by
        obtain ⟨x0, x1⟩ := hin x hx
        obtain ⟨y0, y1, yk⟩ := hmid x hx
        have h1 := kev (bec B x / 2).toNat (by omega)
        rw [bec_dep1 (E := dG (List.replicate b 0) G) y0 h1.1 (kD _ (by omega) yk)]
        exact bec_dep hBn gD x0 x1
      have hmapN : (c.Next.map (bec B)).map (bec B2) = c.Next.map (fun x => bec B2 (bec B x)) := by rw [List.map_map]; rfl
      have hmapO : (c.Outs.map (bec B)).map (bec B2) = c.Outs.map (fun x => bec B2 (bec B x)) := by rw [List.map_map]; rfl
      have hNO : (c.Next.map (bec B)).map (bec B2) ++ (c.Outs.map (bec B)).map (bec B2) = (c.Next ++ c.Outs).map (fun x => bec B2 (bec B x)) := by rw [hmapN, hmapO, List.map_append]
      have hrng : ∀ y ∈ (c.Next.map (bec B)).map (bec B2) ++ (c.Outs.map (bec B)).map (bec B2), 0 ≤ y ∧ y < 2 * ((b : Int) + H.length) := fun y hy => by
        rw [hNO, List.mem_map] at hy
        obtain ⟨x, hx, rfl⟩ := hy
        exact hout x hx
      have ht : circOk ⟨c.Inputs, c.Latches, (c.Next.map (bec B)).map (bec B2), H, (c.Outs.map (bec B)).map (bec B2)⟩ = true :=
        circT_ok hc hb k4 (by omega) (by simp) (by simp) (fun x hx => hrng x (List.mem_append_left _ hx)) (fun x hx => hrng x (List.mem_append_right _ hx))
      have hU : Used b H ((c.Next.map (bec B)).map (bec B2) ++ (c.Outs.map (bec B)).map (bec B2)) := by
        have := used_of hQ0 g4 (R := c.Next.map (bec B) ++ c.Outs.map (bec B)) (fun x hx => by
          rw [← List.map_append, List.mem_map] at hx
          obtain ⟨y, hy, rfl⟩ := hx
          exact ⟨(hmid y hy).1, (hmid y hy).2.1⟩) m4
        rw [List.map_append] at this
        exact this
      refine ⟨_, e1, ht, rfl, rfl, by dsimp only; omega, by simp, kN, ⟨_, _, i_depth ht hb, s_depth hc hb, ?_⟩, fun l n => ?_, ?_⟩
      · unfold dOf
        dsimp only
        rw [hNO]
        exact dOf_le _ _ _ (Int.le_refl _) hdep
      · refine step_eq hc ht rfl rfl (fun l n => ?_) l n
        have hV : (V0 c.Inputs.toNat c.Latches.toNat l n).length = b := by
          rw [V0_len]
          unfold base at hb
          omega
        dsimp only
        rw [hmapN, hmapO]
        exact ⟨numAt_map _ _ fun x hx => hlit _ hV (V0_zero _ _ _ _) x (List.mem_append_left _ hx), numAt_map _ _ fun x hx => hlit _ hV (V0_zero _ _ _ _) x (List.mem_append_right _ hx)⟩
      · obtain ⟨M', n1, n2, n3, n4, e2⟩ := tidied_eq ht hb (p1_neat k4 kN)
        have hid : ∀ xs : List Int, (∀ x ∈ xs, 0 ≤ x ∧ x < 2 * ((b : Int) + H.length)) → xs.map (bec (evens (b + H.length))) = xs := fun xs hx => by
          conv => rhs; rw [← List.map_id xs]
          refine List.map_congr_left fun x hm => ?_
          obtain ⟨x0, x1⟩ := hx x hm
          have e := at0_evens (n := b + H.length) (s := (x / 2).toNat) (by omega)
          rw [bec_even x0 (by rw [e]; omega), e]
          show _ = x
          omega
        dsimp only at e2 n1 n2 n3 n4
        have hidN := hid _ (fun x hx => hrng x (List.mem_append_left _ hx))
        have hidO := hid _ (fun x hx => hrng x (List.mem_append_right _ hx))
        rw [hidN, hidO] at e2 n2
        have hall := all_marked hU n2 (fun i x hx hm => n3 i x hx (by omega) (by rw [show (b : Int) + i = ((b + i : Nat) : Int) from by omega]; exact hm))
        rw [p2_all k4 hall] at e2
        dsimp only at e2
        rw [hidN, hidO] at e2
        exact e2
theorem FnTidied_law {p0 : List Int} (ok0 : okS U8 p0) : l_FnTidied p0 = some true := by
  unfold l_FnTidied l_big
  rw [Option.bind_some]
  by_cases hbig : 4096 < (p0.length : Int)
  · simp only [hbig, decide_true, cond_true]
  · simp only [hbig, decide_false, cond_false]
    obtain ⟨c, e0, hg⟩ := tidied_d (b := p0) (by omega)
    rw [e0, Option.bind_some, s_CircuitOk_eq]
    cases hc : circOk c with
    | false =>
      unfold i_TidiedCircuit
      rw [i_isCircuit_eq, hc]
      rfl
    | true =>
      obtain ⟨t, e1, t1, t2, t3, t4, t5, t6, ⟨x, y, d1, d2, d3⟩, t7, t8⟩ := tidied_all hc
      have f1 : decide ((c.Gates.length : Int) < (t.Gates.length : Int)) = false := decide_eq_false (by omega)
      have f2 : ((t.Outs.length : Int) != (c.Outs.length : Int)) = false := by rw [t5]; simp
      have f3 : (t.Latches != c.Latches) = false := by rw [t3]; simp
      have f4 : decide (y < x) = false := decide_eq_false (by omega)
      rw [e1]
      simp only [Option.bind_some, Bool.not_true, cond_false]
      rw [s_CircuitOk_eq, t1]
      simp only [Option.bind_some, Bool.not_true, cond_false, f1, f2, f3, d1, d2, f4]
      obtain ⟨_, g1, _⟩ := cnt_inv (f := l_FnTidied_b0 t) (fun _ _ => True) t.Gates.length (s := ()) trivial (fun i s hi _ => by
        have hr : rng (i : Int) = some () := by
          have := circHead_in (circOk_spec t1).1
          unfold rng; rw [if_pos (by omega)]
        obtain ⟨_, q1, _⟩ := cnt_inv (f := l_FnTidied_b2 t (i : Int)) (fun _ _ => True) i (s := ()) trivial (fun k s hk _ => by
          have hx : t.Gates[k]? = some (t.Gates[k]'(by omega)) := List.getElem?_eq_getElem (by omega)
          have hy : t.Gates[i]? = some (t.Gates[i]'hi) := List.getElem?_eq_getElem hi
          have hne := t6.2 k i _ _ hx hy hk
          generalize t.Gates[k]'(by omega) = g at hx hne
          generalize t.Gates[i]'hi = g' at hy hne
          have hb : ((g.A == g'.A) && (g.B == g'.B)) = false := by
            rw [Bool.eq_false_iff]
            intro h
            simp only [Bool.and_eq_true, beq_iff_eq] at h
            obtain ⟨gA, gB⟩ := g
            obtain ⟨gA', gB'⟩ := g'
            dsimp only at h
            exact hne (by rw [h.1, h.2])
          unfold l_FnTidied_b2
          rw [idx_nat, idx_nat, hx, hy]
          refine ⟨(), ?_, trivial⟩
          simp only [Option.bind_some, hb, cond_false])
        unfold l_FnTidied_b0
        rw [hr, Option.bind_some, Int.sub_zero, Int.toNat_natCast, q1]
        exact ⟨(), rfl, trivial⟩)
      rw [g1, Option.bind_some, aft_inr]
      obtain ⟨_, g2, _⟩ := cnt_inv (f := l_FnTidied_b4 c t) (fun _ _ => True) 8 (s := ()) trivial (fun v s hv _ => by
        obtain ⟨u1, u2, h1, h2⟩ := StepOf_same t (v : Int) (Int.tmod (v : Int) 2)
        obtain ⟨w1, w2, h3, h4⟩ := t7 (v : Int) (Int.tmod (v : Int) 2)
        rw [h3] at h1
        cases h1
        unfold l_FnTidied_b4
        rw [h2, h4]
        refine ⟨(), ?_, trivial⟩
        simp only [Option.bind_some, bne_self_eq_false, cond_false])
      rw [show Int.toNat (8 - 0) = 8 from rfl, g2, Option.bind_some, aft_inr, t8]
      simp only [Option.bind_some, beq_self_eq_true, cond_true, likeInts_refl]
end Go.Proofs.Ythjkonkcdfdfaaa
