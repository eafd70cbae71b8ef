/- DepthOf: what both sides compute. -/
import Derived.Test.YtpmnpdphailagaaCircuitOkLaw
set_option linter.unusedVariables false
set_option linter.unusedSimpArgs false
namespace Go.Proofs.Ytpmnpdphailagaa
open Go Go.Wk Go.Proofs

theorem s_l1Max_eq (a b : Int) : s_l1Max a b = some (if a < b then b else a) := by
  unfold s_l1Max
  by_cases h : a < b <;> by_cases h' : b < a <;> simp [h, h'] <;> omega

/-- the depths of the first signals, gate by gate -/
def dl (c : Circuit) : Nat → List Int
  | 0 => List.replicate (1 + c.Inputs + c.Latches).toNat 0
  | j + 1 => match c.Gates[j]? with
    | some g => dl c j ++ [1 + (if (dl c j).getD (g.A / 2).toNat 0 < (dl c j).getD (g.B / 2).toNat 0 then (dl c j).getD (g.B / 2).toNat 0 else (dl c j).getD (g.A / 2).toNat 0)]
    | none => dl c j
theorem dl_len {c : Circuit} (h : 0 ≤ 1 + c.Inputs + c.Latches) : ∀ j, j ≤ c.Gates.length → (dl c j).length = (1 + c.Inputs + c.Latches).toNat + j
  | 0, _ => by simp [dl]
  | j + 1, hj => by
    have hx : c.Gates[j]? = some c.Gates[j] := List.getElem?_eq_getElem (by omega)
    simp only [dl, hx, List.length_append, dl_len h j (by omega), List.length_singleton]
    omega
theorem dl_bd {c : Circuit} : ∀ j, ∀ x ∈ dl c j, 0 ≤ x ∧ x ≤ j
  | 0, x, hx => by simp [dl] at hx; omega
  | j + 1, x, hx => by
    unfold dl at hx
    split at hx
    · rename_i g hg
      have hd : ∀ i : Nat, 0 ≤ (dl c j).getD i 0 ∧ (dl c j).getD i 0 ≤ j := fun i => by
        by_cases hi : i < (dl c j).length
        · have := dl_bd (c := c) j (dl c j)[i] (by simp)
          simpa [List.getD, hi] using this
        · simp [List.getD, hi]
      rcases List.mem_append.1 hx with h | h
      · have := dl_bd j x h; omega
      · have h := List.mem_singleton.1 h
        have h1 := hd (g.A / 2).toNat
        have h2 := hd (g.B / 2).toNat
        subst h
        split <;> omega
    · have := dl_bd j x hx; omega

theorem tdiv2 {x : Int} (h : 0 ≤ x) : Int.tdiv x 2 = x / 2 := Int.tdiv_eq_ediv_of_nonneg h

theorem lit_in {n x : Int} (h : inR (2 * n) x = true) : 0 ≤ x ∧ x / 2 < n ∧ 0 ≤ x / 2 := by
  simp [inR] at h
  omega

theorem circOk_in {c : Circuit} (h : circOk c = true) : circHead c = true ∧ (∀ (i : Nat) g, c.Gates[i]? = some g → gateOk c i g = true) ∧ (∀ x ∈ c.Next, inR (2 * sigs c) x = true) ∧ (∀ x ∈ c.Outs, inR (2 * sigs c) x = true) := by
  simp only [circOk, Bool.and_eq_true, List.all_eq_true] at h
  refine ⟨h.1.1.1, fun i g hg => ?_, h.1.2, h.2⟩
  have := h.1.1.2 (g, i) (by rw [List.mem_zipIdx_iff_getElem?]; exact hg)
  exact this

def mx (D : List Int) (s x : Int) : Int := if s < D.getD (x / 2).toNat 0 then D.getD (x / 2).toNat 0 else s
def depthOf (c : Circuit) : Int := if circOk c then (c.Next ++ c.Outs).foldl (mx (dl c c.Gates.length)) 0 else -1

theorem gate_at {c : Circuit} {j : Nat} {D : List Int} {x : Int} (hl : (1 + c.Inputs + c.Latches).toNat + j ≤ D.length) (h0 : 0 ≤ 1 + c.Inputs + c.Latches) (hi : inR (2 * (1 + c.Inputs + c.Latches + j)) x = true) (hs : c.Inputs ≤ 4 ∧ c.Latches ≤ 6 ∧ j ≤ 8000) :
    idx D (IntKind.i64.wrap (Int.tdiv x 2)) = some (D.getD (x / 2).toNat 0) := by
  obtain ⟨h1, h2, h3⟩ := lit_in hi
  rw [tdiv2 h1, wr' (by omega) (by omega), idx_int h3]
  have : (x / 2).toNat < D.length := by omega
  simp [List.getD, this]

theorem s_DepthOf_eq (c : Circuit) : s_DepthOf c = some (depthOf c) := by
  unfold s_DepthOf depthOf
  rw [s_CircuitOk_eq, Option.bind_some]
  cases hc : circOk c with
  | false => rfl
  | true =>
    obtain ⟨hh, hg, hn, ho⟩ := circOk_in hc
    have hb := circHead_in hh
    simp only [Bool.not_true, cond_false, if_true]
    rw [wr' (z := 1 + c.Inputs) (by omega) (by omega), wr' (z := 1 + c.Inputs + c.Latches) (by omega) (by omega)]
    have hm0 : mkS 8 (1 + c.Inputs + c.Latches) (0 : Int) = some (dl c 0) := by
      have := mkS_nat (bytes := 8) (m := (1 + c.Inputs + c.Latches).toNat) (z := (0 : Int)) (by omega) rfl
      rw [show ((1 + c.Inputs + c.Latches).toNat : Int) = 1 + c.Inputs + c.Latches from by omega] at this
      exact this
    rw [hm0, Option.bind_some]
    obtain ⟨D, h1, h2⟩ := cnt_inv (f := s_DepthOf_b0 c) (fun j s => s = dl c j) c.Gates.length (s := dl c 0) rfl fun j s hj hs => by
      subst hs
      have hx : c.Gates[j]? = some c.Gates[j] := by simp [hj]
      have hgj := hg j _ hx
      simp only [gateOk, Bool.and_eq_true] at hgj
      have hl := dl_len (c := c) (by omega) j (by omega)
      have e1 := gate_at (D := dl c j) (j := j) (by omega) (by omega) hgj.1 (by omega)
      have e2 := gate_at (D := dl c j) (j := j) (by omega) (by omega) hgj.2 (by omega)
      have hd : ∀ i : Nat, 0 ≤ (dl c j).getD i 0 ∧ (dl c j).getD i 0 ≤ j := fun i => by
        by_cases hi : i < (dl c j).length
        · have := dl_bd (c := c) j (dl c j)[i] (by simp)
          simpa [List.getD, hi] using this
        · simp [List.getD, hi]
      have d1 := hd (c.Gates[j].A / 2).toNat
      have d2 := hd (c.Gates[j].B / 2).toNat
      unfold s_DepthOf_b0
      simp only [idx_nat, hx, Option.bind_some, e1, e2, s_l1Max_eq]
      rw [wr' (by split <;> omega) (by split <;> omega)]
      refine ⟨dl c (j + 1), ?_, rfl⟩
      have : appS 8 (dl c j) [1 + (if (dl c j).getD (c.Gates[j].A / 2).toNat 0 < (dl c j).getD (c.Gates[j].B / 2).toNat 0 then (dl c j).getD (c.Gates[j].B / 2).toNat 0 else (dl c j).getD (c.Gates[j].A / 2).toNat 0)] = some (dl c (j + 1)) := by
        unfold appS
        rw [if_pos (by simp only [List.length_singleton]; omega)]
        simp only [dl, hx]
      rw [this]
      rfl
    subst h2
    rw [h1]
    simp only [Option.bind_some, aft]
    have hl := dl_len (c := c) (by omega) c.Gates.length (Nat.le_refl _)
    have hs : sigs c = 1 + c.Inputs + c.Latches + (c.Gates.length : Int) := rfl
    have f1 := cnt_fold (f := s_DepthOf_b2 c (dl c c.Gates.length)) (mx (dl c c.Gates.length)) (xs := c.Next) (fun i x s hx => by
      unfold s_DepthOf_b2
      have hi := hn x (List.mem_of_getElem? hx)
      simp only [idx_nat, hx, Option.bind_some, gate_at (D := dl c c.Gates.length) (j := c.Gates.length) (by omega) (by omega) hi (by omega), s_l1Max_eq]
      rfl) 0
    rw [f1]
    simp only [Option.bind_some]
    have f2 := cnt_fold (f := s_DepthOf_b4 c (dl c c.Gates.length)) (mx (dl c c.Gates.length)) (xs := c.Outs) (fun i x s hx => by
      unfold s_DepthOf_b4
      have hi := ho x (List.mem_of_getElem? hx)
      simp only [idx_nat, hx, Option.bind_some, gate_at (D := dl c c.Gates.length) (j := c.Gates.length) (by omega) (by omega) hi (by omega), s_l1Max_eq]
      rfl) (c.Next.foldl (mx (dl c c.Gates.length)) 0)
    rw [f2, List.foldl_append]
    rfl

theorem i_DepthOf_eq (c : Circuit) : i_DepthOf c = some (depthOf c) := by
  unfold i_DepthOf depthOf
  have hi0 := i_CircuitOk_eq c
  unfold i_CircuitOk at hi0
  have hi : i_isCircuit c = some (circOk c) := by
    cases h : i_isCircuit c with
    | none => rw [h] at hi0; cases hi0
    | some b => rw [h] at hi0; exact hi0
  rw [hi, Option.bind_some]
  cases hc : circOk c with
  | false => rfl
  | true =>
    obtain ⟨hh, hg, hn, ho⟩ := circOk_in hc
    have hb := circHead_in hh
    have hs := sigs_in hh
    simp only [Bool.not_true, cond_false, if_true, i_signalsOf_eq hh, Option.bind_some]
    have hm0 := mkS_nat (bytes := 8) (m := (sigs c).toNat) (z := (0 : Int)) (by omega) rfl
    rw [show ((sigs c).toNat : Int) = sigs c from by omega] at hm0
    rw [hm0, Option.bind_some]
    have hsd : sigs c = 1 + c.Inputs + c.Latches + (c.Gates.length : Int) := rfl
    obtain ⟨D, h1, h2, h3⟩ := cnt_inv (f := i_DepthOf_b0 c (sigs c)) (fun j s => s.length = (sigs c).toNat ∧ s.take ((1 + c.Inputs + c.Latches).toNat + j) = dl c j) c.Gates.length (s := List.replicate (sigs c).toNat 0) ⟨by simp, by
        simp only [dl, List.take_replicate, Nat.add_zero]
        congr 1; omega⟩ fun j s hj ⟨hs1, hs2⟩ => by
      have hx : c.Gates[j]? = some c.Gates[j] := by simp [hj]
      have hgj := hg j _ hx
      simp only [gateOk, Bool.and_eq_true] at hgj
      have hl := dl_len (c := c) (by omega) j (by omega)
      have hget : ∀ x, inR (2 * (1 + c.Inputs + c.Latches + j)) x = true → s.getD (x / 2).toNat 0 = (dl c j).getD (x / 2).toNat 0 := fun x hx => by
        obtain ⟨l1, l2, l3⟩ := lit_in hx
        rw [← hs2]
        simp only [List.getD, List.getElem?_take]
        rw [if_pos (by omega)]
      have e1 := gate_at (D := s) (j := j) (by omega) (by omega) hgj.1 (by omega)
      have e2 := gate_at (D := s) (j := j) (by omega) (by omega) hgj.2 (by omega)
      rw [hget _ hgj.1] at e1
      rw [hget _ hgj.2] at e2
      have hd : ∀ i : Nat, 0 ≤ (dl c j).getD i 0 ∧ (dl c j).getD i 0 ≤ j := fun i => by
        by_cases hi : i < (dl c j).length
        · have := dl_bd (c := c) j (dl c j)[i] (by simp)
          simpa [List.getD, hi] using this
        · simp [List.getD, hi]
      have d1 := hd (c.Gates[j].A / 2).toNat
      have d2 := hd (c.Gates[j].B / 2).toNat
      unfold i_DepthOf_b0
      rw [wr' (z := sigs c - (c.Gates.length : Int)) (by omega) (by omega), wr' (z := sigs c - (c.Gates.length : Int) + (j : Int)) (by omega) (by omega)]
      have hp : sigs c - (c.Gates.length : Int) + (j : Int) = (((1 + c.Inputs + c.Latches).toNat + j : Nat) : Int) := by omega
      have hlt : (1 + c.Inputs + c.Latches).toNat + j < s.length := by omega
      simp only [idx_nat, hx, Option.bind_some, e1, e2, hp, setI_nat hlt]
      have hxx : s[(1 + c.Inputs + c.Latches).toNat + j]? = some s[(1 + c.Inputs + c.Latches).toNat + j] := by simp [hlt]
      rw [hxx, Option.bind_some, wr' (by split <;> omega) (by split <;> omega)]
      refine ⟨_, rfl, by simpa using hs1, ?_⟩
      rw [← Nat.add_assoc, List.take_add_one, List.take_set_of_le (Nat.le_refl _), hs2, List.getElem?_set_self (by omega)]
      simp only [dl, hx]
      rfl
    have h3' : D = dl c c.Gates.length := by
      rw [← h3, List.take_of_length_le (by omega)]
    subst h3'
    rw [h1]
    simp only [Option.bind_some, aft]
    have hl := dl_len (c := c) (by omega) c.Gates.length (Nat.le_refl _)
    have a1 : appS 8 ([] : List Int) c.Next = some c.Next := by
      unfold appS; rw [if_pos (by simp only [List.length_nil]; omega)]; rfl
    have a2 : appS 8 c.Next c.Outs = some (c.Next ++ c.Outs) := by
      unfold appS; rw [if_pos (by omega)]
    simp only [a1, a2, Option.bind_some]
    have f1 := cnt_fold (f := i_DepthOf_b2 (dl c c.Gates.length) (c.Next ++ c.Outs)) (mx (dl c c.Gates.length)) (xs := c.Next ++ c.Outs) (fun i x s hx => by
      unfold i_DepthOf_b2
      have hi : inR (2 * sigs c) x = true := (List.mem_append.1 (List.mem_of_getElem? hx)).elim (hn x) (ho x)
      simp only [idx_nat, hx, Option.bind_some, gate_at (D := dl c c.Gates.length) (j := c.Gates.length) (by omega) (by omega) hi (by omega)]
      rfl) 0
    rw [f1]
    rfl

theorem FnExactDepthOf_law {c : Circuit} (ok : c.ok) : l_FnExactDepthOf c = some true := by
  unfold l_FnExactDepthOf
  obtain ⟨v, hv, _, hb⟩ := l_szCircuit_law ok (m := 1048576) (by omega) (by omega)
  rw [hv, Option.bind_some]
  by_cases h : v < 0
  · simp only [h, decide_true, cond_true]
  · have hb := hb (by omega)
    simp only [h, decide_false, cond_false, l_toCircuit_id hb, Option.bind_some, s_DepthOf_eq, i_DepthOf_eq, l_eqCircuit_refl, bne_self_eq_false, Bool.not_true]
end Go.Proofs.Ytpmnpdphailagaa
