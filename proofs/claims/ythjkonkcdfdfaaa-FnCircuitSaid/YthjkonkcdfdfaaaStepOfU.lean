/- StepOf: one step of a circuit; what both sides compute. -/
import Derived.Test.YthjkonkcdfdfaaaCircU
set_option linter.unusedVariables false
set_option linter.unusedSimpArgs false
namespace Go.Proofs.Ythjkonkcdfdfaaa
open Go Go.Wk Go.Proofs

theorem l31Pow_eq {j : Nat} (h : j ≤ 40) : s_l31Pow (j : Int) = some (2 ^ j) := by
  unfold s_l31Pow
  have h1 : IntKind.u64.wrap (j : Int) = (j : Int) := by rw [IntKind.wrap_u64]; omega
  rw [h1, (shl_pow (x := 1) h (by omega) (by omega)).1, Option.bind_some, (shl_pow (x := 1) h (by omega) (by omega)).2, Int.one_mul]
theorem l31Pow_int {z : Int} (h0 : 0 ≤ z) (h1 : z ≤ 40) : s_l31Pow z = some (2 ^ z.toNat) := by
  have := l31Pow_eq (j := z.toNat) (by omega)
  rwa [show ((z.toNat : Nat) : Int) = z from by omega] at this
theorem shl_int {z : Int} (h0 : 0 ≤ z) (h1 : z ≤ 40) : nn z = some () ∧ IntKind.i64.wrap (1 * 2 ^ (min (Int.toNat z) (IntKind.bits IntKind.i64))) = 2 ^ z.toNat := by
  have := shl_pow (x := 1) (j := z.toNat) (by omega) (by omega) (by omega)
  rw [show ((z.toNat : Nat) : Int) = z from by omega] at this
  exact ⟨this.1, by rw [this.2, Int.one_mul]⟩
theorem lit_rng {n : Nat} {x : Int} (h : inR (2 * n) x = true) : 0 ≤ Int.tdiv x 2 ∧ Int.tdiv x 2 < n ∧ 0 ≤ x ∧ x < 2 * n := by
  obtain ⟨h1, h2⟩ := inR_iff.1 h
  rw [tdiv_pos h1]
  omega
/-- the value of a literal, by both -/
theorem true_eq {vs : List Bool} {x : Int} (h : inR (2 * (vs.length : Nat)) x = true) (hl : (vs.length : Int) ≤ 1000000) : ∃ b, s_l31True vs x = some b ∧ i_stepOf_1 x (vs.map b2i) = some (b2i b) := by
  obtain ⟨h1, h2, h3, h4⟩ := lit_rng h
  obtain ⟨v, hv, _⟩ := get_el h1 h2
  have hi : idx (vs.map b2i) (Int.tdiv x 2) = some (b2i v) := by
    rw [idx_int h1] at hv ⊢
    rw [List.getElem?_map, hv]; rfl
  refine ⟨v != (Int.tmod x 2 == 1), ?_, ?_⟩
  · unfold s_l31True
    rw [wr' (by omega) (by omega), hv, Option.bind_some]
  · unfold i_stepOf_1
    rw [wr' (by omega) (by omega), hi, Option.bind_some, and1 h3 (by omega), b2i_mod h3, bxor_b2i]
theorem pow_div {p : Int} {j : Nat} (h0 : 0 ≤ p) (h1 : p < 1000000) (hj : j ≤ 40) : 0 ≤ p / 2 ^ j ∧ p / 2 ^ j < 1000000 := by
  have hp := pow_in hj
  have h2 : 0 ≤ p / 2 ^ j := Int.ediv_nonneg h0 (by omega)
  have h3 : p / 2 ^ j ≤ p := Int.ediv_le_self _ h0
  omega
theorem nz_pow {j : Nat} (hj : j ≤ 40) : nz ((2 : Int) ^ j) = some () := by
  have := pow_in hj
  unfold nz; rw [if_neg (by omega)]
theorem two_pow_or {n j : Nat} (h : n < 2 ^ j) : n ||| 2 ^ j = n + 2 ^ j := by
  have := Nat.two_pow_add_eq_or_of_lt h 1
  rw [Nat.mul_one] at this
  rw [Nat.or_comm, ← this]; omega
/-- a number out of literals, by both -/
theorem number_sim {vs : List Bool} {c : Circuit} {xs : List Int} (hx : xs.all (inR (2 * (vs.length : Nat))) = true) (hl : (vs.length : Int) ≤ 1000000) (hn : xs.length ≤ 8) (g : Int → Int → Option ((Int × Int) ⊕ (Int ⊕ Int)))
    (hg : ∀ v s, g v s = Option.bind (idx xs v) fun x => Option.bind (i_stepOf_1 x (vs.map b2i)) fun y => Option.bind (nn v) fun _ => some (.inr (.inr (IntKind.i64.wrap (BitVec.toNat (BitVec.ofInt (IntKind.bits IntKind.i64) s ||| BitVec.ofInt (IntKind.bits IntKind.i64) (IntKind.i64.wrap (y * 2 ^ (min (Int.toNat v) (IntKind.bits IntKind.i64)))))))))) :
    ∃ z, s_l31Number vs xs = some z ∧ cntM g xs.length 0 0 = some (.inr z) ∧ 0 ≤ z ∧ z < 2 ^ xs.length := by
  obtain ⟨s, t, h1, h2, h3, h4, h5⟩ := cnt_sim (f := s_l31Number_b0 vs xs) (g := g) (fun j s t => s = t ∧ 0 ≤ s ∧ s < 2 ^ j) xs.length (s := 0) (t := 0) ⟨rfl, by omega, by omega⟩ (fun j s t hj ⟨h1, h2, h3⟩ => by
    subst h1
    have hy : xs[j]? = some xs[j] := by simp [hj]
    rw [List.all_eq_true] at hx
    obtain ⟨b, e1, e2⟩ := true_eq (hx _ (List.mem_of_getElem? hy)) hl
    have hp := pow_in (j := j) (by omega)
    have hpp : (2 : Int) ^ (j + 1) = 2 ^ j * 2 := Int.pow_succ 2 j
    have hp8 : (2 : Int) ^ j ≤ 256 := by
      have h8 : 2 ^ j ≤ 2 ^ 8 := Nat.pow_le_pow_right (by omega) (by omega)
      have h9 : ((2 ^ j : Nat) : Int) = (2 : Int) ^ j := by simp
      omega
    unfold s_l31Number_b0
    rw [hg, idx_nat, hy]
    simp only [Option.bind_some, e1, e2]
    have hb := b2i_in b
    obtain ⟨k1, k2⟩ := shl_pow (x := b2i b) (j := j) (by omega) (by omega) (by omega)
    rw [k1, Option.bind_some, k2, l31Pow_eq (by omega)]
    cases b with
    | false =>
      refine ⟨s, s, rfl, ?_, rfl, h2, by omega⟩
      rw [show b2i false = 0 from rfl, Int.zero_mul, bor h2 (by omega) (by omega) (by omega)]
      congr 4
      simp; omega
    | true =>
      refine ⟨s + 2 ^ j, s + 2 ^ j, ?_, ?_, rfl, by omega, by omega⟩
      · simp only [cond_true, Option.bind_some]
        rw [wr' (by omega) (by omega)]
      · rw [show b2i true = 1 from rfl, Int.one_mul, bor h2 (by omega) (by omega) (by omega)]
        have h9 : ((2 : Int) ^ j).toNat = 2 ^ j := by
          have h9 : ((2 ^ j : Nat) : Int) = (2 : Int) ^ j := by simp
          omega
        rw [h9, two_pow_or (by
          have h9 : ((2 ^ j : Nat) : Int) = (2 : Int) ^ j := by simp
          omega)]
        have h9 : ((2 ^ j : Nat) : Int) = (2 : Int) ^ j := by simp
        congr 3
        omega)
  refine ⟨s, ?_, h3 ▸ h2, h4, h5⟩
  unfold s_l31Number
  rw [h1, Option.bind_some]
  rfl
/-- what a right circuit is -/
theorem circOk_spec {c : Circuit} (h : circOk c = true) : circHead c = true ∧ (∀ (i : Nat) g, c.Gates[i]? = some g → gateOk c i g = true) ∧ c.Next.all (inR (2 * sigs c)) = true ∧ c.Outs.all (inR (2 * sigs c)) = true := by
  simp only [circOk, Bool.and_eq_true] at h
  obtain ⟨⟨⟨h1, h2⟩, h3⟩, h4⟩ := h
  refine ⟨h1, fun i g hg => ?_, h3, h4⟩
  rw [List.all_eq_true] at h2
  exact h2 (g, i) (List.mem_zipIdx_iff_getElem?.2 hg)
theorem step_same {c : Circuit} {l n : Int} (hc : circOk c = true) (hl0 : 0 ≤ l) (hl1 : l < 2 ^ c.Latches.toNat) (hn0 : 0 ≤ n) (hn1 : n < 2 ^ c.Inputs.toNat) :
    ∃ a b, s_l31Step c l n = some (a, b) ∧ i_stepOf c l n = some (a, b) ∧ 0 ≤ a ∧ a < 2 ^ c.Latches.toNat ∧ 0 ≤ b ∧ b < 2 ^ c.Outs.length := by
  obtain ⟨hh, hgates, hnext, houts⟩ := circOk_spec hc
  have hb := circHead_in hh
  have hs := sigs_in hh
  obtain ⟨I, hI⟩ := ex_nat hb.1
  obtain ⟨L, hL⟩ := ex_nat hb.2.2.1
  have pI : (2 : Int) ^ c.Inputs.toNat ≤ 1099511627776 := (pow_in (by omega)).2
  have hl2 : l < 1000000 := by
    have h8 : 2 ^ c.Latches.toNat ≤ 2 ^ 6 := Nat.pow_le_pow_right (by omega) (by omega)
    have h9 : ((2 ^ c.Latches.toNat : Nat) : Int) = (2 : Int) ^ c.Latches.toNat := by simp
    omega
  have hn2 : n < 1000000 := by
    have h8 : 2 ^ c.Inputs.toNat ≤ 2 ^ 6 := Nat.pow_le_pow_right (by omega) (by omega)
    have h9 : ((2 ^ c.Inputs.toNat : Nat) : Int) = (2 : Int) ^ c.Inputs.toNat := by simp
    omega
  unfold s_l31Step i_stepOf
  have hr : ∀ z : Int, z ≤ 100 → rng z = some () := fun z hz => by unfold rng; rw [if_pos (by omega)]
  have hmk : mkC 8 1 (sigs c) (0 : Int) = some [0] := by unfold mkC; rw [if_pos ⟨by omega, by omega, by omega, by omega⟩]; rfl
  simp only [hr c.Inputs (by omega), hr c.Latches (by omega), i_signalsOf_eq hh, Option.bind_some, hmk, Int.sub_zero]
  rw [hI, hL, Int.toNat_natCast, Int.toNat_natCast]
  -- the inputs
  obtain ⟨v1, w1, e1, e2, e3, e4⟩ := cnt_sim (f := s_l31Step_b0 n) (g := i_stepOf_b0 n) (fun j (s : List Bool) t => t = s.map b2i ∧ s.length = 1 + j) I (s := [false]) (t := [0]) ⟨rfl, rfl⟩ (fun j s t hj ⟨h1, h2⟩ => by
    subst h1
    unfold s_l31Step_b0 i_stepOf_b0
    obtain ⟨k1, k2⟩ := shr_pow (x := n) (j := j) (by omega)
    have hd := pow_div hn0 hn2 (j := j) (by omega)
    rw [l31Pow_eq (by omega), Option.bind_some, nz_pow (by omega), Option.bind_some, k1, Option.bind_some, k2, tdiv_pos hn0, wr' (by omega) (by omega), and1 hd.1 (by omega), b2i_mod hd.1, app1 (by omega) rfl, app1 (by rw [List.length_map]; omega) rfl]
    exact ⟨_, _, rfl, rfl, by rw [List.map_append]; rfl, by simp; omega⟩)
  rw [e1, e2]
  simp only [Option.bind_some, aft_inr]
  obtain ⟨v2, w2, e5, e6, e7, e8⟩ := cnt_sim (f := s_l31Step_b2 l) (g := i_stepOf_b2 l) (fun j (s : List Bool) t => t = s.map b2i ∧ s.length = 1 + I + j) L (s := v1) (t := w1) ⟨e3, e4⟩ (fun j s t hj ⟨h1, h2⟩ => by
    subst h1
    unfold s_l31Step_b2 i_stepOf_b2
    obtain ⟨k1, k2⟩ := shr_pow (x := l) (j := j) (by omega)
    have hd := pow_div hl0 hl2 (j := j) (by omega)
    rw [l31Pow_eq (by omega), Option.bind_some, nz_pow (by omega), Option.bind_some, k1, Option.bind_some, k2, tdiv_pos hl0, wr' (by omega) (by omega), and1 hd.1 (by omega), b2i_mod hd.1, app1 (by omega) rfl, app1 (by rw [List.length_map]; omega) rfl]
    exact ⟨_, _, rfl, rfl, by rw [List.map_append]; rfl, by simp; omega⟩)
  rw [e5, e6]
  simp only [Option.bind_some, aft_inr]
  obtain ⟨v3, w3, e9, e10, e11, e12⟩ := cnt_sim (f := s_l31Step_b4 c) (g := i_stepOf_b4 c) (fun j (s : List Bool) t => t = s.map b2i ∧ s.length = 1 + I + L + j) c.Gates.length (s := v2) (t := w2) ⟨e7, e8⟩ (fun j s t hj ⟨h1, h2⟩ => by
    subst h1
    have hy : c.Gates[j]? = some c.Gates[j] := by simp [hj]
    have hg := hgates j _ hy
    unfold gateOk at hg
    rw [Bool.and_eq_true] at hg
    have hlen : (1 + c.Inputs + c.Latches + j : Int) = (s.length : Nat) := by omega
    rw [hlen] at hg
    obtain ⟨a, a1, a2⟩ := true_eq hg.1 (by omega)
    obtain ⟨b, b1, b2⟩ := true_eq hg.2 (by omega)
    unfold s_l31Step_b4 i_stepOf_b4
    rw [idx_nat, hy]
    simp only [Option.bind_some, a1, a2, b1, b2]
    rw [band_b2i, app1 (by rw [List.length_map]; omega) rfl]
    refine ⟨s ++ [a && b], s.map b2i ++ [b2i (a && b)], ?_, rfl, by rw [List.map_append]; rfl, by simp; omega⟩
    cases a
    · simp only [cond_false, Option.bind_some, Bool.false_and]
      rw [app1 (by omega) rfl]; rfl
    · simp only [cond_true, Option.bind_some, Bool.true_and]
      rw [app1 (by omega) rfl]; rfl)
  rw [e9, e10]
  simp only [Option.bind_some, aft_inr]
  subst e11
  have hsg : sigs c = (v3.length : Nat) := by unfold sigs; omega
  rw [hsg] at hnext houts
  obtain ⟨a, a1, a2, a3, a4⟩ := number_sim (c := c) hnext (by omega) (by omega) (i_stepOf_b6 c (v3.map b2i)) (fun v s => rfl)
  obtain ⟨b, b1, b2, b3, b4⟩ := number_sim (c := c) houts (by omega) (by omega) (i_stepOf_b8 c (v3.map b2i)) (fun v s => rfl)
  rw [a1, a2, b1]
  simp only [Option.bind_some, aft_inr]
  rw [b2]
  refine ⟨a, b, rfl, rfl, a3, ?_, b3, b4⟩
  rw [show L = c.Next.length from by omega]
  exact a4
end Go.Proofs.Ythjkonkcdfdfaaa
