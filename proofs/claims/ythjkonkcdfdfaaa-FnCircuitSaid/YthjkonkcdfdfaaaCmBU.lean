/- CircuitOf: the circuit of a machine computes the machine's steps. -/
import Derived.Test.YthjkonkcdfdfaaaCmAU
set_option linter.unusedVariables false
set_option linter.unusedSimpArgs false
namespace Go.Proofs.Ythjkonkcdfdfaaa
open Go Go.Wk Go.Proofs

theorem latches_i {m : Machine} (hn : m.Next.length ≤ 48) : ∃ L : Nat, L ≤ 6 ∧ (m.Next.length : Int) ≤ 2 ^ L ∧ whileM (i_CircuitOf_b0 m) (2 ^ 64) 0 = some (.inr (L : Int)) := by
  obtain ⟨o, h1, h2⟩ := while_out (f := i_CircuitOf_b0 m) (fun j (s : Int) => s = (j : Int) ∧ j ≤ 6) (fun _ => False) (fun s => ∃ j : Nat, s = (j : Int) ∧ j ≤ 6 ∧ (m.Next.length : Int) ≤ 2 ^ j) 6
    (fun j s ⟨e, hj⟩ => by
      subst e
      obtain ⟨s1, s2⟩ := shl_pow (x := 1) (j := j) (by omega) (by omega) (by omega)
      have hp := pow_in (j := j) (by omega)
      unfold i_CircuitOf_b0
      rw [s1, s2, Option.bind_some, Int.one_mul]
      by_cases h : (2 : Int) ^ j < (m.Next.length : Int)
      · have hj6 : j < 6 := by
          rcases Nat.lt_or_ge j 6 with h6 | h6
          · exact h6
          · have : j = 6 := by omega
            subst this
            have : (2 : Int) ^ 6 = 64 := by decide
            omega
        simp only [h, decide_true, cond_true]
        exact ⟨_, rfl, hj6, by rw [wr' (by omega) (by omega)]; omega, by omega⟩
      · simp only [h, decide_false, cond_false]
        exact ⟨_, rfl, j, rfl, hj, by omega⟩)
    (2 ^ 64) 0 0 (by omega) ⟨rfl, by omega⟩ (by omega)
  match o, h2 with
  | .inr s, ⟨j, e, hj, hle⟩ =>
    subst e
    exact ⟨j, hj, hle, h1⟩
/-- a bit of a table -/
def bt (T : List (List Int)) (n w : Int) (k : Nat) (j : Nat) : Bool := (tab T (if n ≤ (j : Int) / w then 0 else (j : Int) / w) ((j : Int) % w) / 2 ^ k) % 2 == 1
def bits (T : List (List Int)) (n w : Int) (k N : Nat) : List Bool := (List.range N).map (bt T n w k)
theorem bits_len (T : List (List Int)) (n w : Int) (k N : Nat) : (bits T n w k N).length = N := by simp [bits]
theorem bits_succ (T : List (List Int)) (n w : Int) (k N : Nat) : bits T n w k (N + 1) = bits T n w k N ++ [bt T n w k N] := by simp [bits, List.range_succ]
section
variable {T : List (List Int)} {B : Int} {w L : Nat} (hT : ∀ row ∈ T, RowIn B w row) (hT1 : 1 ≤ T.length) (hTn : T.length ≤ 48) (hB : B ≤ 48) (w1 : 1 ≤ w) (w4 : w ≤ 4) (hL : L ≤ 6)
include hT hT1 w1
theorem ent {j : Nat} : ∃ row, idx T (if (T.length : Int) ≤ (j : Int) / w then 0 else (j : Int) / w) = some row ∧ idx row ((j : Int) % w) = some (tab T (if (T.length : Int) ≤ (j : Int) / w then 0 else (j : Int) / w) ((j : Int) % w)) ∧ 0 ≤ tab T (if (T.length : Int) ≤ (j : Int) / w then 0 else (j : Int) / w) ((j : Int) % w) ∧ tab T (if (T.length : Int) ≤ (j : Int) / w then 0 else (j : Int) / w) ((j : Int) % w) < B := by
  have hd : 0 ≤ (j : Int) / w := Int.ediv_nonneg (by omega) (by omega)
  exact tab_in hT (by split <;> omega) (by split <;> omega) (Int.emod_nonneg _ (by omega)) (Int.emod_lt_of_pos _ (by omega))
include hTn hB w4 hL
omit hTn in
theorem i_bits {k : Nat} (hk : k ≤ 6) : i_CircuitOf_1 T (k : Int) (w : Int) (L : Int) (T.length : Int) = some (bits T T.length w k (2 ^ L * w)) := by
  obtain ⟨s1, s2⟩ := shl_pow (x := (w : Int)) (j := L) (by omega) (by omega) (by omega)
  obtain ⟨z1, z2⟩ := shr_pow (x := 0) (j := k) (by omega)
  have hz : 2 ^ L ≤ 2 ^ 6 := Nat.pow_le_pow_right (by omega) hL
  have hN : 2 ^ L * w ≤ 256 := Nat.le_trans (Nat.mul_le_mul hz w4) (by decide)
  have e : (w : Int) * 2 ^ L = ((2 ^ L * w : Nat) : Int) := by simp [Int.mul_comm]
  unfold i_CircuitOf_1
  rw [s1, s2, e]
  have hrng : rng ((2 ^ L * w : Nat) : Int) = some () := by unfold rng; rw [if_pos (by omega)]
  rw [hrng, Option.bind_some, Option.bind_some, Int.sub_zero, Int.toNat_natCast]
  generalize 2 ^ L * w = N at hN
  obtain ⟨s, h1, h2⟩ := cnt_inv (f := i_CircuitOf_1_b0 T (k : Int) (w : Int) (T.length : Int)) (fun j s => s = bits T T.length w k j) N (s := []) rfl (fun j s hj hs => by
    subst hs
    obtain ⟨row, r1, r2, r3, r4⟩ := ent hT hT1 w1 (j := j)
    have hnz : nz (w : Int) = some () := by unfold nz; rw [if_neg (by omega)]
    have hd : 0 ≤ (j : Int) / w ∧ (j : Int) / w ≤ j := ⟨Int.ediv_nonneg (by omega) (by omega), Int.ediv_le_self _ (by omega)⟩
    have hq : (bif decide ((T.length : Int) ≤ (j : Int) / w) then some (0 : Int) else some ((j : Int) / w)) = some (if (T.length : Int) ≤ (j : Int) / w then 0 else (j : Int) / w) := by
      by_cases h : (T.length : Int) ≤ (j : Int) / w <;> simp [h]
    obtain ⟨q1, q2⟩ := shr_pow (x := tab T (if (T.length : Int) ≤ (j : Int) / w then 0 else (j : Int) / w) ((j : Int) % w)) (j := k) (by omega)
    have hpk := pow_in (j := k) (by omega)
    have hdk : 0 ≤ tab T (if (T.length : Int) ≤ (j : Int) / w then 0 else (j : Int) / w) ((j : Int) % w) / 2 ^ k ∧ tab T (if (T.length : Int) ≤ (j : Int) / w then 0 else (j : Int) / w) ((j : Int) % w) / 2 ^ k ≤ tab T (if (T.length : Int) ≤ (j : Int) / w then 0 else (j : Int) / w) ((j : Int) % w) := ⟨Int.ediv_nonneg r3 (by omega), Int.ediv_le_self _ r3⟩
    unfold i_CircuitOf_1_b0
    rw [hnz, Option.bind_some, tdiv_pos (by omega), wr' (z := (j : Int) / w) (by omega) (by omega), hq, Option.bind_some, r1, Option.bind_some, Option.bind_some, Int.tmod_eq_emod_of_nonneg (by omega), r2, Option.bind_some, q1, Option.bind_some, q2, and1 hdk.1 (by omega), app1 (by rw [bits_len]; omega) rfl]
    exact ⟨_, rfl, (bits_succ T T.length w k j).symm⟩)
  rw [h1, h2]
  rfl
end
section
variable {p : Sig} {m : Machine} (hs : sigOk p = true) (hm : machOk p m = true) {I L w : Nat} (hI : p.In = (I : Int)) (hL : L ≤ 6) (hLn : m.Next.length ≤ 2 ^ L) (hw : pw p.In = (w : Int)) (hwI : 2 ^ I = w) (Z : List Int)
include hs hm hI hL hLn hw hwI
/-- what the literals so far say -/
structure Lits (I L w : Nat) (T : List (List Int)) (n : Int) (G : List Gate) (xs : List Int) : Prop where
  rng : ∀ x ∈ xs, 0 ≤ x ∧ x < 2 * ((1 + (I : Int) + L) + G.length)
  sem : ∀ V : List Bool, (V.length : Int) = 1 + (I : Int) + L → V[0]? = some false → ∀ (i : Nat) x, xs[i]? = some x → lit (evG V G) x = (bits T n w i (2 ^ L * w)).getD (idxV V (I + L)) false
omit hs hm hI hL hLn hw hwI in
theorem Lits.grow {T : List (List Int)} {n : Int} {G G' : List Gate} {xs : List Int} (h : Lits I L w T n G xs) {W : List Gate} (hW : G' = G ++ W) : Lits I L w T n G' xs := by
  refine ⟨fun x hx => ?_, fun V hV hz i x hx => ?_⟩
  · have := h.rng x hx
    rw [hW, List.length_append]
    omega
  · obtain ⟨x0, x1⟩ := h.rng x (List.mem_of_getElem? hx)
    rw [hW, evG_append, lit_ev W x0 (by rw [evG_len]; omega)]
    exact h.sem V hV hz i x hx
omit hs hm hI hLn hw in
theorem lits_step {T : List (List Int)} {n : Int} {G : List Gate} {kn : List (Gate × Int)} (hI2 : I ≤ 2) {j : Nat} {xs : List Int} (hx : xs.length = j) (h : Lits I L w T n G xs) (hk : Known (1 + (I : Int) + L) G kn) (hGO : GOk (1 + (I : Int) + L) G) (hG : G.length + 765 ≤ 8000) :
    ∃ y G' kn', i_builder_literalOf (2 ^ 64) ⟨⟨(I : Int), (L : Int), Z, G, []⟩, false, kn⟩ (bits T n w j (2 ^ L * w)) = some (y, G', false, kn') ∧ (∃ W, G' = G ++ W) ∧ G'.length ≤ G.length + 765 ∧ Known (1 + (I : Int) + L) G' kn' ∧ GOk (1 + (I : Int) + L) G' ∧ Lits I L w T n G' (xs ++ [y]) := by
  have hp : 2 ^ (I + L) ≤ 2 ^ 8 := Nat.pow_le_pow_right (by omega) (by omega)
  have h1 : 1 ≤ 2 ^ (I + L) := Nat.one_le_two_pow
  obtain ⟨y, G', kn', a1, ⟨W, a2⟩, a3, a4, a5, a6, a7, a8⟩ := table_sem (I + L) (2 ^ 64) ⟨(I : Int), (L : Int), Z, G, []⟩ false kn (bits T n w j (2 ^ L * w)) (by omega) (by show ((I + L : Nat) : Int) ≤ (I : Int) + L; omega) (by rw [bits_len, ← hwI, Nat.pow_add, Nat.mul_comm]) (by omega) ⟨by show (0 : Int) ≤ I; omega, by show (I : Int) ≤ 4; omega, by show (0 : Int) ≤ L; omega, by show (L : Int) ≤ 6; omega, by show (G.length : Int) ≤ 8000; omega⟩ hk hGO (by show G.length + _ ≤ 8000; omega)
  have a2 : G' = G ++ W := a2
  have a3 : G'.length ≤ G.length + 3 * (2 ^ (I + L) - 1) := a3
  have hgr := h.grow a2
  refine ⟨y, G', kn', a1, ⟨W, a2⟩, by omega, a7, a4, ⟨fun x hx => ?_, fun V hV hz i x hxi => ?_⟩⟩
  · rcases List.mem_append.1 hx with hx | hx
    · exact hgr.rng x hx
    · rw [List.mem_singleton.1 hx]; exact ⟨a5, a6⟩
  · rw [List.getElem?_append] at hxi
    split at hxi
    · exact hgr.sem V hV hz i x hxi
    · have hi : i = j := by
        have := (List.getElem?_eq_some_iff.1 hxi).1
        simp at this
        omega
      subst hi
      rw [hx, Nat.sub_self] at hxi
      cases hxi
      exact a8 V hV hz
omit hLn in
theorem circuitOf_sem1 : ∃ xs ys G, (∃ G0 kn0, cntM (i_CircuitOf_b2 m (w : Int) (L : Int) ⟨⟨(I : Int), (L : Int), Z, [], []⟩, false, []⟩) L 0 ([], [], false, []) = some (.inr (xs, G0, false, kn0)) ∧ ∃ kn, cntM (i_CircuitOf_b4 m (w : Int) (L : Int) ⟨⟨(I : Int), (L : Int), Z, [], []⟩, false, []⟩) p.Out.toNat 0 ([], G0, false, kn0) = some (.inr (ys, G, false, kn))) ∧
    xs.length = L ∧ ys.length = p.Out.toNat ∧ G.length ≤ 7000 ∧ GOk (1 + (I : Int) + L) G ∧ Lits I L w m.Next m.Next.length G xs ∧ Lits I L w m.Out m.Next.length G ys := by
  obtain ⟨n1, n2, n3, n4, n5⟩ := machOk_spec hm
  obtain ⟨hi, ho⟩ := sigOk_in hs
  have pI := pw_le p.In
  have pO := pw_le p.Out
  rw [hw] at n4 n5
  obtain ⟨O, hO⟩ := ex_nat (z := p.Out) (by omega)
  obtain ⟨s1, e1, xs, G0, kn0, rfl, k0, g0, l0, go0, li0⟩ := cnt_inv (f := i_CircuitOf_b2 m (w : Int) (L : Int) ⟨⟨(I : Int), (L : Int), Z, [], []⟩, false, []⟩) (fun j s => ∃ xs G kn, s = (xs, G, false, kn) ∧ Known (1 + (I : Int) + L) G kn ∧ G.length ≤ 765 * j ∧ xs.length = j ∧ GOk (1 + (I : Int) + L) G ∧ Lits I L w m.Next m.Next.length G xs) L (s := ([], [], false, []))
    ⟨[], [], [], rfl, fun g => rfl, by simp, rfl, fun i g hg => by simp at hg, ⟨by simp, fun V hV hz i x hx => by simp at hx⟩⟩
    (fun j s hj ⟨xs, G, kn, e, hk, hG, hx, hGO, hLi⟩ => by
      subst e
      obtain ⟨y, G', kn', a1, a2, a3, a4, a5, a6⟩ := lits_step hL hwI Z (by omega) hx hLi hk hGO (by omega)
      refine ⟨(xs ++ [y], G', false, kn'), ?_, xs ++ [y], G', kn', rfl, a4, by omega, by rw [List.length_append, hx]; rfl, a5, a6⟩
      unfold i_CircuitOf_b2
      rw [i_bits n4 n1 (by omega) (by omega) (by omega) hL (by omega), Option.bind_some]
      dsimp only
      rw [a1, Option.bind_some, app1 (by omega) rfl]
      rfl)
  obtain ⟨s2, e2, ys, G, kn, rfl, k1, g1, l1, go1, ⟨W, hW⟩, li1⟩ := cnt_inv (f := i_CircuitOf_b4 m (w : Int) (L : Int) ⟨⟨(I : Int), (L : Int), Z, [], []⟩, false, []⟩) (fun j s => ∃ ys G kn, s = (ys, G, false, kn) ∧ Known (1 + (I : Int) + L) G kn ∧ G.length ≤ 765 * (L + j) ∧ ys.length = j ∧ GOk (1 + (I : Int) + L) G ∧ (∃ W, G = G0 ++ W) ∧ Lits I L w m.Out m.Next.length G ys) O (s := ([], G0, false, kn0))
    ⟨[], G0, kn0, rfl, k0, by omega, rfl, go0, ⟨[], by simp⟩, ⟨by simp, fun V hV hz i x hx => by simp at hx⟩⟩
    (fun j s hj ⟨ys, G, kn, e, hk, hG, hx, hGO, ⟨W, hW⟩, hLi⟩ => by
      subst e
      obtain ⟨y, G', kn', a1, ⟨W', a2⟩, a3, a4, a5, a6⟩ := lits_step hL hwI Z (by omega) hx hLi hk hGO (by omega)
      refine ⟨(ys ++ [y], G', false, kn'), ?_, ys ++ [y], G', kn', rfl, a4, by omega, by rw [List.length_append, hx]; rfl, a5, ⟨W ++ W', by rw [a2, hW]; simp⟩, a6⟩
      unfold i_CircuitOf_b4
      have hb := i_bits n5 (by omega) (by omega) (by omega) (by omega) hL (k := j) (by omega)
      rw [n3] at hb
      rw [hb, Option.bind_some]
      dsimp only
      rw [a1, Option.bind_some, app1 (by omega) rfl]
      rfl)
  rw [hO, Int.toNat_natCast]
  exact ⟨xs, ys, G, ⟨G0, kn0, e1, kn, e2⟩, l0, l1, by omega, go1, li0.grow hW, li1⟩
end
/-- the steps of the circuit of a machine are those of the machine -/
def Steps (p : Sig) (m : Machine) (c : Circuit) : Prop := circOk c = true ∧ c.Inputs = p.In ∧ (c.Outs.length : Int) = p.Out ∧ ∀ l i : Nat, l < m.Next.length → (i : Int) < pw p.In → i_stepOf c l i = some (tab m.Next l i, tab m.Out l i)
theorem circuitOf_sem {p : Sig} {m : Machine} (hs : sigOk p = true) (hm : machOk p m = true) : ∃ c, i_CircuitOf p m = some (c, true) ∧ Steps p m c := by
  obtain ⟨n1, n2, n3, n4, n5⟩ := machOk_spec hm
  obtain ⟨hi, ho⟩ := sigOk_in hs
  have pI := pw_le p.In
  have pO := pw_le p.Out
  obtain ⟨I, hI⟩ := ex_nat (z := p.In) (by omega)
  obtain ⟨w, hw⟩ := ex_nat (z := pw p.In) (by omega)
  have hpw := pow_pw hs
  have hwI : 2 ^ I = w := by
    have := hpw.2
    rw [hI, Int.toNat_natCast] at this
    have e : ((2 ^ I : Nat) : Int) = (2 : Int) ^ I := by simp
    rw [← hI] at this
    omega
  obtain ⟨L, hL, hLn, w2⟩ := latches_i n2
  have eL : ((2 ^ L : Nat) : Int) = (2 : Int) ^ L := by simp
  have hLn' : m.Next.length ≤ 2 ^ L := by omega
  obtain ⟨xs, ys, G, ⟨G0, kn0, b2, kn, b3⟩, b4, b5, b6, b7, b8, b9⟩ := circuitOf_sem1 hs hm hI hL hw hwI (List.replicate L 0)
  have hmk : mkS 8 (L : Int) (0 : Int) = some (List.replicate L 0) := by
    unfold mkS
    rw [if_pos (by omega), Int.toNat_natCast]
  have hnb : i_newBuilder ⟨(I : Int), (L : Int), List.replicate L 0, [], []⟩ = some ⟨⟨(I : Int), (L : Int), List.replicate L 0, [], []⟩, false, []⟩ := by
    unfold i_newBuilder
    dsimp only
    rw [appL (by simp; omega) rfl, Option.bind_some, appL (by simp) rfl, Option.bind_some, appL (by simp) rfl]
    rfl
  have hr1 : rng (L : Int) = some () := by unfold rng; rw [if_pos (by omega)]
  have hr2 : rng p.Out = some () := by unfold rng; rw [if_pos (by omega)]
  have hsg : sigs ⟨(I : Int), (L : Int), xs, G, ys⟩ = (1 + (I : Int) + L) + G.length := rfl
  have hok : circOk ⟨(I : Int), (L : Int), xs, G, ys⟩ = true := by
    unfold circOk
    rw [hsg]
    simp only [Bool.and_eq_true, List.all_eq_true]
    refine ⟨⟨⟨?_, fun x hx => ?_⟩, fun x hx => inR_iff.2 (b8.rng x hx)⟩, fun x hx => inR_iff.2 (b9.rng x hx)⟩
    · unfold circHead
      simp only [Bool.and_eq_true, decide_eq_true_eq, beq_iff_eq]
      omega
    · obtain ⟨g, i⟩ := x
      rw [List.mem_zipIdx_iff_getElem?] at hx
      have hx : G[i]? = some g := hx
      obtain ⟨a0, a1, c0, c1⟩ := b7 i g hx
      unfold gateOk
      rw [Bool.and_eq_true]
      exact ⟨inR_iff.2 ⟨a0, a1⟩, inR_iff.2 ⟨c0, c1⟩⟩
  refine ⟨⟨(I : Int), (L : Int), xs, G, ys⟩, ?_, hok, hI.symm, by dsimp only; omega, fun l i hl hiw => ?_⟩
  · unfold i_CircuitOf
    rw [i_isSig_eq, hs]
    simp only [Option.bind_some, Bool.not_true, cond_false]
    rw [i_isMachine_eq hs, hm]
    simp only [Option.bind_some, Bool.not_true, cond_false]
    rw [i_inputsOf_eq hs, Option.bind_some, hw, w2, Option.bind_some, aft_inr, hmk, Option.bind_some, hI, hnb, Option.bind_some, hr1, Option.bind_some, Int.sub_zero, Int.toNat_natCast]
    dsimp only
    rw [b2, Option.bind_some, aft_inr, hr2, Option.bind_some, Int.sub_zero]
    dsimp only
    rw [b3]
    rfl
  · have hl2 : l < 2 ^ L := by omega
    have hi2 : i < 2 ^ I := by rw [hwI]; omega
    have e1 : (2 : Int) ^ (⟨(I : Int), (L : Int), xs, G, ys⟩ : Circuit).Latches.toNat = ((2 ^ L : Nat) : Int) := by
      show (2 : Int) ^ (L : Int).toNat = _
      rw [Int.toNat_natCast]; exact eL.symm
    have e2 : (2 : Int) ^ (⟨(I : Int), (L : Int), xs, G, ys⟩ : Circuit).Inputs.toNat = ((2 ^ I : Nat) : Int) := by
      show (2 : Int) ^ (I : Int).toNat = _
      rw [Int.toNat_natCast]; simp
    obtain ⟨s1, s2, _⟩ := stp_eq hok (l := (l : Int)) (n := (i : Int)) (by omega) (by rw [e1]; omega) (by omega) (by rw [e2]; omega)
    rw [s2, ← s1]
    rw [step_sem hok (by omega) (by have := Nat.pow_le_pow_right (n := 2) (by omega) hL; omega) (by omega) (by omega)]
    dsimp only
    rw [Int.toNat_natCast, Int.toNat_natCast]
    have hV : ((V0 I L (l : Int) (i : Int)).length : Int) = 1 + (I : Int) + L := by rw [V0_len]; omega
    have hidx := idxV_V0 hi2 hl2
    have hN : i + l * 2 ^ I < 2 ^ L * w := by
      rw [hwI]
      have : (l + 1) * w ≤ 2 ^ L * w := Nat.mul_le_mul_right w (by omega)
      rw [Nat.add_mul, Nat.one_mul] at this
      omega
    have hdiv : ((i + l * 2 ^ I : Nat) : Int) / (w : Int) = (l : Int) ∧ ((i + l * 2 ^ I : Nat) : Int) % (w : Int) = (i : Int) := by
      rw [hwI]
      have e : ((i + l * w : Nat) : Int) = (i : Int) + (l : Int) * w := by simp
      rw [e]
      constructor
      · rw [Int.add_mul_ediv_right _ _ (by omega), Int.ediv_eq_zero_of_lt (by omega) (by omega)]; omega
      · rw [Int.add_mul_emod_self_right, Int.emod_eq_of_lt (by omega) (by omega)]
    have hnum : ∀ {T : List (List Int)} {zs : List Int} (hLi : Lits I L w T m.Next.length G zs) {v : Nat} (hv : tab T l i = (v : Int)) (hvl : v < 2 ^ zs.length), numAt (evG (V0 I L (l : Int) (i : Int)) G) 0 zs = tab T l i := fun {T zs} hLi {v} hv hvl => by
      have := numAt_bits (V := evG (V0 I L (l : Int) (i : Int)) G) (v := v) zs 0 (fun j x hx => by
        rw [hLi.sem _ hV (V0_zero _ _ _ _) j x hx, hidx, Nat.zero_add]
        unfold bits
        rw [List.getD_eq_getElem?_getD, List.getElem?_map, List.getElem?_range hN]
        simp only [Option.map_some, Option.getD_some]
        unfold bt
        rw [hdiv.1, hdiv.2, if_neg (by omega), hv]
        have e : ((v : Int) / 2 ^ j) % 2 = ((v / 2 ^ j % 2 : Nat) : Int) := by simp
        rw [e, Bool.eq_iff_iff]
        simp only [beq_iff_eq]
        omega)
      rw [this, hv, Nat.pow_zero, Nat.one_mul, Nat.div_one, Nat.mod_eq_of_lt hvl]
    obtain ⟨r1, _, _, t0, t1⟩ := tab_in n4 (q := (l : Int)) (i := (i : Int)) (by omega) (by omega) (by omega) hiw
    obtain ⟨r2, _, _, u0, u1⟩ := tab_in n5 (q := (l : Int)) (i := (i : Int)) (by omega) (by omega) (by omega) hiw
    obtain ⟨v1, hv1⟩ := ex_nat t0
    obtain ⟨v2, hv2⟩ := ex_nat u0
    rw [hnum b8 hv1 (by rw [b4]; omega), hnum b9 hv2 (by
      rw [b5]
      have e : (2 : Int) ^ p.Out.toNat = pw p.Out := by rcases ho with h | h <;> rw [h] <;> decide
      have e' : ((2 ^ p.Out.toNat : Nat) : Int) = (2 : Int) ^ p.Out.toNat := by simp
      omega)]
end Go.Proofs.Ythjkonkcdfdfaaa
