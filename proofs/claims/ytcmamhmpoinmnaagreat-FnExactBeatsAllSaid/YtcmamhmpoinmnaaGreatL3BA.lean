/- A rival against clauses: both sides compute the same. -/
import Derived.Test.YtcmamhmpoinmnaaGreatL2BA
import Derived.Test.YtcmamhmpoinmnaaGreatL1BA
set_option linter.unusedVariables false
set_option linter.unusedSimpArgs false
namespace Go.Proofs.YtcmamhmpoinmnaaGreat
open Go Go.Wk Go.Proofs
abbrev BT := List Key × List (List Int) × Int × List (Key × Int)
abbrev BS := List (List Int) × List (List Int) × Int
def RowsEq (A B : List (List Int)) : Prop := A.length = B.length ∧ ∀ (j : Nat) a b, A[j]? = some a → B[j]? = some b → SetR a b
theorem RowsEq.add {A B : List (List Int)} (h : RowsEq A B) {a b : List Int} (hab : SetR a b) : RowsEq (A ++ [a]) (B ++ [b]) := by
 refine ⟨by simp [h.1], fun j x y hx hy => ?_⟩
 by_cases e : j < A.length
 · rw [List.getElem?_append_left e] at hx
   rw [List.getElem?_append_left (by have := h.1; omega)] at hy
   exact h.2 j x y hx hy
 · have hj := (List.getElem?_eq_some_iff.1 hx).1
   rw [List.length_append] at hj
   simp only [List.length_cons, List.length_nil] at hj
   have ej : j = A.length := by omega
   subst ej
   simp at hx
   rw [h.1] at hy
   simp at hy
   rw [← hx, ← hy]
   exact hab
structure InvB (r : Rival) (d : Det) (ins : Int) (k : Nat) (s : BS) (t : BT) : Prop where
 met : s.1 = t.1.map toR
 ii : s.2.2 = t.2.2.1
 kin : KinB r d t.1
 i0 : 0 ≤ t.2.2.1
 i1 : t.2.2.1 ≤ t.1.length
 le : t.1.length ≤ 256
 ix : t.2.2.2 = ixm 0 t.1
 pr : Prod (kyB r d ins) k t.1 t.2.2.1.toNat t.2.1
 rows : RowsEq s.2.1 t.2.1
section
variable {p : Sig} {r : Rival} {d : Det} (hs : sigOk p = true) (hr : rivalOk p r = true) (hd : detOk p d = true) {k : Nat} (hk : pw p.Out = (k : Int))
include hs hr hd hk
theorem beats_loop : ∃ o t, whileM (s_BeatsAll_b0 p r (d, true)) (2 ^ 64) ([[0, 0]], [], 0) = some o ∧ whileM (i_BeatsAll_b0 p r (d, true)) (2 ^ 64) ([(0, 0)], [], 0, ixm 0 [(0, 0)]) = some t ∧
 ((∃ s' t', o = .inr s' ∧ t = .inr t' ∧ InvB r d (pw p.In) k s' t' ∧ t'.2.2.1 = t'.1.length) ∨ (o = .inl false ∧ t = .inl false)) := by
 obtain ⟨r1, r2, r3, r4, r5⟩ := rivalOk_spec hr
 obtain ⟨d1, d2, _, _⟩ := detOk_spec hd
 have pO := pw_le p.Out
 obtain ⟨o, t, h1, h2, h3⟩ := while_sim (f := s_BeatsAll_b0 p r (d, true)) (g := i_BeatsAll_b0 p r (d, true)) (fun s t => InvB r d (pw p.In) k s t) (fun s => 300 - s.2.2.toNat) (fun r r' => r = false ∧ r' = false) (fun s t => InvB r d (pw p.In) k s t ∧ t.2.2.1 = t.1.length) (fun s t hI => by
  obtain ⟨met, nS, i'⟩ := s
  obtain ⟨K, nI, ii, ix⟩ := t
  have m1 := hI.met
  have m2 := hI.ii
  have m3 := hI.ix
  have hK := hI.kin
  have i0 := hI.i0
  have i1 := hI.i1
  have hle := hI.le
  have hP := hI.pr
  have hR := hI.rows
  dsimp only at m1 m2 m3 hK i0 i1 hle hP hR
  subst m1 m2 m3
  unfold s_BeatsAll_b0 i_BeatsAll_b0
  dsimp only
  rw [List.length_map]
  by_cases hlt : i' < (K.length : Int)
  · obtain ⟨i, rfl⟩ := ex_nat i0
    obtain ⟨v, hv⟩ : ∃ v, K[i]? = some v := ⟨_, List.getElem?_eq_getElem (by omega)⟩
    obtain ⟨v0, v1, v2, v3⟩ := hK _ (List.mem_of_getElem? hv)
    obtain ⟨row, hrow, hmem⟩ := get_el (xs := r.Next) v0 (by omega)
    have hrl : row.length = k := by have := (r5 row hmem).1; omega
    obtain ⟨R, hS, hSR⟩ := s_rowB hs hr hd hk (by omega) hK hv (M := K.map toR) (N := nS)
    have hI' := i_rowB hs hr hd hk (by omega) hK (List.mem_of_getElem? hv) hrow
    have hK' := rowB_in hr hd hk hK (List.mem_of_getElem? hv) k (Nat.le_refl _)
    have rk := rowK_ok (kyB r d (pw p.In) v) K k
    rw [Int.toNat_natCast] at hP
    have hst := hP.step hv
    generalize rowK (kyB r d (pw p.In) v) K k = F at *
    have hnI := hP.rl
    have hnS := hR.1
    rw [decide_eq_true hlt, cond_true, cond_true, hS, Option.bind_some, aft_inr]
    rw [idx_nat, hv, Option.bind_some, Option.bind_some, hrow, Option.bind_some, hrl, hI', Option.bind_some, aft_inr]
    dsimp only
    rw [List.length_map]
    by_cases hbig : (256 : Int) < (F.1.length : Int)
    · rw [decide_eq_true hbig]
      exact ⟨.inl false, .inl false, rfl, rfl, rfl, rfl⟩
    · rw [decide_eq_false hbig, cond_false, cond_false, app1 (by omega) rfl, Option.bind_some, app1 (by omega) rfl, Option.bind_some, wr' (by omega) (by omega)]
      have hg := (List.getElem?_eq_some_iff.1 (rk.pre i v hv)).1
      refine ⟨.inr (.inr (F.1.map toR, nS ++ [R], (i : Int) + 1)), .inr (.inr (F.1, nI ++ [F.2], (i : Int) + 1, ixm 0 F.1)), rfl, rfl, ⟨rfl, rfl, hK', by dsimp only; omega, by dsimp only; omega, by dsimp only; omega, rfl, ?_, hR.add hSR⟩, ?_⟩
      · dsimp only
        rw [show ((i : Int) + 1).toNat = i + 1 from by omega]
        exact hst
      · dsimp only; omega
  · rw [decide_eq_false hlt, cond_false, cond_false]
    exact ⟨.inr (.inl (K.map toR, nS, i')), .inr (.inl (K, nI, i', ixm 0 K)), rfl, rfl, hI, by dsimp only; omega⟩) (2 ^ 64) (2 ^ 64) ([[0, 0]], [], 0) ([(0, 0)], [], 0, ixm 0 [(0, 0)]) (by show 300 - 0 < _; omega) (by show 300 - 0 < _; omega) ⟨rfl, rfl, fun v hv => by
     rw [List.mem_singleton.1 hv]
     exact ⟨by simp, by show (0 : Int) < _; omega, by simp, by show (0 : Int) < _; omega⟩, by simp, by simp, by simp, rfl, Prod.init _ _, ⟨rfl, fun j a b h => by simp at h⟩⟩
 match o, t, h3 with
 | .inl r, .inl r', h3 => exact ⟨_, _, h1, h2, .inr ⟨by rw [h3.1], by rw [h3.2]⟩⟩
 | .inr s, .inr t', h3 => exact ⟨_, _, h1, h2, .inl ⟨s, t', rfl, rfl, h3.1, h3.2⟩⟩
end
theorem plK_sw (K : List Key) (S : List Int) : ∀ j, plK (fun v => bif false then v.2 else v.1) (K.map sw) S j = plK (·.2) K S j
 | 0 => rfl
 | j + 1 => by
  have e : ∀ (part : Key → Int) (K : List Key), plK part K S (j + 1) = plK part K S j ++ (match K[j]? with | some v => if part v ∈ S then [(j : Int)] else [] | none => []) := fun _ _ => rfl
  rw [e, e, plK_sw K S j, List.getElem?_map]
  cases K[j]? <;> rfl
theorem i_pairsB {K : List Key} (hl : K.length ≤ 300) {nI : List (List Int)} {ii : Int} {ix : List (Key × Int)} {d : Det} (hd : d.Pairs.length ≤ 4) : cntM (i_BeatsAll_b4 (d, true) (K, nI, ii, ix)) d.Pairs.length 0 [] = some (.inr (d.Pairs.map (plP (·.2) K))) := by
 obtain ⟨s, h1, h2⟩ := cnt_inv (f := i_BeatsAll_b4 (d, true) (K, nI, ii, ix)) (fun j s => s = (d.Pairs.take j).map (plP (·.2) K)) d.Pairs.length (s := []) (by simp) (fun j s hj hs => by
  subst hs
  have hp : d.Pairs[j]? = some d.Pairs[j] := List.getElem?_eq_getElem hj
  generalize d.Pairs[j] = p at hp
  obtain ⟨t, k1, k2⟩ := cnt_inv (f := i_BeatsAll_b6 (K, nI, ii, ix) p) (fun i s => s = (plK (·.2) K p.Ask i, plK (·.2) K p.Give i)) K.length (s := ([], [])) rfl (fun i s hi hs => by
   subst hs
   have hv : K[i]? = some K[i] := List.getElem?_eq_getElem hi
   generalize K[i] = v at hv
   have q1 := plK_step (part := (·.2)) (S := p.Ask) hv (by omega)
   have q2 := plK_step (part := (·.2)) (S := p.Give) hv (by omega)
   unfold i_BeatsAll_b6
   dsimp only at q1 q2 ⊢
   rw [idx_nat, hv, Option.bind_some, conI, Option.bind_some, q1, Option.bind_some, conI, Option.bind_some, q2, Option.bind_some]
   exact ⟨_, rfl, rfl⟩)
  unfold i_BeatsAll_b4
  dsimp only
  rw [idx_nat, hp, Option.bind_some, k1, Option.bind_some, aft_inr, k2]
  dsimp only
  rw [app1 (by rw [List.length_map, List.length_take]; omega) rfl, Option.bind_some]
  exact ⟨_, rfl, by rw [List.take_add_one, hp, List.map_append]; rfl⟩)
 rw [h1, h2, List.take_length]
theorem AllOf_eqB {n : Nat} (h : n ≤ 256) : s_AllOf (n : Int) = some ((List.range n).map Int.ofNat) := by
 unfold s_AllOf
 obtain ⟨o, w1, w2⟩ := while_out (f := s_AllOf_b0 (n : Int)) (fun j (s : List Int × Int) => j ≤ n ∧ s.2 = (j : Int) ∧ s.1 = (List.range j).map Int.ofNat) (fun _ => False) (fun s => s.1 = (List.range n).map Int.ofNat) n (fun j s ⟨a1, a2, a3⟩ => by
  obtain ⟨xs, i⟩ := s
  dsimp only at a2 a3
  subst a2
  unfold s_AllOf_b0
  dsimp only
  by_cases hlt : j < n
  · rw [decide_eq_true (show (j : Int) < (n : Int) by omega), cond_true, Option.bind_some, decide_eq_true (show (n : Int) ≤ 256 by omega), cond_true, app1 (by rw [a3]; simp; omega) rfl, Option.bind_some]
    refine ⟨_, rfl, hlt, by omega, ?_, ?_⟩
    · dsimp only; rw [wr' (by omega) (by omega)]; omega
    · dsimp only; rw [a3, List.range_succ, List.map_append]; rfl
  · have : j = n := by omega
    subst this
    rw [decide_eq_false (Int.lt_irrefl _), cond_false, Option.bind_some, cond_false]
    exact ⟨_, rfl, a3⟩) (2 ^ 64) 0 ([], 0) (by omega) ⟨by omega, rfl, rfl⟩ (by omega)
 match o, w2 with
 | .inr s, w2 =>
  rw [w1]
  have w2 : s.1 = (List.range n).map Int.ofNat := w2
  rw [← w2]; rfl
theorem allOf_eqB {n : Nat} (h : n ≤ 256) : i_AllOf (n : Int) = some ((List.range n).map Int.ofNat) := by
 unfold i_AllOf
 rw [decide_eq_false (show ¬ (n : Int) < 0 by omega), cond_false, Option.bind_some, decide_eq_false (show ¬ (256 : Int) < (n : Int) by omega), cond_false, show Int.toNat ((n : Int) - 0) = n from by omega]
 obtain ⟨s, h1, h2⟩ := cnt_inv (f := i_AllOf_b0) (fun j (s : List Int) => s = (List.range j).map Int.ofNat) n (s := []) rfl (fun j s hj hs => by
  subst hs
  unfold i_AllOf_b0
  rw [app1 (by rw [List.length_map, List.length_range]; omega) rfl, Option.bind_some]
  exact ⟨_, rfl, by rw [List.range_succ, List.map_append]; rfl⟩)
 have : rng (n : Int) = some () := by
  unfold rng
  rw [if_pos (by omega)]
 rw [this, Option.bind_some, h1, h2]; rfl
theorem all_St (n : Nat) : St n ((List.range n).map Int.ofNat) := ⟨by
 unfold Asc
 rw [List.pairwise_map]
 exact List.pairwise_lt_range.imp fun h => by simpa using h, fun x hx => by
 obtain ⟨i, hi, rfl⟩ := List.mem_map.1 hx
 have := List.mem_range.1 hi
 simp; omega⟩
theorem Wy.edge {sc sc' : Int → List Int} (h : ∀ v u, u ∈ sc v → u ∈ sc' v) {D : Int → Prop} {v u : Int} (w : Wy sc D v u) : Wy sc' D v u := by
 induction w with
 | one k => exact .one k
 | cons k e _ ih => exact .cons k (h _ _ e) ih
theorem FairP.same {N N' : List (List Int)} (h : ∀ v u, u ∈ rowI' N v → u ∈ rowI' N' v) {pairs : List Pair} {S : List Int} (hF : FairP N pairs S) : FairP N' pairs S := by
 obtain ⟨C, h1, h2⟩ := hF
 have hm : ∀ v u, u ∈ scP N (fun z => z ∈ C) v → u ∈ scP N' (fun z => z ∈ C) v := fun v u hu => by
  obtain ⟨a, b, c⟩ := mem_scP.1 hu
  exact mem_scP.2 ⟨a, b, h v u c⟩
 exact ⟨C, h1, h2.ne, fun x hx y hy => by
  obtain ⟨z, e, w⟩ := h2.con x hx y hy
  exact ⟨z, hm _ _ e, w.edge hm⟩, h2.ok⟩
theorem RowsEq.rowI {A B : List (List Int)} (h : RowsEq A B) (v u : Int) : u ∈ rowI' A v ↔ u ∈ rowI' B v := by
 unfold rowI'
 cases e1 : idx A v with
 | none =>
  cases e2 : idx B v with
  | none => exact Iff.rfl
  | some b =>
   obtain ⟨v0, v1⟩ := idx_rng e2
   obtain ⟨x, hx, _⟩ := get_el (xs := A) v0 (by rw [h.1]; exact v1)
   rw [e1] at hx; cases hx
 | some a =>
  obtain ⟨v0, v1⟩ := idx_rng e1
  cases e2 : idx B v with
  | none =>
   obtain ⟨x, hx, _⟩ := get_el (xs := B) v0 (by rw [← h.1]; exact v1)
   rw [e2] at hx; cases hx
  | some b =>
   rw [idx_int v0] at e1 e2
   exact (h.2 _ _ _ e1 e2).2 u
theorem beats_fair {r : Rival} {d : Det} {p : Sig} {k : Nat} {s : BS} {t : BT} (hd : detOk p d = true) (h4 : k ≤ 4) (h : InvB r d (pw p.In) k s t) (hl : t.2.2.1 = t.1.length) :
 ∃ b, s_l33Fair (2 ^ 64) s.2.1 (d.Pairs.map (plP (·.2) t.1)) ((List.range t.1.length).map Int.ofNat) = some b ∧ i_fairIn (2 ^ 64) t.2.1 (d.Pairs.map (plP (·.2) t.1)) ((List.range t.1.length).map Int.ofNat) = some b := by
 have hP := h.pr
 rw [hl, Int.toNat_natCast] at hP
 have hR := h.rows
 have hle := h.le
 obtain ⟨_, _, d3, _⟩ := detOk_spec hd
 have hI : t.2.1.length = t.1.length := hP.rl
 have hS : s.2.1.length = t.1.length := by rw [hR.1]; exact hI
 have rI : ∀ v r, idx t.2.1 v = some r → r.length ≤ 10000 ∧ ∀ u ∈ r, 0 ≤ u ∧ u < t.1.length := fun v r hr => by
  obtain ⟨v0, _⟩ := idx_rng hr
  rw [idx_int v0] at hr
  obtain ⟨r1, u, r2, r3⟩ := hP.row _ r hr
  refine ⟨by omega, fun x hx => ?_⟩
  obtain ⟨i, hi⟩ := List.getElem?_of_mem hx
  have hil := (List.getElem?_eq_some_iff.1 hi).1
  obtain ⟨y, y1, y2, y3⟩ := r3 i (by omega)
  rw [hi] at y1
  cases y1
  have := (List.getElem?_eq_some_iff.1 y3).1
  omega
 have rS : ∀ v r, idx s.2.1 v = some r → r.length ≤ 10000 ∧ ∀ u ∈ r, 0 ≤ u ∧ u < t.1.length := fun v r hr => by
  obtain ⟨v0, v1⟩ := idx_rng hr
  obtain ⟨b, hb, _⟩ := get_el (xs := t.2.1) v0 (by rw [← hR.1]; exact v1)
  have hb' := hb
  have hr' := hr
  rw [idx_int v0] at hb' hr'
  have hset := hR.2 _ _ _ hr' hb'
  have hrng : ∀ u ∈ r, 0 ≤ u ∧ u < t.1.length := fun u hu => (rI v b hb).2 u ((hset.2 u).1 hu)
  have := (show St t.1.length r from ⟨hset.1, hrng⟩).len
  exact ⟨by omega, hrng⟩
 have hpp : ∀ x ∈ d.Pairs.map (plP (·.2) t.1), St t.1.length x.Ask ∧ St t.1.length x.Give := fun x hx => by
  obtain ⟨y, _, rfl⟩ := List.mem_map.1 hx
  exact ⟨plK_St _ _ _ _, plK_St _ _ _ _⟩
 have hSt := all_St t.1.length
 have hSl := hSt.len
 obtain ⟨b, b1, _, b3⟩ := fair_same hS hle rS hpp (by rw [List.length_map]; omega) _ _ (Nat.le_refl _) hSt (2 ^ 64) (2 ^ 64) (by omega) (by omega)
 obtain ⟨b', _, c2, c3⟩ := fair_same hI hle rI hpp (by rw [List.length_map]; omega) _ _ (Nat.le_refl _) hSt (2 ^ 64) (2 ^ 64) (by omega) (by omega)
 have e : b = b' := by
  rw [Bool.eq_iff_iff, b3, c3]
  exact ⟨FairP.same fun v u => (hR.rowI v u).1, FairP.same fun v u => (hR.rowI v u).2⟩
 rw [← e] at c2
 exact ⟨b, b1, c2⟩
theorem BeatsAll_same (p : Sig) {r : Rival} (hrl : r.In.length ≤ 1048576) {cs : List Clause} (hb : ∀ c ∈ cs, Clause.bd c) : ∃ b, s_BeatsAll p r cs = some b ∧ i_BeatsAll p r cs = some b := by
 unfold s_BeatsAll i_BeatsAll
 rw [i_isSig_eq, Option.bind_some]
 rcases Product_same p hb with ⟨h1, h2⟩ | ⟨hs, hc, n, D, hn, hn16, hP, hd, hl, h1, h2⟩
 · rw [h1, Option.bind_some]
   refine ⟨false, rfl, ?_⟩
   cases hs : sigOk p with
   | false => rfl
   | true =>
    rw [i_isRival_eq p r hs, h2]
    cases rivalOk p r <;> rfl
 · rw [h1, hs, i_isRival_eq p r hs, s_RivalOk_eq p r hrl, hs, h2]
   simp only [Bool.not_true, cond_false, Option.bind_some, Bool.true_and]
   cases hr : rivalOk p r with
   | false => exact ⟨false, rfl, rfl⟩
   | true =>
    have pO := pw_le p.Out
    obtain ⟨k, hk⟩ := ex_nat (z := pw p.Out) (by omega)
    obtain ⟨o, t, w1, w2, w3⟩ := beats_loop hs hr hd hk
    have hms : mset kwI2 ([] : List (Key × Int)) ((0, 0) : Key) 0 = some (ixm 0 [(0, 0)]) := by decide
    obtain ⟨_, _, d3, _⟩ := detOk_spec hd
    simp only [Bool.not_true, cond_false, hms, Option.bind_some]
    rw [w1, w2, Option.bind_some, Option.bind_some]
    rcases w3 with ⟨s', t', rfl, rfl, hI, hil⟩ | ⟨rfl, rfl⟩
    · obtain ⟨b, b1, b2⟩ := beats_fair hd (by omega) hI hil
      have hle := hI.le
      have hps := s_pairsJ (K := t'.1.map sw) (by rw [List.length_map]; omega) D.Pairs d3 false
      have hpe : D.Pairs.map (plP (fun v => bif false then v.2 else v.1) (t'.1.map sw)) = D.Pairs.map (plP (·.2) t'.1) := List.map_congr_left fun x _ => by
       unfold plP
       rw [List.length_map, plK_sw, plK_sw]
      rw [hpe, ← map_toR, ← hI.met] at hps
      have hP := hI.pr
      rw [hil, Int.toNat_natCast] at hP
      have hnI := hP.rl
      have hpi := i_pairsB (K := t'.1) (nI := t'.2.1) (ii := t'.2.2.1) (ix := t'.2.2.2) (d := D) (by omega) d3
      simp only [aft_inr]
      have hb0 : b01 false = 0 := rfl
      rw [hb0] at hps
      have hsl : s'.1.length = t'.1.length := by rw [hI.met, List.length_map]
      rw [hps, Option.bind_some, hsl, AllOf_eqB hle, Option.bind_some, b1, Option.bind_some]
      rw [show t' = (t'.1, t'.2.1, t'.2.2.1, t'.2.2.2) from rfl, hpi, Option.bind_some, aft_inr]
      dsimp only
      rw [hnI, allOf_eqB hle, Option.bind_some, b2, Option.bind_some]
      exact ⟨_, rfl, rfl⟩
    · exact ⟨false, rfl, rfl⟩
end Go.Proofs.YtcmamhmpoinmnaaGreat
set_option linter.unusedVariables false
set_option linter.unusedSimpArgs false
namespace Go.Proofs.YtcmamhmpoinmnaaGreat
open Go Go.Wk Go.Proofs
theorem FnExactBeatsAll_law {p0 : Sig} (ok0 : Sig.ok p0) {p1 : Rival} (ok1 : Rival.ok p1) {p2 : (List Clause)} (ok2 : (okS Clause.ok) p2) : l_FnExactBeatsAll p0 p1 p2 = some true :=
 FnExactBeatsAll_of ok0 ok1 ok2 fun h0 h1 => BeatsAll_same p0 (by unfold Rival.bd at h0; have := h0.1.1; first | omega | (have := h0.2.1; omega)) h1.2
end Go.Proofs.YtcmamhmpoinmnaaGreat
