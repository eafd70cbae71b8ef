/- The parts of a graph, by their least vertices: what both sides come to. Plain law. -/
import Derived.Test.YtcmamhmpoinmnaaGreatL1BR
import Derived.Test.YtcmamhmpoinmnaaGreatL0BR
import Derived.Test.YtcmamhmpoinmnaaGreatCmpBR
set_option linter.unusedVariables false
set_option linter.unusedSimpArgs false
namespace Go.Proofs.YtcmamhmpoinmnaaGreat
open Go Go.Wk Go.Proofs
open Classical
structure Gr (N : List (List Int)) (M : List Bool) (n : Nat) : Prop where
  ln : N.length = n
  lm : M.length = n
  le : n ≤ 256
  row : ∀ v r, idx N v = some r → r.length ≤ 10000 ∧ ∀ u ∈ r, 0 ≤ u ∧ u < n
noncomputable def scN (N : List (List Int)) (M : List Bool) (v : Int) : List Int := if In M v then ((idx N v).getD []).filter (fun u => decide (In M u)) else []
theorem mem_scN {N : List (List Int)} {M : List Bool} {v u : Int} : u ∈ scN N M v ↔ In M v ∧ In M u ∧ ∃ r, idx N v = some r ∧ u ∈ r := by
  unfold scN
  by_cases h : In M v
  · rw [if_pos h, List.mem_filter, decide_eq_true_eq]
    cases e : idx N v with
    | none => simp
    | some r => simp [h, and_comm]
  · rw [if_neg h]; simp [h]
def rowI' (N : List (List Int)) (v : Int) : List Int := (idx N v).getD []
def Far (sc : Int → List Int) (v : Int) : Prop := ∃ y ∈ sc v, Wy sc noV y v
def Far2 (sc : Int → List Int) (v u : Int) : Prop := ∃ y ∈ sc v, Wy sc noV y u
section
variable {sc : Int → List Int}
theorem Wy.far {v u : Int} (w : Wy sc noV v u) (h : v ≠ u) : Far2 sc v u := by
  cases w with
  | one _ => exact absurd rfl h
  | cons _ e w => exact ⟨_, e, w⟩
theorem Far2.wy {v u : Int} (h : Far2 sc v u) : Wy sc noV v u := by
  obtain ⟨y, h1, h2⟩ := h
  exact .cons id h1 h2
theorem Wy.snoc_in {D : Int → Prop} {v u : Int} (w : Wy sc D v u) : v = u ∨ ∃ z, u ∈ sc z := by
  induction w with
  | one _ => exact .inl rfl
  | cons _ e _ ih =>
    rcases ih with h | h
    · subst h; exact .inr ⟨_, e⟩
    · exact .inr h
theorem akin_far {v u : Int} (h : Akin sc v u) (hne : v ≠ u) : Far sc v ∧ Far sc u := by
  obtain ⟨y, h1, h2⟩ := h.1.far hne
  obtain ⟨z, h3, h4⟩ := h.2.far (Ne.symm hne)
  exact ⟨⟨y, h1, h2.trans h.2⟩, ⟨z, h3, h4.trans h.1⟩⟩
theorem Far.akin {v u : Int} (h : Far sc v) (k : Akin sc v u) : Far sc u := by
  by_cases e : v = u
  · subst e; exact h
  · exact (akin_far k e).2
end
theorem marksL_asc (B : List Bool) (j : Nat) : Asc (marksL B j) := by
  unfold marksL
  rw [Asc, List.pairwise_map]
  refine List.Pairwise.filter _ ?_
  exact List.pairwise_lt_range.imp fun h => by
    show (_ : Int) < _
    exact Int.ofNat_lt.2 h
noncomputable def partG (N : List (List Int)) (M : List Bool) (v : Int) : List Int := (marksL M M.length).filter (fun u => decide (Akin (scN N M) v u))
def Lead (sc : Int → List Int) (v : Int) : Prop := Far sc v ∧ ∀ w, w < v → ¬ Akin sc w v
noncomputable def loopsN (N : List (List Int)) (M : List Bool) : List (List Int) := ((marksL M M.length).filter (fun v => decide (Lead (scN N M) v))).map (partG N M)
section
variable {N : List (List Int)} {M : List Bool}
theorem mem_partG {v u : Int} : u ∈ partG N M v ↔ In M u ∧ Akin (scN N M) v u := by
  unfold partG
  rw [List.mem_filter, mem_marksL, decide_eq_true_eq]
theorem partG_asc (v : Int) : Asc (partG N M v) := (marksL_asc _ _).filter _
theorem partG_eq {v u : Int} (h : Akin (scN N M) v u) : partG N M v = partG N M u :=
  asc_eq (partG_asc _) (partG_asc _) fun z => by
    rw [mem_partG, mem_partG]
    exact ⟨fun ⟨a, b⟩ => ⟨a, h.symm.trans b⟩, fun ⟨a, b⟩ => ⟨a, h.trans b⟩⟩
theorem far_in {v : Int} (h : Far (scN N M) v) : In M v := by
  obtain ⟨y, h1, _⟩ := h
  exact (mem_scN.1 h1).1
def hdI (l : List Int) : Int := l.headD 0
theorem partG_hd {v : Int} (h : Far (scN N M) v) : ∃ t, partG N M v = hdI (partG N M v) :: t ∧ Akin (scN N M) v (hdI (partG N M v)) ∧ Lead (scN N M) (hdI (partG N M v)) := by
  have hv : v ∈ partG N M v := mem_partG.2 ⟨far_in h, Akin.refl v⟩
  cases e : partG N M v with
  | nil => rw [e] at hv; cases hv
  | cons x t =>
    have hx : x ∈ partG N M v := by rw [e]; simp
    obtain ⟨a, b⟩ := mem_partG.1 hx
    refine ⟨t, rfl, b, h.akin b, fun w hw hk => ?_⟩
    have hwx : Akin (scN N M) v w := b.trans hk.symm
    have hw' : w ∈ partG N M v := mem_partG.2 ⟨far_in (h.akin hwx), hwx⟩
    rw [e] at hw'
    have hp : Asc (x :: t) := by rw [← e]; exact partG_asc v
    rcases List.mem_cons.1 hw' with e' | e'
    · have : w < w := by rw [← e'] at hw; exact hw
      omega
    · have := (List.pairwise_cons.1 hp).1 w e'
      have : w < x := hw
      omega
theorem lead_hd {v : Int} (h : Lead (scN N M) v) : hdI (partG N M v) = v := by
  obtain ⟨t, h1, h2, h3⟩ := partG_hd h.1
  have a := h.2 (hdI (partG N M v))
  have b := h3.2 v
  have c : ¬ hdI (partG N M v) < v := fun k => a k h2.symm
  have d : ¬ v < hdI (partG N M v) := fun k => b k h2
  omega
theorem lexI_hd {a b : Int} {s t : List Int} (h : leI (a :: s) (b :: t) = true) (hne : a ≠ b) : a < b := by
  unfold leI lexI at h
  have : ¬ Go.Lib.compareInt a b = 0 := fun e => hne (cmpI_eq.1 e)
  rw [if_neg this, decide_eq_true_eq] at h
  exact cmpI_lt.1 (by omega)
theorem sort_parts {P : List (List Int)} (h1 : ∀ S ∈ P, ∃ v, Far (scN N M) v ∧ S = partG N M v) (h2 : ∀ v, Far (scN N M) v → partG N M v ∈ P) (h3 : P.Pairwise (fun S T => ∀ x ∈ S, x ∉ T)) : P.mergeSort leI = loopsN N M := by
  have hh : ∀ S ∈ P, S = partG N M (hdI S) ∧ Lead (scN N M) (hdI S) ∧ ∃ t, S = hdI S :: t := fun S hS => by
    obtain ⟨v, f, e⟩ := h1 S hS
    obtain ⟨t, k1, k2, k3⟩ := partG_hd f
    rw [← e] at k1 k2 k3
    exact ⟨e.trans (partG_eq k2), k3, t, k1⟩
  have hperm := List.mergeSort_perm P leI
  have hZ : ∀ S ∈ P.mergeSort leI, S = partG N M (hdI S) ∧ Lead (scN N M) (hdI S) ∧ ∃ t, S = hdI S :: t := fun S hS => hh S (hperm.mem_iff.1 hS)
  have hnd : (P.map hdI).Nodup := by
    rw [List.Nodup, List.pairwise_map]
    refine h3.imp_of_mem fun {S T} hS hT hd e => ?_
    obtain ⟨_, _, s, es⟩ := hh S hS
    obtain ⟨_, _, t, et⟩ := hh T hT
    refine hd (hdI S) (by rw [es]; simp [hdI]) ?_
    rw [et, ← e]; simp [hdI]
  have hndZ : ((P.mergeSort leI).map hdI).Nodup := ((hperm.map hdI).nodup_iff).2 hnd
  have hsort : (P.mergeSort leI).Pairwise (fun a b => leI a b = true) := List.pairwise_mergeSort (fun a b c => leI_trans a b c) (fun a b => leI_total a b) P
  have hasc : Asc ((P.mergeSort leI).map hdI) := by
    rw [Asc, List.pairwise_map]
    rw [List.Nodup, List.pairwise_map] at hndZ
    refine (List.Pairwise.and hsort hndZ).imp_of_mem fun {S T} hS hT ⟨a, b⟩ => ?_
    obtain ⟨_, _, s, es⟩ := hZ S hS
    obtain ⟨_, _, t, et⟩ := hZ T hT
    rw [es, et] at a
    exact lexI_hd a b
  have hmap : (P.mergeSort leI) = ((P.mergeSort leI).map hdI).map (partG N M) := by
    rw [List.map_map]
    conv => lhs; rw [← List.map_id (P.mergeSort leI)]
    exact List.map_congr_left fun S hS => (hZ S hS).1
  rw [hmap]
  unfold loopsN
  congr 1
  refine asc_eq hasc ((marksL_asc _ _).filter _) fun z => ?_
  rw [List.mem_map, List.mem_filter, mem_marksL, decide_eq_true_eq]
  constructor
  · rintro ⟨S, hS, rfl⟩
    exact ⟨far_in (hZ S hS).2.1.1, (hZ S hS).2.1⟩
  · rintro ⟨_, hl⟩
    exact ⟨partG N M z, hperm.mem_iff.2 (h2 z hl.1), lead_hd hl⟩
end
end Go.Proofs.YtcmamhmpoinmnaaGreat
set_option linter.unusedVariables false
set_option linter.unusedSimpArgs false
namespace Go.Proofs.YtcmamhmpoinmnaaGreat
open Go Go.Wk Go.Proofs
open Classical
section
variable {N : List (List Int)} {M : List Bool} {n : Nat} (g : Gr N M n)
include g
theorem back_ok : ∃ B, cntM (i_loopsIn_b0 N M) N.length 0 (List.replicate n []) = some (.inr B) ∧ B.length = n ∧ ∀ u : Int, 0 ≤ u → u < n → ∃ r, idx B u = some r ∧ ∀ v, v ∈ r ↔ u ∈ scN N M v := by
  have hn := g.le
  obtain ⟨B, h1, h2, h3⟩ := cnt_inv (f := i_loopsIn_b0 N M) (fun j (B : List (List Int)) => B.length = n ∧ ∀ u : Int, 0 ≤ u → u < n → ∃ r, idx B u = some r ∧ r.length ≤ j * 10000 ∧ ∀ v, v ∈ r ↔ v < (j : Int) ∧ u ∈ scN N M v) N.length (s := List.replicate n []) ⟨by simp, fun u u0 u1 => ⟨[], by rw [idx_int u0, List.getElem?_replicate, if_pos (by omega)], by simp, fun v => by
      constructor
      · intro h; cases h
      · rintro ⟨h, k⟩
        have := (In_of g.lm (mem_scN.1 k).1).1
        omega⟩⟩ (fun j B hj ⟨b1, b2⟩ => by
    have hrow : N[j]? = some N[j] := List.getElem?_eq_getElem hj
    generalize N[j] = row at hrow
    obtain ⟨l1, l2⟩ := g.row (j : Int) row (by rw [idx_nat]; exact hrow)
    unfold i_loopsIn_b0
    rw [idx_nat, hrow, Option.bind_some]
    have hjn : j < n := by rw [← g.ln]; exact hj
    obtain ⟨C, k1, k2, k3⟩ := cnt_inv (f := i_loopsIn_b2 M (j : Int) row) (fun i (B : List (List Int)) => B.length = n ∧ ∀ u : Int, 0 ≤ u → u < n → ∃ r, idx B u = some r ∧ r.length ≤ j * 10000 + i ∧ ∀ v, v ∈ r ↔ (v < (j : Int) ∧ u ∈ scN N M v) ∨ (v = (j : Int) ∧ In M v ∧ In M u ∧ u ∈ row.take i)) row.length (s := B) ⟨b1, fun u u0 u1 => by
        obtain ⟨r, c1, c2, c3⟩ := b2 u u0 u1
        exact ⟨r, c1, Nat.le_trans c2 (Nat.le_add_right _ _), fun v => by rw [c3]; simp⟩⟩ (fun i B hi ⟨d1, d2⟩ => by
      have hu : row[i]? = some row[i] := List.getElem?_eq_getElem hi
      generalize row[i] = u0 at hu
      obtain ⟨u00, u01⟩ := l2 u0 (List.mem_of_getElem? hu)
      have htk : row.take (i + 1) = row.take i ++ [u0] := by rw [List.take_add_one, hu]; rfl
      have hgo : ¬ (In M (j : Int) ∧ In M u0) → ∀ u : Int, 0 ≤ u → u < n → ∃ r, idx B u = some r ∧ r.length ≤ j * 10000 + (i + 1) ∧ ∀ v, v ∈ r ↔ (v < (j : Int) ∧ u ∈ scN N M v) ∨ (v = (j : Int) ∧ In M v ∧ In M u ∧ u ∈ row.take (i + 1)) := fun hno u u0' u1' => by
        obtain ⟨r, c1, c2, c3⟩ := d2 u u0' u1'
        refine ⟨r, c1, by omega, fun v => ?_⟩
        rw [c3, htk]
        constructor
        · rintro (h | ⟨h, h1, h2, h3⟩)
          · exact .inl h
          · exact .inr ⟨h, h1, h2, List.mem_append_left _ h3⟩
        · rintro (h | ⟨h, h1, h2, h3⟩)
          · exact .inl h
          · rcases List.mem_append.1 h3 with h3 | h3
            · exact .inr ⟨h, h1, h2, h3⟩
            · rw [List.mem_singleton] at h3
              exact absurd ⟨h ▸ h1, h3 ▸ h2⟩ hno
      unfold i_loopsIn_b2
      rw [idx_nat, hu, Option.bind_some, In_get (B := M) (by omega) (by rw [g.lm]; omega), Option.bind_some, In_get (B := M) u00 (by rw [g.lm]; omega)]
      by_cases h1 : In M (j : Int)
      · by_cases h2 : In M u0
        · obtain ⟨r, c1, c2, c3⟩ := d2 u0 u00 u01
          obtain ⟨B', hB', hl⟩ := setI_some (xs := B) (i := u0) (r ++ [(j : Int)]) u00 (by omega)
          simp only [decide_eq_true h1, decide_eq_true h2, cond_true, Option.bind_some, c1, app1 (show r.length ≤ 10000000000 by omega) (show Nat.ble 8 1024 = true from rfl), hB']
          refine ⟨_, rfl, by omega, fun u u0' u1' => ?_⟩
          rw [idx_setI hB']
          by_cases e : u = u0
          · subst e
            rw [if_pos rfl]
            refine ⟨_, rfl, by rw [List.length_append]; simp only [List.length_cons, List.length_nil]; omega, fun v => ?_⟩
            rw [List.mem_append, c3, List.mem_singleton, htk]
            constructor
            · rintro ((h | ⟨h, h1, h2, h3⟩) | h)
              · exact .inl h
              · exact .inr ⟨h, h1, h2, List.mem_append_left _ h3⟩
              · subst h; exact .inr ⟨rfl, h1, h2, by simp⟩
            · rintro (h | ⟨h, h1, h2, h3⟩)
              · exact .inl (.inl h)
              · exact .inr h
          · rw [if_neg e]
            obtain ⟨r, c1, c2, c3⟩ := d2 u u0' u1'
            refine ⟨r, c1, by omega, fun v => ?_⟩
            rw [c3, htk, List.mem_append, List.mem_singleton]
            simp [e]
        · simp only [decide_eq_true h1, decide_eq_false h2, cond_true, Option.bind_some, cond_false]
          exact ⟨_, rfl, d1, hgo fun h => h2 h.2⟩
      · simp only [decide_eq_false h1, Option.bind_some, cond_false]
        exact ⟨_, rfl, d1, hgo fun h => h1 h.1⟩)
    rw [k1, Option.bind_some, aft_inr]
    refine ⟨_, rfl, k2, fun u u0 u1 => ?_⟩
    obtain ⟨r, c1, c2, c3⟩ := k3 u u0 u1
    refine ⟨r, c1, by omega, fun v => ?_⟩
    rw [c3, List.take_length]
    constructor
    · rintro (⟨h, k⟩ | ⟨h, h1, h2, h3⟩)
      · exact ⟨by omega, k⟩
      · subst h
        exact ⟨by omega, mem_scN.2 ⟨h1, h2, row, by rw [idx_nat]; exact hrow, h3⟩⟩
    · rintro ⟨h, k⟩
      by_cases e : v = (j : Int)
      · subst e
        obtain ⟨h1, h2, r', e', h3⟩ := mem_scN.1 k
        rw [idx_nat, hrow] at e'
        cases e'
        exact .inr ⟨rfl, h1, h2, h3⟩
      · exact .inl ⟨by omega, k⟩)
  refine ⟨B, h1, h2, fun u u0 u1 => ?_⟩
  obtain ⟨r, c1, c2, c3⟩ := h3 u u0 u1
  refine ⟨r, c1, fun v => ?_⟩
  rw [c3]
  refine ⟨fun h => h.2, fun h => ⟨?_, h⟩⟩
  have := (In_of g.lm (mem_scN.1 h).1).2
  rw [g.ln]; exact this
def Many (N : List (List Int)) (S : List Int) : Prop := 1 < S.length ∨ ∃ v ∈ S, ∃ r, idx N v = some r ∧ v ∈ r
noncomputable def keepP (N : List (List Int)) (P : List (List Int)) : List (List Int) := (P.filter (fun S => decide (Many N S))).map fun S => S.mergeSort fun x y => decide (x ≤ y)
theorem second_ok {B : List (List Int)} {bk : Int → List Int} (hB : B.length = n) (hbr : ∀ v row, idx B v = some row → ∀ u ∈ row, 0 ≤ u ∧ u < n) (hbk : ∀ v row, In M v → idx B v = some row → bk v = row.filter (fun u => decide (In M u)))
    {L : List Int} {d0 : List Bool} (hL : L.length ≤ 256) (hLM : ∀ v ∈ L, In M v) :
    ∀ (k : Nat) (P0 : List (List Int)) (d : List Bool) (F : Nat), k ≤ L.length → P0.length + k ≤ 1000 → d.length = n → k < F →
    ∃ P d', whileM (i_loopsIn_b6 N M B (L, d0)) F (P0, (k : Int) - 1, d) = some (.inr (P0 ++ keepP N P, -1, d')) ∧ Kos bk (In d) ((L.take k).reverse) P
  | _, _, _, 0, _, _, _, h => absurd h (Nat.not_lt_zero _)
  | 0, P0, d, F + 1, _, _, hd, _ => ⟨[], d, by
      show Option.bind (i_loopsIn_b6 N M B (L, d0) (P0, ((0 : Nat) : Int) - 1, d)) _ = _
      have : keepP N [] = [] := rfl
      rw [this, List.append_nil]
      rfl, .nil⟩
  | k + 1, P0, d, F + 1, hk, hP, hd, hF => by
    have hn := g.le
    have hx : L[k]? = some L[k] := List.getElem?_eq_getElem (by omega)
    generalize L[k] = x at hx
    have hxM := hLM x (List.mem_of_getElem? hx)
    obtain ⟨x0, x1⟩ := In_of g.lm hxM
    have htk : (L.take (k + 1)).reverse = x :: (L.take k).reverse := by rw [List.take_add_one, hx]; simp
    have e1 : ((k + 1 : Nat) : Int) - 1 = (k : Int) := by omega
    have ew : IntKind.i64.wrap ((k : Int) - 1) = (k : Int) - 1 := wr' (by omega) (by omega)
    rw [htk, e1]
    show ∃ P d', Option.bind (i_loopsIn_b6 N M B (L, d0) (P0, (k : Int), d)) _ = _ ∧ _
    by_cases hdx : In d x
    · obtain ⟨P, d', w, kk⟩ := second_ok hB hbr hbk hL hLM k P0 d F (by omega) (by omega) hd (by omega)
      have st : i_loopsIn_b6 N M B (L, d0) (P0, (k : Int), d) = some (.inr (.inr (P0, (k : Int) - 1, d))) := by
        unfold i_loopsIn_b6
        dsimp only
        rw [decide_eq_true (show (0 : Int) ≤ (k : Int) by omega), cond_true, idx_nat, hx, Option.bind_some, In_get (B := d) x0 (by omega), Option.bind_some, ew, decide_eq_true hdx, cond_true]
      rw [st, Option.bind_some]
      exact ⟨P, d', w, .skip hdx kk⟩
    · obtain ⟨S, d1, v1, m1, k1⟩ := vis_ok hB g.lm hn hbr hbk (2 ^ 64) x [] d hxM hdx hd (Nat.zero_le _) (by have := cnt_le d; omega)
      have hxS : x ∈ S := (k1.mem_iff x).2 ⟨x, by simp, .one hdx⟩
      have hSl : 0 < S.length := List.length_pos_of_mem hxS
      have hcn := m1.cnt k1.nodup k1.out
      have hcl := cnt_le d1
      have hdl := m1.1
      obtain ⟨rw_, hrw⟩ := idx_some (xs := N) (i := x) x0 (by rw [g.ln]; exact x1)
      have hmany : (Option.bind (bif decide (1 < (S.length : Int)) then some true else Option.bind (idx N x) fun x116 => Option.bind (slices_Contains_I_int64 x116 x) fun x119 => some x119) fun p => if p = decide (Many N S) then some () else none) = some () := by
        by_cases h1 : 1 < S.length
        · rw [decide_eq_true (show (1 : Int) < (S.length : Int) by omega), cond_true, Option.bind_some, if_pos]
          exact (decide_eq_true (.inl h1)).symm
        · rw [decide_eq_false (show ¬ (1 : Int) < (S.length : Int) by omega), cond_false, hrw, Option.bind_some, slices_Contains_I_int64_eq, Option.bind_some, Option.bind_some, if_pos]
          rw [Bool.eq_iff_iff, List.any_eq_true, decide_eq_true_eq]
          constructor
          · rintro ⟨y, hy, e⟩
            have : x = y := by simpa using e
            exact .inr ⟨x, hxS, rw_, hrw, this ▸ hy⟩
          · rintro (h | ⟨v, hv, r, hr, hvr⟩)
            · exact absurd h h1
            · have hvx : v = x := by
                match S, hSl, h1, hxS, hv with
                | [y], _, _, hxS, hv =>
                  rw [List.mem_singleton] at hxS hv
                  rw [hxS, hv]
                | y :: z :: t, _, h1, _, _ => simp at h1
              subst hvx
              rw [hrw] at hr
              cases hr
              exact ⟨v, hvr, by simp⟩
      obtain ⟨p, hp1, hp2⟩ := Option.bind_eq_some_iff.1 hmany
      have hp : p = decide (Many N S) := Classical.byContradiction fun hne => by rw [if_neg hne] at hp2; cases hp2
      have hsl : slices_Sort_I_int64 S = some (S.mergeSort fun x y => decide (x ≤ y)) := by
        unfold slices_Sort_I_int64
        rw [if_pos ⟨hSl, by omega⟩]
      have st : i_loopsIn_b6 N M B (L, d0) (P0, (k : Int), d) = Option.bind (bif decide (Many N S) then Option.bind (appS 24 P0 [S.mergeSort fun x y => decide (x ≤ y)]) fun x124 => some x124 else some P0) fun q => some (.inr (.inr (q, (k : Int) - 1, d1))) := by
        unfold i_loopsIn_b6
        dsimp only
        rw [decide_eq_true (show (0 : Int) ≤ (k : Int) by omega), cond_true, idx_nat, hx, Option.bind_some, In_get (B := d) x0 (by omega), Option.bind_some, ew, decide_eq_false hdx, cond_false, vis_same, v1, Option.bind_some]
        dsimp only
        rw [List.nil_append, hsl, Option.bind_some, hp1, Option.bind_some, hp]
      by_cases hm : Many N S
      · have ha : appS 24 P0 [S.mergeSort fun x y => decide (x ≤ y)] = some (P0 ++ [S.mergeSort fun x y => decide (x ≤ y)]) := app1 (by omega) rfl
        obtain ⟨P, d', w, kk⟩ := second_ok hB hbr hbk hL hLM k (P0 ++ [S.mergeSort fun x y => decide (x ≤ y)]) d1 F (by omega) (by simp only [List.length_append, List.length_cons, List.length_nil]; omega) hdl (by omega)
        rw [st, decide_eq_true hm, cond_true, ha, Option.bind_some, Option.bind_some, Option.bind_some]
        refine ⟨S :: P, d', ?_, ?_⟩
        · have : keepP N (S :: P) = (S.mergeSort fun x y => decide (x ≤ y)) :: keepP N P := by
            unfold keepP
            rw [List.filter_cons, if_pos (decide_eq_true hm)]; rfl
          rw [this]
          rw [List.append_assoc] at w
          exact w
        · refine .step hdx k1 ?_
          rw [← m1.eq]; exact kk
      · obtain ⟨P, d', w, kk⟩ := second_ok hB hbr hbk hL hLM k P0 d1 F (by omega) (by omega) hdl (by omega)
        rw [st, decide_eq_false hm, cond_false, Option.bind_some, Option.bind_some]
        refine ⟨S :: P, d', ?_, ?_⟩
        · have : keepP N (S :: P) = keepP N P := by
            unfold keepP
            rw [List.filter_cons, if_neg (by simpa using hm)]
          rw [this]; exact w
        · refine .step hdx k1 ?_
          rw [← m1.eq]; exact kk
theorem i_loops : i_loopsIn N M = some (loopsN N M) := by
  have hn := g.le
  obtain ⟨B, b1, b2, b3⟩ := back_ok g
  have hbk : ∀ v u, u ∈ rowI' B v ↔ v ∈ scN N M u := fun v u => by
    unfold rowI'
    constructor
    · intro h
      cases e : idx B v with
      | none => rw [e] at h; cases h
      | some r =>
        rw [e] at h
        obtain ⟨v0, v1⟩ := idx_rng e
        obtain ⟨r', c1, c2⟩ := b3 v v0 (by omega)
        rw [e] at c1; cases c1
        exact (c2 u).1 h
    · intro h
      obtain ⟨v0, v1⟩ := In_of g.lm (mem_scN.1 h).2.1
      obtain ⟨r', c1, c2⟩ := b3 v v0 v1
      rw [c1]; exact (c2 u).2 h
  have hbin : ∀ v u, u ∈ rowI' B v → In M v ∧ In M u := fun v u h => by
    obtain ⟨a, b, _⟩ := mem_scN.1 ((hbk v u).1 h)
    exact ⟨b, a⟩
  have hrowB : ∀ v row, idx B v = some row → rowI' B v = row := fun v row e => by unfold rowI'; rw [e]; rfl
  have hfil : ∀ v row, idx B v = some row → rowI' B v = row.filter (fun u => decide (In M u)) := fun v row e => by
    rw [hrowB v row e]
    symm
    rw [List.filter_eq_self]
    intro u hu
    rw [← hrowB v row e] at hu
    exact decide_eq_true (hbin v u hu).2
  have hbr : ∀ v row, idx B v = some row → ∀ u ∈ row, 0 ≤ u ∧ u < n := fun v row e u hu => by
    rw [← hrowB v row e] at hu
    exact In_of g.lm (hbin v u hu).2
  have hs : ∀ v row, In M v → idx N v = some row → scN N M v = row.filter (fun u => decide (In M u)) := fun v row h e => by
    unfold scN
    rw [if_pos h, e]; rfl
  have h0 : ∀ x, ¬ In (List.replicate n false) x := fun x hx => by
    obtain ⟨x0, x1⟩ := In_of (n := n) (by simp) hx
    unfold In at hx
    rw [idx_int x0, List.getElem?_replicate, if_pos (by omega)] at hx
    cases hx
  have hno : In (List.replicate n false) = noV := funext fun x => propext ⟨fun h => h0 x h, fun h => h.elim⟩
  have hus : ((List.range n).map Int.ofNat).length = n := by simp
  obtain ⟨L, d1, e1, m1, k1⟩ := dfs_loop (f := i_loopsIn_b4 N M) (sc := scN N M) (M := M) (n := n) (c0 := 0) ((List.range n).map Int.ofNat) 0 [] (List.replicate n false) (fun i u ord d hu hd ho _ => by
    have hi : i < n := by have := (List.getElem?_eq_some_iff.1 hu).1; rwa [hus] at this
    have hui : u = (i : Int) := by
      rw [List.getElem?_map, List.getElem?_range hi] at hu
      exact (Option.some.inj hu).symm
    subst hui
    rw [Nat.zero_add]
    unfold i_loopsIn_b4
    dsimp only
    rw [In_get (B := M) (by omega) (by rw [g.lm]; omega), Option.bind_some, In_get (B := d) (by omega) (by omega)]
    refine ⟨fun hno => ?_, fun h1 h2 => ?_⟩
    · by_cases h1 : In M (i : Int)
      · have h2 : In d (i : Int) := Classical.byContradiction fun h => hno ⟨h1, h⟩
        simp only [decide_eq_true h1, decide_eq_true h2, cond_true, Option.bind_some, Bool.not_true, cond_false]
      · simp only [decide_eq_false h1, cond_false, Option.bind_some]
    · obtain ⟨S, d', e, mk, k⟩ := vis_ok g.ln g.lm hn (fun v row e => (g.row v row e).2) hs (2 ^ 64) (i : Int) ord d h1 h2 hd ho (by have := cnt_le d; omega)
      refine ⟨S, d', ?_, mk, k⟩
      simp only [decide_eq_true h1, decide_eq_false h2, cond_true, Option.bind_some, Bool.not_false, e]) (by simp) (Nat.zero_le _) (Nat.zero_le _)
  rw [hus] at e1
  rw [hno] at k1
  have hLin : ∀ v, v ∈ L → In M v := fun v hv => by
    obtain ⟨u, hu, w⟩ := (k1.mem_iff v).1 hv
    have huM : In M u := by simpa using (List.mem_filter.1 hu).2
    cases w.snoc_in with
    | inl h => exact h ▸ huM
    | inr h => obtain ⟨z, hz⟩ := h; exact (mem_scN.1 hz).2.1
  have hLall : ∀ v, In M v → v ∈ L := fun v hv => (k1.mem_iff v).2 ⟨v, List.mem_filter.2 ⟨by
    obtain ⟨v0, v1⟩ := In_of g.lm hv
    obtain ⟨i, hi⟩ := ex_nat v0
    subst hi
    exact List.mem_map.2 ⟨i, List.mem_range.2 (by omega), rfl⟩, by simpa using hv⟩, .one id⟩
  have hLlen : L.length ≤ 256 := by
    have := m1.cnt k1.nodup (fun x _ => h0 x)
    have := cnt_le d1
    have := m1.1
    omega
  obtain ⟨P, d', w, kk⟩ := second_ok g (d0 := d1) b2 hbr (fun v row _ e => hfil v row e) hLlen hLin L.length [] (List.replicate n false) (2 ^ 64) (Nat.le_refl _) (by simp only [List.length_nil]; omega) (by simp) (by omega)
  rw [List.take_length, hno] at kk
  obtain ⟨p1, p2, p3, p4⟩ := kos_parts hbk k1 (fun a b hb => hLall a (mem_scN.1 hb).1) noV L.reverse P kk [] (by simp) (fun x => ⟨fun h => h.elim, fun ⟨q, h, _⟩ => by cases h⟩)
  have hpart : ∀ S ∈ P, ∀ v ∈ S, (∀ x, x ∈ S ↔ Akin (scN N M) v x) ∧ In M v := fun S hS v hv => by
    obtain ⟨_, v', h1, _, h2⟩ := p1 S hS
    have hv' := (h2 v).1 hv
    refine ⟨fun x => by rw [h2]; exact ⟨fun h => hv'.symm.trans h, fun h => hv'.trans h⟩, ?_⟩
    by_cases e : v' = v
    · subst e; exact hLin _ (List.mem_reverse.1 h1)
    · exact far_in (akin_far hv' e).2
  have hsortp : ∀ S ∈ P, ∀ v ∈ S, (S.mergeSort fun x y => decide (x ≤ y)) = partG N M v := fun S hS v hv => by
    obtain ⟨hn', _⟩ := p1 S hS
    obtain ⟨h1, h2⟩ := hpart S hS v hv
    refine asc_eq (sort_asc hn') (partG_asc _) fun z => ?_
    rw [(List.mergeSort_perm S _).mem_iff, mem_partG]
    exact ⟨fun h => ⟨(hpart S hS z h).2, (h1 z).1 h⟩, fun h => (h1 z).2 h.2⟩
  have hmf : ∀ S ∈ P, ∀ v ∈ S, Many N S ↔ Far (scN N M) v := fun S hS v hv => by
    obtain ⟨h1, h2⟩ := hpart S hS v hv
    obtain ⟨hn', _⟩ := p1 S hS
    constructor
    · rintro (h | ⟨u, hu, r, hr, hur⟩)
      · have : ∃ z ∈ S, z ≠ v := Classical.byContradiction fun hno => by
          have : S.length ≤ [v].length := nodup_sub hn' fun x hx => List.mem_singleton.2 (Classical.byContradiction fun hne => hno ⟨x, hx, hne⟩)
          simp only [List.length_cons, List.length_nil] at this
          omega
        obtain ⟨z, hz, hne⟩ := this
        exact (akin_far ((h1 z).1 hz) (Ne.symm hne)).1
      · have hu' := (hpart S hS u hu).2
        have : Far (scN N M) u := ⟨u, mem_scN.2 ⟨hu', hu', r, hr, hur⟩, .one id⟩
        exact this.akin ((h1 u).1 hu).symm
    · rintro ⟨y, hy, wy⟩
      by_cases h : 1 < S.length
      · exact .inl h
      · have hyS : y ∈ S := (h1 y).2 ⟨.cons id hy (.one id), wy⟩
        have : y = v := by
          match S, h, hv, hyS with
          | [a], _, hv, hyS => rw [List.mem_singleton] at hv hyS; rw [hv, hyS]
          | a :: b :: t, h, _, _ => simp at h
        subst this
        obtain ⟨_, _, r, hr, hur⟩ := mem_scN.1 hy
        exact .inr ⟨y, hv, r, hr, hur⟩
  have hne : ∀ S ∈ P, ∃ v, v ∈ S := fun S hS => by
    obtain ⟨_, v, _, _, h⟩ := p1 S hS
    exact ⟨v, (h v).2 (Akin.refl v)⟩
  have hsp : (keepP N P).mergeSort leI = loopsN N M := by
    refine sort_parts (fun T hT => ?_) (fun v hv => ?_) ?_
    · unfold keepP at hT
      obtain ⟨S, hS, rfl⟩ := List.mem_map.1 hT
      obtain ⟨hS, hm⟩ := List.mem_filter.1 hS
      obtain ⟨v, hv⟩ := hne S hS
      exact ⟨v, (hmf S hS v hv).1 (of_decide_eq_true hm), hsortp S hS v hv⟩
    · rcases p2 v (List.mem_reverse.2 (hLall v (far_in hv))) with h | ⟨S, hS, hvS⟩
      · exact h.elim
      · unfold keepP
        exact List.mem_map.2 ⟨S, List.mem_filter.2 ⟨hS, decide_eq_true ((hmf S hS v hvS).2 hv)⟩, hsortp S hS v hvS⟩
    · unfold keepP
      rw [List.pairwise_map]
      refine (p3.filter _).imp fun {S T} h x hx hx' => ?_
      rw [(List.mergeSort_perm _ _).mem_iff] at hx hx'
      exact h x hx hx'
  have hklen : (keepP N P).length ≤ 1000 := by
    have h1 : (loopsN N M).length ≤ n := by
      unfold loopsN
      rw [List.length_map]
      exact Nat.le_trans (List.length_filter_le _ _) (Nat.le_trans (marksL_len _ _) (by rw [g.lm]; exact Nat.le_refl _))
    rw [← hsp, List.length_mergeSort] at h1
    omega
  have hall : ((keepP N P).all fun l => !l.isEmpty) = true := by
    rw [List.all_eq_true]
    intro T hT
    unfold keepP at hT
    obtain ⟨S, hS, rfl⟩ := List.mem_map.1 hT
    obtain ⟨v, hv⟩ := hne S (List.mem_filter.1 hS).1
    have := (List.mergeSort_perm S fun x y => decide (x ≤ y)).mem_iff.2 hv
    cases e : (S.mergeSort fun x y => decide (x ≤ y)) with
    | nil => rw [e] at this; cases this
    | cons _ _ => rfl
  have ew : IntKind.i64.wrap ((L.length : Int) - 1) = (L.length : Int) - 1 := wr' (by omega) (by omega)
  have e1' : cntM (i_loopsIn_b4 N M) n 0 (([] : List Int), List.replicate n false) = some (.inr (L, d1)) := by
    rw [← List.nil_append L]; exact e1
  have b1' : cntM (i_loopsIn_b0 N M) n 0 (List.replicate n []) = some (.inr B) := by rw [← b1, g.ln]
  unfold i_loopsIn
  rw [g.ln, mkS_nat (by omega) rfl, Option.bind_some, b1', Option.bind_some, aft_inr, mkS_nat (by omega) rfl, Option.bind_some, e1', Option.bind_some, aft_inr, Option.bind_some]
  dsimp only
  rw [ew, w, Option.bind_some, aft_inr]
  dsimp only
  rw [List.nil_append]
  unfold slices_SortFunc_I_I
  rw [if_pos ⟨by omega, hall⟩, Option.bind_some, hsp]
end
end Go.Proofs.YtcmamhmpoinmnaaGreat
set_option linter.unusedVariables false
set_option linter.unusedSimpArgs false
namespace Go.Proofs.YtcmamhmpoinmnaaGreat
open Go Go.Wk Go.Proofs
open Classical
def Lv (sc : Int → List Int) (s : Int) : Nat → Int → Prop
  | 0, k => k = s
  | t + 1, k => ∃ u ∈ sc k, Lv sc s t u
def Dm (sc : Int → List Int) (s k : Int) (d : Nat) : Prop := Lv sc s d k ∧ ∀ e, e < d → ¬ Lv sc s e k
section
variable {sc : Int → List Int} {s k : Int}
theorem Dm.uniq {d e : Nat} (h : Dm sc s k d) (h' : Dm sc s k e) : d = e := by
  have a := h.2 e
  have b := h'.2 d
  have : ¬ e < d := fun x => a x h'.1
  have : ¬ d < e := fun x => b x h.1
  omega
theorem Lv.min {d : Nat} : Lv sc s d k → ∃ e, e ≤ d ∧ Dm sc s k e := by
  induction d using Nat.strongRecOn with
  | ind d ih =>
    intro h
    by_cases hm : ∃ e, e < d ∧ Lv sc s e k
    · obtain ⟨e, he, h'⟩ := hm
      obtain ⟨f, hf, hd⟩ := ih e he h'
      exact ⟨f, by omega, hd⟩
    · exact ⟨d, Nat.le_refl _, h, fun e he h' => hm ⟨e, he, h'⟩⟩
theorem Dm.next {d : Nat} (h : Dm sc s k (d + 1)) : ∃ u ∈ sc k, Dm sc s u d := by
  obtain ⟨u, h1, h2⟩ := h.1
  exact ⟨u, h1, h2, fun e he h' => h.2 (e + 1) (by omega) ⟨u, h1, h'⟩⟩
theorem Lv.wy : ∀ {d : Nat} {k : Int}, Lv sc s d k → Wy sc noV k s
  | 0, k, h => by
    have h : k = s := h
    subst h; exact .one id
  | d + 1, k, ⟨u, h1, h2⟩ => .cons id h1 (Lv.wy h2)
theorem Wy.lv {k : Int} (w : Wy sc noV k s) : ∃ d, Lv sc s d k := by
  induction w with
  | one _ => exact ⟨0, rfl⟩
  | cons _ e _ ih =>
    obtain ⟨d, h⟩ := ih
    exact ⟨d + 1, _, e, h⟩
theorem Dm.list {n : Nat} (hr : ∀ a b, b ∈ sc a → 0 ≤ b ∧ b < (n : Int)) : ∀ {d : Nat} {k : Int}, 0 ≤ k → k < n → Dm sc s k d → ∃ l : List Int, l.length = d + 1 ∧ l.Nodup ∧ (∀ x ∈ l, 0 ≤ x ∧ x < (n : Int)) ∧ ∀ x ∈ l, ∃ e, e ≤ d ∧ Dm sc s x e
  | 0, k, k0, k1, h => ⟨[k], rfl, by simp, fun x hx => by rw [List.mem_singleton] at hx; subst hx; exact ⟨k0, k1⟩, fun x hx => by rw [List.mem_singleton] at hx; subst hx; exact ⟨0, Nat.le_refl _, h⟩⟩
  | d + 1, k, k0, k1, h => by
    obtain ⟨u, h1, h2⟩ := h.next
    obtain ⟨u0, u1⟩ := hr k u h1
    obtain ⟨l, l1, l2, l3, l4⟩ := Dm.list hr u0 u1 h2
    refine ⟨k :: l, by simp [l1], List.nodup_cons.2 ⟨fun hm => ?_, l2⟩, fun x hx => ?_, fun x hx => ?_⟩
    · obtain ⟨e, he, hd⟩ := l4 k hm
      have := hd.uniq h
      omega
    · rcases List.mem_cons.1 hx with e | hx
      · subst e; exact ⟨k0, k1⟩
      · exact l3 x hx
    · rcases List.mem_cons.1 hx with e | hx
      · subst e; exact ⟨d + 1, Nat.le_refl _, h⟩
      · obtain ⟨e, he, hd⟩ := l4 x hx
        exact ⟨e, by omega, hd⟩
end
def At (sc : Int → List Int) (s : Int) (t : Nat) (k x : Int) : Prop := (x = -1 ∧ ∀ d, d ≤ t → ¬ Lv sc s d k) ∨ ∃ d : Nat, x = (d : Int) ∧ d ≤ t ∧ Dm sc s k d
theorem At.neg {sc : Int → List Int} {s k x : Int} {t : Nat} (h : At sc s t k x) : (x < 0 ↔ ∀ d, d ≤ t → ¬ Lv sc s d k) := by
  rcases h with ⟨h1, h2⟩ | ⟨d, h1, h2, h3⟩
  · exact ⟨fun _ => h2, fun _ => by omega⟩
  · exact ⟨fun h => by omega, fun h => absurd h3.1 (h d h2)⟩
theorem At.is {sc : Int → List Int} {s k x : Int} {t t' : Nat} (ht : t ≤ t') (h : At sc s t' k x) : (x = (t : Int) ↔ Dm sc s k t) := by
  rcases h with ⟨h1, h2⟩ | ⟨d, h1, h2, h3⟩
  · exact ⟨fun h => by omega, fun h => absurd h.1 (h2 t ht)⟩
  · exact ⟨fun h => by have : d = t := by omega
                       exact this ▸ h3, fun h => by have := h3.uniq h; omega⟩
section
variable {N : List (List Int)} {M : List Bool} {n : Nat} (g : Gr N M n)
include g
theorem s_far {s : Int} (hs : In M s) : ∃ F, s_l30Far N M s = some F ∧ F.length = n ∧ ∀ k : Int, 0 ≤ k → k < n → ∃ x, idx F k = some x ∧ ((x = -1 ∧ ∀ d, ¬ Lv (scN N M) s d k) ∨ ∃ d : Nat, x = (d : Int) ∧ d < n ∧ Dm (scN N M) s k d) := by
  have hn := g.le
  have hl := g.ln
  have hm := g.lm
  obtain ⟨s0, s1⟩ := In_of g.lm hs
  obtain ⟨F0, e1, e2⟩ := cnt_inv (f := s_l30Far_b0) (fun j (F : List Int) => F = List.replicate j (-1)) N.length (s := []) rfl (fun j F hj hF => by
    subst hF
    unfold s_l30Far_b0
    rw [app1 (by rw [List.length_replicate]; omega) rfl, Option.bind_some]
    exact ⟨_, rfl, by rw [List.replicate_succ']⟩)
  have hF0 : F0.length = n := by rw [e2, List.length_replicate, hl]
  obtain ⟨F1, f1, f2⟩ := setI_some (xs := F0) (i := s) (0 : Int) s0 (by omega)
  have h0 : ∀ k : Int, 0 ≤ k → k < n → ∃ x, idx F1 k = some x ∧ At (scN N M) s 0 k x := fun k k0 k1 => by
    rw [idx_setI f1]
    by_cases e : k = s
    · rw [if_pos e]
      exact ⟨0, rfl, .inr ⟨0, rfl, Nat.le_refl _, e, fun e' h => absurd h (Nat.not_lt_zero _)⟩⟩
    · rw [if_neg e, e2, idx_int k0, List.getElem?_replicate, if_pos (by omega)]
      exact ⟨-1, rfl, .inl ⟨rfl, fun d hd h => by
        have : d = 0 := by omega
        subst this; exact e h⟩⟩
  have hinM : ∀ {d : Nat} {u : Int}, Lv (scN N M) s d u → In M u := fun {d u} h => by
    cases d with
    | zero =>
      have h : u = s := h
      rw [h]; exact hs
    | succ d =>
      obtain ⟨w, hw, _⟩ := h
      exact (mem_scN.1 hw).1
  obtain ⟨F2, g1, g2, g3⟩ := cnt_inv (f := s_l30Far_b2 N M) (fun t (F : List Int) => F.length = n ∧ ∀ k : Int, 0 ≤ k → k < n → ∃ x, idx F k = some x ∧ At (scN N M) s t k x) N.length (s := F1) ⟨by omega, h0⟩ (fun t F ht ⟨a1, a2⟩ => by
    obtain ⟨G, c1, c2, c3⟩ := cnt_inv (f := s_l30Far_b4 N M (t : Int)) (fun j (F : List Int) => F.length = n ∧ ∀ k : Int, 0 ≤ k → k < n → ∃ x, idx F k = some x ∧ (if k < (j : Int) then At (scN N M) s (t + 1) k x else At (scN N M) s t k x)) N.length (s := F) ⟨a1, fun k k0 k1 => by
        obtain ⟨x, h1, h2⟩ := a2 k k0 k1
        exact ⟨x, h1, by rw [if_neg (by omega)]; exact h2⟩⟩ (fun j F hj ⟨d1, d2⟩ => by
      have hrow : N[j]? = some N[j] := List.getElem?_eq_getElem hj
      generalize N[j] = row at hrow
      have hrow' : idx N (j : Int) = some row := by rw [idx_nat]; exact hrow
      obtain ⟨l1, l2⟩ := g.row (j : Int) row hrow'
      have hread : ∀ u : Int, 0 ≤ u → u < n → ∃ x, idx F u = some x ∧ (x = (t : Int) ↔ Dm (scN N M) s u t) := fun u u0 u1 => by
        obtain ⟨x, h1, h2⟩ := d2 u u0 u1
        refine ⟨x, h1, ?_⟩
        by_cases e : u < (j : Int)
        · rw [if_pos e] at h2; exact h2.is (by omega)
        · rw [if_neg e] at h2; exact h2.is (Nat.le_refl _)
      obtain ⟨x, hx, hax⟩ := d2 (j : Int) (by omega) (by omega)
      rw [if_neg (Int.lt_irrefl _)] at hax
      have hMj := In_get (B := M) (v := (j : Int)) (by omega) (by omega)
      -- the end of the inner loop
      have hin : ∃ i G, whileM (s_l30Far_b6 N M (t : Int) (j : Int)) (2 ^ 64) (0, F) = some (.inr (i, G)) ∧ G.length = n ∧ (∀ k : Int, k ≠ (j : Int) → idx G k = idx F k) ∧ ∃ y, idx G (j : Int) = some y ∧ At (scN N M) s (t + 1) (j : Int) y := by
        by_cases hneg : x < 0
        · have hno := hax.neg.1 hneg
          by_cases hMi : In M (j : Int)
          · obtain ⟨o, w1, w2⟩ := while_out (f := s_l30Far_b6 N M (t : Int) (j : Int)) (fun i (q : Int × List Int) => q.1 = (i : Int) ∧ i ≤ row.length ∧ ((q.2 = F ∧ ∀ u ∈ row.take i, ¬ Dm (scN N M) s u t) ∨ (setI F (j : Int) ((t : Int) + 1) = some q.2 ∧ ∃ u ∈ row, Dm (scN N M) s u t))) (fun _ => False) (fun q => (q.2 = F ∧ ∀ u ∈ row, ¬ Dm (scN N M) s u t) ∨ (setI F (j : Int) ((t : Int) + 1) = some q.2 ∧ ∃ u ∈ row, Dm (scN N M) s u t)) row.length (fun i q ⟨b1, b2, b3⟩ => by
              obtain ⟨i', G⟩ := q
              dsimp only at b1 b3
              subst b1
              unfold s_l30Far_b6
              dsimp only
              rw [hrow', Option.bind_some]
              by_cases hlt : i < row.length
              · rw [decide_eq_true (show (i : Int) < (row.length : Int) by omega), cond_true]
                rcases b3 with ⟨b3, b4⟩ | ⟨b3, b4⟩
                · subst b3
                  have hu : row[i]? = some row[i] := List.getElem?_eq_getElem hlt
                  generalize row[i] = u at hu
                  obtain ⟨u0, u1⟩ := l2 u (List.mem_of_getElem? hu)
                  obtain ⟨z, z1, z2⟩ := hread u u0 u1
                  obtain ⟨G', hG', _⟩ := setI_some (xs := G) (i := (j : Int)) ((t : Int) + 1) (by omega) (by omega)
                  rw [hx, Option.bind_some, decide_eq_true hneg, Option.bind_some, cond_true, hMj, Option.bind_some, decide_eq_true hMi, Option.bind_some, cond_true, Option.bind_some, idx_nat, hu, Option.bind_some, z1, Option.bind_some]
                  have wi : IntKind.i64.wrap ((i : Int) + 1) = ((i + 1 : Nat) : Int) := by rw [wr' (by omega) (by omega)]; omega
                  have wt : IntKind.i64.wrap ((t : Int) + 1) = (t : Int) + 1 := wr' (by omega) (by omega)
                  by_cases hz : z = (t : Int)
                  · have hzb : (z == (t : Int)) = true := by rw [beq_iff_eq]; exact hz
                    rw [hzb, cond_true, Option.bind_some, wt, hG', Option.bind_some, Option.bind_some, wi]
                    exact ⟨_, rfl, hlt, rfl, by omega, .inr ⟨rfl, u, List.mem_of_getElem? hu, z2.1 hz⟩⟩
                  · have hzb : (z == (t : Int)) = false := by rw [beq_eq_false_iff_ne]; exact hz
                    rw [hzb, cond_false, Option.bind_some, wi]
                    refine ⟨_, rfl, hlt, rfl, by omega, .inl ⟨rfl, fun w hw => ?_⟩⟩
                    rw [List.take_add_one, hu] at hw
                    rcases List.mem_append.1 hw with hw | hw
                    · exact b4 w hw
                    · have : w = u := by simpa using hw
                      subst this
                      exact fun h => hz (z2.2 h)
                · have hGj : idx G (j : Int) = some ((t : Int) + 1) := by rw [idx_setI b3, if_pos rfl]
                  rw [hGj, Option.bind_some, decide_eq_false (by omega), Option.bind_some, cond_false, Option.bind_some, cond_false]
                  exact ⟨_, rfl, .inr ⟨b3, b4⟩⟩
              · have : i = row.length := by omega
                subst this
                rw [decide_eq_false (Int.lt_irrefl _), cond_false, Option.bind_some, cond_false, Option.bind_some, cond_false]
                rw [List.take_length] at b3
                exact ⟨_, rfl, b3⟩) (2 ^ 64) 0 (0, F) (by omega) ⟨rfl, Nat.zero_le _, .inl ⟨rfl, fun u hu => by simp at hu⟩⟩ (by omega)
            match o, w2 with
            | .inr (i, G), w2 =>
              refine ⟨i, G, w1, ?_⟩
              rcases w2 with ⟨b3, b4⟩ | ⟨b3, u, hu, hd⟩
              · dsimp only at b3
                subst b3
                refine ⟨d1, fun _ _ => rfl, x, hx, .inl ⟨?_, fun d hd h => ?_⟩⟩
                · rcases hax with ⟨h1, _⟩ | ⟨d, h1, _⟩
                  · exact h1
                  · omega
                · by_cases e : d ≤ t
                  · exact hno d e h
                  · have : d = t + 1 := by omega
                    subst this
                    obtain ⟨w, w1, w2⟩ := h
                    obtain ⟨_, _, r, hr, hwr⟩ := mem_scN.1 w1
                    rw [hrow'] at hr
                    cases hr
                    exact b4 w hwr ⟨w2, fun e he h' => hno (e + 1) (by omega) ⟨w, w1, h'⟩⟩
              · dsimp only at b3
                refine ⟨by have := (setI_ok b3).2.2.2; omega, fun k hk => by rw [idx_setI b3, if_neg hk], (t : Int) + 1, by rw [idx_setI b3, if_pos rfl], .inr ⟨t + 1, by omega, Nat.le_refl _, ⟨u, mem_scN.2 ⟨hMi, hinM hd.1, row, hrow', hu⟩, hd.1⟩, fun e he h => hno e (by omega) h⟩⟩
          · refine ⟨0, F, ?_, d1, fun _ _ => rfl, x, hx, .inl ⟨?_, fun d hd h => ?_⟩⟩
            · show Option.bind (s_l30Far_b6 N M (t : Int) (j : Int) (0, F)) _ = _
              unfold s_l30Far_b6
              dsimp only
              rw [hrow', Option.bind_some, hx, Option.bind_some, decide_eq_true hneg, hMj, decide_eq_false hMi]
              cases decide ((0 : Int) < (row.length : Int)) <;> rfl
            · rcases hax with ⟨h1, _⟩ | ⟨d, h1, _⟩
              · exact h1
              · omega
            · exact hMi (hinM h)
        · refine ⟨0, F, ?_, d1, fun _ _ => rfl, x, hx, ?_⟩
          · show Option.bind (s_l30Far_b6 N M (t : Int) (j : Int) (0, F)) _ = _
            unfold s_l30Far_b6
            dsimp only
            rw [hrow', Option.bind_some, hx, Option.bind_some, decide_eq_false hneg]
            cases decide ((0 : Int) < (row.length : Int)) <;> rfl
          · rcases hax with ⟨h1, _⟩ | ⟨d, h1, h2, h3⟩
            · omega
            · exact .inr ⟨d, h1, by omega, h3⟩
      obtain ⟨i, G, q1, q2, q3, y, q4, q5⟩ := hin
      unfold s_l30Far_b4
      rw [q1, Option.bind_some, aft_inr]
      refine ⟨_, rfl, q2, fun k k0 k1 => ?_⟩
      dsimp only
      by_cases e : k = (j : Int)
      · subst e
        exact ⟨y, q4, by rw [if_pos (by omega)]; exact q5⟩
      · rw [q3 k e]
        obtain ⟨z, z1, z2⟩ := d2 k k0 k1
        refine ⟨z, z1, ?_⟩
        by_cases e' : k < (j : Int)
        · rw [if_pos e'] at z2; rw [if_pos (by omega)]; exact z2
        · rw [if_neg e'] at z2; rw [if_neg (by omega)]; exact z2)
    unfold s_l30Far_b2
    rw [c1, Option.bind_some, aft_inr]
    refine ⟨_, rfl, c2, fun k k0 k1 => ?_⟩
    obtain ⟨x, h1, h2⟩ := c3 k k0 k1
    rw [if_pos (by omega)] at h2
    exact ⟨x, h1, h2⟩)
  unfold s_l30Far
  rw [e1, Option.bind_some, aft_inr]
  obtain ⟨z, hz⟩ := idx_some (xs := F0) (i := s) s0 (by omega)
  rw [hz, Option.bind_some, f1, Option.bind_some, g1, Option.bind_some, aft_inr]
  have hrng : ∀ a b, b ∈ scN N M a → 0 ≤ b ∧ b < (n : Int) := fun a b h => In_of g.lm (mem_scN.1 h).2.1
  refine ⟨F2, rfl, g2, fun k k0 k1 => ?_⟩
  obtain ⟨x, h1, h2⟩ := g3 k k0 k1
  refine ⟨x, h1, ?_⟩
  rcases h2 with ⟨a, b⟩ | ⟨d, a, b, c⟩
  · refine .inl ⟨a, fun d h => ?_⟩
    obtain ⟨e, _, he⟩ := h.min
    obtain ⟨l, l1, l2, l3, _⟩ := he.list hrng k0 k1
    have := nodup_lenN n l l2 l3
    exact b e (by omega) he.1
  · obtain ⟨l, l1, l2, l3, _⟩ := c.list hrng k0 k1
    have := nodup_lenN n l l2 l3
    exact .inr ⟨d, a, by omega, c⟩
theorem s_returns {s : Int} (hs : In M s) : ∃ F, s_l30Far N M s = some F ∧ s_l30Returns N F s = some (decide (Far (scN N M) s)) := by
  obtain ⟨F, f1, f2, f3⟩ := s_far g hs
  obtain ⟨s0, s1⟩ := In_of g.lm hs
  have hl := g.ln
  refine ⟨F, f1, ?_⟩
  obtain ⟨row, hrow⟩ := idx_some (xs := N) (i := s) s0 (by omega)
  obtain ⟨l1, l2⟩ := g.row s row hrow
  have hinM : ∀ {d : Nat} {u : Int}, Lv (scN N M) s d u → In M u := fun {d u} h => by
    cases d with
    | zero =>
      have h : u = s := h
      rw [h]; exact hs
    | succ d =>
      obtain ⟨w, hw, _⟩ := h
      exact (mem_scN.1 hw).1
  have hfar : ∀ u ∈ row, ∀ x, idx F u = some x → (0 ≤ x ↔ (In M u ∧ Wy (scN N M) noV u s)) := fun u hu x hx => by
    obtain ⟨u0, u1⟩ := l2 u hu
    obtain ⟨y, y1, y2⟩ := f3 u u0 u1
    rw [hx] at y1
    cases y1
    rcases y2 with ⟨a, b⟩ | ⟨d, a, b, c⟩
    · constructor
      · intro h; omega
      · rintro ⟨_, w⟩
        obtain ⟨d, hd⟩ := w.lv
        exact absurd hd (b d)
    · exact ⟨fun _ => ⟨hinM c.1, c.1.wy⟩, fun _ => by omega⟩
  obtain ⟨o, w1, w2⟩ := while_out (f := s_l30Returns_b0 N F s) (fun i (q : Int) => q = (i : Int) ∧ i ≤ row.length ∧ ∀ u ∈ row.take i, ¬ (In M u ∧ Wy (scN N M) noV u s)) (fun r => r = true ∧ Far (scN N M) s) (fun _ => ¬ Far (scN N M) s) row.length (fun i q ⟨b1, b2, b3⟩ => by
    subst b1
    unfold s_l30Returns_b0
    rw [hrow, Option.bind_some]
    by_cases hlt : i < row.length
    · have hu : row[i]? = some row[i] := List.getElem?_eq_getElem hlt
      generalize row[i] = u at hu
      have hum := List.mem_of_getElem? hu
      obtain ⟨u0, u1⟩ := l2 u hum
      obtain ⟨x, hx, _⟩ := f3 u u0 u1
      rw [decide_eq_true (show (i : Int) < (row.length : Int) by omega), cond_true, Option.bind_some, idx_nat, hu, Option.bind_some, hx, Option.bind_some]
      by_cases h : 0 ≤ x
      · rw [decide_eq_true h, cond_true]
        obtain ⟨a, b⟩ := (hfar u hum x hx).1 h
        exact ⟨_, rfl, rfl, u, mem_scN.2 ⟨hs, a, row, hrow, hum⟩, b⟩
      · rw [decide_eq_false h, cond_false]
        refine ⟨_, rfl, hlt, by rw [wr' (by omega) (by omega)]; omega, by omega, fun w hw => ?_⟩
        rw [List.take_add_one, hu] at hw
        rcases List.mem_append.1 hw with hw | hw
        · exact b3 w hw
        · have : w = u := by simpa using hw
          subst this
          exact fun k => h ((hfar w hum x hx).2 k)
    · have : i = row.length := by omega
      subst this
      rw [decide_eq_false (Int.lt_irrefl _), cond_false]
      rw [List.take_length] at b3
      refine ⟨_, rfl, ?_⟩
      rintro ⟨y, hy, w⟩
      obtain ⟨_, a, r, hr, hyr⟩ := mem_scN.1 hy
      rw [hrow] at hr
      cases hr
      exact b3 y hyr ⟨a, w⟩) (2 ^ 64) 0 0 (by omega) ⟨rfl, Nat.zero_le _, fun u hu => by simp at hu⟩ (by omega)
  unfold s_l30Returns
  rw [w1, Option.bind_some]
  match o, w2 with
  | .inl r, w2 => rw [aft_inl, w2.1, decide_eq_true w2.2]
  | .inr _, w2 => rw [aft_inr, decide_eq_false w2]
end
theorem s_may {n : Nat} (hn : n ≤ 256) (S : List Int) : ∃ M, s_l30May (n : Int) S = some M ∧ M.length = n ∧ ∀ v, In M v ↔ (0 ≤ v ∧ v < n) ∧ v ∉ S := by
  have hr : rng (n : Int) = some () := by unfold rng; rw [if_pos (by omega)]
  unfold s_l30May
  rw [hr, Option.bind_some, Int.sub_zero, Int.toNat_natCast]
  obtain ⟨M, h1, h2, h3⟩ := cnt_inv (f := s_l30May_b0 S) (fun j (M : List Bool) => M.length = j ∧ ∀ i : Nat, i < j → M[i]? = some (!decide ((i : Int) ∈ S))) n (s := []) ⟨rfl, fun i hi => absurd hi (Nat.not_lt_zero i)⟩ (fun j M hj ⟨a1, a2⟩ => by
    unfold s_l30May_b0
    rw [s_hasM, Option.bind_some, app1 (by omega) rfl, Option.bind_some]
    refine ⟨_, rfl, by simp [a1], fun i hi => ?_⟩
    by_cases e : i = j
    · subst e; rw [← a1]; simp
    · rw [List.getElem?_append_left (by omega)]; exact a2 i (by omega))
  rw [h1, Option.bind_some, aft_inr]
  refine ⟨M, rfl, h2, fun v => ?_⟩
  constructor
  · intro h
    obtain ⟨v0, v1⟩ := In_of h2 h
    obtain ⟨i, hi⟩ := ex_nat v0
    subst hi
    unfold In at h
    rw [idx_nat, h3 i (by omega)] at h
    exact ⟨⟨v0, v1⟩, by simpa using h⟩
  · rintro ⟨⟨v0, v1⟩, h⟩
    obtain ⟨i, hi⟩ := ex_nat v0
    subst hi
    unfold In
    rw [idx_nat, h3 i (by omega)]
    simp [h]
noncomputable def hitN (N : List (List Int)) (M : List Bool) (S : List Int) : List Int := S.filter fun s => decide (In M s ∧ Far (scN N M) s)
theorem s_broken {N : List (List Int)} {n : Nat} (hN : N.length = n) (hn : n ≤ 256) (hr : ∀ v r, idx N v = some r → r.length ≤ 10000 ∧ ∀ u ∈ r, 0 ≤ u ∧ u < n) {p : Pair} (hA : St n p.Ask) : ∃ M, s_l30May (N.length : Int) p.Give = some M ∧ M.length = n ∧ (∀ v, In M v ↔ (0 ≤ v ∧ v < n) ∧ v ∉ p.Give) ∧ s_l30Broken N p = some ((hitN N M p.Ask).headD (-1)) := by
  obtain ⟨M, m1, m2, m3⟩ := s_may hn p.Give
  have g : Gr N M n := ⟨hN, m2, hn, hr⟩
  refine ⟨M, by rw [hN]; exact m1, m2, m3, ?_⟩
  unfold s_l30Broken
  rw [hN, m1, Option.bind_some]
  have key : ∀ (us : List Int) (j : Nat), (∀ (i : Nat) u, us[i]? = some u → p.Ask[j + i]? = some u) → cntM (s_l30Broken_b0 N p M) us.length (j : Int) () = some (match us.filter fun s => decide (In M s ∧ Far (scN N M) s) with | [] => .inr () | x :: _ => .inl x) := fun us => by
    induction us with
    | nil => exact fun j _ => rfl
    | cons u us ih =>
      intro j h
      have hu := h 0 u rfl
      obtain ⟨u0, u1⟩ := hA.rng u (List.mem_of_getElem? hu)
      have hb : s_l30Broken_b0 N p M (j : Int) () = some (if In M u ∧ Far (scN N M) u then .inl u else .inr (.inr ())) := by
        unfold s_l30Broken_b0
        have hu' : p.Ask[j]? = some u := hu
        rw [idx_nat, hu', Option.bind_some, In_get (B := M) u0 (by omega), Option.bind_some]
        by_cases hM : In M u
        · obtain ⟨F, f1, f2⟩ := s_returns g hM
          rw [decide_eq_true hM, cond_true, f1, Option.bind_some, f2, Option.bind_some, Option.bind_some]
          by_cases hf : Far (scN N M) u
          · rw [decide_eq_true hf, cond_true, if_pos ⟨hM, hf⟩]
          · rw [decide_eq_false hf, cond_false, if_neg (fun h => hf h.2)]
        · rw [decide_eq_false hM, cond_false, Option.bind_some, cond_false, if_neg (fun h => hM h.1)]
      show Option.bind (s_l30Broken_b0 N p M (j : Int) ()) _ = _
      rw [hb, Option.bind_some, List.filter_cons]
      by_cases hh : In M u ∧ Far (scN N M) u
      · rw [if_pos hh, if_pos (decide_eq_true hh)]; rfl
      · rw [if_neg hh, if_neg (by simpa using hh)]
        exact ih (j + 1) fun i w hw => by
          have := h (i + 1) w (by simpa using hw)
          rw [show j + (i + 1) = (j + 1) + i from by omega] at this
          exact this
  have hk := key p.Ask 0 (fun i u h => by rw [Nat.zero_add]; exact h)
  have hk' : cntM (s_l30Broken_b0 N p M) p.Ask.length 0 () = _ := hk
  rw [hk', Option.bind_some]
  show aft _ _ _ = some ((p.Ask.filter fun s => decide (In M s ∧ Far (scN N M) s)).headD (-1))
  cases p.Ask.filter fun s => decide (In M s ∧ Far (scN N M) s) with
  | nil => rfl
  | cons x t => rfl
end Go.Proofs.YtcmamhmpoinmnaaGreat
set_option linter.unusedVariables false
set_option linter.unusedSimpArgs false
namespace Go.Proofs.YtcmamhmpoinmnaaGreat
open Go Go.Wk Go.Proofs
open Classical
theorem marks_eq {A B : List Bool} {n : Nat} (ha : A.length = n) (hb : B.length = n) (h : ∀ v, In A v ↔ In B v) : A = B := List.ext_getElem? fun i => by
  by_cases hi : i < n
  · rw [← idx_nat, ← idx_nat, In_get (B := A) (by omega) (by omega), In_get (B := B) (by omega) (by omega)]
    congr 1
    exact decide_eq_decide.2 (h _)
  · rw [List.getElem?_eq_none (by omega), List.getElem?_eq_none (by omega)]
def mayM (n : Nat) (S : List Int) : List Bool := (List.range n).map fun i : Nat => !decide ((i : Int) ∈ S)
theorem mayM_len (n : Nat) (S : List Int) : (mayM n S).length = n := by simp [mayM]
theorem mayM_in {n : Nat} {S : List Int} (v : Int) : In (mayM n S) v ↔ (0 ≤ v ∧ v < n) ∧ v ∉ S := by
  constructor
  · intro h
    obtain ⟨v0, v1⟩ := In_of (mayM_len n S) h
    obtain ⟨i, hi⟩ := ex_nat v0
    subst hi
    unfold In mayM at h
    rw [idx_nat, List.getElem?_map, List.getElem?_range (by omega)] at h
    exact ⟨⟨v0, v1⟩, by simpa using h⟩
  · rintro ⟨⟨v0, v1⟩, h⟩
    obtain ⟨i, hi⟩ := ex_nat v0
    subst hi
    unfold In mayM
    rw [idx_nat, List.getElem?_map, List.getElem?_range (by omega)]
    simp [h]
noncomputable def hitP (N : List (List Int)) (p : Pair) : List Int := hitN N (mayM N.length p.Give) p.Ask
structure Gn (N : List (List Int)) (n : Nat) : Prop where
  ln : N.length = n
  le : n ≤ 256
  row : ∀ v r, idx N v = some r → r.length ≤ 10000 ∧ ∀ u ∈ r, 0 ≤ u ∧ u < n
theorem Gn.gr {N : List (List Int)} {n : Nat} (g : Gn N n) (S : List Int) : Gr N (mayM n S) n := ⟨g.ln, mayM_len n S, g.le, g.row⟩
section
variable {N : List (List Int)} {n : Nat} (g : Gn N n)
include g
theorem s_brokenP {p : Pair} (hA : St n p.Ask) : s_l30Broken N p = some ((hitP N p).headD (-1)) := by
  obtain ⟨M, _, m2, m3, m4⟩ := s_broken g.ln g.le g.row hA
  rw [m4]
  have : M = mayM n p.Give := marks_eq m2 (mayM_len _ _) fun v => by rw [m3, mayM_in]
  rw [this]
  unfold hitP
  rw [g.ln]
omit g in
theorem hitP_asc {p : Pair} (hA : St n p.Ask) : Asc (hitP N p) := hA.asc.filter _
theorem hitP_mem {p : Pair} (z : Int) : z ∈ hitP N p ↔ z ∈ p.Ask ∧ Far (scN N (mayM n p.Give)) z := by
  unfold hitP hitN
  rw [g.ln, List.mem_filter, decide_eq_true_eq]
  exact ⟨fun ⟨a, _, b⟩ => ⟨a, b⟩, fun ⟨a, b⟩ => ⟨a, far_in b, b⟩⟩
theorem i_outside {w : watch} (hw : w.next = N) (S : List Int) : i_watch_outside w S = some (mayM n S) := by
  have hn := g.le
  unfold i_watch_outside
  rw [hw, g.ln, mkS_nat (by omega) rfl, Option.bind_some, List.length_replicate]
  obtain ⟨M, h1, h2, h3⟩ := fill (f := i_watch_outside_b0 S) (fun j => !decide ((j : Int) ∈ S)) n (s0 := List.replicate n false) (by simp) (fun j s hj hs => by
    unfold i_watch_outside_b0
    rw [conI, Option.bind_some])
  rw [h1, Option.bind_some, aft_inr]
  congr 1
  refine List.ext_getElem? fun i => ?_
  by_cases hi : i < n
  · rw [← idx_nat, h3 i hi]
    unfold mayM
    rw [List.getElem?_map, List.getElem?_range hi]; rfl
  · rw [List.getElem?_eq_none (by omega), List.getElem?_eq_none (by rw [mayM_len]; omega)]
theorem i_targets {w : watch} (hw : w.next = N) {p : Pair} (hA : St n p.Ask) : i_watch_targets w p = some (hitP N p) := by
  have hn := g.le
  have hg := g.gr p.Give
  unfold i_watch_targets
  rw [i_outside g hw, Option.bind_some, hw, i_loops hg, Option.bind_some]
  have hlen : ∀ S ∈ loopsN N (mayM n p.Give), S.length ≤ 256 := fun S hS => by
    unfold loopsN at hS
    obtain ⟨v, _, rfl⟩ := List.mem_map.1 hS
    unfold partG
    have := marksL_len (mayM n p.Give) (mayM n p.Give).length
    rw [mayM_len] at this
    exact Nat.le_trans (List.length_filter_le _ _) (by rw [mayM_len]; omega)
  have hll : (loopsN N (mayM n p.Give)).length ≤ 256 := by
    unfold loopsN
    rw [List.length_map]
    have := marksL_len (mayM n p.Give) (mayM n p.Give).length
    rw [mayM_len] at this
    exact Nat.le_trans (List.length_filter_le _ _) (by rw [mayM_len]; omega)
  obtain ⟨s, h1, h2, h3⟩ := cnt_inv (f := i_watch_targets_b0 p (loopsN N (mayM n p.Give))) (fun j (s : List Int) => s = ((loopsN N (mayM n p.Give)).take j).flatMap (fun S => S.filter fun x => decide (x ∈ p.Ask)) ∧ s.length ≤ j * 256) (loopsN N (mayM n p.Give)).length (s := []) ⟨rfl, by simp⟩ (fun j s hj ⟨a1, a2⟩ => by
    have hS : (loopsN N (mayM n p.Give))[j]? = some (loopsN N (mayM n p.Give))[j] := List.getElem?_eq_getElem hj
    generalize (loopsN N (mayM n p.Give))[j] = S at hS
    have hSl := hlen S (List.mem_of_getElem? hS)
    obtain ⟨t, k1, k2, k3⟩ := cnt_inv (f := i_watch_targets_b2 p S) (fun i (t : List Int) => t = s ++ (S.take i).filter (fun x => decide (x ∈ p.Ask)) ∧ t.length ≤ j * 256 + i) S.length (s := s) ⟨by simp, Nat.le_trans a2 (Nat.le_add_right _ _)⟩ (fun i t hi ⟨b1, b2⟩ => by
      have hx : S[i]? = some S[i] := List.getElem?_eq_getElem hi
      generalize S[i] = x at hx
      unfold i_watch_targets_b2
      rw [idx_nat, hx, Option.bind_some, conI, Option.bind_some, List.take_add_one, hx]
      by_cases h : x ∈ p.Ask
      · rw [decide_eq_true h, cond_true, app1 (by omega) rfl, Option.bind_some, Option.bind_some]
        exact ⟨_, rfl, by rw [b1]; simp [List.filter_append, h], by simp; omega⟩
      · rw [decide_eq_false h, cond_false, Option.bind_some]
        exact ⟨_, rfl, by rw [b1]; simp [List.filter_append, h], by omega⟩)
    unfold i_watch_targets_b0
    rw [idx_nat, hS, Option.bind_some, k1, Option.bind_some, aft_inr]
    rw [List.take_length] at k2
    refine ⟨_, rfl, ?_, by omega⟩
    rw [k2, a1, List.take_add_one, hS, List.flatMap_append]
    simp)
  rw [List.take_length] at h2
  rw [h1, Option.bind_some, aft_inr]
  have hnd : s.Nodup := by
    rw [h2]
    unfold loopsN
    rw [List.flatMap_map, List.Nodup, List.pairwise_flatMap]
    refine ⟨fun v _ => ?_, ?_⟩
    · exact List.Pairwise.filter _ (asc_nodup (partG_asc v))
    · have hasc : Asc ((marksL (mayM n p.Give) (mayM n p.Give).length).filter fun v => decide (Lead (scN N (mayM n p.Give)) v)) := (marksL_asc _ _).filter _
      refine hasc.imp_of_mem fun {a b} ha hb hab x hx y hy e => ?_
      subst e
      have hlb := of_decide_eq_true (List.mem_filter.1 hb).2
      have k1 := (mem_partG.1 (List.mem_filter.1 hx).1).2
      have k2 := (mem_partG.1 (List.mem_filter.1 hy).1).2
      exact hlb.2 a hab (k1.trans k2.symm)
  have hmem : ∀ z, z ∈ s ↔ z ∈ hitP N p := fun z => by
    rw [h2, List.mem_flatMap, hitP_mem g]
    constructor
    · rintro ⟨S, hS, hz⟩
      obtain ⟨h1, h2⟩ := List.mem_filter.1 hz
      unfold loopsN at hS
      obtain ⟨v, hv, rfl⟩ := List.mem_map.1 hS
      have hl := of_decide_eq_true (List.mem_filter.1 hv).2
      exact ⟨of_decide_eq_true h2, hl.1.akin (mem_partG.1 h1).2⟩
    · rintro ⟨h1, h2⟩
      refine ⟨partG N (mayM n p.Give) z, ?_, List.mem_filter.2 ⟨mem_partG.2 ⟨far_in h2, Akin.refl z⟩, decide_eq_true h1⟩⟩
      obtain ⟨t, k1, k2, k3⟩ := partG_hd h2
      unfold loopsN
      exact List.mem_map.2 ⟨_, List.mem_filter.2 ⟨mem_marksL.2 (far_in k3.1), decide_eq_true k3⟩, (partG_eq k2).symm⟩
  have hsort : (s.mergeSort fun x y => decide (x ≤ y)) = hitP N p := asc_eq (sort_asc hnd) (hitP_asc hA) fun z => by rw [(List.mergeSort_perm s _).mem_iff, hmem]
  have hs : slices_Sort_I_int64 s = some (hitP N p) := by
    unfold slices_Sort_I_int64
    by_cases h : 0 < s.length
    · have hm : (loopsN N (mayM n p.Give)).length * 256 ≤ 256 * 256 := Nat.mul_le_mul_right _ hll
      rw [if_pos ⟨h, by omega⟩, hsort]
    · have e : s = [] := List.length_eq_zero_iff.1 (by omega)
      rw [if_neg (fun k => h k.1), if_pos (by omega)]
      rw [← hsort, e, List.mergeSort_nil]
  rw [hs]; rfl
end
noncomputable def brkN (N : List (List Int)) (ps : List Pair) : Nat → List Int
  | 0 => []
  | j + 1 => brkN N ps j ++ (match ps[j]? with | some p => if hitP N p = [] then [] else [(j : Int)] | none => [])
theorem brkN_succ (N : List (List Int)) (ps : List Pair) (j : Nat) : brkN N ps (j + 1) = brkN N ps j ++ (match ps[j]? with | some p => if hitP N p = [] then [] else [(j : Int)] | none => []) := rfl
theorem brkN_len (N : List (List Int)) (ps : List Pair) : ∀ j, (brkN N ps j).length ≤ j
  | 0 => Nat.le_refl _
  | j + 1 => by
    have := brkN_len N ps j
    rw [brkN_succ, List.length_append]
    have : (match ps[j]? with | some p => if hitP N p = [] then [] else [(j : Int)] | none => [] : List Int).length ≤ 1 := by
      cases ps[j]? with
      | none => simp
      | some p => dsimp only; split <;> simp
    omega
theorem brkN_mem (N : List (List Int)) (ps : List Pair) : ∀ (j : Nat) (z : Int), z ∈ brkN N ps j ↔ ∃ i : Nat, i < j ∧ z = (i : Int) ∧ ∃ p, ps[i]? = some p ∧ hitP N p ≠ []
  | 0, z => by simp [brkN]
  | j + 1, z => by
    rw [brkN_succ, List.mem_append, brkN_mem N ps j]
    constructor
    · rintro (⟨i, h1, h2⟩ | h)
      · exact ⟨i, by omega, h2⟩
      · cases e : ps[j]? with
        | none => rw [e] at h; cases h
        | some p =>
          rw [e] at h
          dsimp only at h
          by_cases hp : hitP N p = []
          · rw [if_pos hp] at h; cases h
          · rw [if_neg hp, List.mem_singleton] at h
            exact ⟨j, by omega, h, p, e, hp⟩
    · rintro ⟨i, h1, h2, p, h3, h4⟩
      by_cases e : i = j
      · subst e
        right
        rw [h3]
        dsimp only
        rw [if_neg h4, List.mem_singleton]
        exact h2
      · exact .inl ⟨i, by omega, h2, p, h3, h4⟩
section
variable {N : List (List Int)} {n : Nat} (g : Gn N n) {ps : List Pair} (hp : ∀ p ∈ ps, St n p.Ask) (hl : ps.length ≤ 4)
include g hp hl
theorem i_brokenW {w : watch} (hw : w.next = N) (hps : w.pairs = ps) : i_watch_broken w = some (brkN N ps ps.length) := by
  obtain ⟨s, h1, h2⟩ := cnt_inv (f := i_watch_broken_b0 w) (fun j s => s = brkN N ps j) ps.length (s := []) rfl (fun j s hj hs => by
    subst hs
    have hpj : ps[j]? = some ps[j] := List.getElem?_eq_getElem hj
    generalize ps[j] = p at hpj
    have hbl := brkN_len N ps j
    unfold i_watch_broken_b0
    rw [hps, idx_nat, hpj, Option.bind_some, i_targets g hw (hp p (List.mem_of_getElem? hpj)), Option.bind_some]
    rw [brkN_succ, hpj]
    dsimp only
    by_cases h : hitP N p = []
    · rw [h, if_pos rfl, List.append_nil]
      exact ⟨_, rfl, rfl⟩
    · have : 0 < (hitP N p).length := List.length_pos_iff.2 h
      rw [decide_eq_true (by omega), cond_true, app1 (by omega) rfl, if_neg h]
      exact ⟨_, rfl, rfl⟩)
  unfold i_watch_broken
  rw [hps, h1, Option.bind_some, aft_inr, h2]
theorem s_breaks : ∃ q, whileM (s_BreaksIn_b0 (N, ps, true)) (2 ^ 64) ([], 0) = some (.inr (brkN N ps ps.length, q)) := by
  obtain ⟨o, w1, w2⟩ := while_out (f := s_BreaksIn_b0 (N, ps, true)) (fun j (s : List Int × Int) => s.2 = (j : Int) ∧ j ≤ ps.length ∧ s.1 = brkN N ps j) (fun _ => False) (fun s => s.1 = brkN N ps ps.length) ps.length (fun j s ⟨a1, a2, a3⟩ => by
    obtain ⟨xs, i⟩ := s
    dsimp only at a1 a3
    subst a1 a3
    unfold s_BreaksIn_b0
    dsimp only
    rw [cond_true, Option.bind_some]
    by_cases hlt : j < ps.length
    · have hpj : ps[j]? = some ps[j] := List.getElem?_eq_getElem hlt
      generalize ps[j] = p at hpj
      have hA := hp p (List.mem_of_getElem? hpj)
      have hbl := brkN_len N ps j
      rw [decide_eq_true (show (j : Int) < (ps.length : Int) by omega), cond_true, idx_nat, hpj, Option.bind_some, s_brokenP g hA, Option.bind_some, wr' (by omega) (by omega)]
      have hsuc := brkN_succ N ps j
      rw [hpj] at hsuc
      dsimp only at hsuc
      cases hh : hitP N p with
      | nil =>
        rw [hh, if_pos rfl, List.append_nil] at hsuc
        refine ⟨_, rfl, hlt, by dsimp only; omega, by omega, hsuc.symm⟩
      | cons x t =>
        have hx0 : 0 ≤ x := by
          have : x ∈ hitP N p := by rw [hh]; simp
          exact (hA.rng x ((hitP_mem g x).1 this).1).1
        rw [hh, if_neg (by simp)] at hsuc
        rw [List.headD_cons, decide_eq_true hx0, cond_true, app1 (by omega) rfl]
        exact ⟨_, rfl, hlt, by dsimp only; omega, by omega, hsuc.symm⟩
    · have : j = ps.length := by omega
      subst this
      rw [decide_eq_false (Int.lt_irrefl _), cond_false]
      exact ⟨_, rfl, rfl⟩) (2 ^ 64) 0 ([], 0) (by omega) ⟨rfl, Nat.zero_le _, rfl⟩ (by omega)
  match o, w2 with
  | .inr (xs, q), w2 =>
    have w2 : xs = brkN N ps ps.length := w2
    exact ⟨q, by rw [w1, w2]⟩
end
structure AK (p : Sig) (m : Machine) (cs : List Clause) (n k : Nat) (D : Det) (K : List Key) (w : watch) : Prop where
  hs : sigOk p = true
  hm : machOk p m = true
  hc : clausesOk p cs = true
  ln : ltd p = ((n : Nat) : Int)
  kn : pw p.In = ((k : Nat) : Int)
  pr : PR n cs D
  hd : detOk p D = true
  pl : D.Pairs.length = cs.length
  wk : WK p m D k K w
theorem AK.gn {p : Sig} {m : Machine} {cs : List Clause} {n k : Nat} {D : Det} {K : List Key} {w : watch} (h : AK p m cs n k D K w) : Gn w.next K.length := ⟨h.wk.prod.rl, h.wk.le, fun v r hr => by
  obtain ⟨v0, _⟩ := idx_rng hr
  rw [idx_int v0] at hr
  obtain ⟨r1, u, r2, r3⟩ := h.wk.prod.row _ r hr
  have hpw := pw_le p.In
  have hk := h.kn
  refine ⟨by omega, fun x hx => ?_⟩
  obtain ⟨i, hi⟩ := List.getElem?_of_mem hx
  have hil := (List.getElem?_eq_some_iff.1 hi).1
  obtain ⟨y, y1, y2, y3⟩ := r3 i (by omega)
  rw [hi] at y1
  cases y1
  have := (List.getElem?_eq_some_iff.1 y3).1
  omega⟩
theorem AK.ps {p : Sig} {m : Machine} {cs : List Clause} {n k : Nat} {D : Det} {K : List Key} {w : watch} (h : AK p m cs n k D K w) : w.pairs.length = cs.length ∧ w.pairs.length ≤ 4 ∧ ∀ x ∈ w.pairs, St K.length x.Ask := by
  obtain ⟨_, _, d3, _⟩ := detOk_spec h.hd
  have := h.pl
  rw [h.wk.pairs, List.length_map]
  refine ⟨h.pl, d3, fun x hx => ?_⟩
  obtain ⟨y, _, rfl⟩ := List.mem_map.1 hx
  show St K.length (partN K y.Ask K.length)
  rw [partN_plK _ _ _ (Nat.le_refl _)]
  exact plK_St _ _ _ _
theorem All_same (p : Sig) (m : Machine) {cs : List Clause} (hb : ∀ c ∈ cs, Clause.bd c) : (s_l30All p m cs = some ([], [], false) ∧ i_watchAll p m cs = some (none, false) ∧ (sigOk p = true → machOk p m = true → clausesOk p cs = true → 2 < cs.length ∨ 16 < m.Next.length)) ∨
    ∃ n k D K w, AK p m cs n k D K w ∧ s_l30All p m cs = some (w.next, w.pairs, true) ∧ i_watchAll p m cs = some (some w, true) := by
  unfold s_l30All i_watchAll
  rw [i_isSig_eq, Option.bind_some]
  rcases Product_same p hb with ⟨h1, h2, h3⟩ | ⟨hs, hc, n, D, hn, hn16, hP, hd, hl, h1, h2⟩
  · left
    rw [h1, h2]
    cases hs : sigOk p with
    | false => exact ⟨rfl, rfl, fun h => by cases h⟩
    | true =>
      rw [i_isMachine_eq hs]
      cases machOk p m <;> exact ⟨rfl, rfl, fun _ _ hc => .inl (h3 hs hc)⟩
  · have hbd : ∀ x ∈ D.Pairs, x.Ask.length ≤ 1000000000 ∧ x.Give.length ≤ 1000000000 := fun x hx => by
      obtain ⟨d1, d2, _, _⟩ := detOk_spec hd
      have hD := hd
      unfold detOk at hD
      simp only [Bool.and_eq_true] at hD
      have hp := hD.1.2
      unfold pairsOk at hp
      rw [Bool.and_eq_true, List.all_eq_true] at hp
      have := hp.2 x hx
      unfold pairOk at this
      rw [Bool.and_eq_true] at this
      have a1 := (St.of this.1).len
      have a2 := (St.of this.2).len
      omega
    rw [h1, h2, hs, i_isMachine_eq hs]
    simp only [Bool.not_true, cond_false, Option.bind_some]
    unfold s_WatchOf
    rw [s_MachineOk_eq, hs, Bool.true_and, s_DetOk_eqD hs hbd, hd]
    cases hm : machOk p m with
    | false => exact .inl ⟨rfl, rfl, fun _ h => by cases h⟩
    | true =>
      have hpw := pw_le p.In
      obtain ⟨k, hk⟩ := ex_nat (z := pw p.In) (by omega)
      simp only [Bool.not_true, cond_false, Option.bind_some]
      rcases watchOf_same2 hs hm hd hk with ⟨w1, w2, w3⟩ | ⟨gr, w, K, w1, w2, w3, w4, _, w6⟩
      · left
        rw [w1, w2]
        refine ⟨rfl, rfl, fun _ _ _ => ?_⟩
        have z1 := hP.size
        by_cases hc2 : 2 < cs.length
        · exact .inl hc2
        · right
          have z3 : 4 ^ cs.length ≤ 4 ^ 2 := Nat.pow_le_pow_right (by omega) (by omega)
          by_cases hm16 : 16 < m.Next.length
          · exact hm16
          · exfalso
            have : m.Next.length * D.Next.length ≤ 16 * 16 := Nat.mul_le_mul (by omega) (by omega)
            omega
      · right
        refine ⟨n, k, D, K, w, ⟨hs, hm, hc, hn, hk, hP, hd, hl, w6⟩, ?_, ?_⟩
        · rw [w1]
          simp only [Option.bind_some, Bool.not_true, cond_false, w3, aft_inr, w4]
        · rw [w2]; rfl
theorem BreaksIn_s (p : Sig) (m : Machine) {cs : List Clause} {n k : Nat} {D : Det} {K : List Key} {w : watch} (h : AK p m cs n k D K w) (h1 : s_l30All p m cs = some (w.next, w.pairs, true)) : s_BreaksIn p m cs = some (brkN w.next w.pairs w.pairs.length) := by
  obtain ⟨q, hq⟩ := s_breaks h.gn h.ps.2.2 h.ps.2.1
  unfold s_BreaksIn
  rw [h1, Option.bind_some, hq, Option.bind_some, aft_inr]
theorem BreaksIn_s0 (p : Sig) (m : Machine) {cs : List Clause} (h1 : s_l30All p m cs = some ([], [], false)) : s_BreaksIn p m cs = some [] := by
  unfold s_BreaksIn
  rw [h1, Option.bind_some]
  have : whileM (s_BreaksIn_b0 ([], [], false)) (2 ^ 64) ([], 0) = some (.inr ([], 0)) := by
    show Option.bind (s_BreaksIn_b0 ([], [], false) ([], 0)) _ = _
    rfl
  rw [this]; rfl
end Go.Proofs.YtcmamhmpoinmnaaGreat
set_option linter.unusedVariables false
set_option linter.unusedSimpArgs false
namespace Go.Proofs.YtcmamhmpoinmnaaGreat
open Go Go.Wk Go.Proofs
def Eg (N : List (List Int)) (v i x : Int) : Prop := ∃ row, idx N v = some row ∧ idx row i = some x
theorem Eg.uniq {N : List (List Int)} {v i x y : Int} : Eg N v i x → Eg N v i y → x = y := fun ⟨r, h1, h2⟩ ⟨r', h3, h4⟩ => by
  rw [h1] at h3; cases h3
  rw [h2] at h4; cases h4
  rfl
def Way (N : List (List Int)) (M : List Bool) : Int → List Int → Int → Prop
  | v, [], u => u = v
  | v, i :: w, u => ∃ x, Eg N v i x ∧ In M x ∧ Way N M x w u
theorem Way.snoc {N : List (List Int)} {M : List Bool} : ∀ {w : List Int} {v u i x : Int}, Way N M v w u → Eg N u i x → In M x → Way N M v (w ++ [i]) x
  | [], v, u, i, x, h, e, hx => by
    have h : u = v := h
    subst h
    exact ⟨x, e, hx, rfl⟩
  | j :: w, v, u, i, x, ⟨y, h1, h2, h3⟩, e, hx => ⟨y, h1, h2, h3.snoc e hx⟩
theorem Way.uniq {N : List (List Int)} {M : List Bool} : ∀ {w : List Int} {v u u' : Int}, Way N M v w u → Way N M v w u' → u = u'
  | [], v, u, u', h, h' => by
    have h : u = v := h
    have h' : u' = v := h'
    rw [h, h']
  | j :: w, v, u, u', ⟨y, h1, h2, h3⟩, ⟨y', h1', h2', h3'⟩ => by
    have := h1.uniq h1'
    subst this
    exact h3.uniq h3'
def lexL : List Int → List Int → Prop
  | a :: s, b :: t => a < b ∨ (a = b ∧ lexL s t)
  | _, _ => False
theorem lexL.trans : ∀ {a b c : List Int}, lexL a b → lexL b c → lexL a c
  | [], _, _, h, _ => by cases ‹List Int› <;> exact h.elim
  | _ :: _, [], _, h, _ => h.elim
  | _ :: _, _ :: _, [], _, h => h.elim
  | x :: a, y :: b, z :: c, h, h' => by
    rcases h with h | ⟨h, k⟩
    · rcases h' with h' | ⟨h', k'⟩
      · exact .inl (by omega)
      · exact .inl (by omega)
    · rcases h' with h' | ⟨h', k'⟩
      · exact .inl (by omega)
      · exact .inr ⟨by omega, k.trans k'⟩
theorem lexL.irr : ∀ {a : List Int}, ¬ lexL a a
  | [], h => h
  | x :: a, h => by
    rcases h with h | ⟨_, k⟩
    · omega
    · exact k.irr
theorem lexL.app {x y : Int} : ∀ {a b : List Int}, lexL a b → lexL (a ++ [x]) (b ++ [y])
  | [], b, h => by cases b <;> exact h.elim
  | _ :: _, [], h => h.elim
  | p :: a, q :: b, h => by
    rcases h with h | ⟨h, k⟩
    · exact .inl h
    · exact .inr ⟨h, k.app⟩
theorem lexL.last {i j : Int} (h : i < j) : ∀ a : List Int, lexL (a ++ [i]) (a ++ [j])
  | [] => .inl h
  | p :: a => .inr ⟨rfl, lexL.last h a⟩
def slt (a b : List Int) : Prop := a.length < b.length ∨ (a.length = b.length ∧ lexL a b)
def sle (a b : List Int) : Prop := a = b ∨ slt a b
theorem slt.trans {a b c : List Int} (h : slt a b) (h' : slt b c) : slt a c := by
  rcases h with h | ⟨h, k⟩
  · rcases h' with h' | ⟨h', k'⟩
    · exact .inl (by omega)
    · exact .inl (by omega)
  · rcases h' with h' | ⟨h', k'⟩
    · exact .inl (by omega)
    · exact .inr ⟨by omega, k.trans k'⟩
theorem slt.irr {a : List Int} (h : slt a a) : False := by
  rcases h with h | ⟨h, k⟩
  · omega
  · exact k.irr
theorem slt.app {a b : List Int} {x y : Int} (h : slt a b) : slt (a ++ [x]) (b ++ [y]) := by
  rcases h with h | ⟨h, k⟩
  · exact .inl (by simp only [List.length_append, List.length_cons, List.length_nil]; omega)
  · exact .inr ⟨by simp [h], k.app⟩
theorem slt.last {i j : Int} (h : i < j) (a : List Int) : slt (a ++ [i]) (a ++ [j]) := .inr ⟨by simp, lexL.last h a⟩
theorem sle.trans {a b c : List Int} (h : sle a b) (h' : sle b c) : sle a c := by
  rcases h with rfl | h
  · exact h'
  · rcases h' with rfl | h'
    · exact .inr h
    · exact .inr (h.trans h')
theorem sle.anti {a b : List Int} (h : sle a b) (h' : sle b a) : a = b := by
  rcases h with rfl | h
  · rfl
  · rcases h' with rfl | h'
    · rfl
    · exact (h.trans h').irr.elim
theorem sle.slt {a b c : List Int} (h : sle a b) (h' : slt b c) : slt a c := by
  rcases h with rfl | h
  · exact h'
  · exact h.trans h'
theorem sle.app {a b : List Int} (x : Int) (h : sle a b) : sle (a ++ [x]) (b ++ [x]) := by
  rcases h with rfl | h
  · exact .inl rfl
  · exact .inr h.app
theorem sle.cons {a b : List Int} (x : Int) (h : sle a b) : sle (x :: a) (x :: b) := by
  rcases h with rfl | h | ⟨h, k⟩
  · exact .inl rfl
  · exact .inr (.inl (by simp only [List.length_cons]; omega))
  · exact .inr (.inr ⟨by simp only [List.length_cons, h], .inr ⟨rfl, k⟩⟩)
theorem sle_pre (a : List Int) : ∀ b : List Int, sle a (a ++ b)
  | [] => .inl (by simp)
  | x :: b => .inr (.inl (by simp only [List.length_append, List.length_cons]; omega))
def LeastW (N : List (List Int)) (M : List Bool) (v u : Int) (w : List Int) : Prop := w ≠ [] ∧ Way N M v w u ∧ ∀ w', w' ≠ [] → Way N M v w' u → sle w w'
theorem LeastW.uniq {N : List (List Int)} {M : List Bool} {v u : Int} {w w' : List Int} (h : LeastW N M v u w) (h' : LeastW N M v u w') : w = w' := (h.2.2 w' h'.1 h'.2.1).anti (h'.2.2 w h.1 h.2.1)
theorem Lv.way {N : List (List Int)} {M : List Bool} {s : Int} : ∀ {d : Nat} {k : Int}, Lv (scN N M) s d k → ∃ w : List Int, w.length = d ∧ Way N M k w s
  | 0, k, h => ⟨[], rfl, (show k = s from h).symm⟩
  | d + 1, k, ⟨u, h1, h2⟩ => by
    obtain ⟨w, w1, w2⟩ := Lv.way h2
    obtain ⟨_, hu, row, hr, hm⟩ := mem_scN.1 h1
    obtain ⟨i, hi⟩ := List.getElem?_of_mem hm
    exact ⟨(i : Int) :: w, by simp [w1], u, ⟨row, hr, by rw [idx_nat]; exact hi⟩, hu, w2⟩
theorem Way.lv {N : List (List Int)} {M : List Bool} {s : Int} : ∀ {w : List Int} {k : Int}, In M k → Way N M k w s → Lv (scN N M) s w.length k
  | [], k, _, h => (show s = k from h).symm
  | i :: w, k, hk, ⟨x, ⟨row, hr, hx⟩, hm, h⟩ => ⟨x, mem_scN.2 ⟨hk, hm, row, hr, by
    obtain ⟨i0, _, i2⟩ := idx_ok hx
    exact List.mem_of_getElem? i2⟩, Way.lv hm h⟩
theorem least_step {N : List (List Int)} {M : List Bool} {s v b x : Int} {e : Nat} {w : List Int} (hE : Eg N v b x) (hM : In M x) (hw : Way N M x w s) (hl : w.length = e) (hmin : ∀ t, Way N M x t s → sle w t)
    (h1 : ∀ j y e', Eg N v j y → In M y → Dm (scN N M) s y e' → e ≤ e') (h2 : ∀ j y e', j < b → Eg N v j y → In M y → Dm (scN N M) s y e' → e < e') : LeastW N M v s (b :: w) := by
  refine ⟨by simp, ⟨x, hE, hM, hw⟩, fun w' hne hw' => ?_⟩
  cases w' with
  | nil => exact absurd rfl hne
  | cons j t =>
    obtain ⟨y, k1, k2, k3⟩ := hw'
    obtain ⟨e', he', hd⟩ := (Way.lv k2 k3).min
    have a1 := h1 j y e' k1 k2 hd
    by_cases hlt : e < t.length
    · exact .inr (.inl (by simp only [List.length_cons]; omega))
    · have ee : t.length = e := by omega
      have e2 : e' = e := by omega
      subst e2
      by_cases hj : j < b
      · have := h2 j y e' hj k1 k2 hd
        omega
      · by_cases hj' : b < j
        · exact .inr (.inr ⟨by simp only [List.length_cons]; omega, .inl hj'⟩)
        · have : j = b := by omega
          subst this
          have := k1.uniq hE
          subst this
          exact (hmin t k3).cons j
end Go.Proofs.YtcmamhmpoinmnaaGreat
